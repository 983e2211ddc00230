/- WhereIs of queues -/
import Derived.Test.YtohoggoggchaeaaGoodQueue
namespace Go.Proofs.Ytohoggoggchaeaa
open Go.ChangeShapes Go.WideShapes Go.ChangeAt Go.RowKit

set_option maxHeartbeats 400000 in
theorem s_l1Has {ao : Option Addr} {n c lo hi : Nat} {zs : List (Int)} {v : Int} {w : World} (h : Sl w lo hi 1 ao n c (zs.map cI)) :
    Calls Try.prog 46 #[.slice ao n c, .int .i64 v] w fun e w' => e = .returned (.bool (decide (v ∈ zs))) ∧ Qt w w' := by
  have hlen : Hid (zs.length = n) := h.length
  have hle := h.le
  have hmx := h.max
  go_enter Try.func46, Try.ntmps46
  go_wp2
  go_loopw [9] (fun i wr => ∃ j : Nat, j ≤ n ∧ i = .int .i64 j ∧ Qt w wr ∧ v ∉ zs.take j) (fun i _ => n - (intOf i).toNat)
  case atStart => exact ⟨0, Nat.zero_le _, rfl, Qt.refl _, by simp⟩
  case round =>
    obtain ⟨j, hj, rfl, hm, hv⟩ := hrel
    have hh := hm.heap
    have hE := h.keep (w' := wr) (fun b _ _ => by rw [hh])
    clear hh
    have HV := hid hv
    clear hv
    by_cases hlt : j < n
    · obtain ⟨b, off, z, rfl, hb1, hb2, hz, hcell⟩ := hE.at hlt
      by_cases hvz : v = z
      · subst hvz
        go_wp2
        go_ret
        exact ⟨ret_bool (by have := List.mem_of_getElem? hz.out; simp [this]), hm⟩
      · have hvb : (z == v) = false := by simpa using fun e => hvz e.symm
        go_wp2
        go_roundw
        case rel => exact ⟨j + 1, by omega, by go_num, hm, by rw [take_succ_of hz.out, List.mem_append, List.mem_singleton]; exact fun h => h.elim HV.out hvz⟩
        case measure => simp [intOf]; omega
    · go_wp2
      go_ret
      obtain rfl : j = n := by omega
      have hv := HV.out
      rw [List.take_of_length_le (Nat.le_of_eq hlen.out)] at hv
      exact ⟨ret_bool (by simp [hv]), hm⟩

def whOk (x0 x1 x2 : Int) (zs3 zs4 zs5 : List Int) (no : Int) : Bool := gq x0 x1 x2 zs3 zs4 zs5 && inB no 0 (x2 - 1)
def whV (x0 x1 x2 : Int) (zs3 zs4 zs5 : List Int) (no : Int) : Int := if whOk x0 x1 x2 zs3 zs4 zs5 no = true then (if no ∈ zs3 then 1 else if no ∈ zs4 then 2 else 3) else 0
theorem gq_bd {x0 x1 x2 : Int} {zs3 zs4 zs5 : List Int} (h : gq x0 x1 x2 zs3 zs4 zs5 = true) : 0 ≤ x2 ∧ x2 ≤ 100 := by
  simp only [gq, inB, Bool.and_eq_true, decide_eq_true_eq] at h
  omega

set_option maxHeartbeats 1600000 in
set_option maxRecDepth 20000 in
theorem i_WhereIs {x0 x1 x2 : Int} {zs3 zs4 zs5 : List Int} {ao3 ao4 ao5 : Option Addr} {n3 n4 n5 c3 c4 c5 lo hi : Nat} {w : World} (h3 : Sl w lo hi 1 ao3 n3 c3 (zs3.map cI)) (h4 : Sl w lo hi 1 ao4 n4 c4 (zs4.map cI)) (h5 : Sl w lo hi 1 ao5 n5 c5 (zs5.map cI)) (hhi : hi ≤ w.heap.size)
    (b3 : n3 ≤ 1048576) (b4 : n4 ≤ 1048576) (b5 : n5 ≤ 1048576) (no : Int) (hno : -9223372036854775808 ≤ no ∧ no ≤ 9223372036854775807) :
    Calls Try.prog 20 #[.agg #[.int .i64 x0, .int .i64 x1, .int .i64 x2, .slice ao3 n3 c3, .slice ao4 n4 c4, .slice ao5 n5 c5], .int .i64 no] w fun e w' => e = .returned (.tuple #[.int .i64 (whV x0 x1 x2 zs3 zs4 zs5 no), .bool (whOk x0 x1 x2 zs3 zs4 zs5 no)]) ∧ Chg [] w w' := by
  have H0 : ∀ A : Obj, Chg [] w (w.alloc A) := fun A => (Chg.refl _ _).alloc A
  generalize hG : gq x0 x1 x2 zs3 zs4 zs5 = G
  generalize hV : whV x0 x1 x2 zs3 zs4 zs5 no = V
  generalize hO : whOk x0 x1 x2 zs3 zs4 zs5 no = O
  have HV := hid hV
  have HO := hid hO
  have HG := hid hG
  clear hV hO hG
  go_enter Try.func20, Try.ntmps20
  go_wp2_with fail
  refine (i_GoodQueue (h3.ext (H0 _) hhi) (h4.ext (H0 _) hhi) (h5.ext (H0 _) hhi) (by have := (H0 (.cells #[.int .i64 x0, .int .i64 x1, .int .i64 x2, .slice ao3 n3 c3, .slice ao4 n4 c4, .slice ao5 n5 c5] 28)).size; omega) b3 b4 b5).mono ?_
  rintro e w1 ⟨rfl, k1⟩
  have H1 := (H0 _).trans k1
  have B1 := (k1.at (k := w.heap.size) (by simp) (by simp)).1
  have Z1 : w.heap.size < w1.heap.size := by have := k1.size; simp at this; omega
  rw [HG.out]
  cases hG : G
  · go_wp2
    go_ret2
    have h := HG.out
    exact ⟨by rw [← HV.out, ← HO.out]; simp [whV, whOk, h, hG], H1⟩
  have hb := gq_bd (HG.out.trans hG)
  go_wp2_with fail
  refine (i_within (x := inB no 0 (x2 - 1)) rfl).mono ?_
  rintro e w' ⟨rfl, rfl⟩
  cases g1 : inB no 0 (x2 - 1)
  · go_wp2
    go_ret2
    have h := HG.out
    exact ⟨by rw [← HV.out, ← HO.out]; simp [whV, whOk, g1], H1⟩
  have hO2 : Hid (O = true) := by
    show O = true
    rw [← HO.out]
    simp [whOk, g1, HG.out, hG]
  have hV2 : Hid (V = if no ∈ zs3 then 1 else if no ∈ zs4 then 2 else 3) := by
    show V = _
    rw [← HV.out, whV, if_pos (HO.out.trans hO2.out)]
  have G1 := hid g1
  clear g1
  go_wp2_with fail
  refine (containsInts (h3.ext H1 hhi)).mono ?_
  rintro e w2 ⟨rfl, q2⟩
  have k2 := q2.chg []
  have H2 := H1.trans k2
  have B2 := (k2.at (k := w.heap.size) (by omega) (by simp)).1
  have Z2 : w.heap.size < w2.heap.size := by have := k2.size; omega
  by_cases m3 : no ∈ zs3
  · go_wp2
    go_ret2
    exact ⟨by rw [hV2.out, hO2.out]; simp [m3], H2⟩
  go_wp2_with fail
  refine (containsInts (h4.ext H2 hhi)).mono ?_
  rintro e w3 ⟨rfl, q3⟩
  have H3 := H2.trans (q3.chg [])
  by_cases m4 : no ∈ zs4
  · go_wp2
    go_ret2
    exact ⟨by rw [hV2.out, hO2.out]; simp [m3, m4], H3⟩
  go_wp2
  go_ret2
  exact ⟨by rw [hV2.out, hO2.out]; simp [m3, m4], H3⟩

set_option maxHeartbeats 1600000 in
set_option maxRecDepth 20000 in
theorem s_WhereIs {x0 x1 x2 : Int} {zs3 zs4 zs5 : List Int} {ao3 ao4 ao5 : Option Addr} {n3 n4 n5 c3 c4 c5 lo hi : Nat} {w : World} (h3 : Sl w lo hi 1 ao3 n3 c3 (zs3.map cI)) (h4 : Sl w lo hi 1 ao4 n4 c4 (zs4.map cI)) (h5 : Sl w lo hi 1 ao5 n5 c5 (zs5.map cI)) (hhi : hi ≤ w.heap.size)
    (b3 : n3 ≤ 1048576) (b4 : n4 ≤ 1048576) (b5 : n5 ≤ 1048576) (no : Int) (hno : -9223372036854775808 ≤ no ∧ no ≤ 9223372036854775807) :
    Calls Try.prog 19 #[.agg #[.int .i64 x0, .int .i64 x1, .int .i64 x2, .slice ao3 n3 c3, .slice ao4 n4 c4, .slice ao5 n5 c5], .int .i64 no] w fun e w' => e = .returned (.tuple #[.int .i64 (whV x0 x1 x2 zs3 zs4 zs5 no), .bool (whOk x0 x1 x2 zs3 zs4 zs5 no)]) ∧ Chg [] w w' := by
  have H0 : ∀ A : Obj, Chg [] w (w.alloc A) := fun A => (Chg.refl _ _).alloc A
  generalize hG : gq x0 x1 x2 zs3 zs4 zs5 = G
  generalize hV : whV x0 x1 x2 zs3 zs4 zs5 no = V
  generalize hO : whOk x0 x1 x2 zs3 zs4 zs5 no = O
  have HV := hid hV
  have HO := hid hO
  have HG := hid hG
  clear hV hO hG
  go_enter Try.func19, Try.ntmps19
  go_wp2_with fail
  refine (s_GoodQueue (h3.ext (H0 _) hhi) (h4.ext (H0 _) hhi) (h5.ext (H0 _) hhi) (by have := (H0 (.cells #[.int .i64 x0, .int .i64 x1, .int .i64 x2, .slice ao3 n3 c3, .slice ao4 n4 c4, .slice ao5 n5 c5] 28)).size; omega) b3 b4 b5).mono ?_
  rintro e w1 ⟨rfl, k1⟩
  have H1 := (H0 _).trans k1
  have B1 := (k1.at (k := w.heap.size) (by simp) (by simp)).1
  have Z1 : w.heap.size < w1.heap.size := by have := k1.size; simp at this; omega
  rw [HG.out]
  cases hG : G
  · go_wp2
    go_ret2
    have h := HG.out
    exact ⟨by rw [← HV.out, ← HO.out]; simp [whV, whOk, h, hG], H1⟩
  have hb := gq_bd (HG.out.trans hG)
  by_cases e1 : no < 0
  · have g1 : inB no 0 (x2 - 1) = false := by simp [inB]; omega
    have G1 := hid g1
    clear g1
    go_wp2
    go_ret2
    have g1 := G1.out
    exact ⟨by rw [← HV.out, ← HO.out]; simp [whV, whOk, g1], H1⟩
  by_cases e2 : x2 ≤ no
  · have g1 : inB no 0 (x2 - 1) = false := by simp [inB]; omega
    have G1 := hid g1
    clear g1
    go_wp2
    go_ret2
    have g1 := G1.out
    exact ⟨by rw [← HV.out, ← HO.out]; simp [whV, whOk, g1], H1⟩
  have g1 : inB no 0 (x2 - 1) = true := by simp [inB]; omega
  have hO2 : Hid (O = true) := by
    show O = true
    rw [← HO.out]
    simp [whOk, g1, HG.out, hG]
  have hV2 : Hid (V = if no ∈ zs3 then 1 else if no ∈ zs4 then 2 else 3) := by
    show V = _
    rw [← HV.out, whV, if_pos (HO.out.trans hO2.out)]
  have G1 := hid g1
  clear g1
  go_wp2_with fail
  refine (s_l1Has (h3.ext H1 hhi)).mono ?_
  rintro e w2 ⟨rfl, q2⟩
  have k2 := q2.chg []
  have H2 := H1.trans k2
  have B2 := (k2.at (k := w.heap.size) (by omega) (by simp)).1
  have Z2 : w.heap.size < w2.heap.size := by have := k2.size; omega
  by_cases m3 : no ∈ zs3
  · go_wp2
    go_ret2
    exact ⟨by rw [hV2.out, hO2.out]; simp [m3], H2⟩
  go_wp2_with fail
  refine (s_l1Has (h4.ext H2 hhi)).mono ?_
  rintro e w3 ⟨rfl, q3⟩
  have H3 := H2.trans (q3.chg [])
  by_cases m4 : no ∈ zs4
  · go_wp2
    go_ret2
    exact ⟨by rw [hV2.out, hO2.out]; simp [m3, m4], H3⟩
  go_wp2
  go_ret2
  exact ⟨by rw [hV2.out, hO2.out]; simp [m3, m4], H3⟩

end Go.Proofs.Ytohoggoggchaeaa
