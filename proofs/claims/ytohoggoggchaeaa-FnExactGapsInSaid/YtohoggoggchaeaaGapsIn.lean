/- GapsIn of queues -/
import Derived.Test.YtohoggoggchaeaaGoodQueue
namespace Go.Proofs.Ytohoggoggchaeaa
open Go.ChangeShapes Go.WideShapes Go.ChangeAt Go.RowKit

theorem scan_bd {m : Nat} : ∀ {l : List Int} {sn sn' : List Bool} {p : Option Int}, scan m sn p l = some sn' → ∀ z ∈ l, 0 ≤ z ∧ z < m
  | [], _, _, _, _ => by simp
  | n :: t, sn, sn', p, h => by
    rw [scan] at h
    by_cases hb : badNo m sn p n = true
    · rw [if_pos hb] at h; cases h
    · rw [if_neg hb] at h
      have ih := scan_bd h
      have hb' : badNo m sn p n = false := by simpa using hb
      simp only [badNo, Bool.or_eq_false_iff, decide_eq_false_iff_not] at hb'
      obtain ⟨⟨⟨h1, h2⟩, h3⟩, _⟩ := hb'
      intro z hz
      rcases List.mem_cons.1 hz with rfl | hz
      · omega
      · exact ih z hz
theorem scans_bd {m : Nat} : ∀ {L : List (List Int)} {sn sn' : List Bool}, scans m sn L = some sn' → ∀ l ∈ L, ∀ z ∈ l, 0 ≤ z ∧ z < m
  | [], _, _, _ => by simp
  | l :: r, sn, sn', h => by
    rw [scans] at h
    obtain ⟨s, h1, h2⟩ := Option.bind_eq_some_iff.1 h
    intro l' hl'
    rcases List.mem_cons.1 hl' with rfl | hl'
    · exact scan_bd h1
    · exact scans_bd h2 l' hl'
theorem gq_el {x0 x1 x2 : Int} {zs3 zs4 zs5 : List Int} (h : gq x0 x1 x2 zs3 zs4 zs5 = true) : ∀ l ∈ [zs3, zs4, zs5], ∀ z ∈ l, 0 ≤ z ∧ z < 100 := by
  simp only [gq, inB, Bool.and_eq_true, decide_eq_true_eq] at h
  obtain ⟨⟨⟨⟨⟨_, _⟩, hx⟩, _⟩, _⟩, hs⟩ := h
  obtain ⟨s, hs⟩ := Option.isSome_iff_exists.1 hs
  intro l hl z hz
  have := scans_bd hs l hl z hz
  omega

def gapV (x0 x1 x2 : Int) (zs3 zs4 zs5 : List Int) : Int := if gq x0 x1 x2 zs3 zs4 zs5 = true then (match zs4[zs4.length - 1]? with | some z => z + 1 - zs4.length | none => 0) else 0

set_option maxHeartbeats 1600000 in
set_option maxRecDepth 20000 in
theorem i_GapsIn {x0 x1 x2 : Int} {zs3 zs4 zs5 : List Int} {ao3 ao4 ao5 : Option Addr} {n3 n4 n5 c3 c4 c5 lo hi : Nat} {w : World} (h3 : Sl w lo hi 1 ao3 n3 c3 (zs3.map cI)) (h4 : Sl w lo hi 1 ao4 n4 c4 (zs4.map cI)) (h5 : Sl w lo hi 1 ao5 n5 c5 (zs5.map cI)) (hhi : hi ≤ w.heap.size)
    (b3 : n3 ≤ 1048576) (b4 : n4 ≤ 1048576) (b5 : n5 ≤ 1048576) :
    Calls Try.prog 12 #[.agg #[.int .i64 x0, .int .i64 x1, .int .i64 x2, .slice ao3 n3 c3, .slice ao4 n4 c4, .slice ao5 n5 c5]] w fun e w' => e = .returned (.tuple #[.int .i64 (gapV x0 x1 x2 zs3 zs4 zs5), .bool (gq x0 x1 x2 zs3 zs4 zs5)]) ∧ Chg [] w w' := by
  have H0 : ∀ A : Obj, Chg [] w (w.alloc A) := fun A => (Chg.refl _ _).alloc A
  have e4 : Hid (zs4.length = n4) := h4.length
  generalize hG : gq x0 x1 x2 zs3 zs4 zs5 = G
  generalize hV : gapV x0 x1 x2 zs3 zs4 zs5 = V
  have HV := hid hV
  have HG := hid hG
  clear hV hG
  go_enter Try.func12, Try.ntmps12
  go_wp2_with fail
  refine (i_GoodQueue (h3.ext (H0 _) hhi) (h4.ext (H0 _) hhi) (h5.ext (H0 _) hhi) (by have := (H0 (.cells #[.int .i64 x0, .int .i64 x1, .int .i64 x2, .slice ao3 n3 c3, .slice ao4 n4 c4, .slice ao5 n5 c5] 28)).size; omega) b3 b4 b5).mono ?_
  rintro e w1 ⟨rfl, k1⟩
  have H1 := (H0 _).trans k1
  have B1 := (k1.at (k := w.heap.size) (by simp) (by simp)).1
  have Z1 : w.heap.size < w1.heap.size := by have := k1.size; simp at this; omega
  rw [HG.out]
  cases hG : G
  · go_wp2
    go_ret2
    have h := HG.out
    exact ⟨by rw [← HV.out]; simp [gapV, h, hG], H1⟩
  have hG1 := HG.out.trans hG
  cases n4 with
  | zero =>
    go_wp2
    go_ret2
    have h := e4.out
    exact ⟨by rw [← HV.out]; simp [gapV, hG1, hG, List.eq_nil_of_length_eq_zero h], H1⟩
  | succ k =>
    obtain ⟨b, off, z, rfl, hb1, hb2, hz, hcell⟩ := (h4.ext H1 hhi).at (j := k) (by omega)
    have hzb := gq_el hG1 zs4 (by simp) z (List.mem_of_getElem? hz.out)
    have HG1 := hid hG1
    clear hG1
    go_wp2
    go_quiet (fail)
    go_wp2
    go_ret2
    have h := e4.out
    exact ⟨by rw [← HV.out]; obtain ⟨hk, hz3⟩ := List.getElem?_eq_some_iff.1 hz.out; simp [gapV, HG1.out, hG, h, hz3], by first | exact H1 | exact H1.qt ((Qt.refl _).drewN _)⟩

set_option maxHeartbeats 1600000 in
set_option maxRecDepth 20000 in
theorem s_GapsIn {x0 x1 x2 : Int} {zs3 zs4 zs5 : List Int} {ao3 ao4 ao5 : Option Addr} {n3 n4 n5 c3 c4 c5 lo hi : Nat} {w : World} (h3 : Sl w lo hi 1 ao3 n3 c3 (zs3.map cI)) (h4 : Sl w lo hi 1 ao4 n4 c4 (zs4.map cI)) (h5 : Sl w lo hi 1 ao5 n5 c5 (zs5.map cI)) (hhi : hi ≤ w.heap.size)
    (b3 : n3 ≤ 1048576) (b4 : n4 ≤ 1048576) (b5 : n5 ≤ 1048576) :
    Calls Try.prog 10 #[.agg #[.int .i64 x0, .int .i64 x1, .int .i64 x2, .slice ao3 n3 c3, .slice ao4 n4 c4, .slice ao5 n5 c5]] w fun e w' => e = .returned (.tuple #[.int .i64 (gapV x0 x1 x2 zs3 zs4 zs5), .bool (gq x0 x1 x2 zs3 zs4 zs5)]) ∧ Chg [] w w' := by
  have H0 : ∀ A : Obj, Chg [] w (w.alloc A) := fun A => (Chg.refl _ _).alloc A
  have e4 : Hid (zs4.length = n4) := h4.length
  generalize hG : gq x0 x1 x2 zs3 zs4 zs5 = G
  generalize hV : gapV x0 x1 x2 zs3 zs4 zs5 = V
  have HV := hid hV
  have HG := hid hG
  clear hV hG
  go_enter Try.func10, Try.ntmps10
  go_wp2_with fail
  refine (s_GoodQueue (h3.ext (H0 _) hhi) (h4.ext (H0 _) hhi) (h5.ext (H0 _) hhi) (by have := (H0 (.cells #[.int .i64 x0, .int .i64 x1, .int .i64 x2, .slice ao3 n3 c3, .slice ao4 n4 c4, .slice ao5 n5 c5] 28)).size; omega) b3 b4 b5).mono ?_
  rintro e w1 ⟨rfl, k1⟩
  have H1 := (H0 _).trans k1
  have B1 := (k1.at (k := w.heap.size) (by simp) (by simp)).1
  have Z1 : w.heap.size < w1.heap.size := by have := k1.size; simp at this; omega
  rw [HG.out]
  cases hG : G
  · go_wp2
    go_ret2
    have h := HG.out
    exact ⟨by rw [← HV.out]; simp [gapV, h, hG], H1⟩
  have hG1 := HG.out.trans hG
  cases n4 with
  | zero =>
    go_wp2
    go_ret2
    have h := e4.out
    exact ⟨by rw [← HV.out]; simp [gapV, hG1, hG, List.eq_nil_of_length_eq_zero h], H1⟩
  | succ k =>
    obtain ⟨b, off, z, rfl, hb1, hb2, hz, hcell⟩ := (h4.ext H1 hhi).at (j := k) (by omega)
    have hzb := gq_el hG1 zs4 (by simp) z (List.mem_of_getElem? hz.out)
    have HG1 := hid hG1
    clear hG1
    go_wp2
    skip
    skip
    go_ret2
    have h := e4.out
    exact ⟨by rw [← HV.out]; obtain ⟨hk, hz3⟩ := List.getElem?_eq_some_iff.1 hz.out; simp [gapV, HG1.out, hG, h, hz3], by first | exact H1 | exact H1.qt ((Qt.refl _).drewN _)⟩

end Go.Proofs.Ytohoggoggchaeaa
