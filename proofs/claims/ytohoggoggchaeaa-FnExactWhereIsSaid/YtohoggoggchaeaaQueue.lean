/- Contracts of laws.eqQueue, markQueue, heldQueue, toQueue, szQueue; written by gen_struct.py -/
import Derived.Test.YtohoggoggchaeaaInts
import Derived.Test.YtohoggoggchaeaaOpen
namespace Go.Proofs.Ytohoggoggchaeaa
open Go.ChangeShapes Go.WideShapes Go.ChangeAt Go.RowKit

set_option maxHeartbeats 400000 in
theorem eqQueue {x0 : Int} {x1 : Int} {x2 : Int} {n3 : Nat} {zs3 : List (Int)} {n4 : Nat} {zs4 : List (Int)} {n5 : Nat} {zs5 : List (Int)} {ao3 : Option Addr} {c3 : Nat} {ao4 : Option Addr} {c4 : Nat} {ao5 : Option Addr} {c5 : Nat} {ao3' : Option Addr} {c3' : Nat} {ao4' : Option Addr} {c4' : Nat} {ao5' : Option Addr} {c5' : Nat} {lo hi lo2 hi2 : Nat} {w : World} (h3 : Sl w lo hi 1 ao3 n3 c3 (zs3.map cI)) (g3 : Sl w lo2 hi2 1 ao3' n3 c3' (zs3.map cI)) (h4 : Sl w lo hi 1 ao4 n4 c4 (zs4.map cI)) (g4 : Sl w lo2 hi2 1 ao4' n4 c4' (zs4.map cI)) (h5 : Sl w lo hi 1 ao5 n5 c5 (zs5.map cI)) (g5 : Sl w lo2 hi2 1 ao5' n5 c5' (zs5.map cI)) (hhi : hi ≤ w.heap.size) (hhi2 : hi2 ≤ w.heap.size) :
    Calls Try.prog 13 #[.agg #[.int .i64 x0, .int .i64 x1, .int .i64 x2, .slice ao3 n3 c3, .slice ao4 n4 c4, .slice ao5 n5 c5], .agg #[.int .i64 x0, .int .i64 x1, .int .i64 x2, .slice ao3' n3 c3', .slice ao4' n4 c4', .slice ao5' n5 c5']] w fun e w' => e = .returned (.bool true) ∧ Chg [] w w' := by
  have H0 : ∀ A B : Obj, Chg [] w ((w.alloc A).alloc B) := fun A B => ((Chg.refl _ _).alloc A).alloc B
  go_enter Try.func13, Try.ntmps13
  go_wp2_with fail
  refine (eqInts (h3.ext (H0 _ _) hhi) (g3.ext (H0 _ _) hhi2)).mono ?_
  rintro e w1 ⟨rfl, q1⟩
  have k1 := q1.chg []
  have C1 := k1.cells.1
  have H1 := (H0 _ _).trans k1
  have b1_0 : w.heap.size < w1.heap.size := by have := k1.size; simp at this; omega
  have b1_1 : w.heap.size + 1 < w1.heap.size := by have := k1.size; simp at this; omega
  go_wp2_with fail
  refine (eqInts (h4.ext H1 hhi) (g4.ext H1 hhi2)).mono ?_
  rintro e w2 ⟨rfl, q2⟩
  have k2 := q2.chg []
  have C2 := k2.cells.1
  have H2 := H1.trans k2
  have b2_0 : w.heap.size < w2.heap.size := by have := k2.size; (first | (simp only [World.size_setCell] at this; omega) | omega)
  have b2_1 : w.heap.size + 1 < w2.heap.size := by have := k2.size; (first | (simp only [World.size_setCell] at this; omega) | omega)
  go_wp2_with fail
  refine (eqInts (h5.ext H2 hhi) (g5.ext H2 hhi2)).mono ?_
  rintro e w3 ⟨rfl, q3⟩
  have k3 := q3.chg []
  have C3 := k3.cells.1
  have H3 := H2.trans k3
  have b3_0 : w.heap.size < w3.heap.size := by have := k3.size; (first | (simp only [World.size_setCell] at this; omega) | omega)
  have b3_1 : w.heap.size + 1 < w3.heap.size := by have := k3.size; (first | (simp only [World.size_setCell] at this; omega) | omega)
  go_wp2
  go_ret
  exact ⟨by simp, H3⟩

set_option maxHeartbeats 800000 in
theorem toQueue {x0 : Int} {x1 : Int} {x2 : Int} {n3 : Nat} {zs3 : List (Int)} {n4 : Nat} {zs4 : List (Int)} {n5 : Nat} {zs5 : List (Int)} {ao3 : Option Addr} {c3 : Nat} {ao4 : Option Addr} {c4 : Nat} {ao5 : Option Addr} {c5 : Nat} {lo hi : Nat} {w : World} (h3 : Sl w lo hi 1 ao3 n3 c3 (zs3.map cI)) (h4 : Sl w lo hi 1 ao4 n4 c4 (zs4.map cI)) (h5 : Sl w lo hi 1 ao5 n5 c5 (zs5.map cI)) (hhi : hi ≤ w.heap.size) (b3 : n3 ≤ 1048576) (b4 : n4 ≤ 1048576) (b5 : n5 ≤ 1048576) :
    Calls Try.prog 11 #[.agg #[.int .i64 x0, .int .i64 x1, .int .i64 x2, .slice ao3 n3 c3, .slice ao4 n4 c4, .slice ao5 n5 c5]] w fun e w' => ∃ ao3' c3' S3 ao4' c4' S4 ao5' c5' S5, e = .returned (.agg #[.int .i64 x0, .int .i64 x1, .int .i64 x2, .slice ao3' n3 c3', .slice ao4' n4 c4', .slice ao5' n5 c5']) ∧ Chg [] w w' ∧ Own w' 3 1 ao3' n3 c3' (zs3.map cI) S3 ∧ (∀ x ∈ S3, w.heap.size ≤ x) ∧ Own w' 3 1 ao4' n4 c4' (zs4.map cI) S4 ∧ (∀ x ∈ S4, w.heap.size ≤ x) ∧ Own w' 3 1 ao5' n5 c5' (zs5.map cI) S5 ∧ (∀ x ∈ S5, w.heap.size ≤ x) ∧ (∀ x ∈ S3, x ∉ S4) ∧ (∀ x ∈ S3, x ∉ S5) ∧ (∀ x ∈ S4, x ∉ S5) := by
  have H0 : ∀ A B C : Obj, Chg [] w (((w.alloc A).alloc B).alloc C) := fun A B C => (((Chg.refl _ _).alloc A).alloc B).alloc C
  have N0 : ∀ A B C : Obj, (((w.alloc A).alloc B).alloc C).heap.size = w.heap.size + 1 + 1 + 1 := fun A B C => by simp
  go_enter Try.func11, Try.ntmps11
  go_wp2_with fail
  refine (toInts (h3.ext (by (repeat (refine Chg.setCell ?_ (Or.inr (by dsimp only; omega)) _)); exact H0 _ _ _) hhi) (by rw [N0]; omega) b3).mono ?_
  rintro e w1 ⟨u3, e3, T3, rfl, k1, o3, m3⟩
  rw [N0] at m3
  obtain ⟨C1a, C1b⟩ := k1.cells
  have z1 : w.heap.size + 1 + 1 < w1.heap.size := by have := k1.size; rw [N0] at this; omega
  have H1 : Chg [] w w1 := by
    refine Chg.trans ?_ k1
    (repeat (refine Chg.setCell ?_ (Or.inr (by dsimp only; omega)) _))
    exact H0 _ _ _
  have l3 := o3.lt
  have b1_0 : w.heap.size < w1.heap.size := by have := k1.size; simp at this; omega
  have b1_1 : w.heap.size + 1 < w1.heap.size := by have := k1.size; simp at this; omega
  have b1_2 : w.heap.size + 1 + 1 < w1.heap.size := by have := k1.size; simp at this; omega
  go_wp2_with fail
  refine (toInts (h4.ext (by (repeat (refine Chg.setCell ?_ (Or.inr (by dsimp only; omega)) _)); exact H1) hhi) (by first | omega | (simp only [World.size_setCell]; omega)) b4).mono ?_
  rintro e w2 ⟨u4, e4, T4, rfl, k2, o4, m4⟩
  simp only [World.size_setCell] at m4
  obtain ⟨C2a, C2b⟩ := k2.cells
  have z2 : w1.heap.size ≤ w2.heap.size := by have := k2.size; simp only [World.size_setCell] at this; omega
  have H2 : Chg [] w w2 := by
    refine Chg.trans ?_ k2
    (repeat (refine Chg.setCell ?_ (Or.inr (by dsimp only; omega)) _))
    exact H1
  have l4 := o4.lt
  have b2_0 : w.heap.size < w2.heap.size := by have := k2.size; (first | (simp only [World.size_setCell] at this; omega) | omega)
  have b2_1 : w.heap.size + 1 < w2.heap.size := by have := k2.size; (first | (simp only [World.size_setCell] at this; omega) | omega)
  have b2_2 : w.heap.size + 1 + 1 < w2.heap.size := by have := k2.size; (first | (simp only [World.size_setCell] at this; omega) | omega)
  have o3 := o3
  replace o3 : Own w2 3 1 u3 n3 e3 (zs3.map cI) T3 := by
    refine Own.ext ?_ k2
    repeat (refine Own.setOther ?_ (fun hx => by have := m3 _ hx; dsimp only at this; omega) _)
    exact o3
  have D3_4 : ∀ x ∈ T3, x ∉ T4 := fun x h1 h2 => by have := l3 x h1; have := m4 x h2; omega
  replace m4 : ∀ x ∈ T4, w.heap.size + 1 + 1 + 1 ≤ x := fun x hx => by have := m4 x hx; omega
  go_wp2_with fail
  refine (toInts (h5.ext (by (repeat (refine Chg.setCell ?_ (Or.inr (by dsimp only; omega)) _)); exact H2) hhi) (by first | omega | (simp only [World.size_setCell]; omega)) b5).mono ?_
  rintro e w3 ⟨u5, e5, T5, rfl, k3, o5, m5⟩
  simp only [World.size_setCell] at m5
  obtain ⟨C3a, C3b⟩ := k3.cells
  have z3 : w2.heap.size ≤ w3.heap.size := by have := k3.size; simp only [World.size_setCell] at this; omega
  have H3 : Chg [] w w3 := by
    refine Chg.trans ?_ k3
    (repeat (refine Chg.setCell ?_ (Or.inr (by dsimp only; omega)) _))
    exact H2
  have l5 := o5.lt
  have b3_0 : w.heap.size < w3.heap.size := by have := k3.size; (first | (simp only [World.size_setCell] at this; omega) | omega)
  have b3_1 : w.heap.size + 1 < w3.heap.size := by have := k3.size; (first | (simp only [World.size_setCell] at this; omega) | omega)
  have b3_2 : w.heap.size + 1 + 1 < w3.heap.size := by have := k3.size; (first | (simp only [World.size_setCell] at this; omega) | omega)
  have o3 := o3
  replace o3 : Own w3 3 1 u3 n3 e3 (zs3.map cI) T3 := by
    refine Own.ext ?_ k3
    repeat (refine Own.setOther ?_ (fun hx => by have := m3 _ hx; dsimp only at this; omega) _)
    exact o3
  have D3_5 : ∀ x ∈ T3, x ∉ T5 := fun x h1 h2 => by have := l3 x h1; have := m5 x h2; omega
  have o4 := o4
  replace o4 : Own w3 3 1 u4 n4 e4 (zs4.map cI) T4 := by
    refine Own.ext ?_ k3
    repeat (refine Own.setOther ?_ (fun hx => by have := m4 _ hx; dsimp only at this; omega) _)
    exact o4
  have D4_5 : ∀ x ∈ T4, x ∉ T5 := fun x h1 h2 => by have := l4 x h1; have := m5 x h2; omega
  replace m5 : ∀ x ∈ T5, w.heap.size + 1 + 1 + 1 ≤ x := fun x hx => by have := m5 x hx; omega
  go_wp2
  refine bodyPost_ret (v := .agg #[.int .i64 x0, .int .i64 x1, .int .i64 x2, .slice u3 n3 e3, .slice u4 n4 e4, .slice u5 n5 e5]) (by simp [results, Try.results11, go_sem, C1a, C2a, C3a, b1_0, b1_1, b1_2, b2_0, b2_1, b2_2, b3_0, b3_1, b3_2]) rfl ⟨u3, e3, T3, u4, e4, T4, u5, e5, T5, rfl, (by (repeat (refine Chg.setCell ?_ (Or.inr (by dsimp only; omega)) _)); exact H3), (by (repeat (refine Own.setOther ?_ (fun hx => by have := m3 _ hx; dsimp only at this; omega) _)); exact o3), (fun x hx => by have := m3 x hx; omega), (by (repeat (refine Own.setOther ?_ (fun hx => by have := m4 _ hx; dsimp only at this; omega) _)); exact o4), (fun x hx => by have := m4 x hx; omega), (by (repeat (refine Own.setOther ?_ (fun hx => by have := m5 _ hx; dsimp only at this; omega) _)); exact o5), (fun x hx => by have := m5 x hx; omega), D3_4, D3_5, D4_5⟩

/-- A Queue whose slices are the call's own, in blocks from lo on, none shared. -/
def IsQueue (lo : Nat) (x0 : Int) (x1 : Int) (x2 : Int) (zs3 : List (Int)) (zs4 : List (Int)) (zs5 : List (Int)) (v : Value) (w : World) : Prop := ∃ ao3 n3 c3 S3 ao4 n4 c4 S4 ao5 n5 c5 S5, v = .agg #[.int .i64 x0, .int .i64 x1, .int .i64 x2, .slice ao3 n3 c3, .slice ao4 n4 c4, .slice ao5 n5 c5] ∧ Own w 3 1 ao3 n3 c3 (zs3.map cI) S3 ∧ (∀ x ∈ S3, lo ≤ x) ∧ Own w 3 1 ao4 n4 c4 (zs4.map cI) S4 ∧ (∀ x ∈ S4, lo ≤ x) ∧ Own w 3 1 ao5 n5 c5 (zs5.map cI) S5 ∧ (∀ x ∈ S5, lo ≤ x) ∧ (∀ x ∈ S3, x ∉ S4) ∧ (∀ x ∈ S3, x ∉ S5) ∧ (∀ x ∈ S4, x ∉ S5)
theorem IsQueue.keep {lo : Nat} {x0 : Int} {x1 : Int} {x2 : Int} {zs3 : List (Int)} {zs4 : List (Int)} {zs5 : List (Int)} : ∀ v w1 w2, IsQueue lo x0 x1 x2 zs3 zs4 zs5 v w1 → Chg [] w1 w2 → IsQueue lo x0 x1 x2 zs3 zs4 zs5 v w2 :=
  fun _ _ _ ⟨ao3, n3, c3, S3, ao4, n4, c4, S4, ao5, n5, c5, S5, hv, o3, m3, o4, m4, o5, m5, d3_4, d3_5, d4_5⟩ hc => ⟨ao3, n3, c3, S3, ao4, n4, c4, S4, ao5, n5, c5, S5, hv, o3.ext hc, m3, o4.ext hc, m4, o5.ext hc, m5, d3_4, d3_5, d4_5⟩

set_option maxHeartbeats 400000 in
theorem szQueue {x0 : Int} {x1 : Int} {x2 : Int} {n3 : Nat} {zs3 : List (Int)} {n4 : Nat} {zs4 : List (Int)} {n5 : Nat} {zs5 : List (Int)} {ao3 : Option Addr} {c3 : Nat} {ao4 : Option Addr} {c4 : Nat} {ao5 : Option Addr} {c5 : Nat} {k : Int} {w : World} (h3 : Sl w 0 w.heap.size 1 ao3 n3 c3 (zs3.map cI)) (h4 : Sl w 0 w.heap.size 1 ao4 n4 c4 (zs4.map cI)) (h5 : Sl w 0 w.heap.size 1 ao5 n5 c5 (zs5.map cI)) (hk : 0 ≤ k) (hk2 : k ≤ 1048576) :
    Calls Try.prog 9 #[.agg #[.int .i64 x0, .int .i64 x1, .int .i64 x2, .slice ao3 n3 c3, .slice ao4 n4 c4, .slice ao5 n5 c5], .int .i64 k] w fun e w' => ∃ r : Int, e = .returned (.int .i64 r) ∧ Chg [] w w' ∧ -1 ≤ r ∧ (0 ≤ r → r + n3 + n4 + n5 ≤ k) := by
  have H0 : ∀ A : Obj, Chg [] w (w.alloc A) := fun A => (Chg.refl _ _).alloc A
  have le3 := h3.le
  have mx3 := h3.max
  have le4 := h4.le
  have mx4 := h4.max
  have le5 := h5.le
  have mx5 := h5.max
  go_enter Try.func9, Try.ntmps9
  go_wp2_with fail
  refine (szInts ao3 n3 c3 k _ (by omega) (by omega) (by omega)).mono ?_
  rintro e w1 ⟨r1, rfl, q1, u1, v1⟩
  have k1 := q1.chg []
  have C1 := k1.cells.1
  have H1 := (H0 _).trans k1
  have b1_0 : w.heap.size < w1.heap.size := by have := k1.size; simp at this; omega
  by_cases d3 : r1 < 0
  · go_wp2
    go_ret
    exact ⟨_, rfl, H1, by omega, by omega⟩
  · go_wp2_with fail
    refine (szInts ao4 n4 c4 r1 _ (by omega) (by omega) (by omega)).mono ?_
    rintro e w2 ⟨r2, rfl, q2, u2, v2⟩
    have k2 := q2.chg []
    have C2 := k2.cells.1
    have H2 := H1.trans k2
    have b2_0 : w.heap.size < w2.heap.size := by have := k2.size; (first | (simp only [World.size_setCell] at this; omega) | omega)
    by_cases d4 : r2 < 0
    · go_wp2
      go_ret
      exact ⟨_, rfl, H2, by omega, by omega⟩
    · go_wp2_with fail
      refine (szInts ao5 n5 c5 r2 _ (by omega) (by omega) (by omega)).mono ?_
      rintro e w3 ⟨r3, rfl, q3, u3, v3⟩
      have k3 := q3.chg []
      have C3 := k3.cells.1
      have H3 := H2.trans k3
      have b3_0 : w.heap.size < w3.heap.size := by have := k3.size; (first | (simp only [World.size_setCell] at this; omega) | omega)
      by_cases d5 : r3 < 0
      · go_wp2
        go_ret
        exact ⟨_, rfl, H3, by omega, by omega⟩
      · go_wp2
        go_ret
        exact ⟨_, rfl, H3, by omega, by omega⟩

open Go.Deep in
set_option maxRecDepth 100000 in
set_option maxHeartbeats 400000 in
theorem openQueue {H : Type} {enc : TypeId × Value → H} {w : World} {b0 base : Nat} {spare : Nat → Bool} {held : Bool} {v : Value} {d : DataW H} {p : List MemPlace} (hv : Value.okWide Try.prog w .any b0 24 v) (h : DataW.Trod enc Try.prog w base spare held 24 v d p) :
    ∃ (x0 : Int) (x1 : Int) (x2 : Int) (ao3 : Option Addr) (n3 c3 : Nat) (zs3 : List (Int)) (ao4 : Option Addr) (n4 c4 : Nat) (zs4 : List (Int)) (ao5 : Option Addr) (n5 c5 : Nat) (zs5 : List (Int)), v = .agg #[.int .i64 x0, .int .i64 x1, .int .i64 x2, .slice ao3 n3 c3, .slice ao4 n4 c4, .slice ao5 n5 c5] ∧ (-9223372036854775808 ≤ x0 ∧ x0 ≤ 9223372036854775807) ∧ (-9223372036854775808 ≤ x1 ∧ x1 ≤ 9223372036854775807) ∧ (-9223372036854775808 ≤ x2 ∧ x2 ≤ 9223372036854775807) ∧ Sl w 0 w.heap.size 1 ao3 n3 c3 (zs3.map cI) ∧ (∀ z ∈ zs3, (-9223372036854775808 ≤ z ∧ z ≤ 9223372036854775807)) ∧ Sl w 0 w.heap.size 1 ao4 n4 c4 (zs4.map cI) ∧ (∀ z ∈ zs4, (-9223372036854775808 ≤ z ∧ z ≤ 9223372036854775807)) ∧ Sl w 0 w.heap.size 1 ao5 n5 c5 (zs5.map cI) ∧ (∀ z ∈ zs5, (-9223372036854775808 ≤ z ∧ z ≤ 9223372036854775807)) := by
  obtain ⟨cs, n, rfl, hsz, hf⟩ := open_fields Try.underlying24 (by kernel_rfl) (by kernel_rfl) hv h
  obtain ⟨v0, y0, hc0, t0⟩ := hf 0 _ rfl
  obtain ⟨x0, rfl, g0⟩ := el_int Try.underlying3 _ _ _ t0
  obtain ⟨v1, y1, hc1, t1⟩ := hf 1 _ rfl
  obtain ⟨x1, rfl, g1⟩ := el_int Try.underlying3 _ _ _ t1
  obtain ⟨v2, y2, hc2, t2⟩ := hf 2 _ rfl
  obtain ⟨x2, rfl, g2⟩ := el_int Try.underlying3 _ _ _ t2
  obtain ⟨v3, y3, hc3, t3⟩ := hf 3 _ rfl
  obtain ⟨ao3, n3, c3, zs3, e3, l3, nl3, nm3, g3⟩ := open_sl1 Try.underlying22 (by kernel_rfl) cI _ (el_int Try.underlying3) t3
  simp only [List.cons.injEq, and_true] at e3
  subst e3
  obtain ⟨v4, y4, hc4, t4⟩ := hf 4 _ rfl
  obtain ⟨ao4, n4, c4, zs4, e4, l4, nl4, nm4, g4⟩ := open_sl1 Try.underlying22 (by kernel_rfl) cI _ (el_int Try.underlying3) t4
  simp only [List.cons.injEq, and_true] at e4
  subst e4
  obtain ⟨v5, y5, hc5, t5⟩ := hf 5 _ rfl
  obtain ⟨ao5, n5, c5, zs5, e5, l5, nl5, nm5, g5⟩ := open_sl1 Try.underlying22 (by kernel_rfl) cI _ (el_int Try.underlying3) t5
  simp only [List.cons.injEq, and_true] at e5
  subst e5
  have hcs : cs = #[.int .i64 x0, .int .i64 x1, .int .i64 x2, .slice ao3 n3 c3, .slice ao4 n4 c4, .slice ao5 n5 c5] := by
    apply Array.ext_getElem?
    intro j
    by_cases hj : j < 6
    · match j, hj with
      | 0, _ => simpa [cI, cB, cS] using hc0 | 1, _ => simpa [cI, cB, cS] using hc1 | 2, _ => simpa [cI, cB, cS] using hc2 | 3, _ => simpa [cI, cB, cS] using hc3 | 4, _ => simpa [cI, cB, cS] using hc4 | 5, _ => simpa [cI, cB, cS] using hc5
    · rw [Array.getElem?_eq_none (by rw [hsz]; simpa using hj), Array.getElem?_eq_none (by simpa using hj)]
  subst hcs
  exact ⟨x0, x1, x2, ao3, n3, c3, zs3, ao4, n4, c4, zs4, ao5, n5, c5, zs5, rfl, g0, g1, g2, l3, g3, l4, g4, l5, g5⟩

end Go.Proofs.Ytohoggoggchaeaa
