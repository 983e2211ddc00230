/- Contracts of laws.eqReader, markReader, heldReader, toReader, szReader; written by gen_struct.py -/
import Derived.Test.YtohoggoggchaeaaStrs
import Derived.Test.YtohoggoggchaeaaOpen
namespace Go.Proofs.Ytohoggoggchaeaa
open Go.ChangeShapes Go.WideShapes Go.ChangeAt Go.RowKit

set_option maxHeartbeats 400000 in
theorem eqReader {x0 : List UInt8} {x2 : Bool} {n1 : Nat} {zs1 : List (List UInt8)} {ao1 : Option Addr} {c1 : Nat} {ao1' : Option Addr} {c1' : Nat} {lo hi lo2 hi2 : Nat} {w : World} (h1 : Sl w lo hi 1 ao1 n1 c1 (zs1.map cS)) (g1 : Sl w lo2 hi2 1 ao1' n1 c1' (zs1.map cS)) (hhi : hi ≤ w.heap.size) (hhi2 : hi2 ≤ w.heap.size) :
    Calls Try.prog 18 #[.agg #[.string ⟨x0.toArray⟩, .slice ao1 n1 c1, .bool x2], .agg #[.string ⟨x0.toArray⟩, .slice ao1' n1 c1', .bool x2]] w fun e w' => e = .returned (.bool true) ∧ Chg [] w w' := by
  have H0 : ∀ A B : Obj, Chg [] w ((w.alloc A).alloc B) := fun A B => ((Chg.refl _ _).alloc A).alloc B
  go_enter Try.func18, Try.ntmps18
  go_wp2_with fail
  refine (eqStrs (h1.ext (H0 _ _) hhi) (g1.ext (H0 _ _) hhi2)).mono ?_
  rintro e w1 ⟨rfl, q1⟩
  have k1 := q1.chg []
  have C1 := k1.cells.1
  have H1 := (H0 _ _).trans k1
  have b1_0 : w.heap.size < w1.heap.size := by have := k1.size; simp at this; omega
  have b1_1 : w.heap.size + 1 < w1.heap.size := by have := k1.size; simp at this; omega
  go_wp2
  go_ret
  exact ⟨by simp, H1⟩

set_option maxHeartbeats 400000 in
theorem markReader {x0 : List UInt8} {x2 : Bool} {n1 : Nat} {zs1 : List (List UInt8)} {ao1 : Option Addr} {c1 : Nat} {S1 : List Nat} {k : Int} {w : World} (h1 : Own w 9 1 ao1 n1 c1 (zs1.map cS) S1)  (hk : 0 ≤ k) (hk2 : k + n1 ≤ 1000000000) :
    Calls Try.prog 28 #[.agg #[.string ⟨x0.toArray⟩, .slice ao1 n1 c1, .bool x2], .int .i64 k] w fun e w' => e = .returned (.int .i64 (k + n1)) ∧ Chg S1 w w' ∧ Own w' 9 1 ao1 n1 c1 ((marksStrs (k) n1).map cS) S1 := by
  have H0 : ∀ A : Obj, Chg [] w (w.alloc A) := fun A => (Chg.refl _ _).alloc A
  have l1 := h1.lt
  go_enter Try.func28, Try.ntmps28
  go_wp2_with fail
  refine (markStrs (h1.ext (H0 _)) (by omega) (by omega)).mono ?_
  rintro e w1 ⟨rfl, k1, o1⟩
  have B1 := (k1.at (k := w.heap.size) (by simp only [World.size_alloc]; omega) (fun hx => by have := l1 _ hx; omega)).1
  have z1 : w.heap.size < w1.heap.size := by have := k1.size; simp only [World.size_alloc] at this; omega
  go_wp2
  go_ret
  exact ⟨by simp, ((H0 _).any _).trans (k1.mono (by intro x hx; simp [hx])), o1⟩

set_option maxHeartbeats 400000 in
theorem heldReader {x0 : List UInt8} {x2 : Bool} {n1 : Nat} {ao1 : Option Addr} {c1 : Nat} {lo1 hi1 : Nat} {k : Int} {w : World} (h1 : Sl w lo1 hi1 1 ao1 n1 c1 ((marksStrs (k) n1).map cS)) (hh1 : hi1 ≤ w.heap.size) (hk : 0 ≤ k) (hk2 : k + n1 ≤ 1000000000) :
    Calls Try.prog 29 #[.agg #[.string ⟨x0.toArray⟩, .slice ao1 n1 c1, .bool x2], .int .i64 k] w fun e w' => e = .returned (.int .i64 (k + n1)) ∧ Chg [] w w' := by
  have H0 : ∀ A : Obj, Chg [] w (w.alloc A) := fun A => (Chg.refl _ _).alloc A
  go_enter Try.func29, Try.ntmps29
  go_wp2_with fail
  refine (heldStrs (h1.ext (H0 _) hh1) (by simp only [World.size_alloc]; omega) (by omega) (by omega)).mono ?_
  rintro e w1 ⟨rfl, k1⟩
  have C1 := k1.cells.1
  have H1 := (H0 _).trans k1
  have y1 : ¬ k + n1 < 0 := by omega
  have b1_0 : w.heap.size < w1.heap.size := by have := k1.size; simp at this; omega
  go_wp2
  go_ret
  exact ⟨by simp, H1⟩

set_option maxHeartbeats 800000 in
theorem toReader {x0 : List UInt8} {x2 : Bool} {n1 : Nat} {zs1 : List (List UInt8)} {ao1 : Option Addr} {c1 : Nat} {lo hi : Nat} {w : World} (h1 : Sl w lo hi 1 ao1 n1 c1 (zs1.map cS)) (hhi : hi ≤ w.heap.size) (b1 : n1 ≤ 1048576) :
    Calls Try.prog 16 #[.agg #[.string ⟨x0.toArray⟩, .slice ao1 n1 c1, .bool x2]] w fun e w' => ∃ ao1' c1' S1, e = .returned (.agg #[.string ⟨x0.toArray⟩, .slice ao1' n1 c1', .bool x2]) ∧ Chg [] w w' ∧ Own w' 9 1 ao1' n1 c1' (zs1.map cS) S1 ∧ (∀ x ∈ S1, w.heap.size ≤ x) := by
  have H0 : ∀ A B C : Obj, Chg [] w (((w.alloc A).alloc B).alloc C) := fun A B C => (((Chg.refl _ _).alloc A).alloc B).alloc C
  have N0 : ∀ A B C : Obj, (((w.alloc A).alloc B).alloc C).heap.size = w.heap.size + 1 + 1 + 1 := fun A B C => by simp
  go_enter Try.func16, Try.ntmps16
  go_wp2_with fail
  refine (toStrs (h1.ext (by (repeat (refine Chg.setCell ?_ (Or.inr (by dsimp only; omega)) _)); exact H0 _ _ _) hhi) (by rw [N0]; omega) b1).mono ?_
  rintro e w1 ⟨u1, e1, T1, rfl, k1, o1, m1⟩
  rw [N0] at m1
  obtain ⟨C1a, C1b⟩ := k1.cells
  have z1 : w.heap.size + 1 + 1 < w1.heap.size := by have := k1.size; rw [N0] at this; omega
  have H1 : Chg [] w w1 := by
    refine Chg.trans ?_ k1
    (repeat (refine Chg.setCell ?_ (Or.inr (by dsimp only; omega)) _))
    exact H0 _ _ _
  have l1 := o1.lt
  have b1_0 : w.heap.size < w1.heap.size := by have := k1.size; simp at this; omega
  have b1_1 : w.heap.size + 1 < w1.heap.size := by have := k1.size; simp at this; omega
  have b1_2 : w.heap.size + 1 + 1 < w1.heap.size := by have := k1.size; simp at this; omega
  go_wp2
  refine bodyPost_ret (v := .agg #[.string ⟨x0.toArray⟩, .slice u1 n1 e1, .bool x2]) (by simp [results, Try.results16, go_sem, C1a, b1_0, b1_1, b1_2]) rfl ⟨u1, e1, T1, rfl, (by (repeat (refine Chg.setCell ?_ (Or.inr (by dsimp only; omega)) _)); exact H1), (by (repeat (refine Own.setOther ?_ (fun hx => by have := m1 _ hx; dsimp only at this; omega) _)); exact o1), (fun x hx => by have := m1 x hx; omega)⟩

/-- A Reader whose slices are the call's own, in blocks from lo on, none shared. -/
def IsReader (lo : Nat) (x0 : List UInt8) (x2 : Bool) (zs1 : List (List UInt8)) (v : Value) (w : World) : Prop := ∃ ao1 n1 c1 S1, v = .agg #[.string ⟨x0.toArray⟩, .slice ao1 n1 c1, .bool x2] ∧ Own w 9 1 ao1 n1 c1 (zs1.map cS) S1 ∧ (∀ x ∈ S1, lo ≤ x)
theorem IsReader.keep {lo : Nat} {x0 : List UInt8} {x2 : Bool} {zs1 : List (List UInt8)} : ∀ v w1 w2, IsReader lo x0 x2 zs1 v w1 → Chg [] w1 w2 → IsReader lo x0 x2 zs1 v w2 :=
  fun _ _ _ ⟨ao1, n1, c1, S1, hv, o1, m1⟩ hc => ⟨ao1, n1, c1, S1, hv, o1.ext hc, m1⟩

theorem IsReader.keepT {T : List Nat} {lo : Nat} {x0 : List UInt8} {x2 : Bool} {zs1 : List (List UInt8)} (hT : ∀ x ∈ T, x < lo) : ∀ v w1 w2, IsReader lo x0 x2 zs1 v w1 → Chg T w1 w2 → IsReader lo x0 x2 zs1 v w2 :=
  fun _ _ _ ⟨ao1, n1, c1, S1, hv, o1, m1⟩ hc => ⟨ao1, n1, c1, S1, hv, o1.chg hc (fun x hx hm => by have := m1 x hx; have := hT x hm; omega), m1⟩
theorem IsReader.low {lo lo' : Nat} {x0 : List UInt8} {x2 : Bool} {zs1 : List (List UInt8)} {v : Value} {w : World} (h : IsReader lo x0 x2 zs1 v w) (hl : lo' ≤ lo) : IsReader lo' x0 x2 zs1 v w := by
  obtain ⟨ao1, n1, c1, S1, hv, o1, m1⟩ := h
  exact ⟨ao1, n1, c1, S1, hv, o1, fun x hx => Nat.le_trans hl (m1 x hx)⟩

set_option maxHeartbeats 400000 in
theorem szReader {x0 : List UInt8} {x2 : Bool} {n1 : Nat} {zs1 : List (List UInt8)} {ao1 : Option Addr} {c1 : Nat} {k : Int} {w : World} (h1 : Sl w 0 w.heap.size 1 ao1 n1 c1 (zs1.map cS)) (y1 : ∀ z ∈ zs1, z.length ≤ 9223372036854775807) (y0 : x0.length ≤ 9223372036854775807) (hk : 0 ≤ k) (hk2 : k ≤ 1048576) :
    Calls Try.prog 14 #[.agg #[.string ⟨x0.toArray⟩, .slice ao1 n1 c1, .bool x2], .int .i64 k] w fun e w' => ∃ r : Int, e = .returned (.int .i64 r) ∧ Chg [] w w' ∧ -1 ≤ r ∧ (0 ≤ r → r + x0.length + n1 ≤ k) := by
  have H0 : ∀ A : Obj, Chg [] w (w.alloc A) := fun A => (Chg.refl _ _).alloc A
  have le1 := h1.le
  have mx1 := h1.max
  by_cases d0 : k - x0.length < 0
  · go_enter Try.func14, Try.ntmps14
    go_wp2
    go_ret
    exact ⟨_, rfl, H0 _, by omega, by omega⟩
  · go_enter Try.func14, Try.ntmps14
    go_wp2_with fail
    refine (szStrs (k := (k - x0.length)) (h1.ext (H0 _) (Nat.le_refl _)) y1 (by omega) (by omega)).mono ?_
    rintro e w1 ⟨r1, rfl, q1, u1, v1⟩
    have k1 := q1.chg []
    have C1 := k1.cells.1
    have H1 := (H0 _).trans k1
    have b1_0 : w.heap.size < w1.heap.size := by have := k1.size; simp at this; omega
    by_cases d1 : r1 < 0
    · go_wp2
      go_ret
      exact ⟨_, rfl, H1, by omega, by omega⟩
    · go_wp2
      go_ret
      exact ⟨_, rfl, H1, by omega, by omega⟩

open Go.Deep in
set_option maxRecDepth 100000 in
set_option maxHeartbeats 400000 in
theorem openReader {H : Type} {enc : TypeId × Value → H} {w : World} {b0 base : Nat} {spare : Nat → Bool} {held : Bool} {v : Value} {d : DataW H} {p : List MemPlace} (hv : Value.okWide Try.prog w .any b0 34 v) (h : DataW.Trod enc Try.prog w base spare held 34 v d p) :
    ∃ (x0 : List UInt8) (x2 : Bool) (ao1 : Option Addr) (n1 c1 : Nat) (zs1 : List (List UInt8)), v = .agg #[.string ⟨x0.toArray⟩, .slice ao1 n1 c1, .bool x2] ∧ x0.length ≤ 9223372036854775807 ∧ True ∧ Sl w 0 w.heap.size 1 ao1 n1 c1 (zs1.map cS) ∧ (∀ z ∈ zs1, z.length ≤ 9223372036854775807) := by
  obtain ⟨cs, n, rfl, hsz, hf⟩ := open_fields Try.underlying34 (by kernel_rfl) (by kernel_rfl) hv h
  obtain ⟨v0, y0, hc0, t0⟩ := hf 0 _ rfl
  obtain ⟨x0, rfl, g0⟩ := el_string Try.underlying9 _ _ _ t0
  obtain ⟨v1, y1, hc1, t1⟩ := hf 1 _ rfl
  obtain ⟨ao1, n1, c1, zs1, e1, l1, nl1, nm1, g1⟩ := open_sl1 Try.underlying32 (by kernel_rfl) cS _ (el_string Try.underlying9) t1
  simp only [List.cons.injEq, and_true] at e1
  subst e1
  obtain ⟨v2, y2, hc2, t2⟩ := hf 2 _ rfl
  obtain ⟨x2, rfl, g2⟩ := el_bool Try.underlying4 _ _ _ t2
  have hcs : cs = #[.string ⟨x0.toArray⟩, .slice ao1 n1 c1, .bool x2] := by
    apply Array.ext_getElem?
    intro j
    by_cases hj : j < 3
    · match j, hj with
      | 0, _ => simpa [cI, cB, cS] using hc0 | 1, _ => simpa [cI, cB, cS] using hc1 | 2, _ => simpa [cI, cB, cS] using hc2
    · rw [Array.getElem?_eq_none (by rw [hsz]; simpa using hj), Array.getElem?_eq_none (by simpa using hj)]
  subst hcs
  exact ⟨x0, x2, ao1, n1, c1, zs1, rfl, g0, trivial, l1, g1⟩

end Go.Proofs.Ytohoggoggchaeaa
