/- Contracts of laws.eqReader, markReader, heldReader, toReader, szReader; written by gen_struct.py -/
import Derived.Test.YtpjaemdoebgpiaaStrs
namespace Go.Proofs.Ytpjaemdoebgpiaa
open Go.ChangeShapes Go.WideShapes Go.ChangeAt Go.RowKit

set_option maxHeartbeats 400000 in
theorem eqReader {x0 : List UInt8} {x2 : Bool} {n1 : Nat} {zs1 : List (List UInt8)} {ao1 : Option Addr} {c1 : Nat} {ao1' : Option Addr} {c1' : Nat} {lo hi lo2 hi2 : Nat} {w : World} (h1 : Sl w lo hi 1 ao1 n1 c1 (zs1.map cS)) (g1 : Sl w lo2 hi2 1 ao1' n1 c1' (zs1.map cS)) (hhi : hi ≤ w.heap.size) (hhi2 : hi2 ≤ w.heap.size) :
    Calls Try.prog 15 #[.agg #[.string ⟨x0.toArray⟩, .slice ao1 n1 c1, .bool x2], .agg #[.string ⟨x0.toArray⟩, .slice ao1' n1 c1', .bool x2]] w fun e w' => e = .returned (.bool true) ∧ Chg [] w w' := by
  have H0 : ∀ A B : Obj, Chg [] w ((w.alloc A).alloc B) := fun A B => ((Chg.refl _ _).alloc A).alloc B
  go_enter Try.func15, Try.ntmps15
  go_wp2_with fail
  refine (eqStrs (h1.ext (H0 _ _) hhi) (g1.ext (H0 _ _) hhi2)).mono ?_
  rintro e w1 ⟨rfl, q1⟩
  have k1 := q1.chg []
  have C1 := k1.cells.1
  have H1 := (H0 _ _).trans k1
  have b1_0 : w.heap.size < w1.heap.size := by have := k1.size; simp at this; omega
  have b1_1 : w.heap.size + 1 < w1.heap.size := by have := k1.size; simp at this; omega
  go_wp2
  go_ret
  exact ⟨by simp, H1⟩

set_option maxHeartbeats 400000 in
theorem markReader {x0 : List UInt8} {x2 : Bool} {n1 : Nat} {zs1 : List (List UInt8)} {ao1 : Option Addr} {c1 : Nat} {S1 : List Nat} {k : Int} {w : World} (h1 : Own w 9 1 ao1 n1 c1 (zs1.map cS) S1)  (hk : 0 ≤ k) (hk2 : k + n1 ≤ 1000000000) :
    Calls Try.prog 16 #[.agg #[.string ⟨x0.toArray⟩, .slice ao1 n1 c1, .bool x2], .int .i64 k] w fun e w' => e = .returned (.int .i64 (k + n1)) ∧ Chg S1 w w' ∧ Own w' 9 1 ao1 n1 c1 ((marksStrs (k) n1).map cS) S1 := by
  have H0 : ∀ A : Obj, Chg [] w (w.alloc A) := fun A => (Chg.refl _ _).alloc A
  have l1 := h1.lt
  go_enter Try.func16, Try.ntmps16
  go_wp2_with fail
  refine (markStrs (h1.ext (H0 _)) (by omega) (by omega)).mono ?_
  rintro e w1 ⟨rfl, k1, o1⟩
  have B1 := (k1.at (k := w.heap.size) (by simp only [World.size_alloc]; omega) (fun hx => by have := l1 _ hx; omega)).1
  have z1 : w.heap.size < w1.heap.size := by have := k1.size; simp only [World.size_alloc] at this; omega
  go_wp2
  go_ret
  exact ⟨by simp, ((H0 _).any _).trans (k1.mono (by intro x hx; simp [hx])), o1⟩

set_option maxHeartbeats 400000 in
theorem heldReader {x0 : List UInt8} {x2 : Bool} {n1 : Nat} {ao1 : Option Addr} {c1 : Nat} {lo1 hi1 : Nat} {k : Int} {w : World} (h1 : Sl w lo1 hi1 1 ao1 n1 c1 ((marksStrs (k) n1).map cS)) (hh1 : hi1 ≤ w.heap.size) (hk : 0 ≤ k) (hk2 : k + n1 ≤ 1000000000) :
    Calls Try.prog 17 #[.agg #[.string ⟨x0.toArray⟩, .slice ao1 n1 c1, .bool x2], .int .i64 k] w fun e w' => e = .returned (.int .i64 (k + n1)) ∧ Chg [] w w' := by
  have H0 : ∀ A : Obj, Chg [] w (w.alloc A) := fun A => (Chg.refl _ _).alloc A
  go_enter Try.func17, Try.ntmps17
  go_wp2_with fail
  refine (heldStrs (h1.ext (H0 _) hh1) (by simp only [World.size_alloc]; omega) (by omega) (by omega)).mono ?_
  rintro e w1 ⟨rfl, k1⟩
  have C1 := k1.cells.1
  have H1 := (H0 _).trans k1
  have y1 : ¬ k + n1 < 0 := by omega
  have b1_0 : w.heap.size < w1.heap.size := by have := k1.size; simp at this; omega
  go_wp2
  go_ret
  exact ⟨by simp, H1⟩

/-- A Reader whose slices are the call's own, in blocks from lo on, none shared. -/
def IsReader (lo : Nat) (x0 : List UInt8) (x2 : Bool) (zs1 : List (List UInt8)) (v : Value) (w : World) : Prop := ∃ ao1 n1 c1 S1, v = .agg #[.string ⟨x0.toArray⟩, .slice ao1 n1 c1, .bool x2] ∧ Own w 9 1 ao1 n1 c1 (zs1.map cS) S1 ∧ (∀ x ∈ S1, lo ≤ x)
theorem IsReader.keep {lo : Nat} {x0 : List UInt8} {x2 : Bool} {zs1 : List (List UInt8)} : ∀ v w1 w2, IsReader lo x0 x2 zs1 v w1 → Chg [] w1 w2 → IsReader lo x0 x2 zs1 v w2 :=
  fun _ _ _ ⟨ao1, n1, c1, S1, hv, o1, m1⟩ hc => ⟨ao1, n1, c1, S1, hv, o1.ext hc, m1⟩

-- sz
end Go.Proofs.Ytpjaemdoebgpiaa
