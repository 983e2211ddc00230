/- GoodReader -/
import Derived.Test.YtohoggoggchaeaaUnframe
import Derived.Test.YtohoggoggchaeaaReader
namespace Go.Proofs.Ytohoggoggchaeaa
open Go.ChangeShapes Go.WideShapes Go.ChangeAt Go.RowKit

theorem unf_same : ∀ (f : Nat) (l : List UInt8) (out : List (List UInt8)), (unf f l out).2.2 = false → (unf f l out).2.1 = l → (unf f l out).1 = out
  | 0, l, out, _, _ => rfl
  | f + 1, l, out, h1, h2 => by
    revert h1 h2
    simp only [unf]
    repeat' split
    all_goals try (intros; rfl)
    rename_i h0 h1 h2 h3 h4 h5
    intro g1 g2
    have := (unf_len f (l.drop ((l[1]?.getD 0).toNat + 3)) (out ++ [(l.drop 2).take (l[1]?.getD 0).toNat])).2
    rw [g2] at this
    simp at this
    omega

/-- A reader is right. -/
def gr (x0 : List UInt8) (zs : List (List UInt8)) (x2 : Bool) : Bool :=
  decide (zs.length ≤ 40) && zs.all (fun z => decide (z.length ≤ 60)) && !(x2 && !(x0 == [])) && !(unf (x0.length + 1) x0 []).2.2 && ((unf (x0.length + 1) x0 []).2.1 == x0)

set_option maxHeartbeats 1600000 in
set_option maxRecDepth 20000 in
theorem s_GoodReader {x0 : List UInt8} {x2 : Bool} {zs1 : List (List UInt8)} {ao1 : Option Addr} {n1 c1 lo hi : Nat} {w : World} (h1 : Sl w lo hi 1 ao1 n1 c1 (zs1.map cS)) (hhi : hi ≤ w.heap.size) (b1 : n1 ≤ 1048576) (y0 : x0.length ≤ 1048576) (y1 : ∀ z ∈ zs1, z.length ≤ 9223372036854775807) :
    Calls Try.prog 15 #[.agg #[.string ⟨x0.toArray⟩, .slice ao1 n1 c1, .bool x2]] w fun e w' => e = .returned (.bool (gr x0 zs1 x2)) ∧ Chg [] w w' := by
  have e1 : Hid (zs1.length = n1) := h1.length
  generalize hG : gr x0 zs1 x2 = G
  have HG := hid hG
  clear hG
  have H0 : ∀ A : Obj, Chg [] w (w.alloc A) := fun A => (Chg.refl _ _).alloc A
  go_enter Try.func15, Try.ntmps15
  go_wp2
  go_loopw [11] (fun i wr => ∃ j : Nat, j ≤ n1 ∧ i = .int .i64 j ∧ Chg [] w wr ∧ w.heap.size < wr.heap.size ∧ (wr.cell? ⟨w.heap.size, 0, none⟩ = some (.string ⟨x0.toArray⟩) ∧ wr.cell? ⟨w.heap.size, 1, none⟩ = some (.slice ao1 n1 c1) ∧ wr.cell? ⟨w.heap.size, 2, none⟩ = some (.bool x2)) ∧ Hid (∀ z ∈ zs1.take j, z.length ≤ 60)) (fun i _ => n1 - (intOf i).toNat)
  case atStart => exact ⟨0, Nat.zero_le _, rfl, H0 _, by simp, by simp, by simp [Hid]⟩
  case round =>
    obtain ⟨j, hj, rfl, hm, hz0, ⟨q0, q1, q2⟩, hv⟩ := hrel
    by_cases hlt : j < n1
    · obtain ⟨b, off, z, rfl, hb1, hb2, hz, hcell⟩ := (h1.ext hm hhi).at hlt
      have hzl := y1 z (List.mem_of_getElem? hz.out)
      by_cases hl : 60 < z.length
      · go_wp2
        go_ret
        refine ⟨ret_bool ?_, hm⟩
        have : zs1.all (fun z => decide (z.length ≤ 60)) = false := by
          rw [List.all_eq_false]
          exact ⟨z, List.mem_of_getElem? hz.out, by simp; omega⟩
        rw [← HG.out]
        simp [gr, this]
      · go_wp2
        go_roundw
        case rel =>
          refine ⟨j + 1, by omega, by go_num, hm, hz0, ⟨q0, q1, q2⟩, ?_⟩
          show ∀ y ∈ zs1.take (j + 1), y.length ≤ 60
          rw [take_succ_of hz.out]
          intro y hy
          rcases List.mem_append.1 hy with h | h
          · exact hv.out y h
          · rw [List.mem_singleton.1 h]; omega
        case measure => simp [intOf]; omega
    · obtain rfl : j = n1 := by omega
      have hall : Hid (zs1.all (fun z => decide (z.length ≤ 60)) = true) := by
        have h := hv.out
        rw [List.take_of_length_le (Nat.le_of_eq e1.out)] at h
        show zs1.all _ = true
        rw [List.all_eq_true]
        intro z hz
        simpa using h z hz
      go_wp2_with fail
      refine (s_unframe (s := x0) (by omega)).mono ?_
      rintro e w2 ⟨ao, n, c, S, rfl, k2, o2, m2⟩
      have hn : Hid ((unf (x0.length + 1) x0 []).1.length = n) := o2.length
      have hsame : Hid ((unf (x0.length + 1) x0 []).2.2 = false → (unf (x0.length + 1) x0 []).2.1 = x0 → (unf (x0.length + 1) x0 []).1 = []) := unf_same _ _ _
      have B2 := (k2.at (k := w.heap.size) (by omega) (by simp)).1
      have Z2 : w.heap.size < w2.heap.size := by have := k2.size; omega
      have H2 := hm.trans k2
      have hG : Hid (G = (decide (j ≤ 40) && !(x2 && !(x0 == [])) && !(unf (x0.length + 1) x0 []).2.2 && ((unf (x0.length + 1) x0 []).2.1 == x0))) := by
        show G = _
        rw [← HG.out, gr, hall.out, e1.out, Bool.and_true]
      clear HG o2
      generalize unf (x0.length + 1) x0 [] = R at *
      obtain ⟨R1, R2, R3⟩ := R
      dsimp only at *
      by_cases c1 : 40 < j
      · go_wp2
        go_ret
        exact ⟨ret_bool (by rw [hG.out]; simp [show ¬ j ≤ 40 by omega]), H2⟩
      by_cases c2 : n = 0
      case neg =>
        go_wp2
        go_ret
        refine ⟨ret_bool ?_, H2⟩
        rw [hG.out]
        cases R3 with
        | true => simp
        | false =>
          by_cases c3 : R2 = x0
          · exact absurd (by have h := hn.out; rw [hsame.out rfl c3] at h; exact h.symm) c2
          · simp [c3]
      subst c2
      by_cases c3 : R2 = x0
      case neg =>
        have c3b : (R2 == x0) = false := by simpa using c3
        go_wp2
        go_ret
        exact ⟨ret_bool (by rw [hG.out]; simp [c3b]), H2⟩
      subst c3
      have c3b : (R2 == R2) = true := by simp
      cases R3 with
      | true =>
        go_wp2
        go_ret
        exact ⟨ret_bool (by rw [hG.out]; simp), H2⟩
      | false =>
        cases x2 with
        | false =>
          go_wp2
          go_ret
          exact ⟨ret_bool (by rw [hG.out]; simp; omega), H2⟩
        | true =>
          by_cases c4 : R2 = []
          · have c4b : (R2 == []) = true := by simpa using c4
            go_wp2
            go_ret
            exact ⟨ret_bool (by rw [hG.out]; simp [c4]; try omega), H2⟩
          · have c4b : (R2 == []) = false := by simpa using c4
            go_wp2
            go_ret
            exact ⟨ret_bool (by rw [hG.out]; simp [c4b]), H2⟩
theorem i_long {z : List UInt8} {w : World} (hz : z.length ≤ 9223372036854775807) : Calls Try.prog 43 #[.string ⟨z.toArray⟩] w fun e w' => e = .returned (.bool (decide (60 < z.length))) ∧ w = w' := by
  go_enter Try.func43, Try.ntmps43
  go_wp2
  go_ret
  exact ⟨ret_bool (decide_eq_decide.2 (by omega)), rfl⟩

set_option maxHeartbeats 400000 in
theorem indexLong {ao : Option Addr} {n c lo hi : Nat} {zs : List (List UInt8)} {w : World} (h : Sl w lo hi 1 ao n c (zs.map cS)) (hy : ∀ z ∈ zs, z.length ≤ 9223372036854775807) :
    Calls Try.prog 75 #[.slice ao n c, .func (.func 43) #[] #[]] w fun e w' => ∃ r : Int, e = .returned (.int .i64 r) ∧ (0 ≤ r ↔ zs.all (fun z => decide (z.length ≤ 60)) = false) ∧ Qt w w' := by
  have hlen : Hid (zs.length = n) := h.length
  have hle := h.le
  have hmx := h.max
  go_enter Try.func75, Try.ntmps75
  go_wp2
  go_loopw [8] (fun i wr => ∃ j : Nat, j ≤ n ∧ i = .int .i64 j ∧ Qt w wr ∧ Hid (∀ z ∈ zs.take j, z.length ≤ 60)) (fun i _ => n - (intOf i).toNat)
  case atStart => exact ⟨0, Nat.zero_le _, rfl, Qt.refl _, by simp [Hid]⟩
  case round =>
    obtain ⟨j, hj, rfl, hm, HV⟩ := hrel
    have hh := hm.heap
    have hE := h.keep (w' := wr) (fun b _ _ => by rw [hh])
    clear hh
    by_cases hlt : j < n
    · obtain ⟨b, off, z, rfl, hb1, hb2, hz, hcell⟩ := hE.at hlt
      go_wp2_with fail
      refine (i_long (hy z (List.mem_of_getElem? hz.out))).mono ?_
      rintro e w' ⟨rfl, rfl⟩
      by_cases hl : 60 < z.length
      · go_wp2
        go_ret
        refine ⟨_, rfl, ⟨fun _ => ?_, fun _ => by omega⟩, hm⟩
        rw [List.all_eq_false]
        exact ⟨z, List.mem_of_getElem? hz.out, by simp; omega⟩
      · go_wp2
        go_roundw
        case rel =>
          refine ⟨j + 1, by omega, by go_num, hm, ?_⟩
          show ∀ y ∈ zs.take (j + 1), y.length ≤ 60
          rw [take_succ_of hz.out]
          intro y hy
          rcases List.mem_append.1 hy with h | h
          · exact HV.out y h
          · rw [List.mem_singleton.1 h]; omega
        case measure => simp [intOf]; omega
    · go_wp2
      go_ret
      obtain rfl : j = n := by omega
      have hv := HV.out
      rw [List.take_of_length_le (Nat.le_of_eq hlen.out)] at hv
      refine ⟨_, rfl, ⟨fun h => by omega, fun h => ?_⟩, hm⟩
      obtain ⟨z, hz, h2⟩ := List.all_eq_false.1 h
      have := hv z hz
      simp at h2
      omega

theorem containsLong {ao : Option Addr} {n c lo hi : Nat} {zs : List (List UInt8)} {w : World} (h : Sl w lo hi 1 ao n c (zs.map cS)) (hy : ∀ z ∈ zs, z.length ≤ 9223372036854775807) :
    Calls Try.prog 42 #[.slice ao n c, .func (.func 43) #[] #[]] w fun e w' => e = .returned (.bool (!zs.all (fun z => decide (z.length ≤ 60)))) ∧ Qt w w' := by
  go_enter Try.func42, Try.ntmps42
  go_wp2_with fail
  refine (indexLong h hy).mono ?_
  rintro e w1 ⟨r, rfl, hr, hq⟩
  have HR := hid hr
  clear hr
  go_wp2
  go_ret
  have hr := HR.out
  refine ⟨ret_bool ?_, hq⟩
  cases hz : zs.all (fun z => decide (z.length ≤ 60))
  · have := hr.2 hz
    exact decide_eq_true this
  · have : ¬ 0 ≤ r := fun h => by have := hr.1 h; rw [hz] at this; cases this
    exact decide_eq_false this

set_option maxHeartbeats 1600000 in
set_option maxRecDepth 20000 in
theorem i_GoodReader {x0 : List UInt8} {x2 : Bool} {zs1 : List (List UInt8)} {ao1 : Option Addr} {n1 c1 lo hi : Nat} {w : World} (h1 : Sl w lo hi 1 ao1 n1 c1 (zs1.map cS)) (hhi : hi ≤ w.heap.size) (b1 : n1 ≤ 1048576) (y0 : x0.length ≤ 1048576) (y1 : ∀ z ∈ zs1, z.length ≤ 9223372036854775807) :
    Calls Try.prog 17 #[.agg #[.string ⟨x0.toArray⟩, .slice ao1 n1 c1, .bool x2]] w fun e w' => e = .returned (.bool (gr x0 zs1 x2)) ∧ Chg [] w w' := by
  have e1 : Hid (zs1.length = n1) := h1.length
  have H0 : ∀ A : Obj, Chg [] w (w.alloc A) := fun A => (Chg.refl _ _).alloc A
  have hG : Hid (gr x0 zs1 x2 = (decide (n1 ≤ 40) && zs1.all (fun z => decide (z.length ≤ 60)) && !(x2 && !(x0 == [])) && !(unf (x0.length + 1) x0 []).2.2 && ((unf (x0.length + 1) x0 []).2.1 == x0))) := by
    show gr x0 zs1 x2 = _
    rw [gr, e1.out]
  generalize gr x0 zs1 x2 = G at *
  by_cases g1 : 40 < n1
  · go_enter Try.func17, Try.ntmps17
    go_wp2
    go_ret
    exact ⟨ret_bool (by rw [hG.out]; simp [show ¬ n1 ≤ 40 by omega]), H0 _⟩
  cases hA : zs1.all (fun z => decide (z.length ≤ 60)) with
  | false =>
    have HA := hid hA
    clear hA
    go_enter Try.func17, Try.ntmps17
    go_wp2_with fail
    refine (containsLong (h1.ext (H0 _) hhi) y1).mono ?_
    rintro e w1 ⟨he, q1⟩
    rw [HA.out, Bool.not_false] at he
    subst he
    go_wp2
    go_ret
    exact ⟨ret_bool (by rw [hG.out, HA.out]; simp), ((H0 _).qt q1)⟩
  | true =>
    have HA := hid hA
    clear hA
    cases x2 with
    | true =>
      by_cases c4 : x0 = []
      · subst c4
        go_enter Try.func17, Try.ntmps17
        go_wp2_with fail
        refine (containsLong (h1.ext (H0 _) hhi) y1).mono ?_
        rintro e w1 ⟨he, q1⟩
        rw [HA.out, Bool.not_true] at he
        subst he
        have k1 := q1.chg []
        have B1 := (k1.at (k := w.heap.size) (by simp) (by simp)).1
        have Z1 : w.heap.size < w1.heap.size := by have := k1.size; simp at this; omega
        go_wp2_with fail
        refine (i_unframe (s := []) (by simp)).mono ?_
        rintro e w2 ⟨ao, n, c, S, rfl, k2, o2, m2⟩
        clear o2
        have B2 := (k2.at (k := w.heap.size) (by omega) (by simp)).1
        have Z2 : w.heap.size < w2.heap.size := by have := k2.size; omega
        have hu : unf (([] : List UInt8).length + 1) ([] : List UInt8) [] = ([], [], false) := rfl
        simp only [hu]
        go_wp2
        go_ret
        exact ⟨ret_bool (by rw [hG.out, HA.out, show decide (n1 ≤ 40) = true from decide_eq_true (by omega)]; rfl), ((H0 _).trans k1).trans k2⟩
      · have c4b : (x0 == []) = false := by simpa using c4
        go_enter Try.func17, Try.ntmps17
        go_wp2_with fail
        refine (containsLong (h1.ext (H0 _) hhi) y1).mono ?_
        rintro e w1 ⟨he, q1⟩
        rw [HA.out, Bool.not_true] at he
        subst he
        have k1 := q1.chg []
        have B1 := (k1.at (k := w.heap.size) (by simp) (by simp)).1
        have Z1 : w.heap.size < w1.heap.size := by have := k1.size; simp at this; omega
        go_wp2
        go_ret
        exact ⟨ret_bool (by rw [hG.out, HA.out, c4b]; simp), (H0 _).trans k1⟩
    | false =>
      go_enter Try.func17, Try.ntmps17
      go_wp2_with fail
      refine (containsLong (h1.ext (H0 _) hhi) y1).mono ?_
      rintro e w1 ⟨he, q1⟩
      rw [HA.out, Bool.not_true] at he
      subst he
      have k1 := q1.chg []
      have B1 := (k1.at (k := w.heap.size) (by simp) (by simp)).1
      have Z1 : w.heap.size < w1.heap.size := by have := k1.size; simp at this; omega
      go_wp2_with fail
      refine (i_unframe (s := x0) (by omega)).mono ?_
      rintro e w2 ⟨ao, n, c, S, rfl, k2, o2, m2⟩
      clear o2
      have B2 := (k2.at (k := w.heap.size) (by omega) (by simp)).1
      have Z2 : w.heap.size < w2.heap.size := by have := k2.size; omega
      have H2 := ((H0 _).trans k1).trans k2
      generalize unf (x0.length + 1) x0 [] = R at *
      obtain ⟨R1, R2, R3⟩ := R
      dsimp only at *
      cases R3 with
      | true =>
        go_wp2
        go_ret
        exact ⟨ret_bool (by rw [hG.out]; simp), H2⟩
      | false =>
        by_cases c3 : R2 = x0
        · subst c3
          have c3b : (R2 == R2) = true := by simp
          go_wp2
          go_ret
          exact ⟨ret_bool (by rw [hG.out, HA.out]; simp; omega), H2⟩
        · have c3b : (R2 == x0) = false := by simpa using c3
          go_wp2
          go_ret
          exact ⟨ret_bool (by rw [hG.out, c3b]; simp), H2⟩
end Go.Proofs.Ytohoggoggchaeaa
