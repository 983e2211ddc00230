/- slices.Index, slices.Contains of ints and bools -/
import Derived.Test.YtohoggoggchaeaaInts
namespace Go.Proofs.Ytohoggoggchaeaa
open Go.ChangeShapes Go.WideShapes Go.ChangeAt Go.RowKit

set_option maxHeartbeats 400000 in
theorem indexBools {ao : Option Addr} {n c lo hi : Nat} {zs : List (Bool)} {v : Bool} {w : World} (h : Sl w lo hi 1 ao n c (zs.map cB)) :
    Calls Try.prog 87 #[.slice ao n c, .bool v] w fun e w' => ∃ r : Int, e = .returned (.int .i64 r) ∧ (0 ≤ r ↔ v ∈ zs) ∧ Qt w w' := by
  have hlen : Hid (zs.length = n) := h.length
  have hle := h.le
  have hmx := h.max
  go_enter Try.func87, Try.ntmps87
  go_wp2
  go_loopw [8] (fun i wr => ∃ j : Nat, j ≤ n ∧ i = .int .i64 j ∧ Qt w wr ∧ v ∉ zs.take j) (fun i _ => n - (intOf i).toNat)
  case atStart => exact ⟨0, Nat.zero_le _, rfl, Qt.refl _, by simp⟩
  case round =>
    obtain ⟨j, hj, rfl, hm, hv⟩ := hrel
    have hh := hm.heap
    have hE := h.keep (w' := wr) (fun b _ _ => by rw [hh])
    clear hh
    have HV := hid hv
    clear hv
    by_cases hlt : j < n
    · obtain ⟨b, off, z, rfl, hb1, hb2, hz, hcell⟩ := hE.at hlt
      by_cases hvz : v = z
      · subst hvz
        skip
        go_wp2
        go_ret
        exact ⟨_, rfl, ⟨fun _ => List.mem_of_getElem? hz.out, fun _ => by omega⟩, hm⟩
      · have hvb : (v == z) = false := by simpa using hvz
        go_wp2
        go_roundw
        case rel => exact ⟨j + 1, by omega, by go_num, hm, by rw [take_succ_of hz.out, List.mem_append, List.mem_singleton]; exact fun h => h.elim HV.out hvz⟩
        case measure => simp [intOf]; omega
    · go_wp2
      go_ret
      obtain rfl : j = n := by omega
      have hv := HV.out
      rw [List.take_of_length_le (Nat.le_of_eq hlen.out)] at hv
      exact ⟨_, rfl, ⟨fun h => by omega, fun h => absurd h hv⟩, hm⟩

theorem containsBools {ao : Option Addr} {n c lo hi : Nat} {zs : List (Bool)} {v : Bool} {w : World} (h : Sl w lo hi 1 ao n c (zs.map cB)) :
    Calls Try.prog 73 #[.slice ao n c, .bool v] w fun e w' => e = .returned (.bool (decide (v ∈ zs))) ∧ Qt w w' := by
  go_enter Try.func73, Try.ntmps73
  go_wp2_with fail
  refine (indexBools h).mono ?_
  rintro e w1 ⟨r, rfl, hr, hq⟩
  go_wp2
  go_ret
  exact ⟨ret_bool (by simp [hr]), hq⟩

set_option maxHeartbeats 400000 in
theorem indexInts {ao : Option Addr} {n c lo hi : Nat} {zs : List (Int)} {v : Int} {w : World} (h : Sl w lo hi 1 ao n c (zs.map cI)) :
    Calls Try.prog 77 #[.slice ao n c, .int .i64 v] w fun e w' => ∃ r : Int, e = .returned (.int .i64 r) ∧ (0 ≤ r ↔ v ∈ zs) ∧ Qt w w' := by
  have hlen : Hid (zs.length = n) := h.length
  have hle := h.le
  have hmx := h.max
  go_enter Try.func77, Try.ntmps77
  go_wp2
  go_loopw [8] (fun i wr => ∃ j : Nat, j ≤ n ∧ i = .int .i64 j ∧ Qt w wr ∧ v ∉ zs.take j) (fun i _ => n - (intOf i).toNat)
  case atStart => exact ⟨0, Nat.zero_le _, rfl, Qt.refl _, by simp⟩
  case round =>
    obtain ⟨j, hj, rfl, hm, hv⟩ := hrel
    have hh := hm.heap
    have hE := h.keep (w' := wr) (fun b _ _ => by rw [hh])
    clear hh
    have HV := hid hv
    clear hv
    by_cases hlt : j < n
    · obtain ⟨b, off, z, rfl, hb1, hb2, hz, hcell⟩ := hE.at hlt
      by_cases hvz : v = z
      · subst hvz
        skip
        go_wp2
        go_ret
        exact ⟨_, rfl, ⟨fun _ => List.mem_of_getElem? hz.out, fun _ => by omega⟩, hm⟩
      · have hvb : (v == z) = false := by simpa using hvz
        go_wp2
        go_roundw
        case rel => exact ⟨j + 1, by omega, by go_num, hm, by rw [take_succ_of hz.out, List.mem_append, List.mem_singleton]; exact fun h => h.elim HV.out hvz⟩
        case measure => simp [intOf]; omega
    · go_wp2
      go_ret
      obtain rfl : j = n := by omega
      have hv := HV.out
      rw [List.take_of_length_le (Nat.le_of_eq hlen.out)] at hv
      exact ⟨_, rfl, ⟨fun h => by omega, fun h => absurd h hv⟩, hm⟩

theorem containsInts {ao : Option Addr} {n c lo hi : Nat} {zs : List (Int)} {v : Int} {w : World} (h : Sl w lo hi 1 ao n c (zs.map cI)) :
    Calls Try.prog 48 #[.slice ao n c, .int .i64 v] w fun e w' => e = .returned (.bool (decide (v ∈ zs))) ∧ Qt w w' := by
  go_enter Try.func48, Try.ntmps48
  go_wp2_with fail
  refine (indexInts h).mono ?_
  rintro e w1 ⟨r, rfl, hr, hq⟩
  go_wp2
  go_ret
  exact ⟨ret_bool (by simp [hr]), hq⟩

end Go.Proofs.Ytohoggoggchaeaa
