/- Slices of ints: laws.toIntS, eq, mark, held, sz; written by gen_leaf.py -/
import Derived.Test.YtohoggoggchaeaaLib
import Derived.Test.YtohoggoggchaeaaRows
namespace Go.Proofs.Ytohoggoggchaeaa
open Go.ChangeShapes Go.WideShapes Go.ChangeAt Go.RowKit

theorem etInts : ET Try.prog 22 3 1 8 (.int .i64 0) := ⟨Try.underlying22, by kernel_rfl, rfl, by omega⟩

set_option maxHeartbeats 400000 in
theorem toInts {ao : Option Addr} {n c lo hi : Nat} {zs : List (Int)} {w : World} (h : Sl w lo hi 1 ao n c (zs.map cI)) (hhi : hi ≤ w.heap.size) (hn : n ≤ 1048576) :
    Calls Try.prog 36 #[.slice ao n c] w fun e w' => ∃ ao' c' S, e = .returned (.slice ao' n c') ∧ Chg [] w w' ∧ Own w' 3 1 ao' n c' (zs.map cI) S ∧ ∀ x ∈ S, w.heap.size ≤ x := by
  have hle := h.le
  have hlen : Hid (zs.length = n) := h.length
  go_enter Try.func36, Try.ntmps36
  go_wp2_with (at_make; refine wpList_make rfl _ _ _ rfl etInts _ _ n rfl rfl rfl rfl (by omega) (by omega) ?_; intro w1 hown1 hchg1)
  go_loopw [4] (fun i wr => ∃ j : Nat, j ≤ n ∧ i = .int .i64 j ∧ Chg [] w wr ∧ Own wr 3 1 (some ⟨w.heap.size, 0, none⟩) n n ((zs.take j ++ List.replicate (n - j) (0 : Int)).map cI) [w.heap.size]) (fun i _ => n - (intOf i).toNat)
  case atStart => exact ⟨0, Nat.zero_le _, rfl, hchg1, by rw [show (Value.int IntKind.i64 0).cells = #[Value.int .i64 0] from rfl, made_one] at hown1; simpa using hown1⟩
  case round =>
    obtain ⟨j, hj, rfl, hc, ho⟩ := hrel
    by_cases hlt : j < n
    · obtain ⟨b, off, z, rfl, hb1, hb2, hz, hcell⟩ := (h.ext hc hhi).at hlt
      obtain ⟨b', off', z', he, hS, hz', hcell', hfr'⟩ := ho.at hlt
      simp at he hS
      obtain ⟨rfl, rfl⟩ := he
      have hp := ho.put hlt z
      simp only [Nat.zero_add] at hcell' hfr' hp
      clear hS
      go_wp2
      go_roundw
      case rel =>
        have := hlen.out
        refine ⟨j + 1, by omega, by go_num, hc.setCell (by right; simp) _, ?_⟩
        rw [take_succ_of hz.out]
        rw [fill_set (by simp; omega) (by simp; omega)] at hp
        simpa [List.drop_replicate, Nat.sub_sub] using hp
      case measure => simp [intOf]; omega
    · go_wp2
      go_ret
      have := hlen.out
      obtain rfl : j = n := by omega
      exact ⟨_, _, _, rfl, hc, by simpa [List.take_of_length_le (Nat.le_of_eq this)] using ho, by simp⟩

set_option maxHeartbeats 400000 in
theorem eqInts {ao ao2 : Option Addr} {n n2 c c2 lo hi lo2 hi2 : Nat} {zs zs2 : List (Int)} {w : World} (h : Sl w lo hi 1 ao n c (zs.map cI)) (h2 : Sl w lo2 hi2 1 ao2 n2 c2 (zs2.map cI)) :
    Calls Try.prog 38 #[.slice ao n c, .slice ao2 n2 c2] w fun e w' => e = .returned (.bool (decide (zs = zs2))) ∧ Qt w w' := by
  have hle := h.le
  have hmx := h.max
  have hle2 := h2.le
  have hmx2 := h2.max
  have hlen : Hid (zs.length = n) := h.length
  have hlen2 : Hid (zs2.length = n2) := h2.length
  by_cases hne : n = n2
  · subst hne
    go_enter Try.func38, Try.ntmps38
    go_wp2
    go_loopw [5] (fun i wr => ∃ j : Nat, j ≤ n ∧ i = .int .i64 j ∧ Hid (zs.take j = zs2.take j) ∧ Qt w wr) (fun i _ => n - (intOf i).toNat)
    case atStart => exact ⟨0, Nat.zero_le _, rfl, rfl, Qt.refl w⟩
    case round =>
      obtain ⟨j, hj, rfl, heq, hm⟩ := hrel
      have hh := hm.heap
      have hE := h.keep (w' := wr) (fun b _ _ => by rw [hh])
      have hE2 := h2.keep (w' := wr) (fun b _ _ => by rw [hh])
      clear hh
      by_cases hlt : j < n
      · obtain ⟨b, off, z, rfl, hb1, hb2, hz, hcell⟩ := hE.at hlt
        obtain ⟨b', off', z', rfl, hb1', hb2', hz', hcell'⟩ := hE2.at hlt
        have i1 : (0 : Int) ≤ j := by omega
        have i2 : (j : Int) < n := by omega
        by_cases hzz : z = z'
        · subst hzz
          go_wp2
          go_quiet (fail)
          go_wp2
          go_roundw
          case rel => exact ⟨j + 1, by omega, by go_num, by rw [take_succ_of hz.out, take_succ_of hz'.out, heq.out]; rfl, hm.drewN _⟩
          case measure => simp [intOf]; omega
        · have hzb : (z != z') = true := by simpa using hzz
          go_wp2
          go_quiet (fail)
          go_wp2
          go_ret
          exact ⟨ret_bool (by simp; rintro rfl; have := hz.out; rw [hz'.out] at this; first | (simp at this; done) | (simp at this; exact hzz this.symm)), hm.drewN _⟩
      · go_wp2
        go_ret
        obtain rfl : j = n := by omega
        have e := heq.out
        rw [List.take_of_length_le (Nat.le_of_eq hlen.out), List.take_of_length_le (Nat.le_of_eq hlen2.out)] at e
        exact ⟨ret_bool (by simp [e]), hm⟩
  · have hnb : ((n : Int) != (n2 : Int)) = true := by simp; omega
    go_enter Try.func38, Try.ntmps38
    go_wp2
    go_ret
    exact ⟨ret_bool (by simp; rintro rfl; exact hne (hlen.out.symm.trans hlen2.out)), Qt.refl _⟩

def marksInts (k : Int) (n : Nat) : List (Int) := (List.range n).map fun i : Nat => k + i
theorem marksInts_succ (k : Int) (n : Nat) : marksInts k (n + 1) = marksInts k n ++ [k + n] := by simp [marksInts, List.range_succ]
@[simp] theorem marksInts_length (k : Int) (n : Nat) : (marksInts k n).length = n := by simp [marksInts]
theorem marksInts_get (k : Int) (n j : Nat) (h : j < n) : (marksInts k n)[j]? = some (k + j) := by simp [marksInts, h]

theorem szInts (ao : Option Addr) (n c : Nat) (k : Int) (w : World) (hn : n ≤ 9223372036854775807) (hk : 0 ≤ k) (hk2 : k ≤ 1048576) :
    Calls Try.prog 34 #[.slice ao n c, .int .i64 k] w fun e w' => ∃ r : Int, e = .returned (.int .i64 r) ∧ Qt w w' ∧ -1 ≤ r ∧ (0 ≤ r → r + n ≤ k) := by
  by_cases h : k - n < 0
  all_goals
    go_enter Try.func34, Try.ntmps34
    go_wp2
    go_ret
    exact ⟨_, rfl, Qt.refl _, by omega, by omega⟩

/-- A slice of ints of the call's own, in blocks from lo on. -/
def IsInts (lo : Nat) (zs : List (Int)) (v : Value) (w : World) : Prop := ∃ ao n c S, v = .slice ao n c ∧ Own w 3 1 ao n c (zs.map cI) S ∧ ∀ x ∈ S, lo ≤ x
theorem IsInts.keep {lo : Nat} {zs : List (Int)} : ∀ v w1 w2, IsInts lo zs v w1 → Chg [] w1 w2 → IsInts lo zs v w2 := fun _ _ _ ⟨ao, n, c, S, h1, h2, h3⟩ hc => ⟨ao, n, c, S, h1, h2.ext hc, h3⟩
theorem IsInts.nil (lo : Nat) (w : World) : IsInts lo [] (.slice none 0 0) w := ⟨none, 0, 0, [], rfl, Own.nil _ _ _, by simp⟩
end Go.Proofs.Ytohoggoggchaeaa
