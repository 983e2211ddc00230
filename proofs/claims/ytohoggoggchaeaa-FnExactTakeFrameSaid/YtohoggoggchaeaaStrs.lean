/- Slices of strings: laws.toStringS, eq, mark, held, sz; written by gen_leaf.py -/
import Derived.Test.YtohoggoggchaeaaText
import Derived.Test.YtohoggoggchaeaaRows
namespace Go.Proofs.Ytohoggoggchaeaa
open Go.ChangeShapes Go.WideShapes Go.ChangeAt Go.RowKit

theorem etStrs : ET Try.prog 32 9 1 16 (.string ⟨#[]⟩) := ⟨Try.underlying32, by kernel_rfl, rfl, by omega⟩

set_option maxHeartbeats 400000 in
theorem toStrs {ao : Option Addr} {n c lo hi : Nat} {zs : List (List UInt8)} {w : World} (h : Sl w lo hi 1 ao n c (zs.map cS)) (hhi : hi ≤ w.heap.size) (hn : n ≤ 1048576) :
    Calls Try.prog 41 #[.slice ao n c] w fun e w' => ∃ ao' c' S, e = .returned (.slice ao' n c') ∧ Chg [] w w' ∧ Own w' 9 1 ao' n c' (zs.map cS) S ∧ ∀ x ∈ S, w.heap.size ≤ x := by
  have hle := h.le
  have hlen : Hid (zs.length = n) := h.length
  go_enter Try.func41, Try.ntmps41
  go_wp2_with (at_make; refine wpList_make rfl _ _ _ rfl etStrs _ _ n rfl rfl rfl rfl (by omega) (by omega) ?_; intro w1 hown1 hchg1)
  go_loopw [4] (fun i wr => ∃ j : Nat, j ≤ n ∧ i = .int .i64 j ∧ Chg [] w wr ∧ Own wr 9 1 (some ⟨w.heap.size, 0, none⟩) n n ((zs.take j ++ List.replicate (n - j) ([] : List UInt8)).map cS) [w.heap.size]) (fun i _ => n - (intOf i).toNat)
  case atStart => exact ⟨0, Nat.zero_le _, rfl, hchg1, by rw [show (Value.string ⟨#[]⟩).cells = #[Value.string ⟨#[]⟩] from rfl, made_one] at hown1; simpa using hown1⟩
  case round =>
    obtain ⟨j, hj, rfl, hc, ho⟩ := hrel
    by_cases hlt : j < n
    · obtain ⟨b, off, z, rfl, hb1, hb2, hz, hcell⟩ := (h.ext hc hhi).at hlt
      obtain ⟨b', off', z', he, hS, hz', hcell', hfr'⟩ := ho.at hlt
      simp at he hS
      obtain ⟨rfl, rfl⟩ := he
      have hp := ho.put hlt z
      simp only [Nat.zero_add] at hcell' hfr' hp
      clear hS
      go_wp2
      go_roundw
      case rel =>
        have := hlen.out
        refine ⟨j + 1, by omega, by go_num, hc.setCell (by right; simp) _, ?_⟩
        rw [take_succ_of hz.out]
        rw [fill_set (by simp; omega) (by simp; omega)] at hp
        simpa [List.drop_replicate, Nat.sub_sub] using hp
      case measure => simp [intOf]; omega
    · go_wp2
      go_ret
      have := hlen.out
      obtain rfl : j = n := by omega
      exact ⟨_, _, _, rfl, hc, by simpa [List.take_of_length_le (Nat.le_of_eq this)] using ho, by simp⟩

set_option maxHeartbeats 400000 in
theorem eqStrs {ao ao2 : Option Addr} {n n2 c c2 lo hi lo2 hi2 : Nat} {zs zs2 : List (List UInt8)} {w : World} (h : Sl w lo hi 1 ao n c (zs.map cS)) (h2 : Sl w lo2 hi2 1 ao2 n2 c2 (zs2.map cS)) :
    Calls Try.prog 45 #[.slice ao n c, .slice ao2 n2 c2] w fun e w' => e = .returned (.bool (decide (zs = zs2))) ∧ Qt w w' := by
  have hle := h.le
  have hmx := h.max
  have hle2 := h2.le
  have hmx2 := h2.max
  have hlen : Hid (zs.length = n) := h.length
  have hlen2 : Hid (zs2.length = n2) := h2.length
  by_cases hne : n = n2
  · subst hne
    go_enter Try.func45, Try.ntmps45
    go_wp2
    go_loopw [5] (fun i wr => ∃ j : Nat, j ≤ n ∧ i = .int .i64 j ∧ Hid (zs.take j = zs2.take j) ∧ Qt w wr) (fun i _ => n - (intOf i).toNat)
    case atStart => exact ⟨0, Nat.zero_le _, rfl, rfl, Qt.refl w⟩
    case round =>
      obtain ⟨j, hj, rfl, heq, hm⟩ := hrel
      have hh := hm.heap
      have hE := h.keep (w' := wr) (fun b _ _ => by rw [hh])
      have hE2 := h2.keep (w' := wr) (fun b _ _ => by rw [hh])
      clear hh
      by_cases hlt : j < n
      · obtain ⟨b, off, z, rfl, hb1, hb2, hz, hcell⟩ := hE.at hlt
        obtain ⟨b', off', z', rfl, hb1', hb2', hz', hcell'⟩ := hE2.at hlt
        have i1 : (0 : Int) ≤ j := by omega
        have i2 : (j : Int) < n := by omega
        by_cases hzz : z = z'
        · subst hzz
          go_wp2
          go_quiet (fail)
          go_wp2
          go_roundw
          case rel => exact ⟨j + 1, by omega, by go_num, by rw [take_succ_of hz.out, take_succ_of hz'.out, heq.out]; rfl, hm.drewN _⟩
          case measure => simp [intOf]; omega
        · have hzb : (z == z') = false := by simpa using hzz
          go_wp2
          go_quiet (fail)
          go_wp2
          go_ret
          exact ⟨ret_bool (by simp; rintro rfl; have := hz.out; rw [hz'.out] at this; first | (simp at this; done) | (simp at this; exact hzz this.symm)), hm.drewN _⟩
      · go_wp2
        go_ret
        obtain rfl : j = n := by omega
        have e := heq.out
        rw [List.take_of_length_le (Nat.le_of_eq hlen.out), List.take_of_length_le (Nat.le_of_eq hlen2.out)] at e
        exact ⟨ret_bool (by simp [e]), hm⟩
  · have hnb : ((n : Int) != (n2 : Int)) = true := by simp; omega
    go_enter Try.func45, Try.ntmps45
    go_wp2
    go_ret
    exact ⟨ret_bool (by simp; rintro rfl; exact hne (hlen.out.symm.trans hlen2.out)), Qt.refl _⟩

def marksStrs (k : Int) (n : Nat) : List (List UInt8) := (List.range n).map fun i : Nat => mt (k + i)
theorem marksStrs_succ (k : Int) (n : Nat) : marksStrs k (n + 1) = marksStrs k n ++ [mt (k + n)] := by simp [marksStrs, List.range_succ]
@[simp] theorem marksStrs_length (k : Int) (n : Nat) : (marksStrs k n).length = n := by simp [marksStrs]
theorem marksStrs_get (k : Int) (n j : Nat) (h : j < n) : (marksStrs k n)[j]? = some (mt (k + j)) := by simp [marksStrs, h]

set_option maxHeartbeats 400000 in
theorem markStrs {ao : Option Addr} {n c : Nat} {zs : List (List UInt8)} {S : List Nat} {k : Int} {w : World} (h : Own w 9 1 ao n c (zs.map cS) S) (hk : 0 ≤ k) (hk2 : k + n ≤ 1000000000) :
    Calls Try.prog 52 #[.slice ao n c, .int .i64 k] w fun e w' => e = .returned (.int .i64 (k + n)) ∧ Chg S w w' ∧ Own w' 9 1 ao n c ((marksStrs k n).map cS) S := by
  have hle := h.le
  have hmx := h.max
  have hlen : Hid (zs.length = n) := h.length
  go_enter Try.func52, Try.ntmps52
  go_wp2
  go_loopw [1, 5] (fun kk i wr => ∃ j : Nat, j ≤ n ∧ i = .int .i64 j ∧ kk = .int .i64 (k + j) ∧ Chg S w wr ∧ Own wr 9 1 ao n c ((marksStrs k j ++ zs.drop j).map cS) S) (fun _ i _ => n - (intOf i).toNat)
  case atStart => exact ⟨0, Nat.zero_le _, rfl, by simp, Chg.refl _ _, by simpa [marksStrs] using h⟩
  case round =>
    obtain ⟨j, hj, rfl, rfl, hc, ho⟩ := hrel
    by_cases hlt : j < n
    · obtain ⟨b, off, z, rfl, rfl, hz, hcell, hfr⟩ := ho.at hlt
      clear hcell hfr
      go_wp2_with (go_at_call 80; refine (markText (by omega)).mono ?_; rintro e w1 ⟨rfl, hc1⟩; have ho1 := ho.ext hc1; obtain ⟨b1, off1, z1, he, hS, hz1, hcell1, hfr1⟩ := ho1.at hlt; simp at he; obtain ⟨rfl, rfl⟩ := he; clear hS)
      go_roundw
      case rel =>
        have := hlen.out
        have hp := ho1.put hlt (mt (k + j))
        refine ⟨j + 1, by omega, by go_num, by go_num, (hc.trans (hc1.mono (by simp))).setCell (by simp) _, ?_⟩
        rw [marksStrs_succ]
        rw [fill_set (by simp) (by simp; omega)] at hp
        simpa using hp
      case measure => simp [intOf]; omega
    · go_wp2
      go_ret
      have := hlen.out
      obtain rfl : j = n := by omega
      exact ⟨rfl, hc, by simpa [List.drop_of_length_le (Nat.le_of_eq this)] using ho⟩

set_option maxHeartbeats 400000 in
theorem heldStrs {ao : Option Addr} {n c lo hi : Nat} {k : Int} {w : World} (h : Sl w lo hi 1 ao n c ((marksStrs k n).map cS)) (hhi : hi ≤ w.heap.size) (hk : 0 ≤ k) (hk2 : k + n ≤ 1000000000) :
    Calls Try.prog 55 #[.slice ao n c, .int .i64 k] w fun e w' => e = .returned (.int .i64 (k + n)) ∧ Chg [] w w' := by
  have hle := h.le
  have hmx := h.max
  go_enter Try.func55, Try.ntmps55
  go_wp2
  go_loopw [1, 5] (fun kk i wr => ∃ j : Nat, j ≤ n ∧ i = .int .i64 j ∧ kk = .int .i64 (k + j) ∧ Chg [] w wr) (fun _ i _ => n - (intOf i).toNat)
  case atStart => exact ⟨0, Nat.zero_le _, rfl, by simp, Chg.refl _ _⟩
  case round =>
    obtain ⟨j, hj, rfl, rfl, hc⟩ := hrel
    by_cases hlt : j < n
    · obtain ⟨b, off, z, rfl, hb1, hb2, hz, hcell⟩ := (h.ext hc hhi).at hlt
      obtain rfl : mt (k + j) = z := by have := hz.out; rw [marksStrs_get k n j hlt] at this; simpa using this
      have hsz := hc.size
      have i1 : (0 : Int) ≤ j := by omega
      have i2 : (j : Int) < n := by omega
      go_wp2
      refine wp_region_ext (by kernel_rfl) (by kernel_rfl) ?_
      have hbl : b < wr.heap.size := by omega
      repeat (refine wpQuiet_ex rfl (fun K hK => ?_); apply Exists.intro; refine ⟨fun w' hw' => ?_, ?_⟩; (focus (have C1 := hw'.cells.1; go_simp; first | (go_at_call 80; exact ext_of (markText (by omega)) hw') | (with_reducible exact rfl))); go_simp; refine hK _ ?_; clear hK K)
      refine wpQuiet_nil ?_
      intro w1 hw1
      have hc' := hc.trans hw1
      go_wp2
      go_roundw
      case rel => exact ⟨j + 1, by omega, by go_num, by go_num, hc'⟩
      case measure => simp [intOf]; omega
    · go_wp2
      go_ret
      obtain rfl : j = n := by omega
      exact ⟨rfl, hc⟩

set_option maxHeartbeats 400000 in
theorem szStrs {ao : Option Addr} {n c lo hi : Nat} {zs : List (List UInt8)} {k : Int} {w : World} (h : Sl w lo hi 1 ao n c (zs.map cS)) (hb : ∀ z ∈ zs, z.length ≤ 9223372036854775807) (hk : 0 ≤ k) (hk2 : k ≤ 1048576) :
    Calls Try.prog 39 #[.slice ao n c, .int .i64 k] w fun e w' => ∃ r : Int, e = .returned (.int .i64 r) ∧ Qt w w' ∧ -1 ≤ r ∧ (0 ≤ r → r + n + (zs.map List.length).sum ≤ k) := by
  have hle := h.le
  have hmx := h.max
  have hlen : Hid (zs.length = n) := h.length
  by_cases hkn : k - n < 0
  · go_enter Try.func39, Try.ntmps39
    go_wp2
    go_ret
    exact ⟨_, rfl, Qt.refl _, by omega, by omega⟩
  · go_enter Try.func39, Try.ntmps39
    go_wp2
    go_loopw [1, 5] (fun kk i wr => ∃ (j : Nat) (r : Int), j ≤ n ∧ i = .int .i64 j ∧ kk = .int .i64 r ∧ 0 ≤ r ∧ r ≤ 1048576 ∧ Qt w wr ∧ r + n + ((zs.map List.length).take j).sum ≤ k) (fun _ i _ => n - (intOf i).toNat)
    case atStart => exact ⟨0, k - n, Nat.zero_le _, rfl, rfl, by omega, by omega, Qt.refl _, by simp⟩
    case round =>
      obtain ⟨j, r, hj, rfl, rfl, hr0, hr1, hm, hr⟩ := hrel
      have hh := hm.heap
      have hE := h.keep (w' := wr) (fun b _ _ => by rw [hh])
      clear hh
      by_cases hlt : j < n
      · obtain ⟨b, off, z, rfl, hb1, hb2, hz, hcell⟩ := hE.at hlt
        have hzl : z.length ≤ 9223372036854775807 := hb z (List.mem_of_getElem? hz.out)
        have hR := hid hr
        clear hr
        by_cases hlt2 : r - z.length < 0
        · go_wp2
          go_ret
          exact ⟨_, rfl, hm, by omega, by omega⟩
        · go_wp2
          go_roundw
          case rel =>
            have := hR.out
            refine ⟨j + 1, r - z.length, by omega, by go_num, by go_num, by omega, by omega, hm, ?_⟩
            rw [take_succ_of (show (zs.map List.length)[j]? = some z.length by rw [List.getElem?_map, hz.out]; rfl), List.sum_append]; simp only [List.sum_cons, List.sum_nil]; omega
          case measure => simp [intOf]; omega
      · go_wp2
        go_ret
        obtain rfl : j = n := by omega
        rw [List.take_of_length_le (by rw [List.length_map]; exact Nat.le_of_eq hlen.out)] at hr
        exact ⟨_, rfl, hm, by omega, fun _ => by omega⟩

/-- A slice of strings of the call's own, in blocks from lo on. -/
def IsStrs (lo : Nat) (zs : List (List UInt8)) (v : Value) (w : World) : Prop := ∃ ao n c S, v = .slice ao n c ∧ Own w 9 1 ao n c (zs.map cS) S ∧ ∀ x ∈ S, lo ≤ x
theorem IsStrs.keep {lo : Nat} {zs : List (List UInt8)} : ∀ v w1 w2, IsStrs lo zs v w1 → Chg [] w1 w2 → IsStrs lo zs v w2 := fun _ _ _ ⟨ao, n, c, S, h1, h2, h3⟩ hc => ⟨ao, n, c, S, h1, h2.ext hc, h3⟩
theorem IsStrs.keepT {T : List Nat} {lo : Nat} {zs : List (List UInt8)} (hT : ∀ x ∈ T, x < lo) : ∀ v w1 w2, IsStrs lo zs v w1 → Chg T w1 w2 → IsStrs lo zs v w2 :=
  fun _ _ _ ⟨ao, n, c, S, h1, h2, h3⟩ hc => ⟨ao, n, c, S, h1, h2.chg hc (fun x hx hm => by have := h3 x hx; have := hT x hm; omega), h3⟩
theorem IsStrs.low {lo lo' : Nat} {zs : List (List UInt8)} {v : Value} {w : World} (h : IsStrs lo zs v w) (hl : lo' ≤ lo) : IsStrs lo' zs v w := by
  obtain ⟨ao, n, c, S, h1, h2, h3⟩ := h
  exact ⟨ao, n, c, S, h1, h2, fun x hx => Nat.le_trans hl (h3 x hx)⟩
theorem IsStrs.nil (lo : Nat) (w : World) : IsStrs lo [] (.slice none 0 0) w := ⟨none, 0, 0, [], rfl, Own.nil _ _ _, by simp⟩
end Go.Proofs.Ytohoggoggchaeaa
