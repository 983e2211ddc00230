/- Frames: the sums, a frame, unframing; impl and spec -/
import Derived.Test.YtohoggoggchaeaaStrs
import Derived.Test.YtohoggoggchaeaaRel
import Derived.Deep.DeepMust
namespace Go.Proofs.Ytohoggoggchaeaa
open Go.ChangeShapes Go.WideShapes Go.ChangeAt Go.RowKit

def fsum (l : List UInt8) : Int := l.foldl (fun h c => (31 * h + c.toNat) % 251) 1
theorem fsum_bd (l : List UInt8) : 0 ≤ fsum l ∧ fsum l < 251 := by
  have key : ∀ (l : List UInt8) (h : Int), 0 ≤ h → h < 251 → 0 ≤ l.foldl (fun h (c : UInt8) => (31 * h + (c.toNat : Int)) % 251) h ∧ l.foldl (fun h (c : UInt8) => (31 * h + (c.toNat : Int)) % 251) h < 251 := by
    intro l
    induction l with
    | nil => intro h h0 h1; exact ⟨h0, h1⟩
    | cons c l ih => intro h h0 h1; simp only [List.foldl_cons]; apply ih <;> omega
  exact key l 1 (by omega) (by omega)
theorem fsum_snoc (l : List UInt8) (c : UInt8) : fsum (l ++ [c]) = (31 * fsum l + c.toNat) % 251 := by simp [fsum]

set_option maxHeartbeats 400000 in
theorem i_frameSum {s : List UInt8} {w : World} (hs : s.length ≤ 9223372036854775807) :
    Calls Try.prog 76 #[.string ⟨s.toArray⟩] w fun e w' => e = .returned (.int .i64 (fsum s)) ∧ Qt w w' := by
  go_enter Try.func76, Try.ntmps76
  go_wp2
  go_loop [3, 7] (fun h i => ∃ k : Nat, k ≤ s.length ∧ i = .int .i64 k ∧ h = .int .i64 (fsum (s.take k))) (fun _ i => s.length - (intOf i).toNat)
  case atStart => exact ⟨0, Nat.zero_le _, rfl, rfl⟩
  case round =>
    obtain ⟨k, hk, rfl, rfl⟩ := hrel
    have hd := fsum_bd (s.take k)
    by_cases hlt : k < s.length
    · obtain ⟨z, hz⟩ := get_ex hlt
      have hzb : z.toNat < 256 := z.toNat_lt
      have hix := bs_get hz
      have HZ := hid hz
      clear hz
      go_wp2
      go_round
      case rel => exact ⟨k + 1, by omega, by go_num, by rw [take_succ_of HZ.out, fsum_snoc]⟩
      case measure => simp [intOf]; omega
    · go_wp2
      go_ret
      exact ⟨ret_int (by rw [List.take_of_length_le (by omega)]), Qt.refl _⟩

def frame (s : List UInt8) : List UInt8 := 126 :: UInt8.ofNat s.length :: s ++ [UInt8.ofNat (fsum s).toNat]

set_option maxHeartbeats 400000 in
theorem s_sum {s : List UInt8} {w : World} (hs : s.length ≤ 9223372036854775807) :
    Calls Try.prog 88 #[.string ⟨s.toArray⟩] w fun e w' => e = .returned (.int .i64 (fsum s)) ∧ Qt w w' := by
  go_enter Try.func88, Try.ntmps88
  go_wp2
  go_loop [3, 4] (fun h i => ∃ k : Nat, k ≤ s.length ∧ i = .int .i64 k ∧ h = .int .i64 (fsum (s.take k))) (fun _ i => s.length - (intOf i).toNat)
  case atStart => exact ⟨0, Nat.zero_le _, rfl, rfl⟩
  case round =>
    obtain ⟨k, hk, rfl, rfl⟩ := hrel
    have hd := fsum_bd (s.take k)
    by_cases hlt : k < s.length
    · obtain ⟨z, hz⟩ := get_ex hlt
      have hzb : z.toNat < 256 := z.toNat_lt
      have hix := bs_get hz
      have HZ := hid hz
      clear hz
      go_wp2
      go_round
      case rel => exact ⟨k + 1, by omega, by go_num, by rw [take_succ_of HZ.out, fsum_snoc]⟩
      case measure => simp [intOf]; omega
    · go_wp2
      go_ret
      exact ⟨ret_int (by rw [List.take_of_length_le (by omega)]), Qt.refl _⟩

set_option maxHeartbeats 400000 in
theorem s_frame {s : List UInt8} {w : World} (hs : s.length ≤ 60) :
    Calls Try.prog 74 #[.string ⟨s.toArray⟩] w fun e w' => e = .returned (.string ⟨(frame s).toArray⟩) ∧ Chg [] w w' := by
  have hfb := fsum_bd s
  go_enter Try.func74, Try.ntmps74
  go_wp2
  refine wp_region_rel 15 (fun i => match i with | 3 => some (IsNew 5 1 #[.int .u8 s.length]) | 11 => some (IsNew 5 1 #[.int .u8 (fsum s)]) | _ => none) (by kernel_rfl) (by kernel_rfl) (by decide) ?_
  simp only [List.map_cons, List.map_nil, List.take_succ_cons, List.take_zero]
  have hw1 : IntKind.u8.wrap (s.length : Int) = s.length := IntWalk.u8_in _ (by omega)
  have hw2 : IntKind.u8.wrap (fsum s) = fsum s := IntWalk.u8_in _ (by omega)
  repeat
    refine wpRel_det rfl rfl (fun K hK => ?_)
    apply Exists.intro
    refine ⟨fun w' hw' => ?_, ?_⟩
    · repeat (first | (with_reducible refine Fills_val ?_) | ((with_reducible refine Fills_no ?_ ?_); (focus rfl)))
      with_reducible refine Fills_end ?_
      have C1 := hw'.cells.1
      go_simp
      try rw [if_neg (by omega)]
      first
        | (go_at_call 88; exact step_call_qt (s_sum (by omega)))
        | exact ⟨rfl, Chg.refl _ _⟩
    go_simp
    refine hK _ ?_
    clear hK K
  refine wpRel_rel rfl rfl IsNew.keep (fun w' hw' => ?_) (fun K hK => ?_)
  · repeat (first | (with_reducible refine Fills_val ?_) | ((with_reducible refine Fills_no ?_ ?_); (focus rfl)))
    with_reducible refine Fills_end ?_
    have C1 := hw'.cells.1
    go_simp
    exact IsNew.made _ _ _ _
  go_simp
  refine hK _ ?_
  clear hK K
  refine wpRel_det rfl rfl (fun K hK => ?_)
  apply Exists.intro
  refine ⟨fun w' hw' => ?_, ?_⟩
  · repeat (first | (with_reducible refine Fills_val ?_) | ((with_reducible refine Fills_no ?_ ?_); (focus rfl)))
    with_reducible refine Fills_yes ?_ (fun v1 hv1 => ?_)
    · rfl
    repeat (first | (with_reducible refine Fills_val ?_) | ((with_reducible refine Fills_no ?_ ?_); (focus rfl)))
    have C1 := hw'.cells.1
    have hcv := hv1.bytes (P := Try.prog) 112 9 Try.underlying112 Try.underlying5 Try.underlying9 [(s.length : Int)] rfl (by simp; omega) rfl
    with_reducible refine Fills_end ?_
    go_simp
    try rw [if_neg (by omega)]
    exact ⟨rfl, Chg.refl _ _⟩
  go_simp
  refine hK _ ?_
  clear hK K
  repeat
    refine wpRel_det rfl rfl (fun K hK => ?_)
    apply Exists.intro
    refine ⟨fun w' hw' => ?_, ?_⟩
    · repeat (first | (with_reducible refine Fills_val ?_) | ((with_reducible refine Fills_no ?_ ?_); (focus rfl)))
      with_reducible refine Fills_end ?_
      have C1 := hw'.cells.1
      go_simp
      try rw [if_neg (by omega)]
      first
        | (go_at_call 88; exact step_call_qt (s_sum (by omega)))
        | exact ⟨rfl, Chg.refl _ _⟩
    go_simp
    refine hK _ ?_
    clear hK K
  refine wpRel_rel rfl rfl IsNew.keep (fun w' hw' => ?_) (fun K hK => ?_)
  · repeat (first | (with_reducible refine Fills_val ?_) | ((with_reducible refine Fills_no ?_ ?_); (focus rfl)))
    with_reducible refine Fills_end ?_
    have C1 := hw'.cells.1
    go_simp
    exact IsNew.made _ _ _ _
  go_simp
  refine hK _ ?_
  clear hK K
  refine wpRel_det rfl rfl (fun K hK => ?_)
  apply Exists.intro
  refine ⟨fun w' hw' => ?_, ?_⟩
  · repeat (first | (with_reducible refine Fills_val ?_) | ((with_reducible refine Fills_no ?_ ?_); (focus rfl)))
    with_reducible refine Fills_yes ?_ (fun v1 hv1 => ?_)
    · rfl
    repeat (first | (with_reducible refine Fills_val ?_) | ((with_reducible refine Fills_no ?_ ?_); (focus rfl)))
    have C1 := hw'.cells.1
    have hcv := hv1.bytes (P := Try.prog) 112 9 Try.underlying112 Try.underlying5 Try.underlying9 [fsum s] rfl (by simp; omega) rfl
    with_reducible refine Fills_end ?_
    go_simp
    try rw [if_neg (by omega)]
    exact ⟨rfl, Chg.refl _ _⟩
  go_simp
  refine hK _ ?_
  clear hK K
  repeat
    refine wpRel_det rfl rfl (fun K hK => ?_)
    apply Exists.intro
    refine ⟨fun w' hw' => ?_, ?_⟩
    · repeat (first | (with_reducible refine Fills_val ?_) | ((with_reducible refine Fills_no ?_ ?_); (focus rfl)))
      with_reducible refine Fills_end ?_
      have C1 := hw'.cells.1
      go_simp
      try rw [if_neg (by omega)]
      first
        | (fail)
        | exact ⟨rfl, Chg.refl _ _⟩
    go_simp
    refine hK _ ?_
    clear hK K
  refine wpRel_nil (fun w1 hw1 _ => ?_)
  repeat (with_reducible refine Fills_val ?_)
  with_reducible refine Fills_yes ?_ (fun v0 hv0 => ?_)
  · rfl
  repeat (with_reducible refine Fills_val ?_)
  with_reducible refine Fills_yes ?_ (fun v1 hv1 => ?_)
  · rfl
  repeat (with_reducible refine Fills_val ?_)
  with_reducible refine Fills_end ?_
  simp only [List.drop_succ_cons, List.drop_zero]
  go_wp2
  go_ret
  exact ⟨rfl, hw1⟩

/-- What FrameSum and FrameOf return. -/
def fsOf (s : List UInt8) : Int := if 60 < s.length then 0 else fsum s
def frOf (s : List UInt8) : List UInt8 := if 60 < s.length then [] else frame s
def fOk (s : List UInt8) : Bool := decide (s.length ≤ 60)

/-- Unframing: what is told, what is left, whether it is bad. -/
def unf : Nat → List UInt8 → List (List UInt8) → List (List UInt8) × List UInt8 × Bool
  | 0, l, out => (out, l, false)
  | f + 1, l, out =>
    if l.length = 0 then (out, [], false)
    else if l[0]? ≠ some 126 then (out, [], true)
    else if l.length = 1 then (out, l, false)
    else if 60 < (l[1]?.getD 0).toNat then (out, [], true)
    else if l.length < (l[1]?.getD 0).toNat + 3 then (out, l, false)
    else if ((l[2 + (l[1]?.getD 0).toNat]?.getD 0).toNat : Int) ≠ fsum ((l.drop 2).take (l[1]?.getD 0).toNat) then (out, [], true)
    else unf f (l.drop ((l[1]?.getD 0).toNat + 3)) (out ++ [(l.drop 2).take (l[1]?.getD 0).toNat])

theorem unf_fuel : ∀ (f g : Nat) (l : List UInt8) (out : List (List UInt8)), l.length < f → l.length < g → unf f l out = unf g l out
  | 0, _, _, _, h, _ => by omega
  | _ + 1, 0, _, _, _, h => by omega
  | f + 1, g + 1, l, out, h1, h2 => by
    simp only [unf]
    repeat' split
    all_goals first | rfl | skip
    apply unf_fuel <;> simp <;> omega

set_option maxHeartbeats 400000 in
theorem i_unframe {s : List UInt8} {w : World} (hs : s.length ≤ 2000000) :
    Calls Try.prog 44 #[.string ⟨s.toArray⟩] w fun e w' => ∃ ao n c S, e = .returned (.tuple #[.slice ao n c, .string ⟨(unf (s.length + 1) s []).2.1.toArray⟩, .bool (unf (s.length + 1) s []).2.2]) ∧ Chg [] w w' ∧
      Own w' 9 1 ao n c ((unf (s.length + 1) s []).1.map cS) S ∧ (∀ x ∈ S, w.heap.size ≤ x) := by
  generalize hR0 : unf (s.length + 1) s [] = R
  have hR := hid hR0
  clear hR0
  go_enter Try.func44, Try.ntmps44
  go_wp2
  go_loopw [0, 5] (fun v0 v5 wr => ∃ (l : List UInt8) (out : List (List UInt8)) (ao : Option Addr) (n c : Nat) (S : List Nat), l.length ≤ s.length ∧ n + l.length ≤ s.length ∧ v0 = .string ⟨l.toArray⟩ ∧ v5 = .slice ao n c ∧ Chg [] w wr ∧
      Own wr 9 1 ao n c (out.map cS) S ∧ Hid (∀ x ∈ S, w.heap.size ≤ x) ∧ Hid (unf (l.length + 1) l out = R)) (fun v0 _ _ => match v0 with | .string b => b.size | _ => 0)
  case atStart => exact ⟨s, [], _, 0, 0, _, Nat.le_refl _, by omega, rfl, rfl, (Chg.refl _ _).alloc _, Own.new w 9 1 0 #[] rfl (by omega), by simp [Hid], hR⟩
  case round =>
    obtain ⟨l, out, ao, n, c, S, hl, hnl, rfl, rfl, hc, ho, hS, hU⟩ := hrel
    by_cases h0 : l.length = 0
    · obtain rfl : l = [] := List.eq_nil_of_length_eq_zero h0
      go_wp2
      go_ret3
      have e := hU.out
      subst e
      exact ⟨_, _, _, _, rfl, hc, ho, hS.out⟩
    · obtain ⟨a, ha⟩ := get_ex (l := l) (k := 0) (by omega)
      have hab : a.toNat < 256 := a.toNat_lt
      have hia := bs_get ha
      have HA := hid ha
      clear ha
      have hne : (l == []) = false := by cases l with | nil => simp at h0 | cons a r => rfl
      by_cases h1 : a = 126
      · subst h1
        have hA1 : (((126 : UInt8).toNat : Int) != 126) = false := by decide
        by_cases h2 : l.length = 1
        · go_wp2
          go_ret3
          have e := hU.out
          rw [unf, if_neg h0, if_neg (by rw [HA.out]; simp), if_pos h2] at e
          subst e
          exact ⟨_, _, _, _, rfl, hc, ho, hS.out⟩
        · have h2b : ((l.length : Int) == 1) = false := by simp; omega
          obtain ⟨b, hb⟩ := get_ex (l := l) (k := 1) (by omega)
          have hbb : b.toNat < 256 := b.toNat_lt
          have hib := bs_get hb
          have HB := hid hb
          clear hb
          by_cases h3 : 60 < b.toNat
          · go_wp2
            go_ret3
            have e := hU.out
            rw [unf, if_neg h0, if_neg (by rw [HA.out]; simp), if_neg h2, if_pos (by rw [HB.out]; exact h3)] at e
            subst e
            exact ⟨_, _, _, _, rfl, hc, ho, hS.out⟩
          · by_cases h4 : l.length < b.toNat + 3
            · go_wp2
              go_ret3
              have e := hU.out
              rw [unf, if_neg h0, if_neg (by rw [HA.out]; simp), if_neg h2, if_neg (by rw [HB.out]; exact h3), if_pos (by rw [HB.out]; exact h4)] at e
              subst e
              exact ⟨_, _, _, _, rfl, hc, ho, hS.out⟩
            · obtain ⟨z, hz⟩ := get_ex (l := l) (k := 2 + b.toNat) (by omega)
              have hzb : z.toNat < 256 := z.toNat_lt
              have hiz := bs_get hz
              have HZ := hid hz
              clear hz
              have hex := bs_mid (l := l) (a := 2) (b := 2 + b.toNat) rfl
              have hex2 := bs_from l (3 + b.toNat)
              have htl : ((l.drop 2).take b.toNat).length = b.toNat := by simp; omega
              have hdl : (l.drop (3 + b.toNat)).length = l.length - (3 + b.toNat) := by simp
              generalize hT : (l.drop 2).take b.toNat = t at *
              generalize hD : l.drop (3 + b.toNat) = d at *
              have HT := hid hT
              have HD := hid hD
              have htl2 : t.length ≤ 60 := by omega
              have hdl2 : d.length < l.length := by omega
              have hdl3 : d.length + 3 ≤ l.length := by omega
              have HDL := hid hdl
              clear hT hD htl hdl
              by_cases h5 : (z.toNat : Int) = fsum t
              · go_wp2
                have q1 : IntKind.i64.wrap (2 + (b.toNat : Int)) = 2 + (b.toNat : Int) := IntWalk.i64_in _ (by omega)
                have q2 : (0 : Int) ≤ 2 + (b.toNat : Int) := by omega
                have q3 : (2 + (b.toNat : Int)).toNat = 2 + b.toNat := by omega
                have q4 : (2 + (b.toNat : Int)) < (l.length : Int) := by omega
                have q5 : 2 + b.toNat < l.length := by omega
                go_quiet ((go_at_call 76; (try rw [hex]); exact Calls.quiet_of (i_frameSum (by omega))))
                clear q1 q2 q3 q4
                have hc2 := hc.qt ((Qt.refl wr).drewN nq)
                have ho2 := ho.ext (((Qt.refl wr).drewN nq).chg [])
                clear hc ho
                generalize wr.drewN nq = w2 at *
                go_wp2_with (at_builtin; refine wpList_push rfl _ _ _ rfl etStrs ho2 rfl t (by first | rfl | rw [hex]) rfl rfl (by omega) (by omega) ?_; intro ao' c' S' w1 ho1 hc1 hS1)
                go_roundw
                case rel =>
                  refine ⟨d, out ++ [t], ao', n + 1, c', S', by omega, by omega, by rw [hex2], rfl, hc2.trans' hc1 (fun x hx => Or.inr (hS.out x hx)), ho1, ?_, ?_⟩
                  · intro x hx
                    have hsz := hc2.size
                    rcases hS1 x hx with h | h
                    · exact hS.out x h
                    · omega
                  · have e := hU.out
                    rw [unf, if_neg h0, if_neg (by rw [HA.out]; simp), if_neg h2, if_neg (by rw [HB.out]; exact h3), if_neg (by rw [HB.out]; exact h4), if_neg (by rw [HB.out, Option.getD_some, HZ.out, HT.out]; simpa using h5), HB.out, Option.getD_some, HT.out, Nat.add_comm b.toNat 3, HD.out] at e
                    show unf _ _ _ = R
                    rw [← e]
                    exact unf_fuel _ _ _ _ (by omega) (by omega)
                case measure => simp [ByteArray.size]; omega
              · have h5b : ((z.toNat : Int) != fsum t) = true := by simpa using h5
                go_wp2
                have q1 : IntKind.i64.wrap (2 + (b.toNat : Int)) = 2 + (b.toNat : Int) := IntWalk.i64_in _ (by omega)
                have q2 : (0 : Int) ≤ 2 + (b.toNat : Int) := by omega
                have q3 : (2 + (b.toNat : Int)).toNat = 2 + b.toNat := by omega
                have q4 : (2 + (b.toNat : Int)) < (l.length : Int) := by omega
                have q5 : 2 + b.toNat < l.length := by omega
                go_quiet ((go_at_call 76; (try rw [hex]); exact Calls.quiet_of (i_frameSum (by omega))))
                go_wp2
                go_ret3
                have e := hU.out
                rw [unf, if_neg h0, if_neg (by rw [HA.out]; simp), if_neg h2, if_neg (by rw [HB.out]; exact h3), if_neg (by rw [HB.out]; exact h4), if_pos (by rw [HB.out, Option.getD_some, HZ.out, HT.out]; exact h5)] at e
                subst e
                exact ⟨_, _, _, _, rfl, hc.qt ((Qt.refl _).drewN _), ho.ext (((Qt.refl wr).drewN nq).chg []), hS.out⟩
      · have h1' : a.toNat ≠ 126 := fun h => h1 (UInt8.toNat_inj.1 h)
        have h2 : ((a.toNat : Int) != 126) = true := by simp; omega
        go_wp2
        go_ret3
        have e := hU.out
        rw [unf, if_neg h0, if_pos (by rw [HA.out]; simpa using h1)] at e
        subst e
        exact ⟨_, _, _, _, rfl, hc, ho, hS.out⟩
end Go.Proofs.Ytohoggoggchaeaa
