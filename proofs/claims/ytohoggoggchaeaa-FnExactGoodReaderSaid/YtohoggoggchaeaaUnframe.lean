/- Unframing: spec; UnframeAll of both -/
import Derived.Test.YtohoggoggchaeaaFrame
namespace Go.Proofs.Ytohoggoggchaeaa
open Go.ChangeShapes Go.WideShapes Go.ChangeAt Go.RowKit

theorem frame_iff {l t : List UInt8} {b z : UInt8} (h0 : l[0]? = some 126) (h1 : l[1]? = some b) (hz : l[2 + b.toNat]? = some z) (ht : (l.drop 2).take b.toNat = t) :
    frame t = l.take (b.toNat + 3) ↔ (z.toNat : Int) = fsum t := by
  have hb := b.toNat_lt
  have hzb : z.toNat < 256 := z.toNat_lt
  have hfb := fsum_bd t
  have hlen : 2 + b.toNat < l.length := (List.getElem?_eq_some_iff.1 hz).1
  have htl : t.length = b.toNat := by rw [← ht]; simp; omega
  have e1 : l.take (b.toNat + 3) = 126 :: b :: t ++ [z] := by
    match l, h0, h1 with
    | x :: y :: r, h0, h1 =>
      simp only [List.getElem?_cons_zero, List.getElem?_cons_succ, Option.some.injEq] at h0 h1
      subst h0 h1
      simp only [List.drop_succ_cons, List.drop_zero] at ht
      have hz' : r[y.toNat]? = some z := by
        have : 2 + y.toNat = (y.toNat + 1) + 1 := by omega
        rw [this] at hz
        simpa using hz
      have : r.take (y.toNat + 1) = t ++ [z] := by rw [take_succ_of hz', ht]
      simp only [List.take_succ_cons, this, List.cons_append]
  rw [e1]
  simp only [frame, List.cons_append, List.cons.injEq, true_and, List.append_cancel_left_eq, htl, List.append_right_inj]
  have e2 : UInt8.ofNat b.toNat = b := UInt8.toNat_inj.1 (by simp)
  rw [e2]
  simp only [true_and, and_true]
  constructor
  · intro h
    have := congrArg UInt8.toNat h
    simp at this
    omega
  · intro h
    apply UInt8.toNat_inj.1
    simp
    omega

theorem unf_len : ∀ (f : Nat) (l : List UInt8) (out : List (List UInt8)), (unf f l out).1.length ≤ out.length + l.length ∧ (unf f l out).2.1.length ≤ l.length
  | 0, l, out => by simp [unf]
  | f + 1, l, out => by
    simp only [unf]
    repeat' split
    all_goals try (simp; done)
    rename_i h0 h1 h2 h3 h4 h5
    have := unf_len f (l.drop ((l[1]?.getD 0).toNat + 3)) (out ++ [(l.drop 2).take (l[1]?.getD 0).toNat])
    simp at this
    omega

set_option maxHeartbeats 1000000 in
theorem s_unframe {s : List UInt8} {w : World} (hs : s.length ≤ 2000000) :
    Calls Try.prog 40 #[.string ⟨s.toArray⟩] w fun e w' => ∃ ao n c S, e = .returned (.tuple #[.slice ao n c, .string ⟨(unf (s.length + 1) s []).2.1.toArray⟩, .bool (unf (s.length + 1) s []).2.2]) ∧ Chg [] w w' ∧
      Own w' 9 1 ao n c ((unf (s.length + 1) s []).1.map cS) S ∧ (∀ x ∈ S, w.heap.size ≤ x) := by
  generalize hR0 : unf (s.length + 1) s [] = R
  have hR := hid hR0
  clear hR0
  go_enter Try.func40, Try.ntmps40
  go_wp2
  go_loopw [0, 5] (fun v0 v5 wr => ∃ (l : List UInt8) (out : List (List UInt8)) (ao : Option Addr) (n c : Nat) (S : List Nat), l.length ≤ s.length ∧ n + l.length ≤ s.length ∧ v0 = .string ⟨l.toArray⟩ ∧ v5 = .slice ao n c ∧ Chg [] w wr ∧
      Own wr 9 1 ao n c (out.map cS) S ∧ Hid (∀ x ∈ S, w.heap.size ≤ x) ∧ Hid (unf (l.length + 1) l out = R)) (fun v0 _ _ => match v0 with | .string b => b.size | _ => 0)
  case atStart => exact ⟨s, [], _, 0, 0, _, Nat.le_refl _, by omega, rfl, rfl, Chg.refl _ _, Own.nil _ _ _, by simp [Hid], hR⟩
  case round =>
    obtain ⟨l, out, ao, n, c, S, hl, hnl, rfl, rfl, hc, ho, hS, hU⟩ := hrel
    by_cases h0 : l.length = 0
    · obtain rfl : l = [] := List.eq_nil_of_length_eq_zero h0
      go_wp2
      go_ret3
      have e := hU.out
      subst e
      first | exact ⟨_, _, _, _, rfl, hc, ho, hS.out⟩ | exact ⟨_, _, _, rfl, hc, _, ho, hS.out⟩
    · obtain ⟨a, ha⟩ := get_ex (l := l) (k := 0) (by omega)
      have hab : a.toNat < 256 := a.toNat_lt
      have hia := bs_get ha
      have HA := hid ha
      clear ha
      have hne : (l == []) = false := by cases l with | nil => simp at h0 | cons a r => rfl
      by_cases h1 : a = 126
      · subst h1
        have hA1 : (((126 : UInt8).toNat : Int) != 126) = false := by decide
        by_cases h2 : l.length = 1
        · go_wp2
          go_ret3
          have e := hU.out
          rw [unf, if_neg h0, if_neg (by rw [HA.out]; simp), if_pos h2] at e
          subst e
          first | exact ⟨_, _, _, _, rfl, hc, ho, hS.out⟩ | exact ⟨_, _, _, rfl, hc, _, ho, hS.out⟩
        · have h2b : 1 < (l.length : Int) := by omega
          have h2c : ¬ (l.length : Int) < 2 := by omega
          obtain ⟨b, hb⟩ := get_ex (l := l) (k := 1) (by omega)
          have hbb : b.toNat < 256 := b.toNat_lt
          have hib := bs_get hb
          have HB := hid hb
          clear hb
          by_cases h3 : 60 < b.toNat
          · go_wp2
            go_ret3
            have e := hU.out
            rw [unf, if_neg h0, if_neg (by rw [HA.out]; simp), if_neg h2, if_pos (by rw [HB.out]; exact h3)] at e
            subst e
            first | exact ⟨_, _, _, _, rfl, hc, ho, hS.out⟩ | exact ⟨_, _, _, rfl, hc, _, ho, hS.out⟩
          · by_cases h4 : l.length < b.toNat + 3
            · go_wp2
              go_ret3
              have e := hU.out
              rw [unf, if_neg h0, if_neg (by rw [HA.out]; simp), if_neg h2, if_neg (by rw [HB.out]; exact h3), if_pos (by rw [HB.out]; exact h4)] at e
              subst e
              first | exact ⟨_, _, _, _, rfl, hc, ho, hS.out⟩ | exact ⟨_, _, _, rfl, hc, _, ho, hS.out⟩
            · obtain ⟨z, hz⟩ := get_ex (l := l) (k := 2 + b.toNat) (by omega)
              have HZ := hid hz
              clear hz
              have hex := bs_mid (l := l) (a := 2) (b := 2 + b.toNat) rfl
              have hex2 := bs_from l (b.toNat + 3)
              have hex3 := bs_to l (b.toNat + 3)
              have htl : ((l.drop 2).take b.toNat).length = b.toNat := by simp; omega
              have hdl : (l.drop (b.toNat + 3)).length = l.length - (b.toNat + 3) := by simp
              have hfi := fun t ht => frame_iff (t := t) HA.out HB.out HZ.out ht
              generalize hT : (l.drop 2).take b.toNat = t at *
              have hfi2 := hfi t rfl
              clear hfi
              generalize hD : l.drop (b.toNat + 3) = d at *
              have HT := hid hT
              have HD := hid hD
              have htl2 : t.length ≤ 60 := by omega
              have hdl2 : d.length < l.length := by omega
              have hdl3 : d.length + 3 ≤ l.length := by omega
              have HDL := hid hdl
              clear hT hD htl hdl
              by_cases h5 : (z.toNat : Int) = fsum t
              · have h6 : frame t = l.take (b.toNat + 3) := hfi2.2 h5
                have h6b : (frame t == l.take (b.toNat + 3)) = true := by rw [h6]; exact beq_self_eq_true _
                clear h6 hfi2
                have H5 := hid h5
                clear h5
                have q1 : IntKind.i64.wrap ((b.toNat : Int) + 3) = (b.toNat : Int) + 3 := IntWalk.i64_in _ (by omega)
                have q3 : ((b.toNat : Int) + 3).toNat = b.toNat + 3 := by omega
                go_wp2
                refine wp_region_rel 7 (fun i => none) (by kernel_rfl) (by kernel_rfl) (by decide) ?_
                simp only [List.map_cons, List.map_nil, List.take_succ_cons, List.take_zero]
                repeat
                  refine wpRel_det rfl rfl (fun K hK => ?_)
                  apply Exists.intro
                  refine ⟨fun w' hw' => ?_, ?_⟩
                  · repeat (first | (with_reducible refine Fills_val ?_) | ((with_reducible refine Fills_no ?_ ?_); (focus rfl)))
                    with_reducible refine Fills_end ?_
                    have C1 := hw'.cells.1
                    go_simp
                    try rw [if_neg (by omega)]
                    first
                      | (go_at_call 74; exact step_call (s_frame (by omega)))
                      | exact ⟨rfl, Chg.refl _ _⟩
                  go_simp
                  refine hK _ ?_
                  clear hK K
                refine wpRel_nil (fun w1 hw1 _ => ?_)
                repeat (with_reducible refine Fills_val ?_)
                with_reducible refine Fills_end ?_
                simp only [List.drop_succ_cons, List.drop_zero]
                have hc2 := hc.trans hw1
                have ho2 := ho.ext hw1
                have hsz := hw1.size
                clear hc ho hw1
                go_wp2_with (at_builtin; refine wpList_push rfl _ _ _ rfl etStrs ho2 rfl t (by first | rfl | rw [hex]) rfl rfl (by omega) (by omega) ?_; intro ao' c' S' w3 ho1 hc1 hS1)
                go_roundw
                case rel =>
                  refine ⟨d, out ++ [t], ao', n + 1, c', S', by omega, by omega, by first | rfl | rw [hex2], rfl, hc2.trans' hc1 (fun x hx => Or.inr (hS.out x hx)), ho1, ?_, ?_⟩
                  · intro x hx
                    have hsz := hc2.size
                    rcases hS1 x hx with h | h
                    · exact hS.out x h
                    · omega
                  · have e := hU.out
                    rw [unf, if_neg h0, if_neg (by rw [HA.out]; simp), if_neg h2, if_neg (by rw [HB.out]; exact h3), if_neg (by rw [HB.out]; exact h4), if_neg (by rw [HB.out, Option.getD_some, HZ.out, HT.out]; simpa using H5.out), HB.out, Option.getD_some, HT.out, HD.out] at e
                    show unf _ _ _ = R
                    rw [← e]
                    exact unf_fuel _ _ _ _ (by omega) (by omega)
                case measure => simp [ByteArray.size]; omega
              · have h6 : frame t ≠ l.take (b.toNat + 3) := fun e => h5 (hfi2.1 e)
                have h6b : (frame t == l.take (b.toNat + 3)) = false := by simpa using h6
                clear h6 hfi2
                have H5 := hid h5
                clear h5
                have q1 : IntKind.i64.wrap ((b.toNat : Int) + 3) = (b.toNat : Int) + 3 := IntWalk.i64_in _ (by omega)
                have q3 : ((b.toNat : Int) + 3).toNat = b.toNat + 3 := by omega
                go_wp2
                refine wp_region_rel 7 (fun i => none) (by kernel_rfl) (by kernel_rfl) (by decide) ?_
                simp only [List.map_cons, List.map_nil, List.take_succ_cons, List.take_zero]
                repeat
                  refine wpRel_det rfl rfl (fun K hK => ?_)
                  apply Exists.intro
                  refine ⟨fun w' hw' => ?_, ?_⟩
                  · repeat (first | (with_reducible refine Fills_val ?_) | ((with_reducible refine Fills_no ?_ ?_); (focus rfl)))
                    with_reducible refine Fills_end ?_
                    have C1 := hw'.cells.1
                    go_simp
                    try rw [if_neg (by omega)]
                    first
                      | (go_at_call 74; exact step_call (s_frame (by omega)))
                      | exact ⟨rfl, Chg.refl _ _⟩
                  go_simp
                  refine hK _ ?_
                  clear hK K
                refine wpRel_nil (fun w1 hw1 _ => ?_)
                repeat (with_reducible refine Fills_val ?_)
                with_reducible refine Fills_end ?_
                simp only [List.drop_succ_cons, List.drop_zero]
                go_wp2
                go_ret3
                have e := hU.out
                rw [unf, if_neg h0, if_neg (by rw [HA.out]; simp), if_neg h2, if_neg (by rw [HB.out]; exact h3), if_neg (by rw [HB.out]; exact h4), if_pos (by rw [HB.out, Option.getD_some, HZ.out, HT.out]; exact H5.out)] at e
                subst e
                first | exact ⟨_, _, _, _, rfl, hc.trans hw1, ho.ext hw1, hS.out⟩ | exact ⟨_, _, _, rfl, hc.trans hw1, _, ho.ext hw1, hS.out⟩
      · have h1' : a.toNat ≠ 126 := fun h => h1 (UInt8.toNat_inj.1 h)
        have h2 : ((a.toNat : Int) != 126) = true := by simp; omega
        go_wp2
        go_ret3
        have e := hU.out
        rw [unf, if_neg h0, if_pos (by rw [HA.out]; simpa using h1)] at e
        subst e
        first | exact ⟨_, _, _, _, rfl, hc, ho, hS.out⟩ | exact ⟨_, _, _, rfl, hc, _, ho, hS.out⟩
/-- What UnframeAll returns. -/
def uaOk (s : List UInt8) : Bool := decide (s.length ≤ 300)
def uaR (s : List UInt8) : List (List UInt8) × List UInt8 × Bool := if 300 < s.length then ([], [], false) else unf (s.length + 1) s []
theorem uaR_len (s : List UInt8) : (uaR s).1.length ≤ 300 ∧ (uaR s).2.1.length ≤ 300 := by
  unfold uaR
  split
  · simp
  · have := unf_len (s.length + 1) s []
    simp at this
    omega

end Go.Proofs.Ytohoggoggchaeaa
