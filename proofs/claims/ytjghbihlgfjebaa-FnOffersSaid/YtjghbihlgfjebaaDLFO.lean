/- What functions of the program do, by the machine: LFO. -/
import Derived.Test.YtjghbihlgfjebaaDLFOT
import Derived.KernelRfl
import Derived.Test.YtjghbihlgfjebaaRows
namespace Go.Proofs.Ytjghbihlgfjebaa.Den
open Go.Proofs
set_option maxRecDepth 100000
theorem Que.hndR_w (q : Que) : (q.hndR.drop q.hndP) = q.hndO.1.w ∧ q.hndP + q.hndO.1.w.length = q.hndR.length ∧ q.hndP ≤ 1 := by
  unfold Que.hndO Que.hndR Que.hndP
  split
  · rename_i h
    simp only [Que.hnd, List.length_drop]
    refine ⟨trivial, by omega, by omega⟩
  · decide
theorem u8_range {n : Int} (h : (Lit.int .u8 n).wf = true) : 0 ≤ n ∧ n ≤ 255 := by
  simp only [Lit.wf, Bool.and_eq_true, decide_eq_true_eq] at h
  exact h
theorem putL_len {l : List Int} {x : Int} (h : x ∉ l) : (putL l x).length = l.length + 1 := by
  rw [putL_new h]; exact insAt_length (cntLt_le l x)
/-- What an offer tells. -/
theorem Que.off_tells {q : Que} (f : q.Fine) (h : q.n ≠ 100) : q.off.1.n = q.n + 1 ∧ (0 ≤ q.off.2 ↔ (q.w.length : Int) = q.c) ∧ (0 ≤ q.off.2 → q.off.1.d.length = q.d.length + 1 ∧ (q.r = 1 → q.off.2 = q.w.getD 0 0) ∧ (q.r = 2 → q.off.2 = q.w.getD (q.w.length - 1) 0) ∧ (q.r ≠ 1 → q.r ≠ 2 → q.off.2 = q.n)) := by
  have f1 := f.c; have f2 := f.r; have f3 := f.n; have f4 := f.wc
  have fw : ∀ y ∈ q.w, 0 ≤ y := fun y hy => (f.lo y (by simp [hy])).1
  unfold Que.off
  by_cases h2 : (q.w.length : Int) < q.c
  · simp only [if_pos h2]
    refine ⟨trivial, by omega, by omega⟩
  · have hpos : 0 < q.w.length := by omega
    have hlt : q.w.length - 1 < q.w.length := by omega
    have m0 : q.w.getD 0 0 ∈ q.w := by
      have : q.w.getD 0 0 = q.w[0] := by simp [List.getD, hpos]
      rw [this]; exact List.getElem_mem hpos
    have m1 : q.w.getD (q.w.length - 1) 0 ∈ q.w := by
      have : q.w.getD (q.w.length - 1) 0 = q.w[q.w.length - 1] := by simp [List.getD, hlt]
      rw [this]; exact List.getElem_mem hlt
    have hc : (q.w.length : Int) = q.c := by omega
    have hnd : q.n ∉ q.d := fun hc => f.new (by simp [hc])
    simp only [if_neg h2]
    by_cases h3 : q.r = 3
    · simp only [if_pos h3]
      exact ⟨trivial, ⟨fun _ => hc, fun _ => f3.1⟩, fun _ => ⟨putL_len hnd, by omega, by omega, fun _ _ => trivial⟩⟩
    · simp only [if_neg h3]
      by_cases h4 : q.r = 1
      · simp only [if_pos h4]
        exact ⟨trivial, ⟨fun _ => hc, fun _ => fw _ m0⟩, fun _ => ⟨putL_len (f.no_d m0), fun _ => trivial, by omega, by omega⟩⟩
      · simp only [if_neg h4]
        exact ⟨trivial, ⟨fun _ => hc, fun _ => fw _ m1⟩, fun _ => ⟨putL_len (f.no_d m1), by omega, fun _ => trivial, by omega⟩⟩
theorem law_fun (l r : List Int) (hb : ∀ z ∈ l, 0 ≤ z ∧ z ≤ 255) (hr : ∀ z ∈ r, 0 ≤ z ∧ z ≤ 255) : funK Try.prog (look [(48, .rd1 dgqG), (49, .rd1 offerG), (50, .rd1 offerG), (36, .rd1 sameQG), (37, .rd1 goodQG), (51, .rd1 goodQG), (52, .rd1 dgqG), (53, .rd1 handIG), (54, .rd1 handG), (55, .rd1 gapsG), (56, .rd1 gapsG), (57, .rd1 dwhereG), (39, .rd1 whereG), (58, .rd1 whereG)]) (look []) Try.f8 [.sl (.int .u8) l, .sl (.int .u8) r] [] = some (.b true, []) := by
  rw [law_tree]
  by_cases h0 : IntKind.i64.wrap ((l.length : Int) + (r.length : Int)) > 1048576
  · rw [ifB_true (decide_eq_true h0)]
  have hc : (Cur.mk l 0 0).good 0 := ⟨hb, Int.le_refl _, Int.le_refl _⟩
  have hd : (Cur.mk r 0 0).good 0 := ⟨hr, Int.le_refl _, Int.le_refl _⟩
  rw [ifB_false (decide_eq_false h0), ifT_true (decide_eq_true hc)]
  have eta : ∀ q : Que, Que.mk q.c q.r q.n q.w q.h q.d = q := fun _ => rfl
  simp only [List.drop_zero, List.take_length, eta]
  generalize dque l = q
  generalize dno r = no
  generalize dque r = h
  obtain ⟨u1, u2, u3⟩ := Que.hndR_w h
  have u4 : List.take h.hndO.1.w.length (List.drop h.hndP h.hndR) = h.hndO.1.w := by rw [u1, List.take_length]
  simp only [u4, hd, decide_true, ifT_t]
  clear u1 u2 u3 u4
  have tail : (ifB (!h.hndO.2.2) (some (V.b true, [])) (ifT (decide ((0 : Int) ≤ 0) && decide ((0 : Int) < (h.w.length : Int))) (ifSome h.w[0]? fun z => ifB (h.hndO.2.1 == z) (some (V.b (goodQ h.hndO.1.c h.hndO.1.r h.hndO.1.n h.hndO.1.w h.hndO.1.h h.hndO.1.d), [])) (some (V.b false, [])))) : Option (V × List (Option Blk))) = some (.b true, []) := by
    unfold Que.hndO
    by_cases hk : h.good = true ∧ h.w.length ≠ 0
    · have hpos : 0 < h.w.length := by omega
      have hgd : goodQ h.hnd.1.c h.hnd.1.r h.hnd.1.n h.hnd.1.w h.hnd.1.h h.hnd.1.d = true := (Que.hnd_fine (Que.fine hk.1) (fun e => hk.2 (by rw [e]; rfl))).good
      have he : h.hnd.2 = h.w[0] := by unfold Que.hnd; simp [List.getD, hpos]
      rw [if_pos hk]
      dsimp only
      rw [ifB_false (by rfl), ifT_true (by simp only [Bool.and_eq_true, decide_eq_true_eq]; omega), List.getElem?_eq_getElem hpos, ifSome_s, ifB_true (by rw [he]; simp), hgd]
    · rw [if_neg hk]
      rfl
  simp only [bne_self_eq_false, beq_self_eq_true, Bool.not_true, ifB_f, and_self, decide_true, tail]
  clear tail
  unfold Que.offO
  by_cases hk : q.good = true ∧ q.n ≠ 100
  rotate_left
  · simp only [if_neg hk]
    rfl
  have f := Que.fine hk.1
  have f1 := f.c; have f3 := f.n; have f4 := f.wc; have f5 := f.sum
  obtain ⟨t1, t2, t3⟩ := Que.off_tells f hk.2
  have t4 : goodQ q.off.1.c q.off.1.r q.off.1.n q.off.1.w q.off.1.h q.off.1.d = true := (Que.off_fine f hk.2).good
  rw [t1] at t4
  simp only [if_pos hk, ifB_t, t1, t4]
  have e1 : (decide (q.off.2 ≥ 0) == ((q.w.length : Int) == q.c)) = true := by
    by_cases h1 : (q.w.length : Int) = q.c
    · rw [decide_eq_true (t2.2 h1)]; simp [h1]
    · rw [decide_eq_false (fun hh => h1 (t2.1 hh))]; simp [h1]
  rw [ifB_false (by rw [e1]; rfl), ifB_false (by rw [wrap_id (by omega) (by omega)]; simp), ifB_false (by first | rfl | (rw [t4]; rfl))]
  by_cases h0 : 0 ≤ q.off.2
  rotate_left
  · rw [ifB_false (decide_eq_false h0)]
  rw [ifB_true (decide_eq_true h0)]
  obtain ⟨t5, t6, t7, t8⟩ := t3 h0
  have hwc := t2.1 h0
  have hpos : 0 < q.w.length := by omega
  have hlt : q.w.length - 1 < q.w.length := by omega
  have g0 : q.w.getD 0 0 = q.w[0] := by simp [List.getD, hpos]
  have g1 : q.w.getD (q.w.length - 1) 0 = q.w[q.w.length - 1] := by simp [List.getD, hlt]
  have w2 : IntKind.i64.wrap ((q.w.length : Int) - 1) = ((q.w.length - 1 : Nat) : Int) := by rw [wrap_id (by omega) (by omega)]; omega
  have w3 : IntKind.i64.wrap ((q.d.length : Int) + 1) = (q.d.length : Int) + 1 := wrap_id (by omega) (by omega)
  simp only [w2, w3, t5, Int.toNat_natCast, Nat.zero_add, List.getElem?_eq_getElem hpos, List.getElem?_eq_getElem hlt, ifSome_s]
  have e5 : ((((q.d.length + 1 : Nat) : Int)) != (q.d.length : Int) + 1) = false := by simp
  by_cases h1 : q.r = 1
  · rw [ifB_true (by simp [h1]), ifT_true (by simp only [Bool.and_eq_true, decide_eq_true_eq]; omega), ifB_false (by rw [t6 h1, g0]; simp), ifB_false e5]
  · rw [ifB_false (by simp [h1])]
    by_cases h2 : q.r = 2
    · rw [ifB_true (by simp [h2]), ifT_true (by simp only [Bool.and_eq_true, decide_eq_true_eq]; omega), ifB_false (by rw [t7 h2, g1]; simp), ifB_false e5]
    · rw [ifB_false (by simp [h2]), ifB_false (by rw [t8 h1 h2]; simp), ifB_false e5]
end Go.Proofs.Ytjghbihlgfjebaa.Den
