/- What functions of the program do, by the machine: LFQ. -/
import Derived.Test.YtjghbihlgfjebaaDLFQT
import Derived.KernelRfl
import Derived.Test.YtjghbihlgfjebaaRows
namespace Go.Proofs.Ytjghbihlgfjebaa.Den
open Go.Proofs
set_option maxRecDepth 100000
theorem putL_mem {l : List Int} {x y : Int} : y ∈ putL l x ↔ y = x ∨ y ∈ l := by
  unfold putL
  by_cases h : x ∈ l
  · rw [if_pos h]; exact ⟨.inr, fun hh => hh.elim (fun e => e ▸ h) id⟩
  · rw [if_neg h, (insAt_perm l _ x).mem_iff, List.mem_cons]
theorem putL_len {l : List Int} {x : Int} (h : x ∉ l) : (putL l x).length = l.length + 1 := by
  rw [putL_new h]; exact insAt_length (cntLt_le l x)
theorem Que.one_mono (q : Que) (b : Bool) : (∀ x ∈ q.h, x ∈ (q.one b).1.h) ∧ (∀ x ∈ q.d, x ∈ (q.one b).1.d) := by
  have hp : ∀ (l : List Int) (x y : Int), y ∈ l → y ∈ putL l x := fun l x y h => putL_mem.2 (.inr h)
  unfold Que.one
  cases b with
  | true =>
    dsimp only
    split
    · exact ⟨fun _ h => h, fun _ h => h⟩
    · unfold Que.off
      repeat' split
      · exact ⟨fun _ h => h, fun _ h => h⟩
      · exact ⟨fun _ h => h, fun _ h => hp _ _ _ h⟩
      · exact ⟨fun _ h => h, fun _ h => hp _ _ _ h⟩
      · exact ⟨fun _ h => h, fun _ h => hp _ _ _ h⟩
  | false =>
    dsimp only
    split
    · exact ⟨fun _ h => h, fun _ h => h⟩
    · exact ⟨fun _ h => hp _ _ _ h, fun _ h => h⟩
theorem Que.play_mono : ∀ (l : List Bool) (q : Que), (∀ x ∈ q.h, x ∈ (q.play l).1.h) ∧ (∀ x ∈ q.d, x ∈ (q.play l).1.d)
  | [], q => ⟨fun _ h => h, fun _ h => h⟩
  | b :: l, q => by
    obtain ⟨h1, h2⟩ := Que.one_mono q b
    obtain ⟨h3, h4⟩ := Que.play_mono l (q.one b).1
    exact ⟨fun x h => h3 x (h1 x h), fun x h => h4 x (h2 x h)⟩
theorem Que.play_chk : ∀ (l : List Bool) (q : Que) (hd dr : Int), q.good = true → hd < q.n → (∀ y ∈ q.w, hd < y) → ∀ H D : List Int, (∀ x ∈ (q.play l).1.h, x ∈ H) → (∀ x ∈ (q.play l).1.d, x ∈ D) →
    qchk H D l (q.play l).2 dr hd = some (dr + ((q.play l).1.d.length : Int) - q.d.length)
  | [], q, hd, dr, hg, hn, hw, H, D, hH, hD => by
    unfold qchk Que.play
    dsimp only
    congr 1; omega
  | b :: l, q, hd, dr, hg, hn, hw, H, D, hH, hD => by
    have f := Que.fine hg
    have f3 := f.n
    have hg' := Que.one_good hg b
    obtain ⟨m1, m2⟩ := Que.play_mono l (q.one b).1
    have ih := Que.play_chk l (q.one b).1
    have hp : q.play (b :: l) = (((q.one b).1.play l).1, (q.one b).2 :: ((q.one b).1.play l).2) := rfl
    rw [hp] at hH hD ⊢
    clear hp
    dsimp only at hH hD ⊢
    generalize hq : q.one b = qk at *
    obtain ⟨q', k⟩ := qk
    dsimp only at *
    unfold Que.one at hq
    unfold qchk
    cases b with
    | true =>
      dsimp only at hq
      by_cases h1 : q.n = 100
      · rw [if_pos h1] at hq
        obtain ⟨rfl, rfl⟩ := Prod.mk.inj hq
        rw [if_neg (by omega), if_neg (by omega)]
        exact ih hd dr hg hn hw H D hH hD
      · rw [if_neg h1] at hq
        have fw : ∀ y ∈ q.w, 0 ≤ y := fun y hy => (f.lo y (by simp [hy])).1
        have case3 : ∀ g w', q' = ⟨q.c, q.r, q.n + 1, w', q.h, putL q.d g⟩ → k = g → 0 ≤ g → g ∉ q.d → (∀ y ∈ w', y ∈ q.w ∨ y = q.n) →
            (if True ∧ 0 ≤ k then if k ∈ D then qchk H D l (q'.play l).2 (dr + 1) hd else none else if (true = false) ∧ 0 ≤ k then if hd < k ∧ k ∈ H then qchk H D l (q'.play l).2 dr k else none else qchk H D l (q'.play l).2 dr hd) = some (dr + ((q'.play l).1.d.length : Int) - q.d.length) := by
          intro g w' e1 e2 e3 e4 e5
          subst e2
          have hm : k ∈ D := hD k (m2 k (by rw [e1]; exact putL_mem.2 (.inl rfl)))
          rw [if_pos ⟨trivial, e3⟩, if_pos hm]
          have := ih hd (dr + 1) hg' (by rw [e1]; dsimp only; omega) (fun y hy => by
            rw [e1] at hy
            rcases e5 y hy with h | h
            · exact hw y h
            · omega) H D hH hD
          rw [this]
          have hl : q'.d.length = q.d.length + 1 := by rw [e1]; exact putL_len e4
          congr 1; omega
        simp only [true_and] at case3 ⊢
        unfold Que.off at hq
        by_cases h2 : (q.w.length : Int) < q.c
        · rw [if_pos h2] at hq
          obtain ⟨rfl, rfl⟩ := Prod.mk.inj hq
          rw [if_neg (by omega), if_neg (by omega)]
          exact ih hd dr hg' (by dsimp only; omega) (fun y hy => by
            rcases List.mem_append.1 hy with h | h
            · exact hw y h
            · simp at h; omega) H D hH hD
        · have f1 := f.c
          have hpos : 0 < q.w.length := by omega
          rw [if_neg h2] at hq
          by_cases h3 : q.r = 3
          · rw [if_pos h3] at hq
            obtain ⟨e1, e2⟩ := Prod.mk.inj hq
            exact case3 q.n q.w e1.symm e2.symm (by omega) (fun hc => f.new (by simp [hc])) (fun y hy => .inl hy)
          · rw [if_neg h3] at hq
            by_cases h4 : q.r = 1
            · rw [if_pos h4] at hq
              obtain ⟨e1, e2⟩ := Prod.mk.inj hq
              have hm : q.w.getD 0 0 ∈ q.w := by
                have : q.w.getD 0 0 = q.w[0] := by simp [List.getD, hpos]
                rw [this]; exact List.getElem_mem hpos
              refine case3 _ _ e1.symm e2.symm (fw _ hm) (f.no_d hm) (fun y hy => ?_)
              rcases List.mem_append.1 hy with h | h
              · exact .inl (List.mem_of_mem_drop h)
              · simp at h; exact .inr h
            · rw [if_neg h4] at hq
              obtain ⟨e1, e2⟩ := Prod.mk.inj hq
              have hlt : q.w.length - 1 < q.w.length := by omega
              have hm : q.w.getD (q.w.length - 1) 0 ∈ q.w := by
                have : q.w.getD (q.w.length - 1) 0 = q.w[q.w.length - 1] := by simp [List.getD, hlt]
                rw [this]; exact List.getElem_mem hlt
              refine case3 _ _ e1.symm e2.symm (fw _ hm) (f.no_d hm) (fun y hy => ?_)
              rcases List.mem_append.1 hy with h | h
              · exact .inl (List.mem_of_mem_take h)
              · simp at h; exact .inr h
    | false =>
      dsimp only at hq
      rw [if_neg (fun hh => by cases hh.1)]
      by_cases h1 : q.w.length = 0
      · rw [if_pos h1] at hq
        obtain ⟨rfl, rfl⟩ := Prod.mk.inj hq
        rw [if_neg (by omega)]
        exact ih hd dr hg hn hw H D hH hD
      · rw [if_neg h1] at hq
        have hpos : 0 < q.w.length := by omega
        unfold Que.hnd at hq
        obtain ⟨e1, e2⟩ := Prod.mk.inj hq
        have ek : k = q.w[0] := by rw [← e2]; simp [List.getD, hpos]
        have hkw : k ∈ q.w := by rw [ek]; exact List.getElem_mem hpos
        have hk := f.lo k (by simp [hkw])
        have hm : k ∈ H := hH k (m1 k (by rw [← e1, e2]; exact putL_mem.2 (.inl rfl)))
        rw [if_pos ⟨rfl, hk.1⟩, if_pos ⟨hw k hkw, hm⟩]
        have := ih k dr hg' (by rw [← e1]; exact hk.2) (fun y hy => by
          rw [← e1] at hy
          dsimp only at hy
          obtain ⟨i, hi, rfl⟩ := List.getElem_of_mem hy
          rw [List.length_drop] at hi
          rw [List.getElem_drop, ek]
          exact List.pairwise_iff_getElem.1 f.sw _ _ hpos (by omega) (by omega)) H D hH hD
        rw [this]
        have hl : q'.d = q.d := by rw [← e1]
        rw [hl]
theorem playP_w (c r : Int) (l : List Bool) : List.take (Que.view (playP c r l).1).w.length (List.drop (playP c r l).1.2 (playP c r l).1.1.w) = (playO c r l).1.w ∧ (playP c r l).1.2 + (Que.view (playP c r l).1).w.length = (playP c r l).1.1.w.length ∧ (playP c r l).1.1.c = (playO c r l).1.c ∧ (playP c r l).1.1.r = (playO c r l).1.r ∧ (playP c r l).1.1.n = (playO c r l).1.n ∧ (playP c r l).1.1.h = (playO c r l).1.h ∧ (playP c r l).1.1.d = (playO c r l).1.d ∧ (playP c r l).2 = (playO c r l).2 ∧ (Que.view (playP c r l).1).w = (playO c r l).1.w := by
  unfold playP playO
  split
  · obtain ⟨h1, h2, h3⟩ := Que.view_play l (Que.mk c r 0 [] [] [], 0) (Nat.le_refl _)
    have hv : Que.view (Que.mk c r 0 [] [] [], 0) = Que.mk c r 0 [] [] [] := rfl
    rw [hv] at h1 h2
    dsimp only
    generalize Que.playR (Que.mk c r 0 [] [] [], 0) l = x at *
    rw [← h1, ← h2]
    unfold Que.view
    dsimp only
    refine ⟨List.take_of_length_le (Nat.le_refl _), by simp; omega, rfl, rfl, rfl, rfl, rfl, rfl, rfl⟩
  · exact ⟨rfl, rfl, rfl, rfl, rfl, rfl, rfl, rfl, rfl⟩
theorem playO_len (c r : Int) (l : List Bool) : (playO c r l).1.w.length ≤ 1000 ∧ (playO c r l).1.h.length ≤ 1000 ∧ (playO c r l).1.d.length ≤ 1000 ∧ (playO c r l).2.1.length ≤ 1000 := by
  unfold playO
  split
  · rename_i h
    have f := Que.fine (Que.play_good l (show (Que.mk c r 0 [] [] []).good = true from Que.new_good h.1))
    have f3 := f.n; have f5 := f.sum
    have := Que.play_len (Que.mk c r 0 [] [] []) l (Que.mk c r 0 [] [] [])
    dsimp only
    omega
  · decide
theorem u8_range {n : Int} (h : (Lit.int .u8 n).wf = true) : 0 ≤ n ∧ n ≤ 255 := by
  simp only [Lit.wf, Bool.and_eq_true, decide_eq_true_eq] at h
  exact h
theorem law_fun (l : List Int) (hb : ∀ z ∈ l, 0 ≤ z ∧ z ≤ 255) : funK Try.prog (look [(32, .rd1 dplayqG), (33, .rd1 iplayG), (34, .rd1 splayG), (35, .rd1 sameIntsG), (36, .rd1 sameQG), (37, .rd1 goodQG), (38, .rd1 contIntG), (39, .rd1 whereG)]) (look [(15, fq1E), (30, fq2E)]) Try.f6 [.sl (.int .u8) l] [] = some (.b true, []) := by
  rw [law_tree]
  by_cases h0 : (l.length : Int) > 1048576
  · rw [ifB_true (decide_eq_true h0)]
  have hc : (Cur.mk l 0 0).good 0 := ⟨hb, Int.le_refl _, Int.le_refl _⟩
  rw [ifB_false (decide_eq_false h0), ifT_true (decide_eq_true hc)]
  simp only [List.drop_zero, List.take_length]
  have hl : (dqL l).length ≤ 1000 := by
    have h1 : (((Cur.mk l 0 0).pickC 6).pickC 3).good 4 := by (repeat with_reducible apply Cur.pick_le); exact Cur.good_mono hc (by omega)
    have := Cur.offs_len h1
    unfold dqL; omega
  generalize dqL l = L at *
  generalize dqC l = c at *
  generalize dqR l = r at *
  obtain ⟨v1, v2, v3, v4, v5, v6, v7, v8, v9⟩ := playP_w c r L
  rw [v9] at v1 v2
  have hdrop : List.drop (playP c r L).1.2 (playP c r L).1.1.w = (playO c r L).1.w := by
    rw [← v1]; exact (List.take_of_length_le (by rw [List.length_drop]; omega)).symm
  simp only [v9, v3, v4, v5, v6, v7, v8, v1, hdrop]
  simp only [List.take_length]
  rw [ifB_false (by simp), ifB_false (by simp), ifB_false (by simp)]
  by_cases hq : ((1 ≤ c ∧ c ≤ 10) ∧ 1 ≤ r ∧ r ≤ 3) ∧ L.length ≤ 200
  rotate_left
  · have e1 : playO c r L = (Que.zero, [], false) := by unfold playO; rw [if_neg hq]
    rw [e1]
    rfl
  have e1 : playO c r L = (((Que.mk c r 0 [] [] []).play L).1, ((Que.mk c r 0 [] [] []).play L).2, true) := by unfold playO; rw [if_pos hq]
  have hg0 : (Que.mk c r 0 [] [] []).good = true := Que.new_good hq.1
  have hg := Que.play_good L hg0
  have hlen := Que.play_len (Que.mk c r 0 [] [] []) L (Que.mk c r 0 [] [] [])
  have hchk := Que.play_chk L (Que.mk c r 0 [] [] []) (-1) 0 hg0 (by dsimp only; omega) (fun y hy => by cases hy) _ _ (fun _ h => h) (fun _ h => h)
  rw [e1] at v2 ⊢
  clear v1 v3 v4 v5 v6 v7 v8 v9 hdrop e1
  dsimp only at *
  generalize ((Que.mk c r 0 [] [] []).play L).1 = q at *
  generalize ((Que.mk c r 0 [] [] []).play L).2 = t at *
  have f := Que.fine hg
  have f3 := f.n; have f5 := f.sum
  have hgq : goodQ q.c q.r q.n q.w q.h q.d = true := hg
  have w1 : IntKind.i64.wrap ((q.w.length : Int) + q.h.length) = (q.w.length : Int) + q.h.length := wrap_id (by omega) (by omega)
  have w2 : IntKind.i64.wrap ((q.w.length : Int) + q.h.length + q.d.length) = (q.w.length : Int) + q.h.length + q.d.length := wrap_id (by omega) (by omega)
  rw [ifB_false (by rfl), ifB_false (by rw [hgq]; rfl), w1, w2, ifB_false (by simp; omega)]
  have hv : (0 : Int) + (q.d.length : Int) - (([] : List Int).length : Int) = q.d.length := by simp
  rw [hv] at hchk
  rw [hchk]
  rw [ifT_true (by rw [Bool.and_eq_true]; exact ⟨decide_eq_true ⟨by omega, by omega, by trivial, by trivial, by trivial, hlen, hl, by omega, by omega, by trivial, by trivial⟩, rfl⟩)]
  rw [ifB_false (by simp)]
  rw [ifT_true (by rw [hgq, Bool.and_true]; exact decide_eq_true ⟨by omega, by omega, by omega, by trivial, by trivial⟩)]
end Go.Proofs.Ytjghbihlgfjebaa.Den
