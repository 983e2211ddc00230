/- What functions of the program do, by the machine: LSteps. -/
import Derived.Test.YtjghbihlgfjebaaDLStepsT
import Derived.KernelRfl
import Derived.Test.YtjghbihlgfjebaaRows
namespace Go.Proofs.Ytjghbihlgfjebaa.Den
open Go.Proofs
set_option maxRecDepth 100000
theorem u8_range {n : Int} (h : (Lit.int .u8 n).wf = true) : 0 ≤ n ∧ n ≤ 255 := by
  simp only [Lit.wf, Bool.and_eq_true, decide_eq_true_eq] at h
  exact h
theorem good_fine {s : Ses} (h : goodS s.e s.it s.b s.ha s.w s.a = true) : s.fine := by
  obtain ⟨h0, h1, h2, h3, h4, h5, h6, h7, h8, h9⟩ := good_len h
  exact ⟨h0, ⟨h1, h2⟩, ⟨h3, h4⟩, h5, ⟨h6, h8⟩, ⟨h7, h9⟩⟩
theorem Ses.come_grow (s : Ses) (p : (Int × Int × List UInt8 × Unit)) : s.ha.length ≤ (s.come p).ha.length ∧ (s.come p).ha.take s.ha.length = s.ha ∧ s.b ≤ (s.come p).b ∧ s.e ≤ (s.come p).e := by
  unfold Ses.come
  repeat' split
  all_goals simp
theorem Ses.next_grow {s : Ses} (h : s.fine) (x0 x1 : Int) (x2 : List UInt8) : s.ha.length ≤ (s.next x0 x1 x2).ha.length ∧ (s.next x0 x1 x2).ha.take s.ha.length = s.ha ∧ s.b ≤ (s.next x0 x1 x2).b ∧ s.e ≤ (s.next x0 x1 x2).e := by
  obtain ⟨-, -, -, ⟨-, hb⟩, -⟩ := h
  unfold Ses.next
  repeat' split
  all_goals first
    | exact Ses.come_grow (Ses.mk s.e s.it s.b s.ha (s.w.eraseIdx x1.toNat) s.a) _
    | (simp; done)
    | (refine ⟨?_, ?_, ?_, ?_⟩ <;> first | (simp; done) | (dsimp only; omega))
theorem Cur.sess_ha (c : Cur) : c.sess.1.ha.length ≤ 62 := by
  obtain ⟨-, -, -, -, h, -⟩ := Cur.sesP_inv c
  unfold Cur.sess
  repeat' split
  all_goals simp
  all_goals omega
theorem law_knows : Knows Try.prog (look [(40, .rd1 drawStepG), (41, .rd1 implStepG), (42, .rd1 specStepG), (29, .rd1 sameSesG), (30, .rd1 implGoodG), (43, .rd1 specGoodG), (24, .rd1 sameTextsG), (44, .rd1 drawCalmG), (12, .rd1 calmG), (10, .rd1 calmG), (45, .rd1 drawNewG), (46, .rd1 newSessionG), (47, .rd1 newSessionG)]) := KnowsL.knows (KnowsL.cons (enters_fn Try.func40 (by kernel_rfl) (by kernel_rfl)) drawStep (KnowsL.cons (enters_fn Try.func41 (by kernel_rfl) (by kernel_rfl)) implStep (KnowsL.cons (enters_fn Try.func42 (by kernel_rfl) (by kernel_rfl)) specStep (KnowsL.cons (enters_fn Try.func29 (by kernel_rfl) (by kernel_rfl)) sameSes (KnowsL.cons (enters_fn Try.func30 (by kernel_rfl) (by kernel_rfl)) implGood (KnowsL.cons (enters_fn Try.func43 (by kernel_rfl) (by kernel_rfl)) specGood (KnowsL.cons (enters_fn Try.func24 (by kernel_rfl) (by kernel_rfl)) sameTexts (KnowsL.cons (enters_fn Try.func44 (by kernel_rfl) (by kernel_rfl)) drawCalm (KnowsL.cons (enters_fn Try.func12 (by kernel_rfl) (by kernel_rfl)) implCalm (KnowsL.cons (enters_fn Try.func10 (by kernel_rfl) (by kernel_rfl)) specCalm (KnowsL.cons (enters_fn Try.func45 (by kernel_rfl) (by kernel_rfl)) drawNew (KnowsL.cons (enters_fn Try.func46 (by kernel_rfl) (by kernel_rfl)) implNewSession (KnowsL.cons (enters_fn Try.func47 (by kernel_rfl) (by kernel_rfl)) specNewSession KnowsL.nil)))))))))))))
theorem law_fun (l r : List Int) (hb : ∀ z ∈ l, 0 ≤ z ∧ z ≤ 255) (hr : ∀ z ∈ r, 0 ≤ z ∧ z ≤ 255) : funK Try.prog (look [(40, .rd1 drawStepG), (41, .rd1 implStepG), (42, .rd1 specStepG), (29, .rd1 sameSesG), (30, .rd1 implGoodG), (43, .rd1 specGoodG), (24, .rd1 sameTextsG), (44, .rd1 drawCalmG), (12, .rd1 calmG), (10, .rd1 calmG), (45, .rd1 drawNewG), (46, .rd1 newSessionG), (47, .rd1 newSessionG)]) (look []) Try.f7 [.sl (.int .u8) l, .sl (.int .u8) r] [] = some (.b true, []) := by
  have e := law_tree l r
  rw [e]
  clear e
  by_cases h0 : IntKind.i64.wrap ((l.length : Int) + (r.length : Int)) > 1048576
  · rw [ifB_true (decide_eq_true h0)]
  have hc : (Cur.mk l 0 0).good 0 := ⟨hb, Int.le_refl _, Int.le_refl _⟩
  have hd : (Cur.mk r 0 0).good 0 := ⟨hr, Int.le_refl _, Int.le_refl _⟩
  rw [ifB_false (decide_eq_false h0), ifT_true (decide_eq_true hc)]
  simp only [List.drop_zero, List.take_length]
  have h1 : (dses l).ha.length ≤ 62 := Cur.sess_ha _
  have h2 : (dses r).ha.length ≤ 62 := Cur.sess_ha _
  have hl1 : (↑(dses l).ha.length : Int) ≤ lim := by unfold lim; omega
  have hl2 : (↑(dses r).ha.length : Int) ≤ lim := by unfold lim; omega
  have hgo : stepB (Ses.mk (dses l).e (dses l).it (dses l).b (dses l).ha (dses l).w (dses l).a) (dsk l) (dsn l) (dst l) = true → (stepO (Ses.mk (dses l).e (dses l).it (dses l).b (dses l).ha (dses l).w (dses l).a) (dsk l) (dsn l) (dst l)).fine ∧ (dses l).ha.length ≤ (stepO (Ses.mk (dses l).e (dses l).it (dses l).b (dses l).ha (dses l).w (dses l).a) (dsk l) (dsn l) (dst l)).ha.length ∧ (stepO (Ses.mk (dses l).e (dses l).it (dses l).b (dses l).ha (dses l).w (dses l).a) (dsk l) (dsn l) (dst l)).ha.take (dses l).ha.length = (dses l).ha ∧ (dses l).b ≤ (stepO (Ses.mk (dses l).e (dses l).it (dses l).b (dses l).ha (dses l).w (dses l).a) (dsk l) (dsn l) (dst l)).b ∧ (dses l).e ≤ (stepO (Ses.mk (dses l).e (dses l).it (dses l).b (dses l).ha (dses l).w (dses l).a) (dsk l) (dsn l) (dst l)).e := by
    intro hB
    have hB2 := hB
    unfold stepB at hB2
    simp only [Bool.and_eq_true] at hB2
    have hf : (dses l).fine := good_fine hB2.1
    unfold stepO
    rw [hB]
    exact ⟨Ses.next_fine hf hB2.2, Ses.next_grow hf _ _ _⟩
  generalize dses r = u at *
  generalize dses l = s at *
  have es : Ses.mk s.e s.it s.b s.ha s.w s.a = s := rfl
  have eu : Ses.mk u.e u.it u.b u.ha u.w u.a = u := rfl
  simp only [es, eu] at *
  generalize stepO s (dsk l) (dsn l) (dst l) = y at *
  generalize stepB s (dsk l) (dsn l) (dst l) = q at *
  cases q with
  | false =>
    by_cases hn : (dnew r).length ≤ 20 <;> simp [hl1, hl2, hn, hd]
  | true =>
    obtain ⟨g1, g2, g3, g4, g5⟩ := hgo rfl
    have g6 := Ses.fine_good g1
    by_cases hn : (dnew r).length ≤ 20 <;> simp [hl1, hl2, hn, hd, g2, g3, g4, g5, g6]
    all_goals rw [if_neg (by omega), if_neg (by omega), if_neg (by omega)]

theorem law_loops : LoopsOk Try.prog (look [(40, .rd1 drawStepG), (41, .rd1 implStepG), (42, .rd1 specStepG), (29, .rd1 sameSesG), (30, .rd1 implGoodG), (43, .rd1 specGoodG), (24, .rd1 sameTextsG), (44, .rd1 drawCalmG), (12, .rd1 calmG), (10, .rd1 calmG), (45, .rd1 drawNewG), (46, .rd1 newSessionG), (47, .rd1 newSessionG)]) (look []) 0 (Try.f7.body.getD .skip) := loopsOk_nil _
end Go.Proofs.Ytjghbihlgfjebaa.Den
