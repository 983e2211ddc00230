/- What functions of the program do, by the machine: Top8. -/
import Derived.Test.YtfkoljiioikdfaaDoorDTop7
import Derived.KernelRfl
import Derived.Test.YtfkoljiioikdfaaDoorRows
namespace Go.Proofs.YtfkoljiioikdfaaDoor.Den
open Go.Proofs
set_option maxRecDepth 100000
def tfitsG : List V → List Blk → Br (V × List (Option Blk))
  | [.s p, .s t], [] => .need (decide (p.length ≤ 4000000000 ∧ t.length ≤ 4000000000)) (.leaf (.tup [.b ((lvB (cut 47 p) && tpB (cut 47 t)) && tk inL (cut 47 p) (cut 47 t)), .b (lvB (cut 47 p) && tpB (cut 47 t))], []))
  | _, _ => .no
def pcovG : List V → List Blk → Br (V × List (Option Blk))
  | [.s p, .s t], [] => .need (decide (p.length ≤ 4000000000 ∧ t.length ≤ 4000000000)) (.leaf (.tup [.b ((lvB (cut 47 p) && lvB (cut 47 t)) && tk inL (cut 47 p) (cut 47 t)), .b (lvB (cut 47 p) && lvB (cut 47 t))], []))
  | _, _ => .no
def pmeetG : List V → List Blk → Br (V × List (Option Blk))
  | [.s p, .s t], [] => .need (decide (p.length ≤ 4000000000 ∧ t.length ≤ 4000000000)) (.leaf (.tup [.b ((lvB (cut 47 p) && lvB (cut 47 t)) && mt (cut 47 p) (cut 47 t)), .b (lvB (cut 47 p) && lvB (cut 47 t))], []))
  | _, _ => .no
theorem tp_no35 {l : List (List UInt8)} (h : tpB l = true) : ∀ y ∈ l, y ≠ [35] := by
  rw [tpB_eq, Bool.and_eq_true, List.all_eq_true] at h
  intro y hy e
  have := h.1 y hy
  rw [e, lev35] at this
  cases this
theorem tkS_fit : ∀ (p t : List (List UInt8)), (∀ y ∈ t, y ≠ [35]) → tkS fitL p t = tkS inL p t
  | [], _, _ => rfl
  | x :: p, [], _ => rfl
  | x :: p, y :: t, h => by
    have hy : (y == [35]) = false := beq_false_of_ne (h y (by simp))
    have e : fitL x y = inL x y := by unfold fitL inL; rw [hy]; simp [Bool.or_comm]
    rw [tkS_cons, tkS_cons]
    dsimp only
    rw [e, tkS_fit p t (fun z hz => h z (by simp [hz]))]
theorem tk_fit {p t : List (List UInt8)} (h : tpB t = true) : tk fitL p t = tk inL p t := by
  unfold tk; rw [tkS_fit p t (tp_no35 h)]
theorem tp_lv {l : List (List UInt8)} (h : tpB l = true) : lvB l = true := by
  unfold tpB at h; exact (Bool.and_eq_true _ _ ▸ h).1
theorem itfits_fun (p t : List UInt8) (hc : p.length ≤ 4000000000 ∧ t.length ≤ 4000000000) : funK Tryd.prog (look [(10, .rd1 gpatG), (8, .rd1 gtopG), (33, .rd1 levelsG), (32, .rd1 inG)]) (look []) Tryd.f6 [.s p, .s t] [] = (.leaf (.tup [.b ((lvB (cut 47 p) && tpB (cut 47 t)) && tk inL (cut 47 p) (cut 47 t)), .b (lvB (cut 47 p) && tpB (cut 47 t))], []) : Br (V × List (Option Blk))).run := by
  have e : funK Tryd.prog (look [(10, .rd1 gpatG), (8, .rd1 gtopG), (33, .rd1 levelsG), (32, .rd1 inG)]) (look []) Tryd.f6 [.s p, .s t] [] = ((ifT (decide (p.length ≤ (4000000000 : Nat)))
  (ifB (!lvB (cut (47 : UInt8) p)) (some (V.tup [V.b false, V.b false], []))
  (ifT (decide (t.length ≤ (4000000000 : Nat)))
  (ifB (!tpB (cut (47 : UInt8) t)) (some (V.tup [V.b false, V.b false], []))
  (ifT (decide (p.length ≤ (4000000000 : Nat)))
  (ifB (lvB (cut (47 : UInt8) p))
  (ifT (decide (t.length ≤ (4000000000 : Nat)))
  (ifB (lvB (cut (47 : UInt8) t))
  (some
  (V.tup
  [V.b
  (tk inL (List.take (cut (47 : UInt8) p).length (List.drop (0 : Nat) (cut (47 : UInt8) p)))
  (List.take (cut (47 : UInt8) t).length (List.drop (0 : Nat) (cut (47 : UInt8) t)))),
  V.b true],
  []))
  (some
  (V.tup
  [V.b
  (tk inL (List.take (cut (47 : UInt8) p).length (List.drop (0 : Nat) (cut (47 : UInt8) p)))
  (nilT Cd.str.den)),
  V.b true],
  []))))
  (ifT (decide (t.length ≤ (4000000000 : Nat)))
  (ifB (lvB (cut (47 : UInt8) t))
  (some
  (V.tup
  [V.b
  (tk inL (nilT Cd.str.den)
  (List.take (cut (47 : UInt8) t).length (List.drop (0 : Nat) (cut (47 : UInt8) t)))),
  V.b true],
  []))
  (some (V.tup [V.b true, V.b true], [])))))))))) : _) := by kernel_rfl
  rw [e]
  clear e
  obtain ⟨hp, ht⟩ := hc
  obtain ⟨hz, hpos, hle⟩ := cut_facts hp
  obtain ⟨hz2, hpos2, hle2⟩ := cut_facts ht
  have hp1 : decide (p.length ≤ 4000000000) = true := decide_eq_true hp
  have ht1 : decide (t.length ≤ 4000000000) = true := decide_eq_true ht
  simp only [true_and, hp1, ht1, ifT_t, List.drop_zero, List.take_length]
  cases hA : lvB (cut 47 p) with
  | false => rfl
  | true =>
    cases hB : tpB (cut 47 t) with
    | false => rfl
    | true =>
      have hC := tp_lv hB
      simp only [hC]
      rfl
theorem itfits : Contract Tryd.prog 6 (Ent.rd1 tfitsG).F := by
  refine fun_contract' (KnowsL.cons (enters_fn Tryd.func10 (by kernel_rfl) (by kernel_rfl)) igpat (KnowsL.cons (enters_fn Tryd.func8 (by kernel_rfl) (by kernel_rfl)) igtop (KnowsL.cons (enters_fn Tryd.func33 (by kernel_rfl) (by kernel_rfl)) levels (KnowsL.cons (enters_fn Tryd.func32 (by kernel_rfl) (by kernel_rfl)) tin KnowsL.nil)))).knows (Λ := look []) Tryd.func6 (c := Tryd.f6.body.getD .skip) (by kernel_rfl) fun vs bs r hq hv hb => ?_
  unfold Ent.F tfitsG at hq
  dsimp only at hq
  split at hq
  · rename_i p t
    obtain ⟨hc, hq⟩ := need_some hq
    exact ⟨loopsOk_nil _, (itfits_fun p t (of_decide_eq_true hc)).trans hq⟩
  · cases hq
theorem stfits_fun (p t : List UInt8) (hc : p.length ≤ 4000000000 ∧ t.length ≤ 4000000000) : funK Tryd.prog (look [(11, .rd1 gpatG), (9, .rd1 gtopG), (35, .rd1 lsplG), (34, .rd1 fitG)]) (look []) Tryd.f7 [.s p, .s t] [] = (.leaf (.tup [.b ((lvB (cut 47 p) && tpB (cut 47 t)) && tk inL (cut 47 p) (cut 47 t)), .b (lvB (cut 47 p) && tpB (cut 47 t))], []) : Br (V × List (Option Blk))).run := by
  have e : funK Tryd.prog (look [(11, .rd1 gpatG), (9, .rd1 gtopG), (35, .rd1 lsplG), (34, .rd1 fitG)]) (look []) Tryd.f7 [.s p, .s t] [] = ((ifT (decide (p.length ≤ (4000000000 : Nat)))
  (ifB (!lvB (cut (47 : UInt8) p)) (some (V.tup [V.b false, V.b false], []))
  (ifT (decide (t.length ≤ (4000000000 : Nat)))
  (ifB (!tpB (cut (47 : UInt8) t)) (some (V.tup [V.b false, V.b false], []))
  (ifT (decide ((47 : Int) = (47 : Int) ∧ p.length ≤ (4000000000 : Nat)))
  (ifT (decide ((47 : Int) = (47 : Int) ∧ t.length ≤ (4000000000 : Nat)))
  (some
  (V.tup
  [V.b
  (tk fitL (List.take (cut (47 : UInt8) p).length (List.drop (0 : Nat) (cut (47 : UInt8) p)))
  (List.take (cut (47 : UInt8) t).length (List.drop (0 : Nat) (cut (47 : UInt8) t)))),
  V.b true],
  [])))))))) : _) := by kernel_rfl
  rw [e]
  clear e
  obtain ⟨hp, ht⟩ := hc
  obtain ⟨hz, hpos, hle⟩ := cut_facts hp
  obtain ⟨hz2, hpos2, hle2⟩ := cut_facts ht
  have hp1 : decide (p.length ≤ 4000000000) = true := decide_eq_true hp
  have ht1 : decide (t.length ≤ 4000000000) = true := decide_eq_true ht
  simp only [true_and, hp1, ht1, ifT_t, List.drop_zero, List.take_length]
  cases hA : lvB (cut 47 p) with
  | false => rfl
  | true =>
    cases hB : tpB (cut 47 t) with
    | false => rfl
    | true =>
      have hC := tp_lv hB
      rw [tk_fit hB]
      rfl
theorem stfits : Contract Tryd.prog 7 (Ent.rd1 tfitsG).F := by
  refine fun_contract' (KnowsL.cons (enters_fn Tryd.func11 (by kernel_rfl) (by kernel_rfl)) sgpat (KnowsL.cons (enters_fn Tryd.func9 (by kernel_rfl) (by kernel_rfl)) sgtop (KnowsL.cons (enters_fn Tryd.func35 (by kernel_rfl) (by kernel_rfl)) lspl (KnowsL.cons (enters_fn Tryd.func34 (by kernel_rfl) (by kernel_rfl)) fits KnowsL.nil)))).knows (Λ := look []) Tryd.func7 (c := Tryd.f7.body.getD .skip) (by kernel_rfl) fun vs bs r hq hv hb => ?_
  unfold Ent.F tfitsG at hq
  dsimp only at hq
  split at hq
  · rename_i p t
    obtain ⟨hc, hq⟩ := need_some hq
    exact ⟨loopsOk_nil _, (stfits_fun p t (of_decide_eq_true hc)).trans hq⟩
  · cases hq
theorem ipcov_fun (p t : List UInt8) (hc : p.length ≤ 4000000000 ∧ t.length ≤ 4000000000) : funK Tryd.prog (look [(10, .rd1 gpatG), (33, .rd1 levelsG), (32, .rd1 inG)]) (look []) Tryd.f13 [.s p, .s t] [] = (.leaf (.tup [.b ((lvB (cut 47 p) && lvB (cut 47 t)) && tk inL (cut 47 p) (cut 47 t)), .b (lvB (cut 47 p) && lvB (cut 47 t))], []) : Br (V × List (Option Blk))).run := by
  have e : funK Tryd.prog (look [(10, .rd1 gpatG), (33, .rd1 levelsG), (32, .rd1 inG)]) (look []) Tryd.f13 [.s p, .s t] [] = ((ifT (decide (p.length ≤ (4000000000 : Nat)))
  (ifB (!lvB (cut (47 : UInt8) p)) (some (V.tup [V.b false, V.b false], []))
  (ifT (decide (t.length ≤ (4000000000 : Nat)))
  (ifB (!lvB (cut (47 : UInt8) t)) (some (V.tup [V.b false, V.b false], []))
  (ifT (decide (p.length ≤ (4000000000 : Nat)))
  (ifB (lvB (cut (47 : UInt8) p))
  (ifT (decide (t.length ≤ (4000000000 : Nat)))
  (ifB (lvB (cut (47 : UInt8) t))
  (some
  (V.tup
  [V.b
  (tk inL (List.take (cut (47 : UInt8) p).length (List.drop (0 : Nat) (cut (47 : UInt8) p)))
  (List.take (cut (47 : UInt8) t).length (List.drop (0 : Nat) (cut (47 : UInt8) t)))),
  V.b true],
  []))
  (some
  (V.tup
  [V.b
  (tk inL (List.take (cut (47 : UInt8) p).length (List.drop (0 : Nat) (cut (47 : UInt8) p)))
  (nilT Cd.str.den)),
  V.b true],
  []))))
  (ifT (decide (t.length ≤ (4000000000 : Nat)))
  (ifB (lvB (cut (47 : UInt8) t))
  (some
  (V.tup
  [V.b
  (tk inL (nilT Cd.str.den)
  (List.take (cut (47 : UInt8) t).length (List.drop (0 : Nat) (cut (47 : UInt8) t)))),
  V.b true],
  []))
  (some (V.tup [V.b true, V.b true], [])))))))))) : _) := by kernel_rfl
  rw [e]
  clear e
  obtain ⟨hp, ht⟩ := hc
  obtain ⟨hz, hpos, hle⟩ := cut_facts hp
  obtain ⟨hz2, hpos2, hle2⟩ := cut_facts ht
  have hp1 : decide (p.length ≤ 4000000000) = true := decide_eq_true hp
  have ht1 : decide (t.length ≤ 4000000000) = true := decide_eq_true ht
  simp only [true_and, hp1, ht1, ifT_t, List.drop_zero, List.take_length]
  cases hA : lvB (cut 47 p) with
  | false => rfl
  | true =>
    cases hB : lvB (cut 47 t) with
    | false => rfl
    | true =>
      rfl
theorem ipcov : Contract Tryd.prog 13 (Ent.rd1 pcovG).F := by
  refine fun_contract' (KnowsL.cons (enters_fn Tryd.func10 (by kernel_rfl) (by kernel_rfl)) igpat (KnowsL.cons (enters_fn Tryd.func33 (by kernel_rfl) (by kernel_rfl)) levels (KnowsL.cons (enters_fn Tryd.func32 (by kernel_rfl) (by kernel_rfl)) tin KnowsL.nil))).knows (Λ := look []) Tryd.func13 (c := Tryd.f13.body.getD .skip) (by kernel_rfl) fun vs bs r hq hv hb => ?_
  unfold Ent.F pcovG at hq
  dsimp only at hq
  split at hq
  · rename_i p t
    obtain ⟨hc, hq⟩ := need_some hq
    exact ⟨loopsOk_nil _, (ipcov_fun p t (of_decide_eq_true hc)).trans hq⟩
  · cases hq
theorem spcov_fun (p t : List UInt8) (hc : p.length ≤ 4000000000 ∧ t.length ≤ 4000000000) : funK Tryd.prog (look [(11, .rd1 gpatG), (35, .rd1 lsplG), (41, .rd1 inG)]) (look []) Tryd.f14 [.s p, .s t] [] = (.leaf (.tup [.b ((lvB (cut 47 p) && lvB (cut 47 t)) && tk inL (cut 47 p) (cut 47 t)), .b (lvB (cut 47 p) && lvB (cut 47 t))], []) : Br (V × List (Option Blk))).run := by
  have e : funK Tryd.prog (look [(11, .rd1 gpatG), (35, .rd1 lsplG), (41, .rd1 inG)]) (look []) Tryd.f14 [.s p, .s t] [] = ((ifT (decide (p.length ≤ (4000000000 : Nat)))
  (ifB (!lvB (cut (47 : UInt8) p)) (some (V.tup [V.b false, V.b false], []))
  (ifT (decide (t.length ≤ (4000000000 : Nat)))
  (ifB (!lvB (cut (47 : UInt8) t)) (some (V.tup [V.b false, V.b false], []))
  (ifT (decide ((47 : Int) = (47 : Int) ∧ p.length ≤ (4000000000 : Nat)))
  (ifT (decide ((47 : Int) = (47 : Int) ∧ t.length ≤ (4000000000 : Nat)))
  (some
  (V.tup
  [V.b
  (tk inL (List.take (cut (47 : UInt8) p).length (List.drop (0 : Nat) (cut (47 : UInt8) p)))
  (List.take (cut (47 : UInt8) t).length (List.drop (0 : Nat) (cut (47 : UInt8) t)))),
  V.b true],
  [])))))))) : _) := by kernel_rfl
  rw [e]
  clear e
  obtain ⟨hp, ht⟩ := hc
  obtain ⟨hz, hpos, hle⟩ := cut_facts hp
  obtain ⟨hz2, hpos2, hle2⟩ := cut_facts ht
  have hp1 : decide (p.length ≤ 4000000000) = true := decide_eq_true hp
  have ht1 : decide (t.length ≤ 4000000000) = true := decide_eq_true ht
  simp only [true_and, hp1, ht1, ifT_t, List.drop_zero, List.take_length]
  cases hA : lvB (cut 47 p) with
  | false => rfl
  | true =>
    cases hB : lvB (cut 47 t) with
    | false => rfl
    | true =>
      rfl
theorem spcov : Contract Tryd.prog 14 (Ent.rd1 pcovG).F := by
  refine fun_contract' (KnowsL.cons (enters_fn Tryd.func11 (by kernel_rfl) (by kernel_rfl)) sgpat (KnowsL.cons (enters_fn Tryd.func35 (by kernel_rfl) (by kernel_rfl)) lspl (KnowsL.cons (enters_fn Tryd.func41 (by kernel_rfl) (by kernel_rfl)) cov KnowsL.nil))).knows (Λ := look []) Tryd.func14 (c := Tryd.f14.body.getD .skip) (by kernel_rfl) fun vs bs r hq hv hb => ?_
  unfold Ent.F pcovG at hq
  dsimp only at hq
  split at hq
  · rename_i p t
    obtain ⟨hc, hq⟩ := need_some hq
    exact ⟨loopsOk_nil _, (spcov_fun p t (of_decide_eq_true hc)).trans hq⟩
  · cases hq
theorem lv_len {l : List (List UInt8)} (h : lvB l = true) : l.length ≤ 6 := by
  unfold lvB at h; rw [Bool.and_eq_true] at h; exact of_decide_eq_true h.1
theorem ipmeet_fun (p t : List UInt8) (hc : p.length ≤ 4000000000 ∧ t.length ≤ 4000000000) : funK Tryd.prog (look [(10, .rd1 gpatG), (33, .rd1 levelsG), (42, .rd1 mtG)]) (look []) Tryd.f15 [.s p, .s t] [] = (.leaf (.tup [.b ((lvB (cut 47 p) && lvB (cut 47 t)) && mt (cut 47 p) (cut 47 t)), .b (lvB (cut 47 p) && lvB (cut 47 t))], []) : Br (V × List (Option Blk))).run := by
  have e : funK Tryd.prog (look [(10, .rd1 gpatG), (33, .rd1 levelsG), (42, .rd1 mtG)]) (look []) Tryd.f15 [.s p, .s t] [] = ((ifT (decide (p.length ≤ (4000000000 : Nat)))
  (ifB (!lvB (cut (47 : UInt8) p)) (some (V.tup [V.b false, V.b false], []))
  (ifT (decide (t.length ≤ (4000000000 : Nat)))
  (ifB (!lvB (cut (47 : UInt8) t)) (some (V.tup [V.b false, V.b false], []))
  (ifT (decide (p.length ≤ (4000000000 : Nat)))
  (ifB (lvB (cut (47 : UInt8) p))
  (ifT (decide (t.length ≤ (4000000000 : Nat)))
  (ifB (lvB (cut (47 : UInt8) t))
  (ifT
  (decide
  ((List.take (cut (47 : UInt8) p).length (List.drop (0 : Nat) (cut (47 : UInt8) p))).length ≤
  (1000000000 : Nat) ∧
  (List.take (cut (47 : UInt8) t).length (List.drop (0 : Nat) (cut (47 : UInt8) t))).length ≤
  (1000000000 : Nat)))
  (some
  (V.tup
  [V.b
  (Den.mt (List.take (cut (47 : UInt8) p).length (List.drop (0 : Nat) (cut (47 : UInt8) p)))
  (List.take (cut (47 : UInt8) t).length (List.drop (0 : Nat) (cut (47 : UInt8) t)))),
  V.b true],
  [])))
  (ifT
  (decide
  ((List.take (cut (47 : UInt8) p).length (List.drop (0 : Nat) (cut (47 : UInt8) p))).length ≤
  (1000000000 : Nat) ∧
  (0 : Nat) ≤ (1000000000 : Nat)))
  (some
  (V.tup
  [V.b
  (Den.mt (List.take (cut (47 : UInt8) p).length (List.drop (0 : Nat) (cut (47 : UInt8) p)))
  (nilT Cd.str.den)),
  V.b true],
  [])))))
  (ifT (decide (t.length ≤ (4000000000 : Nat)))
  (ifB (lvB (cut (47 : UInt8) t))
  (ifT
  (decide
  ((0 : Nat) ≤ (1000000000 : Nat) ∧
  (List.take (cut (47 : UInt8) t).length (List.drop (0 : Nat) (cut (47 : UInt8) t))).length ≤
  (1000000000 : Nat)))
  (some
  (V.tup
  [V.b
  (Den.mt (nilT Cd.str.den)
  (List.take (cut (47 : UInt8) t).length (List.drop (0 : Nat) (cut (47 : UInt8) t)))),
  V.b true],
  [])))
  (some (V.tup [V.b true, V.b true], [])))))))))) : _) := by kernel_rfl
  rw [e]
  clear e
  obtain ⟨hp, ht⟩ := hc
  obtain ⟨hz, hpos, hle⟩ := cut_facts hp
  obtain ⟨hz2, hpos2, hle2⟩ := cut_facts ht
  have hp1 : decide (p.length ≤ 4000000000) = true := decide_eq_true hp
  have ht1 : decide (t.length ≤ 4000000000) = true := decide_eq_true ht
  simp only [true_and, hp1, ht1, ifT_t, List.drop_zero, List.take_length]
  cases hA : lvB (cut 47 p) with
  | false => rfl
  | true =>
    cases hB : lvB (cut 47 t) with
    | false => rfl
    | true =>
      rw [show decide ((cut 47 p).length ≤ 1000000000 ∧ (cut 47 t).length ≤ 1000000000) = true from decide_eq_true ⟨by have := lv_len hA; omega, by have := lv_len hB; omega⟩]
      rfl
theorem ipmeet : Contract Tryd.prog 15 (Ent.rd1 pmeetG).F := by
  refine fun_contract' (KnowsL.cons (enters_fn Tryd.func10 (by kernel_rfl) (by kernel_rfl)) igpat (KnowsL.cons (enters_fn Tryd.func33 (by kernel_rfl) (by kernel_rfl)) levels (KnowsL.cons (enters_fn Tryd.func42 (by kernel_rfl) (by kernel_rfl)) imt KnowsL.nil))).knows (Λ := look []) Tryd.func15 (c := Tryd.f15.body.getD .skip) (by kernel_rfl) fun vs bs r hq hv hb => ?_
  unfold Ent.F pmeetG at hq
  dsimp only at hq
  split at hq
  · rename_i p t
    obtain ⟨hc, hq⟩ := need_some hq
    exact ⟨loopsOk_nil _, (ipmeet_fun p t (of_decide_eq_true hc)).trans hq⟩
  · cases hq
theorem spmeet_fun (p t : List UInt8) (hc : p.length ≤ 4000000000 ∧ t.length ≤ 4000000000) : funK Tryd.prog (look [(11, .rd1 gpatG), (35, .rd1 lsplG), (43, .rd1 mtG)]) (look []) Tryd.f16 [.s p, .s t] [] = (.leaf (.tup [.b ((lvB (cut 47 p) && lvB (cut 47 t)) && mt (cut 47 p) (cut 47 t)), .b (lvB (cut 47 p) && lvB (cut 47 t))], []) : Br (V × List (Option Blk))).run := by
  have e : funK Tryd.prog (look [(11, .rd1 gpatG), (35, .rd1 lsplG), (43, .rd1 mtG)]) (look []) Tryd.f16 [.s p, .s t] [] = ((ifT (decide (p.length ≤ (4000000000 : Nat)))
  (ifB (!lvB (cut (47 : UInt8) p)) (some (V.tup [V.b false, V.b false], []))
  (ifT (decide (t.length ≤ (4000000000 : Nat)))
  (ifB (!lvB (cut (47 : UInt8) t)) (some (V.tup [V.b false, V.b false], []))
  (ifT (decide ((47 : Int) = (47 : Int) ∧ p.length ≤ (4000000000 : Nat)))
  (ifT (decide ((47 : Int) = (47 : Int) ∧ t.length ≤ (4000000000 : Nat)))
  (ifT
  (decide
  ((List.take (cut (47 : UInt8) p).length (List.drop (0 : Nat) (cut (47 : UInt8) p))).length ≤
  (1000000000 : Nat) ∧
  (List.take (cut (47 : UInt8) t).length (List.drop (0 : Nat) (cut (47 : UInt8) t))).length ≤
  (1000000000 : Nat)))
  (some
  (V.tup
  [V.b
  (Den.mt (List.take (cut (47 : UInt8) p).length (List.drop (0 : Nat) (cut (47 : UInt8) p)))
  (List.take (cut (47 : UInt8) t).length (List.drop (0 : Nat) (cut (47 : UInt8) t)))),
  V.b true],
  []))))))))) : _) := by kernel_rfl
  rw [e]
  clear e
  obtain ⟨hp, ht⟩ := hc
  obtain ⟨hz, hpos, hle⟩ := cut_facts hp
  obtain ⟨hz2, hpos2, hle2⟩ := cut_facts ht
  have hp1 : decide (p.length ≤ 4000000000) = true := decide_eq_true hp
  have ht1 : decide (t.length ≤ 4000000000) = true := decide_eq_true ht
  simp only [true_and, hp1, ht1, ifT_t, List.drop_zero, List.take_length]
  cases hA : lvB (cut 47 p) with
  | false => rfl
  | true =>
    cases hB : lvB (cut 47 t) with
    | false => rfl
    | true =>
      rw [show decide ((cut 47 p).length ≤ 1000000000 ∧ (cut 47 t).length ≤ 1000000000) = true from decide_eq_true ⟨by have := lv_len hA; omega, by have := lv_len hB; omega⟩]
      rfl
theorem spmeet : Contract Tryd.prog 16 (Ent.rd1 pmeetG).F := by
  refine fun_contract' (KnowsL.cons (enters_fn Tryd.func11 (by kernel_rfl) (by kernel_rfl)) sgpat (KnowsL.cons (enters_fn Tryd.func35 (by kernel_rfl) (by kernel_rfl)) lspl (KnowsL.cons (enters_fn Tryd.func43 (by kernel_rfl) (by kernel_rfl)) smt KnowsL.nil))).knows (Λ := look []) Tryd.func16 (c := Tryd.f16.body.getD .skip) (by kernel_rfl) fun vs bs r hq hv hb => ?_
  unfold Ent.F pmeetG at hq
  dsimp only at hq
  split at hq
  · rename_i p t
    obtain ⟨hc, hq⟩ := need_some hq
    exact ⟨loopsOk_nil _, (spmeet_fun p t (of_decide_eq_true hc)).trans hq⟩
  · cases hq
end Go.Proofs.YtfkoljiioikdfaaDoor.Den
