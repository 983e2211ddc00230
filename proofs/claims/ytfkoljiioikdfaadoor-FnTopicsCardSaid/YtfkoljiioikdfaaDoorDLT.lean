/- What functions of the program do, by the machine: LT. -/
import Derived.Test.YtfkoljiioikdfaaDoorDLT0
import Derived.KernelRfl
import Derived.Test.YtfkoljiioikdfaaDoorRows
namespace Go.Proofs.YtfkoljiioikdfaaDoor.Den
open Go.Proofs
set_option maxRecDepth 100000
theorem u8_range {n : Int} (h : (Lit.int .u8 n).wf = true) : 0 ≤ n ∧ n ≤ 255 := by
  simp only [Lit.wf, Bool.and_eq_true, decide_eq_true_eq] at h
  exact h
theorem dpc2_len {l : List Int} (hc : (Cur.mk l 0 0).good 0) : (dpc2 l).length ≤ 40 := by
  obtain ⟨h1, h2⟩ := Cur.pat_facts hc
  unfold dpc2
  split
  · exact h1
  · exact (Cur.pat_facts (Cur.pickC_good (k := 6) h2)).1
theorem law_fun (l r : List Int) (hb : ∀ z ∈ l, 0 ≤ z ∧ z ≤ 255) (hr : ∀ z ∈ r, 0 ≤ z ∧ z ≤ 255) : funK Tryd.prog (look [(5, .rd1 dtfG), (6, .rd1 tfitsG), (7, .rd1 tfitsG), (8, .rd1 gtopG), (9, .rd1 gtopG), (10, .rd1 gpatG), (11, .rd1 gpatG), (12, .rd1 dpcG), (13, .rd1 pcovG), (14, .rd1 pcovG), (15, .rd1 pmeetG), (16, .rd1 pmeetG)]) (look []) Tryd.f3 [.sl (.int .u8) l, .sl (.int .u8) r] [] = some (.b true, []) := by
  rw [law_tree]
  by_cases h0 : IntKind.i64.wrap ((l.length : Int) + (r.length : Int)) > 1048576
  · rw [ifB_true (decide_eq_true h0)]
  have hc : (Cur.mk l 0 0).good 0 := ⟨hb, Int.le_refl _, Int.le_refl _⟩
  have hd : (Cur.mk r 0 0).good 0 := ⟨hr, Int.le_refl _, Int.le_refl _⟩
  rw [ifB_false (decide_eq_false h0), ifT_true (decide_eq_true hc)]
  obtain ⟨p1, p2⟩ := Cur.pat_facts hc
  have p3 := (Cur.top_facts p2).1
  have q1 := (Cur.pat_facts hd).1
  have q2 := dpc2_len hd
  generalize (Cur.mk l 0 0).pat.2.top.1 = t at *
  generalize (Cur.mk l 0 0).pat.1 = p at *
  generalize (Cur.mk r 0 0).pat.1 = q at *
  generalize dpc2 r = s at *
  have a1 : decide (p.length ≤ 4000000000 ∧ t.length ≤ 4000000000) = true := decide_eq_true ⟨by omega, by omega⟩
  have a2 : decide (q.length ≤ 4000000000 ∧ s.length ≤ 4000000000) = true := decide_eq_true ⟨by omega, by omega⟩
  have a3 : decide (q.length ≤ 4000000000 ∧ q.length ≤ 4000000000) = true := decide_eq_true ⟨by omega, by omega⟩
  have a4 : decide (s.length ≤ 4000000000 ∧ q.length ≤ 4000000000) = true := decide_eq_true ⟨by omega, by omega⟩
  have a5 : decide (q.length ≤ 4000000000 ∧ t.length ≤ 4000000000) = true := decide_eq_true ⟨by omega, by omega⟩
  have a6 : decide (s.length ≤ 4000000000 ∧ t.length ≤ 4000000000) = true := decide_eq_true ⟨by omega, by omega⟩
  have a7 : decide (t.length ≤ 4000000000) = true := decide_eq_true (by omega)
  have a8 : decide (p.length ≤ 4000000000) = true := decide_eq_true (by omega)
  simp only [a1, a2, a3, a4, a5, a6, a7, a8, hd, decide_true, ifT_t, bne_self_eq_false, beq_self_eq_true, ifB_f, ifB_t, tk_self, mt_symm (cut 47 s) (cut 47 q)]
  generalize hA : lvB (cut 47 q) = A
  generalize hB : lvB (cut 47 s) = B
  generalize hT : tpB (cut 47 t) = T
  generalize hx : tk inL (cut 47 q) (cut 47 t) = x
  generalize hy : tk inL (cut 47 s) (cut 47 t) = y
  generalize hcv : tk inL (cut 47 q) (cut 47 s) = c
  generalize hm : mt (cut 47 q) (cut 47 s) = m
  have k1 : c = true → m = true := fun h => by rw [← hm]; exact in_mt _ _ (hcv.trans h)
  have k2 : T = true → c = true → y = true → x = true := fun h1 h2 h3 => by rw [← hx]; exact in_fit _ _ _ (tp_no35 (hT.trans h1)) (hcv.trans h2) (hy.trans h3)
  have k3 : x = true → y = true → m = true := fun h1 h2 => by rw [← hm]; exact fit_mt _ _ _ (hx.trans h1) (hy.trans h2)
  clear hA hB hT hx hy hcv hm
  revert k1 k2 k3
  cases A <;> cases B <;> cases T <;> cases x <;> cases y <;> cases c <;> cases m <;> intro k1 k2 k3 <;> first | rfl | (exact absurd (k1 rfl) (by decide)) | (exact absurd (k2 rfl rfl rfl) (by decide)) | (exact absurd (k3 rfl rfl) (by decide))
end Go.Proofs.YtfkoljiioikdfaaDoor.Den
