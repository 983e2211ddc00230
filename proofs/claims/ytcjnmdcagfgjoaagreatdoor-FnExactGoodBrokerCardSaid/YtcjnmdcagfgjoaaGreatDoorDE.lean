/- What functions of the program do, by the machine: Brk9 Sz3 Sz4 Eq5 Eq6 To5 To6 LBk. -/
import Derived.Test.YtcjnmdcagfgjoaaGreatDoorDD
import Derived.KernelRfl
import Derived.Test.YtcjnmdcagfgjoaaGreatDoorRows
namespace Go.Proofs.YtcjnmdcagfgjoaaGreatDoor.Den
open Go.Proofs
set_option maxRecDepth 100000

theorem firstP_eq {α : Type} (p : α → Bool) : ∀ (l : List α) (n i : Nat) (h : i < l.length), p l[i] = true → (firstP p n l == ((n + i : Nat) : Int)) = (l.take i).all (fun x => !p x)
 | [], n, i, h, _ => by simp at h
 | x :: l, n, 0, h, hp => by
  simp only [List.getElem_cons_zero] at hp
  rw [firstP]
  simp [hp]
 | x :: l, n, i + 1, h, hp => by
  simp only [List.getElem_cons_succ] at hp
  have hl : i < l.length := by simpa using h
  rw [firstP, List.take_succ_cons, List.all_cons]
  cases hx : p x with
  | true =>
   have : ¬ ((n : Int) = ((n + (i + 1) : Nat) : Int)) := by omega
   simp only [if_true, List.all_cons, Bool.not_true, Bool.false_and]
   exact beq_eq_false_iff_ne.2 this
  | false =>
   have := firstP_eq p l (n + 1) i hl hp
   rw [show n + (i + 1) = n + 1 + i by omega]
   simpa using this
theorem mget_putI (m : List (List UInt8 × Int)) (x y : List UInt8) (v : Int) : mget .str (mput .str m x v) y = if y = x then some v else mget .str m y := by
 induction m with
 | nil =>
  show (match (y == x) with | true => some v | false => none) = _
  by_cases h : y = x
  ·subst h; simp
  ·rw [beq_false_of_ne h, if_neg h]; rfl
 | cons e m ih =>
  show mget .str (match (x == e.1) with | true => (x, v) :: m | false => e :: mput .str m x v) y = _
  by_cases h : x = e.1
  ·rw [h, beq_self_eq_true]
   show (match (y == e.1) with | true => some v | false => mget .str m y) = if y = e.1 then some v else (match (y == e.1) with | true => some e.2 | false => mget .str m y)
   by_cases h2 : y = e.1
   ·rw [if_pos h2, h2, beq_self_eq_true]
   ·rw [if_neg h2, beq_false_of_ne h2]
  ·rw [beq_false_of_ne h]
   show (match (y == e.1) with | true => some e.2 | false => mget .str (mput .str m x v) y) = if y = x then some v else (match (y == e.1) with | true => some e.2 | false => mget .str m y)
   by_cases h2 : y = e.1
   ·have hn : ¬ y = x := fun q => h (q.symm.trans h2)
    rw [if_neg hn, h2, beq_self_eq_true]
   ·rw [beq_false_of_ne h2]
    exact ih
def gm (m : List (List UInt8 × Int)) (x : List UInt8) : Int := (mget .str m x).getD 0
theorem gm_put (m : List (List UInt8 × Int)) (x y : List UInt8) (v : Int) : gm (mput .str m x v) y = if y = x then v else gm m y := by
 unfold gm
 rw [mget_putI]
 split <;> rfl
def InvM (m : List (List UInt8 × Int)) (q : List Nt) : Prop := ∀ x, (∀ o ∈ q, o.1 = x → o.2.1 ≤ gm m x) ∧ (gm m x = 0 ∨ ∃ o ∈ q, o.1 = x ∧ o.2.1 = gm m x) ∧ 0 ≤ gm m x ∧ gm m x ≤ 1000
theorem cnt_le {ts : List Tp} (h : ts.all tOK = true) (x : List UInt8) (ha : 0 ≤ atT ts x) : cntAt ts x ≤ 1000 := by
 rcases atT_lt ts x with h1 | ⟨h1, h2, h3⟩
 ·omega
 ·unfold cntAt
  rw [gtE h2]
  have := List.all_eq_true.1 h _ (List.getElem_mem h2)
  unfold tOK at this
  simp only [anE, dcE] at this
  exact this.2.2.2
theorem isv_val {v : List Ty} (hk : kindB v = true) (s : List UInt8) : isvB v s = valB (t2L v 0) s := by
 unfold isvB isvK valB
 rw [hk, Bool.and_true]
theorem nt_eq {ts : List Tp} {v : List Ty} (hk : kindB v = true) {m : List (List UInt8 × Int)} {b : List Nt} {i : Nat} (hi : i < b.length) (hm : InvM m (b.take i)) : ntI ts (t2L v 0) m b[i] = ntS ts v b i := by
 obtain ⟨h1, h2, h3, h4⟩ := hm b[i].1
 have hw : IntKind.i64.wrap (gm m b[i].1 + 1) = gm m b[i].1 + 1 := wrap_id (by omega) (by omega)
 unfold ntI ntS
 rw [gtE hi]
 dsimp only
 rw [isv_val hk, show (mget .str m b[i].1).getD 0 = gm m b[i].1 from rfl, hw, Bool.eq_iff_iff]
 simp only [anE, dcE, List.all_eq_true]
 constructor
 ·rintro ⟨a, ⟨c, d⟩, e⟩
  refine ⟨a, ⟨by omega, d⟩, e, fun o ho => ?_⟩
  unfold ltB
  by_cases q : o.1 = b[i].1
  ·have := h1 o ho q
   rw [dcF (by omega), Bool.and_false]; rfl
  ·rw [beq_false_of_ne q]; rfl
 ·rintro ⟨a, ⟨c, d⟩, e, f⟩
  refine ⟨a, ⟨?_, d⟩, e⟩
  rcases h2 with h2 | ⟨o, ho, h5, h6⟩
  ·omega
  ·have := f o ho
   unfold ltB at this
   rw [h5, beq_self_eq_true, Bool.true_and] at this
   by_cases q : o.2.1 ≥ b[i].2.1
   ·rw [dcT q] at this; cases this
   ·omega
theorem inv_step {ts : List Tp} {v : List Ty} (ht : ts.all tOK = true) {m : List (List UInt8 × Int)} {b : List Nt} {i : Nat} (hi : i < b.length) (hm : InvM m (b.take i)) (h : ntI ts (t2L v 0) m b[i] = true) : InvM (mput .str m b[i].1 b[i].2.1) (b.take (i + 1)) := by
 obtain ⟨h1, h2, h3, h4⟩ := hm b[i].1
 have hw : IntKind.i64.wrap (gm m b[i].1 + 1) = gm m b[i].1 + 1 := wrap_id (by omega) (by omega)
 unfold ntI at h
 rw [show (mget .str m b[i].1).getD 0 = gm m b[i].1 from rfl, hw] at h
 simp only [anE, dcE] at h
 obtain ⟨a, ⟨c, d⟩, e⟩ := h
 have hc := cnt_le ht _ a
 intro x
 rw [gm_put, List.take_succ_eq_append_getElem hi]
 by_cases q : x = b[i].1
 ·rw [if_pos q]
  refine ⟨fun o ho hx => ?_, .inr ⟨b[i], List.mem_append.2 (.inr (List.mem_singleton.2 rfl)), q.symm, rfl⟩, by omega, by omega⟩
  rcases List.mem_append.1 ho with ho | ho
  ·have := h1 o ho (hx.trans q); omega
  ·rw [List.mem_singleton.1 ho]; exact Int.le_refl _
 ·rw [if_neg q]
  obtain ⟨g1, g2, g3, g4⟩ := hm x
  refine ⟨fun o ho hx => ?_, ?_, g3, g4⟩
  ·rcases List.mem_append.1 ho with ho | ho
   ·exact g1 o ho hx
   ·rw [List.mem_singleton.1 ho] at hx; exact absurd hx.symm q
  ·rcases g2 with g2 | ⟨o, ho, h5, h6⟩
   ·exact .inl g2
   ·exact .inr ⟨o, List.mem_append.2 (.inl ho), h5, h6⟩
theorem inb_eq {ts : List Tp} {v : List Ty} (hk : kindB v = true) (ht : ts.all tOK = true) (b : List Nt) : ∀ (j i : Nat) (m : List (List UInt8 × Int)), i + j = b.length → InvM m (b.take i) → inbI ts (t2L v 0) m (b.drop i) = insB ts v b i
 | 0, i, m, hi, hm => by
  unfold insB
  rw [List.drop_eq_nil_of_le (by omega), List.drop_eq_nil_of_le (by simp; omega), inbI]
  rfl
 | j + 1, i, m, hi, hm => by
  have hlt : i < b.length := by omega
  have e : insB ts v b i = (ntS ts v b i && insB ts v b (i + 1)) := by
   unfold insB
   rw [List.drop_eq_getElem_cons (by simpa using hlt), List.all_cons, List.getElem_range]
  rw [e, List.drop_eq_getElem_cons hlt, inbI, ← nt_eq hk hlt hm]
  cases h : ntI ts (t2L v 0) m b[i] with
  | false => rfl
  | true =>
   rw [Bool.true_and, Bool.true_and]
   exact inb_eq hk ht b j (i + 1) _ (by omega) (inv_step ht hlt hm h)
theorem inb_eq0 {ts : List Tp} {v : List Ty} (hk : kindB v = true) (ht : ts.all tOK = true) (b : List Nt) : inbI ts (t2L v 0) [] b = insB ts v b 0 :=
 inb_eq hk ht b b.length 0 [] (by omega) (fun x => ⟨fun o ho => (by simp at ho), .inl rfl, Int.le_refl _, by show (0 : Int) ≤ 1000; decide⟩)
theorem fan_eq {ts : List Tp} (ht : ts.all tOK = true) (w : Int) (p : List UInt8) (ws : List Wt) (v : List Ty) (b : List Nt) (t : Int) : fanI ts w p ws v b t = fanJ ts w p ws v b t := by
 unfold fanI fanJ
 cases hk : kindB v with
 | false => rfl
 | true => rw [inb_eq0 hk ht]
theorem fn_eq {ts : List Tp} (ht : ts.all tOK = true) {fs : List Fa} {i : Nat} (hi : i < fs.length) : fnOK ts fs i = fnS ts fs i := by
 unfold fnOK fnS
 rw [gtE hi]
 dsimp only
 rw [fan_eq ht, Bool.and_comm]
 congr 1
 have := firstP_eq (fun f : Fa => f.1 == fs[i].1) fs 0 i hi (by simp)
 rw [Nat.zero_add] at this
 exact this
theorem good_eq17 (ts : List Tp) (fs : List Fa) : goodBk ts fs = goodBkS ts fs := by
 unfold goodBk goodBkS
 cases h : topsB ts 0 with
 | false => rfl
 | true =>
  have ht := tops_ok_all h
  have e : fansB ts fs 0 = fansS ts fs 0 := by
   unfold fansB fansS
   rw [List.drop_zero, Bool.eq_iff_iff, List.all_eq_true, List.all_eq_true]
   constructor
   ·intro h i hi; rw [← fn_eq ht (by simpa using hi)]; exact h i hi
   ·intro h i hi; rw [fn_eq ht (by simpa using hi)]; exact h i hi
  rw [e]

def szA (k : Int) (w : Nat) : Br (V × List (Option Blk)) := .br (decide (k - (w : Int) < 0)) (.leaf (.i .i64 (-1), [])) (.leaf (.i .i64 (k - (w : Int)), []))
def wNt (z : Nt) : Nat := z.1.length + z.2.2.1.length
def okNt (z : Nt) : Bool := decide (z.1.length ≤ maxI ∧ z.2.2.1.length ≤ maxI)
def szNtG : List V → List Blk → Br (V × List (Option Blk))
 | [.agg [.s a, .i .i64 c, .s b], .i .i64 k], [] => .need (decide (0 ≤ k ∧ k ≤ 1048576) && okNt (a, c, b, ())) (szA k (wNt (a, c, b, ())))
 | _, _ => .no
def wTy (z : Ty) : Nat := z.2.1.length
def okTy (z : Ty) : Bool := decide (z.2.1.length ≤ maxI)
def szTyG : List V → List Blk → Br (V × List (Option Blk))
 | [.agg [.i .i64 a, .s b, .i .i64 c, .b d, .i .i64 e, .i .i64 f], .i .i64 k], [] => .need (decide (0 ≤ k ∧ k ≤ 1048576) && okTy (a, b, c, d, e, f, ())) (szA k (wTy (a, b, c, d, e, f, ())))
 | _, _ => .no
def wWt (z : Wt) : Nat := z.2.2.2.1.length
def okWt (z : Wt) : Bool := decide (z.2.2.2.1.length ≤ maxI)
def szWtG : List V → List Blk → Br (V × List (Option Blk))
 | [.agg [.i .i64 a, .i .i64 c, .i .i64 d, .s b, .i .i64 e, .i .i64 f], .i .i64 k], [] => .need (decide (0 ≤ k ∧ k ≤ 1048576) && okWt (a, c, d, b, e, f, ())) (szA k (wWt (a, c, d, b, e, f, ())))
 | _, _ => .no
def sumNt (l : List Nt) : Nat := (l.map wNt).sum
def wNts (l : List Nt) : Nat := l.length + sumNt l
def okNts (l : List Nt) : Bool := decide (l.length ≤ maxI) && l.all okNt
def szNtsE : LoopEnt := ⟨27, [0,1,5], [1], [4], fun
 | ([.sl (.pair .str (.pair (.int .i64) (.pair .str .unit))) l, .i .i64 k, .i .i64 i], []) => .need (decide (0 ≤ i ∧ i.toNat ≤ l.length ∧ 0 ≤ k ∧ k ≤ 1048576) && okNts l) (.br (decide (k - (sumNt (l.drop i.toNat) : Int) < 0)) (.leaf (.ret, ([.i .i64 (-1)], []))) (.leaf (.exit 0, ([.i .i64 (k - (sumNt (l.drop i.toNat) : Int))], []))))
 | _ => .no⟩
def szNtsG : List V → List Blk → Br (V × List (Option Blk))
 | [.sl (.pair .str (.pair (.int .i64) (.pair .str .unit))) l, .i .i64 k], [] => .need (decide (0 ≤ k ∧ k ≤ 1048576) && okNts l) (szA k (wNts l))
 | _, _ => .no
def sumTy (l : List Ty) : Nat := (l.map wTy).sum
def wTys (l : List Ty) : Nat := l.length + sumTy l
def okTys (l : List Ty) : Bool := decide (l.length ≤ maxI) && l.all okTy
def szTysE : LoopEnt := ⟨27, [0,1,5], [1], [4], fun
 | ([.sl (.pair (.int .i64) (.pair .str (.pair (.int .i64) (.pair .bool (.pair (.int .i64) (.pair (.int .i64) .unit)))))) l, .i .i64 k, .i .i64 i], []) => .need (decide (0 ≤ i ∧ i.toNat ≤ l.length ∧ 0 ≤ k ∧ k ≤ 1048576) && okTys l) (.br (decide (k - (sumTy (l.drop i.toNat) : Int) < 0)) (.leaf (.ret, ([.i .i64 (-1)], []))) (.leaf (.exit 0, ([.i .i64 (k - (sumTy (l.drop i.toNat) : Int))], []))))
 | _ => .no⟩
def szTysG : List V → List Blk → Br (V × List (Option Blk))
 | [.sl (.pair (.int .i64) (.pair .str (.pair (.int .i64) (.pair .bool (.pair (.int .i64) (.pair (.int .i64) .unit)))))) l, .i .i64 k], [] => .need (decide (0 ≤ k ∧ k ≤ 1048576) && okTys l) (szA k (wTys l))
 | _, _ => .no
def sumWt (l : List Wt) : Nat := (l.map wWt).sum
def wWts (l : List Wt) : Nat := l.length + sumWt l
def okWts (l : List Wt) : Bool := decide (l.length ≤ maxI) && l.all okWt
def szWtsE : LoopEnt := ⟨27, [0,1,5], [1], [4], fun
 | ([.sl (.pair (.int .i64) (.pair (.int .i64) (.pair (.int .i64) (.pair .str (.pair (.int .i64) (.pair (.int .i64) .unit)))))) l, .i .i64 k, .i .i64 i], []) => .need (decide (0 ≤ i ∧ i.toNat ≤ l.length ∧ 0 ≤ k ∧ k ≤ 1048576) && okWts l) (.br (decide (k - (sumWt (l.drop i.toNat) : Int) < 0)) (.leaf (.ret, ([.i .i64 (-1)], []))) (.leaf (.exit 0, ([.i .i64 (k - (sumWt (l.drop i.toNat) : Int))], []))))
 | _ => .no⟩
def szWtsG : List V → List Blk → Br (V × List (Option Blk))
 | [.sl (.pair (.int .i64) (.pair (.int .i64) (.pair (.int .i64) (.pair .str (.pair (.int .i64) (.pair (.int .i64) .unit)))))) l, .i .i64 k], [] => .need (decide (0 ≤ k ∧ k ≤ 1048576) && okWts l) (szA k (wWts l))
 | _, _ => .no

theorem szA_t {k : Int} {w : Nat} (h : k - (w : Int) < 0) : (szA k w).run = some (.j (-1), []) := by
 unfold szA; rw [br_t (dcT h)]; rfl
theorem szA_f {k : Int} {w : Nat} (h : ¬ k - (w : Int) < 0) : (szA k w).run = some (.j (k - (w : Int)), []) := by
 unfold szA; rw [br_f (dcF h)]; rfl
theorem szNt_tree (a : List UInt8) (c : Int) (b : List UInt8) (k : Int) : funK Tryz.prog (look []) (look []) Tryz.f161 [.agg [.s a, .j c, .s b], .j k] [] =
 ((ifB (decide (IntKind.i64.wrap (k - (↑a.length : Int)) < (0 : Int))) (some (V.j (-1), [])) (ifB (decide (IntKind.i64.wrap (IntKind.i64.wrap (k - (↑a.length : Int)) -
 (↑b.length : Int)) < (0 : Int))) (some (V.j (-1), [])) (some (V.j (IntKind.i64.wrap (IntKind.i64.wrap (k - (↑a.length : Int)) - (↑b.length : Int))), [])))) : _) := by kernel_rfl
theorem szNt_con : Contract Tryz.prog 161 (Ent.rd1 szNtG).F := by
 refine fun_contract' KnowsL.nil.knows (Λ := look []) Tryz.func161 (c := Tryz.f161.body.getD .skip) (by kernel_rfl) fun vs_ bs_ r_ hq_ hv_ hb_ => ?_
 unfold Ent.F szNtG at hq_
 dsimp only at hq_
 split at hq_
 ·rename_i a c b k
  obtain ⟨hc, hx⟩ := need_some hq_
  rw [anE, dcE] at hc
  obtain ⟨⟨h0, h1⟩, h2⟩ := hc
  unfold okNt at h2
  dsimp only at h2
  have hM : maxI = 9223372036854775807 := rfl
  refine ⟨loopsOk_nil _, (szNt_tree a c b k).trans (Eq.trans ?_ hx)⟩
  show _ = (szA k (wNt (a, c, b, ()))).run
  unfold wNt
  dsimp only
  obtain ⟨h3, h4⟩ := of_decide_eq_true h2
  have hw : IntKind.i64.wrap (k - (a.length : Int)) = k - (a.length : Int) := wrap_id (by omega) (by omega)
  rw [hw]
  by_cases q : k - (a.length : Int) < 0
  ·rw [ifB_true (dcT q), szA_t (by push_cast; omega)]
  ·have hw2 : IntKind.i64.wrap (k - (a.length : Int) - (b.length : Int)) = k - (a.length : Int) - (b.length : Int) := wrap_id (by omega) (by omega)
   rw [ifB_false (dcF q), hw2]
   have e : k - (a.length : Int) - (b.length : Int) = k - ((a.length + b.length : Nat) : Int) := by push_cast; omega
   rw [e]
   by_cases q2 : k - ((a.length + b.length : Nat) : Int) < 0
   ·rw [ifB_true (dcT q2), szA_t q2]
   ·rw [ifB_false (dcF q2), szA_f q2]
 ·cases hq_
theorem szTy_tree (a : Int) (b : List UInt8) (c : Int) (d : Bool) (e f : Int) (k : Int) : funK Tryz.prog (look []) (look []) Tryz.f198 [.agg [.j a, .s b, .j c, .b d, .j e, .j f], .j k] [] =
 ((ifB (decide (IntKind.i64.wrap (k - (↑b.length : Int)) < (0 : Int))) (some (V.j (-1), [])) (some (V.j (IntKind.i64.wrap (k - (↑b.length : Int))), []))) : _) := by kernel_rfl
theorem szTy_con : Contract Tryz.prog 198 (Ent.rd1 szTyG).F := by
 refine fun_contract' KnowsL.nil.knows (Λ := look []) Tryz.func198 (c := Tryz.f198.body.getD .skip) (by kernel_rfl) fun vs_ bs_ r_ hq_ hv_ hb_ => ?_
 unfold Ent.F szTyG at hq_
 dsimp only at hq_
 split at hq_
 ·rename_i a b c d e f k
  obtain ⟨hc, hx⟩ := need_some hq_
  rw [anE, dcE] at hc
  obtain ⟨⟨h0, h1⟩, h2⟩ := hc
  unfold okTy at h2
  dsimp only at h2
  have hM : maxI = 9223372036854775807 := rfl
  refine ⟨loopsOk_nil _, (szTy_tree a b c d e f k).trans (Eq.trans ?_ hx)⟩
  show _ = (szA k (wTy (a, b, c, d, e, f, ()))).run
  unfold wTy
  dsimp only
  have h3 := of_decide_eq_true h2
  have hw : IntKind.i64.wrap (k - (b.length : Int)) = k - (b.length : Int) := wrap_id (by omega) (by omega)
  rw [hw]
  by_cases q : k - (b.length : Int) < 0
  ·rw [ifB_true (dcT q), szA_t q]
  ·rw [ifB_false (dcF q), szA_f q]
 ·cases hq_
theorem szWt_tree (a c d : Int) (b : List UInt8) (e f : Int) (k : Int) : funK Tryz.prog (look []) (look []) Tryz.f200 [.agg [.j a, .j c, .j d, .s b, .j e, .j f], .j k] [] =
 ((ifB (decide (IntKind.i64.wrap (k - (↑b.length : Int)) < (0 : Int))) (some (V.j (-1), [])) (some (V.j (IntKind.i64.wrap (k - (↑b.length : Int))), []))) : _) := by kernel_rfl
theorem szWt_con : Contract Tryz.prog 200 (Ent.rd1 szWtG).F := by
 refine fun_contract' KnowsL.nil.knows (Λ := look []) Tryz.func200 (c := Tryz.f200.body.getD .skip) (by kernel_rfl) fun vs_ bs_ r_ hq_ hv_ hb_ => ?_
 unfold Ent.F szWtG at hq_
 dsimp only at hq_
 split at hq_
 ·rename_i a c d b e f k
  obtain ⟨hc, hx⟩ := need_some hq_
  rw [anE, dcE] at hc
  obtain ⟨⟨h0, h1⟩, h2⟩ := hc
  unfold okWt at h2
  dsimp only at h2
  have hM : maxI = 9223372036854775807 := rfl
  refine ⟨loopsOk_nil _, (szWt_tree a c d b e f k).trans (Eq.trans ?_ hx)⟩
  show _ = (szA k (wWt (a, c, d, b, e, f, ()))).run
  unfold wWt
  dsimp only
  have h3 := of_decide_eq_true h2
  have hw : IntKind.i64.wrap (k - (b.length : Int)) = k - (b.length : Int) := wrap_id (by omega) (by omega)
  rw [hw]
  by_cases q : k - (b.length : Int) < 0
  ·rw [ifB_true (dcT q), szA_t q]
  ·rw [ifB_false (dcF q), szA_f q]
 ·cases hq_
theorem szNts_round (l : List Nt) (k i : Int) : roundK Tryz.prog (look [(161, .rd1 szNtG)]) (look [(5, szNtsE)]) 0 (body Tryz.f119 0) szNtsE ([.sl NTd l, .j k, .j i], []) =
 ((ifB (decide (i < (↑l.length : Int))) (ifT (decide ((0 : Int) ≤ i) && decide (i < (↑l.length : Int))) (ifSome l[i.toNat]? fun z => ifT (decide ((0 : Int) ≤ k ∧ k ≤ (1048576
 : Int)) && okNt (z.fst, z.snd.fst, z.snd.snd.fst, ())) (ifB (decide (k - (↑(wNt (z.fst, z.snd.fst, z.snd.snd.fst, ())) : Int) < (0 : Int))) (some (Ex.ret, [V.i .i64
 (-1)], [])) (ifB (decide (k - (↑(wNt (z.fst, z.snd.fst, z.snd.snd.fst, ())) : Int) < (0 : Int))) (some (Ex.ret, [V.j (-1)], [])) (some (Ex.normal, [V.sl NTd l, V.i
 .i64 (k - (↑(wNt (z.fst, z.snd.fst, z.snd.snd.fst, ())) : Int)), V.j (IntKind.i64.wrap (i + (1 : Int)))], [])))))) (some (Ex.exit 0, [V.j k], []))) : _) := by kernel_rfl
theorem szNts_tree (l : List Nt) (k : Int) : funK Tryz.prog (look [(161, .rd1 szNtG)]) (look [(5, szNtsE)]) Tryz.f119 [.sl NTd l, .j k] [] =
 ((ifB (decide (IntKind.i64.wrap (k - (↑l.length : Int)) < (0 : Int))) (some (V.j (-1), [])) (ifT (decide ((0 : Int) ≤ (0 : Int) ∧ (0 : Nat) ≤ l.length ∧ (0 : Int) ≤
 IntKind.i64.wrap (k - (↑l.length : Int)) ∧ IntKind.i64.wrap (k - (↑l.length : Int)) ≤ (1048576 : Int)) && okNts l) (ifB (decide (IntKind.i64.wrap (k - (↑l.length : Int))
 - (↑(sumNt (List.drop (0 : Nat) l)) : Int) < (0 : Int))) (some (V.j (-1), [])) (some (V.j (IntKind.i64.wrap (k - (↑l.length : Int)) - (↑(sumNt (List.drop (0 :
 Nat) l)) : Int)), []))))) : _) := by kernel_rfl
theorem szNts_loop (l : List Nt) (hl : l.length ≤ maxI) (ho : ∀ z ∈ l, okNt z = true) : ∀ (j i : Nat) (k : Int), i + j = l.length → 0 ≤ k → k ≤ 1048576 → ∀ ex d, (Br.br (decide (k - (sumNt (l.drop i) : Int) < 0)) (.leaf (.ret, ([.j (-1)], []))) (.leaf (.exit 0, ([.j (k - (sumNt (l.drop i) : Int))], []))) : Br (Ex × Dt)).run = some (ex, d) → Runs Tryz.prog (look [(161, .rd1 szNtG)]) (look [(5, szNtsE)]) 0 (body Tryz.f119 0) szNtsE ([.sl NTd l, .j k, .j (i : Int)], []) ex d
 | 0, i, k, hi, h0, h1, ex, d, h => by
  have hr := szNts_round l k i
  rw [ifB_false (dcF (by omega))] at hr
  have e0 : (sumNt (l.drop i) : Int) = 0 := by rw [List.drop_eq_nil_of_le (by omega)]; rfl
  rw [e0, Int.sub_zero, br_f (dcF (by omega))] at h
  have h8 := leaf_some h
  obtain ⟨rfl, rfl⟩ := Prod.mk.inj h8
  exact .stop _ _ _ hr (by simp)
 | j + 1, i, k, hi, h0, h1, ex, d, h => by
  have hM : maxI = 9223372036854775807 := rfl
  have hlt : i < l.length := by omega
  have hr := szNts_round l k i
  rw [ifB_true (dcT (by omega)), ifT_true (by simp only [anE, dcE]; omega), ntN, gtE hlt, ifSome_s, wrap_succ (n := i) (by omega)] at hr
  have ho1 := ho _ (List.getElem_mem hlt)
  have e : sumNt (l.drop i) = wNt l[i] + sumNt (l.drop (i + 1)) := by
   unfold sumNt
   rw [List.drop_eq_getElem_cons hlt, List.map_cons, List.sum_cons]
  generalize l[i] = z at hr ho1 e
  obtain ⟨a, c, b, ⟨⟩⟩ := z
  dsimp only at hr
  rw [ifT_true (by rw [anE]; exact ⟨dcT ⟨h0, h1⟩, ho1⟩)] at hr
  generalize wNt _ = w at hr e
  by_cases q : k - (w : Int) < 0
  ·rw [ifB_true (dcT q)] at hr
   rw [br_t (dcT (by rw [e]; push_cast; omega))] at h
   have h8 := leaf_some h
   obtain ⟨rfl, rfl⟩ := Prod.mk.inj h8
   exact .stop _ _ _ hr (by simp)
  ·rw [ifB_false (dcF q), ifB_false (dcF q)] at hr
   have e2 : k - (sumNt (l.drop i) : Int) = k - (w : Int) - (sumNt (l.drop (i + 1)) : Int) := by rw [e]; push_cast; omega
   rw [e2] at h
   exact .step _ _ _ _ hr (szNts_loop l hl ho j (i + 1) (k - (w : Int)) (by omega) (by omega) (by omega) ex d h)
theorem okNts_all {l : List Nt} (h : okNts l = true) : l.length ≤ maxI ∧ ∀ z ∈ l, okNt z = true := by
 unfold okNts at h
 rw [anE, dcE] at h
 exact ⟨h.1, List.all_eq_true.1 h.2⟩
theorem szNts_con : Contract Tryz.prog 119 (Ent.rd1 szNtsG).F := by
 refine fun_contract' (KnowsL.cons (enters_fn Tryz.func161 (by kernel_rfl) (by kernel_rfl)) szNt_con KnowsL.nil).knows (Λ := (look [(5, szNtsE)])) Tryz.func119 (c := Tryz.f119.body.getD .skip) (by kernel_rfl) fun vs bs r hq hv hb => ?_
 unfold Ent.F szNtsG at hq
 dsimp only at hq
 split at hq
 ·rename_i l k
  obtain ⟨hc, hx⟩ := need_some hq
  rw [anE, dcE] at hc
  obtain ⟨⟨h0, h1⟩, h2⟩ := hc
  obtain ⟨h3, h4⟩ := okNts_all h2
  have hM : maxI = 9223372036854775807 := rfl
  have hok : LoopsOk Tryz.prog (look [(161, .rd1 szNtG)]) (look [(5, szNtsE)]) 0 (Tryz.f119.body.getD .skip) := by
   refine loopsOk_one (a := body Tryz.f119 0) (by kernel_rfl) fun d ex d' h => ?_
   unfold szNtsE at h
   dsimp only at h
   split at h
   ·rename_i l k i
    obtain ⟨hc, hx⟩ := need_some h
    rw [anE, dcE] at hc
    obtain ⟨⟨a0, a1, a2, a3⟩, a4⟩ := hc
    obtain ⟨b1, b2⟩ := okNts_all a4
    obtain ⟨i, rfl⟩ := Int.eq_ofNat_of_zero_le a0
    simp only [ntN] at a1 hx
    exact szNts_loop l b1 b2 (l.length - i) i k (by omega) a2 a3 ex d' hx
   ·cases h
  refine ⟨hok, (szNts_tree l k).trans (Eq.trans ?_ hx)⟩
  show _ = (szA k (wNts l)).run
  have hw : IntKind.i64.wrap (k - (l.length : Int)) = k - (l.length : Int) := wrap_id (by omega) (by omega)
  unfold wNts
  rw [hw, List.drop_zero]
  by_cases q : k - (l.length : Int) < 0
  ·rw [ifB_true (dcT q), szA_t (by push_cast; omega)]
  ·rw [ifB_false (dcF q), ifT_true (by rw [anE]; exact ⟨dcT (by omega), h2⟩)]
   have e : k - (l.length : Int) - (sumNt l : Int) = k - ((l.length + sumNt l : Nat) : Int) := by push_cast; omega
   rw [e]
   by_cases q2 : k - ((l.length + sumNt l : Nat) : Int) < 0
   ·rw [ifB_true (dcT q2), szA_t q2]
   ·rw [ifB_false (dcF q2), szA_f q2]
 ·cases hq
theorem szTys_round (l : List Ty) (k i : Int) : roundK Tryz.prog (look [(198, .rd1 szTyG)]) (look [(5, szTysE)]) 0 (body Tryz.f155 0) szTysE ([.sl TCd l, .j k, .j i], []) =
 ((ifB (decide (i < (↑l.length : Int))) (ifT (decide ((0 : Int) ≤ i) && decide (i < (↑l.length : Int))) (ifSome l[i.toNat]? fun z => ifT (decide ((0 : Int) ≤ k ∧ k ≤ (1048576
 : Int)) && okTy (z.fst, z.snd.fst, z.snd.snd.fst, z.snd.snd.snd.fst, z.snd.snd.snd.snd.fst, z.snd.snd.snd.snd.snd.fst, ())) (ifB (decide (k - (↑(wTy (z.fst, z.snd.fst,
 z.snd.snd.fst, z.snd.snd.snd.fst, z.snd.snd.snd.snd.fst, z.snd.snd.snd.snd.snd.fst, ())) : Int) < (0 : Int))) (some (Ex.ret, [V.j (-1)], [])) (ifB (decide (k -
 (↑(wTy (z.fst, z.snd.fst, z.snd.snd.fst, z.snd.snd.snd.fst, z.snd.snd.snd.snd.fst, z.snd.snd.snd.snd.snd.fst, ())) : Int) < (0 : Int))) (some (Ex.ret, [V.j (-1)],
 [])) (some (Ex.normal, [V.sl TCd l, V.j (k - (↑(wTy (z.fst, z.snd.fst, z.snd.snd.fst, z.snd.snd.snd.fst, z.snd.snd.snd.snd.fst, z.snd.snd.snd.snd.snd.fst, ())) :
 Int)), V.j (IntKind.i64.wrap (i + (1 : Int)))], [])))))) (some (Ex.exit 0, [V.j k], []))) : _) := by kernel_rfl
theorem szTys_tree (l : List Ty) (k : Int) : funK Tryz.prog (look [(198, .rd1 szTyG)]) (look [(5, szTysE)]) Tryz.f155 [.sl TCd l, .j k] [] =
 ((ifB (decide (IntKind.i64.wrap (k - (↑l.length : Int)) < (0 : Int))) (some (V.j (-1), [])) (ifT (decide ((0 : Int) ≤ (0 : Int) ∧ (0 : Nat) ≤ l.length ∧ (0 : Int) ≤
 IntKind.i64.wrap (k - (↑l.length : Int)) ∧ IntKind.i64.wrap (k - (↑l.length : Int)) ≤ (1048576 : Int)) && okTys l) (ifB (decide (IntKind.i64.wrap (k - (↑l.length : Int))
 - (↑(sumTy (List.drop (0 : Nat) l)) : Int) < (0 : Int))) (some (V.j (-1), [])) (some (V.j (IntKind.i64.wrap (k - (↑l.length : Int)) - (↑(sumTy (List.drop (0 :
 Nat) l)) : Int)), []))))) : _) := by kernel_rfl
theorem szTys_loop (l : List Ty) (hl : l.length ≤ maxI) (ho : ∀ z ∈ l, okTy z = true) : ∀ (j i : Nat) (k : Int), i + j = l.length → 0 ≤ k → k ≤ 1048576 → ∀ ex d, (Br.br (decide (k - (sumTy (l.drop i) : Int) < 0)) (.leaf (.ret, ([.j (-1)], []))) (.leaf (.exit 0, ([.j (k - (sumTy (l.drop i) : Int))], []))) : Br (Ex × Dt)).run = some (ex, d) → Runs Tryz.prog (look [(198, .rd1 szTyG)]) (look [(5, szTysE)]) 0 (body Tryz.f155 0) szTysE ([.sl TCd l, .j k, .j (i : Int)], []) ex d
 | 0, i, k, hi, h0, h1, ex, d, h => by
  have hr := szTys_round l k i
  rw [ifB_false (dcF (by omega))] at hr
  have e0 : (sumTy (l.drop i) : Int) = 0 := by rw [List.drop_eq_nil_of_le (by omega)]; rfl
  rw [e0, Int.sub_zero, br_f (dcF (by omega))] at h
  have h8 := leaf_some h
  obtain ⟨rfl, rfl⟩ := Prod.mk.inj h8
  exact .stop _ _ _ hr (by simp)
 | j + 1, i, k, hi, h0, h1, ex, d, h => by
  have hM : maxI = 9223372036854775807 := rfl
  have hlt : i < l.length := by omega
  have hr := szTys_round l k i
  rw [ifB_true (dcT (by omega)), ifT_true (by simp only [anE, dcE]; omega), ntN, gtE hlt, ifSome_s, wrap_succ (n := i) (by omega)] at hr
  have ho1 := ho _ (List.getElem_mem hlt)
  have e : sumTy (l.drop i) = wTy l[i] + sumTy (l.drop (i + 1)) := by
   unfold sumTy
   rw [List.drop_eq_getElem_cons hlt, List.map_cons, List.sum_cons]
  generalize l[i] = z at hr ho1 e
  obtain ⟨a, b, c, d_, e_, f, ⟨⟩⟩ := z
  dsimp only at hr
  rw [ifT_true (by rw [anE]; exact ⟨dcT ⟨h0, h1⟩, ho1⟩)] at hr
  generalize wTy _ = w at hr e
  by_cases q : k - (w : Int) < 0
  ·rw [ifB_true (dcT q)] at hr
   rw [br_t (dcT (by rw [e]; push_cast; omega))] at h
   have h8 := leaf_some h
   obtain ⟨rfl, rfl⟩ := Prod.mk.inj h8
   exact .stop _ _ _ hr (by simp)
  ·rw [ifB_false (dcF q), ifB_false (dcF q)] at hr
   have e2 : k - (sumTy (l.drop i) : Int) = k - (w : Int) - (sumTy (l.drop (i + 1)) : Int) := by rw [e]; push_cast; omega
   rw [e2] at h
   exact .step _ _ _ _ hr (szTys_loop l hl ho j (i + 1) (k - (w : Int)) (by omega) (by omega) (by omega) ex d h)
theorem okTys_all {l : List Ty} (h : okTys l = true) : l.length ≤ maxI ∧ ∀ z ∈ l, okTy z = true := by
 unfold okTys at h
 rw [anE, dcE] at h
 exact ⟨h.1, List.all_eq_true.1 h.2⟩
theorem szTys_con : Contract Tryz.prog 155 (Ent.rd1 szTysG).F := by
 refine fun_contract' (KnowsL.cons (enters_fn Tryz.func198 (by kernel_rfl) (by kernel_rfl)) szTy_con KnowsL.nil).knows (Λ := (look [(5, szTysE)])) Tryz.func155 (c := Tryz.f155.body.getD .skip) (by kernel_rfl) fun vs bs r hq hv hb => ?_
 unfold Ent.F szTysG at hq
 dsimp only at hq
 split at hq
 ·rename_i l k
  obtain ⟨hc, hx⟩ := need_some hq
  rw [anE, dcE] at hc
  obtain ⟨⟨h0, h1⟩, h2⟩ := hc
  obtain ⟨h3, h4⟩ := okTys_all h2
  have hM : maxI = 9223372036854775807 := rfl
  have hok : LoopsOk Tryz.prog (look [(198, .rd1 szTyG)]) (look [(5, szTysE)]) 0 (Tryz.f155.body.getD .skip) := by
   refine loopsOk_one (a := body Tryz.f155 0) (by kernel_rfl) fun d ex d' h => ?_
   unfold szTysE at h
   dsimp only at h
   split at h
   ·rename_i l k i
    obtain ⟨hc, hx⟩ := need_some h
    rw [anE, dcE] at hc
    obtain ⟨⟨a0, a1, a2, a3⟩, a4⟩ := hc
    obtain ⟨b1, b2⟩ := okTys_all a4
    obtain ⟨i, rfl⟩ := Int.eq_ofNat_of_zero_le a0
    simp only [ntN] at a1 hx
    exact szTys_loop l b1 b2 (l.length - i) i k (by omega) a2 a3 ex d' hx
   ·cases h
  refine ⟨hok, (szTys_tree l k).trans (Eq.trans ?_ hx)⟩
  show _ = (szA k (wTys l)).run
  have hw : IntKind.i64.wrap (k - (l.length : Int)) = k - (l.length : Int) := wrap_id (by omega) (by omega)
  unfold wTys
  rw [hw, List.drop_zero]
  by_cases q : k - (l.length : Int) < 0
  ·rw [ifB_true (dcT q), szA_t (by push_cast; omega)]
  ·rw [ifB_false (dcF q), ifT_true (by rw [anE]; exact ⟨dcT (by omega), h2⟩)]
   have e : k - (l.length : Int) - (sumTy l : Int) = k - ((l.length + sumTy l : Nat) : Int) := by push_cast; omega
   rw [e]
   by_cases q2 : k - ((l.length + sumTy l : Nat) : Int) < 0
   ·rw [ifB_true (dcT q2), szA_t q2]
   ·rw [ifB_false (dcF q2), szA_f q2]
 ·cases hq
theorem szWts_round (l : List Wt) (k i : Int) : roundK Tryz.prog (look [(200, .rd1 szWtG)]) (look [(5, szWtsE)]) 0 (body Tryz.f160 0) szWtsE ([.sl WCd l, .j k, .j i], []) =
 ((ifB (decide (i < (↑l.length : Int))) (ifT (decide ((0 : Int) ≤ i) && decide (i < (↑l.length : Int))) (ifSome l[i.toNat]? fun z => ifT (decide ((0 : Int) ≤ k ∧ k ≤ (1048576
 : Int)) && okWt (z.fst, z.snd.fst, z.snd.snd.fst, z.snd.snd.snd.fst, z.snd.snd.snd.snd.fst, z.snd.snd.snd.snd.snd.fst, ())) (ifB (decide (k - (↑(wWt (z.fst, z.snd.fst,
 z.snd.snd.fst, z.snd.snd.snd.fst, z.snd.snd.snd.snd.fst, z.snd.snd.snd.snd.snd.fst, ())) : Int) < (0 : Int))) (some (Ex.ret, [V.j (-1)], [])) (ifB (decide (k -
 (↑(wWt (z.fst, z.snd.fst, z.snd.snd.fst, z.snd.snd.snd.fst, z.snd.snd.snd.snd.fst, z.snd.snd.snd.snd.snd.fst, ())) : Int) < (0 : Int))) (some (Ex.ret, [V.j (-1)],
 [])) (some (Ex.normal, [V.sl WCd l, V.j (k - (↑(wWt (z.fst, z.snd.fst, z.snd.snd.fst, z.snd.snd.snd.fst, z.snd.snd.snd.snd.fst, z.snd.snd.snd.snd.snd.fst, ())) :
 Int)), V.j (IntKind.i64.wrap (i + (1 : Int)))], [])))))) (some (Ex.exit 0, [V.j k], []))) : _) := by kernel_rfl
theorem szWts_tree (l : List Wt) (k : Int) : funK Tryz.prog (look [(200, .rd1 szWtG)]) (look [(5, szWtsE)]) Tryz.f160 [.sl WCd l, .j k] [] =
 ((ifB (decide (IntKind.i64.wrap (k - (↑l.length : Int)) < (0 : Int))) (some (V.j (-1), [])) (ifT (decide ((0 : Int) ≤ (0 : Int) ∧ (0 : Nat) ≤ l.length ∧ (0 : Int) ≤
 IntKind.i64.wrap (k - (↑l.length : Int)) ∧ IntKind.i64.wrap (k - (↑l.length : Int)) ≤ (1048576 : Int)) && okWts l) (ifB (decide (IntKind.i64.wrap (k - (↑l.length : Int))
 - (↑(sumWt (List.drop (0 : Nat) l)) : Int) < (0 : Int))) (some (V.j (-1), [])) (some (V.j (IntKind.i64.wrap (k - (↑l.length : Int)) - (↑(sumWt (List.drop (0 :
 Nat) l)) : Int)), []))))) : _) := by kernel_rfl
theorem szWts_loop (l : List Wt) (hl : l.length ≤ maxI) (ho : ∀ z ∈ l, okWt z = true) : ∀ (j i : Nat) (k : Int), i + j = l.length → 0 ≤ k → k ≤ 1048576 → ∀ ex d, (Br.br (decide (k - (sumWt (l.drop i) : Int) < 0)) (.leaf (.ret, ([.j (-1)], []))) (.leaf (.exit 0, ([.j (k - (sumWt (l.drop i) : Int))], []))) : Br (Ex × Dt)).run = some (ex, d) → Runs Tryz.prog (look [(200, .rd1 szWtG)]) (look [(5, szWtsE)]) 0 (body Tryz.f160 0) szWtsE ([.sl WCd l, .j k, .j (i : Int)], []) ex d
 | 0, i, k, hi, h0, h1, ex, d, h => by
  have hr := szWts_round l k i
  rw [ifB_false (dcF (by omega))] at hr
  have e0 : (sumWt (l.drop i) : Int) = 0 := by rw [List.drop_eq_nil_of_le (by omega)]; rfl
  rw [e0, Int.sub_zero, br_f (dcF (by omega))] at h
  have h8 := leaf_some h
  obtain ⟨rfl, rfl⟩ := Prod.mk.inj h8
  exact .stop _ _ _ hr (by simp)
 | j + 1, i, k, hi, h0, h1, ex, d, h => by
  have hM : maxI = 9223372036854775807 := rfl
  have hlt : i < l.length := by omega
  have hr := szWts_round l k i
  rw [ifB_true (dcT (by omega)), ifT_true (by simp only [anE, dcE]; omega), ntN, gtE hlt, ifSome_s, wrap_succ (n := i) (by omega)] at hr
  have ho1 := ho _ (List.getElem_mem hlt)
  have e : sumWt (l.drop i) = wWt l[i] + sumWt (l.drop (i + 1)) := by
   unfold sumWt
   rw [List.drop_eq_getElem_cons hlt, List.map_cons, List.sum_cons]
  generalize l[i] = z at hr ho1 e
  obtain ⟨a, c, d_, b, e_, f, ⟨⟩⟩ := z
  dsimp only at hr
  rw [ifT_true (by rw [anE]; exact ⟨dcT ⟨h0, h1⟩, ho1⟩)] at hr
  generalize wWt _ = w at hr e
  by_cases q : k - (w : Int) < 0
  ·rw [ifB_true (dcT q)] at hr
   rw [br_t (dcT (by rw [e]; push_cast; omega))] at h
   have h8 := leaf_some h
   obtain ⟨rfl, rfl⟩ := Prod.mk.inj h8
   exact .stop _ _ _ hr (by simp)
  ·rw [ifB_false (dcF q), ifB_false (dcF q)] at hr
   have e2 : k - (sumWt (l.drop i) : Int) = k - (w : Int) - (sumWt (l.drop (i + 1)) : Int) := by rw [e]; push_cast; omega
   rw [e2] at h
   exact .step _ _ _ _ hr (szWts_loop l hl ho j (i + 1) (k - (w : Int)) (by omega) (by omega) (by omega) ex d h)
theorem okWts_all {l : List Wt} (h : okWts l = true) : l.length ≤ maxI ∧ ∀ z ∈ l, okWt z = true := by
 unfold okWts at h
 rw [anE, dcE] at h
 exact ⟨h.1, List.all_eq_true.1 h.2⟩
theorem szWts_con : Contract Tryz.prog 160 (Ent.rd1 szWtsG).F := by
 refine fun_contract' (KnowsL.cons (enters_fn Tryz.func200 (by kernel_rfl) (by kernel_rfl)) szWt_con KnowsL.nil).knows (Λ := (look [(5, szWtsE)])) Tryz.func160 (c := Tryz.f160.body.getD .skip) (by kernel_rfl) fun vs bs r hq hv hb => ?_
 unfold Ent.F szWtsG at hq
 dsimp only at hq
 split at hq
 ·rename_i l k
  obtain ⟨hc, hx⟩ := need_some hq
  rw [anE, dcE] at hc
  obtain ⟨⟨h0, h1⟩, h2⟩ := hc
  obtain ⟨h3, h4⟩ := okWts_all h2
  have hM : maxI = 9223372036854775807 := rfl
  have hok : LoopsOk Tryz.prog (look [(200, .rd1 szWtG)]) (look [(5, szWtsE)]) 0 (Tryz.f160.body.getD .skip) := by
   refine loopsOk_one (a := body Tryz.f160 0) (by kernel_rfl) fun d ex d' h => ?_
   unfold szWtsE at h
   dsimp only at h
   split at h
   ·rename_i l k i
    obtain ⟨hc, hx⟩ := need_some h
    rw [anE, dcE] at hc
    obtain ⟨⟨a0, a1, a2, a3⟩, a4⟩ := hc
    obtain ⟨b1, b2⟩ := okWts_all a4
    obtain ⟨i, rfl⟩ := Int.eq_ofNat_of_zero_le a0
    simp only [ntN] at a1 hx
    exact szWts_loop l b1 b2 (l.length - i) i k (by omega) a2 a3 ex d' hx
   ·cases h
  refine ⟨hok, (szWts_tree l k).trans (Eq.trans ?_ hx)⟩
  show _ = (szA k (wWts l)).run
  have hw : IntKind.i64.wrap (k - (l.length : Int)) = k - (l.length : Int) := wrap_id (by omega) (by omega)
  unfold wWts
  rw [hw, List.drop_zero]
  by_cases q : k - (l.length : Int) < 0
  ·rw [ifB_true (dcT q), szA_t (by push_cast; omega)]
  ·rw [ifB_false (dcF q), ifT_true (by rw [anE]; exact ⟨dcT (by omega), h2⟩)]
   have e : k - (l.length : Int) - (sumWt l : Int) = k - ((l.length + sumWt l : Nat) : Int) := by push_cast; omega
   rw [e]
   by_cases q2 : k - ((l.length + sumWt l : Nat) : Int) < 0
   ·rw [ifB_true (dcT q2), szA_t q2]
   ·rw [ifB_false (dcF q2), szA_f q2]
 ·cases hq

def wSch (z : List Ty × Unit) : Nat := wTys z.1
def okSch (z : List Ty × Unit) : Bool := okTys z.1
def szSchG : List V → List Blk → Br (V × List (Option Blk))
 | [.agg [.sl (.pair (.int .i64) (.pair .str (.pair (.int .i64) (.pair .bool (.pair (.int .i64) (.pair (.int .i64) .unit)))))) l], .i .i64 k], [] => .need (decide (0 ≤ k ∧ k ≤ 1048576) && okSch (l, ())) (szA k (wSch (l, ())))
 | _, _ => .no
def wFil (z : List Wt × Unit) : Nat := wWts z.1
def okFil (z : List Wt × Unit) : Bool := okWts z.1
def szFilG : List V → List Blk → Br (V × List (Option Blk))
 | [.agg [.sl (.pair (.int .i64) (.pair (.int .i64) (.pair (.int .i64) (.pair .str (.pair (.int .i64) (.pair (.int .i64) .unit)))))) l], .i .i64 k], [] => .need (decide (0 ≤ k ∧ k ≤ 1048576) && okFil (l, ())) (szA k (wFil (l, ())))
 | _, _ => .no
def wTp (z : Tp) : Nat := z.1.length + wSch z.2.1
def okTp (z : Tp) : Bool := decide (z.1.length ≤ maxI) && okSch z.2.1
def szTpG : List V → List Blk → Br (V × List (Option Blk))
 | [.agg [.s a, .sl (.pair (.int .i64) (.pair .str (.pair (.int .i64) (.pair .bool (.pair (.int .i64) (.pair (.int .i64) .unit)))))) l, .i .i64 c], .i .i64 k], [] => .need (decide (0 ≤ k ∧ k ≤ 1048576) && okTp (a, (l, ()), c, ())) (szA k (wTp (a, (l, ()), c, ())))
 | _, _ => .no
def wFa (z : Fa) : Nat := z.2.1.length + (wFil z.2.2.1 + (wSch z.2.2.2.1 + wNts z.2.2.2.2.1))
def okFa (z : Fa) : Bool := decide (z.2.1.length ≤ maxI) && (okFil z.2.2.1 && (okSch z.2.2.2.1 && okNts z.2.2.2.2.1))
def szFaG : List V → List Blk → Br (V × List (Option Blk))
 | [.agg [.i .i64 w, .s p, .sl (.pair (.int .i64) (.pair (.int .i64) (.pair (.int .i64) (.pair .str (.pair (.int .i64) (.pair (.int .i64) .unit)))))) ws, .sl (.pair (.int .i64) (.pair .str (.pair (.int .i64) (.pair .bool (.pair (.int .i64) (.pair (.int .i64) .unit)))))) v, .sl (.pair .str (.pair (.int .i64) (.pair .str .unit))) b, .i .i64 c], .i .i64 k], [] => .need (decide (0 ≤ k ∧ k ≤ 1048576) && okFa (w, p, (ws, ()), (v, ()), b, c, ())) (szA k (wFa (w, p, (ws, ()), (v, ()), b, c, ())))
 | _, _ => .no
def sumTp (l : List Tp) : Nat := (l.map wTp).sum
def wTps (l : List Tp) : Nat := l.length + sumTp l
def okTps (l : List Tp) : Bool := decide (l.length ≤ maxI) && l.all okTp
def szTpsE : LoopEnt := ⟨27, [0,1,5], [1], [4], fun
 | ([.sl (.pair .str (.pair (.pair (.slice (.pair (.int .i64) (.pair .str (.pair (.int .i64) (.pair .bool (.pair (.int .i64) (.pair (.int .i64) .unit))))))) .unit) (.pair (.int .i64) .unit))) l, .i .i64 k, .i .i64 i], []) => .need (decide (0 ≤ i ∧ i.toNat ≤ l.length ∧ 0 ≤ k ∧ k ≤ 1048576) && okTps l) (.br (decide (k - (sumTp (l.drop i.toNat) : Int) < 0)) (.leaf (.ret, ([.i .i64 (-1)], []))) (.leaf (.exit 0, ([.i .i64 (k - (sumTp (l.drop i.toNat) : Int))], []))))
 | _ => .no⟩
def szTpsG : List V → List Blk → Br (V × List (Option Blk))
 | [.sl (.pair .str (.pair (.pair (.slice (.pair (.int .i64) (.pair .str (.pair (.int .i64) (.pair .bool (.pair (.int .i64) (.pair (.int .i64) .unit))))))) .unit) (.pair (.int .i64) .unit))) l, .i .i64 k], [] => .need (decide (0 ≤ k ∧ k ≤ 1048576) && okTps l) (szA k (wTps l))
 | _, _ => .no
def sumFa (l : List Fa) : Nat := (l.map wFa).sum
def wFas (l : List Fa) : Nat := l.length + sumFa l
def okFas (l : List Fa) : Bool := decide (l.length ≤ maxI) && l.all okFa
def szFasE : LoopEnt := ⟨27, [0,1,5], [1], [4], fun
 | ([.sl (.pair (.int .i64) (.pair .str (.pair (.pair (.slice (.pair (.int .i64) (.pair (.int .i64) (.pair (.int .i64) (.pair .str (.pair (.int .i64) (.pair (.int .i64) .unit))))))) .unit) (.pair (.pair (.slice (.pair (.int .i64) (.pair .str (.pair (.int .i64) (.pair .bool (.pair (.int .i64) (.pair (.int .i64) .unit))))))) .unit) (.pair (.slice (.pair .str (.pair (.int .i64) (.pair .str .unit)))) (.pair (.int .i64) .unit)))))) l, .i .i64 k, .i .i64 i], []) => .need (decide (0 ≤ i ∧ i.toNat ≤ l.length ∧ 0 ≤ k ∧ k ≤ 1048576) && okFas l) (.br (decide (k - (sumFa (l.drop i.toNat) : Int) < 0)) (.leaf (.ret, ([.i .i64 (-1)], []))) (.leaf (.exit 0, ([.i .i64 (k - (sumFa (l.drop i.toNat) : Int))], []))))
 | _ => .no⟩
def szFasG : List V → List Blk → Br (V × List (Option Blk))
 | [.sl (.pair (.int .i64) (.pair .str (.pair (.pair (.slice (.pair (.int .i64) (.pair (.int .i64) (.pair (.int .i64) (.pair .str (.pair (.int .i64) (.pair (.int .i64) .unit))))))) .unit) (.pair (.pair (.slice (.pair (.int .i64) (.pair .str (.pair (.int .i64) (.pair .bool (.pair (.int .i64) (.pair (.int .i64) .unit))))))) .unit) (.pair (.slice (.pair .str (.pair (.int .i64) (.pair .str .unit)))) (.pair (.int .i64) .unit)))))) l, .i .i64 k], [] => .need (decide (0 ≤ k ∧ k ≤ 1048576) && okFas l) (szA k (wFas l))
 | _, _ => .no
def wBk (z : List Tp × List Fa × Unit) : Nat := wTps z.1 + wFas z.2.1
def okBk (z : List Tp × List Fa × Unit) : Bool := okTps z.1 && okFas z.2.1
def szBkG : List V → List Blk → Br (V × List (Option Blk))
 | [.agg [.sl (.pair .str (.pair (.pair (.slice (.pair (.int .i64) (.pair .str (.pair (.int .i64) (.pair .bool (.pair (.int .i64) (.pair (.int .i64) .unit))))))) .unit) (.pair (.int .i64) .unit))) ts, .sl (.pair (.int .i64) (.pair .str (.pair (.pair (.slice (.pair (.int .i64) (.pair (.int .i64) (.pair (.int .i64) (.pair .str (.pair (.int .i64) (.pair (.int .i64) .unit))))))) .unit) (.pair (.pair (.slice (.pair (.int .i64) (.pair .str (.pair (.int .i64) (.pair .bool (.pair (.int .i64) (.pair (.int .i64) .unit))))))) .unit) (.pair (.slice (.pair .str (.pair (.int .i64) (.pair .str .unit)))) (.pair (.int .i64) .unit)))))) fs], .i .i64 k], [] => .need (decide (0 ≤ k ∧ k ≤ 1048576) && okBk (ts, fs, ())) (szA k (wBk (ts, fs, ())))
 | _, _ => .no

theorem szLast {k : Int} {w : Nat} {ok : Bool} (hok : ok = true) (h0 : 0 ≤ k) (h1 : k ≤ 1048576) : ifT (decide (0 ≤ k ∧ k ≤ 1048576) && ok) (ifB (decide (k - (w : Int) < 0)) (some (V.j (-1), ([] : List (Option Blk)))) (ifB (decide (k - (w : Int) < 0)) (some (V.j (-1), [])) (some (V.j (k - (w : Int)), [])))) = (szA k w).run := by
 rw [ifT_true (by rw [anE]; exact ⟨dcT ⟨h0, h1⟩, hok⟩)]
 by_cases q : k - (w : Int) < 0
 ·rw [ifB_true (dcT q), szA_t q]
 ·rw [ifB_false (dcF q), ifB_false (dcF q), szA_f q]
theorem szA_add {k : Int} {w r : Nat} (q : ¬ k - (w : Int) < 0) : (szA (k - (w : Int)) r).run = (szA k (w + r)).run := by
 have e : k - (w : Int) - (r : Int) = k - ((w + r : Nat) : Int) := by push_cast; omega
 by_cases q2 : k - (w : Int) - (r : Int) < 0
 ·rw [szA_t q2, szA_t (by omega)]
 ·rw [szA_f q2, szA_f (by omega), e]
theorem szStep {k : Int} {w r : Nat} {ok : Bool} {X : Option (V × List (Option Blk))} (hok : ok = true) (h0 : 0 ≤ k) (h1 : k ≤ 1048576) (hX : ¬ k - (w : Int) < 0 → X = (szA (k - (w : Int)) r).run) : ifT (decide (0 ≤ k ∧ k ≤ 1048576) && ok) (ifB (decide (k - (w : Int) < 0)) (some (V.j (-1), ([] : List (Option Blk)))) (ifB (decide (k - (w : Int) < 0)) (some (V.j (-1), [])) X)) = (szA k (w + r)).run := by
 rw [ifT_true (by rw [anE]; exact ⟨dcT ⟨h0, h1⟩, hok⟩)]
 by_cases q : k - (w : Int) < 0
 ·rw [ifB_true (dcT q), szA_t (by push_cast; omega)]
 ·rw [ifB_false (dcF q), ifB_false (dcF q), hX q, szA_add q]
theorem szStr {k : Int} {w r : Nat} {X : Option (V × List (Option Blk))} (hX : ¬ k - (w : Int) < 0 → X = (szA (k - (w : Int)) r).run) : ifB (decide (k - (w : Int) < 0)) (some (V.j (-1), ([] : List (Option Blk)))) X = (szA k (w + r)).run := by
 by_cases q : k - (w : Int) < 0
 ·rw [ifB_true (dcT q), szA_t (by push_cast; omega)]
 ·rw [ifB_false (dcF q), hX q, szA_add q]
theorem szSch_tree (l : List Ty) (k : Int) : funK Tryz.prog (look [(155, .rd1 szTysG)]) (look []) Tryz.f106 [.agg [.sl TCd l], .j k] [] =
 ((ifT (decide ((0 : Int) ≤ k ∧ k ≤ (1048576 : Int)) && okTys l) (ifB (decide (k - (↑(wTys l) : Int) < (0 : Int))) (some (V.j (-1), [])) (ifB (decide (k - (↑(wTys l) :
 Int) < (0 : Int))) (some (V.j (-1), [])) (some (V.j (k - (↑(wTys l) : Int)), []))))) : _) := by kernel_rfl
theorem szSch_con : Contract Tryz.prog 106 (Ent.rd1 szSchG).F := by
 refine fun_contract' (KnowsL.cons (enters_fn Tryz.func155 (by kernel_rfl) (by kernel_rfl)) szTys_con KnowsL.nil).knows (Λ := look []) Tryz.func106 (c := Tryz.f106.body.getD .skip) (by kernel_rfl) fun vs_ bs_ r_ hq_ hv_ hb_ => ?_
 unfold Ent.F szSchG at hq_
 dsimp only at hq_
 split at hq_
 ·rename_i l k
  obtain ⟨hc, hx⟩ := need_some hq_
  rw [anE, dcE] at hc
  obtain ⟨⟨h0, h1⟩, h2⟩ := hc
  unfold okSch at h2
  dsimp only at h2
  have hM : maxI = 9223372036854775807 := rfl
  refine ⟨loopsOk_nil _, (szSch_tree l k).trans (Eq.trans ?_ hx)⟩
  show _ = (szA k (wSch (l, ()))).run
  unfold wSch
  dsimp only
  rw [ifT_true (by rw [anE]; exact ⟨dcT ⟨h0, h1⟩, h2⟩)]
  by_cases q : k - (wTys l : Int) < 0
  ·rw [ifB_true (dcT q), szA_t q]
  ·rw [ifB_false (dcF q), ifB_false (dcF q), szA_f q]
 ·cases hq_
theorem szFil_tree (l : List Wt) (k : Int) : funK Tryz.prog (look [(160, .rd1 szWtsG)]) (look []) Tryz.f118 [.agg [.sl WCd l], .j k] [] =
 ((ifT (decide ((0 : Int) ≤ k ∧ k ≤ (1048576 : Int)) && okWts l) (ifB (decide (k - (↑(wWts l) : Int) < (0 : Int))) (some (V.j (-1), [])) (ifB (decide (k - (↑(wWts l) :
 Int) < (0 : Int))) (some (V.j (-1), [])) (some (V.j (k - (↑(wWts l) : Int)), []))))) : _) := by kernel_rfl
theorem szFil_con : Contract Tryz.prog 118 (Ent.rd1 szFilG).F := by
 refine fun_contract' (KnowsL.cons (enters_fn Tryz.func160 (by kernel_rfl) (by kernel_rfl)) szWts_con KnowsL.nil).knows (Λ := look []) Tryz.func118 (c := Tryz.f118.body.getD .skip) (by kernel_rfl) fun vs_ bs_ r_ hq_ hv_ hb_ => ?_
 unfold Ent.F szFilG at hq_
 dsimp only at hq_
 split at hq_
 ·rename_i l k
  obtain ⟨hc, hx⟩ := need_some hq_
  rw [anE, dcE] at hc
  obtain ⟨⟨h0, h1⟩, h2⟩ := hc
  unfold okFil at h2
  dsimp only at h2
  have hM : maxI = 9223372036854775807 := rfl
  refine ⟨loopsOk_nil _, (szFil_tree l k).trans (Eq.trans ?_ hx)⟩
  show _ = (szA k (wFil (l, ()))).run
  unfold wFil
  dsimp only
  rw [ifT_true (by rw [anE]; exact ⟨dcT ⟨h0, h1⟩, h2⟩)]
  by_cases q : k - (wWts l : Int) < 0
  ·rw [ifB_true (dcT q), szA_t q]
  ·rw [ifB_false (dcF q), ifB_false (dcF q), szA_f q]
 ·cases hq_
theorem szTp_tree (a : List UInt8) (l : List Ty) (c : Int) (k : Int) : funK Tryz.prog (look [(106, .rd1 szSchG)]) (look []) Tryz.f50 [.agg [.s a, .sl TCd l, .j c], .j k] [] =
 ((ifB (decide (IntKind.i64.wrap (k - (↑a.length : Int)) < (0 : Int))) (some (V.j (-1), [])) (ifT (decide ((0 : Int) ≤ IntKind.i64.wrap (k - (↑a.length : Int)) ∧
 IntKind.i64.wrap (k - (↑a.length : Int)) ≤ (1048576 : Int)) && okSch (l, ())) (ifB (decide (IntKind.i64.wrap (k - (↑a.length : Int)) - (↑(wSch (l, ())) : Int) < (0 :
 Int))) (some (V.j (-1), [])) (ifB (decide (IntKind.i64.wrap (k - (↑a.length : Int)) - (↑(wSch (l, ())) : Int) < (0 : Int))) (some (V.j (-1), [])) (some (V.i
 .i64 (IntKind.i64.wrap (k - (↑a.length : Int)) - (↑(wSch (l, ())) : Int)), [])))))) : _) := by kernel_rfl
theorem szTp_con : Contract Tryz.prog 50 (Ent.rd1 szTpG).F := by
 refine fun_contract' (KnowsL.cons (enters_fn Tryz.func106 (by kernel_rfl) (by kernel_rfl)) szSch_con KnowsL.nil).knows (Λ := look []) Tryz.func50 (c := Tryz.f50.body.getD .skip) (by kernel_rfl) fun vs_ bs_ r_ hq_ hv_ hb_ => ?_
 unfold Ent.F szTpG at hq_
 dsimp only at hq_
 split at hq_
 ·rename_i a l c k
  obtain ⟨hc, hx⟩ := need_some hq_
  rw [anE, dcE] at hc
  obtain ⟨⟨h0, h1⟩, h2⟩ := hc
  unfold okTp at h2
  dsimp only at h2
  have hM : maxI = 9223372036854775807 := rfl
  refine ⟨loopsOk_nil _, (szTp_tree a l c k).trans (Eq.trans ?_ hx)⟩
  show _ = (szA k (wTp (a, (l, ()), c, ()))).run
  unfold wTp
  dsimp only
  rw [anE, dcE] at h2
  obtain ⟨h3, h4⟩ := h2
  have hw : IntKind.i64.wrap (k - (a.length : Int)) = k - (a.length : Int) := wrap_id (by omega) (by omega)
  rw [hw]
  exact szStr fun q => szLast h4 (by omega) (by omega)
 ·cases hq_
theorem szFa_tree (w : Int) (p : List UInt8) (ws : List Wt) (v : List Ty) (b : List Nt) (c : Int) (k : Int) : funK Tryz.prog (look [(118, .rd1 szFilG), (106, .rd1 szSchG), (119, .rd1 szNtsG)]) (look []) Tryz.f75 [.agg [.j w, .s p, .sl WCd ws, .sl TCd v, .sl NTd b, .j c], .j k] [] =
 ((ifB (decide (IntKind.i64.wrap (k - (↑p.length : Int)) < (0 : Int))) (some (V.j (-1), [])) (ifT (decide ((0 : Int) ≤ IntKind.i64.wrap (k - (↑p.length : Int)) ∧
 IntKind.i64.wrap (k - (↑p.length : Int)) ≤ (1048576 : Int)) && okFil (ws, ())) (ifB (decide (IntKind.i64.wrap (k - (↑p.length : Int)) - (↑(wFil (ws, ())) : Int) < (0 :
 Int))) (some (V.j (-1), [])) (ifB (decide (IntKind.i64.wrap (k - (↑p.length : Int)) - (↑(wFil (ws, ())) : Int) < (0 : Int))) (some (V.j (-1), [])) (ifT (decide
 ((0 : Int) ≤ IntKind.i64.wrap (k - (↑p.length : Int)) - (↑(wFil (ws, ())) : Int) ∧ IntKind.i64.wrap (k - (↑p.length : Int)) - (↑(wFil (ws, ())) : Int) ≤ (1048576 : Int))
 && okSch (v, ())) (ifB (decide (IntKind.i64.wrap (k - (↑p.length : Int)) - (↑(wFil (ws, ())) : Int) - (↑(wSch (v, ())) : Int) < (0 : Int))) (some (V.j (-1), []))
 (ifB (decide (IntKind.i64.wrap (k - (↑p.length : Int)) - (↑(wFil (ws, ())) : Int) - (↑(wSch (v, ())) : Int) < (0 : Int))) (some (V.j (-1), [])) (ifT (decide ((0 :
 Int) ≤ IntKind.i64.wrap (k - (↑p.length : Int)) - (↑(wFil (ws, ())) : Int) - (↑(wSch (v, ())) : Int) ∧ IntKind.i64.wrap (k - (↑p.length : Int)) - (↑(wFil (ws, ())) : Int)
 - (↑(wSch (v, ())) : Int) ≤ (1048576 : Int)) && okNts b) (ifB (decide (IntKind.i64.wrap (k - (↑p.length : Int)) - (↑(wFil (ws, ())) : Int) - (↑(wSch (v, ())) : Int) -
 (↑(wNts b) : Int) < (0 : Int))) (some (V.j (-1), [])) (ifB (decide (IntKind.i64.wrap (k - (↑p.length : Int)) - (↑(wFil (ws, ())) : Int) - (↑(wSch (v, ())) : Int) -
 (↑(wNts b) : Int) < (0 : Int))) (some (V.j (-1), [])) (some (V.j (IntKind.i64.wrap (k - (↑p.length : Int)) - (↑(wFil (ws, ())) : Int) - (↑(wSch (v, ())) : Int)
 - (↑(wNts b) : Int)), [])))))))))))) : _) := by kernel_rfl
theorem szFa_con : Contract Tryz.prog 75 (Ent.rd1 szFaG).F := by
 refine fun_contract' (KnowsL.cons (enters_fn Tryz.func118 (by kernel_rfl) (by kernel_rfl)) szFil_con (KnowsL.cons (enters_fn Tryz.func106 (by kernel_rfl) (by kernel_rfl)) szSch_con (KnowsL.cons (enters_fn Tryz.func119 (by kernel_rfl) (by kernel_rfl)) szNts_con KnowsL.nil))).knows (Λ := look []) Tryz.func75 (c := Tryz.f75.body.getD .skip) (by kernel_rfl) fun vs_ bs_ r_ hq_ hv_ hb_ => ?_
 unfold Ent.F szFaG at hq_
 dsimp only at hq_
 split at hq_
 ·rename_i w p ws v b c k
  obtain ⟨hc, hx⟩ := need_some hq_
  rw [anE, dcE] at hc
  obtain ⟨⟨h0, h1⟩, h2⟩ := hc
  unfold okFa at h2
  dsimp only at h2
  have hM : maxI = 9223372036854775807 := rfl
  refine ⟨loopsOk_nil _, (szFa_tree w p ws v b c k).trans (Eq.trans ?_ hx)⟩
  show _ = (szA k (wFa (w, p, (ws, ()), (v, ()), b, c, ()))).run
  unfold wFa
  dsimp only
  simp only [anE, dcE] at h2
  obtain ⟨h3, h4, h5, h6⟩ := h2
  have hw : IntKind.i64.wrap (k - (p.length : Int)) = k - (p.length : Int) := wrap_id (by omega) (by omega)
  rw [hw]
  exact szStr fun q => szStep h4 (by omega) (by omega) fun q2 => szStep h5 (by omega) (by omega) fun q3 => szLast h6 (by omega) (by omega)
 ·cases hq_
theorem szTps_round (l : List Tp) (k i : Int) : roundK Tryz.prog (look [(50, .rd1 szTpG)]) (look [(5, szTpsE)]) 0 (body Tryz.f19 0) szTpsE ([.sl TPd l, .j k, .j i], []) =
 ((ifB (decide (i < (↑l.length : Int))) (ifT (decide ((0 : Int) ≤ i) && decide (i < (↑l.length : Int))) (ifSome l[i.toNat]? fun z => ifT (decide ((0 : Int) ≤ k ∧ k ≤ (1048576
 : Int)) && okTp (z.fst, (z.snd.fst.fst, ()), z.snd.snd.fst, ())) (ifB (decide (k - (↑(wTp (z.fst, (z.snd.fst.fst, ()), z.snd.snd.fst, ())) : Int) < (0 : Int))) (some
 (Ex.ret, [V.j (-1)], [])) (ifB (decide (k - (↑(wTp (z.fst, (z.snd.fst.fst, ()), z.snd.snd.fst, ())) : Int) < (0 : Int))) (some (Ex.ret, [V.j (-1)], [])) (some
 (Ex.normal, [V.sl TPd l, V.j (k - (↑(wTp (z.fst, (z.snd.fst.fst, ()), z.snd.snd.fst, ())) : Int)), V.j (IntKind.i64.wrap (i + (1 : Int)))], [])))))) (some
 (Ex.exit 0, [V.j k], []))) : _) := by kernel_rfl
theorem szTps_tree (l : List Tp) (k : Int) : funK Tryz.prog (look [(50, .rd1 szTpG)]) (look [(5, szTpsE)]) Tryz.f19 [.sl TPd l, .j k] [] =
 ((ifB (decide (IntKind.i64.wrap (k - (↑l.length : Int)) < (0 : Int))) (some (V.j (-1), [])) (ifT (decide ((0 : Int) ≤ (0 : Int) ∧ (0 : Nat) ≤ l.length ∧ (0 : Int) ≤
 IntKind.i64.wrap (k - (↑l.length : Int)) ∧ IntKind.i64.wrap (k - (↑l.length : Int)) ≤ (1048576 : Int)) && okTps l) (ifB (decide (IntKind.i64.wrap (k - (↑l.length : Int))
 - (↑(sumTp (List.drop (0 : Nat) l)) : Int) < (0 : Int))) (some (V.j (-1), [])) (some (V.j (IntKind.i64.wrap (k - (↑l.length : Int)) - (↑(sumTp (List.drop (0 :
 Nat) l)) : Int)), []))))) : _) := by kernel_rfl
theorem szTps_loop (l : List Tp) (hl : l.length ≤ maxI) (ho : ∀ z ∈ l, okTp z = true) : ∀ (j i : Nat) (k : Int), i + j = l.length → 0 ≤ k → k ≤ 1048576 → ∀ ex d, (Br.br (decide (k - (sumTp (l.drop i) : Int) < 0)) (.leaf (.ret, ([.j (-1)], []))) (.leaf (.exit 0, ([.j (k - (sumTp (l.drop i) : Int))], []))) : Br (Ex × Dt)).run = some (ex, d) → Runs Tryz.prog (look [(50, .rd1 szTpG)]) (look [(5, szTpsE)]) 0 (body Tryz.f19 0) szTpsE ([.sl TPd l, .j k, .j (i : Int)], []) ex d
 | 0, i, k, hi, h0, h1, ex, d, h => by
  have hr := szTps_round l k i
  rw [ifB_false (dcF (by omega))] at hr
  have e0 : (sumTp (l.drop i) : Int) = 0 := by rw [List.drop_eq_nil_of_le (by omega)]; rfl
  rw [e0, Int.sub_zero, br_f (dcF (by omega))] at h
  have h8 := leaf_some h
  obtain ⟨rfl, rfl⟩ := Prod.mk.inj h8
  exact .stop _ _ _ hr (by simp)
 | j + 1, i, k, hi, h0, h1, ex, d, h => by
  have hM : maxI = 9223372036854775807 := rfl
  have hlt : i < l.length := by omega
  have hr := szTps_round l k i
  rw [ifB_true (dcT (by omega)), ifT_true (by simp only [anE, dcE]; omega), ntN, gtE hlt, ifSome_s, wrap_succ (n := i) (by omega)] at hr
  have ho1 := ho _ (List.getElem_mem hlt)
  have e : sumTp (l.drop i) = wTp l[i] + sumTp (l.drop (i + 1)) := by
   unfold sumTp
   rw [List.drop_eq_getElem_cons hlt, List.map_cons, List.sum_cons]
  generalize l[i] = z at hr ho1 e
  obtain ⟨a, ⟨l_, ⟨⟩⟩, c, ⟨⟩⟩ := z
  dsimp only at hr
  rw [ifT_true (by rw [anE]; exact ⟨dcT ⟨h0, h1⟩, ho1⟩)] at hr
  generalize wTp _ = w at hr e
  by_cases q : k - (w : Int) < 0
  ·rw [ifB_true (dcT q)] at hr
   rw [br_t (dcT (by rw [e]; push_cast; omega))] at h
   have h8 := leaf_some h
   obtain ⟨rfl, rfl⟩ := Prod.mk.inj h8
   exact .stop _ _ _ hr (by simp)
  ·rw [ifB_false (dcF q), ifB_false (dcF q)] at hr
   have e2 : k - (sumTp (l.drop i) : Int) = k - (w : Int) - (sumTp (l.drop (i + 1)) : Int) := by rw [e]; push_cast; omega
   rw [e2] at h
   exact .step _ _ _ _ hr (szTps_loop l hl ho j (i + 1) (k - (w : Int)) (by omega) (by omega) (by omega) ex d h)
theorem okTps_all {l : List Tp} (h : okTps l = true) : l.length ≤ maxI ∧ ∀ z ∈ l, okTp z = true := by
 unfold okTps at h
 rw [anE, dcE] at h
 exact ⟨h.1, List.all_eq_true.1 h.2⟩
theorem szTps_con : Contract Tryz.prog 19 (Ent.rd1 szTpsG).F := by
 refine fun_contract' (KnowsL.cons (enters_fn Tryz.func50 (by kernel_rfl) (by kernel_rfl)) szTp_con KnowsL.nil).knows (Λ := (look [(5, szTpsE)])) Tryz.func19 (c := Tryz.f19.body.getD .skip) (by kernel_rfl) fun vs bs r hq hv hb => ?_
 unfold Ent.F szTpsG at hq
 dsimp only at hq
 split at hq
 ·rename_i l k
  obtain ⟨hc, hx⟩ := need_some hq
  rw [anE, dcE] at hc
  obtain ⟨⟨h0, h1⟩, h2⟩ := hc
  obtain ⟨h3, h4⟩ := okTps_all h2
  have hM : maxI = 9223372036854775807 := rfl
  have hok : LoopsOk Tryz.prog (look [(50, .rd1 szTpG)]) (look [(5, szTpsE)]) 0 (Tryz.f19.body.getD .skip) := by
   refine loopsOk_one (a := body Tryz.f19 0) (by kernel_rfl) fun d ex d' h => ?_
   unfold szTpsE at h
   dsimp only at h
   split at h
   ·rename_i l k i
    obtain ⟨hc, hx⟩ := need_some h
    rw [anE, dcE] at hc
    obtain ⟨⟨a0, a1, a2, a3⟩, a4⟩ := hc
    obtain ⟨b1, b2⟩ := okTps_all a4
    obtain ⟨i, rfl⟩ := Int.eq_ofNat_of_zero_le a0
    simp only [ntN] at a1 hx
    exact szTps_loop l b1 b2 (l.length - i) i k (by omega) a2 a3 ex d' hx
   ·cases h
  refine ⟨hok, (szTps_tree l k).trans (Eq.trans ?_ hx)⟩
  show _ = (szA k (wTps l)).run
  have hw : IntKind.i64.wrap (k - (l.length : Int)) = k - (l.length : Int) := wrap_id (by omega) (by omega)
  unfold wTps
  rw [hw, List.drop_zero]
  by_cases q : k - (l.length : Int) < 0
  ·rw [ifB_true (dcT q), szA_t (by push_cast; omega)]
  ·rw [ifB_false (dcF q), ifT_true (by rw [anE]; exact ⟨dcT (by omega), h2⟩)]
   have e : k - (l.length : Int) - (sumTp l : Int) = k - ((l.length + sumTp l : Nat) : Int) := by push_cast; omega
   rw [e]
   by_cases q2 : k - ((l.length + sumTp l : Nat) : Int) < 0
   ·rw [ifB_true (dcT q2), szA_t q2]
   ·rw [ifB_false (dcF q2), szA_f q2]
 ·cases hq
theorem szFas_round (l : List Fa) (k i : Int) : roundK Tryz.prog (look [(75, .rd1 szFaG)]) (look [(5, szFasE)]) 0 (body Tryz.f36 0) szFasE ([.sl FNd l, .j k, .j i], []) =
 ((ifB (decide (i < (↑l.length : Int))) (ifT (decide ((0 : Int) ≤ i) && decide (i < (↑l.length : Int))) (ifSome l[i.toNat]? fun z => ifT (decide ((0 : Int) ≤ k ∧ k ≤ (1048576
 : Int)) && okFa (z.fst, z.snd.fst, (z.snd.snd.fst.fst, ()), (z.snd.snd.snd.fst.fst, ()), z.snd.snd.snd.snd.fst, z.snd.snd.snd.snd.snd.fst, ())) (ifB (decide (k - (↑(wFa
 (z.fst, z.snd.fst, (z.snd.snd.fst.fst, ()), (z.snd.snd.snd.fst.fst, ()), z.snd.snd.snd.snd.fst, z.snd.snd.snd.snd.snd.fst, ())) : Int) < (0 : Int))) (some (Ex.ret, [V.i
 .i64 (-1)], [])) (ifB (decide (k - (↑(wFa (z.fst, z.snd.fst, (z.snd.snd.fst.fst, ()), (z.snd.snd.snd.fst.fst, ()), z.snd.snd.snd.snd.fst, z.snd.snd.snd.snd.snd.fst, ()))
 : Int) < (0 : Int))) (some (Ex.ret, [V.j (-1)], [])) (some (Ex.normal, [V.sl FNd l, V.j (k - (↑(wFa (z.fst, z.snd.fst, (z.snd.snd.fst.fst, ()),
 (z.snd.snd.snd.fst.fst, ()), z.snd.snd.snd.snd.fst, z.snd.snd.snd.snd.snd.fst, ())) : Int)), V.j (IntKind.i64.wrap (i + (1 : Int)))], [])))))) (some (Ex.exit 0, [V.i
 .i64 k], []))) : _) := by kernel_rfl
theorem szFas_tree (l : List Fa) (k : Int) : funK Tryz.prog (look [(75, .rd1 szFaG)]) (look [(5, szFasE)]) Tryz.f36 [.sl FNd l, .j k] [] =
 ((ifB (decide (IntKind.i64.wrap (k - (↑l.length : Int)) < (0 : Int))) (some (V.j (-1), [])) (ifT (decide ((0 : Int) ≤ (0 : Int) ∧ (0 : Nat) ≤ l.length ∧ (0 : Int) ≤
 IntKind.i64.wrap (k - (↑l.length : Int)) ∧ IntKind.i64.wrap (k - (↑l.length : Int)) ≤ (1048576 : Int)) && okFas l) (ifB (decide (IntKind.i64.wrap (k - (↑l.length : Int))
 - (↑(sumFa (List.drop (0 : Nat) l)) : Int) < (0 : Int))) (some (V.j (-1), [])) (some (V.j (IntKind.i64.wrap (k - (↑l.length : Int)) - (↑(sumFa (List.drop (0 :
 Nat) l)) : Int)), []))))) : _) := by kernel_rfl
theorem szFas_loop (l : List Fa) (hl : l.length ≤ maxI) (ho : ∀ z ∈ l, okFa z = true) : ∀ (j i : Nat) (k : Int), i + j = l.length → 0 ≤ k → k ≤ 1048576 → ∀ ex d, (Br.br (decide (k - (sumFa (l.drop i) : Int) < 0)) (.leaf (.ret, ([.j (-1)], []))) (.leaf (.exit 0, ([.j (k - (sumFa (l.drop i) : Int))], []))) : Br (Ex × Dt)).run = some (ex, d) → Runs Tryz.prog (look [(75, .rd1 szFaG)]) (look [(5, szFasE)]) 0 (body Tryz.f36 0) szFasE ([.sl FNd l, .j k, .j (i : Int)], []) ex d
 | 0, i, k, hi, h0, h1, ex, d, h => by
  have hr := szFas_round l k i
  rw [ifB_false (dcF (by omega))] at hr
  have e0 : (sumFa (l.drop i) : Int) = 0 := by rw [List.drop_eq_nil_of_le (by omega)]; rfl
  rw [e0, Int.sub_zero, br_f (dcF (by omega))] at h
  have h8 := leaf_some h
  obtain ⟨rfl, rfl⟩ := Prod.mk.inj h8
  exact .stop _ _ _ hr (by simp)
 | j + 1, i, k, hi, h0, h1, ex, d, h => by
  have hM : maxI = 9223372036854775807 := rfl
  have hlt : i < l.length := by omega
  have hr := szFas_round l k i
  rw [ifB_true (dcT (by omega)), ifT_true (by simp only [anE, dcE]; omega), ntN, gtE hlt, ifSome_s, wrap_succ (n := i) (by omega)] at hr
  have ho1 := ho _ (List.getElem_mem hlt)
  have e : sumFa (l.drop i) = wFa l[i] + sumFa (l.drop (i + 1)) := by
   unfold sumFa
   rw [List.drop_eq_getElem_cons hlt, List.map_cons, List.sum_cons]
  generalize l[i] = z at hr ho1 e
  obtain ⟨w_, p, ⟨ws, ⟨⟩⟩, ⟨v, ⟨⟩⟩, b, c, ⟨⟩⟩ := z
  dsimp only at hr
  rw [ifT_true (by rw [anE]; exact ⟨dcT ⟨h0, h1⟩, ho1⟩)] at hr
  generalize wFa _ = w at hr e
  by_cases q : k - (w : Int) < 0
  ·rw [ifB_true (dcT q)] at hr
   rw [br_t (dcT (by rw [e]; push_cast; omega))] at h
   have h8 := leaf_some h
   obtain ⟨rfl, rfl⟩ := Prod.mk.inj h8
   exact .stop _ _ _ hr (by simp)
  ·rw [ifB_false (dcF q), ifB_false (dcF q)] at hr
   have e2 : k - (sumFa (l.drop i) : Int) = k - (w : Int) - (sumFa (l.drop (i + 1)) : Int) := by rw [e]; push_cast; omega
   rw [e2] at h
   exact .step _ _ _ _ hr (szFas_loop l hl ho j (i + 1) (k - (w : Int)) (by omega) (by omega) (by omega) ex d h)
theorem okFas_all {l : List Fa} (h : okFas l = true) : l.length ≤ maxI ∧ ∀ z ∈ l, okFa z = true := by
 unfold okFas at h
 rw [anE, dcE] at h
 exact ⟨h.1, List.all_eq_true.1 h.2⟩
theorem szFas_con : Contract Tryz.prog 36 (Ent.rd1 szFasG).F := by
 refine fun_contract' (KnowsL.cons (enters_fn Tryz.func75 (by kernel_rfl) (by kernel_rfl)) szFa_con KnowsL.nil).knows (Λ := (look [(5, szFasE)])) Tryz.func36 (c := Tryz.f36.body.getD .skip) (by kernel_rfl) fun vs bs r hq hv hb => ?_
 unfold Ent.F szFasG at hq
 dsimp only at hq
 split at hq
 ·rename_i l k
  obtain ⟨hc, hx⟩ := need_some hq
  rw [anE, dcE] at hc
  obtain ⟨⟨h0, h1⟩, h2⟩ := hc
  obtain ⟨h3, h4⟩ := okFas_all h2
  have hM : maxI = 9223372036854775807 := rfl
  have hok : LoopsOk Tryz.prog (look [(75, .rd1 szFaG)]) (look [(5, szFasE)]) 0 (Tryz.f36.body.getD .skip) := by
   refine loopsOk_one (a := body Tryz.f36 0) (by kernel_rfl) fun d ex d' h => ?_
   unfold szFasE at h
   dsimp only at h
   split at h
   ·rename_i l k i
    obtain ⟨hc, hx⟩ := need_some h
    rw [anE, dcE] at hc
    obtain ⟨⟨a0, a1, a2, a3⟩, a4⟩ := hc
    obtain ⟨b1, b2⟩ := okFas_all a4
    obtain ⟨i, rfl⟩ := Int.eq_ofNat_of_zero_le a0
    simp only [ntN] at a1 hx
    exact szFas_loop l b1 b2 (l.length - i) i k (by omega) a2 a3 ex d' hx
   ·cases h
  refine ⟨hok, (szFas_tree l k).trans (Eq.trans ?_ hx)⟩
  show _ = (szA k (wFas l)).run
  have hw : IntKind.i64.wrap (k - (l.length : Int)) = k - (l.length : Int) := wrap_id (by omega) (by omega)
  unfold wFas
  rw [hw, List.drop_zero]
  by_cases q : k - (l.length : Int) < 0
  ·rw [ifB_true (dcT q), szA_t (by push_cast; omega)]
  ·rw [ifB_false (dcF q), ifT_true (by rw [anE]; exact ⟨dcT (by omega), h2⟩)]
   have e : k - (l.length : Int) - (sumFa l : Int) = k - ((l.length + sumFa l : Nat) : Int) := by push_cast; omega
   rw [e]
   by_cases q2 : k - ((l.length + sumFa l : Nat) : Int) < 0
   ·rw [ifB_true (dcT q2), szA_t q2]
   ·rw [ifB_false (dcF q2), szA_f q2]
 ·cases hq
theorem szBk_tree (ts : List Tp) (fs : List Fa) (k : Int) : funK Tryz.prog (look [(19, .rd1 szTpsG), (36, .rd1 szFasG)]) (look []) Tryz.f9 [.agg [.sl TPd ts, .sl FNd fs], .j k] [] =
 ((ifT (decide ((0 : Int) ≤ k ∧ k ≤ (1048576 : Int)) && okTps ts) (ifB (decide (k - (↑(wTps ts) : Int) < (0 : Int))) (some (V.j (-1), [])) (ifB (decide (k - (↑(wTps ts)
 : Int) < (0 : Int))) (some (V.j (-1), [])) (ifT (decide ((0 : Int) ≤ k - (↑(wTps ts) : Int) ∧ k - (↑(wTps ts) : Int) ≤ (1048576 : Int)) && okFas fs) (ifB (decide (k
 - (↑(wTps ts) : Int) - (↑(wFas fs) : Int) < (0 : Int))) (some (V.j (-1), [])) (ifB (decide (k - (↑(wTps ts) : Int) - (↑(wFas fs) : Int) < (0 : Int))) (some (V.i .i64
 (-1), [])) (some (V.j (k - (↑(wTps ts) : Int) - (↑(wFas fs) : Int)), [])))))))) : _) := by kernel_rfl
theorem szBk_con : Contract Tryz.prog 9 (Ent.rd1 szBkG).F := by
 refine fun_contract' (KnowsL.cons (enters_fn Tryz.func19 (by kernel_rfl) (by kernel_rfl)) szTps_con (KnowsL.cons (enters_fn Tryz.func36 (by kernel_rfl) (by kernel_rfl)) szFas_con KnowsL.nil)).knows (Λ := look []) Tryz.func9 (c := Tryz.f9.body.getD .skip) (by kernel_rfl) fun vs_ bs_ r_ hq_ hv_ hb_ => ?_
 unfold Ent.F szBkG at hq_
 dsimp only at hq_
 split at hq_
 ·rename_i ts fs k
  obtain ⟨hc, hx⟩ := need_some hq_
  rw [anE, dcE] at hc
  obtain ⟨⟨h0, h1⟩, h2⟩ := hc
  unfold okBk at h2
  dsimp only at h2
  have hM : maxI = 9223372036854775807 := rfl
  refine ⟨loopsOk_nil _, (szBk_tree ts fs k).trans (Eq.trans ?_ hx)⟩
  show _ = (szA k (wBk (ts, fs, ()))).run
  unfold wBk
  dsimp only
  rw [anE] at h2
  exact szStep h2.1 h0 h1 fun q2 => szLast h2.2 (by omega) (by omega)
 ·cases hq_

def eqL {α : Type} (f : α → α → Bool) : List α → List α → Bool
 | [], [] => true
 | x :: l, y :: q => f x y && eqL f l q
 | _, _ => false
def eqNt (x y : Nt) : Bool := x.1 == y.1 && (x.2.1 == y.2.1 && x.2.2.1 == y.2.2.1)
def eqNtG : List V → List Blk → Br (V × List (Option Blk))
 | [.agg [.s a0, .i .i64 a1, .s a2], .agg [.s b0, .i .i64 b1, .s b2]], [] => .leaf (.b (eqNt (a0, a1, a2, ()) (b0, b1, b2, ())), [])
 | _, _ => .no
def eqTy (x y : Ty) : Bool := x.1 == y.1 && (x.2.1 == y.2.1 && (x.2.2.1 == y.2.2.1 && (x.2.2.2.1 == y.2.2.2.1 && (x.2.2.2.2.1 == y.2.2.2.2.1 && x.2.2.2.2.2.1 == y.2.2.2.2.2.1))))
def eqTyG : List V → List Blk → Br (V × List (Option Blk))
 | [.agg [.i .i64 a0, .s a1, .i .i64 a2, .b a3, .i .i64 a4, .i .i64 a5], .agg [.i .i64 b0, .s b1, .i .i64 b2, .b b3, .i .i64 b4, .i .i64 b5]], [] => .leaf (.b (eqTy (a0, a1, a2, a3, a4, a5, ()) (b0, b1, b2, b3, b4, b5, ())), [])
 | _, _ => .no
def eqWt (x y : Wt) : Bool := x.1 == y.1 && (x.2.1 == y.2.1 && (x.2.2.1 == y.2.2.1 && (x.2.2.2.1 == y.2.2.2.1 && (x.2.2.2.2.1 == y.2.2.2.2.1 && x.2.2.2.2.2.1 == y.2.2.2.2.2.1))))
def eqWtG : List V → List Blk → Br (V × List (Option Blk))
 | [.agg [.i .i64 a0, .i .i64 a1, .i .i64 a2, .s a3, .i .i64 a4, .i .i64 a5], .agg [.i .i64 b0, .i .i64 b1, .i .i64 b2, .s b3, .i .i64 b4, .i .i64 b5]], [] => .leaf (.b (eqWt (a0, a1, a2, a3, a4, a5, ()) (b0, b1, b2, b3, b4, b5, ())), [])
 | _, _ => .no
def eqNtsE : LoopEnt := ⟨27, [0,1,5], [], [4], fun
 | ([.sl (.pair .str (.pair (.int .i64) (.pair .str .unit))) l, .sl (.pair .str (.pair (.int .i64) (.pair .str .unit))) q, .i .i64 i], []) => .need (decide (0 ≤ i ∧ i.toNat ≤ l.length ∧ l.length = q.length ∧ l.length ≤ maxI)) (.br (eqL eqNt (l.drop i.toNat) (q.drop i.toNat)) (.leaf (.exit 0, ([], []))) (.leaf (.ret, ([.b false], []))))
 | _ => .no⟩
def eqNtsG : List V → List Blk → Br (V × List (Option Blk))
 | [.sl (.pair .str (.pair (.int .i64) (.pair .str .unit))) l, .sl (.pair .str (.pair (.int .i64) (.pair .str .unit))) q], [] => .need (decide (l.length ≤ maxI)) (.leaf (.b (eqL eqNt l q), []))
 | _, _ => .no
def eqTysE : LoopEnt := ⟨27, [0,1,5], [], [4], fun
 | ([.sl (.pair (.int .i64) (.pair .str (.pair (.int .i64) (.pair .bool (.pair (.int .i64) (.pair (.int .i64) .unit)))))) l, .sl (.pair (.int .i64) (.pair .str (.pair (.int .i64) (.pair .bool (.pair (.int .i64) (.pair (.int .i64) .unit)))))) q, .i .i64 i], []) => .need (decide (0 ≤ i ∧ i.toNat ≤ l.length ∧ l.length = q.length ∧ l.length ≤ maxI)) (.br (eqL eqTy (l.drop i.toNat) (q.drop i.toNat)) (.leaf (.exit 0, ([], []))) (.leaf (.ret, ([.b false], []))))
 | _ => .no⟩
def eqTysG : List V → List Blk → Br (V × List (Option Blk))
 | [.sl (.pair (.int .i64) (.pair .str (.pair (.int .i64) (.pair .bool (.pair (.int .i64) (.pair (.int .i64) .unit)))))) l, .sl (.pair (.int .i64) (.pair .str (.pair (.int .i64) (.pair .bool (.pair (.int .i64) (.pair (.int .i64) .unit)))))) q], [] => .need (decide (l.length ≤ maxI)) (.leaf (.b (eqL eqTy l q), []))
 | _, _ => .no
def eqWtsE : LoopEnt := ⟨27, [0,1,5], [], [4], fun
 | ([.sl (.pair (.int .i64) (.pair (.int .i64) (.pair (.int .i64) (.pair .str (.pair (.int .i64) (.pair (.int .i64) .unit)))))) l, .sl (.pair (.int .i64) (.pair (.int .i64) (.pair (.int .i64) (.pair .str (.pair (.int .i64) (.pair (.int .i64) .unit)))))) q, .i .i64 i], []) => .need (decide (0 ≤ i ∧ i.toNat ≤ l.length ∧ l.length = q.length ∧ l.length ≤ maxI)) (.br (eqL eqWt (l.drop i.toNat) (q.drop i.toNat)) (.leaf (.exit 0, ([], []))) (.leaf (.ret, ([.b false], []))))
 | _ => .no⟩
def eqWtsG : List V → List Blk → Br (V × List (Option Blk))
 | [.sl (.pair (.int .i64) (.pair (.int .i64) (.pair (.int .i64) (.pair .str (.pair (.int .i64) (.pair (.int .i64) .unit)))))) l, .sl (.pair (.int .i64) (.pair (.int .i64) (.pair (.int .i64) (.pair .str (.pair (.int .i64) (.pair (.int .i64) .unit)))))) q], [] => .need (decide (l.length ≤ maxI)) (.leaf (.b (eqL eqWt l q), []))
 | _, _ => .no

theorem eqL_ne {α : Type} {f : α → α → Bool} : ∀ {l q : List α}, l.length ≠ q.length → eqL f l q = false
 | [], [], h => absurd rfl h
 | [], _ :: _, _ => rfl
 | _ :: _, [], _ => rfl
 | x :: l, y :: q, h => by
  have : l.length ≠ q.length := fun e => h (by simp [e])
  rw [eqL, eqL_ne this, Bool.and_false]
theorem eqL_refl {α : Type} {f : α → α → Bool} : ∀ {l : List α}, (∀ x ∈ l, f x x = true) → eqL f l l = true
 | [], _ => rfl
 | x :: l, h => by rw [eqL, h x (by simp), eqL_refl (fun y hy => h y (by simp [hy]))]; rfl
theorem eqNt_tree (a0 : List UInt8) (a1 : Int) (a2 : List UInt8) (b0 : List UInt8) (b1 : Int) (b2 : List UInt8) : funK Tryz.prog (look []) (look []) Tryz.f18 [.agg [.s a0, .j a1, .s a2], .agg [.s b0, .j b1, .s b2]] [] =
 ((ifB (!a0 == b0) (some (V.b false, [])) (ifB (a1 != b1) (some (V.b false, [])) (ifB (!a2 == b2) (some (V.b false, [])) (some (V.b true, []))))) : _) := by kernel_rfl
theorem eqNt_con : Contract Tryz.prog 18 (Ent.rd1 eqNtG).F := by
 refine fun_contract' KnowsL.nil.knows (Λ := look []) Tryz.func18 (c := Tryz.f18.body.getD .skip) (by kernel_rfl) fun vs bs r hq hv hb => ?_
 unfold Ent.F eqNtG at hq
 dsimp only at hq
 split at hq
 ·rename_i a0 a1 a2 b0 b1 b2
  refine ⟨loopsOk_nil _, (eqNt_tree a0 a1 a2 b0 b1 b2).trans (Eq.trans ?_ hq)⟩
  show _ = some _
  unfold eqNt bne
  dsimp only
  cases a0 == b0 <;> cases a1 == b1 <;> cases a2 == b2 <;> rfl
 ·cases hq
theorem eqTy_tree (a0 : Int) (a1 : List UInt8) (a2 : Int) (a3 : Bool) (a4 a5 : Int) (b0 : Int) (b1 : List UInt8) (b2 : Int) (b3 : Bool) (b4 b5 : Int) : funK Tryz.prog (look []) (look []) Tryz.f159 [.agg [.j a0, .s a1, .j a2, .b a3, .j a4, .j a5], .agg [.j b0, .s b1, .j b2, .b b3, .j b4, .j b5]] [] =
 ((ifB (a0 != b0) (some (V.b false, [])) (ifB (!a1 == b1) (some (V.b false, [])) (ifB (a2 != b2) (some (V.b false, [])) (ifB (!a3 == b3) (some (V.b false, [])) (ifB (a4 !=
 b4) (some (V.b false, [])) (ifB (a5 != b5) (some (V.b false, [])) (some (V.b true, [])))))))) : _) := by kernel_rfl
theorem eqTy_con : Contract Tryz.prog 159 (Ent.rd1 eqTyG).F := by
 refine fun_contract' KnowsL.nil.knows (Λ := look []) Tryz.func159 (c := Tryz.f159.body.getD .skip) (by kernel_rfl) fun vs bs r hq hv hb => ?_
 unfold Ent.F eqTyG at hq
 dsimp only at hq
 split at hq
 ·rename_i a0 a1 a2 a3 a4 a5 b0 b1 b2 b3 b4 b5
  refine ⟨loopsOk_nil _, (eqTy_tree a0 a1 a2 a3 a4 a5 b0 b1 b2 b3 b4 b5).trans (Eq.trans ?_ hq)⟩
  show _ = some _
  unfold eqTy bne
  dsimp only
  cases a0 == b0 <;> cases a1 == b1 <;> cases a2 == b2 <;> cases a3 == b3 <;> cases a4 == b4 <;> cases a5 == b5 <;> rfl
 ·cases hq
theorem eqWt_tree (a0 a1 a2 : Int) (a3 : List UInt8) (a4 a5 : Int) (b0 b1 b2 : Int) (b3 : List UInt8) (b4 b5 : Int) : funK Tryz.prog (look []) (look []) Tryz.f158 [.agg [.j a0, .j a1, .j a2, .s a3, .j a4, .j a5], .agg [.j b0, .j b1, .j b2, .s b3, .j b4, .j b5]] [] =
 ((ifB (a0 != b0) (some (V.b false, [])) (ifB (a1 != b1) (some (V.b false, [])) (ifB (a2 != b2) (some (V.b false, [])) (ifB (!a3 == b3) (some (V.b false, [])) (ifB (a4 != b4)
 (some (V.b false, [])) (ifB (a5 != b5) (some (V.b false, [])) (some (V.b true, [])))))))) : _) := by kernel_rfl
theorem eqWt_con : Contract Tryz.prog 158 (Ent.rd1 eqWtG).F := by
 refine fun_contract' KnowsL.nil.knows (Λ := look []) Tryz.func158 (c := Tryz.f158.body.getD .skip) (by kernel_rfl) fun vs bs r hq hv hb => ?_
 unfold Ent.F eqWtG at hq
 dsimp only at hq
 split at hq
 ·rename_i a0 a1 a2 a3 a4 a5 b0 b1 b2 b3 b4 b5
  refine ⟨loopsOk_nil _, (eqWt_tree a0 a1 a2 a3 a4 a5 b0 b1 b2 b3 b4 b5).trans (Eq.trans ?_ hq)⟩
  show _ = some _
  unfold eqWt bne
  dsimp only
  cases a0 == b0 <;> cases a1 == b1 <;> cases a2 == b2 <;> cases a3 == b3 <;> cases a4 == b4 <;> cases a5 == b5 <;> rfl
 ·cases hq
theorem eqNts_round (l q : List Nt) (i : Int) : roundK Tryz.prog (look [(18, .rd1 eqNtG)]) (look [(4, eqNtsE)]) 0 (body Tryz.f66 0) eqNtsE ([.sl NTd l, .sl NTd q, .j i], []) =
 ((ifB (decide (i < (↑l.length : Int))) (ifT (decide ((0 : Int) ≤ i) && decide (i < (↑l.length : Int))) (ifSome l[i.toNat]? fun z => ifT (decide ((0 : Int) ≤ i) && decide (i
 < (↑q.length : Int))) (ifSome q[i.toNat]? fun z_1 => ifB (!eqNt (z.fst, z.snd.fst, z.snd.snd.fst, ()) (z_1.fst, z_1.snd.fst, z_1.snd.snd.fst, ())) (some (Ex.ret, [V.b
 false], [])) (some (Ex.normal, [V.sl NTd l, V.sl NTd q, V.j (IntKind.i64.wrap (i + (1 : Int)))], []))))) (some (Ex.exit 0, [], []))) : _) := by kernel_rfl
theorem eqNts_tree (l q : List Nt) : funK Tryz.prog (look [(18, .rd1 eqNtG)]) (look [(4, eqNtsE)]) Tryz.f66 [.sl NTd l, .sl NTd q] [] =
 ((ifB ((↑l.length : Int) != (↑q.length : Int)) (some (V.b false, [])) (ifT (decide ((0 : Int) ≤ (0 : Int) ∧ (0 : Nat) ≤ l.length ∧ l.length = q.length ∧ l.length ≤ maxI))
 (ifB (eqL eqNt (List.drop (0 : Nat) l) (List.drop (0 : Nat) q)) (some (V.b true, [])) (some (V.b false, []))))) : _) := by kernel_rfl
theorem eqNts_loop (l q : List Nt) (hl : l.length ≤ maxI) (hq : l.length = q.length) : ∀ (j i : Nat), i + j = l.length → ∀ ex d, (Br.br (eqL eqNt (l.drop i) (q.drop i)) (.leaf (.exit 0, ([], []))) (.leaf (.ret, ([.b false], []))) : Br (Ex × Dt)).run = some (ex, d) → Runs Tryz.prog (look [(18, .rd1 eqNtG)]) (look [(4, eqNtsE)]) 0 (body Tryz.f66 0) eqNtsE ([.sl NTd l, .sl NTd q, .j (i : Int)], []) ex d
 | 0, i, hi, ex, d, h => by
  have hr := eqNts_round l q i
  rw [ifB_false (dcF (by omega))] at hr
  rw [List.drop_eq_nil_of_le (by omega), List.drop_eq_nil_of_le (by omega), eqL] at h
  have h8 := leaf_some h
  obtain ⟨rfl, rfl⟩ := Prod.mk.inj h8
  exact .stop _ _ _ hr (by simp)
 | j + 1, i, hi, ex, d, h => by
  have hM : maxI = 9223372036854775807 := rfl
  have hlt : i < l.length := by omega
  have hlq : i < q.length := by omega
  have hr := eqNts_round l q i
  rw [ifB_true (dcT (by omega)), ifT_true (by simp only [anE, dcE]; omega), ntN, gtE hlt, ifSome_s, ifT_true (by simp only [anE, dcE]; omega), gtE hlq, ifSome_s, wrap_succ (n := i) (by omega)] at hr
  rw [List.drop_eq_getElem_cons hlt, List.drop_eq_getElem_cons hlq, eqL] at h
  have e : ∀ x y : Nt, eqNt (x.1, x.2.1, x.2.2.1, ()) (y.1, y.2.1, y.2.2.1, ()) = eqNt x y := fun x y => rfl
  rw [e] at hr
  cases h1 : eqNt l[i] q[i] with
  | false =>
   rw [h1] at hr h
   have h8 := leaf_some h
   obtain ⟨rfl, rfl⟩ := Prod.mk.inj h8
   exact .stop _ _ _ hr (by simp)
  | true =>
   rw [h1] at hr h
   exact .step _ _ _ _ hr (eqNts_loop l q hl hq j (i + 1) (by omega) ex d h)
theorem eqNts_con : Contract Tryz.prog 66 (Ent.rd1 eqNtsG).F := by
 refine fun_contract' (KnowsL.cons (enters_fn Tryz.func18 (by kernel_rfl) (by kernel_rfl)) eqNt_con KnowsL.nil).knows (Λ := (look [(4, eqNtsE)])) Tryz.func66 (c := Tryz.f66.body.getD .skip) (by kernel_rfl) fun vs bs r hq hv hb => ?_
 unfold Ent.F eqNtsG at hq
 dsimp only at hq
 split at hq
 ·rename_i l q
  obtain ⟨hc, hx⟩ := need_some hq
  have hc := of_decide_eq_true hc
  have hok : LoopsOk Tryz.prog (look [(18, .rd1 eqNtG)]) (look [(4, eqNtsE)]) 0 (Tryz.f66.body.getD .skip) := by
   refine loopsOk_one (a := body Tryz.f66 0) (by kernel_rfl) fun d ex d' h => ?_
   unfold eqNtsE at h
   dsimp only at h
   split at h
   ·rename_i l q i
    obtain ⟨hc, hx⟩ := need_some h
    obtain ⟨a0, a1, a2, a3⟩ := of_decide_eq_true hc
    obtain ⟨i, rfl⟩ := Int.eq_ofNat_of_zero_le a0
    simp only [ntN] at a1 hx
    exact eqNts_loop l q a3 a2 (l.length - i) i (by omega) ex d' hx
   ·cases h
  refine ⟨hok, (eqNts_tree l q).trans (Eq.trans ?_ hx)⟩
  show _ = some _
  by_cases h : l.length = q.length
  ·have h2 : ((l.length : Int) != (q.length : Int)) = false := bne_eq_false_iff_eq.2 (by omega)
   rw [h2, ifB_f, ifT_true (dcT ⟨by omega, by omega, h, hc⟩), List.drop_zero, List.drop_zero]
   cases eqL eqNt l q <;> rfl
  ·have h2 : ((l.length : Int) != (q.length : Int)) = true := bne_iff_ne.2 (by omega)
   rw [h2, eqL_ne h]
   rfl
 ·cases hq
theorem eqTys_round (l q : List Ty) (i : Int) : roundK Tryz.prog (look [(159, .rd1 eqTyG)]) (look [(4, eqTysE)]) 0 (body Tryz.f117 0) eqTysE ([.sl TCd l, .sl TCd q, .j i], []) =
 ((ifB (decide (i < (↑l.length : Int))) (ifT (decide ((0 : Int) ≤ i) && decide (i < (↑l.length : Int))) (ifSome l[i.toNat]? fun z => ifT (decide ((0 : Int) ≤ i) && decide (i
 < (↑q.length : Int))) (ifSome q[i.toNat]? fun z_1 => ifB (!eqTy (z.fst, z.snd.fst, z.snd.snd.fst, z.snd.snd.snd.fst, z.snd.snd.snd.snd.fst, z.snd.snd.snd.snd.snd.fst, ())
 (z_1.fst, z_1.snd.fst, z_1.snd.snd.fst, z_1.snd.snd.snd.fst, z_1.snd.snd.snd.snd.fst, z_1.snd.snd.snd.snd.snd.fst, ())) (some (Ex.ret, [V.b false], [])) (some (Ex.normal,
 [V.sl TCd l, V.sl TCd q, V.j (IntKind.i64.wrap (i + (1 : Int)))], []))))) (some (Ex.exit 0, [], []))) : _) := by kernel_rfl
theorem eqTys_tree (l q : List Ty) : funK Tryz.prog (look [(159, .rd1 eqTyG)]) (look [(4, eqTysE)]) Tryz.f117 [.sl TCd l, .sl TCd q] [] =
 ((ifB ((↑l.length : Int) != (↑q.length : Int)) (some (V.b false, [])) (ifT (decide ((0 : Int) ≤ (0 : Int) ∧ (0 : Nat) ≤ l.length ∧ l.length = q.length ∧ l.length ≤ maxI))
 (ifB (eqL eqTy (List.drop (0 : Nat) l) (List.drop (0 : Nat) q)) (some (V.b true, [])) (some (V.b false, []))))) : _) := by kernel_rfl
theorem eqTys_loop (l q : List Ty) (hl : l.length ≤ maxI) (hq : l.length = q.length) : ∀ (j i : Nat), i + j = l.length → ∀ ex d, (Br.br (eqL eqTy (l.drop i) (q.drop i)) (.leaf (.exit 0, ([], []))) (.leaf (.ret, ([.b false], []))) : Br (Ex × Dt)).run = some (ex, d) → Runs Tryz.prog (look [(159, .rd1 eqTyG)]) (look [(4, eqTysE)]) 0 (body Tryz.f117 0) eqTysE ([.sl TCd l, .sl TCd q, .j (i : Int)], []) ex d
 | 0, i, hi, ex, d, h => by
  have hr := eqTys_round l q i
  rw [ifB_false (dcF (by omega))] at hr
  rw [List.drop_eq_nil_of_le (by omega), List.drop_eq_nil_of_le (by omega), eqL] at h
  have h8 := leaf_some h
  obtain ⟨rfl, rfl⟩ := Prod.mk.inj h8
  exact .stop _ _ _ hr (by simp)
 | j + 1, i, hi, ex, d, h => by
  have hM : maxI = 9223372036854775807 := rfl
  have hlt : i < l.length := by omega
  have hlq : i < q.length := by omega
  have hr := eqTys_round l q i
  rw [ifB_true (dcT (by omega)), ifT_true (by simp only [anE, dcE]; omega), ntN, gtE hlt, ifSome_s, ifT_true (by simp only [anE, dcE]; omega), gtE hlq, ifSome_s, wrap_succ (n := i) (by omega)] at hr
  rw [List.drop_eq_getElem_cons hlt, List.drop_eq_getElem_cons hlq, eqL] at h
  have e : ∀ x y : Ty, eqTy (x.1, x.2.1, x.2.2.1, x.2.2.2.1, x.2.2.2.2.1, x.2.2.2.2.2.1, ()) (y.1, y.2.1, y.2.2.1, y.2.2.2.1, y.2.2.2.2.1, y.2.2.2.2.2.1, ()) = eqTy x y := fun x y => rfl
  rw [e] at hr
  cases h1 : eqTy l[i] q[i] with
  | false =>
   rw [h1] at hr h
   have h8 := leaf_some h
   obtain ⟨rfl, rfl⟩ := Prod.mk.inj h8
   exact .stop _ _ _ hr (by simp)
  | true =>
   rw [h1] at hr h
   exact .step _ _ _ _ hr (eqTys_loop l q hl hq j (i + 1) (by omega) ex d h)
theorem eqTys_con : Contract Tryz.prog 117 (Ent.rd1 eqTysG).F := by
 refine fun_contract' (KnowsL.cons (enters_fn Tryz.func159 (by kernel_rfl) (by kernel_rfl)) eqTy_con KnowsL.nil).knows (Λ := (look [(4, eqTysE)])) Tryz.func117 (c := Tryz.f117.body.getD .skip) (by kernel_rfl) fun vs bs r hq hv hb => ?_
 unfold Ent.F eqTysG at hq
 dsimp only at hq
 split at hq
 ·rename_i l q
  obtain ⟨hc, hx⟩ := need_some hq
  have hc := of_decide_eq_true hc
  have hok : LoopsOk Tryz.prog (look [(159, .rd1 eqTyG)]) (look [(4, eqTysE)]) 0 (Tryz.f117.body.getD .skip) := by
   refine loopsOk_one (a := body Tryz.f117 0) (by kernel_rfl) fun d ex d' h => ?_
   unfold eqTysE at h
   dsimp only at h
   split at h
   ·rename_i l q i
    obtain ⟨hc, hx⟩ := need_some h
    obtain ⟨a0, a1, a2, a3⟩ := of_decide_eq_true hc
    obtain ⟨i, rfl⟩ := Int.eq_ofNat_of_zero_le a0
    simp only [ntN] at a1 hx
    exact eqTys_loop l q a3 a2 (l.length - i) i (by omega) ex d' hx
   ·cases h
  refine ⟨hok, (eqTys_tree l q).trans (Eq.trans ?_ hx)⟩
  show _ = some _
  by_cases h : l.length = q.length
  ·have h2 : ((l.length : Int) != (q.length : Int)) = false := bne_eq_false_iff_eq.2 (by omega)
   rw [h2, ifB_f, ifT_true (dcT ⟨by omega, by omega, h, hc⟩), List.drop_zero, List.drop_zero]
   cases eqL eqTy l q <;> rfl
  ·have h2 : ((l.length : Int) != (q.length : Int)) = true := bne_iff_ne.2 (by omega)
   rw [h2, eqL_ne h]
   rfl
 ·cases hq
theorem eqWts_round (l q : List Wt) (i : Int) : roundK Tryz.prog (look [(158, .rd1 eqWtG)]) (look [(4, eqWtsE)]) 0 (body Tryz.f116 0) eqWtsE ([.sl WCd l, .sl WCd q, .j i], []) =
 ((ifB (decide (i < (↑l.length : Int))) (ifT (decide ((0 : Int) ≤ i) && decide (i < (↑l.length : Int))) (ifSome l[i.toNat]? fun z => ifT (decide ((0 : Int) ≤ i) && decide (i
 < (↑q.length : Int))) (ifSome q[i.toNat]? fun z_1 => ifB (!eqWt (z.fst, z.snd.fst, z.snd.snd.fst, z.snd.snd.snd.fst, z.snd.snd.snd.snd.fst, z.snd.snd.snd.snd.snd.fst, ())
 (z_1.fst, z_1.snd.fst, z_1.snd.snd.fst, z_1.snd.snd.snd.fst, z_1.snd.snd.snd.snd.fst, z_1.snd.snd.snd.snd.snd.fst, ())) (some (Ex.ret, [V.b false], [])) (some (Ex.normal,
 [V.sl WCd l, V.sl WCd q, V.j (IntKind.i64.wrap (i + (1 : Int)))], []))))) (some (Ex.exit 0, [], []))) : _) := by kernel_rfl
theorem eqWts_tree (l q : List Wt) : funK Tryz.prog (look [(158, .rd1 eqWtG)]) (look [(4, eqWtsE)]) Tryz.f116 [.sl WCd l, .sl WCd q] [] =
 ((ifB ((↑l.length : Int) != (↑q.length : Int)) (some (V.b false, [])) (ifT (decide ((0 : Int) ≤ (0 : Int) ∧ (0 : Nat) ≤ l.length ∧ l.length = q.length ∧ l.length ≤ maxI))
 (ifB (eqL eqWt (List.drop (0 : Nat) l) (List.drop (0 : Nat) q)) (some (V.b true, [])) (some (V.b false, []))))) : _) := by kernel_rfl
theorem eqWts_loop (l q : List Wt) (hl : l.length ≤ maxI) (hq : l.length = q.length) : ∀ (j i : Nat), i + j = l.length → ∀ ex d, (Br.br (eqL eqWt (l.drop i) (q.drop i)) (.leaf (.exit 0, ([], []))) (.leaf (.ret, ([.b false], []))) : Br (Ex × Dt)).run = some (ex, d) → Runs Tryz.prog (look [(158, .rd1 eqWtG)]) (look [(4, eqWtsE)]) 0 (body Tryz.f116 0) eqWtsE ([.sl WCd l, .sl WCd q, .j (i : Int)], []) ex d
 | 0, i, hi, ex, d, h => by
  have hr := eqWts_round l q i
  rw [ifB_false (dcF (by omega))] at hr
  rw [List.drop_eq_nil_of_le (by omega), List.drop_eq_nil_of_le (by omega), eqL] at h
  have h8 := leaf_some h
  obtain ⟨rfl, rfl⟩ := Prod.mk.inj h8
  exact .stop _ _ _ hr (by simp)
 | j + 1, i, hi, ex, d, h => by
  have hM : maxI = 9223372036854775807 := rfl
  have hlt : i < l.length := by omega
  have hlq : i < q.length := by omega
  have hr := eqWts_round l q i
  rw [ifB_true (dcT (by omega)), ifT_true (by simp only [anE, dcE]; omega), ntN, gtE hlt, ifSome_s, ifT_true (by simp only [anE, dcE]; omega), gtE hlq, ifSome_s, wrap_succ (n := i) (by omega)] at hr
  rw [List.drop_eq_getElem_cons hlt, List.drop_eq_getElem_cons hlq, eqL] at h
  have e : ∀ x y : Wt, eqWt (x.1, x.2.1, x.2.2.1, x.2.2.2.1, x.2.2.2.2.1, x.2.2.2.2.2.1, ()) (y.1, y.2.1, y.2.2.1, y.2.2.2.1, y.2.2.2.2.1, y.2.2.2.2.2.1, ()) = eqWt x y := fun x y => rfl
  rw [e] at hr
  cases h1 : eqWt l[i] q[i] with
  | false =>
   rw [h1] at hr h
   have h8 := leaf_some h
   obtain ⟨rfl, rfl⟩ := Prod.mk.inj h8
   exact .stop _ _ _ hr (by simp)
  | true =>
   rw [h1] at hr h
   exact .step _ _ _ _ hr (eqWts_loop l q hl hq j (i + 1) (by omega) ex d h)
theorem eqWts_con : Contract Tryz.prog 116 (Ent.rd1 eqWtsG).F := by
 refine fun_contract' (KnowsL.cons (enters_fn Tryz.func158 (by kernel_rfl) (by kernel_rfl)) eqWt_con KnowsL.nil).knows (Λ := (look [(4, eqWtsE)])) Tryz.func116 (c := Tryz.f116.body.getD .skip) (by kernel_rfl) fun vs bs r hq hv hb => ?_
 unfold Ent.F eqWtsG at hq
 dsimp only at hq
 split at hq
 ·rename_i l q
  obtain ⟨hc, hx⟩ := need_some hq
  have hc := of_decide_eq_true hc
  have hok : LoopsOk Tryz.prog (look [(158, .rd1 eqWtG)]) (look [(4, eqWtsE)]) 0 (Tryz.f116.body.getD .skip) := by
   refine loopsOk_one (a := body Tryz.f116 0) (by kernel_rfl) fun d ex d' h => ?_
   unfold eqWtsE at h
   dsimp only at h
   split at h
   ·rename_i l q i
    obtain ⟨hc, hx⟩ := need_some h
    obtain ⟨a0, a1, a2, a3⟩ := of_decide_eq_true hc
    obtain ⟨i, rfl⟩ := Int.eq_ofNat_of_zero_le a0
    simp only [ntN] at a1 hx
    exact eqWts_loop l q a3 a2 (l.length - i) i (by omega) ex d' hx
   ·cases h
  refine ⟨hok, (eqWts_tree l q).trans (Eq.trans ?_ hx)⟩
  show _ = some _
  by_cases h : l.length = q.length
  ·have h2 : ((l.length : Int) != (q.length : Int)) = false := bne_eq_false_iff_eq.2 (by omega)
   rw [h2, ifB_f, ifT_true (dcT ⟨by omega, by omega, h, hc⟩), List.drop_zero, List.drop_zero]
   cases eqL eqWt l q <;> rfl
  ·have h2 : ((l.length : Int) != (q.length : Int)) = true := bne_iff_ne.2 (by omega)
   rw [h2, eqL_ne h]
   rfl
 ·cases hq

def eqSch (x y : List Ty × Unit) : Bool := eqL eqTy x.1 y.1
def eqnSch (x : List Ty × Unit) : Bool := decide (x.1.length ≤ maxI)
def eqSchG : List V → List Blk → Br (V × List (Option Blk))
 | [.agg [.sl (.pair (.int .i64) (.pair .str (.pair (.int .i64) (.pair .bool (.pair (.int .i64) (.pair (.int .i64) .unit)))))) a0], .agg [.sl (.pair (.int .i64) (.pair .str (.pair (.int .i64) (.pair .bool (.pair (.int .i64) (.pair (.int .i64) .unit)))))) b0]], [] => .need (eqnSch (a0, ())) (.leaf (.b (eqSch (a0, ()) (b0, ())), []))
 | _, _ => .no
def eqFil (x y : List Wt × Unit) : Bool := eqL eqWt x.1 y.1
def eqnFil (x : List Wt × Unit) : Bool := decide (x.1.length ≤ maxI)
def eqFilG : List V → List Blk → Br (V × List (Option Blk))
 | [.agg [.sl (.pair (.int .i64) (.pair (.int .i64) (.pair (.int .i64) (.pair .str (.pair (.int .i64) (.pair (.int .i64) .unit)))))) a0], .agg [.sl (.pair (.int .i64) (.pair (.int .i64) (.pair (.int .i64) (.pair .str (.pair (.int .i64) (.pair (.int .i64) .unit)))))) b0]], [] => .need (eqnFil (a0, ())) (.leaf (.b (eqFil (a0, ()) (b0, ())), []))
 | _, _ => .no
def eqTp (x y : Tp) : Bool := x.1 == y.1 && (eqSch x.2.1 y.2.1 && x.2.2.1 == y.2.2.1)
def eqnTp (x : Tp) : Bool := eqnSch x.2.1
def eqTpG : List V → List Blk → Br (V × List (Option Blk))
 | [.agg [.s a0, .sl (.pair (.int .i64) (.pair .str (.pair (.int .i64) (.pair .bool (.pair (.int .i64) (.pair (.int .i64) .unit)))))) a1, .i .i64 a2], .agg [.s b0, .sl (.pair (.int .i64) (.pair .str (.pair (.int .i64) (.pair .bool (.pair (.int .i64) (.pair (.int .i64) .unit)))))) b1, .i .i64 b2]], [] => .need (eqnTp (a0, (a1, ()), a2, ())) (.leaf (.b (eqTp (a0, (a1, ()), a2, ()) (b0, (b1, ()), b2, ())), []))
 | _, _ => .no
def eqFa (x y : Fa) : Bool := x.1 == y.1 && (x.2.1 == y.2.1 && (eqFil x.2.2.1 y.2.2.1 && (eqSch x.2.2.2.1 y.2.2.2.1 && (eqL eqNt x.2.2.2.2.1 y.2.2.2.2.1 && x.2.2.2.2.2.1 == y.2.2.2.2.2.1))))
def eqnFa (x : Fa) : Bool := eqnFil x.2.2.1 && (eqnSch x.2.2.2.1 && decide (x.2.2.2.2.1.length ≤ maxI))
def eqFaG : List V → List Blk → Br (V × List (Option Blk))
 | [.agg [.i .i64 a0, .s a1, .sl (.pair (.int .i64) (.pair (.int .i64) (.pair (.int .i64) (.pair .str (.pair (.int .i64) (.pair (.int .i64) .unit)))))) a2, .sl (.pair (.int .i64) (.pair .str (.pair (.int .i64) (.pair .bool (.pair (.int .i64) (.pair (.int .i64) .unit)))))) a3, .sl (.pair .str (.pair (.int .i64) (.pair .str .unit))) a4, .i .i64 a5], .agg [.i .i64 b0, .s b1, .sl (.pair (.int .i64) (.pair (.int .i64) (.pair (.int .i64) (.pair .str (.pair (.int .i64) (.pair (.int .i64) .unit)))))) b2, .sl (.pair (.int .i64) (.pair .str (.pair (.int .i64) (.pair .bool (.pair (.int .i64) (.pair (.int .i64) .unit)))))) b3, .sl (.pair .str (.pair (.int .i64) (.pair .str .unit))) b4, .i .i64 b5]], [] => .need (eqnFa (a0, a1, (a2, ()), (a3, ()), a4, a5, ())) (.leaf (.b (eqFa (a0, a1, (a2, ()), (a3, ()), a4, a5, ()) (b0, b1, (b2, ()), (b3, ()), b4, b5, ())), []))
 | _, _ => .no
def eqTpsE : LoopEnt := ⟨27, [0,1,5], [], [4], fun
 | ([.sl (.pair .str (.pair (.pair (.slice (.pair (.int .i64) (.pair .str (.pair (.int .i64) (.pair .bool (.pair (.int .i64) (.pair (.int .i64) .unit))))))) .unit) (.pair (.int .i64) .unit))) l, .sl (.pair .str (.pair (.pair (.slice (.pair (.int .i64) (.pair .str (.pair (.int .i64) (.pair .bool (.pair (.int .i64) (.pair (.int .i64) .unit))))))) .unit) (.pair (.int .i64) .unit))) q, .i .i64 i], []) => .need (decide (0 ≤ i ∧ i.toNat ≤ l.length ∧ l.length = q.length ∧ l.length ≤ maxI) && l.all eqnTp) (.br (eqL eqTp (l.drop i.toNat) (q.drop i.toNat)) (.leaf (.exit 0, ([], []))) (.leaf (.ret, ([.b false], []))))
 | _ => .no⟩
def eqTpsG : List V → List Blk → Br (V × List (Option Blk))
 | [.sl (.pair .str (.pair (.pair (.slice (.pair (.int .i64) (.pair .str (.pair (.int .i64) (.pair .bool (.pair (.int .i64) (.pair (.int .i64) .unit))))))) .unit) (.pair (.int .i64) .unit))) l, .sl (.pair .str (.pair (.pair (.slice (.pair (.int .i64) (.pair .str (.pair (.int .i64) (.pair .bool (.pair (.int .i64) (.pair (.int .i64) .unit))))))) .unit) (.pair (.int .i64) .unit))) q], [] => .need (decide (l.length ≤ maxI) && l.all eqnTp) (.leaf (.b (eqL eqTp l q), []))
 | _, _ => .no
def eqFasE : LoopEnt := ⟨27, [0,1,5], [], [4], fun
 | ([.sl (.pair (.int .i64) (.pair .str (.pair (.pair (.slice (.pair (.int .i64) (.pair (.int .i64) (.pair (.int .i64) (.pair .str (.pair (.int .i64) (.pair (.int .i64) .unit))))))) .unit) (.pair (.pair (.slice (.pair (.int .i64) (.pair .str (.pair (.int .i64) (.pair .bool (.pair (.int .i64) (.pair (.int .i64) .unit))))))) .unit) (.pair (.slice (.pair .str (.pair (.int .i64) (.pair .str .unit)))) (.pair (.int .i64) .unit)))))) l, .sl (.pair (.int .i64) (.pair .str (.pair (.pair (.slice (.pair (.int .i64) (.pair (.int .i64) (.pair (.int .i64) (.pair .str (.pair (.int .i64) (.pair (.int .i64) .unit))))))) .unit) (.pair (.pair (.slice (.pair (.int .i64) (.pair .str (.pair (.int .i64) (.pair .bool (.pair (.int .i64) (.pair (.int .i64) .unit))))))) .unit) (.pair (.slice (.pair .str (.pair (.int .i64) (.pair .str .unit)))) (.pair (.int .i64) .unit)))))) q, .i .i64 i], []) => .need (decide (0 ≤ i ∧ i.toNat ≤ l.length ∧ l.length = q.length ∧ l.length ≤ maxI) && l.all eqnFa) (.br (eqL eqFa (l.drop i.toNat) (q.drop i.toNat)) (.leaf (.exit 0, ([], []))) (.leaf (.ret, ([.b false], []))))
 | _ => .no⟩
def eqFasG : List V → List Blk → Br (V × List (Option Blk))
 | [.sl (.pair (.int .i64) (.pair .str (.pair (.pair (.slice (.pair (.int .i64) (.pair (.int .i64) (.pair (.int .i64) (.pair .str (.pair (.int .i64) (.pair (.int .i64) .unit))))))) .unit) (.pair (.pair (.slice (.pair (.int .i64) (.pair .str (.pair (.int .i64) (.pair .bool (.pair (.int .i64) (.pair (.int .i64) .unit))))))) .unit) (.pair (.slice (.pair .str (.pair (.int .i64) (.pair .str .unit)))) (.pair (.int .i64) .unit)))))) l, .sl (.pair (.int .i64) (.pair .str (.pair (.pair (.slice (.pair (.int .i64) (.pair (.int .i64) (.pair (.int .i64) (.pair .str (.pair (.int .i64) (.pair (.int .i64) .unit))))))) .unit) (.pair (.pair (.slice (.pair (.int .i64) (.pair .str (.pair (.int .i64) (.pair .bool (.pair (.int .i64) (.pair (.int .i64) .unit))))))) .unit) (.pair (.slice (.pair .str (.pair (.int .i64) (.pair .str .unit)))) (.pair (.int .i64) .unit)))))) q], [] => .need (decide (l.length ≤ maxI) && l.all eqnFa) (.leaf (.b (eqL eqFa l q), []))
 | _, _ => .no
def eqBk (x y : List Tp × List Fa × Unit) : Bool := eqL eqTp x.1 y.1 && eqL eqFa x.2.1 y.2.1
def eqnBk (x : List Tp × List Fa × Unit) : Bool := (decide (x.1.length ≤ maxI) && x.1.all eqnTp) && (decide (x.2.1.length ≤ maxI) && x.2.1.all eqnFa)
def eqBkG : List V → List Blk → Br (V × List (Option Blk))
 | [.agg l, .agg q], [] => (match l with
  | [.sl (.pair .str (.pair (.pair (.slice (.pair (.int .i64) (.pair .str (.pair (.int .i64) (.pair .bool (.pair (.int .i64) (.pair (.int .i64) .unit))))))) .unit) (.pair (.int .i64) .unit))) a0, .sl (.pair (.int .i64) (.pair .str (.pair (.pair (.slice (.pair (.int .i64) (.pair (.int .i64) (.pair (.int .i64) (.pair .str (.pair (.int .i64) (.pair (.int .i64) .unit))))))) .unit) (.pair (.pair (.slice (.pair (.int .i64) (.pair .str (.pair (.int .i64) (.pair .bool (.pair (.int .i64) (.pair (.int .i64) .unit))))))) .unit) (.pair (.slice (.pair .str (.pair (.int .i64) (.pair .str .unit)))) (.pair (.int .i64) .unit)))))) a1] => (match q with
   | [.sl (.pair .str (.pair (.pair (.slice (.pair (.int .i64) (.pair .str (.pair (.int .i64) (.pair .bool (.pair (.int .i64) (.pair (.int .i64) .unit))))))) .unit) (.pair (.int .i64) .unit))) b0, .sl (.pair (.int .i64) (.pair .str (.pair (.pair (.slice (.pair (.int .i64) (.pair (.int .i64) (.pair (.int .i64) (.pair .str (.pair (.int .i64) (.pair (.int .i64) .unit))))))) .unit) (.pair (.pair (.slice (.pair (.int .i64) (.pair .str (.pair (.int .i64) (.pair .bool (.pair (.int .i64) (.pair (.int .i64) .unit))))))) .unit) (.pair (.slice (.pair .str (.pair (.int .i64) (.pair .str .unit)))) (.pair (.int .i64) .unit)))))) b1] => .need (eqnBk (a0, a1, ())) (.leaf (.b (eqBk (a0, a1, ()) (b0, b1, ())), []))
   | _ => .no)
  | _ => .no)
 | _, _ => .no

theorem eqSch_tree (a0 : List Ty) (b0 : List Ty) : funK Tryz.prog (look [(117, .rd1 eqTysG)]) (look []) Tryz.f65 [.agg [.sl TCd a0], .agg [.sl TCd b0]] [] =
 ((ifT (decide (a0.length ≤ maxI)) (ifB (!eqL eqTy a0 b0) (some (V.b false, [])) (some (V.b true, [])))) : _) := by kernel_rfl
theorem eqSch_con : Contract Tryz.prog 65 (Ent.rd1 eqSchG).F := by
 refine fun_contract' (KnowsL.cons (enters_fn Tryz.func117 (by kernel_rfl) (by kernel_rfl)) eqTys_con KnowsL.nil).knows (Λ := look []) Tryz.func65 (c := Tryz.f65.body.getD .skip) (by kernel_rfl) fun vs bs r hq hv hb => ?_
 unfold Ent.F eqSchG at hq
 dsimp only at hq
 split at hq
 ·rename_i a0 b0
  obtain ⟨hc, hx⟩ := need_some hq
  unfold eqnSch at hc
  dsimp only at hc
  refine ⟨loopsOk_nil _, (eqSch_tree a0 b0).trans (Eq.trans ?_ hx)⟩
  show _ = some _
  unfold eqSch
  dsimp only
  rw [ifT_true hc]
  cases eqL eqTy a0 b0 <;> rfl
 ·cases hq
theorem eqFil_tree (a0 : List Wt) (b0 : List Wt) : funK Tryz.prog (look [(116, .rd1 eqWtsG)]) (look []) Tryz.f64 [.agg [.sl WCd a0], .agg [.sl WCd b0]] [] =
 ((ifT (decide (a0.length ≤ maxI)) (ifB (!eqL eqWt a0 b0) (some (V.b false, [])) (some (V.b true, [])))) : _) := by kernel_rfl
theorem eqFil_con : Contract Tryz.prog 64 (Ent.rd1 eqFilG).F := by
 refine fun_contract' (KnowsL.cons (enters_fn Tryz.func116 (by kernel_rfl) (by kernel_rfl)) eqWts_con KnowsL.nil).knows (Λ := look []) Tryz.func64 (c := Tryz.f64.body.getD .skip) (by kernel_rfl) fun vs bs r hq hv hb => ?_
 unfold Ent.F eqFilG at hq
 dsimp only at hq
 split at hq
 ·rename_i a0 b0
  obtain ⟨hc, hx⟩ := need_some hq
  unfold eqnFil at hc
  dsimp only at hc
  refine ⟨loopsOk_nil _, (eqFil_tree a0 b0).trans (Eq.trans ?_ hx)⟩
  show _ = some _
  unfold eqFil
  dsimp only
  rw [ifT_true hc]
  cases eqL eqWt a0 b0 <;> rfl
 ·cases hq
theorem eqTp_tree (a0 : List UInt8) (a1 : List Ty) (a2 : Int) (b0 : List UInt8) (b1 : List Ty) (b2 : Int) : funK Tryz.prog (look [(65, .rd1 eqSchG)]) (look []) Tryz.f56 [.agg [.s a0, .sl TCd a1, .j a2], .agg [.s b0, .sl TCd b1, .j b2]] [] =
 ((ifB (!a0 == b0) (some (V.b false, [])) (ifT (eqnSch (a1, ())) (ifB (!eqSch (a1, ()) (b1, ())) (some (V.b false, [])) (ifB (a2 != b2) (some (V.b false, [])) (some (V.b
 true, [])))))) : _) := by kernel_rfl
theorem eqTp_con : Contract Tryz.prog 56 (Ent.rd1 eqTpG).F := by
 refine fun_contract' (KnowsL.cons (enters_fn Tryz.func65 (by kernel_rfl) (by kernel_rfl)) eqSch_con KnowsL.nil).knows (Λ := look []) Tryz.func56 (c := Tryz.f56.body.getD .skip) (by kernel_rfl) fun vs bs r hq hv hb => ?_
 unfold Ent.F eqTpG at hq
 dsimp only at hq
 split at hq
 ·rename_i a0 a1 a2 b0 b1 b2
  obtain ⟨hc, hx⟩ := need_some hq
  unfold eqnTp at hc
  dsimp only at hc
  refine ⟨loopsOk_nil _, (eqTp_tree a0 a1 a2 b0 b1 b2).trans (Eq.trans ?_ hx)⟩
  show _ = some _
  unfold eqTp
  dsimp only
  rw [ifT_true hc]
  unfold bne
  cases a0 == b0 <;> cases eqSch (a1, ()) (b1, ()) <;> cases a2 == b2 <;> rfl
 ·cases hq
theorem eqFa_tree (a0 : Int) (a1 : List UInt8) (a2 : List Wt) (a3 : List Ty) (a4 : List Nt) (a5 : Int) (b0 : Int) (b1 : List UInt8) (b2 : List Wt) (b3 : List Ty) (b4 : List Nt) (b5 : Int) : funK Tryz.prog (look [(64, .rd1 eqFilG), (65, .rd1 eqSchG), (66, .rd1 eqNtsG)]) (look []) Tryz.f29 [.agg [.j a0, .s a1, .sl WCd a2, .sl TCd a3, .sl NTd a4, .j a5], .agg [.j b0, .s b1, .sl WCd b2, .sl TCd b3, .sl NTd b4, .j b5]] [] =
 ((ifB (a0 != b0) (some (V.b false, [])) (ifB (!a1 == b1) (some (V.b false, [])) (ifT (eqnFil (a2, ())) (ifB (!eqFil (a2, ()) (b2, ())) (some (V.b false, [])) (ifT (eqnSch
 (a3, ())) (ifB (!eqSch (a3, ()) (b3, ())) (some (V.b false, [])) (ifT (decide (a4.length ≤ maxI)) (ifB (!eqL eqNt a4 b4) (some (V.b false, [])) (ifB (a5 != b5) (some (V.b
 false, [])) (some (V.b true, []))))))))))) : _) := by kernel_rfl
theorem eqFa_con : Contract Tryz.prog 29 (Ent.rd1 eqFaG).F := by
 refine fun_contract' (KnowsL.cons (enters_fn Tryz.func64 (by kernel_rfl) (by kernel_rfl)) eqFil_con (KnowsL.cons (enters_fn Tryz.func65 (by kernel_rfl) (by kernel_rfl)) eqSch_con (KnowsL.cons (enters_fn Tryz.func66 (by kernel_rfl) (by kernel_rfl)) eqNts_con KnowsL.nil))).knows (Λ := look []) Tryz.func29 (c := Tryz.f29.body.getD .skip) (by kernel_rfl) fun vs bs r hq hv hb => ?_
 unfold Ent.F eqFaG at hq
 dsimp only at hq
 split at hq
 ·rename_i a0 a1 a2 a3 a4 a5 b0 b1 b2 b3 b4 b5
  obtain ⟨hc, hx⟩ := need_some hq
  unfold eqnFa at hc
  dsimp only at hc
  refine ⟨loopsOk_nil _, (eqFa_tree a0 a1 a2 a3 a4 a5 b0 b1 b2 b3 b4 b5).trans (Eq.trans ?_ hx)⟩
  show _ = some _
  unfold eqFa
  dsimp only
  rw [anE, anE] at hc
  rw [ifT_true hc.1, ifT_true hc.2.1, ifT_true hc.2.2]
  unfold bne
  cases a0 == b0 <;> cases a1 == b1 <;> cases eqFil (a2, ()) (b2, ()) <;> cases eqSch (a3, ()) (b3, ()) <;> cases eqL eqNt a4 b4 <;> cases a5 == b5 <;> rfl
 ·cases hq
theorem eqTps_round (l q : List Tp) (i : Int) : roundK Tryz.prog (look [(56, .rd1 eqTpG)]) (look [(4, eqTpsE)]) 0 (body Tryz.f23 0) eqTpsE ([.sl TPd l, .sl TPd q, .j i], []) =
 ((ifB (decide (i < (↑l.length : Int))) (ifT (decide ((0 : Int) ≤ i) && decide (i < (↑l.length : Int))) (ifSome l[i.toNat]? fun z => ifT (decide ((0 : Int) ≤ i) && decide (i
 < (↑q.length : Int))) (ifSome q[i.toNat]? fun z_1 => ifT (eqnTp (z.fst, (z.snd.fst.fst, ()), z.snd.snd.fst, ())) (ifB (!eqTp (z.fst, (z.snd.fst.fst, ()), z.snd.snd.fst,
 ()) (z_1.fst, (z_1.snd.fst.fst, ()), z_1.snd.snd.fst, ())) (some (Ex.ret, [V.b false], [])) (some (Ex.normal, [V.sl TPd l, V.sl TPd q, V.j (IntKind.i64.wrap (i + (1
 : Int)))], [])))))) (some (Ex.exit 0, [], []))) : _) := by kernel_rfl
theorem eqTps_tree (l q : List Tp) : funK Tryz.prog (look [(56, .rd1 eqTpG)]) (look [(4, eqTpsE)]) Tryz.f23 [.sl TPd l, .sl TPd q] [] =
 ((ifB ((↑l.length : Int) != (↑q.length : Int)) (some (V.b false, [])) (ifT (decide ((0 : Int) ≤ (0 : Int) ∧ (0 : Nat) ≤ l.length ∧ l.length = q.length ∧ l.length ≤ maxI) &&
 l.all eqnTp) (ifB (eqL eqTp (List.drop (0 : Nat) l) (List.drop (0 : Nat) q)) (some (V.b true, [])) (some (V.b false, []))))) : _) := by kernel_rfl
theorem eqTps_loop (l q : List Tp) (hl : l.length ≤ maxI) (hq : l.length = q.length) (hn : l.all eqnTp = true) : ∀ (j i : Nat), i + j = l.length → ∀ ex d, (Br.br (eqL eqTp (l.drop i) (q.drop i)) (.leaf (.exit 0, ([], []))) (.leaf (.ret, ([.b false], []))) : Br (Ex × Dt)).run = some (ex, d) → Runs Tryz.prog (look [(56, .rd1 eqTpG)]) (look [(4, eqTpsE)]) 0 (body Tryz.f23 0) eqTpsE ([.sl TPd l, .sl TPd q, .j (i : Int)], []) ex d
 | 0, i, hi, ex, d, h => by
  have hr := eqTps_round l q i
  rw [ifB_false (dcF (by omega))] at hr
  rw [List.drop_eq_nil_of_le (by omega), List.drop_eq_nil_of_le (by omega), eqL] at h
  have h8 := leaf_some h
  obtain ⟨rfl, rfl⟩ := Prod.mk.inj h8
  exact .stop _ _ _ hr (by simp)
 | j + 1, i, hi, ex, d, h => by
  have hM : maxI = 9223372036854775807 := rfl
  have hlt : i < l.length := by omega
  have hlq : i < q.length := by omega
  have hr := eqTps_round l q i
  rw [ifB_true (dcT (by omega)), ifT_true (by simp only [anE, dcE]; omega), ntN, gtE hlt, ifSome_s, ifT_true (by simp only [anE, dcE]; omega), gtE hlq, ifSome_s, wrap_succ (n := i) (by omega)] at hr
  rw [List.drop_eq_getElem_cons hlt, List.drop_eq_getElem_cons hlq, eqL] at h
  have e : ∀ x y : Tp, eqTp (x.1, (x.2.1.1, ()), x.2.2.1, ()) (y.1, (y.2.1.1, ()), y.2.2.1, ()) = eqTp x y := fun x y => rfl
  rw [e, show eqnTp (l[i].1, (l[i].2.1.1, ()), l[i].2.2.1, ()) = true from List.all_eq_true.1 hn _ (List.getElem_mem hlt), ifT_t] at hr
  cases h1 : eqTp l[i] q[i] with
  | false =>
   rw [h1] at hr h
   have h8 := leaf_some h
   obtain ⟨rfl, rfl⟩ := Prod.mk.inj h8
   exact .stop _ _ _ hr (by simp)
  | true =>
   rw [h1] at hr h
   exact .step _ _ _ _ hr (eqTps_loop l q hl hq hn j (i + 1) (by omega) ex d h)
theorem eqTps_con : Contract Tryz.prog 23 (Ent.rd1 eqTpsG).F := by
 refine fun_contract' (KnowsL.cons (enters_fn Tryz.func56 (by kernel_rfl) (by kernel_rfl)) eqTp_con KnowsL.nil).knows (Λ := (look [(4, eqTpsE)])) Tryz.func23 (c := Tryz.f23.body.getD .skip) (by kernel_rfl) fun vs bs r hq hv hb => ?_
 unfold Ent.F eqTpsG at hq
 dsimp only at hq
 split at hq
 ·rename_i l q
  obtain ⟨hc, hx⟩ := need_some hq
  rw [anE, dcE] at hc
  obtain ⟨hc, hn⟩ := hc
  have hok : LoopsOk Tryz.prog (look [(56, .rd1 eqTpG)]) (look [(4, eqTpsE)]) 0 (Tryz.f23.body.getD .skip) := by
   refine loopsOk_one (a := body Tryz.f23 0) (by kernel_rfl) fun d ex d' h => ?_
   unfold eqTpsE at h
   dsimp only at h
   split at h
   ·rename_i l q i
    obtain ⟨hc, hx⟩ := need_some h
    rw [anE, dcE] at hc
    obtain ⟨⟨a0, a1, a2, a3⟩, a4⟩ := hc
    obtain ⟨i, rfl⟩ := Int.eq_ofNat_of_zero_le a0
    simp only [ntN] at a1 hx
    exact eqTps_loop l q a3 a2 a4 (l.length - i) i (by omega) ex d' hx
   ·cases h
  refine ⟨hok, (eqTps_tree l q).trans (Eq.trans ?_ hx)⟩
  show _ = some _
  by_cases h : l.length = q.length
  ·have h2 : ((l.length : Int) != (q.length : Int)) = false := bne_eq_false_iff_eq.2 (by omega)
   rw [h2, ifB_f, ifT_true (by rw [anE]; exact ⟨dcT ⟨by omega, by omega, h, hc⟩, hn⟩), List.drop_zero, List.drop_zero]
   cases eqL eqTp l q <;> rfl
  ·have h2 : ((l.length : Int) != (q.length : Int)) = true := bne_iff_ne.2 (by omega)
   rw [h2, eqL_ne h]
   rfl
 ·cases hq
theorem eqFas_round (l q : List Fa) (i : Int) : roundK Tryz.prog (look [(29, .rd1 eqFaG)]) (look [(4, eqFasE)]) 0 (body Tryz.f44 0) eqFasE ([.sl FNd l, .sl FNd q, .j i], []) =
 ((ifB (decide (i < (↑l.length : Int))) (ifT (decide ((0 : Int) ≤ i) && decide (i < (↑l.length : Int))) (ifSome l[i.toNat]? fun z => ifT (decide ((0 : Int) ≤ i) && decide (i
 < (↑q.length : Int))) (ifSome q[i.toNat]? fun z_1 => ifT (eqnFa (z.fst, z.snd.fst, (z.snd.snd.fst.fst, ()), (z.snd.snd.snd.fst.fst, ()), z.snd.snd.snd.snd.fst,
 z.snd.snd.snd.snd.snd.fst, ())) (ifB (!eqFa (z.fst, z.snd.fst, (z.snd.snd.fst.fst, ()), (z.snd.snd.snd.fst.fst, ()), z.snd.snd.snd.snd.fst, z.snd.snd.snd.snd.snd.fst, ())
 (z_1.fst, z_1.snd.fst, (z_1.snd.snd.fst.fst, ()), (z_1.snd.snd.snd.fst.fst, ()), z_1.snd.snd.snd.snd.fst, z_1.snd.snd.snd.snd.snd.fst, ())) (some (Ex.ret, [V.b false],
 [])) (some (Ex.normal, [V.sl FNd l, V.sl FNd q, V.j (IntKind.i64.wrap (i + (1 : Int)))], [])))))) (some (Ex.exit 0, [], []))) : _) := by kernel_rfl
theorem eqFas_tree (l q : List Fa) : funK Tryz.prog (look [(29, .rd1 eqFaG)]) (look [(4, eqFasE)]) Tryz.f44 [.sl FNd l, .sl FNd q] [] =
 ((ifB ((↑l.length : Int) != (↑q.length : Int)) (some (V.b false, [])) (ifT (decide ((0 : Int) ≤ (0 : Int) ∧ (0 : Nat) ≤ l.length ∧ l.length = q.length ∧ l.length ≤ maxI) &&
 l.all eqnFa) (ifB (eqL eqFa (List.drop (0 : Nat) l) (List.drop (0 : Nat) q)) (some (V.b true, [])) (some (V.b false, []))))) : _) := by kernel_rfl
theorem eqFas_loop (l q : List Fa) (hl : l.length ≤ maxI) (hq : l.length = q.length) (hn : l.all eqnFa = true) : ∀ (j i : Nat), i + j = l.length → ∀ ex d, (Br.br (eqL eqFa (l.drop i) (q.drop i)) (.leaf (.exit 0, ([], []))) (.leaf (.ret, ([.b false], []))) : Br (Ex × Dt)).run = some (ex, d) → Runs Tryz.prog (look [(29, .rd1 eqFaG)]) (look [(4, eqFasE)]) 0 (body Tryz.f44 0) eqFasE ([.sl FNd l, .sl FNd q, .j (i : Int)], []) ex d
 | 0, i, hi, ex, d, h => by
  have hr := eqFas_round l q i
  rw [ifB_false (dcF (by omega))] at hr
  rw [List.drop_eq_nil_of_le (by omega), List.drop_eq_nil_of_le (by omega), eqL] at h
  have h8 := leaf_some h
  obtain ⟨rfl, rfl⟩ := Prod.mk.inj h8
  exact .stop _ _ _ hr (by simp)
 | j + 1, i, hi, ex, d, h => by
  have hM : maxI = 9223372036854775807 := rfl
  have hlt : i < l.length := by omega
  have hlq : i < q.length := by omega
  have hr := eqFas_round l q i
  rw [ifB_true (dcT (by omega)), ifT_true (by simp only [anE, dcE]; omega), ntN, gtE hlt, ifSome_s, ifT_true (by simp only [anE, dcE]; omega), gtE hlq, ifSome_s, wrap_succ (n := i) (by omega)] at hr
  rw [List.drop_eq_getElem_cons hlt, List.drop_eq_getElem_cons hlq, eqL] at h
  have e : ∀ x y : Fa, eqFa (x.1, x.2.1, (x.2.2.1.1, ()), (x.2.2.2.1.1, ()), x.2.2.2.2.1, x.2.2.2.2.2.1, ()) (y.1, y.2.1, (y.2.2.1.1, ()), (y.2.2.2.1.1, ()), y.2.2.2.2.1, y.2.2.2.2.2.1, ()) = eqFa x y := fun x y => rfl
  rw [e, show eqnFa (l[i].1, l[i].2.1, (l[i].2.2.1.1, ()), (l[i].2.2.2.1.1, ()), l[i].2.2.2.2.1, l[i].2.2.2.2.2.1, ()) = true from List.all_eq_true.1 hn _ (List.getElem_mem hlt), ifT_t] at hr
  cases h1 : eqFa l[i] q[i] with
  | false =>
   rw [h1] at hr h
   have h8 := leaf_some h
   obtain ⟨rfl, rfl⟩ := Prod.mk.inj h8
   exact .stop _ _ _ hr (by simp)
  | true =>
   rw [h1] at hr h
   exact .step _ _ _ _ hr (eqFas_loop l q hl hq hn j (i + 1) (by omega) ex d h)
theorem eqFas_con : Contract Tryz.prog 44 (Ent.rd1 eqFasG).F := by
 refine fun_contract' (KnowsL.cons (enters_fn Tryz.func29 (by kernel_rfl) (by kernel_rfl)) eqFa_con KnowsL.nil).knows (Λ := (look [(4, eqFasE)])) Tryz.func44 (c := Tryz.f44.body.getD .skip) (by kernel_rfl) fun vs bs r hq hv hb => ?_
 unfold Ent.F eqFasG at hq
 dsimp only at hq
 split at hq
 ·rename_i l q
  obtain ⟨hc, hx⟩ := need_some hq
  rw [anE, dcE] at hc
  obtain ⟨hc, hn⟩ := hc
  have hok : LoopsOk Tryz.prog (look [(29, .rd1 eqFaG)]) (look [(4, eqFasE)]) 0 (Tryz.f44.body.getD .skip) := by
   refine loopsOk_one (a := body Tryz.f44 0) (by kernel_rfl) fun d ex d' h => ?_
   unfold eqFasE at h
   dsimp only at h
   split at h
   ·rename_i l q i
    obtain ⟨hc, hx⟩ := need_some h
    rw [anE, dcE] at hc
    obtain ⟨⟨a0, a1, a2, a3⟩, a4⟩ := hc
    obtain ⟨i, rfl⟩ := Int.eq_ofNat_of_zero_le a0
    simp only [ntN] at a1 hx
    exact eqFas_loop l q a3 a2 a4 (l.length - i) i (by omega) ex d' hx
   ·cases h
  refine ⟨hok, (eqFas_tree l q).trans (Eq.trans ?_ hx)⟩
  show _ = some _
  by_cases h : l.length = q.length
  ·have h2 : ((l.length : Int) != (q.length : Int)) = false := bne_eq_false_iff_eq.2 (by omega)
   rw [h2, ifB_f, ifT_true (by rw [anE]; exact ⟨dcT ⟨by omega, by omega, h, hc⟩, hn⟩), List.drop_zero, List.drop_zero]
   cases eqL eqFa l q <;> rfl
  ·have h2 : ((l.length : Int) != (q.length : Int)) = true := bne_iff_ne.2 (by omega)
   rw [h2, eqL_ne h]
   rfl
 ·cases hq
theorem eqBk_tree (a0 : List Tp) (a1 : List Fa) (b0 : List Tp) (b1 : List Fa) : funK Tryz.prog (look [(23, .rd1 eqTpsG), (44, .rd1 eqFasG)]) (look []) Tryz.f13 [.agg [.sl TPd a0, .sl FNd a1], .agg [.sl TPd b0, .sl FNd b1]] [] =
 ((ifT (decide (a0.length ≤ maxI) && a0.all eqnTp) (ifB (!eqL eqTp a0 b0) (some (V.b false, [])) (ifT (decide (a1.length ≤ maxI) && a1.all eqnFa) (ifB (!eqL eqFa a1 b1) (some
 (V.b false, [])) (some (V.b true, [])))))) : _) := by kernel_rfl
theorem eqBk_con : Contract Tryz.prog 13 (Ent.rd1 eqBkG).F := by
 refine fun_contract' (KnowsL.cons (enters_fn Tryz.func23 (by kernel_rfl) (by kernel_rfl)) eqTps_con (KnowsL.cons (enters_fn Tryz.func44 (by kernel_rfl) (by kernel_rfl)) eqFas_con KnowsL.nil)).knows (Λ := look []) Tryz.func13 (c := Tryz.f13.body.getD .skip) (by kernel_rfl) fun vs bs r hq hv hb => ?_
 unfold Ent.F eqBkG at hq
 dsimp only at hq
 split at hq
 rotate_left
 ·cases hq
 split at hq
 rotate_left
 ·cases hq
 rename_i a0 a1
 split at hq
 ·rename_i b0 b1
  obtain ⟨hc, hx⟩ := need_some hq
  unfold eqnBk at hc
  dsimp only at hc
  refine ⟨loopsOk_nil _, (eqBk_tree a0 a1 b0 b1).trans (Eq.trans ?_ hx)⟩
  show _ = some _
  unfold eqBk
  dsimp only
  rw [anE] at hc
  rw [ifT_true hc.1, ifT_true hc.2]
  cases eqL eqTp a0 b0 <;> cases eqL eqFa a1 b1 <;> rfl
 ·cases hq

def toNtG : List V → List Blk → Br (V × List (Option Blk))
 | [.agg [.s a0, .i .i64 a1, .s a2]], [] => .leaf (.agg [.s a0, .i .i64 a1, .s a2], [])
 | _, _ => .no
def toNtsE : LoopEnt := ⟨23, [0,3,4], [3], [], fun
 | ([.sl (.pair .str (.pair (.int .i64) (.pair .str .unit))) l, .ref 0 0 m, .i .i64 n], [some (.row false none (.pair .str (.pair (.int .i64) (.pair .str .unit))) r)]) =>
  .need (decide (0 ≤ n ∧ m = l.length ∧ r.length = l.length ∧ n.toNat ≤ l.length ∧ l.length ≤ maxI)) (.leaf (.exit 0, ([.ref 0 0 m], [some (.row false none (.pair .str (.pair (.int .i64) (.pair .str .unit))) (r.take n.toNat ++ l.drop n.toNat))])))
 | _ => .no⟩
def toNtsG : List V → List Blk → Br (V × List (Option Blk))
 | [.sl (.pair .str (.pair (.int .i64) (.pair .str .unit))) l], [] => .need (decide (l.length ≤ 1000000000)) (.leaf (.ref 0 0 l.length, [some (.row false none (.pair .str (.pair (.int .i64) (.pair .str .unit))) l)]))
 | _, _ => .no

def toTyG : List V → List Blk → Br (V × List (Option Blk))
 | [.agg [.i .i64 a0, .s a1, .i .i64 a2, .b a3, .i .i64 a4, .i .i64 a5]], [] => .leaf (.agg [.i .i64 a0, .s a1, .i .i64 a2, .b a3, .i .i64 a4, .i .i64 a5], [])
 | _, _ => .no
def toTysE : LoopEnt := ⟨23, [0,3,4], [3], [], fun
 | ([.sl (.pair (.int .i64) (.pair .str (.pair (.int .i64) (.pair .bool (.pair (.int .i64) (.pair (.int .i64) .unit)))))) l, .ref 0 0 m, .i .i64 n], [some (.row false none (.pair (.int .i64) (.pair .str (.pair (.int .i64) (.pair .bool (.pair (.int .i64) (.pair (.int .i64) .unit)))))) r)]) =>
  .need (decide (0 ≤ n ∧ m = l.length ∧ r.length = l.length ∧ n.toNat ≤ l.length ∧ l.length ≤ maxI)) (.leaf (.exit 0, ([.ref 0 0 m], [some (.row false none (.pair (.int .i64) (.pair .str (.pair (.int .i64) (.pair .bool (.pair (.int .i64) (.pair (.int .i64) .unit)))))) (r.take n.toNat ++ l.drop n.toNat))])))
 | _ => .no⟩
def toTysG : List V → List Blk → Br (V × List (Option Blk))
 | [.sl (.pair (.int .i64) (.pair .str (.pair (.int .i64) (.pair .bool (.pair (.int .i64) (.pair (.int .i64) .unit)))))) l], [] => .need (decide (l.length ≤ 1000000000)) (.leaf (.ref 0 0 l.length, [some (.row false none (.pair (.int .i64) (.pair .str (.pair (.int .i64) (.pair .bool (.pair (.int .i64) (.pair (.int .i64) .unit)))))) l)]))
 | _, _ => .no

def toWtG : List V → List Blk → Br (V × List (Option Blk))
 | [.agg [.i .i64 a0, .i .i64 a1, .i .i64 a2, .s a3, .i .i64 a4, .i .i64 a5]], [] => .leaf (.agg [.i .i64 a0, .i .i64 a1, .i .i64 a2, .s a3, .i .i64 a4, .i .i64 a5], [])
 | _, _ => .no
def toWtsE : LoopEnt := ⟨23, [0,3,4], [3], [], fun
 | ([.sl (.pair (.int .i64) (.pair (.int .i64) (.pair (.int .i64) (.pair .str (.pair (.int .i64) (.pair (.int .i64) .unit)))))) l, .ref 0 0 m, .i .i64 n], [some (.row false none (.pair (.int .i64) (.pair (.int .i64) (.pair (.int .i64) (.pair .str (.pair (.int .i64) (.pair (.int .i64) .unit)))))) r)]) =>
  .need (decide (0 ≤ n ∧ m = l.length ∧ r.length = l.length ∧ n.toNat ≤ l.length ∧ l.length ≤ maxI)) (.leaf (.exit 0, ([.ref 0 0 m], [some (.row false none (.pair (.int .i64) (.pair (.int .i64) (.pair (.int .i64) (.pair .str (.pair (.int .i64) (.pair (.int .i64) .unit)))))) (r.take n.toNat ++ l.drop n.toNat))])))
 | _ => .no⟩
def toWtsG : List V → List Blk → Br (V × List (Option Blk))
 | [.sl (.pair (.int .i64) (.pair (.int .i64) (.pair (.int .i64) (.pair .str (.pair (.int .i64) (.pair (.int .i64) .unit)))))) l], [] => .need (decide (l.length ≤ 1000000000)) (.leaf (.ref 0 0 l.length, [some (.row false none (.pair (.int .i64) (.pair (.int .i64) (.pair (.int .i64) (.pair .str (.pair (.int .i64) (.pair (.int .i64) .unit)))))) l)]))
 | _, _ => .no


theorem set_take {α : Type} {l : List α} {p : Nat} {e : α} (h : p < l.length) : (l.set p e).take (p + 1) = l.take p ++ [e] := by
 rw [List.take_add_one, List.getElem?_set_self h, List.take_set_of_le (Nat.le_refl p)]; rfl
theorem toNt_fun (a0 : List UInt8) (a1 : Int) (a2 : List UInt8) : funK Tryz.prog (look []) (look []) Tryz.f167 [.agg [.s a0, .j a1, .s a2]] [] = some (.agg [.s a0, .j a1, .s a2], []) := by kernel_rfl
theorem toNt : Contract Tryz.prog 167 (Ent.rd1 toNtG).F := by
 refine fun_contract' (KnowsL.nil).knows (Λ := look []) Tryz.func167 (c := Tryz.f167.body.getD .skip) (by kernel_rfl) fun vs bs r h _ _ => ?_
 unfold Ent.F toNtG at h
 dsimp only at h
 split at h
 ·exact ⟨loopsOk_nil _, (toNt_fun _ _ _ ).trans (by cases h; rfl)⟩
 ·cases h
theorem toNts_round (l r : List Nt) (m n : Nat) : roundK Tryz.prog (look [(167, .rd1 toNtG)]) (look [(3, toNtsE)]) 0 (body Tryz.f129 0) toNtsE ([.sl NTd l, .ref 0 0 m, .j n], [some (.row false none NTd r)]) =
 ((ifB (decide ((↑n : Int) < (↑l.length : Int))) (ifT (decide ((0 : Int) ≤ (↑n : Int)) && decide ((↑n : Int) < (↑l.length : Int))) (ifSome l[((↑n : Int)).toNat]? fun z => ifT
 (decide ((0 : Int) ≤ (↑n : Int)) && decide ((↑n : Int) < (↑m : Int))) (ifSome r[(0 : Nat) + ((↑n : Int)).toNat]? fun z_1 => some (Ex.normal, [V.sl NTd l, V.ref 0 0 m, V.i
 .i64 (IntKind.i64.wrap ((↑n : Int) + (1 : Int)))], [some (Blk.row false none NTd (r.set ((0 : Nat) + ((↑n : Int)).toNat) (z.fst, z.snd.fst, z.snd.snd.fst, ())))]))))
 (some (Ex.exit 0, [V.ref 0 0 m], [some (Blk.row false none NTd r)]))) : _) := by kernel_rfl
theorem toNts_loop {l : List Nt} {m : Nat} (hm : m = l.length) (hx : l.length ≤ maxI) : ∀ (k n : Nat) (r : List Nt), n + k = l.length → r.length = l.length →
  Runs Tryz.prog (look [(167, .rd1 toNtG)]) (look [(3, toNtsE)]) 0 (body Tryz.f129 0) toNtsE ([.sl NTd l, .ref 0 0 m, .j n], [some (.row false none NTd r)]) (.exit 0) ([.ref 0 0 m], [some (.row false none NTd (r.take n ++ l.drop n))])
 | 0, n, r, hn, hr => by
  refine .stop _ _ _ ((toNts_round l r m n).trans ?_) (by simp)
  simp [show ¬ n < l.length by omega, show r.take n = r from List.take_of_length_le (by omega), show l.drop n = [] from List.drop_eq_nil_of_le (by omega)]
 | k + 1, n, r, hn, hr => by
  have h1 : n < l.length := by omega
  have h2 : n < r.length := by omega
  have h3 : n < m := by omega
  have hq := toNts_round l r m n
  simp only [ntN, gtE h1, Nat.zero_add, gtE h2, wrap_succ (n := n) (by omega)] at hq
  refine .step _ _ _ (d1 := ([.sl NTd l, .ref 0 0 m, .j ((n + 1 : Nat) : Int)], [some (.row false none NTd (r.set n l[n]))])) (hq.trans ?_) ?_
  ·simp [h1, h2, h3]
  ·have := toNts_loop hm hx k (n + 1) (r.set n l[n]) (by omega) (by simp; omega)
   rw [set_take h2, List.append_assoc, List.singleton_append, ← List.drop_eq_getElem_cons h1] at this
   exact this
theorem toNts_ok : LoopsOk Tryz.prog (look [(167, .rd1 toNtG)]) (look [(3, toNtsE)]) 0 (Tryz.f129.body.getD .skip) := by
 refine loopsOk_one (a := body Tryz.f129 0) (by kernel_rfl) fun d e d' h => ?_
 unfold toNtsE at h
 dsimp only at h
 split at h
 ·obtain ⟨hc, h⟩ := need_some h
  have hc := of_decide_eq_true hc
  obtain ⟨n, rfl⟩ := Int.eq_ofNat_of_zero_le hc.1
  cases h
  exact toNts_loop hc.2.1 hc.2.2.2.2 _ n _ (Nat.add_sub_of_le hc.2.2.2.1) hc.2.2.1
 ·cases h
theorem toNts_fun (l : List Nt) (hx : l.length ≤ 1000000000) : funK Tryz.prog (look [(167, .rd1 toNtG)]) (look [(3, toNtsE)]) Tryz.f129 [.sl NTd l] [] = some (.ref 0 0 l.length, [some (.row false none NTd l)]) := by
 have e : funK Tryz.prog (look [(167, .rd1 toNtG)]) (look [(3, toNtsE)]) Tryz.f129 [.sl NTd l] [] =
  ((ifT (decide ((0 : Int) ≤ (↑l.length : Int)) && decide ((↑l.length : Int) ≤ (↑l.length : Int)) && decide ((↑l.length : Int) * (↑(40 : Nat) : Int) ≤ (140737488355328 : Int))
 && decide ((↑l.length : Int) ≤ (9223372036854775807 : Int))) (ifT (decide ((0 : Int) ≤ (0 : Int) ∧ (↑l.length : Int).toNat = l.length ∧ (List.replicate (↑l.length :
 Int).toNat (nilT UInt8, (0 : Int), nilT UInt8, ())).length = l.length ∧ (0 : Nat) ≤ l.length ∧ l.length ≤ maxI)) (some (V.ref 0 0 (↑l.length : Int).toNat, [some (Blk.row
 false none NTd (nilT NTd.den ++ List.drop (0 : Nat) l))])))) : _) := by kernel_rfl
 rw [e]
 have hx' : l.length ≤ maxI := Nat.le_trans hx (by decide)
 simp [hx']
 omega
theorem toNts : Contract Tryz.prog 129 (Ent.rd1 toNtsG).F := by
 refine fun_contract' (KnowsL.cons (enters_fn Tryz.func167 (by kernel_rfl) (by kernel_rfl)) toNt KnowsL.nil).knows (Λ := (look [(3, toNtsE)])) Tryz.func129 (c := Tryz.f129.body.getD .skip) (by kernel_rfl) fun vs bs r h hv hb => ?_
 unfold Ent.F toNtsG at h
 dsimp only at h
 split at h
 ·rename_i l
  obtain ⟨hc, h⟩ := need_some h
  exact ⟨toNts_ok, (toNts_fun l (of_decide_eq_true hc)).trans (by cases h; rfl)⟩
 ·cases h
theorem toTy_fun (a0 : Int) (a1 : List UInt8) (a2 : Int) (a3 : Bool) (a4 a5 : Int) : funK Tryz.prog (look []) (look []) Tryz.f199 [.agg [.j a0, .s a1, .j a2, .b a3, .j a4, .j a5]] [] = some (.agg [.j a0, .s a1, .j a2, .b a3, .j a4, .j a5], []) := by kernel_rfl
theorem toTy : Contract Tryz.prog 199 (Ent.rd1 toTyG).F := by
 refine fun_contract' (KnowsL.nil).knows (Λ := look []) Tryz.func199 (c := Tryz.f199.body.getD .skip) (by kernel_rfl) fun vs bs r h _ _ => ?_
 unfold Ent.F toTyG at h
 dsimp only at h
 split at h
 ·exact ⟨loopsOk_nil _, (toTy_fun _ _ _ _ _ _ ).trans (by cases h; rfl)⟩
 ·cases h
theorem toTys_round (l r : List Ty) (m n : Nat) : roundK Tryz.prog (look [(199, .rd1 toTyG)]) (look [(3, toTysE)]) 0 (body Tryz.f156 0) toTysE ([.sl TCd l, .ref 0 0 m, .j n], [some (.row false none TCd r)]) =
 ((ifB (decide ((↑n : Int) < (↑l.length : Int))) (ifT (decide ((0 : Int) ≤ (↑n : Int)) && decide ((↑n : Int) < (↑l.length : Int))) (ifSome l[((↑n : Int)).toNat]? fun z => ifT
 (decide ((0 : Int) ≤ (↑n : Int)) && decide ((↑n : Int) < (↑m : Int))) (ifSome r[(0 : Nat) + ((↑n : Int)).toNat]? fun z_1 => some (Ex.normal, [V.sl TCd l, V.ref 0 0 m, V.i
 .i64 (IntKind.i64.wrap ((↑n : Int) + (1 : Int)))], [some (Blk.row false none TCd (r.set ((0 : Nat) + ((↑n : Int)).toNat) (z.fst, z.snd.fst, z.snd.snd.fst,
 z.snd.snd.snd.fst, z.snd.snd.snd.snd.fst, z.snd.snd.snd.snd.snd.fst, ())))])))) (some (Ex.exit 0, [V.ref 0 0 m], [some (Blk.row false none TCd r)]))) : _) := by kernel_rfl
theorem toTys_loop {l : List Ty} {m : Nat} (hm : m = l.length) (hx : l.length ≤ maxI) : ∀ (k n : Nat) (r : List Ty), n + k = l.length → r.length = l.length →
  Runs Tryz.prog (look [(199, .rd1 toTyG)]) (look [(3, toTysE)]) 0 (body Tryz.f156 0) toTysE ([.sl TCd l, .ref 0 0 m, .j n], [some (.row false none TCd r)]) (.exit 0) ([.ref 0 0 m], [some (.row false none TCd (r.take n ++ l.drop n))])
 | 0, n, r, hn, hr => by
  refine .stop _ _ _ ((toTys_round l r m n).trans ?_) (by simp)
  simp [show ¬ n < l.length by omega, show r.take n = r from List.take_of_length_le (by omega), show l.drop n = [] from List.drop_eq_nil_of_le (by omega)]
 | k + 1, n, r, hn, hr => by
  have h1 : n < l.length := by omega
  have h2 : n < r.length := by omega
  have h3 : n < m := by omega
  have hq := toTys_round l r m n
  simp only [ntN, gtE h1, Nat.zero_add, gtE h2, wrap_succ (n := n) (by omega)] at hq
  refine .step _ _ _ (d1 := ([.sl TCd l, .ref 0 0 m, .j ((n + 1 : Nat) : Int)], [some (.row false none TCd (r.set n l[n]))])) (hq.trans ?_) ?_
  ·simp [h1, h2, h3]
  ·have := toTys_loop hm hx k (n + 1) (r.set n l[n]) (by omega) (by simp; omega)
   rw [set_take h2, List.append_assoc, List.singleton_append, ← List.drop_eq_getElem_cons h1] at this
   exact this
theorem toTys_ok : LoopsOk Tryz.prog (look [(199, .rd1 toTyG)]) (look [(3, toTysE)]) 0 (Tryz.f156.body.getD .skip) := by
 refine loopsOk_one (a := body Tryz.f156 0) (by kernel_rfl) fun d e d' h => ?_
 unfold toTysE at h
 dsimp only at h
 split at h
 ·obtain ⟨hc, h⟩ := need_some h
  have hc := of_decide_eq_true hc
  obtain ⟨n, rfl⟩ := Int.eq_ofNat_of_zero_le hc.1
  cases h
  exact toTys_loop hc.2.1 hc.2.2.2.2 _ n _ (Nat.add_sub_of_le hc.2.2.2.1) hc.2.2.1
 ·cases h
theorem toTys_fun (l : List Ty) (hx : l.length ≤ 1000000000) : funK Tryz.prog (look [(199, .rd1 toTyG)]) (look [(3, toTysE)]) Tryz.f156 [.sl TCd l] [] = some (.ref 0 0 l.length, [some (.row false none TCd l)]) := by
 have e : funK Tryz.prog (look [(199, .rd1 toTyG)]) (look [(3, toTysE)]) Tryz.f156 [.sl TCd l] [] =
  ((ifT (decide ((0 : Int) ≤ (↑l.length : Int)) && decide ((↑l.length : Int) ≤ (↑l.length : Int)) && decide ((↑l.length : Int) * (↑(56 : Nat) : Int) ≤ (140737488355328 : Int))
 && decide ((↑l.length : Int) ≤ (9223372036854775807 : Int))) (ifT (decide ((0 : Int) ≤ (0 : Int) ∧ (↑l.length : Int).toNat = l.length ∧ (List.replicate (↑l.length :
 Int).toNat ((0 : Int), nilT UInt8, (0 : Int), false, (0 : Int), (0 : Int), ())).length = l.length ∧ (0 : Nat) ≤ l.length ∧ l.length ≤ maxI)) (some (V.ref 0 0 (↑l.length :
 Int).toNat, [some (Blk.row false none TCd (nilT TCd.den ++ List.drop (0 : Nat) l))])))) : _) := by kernel_rfl
 rw [e]
 have hx' : l.length ≤ maxI := Nat.le_trans hx (by decide)
 simp [hx']
 omega
theorem toTys : Contract Tryz.prog 156 (Ent.rd1 toTysG).F := by
 refine fun_contract' (KnowsL.cons (enters_fn Tryz.func199 (by kernel_rfl) (by kernel_rfl)) toTy KnowsL.nil).knows (Λ := (look [(3, toTysE)])) Tryz.func156 (c := Tryz.f156.body.getD .skip) (by kernel_rfl) fun vs bs r h hv hb => ?_
 unfold Ent.F toTysG at h
 dsimp only at h
 split at h
 ·rename_i l
  obtain ⟨hc, h⟩ := need_some h
  exact ⟨toTys_ok, (toTys_fun l (of_decide_eq_true hc)).trans (by cases h; rfl)⟩
 ·cases h
theorem toWt_fun (a0 a1 a2 : Int) (a3 : List UInt8) (a4 a5 : Int) : funK Tryz.prog (look []) (look []) Tryz.f201 [.agg [.j a0, .j a1, .j a2, .s a3, .j a4, .j a5]] [] = some (.agg [.j a0, .j a1, .j a2, .s a3, .j a4, .j a5], []) := by kernel_rfl
theorem toWt : Contract Tryz.prog 201 (Ent.rd1 toWtG).F := by
 refine fun_contract' (KnowsL.nil).knows (Λ := look []) Tryz.func201 (c := Tryz.f201.body.getD .skip) (by kernel_rfl) fun vs bs r h _ _ => ?_
 unfold Ent.F toWtG at h
 dsimp only at h
 split at h
 ·exact ⟨loopsOk_nil _, (toWt_fun _ _ _ _ _ _ ).trans (by cases h; rfl)⟩
 ·cases h
theorem toWts_round (l r : List Wt) (m n : Nat) : roundK Tryz.prog (look [(201, .rd1 toWtG)]) (look [(3, toWtsE)]) 0 (body Tryz.f166 0) toWtsE ([.sl WCd l, .ref 0 0 m, .j n], [some (.row false none WCd r)]) =
 ((ifB (decide ((↑n : Int) < (↑l.length : Int))) (ifT (decide ((0 : Int) ≤ (↑n : Int)) && decide ((↑n : Int) < (↑l.length : Int))) (ifSome l[((↑n : Int)).toNat]? fun z => ifT
 (decide ((0 : Int) ≤ (↑n : Int)) && decide ((↑n : Int) < (↑m : Int))) (ifSome r[(0 : Nat) + ((↑n : Int)).toNat]? fun z_1 => some (Ex.normal, [V.sl WCd l, V.ref 0 0 m, V.i
 .i64 (IntKind.i64.wrap ((↑n : Int) + (1 : Int)))], [some (Blk.row false none WCd (r.set ((0 : Nat) + ((↑n : Int)).toNat) (z.fst, z.snd.fst, z.snd.snd.fst,
 z.snd.snd.snd.fst, z.snd.snd.snd.snd.fst, z.snd.snd.snd.snd.snd.fst, ())))])))) (some (Ex.exit 0, [V.ref 0 0 m], [some (Blk.row false none WCd r)]))) : _) := by kernel_rfl
theorem toWts_loop {l : List Wt} {m : Nat} (hm : m = l.length) (hx : l.length ≤ maxI) : ∀ (k n : Nat) (r : List Wt), n + k = l.length → r.length = l.length →
  Runs Tryz.prog (look [(201, .rd1 toWtG)]) (look [(3, toWtsE)]) 0 (body Tryz.f166 0) toWtsE ([.sl WCd l, .ref 0 0 m, .j n], [some (.row false none WCd r)]) (.exit 0) ([.ref 0 0 m], [some (.row false none WCd (r.take n ++ l.drop n))])
 | 0, n, r, hn, hr => by
  refine .stop _ _ _ ((toWts_round l r m n).trans ?_) (by simp)
  simp [show ¬ n < l.length by omega, show r.take n = r from List.take_of_length_le (by omega), show l.drop n = [] from List.drop_eq_nil_of_le (by omega)]
 | k + 1, n, r, hn, hr => by
  have h1 : n < l.length := by omega
  have h2 : n < r.length := by omega
  have h3 : n < m := by omega
  have hq := toWts_round l r m n
  simp only [ntN, gtE h1, Nat.zero_add, gtE h2, wrap_succ (n := n) (by omega)] at hq
  refine .step _ _ _ (d1 := ([.sl WCd l, .ref 0 0 m, .j ((n + 1 : Nat) : Int)], [some (.row false none WCd (r.set n l[n]))])) (hq.trans ?_) ?_
  ·simp [h1, h2, h3]
  ·have := toWts_loop hm hx k (n + 1) (r.set n l[n]) (by omega) (by simp; omega)
   rw [set_take h2, List.append_assoc, List.singleton_append, ← List.drop_eq_getElem_cons h1] at this
   exact this
theorem toWts_ok : LoopsOk Tryz.prog (look [(201, .rd1 toWtG)]) (look [(3, toWtsE)]) 0 (Tryz.f166.body.getD .skip) := by
 refine loopsOk_one (a := body Tryz.f166 0) (by kernel_rfl) fun d e d' h => ?_
 unfold toWtsE at h
 dsimp only at h
 split at h
 ·obtain ⟨hc, h⟩ := need_some h
  have hc := of_decide_eq_true hc
  obtain ⟨n, rfl⟩ := Int.eq_ofNat_of_zero_le hc.1
  cases h
  exact toWts_loop hc.2.1 hc.2.2.2.2 _ n _ (Nat.add_sub_of_le hc.2.2.2.1) hc.2.2.1
 ·cases h
theorem toWts_fun (l : List Wt) (hx : l.length ≤ 1000000000) : funK Tryz.prog (look [(201, .rd1 toWtG)]) (look [(3, toWtsE)]) Tryz.f166 [.sl WCd l] [] = some (.ref 0 0 l.length, [some (.row false none WCd l)]) := by
 have e : funK Tryz.prog (look [(201, .rd1 toWtG)]) (look [(3, toWtsE)]) Tryz.f166 [.sl WCd l] [] =
  ((ifT (decide ((0 : Int) ≤ (↑l.length : Int)) && decide ((↑l.length : Int) ≤ (↑l.length : Int)) && decide ((↑l.length : Int) * (↑(56 : Nat) : Int) ≤ (140737488355328 : Int))
 && decide ((↑l.length : Int) ≤ (9223372036854775807 : Int))) (ifT (decide ((0 : Int) ≤ (0 : Int) ∧ (↑l.length : Int).toNat = l.length ∧ (List.replicate (↑l.length :
 Int).toNat ((0 : Int), (0 : Int), (0 : Int), nilT UInt8, (0 : Int), (0 : Int), ())).length = l.length ∧ (0 : Nat) ≤ l.length ∧ l.length ≤ maxI)) (some (V.ref 0 0
 (↑l.length : Int).toNat, [some (Blk.row false none WCd (nilT WCd.den ++ List.drop (0 : Nat) l))])))) : _) := by kernel_rfl
 rw [e]
 have hx' : l.length ≤ maxI := Nat.le_trans hx (by decide)
 simp [hx']
 omega
theorem toWts : Contract Tryz.prog 166 (Ent.rd1 toWtsG).F := by
 refine fun_contract' (KnowsL.cons (enters_fn Tryz.func201 (by kernel_rfl) (by kernel_rfl)) toWt KnowsL.nil).knows (Λ := (look [(3, toWtsE)])) Tryz.func166 (c := Tryz.f166.body.getD .skip) (by kernel_rfl) fun vs bs r h hv hb => ?_
 unfold Ent.F toWtsG at h
 dsimp only at h
 split at h
 ·rename_i l
  obtain ⟨hc, h⟩ := need_some h
  exact ⟨toWts_ok, (toWts_fun l (of_decide_eq_true hc)).trans (by cases h; rfl)⟩
 ·cases h

def toSchG : List V → List Blk → Br (V × List (Option Blk))
 | [.agg [.sl (.pair (.int .i64) (.pair .str (.pair (.int .i64) (.pair .bool (.pair (.int .i64) (.pair (.int .i64) .unit)))))) l]], [] => .need (decide (l.length ≤ 1000000000)) (.leaf (.agg [.ref 0 0 l.length], [some (.row false none (.pair (.int .i64) (.pair .str (.pair (.int .i64) (.pair .bool (.pair (.int .i64) (.pair (.int .i64) .unit)))))) l)]))
 | _, _ => .no
def toFilG : List V → List Blk → Br (V × List (Option Blk))
 | [.agg [.sl (.pair (.int .i64) (.pair (.int .i64) (.pair (.int .i64) (.pair .str (.pair (.int .i64) (.pair (.int .i64) .unit)))))) l]], [] => .need (decide (l.length ≤ 1000000000)) (.leaf (.agg [.ref 0 0 l.length], [some (.row false none (.pair (.int .i64) (.pair (.int .i64) (.pair (.int .i64) (.pair .str (.pair (.int .i64) (.pair (.int .i64) .unit)))))) l)]))
 | _, _ => .no
def toTpG : List V → List Blk → Br (V × List (Option Blk))
 | [.agg [.s a, .sl (.pair (.int .i64) (.pair .str (.pair (.int .i64) (.pair .bool (.pair (.int .i64) (.pair (.int .i64) .unit)))))) l, .i .i64 c]], [] => .need (decide (l.length ≤ 1000000000)) (.leaf (.agg [.s a, .ref 0 0 l.length, .i .i64 c], [some (.row false none (.pair (.int .i64) (.pair .str (.pair (.int .i64) (.pair .bool (.pair (.int .i64) (.pair (.int .i64) .unit)))))) l)]))
 | _, _ => .no
def toFaG : List V → List Blk → Br (V × List (Option Blk))
 | [.agg [.i .i64 w, .s p, .sl (.pair (.int .i64) (.pair (.int .i64) (.pair (.int .i64) (.pair .str (.pair (.int .i64) (.pair (.int .i64) .unit)))))) ws, .sl (.pair (.int .i64) (.pair .str (.pair (.int .i64) (.pair .bool (.pair (.int .i64) (.pair (.int .i64) .unit)))))) v, .sl (.pair .str (.pair (.int .i64) (.pair .str .unit))) b, .i .i64 c]], [] => .need (decide (ws.length ≤ 1000000000) && (decide (v.length ≤ 1000000000) && decide (b.length ≤ 1000000000))) (.leaf (.agg [.i .i64 w, .s p, .ref 0 0 ws.length, .ref 1 0 v.length, .ref 2 0 b.length, .i .i64 c], [some (.row false none (.pair (.int .i64) (.pair (.int .i64) (.pair (.int .i64) (.pair .str (.pair (.int .i64) (.pair (.int .i64) .unit)))))) ws), some (.row false none (.pair (.int .i64) (.pair .str (.pair (.int .i64) (.pair .bool (.pair (.int .i64) (.pair (.int .i64) .unit)))))) v), some (.row false none (.pair .str (.pair (.int .i64) (.pair .str .unit))) b)]))
 | _, _ => .no
def tokTp (t : Tp) : Bool := decide (t.2.1.1.length ≤ 1000000000)
def toTpsE : LoopEnt := ⟨23, [0,3,4], [3], [], fun
 | ([.sl (.pair .str (.pair (.pair (.slice (.pair (.int .i64) (.pair .str (.pair (.int .i64) (.pair .bool (.pair (.int .i64) (.pair (.int .i64) .unit))))))) .unit) (.pair (.int .i64) .unit))) l, .ref 0 0 m, .i .i64 n], [some (.row false none (.pair .str (.pair (.pair (.slice (.pair (.int .i64) (.pair .str (.pair (.int .i64) (.pair .bool (.pair (.int .i64) (.pair (.int .i64) .unit))))))) .unit) (.pair (.int .i64) .unit))) r)]) => .need (decide (0 ≤ n ∧ m = l.length ∧ r.length = l.length ∧ n.toNat ≤ l.length ∧ l.length ≤ maxI) && l.all tokTp) (.leaf (.exit 0, ([.ref 0 0 m], [some (.row false none (.pair .str (.pair (.pair (.slice (.pair (.int .i64) (.pair .str (.pair (.int .i64) (.pair .bool (.pair (.int .i64) (.pair (.int .i64) .unit))))))) .unit) (.pair (.int .i64) .unit))) (r.take n.toNat ++ l.drop n.toNat))])))
 | _ => .no⟩
def toTpsG : List V → List Blk → Br (V × List (Option Blk))
 | [.sl (.pair .str (.pair (.pair (.slice (.pair (.int .i64) (.pair .str (.pair (.int .i64) (.pair .bool (.pair (.int .i64) (.pair (.int .i64) .unit))))))) .unit) (.pair (.int .i64) .unit))) l], [] => .need (decide (l.length ≤ 1000000000) && l.all tokTp) (.leaf (.ref 0 0 l.length, [some (.row false none (.pair .str (.pair (.pair (.slice (.pair (.int .i64) (.pair .str (.pair (.int .i64) (.pair .bool (.pair (.int .i64) (.pair (.int .i64) .unit))))))) .unit) (.pair (.int .i64) .unit))) l)]))
 | _, _ => .no
def tokFa (t : Fa) : Bool := decide (t.2.2.1.1.length ≤ 1000000000) && (decide (t.2.2.2.1.1.length ≤ 1000000000) && decide (t.2.2.2.2.1.length ≤ 1000000000))
def toFasE : LoopEnt := ⟨23, [0,3,4], [3], [], fun
 | ([.sl (.pair (.int .i64) (.pair .str (.pair (.pair (.slice (.pair (.int .i64) (.pair (.int .i64) (.pair (.int .i64) (.pair .str (.pair (.int .i64) (.pair (.int .i64) .unit))))))) .unit) (.pair (.pair (.slice (.pair (.int .i64) (.pair .str (.pair (.int .i64) (.pair .bool (.pair (.int .i64) (.pair (.int .i64) .unit))))))) .unit) (.pair (.slice (.pair .str (.pair (.int .i64) (.pair .str .unit)))) (.pair (.int .i64) .unit)))))) l, .ref 0 0 m, .i .i64 n], [some (.row false none (.pair (.int .i64) (.pair .str (.pair (.pair (.slice (.pair (.int .i64) (.pair (.int .i64) (.pair (.int .i64) (.pair .str (.pair (.int .i64) (.pair (.int .i64) .unit))))))) .unit) (.pair (.pair (.slice (.pair (.int .i64) (.pair .str (.pair (.int .i64) (.pair .bool (.pair (.int .i64) (.pair (.int .i64) .unit))))))) .unit) (.pair (.slice (.pair .str (.pair (.int .i64) (.pair .str .unit)))) (.pair (.int .i64) .unit)))))) r)]) => .need (decide (0 ≤ n ∧ m = l.length ∧ r.length = l.length ∧ n.toNat ≤ l.length ∧ l.length ≤ maxI) && l.all tokFa) (.leaf (.exit 0, ([.ref 0 0 m], [some (.row false none (.pair (.int .i64) (.pair .str (.pair (.pair (.slice (.pair (.int .i64) (.pair (.int .i64) (.pair (.int .i64) (.pair .str (.pair (.int .i64) (.pair (.int .i64) .unit))))))) .unit) (.pair (.pair (.slice (.pair (.int .i64) (.pair .str (.pair (.int .i64) (.pair .bool (.pair (.int .i64) (.pair (.int .i64) .unit))))))) .unit) (.pair (.slice (.pair .str (.pair (.int .i64) (.pair .str .unit)))) (.pair (.int .i64) .unit)))))) (r.take n.toNat ++ l.drop n.toNat))])))
 | _ => .no⟩
def toFasG : List V → List Blk → Br (V × List (Option Blk))
 | [.sl (.pair (.int .i64) (.pair .str (.pair (.pair (.slice (.pair (.int .i64) (.pair (.int .i64) (.pair (.int .i64) (.pair .str (.pair (.int .i64) (.pair (.int .i64) .unit))))))) .unit) (.pair (.pair (.slice (.pair (.int .i64) (.pair .str (.pair (.int .i64) (.pair .bool (.pair (.int .i64) (.pair (.int .i64) .unit))))))) .unit) (.pair (.slice (.pair .str (.pair (.int .i64) (.pair .str .unit)))) (.pair (.int .i64) .unit)))))) l], [] => .need (decide (l.length ≤ 1000000000) && l.all tokFa) (.leaf (.ref 0 0 l.length, [some (.row false none (.pair (.int .i64) (.pair .str (.pair (.pair (.slice (.pair (.int .i64) (.pair (.int .i64) (.pair (.int .i64) (.pair .str (.pair (.int .i64) (.pair (.int .i64) .unit))))))) .unit) (.pair (.pair (.slice (.pair (.int .i64) (.pair .str (.pair (.int .i64) (.pair .bool (.pair (.int .i64) (.pair (.int .i64) .unit))))))) .unit) (.pair (.slice (.pair .str (.pair (.int .i64) (.pair .str .unit)))) (.pair (.int .i64) .unit)))))) l)]))
 | _, _ => .no
def toBkG : List V → List Blk → Br (V × List (Option Blk))
 | [.agg [.sl (.pair .str (.pair (.pair (.slice (.pair (.int .i64) (.pair .str (.pair (.int .i64) (.pair .bool (.pair (.int .i64) (.pair (.int .i64) .unit))))))) .unit) (.pair (.int .i64) .unit))) ts, .sl (.pair (.int .i64) (.pair .str (.pair (.pair (.slice (.pair (.int .i64) (.pair (.int .i64) (.pair (.int .i64) (.pair .str (.pair (.int .i64) (.pair (.int .i64) .unit))))))) .unit) (.pair (.pair (.slice (.pair (.int .i64) (.pair .str (.pair (.int .i64) (.pair .bool (.pair (.int .i64) (.pair (.int .i64) .unit))))))) .unit) (.pair (.slice (.pair .str (.pair (.int .i64) (.pair .str .unit)))) (.pair (.int .i64) .unit)))))) fs]], [] => .need ((decide (ts.length ≤ 1000000000) && ts.all tokTp) && (decide (fs.length ≤ 1000000000) && fs.all tokFa)) (.leaf (.agg [.ref 0 0 ts.length, .ref 1 0 fs.length], [some (.row false none (.pair .str (.pair (.pair (.slice (.pair (.int .i64) (.pair .str (.pair (.int .i64) (.pair .bool (.pair (.int .i64) (.pair (.int .i64) .unit))))))) .unit) (.pair (.int .i64) .unit))) ts), some (.row false none (.pair (.int .i64) (.pair .str (.pair (.pair (.slice (.pair (.int .i64) (.pair (.int .i64) (.pair (.int .i64) (.pair .str (.pair (.int .i64) (.pair (.int .i64) .unit))))))) .unit) (.pair (.pair (.slice (.pair (.int .i64) (.pair .str (.pair (.int .i64) (.pair .bool (.pair (.int .i64) (.pair (.int .i64) .unit))))))) .unit) (.pair (.slice (.pair .str (.pair (.int .i64) (.pair .str .unit)))) (.pair (.int .i64) .unit)))))) fs)]))
 | _, _ => .no

theorem toSch_tree (l : List Ty) : funK Tryz.prog (look [(156, .rd1 toTysG)]) (look []) Tryz.f108 [.agg [.sl TCd l]] [] =
 ((ifT (decide (l.length ≤ (1000000000 : Nat))) (some (V.agg [V.ref 0 0 l.length], [some (Blk.row false none TCd l)]))) : _) := by kernel_rfl
theorem toSch_con : Contract Tryz.prog 108 (Ent.rd1 toSchG).F := by
 refine fun_contract' (KnowsL.cons (enters_fn Tryz.func156 (by kernel_rfl) (by kernel_rfl)) toTys KnowsL.nil).knows (Λ := look []) Tryz.func108 (c := Tryz.f108.body.getD .skip) (by kernel_rfl) fun vs bs r hq hv hb => ?_
 unfold Ent.F toSchG at hq
 dsimp only at hq
 split at hq
 ·rename_i l
  obtain ⟨hc, hx⟩ := need_some hq
  refine ⟨loopsOk_nil _, (toSch_tree l).trans (Eq.trans ?_ hx)⟩
  show _ = some _
  rw [ifT_true hc]
 ·cases hq
theorem toFil_tree (l : List Wt) : funK Tryz.prog (look [(166, .rd1 toWtsG)]) (look []) Tryz.f128 [.agg [.sl WCd l]] [] =
 ((ifT (decide (l.length ≤ (1000000000 : Nat))) (some (V.agg [V.ref 0 0 l.length], [some (Blk.row false none WCd l)]))) : _) := by kernel_rfl
theorem toFil_con : Contract Tryz.prog 128 (Ent.rd1 toFilG).F := by
 refine fun_contract' (KnowsL.cons (enters_fn Tryz.func166 (by kernel_rfl) (by kernel_rfl)) toWts KnowsL.nil).knows (Λ := look []) Tryz.func128 (c := Tryz.f128.body.getD .skip) (by kernel_rfl) fun vs bs r hq hv hb => ?_
 unfold Ent.F toFilG at hq
 dsimp only at hq
 split at hq
 ·rename_i l
  obtain ⟨hc, hx⟩ := need_some hq
  refine ⟨loopsOk_nil _, (toFil_tree l).trans (Eq.trans ?_ hx)⟩
  show _ = some _
  rw [ifT_true hc]
 ·cases hq
theorem toTp_tree (a : List UInt8) (l : List Ty) (c : Int) : funK Tryz.prog (look [(108, .rd1 toSchG)]) (look []) Tryz.f52 [.agg [.s a, .sl TCd l, .j c]] [] =
 ((ifT (decide (l.length ≤ (1000000000 : Nat))) (some (V.agg [V.s a, V.ref 0 0 l.length, V.j c], [some (Blk.row false none TCd l)]))) : _) := by kernel_rfl
theorem toTp_con : Contract Tryz.prog 52 (Ent.rd1 toTpG).F := by
 refine fun_contract' (KnowsL.cons (enters_fn Tryz.func108 (by kernel_rfl) (by kernel_rfl)) toSch_con KnowsL.nil).knows (Λ := look []) Tryz.func52 (c := Tryz.f52.body.getD .skip) (by kernel_rfl) fun vs bs r hq hv hb => ?_
 unfold Ent.F toTpG at hq
 dsimp only at hq
 split at hq
 ·rename_i a l c
  obtain ⟨hc, hx⟩ := need_some hq
  refine ⟨loopsOk_nil _, (toTp_tree a l c).trans (Eq.trans ?_ hx)⟩
  show _ = some _
  rw [ifT_true hc]
 ·cases hq
theorem toFa_tree (w : Int) (p : List UInt8) (ws : List Wt) (v : List Ty) (b : List Nt) (c : Int) : funK Tryz.prog (look [(128, .rd1 toFilG), (108, .rd1 toSchG), (129, .rd1 toNtsG)]) (look []) Tryz.f85 [.agg [.j w, .s p, .sl WCd ws, .sl TCd v, .sl NTd b, .j c]] [] =
 ((ifT (decide (ws.length ≤ (1000000000 : Nat))) (ifT (decide (v.length ≤ (1000000000 : Nat))) (ifT (decide (b.length ≤ (1000000000 : Nat))) (some (V.agg [V.j w, V.s p,
 V.ref 0 0 ws.length, V.ref 1 0 v.length, V.ref 2 0 b.length, V.j c], [some (Blk.row false none WCd ws), some (Blk.row false none TCd v), some (Blk.row false none NTd
 b)]))))) : _) := by kernel_rfl
theorem toFa_con : Contract Tryz.prog 85 (Ent.rd1 toFaG).F := by
 refine fun_contract' (KnowsL.cons (enters_fn Tryz.func128 (by kernel_rfl) (by kernel_rfl)) toFil_con (KnowsL.cons (enters_fn Tryz.func108 (by kernel_rfl) (by kernel_rfl)) toSch_con (KnowsL.cons (enters_fn Tryz.func129 (by kernel_rfl) (by kernel_rfl)) toNts KnowsL.nil))).knows (Λ := look []) Tryz.func85 (c := Tryz.f85.body.getD .skip) (by kernel_rfl) fun vs bs r hq hv hb => ?_
 unfold Ent.F toFaG at hq
 dsimp only at hq
 split at hq
 ·rename_i w p ws v b c
  obtain ⟨hc, hx⟩ := need_some hq
  refine ⟨loopsOk_nil _, (toFa_tree w p ws v b c).trans (Eq.trans ?_ hx)⟩
  show _ = some _
  rw [anE, anE] at hc
  rw [ifT_true hc.1, ifT_true hc.2.1, ifT_true hc.2.2]
 ·cases hq
theorem toTps_round (l r : List Tp) (m : Nat) (n : Int) : roundK Tryz.prog (look [(52, .rd1 toTpG)]) (look [(3, toTpsE)]) 0 (body Tryz.f21 0) toTpsE ([.sl TPd l, .ref 0 0 m, .j n], [some (.row false none TPd r)]) =
 ((ifB (decide (n < (↑l.length : Int))) (ifT (decide ((0 : Int) ≤ n) && decide (n < (↑l.length : Int))) (ifSome l[n.toNat]? fun z => ifT (decide (List.length z.snd.fst.fst ≤
 (1000000000 : Nat))) (ifT (decide ((0 : Int) ≤ n) && decide (n < (↑m : Int))) (ifSome r[(0 : Nat) + n.toNat]? fun z_1 => some (Ex.normal, [V.sl TPd l, V.ref 0 0 m, V.i
 .i64 (IntKind.i64.wrap (n + (1 : Int)))], [some (Blk.row false none TPd (r.set ((0 : Nat) + n.toNat) (z.fst, (List.take (List.length z.snd.fst.fst) (List.drop (0 : Nat)
 z.snd.fst.fst), ()), z.snd.snd.fst, ())))]))))) (some (Ex.exit 0, [V.ref 0 0 m], [some (Blk.row false none TPd r)]))) : _) := by kernel_rfl
theorem toTps_tree (l : List Tp) : funK Tryz.prog (look [(52, .rd1 toTpG)]) (look [(3, toTpsE)]) Tryz.f21 [.sl TPd l] [] =
 ((ifT (decide ((0 : Int) ≤ (↑l.length : Int)) && decide ((↑l.length : Int) ≤ (↑l.length : Int)) && decide ((↑l.length : Int) * (↑(48 : Nat) : Int) ≤ (140737488355328 : Int))
 && decide ((↑l.length : Int) ≤ (9223372036854775807 : Int))) (ifT (decide ((0 : Int) ≤ (0 : Int) ∧ (↑l.length : Int).toNat = l.length ∧ (List.replicate (↑l.length :
 Int).toNat (nilT UInt8, (nilT TCd.den, ()), (0 : Int), ())).length = l.length ∧ (0 : Nat) ≤ l.length ∧ l.length ≤ maxI) && l.all tokTp) (some (V.ref 0 0 (↑l.length :
 Int).toNat, [some (Blk.row false none TPd (nilT TPd.den ++ List.drop (0 : Nat) l))])))) : _) := by kernel_rfl
theorem toTps_loop {l : List Tp} (hx : l.length ≤ maxI) (ho : ∀ z ∈ l, tokTp z = true) : ∀ (k n : Nat) (r : List Tp), n + k = l.length → r.length = l.length →
  Runs Tryz.prog (look [(52, .rd1 toTpG)]) (look [(3, toTpsE)]) 0 (body Tryz.f21 0) toTpsE ([.sl TPd l, .ref 0 0 l.length, .j (n : Int)], [some (.row false none TPd r)]) (.exit 0) ([.ref 0 0 l.length], [some (.row false none TPd (r.take n ++ l.drop n))])
 | 0, n, r, hn, hr => by
  have hq := toTps_round l r l.length n
  rw [ifB_false (dcF (by omega))] at hq
  rw [List.take_of_length_le (by omega), List.drop_eq_nil_of_le (by omega), List.append_nil]
  exact .stop _ _ _ hq (by simp)
 | k + 1, n, r, hn, hr => by
  have hM : maxI = 9223372036854775807 := rfl
  have h1 : n < l.length := by omega
  have h2 : n < r.length := by omega
  have hq := toTps_round l r l.length n
  have ho1 := ho _ (List.getElem_mem h1)
  have hs := toTps_loop hx ho k (n + 1) (r.set n l[n]) (by omega) (by simp; omega)
  rw [set_take h2, List.append_assoc, List.singleton_append, ← List.drop_eq_getElem_cons h1] at hs
  rw [ifB_true (dcT (by omega)), ifT_true (by simp only [anE, dcE]; omega), ntN, gtE h1, ifSome_s, wrap_succ (n := n) (by omega)] at hq
  unfold tokTp at ho1
  generalize l[n] = z at hq ho1 hs
  obtain ⟨a, ⟨l_, ⟨⟩⟩, c, ⟨⟩⟩ := z
  dsimp only at hq ho1
  rw [ifT_true ho1] at hq
  rw [ifT_true (by simp only [anE, dcE]; omega), Nat.zero_add, gtE h2, ifSome_s] at hq
  simp only [List.drop_zero, List.take_length] at hq
  exact .step _ _ _ _ hq hs
theorem toTps : Contract Tryz.prog 21 (Ent.rd1 toTpsG).F := by
 refine fun_contract' (KnowsL.cons (enters_fn Tryz.func52 (by kernel_rfl) (by kernel_rfl)) toTp_con KnowsL.nil).knows (Λ := (look [(3, toTpsE)])) Tryz.func21 (c := Tryz.f21.body.getD .skip) (by kernel_rfl) fun vs bs r hq hv hb => ?_
 unfold Ent.F toTpsG at hq
 dsimp only at hq
 split at hq
 ·rename_i l
  obtain ⟨hc, hx⟩ := need_some hq
  rw [anE, dcE] at hc
  obtain ⟨h1, h2⟩ := hc
  have hM : maxI = 9223372036854775807 := rfl
  have hok : LoopsOk Tryz.prog (look [(52, .rd1 toTpG)]) (look [(3, toTpsE)]) 0 (Tryz.f21.body.getD .skip) := by
   refine loopsOk_one (a := body Tryz.f21 0) (by kernel_rfl) fun d e d' h => ?_
   unfold toTpsE at h
   dsimp only at h
   split at h
   ·rename_i l m n r
    obtain ⟨hc, h⟩ := need_some h
    rw [anE, dcE] at hc
    obtain ⟨⟨a0, a1, a2, a3, a4⟩, a5⟩ := hc
    obtain ⟨n, rfl⟩ := Int.eq_ofNat_of_zero_le a0
    subst a1
    cases h
    exact toTps_loop a4 (List.all_eq_true.1 a5) _ n _ (Nat.add_sub_of_le a3) a2
   ·cases h
  refine ⟨hok, (toTps_tree l).trans (Eq.trans ?_ hx)⟩
  show _ = some _
  rw [ifT_true (by simp only [anE, dcE]; omega), ifT_true (by rw [anE]; exact ⟨dcT ⟨by omega, by simp, by simp, by omega, by omega⟩, h2⟩)]
  rfl
 ·cases hq
theorem toFas_round (l r : List Fa) (m : Nat) (n : Int) : roundK Tryz.prog (look [(85, .rd1 toFaG)]) (look [(3, toFasE)]) 0 (body Tryz.f40 0) toFasE ([.sl FNd l, .ref 0 0 m, .j n], [some (.row false none FNd r)]) =
 ((ifB (decide (n < (↑l.length : Int))) (ifT (decide ((0 : Int) ≤ n) && decide (n < (↑l.length : Int))) (ifSome l[n.toNat]? fun z => ifT (decide (List.length
 z.snd.snd.fst.fst ≤ (1000000000 : Nat)) && (decide (List.length z.snd.snd.snd.fst.fst ≤ (1000000000 : Nat)) && decide (List.length z.snd.snd.snd.snd.fst ≤ (1000000000 :
 Nat)))) (ifT (decide ((0 : Int) ≤ n) && decide (n < (↑m : Int))) (ifSome r[(0 : Nat) + n.toNat]? fun z_1 => some (Ex.normal, [V.sl FNd l, V.ref 0 0 m, V.i .i64
 (IntKind.i64.wrap (n + (1 : Int)))], [some (Blk.row false none FNd (r.set ((0 : Nat) + n.toNat) (z.fst, z.snd.fst, (List.take (List.length z.snd.snd.fst.fst) (List.drop
 (0 : Nat) z.snd.snd.fst.fst), ()), (List.take (List.length z.snd.snd.snd.fst.fst) (List.drop (0 : Nat) z.snd.snd.snd.fst.fst), ()), List.take (List.length
 z.snd.snd.snd.snd.fst) (List.drop (0 : Nat) z.snd.snd.snd.snd.fst), z.snd.snd.snd.snd.snd.fst, ())))]))))) (some (Ex.exit 0, [V.ref 0 0 m], [some (Blk.row false none FNd
 r)]))) : _) := by kernel_rfl
theorem toFas_tree (l : List Fa) : funK Tryz.prog (look [(85, .rd1 toFaG)]) (look [(3, toFasE)]) Tryz.f40 [.sl FNd l] [] =
 ((ifT (decide ((0 : Int) ≤ (↑l.length : Int)) && decide ((↑l.length : Int) ≤ (↑l.length : Int)) && decide ((↑l.length : Int) * (↑(104 : Nat) : Int) ≤ (140737488355328 :
 Int)) && decide ((↑l.length : Int) ≤ (9223372036854775807 : Int))) (ifT (decide ((0 : Int) ≤ (0 : Int) ∧ (↑l.length : Int).toNat = l.length ∧ (List.replicate (↑l.length :
 Int).toNat ((0 : Int), nilT UInt8, (nilT WCd.den, ()), (nilT TCd.den, ()), nilT NTd.den, (0 : Int), ())).length = l.length ∧ (0 : Nat) ≤ l.length ∧ l.length ≤ maxI) &&
 l.all tokFa) (some (V.ref 0 0 (↑l.length : Int).toNat, [some (Blk.row false none FNd (nilT FNd.den ++ List.drop (0 : Nat) l))])))) : _) := by kernel_rfl
theorem toFas_loop {l : List Fa} (hx : l.length ≤ maxI) (ho : ∀ z ∈ l, tokFa z = true) : ∀ (k n : Nat) (r : List Fa), n + k = l.length → r.length = l.length →
  Runs Tryz.prog (look [(85, .rd1 toFaG)]) (look [(3, toFasE)]) 0 (body Tryz.f40 0) toFasE ([.sl FNd l, .ref 0 0 l.length, .j (n : Int)], [some (.row false none FNd r)]) (.exit 0) ([.ref 0 0 l.length], [some (.row false none FNd (r.take n ++ l.drop n))])
 | 0, n, r, hn, hr => by
  have hq := toFas_round l r l.length n
  rw [ifB_false (dcF (by omega))] at hq
  rw [List.take_of_length_le (by omega), List.drop_eq_nil_of_le (by omega), List.append_nil]
  exact .stop _ _ _ hq (by simp)
 | k + 1, n, r, hn, hr => by
  have hM : maxI = 9223372036854775807 := rfl
  have h1 : n < l.length := by omega
  have h2 : n < r.length := by omega
  have hq := toFas_round l r l.length n
  have ho1 := ho _ (List.getElem_mem h1)
  have hs := toFas_loop hx ho k (n + 1) (r.set n l[n]) (by omega) (by simp; omega)
  rw [set_take h2, List.append_assoc, List.singleton_append, ← List.drop_eq_getElem_cons h1] at hs
  rw [ifB_true (dcT (by omega)), ifT_true (by simp only [anE, dcE]; omega), ntN, gtE h1, ifSome_s, wrap_succ (n := n) (by omega)] at hq
  unfold tokFa at ho1
  generalize l[n] = z at hq ho1 hs
  obtain ⟨w_, p, ⟨ws, ⟨⟩⟩, ⟨v, ⟨⟩⟩, b, c, ⟨⟩⟩ := z
  dsimp only at hq ho1
  rw [ifT_true ho1] at hq
  rw [ifT_true (by simp only [anE, dcE]; omega), Nat.zero_add, gtE h2, ifSome_s] at hq
  simp only [List.drop_zero, List.take_length] at hq
  exact .step _ _ _ _ hq hs
theorem toFas : Contract Tryz.prog 40 (Ent.rd1 toFasG).F := by
 refine fun_contract' (KnowsL.cons (enters_fn Tryz.func85 (by kernel_rfl) (by kernel_rfl)) toFa_con KnowsL.nil).knows (Λ := (look [(3, toFasE)])) Tryz.func40 (c := Tryz.f40.body.getD .skip) (by kernel_rfl) fun vs bs r hq hv hb => ?_
 unfold Ent.F toFasG at hq
 dsimp only at hq
 split at hq
 ·rename_i l
  obtain ⟨hc, hx⟩ := need_some hq
  rw [anE, dcE] at hc
  obtain ⟨h1, h2⟩ := hc
  have hM : maxI = 9223372036854775807 := rfl
  have hok : LoopsOk Tryz.prog (look [(85, .rd1 toFaG)]) (look [(3, toFasE)]) 0 (Tryz.f40.body.getD .skip) := by
   refine loopsOk_one (a := body Tryz.f40 0) (by kernel_rfl) fun d e d' h => ?_
   unfold toFasE at h
   dsimp only at h
   split at h
   ·rename_i l m n r
    obtain ⟨hc, h⟩ := need_some h
    rw [anE, dcE] at hc
    obtain ⟨⟨a0, a1, a2, a3, a4⟩, a5⟩ := hc
    obtain ⟨n, rfl⟩ := Int.eq_ofNat_of_zero_le a0
    subst a1
    cases h
    exact toFas_loop a4 (List.all_eq_true.1 a5) _ n _ (Nat.add_sub_of_le a3) a2
   ·cases h
  refine ⟨hok, (toFas_tree l).trans (Eq.trans ?_ hx)⟩
  show _ = some _
  rw [ifT_true (by simp only [anE, dcE]; omega), ifT_true (by rw [anE]; exact ⟨dcT ⟨by omega, by simp, by simp, by omega, by omega⟩, h2⟩)]
  rfl
 ·cases hq
theorem toBk_tree (ts : List Tp) (fs : List Fa) : funK Tryz.prog (look [(21, .rd1 toTpsG), (40, .rd1 toFasG)]) (look []) Tryz.f11 [.agg [.sl TPd ts, .sl FNd fs]] [] =
 ((ifT (decide (ts.length ≤ (1000000000 : Nat)) && ts.all tokTp) (ifT (decide (fs.length ≤ (1000000000 : Nat)) && fs.all tokFa) (some (V.agg [V.ref 0 0 ts.length, V.ref 1 0
 fs.length], [some (Blk.row false none TPd ts), some (Blk.row false none FNd fs)])))) : _) := by kernel_rfl
theorem toBk_con : Contract Tryz.prog 11 (Ent.rd1 toBkG).F := by
 refine fun_contract' (KnowsL.cons (enters_fn Tryz.func21 (by kernel_rfl) (by kernel_rfl)) toTps (KnowsL.cons (enters_fn Tryz.func40 (by kernel_rfl) (by kernel_rfl)) toFas KnowsL.nil)).knows (Λ := look []) Tryz.func11 (c := Tryz.f11.body.getD .skip) (by kernel_rfl) fun vs bs r hq hv hb => ?_
 unfold Ent.F toBkG at hq
 dsimp only at hq
 split at hq
 ·rename_i ts fs
  obtain ⟨hc, hx⟩ := need_some hq
  refine ⟨loopsOk_nil _, (toBk_tree ts fs).trans (Eq.trans ?_ hx)⟩
  show _ = some _
  rw [anE] at hc
  rw [ifT_true hc.1, ifT_true hc.2]
 ·cases hq


theorem sum_mem {α : Type} (w : α → Nat) : ∀ {l : List α} {x : α}, x ∈ l → w x ≤ (l.map w).sum
 | y :: l, x, h => by
  rw [List.map_cons, List.sum_cons]
  rcases List.mem_cons.1 h with rfl | h
  ·omega
  ·have := sum_mem w h; omega
theorem nm_of {l : List Ty} (h : okTys l = true) : nmL l = true := by
 unfold nmL
 rw [List.all_eq_true]
 intro x hx
 have := (okTys_all h).2 x hx
 unfold okTy at this
 exact this
theorem tp_facts {t : Tp} (ho : okTp t = true) (hw : wTp t ≤ 1048576) : szTB t = true ∧ eqnTp t = true ∧ tokTp t = true := by
 have hM : maxI = 9223372036854775807 := rfl
 unfold wTp wSch wTys at hw
 unfold okTp okSch at ho
 rw [anE, dcE] at ho
 have hn := nm_of ho.2
 unfold szTB eqnTp eqnSch tokTp
 simp only [anE, dcE]
 refine ⟨⟨by omega, by omega, hn⟩, by omega, by omega⟩
theorem nts_of {b : List Nt} (hw : wNts b ≤ 1048576) : ntsB b = true := by
 unfold wNts sumNt at hw
 unfold ntsB
 rw [anE, dcE, List.all_eq_true]
 refine ⟨by omega, fun n hn => ?_⟩
 have := sum_mem wNt hn
 unfold wNt at this hw
 exact dcT (by omega)
theorem fa_facts {f : Fa} (ho : okFa f = true) (hw : wFa f ≤ 1048576) : szFB f = true ∧ eqnFa f = true ∧ tokFa f = true := by
 have hM : maxI = 9223372036854775807 := rfl
 unfold wFa wSch wFil at hw
 unfold okFa okFil okSch at ho
 simp only [anE, dcE] at ho
 have hn := nm_of ho.2.2.1
 have hb := nts_of (b := f.2.2.2.2.1) (by omega)
 unfold wWts wTys wNts at hw
 unfold szFB eqnFa eqnSch eqnFil tokFa
 simp only [anE, dcE]
 refine ⟨⟨⟨by omega, by omega⟩, hn, hb⟩, ⟨by omega, by omega, by omega⟩, by omega, by omega, by omega⟩
theorem bk_facts {ts : List Tp} {fs : List Fa} (ho : okBk (ts, fs, ()) = true) (hw : wBk (ts, fs, ()) ≤ 1048576) : szBk ts fs = true ∧ eqnBk (ts, fs, ()) = true ∧ ((decide (ts.length ≤ 1000000000) && ts.all tokTp) && (decide (fs.length ≤ 1000000000) && fs.all tokFa)) = true := by
 have hM : maxI = 9223372036854775807 := rfl
 unfold okBk at ho
 rw [anE] at ho
 obtain ⟨h1, h2⟩ := okTps_all ho.1
 obtain ⟨h3, h4⟩ := okFas_all ho.2
 unfold wBk wTps wFas at hw
 dsimp only at hw
 have a : ∀ t ∈ ts, szTB t = true ∧ eqnTp t = true ∧ tokTp t = true := fun t ht => by
  have := sum_mem wTp ht
  unfold sumTp at hw
  exact tp_facts (h2 t ht) (by omega)
 have b : ∀ f ∈ fs, szFB f = true ∧ eqnFa f = true ∧ tokFa f = true := fun f hf => by
  have := sum_mem wFa hf
  unfold sumFa at hw
  exact fa_facts (h4 f hf) (by omega)
 unfold szBk eqnBk
 simp only [anE, dcE, List.all_eq_true]
 exact ⟨⟨⟨by omega, by omega⟩, fun t ht => (a t ht).1, fun f hf => (b f hf).1⟩, ⟨⟨by omega, fun t ht => (a t ht).2.1⟩, by omega, fun f hf => (b f hf).2.1⟩, ⟨by omega, fun t ht => (a t ht).2.2⟩, by omega, fun f hf => (b f hf).2.2⟩
abbrev Lqe0 : FuncId → Option Ent := look [(9, .rd1 szBkG), (11, .rd1 toBkG), (10, .rd1 gbkSG), (12, .rd1 gbkG), (13, .rd1 eqBkG)]
theorem law_tree0 (ts : List Tp) (fs : List Fa) : funK Tryz.prog Lqe0 (look []) Tryz.f3 [.agg [.sl TPd ts, .sl FNd fs]] [] =
 ((ifT (decide ((0 : Int) ≤ (1048576 : Int) ∧ (1048576 : Int) ≤ (1048576 : Int)) && okBk (ts, fs, ())) (ifB (decide ((1048576 : Int) - (↑(wBk (ts, fs, ())) : Int) < (0 :
 Int))) (some (V.b true, [])) (ifB (decide ((1048576 : Int) - (↑(wBk (ts, fs, ())) : Int) < (0 : Int))) (some (V.b true, [])) (ifT (decide (ts.length ≤ (1000000000 : Nat))
 && ts.all tokTp && (decide (fs.length ≤ (1000000000 : Nat)) && fs.all tokFa)) (ifT (szBk (List.take ts.length (List.drop (0 : Nat) ts)) (List.take fs.length (List.drop (0
 : Nat) fs))) (ifT (decide (ts.length ≤ (1000000000 : Nat)) && ts.all tokTp && (decide (fs.length ≤ (1000000000 : Nat)) && fs.all tokFa)) (ifT (szBk (List.take ts.length
 (List.drop (0 : Nat) ts)) (List.take fs.length (List.drop (0 : Nat) fs))) (ifB (!goodBk (List.take ts.length (List.drop (0 : Nat) ts)) (List.take fs.length (List.drop (0
 : Nat) fs)) == goodBkS (List.take ts.length (List.drop (0 : Nat) ts)) (List.take fs.length (List.drop (0 : Nat) fs))) (some (V.b false, [])) (ifT (decide (ts.length ≤
 (1000000000 : Nat)) && ts.all tokTp && (decide (fs.length ≤ (1000000000 : Nat)) && fs.all tokFa)) (ifT (eqnBk (List.take ts.length (List.drop (0 : Nat) ts), List.take
 fs.length (List.drop (0 : Nat) fs), ())) (ifB (!eqBk (List.take ts.length (List.drop (0 : Nat) ts), List.take fs.length (List.drop (0 : Nat) fs), ()) (List.take ts.length
 (List.drop (0 : Nat) ts), List.take fs.length (List.drop (0 : Nat) fs), ())) (some (V.b false, [])) (some (V.b true, []))))))))))))) : _) := by kernel_rfl
theorem eqNt_refl (x : Nt) : eqNt x x = true := by unfold eqNt; simp
theorem eqTy_refl (x : Ty) : eqTy x x = true := by unfold eqTy; simp
theorem eqWt_refl (x : Wt) : eqWt x x = true := by unfold eqWt; simp
theorem eqTp_refl (x : Tp) : eqTp x x = true := by
 unfold eqTp eqSch
 rw [eqL_refl fun y _ => eqTy_refl y]; simp
theorem eqFa_refl (x : Fa) : eqFa x x = true := by
 unfold eqFa eqFil eqSch
 rw [eqL_refl fun y _ => eqTy_refl y, eqL_refl fun y _ => eqWt_refl y, eqL_refl fun y _ => eqNt_refl y]; simp
theorem eqBk_refl (ts : List Tp) (fs : List Fa) : eqBk (ts, fs, ()) (ts, fs, ()) = true := by
 unfold eqBk
 rw [eqL_refl fun y _ => eqTp_refl y, eqL_refl fun y _ => eqFa_refl y]; rfl
theorem law_knows : Knows Tryz.prog Lqe0 := (KnowsL.cons (enters_fn Tryz.func9 (by kernel_rfl) (by kernel_rfl)) szBk_con (KnowsL.cons (enters_fn Tryz.func11 (by kernel_rfl) (by kernel_rfl)) toBk_con (KnowsL.cons (enters_fn Tryz.func10 (by kernel_rfl) (by kernel_rfl)) sgoodbk (KnowsL.cons (enters_fn Tryz.func12 (by kernel_rfl) (by kernel_rfl)) igoodbk (KnowsL.cons (enters_fn Tryz.func13 (by kernel_rfl) (by kernel_rfl)) eqBk_con KnowsL.nil))))).knows
theorem law_fun (ts : List Tp) (fs : List Fa) (ho : okBk (ts, fs, ()) = true) : funK Tryz.prog Lqe0 (look []) Tryz.f3 [.agg [.sl TPd ts, .sl FNd fs]] [] = some (.b true, []) := by
 rw [law_tree0, ifT_true (by rw [anE]; exact ⟨dcT ⟨by omega, by omega⟩, ho⟩)]
 by_cases q : 1048576 - (wBk (ts, fs, ()) : Int) < 0
 ·rw [ifB_true (dcT q)]
 ·obtain ⟨h1, h2, h3⟩ := bk_facts ho (by omega)
  rw [ifB_false (dcF q), ifB_false (dcF q)]
  simp only [List.drop_zero, List.take_length]
  rw [ifT_true h3, ifT_true h1, ifT_true h3, ifT_true h1, good_eq17, beq_self_eq_true, Bool.not_true, ifB_f, ifT_true h3, ifT_true h2, eqBk_refl]
  rfl
theorem law_loops : LoopsOk Tryz.prog Lqe0 (look []) 0 (Tryz.f3.body.getD .skip) := loopsOk_nil _
theorem ok_of {z : (Cd.den (.pair (.slice TPd) (.pair (.slice FNd) .unit)))} (g : Good (.pair (.slice TPd) (.pair (.slice FNd) .unit)) z) : okBk (z.1, z.2.1, ()) = true := by
 have hT : ∀ l : List Ty, Good (.slice TCd) l → okTys l = true := fun l h => by
  unfold okTys
  rw [anE, dcE, List.all_eq_true]
  refine ⟨h.1, fun x hx => ?_⟩
  unfold okTy
  exact dcT (h.2 x hx).2.1
 have hW : ∀ l : List Wt, Good (.slice WCd) l → okWts l = true := fun l h => by
  unfold okWts
  rw [anE, dcE, List.all_eq_true]
  refine ⟨h.1, fun x hx => ?_⟩
  unfold okWt
  exact dcT (h.2 x hx).2.2.2.1
 have hN : ∀ l : List Nt, Good (.slice NTd) l → okNts l = true := fun l h => by
  unfold okNts
  rw [anE, dcE, List.all_eq_true]
  refine ⟨h.1, fun x hx => ?_⟩
  unfold okNt
  exact dcT ⟨(h.2 x hx).1, (h.2 x hx).2.2.1⟩
 unfold okBk okTps okFas
 simp only [anE, dcE, List.all_eq_true]
 refine ⟨⟨g.1.1, fun t ht => ?_⟩, g.2.1.1, fun f hf => ?_⟩
 ·have h := g.1.2 t ht
  unfold okTp okSch
  rw [anE, dcE]
  exact ⟨h.1, hT _ h.2.1.1⟩
 ·have h := g.2.1.2 f hf
  unfold okFa okFil okSch
  simp only [anE, dcE]
  exact ⟨h.2.1, hW _ h.2.2.1.1, hT _ h.2.2.2.1.1, hN _ h.2.2.2.2.1⟩

end Go.Proofs.YtcjnmdcagfgjoaaGreatDoor.Den
