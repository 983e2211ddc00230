/- What functions of the program do, by the machine: Wi2 PrL Pr12 Wi3 Wi4 Wi5 Pr16 Pr17 Pr13. -/
import Derived.Test.YtfkoljiioikdfaaDA
import Derived.KernelRfl
import Derived.Test.YtfkoljiioikdfaaRows
namespace Go.Proofs.Ytfkoljiioikdfaa.Den
open Go.Proofs
set_option maxRecDepth 100000
/-- A field: its number, kind, number told, bytes. -/
abbrev WFd := Int × Int × Int × List UInt8 × Unit
abbrev Pl := WFd × Int × Unit
def unf (n : Int) : Int := if n % 2 = 1 then -((n + 1) / 2) else n / 2
def fieldB (f : WFd) : Bool := (decide (1 ≤ f.1) && decide (f.1 ≤ 30)) && (if f.2.1 = 0 then numB f.2.2.1 && f.2.2.2.1 == [] else if f.2.1 = 2 then f.2.2.1 == 0 else false)
/-- Bytes with their length ahead: they, where they end, whether they are right. -/
def tbAt (s : List UInt8) (a : Nat) : List UInt8 × Int × Bool :=
  let u := tvAt s a
  if tvI3 u = true ∧ tvI1 u ≤ s.length - tvI2 a u then ((s.drop (tvI2 a u).toNat).take (tvI1 u).toNat, tvI2 a u + tvI1 u, true) else ([], 0, false)
/-- The field that begins at a place, where it ends, whether it is right. -/
def tfAt (s : List UInt8) (a : Nat) : WFd × Int × Int × Bool :=
  let t := tvAt s a
  if tvI3 t = false then ((0, 0, 0, [], ()), 0, 0, false)
  else if tvI1 t % 8 = 2 then
    let b := tbAt s (tvI2 a t).toNat
    ((tvI1 t / 8, 2, 0, b.1, ()), a, b.2.1, b.2.2 && fieldB (tvI1 t / 8, 2, 0, b.1, ()))
  else
    let u := tvAt s (tvI2 a t).toNat
    ((tvI1 t / 8, tvI1 t % 8, unf (tvI1 u), [], ()), a, tvI2 (tvI2 a t).toNat u, tvI3 u && fieldB (tvI1 t / 8, tvI1 t % 8, unf (tvI1 u), [], ()))
def unfG : List V → List Blk → Br (V × List (Option Blk))
  | [.i .i64 n], [] => .need (decide (0 ≤ n ∧ n ≤ 1000000000000)) (.leaf (.i .i64 (unf n), []))
  | _, _ => .no
def fieldG : List V → List Blk → Br (V × List (Option Blk))
  | [.agg [.i .i64 f0, .i .i64 f1, .i .i64 f2, .s f3]], [] => .leaf (.b (fieldB (f0, f1, f2, f3, ())), [])
  | _, _ => .no
def tbG : List V → List Blk → Br (V × List (Option Blk))
  | [.s s, .i .i64 a], [] => .need (decide (0 ≤ a ∧ s.length ≤ 4000000000 ∧ a ≤ 4000000000)) (.leaf (.tup [.s (tbAt s a.toNat).1, .i .i64 (tbAt s a.toNat).2.1, .b (tbAt s a.toNat).2.2], []))
  | _, _ => .no
def tfG : List V → List Blk → Br (V × List (Option Blk))
  | [.s s, .i .i64 a], [] => .need (decide (0 ≤ a ∧ s.length ≤ 4000000000 ∧ a ≤ 4000000000)) (.leaf (.tup [.agg [.i .i64 (tfAt s a.toNat).1.1, .i .i64 (tfAt s a.toNat).1.2.1, .i .i64 (tfAt s a.toNat).1.2.2.1, .s (tfAt s a.toNat).1.2.2.2.1, .i .i64 (tfAt s a.toNat).2.1], .i .i64 (tfAt s a.toNat).2.2.1, .b (tfAt s a.toNat).2.2.2], []))
  | _, _ => .no

theorem iunf_tree (n : Int) : funK Try.prog (look []) (look []) Try.f207 [.i .i64 n] [] =
  ((ifB (n.tmod (2 : Int) == (1 : Int)) (some (V.i .i64 (IntKind.i64.wrap ((IntKind.i64.wrap ((0 : Int) - IntKind.i64.wrap (n + (1 : Int)))).tdiv (2 : Int))), [])) (some (V.i
 .i64 (IntKind.i64.wrap (n.tdiv (2 : Int))), []))) : _) := by kernel_rfl
theorem iunf_fun (n : Int) (hc : 0 ≤ n ∧ n ≤ 1000000000000) : funK Try.prog (look []) (look []) Try.f207 [.i .i64 n] [] = (.leaf (.i .i64 (unf n), []) : Br (V × List (Option Blk))).run := by
  rw [iunf_tree]
  unfold unf
  have h1 : Int.tmod n 2 = n % 2 := Int.tmod_eq_emod_of_nonneg hc.1
  have h2 : Int.tdiv n 2 = n / 2 := Int.tdiv_eq_ediv_of_nonneg hc.1
  have h3 : IntKind.i64.wrap (n + 1) = n + 1 := wrap_id (by omega) (by omega)
  have h4 : IntKind.i64.wrap (0 - (n + 1)) = -(n + 1) := by rw [wrap_id (by omega) (by omega)]; omega
  have h5 : Int.tdiv (-(n + 1)) 2 = -((n + 1) / 2) := by rw [Int.neg_tdiv, Int.tdiv_eq_ediv_of_nonneg (by omega)]
  rw [h1, h2, h3, h4, h5]
  rw [wrap_id (n := n / 2) (by omega) (by omega), wrap_id (n := -((n + 1) / 2)) (by omega) (by omega)]
  by_cases q : n % 2 = 1
  · rw [ifB_true (by simpa using q), if_pos q]; rfl
  · rw [ifB_false (by simpa using q), if_neg q]; rfl
theorem iunf : Contract Try.prog 207 (Ent.rd1 unfG).F := by
  refine fun_contract' KnowsL.nil.knows (Λ := look []) Try.func207 (c := Try.f207.body.getD .skip) (by kernel_rfl) fun vs bs r' hq hv hb => ?_
  unfold Ent.F unfG at hq
  dsimp only at hq
  split at hq
  · rename_i n
    obtain ⟨hc, hx⟩ := need_some hq
    exact ⟨loopsOk_nil _, (iunf_fun n (of_decide_eq_true hc)).trans hx⟩
  · cases hq
theorem sunf_tree (n : Int) : funK Try.prog (look []) (look []) Try.f210 [.i .i64 n] [] =
  ((ifB (n.tmod (2 : Int) == (0 : Int)) (some (V.i .i64 (IntKind.i64.wrap (n.tdiv (2 : Int))), [])) (some (V.i .i64 (IntKind.i64.wrap ((IntKind.i64.wrap ((0 : Int) -
 IntKind.i64.wrap (n + (1 : Int)))).tdiv (2 : Int))), []))) : _) := by kernel_rfl
theorem sunf_fun (n : Int) (hc : 0 ≤ n ∧ n ≤ 1000000000000) : funK Try.prog (look []) (look []) Try.f210 [.i .i64 n] [] = (.leaf (.i .i64 (unf n), []) : Br (V × List (Option Blk))).run := by
  rw [sunf_tree]
  unfold unf
  have h1 : Int.tmod n 2 = n % 2 := Int.tmod_eq_emod_of_nonneg hc.1
  have h2 : Int.tdiv n 2 = n / 2 := Int.tdiv_eq_ediv_of_nonneg hc.1
  have h3 : IntKind.i64.wrap (n + 1) = n + 1 := wrap_id (by omega) (by omega)
  have h4 : IntKind.i64.wrap (0 - (n + 1)) = -(n + 1) := by rw [wrap_id (by omega) (by omega)]; omega
  have h5 : Int.tdiv (-(n + 1)) 2 = -((n + 1) / 2) := by rw [Int.neg_tdiv, Int.tdiv_eq_ediv_of_nonneg (by omega)]
  rw [h1, h2, h3, h4, h5]
  rw [wrap_id (n := n / 2) (by omega) (by omega), wrap_id (n := -((n + 1) / 2)) (by omega) (by omega)]
  by_cases q : n % 2 = 1
  · rw [ifB_false (by rw [q]; rfl), if_pos q]; rfl
  · rw [ifB_true (by have : n % 2 = 0 := by omega
                     rw [this]; rfl), if_neg q]; rfl
theorem sunf : Contract Try.prog 210 (Ent.rd1 unfG).F := by
  refine fun_contract' KnowsL.nil.knows (Λ := look []) Try.func210 (c := Try.f210.body.getD .skip) (by kernel_rfl) fun vs bs r' hq hv hb => ?_
  unfold Ent.F unfG at hq
  dsimp only at hq
  split at hq
  · rename_i n
    obtain ⟨hc, hx⟩ := need_some hq
    exact ⟨loopsOk_nil _, (sunf_fun n (of_decide_eq_true hc)).trans hx⟩
  · cases hq
theorem ifield_tree (f0 f1 f2 : Int) (f3 : List UInt8) : funK Try.prog (look [(66, .rd1 withinG), (164, .rd1 numG)]) (look []) Try.f208 [.agg [.i .i64 f0, .i .i64 f1, .i .i64 f2, .s f3]] [] =
  ((ifB (!decide ((1 : Int) ≤ f0 ∧ f0 ≤ (30 : Int))) (some (V.b false, [])) (ifB (f1 == (0 : Int)) (ifB (numB f2) (some (V.b (f3 == nilT UInt8), [])) (some (V.b false, [])))
 (ifB (f1 == (2 : Int)) (some (V.b (f2 == (0 : Int)), [])) (some (V.b false, []))))) : _) := by kernel_rfl
theorem ifield_fun (f0 f1 f2 : Int) (f3 : List UInt8) : funK Try.prog (look [(66, .rd1 withinG), (164, .rd1 numG)]) (look []) Try.f208 [.agg [.i .i64 f0, .i .i64 f1, .i .i64 f2, .s f3]] [] = (.leaf (.b (fieldB (f0, f1, f2, f3, ())), []) : Br (V × List (Option Blk))).run := by
  rw [ifield_tree]
  unfold fieldB
  dsimp only
  have d1 : decide (1 ≤ f0 ∧ f0 ≤ 30) = (decide (1 ≤ f0) && decide (f0 ≤ 30)) := Bool.decide_and ..
  rw [d1]
  cases hA : (decide (1 ≤ f0) && decide (f0 ≤ 30)) with
  | false => rfl
  | true =>
    rw [Bool.not_true, ifB_f]
    by_cases q : f1 = 0
    · rw [ifB_true (by simpa using q), if_pos q]
      cases numB f2 <;> rfl
    · rw [ifB_false (by simpa using q), if_neg q]
      by_cases q2 : f1 = 2
      · rw [ifB_true (by simpa using q2), if_pos q2]; rfl
      · rw [ifB_false (by simpa using q2), if_neg q2]; rfl
theorem ifield : Contract Try.prog 208 (Ent.rd1 fieldG).F := by
  refine fun_contract' (KnowsL.cons (enters_fn Try.func66 (by kernel_rfl) (by kernel_rfl)) within (KnowsL.cons (enters_fn Try.func164 (by kernel_rfl) (by kernel_rfl)) numOK KnowsL.nil)).knows (Λ := look []) Try.func208 (c := Try.f208.body.getD .skip) (by kernel_rfl) fun vs bs r' hq hv hb => ?_
  unfold Ent.F fieldG at hq
  dsimp only at hq
  split at hq
  · rename_i f0 f1 f2 f3
    exact ⟨loopsOk_nil _, (ifield_fun f0 f1 f2 f3).trans hq⟩
  · cases hq
theorem sfield_tree (f0 f1 f2 : Int) (f3 : List UInt8) : funK Try.prog (look [(111, .rd1 withinG), (165, .rd1 numG)]) (look []) Try.f181 [.agg [.i .i64 f0, .i .i64 f1, .i .i64 f2, .s f3]] [] =
  ((ifB (!decide ((1 : Int) ≤ f0 ∧ f0 ≤ (30 : Int))) (some (V.b false, [])) (ifB (f1 == (0 : Int)) (ifB (numB f2) (some (V.b (f3 == nilT UInt8), [])) (some (V.b false, [])))
 (ifB (f1 == (2 : Int)) (some (V.b (f2 == (0 : Int)), [])) (some (V.b false, []))))) : _) := by kernel_rfl
theorem sfield_fun (f0 f1 f2 : Int) (f3 : List UInt8) : funK Try.prog (look [(111, .rd1 withinG), (165, .rd1 numG)]) (look []) Try.f181 [.agg [.i .i64 f0, .i .i64 f1, .i .i64 f2, .s f3]] [] = (.leaf (.b (fieldB (f0, f1, f2, f3, ())), []) : Br (V × List (Option Blk))).run := by
  rw [sfield_tree]
  unfold fieldB
  dsimp only
  have d1 : decide (1 ≤ f0 ∧ f0 ≤ 30) = (decide (1 ≤ f0) && decide (f0 ≤ 30)) := Bool.decide_and ..
  rw [d1]
  cases hA : (decide (1 ≤ f0) && decide (f0 ≤ 30)) with
  | false => rfl
  | true =>
    rw [Bool.not_true, ifB_f]
    by_cases q : f1 = 0
    · rw [ifB_true (by simpa using q), if_pos q]
      cases numB f2 <;> rfl
    · rw [ifB_false (by simpa using q), if_neg q]
      by_cases q2 : f1 = 2
      · rw [ifB_true (by simpa using q2), if_pos q2]; rfl
      · rw [ifB_false (by simpa using q2), if_neg q2]; rfl
theorem sfield : Contract Try.prog 181 (Ent.rd1 fieldG).F := by
  refine fun_contract' (KnowsL.cons (enters_fn Try.func111 (by kernel_rfl) (by kernel_rfl)) l1In (KnowsL.cons (enters_fn Try.func165 (by kernel_rfl) (by kernel_rfl)) l1Num KnowsL.nil)).knows (Λ := look []) Try.func181 (c := Try.f181.body.getD .skip) (by kernel_rfl) fun vs bs r' hq hv hb => ?_
  unfold Ent.F fieldG at hq
  dsimp only at hq
  split at hq
  · rename_i f0 f1 f2 f3
    exact ⟨loopsOk_nil _, (sfield_fun f0 f1 f2 f3).trans hq⟩
  · cases hq
theorem tv_any (s : List UInt8) (a : Nat) : (0 ≤ tvI1 (tvAt s a) ∧ tvI1 (tvAt s a) ≤ 34359738368) ∧ 0 ≤ tvI2 a (tvAt s a) ∧ tvI2 a (tvAt s a) ≤ s.length := by
  cases e : tvAt s a with
  | none => exact ⟨⟨by decide, by decide⟩, Int.le_refl 0, Int.natCast_nonneg _⟩
  | some x =>
    obtain ⟨n, k, ok⟩ := x
    obtain ⟨h1, h2, h3, h4⟩ := tvAt_facts e
    dsimp only at h1 h2 h3 h4
    refine ⟨⟨?_, ?_⟩, ?_, ?_⟩
    · show (0 : Int) ≤ (n : Int); omega
    · show (n : Int) ≤ 34359738368; omega
    · show (0 : Int) ≤ ((a + k : Nat) : Int); omega
    · show ((a + k : Nat) : Int) ≤ (s.length : Int); omega
theorem tv_end {s : List UInt8} {a : Nat} (h : tvI3 (tvAt s a) = true) : (a : Int) < tvI2 a (tvAt s a) ∧ tvI2 a (tvAt s a) ≤ s.length := by
  refine ⟨?_, (tv_any s a).2.2⟩
  cases e : tvAt s a with
  | none => rw [e] at h; cases h
  | some x =>
    obtain ⟨n, k, ok⟩ := x
    obtain ⟨h1, h2, h3, h4⟩ := tvAt_facts e
    show (a : Int) < ((a + k : Nat) : Int)
    dsimp only at h2
    omega
theorem itb_tree (s : List UInt8) (a : Int) : funK Try.prog (look [(205, .rd1 tviG)]) (look []) Try.f206 [.s s, .i .i64 a] [] =
  ((ifT (decide ((0 : Int) ≤ a ∧ s.length ≤ (4000000000 : Nat) ∧ a ≤ (4000000000 : Int))) (ifB (!tvI3 (tvAt s a.toNat)) (some (V.tup [V.s (nilT UInt8), V.i .i64 0, V.b false],
 [])) (ifB (decide (tvI1 (tvAt s a.toNat) > IntKind.i64.wrap ((↑s.length : Int) - tvI2 a.toNat (tvAt s a.toNat)))) (some (V.tup [V.s (nilT UInt8), V.i .i64 0, V.b false],
 [])) (ifT (decide ((0 : Int) ≤ tvI2 a.toNat (tvAt s a.toNat)) && decide (tvI2 a.toNat (tvAt s a.toNat) ≤ IntKind.i64.wrap (tvI2 a.toNat (tvAt s a.toNat) + tvI1 (tvAt s
 a.toNat))) && decide (IntKind.i64.wrap (tvI2 a.toNat (tvAt s a.toNat) + tvI1 (tvAt s a.toNat)) ≤ (↑s.length : Int))) (some (V.tup [V.s (List.take ((IntKind.i64.wrap (tvI2
 a.toNat (tvAt s a.toNat) + tvI1 (tvAt s a.toNat))).toNat - (tvI2 a.toNat (tvAt s a.toNat)).toNat) (List.drop (tvI2 a.toNat (tvAt s a.toNat)).toNat s)), V.i .i64
 (IntKind.i64.wrap (tvI2 a.toNat (tvAt s a.toNat) + tvI1 (tvAt s a.toNat))), V.b true], [])))))) : _) := by kernel_rfl
theorem itb_fun (s : List UInt8) (a : Int) (hc : 0 ≤ a ∧ s.length ≤ 4000000000 ∧ a ≤ 4000000000) : funK Try.prog (look [(205, .rd1 tviG)]) (look []) Try.f206 [.s s, .i .i64 a] [] = (.leaf (.tup [.s (tbAt s a.toNat).1, .i .i64 (tbAt s a.toNat).2.1, .b (tbAt s a.toNat).2.2], []) : Br (V × List (Option Blk))).run := by
  rw [itb_tree]
  obtain ⟨h1, h2, h3⟩ := hc
  obtain ⟨a, rfl⟩ := Int.eq_ofNat_of_zero_le h1
  simp only [Int.toNat_natCast]
  obtain ⟨⟨u1, u2⟩, u3, u4⟩ := tv_any s a
  rw [ifT_true (decide_eq_true ⟨h1, h2, h3⟩)]
  unfold tbAt
  dsimp only
  have w1 : IntKind.i64.wrap ((s.length : Int) - tvI2 a (tvAt s a)) = (s.length : Int) - tvI2 a (tvAt s a) := wrap_id (by omega) (by omega)
  have w2 : IntKind.i64.wrap (tvI2 a (tvAt s a) + tvI1 (tvAt s a)) = tvI2 a (tvAt s a) + tvI1 (tvAt s a) := wrap_id (by omega) (by omega)
  simp only [w1, w2]
  cases hk : tvI3 (tvAt s a) with
  | false => rw [Bool.not_false, ifB_t, if_neg (fun h => by cases h.1)]; rfl
  | true =>
    rw [Bool.not_true, ifB_f]
    by_cases q : tvI1 (tvAt s a) ≤ s.length - tvI2 a (tvAt s a)
    · rw [ifB_false (decide_eq_false (by omega)), if_pos ⟨rfl, q⟩, ifT_true (by simp only [Bool.and_eq_true, decide_eq_true_eq]; omega)]
      have e : (tvI2 a (tvAt s a) + tvI1 (tvAt s a)).toNat - (tvI2 a (tvAt s a)).toNat = (tvI1 (tvAt s a)).toNat := by omega
      rw [e]; rfl
    · rw [ifB_true (decide_eq_true (by omega)), if_neg (fun h => q h.2)]; rfl
theorem itb : Contract Try.prog 206 (Ent.rd1 tbG).F := by
  refine fun_contract' (KnowsL.cons (enters_fn Try.func205 (by kernel_rfl) (by kernel_rfl)) tvi KnowsL.nil).knows (Λ := look []) Try.func206 (c := Try.f206.body.getD .skip) (by kernel_rfl) fun vs bs r' hq hv hb => ?_
  unfold Ent.F tbG at hq
  dsimp only at hq
  split at hq
  · rename_i s a
    obtain ⟨hc, hx⟩ := need_some hq
    exact ⟨loopsOk_nil _, (itb_fun s a (of_decide_eq_true hc)).trans hx⟩
  · cases hq
theorem itf_tree (s : List UInt8) (a : Int) : funK Try.prog (look [(205, .rd1 tviG), (206, .rd1 tbG), (207, .rd1 unfG), (208, .rd1 fieldG)]) (look []) Try.f183 [.s s, .i .i64 a] [] =
  ((ifT (decide ((0 : Int) ≤ a ∧ s.length ≤ (4000000000 : Nat) ∧ a ≤ (4000000000 : Int))) (ifB (!tvI3 (tvAt s a.toNat)) (some (V.tup [V.agg [V.i .i64 0, V.i .i64 0, V.i .i64
 0, V.s (nilT UInt8), V.i .i64 0], V.i .i64 0, V.b false], [])) (ifB ((tvI1 (tvAt s a.toNat)).tmod (8 : Int) == (2 : Int)) (ifT (decide ((0 : Int) ≤ tvI2 a.toNat (tvAt s
 a.toNat) ∧ s.length ≤ (4000000000 : Nat) ∧ tvI2 a.toNat (tvAt s a.toNat) ≤ (4000000000 : Int))) (ifB (tbAt s (tvI2 a.toNat (tvAt s a.toNat)).toNat).snd.snd (some (V.tup
 [V.agg [V.i .i64 (IntKind.i64.wrap ((tvI1 (tvAt s a.toNat)).tdiv (8 : Int))), V.i .i64 ((tvI1 (tvAt s a.toNat)).tmod (8 : Int)), V.i .i64 0, V.s (tbAt s (tvI2 a.toNat
 (tvAt s a.toNat)).toNat).fst, V.i .i64 a], V.i .i64 (tbAt s (tvI2 a.toNat (tvAt s a.toNat)).toNat).snd.fst, V.b (fieldB (IntKind.i64.wrap ((tvI1 (tvAt s a.toNat)).tdiv (8
 : Int)), (tvI1 (tvAt s a.toNat)).tmod (8 : Int), (0 : Int), (tbAt s (tvI2 a.toNat (tvAt s a.toNat)).toNat).fst, ()))], [])) (some (V.tup [V.agg [V.i .i64
 (IntKind.i64.wrap ((tvI1 (tvAt s a.toNat)).tdiv (8 : Int))), V.i .i64 ((tvI1 (tvAt s a.toNat)).tmod (8 : Int)), V.i .i64 0, V.s (tbAt s (tvI2 a.toNat (tvAt s
 a.toNat)).toNat).fst, V.i .i64 a], V.i .i64 (tbAt s (tvI2 a.toNat (tvAt s a.toNat)).toNat).snd.fst, V.b false], [])))) (ifT (decide ((0 : Int) ≤ tvI2 a.toNat (tvAt s
 a.toNat) ∧ s.length ≤ (4000000000 : Nat) ∧ tvI2 a.toNat (tvAt s a.toNat) ≤ (4000000000 : Int))) (ifT (decide ((0 : Int) ≤ tvI1 (tvAt s (tvI2 a.toNat (tvAt s
 a.toNat)).toNat) ∧ tvI1 (tvAt s (tvI2 a.toNat (tvAt s a.toNat)).toNat) ≤ (1000000000000 : Int))) (ifB (tvI3 (tvAt s (tvI2 a.toNat (tvAt s a.toNat)).toNat)) (some (V.tup
 [V.agg [V.i .i64 (IntKind.i64.wrap ((tvI1 (tvAt s a.toNat)).tdiv (8 : Int))), V.i .i64 ((tvI1 (tvAt s a.toNat)).tmod (8 : Int)), V.i .i64 (unf (tvI1 (tvAt s (tvI2 a.toNat
 (tvAt s a.toNat)).toNat))), V.s (nilT UInt8), V.i .i64 a], V.i .i64 (tvI2 (tvI2 a.toNat (tvAt s a.toNat)).toNat (tvAt s (tvI2 a.toNat (tvAt s a.toNat)).toNat)), V.b
 (fieldB (IntKind.i64.wrap ((tvI1 (tvAt s a.toNat)).tdiv (8 : Int)), (tvI1 (tvAt s a.toNat)).tmod (8 : Int), unf (tvI1 (tvAt s (tvI2 a.toNat (tvAt s a.toNat)).toNat)),
 nilT UInt8, ()))], [])) (some (V.tup [V.agg [V.i .i64 (IntKind.i64.wrap ((tvI1 (tvAt s a.toNat)).tdiv (8 : Int))), V.i .i64 ((tvI1 (tvAt s a.toNat)).tmod (8 : Int)), V.i
 .i64 (unf (tvI1 (tvAt s (tvI2 a.toNat (tvAt s a.toNat)).toNat))), V.s (nilT UInt8), V.i .i64 a], V.i .i64 (tvI2 (tvI2 a.toNat (tvAt s a.toNat)).toNat (tvAt s (tvI2
 a.toNat (tvAt s a.toNat)).toNat)), V.b false], [])))))))) : _) := by kernel_rfl
theorem itf_fun (s : List UInt8) (a : Int) (hc : 0 ≤ a ∧ s.length ≤ 4000000000 ∧ a ≤ 4000000000) : funK Try.prog (look [(205, .rd1 tviG), (206, .rd1 tbG), (207, .rd1 unfG), (208, .rd1 fieldG)]) (look []) Try.f183 [.s s, .i .i64 a] [] = (.leaf (.tup [.agg [.i .i64 (tfAt s a.toNat).1.1, .i .i64 (tfAt s a.toNat).1.2.1, .i .i64 (tfAt s a.toNat).1.2.2.1, .s (tfAt s a.toNat).1.2.2.2.1, .i .i64 (tfAt s a.toNat).2.1], .i .i64 (tfAt s a.toNat).2.2.1, .b (tfAt s a.toNat).2.2.2], []) : Br (V × List (Option Blk))).run := by
  rw [itf_tree]
  obtain ⟨h1, h2, h3⟩ := hc
  obtain ⟨a, rfl⟩ := Int.eq_ofNat_of_zero_le h1
  simp only [Int.toNat_natCast]
  obtain ⟨⟨u1, u2⟩, u3, u4⟩ := tv_any s a
  obtain ⟨⟨v1, v2⟩, v3, v4⟩ := tv_any s (tvI2 a (tvAt s a)).toNat
  have e1 : Int.tdiv (tvI1 (tvAt s a)) 8 = tvI1 (tvAt s a) / 8 := Int.tdiv_eq_ediv_of_nonneg u1
  have e2 : Int.tmod (tvI1 (tvAt s a)) 8 = tvI1 (tvAt s a) % 8 := Int.tmod_eq_emod_of_nonneg u1
  have e3 : IntKind.i64.wrap (tvI1 (tvAt s a) / 8) = tvI1 (tvAt s a) / 8 := wrap_id (by omega) (by omega)
  rw [ifT_true (decide_eq_true ⟨h1, h2, h3⟩)]
  simp only [e1, e2, e3]
  unfold tfAt
  dsimp only
  cases hk : tvI3 (tvAt s a) with
  | false => rw [Bool.not_false, ifB_t, if_pos rfl]; rfl
  | true =>
    rw [Bool.not_true, ifB_f, if_neg (by simp)]
    have hd : decide (0 ≤ tvI2 a (tvAt s a) ∧ s.length ≤ 4000000000 ∧ tvI2 a (tvAt s a) ≤ 4000000000) = true := decide_eq_true ⟨u3, h2, by omega⟩
    by_cases q : tvI1 (tvAt s a) % 8 = 2
    · rw [ifB_true (by simpa using q), if_pos q, q, hd, ifT_t]
      cases hb : (tbAt s (tvI2 a (tvAt s a)).toNat).2.2 <;> rfl
    · rw [ifB_false (by simpa using q), if_neg q, hd, ifT_t, ifT_true (decide_eq_true ⟨v1, by omega⟩)]
      cases hb : tvI3 (tvAt s (tvI2 a (tvAt s a)).toNat) <;> rfl
theorem itf : Contract Try.prog 183 (Ent.rd1 tfG).F := by
  refine fun_contract' (KnowsL.cons (enters_fn Try.func205 (by kernel_rfl) (by kernel_rfl)) tvi (KnowsL.cons (enters_fn Try.func206 (by kernel_rfl) (by kernel_rfl)) itb (KnowsL.cons (enters_fn Try.func207 (by kernel_rfl) (by kernel_rfl)) iunf (KnowsL.cons (enters_fn Try.func208 (by kernel_rfl) (by kernel_rfl)) ifield KnowsL.nil)))).knows (Λ := look []) Try.func183 (c := Try.f183.body.getD .skip) (by kernel_rfl) fun vs bs r' hq hv hb => ?_
  unfold Ent.F tfG at hq
  dsimp only at hq
  split at hq
  · rename_i s a
    obtain ⟨hc, hx⟩ := need_some hq
    exact ⟨loopsOk_nil _, (itf_fun s a (of_decide_eq_true hc)).trans hx⟩
  · cases hq
theorem tf_ok {s : List UInt8} {a : Nat} (h : (tfAt s a).2.2.2 = true) : fieldB (tfAt s a).1 = true ∧ (a : Int) < (tfAt s a).2.2.1 ∧ (tfAt s a).2.2.1 ≤ s.length ∧ (tfAt s a).2.1 = a := by
  have ha : ∀ {x : Int}, (0 : Int) ≤ x → ((x.toNat : Nat) : Int) = x := fun h => by omega
  unfold tfAt at h ⊢
  dsimp only at h ⊢
  cases hk : tvI3 (tvAt s a) with
  | false => rw [hk] at h; cases h
  | true =>
    have t1 := tv_end hk
    have t2 := ha (x := tvI2 a (tvAt s a)) (by omega)
    rw [hk, if_neg (by simp)] at h
    rw [if_neg (by simp)]
    by_cases q : tvI1 (tvAt s a) % 8 = 2
    · rw [if_pos q] at h ⊢
      dsimp only at h ⊢
      rw [Bool.and_eq_true] at h
      refine ⟨h.2, ?_⟩
      have h := h.1
      unfold tbAt at h ⊢
      dsimp only at h ⊢
      split at h
      · rename_i hh
        rw [if_pos hh]
        have u := tv_end hh.1
        have v := (tv_any s (tvI2 a (tvAt s a)).toNat).1.1
        dsimp only
        exact ⟨by omega, by omega, rfl⟩
      · cases h
    · rw [if_neg q] at h ⊢
      dsimp only at h ⊢
      rw [Bool.and_eq_true] at h
      have u := tv_end h.1
      exact ⟨h.2, by omega, u.2, rfl⟩

/-- An instruction that leads elsewhere. -/
def setTo (z : Ins) (t : Int) : Ins := (z.1, z.2.1, z.2.2.1, z.2.2.2.1, z.2.2.2.2.1, t, ())
abbrev Ins.to (z : Ins) : Int := z.2.2.2.2.2.1
abbrev Ins.num (z : Ins) : Int := z.2.2.2.1
abbrev Ins.no (z : Ins) : Int := z.2.2.1
def ins0 : Ins := (0, 0, 0, 0, [], 0, ())
/-- What stands at a place. -/
def atI (l : List Ins) (k : Nat) : Ins := (l[k]?).getD ins0
def adjI (a : Nat) (m : Nat) (z : Ins) : Ins := if z.1 = 3 ∧ (a : Int) < z.to then setTo z (z.to - m) else z
/-- Without so many from a place on. -/
def cutI (l : List Ins) (a m : Nat) : List Ins := (l.take a ++ l.drop (a + m)).map (adjI a m)
/-- A program made better at a place. -/
def betB (l : List Ins) (i : Nat) : Option (List Ins) :=
  if (atI l i).1 = 4 ∧ (atI l (i + 1)).1 = 4 ∧ ledB l ((i + 1 : Nat) : Int) = false then some (cutI l i 2)
  else if (atI l i).1 = 3 ∧ (atI l (atI l i).to.toNat).1 = 3 ∧ (atI l (atI l i).to.toNat).num = (atI l i).num then some (l.set i (setTo (atI l i) (atI l (atI l i).to.toNat).to))
  else if (atI l i).1 = 1 ∧ (atI l (i + 1)).1 = 2 ∧ (atI l (i + 2)).1 = 1 ∧ (atI l (i + 2)).no = (atI l i).no ∧ ledB l ((i + 1 : Nat) : Int) = false ∧ ledB l ((i + 2 : Nat) : Int) = false then some (cutI l (i + 2) 1)
  else none
/-- How far the jumps could still be led. -/
def farI (l : List Ins) : Nat := (l.map fun z => if z.1 = 3 then 60 - z.to.toNat else 0).sum
def measI (l : List Ins) (i : Nat) : Nat := (l.length * 4000 + farI l) * 100 + (l.length - i)
def peepN : Nat → List Ins → Nat → List Ins
  | 0, l, _ => l
  | k + 1, l, i => if i < l.length then (match betB l i with | some l' => peepN k l' 0 | none => peepN k l (i + 1)) else l
def peep (l : List Ins) (i : Nat) : List Ins := peepN (measI l i) l i
/-- One instruction: where it goes on, what the flag and the place are then. -/
def nextI (fs : List WFd) (x : Ins) (a : Nat) (f : Bool) (p : Option WFd) : Nat × Bool × Option WFd :=
  if x.1 = 1 then (a + 1, f, fs.find? fun y => y.1 == x.no)
  else if x.1 = 2 then (a + 1, (match p with | some y => fldB x.2.1 x.num x.2.2.2.2.1 y.2.1 y.2.2.1 y.2.2.2.1 | none => false), p)
  else if x.1 = 3 then ((if f = (x.num == 1) then x.to.toNat else a + 1), f, p)
  else (a + 1, !f, p)
/-- What a program tells from a place on, and in how many steps. -/
def runN (fs : List WFd) (l : List Ins) : Nat → Nat → Bool → Option WFd → Bool × Nat
  | 0, _, f, _ => (f, 0)
  | k + 1, a, f, p => if 1 ≤ (atI l a).1 ∧ (atI l a).1 ≤ 4 then ((runN fs l k (nextI fs (atI l a) a f p).1 (nextI fs (atI l a) a f p).2.1 (nextI fs (atI l a) a f p).2.2).1, (runN fs l k (nextI fs (atI l a) a f p).1 (nextI fs (atI l a) a f p).2.1 (nextI fs (atI l a) a f p).2.2).2 + 1) else (f, 1)
def runI (fs : List WFd) (l : List Ins) (a : Nat) (f : Bool) (p : Option WFd) : Bool × Nat := runN fs l (l.length - a) a f p

/-- What is right of an instruction at a place. -/
def okI (n k : Nat) (z : Ins) : Prop := (z.1 = 5 ↔ (k : Int) = (n : Int) - 1) ∧ insM z.1 z.2.1 z.2.2.1 z.2.2.2.1 z.2.2.2.2.1 z.2.2.2.2.2.1 k n = true
theorem plB_iff {l : List Ins} {k : Nat} : plB l k = true ↔ ∀ z, l[k]? = some z → okI l.length k z := by
  unfold plB okI
  cases h : l[k]? with
  | none => simp
  | some z => obtain ⟨c, kd, no, nm, tx, to, ⟨⟩⟩ := z; simp
theorem goodPB_iff {l : List Ins} : goodPB l = true ↔ (1 ≤ l.length ∧ l.length ≤ 60) ∧ ∀ k z, l[k]? = some z → okI l.length k z := by
  unfold goodPB plS
  rw [Bool.and_eq_true, decide_eq_true_eq, List.drop_zero, List.all_eq_true]
  refine and_congr Iff.rfl ⟨fun h k z hz => ?_, fun h k _ => plB_iff.2 (h k)⟩
  have hk : k < l.length := (List.getElem?_eq_some_iff.1 hz).1
  exact plB_iff.1 (h k (List.mem_range.2 hk)) z hz
theorem atI_get {l : List Ins} {k : Nat} (h : k < l.length) : l[k]? = some (atI l k) := by unfold atI; rw [List.getElem?_eq_getElem h]; rfl
theorem atI_lt {l : List Ins} {k : Nat} (h : (atI l k).1 ≠ 0) : k < l.length := by
  unfold atI at h
  by_cases hk : k < l.length
  · exact hk
  · rw [List.getElem?_eq_none (by omega)] at h; exact absurd rfl h
/-- What an instruction's code tells. -/
theorem okI_jump {n k : Nat} {z : Ins} (h : okI n k z) (hz : z.1 = 3) : (k : Int) < z.to ∧ z.to < n ∧ (k : Int) ≠ (n : Int) - 1 := by
  obtain ⟨h1, h2⟩ := h
  unfold insM at h2
  have := of_decide_eq_true h2
  rw [hz] at this h1
  simp at this h1
  exact ⟨this.2.2.2.2.2.1, this.2.2.2.2.2.2, h1⟩
theorem okI_notlast {n k : Nat} {z : Ins} (h : okI n k z) (hk : k < n) (hz : z.1 ≠ 5) : k + 1 < n := by
  have := mt h.1.2 hz
  omega
/-- An instruction stays right elsewhere. -/
theorem okI_move {n k n' k' : Nat} {z : Ins} (h : okI n k z) (h5 : (k : Int) = (n : Int) - 1 ↔ (k' : Int) = (n' : Int) - 1) (h3 : z.1 ≠ 3) : okI n' k' z := by
  obtain ⟨h1, h2⟩ := h
  refine ⟨h1.trans h5, ?_⟩
  unfold insM at h2 ⊢
  have := of_decide_eq_true h2
  refine decide_eq_true ?_
  rcases this with h | h | h | h
  · exact .inl h
  · exact .inr (.inl h)
  · exact absurd h.1 h3
  · exact .inr (.inr (.inr h))
theorem okI_jump_move {n k n' k' : Nat} {z : Ins} {t : Int} (h : okI n k z) (h3 : z.1 = 3) (hn : (k' : Int) ≠ (n' : Int) - 1) (ht : (k' : Int) < t) (ht' : t < n') : okI n' k' (setTo z t) := by
  obtain ⟨h1, h2⟩ := h
  refine ⟨⟨fun h => ?_, fun h => absurd h hn⟩, ?_⟩
  · have : z.1 = 5 := h
    rw [h3] at this; exact absurd this (by decide)
  unfold insM at h2 ⊢
  have := of_decide_eq_true h2
  refine decide_eq_true ?_
  unfold setTo
  dsimp only
  rcases this with h | h | h | h
  · rw [h3] at h; exact absurd h.1 (by decide)
  · rw [h3] at h; exact absurd h.1 (by decide)
  · exact .inr (.inr (.inl ⟨h.1, h.2.1, h.2.2.1, h.2.2.2.1, h.2.2.2.2.1, h.2.2.2.2.2.1, ht, ht'⟩))
  · rw [h3] at h; rcases h.1 with h | h <;> exact absurd h (by decide)
theorem led_no {l : List Ins} {k : Nat} (h : ledB l (k : Int) = false) {j : Nat} {z : Ins} (hz : l[j]? = some z) (h3 : z.1 = 3) : z.to ≠ (k : Int) := by
  unfold ledB at h
  have h' : (l.all fun z => !isJ k z) = true := by simpa using h
  have := List.all_eq_true.1 h' z (List.mem_of_getElem? hz)
  intro e
  unfold isJ at this
  have e' : z.2.2.2.2.2.1 = (k : Int) := e
  rw [h3, e'] at this
  simp at this
theorem cutI_length {l : List Ins} {a m : Nat} (h : a + m ≤ l.length) : (cutI l a m).length = l.length - m := by
  unfold cutI; simp; omega
theorem cutI_lo {l : List Ins} {a m k : Nat} (h : a + m ≤ l.length) (hk : k < a) : (cutI l a m)[k]? = (l[k]?).map (adjI a m) := by
  unfold cutI
  rw [List.getElem?_map, List.getElem?_append_left (by simp; omega), List.getElem?_take_of_lt hk]
theorem cutI_hi {l : List Ins} {a m k : Nat} (h : a + m ≤ l.length) (hk : a ≤ k) : (cutI l a m)[k]? = (l[k + m]?).map (adjI a m) := by
  unfold cutI
  rw [List.getElem?_map, List.getElem?_append_right (by simp; omega), List.getElem?_drop]
  congr 2
  simp; omega
theorem adjI_code (a m : Nat) (z : Ins) : (adjI a m z).1 = z.1 := by unfold adjI; split <;> rfl
/-- Where a place lies after the cut. -/
def mvI (a m k : Nat) : Nat := if k < a + m then min k a else k - m
theorem adjI_not3 {a m : Nat} {z : Ins} (h : z.1 ≠ 3) : adjI a m z = z := by unfold adjI; rw [if_neg (fun hh => h hh.1)]
theorem cutI_get {l : List Ins} {a m k : Nat} {z : Ins} (h : a + m ≤ l.length) (hk : k < a ∨ a + m ≤ k) (hz : l[k]? = some z) : (cutI l a m)[mvI a m k]? = some (adjI a m z) := by
  rcases hk with hk | hk
  · have e : mvI a m k = k := by unfold mvI; rw [if_pos (by omega)]; omega
    rw [e, cutI_lo h hk, hz]; rfl
  · have e : mvI a m k = k - m := by unfold mvI; rw [if_neg (by omega)]
    rw [e, cutI_hi h (by omega), Nat.sub_add_cancel (by omega), hz]; rfl
theorem cutI_good {l : List Ins} {a m : Nat} (hg : goodPB l = true) (h : a + m < l.length) (hm : 1 ≤ m)
    (hl : ∀ (k : Nat) (z : Ins), l[k]? = some z → z.1 = 3 → z.to ≤ a ∨ (a : Int) + m ≤ z.to) : goodPB (cutI l a m) = true := by
  obtain ⟨⟨h1, h2⟩, h3⟩ := goodPB_iff.1 hg
  have hlen := cutI_length (l := l) (a := a) (m := m) (by omega)
  refine goodPB_iff.2 ⟨⟨by omega, by omega⟩, fun k z hz => ?_⟩
  rw [hlen]
  have key : ∀ j x, l[j]? = some x → (j < a ∨ a + m ≤ j) → (j : Int) = k ∧ j < a ∨ (j : Int) = k + m ∧ a ≤ k → okI (l.length - m) k (adjI a m x) := fun j x hx hj hjk => by
    have ho := h3 j x hx
    have hjl : j < l.length := (List.getElem?_eq_some_iff.1 hx).1
    by_cases c3 : x.1 = 3
    · obtain ⟨k1, k2, k3⟩ := okI_jump ho c3
      have k4 := hl j x hx c3
      unfold adjI
      by_cases ht : (a : Int) < x.to
      · rw [if_pos ⟨c3, ht⟩]
        exact okI_jump_move ho c3 (by omega) (by omega) (by omega)
      · rw [if_neg (fun hh => ht hh.2)]
        have : x = setTo x x.to := rfl
        rw [this]
        exact okI_jump_move ho c3 (by omega) (by omega) (by omega)
    · rw [adjI_not3 c3]
      exact okI_move ho (by omega) c3
  by_cases hk : k < a
  · rw [cutI_lo (by omega) hk] at hz
    obtain ⟨x, hx, rfl⟩ := Option.map_eq_some_iff.1 hz
    exact key k x hx (.inl hk) (.inl ⟨rfl, hk⟩)
  · rw [cutI_hi (by omega) (by omega)] at hz
    obtain ⟨x, hx, rfl⟩ := Option.map_eq_some_iff.1 hz
    exact key (k + m) x hx (.inr (by omega)) (.inr ⟨by omega, by omega⟩)
theorem goodPB_at {l : List Ins} (hg : goodPB l = true) {i : Nat} (h : (atI l i).1 ≠ 0) : i < l.length ∧ okI l.length i (atI l i) := by
  have hk := atI_lt h
  exact ⟨hk, (goodPB_iff.1 hg).2 i _ (atI_get hk)⟩
theorem betB_cases {l l' : List Ins} {i : Nat} (h : betB l i = some l') :
    ((atI l i).1 = 4 ∧ (atI l (i + 1)).1 = 4 ∧ ledB l ((i + 1 : Nat) : Int) = false ∧ l' = cutI l i 2) ∨
    ((atI l i).1 = 3 ∧ (atI l (atI l i).to.toNat).1 = 3 ∧ (atI l (atI l i).to.toNat).num = (atI l i).num ∧ l' = l.set i (setTo (atI l i) (atI l (atI l i).to.toNat).to)) ∨
    ((atI l i).1 = 1 ∧ (atI l (i + 1)).1 = 2 ∧ (atI l (i + 2)).1 = 1 ∧ (atI l (i + 2)).no = (atI l i).no ∧ ledB l ((i + 1 : Nat) : Int) = false ∧ ledB l ((i + 2 : Nat) : Int) = false ∧ l' = cutI l (i + 2) 1) := by
  unfold betB at h
  split at h
  · rename_i q; exact .inl ⟨q.1, q.2.1, q.2.2, (Option.some.inj h).symm⟩
  · split at h
    · rename_i q; exact .inr (.inl ⟨q.1, q.2.1, q.2.2, (Option.some.inj h).symm⟩)
    · split at h
      · rename_i q; exact .inr (.inr ⟨q.1, q.2.1, q.2.2.1, q.2.2.2.1, q.2.2.2.2.1, q.2.2.2.2.2, (Option.some.inj h).symm⟩)
      · cases h
theorem sum_le {α : Type} (f : α → Nat) (b : Nat) : ∀ (l : List α), (∀ z ∈ l, f z ≤ b) → (l.map f).sum ≤ l.length * b
  | [], _ => by simp
  | z :: l, h => by
    have h1 := h z (by simp)
    have h2 := sum_le f b l (fun x hx => h x (by simp [hx]))
    simp only [List.map_cons, List.sum_cons, List.length_cons, Nat.succ_mul]
    omega
theorem farI_le (l : List Ins) : farI l ≤ l.length * 60 := by
  unfold farI
  exact sum_le _ 60 l (fun z _ => by split <;> omega)
theorem sum_set {α : Type} (f : α → Nat) : ∀ (l : List α) (i : Nat) (x z : α), l[i]? = some x → ((l.set i z).map f).sum + f x = (l.map f).sum + f z
  | [], i, x, z, h => by simp at h
  | y :: l, 0, x, z, h => by
    simp at h; subst h
    simp only [List.set_cons_zero, List.map_cons, List.sum_cons]; omega
  | y :: l, i + 1, x, z, h => by
    simp at h
    have := sum_set f l i x z h
    simp only [List.set_cons_succ, List.map_cons, List.sum_cons]; omega
/-- A step makes a good program good, no longer, and smaller. -/
theorem betB_good {l l' : List Ins} {i : Nat} (hg : goodPB l = true) (h : betB l i = some l') : goodPB l' = true ∧ l'.length ≤ l.length ∧ (l'.length < l.length ∨ (l'.length = l.length ∧ farI l' < farI l)) := by
  obtain ⟨⟨g1, g2⟩, g3⟩ := goodPB_iff.1 hg
  rcases betB_cases h with ⟨c1, c2, c3, rfl⟩ | ⟨c1, c2, c3, rfl⟩ | ⟨c1, c2, c3, c4, c5, c6, rfl⟩
  · obtain ⟨a1, a2⟩ := goodPB_at hg (i := i) (by rw [c1]; decide)
    obtain ⟨b1, b2⟩ := goodPB_at hg (i := i + 1) (by rw [c2]; decide)
    have b3 := okI_notlast b2 b1 (by rw [c2]; decide)
    have hlen := cutI_length (l := l) (a := i) (m := 2) (by omega)
    refine ⟨cutI_good hg (by omega) (by omega) fun k z hz hz3 => ?_, by omega, .inl (by omega)⟩
    have := led_no c3 hz hz3
    omega
  · obtain ⟨a1, a2⟩ := goodPB_at hg (i := i) (by rw [c1]; decide)
    obtain ⟨b1, b2⟩ := goodPB_at hg (i := (atI l i).to.toNat) (by rw [c2]; decide)
    obtain ⟨a3, a4, a5⟩ := okI_jump a2 c1
    obtain ⟨b3, b4, b5⟩ := okI_jump b2 c2
    refine ⟨goodPB_iff.2 ⟨by simpa using ⟨g1, g2⟩, fun k z hz => ?_⟩, by simp, .inr ⟨by simp, ?_⟩⟩
    · rw [List.length_set]
      by_cases hk : k = i
      · subst hk
        rw [List.getElem?_set_self a1] at hz
        cases hz
        exact okI_jump_move a2 c1 (by omega) (by omega) (by omega)
      · rw [List.getElem?_set_ne (by omega)] at hz
        exact g3 k z hz
    · have := sum_set (fun z : Ins => if z.1 = 3 then 60 - z.to.toNat else 0) l i (atI l i) (setTo (atI l i) (atI l (atI l i).to.toNat).to) (atI_get a1)
      have e1 : (setTo (atI l i) (atI l (atI l i).to.toNat).to).1 = 3 := c1
      have e2 : (setTo (atI l i) (atI l (atI l i).to.toNat).to).to = (atI l (atI l i).to.toNat).to := rfl
      rw [if_pos c1, if_pos e1, e2] at this
      unfold farI
      omega
  · obtain ⟨b1, b2⟩ := goodPB_at hg (i := i + 2) (by rw [c3]; decide)
    have b3 := okI_notlast b2 b1 (by rw [c3]; decide)
    have hlen := cutI_length (l := l) (a := i + 2) (m := 1) (by omega)
    refine ⟨cutI_good hg (by omega) (by omega) fun k z hz hz3 => ?_, by omega, .inl (by omega)⟩
    omega
theorem betB_meas {l l' : List Ins} {i : Nat} (hg : goodPB l = true) (h : betB l i = some l') : measI l' 0 < measI l i := by
  obtain ⟨g1, g2, g3⟩ := betB_good hg h
  have q1 := (goodPB_iff.1 g1).1
  have q2 := (goodPB_iff.1 hg).1
  have f1 := farI_le l'
  unfold measI
  rcases g3 with g3 | ⟨g3, g4⟩ <;> omega
theorem peepN_eq {l : List Ins} {i : Nat} : ∀ (k k' : Nat), goodPB l = true → measI l i ≤ k → measI l i ≤ k' → peepN k l i = peepN k' l i := by
  have key : ∀ (n : Nat) (l : List Ins) (i : Nat), measI l i ≤ n → ∀ (k k' : Nat), goodPB l = true → measI l i ≤ k → measI l i ≤ k' → peepN k l i = peepN k' l i := by
    intro n
    induction n with
    | zero =>
      intro l i hn k k' hg h1 h2
      have q2 := (goodPB_iff.1 hg).1
      unfold measI at hn
      omega
    | succ n ih =>
      intro l i hn k k' hg h1 h2
      have q2 := (goodPB_iff.1 hg).1
      have pos : 0 < measI l i := by unfold measI; omega
      obtain ⟨k, rfl⟩ : ∃ j, k = j + 1 := ⟨k - 1, by omega⟩
      obtain ⟨k', rfl⟩ : ∃ j, k' = j + 1 := ⟨k' - 1, by omega⟩
      rw [peepN, peepN]
      by_cases hi : i < l.length
      · rw [if_pos hi, if_pos hi]
        cases hb : betB l i with
        | some l' =>
          have hm := betB_meas hg hb
          exact ih l' 0 (by omega) k k' (betB_good hg hb).1 (by omega) (by omega)
        | none =>
          have hm : measI l (i + 1) < measI l i := by unfold measI; omega
          exact ih l (i + 1) (by omega) k k' hg (by omega) (by omega)
      · rw [if_neg hi, if_neg hi]
  exact fun k k' => key _ l i (Nat.le_refl _) k k'
theorem peep_end {l : List Ins} {i : Nat} (h : l.length ≤ i) : peep l i = l := by
  unfold peep
  generalize measI l i = n
  cases n with
  | zero => rfl
  | succ n => rw [peepN, if_neg (by omega)]
theorem peep_yes {l l' : List Ins} {i : Nat} (hg : goodPB l = true) (hi : i < l.length) (h : betB l i = some l') : peep l i = peep l' 0 := by
  have hm := betB_meas hg h
  unfold peep
  obtain ⟨n, hn⟩ : ∃ n, measI l i = n + 1 := ⟨measI l i - 1, by omega⟩
  rw [hn, peepN, if_pos hi, h]
  exact peepN_eq _ _ (betB_good hg h).1 (by omega) (Nat.le_refl _)
theorem peep_no {l : List Ins} {i : Nat} (hg : goodPB l = true) (hi : i < l.length) (h : betB l i = none) : peep l i = peep l (i + 1) := by
  have hm : measI l (i + 1) < measI l i := by unfold measI; omega
  unfold peep
  obtain ⟨n, hn⟩ : ∃ n, measI l i = n + 1 := ⟨measI l i - 1, by omega⟩
  rw [hn, peepN, if_pos hi, h]
  exact peepN_eq _ _ hg (by omega) (Nat.le_refl _)
/-- Whatever a step keeps, all keep. -/
theorem peep_ind (P : List Ins → Prop) (hP : ∀ l l' i, goodPB l = true → betB l i = some l' → P l → P l') (n : Nat) : ∀ (l : List Ins) (i : Nat), measI l i ≤ n → goodPB l = true → P l → (∀ j, j < i → betB l j = none) → P (peep l i) ∧ goodPB (peep l i) = true ∧ ∀ j, j < (peep l i).length → betB (peep l i) j = none := by
  induction n with
  | zero =>
    intro l i hn hg hp hb
    have q2 := (goodPB_iff.1 hg).1
    unfold measI at hn
    omega
  | succ n ih =>
    intro l i hn hg hp hb
    by_cases hi : i < l.length
    · cases h : betB l i with
      | some l' =>
        have hm := betB_meas hg h
        rw [peep_yes hg hi h]
        exact ih l' 0 (by omega) (betB_good hg h).1 (hP l l' i hg h hp) (fun j hj => absurd hj (by omega))
      | none =>
        have hm : measI l (i + 1) < measI l i := by unfold measI; omega
        rw [peep_no hg hi h]
        refine ih l (i + 1) (by omega) hg hp (fun j hj => ?_)
        by_cases e : j = i
        · subst e; exact h
        · exact hb j (by omega)
    · rw [peep_end (by omega)]
      exact ⟨hp, hg, fun j hj => hb j (by omega)⟩
theorem peep_fix {l : List Ins} (hg : goodPB l = true) (h : ∀ j, j < l.length → betB l j = none) : ∀ (n i : Nat), l.length - i ≤ n → peep l i = l
  | 0, i, hn => peep_end (by omega)
  | n + 1, i, hn => by
    by_cases hi : i < l.length
    · rw [peep_no hg hi (h i hi)]
      exact peep_fix hg h n (i + 1) (by omega)
    · exact peep_end (by omega)
/-- The better program: good, no longer, and stays. -/
theorem peep_law {l : List Ins} (hg : goodPB l = true) : goodPB (peep l 0) = true ∧ (peep l 0).length ≤ l.length ∧ peep (peep l 0) 0 = peep l 0 := by
  obtain ⟨h1, h2, h3⟩ := peep_ind (fun l' => l'.length ≤ l.length) (fun a b i ha hb hp => Nat.le_trans (betB_good ha hb).2.1 hp) _ l 0 (Nat.le_refl _) hg (Nat.le_refl _) (fun j hj => absurd hj (by omega))
  exact ⟨h2, h1, peep_fix h2 h3 _ 0 (Nat.le_refl _)⟩
inductive RunR (fs : List WFd) (l : List Ins) : Nat → Bool → Option WFd → Bool → Nat → Prop
  | stop (a : Nat) (f : Bool) (p : Option WFd) (h : ¬ (1 ≤ (atI l a).1 ∧ (atI l a).1 ≤ 4)) : RunR fs l a f p f 1
  | step (a : Nat) (f : Bool) (p : Option WFd) (r : Bool) (n : Nat) (h : 1 ≤ (atI l a).1 ∧ (atI l a).1 ≤ 4) (k : RunR fs l (nextI fs (atI l a) a f p).1 (nextI fs (atI l a) a f p).2.1 (nextI fs (atI l a) a f p).2.2 r n) : RunR fs l a f p r (n + 1)
theorem RunR.det {fs : List WFd} {l : List Ins} {a : Nat} {f : Bool} {p : Option WFd} {r : Bool} {n : Nat} (h : RunR fs l a f p r n) : ∀ {r' n'}, RunR fs l a f p r' n' → r' = r ∧ n' = n := by
  induction h with
  | stop a f p h =>
    intro r' n' k
    cases k with
    | stop _ _ _ _ => exact ⟨rfl, rfl⟩
    | step _ _ _ _ _ h' _ => exact absurd h' h
  | step a f p r n h k ih =>
    intro r' n' k'
    cases k' with
    | stop _ _ _ h' => exact absurd h h'
    | step _ _ _ _ _ _ k' => exact ⟨(ih k').1, by rw [(ih k').2]⟩
theorem nextI_range {fs : List WFd} {l : List Ins} {a : Nat} {f : Bool} {p : Option WFd} (hg : goodPB l = true) (ha : a < l.length) (h : 1 ≤ (atI l a).1 ∧ (atI l a).1 ≤ 4) : a < (nextI fs (atI l a) a f p).1 ∧ (nextI fs (atI l a) a f p).1 < l.length := by
  have ho := (goodPB_iff.1 hg).2 a _ (atI_get ha)
  have hn := okI_notlast ho ha (by omega)
  unfold nextI
  split
  · exact ⟨by dsimp only; omega, hn⟩
  · split
    · exact ⟨by dsimp only; omega, hn⟩
    · split
      · rename_i h3
        have := okI_jump ho h3
        dsimp only
        split <;> omega
      · exact ⟨by dsimp only; omega, hn⟩
theorem runN_R {fs : List WFd} {l : List Ins} (hg : goodPB l = true) : ∀ (k a : Nat) (f : Bool) (p : Option WFd), a < l.length → l.length - a ≤ k → RunR fs l a f p (runN fs l k a f p).1 (runN fs l k a f p).2
  | 0, a, f, p, h, hk => by omega
  | k + 1, a, f, p, h, hk => by
    rw [runN]
    by_cases hc : 1 ≤ (atI l a).1 ∧ (atI l a).1 ≤ 4
    · rw [if_pos hc]
      have := nextI_range (fs := fs) (f := f) (p := p) hg h hc
      exact .step _ _ _ _ _ hc (runN_R hg k _ _ _ this.2 (by omega))
    · rw [if_neg hc]
      exact .stop _ _ _ hc
theorem runI_R {fs : List WFd} {l : List Ins} (hg : goodPB l = true) {a : Nat} {f : Bool} {p : Option WFd} (h : a < l.length) : RunR fs l a f p (runI fs l a f p).1 (runI fs l a f p).2 := runN_R hg _ a f p h (Nat.le_refl _)
theorem runI_stop {fs : List WFd} {l : List Ins} {a : Nat} {f : Bool} {p : Option WFd} (h : a < l.length) (hc : ¬ (1 ≤ (atI l a).1 ∧ (atI l a).1 ≤ 4)) : runI fs l a f p = (f, 1) := by
  unfold runI
  rw [show l.length - a = (l.length - a - 1) + 1 by omega, runN, if_neg hc]
theorem runI_step {fs : List WFd} {l : List Ins} (hg : goodPB l = true) {a : Nat} {f : Bool} {p : Option WFd} (h : a < l.length) (hc : 1 ≤ (atI l a).1 ∧ (atI l a).1 ≤ 4) :
    runI fs l a f p = ((runI fs l (nextI fs (atI l a) a f p).1 (nextI fs (atI l a) a f p).2.1 (nextI fs (atI l a) a f p).2.2).1, (runI fs l (nextI fs (atI l a) a f p).1 (nextI fs (atI l a) a f p).2.1 (nextI fs (atI l a) a f p).2.2).2 + 1) := by
  have h1 := runI_R (fs := fs) (f := f) (p := p) hg h
  have h2 := RunR.step (fs := fs) (l := l) a f p _ _ hc (runI_R hg (nextI_range hg h hc).2)
  obtain ⟨e1, e2⟩ := h2.det h1
  exact Prod.ext e1 e2
theorem cut_at {l : List Ins} {a m k : Nat} (h : a + m ≤ l.length) (hk : k < a ∨ a + m ≤ k) (hl : k < l.length) : atI (cutI l a m) (mvI a m k) = adjI a m (atI l k) := by
  have := cutI_get (l := l) h hk (atI_get hl)
  unfold atI at this ⊢
  rw [this]; rfl
theorem mvI_lo {a m k : Nat} (h : k ≤ a) : mvI a m k = k := by unfold mvI; split <;> omega
theorem mvI_hi {a m k : Nat} (h : a + m ≤ k) : mvI a m k = k - m := by unfold mvI; rw [if_neg (by omega)]
/-- One instruction, after a cut. -/
theorem next_cut {fs : List WFd} {x : Ins} {a m k : Nat} {f : Bool} {p : Option WFd} (hk : k < a ∨ a + m ≤ k) (hx : x.1 = 3 → x.to ≤ a ∨ (a : Int) + m ≤ x.to) (hp : x.1 = 3 → 0 ≤ x.to) :
    nextI fs (adjI a m x) (mvI a m k) f p = (mvI a m (nextI fs x k f p).1, (nextI fs x k f p).2) := by
  have e1 : mvI a m k + 1 = mvI a m (k + 1) := by
    rcases hk with hk | hk
    · rw [mvI_lo (by omega), mvI_lo (by omega)]
    · rw [mvI_hi hk, mvI_hi (by omega)]; omega
  by_cases c3 : x.1 = 3
  · have hx := hx c3
    have hp := hp c3
    have e3 : (adjI a m x).1 = 3 := (adjI_code a m x).trans c3
    have e4 : (adjI a m x).num = x.num := by unfold adjI; split <;> rfl
    have e5 : (adjI a m x).to.toNat = mvI a m x.to.toNat := by
      unfold adjI
      by_cases ht : (a : Int) < x.to
      · rw [if_pos ⟨c3, ht⟩, mvI_hi (by omega)]
        show (x.to - m).toNat = _
        omega
      · rw [if_neg (fun hh => ht hh.2), mvI_lo (by omega)]
    unfold nextI
    rw [e3, c3, e4, e5, e1]
    simp only [show ¬ ((3 : Int) = 1) from by decide, show ¬ ((3 : Int) = 2) from by decide, if_false, if_true]
    split <;> rfl
  · rw [adjI_not3 c3]
    unfold nextI
    rw [e1]
    split
    · rfl
    · split
      · rfl
      · rfl
theorem run_cut {fs : List WFd} {l : List Ins} {a m : Nat} (hg : goodPB l = true) (h : a + m < l.length) (Q : Nat → Option WFd → Prop)
    (hj : ∀ (k : Nat) (z : Ins), l[k]? = some z → z.1 = 3 → (z.to ≤ a ∨ (a : Int) + m ≤ z.to) ∧ ∀ p, Q z.to.toNat p)
    (h0 : ∀ k f p, Q k p → (k < a ∨ a + m ≤ k) → k < l.length → 1 ≤ (atI l k).1 ∧ (atI l k).1 ≤ 4 → ((atI l k).1 = 3 → (nextI fs (atI l k) k f p).1 = k + 1) → Q (k + 1) (nextI fs (atI l k) k f p).2.2)
    (h1 : ∀ k f p r n, Q k p → a ≤ k → k < a + m → RunR fs l k f p r n → ∃ n', n' + m ≤ n ∧ k = a ∧ Q (a + m) p ∧ RunR fs l (a + m) f p r n') :
    ∀ (n k : Nat) (f : Bool) (p : Option WFd) (r : Bool), Q k p → k < l.length → RunR fs l k f p r n → ∃ n', n' ≤ n ∧ RunR fs (cutI l a m) (mvI a m k) f p r n' := by
  intro n
  induction n using Nat.strongRecOn with
  | _ n ih =>
    intro k f p r hq hk hr
    by_cases hin : a ≤ k ∧ k < a + m
    · obtain ⟨n', h2, rfl, h4, h5⟩ := h1 k f p r n hq hin.1 hin.2 hr
      obtain ⟨n2, h6, h7⟩ := ih n' (by omega) (k + m) f p r h4 h h5
      refine ⟨n2, by omega, ?_⟩
      rw [mvI_hi (Nat.le_refl _), Nat.add_sub_cancel] at h7
      rw [mvI_lo (Nat.le_refl _)]
      exact h7
    · have hout : k < a ∨ a + m ≤ k := by omega
      have hat := cut_at (l := l) (a := a) (m := m) (by omega) hout hk
      cases hr with
      | stop _ _ _ hc => exact ⟨1, Nat.le_refl _, .stop _ _ _ (by rw [hat, adjI_code]; exact hc)⟩
      | step _ _ _ _ n hc hr =>
        have hnx := next_cut (fs := fs) (x := atI l k) (a := a) (m := m) (k := k) (f := f) (p := p) hout (fun h3 => (hj k _ (atI_get hk) h3).1) (fun h3 => by
          have := okI_jump ((goodPB_iff.1 hg).2 k _ (atI_get hk)) h3; omega)
        have hrange := nextI_range (fs := fs) (f := f) (p := p) hg hk hc
        have hq' : Q (nextI fs (atI l k) k f p).1 (nextI fs (atI l k) k f p).2.2 := by
          by_cases c3 : (atI l k).1 = 3
          · have e : nextI fs (atI l k) k f p = ((if f = ((atI l k).num == 1) then (atI l k).to.toNat else k + 1), f, p) := by
              unfold nextI
              rw [if_neg (by omega), if_neg (by omega), if_pos c3]
            by_cases hf : f = ((atI l k).num == 1)
            · rw [e, if_pos hf]; exact (hj k _ (atI_get hk) c3).2 p
            · have := h0 k f p hq hout hk hc (fun _ => by rw [e, if_neg hf])
              rw [e] at this ⊢
              rw [if_neg hf]; exact this
          · have e : (nextI fs (atI l k) k f p).1 = k + 1 := by
              unfold nextI
              split
              · rfl
              · split
                · rfl
                · rfl
            rw [e]; exact h0 k f p hq hout hk hc (fun h3 => absurd h3 c3)
        obtain ⟨n2, h6, h7⟩ := ih n (by omega) _ _ _ r hq' hrange.2 hr
        refine ⟨n2 + 1, by omega, ?_⟩
        refine .step _ _ _ _ _ (by rw [hat, adjI_code]; exact hc) ?_
        rw [hat, hnx]
        exact h7
theorem next_flip {fs : List WFd} {x : Ins} {k : Nat} {f : Bool} {p : Option WFd} (h : x.1 = 4) : nextI fs x k f p = (k + 1, !f, p) := by
  unfold nextI
  rw [if_neg (by omega), if_neg (by omega), if_neg (by omega)]
theorem next_seek {fs : List WFd} {x : Ins} {k : Nat} {f : Bool} {p : Option WFd} (h : x.1 = 1) : nextI fs x k f p = (k + 1, f, fs.find? fun y => y.1 == x.no) := by
  unfold nextI
  rw [if_pos h]
theorem next_test {fs : List WFd} {x : Ins} {k : Nat} {f : Bool} {p : Option WFd} (h : x.1 = 2) : (nextI fs x k f p).1 = k + 1 ∧ (nextI fs x k f p).2.2 = p := by
  unfold nextI
  rw [if_neg (by omega), if_pos h]
  exact ⟨rfl, rfl⟩
theorem next_jump {fs : List WFd} {x : Ins} {k : Nat} {f : Bool} {p : Option WFd} (h : x.1 = 3) : nextI fs x k f p = ((if f = (x.num == 1) then x.to.toNat else k + 1), f, p) := by
  unfold nextI
  rw [if_neg (by omega), if_neg (by omega), if_pos h]
/-- A step of bettering keeps what is told, in no more steps. -/
theorem run_better {fs : List WFd} {l l' : List Ins} {i : Nat} (hg : goodPB l = true) (h : betB l i = some l') (r : Bool) (n : Nat) (hr : RunR fs l 0 false none r n) : ∃ n', n' ≤ n ∧ RunR fs l' 0 false none r n' := by
  obtain ⟨⟨g1, g2⟩, g3⟩ := goodPB_iff.1 hg
  have nowh : ∀ k, (atI l k).1 ≠ 0 → k < l.length := fun k h => atI_lt h
  rcases betB_cases h with ⟨c1, c2, c3, rfl⟩ | ⟨c1, c2, c3, rfl⟩ | ⟨c1, c2, c3, c4, c5, c6, rfl⟩
  · have b1 := nowh (i + 1) (by omega)
    have b3 := okI_notlast (g3 _ _ (atI_get b1)) b1 (by omega)
    have := run_cut (fs := fs) (a := i) (m := 2) hg (by omega) (fun k _ => k ≠ i + 1) (fun k z hz hz3 => by
        have h1 := led_no c3 hz hz3
        have h2 := okI_jump (g3 _ _ hz) hz3
        exact ⟨by omega, fun p => by omega⟩) (fun k f p hq ho hk hc _ => by omega) (fun k f p r n hq h1 h2 hr => by
        have hk : k = i := by omega
        subst hk
        cases hr with
        | stop _ _ _ hc => omega
        | step _ _ _ _ n hc hr =>
          rw [next_flip c1] at hr
          dsimp only at hr
          cases hr with
          | stop _ _ _ hc => omega
          | step _ _ _ _ n hc hr =>
            rw [next_flip c2] at hr
            dsimp only at hr
            rw [Bool.not_not] at hr
            exact ⟨n, by omega, rfl, by omega, hr⟩) n 0 false none r (by omega) (by omega) hr
    rw [mvI_lo (by omega)] at this
    exact this
  · have a1 := nowh i (by omega)
    have b1 := nowh (atI l i).to.toNat (by omega)
    have aj := okI_jump (g3 _ _ (atI_get a1)) c1
    have bj := okI_jump (g3 _ _ (atI_get b1)) c2
    have same : ∀ k, k ≠ i → atI (l.set i (setTo (atI l i) (atI l (atI l i).to.toNat).to)) k = atI l k := fun k hk => by
      unfold atI; rw [List.getElem?_set_ne (by omega)]
    have here : atI (l.set i (setTo (atI l i) (atI l (atI l i).to.toNat).to)) i = setTo (atI l i) (atI l (atI l i).to.toNat).to := by
      rw [atI, List.getElem?_set_self a1]; rfl
    have key : ∀ (n k : Nat) (f : Bool) (p : Option WFd) (r : Bool), k < l.length → RunR fs l k f p r n → ∃ n', n' ≤ n ∧ RunR fs (l.set i (setTo (atI l i) (atI l (atI l i).to.toNat).to)) k f p r n' := by
      intro n
      induction n using Nat.strongRecOn with
      | _ n ih =>
        intro k f p r hk hr
        by_cases hki : k = i
        · subst hki
          cases hr with
          | stop _ _ _ hc => omega
          | step _ _ _ _ n hc hr =>
            rw [next_jump c1] at hr
            dsimp only at hr
            have hc' : 1 ≤ (setTo (atI l k) (atI l (atI l k).to.toNat).to).1 ∧ (setTo (atI l k) (atI l (atI l k).to.toNat).to).1 ≤ 4 := hc
            have nx : nextI fs (setTo (atI l k) (atI l (atI l k).to.toNat).to) k f p = ((if f = ((atI l k).num == 1) then (atI l (atI l k).to.toNat).to.toNat else k + 1), f, p) := next_jump (x := setTo (atI l k) (atI l (atI l k).to.toNat).to) c1
            by_cases hf : f = ((atI l k).num == 1)
            · rw [if_pos hf] at hr nx
              cases hr with
              | stop _ _ _ hc2 => omega
              | step _ _ _ _ n hc2 hr =>
                rw [next_jump c2, c3, if_pos hf] at hr
                dsimp only at hr
                obtain ⟨n', h1, h2⟩ := ih n (by omega) _ f p r (by omega) hr
                exact ⟨n' + 1, by omega, .step _ _ _ _ _ (by rw [here]; exact hc') (by rw [here, nx]; exact h2)⟩
            · rw [if_neg hf] at hr nx
              have := nextI_range (fs := fs) (f := f) (p := p) hg hk hc
              rw [next_jump c1, if_neg hf] at this
              obtain ⟨n', h1, h2⟩ := ih n (by omega) _ f p r this.2 hr
              exact ⟨n' + 1, by omega, .step _ _ _ _ _ (by rw [here]; exact hc') (by rw [here, nx]; exact h2)⟩
        · cases hr with
          | stop _ _ _ hc => exact ⟨1, Nat.le_refl _, .stop _ _ _ (by rw [same k hki]; exact hc)⟩
          | step _ _ _ _ n hc hr =>
            have := nextI_range (fs := fs) (f := f) (p := p) hg hk hc
            obtain ⟨n', h1, h2⟩ := ih n (by omega) _ _ _ r this.2 hr
            exact ⟨n' + 1, by omega, .step _ _ _ _ _ (by rw [same k hki]; exact hc) (by rw [same k hki]; exact h2)⟩
    exact key n 0 false none r (by omega) hr
  · have b1 := nowh (i + 2) (by omega)
    have b3 := okI_notlast (g3 _ _ (atI_get b1)) b1 (by omega)
    have := run_cut (fs := fs) (a := i + 2) (m := 1) hg (by omega) (fun k p => (k = i + 1 ∨ k = i + 2) → p = fs.find? fun y => y.1 == (atI l i).no) (fun k z hz hz3 => by
        have h1 := led_no c5 hz hz3
        have h2 := led_no c6 hz hz3
        have h3 := okI_jump (g3 _ _ hz) hz3
        exact ⟨by omega, fun p hk => by omega⟩) (fun k f p hq ho hk hc _ hk2 => by
        rcases hk2 with hk2 | hk2
        · obtain rfl : k = i := by omega
          rw [next_seek c1]
        · obtain rfl : k = i + 1 := by omega
          rw [(next_test c2).2]
          exact hq (.inl rfl)) (fun k f p r n hq h1 h2 hr => by
        have hk : k = i + 2 := by omega
        subst hk
        have hp := hq (.inr rfl)
        cases hr with
        | stop _ _ _ hc => omega
        | step _ _ _ _ n hc hr =>
          rw [next_seek c3, c4, ← hp] at hr
          exact ⟨n, by omega, rfl, fun h => by omega, hr⟩) n 0 false none r (by omega) (by omega) hr
    rw [mvI_lo (by omega)] at this
    exact this
/-- The better program tells the same, in no more steps. -/
theorem peep_run {fs : List WFd} {l : List Ins} (hg : goodPB l = true) : (runI fs (peep l 0) 0 false none).1 = (runI fs l 0 false none).1 ∧ (runI fs (peep l 0) 0 false none).2 ≤ (runI fs l 0 false none).2 := by
  have q := (goodPB_iff.1 hg).1
  obtain ⟨⟨n, h1, h2⟩, h3, _⟩ := peep_ind (fun l' => ∃ n', n' ≤ (runI fs l 0 false none).2 ∧ RunR fs l' 0 false none (runI fs l 0 false none).1 n') (fun a b i ha hb ⟨n', k1, k2⟩ => by
    obtain ⟨n2, k3, k4⟩ := run_better ha hb _ _ k2
    exact ⟨n2, by omega, k4⟩) _ l 0 (Nat.le_refl _) hg ⟨_, Nat.le_refl _, runI_R hg (by omega)⟩ (fun j hj => absurd hj (by omega))
  have q2 := (goodPB_iff.1 h3).1
  obtain ⟨e1, e2⟩ := h2.det (runI_R h3 (by omega))
  exact ⟨e1, by omega⟩

def codeAtG : List V → List Blk → Br (V × List (Option Blk))
  | [.sl (.pair (.int .i64) (.pair (.int .i64) (.pair (.int .i64) (.pair (.int .i64) (.pair .str (.pair (.int .i64) .unit)))))) l, .i .i64 k], [] => .need (decide (0 ≤ k)) (.leaf (.i .i64 (atI l k.toNat).1, []))
  | _, _ => .no
def ledC : List V → List Blk → Br (V × List (Option Blk))
  | [.agg [.i .i64 c, .i .i64 kd, .i .i64 no, .i .i64 nm, .s tx, .i .i64 to], .bx [.i .i64 x] 0], [] => .leaf (.b (c == 3 && to == x), [])
  | _, _ => .no
def iledG : List V → List Blk → Br (V × List (Option Blk))
  | [.sl (.pair (.int .i64) (.pair (.int .i64) (.pair (.int .i64) (.pair (.int .i64) (.pair .str (.pair (.int .i64) .unit)))))) l, .i .i64 k], [] => .leaf (.b (ledB l k), [])
  | _, _ => .no
def ledE  : LoopEnt := ⟨19, [0,1,4,7,8], [], [4], fun
  | ([.sl (.pair (.int .i64) (.pair (.int .i64) (.pair (.int .i64) (.pair (.int .i64) (.pair .str (.pair (.int .i64) .unit)))))) l, .fn 187 [] [.ptr 0 0], .i .i64 r, .i .i64 k, .i .i64 i], [some (.box [.i .i64 x])]) =>
    .need (decide (0 ≤ i ∧ i.toNat ≤ l.length ∧ l.length ≤ maxI ∧ k = l.length)) (.br (decide (firstP (fun z : Ins => z.1 == 3 && z.2.2.2.2.2.1 == x) i.toNat (l.drop i.toNat) < 0)) (.leaf (.exit 0, ([], [some (.box [.i .i64 x])]))) (.leaf (.ret, ([.i .i64 (firstP (fun z : Ins => z.1 == 3 && z.2.2.2.2.2.1 == x) i.toNat (l.drop i.toNat))], [some (.box [.i .i64 x])]))))
  | _ => .no⟩
def lediG  : List V → List Blk → Br (V × List (Option Blk))
  | [.sl (.pair (.int .i64) (.pair (.int .i64) (.pair (.int .i64) (.pair (.int .i64) (.pair .str (.pair (.int .i64) .unit)))))) l, .fn 187 [] [.ptr 0 0]], [.box [.i .i64 x]] => .leaf (.i .i64 (firstP (fun z : Ins => z.1 == 3 && z.2.2.2.2.2.1 == x) 0 l), [some (.box [.i .i64 x])])
  | _, _ => .no
def ledhG  : List V → List Blk → Br (V × List (Option Blk))
  | [.sl (.pair (.int .i64) (.pair (.int .i64) (.pair (.int .i64) (.pair (.int .i64) (.pair .str (.pair (.int .i64) .unit)))))) l, .fn 187 [] [.ptr 0 0]], [.box [.i .i64 x]] => .leaf (.b (l.any (fun z : Ins => z.1 == 3 && z.2.2.2.2.2.1 == x)), [some (.box [.i .i64 x])])
  | _, _ => .no
def cloneInsG : List V → List Blk → Br (V × List (Option Blk))
  | [.sl (.pair (.int .i64) (.pair (.int .i64) (.pair (.int .i64) (.pair (.int .i64) (.pair .str (.pair (.int .i64) .unit)))))) l], [] => .need (decide (l.length ≤ 1000000000)) (.leaf (.ref 0 0 l.length, [some (.row false none (.pair (.int .i64) (.pair (.int .i64) (.pair (.int .i64) (.pair (.int .i64) (.pair .str (.pair (.int .i64) .unit)))))) l)]))
  | _, _ => .no

theorem codeAt_fun (l : List Ins) (k : Int) (hk : 0 ≤ k) : funK Try.prog (look []) (look []) Try.f146 [.sl (.pair (.int .i64) (.pair (.int .i64) (.pair (.int .i64) (.pair (.int .i64) (.pair .str (.pair (.int .i64) .unit)))))) l, .i .i64 k] [] = some (.i .i64 (atI l k.toNat).1, []) := by
  have e : funK Try.prog (look []) (look []) Try.f146 [.sl (.pair (.int .i64) (.pair (.int .i64) (.pair (.int .i64) (.pair (.int .i64) (.pair .str (.pair (.int .i64) .unit)))))) l, .i .i64 k] [] = ((ifB (decide (k ≥ (↑l.length : Int))) (some (V.i .i64 0, [])) (ifT (decide ((0 : Int) ≤ k) && decide (k < (↑l.length : Int))) (ifSome l[k.toNat]? fun z => some (V.i .i64
 z.fst, [])))) : _) := by kernel_rfl
  rw [e]
  clear e
  unfold atI
  obtain ⟨k, rfl⟩ := Int.eq_ofNat_of_zero_le hk
  by_cases h : k < l.length
  · rw [ifB_false (decide_eq_false (by omega)), ifT_true (by simp only [Bool.and_eq_true, decide_eq_true_eq]; omega), Int.toNat_natCast, List.getElem?_eq_getElem h]
    rfl
  · rw [ifB_true (decide_eq_true (by omega)), Int.toNat_natCast, List.getElem?_eq_none (by omega)]
    rfl
theorem codeAt : Contract Try.prog 146 (Ent.rd1 codeAtG).F := by
  refine fun_contract' KnowsL.nil.knows (Λ := look []) Try.func146 (c := Try.f146.body.getD .skip) (by kernel_rfl) fun vs bs r' hq hv hb => ?_
  unfold Ent.F codeAtG at hq
  dsimp only at hq
  split at hq
  · obtain ⟨hc, hx⟩ := need_some hq
    exact ⟨loopsOk_nil _, (codeAt_fun _ _ (of_decide_eq_true hc)).trans hx⟩
  · cases hq
theorem ledC_con : Contract Try.prog 187 (Ent.rd1 ledC).F := by
  refine fun_contract' KnowsL.nil.knows (Λ := look []) Try.func187 (c := Try.f187.body.getD .skip) (by kernel_rfl) fun vs bs r hq hv hb => ?_
  unfold Ent.F ledC at hq
  dsimp only at hq
  split at hq
  · rename_i c kd no nm tx to x
    refine ⟨loopsOk_nil _, Eq.trans ?_ hq⟩
    have e : funK Try.prog (look []) (look []) Try.f187 [.agg [.i .i64 c, .i .i64 kd, .i .i64 no, .i .i64 nm, .s tx, .i .i64 to], .bx [.i .i64 x] 0] [] = ((ifB (c == (3 : Int)) (some (V.b (to == x), [])) (some (V.b false, []))) : _) := by kernel_rfl
    rw [e]
    cases c == 3 <;> rfl
  · cases hq
theorem led_round  (x : Int) (l : List (Ins)) (r k i : Int) : roundK Try.prog (look [(187, .rd1 ledC)]) (look [(2, ledE)]) 1 (body Try.f211 0) ledE ([.sl (.pair (.int .i64) (.pair (.int .i64) (.pair (.int .i64) (.pair (.int .i64) (.pair .str (.pair (.int .i64) .unit)))))) l, .fn 187 [] [.ptr 0 0], .i .i64 r, .i .i64 k, .i .i64 i], [some (.box [.i .i64 x])]) =
  ((ifB (decide (i < k)) (ifT (decide ((0 : Int) ≤ i) && decide (i < (↑l.length : Int))) (ifSome l[i.toNat]? fun z => ifB (z.fst == (3 : Int) && z.snd.snd.snd.snd.snd.fst ==
 x) (some (Ex.ret, [V.i .i64 i], [some (Blk.box [V.i .i64 x])])) (some (Ex.normal, [V.sl ((Cd.int .i64).pair ((Cd.int .i64).pair ((Cd.int .i64).pair ((Cd.int .i64).pair
 (Cd.str.pair ((Cd.int .i64).pair Cd.unit)))))) l, V.fn 187 [] [V.ptr 0 0], V.i .i64 r, V.i .i64 k, V.i .i64 (IntKind.i64.wrap (i + (1 : Int)))], [some
 (Blk.box [V.i .i64 x])])))) (some (Ex.exit 0, [], [some (Blk.box [V.i .i64 x])]))) : _) := by kernel_rfl
theorem led_loop  (x : Int) {l : List (Ins)} {r : Int} (hx : l.length ≤ maxI) : ∀ (j i : Nat), i + j = l.length → ∀ e d', (.br (decide (firstP (fun z : Ins => z.1 == 3 && z.2.2.2.2.2.1 == x) i (l.drop i) < 0)) (.leaf (.exit 0, ([], [some (.box [.i .i64 x])]))) (.leaf (.ret, ([.i .i64 (firstP (fun z : Ins => z.1 == 3 && z.2.2.2.2.2.1 == x) i (l.drop i))], [some (.box [.i .i64 x])]))) : Br (Ex × Dt)).run = some (e, d') →
    Runs Try.prog (look [(187, .rd1 ledC)]) (look [(2, ledE)]) 1 (body Try.f211 0) ledE ([.sl (.pair (.int .i64) (.pair (.int .i64) (.pair (.int .i64) (.pair (.int .i64) (.pair .str (.pair (.int .i64) .unit)))))) l, .fn 187 [] [.ptr 0 0], .i .i64 r, .i .i64 (l.length : Int), .i .i64 (i : Int)], [some (.box [.i .i64 x])]) e d'
  | 0, i, hi, e, d', h => by
    have e1 : l.drop i = [] := List.drop_eq_nil_of_le (by omega)
    rw [e1, br_run, firstP, if_pos (by omega)] at h
    cases h
    have hr := led_round x l r l.length i
    rw [ifB_false (decide_eq_false (by omega))] at hr
    exact .stop _ _ _ hr (by simp)
  | j + 1, i, hi, e, d', h => by
    have h1 : i < l.length := by omega
    have hr := led_round x l r l.length i
    rw [ifB_true (decide_eq_true (by omega)), ifT_true (by simp only [Bool.and_eq_true, decide_eq_true_eq]; omega)] at hr
    simp only [Int.toNat_natCast, List.getElem?_eq_getElem h1, ifSome_s, wrap_succ (n := i) (by omega)] at hr
    rw [List.drop_eq_getElem_cons h1, br_run, firstP] at h
    by_cases he : (fun z : Ins => z.1 == 3 && z.2.2.2.2.2.1 == x) l[i] = true
    · rw [if_pos he, if_neg (by omega)] at h
      cases h
      rw [ifB_true he] at hr
      exact .stop _ _ _ hr (by simp)
    · rw [if_neg he] at h
      rw [ifB_false (by simpa using he)] at hr
      exact .step _ _ _ _ hr (led_loop x hx j (i + 1) (by omega) e d' (by rw [br_run]; exact h))
theorem led_ok  : LoopsOk Try.prog (look [(187, .rd1 ledC)]) (look [(2, ledE)]) 1 (Try.f211.body.getD .skip) := by
  refine loopsOk_one (a := body Try.f211 0) (by kernel_rfl) fun d e d' h => ?_
  unfold ledE at h
  dsimp only at h
  split at h
  · obtain ⟨hc, h'⟩ := need_some h
    obtain ⟨h0, h1, h2, rfl⟩ := of_decide_eq_true hc
    obtain ⟨i, rfl⟩ := Int.eq_ofNat_of_zero_le h0
    exact led_loop _  h2 _ i (Nat.add_sub_of_le h1) e d' h'
  · cases h
theorem led_fun  (x : Int) (l : List (Ins)) (hx : l.length ≤ maxI) : funK Try.prog (look [(187, .rd1 ledC)]) (look [(2, ledE)]) Try.f211 [.sl (.pair (.int .i64) (.pair (.int .i64) (.pair (.int .i64) (.pair (.int .i64) (.pair .str (.pair (.int .i64) .unit)))))) l, .fn 187 [] [.ptr 0 0]] [.box [.i .i64 x]] = some (.i .i64 (firstP (fun z : Ins => z.1 == 3 && z.2.2.2.2.2.1 == x) 0 l), [some (.box [.i .i64 x])]) := by
  have e : funK Try.prog (look [(187, .rd1 ledC)]) (look [(2, ledE)]) Try.f211 [.sl (.pair (.int .i64) (.pair (.int .i64) (.pair (.int .i64) (.pair (.int .i64) (.pair .str (.pair (.int .i64) .unit)))))) l, .fn 187 [] [.ptr 0 0]] [.box [.i .i64 x]] =
    ((ifT (decide ((0 : Int) ≤ (0 : Int) ∧ (0 : Nat) ≤ l.length ∧ l.length ≤ maxI ∧ (↑l.length : Int) = (↑l.length : Int))) (ifB (decide (firstP (fun z => z.fst == (3 : Int) &&
 z.snd.snd.snd.snd.snd.fst == x) (0 : Nat) (List.drop (0 : Nat) l) < (0 : Int))) (some (V.i .i64 (-1), [some (Blk.box [V.i .i64 x])])) (some (V.i .i64 (firstP (fun z =>
 z.fst == (3 : Int) && z.snd.snd.snd.snd.snd.fst == x) (0 : Nat) (List.drop (0 : Nat) l)), [some (Blk.box [V.i .i64 x])])))) : _) := by kernel_rfl
  rw [e, ifT_true (decide_eq_true ⟨by omega, by omega, hx, rfl⟩)]
  simp only [Int.toNat_zero, List.drop_zero]
  by_cases q : firstP (fun z : Ins => z.1 == 3 && z.2.2.2.2.2.1 == x) 0 l < 0
  · rw [ifB_true (decide_eq_true q), firstP_neg _ _ _ q]
  · rw [ifB_false (decide_eq_false q)]
theorem led_idx  : Contract Try.prog 211 (Ent.own lediG).F := by
  refine fun_contract' (KnowsL.cons (enters_fn Try.func187 (by kernel_rfl) (by kernel_rfl)) ledC_con KnowsL.nil).knows (Λ := (look [(2, ledE)])) Try.func211 (c := Try.f211.body.getD .skip) (by kernel_rfl) fun vs bs r h hv hb => ?_
  unfold Ent.F lediG at h
  dsimp only at h
  split at h
  · rename_i l x
    have h' := h
    exact ⟨led_ok , (led_fun x l (hv (.sl (.pair (.int .i64) (.pair (.int .i64) (.pair (.int .i64) (.pair (.int .i64) (.pair .str (.pair (.int .i64) .unit)))))) l) (by simp)).1).trans (by cases h'; rfl)⟩
  · cases h
theorem led_hfun  (x : Int) (l : List (Ins)) : funK Try.prog (look [(211, .own lediG)]) (look []) Try.f186 [.sl (.pair (.int .i64) (.pair (.int .i64) (.pair (.int .i64) (.pair (.int .i64) (.pair .str (.pair (.int .i64) .unit)))))) l, .fn 187 [] [.ptr 0 0]] [.box [.i .i64 x]] = some (.b (l.any (fun z : Ins => z.1 == 3 && z.2.2.2.2.2.1 == x)), [some (.box [.i .i64 x])]) := by
  have e : funK Try.prog (look [(211, .own lediG)]) (look []) Try.f186 [.sl (.pair (.int .i64) (.pair (.int .i64) (.pair (.int .i64) (.pair (.int .i64) (.pair .str (.pair (.int .i64) .unit)))))) l, .fn 187 [] [.ptr 0 0]] [.box [.i .i64 x]] =
    ((some (V.b (decide (firstP (fun z => z.fst == (3 : Int) && z.snd.snd.snd.snd.snd.fst == x) (0 : Nat) l ≥ (0 : Int))), [some (Blk.box [V.i .i64 x])])) : _) := by kernel_rfl
  rw [e]
  skip
  rw [firstP_any]
theorem led_has  : Contract Try.prog 186 (Ent.own ledhG).F := by
  refine fun_contract' (KnowsL.cons (enters_fn Try.func211 (by kernel_rfl) (by kernel_rfl)) (led_idx ) KnowsL.nil).knows (Λ := look []) Try.func186 (c := Try.f186.body.getD .skip) (by kernel_rfl) fun vs bs r h hv hb => ?_
  unfold Ent.F ledhG at h
  dsimp only at h
  split at h
  · rename_i l x
    have h' := h
    exact ⟨loopsOk_nil _, (led_hfun x l).trans (by cases h'; rfl)⟩
  · cases h
theorem led_any (l : List Ins) (k : Int) : (l.any fun z : Ins => z.1 == 3 && z.2.2.2.2.2.1 == k) = ledB l k := by
  unfold ledB isJ
  induction l with
  | nil => rfl
  | cons z l ih =>
    rw [List.any_cons, List.all_cons, ih, Bool.not_and, Bool.not_not]
theorem iled_fun (l : List Ins) (k : Int) : funK Try.prog (look [(186, .own ledhG)]) (look []) Try.f147 [.sl (.pair (.int .i64) (.pair (.int .i64) (.pair (.int .i64) (.pair (.int .i64) (.pair .str (.pair (.int .i64) .unit)))))) l, .i .i64 k] [] = some (.b (ledB l k), []) := by
  have e : funK Try.prog (look [(186, .own ledhG)]) (look []) Try.f147 [.sl (.pair (.int .i64) (.pair (.int .i64) (.pair (.int .i64) (.pair (.int .i64) (.pair .str (.pair (.int .i64) .unit)))))) l, .i .i64 k] [] = ((some (V.b (l.any fun z => z.fst == (3 : Int) && z.snd.snd.snd.snd.snd.fst == k), [])) : _) := by kernel_rfl
  rw [e]
  clear e
  rw [led_any]
theorem iled : Contract Try.prog 147 (Ent.rd1 iledG).F := by
  refine fun_contract' (KnowsL.cons (enters_fn Try.func186 (by kernel_rfl) (by kernel_rfl)) led_has KnowsL.nil).knows (Λ := look []) Try.func147 (c := Try.f147.body.getD .skip) (by kernel_rfl) fun vs bs r' hq hv hb => ?_
  unfold Ent.F iledG at hq
  dsimp only at hq
  split at hq
  · exact ⟨loopsOk_nil _, (iled_fun _ _).trans hq⟩
  · cases hq
theorem cloneIns_fun (l : List Ins) (h : l.length ≤ 1000000000) : funN Try.prog (look []) (look []) Try.f96 [.sl (.pair (.int .i64) (.pair (.int .i64) (.pair (.int .i64) (.pair (.int .i64) (.pair .str (.pair (.int .i64) .unit)))))) l] [] = some (.ref 0 0 l.length, [some (.row false none (.pair (.int .i64) (.pair (.int .i64) (.pair (.int .i64) (.pair (.int .i64) (.pair .str (.pair (.int .i64) .unit)))))) l)]) := by
  have e : funN Try.prog (look []) (look []) Try.f96 [.sl (.pair (.int .i64) (.pair (.int .i64) (.pair (.int .i64) (.pair (.int .i64) (.pair .str (.pair (.int .i64) .unit)))))) l] [] =
    ((shr (nilT ((Cd.int .i64).pair ((Cd.int .i64).pair ((Cd.int .i64).pair ((Cd.int .i64).pair (Cd.str.pair ((Cd.int .i64).pair Cd.unit)))))).den ++ l) fun sh1 => ifB (decide
 ((0 : Nat) < l.length)) (ifT (decide (((0 : Nat) + l.length) * (56 : Nat) ≤ (140737488355328 : Nat)) && decide ((0 : Nat) + l.length ≤ maxI)) (some (V.ref 0 0 ((0 : Nat)
 + l.length), [some (Blk.row false none ((Cd.int .i64).pair ((Cd.int .i64).pair ((Cd.int .i64).pair ((Cd.int .i64).pair (Cd.str.pair ((Cd.int .i64).pair Cd.unit))))))
 sh1)]))) (joinK (some (V.ref 0 0 0, [some (Blk.row false none ((Cd.int .i64).pair ((Cd.int .i64).pair ((Cd.int .i64).pair ((Cd.int .i64).pair (Cd.str.pair ((Cd.int
 .i64).pair Cd.unit)))))) (nilT ((Cd.int .i64).pair ((Cd.int .i64).pair ((Cd.int .i64).pair ((Cd.int .i64).pair (Cd.str.pair ((Cd.int .i64).pair Cd.unit)))))).den))]))
 (ifT (decide (((0 : Nat) + l.length) * (56 : Nat) ≤ (140737488355328 : Nat)) && decide ((0 : Nat) + l.length ≤ maxI)) (some (V.ref 0 0 ((0 : Nat) + l.length), [some
 (Blk.row false none ((Cd.int .i64).pair ((Cd.int .i64).pair ((Cd.int .i64).pair ((Cd.int .i64).pair (Cd.str.pair ((Cd.int .i64).pair Cd.unit)))))) sh1)]))))) : _) := by kernel_rfl
  rw [e]
  dsimp only [shr]
  by_cases q : 0 < l.length
  · rw [ifB_true (decide_eq_true q), ifT_true (by simp [maxI]; omega)]; simp
  · obtain rfl : l = [] := List.eq_nil_of_length_eq_zero (by omega)
    rw [ifB_false (by simp), joinK_eq] <;> simp [maxI]
theorem cloneIns : Contract Try.prog 96 (Ent.rd1 cloneInsG).F := by
  refine fun_contractN' (KnowsL.nil).knows (Λ := look []) Try.func96 (c := Try.f96.body.getD .skip) (by kernel_rfl) fun vs bs r h hv hb => ?_
  unfold Ent.F cloneInsG at h
  dsimp only at h
  split at h
  · rename_i l
    obtain ⟨hc, h⟩ := need_some h
    exact ⟨loopsOk_nil _, (cloneIns_fun l (of_decide_eq_true hc)).trans h⟩
  · cases h

/-- The fields from a place on. -/
def rdL (s : List UInt8) : Nat → Nat → List Pl → Option (List Pl)
  | 0, a, o => if a < s.length then none else some o
  | f + 1, a, o => if a < s.length then (if (tfAt s a).2.2.2 = true ∧ o.length ≠ 40 then rdL s f (tfAt s a).2.2.1.toNat (o ++ [((tfAt s a).1, (a : Int), ())]) else none) else some o
def rdP (s : List UInt8) : Option (List Pl) := if s.length ≤ 400 then rdL s s.length 0 [] else none
def rdpG : List V → List Blk → Br (V × List (Option Blk))
  | [.s s], [] => .need (decide (s.length ≤ 4000000000)) (.leaf (.tup [.ref 0 0 ((rdP s).getD []).length, .b (rdP s).isSome], [some (.row false none (.pair (.pair (.int .i64) (.pair (.int .i64) (.pair (.int .i64) (.pair .str .unit)))) (.pair (.int .i64) .unit)) ((rdP s).getD []))]))
  | _, _ => .no
def rdpE : LoopEnt := ⟨37, [0,4,5], [4], [2,3], fun
  | ([.s s, .ref 0 0 n, .i .i64 a], [some (.row false none (.pair (.pair (.int .i64) (.pair (.int .i64) (.pair (.int .i64) (.pair .str .unit)))) (.pair (.int .i64) .unit)) o)]) => .need (decide (0 ≤ a ∧ a.toNat ≤ s.length ∧ s.length ≤ 400 ∧ n = o.length ∧ o.length ≤ a.toNat)) (.br (rdL s (s.length - a.toNat) a.toNat o).isSome (.leaf (.exit 0, ([.ref 0 0 ((rdL s (s.length - a.toNat) a.toNat o).getD []).length], [some (.row false none (.pair (.pair (.int .i64) (.pair (.int .i64) (.pair (.int .i64) (.pair .str .unit)))) (.pair (.int .i64) .unit)) ((rdL s (s.length - a.toNat) a.toNat o).getD []))]))) (.leaf (.ret, ([.ref 0 0 0, .b false], [some (.row false none (.pair (.pair (.int .i64) (.pair (.int .i64) (.pair (.int .i64) (.pair .str .unit)))) (.pair (.int .i64) .unit)) [])]))))
  | _ => .no⟩

theorem rdp_round (s : List UInt8) (n : Nat) (a : Int) (o : List Pl) : roundK Try.prog (look [(183, .rd1 tfG)]) (look [(5, rdpE)]) 0 (body Try.f140 0) rdpE ([.s s, .ref 0 0 n, .i .i64 a], [some (.row false none (.pair (.pair (.int .i64) (.pair (.int .i64) (.pair (.int .i64) (.pair .str .unit)))) (.pair (.int .i64) .unit)) o)]) =
  ((ifB (decide (a < (↑s.length : Int))) (ifT (decide ((0 : Int) ≤ a ∧ s.length ≤ (4000000000 : Nat) ∧ a ≤ (4000000000 : Int))) (ifB (!(tfAt s a.toNat).snd.snd.snd) (some
 (Ex.ret, [V.ref 0 0 0, V.b false], [some (Blk.row false none (((Cd.int .i64).pair ((Cd.int .i64).pair ((Cd.int .i64).pair (Cd.str.pair Cd.unit)))).pair ((Cd.int
 .i64).pair Cd.unit)) (nilT (((Cd.int .i64).pair ((Cd.int .i64).pair ((Cd.int .i64).pair (Cd.str.pair Cd.unit)))).pair ((Cd.int .i64).pair Cd.unit)).den))])) (ifB ((↑n :
 Int) == (40 : Int)) (some (Ex.ret, [V.ref 0 0 0, V.b false], [some (Blk.row false none (((Cd.int .i64).pair ((Cd.int .i64).pair ((Cd.int .i64).pair (Cd.str.pair
 Cd.unit)))).pair ((Cd.int .i64).pair Cd.unit)) (nilT (((Cd.int .i64).pair ((Cd.int .i64).pair ((Cd.int .i64).pair (Cd.str.pair Cd.unit)))).pair ((Cd.int .i64).pair
 Cd.unit)).den))])) (ifT (decide ((n + (1 : Nat)) * (48 : Nat) ≤ (140737488355328 : Nat)) && decide (n + (1 : Nat) ≤ maxI)) (some (Ex.normal, [V.s s, V.ref 0 0 (n + (1 :
 Nat)), V.i .i64 (tfAt s a.toNat).snd.snd.fst], [some (Blk.row false none (((Cd.int .i64).pair ((Cd.int .i64).pair ((Cd.int .i64).pair (Cd.str.pair Cd.unit)))).pair
 ((Cd.int .i64).pair Cd.unit)) (List.take n (List.drop (0 : Nat) o) ++ (((tfAt s a.toNat).fst.fst, (tfAt s a.toNat).fst.snd.fst, (tfAt s a.toNat).fst.snd.snd.fst, (tfAt s
 a.toNat).fst.snd.snd.snd.fst, ()), (tfAt s a.toNat).snd.fst, ()) :: nilT (((Cd.int .i64).pair ((Cd.int .i64).pair ((Cd.int .i64).pair (Cd.str.pair Cd.unit)))).pair
 ((Cd.int .i64).pair Cd.unit)).den))])))))) (some (Ex.exit 0, [V.ref 0 0 n], [some (Blk.row false none (((Cd.int .i64).pair ((Cd.int .i64).pair ((Cd.int .i64).pair
 (Cd.str.pair Cd.unit)))).pair ((Cd.int .i64).pair Cd.unit)) o)]))) : _) := by kernel_rfl
theorem rdp_tree (s : List UInt8) : funC Try.prog (look [(183, .rd1 tfG)]) (look [(5, rdpE)]) Try.f140 [.s s] [] =
  ((ifB (decide ((↑s.length : Int) > (400 : Int))) (some (V.tup [V.ref 0 0 0, V.b false], [some (Blk.row false none (((Cd.int .i64).pair ((Cd.int .i64).pair ((Cd.int
 .i64).pair (Cd.str.pair Cd.unit)))).pair ((Cd.int .i64).pair Cd.unit)) (nilT (((Cd.int .i64).pair ((Cd.int .i64).pair ((Cd.int .i64).pair (Cd.str.pair Cd.unit)))).pair
 ((Cd.int .i64).pair Cd.unit)).den))])) (ifT (decide ((0 : Int) ≤ (0 : Int) ∧ (0 : Nat) ≤ s.length ∧ s.length ≤ (400 : Nat) ∧ (0 : Nat) = (0 : Nat) ∧ (0 : Nat) ≤ (0 :
 Nat))) (ifB (rdL s (s.length - (0 : Nat)) (0 : Nat) (nilT (((Cd.int .i64).pair ((Cd.int .i64).pair ((Cd.int .i64).pair (Cd.str.pair Cd.unit)))).pair ((Cd.int .i64).pair
 Cd.unit)).den)).isSome (some (V.tup [V.ref 0 0 ((rdL s (s.length - (0 : Nat)) (0 : Nat) (nilT (((Cd.int .i64).pair ((Cd.int .i64).pair ((Cd.int .i64).pair (Cd.str.pair
 Cd.unit)))).pair ((Cd.int .i64).pair Cd.unit)).den)).getD (nilT Pl)).length, V.b true], [some (Blk.row false none (((Cd.int .i64).pair ((Cd.int .i64).pair ((Cd.int
 .i64).pair (Cd.str.pair Cd.unit)))).pair ((Cd.int .i64).pair Cd.unit)) ((rdL s (s.length - (0 : Nat)) (0 : Nat) (nilT (((Cd.int .i64).pair ((Cd.int .i64).pair ((Cd.int
 .i64).pair (Cd.str.pair Cd.unit)))).pair ((Cd.int .i64).pair Cd.unit)).den)).getD (nilT Pl)))])) (some (V.tup [V.ref 0 0 0, V.b false], [some (Blk.row false none
 (((Cd.int .i64).pair ((Cd.int .i64).pair ((Cd.int .i64).pair (Cd.str.pair Cd.unit)))).pair ((Cd.int .i64).pair Cd.unit)) (nilT (((Cd.int .i64).pair ((Cd.int .i64).pair
 ((Cd.int .i64).pair (Cd.str.pair Cd.unit)))).pair ((Cd.int .i64).pair Cd.unit)).den))]))))) : _) := by kernel_rfl
theorem rdL_fuel (s : List UInt8) : ∀ (f f' a : Nat) (o : List Pl), s.length - a ≤ f → s.length - a ≤ f' → rdL s f a o = rdL s f' a o := by
  intro f
  induction f with
  | zero =>
    intro f' a o h1 h2
    cases f' with
    | zero => rfl
    | succ f' => rw [rdL, rdL, if_neg (by omega), if_neg (by omega)]
  | succ f ih =>
    intro f' a o h1 h2
    cases f' with
    | zero => rw [rdL, rdL, if_neg (by omega), if_neg (by omega)]
    | succ f' =>
      rw [rdL, rdL]
      by_cases q : a < s.length
      · rw [if_pos q, if_pos q]
        by_cases q2 : (tfAt s a).2.2.2 = true ∧ o.length ≠ 40
        · rw [if_pos q2, if_pos q2]
          have := tf_ok q2.1
          exact ih f' _ _ (by omega) (by omega)
        · rw [if_neg q2, if_neg q2]
      · rw [if_neg q, if_neg q]
theorem rdL_step {s : List UInt8} {a : Nat} {o : List Pl} (h : a < s.length) (h1 : (tfAt s a).2.2.2 = true) (h2 : o.length ≠ 40) : rdL s (s.length - a) a o = rdL s (s.length - (tfAt s a).2.2.1.toNat) (tfAt s a).2.2.1.toNat (o ++ [((tfAt s a).1, (a : Int), ())]) := by
  have e : s.length - a = (s.length - a - 1) + 1 := by omega
  have ht := tf_ok h1
  rw [e, rdL, if_pos h, if_pos ⟨h1, h2⟩]
  exact rdL_fuel s _ _ _ _ (by omega) (by omega)
theorem rdL_bad {s : List UInt8} {a : Nat} {o : List Pl} (h : a < s.length) (h1 : (tfAt s a).2.2.2 = false ∨ o.length = 40) : rdL s (s.length - a) a o = none := by
  have e : s.length - a = (s.length - a - 1) + 1 := by omega
  rw [e, rdL, if_pos h, if_neg]
  rintro ⟨h2, h3⟩
  rcases h1 with h1 | h1
  · rw [h1] at h2; cases h2
  · exact h3 h1
theorem rdL_end {s : List UInt8} {a : Nat} {o : List Pl} (h : s.length ≤ a) : rdL s (s.length - a) a o = some o := by
  have e : s.length - a = 0 := by omega
  rw [e, rdL, if_neg (by omega)]
theorem rdp_loop (s : List UInt8) (hs : s.length ≤ 400) : ∀ (j a : Nat) (o : List Pl), s.length - a ≤ j → a ≤ s.length → o.length ≤ a → ∀ ex d, (Br.br (rdL s (s.length - a) a o).isSome (.leaf (.exit 0, ([.ref 0 0 ((rdL s (s.length - a) a o).getD []).length], [some (.row false none (.pair (.pair (.int .i64) (.pair (.int .i64) (.pair (.int .i64) (.pair .str .unit)))) (.pair (.int .i64) .unit)) ((rdL s (s.length - a) a o).getD []))]))) (.leaf (.ret, ([.ref 0 0 0, .b false], [some (.row false none (.pair (.pair (.int .i64) (.pair (.int .i64) (.pair (.int .i64) (.pair .str .unit)))) (.pair (.int .i64) .unit)) [])]))) : Br (Ex × Dt)).run = some (ex, d) →
    Runs Try.prog (look [(183, .rd1 tfG)]) (look [(5, rdpE)]) 0 (body Try.f140 0) rdpE ([.s s, .ref 0 0 o.length, .i .i64 (a : Int)], [some (.row false none (.pair (.pair (.int .i64) (.pair (.int .i64) (.pair (.int .i64) (.pair .str .unit)))) (.pair (.int .i64) .unit)) o)]) ex d := by
  intro j
  induction j with
  | zero =>
    intro a o hj ha ho ex d h
    have hr := rdp_round s o.length a o
    rw [ifB_false (decide_eq_false (by omega))] at hr
    rw [rdL_end (by omega)] at h
    have h8 := leaf_some (show (Br.leaf (.exit 0, ([.ref 0 0 o.length], [some (.row false none (.pair (.pair (.int .i64) (.pair (.int .i64) (.pair (.int .i64) (.pair .str .unit)))) (.pair (.int .i64) .unit)) o)])) : Br (Ex × Dt)).run = some (ex, d) from h)
    obtain ⟨rfl, rfl⟩ := Prod.mk.inj h8
    exact .stop _ _ _ hr (by simp)
  | succ j ih =>
    intro a o hj ha ho ex d h
    have hr := rdp_round s o.length a o
    have hM : maxI = 9223372036854775807 := rfl
    by_cases q : a < s.length
    · rw [ifB_true (decide_eq_true (by omega)), ifT_true (decide_eq_true (by omega)), Int.toNat_natCast] at hr
      cases hk : (tfAt s a).2.2.2 with
      | false =>
        rw [hk, Bool.not_false, ifB_t] at hr
        rw [rdL_bad q (.inl hk)] at h
        have h8 := leaf_some (show (Br.leaf (.ret, ([.ref 0 0 0, .b false], [some (.row false none (.pair (.pair (.int .i64) (.pair (.int .i64) (.pair (.int .i64) (.pair .str .unit)))) (.pair (.int .i64) .unit)) [])])) : Br (Ex × Dt)).run = some (ex, d) from h)
        obtain ⟨rfl, rfl⟩ := Prod.mk.inj h8
        exact .stop _ _ _ hr (by simp)
      | true =>
        obtain ⟨t1, t2, t3, t4⟩ := tf_ok hk
        rw [hk, Bool.not_true, ifB_f] at hr
        by_cases q2 : o.length = 40
        · rw [ifB_true (by rw [q2]; rfl)] at hr
          rw [rdL_bad q (.inr q2)] at h
          have h8 := leaf_some (show (Br.leaf (.ret, ([.ref 0 0 0, .b false], [some (.row false none (.pair (.pair (.int .i64) (.pair (.int .i64) (.pair (.int .i64) (.pair .str .unit)))) (.pair (.int .i64) .unit)) [])])) : Br (Ex × Dt)).run = some (ex, d) from h)
          obtain ⟨rfl, rfl⟩ := Prod.mk.inj h8
          exact .stop _ _ _ hr (by simp)
        · rw [ifB_false (by simpa using fun e => q2 (by omega)), ifT_true (by simp only [Bool.and_eq_true, decide_eq_true_eq]; omega), List.drop_zero, List.take_length, t4] at hr
          rw [rdL_step q hk q2] at h
          obtain ⟨b, hb⟩ := Int.eq_ofNat_of_zero_le (a := (tfAt s a).2.2.1) (by omega)
          rw [hb] at hr h t2 t3
          rw [Int.toNat_natCast] at h
          have := ih b (o ++ [((tfAt s a).1, (a : Int), ())]) (by omega) (by omega) (by simp; omega) ex d h
          rw [List.length_append] at this
          exact .step _ _ _ _ hr this
    · rw [ifB_false (decide_eq_false (by omega))] at hr
      rw [rdL_end (by omega)] at h
      have h8 := leaf_some (show (Br.leaf (.exit 0, ([.ref 0 0 o.length], [some (.row false none (.pair (.pair (.int .i64) (.pair (.int .i64) (.pair (.int .i64) (.pair .str .unit)))) (.pair (.int .i64) .unit)) o)])) : Br (Ex × Dt)).run = some (ex, d) from h)
      obtain ⟨rfl, rfl⟩ := Prod.mk.inj h8
      exact .stop _ _ _ hr (by simp)
theorem rdp_ok : LoopsOk Try.prog (look [(183, .rd1 tfG)]) (look [(5, rdpE)]) 0 (Try.f140.body.getD .skip) := by
  refine loopsOk_one (a := body Try.f140 0) (by kernel_rfl) fun d ex d' h => ?_
  unfold rdpE at h
  dsimp only at h
  split at h
  · rename_i s n a o
    obtain ⟨hc, hx⟩ := need_some h
    clear h
    obtain ⟨h0, h1, h2, rfl, h4⟩ := of_decide_eq_true hc
    obtain ⟨a, rfl⟩ := Int.eq_ofNat_of_zero_le h0
    simp only [Int.toNat_natCast] at h1 h4 hx
    exact rdp_loop s h2 _ a o (Nat.le_refl _) h1 h4 ex d' hx
  · cases h
theorem rdp : Contract Try.prog 140 (Ent.rd1 rdpG).F := by
  refine fun_contractC' (KnowsL.cons (enters_fn Try.func183 (by kernel_rfl) (by kernel_rfl)) itf KnowsL.nil).knows (Λ := (look [(5, rdpE)])) Try.func140 (c := Try.f140.body.getD .skip) (by kernel_rfl) fun vs bs r hq hv hb => ?_
  unfold Ent.F rdpG at hq
  dsimp only at hq
  split at hq
  · rename_i s
    obtain ⟨hc, hx⟩ := need_some hq
    refine ⟨rdp_ok, Eq.trans ?_ hx⟩
    rw [rdp_tree]
    unfold rdP
    by_cases q : s.length ≤ 400
    · rw [ifB_false (decide_eq_false (by omega)), if_pos q, ifT_true (decide_eq_true ⟨by omega, by omega, q, rfl, by omega⟩), Nat.sub_zero]
      simp only [nilT_eq]
      cases rdL s s.length 0 [] <;> rfl
    · rw [ifB_true (decide_eq_true (by omega)), if_neg q]; rfl
  · cases hq

/-- Numbers that rise. -/
def riseI (ns : List Int) (i : Nat) : Bool := i == 0 || decide (ns.getD (i - 1) 0 < ns.getD i 0)
def rise (ns : List Int) : Bool := (List.range ns.length).all (riseI ns)
def nosP (l : List Pl) : List Int := l.map fun x => x.1.1
def nosF (l : List WFd) : List Int := l.map fun x => x.1
/-- Fields that rise. -/
def risP (s : List UInt8) : Option (List Pl) := match rdP s with | some l => (if rise (nosP l) = true then some l else none) | none => none
def risE : LoopEnt := ⟨39, [4,15,16], [4], [2,3], fun
  | ([.ref 0 0 m, .i .i64 k, .i .i64 i], [some (.row false none (.pair (.pair (.int .i64) (.pair (.int .i64) (.pair (.int .i64) (.pair .str .unit)))) (.pair (.int .i64) .unit)) o)]) => .need (decide (0 ≤ i ∧ i.toNat ≤ o.length ∧ m = o.length ∧ k = o.length ∧ o.length ≤ 4000000000)) (.br (((List.range o.length).drop i.toNat).all (riseI (nosP o))) (.leaf (.exit 0, ([.ref 0 0 o.length], [some (.row false none (.pair (.pair (.int .i64) (.pair (.int .i64) (.pair (.int .i64) (.pair .str .unit)))) (.pair (.int .i64) .unit)) o)]))) (.leaf (.ret, ([.ref 0 0 0, .b false], [some (.row false none (.pair (.pair (.int .i64) (.pair (.int .i64) (.pair (.int .i64) (.pair .str .unit)))) (.pair (.int .i64) .unit)) [])]))))
  | _ => .no⟩
def risG : List V → List Blk → Br (V × List (Option Blk))
  | [.s s], [] => .need (decide (s.length ≤ 4000000000)) (.leaf (.tup [.ref 0 0 ((risP s).getD []).length, .b (risP s).isSome], [some (.row false none (.pair (.pair (.int .i64) (.pair (.int .i64) (.pair (.int .i64) (.pair .str .unit)))) (.pair (.int .i64) .unit)) ((risP s).getD []))]))
  | _, _ => .no

theorem ris_round (m : Nat) (k i : Int) (o : List Pl) : roundK Try.prog (look [(140, .rd1 rdpG)]) (look [(5, risE)]) 0 (body Try.f89 0) risE ([.ref 0 0 m, .i .i64 k, .i .i64 i], [some (.row false none (.pair (.pair (.int .i64) (.pair (.int .i64) (.pair (.int .i64) (.pair .str .unit)))) (.pair (.int .i64) .unit)) o)]) =
  ((ifB (decide (i < k)) (ifB (decide (i > (0 : Int))) (ifT (decide ((0 : Int) ≤ IntKind.i64.wrap (i - (1 : Int))) && decide (IntKind.i64.wrap (i - (1 : Int)) < (↑m : Int)))
 (ifSome o[(0 : Nat) + (IntKind.i64.wrap (i - (1 : Int))).toNat]? fun z => ifT (decide ((0 : Int) ≤ i) && decide (i < (↑m : Int))) (ifSome o[(0 : Nat) + i.toNat]? fun z_1
 => ifB (decide (z.fst.fst ≥ z_1.fst.fst)) (some (Ex.ret, [V.ref 0 0 0, V.b false], [some (Blk.row false none (((Cd.int .i64).pair ((Cd.int .i64).pair ((Cd.int .i64).pair
 (Cd.str.pair Cd.unit)))).pair ((Cd.int .i64).pair Cd.unit)) (nilT (((Cd.int .i64).pair ((Cd.int .i64).pair ((Cd.int .i64).pair (Cd.str.pair Cd.unit)))).pair ((Cd.int
 .i64).pair Cd.unit)).den))])) (some (Ex.normal, [V.ref 0 0 m, V.i .i64 k, V.i .i64 (IntKind.i64.wrap (i + (1 : Int)))], [some (Blk.row false none (((Cd.int .i64).pair
 ((Cd.int .i64).pair ((Cd.int .i64).pair (Cd.str.pair Cd.unit)))).pair ((Cd.int .i64).pair Cd.unit)) o)]))))) (some (Ex.normal, [V.ref 0 0 m, V.i .i64 k, V.i .i64
 (IntKind.i64.wrap (i + (1 : Int)))], [some (Blk.row false none (((Cd.int .i64).pair ((Cd.int .i64).pair ((Cd.int .i64).pair (Cd.str.pair Cd.unit)))).pair ((Cd.int
 .i64).pair Cd.unit)) o)]))) (some (Ex.exit 0, [V.ref 0 0 m], [some (Blk.row false none (((Cd.int .i64).pair ((Cd.int .i64).pair ((Cd.int .i64).pair (Cd.str.pair
 Cd.unit)))).pair ((Cd.int .i64).pair Cd.unit)) o)]))) : _) := by kernel_rfl
theorem ris_tree (s : List UInt8) : funC Try.prog (look [(140, .rd1 rdpG)]) (look [(5, risE)]) Try.f89 [.s s] [] =
  ((ifT (decide (s.length ≤ (4000000000 : Nat))) (ifB (!(rdP s).isSome) (some (V.tup [V.ref 0 0 0, V.b false], [some (Blk.row false none (((Cd.int .i64).pair ((Cd.int
 .i64).pair ((Cd.int .i64).pair (Cd.str.pair Cd.unit)))).pair ((Cd.int .i64).pair Cd.unit)) (nilT (((Cd.int .i64).pair ((Cd.int .i64).pair ((Cd.int .i64).pair (Cd.str.pair
 Cd.unit)))).pair ((Cd.int .i64).pair Cd.unit)).den))])) (ifT (decide ((0 : Int) ≤ (0 : Int) ∧ (0 : Nat) ≤ ((rdP s).getD (nilT Pl)).length ∧ ((rdP s).getD (nilT
 Pl)).length = ((rdP s).getD (nilT Pl)).length ∧ (↑((rdP s).getD (nilT Pl)).length : Int) = (↑((rdP s).getD (nilT Pl)).length : Int) ∧ ((rdP s).getD (nilT Pl)).length ≤
 (4000000000 : Nat))) (ifB ((List.drop (0 : Nat) (List.range ((rdP s).getD (nilT Pl)).length)).all (riseI (nosP ((rdP s).getD (nilT Pl))))) (some (V.tup [V.ref 0 0 ((rdP
 s).getD (nilT Pl)).length, V.b true], [some (Blk.row false none (((Cd.int .i64).pair ((Cd.int .i64).pair ((Cd.int .i64).pair (Cd.str.pair Cd.unit)))).pair ((Cd.int
 .i64).pair Cd.unit)) ((rdP s).getD (nilT Pl)))])) (some (V.tup [V.ref 0 0 0, V.b false], [some (Blk.row false none (((Cd.int .i64).pair ((Cd.int .i64).pair ((Cd.int
 .i64).pair (Cd.str.pair Cd.unit)))).pair ((Cd.int .i64).pair Cd.unit)) (nilT (((Cd.int .i64).pair ((Cd.int .i64).pair ((Cd.int .i64).pair (Cd.str.pair Cd.unit)))).pair
 ((Cd.int .i64).pair Cd.unit)).den))])))))) : _) := by kernel_rfl
theorem ris_loop (o : List Pl) (hm : o.length ≤ 4000000000) : ∀ (j i : Nat), i + j = o.length → ∀ ex d, (Br.br (((List.range o.length).drop i).all (riseI (nosP o))) (.leaf (.exit 0, ([.ref 0 0 o.length], [some (.row false none (.pair (.pair (.int .i64) (.pair (.int .i64) (.pair (.int .i64) (.pair .str .unit)))) (.pair (.int .i64) .unit)) o)]))) (.leaf (.ret, ([.ref 0 0 0, .b false], [some (.row false none (.pair (.pair (.int .i64) (.pair (.int .i64) (.pair (.int .i64) (.pair .str .unit)))) (.pair (.int .i64) .unit)) [])]))) : Br (Ex × Dt)).run = some (ex, d) →
    Runs Try.prog (look [(140, .rd1 rdpG)]) (look [(5, risE)]) 0 (body Try.f89 0) risE ([.ref 0 0 o.length, .i .i64 (o.length : Int), .i .i64 (i : Int)], [some (.row false none (.pair (.pair (.int .i64) (.pair (.int .i64) (.pair (.int .i64) (.pair .str .unit)))) (.pair (.int .i64) .unit)) o)]) ex d
  | 0, i, hi, ex, d, h => by
    have hr := ris_round o.length o.length i o
    rw [ifB_false (decide_eq_false (by omega))] at hr
    rw [List.drop_eq_nil_of_le (by simp; omega)] at h
    have h8 := leaf_some (show (Br.leaf (.exit 0, ([.ref 0 0 o.length], [some (.row false none (.pair (.pair (.int .i64) (.pair (.int .i64) (.pair (.int .i64) (.pair .str .unit)))) (.pair (.int .i64) .unit)) o)])) : Br (Ex × Dt)).run = some (ex, d) from h)
    obtain ⟨rfl, rfl⟩ := Prod.mk.inj h8
    exact .stop _ _ _ hr (by simp)
  | j + 1, i, hi, ex, d, h => by
    have hl : i < o.length := by omega
    have hM : maxI = 9223372036854775807 := rfl
    have hr := ris_round o.length o.length i o
    have hd : (List.range o.length).drop i = i :: (List.range o.length).drop (i + 1) := by
      rw [List.drop_eq_getElem_cons (by simpa using hl)]
      simp
    rw [hd, List.all_cons] at h
    rw [ifB_true (decide_eq_true (by omega)), wrap_succ (n := i) (by omega)] at hr
    have gA : ∀ {x : Nat} (hx : x < o.length), (nosP o).getD x 0 = o[x].1.1 := fun hx => by unfold nosP; simp [hx]
    skip
    by_cases q0 : i = 0
    · subst q0
      rw [ifB_false (decide_eq_false (by omega))] at hr
      have e0 : riseI (nosP o) 0 = true := rfl
      rw [e0, Bool.true_and] at h
      exact .step _ _ _ _ hr (ris_loop o hm j 1 (by omega) ex d h)
    · have hw : IntKind.i64.wrap ((i : Int) - 1) = ((i - 1 : Nat) : Int) := by rw [wrap_id (by omega) (by omega)]; omega
      have hl1 : i - 1 < o.length := by omega
      rw [ifB_true (decide_eq_true (by omega)), hw, ifT_true (by simp only [Bool.and_eq_true, decide_eq_true_eq]; omega), Int.toNat_natCast, Nat.zero_add, List.getElem?_eq_getElem hl1, ifSome_s] at hr
      rw [ifT_true (by simp only [Bool.and_eq_true, decide_eq_true_eq]; omega), Int.toNat_natCast, Nat.zero_add, List.getElem?_eq_getElem hl, ifSome_s] at hr
      have er : riseI (nosP o) i = decide (o[i - 1].1.1 < o[i].1.1) := by
        unfold riseI
        rw [gA hl1, gA hl, beq_false_of_ne q0, Bool.false_or]
      rw [er] at h
      by_cases q : o[i - 1].1.1 < o[i].1.1
      · rw [ifB_false (decide_eq_false (by omega))] at hr
        rw [decide_eq_true q, Bool.true_and] at h
        exact .step _ _ _ _ hr (ris_loop o hm j (i + 1) (by omega) ex d h)
      · rw [ifB_true (decide_eq_true (by omega))] at hr
        rw [decide_eq_false q, Bool.false_and] at h
        have h8 := leaf_some (show (Br.leaf (.ret, ([.ref 0 0 0, .b false], [some (.row false none (.pair (.pair (.int .i64) (.pair (.int .i64) (.pair (.int .i64) (.pair .str .unit)))) (.pair (.int .i64) .unit)) [])])) : Br (Ex × Dt)).run = some (ex, d) from h)
        obtain ⟨rfl, rfl⟩ := Prod.mk.inj h8
        exact .stop _ _ _ hr (by simp)
theorem ris_ok : LoopsOk Try.prog (look [(140, .rd1 rdpG)]) (look [(5, risE)]) 0 (Try.f89.body.getD .skip) := by
  refine loopsOk_one (a := body Try.f89 0) (by kernel_rfl) fun d ex d' h => ?_
  unfold risE at h
  dsimp only at h
  split at h
  · rename_i m k i o
    obtain ⟨hc, hx⟩ := need_some h
    clear h
    obtain ⟨h0, h1, rfl, rfl, h4⟩ := of_decide_eq_true hc
    obtain ⟨i, rfl⟩ := Int.eq_ofNat_of_zero_le h0
    simp only [Int.toNat_natCast] at h1 hx
    exact ris_loop o h4 (o.length - i) i (by omega) ex d' hx
  · cases h
theorem rdL_len {s : List UInt8} : ∀ (f a : Nat) (o l : List Pl), o.length ≤ 40 → rdL s f a o = some l → l.length ≤ 40
  | 0, a, o, l, h, e => by
    rw [rdL] at e
    split at e
    · cases e
    · cases e; exact h
  | f + 1, a, o, l, h, e => by
    rw [rdL] at e
    split at e
    · split at e
      · rename_i h2
        exact rdL_len f _ _ l (by have := h2.2; simp; omega) e
      · cases e
    · cases e; exact h
theorem rdP_len {s : List UInt8} {l : List Pl} (h : rdP s = some l) : l.length ≤ 40 ∧ s.length ≤ 400 := by
  unfold rdP at h
  split at h
  · rename_i h1
    exact ⟨rdL_len _ _ _ l (by simp) h, h1⟩
  · cases h
theorem ris : Contract Try.prog 89 (Ent.rd1 risG).F := by
  refine fun_contractC' (KnowsL.cons (enters_fn Try.func140 (by kernel_rfl) (by kernel_rfl)) rdp KnowsL.nil).knows (Λ := (look [(5, risE)])) Try.func89 (c := Try.f89.body.getD .skip) (by kernel_rfl) fun vs bs r hq hv hb => ?_
  unfold Ent.F risG at hq
  dsimp only at hq
  split at hq
  · rename_i s
    obtain ⟨hc, hx⟩ := need_some hq
    refine ⟨ris_ok, Eq.trans ?_ hx⟩
    rw [ris_tree, ifT_true hc]
    unfold risP
    cases e : rdP s with
    | none => rfl
    | some l =>
      have hl := (rdP_len e).1
      dsimp only [Option.isSome_some, Option.getD_some]
      rw [Bool.not_true, ifB_f, ifT_true (decide_eq_true ⟨by omega, by omega, rfl, rfl, by omega⟩), List.drop_zero]
      unfold rise
      rw [show (nosP l).length = l.length by unfold nosP; simp]
      cases (List.range l.length).all (riseI (nosP l)) <;> rfl
  · cases hq

/-- The fields from a place on, as the reference tells them. -/
def rdF (s : List UInt8) : Nat → Nat → List WFd → Option (List WFd)
  | 0, a, o => if a < s.length then none else some o
  | f + 1, a, o => if a < s.length then (if (tfAt s a).2.2.2 = true ∧ o.length ≠ 40 then rdF s f (tfAt s a).2.2.1.toNat (o ++ [(tfAt s a).1]) else none) else some o
def rdfP (s : List UInt8) : Option (List WFd) := rdF s s.length 0 []
def rdfQ (s : List UInt8) : Option (List WFd) := if s.length ≤ 400 then rdfP s else none
def risF (s : List UInt8) : Option (List WFd) := match rdfQ s with | some l => (if rise (nosF l) = true then some l else none) | none => none
def rdfE : LoopEnt := ⟨76, [0,4,5], [4], [2,3], fun
  | ([.s s, .ref 0 0 n, .i .i64 a], [some (.row false none (.pair (.int .i64) (.pair (.int .i64) (.pair (.int .i64) (.pair .str .unit)))) o)]) => .need (decide (0 ≤ a ∧ a.toNat ≤ s.length ∧ s.length ≤ 4000000000 ∧ n = o.length ∧ o.length ≤ a.toNat)) (.br (rdF s (s.length - a.toNat) a.toNat o).isSome (.leaf (.exit 0, ([.ref 0 0 ((rdF s (s.length - a.toNat) a.toNat o).getD []).length], [some (.row false none (.pair (.int .i64) (.pair (.int .i64) (.pair (.int .i64) (.pair .str .unit)))) ((rdF s (s.length - a.toNat) a.toNat o).getD []))]))) (.leaf (.ret, ([.ref 0 0 0, .b false], [some (.row false none (.pair (.int .i64) (.pair (.int .i64) (.pair (.int .i64) (.pair .str .unit)))) [])]))))
  | _ => .no⟩
def rdfG : List V → List Blk → Br (V × List (Option Blk))
  | [.s s], [] => .need (decide (s.length ≤ 4000000000)) (.leaf (.tup [.ref 0 0 ((rdfP s).getD []).length, .b (rdfP s).isSome], [some (.row false none (.pair (.int .i64) (.pair (.int .i64) (.pair (.int .i64) (.pair .str .unit)))) ((rdfP s).getD []))]))
  | _, _ => .no
def rdqG : List V → List Blk → Br (V × List (Option Blk))
  | [.s s], [] => .need (decide (s.length ≤ 4000000000)) (.leaf (.tup [.ref 0 0 ((rdfQ s).getD []).length, .b (rdfQ s).isSome], [some (.row false none (.pair (.int .i64) (.pair (.int .i64) (.pair (.int .i64) (.pair .str .unit)))) ((rdfQ s).getD []))]))
  | _, _ => .no
def risfG : List V → List Blk → Br (V × List (Option Blk))
  | [.s s], [] => .need (decide (s.length ≤ 4000000000)) (.leaf (.tup [.ref 0 0 ((risF s).getD []).length, .b (risF s).isSome], [some (.row false none (.pair (.int .i64) (.pair (.int .i64) (.pair (.int .i64) (.pair .str .unit)))) ((risF s).getD []))]))
  | _, _ => .no
def srisE : LoopEnt := ⟨37, [4,15,16,17], [4], [2,3], fun
  | ([.ref 0 0 m, .ref 0 0 m2, .i .i64 k, .i .i64 i], [some (.row false none (.pair (.int .i64) (.pair (.int .i64) (.pair (.int .i64) (.pair .str .unit)))) o)]) => .need (decide (0 ≤ i ∧ i.toNat ≤ o.length ∧ m = o.length ∧ m2 = o.length ∧ k = o.length ∧ o.length ≤ 4000000000)) (.br (((List.range o.length).drop i.toNat).all (riseI (nosF o))) (.leaf (.exit 0, ([.ref 0 0 o.length], [some (.row false none (.pair (.int .i64) (.pair (.int .i64) (.pair (.int .i64) (.pair .str .unit)))) o)]))) (.leaf (.ret, ([.ref 0 0 0, .b false], [some (.row false none (.pair (.int .i64) (.pair (.int .i64) (.pair (.int .i64) (.pair .str .unit)))) [])]))))
  | _ => .no⟩

theorem rdf_round (s : List UInt8) (n : Nat) (a : Int) (o : List WFd) : roundK Try.prog (look [(209, .rd1 tvsG), (210, .rd1 unfG), (181, .rd1 fieldG)]) (look [(3, rdfE)]) 0 (body Try.f185 0) rdfE ([.s s, .ref 0 0 n, .i .i64 a], [some (.row false none (.pair (.int .i64) (.pair (.int .i64) (.pair (.int .i64) (.pair .str .unit)))) o)]) =
  ((ifB (decide (a < (↑s.length : Int))) (ifT (decide ((0 : Int) ≤ a ∧ s.length ≤ (4000000000 : Nat) ∧ a ≤ (4000000000 : Int))) (ifB (!tvI3 (tvAt s a.toNat)) (some (Ex.ret,
 [V.ref 0 0 0, V.b false], [some (Blk.row false none ((Cd.int .i64).pair ((Cd.int .i64).pair ((Cd.int .i64).pair (Cd.str.pair Cd.unit)))) (nilT ((Cd.int .i64).pair
 ((Cd.int .i64).pair ((Cd.int .i64).pair (Cd.str.pair Cd.unit)))).den))])) (ifT (decide ((0 : Int) ≤ tvS2 a.toNat (tvAt s a.toNat) ∧ s.length ≤ (4000000000 : Nat) ∧ tvS2
 a.toNat (tvAt s a.toNat) ≤ (4000000000 : Int))) (ifB (!tvI3 (tvAt s (tvS2 a.toNat (tvAt s a.toNat)).toNat)) (some (Ex.ret, [V.ref 0 0 0, V.b false], [some (Blk.row false
 none ((Cd.int .i64).pair ((Cd.int .i64).pair ((Cd.int .i64).pair (Cd.str.pair Cd.unit)))) (nilT ((Cd.int .i64).pair ((Cd.int .i64).pair ((Cd.int .i64).pair (Cd.str.pair
 Cd.unit)))).den))])) (ifB ((tvS1 (tvAt s a.toNat)).tmod (8 : Int) == (0 : Int)) (ifT (decide ((0 : Int) ≤ tvS1 (tvAt s (tvS2 a.toNat (tvAt s a.toNat)).toNat) ∧ tvS1 (tvAt
 s (tvS2 a.toNat (tvAt s a.toNat)).toNat) ≤ (1000000000000 : Int))) (ifB (!fieldB (IntKind.i64.wrap ((tvS1 (tvAt s a.toNat)).tdiv (8 : Int)), (tvS1 (tvAt s a.toNat)).tmod
 (8 : Int), unf (tvS1 (tvAt s (tvS2 a.toNat (tvAt s a.toNat)).toNat)), nilT UInt8, ())) (some (Ex.ret, [V.ref 0 0 0, V.b false], [some (Blk.row false none ((Cd.int
 .i64).pair ((Cd.int .i64).pair ((Cd.int .i64).pair (Cd.str.pair Cd.unit)))) (nilT ((Cd.int .i64).pair ((Cd.int .i64).pair ((Cd.int .i64).pair (Cd.str.pair
 Cd.unit)))).den))])) (ifB ((↑n : Int) == (40 : Int)) (some (Ex.ret, [V.ref 0 0 0, V.b false], [some (Blk.row false none ((Cd.int .i64).pair ((Cd.int .i64).pair ((Cd.int
 .i64).pair (Cd.str.pair Cd.unit)))) (nilT ((Cd.int .i64).pair ((Cd.int .i64).pair ((Cd.int .i64).pair (Cd.str.pair Cd.unit)))).den))])) (ifT (decide ((n + (1 : Nat)) *
 (40 : Nat) ≤ (140737488355328 : Nat)) && decide (n + (1 : Nat) ≤ maxI)) (some (Ex.normal, [V.s s, V.ref 0 0 (n + (1 : Nat)), V.i .i64 (tvS2 (tvS2 a.toNat (tvAt s
 a.toNat)).toNat (tvAt s (tvS2 a.toNat (tvAt s a.toNat)).toNat))], [some (Blk.row false none ((Cd.int .i64).pair ((Cd.int .i64).pair ((Cd.int .i64).pair (Cd.str.pair
 Cd.unit)))) (List.take n (List.drop (0 : Nat) o) ++ (IntKind.i64.wrap ((tvS1 (tvAt s a.toNat)).tdiv (8 : Int)), (tvS1 (tvAt s a.toNat)).tmod (8 : Int), unf (tvS1 (tvAt s
 (tvS2 a.toNat (tvAt s a.toNat)).toNat)), nilT UInt8, ()) :: nilT ((Cd.int .i64).pair ((Cd.int .i64).pair ((Cd.int .i64).pair (Cd.str.pair Cd.unit)))).den))])))))) (ifB
 (decide (tvS1 (tvAt s (tvS2 a.toNat (tvAt s a.toNat)).toNat) > IntKind.i64.wrap ((↑s.length : Int) - tvS2 (tvS2 a.toNat (tvAt s a.toNat)).toNat (tvAt s (tvS2 a.toNat
 (tvAt s a.toNat)).toNat)))) (some (Ex.ret, [V.ref 0 0 0, V.b false], [some (Blk.row false none ((Cd.int .i64).pair ((Cd.int .i64).pair ((Cd.int .i64).pair (Cd.str.pair
 Cd.unit)))) (nilT ((Cd.int .i64).pair ((Cd.int .i64).pair ((Cd.int .i64).pair (Cd.str.pair Cd.unit)))).den))])) (ifT (decide ((0 : Int) ≤ tvS2 (tvS2 a.toNat (tvAt s
 a.toNat)).toNat (tvAt s (tvS2 a.toNat (tvAt s a.toNat)).toNat)) && decide (tvS2 (tvS2 a.toNat (tvAt s a.toNat)).toNat (tvAt s (tvS2 a.toNat (tvAt s a.toNat)).toNat) ≤
 IntKind.i64.wrap (tvS2 (tvS2 a.toNat (tvAt s a.toNat)).toNat (tvAt s (tvS2 a.toNat (tvAt s a.toNat)).toNat) + tvS1 (tvAt s (tvS2 a.toNat (tvAt s a.toNat)).toNat))) &&
 decide (IntKind.i64.wrap (tvS2 (tvS2 a.toNat (tvAt s a.toNat)).toNat (tvAt s (tvS2 a.toNat (tvAt s a.toNat)).toNat) + tvS1 (tvAt s (tvS2 a.toNat (tvAt s a.toNat)).toNat))
 ≤ (↑s.length : Int))) (ifB (!fieldB (IntKind.i64.wrap ((tvS1 (tvAt s a.toNat)).tdiv (8 : Int)), (tvS1 (tvAt s a.toNat)).tmod (8 : Int), (0 : Int), List.take
 ((IntKind.i64.wrap (tvS2 (tvS2 a.toNat (tvAt s a.toNat)).toNat (tvAt s (tvS2 a.toNat (tvAt s a.toNat)).toNat) + tvS1 (tvAt s (tvS2 a.toNat (tvAt s
 a.toNat)).toNat))).toNat - (tvS2 (tvS2 a.toNat (tvAt s a.toNat)).toNat (tvAt s (tvS2 a.toNat (tvAt s a.toNat)).toNat)).toNat) (List.drop (tvS2 (tvS2 a.toNat (tvAt s
 a.toNat)).toNat (tvAt s (tvS2 a.toNat (tvAt s a.toNat)).toNat)).toNat s), ())) (some (Ex.ret, [V.ref 0 0 0, V.b false], [some (Blk.row false none ((Cd.int .i64).pair
 ((Cd.int .i64).pair ((Cd.int .i64).pair (Cd.str.pair Cd.unit)))) (nilT ((Cd.int .i64).pair ((Cd.int .i64).pair ((Cd.int .i64).pair (Cd.str.pair Cd.unit)))).den))])) (ifB
 ((↑n : Int) == (40 : Int)) (some (Ex.ret, [V.ref 0 0 0, V.b false], [some (Blk.row false none ((Cd.int .i64).pair ((Cd.int .i64).pair ((Cd.int .i64).pair (Cd.str.pair
 Cd.unit)))) (nilT ((Cd.int .i64).pair ((Cd.int .i64).pair ((Cd.int .i64).pair (Cd.str.pair Cd.unit)))).den))])) (ifT (decide ((n + (1 : Nat)) * (40 : Nat) ≤
 (140737488355328 : Nat)) && decide (n + (1 : Nat) ≤ maxI)) (some (Ex.normal, [V.s s, V.ref 0 0 (n + (1 : Nat)), V.i .i64 (IntKind.i64.wrap (tvS2 (tvS2 a.toNat (tvAt s
 a.toNat)).toNat (tvAt s (tvS2 a.toNat (tvAt s a.toNat)).toNat) + tvS1 (tvAt s (tvS2 a.toNat (tvAt s a.toNat)).toNat)))], [some (Blk.row false none ((Cd.int .i64).pair
 ((Cd.int .i64).pair ((Cd.int .i64).pair (Cd.str.pair Cd.unit)))) (List.take n (List.drop (0 : Nat) o) ++ (IntKind.i64.wrap ((tvS1 (tvAt s a.toNat)).tdiv (8 : Int)), (tvS1
 (tvAt s a.toNat)).tmod (8 : Int), (0 : Int), List.take ((IntKind.i64.wrap (tvS2 (tvS2 a.toNat (tvAt s a.toNat)).toNat (tvAt s (tvS2 a.toNat (tvAt s a.toNat)).toNat) +
 tvS1 (tvAt s (tvS2 a.toNat (tvAt s a.toNat)).toNat))).toNat - (tvS2 (tvS2 a.toNat (tvAt s a.toNat)).toNat (tvAt s (tvS2 a.toNat (tvAt s a.toNat)).toNat)).toNat)
 (List.drop (tvS2 (tvS2 a.toNat (tvAt s a.toNat)).toNat (tvAt s (tvS2 a.toNat (tvAt s a.toNat)).toNat)).toNat s), ()) :: nilT ((Cd.int .i64).pair ((Cd.int .i64).pair
 ((Cd.int .i64).pair (Cd.str.pair Cd.unit)))).den))])))))))))))) (some (Ex.exit 0, [V.ref 0 0 n], [some (Blk.row false none ((Cd.int .i64).pair ((Cd.int .i64).pair
 ((Cd.int .i64).pair (Cd.str.pair Cd.unit)))) o)]))) : _) := by kernel_rfl
theorem rdf_tree (s : List UInt8) : funC Try.prog (look [(209, .rd1 tvsG), (210, .rd1 unfG), (181, .rd1 fieldG)]) (look [(3, rdfE)]) Try.f185 [.s s] [] =
  ((ifT (decide ((0 : Int) ≤ (0 : Int) ∧ (0 : Nat) ≤ s.length ∧ s.length ≤ (4000000000 : Nat) ∧ (0 : Nat) = (0 : Nat) ∧ (0 : Nat) ≤ (0 : Nat))) (ifB (rdF s (s.length - (0 :
 Nat)) (0 : Nat) (nilT ((Cd.int .i64).pair ((Cd.int .i64).pair ((Cd.int .i64).pair (Cd.str.pair Cd.unit)))).den)).isSome (some (V.tup [V.ref 0 0 ((rdF s (s.length - (0 :
 Nat)) (0 : Nat) (nilT ((Cd.int .i64).pair ((Cd.int .i64).pair ((Cd.int .i64).pair (Cd.str.pair Cd.unit)))).den)).getD (nilT WFd)).length, V.b true], [some (Blk.row false
 none ((Cd.int .i64).pair ((Cd.int .i64).pair ((Cd.int .i64).pair (Cd.str.pair Cd.unit)))) ((rdF s (s.length - (0 : Nat)) (0 : Nat) (nilT ((Cd.int .i64).pair ((Cd.int
 .i64).pair ((Cd.int .i64).pair (Cd.str.pair Cd.unit)))).den)).getD (nilT WFd)))])) (some (V.tup [V.ref 0 0 0, V.b false], [some (Blk.row false none ((Cd.int .i64).pair
 ((Cd.int .i64).pair ((Cd.int .i64).pair (Cd.str.pair Cd.unit)))) (nilT ((Cd.int .i64).pair ((Cd.int .i64).pair ((Cd.int .i64).pair (Cd.str.pair Cd.unit)))).den))])))) : _) := by kernel_rfl
theorem rdF_map (s : List UInt8) : ∀ (f a : Nat) (o : List Pl), rdF s f a (o.map (·.1)) = (rdL s f a o).map (fun l => l.map (·.1))
  | 0, a, o => by
    rw [rdF, rdL]
    split <;> rfl
  | f + 1, a, o => by
    rw [rdF, rdL, List.length_map]
    split
    · split
      · have := rdF_map s f (tfAt s a).2.2.1.toNat (o ++ [((tfAt s a).1, (a : Int), ())])
        rw [List.map_append] at this
        exact this
      · rfl
    · rfl
theorem rdF_fuel (s : List UInt8) : ∀ (f f' a : Nat) (o : List WFd), s.length - a ≤ f → s.length - a ≤ f' → rdF s f a o = rdF s f' a o := by
  intro f f' a o h1 h2
  have e : o = (o.map (fun x => ((x, 0, ()) : Pl))).map (·.1) := by rw [List.map_map]; exact (List.map_id' o).symm
  rw [e, rdF_map, rdF_map, rdL_fuel s f f' a _ h1 h2]
theorem rdF_step {s : List UInt8} {a : Nat} {o : List WFd} (h : a < s.length) (h1 : (tfAt s a).2.2.2 = true) (h2 : o.length ≠ 40) : rdF s (s.length - a) a o = rdF s (s.length - (tfAt s a).2.2.1.toNat) (tfAt s a).2.2.1.toNat (o ++ [(tfAt s a).1]) := by
  have e : s.length - a = (s.length - a - 1) + 1 := by omega
  have ht := tf_ok h1
  rw [e, rdF, if_pos h, if_pos ⟨h1, h2⟩]
  exact rdF_fuel s _ _ _ _ (by omega) (by omega)
theorem rdF_bad {s : List UInt8} {a : Nat} {o : List WFd} (h : a < s.length) (h1 : (tfAt s a).2.2.2 = false ∨ o.length = 40) : rdF s (s.length - a) a o = none := by
  have e : s.length - a = (s.length - a - 1) + 1 := by omega
  rw [e, rdF, if_pos h, if_neg]
  rintro ⟨h2, h3⟩
  rcases h1 with h1 | h1
  · rw [h1] at h2; cases h2
  · exact h3 h1
theorem rdF_end {s : List UInt8} {a : Nat} {o : List WFd} (h : s.length ≤ a) : rdF s (s.length - a) a o = some o := by
  have e : s.length - a = 0 := by omega
  rw [e, rdF, if_neg (by omega)]
theorem tvS_eq {a : Nat} {x : Option (Nat × Nat × Bool)} (h : tvI3 x = true) : tvS1 x = tvI1 x ∧ tvS2 a x = tvI2 a x := by
  match x, h with
  | some (n, k, true), _ => exact ⟨rfl, rfl⟩
theorem tf_bad1 {s : List UInt8} {a : Nat} (h : tvI3 (tvAt s a) = false) : (tfAt s a).2.2.2 = false := by
  unfold tfAt; dsimp only; rw [if_pos h]
theorem tf_bad2 {s : List UInt8} {a : Nat} (h : tvI3 (tvAt s a) = true) (h2 : tvI3 (tvAt s (tvI2 a (tvAt s a)).toNat) = false) : (tfAt s a).2.2.2 = false := by
  unfold tfAt; dsimp only; rw [if_neg (by rw [h]; simp)]
  split
  · have : (tbAt s (tvI2 a (tvAt s a)).toNat).2.2 = false := by unfold tbAt; dsimp only; rw [if_neg (fun hh => by rw [h2] at hh; cases hh.1)]
    dsimp only
    rw [this]; rfl
  · dsimp only
    rw [h2]; rfl
theorem tf_num {s : List UInt8} {a : Nat} (h : tvI3 (tvAt s a) = true) (h2 : tvI3 (tvAt s (tvI2 a (tvAt s a)).toNat) = true) (h0 : tvI1 (tvAt s a) % 8 = 0) : tfAt s a = ((tvI1 (tvAt s a) / 8, 0, unf (tvI1 (tvAt s (tvI2 a (tvAt s a)).toNat)), [], ()), (a : Int), tvI2 (tvI2 a (tvAt s a)).toNat (tvAt s (tvI2 a (tvAt s a)).toNat), fieldB (tvI1 (tvAt s a) / 8, 0, unf (tvI1 (tvAt s (tvI2 a (tvAt s a)).toNat)), [], ())) := by
  unfold tfAt; dsimp only; rw [if_neg (by rw [h]; simp), if_neg (by omega), h0, h2, Bool.true_and]
theorem tf_byt {s : List UInt8} {a : Nat} (h : tvI3 (tvAt s a) = true) (h2 : tvI3 (tvAt s (tvI2 a (tvAt s a)).toNat) = true) (h0 : tvI1 (tvAt s a) % 8 = 2) (hn : tvI1 (tvAt s (tvI2 a (tvAt s a)).toNat) ≤ s.length - tvI2 (tvI2 a (tvAt s a)).toNat (tvAt s (tvI2 a (tvAt s a)).toNat)) :
    tfAt s a = ((tvI1 (tvAt s a) / 8, 2, 0, (s.drop (tvI2 (tvI2 a (tvAt s a)).toNat (tvAt s (tvI2 a (tvAt s a)).toNat)).toNat).take (tvI1 (tvAt s (tvI2 a (tvAt s a)).toNat)).toNat, ()), (a : Int), tvI2 (tvI2 a (tvAt s a)).toNat (tvAt s (tvI2 a (tvAt s a)).toNat) + tvI1 (tvAt s (tvI2 a (tvAt s a)).toNat), fieldB (tvI1 (tvAt s a) / 8, 2, 0, (s.drop (tvI2 (tvI2 a (tvAt s a)).toNat (tvAt s (tvI2 a (tvAt s a)).toNat)).toNat).take (tvI1 (tvAt s (tvI2 a (tvAt s a)).toNat)).toNat, ())) := by
  have : tbAt s (tvI2 a (tvAt s a)).toNat = ((s.drop (tvI2 (tvI2 a (tvAt s a)).toNat (tvAt s (tvI2 a (tvAt s a)).toNat)).toNat).take (tvI1 (tvAt s (tvI2 a (tvAt s a)).toNat)).toNat, tvI2 (tvI2 a (tvAt s a)).toNat (tvAt s (tvI2 a (tvAt s a)).toNat) + tvI1 (tvAt s (tvI2 a (tvAt s a)).toNat), true) := by unfold tbAt; dsimp only; rw [if_pos ⟨h2, hn⟩]
  unfold tfAt; dsimp only; rw [if_neg (by rw [h]; simp), if_pos h0, this, Bool.true_and]
theorem tf_long {s : List UInt8} {a : Nat} (h : tvI3 (tvAt s a) = true) (h0 : tvI1 (tvAt s a) % 8 ≠ 0) (hn : ¬ tvI1 (tvAt s (tvI2 a (tvAt s a)).toNat) ≤ s.length - tvI2 (tvI2 a (tvAt s a)).toNat (tvAt s (tvI2 a (tvAt s a)).toNat)) : (tfAt s a).2.2.2 = false := by
  unfold tfAt; dsimp only; rw [if_neg (by rw [h]; simp)]
  split
  · have : (tbAt s (tvI2 a (tvAt s a)).toNat).2.2 = false := by unfold tbAt; dsimp only; rw [if_neg (fun hh => hn hh.2)]
    dsimp only
    rw [this]; rfl
  · rename_i h2
    dsimp only
    unfold fieldB
    dsimp only
    rw [if_neg h0, if_neg h2, Bool.and_false, Bool.and_false]
theorem tf_kind {s : List UInt8} {a : Nat} (h : tvI3 (tvAt s a) = true) (h0 : tvI1 (tvAt s a) % 8 ≠ 0) (h2 : tvI1 (tvAt s a) % 8 ≠ 2) : (tfAt s a).2.2.2 = false ∧ ∀ x y z, fieldB (x, tvI1 (tvAt s a) % 8, y, z, ()) = false := by
  have hb : ∀ x y z, fieldB (x, tvI1 (tvAt s a) % 8, y, z, ()) = false := fun x y z => by
    unfold fieldB
    dsimp only
    rw [if_neg h0, if_neg h2, Bool.and_false]
  refine ⟨?_, hb⟩
  unfold tfAt; dsimp only; rw [if_neg (by rw [h]; simp), if_neg h2]
  dsimp only
  rw [hb, Bool.and_false]
/-- What a round of the reference's does. -/
theorem rdf_one (s : List UInt8) (a : Nat) (o : List WFd) (hs : s.length ≤ 4000000000) (ha : a < s.length) (ho : o.length ≤ a) :
    roundK Try.prog (look [(209, .rd1 tvsG), (210, .rd1 unfG), (181, .rd1 fieldG)]) (look [(3, rdfE)]) 0 (body Try.f185 0) rdfE ([.s s, .ref 0 0 o.length, .i .i64 (a : Int)], [some (.row false none (.pair (.int .i64) (.pair (.int .i64) (.pair (.int .i64) (.pair .str .unit)))) o)]) = if (tfAt s a).2.2.2 = true ∧ o.length ≠ 40 then some (.normal, ([.s s, .ref 0 0 (o ++ [(tfAt s a).1]).length, .i .i64 (tfAt s a).2.2.1], [some (.row false none (.pair (.int .i64) (.pair (.int .i64) (.pair (.int .i64) (.pair .str .unit)))) (o ++ [(tfAt s a).1]))])) else some (.ret, ([.ref 0 0 0, .b false], [some (.row false none (.pair (.int .i64) (.pair (.int .i64) (.pair (.int .i64) (.pair .str .unit)))) [])])) := by
  rw [rdf_round]
  have hM : maxI = 9223372036854775807 := rfl
  obtain ⟨⟨u1, u2⟩, u3, u4⟩ := tv_any s a
  rw [ifB_true (decide_eq_true (by omega)), ifT_true (decide_eq_true (by omega)), Int.toNat_natCast]
  cases hk : tvI3 (tvAt s a) with
  | false => rw [Bool.not_false, ifB_t, if_neg (fun h => by rw [tf_bad1 hk] at h; cases h.1)]
  | true =>
    obtain ⟨e1, e2⟩ := tvS_eq (a := a) hk
    rw [Bool.not_true, ifB_f]
    simp only [e1, e2]
    obtain ⟨⟨v1, v2⟩, v3, v4⟩ := tv_any s (tvI2 a (tvAt s a)).toNat
    rw [ifT_true (decide_eq_true ⟨u3, hs, by omega⟩)]
    cases hk2 : tvI3 (tvAt s (tvI2 a (tvAt s a)).toNat) with
    | false => rw [Bool.not_false, ifB_t, if_neg (fun h => by rw [tf_bad2 hk hk2] at h; cases h.1)]
    | true =>
      obtain ⟨e3, e4⟩ := tvS_eq (a := (tvI2 a (tvAt s a)).toNat) hk2
      rw [Bool.not_true, ifB_f]
      have m1 : Int.tdiv (tvI1 (tvAt s a)) 8 = tvI1 (tvAt s a) / 8 := Int.tdiv_eq_ediv_of_nonneg u1
      have m2 : Int.tmod (tvI1 (tvAt s a)) 8 = tvI1 (tvAt s a) % 8 := Int.tmod_eq_emod_of_nonneg u1
      have m3 : IntKind.i64.wrap (tvI1 (tvAt s a) / 8) = tvI1 (tvAt s a) / 8 := wrap_id (by omega) (by omega)
      have m4 : IntKind.i64.wrap ((s.length : Int) - tvI2 (tvI2 a (tvAt s a)).toNat (tvAt s (tvI2 a (tvAt s a)).toNat)) = (s.length : Int) - tvI2 (tvI2 a (tvAt s a)).toNat (tvAt s (tvI2 a (tvAt s a)).toNat) := wrap_id (by omega) (by omega)
      have m5 : IntKind.i64.wrap (tvI2 (tvI2 a (tvAt s a)).toNat (tvAt s (tvI2 a (tvAt s a)).toNat) + tvI1 (tvAt s (tvI2 a (tvAt s a)).toNat)) = tvI2 (tvI2 a (tvAt s a)).toNat (tvAt s (tvI2 a (tvAt s a)).toNat) + tvI1 (tvAt s (tvI2 a (tvAt s a)).toNat) := wrap_id (by omega) (by omega)
      simp only [e3, e4, m1, m2, m3, m4, m5, List.drop_zero, List.take_length, nilT_eq]
      have hlen : (decide ((o.length + 1) * 40 ≤ 140737488355328) && decide (o.length + 1 ≤ maxI)) = true := by simp only [Bool.and_eq_true, decide_eq_true_eq]; omega
      by_cases q0 : tvI1 (tvAt s a) % 8 = 0
      · rw [ifB_true (by simpa using q0), ifT_true (decide_eq_true ⟨v1, by omega⟩), q0]
        have ht := tf_num hk hk2 q0
        cases hf : fieldB (tvI1 (tvAt s a) / 8, 0, unf (tvI1 (tvAt s (tvI2 a (tvAt s a)).toNat)), [], ()) with
        | false => rw [Bool.not_false, ifB_t, if_neg (fun h => by rw [ht] at h; have := h.1; rw [hf] at this; cases this)]
        | true =>
          rw [Bool.not_true, ifB_f]
          by_cases q2 : o.length = 40
          · rw [ifB_true (by rw [q2]; rfl), if_neg (fun h => h.2 q2)]
          · rw [ifB_false (by simpa using fun e => q2 (by omega)), ifT_true hlen, if_pos ⟨by rw [ht]; exact hf, q2⟩, ht, List.length_append]; rfl
      · rw [ifB_false (by simpa using q0)]
        by_cases qn : tvI1 (tvAt s (tvI2 a (tvAt s a)).toNat) ≤ s.length - tvI2 (tvI2 a (tvAt s a)).toNat (tvAt s (tvI2 a (tvAt s a)).toNat)
        rotate_left
        · rw [ifB_true (decide_eq_true (by omega)), if_neg (fun h => by rw [tf_long hk q0 qn] at h; cases h.1)]
        rw [ifB_false (decide_eq_false (by omega)), ifT_true (by simp only [Bool.and_eq_true, decide_eq_true_eq]; omega)]
        have e5 : (tvI2 (tvI2 a (tvAt s a)).toNat (tvAt s (tvI2 a (tvAt s a)).toNat) + tvI1 (tvAt s (tvI2 a (tvAt s a)).toNat)).toNat - (tvI2 (tvI2 a (tvAt s a)).toNat (tvAt s (tvI2 a (tvAt s a)).toNat)).toNat = (tvI1 (tvAt s (tvI2 a (tvAt s a)).toNat)).toNat := by omega
        rw [e5]
        by_cases qk : tvI1 (tvAt s a) % 8 = 2
        rotate_left
        · obtain ⟨b1, b2⟩ := tf_kind hk q0 qk
          rw [b2, Bool.not_false, ifB_t, if_neg (fun h => by rw [b1] at h; cases h.1)]
        have ht := tf_byt hk hk2 qk qn
        rw [qk]
        cases hf : fieldB (tvI1 (tvAt s a) / 8, 2, 0, (s.drop (tvI2 (tvI2 a (tvAt s a)).toNat (tvAt s (tvI2 a (tvAt s a)).toNat)).toNat).take (tvI1 (tvAt s (tvI2 a (tvAt s a)).toNat)).toNat, ()) with
        | false => rw [Bool.not_false, ifB_t, if_neg (fun h => by rw [ht] at h; have := h.1; rw [hf] at this; cases this)]
        | true =>
          rw [Bool.not_true, ifB_f]
          by_cases q2 : o.length = 40
          · rw [ifB_true (by rw [q2]; rfl), if_neg (fun h => h.2 q2)]
          · rw [ifB_false (by simpa using fun e => q2 (by omega)), ifT_true hlen, if_pos ⟨by rw [ht]; exact hf, q2⟩, ht, List.length_append]; rfl
theorem rdf_loop (s : List UInt8) (hs : s.length ≤ 4000000000) : ∀ (j a : Nat) (o : List WFd), s.length - a ≤ j → a ≤ s.length → o.length ≤ a → ∀ ex d, (Br.br (rdF s (s.length - a) a o).isSome (.leaf (.exit 0, ([.ref 0 0 ((rdF s (s.length - a) a o).getD []).length], [some (.row false none (.pair (.int .i64) (.pair (.int .i64) (.pair (.int .i64) (.pair .str .unit)))) ((rdF s (s.length - a) a o).getD []))]))) (.leaf (.ret, ([.ref 0 0 0, .b false], [some (.row false none (.pair (.int .i64) (.pair (.int .i64) (.pair (.int .i64) (.pair .str .unit)))) [])]))) : Br (Ex × Dt)).run = some (ex, d) →
    Runs Try.prog (look [(209, .rd1 tvsG), (210, .rd1 unfG), (181, .rd1 fieldG)]) (look [(3, rdfE)]) 0 (body Try.f185 0) rdfE ([.s s, .ref 0 0 o.length, .i .i64 (a : Int)], [some (.row false none (.pair (.int .i64) (.pair (.int .i64) (.pair (.int .i64) (.pair .str .unit)))) o)]) ex d := by
  intro j
  have fin : ∀ (a : Nat) (o : List WFd), a = s.length → ∀ ex d, (Br.br (rdF s (s.length - a) a o).isSome (.leaf (.exit 0, ([.ref 0 0 ((rdF s (s.length - a) a o).getD []).length], [some (.row false none (.pair (.int .i64) (.pair (.int .i64) (.pair (.int .i64) (.pair .str .unit)))) ((rdF s (s.length - a) a o).getD []))]))) (.leaf (.ret, ([.ref 0 0 0, .b false], [some (.row false none (.pair (.int .i64) (.pair (.int .i64) (.pair (.int .i64) (.pair .str .unit)))) [])]))) : Br (Ex × Dt)).run = some (ex, d) → Runs Try.prog (look [(209, .rd1 tvsG), (210, .rd1 unfG), (181, .rd1 fieldG)]) (look [(3, rdfE)]) 0 (body Try.f185 0) rdfE ([.s s, .ref 0 0 o.length, .i .i64 (a : Int)], [some (.row false none (.pair (.int .i64) (.pair (.int .i64) (.pair (.int .i64) (.pair .str .unit)))) o)]) ex d := fun a o ha ex d h => by
    have hr := rdf_round s o.length a o
    rw [ifB_false (decide_eq_false (by omega))] at hr
    rw [rdF_end (by omega)] at h
    have h8 := leaf_some (show (Br.leaf (.exit 0, ([.ref 0 0 o.length], [some (.row false none (.pair (.int .i64) (.pair (.int .i64) (.pair (.int .i64) (.pair .str .unit)))) o)])) : Br (Ex × Dt)).run = some (ex, d) from h)
    obtain ⟨rfl, rfl⟩ := Prod.mk.inj h8
    exact .stop _ _ _ hr (by simp)
  induction j with
  | zero => exact fun a o hj ha ho ex d h => fin a o (by omega) ex d h
  | succ j ih =>
    intro a o hj ha ho ex d h
    by_cases q : a < s.length
    rotate_left
    · exact fin a o (by omega) ex d h
    have hr := rdf_one s a o hs q ho
    by_cases q2 : (tfAt s a).2.2.2 = true ∧ o.length ≠ 40
    · obtain ⟨t1, t2, t3, t4⟩ := tf_ok q2.1
      rw [if_pos q2] at hr
      rw [rdF_step q q2.1 q2.2] at h
      obtain ⟨b, hb⟩ := Int.eq_ofNat_of_zero_le (a := (tfAt s a).2.2.1) (by omega)
      rw [hb] at hr h t2 t3
      rw [Int.toNat_natCast] at h
      exact .step _ _ _ _ hr (ih b (o ++ [(tfAt s a).1]) (by omega) (by omega) (by simp; omega) ex d h)
    · rw [if_neg q2] at hr
      rw [rdF_bad q (by
        cases e : (tfAt s a).2.2.2 with
        | false => exact .inl rfl
        | true => exact .inr (by by_cases e2 : o.length = 40; exact e2; exact absurd ⟨e, e2⟩ q2))] at h
      have h8 := leaf_some (show (Br.leaf (.ret, ([.ref 0 0 0, .b false], [some (.row false none (.pair (.int .i64) (.pair (.int .i64) (.pair (.int .i64) (.pair .str .unit)))) [])])) : Br (Ex × Dt)).run = some (ex, d) from h)
      obtain ⟨rfl, rfl⟩ := Prod.mk.inj h8
      exact .stop _ _ _ hr (by simp)
theorem rdf_ok : LoopsOk Try.prog (look [(209, .rd1 tvsG), (210, .rd1 unfG), (181, .rd1 fieldG)]) (look [(3, rdfE)]) 0 (Try.f185.body.getD .skip) := by
  refine loopsOk_one (a := body Try.f185 0) (by kernel_rfl) fun d ex d' h => ?_
  unfold rdfE at h
  dsimp only at h
  split at h
  · rename_i s n a o
    obtain ⟨hc, hx⟩ := need_some h
    clear h
    obtain ⟨h0, h1, h2, rfl, h4⟩ := of_decide_eq_true hc
    obtain ⟨a, rfl⟩ := Int.eq_ofNat_of_zero_le h0
    simp only [Int.toNat_natCast] at h1 h4 hx
    exact rdf_loop s h2 _ a o (Nat.le_refl _) h1 h4 ex d' hx
  · cases h
theorem rdf : Contract Try.prog 185 (Ent.rd1 rdfG).F := by
  refine fun_contractC' (KnowsL.cons (enters_fn Try.func209 (by kernel_rfl) (by kernel_rfl)) tvs (KnowsL.cons (enters_fn Try.func210 (by kernel_rfl) (by kernel_rfl)) sunf (KnowsL.cons (enters_fn Try.func181 (by kernel_rfl) (by kernel_rfl)) sfield KnowsL.nil))).knows (Λ := (look [(3, rdfE)])) Try.func185 (c := Try.f185.body.getD .skip) (by kernel_rfl) fun vs bs r hq hv hb => ?_
  unfold Ent.F rdfG at hq
  dsimp only at hq
  split at hq
  · rename_i s
    obtain ⟨hc, hx⟩ := need_some hq
    have hc := of_decide_eq_true hc
    refine ⟨rdf_ok, Eq.trans ?_ hx⟩
    rw [rdf_tree]
    unfold rdfP
    rw [ifT_true (decide_eq_true ⟨by omega, by omega, hc, rfl, by omega⟩), Nat.sub_zero]
    simp only [nilT_eq]
    cases rdF s s.length 0 [] <;> rfl
  · cases hq
theorem rdq_tree (s : List UInt8) : funC Try.prog (look [(185, .rd1 rdfG)]) (look []) Try.f142 [.s s] [] =
  ((ifB (decide ((↑s.length : Int) > (400 : Int))) (some (V.tup [V.ref 0 0 0, V.b false], [some (Blk.row false none ((Cd.int .i64).pair ((Cd.int .i64).pair ((Cd.int .i64).pair
 (Cd.str.pair Cd.unit)))) (nilT ((Cd.int .i64).pair ((Cd.int .i64).pair ((Cd.int .i64).pair (Cd.str.pair Cd.unit)))).den))])) (ifT (decide (s.length ≤ (4000000000 : Nat)))
 (some (V.tup [V.ref 0 0 ((rdfP s).getD (nilT WFd)).length, V.b (rdfP s).isSome], [some (Blk.row false none ((Cd.int .i64).pair ((Cd.int .i64).pair ((Cd.int .i64).pair
 (Cd.str.pair Cd.unit)))) ((rdfP s).getD (nilT WFd)))])))) : _) := by kernel_rfl
theorem rdq : Contract Try.prog 142 (Ent.rd1 rdqG).F := by
  refine fun_contractC' (KnowsL.cons (enters_fn Try.func185 (by kernel_rfl) (by kernel_rfl)) rdf KnowsL.nil).knows (Λ := look []) Try.func142 (c := Try.f142.body.getD .skip) (by kernel_rfl) fun vs bs r hq hv hb => ?_
  unfold Ent.F rdqG at hq
  dsimp only at hq
  split at hq
  · rename_i s
    obtain ⟨hc, hx⟩ := need_some hq
    refine ⟨loopsOk_nil _, Eq.trans ?_ hx⟩
    rw [rdq_tree]
    unfold rdfQ
    by_cases q : s.length ≤ 400
    · rw [ifB_false (decide_eq_false (by omega)), if_pos q, ifT_true hc]; rfl
    · rw [ifB_true (decide_eq_true (by omega)), if_neg q]; rfl
  · cases hq
theorem sris_round (m : Nat) (k i : Int) (o : List WFd) : roundK Try.prog (look [(142, .rd1 rdqG)]) (look [(5, srisE)]) 0 (body Try.f93 0) srisE ([.ref 0 0 m, .ref 0 0 m, .i .i64 k, .i .i64 i], [some (.row false none (.pair (.int .i64) (.pair (.int .i64) (.pair (.int .i64) (.pair .str .unit)))) o)]) =
  ((ifB (decide (i < k)) (ifT (decide ((0 : Int) ≤ i) && decide (i < (↑m : Int))) (ifSome o[(0 : Nat) + i.toNat]? fun z => ifB (decide (i > (0 : Int))) (ifT (decide ((0 : Int)
 ≤ IntKind.i64.wrap (i - (1 : Int))) && decide (IntKind.i64.wrap (i - (1 : Int)) < (↑m : Int))) (ifSome o[(0 : Nat) + (IntKind.i64.wrap (i - (1 : Int))).toNat]? fun z_1 =>
 ifB (decide (z_1.fst ≥ z.fst)) (some (Ex.ret, [V.ref 0 0 0, V.b false], [some (Blk.row false none ((Cd.int .i64).pair ((Cd.int .i64).pair ((Cd.int .i64).pair (Cd.str.pair
 Cd.unit)))) (nilT ((Cd.int .i64).pair ((Cd.int .i64).pair ((Cd.int .i64).pair (Cd.str.pair Cd.unit)))).den))])) (some (Ex.normal, [V.ref 0 0 m, V.ref 0 0 m, V.i .i64 k,
 V.i .i64 (IntKind.i64.wrap (i + (1 : Int)))], [some (Blk.row false none ((Cd.int .i64).pair ((Cd.int .i64).pair ((Cd.int .i64).pair (Cd.str.pair Cd.unit)))) o)])))) (some
 (Ex.normal, [V.ref 0 0 m, V.ref 0 0 m, V.i .i64 k, V.i .i64 (IntKind.i64.wrap (i + (1 : Int)))], [some (Blk.row false none ((Cd.int .i64).pair ((Cd.int .i64).pair
 ((Cd.int .i64).pair (Cd.str.pair Cd.unit)))) o)])))) (some (Ex.exit 0, [V.ref 0 0 m], [some (Blk.row false none ((Cd.int .i64).pair ((Cd.int .i64).pair ((Cd.int
 .i64).pair (Cd.str.pair Cd.unit)))) o)]))) : _) := by kernel_rfl
theorem sris_tree (s : List UInt8) : funC Try.prog (look [(142, .rd1 rdqG)]) (look [(5, srisE)]) Try.f93 [.s s] [] =
  ((ifT (decide (s.length ≤ (4000000000 : Nat))) (ifB (!(rdfQ s).isSome) (some (V.tup [V.ref 0 0 0, V.b false], [some (Blk.row false none ((Cd.int .i64).pair ((Cd.int
 .i64).pair ((Cd.int .i64).pair (Cd.str.pair Cd.unit)))) (nilT ((Cd.int .i64).pair ((Cd.int .i64).pair ((Cd.int .i64).pair (Cd.str.pair Cd.unit)))).den))])) (ifT (decide
 ((0 : Int) ≤ (0 : Int) ∧ (0 : Nat) ≤ ((rdfQ s).getD (nilT WFd)).length ∧ ((rdfQ s).getD (nilT WFd)).length = ((rdfQ s).getD (nilT WFd)).length ∧ ((rdfQ s).getD (nilT
 WFd)).length = ((rdfQ s).getD (nilT WFd)).length ∧ (↑((rdfQ s).getD (nilT WFd)).length : Int) = (↑((rdfQ s).getD (nilT WFd)).length : Int) ∧ ((rdfQ s).getD (nilT
 WFd)).length ≤ (4000000000 : Nat))) (ifB ((List.drop (0 : Nat) (List.range ((rdfQ s).getD (nilT WFd)).length)).all (riseI (nosF ((rdfQ s).getD (nilT WFd))))) (some (V.tup
 [V.ref 0 0 ((rdfQ s).getD (nilT WFd)).length, V.b true], [some (Blk.row false none ((Cd.int .i64).pair ((Cd.int .i64).pair ((Cd.int .i64).pair (Cd.str.pair Cd.unit))))
 ((rdfQ s).getD (nilT WFd)))])) (some (V.tup [V.ref 0 0 0, V.b false], [some (Blk.row false none ((Cd.int .i64).pair ((Cd.int .i64).pair ((Cd.int .i64).pair (Cd.str.pair
 Cd.unit)))) (nilT ((Cd.int .i64).pair ((Cd.int .i64).pair ((Cd.int .i64).pair (Cd.str.pair Cd.unit)))).den))])))))) : _) := by kernel_rfl
theorem sris_loop (o : List WFd) (hm : o.length ≤ 4000000000) : ∀ (j i : Nat), i + j = o.length → ∀ ex d, (Br.br (((List.range o.length).drop i).all (riseI (nosF o))) (.leaf (.exit 0, ([.ref 0 0 o.length], [some (.row false none (.pair (.int .i64) (.pair (.int .i64) (.pair (.int .i64) (.pair .str .unit)))) o)]))) (.leaf (.ret, ([.ref 0 0 0, .b false], [some (.row false none (.pair (.int .i64) (.pair (.int .i64) (.pair (.int .i64) (.pair .str .unit)))) [])]))) : Br (Ex × Dt)).run = some (ex, d) →
    Runs Try.prog (look [(142, .rd1 rdqG)]) (look [(5, srisE)]) 0 (body Try.f93 0) srisE ([.ref 0 0 o.length, .ref 0 0 o.length, .i .i64 (o.length : Int), .i .i64 (i : Int)], [some (.row false none (.pair (.int .i64) (.pair (.int .i64) (.pair (.int .i64) (.pair .str .unit)))) o)]) ex d
  | 0, i, hi, ex, d, h => by
    have hr := sris_round o.length o.length i o
    rw [ifB_false (decide_eq_false (by omega))] at hr
    rw [List.drop_eq_nil_of_le (by simp; omega)] at h
    have h8 := leaf_some (show (Br.leaf (.exit 0, ([.ref 0 0 o.length], [some (.row false none (.pair (.int .i64) (.pair (.int .i64) (.pair (.int .i64) (.pair .str .unit)))) o)])) : Br (Ex × Dt)).run = some (ex, d) from h)
    obtain ⟨rfl, rfl⟩ := Prod.mk.inj h8
    exact .stop _ _ _ hr (by simp)
  | j + 1, i, hi, ex, d, h => by
    have hl : i < o.length := by omega
    have hM : maxI = 9223372036854775807 := rfl
    have hr := sris_round o.length o.length i o
    have hd : (List.range o.length).drop i = i :: (List.range o.length).drop (i + 1) := by
      rw [List.drop_eq_getElem_cons (by simpa using hl)]
      simp
    rw [hd, List.all_cons] at h
    rw [ifB_true (decide_eq_true (by omega)), wrap_succ (n := i) (by omega)] at hr
    have gA : ∀ {x : Nat} (hx : x < o.length), (nosF o).getD x 0 = o[x].1 := fun hx => by unfold nosF; simp [hx]
    rw [ifT_true (by simp only [Bool.and_eq_true, decide_eq_true_eq]; omega), Int.toNat_natCast, Nat.zero_add, List.getElem?_eq_getElem hl, ifSome_s] at hr
    by_cases q0 : i = 0
    · subst q0
      rw [ifB_false (decide_eq_false (by omega))] at hr
      have e0 : riseI (nosF o) 0 = true := rfl
      rw [e0, Bool.true_and] at h
      exact .step _ _ _ _ hr (sris_loop o hm j 1 (by omega) ex d h)
    · have hw : IntKind.i64.wrap ((i : Int) - 1) = ((i - 1 : Nat) : Int) := by rw [wrap_id (by omega) (by omega)]; omega
      have hl1 : i - 1 < o.length := by omega
      rw [ifB_true (decide_eq_true (by omega)), hw, ifT_true (by simp only [Bool.and_eq_true, decide_eq_true_eq]; omega), Int.toNat_natCast, Nat.zero_add, List.getElem?_eq_getElem hl1, ifSome_s] at hr
      skip
      have er : riseI (nosF o) i = decide (o[i - 1].1 < o[i].1) := by
        unfold riseI
        rw [gA hl1, gA hl, beq_false_of_ne q0, Bool.false_or]
      rw [er] at h
      by_cases q : o[i - 1].1 < o[i].1
      · rw [ifB_false (decide_eq_false (by omega))] at hr
        rw [decide_eq_true q, Bool.true_and] at h
        exact .step _ _ _ _ hr (sris_loop o hm j (i + 1) (by omega) ex d h)
      · rw [ifB_true (decide_eq_true (by omega))] at hr
        rw [decide_eq_false q, Bool.false_and] at h
        have h8 := leaf_some (show (Br.leaf (.ret, ([.ref 0 0 0, .b false], [some (.row false none (.pair (.int .i64) (.pair (.int .i64) (.pair (.int .i64) (.pair .str .unit)))) [])])) : Br (Ex × Dt)).run = some (ex, d) from h)
        obtain ⟨rfl, rfl⟩ := Prod.mk.inj h8
        exact .stop _ _ _ hr (by simp)
theorem sris_ok : LoopsOk Try.prog (look [(142, .rd1 rdqG)]) (look [(5, srisE)]) 0 (Try.f93.body.getD .skip) := by
  refine loopsOk_one (a := body Try.f93 0) (by kernel_rfl) fun d ex d' h => ?_
  unfold srisE at h
  dsimp only at h
  split at h
  · rename_i m m2 k i o
    obtain ⟨hc, hx⟩ := need_some h
    clear h
    obtain ⟨h0, h1, rfl, rfl, rfl, h4⟩ := of_decide_eq_true hc
    obtain ⟨i, rfl⟩ := Int.eq_ofNat_of_zero_le h0
    simp only [Int.toNat_natCast] at h1 hx
    exact sris_loop o h4 (o.length - i) i (by omega) ex d' hx
  · cases h
theorem rdf_eq (s : List UInt8) : rdfQ s = (rdP s).map (fun l => l.map (·.1)) := by
  unfold rdfQ rdP rdfP
  split
  · exact rdF_map s s.length 0 []
  · rfl
theorem risF_eq (s : List UInt8) : risF s = (risP s).map (fun l => l.map (·.1)) := by
  unfold risF risP
  rw [rdf_eq]
  cases rdP s with
  | none => rfl
  | some l =>
    dsimp only [Option.map_some]
    have e : nosF (l.map (·.1)) = nosP l := by unfold nosF nosP; rw [List.map_map]; rfl
    rw [e]
    split <;> rfl
theorem srisC : Contract Try.prog 93 (Ent.rd1 risfG).F := by
  refine fun_contractC' (KnowsL.cons (enters_fn Try.func142 (by kernel_rfl) (by kernel_rfl)) rdq KnowsL.nil).knows (Λ := (look [(5, srisE)])) Try.func93 (c := Try.f93.body.getD .skip) (by kernel_rfl) fun vs bs r hq hv hb => ?_
  unfold Ent.F risfG at hq
  dsimp only at hq
  split at hq
  · rename_i s
    obtain ⟨hc, hx⟩ := need_some hq
    refine ⟨sris_ok, Eq.trans ?_ hx⟩
    rw [sris_tree, ifT_true hc]
    unfold risF
    cases e : rdfQ s with
    | none => rfl
    | some l =>
      have hl : l.length ≤ 40 := by
        rw [rdf_eq] at e
        obtain ⟨w, h1, rfl⟩ := Option.map_eq_some_iff.1 e
        rw [List.length_map]; exact (rdP_len h1).1
      dsimp only [Option.isSome_some, Option.getD_some]
      rw [Bool.not_true, ifB_f, ifT_true (decide_eq_true ⟨by omega, by omega, rfl, rfl, rfl, by omega⟩), List.drop_zero]
      unfold rise
      rw [show (nosF l).length = l.length by unfold nosF; simp]
      cases (List.range l.length).all (riseI (nosF l)) <;> rfl
  · cases hq

/-- A text starts so. -/
def startB (s p : List UInt8) : Bool := decide (p.length ≤ s.length) && s.take p.length == p
def hpreG : List V → List Blk → Br (V × List (Option Blk))
  | [.s s, .s p], [] => .leaf (.b (startB s p), [])
  | _, _ => .no
def ifldG : List V → List Blk → Br (V × List (Option Blk))
  | [.agg [.i .i64 fo, .i .i64 fk, .i .i64 fn, .s fd], .i .i64 kd, .i .i64 nm, .s tx], [] => .leaf (.b (fldB kd nm tx fk fn fd), [])
  | _, _ => .no
def runC : List V → List Blk → Br (V × List (Option Blk))
  | [.agg [.i .i64 fo, .i .i64 fk, .i .i64 fn, .s fd, .i .i64 fr], .bx [.i .i64 c, .i .i64 kd, .i .i64 no, .i .i64 nm, .s tx, .i .i64 to] 0], [] => .leaf (.b (fo == no), [])
  | _, _ => .no
def rfE  : LoopEnt := ⟨19, [0,1,4,7,8], [], [4], fun
  | ([.sl (.pair (.pair (.int .i64) (.pair (.int .i64) (.pair (.int .i64) (.pair .str .unit)))) (.pair (.int .i64) .unit)) l, .fn 91 [] [.ptr 0 0], .i .i64 r, .i .i64 k, .i .i64 i], [some (.box [.i .i64 c, .i .i64 kd, .i .i64 no, .i .i64 nm, .s tx, .i .i64 to])]) =>
    .need (decide (0 ≤ i ∧ i.toNat ≤ l.length ∧ l.length ≤ maxI ∧ k = l.length)) (.br (decide (firstP (fun z : Pl => z.1.1 == no) i.toNat (l.drop i.toNat) < 0)) (.leaf (.exit 0, ([], [some (.box [.i .i64 c, .i .i64 kd, .i .i64 no, .i .i64 nm, .s tx, .i .i64 to])]))) (.leaf (.ret, ([.i .i64 (firstP (fun z : Pl => z.1.1 == no) i.toNat (l.drop i.toNat))], [some (.box [.i .i64 c, .i .i64 kd, .i .i64 no, .i .i64 nm, .s tx, .i .i64 to])]))))
  | _ => .no⟩
def rfiG  : List V → List Blk → Br (V × List (Option Blk))
  | [.sl (.pair (.pair (.int .i64) (.pair (.int .i64) (.pair (.int .i64) (.pair .str .unit)))) (.pair (.int .i64) .unit)) l, .fn 91 [] [.ptr 0 0]], [.box [.i .i64 c, .i .i64 kd, .i .i64 no, .i .i64 nm, .s tx, .i .i64 to]] => .leaf (.i .i64 (firstP (fun z : Pl => z.1.1 == no) 0 l), [some (.box [.i .i64 c, .i .i64 kd, .i .i64 no, .i .i64 nm, .s tx, .i .i64 to])])
  | _, _ => .no
def fld0 : WFd := (0, 0, 0, [], ())
def seekF (l : List WFd) (no : Int) : WFd := (l.find? fun y => y.1 == no).getD fld0
def seekB (l : List WFd) (no : Int) : Bool := (l.find? fun y => y.1 == no).isSome
def seekG : List V → List Blk → Br (V × List (Option Blk))
  | [.sl (.pair (.int .i64) (.pair (.int .i64) (.pair (.int .i64) (.pair .str .unit)))) l, .i .i64 no], [] => .leaf (.tup [.agg [.i .i64 (seekF l no).1, .i .i64 (seekF l no).2.1, .i .i64 (seekF l no).2.2.1, .s (seekF l no).2.2.2.1], .b (seekB l no)], [])
  | _, _ => .no
def seekE : LoopEnt := ⟨21, [1,4,8,9,10], [4], [4,5], fun
  | ([.i .i64 no, .ptr 0 0, .sl (.pair (.int .i64) (.pair (.int .i64) (.pair (.int .i64) (.pair .str .unit)))) l, .i .i64 n, .i .i64 i], [some (.box [.i .i64 0, .i .i64 0, .i .i64 0, .s []])]) => .need (decide (0 ≤ i ∧ i.toNat ≤ l.length ∧ n = l.length ∧ l.length ≤ maxI)) (.br (seekB (l.drop i.toNat) no) (.leaf (.ret, ([.ptr 0 0, .b true], [some (.box [.i .i64 (seekF (l.drop i.toNat) no).1, .i .i64 (seekF (l.drop i.toNat) no).2.1, .i .i64 (seekF (l.drop i.toNat) no).2.2.1, .s (seekF (l.drop i.toNat) no).2.2.2.1])]))) (.leaf (.exit 0, ([.ptr 0 0], [some (.box [.i .i64 0, .i .i64 0, .i .i64 0, .s []])]))))
  | _ => .no⟩

theorem hpre0_fun (s p : List UInt8) : funK Try.prog (look []) (look []) Try.f184 [.s s, .s p] [] = some (.b (startB s p), []) := by
  have e : funK Try.prog (look []) (look []) Try.f184 [.s s, .s p] [] = ((ifB (decide ((↑s.length : Int) ≥ (↑p.length : Int))) (ifT (decide ((0 : Int) ≤ (↑p.length : Int)) && decide ((↑p.length : Int) ≤ (↑s.length : Int))) (some (V.b (List.take
 ((↑p.length : Int).toNat - (0 : Nat)) (List.drop (0 : Nat) s) == p), []))) (some (V.b false, []))) : _) := by kernel_rfl
  rw [e]
  clear e
  by_cases h : p.length ≤ s.length
  · unfold startB
    rw [ifB_true (decide_eq_true (by omega)), ifT_true (by simp only [Bool.and_eq_true, decide_eq_true_eq]; omega), decide_eq_true h, Int.toNat_natCast, Nat.sub_zero, List.drop_zero, Bool.true_and]
  · unfold startB
    rw [ifB_false (decide_eq_false (by omega)), decide_eq_false h, Bool.false_and]
theorem hpre0 : Contract Try.prog 184 (Ent.rd1 hpreG).F := by
  refine fun_contract' KnowsL.nil.knows (Λ := look []) Try.func184 (c := Try.f184.body.getD .skip) (by kernel_rfl) fun vs bs r' hq hv hb => ?_
  unfold Ent.F hpreG at hq
  dsimp only at hq
  split at hq
  · exact ⟨loopsOk_nil _, (hpre0_fun _ _ ).trans hq⟩
  · cases hq
theorem hpre_fun (s p : List UInt8) : funK Try.prog (look [(184, .rd1 hpreG)]) (look []) Try.f141 [.s s, .s p] [] = some (.b (startB s p), []) := by
  have e : funK Try.prog (look [(184, .rd1 hpreG)]) (look []) Try.f141 [.s s, .s p] [] = ((some (V.b (startB s p), [])) : _) := by kernel_rfl
  exact e
theorem hpre : Contract Try.prog 141 (Ent.rd1 hpreG).F := by
  refine fun_contract' (KnowsL.cons (enters_fn Try.func184 (by kernel_rfl) (by kernel_rfl)) hpre0 KnowsL.nil).knows (Λ := look []) Try.func141 (c := Try.f141.body.getD .skip) (by kernel_rfl) fun vs bs r' hq hv hb => ?_
  unfold Ent.F hpreG at hq
  dsimp only at hq
  split at hq
  · exact ⟨loopsOk_nil _, (hpre_fun _ _ ).trans hq⟩
  · cases hq
theorem ifld_fun (fo fk fn : Int) (fd : List UInt8) (kd nm : Int) (tx : List UInt8) : funK Try.prog (look [(141, .rd1 hpreG)]) (look []) Try.f92 [.agg [.i .i64 fo, .i .i64 fk, .i .i64 fn, .s fd], .i .i64 kd, .i .i64 nm, .s tx] [] = some (.b (fldB kd nm tx fk fn fd), []) := by
  have e : funK Try.prog (look [(141, .rd1 hpreG)]) (look []) Try.f92 [.agg [.i .i64 fo, .i .i64 fk, .i .i64 fn, .s fd], .i .i64 kd, .i .i64 nm, .s tx] [] = ((ifB (kd == (1 : Int)) (ifB (fk == (0 : Int)) (some (V.b (fn == nm), [])) (some (V.b false, []))) (ifB (kd == (2 : Int)) (ifB (fk == (0 : Int)) (some (V.b (decide (fn <
 nm)), [])) (some (V.b false, []))) (ifB (kd == (3 : Int)) (ifB (fk == (0 : Int)) (some (V.b (decide (fn > nm)), [])) (some (V.b false, []))) (ifB (kd == (5 : Int)) (ifB
 (!fk == (0 : Int)) (some (V.b (startB fd tx), [])) (some (V.b false, []))) (some (V.b true, [])))))) : _) := by kernel_rfl
  rw [e]
  clear e
  unfold fldB startB
  cases kd == 1 <;> cases kd == 2 <;> cases kd == 3 <;> cases kd == 5 <;> cases fk == 0 <;> simp [ifB]
theorem ifld : Contract Try.prog 92 (Ent.rd1 ifldG).F := by
  refine fun_contract' (KnowsL.cons (enters_fn Try.func141 (by kernel_rfl) (by kernel_rfl)) hpre KnowsL.nil).knows (Λ := look []) Try.func92 (c := Try.f92.body.getD .skip) (by kernel_rfl) fun vs bs r' hq hv hb => ?_
  unfold Ent.F ifldG at hq
  dsimp only at hq
  split at hq
  · exact ⟨loopsOk_nil _, (ifld_fun _ _ _ _ _ _ _ ).trans hq⟩
  · cases hq
theorem runC_con : Contract Try.prog 91 (Ent.rd1 runC).F := by
  refine fun_contract' KnowsL.nil.knows (Λ := look []) Try.func91 (c := Try.f91.body.getD .skip) (by kernel_rfl) fun vs bs r hq hv hb => ?_
  unfold Ent.F runC at hq
  dsimp only at hq
  split at hq
  · rename_i fo fk fn fd fr c kd no nm tx to
    refine ⟨loopsOk_nil _, Eq.trans ?_ hq⟩
    have e : funK Try.prog (look []) (look []) Try.f91 [.agg [.i .i64 fo, .i .i64 fk, .i .i64 fn, .s fd, .i .i64 fr], .bx [.i .i64 c, .i .i64 kd, .i .i64 no, .i .i64 nm, .s tx, .i .i64 to] 0] [] = ((some (V.b (fo == no), [])) : _) := by kernel_rfl
    exact e
  · cases hq
theorem rf_round  (c kd no nm : Int) (tx : List UInt8) (to : Int) (l : List (Pl)) (r k i : Int) : roundK Try.prog (look [(91, .rd1 runC)]) (look [(2, rfE)]) 1 (body Try.f90 0) rfE ([.sl (.pair (.pair (.int .i64) (.pair (.int .i64) (.pair (.int .i64) (.pair .str .unit)))) (.pair (.int .i64) .unit)) l, .fn 91 [] [.ptr 0 0], .i .i64 r, .i .i64 k, .i .i64 i], [some (.box [.i .i64 c, .i .i64 kd, .i .i64 no, .i .i64 nm, .s tx, .i .i64 to])]) =
  ((ifB (decide (i < k)) (ifT (decide ((0 : Int) ≤ i) && decide (i < (↑l.length : Int))) (ifSome l[i.toNat]? fun z => ifB (z.fst.fst == no) (some (Ex.ret, [V.i .i64 i], [some
 (Blk.box [V.i .i64 c, V.i .i64 kd, V.i .i64 no, V.i .i64 nm, V.s tx, V.i .i64 to])])) (some (Ex.normal, [V.sl (((Cd.int .i64).pair ((Cd.int .i64).pair ((Cd.int .i64).pair
 (Cd.str.pair Cd.unit)))).pair ((Cd.int .i64).pair Cd.unit)) l, V.fn 91 [] [V.ptr 0 0], V.i .i64 r, V.i .i64 k, V.i .i64 (IntKind.i64.wrap (i + (1 :
 Int)))], [some (Blk.box [V.i .i64 c, V.i .i64 kd, V.i .i64 no, V.i .i64 nm, V.s tx, V.i .i64 to])])))) (some (Ex.exit 0, [], [some (Blk.box [V.i .i64 c, V.i .i64 kd, V.i
 .i64 no, V.i .i64 nm, V.s tx, V.i .i64 to])]))) : _) := by kernel_rfl
theorem rf_loop  (c kd no nm : Int) (tx : List UInt8) (to : Int) {l : List (Pl)} {r : Int} (hx : l.length ≤ maxI) : ∀ (j i : Nat), i + j = l.length → ∀ e d', (.br (decide (firstP (fun z : Pl => z.1.1 == no) i (l.drop i) < 0)) (.leaf (.exit 0, ([], [some (.box [.i .i64 c, .i .i64 kd, .i .i64 no, .i .i64 nm, .s tx, .i .i64 to])]))) (.leaf (.ret, ([.i .i64 (firstP (fun z : Pl => z.1.1 == no) i (l.drop i))], [some (.box [.i .i64 c, .i .i64 kd, .i .i64 no, .i .i64 nm, .s tx, .i .i64 to])]))) : Br (Ex × Dt)).run = some (e, d') →
    Runs Try.prog (look [(91, .rd1 runC)]) (look [(2, rfE)]) 1 (body Try.f90 0) rfE ([.sl (.pair (.pair (.int .i64) (.pair (.int .i64) (.pair (.int .i64) (.pair .str .unit)))) (.pair (.int .i64) .unit)) l, .fn 91 [] [.ptr 0 0], .i .i64 r, .i .i64 (l.length : Int), .i .i64 (i : Int)], [some (.box [.i .i64 c, .i .i64 kd, .i .i64 no, .i .i64 nm, .s tx, .i .i64 to])]) e d'
  | 0, i, hi, e, d', h => by
    have e1 : l.drop i = [] := List.drop_eq_nil_of_le (by omega)
    rw [e1, br_run, firstP, if_pos (by omega)] at h
    cases h
    have hr := rf_round c kd no nm tx to l r l.length i
    rw [ifB_false (decide_eq_false (by omega))] at hr
    exact .stop _ _ _ hr (by simp)
  | j + 1, i, hi, e, d', h => by
    have h1 : i < l.length := by omega
    have hr := rf_round c kd no nm tx to l r l.length i
    rw [ifB_true (decide_eq_true (by omega)), ifT_true (by simp only [Bool.and_eq_true, decide_eq_true_eq]; omega)] at hr
    simp only [Int.toNat_natCast, List.getElem?_eq_getElem h1, ifSome_s, wrap_succ (n := i) (by omega)] at hr
    rw [List.drop_eq_getElem_cons h1, br_run, firstP] at h
    by_cases he : (fun z : Pl => z.1.1 == no) l[i] = true
    · rw [if_pos he, if_neg (by omega)] at h
      cases h
      rw [ifB_true he] at hr
      exact .stop _ _ _ hr (by simp)
    · rw [if_neg he] at h
      rw [ifB_false (by simpa using he)] at hr
      exact .step _ _ _ _ hr (rf_loop c kd no nm tx to hx j (i + 1) (by omega) e d' (by rw [br_run]; exact h))
theorem rf_ok  : LoopsOk Try.prog (look [(91, .rd1 runC)]) (look [(2, rfE)]) 1 (Try.f90.body.getD .skip) := by
  refine loopsOk_one (a := body Try.f90 0) (by kernel_rfl) fun d e d' h => ?_
  unfold rfE at h
  dsimp only at h
  split at h
  · obtain ⟨hc, h'⟩ := need_some h
    obtain ⟨h0, h1, h2, rfl⟩ := of_decide_eq_true hc
    obtain ⟨i, rfl⟩ := Int.eq_ofNat_of_zero_le h0
    exact rf_loop _ _ _ _ _ _  h2 _ i (Nat.add_sub_of_le h1) e d' h'
  · cases h
theorem rf_fun  (c kd no nm : Int) (tx : List UInt8) (to : Int) (l : List (Pl)) (hx : l.length ≤ maxI) : funK Try.prog (look [(91, .rd1 runC)]) (look [(2, rfE)]) Try.f90 [.sl (.pair (.pair (.int .i64) (.pair (.int .i64) (.pair (.int .i64) (.pair .str .unit)))) (.pair (.int .i64) .unit)) l, .fn 91 [] [.ptr 0 0]] [.box [.i .i64 c, .i .i64 kd, .i .i64 no, .i .i64 nm, .s tx, .i .i64 to]] = some (.i .i64 (firstP (fun z : Pl => z.1.1 == no) 0 l), [some (.box [.i .i64 c, .i .i64 kd, .i .i64 no, .i .i64 nm, .s tx, .i .i64 to])]) := by
  have e : funK Try.prog (look [(91, .rd1 runC)]) (look [(2, rfE)]) Try.f90 [.sl (.pair (.pair (.int .i64) (.pair (.int .i64) (.pair (.int .i64) (.pair .str .unit)))) (.pair (.int .i64) .unit)) l, .fn 91 [] [.ptr 0 0]] [.box [.i .i64 c, .i .i64 kd, .i .i64 no, .i .i64 nm, .s tx, .i .i64 to]] =
    ((ifT (decide ((0 : Int) ≤ (0 : Int) ∧ (0 : Nat) ≤ l.length ∧ l.length ≤ maxI ∧ (↑l.length : Int) = (↑l.length : Int))) (ifB (decide (firstP (fun z => z.fst.fst == no) (0 :
 Nat) (List.drop (0 : Nat) l) < (0 : Int))) (some (V.i .i64 (-1), [some (Blk.box [V.i .i64 c, V.i .i64 kd, V.i .i64 no, V.i .i64 nm, V.s tx, V.i .i64 to])])) (some (V.i
 .i64 (firstP (fun z => z.fst.fst == no) (0 : Nat) (List.drop (0 : Nat) l)), [some (Blk.box [V.i .i64 c, V.i .i64 kd, V.i .i64 no, V.i .i64 nm, V.s tx, V.i .i64 to])])))) : _) := by kernel_rfl
  rw [e, ifT_true (decide_eq_true ⟨by omega, by omega, hx, rfl⟩)]
  simp only [Int.toNat_zero, List.drop_zero]
  by_cases q : firstP (fun z : Pl => z.1.1 == no) 0 l < 0
  · rw [ifB_true (decide_eq_true q), firstP_neg _ _ _ q]
  · rw [ifB_false (decide_eq_false q)]
theorem rf_idx  : Contract Try.prog 90 (Ent.own rfiG).F := by
  refine fun_contract' (KnowsL.cons (enters_fn Try.func91 (by kernel_rfl) (by kernel_rfl)) runC_con KnowsL.nil).knows (Λ := (look [(2, rfE)])) Try.func90 (c := Try.f90.body.getD .skip) (by kernel_rfl) fun vs bs r h hv hb => ?_
  unfold Ent.F rfiG at h
  dsimp only at h
  split at h
  · rename_i l c kd no nm tx to
    have h' := h
    exact ⟨rf_ok , (rf_fun c kd no nm tx to l (hv (.sl (.pair (.pair (.int .i64) (.pair (.int .i64) (.pair (.int .i64) (.pair .str .unit)))) (.pair (.int .i64) .unit)) l) (by simp)).1).trans (by cases h'; rfl)⟩
  · cases h
theorem seek_round (no : Int) (l : List WFd) (n i : Int) : roundK Try.prog (look []) (look [(2, seekE)]) 0 (body Try.f144 0) seekE ([.i .i64 no, .ptr 0 0, .sl (.pair (.int .i64) (.pair (.int .i64) (.pair (.int .i64) (.pair .str .unit)))) l, .i .i64 n, .i .i64 i], [some (.box [.i .i64 0, .i .i64 0, .i .i64 0, .s []])]) =
  ((ifB (decide (i < n)) (ifT (decide ((0 : Int) ≤ i) && decide (i < (↑l.length : Int))) (ifSome l[i.toNat]? fun z => ifB (z.fst == no) (some (Ex.ret, [V.ptr 0 0, V.b true],
 [some (Blk.box [V.i .i64 z.fst, V.i .i64 z.snd.fst, V.i .i64 z.snd.snd.fst, V.s z.snd.snd.snd.fst])])) (some (Ex.normal, [V.i .i64 no, V.ptr 0 0, V.sl ((Cd.int .i64).pair
 ((Cd.int .i64).pair ((Cd.int .i64).pair (Cd.str.pair Cd.unit)))) l, V.i .i64 n, V.i .i64 (IntKind.i64.wrap (i + (1 : Int)))], [some (Blk.box [V.i .i64 0, V.i .i64 0, V.i
 .i64 0, V.s (nilT UInt8)])])))) (some (Ex.exit 0, [V.ptr 0 0], [some (Blk.box [V.i .i64 0, V.i .i64 0, V.i .i64 0, V.s (nilT UInt8)])]))) : _) := by kernel_rfl
theorem seek_tree (l : List WFd) (no : Int) : funC Try.prog (look []) (look [(2, seekE)]) Try.f144 [.sl (.pair (.int .i64) (.pair (.int .i64) (.pair (.int .i64) (.pair .str .unit)))) l, .i .i64 no] [] =
  ((ifT (decide ((0 : Int) ≤ (0 : Int) ∧ (0 : Nat) ≤ l.length ∧ (↑l.length : Int) = (↑l.length : Int) ∧ l.length ≤ maxI)) (ifB (seekB (List.drop (0 : Nat) l) no) (some (V.tup
 [V.agg [V.i .i64 (seekF (List.drop (0 : Nat) l) no).fst, V.i .i64 (seekF (List.drop (0 : Nat) l) no).snd.fst, V.i .i64 (seekF (List.drop (0 : Nat) l) no).snd.snd.fst, V.s
 (seekF (List.drop (0 : Nat) l) no).snd.snd.snd.fst], V.b true], [])) (some (V.tup [V.agg [V.i .i64 0, V.i .i64 0, V.i .i64 0, V.s (nilT UInt8)], V.b false], [])))) : _) := by kernel_rfl
theorem seek_loop (no : Int) (l : List WFd) (hl : l.length ≤ maxI) : ∀ (j i : Nat), i + j = l.length → ∀ ex d, ((.br (seekB (l.drop i) no) (.leaf (.ret, ([.ptr 0 0, .b true], [some (.box [.i .i64 (seekF (l.drop i) no).1, .i .i64 (seekF (l.drop i) no).2.1, .i .i64 (seekF (l.drop i) no).2.2.1, .s (seekF (l.drop i) no).2.2.2.1])]))) (.leaf (.exit 0, ([.ptr 0 0], [some (.box [.i .i64 0, .i .i64 0, .i .i64 0, .s []])])))) : Br (Ex × Dt)).run = some (ex, d) → Runs Try.prog (look []) (look [(2, seekE)]) 0 (body Try.f144 0) seekE ([.i .i64 no, .ptr 0 0, .sl (.pair (.int .i64) (.pair (.int .i64) (.pair (.int .i64) (.pair .str .unit)))) l, .i .i64 (l.length : Int), .i .i64 (i : Int)], [some (.box [.i .i64 0, .i .i64 0, .i .i64 0, .s []])]) ex d
  | 0, i, hi, ex, d, h => by
    have hr := seek_round no l l.length i
    rw [ifB_false (decide_eq_false (by omega))] at hr
    have e1 : l.drop i = [] := List.drop_eq_nil_of_le (by omega)
    have e2 : seekB (l.drop i) no = false := by rw [e1]; rfl
    rw [br_f e2] at h
    have h8 := leaf_some h
    obtain ⟨rfl, rfl⟩ := Prod.mk.inj h8
    exact .stop _ _ _ hr (by simp)
  | j + 1, i, hi, ex, d, h => by
    have hi2 : i < l.length := by omega
    have hM : maxI = 9223372036854775807 := rfl
    have hr := seek_round no l l.length i
    rw [ifB_true (decide_eq_true (by omega)), ifT_true (by simp only [Bool.and_eq_true, decide_eq_true_eq]; omega), Int.toNat_natCast, List.getElem?_eq_getElem hi2, ifSome_s, wrap_succ (n := i) (by omega)] at hr
    have hd := List.drop_eq_getElem_cons hi2
    by_cases q : (l[i].1 == no) = true
    · rw [ifB_true q] at hr
      have e2 : (l.drop i).find? (fun y => y.1 == no) = some l[i] := by rw [hd]; exact List.find?_cons_of_pos (p := fun y : WFd => y.1 == no) q
      have e3 : seekB (l.drop i) no = true := by unfold seekB; rw [e2]; rfl
      have e4 : seekF (l.drop i) no = l[i] := by unfold seekF; rw [e2]; rfl
      rw [br_t e3, e4] at h
      have h8 := leaf_some h
      obtain ⟨rfl, rfl⟩ := Prod.mk.inj h8
      exact .stop _ _ _ hr (by simp)
    · rw [ifB_false (by simpa using q)] at hr
      have e2 : (l.drop i).find? (fun y => y.1 == no) = (l.drop (i + 1)).find? (fun y => y.1 == no) := by rw [hd]; exact List.find?_cons_of_neg (p := fun y : WFd => y.1 == no) q
      have e3 : seekB (l.drop i) no = seekB (l.drop (i + 1)) no := by unfold seekB; rw [e2]
      have e4 : seekF (l.drop i) no = seekF (l.drop (i + 1)) no := by unfold seekF; rw [e2]
      rw [e3, e4] at h
      exact .step _ _ _ _ hr (seek_loop no l hl j (i + 1) (by omega) ex d h)
theorem seek_ok : LoopsOk Try.prog (look []) (look [(2, seekE)]) 0 (Try.f144.body.getD .skip) := by
  refine loopsOk_one (a := body Try.f144 0) (by kernel_rfl) fun d ex d' h => ?_
  unfold seekE at h
  dsimp only at h
  split at h
  · obtain ⟨hc, hx⟩ := need_some h
    obtain ⟨k1, k2, rfl, k4⟩ := of_decide_eq_true hc
    obtain ⟨j, rfl⟩ := Int.eq_ofNat_of_zero_le k1
    simp only [Int.toNat_natCast] at k2 hx
    exact seek_loop _ _ k4 _ j (Nat.add_sub_of_le k2) ex d' hx
  · cases h
theorem seek_fun (l : List WFd) (no : Int) (hl : l.length ≤ maxI) : funC Try.prog (look []) (look [(2, seekE)]) Try.f144 [.sl (.pair (.int .i64) (.pair (.int .i64) (.pair (.int .i64) (.pair .str .unit)))) l, .i .i64 no] [] = some (.tup [.agg [.i .i64 (seekF l no).1, .i .i64 (seekF l no).2.1, .i .i64 (seekF l no).2.2.1, .s (seekF l no).2.2.2.1], .b (seekB l no)], []) := by
  rw [seek_tree, ifT_true (decide_eq_true (by refine ⟨by omega, by omega, rfl, hl⟩))]
  try dsimp only [shr]
  simp only [List.drop_zero]
  cases h : l.find? (fun y => y.1 == no) with
  | none =>
    have e3 : seekB l no = false := by unfold seekB; rw [h]; rfl
    have e4 : seekF l no = fld0 := by unfold seekF; rw [h]; rfl
    rw [e3, e4]; rfl
  | some y =>
    have e3 : seekB l no = true := by unfold seekB; rw [h]; rfl
    rw [e3]; rfl
theorem seek_con : Contract Try.prog 144 (Ent.rd1 seekG).F := by
  refine fun_contractC' KnowsL.nil.knows (Λ := (look [(2, seekE)])) Try.func144 (c := Try.f144.body.getD .skip) (by kernel_rfl) fun vs bs r hq hv hb => ?_
  unfold Ent.F seekG at hq
  dsimp only at hq
  split at hq
  · rename_i l no
    exact ⟨seek_ok, (seek_fun l no (hv (.sl (.pair (.int .i64) (.pair (.int .i64) (.pair (.int .i64) (.pair .str .unit)))) l) (by simp)).1).trans hq⟩
  · cases hq

/-- The field at a place, if there is one. -/
def plO (w : List Pl) (p : Int) : Option WFd := if 0 ≤ p then (w[p.toNat]?).map (·.1) else none
def irunE : LoopEnt := ⟨77, [2,7,9,10,11,12], [], [4,5,6], fun
  | ([.ptr 0 0, .ref 1 0 m, .b f, .i .i64 p, .i .i64 st, .i .i64 a], [some (.box [.sl (.pair (.int .i64) (.pair (.int .i64) (.pair (.int .i64) (.pair (.int .i64) (.pair .str (.pair (.int .i64) .unit)))))) l]), some (.row false none (.pair (.pair (.int .i64) (.pair (.int .i64) (.pair (.int .i64) (.pair .str .unit)))) (.pair (.int .i64) .unit)) w)]) => .need (decide (0 ≤ a ∧ a < l.length ∧ 0 ≤ st ∧ st ≤ a ∧ m = w.length ∧ -1 ≤ p ∧ p < w.length ∧ w.length ≤ 4000000000 ∧ goodPB l = true)) (.leaf (.ret, ([.b (runI (w.map (·.1)) l a.toNat f (plO w p)).1, .i .i64 (st + ((runI (w.map (·.1)) l a.toNat f (plO w p)).2 : Int)), .b true], [])))
  | _ => .no⟩
def srunE : LoopEnt := ⟨55, [1,2,6,7,8,9,10], [], [4,5], fun
  | ([.sl (.pair (.int .i64) (.pair (.int .i64) (.pair (.int .i64) (.pair .str .unit)))) w, .ptr 0 0, .b f, .ptr 1 0, .b has, .i .i64 st, .i .i64 a], [some (.box [.sl (.pair (.int .i64) (.pair (.int .i64) (.pair (.int .i64) (.pair (.int .i64) (.pair .str (.pair (.int .i64) .unit)))))) l]), some (.box [.i .i64 g0, .i .i64 g1, .i .i64 g2, .s g3])]) => .need (decide (0 ≤ a ∧ a < l.length ∧ 0 ≤ st ∧ st ≤ a ∧ goodPB l = true)) (.leaf (.ret, ([.b (runI w l a.toNat f (bif has then some (g0, g1, g2, g3, ()) else none)).1, .i .i64 (st + ((runI w l a.toNat f (bif has then some (g0, g1, g2, g3, ()) else none)).2 : Int))], [])))
  | _ => .no⟩
def l8RunG : List V → List Blk → Br (V × List (Option Blk))
  | [.agg [.sl (.pair (.int .i64) (.pair (.int .i64) (.pair (.int .i64) (.pair (.int .i64) (.pair .str (.pair (.int .i64) .unit)))))) l], .sl (.pair (.int .i64) (.pair (.int .i64) (.pair (.int .i64) (.pair .str .unit)))) w], [] => .need (decide (goodPB l = true)) (.leaf (.tup [.b (runI w l 0 false none).1, .i .i64 ((runI w l 0 false none).2 : Int)], []))
  | _, _ => .no
def runP (l : List Ins) (s : List UInt8) : Bool × Nat × Bool := match risF s with | some w => (if goodPB l = true then ((runI w l 0 false none).1, (runI w l 0 false none).2, true) else (false, 0, false)) | none => (false, 0, false)
def runG : List V → List Blk → Br (V × List (Option Blk))
  | [.agg [.sl (.pair (.int .i64) (.pair (.int .i64) (.pair (.int .i64) (.pair (.int .i64) (.pair .str (.pair (.int .i64) .unit)))))) l], .s s], [] => .need (decide (s.length ≤ 4000000000)) (.leaf (.tup [.b (runP l s).1, .i .i64 ((runP l s).2.1 : Int), .b (runP l s).2.2], []))
  | _, _ => .no

theorem irun_round (m : Nat) (f : Bool) (p st a : Int) (l : List Ins) (w : List Pl) : roundK Try.prog (look [(89, .rd1 risG), (35, .rd1 goodPG), (90, .mix rfiG), (92, .rd1 ifldG)]) (look [(7, irunE)]) 0 (body Try.f28 0) irunE ([.ptr 0 0, .ref 1 0 m, .b f, .i .i64 p, .i .i64 st, .i .i64 a], [some (.box [.sl (.pair (.int .i64) (.pair (.int .i64) (.pair (.int .i64) (.pair (.int .i64) (.pair .str (.pair (.int .i64) .unit)))))) l]), some (.row false none (.pair (.pair (.int .i64) (.pair (.int .i64) (.pair (.int .i64) (.pair .str .unit)))) (.pair (.int .i64) .unit)) w)]) =
  ((ifT (decide ((0 : Int) ≤ a) && decide (a < (↑l.length : Int))) (ifSome l[a.toNat]? fun z => shr z.snd.snd fun sh1 => ifB (z.fst == (1 : Int)) (some (Ex.normal, [V.ptr 0 0,
 V.ref 1 0 m, V.b f, V.i .i64 (firstP (fun z => z.fst.fst == sh1.fst) (0 : Nat) (List.take m (List.drop (0 : Nat) w))), V.i .i64 (IntKind.i64.wrap (st + (1 : Int))), V.i
 .i64 (IntKind.i64.wrap (a + (1 : Int)))], [some (Blk.box [V.sl ((Cd.int .i64).pair ((Cd.int .i64).pair ((Cd.int .i64).pair ((Cd.int .i64).pair (Cd.str.pair ((Cd.int
 .i64).pair Cd.unit)))))) l]), some (Blk.row false none (((Cd.int .i64).pair ((Cd.int .i64).pair ((Cd.int .i64).pair (Cd.str.pair Cd.unit)))).pair ((Cd.int .i64).pair
 Cd.unit)) w)])) (ifB (z.fst == (2 : Int)) (ifB (decide (p ≥ (0 : Int))) (ifT (decide ((0 : Int) ≤ if (0 : Int) > p then (0 : Int) else p) && decide ((if (0 : Int) > p
 then (0 : Int) else p) < (↑m : Int))) (ifSome w[(0 : Nat) + (if (0 : Int) > p then (0 : Int) else p).toNat]? fun z_1 => shr sh1.snd fun sh2 => shr z_1.fst.snd fun sh1 =>
 some (Ex.normal, [V.ptr 0 0, V.ref 1 0 m, V.b (fldB z.snd.fst sh2.fst sh2.snd.fst sh1.fst sh1.snd.fst sh1.snd.snd.fst), V.i .i64 p, V.i .i64 (IntKind.i64.wrap (st + (1 :
 Int))), V.i .i64 (IntKind.i64.wrap (a + (1 : Int)))], [some (Blk.box [V.sl ((Cd.int .i64).pair ((Cd.int .i64).pair ((Cd.int .i64).pair ((Cd.int .i64).pair (Cd.str.pair
 ((Cd.int .i64).pair Cd.unit)))))) l]), some (Blk.row false none (((Cd.int .i64).pair ((Cd.int .i64).pair ((Cd.int .i64).pair (Cd.str.pair Cd.unit)))).pair ((Cd.int
 .i64).pair Cd.unit)) w)]))) (some (Ex.normal, [V.ptr 0 0, V.ref 1 0 m, V.b false, V.i .i64 p, V.i .i64 (IntKind.i64.wrap (st + (1 : Int))), V.i .i64 (IntKind.i64.wrap (a
 + (1 : Int)))], [some (Blk.box [V.sl ((Cd.int .i64).pair ((Cd.int .i64).pair ((Cd.int .i64).pair ((Cd.int .i64).pair (Cd.str.pair ((Cd.int .i64).pair Cd.unit)))))) l]),
 some (Blk.row false none (((Cd.int .i64).pair ((Cd.int .i64).pair ((Cd.int .i64).pair (Cd.str.pair Cd.unit)))).pair ((Cd.int .i64).pair Cd.unit)) w)]))) (ifB (z.fst == (3
 : Int)) (ifB (f == (sh1.snd.fst == (1 : Int))) (some (Ex.normal, [V.ptr 0 0, V.ref 1 0 m, V.b f, V.i .i64 p, V.i .i64 (IntKind.i64.wrap (st + (1 : Int))), V.i .i64
 (IntKind.i64.wrap (IntKind.i64.wrap (sh1.snd.snd.snd.fst - (1 : Int)) + (1 : Int)))], [some (Blk.box [V.sl ((Cd.int .i64).pair ((Cd.int .i64).pair ((Cd.int .i64).pair
 ((Cd.int .i64).pair (Cd.str.pair ((Cd.int .i64).pair Cd.unit)))))) l]), some (Blk.row false none (((Cd.int .i64).pair ((Cd.int .i64).pair ((Cd.int .i64).pair (Cd.str.pair
 Cd.unit)))).pair ((Cd.int .i64).pair Cd.unit)) w)])) (some (Ex.normal, [V.ptr 0 0, V.ref 1 0 m, V.b f, V.i .i64 p, V.i .i64 (IntKind.i64.wrap (st + (1 : Int))), V.i .i64
 (IntKind.i64.wrap (a + (1 : Int)))], [some (Blk.box [V.sl ((Cd.int .i64).pair ((Cd.int .i64).pair ((Cd.int .i64).pair ((Cd.int .i64).pair (Cd.str.pair ((Cd.int .i64).pair
 Cd.unit)))))) l]), some (Blk.row false none (((Cd.int .i64).pair ((Cd.int .i64).pair ((Cd.int .i64).pair (Cd.str.pair Cd.unit)))).pair ((Cd.int .i64).pair Cd.unit))
 w)]))) (ifB (z.fst == (4 : Int)) (some (Ex.normal, [V.ptr 0 0, V.ref 1 0 m, V.b !f, V.i .i64 p, V.i .i64 (IntKind.i64.wrap (st + (1 : Int))), V.i .i64 (IntKind.i64.wrap
 (a + (1 : Int)))], [some (Blk.box [V.sl ((Cd.int .i64).pair ((Cd.int .i64).pair ((Cd.int .i64).pair ((Cd.int .i64).pair (Cd.str.pair ((Cd.int .i64).pair Cd.unit))))))
 l]), some (Blk.row false none (((Cd.int .i64).pair ((Cd.int .i64).pair ((Cd.int .i64).pair (Cd.str.pair Cd.unit)))).pair ((Cd.int .i64).pair Cd.unit)) w)])) (some
 (Ex.ret, [V.b f, V.i .i64 (IntKind.i64.wrap (st + (1 : Int))), V.b true], []))))))) : _) := by kernel_rfl
theorem srun_round (w : List WFd) (f has : Bool) (st a : Int) (l : List Ins) (g0 g1 g2 : Int) (g3 : List UInt8) : roundK Try.prog (look [(144, .rd1 seekG), (145, .rd1 stestG)]) (look [(6, srunE)]) 0 (body Try.f95 0) srunE ([.sl (.pair (.int .i64) (.pair (.int .i64) (.pair (.int .i64) (.pair .str .unit)))) w, .ptr 0 0, .b f, .ptr 1 0, .b has, .i .i64 st, .i .i64 a], [some (.box [.sl (.pair (.int .i64) (.pair (.int .i64) (.pair (.int .i64) (.pair (.int .i64) (.pair .str (.pair (.int .i64) .unit)))))) l]), some (.box [.i .i64 g0, .i .i64 g1, .i .i64 g2, .s g3])]) =
  ((ifT (decide ((0 : Int) ≤ a) && decide (a < (↑l.length : Int))) (ifSome l[a.toNat]? fun z => shr z.snd.snd fun sh1 => ifB (z.fst == (1 : Int)) (some (Ex.normal, [V.sl
 ((Cd.int .i64).pair ((Cd.int .i64).pair ((Cd.int .i64).pair (Cd.str.pair Cd.unit)))) w, V.ptr 0 0, V.b f, V.ptr 1 0, V.b (seekB w sh1.fst), V.i .i64 (IntKind.i64.wrap (st
 + (1 : Int))), V.i .i64 (IntKind.i64.wrap (a + (1 : Int)))], [some (Blk.box [V.sl ((Cd.int .i64).pair ((Cd.int .i64).pair ((Cd.int .i64).pair ((Cd.int .i64).pair
 (Cd.str.pair ((Cd.int .i64).pair Cd.unit)))))) l]), some (Blk.box [V.i .i64 (seekF w sh1.fst).fst, V.i .i64 (seekF w sh1.fst).snd.fst, V.i .i64 (seekF w
 sh1.fst).snd.snd.fst, V.s (seekF w sh1.fst).snd.snd.snd.fst])])) (ifB (z.fst == (2 : Int)) (ifB has (some (Ex.normal, [V.sl ((Cd.int .i64).pair ((Cd.int .i64).pair
 ((Cd.int .i64).pair (Cd.str.pair Cd.unit)))) w, V.ptr 0 0, V.b (fldB z.snd.fst sh1.snd.fst sh1.snd.snd.fst g1 g2 g3), V.ptr 1 0, V.b has, V.i .i64 (IntKind.i64.wrap (st +
 (1 : Int))), V.i .i64 (IntKind.i64.wrap (a + (1 : Int)))], [some (Blk.box [V.sl ((Cd.int .i64).pair ((Cd.int .i64).pair ((Cd.int .i64).pair ((Cd.int .i64).pair
 (Cd.str.pair ((Cd.int .i64).pair Cd.unit)))))) l]), some (Blk.box [V.i .i64 g0, V.i .i64 g1, V.i .i64 g2, V.s g3])])) (some (Ex.normal, [V.sl ((Cd.int .i64).pair ((Cd.int
 .i64).pair ((Cd.int .i64).pair (Cd.str.pair Cd.unit)))) w, V.ptr 0 0, V.b false, V.ptr 1 0, V.b has, V.i .i64 (IntKind.i64.wrap (st + (1 : Int))), V.i .i64
 (IntKind.i64.wrap (a + (1 : Int)))], [some (Blk.box [V.sl ((Cd.int .i64).pair ((Cd.int .i64).pair ((Cd.int .i64).pair ((Cd.int .i64).pair (Cd.str.pair ((Cd.int .i64).pair
 Cd.unit)))))) l]), some (Blk.box [V.i .i64 g0, V.i .i64 g1, V.i .i64 g2, V.s g3])]))) (ifB (z.fst == (3 : Int)) (ifB (f == (sh1.snd.fst == (1 : Int))) (some (Ex.normal,
 [V.sl ((Cd.int .i64).pair ((Cd.int .i64).pair ((Cd.int .i64).pair (Cd.str.pair Cd.unit)))) w, V.ptr 0 0, V.b f, V.ptr 1 0, V.b has, V.i .i64 (IntKind.i64.wrap (st + (1 :
 Int))), V.i .i64 sh1.snd.snd.snd.fst], [some (Blk.box [V.sl ((Cd.int .i64).pair ((Cd.int .i64).pair ((Cd.int .i64).pair ((Cd.int .i64).pair (Cd.str.pair ((Cd.int
 .i64).pair Cd.unit)))))) l]), some (Blk.box [V.i .i64 g0, V.i .i64 g1, V.i .i64 g2, V.s g3])])) (some (Ex.normal, [V.sl ((Cd.int .i64).pair ((Cd.int .i64).pair ((Cd.int
 .i64).pair (Cd.str.pair Cd.unit)))) w, V.ptr 0 0, V.b f, V.ptr 1 0, V.b has, V.i .i64 (IntKind.i64.wrap (st + (1 : Int))), V.i .i64 (IntKind.i64.wrap (a + (1 : Int)))],
 [some (Blk.box [V.sl ((Cd.int .i64).pair ((Cd.int .i64).pair ((Cd.int .i64).pair ((Cd.int .i64).pair (Cd.str.pair ((Cd.int .i64).pair Cd.unit)))))) l]), some (Blk.box
 [V.i .i64 g0, V.i .i64 g1, V.i .i64 g2, V.s g3])]))) (ifB (z.fst == (4 : Int)) (some (Ex.normal, [V.sl ((Cd.int .i64).pair ((Cd.int .i64).pair ((Cd.int .i64).pair
 (Cd.str.pair Cd.unit)))) w, V.ptr 0 0, V.b !f, V.ptr 1 0, V.b has, V.i .i64 (IntKind.i64.wrap (st + (1 : Int))), V.i .i64 (IntKind.i64.wrap (a + (1 : Int)))], [some
 (Blk.box [V.sl ((Cd.int .i64).pair ((Cd.int .i64).pair ((Cd.int .i64).pair ((Cd.int .i64).pair (Cd.str.pair ((Cd.int .i64).pair Cd.unit)))))) l]), some (Blk.box [V.i .i64
 g0, V.i .i64 g1, V.i .i64 g2, V.s g3])])) (some (Ex.ret, [V.b f, V.i .i64 (IntKind.i64.wrap (st + (1 : Int)))], []))))))) : _) := by kernel_rfl
theorem irun_tree (l : List Ins) (s : List UInt8) : funK Try.prog (look [(89, .rd1 risG), (35, .rd1 goodPG), (90, .mix rfiG), (92, .rd1 ifldG)]) (look [(7, irunE)]) Try.f28 [.agg [.sl (.pair (.int .i64) (.pair (.int .i64) (.pair (.int .i64) (.pair (.int .i64) (.pair .str (.pair (.int .i64) .unit)))))) l], .s s] [] =
  ((shr ((risP s).getD (nilT Pl)) fun sh1 => ifT (decide (s.length ≤ (4000000000 : Nat))) (ifB (!(risP s).isSome) (some (V.tup [V.b false, V.i .i64 0, V.b false], [])) (ifB
 (!goodPB l) (some (V.tup [V.b false, V.i .i64 0, V.b false], [])) (ifT (decide ((0 : Int) ≤ (0 : Int) ∧ (0 : Int) < (↑l.length : Int) ∧ (0 : Int) ≤ (0 : Int) ∧ (0 : Int)
 ≤ (0 : Int) ∧ sh1.length = sh1.length ∧ (-1 : Int) ≤ (-1 : Int) ∧ (-1 : Int) < (↑sh1.length : Int) ∧ sh1.length ≤ (4000000000 : Nat) ∧ goodPB l = true)) (some (V.tup [V.b
 (runI (List.map (fun x => x.fst) sh1) l (0 : Nat) false (plO sh1 (-1 : Int))).fst, V.i .i64 ((0 : Int) + (↑(runI (List.map (fun x => x.fst) sh1) l (0 : Nat) false (plO
 sh1 (-1 : Int))).snd : Int)), V.b true], [])))))) : _) := by kernel_rfl
theorem srun_tree (l : List Ins) (w : List WFd) : funK Try.prog (look [(144, .rd1 seekG), (145, .rd1 stestG)]) (look [(6, srunE)]) Try.f95 [.agg [.sl (.pair (.int .i64) (.pair (.int .i64) (.pair (.int .i64) (.pair (.int .i64) (.pair .str (.pair (.int .i64) .unit)))))) l], .sl (.pair (.int .i64) (.pair (.int .i64) (.pair (.int .i64) (.pair .str .unit)))) w] [] =
  ((shr (runI w l (0 : Nat) false (bif false then some ((0 : Int), (0 : Int), (0 : Int), nilT UInt8, ()) else none)) fun sh1 => ifT (decide ((0 : Int) ≤ (0 : Int) ∧ (0 : Int)
 < (↑l.length : Int) ∧ (0 : Int) ≤ (0 : Int) ∧ (0 : Int) ≤ (0 : Int) ∧ goodPB l = true)) (some (V.tup [V.b sh1.fst, V.i .i64 ((0 : Int) + (↑sh1.snd : Int))], []))) : _) := by kernel_rfl
theorem srp_tree (l : List Ins) (s : List UInt8) : funK Try.prog (look [(93, .rd1 risfG), (94, .rd1 goodPG), (95, .rd1 l8RunG)]) (look []) Try.f29 [.agg [.sl (.pair (.int .i64) (.pair (.int .i64) (.pair (.int .i64) (.pair (.int .i64) (.pair .str (.pair (.int .i64) .unit)))))) l], .s s] [] =
  ((shr (runI (List.take ((risF s).getD (nilT WFd)).length (List.drop (0 : Nat) ((risF s).getD (nilT WFd)))) l (0 : Nat) false none) fun sh1 => ifT (decide (s.length ≤
 (4000000000 : Nat))) (ifB (!goodPB l) (some (V.tup [V.b false, V.i .i64 0, V.b false], [])) (ifB (!(risF s).isSome) (some (V.tup [V.b false, V.i .i64 0, V.b false], []))
 (ifT (decide (goodPB l = true)) (some (V.tup [V.b sh1.fst, V.i .i64 (↑sh1.snd : Int), V.b true], [])))))) : _) := by kernel_rfl
theorem rf_mix : Contract Try.prog 90 (Ent.mix rfiG).F := rf_idx
theorem risP_len {s : List UInt8} {w : List Pl} (hs : s.length ≤ 4000000000) (h : risP s = some w) : w.length ≤ 4000000000 := by
  unfold risP at h
  cases e : rdP s with
  | none => rw [e] at h; cases h
  | some l =>
    rw [e] at h
    dsimp only at h
    have := (rdP_len e).1
    split at h
    · cases h; omega
    · cases h
theorem place_find (w : List Pl) (no : Int) : -1 ≤ firstP (fun z : Pl => z.1.1 == no) 0 w ∧ firstP (fun z : Pl => z.1.1 == no) 0 w < w.length ∧ plO w (firstP (fun z : Pl => z.1.1 == no) 0 w) = (w.map (·.1)).find? (fun y => y.1 == no) := by
  rw [List.find?_map]
  rcases firstP_ge (fun z : Pl => z.1.1 == no) w 0 with ⟨h1, h2⟩ | ⟨h1, h2, h3⟩
  · refine ⟨by omega, by omega, ?_⟩
    have := firstP_no (fun z : Pl => z.1.1 == no) w 0 (by omega)
    unfold plO
    rw [if_neg (by omega)]
    show none = Option.map _ (w.find? (fun z : Pl => z.1.1 == no))
    rw [this]; rfl
  · refine ⟨by omega, by omega, ?_⟩
    obtain ⟨i, h4, h5, h6, h7⟩ := firstP_at (fun z : Pl => z.1.1 == no) w 0 (by omega)
    unfold plO
    show _ = Option.map _ (w.find? (fun z : Pl => z.1.1 == no))
    rw [h7, if_pos (by omega), h5, Int.toNat_natCast, Nat.zero_add, List.getElem?_eq_getElem h4]
    all_goals rfl
theorem irun_rd (l : List Ins) (hg : goodPB l = true) (w : List Pl) (hw : w.length ≤ 4000000000) (a : Nat) (f : Bool) (p st : Int) (ha : a < l.length) (h1 : 0 ≤ st) (h2 : st ≤ a) (p1 : -1 ≤ p) (p2 : p < w.length) :
    (1 ≤ (atI l a).1 ∧ (atI l a).1 ≤ 4 → ∃ p' : Int, -1 ≤ p' ∧ p' < w.length ∧ plO w p' = (nextI (w.map (·.1)) (atI l a) a f (plO w p)).2.2 ∧ roundK Try.prog (look [(89, .rd1 risG), (35, .rd1 goodPG), (90, .mix rfiG), (92, .rd1 ifldG)]) (look [(7, irunE)]) 0 (body Try.f28 0) irunE ([.ptr 0 0, .ref 1 0 w.length, .b f, .i .i64 p, .i .i64 st, .i .i64 (a : Int)], [some (.box [.sl (.pair (.int .i64) (.pair (.int .i64) (.pair (.int .i64) (.pair (.int .i64) (.pair .str (.pair (.int .i64) .unit)))))) l]), some (.row false none (.pair (.pair (.int .i64) (.pair (.int .i64) (.pair (.int .i64) (.pair .str .unit)))) (.pair (.int .i64) .unit)) w)]) = some (.normal, ([.ptr 0 0, .ref 1 0 w.length, .b (nextI (w.map (·.1)) (atI l a) a f (plO w p)).2.1, .i .i64 p', .i .i64 (st + 1), .i .i64 ((nextI (w.map (·.1)) (atI l a) a f (plO w p)).1 : Int)], [some (.box [.sl (.pair (.int .i64) (.pair (.int .i64) (.pair (.int .i64) (.pair (.int .i64) (.pair .str (.pair (.int .i64) .unit)))))) l]), some (.row false none (.pair (.pair (.int .i64) (.pair (.int .i64) (.pair (.int .i64) (.pair .str .unit)))) (.pair (.int .i64) .unit)) w)]))) ∧
    (¬ (1 ≤ (atI l a).1 ∧ (atI l a).1 ≤ 4) → roundK Try.prog (look [(89, .rd1 risG), (35, .rd1 goodPG), (90, .mix rfiG), (92, .rd1 ifldG)]) (look [(7, irunE)]) 0 (body Try.f28 0) irunE ([.ptr 0 0, .ref 1 0 w.length, .b f, .i .i64 p, .i .i64 st, .i .i64 (a : Int)], [some (.box [.sl (.pair (.int .i64) (.pair (.int .i64) (.pair (.int .i64) (.pair (.int .i64) (.pair .str (.pair (.int .i64) .unit)))))) l]), some (.row false none (.pair (.pair (.int .i64) (.pair (.int .i64) (.pair (.int .i64) (.pair .str .unit)))) (.pair (.int .i64) .unit)) w)]) = some (.ret, ([.b f, .i .i64 (st + 1), .b true], []))) := by
  have ho := (goodPB_iff.1 hg).2 a _ (atI_get ha)
  have hlen := (goodPB_iff.1 hg).1
  have W1 : IntKind.i64.wrap (st + 1) = st + 1 := wrap_id (by omega) (by omega)
  have W2 : IntKind.i64.wrap ((a : Int) + 1) = ((a + 1 : Nat) : Int) := by rw [wrap_id (by omega) (by omega)]; omega
  have e := irun_round w.length f p st a l w
  dsimp only [shr] at e
  rw [ifT_true (by simp only [Bool.and_eq_true, decide_eq_true_eq]; omega), Int.toNat_natCast, atI_get ha, ifSome_s, W1, W2, List.drop_zero, List.take_length] at e
  generalize atI l a = x at e ho ⊢
  refine ⟨fun hc => ?_, fun hc => ?_⟩
  · by_cases c1 : x.1 = 1
    · rw [ifB_true (beq_iff_eq.2 c1)] at e
      obtain ⟨k1, k2, k3⟩ := place_find w x.no
      refine ⟨_, k1, k2, by rw [next_seek c1]; exact k3, e.trans ?_⟩
      rw [next_seek c1]
    rw [ifB_false (beq_eq_false_iff_ne.2 c1)] at e
    by_cases c2 : x.1 = 2
    · rw [ifB_true (beq_iff_eq.2 c2)] at e
      refine ⟨p, p1, p2, by rw [(next_test c2).2], e.trans ?_⟩
      have en : nextI (w.map (·.1)) x a f (plO w p) = (a + 1, (match plO w p with | some y => fldB x.2.1 x.num x.2.2.2.2.1 y.2.1 y.2.2.1 y.2.2.2.1 | none => false), plO w p) := by
        unfold nextI; rw [if_neg (by omega), if_pos c2]; all_goals rfl
      rw [en]
      by_cases hp : 0 ≤ p
      · obtain ⟨q, rfl⟩ := Int.eq_ofNat_of_zero_le hp
        have hq : q < w.length := by omega
        have ep : plO w (q : Int) = some w[q].1 := by unfold plO; rw [if_pos hp, Int.toNat_natCast, List.getElem?_eq_getElem hq]; rfl
        have e0 : (if 0 > (q : Int) then 0 else (q : Int)) = q := if_neg (by omega)
        rw [ifB_true (decide_eq_true hp), ep]
        simp only [e0]
        rw [ifT_true (by simp only [Bool.and_eq_true, decide_eq_true_eq]; omega), Int.toNat_natCast, Nat.zero_add, List.getElem?_eq_getElem hq, ifSome_s]
      · have ep : plO w p = none := by unfold plO; rw [if_neg hp]
        rw [ifB_false (decide_eq_false hp), ep]
    rw [ifB_false (beq_eq_false_iff_ne.2 c2)] at e
    by_cases c3 : x.1 = 3
    · obtain ⟨j1, j2, j3⟩ := okI_jump ho c3
      rw [ifB_true (beq_iff_eq.2 c3)] at e
      refine ⟨p, p1, p2, by rw [next_jump c3], e.trans ?_⟩
      rw [next_jump c3]
      have W3 : IntKind.i64.wrap (IntKind.i64.wrap (x.2.2.2.2.2.1 - 1) + 1) = (x.to.toNat : Int) := by
        have j1 : (a : Int) < x.2.2.2.2.2.1 := j1
        have j2 : x.2.2.2.2.2.1 < (l.length : Int) := j2
        show _ = ((x.2.2.2.2.2.1).toNat : Int)
        rw [wrap_id (n := x.2.2.2.2.2.1 - 1) (by omega) (by omega), wrap_id (by omega) (by omega)]; omega
      rw [W3]
      by_cases hf : f = (x.num == 1)
      · rw [ifB_true (beq_iff_eq.2 hf), if_pos hf]
      · rw [ifB_false (beq_eq_false_iff_ne.2 hf), if_neg hf]
    rw [ifB_false (beq_eq_false_iff_ne.2 c3)] at e
    have c4 : x.1 = 4 := by omega
    rw [ifB_true (beq_iff_eq.2 c4)] at e
    refine ⟨p, p1, p2, by rw [next_flip c4], e.trans ?_⟩
    rw [next_flip c4]
  · rw [ifB_false (beq_eq_false_iff_ne.2 (by omega)), ifB_false (beq_eq_false_iff_ne.2 (by omega)), ifB_false (beq_eq_false_iff_ne.2 (by omega)), ifB_false (beq_eq_false_iff_ne.2 (by omega))] at e
    exact e
theorem irun_loop (l : List Ins) (hg : goodPB l = true) (w : List Pl) (hw : w.length ≤ 4000000000) : ∀ (j a : Nat) (f : Bool) (p st : Int), l.length - a ≤ j → a < l.length → 0 ≤ st → st ≤ a → -1 ≤ p → p < w.length →
    Runs Try.prog (look [(89, .rd1 risG), (35, .rd1 goodPG), (90, .mix rfiG), (92, .rd1 ifldG)]) (look [(7, irunE)]) 0 (body Try.f28 0) irunE ([.ptr 0 0, .ref 1 0 w.length, .b f, .i .i64 p, .i .i64 st, .i .i64 (a : Int)], [some (.box [.sl (.pair (.int .i64) (.pair (.int .i64) (.pair (.int .i64) (.pair (.int .i64) (.pair .str (.pair (.int .i64) .unit)))))) l]), some (.row false none (.pair (.pair (.int .i64) (.pair (.int .i64) (.pair (.int .i64) (.pair .str .unit)))) (.pair (.int .i64) .unit)) w)]) .ret ([.b (runI (w.map (·.1)) l a f (plO w p)).1, .i .i64 (st + ((runI (w.map (·.1)) l a f (plO w p)).2 : Int)), .b true], [])
  | 0, a, f, p, st, hj, ha, h1, h2, p1, p2 => by omega
  | j + 1, a, f, p, st, hj, ha, h1, h2, p1, p2 => by
    have hb : ∀ b : Nat, a < b → b < l.length → l.length - b ≤ j ∧ st + 1 ≤ (b : Int) := fun b g1 g2 => ⟨by omega, by omega⟩
    obtain ⟨k1, k2⟩ := irun_rd l hg w hw a f p st ha h1 h2 p1 p2
    by_cases hc : 1 ≤ (atI l a).1 ∧ (atI l a).1 ≤ 4
    · obtain ⟨p', q1, q2, q3, q4⟩ := k1 hc
      have hr := nextI_range (fs := w.map (·.1)) (f := f) (p := plO w p) hg ha hc
      have ih := irun_loop l hg w hw j (nextI (w.map (·.1)) (atI l a) a f (plO w p)).1 (nextI (w.map (·.1)) (atI l a) a f (plO w p)).2.1 p' (st + 1) (hb _ hr.1 hr.2).1 hr.2 (Int.add_nonneg h1 (by decide)) (hb _ hr.1 hr.2).2 q1 q2
      rw [q3] at ih
      rw [runI_step hg ha hc]
      rw [show st + 1 + ((runI (w.map (·.1)) l (nextI (w.map (·.1)) (atI l a) a f (plO w p)).1 (nextI (w.map (·.1)) (atI l a) a f (plO w p)).2.1 (nextI (w.map (·.1)) (atI l a) a f (plO w p)).2.2).2 : Int) = st + (((runI (w.map (·.1)) l (nextI (w.map (·.1)) (atI l a) a f (plO w p)).1 (nextI (w.map (·.1)) (atI l a) a f (plO w p)).2.1 (nextI (w.map (·.1)) (atI l a) a f (plO w p)).2.2).2 + 1 : Nat) : Int) by clear k1; omega] at ih
      exact .step _ _ _ _ q4 ih
    · rw [runI_stop ha hc]
      exact .stop _ _ _ (k2 hc) (by simp)
theorem irun_ok : LoopsOk Try.prog (look [(89, .rd1 risG), (35, .rd1 goodPG), (90, .mix rfiG), (92, .rd1 ifldG)]) (look [(7, irunE)]) 0 (Try.f28.body.getD .skip) := by
  refine loopsOk_one (a := body Try.f28 0) (by kernel_rfl) fun d ex d' h => ?_
  unfold irunE at h
  dsimp only at h
  split at h
  · rename_i m f p st a l w
    obtain ⟨hc, hx⟩ := need_some h
    obtain ⟨h0, h1, h2, h3, rfl, h5, h6, h7, h8⟩ := of_decide_eq_true hc
    obtain ⟨a, rfl⟩ := Int.eq_ofNat_of_zero_le h0
    simp only [Int.toNat_natCast] at hx
    have hx := leaf_some hx
    obtain ⟨rfl, rfl⟩ := Prod.mk.inj hx
    exact irun_loop l h8 w h7 _ a f p st (Nat.le_refl _) (by omega) h2 h3 h5 h6
  · cases h
theorem irun_fun (l : List Ins) (s : List UInt8) (hs : s.length ≤ 4000000000) (hq : ∀ w, risP s = some w → w.length ≤ 4000000000) : funK Try.prog (look [(89, .rd1 risG), (35, .rd1 goodPG), (90, .mix rfiG), (92, .rd1 ifldG)]) (look [(7, irunE)]) Try.f28 [.agg [.sl (.pair (.int .i64) (.pair (.int .i64) (.pair (.int .i64) (.pair (.int .i64) (.pair .str (.pair (.int .i64) .unit)))))) l], .s s] [] = some (.tup [.b (runP l s).1, .i .i64 ((runP l s).2.1 : Int), .b (runP l s).2.2], []) := by
  rw [irun_tree]
  dsimp only [shr]
  rw [ifT_true (decide_eq_true hs)]
  unfold runP
  rw [risF_eq]
  cases h : risP s with
  | none => rfl
  | some w =>
    dsimp only [Option.isSome, Option.map, Option.getD]
    rw [Bool.not_true, ifB_f]
    cases hg : goodPB l with
    | false => rfl
    | true =>
      have hlen := (goodPB_iff.1 hg).1
      rw [Bool.not_true, ifB_f, ifT_true (decide_eq_true ⟨by omega, by omega, by omega, by omega, rfl, by omega, by omega, hq w h, rfl⟩), if_pos rfl]
      have e : plO w (-1) = none := by unfold plO; rw [if_neg (by omega)]
      rw [e, Int.zero_add]
theorem irun : Contract Try.prog 28 (Ent.rd1 runG).F := by
  refine fun_contract' (KnowsL.cons (enters_fn Try.func89 (by kernel_rfl) (by kernel_rfl)) ris (KnowsL.cons (enters_fn Try.func35 (by kernel_rfl) (by kernel_rfl)) igoodP (KnowsL.cons (enters_fn Try.func90 (by kernel_rfl) (by kernel_rfl)) rf_mix (KnowsL.cons (enters_fn Try.func92 (by kernel_rfl) (by kernel_rfl)) ifld KnowsL.nil)))).knows (Λ := (look [(7, irunE)])) Try.func28 (c := Try.f28.body.getD .skip) (by kernel_rfl) fun vs bs r hq hv hb => ?_
  unfold Ent.F runG at hq
  dsimp only at hq
  split at hq
  · obtain ⟨hc, hx⟩ := need_some hq
    have hc := of_decide_eq_true hc
    exact ⟨irun_ok, (irun_fun _ _ hc (fun w h => risP_len hc h)).trans hx⟩
  · cases hq
theorem seek_opt (w : List WFd) (no : Int) : (bif seekB w no then some (seekF w no) else none) = w.find? fun y => y.1 == no := by
  unfold seekB seekF
  cases w.find? (fun y => y.1 == no) <;> rfl
theorem srun_rd (l : List Ins) (hg : goodPB l = true) (w : List WFd) (a : Nat) (f has : Bool) (st : Int) (g : WFd) (ha : a < l.length) (h1 : 0 ≤ st) (h2 : st ≤ a) :
    (1 ≤ (atI l a).1 ∧ (atI l a).1 ≤ 4 → ∃ has' g', (bif has' then some g' else none) = (nextI w (atI l a) a f (bif has then some g else none)).2.2 ∧ roundK Try.prog (look [(144, .rd1 seekG), (145, .rd1 stestG)]) (look [(6, srunE)]) 0 (body Try.f95 0) srunE ([.sl (.pair (.int .i64) (.pair (.int .i64) (.pair (.int .i64) (.pair .str .unit)))) w, .ptr 0 0, .b f, .ptr 1 0, .b has, .i .i64 st, .i .i64 (a : Int)], [some (.box [.sl (.pair (.int .i64) (.pair (.int .i64) (.pair (.int .i64) (.pair (.int .i64) (.pair .str (.pair (.int .i64) .unit)))))) l]), some (.box [.i .i64 g.1, .i .i64 g.2.1, .i .i64 g.2.2.1, .s g.2.2.2.1])]) = some (.normal, ([.sl (.pair (.int .i64) (.pair (.int .i64) (.pair (.int .i64) (.pair .str .unit)))) w, .ptr 0 0, .b (nextI w (atI l a) a f (bif has then some g else none)).2.1, .ptr 1 0, .b has', .i .i64 (st + 1), .i .i64 ((nextI w (atI l a) a f (bif has then some g else none)).1 : Int)], [some (.box [.sl (.pair (.int .i64) (.pair (.int .i64) (.pair (.int .i64) (.pair (.int .i64) (.pair .str (.pair (.int .i64) .unit)))))) l]), some (.box [.i .i64 g'.1, .i .i64 g'.2.1, .i .i64 g'.2.2.1, .s g'.2.2.2.1])]))) ∧
    (¬ (1 ≤ (atI l a).1 ∧ (atI l a).1 ≤ 4) → roundK Try.prog (look [(144, .rd1 seekG), (145, .rd1 stestG)]) (look [(6, srunE)]) 0 (body Try.f95 0) srunE ([.sl (.pair (.int .i64) (.pair (.int .i64) (.pair (.int .i64) (.pair .str .unit)))) w, .ptr 0 0, .b f, .ptr 1 0, .b has, .i .i64 st, .i .i64 (a : Int)], [some (.box [.sl (.pair (.int .i64) (.pair (.int .i64) (.pair (.int .i64) (.pair (.int .i64) (.pair .str (.pair (.int .i64) .unit)))))) l]), some (.box [.i .i64 g.1, .i .i64 g.2.1, .i .i64 g.2.2.1, .s g.2.2.2.1])]) = some (.ret, ([.b f, .i .i64 (st + 1)], []))) := by
  have ho := (goodPB_iff.1 hg).2 a _ (atI_get ha)
  have hlen := (goodPB_iff.1 hg).1
  have W1 : IntKind.i64.wrap (st + 1) = st + 1 := wrap_id (by omega) (by omega)
  have W2 : IntKind.i64.wrap ((a : Int) + 1) = ((a + 1 : Nat) : Int) := by rw [wrap_id (by omega) (by omega)]; omega
  have e := srun_round w f has st a l g.1 g.2.1 g.2.2.1 g.2.2.2.1
  dsimp only [shr] at e
  rw [ifT_true (by simp only [Bool.and_eq_true, decide_eq_true_eq]; omega), Int.toNat_natCast, atI_get ha, ifSome_s, W1, W2] at e
  generalize atI l a = x at e ho ⊢
  refine ⟨fun hc => ?_, fun hc => ?_⟩
  · by_cases c1 : x.1 = 1
    · rw [ifB_true (beq_iff_eq.2 c1)] at e
      refine ⟨seekB w x.no, seekF w x.no, by rw [next_seek c1]; exact seek_opt w x.no, e.trans ?_⟩
      rw [next_seek c1]
    rw [ifB_false (beq_eq_false_iff_ne.2 c1)] at e
    by_cases c2 : x.1 = 2
    · rw [ifB_true (beq_iff_eq.2 c2)] at e
      refine ⟨has, g, by rw [(next_test c2).2], e.trans ?_⟩
      have en : nextI w x a f (bif has then some g else none) = (a + 1, (match ((bif has then some g else none) : Option WFd) with | some y => fldB x.2.1 x.num x.2.2.2.2.1 y.2.1 y.2.2.1 y.2.2.2.1 | none => false), (bif has then some g else none)) := by
        unfold nextI; rw [if_neg (by omega), if_pos c2]; all_goals rfl
      rw [en]
      cases has <;> rfl
    rw [ifB_false (beq_eq_false_iff_ne.2 c2)] at e
    by_cases c3 : x.1 = 3
    · obtain ⟨j1, j2, j3⟩ := okI_jump ho c3
      rw [ifB_true (beq_iff_eq.2 c3)] at e
      refine ⟨has, g, by rw [next_jump c3], e.trans ?_⟩
      rw [next_jump c3]
      have W3 : x.2.2.2.2.2.1 = (x.to.toNat : Int) := by
        have j1 : (a : Int) < x.2.2.2.2.2.1 := j1
        show _ = ((x.2.2.2.2.2.1).toNat : Int)
        omega
      by_cases hf : f = (x.num == 1)
      · rw [ifB_true (beq_iff_eq.2 hf), if_pos hf]
        exact congrArg (fun t : Int => some ((.normal : Ex), (([.sl (.pair (.int .i64) (.pair (.int .i64) (.pair (.int .i64) (.pair .str .unit)))) w, .ptr 0 0, .b f, .ptr 1 0, .b has, .i .i64 (st + 1), .i .i64 t], [some (.box [.sl (.pair (.int .i64) (.pair (.int .i64) (.pair (.int .i64) (.pair (.int .i64) (.pair .str (.pair (.int .i64) .unit)))))) l]), some (.box [.i .i64 g.1, .i .i64 g.2.1, .i .i64 g.2.2.1, .s g.2.2.2.1])]) : Dt))) W3
      · rw [ifB_false (beq_eq_false_iff_ne.2 hf), if_neg hf]
    rw [ifB_false (beq_eq_false_iff_ne.2 c3)] at e
    have c4 : x.1 = 4 := by omega
    rw [ifB_true (beq_iff_eq.2 c4)] at e
    refine ⟨has, g, by rw [next_flip c4], e.trans ?_⟩
    rw [next_flip c4]
  · rw [ifB_false (beq_eq_false_iff_ne.2 (by omega)), ifB_false (beq_eq_false_iff_ne.2 (by omega)), ifB_false (beq_eq_false_iff_ne.2 (by omega)), ifB_false (beq_eq_false_iff_ne.2 (by omega))] at e
    exact e
theorem srun_loop (l : List Ins) (hg : goodPB l = true) (w : List WFd) : ∀ (j a : Nat) (f has : Bool) (st : Int) (g : WFd), l.length - a ≤ j → a < l.length → 0 ≤ st → st ≤ a →
    Runs Try.prog (look [(144, .rd1 seekG), (145, .rd1 stestG)]) (look [(6, srunE)]) 0 (body Try.f95 0) srunE ([.sl (.pair (.int .i64) (.pair (.int .i64) (.pair (.int .i64) (.pair .str .unit)))) w, .ptr 0 0, .b f, .ptr 1 0, .b has, .i .i64 st, .i .i64 (a : Int)], [some (.box [.sl (.pair (.int .i64) (.pair (.int .i64) (.pair (.int .i64) (.pair (.int .i64) (.pair .str (.pair (.int .i64) .unit)))))) l]), some (.box [.i .i64 g.1, .i .i64 g.2.1, .i .i64 g.2.2.1, .s g.2.2.2.1])]) .ret ([.b (runI w l a f (bif has then some g else none)).1, .i .i64 (st + ((runI w l a f (bif has then some g else none)).2 : Int))], [])
  | 0, a, f, has, st, g, hj, ha, h1, h2 => by omega
  | j + 1, a, f, has, st, g, hj, ha, h1, h2 => by
    have hb : ∀ b : Nat, a < b → b < l.length → l.length - b ≤ j ∧ st + 1 ≤ (b : Int) := fun b g1 g2 => ⟨by omega, by omega⟩
    obtain ⟨k1, k2⟩ := srun_rd l hg w a f has st g ha h1 h2
    by_cases hc : 1 ≤ (atI l a).1 ∧ (atI l a).1 ≤ 4
    · obtain ⟨has', g', q3, q4⟩ := k1 hc
      have hr := nextI_range (fs := w) (f := f) (p := (bif has then some g else none)) hg ha hc
      have ih := srun_loop l hg w j (nextI w (atI l a) a f (bif has then some g else none)).1 (nextI w (atI l a) a f (bif has then some g else none)).2.1 has' (st + 1) g' (hb _ hr.1 hr.2).1 hr.2 (Int.add_nonneg h1 (by decide)) (hb _ hr.1 hr.2).2
      rw [q3] at ih
      rw [runI_step hg ha hc]
      rw [show st + 1 + ((runI w l (nextI w (atI l a) a f (bif has then some g else none)).1 (nextI w (atI l a) a f (bif has then some g else none)).2.1 (nextI w (atI l a) a f (bif has then some g else none)).2.2).2 : Int) = st + (((runI w l (nextI w (atI l a) a f (bif has then some g else none)).1 (nextI w (atI l a) a f (bif has then some g else none)).2.1 (nextI w (atI l a) a f (bif has then some g else none)).2.2).2 + 1 : Nat) : Int) by clear k1; omega] at ih
      exact .step _ _ _ _ q4 ih
    · rw [runI_stop ha hc]
      exact .stop _ _ _ (k2 hc) (by simp)
theorem srun_ok : LoopsOk Try.prog (look [(144, .rd1 seekG), (145, .rd1 stestG)]) (look [(6, srunE)]) 0 (Try.f95.body.getD .skip) := by
  refine loopsOk_one (a := body Try.f95 0) (by kernel_rfl) fun d ex d' h => ?_
  unfold srunE at h
  dsimp only at h
  split at h
  · rename_i w f has st a l g0 g1 g2 g3
    obtain ⟨hc, hx⟩ := need_some h
    obtain ⟨h0, h1, h2, h3, h8⟩ := of_decide_eq_true hc
    obtain ⟨a, rfl⟩ := Int.eq_ofNat_of_zero_le h0
    simp only [Int.toNat_natCast] at hx
    have hx := leaf_some hx
    obtain ⟨rfl, rfl⟩ := Prod.mk.inj hx
    exact srun_loop l h8 w _ a f has st (g0, g1, g2, g3, ()) (Nat.le_refl _) (by omega) h2 h3
  · cases h
theorem l8run : Contract Try.prog 95 (Ent.rd1 l8RunG).F := by
  refine fun_contract' (KnowsL.cons (enters_fn Try.func144 (by kernel_rfl) (by kernel_rfl)) seek_con (KnowsL.cons (enters_fn Try.func145 (by kernel_rfl) (by kernel_rfl)) stest KnowsL.nil)).knows (Λ := (look [(6, srunE)])) Try.func95 (c := Try.f95.body.getD .skip) (by kernel_rfl) fun vs bs r hq hv hb => ?_
  unfold Ent.F l8RunG at hq
  dsimp only at hq
  split at hq
  · rename_i l w
    obtain ⟨hc, hx⟩ := need_some hq
    have hg := of_decide_eq_true hc
    have hlen := (goodPB_iff.1 hg).1
    refine ⟨srun_ok, (srun_tree l w).trans (Eq.trans ?_ hx)⟩
    dsimp only [shr]
    rw [ifT_true (decide_eq_true ⟨by omega, by omega, by omega, by omega, hg⟩), Int.zero_add]
    rfl
  · cases hq
theorem srp : Contract Try.prog 29 (Ent.rd1 runG).F := by
  refine fun_contract' (KnowsL.cons (enters_fn Try.func93 (by kernel_rfl) (by kernel_rfl)) srisC (KnowsL.cons (enters_fn Try.func94 (by kernel_rfl) (by kernel_rfl)) sgoodP (KnowsL.cons (enters_fn Try.func95 (by kernel_rfl) (by kernel_rfl)) l8run KnowsL.nil))).knows (Λ := look []) Try.func29 (c := Try.f29.body.getD .skip) (by kernel_rfl) fun vs bs r hq hv hb => ?_
  unfold Ent.F runG at hq
  dsimp only at hq
  split at hq
  · rename_i l s
    obtain ⟨hc, hx⟩ := need_some hq
    have hs := of_decide_eq_true hc
    refine ⟨loopsOk_nil _, (srp_tree l s).trans (Eq.trans ?_ hx)⟩
    dsimp only [shr]
    rw [ifT_true (decide_eq_true hs), List.drop_zero, List.take_length]
    show _ = some _
    unfold runP
    cases h : risF s with
    | none =>
      dsimp only [Option.isSome, Option.getD]
      cases goodPB l <;> rfl
    | some w =>
      dsimp only [Option.isSome, Option.getD]
      cases goodPB l <;> rfl
  · cases hq

/-- The jumps lead nowhere into the cut. -/
def okCut (l : List Ins) (a m : Int) : Bool := l.all fun z => !(z.1 == 3) || decide (0 ≤ z.2.2.2.2.2.1 ∧ z.2.2.2.2.2.1 ≤ 60 ∧ (z.2.2.2.2.2.1 ≤ a ∨ a + m ≤ z.2.2.2.2.2.1))
def restC (l : List Ins) (a m i : Nat) : List Ins := ((l.take a).drop i ++ l.drop (max i (a + m))).map (adjI a m)
def delIns0 : List V → List Blk → Br (V × List (Option Blk))
  | [.ref 0 0 n, .i .i64 i, .i .i64 j], [.row false _ (.pair (.int .i64) (.pair (.int .i64) (.pair (.int .i64) (.pair (.int .i64) (.pair .str (.pair (.int .i64) .unit)))))) l] => .need (decide (0 ≤ i ∧ i < j ∧ j ≤ n ∧ n = l.length ∧ l.length ≤ 8000000)) (.leaf (.ref 0 0 (l.length - (j.toNat - i.toNat)), [some (.row false none (.pair (.int .i64) (.pair (.int .i64) (.pair (.int .i64) (.pair (.int .i64) (.pair .str (.pair (.int .i64) .unit)))))) (l.take i.toNat ++ l.drop j.toNat ++ List.replicate (j.toNat - i.toNat) (0, 0, 0, 0, [], 0, ())))]))
  | _, _ => .no
def delIns : List V → List Blk → Br (V × List (Option Blk))
  | [.ref 0 0 n, .i .i64 i, .i .i64 j], [.row false _ (.pair (.int .i64) (.pair (.int .i64) (.pair (.int .i64) (.pair (.int .i64) (.pair .str (.pair (.int .i64) .unit)))))) l] => .need (decide (0 ≤ i ∧ i < j ∧ j ≤ n ∧ n = l.length ∧ l.length ≤ 8000000)) (.leaf (.ref 1 0 (l.take i.toNat ++ l.drop j.toNat).length, [none, some (.row false none (.pair (.int .i64) (.pair (.int .i64) (.pair (.int .i64) (.pair (.int .i64) (.pair .str (.pair (.int .i64) .unit)))))) (l.take i.toNat ++ l.drop j.toNat))]))
  | _, _ => .no
def cutG : List V → List Blk → Br (V × List (Option Blk))
  | [.sl (.pair (.int .i64) (.pair (.int .i64) (.pair (.int .i64) (.pair (.int .i64) (.pair .str (.pair (.int .i64) .unit)))))) l, .i .i64 a, .i .i64 m], [] => .need (decide (0 ≤ a ∧ 1 ≤ m ∧ a + m ≤ l.length ∧ l.length ≤ 60) && okCut l a m) (.leaf (.ref 0 0 (cutI l a.toNat m.toNat).length, [some (.row false none (.pair (.int .i64) (.pair (.int .i64) (.pair (.int .i64) (.pair (.int .i64) (.pair .str (.pair (.int .i64) .unit)))))) (cutI l a.toNat m.toNat))]))
  | _, _ => .no
def sCutE : LoopEnt := ⟨53, [1,2,7,10,11,12], [7], [], fun
  | ([.i .i64 a, .i .i64 m, .ref 0 0 k, .sl (.pair (.int .i64) (.pair (.int .i64) (.pair (.int .i64) (.pair (.int .i64) (.pair .str (.pair (.int .i64) .unit)))))) l, .i .i64 n, .i .i64 i], [some (.row false none (.pair (.int .i64) (.pair (.int .i64) (.pair (.int .i64) (.pair (.int .i64) (.pair .str (.pair (.int .i64) .unit)))))) o)]) => .need (decide (0 ≤ i ∧ i.toNat ≤ l.length ∧ n = l.length ∧ l.length ≤ 60 ∧ 0 ≤ a ∧ 1 ≤ m ∧ a + m ≤ l.length ∧ k = o.length ∧ o.length ≤ i.toNat) && okCut l a m) (.leaf (.exit 0, ([.ref 0 0 (o ++ restC l a.toNat m.toNat i.toNat).length], [some (.row false none (.pair (.int .i64) (.pair (.int .i64) (.pair (.int .i64) (.pair (.int .i64) (.pair .str (.pair (.int .i64) .unit)))))) (o ++ restC l a.toNat m.toNat i.toNat))])))
  | _ => .no⟩
def iCutE : LoopEnt := ⟨47, [1,2,7,17,18], [7], [], fun
  | ([.i .i64 a, .i .i64 m, .ref 0 0 k, .i .i64 n, .i .i64 i], [some (.row false none (.pair (.int .i64) (.pair (.int .i64) (.pair (.int .i64) (.pair (.int .i64) (.pair .str (.pair (.int .i64) .unit)))))) o)]) => .need (decide (0 ≤ i ∧ i.toNat ≤ o.length ∧ n = o.length ∧ k = o.length ∧ o.length ≤ 60 ∧ 0 ≤ a ∧ 1 ≤ m ∧ a + m ≤ 60) && (o.drop i.toNat).all fun z => decide (z.1 = 3 → 0 ≤ z.2.2.2.2.2.1 ∧ z.2.2.2.2.2.1 ≤ 60)) (.leaf (.exit 0, ([.ref 0 0 o.length], [some (.row false none (.pair (.int .i64) (.pair (.int .i64) (.pair (.int .i64) (.pair (.int .i64) (.pair .str (.pair (.int .i64) .unit)))))) (o.take i.toNat ++ (o.drop i.toNat).map (adjI a.toNat m.toNat)))])))
  | _ => .no⟩

theorem delIns_tree (n : Nat) (i j : Int) (nl : Option Bool) (l : List Ins) : funN Try.prog (look []) (look []) Try.f188 [.ref 0 0 n, .i .i64 i, .i .i64 j] [.row false nl (.pair (.int .i64) (.pair (.int .i64) (.pair (.int .i64) (.pair (.int .i64) (.pair .str (.pair (.int .i64) .unit)))))) l] =
  ((shr (List.take ((0 : Nat) + (i.toNat - (0 : Nat))) l ++ List.take (n - j.toNat) (List.drop ((0 : Nat) + j.toNat) l) ++ List.drop ((0 : Nat) + (i.toNat - (0 : Nat)) + (n -
 j.toNat)) l) fun sh1 => ifT (decide ((0 : Int) ≤ i ∧ i ≤ j ∧ j ≤ (↑n : Int) ∧ (↑n : Int) ≤ (↑n : Int))) (ifB (i == j) (some (V.ref 0 0 n, [some (Blk.row false none
 ((Cd.int .i64).pair ((Cd.int .i64).pair ((Cd.int .i64).pair ((Cd.int .i64).pair (Cd.str.pair ((Cd.int .i64).pair Cd.unit)))))) l)])) (ifT (decide ((0 : Int) ≤ i) &&
 decide (i ≤ (↑(l.length - (0 : Nat)) : Int))) (ifT (decide ((0 : Int) ≤ j) && decide (j ≤ (↑n : Int))) (ifT (decide ((0 : Nat) + (i.toNat - (0 : Nat)) + (n - j.toNat) ≤
 l.length ∧ (0 : Nat) + j.toNat + (n - j.toNat) ≤ l.length)) (ifT (decide ((0 : Int) ≤ (↑(i.toNat - (0 : Nat) + (n - j.toNat)) : Int)) && decide ((↑(i.toNat - (0 : Nat) +
 (n - j.toNat)) : Int) ≤ (↑n : Int)) && decide ((↑n : Int) ≤ (↑(sh1.length - (0 : Nat)) : Int))) (some (V.ref 0 0 (i.toNat - (0 : Nat) + (n - j.toNat)), [some (Blk.row
 false none ((Cd.int .i64).pair ((Cd.int .i64).pair ((Cd.int .i64).pair ((Cd.int .i64).pair (Cd.str.pair ((Cd.int .i64).pair Cd.unit)))))) (List.take ((0 : Nat) +
 (↑(i.toNat - (0 : Nat) + (n - j.toNat)) : Int).toNat) sh1 ++ List.replicate ((↑n : Int).toNat - (↑(i.toNat - (0 : Nat) + (n - j.toNat)) : Int).toNat) ((0 : Int), (0 :
 Int), (0 : Int), (0 : Int), nilT UInt8, (0 : Int), ()) ++ List.drop ((0 : Nat) + (↑(i.toNat - (0 : Nat) + (n - j.toNat)) : Int).toNat + ((↑n : Int).toNat - (↑(i.toNat -
 (0 : Nat) + (n - j.toNat)) : Int).toNat)) sh1))])))))))) : _) := by kernel_rfl
theorem sCut_round (a m : Int) (k : Nat) (l o : List Ins) (n i : Int) : roundK Try.prog (look []) (look [(3, sCutE)]) 0 (body Try.f150 0) sCutE ([.i .i64 a, .i .i64 m, .ref 0 0 k, .sl (.pair (.int .i64) (.pair (.int .i64) (.pair (.int .i64) (.pair (.int .i64) (.pair .str (.pair (.int .i64) .unit)))))) l, .i .i64 n, .i .i64 i], [some (.row false none (.pair (.int .i64) (.pair (.int .i64) (.pair (.int .i64) (.pair (.int .i64) (.pair .str (.pair (.int .i64) .unit)))))) o)]) =
  ((shr (nilT ((Cd.int .i64).pair ((Cd.int .i64).pair ((Cd.int .i64).pair ((Cd.int .i64).pair (Cd.str.pair ((Cd.int .i64).pair Cd.unit)))))).den) fun sh2 => shr (List.take k
 (List.drop (0 : Nat) o)) fun sh1 => ifB (decide (i < n)) (ifT (decide ((0 : Int) ≤ i) && decide (i < (↑l.length : Int))) (ifSome l[i.toNat]? fun z => ifB (decide (i ≥ a))
 (ifB (decide (i < IntKind.i64.wrap (a + m))) (some (Ex.normal, [V.i .i64 a, V.i .i64 m, V.ref 0 0 k, V.sl ((Cd.int .i64).pair ((Cd.int .i64).pair ((Cd.int .i64).pair
 ((Cd.int .i64).pair (Cd.str.pair ((Cd.int .i64).pair Cd.unit)))))) l, V.i .i64 n, V.i .i64 (IntKind.i64.wrap (i + (1 : Int)))], [some (Blk.row false none ((Cd.int
 .i64).pair ((Cd.int .i64).pair ((Cd.int .i64).pair ((Cd.int .i64).pair (Cd.str.pair ((Cd.int .i64).pair Cd.unit)))))) o)])) (ifB (z.fst == (3 : Int)) (ifB (decide
 (z.snd.snd.snd.snd.snd.fst > a)) (ifB (decide (IntKind.i64.wrap (z.snd.snd.snd.snd.snd.fst - m) < a)) (ifT (decide ((k + (1 : Nat)) * (56 : Nat) ≤ (140737488355328 :
 Nat)) && decide (k + (1 : Nat) ≤ maxI)) (some (Ex.normal, [V.i .i64 a, V.i .i64 m, V.ref 0 0 (k + (1 : Nat)), V.sl ((Cd.int .i64).pair ((Cd.int .i64).pair ((Cd.int
 .i64).pair ((Cd.int .i64).pair (Cd.str.pair ((Cd.int .i64).pair Cd.unit)))))) l, V.i .i64 n, V.i .i64 (IntKind.i64.wrap (i + (1 : Int)))], [some (Blk.row false none
 ((Cd.int .i64).pair ((Cd.int .i64).pair ((Cd.int .i64).pair ((Cd.int .i64).pair (Cd.str.pair ((Cd.int .i64).pair Cd.unit)))))) (sh1 ++ (z.fst, z.snd.fst, z.snd.snd.fst,
 z.snd.snd.snd.fst, z.snd.snd.snd.snd.fst, a, ()) :: sh2))]))) (ifT (decide ((k + (1 : Nat)) * (56 : Nat) ≤ (140737488355328 : Nat)) && decide (k + (1 : Nat) ≤ maxI))
 (some (Ex.normal, [V.i .i64 a, V.i .i64 m, V.ref 0 0 (k + (1 : Nat)), V.sl ((Cd.int .i64).pair ((Cd.int .i64).pair ((Cd.int .i64).pair ((Cd.int .i64).pair (Cd.str.pair
 ((Cd.int .i64).pair Cd.unit)))))) l, V.i .i64 n, V.i .i64 (IntKind.i64.wrap (i + (1 : Int)))], [some (Blk.row false none ((Cd.int .i64).pair ((Cd.int .i64).pair ((Cd.int
 .i64).pair ((Cd.int .i64).pair (Cd.str.pair ((Cd.int .i64).pair Cd.unit)))))) (sh1 ++ (z.fst, z.snd.fst, z.snd.snd.fst, z.snd.snd.snd.fst, z.snd.snd.snd.snd.fst,
 IntKind.i64.wrap (z.snd.snd.snd.snd.snd.fst - m), ()) :: sh2))])))) (ifT (decide ((k + (1 : Nat)) * (56 : Nat) ≤ (140737488355328 : Nat)) && decide (k + (1 : Nat) ≤
 maxI)) (some (Ex.normal, [V.i .i64 a, V.i .i64 m, V.ref 0 0 (k + (1 : Nat)), V.sl ((Cd.int .i64).pair ((Cd.int .i64).pair ((Cd.int .i64).pair ((Cd.int .i64).pair
 (Cd.str.pair ((Cd.int .i64).pair Cd.unit)))))) l, V.i .i64 n, V.i .i64 (IntKind.i64.wrap (i + (1 : Int)))], [some (Blk.row false none ((Cd.int .i64).pair ((Cd.int
 .i64).pair ((Cd.int .i64).pair ((Cd.int .i64).pair (Cd.str.pair ((Cd.int .i64).pair Cd.unit)))))) (sh1 ++ (z.fst, z.snd.fst, z.snd.snd.fst, z.snd.snd.snd.fst,
 z.snd.snd.snd.snd.fst, z.snd.snd.snd.snd.snd.fst, ()) :: sh2))])))) (ifT (decide ((k + (1 : Nat)) * (56 : Nat) ≤ (140737488355328 : Nat)) && decide (k + (1 : Nat) ≤
 maxI)) (some (Ex.normal, [V.i .i64 a, V.i .i64 m, V.ref 0 0 (k + (1 : Nat)), V.sl ((Cd.int .i64).pair ((Cd.int .i64).pair ((Cd.int .i64).pair ((Cd.int .i64).pair
 (Cd.str.pair ((Cd.int .i64).pair Cd.unit)))))) l, V.i .i64 n, V.i .i64 (IntKind.i64.wrap (i + (1 : Int)))], [some (Blk.row false none ((Cd.int .i64).pair ((Cd.int
 .i64).pair ((Cd.int .i64).pair ((Cd.int .i64).pair (Cd.str.pair ((Cd.int .i64).pair Cd.unit)))))) (sh1 ++ (z.fst, z.snd.fst, z.snd.snd.fst, z.snd.snd.snd.fst,
 z.snd.snd.snd.snd.fst, z.snd.snd.snd.snd.snd.fst, ()) :: sh2))]))))) (ifB (z.fst == (3 : Int)) (ifB (decide (z.snd.snd.snd.snd.snd.fst > a)) (ifB (decide
 (IntKind.i64.wrap (z.snd.snd.snd.snd.snd.fst - m) < a)) (ifT (decide ((k + (1 : Nat)) * (56 : Nat) ≤ (140737488355328 : Nat)) && decide (k + (1 : Nat) ≤ maxI)) (some
 (Ex.normal, [V.i .i64 a, V.i .i64 m, V.ref 0 0 (k + (1 : Nat)), V.sl ((Cd.int .i64).pair ((Cd.int .i64).pair ((Cd.int .i64).pair ((Cd.int .i64).pair (Cd.str.pair ((Cd.int
 .i64).pair Cd.unit)))))) l, V.i .i64 n, V.i .i64 (IntKind.i64.wrap (i + (1 : Int)))], [some (Blk.row false none ((Cd.int .i64).pair ((Cd.int .i64).pair ((Cd.int
 .i64).pair ((Cd.int .i64).pair (Cd.str.pair ((Cd.int .i64).pair Cd.unit)))))) (sh1 ++ (z.fst, z.snd.fst, z.snd.snd.fst, z.snd.snd.snd.fst, z.snd.snd.snd.snd.fst, a, ())
 :: sh2))]))) (ifT (decide ((k + (1 : Nat)) * (56 : Nat) ≤ (140737488355328 : Nat)) && decide (k + (1 : Nat) ≤ maxI)) (some (Ex.normal, [V.i .i64 a, V.i .i64 m, V.ref 0 0
 (k + (1 : Nat)), V.sl ((Cd.int .i64).pair ((Cd.int .i64).pair ((Cd.int .i64).pair ((Cd.int .i64).pair (Cd.str.pair ((Cd.int .i64).pair Cd.unit)))))) l, V.i .i64 n, V.i
 .i64 (IntKind.i64.wrap (i + (1 : Int)))], [some (Blk.row false none ((Cd.int .i64).pair ((Cd.int .i64).pair ((Cd.int .i64).pair ((Cd.int .i64).pair (Cd.str.pair ((Cd.int
 .i64).pair Cd.unit)))))) (sh1 ++ (z.fst, z.snd.fst, z.snd.snd.fst, z.snd.snd.snd.fst, z.snd.snd.snd.snd.fst, IntKind.i64.wrap (z.snd.snd.snd.snd.snd.fst - m), ()) ::
 sh2))])))) (ifT (decide ((k + (1 : Nat)) * (56 : Nat) ≤ (140737488355328 : Nat)) && decide (k + (1 : Nat) ≤ maxI)) (some (Ex.normal, [V.i .i64 a, V.i .i64 m, V.ref 0 0 (k
 + (1 : Nat)), V.sl ((Cd.int .i64).pair ((Cd.int .i64).pair ((Cd.int .i64).pair ((Cd.int .i64).pair (Cd.str.pair ((Cd.int .i64).pair Cd.unit)))))) l, V.i .i64 n, V.i .i64
 (IntKind.i64.wrap (i + (1 : Int)))], [some (Blk.row false none ((Cd.int .i64).pair ((Cd.int .i64).pair ((Cd.int .i64).pair ((Cd.int .i64).pair (Cd.str.pair ((Cd.int
 .i64).pair Cd.unit)))))) (sh1 ++ (z.fst, z.snd.fst, z.snd.snd.fst, z.snd.snd.snd.fst, z.snd.snd.snd.snd.fst, z.snd.snd.snd.snd.snd.fst, ()) :: sh2))])))) (ifT (decide ((k
 + (1 : Nat)) * (56 : Nat) ≤ (140737488355328 : Nat)) && decide (k + (1 : Nat) ≤ maxI)) (some (Ex.normal, [V.i .i64 a, V.i .i64 m, V.ref 0 0 (k + (1 : Nat)), V.sl ((Cd.int
 .i64).pair ((Cd.int .i64).pair ((Cd.int .i64).pair ((Cd.int .i64).pair (Cd.str.pair ((Cd.int .i64).pair Cd.unit)))))) l, V.i .i64 n, V.i .i64 (IntKind.i64.wrap (i + (1 :
 Int)))], [some (Blk.row false none ((Cd.int .i64).pair ((Cd.int .i64).pair ((Cd.int .i64).pair ((Cd.int .i64).pair (Cd.str.pair ((Cd.int .i64).pair Cd.unit)))))) (sh1 ++
 (z.fst, z.snd.fst, z.snd.snd.fst, z.snd.snd.snd.fst, z.snd.snd.snd.snd.fst, z.snd.snd.snd.snd.snd.fst, ()) :: sh2))])))))) (some (Ex.exit 0, [V.ref 0 0 k], [some (Blk.row
 false none ((Cd.int .i64).pair ((Cd.int .i64).pair ((Cd.int .i64).pair ((Cd.int .i64).pair (Cd.str.pair ((Cd.int .i64).pair Cd.unit)))))) o)]))) : _) := by kernel_rfl
theorem iCut_round (a m : Int) (k : Nat) (o : List Ins) (n i : Int) : roundK Try.prog (look [(96, .rd1 cloneInsG), (188, .own delIns)]) (look [(3, iCutE)]) 0 (body Try.f148 0) iCutE ([.i .i64 a, .i .i64 m, .ref 0 0 k, .i .i64 n, .i .i64 i], [some (.row false none (.pair (.int .i64) (.pair (.int .i64) (.pair (.int .i64) (.pair (.int .i64) (.pair .str (.pair (.int .i64) .unit)))))) o)]) =
  ((ifB (decide (i < n)) (ifT (decide ((0 : Int) ≤ i) && decide (i < (↑k : Int))) (ifSome o[(0 : Nat) + i.toNat]? fun z => ifB (z.fst == (3 : Int)) (ifT (decide ((0 : Int) ≤
 i) && decide (i < (↑k : Int))) (ifSome o[(0 : Nat) + i.toNat]? fun z => ifB (decide (z.snd.snd.snd.snd.snd.fst > a)) (ifT (decide ((0 : Int) ≤ i) && decide (i < (↑k :
 Int))) (ifSome o[(0 : Nat) + i.toNat]? fun z => ifT (decide ((0 : Int) ≤ i) && decide (i < (↑k : Int))) (ifSome o[(0 : Nat) + i.toNat]? fun z_1 => some (Ex.normal, [V.i
 .i64 a, V.i .i64 m, V.ref 0 0 k, V.i .i64 n, V.i .i64 (IntKind.i64.wrap (i + (1 : Int)))], [some (Blk.row false none ((Cd.int .i64).pair ((Cd.int .i64).pair ((Cd.int
 .i64).pair ((Cd.int .i64).pair (Cd.str.pair ((Cd.int .i64).pair Cd.unit)))))) (o.set ((0 : Nat) + i.toNat) (z_1.fst, z_1.snd.fst, z_1.snd.snd.fst, z_1.snd.snd.snd.fst,
 z_1.snd.snd.snd.snd.fst, IntKind.i64.wrap (z.snd.snd.snd.snd.snd.fst - m), ())))])))) (some (Ex.normal, [V.i .i64 a, V.i .i64 m, V.ref 0 0 k, V.i .i64 n, V.i .i64
 (IntKind.i64.wrap (i + (1 : Int)))], [some (Blk.row false none ((Cd.int .i64).pair ((Cd.int .i64).pair ((Cd.int .i64).pair ((Cd.int .i64).pair (Cd.str.pair ((Cd.int
 .i64).pair Cd.unit)))))) o)])))) (some (Ex.normal, [V.i .i64 a, V.i .i64 m, V.ref 0 0 k, V.i .i64 n, V.i .i64 (IntKind.i64.wrap (i + (1 : Int)))], [some (Blk.row false
 none ((Cd.int .i64).pair ((Cd.int .i64).pair ((Cd.int .i64).pair ((Cd.int .i64).pair (Cd.str.pair ((Cd.int .i64).pair Cd.unit)))))) o)])))) (some (Ex.exit 0, [V.ref 0 0
 k], [some (Blk.row false none ((Cd.int .i64).pair ((Cd.int .i64).pair ((Cd.int .i64).pair ((Cd.int .i64).pair (Cd.str.pair ((Cd.int .i64).pair Cd.unit)))))) o)]))) : _) := by kernel_rfl
theorem sCut_tree (l : List Ins) (a m : Int) : funC Try.prog (look []) (look [(3, sCutE)]) Try.f150 [.sl (.pair (.int .i64) (.pair (.int .i64) (.pair (.int .i64) (.pair (.int .i64) (.pair .str (.pair (.int .i64) .unit)))))) l, .i .i64 a, .i .i64 m] [] =
  ((shr (nilT ((Cd.int .i64).pair ((Cd.int .i64).pair ((Cd.int .i64).pair ((Cd.int .i64).pair (Cd.str.pair ((Cd.int .i64).pair Cd.unit)))))).den ++ restC l a.toNat m.toNat (0
 : Nat)) fun sh1 => ifT (decide ((0 : Int) ≤ (0 : Int) ∧ (0 : Nat) ≤ l.length ∧ (↑l.length : Int) = (↑l.length : Int) ∧ l.length ≤ (60 : Nat) ∧ (0 : Int) ≤ a ∧ (1 : Int) ≤
 m ∧ a + m ≤ (↑l.length : Int) ∧ (0 : Nat) = (0 : Nat) ∧ (0 : Nat) ≤ (0 : Nat)) && okCut l a m) (some (V.ref 0 0 sh1.length, [some (Blk.row false none ((Cd.int .i64).pair
 ((Cd.int .i64).pair ((Cd.int .i64).pair ((Cd.int .i64).pair (Cd.str.pair ((Cd.int .i64).pair Cd.unit)))))) sh1)]))) : _) := by kernel_rfl
theorem iCut_tree (l : List Ins) (a m : Int) : funC Try.prog (look [(96, .rd1 cloneInsG), (188, .own delIns)]) (look [(3, iCutE)]) Try.f148 [.sl (.pair (.int .i64) (.pair (.int .i64) (.pair (.int .i64) (.pair (.int .i64) (.pair .str (.pair (.int .i64) .unit)))))) l, .i .i64 a, .i .i64 m] [] =
  ((shr (List.take a.toNat l ++ List.drop (IntKind.i64.wrap (a + m)).toNat l) fun sh1 => ifT (decide (l.length ≤ (1000000000 : Nat))) (ifT (decide ((0 : Int) ≤ a ∧ a <
 IntKind.i64.wrap (a + m) ∧ IntKind.i64.wrap (a + m) ≤ (↑l.length : Int) ∧ l.length = l.length ∧ l.length ≤ (8000000 : Nat))) (ifT (decide ((0 : Int) ≤ (0 : Int) ∧ (0 :
 Nat) ≤ sh1.length ∧ (↑sh1.length : Int) = (↑sh1.length : Int) ∧ sh1.length = sh1.length ∧ sh1.length ≤ (60 : Nat) ∧ (0 : Int) ≤ a ∧ (1 : Int) ≤ m ∧ a + m ≤ (60 : Int)) &&
 (List.drop (0 : Nat) sh1).all fun z => decide (z.fst = (3 : (Cd.int .i64).den) → (0 : (Cd.int .i64).den) ≤ z.snd.snd.snd.snd.snd.fst ∧ z.snd.snd.snd.snd.snd.fst ≤ (60 :
 (Cd.int .i64).den))) (some (V.ref 0 0 sh1.length, [some (Blk.row false none ((Cd.int .i64).pair ((Cd.int .i64).pair ((Cd.int .i64).pair ((Cd.int .i64).pair (Cd.str.pair
 ((Cd.int .i64).pair Cd.unit)))))) (nilT ((Cd.int .i64).pair ((Cd.int .i64).pair ((Cd.int .i64).pair ((Cd.int .i64).pair (Cd.str.pair ((Cd.int .i64).pair Cd.unit)))))).den
 ++ List.map (adjI a.toNat m.toNat) (List.drop (0 : Nat) sh1)))]))))) : _) := by kernel_rfl
theorem delIns_con0 : Contract Try.prog 188 (Ent.own delIns0).F := by
  refine fun_contractN' (KnowsL.nil).knows (Λ := look []) Try.func188 (c := Try.f188.body.getD .skip) (by kernel_rfl) fun vs bs r h hv hb => ?_
  unfold Ent.F delIns0 at h
  dsimp only at h
  split at h
  · rename_i n i j nl l
    obtain ⟨hc, h8⟩ := need_some h
    clear h
    obtain ⟨h0, h1, h2, rfl, h4⟩ := of_decide_eq_true hc
    refine ⟨loopsOk_nil _, (delIns_tree l.length i j nl l).trans (Eq.trans ?_ h8)⟩
    clear h8 hc
    obtain ⟨i, rfl⟩ := Int.eq_ofNat_of_zero_le h0
    obtain ⟨j, rfl⟩ := Int.eq_ofNat_of_zero_le (show 0 ≤ j by omega)
    have hM : maxI = 9223372036854775807 := rfl
    dsimp only [shr]
    simp only [Int.toNat_natCast, Nat.zero_add, Nat.sub_zero]
    have e1 : (l.take i ++ (l.drop j).take (l.length - j) ++ l.drop (i + (l.length - j))).length = i + (l.length - j) + (l.length - (i + (l.length - j))) := by simp; omega
    rw [ifT_true (decide_eq_true (by omega)), ifB_false (beq_eq_false_iff_ne.2 (by omega)), ifT_true (by simp only [Bool.and_eq_true, decide_eq_true_eq]; omega), ifT_true (by simp only [Bool.and_eq_true, decide_eq_true_eq]; omega), ifT_true (decide_eq_true (by omega)), ifT_true (by simp only [Bool.and_eq_true, decide_eq_true_eq, e1]; omega)]
    have e2 : (l.drop j).take (l.length - j) = l.drop j := List.take_of_length_le (by simp)
    have e3 : (l.take i ++ l.drop j).length = i + (l.length - j) := by simp; omega
    rw [e2, List.take_left' e3, List.drop_of_length_le (i := i + (l.length - j) + (l.length - (i + (l.length - j)))) (by rw [List.length_append, List.length_append, List.length_drop]; simp; omega), List.append_nil, show l.length - (i + (l.length - j)) = j - i by omega, show i + (l.length - j) = l.length - (j - i) by omega]
    rfl
  · cases h
theorem delIns_con : Contract Try.prog 188 (Ent.own delIns).F := by
  refine contract_trim delIns_con0 fun vs bs r h => ?_
  unfold Ent.F delIns at h
  dsimp only at h
  split at h
  · rename_i n i j nl l
    obtain ⟨hc, h⟩ := need_some h
    obtain ⟨h0, h1, h2, h3, h4⟩ := of_decide_eq_true hc
    have e3 : (l.take i.toNat ++ l.drop j.toNat).length = l.length - (j.toNat - i.toNat) := by simp; omega
    refine ⟨0, l.length - (j.toNat - i.toNat), none, (.pair (.int .i64) (.pair (.int .i64) (.pair (.int .i64) (.pair (.int .i64) (.pair .str (.pair (.int .i64) .unit)))))), l.take i.toNat ++ l.drop j.toNat ++ List.replicate (j.toNat - i.toNat) (0, 0, 0, 0, [], 0, ()), ?_, ?_⟩
    · unfold Ent.F delIns0
      show (Br.need (decide (0 ≤ i ∧ i < j ∧ j ≤ n ∧ n = l.length ∧ l.length ≤ 8000000)) (.leaf _)).run = _
      rw [hc]; rfl
    · rw [List.drop_zero, List.take_left' e3, ← e3]; exact (leaf_some h).symm
  · cases h
theorem restC_end {l : List Ins} {a m : Nat} (h : a + m ≤ l.length) : restC l a m l.length = [] := by
  unfold restC
  rw [List.drop_of_length_le (by simp; omega), List.drop_of_length_le (by omega)]; rfl
theorem restC_0 {l : List Ins} {a m : Nat} : restC l a m 0 = cutI l a m := by
  unfold restC cutI
  rw [List.drop_zero, Nat.max_eq_right (by omega)]
theorem restC_in {l : List Ins} {a m i : Nat} (h1 : a ≤ i) (h2 : i < a + m) : restC l a m i = restC l a m (i + 1) := by
  unfold restC
  rw [List.drop_of_length_le (by simp; omega), List.drop_of_length_le (i := i + 1) (by simp; omega), Nat.max_eq_right (by omega), Nat.max_eq_right (by omega)]
theorem restC_out {l : List Ins} {a m i : Nat} (h : i < l.length) (h1 : i < a ∨ a + m ≤ i) : restC l a m i = adjI a m l[i] :: restC l a m (i + 1) := by
  unfold restC
  rcases h1 with h1 | h1
  · rw [List.drop_eq_getElem_cons (i := i) (l := l.take a) (by simp; omega), Nat.max_eq_right (by omega), Nat.max_eq_right (by omega), List.cons_append, List.map_cons, List.getElem_take]
  · rw [List.drop_of_length_le (by simp; omega), List.drop_of_length_le (i := i + 1) (by simp; omega), Nat.max_eq_left (by omega), Nat.max_eq_left (by omega), List.nil_append, List.nil_append, List.drop_eq_getElem_cons h, List.map_cons]
theorem ins_eta (z : Ins) : (z.1, z.2.1, z.2.2.1, z.2.2.2.1, z.2.2.2.2.1, z.2.2.2.2.2.1, ()) = z := rfl
theorem okCut_at {l : List Ins} {a m : Int} (h : okCut l a m = true) {z : Ins} (hz : z ∈ l) (h3 : z.1 = 3) : 0 ≤ z.2.2.2.2.2.1 ∧ z.2.2.2.2.2.1 ≤ 60 ∧ (z.2.2.2.2.2.1 ≤ a ∨ a + m ≤ z.2.2.2.2.2.1) := by
  have := List.all_eq_true.1 h z hz
  rw [h3] at this
  simpa using this
theorem sCut_rd (a m : Nat) (l o : List Ins) (i : Nat) (hi : i < l.length) (hl : l.length ≤ 60) (hm : 1 ≤ m) (ham : a + m ≤ l.length) (ho : o.length ≤ i) (hk : okCut l (a : Int) (m : Int) = true) :
    roundK Try.prog (look []) (look [(3, sCutE)]) 0 (body Try.f150 0) sCutE ([.i .i64 (a : Int), .i .i64 (m : Int), .ref 0 0 o.length, .sl (.pair (.int .i64) (.pair (.int .i64) (.pair (.int .i64) (.pair (.int .i64) (.pair .str (.pair (.int .i64) .unit)))))) l, .i .i64 (l.length : Int), .i .i64 (i : Int)], [some (.row false none (.pair (.int .i64) (.pair (.int .i64) (.pair (.int .i64) (.pair (.int .i64) (.pair .str (.pair (.int .i64) .unit)))))) o)]) = some (.normal, ([.i .i64 (a : Int), .i .i64 (m : Int), .ref 0 0 (if a ≤ i ∧ i < a + m then o else o ++ [adjI a m l[i]]).length, .sl (.pair (.int .i64) (.pair (.int .i64) (.pair (.int .i64) (.pair (.int .i64) (.pair .str (.pair (.int .i64) .unit)))))) l, .i .i64 (l.length : Int), .i .i64 ((i + 1 : Nat) : Int)], [some (.row false none (.pair (.int .i64) (.pair (.int .i64) (.pair (.int .i64) (.pair (.int .i64) (.pair .str (.pair (.int .i64) .unit)))))) (if a ≤ i ∧ i < a + m then o else o ++ [adjI a m l[i]]))])) := by
  rw [sCut_round]
  have hM : maxI = 9223372036854775807 := rfl
  have w1 : IntKind.i64.wrap ((i : Int) + 1) = ((i + 1 : Nat) : Int) := by rw [wrap_id (by omega) (by omega)]; omega
  have w2 : IntKind.i64.wrap ((a : Int) + (m : Int)) = ((a + m : Nat) : Int) := by rw [wrap_id (by omega) (by omega)]; omega
  have hz := okCut_at hk (List.getElem_mem hi)
  have hz3 : ∀ t, 0 ≤ t → t ≤ 60 → IntKind.i64.wrap (t - (m : Int)) = t - m := fun t h1 h2 => wrap_id (by omega) (by omega)
  have el : (decide ((o.length + 1) * 56 ≤ 140737488355328) && decide (o.length + 1 ≤ maxI)) = true := by simp only [Bool.and_eq_true, decide_eq_true_eq]; omega
  dsimp only [shr]
  rw [ifB_true (decide_eq_true (by omega)), ifT_true (by simp only [Bool.and_eq_true, decide_eq_true_eq]; omega)]
  simp only [Int.toNat_natCast, w1, w2, List.getElem?_eq_getElem hi, ifSome_s, List.drop_zero, List.take_length, nilT_eq, ifT_true el, ins_eta]
  generalize l[i] = z at hz ⊢
  have adj : (ifB (z.1 == 3) (ifB (decide (z.2.2.2.2.2.1 > (a : Int))) (ifB (decide (IntKind.i64.wrap (z.2.2.2.2.2.1 - (m : Int)) < (a : Int))) (some (z.1, z.2.1, z.2.2.1, z.2.2.2.1, z.2.2.2.2.1, (a : Int), ())) (some (z.1, z.2.1, z.2.2.1, z.2.2.2.1, z.2.2.2.2.1, IntKind.i64.wrap (z.2.2.2.2.2.1 - (m : Int)), ()))) (some z)) (some z)) = some (adjI a m z) := by
    by_cases h3 : z.1 = 3
    · obtain ⟨k1, k2, k3⟩ := hz h3
      rw [ifB_true (beq_iff_eq.2 h3)]
      by_cases ht : (a : Int) < z.2.2.2.2.2.1
      · rw [ifB_true (decide_eq_true ht), hz3 _ k1 k2, ifB_false (decide_eq_false (by omega))]
        unfold adjI
        rw [if_pos ⟨h3, ht⟩]; rfl
      · rw [ifB_false (decide_eq_false ht)]
        unfold adjI
        rw [if_neg (fun hh => ht hh.2)]
    · rw [ifB_false (beq_eq_false_iff_ne.2 h3), adjI_not3 h3]
  have push : ∀ (K : Ins → Option (Ex × Dt)), ifB (z.1 == 3) (ifB (decide (z.2.2.2.2.2.1 > (a : Int))) (ifB (decide (IntKind.i64.wrap (z.2.2.2.2.2.1 - (m : Int)) < (a : Int))) (K (z.1, z.2.1, z.2.2.1, z.2.2.2.1, z.2.2.2.2.1, (a : Int), ())) (K (z.1, z.2.1, z.2.2.1, z.2.2.2.1, z.2.2.2.2.1, IntKind.i64.wrap (z.2.2.2.2.2.1 - (m : Int)), ()))) (K z)) (K z) = K (adjI a m z) := fun K => by
    revert adj
    cases (z.1 == 3) <;> cases decide (z.2.2.2.2.2.1 > (a : Int)) <;> cases decide (IntKind.i64.wrap (z.2.2.2.2.2.1 - (m : Int)) < (a : Int)) <;> intro adj <;> exact congrArg K (Option.some.inj adj)
  have P := push fun x => some (.normal, ([.i .i64 (a : Int), .i .i64 (m : Int), .ref 0 0 (o.length + 1), .sl (.pair (.int .i64) (.pair (.int .i64) (.pair (.int .i64) (.pair (.int .i64) (.pair .str (.pair (.int .i64) .unit)))))) l, .i .i64 (l.length : Int), .i .i64 ((i + 1 : Nat) : Int)], [some (.row false none (.pair (.int .i64) (.pair (.int .i64) (.pair (.int .i64) (.pair (.int .i64) (.pair .str (.pair (.int .i64) .unit)))))) (o ++ [x]))]))
  by_cases h1 : a ≤ i
  · rw [ifB_true (decide_eq_true (by omega))]
    by_cases h2 : i < a + m
    · rw [ifB_true (decide_eq_true (by omega)), if_pos ⟨h1, h2⟩]
    · rw [ifB_false (decide_eq_false (by omega)), if_neg (fun h => h2 h.2), List.length_append]
      exact P
  · rw [ifB_false (decide_eq_false (by omega)), if_neg (fun h => h1 h.1), List.length_append]
    exact P
theorem sCut_loop (a m : Nat) (l : List Ins) (hl : l.length ≤ 60) (hm : 1 ≤ m) (ham : a + m ≤ l.length) (hk : okCut l (a : Int) (m : Int) = true) : ∀ (j i : Nat) (o : List Ins), i + j = l.length → o.length ≤ i →
    Runs Try.prog (look []) (look [(3, sCutE)]) 0 (body Try.f150 0) sCutE ([.i .i64 (a : Int), .i .i64 (m : Int), .ref 0 0 o.length, .sl (.pair (.int .i64) (.pair (.int .i64) (.pair (.int .i64) (.pair (.int .i64) (.pair .str (.pair (.int .i64) .unit)))))) l, .i .i64 (l.length : Int), .i .i64 (i : Int)], [some (.row false none (.pair (.int .i64) (.pair (.int .i64) (.pair (.int .i64) (.pair (.int .i64) (.pair .str (.pair (.int .i64) .unit)))))) o)]) (.exit 0) ([.ref 0 0 (o ++ restC l a m i).length], [some (.row false none (.pair (.int .i64) (.pair (.int .i64) (.pair (.int .i64) (.pair (.int .i64) (.pair .str (.pair (.int .i64) .unit)))))) (o ++ restC l a m i))])
  | 0, i, o, hi, ho => by
    obtain rfl : i = l.length := by omega
    have hr := sCut_round a m o.length l o l.length l.length
    dsimp only [shr] at hr
    rw [ifB_false (decide_eq_false (by omega))] at hr
    rw [restC_end ham, List.append_nil]
    exact .stop _ _ _ hr (by simp)
  | j + 1, i, o, hi, ho => by
    have hr := sCut_rd a m l o i (by omega) hl hm ham ho hk
    have ih := sCut_loop a m l hl hm ham hk j (i + 1) (if a ≤ i ∧ i < a + m then o else o ++ [adjI a m l[i]]) (by omega) (by
      split
      · omega
      · simp only [List.length_append, List.length_cons, List.length_nil]; omega)
    have e : (if a ≤ i ∧ i < a + m then o else o ++ [adjI a m l[i]]) ++ restC l a m (i + 1) = o ++ restC l a m i := by
      split
      · rename_i h; rw [restC_in h.1 h.2]
      · rename_i h; rw [restC_out (l := l) (a := a) (m := m) (i := i) (by omega) (by omega), List.append_assoc]; rfl
    rw [e] at ih
    exact .step _ _ _ _ hr ih
theorem sCut_ok : LoopsOk Try.prog (look []) (look [(3, sCutE)]) 0 (Try.f150.body.getD .skip) := by
  refine loopsOk_one (a := body Try.f150 0) (by kernel_rfl) fun d ex d' h => ?_
  unfold sCutE at h
  dsimp only at h
  split at h
  · rename_i a m k l n i o
    obtain ⟨hc, hx⟩ := need_some h
    rw [Bool.and_eq_true] at hc
    obtain ⟨hc, hk⟩ := hc
    obtain ⟨h0, h1, rfl, h3, h4, h5, h6, rfl, h8⟩ := of_decide_eq_true hc
    obtain ⟨i, rfl⟩ := Int.eq_ofNat_of_zero_le h0
    obtain ⟨a, rfl⟩ := Int.eq_ofNat_of_zero_le h4
    obtain ⟨m, rfl⟩ := Int.eq_ofNat_of_zero_le (show 0 ≤ m by omega)
    simp only [Int.toNat_natCast] at h1 h8 hx
    have hx := leaf_some hx
    obtain ⟨rfl, rfl⟩ := Prod.mk.inj hx
    exact sCut_loop a m l h3 (by omega) (by omega) hk (l.length - i) i o (by omega) h8
  · cases h
theorem sCut_fun (l : List Ins) (a m : Int) (h0 : 0 ≤ a) (h1 : 1 ≤ m) (h2 : a + m ≤ l.length) (h3 : l.length ≤ 60) (hk : okCut l a m = true) : funC Try.prog (look []) (look [(3, sCutE)]) Try.f150 [.sl (.pair (.int .i64) (.pair (.int .i64) (.pair (.int .i64) (.pair (.int .i64) (.pair .str (.pair (.int .i64) .unit)))))) l, .i .i64 a, .i .i64 m] [] = some (.ref 0 0 (cutI l a.toNat m.toNat).length, [some (.row false none (.pair (.int .i64) (.pair (.int .i64) (.pair (.int .i64) (.pair (.int .i64) (.pair .str (.pair (.int .i64) .unit)))))) (cutI l a.toNat m.toNat))]) := by
  rw [sCut_tree]
  dsimp only [shr]
  rw [ifT_true (by rw [Bool.and_eq_true]; exact ⟨decide_eq_true ⟨by omega, by omega, rfl, h3, h0, h1, h2, rfl, by omega⟩, hk⟩), nilT_eq, List.nil_append, restC_0]
theorem sCut : Contract Try.prog 150 (Ent.rd1 cutG).F := by
  refine fun_contractC' KnowsL.nil.knows (Λ := (look [(3, sCutE)])) Try.func150 (c := Try.f150.body.getD .skip) (by kernel_rfl) fun vs bs r hq hv hb => ?_
  unfold Ent.F cutG at hq
  dsimp only at hq
  split at hq
  · obtain ⟨hc, hx⟩ := need_some hq
    rw [Bool.and_eq_true] at hc
    obtain ⟨hc, hk⟩ := hc
    obtain ⟨h0, h1, h2, h3⟩ := of_decide_eq_true hc
    exact ⟨sCut_ok, (sCut_fun _ _ _ h0 h1 h2 h3 hk).trans hx⟩
  · cases hq
theorem iCut_rd (a m : Nat) (o : List Ins) (i : Nat) (hi : i < o.length) (hl : o.length ≤ 60) (ham : a + m ≤ 60) (hz : o[i].1 = 3 → 0 ≤ o[i].2.2.2.2.2.1 ∧ o[i].2.2.2.2.2.1 ≤ 60) :
    roundK Try.prog (look [(96, .rd1 cloneInsG), (188, .own delIns)]) (look [(3, iCutE)]) 0 (body Try.f148 0) iCutE ([.i .i64 (a : Int), .i .i64 (m : Int), .ref 0 0 o.length, .i .i64 (o.length : Int), .i .i64 (i : Int)], [some (.row false none (.pair (.int .i64) (.pair (.int .i64) (.pair (.int .i64) (.pair (.int .i64) (.pair .str (.pair (.int .i64) .unit)))))) o)]) = some (.normal, ([.i .i64 (a : Int), .i .i64 (m : Int), .ref 0 0 o.length, .i .i64 (o.length : Int), .i .i64 ((i + 1 : Nat) : Int)], [some (.row false none (.pair (.int .i64) (.pair (.int .i64) (.pair (.int .i64) (.pair (.int .i64) (.pair .str (.pair (.int .i64) .unit)))))) (o.set i (adjI a m o[i])))])) := by
  rw [iCut_round]
  have w1 : IntKind.i64.wrap ((i : Int) + 1) = ((i + 1 : Nat) : Int) := by rw [wrap_id (by omega) (by omega)]; omega
  have el : (decide (0 ≤ (i : Int)) && decide ((i : Int) < (o.length : Int))) = true := by simp only [Bool.and_eq_true, decide_eq_true_eq]; omega
  simp only [Nat.zero_add, Int.toNat_natCast, ifT_true el, List.getElem?_eq_getElem hi, ifSome_s, w1]
  rw [ifB_true (decide_eq_true (by omega))]
  have hs : o.set i o[i] = o := List.set_getElem_self hi
  unfold adjI
  by_cases h3 : o[i].1 = 3
  · obtain ⟨k1, k2⟩ := hz h3
    rw [ifB_true (beq_iff_eq.2 h3), wrap_id (by omega) (by omega)]
    by_cases ht : (a : Int) < o[i].2.2.2.2.2.1
    · rw [ifB_true (decide_eq_true ht), if_pos ⟨h3, ht⟩]; rfl
    · rw [ifB_false (decide_eq_false ht), if_neg (fun hh => ht hh.2), hs]
  · rw [ifB_false (beq_eq_false_iff_ne.2 h3), if_neg (fun hh => h3 hh.1), hs]
theorem iCut_loop (a m : Nat) (ham : a + m ≤ 60) : ∀ (j i : Nat) (o : List Ins), o.length ≤ 60 → i + j = o.length → (∀ z ∈ o.drop i, z.1 = 3 → 0 ≤ z.2.2.2.2.2.1 ∧ z.2.2.2.2.2.1 ≤ 60) →
    Runs Try.prog (look [(96, .rd1 cloneInsG), (188, .own delIns)]) (look [(3, iCutE)]) 0 (body Try.f148 0) iCutE ([.i .i64 (a : Int), .i .i64 (m : Int), .ref 0 0 o.length, .i .i64 (o.length : Int), .i .i64 (i : Int)], [some (.row false none (.pair (.int .i64) (.pair (.int .i64) (.pair (.int .i64) (.pair (.int .i64) (.pair .str (.pair (.int .i64) .unit)))))) o)]) (.exit 0) ([.ref 0 0 o.length], [some (.row false none (.pair (.int .i64) (.pair (.int .i64) (.pair (.int .i64) (.pair (.int .i64) (.pair .str (.pair (.int .i64) .unit)))))) (o.take i ++ (o.drop i).map (adjI a m)))])
  | 0, i, o, hl, hi, hz => by
    obtain rfl : i = o.length := by omega
    have hr := iCut_round a m o.length o o.length o.length
    rw [ifB_false (decide_eq_false (by omega))] at hr
    rw [List.drop_length, List.take_length, List.map_nil, List.append_nil]
    exact .stop _ _ _ hr (by simp)
  | j + 1, i, o, hl, hi, hz => by
    have hi2 : i < o.length := by omega
    have hr := iCut_rd a m o i hi2 hl ham (hz _ (by rw [List.drop_eq_getElem_cons hi2]; exact List.mem_cons_self))
    have hd : (o.set i (adjI a m o[i])).drop (i + 1) = o.drop (i + 1) := by rw [List.drop_set_of_lt (by omega)]
    have ih := iCut_loop a m ham j (i + 1) (o.set i (adjI a m o[i])) (by simpa using hl) (by simp; omega) (by
      rw [hd]; intro z h; exact hz z (by rw [List.drop_eq_getElem_cons hi2]; exact List.mem_cons_of_mem _ h))
    have ht : (o.set i (adjI a m o[i])).take (i + 1) = o.take i ++ [adjI a m o[i]] := by
      rw [List.take_set, List.take_succ_eq_append_getElem hi2, List.set_append_right _ _ (by simp; omega)]
      simp [Nat.min_eq_left (Nat.le_of_lt hi2)]
    rw [hd, ht, List.length_set, List.append_assoc] at ih
    rw [List.drop_eq_getElem_cons hi2, List.map_cons]
    exact .step _ _ _ _ hr ih
theorem iCut_ok : LoopsOk Try.prog (look [(96, .rd1 cloneInsG), (188, .own delIns)]) (look [(3, iCutE)]) 0 (Try.f148.body.getD .skip) := by
  refine loopsOk_one (a := body Try.f148 0) (by kernel_rfl) fun d ex d' h => ?_
  unfold iCutE at h
  dsimp only at h
  split at h
  · rename_i a m k n i o
    obtain ⟨hc, hx⟩ := need_some h
    rw [Bool.and_eq_true] at hc
    obtain ⟨hc, hk⟩ := hc
    obtain ⟨h0, h1, rfl, rfl, h4, h5, h6, h7⟩ := of_decide_eq_true hc
    obtain ⟨i, rfl⟩ := Int.eq_ofNat_of_zero_le h0
    obtain ⟨a, rfl⟩ := Int.eq_ofNat_of_zero_le h5
    obtain ⟨m, rfl⟩ := Int.eq_ofNat_of_zero_le (show 0 ≤ m by omega)
    simp only [Int.toNat_natCast] at h1 hk hx
    have hx := leaf_some hx
    obtain ⟨rfl, rfl⟩ := Prod.mk.inj hx
    exact iCut_loop a m (by omega) (o.length - i) i o h4 (by omega) (fun z hz => of_decide_eq_true (List.all_eq_true.1 hk z hz))
  · cases h
theorem iCut_fun (l : List Ins) (a m : Int) (h0 : 0 ≤ a) (h1 : 1 ≤ m) (h2 : a + m ≤ l.length) (h3 : l.length ≤ 60) (hk : okCut l a m = true) : funC Try.prog (look [(96, .rd1 cloneInsG), (188, .own delIns)]) (look [(3, iCutE)]) Try.f148 [.sl (.pair (.int .i64) (.pair (.int .i64) (.pair (.int .i64) (.pair (.int .i64) (.pair .str (.pair (.int .i64) .unit)))))) l, .i .i64 a, .i .i64 m] [] = some (.ref 0 0 (cutI l a.toNat m.toNat).length, [some (.row false none (.pair (.int .i64) (.pair (.int .i64) (.pair (.int .i64) (.pair (.int .i64) (.pair .str (.pair (.int .i64) .unit)))))) (cutI l a.toNat m.toNat))]) := by
  rw [iCut_tree]
  have w : IntKind.i64.wrap (a + m) = a + m := wrap_id (by omega) (by omega)
  dsimp only [shr]
  have e : (a + m).toNat = a.toNat + m.toNat := by omega
  rw [w, e, ifT_true (decide_eq_true (by omega)), ifT_true (decide_eq_true ⟨h0, by omega, h2, rfl, by omega⟩), ifT_true ?_, nilT_eq, List.nil_append, List.drop_zero]
  · unfold cutI
    rw [List.length_map]
  · rw [Bool.and_eq_true]
    refine ⟨decide_eq_true ⟨by omega, by omega, rfl, rfl, by simp; omega, h0, h1, by omega⟩, List.all_eq_true.2 fun z hz => decide_eq_true fun h3 => ?_⟩
    have hm : z ∈ l := by
      rw [List.drop_zero] at hz
      rcases List.mem_append.1 hz with h | h
      · exact List.mem_of_mem_take h
      · exact List.mem_of_mem_drop h
    have := okCut_at hk hm h3
    exact ⟨this.1, this.2.1⟩
theorem iCut : Contract Try.prog 148 (Ent.rd1 cutG).F := by
  refine fun_contractC' (KnowsL.cons (enters_fn Try.func96 (by kernel_rfl) (by kernel_rfl)) cloneIns (KnowsL.cons (enters_fn Try.func188 (by kernel_rfl) (by kernel_rfl)) delIns_con KnowsL.nil)).knows (Λ := (look [(3, iCutE)])) Try.func148 (c := Try.f148.body.getD .skip) (by kernel_rfl) fun vs bs r hq hv hb => ?_
  unfold Ent.F cutG at hq
  dsimp only at hq
  split at hq
  · obtain ⟨hc, hx⟩ := need_some hq
    rw [Bool.and_eq_true] at hc
    obtain ⟨hc, hk⟩ := hc
    obtain ⟨h0, h1, h2, h3⟩ := of_decide_eq_true hc
    exact ⟨iCut_ok, (iCut_fun _ _ _ h0 h1 h2 h3 hk).trans hx⟩
  · cases hq

end Go.Proofs.Ytfkoljiioikdfaa.Den
