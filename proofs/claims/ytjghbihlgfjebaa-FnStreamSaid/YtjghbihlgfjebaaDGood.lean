/- What functions of the program do, by the machine: Good. -/
import Derived.Test.YtjghbihlgfjebaaDSes2
import Derived.KernelRfl
import Derived.Test.YtjghbihlgfjebaaRows
namespace Go.Proofs.Ytjghbihlgfjebaa.Den
open Go.Proofs
set_option maxRecDepth 100000
def withinG : List V → List Blk → Br (V × List (Option Blk))
  | [.i .i64 a, .i .i64 b, .i .i64 c], [] => .leaf (.b (decide (b ≤ a ∧ a ≤ c)), [])
  | _, _ => .no
def l1InG : List V → List Blk → Br (V × List (Option Blk))
  | [.i .i64 a, .i .i64 b, .i .i64 c], [] => .leaf (.b (decide (b ≤ a ∧ a ≤ c)), [])
  | _, _ => .no
def good1G : List V → List Blk → Br (V × List (Option Blk))
  | [.s l], [] => .leaf (.b (decide (20 < l.length)), [])
  | _, _ => .no
def sesTopG : List V → List Blk → Br (V × List (Option Blk))
  | [.ptr 0 0], [.box [.i .i64 s0, .sl .str s1, .i .i64 s2, .sl .str s3, .sl (.pair (.int .i64) (.pair (.int .i64) (.pair .str .unit))) s4, .sl (.pair (.int .i64) (.pair (.int .i64) .unit)) s5]] => .need (decide ((-lim ≤ s2 ∧ s2 ≤ lim))) (.leaf (.i .i64 (if (↑s1.length : Int) < s2 + 4 then (↑s1.length : Int) else s2 + 4), [some (.box [.i .i64 s0, .sl .str s1, .i .i64 s2, .sl .str s3, .sl (.pair (.int .i64) (.pair (.int .i64) (.pair .str .unit))) s4, .sl (.pair (.int .i64) (.pair (.int .i64) .unit)) s5])]))
  | _, _ => .no
def packetOKG : List V → List Blk → Br (V × List (Option Blk))
  | [.ptr 0 0, .agg [.i .i64 p0, .i .i64 p1, .s p2]], [.box [.i .i64 s0, .sl .str s1, .i .i64 s2, .sl .str s3, .sl (.pair (.int .i64) (.pair (.int .i64) (.pair .str .unit))) s4, .sl (.pair (.int .i64) (.pair (.int .i64) .unit)) s5]] => .need (decide ((-lim ≤ s2 ∧ s2 ≤ lim))) (.leaf (.b (decide (1 ≤ p0 ∧ p0 ≤ s0 ∧ 0 ≤ p1 ∧ p1 < s2 + 4 ∧ s1[p1.toNat]? = some p2)), [some (.box [.i .i64 s0, .sl .str s1, .i .i64 s2, .sl .str s3, .sl (.pair (.int .i64) (.pair (.int .i64) (.pair .str .unit))) s4, .sl (.pair (.int .i64) (.pair (.int .i64) .unit)) s5])]))
  | _, _ => .no
def good2G : List V → List Blk → Br (V × List (Option Blk))
  | [.agg [.i .i64 p0, .i .i64 p1, .s p2], .ptr 0 0], [.box [.i .i64 s0, .sl .str s1, .i .i64 s2, .sl .str s3, .sl (.pair (.int .i64) (.pair (.int .i64) (.pair .str .unit))) s4, .sl (.pair (.int .i64) (.pair (.int .i64) .unit)) s5]] => .need (decide ((-lim ≤ s2 ∧ s2 ≤ lim))) (.leaf (.b (!decide (1 ≤ p0 ∧ p0 ≤ s0 ∧ 0 ≤ p1 ∧ p1 < s2 + 4 ∧ s1[p1.toNat]? = some p2)), [some (.box [.i .i64 s0, .sl .str s1, .i .i64 s2, .sl .str s3, .sl (.pair (.int .i64) (.pair (.int .i64) (.pair .str .unit))) s4, .sl (.pair (.int .i64) (.pair (.int .i64) .unit)) s5])]))
  | _, _ => .no
def good3G : List V → List Blk → Br (V × List (Option Blk))
  | [.agg [.i .i64 q0, .i .i64 q1], .ptr 0 0, .ptr 1 0], [.box [.i .i64 s0, .sl .str s1, .i .i64 s2, .sl .str s3, .sl (.pair (.int .i64) (.pair (.int .i64) (.pair .str .unit))) s4, .sl (.pair (.int .i64) (.pair (.int .i64) .unit)) s5], .box [.i .i64 t]] => .leaf (.b (!decide ((1 ≤ q0 ∧ q0 ≤ s0) ∧ (0 ≤ q1 ∧ q1 ≤ t))), [some (.box [.i .i64 s0, .sl .str s1, .i .i64 s2, .sl .str s3, .sl (.pair (.int .i64) (.pair (.int .i64) (.pair .str .unit))) s4, .sl (.pair (.int .i64) (.pair (.int .i64) .unit)) s5]), some (.box [.i .i64 t])])
  | _, _ => .no
theorem within_fun (a b c : Int) : funK Try.prog (look []) (look []) Try.f94 [.i .i64 a, .i .i64 b, .i .i64 c] [] = (.leaf (.b (decide (b ≤ a ∧ a ≤ c)), []) : Br (V × List (Option Blk))).run := by
  have e : funK Try.prog (look []) (look []) Try.f94 [.i .i64 a, .i .i64 b, .i .i64 c] [] =
    ((ifB (decide (a ≥ b)) (some (V.b (decide (a ≤ c)), [])) (some (V.b false, []))) : _) := by kernel_rfl
  rw [e]
  by_cases q1 : a ≥ b <;> by_cases q2 : a ≤ c <;> simp [q1, q2, Br.run] <;> omega
theorem within : Contract Try.prog 94 (Ent.rd1 withinG).F := by
  refine fun_contract' KnowsL.nil.knows (Λ := look []) Try.func94 (c := Try.f94.body.getD .skip) (by kernel_rfl) fun vs bs r h hv hb => ?_
  unfold Ent.F withinG at h
  dsimp only at h
  split at h
  · rename_i a b c
    exact ⟨loopsOk_nil _, (within_fun a b c).trans h⟩
  · cases h
theorem l1In_fun (a b c : Int) : funK Try.prog (look []) (look []) Try.f117 [.i .i64 a, .i .i64 b, .i .i64 c] [] = (.leaf (.b (decide (b ≤ a ∧ a ≤ c)), []) : Br (V × List (Option Blk))).run := by
  have e : funK Try.prog (look []) (look []) Try.f117 [.i .i64 a, .i .i64 b, .i .i64 c] [] =
    ((ifB (decide (a ≥ b)) (some (V.b (decide (a ≤ c)), [])) (some (V.b false, []))) : _) := by kernel_rfl
  rw [e]
  by_cases q1 : a ≥ b <;> by_cases q2 : a ≤ c <;> simp [q1, q2, Br.run] <;> omega
theorem l1In : Contract Try.prog 117 (Ent.rd1 l1InG).F := by
  refine fun_contract' KnowsL.nil.knows (Λ := look []) Try.func117 (c := Try.f117.body.getD .skip) (by kernel_rfl) fun vs bs r h hv hb => ?_
  unfold Ent.F l1InG at h
  dsimp only at h
  split at h
  · rename_i a b c
    exact ⟨loopsOk_nil _, (l1In_fun a b c).trans h⟩
  · cases h
theorem good1_fun (l : List UInt8) : funK Try.prog (look []) (look []) Try.f95 [.s l] [] = (.leaf (.b (decide (20 < l.length)), []) : Br (V × List (Option Blk))).run := by
  have e : funK Try.prog (look []) (look []) Try.f95 [.s l] [] =
    ((some (V.b (decide ((↑l.length : Int) > (20 : Int))), [])) : _) := by kernel_rfl
  rw [e]
  by_cases q : 20 < l.length <;> simp [q, Br.run] <;> omega
theorem good1 : Contract Try.prog 95 (Ent.rd1 good1G).F := by
  refine fun_contract' KnowsL.nil.knows (Λ := look []) Try.func95 (c := Try.f95.body.getD .skip) (by kernel_rfl) fun vs bs r h hv hb => ?_
  unfold Ent.F good1G at h
  dsimp only at h
  split at h
  · rename_i l
    exact ⟨loopsOk_nil _, (good1_fun l).trans h⟩
  · cases h
theorem sesTop_fun (s0 : Int) (s1 : List (List UInt8)) (s2 : Int) (s3 : List (List UInt8)) (s4 : List (Int × Int × List UInt8 × Unit)) (s5 : List (Int × Int × Unit)) (hs : (-lim ≤ s2 ∧ s2 ≤ lim)) : funK Try.prog (look []) (look []) Try.f133 [.ptr 0 0] [.box [.i .i64 s0, .sl .str s1, .i .i64 s2, .sl .str s3, .sl (.pair (.int .i64) (.pair (.int .i64) (.pair .str .unit))) s4, .sl (.pair (.int .i64) (.pair (.int .i64) .unit)) s5]] = (.leaf (.i .i64 (if (↑s1.length : Int) < s2 + 4 then (↑s1.length : Int) else s2 + 4), [some (.box [.i .i64 s0, .sl .str s1, .i .i64 s2, .sl .str s3, .sl (.pair (.int .i64) (.pair (.int .i64) (.pair .str .unit))) s4, .sl (.pair (.int .i64) (.pair (.int .i64) .unit)) s5])]) : Br (V × List (Option Blk))).run := by
  have e : funK Try.prog (look []) (look []) Try.f133 [.ptr 0 0] [.box [.i .i64 s0, .sl .str s1, .i .i64 s2, .sl .str s3, .sl (.pair (.int .i64) (.pair (.int .i64) (.pair .str .unit))) s4, .sl (.pair (.int .i64) (.pair (.int .i64) .unit)) s5]] =
    ((some
  (V.i IntKind.i64
  (if (↑s1.length : Int) < IntKind.i64.wrap (s2 + (4 : Int)) then (↑s1.length : Int)
  else IntKind.i64.wrap (s2 + (4 : Int))),
  [some
  (Blk.box
  [V.i IntKind.i64 s0, V.sl Cd.str s1, V.i IntKind.i64 s2, V.sl Cd.str s3,
  V.sl ((Cd.int IntKind.i64).pair ((Cd.int IntKind.i64).pair (Cd.str.pair Cd.unit))) s4,
  V.sl ((Cd.int IntKind.i64).pair ((Cd.int IntKind.i64).pair Cd.unit)) s5])])) : _) := by kernel_rfl
  rw [e]
  unfold lim at hs
  rw [wrap_id (n := s2 + 4) (by omega) (by omega)]
  rfl
theorem sesTop : Contract Try.prog 133 (Ent.own sesTopG).F := by
  refine fun_contract' KnowsL.nil.knows (Λ := look []) Try.func133 (c := Try.f133.body.getD .skip) (by kernel_rfl) fun vs bs r h hv hb => ?_
  unfold Ent.F sesTopG at h
  dsimp only at h
  split at h
  · rename_i s0 s1 s2 s3 s4 s5
    obtain ⟨hc, h⟩ := need_some h
    have hc := of_decide_eq_true hc
    exact ⟨loopsOk_nil _, (sesTop_fun s0 s1 s2 s3 s4 s5 hc).trans h⟩
  · cases h
theorem packetOK_fun (p0 p1 : Int) (p2 : List UInt8) (s0 : Int) (s1 : List (List UInt8)) (s2 : Int) (s3 : List (List UInt8)) (s4 : List (Int × Int × List UInt8 × Unit)) (s5 : List (Int × Int × Unit)) (hs : (-lim ≤ s2 ∧ s2 ≤ lim)) (hm : s1.length ≤ maxI) : funK Try.prog (look [(94, .rd1 withinG), (133, .own sesTopG)]) (look []) Try.f99 [.ptr 0 0, .agg [.i .i64 p0, .i .i64 p1, .s p2]] [.box [.i .i64 s0, .sl .str s1, .i .i64 s2, .sl .str s3, .sl (.pair (.int .i64) (.pair (.int .i64) (.pair .str .unit))) s4, .sl (.pair (.int .i64) (.pair (.int .i64) .unit)) s5]] = (.leaf (.b (decide (1 ≤ p0 ∧ p0 ≤ s0 ∧ 0 ≤ p1 ∧ p1 < s2 + 4 ∧ s1[p1.toNat]? = some p2)), [some (.box [.i .i64 s0, .sl .str s1, .i .i64 s2, .sl .str s3, .sl (.pair (.int .i64) (.pair (.int .i64) (.pair .str .unit))) s4, .sl (.pair (.int .i64) (.pair (.int .i64) .unit)) s5])]) : Br (V × List (Option Blk))).run := by
  have e : funK Try.prog (look [(94, .rd1 withinG), (133, .own sesTopG)]) (look []) Try.f99 [.ptr 0 0, .agg [.i .i64 p0, .i .i64 p1, .s p2]] [.box [.i .i64 s0, .sl .str s1, .i .i64 s2, .sl .str s3, .sl (.pair (.int .i64) (.pair (.int .i64) (.pair .str .unit))) s4, .sl (.pair (.int .i64) (.pair (.int .i64) .unit)) s5]] =
    ((ifB (decide ((1 : Int) ≤ p0 ∧ p0 ≤ s0))
  (ifT (decide (-lim ≤ s2 ∧ s2 ≤ lim))
  (ifB
  (decide
  ((0 : Int) ≤ p1 ∧
  p1 ≤
  IntKind.i64.wrap
  ((if (↑s1.length : Int) < s2 + (4 : Int) then (↑s1.length : Int) else s2 + (4 : Int)) - (1 : Int))))
  (ifT (decide ((0 : Int) ≤ p1) && decide (p1 < (↑s1.length : Int)))
  (ifSome s1[p1.toNat]? fun z =>
  some
  (V.b (p2 == z),
  [some
  (Blk.box
  [V.i IntKind.i64 s0, V.sl Cd.str s1, V.i IntKind.i64 s2, V.sl Cd.str s3,
  V.sl ((Cd.int IntKind.i64).pair ((Cd.int IntKind.i64).pair (Cd.str.pair Cd.unit))) s4,
  V.sl ((Cd.int IntKind.i64).pair ((Cd.int IntKind.i64).pair Cd.unit)) s5])])))
  (some
  (V.b false,
  [some
  (Blk.box
  [V.i IntKind.i64 s0, V.sl Cd.str s1, V.i IntKind.i64 s2, V.sl Cd.str s3,
  V.sl ((Cd.int IntKind.i64).pair ((Cd.int IntKind.i64).pair (Cd.str.pair Cd.unit))) s4,
  V.sl ((Cd.int IntKind.i64).pair ((Cd.int IntKind.i64).pair Cd.unit)) s5])]))))
  (some
  (V.b false,
  [some
  (Blk.box
  [V.i IntKind.i64 s0, V.sl Cd.str s1, V.i IntKind.i64 s2, V.sl Cd.str s3,
  V.sl ((Cd.int IntKind.i64).pair ((Cd.int IntKind.i64).pair (Cd.str.pair Cd.unit))) s4,
  V.sl ((Cd.int IntKind.i64).pair ((Cd.int IntKind.i64).pair Cd.unit)) s5])]))) : _) := by kernel_rfl
  rw [e]
  unfold lim at hs
  unfold maxI at hm
  have hw : IntKind.i64.wrap ((if (↑s1.length : Int) < s2 + 4 then (↑s1.length : Int) else s2 + 4) - 1) = (if (↑s1.length : Int) < s2 + 4 then (↑s1.length : Int) else s2 + 4) - 1 := by split <;> exact wrap_id (by omega) (by omega)
  have hl : (-lim ≤ s2 ∧ s2 ≤ lim) := by unfold lim; omega
  rw [hw, ifT_true (decide_eq_true hl)]
  by_cases q0 : 1 ≤ p0 ∧ p0 ≤ s0
  · rw [ifB_true (decide_eq_true q0)]
    by_cases q1 : 0 ≤ p1 ∧ p1 ≤ (if (↑s1.length : Int) < s2 + 4 then (↑s1.length : Int) else s2 + 4) - 1
    · have h1 : p1 < s1.length ∧ p1 < s2 + 4 := by split at q1 <;> omega
      obtain ⟨n, rfl⟩ := Int.eq_ofNat_of_zero_le q1.1
      have h2 : n < s1.length := by omega
      rw [ifB_true (decide_eq_true q1), ifT_true (by simp [h2]), Int.toNat_natCast, List.getElem?_eq_getElem h2]
      have e2 : (p2 == s1[n]) = decide (s1[n] = p2) := by
        by_cases q : s1[n] = p2
        · rw [q]; simp
        · rw [beq_false_of_ne (fun h => q h.symm), decide_eq_false q]
      have e3 : (1 ≤ p0 ∧ p0 ≤ s0 ∧ 0 ≤ (n : Int) ∧ (n : Int) < s2 + 4 ∧ some s1[n] = some p2) = (s1[n] = p2) := by
        simp only [Option.some.injEq, q0.1, q0.2, true_and, h1.2, q1.1]
      rw [ifSome_s, e2]
      simp only [Br.run, e3]
    · rw [ifB_false (decide_eq_false q1), decide_eq_false (fun h => q1 ⟨h.2.2.1, by
        have := (List.getElem?_eq_some_iff.1 h.2.2.2.2).1
        split <;> omega⟩)]; rfl
  · rw [ifB_false (decide_eq_false q0), decide_eq_false (fun h => q0 ⟨h.1, h.2.1⟩)]; rfl
theorem packetOK : Contract Try.prog 99 (Ent.own packetOKG).F := by
  refine fun_contract' (KnowsL.cons (enters_fn Try.func94 (by kernel_rfl) (by kernel_rfl)) within (KnowsL.cons (enters_fn Try.func133 (by kernel_rfl) (by kernel_rfl)) sesTop KnowsL.nil)).knows (Λ := look []) Try.func99 (c := Try.f99.body.getD .skip) (by kernel_rfl) fun vs bs r h hv hb => ?_
  unfold Ent.F packetOKG at h
  dsimp only at h
  split at h
  · rename_i p0 p1 p2 s0 s1 s2 s3 s4 s5
    obtain ⟨hc, h⟩ := need_some h
    have hc := of_decide_eq_true hc
    exact ⟨loopsOk_nil _, (packetOK_fun p0 p1 p2 s0 s1 s2 s3 s4 s5 hc (hb _ (List.mem_cons_self ..) (.sl .str s1) (by simp)).1).trans h⟩
  · cases h
theorem good2_fun (p0 p1 : Int) (p2 : List UInt8) (s0 : Int) (s1 : List (List UInt8)) (s2 : Int) (s3 : List (List UInt8)) (s4 : List (Int × Int × List UInt8 × Unit)) (s5 : List (Int × Int × Unit)) (hs : (-lim ≤ s2 ∧ s2 ≤ lim)) (hm : s1.length ≤ maxI) : funK Try.prog (look [(99, .own packetOKG)]) (look []) Try.f98 [.agg [.i .i64 p0, .i .i64 p1, .s p2], .ptr 0 0] [.box [.i .i64 s0, .sl .str s1, .i .i64 s2, .sl .str s3, .sl (.pair (.int .i64) (.pair (.int .i64) (.pair .str .unit))) s4, .sl (.pair (.int .i64) (.pair (.int .i64) .unit)) s5]] = (.leaf (.b (!decide (1 ≤ p0 ∧ p0 ≤ s0 ∧ 0 ≤ p1 ∧ p1 < s2 + 4 ∧ s1[p1.toNat]? = some p2)), [some (.box [.i .i64 s0, .sl .str s1, .i .i64 s2, .sl .str s3, .sl (.pair (.int .i64) (.pair (.int .i64) (.pair .str .unit))) s4, .sl (.pair (.int .i64) (.pair (.int .i64) .unit)) s5])]) : Br (V × List (Option Blk))).run := by
  have e : funK Try.prog (look [(99, .own packetOKG)]) (look []) Try.f98 [.agg [.i .i64 p0, .i .i64 p1, .s p2], .ptr 0 0] [.box [.i .i64 s0, .sl .str s1, .i .i64 s2, .sl .str s3, .sl (.pair (.int .i64) (.pair (.int .i64) (.pair .str .unit))) s4, .sl (.pair (.int .i64) (.pair (.int .i64) .unit)) s5]] =
    ((ifT (decide (-lim ≤ s2 ∧ s2 ≤ lim))
  (some
  (V.b !decide ((1 : Int) ≤ p0 ∧ p0 ≤ s0 ∧ (0 : Int) ≤ p1 ∧ p1 < s2 + (4 : Int) ∧ s1[p1.toNat]? = some p2),
  [some
  (Blk.box
  [V.i IntKind.i64 s0, V.sl Cd.str s1, V.i IntKind.i64 s2, V.sl Cd.str s3,
  V.sl ((Cd.int IntKind.i64).pair ((Cd.int IntKind.i64).pair (Cd.str.pair Cd.unit))) s4,
  V.sl ((Cd.int IntKind.i64).pair ((Cd.int IntKind.i64).pair Cd.unit)) s5])]))) : _) := by kernel_rfl
  rw [e]
  rw [ifT_true (decide_eq_true hs)]; rfl
theorem good2 : Contract Try.prog 98 (Ent.own good2G).F := by
  refine fun_contract' (KnowsL.cons (enters_fn Try.func99 (by kernel_rfl) (by kernel_rfl)) packetOK KnowsL.nil).knows (Λ := look []) Try.func98 (c := Try.f98.body.getD .skip) (by kernel_rfl) fun vs bs r h hv hb => ?_
  unfold Ent.F good2G at h
  dsimp only at h
  split at h
  · rename_i p0 p1 p2 s0 s1 s2 s3 s4 s5
    obtain ⟨hc, h⟩ := need_some h
    have hc := of_decide_eq_true hc
    exact ⟨loopsOk_nil _, (good2_fun p0 p1 p2 s0 s1 s2 s3 s4 s5 hc (hb _ (List.mem_cons_self ..) (.sl .str s1) (by simp)).1).trans h⟩
  · cases h
theorem good3_fun (q0 q1 : Int) (s0 : Int) (s1 : List (List UInt8)) (s2 : Int) (s3 : List (List UInt8)) (s4 : List (Int × Int × List UInt8 × Unit)) (s5 : List (Int × Int × Unit)) (t : Int) : funK Try.prog (look [(94, .rd1 withinG)]) (look []) Try.f101 [.agg [.i .i64 q0, .i .i64 q1], .ptr 0 0, .ptr 1 0] [.box [.i .i64 s0, .sl .str s1, .i .i64 s2, .sl .str s3, .sl (.pair (.int .i64) (.pair (.int .i64) (.pair .str .unit))) s4, .sl (.pair (.int .i64) (.pair (.int .i64) .unit)) s5], .box [.i .i64 t]] = (.leaf (.b (!decide ((1 ≤ q0 ∧ q0 ≤ s0) ∧ (0 ≤ q1 ∧ q1 ≤ t))), [some (.box [.i .i64 s0, .sl .str s1, .i .i64 s2, .sl .str s3, .sl (.pair (.int .i64) (.pair (.int .i64) (.pair .str .unit))) s4, .sl (.pair (.int .i64) (.pair (.int .i64) .unit)) s5]), some (.box [.i .i64 t])]) : Br (V × List (Option Blk))).run := by
  have e : funK Try.prog (look [(94, .rd1 withinG)]) (look []) Try.f101 [.agg [.i .i64 q0, .i .i64 q1], .ptr 0 0, .ptr 1 0] [.box [.i .i64 s0, .sl .str s1, .i .i64 s2, .sl .str s3, .sl (.pair (.int .i64) (.pair (.int .i64) (.pair .str .unit))) s4, .sl (.pair (.int .i64) (.pair (.int .i64) .unit)) s5], .box [.i .i64 t]] =
    ((ifB (!decide ((1 : Int) ≤ q0 ∧ q0 ≤ s0))
  (some
  (V.b true,
  [some
  (Blk.box
  [V.i IntKind.i64 s0, V.sl Cd.str s1, V.i IntKind.i64 s2, V.sl Cd.str s3,
  V.sl ((Cd.int IntKind.i64).pair ((Cd.int IntKind.i64).pair (Cd.str.pair Cd.unit))) s4,
  V.sl ((Cd.int IntKind.i64).pair ((Cd.int IntKind.i64).pair Cd.unit)) s5]),
  some (Blk.box [V.i IntKind.i64 t])]))
  (some
  (V.b !decide ((0 : Int) ≤ q1 ∧ q1 ≤ t),
  [some
  (Blk.box
  [V.i IntKind.i64 s0, V.sl Cd.str s1, V.i IntKind.i64 s2, V.sl Cd.str s3,
  V.sl ((Cd.int IntKind.i64).pair ((Cd.int IntKind.i64).pair (Cd.str.pair Cd.unit))) s4,
  V.sl ((Cd.int IntKind.i64).pair ((Cd.int IntKind.i64).pair Cd.unit)) s5]),
  some (Blk.box [V.i IntKind.i64 t])]))) : _) := by kernel_rfl
  rw [e]
  by_cases h1 : 1 ≤ q0 ∧ q0 ≤ s0 <;> by_cases h2 : 0 ≤ q1 ∧ q1 ≤ t <;> simp only [h1, h2, ifB_not, ifB_t, ifB_f, ifB_dec', Br.run, and_self, and_true, and_false, if_true, if_false, decide_true, decide_false, Bool.not_true, Bool.not_false, true_and, false_and]
theorem good3 : Contract Try.prog 101 (Ent.own good3G).F := by
  refine fun_contract' (KnowsL.cons (enters_fn Try.func94 (by kernel_rfl) (by kernel_rfl)) within KnowsL.nil).knows (Λ := look []) Try.func101 (c := Try.f101.body.getD .skip) (by kernel_rfl) fun vs bs r h hv hb => ?_
  unfold Ent.F good3G at h
  dsimp only at h
  split at h
  · rename_i q0 q1 s0 s1 s2 s3 s4 s5 t
    exact ⟨loopsOk_nil _, (good3_fun q0 q1 s0 s1 s2 s3 s4 s5 t).trans h⟩
  · cases h
end Go.Proofs.Ytjghbihlgfjebaa.Den
