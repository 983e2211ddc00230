/- What functions of the program do, by the machine: Same. -/
import Derived.Test.YtjghbihlgfjebaaDFr6
import Derived.KernelRfl
import Derived.Test.YtjghbihlgfjebaaRows
namespace Go.Proofs.Ytjghbihlgfjebaa.Den
open Go.Proofs
set_option maxRecDepth 100000
def sameTextsE : LoopEnt := ⟨26, [0,1,4,12,13], [], [4], fun
  | ([.sl .str a, .sl .str b, .b r, .i .i64 m, .i .i64 n], []) =>
    .need (decide (0 ≤ n ∧ m = a.length ∧ a.length = b.length ∧ n.toNat ≤ a.length ∧ a.length ≤ maxI)) (.br (decide (a.drop n.toNat = b.drop n.toNat)) (.leaf (.exit 0, ([], []))) (.leaf (.ret, ([.b false], []))))
  | _ => .no⟩
def sameTextsG : List V → List Blk → Br (V × List (Option Blk))
  | [.sl .str a, .sl .str b], [] => .leaf (.b (decide (a = b)), [])
  | _, _ => .no
def sameBoolsE : LoopEnt := ⟨26, [0,1,4,12,13], [], [4], fun
  | ([.sl .bool a, .sl .bool b, .b r, .i .i64 m, .i .i64 n], []) =>
    .need (decide (0 ≤ n ∧ m = a.length ∧ a.length = b.length ∧ n.toNat ≤ a.length ∧ a.length ≤ maxI)) (.br (decide (a.drop n.toNat = b.drop n.toNat)) (.leaf (.exit 0, ([], []))) (.leaf (.ret, ([.b false], []))))
  | _ => .no⟩
def sameBoolsG : List V → List Blk → Br (V × List (Option Blk))
  | [.sl .bool a, .sl .bool b], [] => .leaf (.b (decide (a = b)), [])
  | _, _ => .no
def sameIntsE : LoopEnt := ⟨26, [0,1,4,12,13], [], [4], fun
  | ([.sl (.int .i64) a, .sl (.int .i64) b, .b r, .i .i64 m, .i .i64 n], []) =>
    .need (decide (0 ≤ n ∧ m = a.length ∧ a.length = b.length ∧ n.toNat ≤ a.length ∧ a.length ≤ maxI)) (.br (decide (a.drop n.toNat = b.drop n.toNat)) (.leaf (.exit 0, ([], []))) (.leaf (.ret, ([.b false], []))))
  | _ => .no⟩
def sameIntsG : List V → List Blk → Br (V × List (Option Blk))
  | [.sl (.int .i64) a, .sl (.int .i64) b], [] => .leaf (.b (decide (a = b)), [])
  | _, _ => .no
theorem sameTexts_round (a b : List (List UInt8)) (r : Bool) (n : Nat) : roundK Try.prog (look []) (look [(4, sameTextsE)]) 0 (body Try.f24 0) sameTextsE ([.sl .str a, .sl .str b, .b r, .i .i64 (↑a.length : Int), .i .i64 n], []) =
  ((ifB (decide ((↑n : Int) < (↑a.length : Int)))
  (ifT (decide ((0 : Int) ≤ (↑n : Int)) && decide ((↑n : Int) < (↑a.length : Int)))
  (ifSome a[((↑n : Int)).toNat]? fun z =>
  ifT (decide ((0 : Int) ≤ (↑n : Int)) && decide ((↑n : Int) < (↑b.length : Int)))
  (ifSome b[((↑n : Int)).toNat]? fun z_1 =>
  ifB (!z == z_1) (some (Ex.ret, [V.b false], []))
  (some
  (Ex.normal,
  [V.sl Cd.str a, V.sl Cd.str b, V.b r, V.i IntKind.i64 (↑a.length : Int),
  V.i IntKind.i64 (IntKind.i64.wrap ((↑n : Int) + (1 : Int)))],
  [])))))
  (some (Ex.exit (0 : Nat), [], []))) : _) := by kernel_rfl
theorem sameTexts_loop {a b : List (List UInt8)} {r : Bool} (hl : a.length = b.length) (hm : a.length ≤ maxI) : ∀ (k n : Nat), n + k = a.length →
    Runs Try.prog (look []) (look [(4, sameTextsE)]) 0 (body Try.f24 0) sameTextsE ([.sl .str a, .sl .str b, .b r, .i .i64 (↑a.length : Int), .i .i64 n], []) (if a.drop n = b.drop n then .exit 0 else .ret) (if a.drop n = b.drop n then [] else [.b false], [])
  | 0, n, hn => by
    have e1 : a.drop n = [] := List.drop_eq_nil_of_le (by omega)
    have e2 : b.drop n = [] := List.drop_eq_nil_of_le (by omega)
    refine .stop _ _ _ ((sameTexts_round a b r n).trans ?_) (by simp [e1, e2])
    simp [e1, e2, show ¬ n < a.length by omega]
  | k + 1, n, hn => by
    have h1 : n < a.length := by omega
    have h2 : n < b.length := by omega
    have hd : (a.drop n = b.drop n) = (a[n] = b[n] ∧ a.drop (n+1) = b.drop (n+1)) := by rw [List.drop_eq_getElem_cons h1, List.drop_eq_getElem_cons h2, List.cons.injEq]
    have hr := sameTexts_round a b r n
    simp only [Int.toNat_natCast, List.getElem?_eq_getElem h1, List.getElem?_eq_getElem h2, wrap_succ (n := n) (by omega)] at hr
    by_cases he : a[n] = b[n]
    · refine .step _ _ _ (d1 := ([.sl .str a, .sl .str b, .b r, .i .i64 (↑a.length : Int), .i .i64 ((n + 1 : Nat) : Int)], [])) (hr.trans (by simp [h1, h2, he])) ?_
      simp only [hd, he, true_and]
      exact sameTexts_loop hl hm k (n + 1) (by omega)
    · exact .stop _ _ _ (hr.trans (by simp [h1, h2, hd, he])) (by simp [hd, he])
theorem sameTexts_ok : LoopsOk Try.prog (look []) (look [(4, sameTextsE)]) 0 (Try.f24.body.getD .skip) := by
  refine loopsOk_one (a := body Try.f24 0) (by kernel_rfl) fun d e d' h => ?_
  unfold sameTextsE at h
  dsimp only at h
  split at h
  · rename_i a b r m n
    obtain ⟨hc, h⟩ := need_some h
    have hc := of_decide_eq_true hc
    obtain ⟨n, rfl⟩ := Int.eq_ofNat_of_zero_le hc.1
    have := sameTexts_loop (r := r) hc.2.2.1 hc.2.2.2.2 _ n (Nat.add_sub_of_le hc.2.2.2.1)
    rw [← hc.2.1] at this
    rcases br_some h with ⟨h1, h⟩ | ⟨h1, h⟩
    · have h1 := of_decide_eq_true h1
      simp only [Int.toNat_natCast] at h1 h
      cases h
      rw [if_pos h1, if_pos h1] at this; exact this
    · have h1 := of_decide_eq_false h1
      simp only [Int.toNat_natCast] at h1 h
      cases h
      rw [if_neg h1, if_neg h1] at this; exact this
  · cases h
theorem sameTexts_fun (a b : List (List UInt8)) (hm : a.length ≤ maxI) : funK Try.prog (look []) (look [(4, sameTextsE)]) Try.f24 [.sl .str a, .sl .str b] [] = some (.b (decide (a = b)), []) := by
  have e : funK Try.prog (look []) (look [(4, sameTextsE)]) Try.f24 [.sl .str a, .sl .str b] [] =
    ((ifB ((↑a.length : Int) != (↑b.length : Int)) (some (V.b false, []))
  (ifT
  (decide
  ((0 : Int) ≤ (0 : Int) ∧
  (↑a.length : Int) = (↑a.length : Int) ∧ a.length = b.length ∧ (0 : Nat) ≤ a.length ∧ a.length ≤ maxI))
  (ifB (decide (List.drop (0 : Nat) a = List.drop (0 : Nat) b)) (some (V.b true, [])) (some (V.b false, []))))) : _) := by kernel_rfl
  rw [e]
  by_cases h1 : a.length = b.length
  · by_cases h2 : a = b <;> simp [h1, h2, show b.length ≤ maxI by omega]
  · have h2 : a ≠ b := fun e => h1 (by rw [e])
    simp [h1, h2]
theorem sameTexts : Contract Try.prog 24 (Ent.rd1 sameTextsG).F := by
  refine fun_contract' KnowsL.nil.knows (Λ := (look [(4, sameTextsE)])) Try.func24 (c := Try.f24.body.getD .skip) (by kernel_rfl) fun vs bs r h hv hb => ?_
  unfold Ent.F sameTextsG at h
  dsimp only at h
  split at h
  · rename_i a b
    exact ⟨sameTexts_ok, (sameTexts_fun a b (hv (.sl .str a) (by simp)).1).trans (by cases h; rfl)⟩
  · cases h
theorem sameBools_round (a b : List Bool) (r : Bool) (n : Nat) : roundK Try.prog (look []) (look [(4, sameBoolsE)]) 0 (body Try.f28 0) sameBoolsE ([.sl .bool a, .sl .bool b, .b r, .i .i64 (↑a.length : Int), .i .i64 n], []) =
  ((ifB (decide ((↑n : Int) < (↑a.length : Int)))
  (ifT (decide ((0 : Int) ≤ (↑n : Int)) && decide ((↑n : Int) < (↑a.length : Int)))
  (ifSome a[((↑n : Int)).toNat]? fun z =>
  ifT (decide ((0 : Int) ≤ (↑n : Int)) && decide ((↑n : Int) < (↑b.length : Int)))
  (ifSome b[((↑n : Int)).toNat]? fun z_1 =>
  ifB (!z == z_1) (some (Ex.ret, [V.b false], []))
  (some
  (Ex.normal,
  [V.sl Cd.bool a, V.sl Cd.bool b, V.b r, V.i IntKind.i64 (↑a.length : Int),
  V.i IntKind.i64 (IntKind.i64.wrap ((↑n : Int) + (1 : Int)))],
  [])))))
  (some (Ex.exit (0 : Nat), [], []))) : _) := by kernel_rfl
theorem sameBools_loop {a b : List Bool} {r : Bool} (hl : a.length = b.length) (hm : a.length ≤ maxI) : ∀ (k n : Nat), n + k = a.length →
    Runs Try.prog (look []) (look [(4, sameBoolsE)]) 0 (body Try.f28 0) sameBoolsE ([.sl .bool a, .sl .bool b, .b r, .i .i64 (↑a.length : Int), .i .i64 n], []) (if a.drop n = b.drop n then .exit 0 else .ret) (if a.drop n = b.drop n then [] else [.b false], [])
  | 0, n, hn => by
    have e1 : a.drop n = [] := List.drop_eq_nil_of_le (by omega)
    have e2 : b.drop n = [] := List.drop_eq_nil_of_le (by omega)
    refine .stop _ _ _ ((sameBools_round a b r n).trans ?_) (by simp [e1, e2])
    simp [e1, e2, show ¬ n < a.length by omega]
  | k + 1, n, hn => by
    have h1 : n < a.length := by omega
    have h2 : n < b.length := by omega
    have hd : (a.drop n = b.drop n) = (a[n] = b[n] ∧ a.drop (n+1) = b.drop (n+1)) := by rw [List.drop_eq_getElem_cons h1, List.drop_eq_getElem_cons h2, List.cons.injEq]
    have hr := sameBools_round a b r n
    simp only [Int.toNat_natCast, List.getElem?_eq_getElem h1, List.getElem?_eq_getElem h2, wrap_succ (n := n) (by omega)] at hr
    by_cases he : a[n] = b[n]
    · refine .step _ _ _ (d1 := ([.sl .bool a, .sl .bool b, .b r, .i .i64 (↑a.length : Int), .i .i64 ((n + 1 : Nat) : Int)], [])) (hr.trans (by simp [h1, h2, he])) ?_
      simp only [hd, he, true_and]
      exact sameBools_loop hl hm k (n + 1) (by omega)
    · exact .stop _ _ _ (hr.trans (by simp [h1, h2, hd, he])) (by simp [hd, he])
theorem sameBools_ok : LoopsOk Try.prog (look []) (look [(4, sameBoolsE)]) 0 (Try.f28.body.getD .skip) := by
  refine loopsOk_one (a := body Try.f28 0) (by kernel_rfl) fun d e d' h => ?_
  unfold sameBoolsE at h
  dsimp only at h
  split at h
  · rename_i a b r m n
    obtain ⟨hc, h⟩ := need_some h
    have hc := of_decide_eq_true hc
    obtain ⟨n, rfl⟩ := Int.eq_ofNat_of_zero_le hc.1
    have := sameBools_loop (r := r) hc.2.2.1 hc.2.2.2.2 _ n (Nat.add_sub_of_le hc.2.2.2.1)
    rw [← hc.2.1] at this
    rcases br_some h with ⟨h1, h⟩ | ⟨h1, h⟩
    · have h1 := of_decide_eq_true h1
      simp only [Int.toNat_natCast] at h1 h
      cases h
      rw [if_pos h1, if_pos h1] at this; exact this
    · have h1 := of_decide_eq_false h1
      simp only [Int.toNat_natCast] at h1 h
      cases h
      rw [if_neg h1, if_neg h1] at this; exact this
  · cases h
theorem sameBools_fun (a b : List Bool) (hm : a.length ≤ maxI) : funK Try.prog (look []) (look [(4, sameBoolsE)]) Try.f28 [.sl .bool a, .sl .bool b] [] = some (.b (decide (a = b)), []) := by
  have e : funK Try.prog (look []) (look [(4, sameBoolsE)]) Try.f28 [.sl .bool a, .sl .bool b] [] =
    ((ifB ((↑a.length : Int) != (↑b.length : Int)) (some (V.b false, []))
  (ifT
  (decide
  ((0 : Int) ≤ (0 : Int) ∧
  (↑a.length : Int) = (↑a.length : Int) ∧ a.length = b.length ∧ (0 : Nat) ≤ a.length ∧ a.length ≤ maxI))
  (ifB (decide (List.drop (0 : Nat) a = List.drop (0 : Nat) b)) (some (V.b true, [])) (some (V.b false, []))))) : _) := by kernel_rfl
  rw [e]
  by_cases h1 : a.length = b.length
  · by_cases h2 : a = b <;> simp [h1, h2, show b.length ≤ maxI by omega]
  · have h2 : a ≠ b := fun e => h1 (by rw [e])
    simp [h1, h2]
theorem sameBools : Contract Try.prog 28 (Ent.rd1 sameBoolsG).F := by
  refine fun_contract' KnowsL.nil.knows (Λ := (look [(4, sameBoolsE)])) Try.func28 (c := Try.f28.body.getD .skip) (by kernel_rfl) fun vs bs r h hv hb => ?_
  unfold Ent.F sameBoolsG at h
  dsimp only at h
  split at h
  · rename_i a b
    exact ⟨sameBools_ok, (sameBools_fun a b (hv (.sl .bool a) (by simp)).1).trans (by cases h; rfl)⟩
  · cases h
theorem sameInts_round (a b : List Int) (r : Bool) (n : Nat) : roundK Try.prog (look []) (look [(4, sameIntsE)]) 0 (body Try.f35 0) sameIntsE ([.sl (.int .i64) a, .sl (.int .i64) b, .b r, .i .i64 (↑a.length : Int), .i .i64 n], []) =
  ((ifB (decide ((↑n : Int) < (↑a.length : Int)))
  (ifT (decide ((0 : Int) ≤ (↑n : Int)) && decide ((↑n : Int) < (↑a.length : Int)))
  (ifSome a[((↑n : Int)).toNat]? fun z =>
  ifT (decide ((0 : Int) ≤ (↑n : Int)) && decide ((↑n : Int) < (↑b.length : Int)))
  (ifSome b[((↑n : Int)).toNat]? fun z_1 =>
  ifB (z != z_1) (some (Ex.ret, [V.b false], []))
  (some
  (Ex.normal,
  [V.sl (Cd.int IntKind.i64) a, V.sl (Cd.int IntKind.i64) b, V.b r, V.i IntKind.i64 (↑a.length : Int),
  V.i IntKind.i64 (IntKind.i64.wrap ((↑n : Int) + (1 : Int)))],
  [])))))
  (some (Ex.exit (0 : Nat), [], []))) : _) := by kernel_rfl
theorem sameInts_loop {a b : List Int} {r : Bool} (hl : a.length = b.length) (hm : a.length ≤ maxI) : ∀ (k n : Nat), n + k = a.length →
    Runs Try.prog (look []) (look [(4, sameIntsE)]) 0 (body Try.f35 0) sameIntsE ([.sl (.int .i64) a, .sl (.int .i64) b, .b r, .i .i64 (↑a.length : Int), .i .i64 n], []) (if a.drop n = b.drop n then .exit 0 else .ret) (if a.drop n = b.drop n then [] else [.b false], [])
  | 0, n, hn => by
    have e1 : a.drop n = [] := List.drop_eq_nil_of_le (by omega)
    have e2 : b.drop n = [] := List.drop_eq_nil_of_le (by omega)
    refine .stop _ _ _ ((sameInts_round a b r n).trans ?_) (by simp [e1, e2])
    simp [e1, e2, show ¬ n < a.length by omega]
  | k + 1, n, hn => by
    have h1 : n < a.length := by omega
    have h2 : n < b.length := by omega
    have hd : (a.drop n = b.drop n) = (a[n] = b[n] ∧ a.drop (n+1) = b.drop (n+1)) := by rw [List.drop_eq_getElem_cons h1, List.drop_eq_getElem_cons h2, List.cons.injEq]
    have hr := sameInts_round a b r n
    simp only [Int.toNat_natCast, List.getElem?_eq_getElem h1, List.getElem?_eq_getElem h2, wrap_succ (n := n) (by omega)] at hr
    by_cases he : a[n] = b[n]
    · refine .step _ _ _ (d1 := ([.sl (.int .i64) a, .sl (.int .i64) b, .b r, .i .i64 (↑a.length : Int), .i .i64 ((n + 1 : Nat) : Int)], [])) (hr.trans (by simp [h1, h2, he])) ?_
      simp only [hd, he, true_and]
      exact sameInts_loop hl hm k (n + 1) (by omega)
    · exact .stop _ _ _ (hr.trans (by simp [h1, h2, hd, he])) (by simp [hd, he])
theorem sameInts_ok : LoopsOk Try.prog (look []) (look [(4, sameIntsE)]) 0 (Try.f35.body.getD .skip) := by
  refine loopsOk_one (a := body Try.f35 0) (by kernel_rfl) fun d e d' h => ?_
  unfold sameIntsE at h
  dsimp only at h
  split at h
  · rename_i a b r m n
    obtain ⟨hc, h⟩ := need_some h
    have hc := of_decide_eq_true hc
    obtain ⟨n, rfl⟩ := Int.eq_ofNat_of_zero_le hc.1
    have := sameInts_loop (r := r) hc.2.2.1 hc.2.2.2.2 _ n (Nat.add_sub_of_le hc.2.2.2.1)
    rw [← hc.2.1] at this
    rcases br_some h with ⟨h1, h⟩ | ⟨h1, h⟩
    · have h1 := of_decide_eq_true h1
      simp only [Int.toNat_natCast] at h1 h
      cases h
      rw [if_pos h1, if_pos h1] at this; exact this
    · have h1 := of_decide_eq_false h1
      simp only [Int.toNat_natCast] at h1 h
      cases h
      rw [if_neg h1, if_neg h1] at this; exact this
  · cases h
theorem sameInts_fun (a b : List Int) (hm : a.length ≤ maxI) : funK Try.prog (look []) (look [(4, sameIntsE)]) Try.f35 [.sl (.int .i64) a, .sl (.int .i64) b] [] = some (.b (decide (a = b)), []) := by
  have e : funK Try.prog (look []) (look [(4, sameIntsE)]) Try.f35 [.sl (.int .i64) a, .sl (.int .i64) b] [] =
    ((ifB ((↑a.length : Int) != (↑b.length : Int)) (some (V.b false, []))
  (ifT
  (decide
  ((0 : Int) ≤ (0 : Int) ∧
  (↑a.length : Int) = (↑a.length : Int) ∧ a.length = b.length ∧ (0 : Nat) ≤ a.length ∧ a.length ≤ maxI))
  (ifB (decide (List.drop (0 : Nat) a = List.drop (0 : Nat) b)) (some (V.b true, [])) (some (V.b false, []))))) : _) := by kernel_rfl
  rw [e]
  by_cases h1 : a.length = b.length
  · by_cases h2 : a = b <;> simp [h1, h2, show b.length ≤ maxI by omega]
  · have h2 : a ≠ b := fun e => h1 (by rw [e])
    simp [h1, h2]
theorem sameInts : Contract Try.prog 35 (Ent.rd1 sameIntsG).F := by
  refine fun_contract' KnowsL.nil.knows (Λ := (look [(4, sameIntsE)])) Try.func35 (c := Try.f35.body.getD .skip) (by kernel_rfl) fun vs bs r h hv hb => ?_
  unfold Ent.F sameIntsG at h
  dsimp only at h
  split at h
  · rename_i a b
    exact ⟨sameInts_ok, (sameInts_fun a b (hv (.sl (.int .i64) a) (by simp)).1).trans (by cases h; rfl)⟩
  · cases h
end Go.Proofs.Ytjghbihlgfjebaa.Den
