/- What functions of the program do, by the machine: Top4b. -/
import Derived.Test.YtfkoljiioikdfaaDoorDTop4
import Derived.KernelRfl
import Derived.Test.YtfkoljiioikdfaaDoorRows
namespace Go.Proofs.YtfkoljiioikdfaaDoor.Den
open Go.Proofs
set_option maxRecDepth 100000
/-- The first that p takes, counted from n; -1: none. -/
def idx_lv1V  : List (List UInt8) → Nat → Int
  | [], _ => -1
  | z :: l, n => if (!lvOK z) = true then (n : Int) else idx_lv1V  l (n + 1)
def idx_lv1E : LoopEnt := ⟨19, [0,1,4,7,8], [], [4], fun
  | ([.sl .str l, .fn 61 [] [], .i .i64 r, .i .i64 m, .i .i64 n], []) =>
    .need (decide ((∀ z ∈ l, z.length ≤ 4000000000) ∧ 0 ≤ n ∧ n.toNat ≤ l.length ∧ l.length ≤ maxI ∧ m = l.length)) (.br (decide (idx_lv1V  (l.drop n.toNat) n.toNat < 0)) (.leaf (.exit 0, ([], []))) (.leaf (.ret, ([.i .i64 (idx_lv1V  (l.drop n.toNat) n.toNat)], []))))
  | _ => .no⟩
def idx_lv1G : List V → List Blk → Br (V × List (Option Blk))
  | [.sl .str l, .fn 61 [] []], [] => .need (decide (∀ z ∈ l, z.length ≤ 4000000000)) (.leaf (.i .i64 (idx_lv1V  l 0), []))
  | _, _ => .no
def has_lv1G : List V → List Blk → Br (V × List (Option Blk))
  | [.sl .str l, .fn 61 [] []], [] => .need (decide (∀ z ∈ l, z.length ≤ 4000000000)) (.leaf (.b (l.any (fun z : (List UInt8) => !lvOK z)), []))
  | _, _ => .no
/-- The first that p takes, counted from n; -1: none. -/
def idx_tp1V  : List (List UInt8) → Nat → Int
  | [], _ => -1
  | z :: l, n => if (!lev z) = true then (n : Int) else idx_tp1V  l (n + 1)
def idx_tp1E : LoopEnt := ⟨19, [0,1,4,7,8], [], [4], fun
  | ([.sl .str l, .fn 37 [] [], .i .i64 r, .i .i64 m, .i .i64 n], []) =>
    .need (decide ((∀ z ∈ l, z.length ≤ 4000000000) ∧ 0 ≤ n ∧ n.toNat ≤ l.length ∧ l.length ≤ maxI ∧ m = l.length)) (.br (decide (idx_tp1V  (l.drop n.toNat) n.toNat < 0)) (.leaf (.exit 0, ([], []))) (.leaf (.ret, ([.i .i64 (idx_tp1V  (l.drop n.toNat) n.toNat)], []))))
  | _ => .no⟩
def idx_tp1G : List V → List Blk → Br (V × List (Option Blk))
  | [.sl .str l, .fn 37 [] []], [] => .need (decide (∀ z ∈ l, z.length ≤ 4000000000)) (.leaf (.i .i64 (idx_tp1V  l 0), []))
  | _, _ => .no
def has_tp1G : List V → List Blk → Br (V × List (Option Blk))
  | [.sl .str l, .fn 37 [] []], [] => .need (decide (∀ z ∈ l, z.length ≤ 4000000000)) (.leaf (.b (l.any (fun z : (List UInt8) => !lev z)), []))
  | _, _ => .no
theorem idx_lv1_round  (l : List (List UInt8)) (r : Int) (n : Nat) : roundK Tryd.prog (look [(61, .rd1 lv1G)]) (look [(2, idx_lv1E)]) 0 (body Tryd.f64 0) idx_lv1E ([.sl .str l, .fn 61 [] [], .i .i64 r, .i .i64 (↑l.length : Int), .i .i64 n], []) =
  ((ifB (decide ((↑n : Int) < (↑l.length : Int)))
  (ifT (decide ((0 : Int) ≤ (↑n : Int)) && decide ((↑n : Int) < (↑l.length : Int)))
  (ifSome l[((↑n : Int)).toNat]? fun z =>
  ifT (decide (List.length z ≤ maxI))
  (ifB (!lvOK z) (some (Ex.ret, [V.i IntKind.i64 ((↑n : Int))], []))
  (some
  (Ex.normal,
  [V.sl Cd.str l, V.fn 61 [] [], V.i IntKind.i64 r, V.i IntKind.i64 (↑l.length : Int),
  V.i IntKind.i64 (IntKind.i64.wrap ((↑n : Int) + (1 : Int)))],
  [])))))
  (some (Ex.exit (0 : Nat), [], []))) : _) := by kernel_rfl
theorem idx_lv1_loop {l : List (List UInt8)} {r : Int} (hs : (∀ z ∈ l, z.length ≤ 4000000000)) (hx : l.length ≤ maxI) : ∀ (j n : Nat), n + j = l.length → ∀ e d', (.br (decide (idx_lv1V  (l.drop n) n < 0)) (.leaf (.exit 0, ([], []))) (.leaf (.ret, ([.i .i64 (idx_lv1V  (l.drop n) n)], []))) : Br (Ex × Dt)).run = some (e, d') →
    Runs Tryd.prog (look [(61, .rd1 lv1G)]) (look [(2, idx_lv1E)]) 0 (body Tryd.f64 0) idx_lv1E ([.sl .str l, .fn 61 [] [], .i .i64 r, .i .i64 (↑l.length : Int), .i .i64 n], []) e d'
  | 0, n, hn, e, d', h => by
    have e1 : l.drop n = [] := List.drop_eq_nil_of_le (by omega)
    rw [e1, br_run, idx_lv1V, if_pos (by omega)] at h
    cases h
    refine .stop _ _ _ ((idx_lv1_round  l r n).trans ?_) (by simp)
    simp [show ¬ n < l.length by omega]
  | j + 1, n, hn, e, d', h => by
    have h1 : n < l.length := by omega
    have hr := idx_lv1_round  l r n
    simp only [Int.toNat_natCast, List.getElem?_eq_getElem h1, wrap_succ (n := n) (by omega)] at hr
    rw [ifB_true (by simp [h1]), ifT_true (by simp [h1]), ifSome_s, ifT_true (decide_eq_true (by have := hs _ (List.getElem_mem h1); unfold maxI; omega))] at hr
    rw [List.drop_eq_getElem_cons h1, br_run, idx_lv1V] at h
    by_cases he : (!lvOK l[n]) = true
    · rw [if_pos he, if_neg (by omega)] at h
      cases h
      rw [ifB_true he] at hr
      exact .stop _ _ _ hr (by simp)
    · rw [if_neg he] at h
      rw [ifB_false (by simpa using he)] at hr
      exact .step _ _ _ _ hr (idx_lv1_loop  hs hx j (n + 1) (by omega) e d' (by rw [br_run]; exact h))
theorem idx_lv1_ok : LoopsOk Tryd.prog (look [(61, .rd1 lv1G)]) (look [(2, idx_lv1E)]) 0 (Tryd.f64.body.getD .skip) := by
  refine loopsOk_one (a := body Tryd.f64 0) (by kernel_rfl) fun d e d' h => ?_
  unfold idx_lv1E at h
  dsimp only at h
  split at h
  · obtain ⟨hc, h'⟩ := need_some h
    obtain ⟨hs, h0, h1, h2, rfl⟩ := of_decide_eq_true hc
    obtain ⟨n, rfl⟩ := Int.eq_ofNat_of_zero_le h0
    exact idx_lv1_loop  hs h2 _ n (Nat.add_sub_of_le h1) e d' h'
  · cases h
theorem idx_lv1_V  : ∀ (l : List (List UInt8)) (n : Nat), (0 ≤ idx_lv1V  l n) = (l.any (fun z : (List UInt8) => !lvOK z) = true)
  | [], n => by simp [idx_lv1V]
  | z :: l, n => by
    rw [idx_lv1V, List.any_cons, Bool.or_eq_true]
    by_cases he : (!lvOK z) = true
    · rw [if_pos he]; simp only [he, true_or]; exact eq_true (by omega)
    · rw [if_neg he, idx_lv1_V  l (n + 1)]; simp only [he, Bool.false_eq_true, false_or]
theorem idx_lv1_neg  : ∀ (l : List (List UInt8)) (n : Nat), idx_lv1V  l n < 0 → idx_lv1V  l n = -1
  | [], n, _ => rfl
  | z :: l, n, h => by
    rw [idx_lv1V] at h ⊢
    by_cases he : (!lvOK z) = true
    · rw [if_pos he] at h; omega
    · rw [if_neg he] at h ⊢; exact idx_lv1_neg  l (n + 1) h
theorem idx_lv1_fun  (l : List (List UInt8)) (hx : l.length ≤ maxI) (hs : (∀ z ∈ l, z.length ≤ 4000000000)) : funK Tryd.prog (look [(61, .rd1 lv1G)]) (look [(2, idx_lv1E)]) Tryd.f64 [.sl .str l, .fn 61 [] []] [] = some (.i .i64 (idx_lv1V  l 0), []) := by
  have e : funK Tryd.prog (look [(61, .rd1 lv1G)]) (look [(2, idx_lv1E)]) Tryd.f64 [.sl .str l, .fn 61 [] []] [] =
    ((ifT
  (decide
  ((∀ (z : Cd.str.den), z ∈ l → List.length z ≤ (4000000000 : Nat)) ∧
  (0 : Int) ≤ (0 : Int) ∧ (0 : Nat) ≤ l.length ∧ l.length ≤ maxI ∧ (↑l.length : Int) = (↑l.length : Int)))
  (ifB (decide (idx_lv1V (List.drop (0 : Nat) l) (0 : Nat) < (0 : Int))) (some (V.i IntKind.i64 (-1 : Int), []))
  (some (V.i IntKind.i64 (idx_lv1V (List.drop (0 : Nat) l) (0 : Nat)), [])))) : _) := by kernel_rfl
  rw [e, ifT_true (decide_eq_true ⟨hs, by omega, by omega, hx, rfl⟩), List.drop_zero]
  by_cases q : idx_lv1V  l 0 < 0
  · rw [ifB_true (decide_eq_true q), idx_lv1_neg  l 0 q]
  · rw [ifB_false (decide_eq_false q)]
theorem lv1_idx : Contract Tryd.prog 64 (Ent.rd1 idx_lv1G).F := by
  refine fun_contract' (KnowsL.cons (enters_fn Tryd.func61 (by kernel_rfl) (by kernel_rfl)) lv1 KnowsL.nil).knows (Λ := (look [(2, idx_lv1E)])) Tryd.func64 (c := Tryd.f64.body.getD .skip) (by kernel_rfl) fun vs bs r h hv hb => ?_
  unfold Ent.F idx_lv1G at h
  dsimp only at h
  split at h
  · rename_i l 
    obtain ⟨hc, h'⟩ := need_some h
    exact ⟨idx_lv1_ok, (idx_lv1_fun  l (hv (.sl .str l) (by simp)).1 (of_decide_eq_true hc)).trans (by cases h'; rfl)⟩
  · cases h
theorem has_lv1_fun  (l : List (List UInt8)) (hs : (∀ z ∈ l, z.length ≤ 4000000000)) : funK Tryd.prog (look [(64, .rd1 idx_lv1G)]) (look []) Tryd.f36 [.sl .str l, .fn 61 [] []] [] = some (.b (l.any (fun z : (List UInt8) => !lvOK z)), []) := by
  have e : funK Tryd.prog (look [(64, .rd1 idx_lv1G)]) (look []) Tryd.f36 [.sl .str l, .fn 61 [] []] [] =
    ((ifT (decide (∀ (z : Cd.str.den), z ∈ l → List.length z ≤ (4000000000 : Nat)))
  (some (V.b (decide (idx_lv1V l (0 : Nat) ≥ (0 : Int))), []))) : _) := by kernel_rfl
  rw [e]
  have hv := idx_lv1_V  l 0
  rw [ifT_true (decide_eq_true hs)]
  have hd : decide (idx_lv1V  l 0 ≥ 0) = l.any (fun z : (List UInt8) => !lvOK z) := by
    show decide (0 ≤ idx_lv1V  l 0) = _
    cases hq : l.any (fun z : (List UInt8) => !lvOK z) with
    | true => exact decide_eq_true (hv ▸ hq)
    | false => exact decide_eq_false (fun h => by rw [hv, hq] at h; cases h)
  rw [hd]
theorem lv1_has : Contract Tryd.prog 36 (Ent.rd1 has_lv1G).F := by
  refine fun_contract' (KnowsL.cons (enters_fn Tryd.func64 (by kernel_rfl) (by kernel_rfl)) lv1_idx KnowsL.nil).knows (Λ := look []) Tryd.func36 (c := Tryd.f36.body.getD .skip) (by kernel_rfl) fun vs bs r h hv hb => ?_
  unfold Ent.F has_lv1G at h
  dsimp only at h
  split at h
  · rename_i l 
    obtain ⟨hc, h'⟩ := need_some h
    exact ⟨loopsOk_nil _, (has_lv1_fun  l (of_decide_eq_true hc)).trans (by cases h'; rfl)⟩
  · cases h
theorem idx_tp1_round  (l : List (List UInt8)) (r : Int) (n : Nat) : roundK Tryd.prog (look [(37, .rd1 tp1G)]) (look [(2, idx_tp1E)]) 0 (body Tryd.f64 0) idx_tp1E ([.sl .str l, .fn 37 [] [], .i .i64 r, .i .i64 (↑l.length : Int), .i .i64 n], []) =
  ((ifB (decide ((↑n : Int) < (↑l.length : Int)))
  (ifT (decide ((0 : Int) ≤ (↑n : Int)) && decide ((↑n : Int) < (↑l.length : Int)))
  (ifSome l[((↑n : Int)).toNat]? fun z =>
  ifT (decide (List.length z ≤ maxI))
  (ifB (!lev z) (some (Ex.ret, [V.i IntKind.i64 ((↑n : Int))], []))
  (some
  (Ex.normal,
  [V.sl Cd.str l, V.fn 37 [] [], V.i IntKind.i64 r, V.i IntKind.i64 (↑l.length : Int),
  V.i IntKind.i64 (IntKind.i64.wrap ((↑n : Int) + (1 : Int)))],
  [])))))
  (some (Ex.exit (0 : Nat), [], []))) : _) := by kernel_rfl
theorem idx_tp1_loop {l : List (List UInt8)} {r : Int} (hs : (∀ z ∈ l, z.length ≤ 4000000000)) (hx : l.length ≤ maxI) : ∀ (j n : Nat), n + j = l.length → ∀ e d', (.br (decide (idx_tp1V  (l.drop n) n < 0)) (.leaf (.exit 0, ([], []))) (.leaf (.ret, ([.i .i64 (idx_tp1V  (l.drop n) n)], []))) : Br (Ex × Dt)).run = some (e, d') →
    Runs Tryd.prog (look [(37, .rd1 tp1G)]) (look [(2, idx_tp1E)]) 0 (body Tryd.f64 0) idx_tp1E ([.sl .str l, .fn 37 [] [], .i .i64 r, .i .i64 (↑l.length : Int), .i .i64 n], []) e d'
  | 0, n, hn, e, d', h => by
    have e1 : l.drop n = [] := List.drop_eq_nil_of_le (by omega)
    rw [e1, br_run, idx_tp1V, if_pos (by omega)] at h
    cases h
    refine .stop _ _ _ ((idx_tp1_round  l r n).trans ?_) (by simp)
    simp [show ¬ n < l.length by omega]
  | j + 1, n, hn, e, d', h => by
    have h1 : n < l.length := by omega
    have hr := idx_tp1_round  l r n
    simp only [Int.toNat_natCast, List.getElem?_eq_getElem h1, wrap_succ (n := n) (by omega)] at hr
    rw [ifB_true (by simp [h1]), ifT_true (by simp [h1]), ifSome_s, ifT_true (decide_eq_true (by have := hs _ (List.getElem_mem h1); unfold maxI; omega))] at hr
    rw [List.drop_eq_getElem_cons h1, br_run, idx_tp1V] at h
    by_cases he : (!lev l[n]) = true
    · rw [if_pos he, if_neg (by omega)] at h
      cases h
      rw [ifB_true he] at hr
      exact .stop _ _ _ hr (by simp)
    · rw [if_neg he] at h
      rw [ifB_false (by simpa using he)] at hr
      exact .step _ _ _ _ hr (idx_tp1_loop  hs hx j (n + 1) (by omega) e d' (by rw [br_run]; exact h))
theorem idx_tp1_ok : LoopsOk Tryd.prog (look [(37, .rd1 tp1G)]) (look [(2, idx_tp1E)]) 0 (Tryd.f64.body.getD .skip) := by
  refine loopsOk_one (a := body Tryd.f64 0) (by kernel_rfl) fun d e d' h => ?_
  unfold idx_tp1E at h
  dsimp only at h
  split at h
  · obtain ⟨hc, h'⟩ := need_some h
    obtain ⟨hs, h0, h1, h2, rfl⟩ := of_decide_eq_true hc
    obtain ⟨n, rfl⟩ := Int.eq_ofNat_of_zero_le h0
    exact idx_tp1_loop  hs h2 _ n (Nat.add_sub_of_le h1) e d' h'
  · cases h
theorem idx_tp1_V  : ∀ (l : List (List UInt8)) (n : Nat), (0 ≤ idx_tp1V  l n) = (l.any (fun z : (List UInt8) => !lev z) = true)
  | [], n => by simp [idx_tp1V]
  | z :: l, n => by
    rw [idx_tp1V, List.any_cons, Bool.or_eq_true]
    by_cases he : (!lev z) = true
    · rw [if_pos he]; simp only [he, true_or]; exact eq_true (by omega)
    · rw [if_neg he, idx_tp1_V  l (n + 1)]; simp only [he, Bool.false_eq_true, false_or]
theorem idx_tp1_neg  : ∀ (l : List (List UInt8)) (n : Nat), idx_tp1V  l n < 0 → idx_tp1V  l n = -1
  | [], n, _ => rfl
  | z :: l, n, h => by
    rw [idx_tp1V] at h ⊢
    by_cases he : (!lev z) = true
    · rw [if_pos he] at h; omega
    · rw [if_neg he] at h ⊢; exact idx_tp1_neg  l (n + 1) h
theorem idx_tp1_fun  (l : List (List UInt8)) (hx : l.length ≤ maxI) (hs : (∀ z ∈ l, z.length ≤ 4000000000)) : funK Tryd.prog (look [(37, .rd1 tp1G)]) (look [(2, idx_tp1E)]) Tryd.f64 [.sl .str l, .fn 37 [] []] [] = some (.i .i64 (idx_tp1V  l 0), []) := by
  have e : funK Tryd.prog (look [(37, .rd1 tp1G)]) (look [(2, idx_tp1E)]) Tryd.f64 [.sl .str l, .fn 37 [] []] [] =
    ((ifT
  (decide
  ((∀ (z : Cd.str.den), z ∈ l → List.length z ≤ (4000000000 : Nat)) ∧
  (0 : Int) ≤ (0 : Int) ∧ (0 : Nat) ≤ l.length ∧ l.length ≤ maxI ∧ (↑l.length : Int) = (↑l.length : Int)))
  (ifB (decide (idx_tp1V (List.drop (0 : Nat) l) (0 : Nat) < (0 : Int))) (some (V.i IntKind.i64 (-1 : Int), []))
  (some (V.i IntKind.i64 (idx_tp1V (List.drop (0 : Nat) l) (0 : Nat)), [])))) : _) := by kernel_rfl
  rw [e, ifT_true (decide_eq_true ⟨hs, by omega, by omega, hx, rfl⟩), List.drop_zero]
  by_cases q : idx_tp1V  l 0 < 0
  · rw [ifB_true (decide_eq_true q), idx_tp1_neg  l 0 q]
  · rw [ifB_false (decide_eq_false q)]
theorem tp1_idx : Contract Tryd.prog 64 (Ent.rd1 idx_tp1G).F := by
  refine fun_contract' (KnowsL.cons (enters_fn Tryd.func37 (by kernel_rfl) (by kernel_rfl)) tp1 KnowsL.nil).knows (Λ := (look [(2, idx_tp1E)])) Tryd.func64 (c := Tryd.f64.body.getD .skip) (by kernel_rfl) fun vs bs r h hv hb => ?_
  unfold Ent.F idx_tp1G at h
  dsimp only at h
  split at h
  · rename_i l 
    obtain ⟨hc, h'⟩ := need_some h
    exact ⟨idx_tp1_ok, (idx_tp1_fun  l (hv (.sl .str l) (by simp)).1 (of_decide_eq_true hc)).trans (by cases h'; rfl)⟩
  · cases h
theorem has_tp1_fun  (l : List (List UInt8)) (hs : (∀ z ∈ l, z.length ≤ 4000000000)) : funK Tryd.prog (look [(64, .rd1 idx_tp1G)]) (look []) Tryd.f36 [.sl .str l, .fn 37 [] []] [] = some (.b (l.any (fun z : (List UInt8) => !lev z)), []) := by
  have e : funK Tryd.prog (look [(64, .rd1 idx_tp1G)]) (look []) Tryd.f36 [.sl .str l, .fn 37 [] []] [] =
    ((ifT (decide (∀ (z : Cd.str.den), z ∈ l → List.length z ≤ (4000000000 : Nat)))
  (some (V.b (decide (idx_tp1V l (0 : Nat) ≥ (0 : Int))), []))) : _) := by kernel_rfl
  rw [e]
  have hv := idx_tp1_V  l 0
  rw [ifT_true (decide_eq_true hs)]
  have hd : decide (idx_tp1V  l 0 ≥ 0) = l.any (fun z : (List UInt8) => !lev z) := by
    show decide (0 ≤ idx_tp1V  l 0) = _
    cases hq : l.any (fun z : (List UInt8) => !lev z) with
    | true => exact decide_eq_true (hv ▸ hq)
    | false => exact decide_eq_false (fun h => by rw [hv, hq] at h; cases h)
  rw [hd]
theorem tp1_has : Contract Tryd.prog 36 (Ent.rd1 has_tp1G).F := by
  refine fun_contract' (KnowsL.cons (enters_fn Tryd.func64 (by kernel_rfl) (by kernel_rfl)) tp1_idx KnowsL.nil).knows (Λ := look []) Tryd.func36 (c := Tryd.f36.body.getD .skip) (by kernel_rfl) fun vs bs r h hv hb => ?_
  unfold Ent.F has_tp1G at h
  dsimp only at h
  split at h
  · rename_i l 
    obtain ⟨hc, h'⟩ := need_some h
    exact ⟨loopsOk_nil _, (has_tp1_fun  l (of_decide_eq_true hc)).trans (by cases h'; rfl)⟩
  · cases h
end Go.Proofs.YtfkoljiioikdfaaDoor.Den
