/- What functions of the program do, by the machine: IdxStr. -/
import Derived.Test.YtfkoljiioikdfaaDoorDTop4b
import Derived.KernelRfl
import Derived.Test.YtfkoljiioikdfaaDoorRows
namespace Go.Proofs.YtfkoljiioikdfaaDoor.Den
open Go.Proofs
set_option maxRecDepth 100000
/-- Where an element first stands, -1 without it. -/
def firstStr (x : List UInt8) : Nat → List (List UInt8) → Int
  | _, [] => -1
  | n, z :: l => if x = z then n else firstStr x (n + 1) l
def idxStrE : LoopEnt := ⟨19, [0,1,7,8], [], [4], fun
  | ([.sl .str l, .s x, .i .i64 m, .i .i64 n], []) =>
    .need (decide (0 ≤ n ∧ m = l.length ∧ n.toNat ≤ l.length ∧ l.length ≤ maxI)) (.br (decide (firstStr x n.toNat (l.drop n.toNat) = -1)) (.leaf (.exit 0, ([], []))) (.leaf (.ret, ([.i .i64 (firstStr x n.toNat (l.drop n.toNat))], []))))
  | _ => .no⟩
def idxStrG : List V → List Blk → Br (V × List (Option Blk))
  | [.sl .str l, .s x], [] => .leaf (.i .i64 (firstStr x 0 l), [])
  | _, _ => .no
def contStrG : List V → List Blk → Br (V × List (Option Blk))
  | [.sl .str l, .s x], [] => .leaf (.b (decide (x ∈ l)), [])
  | _, _ => .no
theorem firstStr_ge (x : List UInt8) : ∀ (l : List (List UInt8)) (n : Nat), (firstStr x n l = -1 ∧ x ∉ l) ∨ ((n : Int) ≤ firstStr x n l ∧ x ∈ l)
  | [], n => .inl ⟨rfl, by simp⟩
  | z :: l, n => by
    unfold firstStr
    by_cases h : x = z
    · rw [if_pos h]; exact .inr ⟨Int.le_refl _, by simp [h]⟩
    · rw [if_neg h]
      rcases firstStr_ge x l (n + 1) with ⟨h1, h2⟩ | ⟨h1, h2⟩
      · exact .inl ⟨h1, by simp [h, h2]⟩
      · exact .inr ⟨by omega, by simp [h2]⟩
theorem idxStr_round (l : List (List UInt8)) (x : List UInt8) (m : Int) (n : Nat) : roundK Tryd.prog (look []) (look [(2, idxStrE)]) 0 (body Tryd.f77 0) idxStrE ([.sl .str l, .s x, .i .i64 m, .i .i64 n], []) =
  ((ifB (decide ((↑n : Int) < m))
  (ifT (decide ((0 : Int) ≤ (↑n : Int)) && decide ((↑n : Int) < (↑l.length : Int)))
  (ifSome l[((↑n : Int)).toNat]? fun z =>
  ifB (x == z) (some (Ex.ret, [V.i IntKind.i64 ((↑n : Int))], []))
  (some
  (Ex.normal,
  [V.sl Cd.str l, V.s x, V.i IntKind.i64 m, V.i IntKind.i64 (IntKind.i64.wrap ((↑n : Int) + (1 : Int)))],
  []))))
  (some (Ex.exit (0 : Nat), [], []))) : _) := by kernel_rfl
theorem idxStr_loop {l : List (List UInt8)} {x : List UInt8} (hm : l.length ≤ maxI) : ∀ (k n : Nat), n + k = l.length →
    Runs Tryd.prog (look []) (look [(2, idxStrE)]) 0 (body Tryd.f77 0) idxStrE ([.sl .str l, .s x, .i .i64 (↑l.length : Int), .i .i64 n], []) (if firstStr x n (l.drop n) = -1 then .exit 0 else .ret) (if firstStr x n (l.drop n) = -1 then [] else [.i .i64 (firstStr x n (l.drop n))], [])
  | 0, n, hn => by
    have e1 : l.drop n = [] := List.drop_eq_nil_of_le (by omega)
    have hr := idxStr_round l x l.length n
    rw [ifB_false (decide_eq_false (show ¬ (n : Int) < (l.length : Int) by omega))] at hr
    rw [e1]
    exact .stop _ _ _ hr (by simp [firstStr])
  | k + 1, n, hn => by
    have h1 : n < l.length := by omega
    have hr := idxStr_round l x l.length n
    rw [ifB_true (decide_eq_true (show (n : Int) < (l.length : Int) by omega)), ifT_true (by simp only [Bool.and_eq_true, decide_eq_true_eq]; omega)] at hr
    simp only [Int.toNat_natCast, List.getElem?_eq_getElem h1, ifSome_s, wrap_succ (n := n) (by omega)] at hr
    rw [List.drop_eq_getElem_cons h1]
    unfold firstStr
    by_cases he : x = l[n]
    · rw [ifB_true (by simpa using he)] at hr
      rw [if_pos he, if_neg (by omega), if_neg (by omega)]
      exact .stop _ _ _ hr (by simp)
    · rw [ifB_false (by simpa using he)] at hr
      rw [if_neg he]
      exact .step _ _ _ _ hr (idxStr_loop hm k (n + 1) (by omega))
theorem idxStr_ok : LoopsOk Tryd.prog (look []) (look [(2, idxStrE)]) 0 (Tryd.f77.body.getD .skip) := by
  refine loopsOk_one (a := body Tryd.f77 0) (by kernel_rfl) fun d e d' h => ?_
  unfold idxStrE at h
  dsimp only at h
  split at h
  · rename_i l x m n
    obtain ⟨hc, hx⟩ := need_some h
    clear h
    obtain ⟨h0, h1, h2, h3⟩ := of_decide_eq_true hc
    obtain ⟨n, rfl⟩ := Int.eq_ofNat_of_zero_le h0
    subst h1
    rw [Int.toNat_natCast] at h2 hx
    have := idxStr_loop (x := x) h3 _ n (Nat.add_sub_of_le h2)
    rcases br_some hx with ⟨h4, h⟩ | ⟨h4, h⟩
    · have h4 := of_decide_eq_true h4
      rw [if_pos h4, if_pos h4] at this; cases h; exact this
    · have h4 := of_decide_eq_false h4
      rw [if_neg h4, if_neg h4] at this; cases h; exact this
  · cases h
theorem idxStr_fun (l : List (List UInt8)) (x : List UInt8) (hm : l.length ≤ maxI) : funK Tryd.prog (look []) (look [(2, idxStrE)]) Tryd.f77 [.sl .str l, .s x] [] = some (.i .i64 (firstStr x 0 l), []) := by
  have e : funK Tryd.prog (look []) (look [(2, idxStrE)]) Tryd.f77 [.sl .str l, .s x] [] =
    ((ifT (decide ((0 : Int) ≤ (0 : Int) ∧ (↑l.length : Int) = (↑l.length : Int) ∧ (0 : Nat) ≤ l.length ∧ l.length ≤ maxI))
  (ifB (decide (firstStr x (0 : Nat) (List.drop (0 : Nat) l) = (-1 : Int))) (some (V.i IntKind.i64 (-1 : Int), []))
  (some (V.i IntKind.i64 (firstStr x (0 : Nat) (List.drop (0 : Nat) l)), [])))) : _) := by kernel_rfl
  rw [e]
  clear e
  rw [ifT_true (decide_eq_true ⟨by omega, rfl, Nat.zero_le _, hm⟩)]
  simp only [List.drop_zero]
  by_cases h : firstStr x 0 l = -1
  · rw [ifB_true (decide_eq_true h), h]
  · rw [ifB_false (decide_eq_false h)]
theorem idxStr : Contract Tryd.prog 77 (Ent.rd1 idxStrG).F := by
  refine fun_contract' KnowsL.nil.knows (Λ := (look [(2, idxStrE)])) Tryd.func77 (c := Tryd.f77.body.getD .skip) (by kernel_rfl) fun vs bs r h hv hb => ?_
  unfold Ent.F idxStrG at h
  dsimp only at h
  split at h
  · rename_i l x
    exact ⟨idxStr_ok, (idxStr_fun l x (hv (.sl .str l) (by simp)).1).trans (by cases h; rfl)⟩
  · cases h
theorem contStr_fun (l : List (List UInt8)) (x : List UInt8) : funK Tryd.prog (look [(77, .rd1 idxStrG)]) (look []) Tryd.f63 [.sl .str l, .s x] [] = some (.b (decide (x ∈ l)), []) := by
  have e : funK Tryd.prog (look [(77, .rd1 idxStrG)]) (look []) Tryd.f63 [.sl .str l, .s x] [] =
    ((some (V.b (decide (firstStr x (0 : Nat) l ≥ (0 : Int))), [])) : _) := by kernel_rfl
  rw [e]
  rcases firstStr_ge x l 0 with ⟨h1, h2⟩ | ⟨h1, h2⟩
  · rw [decide_eq_false h2, decide_eq_false (by omega)]
  · rw [decide_eq_true h2, decide_eq_true (by omega)]
theorem contStr : Contract Tryd.prog 63 (Ent.rd1 contStrG).F := by
  refine fun_contract' (KnowsL.cons (enters_fn Tryd.func77 (by kernel_rfl) (by kernel_rfl)) idxStr KnowsL.nil).knows (Λ := look []) Tryd.func63 (c := Tryd.f63.body.getD .skip) (by kernel_rfl) fun vs bs r h hv hb => ?_
  unfold Ent.F contStrG at h
  dsimp only at h
  split at h
  · rename_i l x
    exact ⟨loopsOk_nil _, (contStr_fun l x).trans h⟩
  · cases h
end Go.Proofs.YtfkoljiioikdfaaDoor.Den
