/- What functions of the program do, by the machine: IdxInt. -/
import Derived.Test.YtjghbihlgfjebaaDQueC2
import Derived.KernelRfl
import Derived.Test.YtjghbihlgfjebaaRows
namespace Go.Proofs.Ytjghbihlgfjebaa.Den
open Go.Proofs
set_option maxRecDepth 100000
/-- Where an element first stands, -1 without it. -/
def firstInt (x : Int) : Nat → List (Int) → Int
  | _, [] => -1
  | n, z :: l => if x = z then n else firstInt x (n + 1) l
def idxIntE : LoopEnt := ⟨19, [0,1,7,8], [], [4], fun
  | ([.sl (.int .i64) l, .i .i64 x, .i .i64 m, .i .i64 n], []) =>
    .need (decide (0 ≤ n ∧ m = l.length ∧ n.toNat ≤ l.length ∧ l.length ≤ maxI)) (.br (decide (firstInt x n.toNat (l.drop n.toNat) = -1)) (.leaf (.exit 0, ([], []))) (.leaf (.ret, ([.i .i64 (firstInt x n.toNat (l.drop n.toNat))], []))))
  | _ => .no⟩
def idxIntG : List V → List Blk → Br (V × List (Option Blk))
  | [.sl (.int .i64) l, .i .i64 x], [] => .leaf (.i .i64 (firstInt x 0 l), [])
  | _, _ => .no
def contIntG : List V → List Blk → Br (V × List (Option Blk))
  | [.sl (.int .i64) l, .i .i64 x], [] => .leaf (.b (decide (x ∈ l)), [])
  | _, _ => .no
theorem firstInt_ge (x : Int) : ∀ (l : List (Int)) (n : Nat), (firstInt x n l = -1 ∧ x ∉ l) ∨ ((n : Int) ≤ firstInt x n l ∧ x ∈ l)
  | [], n => .inl ⟨rfl, by simp⟩
  | z :: l, n => by
    unfold firstInt
    by_cases h : x = z
    · rw [if_pos h]; exact .inr ⟨Int.le_refl _, by simp [h]⟩
    · rw [if_neg h]
      rcases firstInt_ge x l (n + 1) with ⟨h1, h2⟩ | ⟨h1, h2⟩
      · exact .inl ⟨h1, by simp [h, h2]⟩
      · exact .inr ⟨by omega, by simp [h2]⟩
theorem idxInt_round (l : List (Int)) (x : Int) (m : Int) (n : Nat) : roundK Try.prog (look []) (look [(2, idxIntE)]) 0 (body Try.f155 0) idxIntE ([.sl (.int .i64) l, .i .i64 x, .i .i64 m, .i .i64 n], []) =
  ((ifB (decide ((↑n : Int) < m))
  (ifT (decide ((0 : Int) ≤ (↑n : Int)) && decide ((↑n : Int) < (↑l.length : Int)))
  (ifSome l[((↑n : Int)).toNat]? fun z =>
  ifB (x == z) (some (Ex.ret, [V.i IntKind.i64 ((↑n : Int))], []))
  (some
  (Ex.normal,
  [V.sl (Cd.int IntKind.i64) l, V.i IntKind.i64 x, V.i IntKind.i64 m,
  V.i IntKind.i64 (IntKind.i64.wrap ((↑n : Int) + (1 : Int)))],
  []))))
  (some (Ex.exit (0 : Nat), [], []))) : _) := by kernel_rfl
theorem idxInt_loop {l : List (Int)} {x : Int} (hm : l.length ≤ maxI) : ∀ (k n : Nat), n + k = l.length →
    Runs Try.prog (look []) (look [(2, idxIntE)]) 0 (body Try.f155 0) idxIntE ([.sl (.int .i64) l, .i .i64 x, .i .i64 (↑l.length : Int), .i .i64 n], []) (if firstInt x n (l.drop n) = -1 then .exit 0 else .ret) (if firstInt x n (l.drop n) = -1 then [] else [.i .i64 (firstInt x n (l.drop n))], [])
  | 0, n, hn => by
    have e1 : l.drop n = [] := List.drop_eq_nil_of_le (by omega)
    have hr := idxInt_round l x l.length n
    rw [ifB_false (decide_eq_false (show ¬ (n : Int) < (l.length : Int) by omega))] at hr
    rw [e1]
    exact .stop _ _ _ hr (by simp [firstInt])
  | k + 1, n, hn => by
    have h1 : n < l.length := by omega
    have hr := idxInt_round l x l.length n
    rw [ifB_true (decide_eq_true (show (n : Int) < (l.length : Int) by omega)), ifT_true (by simp only [Bool.and_eq_true, decide_eq_true_eq]; omega)] at hr
    simp only [Int.toNat_natCast, List.getElem?_eq_getElem h1, ifSome_s, wrap_succ (n := n) (by omega)] at hr
    rw [List.drop_eq_getElem_cons h1]
    unfold firstInt
    by_cases he : x = l[n]
    · rw [ifB_true (by simpa using he)] at hr
      rw [if_pos he, if_neg (by omega), if_neg (by omega)]
      exact .stop _ _ _ hr (by simp)
    · rw [ifB_false (by simpa using he)] at hr
      rw [if_neg he]
      exact .step _ _ _ _ hr (idxInt_loop hm k (n + 1) (by omega))
theorem idxInt_ok : LoopsOk Try.prog (look []) (look [(2, idxIntE)]) 0 (Try.f155.body.getD .skip) := by
  refine loopsOk_one (a := body Try.f155 0) (by kernel_rfl) fun d e d' h => ?_
  unfold idxIntE at h
  dsimp only at h
  split at h
  · rename_i l x m n
    obtain ⟨hc, hx⟩ := need_some h
    clear h
    obtain ⟨h0, h1, h2, h3⟩ := of_decide_eq_true hc
    obtain ⟨n, rfl⟩ := Int.eq_ofNat_of_zero_le h0
    subst h1
    rw [Int.toNat_natCast] at h2 hx
    have := idxInt_loop (x := x) h3 _ n (Nat.add_sub_of_le h2)
    rcases br_some hx with ⟨h4, h⟩ | ⟨h4, h⟩
    · have h4 := of_decide_eq_true h4
      rw [if_pos h4, if_pos h4] at this; cases h; exact this
    · have h4 := of_decide_eq_false h4
      rw [if_neg h4, if_neg h4] at this; cases h; exact this
  · cases h
theorem idxInt_fun (l : List (Int)) (x : Int) (hm : l.length ≤ maxI) : funK Try.prog (look []) (look [(2, idxIntE)]) Try.f155 [.sl (.int .i64) l, .i .i64 x] [] = some (.i .i64 (firstInt x 0 l), []) := by
  have e : funK Try.prog (look []) (look [(2, idxIntE)]) Try.f155 [.sl (.int .i64) l, .i .i64 x] [] =
    ((ifT (decide ((0 : Int) ≤ (0 : Int) ∧ (↑l.length : Int) = (↑l.length : Int) ∧ (0 : Nat) ≤ l.length ∧ l.length ≤ maxI))
  (ifB (decide (firstInt x (0 : Nat) (List.drop (0 : Nat) l) = (-1 : Int))) (some (V.i IntKind.i64 (-1 : Int), []))
  (some (V.i IntKind.i64 (firstInt x (0 : Nat) (List.drop (0 : Nat) l)), [])))) : _) := by kernel_rfl
  rw [e]
  clear e
  rw [ifT_true (decide_eq_true ⟨by omega, rfl, Nat.zero_le _, hm⟩)]
  simp only [List.drop_zero]
  by_cases h : firstInt x 0 l = -1
  · rw [ifB_true (decide_eq_true h), h]
  · rw [ifB_false (decide_eq_false h)]
theorem idxInt : Contract Try.prog 155 (Ent.rd1 idxIntG).F := by
  refine fun_contract' KnowsL.nil.knows (Λ := (look [(2, idxIntE)])) Try.func155 (c := Try.f155.body.getD .skip) (by kernel_rfl) fun vs bs r h hv hb => ?_
  unfold Ent.F idxIntG at h
  dsimp only at h
  split at h
  · rename_i l x
    exact ⟨idxInt_ok, (idxInt_fun l x (hv (.sl (.int .i64) l) (by simp)).1).trans (by cases h; rfl)⟩
  · cases h
theorem contInt_fun (l : List (Int)) (x : Int) : funK Try.prog (look [(155, .rd1 idxIntG)]) (look []) Try.f114 [.sl (.int .i64) l, .i .i64 x] [] = some (.b (decide (x ∈ l)), []) := by
  have e : funK Try.prog (look [(155, .rd1 idxIntG)]) (look []) Try.f114 [.sl (.int .i64) l, .i .i64 x] [] =
    ((some (V.b (decide (firstInt x (0 : Nat) l ≥ (0 : Int))), [])) : _) := by kernel_rfl
  rw [e]
  rcases firstInt_ge x l 0 with ⟨h1, h2⟩ | ⟨h1, h2⟩
  · rw [decide_eq_false h2, decide_eq_false (by omega)]
  · rw [decide_eq_true h2, decide_eq_true (by omega)]
theorem contInt : Contract Try.prog 114 (Ent.rd1 contIntG).F := by
  refine fun_contract' (KnowsL.cons (enters_fn Try.func155 (by kernel_rfl) (by kernel_rfl)) idxInt KnowsL.nil).knows (Λ := look []) Try.func114 (c := Try.f114.body.getD .skip) (by kernel_rfl) fun vs bs r h hv hb => ?_
  unfold Ent.F contIntG at h
  dsimp only at h
  split at h
  · rename_i l x
    exact ⟨loopsOk_nil _, (contInt_fun l x).trans h⟩
  · cases h
end Go.Proofs.Ytjghbihlgfjebaa.Den
