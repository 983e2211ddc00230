/- What functions of the program do, by the machine: GoodF. -/
import Derived.Test.YtjghbihlgfjebaaDGood
import Derived.KernelRfl
import Derived.Test.YtjghbihlgfjebaaRows
namespace Go.Proofs.Ytjghbihlgfjebaa.Den
open Go.Proofs
set_option maxRecDepth 100000
/-- The first that p takes, counted from n; -1: none. -/
def idx_good1V  : List (List UInt8) → Nat → Int
  | [], _ => -1
  | z :: l, n => if (decide (20 < z.length)) = true then (n : Int) else idx_good1V  l (n + 1)
def idx_good1E : LoopEnt := ⟨19, [0,1,4,7,8], [], [4], fun
  | ([.sl .str l, .fn 95 [] [], .i .i64 r, .i .i64 m, .i .i64 n], []) =>
    .need (decide (0 ≤ n ∧ n.toNat ≤ l.length ∧ l.length ≤ maxI ∧ m = l.length)) (.br (decide (idx_good1V  (l.drop n.toNat) n.toNat < 0)) (.leaf (.exit 0, ([], []))) (.leaf (.ret, ([.i .i64 (idx_good1V  (l.drop n.toNat) n.toNat)], []))))
  | _ => .no⟩
def idx_good1G : List V → List Blk → Br (V × List (Option Blk))
  | [.sl .str l, .fn 95 [] []], [] => .leaf (.i .i64 (idx_good1V  l 0), [])
  | _, _ => .no
def has_good1G : List V → List Blk → Br (V × List (Option Blk))
  | [.sl .str l, .fn 95 [] []], [] => .leaf (.b (l.any (fun z : (List UInt8) => decide (20 < z.length))), [])
  | _, _ => .no
/-- The first that p takes, counted from n; -1: none. -/
def idx_good2V (s0 : Int) (s1 : List (List UInt8)) (s2 : Int) (s3 : List (List UInt8)) (s4 : List (Int × Int × List UInt8 × Unit)) (s5 : List (Int × Int × Unit)) : List (Int × Int × List UInt8 × Unit) → Nat → Int
  | [], _ => -1
  | z :: l, n => if (!decide (1 ≤ z.1 ∧ z.1 ≤ s0 ∧ 0 ≤ z.2.1 ∧ z.2.1 < s2 + 4 ∧ s1[z.2.1.toNat]? = some z.2.2.1)) = true then (n : Int) else idx_good2V s0 s1 s2 s3 s4 s5 l (n + 1)
def idx_good2E : LoopEnt := ⟨19, [0,1,4,7,8], [], [4], fun
  | ([.sl (.pair (.int .i64) (.pair (.int .i64) (.pair .str .unit))) l, .fn 98 [] [.ptr 0 0], .i .i64 r, .i .i64 m, .i .i64 n], [some (.box [.i .i64 s0, .sl .str s1, .i .i64 s2, .sl .str s3, .sl (.pair (.int .i64) (.pair (.int .i64) (.pair .str .unit))) s4, .sl (.pair (.int .i64) (.pair (.int .i64) .unit)) s5])]) =>
    .need (decide ((-lim ≤ s2 ∧ s2 ≤ lim) ∧ 0 ≤ n ∧ n.toNat ≤ l.length ∧ l.length ≤ maxI ∧ m = l.length)) (.br (decide (idx_good2V s0 s1 s2 s3 s4 s5 (l.drop n.toNat) n.toNat < 0)) (.leaf (.exit 0, ([], [some (.box [.i .i64 s0, .sl .str s1, .i .i64 s2, .sl .str s3, .sl (.pair (.int .i64) (.pair (.int .i64) (.pair .str .unit))) s4, .sl (.pair (.int .i64) (.pair (.int .i64) .unit)) s5])]))) (.leaf (.ret, ([.i .i64 (idx_good2V s0 s1 s2 s3 s4 s5 (l.drop n.toNat) n.toNat)], [some (.box [.i .i64 s0, .sl .str s1, .i .i64 s2, .sl .str s3, .sl (.pair (.int .i64) (.pair (.int .i64) (.pair .str .unit))) s4, .sl (.pair (.int .i64) (.pair (.int .i64) .unit)) s5])]))))
  | _ => .no⟩
def idx_good2G : List V → List Blk → Br (V × List (Option Blk))
  | [.sl (.pair (.int .i64) (.pair (.int .i64) (.pair .str .unit))) l, .fn 98 [] [.ptr 0 0]], [.box [.i .i64 s0, .sl .str s1, .i .i64 s2, .sl .str s3, .sl (.pair (.int .i64) (.pair (.int .i64) (.pair .str .unit))) s4, .sl (.pair (.int .i64) (.pair (.int .i64) .unit)) s5]] => .need (decide (-lim ≤ s2 ∧ s2 ≤ lim)) (.leaf (.i .i64 (idx_good2V s0 s1 s2 s3 s4 s5 l 0), [some (.box [.i .i64 s0, .sl .str s1, .i .i64 s2, .sl .str s3, .sl (.pair (.int .i64) (.pair (.int .i64) (.pair .str .unit))) s4, .sl (.pair (.int .i64) (.pair (.int .i64) .unit)) s5])]))
  | _, _ => .no
def has_good2G : List V → List Blk → Br (V × List (Option Blk))
  | [.sl (.pair (.int .i64) (.pair (.int .i64) (.pair .str .unit))) l, .fn 98 [] [.ptr 0 0]], [.box [.i .i64 s0, .sl .str s1, .i .i64 s2, .sl .str s3, .sl (.pair (.int .i64) (.pair (.int .i64) (.pair .str .unit))) s4, .sl (.pair (.int .i64) (.pair (.int .i64) .unit)) s5]] => .need (decide (-lim ≤ s2 ∧ s2 ≤ lim)) (.leaf (.b (l.any (fun z : (Int × Int × List UInt8 × Unit) => !decide (1 ≤ z.1 ∧ z.1 ≤ s0 ∧ 0 ≤ z.2.1 ∧ z.2.1 < s2 + 4 ∧ s1[z.2.1.toNat]? = some z.2.2.1))), [some (.box [.i .i64 s0, .sl .str s1, .i .i64 s2, .sl .str s3, .sl (.pair (.int .i64) (.pair (.int .i64) (.pair .str .unit))) s4, .sl (.pair (.int .i64) (.pair (.int .i64) .unit)) s5])]))
  | _, _ => .no
/-- The first that p takes, counted from n; -1: none. -/
def idx_good3V (s0 : Int) (s1 : List (List UInt8)) (s2 : Int) (s3 : List (List UInt8)) (s4 : List (Int × Int × List UInt8 × Unit)) (s5 : List (Int × Int × Unit)) (t : Int) : List (Int × Int × Unit) → Nat → Int
  | [], _ => -1
  | z :: l, n => if (!decide ((1 ≤ z.1 ∧ z.1 ≤ s0) ∧ (0 ≤ z.2.1 ∧ z.2.1 ≤ t))) = true then (n : Int) else idx_good3V s0 s1 s2 s3 s4 s5 t l (n + 1)
def idx_good3E : LoopEnt := ⟨19, [0,1,4,7,8], [], [4], fun
  | ([.sl (.pair (.int .i64) (.pair (.int .i64) .unit)) l, .fn 101 [] [.ptr 0 0, .ptr 1 0], .i .i64 r, .i .i64 m, .i .i64 n], [some (.box [.i .i64 s0, .sl .str s1, .i .i64 s2, .sl .str s3, .sl (.pair (.int .i64) (.pair (.int .i64) (.pair .str .unit))) s4, .sl (.pair (.int .i64) (.pair (.int .i64) .unit)) s5]), some (.box [.i .i64 t])]) =>
    .need (decide (0 ≤ n ∧ n.toNat ≤ l.length ∧ l.length ≤ maxI ∧ m = l.length)) (.br (decide (idx_good3V s0 s1 s2 s3 s4 s5 t (l.drop n.toNat) n.toNat < 0)) (.leaf (.exit 0, ([], [some (.box [.i .i64 s0, .sl .str s1, .i .i64 s2, .sl .str s3, .sl (.pair (.int .i64) (.pair (.int .i64) (.pair .str .unit))) s4, .sl (.pair (.int .i64) (.pair (.int .i64) .unit)) s5]), some (.box [.i .i64 t])]))) (.leaf (.ret, ([.i .i64 (idx_good3V s0 s1 s2 s3 s4 s5 t (l.drop n.toNat) n.toNat)], [some (.box [.i .i64 s0, .sl .str s1, .i .i64 s2, .sl .str s3, .sl (.pair (.int .i64) (.pair (.int .i64) (.pair .str .unit))) s4, .sl (.pair (.int .i64) (.pair (.int .i64) .unit)) s5]), some (.box [.i .i64 t])]))))
  | _ => .no⟩
def idx_good3G : List V → List Blk → Br (V × List (Option Blk))
  | [.sl (.pair (.int .i64) (.pair (.int .i64) .unit)) l, .fn 101 [] [.ptr 0 0, .ptr 1 0]], [.box [.i .i64 s0, .sl .str s1, .i .i64 s2, .sl .str s3, .sl (.pair (.int .i64) (.pair (.int .i64) (.pair .str .unit))) s4, .sl (.pair (.int .i64) (.pair (.int .i64) .unit)) s5], .box [.i .i64 t]] => .leaf (.i .i64 (idx_good3V s0 s1 s2 s3 s4 s5 t l 0), [some (.box [.i .i64 s0, .sl .str s1, .i .i64 s2, .sl .str s3, .sl (.pair (.int .i64) (.pair (.int .i64) (.pair .str .unit))) s4, .sl (.pair (.int .i64) (.pair (.int .i64) .unit)) s5]), some (.box [.i .i64 t])])
  | _, _ => .no
def has_good3G : List V → List Blk → Br (V × List (Option Blk))
  | [.sl (.pair (.int .i64) (.pair (.int .i64) .unit)) l, .fn 101 [] [.ptr 0 0, .ptr 1 0]], [.box [.i .i64 s0, .sl .str s1, .i .i64 s2, .sl .str s3, .sl (.pair (.int .i64) (.pair (.int .i64) (.pair .str .unit))) s4, .sl (.pair (.int .i64) (.pair (.int .i64) .unit)) s5], .box [.i .i64 t]] => .leaf (.b (l.any (fun z : (Int × Int × Unit) => !decide ((1 ≤ z.1 ∧ z.1 ≤ s0) ∧ (0 ≤ z.2.1 ∧ z.2.1 ≤ t)))), [some (.box [.i .i64 s0, .sl .str s1, .i .i64 s2, .sl .str s3, .sl (.pair (.int .i64) (.pair (.int .i64) (.pair .str .unit))) s4, .sl (.pair (.int .i64) (.pair (.int .i64) .unit)) s5]), some (.box [.i .i64 t])])
  | _, _ => .no
theorem idx_good1_round  (l : List (List UInt8)) (r : Int) (n : Nat) : roundK Try.prog (look [(95, .rd1 good1G)]) (look [(2, idx_good1E)]) 0 (body Try.f139 0) idx_good1E ([.sl .str l, .fn 95 [] [], .i .i64 r, .i .i64 (↑l.length : Int), .i .i64 n], []) =
  ((ifB (decide ((↑n : Int) < (↑l.length : Int)))
  (ifT (decide ((0 : Int) ≤ (↑n : Int)) && decide ((↑n : Int) < (↑l.length : Int)))
  (ifSome l[((↑n : Int)).toNat]? fun z =>
  ifB (decide ((20 : Nat) < List.length z)) (some (Ex.ret, [V.i IntKind.i64 ((↑n : Int))], []))
  (some
  (Ex.normal,
  [V.sl Cd.str l, V.fn 95 [] [], V.i IntKind.i64 r, V.i IntKind.i64 (↑l.length : Int),
  V.i IntKind.i64 (IntKind.i64.wrap ((↑n : Int) + (1 : Int)))],
  []))))
  (some (Ex.exit (0 : Nat), [], []))) : _) := by kernel_rfl
theorem idx_good1_loop  {l : List (List UInt8)} {r : Int} (hx : l.length ≤ maxI) : ∀ (j n : Nat), n + j = l.length → ∀ e d', (.br (decide (idx_good1V  (l.drop n) n < 0)) (.leaf (.exit 0, ([], []))) (.leaf (.ret, ([.i .i64 (idx_good1V  (l.drop n) n)], []))) : Br (Ex × Dt)).run = some (e, d') →
    Runs Try.prog (look [(95, .rd1 good1G)]) (look [(2, idx_good1E)]) 0 (body Try.f139 0) idx_good1E ([.sl .str l, .fn 95 [] [], .i .i64 r, .i .i64 (↑l.length : Int), .i .i64 n], []) e d'
  | 0, n, hn, e, d', h => by
    have e1 : l.drop n = [] := List.drop_eq_nil_of_le (by omega)
    rw [e1, br_run, idx_good1V, if_pos (by omega)] at h
    cases h
    refine .stop _ _ _ ((idx_good1_round  l r n).trans ?_) (by simp)
    simp [show ¬ n < l.length by omega]
  | j + 1, n, hn, e, d', h => by
    have h1 : n < l.length := by omega
    have hr := idx_good1_round  l r n
    simp only [Int.toNat_natCast, List.getElem?_eq_getElem h1, wrap_succ (n := n) (by omega)] at hr
    rw [ifB_true (by simp [h1]), ifT_true (by simp [h1]), ifSome_s] at hr
    rw [List.drop_eq_getElem_cons h1, br_run, idx_good1V] at h
    by_cases he : (decide (20 < l[n].length)) = true
    · rw [if_pos he, if_neg (by omega)] at h
      cases h
      rw [ifB_true he] at hr
      exact .stop _ _ _ hr (by simp)
    · rw [if_neg he] at h
      rw [ifB_false (by simpa using he)] at hr
      exact .step _ _ _ _ hr (idx_good1_loop  hx j (n + 1) (by omega) e d' (by rw [br_run]; exact h))
theorem idx_good1_ok : LoopsOk Try.prog (look [(95, .rd1 good1G)]) (look [(2, idx_good1E)]) 0 (Try.f139.body.getD .skip) := by
  refine loopsOk_one (a := body Try.f139 0) (by kernel_rfl) fun d e d' h => ?_
  unfold idx_good1E at h
  dsimp only at h
  split at h
  · obtain ⟨hc, h'⟩ := need_some h
    obtain ⟨h0, h1, h2, rfl⟩ := of_decide_eq_true hc
    obtain ⟨n, rfl⟩ := Int.eq_ofNat_of_zero_le h0
    exact idx_good1_loop  h2 _ n (Nat.add_sub_of_le h1) e d' h'
  · cases h
theorem idx_good1_V  : ∀ (l : List (List UInt8)) (n : Nat), (0 ≤ idx_good1V  l n) = (l.any (fun z : (List UInt8) => decide (20 < z.length)) = true)
  | [], n => by simp [idx_good1V]
  | z :: l, n => by
    rw [idx_good1V, List.any_cons, Bool.or_eq_true]
    by_cases he : (decide (20 < z.length)) = true
    · rw [if_pos he]; simp only [he, true_or]; exact eq_true (by omega)
    · rw [if_neg he, idx_good1_V  l (n + 1)]; simp only [he, Bool.false_eq_true, false_or]
theorem idx_good1_neg  : ∀ (l : List (List UInt8)) (n : Nat), idx_good1V  l n < 0 → idx_good1V  l n = -1
  | [], n, _ => rfl
  | z :: l, n, h => by
    rw [idx_good1V] at h ⊢
    by_cases he : (decide (20 < z.length)) = true
    · rw [if_pos he] at h; omega
    · rw [if_neg he] at h ⊢; exact idx_good1_neg  l (n + 1) h
theorem idx_good1_fun  (l : List (List UInt8)) (hx : l.length ≤ maxI) : funK Try.prog (look [(95, .rd1 good1G)]) (look [(2, idx_good1E)]) Try.f139 [.sl .str l, .fn 95 [] []] [] = some (.i .i64 (idx_good1V  l 0), []) := by
  have e : funK Try.prog (look [(95, .rd1 good1G)]) (look [(2, idx_good1E)]) Try.f139 [.sl .str l, .fn 95 [] []] [] =
    ((ifT (decide ((0 : Int) ≤ (0 : Int) ∧ (0 : Nat) ≤ l.length ∧ l.length ≤ maxI ∧ (↑l.length : Int) = (↑l.length : Int)))
  (ifB (decide (idx_good1V (List.drop (0 : Nat) l) (0 : Nat) < (0 : Int))) (some (V.i IntKind.i64 (-1 : Int), []))
  (some (V.i IntKind.i64 (idx_good1V (List.drop (0 : Nat) l) (0 : Nat)), [])))) : _) := by kernel_rfl
  rw [e, ifT_true (decide_eq_true ⟨by omega, by omega, hx, rfl⟩), List.drop_zero]
  by_cases q : idx_good1V  l 0 < 0
  · rw [ifB_true (decide_eq_true q), idx_good1_neg  l 0 q]
  · rw [ifB_false (decide_eq_false q)]
theorem good1_idx : Contract Try.prog 139 (Ent.rd1 idx_good1G).F := by
  refine fun_contract' (KnowsL.cons (enters_fn Try.func95 (by kernel_rfl) (by kernel_rfl)) good1 KnowsL.nil).knows (Λ := (look [(2, idx_good1E)])) Try.func139 (c := Try.f139.body.getD .skip) (by kernel_rfl) fun vs bs r h hv hb => ?_
  unfold Ent.F idx_good1G at h
  dsimp only at h
  split at h
  · rename_i l 
    have h' := h
    exact ⟨idx_good1_ok, (idx_good1_fun  l (hv (.sl .str l) (by simp)).1).trans (by cases h'; rfl)⟩
  · cases h
theorem has_good1_fun  (l : List (List UInt8)) : funK Try.prog (look [(139, .rd1 idx_good1G)]) (look []) Try.f86 [.sl .str l, .fn 95 [] []] [] = some (.b (l.any (fun z : (List UInt8) => decide (20 < z.length))), []) := by
  have e : funK Try.prog (look [(139, .rd1 idx_good1G)]) (look []) Try.f86 [.sl .str l, .fn 95 [] []] [] =
    ((some (V.b (decide (idx_good1V l (0 : Nat) ≥ (0 : Int))), [])) : _) := by kernel_rfl
  rw [e]
  have hv := idx_good1_V  l 0
  skip
  have hd : decide (idx_good1V  l 0 ≥ 0) = l.any (fun z : (List UInt8) => decide (20 < z.length)) := by
    show decide (0 ≤ idx_good1V  l 0) = _
    cases hq : l.any (fun z : (List UInt8) => decide (20 < z.length)) with
    | true => exact decide_eq_true (hv ▸ hq)
    | false => exact decide_eq_false (fun h => by rw [hv, hq] at h; cases h)
  rw [hd]
theorem good1_has : Contract Try.prog 86 (Ent.rd1 has_good1G).F := by
  refine fun_contract' (KnowsL.cons (enters_fn Try.func139 (by kernel_rfl) (by kernel_rfl)) good1_idx KnowsL.nil).knows (Λ := look []) Try.func86 (c := Try.f86.body.getD .skip) (by kernel_rfl) fun vs bs r h hv hb => ?_
  unfold Ent.F has_good1G at h
  dsimp only at h
  split at h
  · rename_i l 
    have h' := h
    exact ⟨loopsOk_nil _, (has_good1_fun  l).trans (by cases h'; rfl)⟩
  · cases h
theorem idx_good2_round (s0 : Int) (s1 : List (List UInt8)) (s2 : Int) (s3 : List (List UInt8)) (s4 : List (Int × Int × List UInt8 × Unit)) (s5 : List (Int × Int × Unit)) (l : List (Int × Int × List UInt8 × Unit)) (r : Int) (n : Nat) : roundK Try.prog (look [(98, .own good2G)]) (look [(2, idx_good2E)]) 1 (body Try.f146 0) idx_good2E ([.sl (.pair (.int .i64) (.pair (.int .i64) (.pair .str .unit))) l, .fn 98 [] [.ptr 0 0], .i .i64 r, .i .i64 (↑l.length : Int), .i .i64 n], [some (.box [.i .i64 s0, .sl .str s1, .i .i64 s2, .sl .str s3, .sl (.pair (.int .i64) (.pair (.int .i64) (.pair .str .unit))) s4, .sl (.pair (.int .i64) (.pair (.int .i64) .unit)) s5])]) =
  ((ifB (decide ((↑n : Int) < (↑l.length : Int)))
  (ifT (decide ((0 : Int) ≤ (↑n : Int)) && decide ((↑n : Int) < (↑l.length : Int)))
  (ifSome l[((↑n : Int)).toNat]? fun z =>
  ifT (decide (-lim ≤ s2 ∧ s2 ≤ lim))
  (ifB
  (!decide
  ((1 : Int) ≤ z.fst ∧
  z.fst ≤ s0 ∧
  (0 : Int) ≤ z.snd.fst ∧ z.snd.fst < s2 + (4 : Int) ∧ s1[Int.toNat z.snd.fst]? = some z.snd.snd.fst))
  (some
  (Ex.ret, [V.i IntKind.i64 ((↑n : Int))],
  [some
  (Blk.box
  [V.i IntKind.i64 s0, V.sl Cd.str s1, V.i IntKind.i64 s2, V.sl Cd.str s3,
  V.sl ((Cd.int IntKind.i64).pair ((Cd.int IntKind.i64).pair (Cd.str.pair Cd.unit))) s4,
  V.sl ((Cd.int IntKind.i64).pair ((Cd.int IntKind.i64).pair Cd.unit)) s5])]))
  (some
  (Ex.normal,
  [V.sl ((Cd.int IntKind.i64).pair ((Cd.int IntKind.i64).pair (Cd.str.pair Cd.unit))) l,
  V.fn 98 [] [V.ptr (0 : Nat) (0 : Nat)], V.i IntKind.i64 r, V.i IntKind.i64 (↑l.length : Int),
  V.i IntKind.i64 (IntKind.i64.wrap ((↑n : Int) + (1 : Int)))],
  [some
  (Blk.box
  [V.i IntKind.i64 s0, V.sl Cd.str s1, V.i IntKind.i64 s2, V.sl Cd.str s3,
  V.sl ((Cd.int IntKind.i64).pair ((Cd.int IntKind.i64).pair (Cd.str.pair Cd.unit))) s4,
  V.sl ((Cd.int IntKind.i64).pair ((Cd.int IntKind.i64).pair Cd.unit)) s5])])))))
  (some
  (Ex.exit (0 : Nat), [],
  [some
  (Blk.box
  [V.i IntKind.i64 s0, V.sl Cd.str s1, V.i IntKind.i64 s2, V.sl Cd.str s3,
  V.sl ((Cd.int IntKind.i64).pair ((Cd.int IntKind.i64).pair (Cd.str.pair Cd.unit))) s4,
  V.sl ((Cd.int IntKind.i64).pair ((Cd.int IntKind.i64).pair Cd.unit)) s5])]))) : _) := by kernel_rfl
theorem idx_good2_loop (s0 : Int) (s1 : List (List UInt8)) (s2 : Int) (s3 : List (List UInt8)) (s4 : List (Int × Int × List UInt8 × Unit)) (s5 : List (Int × Int × Unit)) (hs : (-lim ≤ s2 ∧ s2 ≤ lim)) {l : List (Int × Int × List UInt8 × Unit)} {r : Int} (hx : l.length ≤ maxI) : ∀ (j n : Nat), n + j = l.length → ∀ e d', (.br (decide (idx_good2V s0 s1 s2 s3 s4 s5 (l.drop n) n < 0)) (.leaf (.exit 0, ([], [some (.box [.i .i64 s0, .sl .str s1, .i .i64 s2, .sl .str s3, .sl (.pair (.int .i64) (.pair (.int .i64) (.pair .str .unit))) s4, .sl (.pair (.int .i64) (.pair (.int .i64) .unit)) s5])]))) (.leaf (.ret, ([.i .i64 (idx_good2V s0 s1 s2 s3 s4 s5 (l.drop n) n)], [some (.box [.i .i64 s0, .sl .str s1, .i .i64 s2, .sl .str s3, .sl (.pair (.int .i64) (.pair (.int .i64) (.pair .str .unit))) s4, .sl (.pair (.int .i64) (.pair (.int .i64) .unit)) s5])]))) : Br (Ex × Dt)).run = some (e, d') →
    Runs Try.prog (look [(98, .own good2G)]) (look [(2, idx_good2E)]) 1 (body Try.f146 0) idx_good2E ([.sl (.pair (.int .i64) (.pair (.int .i64) (.pair .str .unit))) l, .fn 98 [] [.ptr 0 0], .i .i64 r, .i .i64 (↑l.length : Int), .i .i64 n], [some (.box [.i .i64 s0, .sl .str s1, .i .i64 s2, .sl .str s3, .sl (.pair (.int .i64) (.pair (.int .i64) (.pair .str .unit))) s4, .sl (.pair (.int .i64) (.pair (.int .i64) .unit)) s5])]) e d'
  | 0, n, hn, e, d', h => by
    have e1 : l.drop n = [] := List.drop_eq_nil_of_le (by omega)
    rw [e1, br_run, idx_good2V, if_pos (by omega)] at h
    cases h
    refine .stop _ _ _ ((idx_good2_round s0 s1 s2 s3 s4 s5 l r n).trans ?_) (by simp)
    simp [show ¬ n < l.length by omega]
  | j + 1, n, hn, e, d', h => by
    have h1 : n < l.length := by omega
    have hr := idx_good2_round s0 s1 s2 s3 s4 s5 l r n
    simp only [Int.toNat_natCast, List.getElem?_eq_getElem h1, wrap_succ (n := n) (by omega)] at hr
    rw [ifB_true (by simp [h1]), ifT_true (by simp [h1]), ifSome_s, ifT_true (decide_eq_true hs)] at hr
    rw [List.drop_eq_getElem_cons h1, br_run, idx_good2V] at h
    by_cases he : (!decide (1 ≤ l[n].1 ∧ l[n].1 ≤ s0 ∧ 0 ≤ l[n].2.1 ∧ l[n].2.1 < s2 + 4 ∧ s1[l[n].2.1.toNat]? = some l[n].2.2.1)) = true
    · rw [if_pos he, if_neg (by omega)] at h
      cases h
      rw [ifB_true he] at hr
      exact .stop _ _ _ hr (by simp)
    · rw [if_neg he] at h
      rw [ifB_false (by simpa using he)] at hr
      exact .step _ _ _ _ hr (idx_good2_loop s0 s1 s2 s3 s4 s5 hs hx j (n + 1) (by omega) e d' (by rw [br_run]; exact h))
theorem idx_good2_ok : LoopsOk Try.prog (look [(98, .own good2G)]) (look [(2, idx_good2E)]) 1 (Try.f146.body.getD .skip) := by
  refine loopsOk_one (a := body Try.f146 0) (by kernel_rfl) fun d e d' h => ?_
  unfold idx_good2E at h
  dsimp only at h
  split at h
  · obtain ⟨hc, h'⟩ := need_some h
    obtain ⟨hs, h0, h1, h2, rfl⟩ := of_decide_eq_true hc
    obtain ⟨n, rfl⟩ := Int.eq_ofNat_of_zero_le h0
    exact idx_good2_loop _ _ _ _ _ _  hs h2 _ n (Nat.add_sub_of_le h1) e d' h'
  · cases h
theorem idx_good2_V (s0 : Int) (s1 : List (List UInt8)) (s2 : Int) (s3 : List (List UInt8)) (s4 : List (Int × Int × List UInt8 × Unit)) (s5 : List (Int × Int × Unit)) : ∀ (l : List (Int × Int × List UInt8 × Unit)) (n : Nat), (0 ≤ idx_good2V s0 s1 s2 s3 s4 s5 l n) = (l.any (fun z : (Int × Int × List UInt8 × Unit) => !decide (1 ≤ z.1 ∧ z.1 ≤ s0 ∧ 0 ≤ z.2.1 ∧ z.2.1 < s2 + 4 ∧ s1[z.2.1.toNat]? = some z.2.2.1)) = true)
  | [], n => by simp [idx_good2V]
  | z :: l, n => by
    rw [idx_good2V, List.any_cons, Bool.or_eq_true]
    by_cases he : (!decide (1 ≤ z.1 ∧ z.1 ≤ s0 ∧ 0 ≤ z.2.1 ∧ z.2.1 < s2 + 4 ∧ s1[z.2.1.toNat]? = some z.2.2.1)) = true
    · rw [if_pos he]; simp only [he, true_or]; exact eq_true (by omega)
    · rw [if_neg he, idx_good2_V s0 s1 s2 s3 s4 s5 l (n + 1)]; simp only [he, Bool.false_eq_true, false_or]
theorem idx_good2_neg (s0 : Int) (s1 : List (List UInt8)) (s2 : Int) (s3 : List (List UInt8)) (s4 : List (Int × Int × List UInt8 × Unit)) (s5 : List (Int × Int × Unit)) : ∀ (l : List (Int × Int × List UInt8 × Unit)) (n : Nat), idx_good2V s0 s1 s2 s3 s4 s5 l n < 0 → idx_good2V s0 s1 s2 s3 s4 s5 l n = -1
  | [], n, _ => rfl
  | z :: l, n, h => by
    rw [idx_good2V] at h ⊢
    by_cases he : (!decide (1 ≤ z.1 ∧ z.1 ≤ s0 ∧ 0 ≤ z.2.1 ∧ z.2.1 < s2 + 4 ∧ s1[z.2.1.toNat]? = some z.2.2.1)) = true
    · rw [if_pos he] at h; omega
    · rw [if_neg he] at h ⊢; exact idx_good2_neg s0 s1 s2 s3 s4 s5 l (n + 1) h
theorem idx_good2_fun (s0 : Int) (s1 : List (List UInt8)) (s2 : Int) (s3 : List (List UInt8)) (s4 : List (Int × Int × List UInt8 × Unit)) (s5 : List (Int × Int × Unit)) (l : List (Int × Int × List UInt8 × Unit)) (hx : l.length ≤ maxI) (hs : (-lim ≤ s2 ∧ s2 ≤ lim)) : funK Try.prog (look [(98, .own good2G)]) (look [(2, idx_good2E)]) Try.f146 [.sl (.pair (.int .i64) (.pair (.int .i64) (.pair .str .unit))) l, .fn 98 [] [.ptr 0 0]] [.box [.i .i64 s0, .sl .str s1, .i .i64 s2, .sl .str s3, .sl (.pair (.int .i64) (.pair (.int .i64) (.pair .str .unit))) s4, .sl (.pair (.int .i64) (.pair (.int .i64) .unit)) s5]] = some (.i .i64 (idx_good2V s0 s1 s2 s3 s4 s5 l 0), [some (.box [.i .i64 s0, .sl .str s1, .i .i64 s2, .sl .str s3, .sl (.pair (.int .i64) (.pair (.int .i64) (.pair .str .unit))) s4, .sl (.pair (.int .i64) (.pair (.int .i64) .unit)) s5])]) := by
  have e : funK Try.prog (look [(98, .own good2G)]) (look [(2, idx_good2E)]) Try.f146 [.sl (.pair (.int .i64) (.pair (.int .i64) (.pair .str .unit))) l, .fn 98 [] [.ptr 0 0]] [.box [.i .i64 s0, .sl .str s1, .i .i64 s2, .sl .str s3, .sl (.pair (.int .i64) (.pair (.int .i64) (.pair .str .unit))) s4, .sl (.pair (.int .i64) (.pair (.int .i64) .unit)) s5]] =
    ((ifT
  (decide
  ((-lim ≤ s2 ∧ s2 ≤ lim) ∧
  (0 : Int) ≤ (0 : Int) ∧ (0 : Nat) ≤ l.length ∧ l.length ≤ maxI ∧ (↑l.length : Int) = (↑l.length : Int)))
  (ifB (decide (idx_good2V s0 s1 s2 s3 s4 s5 (List.drop (0 : Nat) l) (0 : Nat) < (0 : Int)))
  (some
  (V.i IntKind.i64 (-1 : Int),
  [some
  (Blk.box
  [V.i IntKind.i64 s0, V.sl Cd.str s1, V.i IntKind.i64 s2, V.sl Cd.str s3,
  V.sl ((Cd.int IntKind.i64).pair ((Cd.int IntKind.i64).pair (Cd.str.pair Cd.unit))) s4,
  V.sl ((Cd.int IntKind.i64).pair ((Cd.int IntKind.i64).pair Cd.unit)) s5])]))
  (some
  (V.i IntKind.i64 (idx_good2V s0 s1 s2 s3 s4 s5 (List.drop (0 : Nat) l) (0 : Nat)),
  [some
  (Blk.box
  [V.i IntKind.i64 s0, V.sl Cd.str s1, V.i IntKind.i64 s2, V.sl Cd.str s3,
  V.sl ((Cd.int IntKind.i64).pair ((Cd.int IntKind.i64).pair (Cd.str.pair Cd.unit))) s4,
  V.sl ((Cd.int IntKind.i64).pair ((Cd.int IntKind.i64).pair Cd.unit)) s5])])))) : _) := by kernel_rfl
  rw [e, ifT_true (decide_eq_true ⟨hs, by omega, by omega, hx, rfl⟩), List.drop_zero]
  by_cases q : idx_good2V s0 s1 s2 s3 s4 s5 l 0 < 0
  · rw [ifB_true (decide_eq_true q), idx_good2_neg s0 s1 s2 s3 s4 s5 l 0 q]
  · rw [ifB_false (decide_eq_false q)]
theorem good2_idx : Contract Try.prog 146 (Ent.own idx_good2G).F := by
  refine fun_contract' (KnowsL.cons (enters_fn Try.func98 (by kernel_rfl) (by kernel_rfl)) good2 KnowsL.nil).knows (Λ := (look [(2, idx_good2E)])) Try.func146 (c := Try.f146.body.getD .skip) (by kernel_rfl) fun vs bs r h hv hb => ?_
  unfold Ent.F idx_good2G at h
  dsimp only at h
  split at h
  · rename_i l s0 s1 s2 s3 s4 s5
    obtain ⟨hc, h'⟩ := need_some h
    exact ⟨idx_good2_ok, (idx_good2_fun s0 s1 s2 s3 s4 s5 l (hv (.sl (.pair (.int .i64) (.pair (.int .i64) (.pair .str .unit))) l) (by simp)).1 (of_decide_eq_true hc)).trans (by cases h'; rfl)⟩
  · cases h
theorem has_good2_fun (s0 : Int) (s1 : List (List UInt8)) (s2 : Int) (s3 : List (List UInt8)) (s4 : List (Int × Int × List UInt8 × Unit)) (s5 : List (Int × Int × Unit)) (l : List (Int × Int × List UInt8 × Unit)) (hs : (-lim ≤ s2 ∧ s2 ≤ lim)) : funK Try.prog (look [(146, .own idx_good2G)]) (look []) Try.f97 [.sl (.pair (.int .i64) (.pair (.int .i64) (.pair .str .unit))) l, .fn 98 [] [.ptr 0 0]] [.box [.i .i64 s0, .sl .str s1, .i .i64 s2, .sl .str s3, .sl (.pair (.int .i64) (.pair (.int .i64) (.pair .str .unit))) s4, .sl (.pair (.int .i64) (.pair (.int .i64) .unit)) s5]] = some (.b (l.any (fun z : (Int × Int × List UInt8 × Unit) => !decide (1 ≤ z.1 ∧ z.1 ≤ s0 ∧ 0 ≤ z.2.1 ∧ z.2.1 < s2 + 4 ∧ s1[z.2.1.toNat]? = some z.2.2.1))), [some (.box [.i .i64 s0, .sl .str s1, .i .i64 s2, .sl .str s3, .sl (.pair (.int .i64) (.pair (.int .i64) (.pair .str .unit))) s4, .sl (.pair (.int .i64) (.pair (.int .i64) .unit)) s5])]) := by
  have e : funK Try.prog (look [(146, .own idx_good2G)]) (look []) Try.f97 [.sl (.pair (.int .i64) (.pair (.int .i64) (.pair .str .unit))) l, .fn 98 [] [.ptr 0 0]] [.box [.i .i64 s0, .sl .str s1, .i .i64 s2, .sl .str s3, .sl (.pair (.int .i64) (.pair (.int .i64) (.pair .str .unit))) s4, .sl (.pair (.int .i64) (.pair (.int .i64) .unit)) s5]] =
    ((ifT (decide (-lim ≤ s2 ∧ s2 ≤ lim))
  (some
  (V.b (decide (idx_good2V s0 s1 s2 s3 s4 s5 l (0 : Nat) ≥ (0 : Int))),
  [some
  (Blk.box
  [V.i IntKind.i64 s0, V.sl Cd.str s1, V.i IntKind.i64 s2, V.sl Cd.str s3,
  V.sl ((Cd.int IntKind.i64).pair ((Cd.int IntKind.i64).pair (Cd.str.pair Cd.unit))) s4,
  V.sl ((Cd.int IntKind.i64).pair ((Cd.int IntKind.i64).pair Cd.unit)) s5])]))) : _) := by kernel_rfl
  rw [e]
  have hv := idx_good2_V s0 s1 s2 s3 s4 s5 l 0
  rw [ifT_true (decide_eq_true hs)]
  have hd : decide (idx_good2V s0 s1 s2 s3 s4 s5 l 0 ≥ 0) = l.any (fun z : (Int × Int × List UInt8 × Unit) => !decide (1 ≤ z.1 ∧ z.1 ≤ s0 ∧ 0 ≤ z.2.1 ∧ z.2.1 < s2 + 4 ∧ s1[z.2.1.toNat]? = some z.2.2.1)) := by
    show decide (0 ≤ idx_good2V s0 s1 s2 s3 s4 s5 l 0) = _
    cases hq : l.any (fun z : (Int × Int × List UInt8 × Unit) => !decide (1 ≤ z.1 ∧ z.1 ≤ s0 ∧ 0 ≤ z.2.1 ∧ z.2.1 < s2 + 4 ∧ s1[z.2.1.toNat]? = some z.2.2.1)) with
    | true => exact decide_eq_true (hv ▸ hq)
    | false => exact decide_eq_false (fun h => by rw [hv, hq] at h; cases h)
  rw [hd]
theorem good2_has : Contract Try.prog 97 (Ent.own has_good2G).F := by
  refine fun_contract' (KnowsL.cons (enters_fn Try.func146 (by kernel_rfl) (by kernel_rfl)) good2_idx KnowsL.nil).knows (Λ := look []) Try.func97 (c := Try.f97.body.getD .skip) (by kernel_rfl) fun vs bs r h hv hb => ?_
  unfold Ent.F has_good2G at h
  dsimp only at h
  split at h
  · rename_i l s0 s1 s2 s3 s4 s5
    obtain ⟨hc, h'⟩ := need_some h
    exact ⟨loopsOk_nil _, (has_good2_fun s0 s1 s2 s3 s4 s5 l (of_decide_eq_true hc)).trans (by cases h'; rfl)⟩
  · cases h
theorem idx_good3_round (s0 : Int) (s1 : List (List UInt8)) (s2 : Int) (s3 : List (List UInt8)) (s4 : List (Int × Int × List UInt8 × Unit)) (s5 : List (Int × Int × Unit)) (t : Int) (l : List (Int × Int × Unit)) (r : Int) (n : Nat) : roundK Try.prog (look [(101, .own good3G)]) (look [(2, idx_good3E)]) 2 (body Try.f147 0) idx_good3E ([.sl (.pair (.int .i64) (.pair (.int .i64) .unit)) l, .fn 101 [] [.ptr 0 0, .ptr 1 0], .i .i64 r, .i .i64 (↑l.length : Int), .i .i64 n], [some (.box [.i .i64 s0, .sl .str s1, .i .i64 s2, .sl .str s3, .sl (.pair (.int .i64) (.pair (.int .i64) (.pair .str .unit))) s4, .sl (.pair (.int .i64) (.pair (.int .i64) .unit)) s5]), some (.box [.i .i64 t])]) =
  ((ifB (decide ((↑n : Int) < (↑l.length : Int)))
  (ifT (decide ((0 : Int) ≤ (↑n : Int)) && decide ((↑n : Int) < (↑l.length : Int)))
  (ifSome l[((↑n : Int)).toNat]? fun z =>
  ifB (!decide (((1 : Int) ≤ z.fst ∧ z.fst ≤ s0) ∧ (0 : Int) ≤ z.snd.fst ∧ z.snd.fst ≤ t))
  (some
  (Ex.ret, [V.i IntKind.i64 ((↑n : Int))],
  [some
  (Blk.box
  [V.i IntKind.i64 s0, V.sl Cd.str s1, V.i IntKind.i64 s2, V.sl Cd.str s3,
  V.sl ((Cd.int IntKind.i64).pair ((Cd.int IntKind.i64).pair (Cd.str.pair Cd.unit))) s4,
  V.sl ((Cd.int IntKind.i64).pair ((Cd.int IntKind.i64).pair Cd.unit)) s5]),
  some (Blk.box [V.i IntKind.i64 t])]))
  (some
  (Ex.normal,
  [V.sl ((Cd.int IntKind.i64).pair ((Cd.int IntKind.i64).pair Cd.unit)) l,
  V.fn 101 [] [V.ptr (0 : Nat) (0 : Nat), V.ptr (1 : Nat) (0 : Nat)], V.i IntKind.i64 r,
  V.i IntKind.i64 (↑l.length : Int), V.i IntKind.i64 (IntKind.i64.wrap ((↑n : Int) + (1 : Int)))],
  [some
  (Blk.box
  [V.i IntKind.i64 s0, V.sl Cd.str s1, V.i IntKind.i64 s2, V.sl Cd.str s3,
  V.sl ((Cd.int IntKind.i64).pair ((Cd.int IntKind.i64).pair (Cd.str.pair Cd.unit))) s4,
  V.sl ((Cd.int IntKind.i64).pair ((Cd.int IntKind.i64).pair Cd.unit)) s5]),
  some (Blk.box [V.i IntKind.i64 t])]))))
  (some
  (Ex.exit (0 : Nat), [],
  [some
  (Blk.box
  [V.i IntKind.i64 s0, V.sl Cd.str s1, V.i IntKind.i64 s2, V.sl Cd.str s3,
  V.sl ((Cd.int IntKind.i64).pair ((Cd.int IntKind.i64).pair (Cd.str.pair Cd.unit))) s4,
  V.sl ((Cd.int IntKind.i64).pair ((Cd.int IntKind.i64).pair Cd.unit)) s5]),
  some (Blk.box [V.i IntKind.i64 t])]))) : _) := by kernel_rfl
theorem idx_good3_loop (s0 : Int) (s1 : List (List UInt8)) (s2 : Int) (s3 : List (List UInt8)) (s4 : List (Int × Int × List UInt8 × Unit)) (s5 : List (Int × Int × Unit)) (t : Int) {l : List (Int × Int × Unit)} {r : Int} (hx : l.length ≤ maxI) : ∀ (j n : Nat), n + j = l.length → ∀ e d', (.br (decide (idx_good3V s0 s1 s2 s3 s4 s5 t (l.drop n) n < 0)) (.leaf (.exit 0, ([], [some (.box [.i .i64 s0, .sl .str s1, .i .i64 s2, .sl .str s3, .sl (.pair (.int .i64) (.pair (.int .i64) (.pair .str .unit))) s4, .sl (.pair (.int .i64) (.pair (.int .i64) .unit)) s5]), some (.box [.i .i64 t])]))) (.leaf (.ret, ([.i .i64 (idx_good3V s0 s1 s2 s3 s4 s5 t (l.drop n) n)], [some (.box [.i .i64 s0, .sl .str s1, .i .i64 s2, .sl .str s3, .sl (.pair (.int .i64) (.pair (.int .i64) (.pair .str .unit))) s4, .sl (.pair (.int .i64) (.pair (.int .i64) .unit)) s5]), some (.box [.i .i64 t])]))) : Br (Ex × Dt)).run = some (e, d') →
    Runs Try.prog (look [(101, .own good3G)]) (look [(2, idx_good3E)]) 2 (body Try.f147 0) idx_good3E ([.sl (.pair (.int .i64) (.pair (.int .i64) .unit)) l, .fn 101 [] [.ptr 0 0, .ptr 1 0], .i .i64 r, .i .i64 (↑l.length : Int), .i .i64 n], [some (.box [.i .i64 s0, .sl .str s1, .i .i64 s2, .sl .str s3, .sl (.pair (.int .i64) (.pair (.int .i64) (.pair .str .unit))) s4, .sl (.pair (.int .i64) (.pair (.int .i64) .unit)) s5]), some (.box [.i .i64 t])]) e d'
  | 0, n, hn, e, d', h => by
    have e1 : l.drop n = [] := List.drop_eq_nil_of_le (by omega)
    rw [e1, br_run, idx_good3V, if_pos (by omega)] at h
    cases h
    refine .stop _ _ _ ((idx_good3_round s0 s1 s2 s3 s4 s5 t l r n).trans ?_) (by simp)
    simp [show ¬ n < l.length by omega]
  | j + 1, n, hn, e, d', h => by
    have h1 : n < l.length := by omega
    have hr := idx_good3_round s0 s1 s2 s3 s4 s5 t l r n
    simp only [Int.toNat_natCast, List.getElem?_eq_getElem h1, wrap_succ (n := n) (by omega)] at hr
    rw [ifB_true (by simp [h1]), ifT_true (by simp [h1]), ifSome_s] at hr
    rw [List.drop_eq_getElem_cons h1, br_run, idx_good3V] at h
    by_cases he : (!decide ((1 ≤ l[n].1 ∧ l[n].1 ≤ s0) ∧ (0 ≤ l[n].2.1 ∧ l[n].2.1 ≤ t))) = true
    · rw [if_pos he, if_neg (by omega)] at h
      cases h
      rw [ifB_true he] at hr
      exact .stop _ _ _ hr (by simp)
    · rw [if_neg he] at h
      rw [ifB_false (by simpa using he)] at hr
      exact .step _ _ _ _ hr (idx_good3_loop s0 s1 s2 s3 s4 s5 t hx j (n + 1) (by omega) e d' (by rw [br_run]; exact h))
theorem idx_good3_ok : LoopsOk Try.prog (look [(101, .own good3G)]) (look [(2, idx_good3E)]) 2 (Try.f147.body.getD .skip) := by
  refine loopsOk_one (a := body Try.f147 0) (by kernel_rfl) fun d e d' h => ?_
  unfold idx_good3E at h
  dsimp only at h
  split at h
  · obtain ⟨hc, h'⟩ := need_some h
    obtain ⟨h0, h1, h2, rfl⟩ := of_decide_eq_true hc
    obtain ⟨n, rfl⟩ := Int.eq_ofNat_of_zero_le h0
    exact idx_good3_loop _ _ _ _ _ _ _  h2 _ n (Nat.add_sub_of_le h1) e d' h'
  · cases h
theorem idx_good3_V (s0 : Int) (s1 : List (List UInt8)) (s2 : Int) (s3 : List (List UInt8)) (s4 : List (Int × Int × List UInt8 × Unit)) (s5 : List (Int × Int × Unit)) (t : Int) : ∀ (l : List (Int × Int × Unit)) (n : Nat), (0 ≤ idx_good3V s0 s1 s2 s3 s4 s5 t l n) = (l.any (fun z : (Int × Int × Unit) => !decide ((1 ≤ z.1 ∧ z.1 ≤ s0) ∧ (0 ≤ z.2.1 ∧ z.2.1 ≤ t))) = true)
  | [], n => by simp [idx_good3V]
  | z :: l, n => by
    rw [idx_good3V, List.any_cons, Bool.or_eq_true]
    by_cases he : (!decide ((1 ≤ z.1 ∧ z.1 ≤ s0) ∧ (0 ≤ z.2.1 ∧ z.2.1 ≤ t))) = true
    · rw [if_pos he]; simp only [he, true_or]; exact eq_true (by omega)
    · rw [if_neg he, idx_good3_V s0 s1 s2 s3 s4 s5 t l (n + 1)]; simp only [he, Bool.false_eq_true, false_or]
theorem idx_good3_neg (s0 : Int) (s1 : List (List UInt8)) (s2 : Int) (s3 : List (List UInt8)) (s4 : List (Int × Int × List UInt8 × Unit)) (s5 : List (Int × Int × Unit)) (t : Int) : ∀ (l : List (Int × Int × Unit)) (n : Nat), idx_good3V s0 s1 s2 s3 s4 s5 t l n < 0 → idx_good3V s0 s1 s2 s3 s4 s5 t l n = -1
  | [], n, _ => rfl
  | z :: l, n, h => by
    rw [idx_good3V] at h ⊢
    by_cases he : (!decide ((1 ≤ z.1 ∧ z.1 ≤ s0) ∧ (0 ≤ z.2.1 ∧ z.2.1 ≤ t))) = true
    · rw [if_pos he] at h; omega
    · rw [if_neg he] at h ⊢; exact idx_good3_neg s0 s1 s2 s3 s4 s5 t l (n + 1) h
theorem idx_good3_fun (s0 : Int) (s1 : List (List UInt8)) (s2 : Int) (s3 : List (List UInt8)) (s4 : List (Int × Int × List UInt8 × Unit)) (s5 : List (Int × Int × Unit)) (t : Int) (l : List (Int × Int × Unit)) (hx : l.length ≤ maxI) : funK Try.prog (look [(101, .own good3G)]) (look [(2, idx_good3E)]) Try.f147 [.sl (.pair (.int .i64) (.pair (.int .i64) .unit)) l, .fn 101 [] [.ptr 0 0, .ptr 1 0]] [.box [.i .i64 s0, .sl .str s1, .i .i64 s2, .sl .str s3, .sl (.pair (.int .i64) (.pair (.int .i64) (.pair .str .unit))) s4, .sl (.pair (.int .i64) (.pair (.int .i64) .unit)) s5], .box [.i .i64 t]] = some (.i .i64 (idx_good3V s0 s1 s2 s3 s4 s5 t l 0), [some (.box [.i .i64 s0, .sl .str s1, .i .i64 s2, .sl .str s3, .sl (.pair (.int .i64) (.pair (.int .i64) (.pair .str .unit))) s4, .sl (.pair (.int .i64) (.pair (.int .i64) .unit)) s5]), some (.box [.i .i64 t])]) := by
  have e : funK Try.prog (look [(101, .own good3G)]) (look [(2, idx_good3E)]) Try.f147 [.sl (.pair (.int .i64) (.pair (.int .i64) .unit)) l, .fn 101 [] [.ptr 0 0, .ptr 1 0]] [.box [.i .i64 s0, .sl .str s1, .i .i64 s2, .sl .str s3, .sl (.pair (.int .i64) (.pair (.int .i64) (.pair .str .unit))) s4, .sl (.pair (.int .i64) (.pair (.int .i64) .unit)) s5], .box [.i .i64 t]] =
    ((ifT (decide ((0 : Int) ≤ (0 : Int) ∧ (0 : Nat) ≤ l.length ∧ l.length ≤ maxI ∧ (↑l.length : Int) = (↑l.length : Int)))
  (ifB (decide (idx_good3V s0 s1 s2 s3 s4 s5 t (List.drop (0 : Nat) l) (0 : Nat) < (0 : Int)))
  (some
  (V.i IntKind.i64 (-1 : Int),
  [some
  (Blk.box
  [V.i IntKind.i64 s0, V.sl Cd.str s1, V.i IntKind.i64 s2, V.sl Cd.str s3,
  V.sl ((Cd.int IntKind.i64).pair ((Cd.int IntKind.i64).pair (Cd.str.pair Cd.unit))) s4,
  V.sl ((Cd.int IntKind.i64).pair ((Cd.int IntKind.i64).pair Cd.unit)) s5]),
  some (Blk.box [V.i IntKind.i64 t])]))
  (some
  (V.i IntKind.i64 (idx_good3V s0 s1 s2 s3 s4 s5 t (List.drop (0 : Nat) l) (0 : Nat)),
  [some
  (Blk.box
  [V.i IntKind.i64 s0, V.sl Cd.str s1, V.i IntKind.i64 s2, V.sl Cd.str s3,
  V.sl ((Cd.int IntKind.i64).pair ((Cd.int IntKind.i64).pair (Cd.str.pair Cd.unit))) s4,
  V.sl ((Cd.int IntKind.i64).pair ((Cd.int IntKind.i64).pair Cd.unit)) s5]),
  some (Blk.box [V.i IntKind.i64 t])])))) : _) := by kernel_rfl
  rw [e, ifT_true (decide_eq_true ⟨by omega, by omega, hx, rfl⟩), List.drop_zero]
  by_cases q : idx_good3V s0 s1 s2 s3 s4 s5 t l 0 < 0
  · rw [ifB_true (decide_eq_true q), idx_good3_neg s0 s1 s2 s3 s4 s5 t l 0 q]
  · rw [ifB_false (decide_eq_false q)]
theorem good3_idx : Contract Try.prog 147 (Ent.own idx_good3G).F := by
  refine fun_contract' (KnowsL.cons (enters_fn Try.func101 (by kernel_rfl) (by kernel_rfl)) good3 KnowsL.nil).knows (Λ := (look [(2, idx_good3E)])) Try.func147 (c := Try.f147.body.getD .skip) (by kernel_rfl) fun vs bs r h hv hb => ?_
  unfold Ent.F idx_good3G at h
  dsimp only at h
  split at h
  · rename_i l s0 s1 s2 s3 s4 s5 t
    have h' := h
    exact ⟨idx_good3_ok, (idx_good3_fun s0 s1 s2 s3 s4 s5 t l (hv (.sl (.pair (.int .i64) (.pair (.int .i64) .unit)) l) (by simp)).1).trans (by cases h'; rfl)⟩
  · cases h
theorem has_good3_fun (s0 : Int) (s1 : List (List UInt8)) (s2 : Int) (s3 : List (List UInt8)) (s4 : List (Int × Int × List UInt8 × Unit)) (s5 : List (Int × Int × Unit)) (t : Int) (l : List (Int × Int × Unit)) : funK Try.prog (look [(147, .own idx_good3G)]) (look []) Try.f100 [.sl (.pair (.int .i64) (.pair (.int .i64) .unit)) l, .fn 101 [] [.ptr 0 0, .ptr 1 0]] [.box [.i .i64 s0, .sl .str s1, .i .i64 s2, .sl .str s3, .sl (.pair (.int .i64) (.pair (.int .i64) (.pair .str .unit))) s4, .sl (.pair (.int .i64) (.pair (.int .i64) .unit)) s5], .box [.i .i64 t]] = some (.b (l.any (fun z : (Int × Int × Unit) => !decide ((1 ≤ z.1 ∧ z.1 ≤ s0) ∧ (0 ≤ z.2.1 ∧ z.2.1 ≤ t)))), [some (.box [.i .i64 s0, .sl .str s1, .i .i64 s2, .sl .str s3, .sl (.pair (.int .i64) (.pair (.int .i64) (.pair .str .unit))) s4, .sl (.pair (.int .i64) (.pair (.int .i64) .unit)) s5]), some (.box [.i .i64 t])]) := by
  have e : funK Try.prog (look [(147, .own idx_good3G)]) (look []) Try.f100 [.sl (.pair (.int .i64) (.pair (.int .i64) .unit)) l, .fn 101 [] [.ptr 0 0, .ptr 1 0]] [.box [.i .i64 s0, .sl .str s1, .i .i64 s2, .sl .str s3, .sl (.pair (.int .i64) (.pair (.int .i64) (.pair .str .unit))) s4, .sl (.pair (.int .i64) (.pair (.int .i64) .unit)) s5], .box [.i .i64 t]] =
    ((some
  (V.b (decide (idx_good3V s0 s1 s2 s3 s4 s5 t l (0 : Nat) ≥ (0 : Int))),
  [some
  (Blk.box
  [V.i IntKind.i64 s0, V.sl Cd.str s1, V.i IntKind.i64 s2, V.sl Cd.str s3,
  V.sl ((Cd.int IntKind.i64).pair ((Cd.int IntKind.i64).pair (Cd.str.pair Cd.unit))) s4,
  V.sl ((Cd.int IntKind.i64).pair ((Cd.int IntKind.i64).pair Cd.unit)) s5]),
  some (Blk.box [V.i IntKind.i64 t])])) : _) := by kernel_rfl
  rw [e]
  have hv := idx_good3_V s0 s1 s2 s3 s4 s5 t l 0
  skip
  have hd : decide (idx_good3V s0 s1 s2 s3 s4 s5 t l 0 ≥ 0) = l.any (fun z : (Int × Int × Unit) => !decide ((1 ≤ z.1 ∧ z.1 ≤ s0) ∧ (0 ≤ z.2.1 ∧ z.2.1 ≤ t))) := by
    show decide (0 ≤ idx_good3V s0 s1 s2 s3 s4 s5 t l 0) = _
    cases hq : l.any (fun z : (Int × Int × Unit) => !decide ((1 ≤ z.1 ∧ z.1 ≤ s0) ∧ (0 ≤ z.2.1 ∧ z.2.1 ≤ t))) with
    | true => exact decide_eq_true (hv ▸ hq)
    | false => exact decide_eq_false (fun h => by rw [hv, hq] at h; cases h)
  rw [hd]
theorem good3_has : Contract Try.prog 100 (Ent.own has_good3G).F := by
  refine fun_contract' (KnowsL.cons (enters_fn Try.func147 (by kernel_rfl) (by kernel_rfl)) good3_idx KnowsL.nil).knows (Λ := look []) Try.func100 (c := Try.f100.body.getD .skip) (by kernel_rfl) fun vs bs r h hv hb => ?_
  unfold Ent.F has_good3G at h
  dsimp only at h
  split at h
  · rename_i l s0 s1 s2 s3 s4 s5 t
    have h' := h
    exact ⟨loopsOk_nil _, (has_good3_fun s0 s1 s2 s3 s4 s5 t l).trans (by cases h'; rfl)⟩
  · cases h
end Go.Proofs.Ytjghbihlgfjebaa.Den
