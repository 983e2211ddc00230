/- What functions of the program do, by the machine: Que6. -/
import Derived.Test.YtjghbihlgfjebaaDQue5
import Derived.KernelRfl
import Derived.Test.YtjghbihlgfjebaaRows
namespace Go.Proofs.Ytjghbihlgfjebaa.Den
open Go.Proofs
set_option maxRecDepth 100000
def qdropG : List V → List Blk → Br (V × List (Option Blk))
  | [.ptr 0 0, .i .i64 x], [.box [.i .i64 c, .i .i64 r, .i .i64 n, .ref 1 p a, .ref 2 0 b, .ref 3 0 e], .row false n1 (.int .i64) w, .row false n2 (.int .i64) h, .row false n3 (.int .i64) d] => .need (decide (e = d.length ∧ d.length ≤ 1000000000 ∧ x ∉ d) && srt d) (.leaf (.i .i64 x, [some (.box [.i .i64 c, .i .i64 r, .i .i64 n, .ref 4 p a, .ref 5 0 b, .ref 6 0 (putL d x).length]), none, none, none, some (.row false none (.int .i64) w), some (.row false none (.int .i64) h), some (.row false none (.int .i64) (putL d x))]))
  | _, _ => .no
/-- Where those that wait begin in their row, and the row, behind an offer. -/
def Que.offP (q : Que) (p : Nat) : Nat := if (q.w.length : Int) < q.c then 0 else if q.r = 3 then p else 0
def Que.offR (q : Que) (l : List Int) : List Int := if (q.w.length : Int) < q.c then q.off.1.w else if q.r = 3 then l else q.off.1.w
def qofferG : List V → List Blk → Br (V × List (Option Blk))
  | [.ptr 0 0], [.box [.i .i64 c, .i .i64 r, .i .i64 n, .ref 1 p a, .ref 2 0 b, .ref 3 0 e], .row false n1 (.int .i64) w, .row false n2 (.int .i64) h, .row false n3 (.int .i64) d] => .need (decide (p + a = w.length ∧ b = h.length ∧ e = d.length) && goodQ c r n (w.drop p) h d) (.br (decide (n = 100)) (.leaf (.tup [.i .i64 0, .b false], [some (.box [.i .i64 c, .i .i64 r, .i .i64 n, .ref 4 p a, .ref 5 0 b, .ref 6 0 e]), none, none, none, some (.row false none (.int .i64) w), some (.row false none (.int .i64) h), some (.row false none (.int .i64) d)])) (.leaf (.tup [.i .i64 (Que.mk c r n (w.drop p) h d).off.2, .b true], [some (.box [.i .i64 (Que.mk c r n (w.drop p) h d).off.1.c, .i .i64 (Que.mk c r n (w.drop p) h d).off.1.r, .i .i64 (Que.mk c r n (w.drop p) h d).off.1.n, .ref 4 ((Que.mk c r n (w.drop p) h d).offP p) (Que.mk c r n (w.drop p) h d).off.1.w.length, .ref 5 0 (Que.mk c r n (w.drop p) h d).off.1.h.length, .ref 6 0 (Que.mk c r n (w.drop p) h d).off.1.d.length]), none, none, none, some (.row false none (.int .i64) ((Que.mk c r n (w.drop p) h d).offR w)), some (.row false none (.int .i64) (Que.mk c r n (w.drop p) h d).off.1.h), some (.row false none (.int .i64) (Que.mk c r n (w.drop p) h d).off.1.d)])))
  | _, _ => .no
def qhandG : List V → List Blk → Br (V × List (Option Blk))
  | [.ptr 0 0], [.box [.i .i64 c, .i .i64 r, .i .i64 n, .ref 1 p a, .ref 2 0 b, .ref 3 0 e], .row false n1 (.int .i64) w, .row false n2 (.int .i64) h, .row false n3 (.int .i64) d] => .need (decide (p + a = w.length ∧ b = h.length ∧ e = d.length) && goodQ c r n (w.drop p) h d) (.br (decide (a = 0)) (.leaf (.tup [.i .i64 0, .b false], [some (.box [.i .i64 c, .i .i64 r, .i .i64 n, .ref 4 p a, .ref 5 0 b, .ref 6 0 e]), none, none, none, some (.row false none (.int .i64) w), some (.row false none (.int .i64) h), some (.row false none (.int .i64) d)])) (.leaf (.tup [.i .i64 (Que.mk c r n (w.drop p) h d).hnd.2, .b true], [some (.box [.i .i64 (Que.mk c r n (w.drop p) h d).hnd.1.c, .i .i64 (Que.mk c r n (w.drop p) h d).hnd.1.r, .i .i64 (Que.mk c r n (w.drop p) h d).hnd.1.n, .ref 4 (p + 1) (Que.mk c r n (w.drop p) h d).hnd.1.w.length, .ref 5 0 (Que.mk c r n (w.drop p) h d).hnd.1.h.length, .ref 6 0 (Que.mk c r n (w.drop p) h d).hnd.1.d.length]), none, none, none, some (.row false none (.int .i64) w), some (.row false none (.int .i64) (Que.mk c r n (w.drop p) h d).hnd.1.h), some (.row false none (.int .i64) (Que.mk c r n (w.drop p) h d).hnd.1.d)])))
  | _, _ => .no
theorem qdrop_fun (x : Int) (c r n : Int) (p a b e : Nat) (n1 : Option Bool) (w : List Int) (n2 : Option Bool) (h : List Int) (n3 : Option Bool) (d : List Int) (hc : (decide (e = d.length ∧ d.length ≤ 1000000000 ∧ x ∉ d) && srt d) = true) : (funN Try.prog (look [(149, .rd1 bsG), (150, .own insIG)]) (look []) Try.f151 [.ptr 0 0, .i .i64 x] [.box [.i .i64 c, .i .i64 r, .i .i64 n, .ref 1 p a, .ref 2 0 b, .ref 3 0 e], .row false n1 (.int .i64) w, .row false n2 (.int .i64) h, .row false n3 (.int .i64) d]).map (canonR 4) = (.leaf (.i .i64 x, [some (.box [.i .i64 c, .i .i64 r, .i .i64 n, .ref 4 p a, .ref 5 0 b, .ref 6 0 (putL d x).length]), none, none, none, some (.row false none (.int .i64) w), some (.row false none (.int .i64) h), some (.row false none (.int .i64) (putL d x))]) : Br (V × List (Option Blk))).run := by
  have e : funN Try.prog (look [(149, .rd1 bsG), (150, .own insIG)]) (look []) Try.f151 [.ptr 0 0, .i .i64 x] [.box [.i .i64 c, .i .i64 r, .i .i64 n, .ref 1 p a, .ref 2 0 b, .ref 3 0 e], .row false n1 (.int .i64) w, .row false n2 (.int .i64) h, .row false n3 (.int .i64) d] = ((ifT
  (srt (List.take e (List.drop (0 : Nat) d)) &&
  decide ((List.take e (List.drop (0 : Nat) d)).length ≤ (1000000000 : Nat)))
  (ifT
  (decide
  ((0 : Int) ≤ (↑(cntLt (List.take e (List.drop (0 : Nat) d)) x) : Int) ∧
  (↑(cntLt (List.take e (List.drop (0 : Nat) d)) x) : Int) ≤ (↑e : Int) ∧ e ≤ (1000000000 : Nat)))
  (some
  (V.i IntKind.i64 x,
  [some
  (Blk.box
  [V.i IntKind.i64 c, V.i IntKind.i64 r, V.i IntKind.i64 n, V.ref (1 : Nat) p a,
  V.ref (2 : Nat) (0 : Nat) b, V.ref (4 : Nat) (0 : Nat) (e + (1 : Nat))]),
  some (Blk.row false none (Cd.int IntKind.i64) w), some (Blk.row false none (Cd.int IntKind.i64) h), none,
  some
  (Blk.row false none (Cd.int IntKind.i64)
  (insAt (List.take e (List.drop (0 : Nat) d))
  (↑(cntLt (List.take e (List.drop (0 : Nat) d)) x) : Int).toNat x))])))) : _) := by kernel_rfl
  rw [e]
  clear e
  rw [Bool.and_eq_true] at hc
  obtain ⟨h1, h2, h3⟩ := of_decide_eq_true hc.1
  subst h1
  have hs := hc.2
  have h4 := cntLt_le d x
  simp only [List.drop_zero, List.take_length, Int.toNat_natCast]
  rw [ifT_true (by rw [hs, Bool.true_and]; exact decide_eq_true h2), ifT_true (decide_eq_true ⟨by omega, by omega, h2⟩), ← putL_new h3, show d.length + 1 = (putL d x).length by rw [putL_new h3, insAt_length h4]]
  show _ = _
  kernel_rfl
theorem qdrop : Contract Try.prog 151 (Ent.own qdropG).F := by
  refine contract_weak (contract_canon (fun_contractN' (KnowsL.cons (enters_fn Try.func149 (by kernel_rfl) (by kernel_rfl)) bs (KnowsL.cons (enters_fn Try.func150 (by kernel_rfl) (by kernel_rfl)) insI KnowsL.nil)).knows (Λ := look []) Try.func151 (c := Try.f151.body.getD .skip) (F := fun vs bs => funN Try.prog (look [(149, .rd1 bsG), (150, .own insIG)]) (look []) Try.f151 vs bs) (by kernel_rfl) fun vs bs r h _ _ => ⟨loopsOk_nil _, h⟩)) fun vs bs r' hq => ?_
  unfold Ent.F qdropG at hq
  dsimp only at hq
  split at hq
  · rename_i x c r n p a b e n1 w n2 h n3 d
    obtain ⟨hc, hx⟩ := need_some hq
    exact (qdrop_fun x c r n p a b e n1 w n2 h n3 d hc).trans hx
  · cases hq
theorem qoffer_fun (c r n : Int) (p a b e : Nat) (n1 : Option Bool) (w : List Int) (n2 : Option Bool) (h : List Int) (n3 : Option Bool) (d : List Int) (hc : (decide (p + a = w.length ∧ b = h.length ∧ e = d.length) && goodQ c r n (w.drop p) h d) = true) : (funN Try.prog (look [(151, .own qdropG), (152, .own delIntG)]) (look []) Try.f108 [.ptr 0 0] [.box [.i .i64 c, .i .i64 r, .i .i64 n, .ref 1 p a, .ref 2 0 b, .ref 3 0 e], .row false n1 (.int .i64) w, .row false n2 (.int .i64) h, .row false n3 (.int .i64) d]).map (canonR 4) = (.br (decide (n = 100)) (.leaf (.tup [.i .i64 0, .b false], [some (.box [.i .i64 c, .i .i64 r, .i .i64 n, .ref 4 p a, .ref 5 0 b, .ref 6 0 e]), none, none, none, some (.row false none (.int .i64) w), some (.row false none (.int .i64) h), some (.row false none (.int .i64) d)])) (.leaf (.tup [.i .i64 (Que.mk c r n (w.drop p) h d).off.2, .b true], [some (.box [.i .i64 (Que.mk c r n (w.drop p) h d).off.1.c, .i .i64 (Que.mk c r n (w.drop p) h d).off.1.r, .i .i64 (Que.mk c r n (w.drop p) h d).off.1.n, .ref 4 ((Que.mk c r n (w.drop p) h d).offP p) (Que.mk c r n (w.drop p) h d).off.1.w.length, .ref 5 0 (Que.mk c r n (w.drop p) h d).off.1.h.length, .ref 6 0 (Que.mk c r n (w.drop p) h d).off.1.d.length]), none, none, none, some (.row false none (.int .i64) ((Que.mk c r n (w.drop p) h d).offR w)), some (.row false none (.int .i64) (Que.mk c r n (w.drop p) h d).off.1.h), some (.row false none (.int .i64) (Que.mk c r n (w.drop p) h d).off.1.d)])) : Br (V × List (Option Blk))).run := by
  have e : funN Try.prog (look [(151, .own qdropG), (152, .own delIntG)]) (look []) Try.f108 [.ptr 0 0] [.box [.i .i64 c, .i .i64 r, .i .i64 n, .ref 1 p a, .ref 2 0 b, .ref 3 0 e], .row false n1 (.int .i64) w, .row false n2 (.int .i64) h, .row false n3 (.int .i64) d] = ((ifB (n == (100 : Int))
  (some
  (V.tup [V.i IntKind.i64 (0 : Int), V.b false],
  [some
  (Blk.box
  [V.i IntKind.i64 c, V.i IntKind.i64 r, V.i IntKind.i64 n, V.ref (1 : Nat) p a, V.ref (2 : Nat) (0 : Nat) b,
  V.ref (3 : Nat) (0 : Nat) e]),
  some (Blk.row false none (Cd.int IntKind.i64) w), some (Blk.row false none (Cd.int IntKind.i64) h),
  some (Blk.row false none (Cd.int IntKind.i64) d)]))
  (ifB (decide ((↑a : Int) < c))
  (ifT (decide ((a + (1 : Nat)) * (8 : Nat) ≤ (140737488355328 : Nat)) && decide (a + (1 : Nat) ≤ maxI))
  (some
  (V.tup [V.i IntKind.i64 (-1 : Int), V.b true],
  [some
  (Blk.box
  [V.i IntKind.i64 c, V.i IntKind.i64 r, V.i IntKind.i64 (IntKind.i64.wrap (n + (1 : Int))),
  V.ref (4 : Nat) (0 : Nat) (a + (1 : Nat)), V.ref (2 : Nat) (0 : Nat) b, V.ref (3 : Nat) (0 : Nat) e]),
  none, some (Blk.row false none (Cd.int IntKind.i64) h), some (Blk.row false none (Cd.int IntKind.i64) d),
  some
  (Blk.row false none (Cd.int IntKind.i64)
  (List.take a (List.drop p w) ++ n :: nilT (Cd.int IntKind.i64).den))])))
  (ifB (r == (3 : Int))
  (ifT (decide (e = d.length ∧ d.length ≤ (1000000000 : Nat) ∧ ¬n ∈ d) && srt d)
  (some
  (V.tup [V.i IntKind.i64 n, V.b true],
  [some
  (Blk.box
  [V.i IntKind.i64 c, V.i IntKind.i64 r, V.i IntKind.i64 (IntKind.i64.wrap (n + (1 : Int))),
  V.ref (4 : Nat) p a, V.ref (5 : Nat) (0 : Nat) b, V.ref (6 : Nat) (0 : Nat) (putL d n).length]),
  none, none, none, some (Blk.row false none (Cd.int IntKind.i64) w),
  some (Blk.row false none (Cd.int IntKind.i64) h),
  some (Blk.row false none (Cd.int IntKind.i64) (putL d n))])))
  (ifB (r == (2 : Int))
  (ifT
  (decide ((0 : Int) ≤ IntKind.i64.wrap ((↑a : Int) - (1 : Int))) &&
  decide (IntKind.i64.wrap ((↑a : Int) - (1 : Int)) < (↑a : Int)))
  (ifSome w[p + (IntKind.i64.wrap ((↑a : Int) - (1 : Int))).toNat]? fun z =>
  ifT
  (decide
  ((0 : Int) ≤ IntKind.i64.wrap ((↑a : Int) - (1 : Int)) ∧
  IntKind.i64.wrap (IntKind.i64.wrap ((↑a : Int) - (1 : Int)) + (1 : Int)) =
  IntKind.i64.wrap ((↑a : Int) - (1 : Int)) + (1 : Int) ∧
  IntKind.i64.wrap (IntKind.i64.wrap ((↑a : Int) - (1 : Int)) + (1 : Int)) ≤ (↑a : Int) ∧
  p + a ≤ w.length ∧ a ≤ maxI))
  (ifT
  (decide ((a - (1 : Nat) + (1 : Nat)) * (8 : Nat) ≤ (140737488355328 : Nat)) &&
  decide (a - (1 : Nat) + (1 : Nat) ≤ maxI))
  (ifT (decide (e = d.length ∧ d.length ≤ (1000000000 : Nat) ∧ ¬z ∈ d) && srt d)
  (some
  (V.tup [V.i IntKind.i64 z, V.b true],
  [some
  (Blk.box
  [V.i IntKind.i64 c, V.i IntKind.i64 r, V.i IntKind.i64 (IntKind.i64.wrap (n + (1 : Int))),
  V.ref (4 : Nat) (0 : Nat) (a - (1 : Nat) + (1 : Nat)), V.ref (5 : Nat) (0 : Nat) b,
  V.ref (6 : Nat) (0 : Nat) (putL d z).length]),
  none, none, none,
  some
  (Blk.row false none (Cd.int IntKind.i64)
  (List.take (a - (1 : Nat))
  (List.drop (0 : Nat)
  ((List.take a (List.drop p w)).eraseIdx
  (IntKind.i64.wrap ((↑a : Int) - (1 : Int))).toNat)) ++
  n :: nilT (Cd.int IntKind.i64).den)),
  some (Blk.row false none (Cd.int IntKind.i64) h),
  some (Blk.row false none (Cd.int IntKind.i64) (putL d z))]))))))
  (ifT (decide ((0 : Int) ≤ (0 : Int)) && decide ((0 : Int) < (↑a : Int)))
  (ifSome w[p + (0 : Nat)]? fun z =>
  ifT
  (decide
  ((0 : Int) ≤ (0 : Int) ∧
  IntKind.i64.wrap (1 : Int) = (1 : Int) ∧
  IntKind.i64.wrap (1 : Int) ≤ (↑a : Int) ∧ p + a ≤ w.length ∧ a ≤ maxI))
  (ifT
  (decide ((a - (1 : Nat) + (1 : Nat)) * (8 : Nat) ≤ (140737488355328 : Nat)) &&
  decide (a - (1 : Nat) + (1 : Nat) ≤ maxI))
  (ifT (decide (e = d.length ∧ d.length ≤ (1000000000 : Nat) ∧ ¬z ∈ d) && srt d)
  (some
  (V.tup [V.i IntKind.i64 z, V.b true],
  [some
  (Blk.box
  [V.i IntKind.i64 c, V.i IntKind.i64 r, V.i IntKind.i64 (IntKind.i64.wrap (n + (1 : Int))),
  V.ref (4 : Nat) (0 : Nat) (a - (1 : Nat) + (1 : Nat)), V.ref (5 : Nat) (0 : Nat) b,
  V.ref (6 : Nat) (0 : Nat) (putL d z).length]),
  none, none, none,
  some
  (Blk.row false none (Cd.int IntKind.i64)
  (List.take (a - (1 : Nat))
  (List.drop (0 : Nat) ((List.take a (List.drop p w)).eraseIdx (0 : Nat))) ++
  n :: nilT (Cd.int IntKind.i64).den)),
  some (Blk.row false none (Cd.int IntKind.i64) h),
  some (Blk.row false none (Cd.int IntKind.i64) (putL d z))])))))))))) : _) := by kernel_rfl
  rw [e]
  clear e
  rw [Bool.and_eq_true] at hc
  obtain ⟨⟨ha, rfl, rfl⟩, hg⟩ : (p + a = w.length ∧ b = h.length ∧ e = d.length) ∧ _ := ⟨of_decide_eq_true hc.1, hc.2⟩
  have f : (Que.mk c r n (w.drop p) h d).Fine := Que.fine hg
  obtain ⟨W, hW⟩ : ∃ W, W = w.drop p := ⟨_, rfl⟩
  have hl : a = W.length := by rw [hW, List.length_drop]; omega
  have ht : List.take a W = W := List.take_of_length_le (by omega)
  have hx : ∀ i, w[p + i]? = W[i]? := fun i => by rw [hW, List.getElem?_drop]
  rw [← hW] at f ⊢
  have hM : maxI = 9223372036854775807 := rfl
  have f1 := f.c; have f2 := f.r; have f3 := f.n; have f4 := f.wc; have f5 := f.sum; have f6 := f.srt_h; have f7 := f.srt_d; have f8 := f.new
  have f9 : ∀ z ∈ W, z ∉ d := fun z hz => f.no_d hz
  have f10 : ∀ z ∈ W, z ∉ h := fun z hz => f.no_h hz
  dsimp only at f1 f2 f3 f4 f5 f6 f7 f8
  have w1 : IntKind.i64.wrap (n + 1) = n + 1 := wrap_id (by omega) (by omega)
  simp only [ht, hx]
  subst hl
  clear ht hx hc hg
  by_cases q1 : n = 100
  · rw [ifB_true (by simp [q1]), br_t (decide_eq_true q1)]
    show _ = _
    kernel_rfl
  rw [ifB_false (by simp [q1]), br_f (decide_eq_false q1)]
  unfold Que.off Que.offP Que.offR Que.off
  dsimp only
  by_cases q2 : (W.length : Int) < c
  · rw [ifB_true (decide_eq_true q2)]
    simp only [if_pos q2]
    rw [ifT_true (by simp only [Bool.and_eq_true, decide_eq_true_eq]; omega), w1]
    simp only [nilT_eq]
    rw [show W.length + 1 = (W ++ [n]).length by simp]
    show _ = _
    kernel_rfl
  rw [ifB_false (decide_eq_false q2)]
  simp only [if_neg q2]
  have hpos : 0 < W.length := by omega
  by_cases q3 : r = 3
  · rw [ifB_true (by simp [q3])]
    simp only [if_pos q3]
    rw [ifT_true (by rw [f7, Bool.and_true]; exact decide_eq_true ⟨by trivial, by omega, fun hc => f8 (by simp [hc])⟩), w1]
    show _ = _
    kernel_rfl
  simp only [if_neg q3]
  rw [ifB_false (by simp [q3])]
  have w2 : IntKind.i64.wrap ((W.length : Int) - 1) = ((W.length - 1 : Nat) : Int) := by rw [wrap_id (by omega) (by omega)]; omega
  have w3 : IntKind.i64.wrap (((W.length - 1 : Nat) : Int) + 1) = ((W.length - 1 : Nat) : Int) + 1 := wrap_id (by omega) (by omega)
  have w4 : IntKind.i64.wrap 1 = 1 := rfl
  by_cases q4 : r = 1
  · simp only [if_pos q4]
    rw [ifB_false (by simp [q4])]
    match W, hpos with
    | g :: w', _ =>
    have e1 : List.take ((g :: w').length - 1) w' = w' := List.take_of_length_le (by simp)
    have hgd : g ∉ d := f9 g (by simp)
    have e2 : (g :: w').length - 1 = w'.length := by simp
    simp only [List.length_cons] at f4 f5 q2
    rw [ifT_true (by simp only [Bool.and_eq_true, decide_eq_true_eq, List.length_cons]; omega), List.getElem?_cons_zero, ifSome_s]
    simp only [w4, List.eraseIdx_cons_zero, List.drop_zero, nilT_eq, List.drop_succ_cons, List.getD_cons_zero, e1, e2, List.take_length]
    rw [ifT_true (decide_eq_true ⟨by omega, by trivial, by simp only [List.length_cons]; omega, Nat.le_of_eq ha, by simp only [List.length_cons]; omega⟩), ifT_true (by simp only [Bool.and_eq_true, decide_eq_true_eq]; omega), ifT_true (by rw [f7, Bool.and_true]; exact decide_eq_true ⟨by trivial, by omega, hgd⟩), w1, show w'.length + 1 = (w' ++ [n]).length by simp]
    show _ = _
    kernel_rfl
  · have q5 : r = 2 := by omega
    have h1 : W.length - 1 < W.length := by omega
    have e1 : W.getD (W.length - 1) 0 = W[W.length - 1] := by simp [List.getD, h1]
    have e2 : (List.take (W.length - 1) W).length = W.length - 1 := by rw [List.length_take]; omega
    have e3 : W.eraseIdx (W.length - 1) = List.take (W.length - 1) W := by
      rw [List.eraseIdx_eq_take_drop_succ, List.drop_of_length_le (by omega), List.append_nil]
    have e4 : List.take (W.length - 1) (List.take (W.length - 1) W) = List.take (W.length - 1) W := by rw [List.take_take, Nat.min_self]
    have hgd : W[W.length - 1] ∉ d := f9 _ (List.getElem_mem h1)
    simp only [if_neg q4]
    rw [ifB_true (by simp [q5])]
    simp only [w2, w3, Int.toNat_natCast, List.drop_zero, List.getElem?_eq_getElem h1, ifSome_s, e1, e3, e4, nilT_eq]
    rw [ifT_true (by simp only [Bool.and_eq_true, decide_eq_true_eq]; omega), ifT_true (decide_eq_true ⟨by omega, by trivial, by omega, Nat.le_of_eq ha, by omega⟩), ifT_true (by simp only [Bool.and_eq_true, decide_eq_true_eq]; omega), ifT_true (by rw [f7, Bool.and_true]; exact decide_eq_true ⟨by trivial, by omega, hgd⟩), w1, show W.length - 1 + 1 = (List.take (W.length - 1) W ++ [n]).length by simp <;> omega]
    show _ = _
    kernel_rfl
theorem qoffer : Contract Try.prog 108 (Ent.own qofferG).F := by
  refine contract_weak (contract_canon (fun_contractN' (KnowsL.cons (enters_fn Try.func151 (by kernel_rfl) (by kernel_rfl)) qdrop (KnowsL.cons (enters_fn Try.func152 (by kernel_rfl) (by kernel_rfl)) delInt KnowsL.nil)).knows (Λ := look []) Try.func108 (c := Try.f108.body.getD .skip) (F := fun vs bs => funN Try.prog (look [(151, .own qdropG), (152, .own delIntG)]) (look []) Try.f108 vs bs) (by kernel_rfl) fun vs bs r h _ _ => ⟨loopsOk_nil _, h⟩)) fun vs bs r' hq => ?_
  unfold Ent.F qofferG at hq
  dsimp only at hq
  split at hq
  · rename_i c r n p a b e n1 w n2 h n3 d
    obtain ⟨hc, hx⟩ := need_some hq
    exact (qoffer_fun c r n p a b e n1 w n2 h n3 d hc).trans hx
  · cases hq
theorem qhand_fun (c r n : Int) (p a b e : Nat) (n1 : Option Bool) (w : List Int) (n2 : Option Bool) (h : List Int) (n3 : Option Bool) (d : List Int) (hc : (decide (p + a = w.length ∧ b = h.length ∧ e = d.length) && goodQ c r n (w.drop p) h d) = true) : (funN Try.prog (look [(149, .rd1 bsG), (150, .own insIG)]) (look []) Try.f107 [.ptr 0 0] [.box [.i .i64 c, .i .i64 r, .i .i64 n, .ref 1 p a, .ref 2 0 b, .ref 3 0 e], .row false n1 (.int .i64) w, .row false n2 (.int .i64) h, .row false n3 (.int .i64) d]).map (canonR 4) = (.br (decide (a = 0)) (.leaf (.tup [.i .i64 0, .b false], [some (.box [.i .i64 c, .i .i64 r, .i .i64 n, .ref 4 p a, .ref 5 0 b, .ref 6 0 e]), none, none, none, some (.row false none (.int .i64) w), some (.row false none (.int .i64) h), some (.row false none (.int .i64) d)])) (.leaf (.tup [.i .i64 (Que.mk c r n (w.drop p) h d).hnd.2, .b true], [some (.box [.i .i64 (Que.mk c r n (w.drop p) h d).hnd.1.c, .i .i64 (Que.mk c r n (w.drop p) h d).hnd.1.r, .i .i64 (Que.mk c r n (w.drop p) h d).hnd.1.n, .ref 4 (p + 1) (Que.mk c r n (w.drop p) h d).hnd.1.w.length, .ref 5 0 (Que.mk c r n (w.drop p) h d).hnd.1.h.length, .ref 6 0 (Que.mk c r n (w.drop p) h d).hnd.1.d.length]), none, none, none, some (.row false none (.int .i64) w), some (.row false none (.int .i64) (Que.mk c r n (w.drop p) h d).hnd.1.h), some (.row false none (.int .i64) (Que.mk c r n (w.drop p) h d).hnd.1.d)])) : Br (V × List (Option Blk))).run := by
  have e : funN Try.prog (look [(149, .rd1 bsG), (150, .own insIG)]) (look []) Try.f107 [.ptr 0 0] [.box [.i .i64 c, .i .i64 r, .i .i64 n, .ref 1 p a, .ref 2 0 b, .ref 3 0 e], .row false n1 (.int .i64) w, .row false n2 (.int .i64) h, .row false n3 (.int .i64) d] = ((ifB ((↑a : Int) == (0 : Int))
  (some
  (V.tup [V.i IntKind.i64 (0 : Int), V.b false],
  [some
  (Blk.box
  [V.i IntKind.i64 c, V.i IntKind.i64 r, V.i IntKind.i64 n, V.ref (1 : Nat) p a, V.ref (2 : Nat) (0 : Nat) b,
  V.ref (3 : Nat) (0 : Nat) e]),
  some (Blk.row false none (Cd.int IntKind.i64) w), some (Blk.row false none (Cd.int IntKind.i64) h),
  some (Blk.row false none (Cd.int IntKind.i64) d)]))
  (ifT (decide ((0 : Int) ≤ (0 : Int)) && decide ((0 : Int) < (↑a : Int)))
  (ifSome w[p + (0 : Nat)]? fun z =>
  ifT (decide ((0 : Int) ≤ (1 : Int)) && decide ((1 : Int) ≤ (↑a : Int)))
  (ifT
  (srt (List.take b (List.drop (0 : Nat) h)) &&
  decide ((List.take b (List.drop (0 : Nat) h)).length ≤ (1000000000 : Nat)))
  (ifT
  (decide
  ((0 : Int) ≤ (↑(cntLt (List.take b (List.drop (0 : Nat) h)) z) : Int) ∧
  (↑(cntLt (List.take b (List.drop (0 : Nat) h)) z) : Int) ≤ (↑b : Int) ∧ b ≤ (1000000000 : Nat)))
  (some
  (V.tup [V.i IntKind.i64 z, V.b true],
  [some
  (Blk.box
  [V.i IntKind.i64 c, V.i IntKind.i64 r, V.i IntKind.i64 n,
  V.ref (1 : Nat) (p + (1 : Nat)) (a - (1 : Nat)), V.ref (4 : Nat) (0 : Nat) (b + (1 : Nat)),
  V.ref (3 : Nat) (0 : Nat) e]),
  some (Blk.row false none (Cd.int IntKind.i64) w), none,
  some (Blk.row false none (Cd.int IntKind.i64) d),
  some
  (Blk.row false none (Cd.int IntKind.i64)
  (insAt (List.take b (List.drop (0 : Nat) h))
  (↑(cntLt (List.take b (List.drop (0 : Nat) h)) z) : Int).toNat z))]))))))) : _) := by kernel_rfl
  rw [e]
  clear e
  rw [Bool.and_eq_true] at hc
  obtain ⟨⟨ha, rfl, rfl⟩, hg⟩ : (p + a = w.length ∧ b = h.length ∧ e = d.length) ∧ _ := ⟨of_decide_eq_true hc.1, hc.2⟩
  have f : (Que.mk c r n (w.drop p) h d).Fine := Que.fine hg
  obtain ⟨W, hW⟩ : ∃ W, W = w.drop p := ⟨_, rfl⟩
  have hl : a = W.length := by rw [hW, List.length_drop]; omega
  have ht : List.take a W = W := List.take_of_length_le (by omega)
  have hx : ∀ i, w[p + i]? = W[i]? := fun i => by rw [hW, List.getElem?_drop]
  rw [← hW] at f ⊢
  have hM : maxI = 9223372036854775807 := rfl
  have f1 := f.c; have f2 := f.r; have f3 := f.n; have f4 := f.wc; have f5 := f.sum; have f6 := f.srt_h; have f7 := f.srt_d; have f8 := f.new
  have f9 : ∀ z ∈ W, z ∉ d := fun z hz => f.no_d hz
  have f10 : ∀ z ∈ W, z ∉ h := fun z hz => f.no_h hz
  dsimp only at f1 f2 f3 f4 f5 f6 f7 f8
  have w1 : IntKind.i64.wrap (n + 1) = n + 1 := wrap_id (by omega) (by omega)
  simp only [ht, hx]
  subst hl
  clear ht hx hc hg
  by_cases q1 : W.length = 0
  · rw [ifB_true (by simp [q1]), br_t (decide_eq_true q1)]
    show _ = _
    kernel_rfl
  rw [ifB_false (beq_false_of_ne (by omega)), br_f (decide_eq_false q1)]
  unfold Que.hnd
  dsimp only
  have h4 := cntLt_le h
  match W, q1 with
  | g :: w', _ =>
  have hgh : g ∉ h := f10 g (by simp)
  have e2 : (g :: w').length - 1 = w'.length := by simp
  simp only [List.length_cons] at f4 f5
  rw [ifT_true (by simp only [Bool.and_eq_true, decide_eq_true_eq, List.length_cons]; omega), List.getElem?_cons_zero, ifSome_s]
  simp only [List.drop_zero, List.take_length, Int.toNat_natCast, List.drop_succ_cons, List.getD_cons_zero, e2]
  have h5 := h4 g
  rw [ifT_true (by simp only [Bool.and_eq_true, decide_eq_true_eq, List.length_cons]; omega), ifT_true (by rw [f6, Bool.true_and]; exact decide_eq_true (by omega)), ifT_true (decide_eq_true ⟨by omega, by omega, by omega⟩), ← putL_new hgh, show h.length + 1 = (putL h g).length by rw [putL_new hgh, insAt_length h5]]
  show _ = _
  kernel_rfl
theorem qhand : Contract Try.prog 107 (Ent.own qhandG).F := by
  refine contract_weak (contract_canon (fun_contractN' (KnowsL.cons (enters_fn Try.func149 (by kernel_rfl) (by kernel_rfl)) bs (KnowsL.cons (enters_fn Try.func150 (by kernel_rfl) (by kernel_rfl)) insI KnowsL.nil)).knows (Λ := look []) Try.func107 (c := Try.f107.body.getD .skip) (F := fun vs bs => funN Try.prog (look [(149, .rd1 bsG), (150, .own insIG)]) (look []) Try.f107 vs bs) (by kernel_rfl) fun vs bs r h _ _ => ⟨loopsOk_nil _, h⟩)) fun vs bs r' hq => ?_
  unfold Ent.F qhandG at hq
  dsimp only at hq
  split at hq
  · rename_i c r n p a b e n1 w n2 h n3 d
    obtain ⟨hc, hx⟩ := need_some hq
    exact (qhand_fun c r n p a b e n1 w n2 h n3 d hc).trans hx
  · cases hq
end Go.Proofs.Ytjghbihlgfjebaa.Den
