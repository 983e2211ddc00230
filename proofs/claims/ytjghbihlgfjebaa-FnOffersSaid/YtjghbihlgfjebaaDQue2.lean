/- What functions of the program do, by the machine: Que2. -/
import Derived.Test.YtjghbihlgfjebaaDQue1
import Derived.KernelRfl
import Derived.Test.YtjghbihlgfjebaaRows
namespace Go.Proofs.Ytjghbihlgfjebaa.Den
open Go.Proofs
set_option maxRecDepth 100000
def putG0 : List V → List Blk → Br (V × List (Option Blk))
  | [.ref 0 0 m, .i .i64 x], [.row false _ (.int .i64) l] => .need (decide (m = l.length ∧ l.length ≤ 1000000000) && srt l) (.br (decide (x ∈ l)) (.leaf (.ref 0 0 m, [some (.row false none (.int .i64) l)])) (.leaf (.ref 1 0 (insAt l (cntLt l x) x).length, [some (.row false none (.int .i64) l), some (.row false none (.int .i64) (insAt l (cntLt l x) x))])))
  | _, _ => .no
def putG : List V → List Blk → Br (V × List (Option Blk))
  | [.ref 0 0 m, .i .i64 x], [.row false _ (.int .i64) l] => .need (decide (m = l.length ∧ l.length ≤ 1000000000) && srt l) (.leaf (.ref 1 0 (putL l x).length, [none, some (.row false none (.int .i64) (putL l x))]))
  | _, _ => .no
theorem put_round (l : List Int) (x k : Int) (m : Nat) : roundK Try.prog (look []) (look [(2, putE)]) 1 (body Try.f153 0) putE ([.ref 0 0 m, .i .i64 x, .i .i64 k], [some (.row false none (.int .i64) l)]) =
  ((ifB (decide (k < (↑m : Int)))
  (ifT (decide ((0 : Int) ≤ k) && decide (k < (↑m : Int)))
  (ifSome l[(0 : Nat) + k.toNat]? fun z =>
  ifB (decide (z < x))
  (some
  (Ex.normal,
  [V.ref (0 : Nat) (0 : Nat) m, V.i IntKind.i64 x, V.i IntKind.i64 (IntKind.i64.wrap (k + (1 : Int)))],
  [some (Blk.row false none (Cd.int IntKind.i64) l)]))
  (some
  (Ex.exit (0 : Nat), [V.ref (0 : Nat) (0 : Nat) m, V.i IntKind.i64 x, V.i IntKind.i64 k],
  [some (Blk.row false none (Cd.int IntKind.i64) l)]))))
  (some
  (Ex.exit (0 : Nat), [V.ref (0 : Nat) (0 : Nat) m, V.i IntKind.i64 x, V.i IntKind.i64 k],
  [some (Blk.row false none (Cd.int IntKind.i64) l)]))) : _) := by kernel_rfl
theorem put_loop {l : List Int} {x : Int} (hs : srt l = true) (hl : l.length ≤ 1000000000) : ∀ (f k : Nat), cntLt l x - k < f → k ≤ cntLt l x →
    Runs Try.prog (look []) (look [(2, putE)]) 1 (body Try.f153 0) putE ([.ref 0 0 l.length, .i .i64 x, .i .i64 k], [some (.row false none (.int .i64) l)]) (.exit 0) ([.ref 0 0 l.length, .i .i64 x, .i .i64 (cntLt l x)], [some (.row false none (.int .i64) l)])
  | 0, _, h, _ => by omega
  | f + 1, k, h, h1 => by
    have hr := put_round l x k l.length
    have h2 := cntLt_le l x
    rw [Int.toNat_natCast, Nat.zero_add, wrap_succ (n := k) (by unfold maxI; omega)] at hr
    by_cases hk : k < cntLt l x
    · have hkl : k < l.length := by omega
      have hz := cntLt_lt hk (List.getElem?_eq_getElem hkl)
      rw [ifB_true (decide_eq_true (by omega)), ifT_true (by simp only [Bool.and_eq_true, decide_eq_true_eq]; omega), List.getElem?_eq_getElem hkl, ifSome_s, ifB_true (decide_eq_true hz)] at hr
      exact .step _ _ _ _ hr (put_loop hs hl f (k + 1) (by omega) (by omega))
    · have hk2 : k = cntLt l x := by omega
      subst hk2
      by_cases hkl : cntLt l x < l.length
      · have hz := cntLt_ge hs (List.getElem?_eq_getElem hkl) (Nat.le_refl _)
        rw [ifB_true (decide_eq_true (by omega)), ifT_true (by simp only [Bool.and_eq_true, decide_eq_true_eq]; omega), List.getElem?_eq_getElem hkl, ifSome_s, ifB_false (decide_eq_false (by omega))] at hr
        exact .stop _ _ _ hr (by simp)
      · rw [ifB_false (decide_eq_false (by omega))] at hr
        exact .stop _ _ _ hr (by simp)
theorem put_ok : LoopsOk Try.prog (look []) (look [(2, putE)]) 1 (Try.f153.body.getD .skip) := by
  refine loopsOk_one (a := body Try.f153 0) (by kernel_rfl) fun d e d' h => ?_
  unfold putE at h
  dsimp only at h
  split at h
  · rename_i m x k l
    obtain ⟨hc, hx⟩ := need_some h
    clear h
    rw [Bool.and_eq_true] at hc
    obtain ⟨h0, h1, h2, h3⟩ := of_decide_eq_true hc.1
    subst h0
    obtain ⟨k, rfl⟩ := Int.eq_ofNat_of_zero_le h1
    cases leaf_some hx
    exact put_loop hc.2 h3 _ k (Nat.lt_succ_self _) (by omega)
  · cases h
theorem put_fun (l : List Int) (x : Int) (m : Nat) (nl : Option Bool) (hm : m = l.length) (hl : l.length ≤ 1000000000) (hs : srt l = true) : funN Try.prog (look []) (look [(2, putE)]) Try.f153 [.ref 0 0 m, .i .i64 x] [.row false nl (.int .i64) l] = (putG0 [.ref 0 0 m, .i .i64 x] [.row false nl (.int .i64) l]).run := by
  have e : funN Try.prog (look []) (look [(2, putE)]) Try.f153 [.ref 0 0 m, .i .i64 x] [.row false nl (.int .i64) l] = ((ifT
  (decide (m = l.length ∧ (0 : Int) ≤ (0 : Int) ∧ (0 : Int) ≤ (↑(cntLt l x) : Int) ∧ l.length ≤ (1000000000 : Nat)) &&
  srt l)
  (ifB (decide ((↑(cntLt l x) : Int) < (↑m : Int)))
  (ifT (decide ((0 : Int) ≤ (↑(cntLt l x) : Int)) && decide ((↑(cntLt l x) : Int) < (↑m : Int)))
  (ifSome l[(0 : Nat) + (↑(cntLt l x) : Int).toNat]? fun z =>
  ifB (z == x) (some (V.ref (0 : Nat) (0 : Nat) m, [some (Blk.row false none (Cd.int IntKind.i64) l)]))
  (ifT
  (decide ((0 : Int) ≤ (↑(cntLt l x) : Int)) &&
  decide ((↑(cntLt l x) : Int) ≤ (↑(l.length - (0 : Nat)) : Int)))
  (ifT
  (decide
  (((0 : Nat) + (List.take ((↑(cntLt l x) : Int).toNat - (0 : Nat)) (List.drop (0 : Nat) l)).length) *
  (8 : Nat) ≤
  (140737488355328 : Nat)) &&
  decide
  ((0 : Nat) + (List.take ((↑(cntLt l x) : Int).toNat - (0 : Nat)) (List.drop (0 : Nat) l)).length ≤
  maxI))
  (ifT
  (decide
  (((0 : Nat) + (List.take ((↑(cntLt l x) : Int).toNat - (0 : Nat)) (List.drop (0 : Nat) l)).length +
  (1 : Nat)) *
  (8 : Nat) ≤
  (140737488355328 : Nat)) &&
  decide
  ((0 : Nat) + (List.take ((↑(cntLt l x) : Int).toNat - (0 : Nat)) (List.drop (0 : Nat) l)).length +
  (1 : Nat) ≤
  maxI))
  (ifT (decide ((0 : Int) ≤ (↑(cntLt l x) : Int)) && decide ((↑(cntLt l x) : Int) ≤ (↑m : Int)))
  (ifT
  (decide
  (((0 : Nat) +
  (List.take ((↑(cntLt l x) : Int).toNat - (0 : Nat)) (List.drop (0 : Nat) l)).length +
  (1 : Nat) +
  (List.take (m - (↑(cntLt l x) : Int).toNat)
  (List.drop ((0 : Nat) + (↑(cntLt l x) : Int).toNat) l)).length) *
  (8 : Nat) ≤
  (140737488355328 : Nat)) &&
  decide
  ((0 : Nat) +
  (List.take ((↑(cntLt l x) : Int).toNat - (0 : Nat)) (List.drop (0 : Nat) l)).length +
  (1 : Nat) +
  (List.take (m - (↑(cntLt l x) : Int).toNat)
  (List.drop ((0 : Nat) + (↑(cntLt l x) : Int).toNat) l)).length ≤
  maxI))
  (some
  (V.ref (1 : Nat) (0 : Nat)
  ((0 : Nat) +
  (List.take ((↑(cntLt l x) : Int).toNat - (0 : Nat)) (List.drop (0 : Nat) l)).length +
  (1 : Nat) +
  (List.take (m - (↑(cntLt l x) : Int).toNat)
  (List.drop ((0 : Nat) + (↑(cntLt l x) : Int).toNat) l)).length),
  [some (Blk.row false none (Cd.int IntKind.i64) l),
  some
  (Blk.row false none (Cd.int IntKind.i64)
  (List.take
  ((0 : Nat) +
  (List.take ((↑(cntLt l x) : Int).toNat - (0 : Nat))
  (List.drop (0 : Nat) l)).length +
  (1 : Nat))
  (List.drop (0 : Nat)
  (List.take
  ((0 : Nat) +
  (List.take ((↑(cntLt l x) : Int).toNat - (0 : Nat))
  (List.drop (0 : Nat) l)).length)
  (List.drop (0 : Nat)
  (nilT (Cd.int IntKind.i64).den ++
  List.take ((↑(cntLt l x) : Int).toNat - (0 : Nat))
  (List.drop (0 : Nat) l))) ++
  x :: nilT (Cd.int IntKind.i64).den)) ++
  List.take (m - (↑(cntLt l x) : Int).toNat)
  (List.drop ((0 : Nat) + (↑(cntLt l x) : Int).toNat) l)))])))))))))
  (ifT (decide ((0 : Int) ≤ (↑(cntLt l x) : Int)) && decide ((↑(cntLt l x) : Int) ≤ (↑(l.length - (0 : Nat)) : Int)))
  (ifT
  (decide
  (((0 : Nat) + (List.take ((↑(cntLt l x) : Int).toNat - (0 : Nat)) (List.drop (0 : Nat) l)).length) *
  (8 : Nat) ≤
  (140737488355328 : Nat)) &&
  decide
  ((0 : Nat) + (List.take ((↑(cntLt l x) : Int).toNat - (0 : Nat)) (List.drop (0 : Nat) l)).length ≤ maxI))
  (ifT
  (decide
  (((0 : Nat) + (List.take ((↑(cntLt l x) : Int).toNat - (0 : Nat)) (List.drop (0 : Nat) l)).length +
  (1 : Nat)) *
  (8 : Nat) ≤
  (140737488355328 : Nat)) &&
  decide
  ((0 : Nat) + (List.take ((↑(cntLt l x) : Int).toNat - (0 : Nat)) (List.drop (0 : Nat) l)).length +
  (1 : Nat) ≤
  maxI))
  (ifT (decide ((0 : Int) ≤ (↑(cntLt l x) : Int)) && decide ((↑(cntLt l x) : Int) ≤ (↑m : Int)))
  (ifT
  (decide
  (((0 : Nat) + (List.take ((↑(cntLt l x) : Int).toNat - (0 : Nat)) (List.drop (0 : Nat) l)).length +
  (1 : Nat) +
  (List.take (m - (↑(cntLt l x) : Int).toNat)
  (List.drop ((0 : Nat) + (↑(cntLt l x) : Int).toNat) l)).length) *
  (8 : Nat) ≤
  (140737488355328 : Nat)) &&
  decide
  ((0 : Nat) + (List.take ((↑(cntLt l x) : Int).toNat - (0 : Nat)) (List.drop (0 : Nat) l)).length +
  (1 : Nat) +
  (List.take (m - (↑(cntLt l x) : Int).toNat)
  (List.drop ((0 : Nat) + (↑(cntLt l x) : Int).toNat) l)).length ≤
  maxI))
  (some
  (V.ref (1 : Nat) (0 : Nat)
  ((0 : Nat) + (List.take ((↑(cntLt l x) : Int).toNat - (0 : Nat)) (List.drop (0 : Nat) l)).length +
  (1 : Nat) +
  (List.take (m - (↑(cntLt l x) : Int).toNat)
  (List.drop ((0 : Nat) + (↑(cntLt l x) : Int).toNat) l)).length),
  [some (Blk.row false none (Cd.int IntKind.i64) l),
  some
  (Blk.row false none (Cd.int IntKind.i64)
  (List.take
  ((0 : Nat) +
  (List.take ((↑(cntLt l x) : Int).toNat - (0 : Nat)) (List.drop (0 : Nat) l)).length +
  (1 : Nat))
  (List.drop (0 : Nat)
  (List.take
  ((0 : Nat) +
  (List.take ((↑(cntLt l x) : Int).toNat - (0 : Nat)) (List.drop (0 : Nat) l)).length)
  (List.drop (0 : Nat)
  (nilT (Cd.int IntKind.i64).den ++
  List.take ((↑(cntLt l x) : Int).toNat - (0 : Nat)) (List.drop (0 : Nat) l))) ++
  x :: nilT (Cd.int IntKind.i64).den)) ++
  List.take (m - (↑(cntLt l x) : Int).toNat)
  (List.drop ((0 : Nat) + (↑(cntLt l x) : Int).toNat) l)))]))))))))) : _) := by kernel_rfl
  rw [e]
  clear e
  subst hm
  unfold putG0
  have h1 := cntLt_le l x
  have hM : maxI = 9223372036854775807 := rfl
  have hmem := cntLt_mem (x := x) hs
  have hq : (decide (l.length ≤ 1000000000) && srt l) = true := by rw [hs]; simp [hl]
  have e7 : (List.drop (cntLt l x) l).length = l.length - cntLt l x := List.length_drop
  have e1 : (List.take (cntLt l x) l).length = cntLt l x := by rw [List.length_take]; omega
  have e2 : (List.take (l.length - cntLt l x) (List.drop (cntLt l x) l)).length = l.length - cntLt l x := by rw [List.length_take, List.length_drop]; omega
  have e3 : List.take (l.length - cntLt l x) (List.drop (cntLt l x) l) = List.drop (cntLt l x) l := List.take_of_length_le (by simp)
  have e4 : List.take (cntLt l x) (List.take (cntLt l x) l) = List.take (cntLt l x) l := List.take_of_length_le (by omega)
  have e5 : ∀ r : List Int, List.take (cntLt l x + 1) (List.take (cntLt l x) l ++ x :: r) = List.take (cntLt l x) l ++ [x] := fun r => by
    rw [show List.take (cntLt l x) l ++ x :: r = (List.take (cntLt l x) l ++ [x]) ++ r by simp, List.take_left' (by simp; omega)]
  have e6 : (insAt l (cntLt l x) x).length = l.length + 1 := insAt_length h1
  rw [ifT_true (by rw [hs, Bool.and_true]; exact decide_eq_true ⟨rfl, by omega, by omega, hl⟩)]
  simp only [Br.run, true_and, hq, Int.toNat_natCast, Nat.zero_add, Nat.sub_zero, List.drop_zero, nilT_eq, List.nil_append, e1, e2, e3, e4, e5, e6, e7]
  have fin : (some (V.ref 1 0 (cntLt l x + 1 + (l.length - cntLt l x)), [some (Blk.row false none (.int .i64) l), some (Blk.row false none (.int .i64) (List.take (cntLt l x) l ++ [x] ++ List.drop (cntLt l x) l))]) : Option (V × List (Option Blk))) = some (.ref 1 0 (l.length + 1), [some (.row false none (.int .i64) l), some (.row false none (.int .i64) (insAt l (cntLt l x) x))]) := by
    rw [show cntLt l x + 1 + (l.length - cntLt l x) = l.length + 1 by omega]
    unfold insAt
    simp
  by_cases h2 : cntLt l x < l.length
  · rw [List.getElem?_eq_getElem h2] at hmem ⊢
    rw [ifB_true (decide_eq_true (by omega)), ifT_true (by simp only [Bool.and_eq_true, decide_eq_true_eq]; omega), ifSome_s]
    by_cases h4 : l[cntLt l x] = x
    · have h5 : x ∈ l := hmem.2 (by rw [h4])
      rw [ifB_true (by simpa using h4)]
      simp [h5]
    · have h5 : x ∉ l := fun h => h4 (by simpa using hmem.1 h)
      rw [ifB_false (by simpa using h4), ifT_true (by simp only [Bool.and_eq_true, decide_eq_true_eq]; omega), ifT_true (by simp only [Bool.and_eq_true, decide_eq_true_eq]; omega), ifT_true (by simp only [Bool.and_eq_true, decide_eq_true_eq]; omega), ifT_true (by simp only [Bool.and_eq_true, decide_eq_true_eq]; omega), ifT_true (by simp only [Bool.and_eq_true, decide_eq_true_eq]; omega), decide_eq_false h5]
      exact fin
  · have h5 : x ∉ l := fun h => by have := hmem.1 h; rw [List.getElem?_eq_none (by omega)] at this; cases this
    rw [ifB_false (decide_eq_false (by omega)), ifT_true (by simp only [Bool.and_eq_true, decide_eq_true_eq]; omega), ifT_true (by simp only [Bool.and_eq_true, decide_eq_true_eq]; omega), ifT_true (by simp only [Bool.and_eq_true, decide_eq_true_eq]; omega), ifT_true (by simp only [Bool.and_eq_true, decide_eq_true_eq]; omega), ifT_true (by simp only [Bool.and_eq_true, decide_eq_true_eq]; omega), decide_eq_false h5]
    exact fin
theorem put0 : Contract Try.prog 153 (Ent.own putG0).F := by
  refine fun_contractN' KnowsL.nil.knows (Λ := look [(2, putE)]) Try.func153 (c := Try.f153.body.getD .skip) (by kernel_rfl) fun vs bs r h hv hb => ?_
  unfold Ent.F putG0 at h
  dsimp only at h
  split at h
  · rename_i m x nl l
    have h2 := h
    obtain ⟨hc, _⟩ := need_some h
    rw [Bool.and_eq_true] at hc
    obtain ⟨h0, h1⟩ := of_decide_eq_true hc.1
    exact ⟨put_ok, (put_fun l x m nl h0 h1 hc.2).trans h2⟩
  · cases h
theorem put : Contract Try.prog 153 (Ent.own putG).F := by
  refine contract_weak (contract_canon put0) fun vs bs r h => ?_
  unfold Ent.F putG at h
  dsimp only at h
  split at h
  · rename_i m x nl l
    obtain ⟨hc, hx⟩ := need_some h
    have hc2 := hc
    rw [Bool.and_eq_true] at hc
    obtain ⟨h0, h1⟩ := of_decide_eq_true hc.1
    rw [← leaf_some hx]
    show ((putG0 [.ref 0 0 m, .i .i64 x] [.row false nl (.int .i64) l]).run).map (canonR 1) = _
    unfold putG0
    refine need_case hc2 (br_case (fun hm => leaf_case ?_) (fun hm => leaf_case ?_))
    · have e : putL l x = l := by unfold putL; rw [if_pos (of_decide_eq_true hm)]
      rw [e, ← h0]
      show _ = _
      kernel_rfl
    · have e : putL l x = insAt l (cntLt l x) x := by unfold putL; rw [if_neg (of_decide_eq_false hm)]
      rw [e]
      show _ = _
      kernel_rfl
  · cases h
end Go.Proofs.Ytjghbihlgfjebaa.Den
