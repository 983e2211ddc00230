/- What functions of the program do, by the machine: Que1. -/
import Derived.Test.YtjghbihlgfjebaaDGoodF
import Derived.KernelRfl
import Derived.Test.YtjghbihlgfjebaaRows
namespace Go.Proofs.Ytjghbihlgfjebaa.Den
open Go.Proofs
set_option maxRecDepth 100000
/-- How many of a list from its front are less. -/
def cntLt (l : List Int) (x : Int) : Nat := (l.takeWhile fun y => decide (y < x)).length
/-- Rising. -/
def srt (l : List Int) : Bool := decide (l.Pairwise (· < ·))
def lessG : List V → List Blk → Br (V × List (Option Blk))
  | [.i .i64 a, .i .i64 b], [] => .leaf (.b (decide (a < b)), [])
  | _, _ => .no
def isNaNG : List V → List Blk → Br (V × List (Option Blk))
  | [.i .i64 _], [] => .leaf (.b false, [])
  | _, _ => .no
def bsE : LoopEnt := ⟨54, [0,1,6,7,8], [0,1,6,7], [], fun
  | ([.sl (.int .i64) l, .i .i64 x, .i .i64 n, .i .i64 i, .i .i64 j], []) =>
    .need (decide (0 ≤ i ∧ i ≤ cntLt l x ∧ (cntLt l x : Int) ≤ j ∧ j ≤ l.length ∧ l.length ≤ 1000000000) && srt l) (.leaf (.exit 0, ([.sl (.int .i64) l, .i .i64 x, .i .i64 n, .i .i64 (cntLt l x)], [])))
  | _ => .no⟩
def bsG : List V → List Blk → Br (V × List (Option Blk))
  | [.sl (.int .i64) l, .i .i64 x], [] => .need (srt l && decide (l.length ≤ 1000000000)) (.leaf (.tup [.i .i64 (cntLt l x), .b (decide (x ∈ l))], []))
  | _, _ => .no
/-- A rising list with a number, once. -/
def putL (l : List Int) (x : Int) : List Int := if x ∈ l then l else insAt l (cntLt l x) x
def putE : LoopEnt := ⟨48, [0,1,5], [0,1,5], [], fun
  | ([.ref 0 0 m, .i .i64 x, .i .i64 k], [some (.row false none (.int .i64) l)]) =>
    .need (decide (m = l.length ∧ 0 ≤ k ∧ k ≤ cntLt l x ∧ l.length ≤ 1000000000) && srt l) (.leaf (.exit 0, ([.ref 0 0 m, .i .i64 x, .i .i64 (cntLt l x)], [some (.row false none (.int .i64) l)])))
  | _ => .no⟩
theorem cntLt_le : ∀ (l : List Int) (x : Int), cntLt l x ≤ l.length
  | [], x => Nat.le_refl _
  | y :: l, x => by
    have := cntLt_le l x
    unfold cntLt at *
    rw [List.takeWhile_cons]
    split
    · simp; omega
    · simp
theorem cntLt_lt : ∀ {l : List Int} {x : Int} {i : Nat} {z : Int}, i < cntLt l x → l[i]? = some z → z < x
  | [], x, i, z, h, hz => by simp at hz
  | y :: l, x, i, z, h, hz => by
    unfold cntLt at h
    rw [List.takeWhile_cons] at h
    split at h
    · rename_i hy
      match i with
      | 0 => simp at hz; subst hz; simpa using hy
      | i + 1 => exact cntLt_lt (l := l) (by unfold cntLt; simpa using h) (by simpa using hz)
    · simp at h
theorem cntLt_ge : ∀ {l : List Int} {x : Int} (_ : srt l = true) {i : Nat} {z : Int}, l[i]? = some z → cntLt l x ≤ i → x ≤ z
  | [], x, _, i, z, h, _ => by simp at h
  | y :: l, x, hs, i, z, h, hi => by
    have hs' : y < z ∨ y = z := by
      unfold srt at hs
      have hs := of_decide_eq_true hs
      match i with
      | 0 => simp at h; exact .inr h
      | i + 1 => exact .inl ((List.pairwise_cons.1 hs).1 z (List.mem_of_getElem? (by simpa using h)))
    unfold cntLt at hi
    rw [List.takeWhile_cons] at hi
    split at hi
    · match i with
      | 0 => simp at hi
      | i + 1 =>
        have hs2 : srt l = true := by
          unfold srt at *
          exact decide_eq_true (List.pairwise_cons.1 (of_decide_eq_true hs)).2
        exact cntLt_ge hs2 (by simpa using h) (by unfold cntLt; simpa using hi)
    · rename_i hy
      simp at hy
      omega
theorem cntLt_mem {l : List Int} {x : Int} (hs : srt l = true) : x ∈ l ↔ l[cntLt l x]? = some x := by
  refine ⟨fun h => ?_, fun h => List.mem_of_getElem? h⟩
  obtain ⟨i, hi, rfl⟩ := List.getElem_of_mem h
  have h1 : cntLt l l[i] ≤ i := by
    rcases Nat.lt_or_ge i (cntLt l l[i]) with h2 | h2
    · have := cntLt_lt h2 (List.getElem?_eq_getElem hi); omega
    · exact h2
  have hlt : cntLt l l[i] < l.length := by omega
  have h3 := cntLt_ge hs (List.getElem?_eq_getElem hlt) (Nat.le_refl _)
  rw [List.getElem?_eq_getElem hlt]
  rcases Nat.lt_or_ge (cntLt l l[i]) i with h4 | h4
  · have hp := of_decide_eq_true (show decide _ = true from hs)
    have := List.pairwise_iff_getElem.1 hp _ _ hlt hi h4
    omega
  · have : cntLt l l[i] = i := by omega
    congr 1
    simp only [this]
theorem cmpNaN_fun (a : Int) : funK Try.prog (look []) (look []) Try.f164 [.i .i64 a] [] = some (.b false, []) := by
  have e : funK Try.prog (look []) (look []) Try.f164 [.i .i64 a] [] = ((some (V.b (a != a), [])) : _) := by kernel_rfl
  rw [e]
  simp
theorem cmpNaN : Contract Try.prog 164 (Ent.rd1 isNaNG).F := by
  refine fun_contract' KnowsL.nil.knows (Λ := look []) Try.func164 (c := Try.f164.body.getD .skip) (by kernel_rfl) fun vs bs r h hv hb => ?_
  unfold Ent.F isNaNG at h
  dsimp only at h
  split at h
  · rename_i a
    exact ⟨loopsOk_nil _, (cmpNaN_fun a).trans h⟩
  · cases h
theorem slNaN_fun (a : Int) : funK Try.prog (look []) (look []) Try.f160 [.i .i64 a] [] = some (.b false, []) := by
  have e : funK Try.prog (look []) (look []) Try.f160 [.i .i64 a] [] = ((some (V.b (a != a), [])) : _) := by kernel_rfl
  rw [e]
  simp
theorem slNaN : Contract Try.prog 160 (Ent.rd1 isNaNG).F := by
  refine fun_contract' KnowsL.nil.knows (Λ := look []) Try.func160 (c := Try.f160.body.getD .skip) (by kernel_rfl) fun vs bs r h hv hb => ?_
  unfold Ent.F isNaNG at h
  dsimp only at h
  split at h
  · rename_i a
    exact ⟨loopsOk_nil _, (slNaN_fun a).trans h⟩
  · cases h
theorem less_fun (a b : Int) : funK Try.prog (look [(164, .rd1 isNaNG)]) (look []) Try.f159 [.i .i64 a, .i .i64 b] [] = some (.b (decide (a < b)), []) := by
  have e : funK Try.prog (look [(164, .rd1 isNaNG)]) (look []) Try.f159 [.i .i64 a, .i .i64 b] [] = ((some (V.b (decide (a < b)), [])) : _) := by kernel_rfl
  rw [e]
theorem less : Contract Try.prog 159 (Ent.rd1 lessG).F := by
  refine fun_contract' (KnowsL.cons (enters_fn Try.func164 (by kernel_rfl) (by kernel_rfl)) cmpNaN KnowsL.nil).knows (Λ := look []) Try.func159 (c := Try.f159.body.getD .skip) (by kernel_rfl) fun vs bs r h hv hb => ?_
  unfold Ent.F lessG at h
  dsimp only at h
  split at h
  · rename_i a b
    exact ⟨loopsOk_nil _, (less_fun a b).trans h⟩
  · cases h
theorem bs_round (l : List Int) (x n i j : Int) : roundK Try.prog (look [(159, .rd1 lessG), (160, .rd1 isNaNG)]) (look [(3, bsE)]) 0 (body Try.f149 0) bsE ([.sl (.int .i64) l, .i .i64 x, .i .i64 n, .i .i64 i, .i .i64 j], []) =
  ((ifB (decide (i < j))
  (ifT
  (decide
  ((0 : Int) ≤
  IntKind.i64.wrap
  ((IntKind.u64.wrap (IntKind.i64.wrap (i + j))).fdiv ((2 : Int) ^ min (1 : Nat) IntKind.u64.bits))) &&
  decide
  (IntKind.i64.wrap
  ((IntKind.u64.wrap (IntKind.i64.wrap (i + j))).fdiv ((2 : Int) ^ min (1 : Nat) IntKind.u64.bits)) <
  (↑l.length : Int)))
  (ifSome
  l[(IntKind.i64.wrap
  ((IntKind.u64.wrap (IntKind.i64.wrap (i + j))).fdiv ((2 : Int) ^ min (1 : Nat) IntKind.u64.bits))).toNat]?
  fun z =>
  ifB (decide (z < x))
  (some
  (Ex.normal,
  [V.sl (Cd.int IntKind.i64) l, V.i IntKind.i64 x, V.i IntKind.i64 n,
  V.i IntKind.i64
  (IntKind.i64.wrap
  (IntKind.i64.wrap
  ((IntKind.u64.wrap (IntKind.i64.wrap (i + j))).fdiv
  ((2 : Int) ^ min (1 : Nat) IntKind.u64.bits)) +
  (1 : Int))),
  V.i IntKind.i64 j],
  []))
  (some
  (Ex.normal,
  [V.sl (Cd.int IntKind.i64) l, V.i IntKind.i64 x, V.i IntKind.i64 n, V.i IntKind.i64 i,
  V.i IntKind.i64
  (IntKind.i64.wrap
  ((IntKind.u64.wrap (IntKind.i64.wrap (i + j))).fdiv ((2 : Int) ^ min (1 : Nat) IntKind.u64.bits)))],
  []))))
  (some (Ex.exit (0 : Nat), [V.sl (Cd.int IntKind.i64) l, V.i IntKind.i64 x, V.i IntKind.i64 n, V.i IntKind.i64 i], []))) : _) := by kernel_rfl
theorem bs_loop {l : List Int} {x n : Int} (hs : srt l = true) (hl : l.length ≤ 1000000000) : ∀ (f i j : Nat), j - i < f → i ≤ cntLt l x → cntLt l x ≤ j → j ≤ l.length →
    Runs Try.prog (look [(159, .rd1 lessG), (160, .rd1 isNaNG)]) (look [(3, bsE)]) 0 (body Try.f149 0) bsE ([.sl (.int .i64) l, .i .i64 x, .i .i64 n, .i .i64 i, .i .i64 j], []) (.exit 0) ([.sl (.int .i64) l, .i .i64 x, .i .i64 n, .i .i64 (cntLt l x)], [])
  | 0, _, _, h, _, _, _ => by omega
  | f + 1, i, j, h, h1, h2, h3 => by
    have hr := bs_round l x n i j
    by_cases hij : i < j
    · have w1 : IntKind.i64.wrap ((i : Int) + (j : Int)) = (i : Int) + (j : Int) := wrap_id (by omega) (by omega)
      have w2 : IntKind.u64.wrap ((i : Int) + (j : Int)) = (i : Int) + (j : Int) := by
        unfold IntKind.wrap
        simp only [IntKind.bits, IntKind.signed]
        simp
        omega
      have w3 : ((i : Int) + (j : Int)).fdiv (2 ^ min 1 IntKind.u64.bits) = (((i + j) / 2 : Nat) : Int) := by
        have : min 1 IntKind.u64.bits = 1 := rfl
        rw [this, Int.fdiv_eq_ediv_of_nonneg _ (by omega)]
        omega
      have w4 : IntKind.i64.wrap ((((i + j) / 2 : Nat) : Int)) = (((i + j) / 2 : Nat) : Int) := wrap_id (by omega) (by omega)
      have w5 : IntKind.i64.wrap ((((i + j) / 2 : Nat) : Int) + 1) = (((i + j) / 2 + 1 : Nat) : Int) := wrap_succ (by unfold maxI; omega)
      obtain ⟨m, hm⟩ : ∃ m, m = (i + j) / 2 := ⟨_, rfl⟩
      have hmi : i ≤ m ∧ m < j := by omega
      have hml : m < l.length := by omega
      simp only [w1, w2, w3, w4, w5] at hr
      rw [← hm] at hr
      rw [ifB_true (decide_eq_true (show (i : Int) < (j : Int) by omega)), ifT_true (by simp only [Bool.and_eq_true, decide_eq_true_eq]; omega), Int.toNat_natCast, List.getElem?_eq_getElem hml] at hr
      simp only [ifSome_s] at hr
      by_cases hz : l[m] < x
      · rw [ifB_true (decide_eq_true hz)] at hr
        refine .step _ _ _ _ hr ?_
        refine bs_loop hs hl f (m + 1) j (by omega) ?_ h2 h3
        rcases Nat.lt_or_ge m (cntLt l x) with h4 | h4
        · omega
        · have := cntLt_ge hs (List.getElem?_eq_getElem hml) h4; omega
      · rw [ifB_false (decide_eq_false hz)] at hr
        refine .step _ _ _ _ hr ?_
        refine bs_loop hs hl f i m (by omega) h1 ?_ (by omega)
        rcases Nat.lt_or_ge m (cntLt l x) with h4 | h4
        · have := cntLt_lt h4 (List.getElem?_eq_getElem hml); omega
        · exact h4
    · have hi : i = cntLt l x := by omega
      rw [ifB_false (decide_eq_false (show ¬ (i : Int) < (j : Int) by omega))] at hr
      subst hi
      exact .stop _ _ _ hr (by simp)
theorem bs_ok : LoopsOk Try.prog (look [(159, .rd1 lessG), (160, .rd1 isNaNG)]) (look [(3, bsE)]) 0 (Try.f149.body.getD .skip) := by
  refine loopsOk_one (a := body Try.f149 0) (by kernel_rfl) fun d e d' h => ?_
  unfold bsE at h
  dsimp only at h
  split at h
  · rename_i l x n i j
    obtain ⟨hc, hx⟩ := need_some h
    clear h
    rw [Bool.and_eq_true] at hc
    obtain ⟨h0, h1, h2, h3, h4⟩ := of_decide_eq_true hc.1
    obtain ⟨i, rfl⟩ := Int.eq_ofNat_of_zero_le h0
    obtain ⟨j, rfl⟩ := Int.eq_ofNat_of_zero_le (show 0 ≤ j by omega)
    cases leaf_some hx
    exact bs_loop hc.2 h4 _ i j (Nat.lt_succ_self _) (by omega) (by omega) (by omega)
  · cases h
theorem bs_fun (l : List Int) (x : Int) (hs : srt l = true) (hl : l.length ≤ 1000000000) : funK Try.prog (look [(159, .rd1 lessG), (160, .rd1 isNaNG)]) (look [(3, bsE)]) Try.f149 [.sl (.int .i64) l, .i .i64 x] [] = some (.tup [.i .i64 (cntLt l x), .b (decide (x ∈ l))], []) := by
  have e : funK Try.prog (look [(159, .rd1 lessG), (160, .rd1 isNaNG)]) (look [(3, bsE)]) Try.f149 [.sl (.int .i64) l, .i .i64 x] [] = ((ifT
  (decide
  ((0 : Int) ≤ (0 : Int) ∧
  (0 : Int) ≤ (↑(cntLt l x) : Int) ∧
  (↑(cntLt l x) : Int) ≤ (↑l.length : Int) ∧
  (↑l.length : Int) ≤ (↑l.length : Int) ∧ l.length ≤ (1000000000 : Nat)) &&
  srt l)
  (ifB (decide ((↑(cntLt l x) : Int) < (↑l.length : Int)))
  (ifT (decide ((0 : Int) ≤ (↑(cntLt l x) : Int)) && decide ((↑(cntLt l x) : Int) < (↑l.length : Int)))
  (ifSome l[(↑(cntLt l x) : Int).toNat]? fun z =>
  ifB (z == x) (some (V.tup [V.i IntKind.i64 (↑(cntLt l x) : Int), V.b true], []))
  (ifT (decide ((0 : Int) ≤ (↑(cntLt l x) : Int)) && decide ((↑(cntLt l x) : Int) < (↑l.length : Int)))
  (ifSome l[(↑(cntLt l x) : Int).toNat]? fun z =>
  some (V.tup [V.i IntKind.i64 (↑(cntLt l x) : Int), V.b false], [])))))
  (some (V.tup [V.i IntKind.i64 (↑(cntLt l x) : Int), V.b false], [])))) : _) := by kernel_rfl
  rw [e]
  clear e
  have h1 := cntLt_le l x
  rw [ifT_true (by rw [hs, Bool.and_true]; exact decide_eq_true ⟨by omega, by omega, by omega, by omega, hl⟩)]
  have hm := cntLt_mem (x := x) hs
  by_cases h2 : cntLt l x < l.length
  · have h3 : (↑(cntLt l x) : Int) < (↑l.length : Int) := by omega
    simp only [ifB_true (decide_eq_true h3), ifT_and, ifT_true (decide_eq_true h3), ifT_true (decide_eq_true (show (0 : Int) ≤ (↑(cntLt l x) : Int) by omega)), Int.toNat_natCast, List.getElem?_eq_getElem h2, ifSome_s]
    rw [List.getElem?_eq_getElem h2] at hm
    by_cases h4 : l[cntLt l x] = x
    · rw [ifB_true (by simpa using h4), decide_eq_true (hm.2 (by rw [h4]))]
    · rw [ifB_false (by simpa using h4), decide_eq_false (fun h => h4 (by simpa using hm.1 h))]
  · have h3 : ¬ (↑(cntLt l x) : Int) < (↑l.length : Int) := by omega
    rw [ifB_false (decide_eq_false h3), decide_eq_false (fun h => by have := hm.1 h; rw [List.getElem?_eq_none (by omega)] at this; cases this)]
theorem bs : Contract Try.prog 149 (Ent.rd1 bsG).F := by
  refine fun_contract' (KnowsL.cons (enters_fn Try.func159 (by kernel_rfl) (by kernel_rfl)) less (KnowsL.cons (enters_fn Try.func160 (by kernel_rfl) (by kernel_rfl)) slNaN KnowsL.nil)).knows (Λ := look [(3, bsE)]) Try.func149 (c := Try.f149.body.getD .skip) (by kernel_rfl) fun vs bs r h hv hb => ?_
  unfold Ent.F bsG at h
  dsimp only at h
  split at h
  · rename_i l x
    obtain ⟨hc, h⟩ := need_some h
    rw [Bool.and_eq_true] at hc
    exact ⟨bs_ok, (bs_fun l x hc.1 (of_decide_eq_true hc.2)).trans h⟩
  · cases h
end Go.Proofs.Ytjghbihlgfjebaa.Den
