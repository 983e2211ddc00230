/- What functions of the program do, by the machine: Fr7. -/
import Derived.Test.YtjghbihlgfjebaaDSame
import Derived.KernelRfl
import Derived.Test.YtjghbihlgfjebaaRows
namespace Go.Proofs.Ytjghbihlgfjebaa.Den
open Go.Proofs
set_option maxRecDepth 100000
/-- Whether each piece is short. -/
def okP (l : List (List UInt8)) : Bool := l.all fun t => decide (t.length ≤ 300)
def faO (l : List (List UInt8)) : Bool := decide (l.length ≤ 60) && okP l
def faA (l : List (List UInt8)) : List UInt8 := bif faO l then fedA l [] false else []
def faQ (l : List (List UInt8)) : List (List UInt8) := bif faO l then fedQ l [] [[]] false else []
def faB (l : List (List UInt8)) : Bool := bif faO l then fedB l [] false else false
def feedAllG : List V → List Blk → Br (V × List (Option Blk))
  | [.sl .str l], [] => .leaf (.tup [.agg [.s (faA l), .ref 0 0 (faQ l).length, .b (faB l)], .b (faO l)], [some (.row false none .str (faQ l))])
  | _, _ => .no
def ifaE : LoopEnt := ⟨32, [2,4,14,15,16], [2,4], [2,3], fun
  | ([.ptr 0 0, .ptr 1 0, .sl .str l, .i .i64 m, .i .i64 i], [some (.box [.s [], .ref 2 0 0, .b false]), some (.box [.s a, .ref 3 0 n, .b b]), some (.row false none .str []), some (.row false none .str g)]) =>
    .need (decide (0 ≤ i ∧ m = l.length ∧ i.toNat ≤ l.length ∧ n = g.length ∧ l.length ≤ 60) && goodR a g b) (.br (okP (l.drop i.toNat)) (.leaf (.exit 0, ([.ptr 0 0, .ptr 1 0], [some (.box [.s [], .ref 2 0 0, .b false]), some (.box [.s (fedA (l.drop i.toNat) a b), .ref 3 0 (fedQ (l.drop i.toNat) a g b).length, .b (fedB (l.drop i.toNat) a b)]), some (.row false none .str []), some (.row false none .str (fedQ (l.drop i.toNat) a g b))]))) (.leaf (.ret, ([.ptr 0 0, .b false], [some (.box [.s [], .ref 1 0 0, .b false]), some (.row false none .str [])]))))
  | _ => .no⟩
def sfaE : LoopEnt := ⟨32, [2,4,14,15,16], [2,4], [2,3], fun
  | ([.ptr 0 0, .ptr 1 0, .sl .str l, .i .i64 m, .i .i64 i], [some (.box [.s [], .ref 2 0 0, .b false]), some (.box [.s a, .ref 3 0 n, .b b]), some (.row false none .str []), some (.row false none .str g)]) =>
    .need (decide (0 ≤ i ∧ m = l.length ∧ i.toNat ≤ l.length ∧ n = g.length ∧ l.length ≤ 60) && goodR a g b) (.br (okP (l.drop i.toNat)) (.leaf (.exit 0, ([.ptr 0 0, .ptr 1 0], [some (.box [.s [], .ref 2 0 0, .b false]), some (.box [.s (fedA (l.drop i.toNat) a b), .ref 3 0 (fedQ (l.drop i.toNat) a g b).length, .b (fedB (l.drop i.toNat) a b)]), some (.row false none .str []), some (.row false none .str (fedQ (l.drop i.toNat) a g b))]))) (.leaf (.ret, ([.ptr 0 0, .b false], [some (.box [.s [], .ref 1 0 0, .b false]), some (.row false none .str [])]))))
  | _ => .no⟩
def sameRG : List V → List Blk → Br (V × List (Option Blk))
  | [.agg [.s a0, .sl .str a1, .b a2], .agg [.s b0, .sl .str b1, .b b2]], [] => .leaf (.b (decide (a0 = b0 ∧ a2 = b2 ∧ a1 = b1)), [])
  | _, _ => .no
theorem okP_cons (t : List UInt8) (l : List (List UInt8)) : okP (t :: l) = (decide (t.length ≤ 300) && okP l) := rfl
theorem ifa_round (l : List (List UInt8)) (m i : Int) (a : List UInt8) (n : Nat) (b : Bool) (g : List (List UInt8)) : roundK Try.prog (look [(82, .rd1 newRG), (83, .rd1 feedRG)]) (look [(5, ifaE)]) 0 (body Try.f17 0) ifaE ([.ptr 0 0, .ptr 1 0, .sl .str l, .i .i64 m, .i .i64 i], [some (.box [.s [], .ref 2 0 0, .b false]), some (.box [.s a, .ref 3 0 n, .b b]), some (.row false none .str []), some (.row false none .str g)]) =
  ((ifB (decide (i < m))
  (ifT (decide ((0 : Int) ≤ i) && decide (i < (↑l.length : Int)))
  (ifSome l[i.toNat]? fun z =>
  ifT (decide (a.length ≤ (50000 : Nat)))
  (ifB (!fdO a (List.take n (List.drop (0 : Nat) g)) b z)
  (some
  (Ex.ret, [V.ptr (0 : Nat) (0 : Nat), V.b false],
  [some (Blk.box [V.s (nilT UInt8), V.ref (1 : Nat) (0 : Nat) (0 : Nat), V.b false]),
  some (Blk.row false none Cd.str (nilT Cd.str.den))]))
  (some
  (Ex.normal,
  [V.ptr (0 : Nat) (0 : Nat), V.ptr (1 : Nat) (0 : Nat), V.sl Cd.str l, V.i IntKind.i64 m,
  V.i IntKind.i64 (IntKind.i64.wrap (i + (1 : Int)))],
  [some (Blk.box [V.s (nilT UInt8), V.ref (2 : Nat) (0 : Nat) (0 : Nat), V.b false]),
  some
  (Blk.box
  [V.s (fdA a (List.take n (List.drop (0 : Nat) g)) b z),
  V.ref (3 : Nat) (0 : Nat) (fdQ a (List.take n (List.drop (0 : Nat) g)) b z).length,
  V.b (fdB a (List.take n (List.drop (0 : Nat) g)) b z)]),
  some (Blk.row false none Cd.str (nilT Cd.str.den)),
  some (Blk.row false none Cd.str (fdQ a (List.take n (List.drop (0 : Nat) g)) b z))])))))
  (some
  (Ex.exit (0 : Nat), [V.ptr (0 : Nat) (0 : Nat), V.ptr (1 : Nat) (0 : Nat)],
  [some (Blk.box [V.s (nilT UInt8), V.ref (2 : Nat) (0 : Nat) (0 : Nat), V.b false]),
  some (Blk.box [V.s a, V.ref (3 : Nat) (0 : Nat) n, V.b b]), some (Blk.row false none Cd.str (nilT Cd.str.den)),
  some (Blk.row false none Cd.str g)]))) : _) := by kernel_rfl
theorem ifa_loop (l : List (List UInt8)) (hl : l.length ≤ 60) : ∀ (j i : Nat) (a : List UInt8) (g : List (List UInt8)) (b : Bool), i + j = l.length → goodR a g b = true → ∀ e y, (Br.br (okP (l.drop i)) (.leaf (.exit 0, ([.ptr 0 0, .ptr 1 0], [some (.box [.s [], .ref 2 0 0, .b false]), some (.box [.s (fedA (l.drop i) a b), .ref 3 0 (fedQ (l.drop i) a g b).length, .b (fedB (l.drop i) a b)]), some (.row false none .str []), some (.row false none .str (fedQ (l.drop i) a g b))]))) (.leaf (.ret, ([.ptr 0 0, .b false], [some (.box [.s [], .ref 1 0 0, .b false]), some (.row false none .str [])]))) : Br (Ex × Dt)).run = some (e, y) → Runs Try.prog (look [(82, .rd1 newRG), (83, .rd1 feedRG)]) (look [(5, ifaE)]) 0 (body Try.f17 0) ifaE ([.ptr 0 0, .ptr 1 0, .sl .str l, .i .i64 (↑l.length : Int), .i .i64 (i : Int)], [some (.box [.s [], .ref 2 0 0, .b false]), some (.box [.s a, .ref 3 0 g.length, .b b]), some (.row false none .str []), some (.row false none .str g)]) e y
  | 0, i, a, g, b, hi, hg, e, y, hx => by
    have hr := ifa_round l l.length i a g.length b g
    rw [ifB_false (decide_eq_false (by omega))] at hr
    rw [List.drop_eq_nil_of_le (by omega)] at hx
    cases hx
    exact .stop _ _ _ hr (by simp)
  | j + 1, i, a, g, b, hi, hg, e, y, hx => by
    have hil : i < l.length := by omega
    have hM : maxI = 9223372036854775807 := rfl
    have hs := goodR_short hg
    have hr := ifa_round l l.length i a g.length b g
    rw [ifB_true (decide_eq_true (by omega)), ifT_true (by simp only [Bool.and_eq_true, decide_eq_true_eq]; omega)] at hr
    simp only [Int.toNat_natCast, List.drop_zero, List.take_length, List.getElem?_eq_getElem hil, ifSome_s, wrap_succ (n := i) (by omega), nilT_eq] at hr
    rw [ifT_true (decide_eq_true (by omega))] at hr
    rw [List.drop_eq_getElem_cons hil, okP_cons] at hx
    by_cases h3 : l[i].length ≤ 300
    · have ho : fdO a g b l[i] = true := by unfold fdO; rw [hg]; simpa using h3
      have hf := feed_good l[i] hg
      rw [ho, ifB_false (by rfl : (!true) = false)] at hr
      unfold fdA fdQ fdB at hr
      rw [ho] at hr
      simp only [cond_true] at hr
      rw [decide_eq_true h3, Bool.true_and] at hx
      exact .step _ _ _ _ hr (ifa_loop l hl j (i + 1) _ _ _ (by omega) hf e y hx)
    · have ho : fdO a g b l[i] = false := by unfold fdO; rw [hg]; simpa using h3
      rw [ho, ifB_true (by rfl : (!false) = true)] at hr
      rw [decide_eq_false h3, Bool.false_and] at hx
      cases hx
      exact .stop _ _ _ hr (by simp)
theorem ifa_ok : LoopsOk Try.prog (look [(82, .rd1 newRG), (83, .rd1 feedRG)]) (look [(5, ifaE)]) 0 (Try.f17.body.getD .skip) := by
  refine loopsOk_one (a := body Try.f17 0) (by kernel_rfl) fun x e y hq => ?_
  unfold ifaE at hq
  dsimp only at hq
  split at hq
  · rename_i l m i a n b g
    obtain ⟨hc, hx⟩ := need_some hq
    clear hq
    rw [Bool.and_eq_true] at hc
    obtain ⟨h0, rfl, h1, rfl, h2⟩ := of_decide_eq_true hc.1
    obtain ⟨i, rfl⟩ := Int.eq_ofNat_of_zero_le h0
    rw [Int.toNat_natCast] at h1 hx
    exact ifa_loop l h2 (l.length - i) i a g b (by omega) hc.2 e y hx
  · cases hq
theorem ifa_fun (l : List (List UInt8)) : funN Try.prog (look [(82, .rd1 newRG), (83, .rd1 feedRG)]) (look [(5, ifaE)]) Try.f17 [.sl .str l] [] = (.leaf (.tup [.agg [.s (faA l), .ref 0 0 (faQ l).length, .b (faB l)], .b (faO l)], [some (.row false none .str (faQ l))]) : Br (V × List (Option Blk))).run := by
  have e : funN Try.prog (look [(82, .rd1 newRG), (83, .rd1 feedRG)]) (look [(5, ifaE)]) Try.f17 [.sl .str l] [] = ((ifB (decide ((↑l.length : Int) > (60 : Int)))
  (some
  (V.tup [V.agg [V.s (nilT UInt8), V.ref (0 : Nat) (0 : Nat) (0 : Nat), V.b false], V.b false],
  [some (Blk.row false none Cd.str (nilT Cd.str.den))]))
  (ifT
  (decide
  ((0 : Int) ≤ (0 : Int) ∧
  (↑l.length : Int) = (↑l.length : Int) ∧
  (0 : Nat) ≤ l.length ∧ (1 : Nat) = (1 : Nat) ∧ l.length ≤ (60 : Nat)) &&
  goodR (nilT UInt8) (nilT UInt8 :: nilT Cd.str.den) false)
  (ifB (okP (List.drop (0 : Nat) l))
  (some
  (V.tup
  [V.agg
  [V.s (fedA (List.drop (0 : Nat) l) (nilT UInt8) false),
  V.ref (0 : Nat) (0 : Nat)
  (fedQ (List.drop (0 : Nat) l) (nilT UInt8) (nilT UInt8 :: nilT Cd.str.den) false).length,
  V.b (fedB (List.drop (0 : Nat) l) (nilT UInt8) false)],
  V.b true],
  [some
  (Blk.row false none Cd.str
  (fedQ (List.drop (0 : Nat) l) (nilT UInt8) (nilT UInt8 :: nilT Cd.str.den) false))]))
  (some
  (V.tup [V.agg [V.s (nilT UInt8), V.ref (0 : Nat) (0 : Nat) (0 : Nat), V.b false], V.b false],
  [some (Blk.row false none Cd.str (nilT Cd.str.den))]))))) : _) := by kernel_rfl
  rw [e]
  clear e
  unfold faA faQ faB faO
  by_cases h : l.length ≤ 60
  · rw [ifB_false (decide_eq_false (by omega)), ifT_true (by rw [Bool.and_eq_true]; exact ⟨decide_eq_true ⟨by omega, by trivial, by omega, by trivial, h⟩, new_goodR⟩), decide_eq_true h, Bool.true_and]
    simp only [List.drop_zero]
    cases okP l <;> rfl
  · rw [ifB_true (decide_eq_true (by omega)), decide_eq_false h, Bool.false_and]
    rfl
theorem ifa : Contract Try.prog 17 (Ent.rd1 feedAllG).F := by
  refine fun_contractN' (KnowsL.cons (enters_fn Try.func82 (by kernel_rfl) (by kernel_rfl)) implNewR (KnowsL.cons (enters_fn Try.func83 (by kernel_rfl) (by kernel_rfl)) implFR KnowsL.nil)).knows (Λ := (look [(5, ifaE)])) Try.func17 (c := Try.f17.body.getD .skip) (by kernel_rfl) fun vs bs r hq hv hb => ?_
  unfold Ent.F feedAllG at hq
  dsimp only at hq
  split at hq
  · rename_i l
    exact ⟨ifa_ok, (ifa_fun l).trans hq⟩
  · cases hq
theorem sfa_round (l : List (List UInt8)) (m i : Int) (a : List UInt8) (n : Nat) (b : Bool) (g : List (List UInt8)) : roundK Try.prog (look [(84, .rd1 newRG), (85, .rd1 feedRG)]) (look [(5, sfaE)]) 0 (body Try.f18 0) sfaE ([.ptr 0 0, .ptr 1 0, .sl .str l, .i .i64 m, .i .i64 i], [some (.box [.s [], .ref 2 0 0, .b false]), some (.box [.s a, .ref 3 0 n, .b b]), some (.row false none .str []), some (.row false none .str g)]) =
  ((ifB (decide (i < m))
  (ifT (decide ((0 : Int) ≤ i) && decide (i < (↑l.length : Int)))
  (ifSome l[i.toNat]? fun z =>
  ifT (decide (a.length ≤ (50000 : Nat)))
  (ifB (!fdO a (List.take n (List.drop (0 : Nat) g)) b z)
  (some
  (Ex.ret, [V.ptr (0 : Nat) (0 : Nat), V.b false],
  [some (Blk.box [V.s (nilT UInt8), V.ref (1 : Nat) (0 : Nat) (0 : Nat), V.b false]),
  some (Blk.row false none Cd.str (nilT Cd.str.den))]))
  (some
  (Ex.normal,
  [V.ptr (0 : Nat) (0 : Nat), V.ptr (1 : Nat) (0 : Nat), V.sl Cd.str l, V.i IntKind.i64 m,
  V.i IntKind.i64 (IntKind.i64.wrap (i + (1 : Int)))],
  [some (Blk.box [V.s (nilT UInt8), V.ref (2 : Nat) (0 : Nat) (0 : Nat), V.b false]),
  some
  (Blk.box
  [V.s (fdA a (List.take n (List.drop (0 : Nat) g)) b z),
  V.ref (3 : Nat) (0 : Nat) (fdQ a (List.take n (List.drop (0 : Nat) g)) b z).length,
  V.b (fdB a (List.take n (List.drop (0 : Nat) g)) b z)]),
  some (Blk.row false none Cd.str (nilT Cd.str.den)),
  some (Blk.row false none Cd.str (fdQ a (List.take n (List.drop (0 : Nat) g)) b z))])))))
  (some
  (Ex.exit (0 : Nat), [V.ptr (0 : Nat) (0 : Nat), V.ptr (1 : Nat) (0 : Nat)],
  [some (Blk.box [V.s (nilT UInt8), V.ref (2 : Nat) (0 : Nat) (0 : Nat), V.b false]),
  some (Blk.box [V.s a, V.ref (3 : Nat) (0 : Nat) n, V.b b]), some (Blk.row false none Cd.str (nilT Cd.str.den)),
  some (Blk.row false none Cd.str g)]))) : _) := by kernel_rfl
theorem sfa_loop (l : List (List UInt8)) (hl : l.length ≤ 60) : ∀ (j i : Nat) (a : List UInt8) (g : List (List UInt8)) (b : Bool), i + j = l.length → goodR a g b = true → ∀ e y, (Br.br (okP (l.drop i)) (.leaf (.exit 0, ([.ptr 0 0, .ptr 1 0], [some (.box [.s [], .ref 2 0 0, .b false]), some (.box [.s (fedA (l.drop i) a b), .ref 3 0 (fedQ (l.drop i) a g b).length, .b (fedB (l.drop i) a b)]), some (.row false none .str []), some (.row false none .str (fedQ (l.drop i) a g b))]))) (.leaf (.ret, ([.ptr 0 0, .b false], [some (.box [.s [], .ref 1 0 0, .b false]), some (.row false none .str [])]))) : Br (Ex × Dt)).run = some (e, y) → Runs Try.prog (look [(84, .rd1 newRG), (85, .rd1 feedRG)]) (look [(5, sfaE)]) 0 (body Try.f18 0) sfaE ([.ptr 0 0, .ptr 1 0, .sl .str l, .i .i64 (↑l.length : Int), .i .i64 (i : Int)], [some (.box [.s [], .ref 2 0 0, .b false]), some (.box [.s a, .ref 3 0 g.length, .b b]), some (.row false none .str []), some (.row false none .str g)]) e y
  | 0, i, a, g, b, hi, hg, e, y, hx => by
    have hr := sfa_round l l.length i a g.length b g
    rw [ifB_false (decide_eq_false (by omega))] at hr
    rw [List.drop_eq_nil_of_le (by omega)] at hx
    cases hx
    exact .stop _ _ _ hr (by simp)
  | j + 1, i, a, g, b, hi, hg, e, y, hx => by
    have hil : i < l.length := by omega
    have hM : maxI = 9223372036854775807 := rfl
    have hs := goodR_short hg
    have hr := sfa_round l l.length i a g.length b g
    rw [ifB_true (decide_eq_true (by omega)), ifT_true (by simp only [Bool.and_eq_true, decide_eq_true_eq]; omega)] at hr
    simp only [Int.toNat_natCast, List.drop_zero, List.take_length, List.getElem?_eq_getElem hil, ifSome_s, wrap_succ (n := i) (by omega), nilT_eq] at hr
    rw [ifT_true (decide_eq_true (by omega))] at hr
    rw [List.drop_eq_getElem_cons hil, okP_cons] at hx
    by_cases h3 : l[i].length ≤ 300
    · have ho : fdO a g b l[i] = true := by unfold fdO; rw [hg]; simpa using h3
      have hf := feed_good l[i] hg
      rw [ho, ifB_false (by rfl : (!true) = false)] at hr
      unfold fdA fdQ fdB at hr
      rw [ho] at hr
      simp only [cond_true] at hr
      rw [decide_eq_true h3, Bool.true_and] at hx
      exact .step _ _ _ _ hr (sfa_loop l hl j (i + 1) _ _ _ (by omega) hf e y hx)
    · have ho : fdO a g b l[i] = false := by unfold fdO; rw [hg]; simpa using h3
      rw [ho, ifB_true (by rfl : (!false) = true)] at hr
      rw [decide_eq_false h3, Bool.false_and] at hx
      cases hx
      exact .stop _ _ _ hr (by simp)
theorem sfa_ok : LoopsOk Try.prog (look [(84, .rd1 newRG), (85, .rd1 feedRG)]) (look [(5, sfaE)]) 0 (Try.f18.body.getD .skip) := by
  refine loopsOk_one (a := body Try.f18 0) (by kernel_rfl) fun x e y hq => ?_
  unfold sfaE at hq
  dsimp only at hq
  split at hq
  · rename_i l m i a n b g
    obtain ⟨hc, hx⟩ := need_some hq
    clear hq
    rw [Bool.and_eq_true] at hc
    obtain ⟨h0, rfl, h1, rfl, h2⟩ := of_decide_eq_true hc.1
    obtain ⟨i, rfl⟩ := Int.eq_ofNat_of_zero_le h0
    rw [Int.toNat_natCast] at h1 hx
    exact sfa_loop l h2 (l.length - i) i a g b (by omega) hc.2 e y hx
  · cases hq
theorem sfa_fun (l : List (List UInt8)) : funN Try.prog (look [(84, .rd1 newRG), (85, .rd1 feedRG)]) (look [(5, sfaE)]) Try.f18 [.sl .str l] [] = (.leaf (.tup [.agg [.s (faA l), .ref 0 0 (faQ l).length, .b (faB l)], .b (faO l)], [some (.row false none .str (faQ l))]) : Br (V × List (Option Blk))).run := by
  have e : funN Try.prog (look [(84, .rd1 newRG), (85, .rd1 feedRG)]) (look [(5, sfaE)]) Try.f18 [.sl .str l] [] = ((ifB (decide ((↑l.length : Int) > (60 : Int)))
  (some
  (V.tup [V.agg [V.s (nilT UInt8), V.ref (0 : Nat) (0 : Nat) (0 : Nat), V.b false], V.b false],
  [some (Blk.row false none Cd.str (nilT Cd.str.den))]))
  (ifT
  (decide
  ((0 : Int) ≤ (0 : Int) ∧
  (↑l.length : Int) = (↑l.length : Int) ∧
  (0 : Nat) ≤ l.length ∧ (1 : Nat) = (1 : Nat) ∧ l.length ≤ (60 : Nat)) &&
  goodR (nilT UInt8) (nilT UInt8 :: nilT Cd.str.den) false)
  (ifB (okP (List.drop (0 : Nat) l))
  (some
  (V.tup
  [V.agg
  [V.s (fedA (List.drop (0 : Nat) l) (nilT UInt8) false),
  V.ref (0 : Nat) (0 : Nat)
  (fedQ (List.drop (0 : Nat) l) (nilT UInt8) (nilT UInt8 :: nilT Cd.str.den) false).length,
  V.b (fedB (List.drop (0 : Nat) l) (nilT UInt8) false)],
  V.b true],
  [some
  (Blk.row false none Cd.str
  (fedQ (List.drop (0 : Nat) l) (nilT UInt8) (nilT UInt8 :: nilT Cd.str.den) false))]))
  (some
  (V.tup [V.agg [V.s (nilT UInt8), V.ref (0 : Nat) (0 : Nat) (0 : Nat), V.b false], V.b false],
  [some (Blk.row false none Cd.str (nilT Cd.str.den))]))))) : _) := by kernel_rfl
  rw [e]
  clear e
  unfold faA faQ faB faO
  by_cases h : l.length ≤ 60
  · rw [ifB_false (decide_eq_false (by omega)), ifT_true (by rw [Bool.and_eq_true]; exact ⟨decide_eq_true ⟨by omega, by trivial, by omega, by trivial, h⟩, new_goodR⟩), decide_eq_true h, Bool.true_and]
    simp only [List.drop_zero]
    cases okP l <;> rfl
  · rw [ifB_true (decide_eq_true (by omega)), decide_eq_false h, Bool.false_and]
    rfl
theorem sfa : Contract Try.prog 18 (Ent.rd1 feedAllG).F := by
  refine fun_contractN' (KnowsL.cons (enters_fn Try.func84 (by kernel_rfl) (by kernel_rfl)) specNewR (KnowsL.cons (enters_fn Try.func85 (by kernel_rfl) (by kernel_rfl)) specFR KnowsL.nil)).knows (Λ := (look [(5, sfaE)])) Try.func18 (c := Try.f18.body.getD .skip) (by kernel_rfl) fun vs bs r hq hv hb => ?_
  unfold Ent.F feedAllG at hq
  dsimp only at hq
  split at hq
  · rename_i l
    exact ⟨sfa_ok, (sfa_fun l).trans hq⟩
  · cases hq
theorem sameR_fun (a0 : List UInt8) (a1 : List (List UInt8)) (a2 : Bool) (b0 : List UInt8) (b1 : List (List UInt8)) (b2 : Bool) : funK Try.prog (look [(24, .rd1 sameTextsG)]) (look []) Try.f19 [.agg [.s a0, .sl .str a1, .b a2], .agg [.s b0, .sl .str b1, .b b2]] [] = (.leaf (.b (decide (a0 = b0 ∧ a2 = b2 ∧ a1 = b1)), []) : Br (V × List (Option Blk))).run := by
  have e : funK Try.prog (look [(24, .rd1 sameTextsG)]) (look []) Try.f19 [.agg [.s a0, .sl .str a1, .b a2], .agg [.s b0, .sl .str b1, .b b2]] [] = ((ifB (a0 == b0) (ifB (a2 == b2) (some (V.b (decide (a1 = b1)), [])) (some (V.b false, []))) (some (V.b false, []))) : _) := by kernel_rfl
  rw [e]
  clear e
  simp only [Br.run]
  by_cases h0 : a0 = b0 <;> by_cases h1 : a1 = b1 <;> by_cases h2 : a2 = b2 <;> simp [h0, h1, h2]
theorem sameR : Contract Try.prog 19 (Ent.rd1 sameRG).F := by
  refine fun_contract' (KnowsL.cons (enters_fn Try.func24 (by kernel_rfl) (by kernel_rfl)) sameTexts KnowsL.nil).knows (Λ := look []) Try.func19 (c := Try.f19.body.getD .skip) (by kernel_rfl) fun vs bs r' hq hv hb => ?_
  unfold Ent.F sameRG at hq
  dsimp only at hq
  split at hq
  · rename_i a0 a1 a2 b0 b1 b2
    exact ⟨loopsOk_nil _, (sameR_fun a0 a1 a2 b0 b1 b2).trans hq⟩
  · cases hq
end Go.Proofs.Ytjghbihlgfjebaa.Den
