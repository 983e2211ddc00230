/- What functions of the program do, by the machine: GoodP. -/
import Derived.Test.YtjghbihlgfjebaaDBeg
import Derived.KernelRfl
import Derived.Test.YtjghbihlgfjebaaRows
namespace Go.Proofs.Ytjghbihlgfjebaa.Den
open Go.Proofs
set_option maxRecDepth 100000
def gsp1E : LoopEnt := ⟨128, [1,11,12,13], [1], [2], fun
  | ([.ptr 0 0, .sl .str l, .i .i64 m, .i .i64 n], [some (.box [.i .i64 s0, .sl .str s1, .i .i64 s2, .sl .str s3, .sl (.pair (.int .i64) (.pair (.int .i64) (.pair .str .unit))) s4, .sl (.pair (.int .i64) (.pair (.int .i64) .unit)) s5])]) =>
    .need (decide (0 ≤ n ∧ m = l.length ∧ n.toNat ≤ l.length ∧ l.length ≤ maxI)) (.br ((l.drop n.toNat).all (fun z : List UInt8 => decide (z.length ≤ 20))) (.leaf (.exit 0, ([.ptr 0 0], [some (.box [.i .i64 s0, .sl .str s1, .i .i64 s2, .sl .str s3, .sl (.pair (.int .i64) (.pair (.int .i64) (.pair .str .unit))) s4, .sl (.pair (.int .i64) (.pair (.int .i64) .unit)) s5])]))) (.leaf (.ret, ([.b false], []))))
  | _ => .no⟩
def gsp2E : LoopEnt := ⟨128, [1,5,62,63,64], [1,5], [2], fun
  | ([.ptr 0 0, .i .i64 t, .sl (.pair (.int .i64) (.pair (.int .i64) (.pair .str .unit))) l, .i .i64 m, .i .i64 n], [some (.box [.i .i64 s0, .sl .str s1, .i .i64 s2, .sl .str s3, .sl (.pair (.int .i64) (.pair (.int .i64) (.pair .str .unit))) s4, .sl (.pair (.int .i64) (.pair (.int .i64) .unit)) s5])]) =>
    .need (decide ((-lim ≤ s2 ∧ s2 ≤ lim) ∧ s1.length ≤ maxI ∧ 0 ≤ n ∧ m = l.length ∧ n.toNat ≤ l.length ∧ l.length ≤ maxI)) (.br ((l.drop n.toNat).all (fun z : (Int × Int × List UInt8 × Unit) => decide (1 ≤ z.1 ∧ z.1 ≤ s0 ∧ 0 ≤ z.2.1 ∧ z.2.1 < s2 + 4 ∧ s1[z.2.1.toNat]? = some z.2.2.1))) (.leaf (.exit 2, ([.ptr 0 0, .i .i64 t], [some (.box [.i .i64 s0, .sl .str s1, .i .i64 s2, .sl .str s3, .sl (.pair (.int .i64) (.pair (.int .i64) (.pair .str .unit))) s4, .sl (.pair (.int .i64) (.pair (.int .i64) .unit)) s5])]))) (.leaf (.ret, ([.b false], []))))
  | _ => .no⟩
def gsp3E : LoopEnt := ⟨128, [1,5,108,109,110], [], [2], fun
  | ([.ptr 0 0, .i .i64 t, .sl (.pair (.int .i64) (.pair (.int .i64) .unit)) l, .i .i64 m, .i .i64 n], [some (.box [.i .i64 s0, .sl .str s1, .i .i64 s2, .sl .str s3, .sl (.pair (.int .i64) (.pair (.int .i64) (.pair .str .unit))) s4, .sl (.pair (.int .i64) (.pair (.int .i64) .unit)) s5])]) =>
    .need (decide (0 ≤ n ∧ m = l.length ∧ n.toNat ≤ l.length ∧ l.length ≤ maxI)) (.br ((l.drop n.toNat).all (fun z : (Int × Int × Unit) => decide ((1 ≤ z.1 ∧ z.1 ≤ s0) ∧ (0 ≤ z.2.1 ∧ z.2.1 ≤ t)))) (.leaf (.exit 4, ([], []))) (.leaf (.ret, ([.b false], []))))
  | _ => .no⟩
def specGoodG : List V → List Blk → Br (V × List (Option Blk))
  | [.agg [.i .i64 s0, .sl .str s1, .i .i64 s2, .sl .str s3, .sl (.pair (.int .i64) (.pair (.int .i64) (.pair .str .unit))) s4, .sl (.pair (.int .i64) (.pair (.int .i64) .unit)) s5]], [] => .need (decide (s3.length ≤ lim)) (.leaf (.b (goodS s0 s1 s2 s3 s4 s5), []))
  | _, _ => .no
theorem gsp1_round (s0 : Int) (s1 : List (List UInt8)) (s2 : Int) (s3 : List (List UInt8)) (s4 : List (Int × Int × List UInt8 × Unit)) (s5 : List (Int × Int × Unit)) (l : List (List UInt8)) (n : Nat) : roundK Try.prog (look [(116, .rd1 l15TextG), (117, .rd1 l1InG), (118, .rd1 begG)]) (look [(2, gsp1E), (11, gsp2E), (17, gsp3E)]) 0 (body Try.f43 0) gsp1E ([.ptr 0 0, .sl .str l, .i .i64 (↑l.length : Int), .i .i64 n], [some (.box [.i .i64 s0, .sl .str s1, .i .i64 s2, .sl .str s3, .sl (.pair (.int .i64) (.pair (.int .i64) (.pair .str .unit))) s4, .sl (.pair (.int .i64) (.pair (.int .i64) .unit)) s5])]) =
    ((ifB (decide ((↑n : Int) < (↑l.length : Int)))
  (ifT (decide ((0 : Int) ≤ (↑n : Int)) && decide ((↑n : Int) < (↑l.length : Int)))
  (ifSome l[((↑n : Int)).toNat]? fun z =>
  ifB (!decide (List.length z ≤ (20 : Nat))) (some (Ex.ret, [V.b false], []))
  (some
  (Ex.normal,
  [V.ptr (0 : Nat) (0 : Nat), V.sl Cd.str l, V.i IntKind.i64 (↑l.length : Int),
  V.i IntKind.i64 (IntKind.i64.wrap ((↑n : Int) + (1 : Int)))],
  [some
  (Blk.box
  [V.i IntKind.i64 s0, V.sl Cd.str s1, V.i IntKind.i64 s2, V.sl Cd.str s3,
  V.sl ((Cd.int IntKind.i64).pair ((Cd.int IntKind.i64).pair (Cd.str.pair Cd.unit))) s4,
  V.sl ((Cd.int IntKind.i64).pair ((Cd.int IntKind.i64).pair Cd.unit)) s5])]))))
  (some
  (Ex.exit (0 : Nat), [V.ptr (0 : Nat) (0 : Nat)],
  [some
  (Blk.box
  [V.i IntKind.i64 s0, V.sl Cd.str s1, V.i IntKind.i64 s2, V.sl Cd.str s3,
  V.sl ((Cd.int IntKind.i64).pair ((Cd.int IntKind.i64).pair (Cd.str.pair Cd.unit))) s4,
  V.sl ((Cd.int IntKind.i64).pair ((Cd.int IntKind.i64).pair Cd.unit)) s5])]))) : _) := by kernel_rfl
theorem gsp2_round (s0 : Int) (s1 : List (List UInt8)) (s2 : Int) (s3 : List (List UInt8)) (s4 : List (Int × Int × List UInt8 × Unit)) (s5 : List (Int × Int × Unit)) (t : Int) (l : List (Int × Int × List UInt8 × Unit)) (n : Nat) : roundK Try.prog (look [(116, .rd1 l15TextG), (117, .rd1 l1InG), (118, .rd1 begG)]) (look [(2, gsp1E), (11, gsp2E), (17, gsp3E)]) 0 (body Try.f43 1) gsp2E ([.ptr 0 0, .i .i64 t, .sl (.pair (.int .i64) (.pair (.int .i64) (.pair .str .unit))) l, .i .i64 (↑l.length : Int), .i .i64 n], [some (.box [.i .i64 s0, .sl .str s1, .i .i64 s2, .sl .str s3, .sl (.pair (.int .i64) (.pair (.int .i64) (.pair .str .unit))) s4, .sl (.pair (.int .i64) (.pair (.int .i64) .unit)) s5])]) =
    ((ifB (decide ((↑n : Int) < (↑l.length : Int)))
  (ifT (decide ((0 : Int) ≤ (↑n : Int)) && decide ((↑n : Int) < (↑l.length : Int)))
  (ifSome l[((↑n : Int)).toNat]? fun z =>
  ifB (!decide ((1 : Int) ≤ z.fst ∧ z.fst ≤ s0)) (some (Ex.ret, [V.b false], []))
  (ifB (decide (z.snd.fst < (0 : Int))) (some (Ex.ret, [V.b false], []))
  (ifB (decide (z.snd.fst ≥ (↑s1.length : Int))) (some (Ex.ret, [V.b false], []))
  (ifB (decide (z.snd.fst ≥ IntKind.i64.wrap (s2 + (4 : Int)))) (some (Ex.ret, [V.b false], []))
  (ifT (decide ((0 : Int) ≤ z.snd.fst) && decide (z.snd.fst < (↑s1.length : Int)))
  (ifSome s1[Int.toNat z.snd.fst]? fun z_1 =>
  ifB (!z.snd.snd.fst == z_1) (some (Ex.ret, [V.b false], []))
  (some
  (Ex.normal,
  [V.ptr (0 : Nat) (0 : Nat), V.i IntKind.i64 t,
  V.sl ((Cd.int IntKind.i64).pair ((Cd.int IntKind.i64).pair (Cd.str.pair Cd.unit))) l,
  V.i IntKind.i64 (↑l.length : Int),
  V.i IntKind.i64 (IntKind.i64.wrap ((↑n : Int) + (1 : Int)))],
  [some
  (Blk.box
  [V.i IntKind.i64 s0, V.sl Cd.str s1, V.i IntKind.i64 s2, V.sl Cd.str s3,
  V.sl ((Cd.int IntKind.i64).pair ((Cd.int IntKind.i64).pair (Cd.str.pair Cd.unit))) s4,
  V.sl ((Cd.int IntKind.i64).pair ((Cd.int IntKind.i64).pair Cd.unit)) s5])])))))))))
  (some
  (Ex.exit (2 : Nat), [V.ptr (0 : Nat) (0 : Nat), V.i IntKind.i64 t],
  [some
  (Blk.box
  [V.i IntKind.i64 s0, V.sl Cd.str s1, V.i IntKind.i64 s2, V.sl Cd.str s3,
  V.sl ((Cd.int IntKind.i64).pair ((Cd.int IntKind.i64).pair (Cd.str.pair Cd.unit))) s4,
  V.sl ((Cd.int IntKind.i64).pair ((Cd.int IntKind.i64).pair Cd.unit)) s5])]))) : _) := by kernel_rfl
theorem gsp3_round (s0 : Int) (s1 : List (List UInt8)) (s2 : Int) (s3 : List (List UInt8)) (s4 : List (Int × Int × List UInt8 × Unit)) (s5 : List (Int × Int × Unit)) (t : Int) (l : List (Int × Int × Unit)) (n : Nat) : roundK Try.prog (look [(116, .rd1 l15TextG), (117, .rd1 l1InG), (118, .rd1 begG)]) (look [(2, gsp1E), (11, gsp2E), (17, gsp3E)]) 0 (body Try.f43 2) gsp3E ([.ptr 0 0, .i .i64 t, .sl (.pair (.int .i64) (.pair (.int .i64) .unit)) l, .i .i64 (↑l.length : Int), .i .i64 n], [some (.box [.i .i64 s0, .sl .str s1, .i .i64 s2, .sl .str s3, .sl (.pair (.int .i64) (.pair (.int .i64) (.pair .str .unit))) s4, .sl (.pair (.int .i64) (.pair (.int .i64) .unit)) s5])]) =
    ((ifB (decide ((↑n : Int) < (↑l.length : Int)))
  (ifT (decide ((0 : Int) ≤ (↑n : Int)) && decide ((↑n : Int) < (↑l.length : Int)))
  (ifSome l[((↑n : Int)).toNat]? fun z =>
  ifB (!decide ((1 : Int) ≤ z.fst ∧ z.fst ≤ s0)) (some (Ex.ret, [V.b false], []))
  (ifB (!decide ((0 : Int) ≤ z.snd.fst ∧ z.snd.fst ≤ t)) (some (Ex.ret, [V.b false], []))
  (some
  (Ex.normal,
  [V.ptr (0 : Nat) (0 : Nat), V.i IntKind.i64 t,
  V.sl ((Cd.int IntKind.i64).pair ((Cd.int IntKind.i64).pair Cd.unit)) l,
  V.i IntKind.i64 (↑l.length : Int), V.i IntKind.i64 (IntKind.i64.wrap ((↑n : Int) + (1 : Int)))],
  [some
  (Blk.box
  [V.i IntKind.i64 s0, V.sl Cd.str s1, V.i IntKind.i64 s2, V.sl Cd.str s3,
  V.sl ((Cd.int IntKind.i64).pair ((Cd.int IntKind.i64).pair (Cd.str.pair Cd.unit))) s4,
  V.sl ((Cd.int IntKind.i64).pair ((Cd.int IntKind.i64).pair Cd.unit)) s5])])))))
  (some (Ex.exit (4 : Nat), [], []))) : _) := by kernel_rfl
theorem gsp_fun0 (s0 : Int) (s1 : List (List UInt8)) (s2 : Int) (s3 : List (List UInt8)) (s4 : List (Int × Int × List UInt8 × Unit)) (s5 : List (Int × Int × Unit)) : funK Try.prog (look [(116, .rd1 l15TextG), (117, .rd1 l1InG), (118, .rd1 begG)]) (look [(2, gsp1E), (11, gsp2E), (17, gsp3E)]) Try.f43 [.agg [.i .i64 s0, .sl .str s1, .i .i64 s2, .sl .str s3, .sl (.pair (.int .i64) (.pair (.int .i64) (.pair .str .unit))) s4, .sl (.pair (.int .i64) (.pair (.int .i64) .unit)) s5]] [] =
    ((ifT
  (decide ((0 : Int) ≤ (0 : Int) ∧ (↑s1.length : Int) = (↑s1.length : Int) ∧ (0 : Nat) ≤ s1.length ∧ s1.length ≤ maxI))
  (ifB ((List.drop (0 : Nat) s1).all fun z => decide (z.length ≤ (20 : Nat)))
  (ifB (!decide ((1 : Int) ≤ s0 ∧ s0 ≤ (1000 : Int))) (some (V.b false, []))
  (ifB (decide ((↑s1.length : Int) > (30 : Int))) (some (V.b false, []))
  (ifB (!beg s3 s1) (some (V.b false, []))
  (ifB (!decide ((0 : Int) ≤ s2 ∧ s2 ≤ (↑s3.length : Int))) (some (V.b false, []))
  (ifB (decide ((↑s4.length : Int) > (12 : Int))) (some (V.b false, []))
  (ifB (decide ((↑s5.length : Int) > (12 : Int))) (some (V.b false, []))
  (ifT
  (decide
  ((-lim ≤ s2 ∧ s2 ≤ lim) ∧
  s1.length ≤ maxI ∧
  (0 : Int) ≤ (0 : Int) ∧
  (↑s4.length : Int) = (↑s4.length : Int) ∧ (0 : Nat) ≤ s4.length ∧ s4.length ≤ maxI))
  (ifB
  ((List.drop (0 : Nat) s4).all fun z =>
  decide
  ((1 : Int) ≤ z.fst ∧
  z.fst ≤ s0 ∧
  (0 : Int) ≤ z.snd.fst ∧
  z.snd.fst < s2 + (4 : Int) ∧ s1[z.snd.fst.toNat]? = some z.snd.snd.fst))
  (ifT
  (decide
  ((0 : Int) ≤ (0 : Int) ∧
  (↑s5.length : Int) = (↑s5.length : Int) ∧ (0 : Nat) ≤ s5.length ∧ s5.length ≤ maxI))
  (ifB
  ((List.drop (0 : Nat) s5).all fun z =>
  decide
  (((1 : Int) ≤ z.fst ∧ z.fst ≤ s0) ∧ (0 : Int) ≤ z.snd.fst ∧ z.snd.fst ≤ (↑s3.length : Int)))
  (some (V.b true, [])) (some (V.b false, []))))
  (some (V.b false, []))))))))))
  (some (V.b false, [])))) : _) := by kernel_rfl
theorem beg_eq : ∀ (a b : List (List UInt8)), beg a b = (decide (a.length ≤ b.length) && decide (a = b.take a.length))
  | [], b => by simp [beg]
  | x :: a, [] => by simp [beg]
  | x :: a, y :: b => by
    rw [beg, beg_eq a b]
    by_cases h : x = y
    · subst h; simp
    · simp [h]
theorem gsp1_loop (s0 : Int) (s1 : List (List UInt8)) (s2 : Int) (s3 : List (List UInt8)) (s4 : List (Int × Int × List UInt8 × Unit)) (s5 : List (Int × Int × Unit)) (l : List (List UInt8)) (hx : l.length ≤ maxI) : ∀ (j n : Nat), n + j = l.length → ∀ e d', (Br.br ((l.drop n).all (fun z : List UInt8 => decide (z.length ≤ 20))) (.leaf (.exit 0, ([.ptr 0 0], [some (.box [.i .i64 s0, .sl .str s1, .i .i64 s2, .sl .str s3, .sl (.pair (.int .i64) (.pair (.int .i64) (.pair .str .unit))) s4, .sl (.pair (.int .i64) (.pair (.int .i64) .unit)) s5])]))) (.leaf (.ret, ([.b false], []))) : Br (Ex × Dt)).run = some (e, d') → Runs Try.prog (look [(116, .rd1 l15TextG), (117, .rd1 l1InG), (118, .rd1 begG)]) (look [(2, gsp1E), (11, gsp2E), (17, gsp3E)]) 0 (body Try.f43 0) gsp1E ((fun n => ([.ptr 0 0, .sl .str l, .i .i64 (↑l.length : Int), .i .i64 (↑n : Int)], [some (.box [.i .i64 s0, .sl .str s1, .i .i64 s2, .sl .str s3, .sl (.pair (.int .i64) (.pair (.int .i64) (.pair .str .unit))) s4, .sl (.pair (.int .i64) (.pair (.int .i64) .unit)) s5])])) n) e d' := by
  refine runs_all (fun z : List UInt8 => decide (z.length ≤ 20)) (fun n => ([.ptr 0 0, .sl .str l, .i .i64 (↑l.length : Int), .i .i64 (↑n : Int)], [some (.box [.i .i64 s0, .sl .str s1, .i .i64 s2, .sl .str s3, .sl (.pair (.int .i64) (.pair (.int .i64) (.pair .str .unit))) s4, .sl (.pair (.int .i64) (.pair (.int .i64) .unit)) s5])])) (ex := (.exit 0, ([.ptr 0 0], [some (.box [.i .i64 s0, .sl .str s1, .i .i64 s2, .sl .str s3, .sl (.pair (.int .i64) (.pair (.int .i64) (.pair .str .unit))) s4, .sl (.pair (.int .i64) (.pair (.int .i64) .unit)) s5])]))) (rt := (.ret, ([.b false], []))) (by simp) (by simp) (fun n h => ?_) ?_
  · have hr := gsp1_round s0 s1 s2 s3 s4 s5 l n
    simp only [Int.toNat_natCast, List.getElem?_eq_getElem h, wrap_succ (n := n) (by omega)] at hr
    rw [ifB_true (by simp [h]), ifT_true (by simp [h]), ifSome_s] at hr
    refine hr.trans ?_
    generalize l[n] = z
    by_cases q : z.length ≤ 20 <;> simp [q]
  · refine (gsp1_round s0 s1 s2 s3 s4 s5 l l.length).trans ?_
    rw [ifB_false (by simp)]
theorem gsp1_ok : ∀ d e d', ((gsp1E).L d).run = some (e, d') → Runs Try.prog (look [(116, .rd1 l15TextG), (117, .rd1 l1InG), (118, .rd1 begG)]) (look [(2, gsp1E), (11, gsp2E), (17, gsp3E)]) 0 (body Try.f43 0) gsp1E d e d' := by
  intro d e d' h
  unfold gsp1E at h
  dsimp only at h
  split at h
  · obtain ⟨hc, h'⟩ := need_some h
    obtain ⟨h0, rfl, h1, h2⟩ := of_decide_eq_true hc
    obtain ⟨n, rfl⟩ := Int.eq_ofNat_of_zero_le h0
    exact gsp1_loop _ _ _ _ _ _ _ h2 _ n (Nat.add_sub_of_le h1) e d' h'
  · cases h
theorem gsp2_loop (s0 : Int) (s1 : List (List UInt8)) (s2 : Int) (s3 : List (List UInt8)) (s4 : List (Int × Int × List UInt8 × Unit)) (s5 : List (Int × Int × Unit)) (t : Int) (l : List (Int × Int × List UInt8 × Unit)) (hs : -lim ≤ s2 ∧ s2 ≤ lim) (h5 : s1.length ≤ maxI) (hx : l.length ≤ maxI) : ∀ (j n : Nat), n + j = l.length → ∀ e d', (Br.br ((l.drop n).all (fun z : (Int × Int × List UInt8 × Unit) => decide (1 ≤ z.1 ∧ z.1 ≤ s0 ∧ 0 ≤ z.2.1 ∧ z.2.1 < s2 + 4 ∧ s1[z.2.1.toNat]? = some z.2.2.1))) (.leaf (.exit 2, ([.ptr 0 0, .i .i64 t], [some (.box [.i .i64 s0, .sl .str s1, .i .i64 s2, .sl .str s3, .sl (.pair (.int .i64) (.pair (.int .i64) (.pair .str .unit))) s4, .sl (.pair (.int .i64) (.pair (.int .i64) .unit)) s5])]))) (.leaf (.ret, ([.b false], []))) : Br (Ex × Dt)).run = some (e, d') → Runs Try.prog (look [(116, .rd1 l15TextG), (117, .rd1 l1InG), (118, .rd1 begG)]) (look [(2, gsp1E), (11, gsp2E), (17, gsp3E)]) 0 (body Try.f43 1) gsp2E ((fun n => ([.ptr 0 0, .i .i64 t, .sl (.pair (.int .i64) (.pair (.int .i64) (.pair .str .unit))) l, .i .i64 (↑l.length : Int), .i .i64 (↑n : Int)], [some (.box [.i .i64 s0, .sl .str s1, .i .i64 s2, .sl .str s3, .sl (.pair (.int .i64) (.pair (.int .i64) (.pair .str .unit))) s4, .sl (.pair (.int .i64) (.pair (.int .i64) .unit)) s5])])) n) e d' := by
  refine runs_all (fun z : (Int × Int × List UInt8 × Unit) => decide (1 ≤ z.1 ∧ z.1 ≤ s0 ∧ 0 ≤ z.2.1 ∧ z.2.1 < s2 + 4 ∧ s1[z.2.1.toNat]? = some z.2.2.1)) (fun n => ([.ptr 0 0, .i .i64 t, .sl (.pair (.int .i64) (.pair (.int .i64) (.pair .str .unit))) l, .i .i64 (↑l.length : Int), .i .i64 (↑n : Int)], [some (.box [.i .i64 s0, .sl .str s1, .i .i64 s2, .sl .str s3, .sl (.pair (.int .i64) (.pair (.int .i64) (.pair .str .unit))) s4, .sl (.pair (.int .i64) (.pair (.int .i64) .unit)) s5])])) (ex := (.exit 2, ([.ptr 0 0, .i .i64 t], [some (.box [.i .i64 s0, .sl .str s1, .i .i64 s2, .sl .str s3, .sl (.pair (.int .i64) (.pair (.int .i64) (.pair .str .unit))) s4, .sl (.pair (.int .i64) (.pair (.int .i64) .unit)) s5])]))) (rt := (.ret, ([.b false], []))) (by simp) (by simp) (fun n h => ?_) ?_
  · have hr := gsp2_round s0 s1 s2 s3 s4 s5 t l n
    simp only [Int.toNat_natCast, List.getElem?_eq_getElem h, wrap_succ (n := n) (by omega)] at hr
    rw [ifB_true (by simp [h]), ifT_true (by simp [h]), ifSome_s] at hr
    refine hr.trans ?_
    generalize l[n] = z
    unfold lim at hs
    rw [wrap_id (n := s2 + 4) (by omega) (by omega)]
    by_cases q0 : 1 ≤ z.1 ∧ z.1 ≤ s0
    · rw [ifB_false (by simp [q0])]
      by_cases q1 : z.2.1 < 0
      · rw [ifB_true (decide_eq_true q1), decide_eq_false (fun h => by omega)]; rfl
      · rw [ifB_false (decide_eq_false q1)]
        by_cases q2 : z.2.1 ≥ s1.length
        · rw [ifB_true (decide_eq_true q2), decide_eq_false (fun h => by
            have := (List.getElem?_eq_some_iff.1 h.2.2.2.2).1
            omega)]; rfl
        · rw [ifB_false (decide_eq_false q2)]
          by_cases q3 : z.2.1 ≥ s2 + 4
          · rw [ifB_true (decide_eq_true q3), decide_eq_false (fun h => by omega)]; rfl
          · rw [ifB_false (decide_eq_false q3), ifT_true (by simp; omega), List.getElem?_eq_getElem (show z.2.1.toNat < s1.length by omega), ifSome_s]
            by_cases q4 : s1[z.2.1.toNat]'(by omega) = z.2.2.1
            · rw [ifB_false (by simp [q4]), decide_eq_true ⟨q0.1, q0.2, by omega, by omega, congrArg some q4⟩]; rfl
            · rw [ifB_true (by simpa using fun h => q4 h.symm), decide_eq_false (fun h => q4 (Option.some.inj h.2.2.2.2))]; rfl
    · rw [ifB_true (by simp only [q0, decide_false, Bool.not_false]), decide_eq_false (fun h => q0 ⟨h.1, h.2.1⟩)]; rfl
  · refine (gsp2_round s0 s1 s2 s3 s4 s5 t l l.length).trans ?_
    rw [ifB_false (by simp)]
theorem gsp2_ok : ∀ d e d', ((gsp2E).L d).run = some (e, d') → Runs Try.prog (look [(116, .rd1 l15TextG), (117, .rd1 l1InG), (118, .rd1 begG)]) (look [(2, gsp1E), (11, gsp2E), (17, gsp3E)]) 0 (body Try.f43 1) gsp2E d e d' := by
  intro d e d' h
  unfold gsp2E at h
  dsimp only at h
  split at h
  · obtain ⟨hc, h'⟩ := need_some h
    obtain ⟨hs, h5, h0, rfl, h1, h2⟩ := of_decide_eq_true hc
    obtain ⟨n, rfl⟩ := Int.eq_ofNat_of_zero_le h0
    exact gsp2_loop _ _ _ _ _ _ _ _ hs h5 h2 _ n (Nat.add_sub_of_le h1) e d' h'
  · cases h
theorem gsp3_loop (s0 : Int) (s1 : List (List UInt8)) (s2 : Int) (s3 : List (List UInt8)) (s4 : List (Int × Int × List UInt8 × Unit)) (s5 : List (Int × Int × Unit)) (t : Int) (l : List (Int × Int × Unit)) (hx : l.length ≤ maxI) : ∀ (j n : Nat), n + j = l.length → ∀ e d', (Br.br ((l.drop n).all (fun z : (Int × Int × Unit) => decide ((1 ≤ z.1 ∧ z.1 ≤ s0) ∧ (0 ≤ z.2.1 ∧ z.2.1 ≤ t)))) (.leaf (.exit 4, ([], []))) (.leaf (.ret, ([.b false], []))) : Br (Ex × Dt)).run = some (e, d') → Runs Try.prog (look [(116, .rd1 l15TextG), (117, .rd1 l1InG), (118, .rd1 begG)]) (look [(2, gsp1E), (11, gsp2E), (17, gsp3E)]) 0 (body Try.f43 2) gsp3E ((fun n => ([.ptr 0 0, .i .i64 t, .sl (.pair (.int .i64) (.pair (.int .i64) .unit)) l, .i .i64 (↑l.length : Int), .i .i64 (↑n : Int)], [some (.box [.i .i64 s0, .sl .str s1, .i .i64 s2, .sl .str s3, .sl (.pair (.int .i64) (.pair (.int .i64) (.pair .str .unit))) s4, .sl (.pair (.int .i64) (.pair (.int .i64) .unit)) s5])])) n) e d' := by
  refine runs_all (fun z : (Int × Int × Unit) => decide ((1 ≤ z.1 ∧ z.1 ≤ s0) ∧ (0 ≤ z.2.1 ∧ z.2.1 ≤ t))) (fun n => ([.ptr 0 0, .i .i64 t, .sl (.pair (.int .i64) (.pair (.int .i64) .unit)) l, .i .i64 (↑l.length : Int), .i .i64 (↑n : Int)], [some (.box [.i .i64 s0, .sl .str s1, .i .i64 s2, .sl .str s3, .sl (.pair (.int .i64) (.pair (.int .i64) (.pair .str .unit))) s4, .sl (.pair (.int .i64) (.pair (.int .i64) .unit)) s5])])) (ex := (.exit 4, ([], []))) (rt := (.ret, ([.b false], []))) (by simp) (by simp) (fun n h => ?_) ?_
  · have hr := gsp3_round s0 s1 s2 s3 s4 s5 t l n
    simp only [Int.toNat_natCast, List.getElem?_eq_getElem h, wrap_succ (n := n) (by omega)] at hr
    rw [ifB_true (by simp [h]), ifT_true (by simp [h]), ifSome_s] at hr
    refine hr.trans ?_
    generalize l[n] = z
    by_cases q : 1 ≤ z.1 ∧ z.1 ≤ s0 <;> by_cases q2 : 0 ≤ z.2.1 ∧ z.2.1 ≤ t <;> simp only [q, q2, ifB_not, ifB_t, ifB_f, ifB_dec', and_self, and_true, and_false, if_true, if_false, decide_true, decide_false, cond_true, cond_false]
  · refine (gsp3_round s0 s1 s2 s3 s4 s5 t l l.length).trans ?_
    rw [ifB_false (by simp)]
theorem gsp3_ok : ∀ d e d', ((gsp3E).L d).run = some (e, d') → Runs Try.prog (look [(116, .rd1 l15TextG), (117, .rd1 l1InG), (118, .rd1 begG)]) (look [(2, gsp1E), (11, gsp2E), (17, gsp3E)]) 0 (body Try.f43 2) gsp3E d e d' := by
  intro d e d' h
  unfold gsp3E at h
  dsimp only at h
  split at h
  · obtain ⟨hc, h'⟩ := need_some h
    obtain ⟨h0, rfl, h1, h2⟩ := of_decide_eq_true hc
    obtain ⟨n, rfl⟩ := Int.eq_ofNat_of_zero_le h0
    exact gsp3_loop _ _ _ _ _ _ _ _ h2 _ n (Nat.add_sub_of_le h1) e d' h'
  · cases h
theorem gsp_loops : LoopsOk Try.prog (look [(116, .rd1 l15TextG), (117, .rd1 l1InG), (118, .rd1 begG)]) (look [(2, gsp1E), (11, gsp2E), (17, gsp3E)]) 0 (Try.f43.body.getD .skip) :=
  LoopsI.loops (.cons (a := body Try.f43 0) (by kernel_rfl) gsp1_ok (.cons (a := body Try.f43 1) (by kernel_rfl) gsp2_ok (.cons (a := body Try.f43 2) (by kernel_rfl) gsp3_ok .nil))) (by kernel_rfl)
theorem any_not {α : Type} (l : List α) (p : α → Bool) : (!(l.any fun z => !p z)) = l.all p := by
  induction l with
  | nil => rfl
  | cons z l ih => simp only [List.any_cons, List.all_cons, Bool.not_or, Bool.not_not, ih]
theorem specGood_fun (s0 : Int) (s1 : List (List UInt8)) (s2 : Int) (s3 : List (List UInt8)) (s4 : List (Int × Int × List UInt8 × Unit)) (s5 : List (Int × Int × Unit)) (h1 : s1.length ≤ maxI) (h3 : s3.length ≤ lim) : funK Try.prog (look [(116, .rd1 l15TextG), (117, .rd1 l1InG), (118, .rd1 begG)]) (look [(2, gsp1E), (11, gsp2E), (17, gsp3E)]) Try.f43 [.agg [.i .i64 s0, .sl .str s1, .i .i64 s2, .sl .str s3, .sl (.pair (.int .i64) (.pair (.int .i64) (.pair .str .unit))) s4, .sl (.pair (.int .i64) (.pair (.int .i64) .unit)) s5]] [] = some (.b (goodS s0 s1 s2 s3 s4 s5), []) := by
  rw [gsp_fun0]
  simp only [List.drop_zero]
  unfold goodS
  rw [any_not s4 (fun z : (Int × Int × List UInt8 × Unit) => decide (1 ≤ z.1 ∧ z.1 ≤ s0 ∧ 0 ≤ z.2.1 ∧ z.2.1 < s2 + 4 ∧ s1[z.2.1.toNat]? = some z.2.2.1)), any_not s5 (fun z : (Int × Int × Unit) => decide ((1 ≤ z.1 ∧ z.1 ≤ s0) ∧ (0 ≤ z.2.1 ∧ z.2.1 ≤ (↑s3.length : Int)))), beg_eq]
  have e1 : (!(s1.any fun z => decide (20 < z.length))) = s1.all fun z => decide (z.length ≤ 20) := by
    rw [← any_not]; congr 2; funext z
    by_cases q : z.length ≤ 20 <;> simp [q] <;> omega
  rw [e1]
  rw [ifT_true (decide_eq_true ⟨by omega, trivial, by omega, h1⟩)]
  cases q2 : s1.all fun z => decide (z.length ≤ 20) with
  | false => simp only [ifB_f, Bool.false_and, Bool.and_false]
  | true =>
    rw [ifB_t]
    by_cases q0 : 1 ≤ s0 ∧ s0 ≤ 1000
    rotate_left
    · rw [ifB_true (by simp [q0]), decide_eq_false q0, Bool.false_and]
    rw [ifB_false (by simp [q0]), decide_eq_true q0, Bool.true_and, Bool.true_and]
    by_cases q1 : s1.length ≤ 30
    rotate_left
    · rw [ifB_true (decide_eq_true (by omega)), decide_eq_false q1, Bool.false_and]
    rw [ifB_false (decide_eq_false (by omega)), decide_eq_true q1, Bool.true_and]
    by_cases q3 : s3.length ≤ s1.length
    rotate_left
    · rw [decide_eq_false q3, ifB_true (by simp), Bool.false_and]
    by_cases q4 : s3 = s1.take s3.length
    rotate_left
    · rw [decide_eq_false q4, ifB_true (by simp), Bool.false_and, Bool.and_false]
    rw [decide_eq_true q3, decide_eq_true q4, ifB_false (by simp), Bool.true_and, Bool.true_and]
    by_cases q5 : 0 ≤ s2 ∧ s2 ≤ (↑s3.length : Int)
    rotate_left
    · rw [ifB_true (by simp only [q5, decide_false, Bool.not_false]), decide_eq_false q5, Bool.false_and]
    rw [ifB_false (by simp only [q5, and_self, decide_true, Bool.not_true]), decide_eq_true q5, Bool.true_and]
    by_cases q6 : s4.length ≤ 12
    rotate_left
    · rw [ifB_true (decide_eq_true (by omega)), decide_eq_false q6, Bool.false_and]
    rw [ifB_false (decide_eq_false (by omega)), decide_eq_true q6, Bool.true_and]
    by_cases q7 : s5.length ≤ 12
    rotate_left
    · rw [ifB_true (decide_eq_true (by omega)), decide_eq_false q7, Bool.false_and]
    rw [ifB_false (decide_eq_false (by omega)), decide_eq_true q7, Bool.true_and]
    unfold lim maxI at *
    rw [ifT_true (decide_eq_true ⟨by omega, by omega, by omega, trivial, by omega, by omega⟩)]
    rw [ifT_true (decide_eq_true ⟨by omega, trivial, by omega, by omega⟩)]
    cases s4.all (fun z : (Int × Int × List UInt8 × Unit) => decide (1 ≤ z.1 ∧ z.1 ≤ s0 ∧ 0 ≤ z.2.1 ∧ z.2.1 < s2 + 4 ∧ s1[z.2.1.toNat]? = some z.2.2.1))
    · rfl
    · cases s5.all (fun z : (Int × Int × Unit) => decide ((1 ≤ z.1 ∧ z.1 ≤ s0) ∧ (0 ≤ z.2.1 ∧ z.2.1 ≤ (↑s3.length : Int)))) <;> rfl
theorem specGood : Contract Try.prog 43 (Ent.rd1 specGoodG).F := by
  refine fun_contract' (KnowsL.cons (enters_fn Try.func116 (by kernel_rfl) (by kernel_rfl)) l15Text (KnowsL.cons (enters_fn Try.func117 (by kernel_rfl) (by kernel_rfl)) l1In (KnowsL.cons (enters_fn Try.func118 (by kernel_rfl) (by kernel_rfl)) l15Begins KnowsL.nil))).knows (Λ := (look [(2, gsp1E), (11, gsp2E), (17, gsp3E)])) Try.func43 (c := Try.f43.body.getD .skip) (by kernel_rfl) fun vs bs r h hv hb => ?_
  unfold Ent.F specGoodG at h
  dsimp only at h
  split at h
  · rename_i s0 s1 s2 s3 s4 s5
    obtain ⟨hc, h⟩ := need_some h
    have hc := of_decide_eq_true hc
    exact ⟨gsp_loops, (specGood_fun s0 s1 s2 s3 s4 s5 (hv (.agg [.i .i64 s0, .sl .str s1, .i .i64 s2, .sl .str s3, .sl (.pair (.int .i64) (.pair (.int .i64) (.pair .str .unit))) s4, .sl (.pair (.int .i64) (.pair (.int .i64) .unit)) s5]) (by simp) (.sl .str s1) (by simp)).1 hc).trans h⟩
  · cases h
theorem good_len {s0 : Int} {s1 : List (List UInt8)} {s2 : Int} {s3 : List (List UInt8)} {s4 : List (Int × Int × List UInt8 × Unit)} {s5 : List (Int × Int × Unit)} (h : goodS s0 s1 s2 s3 s4 s5 = true) : (1 ≤ s0 ∧ s0 ≤ 1000) ∧ s1.length ≤ 30 ∧ (∀ z ∈ s1, z.length ≤ 20) ∧ s3.length ≤ s1.length ∧ s3 = s1.take s3.length ∧ (0 ≤ s2 ∧ s2 ≤ (↑s3.length : Int)) ∧ s4.length ≤ 12 ∧ s5.length ≤ 12 ∧ (∀ z ∈ s4, 1 ≤ z.1 ∧ z.1 ≤ s0 ∧ 0 ≤ z.2.1 ∧ z.2.1 < s2 + 4 ∧ s1[z.2.1.toNat]? = some z.2.2.1) ∧ (∀ z ∈ s5, (1 ≤ z.1 ∧ z.1 ≤ s0) ∧ (0 ≤ z.2.1 ∧ z.2.1 ≤ (↑s3.length : Int))) := by
  unfold goodS at h
  simp only [Bool.and_eq_true, decide_eq_true_eq, Bool.not_eq_true', List.any_eq_false, Bool.not_eq_true, decide_eq_false_iff_not, Bool.not_eq_false'] at h
  obtain ⟨h0, h1, h2, h3, h4, h5, h6, h7, h8, h9⟩ := h
  exact ⟨h0, h1, fun z hz => by have := h2 z hz; omega, h3, h4, h5, h6, h7, fun z hz => by simpa using h8 z hz, fun z hz => by have := h9 z hz; simp at this; exact ⟨⟨this.1, this.2.1⟩, this.2.2⟩⟩
end Go.Proofs.Ytjghbihlgfjebaa.Den
