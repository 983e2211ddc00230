/- What functions of the program do, by the machine: Calm6. -/
import Derived.Test.YtjghbihlgfjebaaDCalm5
import Derived.KernelRfl
import Derived.Test.YtjghbihlgfjebaaRows
namespace Go.Proofs.Ytjghbihlgfjebaa.Den
open Go.Proofs
set_option maxRecDepth 100000
def calmG : List V → List Blk → Br (V × List (Option Blk))
  | [.agg [.i .i64 s0, .sl .str s1, .i .i64 s2, .sl .str s3, .sl (.pair (.int .i64) (.pair (.int .i64) (.pair .str .unit))) s4, .sl (.pair (.int .i64) (.pair (.int .i64) .unit)) s5]], [] => .need (decide ((s3.length : Int) ≤ lim)) (.leaf (.tup [.agg [.i .i64 (calmO (Ses.mk s0 s1 s2 s3 s4 s5)).e, .ref 0 0 (calmO (Ses.mk s0 s1 s2 s3 s4 s5)).it.length, .i .i64 (calmO (Ses.mk s0 s1 s2 s3 s4 s5)).b, .ref 1 0 (calmO (Ses.mk s0 s1 s2 s3 s4 s5)).ha.length, .ref 2 0 (calmO (Ses.mk s0 s1 s2 s3 s4 s5)).w.length, .ref 3 0 (calmO (Ses.mk s0 s1 s2 s3 s4 s5)).a.length], .i .i64 (calmN (Ses.mk s0 s1 s2 s3 s4 s5)), .b (goodS s0 s1 s2 s3 s4 s5)], [some (.row false none .str (calmO (Ses.mk s0 s1 s2 s3 s4 s5)).it), some (.row false none .str (calmO (Ses.mk s0 s1 s2 s3 s4 s5)).ha), some (.row false none (.pair (.int .i64) (.pair (.int .i64) (.pair .str .unit))) (calmO (Ses.mk s0 s1 s2 s3 s4 s5)).w), some (.row false none (.pair (.int .i64) (.pair (.int .i64) .unit)) (calmO (Ses.mk s0 s1 s2 s3 s4 s5)).a)]))
  | _, _ => .no
theorem implCalm_fun (s0 : Int) (s1 : List (List UInt8)) (s2 : Int) (s3 : List (List UInt8)) (s4 : List (Int × Int × List UInt8 × Unit)) (s5 : List (Int × Int × Unit)) (hs3 : (s3.length : Int) ≤ lim) : funN Try.prog (look [(30, .rd1 implGoodG), (68, .rd1 cloneSessionG), (69, .own settleG), (70, .own oSendCG)]) (look [(5, ciE)]) Try.f12 [.agg [.i .i64 s0, .sl .str s1, .i .i64 s2, .sl .str s3, .sl (.pair (.int .i64) (.pair (.int .i64) (.pair .str .unit))) s4, .sl (.pair (.int .i64) (.pair (.int .i64) .unit)) s5]] [] = (.leaf (.tup [.agg [.i .i64 (calmO (Ses.mk s0 s1 s2 s3 s4 s5)).e, .ref 0 0 (calmO (Ses.mk s0 s1 s2 s3 s4 s5)).it.length, .i .i64 (calmO (Ses.mk s0 s1 s2 s3 s4 s5)).b, .ref 1 0 (calmO (Ses.mk s0 s1 s2 s3 s4 s5)).ha.length, .ref 2 0 (calmO (Ses.mk s0 s1 s2 s3 s4 s5)).w.length, .ref 3 0 (calmO (Ses.mk s0 s1 s2 s3 s4 s5)).a.length], .i .i64 (calmN (Ses.mk s0 s1 s2 s3 s4 s5)), .b (goodS s0 s1 s2 s3 s4 s5)], [some (.row false none .str (calmO (Ses.mk s0 s1 s2 s3 s4 s5)).it), some (.row false none .str (calmO (Ses.mk s0 s1 s2 s3 s4 s5)).ha), some (.row false none (.pair (.int .i64) (.pair (.int .i64) (.pair .str .unit))) (calmO (Ses.mk s0 s1 s2 s3 s4 s5)).w), some (.row false none (.pair (.int .i64) (.pair (.int .i64) .unit)) (calmO (Ses.mk s0 s1 s2 s3 s4 s5)).a)]) : Br (V × List (Option Blk))).run := by
  rw [ci_fun0]
  skip
  cases q : goodS s0 s1 s2 s3 s4 s5 with
  | false =>
    have eO : calmO (Ses.mk s0 s1 s2 s3 s4 s5) = ⟨0, [], 0, [], [], []⟩ := by unfold calmO; dsimp only; rw [q]; rfl
    have eN : calmN (Ses.mk s0 s1 s2 s3 s4 s5) = 0 := by unfold calmN; dsimp only; rw [q]; rfl
    rw [eO, eN]
    rfl
  | true =>
    have gi := good_inv q
    have c4 : (Ses.mk s0 s1 s2 s3 s4 s5).calm.it = s1 := (Ses.calm_inv gi).2.2.2
    have eO : calmO (Ses.mk s0 s1 s2 s3 s4 s5) = (Ses.mk s0 s1 s2 s3 s4 s5).calm.run (Ses.mk s0 s1 s2 s3 s4 s5).calm.it.length := by unfold calmO; dsimp only; rw [q, c4]; rfl
    have eN : calmN (Ses.mk s0 s1 s2 s3 s4 s5) = (((Ses.mk s0 s1 s2 s3 s4 s5).calm.runs (Ses.mk s0 s1 s2 s3 s4 s5).calm.it.length : Nat) : Int) := by unfold calmN; dsimp only; rw [q, c4]; rfl
    rw [eO, eN]
    obtain ⟨he, h1, -, h2, -, hb, h4, h5, -⟩ := good_len q
    obtain ⟨c1, c2, c3, -⟩ := Ses.calm_inv gi
    dsimp only at c1
    have hM : maxI = 9223372036854775807 := rfl
    have c5 := Ses.run_inv (Ses.mk s0 s1 s2 s3 s4 s5).calm.it.length c1 c2 c3
    obtain ⟨-, -, -, r4, r5, r6, r7⟩ := c5
    have hw0 : (Ses.mk s0 s1 s2 s3 s4 s5).calm.w.length = 0 := by rw [c2]; rfl
    have ha0 : (Ses.mk s0 s1 s2 s3 s4 s5).calm.a.length = 0 := by rw [c3]; rfl
    have hi1 : (Ses.mk s0 s1 s2 s3 s4 s5).inv (1000000 - s4.length) := Ses.inv_mono gi (by omega)
    have hi2 : (Ses.mk s0 s1 s2 s3 s4 s5).calm.inv (100000 - 2 * ((Ses.mk s0 s1 s2 s3 s4 s5).calm.it.length - (Ses.mk s0 s1 s2 s3 s4 s5).calm.b.toNat)) := Ses.inv_mono c1 (by rw [c4]; omega)
    have hit : (Ses.mk s0 s1 s2 s3 s4 s5).calm.it.length ≤ 1000 := by rw [c4]; omega
    simp only [ifB_not, ifB_t, ifB_f, nilT_eq, List.drop_zero, List.take_zero, List.take_nil, List.nil_append, Nat.zero_add, List.take_length]
    rw [ifT_true (decide_eq_true (by omega)), ifT_true (decide_eq_true (by omega)), ifT_true (decide_eq_true (by omega)), ifT_true (decide_eq_true (by omega))]
    rw [ifT_true (decide_eq_true ⟨⟨by first | trivial | rfl, by first | trivial | rfl, by first | trivial | rfl, by first | trivial | rfl⟩, by omega, hi1⟩)]
    rw [ifT_true (decide_eq_true ⟨⟨by first | trivial | rfl, by first | trivial | rfl, by first | trivial | rfl, by first | trivial | rfl⟩, ⟨hw0, ha0⟩, hit, ⟨by omega, by omega⟩, hi2⟩)]
    try simp only [Int.zero_add]
    rfl
theorem implCalm : Contract Try.prog 12 (Ent.rd1 calmG).F := by
  refine fun_contractN' (KnowsL.cons (enters_fn Try.func30 (by kernel_rfl) (by kernel_rfl)) implGood (KnowsL.cons (enters_fn Try.func68 (by kernel_rfl) (by kernel_rfl)) cloneSession (KnowsL.cons (enters_fn Try.func69 (by kernel_rfl) (by kernel_rfl)) settle (KnowsL.cons (enters_fn Try.func70 (by kernel_rfl) (by kernel_rfl)) oSendC KnowsL.nil)))).knows (Λ := (look [(5, ciE)])) Try.func12 (c := Try.f12.body.getD .skip) (by kernel_rfl) fun vs bs r h hv hb => ?_
  unfold Ent.F calmG at h
  dsimp only at h
  split at h
  · rename_i s0 s1 s2 s3 s4 s5
    obtain ⟨hc, h⟩ := need_some h
    exact ⟨ci_ok, (implCalm_fun s0 s1 s2 s3 s4 s5 (of_decide_eq_true hc)).trans h⟩
  · cases h
theorem specCalm_fun (s0 : Int) (s1 : List (List UInt8)) (s2 : Int) (s3 : List (List UInt8)) (s4 : List (Int × Int × List UInt8 × Unit)) (s5 : List (Int × Int × Unit)) (hs3 : (s3.length : Int) ≤ lim) : funN Try.prog (look [(43, .rd1 specGoodG), (63, .rd1 l15OwnG), (62, .own l15CalmG), (64, .own l15StepCG)]) (look [(5, csE)]) Try.f10 [.agg [.i .i64 s0, .sl .str s1, .i .i64 s2, .sl .str s3, .sl (.pair (.int .i64) (.pair (.int .i64) (.pair .str .unit))) s4, .sl (.pair (.int .i64) (.pair (.int .i64) .unit)) s5]] [] = (.leaf (.tup [.agg [.i .i64 (calmO (Ses.mk s0 s1 s2 s3 s4 s5)).e, .ref 0 0 (calmO (Ses.mk s0 s1 s2 s3 s4 s5)).it.length, .i .i64 (calmO (Ses.mk s0 s1 s2 s3 s4 s5)).b, .ref 1 0 (calmO (Ses.mk s0 s1 s2 s3 s4 s5)).ha.length, .ref 2 0 (calmO (Ses.mk s0 s1 s2 s3 s4 s5)).w.length, .ref 3 0 (calmO (Ses.mk s0 s1 s2 s3 s4 s5)).a.length], .i .i64 (calmN (Ses.mk s0 s1 s2 s3 s4 s5)), .b (goodS s0 s1 s2 s3 s4 s5)], [some (.row false none .str (calmO (Ses.mk s0 s1 s2 s3 s4 s5)).it), some (.row false none .str (calmO (Ses.mk s0 s1 s2 s3 s4 s5)).ha), some (.row false none (.pair (.int .i64) (.pair (.int .i64) (.pair .str .unit))) (calmO (Ses.mk s0 s1 s2 s3 s4 s5)).w), some (.row false none (.pair (.int .i64) (.pair (.int .i64) .unit)) (calmO (Ses.mk s0 s1 s2 s3 s4 s5)).a)]) : Br (V × List (Option Blk))).run := by
  rw [cs_fun0]
  rw [ifT_true (decide_eq_true hs3)]
  cases q : goodS s0 s1 s2 s3 s4 s5 with
  | false =>
    have eO : calmO (Ses.mk s0 s1 s2 s3 s4 s5) = ⟨0, [], 0, [], [], []⟩ := by unfold calmO; dsimp only; rw [q]; rfl
    have eN : calmN (Ses.mk s0 s1 s2 s3 s4 s5) = 0 := by unfold calmN; dsimp only; rw [q]; rfl
    rw [eO, eN]
    rfl
  | true =>
    have gi := good_inv q
    have c4 : (Ses.mk s0 s1 s2 s3 s4 s5).calm.it = s1 := (Ses.calm_inv gi).2.2.2
    have eO : calmO (Ses.mk s0 s1 s2 s3 s4 s5) = (Ses.mk s0 s1 s2 s3 s4 s5).calm.run (Ses.mk s0 s1 s2 s3 s4 s5).calm.it.length := by unfold calmO; dsimp only; rw [q, c4]; rfl
    have eN : calmN (Ses.mk s0 s1 s2 s3 s4 s5) = (((Ses.mk s0 s1 s2 s3 s4 s5).calm.runs (Ses.mk s0 s1 s2 s3 s4 s5).calm.it.length : Nat) : Int) := by unfold calmN; dsimp only; rw [q, c4]; rfl
    rw [eO, eN]
    obtain ⟨he, h1, -, h2, -, hb, h4, h5, -⟩ := good_len q
    obtain ⟨c1, c2, c3, -⟩ := Ses.calm_inv gi
    dsimp only at c1
    have hM : maxI = 9223372036854775807 := rfl
    have c5 := Ses.run_inv (Ses.mk s0 s1 s2 s3 s4 s5).calm.it.length c1 c2 c3
    obtain ⟨-, -, -, r4, r5, r6, r7⟩ := c5
    have hw0 : (Ses.mk s0 s1 s2 s3 s4 s5).calm.w.length = 0 := by rw [c2]; rfl
    have ha0 : (Ses.mk s0 s1 s2 s3 s4 s5).calm.a.length = 0 := by rw [c3]; rfl
    have hi1 : (Ses.mk s0 s1 s2 s3 s4 s5).inv (1000000 - s4.length) := Ses.inv_mono gi (by omega)
    have hi2 : (Ses.mk s0 s1 s2 s3 s4 s5).calm.inv (100000 - 2 * ((Ses.mk s0 s1 s2 s3 s4 s5).calm.it.length - (Ses.mk s0 s1 s2 s3 s4 s5).calm.b.toNat)) := Ses.inv_mono c1 (by rw [c4]; omega)
    have hit : (Ses.mk s0 s1 s2 s3 s4 s5).calm.it.length ≤ 1000 := by rw [c4]; omega
    simp only [ifB_not, ifB_t, ifB_f, nilT_eq, List.drop_zero, List.take_zero, List.take_nil, List.nil_append, Nat.zero_add, List.take_length]
    rw [ifT_true (by simp only [Bool.and_eq_true, decide_eq_true_eq]; omega), ifT_true (by simp only [Bool.and_eq_true, decide_eq_true_eq]; omega), ifT_true (by simp only [Bool.and_eq_true, decide_eq_true_eq]; omega), ifT_true (by simp only [Bool.and_eq_true, decide_eq_true_eq]; omega)]
    rw [ifT_true (decide_eq_true ⟨⟨by first | trivial | rfl, by first | trivial | rfl, by first | trivial | rfl, by first | trivial | rfl⟩, by omega, hi1⟩)]
    rw [ifT_true (decide_eq_true ⟨⟨by first | trivial | rfl, by first | trivial | rfl, by first | trivial | rfl, by first | trivial | rfl⟩, ⟨hw0, ha0⟩, hit, ⟨by omega, by omega⟩, hi2⟩)]
    try simp only [Int.zero_add]
    try rw [show (Ses.mk (Ses.mk s0 s1 s2 s3 s4 s5).calm.e (Ses.mk s0 s1 s2 s3 s4 s5).calm.it (Ses.mk s0 s1 s2 s3 s4 s5).calm.b (Ses.mk s0 s1 s2 s3 s4 s5).calm.ha (Ses.mk s0 s1 s2 s3 s4 s5).calm.w (Ses.mk s0 s1 s2 s3 s4 s5).calm.a) = (Ses.mk s0 s1 s2 s3 s4 s5).calm from rfl]
    rw [ifT_true (by simp only [Bool.and_eq_true, decide_eq_true_eq]; omega), ifT_true (by simp only [Bool.and_eq_true, decide_eq_true_eq]; omega), ifT_true (by simp only [Bool.and_eq_true, decide_eq_true_eq]; omega), ifT_true (by simp only [Bool.and_eq_true, decide_eq_true_eq]; omega)]
    rfl
theorem specCalm : Contract Try.prog 10 (Ent.rd1 calmG).F := by
  refine fun_contractN' (KnowsL.cons (enters_fn Try.func43 (by kernel_rfl) (by kernel_rfl)) specGood (KnowsL.cons (enters_fn Try.func63 (by kernel_rfl) (by kernel_rfl)) l15Own (KnowsL.cons (enters_fn Try.func62 (by kernel_rfl) (by kernel_rfl)) l15Calm (KnowsL.cons (enters_fn Try.func64 (by kernel_rfl) (by kernel_rfl)) l15StepC KnowsL.nil)))).knows (Λ := (look [(5, csE)])) Try.func10 (c := Try.f10.body.getD .skip) (by kernel_rfl) fun vs bs r h hv hb => ?_
  unfold Ent.F calmG at h
  dsimp only at h
  split at h
  · rename_i s0 s1 s2 s3 s4 s5
    obtain ⟨hc, h⟩ := need_some h
    exact ⟨cs_ok, (specCalm_fun s0 s1 s2 s3 s4 s5 (of_decide_eq_true hc)).trans h⟩
  · cases h
end Go.Proofs.Ytjghbihlgfjebaa.Den
