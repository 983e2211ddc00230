/- What functions of the program do, by the machine: LFST. -/
import Derived.Test.YtjghbihlgfjebaaDFr10
import Derived.KernelRfl
import Derived.Test.YtjghbihlgfjebaaRows
namespace Go.Proofs.Ytjghbihlgfjebaa.Den
open Go.Proofs
set_option maxRecDepth 100000
def catE : LoopEnt := ⟨116, [1,6,10,52,53,54], [1,6,10], [], fun
  | ([.sl (.int .u8) z, .ptr 0 0, .s t, .ref 1 0 k, .i .i64 m, .i .i64 i], [some (.box [.s a, .ref 2 0 n, .b b]), some (.row false none .str x), some (.row false none .str q)]) => .need (decide (0 ≤ i ∧ k = x.length ∧ m = x.length ∧ i.toNat ≤ x.length ∧ x.length ≤ 1000 ∧ n = q.length ∧ t.length + (x.drop i.toNat).flatten.length ≤ 1000000)) (.leaf (.exit 0, ([.sl (.int .u8) z, .ptr 0 0, .s (t ++ (x.drop i.toNat).flatten)], [some (.box [.s a, .ref 1 0 n, .b b]), some (.row false none .str q)])))
  | _ => .no⟩
theorem cat_round (z : List Int) (t : List UInt8) (k : Nat) (m i : Int) (a : List UInt8) (n : Nat) (b : Bool) (x q : List (List UInt8)) : roundK Try.prog (look [(16, .rd1 dfeedG), (17, .rd1 feedAllG), (18, .rd1 feedAllG), (19, .rd1 sameRG), (20, .rd1 goodRG), (21, .rd1 dunfG), (22, .rd1 unfaG), (23, .rd1 unfaG), (24, .rd1 sameTextsG)]) (look [(11, catE)]) 0 (body Try.f4 0) catE ([.sl (.int .u8) z, .ptr 0 0, .s t, .ref 1 0 k, .i .i64 m, .i .i64 i], [some (.box [.s a, .ref 2 0 n, .b b]), some (.row false none .str x), some (.row false none .str q)]) =
  ((ifB (decide (i < m))
  (ifT (decide ((0 : Int) ≤ i) && decide (i < (↑k : Int)))
  (ifSome x[(0 : Nat) + i.toNat]? fun z_1 =>
  ifT (decide (t.length + List.length z_1 ≤ (9223372036854775807 : Nat)))
  (some
  (Ex.normal,
  [V.sl (Cd.int IntKind.u8) z, V.ptr (0 : Nat) (0 : Nat), V.s (t ++ z_1), V.ref (1 : Nat) (0 : Nat) k,
  V.i IntKind.i64 m, V.i IntKind.i64 (IntKind.i64.wrap (i + (1 : Int)))],
  [some (Blk.box [V.s a, V.ref (2 : Nat) (0 : Nat) n, V.b b]), some (Blk.row false none Cd.str x),
  some (Blk.row false none Cd.str q)]))))
  (some
  (Ex.exit (0 : Nat), [V.sl (Cd.int IntKind.u8) z, V.ptr (0 : Nat) (0 : Nat), V.s t],
  [some (Blk.box [V.s a, V.ref (1 : Nat) (0 : Nat) n, V.b b]), some (Blk.row false none Cd.str q)]))) : _) := by kernel_rfl
theorem cat_loop (z : List Int) (a : List UInt8) (b : Bool) (x q : List (List UInt8)) (n : Nat) (hn : n = q.length) (hx : x.length ≤ 1000) : ∀ (j i : Nat) (t : List UInt8), i + j = x.length → t.length + (x.drop i).flatten.length ≤ 1000000 →
    Runs Try.prog (look [(16, .rd1 dfeedG), (17, .rd1 feedAllG), (18, .rd1 feedAllG), (19, .rd1 sameRG), (20, .rd1 goodRG), (21, .rd1 dunfG), (22, .rd1 unfaG), (23, .rd1 unfaG), (24, .rd1 sameTextsG)]) (look [(11, catE)]) 0 (body Try.f4 0) catE ([.sl (.int .u8) z, .ptr 0 0, .s t, .ref 1 0 x.length, .i .i64 (↑x.length : Int), .i .i64 (i : Int)], [some (.box [.s a, .ref 2 0 n, .b b]), some (.row false none .str x), some (.row false none .str q)]) (.exit 0) ([.sl (.int .u8) z, .ptr 0 0, .s (t ++ (x.drop i).flatten)], [some (.box [.s a, .ref 1 0 n, .b b]), some (.row false none .str q)])
  | 0, i, t, hi, ht => by
    have hr := cat_round z t x.length x.length i a n b x q
    rw [ifB_false (decide_eq_false (by omega))] at hr
    rw [List.drop_eq_nil_of_le (by omega), List.flatten_nil, List.append_nil]
    exact .stop _ _ _ hr (by simp)
  | j + 1, i, t, hi, ht => by
    have hil : i < x.length := by omega
    have hr := cat_round z t x.length x.length i a n b x q
    rw [List.drop_eq_getElem_cons hil, List.flatten_cons, List.length_append] at ht
    rw [List.drop_eq_getElem_cons hil, List.flatten_cons, ← List.append_assoc]
    rw [ifB_true (decide_eq_true (by omega)), ifT_true (by simp only [Bool.and_eq_true, decide_eq_true_eq]; omega)] at hr
    simp only [Int.toNat_natCast, Nat.zero_add, List.getElem?_eq_getElem hil, ifSome_s, wrap_succ (n := i) (by unfold maxI; omega)] at hr
    rw [ifT_true (decide_eq_true (by omega))] at hr
    exact .step _ _ _ _ hr (cat_loop z a b x q n hn hx j (i + 1) (t ++ x[i]) (by omega) (by rw [List.length_append]; omega))
theorem law_loops : LoopsOk Try.prog (look [(16, .rd1 dfeedG), (17, .rd1 feedAllG), (18, .rd1 feedAllG), (19, .rd1 sameRG), (20, .rd1 goodRG), (21, .rd1 dunfG), (22, .rd1 unfaG), (23, .rd1 unfaG), (24, .rd1 sameTextsG)]) (look [(11, catE)]) 0 (Try.f4.body.getD .skip) := by
  refine loopsOk_one (a := body Try.f4 0) (by kernel_rfl) fun d e d' h => ?_
  unfold catE at h
  dsimp only at h
  split at h
  · rename_i z t k m i a n b x q
    obtain ⟨hc, h'⟩ := need_some h
    obtain ⟨h0, rfl, rfl, h1, h2, h3, h4⟩ := of_decide_eq_true hc
    obtain ⟨i, rfl⟩ := Int.eq_ofNat_of_zero_le h0
    rw [Int.toNat_natCast] at h1 h4 h'
    have h6 := leaf_some h'
    obtain ⟨rfl, rfl⟩ := Prod.mk.inj h6
    exact cat_loop z a b x q n h3 h2 (x.length - i) i t (by omega) h4
  · cases h
theorem law_tree (l r : List Int) : funK Try.prog (look [(16, .rd1 dfeedG), (17, .rd1 feedAllG), (18, .rd1 feedAllG), (19, .rd1 sameRG), (20, .rd1 goodRG), (21, .rd1 dunfG), (22, .rd1 unfaG), (23, .rd1 unfaG), (24, .rd1 sameTextsG)]) (look [(11, catE)]) Try.f4 [.sl (.int .u8) l, .sl (.int .u8) r] [] =
  ((ifB (decide (IntKind.i64.wrap ((↑l.length : Int) + (↑r.length : Int)) > (1048576 : Int))) (some (V.b true, []))
  (ifT (decide ((Cur.mk l (0 : Int) (0 : Int)).good (0 : Int)))
  (ifB
  (!faO (List.take (dfa l).length (List.drop (0 : Nat) (dfa l))) ==
  faO (List.take (dfa l).length (List.drop (0 : Nat) (dfa l))))
  (some (V.b false, []))
  (ifB
  (!decide
  (faA (List.take (dfa l).length (List.drop (0 : Nat) (dfa l))) =
  faA (List.take (dfa l).length (List.drop (0 : Nat) (dfa l))) ∧
  faB (List.take (dfa l).length (List.drop (0 : Nat) (dfa l))) =
  faB (List.take (dfa l).length (List.drop (0 : Nat) (dfa l))) ∧
  List.take (faQ (List.take (dfa l).length (List.drop (0 : Nat) (dfa l)))).length
  (List.drop (0 : Nat) (faQ (List.take (dfa l).length (List.drop (0 : Nat) (dfa l))))) =
  List.take (faQ (List.take (dfa l).length (List.drop (0 : Nat) (dfa l)))).length
  (List.drop (0 : Nat) (faQ (List.take (dfa l).length (List.drop (0 : Nat) (dfa l)))))))
  (some (V.b false, []))
  (ifB (faO (List.take (dfa l).length (List.drop (0 : Nat) (dfa l))))
  (ifT
  (decide
  ((0 : Int) ≤ (0 : Int) ∧
  (dfa l).length = (dfa l).length ∧
  (↑(dfa l).length : Int) = (↑(dfa l).length : Int) ∧
  (0 : Nat) ≤ (dfa l).length ∧
  (dfa l).length ≤ (1000 : Nat) ∧
  (faQ (List.take (dfa l).length (List.drop (0 : Nat) (dfa l)))).length =
  (faQ (List.take (dfa l).length (List.drop (0 : Nat) (dfa l)))).length ∧
  (0 : Nat) + (List.drop (0 : Nat) (dfa l)).flatten.length ≤ (1000000 : Nat)))
  (ifT (decide ((faA (List.take (dfa l).length (List.drop (0 : Nat) (dfa l)))).length ≤ (100000 : Nat)))
  (ifB
  (!goodR (faA (List.take (dfa l).length (List.drop (0 : Nat) (dfa l))))
  (List.take (faQ (List.take (dfa l).length (List.drop (0 : Nat) (dfa l)))).length
  (List.drop (0 : Nat) (faQ (List.take (dfa l).length (List.drop (0 : Nat) (dfa l))))))
  (faB (List.take (dfa l).length (List.drop (0 : Nat) (dfa l)))))
  (some (V.b false, []))
  (ifB (decide ((↑(nilT UInt8 ++ (List.drop (0 : Nat) (dfa l)).flatten).length : Int) ≤ (300 : Int)))
  (ifB (!faO [nilT UInt8 ++ (List.drop (0 : Nat) (dfa l)).flatten]) (some (V.b false, []))
  (ifB
  (!decide
  (faA [nilT UInt8 ++ (List.drop (0 : Nat) (dfa l)).flatten] =
  faA (List.take (dfa l).length (List.drop (0 : Nat) (dfa l))) ∧
  faB [nilT UInt8 ++ (List.drop (0 : Nat) (dfa l)).flatten] =
  faB (List.take (dfa l).length (List.drop (0 : Nat) (dfa l))) ∧
  List.take (faQ [nilT UInt8 ++ (List.drop (0 : Nat) (dfa l)).flatten]).length
  (List.drop (0 : Nat) (faQ [nilT UInt8 ++ (List.drop (0 : Nat) (dfa l)).flatten])) =
  List.take (faQ (List.take (dfa l).length (List.drop (0 : Nat) (dfa l)))).length
  (List.drop (0 : Nat) (faQ (List.take (dfa l).length (List.drop (0 : Nat) (dfa l)))))))
  (some (V.b false, []))
  (ifT (decide ((Cur.mk r (0 : Int) (0 : Int)).good (0 : Int)))
  (ifB
  (decide ((Cur.mk r (0 : Int) (0 : Int)).strm.fst.length ≤ (300 : Nat)) ==
  decide ((Cur.mk r (0 : Int) (0 : Int)).strm.fst.length ≤ (300 : Nat)))
  (ifB
  ((if (Cur.mk r (0 : Int) (0 : Int)).strm.fst.length ≤ (300 : Nat) then
  (unf (Cur.mk r (0 : Int) (0 : Int)).strm.fst).snd.fst
  else nilT UInt8) ==
  if (Cur.mk r (0 : Int) (0 : Int)).strm.fst.length ≤ (300 : Nat) then
  (unf (Cur.mk r (0 : Int) (0 : Int)).strm.fst).snd.fst
  else nilT UInt8)
  (ifB
  ((if (Cur.mk r (0 : Int) (0 : Int)).strm.fst.length ≤ (300 : Nat) then
  (unf (Cur.mk r (0 : Int) (0 : Int)).strm.fst).snd.snd
  else false) ==
  if (Cur.mk r (0 : Int) (0 : Int)).strm.fst.length ≤ (300 : Nat) then
  (unf (Cur.mk r (0 : Int) (0 : Int)).strm.fst).snd.snd
  else false)
  (some
  (V.b
  (decide
  (List.take
  (if (Cur.mk r (0 : Int) (0 : Int)).strm.fst.length ≤ (300 : Nat) then
  (unf (Cur.mk r (0 : Int) (0 : Int)).strm.fst).fst
  else nilT (List UInt8)).length
  (List.drop (0 : Nat)
  (if (Cur.mk r (0 : Int) (0 : Int)).strm.fst.length ≤ (300 : Nat) then
  (unf (Cur.mk r (0 : Int) (0 : Int)).strm.fst).fst
  else nilT Cd.str.den)) =
  List.take
  (if (Cur.mk r (0 : Int) (0 : Int)).strm.fst.length ≤ (300 : Nat) then
  (unf (Cur.mk r (0 : Int) (0 : Int)).strm.fst).fst
  else nilT (List UInt8)).length
  (List.drop (0 : Nat)
  (if (Cur.mk r (0 : Int) (0 : Int)).strm.fst.length ≤ (300 : Nat) then
  (unf (Cur.mk r (0 : Int) (0 : Int)).strm.fst).fst
  else nilT Cd.str.den)))),
  []))
  (some (V.b false, [])))
  (some (V.b false, [])))
  (some (V.b false, []))))))
  (ifT (decide ((Cur.mk r (0 : Int) (0 : Int)).good (0 : Int)))
  (ifB
  (decide ((Cur.mk r (0 : Int) (0 : Int)).strm.fst.length ≤ (300 : Nat)) ==
  decide ((Cur.mk r (0 : Int) (0 : Int)).strm.fst.length ≤ (300 : Nat)))
  (ifB
  ((if (Cur.mk r (0 : Int) (0 : Int)).strm.fst.length ≤ (300 : Nat) then
  (unf (Cur.mk r (0 : Int) (0 : Int)).strm.fst).snd.fst
  else nilT UInt8) ==
  if (Cur.mk r (0 : Int) (0 : Int)).strm.fst.length ≤ (300 : Nat) then
  (unf (Cur.mk r (0 : Int) (0 : Int)).strm.fst).snd.fst
  else nilT UInt8)
  (ifB
  ((if (Cur.mk r (0 : Int) (0 : Int)).strm.fst.length ≤ (300 : Nat) then
  (unf (Cur.mk r (0 : Int) (0 : Int)).strm.fst).snd.snd
  else false) ==
  if (Cur.mk r (0 : Int) (0 : Int)).strm.fst.length ≤ (300 : Nat) then
  (unf (Cur.mk r (0 : Int) (0 : Int)).strm.fst).snd.snd
  else false)
  (some
  (V.b
  (decide
  (List.take
  (if (Cur.mk r (0 : Int) (0 : Int)).strm.fst.length ≤ (300 : Nat) then
  (unf (Cur.mk r (0 : Int) (0 : Int)).strm.fst).fst
  else nilT (List UInt8)).length
  (List.drop (0 : Nat)
  (if (Cur.mk r (0 : Int) (0 : Int)).strm.fst.length ≤ (300 : Nat) then
  (unf (Cur.mk r (0 : Int) (0 : Int)).strm.fst).fst
  else nilT Cd.str.den)) =
  List.take
  (if (Cur.mk r (0 : Int) (0 : Int)).strm.fst.length ≤ (300 : Nat) then
  (unf (Cur.mk r (0 : Int) (0 : Int)).strm.fst).fst
  else nilT (List UInt8)).length
  (List.drop (0 : Nat)
  (if (Cur.mk r (0 : Int) (0 : Int)).strm.fst.length ≤ (300 : Nat) then
  (unf (Cur.mk r (0 : Int) (0 : Int)).strm.fst).fst
  else nilT Cd.str.den)))),
  []))
  (some (V.b false, [])))
  (some (V.b false, [])))
  (some (V.b false, []))))))))
  (ifT (decide ((Cur.mk r (0 : Int) (0 : Int)).good (0 : Int)))
  (ifB
  (decide ((Cur.mk r (0 : Int) (0 : Int)).strm.fst.length ≤ (300 : Nat)) ==
  decide ((Cur.mk r (0 : Int) (0 : Int)).strm.fst.length ≤ (300 : Nat)))
  (ifB
  ((if (Cur.mk r (0 : Int) (0 : Int)).strm.fst.length ≤ (300 : Nat) then
  (unf (Cur.mk r (0 : Int) (0 : Int)).strm.fst).snd.fst
  else nilT UInt8) ==
  if (Cur.mk r (0 : Int) (0 : Int)).strm.fst.length ≤ (300 : Nat) then
  (unf (Cur.mk r (0 : Int) (0 : Int)).strm.fst).snd.fst
  else nilT UInt8)
  (ifB
  ((if (Cur.mk r (0 : Int) (0 : Int)).strm.fst.length ≤ (300 : Nat) then
  (unf (Cur.mk r (0 : Int) (0 : Int)).strm.fst).snd.snd
  else false) ==
  if (Cur.mk r (0 : Int) (0 : Int)).strm.fst.length ≤ (300 : Nat) then
  (unf (Cur.mk r (0 : Int) (0 : Int)).strm.fst).snd.snd
  else false)
  (some
  (V.b
  (decide
  (List.take
  (if (Cur.mk r (0 : Int) (0 : Int)).strm.fst.length ≤ (300 : Nat) then
  (unf (Cur.mk r (0 : Int) (0 : Int)).strm.fst).fst
  else nilT (List UInt8)).length
  (List.drop (0 : Nat)
  (if (Cur.mk r (0 : Int) (0 : Int)).strm.fst.length ≤ (300 : Nat) then
  (unf (Cur.mk r (0 : Int) (0 : Int)).strm.fst).fst
  else nilT Cd.str.den)) =
  List.take
  (if (Cur.mk r (0 : Int) (0 : Int)).strm.fst.length ≤ (300 : Nat) then
  (unf (Cur.mk r (0 : Int) (0 : Int)).strm.fst).fst
  else nilT (List UInt8)).length
  (List.drop (0 : Nat)
  (if (Cur.mk r (0 : Int) (0 : Int)).strm.fst.length ≤ (300 : Nat) then
  (unf (Cur.mk r (0 : Int) (0 : Int)).strm.fst).fst
  else nilT Cd.str.den)))),
  []))
  (some (V.b false, [])))
  (some (V.b false, [])))
  (some (V.b false, []))))))))) : _) := by kernel_rfl
theorem law_knows : Knows Try.prog (look [(16, .rd1 dfeedG), (17, .rd1 feedAllG), (18, .rd1 feedAllG), (19, .rd1 sameRG), (20, .rd1 goodRG), (21, .rd1 dunfG), (22, .rd1 unfaG), (23, .rd1 unfaG), (24, .rd1 sameTextsG)]) := KnowsL.knows (KnowsL.cons (enters_fn Try.func16 (by kernel_rfl) (by kernel_rfl)) dfeed (KnowsL.cons (enters_fn Try.func17 (by kernel_rfl) (by kernel_rfl)) ifa (KnowsL.cons (enters_fn Try.func18 (by kernel_rfl) (by kernel_rfl)) sfa (KnowsL.cons (enters_fn Try.func19 (by kernel_rfl) (by kernel_rfl)) sameR (KnowsL.cons (enters_fn Try.func20 (by kernel_rfl) (by kernel_rfl)) implGR (KnowsL.cons (enters_fn Try.func21 (by kernel_rfl) (by kernel_rfl)) dunf (KnowsL.cons (enters_fn Try.func22 (by kernel_rfl) (by kernel_rfl)) iunfa (KnowsL.cons (enters_fn Try.func23 (by kernel_rfl) (by kernel_rfl)) sunfa (KnowsL.cons (enters_fn Try.func24 (by kernel_rfl) (by kernel_rfl)) sameTexts KnowsL.nil)))))))))
end Go.Proofs.Ytjghbihlgfjebaa.Den
