/- What functions of the program do, by the machine: Val13 Val14 Val15 Val16 Val17 Val18 Val19 Val20 Val21 Val22 Val23 Dr3 Dr4 Dr5. -/
import Derived.Test.YtfkoljiioikdfaaDB
import Derived.KernelRfl
import Derived.Test.YtfkoljiioikdfaaRows
namespace Go.Proofs.Ytfkoljiioikdfaa.Den
open Go.Proofs
set_option maxRecDepth 100000
mutual
/-- The least value of a type, as a tree. -/
def defV : Rose Lab → Int → Rose VLab
  | .node x ks, no => .node (0, [], no, holdsK x.1, ()) (bif x.1 == 5 then defK ks else [])
def defK : List (Rose Lab) → List (Rose VLab)
  | [] => []
  | z :: ks => if z.lab.2.2.2.1 = true then defV z z.lab.2.2.1 :: defK ks else defK ks
end
def defN (n : Nat) : List V → List Blk → Br (V × List (Option Blk))
  | [.agg [.i .i64 y0, .s y1, .i .i64 y2, .b y3, .i .i64 y4, .sl (.rose (.pair (.int .i64) (.pair .str (.pair (.int .i64) (.pair .bool (.pair (.int .i64) .unit)))))) ys]], [] => .need (decide (cntL ys + 1 ≤ 1000000 ∧ cntL ys + 1 ≤ n)) (.leaf (.agg [.i .i64 (defV (.node (y0, y1, y2, y3, y4, ()) ys) 0).lab.1, .s (defV (.node (y0, y1, y2, y3, y4, ()) ys) 0).lab.2.1, .i .i64 (defV (.node (y0, y1, y2, y3, y4, ()) ys) 0).lab.2.2.1, .b (defV (.node (y0, y1, y2, y3, y4, ()) ys) 0).lab.2.2.2.1, .ref 0 0 (defV (.node (y0, y1, y2, y3, y4, ()) ys) 0).kids.length], [some (.row false none (.rose (.pair (.int .i64) (.pair .str (.pair (.int .i64) (.pair .bool .unit))))) (defV (.node (y0, y1, y2, y3, y4, ()) ys) 0).kids)]))
  | _, _ => .no
def defG : List V → List Blk → Br (V × List (Option Blk))
  | [.agg [.i .i64 y0, .s y1, .i .i64 y2, .b y3, .i .i64 y4, .sl (.rose (.pair (.int .i64) (.pair .str (.pair (.int .i64) (.pair .bool (.pair (.int .i64) .unit)))))) ys]], [] => .need (decide (cntL ys + 1 ≤ 1000000)) (.leaf (.agg [.i .i64 (defV (.node (y0, y1, y2, y3, y4, ()) ys) 0).lab.1, .s (defV (.node (y0, y1, y2, y3, y4, ()) ys) 0).lab.2.1, .i .i64 (defV (.node (y0, y1, y2, y3, y4, ()) ys) 0).lab.2.2.1, .b (defV (.node (y0, y1, y2, y3, y4, ()) ys) 0).lab.2.2.2.1, .ref 0 0 (defV (.node (y0, y1, y2, y3, y4, ()) ys) 0).kids.length], [some (.row false none (.rose (.pair (.int .i64) (.pair .str (.pair (.int .i64) (.pair .bool .unit))))) (defV (.node (y0, y1, y2, y3, y4, ()) ys) 0).kids)]))
  | _, _ => .no
def defE (n : Nat) : LoopEnt := ⟨36, [2,3,15,16,17], [2,3], [], fun
  | ([.ptr 0 0, .ptr 1 0, .sl (.rose (.pair (.int .i64) (.pair .str (.pair (.int .i64) (.pair .bool (.pair (.int .i64) .unit)))))) ks, .i .i64 k, .i .i64 i], [some (.box [.i .i64 0, .s [], .i .i64 0, .b false, .ref 2 0 0]), some (.box [.i .i64 x0, .s x1, .i .i64 x2, .b x3, .ref 3 0 m]), some (.row false none (.rose (.pair (.int .i64) (.pair .str (.pair (.int .i64) (.pair .bool .unit))))) []), some (.row false none (.rose (.pair (.int .i64) (.pair .str (.pair (.int .i64) (.pair .bool .unit))))) o)]) => .need (decide (m = o.length ∧ 0 ≤ i ∧ i.toNat ≤ ks.length ∧ k = ks.length ∧ o.length ≤ i.toNat ∧ cntL ks ≤ n ∧ cntL ks ≤ 1000000)) (.leaf (.exit 0, ([.ptr 0 0, .ptr 1 0], [some (.box [.i .i64 0, .s [], .i .i64 0, .b false, .ref 2 0 0]), some (.box [.i .i64 x0, .s x1, .i .i64 x2, .b x3, .ref 3 0 (o ++ defK (ks.drop i.toNat)).length]), some (.row false none (.rose (.pair (.int .i64) (.pair .str (.pair (.int .i64) (.pair .bool .unit))))) []), some (.row false none (.rose (.pair (.int .i64) (.pair .str (.pair (.int .i64) (.pair .bool .unit))))) (o ++ defK (ks.drop i.toNat)))])))
  | _ => .no⟩
theorem def_round (n : Nat) (x0 : Int) (x1 : List UInt8) (x2 : Int) (x3 : Bool) (ks : List (Rose Lab)) (m : Nat) (k i : Int) (o : List (Rose VLab)) : roundK Try.prog (look [(52, .rd1 (defN n)), (116, .rd1 l2HoldsG)]) (look [(4, defE n)]) 0 (body Try.f52 0) (defE n) ([.ptr 0 0, .ptr 1 0, .sl (.rose LCd) ks, .i .i64 k, .i .i64 i], [some (.box [.i .i64 0, .s [], .i .i64 0, .b false, .ref 2 0 0]), some (.box [.i .i64 x0, .s x1, .i .i64 x2, .b x3, .ref 3 0 m]), some (.row false none (.rose VCd) []), some (.row false none (.rose VCd) o)]) =
  ((ifB (decide (i < k)) (ifT (decide ((0 : Int) ≤ i) && decide (i < (↑ks.length : Int))) (ifSome ks[i.toNat]? fun z => ifB (Rose.lab z).snd.snd.snd.fst (ifT (decide (cntL
 (Rose.kids z) + (1 : Nat) ≤ (1000000 : Nat) ∧ cntL (Rose.kids z) + (1 : Nat) ≤ n)) (ifT (decide ((m + (1 : Nat)) * (64 : Nat) ≤ (140737488355328 : Nat)) && decide (m + (1
 : Nat) ≤ maxI)) (some (Ex.normal, [V.ptr 0 0, V.ptr 1 0, V.sl LCd.rose ks, V.i .i64 k, V.i .i64 (IntKind.i64.wrap (i + (1 : Int)))], [some (Blk.box [V.i .i64 0, V.s (nilT
 UInt8), V.i .i64 0, V.b false, V.ref 2 0 0]), some (Blk.box [V.i .i64 x0, V.s x1, V.i .i64 x2, V.b x3, V.ref 3 0 (m + (1 : Nat))]), some (Blk.row false none VCd.rose
 (nilT VCd.rose.den)), some (Blk.row false none VCd.rose (List.take m (List.drop (0 : Nat) o) ++ Rose.node ((defV (Rose.node ((Rose.lab z).fst, (Rose.lab z).snd.fst,
 (Rose.lab z).snd.snd.fst, (Rose.lab z).snd.snd.snd.fst, (Rose.lab z).snd.snd.snd.snd.fst, ()) (Rose.kids z)) (0 : Int)).lab.fst, (defV (Rose.node ((Rose.lab z).fst,
 (Rose.lab z).snd.fst, (Rose.lab z).snd.snd.fst, (Rose.lab z).snd.snd.snd.fst, (Rose.lab z).snd.snd.snd.snd.fst, ()) (Rose.kids z)) (0 : Int)).lab.snd.fst, (Rose.lab
 z).snd.snd.fst, (defV (Rose.node ((Rose.lab z).fst, (Rose.lab z).snd.fst, (Rose.lab z).snd.snd.fst, (Rose.lab z).snd.snd.snd.fst, (Rose.lab z).snd.snd.snd.snd.fst, ())
 (Rose.kids z)) (0 : Int)).lab.snd.snd.snd.fst, ()) (List.take (defV (Rose.node ((Rose.lab z).fst, (Rose.lab z).snd.fst, (Rose.lab z).snd.snd.fst, (Rose.lab
 z).snd.snd.snd.fst, (Rose.lab z).snd.snd.snd.snd.fst, ()) (Rose.kids z)) (0 : Int)).kids.length (List.drop (0 : Nat) (defV (Rose.node ((Rose.lab z).fst, (Rose.lab
 z).snd.fst, (Rose.lab z).snd.snd.fst, (Rose.lab z).snd.snd.snd.fst, (Rose.lab z).snd.snd.snd.snd.fst, ()) (Rose.kids z)) (0 : Int)).kids)) :: nilT VCd.rose.den))]))))
 (some (Ex.normal, [V.ptr 0 0, V.ptr 1 0, V.sl LCd.rose ks, V.i .i64 k, V.i .i64 (IntKind.i64.wrap (i + (1 : Int)))], [some (Blk.box [V.i .i64 0, V.s (nilT UInt8), V.i
 .i64 0, V.b false, V.ref 2 0 0]), some (Blk.box [V.i .i64 x0, V.s x1, V.i .i64 x2, V.b x3, V.ref 3 0 m]), some (Blk.row false none VCd.rose (nilT VCd.rose.den)), some
 (Blk.row false none VCd.rose o)])))) (some (Ex.exit 0, [V.ptr 0 0, V.ptr 1 0], [some (Blk.box [V.i .i64 0, V.s (nilT UInt8), V.i .i64 0, V.b false, V.ref 2 0 0]), some
 (Blk.box [V.i .i64 x0, V.s x1, V.i .i64 x2, V.b x3, V.ref 3 0 m]), some (Blk.row false none VCd.rose (nilT VCd.rose.den)), some (Blk.row false none VCd.rose o)]))) : _) := by kernel_rfl
theorem def_tree (n : Nat) (y0 : Int) (y1 : List UInt8) (y2 : Int) (y3 : Bool) (y4 : Int) (ys : List (Rose Lab)) : funN Try.prog (look [(52, .rd1 (defN n)), (116, .rd1 l2HoldsG)]) (look [(4, defE n)]) Try.f52 [.agg [.i .i64 y0, .s y1, .i .i64 y2, .b y3, .i .i64 y4, .sl (.rose LCd) ys]] [] =
  ((ifB (y0 == (5 : Int)) (ifT (decide ((0 : Nat) = (0 : Nat) ∧ (0 : Int) ≤ (0 : Int) ∧ (0 : Nat) ≤ ys.length ∧ (↑ys.length : Int) = (↑ys.length : Int) ∧ (0 : Nat) ≤ (0 : Nat)
 ∧ cntL ys ≤ n ∧ cntL ys ≤ (1000000 : Nat))) (some (V.agg [V.i .i64 0, V.s (nilT UInt8), V.i .i64 0, V.b (holdsK y0), V.ref 0 0 (nilT VCd.rose.den ++ defK (List.drop (0 :
 Nat) ys)).length], [some (Blk.row false none VCd.rose (nilT VCd.rose.den ++ defK (List.drop (0 : Nat) ys)))]))) (some (V.agg [V.i .i64 0, V.s (nilT UInt8), V.i .i64 0,
 V.b (holdsK y0), V.ref 0 0 0], [some (Blk.row false none VCd.rose (nilT VCd.rose.den))]))) : _) := by kernel_rfl
theorem defV_no (z : Rose Lab) (no : Int) : Rose.node ((defV z 0).lab.1, (defV z 0).lab.2.1, no, (defV z 0).lab.2.2.2.1, ()) (List.take (defV z 0).kids.length (List.drop 0 (defV z 0).kids)) = defV z no := by
  rw [List.drop_zero, List.take_length]
  obtain ⟨x, ks⟩ := z
  rw [defV, defV]
  rfl
theorem defV_noR (z : Rose Lab) (no : Int) : (Rose.node ((defV (Rose.node (z.lab.1, z.lab.2.1, z.lab.2.2.1, z.lab.2.2.2.1, z.lab.2.2.2.2.1, ()) z.kids) 0).lab.1, (defV (Rose.node (z.lab.1, z.lab.2.1, z.lab.2.2.1, z.lab.2.2.2.1, z.lab.2.2.2.2.1, ()) z.kids) 0).lab.2.1, no, (defV (Rose.node (z.lab.1, z.lab.2.1, z.lab.2.2.1, z.lab.2.2.2.1, z.lab.2.2.2.2.1, ()) z.kids) 0).lab.2.2.2.1, ()) (List.take (defV (Rose.node (z.lab.1, z.lab.2.1, z.lab.2.2.1, z.lab.2.2.2.1, z.lab.2.2.2.2.1, ()) z.kids) 0).kids.length (List.drop 0 (defV (Rose.node (z.lab.1, z.lab.2.1, z.lab.2.2.1, z.lab.2.2.2.1, z.lab.2.2.2.2.1, ()) z.kids) 0).kids)) : Rose VLab) = defV z no := by
  rw [rose_eta', defV_no]
theorem defV_eq (z : Rose Lab) (no : Int) : defV z no = .node (0, [], no, holdsK z.lab.1, ()) (bif z.lab.1 == 5 then defK z.kids else []) := by cases z; rw [defV]; rfl
theorem def_loop (n : Nat) (x0 : Int) (x1 : List UInt8) (x2 : Int) (x3 : Bool) (ks : List (Rose Lab)) (h1 : cntL ks ≤ n) (h2 : cntL ks ≤ 1000000) : ∀ (j i : Nat) (o : List (Rose VLab)), i + j = ks.length → o.length ≤ i →
    Runs Try.prog (look [(52, .rd1 (defN n)), (116, .rd1 l2HoldsG)]) (look [(4, defE n)]) 0 (body Try.f52 0) (defE n) ([.ptr 0 0, .ptr 1 0, .sl (.rose LCd) ks, .i .i64 (ks.length : Int), .i .i64 (i : Int)], [some (.box [.i .i64 0, .s [], .i .i64 0, .b false, .ref 2 0 0]), some (.box [.i .i64 x0, .s x1, .i .i64 x2, .b x3, .ref 3 0 o.length]), some (.row false none (.rose VCd) []), some (.row false none (.rose VCd) o)]) (.exit 0) ([.ptr 0 0, .ptr 1 0], [some (.box [.i .i64 0, .s [], .i .i64 0, .b false, .ref 2 0 0]), some (.box [.i .i64 x0, .s x1, .i .i64 x2, .b x3, .ref 3 0 (o ++ defK (ks.drop i)).length]), some (.row false none (.rose VCd) []), some (.row false none (.rose VCd) (o ++ defK (ks.drop i)))])
  | 0, i, o, hi, ho => by
    have hr := def_round n x0 x1 x2 x3 ks o.length ks.length i o
    rw [ifB_false (decide_eq_false (by omega))] at hr
    rw [List.drop_eq_nil_of_le (by omega), defK, List.append_nil]
    exact .stop _ _ _ hr (by simp)
  | j + 1, i, o, hi, ho => by
    have hl : i < ks.length := by omega
    have hM : maxI = 9223372036854775807 := rfl
    have hlen := cnt_len ks
    have hmem := cnt_mem (List.getElem_mem hl)
    have hck := cnt_kids ks[i]
    have hr := def_round n x0 x1 x2 x3 ks o.length ks.length i o
    rw [ifB_true (decide_eq_true (by omega)), ifT_true (by simp only [Bool.and_eq_true, decide_eq_true_eq]; omega), Int.toNat_natCast, List.getElem?_eq_getElem hl, ifSome_s, wrap_succ (n := i) (by omega)] at hr
    rw [List.drop_eq_getElem_cons hl, defK]
    cases hm : ks[i].lab.2.2.2.1 with
    | true =>
      rw [ifB_true hm, ifT_true (decide_eq_true ⟨by omega, by omega⟩), ifT_true (by simp only [Bool.and_eq_true, decide_eq_true_eq]; omega), defV_noR, show List.drop 0 o = o from rfl, List.take_length] at hr
      have ih := def_loop n x0 x1 x2 x3 ks h1 h2 j (i + 1) (o ++ [defV ks[i] ks[i].lab.2.2.1]) (by omega) (by simp; omega)
      rw [List.append_assoc] at ih
      rw [if_pos rfl]
      exact .step _ _ _ _ (hr.trans (by simp [nilT_eq])) ih
    | false =>
      rw [hm, ifB_f] at hr
      rw [if_neg (by simp)]
      exact .step _ _ _ _ hr (def_loop n x0 x1 x2 x3 ks h1 h2 j (i + 1) o (by omega) (by omega))
theorem def_ok (n : Nat) : LoopsOk Try.prog (look [(52, .rd1 (defN n)), (116, .rd1 l2HoldsG)]) (look [(4, defE n)]) 0 (Try.f52.body.getD .skip) := by
  refine loopsOk_one (a := body Try.f52 0) (by kernel_rfl) fun d ex d' h => ?_
  unfold defE at h
  dsimp only at h
  split at h
  · rename_i ks k i x0 x1 x2 x3 m o
    obtain ⟨hc, hx⟩ := need_some h
    clear h
    obtain ⟨rfl, h0, h1, rfl, h3, h4, h5⟩ := of_decide_eq_true hc
    obtain ⟨i, rfl⟩ := Int.eq_ofNat_of_zero_le h0
    simp only [Int.toNat_natCast] at h1 h3 hx
    have h8 := leaf_some hx
    obtain ⟨rfl, rfl⟩ := Prod.mk.inj h8
    exact def_loop n x0 x1 x2 x3 ks h4 h5 (ks.length - i) i o (by omega) h3
  · cases h
theorem def_fun (n : Nat) (y0 : Int) (y1 : List UInt8) (y2 : Int) (y3 : Bool) (y4 : Int) (ys : List (Rose Lab)) (hc : cntL ys + 1 ≤ 1000000 ∧ cntL ys + 1 ≤ n + 1) : funN Try.prog (look [(52, .rd1 (defN n)), (116, .rd1 l2HoldsG)]) (look [(4, defE n)]) Try.f52 [.agg [.i .i64 y0, .s y1, .i .i64 y2, .b y3, .i .i64 y4, .sl (.rose LCd) ys]] [] = some (.agg [.i .i64 (defV (.node (y0, y1, y2, y3, y4, ()) ys) 0).lab.1, .s (defV (.node (y0, y1, y2, y3, y4, ()) ys) 0).lab.2.1, .i .i64 (defV (.node (y0, y1, y2, y3, y4, ()) ys) 0).lab.2.2.1, .b (defV (.node (y0, y1, y2, y3, y4, ()) ys) 0).lab.2.2.2.1, .ref 0 0 (defV (.node (y0, y1, y2, y3, y4, ()) ys) 0).kids.length], [some (.row false none (.rose VCd) (defV (.node (y0, y1, y2, y3, y4, ()) ys) 0).kids)]) := by
  rw [def_tree, defV_eq]
  simp only [Rose.lab, Rose.kids]
  cases h5 : y0 == 5 with
  | false => rfl
  | true =>
    rw [ifB_t, ifT_true (decide_eq_true (by refine ⟨by trivial, by omega, by omega, by trivial, by omega, by omega, by omega⟩))]
    rfl
theorem def_con : ∀ n, (∀ m, m < n → Contract Try.prog 52 (Ent.rd1 (defN m)).F) → Contract Try.prog 52 (Ent.rd1 (defN n)).F
  | 0, _ => contract_no fun vs bs => by
    unfold Ent.F defN
    dsimp only
    split
    · rename_i y0 y1 y2 y3 y4 ys
      have : decide (cntL ys + 1 ≤ 1000000 ∧ cntL ys + 1 ≤ 0) = false := decide_eq_false (by omega)
      rw [this]; rfl
    · rfl
  | n + 1, ih => by
    refine fun_contractN' (KnowsL.cons (enters_fn Try.func52 (by kernel_rfl) (by kernel_rfl)) (ih n (Nat.lt_succ_self n)) (KnowsL.cons (enters_fn Try.func116 (by kernel_rfl) (by kernel_rfl)) l2Holds KnowsL.nil)).knows (Λ := (look [(4, defE n)])) Try.func52 (c := Try.f52.body.getD .skip) (by kernel_rfl) fun vs bs r hq hv hb => ?_
    unfold Ent.F defN at hq
    dsimp only at hq
    split at hq
    · rename_i y0 y1 y2 y3 y4 ys
      obtain ⟨hc, hx⟩ := need_some hq
      exact ⟨def_ok n, (def_fun n y0 y1 y2 y3 y4 ys (of_decide_eq_true hc)).trans hx⟩
    · cases hq
theorem l4Default : Contract Try.prog 52 (Ent.rd1 defG).F := by
  refine contract_rec (F := fun n => (Ent.rd1 (defN n)).F) def_con fun vs bs r h => ?_
  unfold Ent.F defG at h
  dsimp only at h
  split at h
  · rename_i y0 y1 y2 y3 y4 ys
    obtain ⟨hc, hx⟩ := need_some h
    refine ⟨cntL ys + 1, ?_⟩
    show (Br.need (decide (cntL ys + 1 ≤ 1000000 ∧ cntL ys + 1 ≤ cntL ys + 1)) (.leaf (.agg [.i .i64 (defV (.node (y0, y1, y2, y3, y4, ()) ys) 0).lab.1, .s (defV (.node (y0, y1, y2, y3, y4, ()) ys) 0).lab.2.1, .i .i64 (defV (.node (y0, y1, y2, y3, y4, ()) ys) 0).lab.2.2.1, .b (defV (.node (y0, y1, y2, y3, y4, ()) ys) 0).lab.2.2.2.1, .ref 0 0 (defV (.node (y0, y1, y2, y3, y4, ()) ys) 0).kids.length], [some (.row false none (.rose VCd) (defV (.node (y0, y1, y2, y3, y4, ()) ys) 0).kids)]))).run = some r
    have : decide (cntL ys + 1 ≤ 1000000 ∧ cntL ys + 1 ≤ cntL ys + 1) = true := decide_eq_true ⟨of_decide_eq_true hc, Nat.le_refl _⟩
    rw [this]
    exact hx
  · cases h
mutual
/-- The nodes of a tree, from a place on. -/
def flatV : Rose VLab → Int → Nat → List Nd
  | .node x ks, up, s => (x.1, x.2.1, x.2.2.1, up, x.2.2.2.1, ()) :: flatK ks s (s + 1)
def flatK : List (Rose VLab) → Nat → Nat → List Nd
  | [], _, _ => []
  | z :: ks, s, p => flatV z s p ++ flatK ks s (p + (flatV z s p).length)
end
mutual
/-- How many there are in a value's tree. -/
def vcR : Rose VLab → Nat
  | .node _ ks => vcL ks + 1
def vcL : List (Rose VLab) → Nat
  | [] => 0
  | z :: l => vcR z + vcL l
end
def flatN (n : Nat) : List V → List Blk → Br (V × List (Option Blk))
  | [.agg [.i .i64 x0, .s x1, .i .i64 x2, .b x3, .sl (.rose (.pair (.int .i64) (.pair .str (.pair (.int .i64) (.pair .bool .unit))))) xs], .i .i64 up, .ref 0 0 m], [.row false _ (.pair (.int .i64) (.pair .str (.pair (.int .i64) (.pair (.int .i64) (.pair .bool .unit))))) o] => .need (decide (m = o.length ∧ o.length + vcL xs + 1 ≤ 2000000 ∧ vcL xs + 1 ≤ n)) (.leaf (.ref 1 0 (o ++ flatV (.node (x0, x1, x2, x3, ()) xs) up o.length).length, [none, some (.row false none (.pair (.int .i64) (.pair .str (.pair (.int .i64) (.pair (.int .i64) (.pair .bool .unit))))) (o ++ flatV (.node (x0, x1, x2, x3, ()) xs) up o.length))]))
  | _, _ => .no
def flatG : List V → List Blk → Br (V × List (Option Blk))
  | [.agg [.i .i64 x0, .s x1, .i .i64 x2, .b x3, .sl (.rose (.pair (.int .i64) (.pair .str (.pair (.int .i64) (.pair .bool .unit))))) xs], .i .i64 up, .ref 0 0 m], [.row false _ (.pair (.int .i64) (.pair .str (.pair (.int .i64) (.pair (.int .i64) (.pair .bool .unit))))) o] => .need (decide (m = o.length ∧ o.length + vcL xs + 1 ≤ 2000000)) (.leaf (.ref 1 0 (o ++ flatV (.node (x0, x1, x2, x3, ()) xs) up o.length).length, [none, some (.row false none (.pair (.int .i64) (.pair .str (.pair (.int .i64) (.pair (.int .i64) (.pair .bool .unit))))) (o ++ flatV (.node (x0, x1, x2, x3, ()) xs) up o.length))]))
  | _, _ => .no
def flatE (n : Nat) : LoopEnt := ⟨38, [2,7,26,27,28], [2], [], fun
  | ([.ref 1 0 m, .i .i64 s, .sl (.rose (.pair (.int .i64) (.pair .str (.pair (.int .i64) (.pair .bool .unit))))) ks, .i .i64 k, .i .i64 i], [none, some (.row false none (.pair (.int .i64) (.pair .str (.pair (.int .i64) (.pair (.int .i64) (.pair .bool .unit))))) o)]) => .need (decide (m = o.length ∧ 0 ≤ i ∧ i.toNat ≤ ks.length ∧ k = ks.length ∧ 0 ≤ s ∧ o.length + vcL (ks.drop i.toNat) ≤ 2000000 ∧ vcL ks ≤ n ∧ vcL ks ≤ 2000000)) (.leaf (.exit 0, ([.ref 1 0 (o ++ flatK (ks.drop i.toNat) s.toNat o.length).length], [none, some (.row false none (.pair (.int .i64) (.pair .str (.pair (.int .i64) (.pair (.int .i64) (.pair .bool .unit))))) (o ++ flatK (ks.drop i.toNat) s.toNat o.length))])))
  | _ => .no⟩
def flat0G : List V → List Blk → Br (V × List (Option Blk))
  | [.agg [.i .i64 x0, .s x1, .i .i64 x2, .b x3, .sl (.rose (.pair (.int .i64) (.pair .str (.pair (.int .i64) (.pair .bool .unit))))) xs], .i .i64 up, .nl], [] => .need (decide (vcL xs + 1 ≤ 2000000)) (.leaf (.ref 0 0 (flatV (.node (x0, x1, x2, x3, ()) xs) up 0).length, [some (.row false none (.pair (.int .i64) (.pair .str (.pair (.int .i64) (.pair (.int .i64) (.pair .bool .unit))))) (flatV (.node (x0, x1, x2, x3, ()) xs) up 0))]))
  | _, _ => .no
def flat0E : LoopEnt := ⟨38, [2,7,26,27,28], [2], [], fun
  | ([.ref 0 0 m, .i .i64 s, .sl (.rose (.pair (.int .i64) (.pair .str (.pair (.int .i64) (.pair .bool .unit))))) ks, .i .i64 k, .i .i64 i], [some (.row false none (.pair (.int .i64) (.pair .str (.pair (.int .i64) (.pair (.int .i64) (.pair .bool .unit))))) o)]) => .need (decide (m = o.length ∧ 0 ≤ i ∧ i.toNat ≤ ks.length ∧ k = ks.length ∧ 0 ≤ s ∧ o.length + vcL (ks.drop i.toNat) ≤ 2000000 ∧ vcL ks ≤ 2000000)) (.leaf (.exit 0, ([.ref 0 0 (o ++ flatK (ks.drop i.toNat) s.toNat o.length).length], [some (.row false none (.pair (.int .i64) (.pair .str (.pair (.int .i64) (.pair (.int .i64) (.pair .bool .unit))))) (o ++ flatK (ks.drop i.toNat) s.toNat o.length))])))
  | _ => .no⟩
def ofG : List V → List Blk → Br (V × List (Option Blk))
  | [.agg [.i .i64 x0, .s x1, .i .i64 x2, .b x3, .sl (.rose (.pair (.int .i64) (.pair .str (.pair (.int .i64) (.pair .bool .unit))))) xs]], [] => .need (decide (vcL xs + 1 ≤ 2000000)) (.leaf (.agg [.ref 0 0 (flatV (.node (x0, x1, x2, x3, ()) xs) (-1) 0).length], [some (.row false none (.pair (.int .i64) (.pair .str (.pair (.int .i64) (.pair (.int .i64) (.pair .bool .unit))))) (flatV (.node (x0, x1, x2, x3, ()) xs) (-1) 0))]))
  | _, _ => .no
theorem flat_round (n m : Nat) (s : Int) (ks : List (Rose VLab)) (k i : Int) (o : List Nd) : roundK Try.prog (look [(115, .own (flatN n))]) (look [(4, flatE n)]) 1 (body Try.f115 0) (flatE n) ([.ref 1 0 m, .i .i64 s, .sl (.rose VCd) ks, .i .i64 k, .i .i64 i], [none, some (.row false none NCd o)]) =
  ((ifB (decide (i < k)) (ifT (decide ((0 : Int) ≤ i) && decide (i < (↑ks.length : Int))) (ifSome ks[i.toNat]? fun z => ifT (decide (m = o.length ∧ o.length + vcL (Rose.kids
 z) + (1 : Nat) ≤ (2000000 : Nat) ∧ vcL (Rose.kids z) + (1 : Nat) ≤ n)) (some (Ex.normal, [V.ref 1 0 (o ++ flatV (Rose.node ((Rose.lab z).fst, (Rose.lab z).snd.fst,
 (Rose.lab z).snd.snd.fst, (Rose.lab z).snd.snd.snd.fst, ()) (Rose.kids z)) s o.length).length, V.i .i64 s, V.sl VCd.rose ks, V.i .i64 k, V.i .i64 (IntKind.i64.wrap (i +
 (1 : Int)))], [none, some (Blk.row false none NCd (o ++ flatV (Rose.node ((Rose.lab z).fst, (Rose.lab z).snd.fst, (Rose.lab z).snd.snd.fst, (Rose.lab z).snd.snd.snd.fst,
 ()) (Rose.kids z)) s o.length))])))) (some (Ex.exit 0, [V.ref 1 0 m], [none, some (Blk.row false none NCd o)]))) : _) := by kernel_rfl
theorem flat_tree (n : Nat) (x0 : Int) (x1 : List UInt8) (x2 : Int) (x3 : Bool) (xs : List (Rose VLab)) (m : Nat) (up : Int) (nl : Option Bool) (o : List Nd) : funN Try.prog (look [(115, .own (flatN n))]) (look [(4, flatE n)]) Try.f115 [.agg [.i .i64 x0, .s x1, .i .i64 x2, .b x3, .sl (.rose VCd) xs], .i .i64 up, .ref 0 0 m] [.row false nl NCd o] =
  ((ifT (decide ((m + (1 : Nat)) * (48 : Nat) ≤ (140737488355328 : Nat)) && decide (m + (1 : Nat) ≤ maxI)) (ifT (decide (m + (1 : Nat) = (List.take m (List.drop (0 : Nat) o)
 ++ (x0, x1, x2, up, x3, ()) :: nilT NCd.den).length ∧ (0 : Int) ≤ (0 : Int) ∧ (0 : Nat) ≤ xs.length ∧ (↑xs.length : Int) = (↑xs.length : Int) ∧ (0 : Int) ≤ (↑m : Int) ∧
 (List.take m (List.drop (0 : Nat) o) ++ (x0, x1, x2, up, x3, ()) :: nilT NCd.den).length + vcL (List.drop (0 : Nat) xs) ≤ (2000000 : Nat) ∧ vcL xs ≤ n ∧ vcL xs ≤ (2000000
 : Nat))) (some (V.ref 1 0 (List.take m (List.drop (0 : Nat) o) ++ (x0, x1, x2, up, x3, ()) :: nilT NCd.den ++ flatK (List.drop (0 : Nat) xs) (↑m : Int).toNat (List.take m
 (List.drop (0 : Nat) o) ++ (x0, x1, x2, up, x3, ()) :: nilT NCd.den).length).length, [none, some (Blk.row false none NCd (List.take m (List.drop (0 : Nat) o) ++ (x0, x1,
 x2, up, x3, ()) :: nilT NCd.den ++ flatK (List.drop (0 : Nat) xs) (↑m : Int).toNat (List.take m (List.drop (0 : Nat) o) ++ (x0, x1, x2, up, x3, ()) :: nilT
 NCd.den).length))])))) : _) := by kernel_rfl
mutual
theorem flatV_len : ∀ (z : Rose VLab) (up : Int) (s : Nat), (flatV z up s).length = vcR z
  | .node x ks, up, s => by
    rw [flatV, vcR, List.length_cons, flatK_len ks s (s + 1)]
theorem flatK_len : ∀ (ks : List (Rose VLab)) (s p : Nat), (flatK ks s p).length = vcL ks
  | [], _, _ => by rw [flatK, vcL]; rfl
  | z :: ks, s, p => by rw [flatK, vcL, List.length_append, flatV_len z s p, flatK_len ks s]
end
theorem vc_len : ∀ (l : List (Rose VLab)), l.length ≤ vcL l
  | [] => Nat.le_refl _
  | z :: l => by
    have := vc_len l
    have : 1 ≤ vcR z := by cases z; rw [vcR]; omega
    rw [vcL, List.length_cons]; omega
theorem vc_mem {z : Rose VLab} : ∀ {l : List (Rose VLab)}, z ∈ l → vcR z ≤ vcL l
  | [], h => by cases h
  | y :: l, h => by
    rw [vcL]
    rcases List.mem_cons.1 h with rfl | h
    · omega
    · have := vc_mem h; omega
theorem vc_kids (z : Rose VLab) : vcR z = vcL z.kids + 1 := by cases z; rw [vcR]; rfl
theorem flat_loop (n s : Nat) (ks : List (Rose VLab)) (h1 : vcL ks ≤ n) (h2 : vcL ks ≤ 2000000) : ∀ (j i : Nat) (o : List Nd), i + j = ks.length → o.length + vcL (ks.drop i) ≤ 2000000 →
    Runs Try.prog (look [(115, .own (flatN n))]) (look [(4, flatE n)]) 1 (body Try.f115 0) (flatE n) ([.ref 1 0 o.length, .i .i64 (s : Int), .sl (.rose VCd) ks, .i .i64 (ks.length : Int), .i .i64 (i : Int)], [none, some (.row false none NCd o)]) (.exit 0) ([.ref 1 0 (o ++ flatK (ks.drop i) s o.length).length], [none, some (.row false none NCd (o ++ flatK (ks.drop i) s o.length))])
  | 0, i, o, hi, ho => by
    have hr := flat_round n o.length s ks ks.length i o
    rw [ifB_false (decide_eq_false (by omega))] at hr
    rw [List.drop_eq_nil_of_le (by omega), flatK, List.append_nil]
    exact .stop _ _ _ hr (by simp)
  | j + 1, i, o, hi, ho => by
    have hl : i < ks.length := by omega
    have hM : maxI = 9223372036854775807 := rfl
    have hlen := vc_len ks
    have hmem := vc_mem (List.getElem_mem hl)
    have hck := vc_kids ks[i]
    have hr := flat_round n o.length s ks ks.length i o
    rw [List.drop_eq_getElem_cons hl, vcL] at ho
    rw [ifB_true (decide_eq_true (by omega)), ifT_true (by simp only [Bool.and_eq_true, decide_eq_true_eq]; omega), Int.toNat_natCast, List.getElem?_eq_getElem hl, ifSome_s, wrap_succ (n := i) (by omega), vrose_eta', ifT_true (decide_eq_true ⟨rfl, by omega, by omega⟩)] at hr
    rw [List.drop_eq_getElem_cons hl, flatK]
    have hk := flatV_len ks[i] s o.length
    have ih := flat_loop n s ks h1 h2 j (i + 1) (o ++ flatV ks[i] s o.length) (by omega) (by rw [List.length_append]; omega)
    rw [List.length_append, List.append_assoc] at ih
    rw [List.length_append] at hr
    exact .step _ _ _ _ hr ih
theorem flat_ok (n : Nat) : LoopsOk Try.prog (look [(115, .own (flatN n))]) (look [(4, flatE n)]) 1 (Try.f115.body.getD .skip) := by
  refine loopsOk_one (a := body Try.f115 0) (by kernel_rfl) fun d ex d' h => ?_
  unfold flatE at h
  dsimp only at h
  split at h
  · rename_i m s ks k i o
    obtain ⟨hc, hx⟩ := need_some h
    clear h
    obtain ⟨rfl, h0, h1, rfl, h3, h4, h5, h6⟩ := of_decide_eq_true hc
    obtain ⟨i, rfl⟩ := Int.eq_ofNat_of_zero_le h0
    obtain ⟨s, rfl⟩ := Int.eq_ofNat_of_zero_le h3
    simp only [Int.toNat_natCast] at h1 h4 hx
    have h8 := leaf_some hx
    obtain ⟨rfl, rfl⟩ := Prod.mk.inj h8
    exact flat_loop n s ks h5 h6 (ks.length - i) i o (by omega) h4
  · cases h
theorem flatV_eq (x0 : Int) (x1 : List UInt8) (x2 : Int) (x3 : Bool) (xs : List (Rose VLab)) (up : Int) (s : Nat) : flatV (.node (x0, x1, x2, x3, ()) xs) up s = (x0, x1, x2, up, x3, ()) :: flatK xs s (s + 1) := by rw [flatV]
theorem flat_fun (n : Nat) (x0 : Int) (x1 : List UInt8) (x2 : Int) (x3 : Bool) (xs : List (Rose VLab)) (m : Nat) (up : Int) (nl : Option Bool) (o : List Nd) (hc : m = o.length ∧ o.length + vcL xs + 1 ≤ 2000000 ∧ vcL xs + 1 ≤ n + 1) : funN Try.prog (look [(115, .own (flatN n))]) (look [(4, flatE n)]) Try.f115 [.agg [.i .i64 x0, .s x1, .i .i64 x2, .b x3, .sl (.rose VCd) xs], .i .i64 up, .ref 0 0 m] [.row false nl NCd o] = some (.ref 1 0 (o ++ flatV (.node (x0, x1, x2, x3, ()) xs) up o.length).length, [none, some (.row false none NCd (o ++ flatV (.node (x0, x1, x2, x3, ()) xs) up o.length))]) := by
  rw [flat_tree]
  obtain ⟨rfl, h2, h3⟩ := hc
  have hM : maxI = 9223372036854775807 := rfl
  have hlen := vc_len xs
  rw [show List.drop 0 o = o from rfl, show List.drop 0 xs = xs from rfl, List.take_length, Int.toNat_natCast, flatV_eq]
  rw [ifT_true (by simp only [Bool.and_eq_true, decide_eq_true_eq]; omega)]
  rw [ifT_true (decide_eq_true ⟨by simp [nilT_eq], by omega, by omega, rfl, by omega, by simp [nilT_eq]; omega, by omega, by omega⟩)]
  simp [nilT_eq]
theorem flat_con : ∀ n, (∀ m, m < n → Contract Try.prog 115 (Ent.own (flatN m)).F) → Contract Try.prog 115 (Ent.own (flatN n)).F
  | 0, _ => contract_no fun vs bs => by
    unfold Ent.F flatN
    dsimp only
    split
    · rename_i x0 x1 x2 x3 xs up m x o
      have : decide (m = o.length ∧ o.length + vcL xs + 1 ≤ 2000000 ∧ vcL xs + 1 ≤ 0) = false := decide_eq_false (by omega)
      rw [this]; rfl
    · rfl
  | n + 1, ih => by
    refine fun_contractN' (KnowsL.cons (enters_fn Try.func115 (by kernel_rfl) (by kernel_rfl)) (ih n (Nat.lt_succ_self n)) KnowsL.nil).knows (Λ := (look [(4, flatE n)])) Try.func115 (c := Try.f115.body.getD .skip) (by kernel_rfl) fun vs bs r hq hv hb => ?_
    unfold Ent.F flatN at hq
    dsimp only at hq
    split at hq
    · rename_i x0 x1 x2 x3 xs up m nl o
      obtain ⟨hc, hx⟩ := need_some hq
      exact ⟨flat_ok n, (flat_fun n x0 x1 x2 x3 xs m up nl o (of_decide_eq_true hc)).trans hx⟩
    · cases hq
theorem l4Flat : Contract Try.prog 115 (Ent.own flatG).F := by
  refine contract_rec (F := fun n => (Ent.own (flatN n)).F) flat_con fun vs bs r h => ?_
  unfold Ent.F flatG at h
  dsimp only at h
  split at h
  · rename_i x0 x1 x2 x3 xs up m nl o
    obtain ⟨hc, hx⟩ := need_some h
    refine ⟨vcL xs + 1, ?_⟩
    show (Br.need (decide (m = o.length ∧ o.length + vcL xs + 1 ≤ 2000000 ∧ vcL xs + 1 ≤ vcL xs + 1)) (.leaf (.ref 1 0 (o ++ flatV (.node (x0, x1, x2, x3, ()) xs) up o.length).length, [none, some (.row false none NCd (o ++ flatV (.node (x0, x1, x2, x3, ()) xs) up o.length))]))).run = some r
    obtain ⟨h1, h2⟩ := of_decide_eq_true hc
    have : decide (m = o.length ∧ o.length + vcL xs + 1 ≤ 2000000 ∧ vcL xs + 1 ≤ vcL xs + 1) = true := decide_eq_true ⟨h1, h2, Nat.le_refl _⟩
    rw [this]
    exact hx
  · cases h
theorem flat0_round (m : Nat) (s : Int) (ks : List (Rose VLab)) (k i : Int) (o : List Nd) : roundK Try.prog (look [(115, .own flatG)]) (look [(4, flat0E)]) 0 (body Try.f115 0) flat0E ([.ref 0 0 m, .i .i64 s, .sl (.rose VCd) ks, .i .i64 k, .i .i64 i], [some (.row false none NCd o)]) =
  ((ifB (decide (i < k)) (ifT (decide ((0 : Int) ≤ i) && decide (i < (↑ks.length : Int))) (ifSome ks[i.toNat]? fun z => ifT (decide (m = o.length ∧ o.length + vcL (Rose.kids
 z) + (1 : Nat) ≤ (2000000 : Nat))) (some (Ex.normal, [V.ref 0 0 (o ++ flatV (Rose.node ((Rose.lab z).fst, (Rose.lab z).snd.fst, (Rose.lab z).snd.snd.fst, (Rose.lab
 z).snd.snd.snd.fst, ()) (Rose.kids z)) s o.length).length, V.i .i64 s, V.sl VCd.rose ks, V.i .i64 k, V.i .i64 (IntKind.i64.wrap (i + (1 : Int)))], [some (Blk.row false
 none NCd (o ++ flatV (Rose.node ((Rose.lab z).fst, (Rose.lab z).snd.fst, (Rose.lab z).snd.snd.fst, (Rose.lab z).snd.snd.snd.fst, ()) (Rose.kids z)) s o.length))]))))
 (some (Ex.exit 0, [V.ref 0 0 m], [some (Blk.row false none NCd o)]))) : _) := by kernel_rfl
theorem flat0_tree (x0 : Int) (x1 : List UInt8) (x2 : Int) (x3 : Bool) (xs : List (Rose VLab)) (up : Int) : funN Try.prog (look [(115, .own flatG)]) (look [(4, flat0E)]) Try.f115 [.agg [.i .i64 x0, .s x1, .i .i64 x2, .b x3, .sl (.rose VCd) xs], .i .i64 up, .nl] [] =
  ((ifT (decide ((1 : Nat) = (1 : Nat) ∧ (0 : Int) ≤ (0 : Int) ∧ (0 : Nat) ≤ xs.length ∧ (↑xs.length : Int) = (↑xs.length : Int) ∧ (0 : Int) ≤ (0 : Int) ∧ (1 : Nat) + vcL
 (List.drop (0 : Nat) xs) ≤ (2000000 : Nat) ∧ vcL xs ≤ (2000000 : Nat))) (some (V.ref 0 0 ((x0, x1, x2, up, x3, ()) :: nilT NCd.den ++ flatK (List.drop (0 : Nat) xs) (0 :
 Nat) (1 : Nat)).length, [some (Blk.row false none NCd ((x0, x1, x2, up, x3, ()) :: nilT NCd.den ++ flatK (List.drop (0 : Nat) xs) (0 : Nat) (1 : Nat)))]))) : _) := by kernel_rfl
theorem flat0_loop (s : Nat) (ks : List (Rose VLab)) (h2 : vcL ks ≤ 2000000) : ∀ (j i : Nat) (o : List Nd), i + j = ks.length → o.length + vcL (ks.drop i) ≤ 2000000 →
    Runs Try.prog (look [(115, .own flatG)]) (look [(4, flat0E)]) 0 (body Try.f115 0) flat0E ([.ref 0 0 o.length, .i .i64 (s : Int), .sl (.rose VCd) ks, .i .i64 (ks.length : Int), .i .i64 (i : Int)], [some (.row false none NCd o)]) (.exit 0) ([.ref 0 0 (o ++ flatK (ks.drop i) s o.length).length], [some (.row false none NCd (o ++ flatK (ks.drop i) s o.length))])
  | 0, i, o, hi, ho => by
    have hr := flat0_round o.length s ks ks.length i o
    rw [ifB_false (decide_eq_false (by omega))] at hr
    rw [List.drop_eq_nil_of_le (by omega), flatK, List.append_nil]
    exact .stop _ _ _ hr (by simp)
  | j + 1, i, o, hi, ho => by
    have hl : i < ks.length := by omega
    have hM : maxI = 9223372036854775807 := rfl
    have hlen := vc_len ks
    have hmem := vc_mem (List.getElem_mem hl)
    have hck := vc_kids ks[i]
    have hr := flat0_round o.length s ks ks.length i o
    rw [List.drop_eq_getElem_cons hl, vcL] at ho
    rw [ifB_true (decide_eq_true (by omega)), ifT_true (by simp only [Bool.and_eq_true, decide_eq_true_eq]; omega), Int.toNat_natCast, List.getElem?_eq_getElem hl, ifSome_s, wrap_succ (n := i) (by omega), vrose_eta', ifT_true (decide_eq_true ⟨rfl, by omega⟩)] at hr
    rw [List.drop_eq_getElem_cons hl, flatK]
    have hk := flatV_len ks[i] s o.length
    have ih := flat0_loop s ks h2 j (i + 1) (o ++ flatV ks[i] s o.length) (by omega) (by rw [List.length_append]; omega)
    rw [List.length_append, List.append_assoc] at ih
    rw [List.length_append] at hr
    exact .step _ _ _ _ hr ih
theorem flat0_ok : LoopsOk Try.prog (look [(115, .own flatG)]) (look [(4, flat0E)]) 0 (Try.f115.body.getD .skip) := by
  refine loopsOk_one (a := body Try.f115 0) (by kernel_rfl) fun d ex d' h => ?_
  unfold flat0E at h
  dsimp only at h
  split at h
  · rename_i m s ks k i o
    obtain ⟨hc, hx⟩ := need_some h
    clear h
    obtain ⟨rfl, h0, h1, rfl, h3, h4, h6⟩ := of_decide_eq_true hc
    obtain ⟨i, rfl⟩ := Int.eq_ofNat_of_zero_le h0
    obtain ⟨s, rfl⟩ := Int.eq_ofNat_of_zero_le h3
    simp only [Int.toNat_natCast] at h1 h4 hx
    have h8 := leaf_some hx
    obtain ⟨rfl, rfl⟩ := Prod.mk.inj h8
    exact flat0_loop s ks h6 (ks.length - i) i o (by omega) h4
  · cases h
theorem of_tree (x0 : Int) (x1 : List UInt8) (x2 : Int) (x3 : Bool) (xs : List (Rose VLab)) : funN Try.prog (look [(115, .own flat0G)]) (look []) Try.f51 [.agg [.i .i64 x0, .s x1, .i .i64 x2, .b x3, .sl (.rose VCd) xs]] [] =
  ((ifT (decide (vcL xs + (1 : Nat) ≤ (2000000 : Nat))) (some (V.agg [V.ref 0 0 (flatV (Rose.node (x0, x1, x2, x3, ()) xs) (-1 : Int) (0 : Nat)).length], [some (Blk.row false
 none NCd (flatV (Rose.node (x0, x1, x2, x3, ()) xs) (-1 : Int) (0 : Nat)))]))) : _) := by kernel_rfl
def least0G : List V → List Blk → Br (V × List (Option Blk))
  | [.tp (.pair (.int .i64) (.pair .str (.pair (.int .i64) (.pair .bool (.pair (.int .i64) .unit))))) z 0, .nl, .i .i64 no, .i .i64 up], [] => .need (decide (cntR z ≤ 2000000)) (.leaf (.ref 0 0 (leastL z no up 0).length, [some (.row false none (.pair (.int .i64) (.pair .str (.pair (.int .i64) (.pair (.int .i64) (.pair .bool .unit))))) (leastL z no up 0))]))
  | _, _ => .no
def least0E : LoopEnt := ⟨50, [1,9,30,31,32], [1], [], fun
  | ([.ref 0 0 m, .i .i64 s, .sl (.tree (.pair (.int .i64) (.pair .str (.pair (.int .i64) (.pair .bool (.pair (.int .i64) .unit)))))) ks, .i .i64 k, .i .i64 i], [some (.row false none (.pair (.int .i64) (.pair .str (.pair (.int .i64) (.pair (.int .i64) (.pair .bool .unit))))) o)]) => .need (decide (m = o.length ∧ 0 ≤ i ∧ i.toNat ≤ ks.length ∧ k = ks.length ∧ 0 ≤ s ∧ o.length + cntL (ks.drop i.toNat) ≤ 2000000 ∧ cntL ks ≤ 2000000)) (.leaf (.exit 0, ([.ref 0 0 (o ++ leastK (ks.drop i.toNat) s.toNat o.length).length], [some (.row false none (.pair (.int .i64) (.pair .str (.pair (.int .i64) (.pair (.int .i64) (.pair .bool .unit))))) (o ++ leastK (ks.drop i.toNat) s.toNat o.length))])))
  | _ => .no⟩
theorem flat0_fun (x0 : Int) (x1 : List UInt8) (x2 : Int) (x3 : Bool) (xs : List (Rose VLab)) (up : Int) (hc : vcL xs + 1 ≤ 2000000) : funN Try.prog (look [(115, .own flatG)]) (look [(4, flat0E)]) Try.f115 [.agg [.i .i64 x0, .s x1, .i .i64 x2, .b x3, .sl (.rose VCd) xs], .i .i64 up, .nl] [] = some (.ref 0 0 (flatV (.node (x0, x1, x2, x3, ()) xs) up 0).length, [some (.row false none NCd (flatV (.node (x0, x1, x2, x3, ()) xs) up 0))]) := by
  rw [flat0_tree]
  have hM : maxI = 9223372036854775807 := rfl
  have hlen := vc_len xs
  rw [show List.drop 0 xs = xs from rfl, flatV_eq]
  rw [ifT_true (decide_eq_true (by refine ⟨by trivial, by omega, by omega, by trivial, by omega, by omega, by omega⟩))]
  simp [nilT_eq]
theorem flat0 : Contract Try.prog 115 (Ent.own flat0G).F := by
  refine fun_contractN' (KnowsL.cons (enters_fn Try.func115 (by kernel_rfl) (by kernel_rfl)) l4Flat KnowsL.nil).knows (Λ := (look [(4, flat0E)])) Try.func115 (c := Try.f115.body.getD .skip) (by kernel_rfl) fun vs bs r hq hv hb => ?_
  unfold Ent.F flat0G at hq
  dsimp only at hq
  split at hq
  · rename_i x0 x1 x2 x3 xs up
    obtain ⟨hc, hx⟩ := need_some hq
    exact ⟨flat0_ok, (flat0_fun x0 x1 x2 x3 xs up (of_decide_eq_true hc)).trans hx⟩
  · cases hq
theorem l4Of : Contract Try.prog 51 (Ent.rd1 ofG).F := by
  refine fun_contractN' (KnowsL.cons (enters_fn Try.func115 (by kernel_rfl) (by kernel_rfl)) flat0 KnowsL.nil).knows (Λ := look []) Try.func51 (c := Try.f51.body.getD .skip) (by kernel_rfl) fun vs bs r hq hv hb => ?_
  unfold Ent.F ofG at hq
  dsimp only at hq
  split at hq
  · rename_i x0 x1 x2 x3 xs
    obtain ⟨hc, hx⟩ := need_some hq
    refine ⟨loopsOk_nil _, Eq.trans ?_ hx⟩
    rw [of_tree, ifT_true hc]
    rfl
  · cases hq
theorem least0_round (m : Nat) (s : Int) (ks : List (Rose Lab)) (k i : Int) (o : List Nd) : roundK Try.prog (look [(49, .own leastG), (110, .rd1 kholdsG)]) (look [(5, least0E)]) 0 (body Try.f49 0) least0E ([.ref 0 0 m, .i .i64 s, .sl (.tree LCd) ks, .i .i64 k, .i .i64 i], [some (.row false none NCd o)]) =
  ((ifB (decide (i < k)) (ifT (decide ((0 : Int) ≤ i) && decide (i < (↑ks.length : Int))) (ifSome ks[i.toNat]? fun z => ifB (Rose.lab z).snd.snd.snd.fst (ifT (decide (m =
 o.length ∧ o.length + cntR z ≤ (2000000 : Nat))) (some (Ex.normal, [V.ref 0 0 (o ++ leastL z (Rose.lab z).snd.snd.fst s o.length).length, V.i .i64 s, V.sl LCd.tree ks,
 V.i .i64 k, V.i .i64 (IntKind.i64.wrap (i + (1 : Int)))], [some (Blk.row false none NCd (o ++ leastL z (Rose.lab z).snd.snd.fst s o.length))]))) (some (Ex.normal, [V.ref
 0 0 m, V.i .i64 s, V.sl LCd.tree ks, V.i .i64 k, V.i .i64 (IntKind.i64.wrap (i + (1 : Int)))], [some (Blk.row false none NCd o)])))) (some (Ex.exit 0, [V.ref 0 0 m],
 [some (Blk.row false none NCd o)]))) : _) := by kernel_rfl
theorem least0_tree (z : Rose Lab) (no up : Int) : funN Try.prog (look [(49, .own leastG), (110, .rd1 kholdsG)]) (look [(5, least0E)]) Try.f49 [.tp LCd z 0, .nl, .i .i64 no, .i .i64 up] [] =
  ((ifB (z.lab.fst == (5 : Int)) (ifT (decide ((1 : Nat) = (1 : Nat) ∧ (0 : Int) ≤ (0 : Int) ∧ (0 : Nat) ≤ z.kids.length ∧ (↑z.kids.length : Int) = (↑z.kids.length : Int) ∧ (0
 : Int) ≤ (0 : Int) ∧ (1 : Nat) + cntL (List.drop (0 : Nat) z.kids) ≤ (2000000 : Nat) ∧ cntL z.kids ≤ (2000000 : Nat))) (some (V.ref 0 0 (((0 : Int), nilT UInt8, no, up,
 holdsK z.lab.fst, ()) :: nilT NCd.den ++ leastK (List.drop (0 : Nat) z.kids) (0 : Nat) (1 : Nat)).length, [some (Blk.row false none NCd (((0 : Int), nilT UInt8, no, up,
 holdsK z.lab.fst, ()) :: nilT NCd.den ++ leastK (List.drop (0 : Nat) z.kids) (0 : Nat) (1 : Nat)))]))) (some (V.ref 0 0 1, [some (Blk.row false none NCd (((0 : Int), nilT
 UInt8, no, up, holdsK z.lab.fst, ()) :: nilT NCd.den))]))) : _) := by kernel_rfl
theorem least0_loop (s : Nat) (ks : List (Rose Lab)) (h2 : cntL ks ≤ 2000000) : ∀ (j i : Nat) (o : List Nd), i + j = ks.length → o.length + cntL (ks.drop i) ≤ 2000000 →
    Runs Try.prog (look [(49, .own leastG), (110, .rd1 kholdsG)]) (look [(5, least0E)]) 0 (body Try.f49 0) least0E ([.ref 0 0 o.length, .i .i64 (s : Int), .sl (.tree LCd) ks, .i .i64 (ks.length : Int), .i .i64 (i : Int)], [some (.row false none NCd o)]) (.exit 0) ([.ref 0 0 (o ++ leastK (ks.drop i) s o.length).length], [some (.row false none NCd (o ++ leastK (ks.drop i) s o.length))])
  | 0, i, o, hi, ho => by
    have hr := least0_round o.length s ks ks.length i o
    rw [ifB_false (decide_eq_false (by omega))] at hr
    rw [List.drop_eq_nil_of_le (by omega), leastK, List.append_nil]
    exact .stop _ _ _ hr (by simp)
  | j + 1, i, o, hi, ho => by
    have hl : i < ks.length := by omega
    have hM : maxI = 9223372036854775807 := rfl
    have hlen := cnt_len ks
    have hmem := cnt_mem (List.getElem_mem hl)
    have hr := least0_round o.length s ks ks.length i o
    rw [List.drop_eq_getElem_cons hl, cntL] at ho
    rw [ifB_true (decide_eq_true (by omega)), ifT_true (by simp only [Bool.and_eq_true, decide_eq_true_eq]; omega), Int.toNat_natCast, List.getElem?_eq_getElem hl, ifSome_s, wrap_succ (n := i) (by omega)] at hr
    rw [List.drop_eq_getElem_cons hl, leastK]
    cases hm : ks[i].lab.2.2.2.1 with
    | true =>
      rw [hm, ifB_t, ifT_true (decide_eq_true ⟨rfl, by omega⟩)] at hr
      have hk := leastL_len ks[i] ks[i].lab.2.2.1 s o.length
      have ih := least0_loop s ks h2 j (i + 1) (o ++ leastL ks[i] ks[i].lab.2.2.1 s o.length) (by omega) (by rw [List.length_append]; omega)
      rw [List.length_append, List.append_assoc] at ih
      rw [if_pos rfl]
      rw [List.length_append] at hr
      exact .step _ _ _ _ hr ih
    | false =>
      rw [hm, ifB_f] at hr
      rw [if_neg (by simp)]
      exact .step _ _ _ _ hr (least0_loop s ks h2 j (i + 1) o (by omega) (by omega))
theorem least0_ok : LoopsOk Try.prog (look [(49, .own leastG), (110, .rd1 kholdsG)]) (look [(5, least0E)]) 0 (Try.f49.body.getD .skip) := by
  refine loopsOk_one (a := body Try.f49 0) (by kernel_rfl) fun d ex d' h => ?_
  unfold least0E at h
  dsimp only at h
  split at h
  · rename_i m s ks k i o
    obtain ⟨hc, hx⟩ := need_some h
    clear h
    obtain ⟨rfl, h0, h1, rfl, h3, h4, h6⟩ := of_decide_eq_true hc
    obtain ⟨i, rfl⟩ := Int.eq_ofNat_of_zero_le h0
    obtain ⟨s, rfl⟩ := Int.eq_ofNat_of_zero_le h3
    simp only [Int.toNat_natCast] at h1 h4 hx
    have h8 := leaf_some hx
    obtain ⟨rfl, rfl⟩ := Prod.mk.inj h8
    exact least0_loop s ks h6 (ks.length - i) i o (by omega) h4
  · cases h
theorem least0_fun (z : Rose Lab) (no up : Int) (hc : cntR z ≤ 2000000) : funN Try.prog (look [(49, .own leastG), (110, .rd1 kholdsG)]) (look [(5, least0E)]) Try.f49 [.tp LCd z 0, .nl, .i .i64 no, .i .i64 up] [] = some (.ref 0 0 (leastL z no up 0).length, [some (.row false none NCd (leastL z no up 0))]) := by
  rw [least0_tree]
  have hck := cnt_kids z
  have hlen := cnt_len z.kids
  rw [show List.drop 0 z.kids = z.kids from rfl, leastL_eq]
  cases h5 : z.lab.1 == 5 with
  | false => rfl
  | true =>
    rw [ifB_t, cond_true, ifT_true (decide_eq_true (by refine ⟨by trivial, by omega, by omega, by trivial, by omega, by omega, by omega⟩))]
    simp [nilT_eq]
theorem least0 : Contract Try.prog 49 (Ent.rd1 least0G).F := by
  refine fun_contractN' (KnowsL.cons (enters_fn Try.func49 (by kernel_rfl) (by kernel_rfl)) least (KnowsL.cons (enters_fn Try.func110 (by kernel_rfl) (by kernel_rfl)) kholds KnowsL.nil)).knows (Λ := (look [(5, least0E)])) Try.func49 (c := Try.f49.body.getD .skip) (by kernel_rfl) fun vs bs r hq hv hb => ?_
  unfold Ent.F least0G at hq
  dsimp only at hq
  split at hq
  · rename_i z no up
    obtain ⟨hc, hx⟩ := need_some hq
    exact ⟨least0_ok, (least0_fun z no up (of_decide_eq_true hc)).trans hx⟩
  · cases hq
/-- The nodes of the least value of a schema. -/
def dfL (l : List Ty) : List Nd := leastL (t2L l 0) 0 (-1) 0
def defOfG : List V → List Blk → Br (V × List (Option Blk))
  | [.agg [.sl (.pair (.int .i64) (.pair .str (.pair (.int .i64) (.pair .bool (.pair (.int .i64) (.pair (.int .i64) .unit)))))) l]], [] => .need (decide (l.length ≤ 4000000000) && nmL l) (.br (kindB l) (.leaf (.tup [.agg [.ref 0 0 (dfL l).length], .b true], [some (.row false none (.pair (.int .i64) (.pair .str (.pair (.int .i64) (.pair (.int .i64) (.pair .bool .unit))))) (dfL l))])) (.leaf (.tup [.agg [.ref 0 0 0], .b false], [some (.row false none (.pair (.int .i64) (.pair .str (.pair (.int .i64) (.pair (.int .i64) (.pair .bool .unit))))) [])])))
  | _, _ => .no
mutual
theorem leastL_flat : ∀ (z : Rose Lab) (no up : Int) (s : Nat), leastL z no up s = flatV (defV z no) up s
  | .node x ks, no, up, s => by
    rw [leastL, defV, flatV]
    cases x.1 == 5 with
    | false => rw [cond_false, cond_false, flatK]
    | true => rw [cond_true, cond_true, leastK_flat ks s (s + 1)]
theorem leastK_flat : ∀ (ks : List (Rose Lab)) (s p : Nat), leastK ks s p = flatK (defK ks) s p
  | [], s, p => by rw [leastK, defK, flatK]
  | z :: ks, s, p => by
    rw [leastK, defK]
    split
    · rw [flatK, leastL_flat z, leastK_flat ks s]
    · exact leastK_flat ks s p
end
theorem defV_vc (z : Rose Lab) (no : Int) : vcR (defV z no) ≤ cntR z := by
  rw [← flatV_len (defV z no) 0 0, ← leastL_flat]
  exact leastL_len z no 0 0
theorem idefOf_tree (l : List Ty) : funN Try.prog (look [(48, .rd1 kindOfG), (49, .rd1 least0G)]) (look []) Try.f8 [.agg [.sl TCd l]] [] =
  ((ifT (decide (l.length ≤ (4000000000 : Nat)) && nmL l) (ifB (kindB l) (ifT (decide (cntR (Rose.node ((kf l (0 : Nat)).fst.lab.fst, (kf l (0 : Nat)).fst.lab.snd.fst, (kf l
 (0 : Nat)).fst.lab.snd.snd.fst, (kf l (0 : Nat)).fst.lab.snd.snd.snd.fst, (kf l (0 : Nat)).fst.lab.snd.snd.snd.snd.fst, ()) (List.take (kf l (0 : Nat)).fst.kids.length
 (List.drop (0 : Nat) (kf l (0 : Nat)).fst.kids))) ≤ (2000000 : Nat))) (some (V.tup [V.agg [V.ref 0 0 (leastL (Rose.node ((kf l (0 : Nat)).fst.lab.fst, (kf l (0 :
 Nat)).fst.lab.snd.fst, (kf l (0 : Nat)).fst.lab.snd.snd.fst, (kf l (0 : Nat)).fst.lab.snd.snd.snd.fst, (kf l (0 : Nat)).fst.lab.snd.snd.snd.snd.fst, ()) (List.take (kf l
 (0 : Nat)).fst.kids.length (List.drop (0 : Nat) (kf l (0 : Nat)).fst.kids))) (0 : Int) (-1 : Int) (0 : Nat)).length], V.b true], [some (Blk.row false none NCd (leastL
 (Rose.node ((kf l (0 : Nat)).fst.lab.fst, (kf l (0 : Nat)).fst.lab.snd.fst, (kf l (0 : Nat)).fst.lab.snd.snd.fst, (kf l (0 : Nat)).fst.lab.snd.snd.snd.fst, (kf l (0 :
 Nat)).fst.lab.snd.snd.snd.snd.fst, ()) (List.take (kf l (0 : Nat)).fst.kids.length (List.drop (0 : Nat) (kf l (0 : Nat)).fst.kids))) (0 : Int) (-1 : Int) (0 : Nat)))])))
 (some (V.tup [V.agg [V.ref 0 0 0], V.b false], [some (Blk.row false none NCd (nilT NCd.den))])))) : _) := by kernel_rfl
theorem sdefOf_tree (l : List Ty) : funN Try.prog (look [(50, .rd1 gschG), (53, .rd1 l2TreeG), (52, .rd1 defG), (51, .rd1 ofG)]) (look []) Try.f9 [.agg [.sl TCd l]] [] =
  ((ifT (decide (l.length ≤ (4000000000 : Nat)) && nmL l) (ifB (!kindB l) (some (V.tup [V.agg [V.ref 0 0 0], V.b false], [some (Blk.row false none NCd (nilT NCd.den))])) (ifT
 (decide ((0 : Int) ≤ (0 : Int) ∧ (0 : Nat) < l.length ∧ l.length ≤ (4000000000 : Nat))) (ifT (decide (cntL (List.take (t2L l (0 : Nat)).kids.length (List.drop (0 : Nat)
 (t2L l (0 : Nat)).kids)) + (1 : Nat) ≤ (1000000 : Nat))) (ifT (decide (vcL (List.take (defV (Rose.node ((t2L l (0 : Nat)).lab.fst, (t2L l (0 : Nat)).lab.snd.fst, (t2L l
 (0 : Nat)).lab.snd.snd.fst, (t2L l (0 : Nat)).lab.snd.snd.snd.fst, (t2L l (0 : Nat)).lab.snd.snd.snd.snd.fst, ()) (List.take (t2L l (0 : Nat)).kids.length (List.drop (0 :
 Nat) (t2L l (0 : Nat)).kids))) (0 : Int)).kids.length (List.drop (0 : Nat) (defV (Rose.node ((t2L l (0 : Nat)).lab.fst, (t2L l (0 : Nat)).lab.snd.fst, (t2L l (0 :
 Nat)).lab.snd.snd.fst, (t2L l (0 : Nat)).lab.snd.snd.snd.fst, (t2L l (0 : Nat)).lab.snd.snd.snd.snd.fst, ()) (List.take (t2L l (0 : Nat)).kids.length (List.drop (0 : Nat)
 (t2L l (0 : Nat)).kids))) (0 : Int)).kids)) + (1 : Nat) ≤ (2000000 : Nat))) (some (V.tup [V.agg [V.ref 0 0 (flatV (Rose.node ((defV (Rose.node ((t2L l (0 : Nat)).lab.fst,
 (t2L l (0 : Nat)).lab.snd.fst, (t2L l (0 : Nat)).lab.snd.snd.fst, (t2L l (0 : Nat)).lab.snd.snd.snd.fst, (t2L l (0 : Nat)).lab.snd.snd.snd.snd.fst, ()) (List.take (t2L l
 (0 : Nat)).kids.length (List.drop (0 : Nat) (t2L l (0 : Nat)).kids))) (0 : Int)).lab.fst, (defV (Rose.node ((t2L l (0 : Nat)).lab.fst, (t2L l (0 : Nat)).lab.snd.fst, (t2L
 l (0 : Nat)).lab.snd.snd.fst, (t2L l (0 : Nat)).lab.snd.snd.snd.fst, (t2L l (0 : Nat)).lab.snd.snd.snd.snd.fst, ()) (List.take (t2L l (0 : Nat)).kids.length (List.drop (0
 : Nat) (t2L l (0 : Nat)).kids))) (0 : Int)).lab.snd.fst, (defV (Rose.node ((t2L l (0 : Nat)).lab.fst, (t2L l (0 : Nat)).lab.snd.fst, (t2L l (0 : Nat)).lab.snd.snd.fst,
 (t2L l (0 : Nat)).lab.snd.snd.snd.fst, (t2L l (0 : Nat)).lab.snd.snd.snd.snd.fst, ()) (List.take (t2L l (0 : Nat)).kids.length (List.drop (0 : Nat) (t2L l (0 :
 Nat)).kids))) (0 : Int)).lab.snd.snd.fst, (defV (Rose.node ((t2L l (0 : Nat)).lab.fst, (t2L l (0 : Nat)).lab.snd.fst, (t2L l (0 : Nat)).lab.snd.snd.fst, (t2L l (0 :
 Nat)).lab.snd.snd.snd.fst, (t2L l (0 : Nat)).lab.snd.snd.snd.snd.fst, ()) (List.take (t2L l (0 : Nat)).kids.length (List.drop (0 : Nat) (t2L l (0 : Nat)).kids))) (0 :
 Int)).lab.snd.snd.snd.fst, ()) (List.take (defV (Rose.node ((t2L l (0 : Nat)).lab.fst, (t2L l (0 : Nat)).lab.snd.fst, (t2L l (0 : Nat)).lab.snd.snd.fst, (t2L l (0 :
 Nat)).lab.snd.snd.snd.fst, (t2L l (0 : Nat)).lab.snd.snd.snd.snd.fst, ()) (List.take (t2L l (0 : Nat)).kids.length (List.drop (0 : Nat) (t2L l (0 : Nat)).kids))) (0 :
 Int)).kids.length (List.drop (0 : Nat) (defV (Rose.node ((t2L l (0 : Nat)).lab.fst, (t2L l (0 : Nat)).lab.snd.fst, (t2L l (0 : Nat)).lab.snd.snd.fst, (t2L l (0 :
 Nat)).lab.snd.snd.snd.fst, (t2L l (0 : Nat)).lab.snd.snd.snd.snd.fst, ()) (List.take (t2L l (0 : Nat)).kids.length (List.drop (0 : Nat) (t2L l (0 : Nat)).kids))) (0 :
 Int)).kids))) (-1 : Int) (0 : Nat)).length], V.b true], [some (Blk.row false none NCd (flatV (Rose.node ((defV (Rose.node ((t2L l (0 : Nat)).lab.fst, (t2L l (0 :
 Nat)).lab.snd.fst, (t2L l (0 : Nat)).lab.snd.snd.fst, (t2L l (0 : Nat)).lab.snd.snd.snd.fst, (t2L l (0 : Nat)).lab.snd.snd.snd.snd.fst, ()) (List.take (t2L l (0 :
 Nat)).kids.length (List.drop (0 : Nat) (t2L l (0 : Nat)).kids))) (0 : Int)).lab.fst, (defV (Rose.node ((t2L l (0 : Nat)).lab.fst, (t2L l (0 : Nat)).lab.snd.fst, (t2L l (0
 : Nat)).lab.snd.snd.fst, (t2L l (0 : Nat)).lab.snd.snd.snd.fst, (t2L l (0 : Nat)).lab.snd.snd.snd.snd.fst, ()) (List.take (t2L l (0 : Nat)).kids.length (List.drop (0 :
 Nat) (t2L l (0 : Nat)).kids))) (0 : Int)).lab.snd.fst, (defV (Rose.node ((t2L l (0 : Nat)).lab.fst, (t2L l (0 : Nat)).lab.snd.fst, (t2L l (0 : Nat)).lab.snd.snd.fst, (t2L
 l (0 : Nat)).lab.snd.snd.snd.fst, (t2L l (0 : Nat)).lab.snd.snd.snd.snd.fst, ()) (List.take (t2L l (0 : Nat)).kids.length (List.drop (0 : Nat) (t2L l (0 : Nat)).kids)))
 (0 : Int)).lab.snd.snd.fst, (defV (Rose.node ((t2L l (0 : Nat)).lab.fst, (t2L l (0 : Nat)).lab.snd.fst, (t2L l (0 : Nat)).lab.snd.snd.fst, (t2L l (0 :
 Nat)).lab.snd.snd.snd.fst, (t2L l (0 : Nat)).lab.snd.snd.snd.snd.fst, ()) (List.take (t2L l (0 : Nat)).kids.length (List.drop (0 : Nat) (t2L l (0 : Nat)).kids))) (0 :
 Int)).lab.snd.snd.snd.fst, ()) (List.take (defV (Rose.node ((t2L l (0 : Nat)).lab.fst, (t2L l (0 : Nat)).lab.snd.fst, (t2L l (0 : Nat)).lab.snd.snd.fst, (t2L l (0 :
 Nat)).lab.snd.snd.snd.fst, (t2L l (0 : Nat)).lab.snd.snd.snd.snd.fst, ()) (List.take (t2L l (0 : Nat)).kids.length (List.drop (0 : Nat) (t2L l (0 : Nat)).kids))) (0 :
 Int)).kids.length (List.drop (0 : Nat) (defV (Rose.node ((t2L l (0 : Nat)).lab.fst, (t2L l (0 : Nat)).lab.snd.fst, (t2L l (0 : Nat)).lab.snd.snd.fst, (t2L l (0 :
 Nat)).lab.snd.snd.snd.fst, (t2L l (0 : Nat)).lab.snd.snd.snd.snd.fst, ()) (List.take (t2L l (0 : Nat)).kids.length (List.drop (0 : Nat) (t2L l (0 : Nat)).kids))) (0 :
 Int)).kids))) (-1 : Int) (0 : Nat)))]))))))) : _) := by kernel_rfl
theorem idefOf_fun (l : List Ty) (hc : (decide (l.length ≤ 4000000000) && nmL l) = true) : funN Try.prog (look [(48, .rd1 kindOfG), (49, .rd1 least0G)]) (look []) Try.f8 [.agg [.sl TCd l]] [] = (.br (kindB l) (.leaf (.tup [.agg [.ref 0 0 (dfL l).length], .b true], [some (.row false none NCd (dfL l))])) (.leaf (.tup [.agg [.ref 0 0 0], .b false], [some (.row false none NCd [])])) : Br (V × List (Option Blk))).run := by
  rw [idefOf_tree, hc, ifT_t]
  unfold dfL
  cases hk : kindB l with
  | false => rfl
  | true =>
    obtain ⟨k1, k2, k3, k4⟩ := kf_t2 hk
    rw [ifB_t, rose_eta, k4, ifT_true (decide_eq_true (by omega))]
    rfl
theorem idefOf : Contract Try.prog 8 (Ent.rd1 defOfG).F := by
  refine fun_contractN' (KnowsL.cons (enters_fn Try.func48 (by kernel_rfl) (by kernel_rfl)) kindOf (KnowsL.cons (enters_fn Try.func49 (by kernel_rfl) (by kernel_rfl)) least0 KnowsL.nil)).knows (Λ := look []) Try.func8 (c := Try.f8.body.getD .skip) (by kernel_rfl) fun vs bs r hq hv hb => ?_
  unfold Ent.F defOfG at hq
  dsimp only at hq
  split at hq
  · rename_i l
    obtain ⟨hc, hx⟩ := need_some hq
    exact ⟨loopsOk_nil _, (idefOf_fun l hc).trans hx⟩
  · cases hq
theorem sdefOf_fun (l : List Ty) (hc : (decide (l.length ≤ 4000000000) && nmL l) = true) : funN Try.prog (look [(50, .rd1 gschG), (53, .rd1 l2TreeG), (52, .rd1 defG), (51, .rd1 ofG)]) (look []) Try.f9 [.agg [.sl TCd l]] [] = (.br (kindB l) (.leaf (.tup [.agg [.ref 0 0 (dfL l).length], .b true], [some (.row false none NCd (dfL l))])) (.leaf (.tup [.agg [.ref 0 0 0], .b false], [some (.row false none NCd [])])) : Br (V × List (Option Blk))).run := by
  rw [sdefOf_tree, hc, ifT_t]
  unfold dfL
  cases hk : kindB l with
  | false => rfl
  | true =>
    obtain ⟨k1, k2, k3, k4⟩ := kf_t2 hk
    rw [Bool.and_eq_true, decide_eq_true_eq] at hc
    have hck := cnt_kids (t2L l 0)
    have hv := defV_vc (t2L l 0) 0
    have hvk := vc_kids (defV (t2L l 0) 0)
    rw [Bool.not_true, ifB_f, ifT_true (decide_eq_true ⟨by omega, k1, hc.1⟩), rose_eta, show List.drop 0 (t2L l 0).kids = (t2L l 0).kids from rfl, List.take_length, vrose_eta, show List.drop 0 (defV (t2L l 0) 0).kids = (defV (t2L l 0) 0).kids from rfl, List.take_length, ifT_true (decide_eq_true (by omega)), ifT_true (decide_eq_true (by omega)), leastL_flat]
    rfl
theorem sdefOf : Contract Try.prog 9 (Ent.rd1 defOfG).F := by
  refine fun_contractN' (KnowsL.cons (enters_fn Try.func50 (by kernel_rfl) (by kernel_rfl)) sgsch (KnowsL.cons (enters_fn Try.func53 (by kernel_rfl) (by kernel_rfl)) l2Tree (KnowsL.cons (enters_fn Try.func52 (by kernel_rfl) (by kernel_rfl)) l4Default (KnowsL.cons (enters_fn Try.func51 (by kernel_rfl) (by kernel_rfl)) l4Of KnowsL.nil)))).knows (Λ := look []) Try.func9 (c := Try.f9.body.getD .skip) (by kernel_rfl) fun vs bs r hq hv hb => ?_
  unfold Ent.F defOfG at hq
  dsimp only at hq
  split at hq
  · rename_i l
    obtain ⟨hc, hx⟩ := need_some hq
    exact ⟨loopsOk_nil _, (sdefOf_fun l hc).trans hx⟩
  · cases hq
/-- Nodes lie from a place on. -/
def laid (v : List Nd) : Nat → List Nd → Prop
  | _, [] => True
  | s, x :: w => v[s]? = some x ∧ laid v (s + 1) w
/-- What is at a place belongs to nothing from s on. -/
def offN (v : List Nd) (s e : Nat) : Prop := ∀ j : Nat, s ≤ j → upN v e ≠ some (j : Int)
theorem laid_app {v : List Nd} : ∀ {a : List Nd} {s : Nat} {b : List Nd}, laid v s (a ++ b) ↔ laid v s a ∧ laid v (s + a.length) b
  | [], s, b => by simp [laid]
  | x :: a, s, b => by
    rw [List.cons_append, laid, laid, laid_app, List.length_cons, and_assoc, show s + 1 + a.length = s + (a.length + 1) by omega]
theorem own_off {v : List Nd} {s e : Nat} (h : offN v s e) : ownB v s e = false := by
  unfold ownB
  exact beq_false_of_ne (h s (Nat.le_refl _))
theorem off_le {v : List Nd} {s t e : Nat} (h : offN v s e) (hs : s ≤ t) : offN v t e := fun j hj => h j (by omega)
theorem leastK_head (s : Nat) : ∀ (ks : List (Rose Lab)) (p : Nat), leastK ks s p = [] ∨ ∃ y ∈ ks, ∃ m rest, leastK ks s p = ((0, [], y.lab.2.2.1, (s : Int), m, ()) : Nd) :: rest
  | [], p => .inl (by rw [leastK])
  | z :: ks, p => by
    rw [leastK]
    split
    · rw [leastL_eq]
      exact .inr ⟨z, by simp, _, _, rfl⟩
    · rcases leastK_head s ks p with h | ⟨y, h1, h2⟩
      · exact .inl h
      · exact .inr ⟨y, by simp [h1], h2⟩
/-- What lies behind the parts: off the part ahead of them. -/
theorem off_next {v : List Nd} {s p t : Nat} {ks : List (Rose Lab)} (hl : laid v p (leastK ks s p)) (he : offN v s (p + (leastK ks s p).length)) (hst : s < t) : offN v t p := by
  rcases leastK_head s ks p with h | ⟨y, _, m, rest, h⟩
  · rw [h] at he; exact off_le he (by omega)
  · rw [h, laid] at hl
    intro j hj hu
    unfold upN at hu
    rw [hl.1, Option.map_some] at hu
    have := Option.some.inj hu
    dsimp only at this
    omega
mutual
theorem leastL_fit (v : List Nd) : ∀ (z : Rose Lab), rightR z = true → ∀ (no up : Int) (s : Nat), laid v s (leastL z no up s) → offN v s (s + (leastL z no up s).length) → vfR v z s = ((s + (leastL z no up s).length : Nat) : Int)
  | .node x ks, hr, no, up, s, hl, he => by
    obtain ⟨hp, hrr⟩ := rightR_parts hr
    have hp : partsB x ks = true := hp
    have hrr : rightL x.1 ks = true := hrr
    have hk := partsB_kind hp
    rw [leastL, laid] at hl
    have hs : s < v.length := by
      by_cases h : s < v.length
      · exact h
      · rw [List.getElem?_eq_none (by omega)] at hl; cases hl.1
    have hv : v[s] = ((0, [], no, up, holdsK x.1, ()) : Nd) := by
      have := hl.1
      rw [List.getElem?_eq_getElem hs] at this
      exact Option.some.inj this
    rw [vfR_eq _ hs, hv]
    show (if holdsK x.1 = false then (if leafB x 0 [] (holdsK x.1) = true then (s : Int) + 1 else -1)
      else if (!holdsK x.1 || (0 : Int) != 0 || ([] : List UInt8) != []) = true then -1
      else if x.1 = 4 then vfI v s (vfH v ks) v.length (s + 1) else (if vfP v ks s (s + 1) < 0 then -1 else if ownB v s (vfP v ks s (s + 1)).toNat = true then -1 else vfP v ks s (s + 1))) = _
    have hlen : (leastL (.node x ks) no up s).length = (bif x.1 == 5 then leastK ks s (s + 1) else []).length + 1 := by rw [leastL, List.length_cons]
    rw [hlen] at he ⊢
    have leaf : x.1 ≠ 5 → (bif x.1 == 5 then leastK ks s (s + 1) else []).length = 0 := fun h => by rw [beq_false_of_ne h]; rfl
    rcases hk with h1 | h1 | h1 | ⟨h1, h6⟩ | h1
    · have h5 := leaf (by omega)
      have hb : leafB x 0 [] false = true := by unfold leafB; rw [if_neg (by simp), if_neg (by omega), if_neg (by omega)]; rfl
      have hh : holdsK x.1 = false := by rw [h1]; rfl
      rw [hh, if_pos rfl, hb, if_pos rfl, h5]; omega
    · have h5 := leaf (by omega)
      have hb : leafB x 0 [] false = true := by unfold leafB; rw [if_neg (by simp), if_pos h1]; rfl
      have hh : holdsK x.1 = false := by rw [h1]; rfl
      rw [hh, if_pos rfl, hb, if_pos rfl, h5]; omega
    · have h5 := leaf (by omega)
      have hm : 0 ≤ x.2.2.2.2.1 := by
        unfold partsB at hp
        rw [if_neg (by omega), if_pos h1, Bool.and_eq_true, decide_eq_true_eq] at hp
        exact hp.1.1
      have hb : leafB x 0 [] false = true := by unfold leafB; rw [if_neg (by simp), if_neg (by omega), if_pos h1, decide_eq_true (show (0 : Int) ≤ 0 ∧ 0 ≤ x.2.2.2.2.1 from ⟨by omega, hm⟩)]; rfl
      have hh : holdsK x.1 = false := by rw [h1]; rfl
      rw [hh, if_pos rfl, hb, if_pos rfl, h5]; omega
    · have h5 := leaf (by omega)
      have hh : holdsK x.1 = true := by rw [h1]; rfl
      rw [h5] at he ⊢
      have ho : ownB v s (s + 1) = false := own_off he
      have hI : ∀ n, vfI v s (vfH v ks) n (s + 1) = ((s + 1 : Nat) : Int) := fun n => by
        cases n with
        | zero => rw [vfI]
        | succ n => rw [vfI, if_neg (by rw [ho]; simp)]
      rw [hh, if_neg (by simp), if_neg (by simp), if_pos h1, hI]
    · have hh : holdsK x.1 = true := by rw [h1]; rfl
      have hpw : ks.Pairwise KR := by
        unfold partsB at hp
        rw [if_neg (by omega), if_neg (by omega), if_neg (by omega)] at hp
        split at hp
        · cases hp
        · exact ((msgL_iff _).1 hp).imp fun h => h.1
      have hb5 : (bif x.1 == 5 then leastK ks s (s + 1) else []) = leastK ks s (s + 1) := by rw [h1]; rfl
      rw [hb5] at hl he ⊢
      have hK := leastK_fit v ks (fun z hz => rightL_mem hrr hz) hpw s (s + 1) (by omega) hl.2 (by rw [show s + 1 + (leastK ks s (s + 1)).length = s + ((leastK ks s (s + 1)).length + 1) by omega]; exact he)
      rw [hh, if_neg (by simp), if_neg (by simp), if_neg (by omega), hK, if_neg (by omega), Int.toNat_natCast]
      have ho : ownB v s (s + 1 + (leastK ks s (s + 1)).length) = false := own_off (by rw [show s + 1 + (leastK ks s (s + 1)).length = s + ((leastK ks s (s + 1)).length + 1) by omega]; exact he)
      rw [ho, if_neg (by simp)]
      omega
theorem leastK_fit (v : List Nd) : ∀ (ks : List (Rose Lab)), (∀ z ∈ ks, rightR z = true) → ks.Pairwise KR → ∀ (s p : Nat), s < p → laid v p (leastK ks s p) → offN v s (p + (leastK ks s p).length) → vfP v ks s p = ((p + (leastK ks s p).length : Nat) : Int)
  | [], _, _, s, p, _, _, _ => by rw [vfP, leastK]; rfl
  | z :: ks, hr, hpw, s, p, hsp, hl, he => by
    rw [List.pairwise_cons] at hpw
    have hr2 : ∀ z ∈ ks, rightR z = true := fun w hw => hr w (List.mem_cons_of_mem _ hw)
    cases hm : z.lab.2.2.2.1 with
    | true =>
      have hk : leastK (z :: ks) s p = leastL z z.lab.2.2.1 s p ++ leastK ks s (p + (leastL z z.lab.2.2.1 s p).length) := by rw [leastK, if_pos hm]
      rw [hk] at hl he ⊢
      rw [laid_app] at hl
      rw [List.length_append] at he ⊢
      have e1 : p + ((leastL z z.lab.2.2.1 s p).length + (leastK ks s (p + (leastL z z.lab.2.2.1 s p).length)).length) = p + (leastL z z.lab.2.2.1 s p).length + (leastK ks s (p + (leastL z z.lab.2.2.1 s p).length)).length := by omega
      rw [e1] at he ⊢
      have hfit := leastL_fit v z (hr z List.mem_cons_self) z.lab.2.2.1 s p hl.1 (off_next hl.2 he hsp)
      have hv : v[p]? = some ((0, [], z.lab.2.2.1, (s : Int), holdsK z.lab.1, ()) : Nd) := by
        have := hl.1
        rw [leastL_eq, laid] at this
        exact this.1
      have hc : ownB v s p = true ∧ noN v p = some z.lab.2.2.1 := by
        constructor
        · unfold ownB upN; rw [hv, Option.map_some]; exact beq_self_eq_true _
        · unfold noN; rw [hv]; rfl
      rw [vfP, if_pos hc, hfit, if_neg (by omega), Int.toNat_natCast]
      exact leastK_fit v ks hr2 hpw.2 s _ (by omega) hl.2 he
    | false =>
      have hk : leastK (z :: ks) s p = leastK ks s p := by rw [leastK, if_neg (by rw [hm]; simp)]
      rw [hk] at hl he ⊢
      have hc : ¬ (ownB v s p = true ∧ noN v p = some z.lab.2.2.1) := fun ⟨h1, h2⟩ => by
        rcases leastK_head s ks p with h | ⟨y, hy, m, rest, h⟩
        · rw [h] at he
          have he2 : offN v s p := he
          rw [own_off he2] at h1; cases h1
        · rw [h, laid] at hl
          unfold noN at h2
          rw [hl.1, Option.map_some] at h2
          have h2 := Option.some.inj h2
          dsimp only at h2
          have : z.lab.2.2.1 < y.lab.2.2.1 := hpw.1 y hy
          omega
      rw [vfP, if_neg hc, if_neg (by rw [hm]; simp)]
      exact leastK_fit v ks hr2 hpw.2 s p hsp hl he
end
theorem laid_self (v : List Nd) : ∀ (w pre : List Nd), v = pre ++ w → laid v pre.length w
  | [], pre, h => by rw [laid]; trivial
  | x :: w, pre, h => by
    rw [laid]
    refine ⟨by rw [h, List.getElem?_append_right (Nat.le_refl _)]; simp, ?_⟩
    have := laid_self v w (pre ++ [x]) (by rw [h]; simp)
    rw [List.length_append] at this
    exact this
/-- The least value of a schema fits it. -/
theorem df_fits {l : List Ty} (h : kindB l = true) : fitsB (dfL l) l = true := by
  obtain ⟨k1, k2, k3, k4⟩ := kf_t2 h
  have h30 : l.length ≤ 30 := by
    unfold kindB at h
    simp only [Bool.and_eq_true, decide_eq_true_eq] at h
    omega
  have hc := kf_cnt k1
  have hb := kf_bnd l 0 k1
  rw [k4] at hc
  have hlen : (dfL l).length ≤ cntR (t2L l 0) := leastL_len _ _ _ _
  have hl : laid (dfL l) 0 (leastL (t2L l 0) 0 (-1) 0) := laid_self (dfL l) (dfL l) [] rfl
  have hoff : offN (dfL l) 0 (0 + (leastL (t2L l 0) 0 (-1) 0).length) := fun j _ hu => by
    have : upN (dfL l) (0 + (leastL (t2L l 0) 0 (-1) 0).length) = none := by
      unfold upN
      rw [List.getElem?_eq_none (by rw [Nat.zero_add]; exact Nat.le_refl _)]; rfl
    rw [this] at hu; cases hu
  have hfit := leastL_fit (dfL l) _ k3 0 (-1) 0 hl hoff
  have hd : dfL l = ((0, [], 0, -1, holdsK (t2L l 0).lab.1, ()) : Nd) :: (bif (t2L l 0).lab.1 == 5 then leastK (t2L l 0).kids 0 1 else []) := by unfold dfL; rw [leastL_eq]
  have h1 : 1 ≤ (dfL l).length := by rw [hd]; simp
  have hu : upN (dfL l) 0 = some (-1) := by rw [hd]; rfl
  have hn : noN (dfL l) 0 = some 0 := by rw [hd]; rfl
  unfold fitsB vfitsB
  rw [h, k4, hfit, hu, hn, decide_eq_true (show 1 ≤ (dfL l).length ∧ (dfL l).length ≤ 40 by omega)]
  simp [dfL]
def kpC : List V → List Blk → Br (V × List (Option Blk))
  | [.tp (.pair (.int .i64) (.pair .str (.pair (.int .i64) (.pair .bool (.pair (.int .i64) .unit))))) z 0, .bx [.i .i64 x] 0], [] => .leaf (.b (z.lab.2.2.1 == x), [])
  | _, _ => .no
def kpE  : LoopEnt := ⟨19, [0,1,4,7,8], [], [4], fun
  | ([.sl (.tree (.pair (.int .i64) (.pair .str (.pair (.int .i64) (.pair .bool (.pair (.int .i64) .unit)))))) l, .fn 121 [] [.ptr 0 0], .i .i64 r, .i .i64 k, .i .i64 i], [some (.box [.i .i64 x])]) =>
    .need (decide (0 ≤ i ∧ i.toNat ≤ l.length ∧ l.length ≤ maxI ∧ k = l.length)) (.br (decide (firstP (fun z : Rose Lab => z.lab.2.2.1 == x) i.toNat (l.drop i.toNat) < 0)) (.leaf (.exit 0, ([], [some (.box [.i .i64 x])]))) (.leaf (.ret, ([.i .i64 (firstP (fun z : Rose Lab => z.lab.2.2.1 == x) i.toNat (l.drop i.toNat))], [some (.box [.i .i64 x])]))))
  | _ => .no⟩
def kpiG  : List V → List Blk → Br (V × List (Option Blk))
  | [.sl (.tree (.pair (.int .i64) (.pair .str (.pair (.int .i64) (.pair .bool (.pair (.int .i64) .unit)))))) l, .fn 121 [] [.ptr 0 0]], [.box [.i .i64 x]] => .leaf (.i .i64 (firstP (fun z : Rose Lab => z.lab.2.2.1 == x) 0 l), [some (.box [.i .i64 x])])
  | _, _ => .no
def kpartG : List V → List Blk → Br (V × List (Option Blk))
  | [.tp (.pair (.int .i64) (.pair .str (.pair (.int .i64) (.pair .bool (.pair (.int .i64) .unit))))) z 0, .i .i64 x], [] => .need (decide (z.kids.length ≤ maxI)) (.br (hasNo x z.kids) (.leaf (.tp (.pair (.int .i64) (.pair .str (.pair (.int .i64) (.pair .bool (.pair (.int .i64) .unit))))) (byR x z.kids) 0, [])) (.leaf (.np, [])))
  | _, _ => .no
def gnC : List V → List Blk → Br (V × List (Option Blk))
  | [.agg [.i .i64 y0, .s y1, .i .i64 y2, .i .i64 y3, .b y4], .bx [.i .i64 x] 0], [] => .leaf (.b (y3 == 0 && y2 == x), [])
  | _, _ => .no
def gnE  : LoopEnt := ⟨19, [0,1,4,7,8], [], [4], fun
  | ([.sl (.pair (.int .i64) (.pair .str (.pair (.int .i64) (.pair (.int .i64) (.pair .bool .unit))))) l, .fn 59 [] [.ptr 0 0], .i .i64 r, .i .i64 k, .i .i64 i], [some (.box [.i .i64 x])]) =>
    .need (decide (0 ≤ i ∧ i.toNat ≤ l.length ∧ l.length ≤ maxI ∧ k = l.length)) (.br (decide (firstP (fun z : Nd => z.2.2.2.1 == 0 && z.2.2.1 == x) i.toNat (l.drop i.toNat) < 0)) (.leaf (.exit 0, ([], [some (.box [.i .i64 x])]))) (.leaf (.ret, ([.i .i64 (firstP (fun z : Nd => z.2.2.2.1 == 0 && z.2.2.1 == x) i.toNat (l.drop i.toNat))], [some (.box [.i .i64 x])]))))
  | _ => .no⟩
def gniG  : List V → List Blk → Br (V × List (Option Blk))
  | [.sl (.pair (.int .i64) (.pair .str (.pair (.int .i64) (.pair (.int .i64) (.pair .bool .unit))))) l, .fn 59 [] [.ptr 0 0]], [.box [.i .i64 x]] => .leaf (.i .i64 (firstP (fun z : Nd => z.2.2.2.1 == 0 && z.2.2.1 == x) 0 l), [some (.box [.i .i64 x])])
  | _, _ => .no
def cloneNodeG : List V → List Blk → Br (V × List (Option Blk))
  | [.sl (.pair (.int .i64) (.pair .str (.pair (.int .i64) (.pair (.int .i64) (.pair .bool .unit))))) l], [] => .need (decide (l.length ≤ 1000000000)) (.leaf (.ref 0 0 l.length, [some (.row false none (.pair (.int .i64) (.pair .str (.pair (.int .i64) (.pair (.int .i64) (.pair .bool .unit))))) l)]))
  | _, _ => .no
theorem kpC_con : Contract Try.prog 121 (Ent.rd1 kpC).F := by
  refine fun_contract' KnowsL.nil.knows (Λ := look []) Try.func121 (c := Try.f121.body.getD .skip) (by kernel_rfl) fun vs bs r hq hv hb => ?_
  unfold Ent.F kpC at hq
  dsimp only at hq
  split at hq
  · rename_i z x
    refine ⟨loopsOk_nil _, Eq.trans ?_ hq⟩
    have e : funK Try.prog (look []) (look []) Try.f121 [.tp LCd z 0, .bx [.i .i64 x] 0] [] = ((some (V.b (z.lab.snd.snd.fst == x), [])) : _) := by kernel_rfl
    rw [e]
    rfl
  · cases hq
theorem kp_round  (x : Int) (l : List (Rose Lab)) (r k i : Int) : roundK Try.prog (look [(121, .rd1 kpC)]) (look [(2, kpE)]) 1 (body Try.f120 0) kpE ([.sl (.tree LCd) l, .fn 121 [] [.ptr 0 0], .i .i64 r, .i .i64 k, .i .i64 i], [some (.box [.i .i64 x])]) =
  ((ifB (decide (i < k)) (ifT (decide ((0 : Int) ≤ i) && decide (i < (↑l.length : Int))) (ifSome l[i.toNat]? fun z => ifB ((Rose.lab z).snd.snd.fst == x) (some (Ex.ret, [V.i
 .i64 i], [some (Blk.box [V.i .i64 x])])) (some (Ex.normal, [V.sl LCd.tree l, V.fn 121 [] [V.ptr 0 0], V.i .i64 r, V.i .i64 k, V.i .i64
 (IntKind.i64.wrap (i + (1 : Int)))], [some (Blk.box [V.i .i64 x])])))) (some (Ex.exit 0, [], [some (Blk.box [V.i .i64 x])]))) : _) := by kernel_rfl
theorem kp_loop  (x : Int) {l : List (Rose Lab)} {r : Int} (hx : l.length ≤ maxI) : ∀ (j i : Nat), i + j = l.length → ∀ e d', (.br (decide (firstP (fun z : Rose Lab => z.lab.2.2.1 == x) i (l.drop i) < 0)) (.leaf (.exit 0, ([], [some (.box [.i .i64 x])]))) (.leaf (.ret, ([.i .i64 (firstP (fun z : Rose Lab => z.lab.2.2.1 == x) i (l.drop i))], [some (.box [.i .i64 x])]))) : Br (Ex × Dt)).run = some (e, d') →
    Runs Try.prog (look [(121, .rd1 kpC)]) (look [(2, kpE)]) 1 (body Try.f120 0) kpE ([.sl (.tree LCd) l, .fn 121 [] [.ptr 0 0], .i .i64 r, .i .i64 (l.length : Int), .i .i64 (i : Int)], [some (.box [.i .i64 x])]) e d'
  | 0, i, hi, e, d', h => by
    have e1 : l.drop i = [] := List.drop_eq_nil_of_le (by omega)
    rw [e1, br_run, firstP, if_pos (by omega)] at h
    cases h
    have hr := kp_round x l r l.length i
    rw [ifB_false (decide_eq_false (by omega))] at hr
    exact .stop _ _ _ hr (by simp)
  | j + 1, i, hi, e, d', h => by
    have h1 : i < l.length := by omega
    have hr := kp_round x l r l.length i
    rw [ifB_true (decide_eq_true (by omega)), ifT_true (by simp only [Bool.and_eq_true, decide_eq_true_eq]; omega)] at hr
    simp only [Int.toNat_natCast, List.getElem?_eq_getElem h1, ifSome_s, wrap_succ (n := i) (by omega)] at hr
    rw [List.drop_eq_getElem_cons h1, br_run, firstP] at h
    by_cases he : (fun z : Rose Lab => z.lab.2.2.1 == x) l[i] = true
    · rw [if_pos he, if_neg (by omega)] at h
      cases h
      rw [ifB_true he] at hr
      exact .stop _ _ _ hr (by simp)
    · rw [if_neg he] at h
      rw [ifB_false (by simpa using he)] at hr
      exact .step _ _ _ _ hr (kp_loop x hx j (i + 1) (by omega) e d' (by rw [br_run]; exact h))
theorem kp_ok  : LoopsOk Try.prog (look [(121, .rd1 kpC)]) (look [(2, kpE)]) 1 (Try.f120.body.getD .skip) := by
  refine loopsOk_one (a := body Try.f120 0) (by kernel_rfl) fun d e d' h => ?_
  unfold kpE at h
  dsimp only at h
  split at h
  · obtain ⟨hc, h'⟩ := need_some h
    obtain ⟨h0, h1, h2, rfl⟩ := of_decide_eq_true hc
    obtain ⟨i, rfl⟩ := Int.eq_ofNat_of_zero_le h0
    exact kp_loop _  h2 _ i (Nat.add_sub_of_le h1) e d' h'
  · cases h
theorem kp_fun  (x : Int) (l : List (Rose Lab)) (hx : l.length ≤ maxI) : funK Try.prog (look [(121, .rd1 kpC)]) (look [(2, kpE)]) Try.f120 [.sl (.tree LCd) l, .fn 121 [] [.ptr 0 0]] [.box [.i .i64 x]] = some (.i .i64 (firstP (fun z : Rose Lab => z.lab.2.2.1 == x) 0 l), [some (.box [.i .i64 x])]) := by
  have e : funK Try.prog (look [(121, .rd1 kpC)]) (look [(2, kpE)]) Try.f120 [.sl (.tree LCd) l, .fn 121 [] [.ptr 0 0]] [.box [.i .i64 x]] =
    ((ifT (decide ((0 : Int) ≤ (0 : Int) ∧ (0 : Nat) ≤ l.length ∧ l.length ≤ maxI ∧ (↑l.length : Int) = (↑l.length : Int))) (ifB (decide (firstP (fun z => z.lab.snd.snd.fst ==
 x) (0 : Nat) (List.drop (0 : Nat) l) < (0 : Int))) (some (V.i .i64 (-1), [some (Blk.box [V.i .i64 x])])) (some (V.i .i64 (firstP (fun z => z.lab.snd.snd.fst == x) (0 :
 Nat) (List.drop (0 : Nat) l)), [some (Blk.box [V.i .i64 x])])))) : _) := by kernel_rfl
  rw [e, ifT_true (decide_eq_true ⟨by omega, by omega, hx, rfl⟩)]
  simp only [Int.toNat_zero, List.drop_zero]
  by_cases q : firstP (fun z : Rose Lab => z.lab.2.2.1 == x) 0 l < 0
  · rw [ifB_true (decide_eq_true q), firstP_neg _ _ _ q]
  · rw [ifB_false (decide_eq_false q)]
theorem kp_idx  : Contract Try.prog 120 (Ent.own kpiG).F := by
  refine fun_contract' (KnowsL.cons (enters_fn Try.func121 (by kernel_rfl) (by kernel_rfl)) kpC_con KnowsL.nil).knows (Λ := (look [(2, kpE)])) Try.func120 (c := Try.f120.body.getD .skip) (by kernel_rfl) fun vs bs r h hv hb => ?_
  unfold Ent.F kpiG at h
  dsimp only at h
  split at h
  · rename_i l x
    have h' := h
    exact ⟨kp_ok , (kp_fun x l (hv (.sl (.tree LCd) l) (by simp)).1).trans (by cases h'; rfl)⟩
  · cases h
theorem kpart_tree (z : Rose Lab) (x : Int) : funK Try.prog (look [(120, .own kpiG)]) (look []) Try.f57 [.tp LCd z 0, .i .i64 x] [] =
  ((ifB (decide (firstP (fun z => z.lab.snd.snd.fst == x) (0 : Nat) z.kids < (0 : Int))) (some (V.np, [])) (ifT (decide ((0 : Int) ≤ firstP (fun z => z.lab.snd.snd.fst == x)
 (0 : Nat) z.kids) && decide (firstP (fun z => z.lab.snd.snd.fst == x) (0 : Nat) z.kids < (↑z.kids.length : Int))) (ifSome z.kids[(firstP (fun z => z.lab.snd.snd.fst == x)
 (0 : Nat) z.kids).toNat]? fun z => some (V.tp LCd z (0 : Nat), [])))) : _) := by kernel_rfl
theorem byR_find {x : Int} : ∀ {l : List (Rose Lab)} {y : Rose Lab}, l.find? (fun z => z.lab.2.2.1 == x) = some y → hasNo x l = true ∧ byR x l = y
  | [], y, h => by cases h
  | z :: l, y, h => by
    by_cases q : z.lab.2.2.1 = x
    · have hb : (z.lab.2.2.1 == x) = true := by rw [q]; exact beq_self_eq_true _
      rw [List.find?_cons_of_pos (p := fun z : Rose Lab => z.lab.2.2.1 == x) hb] at h
      refine ⟨hasNo_iff.2 ⟨z, by simp, q⟩, ?_⟩
      rw [byR, if_pos q]
      exact Option.some.inj h
    · have hb : ¬ (z.lab.2.2.1 == x) = true := by rw [beq_false_of_ne q]; simp
      rw [List.find?_cons_of_neg (p := fun z : Rose Lab => z.lab.2.2.1 == x) hb] at h
      obtain ⟨h1, h2⟩ := byR_find h
      have hne := hasNo_ne (ks := l) (z := z) (n := x) (Ne.symm q)
      rw [hne.1, hne.2]
      exact ⟨h1, h2⟩
theorem kpart : Contract Try.prog 57 (Ent.rd1 kpartG).F := by
  refine fun_contract' (KnowsL.cons (enters_fn Try.func120 (by kernel_rfl) (by kernel_rfl)) kp_idx KnowsL.nil).knows (Λ := look []) Try.func57 (c := Try.f57.body.getD .skip) (by kernel_rfl) fun vs bs r hq hv hb => ?_
  unfold Ent.F kpartG at hq
  dsimp only at hq
  split at hq
  · rename_i z x
    obtain ⟨hc, hx⟩ := need_some hq
    refine ⟨loopsOk_nil _, Eq.trans ?_ hx⟩
    rw [kpart_tree]
    have ha := firstP_any (fun z : Rose Lab => z.lab.2.2.1 == x) z.kids 0
    have hhas : hasNo x z.kids = z.kids.any (fun z : Rose Lab => z.lab.2.2.1 == x) := rfl
    by_cases q : firstP (fun z : Rose Lab => z.lab.2.2.1 == x) 0 z.kids < 0
    · rw [ifB_true (decide_eq_true q), hhas, ← ha, decide_eq_false (by omega)]
      rfl
    · obtain ⟨i, h1, h2, h3, h4⟩ := firstP_at (fun z : Rose Lab => z.lab.2.2.1 == x) z.kids 0 (by omega)
      obtain ⟨h5, h6⟩ := byR_find h4
      rw [ifB_false (decide_eq_false q), h2, Nat.zero_add, ifT_true (by simp only [Bool.and_eq_true, decide_eq_true_eq]; omega), Int.toNat_natCast, List.getElem?_eq_getElem h1, ifSome_s, h5, h6]
      rfl
  · cases hq
theorem gnC_con : Contract Try.prog 59 (Ent.rd1 gnC).F := by
  refine fun_contract' KnowsL.nil.knows (Λ := look []) Try.func59 (c := Try.f59.body.getD .skip) (by kernel_rfl) fun vs bs r hq hv hb => ?_
  unfold Ent.F gnC at hq
  dsimp only at hq
  split at hq
  · rename_i y0 y1 y2 y3 y4 x
    refine ⟨loopsOk_nil _, Eq.trans ?_ hq⟩
    have e : funK Try.prog (look []) (look []) Try.f59 [.agg [.i .i64 y0, .s y1, .i .i64 y2, .i .i64 y3, .b y4], .bx [.i .i64 x] 0] [] = ((ifB (y3 == (0 : Int)) (some (V.b (y2 == x), [])) (some (V.b false, []))) : _) := by kernel_rfl
    rw [e]
    cases y3 == 0 <;> rfl
  · cases hq
theorem gn_round  (x : Int) (l : List (Nd)) (r k i : Int) : roundK Try.prog (look [(59, .rd1 gnC)]) (look [(2, gnE)]) 1 (body Try.f58 0) gnE ([.sl NCd l, .fn 59 [] [.ptr 0 0], .i .i64 r, .i .i64 k, .i .i64 i], [some (.box [.i .i64 x])]) =
  ((ifB (decide (i < k)) (ifT (decide ((0 : Int) ≤ i) && decide (i < (↑l.length : Int))) (ifSome l[i.toNat]? fun z => ifB (z.snd.snd.snd.fst == (0 : Int) && z.snd.snd.fst ==
 x) (some (Ex.ret, [V.i .i64 i], [some (Blk.box [V.i .i64 x])])) (some (Ex.normal, [V.sl NCd l, V.fn 59 [] [V.ptr 0 0], V.i .i64 r, V.i .i64 k, V.i .i64
 (IntKind.i64.wrap (i + (1 : Int)))], [some (Blk.box [V.i .i64 x])])))) (some (Ex.exit 0, [], [some (Blk.box [V.i .i64 x])]))) : _) := by kernel_rfl
theorem gn_loop  (x : Int) {l : List (Nd)} {r : Int} (hx : l.length ≤ maxI) : ∀ (j i : Nat), i + j = l.length → ∀ e d', (.br (decide (firstP (fun z : Nd => z.2.2.2.1 == 0 && z.2.2.1 == x) i (l.drop i) < 0)) (.leaf (.exit 0, ([], [some (.box [.i .i64 x])]))) (.leaf (.ret, ([.i .i64 (firstP (fun z : Nd => z.2.2.2.1 == 0 && z.2.2.1 == x) i (l.drop i))], [some (.box [.i .i64 x])]))) : Br (Ex × Dt)).run = some (e, d') →
    Runs Try.prog (look [(59, .rd1 gnC)]) (look [(2, gnE)]) 1 (body Try.f58 0) gnE ([.sl NCd l, .fn 59 [] [.ptr 0 0], .i .i64 r, .i .i64 (l.length : Int), .i .i64 (i : Int)], [some (.box [.i .i64 x])]) e d'
  | 0, i, hi, e, d', h => by
    have e1 : l.drop i = [] := List.drop_eq_nil_of_le (by omega)
    rw [e1, br_run, firstP, if_pos (by omega)] at h
    cases h
    have hr := gn_round x l r l.length i
    rw [ifB_false (decide_eq_false (by omega))] at hr
    exact .stop _ _ _ hr (by simp)
  | j + 1, i, hi, e, d', h => by
    have h1 : i < l.length := by omega
    have hr := gn_round x l r l.length i
    rw [ifB_true (decide_eq_true (by omega)), ifT_true (by simp only [Bool.and_eq_true, decide_eq_true_eq]; omega)] at hr
    simp only [Int.toNat_natCast, List.getElem?_eq_getElem h1, ifSome_s, wrap_succ (n := i) (by omega)] at hr
    rw [List.drop_eq_getElem_cons h1, br_run, firstP] at h
    by_cases he : (fun z : Nd => z.2.2.2.1 == 0 && z.2.2.1 == x) l[i] = true
    · rw [if_pos he, if_neg (by omega)] at h
      cases h
      rw [ifB_true he] at hr
      exact .stop _ _ _ hr (by simp)
    · rw [if_neg he] at h
      rw [ifB_false (by simpa using he)] at hr
      exact .step _ _ _ _ hr (gn_loop x hx j (i + 1) (by omega) e d' (by rw [br_run]; exact h))
theorem gn_ok  : LoopsOk Try.prog (look [(59, .rd1 gnC)]) (look [(2, gnE)]) 1 (Try.f58.body.getD .skip) := by
  refine loopsOk_one (a := body Try.f58 0) (by kernel_rfl) fun d e d' h => ?_
  unfold gnE at h
  dsimp only at h
  split at h
  · obtain ⟨hc, h'⟩ := need_some h
    obtain ⟨h0, h1, h2, rfl⟩ := of_decide_eq_true hc
    obtain ⟨i, rfl⟩ := Int.eq_ofNat_of_zero_le h0
    exact gn_loop _  h2 _ i (Nat.add_sub_of_le h1) e d' h'
  · cases h
theorem gn_fun  (x : Int) (l : List (Nd)) (hx : l.length ≤ maxI) : funK Try.prog (look [(59, .rd1 gnC)]) (look [(2, gnE)]) Try.f58 [.sl NCd l, .fn 59 [] [.ptr 0 0]] [.box [.i .i64 x]] = some (.i .i64 (firstP (fun z : Nd => z.2.2.2.1 == 0 && z.2.2.1 == x) 0 l), [some (.box [.i .i64 x])]) := by
  have e : funK Try.prog (look [(59, .rd1 gnC)]) (look [(2, gnE)]) Try.f58 [.sl NCd l, .fn 59 [] [.ptr 0 0]] [.box [.i .i64 x]] =
    ((ifT (decide ((0 : Int) ≤ (0 : Int) ∧ (0 : Nat) ≤ l.length ∧ l.length ≤ maxI ∧ (↑l.length : Int) = (↑l.length : Int))) (ifB (decide (firstP (fun z => z.snd.snd.snd.fst ==
 (0 : Int) && z.snd.snd.fst == x) (0 : Nat) (List.drop (0 : Nat) l) < (0 : Int))) (some (V.i .i64 (-1), [some (Blk.box [V.i .i64 x])])) (some (V.i .i64 (firstP (fun z =>
 z.snd.snd.snd.fst == (0 : Int) && z.snd.snd.fst == x) (0 : Nat) (List.drop (0 : Nat) l)), [some (Blk.box [V.i .i64 x])])))) : _) := by kernel_rfl
  rw [e, ifT_true (decide_eq_true ⟨by omega, by omega, hx, rfl⟩)]
  simp only [Int.toNat_zero, List.drop_zero]
  by_cases q : firstP (fun z : Nd => z.2.2.2.1 == 0 && z.2.2.1 == x) 0 l < 0
  · rw [ifB_true (decide_eq_true q), firstP_neg _ _ _ q]
  · rw [ifB_false (decide_eq_false q)]
theorem gn_idx  : Contract Try.prog 58 (Ent.own gniG).F := by
  refine fun_contract' (KnowsL.cons (enters_fn Try.func59 (by kernel_rfl) (by kernel_rfl)) gnC_con KnowsL.nil).knows (Λ := (look [(2, gnE)])) Try.func58 (c := Try.f58.body.getD .skip) (by kernel_rfl) fun vs bs r h hv hb => ?_
  unfold Ent.F gniG at h
  dsimp only at h
  split at h
  · rename_i l x
    have h' := h
    exact ⟨gn_ok , (gn_fun x l (hv (.sl NCd l) (by simp)).1).trans (by cases h'; rfl)⟩
  · cases h
theorem cloneNode_fun (l : List Nd) (h : l.length ≤ 1000000000) : funN Try.prog (look []) (look []) Try.f60 [.sl NCd l] [] = some (.ref 0 0 l.length, [some (.row false none NCd l)]) := by
  have e : funN Try.prog (look []) (look []) Try.f60 [.sl NCd l] [] =
    ((ifB (decide ((0 : Nat) < l.length)) (ifT (decide (((0 : Nat) + l.length) * (48 : Nat) ≤ (140737488355328 : Nat)) && decide ((0 : Nat) + l.length ≤ maxI)) (some (V.ref 0 0
 ((0 : Nat) + l.length), [some (Blk.row false none NCd (nilT NCd.den ++ l))]))) (joinK (some (V.ref 0 0 0, [some (Blk.row false none NCd (nilT NCd.den))])) (ifT (decide
 (((0 : Nat) + l.length) * (48 : Nat) ≤ (140737488355328 : Nat)) && decide ((0 : Nat) + l.length ≤ maxI)) (some (V.ref 0 0 ((0 : Nat) + l.length), [some (Blk.row false
 none NCd (nilT NCd.den ++ l))]))))) : _) := by kernel_rfl
  rw [e]
  by_cases q : 0 < l.length
  · rw [ifB_true (decide_eq_true q), ifT_true (by simp [maxI]; omega)]; simp
  · obtain rfl : l = [] := List.eq_nil_of_length_eq_zero (by omega)
    rw [ifB_false (by simp), joinK_eq] <;> simp [maxI]
theorem cloneNode : Contract Try.prog 60 (Ent.rd1 cloneNodeG).F := by
  refine fun_contractN' (KnowsL.nil).knows (Λ := look []) Try.func60 (c := Try.f60.body.getD .skip) (by kernel_rfl) fun vs bs r h hv hb => ?_
  unfold Ent.F cloneNodeG at h
  dsimp only at h
  split at h
  · rename_i l
    obtain ⟨hc, h⟩ := need_some h
    exact ⟨loopsOk_nil _, (cloneNode_fun l (of_decide_eq_true hc)).trans h⟩
  · cases h
/-- A node with its place told from another one on. -/
def shN (a : Int) (x : Nd) : Nd := (x.1, x.2.1, x.2.2.1, IntKind.i64.wrap (x.2.2.2.1 - a), x.2.2.2.2.1, ())
/-- Nodes as a value of their own. -/
def partN (a : Int) : List Nd → List Nd
  | [] => []
  | x :: w => (x.1, x.2.1, 0, -1, x.2.2.2.2.1, ()) :: w.map (shN a)
def gnAt (v : List Nd) (no : Int) : Int := firstP (fun z : Nd => z.2.2.2.1 == 0 && z.2.2.1 == no) 0 v
def gkd (l : List Ty) (no : Int) : Rose Lab := byR no (t2L l 0).kids
/-- Whether a part that is a message is there. -/
def getB (v : List Nd) (l : List Ty) (no : Int) : Bool := fitsB v l && (hasNo no (t2L l 0).kids && ((gkd l no).lab.1 == 5 && decide (0 ≤ gnAt v no)))
def getL (v : List Nd) (l : List Ty) (no : Int) : List Nd := partN (gnAt v no) ((v.drop (gnAt v no).toNat).take ((vfR v (gkd l no) (gnAt v no).toNat).toNat - (gnAt v no).toNat))
def getG : List V → List Blk → Br (V × List (Option Blk))
  | [.agg [.sl (.pair (.int .i64) (.pair .str (.pair (.int .i64) (.pair (.int .i64) (.pair .bool .unit))))) v], .agg [.sl (.pair (.int .i64) (.pair .str (.pair (.int .i64) (.pair .bool (.pair (.int .i64) (.pair (.int .i64) .unit)))))) l], .i .i64 no], [] => .need (decide (l.length ≤ 4000000000) && nmL l && decide (v.length ≤ 4000000000)) (.br (getB v l no) (.leaf (.tup [.agg [.ref 0 0 (getL v l no).length], .b true], [some (.row false none (.pair (.int .i64) (.pair .str (.pair (.int .i64) (.pair (.int .i64) (.pair .bool .unit))))) (getL v l no))])) (.leaf (.tup [.agg [.ref 0 0 0], .b false], [some (.row false none (.pair (.int .i64) (.pair .str (.pair (.int .i64) (.pair (.int .i64) (.pair .bool .unit))))) [])])))
  | _, _ => .no
def getE : LoopEnt := ⟨80, [6,10,11,63,64], [6,11], [], fun
  | ([.ptr 0 0, .i .i64 a, .ref 1 0 m, .i .i64 k, .i .i64 i], [some (.box [.ref 2 0 0]), some (.row false none (.pair (.int .i64) (.pair .str (.pair (.int .i64) (.pair (.int .i64) (.pair .bool .unit))))) o), some (.row false none (.pair (.int .i64) (.pair .str (.pair (.int .i64) (.pair (.int .i64) (.pair .bool .unit))))) [])]) => .need (decide (m = o.length ∧ 0 ≤ i ∧ k = m - 1 ∧ 1 ≤ o.length ∧ i ≤ k ∧ o.length ≤ 4000000000)) (.leaf (.exit 0, ([.ptr 0 0, .ref 1 0 (o.take (i.toNat + 1) ++ (o.drop (i.toNat + 1)).map (shN a)).length], [some (.box [.ref 2 0 0]), some (.row false none (.pair (.int .i64) (.pair .str (.pair (.int .i64) (.pair (.int .i64) (.pair .bool .unit))))) (o.take (i.toNat + 1) ++ (o.drop (i.toNat + 1)).map (shN a))), some (.row false none (.pair (.int .i64) (.pair .str (.pair (.int .i64) (.pair (.int .i64) (.pair .bool .unit))))) [])])))
  | _ => .no⟩
theorem get_round (a : Int) (m : Nat) (k i : Int) (o : List Nd) : roundK Try.prog (look [(48, .rd1 kindOfG), (54, .rd1 kfitsG), (57, .rd1 kpartG), (61, .rd1 vfitG), (58, .own gniG), (60, .rd1 cloneNodeG)]) (look [(11, getE)]) 0 (body Try.f13 0) getE ([.ptr 0 0, .i .i64 a, .ref 1 0 m, .i .i64 k, .i .i64 i], [some (.box [.ref 2 0 0]), some (.row false none NCd o), some (.row false none NCd [])]) =
  ((ifB (decide (i < k)) (ifT (decide ((0 : Int) ≤ IntKind.i64.wrap (i + (1 : Int))) && decide (IntKind.i64.wrap (i + (1 : Int)) < (↑m : Int))) (ifSome o[(0 : Nat) +
 (IntKind.i64.wrap (i + (1 : Int))).toNat]? fun z => ifT (decide ((0 : Int) ≤ IntKind.i64.wrap (i + (1 : Int))) && decide (IntKind.i64.wrap (i + (1 : Int)) < (↑m : Int)))
 (ifSome o[(0 : Nat) + (IntKind.i64.wrap (i + (1 : Int))).toNat]? fun z_1 => some (Ex.normal, [V.ptr 0 0, V.i .i64 a, V.ref 1 0 m, V.i .i64 k, V.i .i64 (IntKind.i64.wrap
 (i + (1 : Int)))], [some (Blk.box [V.ref 2 0 0]), some (Blk.row false none NCd (o.set ((0 : Nat) + (IntKind.i64.wrap (i + (1 : Int))).toNat) (z_1.fst, z_1.snd.fst,
 z_1.snd.snd.fst, IntKind.i64.wrap (z.snd.snd.snd.fst - a), z_1.snd.snd.snd.snd.fst, ()))), some (Blk.row false none NCd (nilT NCd.den))])))) (some (Ex.exit 0, [V.ptr 0 0,
 V.ref 1 0 m], [some (Blk.box [V.ref 2 0 0]), some (Blk.row false none NCd o), some (Blk.row false none NCd (nilT NCd.den))]))) : _) := by kernel_rfl
theorem get_tree (v : List Nd) (l : List Ty) (no : Int) : funN Try.prog (look [(48, .rd1 kindOfG), (54, .rd1 kfitsG), (57, .rd1 kpartG), (61, .rd1 vfitG), (58, .own gniG), (60, .rd1 cloneNodeG)]) (look [(11, getE)]) Try.f13 [.agg [.sl NCd v], .agg [.sl TCd l], .i .i64 no] [] =
  ((ifT (decide (l.length ≤ (4000000000 : Nat)) && nmL l) (ifB (kindB l) (ifT (decide (cntR (Rose.node ((kf l (0 : Nat)).fst.lab.fst, (kf l (0 : Nat)).fst.lab.snd.fst, (kf l
 (0 : Nat)).fst.lab.snd.snd.fst, (kf l (0 : Nat)).fst.lab.snd.snd.snd.fst, (kf l (0 : Nat)).fst.lab.snd.snd.snd.snd.fst, ()) (List.take (kf l (0 : Nat)).fst.kids.length
 (List.drop (0 : Nat) (kf l (0 : Nat)).fst.kids))) ≤ (1000000 : Nat) ∧ rightR (Rose.node ((kf l (0 : Nat)).fst.lab.fst, (kf l (0 : Nat)).fst.lab.snd.fst, (kf l (0 :
 Nat)).fst.lab.snd.snd.fst, (kf l (0 : Nat)).fst.lab.snd.snd.snd.fst, (kf l (0 : Nat)).fst.lab.snd.snd.snd.snd.fst, ()) (List.take (kf l (0 : Nat)).fst.kids.length
 (List.drop (0 : Nat) (kf l (0 : Nat)).fst.kids))) = true)) (ifB (!vfitsB (Rose.node ((kf l (0 : Nat)).fst.lab.fst, (kf l (0 : Nat)).fst.lab.snd.fst, (kf l (0 :
 Nat)).fst.lab.snd.snd.fst, (kf l (0 : Nat)).fst.lab.snd.snd.snd.fst, (kf l (0 : Nat)).fst.lab.snd.snd.snd.snd.fst, ()) (List.take (kf l (0 : Nat)).fst.kids.length
 (List.drop (0 : Nat) (kf l (0 : Nat)).fst.kids))) v) (some (V.tup [V.agg [V.ref 0 0 0], V.b false], [some (Blk.row false none NCd (nilT NCd.den))])) (ifT (decide
 ((Rose.node ((kf l (0 : Nat)).fst.lab.fst, (kf l (0 : Nat)).fst.lab.snd.fst, (kf l (0 : Nat)).fst.lab.snd.snd.fst, (kf l (0 : Nat)).fst.lab.snd.snd.snd.fst, (kf l (0 :
 Nat)).fst.lab.snd.snd.snd.snd.fst, ()) (List.take (kf l (0 : Nat)).fst.kids.length (List.drop (0 : Nat) (kf l (0 : Nat)).fst.kids))).kids.length ≤ maxI)) (ifB (hasNo no
 (Rose.node ((kf l (0 : Nat)).fst.lab.fst, (kf l (0 : Nat)).fst.lab.snd.fst, (kf l (0 : Nat)).fst.lab.snd.snd.fst, (kf l (0 : Nat)).fst.lab.snd.snd.snd.fst, (kf l (0 :
 Nat)).fst.lab.snd.snd.snd.snd.fst, ()) (List.take (kf l (0 : Nat)).fst.kids.length (List.drop (0 : Nat) (kf l (0 : Nat)).fst.kids))).kids) (ifB ((byR no (Rose.node ((kf l
 (0 : Nat)).fst.lab.fst, (kf l (0 : Nat)).fst.lab.snd.fst, (kf l (0 : Nat)).fst.lab.snd.snd.fst, (kf l (0 : Nat)).fst.lab.snd.snd.snd.fst, (kf l (0 :
 Nat)).fst.lab.snd.snd.snd.snd.fst, ()) (List.take (kf l (0 : Nat)).fst.kids.length (List.drop (0 : Nat) (kf l (0 : Nat)).fst.kids))).kids).lab.fst != (5 : Int)) (some
 (V.tup [V.agg [V.ref 0 0 0], V.b false], [some (Blk.row false none NCd (nilT NCd.den))])) (ifB (decide (firstP (fun z => z.snd.snd.snd.fst == (0 : Int) && z.snd.snd.fst
 == no) (0 : Nat) v < (0 : Int))) (some (V.tup [V.agg [V.ref 0 0 0], V.b false], [some (Blk.row false none NCd (nilT NCd.den))])) (ifT (decide (cntR (byR no (Rose.node
 ((kf l (0 : Nat)).fst.lab.fst, (kf l (0 : Nat)).fst.lab.snd.fst, (kf l (0 : Nat)).fst.lab.snd.snd.fst, (kf l (0 : Nat)).fst.lab.snd.snd.snd.fst, (kf l (0 :
 Nat)).fst.lab.snd.snd.snd.snd.fst, ()) (List.take (kf l (0 : Nat)).fst.kids.length (List.drop (0 : Nat) (kf l (0 : Nat)).fst.kids))).kids) ≤ (1000000 : Nat) ∧ rightR (byR
 no (Rose.node ((kf l (0 : Nat)).fst.lab.fst, (kf l (0 : Nat)).fst.lab.snd.fst, (kf l (0 : Nat)).fst.lab.snd.snd.fst, (kf l (0 : Nat)).fst.lab.snd.snd.snd.fst, (kf l (0 :
 Nat)).fst.lab.snd.snd.snd.snd.fst, ()) (List.take (kf l (0 : Nat)).fst.kids.length (List.drop (0 : Nat) (kf l (0 : Nat)).fst.kids))).kids) = true ∧ (0 : Int) ≤ firstP
 (fun z => z.snd.snd.snd.fst == (0 : Int) && z.snd.snd.fst == no) (0 : Nat) v ∧ (firstP (fun z => z.snd.snd.snd.fst == (0 : Int) && z.snd.snd.fst == no) (0 : Nat) v).toNat
 < v.length ∧ v.length ≤ (4000000000 : Nat))) (ifT (decide ((0 : Int) ≤ firstP (fun z => z.snd.snd.snd.fst == (0 : Int) && z.snd.snd.fst == no) (0 : Nat) v) && decide
 (firstP (fun z => z.snd.snd.snd.fst == (0 : Int) && z.snd.snd.fst == no) (0 : Nat) v ≤ vfR v (byR no (Rose.node ((kf l (0 : Nat)).fst.lab.fst, (kf l (0 :
 Nat)).fst.lab.snd.fst, (kf l (0 : Nat)).fst.lab.snd.snd.fst, (kf l (0 : Nat)).fst.lab.snd.snd.snd.fst, (kf l (0 : Nat)).fst.lab.snd.snd.snd.snd.fst, ()) (List.take (kf l
 (0 : Nat)).fst.kids.length (List.drop (0 : Nat) (kf l (0 : Nat)).fst.kids))).kids) (firstP (fun z => z.snd.snd.snd.fst == (0 : Int) && z.snd.snd.fst == no) (0 : Nat)
 v).toNat) && decide (vfR v (byR no (Rose.node ((kf l (0 : Nat)).fst.lab.fst, (kf l (0 : Nat)).fst.lab.snd.fst, (kf l (0 : Nat)).fst.lab.snd.snd.fst, (kf l (0 :
 Nat)).fst.lab.snd.snd.snd.fst, (kf l (0 : Nat)).fst.lab.snd.snd.snd.snd.fst, ()) (List.take (kf l (0 : Nat)).fst.kids.length (List.drop (0 : Nat) (kf l (0 :
 Nat)).fst.kids))).kids) (firstP (fun z => z.snd.snd.snd.fst == (0 : Int) && z.snd.snd.fst == no) (0 : Nat) v).toNat ≤ (↑v.length : Int))) (ifT (decide ((List.take ((vfR v
 (byR no (Rose.node ((kf l (0 : Nat)).fst.lab.fst, (kf l (0 : Nat)).fst.lab.snd.fst, (kf l (0 : Nat)).fst.lab.snd.snd.fst, (kf l (0 : Nat)).fst.lab.snd.snd.snd.fst, (kf l
 (0 : Nat)).fst.lab.snd.snd.snd.snd.fst, ()) (List.take (kf l (0 : Nat)).fst.kids.length (List.drop (0 : Nat) (kf l (0 : Nat)).fst.kids))).kids) (firstP (fun z =>
 z.snd.snd.snd.fst == (0 : Int) && z.snd.snd.fst == no) (0 : Nat) v).toNat).toNat - (firstP (fun z => z.snd.snd.snd.fst == (0 : Int) && z.snd.snd.fst == no) (0 : Nat)
 v).toNat) (List.drop (firstP (fun z => z.snd.snd.snd.fst == (0 : Int) && z.snd.snd.fst == no) (0 : Nat) v).toNat v)).length ≤ (1000000000 : Nat))) (ifT (decide ((0 : Int)
 ≤ (0 : Int)) && decide ((0 : Int) < (↑(List.take ((vfR v (byR no (Rose.node ((kf l (0 : Nat)).fst.lab.fst, (kf l (0 : Nat)).fst.lab.snd.fst, (kf l (0 :
 Nat)).fst.lab.snd.snd.fst, (kf l (0 : Nat)).fst.lab.snd.snd.snd.fst, (kf l (0 : Nat)).fst.lab.snd.snd.snd.snd.fst, ()) (List.take (kf l (0 : Nat)).fst.kids.length
 (List.drop (0 : Nat) (kf l (0 : Nat)).fst.kids))).kids) (firstP (fun z => z.snd.snd.snd.fst == (0 : Int) && z.snd.snd.fst == no) (0 : Nat) v).toNat).toNat - (firstP (fun
 z => z.snd.snd.snd.fst == (0 : Int) && z.snd.snd.fst == no) (0 : Nat) v).toNat) (List.drop (firstP (fun z => z.snd.snd.snd.fst == (0 : Int) && z.snd.snd.fst == no) (0 :
 Nat) v).toNat v)).length : Int))) (ifSome (List.take ((vfR v (byR no (Rose.node ((kf l (0 : Nat)).fst.lab.fst, (kf l (0 : Nat)).fst.lab.snd.fst, (kf l (0 :
 Nat)).fst.lab.snd.snd.fst, (kf l (0 : Nat)).fst.lab.snd.snd.snd.fst, (kf l (0 : Nat)).fst.lab.snd.snd.snd.snd.fst, ()) (List.take (kf l (0 : Nat)).fst.kids.length
 (List.drop (0 : Nat) (kf l (0 : Nat)).fst.kids))).kids) (firstP (fun z => z.snd.snd.snd.fst == (0 : Int) && z.snd.snd.fst == no) (0 : Nat) v).toNat).toNat - (firstP (fun
 z => z.snd.snd.snd.fst == (0 : Int) && z.snd.snd.fst == no) (0 : Nat) v).toNat) (List.drop (firstP (fun z => z.snd.snd.snd.fst == (0 : Int) && z.snd.snd.fst == no) (0 :
 Nat) v).toNat v))[(0 : Nat)]? fun z => ifT (decide ((0 : Int) ≤ (0 : Int)) && decide ((0 : Int) < (↑(List.take ((vfR v (byR no (Rose.node ((kf l (0 : Nat)).fst.lab.fst,
 (kf l (0 : Nat)).fst.lab.snd.fst, (kf l (0 : Nat)).fst.lab.snd.snd.fst, (kf l (0 : Nat)).fst.lab.snd.snd.snd.fst, (kf l (0 : Nat)).fst.lab.snd.snd.snd.snd.fst, ())
 (List.take (kf l (0 : Nat)).fst.kids.length (List.drop (0 : Nat) (kf l (0 : Nat)).fst.kids))).kids) (firstP (fun z => z.snd.snd.snd.fst == (0 : Int) && z.snd.snd.fst ==
 no) (0 : Nat) v).toNat).toNat - (firstP (fun z => z.snd.snd.snd.fst == (0 : Int) && z.snd.snd.fst == no) (0 : Nat) v).toNat) (List.drop (firstP (fun z =>
 z.snd.snd.snd.fst == (0 : Int) && z.snd.snd.fst == no) (0 : Nat) v).toNat v)).length : Int))) (ifSome ((List.take ((vfR v (byR no (Rose.node ((kf l (0 :
 Nat)).fst.lab.fst, (kf l (0 : Nat)).fst.lab.snd.fst, (kf l (0 : Nat)).fst.lab.snd.snd.fst, (kf l (0 : Nat)).fst.lab.snd.snd.snd.fst, (kf l (0 :
 Nat)).fst.lab.snd.snd.snd.snd.fst, ()) (List.take (kf l (0 : Nat)).fst.kids.length (List.drop (0 : Nat) (kf l (0 : Nat)).fst.kids))).kids) (firstP (fun z =>
 z.snd.snd.snd.fst == (0 : Int) && z.snd.snd.fst == no) (0 : Nat) v).toNat).toNat - (firstP (fun z => z.snd.snd.snd.fst == (0 : Int) && z.snd.snd.fst == no) (0 : Nat)
 v).toNat) (List.drop (firstP (fun z => z.snd.snd.snd.fst == (0 : Int) && z.snd.snd.fst == no) (0 : Nat) v).toNat v)).set (0 : Nat) (z.fst, z.snd.fst, (0 : Int),
 z.snd.snd.snd.fst, z.snd.snd.snd.snd.fst, ()))[(0 : Nat)]? fun z_1 => ifT (decide ((0 : Int) ≤ (1 : Int)) && decide ((1 : Int) ≤ (↑(List.take ((vfR v (byR no (Rose.node
 ((kf l (0 : Nat)).fst.lab.fst, (kf l (0 : Nat)).fst.lab.snd.fst, (kf l (0 : Nat)).fst.lab.snd.snd.fst, (kf l (0 : Nat)).fst.lab.snd.snd.snd.fst, (kf l (0 :
 Nat)).fst.lab.snd.snd.snd.snd.fst, ()) (List.take (kf l (0 : Nat)).fst.kids.length (List.drop (0 : Nat) (kf l (0 : Nat)).fst.kids))).kids) (firstP (fun z =>
 z.snd.snd.snd.fst == (0 : Int) && z.snd.snd.fst == no) (0 : Nat) v).toNat).toNat - (firstP (fun z => z.snd.snd.snd.fst == (0 : Int) && z.snd.snd.fst == no) (0 : Nat)
 v).toNat) (List.drop (firstP (fun z => z.snd.snd.snd.fst == (0 : Int) && z.snd.snd.fst == no) (0 : Nat) v).toNat v)).length : Int))) (ifT (decide ((List.take ((vfR v (byR
 no (Rose.node ((kf l (0 : Nat)).fst.lab.fst, (kf l (0 : Nat)).fst.lab.snd.fst, (kf l (0 : Nat)).fst.lab.snd.snd.fst, (kf l (0 : Nat)).fst.lab.snd.snd.snd.fst, (kf l (0 :
 Nat)).fst.lab.snd.snd.snd.snd.fst, ()) (List.take (kf l (0 : Nat)).fst.kids.length (List.drop (0 : Nat) (kf l (0 : Nat)).fst.kids))).kids) (firstP (fun z =>
 z.snd.snd.snd.fst == (0 : Int) && z.snd.snd.fst == no) (0 : Nat) v).toNat).toNat - (firstP (fun z => z.snd.snd.snd.fst == (0 : Int) && z.snd.snd.fst == no) (0 : Nat)
 v).toNat) (List.drop (firstP (fun z => z.snd.snd.snd.fst == (0 : Int) && z.snd.snd.fst == no) (0 : Nat) v).toNat v)).length = (((List.take ((vfR v (byR no (Rose.node ((kf
 l (0 : Nat)).fst.lab.fst, (kf l (0 : Nat)).fst.lab.snd.fst, (kf l (0 : Nat)).fst.lab.snd.snd.fst, (kf l (0 : Nat)).fst.lab.snd.snd.snd.fst, (kf l (0 :
 Nat)).fst.lab.snd.snd.snd.snd.fst, ()) (List.take (kf l (0 : Nat)).fst.kids.length (List.drop (0 : Nat) (kf l (0 : Nat)).fst.kids))).kids) (firstP (fun z =>
 z.snd.snd.snd.fst == (0 : Int) && z.snd.snd.fst == no) (0 : Nat) v).toNat).toNat - (firstP (fun z => z.snd.snd.snd.fst == (0 : Int) && z.snd.snd.fst == no) (0 : Nat)
 v).toNat) (List.drop (firstP (fun z => z.snd.snd.snd.fst == (0 : Int) && z.snd.snd.fst == no) (0 : Nat) v).toNat v)).set (0 : Nat) (z.fst, z.snd.fst, (0 : Int),
 z.snd.snd.snd.fst, z.snd.snd.snd.snd.fst, ())).set (0 : Nat) (z_1.fst, z_1.snd.fst, z_1.snd.snd.fst, (-1 : Int), z_1.snd.snd.snd.snd.fst, ())).length ∧ (0 : Int) ≤ (0 :
 Int) ∧ (↑((List.take ((vfR v (byR no (Rose.node ((kf l (0 : Nat)).fst.lab.fst, (kf l (0 : Nat)).fst.lab.snd.fst, (kf l (0 : Nat)).fst.lab.snd.snd.fst, (kf l (0 :
 Nat)).fst.lab.snd.snd.snd.fst, (kf l (0 : Nat)).fst.lab.snd.snd.snd.snd.fst, ()) (List.take (kf l (0 : Nat)).fst.kids.length (List.drop (0 : Nat) (kf l (0 :
 Nat)).fst.kids))).kids) (firstP (fun z => z.snd.snd.snd.fst == (0 : Int) && z.snd.snd.fst == no) (0 : Nat) v).toNat).toNat - (firstP (fun z => z.snd.snd.snd.fst == (0 :
 Int) && z.snd.snd.fst == no) (0 : Nat) v).toNat) (List.drop (firstP (fun z => z.snd.snd.snd.fst == (0 : Int) && z.snd.snd.fst == no) (0 : Nat) v).toNat v)).length - (1 :
 Nat)) : Int) = (↑(List.take ((vfR v (byR no (Rose.node ((kf l (0 : Nat)).fst.lab.fst, (kf l (0 : Nat)).fst.lab.snd.fst, (kf l (0 : Nat)).fst.lab.snd.snd.fst, (kf l (0 :
 Nat)).fst.lab.snd.snd.snd.fst, (kf l (0 : Nat)).fst.lab.snd.snd.snd.snd.fst, ()) (List.take (kf l (0 : Nat)).fst.kids.length (List.drop (0 : Nat) (kf l (0 :
 Nat)).fst.kids))).kids) (firstP (fun z => z.snd.snd.snd.fst == (0 : Int) && z.snd.snd.fst == no) (0 : Nat) v).toNat).toNat - (firstP (fun z => z.snd.snd.snd.fst == (0 :
 Int) && z.snd.snd.fst == no) (0 : Nat) v).toNat) (List.drop (firstP (fun z => z.snd.snd.snd.fst == (0 : Int) && z.snd.snd.fst == no) (0 : Nat) v).toNat v)).length : Int)
 - (1 : Int) ∧ (1 : Nat) ≤ (((List.take ((vfR v (byR no (Rose.node ((kf l (0 : Nat)).fst.lab.fst, (kf l (0 : Nat)).fst.lab.snd.fst, (kf l (0 : Nat)).fst.lab.snd.snd.fst,
 (kf l (0 : Nat)).fst.lab.snd.snd.snd.fst, (kf l (0 : Nat)).fst.lab.snd.snd.snd.snd.fst, ()) (List.take (kf l (0 : Nat)).fst.kids.length (List.drop (0 : Nat) (kf l (0 :
 Nat)).fst.kids))).kids) (firstP (fun z => z.snd.snd.snd.fst == (0 : Int) && z.snd.snd.fst == no) (0 : Nat) v).toNat).toNat - (firstP (fun z => z.snd.snd.snd.fst == (0 :
 Int) && z.snd.snd.fst == no) (0 : Nat) v).toNat) (List.drop (firstP (fun z => z.snd.snd.snd.fst == (0 : Int) && z.snd.snd.fst == no) (0 : Nat) v).toNat v)).set (0 : Nat)
 (z.fst, z.snd.fst, (0 : Int), z.snd.snd.snd.fst, z.snd.snd.snd.snd.fst, ())).set (0 : Nat) (z_1.fst, z_1.snd.fst, z_1.snd.snd.fst, (-1 : Int), z_1.snd.snd.snd.snd.fst,
 ())).length ∧ (0 : Int) ≤ (↑((List.take ((vfR v (byR no (Rose.node ((kf l (0 : Nat)).fst.lab.fst, (kf l (0 : Nat)).fst.lab.snd.fst, (kf l (0 : Nat)).fst.lab.snd.snd.fst,
 (kf l (0 : Nat)).fst.lab.snd.snd.snd.fst, (kf l (0 : Nat)).fst.lab.snd.snd.snd.snd.fst, ()) (List.take (kf l (0 : Nat)).fst.kids.length (List.drop (0 : Nat) (kf l (0 :
 Nat)).fst.kids))).kids) (firstP (fun z => z.snd.snd.snd.fst == (0 : Int) && z.snd.snd.fst == no) (0 : Nat) v).toNat).toNat - (firstP (fun z => z.snd.snd.snd.fst == (0 :
 Int) && z.snd.snd.fst == no) (0 : Nat) v).toNat) (List.drop (firstP (fun z => z.snd.snd.snd.fst == (0 : Int) && z.snd.snd.fst == no) (0 : Nat) v).toNat v)).length - (1 :
 Nat)) : Int) ∧ (((List.take ((vfR v (byR no (Rose.node ((kf l (0 : Nat)).fst.lab.fst, (kf l (0 : Nat)).fst.lab.snd.fst, (kf l (0 : Nat)).fst.lab.snd.snd.fst, (kf l (0 :
 Nat)).fst.lab.snd.snd.snd.fst, (kf l (0 : Nat)).fst.lab.snd.snd.snd.snd.fst, ()) (List.take (kf l (0 : Nat)).fst.kids.length (List.drop (0 : Nat) (kf l (0 :
 Nat)).fst.kids))).kids) (firstP (fun z => z.snd.snd.snd.fst == (0 : Int) && z.snd.snd.fst == no) (0 : Nat) v).toNat).toNat - (firstP (fun z => z.snd.snd.snd.fst == (0 :
 Int) && z.snd.snd.fst == no) (0 : Nat) v).toNat) (List.drop (firstP (fun z => z.snd.snd.snd.fst == (0 : Int) && z.snd.snd.fst == no) (0 : Nat) v).toNat v)).set (0 : Nat)
 (z.fst, z.snd.fst, (0 : Int), z.snd.snd.snd.fst, z.snd.snd.snd.snd.fst, ())).set (0 : Nat) (z_1.fst, z_1.snd.fst, z_1.snd.snd.fst, (-1 : Int), z_1.snd.snd.snd.snd.fst,
 ())).length ≤ (4000000000 : Nat))) (some (V.tup [V.agg [V.ref 0 0 (List.take (1 : Nat) (((List.take ((vfR v (byR no (Rose.node ((kf l (0 : Nat)).fst.lab.fst, (kf l (0 :
 Nat)).fst.lab.snd.fst, (kf l (0 : Nat)).fst.lab.snd.snd.fst, (kf l (0 : Nat)).fst.lab.snd.snd.snd.fst, (kf l (0 : Nat)).fst.lab.snd.snd.snd.snd.fst, ()) (List.take (kf l
 (0 : Nat)).fst.kids.length (List.drop (0 : Nat) (kf l (0 : Nat)).fst.kids))).kids) (firstP (fun z => z.snd.snd.snd.fst == (0 : Int) && z.snd.snd.fst == no) (0 : Nat)
 v).toNat).toNat - (firstP (fun z => z.snd.snd.snd.fst == (0 : Int) && z.snd.snd.fst == no) (0 : Nat) v).toNat) (List.drop (firstP (fun z => z.snd.snd.snd.fst == (0 : Int)
 && z.snd.snd.fst == no) (0 : Nat) v).toNat v)).set (0 : Nat) (z.fst, z.snd.fst, (0 : Int), z.snd.snd.snd.fst, z.snd.snd.snd.snd.fst, ())).set (0 : Nat) (z_1.fst,
 z_1.snd.fst, z_1.snd.snd.fst, (-1 : Int), z_1.snd.snd.snd.snd.fst, ())) ++ List.map (shN (firstP (fun z => z.snd.snd.snd.fst == (0 : Int) && z.snd.snd.fst == no) (0 :
 Nat) v)) (List.drop (1 : Nat) (((List.take ((vfR v (byR no (Rose.node ((kf l (0 : Nat)).fst.lab.fst, (kf l (0 : Nat)).fst.lab.snd.fst, (kf l (0 :
 Nat)).fst.lab.snd.snd.fst, (kf l (0 : Nat)).fst.lab.snd.snd.snd.fst, (kf l (0 : Nat)).fst.lab.snd.snd.snd.snd.fst, ()) (List.take (kf l (0 : Nat)).fst.kids.length
 (List.drop (0 : Nat) (kf l (0 : Nat)).fst.kids))).kids) (firstP (fun z => z.snd.snd.snd.fst == (0 : Int) && z.snd.snd.fst == no) (0 : Nat) v).toNat).toNat - (firstP (fun
 z => z.snd.snd.snd.fst == (0 : Int) && z.snd.snd.fst == no) (0 : Nat) v).toNat) (List.drop (firstP (fun z => z.snd.snd.snd.fst == (0 : Int) && z.snd.snd.fst == no) (0 :
 Nat) v).toNat v)).set (0 : Nat) (z.fst, z.snd.fst, (0 : Int), z.snd.snd.snd.fst, z.snd.snd.snd.snd.fst, ())).set (0 : Nat) (z_1.fst, z_1.snd.fst, z_1.snd.snd.fst, (-1 :
 Int), z_1.snd.snd.snd.snd.fst, ())))).length], V.b true], [some (Blk.row false none NCd (List.take (1 : Nat) (((List.take ((vfR v (byR no (Rose.node ((kf l (0 :
 Nat)).fst.lab.fst, (kf l (0 : Nat)).fst.lab.snd.fst, (kf l (0 : Nat)).fst.lab.snd.snd.fst, (kf l (0 : Nat)).fst.lab.snd.snd.snd.fst, (kf l (0 :
 Nat)).fst.lab.snd.snd.snd.snd.fst, ()) (List.take (kf l (0 : Nat)).fst.kids.length (List.drop (0 : Nat) (kf l (0 : Nat)).fst.kids))).kids) (firstP (fun z =>
 z.snd.snd.snd.fst == (0 : Int) && z.snd.snd.fst == no) (0 : Nat) v).toNat).toNat - (firstP (fun z => z.snd.snd.snd.fst == (0 : Int) && z.snd.snd.fst == no) (0 : Nat)
 v).toNat) (List.drop (firstP (fun z => z.snd.snd.snd.fst == (0 : Int) && z.snd.snd.fst == no) (0 : Nat) v).toNat v)).set (0 : Nat) (z.fst, z.snd.fst, (0 : Int),
 z.snd.snd.snd.fst, z.snd.snd.snd.snd.fst, ())).set (0 : Nat) (z_1.fst, z_1.snd.fst, z_1.snd.snd.fst, (-1 : Int), z_1.snd.snd.snd.snd.fst, ())) ++ List.map (shN (firstP
 (fun z => z.snd.snd.snd.fst == (0 : Int) && z.snd.snd.fst == no) (0 : Nat) v)) (List.drop (1 : Nat) (((List.take ((vfR v (byR no (Rose.node ((kf l (0 : Nat)).fst.lab.fst,
 (kf l (0 : Nat)).fst.lab.snd.fst, (kf l (0 : Nat)).fst.lab.snd.snd.fst, (kf l (0 : Nat)).fst.lab.snd.snd.snd.fst, (kf l (0 : Nat)).fst.lab.snd.snd.snd.snd.fst, ())
 (List.take (kf l (0 : Nat)).fst.kids.length (List.drop (0 : Nat) (kf l (0 : Nat)).fst.kids))).kids) (firstP (fun z => z.snd.snd.snd.fst == (0 : Int) && z.snd.snd.fst ==
 no) (0 : Nat) v).toNat).toNat - (firstP (fun z => z.snd.snd.snd.fst == (0 : Int) && z.snd.snd.fst == no) (0 : Nat) v).toNat) (List.drop (firstP (fun z =>
 z.snd.snd.snd.fst == (0 : Int) && z.snd.snd.fst == no) (0 : Nat) v).toNat v)).set (0 : Nat) (z.fst, z.snd.fst, (0 : Int), z.snd.snd.snd.fst, z.snd.snd.snd.snd.fst,
 ())).set (0 : Nat) (z_1.fst, z_1.snd.fst, z_1.snd.snd.fst, (-1 : Int), z_1.snd.snd.snd.snd.fst, ())))))]))))))))))) (some (V.tup [V.agg [V.ref 0 0 0], V.b false], [some
 (Blk.row false none NCd (nilT NCd.den))])))))) (some (V.tup [V.agg [V.ref 0 0 0], V.b false], [some (Blk.row false none NCd (nilT NCd.den))])))) : _) := by kernel_rfl
theorem set_cut {a : Int} {o : List Nd} {i : Nat} (h : i + 1 < o.length) : (o.set (i + 1) (shN a o[i + 1])).take (i + 1 + 1) ++ ((o.set (i + 1) (shN a o[i + 1])).drop (i + 1 + 1)).map (shN a) = o.take (i + 1) ++ (o.drop (i + 1)).map (shN a) := by
  have e : o.set (i + 1) (shN a o[i + 1]) = (o.take (i + 1) ++ [shN a o[i + 1]]) ++ o.drop (i + 1 + 1) := by
    rw [List.set_eq_take_append_cons_drop, if_pos h]; simp
  have hl : (o.take (i + 1) ++ [shN a o[i + 1]]).length = i + 1 + 1 := by simp; omega
  rw [e, List.take_left' hl, List.drop_left' hl, List.drop_eq_getElem_cons h, List.map_cons]
  simp
theorem get_loop (a : Int) : ∀ (j i : Nat) (o : List Nd), i + j + 1 = o.length → o.length ≤ 4000000000 →
    Runs Try.prog (look [(48, .rd1 kindOfG), (54, .rd1 kfitsG), (57, .rd1 kpartG), (61, .rd1 vfitG), (58, .own gniG), (60, .rd1 cloneNodeG)]) (look [(11, getE)]) 0 (body Try.f13 0) getE ([.ptr 0 0, .i .i64 a, .ref 1 0 o.length, .i .i64 ((o.length : Int) - 1), .i .i64 (i : Int)], [some (.box [.ref 2 0 0]), some (.row false none NCd o), some (.row false none NCd [])]) (.exit 0) ([.ptr 0 0, .ref 1 0 (o.take (i + 1) ++ (o.drop (i + 1)).map (shN a)).length], [some (.box [.ref 2 0 0]), some (.row false none NCd (o.take (i + 1) ++ (o.drop (i + 1)).map (shN a))), some (.row false none NCd [])])
  | 0, i, o, hi, ho => by
    have hr := get_round a o.length ((o.length : Int) - 1) i o
    rw [ifB_false (decide_eq_false (by omega))] at hr
    have e : o.take (i + 1) ++ (o.drop (i + 1)).map (shN a) = o := by rw [List.take_of_length_le (by omega), List.drop_eq_nil_of_le (by omega)]; simp
    rw [e]
    exact .stop _ _ _ hr (by simp)
  | j + 1, i, o, hi, ho => by
    have h1 : i + 1 < o.length := by omega
    have hM : maxI = 9223372036854775807 := rfl
    have hr := get_round a o.length ((o.length : Int) - 1) i o
    rw [ifB_true (decide_eq_true (by omega)), wrap_succ (n := i) (by omega), ifT_true (by simp only [Bool.and_eq_true, decide_eq_true_eq]; omega), Int.toNat_natCast, Nat.zero_add, List.getElem?_eq_getElem h1, ifSome_s, ifT_true (by simp only [Bool.and_eq_true, decide_eq_true_eq]; omega), ifSome_s] at hr
    have ih := get_loop a j (i + 1) (o.set (i + 1) (shN a o[i + 1])) (by rw [List.length_set]; omega) (by rw [List.length_set]; exact ho)
    rw [set_cut h1, List.length_set] at ih
    exact .step _ _ _ _ hr ih
theorem get_ok : LoopsOk Try.prog (look [(48, .rd1 kindOfG), (54, .rd1 kfitsG), (57, .rd1 kpartG), (61, .rd1 vfitG), (58, .own gniG), (60, .rd1 cloneNodeG)]) (look [(11, getE)]) 0 (Try.f13.body.getD .skip) := by
  refine loopsOk_one (a := body Try.f13 0) (by kernel_rfl) fun d ex d' h => ?_
  unfold getE at h
  dsimp only at h
  split at h
  · rename_i a m k i o
    obtain ⟨hc, hx⟩ := need_some h
    clear h
    obtain ⟨rfl, h0, rfl, h2, h3, h4⟩ := of_decide_eq_true hc
    obtain ⟨i, rfl⟩ := Int.eq_ofNat_of_zero_le h0
    simp only [Int.toNat_natCast] at hx
    have h8 := leaf_some hx
    obtain ⟨rfl, rfl⟩ := Prod.mk.inj h8
    exact get_loop a (o.length - 1 - i) i o (by omega) h4
  · cases h
theorem fits_ord {v : List Nd} {l : List Ty} (h : fitsB v l = true) : kindB l = true ∧ 0 < v.length ∧ v.length ≤ 40 ∧ Ord (tys v) ∧ sfR (v4L v 0) (t2L l 0) = true := by
  rw [fits_eq] at h
  unfold fitsS nodesB at h
  simp only [Bool.and_eq_true, decide_eq_true_eq] at h
  obtain ⟨h1, ⟨h2, h3⟩, h4⟩ := h
  exact ⟨h1, by omega, h3.2, ((nodes_ord (by omega)).1 h2).1, h4⟩
theorem root_msg {l : List Ty} (h : kindB l = true) : (t2L l 0).lab.1 = 5 := by
  obtain ⟨_, _, _, k4⟩ := kf_t2 h
  unfold kindB goodR at h
  simp only [Bool.and_eq_true] at h
  rw [k4] at h
  simpa using h.2.1.1.1.1.1.1
theorem kid_fits {v : List Nd} {l : List Ty} {no : Int} {a : Nat} (h : fitsB v l = true) (ha : a < v.length) (hu : v[a].2.2.2.1 = 0) (hn : v[a].2.2.1 = no) : hasNo no (t2L l 0).kids = true ∧ sfR (cv (kf (tys v) a).1) (gkd l no) = true ∧ vfR v (gkd l no) a = ((kf (tys v) a).2 : Int) ∧ cntR (gkd l no) ≤ 1000000 ∧ rightR (gkd l no) = true ∧ cv (kf (tys v) a).1 ∈ (v4L v 0).kids := by
  obtain ⟨hk, h0, h40, H, hs⟩ := fits_ord h
  obtain ⟨k1, k2, k3, k4⟩ := kf_t2 hk
  have h5 := root_msg hk
  have hz := H.zero
  rw [up_tys, upN_of h0] at hz
  have hz := Option.some.inj hz
  have hp : 0 < a := by
    rcases Nat.eq_zero_or_pos a with e | e
    · subst e; omega
    · exact e
  have e := H.end' (by rw [tys_len]; exact h0)
  have ht : v4L v 0 = cv (t2L (tys v) 0) := v4_cv _ 0 (Nat.le_refl _) h0
  have hB := blk_all H _ a (Nat.le_refl _) (by rw [tys_len]; exact ha)
  have hua : upAt (tys v) a = some ((0 : Nat) : Int) := by rw [up_tys, upN_of ha, hu]; rfl
  have hmem : cv (kf (tys v) a).1 ∈ (v4L v 0).kids := by
    rw [ht, t2_KK (by rw [tys_len]; exact h0), cv, cvs_map]
    show _ ∈ List.map cv _
    rw [List.mem_map]
    exact ⟨_, List.mem_map.2 ⟨a, KK_mem.2 ⟨⟨by omega, by rw [tys_len]; exact ha⟩, hua⟩, rfl⟩, by rw [hB.tree]⟩
  have hus : (v4L v 0).kids = cvs (partsAt v 0 v[0].2.2.2.2.1).1 := by
    rw [ht, ← e.2, kf_at h0, cv]; rfl
  rw [ht, ← e.2, sfR_at h0, h5] at hs
  split at hs
  · cases hs
  rw [if_neg (by omega), if_neg (by omega), if_neg (by omega), if_neg (by omega), Bool.and_eq_true] at hs
  have hsf := (sfM_pw (t2L l 0).kids (cvs (partsAt v 0 v[0].2.2.2.2.1).1) [] List.Pairwise.nil).1 hs.1
  rw [hus] at hmem ⊢
  have hh := hsf.1 _ hmem
  have hlab : (cv (kf (tys v) a).1).lab.2.2.1 = no := by rw [kf_lab ha]; exact hn
  rw [hlab] at hh
  have hby := byR_mem hh.1
  have hr := rightL_mem (rightR_parts k3).2 hby
  have hc1 := cnt_mem hby
  have hc2 := cnt_kids (t2L l 0)
  have hv := fits_all v _ (byR no (t2L l 0).kids) (Nat.le_refl _) hr a ha
  rw [hh.2, if_pos rfl] at hv
  exact ⟨hh.1, hh.2, hv, by unfold gkd; omega, hr, hmem⟩
theorem gn_at {v : List Nd} {no : Int} (h : 0 ≤ gnAt v no) : ∃ a : Nat, ∃ ha : a < v.length, gnAt v no = (a : Int) ∧ v[a].2.2.2.1 = 0 ∧ v[a].2.2.1 = no := by
  obtain ⟨a, h1, h2, h3, _⟩ := firstP_at (fun z : Nd => z.2.2.2.1 == 0 && z.2.2.1 == no) v 0 h
  rw [Nat.zero_add] at h2
  simp only [Bool.and_eq_true, beq_iff_eq] at h3
  exact ⟨a, h1, h2, h3⟩
theorem get_fun (v : List Nd) (l : List Ty) (no : Int) (hc : (decide (l.length ≤ 4000000000) && nmL l) = true) : funN Try.prog (look [(48, .rd1 kindOfG), (54, .rd1 kfitsG), (57, .rd1 kpartG), (61, .rd1 vfitG), (58, .own gniG), (60, .rd1 cloneNodeG)]) (look [(11, getE)]) Try.f13 [.agg [.sl NCd v], .agg [.sl TCd l], .i .i64 no] [] = (.br (getB v l no) (.leaf (.tup [.agg [.ref 0 0 (getL v l no).length], .b true], [some (.row false none NCd (getL v l no))])) (.leaf (.tup [.agg [.ref 0 0 0], .b false], [some (.row false none NCd [])])) : Br (V × List (Option Blk))).run := by
  rw [get_tree, hc, ifT_t]
  have hgB : getB v l no = (fitsB v l && (hasNo no (t2L l 0).kids && ((gkd l no).lab.1 == 5 && decide (0 ≤ gnAt v no)))) := rfl
  rw [hgB]
  cases hk : kindB l with
  | false =>
    have hf : fitsB v l = false := by unfold fitsB; rw [hk]; rfl
    rw [hf]; rfl
  | true =>
    obtain ⟨k1, k2, k3, k4⟩ := kf_t2 hk
    have hf : fitsB v l = vfitsB (t2L l 0) v := by unfold fitsB; rw [hk, k4]; rfl
    rw [ifB_t, rose_eta, k4, ifT_true (decide_eq_true ⟨k2, k3⟩), ← hf]
    have hat : firstP (fun z : Nd => z.2.2.2.1 == 0 && z.2.2.1 == no) 0 v = gnAt v no := rfl
    have hby : byR no (t2L l 0).kids = gkd l no := rfl
    have hkl := cnt_len (t2L l 0).kids
    have hck := cnt_kids (t2L l 0)
    have hM : maxI = 9223372036854775807 := rfl
    rw [hat, hby]
    cases hv : fitsB v l with
    | false => rfl
    | true =>
      rw [Bool.not_true, ifB_f, ifT_true (decide_eq_true (by omega))]
      cases hh : hasNo no (t2L l 0).kids with
      | false => rfl
      | true =>
        rw [ifB_t]
        unfold bne
        cases h5 : (gkd l no).lab.1 == 5 with
        | false => rfl
        | true =>
          rw [Bool.not_true, ifB_f]
          by_cases hA : gnAt v no < 0
          · rw [ifB_true (decide_eq_true hA), decide_eq_false (show ¬ (0 ≤ gnAt v no) by omega)]; rfl
          · rw [ifB_false (decide_eq_false hA), decide_eq_true (show 0 ≤ gnAt v no by omega)]
            obtain ⟨a, ha, ea, hu, hn⟩ := gn_at (show 0 ≤ gnAt v no by omega)
            obtain ⟨_, _, hfit, hcn, hrt, _⟩ := kid_fits hv ha hu hn
            obtain ⟨b1, b2⟩ := kf_bnd (tys v) a (by rw [tys_len]; exact ha)
            rw [tys_len] at b2
            obtain ⟨_, _, h40, _, _⟩ := fits_ord hv
            have hG : getL v l no = partN (a : Int) ((v.drop a).take ((kf (tys v) a).2 - a)) := by unfold getL; rw [ea, Int.toNat_natCast, hfit, Int.toNat_natCast]
            rw [hG, ea, Int.toNat_natCast, hfit, Int.toNat_natCast]
            generalize (kf (tys v) a).2 = E at *
            have hW : ((v.drop a).take (E - a)).length = E - a := by rw [List.length_take, List.length_drop]; omega
            obtain ⟨w0, ws, hw⟩ : ∃ w0 ws, (v.drop a).take (E - a) = w0 :: ws := by
              cases hw : (v.drop a).take (E - a) with
              | nil => rw [hw] at hW; simp at hW; omega
              | cons w0 ws => exact ⟨w0, ws, rfl⟩
            rw [hw] at hW ⊢
            rw [List.length_cons] at hW
            rw [ifT_true (decide_eq_true ⟨hcn, hrt, by omega, ha, by omega⟩), ifT_true (by simp only [Bool.true_and, Bool.and_eq_true, decide_eq_true_eq]; omega), ifT_true (decide_eq_true (by rw [List.length_cons]; omega)), ifT_true (by rw [List.length_cons]; simp only [Bool.and_eq_true, decide_eq_true_eq]; omega), List.getElem?_cons_zero, ifSome_s]
            rw [ifT_true (by rw [List.length_cons]; simp only [Bool.and_eq_true, decide_eq_true_eq]; omega), List.set_cons_zero, List.getElem?_cons_zero, ifSome_s]
            rw [ifT_true (by rw [List.length_cons]; simp only [Bool.and_eq_true, decide_eq_true_eq]; omega), List.set_cons_zero]
            rw [ifT_true (decide_eq_true ⟨rfl, by omega, by rw [List.length_cons]; omega, by rw [List.length_cons]; omega, by omega, by rw [List.length_cons]; omega⟩)]
            rfl
theorem getPart : Contract Try.prog 13 (Ent.rd1 getG).F := by
  refine fun_contractN' (KnowsL.cons (enters_fn Try.func48 (by kernel_rfl) (by kernel_rfl)) kindOf (KnowsL.cons (enters_fn Try.func54 (by kernel_rfl) (by kernel_rfl)) kfits (KnowsL.cons (enters_fn Try.func57 (by kernel_rfl) (by kernel_rfl)) kpart (KnowsL.cons (enters_fn Try.func61 (by kernel_rfl) (by kernel_rfl)) vfit (KnowsL.cons (enters_fn Try.func58 (by kernel_rfl) (by kernel_rfl)) gn_idx (KnowsL.cons (enters_fn Try.func60 (by kernel_rfl) (by kernel_rfl)) cloneNode KnowsL.nil)))))).knows (Λ := (look [(11, getE)])) Try.func13 (c := Try.f13.body.getD .skip) (by kernel_rfl) fun vs bs r hq hv hb => ?_
  unfold Ent.F getG at hq
  dsimp only at hq
  split at hq
  · rename_i v l no
    obtain ⟨hc, hx⟩ := need_some hq
    rw [Bool.and_eq_true] at hc
    exact ⟨get_ok, (get_fun v l no hc.1).trans hx⟩
  · cases hq
/-- The part with a number, of a value; an empty one where there is none. -/
def byV (n : Int) : List (Rose VLab) → Rose VLab
  | [] => .node (0, [], 0, false, ()) []
  | z :: l => if z.lab.2.2.1 = n then z else byV n l
def flatO (z : Rose VLab) : List Nd := flatV (.node (z.lab.1, z.lab.2.1, 0, z.lab.2.2.2.1, ()) z.kids) (-1) 0
def sgetB (v : List Nd) (l : List Ty) (no : Int) : Bool := fitsB v l && (hasNo no (t2L l 0).kids && ((gkd l no).lab.1 == 5 && hasVN no (v4L v 0).kids))
def sgetL (v : List Nd) (no : Int) : List Nd := flatO (byV no (v4L v 0).kids)
def sgetG : List V → List Blk → Br (V × List (Option Blk))
  | [.agg [.sl (.pair (.int .i64) (.pair .str (.pair (.int .i64) (.pair (.int .i64) (.pair .bool .unit))))) v], .agg [.sl (.pair (.int .i64) (.pair .str (.pair (.int .i64) (.pair .bool (.pair (.int .i64) (.pair (.int .i64) .unit)))))) l], .i .i64 no], [] => .need (decide (l.length ≤ 4000000000) && nmL l && decide (v.length ≤ 4000000000)) (.br (sgetB v l no) (.leaf (.tup [.agg [.ref 0 0 (sgetL v no).length], .b true], [some (.row false none (.pair (.int .i64) (.pair .str (.pair (.int .i64) (.pair (.int .i64) (.pair .bool .unit))))) (sgetL v no))])) (.leaf (.tup [.agg [.ref 0 0 0], .b false], [some (.row false none (.pair (.int .i64) (.pair .str (.pair (.int .i64) (.pair (.int .i64) (.pair .bool .unit))))) [])])))
  | _, _ => .no
def sgetE : LoopEnt := ⟨49, [2,6,34,35,36], [6], [6,7], fun
  | ([.i .i64 no, .ptr 0 0, .ref 1 0 m, .i .i64 k, .i .i64 i], [some (.box [.ref 2 0 0]), some (.row false none (.rose (.pair (.int .i64) (.pair .str (.pair (.int .i64) (.pair .bool .unit))))) us), some (.row false none (.pair (.int .i64) (.pair .str (.pair (.int .i64) (.pair (.int .i64) (.pair .bool .unit))))) [])]) => .need (decide (m = us.length ∧ 0 ≤ i ∧ i.toNat ≤ us.length ∧ k = us.length ∧ vcL us ≤ 2000000)) (.br (hasVN no (us.drop i.toNat)) (.leaf (.ret, ([.ptr 0 0, .b true], [some (.box [.ref 1 0 (flatO (byV no (us.drop i.toNat))).length]), some (.row false none (.pair (.int .i64) (.pair .str (.pair (.int .i64) (.pair (.int .i64) (.pair .bool .unit))))) (flatO (byV no (us.drop i.toNat))))]))) (.leaf (.exit 0, ([.ptr 0 0], [some (.box [.ref 1 0 0]), some (.row false none (.pair (.int .i64) (.pair .str (.pair (.int .i64) (.pair (.int .i64) (.pair .bool .unit))))) [])]))))
  | _ => .no⟩
theorem sget_round (no : Int) (us : List (Rose VLab)) (m : Nat) (k i : Int) : roundK Try.prog (look [(62, .rd1 sfits2G), (53, .rd1 l2TreeG), (63, .rd1 byG), (64, .rd1 l4TreeG), (51, .rd1 ofG)]) (look [(7, sgetE)]) 0 (body Try.f14 0) sgetE ([.i .i64 no, .ptr 0 0, .ref 1 0 m, .i .i64 k, .i .i64 i], [some (.box [.ref 2 0 0]), some (.row false none (.rose VCd) us), some (.row false none NCd [])]) =
  ((ifB (decide (i < k)) (ifT (decide ((0 : Int) ≤ i) && decide (i < (↑m : Int))) (ifSome us[(0 : Nat) + i.toNat]? fun z => ifB ((Rose.lab z).snd.snd.fst == no) (ifT (decide
 (vcL (Rose.kids z) + (1 : Nat) ≤ (2000000 : Nat))) (some (Ex.ret, [V.ptr 0 0, V.b true], [some (Blk.box [V.ref 1 0 (flatV (Rose.node ((Rose.lab z).fst, (Rose.lab
 z).snd.fst, (0 : Int), (Rose.lab z).snd.snd.snd.fst, ()) (Rose.kids z)) (-1 : Int) (0 : Nat)).length]), some (Blk.row false none NCd (flatV (Rose.node ((Rose.lab z).fst,
 (Rose.lab z).snd.fst, (0 : Int), (Rose.lab z).snd.snd.snd.fst, ()) (Rose.kids z)) (-1 : Int) (0 : Nat)))]))) (some (Ex.normal, [V.i .i64 no, V.ptr 0 0, V.ref 1 0 m, V.i
 .i64 k, V.i .i64 (IntKind.i64.wrap (i + (1 : Int)))], [some (Blk.box [V.ref 2 0 0]), some (Blk.row false none VCd.rose us), some (Blk.row false none NCd (nilT
 NCd.den))])))) (some (Ex.exit 0, [V.ptr 0 0], [some (Blk.box [V.ref 1 0 0]), some (Blk.row false none NCd (nilT NCd.den))]))) : _) := by kernel_rfl
theorem sget_tree (v : List Nd) (l : List Ty) (no : Int) : funN Try.prog (look [(62, .rd1 sfits2G), (53, .rd1 l2TreeG), (63, .rd1 byG), (64, .rd1 l4TreeG), (51, .rd1 ofG)]) (look [(7, sgetE)]) Try.f14 [.agg [.sl NCd v], .agg [.sl TCd l], .i .i64 no] [] =
  ((ifT (decide (l.length ≤ (4000000000 : Nat)) && nmL l && decide (v.length ≤ (4000000000 : Nat))) (ifB (!fitsB v l) (some (V.tup [V.agg [V.ref 0 0 0], V.b false], [some
 (Blk.row false none NCd (nilT NCd.den))])) (ifT (decide ((0 : Int) ≤ (0 : Int) ∧ (0 : Nat) < l.length ∧ l.length ≤ (4000000000 : Nat))) (ifT (decide ((List.take (t2L l (0
 : Nat)).kids.length (List.drop (0 : Nat) (t2L l (0 : Nat)).kids)).length ≤ maxI)) (ifB (hasNo no (List.take (t2L l (0 : Nat)).kids.length (List.drop (0 : Nat) (t2L l (0 :
 Nat)).kids))) (ifB ((byR no (List.take (t2L l (0 : Nat)).kids.length (List.drop (0 : Nat) (t2L l (0 : Nat)).kids))).lab.fst != (5 : Int)) (some (V.tup [V.agg [V.ref 0 0
 0], V.b false], [some (Blk.row false none NCd (nilT NCd.den))])) (ifT (decide ((0 : Int) ≤ (0 : Int) ∧ (0 : Nat) < v.length ∧ v.length ≤ (4000000000 : Nat))) (ifT (decide
 ((v4L v (0 : Nat)).kids.length = (v4L v (0 : Nat)).kids.length ∧ (0 : Int) ≤ (0 : Int) ∧ (0 : Nat) ≤ (v4L v (0 : Nat)).kids.length ∧ (↑(v4L v (0 : Nat)).kids.length :
 Int) = (↑(v4L v (0 : Nat)).kids.length : Int) ∧ vcL (v4L v (0 : Nat)).kids ≤ (2000000 : Nat))) (ifB (hasVN no (List.drop (0 : Nat) (v4L v (0 : Nat)).kids)) (some (V.tup
 [V.agg [V.ref 0 0 (flatO (byV no (List.drop (0 : Nat) (v4L v (0 : Nat)).kids))).length], V.b true], [some (Blk.row false none NCd (flatO (byV no (List.drop (0 : Nat) (v4L
 v (0 : Nat)).kids))))])) (some (V.tup [V.agg [V.ref 0 0 0], V.b false], [some (Blk.row false none NCd (nilT NCd.den))])))))) (some (V.tup [V.agg [V.ref 0 0 0], V.b
 false], [some (Blk.row false none NCd (nilT NCd.den))]))))))) : _) := by kernel_rfl
mutual
theorem vc_cv : ∀ z : Rose Lab, vcR (cv z) = cntR z
  | .node x ks => by rw [cv, vcR, cntR, vc_cvs ks]
theorem vc_cvs : ∀ l : List (Rose Lab), vcL (cvs l) = cntL l
  | [] => by rw [cvs, vcL, cntL]
  | z :: l => by rw [cvs, vcL, cntL, vc_cv z, vc_cvs l]
end
theorem vc_v4 {v : List Nd} {l : List Ty} (h : fitsB v l = true) : vcL (v4L v 0).kids ≤ 2000000 := by
  obtain ⟨_, h0, h40, H, _⟩ := fits_ord h
  have e := H.end' (by rw [tys_len]; exact h0)
  have ht : v4L v 0 = cv (t2L (tys v) 0) := v4_cv _ 0 (Nat.le_refl _) h0
  have hc := kf_cnt (l := tys v) (a := 0) (by rw [tys_len]; exact h0)
  rw [e.1, e.2, tys_len] at hc
  have h1 := vc_kids (v4L v 0)
  rw [ht, vc_cv, ← ht] at h1
  omega
theorem sget_loop (no : Int) (us : List (Rose VLab)) (hm : vcL us ≤ 2000000) : ∀ (j i : Nat), i + j = us.length → ∀ ex d, (Br.br (hasVN no (us.drop i)) (.leaf (.ret, ([.ptr 0 0, .b true], [some (.box [.ref 1 0 (flatO (byV no (us.drop i))).length]), some (.row false none NCd (flatO (byV no (us.drop i))))]))) (.leaf (.exit 0, ([.ptr 0 0], [some (.box [.ref 1 0 0]), some (.row false none NCd [])]))) : Br (Ex × Dt)).run = some (ex, d) →
    Runs Try.prog (look [(62, .rd1 sfits2G), (53, .rd1 l2TreeG), (63, .rd1 byG), (64, .rd1 l4TreeG), (51, .rd1 ofG)]) (look [(7, sgetE)]) 0 (body Try.f14 0) sgetE ([.i .i64 no, .ptr 0 0, .ref 1 0 us.length, .i .i64 (us.length : Int), .i .i64 (i : Int)], [some (.box [.ref 2 0 0]), some (.row false none (.rose VCd) us), some (.row false none NCd [])]) ex d
  | 0, i, hi, ex, d, h => by
    have hr := sget_round no us us.length us.length i
    rw [ifB_false (decide_eq_false (by omega))] at hr
    rw [List.drop_eq_nil_of_le (by omega)] at h
    have h8 := leaf_some h
    obtain ⟨rfl, rfl⟩ := Prod.mk.inj h8
    exact .stop _ _ _ hr (by simp)
  | j + 1, i, hi, ex, d, h => by
    have hl : i < us.length := by omega
    have hM : maxI = 9223372036854775807 := rfl
    have hlen := vc_len us
    have hmem := vc_mem (List.getElem_mem hl)
    have hck := vc_kids us[i]
    have hr := sget_round no us us.length us.length i
    rw [ifB_true (decide_eq_true (by omega)), ifT_true (by simp only [Bool.and_eq_true, decide_eq_true_eq]; omega), Int.toNat_natCast, Nat.zero_add, List.getElem?_eq_getElem hl, ifSome_s, wrap_succ (n := i) (by omega)] at hr
    rw [List.drop_eq_getElem_cons hl] at h
    unfold hasVN at h
    rw [List.any_cons, byV] at h
    by_cases q : us[i].lab.2.2.1 = no
    · have qb : (us[i].lab.2.2.1 == no) = true := by rw [q]; exact beq_self_eq_true _
      rw [qb, Bool.true_or, if_pos q] at h
      rw [qb, ifB_t, ifT_true (decide_eq_true (by omega))] at hr
      have h8 := leaf_some h
      obtain ⟨rfl, rfl⟩ := Prod.mk.inj h8
      exact .stop _ _ _ hr (by simp)
    · rw [beq_false_of_ne q, Bool.false_or, if_neg q] at h
      rw [beq_false_of_ne q, ifB_f] at hr
      exact .step _ _ _ _ hr (sget_loop no us hm j (i + 1) (by omega) ex d h)
theorem sget_ok : LoopsOk Try.prog (look [(62, .rd1 sfits2G), (53, .rd1 l2TreeG), (63, .rd1 byG), (64, .rd1 l4TreeG), (51, .rd1 ofG)]) (look [(7, sgetE)]) 0 (Try.f14.body.getD .skip) := by
  refine loopsOk_one (a := body Try.f14 0) (by kernel_rfl) fun d ex d' h => ?_
  unfold sgetE at h
  dsimp only at h
  split at h
  · rename_i no m k i us
    obtain ⟨hc, hx⟩ := need_some h
    clear h
    obtain ⟨rfl, h0, h1, rfl, h3⟩ := of_decide_eq_true hc
    obtain ⟨i, rfl⟩ := Int.eq_ofNat_of_zero_le h0
    simp only [Int.toNat_natCast] at h1 hx
    exact sget_loop no us h3 (us.length - i) i (by omega) ex d' hx
  · cases h
theorem sget_fun (v : List Nd) (l : List Ty) (no : Int) (hc : (decide (l.length ≤ 4000000000) && nmL l && decide (v.length ≤ 4000000000)) = true) : funN Try.prog (look [(62, .rd1 sfits2G), (53, .rd1 l2TreeG), (63, .rd1 byG), (64, .rd1 l4TreeG), (51, .rd1 ofG)]) (look [(7, sgetE)]) Try.f14 [.agg [.sl NCd v], .agg [.sl TCd l], .i .i64 no] [] = (.br (sgetB v l no) (.leaf (.tup [.agg [.ref 0 0 (sgetL v no).length], .b true], [some (.row false none NCd (sgetL v no))])) (.leaf (.tup [.agg [.ref 0 0 0], .b false], [some (.row false none NCd [])])) : Br (V × List (Option Blk))).run := by
  rw [sget_tree, hc, ifT_t]
  have hgB : sgetB v l no = (fitsB v l && (hasNo no (t2L l 0).kids && ((gkd l no).lab.1 == 5 && hasVN no (v4L v 0).kids))) := rfl
  have hgL : sgetL v no = flatO (byV no (v4L v 0).kids) := rfl
  rw [hgB, hgL]
  rw [Bool.and_eq_true, Bool.and_eq_true, decide_eq_true_eq, decide_eq_true_eq] at hc
  cases hv : fitsB v l with
  | false => rfl
  | true =>
    obtain ⟨hk, h0, h40, H, _⟩ := fits_ord hv
    obtain ⟨k1, k2, k3, k4⟩ := kf_t2 hk
    have hkl := cnt_len (t2L l 0).kids
    have hck := cnt_kids (t2L l 0)
    have hM : maxI = 9223372036854775807 := rfl
    have hby : byR no (t2L l 0).kids = gkd l no := rfl
    rw [Bool.not_true, ifB_f, ifT_true (decide_eq_true ⟨by omega, k1, hc.1.1⟩), show List.drop 0 (t2L l 0).kids = (t2L l 0).kids from rfl, List.take_length, ifT_true (decide_eq_true (by omega)), hby]
    cases hh : hasNo no (t2L l 0).kids with
    | false => rfl
    | true =>
      rw [ifB_t]
      unfold bne
      cases h5 : (gkd l no).lab.1 == 5 with
      | false => rfl
      | true =>
        rw [Bool.not_true, ifB_f, ifT_true (decide_eq_true ⟨by omega, h0, hc.2⟩), show List.drop 0 (v4L v 0).kids = (v4L v 0).kids from rfl, ifT_true (decide_eq_true ⟨rfl, by omega, by omega, rfl, vc_v4 hv⟩)]
        cases hasVN no (v4L v 0).kids <;> rfl
theorem sgetPart : Contract Try.prog 14 (Ent.rd1 sgetG).F := by
  refine fun_contractN' (KnowsL.cons (enters_fn Try.func62 (by kernel_rfl) (by kernel_rfl)) sfits (KnowsL.cons (enters_fn Try.func53 (by kernel_rfl) (by kernel_rfl)) l2Tree (KnowsL.cons (enters_fn Try.func63 (by kernel_rfl) (by kernel_rfl)) l2By (KnowsL.cons (enters_fn Try.func64 (by kernel_rfl) (by kernel_rfl)) l4Tree (KnowsL.cons (enters_fn Try.func51 (by kernel_rfl) (by kernel_rfl)) l4Of KnowsL.nil))))).knows (Λ := (look [(7, sgetE)])) Try.func14 (c := Try.f14.body.getD .skip) (by kernel_rfl) fun vs bs r hq hv hb => ?_
  unfold Ent.F sgetG at hq
  dsimp only at hq
  split at hq
  · rename_i v l no
    obtain ⟨hc, hx⟩ := need_some hq
    exact ⟨sget_ok, (sget_fun v l no hc).trans hx⟩
  · cases hq
def cutN (v : List Nd) (s t : Nat) : List Nd := (v.drop s).take (t - s)
theorem cut_app {v : List Nd} {s t u : Nat} (h1 : s ≤ t) (h2 : t ≤ u) : cutN v s t ++ cutN v t u = cutN v s u := by
  unfold cutN
  have e : v.drop t = (v.drop s).drop (t - s) := by rw [List.drop_drop]; congr 1; omega
  rw [e, show u - s = (t - s) + (u - t) by omega, List.take_add]
theorem cut_one {v : List Nd} {a : Nat} (h : a < v.length) : cutN v a (a + 1) = [v[a]] := by
  unfold cutN
  rw [List.drop_eq_getElem_cons h, show a + 1 - a = 1 by omega]; rfl
theorem cut_len {v : List Nd} {s t : Nat} (h : t ≤ v.length) : (cutN v s t).length = t - s := by
  unfold cutN
  rw [List.length_take, List.length_drop]; omega
/-- What lies within a node, told as nodes again, is the nodes. -/
theorem flat_kloop {v : List Nd} {a : Nat} (IH : ∀ e, a < e → ∀ h : e < v.length, flatV (cv (kf (tys v) e).1) v[e].2.2.2.1 e = cutN v e (kf (tys v) e).2) : ∀ n e, a < e → e ≤ v.length → flatK (cvs (kloop (kf (tys v)) (tys v) a n e []).1) a e = cutN v e (kloop (kf (tys v)) (tys v) a n e []).2
  | 0, e, _, _ => by
    rw [kloop, cvs, flatK]
    unfold cutN
    simp
  | n + 1, e, he, hl => by
    rw [kloop]
    by_cases hu : upAt (tys v) e = some (a : Int)
    · have h1 := ownB_lt (own_up.2 hu)
      have hb := kf_bnd (tys v) e (by rw [tys_len]; exact h1)
      rw [tys_len] at hb
      have hup : v[e].2.2.2.1 = (a : Int) := by rw [up_tys, upN_of h1] at hu; exact Option.some.inj hu
      have ih := IH e he h1
      rw [hup] at ih
      have ih2 := flat_kloop IH n (kf (tys v) e).2 (by omega) hb.2
      have hk := kloop_bnd (a := a) (kf_bnd (tys v)) n (kf (tys v) e).2 [] (by rw [tys_len]; exact hb.2)
      rw [if_pos hu, kloop_acc]
      dsimp only
      rw [List.nil_append, List.singleton_append, cvs, flatK, ih, cut_len hb.2, show e + ((kf (tys v) e).2 - e) = (kf (tys v) e).2 by omega, ih2]
      exact cut_app (by omega) hk.1
    · rw [if_neg hu, cvs, flatK]
      unfold cutN
      simp
theorem flat_kf {v : List Nd} : ∀ n a, v.length - a ≤ n → ∀ h : a < v.length, flatV (cv (kf (tys v) a).1) v[a].2.2.2.1 a = cutN v a (kf (tys v) a).2
  | 0, a, h1, h2 => by omega
  | n + 1, a, h1, h2 => by
    have IH : ∀ e, a < e → ∀ h : e < v.length, flatV (cv (kf (tys v) e).1) v[e].2.2.2.1 e = cutN v e (kf (tys v) e).2 := fun e he h => flat_kf n e (by omega) h
    have hb := kf_bnd (tys v) a (by rw [tys_len]; exact h2)
    rw [kf_at h2] at hb ⊢
    dsimp only at hb ⊢
    rw [← cut_app (Nat.le_succ a) hb.1, cut_one h2, cv, flatV, lab_tys h2]
    unfold partsAt
    have hx : ∀ m, v[a].2.2.2.2.1 = m → ((v[a].1, v[a].2.1, v[a].2.2.1, v[a].2.2.2.1, m, ()) : Nd) = v[a] := fun m hm => by subst hm; rfl
    cases hm : v[a].2.2.2.2.1 with
    | false =>
      simp only [cond_false]
      rw [cvs, flatK]
      have : cutN v (a + 1) (a + 1) = [] := by unfold cutN; simp
      show _ = _ ++ cutN v (a + 1) (a + 1)
      rw [this]
      exact congrArg (fun y : Nd => [y]) (hx false hm)
    | true =>
      simp only [cond_true]
      rw [flat_kloop IH _ (a + 1) (by omega) h2]
      exact congrArg (fun y : Nd => y :: cutN v (a + 1) (kloop (kf (tys v)) (tys v) a (tys v).length (a + 1) []).2) (hx true hm)
mutual
theorem flatV_sh (a : Nat) : ∀ (z : Rose VLab) (u s : Nat), u ≤ s → a + s + vcR z ≤ 1000000 → (flatV z ((a + u : Nat) : Int) (a + s)).map (shN a) = flatV z (u : Int) s
  | .node x ks, u, s, h1, h2 => by
    rw [vcR] at h2
    have hw : IntKind.i64.wrap (((a + u : Nat) : Int) - (a : Int)) = (u : Int) := by rw [wrap_id (by omega) (by omega)]; omega
    rw [flatV, flatV, List.map_cons, show a + s + 1 = a + (s + 1) by omega, flatK_sh a ks s (s + 1) (by omega) (by omega)]
    unfold shN
    dsimp only
    rw [hw]
theorem flatK_sh (a : Nat) : ∀ (ks : List (Rose VLab)) (s p : Nat), s ≤ p → a + p + vcL ks ≤ 1000000 → (flatK ks (a + s) (a + p)).map (shN a) = flatK ks s p
  | [], s, p, _, _ => by rw [flatK, flatK]; rfl
  | z :: ks, s, p, h1, h2 => by
    rw [vcL] at h2
    have hl1 := flatV_len z ((a + s : Nat) : Int) (a + p)
    have hl2 := flatV_len z (s : Int) p
    rw [flatK, flatK, List.map_append, flatV_sh a z s p h1 (by omega), hl1, hl2, show a + p + vcR z = a + (p + vcR z) by omega, flatK_sh a ks s (p + vcR z) (by omega) (by omega)]
end
theorem byV_mem {n : Int} {u : Rose VLab} : ∀ {us : List (Rose VLab)}, us.Pairwise VR → u ∈ us → u.lab.2.2.1 = n → byV n us = u ∧ hasVN n us = true
  | [], _, h, _ => by cases h
  | w :: us, hp, h, hn => by
    rw [List.pairwise_cons] at hp
    unfold hasVN
    rw [byV, List.any_cons]
    rcases List.mem_cons.1 h with e | h
    · subst e
      rw [if_pos hn, hn, beq_self_eq_true]
      exact ⟨rfl, rfl⟩
    · have : w.lab.2.2.1 < u.lab.2.2.1 := hp.1 u h
      rw [if_neg (by omega), beq_false_of_ne (by omega), Bool.false_or]
      exact byV_mem hp.2 h hn
theorem kids_rise {v : List Nd} {l : List Ty} (h : fitsB v l = true) : (v4L v 0).kids.Pairwise VR := by
  obtain ⟨hk, h0, h40, H, hs⟩ := fits_ord h
  have h5 := root_msg hk
  have e := H.end' (by rw [tys_len]; exact h0)
  have ht : v4L v 0 = cv (t2L (tys v) 0) := v4_cv _ 0 (Nat.le_refl _) h0
  have hus : (v4L v 0).kids = cvs (partsAt v 0 v[0].2.2.2.2.1).1 := by
    rw [ht, ← e.2, kf_at h0, cv]; rfl
  rw [ht, ← e.2, sfR_at h0, h5] at hs
  split at hs
  · cases hs
  rw [if_neg (by omega), if_neg (by omega), if_neg (by omega), if_neg (by omega), Bool.and_eq_true] at hs
  rw [hus]
  exact ((sfM_pw (t2L l 0).kids (cvs (partsAt v 0 v[0].2.2.2.2.1).1) [] List.Pairwise.nil).1 hs.1).2
/-- The two ways to get a part are one. -/
theorem get_eq (v : List Nd) (l : List Ty) (no : Int) : getB v l no = sgetB v l no ∧ (getB v l no = true → getL v l no = sgetL v no) := by
  unfold getB sgetB
  cases hv : fitsB v l with
  | false => exact ⟨rfl, fun h => by cases h⟩
  | true =>
    have hr := kids_rise hv
    obtain ⟨hk, h0, h40, H, hs⟩ := fits_ord hv
    have at' : 0 ≤ gnAt v no → hasVN no (v4L v 0).kids = true ∧ getL v l no = sgetL v no := fun hA => by
      obtain ⟨a, ha, ea, hu, hn⟩ := gn_at hA
      obtain ⟨_, _, hfit, _, _, hmem⟩ := kid_fits hv ha hu hn
      have hb := kf_bnd (tys v) a (by rw [tys_len]; exact ha)
      rw [tys_len] at hb
      have hc := kf_cnt (l := tys v) (a := a) (by rw [tys_len]; exact ha)
      have hlab := kf_lab ha
      obtain ⟨g1, g2⟩ := byV_mem hr hmem (show (cv (kf (tys v) a).1).lab.2.2.1 = no by rw [hlab]; exact hn)
      refine ⟨g2, ?_⟩
      unfold getL sgetL
      rw [ea, Int.toNat_natCast, hfit, Int.toNat_natCast, g1]
      have hf := flat_kf _ a (Nat.le_refl _) ha
      have hvc := vc_cv (kf (tys v) a).1
      have hck := vc_kids (cv (kf (tys v) a).1)
      have hz : ∀ (up : Int) (s : Nat), flatV (cv (kf (tys v) a).1) up s = ((v[a].1, v[a].2.1, v[a].2.2.1, up, v[a].2.2.2.2.1, ()) : Nd) :: flatK (cv (kf (tys v) a).1).kids s (s + 1) := fun up s => by
        have : cv (kf (tys v) a).1 = .node (v[a].1, v[a].2.1, v[a].2.2.1, v[a].2.2.2.2.1, ()) (cv (kf (tys v) a).1).kids := by
          rw [← hlab]; cases cv (kf (tys v) a).1; rfl
        conv => lhs; rw [this]
        rw [flatV]
      rw [hz] at hf
      unfold cutN at hf
      rw [← hf, partN]
      unfold flatO
      rw [hlab, flatV]
      have hsh := flatK_sh a (cv (kf (tys v) a).1).kids 0 1 (by omega) (by omega)
      rw [Nat.add_zero] at hsh
      rw [hsh]
    have back : hasVN no (v4L v 0).kids = true → 0 ≤ gnAt v no := fun hh => by
      unfold hasVN at hh
      rw [List.any_eq_true] at hh
      obtain ⟨u, hu, hn⟩ := hh
      have ht : v4L v 0 = cv (t2L (tys v) 0) := v4_cv _ 0 (Nat.le_refl _) h0
      rw [ht, t2_KK (by rw [tys_len]; exact h0), cv, cvs_map] at hu
      have hu : u ∈ List.map cv (List.map (t2L (tys v)) (KK (tys v) 0 (0 + 1) (tys v).length)) := hu
      rw [List.map_map, List.mem_map] at hu
      obtain ⟨c, hc, rfl⟩ := hu
      obtain ⟨⟨c1, c2⟩, c3⟩ := KK_mem.1 hc
      rw [tys_len] at c2
      have hB := blk_all H _ c (Nat.le_refl _) (by rw [tys_len]; exact c2)
      have hn : (cv (t2L (tys v) c)).lab.2.2.1 = no := by simpa using hn
      rw [← hB.tree, kf_lab c2] at hn
      rw [up_tys, upN_of c2] at c3
      have h1 := Option.some.inj c3
      have ha := firstP_any (fun z : Nd => z.2.2.2.1 == 0 && z.2.2.1 == no) v 0
      have : v.any (fun z : Nd => z.2.2.2.1 == 0 && z.2.2.1 == no) = true := List.any_eq_true.2 ⟨v[c], List.getElem_mem c2, by
        rw [Bool.and_eq_true, beq_iff_eq, beq_iff_eq]
        exact ⟨h1, hn⟩⟩
      rw [this] at ha
      exact of_decide_eq_true ha
    have he : decide (0 ≤ gnAt v no) = hasVN no (v4L v 0).kids := by
      rw [Bool.eq_iff_iff, decide_eq_true_eq]
      exact ⟨fun h => (at' h).1, back⟩
    refine ⟨by rw [he], fun h => ?_⟩
    simp only [Bool.and_eq_true, decide_eq_true_eq] at h
    exact (at' h.2.2.2).2
mutual
/-- The types of a tree, from a place on. -/
def typesL : Rose Lab → Int → Nat → List Ty
  | .node x ks, up, s => (x.1, x.2.1, x.2.2.1, x.2.2.2.1, up, x.2.2.2.2.1, ()) :: typesK ks s (s + 1)
def typesK : List (Rose Lab) → Nat → Nat → List Ty
  | [], _, _ => []
  | z :: ks, s, p => typesL z s p ++ typesK ks s (p + (typesL z s p).length)
end
def typesN (n : Nat) : List V → List Blk → Br (V × List (Option Blk))
  | [.tp (.pair (.int .i64) (.pair .str (.pair (.int .i64) (.pair .bool (.pair (.int .i64) .unit))))) z 0, .ref 0 0 m, .i .i64 up], [.row false _ (.pair (.int .i64) (.pair .str (.pair (.int .i64) (.pair .bool (.pair (.int .i64) (.pair (.int .i64) .unit)))))) o] => .need (decide (m = o.length ∧ o.length + cntR z ≤ 2000000 ∧ cntR z ≤ n)) (.leaf (.ref 1 0 (o ++ typesL z up o.length).length, [none, some (.row false none (.pair (.int .i64) (.pair .str (.pair (.int .i64) (.pair .bool (.pair (.int .i64) (.pair (.int .i64) .unit)))))) (o ++ typesL z up o.length))]))
  | _, _ => .no
def typesG : List V → List Blk → Br (V × List (Option Blk))
  | [.tp (.pair (.int .i64) (.pair .str (.pair (.int .i64) (.pair .bool (.pair (.int .i64) .unit))))) z 0, .ref 0 0 m, .i .i64 up], [.row false _ (.pair (.int .i64) (.pair .str (.pair (.int .i64) (.pair .bool (.pair (.int .i64) (.pair (.int .i64) .unit)))))) o] => .need (decide (m = o.length ∧ o.length + cntR z ≤ 2000000)) (.leaf (.ref 1 0 (o ++ typesL z up o.length).length, [none, some (.row false none (.pair (.int .i64) (.pair .str (.pair (.int .i64) (.pair .bool (.pair (.int .i64) (.pair (.int .i64) .unit)))))) (o ++ typesL z up o.length))]))
  | _, _ => .no
def typesE (n : Nat) : LoopEnt := ⟨52, [1,7,40,41,42], [1], [], fun
  | ([.ref 1 0 m, .i .i64 s, .sl (.tree (.pair (.int .i64) (.pair .str (.pair (.int .i64) (.pair .bool (.pair (.int .i64) .unit)))))) ks, .i .i64 k, .i .i64 i], [none, some (.row false none (.pair (.int .i64) (.pair .str (.pair (.int .i64) (.pair .bool (.pair (.int .i64) (.pair (.int .i64) .unit)))))) o)]) => .need (decide (m = o.length ∧ 0 ≤ i ∧ i.toNat ≤ ks.length ∧ k = ks.length ∧ 0 ≤ s ∧ o.length + cntL (ks.drop i.toNat) ≤ 2000000 ∧ cntL ks ≤ n ∧ cntL ks ≤ 2000000)) (.leaf (.exit 0, ([.ref 1 0 (o ++ typesK (ks.drop i.toNat) s.toNat o.length).length], [none, some (.row false none (.pair (.int .i64) (.pair .str (.pair (.int .i64) (.pair .bool (.pair (.int .i64) (.pair (.int .i64) .unit)))))) (o ++ typesK (ks.drop i.toNat) s.toNat o.length))])))
  | _ => .no⟩
def types0E : LoopEnt := ⟨52, [1,7,40,41,42], [1], [], fun
  | ([.ref 0 0 m, .i .i64 s, .sl (.tree (.pair (.int .i64) (.pair .str (.pair (.int .i64) (.pair .bool (.pair (.int .i64) .unit)))))) ks, .i .i64 k, .i .i64 i], [some (.row false none (.pair (.int .i64) (.pair .str (.pair (.int .i64) (.pair .bool (.pair (.int .i64) (.pair (.int .i64) .unit)))))) o)]) => .need (decide (m = o.length ∧ 0 ≤ i ∧ i.toNat ≤ ks.length ∧ k = ks.length ∧ 0 ≤ s ∧ o.length + cntL (ks.drop i.toNat) ≤ 2000000 ∧ cntL ks ≤ 2000000)) (.leaf (.exit 0, ([.ref 0 0 (o ++ typesK (ks.drop i.toNat) s.toNat o.length).length], [some (.row false none (.pair (.int .i64) (.pair .str (.pair (.int .i64) (.pair .bool (.pair (.int .i64) (.pair (.int .i64) .unit)))))) (o ++ typesK (ks.drop i.toNat) s.toNat o.length))])))
  | _ => .no⟩
def types0G : List V → List Blk → Br (V × List (Option Blk))
  | [.tp (.pair (.int .i64) (.pair .str (.pair (.int .i64) (.pair .bool (.pair (.int .i64) .unit))))) z 0, .nl, .i .i64 up], [] => .need (decide (cntR z ≤ 2000000)) (.leaf (.ref 0 0 (typesL z up 0).length, [some (.row false none (.pair (.int .i64) (.pair .str (.pair (.int .i64) (.pair .bool (.pair (.int .i64) (.pair (.int .i64) .unit)))))) (typesL z up 0))]))
  | _, _ => .no
def wholeG : List V → List Blk → Br (V × List (Option Blk))
  | [.tp (.pair (.int .i64) (.pair .str (.pair (.int .i64) (.pair .bool (.pair (.int .i64) .unit))))) z 0], [] => .leaf (.ptr 0 0, [some (.box [.i .i64 z.lab.1, .s [], .i .i64 0, .b false, .i .i64 z.lab.2.2.2.2.1, .sl (.tree (.pair (.int .i64) (.pair .str (.pair (.int .i64) (.pair .bool (.pair (.int .i64) .unit)))))) z.kids])])
  | _, _ => .no
mutual
theorem typesL_len : ∀ (z : Rose Lab) (up : Int) (s : Nat), (typesL z up s).length = cntR z
  | .node x ks, up, s => by rw [typesL, cntR, List.length_cons, typesK_len ks s (s + 1)]
theorem typesK_len : ∀ (ks : List (Rose Lab)) (s p : Nat), (typesK ks s p).length = cntL ks
  | [], _, _ => by rw [typesK, cntL]; rfl
  | z :: ks, s, p => by rw [typesK, cntL, List.length_append, typesL_len z s p, typesK_len ks s]
end
theorem typesL_eq (z : Rose Lab) (up : Int) (s : Nat) : typesL z up s = (z.lab.1, z.lab.2.1, z.lab.2.2.1, z.lab.2.2.2.1, up, z.lab.2.2.2.2.1, ()) :: typesK z.kids s (s + 1) := by cases z; rw [typesL]; rfl
theorem types_round (n : Nat) (m : Nat) (s : Int) (ks : List (Rose Lab)) (k i : Int) (o : List Ty) : roundK Try.prog (look [(127, .own (typesN n))]) (look [(4, typesE n)]) 1 (body Try.f127 0) (typesE n) ([.ref 1 0 m, .i .i64 s, .sl (.tree LCd) ks, .i .i64 k, .i .i64 i], [none, some (.row false none TCd o)]) =
  ((ifB (decide (i < k)) (ifT (decide ((0 : Int) ≤ i) && decide (i < (↑ks.length : Int))) (ifSome ks[i.toNat]? fun z => ifT (decide (m = o.length ∧ o.length + cntR z ≤
 (2000000 : Nat) ∧ cntR z ≤ n)) (some (Ex.normal, [V.ref 1 0 (o ++ typesL z s o.length).length, V.i .i64 s, V.sl LCd.tree ks, V.i .i64 k, V.i .i64 (IntKind.i64.wrap (i +
 (1 : Int)))], [none, some (Blk.row false none TCd (o ++ typesL z s o.length))])))) (some (Ex.exit 0, [V.ref 1 0 m], [none, some (Blk.row false none TCd o)]))) : _) := by kernel_rfl
theorem types_loop (n : Nat) (s : Nat) (ks : List (Rose Lab)) (h1 : cntL ks ≤ n) (h2 : cntL ks ≤ 2000000) : ∀ (j i : Nat) (o : List Ty), i + j = ks.length → o.length + cntL (ks.drop i) ≤ 2000000 →
    Runs Try.prog (look [(127, .own (typesN n))]) (look [(4, typesE n)]) 1 (body Try.f127 0) (typesE n) ([.ref 1 0 o.length, .i .i64 (s : Int), .sl (.tree LCd) ks, .i .i64 (ks.length : Int), .i .i64 (i : Int)], [none, some (.row false none TCd o)]) (.exit 0) ([.ref 1 0 (o ++ typesK (ks.drop i) s o.length).length], [none, some (.row false none TCd (o ++ typesK (ks.drop i) s o.length))])
  | 0, i, o, hi, ho => by
    have hr := types_round n o.length s ks ks.length i o
    rw [ifB_false (decide_eq_false (by omega))] at hr
    rw [List.drop_eq_nil_of_le (by omega), typesK, List.append_nil]
    exact .stop _ _ _ hr (by simp)
  | j + 1, i, o, hi, ho => by
    have hl : i < ks.length := by omega
    have hM : maxI = 9223372036854775807 := rfl
    have hlen := cnt_len ks
    have hmem := cnt_mem (List.getElem_mem hl)
    have hr := types_round n o.length s ks ks.length i o
    rw [List.drop_eq_getElem_cons hl, cntL] at ho
    rw [ifB_true (decide_eq_true (by omega)), ifT_true (by simp only [Bool.and_eq_true, decide_eq_true_eq]; omega), Int.toNat_natCast, List.getElem?_eq_getElem hl, ifSome_s, wrap_succ (n := i) (by omega), ifT_true (decide_eq_true ⟨rfl, by omega, by omega⟩)] at hr
    rw [List.drop_eq_getElem_cons hl, typesK]
    have hk := typesL_len ks[i] s o.length
    have ih := types_loop n s ks h1 h2 j (i + 1) (o ++ typesL ks[i] s o.length) (by omega) (by rw [List.length_append]; omega)
    rw [List.length_append, List.append_assoc] at ih
    rw [List.length_append] at hr
    exact .step _ _ _ _ hr ih
theorem types_ok (n : Nat) : LoopsOk Try.prog (look [(127, .own (typesN n))]) (look [(4, typesE n)]) 1 (Try.f127.body.getD .skip) := by
  refine loopsOk_one (a := body Try.f127 0) (by kernel_rfl) fun d ex d' h => ?_
  unfold typesE at h
  dsimp only at h
  split at h
  · rename_i m s ks k i o
    obtain ⟨hc, hx⟩ := need_some h
    clear h
    obtain ⟨rfl, h0, h1, rfl, h3, h4, h5, h6⟩ := of_decide_eq_true hc
    obtain ⟨i, rfl⟩ := Int.eq_ofNat_of_zero_le h0
    obtain ⟨s, rfl⟩ := Int.eq_ofNat_of_zero_le h3
    simp only [Int.toNat_natCast] at h1 h4 hx
    have h8 := leaf_some hx
    obtain ⟨rfl, rfl⟩ := Prod.mk.inj h8
    exact types_loop n s ks h5 h6 (ks.length - i) i o (by omega) h4
  · cases h
theorem types0_round (m : Nat) (s : Int) (ks : List (Rose Lab)) (k i : Int) (o : List Ty) : roundK Try.prog (look [(127, .own typesG)]) (look [(4, types0E)]) 0 (body Try.f127 0) types0E ([.ref 0 0 m, .i .i64 s, .sl (.tree LCd) ks, .i .i64 k, .i .i64 i], [some (.row false none TCd o)]) =
  ((ifB (decide (i < k)) (ifT (decide ((0 : Int) ≤ i) && decide (i < (↑ks.length : Int))) (ifSome ks[i.toNat]? fun z => ifT (decide (m = o.length ∧ o.length + cntR z ≤
 (2000000 : Nat))) (some (Ex.normal, [V.ref 0 0 (o ++ typesL z s o.length).length, V.i .i64 s, V.sl LCd.tree ks, V.i .i64 k, V.i .i64 (IntKind.i64.wrap (i + (1 : Int)))],
 [some (Blk.row false none TCd (o ++ typesL z s o.length))])))) (some (Ex.exit 0, [V.ref 0 0 m], [some (Blk.row false none TCd o)]))) : _) := by kernel_rfl
theorem types0_loop (s : Nat) (ks : List (Rose Lab)) (h2 : cntL ks ≤ 2000000) : ∀ (j i : Nat) (o : List Ty), i + j = ks.length → o.length + cntL (ks.drop i) ≤ 2000000 →
    Runs Try.prog (look [(127, .own typesG)]) (look [(4, types0E)]) 0 (body Try.f127 0) types0E ([.ref 0 0 o.length, .i .i64 (s : Int), .sl (.tree LCd) ks, .i .i64 (ks.length : Int), .i .i64 (i : Int)], [some (.row false none TCd o)]) (.exit 0) ([.ref 0 0 (o ++ typesK (ks.drop i) s o.length).length], [some (.row false none TCd (o ++ typesK (ks.drop i) s o.length))])
  | 0, i, o, hi, ho => by
    have hr := types0_round o.length s ks ks.length i o
    rw [ifB_false (decide_eq_false (by omega))] at hr
    rw [List.drop_eq_nil_of_le (by omega), typesK, List.append_nil]
    exact .stop _ _ _ hr (by simp)
  | j + 1, i, o, hi, ho => by
    have hl : i < ks.length := by omega
    have hM : maxI = 9223372036854775807 := rfl
    have hlen := cnt_len ks
    have hmem := cnt_mem (List.getElem_mem hl)
    have hr := types0_round o.length s ks ks.length i o
    rw [List.drop_eq_getElem_cons hl, cntL] at ho
    rw [ifB_true (decide_eq_true (by omega)), ifT_true (by simp only [Bool.and_eq_true, decide_eq_true_eq]; omega), Int.toNat_natCast, List.getElem?_eq_getElem hl, ifSome_s, wrap_succ (n := i) (by omega), ifT_true (decide_eq_true ⟨rfl, by omega⟩)] at hr
    rw [List.drop_eq_getElem_cons hl, typesK]
    have hk := typesL_len ks[i] s o.length
    have ih := types0_loop s ks h2 j (i + 1) (o ++ typesL ks[i] s o.length) (by omega) (by rw [List.length_append]; omega)
    rw [List.length_append, List.append_assoc] at ih
    rw [List.length_append] at hr
    exact .step _ _ _ _ hr ih
theorem types0_ok : LoopsOk Try.prog (look [(127, .own typesG)]) (look [(4, types0E)]) 0 (Try.f127.body.getD .skip) := by
  refine loopsOk_one (a := body Try.f127 0) (by kernel_rfl) fun d ex d' h => ?_
  unfold types0E at h
  dsimp only at h
  split at h
  · rename_i m s ks k i o
    obtain ⟨hc, hx⟩ := need_some h
    clear h
    obtain ⟨rfl, h0, h1, rfl, h3, h4, h6⟩ := of_decide_eq_true hc
    obtain ⟨i, rfl⟩ := Int.eq_ofNat_of_zero_le h0
    obtain ⟨s, rfl⟩ := Int.eq_ofNat_of_zero_le h3
    simp only [Int.toNat_natCast] at h1 h4 hx
    have h8 := leaf_some hx
    obtain ⟨rfl, rfl⟩ := Prod.mk.inj h8
    exact types0_loop s ks h6 (ks.length - i) i o (by omega) h4
  · cases h
theorem types_fun (n : Nat) (z : Rose Lab) (m : Nat) (up : Int) (nl : Option Bool) (o : List Ty) (hc : m = o.length ∧ o.length + cntR z ≤ 2000000 ∧ cntR z ≤ n + 1) : funN Try.prog (look [(127, .own (typesN n))]) (look [(4, typesE n)]) Try.f127 [.tp LCd z 0, .ref 0 0 m, .i .i64 up] [.row false nl TCd o] = some (.ref 1 0 (o ++ typesL z up o.length).length, [none, some (.row false none TCd (o ++ typesL z up o.length))]) := by
  have e : funN Try.prog (look [(127, .own (typesN n))]) (look [(4, typesE n)]) Try.f127 [.tp LCd z 0, .ref 0 0 m, .i .i64 up] [.row false nl TCd o] = ((ifT (decide ((m + (1 : Nat)) * (56 : Nat) ≤ (140737488355328 : Nat)) && decide (m + (1 : Nat) ≤ maxI)) (ifT (decide (m + (1 : Nat) = (List.take m (List.drop (0 : Nat) o)
 ++ (z.lab.fst, z.lab.snd.fst, z.lab.snd.snd.fst, z.lab.snd.snd.snd.fst, up, z.lab.snd.snd.snd.snd.fst, ()) :: nilT TCd.den).length ∧ (0 : Int) ≤ (0 : Int) ∧ (0 : Nat) ≤
 z.kids.length ∧ (↑z.kids.length : Int) = (↑z.kids.length : Int) ∧ (0 : Int) ≤ (↑m : Int) ∧ (List.take m (List.drop (0 : Nat) o) ++ (z.lab.fst, z.lab.snd.fst,
 z.lab.snd.snd.fst, z.lab.snd.snd.snd.fst, up, z.lab.snd.snd.snd.snd.fst, ()) :: nilT TCd.den).length + cntL (List.drop (0 : Nat) z.kids) ≤ (2000000 : Nat) ∧ cntL z.kids ≤
 n ∧ cntL z.kids ≤ (2000000 : Nat))) (some (V.ref 1 0 (List.take m (List.drop (0 : Nat) o) ++ (z.lab.fst, z.lab.snd.fst, z.lab.snd.snd.fst, z.lab.snd.snd.snd.fst, up,
 z.lab.snd.snd.snd.snd.fst, ()) :: nilT TCd.den ++ typesK (List.drop (0 : Nat) z.kids) (↑m : Int).toNat (List.take m (List.drop (0 : Nat) o) ++ (z.lab.fst, z.lab.snd.fst,
 z.lab.snd.snd.fst, z.lab.snd.snd.snd.fst, up, z.lab.snd.snd.snd.snd.fst, ()) :: nilT TCd.den).length).length, [none, some (Blk.row false none TCd (List.take m (List.drop
 (0 : Nat) o) ++ (z.lab.fst, z.lab.snd.fst, z.lab.snd.snd.fst, z.lab.snd.snd.snd.fst, up, z.lab.snd.snd.snd.snd.fst, ()) :: nilT TCd.den ++ typesK (List.drop (0 : Nat)
 z.kids) (↑m : Int).toNat (List.take m (List.drop (0 : Nat) o) ++ (z.lab.fst, z.lab.snd.fst, z.lab.snd.snd.fst, z.lab.snd.snd.snd.fst, up, z.lab.snd.snd.snd.snd.fst, ())
 :: nilT TCd.den).length))])))) : _) := by kernel_rfl
  rw [e]
  clear e
  obtain ⟨rfl, h2, h3⟩ := hc
  have hM : maxI = 9223372036854775807 := rfl
  have hck := cnt_kids z
  have hlen := cnt_len z.kids
  rw [show List.drop 0 o = o from rfl, show List.drop 0 z.kids = z.kids from rfl, List.take_length, Int.toNat_natCast, typesL_eq]
  rw [ifT_true (by simp only [Bool.and_eq_true, decide_eq_true_eq]; omega)]
  rw [ifT_true (decide_eq_true ⟨by simp [nilT_eq], by omega, by omega, rfl, by omega, by simp [nilT_eq]; omega, by omega, by omega⟩)]
  simp [nilT_eq]
theorem types0_fun (z : Rose Lab) (up : Int) (hc : cntR z ≤ 2000000) : funN Try.prog (look [(127, .own typesG)]) (look [(4, types0E)]) Try.f127 [.tp LCd z 0, .nl, .i .i64 up] [] = some (.ref 0 0 (typesL z up 0).length, [some (.row false none TCd (typesL z up 0))]) := by
  have e : funN Try.prog (look [(127, .own typesG)]) (look [(4, types0E)]) Try.f127 [.tp LCd z 0, .nl, .i .i64 up] [] = ((ifT (decide ((1 : Nat) = (1 : Nat) ∧ (0 : Int) ≤ (0 : Int) ∧ (0 : Nat) ≤ z.kids.length ∧ (↑z.kids.length : Int) = (↑z.kids.length : Int) ∧ (0 : Int) ≤ (0 : Int) ∧ (1 :
 Nat) + cntL (List.drop (0 : Nat) z.kids) ≤ (2000000 : Nat) ∧ cntL z.kids ≤ (2000000 : Nat))) (some (V.ref 0 0 ((z.lab.fst, z.lab.snd.fst, z.lab.snd.snd.fst,
 z.lab.snd.snd.snd.fst, up, z.lab.snd.snd.snd.snd.fst, ()) :: nilT TCd.den ++ typesK (List.drop (0 : Nat) z.kids) (0 : Nat) (1 : Nat)).length, [some (Blk.row false none
 TCd ((z.lab.fst, z.lab.snd.fst, z.lab.snd.snd.fst, z.lab.snd.snd.snd.fst, up, z.lab.snd.snd.snd.snd.fst, ()) :: nilT TCd.den ++ typesK (List.drop (0 : Nat) z.kids) (0 :
 Nat) (1 : Nat)))]))) : _) := by kernel_rfl
  rw [e]
  clear e
  have hck := cnt_kids z
  have hlen := cnt_len z.kids
  rw [show List.drop 0 z.kids = z.kids from rfl, typesL_eq]
  rw [ifT_true (decide_eq_true (by refine ⟨by trivial, by omega, by omega, by trivial, by omega, by omega, by omega⟩))]
  simp [nilT_eq]
theorem types_con : ∀ n, (∀ m, m < n → Contract Try.prog 127 (Ent.own (typesN m)).F) → Contract Try.prog 127 (Ent.own (typesN n)).F
  | 0, _ => contract_no fun vs bs => by
    unfold Ent.F typesN
    dsimp only
    split
    · rename_i z m up x o
      have : decide (m = o.length ∧ o.length + cntR z ≤ 2000000 ∧ cntR z ≤ 0) = false := decide_eq_false (by have := cnt_pos z; omega)
      rw [this]; rfl
    · rfl
  | n + 1, ih => by
    refine fun_contractN' (KnowsL.cons (enters_fn Try.func127 (by kernel_rfl) (by kernel_rfl)) (ih n (Nat.lt_succ_self n)) KnowsL.nil).knows (Λ := (look [(4, typesE n)])) Try.func127 (c := Try.f127.body.getD .skip) (by kernel_rfl) fun vs bs r hq hv hb => ?_
    unfold Ent.F typesN at hq
    dsimp only at hq
    split at hq
    · rename_i z m up nl o
      obtain ⟨hc, hx⟩ := need_some hq
      exact ⟨types_ok n, (types_fun n z m up nl o (of_decide_eq_true hc)).trans hx⟩
    · cases hq
theorem types : Contract Try.prog 127 (Ent.own typesG).F := by
  refine contract_rec (F := fun n => (Ent.own (typesN n)).F) types_con fun vs bs r h => ?_
  unfold Ent.F typesG at h
  dsimp only at h
  split at h
  · rename_i z m up nl o
    obtain ⟨hc, hx⟩ := need_some h
    refine ⟨cntR z, ?_⟩
    show (Br.need (decide (m = o.length ∧ o.length + cntR z ≤ 2000000 ∧ cntR z ≤ cntR z)) (.leaf (.ref 1 0 (o ++ typesL z up o.length).length, [none, some (.row false none TCd (o ++ typesL z up o.length))]))).run = some r
    obtain ⟨h1, h2⟩ := of_decide_eq_true hc
    have : decide (m = o.length ∧ o.length + cntR z ≤ 2000000 ∧ cntR z ≤ cntR z) = true := decide_eq_true ⟨h1, h2, Nat.le_refl _⟩
    rw [this]
    exact hx
  · cases h
theorem types0 : Contract Try.prog 127 (Ent.rd1 types0G).F := by
  refine fun_contractN' (KnowsL.cons (enters_fn Try.func127 (by kernel_rfl) (by kernel_rfl)) types KnowsL.nil).knows (Λ := (look [(4, types0E)])) Try.func127 (c := Try.f127.body.getD .skip) (by kernel_rfl) fun vs bs r hq hv hb => ?_
  unfold Ent.F types0G at hq
  dsimp only at hq
  split at hq
  · rename_i z up
    obtain ⟨hc, hx⟩ := need_some hq
    exact ⟨types0_ok, (types0_fun z up (of_decide_eq_true hc)).trans hx⟩
  · cases hq
/-- A type as a whole. -/
def wholeR (z : Rose Lab) : Rose Lab := .node (z.lab.1, [], 0, false, z.lab.2.2.2.2.1, ()) z.kids
def subZ (l : List Ty) (k : Int) : Rose Lab := wholeR (kf l k.toNat).1
def subB (l : List Ty) (k : Int) : Bool := kindB l && (decide (0 ≤ k ∧ k ≤ (l.length : Int) - 1) && ((labAt l k.toNat).1 == 5 && goodR (subZ l k)))
def subL (l : List Ty) (k : Int) : List Ty := typesL (subZ l k) (-1) 0
def schemaG : List V → List Blk → Br (V × List (Option Blk))
  | [.tp (.pair (.int .i64) (.pair .str (.pair (.int .i64) (.pair .bool (.pair (.int .i64) .unit))))) z 0], [] => .need (decide (cntR z ≤ 1000000 ∧ namR z = true)) (.br (goodR z) (.leaf (.tup [.agg [.ref 0 0 (typesL z (-1) 0).length], .b true], [some (.row false none (.pair (.int .i64) (.pair .str (.pair (.int .i64) (.pair .bool (.pair (.int .i64) (.pair (.int .i64) .unit)))))) (typesL z (-1) 0))])) (.leaf (.tup [.agg [.ref 0 0 0], .b false], [some (.row false none (.pair (.int .i64) (.pair .str (.pair (.int .i64) (.pair .bool (.pair (.int .i64) (.pair (.int .i64) .unit)))))) [])])))
  | _, _ => .no
def subG : List V → List Blk → Br (V × List (Option Blk))
  | [.agg [.sl (.pair (.int .i64) (.pair .str (.pair (.int .i64) (.pair .bool (.pair (.int .i64) (.pair (.int .i64) .unit)))))) l], .i .i64 k], [] => .need (decide (l.length ≤ 4000000000) && nmL l) (.br (subB l k) (.leaf (.tup [.agg [.ref 0 0 (subL l k).length], .b true], [some (.row false none (.pair (.int .i64) (.pair .str (.pair (.int .i64) (.pair .bool (.pair (.int .i64) (.pair (.int .i64) .unit)))))) (subL l k))])) (.leaf (.tup [.agg [.ref 0 0 0], .b false], [some (.row false none (.pair (.int .i64) (.pair .str (.pair (.int .i64) (.pair .bool (.pair (.int .i64) (.pair (.int .i64) .unit)))))) [])])))
  | _, _ => .no
theorem whole_tree (z : Rose Lab) : funN Try.prog (look []) (look []) Try.f68 [.tp LCd z 0] [] =
  ((some (V.ptr 0 0, [some (Blk.box [V.i .i64 z.lab.fst, V.s (nilT UInt8), V.i .i64 0, V.b false, V.i .i64 z.lab.snd.snd.snd.snd.fst, V.sl LCd.tree z.kids])])) : _) := by kernel_rfl
theorem schema_tree (z : Rose Lab) : funN Try.prog (look [(109, .rd1 kgoodG), (127, .rd1 types0G)]) (look []) Try.f69 [.tp LCd z 0] [] =
  ((ifT (decide (cntR z ≤ (1000000 : Nat) ∧ namR z = true)) (ifB (!goodR z) (some (V.tup [V.agg [V.ref 0 0 0], V.b false], [some (Blk.row false none TCd (nilT TCd.den))]))
 (ifT (decide (cntR z ≤ (2000000 : Nat))) (some (V.tup [V.agg [V.ref 0 0 (typesL z (-1 : Int) (0 : Nat)).length], V.b true], [some (Blk.row false none TCd (typesL z (-1 :
 Int) (0 : Nat)))]))))) : _) := by kernel_rfl
theorem sub_tree (l : List Ty) (k : Int) : funN Try.prog (look [(65, .rd1 gschG), (66, .rd1 withinG), (67, .rd1 kindFromG), (68, .rd1 wholeG), (69, .rd1 schemaG)]) (look []) Try.f15 [.agg [.sl TCd l], .i .i64 k] [] =
  ((ifT (decide (l.length ≤ (4000000000 : Nat)) && nmL l) (ifB (!kindB l) (some (V.tup [V.agg [V.ref 0 0 0], V.b false], [some (Blk.row false none TCd (nilT TCd.den))])) (ifB
 (!decide ((0 : Int) ≤ k ∧ k ≤ IntKind.i64.wrap ((↑l.length : Int) - (1 : Int)))) (some (V.tup [V.agg [V.ref 0 0 0], V.b false], [some (Blk.row false none TCd (nilT
 TCd.den))])) (ifT (decide ((0 : Int) ≤ k) && decide (k < (↑l.length : Int))) (ifSome l[k.toNat]? fun z => ifB (z.fst != (5 : Int)) (some (V.tup [V.agg [V.ref 0 0 0], V.b
 false], [some (Blk.row false none TCd (nilT TCd.den))])) (ifT (decide ((0 : Int) ≤ k ∧ k.toNat < l.length ∧ l.length ≤ (4000000000 : Nat))) (ifT (decide (cntR (Rose.node
 ((Rose.node ((kf l k.toNat).fst.lab.fst, (kf l k.toNat).fst.lab.snd.fst, (kf l k.toNat).fst.lab.snd.snd.fst, (kf l k.toNat).fst.lab.snd.snd.snd.fst, (kf l
 k.toNat).fst.lab.snd.snd.snd.snd.fst, ()) (List.take (kf l k.toNat).fst.kids.length (List.drop (0 : Nat) (kf l k.toNat).fst.kids))).lab.fst, nilT UInt8, (0 : Int), false,
 (Rose.node ((kf l k.toNat).fst.lab.fst, (kf l k.toNat).fst.lab.snd.fst, (kf l k.toNat).fst.lab.snd.snd.fst, (kf l k.toNat).fst.lab.snd.snd.snd.fst, (kf l
 k.toNat).fst.lab.snd.snd.snd.snd.fst, ()) (List.take (kf l k.toNat).fst.kids.length (List.drop (0 : Nat) (kf l k.toNat).fst.kids))).lab.snd.snd.snd.snd.fst, ())
 (Rose.node ((kf l k.toNat).fst.lab.fst, (kf l k.toNat).fst.lab.snd.fst, (kf l k.toNat).fst.lab.snd.snd.fst, (kf l k.toNat).fst.lab.snd.snd.snd.fst, (kf l
 k.toNat).fst.lab.snd.snd.snd.snd.fst, ()) (List.take (kf l k.toNat).fst.kids.length (List.drop (0 : Nat) (kf l k.toNat).fst.kids))).kids) ≤ (1000000 : Nat) ∧ namR
 (Rose.node ((Rose.node ((kf l k.toNat).fst.lab.fst, (kf l k.toNat).fst.lab.snd.fst, (kf l k.toNat).fst.lab.snd.snd.fst, (kf l k.toNat).fst.lab.snd.snd.snd.fst, (kf l
 k.toNat).fst.lab.snd.snd.snd.snd.fst, ()) (List.take (kf l k.toNat).fst.kids.length (List.drop (0 : Nat) (kf l k.toNat).fst.kids))).lab.fst, nilT UInt8, (0 : Int), false,
 (Rose.node ((kf l k.toNat).fst.lab.fst, (kf l k.toNat).fst.lab.snd.fst, (kf l k.toNat).fst.lab.snd.snd.fst, (kf l k.toNat).fst.lab.snd.snd.snd.fst, (kf l
 k.toNat).fst.lab.snd.snd.snd.snd.fst, ()) (List.take (kf l k.toNat).fst.kids.length (List.drop (0 : Nat) (kf l k.toNat).fst.kids))).lab.snd.snd.snd.snd.fst, ())
 (Rose.node ((kf l k.toNat).fst.lab.fst, (kf l k.toNat).fst.lab.snd.fst, (kf l k.toNat).fst.lab.snd.snd.fst, (kf l k.toNat).fst.lab.snd.snd.snd.fst, (kf l
 k.toNat).fst.lab.snd.snd.snd.snd.fst, ()) (List.take (kf l k.toNat).fst.kids.length (List.drop (0 : Nat) (kf l k.toNat).fst.kids))).kids) = true)) (ifB (goodR (Rose.node
 ((Rose.node ((kf l k.toNat).fst.lab.fst, (kf l k.toNat).fst.lab.snd.fst, (kf l k.toNat).fst.lab.snd.snd.fst, (kf l k.toNat).fst.lab.snd.snd.snd.fst, (kf l
 k.toNat).fst.lab.snd.snd.snd.snd.fst, ()) (List.take (kf l k.toNat).fst.kids.length (List.drop (0 : Nat) (kf l k.toNat).fst.kids))).lab.fst, nilT UInt8, (0 : Int), false,
 (Rose.node ((kf l k.toNat).fst.lab.fst, (kf l k.toNat).fst.lab.snd.fst, (kf l k.toNat).fst.lab.snd.snd.fst, (kf l k.toNat).fst.lab.snd.snd.snd.fst, (kf l
 k.toNat).fst.lab.snd.snd.snd.snd.fst, ()) (List.take (kf l k.toNat).fst.kids.length (List.drop (0 : Nat) (kf l k.toNat).fst.kids))).lab.snd.snd.snd.snd.fst, ())
 (Rose.node ((kf l k.toNat).fst.lab.fst, (kf l k.toNat).fst.lab.snd.fst, (kf l k.toNat).fst.lab.snd.snd.fst, (kf l k.toNat).fst.lab.snd.snd.snd.fst, (kf l
 k.toNat).fst.lab.snd.snd.snd.snd.fst, ()) (List.take (kf l k.toNat).fst.kids.length (List.drop (0 : Nat) (kf l k.toNat).fst.kids))).kids)) (some (V.tup [V.agg [V.ref 0 0
 (typesL (Rose.node ((Rose.node ((kf l k.toNat).fst.lab.fst, (kf l k.toNat).fst.lab.snd.fst, (kf l k.toNat).fst.lab.snd.snd.fst, (kf l k.toNat).fst.lab.snd.snd.snd.fst,
 (kf l k.toNat).fst.lab.snd.snd.snd.snd.fst, ()) (List.take (kf l k.toNat).fst.kids.length (List.drop (0 : Nat) (kf l k.toNat).fst.kids))).lab.fst, nilT UInt8, (0 : Int),
 false, (Rose.node ((kf l k.toNat).fst.lab.fst, (kf l k.toNat).fst.lab.snd.fst, (kf l k.toNat).fst.lab.snd.snd.fst, (kf l k.toNat).fst.lab.snd.snd.snd.fst, (kf l
 k.toNat).fst.lab.snd.snd.snd.snd.fst, ()) (List.take (kf l k.toNat).fst.kids.length (List.drop (0 : Nat) (kf l k.toNat).fst.kids))).lab.snd.snd.snd.snd.fst, ())
 (Rose.node ((kf l k.toNat).fst.lab.fst, (kf l k.toNat).fst.lab.snd.fst, (kf l k.toNat).fst.lab.snd.snd.fst, (kf l k.toNat).fst.lab.snd.snd.snd.fst, (kf l
 k.toNat).fst.lab.snd.snd.snd.snd.fst, ()) (List.take (kf l k.toNat).fst.kids.length (List.drop (0 : Nat) (kf l k.toNat).fst.kids))).kids) (-1 : Int) (0 : Nat)).length],
 V.b true], [some (Blk.row false none TCd (typesL (Rose.node ((Rose.node ((kf l k.toNat).fst.lab.fst, (kf l k.toNat).fst.lab.snd.fst, (kf l k.toNat).fst.lab.snd.snd.fst,
 (kf l k.toNat).fst.lab.snd.snd.snd.fst, (kf l k.toNat).fst.lab.snd.snd.snd.snd.fst, ()) (List.take (kf l k.toNat).fst.kids.length (List.drop (0 : Nat) (kf l
 k.toNat).fst.kids))).lab.fst, nilT UInt8, (0 : Int), false, (Rose.node ((kf l k.toNat).fst.lab.fst, (kf l k.toNat).fst.lab.snd.fst, (kf l k.toNat).fst.lab.snd.snd.fst,
 (kf l k.toNat).fst.lab.snd.snd.snd.fst, (kf l k.toNat).fst.lab.snd.snd.snd.snd.fst, ()) (List.take (kf l k.toNat).fst.kids.length (List.drop (0 : Nat) (kf l
 k.toNat).fst.kids))).lab.snd.snd.snd.snd.fst, ()) (Rose.node ((kf l k.toNat).fst.lab.fst, (kf l k.toNat).fst.lab.snd.fst, (kf l k.toNat).fst.lab.snd.snd.fst, (kf l
 k.toNat).fst.lab.snd.snd.snd.fst, (kf l k.toNat).fst.lab.snd.snd.snd.snd.fst, ()) (List.take (kf l k.toNat).fst.kids.length (List.drop (0 : Nat) (kf l
 k.toNat).fst.kids))).kids) (-1 : Int) (0 : Nat)))])) (some (V.tup [V.agg [V.ref 0 0 0], V.b false], [some (Blk.row false none TCd (nilT TCd.den))])))))))))) : _) := by kernel_rfl
theorem whole : Contract Try.prog 68 (Ent.rd1 wholeG).F := by
  refine fun_contractN' KnowsL.nil.knows (Λ := look []) Try.func68 (c := Try.f68.body.getD .skip) (by kernel_rfl) fun vs bs r hq hv hb => ?_
  unfold Ent.F wholeG at hq
  dsimp only at hq
  split at hq
  · rename_i z
    exact ⟨loopsOk_nil _, (whole_tree z).trans hq⟩
  · cases hq
theorem kschema : Contract Try.prog 69 (Ent.rd1 schemaG).F := by
  refine fun_contractN' (KnowsL.cons (enters_fn Try.func109 (by kernel_rfl) (by kernel_rfl)) kgood (KnowsL.cons (enters_fn Try.func127 (by kernel_rfl) (by kernel_rfl)) types0 KnowsL.nil)).knows (Λ := look []) Try.func69 (c := Try.f69.body.getD .skip) (by kernel_rfl) fun vs bs r hq hv hb => ?_
  unfold Ent.F schemaG at hq
  dsimp only at hq
  split at hq
  · rename_i z
    obtain ⟨hc, hx⟩ := need_some hq
    have h1 := of_decide_eq_true hc
    refine ⟨loopsOk_nil _, Eq.trans ?_ hx⟩
    rw [schema_tree, hc, ifT_t, ifT_true (decide_eq_true (show cntR z ≤ 2000000 by omega))]
    cases goodR z <;> rfl
  · cases hq
theorem whole_nl (z : Rose Lab) : Rose.node (z.lab.1, nilT UInt8, 0, false, z.lab.2.2.2.2.1, ()) z.kids = wholeR z := rfl
theorem subSchema : Contract Try.prog 15 (Ent.rd1 subG).F := by
  refine fun_contractN' (KnowsL.cons (enters_fn Try.func65 (by kernel_rfl) (by kernel_rfl)) igsch (KnowsL.cons (enters_fn Try.func66 (by kernel_rfl) (by kernel_rfl)) within (KnowsL.cons (enters_fn Try.func67 (by kernel_rfl) (by kernel_rfl)) kindFrom (KnowsL.cons (enters_fn Try.func68 (by kernel_rfl) (by kernel_rfl)) whole (KnowsL.cons (enters_fn Try.func69 (by kernel_rfl) (by kernel_rfl)) kschema KnowsL.nil))))).knows (Λ := look []) Try.func15 (c := Try.f15.body.getD .skip) (by kernel_rfl) fun vs bs r hq hv hb => ?_
  unfold Ent.F subG at hq
  dsimp only at hq
  split at hq
  · rename_i l k
    obtain ⟨hc, hx⟩ := need_some hq
    refine ⟨loopsOk_nil _, Eq.trans ?_ hx⟩
    have hd : subB l k = (kindB l && (decide (0 ≤ k ∧ k ≤ (l.length : Int) - 1) && ((labAt l k.toNat).1 == 5 && goodR (subZ l k)))) := rfl
    rw [sub_tree, hc, ifT_t, hd]
    cases hk : kindB l with
    | false => rfl
    | true =>
      rw [Bool.and_eq_true, decide_eq_true_eq] at hc
      have h30 : l.length ≤ 30 := by
        have h := hk
        unfold kindB at h
        simp only [Bool.and_eq_true, decide_eq_true_eq] at h
        omega
      have hw : IntKind.i64.wrap ((l.length : Int) - 1) = (l.length : Int) - 1 := wrap_id (by omega) (by omega)
      rw [hw, Bool.not_true, ifB_f]
      by_cases hr : 0 ≤ k ∧ k ≤ (l.length : Int) - 1
      · obtain ⟨k, rfl⟩ := Int.eq_ofNat_of_zero_le hr.1
        have hkl : k < l.length := by omega
        have hcn := kf_cnt hkl
        have hkb := kf_bnd l k hkl
        have hnm := kfr_nam hc.2 l.length k
        have hnm : namR (kf l k).1 = true := hnm
        have hcw : cntR (wholeR (kf l k).1) = cntR (kf l k).1 := by unfold wholeR; rw [cntR, cnt_kids]
        have hnw : namR (wholeR (kf l k).1) = true := by unfold wholeR; rw [namR, namR_kids hnm]; rfl
        rw [decide_eq_true hr, Bool.not_true, ifB_f, ifT_true (by simp only [Bool.and_eq_true, decide_eq_true_eq]; omega), Int.toNat_natCast, List.getElem?_eq_getElem hkl, ifSome_s, lab_at hkl]
        unfold bne
        cases h5 : l[k].1 == 5 with
        | false => rfl
        | true =>
          rw [Bool.not_true, ifB_f, ifT_true (decide_eq_true ⟨hr.1, hkl, hc.1⟩), rose_eta, whole_nl, ifT_true (decide_eq_true ⟨by omega, hnw⟩)]
          have hs : subZ l (k : Int) = wholeR (kf l k).1 := rfl
          have hL : subL l (k : Int) = typesL (wholeR (kf l k).1) (-1) 0 := rfl
          rw [hs, hL]
          cases goodR (wholeR (kf l k).1) <;> rfl
      · rw [decide_eq_false hr]; rfl
  · cases hq
def tflatN (n : Nat) : List V → List Blk → Br (V × List (Option Blk))
  | [.agg [.i .i64 y0, .s y1, .i .i64 y2, .b y3, .i .i64 y4, .sl (.rose (.pair (.int .i64) (.pair .str (.pair (.int .i64) (.pair .bool (.pair (.int .i64) .unit)))))) ys], .i .i64 up, .ref 0 0 m], [.row false _ (.pair (.int .i64) (.pair .str (.pair (.int .i64) (.pair .bool (.pair (.int .i64) (.pair (.int .i64) .unit)))))) o] => .need (decide (m = o.length ∧ o.length + cntL ys + 1 ≤ 2000000 ∧ cntL ys + 1 ≤ n)) (.leaf (.ref 1 0 (o ++ typesL (.node (y0, y1, y2, y3, y4, ()) ys) up o.length).length, [none, some (.row false none (.pair (.int .i64) (.pair .str (.pair (.int .i64) (.pair .bool (.pair (.int .i64) (.pair (.int .i64) .unit)))))) (o ++ typesL (.node (y0, y1, y2, y3, y4, ()) ys) up o.length))]))
  | _, _ => .no
def tflatG : List V → List Blk → Br (V × List (Option Blk))
  | [.agg [.i .i64 y0, .s y1, .i .i64 y2, .b y3, .i .i64 y4, .sl (.rose (.pair (.int .i64) (.pair .str (.pair (.int .i64) (.pair .bool (.pair (.int .i64) .unit)))))) ys], .i .i64 up, .ref 0 0 m], [.row false _ (.pair (.int .i64) (.pair .str (.pair (.int .i64) (.pair .bool (.pair (.int .i64) (.pair (.int .i64) .unit)))))) o] => .need (decide (m = o.length ∧ o.length + cntL ys + 1 ≤ 2000000)) (.leaf (.ref 1 0 (o ++ typesL (.node (y0, y1, y2, y3, y4, ()) ys) up o.length).length, [none, some (.row false none (.pair (.int .i64) (.pair .str (.pair (.int .i64) (.pair .bool (.pair (.int .i64) (.pair (.int .i64) .unit)))))) (o ++ typesL (.node (y0, y1, y2, y3, y4, ()) ys) up o.length))]))
  | _, _ => .no
def tflatE (n : Nat) : LoopEnt := ⟨40, [2,7,28,29,30], [2], [], fun
  | ([.ref 1 0 m, .i .i64 s, .sl (.rose (.pair (.int .i64) (.pair .str (.pair (.int .i64) (.pair .bool (.pair (.int .i64) .unit)))))) ks, .i .i64 k, .i .i64 i], [none, some (.row false none (.pair (.int .i64) (.pair .str (.pair (.int .i64) (.pair .bool (.pair (.int .i64) (.pair (.int .i64) .unit)))))) o)]) => .need (decide (m = o.length ∧ 0 ≤ i ∧ i.toNat ≤ ks.length ∧ k = ks.length ∧ 0 ≤ s ∧ o.length + cntL (ks.drop i.toNat) ≤ 2000000 ∧ cntL ks ≤ n ∧ cntL ks ≤ 2000000)) (.leaf (.exit 0, ([.ref 1 0 (o ++ typesK (ks.drop i.toNat) s.toNat o.length).length], [none, some (.row false none (.pair (.int .i64) (.pair .str (.pair (.int .i64) (.pair .bool (.pair (.int .i64) (.pair (.int .i64) .unit)))))) (o ++ typesK (ks.drop i.toNat) s.toNat o.length))])))
  | _ => .no⟩
def tflat0G : List V → List Blk → Br (V × List (Option Blk))
  | [.agg [.i .i64 y0, .s y1, .i .i64 y2, .b y3, .i .i64 y4, .sl (.rose (.pair (.int .i64) (.pair .str (.pair (.int .i64) (.pair .bool (.pair (.int .i64) .unit)))))) ys], .i .i64 up, .nl], [] => .need (decide (cntL ys + 1 ≤ 2000000)) (.leaf (.ref 0 0 (typesL (.node (y0, y1, y2, y3, y4, ()) ys) up 0).length, [some (.row false none (.pair (.int .i64) (.pair .str (.pair (.int .i64) (.pair .bool (.pair (.int .i64) (.pair (.int .i64) .unit)))))) (typesL (.node (y0, y1, y2, y3, y4, ()) ys) up 0))]))
  | _, _ => .no
def tflat0E : LoopEnt := ⟨40, [2,7,28,29,30], [2], [], fun
  | ([.ref 0 0 m, .i .i64 s, .sl (.rose (.pair (.int .i64) (.pair .str (.pair (.int .i64) (.pair .bool (.pair (.int .i64) .unit)))))) ks, .i .i64 k, .i .i64 i], [some (.row false none (.pair (.int .i64) (.pair .str (.pair (.int .i64) (.pair .bool (.pair (.int .i64) (.pair (.int .i64) .unit)))))) o)]) => .need (decide (m = o.length ∧ 0 ≤ i ∧ i.toNat ≤ ks.length ∧ k = ks.length ∧ 0 ≤ s ∧ o.length + cntL (ks.drop i.toNat) ≤ 2000000 ∧ cntL ks ≤ 2000000)) (.leaf (.exit 0, ([.ref 0 0 (o ++ typesK (ks.drop i.toNat) s.toNat o.length).length], [some (.row false none (.pair (.int .i64) (.pair .str (.pair (.int .i64) (.pair .bool (.pair (.int .i64) (.pair (.int .i64) .unit)))))) (o ++ typesK (ks.drop i.toNat) s.toNat o.length))])))
  | _ => .no⟩
def tellG : List V → List Blk → Br (V × List (Option Blk))
  | [.agg [.i .i64 y0, .s y1, .i .i64 y2, .b y3, .i .i64 y4, .sl (.rose (.pair (.int .i64) (.pair .str (.pair (.int .i64) (.pair .bool (.pair (.int .i64) .unit)))))) ys]], [] => .need (decide (cntL ys + 1 ≤ 2000000) && nmL (typesL (.node (y0, y1, y2, y3, y4, ()) ys) (-1) 0)) (.br (kindB (typesL (.node (y0, y1, y2, y3, y4, ()) ys) (-1) 0)) (.leaf (.tup [.agg [.ref 0 0 (typesL (.node (y0, y1, y2, y3, y4, ()) ys) (-1) 0).length], .b true], [some (.row false none (.pair (.int .i64) (.pair .str (.pair (.int .i64) (.pair .bool (.pair (.int .i64) (.pair (.int .i64) .unit)))))) (typesL (.node (y0, y1, y2, y3, y4, ()) ys) (-1) 0))])) (.leaf (.tup [.agg [.ref 0 0 0], .b false], [some (.row false none (.pair (.int .i64) (.pair .str (.pair (.int .i64) (.pair .bool (.pair (.int .i64) (.pair (.int .i64) .unit)))))) [])])))
  | _, _ => .no
def dschG (f : Cur → (List Ty) × Cur) : List V → List Blk → Br (V × List (Option Blk))
  | [.ptr 0 0], [.box [.sl (.int .u8) l, .i .i64 a, .i .u64 s]] => .need (decide ((Cur.mk l a s).good 80000000)) (.leaf (.agg [.ref 1 0 (f  (Cur.mk l a s)).1.length], [some (cB (f  (Cur.mk l a s)).2), some (.row false none (.pair (.int .i64) (.pair .str (.pair (.int .i64) (.pair .bool (.pair (.int .i64) (.pair (.int .i64) .unit)))))) (f  (Cur.mk l a s)).1)]))
  | _, _ => .no
theorem tflat_round (n m : Nat) (s : Int) (ks : List (Rose Lab)) (k i : Int) (o : List Ty) : roundK Try.prog (look [(194, .own (tflatN n))]) (look [(4, tflatE n)]) 1 (body Try.f194 0) (tflatE n) ([.ref 1 0 m, .i .i64 s, .sl (.rose LCd) ks, .i .i64 k, .i .i64 i], [none, some (.row false none TCd o)]) =
  ((ifB (decide (i < k)) (ifT (decide ((0 : Int) ≤ i) && decide (i < (↑ks.length : Int))) (ifSome ks[i.toNat]? fun z => ifT (decide (m = o.length ∧ o.length + cntL (Rose.kids
 z) + (1 : Nat) ≤ (2000000 : Nat) ∧ cntL (Rose.kids z) + (1 : Nat) ≤ n)) (some (Ex.normal, [V.ref 1 0 (o ++ typesL (Rose.node ((Rose.lab z).fst, (Rose.lab z).snd.fst,
 (Rose.lab z).snd.snd.fst, (Rose.lab z).snd.snd.snd.fst, (Rose.lab z).snd.snd.snd.snd.fst, ()) (Rose.kids z)) s o.length).length, V.i .i64 s, V.sl LCd.rose ks, V.i .i64 k,
 V.i .i64 (IntKind.i64.wrap (i + (1 : Int)))], [none, some (Blk.row false none TCd (o ++ typesL (Rose.node ((Rose.lab z).fst, (Rose.lab z).snd.fst, (Rose.lab
 z).snd.snd.fst, (Rose.lab z).snd.snd.snd.fst, (Rose.lab z).snd.snd.snd.snd.fst, ()) (Rose.kids z)) s o.length))])))) (some (Ex.exit 0, [V.ref 1 0 m], [none, some (Blk.row
 false none TCd o)]))) : _) := by kernel_rfl
theorem tflat_tree (n : Nat) (y0 : Int) (y1 : List UInt8) (y2 : Int) (y3 : Bool) (y4 : Int) (ys : List (Rose Lab)) (m : Nat) (up : Int) (nl : Option Bool) (o : List Ty) : funN Try.prog (look [(194, .own (tflatN n))]) (look [(4, tflatE n)]) Try.f194 [.agg [.i .i64 y0, .s y1, .i .i64 y2, .b y3, .i .i64 y4, .sl (.rose LCd) ys], .i .i64 up, .ref 0 0 m] [.row false nl TCd o] =
  ((ifT (decide ((m + (1 : Nat)) * (56 : Nat) ≤ (140737488355328 : Nat)) && decide (m + (1 : Nat) ≤ maxI)) (ifT (decide (m + (1 : Nat) = (List.take m (List.drop (0 : Nat) o)
 ++ (y0, y1, y2, y3, up, y4, ()) :: nilT TCd.den).length ∧ (0 : Int) ≤ (0 : Int) ∧ (0 : Nat) ≤ ys.length ∧ (↑ys.length : Int) = (↑ys.length : Int) ∧ (0 : Int) ≤ (↑m : Int)
 ∧ (List.take m (List.drop (0 : Nat) o) ++ (y0, y1, y2, y3, up, y4, ()) :: nilT TCd.den).length + cntL (List.drop (0 : Nat) ys) ≤ (2000000 : Nat) ∧ cntL ys ≤ n ∧ cntL ys ≤
 (2000000 : Nat))) (some (V.ref 1 0 (List.take m (List.drop (0 : Nat) o) ++ (y0, y1, y2, y3, up, y4, ()) :: nilT TCd.den ++ typesK (List.drop (0 : Nat) ys) (↑m :
 Int).toNat (List.take m (List.drop (0 : Nat) o) ++ (y0, y1, y2, y3, up, y4, ()) :: nilT TCd.den).length).length, [none, some (Blk.row false none TCd (List.take m
 (List.drop (0 : Nat) o) ++ (y0, y1, y2, y3, up, y4, ()) :: nilT TCd.den ++ typesK (List.drop (0 : Nat) ys) (↑m : Int).toNat (List.take m (List.drop (0 : Nat) o) ++ (y0,
 y1, y2, y3, up, y4, ()) :: nilT TCd.den).length))])))) : _) := by kernel_rfl
theorem tflat_loop (n s : Nat) (ks : List (Rose Lab)) (h1 : cntL ks ≤ n) (h2 : cntL ks ≤ 2000000) : ∀ (j i : Nat) (o : List Ty), i + j = ks.length → o.length + cntL (ks.drop i) ≤ 2000000 →
    Runs Try.prog (look [(194, .own (tflatN n))]) (look [(4, tflatE n)]) 1 (body Try.f194 0) (tflatE n) ([.ref 1 0 o.length, .i .i64 (s : Int), .sl (.rose LCd) ks, .i .i64 (ks.length : Int), .i .i64 (i : Int)], [none, some (.row false none TCd o)]) (.exit 0) ([.ref 1 0 (o ++ typesK (ks.drop i) s o.length).length], [none, some (.row false none TCd (o ++ typesK (ks.drop i) s o.length))])
  | 0, i, o, hi, ho => by
    have hr := tflat_round n o.length s ks ks.length i o
    rw [ifB_false (decide_eq_false (by omega))] at hr
    rw [List.drop_eq_nil_of_le (by omega), typesK, List.append_nil]
    exact .stop _ _ _ hr (by simp)
  | j + 1, i, o, hi, ho => by
    have hl : i < ks.length := by omega
    have hM : maxI = 9223372036854775807 := rfl
    have hlen := cnt_len ks
    have hmem := cnt_mem (List.getElem_mem hl)
    have hck := cnt_kids ks[i]
    have hr := tflat_round n o.length s ks ks.length i o
    rw [List.drop_eq_getElem_cons hl, cntL] at ho
    rw [ifB_true (decide_eq_true (by omega)), ifT_true (by simp only [Bool.and_eq_true, decide_eq_true_eq]; omega), Int.toNat_natCast, List.getElem?_eq_getElem hl, ifSome_s, wrap_succ (n := i) (by omega), rose_eta', ifT_true (decide_eq_true ⟨rfl, by omega, by omega⟩)] at hr
    rw [List.drop_eq_getElem_cons hl, typesK]
    have hk := typesL_len ks[i] s o.length
    have ih := tflat_loop n s ks h1 h2 j (i + 1) (o ++ typesL ks[i] s o.length) (by omega) (by rw [List.length_append]; omega)
    rw [List.length_append, List.append_assoc] at ih
    rw [List.length_append] at hr
    exact .step _ _ _ _ hr ih
theorem tflat_ok (n : Nat) : LoopsOk Try.prog (look [(194, .own (tflatN n))]) (look [(4, tflatE n)]) 1 (Try.f194.body.getD .skip) := by
  refine loopsOk_one (a := body Try.f194 0) (by kernel_rfl) fun d ex d' h => ?_
  unfold tflatE at h
  dsimp only at h
  split at h
  · rename_i m s ks k i o
    obtain ⟨hc, hx⟩ := need_some h
    clear h
    obtain ⟨rfl, h0, h1, rfl, h3, h4, h5, h6⟩ := of_decide_eq_true hc
    obtain ⟨i, rfl⟩ := Int.eq_ofNat_of_zero_le h0
    obtain ⟨s, rfl⟩ := Int.eq_ofNat_of_zero_le h3
    simp only [Int.toNat_natCast] at h1 h4 hx
    have h8 := leaf_some hx
    obtain ⟨rfl, rfl⟩ := Prod.mk.inj h8
    exact tflat_loop n s ks h5 h6 (ks.length - i) i o (by omega) h4
  · cases h
theorem tflatL_eq (y0 : Int) (y1 : List UInt8) (y2 : Int) (y3 : Bool) (y4 : Int) (ys : List (Rose Lab)) (up : Int) (s : Nat) : typesL (.node (y0, y1, y2, y3, y4, ()) ys) up s = (y0, y1, y2, y3, up, y4, ()) :: typesK ys s (s + 1) := by rw [typesL]
theorem tflat_fun (n : Nat) (y0 : Int) (y1 : List UInt8) (y2 : Int) (y3 : Bool) (y4 : Int) (ys : List (Rose Lab)) (m : Nat) (up : Int) (nl : Option Bool) (o : List Ty) (hc : m = o.length ∧ o.length + cntL ys + 1 ≤ 2000000 ∧ cntL ys + 1 ≤ n + 1) : funN Try.prog (look [(194, .own (tflatN n))]) (look [(4, tflatE n)]) Try.f194 [.agg [.i .i64 y0, .s y1, .i .i64 y2, .b y3, .i .i64 y4, .sl (.rose LCd) ys], .i .i64 up, .ref 0 0 m] [.row false nl TCd o] = some (.ref 1 0 (o ++ typesL (.node (y0, y1, y2, y3, y4, ()) ys) up o.length).length, [none, some (.row false none TCd (o ++ typesL (.node (y0, y1, y2, y3, y4, ()) ys) up o.length))]) := by
  rw [tflat_tree]
  obtain ⟨rfl, h2, h3⟩ := hc
  have hM : maxI = 9223372036854775807 := rfl
  have hlen := cnt_len ys
  rw [show List.drop 0 o = o from rfl, show List.drop 0 ys = ys from rfl, List.take_length, Int.toNat_natCast, tflatL_eq]
  rw [ifT_true (by simp only [Bool.and_eq_true, decide_eq_true_eq]; omega)]
  rw [ifT_true (decide_eq_true ⟨by simp [nilT_eq], by omega, by omega, rfl, by omega, by simp [nilT_eq]; omega, by omega, by omega⟩)]
  simp [nilT_eq]
theorem tflat_con : ∀ n, (∀ m, m < n → Contract Try.prog 194 (Ent.own (tflatN m)).F) → Contract Try.prog 194 (Ent.own (tflatN n)).F
  | 0, _ => contract_no fun vs bs => by
    unfold Ent.F tflatN
    dsimp only
    split
    · rename_i y0 y1 y2 y3 y4 ys up m x o
      have : decide (m = o.length ∧ o.length + cntL ys + 1 ≤ 2000000 ∧ cntL ys + 1 ≤ 0) = false := decide_eq_false (by omega)
      rw [this]; rfl
    · rfl
  | n + 1, ih => by
    refine fun_contractN' (KnowsL.cons (enters_fn Try.func194 (by kernel_rfl) (by kernel_rfl)) (ih n (Nat.lt_succ_self n)) KnowsL.nil).knows (Λ := (look [(4, tflatE n)])) Try.func194 (c := Try.f194.body.getD .skip) (by kernel_rfl) fun vs bs r hq hv hb => ?_
    unfold Ent.F tflatN at hq
    dsimp only at hq
    split at hq
    · rename_i y0 y1 y2 y3 y4 ys up m nl o
      obtain ⟨hc, hx⟩ := need_some hq
      exact ⟨tflat_ok n, (tflat_fun n y0 y1 y2 y3 y4 ys m up nl o (of_decide_eq_true hc)).trans hx⟩
    · cases hq
theorem tflat1 : Contract Try.prog 194 (Ent.own tflatG).F := by
  refine contract_rec (F := fun n => (Ent.own (tflatN n)).F) tflat_con fun vs bs r h => ?_
  unfold Ent.F tflatG at h
  dsimp only at h
  split at h
  · rename_i y0 y1 y2 y3 y4 ys up m nl o
    obtain ⟨hc, hx⟩ := need_some h
    refine ⟨cntL ys + 1, ?_⟩
    show (Br.need (decide (m = o.length ∧ o.length + cntL ys + 1 ≤ 2000000 ∧ cntL ys + 1 ≤ cntL ys + 1)) (.leaf (.ref 1 0 (o ++ typesL (.node (y0, y1, y2, y3, y4, ()) ys) up o.length).length, [none, some (.row false none TCd (o ++ typesL (.node (y0, y1, y2, y3, y4, ()) ys) up o.length))]))).run = some r
    obtain ⟨h1, h2⟩ := of_decide_eq_true hc
    have : decide (m = o.length ∧ o.length + cntL ys + 1 ≤ 2000000 ∧ cntL ys + 1 ≤ cntL ys + 1) = true := decide_eq_true ⟨h1, h2, Nat.le_refl _⟩
    rw [this]
    exact hx
  · cases h
theorem tflat0_round (m : Nat) (s : Int) (ks : List (Rose Lab)) (k i : Int) (o : List Ty) : roundK Try.prog (look [(194, .own tflatG)]) (look [(4, tflat0E)]) 0 (body Try.f194 0) tflat0E ([.ref 0 0 m, .i .i64 s, .sl (.rose LCd) ks, .i .i64 k, .i .i64 i], [some (.row false none TCd o)]) =
  ((ifB (decide (i < k)) (ifT (decide ((0 : Int) ≤ i) && decide (i < (↑ks.length : Int))) (ifSome ks[i.toNat]? fun z => ifT (decide (m = o.length ∧ o.length + cntL (Rose.kids
 z) + (1 : Nat) ≤ (2000000 : Nat))) (some (Ex.normal, [V.ref 0 0 (o ++ typesL (Rose.node ((Rose.lab z).fst, (Rose.lab z).snd.fst, (Rose.lab z).snd.snd.fst, (Rose.lab
 z).snd.snd.snd.fst, (Rose.lab z).snd.snd.snd.snd.fst, ()) (Rose.kids z)) s o.length).length, V.i .i64 s, V.sl LCd.rose ks, V.i .i64 k, V.i .i64 (IntKind.i64.wrap (i + (1
 : Int)))], [some (Blk.row false none TCd (o ++ typesL (Rose.node ((Rose.lab z).fst, (Rose.lab z).snd.fst, (Rose.lab z).snd.snd.fst, (Rose.lab z).snd.snd.snd.fst,
 (Rose.lab z).snd.snd.snd.snd.fst, ()) (Rose.kids z)) s o.length))])))) (some (Ex.exit 0, [V.ref 0 0 m], [some (Blk.row false none TCd o)]))) : _) := by kernel_rfl
theorem tflat0_tree (y0 : Int) (y1 : List UInt8) (y2 : Int) (y3 : Bool) (y4 : Int) (ys : List (Rose Lab)) (up : Int) : funN Try.prog (look [(194, .own tflatG)]) (look [(4, tflat0E)]) Try.f194 [.agg [.i .i64 y0, .s y1, .i .i64 y2, .b y3, .i .i64 y4, .sl (.rose LCd) ys], .i .i64 up, .nl] [] =
  ((ifT (decide ((1 : Nat) = (1 : Nat) ∧ (0 : Int) ≤ (0 : Int) ∧ (0 : Nat) ≤ ys.length ∧ (↑ys.length : Int) = (↑ys.length : Int) ∧ (0 : Int) ≤ (0 : Int) ∧ (1 : Nat) + cntL
 (List.drop (0 : Nat) ys) ≤ (2000000 : Nat) ∧ cntL ys ≤ (2000000 : Nat))) (some (V.ref 0 0 ((y0, y1, y2, y3, up, y4, ()) :: nilT TCd.den ++ typesK (List.drop (0 : Nat) ys)
 (0 : Nat) (1 : Nat)).length, [some (Blk.row false none TCd ((y0, y1, y2, y3, up, y4, ()) :: nilT TCd.den ++ typesK (List.drop (0 : Nat) ys) (0 : Nat) (1 : Nat)))]))) : _) := by kernel_rfl
theorem tflat0_loop (s : Nat) (ks : List (Rose Lab)) (h2 : cntL ks ≤ 2000000) : ∀ (j i : Nat) (o : List Ty), i + j = ks.length → o.length + cntL (ks.drop i) ≤ 2000000 →
    Runs Try.prog (look [(194, .own tflatG)]) (look [(4, tflat0E)]) 0 (body Try.f194 0) tflat0E ([.ref 0 0 o.length, .i .i64 (s : Int), .sl (.rose LCd) ks, .i .i64 (ks.length : Int), .i .i64 (i : Int)], [some (.row false none TCd o)]) (.exit 0) ([.ref 0 0 (o ++ typesK (ks.drop i) s o.length).length], [some (.row false none TCd (o ++ typesK (ks.drop i) s o.length))])
  | 0, i, o, hi, ho => by
    have hr := tflat0_round o.length s ks ks.length i o
    rw [ifB_false (decide_eq_false (by omega))] at hr
    rw [List.drop_eq_nil_of_le (by omega), typesK, List.append_nil]
    exact .stop _ _ _ hr (by simp)
  | j + 1, i, o, hi, ho => by
    have hl : i < ks.length := by omega
    have hM : maxI = 9223372036854775807 := rfl
    have hlen := cnt_len ks
    have hmem := cnt_mem (List.getElem_mem hl)
    have hck := cnt_kids ks[i]
    have hr := tflat0_round o.length s ks ks.length i o
    rw [List.drop_eq_getElem_cons hl, cntL] at ho
    rw [ifB_true (decide_eq_true (by omega)), ifT_true (by simp only [Bool.and_eq_true, decide_eq_true_eq]; omega), Int.toNat_natCast, List.getElem?_eq_getElem hl, ifSome_s, wrap_succ (n := i) (by omega), rose_eta', ifT_true (decide_eq_true ⟨rfl, by omega⟩)] at hr
    rw [List.drop_eq_getElem_cons hl, typesK]
    have hk := typesL_len ks[i] s o.length
    have ih := tflat0_loop s ks h2 j (i + 1) (o ++ typesL ks[i] s o.length) (by omega) (by rw [List.length_append]; omega)
    rw [List.length_append, List.append_assoc] at ih
    rw [List.length_append] at hr
    exact .step _ _ _ _ hr ih
theorem tflat0_ok : LoopsOk Try.prog (look [(194, .own tflatG)]) (look [(4, tflat0E)]) 0 (Try.f194.body.getD .skip) := by
  refine loopsOk_one (a := body Try.f194 0) (by kernel_rfl) fun d ex d' h => ?_
  unfold tflat0E at h
  dsimp only at h
  split at h
  · rename_i m s ks k i o
    obtain ⟨hc, hx⟩ := need_some h
    clear h
    obtain ⟨rfl, h0, h1, rfl, h3, h4, h6⟩ := of_decide_eq_true hc
    obtain ⟨i, rfl⟩ := Int.eq_ofNat_of_zero_le h0
    obtain ⟨s, rfl⟩ := Int.eq_ofNat_of_zero_le h3
    simp only [Int.toNat_natCast] at h1 h4 hx
    have h8 := leaf_some hx
    obtain ⟨rfl, rfl⟩ := Prod.mk.inj h8
    exact tflat0_loop s ks h6 (ks.length - i) i o (by omega) h4
  · cases h
theorem tflat0_fun (y0 : Int) (y1 : List UInt8) (y2 : Int) (y3 : Bool) (y4 : Int) (ys : List (Rose Lab)) (up : Int) (hc : cntL ys + 1 ≤ 2000000) : funN Try.prog (look [(194, .own tflatG)]) (look [(4, tflat0E)]) Try.f194 [.agg [.i .i64 y0, .s y1, .i .i64 y2, .b y3, .i .i64 y4, .sl (.rose LCd) ys], .i .i64 up, .nl] [] = some (.ref 0 0 (typesL (.node (y0, y1, y2, y3, y4, ()) ys) up 0).length, [some (.row false none TCd (typesL (.node (y0, y1, y2, y3, y4, ()) ys) up 0))]) := by
  rw [tflat0_tree]
  have hM : maxI = 9223372036854775807 := rfl
  have hlen := cnt_len ys
  rw [show List.drop 0 ys = ys from rfl, tflatL_eq]
  rw [ifT_true (decide_eq_true (by refine ⟨by trivial, by omega, by omega, by trivial, by omega, by omega, by omega⟩))]
  simp [nilT_eq]
theorem tflat0 : Contract Try.prog 194 (Ent.own tflat0G).F := by
  refine fun_contractN' (KnowsL.cons (enters_fn Try.func194 (by kernel_rfl) (by kernel_rfl)) tflat1 KnowsL.nil).knows (Λ := (look [(4, tflat0E)])) Try.func194 (c := Try.f194.body.getD .skip) (by kernel_rfl) fun vs bs r hq hv hb => ?_
  unfold Ent.F tflat0G at hq
  dsimp only at hq
  split at hq
  · rename_i y0 y1 y2 y3 y4 ys up
    obtain ⟨hc, hx⟩ := need_some hq
    exact ⟨tflat0_ok, (tflat0_fun y0 y1 y2 y3 y4 ys up (of_decide_eq_true hc)).trans hx⟩
  · cases hq
theorem tell_tree (y0 : Int) (y1 : List UInt8) (y2 : Int) (y3 : Bool) (y4 : Int) (ys : List (Rose Lab)) : funC Try.prog (look [(194, .own tflat0G), (50, .rd1 gschG)]) (look []) Try.f160 [.agg [.i .i64 y0, .s y1, .i .i64 y2, .b y3, .i .i64 y4, .sl (.rose LCd) ys]] [] =
  ((ifT (decide (cntL ys + (1 : Nat) ≤ (2000000 : Nat))) (ifT (decide ((List.take (typesL (Rose.node (y0, y1, y2, y3, y4, ()) ys) (-1 : Int) (0 : Nat)).length (List.drop (0 :
 Nat) (typesL (Rose.node (y0, y1, y2, y3, y4, ()) ys) (-1 : Int) (0 : Nat)))).length ≤ (4000000000 : Nat)) && nmL (List.take (typesL (Rose.node (y0, y1, y2, y3, y4, ())
 ys) (-1 : Int) (0 : Nat)).length (List.drop (0 : Nat) (typesL (Rose.node (y0, y1, y2, y3, y4, ()) ys) (-1 : Int) (0 : Nat))))) (ifB (!kindB (List.take (typesL (Rose.node
 (y0, y1, y2, y3, y4, ()) ys) (-1 : Int) (0 : Nat)).length (List.drop (0 : Nat) (typesL (Rose.node (y0, y1, y2, y3, y4, ()) ys) (-1 : Int) (0 : Nat))))) (some (V.tup
 [V.agg [V.ref 0 0 0], V.b false], [some (Blk.row false none TCd (nilT TCd.den))])) (some (V.tup [V.agg [V.ref 0 0 (typesL (Rose.node (y0, y1, y2, y3, y4, ()) ys) (-1 :
 Int) (0 : Nat)).length], V.b true], [some (Blk.row false none TCd (typesL (Rose.node (y0, y1, y2, y3, y4, ()) ys) (-1 : Int) (0 : Nat)))]))))) : _) := by kernel_rfl
mutual
theorem nm_typesL : ∀ (z : Rose Lab) (up : Int) (s : Nat), namR z = true → nmL (typesL z up s) = true
  | .node x ks, up, s, h => by
    rw [namR, Bool.and_eq_true] at h
    have := nm_typesK ks s (s + 1) h.2
    unfold nmL at this ⊢
    rw [typesL, List.all_cons, this, h.1]; rfl
theorem nm_typesK : ∀ (ks : List (Rose Lab)) (s p : Nat), namL ks = true → nmL (typesK ks s p) = true
  | [], _, _, _ => by rw [typesK]; rfl
  | z :: ks, s, p, h => by
    rw [namL, Bool.and_eq_true] at h
    have h1 := nm_typesL z s p h.1
    have h2 := nm_typesK ks s (p + (typesL z s p).length) h.2
    unfold nmL at h1 h2 ⊢
    rw [typesK, List.all_append, h1, h2]; rfl
end
theorem tell : Contract Try.prog 160 (Ent.rd1 tellG).F := by
  refine fun_contractC' (KnowsL.cons (enters_fn Try.func194 (by kernel_rfl) (by kernel_rfl)) tflat0 (KnowsL.cons (enters_fn Try.func50 (by kernel_rfl) (by kernel_rfl)) sgsch KnowsL.nil)).knows (Λ := look []) Try.func160 (c := Try.f160.body.getD .skip) (by kernel_rfl) fun vs bs r hq hv hb => ?_
  unfold Ent.F tellG at hq
  dsimp only at hq
  split at hq
  · rename_i y0 y1 y2 y3 y4 ys
    obtain ⟨hc, hx⟩ := need_some hq
    rw [Bool.and_eq_true] at hc
    obtain ⟨hc, hn⟩ := hc
    have hc := of_decide_eq_true hc
    refine ⟨loopsOk_nil _, Eq.trans ?_ hx⟩
    have hl := typesL_len (.node (y0, y1, y2, y3, y4, ()) ys) (-1) 0
    rw [cnt_kids, show (Rose.node (y0, y1, y2, y3, y4, ()) ys : Rose Lab).kids = ys from rfl] at hl
    rw [tell_tree, ifT_true (decide_eq_true hc), List.drop_zero, List.take_length, ifT_true (by rw [hn, decide_eq_true (by omega)]; rfl)]
    cases kindB (typesL (.node (y0, y1, y2, y3, y4, ()) ys) (-1) 0) <;> rfl
  · cases hq
theorem dsch_tree (g : Int → Cur → Rose Lab × Cur)  (l : List Int) (a s : Int) : funC Try.prog (look [(56, .own cpickG), (161, .own (dmsG g)), (160, .rd1 tellG)]) (look []) Try.f117 [.ptr 0 0] [.box [.sl (.int .u8) l, .i .i64 a, .i .u64 s]] =
  ((ifT (decide ((Cur.mk l a s).good (900000000 : Int))) (ifT (decide ((0 : Int) ≤ (Cur.mk l a s).pickV (4 : Int) ∧ (Cur.mk l a s).pickV (4 : Int) ≤ (3 : Int) ∧ ((Cur.mk l a
 s).pickC (4 : Int)).good (83000000 : Int))) (ifT (decide (cntL (List.take (g ((Cur.mk l a s).pickV (4 : Int)) ((Cur.mk l a s).pickC (4 : Int))).fst.kids.length (List.drop
 (0 : Nat) (g ((Cur.mk l a s).pickV (4 : Int)) ((Cur.mk l a s).pickC (4 : Int))).fst.kids)) + (1 : Nat) ≤ (2000000 : Nat)) && nmL (typesL (Rose.node ((g ((Cur.mk l a
 s).pickV (4 : Int)) ((Cur.mk l a s).pickC (4 : Int))).fst.lab.fst, (g ((Cur.mk l a s).pickV (4 : Int)) ((Cur.mk l a s).pickC (4 : Int))).fst.lab.snd.fst, (g ((Cur.mk l a
 s).pickV (4 : Int)) ((Cur.mk l a s).pickC (4 : Int))).fst.lab.snd.snd.fst, (g ((Cur.mk l a s).pickV (4 : Int)) ((Cur.mk l a s).pickC (4 : Int))).fst.lab.snd.snd.snd.fst,
 (g ((Cur.mk l a s).pickV (4 : Int)) ((Cur.mk l a s).pickC (4 : Int))).fst.lab.snd.snd.snd.snd.fst, ()) (List.take (g ((Cur.mk l a s).pickV (4 : Int)) ((Cur.mk l a
 s).pickC (4 : Int))).fst.kids.length (List.drop (0 : Nat) (g ((Cur.mk l a s).pickV (4 : Int)) ((Cur.mk l a s).pickC (4 : Int))).fst.kids))) (-1 : Int) (0 : Nat))) (ifB
 (kindB (typesL (Rose.node ((g ((Cur.mk l a s).pickV (4 : Int)) ((Cur.mk l a s).pickC (4 : Int))).fst.lab.fst, (g ((Cur.mk l a s).pickV (4 : Int)) ((Cur.mk l a s).pickC (4
 : Int))).fst.lab.snd.fst, (g ((Cur.mk l a s).pickV (4 : Int)) ((Cur.mk l a s).pickC (4 : Int))).fst.lab.snd.snd.fst, (g ((Cur.mk l a s).pickV (4 : Int)) ((Cur.mk l a
 s).pickC (4 : Int))).fst.lab.snd.snd.snd.fst, (g ((Cur.mk l a s).pickV (4 : Int)) ((Cur.mk l a s).pickC (4 : Int))).fst.lab.snd.snd.snd.snd.fst, ()) (List.take (g
 ((Cur.mk l a s).pickV (4 : Int)) ((Cur.mk l a s).pickC (4 : Int))).fst.kids.length (List.drop (0 : Nat) (g ((Cur.mk l a s).pickV (4 : Int)) ((Cur.mk l a s).pickC (4 :
 Int))).fst.kids))) (-1 : Int) (0 : Nat))) (some (V.agg [V.ref 1 0 (typesL (Rose.node ((g ((Cur.mk l a s).pickV (4 : Int)) ((Cur.mk l a s).pickC (4 : Int))).fst.lab.fst,
 (g ((Cur.mk l a s).pickV (4 : Int)) ((Cur.mk l a s).pickC (4 : Int))).fst.lab.snd.fst, (g ((Cur.mk l a s).pickV (4 : Int)) ((Cur.mk l a s).pickC (4 :
 Int))).fst.lab.snd.snd.fst, (g ((Cur.mk l a s).pickV (4 : Int)) ((Cur.mk l a s).pickC (4 : Int))).fst.lab.snd.snd.snd.fst, (g ((Cur.mk l a s).pickV (4 : Int)) ((Cur.mk l
 a s).pickC (4 : Int))).fst.lab.snd.snd.snd.snd.fst, ()) (List.take (g ((Cur.mk l a s).pickV (4 : Int)) ((Cur.mk l a s).pickC (4 : Int))).fst.kids.length (List.drop (0 :
 Nat) (g ((Cur.mk l a s).pickV (4 : Int)) ((Cur.mk l a s).pickC (4 : Int))).fst.kids))) (-1 : Int) (0 : Nat)).length], [some (Blk.box [V.sl (Cd.int .u8) (g ((Cur.mk l a
 s).pickV (4 : Int)) ((Cur.mk l a s).pickC (4 : Int))).snd.l, V.i .i64 (g ((Cur.mk l a s).pickV (4 : Int)) ((Cur.mk l a s).pickC (4 : Int))).snd.a, V.i .u64 (g ((Cur.mk l
 a s).pickV (4 : Int)) ((Cur.mk l a s).pickC (4 : Int))).snd.s]), some (Blk.row false none TCd (typesL (Rose.node ((g ((Cur.mk l a s).pickV (4 : Int)) ((Cur.mk l a
 s).pickC (4 : Int))).fst.lab.fst, (g ((Cur.mk l a s).pickV (4 : Int)) ((Cur.mk l a s).pickC (4 : Int))).fst.lab.snd.fst, (g ((Cur.mk l a s).pickV (4 : Int)) ((Cur.mk l a
 s).pickC (4 : Int))).fst.lab.snd.snd.fst, (g ((Cur.mk l a s).pickV (4 : Int)) ((Cur.mk l a s).pickC (4 : Int))).fst.lab.snd.snd.snd.fst, (g ((Cur.mk l a s).pickV (4 :
 Int)) ((Cur.mk l a s).pickC (4 : Int))).fst.lab.snd.snd.snd.snd.fst, ()) (List.take (g ((Cur.mk l a s).pickV (4 : Int)) ((Cur.mk l a s).pickC (4 : Int))).fst.kids.length
 (List.drop (0 : Nat) (g ((Cur.mk l a s).pickV (4 : Int)) ((Cur.mk l a s).pickC (4 : Int))).fst.kids))) (-1 : Int) (0 : Nat)))])) (some (V.agg [V.ref 1 0 1], [some
 (Blk.box [V.sl (Cd.int .u8) (g ((Cur.mk l a s).pickV (4 : Int)) ((Cur.mk l a s).pickC (4 : Int))).snd.l, V.i .i64 (g ((Cur.mk l a s).pickV (4 : Int)) ((Cur.mk l a
 s).pickC (4 : Int))).snd.a, V.i .u64 (g ((Cur.mk l a s).pickV (4 : Int)) ((Cur.mk l a s).pickC (4 : Int))).snd.s]), some (Blk.row false none TCd (((5 : Int), nilT UInt8,
 (0 : Int), false, (-1 : Int), (0 : Int), ()) :: nilT TCd.den))])))))) : _) := by kernel_rfl
theorem dsch_ex  (l : List Int) (a s : Int) (hc : (Cur.mk l a s).good 80000000) : Ex1 (funC Try.prog (look [(56, .own cpickG), (161, .own (dmsG dms_f)), (160, .rd1 tellG)]) (look []) Try.f117 [.ptr 0 0] [.box [.sl (.int .u8) l, .i .i64 a, .i .u64 s]]) (fun y : (List Ty) × Cur => ((.agg [.ref 1 0 y.1.length], [some (cB y.2), some (.row false none TCd y.1)]) : V × List (Option Blk))) (fun y => (∀ n, (Cur.mk l a s).good n → n ≤ 80000000 → y.2.good (n + 6250)) ∧ kindB y.1 = true ∧ nmL y.1 = true ∧ 1 ≤ y.1.length ∧ y.1.length ≤ 30) := by
  refine Ex1.of (dsch_tree dms_f  l a s) ?_
  have r4 := Cur.pickV_range (k := 4) hc (by omega)
  have g1 : (Cur.pickC (Cur.mk l a s) 4).good 83000000 := Cur.pk (Cur.good_mono hc (by omega))
  obtain ⟨p1, p2⟩ := dms_pr _ _ _ r4.1 (by omega) g1 (by omega)
  have p3 : ∀ n, (Cur.mk l a s).good n → n ≤ 80000000 → (dms_f ((Cur.mk l a s).pickV 4) ((Cur.mk l a s).pickC 4)).2.good (n + 6250) := fun n hn hm => Cur.good_mono (dms_pr _ _ _ r4.1 (by omega) (Cur.pickC_good hn) (by omega)).1 (by omega)
  have hnm := nm_typesL _ (-1) 0 p2.2
  have hcn := p2.1
  rw [cnt_kids] at hcn
  simp only [cB_fold, nilT_eq, List.drop_zero, List.take_length, rose_eta']
  refine Ex1.T (decide_eq_true (Cur.good_mono hc (by omega))) (Ex1.T (decide_eq_true ⟨r4.1, by omega, g1⟩) (Ex1.T (by rw [hnm, decide_eq_true (by omega)]; rfl) (Ex1.B (fun h => ?_) (fun h => ?_))))
  · have hk : 1 ≤ (typesL (dms_f ((Cur.mk l a s).pickV 4) ((Cur.mk l a s).pickC 4)).1 (-1) 0).length ∧ (typesL (dms_f ((Cur.mk l a s).pickV 4) ((Cur.mk l a s).pickC 4)).1 (-1) 0).length ≤ 30 := by
      have h := h
      unfold kindB at h
      simp only [Bool.and_eq_true, decide_eq_true_eq] at h
      exact h.1.1.1
    exact Ex1.P (_, _) rfl rfl ⟨p3, h, hnm, hk⟩
  · exact Ex1.P ([(5, [], 0, false, -1, 0, ())], _) rfl rfl ⟨p3, by show kindB [(5, [], 0, false, -1, 0, ())] = true; decide +kernel, by show nmL [(5, [], 0, false, -1, 0, ())] = true; decide +kernel, by simp, by simp⟩

theorem dsch_exf : ∃ f : Cur → (List Ty) × Cur, Contract Try.prog 117 (Ent.own (dschG f)).F ∧ ∀  (c : Cur), (c.good 80000000) → (∀ n, c.good n → n ≤ 80000000 → (f  c).2.good (n + 6250)) ∧ kindB (f  c).1 = true ∧ nmL (f  c).1 = true ∧ 1 ≤ (f  c).1.length ∧ (f  c).1.length ≤ 30 := by
  have ex := fun  (c : Cur) (hc : c.good 80000000) => dsch_ex  c.l c.a c.s hc
  classical
  refine ⟨fun  c => if h : c.good 80000000 then (ex  c h).choose else ([], c), ?_, fun  c hc => ?_⟩
  rotate_left
  · simp only [dif_pos hc]
    exact (ex  c hc).choose_spec.2
  refine fun_contractC' (KnowsL.cons (enters_fn Try.func56 (by kernel_rfl) (by kernel_rfl)) cpick (KnowsL.cons (enters_fn Try.func161 (by kernel_rfl) (by kernel_rfl)) dms_con (KnowsL.cons (enters_fn Try.func160 (by kernel_rfl) (by kernel_rfl)) tell KnowsL.nil))).knows (Λ := (look [])) Try.func117 (c := Try.f117.body.getD .skip) (by kernel_rfl) fun vs bs r hq hv hb => ?_
  unfold Ent.F dschG at hq
  dsimp only at hq
  split at hq
  · rename_i  l a s
    obtain ⟨hc, hx⟩ := need_some hq
    have hc := of_decide_eq_true hc
    refine ⟨loopsOk_nil _, ((ex  (Cur.mk l a s) hc).choose_spec.1).trans ?_⟩
    rw [dif_pos hc] at hx
    exact hx
  · cases hq
noncomputable def dsch_f : Cur → (List Ty) × Cur := dsch_exf.choose
theorem dsch_con : Contract Try.prog 117 (Ent.own (dschG dsch_f)).F := dsch_exf.choose_spec.1
theorem dsch_pr : ∀  (c : Cur), (c.good 80000000) → (∀ n, c.good n → n ≤ 80000000 → (dsch_f  c).2.good (n + 6250)) ∧ kindB (dsch_f  c).1 = true ∧ nmL (dsch_f  c).1 = true ∧ 1 ≤ (dsch_f  c).1.length ∧ (dsch_f  c).1.length ≤ 30 := dsch_exf.choose_spec.2
def dmayG (f : Cur → (List Ty) × Cur) : List V → List Blk → Br (V × List (Option Blk))
  | [.ptr 0 0], [.box [.sl (.int .u8) l, .i .i64 a, .i .u64 s]] => .need (decide ((Cur.mk l a s).good 70000000)) (.leaf (.agg [.ref 1 0 (f  (Cur.mk l a s)).1.length], [some (cB (f  (Cur.mk l a s)).2), some (.row false none (.pair (.int .i64) (.pair .str (.pair (.int .i64) (.pair .bool (.pair (.int .i64) (.pair (.int .i64) .unit)))))) (f  (Cur.mk l a s)).1)]))
  | _, _ => .no
def dgoodG (f : List Int → List Ty) : List V → List Blk → Br (V × List (Option Blk))
  | [.sl (.int .u8) l], [] => .need (decide ((Cur.mk l 0 0).good 0)) (.leaf (.agg [.ref 0 0 (f l).length], [some (.row false none (.pair (.int .i64) (.pair .str (.pair (.int .i64) (.pair .bool (.pair (.int .i64) (.pair (.int .i64) .unit)))))) (f l))]))
  | _, _ => .no
def ddefG (f : List Int → List Ty) : List V → List Blk → Br (V × List (Option Blk))
  | [.sl (.int .u8) l], [] => .need (decide ((Cur.mk l 0 0).good 0)) (.leaf (.agg [.ref 0 0 (f l).length], [some (.row false none (.pair (.int .i64) (.pair .str (.pair (.int .i64) (.pair .bool (.pair (.int .i64) (.pair (.int .i64) .unit)))))) (f l))]))
  | _, _ => .no
theorem nm_set {w : List Ty} {i : Nat} {z : Ty} (h : nmL w = true) (hz : z.2.1.length ≤ maxI) : nmL (w.set i z) = true := by
  unfold nmL at h ⊢
  rw [List.all_eq_true] at h ⊢
  intro x hx
  rcases List.mem_or_eq_of_mem_set hx with hx | rfl
  · exact h x hx
  · exact decide_eq_true hz
theorem nm_at {w : List Ty} {i : Nat} {z : Ty} (h : nmL w = true) (hz : w[i]? = some z) : z.2.1.length ≤ maxI := by
  unfold nmL at h
  exact of_decide_eq_true (List.all_eq_true.1 h z (List.mem_of_getElem? hz))
theorem getD_len {l : List (List UInt8)} {i n : Nat} (h : l.all (fun x => decide (x.length ≤ n)) = true) : (l.getD i []).length ≤ n := by
  rw [List.getD_eq_getElem?_getD]
  cases e : l[i]? with
  | none => simp
  | some x => exact of_decide_eq_true (List.all_eq_true.1 h x (List.mem_of_getElem? e))
theorem dmay_tree (f : Cur → List Ty × Cur)  (l : List Int) (a s : Int) : funC Try.prog (look [(117, .own (dschG f)), (85, .own coneG), (56, .own cpickG), (133, .own camongG), (137, .own cofG)]) (look []) Try.f108 [.ptr 0 0] [.box [.sl (.int .u8) l, .i .i64 a, .i .u64 s]] =
  ((ifT (decide ((Cur.mk l a s).good (80000000 : Int))) (ifT (decide ((f (Cur.mk l a s)).snd.good (900000000 : Int))) (ifB ((f (Cur.mk l a s)).snd.pickV (12 : Int) == (0 :
 Int)) (ifT (decide (((f (Cur.mk l a s)).snd.pickC (12 : Int)).good (900000000 : Int))) (ifT (decide ((((f (Cur.mk l a s)).snd.pickC (12 : Int)).pickC (↑(f (Cur.mk l a
 s)).fst.length : Int)).good (900000000 : Int))) (ifB ((((f (Cur.mk l a s)).snd.pickC (12 : Int)).pickC (↑(f (Cur.mk l a s)).fst.length : Int)).pickV (5 : Int) == (0 :
 Int)) (ifT (decide (((((f (Cur.mk l a s)).snd.pickC (12 : Int)).pickC (↑(f (Cur.mk l a s)).fst.length : Int)).pickC (5 : Int)).good (900000000 : Int))) (ifT (decide ((0 :
 Int) ≤ ((f (Cur.mk l a s)).snd.pickC (12 : Int)).pickV (↑(f (Cur.mk l a s)).fst.length : Int)) && decide (((f (Cur.mk l a s)).snd.pickC (12 : Int)).pickV (↑(f (Cur.mk l a
 s)).fst.length : Int) < (↑(f (Cur.mk l a s)).fst.length : Int))) (ifSome (f (Cur.mk l a s)).fst[(0 : Nat) + (((f (Cur.mk l a s)).snd.pickC (12 : Int)).pickV (↑(f (Cur.mk
 l a s)).fst.length : Int)).toNat]? fun z => some (V.agg [V.ref 1 0 (f (Cur.mk l a s)).fst.length], [some (Blk.box [V.sl (Cd.int .u8) (((((f (Cur.mk l a s)).snd.pickC (12
 : Int)).pickC (↑(f (Cur.mk l a s)).fst.length : Int)).pickC (5 : Int)).pickC (7 : Int)).l, V.i .i64 (((((f (Cur.mk l a s)).snd.pickC (12 : Int)).pickC (↑(f (Cur.mk l a
 s)).fst.length : Int)).pickC (5 : Int)).pickC (7 : Int)).a, V.i .u64 (((((f (Cur.mk l a s)).snd.pickC (12 : Int)).pickC (↑(f (Cur.mk l a s)).fst.length : Int)).pickC (5 :
 Int)).pickC (7 : Int)).s]), some (Blk.row false none TCd ((f (Cur.mk l a s)).fst.set ((0 : Nat) + (((f (Cur.mk l a s)).snd.pickC (12 : Int)).pickV (↑(f (Cur.mk l a
 s)).fst.length : Int)).toNat) (((((f (Cur.mk l a s)).snd.pickC (12 : Int)).pickC (↑(f (Cur.mk l a s)).fst.length : Int)).pickC (5 : Int)).pickV (7 : Int), z.snd.fst,
 z.snd.snd.fst, z.snd.snd.snd.fst, z.snd.snd.snd.snd.fst, z.snd.snd.snd.snd.snd.fst, ())))])))) (ifB ((((f (Cur.mk l a s)).snd.pickC (12 : Int)).pickC (↑(f (Cur.mk l a
 s)).fst.length : Int)).pickV (5 : Int) == (1 : Int)) (ifT (decide (((((f (Cur.mk l a s)).snd.pickC (12 : Int)).pickC (↑(f (Cur.mk l a s)).fst.length : Int)).pickC (5 :
 Int)).good (900000000 : Int))) (ifT (decide ((0 : Int) ≤ ((f (Cur.mk l a s)).snd.pickC (12 : Int)).pickV (↑(f (Cur.mk l a s)).fst.length : Int)) && decide (((f (Cur.mk l
 a s)).snd.pickC (12 : Int)).pickV (↑(f (Cur.mk l a s)).fst.length : Int) < (↑(f (Cur.mk l a s)).fst.length : Int))) (ifSome (f (Cur.mk l a s)).fst[(0 : Nat) + (((f
 (Cur.mk l a s)).snd.pickC (12 : Int)).pickV (↑(f (Cur.mk l a s)).fst.length : Int)).toNat]? fun z => some (V.agg [V.ref 1 0 (f (Cur.mk l a s)).fst.length], [some (Blk.box
 [V.sl (Cd.int .u8) (((((f (Cur.mk l a s)).snd.pickC (12 : Int)).pickC (↑(f (Cur.mk l a s)).fst.length : Int)).pickC (5 : Int)).pickC (4 : Int)).l, V.i .i64 (((((f (Cur.mk
 l a s)).snd.pickC (12 : Int)).pickC (↑(f (Cur.mk l a s)).fst.length : Int)).pickC (5 : Int)).pickC (4 : Int)).a, V.i .u64 (((((f (Cur.mk l a s)).snd.pickC (12 :
 Int)).pickC (↑(f (Cur.mk l a s)).fst.length : Int)).pickC (5 : Int)).pickC (4 : Int)).s]), some (Blk.row false none TCd ((f (Cur.mk l a s)).fst.set ((0 : Nat) + (((f
 (Cur.mk l a s)).snd.pickC (12 : Int)).pickV (↑(f (Cur.mk l a s)).fst.length : Int)).toNat) (z.fst, z.snd.fst, ((((f (Cur.mk l a s)).snd.pickC (12 : Int)).pickC (↑(f
 (Cur.mk l a s)).fst.length : Int)).pickC (5 : Int)).pickV (4 : Int), z.snd.snd.snd.fst, z.snd.snd.snd.snd.fst, z.snd.snd.snd.snd.snd.fst, ())))])))) (ifB ((((f (Cur.mk l
 a s)).snd.pickC (12 : Int)).pickC (↑(f (Cur.mk l a s)).fst.length : Int)).pickV (5 : Int) == (2 : Int)) (ifT (decide (((((f (Cur.mk l a s)).snd.pickC (12 : Int)).pickC
 (↑(f (Cur.mk l a s)).fst.length : Int)).pickC (5 : Int)).good (900000000 : Int))) (ifT (decide ((0 : Int) ≤ ((f (Cur.mk l a s)).snd.pickC (12 : Int)).pickV (↑(f (Cur.mk l
 a s)).fst.length : Int)) && decide (((f (Cur.mk l a s)).snd.pickC (12 : Int)).pickV (↑(f (Cur.mk l a s)).fst.length : Int) < (↑(f (Cur.mk l a s)).fst.length : Int)))
 (ifSome (f (Cur.mk l a s)).fst[(0 : Nat) + (((f (Cur.mk l a s)).snd.pickC (12 : Int)).pickV (↑(f (Cur.mk l a s)).fst.length : Int)).toNat]? fun z => some (V.agg [V.ref 1
 0 (f (Cur.mk l a s)).fst.length], [some (Blk.box [V.sl (Cd.int .u8) (((((f (Cur.mk l a s)).snd.pickC (12 : Int)).pickC (↑(f (Cur.mk l a s)).fst.length : Int)).pickC (5 :
 Int)).pickC (4 : Int)).l, V.i .i64 (((((f (Cur.mk l a s)).snd.pickC (12 : Int)).pickC (↑(f (Cur.mk l a s)).fst.length : Int)).pickC (5 : Int)).pickC (4 : Int)).a, V.i
 .u64 (((((f (Cur.mk l a s)).snd.pickC (12 : Int)).pickC (↑(f (Cur.mk l a s)).fst.length : Int)).pickC (5 : Int)).pickC (4 : Int)).s]), some (Blk.row false none TCd ((f
 (Cur.mk l a s)).fst.set ((0 : Nat) + (((f (Cur.mk l a s)).snd.pickC (12 : Int)).pickV (↑(f (Cur.mk l a s)).fst.length : Int)).toNat) (z.fst, z.snd.fst, z.snd.snd.fst,
 z.snd.snd.snd.fst, IntKind.i64.wrap (((((f (Cur.mk l a s)).snd.pickC (12 : Int)).pickC (↑(f (Cur.mk l a s)).fst.length : Int)).pickC (5 : Int)).pickV (4 : Int) - (1 :
 Int)), z.snd.snd.snd.snd.snd.fst, ())))])))) (ifB ((((f (Cur.mk l a s)).snd.pickC (12 : Int)).pickC (↑(f (Cur.mk l a s)).fst.length : Int)).pickV (5 : Int) == (3 : Int))
 (ifT (decide (((((f (Cur.mk l a s)).snd.pickC (12 : Int)).pickC (↑(f (Cur.mk l a s)).fst.length : Int)).pickC (5 : Int)).good (900000000 : Int) ∧ (1 : Nat) ≤ (3 : Nat) ∧
 (3 : Nat) ≤ (3 : Nat))) (ifT (decide ((0 : Int) ≤ ((f (Cur.mk l a s)).snd.pickC (12 : Int)).pickV (↑(f (Cur.mk l a s)).fst.length : Int)) && decide (((f (Cur.mk l a
 s)).snd.pickC (12 : Int)).pickV (↑(f (Cur.mk l a s)).fst.length : Int) < (↑(f (Cur.mk l a s)).fst.length : Int))) (ifSome (f (Cur.mk l a s)).fst[(0 : Nat) + (((f (Cur.mk
 l a s)).snd.pickC (12 : Int)).pickV (↑(f (Cur.mk l a s)).fst.length : Int)).toNat]? fun z => some (V.agg [V.ref 1 0 (f (Cur.mk l a s)).fst.length], [some (Blk.box [V.sl
 (Cd.int .u8) (((((f (Cur.mk l a s)).snd.pickC (12 : Int)).pickC (↑(f (Cur.mk l a s)).fst.length : Int)).pickC (5 : Int)).pickC (↑(3 : Nat) : Int)).l, V.i .i64 (((((f
 (Cur.mk l a s)).snd.pickC (12 : Int)).pickC (↑(f (Cur.mk l a s)).fst.length : Int)).pickC (5 : Int)).pickC (↑(3 : Nat) : Int)).a, V.i .u64 (((((f (Cur.mk l a
 s)).snd.pickC (12 : Int)).pickC (↑(f (Cur.mk l a s)).fst.length : Int)).pickC (5 : Int)).pickC (↑(3 : Nat) : Int)).s]), some (Blk.row false none TCd ((f (Cur.mk l a
 s)).fst.set ((0 : Nat) + (((f (Cur.mk l a s)).snd.pickC (12 : Int)).pickV (↑(f (Cur.mk l a s)).fst.length : Int)).toNat) (z.fst, z.snd.fst, z.snd.snd.fst,
 z.snd.snd.snd.fst, z.snd.snd.snd.snd.fst, ((-1 : Int) :: (20 : Int) :: (21 : Int) :: nilT (Cd.int .i64).den).getD ((0 : Nat) + (((((f (Cur.mk l a s)).snd.pickC (12 :
 Int)).pickC (↑(f (Cur.mk l a s)).fst.length : Int)).pickC (5 : Int)).pickV (↑(3 : Nat) : Int)).toNat) (0 : (Cd.int .i64).den), ())))])))) (ifT (decide (((((f (Cur.mk l a
 s)).snd.pickC (12 : Int)).pickC (↑(f (Cur.mk l a s)).fst.length : Int)).pickC (5 : Int)).good (900000000 : Int) ∧ (1 : Nat) ≤ (3 : Nat) ∧ (3 : Nat) ≤ (3 : Nat))) (ifT
 (decide ((0 : Int) ≤ ((f (Cur.mk l a s)).snd.pickC (12 : Int)).pickV (↑(f (Cur.mk l a s)).fst.length : Int)) && decide (((f (Cur.mk l a s)).snd.pickC (12 : Int)).pickV
 (↑(f (Cur.mk l a s)).fst.length : Int) < (↑(f (Cur.mk l a s)).fst.length : Int))) (ifSome (f (Cur.mk l a s)).fst[(0 : Nat) + (((f (Cur.mk l a s)).snd.pickC (12 :
 Int)).pickV (↑(f (Cur.mk l a s)).fst.length : Int)).toNat]? fun z => some (V.agg [V.ref 1 0 (f (Cur.mk l a s)).fst.length], [some (Blk.box [V.sl (Cd.int .u8) (((((f
 (Cur.mk l a s)).snd.pickC (12 : Int)).pickC (↑(f (Cur.mk l a s)).fst.length : Int)).pickC (5 : Int)).pickC (↑(3 : Nat) : Int)).l, V.i .i64 (((((f (Cur.mk l a
 s)).snd.pickC (12 : Int)).pickC (↑(f (Cur.mk l a s)).fst.length : Int)).pickC (5 : Int)).pickC (↑(3 : Nat) : Int)).a, V.i .u64 (((((f (Cur.mk l a s)).snd.pickC (12 :
 Int)).pickC (↑(f (Cur.mk l a s)).fst.length : Int)).pickC (5 : Int)).pickC (↑(3 : Nat) : Int)).s]), some (Blk.row false none TCd ((f (Cur.mk l a s)).fst.set ((0 : Nat) +
 (((f (Cur.mk l a s)).snd.pickC (12 : Int)).pickV (↑(f (Cur.mk l a s)).fst.length : Int)).toNat) (z.fst, (nilT UInt8 :: [(97 : UInt8)] :: [(65 : UInt8)] :: nilT
 Cd.str.den).getD ((0 : Nat) + (((((f (Cur.mk l a s)).snd.pickC (12 : Int)).pickC (↑(f (Cur.mk l a s)).fst.length : Int)).pickC (5 : Int)).pickV (↑(3 : Nat) : Int)).toNat)
 (nilT UInt8), z.snd.snd.fst, z.snd.snd.snd.fst, z.snd.snd.snd.snd.fst, z.snd.snd.snd.snd.snd.fst, ())))])))))))))) (some (V.agg [V.ref 1 0 (f (Cur.mk l a s)).fst.length],
 [some (Blk.box [V.sl (Cd.int .u8) ((f (Cur.mk l a s)).snd.pickC (12 : Int)).l, V.i .i64 ((f (Cur.mk l a s)).snd.pickC (12 : Int)).a, V.i .u64 ((f (Cur.mk l a
 s)).snd.pickC (12 : Int)).s]), some (Blk.row false none TCd (f (Cur.mk l a s)).fst)]))))) : _) := by kernel_rfl
theorem dmay_ex  (l : List Int) (a s : Int) (hc : (Cur.mk l a s).good 70000000) : Ex1 (funC Try.prog (look [(117, .own (dschG dsch_f)), (85, .own coneG), (56, .own cpickG), (133, .own camongG), (137, .own cofG)]) (look []) Try.f108 [.ptr 0 0] [.box [.sl (.int .u8) l, .i .i64 a, .i .u64 s]]) (fun y : (List Ty) × Cur => ((.agg [.ref 1 0 y.1.length], [some (cB y.2), some (.row false none TCd y.1)]) : V × List (Option Blk))) (fun y => (∀ n, (Cur.mk l a s).good n → n ≤ 70000000 → y.2.good (n + 6300)) ∧ nmL y.1 = true ∧ 1 ≤ y.1.length ∧ y.1.length ≤ 30) := by
  refine Ex1.of (dmay_tree dsch_f  l a s) ?_
  obtain ⟨p1, _, p3, p4, p5⟩ := dsch_pr (Cur.mk l a s) (Cur.good_mono hc (by omega))
  have g0 := Cur.good_mono hc (show (70000000 : Int) ≤ 80000000 by omega)
  have q1 := p1 70000000 hc (by omega)
  have p1 : ∀ n, (Cur.mk l a s).good n → n ≤ 70000000 → (dsch_f (Cur.mk l a s)).2.good (n + 6250) := fun n hn hm => p1 n hn (by omega)
  generalize dsch_f (Cur.mk l a s) = F at *
  obtain ⟨w, c⟩ := F
  dsimp only at *
  have hM : maxI = 9223372036854775807 := rfl
  have hr := Cur.pickV_range (c := c.pickC 12) (n := 70007000) (k := (w.length : Int)) (Cur.pk (Cur.good_mono q1 (by omega))) (by omega)
  have hi : ((c.pickC 12).pickV (w.length : Int)).toNat < w.length := by omega
  simp only [cB_fold, nilT_eq, List.drop_zero, List.take_length, Nat.zero_add]
  repeat' first
    | with_reducible refine Ex1.B (fun h => ?_) (fun h => ?_)
    | with_reducible refine Ex1.T ?_ ?_
    | with_reducible refine Ex1.S ⟨_, List.getElem?_eq_getElem hi⟩ fun z hz => ?_
  all_goals try simp only [cB_fold]
  all_goals first
    | exact decide_eq_true g0
    | (refine decide_eq_true ?_; (repeat with_reducible apply Cur.pk); exact Cur.good_mono q1 (by omega))
    | (refine decide_eq_true ⟨?_, by omega, by omega⟩; (repeat with_reducible apply Cur.pk); exact Cur.good_mono q1 (by omega))
    | (simp only [Bool.and_eq_true, decide_eq_true_eq]; exact ⟨hr.1, hr.2⟩)
    | exact Ex1.c _ rfl rfl ⟨fun n hn hm => by (repeat with_reducible apply Cur.pk); exact Cur.good_mono (p1 n hn hm) (by omega), p3, p4, p5⟩
    | exact Ex1.c (w.set _ (_, _, _, _, _, _, ())) rfl (by simp only [List.length_set]) ⟨fun n hn hm => by (repeat with_reducible apply Cur.pk); exact Cur.good_mono (p1 n hn hm) (by omega), nm_set p3 (show z.2.1.length ≤ maxI from nm_at p3 hz), by rw [List.length_set]; exact p4, by rw [List.length_set]; exact p5⟩
    | exact Ex1.c (w.set _ (_, _, _, _, _, _, ())) rfl (by simp only [List.length_set]) ⟨fun n hn hm => by (repeat with_reducible apply Cur.pk); exact Cur.good_mono (p1 n hn hm) (by omega), nm_set p3 (Nat.le_trans (getD_len (n := 1) (by decide +kernel)) (by omega)), by rw [List.length_set]; exact p4, by rw [List.length_set]; exact p5⟩

theorem dmay_exf : ∃ f : Cur → (List Ty) × Cur, Contract Try.prog 108 (Ent.own (dmayG f)).F ∧ ∀  (c : Cur), (c.good 70000000) → (∀ n, c.good n → n ≤ 70000000 → (f  c).2.good (n + 6300)) ∧ nmL (f  c).1 = true ∧ 1 ≤ (f  c).1.length ∧ (f  c).1.length ≤ 30 := by
  have ex := fun  (c : Cur) (hc : c.good 70000000) => dmay_ex  c.l c.a c.s hc
  classical
  refine ⟨fun  c => if h : c.good 70000000 then (ex  c h).choose else ([], c), ?_, fun  c hc => ?_⟩
  rotate_left
  · simp only [dif_pos hc]
    exact (ex  c hc).choose_spec.2
  refine fun_contractC' (KnowsL.cons (enters_fn Try.func117 (by kernel_rfl) (by kernel_rfl)) dsch_con (KnowsL.cons (enters_fn Try.func85 (by kernel_rfl) (by kernel_rfl)) cone (KnowsL.cons (enters_fn Try.func56 (by kernel_rfl) (by kernel_rfl)) cpick (KnowsL.cons (enters_fn Try.func133 (by kernel_rfl) (by kernel_rfl)) camong (KnowsL.cons (enters_fn Try.func137 (by kernel_rfl) (by kernel_rfl)) cof KnowsL.nil))))).knows (Λ := (look [])) Try.func108 (c := Try.f108.body.getD .skip) (by kernel_rfl) fun vs bs r hq hv hb => ?_
  unfold Ent.F dmayG at hq
  dsimp only at hq
  split at hq
  · rename_i  l a s
    obtain ⟨hc, hx⟩ := need_some hq
    have hc := of_decide_eq_true hc
    refine ⟨loopsOk_nil _, ((ex  (Cur.mk l a s) hc).choose_spec.1).trans ?_⟩
    rw [dif_pos hc] at hx
    exact hx
  · cases hq
noncomputable def dmay_f : Cur → (List Ty) × Cur := dmay_exf.choose
theorem dmay_con : Contract Try.prog 108 (Ent.own (dmayG dmay_f)).F := dmay_exf.choose_spec.1
theorem dmay_pr : ∀  (c : Cur), (c.good 70000000) → (∀ n, c.good n → n ≤ 70000000 → (dmay_f  c).2.good (n + 6300)) ∧ nmL (dmay_f  c).1 = true ∧ 1 ≤ (dmay_f  c).1.length ∧ (dmay_f  c).1.length ≤ 30 := dmay_exf.choose_spec.2
theorem dgood_tree (f : Cur → List Ty × Cur) (l : List Int) : funC Try.prog (look [(108, .own (dmayG f))]) (look []) Try.f47 [.sl (.int .u8) l] [] =
  ((ifT (decide ((Cur.mk l (0 : Int) (0 : Int)).good (70000000 : Int))) (some (V.agg [V.ref 0 0 (f (Cur.mk l (0 : Int) (0 : Int))).fst.length], [some (Blk.row false none TCd
 (f (Cur.mk l (0 : Int) (0 : Int))).fst)]))) : _) := by kernel_rfl
noncomputable def dgood_f (l : List Int) : List Ty := (dmay_f (Cur.mk l 0 0)).1
theorem dgood_con : Contract Try.prog 47 (Ent.rd1 (dgoodG dgood_f)).F := by
  refine fun_contractC' (KnowsL.cons (enters_fn Try.func108 (by kernel_rfl) (by kernel_rfl)) dmay_con KnowsL.nil).knows (Λ := look []) Try.func47 (c := Try.f47.body.getD .skip) (by kernel_rfl) fun vs bs r hq hv hb => ?_
  unfold Ent.F dgoodG at hq
  dsimp only at hq
  split at hq
  · rename_i l
    obtain ⟨hc, hx⟩ := need_some hq
    have hc := of_decide_eq_true hc
    refine ⟨loopsOk_nil _, Eq.trans ?_ hx⟩
    refine (dgood_tree _ l).trans ?_
    rw [ifT_true (decide_eq_true (Cur.good_mono hc (by omega)))]
    rfl
  · cases hq
theorem dgood_pr : ∀ l, (Cur.mk l 0 0).good 0 → nmL (dgood_f l) = true ∧ 1 ≤ (dgood_f l).length ∧ (dgood_f l).length ≤ 30 := fun l h => (dmay_pr (Cur.mk l 0 0) (Cur.good_mono h (by omega))).2
theorem ddef_tree (f : List Int → List Ty) (l : List Int) : funC Try.prog (look [(47, .rd1 (dgoodG f))]) (look []) Try.f7 [.sl (.int .u8) l] [] =
  ((ifT (decide ((Cur.mk l (0 : Int) (0 : Int)).good (0 : Int))) (some (V.agg [V.ref 0 0 (f l).length], [some (Blk.row false none TCd (f l))]))) : _) := by kernel_rfl
noncomputable def ddef_f (l : List Int) : List Ty := dgood_f l
theorem ddef_con : Contract Try.prog 7 (Ent.rd1 (ddefG ddef_f)).F := by
  refine fun_contractC' (KnowsL.cons (enters_fn Try.func47 (by kernel_rfl) (by kernel_rfl)) dgood_con KnowsL.nil).knows (Λ := look []) Try.func7 (c := Try.f7.body.getD .skip) (by kernel_rfl) fun vs bs r hq hv hb => ?_
  unfold Ent.F ddefG at hq
  dsimp only at hq
  split at hq
  · rename_i l
    obtain ⟨hc, hx⟩ := need_some hq
    have hc := of_decide_eq_true hc
    refine ⟨loopsOk_nil _, Eq.trans ?_ hx⟩
    refine (ddef_tree _ l).trans ?_
    rw [ifT_true (decide_eq_true hc)]
    rfl
  · cases hq
theorem ddef_pr : ∀ l, (Cur.mk l 0 0).good 0 → nmL (ddef_f l) = true ∧ 1 ≤ (ddef_f l).length ∧ (ddef_f l).length ≤ 30 := fun l h => dgood_pr l h
def dnumG (f : Cur → (Int) × Cur) : List V → List Blk → Br (V × List (Option Blk))
  | [.ptr 0 0], [.box [.sl (.int .u8) l, .i .i64 a, .i .u64 s]] => .need (decide ((Cur.mk l a s).good 80000000)) (.leaf (.i .i64 (f  (Cur.mk l a s)).1, [some (cB (f  (Cur.mk l a s)).2)]))
  | _, _ => .no
theorem getD_all {l : List Int} {i : Nat} {a b : Int} (h : l.all (fun x => decide (a ≤ x ∧ x ≤ b)) = true) (h0 : a ≤ 0 ∧ 0 ≤ b) : a ≤ l.getD i 0 ∧ l.getD i 0 ≤ b := by
  rw [List.getD_eq_getElem?_getD]
  cases e : l[i]? with
  | none => exact h0
  | some x => exact of_decide_eq_true (List.all_eq_true.1 h x (List.mem_of_getElem? e))
theorem dnum_tree   (l : List Int) (a s : Int) : funC Try.prog (look [(56, .own cpickG), (133, .own camongG)]) (look []) Try.f163 [.ptr 0 0] [.box [.sl (.int .u8) l, .i .i64 a, .i .u64 s]] =
  ((ifT (decide ((Cur.mk l a s).good (900000000 : Int))) (ifB ((Cur.mk l a s).pickV (6 : Int) == (0 : Int)) (ifT (decide (((Cur.mk l a s).pickC (6 : Int)).good (900000000 :
 Int) ∧ (1 : Nat) ≤ (10 : Nat) ∧ (10 : Nat) ≤ (10 : Nat))) (some (V.i .i64 (((-1000000001 : Int) :: (-1000000000 : Int) :: (-1 : Int) :: (0 : Int) :: (63 : Int) :: (64 :
 Int) :: (-64 : Int) :: (-65 : Int) :: (1000000000 : Int) :: (1000000001 : Int) :: nilT (Cd.int .i64).den).getD ((0 : Nat) + (((Cur.mk l a s).pickC (6 : Int)).pickV (↑(10
 : Nat) : Int)).toNat) (0 : (Cd.int .i64).den)), [some (Blk.box [V.sl (Cd.int .u8) (((Cur.mk l a s).pickC (6 : Int)).pickC (↑(10 : Nat) : Int)).l, V.i .i64 (((Cur.mk l a
 s).pickC (6 : Int)).pickC (↑(10 : Nat) : Int)).a, V.i .u64 (((Cur.mk l a s).pickC (6 : Int)).pickC (↑(10 : Nat) : Int)).s])]))) (ifB ((Cur.mk l a s).pickV (6 : Int) == (1
 : Int)) (ifT (decide (((Cur.mk l a s).pickC (6 : Int)).good (900000000 : Int))) (some (V.i .i64 (IntKind.i64.wrap (((Cur.mk l a s).pickC (6 : Int)).pickV (100000 : Int) -
 (50000 : Int))), [some (Blk.box [V.sl (Cd.int .u8) (((Cur.mk l a s).pickC (6 : Int)).pickC (100000 : Int)).l, V.i .i64 (((Cur.mk l a s).pickC (6 : Int)).pickC (100000 :
 Int)).a, V.i .u64 (((Cur.mk l a s).pickC (6 : Int)).pickC (100000 : Int)).s])]))) (ifT (decide (((Cur.mk l a s).pickC (6 : Int)).good (900000000 : Int))) (some (V.i .i64
 (IntKind.i64.wrap (((Cur.mk l a s).pickC (6 : Int)).pickV (20 : Int) - (5 : Int))), [some (Blk.box [V.sl (Cd.int .u8) (((Cur.mk l a s).pickC (6 : Int)).pickC (20 :
 Int)).l, V.i .i64 (((Cur.mk l a s).pickC (6 : Int)).pickC (20 : Int)).a, V.i .u64 (((Cur.mk l a s).pickC (6 : Int)).pickC (20 : Int)).s])])))))) : _) := by kernel_rfl
theorem dnum_ex  (l : List Int) (a s : Int) (hc : (Cur.mk l a s).good 80000000) : Ex1 (funC Try.prog (look [(56, .own cpickG), (133, .own camongG)]) (look []) Try.f163 [.ptr 0 0] [.box [.sl (.int .u8) l, .i .i64 a, .i .u64 s]]) (fun y : (Int) × Cur => ((.i .i64 y.1, [some (cB y.2)]) : V × List (Option Blk))) (fun y => (∀ n, (Cur.mk l a s).good n → n ≤ 80000000 → y.2.good (n + 8)) ∧ (-2000000000 ≤ y.1 ∧ y.1 ≤ 2000000000)) := by
  refine Ex1.of (dnum_tree   l a s) ?_
  have r1 := fun {c : Cur} {k : Int} (h : c.good 80000100) (hk : 1 ≤ k) => Cur.pickV_range (c := c) (n := 80000100) (k := k) h hk
  have ra := r1 (c := ((Cur.mk l a s).pickC 6)) (k := 100000) (Cur.pk (Cur.good_mono hc (by omega))) (by omega)
  have rb := r1 (c := ((Cur.mk l a s).pickC 6)) (k := 20) (Cur.pk (Cur.good_mono hc (by omega))) (by omega)
  simp only [cB_fold, nilT_eq, List.drop_zero, List.take_length, Nat.zero_add]
  rw [wrap_id (n := ((Cur.mk l a s).pickC 6).pickV 100000 - 50000) (by omega) (by omega), wrap_id (n := ((Cur.mk l a s).pickC 6).pickV 20 - 5) (by omega) (by omega)]
  repeat' first
    | with_reducible refine Ex1.B (fun h => ?_) (fun h => ?_)
    | with_reducible refine Ex1.T ?_ ?_
  all_goals first
    | (refine decide_eq_true ?_; (repeat with_reducible apply Cur.pk); exact Cur.good_mono hc (by omega))
    | (refine decide_eq_true ⟨?_, by omega, by omega⟩; (repeat with_reducible apply Cur.pk); exact Cur.good_mono hc (by omega))
    | refine Ex1.c _ rfl rfl ⟨fun n hn hm => by (repeat with_reducible apply Cur.pk); exact Cur.good_mono hn (by omega), ?_⟩
  all_goals first
    | omega
    | exact getD_all (by decide +kernel) (by omega)
theorem dnum_exf : ∃ f : Cur → (Int) × Cur, Contract Try.prog 163 (Ent.own (dnumG f)).F ∧ ∀  (c : Cur), (c.good 80000000) → (∀ n, c.good n → n ≤ 80000000 → (f  c).2.good (n + 8)) ∧ (-2000000000 ≤ (f  c).1 ∧ (f  c).1 ≤ 2000000000) := by
  have ex := fun  (c : Cur) (hc : c.good 80000000) => dnum_ex  c.l c.a c.s hc
  classical
  refine ⟨fun  c => if h : c.good 80000000 then (ex  c h).choose else (0, c), ?_, fun  c hc => ?_⟩
  rotate_left
  · simp only [dif_pos hc]
    exact (ex  c hc).choose_spec.2
  refine fun_contractC' (KnowsL.cons (enters_fn Try.func56 (by kernel_rfl) (by kernel_rfl)) cpick (KnowsL.cons (enters_fn Try.func133 (by kernel_rfl) (by kernel_rfl)) camong KnowsL.nil)).knows (Λ := (look [])) Try.func163 (c := Try.f163.body.getD .skip) (by kernel_rfl) fun vs bs r hq hv hb => ?_
  unfold Ent.F dnumG at hq
  dsimp only at hq
  split at hq
  · rename_i  l a s
    obtain ⟨hc, hx⟩ := need_some hq
    have hc := of_decide_eq_true hc
    refine ⟨loopsOk_nil _, ((ex  (Cur.mk l a s) hc).choose_spec.1).trans ?_⟩
    rw [dif_pos hc] at hx
    exact hx
  · cases hq
noncomputable def dnum_f : Cur → (Int) × Cur := dnum_exf.choose
theorem dnum_con : Contract Try.prog 163 (Ent.own (dnumG dnum_f)).F := dnum_exf.choose_spec.1
theorem dnum_pr : ∀  (c : Cur), (c.good 80000000) → (∀ n, c.good n → n ≤ 80000000 → (dnum_f  c).2.good (n + 8)) ∧ (-2000000000 ≤ (dnum_f  c).1 ∧ (dnum_f  c).1 ≤ 2000000000) := dnum_exf.choose_spec.2
end Go.Proofs.Ytfkoljiioikdfaa.Den
