/- What functions of the program do, by the machine: Dc5 Dc6 Dc7 Dc8 Val18 Sub1 Sub2 Fil1 Fil2 Spl Spl2 Top1. -/
import Derived.Test.YtcjnmdcagfgjoaaGreatDoorDB
import Derived.KernelRfl
import Derived.Test.YtcjnmdcagfgjoaaGreatDoorRows
import Derived.Shelf.Strings.Split
namespace Go.Proofs.YtcjnmdcagfgjoaaGreatDoor.Den
open Go.Proofs
set_option maxRecDepth 100000
def zeroVT : Rose VLab := .node (0, [], 0, false, ()) []
def leafT (n : Int) (z : Rose Lab) : Bool := z.lab.1 != 3 || (decide (0 ≤ n ∧ n ≤ z.lab.2.2.2.2.1))
def rdOut (z : Rose Lab) (s : List UInt8) : Rose VLab := match risF s with
 | some fs => (match decS z.kids fs with | some vs => .node (0, [], 0, true, ()) vs | none => zeroVT)
 | none => zeroVT
def ptOut (z : Rose Lab) (s : List UInt8) : Rose VLab := if z.lab.1 = 2 then .node (0, s, 0, false, ()) [] else if z.lab.1 = 5 then rdOut z s else (match decH z.kids s with
 | some vs => .node (0, [], 0, true, ()) vs
 | none => zeroVT)
def rsN (n : Nat) : List V → List Blk → Br (V × List (Option Blk))
 | [.s s, .agg [.i .i64 y0, .s y1, .i .i64 y2, .b y3, .i .i64 y4, .sl (.rose (.pair (.int .i64) (.pair .str (.pair (.int .i64) (.pair .bool (.pair (.int .i64) .unit)))))) ys]], [] => .need (decide (s.length ≤ 400 ∧ y0 = 5 ∧ rightR (.node (y0, y1, y2, y3, y4, ()) ys : Rose Lab) = true ∧ cntR (.node (y0, y1, y2, y3, y4, ()) ys : Rose Lab) ≤ n ∧ cntR (.node (y0, y1, y2, y3, y4, ()) ys : Rose Lab) ≤ 1000000)) (.leaf (.tup [.agg [.i .i64 (rdOut (.node (y0, y1, y2, y3, y4, ()) ys : Rose Lab) s).lab.1, .s (rdOut (.node (y0, y1, y2, y3, y4, ()) ys : Rose Lab) s).lab.2.1, .i .i64 (rdOut (.node (y0, y1, y2, y3, y4, ()) ys : Rose Lab) s).lab.2.2.1, .b (rdOut (.node (y0, y1, y2, y3, y4, ()) ys : Rose Lab) s).lab.2.2.2.1, .ref 0 0 (rdOut (.node (y0, y1, y2, y3, y4, ()) ys : Rose Lab) s).kids.length], .b (decR (.node (y0, y1, y2, y3, y4, ()) ys : Rose Lab) s 0).isSome], [some (.row false none (.rose (.pair (.int .i64) (.pair .str (.pair (.int .i64) (.pair .bool .unit))))) (rdOut (.node (y0, y1, y2, y3, y4, ()) ys : Rose Lab) s).kids)]))
 | _, _ => .no
def ptN (n : Nat) : List V → List Blk → Br (V × List (Option Blk))
 | [.s s, .agg [.i .i64 y0, .s y1, .i .i64 y2, .b y3, .i .i64 y4, .sl (.rose (.pair (.int .i64) (.pair .str (.pair (.int .i64) (.pair .bool (.pair (.int .i64) .unit)))))) ys]], [] => .need (decide (s.length ≤ 400 ∧ fkB (.node (y0, y1, y2, y3, y4, ()) ys : Rose Lab) = false ∧ rightR (.node (y0, y1, y2, y3, y4, ()) ys : Rose Lab) = true ∧ cntR (.node (y0, y1, y2, y3, y4, ()) ys : Rose Lab) ≤ n ∧ cntR (.node (y0, y1, y2, y3, y4, ()) ys : Rose Lab) ≤ 1000000)) (.leaf (.tup [.agg [.i .i64 (ptOut (.node (y0, y1, y2, y3, y4, ()) ys : Rose Lab) s).lab.1, .s (ptOut (.node (y0, y1, y2, y3, y4, ()) ys : Rose Lab) s).lab.2.1, .i .i64 (ptOut (.node (y0, y1, y2, y3, y4, ()) ys : Rose Lab) s).lab.2.2.1, .b (ptOut (.node (y0, y1, y2, y3, y4, ()) ys : Rose Lab) s).lab.2.2.2.1, .ref 0 0 (ptOut (.node (y0, y1, y2, y3, y4, ()) ys : Rose Lab) s).kids.length], .b (decR (.node (y0, y1, y2, y3, y4, ()) ys : Rose Lab) s 0).isSome], [some (.row false none (.rose (.pair (.int .i64) (.pair .str (.pair (.int .i64) (.pair .bool .unit))))) (ptOut (.node (y0, y1, y2, y3, y4, ()) ys : Rose Lab) s).kids)]))
 | _, _ => .no
def sfkG : List V → List Blk → Br (V × List (Option Blk))
 | [.agg [.i .i64 y0, .s y1, .i .i64 y2, .b y3, .i .i64 y4, .sl (.rose (.pair (.int .i64) (.pair .str (.pair (.int .i64) (.pair .bool (.pair (.int .i64) .unit)))))) ys]], [] => .leaf (.b (fkB (.node (y0, y1, y2, y3, y4, ()) ys : Rose Lab)), [])
 | _, _ => .no
def leafTG : List V → List Blk → Br (V × List (Option Blk))
 | [.agg [.i .i64 v0, .s v1, .i .i64 v2, .b v3, .sl (.rose (.pair (.int .i64) (.pair .str (.pair (.int .i64) (.pair .bool .unit))))) vs], .agg [.i .i64 y0, .s y1, .i .i64 y2, .b y3, .i .i64 y4, .sl (.rose (.pair (.int .i64) (.pair .str (.pair (.int .i64) (.pair .bool (.pair (.int .i64) .unit)))))) ys]], [] => .leaf (.b (leafT v0 (.node (y0, y1, y2, y3, y4, ()) ys : Rose Lab)), [])
 | _, _ => .no
def riseD (l : List WFd) (i : Nat) : Bool := (List.range l.length).drop i |>.all (riseI (nosF l))
def rsE (n : Nat) : LoopEnt := ⟨95, [3,4,6,8,23,24,25], [3,4,8], [4,5], fun
 | ([.ptr 0 0, .ptr 1 0, .ref 2 0 w, .ptr 3 0, .ref 2 0 w2, .i .i64 c, .i .i64 i], [some (.box [.i .i64 y0, .s y1, .i .i64 y2, .b y3, .i .i64 y4, .sl (.rose (.pair (.int .i64) (.pair .str (.pair (.int .i64) (.pair .bool (.pair (.int .i64) .unit)))))) ys]), some (.box [.i .i64 0, .s [], .i .i64 0, .b false, .ref 4 0 0]), some (.row false none (.pair (.int .i64) (.pair (.int .i64) (.pair (.int .i64) (.pair .str .unit)))) fs), some (.box [.i .i64 0, .s [], .i .i64 0, .b true, .ref 5 0 m]), some (.row false none (.rose (.pair (.int .i64) (.pair .str (.pair (.int .i64) (.pair .bool .unit))))) []), some (.row false none (.rose (.pair (.int .i64) (.pair .str (.pair (.int .i64) (.pair .bool .unit))))) vs)]) => .need (decide (w = fs.length ∧ w2 = fs.length ∧ c = fs.length ∧ 0 ≤ i ∧ i.toNat ≤ fs.length ∧ fs.length ≤ 40 ∧ m = vs.length ∧ m ≤ i ∧ (fs.all fun x => fieldB x) = true ∧ mxD fs ≤ 400 ∧ rightL 5 ys = true ∧ cntL ys ≤ n ∧ cntL ys ≤ 1000000)) (.br ((riseD fs i.toNat) && (decS ys (fs.drop i.toNat)).isSome) (.leaf (.exit 0, ([.ptr 0 0, .ptr 1 0, .ptr 2 0], [some (.box [.i .i64 y0, .s y1, .i .i64 y2, .b y3, .i .i64 y4, .sl (.rose (.pair (.int .i64) (.pair .str (.pair (.int .i64) (.pair .bool (.pair (.int .i64) .unit)))))) ys]), some (.box [.i .i64 0, .s [], .i .i64 0, .b false, .ref 3 0 0]), some (.box [.i .i64 0, .s [], .i .i64 0, .b true, .ref 4 0 (vs ++ (decS ys (fs.drop i.toNat)).getD []).length]), some (.row false none (.rose (.pair (.int .i64) (.pair .str (.pair (.int .i64) (.pair .bool .unit))))) []), some (.row false none (.rose (.pair (.int .i64) (.pair .str (.pair (.int .i64) (.pair .bool .unit))))) (vs ++ (decS ys (fs.drop i.toNat)).getD []))]))) (.leaf (.ret, ([.ptr 0 0, .b false], [some (.box [.i .i64 0, .s [], .i .i64 0, .b false, .ref 1 0 0]), some (.row false none (.rose (.pair (.int .i64) (.pair .str (.pair (.int .i64) (.pair .bool .unit))))) [])]))))
 | _ => .no⟩
def ptE (n : Nat) : LoopEnt := ⟨100, [0,3,4,6,7], [4,6], [4,5], fun
 | ([.s s, .ptr 0 0, .ptr 1 0, .ptr 2 0, .i .i64 a], [some (.box [.i .i64 y0, .s y1, .i .i64 y2, .b y3, .i .i64 y4, .sl (.rose (.pair (.int .i64) (.pair .str (.pair (.int .i64) (.pair .bool (.pair (.int .i64) .unit)))))) ys]), some (.box [.i .i64 0, .s [], .i .i64 0, .b false, .ref 3 0 0]), some (.box [.i .i64 0, .s [], .i .i64 0, .b true, .ref 4 0 m]), some (.row false none (.rose (.pair (.int .i64) (.pair .str (.pair (.int .i64) (.pair .bool .unit))))) []), some (.row false none (.rose (.pair (.int .i64) (.pair .str (.pair (.int .i64) (.pair .bool .unit))))) vs)]) => .need (decide (0 ≤ a ∧ a.toNat ≤ s.length ∧ s.length ≤ 400 ∧ m = vs.length ∧ m ≤ a ∧ ys.length = 1 ∧ ys.all rightR = true ∧ cntL ys ≤ n ∧ cntL ys ≤ 1000000)) (.br (decI (fkB (hd0 ys)) (fun n => decNum (hd0 ys) n 0) (fun d => decR (hd0 ys) d 0) s (s.length - a.toNat) a.toNat).isSome (.leaf (.exit 1, ([.ptr 0 0, .ptr 1 0], [some (.box [.i .i64 0, .s [], .i .i64 0, .b false, .ref 2 0 0]), some (.box [.i .i64 0, .s [], .i .i64 0, .b true, .ref 3 0 (vs ++ (decI (fkB (hd0 ys)) (fun n => decNum (hd0 ys) n 0) (fun d => decR (hd0 ys) d 0) s (s.length - a.toNat) a.toNat).getD []).length]), some (.row false none (.rose (.pair (.int .i64) (.pair .str (.pair (.int .i64) (.pair .bool .unit))))) []), some (.row false none (.rose (.pair (.int .i64) (.pair .str (.pair (.int .i64) (.pair .bool .unit))))) (vs ++ (decI (fkB (hd0 ys)) (fun n => decNum (hd0 ys) n 0) (fun d => decR (hd0 ys) d 0) s (s.length - a.toNat) a.toNat).getD []))]))) (.leaf (.ret, ([.ptr 0 0, .b false], [some (.box [.i .i64 0, .s [], .i .i64 0, .b false, .ref 1 0 0]), some (.row false none (.rose (.pair (.int .i64) (.pair .str (.pair (.int .i64) (.pair .bool .unit))))) [])]))))
 | _ => .no⟩

theorem sfk_fun (y0 : Int) (y1 : List UInt8) (y2 : Int) (y3 : Bool) (y4 : Int) (ys : List (Rose Lab)) : funK Tryz.prog (look []) (look []) Tryz.f180 [.agg [.j y0, .s y1, .j y2, .b y3, .j y4, .sl (.rose LCd) ys]] [] = some (.b (fkB (.node (y0, y1, y2, y3, y4, ()) ys : Rose Lab)), []) := by
 have e : funK Tryz.prog (look []) (look []) Tryz.f180 [.agg [.j y0, .s y1, .j y2, .b y3, .j y4, .sl (.rose LCd) ys]] [] = ((ifB (y0 == (1 : Int)) (some (V.b true, [])) (some (V.b (y0 == (3 : Int)), []))) : _) := by kernel_rfl
 rw [e]
 clear e
 show _ = some (V.b (y0 == 1 || y0 == 3), [])
 cases y0 == 1 <;> rfl
theorem sfk : Contract Tryz.prog 180 (Ent.rd1 sfkG).F := by
 refine fun_contract' KnowsL.nil.knows (Λ := look []) Tryz.func180 (c := Tryz.f180.body.getD .skip) (by kernel_rfl) fun vs bs r' hq hv hb => ?_
 unfold Ent.F sfkG at hq
 dsimp only at hq
 split at hq
 ·exact ⟨loopsOk_nil _, (sfk_fun _ _ _ _ _ _ ).trans hq⟩
 ·cases hq
theorem leafT_c_fun (v0 : Int) (v1 : List UInt8) (v2 : Int) (v3 : Bool) (vs : List (Rose VLab)) (y0 : Int) (y1 : List UInt8) (y2 : Int) (y3 : Bool) (y4 : Int) (ys : List (Rose Lab)) : funK Tryz.prog (look [(78, .rd1 withinG)]) (look []) Tryz.f182 [.agg [.j v0, .s v1, .j v2, .b v3, .sl (.rose VCd) vs], .agg [.j y0, .s y1, .j y2, .b y3, .j y4, .sl (.rose LCd) ys]] [] = some (.b (leafT v0 (.node (y0, y1, y2, y3, y4, ()) ys : Rose Lab)), []) := by
 have e : funK Tryz.prog (look [(78, .rd1 withinG)]) (look []) Tryz.f182 [.agg [.j v0, .s v1, .j v2, .b v3, .sl (.rose VCd) vs], .agg [.j y0, .s y1, .j y2, .b y3, .j y4, .sl (.rose LCd) ys]] [] = ((ifB (y0 != (3 : Int)) (some (V.b true, [])) (some (V.b (decide ((0 : Int) ≤ v0 ∧ v0 ≤ y4)), []))) : _) := by kernel_rfl
 rw [e]
 clear e
 show _ = some (V.b (y0 != 3 || decide (0 ≤ v0 ∧ v0 ≤ y4)), [])
 cases y0 != 3 <;> rfl
theorem leafT_c : Contract Tryz.prog 182 (Ent.rd1 leafTG).F := by
 refine fun_contract' (KnowsL.cons (enters_fn Tryz.func78 (by kernel_rfl) (by kernel_rfl)) l1In KnowsL.nil).knows (Λ := look []) Tryz.func182 (c := Tryz.f182.body.getD .skip) (by kernel_rfl) fun vs bs r' hq hv hb => ?_
 unfold Ent.F leafTG at hq
 dsimp only at hq
 split at hq
 ·exact ⟨loopsOk_nil _, (leafT_c_fun _ _ _ _ _ _ _ _ _ _ _ ).trans hq⟩
 ·cases hq
abbrev Lqc0 (n : Nat) : FuncId → Option Ent := look [(179, .rd1 rdfG), (127, .rd1 byG), (180, .rd1 sfkG), (181, .rd1 (ptN n)), (182, .rd1 leafTG), (183, .rd1 mustsG)]
theorem rs_round (n : Nat) (y0 : Int) (y1 : List UInt8) (y2 : Int) (y3 : Bool) (y4 : Int) (ys : List (Rose Lab)) (w w2 m : Nat) (c i : Int) (fs : List WFd) (vs : List (Rose VLab)) : roundK Tryz.prog (Lqc0 n) (look [(6, rsE n)]) 0 (body Tryz.f145 0) (rsE n) ([.ptr 0 0, .ptr 1 0, .ref 2 0 w, .ptr 3 0, .ref 2 0 w2, .j c, .j i], [some (.box [.j y0, .s y1, .j y2, .b y3, .j y4, .sl (.rose LCd) ys]), some (.box [.j 0, .s [], .j 0, .b false, .ref 4 0 0]), some (.row false none FCd fs), some (.box [.j 0, .s [], .j 0, .b true, .ref 5 0 m]), some (.row false none (.rose VCd) []), some (.row false none (.rose VCd) vs)]) =
 ((ifB (decide (i < c)) (ifT (decide ((0 : Int) ≤ i) && decide (i < (↑w2 : Int))) (ifSome fs[(0 : Nat) + i.toNat]? fun z => ifB (decide (i > (0 : Int))) (ifT (decide ((0 :
 Int) ≤ IntKind.i64.wrap (i - (1 : Int))) && decide (IntKind.i64.wrap (i - (1 : Int)) < (↑w : Int))) (ifSome fs[(0 : Nat) + (IntKind.i64.wrap (i - (1 : Int))).toNat]? fun
 z_1 => ifB (decide (z_1.fst ≥ z.fst)) (some (Ex.ret, [V.ptr 0 0, V.b false], [some (Blk.box [V.j 0, V.s (nilT UInt8), V.j 0, V.b false, V.ref 1 0 0]), some
 (Blk.row false none VCd.rose (nilT VCd.rose.den))])) (ifT (decide (ys.length ≤ maxI)) (ifB (hasNo z.fst ys) (ifB (!fkB (Rose.node ((byR z.fst ys).lab.fst, (byR z.fst
 ys).lab.snd.fst, (byR z.fst ys).lab.snd.snd.fst, (byR z.fst ys).lab.snd.snd.snd.fst, (byR z.fst ys).lab.snd.snd.snd.snd.fst, ()) (byR z.fst ys).kids) == (z.snd.fst == (0
 : Int))) (some (Ex.ret, [V.ptr 0 0, V.b false], [some (Blk.box [V.j 0, V.s (nilT UInt8), V.j 0, V.b false, V.ref 1 0 0]), some (Blk.row false none VCd.rose
 (nilT VCd.rose.den))])) (ifB (z.snd.fst == (2 : Int)) (ifT (decide (List.length z.snd.snd.snd.fst ≤ (400 : Nat) ∧ fkB (Rose.node ((byR z.fst ys).lab.fst, (byR z.fst
 ys).lab.snd.fst, (byR z.fst ys).lab.snd.snd.fst, (byR z.fst ys).lab.snd.snd.snd.fst, (byR z.fst ys).lab.snd.snd.snd.snd.fst, ()) (byR z.fst ys).kids) = false ∧ rightR
 (Rose.node ((byR z.fst ys).lab.fst, (byR z.fst ys).lab.snd.fst, (byR z.fst ys).lab.snd.snd.fst, (byR z.fst ys).lab.snd.snd.snd.fst, (byR z.fst
 ys).lab.snd.snd.snd.snd.fst, ()) (byR z.fst ys).kids) = true ∧ cntR (Rose.node ((byR z.fst ys).lab.fst, (byR z.fst ys).lab.snd.fst, (byR z.fst ys).lab.snd.snd.fst, (byR
 z.fst ys).lab.snd.snd.snd.fst, (byR z.fst ys).lab.snd.snd.snd.snd.fst, ()) (byR z.fst ys).kids) ≤ n ∧ cntR (Rose.node ((byR z.fst ys).lab.fst, (byR z.fst ys).lab.snd.fst,
 (byR z.fst ys).lab.snd.snd.fst, (byR z.fst ys).lab.snd.snd.snd.fst, (byR z.fst ys).lab.snd.snd.snd.snd.fst, ()) (byR z.fst ys).kids) ≤ (1000000 : Nat))) (ifB (!(decR
 (Rose.node ((byR z.fst ys).lab.fst, (byR z.fst ys).lab.snd.fst, (byR z.fst ys).lab.snd.snd.fst, (byR z.fst ys).lab.snd.snd.snd.fst, (byR z.fst
 ys).lab.snd.snd.snd.snd.fst, ()) (byR z.fst ys).kids) z.snd.snd.snd.fst (0 : Int)).isSome) (some (Ex.ret, [V.ptr 0 0, V.b false], [some (Blk.box [V.j 0, V.s (nilT
 UInt8), V.j 0, V.b false, V.ref 1 0 0]), some (Blk.row false none VCd.rose (nilT VCd.rose.den))])) (ifB (!leafT (ptOut (Rose.node ((byR z.fst ys).lab.fst, (byR z.fst
 ys).lab.snd.fst, (byR z.fst ys).lab.snd.snd.fst, (byR z.fst ys).lab.snd.snd.snd.fst, (byR z.fst ys).lab.snd.snd.snd.snd.fst, ()) (byR z.fst ys).kids)
 z.snd.snd.snd.fst).lab.fst (Rose.node ((byR z.fst ys).lab.fst, (byR z.fst ys).lab.snd.fst, (byR z.fst ys).lab.snd.snd.fst, (byR z.fst ys).lab.snd.snd.snd.fst, (byR z.fst
 ys).lab.snd.snd.snd.snd.fst, ()) (byR z.fst ys).kids)) (some (Ex.ret, [V.ptr 0 0, V.b false], [some (Blk.box [V.j 0, V.s (nilT UInt8), V.j 0, V.b false, V.ref 1
 0 0]), some (Blk.row false none VCd.rose (nilT VCd.rose.den))])) (ifT (decide ((m + (1 : Nat)) * (64 : Nat) ≤ (140737488355328 : Nat)) && decide (m + (1 : Nat) ≤ maxI))
 (some (Ex.normal, [V.ptr 0 0, V.ptr 1 0, V.ref 2 0 w, V.ptr 3 0, V.ref 2 0 w2, V.j c, V.j (IntKind.i64.wrap (i + (1 : Int)))], [some (Blk.box [V.j y0, V.s
 y1, V.j y2, V.b y3, V.j y4, V.sl LCd.rose ys]), some (Blk.box [V.j 0, V.s (nilT UInt8), V.j 0, V.b false, V.ref 4 0 0]), some (Blk.row false none FCd
 fs), some (Blk.box [V.j 0, V.s (nilT UInt8), V.j 0, V.b true, V.ref 5 0 (m + (1 : Nat))]), some (Blk.row false none VCd.rose (nilT VCd.rose.den)), some (Blk.row
 false none VCd.rose (List.take m (List.drop (0 : Nat) vs) ++ Rose.node ((ptOut (Rose.node ((byR z.fst ys).lab.fst, (byR z.fst ys).lab.snd.fst, (byR z.fst
 ys).lab.snd.snd.fst, (byR z.fst ys).lab.snd.snd.snd.fst, (byR z.fst ys).lab.snd.snd.snd.snd.fst, ()) (byR z.fst ys).kids) z.snd.snd.snd.fst).lab.fst, (ptOut (Rose.node
 ((byR z.fst ys).lab.fst, (byR z.fst ys).lab.snd.fst, (byR z.fst ys).lab.snd.snd.fst, (byR z.fst ys).lab.snd.snd.snd.fst, (byR z.fst ys).lab.snd.snd.snd.snd.fst, ()) (byR
 z.fst ys).kids) z.snd.snd.snd.fst).lab.snd.fst, z.fst, (ptOut (Rose.node ((byR z.fst ys).lab.fst, (byR z.fst ys).lab.snd.fst, (byR z.fst ys).lab.snd.snd.fst, (byR z.fst
 ys).lab.snd.snd.snd.fst, (byR z.fst ys).lab.snd.snd.snd.snd.fst, ()) (byR z.fst ys).kids) z.snd.snd.snd.fst).lab.snd.snd.snd.fst, ()) (List.take (ptOut (Rose.node ((byR
 z.fst ys).lab.fst, (byR z.fst ys).lab.snd.fst, (byR z.fst ys).lab.snd.snd.fst, (byR z.fst ys).lab.snd.snd.snd.fst, (byR z.fst ys).lab.snd.snd.snd.snd.fst, ()) (byR z.fst
 ys).kids) z.snd.snd.snd.fst).kids.length (List.drop (0 : Nat) (ptOut (Rose.node ((byR z.fst ys).lab.fst, (byR z.fst ys).lab.snd.fst, (byR z.fst ys).lab.snd.snd.fst, (byR
 z.fst ys).lab.snd.snd.snd.fst, (byR z.fst ys).lab.snd.snd.snd.snd.fst, ()) (byR z.fst ys).kids) z.snd.snd.snd.fst).kids)) :: nilT VCd.rose.den))])))))) (ifB (!leafT
 z.snd.snd.fst (Rose.node ((byR z.fst ys).lab.fst, (byR z.fst ys).lab.snd.fst, (byR z.fst ys).lab.snd.snd.fst, (byR z.fst ys).lab.snd.snd.snd.fst, (byR z.fst
 ys).lab.snd.snd.snd.snd.fst, ()) (byR z.fst ys).kids)) (some (Ex.ret, [V.ptr 0 0, V.b false], [some (Blk.box [V.j 0, V.s (nilT UInt8), V.j 0, V.b false, V.ref 1
 0 0]), some (Blk.row false none VCd.rose (nilT VCd.rose.den))])) (ifT (decide ((m + (1 : Nat)) * (64 : Nat) ≤ (140737488355328 : Nat)) && decide (m + (1 : Nat) ≤ maxI))
 (some (Ex.normal, [V.ptr 0 0, V.ptr 1 0, V.ref 2 0 w, V.ptr 3 0, V.ref 2 0 w2, V.j c, V.j (IntKind.i64.wrap (i + (1 : Int)))], [some (Blk.box [V.j y0, V.s
 y1, V.j y2, V.b y3, V.j y4, V.sl LCd.rose ys]), some (Blk.box [V.j 0, V.s (nilT UInt8), V.j 0, V.b false, V.ref 4 0 0]), some (Blk.row false none FCd
 fs), some (Blk.box [V.j 0, V.s (nilT UInt8), V.j 0, V.b true, V.ref 5 0 (m + (1 : Nat))]), some (Blk.row false none VCd.rose (nilT VCd.rose.den)), some (Blk.row
 false none VCd.rose (List.take m (List.drop (0 : Nat) vs) ++ Rose.node (z.snd.snd.fst, nilT UInt8, z.fst, false, ()) (nilT VCd.rose.den) :: nilT VCd.rose.den))]))))))
 (some (Ex.normal, [V.ptr 0 0, V.ptr 1 0, V.ref 2 0 w, V.ptr 3 0, V.ref 2 0 w2, V.j c, V.j (IntKind.i64.wrap (i + (1 : Int)))], [some (Blk.box [V.j y0, V.s
 y1, V.j y2, V.b y3, V.j y4, V.sl LCd.rose ys]), some (Blk.box [V.j 0, V.s (nilT UInt8), V.j 0, V.b false, V.ref 4 0 0]), some (Blk.row false none FCd
 fs), some (Blk.box [V.j 0, V.s (nilT UInt8), V.j 0, V.b true, V.ref 5 0 m]), some (Blk.row false none VCd.rose (nilT VCd.rose.den)), some (Blk.row false none
 VCd.rose vs)])))))) (ifT (decide (ys.length ≤ maxI)) (ifB (hasNo z.fst ys) (ifB (!fkB (Rose.node ((byR z.fst ys).lab.fst, (byR z.fst ys).lab.snd.fst, (byR z.fst
 ys).lab.snd.snd.fst, (byR z.fst ys).lab.snd.snd.snd.fst, (byR z.fst ys).lab.snd.snd.snd.snd.fst, ()) (byR z.fst ys).kids) == (z.snd.fst == (0 : Int))) (some (Ex.ret,
 [V.ptr 0 0, V.b false], [some (Blk.box [V.j 0, V.s (nilT UInt8), V.j 0, V.b false, V.ref 1 0 0]), some (Blk.row false none VCd.rose (nilT VCd.rose.den))])) (ifB
 (z.snd.fst == (2 : Int)) (ifT (decide (List.length z.snd.snd.snd.fst ≤ (400 : Nat) ∧ fkB (Rose.node ((byR z.fst ys).lab.fst, (byR z.fst ys).lab.snd.fst, (byR z.fst
 ys).lab.snd.snd.fst, (byR z.fst ys).lab.snd.snd.snd.fst, (byR z.fst ys).lab.snd.snd.snd.snd.fst, ()) (byR z.fst ys).kids) = false ∧ rightR (Rose.node ((byR z.fst
 ys).lab.fst, (byR z.fst ys).lab.snd.fst, (byR z.fst ys).lab.snd.snd.fst, (byR z.fst ys).lab.snd.snd.snd.fst, (byR z.fst ys).lab.snd.snd.snd.snd.fst, ()) (byR z.fst
 ys).kids) = true ∧ cntR (Rose.node ((byR z.fst ys).lab.fst, (byR z.fst ys).lab.snd.fst, (byR z.fst ys).lab.snd.snd.fst, (byR z.fst ys).lab.snd.snd.snd.fst, (byR z.fst
 ys).lab.snd.snd.snd.snd.fst, ()) (byR z.fst ys).kids) ≤ n ∧ cntR (Rose.node ((byR z.fst ys).lab.fst, (byR z.fst ys).lab.snd.fst, (byR z.fst ys).lab.snd.snd.fst, (byR
 z.fst ys).lab.snd.snd.snd.fst, (byR z.fst ys).lab.snd.snd.snd.snd.fst, ()) (byR z.fst ys).kids) ≤ (1000000 : Nat))) (ifB (!(decR (Rose.node ((byR z.fst ys).lab.fst, (byR
 z.fst ys).lab.snd.fst, (byR z.fst ys).lab.snd.snd.fst, (byR z.fst ys).lab.snd.snd.snd.fst, (byR z.fst ys).lab.snd.snd.snd.snd.fst, ()) (byR z.fst ys).kids)
 z.snd.snd.snd.fst (0 : Int)).isSome) (some (Ex.ret, [V.ptr 0 0, V.b false], [some (Blk.box [V.j 0, V.s (nilT UInt8), V.j 0, V.b false, V.ref 1 0 0]), some
 (Blk.row false none VCd.rose (nilT VCd.rose.den))])) (ifB (!leafT (ptOut (Rose.node ((byR z.fst ys).lab.fst, (byR z.fst ys).lab.snd.fst, (byR z.fst ys).lab.snd.snd.fst,
 (byR z.fst ys).lab.snd.snd.snd.fst, (byR z.fst ys).lab.snd.snd.snd.snd.fst, ()) (byR z.fst ys).kids) z.snd.snd.snd.fst).lab.fst (Rose.node ((byR z.fst ys).lab.fst, (byR
 z.fst ys).lab.snd.fst, (byR z.fst ys).lab.snd.snd.fst, (byR z.fst ys).lab.snd.snd.snd.fst, (byR z.fst ys).lab.snd.snd.snd.snd.fst, ()) (byR z.fst ys).kids)) (some
 (Ex.ret, [V.ptr 0 0, V.b false], [some (Blk.box [V.j 0, V.s (nilT UInt8), V.j 0, V.b false, V.ref 1 0 0]), some (Blk.row false none VCd.rose (nilT
 VCd.rose.den))])) (ifT (decide ((m + (1 : Nat)) * (64 : Nat) ≤ (140737488355328 : Nat)) && decide (m + (1 : Nat) ≤ maxI)) (some (Ex.normal, [V.ptr 0 0, V.ptr 1 0, V.ref 2
 0 w, V.ptr 3 0, V.ref 2 0 w2, V.j c, V.j (IntKind.i64.wrap (i + (1 : Int)))], [some (Blk.box [V.j y0, V.s y1, V.j y2, V.b y3, V.j y4, V.sl
 LCd.rose ys]), some (Blk.box [V.j 0, V.s (nilT UInt8), V.j 0, V.b false, V.ref 4 0 0]), some (Blk.row false none FCd fs), some (Blk.box [V.j 0, V.s (nilT
 UInt8), V.j 0, V.b true, V.ref 5 0 (m + (1 : Nat))]), some (Blk.row false none VCd.rose (nilT VCd.rose.den)), some (Blk.row false none VCd.rose (List.take m
 (List.drop (0 : Nat) vs) ++ Rose.node ((ptOut (Rose.node ((byR z.fst ys).lab.fst, (byR z.fst ys).lab.snd.fst, (byR z.fst ys).lab.snd.snd.fst, (byR z.fst
 ys).lab.snd.snd.snd.fst, (byR z.fst ys).lab.snd.snd.snd.snd.fst, ()) (byR z.fst ys).kids) z.snd.snd.snd.fst).lab.fst, (ptOut (Rose.node ((byR z.fst ys).lab.fst, (byR
 z.fst ys).lab.snd.fst, (byR z.fst ys).lab.snd.snd.fst, (byR z.fst ys).lab.snd.snd.snd.fst, (byR z.fst ys).lab.snd.snd.snd.snd.fst, ()) (byR z.fst ys).kids)
 z.snd.snd.snd.fst).lab.snd.fst, z.fst, (ptOut (Rose.node ((byR z.fst ys).lab.fst, (byR z.fst ys).lab.snd.fst, (byR z.fst ys).lab.snd.snd.fst, (byR z.fst
 ys).lab.snd.snd.snd.fst, (byR z.fst ys).lab.snd.snd.snd.snd.fst, ()) (byR z.fst ys).kids) z.snd.snd.snd.fst).lab.snd.snd.snd.fst, ()) (List.take (ptOut (Rose.node ((byR
 z.fst ys).lab.fst, (byR z.fst ys).lab.snd.fst, (byR z.fst ys).lab.snd.snd.fst, (byR z.fst ys).lab.snd.snd.snd.fst, (byR z.fst ys).lab.snd.snd.snd.snd.fst, ()) (byR z.fst
 ys).kids) z.snd.snd.snd.fst).kids.length (List.drop (0 : Nat) (ptOut (Rose.node ((byR z.fst ys).lab.fst, (byR z.fst ys).lab.snd.fst, (byR z.fst ys).lab.snd.snd.fst, (byR
 z.fst ys).lab.snd.snd.snd.fst, (byR z.fst ys).lab.snd.snd.snd.snd.fst, ()) (byR z.fst ys).kids) z.snd.snd.snd.fst).kids)) :: nilT VCd.rose.den))])))))) (ifB (!leafT
 z.snd.snd.fst (Rose.node ((byR z.fst ys).lab.fst, (byR z.fst ys).lab.snd.fst, (byR z.fst ys).lab.snd.snd.fst, (byR z.fst ys).lab.snd.snd.snd.fst, (byR z.fst
 ys).lab.snd.snd.snd.snd.fst, ()) (byR z.fst ys).kids)) (some (Ex.ret, [V.ptr 0 0, V.b false], [some (Blk.box [V.j 0, V.s (nilT UInt8), V.j 0, V.b false, V.ref 1
 0 0]), some (Blk.row false none VCd.rose (nilT VCd.rose.den))])) (ifT (decide ((m + (1 : Nat)) * (64 : Nat) ≤ (140737488355328 : Nat)) && decide (m + (1 : Nat) ≤ maxI))
 (some (Ex.normal, [V.ptr 0 0, V.ptr 1 0, V.ref 2 0 w, V.ptr 3 0, V.ref 2 0 w2, V.j c, V.j (IntKind.i64.wrap (i + (1 : Int)))], [some (Blk.box [V.j y0, V.s
 y1, V.j y2, V.b y3, V.j y4, V.sl LCd.rose ys]), some (Blk.box [V.j 0, V.s (nilT UInt8), V.j 0, V.b false, V.ref 4 0 0]), some (Blk.row false none FCd
 fs), some (Blk.box [V.j 0, V.s (nilT UInt8), V.j 0, V.b true, V.ref 5 0 (m + (1 : Nat))]), some (Blk.row false none VCd.rose (nilT VCd.rose.den)), some (Blk.row
 false none VCd.rose (List.take m (List.drop (0 : Nat) vs) ++ Rose.node (z.snd.snd.fst, nilT UInt8, z.fst, false, ()) (nilT VCd.rose.den) :: nilT VCd.rose.den))]))))))
 (some (Ex.normal, [V.ptr 0 0, V.ptr 1 0, V.ref 2 0 w, V.ptr 3 0, V.ref 2 0 w2, V.j c, V.j (IntKind.i64.wrap (i + (1 : Int)))], [some (Blk.box [V.j y0, V.s
 y1, V.j y2, V.b y3, V.j y4, V.sl LCd.rose ys]), some (Blk.box [V.j 0, V.s (nilT UInt8), V.j 0, V.b false, V.ref 4 0 0]), some (Blk.row false none FCd
 fs), some (Blk.box [V.j 0, V.s (nilT UInt8), V.j 0, V.b true, V.ref 5 0 m]), some (Blk.row false none VCd.rose (nilT VCd.rose.den)), some (Blk.row false none
 VCd.rose vs)])))))) (some (Ex.exit 0, [V.ptr 0 0, V.ptr 1 0, V.ptr 2 0], [some (Blk.box [V.j y0, V.s y1, V.j y2, V.b y3, V.j y4, V.sl LCd.rose ys]), some
 (Blk.box [V.j 0, V.s (nilT UInt8), V.j 0, V.b false, V.ref 3 0 0]), some (Blk.box [V.j 0, V.s (nilT UInt8), V.j 0, V.b true, V.ref 4 0 m]), some
 (Blk.row false none VCd.rose (nilT VCd.rose.den)), some (Blk.row false none VCd.rose vs)]))) : _) := by kernel_rfl
theorem rs_tree (n : Nat) (s : List UInt8) (y0 : Int) (y1 : List UInt8) (y2 : Int) (y3 : Bool) (y4 : Int) (ys : List (Rose Lab)) : funC Tryz.prog (Lqc0 n) (look [(6, rsE n)]) Tryz.f145 [.s s, .agg [.j y0, .s y1, .j y2, .b y3, .j y4, .sl (.rose LCd) ys]] [] =
 ((ifT (decide (s.length ≤ (4000000000 : Nat))) (ifB (!(rdfP s).isSome) (some (V.tup [V.agg [V.j 0, V.s (nilT UInt8), V.j 0, V.b false, V.ref 0 0 0], V.b false],
 [some (Blk.row false none VCd.rose (nilT VCd.rose.den))])) (ifT (decide (((rdfP s).getD (nilT WFd)).length = ((rdfP s).getD (nilT WFd)).length ∧ ((rdfP s).getD (nilT
 WFd)).length = ((rdfP s).getD (nilT WFd)).length ∧ (↑((rdfP s).getD (nilT WFd)).length : Int) = (↑((rdfP s).getD (nilT WFd)).length : Int) ∧ (0 : Int) ≤ (0 : Int) ∧ (0 :
 Nat) ≤ ((rdfP s).getD (nilT WFd)).length ∧ ((rdfP s).getD (nilT WFd)).length ≤ (40 : Nat) ∧ (0 : Nat) = (0 : Nat) ∧ (↑(0 : Nat) : Int) ≤ (0 : Int) ∧ (((rdfP s).getD (nilT
 WFd)).all fun x => fieldB x) = true ∧ mxD ((rdfP s).getD (nilT WFd)) ≤ (400 : Nat) ∧ rightL (5 : Int) ys = true ∧ cntL ys ≤ n ∧ cntL ys ≤ (1000000 : Nat))) (ifB (riseD
 ((rdfP s).getD (nilT WFd)) (0 : Nat) && (decS ys (List.drop (0 : Nat) ((rdfP s).getD (nilT WFd)))).isSome) (ifT (decide (ys.length ≤ maxI ∧ (List.take (nilT VCd.rose.den
 ++ (decS ys (List.drop (0 : Nat) ((rdfP s).getD (nilT WFd)))).getD (nilT (Rose VLab))).length (List.drop (0 : Nat) (nilT VCd.rose.den ++ (decS ys (List.drop (0 : Nat)
 ((rdfP s).getD (nilT WFd)))).getD (nilT (Rose VLab))))).length ≤ maxI)) (some (V.tup [V.agg [V.j 0, V.s (nilT UInt8), V.j 0, V.b true, V.ref 0 0 (nilT
 VCd.rose.den ++ (decS ys (List.drop (0 : Nat) ((rdfP s).getD (nilT WFd)))).getD (nilT (Rose VLab))).length], V.b (mustsB (List.take (nilT VCd.rose.den ++ (decS ys
 (List.drop (0 : Nat) ((rdfP s).getD (nilT WFd)))).getD (nilT (Rose VLab))).length (List.drop (0 : Nat) (nilT VCd.rose.den ++ (decS ys (List.drop (0 : Nat) ((rdfP s).getD
 (nilT WFd)))).getD (nilT (Rose VLab))))) ys)], [some (Blk.row false none VCd.rose (nilT VCd.rose.den ++ (decS ys (List.drop (0 : Nat) ((rdfP s).getD (nilT WFd)))).getD
 (nilT (Rose VLab))))]))) (some (V.tup [V.agg [V.j 0, V.s (nilT UInt8), V.j 0, V.b false, V.ref 0 0 0], V.b false], [some (Blk.row false none VCd.rose (nilT
 VCd.rose.den))])))))) : _) := by kernel_rfl
abbrev Lqc1 (k n : Nat) : FuncId → Option Ent := look [(145, .rd1 (rsN k)), (210, .rd1 tvsG), (211, .rd1 unfG), (180, .rd1 sfkG), (181, .rd1 (ptN n)), (165, .rd1 numG), (182, .rd1 leafTG)]
theorem pt_round (n k : Nat) (s : List UInt8) (y0 : Int) (y1 : List UInt8) (y2 : Int) (y3 : Bool) (y4 : Int) (ys : List (Rose Lab)) (m : Nat) (a : Int) (vs : List (Rose VLab)) : roundK Tryz.prog (Lqc1 k n) (look [(8, ptE n)]) 0 (body Tryz.f181 0) (ptE n) ([.s s, .ptr 0 0, .ptr 1 0, .ptr 2 0, .j a], [some (.box [.j y0, .s y1, .j y2, .b y3, .j y4, .sl (.rose LCd) ys]), some (.box [.j 0, .s [], .j 0, .b false, .ref 3 0 0]), some (.box [.j 0, .s [], .j 0, .b true, .ref 4 0 m]), some (.row false none (.rose VCd) []), some (.row false none (.rose VCd) vs)]) =
 ((ifB (decide (a < (↑s.length : Int))) (ifT (decide ((0 : Int) ≤ a ∧ s.length ≤ (4000000000 : Nat) ∧ a ≤ (4000000000 : Int))) (ifB (!tvI3 (tvAt s a.toNat)) (some (Ex.ret,
 [V.ptr 0 0, V.b false], [some (Blk.box [V.j 0, V.s (nilT UInt8), V.j 0, V.b false, V.ref 1 0 0]), some (Blk.row false none VCd.rose (nilT VCd.rose.den))])) (ifT
 (decide ((0 : Int) ≤ tvS1 (tvAt s a.toNat) ∧ tvS1 (tvAt s a.toNat) ≤ (1000000000000 : Int))) (ifT (decide ((0 : Int) ≤ (0 : Int)) && decide ((0 : Int) < (↑ys.length :
 Int))) (ifSome ys[(0 : Nat)]? fun z => ifB (!fkB (Rose.node ((Rose.lab z).fst, (Rose.lab z).snd.fst, (Rose.lab z).snd.snd.fst, (Rose.lab z).snd.snd.snd.fst, (Rose.lab
 z).snd.snd.snd.snd.fst, ()) (Rose.kids z))) (ifB (decide (tvS1 (tvAt s a.toNat) > IntKind.i64.wrap ((↑s.length : Int) - tvS2 a.toNat (tvAt s a.toNat)))) (some (Ex.ret,
 [V.ptr 0 0, V.b false], [some (Blk.box [V.j 0, V.s (nilT UInt8), V.j 0, V.b false, V.ref 1 0 0]), some (Blk.row false none VCd.rose (nilT VCd.rose.den))])) (ifT
 (decide ((0 : Int) ≤ tvS2 a.toNat (tvAt s a.toNat)) && decide (tvS2 a.toNat (tvAt s a.toNat) ≤ IntKind.i64.wrap (tvS2 a.toNat (tvAt s a.toNat) + tvS1 (tvAt s a.toNat)))
 && decide (IntKind.i64.wrap (tvS2 a.toNat (tvAt s a.toNat) + tvS1 (tvAt s a.toNat)) ≤ (↑s.length : Int))) (ifT (decide ((0 : Int) ≤ (0 : Int)) && decide ((0 : Int) <
 (↑ys.length : Int))) (ifSome ys[(0 : Nat)]? fun z => ifT (decide ((List.take ((IntKind.i64.wrap (tvS2 a.toNat (tvAt s a.toNat) + tvS1 (tvAt s a.toNat))).toNat - (tvS2
 a.toNat (tvAt s a.toNat)).toNat) (List.drop (tvS2 a.toNat (tvAt s a.toNat)).toNat s)).length ≤ (400 : Nat) ∧ fkB (Rose.node ((Rose.lab z).fst, (Rose.lab z).snd.fst,
 (Rose.lab z).snd.snd.fst, (Rose.lab z).snd.snd.snd.fst, (Rose.lab z).snd.snd.snd.snd.fst, ()) (Rose.kids z)) = false ∧ rightR (Rose.node ((Rose.lab z).fst, (Rose.lab
 z).snd.fst, (Rose.lab z).snd.snd.fst, (Rose.lab z).snd.snd.snd.fst, (Rose.lab z).snd.snd.snd.snd.fst, ()) (Rose.kids z)) = true ∧ cntR (Rose.node ((Rose.lab z).fst,
 (Rose.lab z).snd.fst, (Rose.lab z).snd.snd.fst, (Rose.lab z).snd.snd.snd.fst, (Rose.lab z).snd.snd.snd.snd.fst, ()) (Rose.kids z)) ≤ n ∧ cntR (Rose.node ((Rose.lab
 z).fst, (Rose.lab z).snd.fst, (Rose.lab z).snd.snd.fst, (Rose.lab z).snd.snd.snd.fst, (Rose.lab z).snd.snd.snd.snd.fst, ()) (Rose.kids z)) ≤ (1000000 : Nat))) (ifB
 (!(decR (Rose.node ((Rose.lab z).fst, (Rose.lab z).snd.fst, (Rose.lab z).snd.snd.fst, (Rose.lab z).snd.snd.snd.fst, (Rose.lab z).snd.snd.snd.snd.fst, ()) (Rose.kids z))
 (List.take ((IntKind.i64.wrap (tvS2 a.toNat (tvAt s a.toNat) + tvS1 (tvAt s a.toNat))).toNat - (tvS2 a.toNat (tvAt s a.toNat)).toNat) (List.drop (tvS2 a.toNat (tvAt s
 a.toNat)).toNat s)) (0 : Int)).isSome) (some (Ex.ret, [V.ptr 0 0, V.b false], [some (Blk.box [V.j 0, V.s (nilT UInt8), V.j 0, V.b false, V.ref 1 0 0]), some
 (Blk.row false none VCd.rose (nilT VCd.rose.den))])) (ifT (decide ((0 : Int) ≤ (0 : Int)) && decide ((0 : Int) < (↑ys.length : Int))) (ifSome ys[(0 : Nat)]? fun z_1 =>
 ifB (!leafT (ptOut (Rose.node ((Rose.lab z).fst, (Rose.lab z).snd.fst, (Rose.lab z).snd.snd.fst, (Rose.lab z).snd.snd.snd.fst, (Rose.lab z).snd.snd.snd.snd.fst, ())
 (Rose.kids z)) (List.take ((IntKind.i64.wrap (tvS2 a.toNat (tvAt s a.toNat) + tvS1 (tvAt s a.toNat))).toNat - (tvS2 a.toNat (tvAt s a.toNat)).toNat) (List.drop (tvS2
 a.toNat (tvAt s a.toNat)).toNat s))).lab.fst (Rose.node ((Rose.lab z_1).fst, (Rose.lab z_1).snd.fst, (Rose.lab z_1).snd.snd.fst, (Rose.lab z_1).snd.snd.snd.fst, (Rose.lab
 z_1).snd.snd.snd.snd.fst, ()) (Rose.kids z_1))) (some (Ex.ret, [V.ptr 0 0, V.b false], [some (Blk.box [V.j 0, V.s (nilT UInt8), V.j 0, V.b false, V.ref 1 0 0]),
 some (Blk.row false none VCd.rose (nilT VCd.rose.den))])) (ifT (decide ((m + (1 : Nat)) * (64 : Nat) ≤ (140737488355328 : Nat)) && decide (m + (1 : Nat) ≤ maxI)) (some
 (Ex.normal, [V.s s, V.ptr 0 0, V.ptr 1 0, V.ptr 2 0, V.j (IntKind.i64.wrap (tvS2 a.toNat (tvAt s a.toNat) + tvS1 (tvAt s a.toNat)))], [some (Blk.box [V.j y0,
 V.s y1, V.j y2, V.b y3, V.j y4, V.sl LCd.rose ys]), some (Blk.box [V.j 0, V.s (nilT UInt8), V.j 0, V.b false, V.ref 3 0 0]), some (Blk.box [V.i .i64
 0, V.s (nilT UInt8), V.j 0, V.b true, V.ref 4 0 (m + (1 : Nat))]), some (Blk.row false none VCd.rose (nilT VCd.rose.den)), some (Blk.row false none VCd.rose
 (List.take m (List.drop (0 : Nat) vs) ++ Rose.node ((ptOut (Rose.node ((Rose.lab z).fst, (Rose.lab z).snd.fst, (Rose.lab z).snd.snd.fst, (Rose.lab z).snd.snd.snd.fst,
 (Rose.lab z).snd.snd.snd.snd.fst, ()) (Rose.kids z)) (List.take ((IntKind.i64.wrap (tvS2 a.toNat (tvAt s a.toNat) + tvS1 (tvAt s a.toNat))).toNat - (tvS2 a.toNat (tvAt s
 a.toNat)).toNat) (List.drop (tvS2 a.toNat (tvAt s a.toNat)).toNat s))).lab.fst, (ptOut (Rose.node ((Rose.lab z).fst, (Rose.lab z).snd.fst, (Rose.lab z).snd.snd.fst,
 (Rose.lab z).snd.snd.snd.fst, (Rose.lab z).snd.snd.snd.snd.fst, ()) (Rose.kids z)) (List.take ((IntKind.i64.wrap (tvS2 a.toNat (tvAt s a.toNat) + tvS1 (tvAt s
 a.toNat))).toNat - (tvS2 a.toNat (tvAt s a.toNat)).toNat) (List.drop (tvS2 a.toNat (tvAt s a.toNat)).toNat s))).lab.snd.fst, (ptOut (Rose.node ((Rose.lab z).fst,
 (Rose.lab z).snd.fst, (Rose.lab z).snd.snd.fst, (Rose.lab z).snd.snd.snd.fst, (Rose.lab z).snd.snd.snd.snd.fst, ()) (Rose.kids z)) (List.take ((IntKind.i64.wrap (tvS2
 a.toNat (tvAt s a.toNat) + tvS1 (tvAt s a.toNat))).toNat - (tvS2 a.toNat (tvAt s a.toNat)).toNat) (List.drop (tvS2 a.toNat (tvAt s a.toNat)).toNat s))).lab.snd.snd.fst,
 (ptOut (Rose.node ((Rose.lab z).fst, (Rose.lab z).snd.fst, (Rose.lab z).snd.snd.fst, (Rose.lab z).snd.snd.snd.fst, (Rose.lab z).snd.snd.snd.snd.fst, ()) (Rose.kids z))
 (List.take ((IntKind.i64.wrap (tvS2 a.toNat (tvAt s a.toNat) + tvS1 (tvAt s a.toNat))).toNat - (tvS2 a.toNat (tvAt s a.toNat)).toNat) (List.drop (tvS2 a.toNat (tvAt s
 a.toNat)).toNat s))).lab.snd.snd.snd.fst, ()) (List.take (ptOut (Rose.node ((Rose.lab z).fst, (Rose.lab z).snd.fst, (Rose.lab z).snd.snd.fst, (Rose.lab
 z).snd.snd.snd.fst, (Rose.lab z).snd.snd.snd.snd.fst, ()) (Rose.kids z)) (List.take ((IntKind.i64.wrap (tvS2 a.toNat (tvAt s a.toNat) + tvS1 (tvAt s a.toNat))).toNat -
 (tvS2 a.toNat (tvAt s a.toNat)).toNat) (List.drop (tvS2 a.toNat (tvAt s a.toNat)).toNat s))).kids.length (List.drop (0 : Nat) (ptOut (Rose.node ((Rose.lab z).fst,
 (Rose.lab z).snd.fst, (Rose.lab z).snd.snd.fst, (Rose.lab z).snd.snd.snd.fst, (Rose.lab z).snd.snd.snd.snd.fst, ()) (Rose.kids z)) (List.take ((IntKind.i64.wrap (tvS2
 a.toNat (tvAt s a.toNat) + tvS1 (tvAt s a.toNat))).toNat - (tvS2 a.toNat (tvAt s a.toNat)).toNat) (List.drop (tvS2 a.toNat (tvAt s a.toNat)).toNat s))).kids)) :: nilT
 VCd.rose.den))])))))))))) (ifB (!numB (unf (tvS1 (tvAt s a.toNat)))) (some (Ex.ret, [V.ptr 0 0, V.b false], [some (Blk.box [V.j 0, V.s (nilT UInt8), V.j 0, V.b
 false, V.ref 1 0 0]), some (Blk.row false none VCd.rose (nilT VCd.rose.den))])) (ifT (decide ((0 : Int) ≤ (0 : Int)) && decide ((0 : Int) < (↑ys.length : Int))) (ifSome
 ys[(0 : Nat)]? fun z => ifB (!leafT (unf (tvS1 (tvAt s a.toNat))) (Rose.node ((Rose.lab z).fst, (Rose.lab z).snd.fst, (Rose.lab z).snd.snd.fst, (Rose.lab
 z).snd.snd.snd.fst, (Rose.lab z).snd.snd.snd.snd.fst, ()) (Rose.kids z))) (some (Ex.ret, [V.ptr 0 0, V.b false], [some (Blk.box [V.j 0, V.s (nilT UInt8), V.j 0,
 V.b false, V.ref 1 0 0]), some (Blk.row false none VCd.rose (nilT VCd.rose.den))])) (ifT (decide ((m + (1 : Nat)) * (64 : Nat) ≤ (140737488355328 : Nat)) && decide (m +
 (1 : Nat) ≤ maxI)) (some (Ex.normal, [V.s s, V.ptr 0 0, V.ptr 1 0, V.ptr 2 0, V.j (tvS2 a.toNat (tvAt s a.toNat))], [some (Blk.box [V.j y0, V.s y1, V.j y2,
 V.b y3, V.j y4, V.sl LCd.rose ys]), some (Blk.box [V.j 0, V.s (nilT UInt8), V.j 0, V.b false, V.ref 3 0 0]), some (Blk.box [V.j 0, V.s (nilT UInt8),
 V.j 0, V.b true, V.ref 4 0 (m + (1 : Nat))]), some (Blk.row false none VCd.rose (nilT VCd.rose.den)), some (Blk.row false none VCd.rose (List.take m (List.drop (0 :
 Nat) vs) ++ Rose.node (unf (tvS1 (tvAt s a.toNat)), nilT UInt8, (0 : Int), false, ()) (nilT VCd.rose.den) :: nilT VCd.rose.den))]))))))))))) (some (Ex.exit 1, [V.ptr 0 0,
 V.ptr 1 0], [some (Blk.box [V.j 0, V.s (nilT UInt8), V.j 0, V.b false, V.ref 2 0 0]), some (Blk.box [V.j 0, V.s (nilT UInt8), V.j 0, V.b true, V.ref 3
 0 m]), some (Blk.row false none VCd.rose (nilT VCd.rose.den)), some (Blk.row false none VCd.rose vs)]))) : _) := by kernel_rfl
theorem pt_tree (n k : Nat) (s : List UInt8) (y0 : Int) (y1 : List UInt8) (y2 : Int) (y3 : Bool) (y4 : Int) (ys : List (Rose Lab)) : funC Tryz.prog (Lqc1 k n) (look [(8, ptE n)]) Tryz.f181 [.s s, .agg [.j y0, .s y1, .j y2, .b y3, .j y4, .sl (.rose LCd) ys]] [] =
 ((ifB (y0 == (2 : Int)) (some (V.tup [V.agg [V.j 0, V.s s, V.j 0, V.b false, V.ref 0 0 0], V.b (decide ((↑s.length : Int) ≤ (30 : Int)))], [some (Blk.row false
 none VCd.rose (nilT VCd.rose.den))])) (ifB (y0 == (5 : Int)) (ifT (decide (s.length ≤ (400 : Nat) ∧ y0 = (5 : Int) ∧ rightR (Rose.node (y0, y1, y2, y3, y4, ()) ys) = true
 ∧ cntR (Rose.node (y0, y1, y2, y3, y4, ()) ys) ≤ k ∧ cntR (Rose.node (y0, y1, y2, y3, y4, ()) ys) ≤ (1000000 : Nat))) (some (V.tup [V.agg [V.j (rdOut (Rose.node (y0,
 y1, y2, y3, y4, ()) ys) s).lab.fst, V.s (rdOut (Rose.node (y0, y1, y2, y3, y4, ()) ys) s).lab.snd.fst, V.j (rdOut (Rose.node (y0, y1, y2, y3, y4, ()) ys)
 s).lab.snd.snd.fst, V.b (rdOut (Rose.node (y0, y1, y2, y3, y4, ()) ys) s).lab.snd.snd.snd.fst, V.ref 0 0 (rdOut (Rose.node (y0, y1, y2, y3, y4, ()) ys) s).kids.length],
 V.b (decR (Rose.node (y0, y1, y2, y3, y4, ()) ys) s (0 : Int)).isSome], [some (Blk.row false none VCd.rose (rdOut (Rose.node (y0, y1, y2, y3, y4, ()) ys) s).kids)])))
 (ifT (decide ((0 : Int) ≤ (0 : Int) ∧ (0 : Nat) ≤ s.length ∧ s.length ≤ (400 : Nat) ∧ (0 : Nat) = (0 : Nat) ∧ (↑(0 : Nat) : Int) ≤ (0 : Int) ∧ ys.length = (1 : Nat) ∧
 ys.all rightR = true ∧ cntL ys ≤ n ∧ cntL ys ≤ (1000000 : Nat))) (ifB (decI (fkB (hd0 ys)) (fun n => decNum (hd0 ys) n (0 : Int)) (fun d => decR (hd0 ys) d (0 : Int)) s
 (s.length - (0 : Nat)) (0 : Nat)).isSome (some (V.tup [V.agg [V.j 0, V.s (nilT UInt8), V.j 0, V.b true, V.ref 0 0 (nilT VCd.rose.den ++ (decI (fkB (hd0 ys))
 (fun n => decNum (hd0 ys) n (0 : Int)) (fun d => decR (hd0 ys) d (0 : Int)) s (s.length - (0 : Nat)) (0 : Nat)).getD (nilT (Rose VLab))).length], V.b true], [some
 (Blk.row false none VCd.rose (nilT VCd.rose.den ++ (decI (fkB (hd0 ys)) (fun n => decNum (hd0 ys) n (0 : Int)) (fun d => decR (hd0 ys) d (0 : Int)) s (s.length - (0 :
 Nat)) (0 : Nat)).getD (nilT (Rose VLab))))])) (some (V.tup [V.agg [V.j 0, V.s (nilT UInt8), V.j 0, V.b false, V.ref 0 0 0], V.b false], [some (Blk.row false
 none VCd.rose (nilT VCd.rose.den))])))))) : _) := by kernel_rfl


theorem kids_pw6 {z : Rose Lab} (h : rightR z = true) (h5 : z.lab.1 = 5) : z.kids.Pairwise KR := by
 obtain ⟨hp, _⟩ := right_kids h
 unfold partsB at hp
 rw [if_neg (by omega), if_neg (by omega), if_neg (by omega)] at hp
 split at hp
 ·cases hp
 ·exact ((msgL_iff _).1 hp).imp fun h => h.1
theorem rise_step {ns : List Int} (h : ∀ i, i < ns.length → riseI ns i = true) : ns.Pairwise (· < ·) := by
 induction ns with
 | nil => exact .nil
 | cons x ns ih =>
  have ih := ih fun i hi => by
   have := h (i + 1) (by simp; omega)
   unfold riseI at this ⊢
   cases i with
   | zero => rfl
   | succ i => simpa using this
  refine List.pairwise_cons.2 ⟨fun y hy => ?_, ih⟩
  cases ns with
  | nil => cases hy
  | cons w ns =>
   have h1 := h 1 (by simp)
   unfold riseI at h1
   have h1 : x < w := by simpa using h1
   rcases List.mem_cons.1 hy with rfl | hy
   ·exact h1
   ·have := (List.pairwise_cons.1 ih).1 y hy
    omega
theorem rise_pw {l : List WFd} (h : rise (nosF l) = true) : l.Pairwise riseF := by
 have h2 := rise_step (ns := nosF l) fun i hi => List.all_eq_true.1 h i (List.mem_range.2 hi)
 unfold nosF at h2
 have h3 : l.Pairwise (fun a b => a.1 < b.1) := List.pairwise_map.1 h2
 exact h3
def setNo (no : Int) (v : Rose VLab) : Rose VLab := .node (v.lab.1, v.lab.2.1, no, v.lab.2.2.2.1, ()) v.kids
theorem decR_setNo (z : Rose Lab) (s : List UInt8) (no : Int) : decR z s no = (decR z s 0).map (setNo no) := by
 by_cases h2 : z.lab.1 = 2
 ·rw [decR_text h2, decR_text h2]; split <;> rfl
 ·by_cases h4 : z.lab.1 = 4
  ·rw [decR_list h4, decR_list h4]; cases decH z.kids s <;> rfl
  ·rw [decR_msg h2 h4, decR_msg h2 h4]
   cases risF s with
   | none => rfl
   | some fs => dsimp only; cases decM z.kids fs <;> rfl
theorem decR_ref {z : Rose Lab} (hr : rightR z = true) (h5 : z.lab.1 = 5) (s : List UInt8) (no : Int) : decR z s no = (match risF s with
   | some fs => (match decS z.kids fs with | some vs => if mustsB vs z.kids = true then some (.node (0, [], no, true, ()) vs) else none | none => none)
   | none => none) := by
 rw [decR_msg (by omega) (by omega)]
 cases hf : risF s with
 | none => rfl
 | some fs =>
  have hp := rise_pw (ris_all hf).2.1
  dsimp only
  rw [dec_both _ z.kids fs (Nat.le_refl _) (kids_pw6 hr h5) hp]
  cases decS z.kids fs with
  | none => rfl
  | some vs => dsimp only; split <;> rfl
theorem rd_some {z : Rose Lab} (hr : rightR z = true) (h5 : z.lab.1 = 5) {s : List UInt8} {v : Rose VLab} (h : decR z s 0 = some v) : rdOut z s = v := by
 rw [decR_ref hr h5] at h
 unfold rdOut
 cases hf : risF s with
 | none => rw [hf] at h; cases h
 | some fs =>
  rw [hf] at h
  dsimp only at h ⊢
  cases hd : decS z.kids fs with
  | none => rw [hd] at h; cases h
  | some vs =>
   rw [hd] at h
   dsimp only at h ⊢
   split at h
   ·exact Option.some.inj h
   ·cases h
theorem right_kind {z : Rose Lab} (hr : rightR z = true) (hf : fkB z = false) : z.lab.1 = 2 ∨ z.lab.1 = 4 ∨ z.lab.1 = 5 := by
 obtain ⟨h1, _⟩ := right_kids hr
 unfold fkB at hf
 simp only [Bool.or_eq_false_iff, beq_eq_false_iff_ne] at hf
 unfold partsB at h1
 by_cases a2 : z.lab.1 = 2
 ·exact .inl a2
 ·by_cases a4 : z.lab.1 = 4
  ·exact .inr (.inl a4)
  ·by_cases a5 : z.lab.1 = 5
   ·exact .inr (.inr a5)
   ·rw [if_neg (by omega), if_neg hf.2, if_neg a4, if_pos (.inl a5)] at h1; cases h1
theorem pt_some {z : Rose Lab} (hr : rightR z = true) (hf : fkB z = false) {s : List UInt8} {v : Rose VLab} (h : decR z s 0 = some v) : ptOut z s = v := by
 unfold ptOut
 rcases right_kind hr hf with q | q | q
 ·rw [if_pos q]
  rw [decR_text q] at h
  split at h
  ·exact Option.some.inj h
  ·cases h
 ·rw [if_neg (by omega), if_neg (by omega)]
  rw [decR_list q] at h
  obtain ⟨vs, h1, rfl⟩ := Option.map_eq_some_iff.1 h
  rw [h1]
 ·rw [if_neg (by omega), if_pos q]
  exact rd_some hr q h
theorem leaf_num {z : Rose Lab} (hf : fkB z = true) {n : Int} (hn : numB n = true) (no : Int) : decNum z n no = if leafT n z = true then some (.node (n, [], no, false, ()) []) else none := by
 unfold decNum leafT
 unfold fkB at hf
 simp only [Bool.or_eq_true, beq_iff_eq] at hf
 rcases hf with h | h
 ·rw [if_pos ⟨hn, .inl h⟩, h]; rfl
 ·rw [h]
  by_cases q : 0 ≤ n ∧ n ≤ z.lab.2.2.2.2.1
  ·rw [if_pos ⟨hn, .inr q⟩, if_pos (by simp [q])]
  ·rw [if_neg (fun hh => hh.2.elim (fun e => by omega) q), if_neg (by simp [q])]
theorem leaf_byt {z : Rose Lab} (hf : fkB z = false) (n : Int) : leafT n z = true := by
 unfold leafT
 unfold fkB at hf
 simp only [Bool.or_eq_false_iff, beq_eq_false_iff_ne] at hf
 rw [bne_iff_ne.2 hf.2]; rfl
theorem fieldB_num {f : WFd} (h : fieldB f = true) (h0 : f.2.1 = 0) : numB f.2.2.1 = true := by
 unfold fieldB at h
 rw [anE] at h
 have h := h.2
 rw [if_pos h0, anE] at h
 exact h.1
theorem riseD_end {l : List WFd} {i : Nat} (h : l.length ≤ i) : riseD l i = true := by
 unfold riseD; rw [List.drop_eq_nil_of_le (by simpa using h)]; rfl
theorem riseD_step {l : List WFd} {i : Nat} (h : i < l.length) : riseD l i = (riseI (nosF l) i && riseD l (i + 1)) := by
 unfold riseD
 rw [List.drop_eq_getElem_cons (by simpa using h), List.all_cons, List.getElem_range]
theorem byR_mem6 {n : Int} : ∀ {l : List (Rose Lab)}, hasNo n l = true → byR n l ∈ l ∧ (byR n l).lab.2.2.1 = n
 | [], h => by cases h
 | z :: l, h => by
  rw [byR]
  by_cases q : z.lab.2.2.1 = n
  ·rw [if_pos q]; exact ⟨by simp, q⟩
  ·rw [if_neg q]
   have h2 : hasNo n l = true := by
    unfold hasNo at h ⊢
    rw [List.any_cons, beq_eq_false_iff_ne.2 q, Bool.false_or] at h
    exact h
   have := byR_mem6 h2
   exact ⟨List.mem_cons_of_mem _ this.1, this.2⟩
theorem rs_loop (n : Nat) (y0 : Int) (y1 : List UInt8) (y2 : Int) (y3 : Bool) (y4 : Int) (ys : List (Rose Lab)) (hks : rightL 5 ys = true) (hcn : cntL ys ≤ n) (hc6 : cntL ys ≤ 1000000) (fs : List WFd) (hfs : fs.length ≤ 40) (hfb : (fs.all fun x => fieldB x) = true) (hmx : mxD fs ≤ 400) : ∀ (j i : Nat) (vs : List (Rose VLab)), i + j = fs.length → vs.length ≤ i → ∀ ex d, (Br.br (riseD fs i && (decS ys (fs.drop i)).isSome) (.leaf (.exit 0, ([.ptr 0 0, .ptr 1 0, .ptr 2 0], [some (.box [.j y0, .s y1, .j y2, .b y3, .j y4, .sl (.rose LCd) ys]), some (.box [.j 0, .s [], .j 0, .b false, .ref 3 0 0]), some (.box [.j 0, .s [], .j 0, .b true, .ref 4 0 (vs ++ (decS ys (fs.drop i)).getD []).length]), some (.row false none (.rose VCd) []), some (.row false none (.rose VCd) (vs ++ (decS ys (fs.drop i)).getD []))]))) (.leaf (.ret, ([.ptr 0 0, .b false], [some (.box [.j 0, .s [], .j 0, .b false, .ref 1 0 0]), some (.row false none (.rose VCd) [])]))) : Br (Ex × Dt)).run = some (ex, d) → Runs Tryz.prog (Lqc0 n) (look [(6, rsE n)]) 0 (body Tryz.f145 0) (rsE n) ([.ptr 0 0, .ptr 1 0, .ref 2 0 fs.length, .ptr 3 0, .ref 2 0 fs.length, .j (fs.length : Int), .j (i : Int)], [some (.box [.j y0, .s y1, .j y2, .b y3, .j y4, .sl (.rose LCd) ys]), some (.box [.j 0, .s [], .j 0, .b false, .ref 4 0 0]), some (.row false none FCd fs), some (.box [.j 0, .s [], .j 0, .b true, .ref 5 0 vs.length]), some (.row false none (.rose VCd) []), some (.row false none (.rose VCd) vs)]) ex d
 | 0, i, vs, hi, hv, ex, d, h => by
  have hr := rs_round n y0 y1 y2 y3 y4 ys fs.length fs.length vs.length fs.length i fs vs
  try dsimp only [shr] at hr
  rw [ifB_false (dcF (by omega))] at hr
  rw [riseD_end (by omega), List.drop_eq_nil_of_le (by omega), decS] at h
  rw [br_t (by rfl), show (some ([] : List (Rose VLab))).getD [] = [] from rfl, List.append_nil] at h
  have h8 := leaf_some h
  obtain ⟨rfl, rfl⟩ := Prod.mk.inj h8
  exact .stop _ _ _ hr (by simp)
 | j + 1, i, vs, hi, hv, ex, d, h => by
  have hl : i < fs.length := by omega
  have hM : maxI = 9223372036854775807 := rfl
  have hr := rs_round n y0 y1 y2 y3 y4 ys fs.length fs.length vs.length fs.length i fs vs
  try dsimp only [shr] at hr
  have W1 : IntKind.i64.wrap ((i : Int) + 1) = ((i + 1 : Nat) : Int) := by rw [wrap_id (by omega) (by omega)]; omega
  have hlen := cnt_len ys
  have eln : ∀ x : Option (Ex × Dt), ifT (decide ((vs.length + 1) * 64 ≤ 140737488355328) && decide (vs.length + 1 ≤ maxI)) x = x := fun x => ifT_true (by simp only [anE, dcE]; omega)
  have hd := List.drop_eq_getElem_cons hl
  have hm := List.getElem_mem hl
  have hfbz := List.all_eq_true.1 hfb _ hm
  have hmz := mx_mem hm
  rw [ifB_true (dcT (by omega)), ifT_true (by simp only [anE, dcE]; omega), ntN, Nat.zero_add, gtE hl, ifSome_s] at hr
  simp only [W1, ifT_true (dcT (show ys.length ≤ maxI by omega)), rose_eta', nilT_eq, List.drop_zero, List.take_length] at hr
  have bad : ∀ {w}, roundK Tryz.prog (Lqc0 n) (look [(6, rsE n)]) 0 (body Tryz.f145 0) (rsE n) ([.ptr 0 0, .ptr 1 0, .ref 2 0 fs.length, .ptr 3 0, .ref 2 0 fs.length, .j (fs.length : Int), .j (i : Int)], [some (.box [.j y0, .s y1, .j y2, .b y3, .j y4, .sl (.rose LCd) ys]), some (.box [.j 0, .s [], .j 0, .b false, .ref 4 0 0]), some (.row false none FCd fs), some (.box [.j 0, .s [], .j 0, .b true, .ref 5 0 vs.length]), some (.row false none (.rose VCd) []), some (.row false none (.rose VCd) vs)]) = w → w = some ((.ret : Ex), (([.ptr 0 0, .b false] : List V), [some (.box [.j 0, .s [], .j 0, .b false, .ref 1 0 0]), some (.row false none (.rose VCd) [])])) → (riseD fs i && (decS ys (fs.drop i)).isSome) = false → Runs Tryz.prog (Lqc0 n) (look [(6, rsE n)]) 0 (body Tryz.f145 0) (rsE n) ([.ptr 0 0, .ptr 1 0, .ref 2 0 fs.length, .ptr 3 0, .ref 2 0 fs.length, .j (fs.length : Int), .j (i : Int)], [some (.box [.j y0, .s y1, .j y2, .b y3, .j y4, .sl (.rose LCd) ys]), some (.box [.j 0, .s [], .j 0, .b false, .ref 4 0 0]), some (.row false none FCd fs), some (.box [.j 0, .s [], .j 0, .b true, .ref 5 0 vs.length]), some (.row false none (.rose VCd) []), some (.row false none (.rose VCd) vs)]) ex d := fun e1 e2 e3 => by
   rw [br_f e3] at h
   have h8 := leaf_some h
   obtain ⟨rfl, rfl⟩ := Prod.mk.inj h8
   exact .stop _ _ _ (e1.trans e2) (by simp)
  have good : ∀ {w} (v : List (Rose VLab)), v.length ≤ 1 → roundK Tryz.prog (Lqc0 n) (look [(6, rsE n)]) 0 (body Tryz.f145 0) (rsE n) ([.ptr 0 0, .ptr 1 0, .ref 2 0 fs.length, .ptr 3 0, .ref 2 0 fs.length, .j (fs.length : Int), .j (i : Int)], [some (.box [.j y0, .s y1, .j y2, .b y3, .j y4, .sl (.rose LCd) ys]), some (.box [.j 0, .s [], .j 0, .b false, .ref 4 0 0]), some (.row false none FCd fs), some (.box [.j 0, .s [], .j 0, .b true, .ref 5 0 vs.length]), some (.row false none (.rose VCd) []), some (.row false none (.rose VCd) vs)]) = w → w = some ((.normal : Ex), (([.ptr 0 0, .ptr 1 0, .ref 2 0 fs.length, .ptr 3 0, .ref 2 0 fs.length, .j (fs.length : Int), .j ((i + 1 : Nat) : Int)], [some (.box [.j y0, .s y1, .j y2, .b y3, .j y4, .sl (.rose LCd) ys]), some (.box [.j 0, .s [], .j 0, .b false, .ref 4 0 0]), some (.row false none FCd fs), some (.box [.j 0, .s [], .j 0, .b true, .ref 5 0 (vs ++ v).length]), some (.row false none (.rose VCd) []), some (.row false none (.rose VCd) (vs ++ v))]) : Dt)) → riseI (nosF fs) i = true → (decS ys (fs.drop i)) = (decS ys (fs.drop (i + 1))).map (v ++ ·) → Runs Tryz.prog (Lqc0 n) (look [(6, rsE n)]) 0 (body Tryz.f145 0) (rsE n) ([.ptr 0 0, .ptr 1 0, .ref 2 0 fs.length, .ptr 3 0, .ref 2 0 fs.length, .j (fs.length : Int), .j (i : Int)], [some (.box [.j y0, .s y1, .j y2, .b y3, .j y4, .sl (.rose LCd) ys]), some (.box [.j 0, .s [], .j 0, .b false, .ref 4 0 0]), some (.row false none FCd fs), some (.box [.j 0, .s [], .j 0, .b true, .ref 5 0 vs.length]), some (.row false none (.rose VCd) []), some (.row false none (.rose VCd) vs)]) ex d := fun v hv1 e1 e2 e3 e4 => by
   refine .step _ _ _ _ (e1.trans e2) (rs_loop n y0 y1 y2 y3 y4 ys hks hcn hc6 fs hfs hfb hmx j (i + 1) (vs ++ v) (by omega) (by rw [List.length_append]; omega) ex d ?_)
   rw [riseD_step hl, e3, Bool.true_and, e4] at h
   refine Eq.trans ?_ h
   cases (decS ys (fs.drop (i + 1))) with
   | none => cases riseD fs (i + 1) <;> rfl
   | some us =>
    cases riseD fs (i + 1) with
    | false => rfl
    | true =>
     show some _ = some _
     rw [show (Option.map (v ++ ·) (some us)).getD [] = v ++ us from rfl, show (some us).getD [] = us from rfl, List.append_assoc]
  have hnos : (nosF fs)[i]? = some fs[i].1 := by unfold nosF; rw [List.getElem?_map, gtE hl]; rfl
  have tail : riseI (nosF fs) i = true → (∃ w, roundK Tryz.prog (Lqc0 n) (look [(6, rsE n)]) 0 (body Tryz.f145 0) (rsE n) ([.ptr 0 0, .ptr 1 0, .ref 2 0 fs.length, .ptr 3 0, .ref 2 0 fs.length, .j (fs.length : Int), .j (i : Int)], [some (.box [.j y0, .s y1, .j y2, .b y3, .j y4, .sl (.rose LCd) ys]), some (.box [.j 0, .s [], .j 0, .b false, .ref 4 0 0]), some (.row false none FCd fs), some (.box [.j 0, .s [], .j 0, .b true, .ref 5 0 vs.length]), some (.row false none (.rose VCd) []), some (.row false none (.rose VCd) vs)]) = w) := fun _ => ⟨_, rfl⟩
  by_cases hrise : riseI (nosF fs) i = true
  ·have hst : (decS ys (fs.drop i)) = (if hasNo fs[i].1 ys = true then (match decF (byR fs[i].1 ys) fs[i] with
    | some v => (decS ys (fs.drop (i + 1))).map (v :: ·)
    | none => none) else (decS ys (fs.drop (i + 1)))) := by rw [hd, decS]; all_goals rfl
   clear tail
   have hi0 : i = 0 ∨ (0 < i ∧ ∃ h1 : i - 1 < fs.length, fs[i - 1].1 < fs[i].1) := by
    rcases Nat.eq_zero_or_pos i with e | e
    ·exact .inl e
    ·refine .inr ⟨e, by omega, ?_⟩
     unfold riseI at hrise
     have h1 : (nosF fs)[i - 1]? = some (fs[i - 1]'(by omega)).1 := by unfold nosF; rw [List.getElem?_map, gtE (by omega)]; rfl
     have e0 : (i == 0) = false := beq_eq_false_iff_ne.2 (by omega)
     rw [e0, Bool.false_or, List.getD_eq_getElem?_getD, List.getD_eq_getElem?_getD, h1, hnos] at hrise
     exact of_decide_eq_true hrise
   have hr2 := hr
   clear hr
   rcases hi0 with h0 | ⟨h0, h1, h2⟩
   rotate_left
   ·have W2 : IntKind.i64.wrap ((i : Int) - 1) = ((i - 1 : Nat) : Int) := by rw [wrap_id (by omega) (by omega)]; omega
    rw [ifB_true (dcT (by omega)), W2, ifT_true (by simp only [anE, dcE]; omega), ntN, Nat.zero_add, gtE h1, ifSome_s, ifB_false (dcF (by omega))] at hr2
    generalize fs[i] = f at hr2 hst hfbz hmz hnos
    cases hn : hasNo f.1 ys with
    | false =>
     rw [hn] at hr2 hst
     refine good [] (by simp) hr2 ?_ hrise (hst.trans ?_)
     ·rw [List.append_nil]; rfl
     ·rw [if_neg (by simp)]
      cases (decS ys (fs.drop (i + 1))) <;> rfl
    | true =>
     rw [hn] at hr2 hst
     rw [if_pos rfl] at hst
     obtain ⟨bm, bn⟩ := byR_mem6 hn
     obtain ⟨hp, hrz⟩ := rightL_mem2 hks _ bm
     have hcz := cnt_mem bm
     generalize byR f.1 ys = p at hr2 hst bm bn hp hrz hcz
     unfold decF at hst
     rw [ifB_t] at hr2
     by_cases hk0 : f.2.1 = 0
     ·have hb0 : (f.2.1 == 0) = true := by rw [hk0]; rfl
      have hb2 : (f.2.1 == 2) = false := by rw [hk0]; rfl
      have hnb := fieldB_num hfbz hk0
      cases hfk : fkB p with
      | false =>
       rw [hfk] at hr2 hst
       rw [if_neg (by rw [hb0]; simp)] at hst
       rw [hb0] at hr2
       exact bad hr2 rfl (by rw [hst]; simp)
      | true =>
       rw [hfk] at hr2 hst
       rw [if_pos hb0, if_pos hb0, leaf_num hfk hnb] at hst
       rw [hb0, hb2] at hr2
       cases hlf : leafT f.2.2.1 p with
       | false =>
        rw [hlf] at hr2 hst
        rw [if_neg (by simp)] at hst
        exact bad hr2 rfl (by rw [hst]; simp)
       | true =>
        rw [hlf] at hr2 hst
        rw [if_pos rfl] at hst
        dsimp only at hst
        simp only [eln] at hr2
        exact good [.node (f.2.2.1, [], f.1, false, ()) []] (by simp) hr2 (by rw [List.length_append, List.length_singleton]; rfl) hrise hst
     ·have hk2 : f.2.1 = 2 := by rcases fieldB_kind hfbz with e | e; exact absurd e hk0; exact e
      have hb0 : (f.2.1 == 0) = false := beq_eq_false_iff_ne.2 hk0
      have hb2 : (f.2.1 == 2) = true := by rw [hk2]; rfl
      cases hfk : fkB p with
      | true =>
       rw [hfk] at hr2 hst
       rw [if_neg (by rw [hb0]; simp)] at hst
       rw [hb0] at hr2
       exact bad hr2 rfl (by rw [hst]; simp)
      | false =>
       rw [hfk] at hr2 hst
       rw [if_pos hb0, if_neg (by rw [hb0]; simp), decR_setNo] at hst
       rw [hb0, hb2] at hr2
       rw [show (!false == false) = false from rfl, ifB_f, ifB_t, ifT_true (dcT ⟨by omega, rfl, hrz, by omega, by omega⟩)] at hr2
       cases hdr : decR p f.2.2.2.1 0 with
       | none =>
        rw [hdr] at hr2 hst
        exact bad hr2 rfl (by rw [hst]; simp)
       | some v =>
        have hpt := pt_some hrz hfk hdr
        rw [hdr] at hr2 hst
        rw [hpt, leaf_byt hfk] at hr2
        dsimp only [Option.map_some] at hst
        simp only [eln] at hr2
        exact good [setNo f.1 v] (by simp) hr2 (by rw [List.length_append, List.length_singleton]; rfl) hrise hst
   ·rw [ifB_false (dcF (by omega))] at hr2
    generalize fs[i] = f at hr2 hst hfbz hmz hnos
    cases hn : hasNo f.1 ys with
    | false =>
     rw [hn] at hr2 hst
     refine good [] (by simp) hr2 ?_ hrise (hst.trans ?_)
     ·rw [List.append_nil]; rfl
     ·rw [if_neg (by simp)]
      cases (decS ys (fs.drop (i + 1))) <;> rfl
    | true =>
     rw [hn] at hr2 hst
     rw [if_pos rfl] at hst
     obtain ⟨bm, bn⟩ := byR_mem6 hn
     obtain ⟨hp, hrz⟩ := rightL_mem2 hks _ bm
     have hcz := cnt_mem bm
     generalize byR f.1 ys = p at hr2 hst bm bn hp hrz hcz
     unfold decF at hst
     rw [ifB_t] at hr2
     by_cases hk0 : f.2.1 = 0
     ·have hb0 : (f.2.1 == 0) = true := by rw [hk0]; rfl
      have hb2 : (f.2.1 == 2) = false := by rw [hk0]; rfl
      have hnb := fieldB_num hfbz hk0
      cases hfk : fkB p with
      | false =>
       rw [hfk] at hr2 hst
       rw [if_neg (by rw [hb0]; simp)] at hst
       rw [hb0] at hr2
       exact bad hr2 rfl (by rw [hst]; simp)
      | true =>
       rw [hfk] at hr2 hst
       rw [if_pos hb0, if_pos hb0, leaf_num hfk hnb] at hst
       rw [hb0, hb2] at hr2
       cases hlf : leafT f.2.2.1 p with
       | false =>
        rw [hlf] at hr2 hst
        rw [if_neg (by simp)] at hst
        exact bad hr2 rfl (by rw [hst]; simp)
       | true =>
        rw [hlf] at hr2 hst
        rw [if_pos rfl] at hst
        dsimp only at hst
        simp only [eln] at hr2
        exact good [.node (f.2.2.1, [], f.1, false, ()) []] (by simp) hr2 (by rw [List.length_append, List.length_singleton]; rfl) hrise hst
     ·have hk2 : f.2.1 = 2 := by rcases fieldB_kind hfbz with e | e; exact absurd e hk0; exact e
      have hb0 : (f.2.1 == 0) = false := beq_eq_false_iff_ne.2 hk0
      have hb2 : (f.2.1 == 2) = true := by rw [hk2]; rfl
      cases hfk : fkB p with
      | true =>
       rw [hfk] at hr2 hst
       rw [if_neg (by rw [hb0]; simp)] at hst
       rw [hb0] at hr2
       exact bad hr2 rfl (by rw [hst]; simp)
      | false =>
       rw [hfk] at hr2 hst
       rw [if_pos hb0, if_neg (by rw [hb0]; simp), decR_setNo] at hst
       rw [hb0, hb2] at hr2
       rw [show (!false == false) = false from rfl, ifB_f, ifB_t, ifT_true (dcT ⟨by omega, rfl, hrz, by omega, by omega⟩)] at hr2
       cases hdr : decR p f.2.2.2.1 0 with
       | none =>
        rw [hdr] at hr2 hst
        exact bad hr2 rfl (by rw [hst]; simp)
       | some v =>
        have hpt := pt_some hrz hfk hdr
        rw [hdr] at hr2 hst
        rw [hpt, leaf_byt hfk] at hr2
        dsimp only [Option.map_some] at hst
        simp only [eln] at hr2
        exact good [setNo f.1 v] (by simp) hr2 (by rw [List.length_append, List.length_singleton]; rfl) hrise hst
  ·have hrise : riseI (nosF fs) i = false := by simpa using hrise
   have h0 : 0 < i := by
    rcases Nat.eq_zero_or_pos i with e | e
    ·unfold riseI at hrise; rw [e] at hrise; simp at hrise
    ·exact e
   have h1 : i - 1 < fs.length := by omega
   have h2 : ¬ fs[i - 1].1 < fs[i].1 := by
    unfold riseI at hrise
    have h1 : (nosF fs)[i - 1]? = some (fs[i - 1]'(by omega)).1 := by unfold nosF; rw [List.getElem?_map, gtE (by omega)]; rfl
    have e0 : (i == 0) = false := beq_eq_false_iff_ne.2 (by omega)
    rw [e0, Bool.false_or, List.getD_eq_getElem?_getD, List.getD_eq_getElem?_getD, h1, hnos] at hrise
    exact of_decide_eq_false hrise
   have W2 : IntKind.i64.wrap ((i : Int) - 1) = ((i - 1 : Nat) : Int) := by rw [wrap_id (by omega) (by omega)]; omega
   rw [ifB_true (dcT (by omega)), W2, ifT_true (by simp only [anE, dcE]; omega), ntN, Nat.zero_add, gtE h1, ifSome_s, ifB_true (dcT (by omega))] at hr
   exact bad hr rfl (by rw [riseD_step hl, hrise]; rfl)


theorem rs_ok (n : Nat) : LoopsOk Tryz.prog (Lqc0 n) (look [(6, rsE n)]) 0 (Tryz.f145.body.getD .skip) := by
 refine loopsOk_one (a := body Tryz.f145 0) (by kernel_rfl) fun d ex d' h => ?_
 unfold rsE at h
 dsimp only at h
 split at h
 ·rename_i w w2 c i y0 y1 y2 y3 y4 ys fs m vs
  obtain ⟨hc, hx⟩ := need_some h
  obtain ⟨rfl, rfl, rfl, h0, h1, h2, rfl, h3, h4, h5, h6, h7, h8⟩ := of_decide_eq_true hc
  obtain ⟨i, rfl⟩ := Int.eq_ofNat_of_zero_le h0
  simp only [ntN] at h1 hx
  exact rs_loop n y0 y1 y2 y3 y4 ys h6 h7 h8 fs h2 h4 h5 (fs.length - i) i vs (by omega) (by omega) ex d' hx
 ·cases h
theorem rdf_400 {s : List UInt8} (h : s.length ≤ 400) : rdfP s = rdfQ s := by unfold rdfQ; rw [if_pos h]
theorem riseD_0 (l : List WFd) : riseD l 0 = rise (nosF l) := by
 unfold riseD rise nosF
 rw [List.drop_zero, List.length_map]
theorem rdfQ_all {s : List UInt8} {l : List WFd} (h : rdfQ s = some l) : (∀ x ∈ l, fieldB x = true ∧ x.2.2.2.1.length ≤ s.length) ∧ l.length ≤ 40 := by
 have e : rdfQ s = (rdP s).map fun l => l.map (·.1) := by
  unfold rdfQ rdP rdfP
  split
  ·exact rdF_map s _ _ []
  ·rfl
 have h2 := h
 rw [e] at h2
 obtain ⟨l', h3, rfl⟩ := Option.map_eq_some_iff.1 h2
 refine ⟨?_, by rw [List.length_map]; exact (rdP_len h3).1⟩
 unfold rdfQ rdfP at h
 split at h
 ·exact rdF_all s _ _ [] _ (by simp) h
 ·cases h
theorem decR_is {z : Rose Lab} (hr : rightR z = true) (h5 : z.lab.1 = 5) (s : List UInt8) : (decR z s 0).isSome = (match risF s with
   | some fs => (match decS z.kids fs with | some vs => mustsB vs z.kids | none => false)
   | none => false) := by
 rw [decR_ref hr h5]
 cases risF s with
 | none => rfl
 | some fs =>
  dsimp only
  cases decS z.kids fs with
  | none => rfl
  | some vs =>
   dsimp only
   cases mustsB vs z.kids <;> rfl
theorem rs_fun (n : Nat) (s : List UInt8) (y0 : Int) (y1 : List UInt8) (y2 : Int) (y3 : Bool) (y4 : Int) (ys : List (Rose Lab)) (hc : s.length ≤ 400 ∧ y0 = 5 ∧ rightR (.node (y0, y1, y2, y3, y4, ()) ys : Rose Lab) = true ∧ cntR (.node (y0, y1, y2, y3, y4, ()) ys : Rose Lab) ≤ (n + 1) ∧ cntR (.node (y0, y1, y2, y3, y4, ()) ys : Rose Lab) ≤ 1000000) : funC Tryz.prog (Lqc0 n) (look [(6, rsE n)]) Tryz.f145 [.s s, .agg [.j y0, .s y1, .j y2, .b y3, .j y4, .sl (.rose LCd) ys]] [] = some (.tup [.agg [.j (rdOut (.node (y0, y1, y2, y3, y4, ()) ys : Rose Lab) s).lab.1, .s (rdOut (.node (y0, y1, y2, y3, y4, ()) ys : Rose Lab) s).lab.2.1, .j (rdOut (.node (y0, y1, y2, y3, y4, ()) ys : Rose Lab) s).lab.2.2.1, .b (rdOut (.node (y0, y1, y2, y3, y4, ()) ys : Rose Lab) s).lab.2.2.2.1, .ref 0 0 (rdOut (.node (y0, y1, y2, y3, y4, ()) ys : Rose Lab) s).kids.length], .b (decR (.node (y0, y1, y2, y3, y4, ()) ys : Rose Lab) s 0).isSome], [some (.row false none (.rose VCd) (rdOut (.node (y0, y1, y2, y3, y4, ()) ys : Rose Lab) s).kids)]) := by
 obtain ⟨h1, h2, h3, h4, h5⟩ := hc
 rw [rs_tree]
 have hck : cntR (.node (y0, y1, y2, y3, y4, ()) ys : Rose Lab) = cntL ys + 1 := cnt_kids _
 have hM : maxI = 9223372036854775807 := rfl
 have hlen := cnt_len ys
 try dsimp only [shr]
 dsimp only [nilT, List.nil_append]
 repeat rw [List.drop_zero]
 rw [ifT_true (dcT (by omega)), rdf_400 h1, decR_is h3 h2]
 unfold rdOut risF
 cases hq : rdfQ s with
 | none => rfl
 | some fs =>
  obtain ⟨f1, f2⟩ := rdfQ_all hq
  have hmx : mxD fs ≤ 400 := mx_le fun f hf => by have := (f1 f hf).2; omega
  rw [show (some fs).isSome = true from rfl, show (some fs).getD [] = fs from rfl]
  rw [Bool.not_true, ifB_f, ifT_true (dcT ⟨by first | trivial | rfl, by first | trivial | rfl, by first | trivial | rfl, by omega, by omega, f2, by first | trivial | rfl, by omega, List.all_eq_true.2 fun x hx => (f1 x hx).1, hmx, right_msg h3 (show y0 ≠ 4 by omega), by omega, by omega⟩), riseD_0]
  dsimp only
  cases hr : rise (nosF fs) with
  | false => rw [if_neg (show ¬ (false = true) by simp)]; rfl
  | true =>
   rw [if_pos (rfl : true = true)]
   dsimp only [Rose.kids]
   have hds : ∀ vs, decS ys fs = some vs → vs.length ≤ fs.length := by
    intro vs
    clear hq f1 f2 hmx hr
    induction fs generalizing vs with
    | nil => intro h; rw [decS] at h; cases h; simp
    | cons f fs ih =>
     intro h
     rw [decS] at h
     split at h
     ·split at h
      ·obtain ⟨us, h8, rfl⟩ := Option.map_eq_some_iff.1 h
       have := ih us h8
       simp only [List.length_cons]; omega
      ·cases h
     ·have := ih vs h
      simp only [List.length_cons]; omega
   cases hd : decS ys fs with
   | none => rfl
   | some vs =>
    have hvl := hds vs hd
    rw [show (true && (some vs).isSome) = true from rfl, ifB_t]
    rw [show (some vs).getD [] = vs from rfl]
    rw [ifT_true (dcT ⟨by omega, by rw [List.drop_zero, List.take_length]; omega⟩), List.drop_zero, List.take_length]
    rfl
theorem rs_con (n : Nat) (ih : Contract Tryz.prog 181 (Ent.rd1 (ptN n)).F) : Contract Tryz.prog 145 (Ent.rd1 (rsN (n + 1))).F := by
 refine fun_contractC' (KnowsL.cons (enters_fn Tryz.func179 (by kernel_rfl) (by kernel_rfl)) rdf (KnowsL.cons (enters_fn Tryz.func127 (by kernel_rfl) (by kernel_rfl)) l2By (KnowsL.cons (enters_fn Tryz.func180 (by kernel_rfl) (by kernel_rfl)) sfk (KnowsL.cons (enters_fn Tryz.func181 (by kernel_rfl) (by kernel_rfl)) ih (KnowsL.cons (enters_fn Tryz.func182 (by kernel_rfl) (by kernel_rfl)) leafT_c (KnowsL.cons (enters_fn Tryz.func183 (by kernel_rfl) (by kernel_rfl)) l4Musts KnowsL.nil)))))).knows (Λ := (look [(6, rsE n)])) Tryz.func145 (c := Tryz.f145.body.getD .skip) (by kernel_rfl) fun vs bs r hq hv hb => ?_
 unfold Ent.F rsN at hq
 dsimp only at hq
 split at hq
 ·rename_i s y0 y1 y2 y3 y4 ys
  obtain ⟨hc, hx⟩ := need_some hq
  exact ⟨rs_ok n, (rs_fun n s y0 y1 y2 y3 y4 ys (of_decide_eq_true hc)).trans hx⟩
 ·cases hq
theorem pt_loop (n k : Nat) (s : List UInt8) (y0 : Int) (y1 : List UInt8) (y2 : Int) (y3 : Bool) (y4 : Int) (y : Rose Lab) (hy : rightR y = true) (hcn : cntR y ≤ n) (hc6 : cntR y ≤ 1000000) (hs : s.length ≤ 400) : ∀ (j a : Nat) (vs : List (Rose VLab)), s.length - a ≤ j → a ≤ s.length → vs.length ≤ a → ∀ ex d, (Br.br (decI (fkB y) (fun n => decNum y n 0) (fun d => decR y d 0) s (s.length - a) a).isSome (.leaf (.exit 1, ([.ptr 0 0, .ptr 1 0], [some (.box [.j 0, .s [], .j 0, .b false, .ref 2 0 0]), some (.box [.j 0, .s [], .j 0, .b true, .ref 3 0 (vs ++ (decI (fkB y) (fun n => decNum y n 0) (fun d => decR y d 0) s (s.length - a) a).getD []).length]), some (.row false none (.rose VCd) []), some (.row false none (.rose VCd) (vs ++ (decI (fkB y) (fun n => decNum y n 0) (fun d => decR y d 0) s (s.length - a) a).getD []))]))) (.leaf (.ret, ([.ptr 0 0, .b false], [some (.box [.j 0, .s [], .j 0, .b false, .ref 1 0 0]), some (.row false none (.rose VCd) [])]))) : Br (Ex × Dt)).run = some (ex, d) → Runs Tryz.prog (Lqc1 k n) (look [(8, ptE n)]) 0 (body Tryz.f181 0) (ptE n) ([.s s, .ptr 0 0, .ptr 1 0, .ptr 2 0, .j (a : Int)], [some (.box [.j y0, .s y1, .j y2, .b y3, .j y4, .sl (.rose LCd) [y]]), some (.box [.j 0, .s [], .j 0, .b false, .ref 3 0 0]), some (.box [.j 0, .s [], .j 0, .b true, .ref 4 0 vs.length]), some (.row false none (.rose VCd) []), some (.row false none (.rose VCd) vs)]) ex d := by
 intro j
 induction j with
 | zero =>
  intro a vs hj ha hv ex d h
  have hr := pt_round n k s y0 y1 y2 y3 y4 [y] vs.length a vs
  try dsimp only [shr] at hr
  rw [ifB_false (dcF (by omega))] at hr
  rw [decI_end (by omega), br_t (by rfl), show (some ([] : List (Rose VLab))).getD [] = [] from rfl, List.append_nil] at h
  have h8 := leaf_some h
  obtain ⟨rfl, rfl⟩ := Prod.mk.inj h8
  exact .stop _ _ _ hr (by simp)
 | succ j ih =>
  intro a vs hj ha hv ex d h
  by_cases hlt : a < s.length
  ·have hr := pt_round n k s y0 y1 y2 y3 y4 [y] vs.length a vs
   try dsimp only [shr] at hr
   have hM : maxI = 9223372036854775807 := rfl
   have ⟨⟨u1, u2⟩, u3, u4⟩ := tv_any s a
   have hst := decI_step (num := fkB y) (N := fun n => decNum y n 0) (D := fun d => decR y d 0) hlt
   have eln : ∀ x : Option (Ex × Dt), ifT (decide ((vs.length + 1) * 64 ≤ 140737488355328) && decide (vs.length + 1 ≤ maxI)) x = x := fun x => ifT_true (by simp only [anE, dcE]; omega)
   have bad : ∀ {w}, roundK Tryz.prog (Lqc1 k n) (look [(8, ptE n)]) 0 (body Tryz.f181 0) (ptE n) ([.s s, .ptr 0 0, .ptr 1 0, .ptr 2 0, .j (a : Int)], [some (.box [.j y0, .s y1, .j y2, .b y3, .j y4, .sl (.rose LCd) [y]]), some (.box [.j 0, .s [], .j 0, .b false, .ref 3 0 0]), some (.box [.j 0, .s [], .j 0, .b true, .ref 4 0 vs.length]), some (.row false none (.rose VCd) []), some (.row false none (.rose VCd) vs)]) = w → w = some ((.ret : Ex), (([.ptr 0 0, .b false] : List V), [some (.box [.j 0, .s [], .j 0, .b false, .ref 1 0 0]), some (.row false none (.rose VCd) [])])) → (decI (fkB y) (fun n => decNum y n 0) (fun d => decR y d 0) s (s.length - a) a) = none → Runs Tryz.prog (Lqc1 k n) (look [(8, ptE n)]) 0 (body Tryz.f181 0) (ptE n) ([.s s, .ptr 0 0, .ptr 1 0, .ptr 2 0, .j (a : Int)], [some (.box [.j y0, .s y1, .j y2, .b y3, .j y4, .sl (.rose LCd) [y]]), some (.box [.j 0, .s [], .j 0, .b false, .ref 3 0 0]), some (.box [.j 0, .s [], .j 0, .b true, .ref 4 0 vs.length]), some (.row false none (.rose VCd) []), some (.row false none (.rose VCd) vs)]) ex d := fun e1 e2 e3 => by
    rw [e3, br_f (by rfl)] at h
    have h8 := leaf_some h
    obtain ⟨rfl, rfl⟩ := Prod.mk.inj h8
    exact .stop _ _ _ (e1.trans e2) (by simp)
   have good : ∀ {w} (b : Nat) (v : Rose VLab), a < b → b ≤ s.length → roundK Tryz.prog (Lqc1 k n) (look [(8, ptE n)]) 0 (body Tryz.f181 0) (ptE n) ([.s s, .ptr 0 0, .ptr 1 0, .ptr 2 0, .j (a : Int)], [some (.box [.j y0, .s y1, .j y2, .b y3, .j y4, .sl (.rose LCd) [y]]), some (.box [.j 0, .s [], .j 0, .b false, .ref 3 0 0]), some (.box [.j 0, .s [], .j 0, .b true, .ref 4 0 vs.length]), some (.row false none (.rose VCd) []), some (.row false none (.rose VCd) vs)]) = w → w = some ((.normal : Ex), (([.s s, .ptr 0 0, .ptr 1 0, .ptr 2 0, .j (b : Int)], [some (.box [.j y0, .s y1, .j y2, .b y3, .j y4, .sl (.rose LCd) [y]]), some (.box [.j 0, .s [], .j 0, .b false, .ref 3 0 0]), some (.box [.j 0, .s [], .j 0, .b true, .ref 4 0 (vs ++ [v]).length]), some (.row false none (.rose VCd) []), some (.row false none (.rose VCd) (vs ++ [v]))]) : Dt)) → (decI (fkB y) (fun n => decNum y n 0) (fun d => decR y d 0) s (s.length - a) a) = (decI (fkB y) (fun n => decNum y n 0) (fun d => decR y d 0) s (s.length - b) b).map (v :: ·) → Runs Tryz.prog (Lqc1 k n) (look [(8, ptE n)]) 0 (body Tryz.f181 0) (ptE n) ([.s s, .ptr 0 0, .ptr 1 0, .ptr 2 0, .j (a : Int)], [some (.box [.j y0, .s y1, .j y2, .b y3, .j y4, .sl (.rose LCd) [y]]), some (.box [.j 0, .s [], .j 0, .b false, .ref 3 0 0]), some (.box [.j 0, .s [], .j 0, .b true, .ref 4 0 vs.length]), some (.row false none (.rose VCd) []), some (.row false none (.rose VCd) vs)]) ex d := fun b v k1 k2 e1 e2 e4 => by
    refine .step _ _ _ _ (e1.trans e2) (ih b (vs ++ [v]) (by omega) k2 (by rw [List.length_append, List.length_singleton]; omega) ex d ?_)
    rw [e4] at h
    refine Eq.trans ?_ h
    cases (decI (fkB y) (fun n => decNum y n 0) (fun d => decR y d 0) s (s.length - b) b) with
    | none => rfl
    | some us =>
     show some _ = some _
     rw [show (Option.map (v :: ·) (some us)).getD [] = v :: us from rfl, show (some us).getD [] = us from rfl, List.append_assoc]
     rfl
   rw [ifB_true (dcT (by omega)), ifT_true (dcT (by omega)), ntN] at hr
   simp only [nilT_eq, List.drop_zero, List.take_length, rose_eta'] at hr
   cases h3 : tvI3 (tvAt s a) with
   | false =>
    rw [h3] at hr
    refine bad hr rfl (hst.trans ?_)
    have hb : (tbAt s a).2.2 = false := by unfold tbAt; dsimp only; rw [if_neg (fun hh => by rw [h3] at hh; cases hh.1)]
    cases fkB y with
    | true =>
     dsimp only
     cases decNum y (unf (tvI1 (tvAt s a))) 0 with
     | none => rfl
     | some v => dsimp only; rw [h3, if_neg (by simp)]
    | false => dsimp only; rw [hb]
   | true =>
    have e := tv_end h3
    obtain ⟨s1, s2⟩ := tvS_eq (a := a) h3
    rw [h3, Bool.not_true, ifB_f] at hr
    simp only [s1, s2] at hr
    rw [ifT_true (dcT (by omega)), ifT_true (by rfl), show [y][0]? = some y from rfl, ifSome_s] at hr
    cases hf : fkB y with
    | true =>
     rw [hf] at hr hst
     dsimp only at hst
     rw [Bool.not_true, ifB_f] at hr
     cases hnb : numB (unf (tvI1 (tvAt s a))) with
     | false =>
      rw [hnb] at hr
      have hn : decNum y (unf (tvI1 (tvAt s a))) 0 = none := by unfold decNum; rw [if_neg (fun hh => by rw [hnb] at hh; cases hh.1)]
      rw [hn] at hst
      exact bad hr rfl (by rw [hf]; exact hst)
     | true =>
      rw [hnb] at hr
      rw [leaf_num hf hnb, h3] at hst
      simp only [ifT_true (show (decide ((0 : Int) ≤ 0) && decide ((0 : Int) < (([y] : List (Rose Lab)).length : Int))) = true from rfl), show [y][0]? = some y from rfl, ifSome_s, rose_eta', eln] at hr
      cases hlf : leafT (unf (tvI1 (tvAt s a))) y with
      | false =>
       rw [hlf] at hr hst
       exact bad hr rfl (by rw [hf]; exact hst)
      | true =>
       rw [hlf] at hr hst
       refine good (tvI2 a (tvAt s a)).toNat (.node (unf (tvI1 (tvAt s a)), [], 0, false, ()) []) (by omega) (by omega) hr ?_ (by rw [hf]; exact hst)
       rw [show (((tvI2 a (tvAt s a)).toNat : Nat) : Int) = tvI2 a (tvAt s a) by omega, List.length_append, List.length_singleton]
       rfl
    | false =>
     rw [hf] at hr hst
     dsimp only at hst
     have W1 : IntKind.i64.wrap ((s.length : Int) - tvI2 a (tvAt s a)) = (s.length : Int) - tvI2 a (tvAt s a) := wrap_id (by omega) (by omega)
     have W2 : IntKind.i64.wrap (tvI2 a (tvAt s a) + tvI1 (tvAt s a)) = tvI2 a (tvAt s a) + tvI1 (tvAt s a) := wrap_id (by omega) (by omega)
     simp only [W1, W2] at hr
     rw [Bool.not_false, ifB_t] at hr
     by_cases hn : tvI1 (tvAt s a) ≤ s.length - tvI2 a (tvAt s a)
     ·have hb : tbAt s a = ((s.drop (tvI2 a (tvAt s a)).toNat).take (tvI1 (tvAt s a)).toNat, tvI2 a (tvAt s a) + tvI1 (tvAt s a), true) := by unfold tbAt; dsimp only; rw [if_pos ⟨h3, hn⟩]
      have hd8 : (tvI2 a (tvAt s a) + tvI1 (tvAt s a)).toNat - (tvI2 a (tvAt s a)).toNat = (tvI1 (tvAt s a)).toNat := by omega
      have htl := tb_len s a
      rw [hb] at hst htl
      dsimp only at hst htl
      rw [ifB_false (dcF (by omega)), ifT_true (by simp only [anE, dcE]; omega), hd8] at hr
      generalize (s.drop (tvI2 a (tvAt s a)).toNat).take (tvI1 (tvAt s a)).toNat = dta at hr hst htl
      simp only [ifT_true (show (decide ((0 : Int) ≤ 0) && decide ((0 : Int) < (([y] : List (Rose Lab)).length : Int))) = true from rfl), show [y][0]? = some y from rfl, ifSome_s, rose_eta', eln] at hr
      rw [ifT_true (dcT ⟨by omega, hf, hy, hcn, hc6⟩)] at hr
      cases hdr : decR y dta 0 with
      | none =>
       rw [hdr] at hr hst
       exact bad hr rfl (by rw [hf]; exact hst)
      | some v =>
       have hpt := pt_some hy hf hdr
       rw [hdr] at hr hst
       rw [hpt, leaf_byt hf] at hr
       refine good (tvI2 a (tvAt s a) + tvI1 (tvAt s a)).toNat v (by omega) (by omega) hr ?_ (by rw [hf]; exact hst)
       rw [show (((tvI2 a (tvAt s a) + tvI1 (tvAt s a)).toNat : Nat) : Int) = tvI2 a (tvAt s a) + tvI1 (tvAt s a) by omega, List.length_append, List.length_singleton]
       simp only [vrose_eta']
       rfl
     ·have hb : (tbAt s a).2.2 = false := by unfold tbAt; dsimp only; rw [if_neg (fun hh => hn hh.2)]
      rw [hb] at hst
      rw [ifB_true (dcT (by omega))] at hr
      exact bad hr rfl (by rw [hf]; exact hst)
  ·have hr := pt_round n k s y0 y1 y2 y3 y4 [y] vs.length a vs
   try dsimp only [shr] at hr
   rw [ifB_false (dcF (by omega))] at hr
   rw [decI_end (by omega), br_t (by rfl), show (some ([] : List (Rose VLab))).getD [] = [] from rfl, List.append_nil] at h
   have h8 := leaf_some h
   obtain ⟨rfl, rfl⟩ := Prod.mk.inj h8
   exact .stop _ _ _ hr (by simp)
theorem pt_ok (n k : Nat) : LoopsOk Tryz.prog (Lqc1 k n) (look [(8, ptE n)]) 0 (Tryz.f181.body.getD .skip) := by
 refine loopsOk_one (a := body Tryz.f181 0) (by kernel_rfl) fun d ex d' h => ?_
 unfold ptE at h
 dsimp only at h
 split at h
 ·rename_i s a y0 y1 y2 y3 y4 ys m vs
  obtain ⟨hc, hx⟩ := need_some h
  obtain ⟨h0, h1, h2, rfl, h3, h4, h5, h6, h7⟩ := of_decide_eq_true hc
  obtain ⟨a, rfl⟩ := Int.eq_ofNat_of_zero_le h0
  match ys, h4 with
  | [y], _ =>
   have e : cntL [y] = cntR y := by rw [cntL, cntL]; rfl
   simp only [ntN] at h1 hx
   exact pt_loop n k s y0 y1 y2 y3 y4 y (by simpa using h5) (by omega) (by omega) h2 _ a vs (Nat.le_refl _) h1 (by omega) ex d' hx
 ·cases h
theorem pt_fun (n : Nat) (s : List UInt8) (y0 : Int) (y1 : List UInt8) (y2 : Int) (y3 : Bool) (y4 : Int) (ys : List (Rose Lab)) (hc : s.length ≤ 400 ∧ fkB (.node (y0, y1, y2, y3, y4, ()) ys : Rose Lab) = false ∧ rightR (.node (y0, y1, y2, y3, y4, ()) ys : Rose Lab) = true ∧ cntR (.node (y0, y1, y2, y3, y4, ()) ys : Rose Lab) ≤ (n + 1) ∧ cntR (.node (y0, y1, y2, y3, y4, ()) ys : Rose Lab) ≤ 1000000) : funC Tryz.prog (look [(145, .rd1 (rsN (n + 1))), (210, .rd1 tvsG), (211, .rd1 unfG), (180, .rd1 sfkG), (181, .rd1 (ptN n)), (165, .rd1 numG), (182, .rd1 leafTG)]) (look [(8, ptE n)]) Tryz.f181 [.s s, .agg [.j y0, .s y1, .j y2, .b y3, .j y4, .sl (.rose LCd) ys]] [] = some (.tup [.agg [.j (ptOut (.node (y0, y1, y2, y3, y4, ()) ys : Rose Lab) s).lab.1, .s (ptOut (.node (y0, y1, y2, y3, y4, ()) ys : Rose Lab) s).lab.2.1, .j (ptOut (.node (y0, y1, y2, y3, y4, ()) ys : Rose Lab) s).lab.2.2.1, .b (ptOut (.node (y0, y1, y2, y3, y4, ()) ys : Rose Lab) s).lab.2.2.2.1, .ref 0 0 (ptOut (.node (y0, y1, y2, y3, y4, ()) ys : Rose Lab) s).kids.length], .b (decR (.node (y0, y1, y2, y3, y4, ()) ys : Rose Lab) s 0).isSome], [some (.row false none (.rose VCd) (ptOut (.node (y0, y1, y2, y3, y4, ()) ys : Rose Lab) s).kids)]) := by
 obtain ⟨h1, h2, h3, h4, h5⟩ := hc
 rw [pt_tree]
 have hck : cntR (.node (y0, y1, y2, y3, y4, ()) ys : Rose Lab) = cntL ys + 1 := cnt_kids _
 try dsimp only [shr]
 simp only [nilT_eq, List.nil_append, List.drop_zero]
 unfold ptOut
 rcases right_kind h3 h2 with q | q | q
 ·have q : y0 = 2 := q
  rw [ifB_true (beq_iff_eq.2 q), decR_text (show ((.node (y0, y1, y2, y3, y4, ()) ys : Rose Lab)).lab.1 = 2 from q), if_pos (show ((.node (y0, y1, y2, y3, y4, ()) ys : Rose Lab)).lab.1 = 2 from q)]
  by_cases q3 : s.length ≤ 30
  ·rw [if_pos q3, dcT (by omega)]; rfl
  ·rw [if_neg q3, dcF (by omega)]; rfl
 ·obtain ⟨k1, k2⟩ := right_list h3 q
  have k1 : ys.length = 1 := k1
  have k2 : ys.all rightR = true := k2
  have hq : y0 = 4 := q
  rw [ifB_false (beq_eq_false_iff_ne.2 (by omega)), ifB_false (beq_eq_false_iff_ne.2 (by omega)), decR_list q, if_neg (show ¬ ((.node (y0, y1, y2, y3, y4, ()) ys : Rose Lab)).lab.1 = 2 by rw [q]; decide), if_neg (show ¬ ((.node (y0, y1, y2, y3, y4, ()) ys : Rose Lab)).lab.1 = 5 by rw [q]; decide), ifT_true (dcT ⟨by omega, by omega, h1, by first | trivial | rfl, by omega, k1, k2, by omega, by omega⟩)]
  dsimp only [Rose.kids]
  match ys, k1 with
  | [y], _ =>
   rw [decH]
   show ifB (decI (fkB y) (fun n => decNum y n 0) (fun d => decR y d 0) s (s.length - 0) 0).isSome _ _ = _
   dsimp only [hd0]
   rw [Nat.sub_zero]
   cases decI (fkB y) (fun n => decNum y n 0) (fun d => decR y d 0) s s.length 0 <;> rfl
 ·have hq : y0 = 5 := q
  rw [ifB_false (beq_eq_false_iff_ne.2 (by omega)), ifB_true (beq_iff_eq.2 hq), if_neg (show ¬ ((.node (y0, y1, y2, y3, y4, ()) ys : Rose Lab)).lab.1 = 2 by rw [q]; decide), if_pos q, ifT_true (dcT ⟨h1, hq, h3, h4, h5⟩)]
theorem pt_con : ∀ n, (∀ m, m < n → Contract Tryz.prog 181 (Ent.rd1 (ptN m)).F) → Contract Tryz.prog 181 (Ent.rd1 (ptN n)).F
 | 0, _ => contract_no fun vs bs => by
  unfold Ent.F ptN
  dsimp only
  split
  ·rename_i s y0 y1 y2 y3 y4 ys
   have hz := cnt_pos (.node (y0, y1, y2, y3, y4, ()) ys : Rose Lab)
   have : decide (s.length ≤ 400 ∧ fkB (.node (y0, y1, y2, y3, y4, ()) ys : Rose Lab) = false ∧ rightR (.node (y0, y1, y2, y3, y4, ()) ys : Rose Lab) = true ∧ cntR (.node (y0, y1, y2, y3, y4, ()) ys : Rose Lab) ≤ 0 ∧ cntR (.node (y0, y1, y2, y3, y4, ()) ys : Rose Lab) ≤ 1000000) = false := dcF (by omega)
   rw [this]; rfl
  ·rfl
 | n + 1, ihs => by
  have ih := ihs n (Nat.lt_succ_self n)
  have hr := rs_con n ih
  refine fun_contractC' (KnowsL.cons (enters_fn Tryz.func145 (by kernel_rfl) (by kernel_rfl)) hr (KnowsL.cons (enters_fn Tryz.func210 (by kernel_rfl) (by kernel_rfl)) tvs (KnowsL.cons (enters_fn Tryz.func211 (by kernel_rfl) (by kernel_rfl)) sunf (KnowsL.cons (enters_fn Tryz.func180 (by kernel_rfl) (by kernel_rfl)) sfk (KnowsL.cons (enters_fn Tryz.func181 (by kernel_rfl) (by kernel_rfl)) ih (KnowsL.cons (enters_fn Tryz.func165 (by kernel_rfl) (by kernel_rfl)) l1Num (KnowsL.cons (enters_fn Tryz.func182 (by kernel_rfl) (by kernel_rfl)) leafT_c KnowsL.nil))))))).knows (Λ := (look [(8, ptE n)])) Tryz.func181 (c := Tryz.f181.body.getD .skip) (by kernel_rfl) fun vs bs r hq hv hb => ?_
  unfold Ent.F ptN at hq
  dsimp only at hq
  split at hq
  ·rename_i s y0 y1 y2 y3 y4 ys
   obtain ⟨hc, hx⟩ := need_some hq
   exact ⟨pt_ok n (n + 1), (pt_fun n s y0 y1 y2 y3 y4 ys (of_decide_eq_true hc)).trans hx⟩
  ·cases hq
theorem pt_all (n : Nat) : Contract Tryz.prog 181 (Ent.rd1 (ptN n)).F := Nat.strongRecOn n fun n h => pt_con n h
theorem rs_all (n : Nat) : Contract Tryz.prog 145 (Ent.rd1 (rsN (n + 1))).F := rs_con n (pt_all n)

def isvK (l : List Ty) (s : List UInt8) : Bool := decide (s.length ≤ 400) && kindB l
def isvB (l : List Ty) (s : List UInt8) : Bool := isvK l s && (decR (t2L l 0) s 0).isSome
def isvG : List V → List Blk → Br (V × List (Option Blk))
 | [.s s, .agg [.sl (.pair (.int .i64) (.pair .str (.pair (.int .i64) (.pair .bool (.pair (.int .i64) (.pair (.int .i64) .unit)))))) l]], [] => .need (decide (l.length ≤ 4000000000) && nmL l) (.leaf (.tup [.b (isvB l s), .b (isvK l s)], []))
 | _, _ => .no

theorem t2_good {l : List Ty} (h : kindB l = true) : goodR (t2L l 0) = true ∧ 0 < l.length ∧ l.length ≤ 30 := by
 have e := ((gsch_eq l).2 h)
 unfold kindB at h
 simp only [anE, dcE, beq_iff_eq] at h
 rw [← e]
 exact ⟨h.2, by omega, by omega⟩
theorem isv_tree (s : List UInt8) (l : List Ty) : funK Tryz.prog (look [(77, .rd1 gschG), (83, .rd1 l2TreeG), (145, .rd1 (rsN 1000001))]) (look []) Tryz.f99 [.s s, .agg [.sl TCd l]] [] =
 ((ifB (decide ((↑s.length : Int) > (400 : Int))) (some (V.tup [V.b false, V.b false], [])) (ifT (decide (l.length ≤ (4000000000 : Nat)) && nmL l) (ifB (!kindB l) (some
 (V.tup [V.b false, V.b false], [])) (ifT (decide ((0 : Int) ≤ (0 : Int) ∧ (0 : Nat) < l.length ∧ l.length ≤ (4000000000 : Nat))) (ifT (decide (s.length ≤ (400 : Nat) ∧
 (t2L l (0 : Nat)).lab.fst = (5 : Int) ∧ rightR (Rose.node ((t2L l (0 : Nat)).lab.fst, (t2L l (0 : Nat)).lab.snd.fst, (t2L l (0 : Nat)).lab.snd.snd.fst, (t2L l (0 :
 Nat)).lab.snd.snd.snd.fst, (t2L l (0 : Nat)).lab.snd.snd.snd.snd.fst, ()) (List.take (t2L l (0 : Nat)).kids.length (List.drop (0 : Nat) (t2L l (0 : Nat)).kids))) = true ∧
 cntR (Rose.node ((t2L l (0 : Nat)).lab.fst, (t2L l (0 : Nat)).lab.snd.fst, (t2L l (0 : Nat)).lab.snd.snd.fst, (t2L l (0 : Nat)).lab.snd.snd.snd.fst, (t2L l (0 :
 Nat)).lab.snd.snd.snd.snd.fst, ()) (List.take (t2L l (0 : Nat)).kids.length (List.drop (0 : Nat) (t2L l (0 : Nat)).kids))) ≤ (1000001 : Nat) ∧ cntR (Rose.node ((t2L l (0
 : Nat)).lab.fst, (t2L l (0 : Nat)).lab.snd.fst, (t2L l (0 : Nat)).lab.snd.snd.fst, (t2L l (0 : Nat)).lab.snd.snd.snd.fst, (t2L l (0 : Nat)).lab.snd.snd.snd.snd.fst, ())
 (List.take (t2L l (0 : Nat)).kids.length (List.drop (0 : Nat) (t2L l (0 : Nat)).kids))) ≤ (1000000 : Nat))) (some (V.tup [V.b (decR (Rose.node ((t2L l (0 : Nat)).lab.fst,
 (t2L l (0 : Nat)).lab.snd.fst, (t2L l (0 : Nat)).lab.snd.snd.fst, (t2L l (0 : Nat)).lab.snd.snd.snd.fst, (t2L l (0 : Nat)).lab.snd.snd.snd.snd.fst, ()) (List.take (t2L l
 (0 : Nat)).kids.length (List.drop (0 : Nat) (t2L l (0 : Nat)).kids))) s (0 : Int)).isSome, V.b true], []))))))) : _) := by kernel_rfl
theorem sisv : Contract Tryz.prog 99 (Ent.rd1 isvG).F := by
 refine fun_contract' (KnowsL.cons (enters_fn Tryz.func77 (by kernel_rfl) (by kernel_rfl)) sgsch (KnowsL.cons (enters_fn Tryz.func83 (by kernel_rfl) (by kernel_rfl)) l2Tree (KnowsL.cons (enters_fn Tryz.func145 (by kernel_rfl) (by kernel_rfl)) (rs_all 1000000) KnowsL.nil))).knows (Λ := look []) Tryz.func99 (c := Tryz.f99.body.getD .skip) (by kernel_rfl) fun vs bs r hq hv hb => ?_
 unfold Ent.F isvG at hq
 dsimp only at hq
 split at hq
 ·rename_i s l
  obtain ⟨hc, hx⟩ := need_some hq
  rw [anE, dcE] at hc
  refine ⟨loopsOk_nil _, (isv_tree s l).trans (Eq.trans ?_ hx)⟩
  try dsimp only [shr]
  show _ = some _
  unfold isvB isvK
  have hn : (decide (l.length ≤ 4000000000) && nmL l) = true := by rw [hc.2, dcT hc.1]; rfl
  by_cases q : s.length ≤ 400
  ·rw [ifB_false (dcF (by omega)), dcT q, Bool.true_and, hn, ifT_t]
   cases hk : kindB l with
   | false => rfl
   | true =>
    obtain ⟨h1, h2, h3⟩ := t2_good hk
    obtain ⟨g1, g2, g3⟩ := good_facts h1
    rw [Bool.not_true, ifB_f, ifT_true (dcT ⟨by omega, by omega, hc.1⟩)]
    simp only [List.drop_zero, List.take_length, rose_eta']
    rw [ifT_true (dcT ⟨q, g1, g2, by omega, by omega⟩)]
    rfl
  ·rw [ifB_true (dcT (by omega)), dcF q]
   rfl
 ·cases hq

def kpC : List V → List Blk → Br (V × List (Option Blk))
 | [.tp (.pair (.int .i64) (.pair .str (.pair (.int .i64) (.pair .bool (.pair (.int .i64) .unit))))) z 0, .bx [.i .i64 x] 0], [] => .leaf (.b (z.lab.2.2.1 == x), [])
 | _, _ => .no
def kpE  : LoopEnt := ⟨19, [0,1,4,7,8], [], [4], fun
 | ([.sl (.tree (.pair (.int .i64) (.pair .str (.pair (.int .i64) (.pair .bool (.pair (.int .i64) .unit)))))) l, .fn 178 [] [.ptr 0 0], .i .i64 r, .i .i64 k, .i .i64 i], [some (.box [.i .i64 x])]) =>
  .need (decide (0 ≤ i ∧ i.toNat ≤ l.length ∧ l.length ≤ maxI ∧ k = l.length)) (.br (decide (firstP (fun z : Rose Lab => z.lab.2.2.1 == x) i.toNat (l.drop i.toNat) < 0)) (.leaf (.exit 0, ([], [some (.box [.i .i64 x])]))) (.leaf (.ret, ([.i .i64 (firstP (fun z : Rose Lab => z.lab.2.2.1 == x) i.toNat (l.drop i.toNat))], [some (.box [.i .i64 x])]))))
 | _ => .no⟩
def kpiG  : List V → List Blk → Br (V × List (Option Blk))
 | [.sl (.tree (.pair (.int .i64) (.pair .str (.pair (.int .i64) (.pair .bool (.pair (.int .i64) .unit)))))) l, .fn 178 [] [.ptr 0 0]], [.box [.i .i64 x]] => .leaf (.i .i64 (firstP (fun z : Rose Lab => z.lab.2.2.1 == x) 0 l), [some (.box [.i .i64 x])])
 | _, _ => .no
def kpartG : List V → List Blk → Br (V × List (Option Blk))
 | [.tp (.pair (.int .i64) (.pair .str (.pair (.int .i64) (.pair .bool (.pair (.int .i64) .unit))))) z 0, .i .i64 x], [] => .need (decide (z.kids.length ≤ maxI)) (.br (hasNo x z.kids) (.leaf (.tp (.pair (.int .i64) (.pair .str (.pair (.int .i64) (.pair .bool (.pair (.int .i64) .unit))))) (byR x z.kids) 0, [])) (.leaf (.np, [])))
 | _, _ => .no
theorem kpC_con : Contract Tryz.prog 178 (Ent.rd1 kpC).F := by
 refine fun_contract' KnowsL.nil.knows (Λ := look []) Tryz.func178 (c := Tryz.f178.body.getD .skip) (by kernel_rfl) fun vs bs r hq hv hb => ?_
 unfold Ent.F kpC at hq
 dsimp only at hq
 split at hq
 ·rename_i z x
  refine ⟨loopsOk_nil _, Eq.trans ?_ hq⟩
  have e : funK Tryz.prog (look []) (look []) Tryz.f178 [.tp LCd z 0, .bx [.j x] 0] [] = ((some (V.b (z.lab.snd.snd.fst == x), [])) : _) := by kernel_rfl
  rw [e]
  rfl
 ·cases hq
theorem kp_round  (x : Int) (l : List (Rose Lab)) (r k i : Int) : roundK Tryz.prog (look [(178, .rd1 kpC)]) (look [(2, kpE)]) 1 (body Tryz.f177 0) kpE ([.sl (.tree LCd) l, .fn 178 [] [.ptr 0 0], .j r, .j k, .j i], [some (.box [.j x])]) =
 ((ifB (decide (i < k)) (ifT (decide ((0 : Int) ≤ i) && decide (i < (↑l.length : Int))) (ifSome l[i.toNat]? fun z => ifB ((Rose.lab z).snd.snd.fst == x) (some (Ex.ret, [V.i
 .i64 i], [some (Blk.box [V.j x])])) (some (Ex.normal, [V.sl LCd.tree l, V.fn 178 [] [V.ptr 0 0], V.j r, V.j k, V.i .i64
 (IntKind.i64.wrap (i + (1 : Int)))], [some (Blk.box [V.j x])])))) (some (Ex.exit 0, [], [some (Blk.box [V.j x])]))) : _) := by kernel_rfl
theorem kp_loop  (x : Int) {l : List (Rose Lab)} {r : Int} (hx : l.length ≤ maxI) : ∀ (j i : Nat), i + j = l.length → ∀ e d', (.br (decide (firstP (fun z : Rose Lab => z.lab.2.2.1 == x) i (l.drop i) < 0)) (.leaf (.exit 0, ([], [some (.box [.j x])]))) (.leaf (.ret, ([.j (firstP (fun z : Rose Lab => z.lab.2.2.1 == x) i (l.drop i))], [some (.box [.j x])]))) : Br (Ex × Dt)).run = some (e, d') →
  Runs Tryz.prog (look [(178, .rd1 kpC)]) (look [(2, kpE)]) 1 (body Tryz.f177 0) kpE ([.sl (.tree LCd) l, .fn 178 [] [.ptr 0 0], .j r, .j (l.length : Int), .j (i : Int)], [some (.box [.j x])]) e d'
 | 0, i, hi, e, d', h => by
  have e1 : l.drop i = [] := List.drop_eq_nil_of_le (by omega)
  rw [e1, br_run, firstP, if_pos (by omega)] at h
  cases h
  have hr := kp_round x l r l.length i
  rw [ifB_false (dcF (by omega))] at hr
  exact .stop _ _ _ hr (by simp)
 | j + 1, i, hi, e, d', h => by
  have h1 : i < l.length := by omega
  have hr := kp_round x l r l.length i
  rw [ifB_true (dcT (by omega)), ifT_true (by simp only [anE, dcE]; omega)] at hr
  simp only [ntN, gtE h1, ifSome_s, wrap_succ (n := i) (by omega)] at hr
  rw [List.drop_eq_getElem_cons h1, br_run, firstP] at h
  by_cases he : (fun z : Rose Lab => z.lab.2.2.1 == x) l[i] = true
  ·rw [if_pos he, if_neg (by omega)] at h
   cases h
   rw [ifB_true he] at hr
   exact .stop _ _ _ hr (by simp)
  ·rw [if_neg he] at h
   rw [ifB_false (by simpa using he)] at hr
   exact .step _ _ _ _ hr (kp_loop x hx j (i + 1) (by omega) e d' (by rw [br_run]; exact h))
theorem kp_ok  : LoopsOk Tryz.prog (look [(178, .rd1 kpC)]) (look [(2, kpE)]) 1 (Tryz.f177.body.getD .skip) := by
 refine loopsOk_one (a := body Tryz.f177 0) (by kernel_rfl) fun d e d' h => ?_
 unfold kpE at h
 dsimp only at h
 split at h
 ·obtain ⟨hc, h'⟩ := need_some h
  obtain ⟨h0, h1, h2, rfl⟩ := of_decide_eq_true hc
  obtain ⟨i, rfl⟩ := Int.eq_ofNat_of_zero_le h0
  exact kp_loop _  h2 _ i (Nat.add_sub_of_le h1) e d' h'
 ·cases h
theorem kp_fun  (x : Int) (l : List (Rose Lab)) (hx : l.length ≤ maxI) : funK Tryz.prog (look [(178, .rd1 kpC)]) (look [(2, kpE)]) Tryz.f177 [.sl (.tree LCd) l, .fn 178 [] [.ptr 0 0]] [.box [.j x]] = some (.j (firstP (fun z : Rose Lab => z.lab.2.2.1 == x) 0 l), [some (.box [.j x])]) := by
 have e : funK Tryz.prog (look [(178, .rd1 kpC)]) (look [(2, kpE)]) Tryz.f177 [.sl (.tree LCd) l, .fn 178 [] [.ptr 0 0]] [.box [.j x]] =
  ((ifT (decide ((0 : Int) ≤ (0 : Int) ∧ (0 : Nat) ≤ l.length ∧ l.length ≤ maxI ∧ (↑l.length : Int) = (↑l.length : Int))) (ifB (decide (firstP (fun z => z.lab.snd.snd.fst ==
 x) (0 : Nat) (List.drop (0 : Nat) l) < (0 : Int))) (some (V.j (-1), [some (Blk.box [V.j x])])) (some (V.j (firstP (fun z => z.lab.snd.snd.fst == x) (0 :
 Nat) (List.drop (0 : Nat) l)), [some (Blk.box [V.j x])])))) : _) := by kernel_rfl
 rw [e, ifT_true (dcT ⟨by omega, by omega, hx, rfl⟩)]
 simp only [Int.toNat_zero, List.drop_zero]
 by_cases q : firstP (fun z : Rose Lab => z.lab.2.2.1 == x) 0 l < 0
 ·rw [ifB_true (dcT q), firstP_neg _ _ _ q]
 ·rw [ifB_false (dcF q)]
theorem kp_idx  : Contract Tryz.prog 177 (Ent.own kpiG).F := by
 refine fun_contract' (KnowsL.cons (enters_fn Tryz.func178 (by kernel_rfl) (by kernel_rfl)) kpC_con KnowsL.nil).knows (Λ := (look [(2, kpE)])) Tryz.func177 (c := Tryz.f177.body.getD .skip) (by kernel_rfl) fun vs bs r h hv hb => ?_
 unfold Ent.F kpiG at h
 dsimp only at h
 split at h
 ·rename_i l x
  have h' := h
  exact ⟨kp_ok , (kp_fun x l (hv (.sl (.tree LCd) l) (by simp)).1).trans (by cases h'; rfl)⟩
 ·cases h
theorem kpart_tree (z : Rose Lab) (x : Int) : funK Tryz.prog (look [(177, .own kpiG)]) (look []) Tryz.f144 [.tp LCd z 0, .j x] [] =
 ((ifB (decide (firstP (fun z => z.lab.snd.snd.fst == x) (0 : Nat) z.kids < (0 : Int))) (some (V.np, [])) (ifT (decide ((0 : Int) ≤ firstP (fun z => z.lab.snd.snd.fst == x)
 (0 : Nat) z.kids) && decide (firstP (fun z => z.lab.snd.snd.fst == x) (0 : Nat) z.kids < (↑z.kids.length : Int))) (ifSome z.kids[(firstP (fun z => z.lab.snd.snd.fst == x)
 (0 : Nat) z.kids).toNat]? fun z => some (V.tp LCd z (0 : Nat), [])))) : _) := by kernel_rfl
theorem byR_find {x : Int} : ∀ {l : List (Rose Lab)} {y : Rose Lab}, l.find? (fun z => z.lab.2.2.1 == x) = some y → hasNo x l = true ∧ byR x l = y
 | [], y, h => by cases h
 | z :: l, y, h => by
  by_cases q : z.lab.2.2.1 = x
  ·have hb : (z.lab.2.2.1 == x) = true := by rw [q]; exact beq_self_eq_true _
   rw [List.find?_cons_of_pos (p := fun z : Rose Lab => z.lab.2.2.1 == x) hb] at h
   refine ⟨hasNo_iff.2 ⟨z, by simp, q⟩, ?_⟩
   rw [byR, if_pos q]
   exact Option.some.inj h
  ·have hb : ¬ (z.lab.2.2.1 == x) = true := by rw [beq_false_of_ne q]; simp
   rw [List.find?_cons_of_neg (p := fun z : Rose Lab => z.lab.2.2.1 == x) hb] at h
   obtain ⟨h1, h2⟩ := byR_find h
   have hne := hasNo_ne (ks := l) (z := z) (n := x) (Ne.symm q)
   rw [hne.1, hne.2]
   exact ⟨h1, h2⟩
theorem kpart : Contract Tryz.prog 144 (Ent.rd1 kpartG).F := by
 refine fun_contract' (KnowsL.cons (enters_fn Tryz.func177 (by kernel_rfl) (by kernel_rfl)) kp_idx KnowsL.nil).knows (Λ := look []) Tryz.func144 (c := Tryz.f144.body.getD .skip) (by kernel_rfl) fun vs bs r hq hv hb => ?_
 unfold Ent.F kpartG at hq
 dsimp only at hq
 split at hq
 ·rename_i z x
  obtain ⟨hc, hx⟩ := need_some hq
  refine ⟨loopsOk_nil _, Eq.trans ?_ hx⟩
  rw [kpart_tree]
  have ha := firstP_any (fun z : Rose Lab => z.lab.2.2.1 == x) z.kids 0
  have hhas : hasNo x z.kids = z.kids.any (fun z : Rose Lab => z.lab.2.2.1 == x) := rfl
  by_cases q : firstP (fun z : Rose Lab => z.lab.2.2.1 == x) 0 z.kids < 0
  ·rw [ifB_true (dcT q), hhas, ← ha, dcF (by omega)]
   rfl
  ·obtain ⟨i, h1, h2, h3, h4⟩ := firstP_at (fun z : Rose Lab => z.lab.2.2.1 == x) z.kids 0 (by omega)
   obtain ⟨h5, h6⟩ := byR_find h4
   rw [ifB_false (dcF q), h2, Nat.zero_add, ifT_true (by simp only [anE, dcE]; omega), ntN, gtE h1, ifSome_s, h5, h6]
   rfl
 ·cases hq
mutual
def subR : Rose Lab → Rose Lab → Bool
 | .node y ks, a => if a.lab.1 ≠ y.1 ∨ y.2.2.2.2.1 < a.lab.2.2.2.2.1 then false else if y.1 = 4 then subH ks a.kids else subM a.kids ks
def subH : List (Rose Lab) → List (Rose Lab) → Bool
 | [], _ => true
 | p :: _, zs => subR p (hd0 zs)
def subM (zs : List (Rose Lab)) : List (Rose Lab) → Bool
 | [] => true
 | p :: ks => (hasNo p.lab.2.2.1 zs && ((!p.lab.2.2.2.1 || (byR p.lab.2.2.1 zs).lab.2.2.2.1) && subR p (byR p.lab.2.2.1 zs))) && subM zs ks
end
def subT (a : Rose Lab) (ks : List (Rose Lab)) (i : Nat) : Bool := if a.lab.1 = 4 then (if i = 0 then subH ks a.kids else true) else subM a.kids (ks.drop i)
def undN (n : Nat) : List V → List Blk → Br (V × List (Option Blk))
 | [.tp (.pair (.int .i64) (.pair .str (.pair (.int .i64) (.pair .bool (.pair (.int .i64) .unit))))) a 0, .tp (.pair (.int .i64) (.pair .str (.pair (.int .i64) (.pair .bool (.pair (.int .i64) .unit))))) b 0], [] => .need (decide (rightR a = true ∧ rightR b = true ∧ cntR b ≤ n ∧ cntR b ≤ 1000000 ∧ cntR a ≤ 1000000)) (.leaf (.b (subR b a), []))
 | _, _ => .no
def ssbN (n : Nat) : List V → List Blk → Br (V × List (Option Blk))
 | [.agg [.i .i64 x0, .s x1, .i .i64 x2, .b x3, .i .i64 x4, .sl (.rose (.pair (.int .i64) (.pair .str (.pair (.int .i64) (.pair .bool (.pair (.int .i64) .unit)))))) xs], .agg [.i .i64 y0, .s y1, .i .i64 y2, .b y3, .i .i64 y4, .sl (.rose (.pair (.int .i64) (.pair .str (.pair (.int .i64) (.pair .bool (.pair (.int .i64) .unit)))))) ys]], [] => .need (decide (rightR (.node (x0, x1, x2, x3, x4, ()) xs : Rose Lab) = true ∧ rightR (.node (y0, y1, y2, y3, y4, ()) ys : Rose Lab) = true ∧ cntR (.node (y0, y1, y2, y3, y4, ()) ys : Rose Lab) ≤ n ∧ cntR (.node (y0, y1, y2, y3, y4, ()) ys : Rose Lab) ≤ 1000000 ∧ cntR (.node (x0, x1, x2, x3, x4, ()) xs : Rose Lab) ≤ 1000000)) (.leaf (.b (subR (.node (y0, y1, y2, y3, y4, ()) ys : Rose Lab) (.node (x0, x1, x2, x3, x4, ()) xs : Rose Lab)), []))
 | _, _ => .no
def undE (n : Nat) : LoopEnt := ⟨83, [0,32,33,34], [], [4], fun
 | ([.tp (.pair (.int .i64) (.pair .str (.pair (.int .i64) (.pair .bool (.pair (.int .i64) .unit))))) a 0, .sl (.tree (.pair (.int .i64) (.pair .str (.pair (.int .i64) (.pair .bool (.pair (.int .i64) .unit)))))) ks, .i .i64 c, .i .i64 i], []) => .need (decide (0 ≤ i ∧ i.toNat ≤ ks.length ∧ c = ks.length ∧ rightR a = true ∧ ks.all rightR = true ∧ (a.lab.1 = 4 → ks.length = 1) ∧ cntL ks ≤ n ∧ cntL ks ≤ 1000000 ∧ cntR a ≤ 1000000)) (.br (subT a ks i.toNat) (.leaf (.exit 0, ([], []))) (.leaf (.ret, ([.b false], []))))
 | _ => .no⟩
def ssbE (n : Nat) : LoopEnt := ⟨70, [2,39,40,41], [], [4], fun
 | ([.ptr 0 0, .sl (.rose (.pair (.int .i64) (.pair .str (.pair (.int .i64) (.pair .bool (.pair (.int .i64) .unit)))))) ks, .i .i64 c, .i .i64 i], [some (.box [.i .i64 x0, .s x1, .i .i64 x2, .b x3, .i .i64 x4, .sl (.rose (.pair (.int .i64) (.pair .str (.pair (.int .i64) (.pair .bool (.pair (.int .i64) .unit)))))) xs])]) => .need (decide (0 ≤ i ∧ i.toNat ≤ ks.length ∧ c = ks.length ∧ rightL 5 xs = true ∧ ks.all rightR = true ∧ cntL ks ≤ n ∧ cntL ks ≤ 1000000 ∧ cntL xs ≤ 1000000)) (.br (subM xs (ks.drop i.toNat)) (.leaf (.exit 0, ([], []))) (.leaf (.ret, ([.b false], []))))
 | _ => .no⟩

abbrev Lqc2 (n : Nat) : FuncId → Option Ent := look [(144, .rd1 kpartG), (97, .rd1 (undN n))]
theorem und_round (n : Nat) (a : Rose Lab) (ks : List (Rose Lab)) (c i : Int) : roundK Tryz.prog (Lqc2 n) (look [(4, undE n)]) 0 (body Tryz.f97 0) (undE n) ([.tp LCd a 0, .sl (.tree LCd) ks, .j c, .j i], []) =
 ((ifB (decide (i < c)) (ifT (decide ((0 : Int) ≤ i) && decide (i < (↑ks.length : Int))) (ifSome ks[i.toNat]? fun z => ifB (a.lab.fst == (4 : Int)) (ifT (decide ((0 : Int) ≤
 i) && decide (i < (↑a.kids.length : Int))) (ifSome a.kids[i.toNat]? fun z_1 => ifT (decide (rightR z_1 = true ∧ rightR z = true ∧ cntR z ≤ n ∧ cntR z ≤ (1000000 : Nat) ∧
 cntR z_1 ≤ (1000000 : Nat))) (ifB (!subR z z_1) (some (Ex.ret, [V.b false], [])) (some (Ex.normal, [V.tp LCd a (0 : Nat), V.sl LCd.tree ks, V.j c, V.i .i64
 (IntKind.i64.wrap (i + (1 : Int)))], []))))) (ifT (decide (a.kids.length ≤ maxI)) (ifB (hasNo (Rose.lab z).snd.snd.fst a.kids) (ifB (Rose.lab z).snd.snd.snd.fst (ifB
 (!(byR (Rose.lab z).snd.snd.fst a.kids).lab.snd.snd.snd.fst) (some (Ex.ret, [V.b false], [])) (ifT (decide (rightR (byR (Rose.lab z).snd.snd.fst a.kids) = true ∧ rightR z
 = true ∧ cntR z ≤ n ∧ cntR z ≤ (1000000 : Nat) ∧ cntR (byR (Rose.lab z).snd.snd.fst a.kids) ≤ (1000000 : Nat))) (ifB (!subR z (byR (Rose.lab z).snd.snd.fst a.kids)) (some
 (Ex.ret, [V.b false], [])) (some (Ex.normal, [V.tp LCd a (0 : Nat), V.sl LCd.tree ks, V.j c, V.j (IntKind.i64.wrap (i + (1 : Int)))], []))))) (ifT (decide
 (rightR (byR (Rose.lab z).snd.snd.fst a.kids) = true ∧ rightR z = true ∧ cntR z ≤ n ∧ cntR z ≤ (1000000 : Nat) ∧ cntR (byR (Rose.lab z).snd.snd.fst a.kids) ≤ (1000000 :
 Nat))) (ifB (!subR z (byR (Rose.lab z).snd.snd.fst a.kids)) (some (Ex.ret, [V.b false], [])) (some (Ex.normal, [V.tp LCd a (0 : Nat), V.sl LCd.tree ks, V.j c, V.i
 .i64 (IntKind.i64.wrap (i + (1 : Int)))], []))))) (some (Ex.ret, [V.b false], [])))))) (some (Ex.exit 0, [], []))) : _) := by kernel_rfl
theorem und_tree (n : Nat) (a b : Rose Lab) : funC Tryz.prog (Lqc2 n) (look [(4, undE n)]) Tryz.f97 [.tp LCd a 0, .tp LCd b 0] [] =
 ((ifB (a.lab.fst != b.lab.fst) (some (V.b false, [])) (ifB (decide (a.lab.snd.snd.snd.snd.fst > b.lab.snd.snd.snd.snd.fst)) (some (V.b false, [])) (ifT (decide ((0 : Int) ≤
 (0 : Int) ∧ (0 : Nat) ≤ b.kids.length ∧ (↑b.kids.length : Int) = (↑b.kids.length : Int) ∧ rightR a = true ∧ b.kids.all rightR = true ∧ (a.lab.fst = (4 : (Cd.int
 .i64).den) → b.kids.length = (1 : Nat)) ∧ cntL b.kids ≤ n ∧ cntL b.kids ≤ (1000000 : Nat) ∧ cntR a ≤ (1000000 : Nat))) (ifB (subT a b.kids (0 : Nat)) (some (V.b true,
 [])) (some (V.b false, [])))))) : _) := by kernel_rfl
abbrev Lqc3 (n : Nat) : FuncId → Option Ent := look [(127, .rd1 byG), (82, .rd1 (ssbN n))]
theorem ssb_round (n : Nat) (x0 : Int) (x1 : List UInt8) (x2 : Int) (x3 : Bool) (x4 : Int) (xs : List (Rose Lab)) (ks : List (Rose Lab)) (c i : Int) : roundK Tryz.prog (Lqc3 n) (look [(6, ssbE n)]) 0 (body Tryz.f82 0) (ssbE n) ([.ptr 0 0, .sl (.rose LCd) ks, .j c, .j i], [some (.box [.j x0, .s x1, .j x2, .b x3, .j x4, .sl (.rose LCd) xs])]) =
 ((ifB (decide (i < c)) (ifT (decide ((0 : Int) ≤ i) && decide (i < (↑ks.length : Int))) (ifSome ks[i.toNat]? fun z => ifT (decide (xs.length ≤ maxI)) (ifB (hasNo (Rose.lab
 z).snd.snd.fst xs) (ifB (Rose.lab z).snd.snd.snd.fst (ifB (!(byR (Rose.lab z).snd.snd.fst xs).lab.snd.snd.snd.fst) (some (Ex.ret, [V.b false], [])) (ifT (decide (rightR
 (Rose.node ((byR (Rose.lab z).snd.snd.fst xs).lab.fst, (byR (Rose.lab z).snd.snd.fst xs).lab.snd.fst, (byR (Rose.lab z).snd.snd.fst xs).lab.snd.snd.fst, (byR (Rose.lab
 z).snd.snd.fst xs).lab.snd.snd.snd.fst, (byR (Rose.lab z).snd.snd.fst xs).lab.snd.snd.snd.snd.fst, ()) (byR (Rose.lab z).snd.snd.fst xs).kids) = true ∧ rightR (Rose.node
 ((Rose.lab z).fst, (Rose.lab z).snd.fst, (Rose.lab z).snd.snd.fst, (Rose.lab z).snd.snd.snd.fst, (Rose.lab z).snd.snd.snd.snd.fst, ()) (Rose.kids z)) = true ∧ cntR
 (Rose.node ((Rose.lab z).fst, (Rose.lab z).snd.fst, (Rose.lab z).snd.snd.fst, (Rose.lab z).snd.snd.snd.fst, (Rose.lab z).snd.snd.snd.snd.fst, ()) (Rose.kids z)) ≤ n ∧
 cntR (Rose.node ((Rose.lab z).fst, (Rose.lab z).snd.fst, (Rose.lab z).snd.snd.fst, (Rose.lab z).snd.snd.snd.fst, (Rose.lab z).snd.snd.snd.snd.fst, ()) (Rose.kids z)) ≤
 (1000000 : Nat) ∧ cntR (Rose.node ((byR (Rose.lab z).snd.snd.fst xs).lab.fst, (byR (Rose.lab z).snd.snd.fst xs).lab.snd.fst, (byR (Rose.lab z).snd.snd.fst
 xs).lab.snd.snd.fst, (byR (Rose.lab z).snd.snd.fst xs).lab.snd.snd.snd.fst, (byR (Rose.lab z).snd.snd.fst xs).lab.snd.snd.snd.snd.fst, ()) (byR (Rose.lab z).snd.snd.fst
 xs).kids) ≤ (1000000 : Nat))) (ifB (!subR (Rose.node ((Rose.lab z).fst, (Rose.lab z).snd.fst, (Rose.lab z).snd.snd.fst, (Rose.lab z).snd.snd.snd.fst, (Rose.lab
 z).snd.snd.snd.snd.fst, ()) (Rose.kids z)) (Rose.node ((byR (Rose.lab z).snd.snd.fst xs).lab.fst, (byR (Rose.lab z).snd.snd.fst xs).lab.snd.fst, (byR (Rose.lab
 z).snd.snd.fst xs).lab.snd.snd.fst, (byR (Rose.lab z).snd.snd.fst xs).lab.snd.snd.snd.fst, (byR (Rose.lab z).snd.snd.fst xs).lab.snd.snd.snd.snd.fst, ()) (byR (Rose.lab
 z).snd.snd.fst xs).kids)) (some (Ex.ret, [V.b false], [])) (some (Ex.normal, [V.ptr 0 0, V.sl LCd.rose ks, V.j c, V.j (IntKind.i64.wrap (i + (1 : Int)))], [some
 (Blk.box [V.j x0, V.s x1, V.j x2, V.b x3, V.j x4, V.sl LCd.rose xs])]))))) (ifT (decide (rightR (Rose.node ((byR (Rose.lab z).snd.snd.fst xs).lab.fst, (byR
 (Rose.lab z).snd.snd.fst xs).lab.snd.fst, (byR (Rose.lab z).snd.snd.fst xs).lab.snd.snd.fst, (byR (Rose.lab z).snd.snd.fst xs).lab.snd.snd.snd.fst, (byR (Rose.lab
 z).snd.snd.fst xs).lab.snd.snd.snd.snd.fst, ()) (byR (Rose.lab z).snd.snd.fst xs).kids) = true ∧ rightR (Rose.node ((Rose.lab z).fst, (Rose.lab z).snd.fst, (Rose.lab
 z).snd.snd.fst, (Rose.lab z).snd.snd.snd.fst, (Rose.lab z).snd.snd.snd.snd.fst, ()) (Rose.kids z)) = true ∧ cntR (Rose.node ((Rose.lab z).fst, (Rose.lab z).snd.fst,
 (Rose.lab z).snd.snd.fst, (Rose.lab z).snd.snd.snd.fst, (Rose.lab z).snd.snd.snd.snd.fst, ()) (Rose.kids z)) ≤ n ∧ cntR (Rose.node ((Rose.lab z).fst, (Rose.lab
 z).snd.fst, (Rose.lab z).snd.snd.fst, (Rose.lab z).snd.snd.snd.fst, (Rose.lab z).snd.snd.snd.snd.fst, ()) (Rose.kids z)) ≤ (1000000 : Nat) ∧ cntR (Rose.node ((byR
 (Rose.lab z).snd.snd.fst xs).lab.fst, (byR (Rose.lab z).snd.snd.fst xs).lab.snd.fst, (byR (Rose.lab z).snd.snd.fst xs).lab.snd.snd.fst, (byR (Rose.lab z).snd.snd.fst
 xs).lab.snd.snd.snd.fst, (byR (Rose.lab z).snd.snd.fst xs).lab.snd.snd.snd.snd.fst, ()) (byR (Rose.lab z).snd.snd.fst xs).kids) ≤ (1000000 : Nat))) (ifB (!subR (Rose.node
 ((Rose.lab z).fst, (Rose.lab z).snd.fst, (Rose.lab z).snd.snd.fst, (Rose.lab z).snd.snd.snd.fst, (Rose.lab z).snd.snd.snd.snd.fst, ()) (Rose.kids z)) (Rose.node ((byR
 (Rose.lab z).snd.snd.fst xs).lab.fst, (byR (Rose.lab z).snd.snd.fst xs).lab.snd.fst, (byR (Rose.lab z).snd.snd.fst xs).lab.snd.snd.fst, (byR (Rose.lab z).snd.snd.fst
 xs).lab.snd.snd.snd.fst, (byR (Rose.lab z).snd.snd.fst xs).lab.snd.snd.snd.snd.fst, ()) (byR (Rose.lab z).snd.snd.fst xs).kids)) (some (Ex.ret, [V.b false], [])) (some
 (Ex.normal, [V.ptr 0 0, V.sl LCd.rose ks, V.j c, V.j (IntKind.i64.wrap (i + (1 : Int)))], [some (Blk.box [V.j x0, V.s x1, V.j x2, V.b x3, V.j x4,
 V.sl LCd.rose xs])]))))) (some (Ex.ret, [V.b false], []))))) (some (Ex.exit 0, [], []))) : _) := by kernel_rfl
theorem ssb_tree (n : Nat) (x0 : Int) (x1 : List UInt8) (x2 : Int) (x3 : Bool) (x4 : Int) (xs : List (Rose Lab)) (y0 : Int) (y1 : List UInt8) (y2 : Int) (y3 : Bool) (y4 : Int) (ys : List (Rose Lab)) : funC Tryz.prog (Lqc3 n) (look [(6, ssbE n)]) Tryz.f82 [.agg [.j x0, .s x1, .j x2, .b x3, .j x4, .sl (.rose LCd) xs], .agg [.j y0, .s y1, .j y2, .b y3, .j y4, .sl (.rose LCd) ys]] [] =
 ((ifB (x0 != y0) (some (V.b false, [])) (ifB (x0 == (3 : Int)) (ifB (decide (x4 > y4)) (some (V.b false, [])) (ifB (x0 == (4 : Int)) (ifT (decide ((0 : Int) ≤ (0 : Int)) &&
 decide ((0 : Int) < (↑xs.length : Int))) (ifSome xs[(0 : Nat)]? fun z => ifT (decide ((0 : Int) ≤ (0 : Int)) && decide ((0 : Int) < (↑ys.length : Int))) (ifSome ys[(0 :
 Nat)]? fun z_1 => ifT (decide (rightR (Rose.node ((Rose.lab z).fst, (Rose.lab z).snd.fst, (Rose.lab z).snd.snd.fst, (Rose.lab z).snd.snd.snd.fst, (Rose.lab
 z).snd.snd.snd.snd.fst, ()) (Rose.kids z)) = true ∧ rightR (Rose.node ((Rose.lab z_1).fst, (Rose.lab z_1).snd.fst, (Rose.lab z_1).snd.snd.fst, (Rose.lab
 z_1).snd.snd.snd.fst, (Rose.lab z_1).snd.snd.snd.snd.fst, ()) (Rose.kids z_1)) = true ∧ cntR (Rose.node ((Rose.lab z_1).fst, (Rose.lab z_1).snd.fst, (Rose.lab
 z_1).snd.snd.fst, (Rose.lab z_1).snd.snd.snd.fst, (Rose.lab z_1).snd.snd.snd.snd.fst, ()) (Rose.kids z_1)) ≤ n ∧ cntR (Rose.node ((Rose.lab z_1).fst, (Rose.lab
 z_1).snd.fst, (Rose.lab z_1).snd.snd.fst, (Rose.lab z_1).snd.snd.snd.fst, (Rose.lab z_1).snd.snd.snd.snd.fst, ()) (Rose.kids z_1)) ≤ (1000000 : Nat) ∧ cntR (Rose.node
 ((Rose.lab z).fst, (Rose.lab z).snd.fst, (Rose.lab z).snd.snd.fst, (Rose.lab z).snd.snd.snd.fst, (Rose.lab z).snd.snd.snd.snd.fst, ()) (Rose.kids z)) ≤ (1000000 : Nat)))
 (some (V.b (subR (Rose.node ((Rose.lab z_1).fst, (Rose.lab z_1).snd.fst, (Rose.lab z_1).snd.snd.fst, (Rose.lab z_1).snd.snd.snd.fst, (Rose.lab z_1).snd.snd.snd.snd.fst,
 ()) (Rose.kids z_1)) (Rose.node ((Rose.lab z).fst, (Rose.lab z).snd.fst, (Rose.lab z).snd.snd.fst, (Rose.lab z).snd.snd.snd.fst, (Rose.lab z).snd.snd.snd.snd.fst, ())
 (Rose.kids z))), []))))) (ifT (decide ((0 : Int) ≤ (0 : Int) ∧ (0 : Nat) ≤ ys.length ∧ (↑ys.length : Int) = (↑ys.length : Int) ∧ rightL (5 : Int) xs = true ∧ ys.all
 rightR = true ∧ cntL ys ≤ n ∧ cntL ys ≤ (1000000 : Nat) ∧ cntL xs ≤ (1000000 : Nat))) (ifB (subM xs (List.drop (0 : Nat) ys)) (some (V.b true, [])) (some (V.b false,
 [])))))) (ifB (x0 == (4 : Int)) (ifT (decide ((0 : Int) ≤ (0 : Int)) && decide ((0 : Int) < (↑xs.length : Int))) (ifSome xs[(0 : Nat)]? fun z => ifT (decide ((0 : Int) ≤
 (0 : Int)) && decide ((0 : Int) < (↑ys.length : Int))) (ifSome ys[(0 : Nat)]? fun z_1 => ifT (decide (rightR (Rose.node ((Rose.lab z).fst, (Rose.lab z).snd.fst, (Rose.lab
 z).snd.snd.fst, (Rose.lab z).snd.snd.snd.fst, (Rose.lab z).snd.snd.snd.snd.fst, ()) (Rose.kids z)) = true ∧ rightR (Rose.node ((Rose.lab z_1).fst, (Rose.lab z_1).snd.fst,
 (Rose.lab z_1).snd.snd.fst, (Rose.lab z_1).snd.snd.snd.fst, (Rose.lab z_1).snd.snd.snd.snd.fst, ()) (Rose.kids z_1)) = true ∧ cntR (Rose.node ((Rose.lab z_1).fst,
 (Rose.lab z_1).snd.fst, (Rose.lab z_1).snd.snd.fst, (Rose.lab z_1).snd.snd.snd.fst, (Rose.lab z_1).snd.snd.snd.snd.fst, ()) (Rose.kids z_1)) ≤ n ∧ cntR (Rose.node
 ((Rose.lab z_1).fst, (Rose.lab z_1).snd.fst, (Rose.lab z_1).snd.snd.fst, (Rose.lab z_1).snd.snd.snd.fst, (Rose.lab z_1).snd.snd.snd.snd.fst, ()) (Rose.kids z_1)) ≤
 (1000000 : Nat) ∧ cntR (Rose.node ((Rose.lab z).fst, (Rose.lab z).snd.fst, (Rose.lab z).snd.snd.fst, (Rose.lab z).snd.snd.snd.fst, (Rose.lab z).snd.snd.snd.snd.fst, ())
 (Rose.kids z)) ≤ (1000000 : Nat))) (some (V.b (subR (Rose.node ((Rose.lab z_1).fst, (Rose.lab z_1).snd.fst, (Rose.lab z_1).snd.snd.fst, (Rose.lab z_1).snd.snd.snd.fst,
 (Rose.lab z_1).snd.snd.snd.snd.fst, ()) (Rose.kids z_1)) (Rose.node ((Rose.lab z).fst, (Rose.lab z).snd.fst, (Rose.lab z).snd.snd.fst, (Rose.lab z).snd.snd.snd.fst,
 (Rose.lab z).snd.snd.snd.snd.fst, ()) (Rose.kids z))), []))))) (ifT (decide ((0 : Int) ≤ (0 : Int) ∧ (0 : Nat) ≤ ys.length ∧ (↑ys.length : Int) = (↑ys.length : Int) ∧
 rightL (5 : Int) xs = true ∧ ys.all rightR = true ∧ cntL ys ≤ n ∧ cntL ys ≤ (1000000 : Nat) ∧ cntL xs ≤ (1000000 : Nat))) (ifB (subM xs (List.drop (0 : Nat) ys)) (some
 (V.b true, [])) (some (V.b false, []))))))) : _) := by kernel_rfl


theorem und_loop (n : Nat) (a : Rose Lab) (ha : rightR a = true) (ks : List (Rose Lab)) (hks : ks.all rightR = true) (h4 : a.lab.1 = 4 → ks.length = 1) (hcn : cntL ks ≤ n) (hc6 : cntL ks ≤ 1000000) (hca : cntR a ≤ 1000000) : ∀ (j i : Nat), i + j = ks.length → ∀ ex d, (Br.br (subT a ks i) (.leaf (.exit 0, ([], []))) (.leaf (.ret, ([.b false], []))) : Br (Ex × Dt)).run = some (ex, d) → Runs Tryz.prog (Lqc2 n) (look [(4, undE n)]) 0 (body Tryz.f97 0) (undE n) ([.tp LCd a 0, .sl (.tree LCd) ks, .j (ks.length : Int), .j (i : Int)], []) ex d
 | 0, i, hi, ex, d, h => by
  have hr := und_round n a ks ks.length i
  rw [ifB_false (dcF (by omega))] at hr
  have e : subT a ks i = true := by
   unfold subT
   rw [List.drop_eq_nil_of_le (by omega)]
   split
   ·rename_i q
    have := h4 q
    rw [if_neg (by omega)]
   ·rfl
  rw [br_t e] at h
  have h8 := leaf_some h
  obtain ⟨rfl, rfl⟩ := Prod.mk.inj h8
  exact .stop _ _ _ hr (by simp)
 | j + 1, i, hi, ex, d, h => by
  have hl : i < ks.length := by omega
  have hM : maxI = 9223372036854775807 := rfl
  have hr := und_round n a ks ks.length i
  have hlen := cnt_len ks
  have W1 : IntKind.i64.wrap ((i : Int) + 1) = ((i + 1 : Nat) : Int) := by rw [wrap_id (by omega) (by omega)]; omega
  have hd := List.drop_eq_getElem_cons hl
  have hm := List.getElem_mem hl
  have hrz := List.all_eq_true.1 hks _ hm
  have hcz := cnt_mem hm
  have hka := cnt_kids a
  have hla := cnt_len a.kids
  have bad : ∀ {w}, roundK Tryz.prog (Lqc2 n) (look [(4, undE n)]) 0 (body Tryz.f97 0) (undE n) ([.tp LCd a 0, .sl (.tree LCd) ks, .j (ks.length : Int), .j (i : Int)], []) = w → w = some ((.ret : Ex), (([.b false] : List V), ([] : List (Option Blk)))) → subT a ks i = false → Runs Tryz.prog (Lqc2 n) (look [(4, undE n)]) 0 (body Tryz.f97 0) (undE n) ([.tp LCd a 0, .sl (.tree LCd) ks, .j (ks.length : Int), .j (i : Int)], []) ex d := fun e1 e2 e3 => by
   rw [br_f e3] at h
   have h8 := leaf_some h
   obtain ⟨rfl, rfl⟩ := Prod.mk.inj h8
   exact .stop _ _ _ (e1.trans e2) (by simp)
  have good : ∀ {w}, roundK Tryz.prog (Lqc2 n) (look [(4, undE n)]) 0 (body Tryz.f97 0) (undE n) ([.tp LCd a 0, .sl (.tree LCd) ks, .j (ks.length : Int), .j (i : Int)], []) = w → w = some ((.normal : Ex), (([.tp LCd a 0, .sl (.tree LCd) ks, .j (ks.length : Int), .j ((i + 1 : Nat) : Int)], []) : Dt)) → subT a ks i = subT a ks (i + 1) → Runs Tryz.prog (Lqc2 n) (look [(4, undE n)]) 0 (body Tryz.f97 0) (undE n) ([.tp LCd a 0, .sl (.tree LCd) ks, .j (ks.length : Int), .j (i : Int)], []) ex d := fun e1 e2 e3 =>
   .step _ _ _ _ (e1.trans e2) (und_loop n a ha ks hks h4 hcn hc6 hca j (i + 1) (by omega) ex d (by rw [← e3]; exact h))
  rw [ifB_true (dcT (by omega)), ifT_true (by simp only [anE, dcE]; omega), ntN, gtE hl, ifSome_s, W1] at hr
  by_cases q4 : a.lab.1 = 4
  ·have hk1 := h4 q4
   obtain ⟨ka, kb⟩ := right_list ha q4
   obtain rfl : i = 0 := by omega
   have e0 : subT a ks 0 = subR ks[0] (hd0 a.kids) := by
    unfold subT
    rw [if_pos q4, if_pos rfl]
    match ks, hl with
    | p :: ks, _ => rw [subH]; rfl
   have e1 : subT a ks (0 + 1) = true := by unfold subT; rw [if_pos q4, if_neg (by omega)]
   have hz : 0 < a.kids.length := by omega
   have hx : a.kids[0] = hd0 a.kids := by
    match hk : a.kids, hz with
    | x :: xs, _ => rfl
   have hxr := List.all_eq_true.1 kb _ (List.getElem_mem hz)
   have hxc := cnt_mem (List.getElem_mem hz)
   rw [ifB_true (beq_iff_eq.2 q4), ifT_true (by simp only [anE, dcE]; omega), gtE hz, ifSome_s, ifT_true (dcT ⟨hxr, hrz, by omega, by omega, by omega⟩), hx] at hr
   cases hs : subR ks[0] (hd0 a.kids) with
   | false => rw [hs] at hr; exact bad hr rfl (e0.trans hs)
   | true => rw [hs] at hr; exact good hr rfl ((e0.trans hs).trans e1.symm)
  ·have hal := (right_kids ha).2
   have e0 : subT a ks i = ((hasNo ks[i].lab.2.2.1 a.kids && ((!ks[i].lab.2.2.2.1 || (byR ks[i].lab.2.2.1 a.kids).lab.2.2.2.1) && subR ks[i] (byR ks[i].lab.2.2.1 a.kids))) && subT a ks (i + 1)) := by
    unfold subT
    rw [if_neg q4, if_neg q4, hd, subM]
   rw [ifB_false (beq_eq_false_iff_ne.2 q4), ifT_true (dcT (by omega))] at hr
   generalize ks[i] = p at hr e0 hrz hcz
   cases hn : hasNo p.lab.2.2.1 a.kids with
   | false => rw [hn] at hr e0; exact bad hr rfl (by rw [e0]; rfl)
   | true =>
    obtain ⟨bm, bn⟩ := byR_mem6 hn
    have hxr := (rightL_mem2 hal _ bm).2
    have hxc := cnt_mem bm
    rw [hn] at hr e0
    simp only [ifB_t, ifT_true (dcT (show rightR (byR p.lab.2.2.1 a.kids) = true ∧ rightR p = true ∧ cntR p ≤ n ∧ cntR p ≤ 1000000 ∧ cntR (byR p.lab.2.2.1 a.kids) ≤ 1000000 from ⟨hxr, hrz, by omega, by omega, by omega⟩))] at hr
    cases hmu : p.lab.2.2.2.1 with
    | true =>
     rw [hmu] at hr e0
     cases hmx : (byR p.lab.2.2.1 a.kids).lab.2.2.2.1 with
     | false => rw [hmx] at hr e0; exact bad hr rfl (by rw [e0]; rfl)
     | true =>
      rw [hmx] at hr e0
      cases hs : subR p (byR p.lab.2.2.1 a.kids) with
      | false => rw [hs] at hr e0; exact bad hr rfl (by rw [e0]; rfl)
      | true => rw [hs] at hr e0; exact good hr rfl (by rw [e0]; rfl)
    | false =>
     rw [hmu] at hr e0
     cases hs : subR p (byR p.lab.2.2.1 a.kids) with
     | false => rw [hs] at hr e0; exact bad hr rfl (by rw [e0]; rfl)
     | true => rw [hs] at hr e0; exact good hr rfl (by rw [e0]; rfl)
theorem und_ok (n : Nat) : LoopsOk Tryz.prog (Lqc2 n) (look [(4, undE n)]) 0 (Tryz.f97.body.getD .skip) := by
 refine loopsOk_one (a := body Tryz.f97 0) (by kernel_rfl) fun d ex d' h => ?_
 unfold undE at h
 dsimp only at h
 split at h
 ·rename_i a ks c i
  obtain ⟨hc, hx⟩ := need_some h
  obtain ⟨h0, h1, rfl, h3, h4, h5, h6, h7, h8⟩ := of_decide_eq_true hc
  obtain ⟨i, rfl⟩ := Int.eq_ofNat_of_zero_le h0
  simp only [ntN] at h1 hx
  exact und_loop n a h3 ks h4 h5 h6 h7 h8 (ks.length - i) i (by omega) ex d' hx
 ·cases h
theorem subR_eq (b a : Rose Lab) : subR b a = if a.lab.1 ≠ b.lab.1 ∨ b.lab.2.2.2.2.1 < a.lab.2.2.2.2.1 then false else if b.lab.1 = 4 then subH b.kids a.kids else subM a.kids b.kids := by
 obtain ⟨y, ks⟩ := b
 rw [subR]; rfl
theorem right_all {z : Rose Lab} (h : rightR z = true) : z.kids.all rightR = true := List.all_eq_true.2 fun y hy => (rightL_mem2 (right_kids h).2 y hy).2
theorem und_con : ∀ n, (∀ m, m < n → Contract Tryz.prog 97 (Ent.rd1 (undN m)).F) → Contract Tryz.prog 97 (Ent.rd1 (undN n)).F
 | 0, _ => contract_no fun vs bs => by
  unfold Ent.F undN
  dsimp only
  split
  ·rename_i a b
   have hz := cnt_pos b
   have : decide (rightR a = true ∧ rightR b = true ∧ cntR b ≤ 0 ∧ cntR b ≤ 1000000 ∧ cntR a ≤ 1000000) = false := dcF (by omega)
   rw [this]; rfl
  ·rfl
 | n + 1, ihs => by
  have ih := ihs n (Nat.lt_succ_self n)
  refine fun_contractC' (KnowsL.cons (enters_fn Tryz.func144 (by kernel_rfl) (by kernel_rfl)) kpart (KnowsL.cons (enters_fn Tryz.func97 (by kernel_rfl) (by kernel_rfl)) ih KnowsL.nil)).knows (Λ := (look [(4, undE n)])) Tryz.func97 (c := Tryz.f97.body.getD .skip) (by kernel_rfl) fun vs bs r hq hv hb => ?_
  unfold Ent.F undN at hq
  dsimp only at hq
  split at hq
  ·rename_i a b
   obtain ⟨hc, hx⟩ := need_some hq
   obtain ⟨h1, h2, h3, h4, h5⟩ := of_decide_eq_true hc
   refine ⟨und_ok n, (und_tree n a b).trans (Eq.trans ?_ hx)⟩
   show _ = some _
   rw [subR_eq]
   have hkb := cnt_kids b
   by_cases q1 : a.lab.1 = b.lab.1
   ·rw [ifB_false (bne_eq_false_iff_eq.2 q1)]
    by_cases q2 : b.lab.2.2.2.2.1 < a.lab.2.2.2.2.1
    ·rw [ifB_true (dcT q2), if_pos (.inr q2)]
    ·rw [ifB_false (dcF q2), if_neg (by rintro (h | h); exact h q1; exact q2 h), ifT_true (dcT ⟨by omega, by omega, rfl, h1, right_all h2, fun h => (right_list h2 (q1.symm.trans h)).1, by omega, by omega, h5⟩)]
     have e : subT a b.kids 0 = if b.lab.1 = 4 then subH b.kids a.kids else subM a.kids b.kids := by
      unfold subT
      rw [q1, if_pos rfl, List.drop_zero]
     rw [e]
     cases (if b.lab.1 = 4 then subH b.kids a.kids else subM a.kids b.kids) <;> rfl
   ·rw [ifB_true (bne_iff_ne.2 q1), if_pos (.inl q1)]
  ·cases hq
theorem und_all (n : Nat) : Contract Tryz.prog 97 (Ent.rd1 (undN n)).F := Nat.strongRecOn n fun n h => und_con n h
theorem ssb_loop (n : Nat) (x0 : Int) (x1 : List UInt8) (x2 : Int) (x3 : Bool) (x4 : Int) (xs : List (Rose Lab)) (hxs : rightL 5 xs = true) (ks : List (Rose Lab)) (hks : ks.all rightR = true) (hcn : cntL ks ≤ n) (hc6 : cntL ks ≤ 1000000) (hca : cntL xs ≤ 1000000) : ∀ (j i : Nat), i + j = ks.length → ∀ ex d, (Br.br (subM xs (ks.drop i)) (.leaf (.exit 0, ([], []))) (.leaf (.ret, ([.b false], []))) : Br (Ex × Dt)).run = some (ex, d) → Runs Tryz.prog (Lqc3 n) (look [(6, ssbE n)]) 0 (body Tryz.f82 0) (ssbE n) ([.ptr 0 0, .sl (.rose LCd) ks, .j (ks.length : Int), .j (i : Int)], [some (.box [.j x0, .s x1, .j x2, .b x3, .j x4, .sl (.rose LCd) xs])]) ex d
 | 0, i, hi, ex, d, h => by
  have hr := ssb_round n x0 x1 x2 x3 x4 xs ks ks.length i
  rw [ifB_false (dcF (by omega))] at hr
  have e : subM xs (ks.drop i) = true := by rw [List.drop_eq_nil_of_le (by omega)]; rfl
  rw [br_t e] at h
  have h8 := leaf_some h
  obtain ⟨rfl, rfl⟩ := Prod.mk.inj h8
  exact .stop _ _ _ hr (by simp)
 | j + 1, i, hi, ex, d, h => by
  have hl : i < ks.length := by omega
  have hM : maxI = 9223372036854775807 := rfl
  have hr := ssb_round n x0 x1 x2 x3 x4 xs ks ks.length i
  try dsimp only [shr] at hr
  have hlen := cnt_len ks
  have hlx := cnt_len xs
  have W1 : IntKind.i64.wrap ((i : Int) + 1) = ((i + 1 : Nat) : Int) := by rw [wrap_id (by omega) (by omega)]; omega
  have hd := List.drop_eq_getElem_cons hl
  have hm := List.getElem_mem hl
  have hrz := List.all_eq_true.1 hks _ hm
  have hcz := cnt_mem hm
  have bad : ∀ {w}, roundK Tryz.prog (Lqc3 n) (look [(6, ssbE n)]) 0 (body Tryz.f82 0) (ssbE n) ([.ptr 0 0, .sl (.rose LCd) ks, .j (ks.length : Int), .j (i : Int)], [some (.box [.j x0, .s x1, .j x2, .b x3, .j x4, .sl (.rose LCd) xs])]) = w → w = some ((.ret : Ex), (([.b false] : List V), ([] : List (Option Blk)))) → subM xs (ks.drop i) = false → Runs Tryz.prog (Lqc3 n) (look [(6, ssbE n)]) 0 (body Tryz.f82 0) (ssbE n) ([.ptr 0 0, .sl (.rose LCd) ks, .j (ks.length : Int), .j (i : Int)], [some (.box [.j x0, .s x1, .j x2, .b x3, .j x4, .sl (.rose LCd) xs])]) ex d := fun e1 e2 e3 => by
   rw [br_f e3] at h
   have h8 := leaf_some h
   obtain ⟨rfl, rfl⟩ := Prod.mk.inj h8
   exact .stop _ _ _ (e1.trans e2) (by simp)
  have good : ∀ {w}, roundK Tryz.prog (Lqc3 n) (look [(6, ssbE n)]) 0 (body Tryz.f82 0) (ssbE n) ([.ptr 0 0, .sl (.rose LCd) ks, .j (ks.length : Int), .j (i : Int)], [some (.box [.j x0, .s x1, .j x2, .b x3, .j x4, .sl (.rose LCd) xs])]) = w → w = some ((.normal : Ex), (([.ptr 0 0, .sl (.rose LCd) ks, .j (ks.length : Int), .j ((i + 1 : Nat) : Int)], [some (.box [.j x0, .s x1, .j x2, .b x3, .j x4, .sl (.rose LCd) xs])]) : Dt)) → subM xs (ks.drop i) = subM xs (ks.drop (i + 1)) → Runs Tryz.prog (Lqc3 n) (look [(6, ssbE n)]) 0 (body Tryz.f82 0) (ssbE n) ([.ptr 0 0, .sl (.rose LCd) ks, .j (ks.length : Int), .j (i : Int)], [some (.box [.j x0, .s x1, .j x2, .b x3, .j x4, .sl (.rose LCd) xs])]) ex d := fun e1 e2 e3 =>
   .step _ _ _ _ (e1.trans e2) (ssb_loop n x0 x1 x2 x3 x4 xs hxs ks hks hcn hc6 hca j (i + 1) (by omega) ex d (by rw [← e3]; exact h))
  rw [ifB_true (dcT (by omega)), ifT_true (by simp only [anE, dcE]; omega), ntN, gtE hl, ifSome_s, W1, ifT_true (dcT (by omega))] at hr
  simp only [rose_eta'] at hr
  have e0 : subM xs (ks.drop i) = ((hasNo ks[i].lab.2.2.1 xs && ((!ks[i].lab.2.2.2.1 || (byR ks[i].lab.2.2.1 xs).lab.2.2.2.1) && subR ks[i] (byR ks[i].lab.2.2.1 xs))) && subM xs (ks.drop (i + 1))) := by rw [hd, subM]
  generalize ks[i] = p at hr e0 hrz hcz
  cases hn : hasNo p.lab.2.2.1 xs with
  | false => rw [hn] at hr e0; exact bad hr rfl (by rw [e0]; rfl)
  | true =>
   obtain ⟨bm, bn⟩ := byR_mem6 hn
   have hxr := (rightL_mem2 hxs _ bm).2
   have hxc := cnt_mem bm
   rw [hn] at hr e0
   simp only [ifB_t, ifT_true (dcT (show rightR (byR p.lab.2.2.1 xs) = true ∧ rightR p = true ∧ cntR p ≤ n ∧ cntR p ≤ 1000000 ∧ cntR (byR p.lab.2.2.1 xs) ≤ 1000000 from ⟨hxr, hrz, by omega, by omega, by omega⟩))] at hr
   cases hmu : p.lab.2.2.2.1 with
   | true =>
    rw [hmu] at hr e0
    cases hmx : (byR p.lab.2.2.1 xs).lab.2.2.2.1 with
    | false => rw [hmx] at hr e0; exact bad hr rfl (by rw [e0]; rfl)
    | true =>
     rw [hmx] at hr e0
     cases hs : subR p (byR p.lab.2.2.1 xs) with
     | false => rw [hs] at hr e0; exact bad hr rfl (by rw [e0]; rfl)
     | true => rw [hs] at hr e0; exact good hr rfl (by rw [e0]; rfl)
   | false =>
    rw [hmu] at hr e0
    cases hs : subR p (byR p.lab.2.2.1 xs) with
    | false => rw [hs] at hr e0; exact bad hr rfl (by rw [e0]; rfl)
    | true => rw [hs] at hr e0; exact good hr rfl (by rw [e0]; rfl)
theorem ssb_ok (n : Nat) : LoopsOk Tryz.prog (Lqc3 n) (look [(6, ssbE n)]) 0 (Tryz.f82.body.getD .skip) := by
 refine loopsOk_one (a := body Tryz.f82 0) (by kernel_rfl) fun d ex d' h => ?_
 unfold ssbE at h
 dsimp only at h
 split at h
 ·rename_i ks c i x0 x1 x2 x3 x4 xs
  obtain ⟨hc, hx⟩ := need_some h
  obtain ⟨h0, h1, rfl, h3, h4, h6, h7, h8⟩ := of_decide_eq_true hc
  obtain ⟨i, rfl⟩ := Int.eq_ofNat_of_zero_le h0
  simp only [ntN] at h1 hx
  exact ssb_loop n x0 x1 x2 x3 x4 xs h3 ks h4 h6 h7 h8 (ks.length - i) i (by omega) ex d' hx
 ·cases h
theorem right_most {z : Rose Lab} (h : rightR z = true) (h3 : z.lab.1 ≠ 3) : z.lab.2.2.2.2.1 = 0 := by
 obtain ⟨h1, _⟩ := right_kids h
 unfold partsB at h1
 by_cases a1 : z.lab.1 = 1 ∨ z.lab.1 = 2
 ·rw [if_pos a1, anE] at h1; simpa using h1.1
 ·rw [if_neg a1, if_neg h3] at h1
  by_cases a4 : z.lab.1 = 4
  ·rw [if_pos a4, anE] at h1; simpa using h1.1
  ·rw [if_neg a4] at h1
   by_cases a5 : z.lab.1 ≠ 5 ∨ z.lab.2.2.2.2.1 ≠ 0
   ·rw [if_pos a5] at h1; cases h1
   ·omega
theorem subR_node (x0 : Int) (x1 : List UInt8) (x2 : Int) (x3 : Bool) (x4 : Int) (xs : List (Rose Lab)) (y0 : Int) (y1 : List UInt8) (y2 : Int) (y3 : Bool) (y4 : Int) (ys : List (Rose Lab)) : subR (.node (y0, y1, y2, y3, y4, ()) ys : Rose Lab) (.node (x0, x1, x2, x3, x4, ()) xs : Rose Lab) = if x0 ≠ y0 ∨ y4 < x4 then false else if y0 = 4 then subH ys xs else subM xs ys := by rw [subR]; rfl
theorem ssb_con : ∀ n, (∀ m, m < n → Contract Tryz.prog 82 (Ent.rd1 (ssbN m)).F) → Contract Tryz.prog 82 (Ent.rd1 (ssbN n)).F
 | 0, _ => contract_no fun vs bs => by
  unfold Ent.F ssbN
  dsimp only
  split
  ·rename_i x0 x1 x2 x3 x4 xs y0 y1 y2 y3 y4 ys
   have hz := cnt_pos (.node (y0, y1, y2, y3, y4, ()) ys : Rose Lab)
   have : decide (rightR (.node (x0, x1, x2, x3, x4, ()) xs : Rose Lab) = true ∧ rightR (.node (y0, y1, y2, y3, y4, ()) ys : Rose Lab) = true ∧ cntR (.node (y0, y1, y2, y3, y4, ()) ys : Rose Lab) ≤ 0 ∧ cntR (.node (y0, y1, y2, y3, y4, ()) ys : Rose Lab) ≤ 1000000 ∧ cntR (.node (x0, x1, x2, x3, x4, ()) xs : Rose Lab) ≤ 1000000) = false := dcF (by omega)
   rw [this]; rfl
  ·rfl
 | n + 1, ihs => by
  have ih := ihs n (Nat.lt_succ_self n)
  refine fun_contractC' (KnowsL.cons (enters_fn Tryz.func127 (by kernel_rfl) (by kernel_rfl)) l2By (KnowsL.cons (enters_fn Tryz.func82 (by kernel_rfl) (by kernel_rfl)) ih KnowsL.nil)).knows (Λ := (look [(6, ssbE n)])) Tryz.func82 (c := Tryz.f82.body.getD .skip) (by kernel_rfl) fun vs bs r hq hv hb => ?_
  unfold Ent.F ssbN at hq
  dsimp only at hq
  split at hq
  ·rename_i x0 x1 x2 x3 x4 xs y0 y1 y2 y3 y4 ys
   obtain ⟨hc, hx⟩ := need_some hq
   obtain ⟨h1, h2, h3, h4, h5⟩ := of_decide_eq_true hc
   refine ⟨ssb_ok n, (ssb_tree n x0 x1 x2 x3 x4 xs y0 y1 y2 y3 y4 ys).trans (Eq.trans ?_ hx)⟩
   try dsimp only [shr]
   show _ = some _
   rw [subR_node]
   have hkb : cntR (.node (y0, y1, y2, y3, y4, ()) ys : Rose Lab) = cntL ys + 1 := cnt_kids _
   have hka : cntR (.node (x0, x1, x2, x3, x4, ()) xs : Rose Lab) = cntL xs + 1 := cnt_kids _
   have m1 := right_most h1
   have m2 := right_most h2
   have l1 := right_list h1
   have l2 := right_list h2
   have w1 := right_msg h1
   dsimp only [Rose.lab, Rose.kids] at m1 m2 l1 l2 w1
   simp only [rose_eta', List.drop_zero]
   by_cases q1 : x0 = y0
   ·subst q1
    rw [ifB_false (bne_eq_false_iff_eq.2 rfl)]
    by_cases q4 : x0 = 4
    ·obtain ⟨k1, k2⟩ := l1 q4
     obtain ⟨k3, k4⟩ := l2 q4
     rw [if_neg (by rintro (h | h); exact h rfl; have := m1 (by omega); have := m2 (by omega); omega), if_pos q4, ifB_false (beq_eq_false_iff_ne.2 (by omega)), ifB_true (beq_iff_eq.2 q4)]
     match xs, k1, ys, k3 with
     | [x], _, [y], _ =>
      have e1 : cntL [x] = cntR x := by rw [cntL, cntL]; rfl
      have e2 : cntL [y] = cntR y := by rw [cntL, cntL]; rfl
      rw [ifT_true (by rfl), show [x][0]? = some x from rfl, ifSome_s, ifT_true (by rfl), show [y][0]? = some y from rfl, ifSome_s]
      try simp only [rose_eta']
      rw [ifT_true (dcT ⟨by simpa using k2, by simpa using k4, by omega, by omega, by omega⟩), subH]
      rfl
    ·by_cases q3 : x0 = 3
     ·rw [ifB_true (beq_iff_eq.2 q3)]
      by_cases q5 : y4 < x4
      ·rw [ifB_true (dcT q5), if_pos (.inr q5)]
      ·rw [ifB_false (dcF q5), if_neg (by rintro (h | h); exact h rfl; exact q5 h), if_neg q4, ifB_false (beq_eq_false_iff_ne.2 q4)]
       rw [ifT_true (dcT ⟨by omega, by omega, by first | trivial | rfl, w1 q4, right_all h2, by omega, by omega, by omega⟩)]
       cases subM xs ys <;> rfl
     ·rw [ifB_false (beq_eq_false_iff_ne.2 q3), if_neg (by rintro (h | h); exact h rfl; have := m1 q3; have := m2 q3; omega), if_neg q4, ifB_false (beq_eq_false_iff_ne.2 q4)]
      rw [ifT_true (dcT ⟨by omega, by omega, by first | trivial | rfl, w1 q4, right_all h2, by omega, by omega, by omega⟩)]
      cases subM xs ys <;> rfl
   ·rw [ifB_true (bne_iff_ne.2 q1), if_pos (.inl q1)]
  ·cases hq
theorem ssb_all (n : Nat) : Contract Tryz.prog 82 (Ent.rd1 (ssbN n)).F := Nat.strongRecOn n fun n h => ssb_con n h

abbrev Wt := Int × Int × Int × List UInt8 × Int × Int × Unit
def testB (k n : Int) (s : List UInt8) : Bool := if 1 ≤ k ∧ k ≤ 3 then numB n && s == [] else if k = 4 then n == 0 && s == [] else if k = 5 then n == 0 && decide (s.length ≤ 30) else false
def wantB (w : Wt) (i : Int) : Bool :=
 if w.1 = 6 ∨ w.1 = 7 then decide (w.2.1 = 0 ∧ w.2.2.1 = 0 ∧ w.2.2.2.1 = [] ∧ 0 ≤ w.2.2.2.2.1 ∧ w.2.2.2.2.1 < w.2.2.2.2.2.1 ∧ w.2.2.2.2.2.1 < i)
 else if w.1 = 8 then decide (w.2.1 = 0 ∧ w.2.2.1 = 0 ∧ w.2.2.2.1 = [] ∧ 0 ≤ w.2.2.2.2.1 ∧ w.2.2.2.2.1 < i ∧ w.2.2.2.2.2.1 = 0)
 else decide (1 ≤ w.2.1 ∧ w.2.1 ≤ 30) && testB w.1 w.2.2.1 w.2.2.2.1 && decide (w.2.2.2.2.1 = 0 ∧ w.2.2.2.2.2.1 = 0)
def incN (u : List Int) (k : Nat) : List Int := u.set k (u.getD k 0 + 1)
def useW (w : Wt) (u : List Int) : List Int := if w.1 = 6 ∨ w.1 = 7 then incN (incN u w.2.2.2.2.1.toNat) w.2.2.2.2.2.1.toNat else if w.1 = 8 then incN u w.2.2.2.2.1.toNat else u
def wgo : Nat → List Wt → List Int → Option (List Int)
 | _, [], u => some u
 | i, w :: l, u => if wantB w (i : Int) = true then wgo (i + 1) l (useW w u) else none
def onesB (u : List Int) : Bool := u.all fun x => x == 1
def goodFB (l : List Wt) : Bool := decide (1 ≤ l.length ∧ l.length ≤ 20) && (match wgo 0 l (List.replicate l.length 0) with | some u => onesB (u.take (l.length - 1)) | none => false)
def wantG : List V → List Blk → Br (V × List (Option Blk))
 | [.agg [.i .i64 w0, .i .i64 w1, .i .i64 w2, .s w3, .i .i64 w4, .i .i64 w5], .i .i64 i], [] => .leaf (.b (wantB (w0, w1, w2, w3, w4, w5, ()) i), [])
 | _, _ => .no
def goodFG : List V → List Blk → Br (V × List (Option Blk))
 | [.agg [.sl (.pair (.int .i64) (.pair (.int .i64) (.pair (.int .i64) (.pair .str (.pair (.int .i64) (.pair (.int .i64) .unit)))))) l]], [] => .leaf (.b (goodFB l), [])
 | _, _ => .no
def gf1E : LoopEnt := ⟨62, [3,4,18,19,20], [3,4], [2], fun
 | ([.i .i64 n, .ref 0 0 m, .sl (.pair (.int .i64) (.pair (.int .i64) (.pair (.int .i64) (.pair .str (.pair (.int .i64) (.pair (.int .i64) .unit)))))) l, .i .i64 k, .i .i64 i], [some (.row false none (.int .i64) u)]) => .need (decide (0 ≤ i ∧ i.toNat ≤ l.length ∧ k = l.length ∧ m = l.length ∧ u.length = l.length ∧ l.length ≤ 20 ∧ (∀ x ∈ u, 0 ≤ x ∧ x ≤ 2 * i))) (.br (wgo i.toNat (l.drop i.toNat) u).isSome (.leaf (.exit 0, ([.i .i64 n, .ref 0 0 ((wgo i.toNat (l.drop i.toNat) u).getD []).length], [some (.row false none (.int .i64) ((wgo i.toNat (l.drop i.toNat) u).getD []))]))) (.leaf (.ret, ([.b false], []))))
 | _ => .no⟩
def gf2E : LoopEnt := ⟨62, [53,54,55], [], [2], fun
 | ([.ref 0 0 m, .i .i64 k, .i .i64 i], [some (.row false none (.int .i64) u)]) => .need (decide (0 ≤ i ∧ i.toNat ≤ m ∧ k = m ∧ m ≤ u.length ∧ u.length ≤ 20)) (.br (onesB ((u.take m).drop i.toNat)) (.leaf (.exit 2, ([], []))) (.leaf (.ret, ([.b false], []))))
 | _ => .no⟩

theorem ifB_bb {c x y : Bool} : ifB c (some (V.b x, ([] : List (Option Blk)))) (some (V.b y, [])) = some (V.b (bif c then x else y), []) := by cases c <;> rfl
theorem cond_iff {c x y : Bool} : ((bif c then x else y) = true) ↔ ((c = true ∧ x = true) ∨ (c = false ∧ y = true)) := by cases c <;> simp
theorem nil_len {α : Type} [BEq α] [LawfulBEq α] (l : List α) : (l == []) = decide (l.length = 0) := by cases l <;> simp
theorem swant_tree (w0 w1 w2 : Int) (w3 : List UInt8) (w4 w5 : Int) (i : Int) : funK Tryz.prog (look [(78, .rd1 withinG), (165, .rd1 numG)]) (look []) Tryz.f125 [.agg [.j w0, .j w1, .j w2, .s w3, .j w4, .j w5], .j i] [] =
 ((ifB (!decide ((1 : Int) ≤ w0 ∧ w0 ≤ (5 : Int)) == (w1 != (0 : Int))) (some (V.b false, [])) (ifB (!decide ((0 : Int) ≤ w1 ∧ w1 ≤ (30 : Int))) (some (V.b false, [])) (ifB
 (decide ((↑w3.length : Int) > (30 : Int))) (some (V.b false, [])) (ifB (!numB w2) (some (V.b false, [])) (ifB (decide (w0 > (3 : Int))) (ifB (w2 != (0 : Int)) (some (V.b
 false, [])) (ifB (w0 != (5 : Int)) (ifB (!w3 == nilT UInt8) (some (V.b false, [])) (ifB (decide ((1 : Int) ≤ w0 ∧ w0 ≤ (5 : Int))) (ifB (w4 == (0 : Int)) (some (V.b (w5
 == (0 : Int)), [])) (some (V.b false, []))) (ifB (w0 == (8 : Int)) (ifB (decide (w4 ≥ (0 : Int))) (ifB (decide (w4 < i)) (some (V.b (w5 == (0 : Int)), [])) (some (V.b
 false, []))) (some (V.b false, []))) (ifB (decide ((6 : Int) ≤ w0 ∧ w0 ≤ (7 : Int))) (ifB (decide (w4 ≥ (0 : Int))) (ifB (decide (w4 < w5)) (some (V.b (decide (w5 < i)),
 [])) (some (V.b false, []))) (some (V.b false, []))) (some (V.b false, [])))))) (ifB (decide ((1 : Int) ≤ w0 ∧ w0 ≤ (5 : Int))) (ifB (w4 == (0 : Int)) (some (V.b (w5 ==
 (0 : Int)), [])) (some (V.b false, []))) (ifB (w0 == (8 : Int)) (ifB (decide (w4 ≥ (0 : Int))) (ifB (decide (w4 < i)) (some (V.b (w5 == (0 : Int)), [])) (some (V.b false,
 []))) (some (V.b false, []))) (ifB (decide ((6 : Int) ≤ w0 ∧ w0 ≤ (7 : Int))) (ifB (decide (w4 ≥ (0 : Int))) (ifB (decide (w4 < w5)) (some (V.b (decide (w5 < i)), []))
 (some (V.b false, []))) (some (V.b false, []))) (some (V.b false, []))))))) (ifB (w0 != (5 : Int)) (ifB (!w3 == nilT UInt8) (some (V.b false, [])) (ifB (decide ((1 : Int)
 ≤ w0 ∧ w0 ≤ (5 : Int))) (ifB (w4 == (0 : Int)) (some (V.b (w5 == (0 : Int)), [])) (some (V.b false, []))) (ifB (w0 == (8 : Int)) (ifB (decide (w4 ≥ (0 : Int))) (ifB
 (decide (w4 < i)) (some (V.b (w5 == (0 : Int)), [])) (some (V.b false, []))) (some (V.b false, []))) (ifB (decide ((6 : Int) ≤ w0 ∧ w0 ≤ (7 : Int))) (ifB (decide (w4 ≥ (0
 : Int))) (ifB (decide (w4 < w5)) (some (V.b (decide (w5 < i)), [])) (some (V.b false, []))) (some (V.b false, []))) (some (V.b false, [])))))) (ifB (decide ((1 : Int) ≤
 w0 ∧ w0 ≤ (5 : Int))) (ifB (w4 == (0 : Int)) (some (V.b (w5 == (0 : Int)), [])) (some (V.b false, []))) (ifB (w0 == (8 : Int)) (ifB (decide (w4 ≥ (0 : Int))) (ifB (decide
 (w4 < i)) (some (V.b (w5 == (0 : Int)), [])) (some (V.b false, []))) (some (V.b false, []))) (ifB (decide ((6 : Int) ≤ w0 ∧ w0 ≤ (7 : Int))) (ifB (decide (w4 ≥ (0 :
 Int))) (ifB (decide (w4 < w5)) (some (V.b (decide (w5 < i)), [])) (some (V.b false, []))) (some (V.b false, []))) (some (V.b false, []))))))))))) : _) := by kernel_rfl
theorem swant_fun (w0 w1 w2 : Int) (w3 : List UInt8) (w4 w5 : Int) (i : Int) : funK Tryz.prog (look [(78, .rd1 withinG), (165, .rd1 numG)]) (look []) Tryz.f125 [.agg [.j w0, .j w1, .j w2, .s w3, .j w4, .j w5], .j i] [] = (.leaf (.b (wantB (w0, w1, w2, w3, w4, w5, ()) i), []) : Br (V × List (Option Blk))).run := by
 rw [swant_tree]
 have e3 : (w3 == nilT UInt8) = decide (w3.length = 0) := nil_len w3
 have e4 : (w3 == []) = decide (w3.length = 0) := nil_len w3
 have e5 : (w3 = []) ↔ w3.length = 0 := List.length_eq_zero_iff.symm
 simp only [ifB_bb, e3]
 refine congrArg (fun b => some (V.b b, ([] : List (Option Blk)))) ?_
 unfold wantB testB numB
 dsimp only
 simp only [e4, e5]
 generalize w3.length = n
 rw [Bool.eq_iff_iff]
 have hk : w0 = 1 ∨ w0 = 2 ∨ w0 = 3 ∨ w0 = 4 ∨ w0 = 5 ∨ w0 = 6 ∨ w0 = 7 ∨ w0 = 8 ∨ w0 < 1 ∨ 8 < w0 := by omega
 rcases hk with rfl | rfl | rfl | rfl | rfl | rfl | rfl | rfl | hk | hk
 iterate 8
  ·simp [cond_iff]
   try omega
 ·have f1 : ¬ (1 ≤ w0 ∧ w0 ≤ 5) := by omega
  have f2 : ¬ w0 = 8 := by omega
  have f3 : ¬ (6 ≤ w0 ∧ w0 ≤ 7) := by omega
  have f4 : ¬ (w0 = 6 ∨ w0 = 7) := by omega
  have f5 : ¬ (1 ≤ w0 ∧ w0 ≤ 3) := by omega
  have f6 : ¬ w0 = 4 := by omega
  have f7 : ¬ w0 = 5 := by omega
  rw [if_neg f4, if_neg f2, if_neg f5, if_neg f6, if_neg f7, dcF f1, dcF f3]
  simp [cond_iff, f2, f7]
 ·have f1 : ¬ (1 ≤ w0 ∧ w0 ≤ 5) := by omega
  have f2 : ¬ w0 = 8 := by omega
  have f3 : ¬ (6 ≤ w0 ∧ w0 ≤ 7) := by omega
  have f4 : ¬ (w0 = 6 ∨ w0 = 7) := by omega
  have f5 : ¬ (1 ≤ w0 ∧ w0 ≤ 3) := by omega
  have f6 : ¬ w0 = 4 := by omega
  have f7 : ¬ w0 = 5 := by omega
  rw [if_neg f4, if_neg f2, if_neg f5, if_neg f6, if_neg f7, dcF f1, dcF f3]
  simp [cond_iff, f2, f7]
theorem swant : Contract Tryz.prog 125 (Ent.rd1 wantG).F := by
 refine fun_contract' (KnowsL.cons (enters_fn Tryz.func78 (by kernel_rfl) (by kernel_rfl)) l1In (KnowsL.cons (enters_fn Tryz.func165 (by kernel_rfl) (by kernel_rfl)) l1Num KnowsL.nil)).knows (Λ := look []) Tryz.func125 (c := Tryz.f125.body.getD .skip) (by kernel_rfl) fun vs bs r' hq hv hb => ?_
 unfold Ent.F wantG at hq
 dsimp only at hq
 split at hq
 ·rename_i w0 w1 w2 w3 w4 w5 i
  exact ⟨loopsOk_nil _, (swant_fun w0 w1 w2 w3 w4 w5 i).trans hq⟩
 ·cases hq
abbrev Lqc4 : FuncId → Option Ent := look [(78, .rd1 withinG), (125, .rd1 wantG)]
theorem gf1_round (n : Int) (m : Nat) (l : List Wt) (k i : Int) (u : List Int) : roundK Tryz.prog Lqc4 (look [(6, gf1E), (16, gf2E)]) 0 (body Tryz.f80 0) gf1E ([.j n, .ref 0 0 m, .sl WCd l, .j k, .j i], [some (.row false none (.int .i64) u)]) =
 ((ifB (decide (i < k)) (ifT (decide ((0 : Int) ≤ i) && decide (i < (↑l.length : Int))) (ifSome l[i.toNat]? fun z => ifB (!wantB (z.fst, z.snd.fst, z.snd.snd.fst,
 z.snd.snd.snd.fst, z.snd.snd.snd.snd.fst, z.snd.snd.snd.snd.snd.fst, ()) i) (some (Ex.ret, [V.b false], [])) (ifB (decide (z.fst ≥ (6 : Int))) (ifT (decide ((0 : Int) ≤
 z.snd.snd.snd.snd.fst) && decide (z.snd.snd.snd.snd.fst < (↑m : Int))) (ifSome u[(0 : Nat) + Int.toNat z.snd.snd.snd.snd.fst]? fun z_1 => ifT (decide ((0 : Int) ≤
 z.snd.snd.snd.snd.fst) && decide (z.snd.snd.snd.snd.fst < (↑m : Int))) (ifSome u[(0 : Nat) + Int.toNat z.snd.snd.snd.snd.fst]? fun z_2 => ifB (decide ((6 : Int) ≤ z.fst ∧
 z.fst ≤ (7 : Int))) (ifT (decide ((0 : Int) ≤ z.snd.snd.snd.snd.snd.fst) && decide (z.snd.snd.snd.snd.snd.fst < (↑m : Int))) (ifSome (u.set ((0 : Nat) + Int.toNat
 z.snd.snd.snd.snd.fst) (IntKind.i64.wrap (z_1 + (1 : Int))))[(0 : Nat) + Int.toNat z.snd.snd.snd.snd.snd.fst]? fun z_3 => ifT (decide ((0 : Int) ≤
 z.snd.snd.snd.snd.snd.fst) && decide (z.snd.snd.snd.snd.snd.fst < (↑m : Int))) (ifSome (u.set ((0 : Nat) + Int.toNat z.snd.snd.snd.snd.fst) (IntKind.i64.wrap (z_1 + (1 :
 Int))))[(0 : Nat) + Int.toNat z.snd.snd.snd.snd.snd.fst]? fun z_4 => some (Ex.normal, [V.j n, V.ref 0 0 m, V.sl WCd l, V.j k, V.j (IntKind.i64.wrap (i + (1
 : Int)))], [some (Blk.row false none (Cd.int .i64) ((u.set ((0 : Nat) + Int.toNat z.snd.snd.snd.snd.fst) (IntKind.i64.wrap (z_1 + (1 : Int)))).set ((0 : Nat) + Int.toNat
 z.snd.snd.snd.snd.snd.fst) (IntKind.i64.wrap (z_3 + (1 : Int)))))])))) (some (Ex.normal, [V.j n, V.ref 0 0 m, V.sl WCd l, V.j k, V.j (IntKind.i64.wrap (i +
 (1 : Int)))], [some (Blk.row false none (Cd.int .i64) (u.set ((0 : Nat) + Int.toNat z.snd.snd.snd.snd.fst) (IntKind.i64.wrap (z_1 + (1 : Int)))))]))))) (ifB (decide ((6 :
 Int) ≤ z.fst ∧ z.fst ≤ (7 : Int))) (ifT (decide ((0 : Int) ≤ z.snd.snd.snd.snd.snd.fst) && decide (z.snd.snd.snd.snd.snd.fst < (↑m : Int))) (ifSome u[(0 : Nat) +
 Int.toNat z.snd.snd.snd.snd.snd.fst]? fun z_1 => ifT (decide ((0 : Int) ≤ z.snd.snd.snd.snd.snd.fst) && decide (z.snd.snd.snd.snd.snd.fst < (↑m : Int))) (ifSome u[(0 :
 Nat) + Int.toNat z.snd.snd.snd.snd.snd.fst]? fun z_2 => some (Ex.normal, [V.j n, V.ref 0 0 m, V.sl WCd l, V.j k, V.j (IntKind.i64.wrap (i + (1 : Int)))],
 [some (Blk.row false none (Cd.int .i64) (u.set ((0 : Nat) + Int.toNat z.snd.snd.snd.snd.snd.fst) (IntKind.i64.wrap (z_1 + (1 : Int)))))])))) (some (Ex.normal, [V.i .i64
 n, V.ref 0 0 m, V.sl WCd l, V.j k, V.j (IntKind.i64.wrap (i + (1 : Int)))], [some (Blk.row false none (Cd.int .i64) u)])))))) (some (Ex.exit 0, [V.j n,
 V.ref 0 0 m], [some (Blk.row false none (Cd.int .i64) u)]))) : _) := by kernel_rfl
theorem gf2_round (m : Nat) (k i : Int) (u : List Int) : roundK Tryz.prog Lqc4 (look [(6, gf1E), (16, gf2E)]) 0 (body Tryz.f80 1) gf2E ([.ref 0 0 m, .j k, .j i], [some (.row false none (.int .i64) u)]) =
 ((ifB (decide (i < k)) (ifT (decide ((0 : Int) ≤ i) && decide (i < (↑m : Int))) (ifSome u[(0 : Nat) + i.toNat]? fun z => ifB (z != (1 : Int)) (some (Ex.ret, [V.b false],
 [])) (some (Ex.normal, [V.ref 0 0 m, V.j k, V.j (IntKind.i64.wrap (i + (1 : Int)))], [some (Blk.row false none (Cd.int .i64) u)])))) (some (Ex.exit 2, [], []))) : _) := by kernel_rfl
theorem gf_tree (l : List Wt) : funK Tryz.prog Lqc4 (look [(6, gf1E), (16, gf2E)]) Tryz.f80 [.agg [.sl WCd l]] [] =
 ((ifB (!decide ((1 : Int) ≤ (↑l.length : Int) ∧ (↑l.length : Int) ≤ (20 : Int))) (some (V.b false, [])) (ifT (decide ((0 : Int) ≤ (↑l.length : Int)) && decide ((↑l.length :
 Int) ≤ (↑l.length : Int)) && decide ((↑l.length : Int) * (↑(8 : Nat) : Int) ≤ (140737488355328 : Int)) && decide ((↑l.length : Int) ≤ (9223372036854775807 : Int))) (ifT
 (decide ((0 : Int) ≤ (0 : Int) ∧ (0 : Nat) ≤ l.length ∧ (↑l.length : Int) = (↑l.length : Int) ∧ (↑l.length : Int).toNat = l.length ∧ (List.replicate (↑l.length :
 Int).toNat (0 : Int)).length = l.length ∧ l.length ≤ (20 : Nat) ∧ ∀ (x : (Cd.int .i64).den), x ∈ List.replicate (↑l.length : Int).toNat (0 : Int) → (0 : (Cd.int
 .i64).den) ≤ x ∧ x ≤ (0 : Int))) (ifB (wgo (0 : Nat) (List.drop (0 : Nat) l) (List.replicate (↑l.length : Int).toNat (0 : Int))).isSome (ifT (decide ((0 : Int) ≤
 IntKind.i64.wrap ((↑l.length : Int) - (1 : Int))) && decide (IntKind.i64.wrap ((↑l.length : Int) - (1 : Int)) ≤ (↑(((wgo (0 : Nat) (List.drop (0 : Nat) l) (List.replicate
 (↑l.length : Int).toNat (0 : Int))).getD (nilT Int)).length - (0 : Nat)) : Int))) (ifT (decide ((0 : Int) ≤ (0 : Int) ∧ (0 : Nat) ≤ (IntKind.i64.wrap ((↑l.length : Int) -
 (1 : Int))).toNat - (0 : Nat) ∧ (↑((IntKind.i64.wrap ((↑l.length : Int) - (1 : Int))).toNat - (0 : Nat)) : Int) = (↑((IntKind.i64.wrap ((↑l.length : Int) - (1 :
 Int))).toNat - (0 : Nat)) : Int) ∧ (IntKind.i64.wrap ((↑l.length : Int) - (1 : Int))).toNat - (0 : Nat) ≤ ((wgo (0 : Nat) (List.drop (0 : Nat) l) (List.replicate
 (↑l.length : Int).toNat (0 : Int))).getD (nilT Int)).length ∧ ((wgo (0 : Nat) (List.drop (0 : Nat) l) (List.replicate (↑l.length : Int).toNat (0 : Int))).getD (nilT
 Int)).length ≤ (20 : Nat))) (ifB (onesB (List.drop (0 : Nat) (List.take ((IntKind.i64.wrap ((↑l.length : Int) - (1 : Int))).toNat - (0 : Nat)) ((wgo (0 : Nat) (List.drop
 (0 : Nat) l) (List.replicate (↑l.length : Int).toNat (0 : Int))).getD (nilT Int))))) (some (V.b true, [])) (some (V.b false, []))))) (some (V.b false, [])))))) : _) := by kernel_rfl
theorem want_use {w : Wt} {i : Int} (h : wantB w i = true) : (w.1 = 6 ∨ w.1 = 7 → 0 ≤ w.2.2.2.2.1 ∧ w.2.2.2.2.1 < w.2.2.2.2.2.1 ∧ w.2.2.2.2.2.1 < i) ∧ (w.1 = 8 → 0 ≤ w.2.2.2.2.1 ∧ w.2.2.2.2.1 < i) ∧ (w.1 ≤ 8) := by
 unfold wantB at h
 split at h
 ·rename_i hk
  have h := of_decide_eq_true h
  exact ⟨fun _ => h.2.2.2, fun e => by omega, by omega⟩
 ·rename_i hk
  split at h
  ·have h := of_decide_eq_true h
   exact ⟨fun e => absurd e hk, fun _ => ⟨h.2.2.2.1, h.2.2.2.2.1⟩, by omega⟩
  ·rename_i hk2
   refine ⟨fun e => absurd e hk, fun e => absurd e hk2, ?_⟩
   simp only [anE] at h
   have := h.1.2
   unfold testB at this
   split at this
   ·omega
   ·split at this
    ·omega
    ·split at this
     ·omega
     ·cases this
theorem incN_len (u : List Int) (k : Nat) : (incN u k).length = u.length := by unfold incN; simp
theorem incN_le {u : List Int} {k : Nat} {b : Int} (h : ∀ x ∈ u, 0 ≤ x ∧ x ≤ b) (hk : k < u.length) : ∀ x ∈ incN u k, 0 ≤ x ∧ x ≤ b + 1 := by
 intro x hx
 unfold incN at hx
 rcases List.mem_or_eq_of_mem_set hx with hx | rfl
 ·have := h x hx; omega
 ·have e : u.getD k 0 = u[k] := by simp [hk]
  rw [e]
  have := h _ (List.getElem_mem hk)
  omega
theorem useW_le {w : Wt} {i : Int} {u : List Int} (h : wantB w i = true) (hi : i ≤ u.length) (hu : ∀ x ∈ u, 0 ≤ x ∧ x ≤ 2 * i) : (useW w u).length = u.length ∧ ∀ x ∈ useW w u, 0 ≤ x ∧ x ≤ 2 * (i + 1) := by
 obtain ⟨h1, h2, _⟩ := want_use h
 unfold useW
 split
 ·rename_i hk
  have := h1 hk
  refine ⟨by rw [incN_len, incN_len], ?_⟩
  have a := incN_le (incN_le hu (k := w.2.2.2.2.1.toNat) (by omega)) (k := w.2.2.2.2.2.1.toNat) (by rw [incN_len]; omega)
  exact fun x hx => by have := a x hx; omega
 ·split
  ·rename_i hk
   have := h2 hk
   refine ⟨by rw [incN_len], ?_⟩
   have a := incN_le hu (k := w.2.2.2.2.1.toNat) (by omega)
   exact fun x hx => by have := a x hx; omega
  ·exact ⟨rfl, fun x hx => by have := hu x hx; omega⟩
theorem gf1_one (n : Int) (l : List Wt) (i : Nat) (u : List Int) (hi : i < l.length) (hul : u.length = l.length) (hl : l.length ≤ 20) (hu : ∀ x ∈ u, 0 ≤ x ∧ x ≤ 2 * (i : Int)) :
  roundK Tryz.prog Lqc4 (look [(6, gf1E), (16, gf2E)]) 0 (body Tryz.f80 0) gf1E ([.j n, .ref 0 0 l.length, .sl WCd l, .j (l.length : Int), .j (i : Int)], [some (.row false none (.int .i64) u)]) = if wantB l[i] (i : Int) = true then some (.normal, ([.j n, .ref 0 0 l.length, .sl WCd l, .j (l.length : Int), .j ((i + 1 : Nat) : Int)], [some (.row false none (.int .i64) (useW l[i] u))])) else some (.ret, ([.b false], [])) := by
 rw [gf1_round]
 have hM : maxI = 9223372036854775807 := rfl
 rw [ifB_true (dcT (by omega)), ifT_true (by simp only [anE, dcE]; omega), ntN, gtE hi, ifSome_s, wrap_succ (n := i) (by omega)]
 generalize hw : l[i] = w
 obtain ⟨w0, w1, w2, w3, w4, w5, ⟨⟩⟩ := w
 dsimp only
 cases hb : wantB (w0, w1, w2, w3, w4, w5, ()) (i : Int) with
 | false => rfl
 | true =>
  obtain ⟨h1, h2, h3⟩ := want_use hb
  dsimp only at h1 h2 h3
  rw [Bool.not_true, ifB_f, if_pos rfl]
  simp only [Nat.zero_add]
  unfold useW incN
  dsimp only
  have wr : ∀ {x : Int}, 0 ≤ x → x ≤ 100 → IntKind.i64.wrap (x + 1) = x + 1 := fun h h' => wrap_id (by omega) (by omega)
  have at' : ∀ {v : List Int} {k : Nat} (hk : k < v.length), v.getD k 0 = v[k] := fun hk => by simp [hk]
  by_cases q6 : w0 = 6 ∨ w0 = 7
  ·obtain ⟨a1, a2, a3⟩ := h1 q6
   have k4 : w4.toNat < u.length := by omega
   have u4 := hu _ (List.getElem_mem k4)
   have k5 : w5.toNat < (u.set w4.toNat (u[w4.toNat] + 1)).length := by rw [List.length_set]; omega
   have u5 := incN_le hu k4 ((u.set w4.toNat (u[w4.toNat] + 1))[w5.toNat]) (by unfold incN; rw [at' k4]; exact List.getElem_mem k5)
   rw [if_pos q6, ifB_true (dcT (by omega)), ifT_true (by simp only [anE, dcE]; omega), gtE k4, ifSome_s, ifT_true (by simp only [anE, dcE]; omega), ifSome_s, ifB_true (dcT (by omega)), ifT_true (by simp only [anE, dcE]; omega), wr (by omega) (by omega), gtE k5, ifSome_s, ifT_true (by simp only [anE, dcE]; omega), ifSome_s, wr (by omega) (by omega), at' k4, at' k5]
  ·rw [if_neg q6]
   by_cases q8 : w0 = 8
   ·obtain ⟨a1, a2⟩ := h2 q8
    have k4 : w4.toNat < u.length := by omega
    have u4 := hu _ (List.getElem_mem k4)
    rw [if_pos q8, ifB_true (dcT (by omega)), ifT_true (by simp only [anE, dcE]; omega), gtE k4, ifSome_s, ifT_true (by simp only [anE, dcE]; omega), ifSome_s, ifB_false (dcF (by omega)), wr (by omega) (by omega), at' k4]
   ·rw [if_neg q8, ifB_false (dcF (by omega)), ifB_false (dcF (by omega))]
theorem gf1_loop (n : Int) (l : List Wt) (hl : l.length ≤ 20) : ∀ (j i : Nat) (u : List Int), i + j = l.length → u.length = l.length → (∀ x ∈ u, 0 ≤ x ∧ x ≤ 2 * (i : Int)) → ∀ ex d, (Br.br (wgo i (l.drop i) u).isSome (.leaf (.exit 0, ([.j n, .ref 0 0 ((wgo i (l.drop i) u).getD []).length], [some (.row false none (.int .i64) ((wgo i (l.drop i) u).getD []))]))) (.leaf (.ret, ([.b false], []))) : Br (Ex × Dt)).run = some (ex, d) →
  Runs Tryz.prog Lqc4 (look [(6, gf1E), (16, gf2E)]) 0 (body Tryz.f80 0) gf1E ([.j n, .ref 0 0 l.length, .sl WCd l, .j (l.length : Int), .j (i : Int)], [some (.row false none (.int .i64) u)]) ex d
 | 0, i, u, hi, hul, hu, ex, d, h => by
  have hr := gf1_round n l.length l l.length i u
  rw [ifB_false (dcF (by omega))] at hr
  rw [List.drop_eq_nil_of_le (by omega), wgo] at h
  have h8 := leaf_some (show (Br.leaf (.exit 0, ([.j n, .ref 0 0 u.length], [some (.row false none (.int .i64) u)])) : Br (Ex × Dt)).run = some (ex, d) from h)
  obtain ⟨rfl, rfl⟩ := Prod.mk.inj h8
  rw [hul]
  exact .stop _ _ _ hr (by simp)
 | j + 1, i, u, hi, hul, hu, ex, d, h => by
  have hlt : i < l.length := by omega
  have hr := gf1_one n l i u hlt hul hl hu
  rw [List.drop_eq_getElem_cons hlt, wgo] at h
  by_cases q : wantB l[i] (i : Int) = true
  ·rw [if_pos q] at hr h
   obtain ⟨g1, g2⟩ := useW_le q (by omega) hu
   exact .step _ _ _ _ hr (gf1_loop n l hl j (i + 1) (useW l[i] u) (by omega) (g1.trans hul) (by push_cast; exact g2) ex d h)
  ·rw [if_neg q] at hr h
   have h8 := leaf_some (show (Br.leaf (.ret, ([.b false], [])) : Br (Ex × Dt)).run = some (ex, d) from h)
   obtain ⟨rfl, rfl⟩ := Prod.mk.inj h8
   exact .stop _ _ _ hr (by simp)
theorem gf2_loop (m : Nat) (u : List Int) (hm : m ≤ u.length) (hu : u.length ≤ 20) : ∀ (j i : Nat), i + j = m → ∀ ex d, (Br.br (onesB ((u.take m).drop i)) (.leaf (.exit 2, ([], []))) (.leaf (.ret, ([.b false], []))) : Br (Ex × Dt)).run = some (ex, d) →
  Runs Tryz.prog Lqc4 (look [(6, gf1E), (16, gf2E)]) 0 (body Tryz.f80 1) gf2E ([.ref 0 0 m, .j (m : Int), .j (i : Int)], [some (.row false none (.int .i64) u)]) ex d
 | 0, i, hi, ex, d, h => by
  have hr := gf2_round m m i u
  rw [ifB_false (dcF (by omega))] at hr
  rw [List.drop_eq_nil_of_le (by simp; omega)] at h
  have h8 := leaf_some (show (Br.leaf (.exit 2, ([], [])) : Br (Ex × Dt)).run = some (ex, d) from h)
  obtain ⟨rfl, rfl⟩ := Prod.mk.inj h8
  exact .stop _ _ _ hr (by simp)
 | j + 1, i, hi, ex, d, h => by
  have hM : maxI = 9223372036854775807 := rfl
  have hlt : i < u.length := by omega
  have hr := gf2_round m m i u
  rw [ifB_true (dcT (by omega)), ifT_true (by simp only [anE, dcE]; omega), ntN, Nat.zero_add, gtE hlt, ifSome_s, wrap_succ (n := i) (by omega)] at hr
  have hd : (u.take m).drop i = u[i] :: (u.take m).drop (i + 1) := by
   rw [List.drop_eq_getElem_cons (by simp; omega)]
   simp
  have ec : onesB ((u.take m).drop i) = (u[i] == 1 && onesB ((u.take m).drop (i + 1))) := by rw [hd]; rfl
  rw [ec] at h
  by_cases q : u[i] = 1
  ·rw [q] at hr h
   rw [ifB_false (by rfl)] at hr
   exact .step _ _ _ _ hr (gf2_loop m u hm hu j (i + 1) (by omega) ex d h)
  ·rw [ifB_true (by simpa using q)] at hr
   rw [beq_false_of_ne q, Bool.false_and] at h
   have h8 := leaf_some (show (Br.leaf (.ret, ([.b false], [])) : Br (Ex × Dt)).run = some (ex, d) from h)
   obtain ⟨rfl, rfl⟩ := Prod.mk.inj h8
   exact .stop _ _ _ hr (by simp)
theorem gf_ok : LoopsOk Tryz.prog Lqc4 (look [(6, gf1E), (16, gf2E)]) 0 (Tryz.f80.body.getD .skip) := by
 refine LoopsI.loops (cs := [body Tryz.f80 0, body Tryz.f80 1]) ?_ (by kernel_rfl)
 refine .cons (ent := gf1E) (by rfl) (fun d ex d' h => ?_) (.cons (ent := gf2E) (by rfl) (fun d ex d' h => ?_) .nil)
 ·unfold gf1E at h
  dsimp only at h
  split at h
  ·rename_i n m l k i u
   obtain ⟨hc, hx⟩ := need_some h
   clear h
   obtain ⟨h0, h1, rfl, rfl, h4, h5, h6⟩ := of_decide_eq_true hc
   obtain ⟨i, rfl⟩ := Int.eq_ofNat_of_zero_le h0
   simp only [ntN] at h1 hx
   exact gf1_loop n l h5 (l.length - i) i u (by omega) h4 h6 ex d' hx
  ·cases h
 ·unfold gf2E at h
  dsimp only at h
  split at h
  ·rename_i m k i u
   obtain ⟨hc, hx⟩ := need_some h
   clear h
   obtain ⟨h0, h1, rfl, h4, h5⟩ := of_decide_eq_true hc
   obtain ⟨i, rfl⟩ := Int.eq_ofNat_of_zero_le h0
   simp only [ntN] at h1 hx
   exact gf2_loop m u h4 h5 (m - i) i (by omega) ex d' hx
  ·cases h
theorem wgo_len : ∀ (l : List Wt) (i : Nat) (u : List Int) {v : List Int}, i + l.length ≤ u.length → (∀ x ∈ u, 0 ≤ x ∧ x ≤ 2 * (i : Int)) → wgo i l u = some v → v.length = u.length
 | [], i, u, v, hl, hu, h => by rw [wgo] at h; cases h; rfl
 | w :: l, i, u, v, hl, hu, h => by
  rw [wgo] at h
  split at h
  ·rename_i q
   rw [List.length_cons] at hl
   obtain ⟨g1, g2⟩ := useW_le q (by omega) hu
   rw [wgo_len l (i + 1) _ (by omega) (by push_cast; exact g2) h, g1]
  ·cases h
theorem sgoodF : Contract Tryz.prog 80 (Ent.rd1 goodFG).F := by
 refine fun_contract' (KnowsL.cons (enters_fn Tryz.func78 (by kernel_rfl) (by kernel_rfl)) l1In (KnowsL.cons (enters_fn Tryz.func125 (by kernel_rfl) (by kernel_rfl)) swant KnowsL.nil)).knows (Λ := (look [(6, gf1E), (16, gf2E)])) Tryz.func80 (c := Tryz.f80.body.getD .skip) (by kernel_rfl) fun vs bs r hq hv hb => ?_
 unfold Ent.F goodFG at hq
 dsimp only at hq
 split at hq
 ·rename_i l
  refine ⟨gf_ok, Eq.trans ?_ hq⟩
  rw [gf_tree]
  unfold goodFB
  by_cases q : 1 ≤ l.length ∧ l.length ≤ 20
  rotate_left
  ·rw [ifB_true (by rw [dcF (by omega)]; rfl), dcF q]; rfl
  have hz : ∀ x ∈ List.replicate l.length (0 : Int), 0 ≤ x ∧ x ≤ 2 * ((0 : Nat) : Int) := fun x hx => by
   have := List.eq_of_mem_replicate hx
   omega
  have hz0 : ∀ x ∈ List.replicate l.length (0 : Int), 0 ≤ x ∧ x ≤ 0 := fun x hx => by
   have := List.eq_of_mem_replicate hx
   omega
  have w1 : IntKind.i64.wrap ((l.length : Int) - 1) = ((l.length - 1 : Nat) : Int) := by rw [wrap_id (by omega) (by omega)]; omega
  simp only [ntN, List.drop_zero, w1, Nat.sub_zero, nilT_eq]
  rw [dcT q, ifB_false (by rw [dcT (by omega)]; rfl), ifT_true (by simp only [anE, dcE]; omega), ifT_true (dcT ⟨by omega, by omega, trivial, trivial, by simp, q.2, hz0⟩)]
  cases e : wgo 0 l (List.replicate l.length 0) with
  | none => rfl
  | some u =>
   have hl := wgo_len l 0 _ (by simp) hz e
   rw [List.length_replicate] at hl
   simp only [Option.isSome_some, Option.getD_some, ifB_t]
   rw [ifT_true (by simp only [anE, dcE]; omega), ifT_true (dcT ⟨by omega, by omega, by trivial, by rw [hl]; omega, by rw [hl]; omega⟩)]
   cases onesB (u.take (l.length - 1)) <;> rfl
 ·cases hq

def wparts (w : Wt) : List Int := if w.1 = 6 ∨ w.1 = 7 then [w.2.2.2.2.1, w.2.2.2.2.2.1] else if w.1 = 8 then [w.2.2.2.2.1] else []
def incL (ps : List Int) (u : List Int) : List Int := ps.foldl (fun u k => incN u k.toNat) u
def itestG2 : List V → List Blk → Br (V × List (Option Blk))
 | [.i .i64 k, .i .i64 n, .s s], [] => .leaf (.b (testB k n s), [])
 | _, _ => .no
def iwantG : List V → List Blk → Br (V × List (Option Blk))
 | [.agg [.i .i64 w0, .i .i64 w1, .i .i64 w2, .s w3, .i .i64 w4, .i .i64 w5], .i .i64 i], [] => .need (decide (0 ≤ i ∧ i ≤ 1000)) (.leaf (.b (wantB (w0, w1, w2, w3, w4, w5, ()) i), []))
 | _, _ => .no
def wpartsG : List V → List Blk → Br (V × List (Option Blk))
 | [.agg [.i .i64 w0, .i .i64 w1, .i .i64 w2, .s w3, .i .i64 w4, .i .i64 w5]], [] => .leaf (.ref 0 0 (wparts (w0, w1, w2, w3, w4, w5, ())).length, [some (.row false none (.int .i64) (wparts (w0, w1, w2, w3, w4, w5, ())))])
 | _, _ => .no
def ne1G : List V → List Blk → Br (V × List (Option Blk))
 | [.i .i64 x], [] => .leaf (.b (x != 1), [])
 | _, _ => .no
def ne1E  : LoopEnt := ⟨19, [0,1,4,7,8], [], [4], fun
 | ([.sl (.int .i64) l, .fn 139 [] [], .i .i64 r, .i .i64 k, .i .i64 i], []) =>
  .need (decide (0 ≤ i ∧ i.toNat ≤ l.length ∧ l.length ≤ maxI ∧ k = l.length)) (.br (decide (firstP (fun z : Int => z != 1) i.toNat (l.drop i.toNat) < 0)) (.leaf (.exit 0, ([], []))) (.leaf (.ret, ([.i .i64 (firstP (fun z : Int => z != 1) i.toNat (l.drop i.toNat))], []))))
 | _ => .no⟩
def ne1iG  : List V → List Blk → Br (V × List (Option Blk))
 | [.sl (.int .i64) l, .fn 139 [] []], [] => .leaf (.i .i64 (firstP (fun z : Int => z != 1) 0 l), [])
 | _, _ => .no
def ne1hG  : List V → List Blk → Br (V × List (Option Blk))
 | [.sl (.int .i64) l, .fn 139 [] []], [] => .leaf (.b (l.any (fun z : Int => z != 1)), [])
 | _, _ => .no
def igf1E : LoopEnt := ⟨51, [3,18,19,20], [3], [2], fun
 | ([.ref 0 0 m, .sl (.pair (.int .i64) (.pair (.int .i64) (.pair (.int .i64) (.pair .str (.pair (.int .i64) (.pair (.int .i64) .unit)))))) l, .i .i64 k, .i .i64 i], [some (.row false none (.int .i64) u)]) => .need (decide (0 ≤ i ∧ i.toNat ≤ l.length ∧ k = l.length ∧ m = l.length ∧ u.length = l.length ∧ l.length ≤ 20 ∧ (∀ x ∈ u, 0 ≤ x ∧ x ≤ 2 * i))) (.br (wgo i.toNat (l.drop i.toNat) u).isSome (.leaf (.exit 0, ([.ref 0 0 ((wgo i.toNat (l.drop i.toNat) u).getD []).length], [some (.row false none (.int .i64) ((wgo i.toNat (l.drop i.toNat) u).getD []))]))) (.leaf (.ret, ([.b false], []))))
 | _ => .no⟩
def igf2E : LoopEnt := ⟨51, [3,18,19,20,30,31,32], [3,18,19,20], [2], fun
 | ([.ref 0 0 m, .sl (.pair (.int .i64) (.pair (.int .i64) (.pair (.int .i64) (.pair .str (.pair (.int .i64) (.pair (.int .i64) .unit)))))) l, .i .i64 k, .i .i64 i, .ref 1 0 p, .i .i64 q, .i .i64 j], [some (.row false none (.int .i64) u), some (.row false none (.int .i64) ps)]) => .need (decide (0 ≤ j ∧ j.toNat ≤ ps.length ∧ q = ps.length ∧ p = ps.length ∧ m = u.length ∧ ps.length ≤ 2 ∧ (∀ x ∈ ps, 0 ≤ x ∧ x.toNat < u.length) ∧ (∀ x ∈ u, 0 ≤ x ∧ x ≤ 1000))) (.leaf (.exit 2, ([.ref 0 0 (incL (ps.drop j.toNat) u).length, .sl (.pair (.int .i64) (.pair (.int .i64) (.pair (.int .i64) (.pair .str (.pair (.int .i64) (.pair (.int .i64) .unit)))))) l, .i .i64 k, .i .i64 i], [some (.row false none (.int .i64) (incL (ps.drop j.toNat) u))])))
 | _ => .no⟩

theorem ifB_bool2 (c x y : Bool) : ifB c (some ((V.b x, []) : V × List (Option Blk))) (some (V.b y, [])) = some (V.b (cond c x y), []) := by cases c <;> rfl
theorem itest2_fun (k n : Int) (s : List UInt8) : funK Tryz.prog (look [(206, .rd1 numG)]) (look []) Tryz.f173 [.j k, .j n, .s s] [] = some (.b (testB k n s), []) := by
 have e : funK Tryz.prog (look [(206, .rd1 numG)]) (look []) Tryz.f173 [.j k, .j n, .s s] [] = ((ifB (k == (1 : Int)) (ifB (k == (1 : Int)) (ifB (numB n) (some (V.b (s == nilT UInt8), [])) (some (V.b false, []))) (ifB (k == (4 : Int)) (ifB (n == (0 : Int)) (some (V.b
 (s == nilT UInt8), [])) (some (V.b false, []))) (ifB (k == (5 : Int)) (ifB (n == (0 : Int)) (some (V.b (decide ((↑s.length : Int) ≤ (30 : Int))), [])) (some (V.b false,
 []))) (some (V.b false, []))))) (ifB (k == (2 : Int)) (ifB (k == (2 : Int)) (ifB (numB n) (some (V.b (s == nilT UInt8), [])) (some (V.b false, []))) (ifB (k == (4 : Int))
 (ifB (n == (0 : Int)) (some (V.b (s == nilT UInt8), [])) (some (V.b false, []))) (ifB (k == (5 : Int)) (ifB (n == (0 : Int)) (some (V.b (decide ((↑s.length : Int) ≤ (30 :
 Int))), [])) (some (V.b false, []))) (some (V.b false, []))))) (ifB (k == (3 : Int)) (ifB (numB n) (some (V.b (s == nilT UInt8), [])) (some (V.b false, []))) (ifB (k ==
 (4 : Int)) (ifB (n == (0 : Int)) (some (V.b (s == nilT UInt8), [])) (some (V.b false, []))) (ifB (k == (5 : Int)) (ifB (n == (0 : Int)) (some (V.b (decide ((↑s.length :
 Int) ≤ (30 : Int))), [])) (some (V.b false, []))) (some (V.b false, []))))))) : _) := by kernel_rfl
 rw [e]
 clear e
 show _ = some (V.b (testB k n s), [])
 simp only [nilT_eq]
 unfold testB
 by_cases a1 : k = 1
 ·subst a1; cases hn : numB n <;> cases s <;> simp [ifB]
 by_cases a2 : k = 2
 ·subst a2; cases hn : numB n <;> cases s <;> simp [ifB]
 by_cases a3 : k = 3
 ·subst a3; cases hn : numB n <;> cases s <;> simp [ifB]
 have q1 := beq_eq_false_iff_ne.2 a1
 have q2 := beq_eq_false_iff_ne.2 a2
 have q3 := beq_eq_false_iff_ne.2 a3
 rw [if_neg (by omega)]
 by_cases a4 : k = 4
 ·subst a4
  rw [if_pos rfl]
  cases n == 0 <;> cases s <;> simp [ifB]
 have q4 := beq_eq_false_iff_ne.2 a4
 rw [if_neg a4]
 by_cases a5 : k = 5
 ·subst a5
  rw [if_pos rfl]
  by_cases ht : s.length ≤ 30
  ·rw [dcT (show (s.length : Int) ≤ 30 by omega), dcT ht]; cases n == 0 <;> simp [ifB]
  ·rw [dcF (show ¬ (s.length : Int) ≤ 30 by omega), dcF ht]; cases n == 0 <;> simp [ifB]
 have q5 := beq_eq_false_iff_ne.2 a5
 rw [if_neg a5]
 simp [ifB, q1, q2, q3, q4, q5]
theorem itest2 : Contract Tryz.prog 173 (Ent.rd1 itestG2).F := by
 refine fun_contract' (KnowsL.cons (enters_fn Tryz.func206 (by kernel_rfl) (by kernel_rfl)) numOK KnowsL.nil).knows (Λ := look []) Tryz.func173 (c := Tryz.f173.body.getD .skip) (by kernel_rfl) fun vs bs r' hq hv hb => ?_
 unfold Ent.F itestG2 at hq
 dsimp only at hq
 split at hq
 ·exact ⟨loopsOk_nil _, (itest2_fun _ _ _).trans hq⟩
 ·cases hq
theorem iwant_fun (w0 w1 w2 : Int) (w3 : List UInt8) (w4 w5 : Int) (i : Int) (h0 : 0 ≤ i) (h1 : i ≤ 1000) : funK Tryz.prog (look [(88, .rd1 withinG), (173, .rd1 itestG2)]) (look []) Tryz.f136 [.agg [.j w0, .j w1, .j w2, .s w3, .j w4, .j w5], .j i] [] = some (.b (wantB (w0, w1, w2, w3, w4, w5, ()) i), []) := by
 have e : funK Tryz.prog (look [(88, .rd1 withinG), (173, .rd1 itestG2)]) (look []) Tryz.f136 [.agg [.j w0, .j w1, .j w2, .s w3, .j w4, .j w5], .j i] [] = ((ifB (w0 == (6 : Int)) (ifB (w0 == (6 : Int)) (ifB (w1 == (0 : Int)) (ifB (w2 == (0 : Int)) (ifB (w3 == nilT UInt8) (ifB (decide (w4 ≥ (0 : Int))) (ifB (decide (w4 < w5))
 (some (V.b (decide (w5 < i)), [])) (some (V.b false, []))) (some (V.b false, []))) (some (V.b false, []))) (some (V.b false, []))) (some (V.b false, []))) (ifB (w0 == (8
 : Int)) (ifB (w1 == (0 : Int)) (ifB (w2 == (0 : Int)) (ifB (w3 == nilT UInt8) (ifB (decide ((0 : Int) ≤ w4 ∧ w4 ≤ IntKind.i64.wrap (i - (1 : Int)))) (some (V.b (w5 == (0
 : Int)), [])) (some (V.b false, []))) (some (V.b false, []))) (some (V.b false, []))) (some (V.b false, []))) (ifB (decide ((1 : Int) ≤ w1 ∧ w1 ≤ (30 : Int))) (ifB (testB
 w0 w2 w3) (ifB (w4 == (0 : Int)) (some (V.b (w5 == (0 : Int)), [])) (some (V.b false, []))) (some (V.b false, []))) (some (V.b false, []))))) (ifB (w0 == (7 : Int)) (ifB
 (w1 == (0 : Int)) (ifB (w2 == (0 : Int)) (ifB (w3 == nilT UInt8) (ifB (decide (w4 ≥ (0 : Int))) (ifB (decide (w4 < w5)) (some (V.b (decide (w5 < i)), [])) (some (V.b
 false, []))) (some (V.b false, []))) (some (V.b false, []))) (some (V.b false, []))) (some (V.b false, []))) (ifB (w0 == (8 : Int)) (ifB (w1 == (0 : Int)) (ifB (w2 == (0
 : Int)) (ifB (w3 == nilT UInt8) (ifB (decide ((0 : Int) ≤ w4 ∧ w4 ≤ IntKind.i64.wrap (i - (1 : Int)))) (some (V.b (w5 == (0 : Int)), [])) (some (V.b false, []))) (some
 (V.b false, []))) (some (V.b false, []))) (some (V.b false, []))) (ifB (decide ((1 : Int) ≤ w1 ∧ w1 ≤ (30 : Int))) (ifB (testB w0 w2 w3) (ifB (w4 == (0 : Int)) (some (V.b
 (w5 == (0 : Int)), [])) (some (V.b false, []))) (some (V.b false, []))) (some (V.b false, [])))))) : _) := by kernel_rfl
 rw [e]
 clear e
 have w1 : IntKind.i64.wrap (i - 1) = i - 1 := wrap_id (by omega) (by omega)
 simp only [nilT_eq, w1, ifB_bool2]
 refine congrArg (fun b => some (V.b b, [])) ?_
 unfold wantB
 dsimp only
 rw [Bool.eq_iff_iff]
 by_cases a6 : w0 = 6
 ·subst a6; simp; try omega
 by_cases a7 : w0 = 7
 ·subst a7; simp; try omega
 by_cases a8 : w0 = 8
 ·subst a8; simp; try omega
 have q6 := beq_eq_false_iff_ne.2 a6
 have q7 := beq_eq_false_iff_ne.2 a7
 have q8 := beq_eq_false_iff_ne.2 a8
 rw [if_neg (by omega), if_neg a8, q6, q7, q8]
 simp [and_assoc]
theorem iwant : Contract Tryz.prog 136 (Ent.rd1 iwantG).F := by
 refine fun_contract' (KnowsL.cons (enters_fn Tryz.func88 (by kernel_rfl) (by kernel_rfl)) within (KnowsL.cons (enters_fn Tryz.func173 (by kernel_rfl) (by kernel_rfl)) itest2 KnowsL.nil)).knows (Λ := look []) Tryz.func136 (c := Tryz.f136.body.getD .skip) (by kernel_rfl) fun vs bs r' hq hv hb => ?_
 unfold Ent.F iwantG at hq
 dsimp only at hq
 split at hq
 ·obtain ⟨hc, hx⟩ := need_some hq
  obtain ⟨h0, h1⟩ := of_decide_eq_true hc
  exact ⟨loopsOk_nil _, (iwant_fun _ _ _ _ _ _ _ h0 h1).trans hx⟩
 ·cases hq
theorem wparts_fun (w0 w1 w2 : Int) (w3 : List UInt8) (w4 w5 : Int) : funC Tryz.prog (look []) (look []) Tryz.f137 [.agg [.j w0, .j w1, .j w2, .s w3, .j w4, .j w5]] [] = some (.ref 0 0 (wparts (w0, w1, w2, w3, w4, w5, ())).length, [some (.row false none (.int .i64) (wparts (w0, w1, w2, w3, w4, w5, ())))]) := by
 have e : funC Tryz.prog (look []) (look []) Tryz.f137 [.agg [.j w0, .j w1, .j w2, .s w3, .j w4, .j w5]] [] = ((ifB (w0 == (6 : Int)) (ifB (w0 == (6 : Int)) (some (V.ref 0 0 2, [some (Blk.row false none (Cd.int .i64) (w4 :: w5 :: nilT (Cd.int .i64).den))])) (ifB (w0 == (8 : Int))
 (some (V.ref 0 0 1, [some (Blk.row false none (Cd.int .i64) (w4 :: nilT (Cd.int .i64).den))])) (some (V.ref 0 0 0, [some (Blk.row false none (Cd.int .i64) (nilT (Cd.int
 .i64).den))])))) (ifB (w0 == (7 : Int)) (some (V.ref 0 0 2, [some (Blk.row false none (Cd.int .i64) (w4 :: w5 :: nilT (Cd.int .i64).den))])) (ifB (w0 == (8 : Int)) (some
 (V.ref 0 0 1, [some (Blk.row false none (Cd.int .i64) (w4 :: nilT (Cd.int .i64).den))])) (some (V.ref 0 0 0, [some (Blk.row false none (Cd.int .i64) (nilT (Cd.int
 .i64).den))]))))) : _) := by kernel_rfl
 rw [e]
 clear e
 try dsimp only [shr]
 unfold wparts
 dsimp only
 by_cases a6 : w0 = 6
 ·subst a6; rfl
 by_cases a7 : w0 = 7
 ·subst a7; rfl
 rw [if_neg (by omega), ifB_false (beq_eq_false_iff_ne.2 a6), ifB_false (beq_eq_false_iff_ne.2 a7)]
 by_cases a8 : w0 = 8
 ·subst a8; rfl
 rw [if_neg a8, ifB_false (beq_eq_false_iff_ne.2 a8)]
 rfl
theorem wparts_con : Contract Tryz.prog 137 (Ent.rd1 wpartsG).F := by
 refine fun_contractC' KnowsL.nil.knows (Λ := look []) Tryz.func137 (c := Tryz.f137.body.getD .skip) (by kernel_rfl) fun vs bs r' hq hv hb => ?_
 unfold Ent.F wpartsG at hq
 dsimp only at hq
 split at hq
 ·exact ⟨loopsOk_nil _, (wparts_fun _ _ _ _ _ _).trans hq⟩
 ·cases hq
theorem ne1_con : Contract Tryz.prog 139 (Ent.rd1 ne1G).F := by
 refine fun_contract' KnowsL.nil.knows (Λ := look []) Tryz.func139 (c := Tryz.f139.body.getD .skip) (by kernel_rfl) fun vs bs r hq hv hb => ?_
 unfold Ent.F ne1G at hq
 dsimp only at hq
 split at hq
 ·rename_i x
  refine ⟨loopsOk_nil _, Eq.trans ?_ hq⟩
  have e : funK Tryz.prog (look []) (look []) Tryz.f139 [.j x] [] = ((some (V.b (x != (1 : Int)), [])) : _) := by kernel_rfl
  exact e
 ·cases hq
theorem ne1_round   (l : List (Int)) (r k i : Int) : roundK Tryz.prog (look [(139, .rd1 ne1G)]) (look [(2, ne1E)]) 0 (body Tryz.f174 0) ne1E ([.sl (.int .i64) l, .fn 139 [] [], .j r, .j k, .j i], []) =
 ((ifB (decide (i < k)) (ifT (decide ((0 : Int) ≤ i) && decide (i < (↑l.length : Int))) (ifSome l[i.toNat]? fun z => ifB (z != (1 : Int)) (some (Ex.ret, [V.j i], []))
 (some (Ex.normal, [V.sl (Cd.int .i64) l, V.fn 139 [] [], V.j r, V.j k, V.j (IntKind.i64.wrap (i + (1 : Int)))], [])))) (some (Ex.exit 0,
 [], []))) : _) := by kernel_rfl
theorem ne1_loop   {l : List (Int)} {r : Int} (hx : l.length ≤ maxI) : ∀ (j i : Nat), i + j = l.length → ∀ e d', (.br (decide (firstP (fun z : Int => z != 1) i (l.drop i) < 0)) (.leaf (.exit 0, ([], []))) (.leaf (.ret, ([.j (firstP (fun z : Int => z != 1) i (l.drop i))], []))) : Br (Ex × Dt)).run = some (e, d') →
  Runs Tryz.prog (look [(139, .rd1 ne1G)]) (look [(2, ne1E)]) 0 (body Tryz.f174 0) ne1E ([.sl (.int .i64) l, .fn 139 [] [], .j r, .j (l.length : Int), .j (i : Int)], []) e d'
 | 0, i, hi, e, d', h => by
  have e1 : l.drop i = [] := List.drop_eq_nil_of_le (by omega)
  rw [e1, br_run, firstP, if_pos (by omega)] at h
  cases h
  have hr := ne1_round  l r l.length i
  rw [ifB_false (dcF (by omega))] at hr
  exact .stop _ _ _ hr (by simp)
 | j + 1, i, hi, e, d', h => by
  have h1 : i < l.length := by omega
  have hr := ne1_round  l r l.length i
  rw [ifB_true (dcT (by omega)), ifT_true (by simp only [anE, dcE]; omega)] at hr
  simp only [ntN, gtE h1, ifSome_s, wrap_succ (n := i) (by omega)] at hr
  rw [List.drop_eq_getElem_cons h1, br_run, firstP] at h
  by_cases he : (fun z : Int => z != 1) l[i] = true
  ·rw [if_pos he, if_neg (by omega)] at h
   cases h
   rw [ifB_true he] at hr
   exact .stop _ _ _ hr (by simp)
  ·rw [if_neg he] at h
   rw [ifB_false (by simpa using he)] at hr
   exact .step _ _ _ _ hr (ne1_loop  hx j (i + 1) (by omega) e d' (by rw [br_run]; exact h))
theorem ne1_ok  : LoopsOk Tryz.prog (look [(139, .rd1 ne1G)]) (look [(2, ne1E)]) 0 (Tryz.f174.body.getD .skip) := by
 refine loopsOk_one (a := body Tryz.f174 0) (by kernel_rfl) fun d e d' h => ?_
 unfold ne1E at h
 dsimp only at h
 split at h
 ·obtain ⟨hc, h'⟩ := need_some h
  obtain ⟨h0, h1, h2, rfl⟩ := of_decide_eq_true hc
  obtain ⟨i, rfl⟩ := Int.eq_ofNat_of_zero_le h0
  exact ne1_loop  h2 _ i (Nat.add_sub_of_le h1) e d' h'
 ·cases h
theorem ne1_fun   (l : List (Int)) (hx : l.length ≤ maxI) : funK Tryz.prog (look [(139, .rd1 ne1G)]) (look [(2, ne1E)]) Tryz.f174 [.sl (.int .i64) l, .fn 139 [] []] [] = some (.j (firstP (fun z : Int => z != 1) 0 l), []) := by
 have e : funK Tryz.prog (look [(139, .rd1 ne1G)]) (look [(2, ne1E)]) Tryz.f174 [.sl (.int .i64) l, .fn 139 [] []] [] =
  ((ifT (decide ((0 : Int) ≤ (0 : Int) ∧ (0 : Nat) ≤ l.length ∧ l.length ≤ maxI ∧ (↑l.length : Int) = (↑l.length : Int))) (ifB (decide (firstP (fun z => z != (1 : Int)) (0 :
 Nat) (List.drop (0 : Nat) l) < (0 : Int))) (some (V.j (-1), [])) (some (V.j (firstP (fun z => z != (1 : Int)) (0 : Nat) (List.drop (0 : Nat) l)), [])))) : _) := by kernel_rfl
 rw [e, ifT_true (dcT ⟨by omega, by omega, hx, rfl⟩)]
 simp only [Int.toNat_zero, List.drop_zero]
 by_cases q : firstP (fun z : Int => z != 1) 0 l < 0
 ·rw [ifB_true (dcT q), firstP_neg _ _ _ q]
 ·rw [ifB_false (dcF q)]
theorem ne1_idx  : Contract Tryz.prog 174 (Ent.rd1 ne1iG).F := by
 refine fun_contract' (KnowsL.cons (enters_fn Tryz.func139 (by kernel_rfl) (by kernel_rfl)) ne1_con KnowsL.nil).knows (Λ := (look [(2, ne1E)])) Tryz.func174 (c := Tryz.f174.body.getD .skip) (by kernel_rfl) fun vs bs r h hv hb => ?_
 unfold Ent.F ne1iG at h
 dsimp only at h
 split at h
 ·rename_i l 
  have h' := h
  exact ⟨ne1_ok , (ne1_fun  l (hv (.sl (.int .i64) l) (by simp)).1).trans (by cases h'; rfl)⟩
 ·cases h
theorem ne1_hfun   (l : List (Int)) : funK Tryz.prog (look [(174, .rd1 ne1iG)]) (look []) Tryz.f138 [.sl (.int .i64) l, .fn 139 [] []] [] = some (.b (l.any (fun z : Int => z != 1)), []) := by
 have e : funK Tryz.prog (look [(174, .rd1 ne1iG)]) (look []) Tryz.f138 [.sl (.int .i64) l, .fn 139 [] []] [] =
  ((some (V.b (decide (firstP (fun z => z != (1 : Int)) (0 : Nat) l ≥ (0 : Int))), [])) : _) := by kernel_rfl
 rw [e]
 skip
 rw [firstP_any]
theorem ne1_has  : Contract Tryz.prog 138 (Ent.rd1 ne1hG).F := by
 refine fun_contract' (KnowsL.cons (enters_fn Tryz.func174 (by kernel_rfl) (by kernel_rfl)) (ne1_idx ) KnowsL.nil).knows (Λ := look []) Tryz.func138 (c := Tryz.f138.body.getD .skip) (by kernel_rfl) fun vs bs r h hv hb => ?_
 unfold Ent.F ne1hG at h
 dsimp only at h
 split at h
 ·rename_i l 
  have h' := h
  exact ⟨loopsOk_nil _, (ne1_hfun  l).trans (by cases h'; rfl)⟩
 ·cases h
abbrev Lqc5 : FuncId → Option Ent := look [(88, .rd1 withinG), (136, .rd1 iwantG), (137, .rd1 wpartsG), (138, .rd1 ne1hG)]
theorem igf1_round (m : Nat) (l : List Wt) (k i : Int) (u : List Int) : roundK Tryz.prog Lqc5 (look [(5, igf1E), (10, igf2E)]) 0 (body Tryz.f94 0) igf1E ([.ref 0 0 m, .sl WCd l, .j k, .j i], [some (.row false none (.int .i64) u)]) =
 ((ifB (decide (i < k)) (ifT (decide ((0 : Int) ≤ i) && decide (i < (↑l.length : Int))) (ifSome l[i.toNat]? fun z => ifT (decide ((0 : Int) ≤ i ∧ i ≤ (1000 : Int))) (ifB
 (!wantB (z.fst, z.snd.fst, z.snd.snd.fst, z.snd.snd.snd.fst, z.snd.snd.snd.snd.fst, z.snd.snd.snd.snd.snd.fst, ()) i) (some (Ex.ret, [V.b false], [])) (ifT (decide ((0 :
 Int) ≤ (0 : Int) ∧ (0 : Nat) ≤ (wparts (z.fst, z.snd.fst, z.snd.snd.fst, z.snd.snd.snd.fst, z.snd.snd.snd.snd.fst, z.snd.snd.snd.snd.snd.fst, ())).length ∧ (↑(wparts
 (z.fst, z.snd.fst, z.snd.snd.fst, z.snd.snd.snd.fst, z.snd.snd.snd.snd.fst, z.snd.snd.snd.snd.snd.fst, ())).length : Int) = (↑(wparts (z.fst, z.snd.fst, z.snd.snd.fst,
 z.snd.snd.snd.fst, z.snd.snd.snd.snd.fst, z.snd.snd.snd.snd.snd.fst, ())).length : Int) ∧ (wparts (z.fst, z.snd.fst, z.snd.snd.fst, z.snd.snd.snd.fst,
 z.snd.snd.snd.snd.fst, z.snd.snd.snd.snd.snd.fst, ())).length = (wparts (z.fst, z.snd.fst, z.snd.snd.fst, z.snd.snd.snd.fst, z.snd.snd.snd.snd.fst,
 z.snd.snd.snd.snd.snd.fst, ())).length ∧ m = u.length ∧ (wparts (z.fst, z.snd.fst, z.snd.snd.fst, z.snd.snd.snd.fst, z.snd.snd.snd.snd.fst, z.snd.snd.snd.snd.snd.fst,
 ())).length ≤ (2 : Nat) ∧ (∀ (x : (Cd.int .i64).den), x ∈ wparts (z.fst, z.snd.fst, z.snd.snd.fst, z.snd.snd.snd.fst, z.snd.snd.snd.snd.fst, z.snd.snd.snd.snd.snd.fst,
 ()) → (0 : (Cd.int .i64).den) ≤ x ∧ Int.toNat x < u.length) ∧ ∀ (x : (Cd.int .i64).den), x ∈ u → (0 : (Cd.int .i64).den) ≤ x ∧ x ≤ (1000 : (Cd.int .i64).den))) (some
 (Ex.normal, [V.ref 0 0 (incL (List.drop (0 : Nat) (wparts (z.fst, z.snd.fst, z.snd.snd.fst, z.snd.snd.snd.fst, z.snd.snd.snd.snd.fst, z.snd.snd.snd.snd.snd.fst, ())))
 u).length, V.sl WCd l, V.j k, V.j (IntKind.i64.wrap (i + (1 : Int)))], [some (Blk.row false none (Cd.int .i64) (incL (List.drop (0 : Nat) (wparts (z.fst,
 z.snd.fst, z.snd.snd.fst, z.snd.snd.snd.fst, z.snd.snd.snd.snd.fst, z.snd.snd.snd.snd.snd.fst, ()))) u))])))))) (some (Ex.exit 0, [V.ref 0 0 m], [some (Blk.row false none
 (Cd.int .i64) u)]))) : _) := by kernel_rfl
theorem igf2_round (m : Nat) (l : List Wt) (k i : Int) (p : Nat) (q j : Int) (u ps : List Int) : roundK Tryz.prog Lqc5 (look [(5, igf1E), (10, igf2E)]) 0 (body Tryz.f94 1) igf2E ([.ref 0 0 m, .sl WCd l, .j k, .j i, .ref 1 0 p, .j q, .j j], [some (.row false none (.int .i64) u), some (.row false none (.int .i64) ps)]) =
 ((ifB (decide (j < q)) (ifT (decide ((0 : Int) ≤ j) && decide (j < (↑p : Int))) (ifSome ps[(0 : Nat) + j.toNat]? fun z => ifT (decide ((0 : Int) ≤ z) && decide (z < (↑m :
 Int))) (ifSome u[(0 : Nat) + Int.toNat z]? fun z_1 => ifT (decide ((0 : Int) ≤ z) && decide (z < (↑m : Int))) (ifSome u[(0 : Nat) + Int.toNat z]? fun z_2 => some
 (Ex.normal, [V.ref 0 0 m, V.sl WCd l, V.j k, V.j i, V.ref 1 0 p, V.j q, V.j (IntKind.i64.wrap (j + (1 : Int)))], [some (Blk.row false none (Cd.int
 .i64) (u.set ((0 : Nat) + Int.toNat z) (IntKind.i64.wrap (z_1 + (1 : Int))))), some (Blk.row false none (Cd.int .i64) ps)]))))) (some (Ex.exit 2, [V.ref 0 0 m, V.sl WCd
 l, V.j k, V.j i], [some (Blk.row false none (Cd.int .i64) u)]))) : _) := by kernel_rfl
theorem igf_tree (l : List Wt) : funK Tryz.prog Lqc5 (look [(5, igf1E), (10, igf2E)]) Tryz.f94 [.agg [.sl WCd l]] [] =
 ((ifB (!decide ((1 : Int) ≤ (↑l.length : Int) ∧ (↑l.length : Int) ≤ (20 : Int))) (some (V.b false, [])) (ifT (decide ((0 : Int) ≤ (↑l.length : Int)) && decide ((↑l.length :
 Int) ≤ (↑l.length : Int)) && decide ((↑l.length : Int) * (↑(8 : Nat) : Int) ≤ (140737488355328 : Int)) && decide ((↑l.length : Int) ≤ (9223372036854775807 : Int))) (ifT
 (decide ((0 : Int) ≤ (0 : Int) ∧ (0 : Nat) ≤ l.length ∧ (↑l.length : Int) = (↑l.length : Int) ∧ (↑l.length : Int).toNat = l.length ∧ (List.replicate (↑l.length :
 Int).toNat (0 : Int)).length = l.length ∧ l.length ≤ (20 : Nat) ∧ ∀ (x : (Cd.int .i64).den), x ∈ List.replicate (↑l.length : Int).toNat (0 : Int) → (0 : (Cd.int
 .i64).den) ≤ x ∧ x ≤ (0 : Int))) (ifB (wgo (0 : Nat) (List.drop (0 : Nat) l) (List.replicate (↑l.length : Int).toNat (0 : Int))).isSome (ifT (decide ((0 : Int) ≤
 IntKind.i64.wrap ((↑((wgo (0 : Nat) (List.drop (0 : Nat) l) (List.replicate (↑l.length : Int).toNat (0 : Int))).getD (nilT Int)).length : Int) - (1 : Int))) && decide
 (IntKind.i64.wrap ((↑((wgo (0 : Nat) (List.drop (0 : Nat) l) (List.replicate (↑l.length : Int).toNat (0 : Int))).getD (nilT Int)).length : Int) - (1 : Int)) ≤ (↑(((wgo (0
 : Nat) (List.drop (0 : Nat) l) (List.replicate (↑l.length : Int).toNat (0 : Int))).getD (nilT Int)).length - (0 : Nat)) : Int))) (some (V.b !(List.take ((IntKind.i64.wrap
 ((↑((wgo (0 : Nat) (List.drop (0 : Nat) l) (List.replicate (↑l.length : Int).toNat (0 : Int))).getD (nilT Int)).length : Int) - (1 : Int))).toNat - (0 : Nat)) (List.drop
 (0 : Nat) ((wgo (0 : Nat) (List.drop (0 : Nat) l) (List.replicate (↑l.length : Int).toNat (0 : Int))).getD (nilT Int)))).any fun z => z != (1 : Int), []))) (some (V.b
 false, [])))))) : _) := by kernel_rfl
theorem le_1000 {i : Nat} {x : Int} (h : 0 ≤ x ∧ x ≤ 2 * (i : Int)) (hi : i ≤ 20) : 0 ≤ x ∧ x ≤ 1000 := by omega
theorem le_0 {x : Int} (h : 0 ≤ x ∧ x ≤ 2 * ((0 : Nat) : Int)) : 0 ≤ x ∧ x ≤ 0 := by omega
theorem igf2_loop (l : List Wt) (k i : Int) (ps : List Int) (hp : ps.length ≤ 2) : ∀ (n j : Nat) (u : List Int), j + n = ps.length → (∀ x ∈ ps, 0 ≤ x ∧ x.toNat < u.length) → (∀ x ∈ u, 0 ≤ x ∧ x ≤ 1000 + j) →
  Runs Tryz.prog Lqc5 (look [(5, igf1E), (10, igf2E)]) 0 (body Tryz.f94 1) igf2E ([.ref 0 0 u.length, .sl WCd l, .j k, .j i, .ref 1 0 ps.length, .j (ps.length : Int), .j (j : Int)], [some (.row false none (.int .i64) u), some (.row false none (.int .i64) ps)]) (.exit 2) ([.ref 0 0 (incL (ps.drop j) u).length, .sl WCd l, .j k, .j i], [some (.row false none (.int .i64) (incL (ps.drop j) u))])
 | 0, j, u, hj, hps, hu => by
  have hr := igf2_round u.length l k i ps.length ps.length j u ps
  rw [ifB_false (dcF (by omega))] at hr
  rw [List.drop_eq_nil_of_le (by omega)]
  exact .stop _ _ _ hr (by simp)
 | n + 1, j, u, hj, hps, hu => by
  have hl : j < ps.length := by omega
  have hr := igf2_round u.length l k i ps.length ps.length j u ps
  have W1 : IntKind.i64.wrap ((j : Int) + 1) = ((j + 1 : Nat) : Int) := by rw [wrap_id (by omega) (by omega)]; omega
  obtain ⟨h0, h1⟩ := hps _ (List.getElem_mem hl)
  have hu1 := hu _ (List.getElem_mem h1)
  rw [ifB_true (dcT (by omega)), ifT_true (by simp only [anE, dcE]; omega), ntN, Nat.zero_add, gtE hl, ifSome_s, ifT_true (by simp only [anE, dcE]; omega), Nat.zero_add, gtE h1, ifSome_s, ifT_true (by simp only [anE, dcE]; omega), ifSome_s, W1, wrap_id (n := u[(ps[j]).toNat] + 1) (by omega) (by omega)] at hr
  have e : u.set (ps[j]).toNat (u[(ps[j]).toNat] + 1) = incN u (ps[j]).toNat := by unfold incN; simp [h1]
  rw [e] at hr
  have hb := incN_le hu h1
  have ih := igf2_loop l k i ps hp n (j + 1) (incN u (ps[j]).toNat) (by omega) (fun x hx => by rw [incN_len]; exact hps x hx) (fun x hx => by have := hb x hx; omega)
  rw [List.drop_eq_getElem_cons hl]
  have e2 : incL (ps[j] :: ps.drop (j + 1)) u = incL (ps.drop (j + 1)) (incN u (ps[j]).toNat) := rfl
  rw [e2]
  rw [incN_len] at ih
  exact .step _ _ _ _ hr ih
theorem wparts_use (w : Wt) (u : List Int) : incL (wparts w) u = useW w u := by
 unfold wparts useW
 split
 ·rfl
 ·split <;> rfl
theorem wparts_ok {w : Wt} {i : Nat} {u : List Int} (h : wantB w i = true) (hi : i ≤ u.length) : (wparts w).length ≤ 2 ∧ ∀ x ∈ wparts w, 0 ≤ x ∧ x.toNat < u.length := by
 obtain ⟨h1, h2, _⟩ := want_use h
 unfold wparts
 split
 ·rename_i q
  have := h1 q
  refine ⟨by simp, fun x hx => ?_⟩
  rcases List.mem_cons.1 hx with rfl | hx
  ·omega
  ·obtain rfl := List.mem_singleton.1 hx; omega
 ·split
  ·rename_i q
   have := h2 q
   refine ⟨by simp, fun x hx => ?_⟩
   obtain rfl := List.mem_singleton.1 hx; omega
  ·exact ⟨by simp, fun x hx => by cases hx⟩
theorem igf1_loop (l : List Wt) (hl : l.length ≤ 20) : ∀ (j i : Nat) (u : List Int), i + j = l.length → u.length = l.length → (∀ x ∈ u, 0 ≤ x ∧ x ≤ 2 * (i : Int)) → ∀ ex d, (Br.br (wgo i (l.drop i) u).isSome (.leaf (.exit 0, ([.ref 0 0 ((wgo i (l.drop i) u).getD []).length], [some (.row false none (.int .i64) ((wgo i (l.drop i) u).getD []))]))) (.leaf (.ret, ([.b false], []))) : Br (Ex × Dt)).run = some (ex, d) →
  Runs Tryz.prog Lqc5 (look [(5, igf1E), (10, igf2E)]) 0 (body Tryz.f94 0) igf1E ([.ref 0 0 u.length, .sl WCd l, .j (l.length : Int), .j (i : Int)], [some (.row false none (.int .i64) u)]) ex d
 | 0, i, u, hi, hul, hu, ex, d, h => by
  have hr := igf1_round u.length l l.length i u
  try dsimp only [shr] at hr
  rw [ifB_false (dcF (by omega))] at hr
  rw [List.drop_eq_nil_of_le (by omega), wgo] at h
  have h8 := leaf_some (show (Br.leaf (.exit 0, ([.ref 0 0 u.length], [some (.row false none (.int .i64) u)])) : Br (Ex × Dt)).run = some (ex, d) from h)
  obtain ⟨rfl, rfl⟩ := Prod.mk.inj h8
  exact .stop _ _ _ hr (by simp)
 | j + 1, i, u, hi, hul, hu, ex, d, h => by
  have hlt : i < l.length := by omega
  have hr := igf1_round u.length l l.length i u
  try dsimp only [shr] at hr
  have W1 : IntKind.i64.wrap ((i : Int) + 1) = ((i + 1 : Nat) : Int) := by rw [wrap_id (by omega) (by omega)]; omega
  rw [ifB_true (dcT (by omega)), ifT_true (by simp only [anE, dcE]; omega), ntN, gtE hlt, ifSome_s, ifT_true (dcT (by omega)), W1] at hr
  rw [List.drop_eq_getElem_cons hlt, wgo] at h
  have eta : ∀ z : Wt, (z.1, z.2.1, z.2.2.1, z.2.2.2.1, z.2.2.2.2.1, z.2.2.2.2.2.1, ()) = z := fun z => rfl
  simp only [eta, List.drop_zero] at hr
  by_cases q : wantB l[i] (i : Int) = true
  ·obtain ⟨g1, g2⟩ := useW_le q (by omega) hu
   obtain ⟨p1, p2⟩ := wparts_ok q (by omega : i ≤ u.length)
   rw [if_pos q] at h
   rw [q, Bool.not_true, ifB_f, ifT_true (dcT ⟨by omega, by omega, by first | trivial | rfl, by first | trivial | rfl, by first | trivial | rfl, p1, p2, fun x hx => le_1000 (hu x hx) (by omega)⟩), wparts_use] at hr
   have hul2 : u.length = (useW l[i] u).length := by omega
   exact .step _ _ _ _ hr (igf1_loop l hl j (i + 1) (useW l[i] u) (by omega) (g1.trans hul) (by push_cast; exact g2) ex d h)
  ·rw [if_neg q] at h
   rw [show wantB l[i] (i : Int) = false by simpa using q] at hr
   have h8 := leaf_some (show (Br.leaf (.ret, ([.b false], [])) : Br (Ex × Dt)).run = some (ex, d) from h)
   obtain ⟨rfl, rfl⟩ := Prod.mk.inj h8
   exact .stop _ _ _ hr (by simp)
theorem igf_ok : LoopsOk Tryz.prog Lqc5 (look [(5, igf1E), (10, igf2E)]) 0 (Tryz.f94.body.getD .skip) := by
 refine LoopsI.loops (cs := [body Tryz.f94 0, body Tryz.f94 1]) ?_ (by kernel_rfl)
 refine .cons (ent := igf1E) (by rfl) (fun d ex d' h => ?_) (.cons (ent := igf2E) (by rfl) (fun d ex d' h => ?_) .nil)
 ·unfold igf1E at h
  dsimp only at h
  split at h
  ·rename_i m l k i u
   obtain ⟨hc, hx⟩ := need_some h
   clear h
   obtain ⟨h0, h1, rfl, rfl, h4, h5, h6⟩ := of_decide_eq_true hc
   obtain ⟨i, rfl⟩ := Int.eq_ofNat_of_zero_le h0
   simp only [ntN] at h1 hx
   have := igf1_loop l h5 (l.length - i) i u (by omega) h4 h6 ex d' hx
   rw [h4] at this
   exact this
  ·cases h
 ·unfold igf2E at h
  dsimp only at h
  split at h
  ·rename_i m l k i p q j u ps
   obtain ⟨hc, hx⟩ := need_some h
   clear h
   obtain ⟨h0, h1, rfl, rfl, rfl, h5, h6, h7⟩ := of_decide_eq_true hc
   obtain ⟨j, rfl⟩ := Int.eq_ofNat_of_zero_le h0
   simp only [ntN] at h1 hx
   have hx := leaf_some hx
   obtain ⟨rfl, rfl⟩ := Prod.mk.inj hx
   exact igf2_loop l k i ps h5 (ps.length - j) j u (by omega) h6 (fun x hx => by have h8 : (0 : Int) ≤ (x : Int) ∧ (x : Int) ≤ 1000 := h7 x hx; omega)
  ·cases h
theorem ones_any (u : List Int) : (!(u.any fun z => z != 1)) = onesB u := by
 unfold onesB
 induction u with
 | nil => rfl
 | cons x u ih => rw [List.any_cons, List.all_cons, ← ih, Bool.not_or]; cases h : x == 1 <;> simp [bne, h]
theorem igoodF : Contract Tryz.prog 94 (Ent.rd1 goodFG).F := by
 refine fun_contract' (KnowsL.cons (enters_fn Tryz.func88 (by kernel_rfl) (by kernel_rfl)) within (KnowsL.cons (enters_fn Tryz.func136 (by kernel_rfl) (by kernel_rfl)) iwant (KnowsL.cons (enters_fn Tryz.func137 (by kernel_rfl) (by kernel_rfl)) wparts_con (KnowsL.cons (enters_fn Tryz.func138 (by kernel_rfl) (by kernel_rfl)) ne1_has KnowsL.nil)))).knows (Λ := (look [(5, igf1E), (10, igf2E)])) Tryz.func94 (c := Tryz.f94.body.getD .skip) (by kernel_rfl) fun vs bs r hq hv hb => ?_
 unfold Ent.F goodFG at hq
 dsimp only at hq
 split at hq
 ·rename_i l
  refine ⟨igf_ok, (igf_tree l).trans (Eq.trans ?_ hq)⟩
  try dsimp only [shr]
  show _ = some _
  unfold goodFB
  by_cases h : 1 ≤ l.length ∧ l.length ≤ 20
  ·have hrep : ∀ x ∈ List.replicate l.length (0 : Int), 0 ≤ x ∧ x ≤ 2 * ((0 : Nat) : Int) := fun x hx => by
    have := (List.mem_replicate.1 hx).2; omega
   rw [dcT h, dcT (show (1 : Int) ≤ (l.length : Int) ∧ (l.length : Int) ≤ 20 by omega), Bool.not_true, ifB_f, ifT_true (by simp only [anE, dcE]; omega), ntN, ifT_true (dcT ⟨by omega, by omega, rfl, rfl, by simp, h.2, fun x hx => le_0 (hrep x hx)⟩), Bool.true_and, List.drop_zero]
   cases hw : wgo 0 l (List.replicate l.length 0) with
   | none => rfl
   | some v =>
    have hvl := wgo_len l 0 (List.replicate l.length 0) (by simp) hrep hw
    rw [List.length_replicate] at hvl
    rw [show (some v).isSome = true from rfl, ifB_t, show (some v).getD [] = v from rfl]
    have W2 : IntKind.i64.wrap ((v.length : Int) - 1) = ((v.length - 1 : Nat) : Int) := by rw [wrap_id (by omega) (by omega)]; omega
    rw [W2, ifT_true (by simp only [anE, dcE]; omega), ntN, Nat.sub_zero, List.drop_zero, hvl, ones_any]
  ·rw [dcF h, dcF (show ¬ ((1 : Int) ≤ (l.length : Int) ∧ (l.length : Int) ≤ 20) by omega)]
   rfl
 ·cases hq

def cut (c : UInt8) : List UInt8 → List (List UInt8)
 | [] => [[]]
 | b :: l => if b = c then [] :: cut c l else match cut c l with
  | [] => []
  | h :: t => (b :: h) :: t
def splitG : List V → List Blk → Br (V × List (Option Blk))
 | [.s s, .s [c]], [] => .need (decide (s.length ≤ 4000000000)) (.leaf (.ref 0 0 (cut c s).length, [some (.row false none .str (cut c s))]))
 | _, _ => .no

open Go.Lib in
theorem index_cons1 (b c : UInt8) (l : List UInt8) : Lib.index (b :: l) [c] = if b = c then 0 else if Lib.index l [c] = -1 then -1 else Lib.index l [c] + 1 := by
 rw [Lib.index]
 by_cases h : b = c
 ·subst h; simp [List.isPrefixOf]
 ·simp [List.isPrefixOf, Ne.symm h, h]
open Go.Lib in
theorem index_mem1 (c : UInt8) : ∀ l : List UInt8, c ∈ l → Lib.index l [c] ≠ -1
 | [], h => by simp at h
 | b :: l, h => by
  have hge := Lib.index_ge l [c]
  rw [index_cons1]
  by_cases hb : b = c
  ·simp [hb]
  ·have := index_mem1 c l (by simpa [Ne.symm hb] using h)
   simp [hb, this]; omega
open Go.Lib in
theorem split_cut (c : UInt8) : ∀ s : List UInt8, Lib.splitK [c] 0 (s.count c) s = cut c s
 | [] => rfl
 | b :: l => by
  by_cases h : b = c
  ·subst h
   have hi : Lib.index (b :: l) [b] = 0 := by rw [index_cons1, if_pos rfl]
   rw [List.count_cons_self, cut, if_pos rfl, ← split_cut b l, Lib.splitK]
   simp [hi]
  ·rw [List.count_cons_of_ne (by simpa using h), cut, if_neg h, ← split_cut c l]
   cases hk : l.count c with
   | zero => simp [Lib.splitK]
   | succ k =>
    have hm : c ∈ l := List.count_pos_iff.1 (by omega)
    have hne := index_mem1 c l hm
    have hge := Lib.index_ge l [c]
    obtain ⟨j, hj⟩ : ∃ j : Nat, Lib.index l [c] = j := ⟨(Lib.index l [c]).toNat, by omega⟩
    have hi : Lib.index (b :: l) [c] = ((j + 1 : Nat) : Int) := by rw [index_cons1, if_neg h, if_neg hne, hj]; omega
    have e1 : ((Lib.index l [c]) == -1) = false := by rw [hj]; exact beq_false_of_ne (by omega)
    have e2 : ((((j + 1 : Nat) : Int)) == -1) = false := beq_false_of_ne (by omega)
    rw [Lib.splitK, Lib.splitK, hi, e1, e2, hj]
    simp [Nat.add_assoc]
theorem cut_ne (c : UInt8) : ∀ s : List UInt8, cut c s ≠ []
 | [] => by simp [cut]
 | b :: l => by
  rw [cut]
  split
  ·simp
  ·have := cut_ne c l
   split
   ·rename_i h; exact absurd h this
   ·simp
theorem cut_len (c : UInt8) (s : List UInt8) : (cut c s).length = s.count c + 1 := by
 induction s with
 | nil => rfl
 | cons b l ih =>
  rw [cut]
  by_cases h : b = c
  ·rw [if_pos h]; subst h; simp [ih]
  ·rw [if_neg h, List.count_cons_of_ne (by simpa using h), ← ih]
   have := cut_ne c l
   split
   ·rename_i hh; exact absurd hh this
   ·rename_i hh; rw [hh]; rfl
open Go.Lib Go.Shelf Go.RowKit Go.Proofs in
set_option maxHeartbeats 1000000 in
theorem split_one {P : Program} {ρ : Ren} (L : Lays.n146 P ρ) (hi9 : (P.info? (ρ.t 9)).map (fun i => (i.zero, i.size, i.bytes)) = some (some (.string ByteArray.empty), 1, 16)) (s : ByteArray) (b : UInt8) (w : World) (hs : s.size < 4294967281) :
  Calls P (ρ.f 146) #[.string s, .string ⟨#[b]⟩] w fun e w' =>
   e = .returned (.slice (some ⟨w.heap.size, 0, none⟩) (Lib.countB s ⟨#[b]⟩ + 1) (Lib.countB s ⟨#[b]⟩ + 1)) ∧ w' = w.alloc (.cells ((Lib.splitB ⟨#[b]⟩ 0 (Lib.countB s ⟨#[b]⟩) s).map Value.string).toArray (ρ.t 9)) := by
 have h1 : 1 ≤ (⟨#[b]⟩ : ByteArray).size := Nat.le_refl _
 have hle := Lib.countB_le ⟨#[b]⟩ h1 s.size s (Nat.le_refl _)
 have hlen := Lib.splitB_all ⟨#[b]⟩ h1 0 _ s rfl
 have c := Any.strings_genSplit_core (ρ := ρ) { L with } hi9 s ⟨#[b]⟩ 0 (-1) (Lib.countB s ⟨#[b]⟩ + 1) w hs h1 (Nat.zero_le _)
  (fun x cc _ => (Any.strings_Index_one { L with } x b _).mono fun e w' ⟨he, hw⟩ => ⟨by rw [he]; show _ = Ending.returned (Value.int .i64 (Lib.index x.data.toList [b])); rw [Lib.index_one], hw⟩)
  ((Any.strings_Count_one { L with } s b w).mono fun e w' ⟨he, hw⟩ => ⟨by rw [he]; show _ = Ending.returned (Value.int .i64 ((Lib.count s.data.toList [b] : Nat) : Int)); rw [Lib.count_one]; rfl, hw⟩)
  (by decide) (by decide) (by rw [if_pos (by decide)]; omega)
 rw [Nat.add_sub_cancel, hlen] at c
 have e2 : Lib.cellsOf (Lib.splitB ⟨#[b]⟩ 0 (Lib.countB s ⟨#[b]⟩) s) (Lib.countB s ⟨#[b]⟩ + 1) = ((Lib.splitB ⟨#[b]⟩ 0 (Lib.countB s ⟨#[b]⟩) s).map Value.string).toArray := by rw [← hlen]; exact Lib.cellsOf_full _
 rw [e2] at c
 have t3 := L.t3; have t9 := L.t9; have t31 := L.t31
 have a3 := L.a3; have a9 := L.a9; have a31 := L.a31
 have z3 := L.z3; have v3 := L.v3; have z9 := L.z9; have v9 := L.v9; have z31 := L.z31; have v31 := L.v31
 have e221 : ∀ args w, (callFunc (ρ.f 221) args).run P w = .ok (.enter (ρ.f 221) args) w := enters_of L.f221 (by kernel_rfl) rfl
 go_enter L.f146, Body.n146_ntmps ρ
 go_wp2_with (go_at_fn (ρ.f 221); refine c.mono ?_; rintro e w' ⟨rfl, hw⟩; rw [hw])
 go_ret
 exact ⟨rfl, rfl⟩
open Go.Shelf in
noncomputable def splRen : Ren := ⟨fun k => match k with | 146 => 140 | 221 => 175 | 138 => 208 | 143 => 209 | 195 => 228 | 197 => 229 | 217 => 235 | 218 => 230 | 219 => 231 | 224 => 237 | 225 => 236 | 260 => 234 | 266 => 239 | 267 => 238 | 268 => 207 | 314 => 240 | k => k,
 fun k => match k with | 0 => 0 | 3 => 3 | 4 => 4 | 5 => 5 | 9 => 9 | 21 => 21 | 31 => 136 | 46 => 274 | 51 => 279 | 105 => 271 | 119 => 275 | 138 => 277 | 139 => 278 | 146 => 280 | k => k,
 fun k => match k with | 1 => 0 | 3 => 1 | 4 => 2 | k => k⟩
open Go.Shelf in
theorem splLays : Lays.n146 Tryz.prog splRen := by
 constructor
 all_goals first | kernel_rfl | (intro w; kernel_rfl)


theorem left_new {w : World} {R : Nat → Prop} {μ : Nat → Option RB} {l : List (List UInt8)} {us : Array Value} {e : TypeId}
  (hn : ∀ j, 0 ≤ j → μ j = none) (rlt : ∀ x, R x → x < w.heap.size) (hm : l.length ≤ maxI) (hz : l.length ≤ us.size)
  (hv : ∀ (i : Nat) (z : List UInt8), l[i]? = some z → us[i]? = some (Value.string ⟨z.toArray⟩)) :
  Left w R μ (fun j => ([] : List Blk)[j]?) (.ref 0 0 l.length) [some (.row false none .str l)] (.slice (some ⟨w.heap.size, 0, none⟩) l.length l.length) (w.alloc (.cells us e)) R (updM μ 0 (.at w.heap.size 0 1 l.length l.length)) := by
 have h0 : μ 0 = none := hn 0 (Nat.le_refl _)
 have hR : ¬ R w.heap.size := fun hr => by have := rlt _ hr; omega
 have at0 : ∀ j B, (([some (Blk.row false none .str l)] : List (Option Blk))[j]?).join = some B → j = 0 ∧ B = .row false none .str l := fun j B hB => by
  match j with
  | 0 => simp at hB; exact ⟨rfl, hB.symm⟩
  | j + 1 => simp at hB
 refine ⟨?_, ⟨?_, ?_, ?_, fun x hx => Nat.lt_of_lt_of_le (rlt x hx) (by simp)⟩, rfl, rfl, rfl, by simp, ?_, fun x h => h, fun x h => .inl h, ?_, ?_, updM_ext h0 _, ?_⟩
 ·exact .ref 0 0 l.length w.heap.size 0 1 l.length l.length ⟨w.heap.size, 0, none⟩ (updM_self _ _ _) (Nat.le_refl _) (by omega) hm (.inr (by simp))
 ·intro id B hB
  obtain ⟨rfl, rfl⟩ := at0 id B hB
  refine ⟨_, updM_self _ _ _, .row w.heap.size 0 1 l.length l.length false none .str l us e rfl (by simp only [World.alloc]; simp) ⟨rfl, Nat.le_refl _⟩ hm (by omega) ?_ (by simp)⟩
  intro i z j v hi hj
  match j with
  | 0 =>
   simp only [enc, List.getElem?_cons_zero, Option.some.injEq] at hj
   subst hj
   exact ⟨_, by simpa using hv i z hi, .s _⟩
  | j + 1 => simp [enc] at hj
 ·intro id id' B B' rb1 rb2 x g1 g2 _ _ _ _ _ _
  rw [(at0 id B g1).1, (at0 id' B' g2).1]
 ·intro id B rb1 x g1 o1 m1 e1
  obtain ⟨rfl, rfl⟩ := at0 id B g1
  rw [updM_self] at m1; simp at m1; subst m1
  simp [RB.real] at e1; subst e1
  exact hR
 ·intro k hk hno
  exact heap_alloc_lt _ _ hk
 ·intro j B rb1 x g1 o1 m1 e1
  obtain ⟨rfl, rfl⟩ := at0 j B g1
  rw [updM_self] at m1; simp at m1; subst m1
  simp [RB.real] at e1; subst e1
  exact .inr (Nat.le_refl _)
 ·intro j B rb1 x g1 m1 e1
  obtain ⟨rfl, rfl⟩ := at0 j B g1
  rw [updM_self] at m1; simp at m1; subst m1
  simp [RB.real] at e1; subst e1
  exact .inr (Nat.le_refl _)
 ·intro j hj
  have hj : 1 ≤ j := hj
  have hne : j ≠ 0 := by omega
  simp only [updM, hne, if_false]
  exact hn j (by omega)
theorem splitC : Contract Tryz.prog 140 (Ent.rd1 splitG).F := by
 intro w R μ vs us bs r outs hmem hnone hreps hF
 unfold Ent.F splitG at hF
 dsimp only at hF
 split at hF
 rotate_left
 ·cases hF
 rename_i s c
 obtain ⟨hc, h⟩ := need_some hF
 have hc := of_decide_eq_true hc
 obtain ⟨rfl, rfl⟩ := Prod.mk.inj (leaf_some h)
 clear h hF
 match us, hreps with
 | [u0, u1], hreps =>
 have v0 := hreps.2 0 _ u0 rfl rfl
 have v1 := hreps.2 1 _ u1 rfl rfl
 cases v0
 cases v1
 have hsz : (⟨s.toArray⟩ : ByteArray).size = s.length := by simp [ByteArray.size]
 refine (split_one (ρ := splRen) splLays (by kernel_rfl) ⟨s.toArray⟩ c w (by rw [hsz]; omega)).mono ?_
 rintro e w' ⟨rfl, rfl⟩
 have hcount : Lib.countB ⟨s.toArray⟩ ⟨#[c]⟩ = s.count c := by
  show Lib.count s.toArray.toList [c] = _
  rw [Lib.count_one]
 have hdata := Lib.splitB_data ⟨#[c]⟩ 0 (s.count c) ⟨s.toArray⟩
 have hcut : (Lib.splitB ⟨#[c]⟩ 0 (s.count c) ⟨s.toArray⟩).map (·.data.toList) = cut c s := by rw [hdata]; exact split_cut c s
 rw [hcount]
 generalize Lib.splitB ⟨#[c]⟩ 0 (s.count c) ⟨s.toArray⟩ = L at *
 have hl : L.length = (cut c s).length := by rw [← hcut, List.length_map]
 have hlc := cut_len c s
 have hcs := List.count_le_length (a := c) (l := s)
 have := left_new (w := w) (R := R) (μ := μ) (l := cut c s) (us := (L.map Value.string).toArray) (e := splRen.t 9) (fun j _ => hnone j (by simp)) hmem.rlt (by unfold maxI; omega) (by simp; omega) (fun i z hi => by
  rw [← hcut, List.getElem?_map] at hi
  obtain ⟨x, hx, rfl⟩ := Option.map_eq_some_iff.1 hi
  simp [hx])
 rw [hlc] at this ⊢
 exact ⟨_, R, _, rfl, this⟩

def levB (b : UInt8) : Bool := (decide (97 ≤ b.toNat) && decide (b.toNat ≤ 122)) || (decide (48 ≤ b.toNat) && decide (b.toNat ≤ 57))
def lev (s : List UInt8) : Bool := s.all levB && (decide (1 ≤ s.length) && decide (s.length ≤ 6))
def levG : List V → List Blk → Br (V × List (Option Blk))
 | [.s s], [] => .need (decide (s.length ≤ maxI)) (.leaf (.b (lev s), []))
 | _, _ => .no
def plevE : LoopEnt := ⟨35, [0,5,6], [0], [2], fun
 | ([.s s, .i .i64 m, .i .i64 i], []) => .need (decide (0 ≤ i ∧ i.toNat ≤ s.length ∧ s.length ≤ maxI ∧ m = s.length)) (.br ((s.drop i.toNat).all levB) (.leaf (.exit 0, ([.s s], []))) (.leaf (.ret, ([.b false], []))))
 | _ => .no⟩
def slevE : LoopEnt := ⟨36, [0,3], [0], [2], fun
 | ([.s s, .i .i64 i], []) => .need (decide (0 ≤ i ∧ i.toNat ≤ s.length ∧ s.length ≤ maxI)) (.br ((s.drop i.toNat).all levB) (.leaf (.exit 0, ([.s s], []))) (.leaf (.ret, ([.b false], []))))
 | _ => .no⟩

theorem plev_round (s : List UInt8) (m i : Int) : roundK Tryz.prog (look [(88, .rd1 withinG)]) (look [(2, plevE)]) 0 (body Tryz.f132 0) plevE ([.s s, .j m, .j i], []) =
 ((ifB (decide (i < m)) (ifT (decide ((0 : Int) ≤ i)) (ifSome s[i.toNat]? fun z => ifB (decide ((↑z.toNat : Int) < (97 : Int))) (ifT (decide ((0 : Int) ≤ i)) (ifSome
 s[i.toNat]? fun z => ifB (decide ((↑z.toNat : Int) < (48 : Int))) (some (Ex.ret, [V.b false], [])) (ifT (decide ((0 : Int) ≤ i)) (ifSome s[i.toNat]? fun z => ifB (decide
 ((↑z.toNat : Int) > (57 : Int))) (some (Ex.ret, [V.b false], [])) (some (Ex.normal, [V.s s, V.j m, V.j (IntKind.i64.wrap (i + (1 : Int)))], [])))))) (ifT
 (decide ((0 : Int) ≤ i)) (ifSome s[i.toNat]? fun z => ifB (decide ((↑z.toNat : Int) > (122 : Int))) (ifT (decide ((0 : Int) ≤ i)) (ifSome s[i.toNat]? fun z => ifB (decide
 ((↑z.toNat : Int) < (48 : Int))) (some (Ex.ret, [V.b false], [])) (ifT (decide ((0 : Int) ≤ i)) (ifSome s[i.toNat]? fun z => ifB (decide ((↑z.toNat : Int) > (57 : Int)))
 (some (Ex.ret, [V.b false], [])) (some (Ex.normal, [V.s s, V.j m, V.j (IntKind.i64.wrap (i + (1 : Int)))], [])))))) (some (Ex.normal, [V.s s, V.j m, V.i
 .i64 (IntKind.i64.wrap (i + (1 : Int)))], [])))))) (some (Ex.exit 0, [V.s s], []))) : _) := by kernel_rfl
theorem plev_ok : LoopsOk Tryz.prog (look [(88, .rd1 withinG)]) (look [(2, plevE)]) 0 (Tryz.f132.body.getD .skip) := by
 refine loopsOk_one (a := body Tryz.f132 0) (by kernel_rfl) fun d e d' h => ?_
 unfold plevE at h
 dsimp only at h
 split at h
 ·rename_i s m i
  obtain ⟨hc, hx⟩ := need_some h
  clear h
  obtain ⟨h0, h1, h2, rfl⟩ := of_decide_eq_true hc
  obtain ⟨i, rfl⟩ := Int.eq_ofNat_of_zero_le h0
  rw [ntN] at h1 hx
  refine runs_all (l := s) levB (fun i => ([.s s, .j (↑s.length : Int), .j (i : Int)], [])) (ex := (.exit 0, ([.s s], []))) (rt := (.ret, ([.b false], []))) (by simp) (by simp) (fun i hi => ?_) ?_ (s.length - i) i (by omega) e d' hx
  ·have hr := plev_round s s.length i
   rw [ifB_true (dcT (by omega))] at hr
   simp only [ntN, gtE hi, ifSome_s, wrap_succ (n := i) (by omega)] at hr
   refine hr.trans ?_
   have hb := s[i].toNat_lt
   have hz : (0 : Int) ≤ (i : Int) := by omega
   simp only [hz, decide_true, ifT_t]
   unfold levB
   generalize s[i].toNat = b at *
   have c1 : decide ((b : Int) < 97) = !decide (97 ≤ b) := by rw [← decide_not]; exact decide_eq_decide.2 (by omega)
   have c2 : decide ((b : Int) > 122) = !decide (b ≤ 122) := by rw [← decide_not]; exact decide_eq_decide.2 (by omega)
   have c3 : decide ((b : Int) < 48) = !decide (48 ≤ b) := by rw [← decide_not]; exact decide_eq_decide.2 (by omega)
   have c4 : decide ((b : Int) > 57) = !decide (b ≤ 57) := by rw [← decide_not]; exact decide_eq_decide.2 (by omega)
   have d1 : decide ((b : Int) ≥ 97) = decide (97 ≤ b) := decide_eq_decide.2 (by omega)
   have d2 : decide ((b : Int) ≤ 122) = decide (b ≤ 122) := decide_eq_decide.2 (by omega)
   have d3 : decide ((b : Int) ≥ 48) = decide (48 ≤ b) := decide_eq_decide.2 (by omega)
   have d4 : decide ((b : Int) ≤ 57) = decide (b ≤ 57) := decide_eq_decide.2 (by omega)
   simp only [c1, c2, c3, c4, d1, d2, d3, d4]
   clear c1 c2 c3 c4 d1 d2 d3 d4
   generalize decide (97 ≤ b) = x1
   generalize decide (b ≤ 122) = x2
   generalize decide (48 ≤ b) = x3
   generalize decide (b ≤ 57) = x4
   cases x1 <;> cases x2 <;> cases x3 <;> cases x4 <;> rfl
  ·have hr := plev_round s s.length s.length
   rw [ifB_false (dcF (by omega))] at hr
   exact hr
 ·cases h
theorem plev_fun (s : List UInt8) (hm : s.length ≤ maxI) : funK Tryz.prog (look [(88, .rd1 withinG)]) (look [(2, plevE)]) Tryz.f132 [.s s] [] = some (.b (lev s), []) := by
 have e : funK Tryz.prog (look [(88, .rd1 withinG)]) (look [(2, plevE)]) Tryz.f132 [.s s] [] = ((ifT (decide ((0 : Int) ≤ (0 : Int) ∧ (0 : Nat) ≤ s.length ∧ s.length ≤ maxI ∧ (↑s.length : Int) = (↑s.length : Int))) (ifB ((List.drop (0 : Nat) s).all levB) (some (V.b
 (decide ((1 : Int) ≤ (↑s.length : Int) ∧ (↑s.length : Int) ≤ (6 : Int))), [])) (some (V.b false, [])))) : _) := by kernel_rfl
 rw [e]
 clear e
 rw [ifT_true (dcT ⟨by omega, by omega, hm, by trivial⟩)]
 unfold lev
 simp only [List.drop_zero]
 cases s.all levB with
 | true =>
  rw [ifB_t]
  by_cases q1 : 1 ≤ s.length <;> by_cases q2 : s.length ≤ 6 <;> simp [q1, q2] <;> omega
 | false => rfl
theorem plev : Contract Tryz.prog 132 (Ent.rd1 levG).F := by
 refine fun_contract' (KnowsL.cons (enters_fn Tryz.func88 (by kernel_rfl) (by kernel_rfl)) within KnowsL.nil).knows (Λ := (look [(2, plevE)])) Tryz.func132 (c := Tryz.f132.body.getD .skip) (by kernel_rfl) fun vs bs r' hq hv hb => ?_
 unfold Ent.F levG at hq
 dsimp only at hq
 split at hq
 ·rename_i s
  obtain ⟨hc, hx⟩ := need_some hq
  exact ⟨plev_ok, (plev_fun s (of_decide_eq_true hc)).trans hx⟩
 ·cases hq
theorem slev_round (s : List UInt8) (i : Int) : roundK Tryz.prog (look [(78, .rd1 withinG)]) (look [(2, slevE)]) 0 (body Tryz.f121 0) slevE ([.s s, .j i], []) =
 ((ifB (decide (i < (↑s.length : Int))) (ifT (decide ((0 : Int) ≤ i)) (ifSome s[i.toNat]? fun z => ifB (decide ((↑z.toNat : Int) ≥ (97 : Int))) (ifT (decide ((0 : Int) ≤ i))
 (ifSome s[i.toNat]? fun z => ifB (decide ((↑z.toNat : Int) ≤ (122 : Int))) (some (Ex.normal, [V.s s, V.j (IntKind.i64.wrap (i + (1 : Int)))], [])) (ifT (decide ((0 :
 Int) ≤ i)) (ifSome s[i.toNat]? fun z => ifB (decide ((↑z.toNat : Int) ≥ (48 : Int))) (ifT (decide ((0 : Int) ≤ i)) (ifSome s[i.toNat]? fun z => ifB (!decide ((↑z.toNat :
 Int) ≤ (57 : Int))) (some (Ex.ret, [V.b false], [])) (some (Ex.normal, [V.s s, V.j (IntKind.i64.wrap (i + (1 : Int)))], [])))) (some (Ex.ret, [V.b false], []))))))
 (ifT (decide ((0 : Int) ≤ i)) (ifSome s[i.toNat]? fun z => ifB (decide ((↑z.toNat : Int) ≥ (48 : Int))) (ifT (decide ((0 : Int) ≤ i)) (ifSome s[i.toNat]? fun z => ifB
 (!decide ((↑z.toNat : Int) ≤ (57 : Int))) (some (Ex.ret, [V.b false], [])) (some (Ex.normal, [V.s s, V.j (IntKind.i64.wrap (i + (1 : Int)))], [])))) (some (Ex.ret,
 [V.b false], [])))))) (some (Ex.exit 0, [V.s s], []))) : _) := by kernel_rfl
theorem slev_ok : LoopsOk Tryz.prog (look [(78, .rd1 withinG)]) (look [(2, slevE)]) 0 (Tryz.f121.body.getD .skip) := by
 refine loopsOk_one (a := body Tryz.f121 0) (by kernel_rfl) fun d e d' h => ?_
 unfold slevE at h
 dsimp only at h
 split at h
 ·rename_i s i
  obtain ⟨hc, hx⟩ := need_some h
  clear h
  obtain ⟨h0, h1, h2⟩ := of_decide_eq_true hc
  obtain ⟨i, rfl⟩ := Int.eq_ofNat_of_zero_le h0
  rw [ntN] at h1 hx
  refine runs_all (l := s) levB (fun i => ([.s s, .j (i : Int)], [])) (ex := (.exit 0, ([.s s], []))) (rt := (.ret, ([.b false], []))) (by simp) (by simp) (fun i hi => ?_) ?_ (s.length - i) i (by omega) e d' hx
  ·have hr := slev_round s i
   rw [ifB_true (dcT (by omega))] at hr
   simp only [ntN, gtE hi, ifSome_s, wrap_succ (n := i) (by omega)] at hr
   refine hr.trans ?_
   have hb := s[i].toNat_lt
   have hz : (0 : Int) ≤ (i : Int) := by omega
   simp only [hz, decide_true, ifT_t]
   unfold levB
   generalize s[i].toNat = b at *
   have c1 : decide ((b : Int) < 97) = !decide (97 ≤ b) := by rw [← decide_not]; exact decide_eq_decide.2 (by omega)
   have c2 : decide ((b : Int) > 122) = !decide (b ≤ 122) := by rw [← decide_not]; exact decide_eq_decide.2 (by omega)
   have c3 : decide ((b : Int) < 48) = !decide (48 ≤ b) := by rw [← decide_not]; exact decide_eq_decide.2 (by omega)
   have c4 : decide ((b : Int) > 57) = !decide (b ≤ 57) := by rw [← decide_not]; exact decide_eq_decide.2 (by omega)
   have d1 : decide ((b : Int) ≥ 97) = decide (97 ≤ b) := decide_eq_decide.2 (by omega)
   have d2 : decide ((b : Int) ≤ 122) = decide (b ≤ 122) := decide_eq_decide.2 (by omega)
   have d3 : decide ((b : Int) ≥ 48) = decide (48 ≤ b) := decide_eq_decide.2 (by omega)
   have d4 : decide ((b : Int) ≤ 57) = decide (b ≤ 57) := decide_eq_decide.2 (by omega)
   simp only [c1, c2, c3, c4, d1, d2, d3, d4]
   clear c1 c2 c3 c4 d1 d2 d3 d4
   generalize decide (97 ≤ b) = x1
   generalize decide (b ≤ 122) = x2
   generalize decide (48 ≤ b) = x3
   generalize decide (b ≤ 57) = x4
   cases x1 <;> cases x2 <;> cases x3 <;> cases x4 <;> rfl
  ·have hr := slev_round s s.length
   rw [ifB_false (dcF (by omega))] at hr
   exact hr
 ·cases h
theorem slev_fun (s : List UInt8) (hm : s.length ≤ maxI) : funK Tryz.prog (look [(78, .rd1 withinG)]) (look [(2, slevE)]) Tryz.f121 [.s s] [] = some (.b (lev s), []) := by
 have e : funK Tryz.prog (look [(78, .rd1 withinG)]) (look [(2, slevE)]) Tryz.f121 [.s s] [] = ((ifT (decide ((0 : Int) ≤ (0 : Int) ∧ (0 : Nat) ≤ s.length ∧ s.length ≤ maxI)) (ifB ((List.drop (0 : Nat) s).all levB) (some (V.b (decide ((1 : Int) ≤ (↑s.length : Int) ∧
 (↑s.length : Int) ≤ (6 : Int))), [])) (some (V.b false, [])))) : _) := by kernel_rfl
 rw [e]
 clear e
 rw [ifT_true (dcT ⟨by omega, by omega, hm⟩)]
 unfold lev
 simp only [List.drop_zero]
 cases s.all levB with
 | true =>
  rw [ifB_t]
  by_cases q1 : 1 ≤ s.length <;> by_cases q2 : s.length ≤ 6 <;> simp [q1, q2] <;> omega
 | false => rfl
theorem slev : Contract Tryz.prog 121 (Ent.rd1 levG).F := by
 refine fun_contract' (KnowsL.cons (enters_fn Tryz.func78 (by kernel_rfl) (by kernel_rfl)) l1In KnowsL.nil).knows (Λ := (look [(2, slevE)])) Tryz.func121 (c := Tryz.f121.body.getD .skip) (by kernel_rfl) fun vs bs r' hq hv hb => ?_
 unfold Ent.F levG at hq
 dsimp only at hq
 split at hq
 ·rename_i s
  obtain ⟨hc, hx⟩ := need_some hq
  exact ⟨slev_ok, (slev_fun s (of_decide_eq_true hc)).trans hx⟩
 ·cases hq

end Go.Proofs.YtcjnmdcagfgjoaaGreatDoor.Den
