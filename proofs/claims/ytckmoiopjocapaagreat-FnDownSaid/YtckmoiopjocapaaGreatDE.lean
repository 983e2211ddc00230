/- What functions of the program do, by the machine: Dc5 En3 Val24 Val25 Val26 Dc6 Dc7 En4 En5 Dc8 En6 Dw1 Dw3 Dw4 Dx1 Cd1 Cd2 Frz Kf Cod1 Cod2 Cod3. -/
import Derived.Test.YtckmoiopjocapaaGreatDD
import Derived.KernelRfl
import Derived.Test.YtckmoiopjocapaaGreatRows
open Go.IntKind (i64)
open Go.Proofs.Tryz
open List (all_cons all_eq_true append_assoc append_nil cons_append drop drop_eq_nil_of_le drop_zero getD_eq_getElem?_getD getElem?_map getElem_mem isEmpty_iff length_append length_cons length_map length_singleton map_cons mem_cons mem_cons_of_mem mem_cons_self nil_append pairwise_cons take take_length)
open Nat (add_assoc le_refl lt_irrefl zero_add zero_le)
open Option (map_eq_some_iff map_some)
open Bool (or_eq_true)
namespace Go.Proofs.YtckmoiopjocapaaGreat.Den
open Go.Proofs
set_option maxRecDepth 100000
def Rf:Rose A4:=.node (0,[],0,false,()) []
def E7 (n:Int) (z:Rose Lab):Bool:=z.lab.1 != 3||(decide (0<=n/\n<=z.lab.2.2.2.2.1))
def Bu (z:Rose Lab) (s:By):Rose A4:=match Df s with
 | some fs=>(match B7 z.kids fs with | some vs=>.node (0,[],0,true,()) vs | none=>Rf)
 | none=>Rf
def BL (z:Rose Lab) (s:By):Rose A4:=if z.lab.1=2 then .node (0,s,0,false,()) [] else if z.lab.1=5 then Bu z s else (match Dp z.kids s with
 | some vs=>.node (0,[],0,true,()) vs
 | none=>Rf)
def rsN (n:Nat):Gm
 | [.s s,.agg (Lt y0 y1 y2 y3 y4 ys)],[]=>.need (decide (s.length<=400/\y0=5/\Ah (.node (y0,y1,y2,y3,y4,()) ys:Rose Lab)=true/\Aj (.node (y0,y1,y2,y3,y4,()) ys:Rose Lab)<=n/\Aj (.node (y0,y1,y2,y3,y4,()) ys:Rose Lab)<=1000000)) (.leaf (.tup [.agg [.j (Bu (.node (y0,y1,y2,y3,y4,()) ys:Rose Lab) s).lab.1,.s (Bu (.node (y0,y1,y2,y3,y4,()) ys:Rose Lab) s).lab.2.1,.j (Bu (.node (y0,y1,y2,y3,y4,()) ys:Rose Lab) s).lab.2.2.1,.b (Bu (.node (y0,y1,y2,y3,y4,()) ys:Rose Lab) s).lab.2.2.2.1,.ref 0 0 (Bu (.node (y0,y1,y2,y3,y4,()) ys:Rose Lab) s).kids.length],.b (AI (.node (y0,y1,y2,y3,y4,()) ys:Rose Lab) s 0).isSome],[R0 (.rose VCd) (Bu (.node (y0,y1,y2,y3,y4,()) ys:Rose Lab) s).kids]))
 | _,_=>.no
def ptN (n:Nat):Gm
 | [.s s,.agg (Lt y0 y1 y2 y3 y4 ys)],[]=>.need (decide (s.length<=400/\fkB (.node (y0,y1,y2,y3,y4,()) ys:Rose Lab)=false/\Ah (.node (y0,y1,y2,y3,y4,()) ys:Rose Lab)=true/\Aj (.node (y0,y1,y2,y3,y4,()) ys:Rose Lab)<=n/\Aj (.node (y0,y1,y2,y3,y4,()) ys:Rose Lab)<=1000000)) (.leaf (.tup [.agg [.j (BL (.node (y0,y1,y2,y3,y4,()) ys:Rose Lab) s).lab.1,.s (BL (.node (y0,y1,y2,y3,y4,()) ys:Rose Lab) s).lab.2.1,.j (BL (.node (y0,y1,y2,y3,y4,()) ys:Rose Lab) s).lab.2.2.1,.b (BL (.node (y0,y1,y2,y3,y4,()) ys:Rose Lab) s).lab.2.2.2.1,.ref 0 0 (BL (.node (y0,y1,y2,y3,y4,()) ys:Rose Lab) s).kids.length],.b (AI (.node (y0,y1,y2,y3,y4,()) ys:Rose Lab) s 0).isSome],[R0 (.rose VCd) (BL (.node (y0,y1,y2,y3,y4,()) ys:Rose Lab) s).kids]))
 | _,_=>.no
def TS:Gm
 | [.agg (Lt y0 y1 y2 y3 y4 ys)],[]=>.leaf (.b (fkB (.node (y0,y1,y2,y3,y4,()) ys:Rose Lab)),[])
 | _,_=>.no
def L0:Gm
 | [.agg (Lv v0 _ _ _ _),.agg (Lt y0 y1 y2 y3 y4 ys)],[]=>.leaf (.b (E7 v0 (.node (y0,y1,y2,y3,y4,()) ys:Rose Lab)),[])
 | _,_=>.no
def Ff (l:List WFd) (i:Nat):Bool:=(List.range l.length).drop i |>.all (Ci (CE l))
def rsE (n:Nat):LoopEnt:=⟨95,[3,4,6,8,23,24,25],[3,4,8],[4,5],fun
 | ([.ptr 0 0,.ptr 1 0,.ref 2 0 w,.ptr 3 0,.ref 2 0 w2,.j c,.j i],[some (.box (Lt y0 y1 y2 y3 y4 ys)),some (.box [.j 0,.s [],.j 0,.b false,.ref 4 0 0]),R0 FCd fs,some (.box [.j 0,.s [],.j 0,.b true,.ref 5 0 m]),R0 (.rose VCd) [],R0 (.rose VCd) vs])=>.need (decide (w=fs.length/\w2=fs.length/\c=fs.length/\0<=i/\i.toNat<=fs.length/\fs.length<=40/\m=vs.length/\m<=i/\(fs.all fun x=>AJ x)=true/\mxD fs<=400/\A6 5 ys=true/\Ak ys<=n/\Ak ys<=1000000)) (.br ((Ff fs i.toNat)&&(B7 ys (fs.drop i.toNat)).isSome) (.leaf (.exit 0,([.ptr 0 0,.ptr 1 0,.ptr 2 0],[some (.box (Lt y0 y1 y2 y3 y4 ys)),some (.box [.j 0,.s [],.j 0,.b false,.ref 3 0 0]),some (.box [.j 0,.s [],.j 0,.b true,.ref 4 0 (vs++(B7 ys (fs.drop i.toNat)).getD []).length]),R0 (.rose VCd) [],R0 (.rose VCd) (vs++(B7 ys (fs.drop i.toNat)).getD [])]))) (.leaf (.ret,([.ptr 0 0,.b false],[some (.box [.j 0,.s [],.j 0,.b false,.ref 1 0 0]),R0 (.rose VCd) []]))))
 | _=>.no⟩
def ptE (n:Nat):LoopEnt:=⟨100,[0,3,4,6,7],[4,6],[4,5],fun
 | ([.s s,.ptr 0 0,.ptr 1 0,.ptr 2 0,.j a],[some (.box (Lt _ _ _ _ _ ys)),some (.box [.j 0,.s [],.j 0,.b false,.ref 3 0 0]),some (.box [.j 0,.s [],.j 0,.b true,.ref 4 0 m]),R0 (.rose VCd) [],R0 (.rose VCd) vs])=>.need (decide (0<=a/\a.toNat<=s.length/\s.length<=400/\m=vs.length/\m<=a/\ys.length=1/\ys.all Ah=true/\Ak ys<=n/\Ak ys<=1000000)) (.br (BC (fkB (hd0 ys)) (fun n=>A1 (hd0 ys) n 0) (fun d=>AI (hd0 ys) d 0) s (s.length-a.toNat) a.toNat).isSome (.leaf (.exit 1,([.ptr 0 0,.ptr 1 0],[some (.box [.j 0,.s [],.j 0,.b false,.ref 2 0 0]),some (.box [.j 0,.s [],.j 0,.b true,.ref 3 0 (vs++(BC (fkB (hd0 ys)) (fun n=>A1 (hd0 ys) n 0) (fun d=>AI (hd0 ys) d 0) s (s.length-a.toNat) a.toNat).getD []).length]),R0 (.rose VCd) [],R0 (.rose VCd) (vs++(BC (fkB (hd0 ys)) (fun n=>A1 (hd0 ys) n 0) (fun d=>AI (hd0 ys) d 0) s (s.length-a.toNat) a.toNat).getD [])]))) (.leaf (.ret,([.ptr 0 0,.b false],[some (.box [.j 0,.s [],.j 0,.b false,.ref 1 0 0]),R0 (.rose VCd) []]))))
 | _=>.no⟩
theorem YO (y0:Int) (y1:By) (y2:Int) (y3:Bool) (y4:Int) (ys:RL):AT prog (Aa []) (Aa []) f64 [.agg (Lt y0 y1 y2 y3 y4 ys)] []=some (.b (fkB (.node (y0,y1,y2,y3,y4,()) ys:Rose Lab)),[]):=by
 have e:AT prog (Aa []) (Aa []) f64 [.agg (Lt y0 y1 y2 y3 y4 ys)] []=((ifB (y0==1) (some (V.b true,[])) (some (V.b (y0==3),[]))):_):=by kernel_rfl
 rw [e];clear e;show _=some (V.b (y0==1||y0==3),[]);cases y0==1<;>rfl
theorem sfk:Ac prog 64 (Ent.rd1 TS).F:=by
 refine fcK KnowsL.nil.knows (Λ:=Aa []) func64 fun vs bs r' hq=>?_
 unfold Ent.F TS at hq;dsimp only at hq;split at hq
 ·exact ⟨Ao _,(YO _ _ _ _ _ _ ).trans hq⟩
 ·cases hq
theorem Qa (v0:Int) (v1:By) (v2:Int) (v3:Bool) (vs:RVL) (y0:Int) (y1:By) (y2:Int) (y3:Bool) (y4:Int) (ys:RL):AT prog (Aa [(100,.rd1 AC)]) (Aa []) f118 [.agg (Lv v0 v1 v2 v3 vs),.agg (Lt y0 y1 y2 y3 y4 ys)] []=some (.b (E7 v0 (.node (y0,y1,y2,y3,y4,()) ys:Rose Lab)),[]):=by
 have e:AT prog (Aa [(100,.rd1 AC)]) (Aa []) f118 [.agg (Lv v0 v1 v2 v3 vs),.agg (Lt y0 y1 y2 y3 y4 ys)] []=((ifB (y0 != 3) (some (V.b true,[])) (some (V.b (decide (0<=v0/\v0<=y4)),[]))):_):=by kernel_rfl
 rw [e];clear e;show _=some (V.b (y0 != 3||decide (0<=v0/\v0<=y4)),[]);cases y0 != 3<;>rfl
theorem Tf:Ac prog 118 (Ent.rd1 L0).F:=by
 refine fcK (kc func100 Qj KnowsL.nil).knows (Λ:=Aa []) func118 fun vs bs r' hq=>?_
 unfold Ent.F L0 at hq;dsimp only at hq;split at hq
 ·exact ⟨Ao _,(Qa _ _ _ _ _ _ _ _ _ _ _ ).trans hq⟩
 ·cases hq
abbrev MK (n:Nat):FuncId->Option Ent:=Aa [(116,.rd1 YZ),(38,.rd1 byG),(64,.rd1 TS),(117,.rd1 (ptN n)),(118,.rd1 L0),(119,.rd1 Ox)]
theorem PA (n:Nat) (y0:Int) (y1:By) (y2:Int) (y3:Bool) (y4:Int) (ys:RL) (w w2 m:Nat) (c i:Int) (fs:List WFd) (vs:RVL):Au prog (MK n) (Aa [(6,rsE n)]) 0 (body f73 0) (rsE n) ([.ptr 0 0,.ptr 1 0,.ref 2 0 w,.ptr 3 0,.ref 2 0 w2,.j c,.j i],[some (.box (Lt y0 y1 y2 y3 y4 ys)),some (.box [.j 0,.s [],.j 0,.b false,.ref 4 0 0]),R0 FCd fs,some (.box [.j 0,.s [],.j 0,.b true,.ref 5 0 m]),R0 (.rose VCd) [],R0 (.rose VCd) vs]) =
 ((ifB (decide (i<c)) (ifT (decide (0<=i)&&decide (i<(↑w2:Int))) (An fs[0+i.toNat]? fun z=>ifB (decide (i>0)) (ifT (decide (0<=i64.wrap (i
 - 1))&&decide (i64.wrap (i-1)<(↑w:Int))) (An fs[0+(i64.wrap (i-1)).toNat]? fun z_1=>ifB (decide (z_1.1>=z.1)) (some
 (Ex.ret,[V.ptr 0 0,V.b false],[some (Blk.box [V.j 0,V.s (Ag UInt8),V.j 0,V.b false,V.ref 1 0 0]),R0 VCd.rose (Ag
 VCd.rose.den)])) (ifT (decide (ys.length<=maxI)) (ifB (AN z.1 ys) (ifB (!fkB (Rose.node ((byR z.1 ys).lab.1,(byR z.1 ys).lab.2.1,(byR z.1
 ys).lab.2.2.1,(byR z.1 ys).lab.2.2.2.1,(byR z.1 ys).lab.2.2.2.2.1,()) (byR z.1 ys).kids)==(z.2.1==(0:Int))) (some (Ex.ret,
 [V.ptr 0 0,V.b false],[some (Blk.box [V.j 0,V.s (Ag UInt8),V.j 0,V.b false,V.ref 1 0 0]),R0 VCd.rose (Ag VCd.rose.den)])) (ifB
 (z.2.1==(2:Int)) (ifT (decide (List.length z.2.2.2.1<=400/\fkB (Rose.node ((byR z.1 ys).lab.1,(byR z.1 ys).lab.2.1,(byR z.1
 ys).lab.2.2.1,(byR z.1 ys).lab.2.2.2.1,(byR z.1 ys).lab.2.2.2.2.1,()) (byR z.1 ys).kids)=false/\Ah (Rose.node ((byR z.1
 ys).lab.1,(byR z.1 ys).lab.2.1,(byR z.1 ys).lab.2.2.1,(byR z.1 ys).lab.2.2.2.1,(byR z.1 ys).lab.2.2.2.2.1,()) (byR z.1
 ys).kids)=true/\Aj (Rose.node ((byR z.1 ys).lab.1,(byR z.1 ys).lab.2.1,(byR z.1 ys).lab.2.2.1,(byR z.1 ys).lab.2.2.2.1,(byR z.1
 ys).lab.2.2.2.2.1,()) (byR z.1 ys).kids)<=n/\Aj (Rose.node ((byR z.1 ys).lab.1,(byR z.1 ys).lab.2.1,(byR z.1 ys).lab.2.2.1,(byR
 z.1 ys).lab.2.2.2.1,(byR z.1 ys).lab.2.2.2.2.1,()) (byR z.1 ys).kids)<=1000000)) (ifB (!(AI (Rose.node ((byR z.1 ys).lab.1,(byR
 z.1 ys).lab.2.1,(byR z.1 ys).lab.2.2.1,(byR z.1 ys).lab.2.2.2.1,(byR z.1 ys).lab.2.2.2.2.1,()) (byR z.1 ys).kids)
 z.2.2.2.1 (0:Int)).isSome) (some (Ex.ret,[V.ptr 0 0,V.b false],[some (Blk.box [V.j 0,V.s (Ag UInt8),V.j 0,V.b false,V.ref 1 0 0]),R0 VCd.rose (Ag VCd.rose.den)])) (ifB (!E7 (BL (Rose.node ((byR z.1 ys).lab.1,(byR z.1 ys).lab.2.1,(byR z.1 ys).lab.2.2.1,
 (byR z.1 ys).lab.2.2.2.1,(byR z.1 ys).lab.2.2.2.2.1,()) (byR z.1 ys).kids) z.2.2.2.1).lab.1 (Rose.node ((byR z.1 ys).lab.1,(byR
 z.1 ys).lab.2.1,(byR z.1 ys).lab.2.2.1,(byR z.1 ys).lab.2.2.2.1,(byR z.1 ys).lab.2.2.2.2.1,()) (byR z.1 ys).kids)) (some
 (Ex.ret,[V.ptr 0 0,V.b false],[some (Blk.box [V.j 0,V.s (Ag UInt8),V.j 0,V.b false,V.ref 1 0 0]),R0 VCd.rose (Ag
 VCd.rose.den)])) (ifT (decide ((m+1)*64<=140737488355328)&&decide (m+1<=maxI)) (some (Ex.normal,[V.ptr 0 0,V.ptr 1 0,V.ref 2
 0 w,V.ptr 3 0,V.ref 2 0 w2,V.j c,V.j (i64.wrap (i+1))],[some (Blk.box (Lt y0 y1 y2 y3 y4 ys)),
 some (Blk.box [V.j 0,V.s (Ag UInt8),V.j 0,V.b false,V.ref 4 0 0]),R0 FCd fs,some (Blk.box [V.j 0,V.s (Ag UInt8),V.i .i64
 0,V.b true,V.ref 5 0 (m+1)]),R0 VCd.rose (Ag VCd.rose.den),R0 VCd.rose (take m (drop 0 vs)
 ++ Rose.node ((BL (Rose.node ((byR z.1 ys).lab.1,(byR z.1 ys).lab.2.1,(byR z.1 ys).lab.2.2.1,(byR z.1 ys).lab.2.2.2.1,(byR z.1
 ys).lab.2.2.2.2.1,()) (byR z.1 ys).kids) z.2.2.2.1).lab.1,(BL (Rose.node ((byR z.1 ys).lab.1,(byR z.1 ys).lab.2.1,(byR z.1
 ys).lab.2.2.1,(byR z.1 ys).lab.2.2.2.1,(byR z.1 ys).lab.2.2.2.2.1,()) (byR z.1 ys).kids) z.2.2.2.1).lab.2.1,z.1,(BL
 (Rose.node ((byR z.1 ys).lab.1,(byR z.1 ys).lab.2.1,(byR z.1 ys).lab.2.2.1,(byR z.1 ys).lab.2.2.2.1,(byR z.1
 ys).lab.2.2.2.2.1,()) (byR z.1 ys).kids) z.2.2.2.1).lab.2.2.2.1,()) (take (BL (Rose.node ((byR z.1 ys).lab.1,(byR z.1
 ys).lab.2.1,(byR z.1 ys).lab.2.2.1,(byR z.1 ys).lab.2.2.2.1,(byR z.1 ys).lab.2.2.2.2.1,()) (byR z.1 ys).kids)
 z.2.2.2.1).kids.length (drop 0 (BL (Rose.node ((byR z.1 ys).lab.1,(byR z.1 ys).lab.2.1,(byR z.1 ys).lab.2.2.1,(byR z.1
 ys).lab.2.2.2.1,(byR z.1 ys).lab.2.2.2.2.1,()) (byR z.1 ys).kids) z.2.2.2.1).kids))::Ag VCd.rose.den)])))))) (ifB (!E7
 z.2.2.1 (Rose.node ((byR z.1 ys).lab.1,(byR z.1 ys).lab.2.1,(byR z.1 ys).lab.2.2.1,(byR z.1 ys).lab.2.2.2.1,(byR z.1
 ys).lab.2.2.2.2.1,()) (byR z.1 ys).kids)) (some (Ex.ret,[V.ptr 0 0,V.b false],[some (Blk.box [V.j 0,V.s (Ag UInt8),V.j 0,V.b false,V.ref 1
 0 0]),R0 VCd.rose (Ag VCd.rose.den)])) (ifT (decide ((m+1)*64<=140737488355328)&&decide (m+1<=maxI))
 (some (Ex.normal,[V.ptr 0 0,V.ptr 1 0,V.ref 2 0 w,V.ptr 3 0,V.ref 2 0 w2,V.j c,V.j (i64.wrap (i+1))],[some (Blk.box [V.j y0,V.s y1,V.i
 .i64 y2,V.b y3,V.j y4,V.sl LCd.rose ys]),some (Blk.box [V.j 0,V.s (Ag UInt8),V.j 0,V.b false,V.ref 4 0 0]),R0 FCd fs,
 some (Blk.box [V.j 0,V.s (Ag UInt8),V.j 0,V.b true,V.ref 5 0 (m+1)]),R0 VCd.rose (Ag VCd.rose.den),R0 VCd.rose (take m (drop 0 vs)++Rose.node (z.2.2.1,Ag UInt8,z.1,false,()) (Ag VCd.rose.den)::Ag VCd.rose.den)]))))))
 (some (Ex.normal,[V.ptr 0 0,V.ptr 1 0,V.ref 2 0 w,V.ptr 3 0,V.ref 2 0 w2,V.j c,V.j (i64.wrap (i+1))],[some (Blk.box [V.j y0,V.s y1,V.i
 .i64 y2,V.b y3,V.j y4,V.sl LCd.rose ys]),some (Blk.box [V.j 0,V.s (Ag UInt8),V.j 0,V.b false,V.ref 4 0 0]),R0 FCd fs,
 some (Blk.box [V.j 0,V.s (Ag UInt8),V.j 0,V.b true,V.ref 5 0 m]),R0 VCd.rose (Ag VCd.rose.den),R0 VCd.rose vs])))))) (ifT (decide (ys.length<=maxI)) (ifB (AN z.1 ys) (ifB (!fkB (Rose.node ((byR z.1 ys).lab.1,(byR z.1 ys).lab.2.1,(byR z.1
 ys).lab.2.2.1,(byR z.1 ys).lab.2.2.2.1,(byR z.1 ys).lab.2.2.2.2.1,()) (byR z.1 ys).kids)==(z.2.1==(0:Int))) (some (Ex.ret,
 [V.ptr 0 0,V.b false],[some (Blk.box [V.j 0,V.s (Ag UInt8),V.j 0,V.b false,V.ref 1 0 0]),R0 VCd.rose (Ag VCd.rose.den)])) (ifB
 (z.2.1==(2:Int)) (ifT (decide (List.length z.2.2.2.1<=400/\fkB (Rose.node ((byR z.1 ys).lab.1,(byR z.1 ys).lab.2.1,(byR z.1
 ys).lab.2.2.1,(byR z.1 ys).lab.2.2.2.1,(byR z.1 ys).lab.2.2.2.2.1,()) (byR z.1 ys).kids)=false/\Ah (Rose.node ((byR z.1
 ys).lab.1,(byR z.1 ys).lab.2.1,(byR z.1 ys).lab.2.2.1,(byR z.1 ys).lab.2.2.2.1,(byR z.1 ys).lab.2.2.2.2.1,()) (byR z.1
 ys).kids)=true/\Aj (Rose.node ((byR z.1 ys).lab.1,(byR z.1 ys).lab.2.1,(byR z.1 ys).lab.2.2.1,(byR z.1 ys).lab.2.2.2.1,(byR z.1
 ys).lab.2.2.2.2.1,()) (byR z.1 ys).kids)<=n/\Aj (Rose.node ((byR z.1 ys).lab.1,(byR z.1 ys).lab.2.1,(byR z.1 ys).lab.2.2.1,(byR
 z.1 ys).lab.2.2.2.1,(byR z.1 ys).lab.2.2.2.2.1,()) (byR z.1 ys).kids)<=1000000)) (ifB (!(AI (Rose.node ((byR z.1 ys).lab.1,(byR
 z.1 ys).lab.2.1,(byR z.1 ys).lab.2.2.1,(byR z.1 ys).lab.2.2.2.1,(byR z.1 ys).lab.2.2.2.2.1,()) (byR z.1 ys).kids)
 z.2.2.2.1 (0:Int)).isSome) (some (Ex.ret,[V.ptr 0 0,V.b false],[some (Blk.box [V.j 0,V.s (Ag UInt8),V.j 0,V.b false,V.ref 1 0 0]),R0 VCd.rose (Ag VCd.rose.den)])) (ifB (!E7 (BL (Rose.node ((byR z.1 ys).lab.1,(byR z.1 ys).lab.2.1,(byR z.1 ys).lab.2.2.1,
 (byR z.1 ys).lab.2.2.2.1,(byR z.1 ys).lab.2.2.2.2.1,()) (byR z.1 ys).kids) z.2.2.2.1).lab.1 (Rose.node ((byR z.1 ys).lab.1,(byR
 z.1 ys).lab.2.1,(byR z.1 ys).lab.2.2.1,(byR z.1 ys).lab.2.2.2.1,(byR z.1 ys).lab.2.2.2.2.1,()) (byR z.1 ys).kids)) (some
 (Ex.ret,[V.ptr 0 0,V.b false],[some (Blk.box [V.j 0,V.s (Ag UInt8),V.j 0,V.b false,V.ref 1 0 0]),R0 VCd.rose (Ag
 VCd.rose.den)])) (ifT (decide ((m+1)*64<=140737488355328)&&decide (m+1<=maxI)) (some (Ex.normal,[V.ptr 0 0,V.ptr 1 0,V.ref 2
 0 w,V.ptr 3 0,V.ref 2 0 w2,V.j c,V.j (i64.wrap (i+1))],[some (Blk.box (Lt y0 y1 y2 y3 y4 ys)),
 some (Blk.box [V.j 0,V.s (Ag UInt8),V.j 0,V.b false,V.ref 4 0 0]),R0 FCd fs,some (Blk.box [V.j 0,V.s (Ag UInt8),V.i .i64
 0,V.b true,V.ref 5 0 (m+1)]),R0 VCd.rose (Ag VCd.rose.den),R0 VCd.rose (take m (drop 0 vs)
 ++ Rose.node ((BL (Rose.node ((byR z.1 ys).lab.1,(byR z.1 ys).lab.2.1,(byR z.1 ys).lab.2.2.1,(byR z.1 ys).lab.2.2.2.1,(byR z.1
 ys).lab.2.2.2.2.1,()) (byR z.1 ys).kids) z.2.2.2.1).lab.1,(BL (Rose.node ((byR z.1 ys).lab.1,(byR z.1 ys).lab.2.1,(byR z.1
 ys).lab.2.2.1,(byR z.1 ys).lab.2.2.2.1,(byR z.1 ys).lab.2.2.2.2.1,()) (byR z.1 ys).kids) z.2.2.2.1).lab.2.1,z.1,(BL
 (Rose.node ((byR z.1 ys).lab.1,(byR z.1 ys).lab.2.1,(byR z.1 ys).lab.2.2.1,(byR z.1 ys).lab.2.2.2.1,(byR z.1
 ys).lab.2.2.2.2.1,()) (byR z.1 ys).kids) z.2.2.2.1).lab.2.2.2.1,()) (take (BL (Rose.node ((byR z.1 ys).lab.1,(byR z.1
 ys).lab.2.1,(byR z.1 ys).lab.2.2.1,(byR z.1 ys).lab.2.2.2.1,(byR z.1 ys).lab.2.2.2.2.1,()) (byR z.1 ys).kids)
 z.2.2.2.1).kids.length (drop 0 (BL (Rose.node ((byR z.1 ys).lab.1,(byR z.1 ys).lab.2.1,(byR z.1 ys).lab.2.2.1,(byR z.1
 ys).lab.2.2.2.1,(byR z.1 ys).lab.2.2.2.2.1,()) (byR z.1 ys).kids) z.2.2.2.1).kids))::Ag VCd.rose.den)])))))) (ifB (!E7
 z.2.2.1 (Rose.node ((byR z.1 ys).lab.1,(byR z.1 ys).lab.2.1,(byR z.1 ys).lab.2.2.1,(byR z.1 ys).lab.2.2.2.1,(byR z.1
 ys).lab.2.2.2.2.1,()) (byR z.1 ys).kids)) (some (Ex.ret,[V.ptr 0 0,V.b false],[some (Blk.box [V.j 0,V.s (Ag UInt8),V.j 0,V.b false,V.ref 1
 0 0]),R0 VCd.rose (Ag VCd.rose.den)])) (ifT (decide ((m+1)*64<=140737488355328)&&decide (m+1<=maxI))
 (some (Ex.normal,[V.ptr 0 0,V.ptr 1 0,V.ref 2 0 w,V.ptr 3 0,V.ref 2 0 w2,V.j c,V.j (i64.wrap (i+1))],[some (Blk.box [V.j y0,V.s y1,V.i
 .i64 y2,V.b y3,V.j y4,V.sl LCd.rose ys]),some (Blk.box [V.j 0,V.s (Ag UInt8),V.j 0,V.b false,V.ref 4 0 0]),R0 FCd fs,
 some (Blk.box [V.j 0,V.s (Ag UInt8),V.j 0,V.b true,V.ref 5 0 (m+1)]),R0 VCd.rose (Ag VCd.rose.den),R0 VCd.rose (take m (drop 0 vs)++Rose.node (z.2.2.1,Ag UInt8,z.1,false,()) (Ag VCd.rose.den)::Ag VCd.rose.den)]))))))
 (some (Ex.normal,[V.ptr 0 0,V.ptr 1 0,V.ref 2 0 w,V.ptr 3 0,V.ref 2 0 w2,V.j c,V.j (i64.wrap (i+1))],[some (Blk.box [V.j y0,V.s y1,V.i
 .i64 y2,V.b y3,V.j y4,V.sl LCd.rose ys]),some (Blk.box [V.j 0,V.s (Ag UInt8),V.j 0,V.b false,V.ref 4 0 0]),R0 FCd fs,
 some (Blk.box [V.j 0,V.s (Ag UInt8),V.j 0,V.b true,V.ref 5 0 m]),R0 VCd.rose (Ag VCd.rose.den),R0 VCd.rose vs])))))) (some (Ex.exit 0,[V.ptr 0 0,V.ptr 1 0,V.ptr 2 0],[some (Blk.box (Lt y0 y1 y2 y3 y4 ys)),some
 (Blk.box [V.j 0,V.s (Ag UInt8),V.j 0,V.b false,V.ref 3 0 0]),some (Blk.box [V.j 0,V.s (Ag UInt8),V.j 0,V.b true,V.ref 4 0 m]),R0 VCd.rose (Ag VCd.rose.den),R0 VCd.rose vs]))):_):=by kernel_rfl
theorem YR (n:Nat) (s:By) (y0:Int) (y1:By) (y2:Int) (y3:Bool) (y4:Int) (ys:RL):Bm prog (MK n) (Aa [(6,rsE n)]) f73 [.s s,.agg (Lt y0 y1 y2 y3 y4 ys)] [] =
 ((ifT (decide (s.length<=4000000000)) (ifB (!(CB s).isSome) (some (V.tup [V.agg [V.j 0,V.s (Ag UInt8),V.j 0,V.b false,V.ref 0 0 0],V.b false],
 [R0 VCd.rose (Ag VCd.rose.den)])) (ifT (decide (((CB s).getD (Ag WFd)).length=((CB s).getD (Ag WFd)).length/\((CB s).getD (Ag
 WFd)).length=((CB s).getD (Ag WFd)).length/\(↑((CB s).getD (Ag WFd)).length:Int)=(↑((CB s).getD (Ag WFd)).length:Int)/\(0:Int)<=(0:Int)/\(0 :
 Nat)<=((CB s).getD (Ag WFd)).length/\((CB s).getD (Ag WFd)).length<=40/\0=0/\(↑(0:Nat):Int)<=(0:Int)/\(((CB s).getD (Ag
 WFd)).all fun x=>AJ x)=true/\mxD ((CB s).getD (Ag WFd))<=400/\A6 (5:Int) ys=true/\Ak ys<=n/\Ak ys<=1000000)) (ifB (Ff
 ((CB s).getD (Ag WFd)) 0&&(B7 ys (drop 0 ((CB s).getD (Ag WFd)))).isSome) (ifT (decide (ys.length<=maxI/\(take (Ag VCd.rose.den
 ++ (B7 ys (drop 0 ((CB s).getD (Ag WFd)))).getD (Ag (Rose A4))).length (drop 0 (Ag VCd.rose.den++(B7 ys (drop 0
 ((CB s).getD (Ag WFd)))).getD (Ag (Rose A4))))).length<=maxI)) (some (V.tup [V.agg [V.j 0,V.s (Ag UInt8),V.j 0,V.b true,V.ref 0 0 (Ag
 VCd.rose.den++(B7 ys (drop 0 ((CB s).getD (Ag WFd)))).getD (Ag (Rose A4))).length],V.b (B9 (take (Ag VCd.rose.den++(B7 ys
 (drop 0 ((CB s).getD (Ag WFd)))).getD (Ag (Rose A4))).length (drop 0 (Ag VCd.rose.den++(B7 ys (drop 0 ((CB s).getD
 (Ag WFd)))).getD (Ag (Rose A4))))) ys)],[R0 VCd.rose (Ag VCd.rose.den++(B7 ys (drop 0 ((CB s).getD (Ag WFd)))).getD
 (Ag (Rose A4)))]))) (some (V.tup [V.agg [V.j 0,V.s (Ag UInt8),V.j 0,V.b false,V.ref 0 0 0],V.b false],[R0 VCd.rose (Ag
 VCd.rose.den)])))))):_):=by kernel_rfl
abbrev Rd (k n:Nat):FuncId->Option Ent:=Aa [(73,.rd1 (rsN k)),(162,.rd1 VF),(163,.rd1 M0),(64,.rd1 TS),(117,.rd1 (ptN n)),(135,.rd1 Gu),(118,.rd1 L0)]
theorem Le (n k:Nat) (s:By) (y0:Int) (y1:By) (y2:Int) (y3:Bool) (y4:Int) (ys:RL) (m:Nat) (a:Int) (vs:RVL):Au prog (Rd k n) (Aa [(8,ptE n)]) 0 (body f117 0) (ptE n) ([.s s,.ptr 0 0,.ptr 1 0,.ptr 2 0,.j a],[some (.box (Lt y0 y1 y2 y3 y4 ys)),some (.box [.j 0,.s [],.j 0,.b false,.ref 3 0 0]),some (.box [.j 0,.s [],.j 0,.b true,.ref 4 0 m]),R0 (.rose VCd) [],R0 (.rose VCd) vs]) =
 ((ifB (decide (a<(↑s.length:Int))) (ifT (decide (0<=a/\s.length<=4000000000/\a<=4000000000)) (ifB (!BP (Ai s a.toNat)) (some (Ex.ret,[V.ptr 0 0,V.b
 false],[some (Blk.box [V.j 0,V.s (Ag UInt8),V.j 0,V.b false,V.ref 1 0 0]),R0 VCd.rose (Ag VCd.rose.den)])) (ifT (decide ((0 :
 Int)<=Cj (Ai s a.toNat)/\Cj (Ai s a.toNat)<=(1000000000000:Int))) (ifT (decide ((0:Int)<=(0:Int))&&decide (0<(↑ys.length:Int))) (An ys[(0 :
 Nat)]? fun z=>ifB (!fkB (Rose.node ((Rose.lab z).1,(Rose.lab z).2.1,(Rose.lab z).2.2.1,(Rose.lab z).2.2.2.1,(Rose.lab z).2.2.2.2.1,
 ()) (Rose.kids z))) (ifB (decide (Cj (Ai s a.toNat)>i64.wrap ((↑s.length:Int)-Bh a.toNat (Ai s a.toNat)))) (some (Ex.ret,[V.ptr 0 0,V.b false],
 [some (Blk.box [V.j 0,V.s (Ag UInt8),V.j 0,V.b false,V.ref 1 0 0]),R0 VCd.rose (Ag VCd.rose.den)])) (ifT (decide ((0:Int)<=
 Bh a.toNat (Ai s a.toNat))&&decide (Bh a.toNat (Ai s a.toNat)<=i64.wrap (Bh a.toNat (Ai s a.toNat)+Cj (Ai s a.toNat)))&&decide
 (i64.wrap (Bh a.toNat (Ai s a.toNat)+Cj (Ai s a.toNat))<=(↑s.length:Int))) (ifT (decide ((0:Int)<=(0:Int))&&decide (0<(↑ys.length:Int)))
 (An ys[0]? fun z=>ifT (decide ((take ((i64.wrap (Bh a.toNat (Ai s a.toNat)+Cj (Ai s a.toNat))).toNat-(Bh a.toNat (Ai s
 a.toNat)).toNat) (drop (Bh a.toNat (Ai s a.toNat)).toNat s)).length<=400/\fkB (Rose.node ((Rose.lab z).1,(Rose.lab z).2.1,(Rose.lab
 z).2.2.1,(Rose.lab z).2.2.2.1,(Rose.lab z).2.2.2.2.1,()) (Rose.kids z))=false/\Ah (Rose.node ((Rose.lab z).1,(Rose.lab z).2.1,
 (Rose.lab z).2.2.1,(Rose.lab z).2.2.2.1,(Rose.lab z).2.2.2.2.1,()) (Rose.kids z))=true/\Aj (Rose.node ((Rose.lab z).1,(Rose.lab
 z).2.1,(Rose.lab z).2.2.1,(Rose.lab z).2.2.2.1,(Rose.lab z).2.2.2.2.1,()) (Rose.kids z))<=n/\Aj (Rose.node ((Rose.lab z).1,
 (Rose.lab z).2.1,(Rose.lab z).2.2.1,(Rose.lab z).2.2.2.1,(Rose.lab z).2.2.2.2.1,()) (Rose.kids z))<=1000000)) (ifB (!(AI
 (Rose.node ((Rose.lab z).1,(Rose.lab z).2.1,(Rose.lab z).2.2.1,(Rose.lab z).2.2.2.1,(Rose.lab z).2.2.2.2.1,()) (Rose.kids z))
 (take ((i64.wrap (Bh a.toNat (Ai s a.toNat)+Cj (Ai s a.toNat))).toNat-(Bh a.toNat (Ai s a.toNat)).toNat) (drop (Bh a.toNat (Ai s
 a.toNat)).toNat s)) (0:Int)).isSome) (some (Ex.ret,[V.ptr 0 0,V.b false],[some (Blk.box [V.j 0,V.s (Ag UInt8),V.j 0,V.b false,V.ref 1 0 0]),R0 VCd.rose (Ag VCd.rose.den)])) (ifT (decide ((0:Int)<=(0:Int))&&decide (0<(↑ys.length:Int))) (An ys[0]? fun z_1=>ifB
 (!E7 (BL (Rose.node ((Rose.lab z).1,(Rose.lab z).2.1,(Rose.lab z).2.2.1,(Rose.lab z).2.2.2.1,(Rose.lab z).2.2.2.2.1,())
 (Rose.kids z)) (take ((i64.wrap (Bh a.toNat (Ai s a.toNat)+Cj (Ai s a.toNat))).toNat-(Bh a.toNat (Ai s a.toNat)).toNat) (drop (Bh
 a.toNat (Ai s a.toNat)).toNat s))).lab.1 (Rose.node ((Rose.lab z_1).1,(Rose.lab z_1).2.1,(Rose.lab z_1).2.2.1,(Rose.lab z_1).2.2.2.1,(Rose.lab
 z_1).2.2.2.2.1,()) (Rose.kids z_1))) (some (Ex.ret,[V.ptr 0 0,V.b false],[some (Blk.box [V.j 0,V.s (Ag UInt8),V.j 0,V.b false,V.ref 1 0 0]),
 R0 VCd.rose (Ag VCd.rose.den)])) (ifT (decide ((m+1)*64<=140737488355328)&&decide (m+1<=maxI)) (some
 (Ex.normal,[V.s s,V.ptr 0 0,V.ptr 1 0,V.ptr 2 0,V.j (i64.wrap (Bh a.toNat (Ai s a.toNat)+Cj (Ai s a.toNat)))],[some (Blk.box (Lt y0 y1 y2 y3 y4 ys)),some (Blk.box [V.j 0,V.s (Ag UInt8),V.j 0,V.b false,V.ref 3 0 0]),some (Blk.box [V.i .i64
 0,V.s (Ag UInt8),V.j 0,V.b true,V.ref 4 0 (m+1)]),R0 VCd.rose (Ag VCd.rose.den),R0 VCd.rose
 (take m (drop 0 vs)++Rose.node ((BL (Rose.node ((Rose.lab z).1,(Rose.lab z).2.1,(Rose.lab z).2.2.1,(Rose.lab z).2.2.2.1,
 (Rose.lab z).2.2.2.2.1,()) (Rose.kids z)) (take ((i64.wrap (Bh a.toNat (Ai s a.toNat)+Cj (Ai s a.toNat))).toNat-(Bh a.toNat (Ai s
 a.toNat)).toNat) (drop (Bh a.toNat (Ai s a.toNat)).toNat s))).lab.1,(BL (Rose.node ((Rose.lab z).1,(Rose.lab z).2.1,(Rose.lab z).2.2.1,
 (Rose.lab z).2.2.2.1,(Rose.lab z).2.2.2.2.1,()) (Rose.kids z)) (take ((i64.wrap (Bh a.toNat (Ai s a.toNat)+Cj (Ai s
 a.toNat))).toNat-(Bh a.toNat (Ai s a.toNat)).toNat) (drop (Bh a.toNat (Ai s a.toNat)).toNat s))).lab.2.1,(BL (Rose.node ((Rose.lab z).1,
 (Rose.lab z).2.1,(Rose.lab z).2.2.1,(Rose.lab z).2.2.2.1,(Rose.lab z).2.2.2.2.1,()) (Rose.kids z)) (take ((i64.wrap (Bh
 a.toNat (Ai s a.toNat)+Cj (Ai s a.toNat))).toNat-(Bh a.toNat (Ai s a.toNat)).toNat) (drop (Bh a.toNat (Ai s a.toNat)).toNat s))).lab.2.2.1,
 (BL (Rose.node ((Rose.lab z).1,(Rose.lab z).2.1,(Rose.lab z).2.2.1,(Rose.lab z).2.2.2.1,(Rose.lab z).2.2.2.2.1,()) (Rose.kids z))
 (take ((i64.wrap (Bh a.toNat (Ai s a.toNat)+Cj (Ai s a.toNat))).toNat-(Bh a.toNat (Ai s a.toNat)).toNat) (drop (Bh a.toNat (Ai s
 a.toNat)).toNat s))).lab.2.2.2.1,()) (take (BL (Rose.node ((Rose.lab z).1,(Rose.lab z).2.1,(Rose.lab z).2.2.1,(Rose.lab
 z).2.2.2.1,(Rose.lab z).2.2.2.2.1,()) (Rose.kids z)) (take ((i64.wrap (Bh a.toNat (Ai s a.toNat)+Cj (Ai s a.toNat))).toNat -
 (Bh a.toNat (Ai s a.toNat)).toNat) (drop (Bh a.toNat (Ai s a.toNat)).toNat s))).kids.length (drop 0 (BL (Rose.node ((Rose.lab z).1,
 (Rose.lab z).2.1,(Rose.lab z).2.2.1,(Rose.lab z).2.2.2.1,(Rose.lab z).2.2.2.2.1,()) (Rose.kids z)) (take ((i64.wrap (Bh
 a.toNat (Ai s a.toNat)+Cj (Ai s a.toNat))).toNat-(Bh a.toNat (Ai s a.toNat)).toNat) (drop (Bh a.toNat (Ai s a.toNat)).toNat s))).kids))::Ag
 VCd.rose.den)])))))))))) (ifB (!BX (unf (Cj (Ai s a.toNat)))) (some (Ex.ret,[V.ptr 0 0,V.b false],[some (Blk.box [V.j 0,V.s (Ag UInt8),V.j 0,V.b
 false,V.ref 1 0 0]),R0 VCd.rose (Ag VCd.rose.den)])) (ifT (decide ((0:Int)<=(0:Int))&&decide (0<(↑ys.length:Int))) (An ys[(0 :
 Nat)]? fun z=>ifB (!E7 (unf (Cj (Ai s a.toNat))) (Rose.node ((Rose.lab z).1,(Rose.lab z).2.1,(Rose.lab z).2.2.1,(Rose.lab z).2.2.2.1,
 (Rose.lab z).2.2.2.2.1,()) (Rose.kids z))) (some (Ex.ret,[V.ptr 0 0,V.b false],[some (Blk.box [V.j 0,V.s (Ag UInt8),V.j 0,V.b false,V.ref 1
 0 0]),R0 VCd.rose (Ag VCd.rose.den)])) (ifT (decide ((m+1)*64<=140737488355328)&&decide (m+1<=maxI))
 (some (Ex.normal,[V.s s,V.ptr 0 0,V.ptr 1 0,V.ptr 2 0,V.j (Bh a.toNat (Ai s a.toNat))],[some (Blk.box (Lt y0 y1 y2 y3 y4 ys)),some (Blk.box [V.j 0,V.s (Ag UInt8),V.j 0,V.b false,V.ref 3 0 0]),some (Blk.box [V.j 0,V.s (Ag UInt8),V.j 0,V.b
 true,V.ref 4 0 (m+1)]),R0 VCd.rose (Ag VCd.rose.den),R0 VCd.rose (take m (drop 0 vs)++
 Rose.node (unf (Cj (Ai s a.toNat)),Ag UInt8,(0:Int),false,()) (Ag VCd.rose.den)::Ag VCd.rose.den)]))))))))))) (some (Ex.exit 1,[V.ptr 0 0,V.ptr 1 0],
 [some (Blk.box [V.j 0,V.s (Ag UInt8),V.j 0,V.b false,V.ref 2 0 0]),some (Blk.box [V.j 0,V.s (Ag UInt8),V.j 0,V.b true,V.ref 3 0 m]),R0 VCd.rose (Ag VCd.rose.den),R0 VCd.rose vs]))):_):=by kernel_rfl
theorem Zd (n k:Nat) (s:By) (y0:Int) (y1:By) (y2:Int) (y3:Bool) (y4:Int) (ys:RL):Bm prog (Rd k n) (Aa [(8,ptE n)]) f117 [.s s,.agg (Lt y0 y1 y2 y3 y4 ys)] [] =
 ((ifB (y0==2) (some (V.tup [V.agg [V.j 0,V.s s,V.j 0,V.b false,V.ref 0 0 0],V.b (decide ((↑s.length:Int)<=(30:Int)))],[R0 VCd.rose (Ag VCd.rose.den)])) (ifB (y0==5) (ifT (decide (s.length<=400/\y0=5/\Ah (Rose.node (y0,y1,y2,y3,y4,()) ys)=true/\Aj (Rose.node
 (y0,y1,y2,y3,y4,()) ys)<=k/\Aj (Rose.node (y0,y1,y2,y3,y4,()) ys)<=1000000)) (some (V.tup [V.agg [V.j (Bu (Rose.node (y0,y1,y2,y3,y4,
 ()) ys) s).lab.1,V.s (Bu (Rose.node (y0,y1,y2,y3,y4,()) ys) s).lab.2.1,V.j (Bu (Rose.node (y0,y1,y2,y3,y4,()) ys) s).lab.2.2.1,V.b
 (Bu (Rose.node (y0,y1,y2,y3,y4,()) ys) s).lab.2.2.2.1,V.ref 0 0 (Bu (Rose.node (y0,y1,y2,y3,y4,()) ys) s).kids.length],V.b (AI (Rose.node (y0,
 y1,y2,y3,y4,()) ys) s (0:Int)).isSome],[R0 VCd.rose (Bu (Rose.node (y0,y1,y2,y3,y4,()) ys) s).kids]))) (ifT (decide ((0:Int)<=(0
 : Int)/\0<=s.length/\s.length<=400/\0=0/\(↑(0:Nat):Int)<=(0:Int)/\ys.length=1/\ys.all Ah=true/\Ak ys<=
 n/\Ak ys<=1000000)) (ifB (BC (fkB (hd0 ys)) (fun n=>A1 (hd0 ys) n (0:Int)) (fun d=>AI (hd0 ys) d (0:Int)) s (s.length-0) (0 :
 Nat)).isSome (some (V.tup [V.agg [V.j 0,V.s (Ag UInt8),V.j 0,V.b true,V.ref 0 0 (Ag VCd.rose.den++(BC (fkB (hd0 ys)) (fun n=>A1 (hd0 ys) n (0
 : Int)) (fun d=>AI (hd0 ys) d (0:Int)) s (s.length-0) 0).getD (Ag (Rose A4))).length],V.b true],[R0 VCd.rose (Ag
 VCd.rose.den++(BC (fkB (hd0 ys)) (fun n=>A1 (hd0 ys) n (0:Int)) (fun d=>AI (hd0 ys) d (0:Int)) s (s.length-0) 0).getD (Ag (Rose
 A4)))])) (some (V.tup [V.agg [V.j 0,V.s (Ag UInt8),V.j 0,V.b false,V.ref 0 0 0],V.b false],[R0 VCd.rose (Ag
 VCd.rose.den)])))))):_):=by kernel_rfl
def BZ (ys:RL) (u:Rose A4):WFd:=if fkB (byR u.lab.2.2.1 ys)=true then (u.lab.2.2.1,0,u.lab.1,[],()) else (u.lab.2.2.1,2,0,A0 u (byR u.lab.2.2.1 ys),())
def chM (ys:RL) (u:Rose A4):Bool:=AN u.lab.2.2.1 ys&&sfR u (byR u.lab.2.2.1 ys)
def Ux (n:Nat):Gm
 | [.agg (Lv x0 x1 x2 x3 xs),.agg (Lt y0 y1 y2 y3 y4 ys)],[]=>.need (decide (Ak ys+1<=n/\Ak ys+1<=1000000/\Ah (.node (y0,y1,y2,y3,y4,()) ys:Rose Lab)=true/\fkB (.node (y0,y1,y2,y3,y4,()) ys:Rose Lab)=false/\vcL xs<=1000/\sfR (.node (x0,x1,x2,x3,()) xs:Rose A4) (.node (y0,y1,y2,y3,y4,()) ys:Rose Lab)=true)) (.leaf (.s (A0 (.node (x0,x1,x2,x3,()) xs:Rose A4) (.node (y0,y1,y2,y3,y4,()) ys:Rose Lab)),[]))
 | _,_=>.no
def Acy:Gm
 | [.agg (Lv x0 x1 x2 x3 xs),.agg (Lt y0 y1 y2 y3 y4 ys)],[]=>.need (decide (Ak ys+1<=1000000/\Ah (.node (y0,y1,y2,y3,y4,()) ys:Rose Lab)=true/\fkB (.node (y0,y1,y2,y3,y4,()) ys:Rose Lab)=false/\vcL xs<=1000/\sfR (.node (x0,x1,x2,x3,()) xs:Rose A4) (.node (y0,y1,y2,y3,y4,()) ys:Rose Lab)=true)) (.leaf (.s (A0 (.node (x0,x1,x2,x3,()) xs:Rose A4) (.node (y0,y1,y2,y3,y4,()) ys:Rose Lab)),[]))
 | _,_=>.no
def Ip (n:Nat):LoopEnt:=⟨91,[3,5,23,24,25],[5],[],fun
 | ([.ptr 0 0,.s s,.sl (.rose VCd) us,.j k,.j i],[some (.box (Lt y0 _ _ _ _ ys))])=>.need (decide (0<=i/\i.toNat<=us.length/\k=us.length/\Ak ys<=n/\Ak ys<=1000000/\ys.length=1/\A6 y0 ys=true/\vcL us<=1000/\s.length<=100000*i.toNat/\sfL (hd0 ys) us=true)) (.leaf (.exit 1,([.s (s++Ca (hd0 ys) (us.drop i.toNat))],[])))
 | _=>.no⟩
def Io (n:Nat):LoopEnt:=⟨91,[3,9,56,57,58],[9],[],fun
 | ([.ptr 0 0,.ref 1 0 m,.sl (.rose VCd) us,.j k,.j i],[some (.box (Lt _ _ _ _ _ ys)),R0 FCd o])=>.need (decide (0<=i/\i.toNat<=us.length/\k=us.length/\m=o.length/\Ak ys<=n/\Ak ys<=1000000/\A6 5 ys=true/\vcL us<=1000/\o.length<=i.toNat/\us.all (chM ys)=true)) (.leaf (.exit 3,([.ref 0 0 (o++(us.drop i.toNat).map (BZ ys)).length],[R0 FCd (o++(us.drop i.toNat).map (BZ ys))])))
 | _=>.no⟩
theorem G6 {x:A4} {vs:RVL} {z:Rose Lab} (h:z.lab.1=2):A0 (.node x vs) z=x.2.1:=by rw [A0,if_pos h]
theorem G7 {x:A4} {vs:RVL} {z:Rose Lab} (h:z.lab.1=4):A0 (.node x vs) z=Ca (hd0 z.kids) vs:=by
 obtain ⟨h2,hf⟩:=Sm (.inl h);rw [A0,if_neg h2,if_neg hf,if_neg (by omega)]
theorem GV {x:A4} {vs:RVL} {z:Rose Lab} (h:z.lab.1=5):A0 (.node x vs) z=EY z.kids vs:=by
 obtain ⟨h2,hf⟩:=Sm (.inr h);rw [A0,if_neg h2,if_neg hf,if_pos h]
theorem Km {u:Rose A4} {t:Rose Lab} (hr:Ah t=true) (hf:fkB t=true) (h:sfR u t=true) : -1000000000<=u.lab.1/\u.lab.1<=1000000000:=by
 obtain ⟨x,vs⟩:=u;exact VX hr hf h
theorem O8 {u:Rose A4} {t:Rose Lab} (hf:fkB t=true):A0 u t=vbs (fol u.lab.1).toNat:=by
 obtain ⟨x,vs⟩:=u;have h2:t.lab.1≠2:=fun h=>by unfold fkB at hf; rw [h] at hf; cases hf
 rw [A0,if_neg h2,if_pos hf]; rfl
theorem GR {u:Rose A4} {t:Rose Lab} (hf:fkB t=true):itm t (A0 u t)=vbs (fol u.lab.1).toNat:=by unfold itm; rw [if_pos hf,O8 hf]
theorem GS {u:Rose A4} {t:Rose Lab} (hf:fkB t=false):itm t (A0 u t)=vbs (A0 u t).length++A0 u t:=by unfold itm; rw [hf]; rfl
theorem Nk {ks:RL} {y:Rose Lab} (hr:A6 5 ks=true) (hy:y∈ks):1<=y.lab.2.2.1/\y.lab.2.2.1<=30:=by
 have:=(BH hr y hy).1;unfold DL at this;rw [if_pos rfl] at this;simp only [anE,dcE] at this;exact this.2
theorem Xu {ys:RL} {u:Rose A4} (hr:A6 5 ys=true) (hv:vcR u<=1000) (hc:chM ys u=true):DN (BZ ys u)=true/\fb1 (BZ ys u)=vbs (8*u.lab.2.2.1+(if fkB (byR u.lab.2.2.1 ys)=true then 0 else 2)).toNat++itm (byR u.lab.2.2.1 ys) (A0 u (byR u.lab.2.2.1 ys)):=by
 unfold chM at hc;rw [anE] at hc;obtain ⟨h1,h2⟩:=hc;have hb:=FO h1;have hn:=Nk hr hb;rw [Sz h1] at hn;have hry:=BO hr hb;have hL:=Fo u _ hry h2;unfold BZ;generalize byR u.lab.2.2.1 ys=y at *
 by_cases hf:fkB y=true
 ·have hnum:=Km hry hf h2;rw [if_pos hf,if_pos hf];constructor
  ·unfold DN AJ BX;simp; omega
  ·unfold fb1;rw [GR hf]; rfl
 ·have hf':fkB y=false:=by simpa using hf
  rw [if_neg hf,if_neg hf];constructor
  ·unfold DN AJ;simp; omega
  ·unfold fb1;rw [GS hf']; rfl
theorem I3 {ys:RL} (hr:A6 5 ys=true) : ∀ us:RVL,vcL us<=1000->us.all (chM ys)=true->(us.map (BZ ys)).all DN=true/\fbs (us.map (BZ ys))=EY ys us
 | [],_,_=>⟨rfl,by rw [EY]; rfl⟩
 | u::us,hv,hc=>by
  rw [vcL] at hv;rw [all_cons,anE] at hc;obtain ⟨a1,a2⟩:=Xu hr (by omega) hc.1;obtain ⟨b1,b2⟩:=I3 hr us (by omega) hc.2;rw [map_cons,all_cons,a1,b1,Db,a2,b2,EY];exact ⟨rfl,rfl⟩
theorem Yl {vs:RVL} {ks:RL} {zk:RVL} {i:Nat} (h:sfM ks zk i vs=true):vs.all (chM ks)=true:=by
 rw [all_eq_true];intro v hv;unfold chM;rw [anE];exact HY h v hv
abbrev Rc (n:Nat):FuncId->Option Ent:=Aa [(76,.rd1 (Ux n)),(64,.rd1 TS),(106,.rd1 Sj),(105,.rd1 Y4),(38,.rd1 byG),(57,.rd1 Adr)]
theorem Nu (n:Nat) (y0:Int) (y1:By) (y2:Int) (y3:Bool) (y4:Int) (ys:RL) (s:By) (us:RVL) (k i:Int):Au prog (Rc n) (Aa [(7,Ip n),(17,Io n)]) 0 (body f76 0) (Ip n) ([.ptr 0 0,.s s,.sl (.rose VCd) us,.j k,.j i],[some (.box (Lt y0 y1 y2 y3 y4 ys))]) =
 ((ifB (decide (i<k)) (ifT (decide (0<=i)&&decide (i<(↑us.length:Int))) (An us[i.toNat]? fun z=>ifT (decide ((0:Int)<=(0:Int))&&decide (0<(↑ys.length
 : Int))) (An ys[0]? fun z_1=>shr (Rose.lab z_1).2 fun sh2=>shr (Rose.lab z) fun sh1=>ifB (fkB (Rose.node ((Rose.lab z_1).1,sh2.1,sh2.2.1,
 sh2.2.2.1,sh2.2.2.2.1,()) (Rose.kids z_1))) (ifT (decide ((-1000000000000:Int)<=sh1.1/\sh1.1<=(1000000000000:Int))) (ifT (decide ((0:Int)<=
 fol sh1.1/\fol sh1.1<=(1000000000000:Int))) (ifT (decide (s.length+(vbs (fol sh1.1).toNat).length<=9223372036854775807)) (some (Ex.normal,[V.ptr 0
 0,V.s (s++vbs (fol sh1.1).toNat),V.sl VCd.rose us,V.j k,V.j (i64.wrap (i+1))],[some (Blk.box [V.j y0,V.s y1,V.j y2,V.b y3,V.i
 .i64 y4,V.sl LCd.rose ys])]))))) (ifT (decide ((0:Int)<=(0:Int))&&decide (0<(↑ys.length:Int))) (An ys[0]? fun z_2=>shr sh1.2 fun sh6=>shr
 (Rose.kids z) fun sh5=>shr (Rose.lab z_2).2 fun sh4=>shr (Rose.kids z_2) fun sh3=>shr (Rose.node (sh1.1,sh6.1,sh6.2.1,sh6.2.2.1,()) sh5) fun sh2
 => shr (Rose.node ((Rose.lab z_2).1,sh4.1,sh4.2.1,sh4.2.2.1,sh4.2.2.2.1,()) sh3) fun sh1=>ifT (decide (Ak sh3+1<=n/\Ak sh3 +
 1<=1000000/\Ah sh1=true/\fkB sh1=false/\vcL sh5<=1000/\sfR sh2 sh1=true)) (ifT (decide (0<=(↑(A0 sh2 sh1).length:Int)/\
 (↑(A0 sh2 sh1).length:Int)<=(1000000000000:Int))) (ifT (decide ((vbs (↑(A0 sh2 sh1).length:Int).toNat).length+(A0 sh2 sh1).length<=(9223372036854775807 :
 Nat))) (ifT (decide (s.length+(vbs (↑(A0 sh2 sh1).length:Int).toNat++A0 sh2 sh1).length<=9223372036854775807)) (some (Ex.normal,[V.ptr 0 0,V.s (s++
 (vbs (↑(A0 sh2 sh1).length:Int).toNat++A0 sh2 sh1)),V.sl VCd.rose us,V.j k,V.j (i64.wrap (i+1))],[some (Blk.box [V.j y0,V.s y1,V.i
 .i64 y2,V.b y3,V.j y4,V.sl LCd.rose ys])])))))))))) (some (Ex.exit 1,[V.s s],[]))):_):=by kernel_rfl
theorem Nt (n:Nat) (y0:Int) (y1:By) (y2:Int) (y3:Bool) (y4:Int) (ys:RL) (m:Nat) (us:RVL) (k i:Int) (o:List WFd):Au prog (Rc n) (Aa [(7,Ip n),(17,Io n)]) 0 (body f76 1) (Io n) ([.ptr 0 0,.ref 1 0 m,.sl (.rose VCd) us,.j k,.j i],[some (.box (Lt y0 y1 y2 y3 y4 ys)),R0 FCd o]) =
 ((ifB (decide (i<k)) (ifT (decide (0<=i)&&decide (i<(↑us.length:Int))) (An us[i.toNat]? fun z=>shr (Rose.lab z) fun sh7=>shr (take m (drop (0 :
 Nat) o)) fun sh6=>shr (Rose.kids z) fun sh5=>shr sh7.2.2 fun sh4=>shr (Rose.node ((0:Int),Ag UInt8,(0:Int),false,(0:Int),()) (Ag LCd.rose.den))
 fun sh3=>shr (Rose.node (sh7.1,sh7.2.1,sh4.1,sh4.2.1,()) sh5) fun sh2=>shr (Rose.node ((byR sh4.1 ys).lab.1,(byR sh4.1 ys).lab.2.1,(byR
 sh4.1 ys).lab.2.2.1,(byR sh4.1 ys).lab.2.2.2.1,(byR sh4.1 ys).lab.2.2.2.2.1,()) (byR sh4.1 ys).kids) fun sh1=>ifT (decide (ys.length
 <= maxI)) (ifB (AN sh4.1 ys) (ifB (fkB sh1) (ifT (decide ((m+1)*40<=140737488355328)&&decide (m+1<=maxI)) (some (Ex.normal,
 [V.ptr 0 0,V.ref 1 0 (m+1),V.sl VCd.rose us,V.j k,V.j (i64.wrap (i+1))],[some (Blk.box [V.j y0,V.s y1,V.j y2,V.b y3,V.i
 .i64 y4,V.sl LCd.rose ys]),R0 FCd (sh6++(sh4.1,(0:Int),sh7.1,Ag UInt8,())::Ag FCd.den)]))) (ifT (decide (Ak (byR sh4.1
 ys).kids+1<=n/\Ak (byR sh4.1 ys).kids+1<=1000000/\Ah sh1=true/\fkB sh1=false/\vcL sh5<=1000/\sfR sh2 sh1=true))
 (ifT (decide ((m+1)*40<=140737488355328)&&decide (m+1<=maxI)) (some (Ex.normal,[V.ptr 0 0,V.ref 1 0 (m+1),V.sl
 VCd.rose us,V.j k,V.j (i64.wrap (i+1))],[some (Blk.box (Lt y0 y1 y2 y3 y4 ys)),R0 FCd (sh6++(sh4.1,(2:Int),(0:Int),A0 sh2 sh1,())::Ag FCd.den)]))))) (ifT (decide (1<=n/\1<=1000000/\Ah sh3 =
 true/\fkB sh3=false/\vcL sh5<=1000/\sfR sh2 sh3=true)) (ifT (decide ((m+1)*40<=140737488355328)&&decide (m+1<=
 maxI)) (some (Ex.normal,[V.ptr 0 0,V.ref 1 0 (m+1),V.sl VCd.rose us,V.j k,V.j (i64.wrap (i+1))],[some (Blk.box (Lt y0 y1 y2 y3 y4 ys)),R0 FCd (sh6++(sh4.1,(2:Int),(0:Int),A0 sh2 sh3,())::Ag FCd.den)])))))))
 (some (Ex.exit 3,[V.ref 0 0 m],[R0 FCd o]))):_):=by kernel_rfl
theorem WR (n:Nat) (x0:Int) (x1:By) (x2:Int) (x3:Bool) (xs:RVL) (y0:Int) (y1:By) (y2:Int) (y3:Bool) (y4:Int) (ys:RL):Bm prog (Rc n) (Aa [(7,Ip n),(17,Io n)]) f76 [.agg (Lv x0 x1 x2 x3 xs),.agg (Lt y0 y1 y2 y3 y4 ys)] [] =
 ((shr (Ag FCd.den++List.map (BZ ys) (drop 0 xs)) fun sh2=>shr (take sh2.length (drop 0 sh2)) fun sh1=>ifB (y0==2) (some (V.s x1,
 [])) (ifB (y0==4) (ifT (decide ((0:Int)<=(0:Int)/\0<=xs.length/\(↑xs.length:Int)=(↑xs.length:Int)/\Ak ys<=n/\Ak ys<=1000000/\
 ys.length=1/\A6 y0 ys=true/\vcL xs<=1000/\0<=0/\sfL (hd0 ys) xs=true)) (some (V.s (Ag UInt8++Ca (hd0 ys) (drop
 0 xs)),[]))) (ifT (decide ((0:Int)<=(0:Int)/\0<=xs.length/\(↑xs.length:Int)=(↑xs.length:Int)/\0=0/\Ak ys<=n/\Ak
 ys<=1000000/\A6 (5:Int) ys=true/\vcL xs<=1000/\0<=0/\xs.all (chM ys)=true)) (ifT (decide (sh1.length<=100000)&&
 sh1.all DN) (some (V.s (fbs sh1),[])))))):_):=by kernel_rfl
theorem Qc (n:Nat) (y0:Int) (y1:By) (y2:Int) (y3:Bool) (y4:Int) (ys:RL) (us:RVL) (h1:Ak ys<=n) (h2:Ak ys<=1000000) (h3:ys.length=1) (h4:A6 y0 ys=true) (h5:vcL us<=1000) (h6:sfL (hd0 ys) us=true) : ∀ (j i:Nat) (s:By),i+j=us.length->s.length<=100000*i->
  Runs prog (Rc n) (Aa [(7,Ip n),(17,Io n)]) 0 (body f76 0) (Ip n) ([.ptr 0 0,.s s,.sl (.rose VCd) us,.j (us.length:Int),.j (i:Int)],[some (.box (Lt y0 y1 y2 y3 y4 ys))]) (.exit 1) ([.s (s++Ca (hd0 ys) (us.drop i))],[])
 | 0,i,s,hi,hs=>by
  have hr:=Nu n y0 y1 y2 y3 y4 ys s us us.length i;rw [Ae (dcF (by omega))] at hr;rw [drop_eq_nil_of_le (by omega),Ca,append_nil];exact stp hr
 | j+1,i,s,hi,hs=>by
  have hl:i<us.length:=by omega
  have hM:=mxI;have hlen:=Gi us;have hmem:=Gh (getElem_mem hl);have hr:=Nu n y0 y1 y2 y3 y4 ys s us us.length i;dsimp only [shr] at hr;obtain ⟨y,rfl⟩:=List.length_eq_one_iff.1 h3;have h6':=h6;rw [GL,all_eq_true] at h6';have hc:=h6' _ (getElem_mem hl);rw [anE] at hc;have hc:sfR us[i] y=true:=hc.2;rw [Ak,Ak] at h1 h2;rw [A6,anE,anE] at h4;have hry:=h4.1.2;have hk:=AE y;have hL:=Fo us[i] y hry hc;have hy0:([y]:RL)[(0:Nat)]? = some y:=rfl;rw [Af (dcT (by omega)),T2 (by omega),ntN,gtE hl,Ap,Ab (by simp),hy0,Ap,AG,Az (n:=i) (by omega)] at hr;have ih:=Qc n y0 y1 y2 y3 y4 [y] us (by rw [Ak,Ak]; omega) (by rw [Ak,Ak]; omega) h3 (by rw [A6,anE,anE]; exact h4) h5 h6 j (i+1);rw [List.drop_eq_getElem_cons hl,Ca];have e0:hd0 [y]=y:=rfl;rw [e0] at ih ⊢;rcases Bool.eq_false_or_eq_true (fkB y) with hf | hf
  ·have hnum:=Km hry hf hc;have hfo:=DB hnum;have hv:=Gj (fol us[i].lab.1).toNat;rw [Af hf,Ab (dcT ⟨by omega,by omega⟩),Ab (dcT ⟨by omega,by omega⟩),Ab (dcT (by omega))] at hr;rw [GR hf,<-append_assoc];exact sts hr (ih (s++vbs (fol us[i].lab.1).toNat) (by omega) (by rw [length_append]; omega))
  ·have hv:=Gj (A0 us[i] y).length;have hvk:=DE us[i];rw [Ae hf,Ab (by simp),Ap,AG,BD,Ab (dcT ⟨by omega,by omega,hry,hf,by omega,hc⟩),Ab (dcT ⟨by omega,by omega⟩),ntN,Ab (dcT (by omega)),Ab (dcT (by rw [length_append]; omega))] at hr;rw [GS hf,<-append_assoc];exact sts hr (ih (s++(vbs (A0 us[i] y).length++A0 us[i] y)) (by omega) (by rw [length_append,length_append]; omega))
theorem Qb (n:Nat) (y0:Int) (y1:By) (y2:Int) (y3:Bool) (y4:Int) (ys:RL) (us:RVL) (h1:Ak ys<=n) (h2:Ak ys<=1000000) (h4:A6 5 ys=true) (h5:vcL us<=1000) (h6:us.all (chM ys)=true) : ∀ (j i:Nat) (o:List WFd),i+j=us.length->o.length<=i->
  Runs prog (Rc n) (Aa [(7,Ip n),(17,Io n)]) 0 (body f76 1) (Io n) ([.ptr 0 0,.ref 1 0 o.length,.sl (.rose VCd) us,.j (us.length:Int),.j (i:Int)],[some (.box (Lt y0 y1 y2 y3 y4 ys)),R0 FCd o]) (.exit 3) ([.ref 0 0 (o++(us.drop i).map (BZ ys)).length],[R0 FCd (o++(us.drop i).map (BZ ys))])
 | 0,i,o,hi,ho=>by
  have hr:=Nt n y0 y1 y2 y3 y4 ys o.length us us.length i o
  try dsimp only [shr] at hr
  rw [Ae (dcF (by omega))] at hr;rw [drop_eq_nil_of_le (by omega),List.map_nil,append_nil];exact stp hr
 | j+1,i,o,hi,ho=>by
  have hl:i<us.length:=by omega
  have hM:=mxI;have hlen:=Gi us;have hmem:=Gh (getElem_mem hl);have hvk:=DE us[i];have hyl:=Bc ys;have hr:=Nt n y0 y1 y2 y3 y4 ys o.length us us.length i o
  try dsimp only [shr] at hr
  have hc:=all_eq_true.1 h6 _ (getElem_mem hl);unfold chM at hc;rw [anE] at hc;obtain ⟨c1,c2⟩:=hc;have hb:=FO c1;have hry:=BO h4 hb;have hcm:=Bo hb;have hk:=AE (byR us[i].lab.2.2.1 ys);rw [Af (dcT (by omega)),T2 (by omega),ntN,gtE hl,Ap,Ab (dcT (by omega)),Af c1,AG,BD,Az (n:=i) (by omega),drop_zero,take_length] at hr;have ih:=Qb n y0 y1 y2 y3 y4 ys us h1 h2 h4 h5 h6 j (i+1) (o++[BZ ys us[i]]) (by omega) (by rw [length_append,length_singleton]; omega);rw [length_append,length_singleton,append_assoc,List.singleton_append] at ih;rw [List.drop_eq_getElem_cons hl,map_cons];refine sts (hr.trans ?_) ih;unfold BZ;rcases Bool.eq_false_or_eq_true (fkB (byR us[i].lab.2.2.1 ys)) with hf | hf
  ·rw [Af hf,T2 (by omega),if_pos hf,A7]
  ·rw [Ae hf,Ab (dcT ⟨by omega,by omega,hry,hf,by omega,c2⟩),T2 (by omega),if_neg (by rw [hf]; simp),A7]
theorem Acx (n:Nat) : ∀ d e d',((Ip n).L d).run=some (e,d')->Runs prog (Rc n) (Aa [(7,Ip n),(17,Io n)]) 0 (body f76 0) (Ip n) d e d':=fun d ex d' h=>by
 unfold Ip at h;dsimp only at h;split at h
 ·rename_i s us k i y0 y1 y2 y3 y4 ys;obtain ⟨hc,hx⟩:=Ad h;clear h;obtain ⟨h0,h1,rfl,h3,h4,h5,h6,h7,h8,h9⟩:=of_decide_eq_true hc;obtain ⟨i,rfl⟩:=Int.eq_ofNat_of_zero_le h0;rw [ntN] at h1 h8 hx;obtain ⟨rfl,rfl⟩:=lfP hx;exact Qc n y0 y1 y2 y3 y4 ys us h3 h4 h5 h6 h7 h9 (us.length-i) i s (by omega) h8
 ·cases h
theorem Acw (n:Nat) : ∀ d e d',((Io n).L d).run=some (e,d')->Runs prog (Rc n) (Aa [(7,Ip n),(17,Io n)]) 0 (body f76 1) (Io n) d e d':=fun d ex d' h=>by
 unfold Io at h;dsimp only at h;split at h
 ·rename_i m us k i y0 y1 y2 y3 y4 ys o;obtain ⟨hc,hx⟩:=Ad h;clear h;obtain ⟨h0,h1,rfl,rfl,h3,h4,h5,h6,h7,h8⟩:=of_decide_eq_true hc;obtain ⟨i,rfl⟩:=Int.eq_ofNat_of_zero_le h0;rw [ntN] at h1 h7 hx;obtain ⟨rfl,rfl⟩:=lfP hx;exact Qb n y0 y1 y2 y3 y4 ys us h3 h4 h5 h6 h8 (us.length-i) i o (by omega) h7
 ·cases h
theorem Zs (n:Nat) (x0:Int) (x1:By) (x2:Int) (x3:Bool) (xs:RVL) (y0:Int) (y1:By) (y2:Int) (y3:Bool) (y4:Int) (ys:RL) (hc:Ak ys+1<=n+1/\Ak ys+1<=1000000/\Ah (.node (y0,y1,y2,y3,y4,()) ys:Rose Lab)=true/\fkB (.node (y0,y1,y2,y3,y4,()) ys:Rose Lab)=false/\vcL xs<=1000/\sfR (.node (x0,x1,x2,x3,()) xs:Rose A4) (.node (y0,y1,y2,y3,y4,()) ys:Rose Lab)=true):Bm prog (Rc n) (Aa [(7,Ip n),(17,Io n)]) f76 [.agg (Lv x0 x1 x2 x3 xs),.agg (Lt y0 y1 y2 y3 y4 ys)] []=some (.s (A0 (.node (x0,x1,x2,x3,()) xs:Rose A4) (.node (y0,y1,y2,y3,y4,()) ys:Rose Lab)),[]):=by
 obtain ⟨h1,h2,h3,h4,h5,h6⟩:=hc;have hrp:=Cr h3;have hk:=Dl hrp.1;have hM:=mxI;have hlen:=Gi xs;rw [WR]
 try dsimp only [shr]
 have hfk : ¬fkB (.node (y0,y1,y2,y3,y4,()) ys:Rose Lab)=true:=by rw [h4]; simp
 simp only [A7,drop_zero,take_length,nil_append];simp only [Rose.lab,Rose.kids] at hk hrp;rcases hk with rfl | rfl | rfl | ⟨rfl,h7⟩ | rfl
 ·cases h4
 ·rw [G6 (z:=(.node (2,y1,y2,y3,y4,()) ys:Rose Lab)) rfl]; rfl
 ·cases h4
 ·rw [Ae (by rfl),Af (by rfl),Ab (dcT ⟨by omega,by omega,by first | rfl | trivial,by omega,by omega,h7,hrp.2,h5,by omega,Kn rfl h6⟩),G7 (z:=(.node (4,y1,y2,y3,y4,()) ys:Rose Lab)) rfl]; rfl
 ·obtain ⟨b1,b2⟩:=I3 hrp.2 xs h5 (Yl (H1 rfl h6).1);rw [Ae (by rfl),Ae (by rfl),Ab (dcT ⟨by omega,by omega,by first | rfl | trivial,by first | rfl | trivial,by omega,by omega,hrp.2,h5,by omega,Yl (H1 rfl h6).1⟩),Ab (by rw [b1,Bool.and_true]; exact dcT (by rw [length_map]; omega)),b2,GV (z:=(.node (5,y1,y2,y3,y4,()) ys:Rose Lab)) rfl]; rfl
theorem Zt : ∀ n,(∀ m,m<n->Ac prog 76 (Ent.rd1 (Ux m)).F)->Ac prog 76 (Ent.rd1 (Ux n)).F
 | 0,_=>AP fun vs bs=>by
  unfold Ent.F Ux;dsimp only;split
  ·rename_i x0 x1 x2 x3 xs y0 y1 y2 y3 y4 ys;have:decide (Ak ys+1<=0/\Ak ys+1<=1000000/\Ah (.node (y0,y1,y2,y3,y4,()) ys:Rose Lab)=true/\fkB (.node (y0,y1,y2,y3,y4,()) ys:Rose Lab)=false/\vcL xs<=1000/\sfR (.node (x0,x1,x2,x3,()) xs:Rose A4) (.node (y0,y1,y2,y3,y4,()) ys:Rose Lab)=true)=false:=dcF (by omega);rw [this]; rfl
  ·rfl
 | n+1,ih=>by
  refine fcC (kc func76 (ih n (Nat.lt_succ_self n)) (kc func64 sfk (kc func106 Ae1 (kc func105 sv (kc func38 WU (kc func57 Agu KnowsL.nil)))))).knows (Λ:=(Aa [(7,Ip n),(17,Io n)])) func76 fun vs bs r hq=>?_
  unfold Ent.F Ux at hq;dsimp only at hq;split at hq
  ·rename_i x0 x1 x2 x3 xs y0 y1 y2 y3 y4 ys;obtain ⟨hc,hx⟩:=Ad hq;exact ⟨LoopsI.loops (.cons (a:=body f76 0) (by kernel_rfl) (Acx n) (.cons (a:=body f76 1) (by kernel_rfl) (Acw n) .nil)) (by kernel_rfl),(Zs n x0 x1 x2 x3 xs y0 y1 y2 y3 y4 ys (of_decide_eq_true hc)).trans hx⟩
  ·cases hq
theorem Zr:Ac prog 76 (Ent.rd1 Acy).F:=by
 refine Bb (F:=fun n=>(Ent.rd1 (Ux n)).F) Zt fun vs bs r h=>?_
 unfold Ent.F Acy at h;dsimp only at h;split at h
 ·rename_i x0 x1 x2 x3 xs y0 y1 y2 y3 y4 ys;obtain ⟨hc,hx⟩:=Ad h;refine ⟨Ak ys+1,?_⟩;show (Br.need (decide (Ak ys+1<=Ak ys+1/\Ak ys+1<=1000000/\Ah (.node (y0,y1,y2,y3,y4,()) ys:Rose Lab)=true/\fkB (.node (y0,y1,y2,y3,y4,()) ys:Rose Lab)=false/\vcL xs<=1000/\sfR (.node (x0,x1,x2,x3,()) xs:Rose A4) (.node (y0,y1,y2,y3,y4,()) ys:Rose Lab)=true)) (.leaf (.s (A0 (.node (x0,x1,x2,x3,()) xs:Rose A4) (.node (y0,y1,y2,y3,y4,()) ys:Rose Lab)),[]))).run=some r;have:decide (Ak ys+1<=Ak ys+1/\Ak ys+1<=1000000/\Ah (.node (y0,y1,y2,y3,y4,()) ys:Rose Lab)=true/\fkB (.node (y0,y1,y2,y3,y4,()) ys:Rose Lab)=false/\vcL xs<=1000/\sfR (.node (x0,x1,x2,x3,()) xs:Rose A4) (.node (y0,y1,y2,y3,y4,()) ys:Rose Lab)=true)=true:=dcT ⟨le_refl _,of_decide_eq_true hc⟩;rw [this];exact hx
 ·cases h
def DR (l:List Ty):Nat->List Ty->Prop
 | _,[]=>True
 | s,x::w=>l[s]? = some x/\DR l (s+1) w
def WG (l:List Ty) (s e:Nat):Prop:=∀ j:Nat,s<=j->Ba l e≠some (j:Int)
theorem Nw {l:List Ty} : ∀ {a:List Ty} {s:Nat} {b:List Ty},DR l s (a++b)↔DR l s a/\DR l (s+a.length) b
 | [],s,b=>by simp [DR]
 | x::a,s,b=>by
  rw [cons_append,DR,DR,Nw,length_cons,and_assoc,show s+1+a.length=s+(a.length+1) by omega]
theorem Ul {l:List Ty} {s p t:Nat} {ks:RL} (hl:DR l p (Bt ks s p)) (he:WG l s (p+Ak ks)) (hst:s<t):WG l t p:=by
 cases ks with
 | nil=>intro j hj; rw [Ak] at he; exact he j (by omega)
 | cons z ks=>
  rw [Bt,MS,cons_append,DR] at hl;intro j hj hu;unfold Ba at hu;rw [hl.1,map_some] at hu;have:=Option.some.inj hu;dsimp only at this;omega
theorem L1 (v:List Ty) : ∀ (w pre:List Ty),v=pre++w->DR v pre.length w
 | [],pre,h=>by rw [DR]; trivial
 | x::w,pre,h=>by
  rw [DR];refine ⟨by rw [h,List.getElem?_append_right (le_refl _)]; simp,?_⟩;have:=L1 v w (pre++[x]) (by rw [h]; simp);rw [length_append] at this;exact this

theorem IF {n:Int} {u:Rose Lab} : ∀ {us:RL},us.Pairwise KR->u∈us->u.lab.2.2.1=n->byR n us=u
 | [],_,h,_=>by cases h
 | w::us,hp,h,hn=>by
  rw [pairwise_cons] at hp;rw [byR];rcases mem_cons.1 h with e | h
  ·subst e; rw [if_pos hn]
  ·have:w.lab.2.2.1<u.lab.2.2.1:=hp.1 u h;rw [if_neg (by omega)];exact IF hp.2 h hn
mutual
def lfR:Rose Lab->Bool
 | .node x ks=>((Ar x.1||ks.isEmpty)&&x.1==(bif x.2.2.2.1 then 5 else 1))&&lfL ks
def lfL:RL->Bool
 | []=>true
 | z::l=>lfR z&&lfL l
end
mutual
theorem MR (l:List Ty) : ∀ (z:Rose Lab),lfR z=true->∀ (up:Int) (s:Nat),DR l s (AK z up s)->WG l s (s+Aj z)->kf l s=(z,s+Aj z)
 | .node x ks,hr,up,s,hl,he=>by
  rw [lfR,anE,anE] at hr;obtain ⟨⟨hp,_⟩,hrr⟩:=hr;rw [AK,DR] at hl
  have hs:s<l.length:=by
   by_cases h:s<l.length
   ·exact h
   ·rw [List.getElem?_eq_none (by omega)] at hl; cases hl.1
  have hlab:A5 l s=x:=by unfold A5; rw [hl.1]
  rw [Aj] at he ⊢;rw [N3 hs,hlab]
  cases hh:Ar x.1 with
  | true=>
   have:=HU l ks hrr s (s+1) (by omega) hl.2 (by rw [show s+1+Ak ks=s+(Ak ks+1) by omega]; exact he) l.length [] (by omega);rw [cond_true,this,nil_append,show s+1+Ak ks=s+(Ak ks+1) by omega]
  | false=>
   rw [hh,Bool.false_or,isEmpty_iff] at hp;subst hp;rw [cond_false,Ak]
theorem HU (l:List Ty) : ∀ (ks:RL),lfL ks=true->∀ (s p:Nat),s<p->DR l p (Bt ks s p)->WG l s (p+Ak ks)->∀ (n:Nat) (acc:RL),l.length-p<=n->AB (kf l) l s n p acc=(acc++ks,p+Ak ks)
 | [],_,s,p,_,_,he,n,acc,_=>by
  rw [Ak] at he ⊢;rw [Nat.add_zero] at he ⊢;rw [D8 (he s (le_refl _)),append_nil]
 | z::ks,hr,s,p,hsp,hl,he,n,acc,hn=>by
  rw [lfL,anE] at hr;rw [Bt,Nw,Dc] at hl;rw [Ak,<-add_assoc] at he ⊢;have hk:=MR l z hr.1 s p hl.1 (Ul hl.2 he hsp)
  have hu:Ba l p=some (s:Int):=by
   have:=hl.1;rw [MS,DR] at this;unfold Ba;rw [this.1]; rfl
  have hpl:=Ev hu;have hb:=CI l p hpl;obtain ⟨n,rfl⟩ : ∃ m,n=m+1:=⟨n-1,by omega⟩
  rw [hk] at hb;dsimp only at hb;rw [AB,if_pos hu,hk];dsimp only;rw [HU l ks hr.2 s (p+Aj z) (by omega) hl.2 he n _ (by omega),append_assoc];rfl
end
mutual
theorem KD : ∀ (z:Rose Lab),lfR z=true->∀ (up:Int) (s:Nat),AK z up s=tys (Am (cv z) up s)
 | .node x ks,hr,up,s=>by
  rw [lfR,anE,anE,beq_iff_eq] at hr;obtain ⟨⟨_,hx⟩,hrr⟩:=hr;have:=J9 ks hrr s (s+1);unfold tys at this ⊢;rw [AK,cv,Am,map_cons,<-this];congr 1;unfold asT cvL;dsimp only;rw [<-hx]
theorem J9 : ∀ (ks:RL),lfL ks=true->∀ (s p:Nat),Bt ks s p=tys (AA (cvs ks) s p)
 | [],_,s,p=>by rw [Bt,cvs,AA]; rfl
 | z::ks,hr,s,p=>by
  rw [lfL,anE] at hr;have h1:=KD z hr.1 s p;have h2:=J9 ks hr.2 s (p+Aj z);have h3:=Cn (cv z) s p;rw [V0] at h3;rw [Bt,cvs,AA,Dc,h3];unfold tys at *;rw [List.map_append,<-h1,<-h2]
end
theorem Te : ∀ (ks:RL) (z:Rose Lab),lfL ks=true->lfR z=true->lfL (ks++[z])=true
 | [],z,_,h=>by rw [nil_append,lfL,h]; rfl
 | y::ks,z,h1,h2=>by
  rw [lfL,anE] at h1;rw [cons_append,lfL,h1.1,Te ks z h1.2 h2]; rfl
theorem Qn {l:List Ty} {g:Nat->Rose Lab×Nat} {a:Nat} (hg : ∀ e,e<l.length->lfR (g e).1=true) : ∀ (n e:Nat) (ks:RL),lfL ks=true->lfL (AB g l a n e ks).1=true
 | 0,e,ks,h=>h
 | n+1,e,ks,h=>by
  unfold AB;split
  ·rename_i hu;exact Qn hg n _ _ (Te _ _ h (hg e (Ev hu)))
  ·exact h
theorem Adb (v:List Nd) : ∀ f a,a<v.length->lfR (kfr (tys v) f a).1=true:=by
 have hlb : ∀ a,a<v.length->((A5 (tys v) a).1==(bif (A5 (tys v) a).2.2.2.1 then 5 else 1))=true:=fun a ha=>by
  rw [GO ha]; exact beq_self_eq_true _
 intro f
 induction f with
 | zero=>intro a ha; rw [kfr,lfR,hlb a ha,lfL]; simp
 | succ f ih=>
  intro a ha;unfold kfr;dsimp only;have hl:=hlb a ha
  cases hh:Ar (A5 (tys v) a).1 with
  | true=>
   rw [cond_true,lfR,hh,hl,Qn (fun e he=>ih e (by rw [Bn] at he; exact he)) _ _ _ (by rw [lfL])]; rfl
  | false=>rw [cond_false,lfR,hh,hl,lfL]; rfl

theorem DM {z:Rose Lab} (h:Ah z=true) (h5:z.lab.1=5):z.kids.Pairwise KR:=by
 obtain ⟨hp,_⟩:=Cq h;unfold B5 at hp;rw [if_neg (by omega),if_neg (by omega),if_neg (by omega)] at hp;split at hp
 ·cases hp
 ·exact ((Ik _).1 hp).imp fun h=>h.1
theorem TY {ns:List Int} (h : ∀ i,i<ns.length->Ci ns i=true):ns.Pairwise (· < ·):=by
 induction ns with
 | nil=>exact .nil
 | cons x ns ih=>
  have ih:=ih fun i hi=>by
   have:=h (i+1) (by simp; omega);unfold Ci at this ⊢
   cases i with
   | zero=>rfl
   | succ i=>simpa using this
  refine pairwise_cons.2 ⟨fun y hy=>?_,ih⟩
  cases ns with
  | nil=>cases hy
  | cons w ns=>
   have h1:=h 1 (by simp);unfold Ci at h1;have h1:x<w:=by simpa using h1
   rcases mem_cons.1 hy with rfl | hy
   ·exact h1
   ·have:=(pairwise_cons.1 ih).1 y hy;omega
theorem YS {l:List WFd} (h:JT (CE l)=true):l.Pairwise Aa8:=by
 have h2:=TY (ns:=CE l) fun i hi=>all_eq_true.1 h i (List.mem_range.2 hi)
 unfold CE at h2;have h3:l.Pairwise (fun a b=>a.1<b.1):=List.pairwise_map.1 h2;exact h3
def Wa (no:Int) (v:Rose A4):Rose A4:=.node (v.lab.1,v.lab.2.1,no,v.lab.2.2.2.1,()) v.kids
theorem Mh (z:Rose Lab) (s:By) (no:Int):AI z s no=(AI z s 0).map (Wa no):=by
 by_cases h2:z.lab.1=2
 ·rw [CP h2,CP h2]; split<;>rfl
 ·by_cases h4:z.lab.1=4
  ·rw [CQ h4,CQ h4]; cases Dp z.kids s<;>rfl
  ·rw [Dx h2 h4,Dx h2 h4]
   cases Df s with
   | none=>rfl
   | some fs=>dsimp only; cases Bf z.kids fs<;>rfl
theorem QG {z:Rose Lab} (hr:Ah z=true) (h5:z.lab.1=5) (s:By) (no:Int):AI z s no=(match Df s with
   | some fs=>(match B7 z.kids fs with | some vs=>if B9 vs z.kids=true then some (.node (0,[],no,true,()) vs) else none | none=>none)
   | none=>none):=by
 rw [Dx (by omega) (by omega)]
 cases hf:Df s with
 | none=>rfl
 | some fs=>
  have hp:=YS (Ko hf).2.1;dsimp only;rw [XW _ z.kids fs (le_refl _) (DM hr h5) hp]
  cases B7 z.kids fs with
  | none=>rfl
  | some vs=>dsimp only; split<;>rfl
theorem SM {z:Rose Lab} (hr:Ah z=true) (h5:z.lab.1=5) {s:By} {v:Rose A4} (h:AI z s 0=some v):Bu z s=v:=by
 rw [QG hr h5] at h;unfold Bu
 cases hf:Df s with
 | none=>rw [hf] at h; cases h
 | some fs=>
  rw [hf] at h;dsimp only at h ⊢
  cases hd:B7 z.kids fs with
  | none=>rw [hd] at h; cases h
  | some vs=>
   rw [hd] at h;dsimp only at h ⊢;split at h
   ·exact Option.some.inj h
   ·cases h
theorem KX {z:Rose Lab} (hr:Ah z=true) (hf:fkB z=false):z.lab.1=2\/z.lab.1=4\/z.lab.1=5:=by
 obtain ⟨h1,_⟩:=Cq hr;unfold fkB at hf;simp only [Bool.or_eq_false_iff,beq_eq_false_iff_ne] at hf;unfold B5 at h1
 by_cases a2:z.lab.1=2
 ·exact .inl a2
 ·by_cases a4:z.lab.1=4
  ·exact .inr (.inl a4)
  ·by_cases a5:z.lab.1=5
   ·exact .inr (.inr a5)
   ·rw [if_neg (by omega),if_neg hf.2,if_neg a4,if_pos (.inl a5)] at h1; cases h1
theorem Oe {z:Rose Lab} (hr:Ah z=true) (hf:fkB z=false) {s:By} {v:Rose A4} (h:AI z s 0=some v):BL z s=v:=by
 unfold BL;rcases KX hr hf with q | q | q
 ·rw [if_pos q];rw [CP q] at h;split at h
  ·exact Option.some.inj h
  ·cases h
 ·rw [if_neg (by omega),if_neg (by omega)];rw [CQ q] at h;obtain ⟨vs,h1,rfl⟩:=map_eq_some_iff.1 h;rw [h1]
 ·rw [if_neg (by omega),if_pos q];exact SM hr q h
theorem Lx {z:Rose Lab} (hf:fkB z=true) {n:Int} (hn:BX n=true) (no:Int):A1 z n no=if E7 n z=true then some (.node (n,[],no,false,()) []) else none:=by
 unfold A1 E7;unfold fkB at hf;simp only [or_eq_true,beq_iff_eq] at hf;rcases hf with h | h
 ·rw [if_pos ⟨hn,.inl h⟩,h]; rfl
 ·rw [h]
  by_cases q:0<=n/\n<=z.lab.2.2.2.2.1
  ·rw [if_pos ⟨hn,.inr q⟩,if_pos (by simp [q])]
  ·rw [if_neg (fun hh=>hh.2.elim (fun e=>by omega) q),if_neg (by simp [q])]
theorem Lz {z:Rose Lab} (hf:fkB z=false) (n:Int):E7 n z=true:=by
 unfold E7;unfold fkB at hf;simp only [Bool.or_eq_false_iff,beq_eq_false_iff_ne] at hf;rw [bne_iff_ne.2 hf.2]; rfl
theorem LL {f:WFd} (h:AJ f=true) (h0:f.2.1=0):BX f.2.2.1=true:=by
 unfold AJ at h;rw [anE] at h;have h:=h.2;rw [if_pos h0,anE] at h;exact h.1
theorem TZ {l:List WFd} {i:Nat} (h:l.length<=i):Ff l i=true:=by
 unfold Ff; rw [drop_eq_nil_of_le (by simpa using h)]; rfl
theorem KS {l:List WFd} {i:Nat} (h:i<l.length):Ff l i=(Ci (CE l) i&&Ff l (i+1)):=by
 unfold Ff;rw [List.drop_eq_getElem_cons (by simpa using h),all_cons,List.getElem_range]
theorem EC {n:Int} : ∀ {l:RL},AN n l=true->byR n l∈l/\(byR n l).lab.2.2.1=n
 | [],h=>by cases h
 | z::l,h=>by
  rw [byR]
  by_cases q:z.lab.2.2.1=n
  ·rw [if_pos q]; exact ⟨by simp,q⟩
  ·rw [if_neg q]
   have h2:AN n l=true:=by
    unfold AN at h ⊢;rw [List.any_cons,beq_eq_false_iff_ne.2 q,Bool.false_or] at h;exact h
   have:=EC h2;exact ⟨mem_cons_of_mem _ this.1,this.2⟩
theorem SK (n:Nat) (y0:Int) (y1:By) (y2:Int) (y3:Bool) (y4:Int) (ys:RL) (hks:A6 5 ys=true) (hcn:Ak ys<=n) (hc6:Ak ys<=1000000) (fs:List WFd) (hfs:fs.length<=40) (hfb:(fs.all fun x=>AJ x)=true) (hmx:mxD fs<=400) : ∀ (j i:Nat) (vs:RVL),i+j=fs.length->vs.length<=i->∀ ex d,(Br.br (Ff fs i&&(B7 ys (fs.drop i)).isSome) (.leaf (.exit 0,([.ptr 0 0,.ptr 1 0,.ptr 2 0],[some (.box (Lt y0 y1 y2 y3 y4 ys)),some (.box [.j 0,.s [],.j 0,.b false,.ref 3 0 0]),some (.box [.j 0,.s [],.j 0,.b true,.ref 4 0 (vs++(B7 ys (fs.drop i)).getD []).length]),R0 (.rose VCd) [],R0 (.rose VCd) (vs++(B7 ys (fs.drop i)).getD [])]))) (.leaf (.ret,([.ptr 0 0,.b false],[some (.box [.j 0,.s [],.j 0,.b false,.ref 1 0 0]),R0 (.rose VCd) []]))):Br (Ex×Dt)).run=some (ex,d)->Runs prog (MK n) (Aa [(6,rsE n)]) 0 (body f73 0) (rsE n) ([.ptr 0 0,.ptr 1 0,.ref 2 0 fs.length,.ptr 3 0,.ref 2 0 fs.length,.j (fs.length:Int),.j (i:Int)],[some (.box (Lt y0 y1 y2 y3 y4 ys)),some (.box [.j 0,.s [],.j 0,.b false,.ref 4 0 0]),R0 FCd fs,some (.box [.j 0,.s [],.j 0,.b true,.ref 5 0 vs.length]),R0 (.rose VCd) [],R0 (.rose VCd) vs]) ex d
 | 0,i,vs,hi,hv,ex,d,h=>by
  have hr:=PA n y0 y1 y2 y3 y4 ys fs.length fs.length vs.length fs.length i fs vs
  try dsimp only [shr] at hr
  rw [Ae (dcF (by omega))] at hr;rw [TZ (by omega),drop_eq_nil_of_le (by omega),B7] at h;rw [S2 (by rfl),show (some ([]:RVL)).getD []=[] from rfl,append_nil] at h;obtain ⟨rfl,rfl⟩:=lfP h;exact stp hr
 | j+1,i,vs,hi,hv,ex,d,h=>by
  have hl:i<fs.length:=by omega
  have hM:=mxI;have hr:=PA n y0 y1 y2 y3 y4 ys fs.length fs.length vs.length fs.length i fs vs
  try dsimp only [shr] at hr
  have W1:i64.wrap ((i:Int)+1)=((i+1:Nat):Int):=by rw [Av (by omega) (by omega)]; omega
  have hlen:=Bc ys;have eln : ∀ x:Option (Ex×Dt),ifT (decide ((vs.length+1)*64<=140737488355328)&&decide (vs.length+1<=maxI)) x=x:=fun x=>T2 (by omega)
  have hd:=List.drop_eq_getElem_cons hl;have hm:=getElem_mem hl;have hfbz:=all_eq_true.1 hfb _ hm;have hmz:=Lm hm;rw [Af (dcT (by omega)),T2 (by omega),ntN,zero_add,gtE hl,Ap] at hr;simp only [W1,Ab (dcT (show ys.length<=maxI by omega)),AG,A7,drop_zero,take_length] at hr
  have bad : ∀ {w},Au prog (MK n) (Aa [(6,rsE n)]) 0 (body f73 0) (rsE n) ([.ptr 0 0,.ptr 1 0,.ref 2 0 fs.length,.ptr 3 0,.ref 2 0 fs.length,.j (fs.length:Int),.j (i:Int)],[some (.box (Lt y0 y1 y2 y3 y4 ys)),some (.box [.j 0,.s [],.j 0,.b false,.ref 4 0 0]),R0 FCd fs,some (.box [.j 0,.s [],.j 0,.b true,.ref 5 0 vs.length]),R0 (.rose VCd) [],R0 (.rose VCd) vs])=w->w=some ((.ret:Ex),(([.ptr 0 0,.b false]:List V),[some (.box [.j 0,.s [],.j 0,.b false,.ref 1 0 0]),R0 (.rose VCd) []]))->(Ff fs i&&(B7 ys (fs.drop i)).isSome)=false->Runs prog (MK n) (Aa [(6,rsE n)]) 0 (body f73 0) (rsE n) ([.ptr 0 0,.ptr 1 0,.ref 2 0 fs.length,.ptr 3 0,.ref 2 0 fs.length,.j (fs.length:Int),.j (i:Int)],[some (.box (Lt y0 y1 y2 y3 y4 ys)),some (.box [.j 0,.s [],.j 0,.b false,.ref 4 0 0]),R0 FCd fs,some (.box [.j 0,.s [],.j 0,.b true,.ref 5 0 vs.length]),R0 (.rose VCd) [],R0 (.rose VCd) vs]) ex d:=fun e1 e2 e3=>by
   rw [Vl e3] at h;obtain ⟨rfl,rfl⟩:=lfP h;exact .stop _ _ _ (e1.trans e2) (by simp)
  have good : ∀ {w} (v:RVL),v.length<=1->Au prog (MK n) (Aa [(6,rsE n)]) 0 (body f73 0) (rsE n) ([.ptr 0 0,.ptr 1 0,.ref 2 0 fs.length,.ptr 3 0,.ref 2 0 fs.length,.j (fs.length:Int),.j (i:Int)],[some (.box (Lt y0 y1 y2 y3 y4 ys)),some (.box [.j 0,.s [],.j 0,.b false,.ref 4 0 0]),R0 FCd fs,some (.box [.j 0,.s [],.j 0,.b true,.ref 5 0 vs.length]),R0 (.rose VCd) [],R0 (.rose VCd) vs])=w->w=some ((.normal:Ex),(([.ptr 0 0,.ptr 1 0,.ref 2 0 fs.length,.ptr 3 0,.ref 2 0 fs.length,.j (fs.length:Int),.j ((i+1:Nat):Int)],[some (.box (Lt y0 y1 y2 y3 y4 ys)),some (.box [.j 0,.s [],.j 0,.b false,.ref 4 0 0]),R0 FCd fs,some (.box [.j 0,.s [],.j 0,.b true,.ref 5 0 (vs++v).length]),R0 (.rose VCd) [],R0 (.rose VCd) (vs++v)]):Dt))->Ci (CE fs) i=true->(B7 ys (fs.drop i))=(B7 ys (fs.drop (i+1))).map (v++·)->Runs prog (MK n) (Aa [(6,rsE n)]) 0 (body f73 0) (rsE n) ([.ptr 0 0,.ptr 1 0,.ref 2 0 fs.length,.ptr 3 0,.ref 2 0 fs.length,.j (fs.length:Int),.j (i:Int)],[some (.box (Lt y0 y1 y2 y3 y4 ys)),some (.box [.j 0,.s [],.j 0,.b false,.ref 4 0 0]),R0 FCd fs,some (.box [.j 0,.s [],.j 0,.b true,.ref 5 0 vs.length]),R0 (.rose VCd) [],R0 (.rose VCd) vs]) ex d:=fun v hv1 e1 e2 e3 e4=>by
   refine sts (e1.trans e2) (SK n y0 y1 y2 y3 y4 ys hks hcn hc6 fs hfs hfb hmx j (i+1) (vs++v) (by omega) (by rw [length_append]; omega) ex d ?_);rw [KS hl,e3,Bool.true_and,e4] at h;refine Eq.trans ?_ h
   cases (B7 ys (fs.drop (i+1))) with
   | none=>cases Ff fs (i+1)<;>rfl
   | some us=>
    cases Ff fs (i+1) with
    | false=>rfl
    | true=>
     show some _=some _;rw [show (Option.map (v++·) (some us)).getD []=v++us from rfl,show (some us).getD []=us from rfl,append_assoc]
  have hnos:(CE fs)[i]? = some fs[i].1:=by unfold CE; rw [getElem?_map,gtE hl]; rfl
  have tail:Ci (CE fs) i=true->(∃ w,Au prog (MK n) (Aa [(6,rsE n)]) 0 (body f73 0) (rsE n) ([.ptr 0 0,.ptr 1 0,.ref 2 0 fs.length,.ptr 3 0,.ref 2 0 fs.length,.j (fs.length:Int),.j (i:Int)],[some (.box (Lt y0 y1 y2 y3 y4 ys)),some (.box [.j 0,.s [],.j 0,.b false,.ref 4 0 0]),R0 FCd fs,some (.box [.j 0,.s [],.j 0,.b true,.ref 5 0 vs.length]),R0 (.rose VCd) [],R0 (.rose VCd) vs])=w):=fun _=>⟨_,rfl⟩
  by_cases hrise:Ci (CE fs) i=true
  ·have hst:(B7 ys (fs.drop i))=(if AN fs[i].1 ys=true then (match Dh (byR fs[i].1 ys) fs[i] with
    | some v=>(B7 ys (fs.drop (i+1))).map (v::·)
    | none=>none) else (B7 ys (fs.drop (i+1)))):=by rw [hd,B7]; all_goals rfl
   clear tail
   have hi0:i=0\/(0<i/\∃ h1:i-1<fs.length,fs[i-1].1<fs[i].1):=by
    rcases Nat.eq_zero_or_pos i with e | e
    ·exact .inl e
    ·refine .inr ⟨e,by omega,?_⟩;unfold Ci at hrise;have h1:(CE fs)[i-1]? = some (fs[i-1]'(by omega)).1:=by unfold CE; rw [getElem?_map,gtE (by omega)]; rfl
     have e0:(i==0)=false:=beq_eq_false_iff_ne.2 (by omega);rw [e0,Bool.false_or,getD_eq_getElem?_getD,getD_eq_getElem?_getD,h1,hnos] at hrise;exact of_decide_eq_true hrise
   have hr2:=hr;clear hr;rcases hi0 with h0 | ⟨h0,h1,h2⟩
   rotate_left
   ·have W2:i64.wrap ((i:Int)-1)=((i-1:Nat):Int):=by rw [Av (by omega) (by omega)]; omega
    rw [Af (dcT (by omega)),W2,T2 (by omega),ntN,zero_add,gtE h1,Ap,Ae (dcF (by omega))] at hr2;generalize fs[i]=f at hr2 hst hfbz hmz hnos
    cases hn:AN f.1 ys with
    | false=>
     rw [hn] at hr2 hst;refine good [] (by simp) hr2 ?_ hrise (hst.trans ?_)
     ·rw [append_nil]; rfl
     ·rw [if_neg (by simp)];cases (B7 ys (fs.drop (i+1)))<;>rfl
    | true=>
     rw [hn] at hr2 hst;rw [if_pos rfl] at hst;obtain ⟨bm,bn⟩:=EC hn;obtain ⟨hp,hrz⟩:=BH hks _ bm;have hcz:=Bo bm;generalize byR f.1 ys=p at hr2 hst bm bn hp hrz hcz;unfold Dh at hst;rw [Bg] at hr2
     by_cases hk0:f.2.1=0
     ·have hb0:(f.2.1==0)=true:=by rw [hk0]; rfl
      have hb2:(f.2.1==2)=false:=by rw [hk0]; rfl
      have hnb:=LL hfbz hk0
      cases hfk:fkB p with
      | false=>
       rw [hfk] at hr2 hst;rw [if_neg (by rw [hb0]; simp)] at hst;rw [hb0] at hr2;exact bad hr2 rfl (by rw [hst]; simp)
      | true=>
       rw [hfk] at hr2 hst;rw [if_pos hb0,if_pos hb0,Lx hfk hnb] at hst;rw [hb0,hb2] at hr2
       cases hlf:E7 f.2.2.1 p with
       | false=>
        rw [hlf] at hr2 hst;rw [if_neg (by simp)] at hst;exact bad hr2 rfl (by rw [hst]; simp)
       | true=>
        rw [hlf] at hr2 hst;rw [if_pos rfl] at hst;dsimp only at hst;simp only [eln] at hr2;exact good [.node (f.2.2.1,[],f.1,false,()) []] (by simp) hr2 (by rw [length_append,length_singleton]; rfl) hrise hst
     ·have hk2:f.2.1=2:=by rcases EL hfbz with e | e; exact absurd e hk0; exact e
      have hb0:(f.2.1==0)=false:=beq_eq_false_iff_ne.2 hk0;have hb2:(f.2.1==2)=true:=by rw [hk2]; rfl
      cases hfk:fkB p with
      | true=>
       rw [hfk] at hr2 hst;rw [if_neg (by rw [hb0]; simp)] at hst;rw [hb0] at hr2;exact bad hr2 rfl (by rw [hst]; simp)
      | false=>
       rw [hfk] at hr2 hst;rw [if_pos hb0,if_neg (by rw [hb0]; simp),Mh] at hst;rw [hb0,hb2] at hr2;rw [show (!false==false)=false from rfl,AR,Bg,Ab (dcT ⟨by omega,rfl,hrz,by omega,by omega⟩)] at hr2
       cases hdr:AI p f.2.2.2.1 0 with
       | none=>
        rw [hdr] at hr2 hst;exact bad hr2 rfl (by rw [hst]; simp)
       | some v=>
        have hpt:=Oe hrz hfk hdr;rw [hdr] at hr2 hst;rw [hpt,Lz hfk] at hr2;dsimp only [map_some] at hst;simp only [eln] at hr2;exact good [Wa f.1 v] (by simp) hr2 (by rw [length_append,length_singleton]; rfl) hrise hst
   ·rw [Ae (dcF (by omega))] at hr2;generalize fs[i]=f at hr2 hst hfbz hmz hnos
    cases hn:AN f.1 ys with
    | false=>
     rw [hn] at hr2 hst;refine good [] (by simp) hr2 ?_ hrise (hst.trans ?_)
     ·rw [append_nil]; rfl
     ·rw [if_neg (by simp)];cases (B7 ys (fs.drop (i+1)))<;>rfl
    | true=>
     rw [hn] at hr2 hst;rw [if_pos rfl] at hst;obtain ⟨bm,bn⟩:=EC hn;obtain ⟨hp,hrz⟩:=BH hks _ bm;have hcz:=Bo bm;generalize byR f.1 ys=p at hr2 hst bm bn hp hrz hcz;unfold Dh at hst;rw [Bg] at hr2
     by_cases hk0:f.2.1=0
     ·have hb0:(f.2.1==0)=true:=by rw [hk0]; rfl
      have hb2:(f.2.1==2)=false:=by rw [hk0]; rfl
      have hnb:=LL hfbz hk0
      cases hfk:fkB p with
      | false=>
       rw [hfk] at hr2 hst;rw [if_neg (by rw [hb0]; simp)] at hst;rw [hb0] at hr2;exact bad hr2 rfl (by rw [hst]; simp)
      | true=>
       rw [hfk] at hr2 hst;rw [if_pos hb0,if_pos hb0,Lx hfk hnb] at hst;rw [hb0,hb2] at hr2
       cases hlf:E7 f.2.2.1 p with
       | false=>
        rw [hlf] at hr2 hst;rw [if_neg (by simp)] at hst;exact bad hr2 rfl (by rw [hst]; simp)
       | true=>
        rw [hlf] at hr2 hst;rw [if_pos rfl] at hst;dsimp only at hst;simp only [eln] at hr2;exact good [.node (f.2.2.1,[],f.1,false,()) []] (by simp) hr2 (by rw [length_append,length_singleton]; rfl) hrise hst
     ·have hk2:f.2.1=2:=by rcases EL hfbz with e | e; exact absurd e hk0; exact e
      have hb0:(f.2.1==0)=false:=beq_eq_false_iff_ne.2 hk0;have hb2:(f.2.1==2)=true:=by rw [hk2]; rfl
      cases hfk:fkB p with
      | true=>
       rw [hfk] at hr2 hst;rw [if_neg (by rw [hb0]; simp)] at hst;rw [hb0] at hr2;exact bad hr2 rfl (by rw [hst]; simp)
      | false=>
       rw [hfk] at hr2 hst;rw [if_pos hb0,if_neg (by rw [hb0]; simp),Mh] at hst;rw [hb0,hb2] at hr2;rw [show (!false==false)=false from rfl,AR,Bg,Ab (dcT ⟨by omega,rfl,hrz,by omega,by omega⟩)] at hr2
       cases hdr:AI p f.2.2.2.1 0 with
       | none=>
        rw [hdr] at hr2 hst;exact bad hr2 rfl (by rw [hst]; simp)
       | some v=>
        have hpt:=Oe hrz hfk hdr;rw [hdr] at hr2 hst;rw [hpt,Lz hfk] at hr2;dsimp only [map_some] at hst;simp only [eln] at hr2;exact good [Wa f.1 v] (by simp) hr2 (by rw [length_append,length_singleton]; rfl) hrise hst
  ·have hrise:Ci (CE fs) i=false:=by simpa using hrise
   have h0:0<i:=by
    rcases Nat.eq_zero_or_pos i with e | e
    ·unfold Ci at hrise; rw [e] at hrise; simp at hrise
    ·exact e
   have h1:i-1<fs.length:=by omega
   have h2 : ¬fs[i-1].1<fs[i].1:=by
    unfold Ci at hrise;have h1:(CE fs)[i-1]? = some (fs[i-1]'(by omega)).1:=by unfold CE; rw [getElem?_map,gtE (by omega)]; rfl
    have e0:(i==0)=false:=beq_eq_false_iff_ne.2 (by omega);rw [e0,Bool.false_or,getD_eq_getElem?_getD,getD_eq_getElem?_getD,h1,hnos] at hrise;exact of_decide_eq_false hrise
   have W2:i64.wrap ((i:Int)-1)=((i-1:Nat):Int):=by rw [Av (by omega) (by omega)]; omega
   rw [Af (dcT (by omega)),W2,T2 (by omega),ntN,zero_add,gtE h1,Ap,Af (dcT (by omega))] at hr;exact bad hr rfl (by rw [KS hl,hrise]; rfl)

theorem Ae6 (n:Nat):Aw prog (MK n) (Aa [(6,rsE n)]) 0 (f73.body.getD .skip):=by
 refine As (a:=body f73 0) (by kernel_rfl) fun d ex d' h=>?_
 unfold rsE at h;dsimp only at h;split at h
 ·rename_i w w2 c i y0 y1 y2 y3 y4 ys fs m vs;obtain ⟨hc,hx⟩:=Ad h;obtain ⟨rfl,rfl,rfl,h0,h1,h2,rfl,h3,h4,h5,h6,h7,h8⟩:=of_decide_eq_true hc;obtain ⟨i,rfl⟩:=Int.eq_ofNat_of_zero_le h0;simp only [ntN] at h1 hx;exact SK n y0 y1 y2 y3 y4 ys h6 h7 h8 fs h2 h4 h5 (fs.length-i) i vs (by omega) (by omega) ex d' hx
 ·cases h
theorem YY {s:By} (h:s.length<=400):CB s=CZ s:=by unfold CZ; rw [if_pos h]
theorem YU (l:List WFd):Ff l 0=JT (CE l):=by
 unfold Ff JT CE;rw [drop_zero,length_map]
theorem PD {s:By} {l:List WFd} (h:CZ s=some l):(∀ x∈l,AJ x=true/\x.2.2.2.1.length<=s.length)/\l.length<=40:=by
 have e:CZ s=(rdP s).map fun l=>l.map (·.1):=by
  unfold CZ rdP CB;split
  ·exact Ic s _ _ []
  ·rfl
 have h2:=h;rw [e] at h2;obtain ⟨l',h3,rfl⟩:=map_eq_some_iff.1 h2;refine ⟨?_,by rw [length_map]; exact (Kp h3).1⟩;unfold CZ CB at h;split at h
 ·exact Od s _ _ [] _ (by simp) h
 ·cases h
theorem Aaj {z:Rose Lab} (hr:Ah z=true) (h5:z.lab.1=5) (s:By):(AI z s 0).isSome=(match Df s with
   | some fs=>(match B7 z.kids fs with | some vs=>B9 vs z.kids | none=>false)
   | none=>false):=by
 rw [QG hr h5]
 cases Df s with
 | none=>rfl
 | some fs=>
  dsimp only
  cases B7 z.kids fs with
  | none=>rfl
  | some vs=>
   dsimp only;cases B9 vs z.kids<;>rfl
theorem Ab7 (n:Nat) (s:By) (y0:Int) (y1:By) (y2:Int) (y3:Bool) (y4:Int) (ys:RL) (hc:s.length<=400/\y0=5/\Ah (.node (y0,y1,y2,y3,y4,()) ys:Rose Lab)=true/\Aj (.node (y0,y1,y2,y3,y4,()) ys:Rose Lab)<=(n+1)/\Aj (.node (y0,y1,y2,y3,y4,()) ys:Rose Lab)<=1000000):Bm prog (MK n) (Aa [(6,rsE n)]) f73 [.s s,.agg (Lt y0 y1 y2 y3 y4 ys)] []=some (.tup [.agg [.j (Bu (.node (y0,y1,y2,y3,y4,()) ys:Rose Lab) s).lab.1,.s (Bu (.node (y0,y1,y2,y3,y4,()) ys:Rose Lab) s).lab.2.1,.j (Bu (.node (y0,y1,y2,y3,y4,()) ys:Rose Lab) s).lab.2.2.1,.b (Bu (.node (y0,y1,y2,y3,y4,()) ys:Rose Lab) s).lab.2.2.2.1,.ref 0 0 (Bu (.node (y0,y1,y2,y3,y4,()) ys:Rose Lab) s).kids.length],.b (AI (.node (y0,y1,y2,y3,y4,()) ys:Rose Lab) s 0).isSome],[R0 (.rose VCd) (Bu (.node (y0,y1,y2,y3,y4,()) ys:Rose Lab) s).kids]):=by
 obtain ⟨h1,h2,h3,h4,h5⟩:=hc;rw [YR];have hck:Aj (.node (y0,y1,y2,y3,y4,()) ys:Rose Lab)=Ak ys+1:=AE _;have hM:=mxI;have hlen:=Bc ys
 try dsimp only [shr]
 dsimp only [Ag,nil_append]
 repeat rw [drop_zero]
 rw [Ab (dcT (by omega)),YY h1,Aaj h3 h2];unfold Bu Df
 cases hq:CZ s with
 | none=>rfl
 | some fs=>
  obtain ⟨f1,f2⟩:=PD hq;have hmx:mxD fs<=400:=SZ fun f hf=>by have:=(f1 f hf).2; omega
  rw [show (some fs).isSome=true from rfl,show (some fs).getD []=fs from rfl];rw [Bool.not_true,AR,Ab (dcT ⟨by first | trivial | rfl,by first | trivial | rfl,by first | trivial | rfl,by omega,by omega,f2,by first | trivial | rfl,by omega,all_eq_true.2 fun x hx=>(f1 x hx).1,hmx,BK h3 (show y0≠4 by omega),by omega,by omega⟩),YU];dsimp only
  cases hr:JT (CE fs) with
  | false=>rw [if_neg (show ¬(false=true) by simp)]; rfl
  | true=>
   rw [if_pos (rfl:true=true)];dsimp only [Rose.kids]
   have hds : ∀ vs,B7 ys fs=some vs->vs.length<=fs.length:=by
    intro vs;clear hq f1 f2 hmx hr
    induction fs generalizing vs with
    | nil=>intro h; rw [B7] at h; cases h; simp
    | cons f fs ih=>
     intro h;rw [B7] at h;split at h
     ·split at h
      ·obtain ⟨us,h8,rfl⟩:=map_eq_some_iff.1 h;have:=ih us h8;simp only [length_cons]; omega
      ·cases h
     ·have:=ih vs h;simp only [length_cons]; omega
   cases hd:B7 ys fs with
   | none=>rfl
   | some vs=>
    have hvl:=hds vs hd;rw [show (true&&(some vs).isSome)=true from rfl,Bg];rw [show (some vs).getD []=vs from rfl];rw [Ab (dcT ⟨by omega,by rw [drop_zero,take_length]; omega⟩),drop_zero,take_length];rfl
theorem Wh (n:Nat) (ih:Ac prog 117 (Ent.rd1 (ptN n)).F):Ac prog 73 (Ent.rd1 (rsN (n+1))).F:=by
 refine fcC (kc func116 rdf (kc func38 WU (kc func64 sfk (kc func117 ih (kc func118 Tf (kc func119 Tg KnowsL.nil)))))).knows (Λ:=(Aa [(6,rsE n)])) func73 fun vs bs r hq=>?_
 unfold Ent.F rsN at hq;dsimp only at hq;split at hq
 ·rename_i s y0 y1 y2 y3 y4 ys;obtain ⟨hc,hx⟩:=Ad hq;exact ⟨Ae6 n,(Ab7 n s y0 y1 y2 y3 y4 ys (of_decide_eq_true hc)).trans hx⟩
 ·cases hq
theorem Ze (n k:Nat) (s:By) (y0:Int) (y1:By) (y2:Int) (y3:Bool) (y4:Int) (y:Rose Lab) (hy:Ah y=true) (hcn:Aj y<=n) (hc6:Aj y<=1000000) (hs:s.length<=400) : ∀ (j a:Nat) (vs:RVL),s.length-a<=j->a<=s.length->vs.length<=a->∀ ex d,(Br.br (BC (fkB y) (fun n=>A1 y n 0) (fun d=>AI y d 0) s (s.length-a) a).isSome (.leaf (.exit 1,([.ptr 0 0,.ptr 1 0],[some (.box [.j 0,.s [],.j 0,.b false,.ref 2 0 0]),some (.box [.j 0,.s [],.j 0,.b true,.ref 3 0 (vs++(BC (fkB y) (fun n=>A1 y n 0) (fun d=>AI y d 0) s (s.length-a) a).getD []).length]),R0 (.rose VCd) [],R0 (.rose VCd) (vs++(BC (fkB y) (fun n=>A1 y n 0) (fun d=>AI y d 0) s (s.length-a) a).getD [])]))) (.leaf (.ret,([.ptr 0 0,.b false],[some (.box [.j 0,.s [],.j 0,.b false,.ref 1 0 0]),R0 (.rose VCd) []]))):Br (Ex×Dt)).run=some (ex,d)->Runs prog (Rd k n) (Aa [(8,ptE n)]) 0 (body f117 0) (ptE n) ([.s s,.ptr 0 0,.ptr 1 0,.ptr 2 0,.j (a:Int)],[some (.box (Lt y0 y1 y2 y3 y4 [y])),some (.box [.j 0,.s [],.j 0,.b false,.ref 3 0 0]),some (.box [.j 0,.s [],.j 0,.b true,.ref 4 0 vs.length]),R0 (.rose VCd) [],R0 (.rose VCd) vs]) ex d:=by
 intro j
 induction j with
 | zero=>
  intro a vs hj ha hv ex d h;have hr:=Le n k s y0 y1 y2 y3 y4 [y] vs.length a vs
  try dsimp only [shr] at hr
  rw [Ae (dcF (by omega))] at hr;rw [GA (by omega),S2 (by rfl),show (some ([]:RVL)).getD []=[] from rfl,append_nil] at h;obtain ⟨rfl,rfl⟩:=lfP h;exact stp hr
 | succ j ih=>
  intro a vs hj ha hv ex d h
  by_cases hlt:a<s.length
  ·have hr:=Le n k s y0 y1 y2 y3 y4 [y] vs.length a vs
   try dsimp only [shr] at hr
   have hM:=mxI;have ⟨⟨u1,u2⟩,u3,u4⟩:=EQ s a;have hst:=J0 (num:=fkB y) (N:=fun n=>A1 y n 0) (D:=fun d=>AI y d 0) hlt;have eln : ∀ x:Option (Ex×Dt),ifT (decide ((vs.length+1)*64<=140737488355328)&&decide (vs.length+1<=maxI)) x=x:=fun x=>Ab (by simp only [anE,dcE]; omega)
   have bad : ∀ {w},Au prog (Rd k n) (Aa [(8,ptE n)]) 0 (body f117 0) (ptE n) ([.s s,.ptr 0 0,.ptr 1 0,.ptr 2 0,.j (a:Int)],[some (.box (Lt y0 y1 y2 y3 y4 [y])),some (.box [.j 0,.s [],.j 0,.b false,.ref 3 0 0]),some (.box [.j 0,.s [],.j 0,.b true,.ref 4 0 vs.length]),R0 (.rose VCd) [],R0 (.rose VCd) vs])=w->w=some ((.ret:Ex),(([.ptr 0 0,.b false]:List V),[some (.box [.j 0,.s [],.j 0,.b false,.ref 1 0 0]),R0 (.rose VCd) []]))->(BC (fkB y) (fun n=>A1 y n 0) (fun d=>AI y d 0) s (s.length-a) a)=none->Runs prog (Rd k n) (Aa [(8,ptE n)]) 0 (body f117 0) (ptE n) ([.s s,.ptr 0 0,.ptr 1 0,.ptr 2 0,.j (a:Int)],[some (.box (Lt y0 y1 y2 y3 y4 [y])),some (.box [.j 0,.s [],.j 0,.b false,.ref 3 0 0]),some (.box [.j 0,.s [],.j 0,.b true,.ref 4 0 vs.length]),R0 (.rose VCd) [],R0 (.rose VCd) vs]) ex d:=fun e1 e2 e3=>by
    rw [e3,Vl (by rfl)] at h;obtain ⟨rfl,rfl⟩:=lfP h;exact .stop _ _ _ (e1.trans e2) (by simp)
   have good : ∀ {w} (b:Nat) (v:Rose A4),a<b->b<=s.length->Au prog (Rd k n) (Aa [(8,ptE n)]) 0 (body f117 0) (ptE n) ([.s s,.ptr 0 0,.ptr 1 0,.ptr 2 0,.j (a:Int)],[some (.box (Lt y0 y1 y2 y3 y4 [y])),some (.box [.j 0,.s [],.j 0,.b false,.ref 3 0 0]),some (.box [.j 0,.s [],.j 0,.b true,.ref 4 0 vs.length]),R0 (.rose VCd) [],R0 (.rose VCd) vs])=w->w=some ((.normal:Ex),(([.s s,.ptr 0 0,.ptr 1 0,.ptr 2 0,.j (b:Int)],[some (.box (Lt y0 y1 y2 y3 y4 [y])),some (.box [.j 0,.s [],.j 0,.b false,.ref 3 0 0]),some (.box [.j 0,.s [],.j 0,.b true,.ref 4 0 (vs++[v]).length]),R0 (.rose VCd) [],R0 (.rose VCd) (vs++[v])]):Dt))->(BC (fkB y) (fun n=>A1 y n 0) (fun d=>AI y d 0) s (s.length-a) a)=(BC (fkB y) (fun n=>A1 y n 0) (fun d=>AI y d 0) s (s.length-b) b).map (v::·)->Runs prog (Rd k n) (Aa [(8,ptE n)]) 0 (body f117 0) (ptE n) ([.s s,.ptr 0 0,.ptr 1 0,.ptr 2 0,.j (a:Int)],[some (.box (Lt y0 y1 y2 y3 y4 [y])),some (.box [.j 0,.s [],.j 0,.b false,.ref 3 0 0]),some (.box [.j 0,.s [],.j 0,.b true,.ref 4 0 vs.length]),R0 (.rose VCd) [],R0 (.rose VCd) vs]) ex d:=fun b v k1 k2 e1 e2 e4=>by
    refine sts (e1.trans e2) (ih b (vs++[v]) (by omega) k2 (by rw [length_append,length_singleton]; omega) ex d ?_);rw [e4] at h;refine Eq.trans ?_ h
    cases (BC (fkB y) (fun n=>A1 y n 0) (fun d=>AI y d 0) s (s.length-b) b) with
    | none=>rfl
    | some us=>
     show some _=some _;rw [show (Option.map (v::·) (some us)).getD []=v::us from rfl,show (some us).getD []=us from rfl,append_assoc];rfl
   rw [Af (dcT (by omega)),Ab (dcT (by omega)),ntN] at hr;simp only [A7,drop_zero,take_length,AG] at hr
   cases h3:BP (Ai s a) with
   | false=>
    rw [h3] at hr;refine bad hr rfl (hst.trans ?_);have hb:(Bd s a).2.2=false:=by unfold Bd; dsimp only; rw [if_neg (fun hh=>by rw [h3] at hh; cases hh.1)]
    cases fkB y with
    | true=>
     dsimp only
     cases A1 y (unf (A8 (Ai s a))) 0 with
     | none=>rfl
     | some v=>dsimp only; rw [h3,if_neg (by simp)]
    | false=>dsimp only; rw [hb]
   | true=>
    have e:=Fu h3;obtain ⟨s1,s2⟩:=Ro (a:=a) h3;rw [h3,Bool.not_true,AR] at hr;simp only [s1,s2] at hr;rw [Ab (dcT (by omega)),Ab (by rfl),show [y][0]? = some y from rfl,Ap] at hr
    cases hf:fkB y with
    | true=>
     rw [hf] at hr hst;dsimp only at hst;rw [Bool.not_true,AR] at hr
     cases hnb:BX (unf (A8 (Ai s a))) with
     | false=>
      rw [hnb] at hr;have hn:A1 y (unf (A8 (Ai s a))) 0=none:=by unfold A1; rw [if_neg (fun hh=>by rw [hnb] at hh; cases hh.1)]
      rw [hn] at hst;exact bad hr rfl (by rw [hf]; exact hst)
     | true=>
      rw [hnb] at hr;rw [Lx hf hnb,h3] at hst;simp only [Ab (show (decide ((0:Int)<=0)&&decide ((0:Int)<(([y]:RL).length:Int)))=true from rfl),Ap,eln] at hr
      cases hlf:E7 (unf (A8 (Ai s a))) y with
      | false=>
       rw [hlf] at hr hst;exact bad hr rfl (by rw [hf]; exact hst)
      | true=>
       rw [hlf] at hr hst;refine good (Ax a (Ai s a)).toNat (.node (unf (A8 (Ai s a)),[],0,false,()) []) (by omega) (by omega) hr ?_ (by rw [hf]; exact hst);rw [show (((Ax a (Ai s a)).toNat:Nat):Int)=Ax a (Ai s a) by omega,length_append,length_singleton];rfl
    | false=>
     rw [hf] at hr hst;dsimp only at hst;have W1:i64.wrap ((s.length:Int)-Ax a (Ai s a))=(s.length:Int)-Ax a (Ai s a):=Av (by omega) (by omega);have W2:i64.wrap (Ax a (Ai s a)+A8 (Ai s a))=Ax a (Ai s a)+A8 (Ai s a):=Av (by omega) (by omega);simp only [W1,W2] at hr;rw [Bool.not_false,Bg] at hr
     by_cases hn:A8 (Ai s a)<=s.length-Ax a (Ai s a)
     ·have hb:Bd s a=((s.drop (Ax a (Ai s a)).toNat).take (A8 (Ai s a)).toNat,Ax a (Ai s a)+A8 (Ai s a),true):=by unfold Bd; dsimp only; rw [if_pos ⟨h3,hn⟩]
      have hd8:(Ax a (Ai s a)+A8 (Ai s a)).toNat-(Ax a (Ai s a)).toNat=(A8 (Ai s a)).toNat:=by omega
      have htl:=VL s a;rw [hb] at hst htl;dsimp only at hst htl;rw [Ae (dcF (by omega)),Ab (by simp only [anE,dcE]; omega),hd8] at hr;generalize (s.drop (Ax a (Ai s a)).toNat).take (A8 (Ai s a)).toNat=dta at hr hst htl;simp only [Ab (show (decide ((0:Int)<=0)&&decide ((0:Int)<(([y]:RL).length:Int)))=true from rfl),Ap,eln] at hr;rw [Ab (dcT ⟨by omega,hf,hy,hcn,hc6⟩)] at hr
      cases hdr:AI y dta 0 with
      | none=>
       rw [hdr] at hr hst;exact bad hr rfl (by rw [hf]; exact hst)
      | some v=>
       have hpt:=Oe hy hf hdr;rw [hdr] at hr hst;rw [hpt,Lz hf] at hr;refine good (Ax a (Ai s a)+A8 (Ai s a)).toNat v (by omega) (by omega) hr ?_ (by rw [hf]; exact hst);rw [show (((Ax a (Ai s a)+A8 (Ai s a)).toNat:Nat):Int)=Ax a (Ai s a)+A8 (Ai s a) by omega,length_append,length_singleton];simp only [BD];rfl
     ·have hb:(Bd s a).2.2=false:=by unfold Bd; dsimp only; rw [if_neg (fun hh=>hn hh.2)]
      rw [hb] at hst;rw [Af (dcT (by omega))] at hr;exact bad hr rfl (by rw [hf]; exact hst)
  ·have hr:=Le n k s y0 y1 y2 y3 y4 [y] vs.length a vs
   try dsimp only [shr] at hr
   rw [Ae (dcF (by omega))] at hr;rw [GA (by omega),S2 (by rfl),show (some ([]:RVL)).getD []=[] from rfl,append_nil] at h;obtain ⟨rfl,rfl⟩:=lfP h;exact stp hr
theorem Ae7 (n k:Nat):Aw prog (Rd k n) (Aa [(8,ptE n)]) 0 (f117.body.getD .skip):=by
 refine As (a:=body f117 0) (by kernel_rfl) fun d ex d' h=>?_
 unfold ptE at h;dsimp only at h;split at h
 ·rename_i s a y0 y1 y2 y3 y4 ys m vs;obtain ⟨hc,hx⟩:=Ad h;obtain ⟨h0,h1,h2,rfl,h3,h4,h5,h6,h7⟩:=of_decide_eq_true hc;obtain ⟨a,rfl⟩:=Int.eq_ofNat_of_zero_le h0
  match ys,h4 with
  | [y],_=>
   have e:Ak [y]=Aj y:=by rw [Ak,Ak]; rfl
   simp only [ntN] at h1 hx;exact Ze n k s y0 y1 y2 y3 y4 y (by simpa using h5) (by omega) (by omega) h2 _ a vs (le_refl _) h1 (by omega) ex d' hx
 ·cases h
theorem Acb (n:Nat) (s:By) (y0:Int) (y1:By) (y2:Int) (y3:Bool) (y4:Int) (ys:RL) (hc:s.length<=400/\fkB (.node (y0,y1,y2,y3,y4,()) ys:Rose Lab)=false/\Ah (.node (y0,y1,y2,y3,y4,()) ys:Rose Lab)=true/\Aj (.node (y0,y1,y2,y3,y4,()) ys:Rose Lab)<=(n+1)/\Aj (.node (y0,y1,y2,y3,y4,()) ys:Rose Lab)<=1000000):Bm prog (Aa [(73,.rd1 (rsN (n+1))),(162,.rd1 VF),(163,.rd1 M0),(64,.rd1 TS),(117,.rd1 (ptN n)),(135,.rd1 Gu),(118,.rd1 L0)]) (Aa [(8,ptE n)]) f117 [.s s,.agg (Lt y0 y1 y2 y3 y4 ys)] []=some (.tup [.agg [.j (BL (.node (y0,y1,y2,y3,y4,()) ys:Rose Lab) s).lab.1,.s (BL (.node (y0,y1,y2,y3,y4,()) ys:Rose Lab) s).lab.2.1,.j (BL (.node (y0,y1,y2,y3,y4,()) ys:Rose Lab) s).lab.2.2.1,.b (BL (.node (y0,y1,y2,y3,y4,()) ys:Rose Lab) s).lab.2.2.2.1,.ref 0 0 (BL (.node (y0,y1,y2,y3,y4,()) ys:Rose Lab) s).kids.length],.b (AI (.node (y0,y1,y2,y3,y4,()) ys:Rose Lab) s 0).isSome],[R0 (.rose VCd) (BL (.node (y0,y1,y2,y3,y4,()) ys:Rose Lab) s).kids]):=by
 obtain ⟨h1,h2,h3,h4,h5⟩:=hc;rw [Zd];have hck:Aj (.node (y0,y1,y2,y3,y4,()) ys:Rose Lab)=Ak ys+1:=AE _
 try dsimp only [shr]
 simp only [A7,nil_append];unfold BL;rcases KX h3 h2 with q | q | q
 ·have q:y0=2:=q;rw [Af (beq_iff_eq.2 q),CP (show ((.node (y0,y1,y2,y3,y4,()) ys:Rose Lab)).lab.1=2 from q),if_pos (show ((.node (y0,y1,y2,y3,y4,()) ys:Rose Lab)).lab.1=2 from q)]
  by_cases q3:s.length<=30
  ·rw [if_pos q3,dcT (by omega)]; rfl
  ·rw [if_neg q3,dcF (by omega)]; rfl
 ·obtain ⟨k1,k2⟩:=BE h3 q;have k1:ys.length=1:=k1;have k2:ys.all Ah=true:=k2;have hq:y0=4:=q;rw [Ae (beq_eq_false_iff_ne.2 (by omega)),Ae (beq_eq_false_iff_ne.2 (by omega)),CQ q,if_neg (show ¬((.node (y0,y1,y2,y3,y4,()) ys:Rose Lab)).lab.1=2 by rw [q]; decide),if_neg (show ¬((.node (y0,y1,y2,y3,y4,()) ys:Rose Lab)).lab.1=5 by rw [q]; decide),Ab (dcT ⟨by omega,by omega,h1,by first | trivial | rfl,by omega,k1,k2,by omega,by omega⟩)];dsimp only [Rose.kids]
  match ys,k1 with
  | [y],_=>
   rw [Dp];show ifB (BC (fkB y) (fun n=>A1 y n 0) (fun d=>AI y d 0) s (s.length-0) 0).isSome _ _=_;dsimp only [hd0];rw [Nat.sub_zero];cases BC (fkB y) (fun n=>A1 y n 0) (fun d=>AI y d 0) s s.length 0<;>rfl
 ·have hq:y0=5:=q;rw [Ae (beq_eq_false_iff_ne.2 (by omega)),Af (beq_iff_eq.2 hq),if_neg (show ¬((.node (y0,y1,y2,y3,y4,()) ys:Rose Lab)).lab.1=2 by rw [q]; decide),if_pos q,Ab (dcT ⟨h1,hq,h3,h4,h5⟩)]
theorem Acc : ∀ n,(∀ m,m<n->Ac prog 117 (Ent.rd1 (ptN m)).F)->Ac prog 117 (Ent.rd1 (ptN n)).F
 | 0,_=>AP fun vs bs=>by
  unfold Ent.F ptN;dsimp only;split
  ·rename_i s y0 y1 y2 y3 y4 ys;have hz:=BN (.node (y0,y1,y2,y3,y4,()) ys:Rose Lab);have:decide (s.length<=400/\fkB (.node (y0,y1,y2,y3,y4,()) ys:Rose Lab)=false/\Ah (.node (y0,y1,y2,y3,y4,()) ys:Rose Lab)=true/\Aj (.node (y0,y1,y2,y3,y4,()) ys:Rose Lab)<=0/\Aj (.node (y0,y1,y2,y3,y4,()) ys:Rose Lab)<=1000000)=false:=dcF (by omega);rw [this]; rfl
  ·rfl
 | n+1,ihs=>by
  have ih:=ihs n (Nat.lt_succ_self n);have hr:=Wh n ih;refine fcC (kc func73 hr (kc func162 tvs (kc func163 Aex (kc func64 sfk (kc func117 ih (kc func135 Th (kc func118 Tf KnowsL.nil))))))).knows (Λ:=(Aa [(8,ptE n)])) func117 fun vs bs r hq=>?_
  unfold Ent.F ptN at hq;dsimp only at hq;split at hq
  ·rename_i s y0 y1 y2 y3 y4 ys;obtain ⟨hc,hx⟩:=Ad hq;exact ⟨Ae7 n (n+1),(Acb n s y0 y1 y2 y3 y4 ys (of_decide_eq_true hc)).trans hx⟩
  ·cases hq
theorem Acd (n:Nat):Ac prog 117 (Ent.rd1 (ptN n)).F:=Nat.strongRecOn n fun n h=>Acc n h
theorem Wi (n:Nat):Ac prog 73 (Ent.rd1 (rsN (n+1))).F:=Wh n (Acd n)
mutual
def wfR:Rose A4->Bool
 | .node x vs=>(x.2.2.2.1||vs.isEmpty)&&wfL vs
def wfL:RVL->Bool
 | []=>true
 | v::vs=>wfR v&&wfL vs
end
mutual
def unR:Rose A4->Rose Lab
 | .node x vs=>.node (bif x.2.2.2.1 then 5 else 1,x.2.1,x.2.2.1,x.2.2.2.1,x.1,()) (unL vs)
def unL:RVL->RL
 | []=>[]
 | v::vs=>unR v::unL vs
end
theorem NQ : ∀ vs:RVL,wfL vs=vs.all wfR
 | []=>by rw [wfL]; rfl
 | v::vs=>by rw [wfL,NQ vs]; rfl
mutual
theorem T6 : ∀ v:Rose A4,cv (unR v)=v
 | .node x vs=>by
  rw [unR,cv,Yj vs];rfl
theorem Yj : ∀ vs:RVL,cvs (unL vs)=vs
 | []=>by rw [unL,cvs]
 | v::vs=>by rw [unL,cvs,T6 v,Yj vs]
end
theorem YB {vs:RVL}:(unL vs).isEmpty=vs.isEmpty:=by cases vs<;>rw [unL]<;>rfl
mutual
theorem Aa7 : ∀ v:Rose A4,wfR v=true->lfR (unR v)=true
 | .node x vs,h=>by
  rw [wfR,anE] at h;rw [unR,lfR,VE vs h.2,YB];obtain ⟨a,b,c,m,⟨⟩⟩:=x;have h1:(m||vs.isEmpty)=true:=h.1;cases m
  ·rw [Bool.false_or] at h1; rw [h1]; rfl
  ·rfl
theorem VE : ∀ vs:RVL,wfL vs=true->lfL (unL vs)=true
 | [],_=>by rw [unL,lfL]
 | v::vs,h=>by
  rw [wfL,anE] at h;rw [unL,lfL,Aa7 v h.1,VE vs h.2]; rfl
end
theorem Abm (v:Rose A4):Aj (unR v)=vcR v:=by
 have:=V0 (unR v);rw [T6] at this;exact this.symm
theorem DC {v:Rose A4} (h:wfR v=true):vtr (Am v (-1) 0) 0=v/\ven (Am v (-1) 0) 0=(Am v (-1) 0).length/\(Am v (-1) 0).length=vcR v:=by
 have hlf:=Aa7 v h;have ht:=KD (unR v) hlf (-1) 0;rw [T6] at ht;have hlen:=Dc (unR v) (-1) 0
 have hoff:WG (AK (unR v) (-1) 0) 0 (0+Aj (unR v)):=fun j _ hu=>by
  have:=Ev hu;omega
 have hk:=MR (AK (unR v) (-1) 0) (unR v) hlf (-1) 0 (L1 _ _ [] rfl) hoff;have hl:=Cn v (-1) 0;unfold vtr ven;rw [<-ht,hk,hl,Abm,zero_add];exact ⟨T6 v,rfl,rfl⟩
theorem IC : ∀ (ks:RL) (fs:List WFd) (vs:RVL),Bf ks fs=some vs->∀ v∈vs,∃ p∈ks,v.lab.2.2.1=p.lab.2.2.1
 | [],fs,vs,h,v,hv=>by rw [Bf] at h; cases h; cases hv
 | p::ks,fs,vs,h,v,hv=>by
  rw [Bv] at h;split at h
  ·split at h
   ·cases h
   ·obtain ⟨q,hq,e⟩:=IC ks fs vs h v hv;exact ⟨q,mem_cons_of_mem _ hq,e⟩
  ·rename_i f hf;have hfn:=List.find?_some hf;have hfn:f.1=p.lab.2.2.1:=by simpa using hfn
   split at h
   ·rename_i w hw;obtain ⟨us,hu,rfl⟩:=map_eq_some_iff.1 h;rcases mem_cons.1 hv with rfl | hv
    ·exact ⟨p,mem_cons_self,(Ej hw).trans hfn⟩
    ·obtain ⟨q,hq,e⟩:=IC ks fs us hu v hv;exact ⟨q,mem_cons_of_mem _ hq,e⟩
   ·cases h
theorem WH {z:Rose Lab} {n no:Int} {v:Rose A4} (_:Ah z=true) (hf:fkB z=true) (h:A1 z n no=some v):sfR v z=true/\wfR v=true:=by
 unfold A1 at h;split at h
 ·rename_i hc;cases h;refine ⟨?_,by rw [wfR,wfL]; rfl⟩;unfold fkB at hf;rw [or_eq_true,beq_iff_eq,beq_iff_eq] at hf;rw [sfR];rcases hf with hf | hf
  ·rw [if_neg (by rw [hf]; simp [Dq,Ar]),if_pos hf];exact hc.1
  ·rw [if_neg (by rw [hf]; simp [Dq,Ar]),if_neg (by omega),if_pos hf];rcases hc.2 with h1 | h1
   ·omega
   ·exact dcT h1
 ·cases h
theorem Ml {num:Bool} {N:Int->Option (Rose A4)} {D:By->Option (Rose A4)} {s:By} (Q:Rose A4->Prop) (hN:num=true->∀ n v,N n=some v->Q v) (hD:num=false->∀ d v,D d=some v->Q v) : ∀ (f a:Nat) (vs:RVL),BC num N D s f a=some vs->∀ v∈vs,Q v
 | 0,a,vs,h,v,hv=>by
  rw [Fb] at h;split at h
  ·cases h
  ·cases h; cases hv
 | f+1,a,vs,h,v,hv=>by
  rw [C5] at h;split at h
  ·cases num with
   | true=>
    dsimp only at h;split at h
    ·rename_i w hw;split at h
     ·obtain ⟨us,hu,rfl⟩:=map_eq_some_iff.1 h;rcases mem_cons.1 hv with rfl | hv
      ·exact hN rfl _ _ hw
      ·exact Ml Q hN hD f _ us hu v hv
     ·cases h
    ·cases h
   | false=>
    dsimp only at h;split at h
    ·split at h
     ·rename_i w hw;obtain ⟨us,hu,rfl⟩:=map_eq_some_iff.1 h;rcases mem_cons.1 hv with rfl | hv
      ·exact hD rfl _ _ hw
      ·exact Ml Q hN hD f _ us hu v hv
     ·cases h
    ·cases h
  ·cases h; cases hv
mutual
theorem Jt : ∀ (z:Rose Lab),Ah z=true->fkB z=false->∀ (s:By) (no:Int) (v:Rose A4),AI z s no=some v->sfR v z=true/\wfR v=true
 | .node x ks,hr,hf,s,no,v,h=>by
  have hp:=Cr hr;simp only [Rose.lab,Rose.kids] at hp;have hkd:=GT (t:=.node x ks) hr;have hbad : ∀ k:Int,k=4\/k=5->¬Dq 0 [] true k=true:=fun k hk=>by rcases hk with rfl | rfl<;>simp [Dq,Ar]
  by_cases h2:x.1=2
  ·rw [AI,if_pos h2] at h;split at h
   ·rename_i hl;cases h;refine ⟨?_,by rw [wfR,wfL]; rfl⟩;have h2':(Rose.node x ks:Rose Lab).lab.1=2:=h2;rw [sfR,h2',if_neg (by simp [Dq,Ar]),if_neg (by omega),if_neg (by omega),if_pos rfl];exact dcT hl
   ·cases h
  ·have hk:=hkd h2 (by rw [hf]; simp);have hk:x.1=4\/x.1=5:=hk
   by_cases h4:x.1=4
   ·rw [AI,if_neg h2,if_pos h4] at h;obtain ⟨vs,hv,rfl⟩:=map_eq_some_iff.1 h;have hl:=BE hr h4;obtain ⟨y,hy⟩:=List.length_eq_one_iff.1 hl.1;have hy:ks=[y]:=hy;have hall:=Aaf ks hl.2 s vs hv;have h4':(Rose.node x ks:Rose Lab).lab.1=4:=h4;refine ⟨?_,by rw [wfR,NQ]; simp only [Bool.true_or,Bool.true_and,all_eq_true]; exact fun v hv=>(hall v hv).2.2⟩;rw [sfR,h4',if_neg (hbad 4 (.inl rfl)),if_neg (by omega),if_neg (by omega),if_neg (by omega),if_pos rfl,GL,all_eq_true];intro v hv;obtain ⟨a1,a2,_⟩:=hall v hv;rw [anE,beq_iff_eq];exact ⟨a1,a2⟩
   ·have h5:x.1=5:=by omega
    rw [AI,if_neg h2,if_neg h4] at h;split at h
    ·rename_i fs _;obtain ⟨vs,hv,rfl⟩:=map_eq_some_iff.1 h;have h5':(Rose.node x ks:Rose Lab).lab.1=5:=h5;have hpw:ks.Pairwise KR:=DM (z:=.node x ks) hr h5';obtain ⟨a1,a2⟩:=OJ ks (BK (z:=.node x ks) hr (by omega)) hpw fs vs hv;refine ⟨?_,by rw [wfR,a2]; rfl⟩;rw [Fi hpw] at a1;rw [sfR,h5',if_neg (hbad 5 (.inr rfl)),if_neg (by omega),if_neg (by omega),if_neg (by omega),if_neg (by omega)];exact a1
    ·cases h
theorem Aaf : ∀ (ks:RL),ks.all Ah=true->∀ (s:By) (vs:RVL),Dp ks s=some vs->∀ v∈vs,v.lab.2.2.1=0/\sfR v (hd0 ks)=true/\wfR v=true
 | [],_,s,vs,h=>by rw [Dp] at h; cases h
 | z::ks,hr,s,vs,h=>by
  rw [all_cons,anE] at hr;rw [Dp] at h;exact Ml (fun v=>v.lab.2.2.1=0/\sfR v (hd0 (z::ks))=true/\wfR v=true) (fun hf n v hv=>⟨NJ hv,WH hr.1 hf hv⟩) (fun hf d v hv=>⟨OL hv,Jt z hr.1 hf d 0 v hv⟩) _ _ vs h
theorem OJ : ∀ (ks:RL),A6 5 ks=true->ks.Pairwise KR->∀ (fs:List WFd) (vs:RVL),Bf ks fs=some vs->BA ks vs=true/\wfL vs=true
 | [],_,_,fs,vs,h=>by
  rw [Bf] at h; cases h;exact ⟨by rw [BA]; rfl,by rw [wfL]⟩
 | p::ks,hr,hpw,fs,vs,h=>by
  rw [A6,anE,anE] at hr;rw [pairwise_cons] at hpw;rw [Bv] at h;split at h
  ·split at h
   ·cases h
   ·rename_i hm;have ih:=OJ ks hr.2 hpw.2 fs vs h;refine ⟨?_,ih.2⟩;have hm:p.lab.2.2.2.1=false:=by simpa using hm
    cases vs with
    | nil=>rw [BA,hm,ih.1]; rfl
    | cons u us=>
     obtain ⟨q,hq,e⟩:=IC ks fs (u::us) h u mem_cons_self;have:=hpw.1 q hq;unfold KR at this;rw [BA,if_neg (by omega),hm,ih.1]; rfl
  ·rename_i f hf;have hfn:=List.find?_some hf;have hfn:f.1=p.lab.2.2.1:=by simpa using hfn
   split at h
   ·rename_i w hw;obtain ⟨us,hu,rfl⟩:=map_eq_some_iff.1 h;have ih:=OJ ks hr.2 hpw.2 fs us hu
    have key:sfR w p=true/\wfR w=true:=by
     unfold Dh at hw;split at hw
     ·rename_i hk;split at hw
      ·rename_i hn;exact WH hr.1.2 (by rw [<-hk]; exact hn) hw
      ·rename_i hn;exact Jt p hr.1.2 (by rw [<-hk]; simpa using hn) _ _ w hw
     ·cases hw
    rw [BA,if_pos ((Ej hw).trans hfn),key.1,ih.1,wfL,key.2,ih.2];exact ⟨rfl,rfl⟩
   ·cases h
end
def dvB (z:Rose Lab) (s:By):Bool:=ED z s&&decide ((IN z s).length<=40)
def dvL (z:Rose Lab) (s:By):List Nd:=bif dvB z s then IN z s else []
def ecL (z:Rose Lab) (l:List Nd):By:=A0 (vtr l 0) z
def ecB (z:Rose Lab) (l:List Nd):Bool:=decide ((ecL z l).length<=400)
def dtB (z:Rose Lab) (s:By):Bool:=dvB z s&&ecB z (dvL z s)
def dtL (z:Rose Lab) (s:By):By:=bif dtB z s then ecL z (dvL z s) else []
def WX:Gm
 | [.tp LCd z 0,.s s],[]=>.need (decide (CJ z=true/\s.length<=4000000000)) (.leaf (.tup [.agg [.ref 0 0 (dvL z s).length],.b (dvB z s)],[R0 NCd (dvL z s)]))
 | _,_=>.no
def To:Gm
 | [.tp LCd z 0,.agg [.sl NCd l]],[]=>.need (decide (Aj z<=1000000/\Ah z=true/\0<l.length/\l.length<=40)&&sfR (vtr l 0) z) (.leaf (.tup [.s (bif ecB z l then ecL z l else []),.b (ecB z l)],[]))
 | _,_=>.no
def Ade:Gm
 | [.tp LCd z 0,.s s],[]=>.need (decide (CJ z=true/\s.length<=4000000000)) (.leaf (.tup [.s (dtL z s),.b (dtB z s)],[]))
 | _,_=>.no
theorem U5 (z:Rose Lab) (s:By):Bm prog (Aa [(33,.rd1 KB)]) (Aa []) f72 [.tp LCd z 0,.s s] [] =
 ((ifT (decide (CJ z=true/\s.length<=4000000000)) (ifB (!ED z s) (some (V.tup [V.agg [V.ref 0 0 0],V.b false],[R0 NCd (Ag
 NCd.den)])) (ifB (decide ((↑(IN z s).length:Int)>(40:Int))) (some (V.tup [V.agg [V.ref 0 0 0],V.b false],[R0 NCd (Ag NCd.den)])) (some
 (V.tup [V.agg [V.ref 0 0 (IN z s).length],V.b true],[R0 NCd (IN z s)]))))):_):=by kernel_rfl
theorem U7 (z:Rose Lab) (l:List Nd):Bm prog (Aa [(88,.rd1 Ael)]) (Aa []) f45 [.tp LCd z 0,.agg [.sl NCd l]] [] =
 ((ifT (decide (Aj z<=1000000/\Ah z=true/\(0:Int)<=(0:Int)/\0<l.length/\l.length<=40)&&sfR (vtr l 0) z) (ifB (decide
 ((↑(A0 (vtr l 0) z).length:Int)>(400:Int))) (some (V.tup [V.s (Ag UInt8),V.b false],[])) (some (V.tup [V.s (A0 (vtr l 0) z),V.b true],
 [])))):_):=by kernel_rfl
theorem Xc (z:Rose Lab) (s:By):Bm prog (Aa [(72,.rd1 WX),(45,.rd1 To)]) (Aa []) f30 [.tp LCd z 0,.s s] [] =
 ((shr (take (dvL z s).length (drop 0 (dvL z s))) fun sh1=>ifT (decide (CJ z=true/\s.length<=4000000000)) (ifB (!dvB z s) (some (V.tup [V.s
 (Ag UInt8),V.b false],[])) (ifT (decide (Aj z<=1000000/\Ah z=true/\0<sh1.length/\sh1.length<=40)&&sfR (vtr sh1 0) z)
 (some (V.tup [V.s (bif ecB z sh1 then ecL z sh1 else Ag UInt8),V.b (ecB z sh1)],[]))))):_):=by kernel_rfl
theorem Ei {z:Rose Lab} (h:CJ z=true):fkB z=false:=by
 unfold fkB; rw [(AZ h).1]; rfl
theorem LS {z:Rose Lab} {s:By}:(dvL z s).length<=40:=by
 unfold dvL dvB;cases h:ED z s&&decide ((IN z s).length<=40)
 ·exact zero_le _
 ·rw [anE] at h;exact of_decide_eq_true h.2
theorem OC {z:Rose Lab} {s:By} (hg:CJ z=true) (h:dvB z s=true):0<(dvL z s).length/\sfR (vtr (dvL z s) 0) z=true/\∃ v,AI z s 0=some v/\wfR v=true/\dvL z s=Am v (-1) 0/\vtr (dvL z s) 0=v:=by
 have h':=h;unfold dvB ED at h';rw [anE,anE] at h';obtain ⟨⟨h1,h2⟩,h3⟩:=h';obtain ⟨g1,g2,g3⟩:=AZ hg
 cases hd:AI z s 0 with
 | none=>rw [hd] at h2; cases h2
 | some v=>
  obtain ⟨a1,a2⟩:=Jt z g2 (Ei hg) s 0 v hd;obtain ⟨b1,b2,b3⟩:=DC a2
  have e:dvL z s=Am v (-1) 0:=by
   unfold dvL IN;rw [h];have hv:ED z s=true:=by unfold ED; rw [h1,hd]; rfl
   rw [hv];unfold Bx;rw [hd]; rfl
  have hk:=DE v;rw [e,b1,b3];exact ⟨by omega,a1,v,rfl,a2,rfl,rfl⟩
theorem Ago:Ac prog 72 (Ent.rd1 WX).F:=by
 refine BY (kc func33 IM KnowsL.nil).knows (Λ:=Aa []) func72 (c:=f72.body.getD .skip) (by kernel_rfl) fun vs bs r hq hv hb=>?_
 unfold Ent.F WX at hq;dsimp only at hq;split at hq
 ·rename_i z s;obtain ⟨hc,hx⟩:=Ad hq;refine ⟨Ao _,(U5 z s).trans (Eq.trans ?_ hx)⟩
  try dsimp only [shr]
  show _=some _;rw [Ab hc];unfold dvL dvB;cases hv:ED z s
  ·rfl
  ·by_cases q:(IN z s).length<=40
   ·rw [Bool.not_true,AR,Ae (dcF (by omega)),dcT q]; rfl
   ·rw [Bool.not_true,AR,Af (dcT (by omega)),dcF q]; rfl
 ·cases hq
theorem Afm:Ac prog 45 (Ent.rd1 To).F:=by
 refine fcC (kc func88 Adg KnowsL.nil).knows (Λ:=Aa []) func45 fun vs bs r hq=>?_
 unfold Ent.F To at hq;dsimp only at hq;split at hq
 ·rename_i z l;obtain ⟨hc,hx⟩:=Ad hq;refine ⟨Ao _,(U7 z l).trans (Eq.trans ?_ hx)⟩
  try dsimp only [shr]
  show _=some _;rw [anE,dcE] at hc;obtain ⟨⟨h1,h2,h3,h4⟩,h5⟩:=hc;rw [Ab (by rw [h5,Bool.and_true]; exact dcT ⟨h1,h2,by omega,h3,h4⟩)];unfold ecB ecL
  by_cases q:(A0 (vtr l 0) z).length<=400
  ·rw [Ae (dcF (by omega)),dcT q]; rfl
  ·rw [Af (dcT (by omega)),dcF q]; rfl
 ·cases hq
theorem kdt:Ac prog 30 (Ent.rd1 Ade).F:=by
 refine BY (kc func72 Ago (kc func45 Afm KnowsL.nil)).knows (Λ:=Aa []) func30 (c:=f30.body.getD .skip) (by kernel_rfl) fun vs bs r hq hv hb=>?_
 unfold Ent.F Ade at hq;dsimp only at hq;split at hq
 ·rename_i z s;obtain ⟨hc,hx⟩:=Ad hq;refine ⟨Ao _,(Xc z s).trans (Eq.trans ?_ hx)⟩
  try dsimp only [shr]
  show _=some _;rw [Ab hc];obtain ⟨hg,hs⟩:=of_decide_eq_true hc;obtain ⟨g1,g2,g3⟩:=AZ hg;rw [drop_zero,take_length];unfold dtL dtB;cases hv:dvB z s
  ·rfl
  ·obtain ⟨d1,d2,_⟩:=OC hg hv;have d3:=LS (z:=z) (s:=s);rw [Bool.not_true,AR,Ab (by rw [d2,Bool.and_true]; exact dcT ⟨by omega,g2,d1,d3⟩),Bool.true_and]
 ·cases hq
def FA (l:List Ty) (s:By):Bool:=decide (s.length<=400)&&Ay l
def DP (l:List Ty) (s:By):Bool:=FA l s&&(AI (t2L l 0) s 0).isSome
def Adh:Gm
 | [.s s,.agg [.sl TCd l]],[]=>.need (decide (l.length<=4000000000)&&nmL l) (.leaf (.tup [.b (DP l s),.b (FA l s)],[]))
 | _,_=>.no
theorem Bz {l:List Ty} (h:Ay l=true):CJ (t2L l 0)=true/\0<l.length/\l.length<=30:=by
 have e:=((K1 l).2 h)
 unfold Ay at h;simp only [anE,dcE,beq_iff_eq] at h;rw [<-e];exact ⟨h.2,by omega,by omega⟩
theorem Xh (s:By) (l:List Ty):AT prog (Aa [(63,.rd1 FX),(39,.rd1 C7),(73,.rd1 (rsN 1000001))]) (Aa []) f36 [.s s,.agg [.sl TCd l]] [] =
 ((ifB (decide ((↑s.length:Int)>(400:Int))) (some (V.tup [V.b false,V.b false],[])) (ifT (decide (l.length<=4000000000)&&nmL l) (ifB (!Ay l) (some
 (V.tup [V.b false,V.b false],[])) (ifT (decide ((0:Int)<=(0:Int)/\0<l.length/\l.length<=4000000000)) (ifT (decide (s.length<=400/\
 (t2L l 0).lab.1=(5:Int)/\Ah (Rose.node ((t2L l 0).lab.1,(t2L l 0).lab.2.1,(t2L l 0).lab.2.2.1,(t2L l (0 :
 Nat)).lab.2.2.2.1,(t2L l 0).lab.2.2.2.2.1,()) (take (t2L l 0).kids.length (drop 0 (t2L l 0).kids)))=true/\
 Aj (Rose.node ((t2L l 0).lab.1,(t2L l 0).lab.2.1,(t2L l 0).lab.2.2.1,(t2L l 0).lab.2.2.2.1,(t2L l (0 :
 Nat)).lab.2.2.2.2.1,()) (take (t2L l 0).kids.length (drop 0 (t2L l 0).kids)))<=1000001/\Aj (Rose.node ((t2L l (0
 : Nat)).lab.1,(t2L l 0).lab.2.1,(t2L l 0).lab.2.2.1,(t2L l 0).lab.2.2.2.1,(t2L l 0).lab.2.2.2.2.1,())
 (take (t2L l 0).kids.length (drop 0 (t2L l 0).kids)))<=1000000)) (some (V.tup [V.b (AI (Rose.node ((t2L l 0).lab.1,
 (t2L l 0).lab.2.1,(t2L l 0).lab.2.2.1,(t2L l 0).lab.2.2.2.1,(t2L l 0).lab.2.2.2.2.1,()) (take (t2L l
 0).kids.length (drop 0 (t2L l 0).kids))) s (0:Int)).isSome,V.b true],[]))))))):_):=by kernel_rfl
theorem Agk:Ac prog 36 (Ent.rd1 Adh).F:=by
 refine fcK (kc func63 KL (kc func39 F5 (kc func73 (Wi 1000000) KnowsL.nil))).knows (Λ:=Aa []) func36 fun vs bs r hq=>?_
 unfold Ent.F Adh at hq;dsimp only at hq;split at hq
 ·rename_i s l;obtain ⟨hc,hx⟩:=Ad hq;rw [anE,dcE] at hc;refine ⟨Ao _,(Xh s l).trans (Eq.trans ?_ hx)⟩
  try dsimp only [shr]
  show _=some _;unfold DP FA;have hn:(decide (l.length<=4000000000)&&nmL l)=true:=by rw [hc.2,dcT hc.1]; rfl
  by_cases q:s.length<=400
  ·rw [Ae (dcF (by omega)),dcT q,Bool.true_and,hn,Cw]
   cases hk:Ay l with
   | false=>rfl
   | true=>
    obtain ⟨h1,h2,h3⟩:=Bz hk;obtain ⟨g1,g2,g3⟩:=AZ h1;rw [Bool.not_true,AR,Ab (dcT ⟨by omega,by omega,hc.1⟩)];simp only [drop_zero,take_length,AG];rw [Ab (dcT ⟨q,g1,g2,by omega,by omega⟩)];rfl
  ·rw [Af (dcT (by omega)),dcF q];rfl
 ·cases hq
def sdB (l:List Ty) (s:By):Bool:=Ay l&&dvB (t2L l 0) s
def sdL (l:List Ty) (s:By):List Nd:=bif sdB l s then dvL (t2L l 0) s else []
def sdG:Gm
 | [.s s,.agg [.sl TCd l]],[]=>.need (decide (l.length<=4000000000)&&nmL l) (.leaf (.tup [.agg [.ref 0 0 (sdL l s).length],.b (sdB l s)],[R0 NCd (sdL l s)]))
 | _,_=>.no
def seB (v:List Nd) (l:List Ty):Bool:=D2 v l&&ecB (t2L l 0) v
def seL (v:List Nd) (l:List Ty):By:=bif seB v l then ecL (t2L l 0) v else []
def seG:Gm
 | [.agg [.sl NCd v],.agg [.sl TCd l]],[]=>.need (decide (l.length<=4000000000)&&nmL l&&decide (v.length<=4000000000)) (.leaf (.tup [.s (seL v l),.b (seB v l)],[]))
 | _,_=>.no
def Do (l:List Ty) (s:By):Bool:=Ay l&&dtB (t2L l 0) s
def Co (l:List Ty) (s:By):By:=bif Do l s then dtL (t2L l 0) s else []
def Wc:Gm
 | [.s s,.agg [.sl TCd l]],[]=>.need (decide (l.length<=4000000000)&&nmL l) (.leaf (.tup [.s (Co l s),.b (Do l s)],[]))
 | _,_=>.no
theorem TX (s:By) (l:List Ty):Bm prog (Aa [(63,.rd1 FX),(39,.rd1 C7),(73,.rd1 (rsN 1000001)),(74,.rd1 ofG)]) (Aa []) f31 [.s s,.agg [.sl TCd l]] [] =
 ((shr (Ag NCd.den) fun sh3=>shr (t2L l 0).lab fun sh2=>shr (Rose.node (sh2.1,sh2.2.1,sh2.2.2.1,sh2.2.2.2.1,sh2.2.2.2.2.1,())
 (take (t2L l 0).kids.length (drop 0 (t2L l 0).kids))) fun sh1=>ifB (decide ((↑s.length:Int)>(400:Int))) (some (V.tup [V.agg
 [V.ref 0 0 0],V.b false],[R0 NCd sh3])) (ifT (decide (l.length<=4000000000)&&nmL l) (ifB (!Ay l) (some (V.tup [V.agg [V.ref 0 0 0],
 V.b false],[R0 NCd sh3])) (ifT (decide ((0:Int)<=(0:Int)/\0<l.length/\l.length<=4000000000)) (ifT (decide (s.length<=
 400/\sh2.1=(5:Int)/\Ah sh1=true/\Aj sh1<=1000001/\Aj sh1<=1000000)) (ifT (decide (vcL (take (Bu sh1 s).kids.length
 (drop 0 (Bu sh1 s).kids))+1<=2000000)) (ifB (!(AI sh1 s (0:Int)).isSome) (some (V.tup [V.agg [V.ref 0 0 0],V.b false],[R0 NCd sh3])) (ifB (decide ((↑(Am (Rose.node ((Bu sh1 s).lab.1,(Bu sh1 s).lab.2.1,(Bu sh1 s).lab.2.2.1,(Bu sh1
 s).lab.2.2.2.1,()) (take (Bu sh1 s).kids.length (drop 0 (Bu sh1 s).kids))) (-1:Int) 0).length:Int)>(40:Int))) (some
 (V.tup [V.agg [V.ref 0 0 0],V.b false],[R0 NCd sh3])) (some (V.tup [V.agg [V.ref 0 0 (Am (Rose.node ((Bu sh1 s).lab.1,(Bu sh1
 s).lab.2.1,(Bu sh1 s).lab.2.2.1,(Bu sh1 s).lab.2.2.2.1,()) (take (Bu sh1 s).kids.length (drop 0 (Bu sh1 s).kids))) (-1
 : Int) 0).length],V.b true],[R0 NCd (Am (Rose.node ((Bu sh1 s).lab.1,(Bu sh1 s).lab.2.1,(Bu sh1 s).lab.2.2.1,
 (Bu sh1 s).lab.2.2.2.1,()) (take (Bu sh1 s).kids.length (drop 0 (Bu sh1 s).kids))) (-1:Int) 0)])))))))))):_):=by kernel_rfl
theorem TU (v:List Nd) (l:List Ty):Bm prog (Aa [(75,.rd1 Rv),(77,.rd1 Ir),(39,.rd1 C7),(76,.rd1 Acy)]) (Aa []) f32 [.agg [.sl NCd v],.agg [.sl TCd l]] [] =
 ((shr (v4L v 0).lab.2 fun sh6=>shr (t2L l 0).lab.2 fun sh5=>shr (take (t2L l 0).kids.length (drop 0 (t2L l (0 :
 Nat)).kids)) fun sh4=>shr (take (v4L v 0).kids.length (drop 0 (v4L v 0).kids)) fun sh3=>shr (Rose.node ((v4L v 0).lab.1,
 sh6.1,sh6.2.1,sh6.2.2.1,()) sh3) fun sh2=>shr (Rose.node ((t2L l 0).lab.1,sh5.1,sh5.2.1,sh5.2.2.1,sh5.2.2.2.1,()) sh4)
 fun sh1=>ifT (decide (l.length<=4000000000)&&nmL l&&decide (v.length<=4000000000)) (ifB (!D2 v l) (some (V.tup [V.s (Ag UInt8),V.b false],
 [])) (ifT (decide ((0:Int)<=(0:Int)/\0<v.length/\v.length<=4000000000)) (ifT (decide ((0:Int)<=(0:Int)/\0<l.length/\l.length<=
 4000000000)) (ifT (decide (Ak sh4+1<=1000000/\Ah sh1=true/\fkB sh1=false/\vcL sh3<=1000/\sfR sh2 sh1=true)) (ifB
 (decide ((↑(A0 sh2 sh1).length:Int)>(400:Int))) (some (V.tup [V.s (Ag UInt8),V.b false],[])) (some (V.tup [V.s (A0 sh2 sh1),V.b true],[])))))))):_):=by kernel_rfl
theorem Wb (s:By) (l:List Ty):Bm prog (Aa [(31,.rd1 sdG),(32,.rd1 seG)]) (Aa []) f7 [.s s,.agg [.sl TCd l]] [] =
 ((shr (take (sdL l s).length (drop 0 (sdL l s))) fun sh1=>ifT (decide (l.length<=4000000000)&&nmL l) (ifB (!sdB l s) (some (V.tup [V.s (Ag
 UInt8),V.b false],[])) (ifT (decide (l.length<=4000000000)&&nmL l&&decide (sh1.length<=4000000000)) (some (V.tup [V.s (seL sh1 l),V.b (seB sh1
 l)],[]))))):_):=by kernel_rfl
theorem Vd {p:Rose Lab} {f:WFd} {v:Rose A4} {C:Nat} (hC:1<=C) (hp:Aj p*401<=C) (hf:f.2.2.2.1.length<=400) (h:Dh p f=some v):vcR v<=C:=by
 unfold Dh at h;split at h
 ·split at h
  ·unfold A1 at h;split at h
   ·cases h; rw [vcR,vcL]; omega
   ·cases h
  ·have:=Et _ _ _ _ h;have h2:Aj p*(f.2.2.2.1.length+1)<=Aj p*401:=Nat.mul_le_mul_left _ (by omega);omega
 ·cases h
theorem Jv {ks:RL} {C:Nat} (hC:1<=C) (hk : ∀ p∈ks,Aj p*401<=C) : ∀ (fs:List WFd) (vs:RVL),(∀ f∈fs,f.2.2.2.1.length<=400)->B7 ks fs=some vs->vcL vs<=fs.length*C
 | [],vs,_,h=>by rw [B7] at h; cases h; rw [vcL]; exact zero_le _
 | f::fs,vs,hf,h=>by
  rw [B7] at h;rw [length_cons,Nat.succ_mul];split at h
  ·rename_i hn;split at h
   ·rename_i v hv;obtain ⟨us,hu,rfl⟩:=map_eq_some_iff.1 h;have h1:=Vd hC (hk _ (FO hn)) (hf f mem_cons_self) hv;have h2:=Jv hC hk fs us (fun g hg=>hf g (mem_cons_of_mem _ hg)) hu;rw [vcL]; omega
   ·cases h
  ·have h2:=Jv hC hk fs vs (fun g hg=>hf g (mem_cons_of_mem _ hg)) h;omega
theorem Za {z:Rose Lab} (hg:CJ z=true) {s:By} (hs:s.length<=400):vcL (Bu z s).kids+1<=2000000:=by
 obtain ⟨g1,g2,g3⟩:=AZ hg;have hck:=AE z;unfold Bu;split
 ·rename_i fs hf;split
  ·rename_i vs hv;show vcL vs+1<=2000000;unfold Df at hf;split at hf
   ·rename_i l hl;split at hf
    ·cases hf;obtain ⟨a1,a2⟩:=PD hl;have:=Jv (C:=12030) (by omega) (fun p hp=>by have:=Bo hp; omega) _ vs (fun f hf=>by have:=(a1 f hf).2; omega) hv;omega
    ·cases hf
   ·cases hf
  ·show vcL []+1<=2000000;rw [vcL]; omega
 ·show vcL []+1<=2000000;rw [vcL]; omega
theorem KC {z:Rose Lab} {s:By} {v:Rose A4} (q:s.length<=400) (hd:AI z s 0=some v):ED z s=true/\IN z s=Am v (-1) 0:=by
 have hv:ED z s=true:=by unfold ED; rw [hd,dcT q]; rfl
 refine ⟨hv,?_⟩;unfold IN Bx;rw [hv,hd]; rfl
theorem Es {v:List Nd} {l:List Ty} (h:D2 v l=true):Ay l=true/\0<v.length/\v.length<=40/\Ord (tys v)/\sfR (v4L v 0) (t2L l 0)=true:=by
 unfold D2 EV at h;simp only [anE,dcE] at h;obtain ⟨h1,⟨h2,h3⟩,h4⟩:=h;exact ⟨h1,by omega,h3.2,((GN (by omega)).1 h2).1,h4⟩
theorem V9 {v:List Nd} (h0:0<v.length) (H:Ord (tys v)):v4L v 0=vtr v 0:=by
 have e:=H.end' (by rw [Bn]; exact h0);unfold vtr;rw [VA _ 0 (le_refl _) h0,e.2]
theorem Rk {v:List Nd} {l:List Ty} (h:D2 v l=true):v4L v 0=vtr v 0:=by
 obtain ⟨_,h0,_,H,_⟩:=Es h;exact V9 h0 H
theorem YQ {l:List Ty} {s:By} (h:sdB l s=true):D2 (sdL l s) l=true:=by
 have h':=h;unfold sdB at h';rw [anE] at h';obtain ⟨hk,hd⟩:=h';have e:sdL l s=dvL (t2L l 0) s:=by unfold sdL; rw [h]; rfl
 have hg:=(Bz hk).1;obtain ⟨d1,d2,v,d3,d4,d5,d6⟩:=OC hg hd;have d7:=LS (z:=t2L l 0) (s:=s);obtain ⟨b1,b2,b3⟩:=DC d4;have hno:=OL d3;rw [e,d5];rw [d5] at d1 d2 d7
 have key:Ba (tys (Am v (-1) 0)) 0=some (-1)/\noN (Am v (-1) 0) 0=some 0:=by
  obtain ⟨⟨x0,x1,x2,x3,⟨⟩⟩,xs⟩:=v;have hno:x2=0:=hno;subst hno;rw [LE]; exact ⟨rfl,rfl⟩
 have H:Ord (tys (Am v (-1) 0)):=DZ (by rw [Bn]; exact d1) key.1 (by rw [Bn]; exact b2);unfold D2 EV;rw [hk,V9 d1 H,d2,(GN d1).2 ⟨H,key.2⟩,dcT (show 1<=(Am v (-1) 0).length/\(Am v (-1) 0).length<=40 from ⟨d1,d7⟩)];rfl
theorem Agm:Ac prog 31 (Ent.rd1 sdG).F:=by
 refine BY (kc func63 KL (kc func39 F5 (kc func73 (Wi 1000000) (kc func74 Acz KnowsL.nil)))).knows (Λ:=Aa []) func31 (c:=f31.body.getD .skip) (by kernel_rfl) fun vs bs r hq hv hb=>?_
 unfold Ent.F sdG at hq;dsimp only at hq;split at hq
 ·rename_i s l;obtain ⟨hc,hx⟩:=Ad hq;refine ⟨Ao _,(TX s l).trans (Eq.trans ?_ hx)⟩
  try dsimp only [shr]
  show _=some _;have hc':=hc;rw [anE,dcE] at hc'
  have no:sdB l s=false->some (V.tup [.agg [.ref 0 0 0],.b false],[R0 NCd (Ag _)])=some (V.tup [.agg [.ref 0 0 (sdL l s).length],.b (sdB l s)],[R0 NCd (sdL l s)]):=fun h=>by
   unfold sdL; rw [h]; rfl
  by_cases q:s.length<=400
  ·rw [Ae (dcF (by omega)),Ab hc];cases hk:Ay l
   ·exact no (by unfold sdB; rw [hk]; rfl)
   ·obtain ⟨h1,h2,h3⟩:=Bz hk;obtain ⟨g1,g2,g3⟩:=AZ h1;rw [Bool.not_true,AR,Ab (dcT ⟨by omega,by omega,hc'.1⟩)];simp only [drop_zero,take_length,AG,BD];rw [Ab (dcT ⟨q,g1,g2,by omega,by omega⟩),Ab (dcT (Za h1 q))]
    cases hd:AI (t2L l 0) s 0 with
    | none=>exact no (by unfold sdB dvB ED; rw [hd]; simp)
    | some v=>
     obtain ⟨a1,a2⟩:=KC q hd;rw [SM g2 g1 hd];have hb:sdB l s=decide ((Am v (-1) 0).length<=40):=by unfold sdB dvB; rw [hk,a1,a2]; rfl
     by_cases q2:(Am v (-1) 0).length<=40
     ·rw [dcT q2] at hb
      have hl:sdL l s=Am v (-1) 0:=by
       unfold sdL dvL;have:dvB (t2L l 0) s=true:=by unfold dvB; rw [a1,a2,dcT q2]; rfl
       rw [hb,this,a2]; rfl
      rw [hl,hb];show ifB (decide (((Am v (-1) 0).length:Int)>40)) _ _=_;rw [Ae (dcF (by omega))]
     ·rw [dcF q2] at hb;show ifB (decide (((Am v (-1) 0).length:Int)>40)) _ _=_;rw [Af (dcT (by omega))];exact no hb
  ·rw [Af (dcT (by omega))];exact no (by unfold sdB dvB ED; rw [dcF q]; simp)
 ·cases hq
theorem Ae2:Ac prog 32 (Ent.rd1 seG).F:=by
 refine BY (kc func75 Abv (kc func77 WS (kc func39 F5 (kc func76 Zr KnowsL.nil)))).knows (Λ:=Aa []) func32 (c:=f32.body.getD .skip) (by kernel_rfl) fun vs bs r hq hv hb=>?_
 unfold Ent.F seG at hq;dsimp only at hq;split at hq
 ·rename_i v l;obtain ⟨hc,hx⟩:=Ad hq;refine ⟨Ao _,(TU v l).trans (Eq.trans ?_ hx)⟩
  try dsimp only [shr]
  show _=some _;have hc':=hc;rw [anE,anE,dcE,dcE] at hc';rw [Ab hc];unfold seL seB;cases hv:D2 v l
  ·rfl
  ·obtain ⟨hk,h0,h40,H,hsf⟩:=Es hv;obtain ⟨k1,k2,k3,k4⟩:=DT hk;have hg:=Ei (Bz hk).1;have h4:=Rk hv;have hcn:=S7 h0;have hvb:=HT h0;have hvk:=DE (vtr v 0);have hck:=AE (t2L l 0);have hg3:=(AZ (Bz hk).1).2.2;rw [Bool.not_true,AR,Ab (dcT ⟨by omega,h0,hc'.2⟩),Ab (dcT ⟨by omega,k1,hc'.1.1⟩)];simp only [drop_zero,take_length,AG,BD];rw [h4] at hsf;rw [h4,Ab (dcT ⟨by omega,k3,hg,by omega,hsf⟩)];unfold ecB ecL
   by_cases q:(A0 (vtr v 0) (t2L l 0)).length<=400
   ·rw [Ae (dcF (by omega)),dcT q]; rfl
   ·rw [Af (dcT (by omega)),dcF q]; rfl
 ·cases hq
theorem sdt:Ac prog 7 (Ent.rd1 Wc).F:=by
 refine fcC (kc func31 Agm (kc func32 Ae2 KnowsL.nil)).knows (Λ:=Aa []) func7 fun vs bs r hq=>?_
 unfold Ent.F Wc at hq;dsimp only at hq;split at hq
 ·rename_i s l;obtain ⟨hc,hx⟩:=Ad hq;refine ⟨Ao _,(Wb s l).trans (Eq.trans ?_ hx)⟩
  try dsimp only [shr]
  show _=some _;rw [Ab hc,drop_zero,take_length];cases hd:sdB l s
  ·have e:Do l s=false:=by
    unfold sdB at hd;unfold Do dtB;cases hk:Ay l
    ·rfl
    ·rw [hk,Bool.true_and] at hd;rw [hd]; rfl
   unfold Co;rw [e]; rfl
  ·have hf:=YQ hd
   have hl:(sdL l s).length<=40:=by
    unfold sdL;rw [hd];exact LS
   rw [Bool.not_true,AR,Ab (by rw [hc,dcT (by omega)]; rfl)];have e:sdL l s=dvL (t2L l 0) s:=by unfold sdL; rw [hd]; rfl
   have e2:seB (sdL l s) l=Do l s:=by
    unfold seB Do dtB;unfold sdB at hd;rw [anE] at hd;rw [hf,hd.1,hd.2,e]; rfl
   have e3:seL (sdL l s) l=Co l s:=by
    unfold seL Co;rw [e2];cases h:Do l s
    ·rfl
    ·have h':=h;unfold Do at h';rw [anE] at h';unfold dtL;rw [h'.2,e]; rfl
   rw [e2,e3]
 ·cases hq
def Jq (o:Cur×By×By×Nat->By×Cur):LoopEnt:=⟨67,[0,1,2,7],[1],[],fun
 | ([.ptr 0 0,.s t,.s w,.j n],[some (.box [.sl (.int .u8) l,.j a,.i .u64 s])])=>.need (decide (0<=n/\n<=3/\(t.length:Int)+n<=2000000/\1<=w.length/\w.length<=100/\(Cur.mk l a s).good (80000000-8*n))) (.leaf (.exit 0,([.s (o (Cur.mk l a s,t,w,n.toNat)).1],[some (cB (o (Cur.mk l a s,t,w,n.toNat)).2)])))
 | _=>.no⟩
def XA (f:(By)->(By)->Cur->(By)×Cur):Gm
 | [.ptr 0 0,.s t,.s w],[.box [.sl (.int .u8) l,.j a,.i .u64 s]]=>.need (decide (t.length<=1000000/\1<=w.length/\w.length<=100/\(Cur.mk l a s).good 70000000)) (.leaf (.s (f t w (Cur.mk l a s)).1,[some (cB (f t w (Cur.mk l a s)).2)]))
 | _,_=>.no
theorem FH (o:Cur×By×By×Nat->By×Cur) (l:List Int) (a s:Int) (t w:By) (n:Int):Au prog (Aa [(90,.own Bp)]) (Aa [(2,Jq o)]) 1 (body f94 0) (Jq o) ([.ptr 0 0,.s t,.s w,.j n],[some (.box [.sl (.int .u8) l,.j a,.i .u64 s])]) =
 ((shr ((Cur.mk l a s).pickC (↑t.length:Int)) fun sh1=>ifB (decide (n>0)) (ifB (decide ((↑t.length:Int)>(0:Int))) (ifT (decide ((Cur.mk l a s).good (900000000 :
 Int))) (ifT (decide (sh1.good (900000000:Int))) (ifT (decide ((0:Int)<=sh1.pickV (↑w.length:Int))) (An w[(sh1.pickV (↑w.length:Int)).toNat]? fun z=>shr
 (take (t.length-((Cur.mk l a s).pickV (↑t.length:Int)).toNat) (drop ((Cur.mk l a s).pickV (↑t.length:Int)).toNat t)) fun sh5=>shr (List.map (fun n=>
 UInt8.ofNat n.toNat) ((↑z.toNat:Int)::Ag (Cd.int .u8).den)) fun sh4=>shr (sh1.pickC (↑w.length:Int)) fun sh3=>shr (take (t.length-(i64.wrap
 ((Cur.mk l a s).pickV (↑t.length:Int)+(1:Int))).toNat) (drop (i64.wrap ((Cur.mk l a s).pickV (↑t.length:Int)+(1:Int))).toNat t)) fun sh2=>shr
 (take (((Cur.mk l a s).pickV (↑t.length:Int)).toNat-0) (drop 0 t)) fun sh1=>ifT (decide (sh3.good (900000000:Int))) (ifB (sh3.pickV (3 :
 Int)==(0:Int)) (ifT (decide ((0:Int)<=(Cur.mk l a s).pickV (↑t.length:Int))&&decide ((Cur.mk l a s).pickV (↑t.length:Int)<=(↑t.length:Int))) (ifT (decide
 (sh1.length+1<=9223372036854775807)) (ifT (decide ((0:Int)<=(Cur.mk l a s).pickV (↑t.length:Int))&&decide ((Cur.mk l a s).pickV (↑t.length :
 Int)<=(↑t.length:Int))) (ifT (decide ((sh1++sh4).length+sh5.length<=9223372036854775807)) (some (Ex.normal,[V.ptr 0 0,V.s (sh1++sh4++sh5),V.s w,
 V.j (i64.wrap (n-1))],[some (Blk.box [V.sl (Cd.int .u8) (sh3.pickC (3:Int)).l,V.j (sh3.pickC (3:Int)).a,V.i .u64 (sh3.pickC (3 :
 Int)).s])])))))) (ifB (sh3.pickV (3:Int)==(1:Int)) (ifT (decide ((0:Int)<=(Cur.mk l a s).pickV (↑t.length:Int))&&decide ((Cur.mk l a s).pickV (↑t.length :
 Int)<=(↑t.length:Int))) (ifT (decide (sh1.length+1<=9223372036854775807)) (ifT (decide (0<=i64.wrap ((Cur.mk l a s).pickV (↑t.length:Int)
 + (1:Int)))&&decide (i64.wrap ((Cur.mk l a s).pickV (↑t.length:Int)+(1:Int))<=(↑t.length:Int))) (ifT (decide ((sh1++sh4).length+sh2.length<=
 9223372036854775807)) (some (Ex.normal,[V.ptr 0 0,V.s (sh1++sh4++sh2),V.s w,V.j (i64.wrap (n-1))],[some (Blk.box [V.sl (Cd.int .u8)
 (sh3.pickC (3:Int)).l,V.j (sh3.pickC (3:Int)).a,V.i .u64 (sh3.pickC (3:Int)).s])])))))) (ifT (decide ((0:Int)<=(Cur.mk l a s).pickV (↑t.length:Int))&&
 decide ((Cur.mk l a s).pickV (↑t.length:Int)<=(↑t.length:Int))) (ifT (decide (0<=i64.wrap ((Cur.mk l a s).pickV (↑t.length:Int)+(1:Int)))&&decide
 (i64.wrap ((Cur.mk l a s).pickV (↑t.length:Int)+(1:Int))<=(↑t.length:Int))) (ifT (decide (sh1.length+sh2.length<=9223372036854775807)) (some
 (Ex.normal,[V.ptr 0 0,V.s (sh1++sh2),V.s w,V.j (i64.wrap (n-1))],[some (Blk.box [V.sl (Cd.int .u8) (sh3.pickC (3:Int)).l,V.j (sh3.pickC (3 :
 Int)).a,V.i .u64 (sh3.pickC (3:Int)).s])]))))))))))) (some (Ex.exit 0,[V.s t],[some (Blk.box [V.sl (Cd.int .u8) l,V.j a,V.i .u64 s])]))) (some (Ex.exit 0,
 [V.s t],[some (Blk.box [V.sl (Cd.int .u8) l,V.j a,V.i .u64 s])]))):_):=by kernel_rfl
theorem QA : ∀ x:Cur×By×By×Nat,(x.2.2.2<=3/\x.2.1.length+x.2.2.2<=2000000/\1<=x.2.2.1.length/\x.2.2.1.length<=100/\x.1.good (80000000-8*(x.2.2.2:Int)))->∃ y:By×Cur,(∀ o,Runs prog (Aa [(90,.own Bp)]) (Aa [(2,Jq o)]) 1 (body f94 0) (Jq o) ((fun x:Cur×By×By×Nat=>(([.ptr 0 0,.s x.2.1,.s x.2.2.1,.j (x.2.2.2:Int)],[some (cB x.1)]):Dt)) x) ((fun y:By×Cur=>(((.exit 0:Ex),([.s y.1],[some (cB y.2)])):Ex×Dt)) y).1 ((fun y:By×Cur=>(((.exit 0:Ex),([.s y.1],[some (cB y.2)])):Ex×Dt)) y).2)/\((∀ m,x.1.good m->m<=80000000-8*(x.2.2.2:Int)->y.2.good (m+8*(x.2.2.2:Int)))/\y.1.length<=x.2.1.length+x.2.2.2):=by
  refine Gy (ι:=Cur×By×By×Nat->By×Cur) (fun _=>([],Cur.mk [] 0 0)) (Λ:=fun o=>(Aa [(2,Jq o)])) (ent:=fun o=>Jq o) (fun x:Cur×By×By×Nat=>(([.ptr 0 0,.s x.2.1,.s x.2.2.1,.j (x.2.2.2:Int)],[some (cB x.1)]):Dt)) (fun y:By×Cur=>(((.exit 0:Ex),([.s y.1],[some (cB y.2)])):Ex×Dt)) (fun y=>by simp) _ _ (fun x=>x.2.2.2) (fun o x _=>(FH o x.1.l x.1.a x.1.s x.2.1 x.2.2.1 (x.2.2.2:Int)).trans (FH _ x.1.l x.1.a x.1.s x.2.1 x.2.2.1 (x.2.2.2:Int)).symm) ?_
  rintro ⟨c,t,w,n⟩ ⟨h1,h2,h3,h4,hc⟩
  dsimp only at h1 h2 h3 h4 hc ⊢;have hM:=mxI
  by_cases h:0<n/\0<t.length
  · right;refine Ex1.of (FH _ c.l c.a c.s t w (n:Int)) ?_
    try dsimp only [shr]
    rw [Af (dcT (by omega)),Af (dcT (by omega))];have g1:(c.pickC (t.length:Int)).good (80000000-8*(n:Int)+2):=Cur.pickC_good hc;have g2:((c.pickC (t.length:Int)).pickC (w.length:Int)).good (80000000-8*(n:Int)+4):=Cur.good_mono (Cur.pickC_good g1) (by omega);have g3:(((c.pickC (t.length:Int)).pickC (w.length:Int)).pickC 3).good (80000000-8*(n:Int)+6):=Cur.good_mono (Cur.pickC_good g2) (by omega);have r1:=Cur.pickV_range (k:=(t.length:Int)) hc (by omega);have r2:=Cur.pickV_range (k:=(w.length:Int)) g1 (by omega);have w1:i64.wrap ((n:Int)-1)=((n-1:Nat):Int):=by rw [Av (by omega) (by omega)]; omega
    have w2:i64.wrap (c.pickV (t.length:Int)+1)=c.pickV (t.length:Int)+1:=Av (by omega) (by omega);have gm : ∀ m,c.good m->m<=80000000-8*(n:Int)->(((c.pickC (t.length:Int)).pickC (w.length:Int)).pickC 3).good (m+6):=fun m hm _=>Cur.good_mono (Cur.pickC_good (Cur.pickC_good (Cur.pickC_good hm))) (by omega)
    simp only [BS,show Cur.mk c.l c.a c.s=c from rfl,A7,w1,w2];refine Ex1.T (dcT (Cur.good_mono hc (by omega))) (Ex1.T (dcT (Cur.good_mono g1 (by omega))) (Ex1.T (by first | exact dcT r2.1 | (simp only [anE,dcE]; exact r2)) (Ex1.S (Abd (by omega)) fun z hz=>?_)));generalize c.pickV (t.length:Int)=k at *;generalize ((c.pickC (t.length:Int)).pickC (w.length:Int))=c2 at *
    have fin : ∀ u:By,u.length<=t.length+1->(u.length+(n-1)<=2000000/\n-1<=3/\(c2.pickC 3).good (80000000-8*((n-1:Nat):Int))/\(∀ y:By×Cur,((∀ m,(c2.pickC 3).good m->m<=80000000-8*((n-1:Nat):Int)->y.2.good (m+8*((n-1:Nat):Int)))/\y.1.length<=u.length+(n-1))->((∀ m,c.good m->m<=80000000-8*(n:Int)->y.2.good (m+8*(n:Int)))/\y.1.length<=t.length+n))):=fun u hu=>by
      refine ⟨by omega,by omega,Cur.good_mono g3 (by omega),fun y hy=>⟨fun m hm hl=>Cur.good_mono (hy.1 (m+6) (gm m hm hl) (by omega)) (by omega),by have:=hy.2; omega⟩⟩
    refine Ex1.T (dcT (Cur.good_mono g2 (by omega))) (Ex1.B (fun _=>?_) (fun _=>Ex1.B (fun _=>?_) (fun _=>?_)))
    all_goals repeat' with_reducible refine Ex1.T ?_ ?_
    all_goals first
      | (simp only [anE,dcE,length_append,List.length_take,List.length_drop,length_map,length_cons,List.length_nil]; omega)
      | (refine Ex1.P3 (c2.pickC 3,_,w,n-1) rfl rfl rfl ?_
         refine (fun q=>⟨⟨q.2.1,q.1,h3,h4,q.2.2.1⟩,by dsimp only; omega,q.2.2.2⟩) (fin _ ?_)
         simp only [length_append,List.length_take,List.length_drop,length_map,length_cons,List.length_nil]; omega)
  · left;refine Ex1.of (FH _ c.l c.a c.s t w (n:Int)) ?_
    try dsimp only [shr]
    have hq:(∀ m,c.good m->m<=80000000-8*(n:Int)->c.good (m+8*(n:Int)))/\t.length<=t.length+n:=⟨fun m hm _=>Cur.good_mono hm (by omega),by omega⟩
    by_cases h0:0<n
    · rw [Af (dcT (by omega)),Ae (dcF (by omega))];exact Ex1.L (t,c) rfl hq
    · rw [Ae (dcF (by omega))];exact Ex1.L (t,c) rfl hq
noncomputable def Hp:Cur×By×By×Nat->By×Cur:=(DF (Y:=By×Cur) ([],Cur.mk [] 0 0) QA).choose
theorem X9 : ∀ x:Cur×By×By×Nat,(x.2.2.2<=3/\x.2.1.length+x.2.2.2<=2000000/\1<=x.2.2.1.length/\x.2.2.1.length<=100/\x.1.good (80000000-8*(x.2.2.2:Int)))->(∀ o,Runs prog (Aa [(90,.own Bp)]) (Aa [(2,Jq o)]) 1 (body f94 0) (Jq o) ((fun x:Cur×By×By×Nat=>(([.ptr 0 0,.s x.2.1,.s x.2.2.1,.j (x.2.2.2:Int)],[some (cB x.1)]):Dt)) x) ((fun y:By×Cur=>(((.exit 0:Ex),([.s y.1],[some (cB y.2)])):Ex×Dt)) (Hp x)).1 ((fun y:By×Cur=>(((.exit 0:Ex),([.s y.1],[some (cB y.2)])):Ex×Dt)) (Hp x)).2)/\((∀ m,x.1.good m->m<=80000000-8*(x.2.2.2:Int)->(Hp x).2.good (m+8*(x.2.2.2:Int)))/\(Hp x).1.length<=x.2.1.length+x.2.2.2):=(DF (Y:=By×Cur) ([],Cur.mk [] 0 0) QA).choose_spec
theorem Adw:Aw prog (Aa [(90,.own Bp)]) (Aa [(2,Jq Hp)]) 1 (f94.body.getD .skip):=by
 refine As (a:=body f94 0) (by kernel_rfl) fun d ex d' h=>?_
 unfold Jq at h;dsimp only at h;split at h
 ·rename_i t w n l a s;obtain ⟨hc,hx⟩:=Ad h;obtain ⟨q1,q2,q3,q4,q5,q6⟩:=of_decide_eq_true hc;obtain ⟨n,rfl⟩:=Int.eq_ofNat_of_zero_le q1;obtain ⟨rfl,rfl⟩:=lfP hx;exact (X9 (Cur.mk l a s,t,w,n) ⟨by dsimp only; omega,by dsimp only; omega,q4,q5,q6⟩).1 Hp
 ·cases h
theorem X8 (o:Cur×By×By×Nat->By×Cur) (t w:By) (l:List Int) (a s:Int):Bm prog (Aa [(90,.own Bp)]) (Aa [(2,Jq o)]) f94 [.ptr 0 0,.s t,.s w] [.box [.sl (.int .u8) l,.j a,.i .u64 s]] =
 ((shr ((Cur.mk l a s).pickC (3:Int)) fun sh2=>shr (o (sh2,t,w,((Cur.mk l a s).pickV (3:Int)).toNat)) fun sh1=>ifT (decide ((Cur.mk l a s).good (900000000:Int)))
 (ifT (decide ((0:Int)<=(Cur.mk l a s).pickV (3:Int)/\(Cur.mk l a s).pickV (3:Int)<=(3:Int)/\(↑t.length:Int)+(Cur.mk l a s).pickV (3:Int)<=(2000000 :
 Int)/\1<=w.length/\w.length<=100/\sh2.good ((80000000:Int)-(8:Int)*(Cur.mk l a s).pickV (3:Int)))) (some (V.s sh1.1,[some (Blk.box [V.sl
 (Cd.int .u8) sh1.2.l,V.j sh1.2.a,V.i .u64 sh1.2.s])])))):_):=by kernel_rfl
theorem Adx (t w:By) (l:List Int) (a s:Int) (hc:t.length<=1000000/\1<=w.length/\w.length<=100/\(Cur.mk l a s).good 70000000):Ex1 (Bm prog (Aa [(90,.own Bp)]) (Aa [(2,Jq Hp)]) f94 [.ptr 0 0,.s t,.s w] [.box [.sl (.int .u8) l,.j a,.i .u64 s]]) (fun y:(By)×Cur=>((.s y.1,[some (cB y.2)]):V×List (Option Blk))) (fun y=>(∀ m,(Cur.mk l a s).good m->m<=70000000->y.2.good (m+26))/\y.1.length<=t.length+3):=by
 refine Ex1.of (X8 Hp t w l a s) ?_;obtain ⟨h1,h2,h3,hc⟩:=hc;have hp:=Cur.pickV_range (k:=3) hc (by omega);have g1:((Cur.mk l a s).pickC 3).good (70000000+2):=Cur.pickC_good hc;have ho:=(X9 ((Cur.mk l a s).pickC 3,t,w,((Cur.mk l a s).pickV 3).toNat) ⟨by dsimp only; omega,by dsimp only; omega,h2,h3,Cur.good_mono g1 (by dsimp only; omega)⟩).2;dsimp only at ho
 try dsimp only [shr]
 simp only [BS];refine Ex1.T (dcT (Cur.good_mono hc (by omega))) (Ex1.T (dcT ⟨by omega,by omega,by omega,h2,h3,Cur.good_mono g1 (by omega)⟩) ?_);have hp2:=hp.2;generalize Hp ((Cur.mk l a s).pickC 3,t,w,((Cur.mk l a s).pickV 3).toNat)=D at *;exact Ex1.c D.1 rfl rfl ⟨fun m hm hl=>Cur.good_mono (ho.1 (m+2) (Cur.pickC_good hm) (by omega)) (by omega),show D.1.length<=t.length+3 by have:=ho.2; omega⟩
theorem OD : ∃ f:(By)->(By)->Cur->(By)×Cur,Ac prog 94 (Ent.own (XA f)).F/\∀ (t w:By) (c:Cur),(t.length<=1000000/\1<=w.length/\w.length<=100/\c.good 70000000)->(∀ m,c.good m->m<=70000000->(f t w c).2.good (m+26))/\(f t w c).1.length<=t.length+3:=by
 have ex:=fun (t w:By) (c:Cur) (hc:t.length<=1000000/\1<=w.length/\w.length<=100/\c.good 70000000)=>Adx t w c.l c.a c.s hc
 classical
 refine ⟨fun t w c=>if h:t.length<=1000000/\1<=w.length/\w.length<=100/\c.good 70000000 then (ex t w c h).choose else ([],c),?_,fun t w c hc=>?_⟩
 rotate_left
 ·simp only [dif_pos hc];exact (ex t w c hc).choose_spec.2
 refine fcC (kc func90 GD KnowsL.nil).knows (Λ:=(Aa [(2,Jq Hp)])) func94 fun vs bs r hq=>?_
 unfold Ent.F XA at hq;dsimp only at hq;split at hq
 ·rename_i t w l a s;obtain ⟨hc,hx⟩:=Ad hq;have hc:=of_decide_eq_true hc;refine ⟨Adw,((ex t w (Cur.mk l a s) hc).choose_spec.1).trans ?_⟩;rw [dif_pos hc] at hx;exact hx
 ·cases hq
noncomputable def NE:(By)->(By)->Cur->(By)×Cur:=OD.choose
theorem ZH:Ac prog 94 (Ent.own (XA NE)).F:=OD.choose_spec.1
theorem Adv : ∀ (t w:By) (c:Cur),(t.length<=1000000/\1<=w.length/\w.length<=100/\c.good 70000000)->(∀ m,c.good m->m<=70000000->(NE t w c).2.good (m+26))/\(NE t w c).1.length<=t.length+3:=OD.choose_spec.2
def Yf (f:(List Ty)->Cur->(By)×Cur):Gm
 | [.ptr 0 0,.agg [.sl TCd v]],[.box [.sl (.int .u8) l,.j a,.i .u64 s]]=>.need (decide (Ay v=true/\nmL v=true/\v.length<=30/\(Cur.mk l a s).good 40000000)) (.leaf (.s (f v (Cur.mk l a s)).1,[some (cB (f v (Cur.mk l a s)).2)]))
 | _,_=>.no
theorem Ab3 (v:List Nd) (l:List Ty):(seL v l).length<=400:=by
 unfold seL;cases h:seB v l
 ·exact zero_le _
 ·unfold seB ecB at h;rw [anE] at h;exact of_decide_eq_true h.2
theorem Ye (g:List Ty->Cur->(List Nd)×Cur) (h:By->By->Cur->By×Cur) (v:List Ty) (l:List Int) (a s:Int):Bm prog (Aa [(112,.mix (X3 g)),(32,.rd1 seG),(67,.own CT),(94,.own (XA h))]) (Aa []) f66 [.ptr 0 0,.agg [.sl TCd v]] [.box [.sl (.int .u8) l,.j a,.i .u64 s]] =
 ((shr ((g v (Cur.mk l a s)).2.pickC (4:Int)) fun sh2=>shr (take (g v (Cur.mk l a s)).1.length (drop 0 (g v (Cur.mk l a s)).1)) fun sh1=>ifT
 (decide (Ay v=true/\nmL v=true/\(Cur.mk l a s).good (50000000:Int))) (ifT (decide (v.length<=4000000000)&&nmL v&&decide (sh1.length<=(4000000000
 : Nat))) (ifT (decide ((g v (Cur.mk l a s)).2.good (900000000:Int))) (ifB ((g v (Cur.mk l a s)).2.pickV (4:Int)==(0:Int)) (ifT (decide ((seL sh1 v).length<=
 1000000/\1<=4/\4<=100/\sh2.good (70000000:Int))) (some (V.s (h (seL sh1 v) [(0:UInt8),(8:UInt8),(18:UInt8),(1 :
 UInt8)] sh2).1,[some (Blk.box [V.sl (Cd.int .u8) (h (seL sh1 v) [(0:UInt8),(8:UInt8),(18:UInt8),(1:UInt8)] sh2).2.l,V.j (h (seL sh1 v) [(0:UInt8),
 (8:UInt8),(18:UInt8),(1:UInt8)] sh2).2.a,V.i .u64 (h (seL sh1 v) [(0:UInt8),(8:UInt8),(18:UInt8),(1:UInt8)] sh2).2.s])]))) (some (V.s (seL sh1 v),
 [some (Blk.box [V.sl (Cd.int .u8) sh2.l,V.j sh2.a,V.i .u64 sh2.s])])))))):_):=by kernel_rfl
theorem Aee (v:List Ty) (l:List Int) (a s:Int) (hc:Ay v=true/\nmL v=true/\v.length<=30/\(Cur.mk l a s).good 40000000):Ex1 (Bm prog (Aa [(112,.mix (X3 G8)),(32,.rd1 seG),(67,.own CT),(94,.own (XA NE))]) (Aa []) f66 [.ptr 0 0,.agg [.sl TCd v]] [.box [.sl (.int .u8) l,.j a,.i .u64 s]]) (fun y:(By)×Cur=>((.s y.1,[some (cB y.2)]):V×List (Option Blk))) (fun y=>(∀ g,(Cur.mk l a s).good g->g<=40000000->y.2.good (g+61000))/\y.1.length<=403):=by
 refine Ex1.of (Ye G8 NE v l a s) ?_;obtain ⟨h1,h2,h3,hc⟩:=hc;obtain ⟨c1,c2,c3⟩:=Ads v (Cur.mk l a s) ⟨h1,h2,Cur.good_mono hc (by omega)⟩;have d1:=c1 _ hc (by omega);have e1:=Cur.pickC_good (k:=4) d1;have hs:=Ab3 (G8 v (Cur.mk l a s)).1 v;obtain ⟨f1,f2⟩:=Adv (seL (G8 v (Cur.mk l a s)).1 v) [0,8,18,1] ((G8 v (Cur.mk l a s)).2.pickC 4) ⟨by omega,by decide,by decide,Cur.good_mono e1 (by omega)⟩
 repeat with_reducible refine Ex1.sh ?_
 try dsimp only [shr]
 simp only [BS,drop_zero,take_length];generalize seL (G8 v (Cur.mk l a s)).1 v=E at *;generalize NE E [0,8,18,1] ((G8 v (Cur.mk l a s)).2.pickC 4)=D at *
 repeat' first
  | with_reducible refine Ex1.B (fun h=>?_) (fun h=>?_)
  | with_reducible refine Ex1.T ?_ ?_
 all_goals try simp only [BS]
 all_goals first
  | exact dcT ⟨h1,h2,Cur.good_mono hc (by omega)⟩
  | (rw [h2,dcT (by omega),dcT (by omega)]; rfl)
  | exact dcT (Cur.good_mono d1 (by omega))
  | exact dcT ⟨by omega,by decide,by decide,Cur.good_mono e1 (by omega)⟩
  | exact dcT ⟨by omega,Cur.good_mono e1 (by omega)⟩
  | exact Ex1.c E rfl rfl ⟨fun g hg hl=>Cur.good_mono (Cur.pickC_good (c1 g hg (by omega))) (by omega),by dsimp only; omega⟩
  | exact Ex1.c D.1 rfl rfl ⟨fun g hg hl=>Cur.good_mono (f1 (g+60002) (Cur.good_mono (Cur.pickC_good (c1 g hg (by omega))) (by omega)) (by omega)) (by omega),by dsimp only; omega⟩
theorem OO : ∃ f:(List Ty)->Cur->(By)×Cur,Ac prog 66 (Ent.mix (Yf f)).F/\∀ (v:List Ty) (c:Cur),(Ay v=true/\nmL v=true/\v.length<=30/\c.good 40000000)->(∀ g,c.good g->g<=40000000->(f v c).2.good (g+61000))/\(f v c).1.length<=403:=by
 have ex:=fun (v:List Ty) (c:Cur) (hc:Ay v=true/\nmL v=true/\v.length<=30/\c.good 40000000)=>Aee v c.l c.a c.s hc
 classical
 refine ⟨fun v c=>if h:Ay v=true/\nmL v=true/\v.length<=30/\c.good 40000000 then (ex v c h).choose else ([],c),?_,fun v c hc=>?_⟩
 rotate_left
 ·simp only [dif_pos hc];exact (ex v c hc).choose_spec.2
 refine fcC (kc func112 ZE (kc func32 Ae2 (kc func67 Sv (kc func94 ZH KnowsL.nil)))).knows (Λ:=(Aa [])) func66 fun vs bs r hq=>?_
 unfold Ent.F Yf at hq;dsimp only at hq;split at hq
 ·rename_i v l a s;obtain ⟨hc,hx⟩:=Ad hq;have hc:=of_decide_eq_true hc;refine ⟨Ao _,((ex v (Cur.mk l a s) hc).choose_spec.1).trans ?_⟩;rw [dif_pos hc] at hx;exact hx
 ·cases hq
noncomputable def NM:(List Ty)->Cur->(By)×Cur:=OO.choose
theorem Aao:Ac prog 66 (Ent.mix (Yf NM)).F:=OO.choose_spec.1
theorem Aed : ∀ (v:List Ty) (c:Cur),(Ay v=true/\nmL v=true/\v.length<=30/\c.good 40000000)->(∀ g,c.good g->g<=40000000->(NM v c).2.good (g+61000))/\(NM v c).1.length<=403:=OO.choose_spec.2
def QJ (f:(List Int)->By×List Ty×Nat×Bool):Gm
 | [.sl (.int .u8) l],[]=>.need (decide ((Cur.mk l 0 0).good 0)) (.leaf (.tup [.s (f l ).1,.agg [.ref 0 0 (f l ).2.2.1]],[some (.row (f l ).2.2.2 none TCd (f l ).2.1)]))
 | _,_=>.no
theorem Vf (f:Cur->(List Ty)×Cur) (g:List Ty->Cur->(By)×Cur) (h:List Ty->Cur->(List Ty×Nat)×Cur) (k:Cur->(List Ty)×Cur) (l:List Int)  : Bm prog (Aa [(65,.own (I7 f)),(66,.mix (Yf g)),(67,.own CT),(68,.mix (Ss h)),(61,.own (Mb k))]) (Aa []) f28 [.sl (.int .u8) l] [] =
 ((shr (Cur.mk l (0:Int) (0:Int)) fun sh3=>shr (f sh3).2 fun sh2=>shr (take (f sh3).1.length (drop 0 (f sh3).1)) fun sh1=>ifT (decide
 (sh3.good (80000000:Int))) (ifT (decide (Ay sh1=true/\nmL sh1=true/\sh1.length<=30/\sh2.good (40000000:Int))) (ifT (decide ((g sh1 sh2).2.good
 (900000000:Int))) (ifB ((g sh1 sh2).2.pickV (3:Int)==(0:Int)) (ifT (decide (Ay sh1=true/\nmL sh1=true/\1<=sh1.length/\sh1.length<=30
 /\ ((g sh1 sh2).2.pickC (3:Int)).good (50000000:Int))) (ifT (decide ((h sh1 ((g sh1 sh2).2.pickC (3:Int))).2.good (900000000:Int))) (ifB ((h sh1 ((g sh1
 sh2).2.pickC (3:Int))).2.pickV (20:Int)==(0:Int)) (ifT (decide (((h sh1 ((g sh1 sh2).2.pickC (3:Int))).2.pickC (20:Int)).good (70000000:Int))) (some
 (V.tup [V.s (g sh1 sh2).1,V.agg [V.ref 0 0 (k ((h sh1 ((g sh1 sh2).2.pickC (3:Int))).2.pickC (20:Int))).1.length]],[R0 TCd (k ((h sh1
 ((g sh1 sh2).2.pickC (3:Int))).2.pickC (20:Int))).1]))) (some (V.tup [V.s (g sh1 sh2).1,V.agg [V.ref 0 0 (h sh1 ((g sh1 sh2).2.pickC (3 :
 Int))).1.2]],[R0 TCd (h sh1 ((g sh1 sh2).2.pickC (3:Int))).1.1]))))) (ifT (decide (((g sh1 sh2).2.pickC (3:Int)).good (900000000 :
 Int))) (ifB (((g sh1 sh2).2.pickC (3:Int)).pickV (20:Int)==(0:Int)) (ifT (decide ((((g sh1 sh2).2.pickC (3:Int)).pickC (20:Int)).good (70000000:Int)))
 (some (V.tup [V.s (g sh1 sh2).1,V.agg [V.ref 0 0 (k (((g sh1 sh2).2.pickC (3:Int)).pickC (20:Int))).1.length]],[R0 TCd (k (((g sh1
 sh2).2.pickC (3:Int)).pickC (20:Int))).1]))) (some (V.tup [V.s (g sh1 sh2).1,V.agg [V.ref 0 0 (f sh3).1.length]],[some (Blk.row true none TCd (f
 sh3).1)])))))))):_):=by kernel_rfl
theorem Aam (l:List Int)  (hc:(Cur.mk l 0 0).good 0):Ex1 (Bm prog (Aa [(65,.own (I7 Ct)),(66,.mix (Yf NM)),(67,.own CT),(68,.mix (Ss Ga)),(61,.own (Mb Fa))]) (Aa []) f28 [.sl (.int .u8) l] []) (fun y:By×List Ty×Nat×Bool=>((.tup [.s y.1,.agg [.ref 0 0 y.2.2.1]],[some (.row y.2.2.2 none TCd y.2.1)]):V×List (Option Blk))) (fun y=>y.1.length<=403/\nmL y.2.1=true/\1<=y.2.2.1/\y.2.2.1<=y.2.1.length/\y.2.1.length<=30):=by
 refine Ex1.of (Vf Ct NM Ga Fa l ) ?_;have h7:=Cur.good_mono hc (show (0:Int)<=80000000 by omega);obtain ⟨a1,a2,a3,a4,a5⟩:=K4 (Cur.mk l 0 0) h7;have b1:=a1 0 hc (by omega);obtain ⟨c1,c2⟩:=Aed (Ct (Cur.mk l 0 0)).1 (Ct (Cur.mk l 0 0)).2 ⟨a2,a3,a5,Cur.good_mono b1 (by omega)⟩;have d1:=c1 _ b1 (by omega)
 repeat with_reducible refine Ex1.sh ?_
 try simp only [drop_zero,take_length]
 generalize NM (Ct (Cur.mk l 0 0)).1 (Ct (Cur.mk l 0 0)).2=B at *;obtain ⟨b,c⟩:=B;dsimp only at *;generalize (Ct (Cur.mk l 0 0)).1=v at *;have d2:=Cur.pickC_good (k:=3) d1;obtain ⟨e1,e2,e3,e4,e5⟩:=Yh v (c.pickC 3) ⟨a2,a3,a4,a5,Cur.good_mono d2 (by omega)⟩;have d3:=e1 _ d2 (by omega);have d4:=Cur.pickC_good (k:=20) d3;have d5:=Cur.pickC_good (k:=20) d2;obtain ⟨_,m1,m2,m3⟩:=OE ((Ga v (c.pickC 3)).2.pickC 20) (Cur.good_mono d4 (by omega));obtain ⟨_,n1,n2,n3⟩:=OE ((c.pickC 3).pickC 20) (Cur.good_mono d5 (by omega))
 repeat' first
  | with_reducible refine Ex1.B (fun h=>?_) (fun h=>?_)
  | with_reducible refine Ex1.T ?_ ?_
 all_goals first
  | exact dcT h7
  | exact dcT ⟨a2,a3,a5,Cur.good_mono b1 (by omega)⟩
  | exact dcT (Cur.good_mono d1 (by omega))
  | exact dcT (Cur.good_mono d2 (by omega))
  | exact dcT (Cur.good_mono d3 (by omega))
  | exact dcT (Cur.good_mono d4 (by omega))
  | exact dcT (Cur.good_mono d5 (by omega))
  | exact dcT ⟨a2,a3,a4,a5,Cur.good_mono d2 (by omega)⟩
  | exact Ex1.P (_,_,_,_) rfl rfl ⟨c2,m1,m2,le_refl _,m3⟩
  | exact Ex1.P (_,_,_,_) rfl rfl ⟨c2,n1,n2,le_refl _,n3⟩
  | exact Ex1.P (_,_,_,_) rfl rfl ⟨c2,e5,e2,e3,e4⟩
  | exact Ex1.P (_,_,_,_) rfl rfl ⟨c2,a3,a4,le_refl _,a5⟩
theorem Mm : ∃ f:(List Int)->By×List Ty×Nat×Bool,Ac prog 28 (Ent.rd1 (QJ f)).F/\∀ (l:List Int) ,((Cur.mk l 0 0).good 0)->(f l ).1.length<=403/\nmL (f l ).2.1=true/\1<=(f l ).2.2.1/\(f l ).2.2.1<=(f l ).2.1.length/\(f l ).2.1.length<=30:=by
 have ex:=fun (l:List Int)  (hc:(Cur.mk l 0 0).good 0)=>Aam l  hc
 classical
 refine ⟨fun l  => if h:(Cur.mk l 0 0).good 0 then (ex l  h).choose else ([],[],0,false),?_,fun l  hc=>?_⟩
 rotate_left
 ·simp only [dif_pos hc];exact (ex l  hc).choose_spec.2
 refine fcC (kc func65 LV (kc func66 Aao (kc func67 Sv (kc func68 T4 (kc func61 QC KnowsL.nil))))).knows (Λ:=(Aa [])) func28 fun vs bs r hq=>?_
 unfold Ent.F QJ at hq;dsimp only at hq;split at hq
 ·rename_i l ;obtain ⟨hc,hx⟩:=Ad hq;have hc:=of_decide_eq_true hc;refine ⟨Ao _,((ex l  hc).choose_spec.1).trans ?_⟩;rw [dif_pos hc] at hx;exact hx
 ·cases hq
noncomputable def FL:(List Int)->By×List Ty×Nat×Bool:=Mm.choose
theorem Yc:Ac prog 28 (Ent.rd1 (QJ FL)).F:=Mm.choose_spec.1
theorem Aal : ∀ (l:List Int) ,((Cur.mk l 0 0).good 0)->(FL l ).1.length<=403/\nmL (FL l ).2.1=true/\1<=(FL l ).2.2.1/\(FL l ).2.2.1<=(FL l ).2.1.length/\(FL l ).2.1.length<=30:=Mm.choose_spec.2
def XN (f:(List Int)->List Ty×Bool×List Ty×Nat):Gm
 | [.sl (.int .u8) l],[]=>.need (decide ((Cur.mk l 0 0).good 0)) (.leaf (.tup [.agg [.ref 0 0 (f l ).1.length],.agg [.ref 1 0 (f l ).2.2.2]],[some (.row (f l ).2.1 none TCd (f l ).1),R0 TCd (f l ).2.2.1]))
 | _,_=>.no
def Vg (f:(List Int)->List Ty×Bool×List Ty×Nat):Gm
 | [.sl (.int .u8) l],[]=>.need (decide ((Cur.mk l 0 0).good 0)) (.leaf (.tup [.agg [.ref 0 0 (f l ).1.length],.agg [.ref 1 0 (f l ).2.2.2]],[some (.row (f l ).2.1 none TCd (f l ).1),R0 TCd (f l ).2.2.1]))
 | _,_=>.no
def Ve (f:(List Int)->By×List Ty×Nat×Bool):Gm
 | [.sl (.int .u8) l],[]=>.need (decide ((Cur.mk l 0 0).good 0)) (.leaf (.tup [.s (f l ).1,.agg [.ref 0 0 (f l ).2.2.1]],[some (.row (f l ).2.2.2 none TCd (f l ).2.1)]))
 | _,_=>.no
theorem XM (k:Cur->(List Ty)×Cur) (h:List Ty->Cur->(List Ty×Nat)×Cur) (f:Cur->(List Ty)×Cur) (l:List Int)  : Bm prog (Aa [(61,.own (Mb k)),(63,.rd1 FX),(67,.own CT),(68,.mix (Ss h)),(65,.own (I7 f))]) (Aa []) f40 [.sl (.int .u8) l] [] =
 ((shr (k (Cur.mk l (0:Int) (0:Int))) fun sh2=>shr (take sh2.1.length (drop 0 sh2.1)) fun sh1=>ifT (decide ((Cur.mk l (0:Int) (0:Int)).good
 (70000000:Int))) (ifT (decide (sh1.length<=4000000000)&&nmL sh1) (ifB (Ay sh1) (ifT (decide (sh2.2.good (900000000:Int))) (ifB (!sh2.2.pickV (3 :
 Int)==(0:Int)) (ifT (decide (Ay sh1=true/\nmL sh1=true/\1<=sh1.length/\sh1.length<=30/\(sh2.2.pickC (3:Int)).good (50000000:Int)))
 (some (V.tup [V.agg [V.ref 0 0 sh2.1.length],V.agg [V.ref 1 0 (h sh1 (sh2.2.pickC (3:Int))).1.2]],[some (Blk.row true none TCd sh2.1),R0 TCd (h sh1 (sh2.2.pickC (3:Int))).1.1]))) (ifT (decide ((sh2.2.pickC (3:Int)).good (80000000:Int))) (some (V.tup [V.agg [V.ref 0 0 sh2.1.length],
 V.agg [V.ref 1 0 (f (sh2.2.pickC (3:Int))).1.length]],[R0 TCd sh2.1,R0 TCd (f (sh2.2.pickC (3:Int))).1])))))
 (ifT (decide (sh2.2.good (80000000:Int))) (some (V.tup [V.agg [V.ref 0 0 sh2.1.length],V.agg [V.ref 1 0 (f sh2.2).1.length]],[R0 TCd
 sh2.1,R0 TCd (f sh2.2).1])))))):_):=by kernel_rfl
theorem Ad5 (l:List Int)  (hc:(Cur.mk l 0 0).good 0):Ex1 (Bm prog (Aa [(61,.own (Mb Fa)),(63,.rd1 FX),(67,.own CT),(68,.mix (Ss Ga)),(65,.own (I7 Ct))]) (Aa []) f40 [.sl (.int .u8) l] []) (fun y:List Ty×Bool×List Ty×Nat=>((.tup [.agg [.ref 0 0 y.1.length],.agg [.ref 1 0 y.2.2.2]],[some (.row y.2.1 none TCd y.1),R0 TCd y.2.2.1]):V×List (Option Blk))) (fun y=>nmL y.1=true/\1<=y.1.length/\y.1.length<=30/\nmL y.2.2.1=true/\1<=y.2.2.2/\y.2.2.2<=y.2.2.1.length/\y.2.2.1.length<=30):=by
 refine Ex1.of (XM Fa Ga Ct l ) ?_;have h7:=Cur.good_mono hc (show (0:Int)<=70000000 by omega);obtain ⟨a1,a2,a3,a4⟩:=OE (Cur.mk l 0 0) h7;have b1:=a1 0 hc (by omega)
 repeat with_reducible refine Ex1.sh ?_
 try simp only [drop_zero,take_length]
 generalize Fa (Cur.mk l 0 0)=B at *;obtain ⟨v,c⟩:=B;dsimp only at *;have d2:=Cur.pickC_good (k:=3) b1;have e0:=Yh v (c.pickC 3);obtain ⟨m0,m4,m1,m2,m3⟩:=K4 c (Cur.good_mono b1 (by omega));obtain ⟨n0,n4,n1,n2,n3⟩:=K4 (c.pickC 3) (Cur.good_mono d2 (by omega));refine Ex1.T (dcT h7) ?_;refine Ex1.T (by rw [a2,dcT (by omega)]; rfl) ?_;refine Ex1.B (fun hk=>?_) (fun hk=>?_)
 ·have e1:=e0 ⟨hk,a2,a3,a4,Cur.good_mono d2 (by omega)⟩;obtain ⟨e1,e2,e3,e4,e5⟩:=e1
  repeat' first
   | with_reducible refine Ex1.B (fun h=>?_) (fun h=>?_)
   | with_reducible refine Ex1.T ?_ ?_
  all_goals first
   | exact dcT (Cur.good_mono b1 (by omega))
   | exact dcT (Cur.good_mono d2 (by omega))
   | exact dcT ⟨hk,a2,a3,a4,Cur.good_mono d2 (by omega)⟩
   | exact Ex1.P (_,_,_,_) rfl rfl ⟨a2,a3,a4,e5,e2,e3,e4⟩
   | exact Ex1.P (_,_,_,_) rfl rfl ⟨a2,a3,a4,n1,n2,le_refl _,n3⟩
 ·repeat' first
   | with_reducible refine Ex1.B (fun h=>?_) (fun h=>?_)
   | with_reducible refine Ex1.T ?_ ?_
  all_goals first
   | exact dcT (Cur.good_mono b1 (by omega))
   | exact dcT (Cur.good_mono d2 (by omega))
   | exact Ex1.P (_,_,_,_) rfl rfl ⟨a2,a3,a4,m1,m2,le_refl _,m3⟩
theorem OF : ∃ f:(List Int)->List Ty×Bool×List Ty×Nat,Ac prog 40 (Ent.rd1 (XN f)).F/\∀ (l:List Int) ,((Cur.mk l 0 0).good 0)->nmL (f l ).1=true/\1<=(f l ).1.length/\(f l ).1.length<=30/\nmL (f l ).2.2.1=true/\1<=(f l ).2.2.2/\(f l ).2.2.2<=(f l ).2.2.1.length/\(f l ).2.2.1.length<=30:=by
 have ex:=fun (l:List Int)  (hc:(Cur.mk l 0 0).good 0)=>Ad5 l  hc
 classical
 refine ⟨fun l  => if h:(Cur.mk l 0 0).good 0 then (ex l  h).choose else ([],false,[],0),?_,fun l  hc=>?_⟩
 rotate_left
 ·simp only [dif_pos hc];exact (ex l  hc).choose_spec.2
 refine fcC (kc func61 QC (kc func63 KL (kc func67 Sv (kc func68 T4 (kc func65 LV KnowsL.nil))))).knows (Λ:=(Aa [])) func40 fun vs bs r hq=>?_
 unfold Ent.F XN at hq;dsimp only at hq;split at hq
 ·rename_i l ;obtain ⟨hc,hx⟩:=Ad hq;have hc:=of_decide_eq_true hc;refine ⟨Ao _,((ex l  hc).choose_spec.1).trans ?_⟩;rw [dif_pos hc] at hx;exact hx
 ·cases hq
noncomputable def G9:(List Int)->List Ty×Bool×List Ty×Nat:=OF.choose
theorem ZX:Ac prog 40 (Ent.rd1 (XN G9)).F:=OF.choose_spec.1
theorem Ad4 : ∀ (l:List Int) ,((Cur.mk l 0 0).good 0)->nmL (G9 l ).1=true/\1<=(G9 l ).1.length/\(G9 l ).1.length<=30/\nmL (G9 l ).2.2.1=true/\1<=(G9 l ).2.2.2/\(G9 l ).2.2.2<=(G9 l ).2.2.1.length/\(G9 l ).2.2.1.length<=30:=OF.choose_spec.2
theorem Yd (f:List Int->List Ty×Bool×List Ty×Nat) (l:List Int)  : Bm prog (Aa [(40,.rd1 (XN f))]) (Aa []) f11 [.sl (.int .u8) l] [] =
 ((ifT (decide ((Cur.mk l (0:Int) (0:Int)).good (0:Int))) (some (V.tup [V.agg [V.ref 0 0 (f l).1.length],V.agg [V.ref 1 0 (f l).2.2.2]],[some (Blk.row (f
 l).2.1 none TCd (f l).1),R0 TCd (f l).2.2.1]))):_):=by kernel_rfl
theorem Aec (l:List Int)  (hc:(Cur.mk l 0 0).good 0):Ex1 (Bm prog (Aa [(40,.rd1 (XN G9))]) (Aa []) f11 [.sl (.int .u8) l] []) (fun y:List Ty×Bool×List Ty×Nat=>((.tup [.agg [.ref 0 0 y.1.length],.agg [.ref 1 0 y.2.2.2]],[some (.row y.2.1 none TCd y.1),R0 TCd y.2.2.1]):V×List (Option Blk))) (fun y=>nmL y.1=true/\1<=y.1.length/\y.1.length<=30/\nmL y.2.2.1=true/\1<=y.2.2.2/\y.2.2.2<=y.2.2.1.length/\y.2.2.1.length<=30):=by
 refine Ex1.of (Yd G9 l ) ?_;obtain ⟨a1,a2,a3,a4,a5,a6,a7⟩:=Ad4 l hc
 repeat with_reducible refine Ex1.sh ?_
 try simp only [A7,drop_zero,take_length,zero_add]
 refine Ex1.T (dcT hc) ?_;exact Ex1.P (_,_,_,_) rfl rfl ⟨a1,a2,a3,a4,a5,a6,a7⟩
theorem ON : ∃ f:(List Int)->List Ty×Bool×List Ty×Nat,Ac prog 11 (Ent.rd1 (Vg f)).F/\∀ (l:List Int) ,((Cur.mk l 0 0).good 0)->nmL (f l ).1=true/\1<=(f l ).1.length/\(f l ).1.length<=30/\nmL (f l ).2.2.1=true/\1<=(f l ).2.2.2/\(f l ).2.2.2<=(f l ).2.2.1.length/\(f l ).2.2.1.length<=30:=by
 have ex:=fun (l:List Int)  (hc:(Cur.mk l 0 0).good 0)=>Aec l  hc
 classical
 refine ⟨fun l  => if h:(Cur.mk l 0 0).good 0 then (ex l  h).choose else ([],false,[],0),?_,fun l  hc=>?_⟩
 rotate_left
 ·simp only [dif_pos hc];exact (ex l  hc).choose_spec.2
 refine fcC (kc func40 ZX KnowsL.nil).knows (Λ:=(Aa [])) func11 fun vs bs r hq=>?_
 unfold Ent.F Vg at hq;dsimp only at hq;split at hq
 ·rename_i l ;obtain ⟨hc,hx⟩:=Ad hq;have hc:=of_decide_eq_true hc;refine ⟨Ao _,((ex l  hc).choose_spec.1).trans ?_⟩;rw [dif_pos hc] at hx;exact hx
 ·cases hq
noncomputable def GB:(List Int)->List Ty×Bool×List Ty×Nat:=ON.choose
theorem Aan:Ac prog 11 (Ent.rd1 (Vg GB)).F:=ON.choose_spec.1
theorem Aeb : ∀ (l:List Int) ,((Cur.mk l 0 0).good 0)->nmL (GB l ).1=true/\1<=(GB l ).1.length/\(GB l ).1.length<=30/\nmL (GB l ).2.2.1=true/\1<=(GB l ).2.2.2/\(GB l ).2.2.2<=(GB l ).2.2.1.length/\(GB l ).2.2.1.length<=30:=ON.choose_spec.2
theorem Yb (f:List Int->By×List Ty×Nat×Bool) (l:List Int)  : Bm prog (Aa [(28,.rd1 (QJ f))]) (Aa []) f5 [.sl (.int .u8) l] [] =
 ((ifT (decide ((Cur.mk l (0:Int) (0:Int)).good (0:Int))) (some (V.tup [V.s (f l).1,V.agg [V.ref 0 0 (f l).2.2.1]],[some (Blk.row (f l).2.2.2 none TCd
 (f l).2.1)]))):_):=by kernel_rfl
theorem Aea (l:List Int)  (hc:(Cur.mk l 0 0).good 0):Ex1 (Bm prog (Aa [(28,.rd1 (QJ FL))]) (Aa []) f5 [.sl (.int .u8) l] []) (fun y:By×List Ty×Nat×Bool=>((.tup [.s y.1,.agg [.ref 0 0 y.2.2.1]],[some (.row y.2.2.2 none TCd y.2.1)]):V×List (Option Blk))) (fun y=>y.1.length<=403/\nmL y.2.1=true/\1<=y.2.2.1/\y.2.2.1<=y.2.1.length/\y.2.1.length<=30):=by
 refine Ex1.of (Yb FL l ) ?_;obtain ⟨a1,a2,a3,a4,a5⟩:=Aal l hc
 repeat with_reducible refine Ex1.sh ?_
 try simp only [A7,drop_zero,take_length,zero_add]
 refine Ex1.T (dcT hc) ?_;exact Ex1.P (_,_,_,_) rfl rfl ⟨a1,a2,a3,a4,a5⟩
theorem OM : ∃ f:(List Int)->By×List Ty×Nat×Bool,Ac prog 5 (Ent.rd1 (Ve f)).F/\∀ (l:List Int) ,((Cur.mk l 0 0).good 0)->(f l ).1.length<=403/\nmL (f l ).2.1=true/\1<=(f l ).2.2.1/\(f l ).2.2.1<=(f l ).2.1.length/\(f l ).2.1.length<=30:=by
 have ex:=fun (l:List Int)  (hc:(Cur.mk l 0 0).good 0)=>Aea l  hc
 classical
 refine ⟨fun l  => if h:(Cur.mk l 0 0).good 0 then (ex l  h).choose else ([],[],0,false),?_,fun l  hc=>?_⟩
 rotate_left
 ·simp only [dif_pos hc];exact (ex l  hc).choose_spec.2
 refine fcC (kc func28 Yc KnowsL.nil).knows (Λ:=(Aa [])) func5 fun vs bs r hq=>?_
 unfold Ent.F Ve at hq;dsimp only at hq;split at hq
 ·rename_i l ;obtain ⟨hc,hx⟩:=Ad hq;have hc:=of_decide_eq_true hc;refine ⟨Ao _,((ex l  hc).choose_spec.1).trans ?_⟩;rw [dif_pos hc] at hx;exact hx
 ·cases hq
noncomputable def IE:(List Int)->By×List Ty×Nat×Bool:=OM.choose
theorem Aak:Ac prog 5 (Ent.rd1 (Ve IE)).F:=OM.choose_spec.1
theorem Ad9 : ∀ (l:List Int) ,((Cur.mk l 0 0).good 0)->(IE l ).1.length<=403/\nmL (IE l ).2.1=true/\1<=(IE l ).2.2.1/\(IE l ).2.2.1<=(IE l ).2.1.length/\(IE l ).2.1.length<=30:=OM.choose_spec.2
def ivG:Gm
 | [.s s,.agg [.sl TCd l]],[]=>.need (decide (l.length<=4000000000)&&(nmL l&&decide (s.length<=4000000000))) (.leaf (.tup [.b (DP l s),.b (FA l s)],[]))
 | _,_=>.no
theorem UF (v:List Nd) (l:List Ty):Bm prog (Aa [(29,.rd1 Eg),(44,.rd1 RZ),(45,.rd1 To)]) (Aa []) f15 [.agg [.sl NCd v],.agg [.sl TCd l]] [] =
 ((shr (kf l 0).1 fun sh3=>shr sh3.lab.2 fun sh2=>shr (Rose.node (sh3.lab.1,sh2.1,sh2.2.1,sh2.2.2.1,sh2.2.2.2.1,()) (take
 sh3.kids.length (drop 0 sh3.kids))) fun sh1=>ifT (decide (l.length<=4000000000)&&nmL l) (ifB (Ay l) (ifT (decide (Aj sh1<=1000000
 /\ Ah sh1=true)) (ifB (!Fs sh1 v) (some (V.tup [V.s (Ag UInt8),V.b false],[])) (ifT (decide (Aj sh1<=1000000/\Ah sh1=true/\0 <
 v.length/\v.length<=40)&&sfR (vtr v 0) sh1) (some (V.tup [V.s (bif ecB sh1 v then ecL sh1 v else Ag UInt8),V.b (ecB sh1 v)],[]))))) (some (V.tup
 [V.s (Ag UInt8),V.b false],[])))):_):=by kernel_rfl
theorem Xk (s:By) (l:List Ty):Bm prog (Aa [(29,.rd1 Eg),(33,.rd1 KB)]) (Aa []) f16 [.s s,.agg [.sl TCd l]] [] =
 ((shr (kf l 0).1 fun sh3=>shr sh3.lab.2 fun sh2=>shr (Rose.node (sh3.lab.1,sh2.1,sh2.2.1,sh2.2.2.1,sh2.2.2.2.1,()) (take
 sh3.kids.length (drop 0 sh3.kids))) fun sh1=>ifT (decide (l.length<=4000000000)&&nmL l) (ifB (Ay l) (ifB (decide ((↑s.length:Int)>(400 :
 Int))) (some (V.tup [V.b false,V.b false],[])) (ifT (decide (CJ sh1=true/\s.length<=4000000000)) (some (V.tup [V.b (ED sh1 s),V.b true],[])))) (some
 (V.tup [V.b false,V.b false],[])))):_):=by kernel_rfl
theorem Agt:Ac prog 15 (Ent.rd1 seG).F:=by
 refine BY (kc func29 Jg (kc func44 Afj (kc func45 Afm KnowsL.nil))).knows (Λ:=Aa []) func15 (c:=f15.body.getD .skip) (by kernel_rfl) fun vs bs r hq hv hb=>?_
 unfold Ent.F seG at hq;dsimp only at hq;split at hq
 ·rename_i v l;obtain ⟨hc,hx⟩:=Ad hq;refine ⟨Ao _,(UF v l).trans (Eq.trans ?_ hx)⟩
  try dsimp only [shr]
  show _=some _;have hc':=hc;rw [anE,anE,dcE,dcE] at hc';rw [show (decide (l.length<=4000000000)&&nmL l)=true by rw [anE]; exact ⟨dcT hc'.1.1,hc'.1.2⟩,Cw];simp only [AG,drop_zero,take_length];unfold seL seB;rw [<-K3];unfold LH
  cases hk:Ay l with
  | false=>rfl
  | true=>
   obtain ⟨k1,k2,k3,k4⟩:=DT hk;rw [k4,Bg,Ab (dcT ⟨k2,k3⟩)]
   cases hf:Fs (t2L l 0) v with
   | false=>rfl
   | true=>
    have hv:D2 v l=true:=by rw [<-K3]; unfold LH; rw [hk,k4,hf]; rfl
    obtain ⟨_,h0,h40,H,hsf⟩:=Es hv;rw [Rk hv] at hsf;rw [Bool.not_true,AR,Ab (by rw [hsf,Bool.and_true]; exact dcT ⟨k2,k3,h0,h40⟩)];rfl
 ·cases hq
theorem iiv:Ac prog 16 (Ent.rd1 ivG).F:=by
 refine fcC (kc func29 Jg (kc func33 IM KnowsL.nil)).knows (Λ:=Aa []) func16 fun vs bs r hq=>?_
 unfold Ent.F ivG at hq;dsimp only at hq;split at hq
 ·rename_i s l;obtain ⟨hc,hx⟩:=Ad hq;refine ⟨Ao _,(Xk s l).trans (Eq.trans ?_ hx)⟩
  try dsimp only [shr]
  show _=some _;have hc':=hc;rw [anE,anE,dcE,dcE] at hc';rw [show (decide (l.length<=4000000000)&&nmL l)=true by rw [anE]; exact ⟨dcT hc'.1,hc'.2.1⟩,Cw];simp only [AG,drop_zero,take_length];unfold DP FA
  cases hk:Ay l with
  | false=>rw [Bool.and_false]; rfl
  | true=>
   rw [(DT hk).2.2.2,Bg]
   by_cases q:s.length<=400
   ·rw [Ae (dcF (by omega)),Ab (dcT ⟨(Bz hk).1,hc'.2.2⟩),dcT q];unfold ED;rw [dcT q];rfl
   ·rw [Af (dcT (by omega)),dcF q]; rfl
 ·cases hq
def Xn:Gm
 | [.s s,.agg [.sl TCd l]],[]=>.need (decide (l.length<=4000000000)&&(nmL l&&decide (s.length<=4000000000))) (.leaf (.tup [.s (Co l s),.b (Do l s)],[]))
 | _,_=>.no
theorem Xm (s:By) (l:List Ty):Bm prog (Aa [(29,.rd1 Eg),(30,.rd1 Ade)]) (Aa []) f6 [.s s,.agg [.sl TCd l]] [] =
 ((shr (kf l 0).1 fun sh3=>shr sh3.lab.2 fun sh2=>shr (Rose.node (sh3.lab.1,sh2.1,sh2.2.1,sh2.2.2.1,sh2.2.2.2.1,()) (take
 sh3.kids.length (drop 0 sh3.kids))) fun sh1=>ifT (decide (l.length<=4000000000)&&nmL l) (ifB (Ay l) (ifT (decide (CJ sh1=true/\s.length
 <= 4000000000)) (some (V.tup [V.s (dtL sh1 s),V.b (dtB sh1 s)],[]))) (some (V.tup [V.s (Ag UInt8),V.b false],[])))):_):=by kernel_rfl
theorem idt:Ac prog 6 (Ent.rd1 Xn).F:=by
 refine fcC (kc func29 Jg (kc func30 kdt KnowsL.nil)).knows (Λ:=Aa []) func6 fun vs bs r hq=>?_
 unfold Ent.F Xn at hq;dsimp only at hq;split at hq
 ·rename_i s l;obtain ⟨hc,hx⟩:=Ad hq;refine ⟨Ao _,(Xm s l).trans (Eq.trans ?_ hx)⟩
  try dsimp only [shr]
  show _=some _;have hc':=hc;rw [anE,anE,dcE,dcE] at hc';rw [show (decide (l.length<=4000000000)&&nmL l)=true by rw [anE]; exact ⟨dcT hc'.1,hc'.2.1⟩,Cw];simp only [AG,drop_zero,take_length];unfold Co Do
  cases hk:Ay l with
  | false=>rfl
  | true=>
   rw [(DT hk).2.2.2,Bg,Ab (dcT ⟨(Bz hk).1,hc'.2.2⟩),Bool.true_and];unfold dtL;cases hd:dtB (t2L l 0) s<;>rfl
 ·cases hq

def VS (r:V) (outs:List (Option Blk)):Option (V×List (Option Blk)):=
 match (match r with
  | .tup vs=>(D7 (EI (fun j=>(outs[j]?).join) true 5) vs).map fun p=>V.tup p.1
  | v=>(EI (fun j=>(outs[j]?).join) true 5 v).map fun p=>p.1) with
 | some v=>some (C4 (fun _=>none) 6 v,[])
 | none=>none
theorem Us {w w':World} {R R':Nat->Prop} {μ μ':Nat->Option RB} {bl:Nat->Option Blk} {r v:V} {outs:List (Option Blk)} {u:Value} (h:Left w R μ bl r outs u w' R' μ') (hm : ∀ j,μ j=none) {ids:List Nat} (hl : ∀ id∈ids,JR (fun j=>(outs[j]?).join) id)
  (hv : ∀ R1:Nat->Prop,(∀ x,R' x->R1 x)->(∀ id∈ids,Ht w' μ' (fun j=>(outs[j]?).join) R1 id)->VRep w' R1 μ' v u) :
  ∃ R1,Left w R μ bl (C4 (fun _=>none) 6 v) [] u w' R1 (fun _=>none):=by
 have hs:SimAt ⟨w,Gb w bl μ,R,μ,Was w bl μ⟩ R' μ' [] (fun j=>(outs[j]?).join) (fun _=>False) { tmps:=#[],defers:=[] } w':=
  ⟨h.mem,rfl,fun t v u h1 _=>by simp at h1,rfl,fun _ h=>h.elim,h.os,h.tape,h.output,h.grow,fun k h1 h2=>h.same k h1 h2,h.ownT,h.allT,h.r0,h.rT,h.ext⟩
 obtain ⟨R1,g1,g2,g3⟩:=Du (fun j=>(outs[j]?).join) ids R' _ hs (fun id ro nl c l _ hb=>⟨ro,hb⟩) (fun id cs _ hb=>.inl hb) (fun id c l op hi hb=>by
  rcases hl id hi with ⟨ro,nl,c2,l2,hb2⟩ | ⟨cs,hb2⟩ | ⟨c2,l2,hb2⟩
  ·cases hb.symm.trans hb2
  ·cases hb.symm.trans hb2
  ·cases hb.symm.trans hb2; exact ⟨rfl,.inl hb⟩)
 have hval:=hv R1 g2 (fun id hi=>g3 id hi (fun kc vc l e=>by
  rcases hl id hi with ⟨ro,nl,c2,l2,hb2⟩ | ⟨cs,hb2⟩ | ⟨c2,l2,hb2⟩<;>cases e.symm.trans hb2))
 have no : ∀ j:Nat,(([]:List (Option Blk))[j]?).join=none:=fun j=>by simp
 refine ⟨R1,⟨CN (fun id j rb e _=>by cases e) 6 v u hval,⟨fun id B hB=>?_,fun id id' B B' rb rb' x h1=>?_,fun id B rb x h1=>?_,g1.mem.rlt⟩,h.os,h.tape,h.output,h.grow,h.same,fun x hx=>g1.r0 x hx,fun x hx=>g1.rT x hx,fun j B rb x h1=>?_,fun j B rb x h1=>?_,fun j rb hj=>?_,fun _ _=>rfl⟩⟩
 ·rw [no] at hB; cases hB
 ·rw [no] at h1; cases h1
 ·rw [no] at h1; cases h1
 ·rw [no] at h1; cases h1
 ·rw [no] at h1; cases h1
 ·rw [hm] at hj; cases hj
theorem MG {P:Program} {K:FuncId} {F F':List V->List Blk->Option (V×List (Option Blk))} (h:Ac P K F) (hF : ∀ vs bs r,F' vs bs=some r->bs=[]/\∃ p,F vs []=some p/\VS p.1 p.2=some r):Ac P K F':=by
 intro w R μ vs us bs r outs hm hn hr hF1;obtain ⟨rfl,⟨r0,outs0⟩,h1,h2⟩:=hF vs bs _ hF1;refine (h w R μ vs us [] r0 outs0 hm hn hr h1).mono fun e w' ⟨u,R',μ',he,hl⟩=>?_
 unfold VS at h2;dsimp only at h2
 have key : ∀ (v:V) (ids:List Nat),(∀ id∈ids,JR (fun j=>(outs0[j]?).join) id)->(∀ R1:Nat->Prop,(∀ x,R' x->R1 x)->(∀ id∈ids,Ht w' μ' (fun j=>(outs0[j]?).join) R1 id)->VRep w' R1 μ' v u)->some (C4 (fun _=>none) 6 v,([]:List (Option Blk)))=some (r,outs)->∃ u R' μ',e = .returned u/\Left w R μ (fun j=>([]:List Blk)[j]?) r outs u w' R' μ':=fun v ids a1 a2 a3=>by
  obtain ⟨R1,g⟩:=Us hl (fun j=>hn j (zero_le _)) a1 a2;simp only [Option.some.injEq,Prod.mk.injEq] at a3;obtain ⟨rfl,rfl⟩:=a3;exact ⟨u,R1,_,he,g⟩
 clear hF1;split at h2
 ·rename_i v hv;split at hv
  ·rename_i vs0 _;obtain ⟨⟨l,ids⟩,k1,k2⟩:=map_eq_some_iff.1 hv;dsimp only at k2;subst k2;refine key _ ids (FV vs0 l ids k1) (fun R1 b1 b2=>?_) h2;have hval:=hl.val
   cases hval with
   | tup _ us' c1 c2=>
   have:=CG (w:=w') (R:=R') (R':=R1) (μ:=μ') (fun v v' ids u hv hf hi=>DJ hl.mem b1 5 v v' ids u hv hf hi) vs0 l ids us'.toList ⟨by simp [c1],fun j v u hv hu=>c2 j v u hv (by simpa using hu)⟩ k1 b2;exact .tup l us' (by have:=this.1; simpa using this) (fun j v u hv hu=>this.2 j v u hv (by simpa using hu))
  ·obtain ⟨⟨v1,ids⟩,k1,k2⟩:=map_eq_some_iff.1 hv;dsimp only at k2;subst k2;exact key _ ids (DX 5 r0 v1 ids k1) (fun R1 b1 b2=>DJ hl.mem b1 5 r0 v1 ids u hl.val k1 b2) h2
 ·cases h2
def RW:Gm
 | [.agg [.sl TCd l]],[]=>.need (decide (l.length<=4000000000)&&nmL l) (.br (Ay l) (.leaf (.tp LCd (kf l 0).1 0,[])) (.leaf (.np,[])))
 | _,_=>.no
theorem TN (a:Int) (b:By) (c:Int) (d:Bool) (e:Int) (ks:RL):VS (.ptr 0 0) [some (.box [.j a,.s b,.j c,.b d,.j e,.ref 1 0 ks.length]),R0 (.tree LCd) ks]=some (.tp LCd (.node (a,b,c,d,e,()) ((ks.drop 0).take ks.length)) 0,[]):=by kernel_rfl
theorem Afh:Ac prog 29 (Ent.rd1 RW).F:=by
 refine MG Jg fun vs bs r hq=>?_
 unfold Ent.F RW at hq;dsimp only at hq;split at hq
 ·rename_i l;obtain ⟨hc,hx⟩:=Ad hq;refine ⟨rfl,?_⟩;unfold Ent.F Eg;dsimp only;rw [hc]
  cases hk:Ay l with
  | true=>
   rw [hk] at hx;refine ⟨_,rfl,?_⟩;dsimp only;generalize (kf l 0).1=z at *;obtain ⟨⟨a,b,c,d,e,⟨⟩⟩,ks⟩:=z;refine (TN a b c d e ks).trans ?_;rw [drop_zero,take_length];exact hx
  | false=>
   rw [hk] at hx;refine ⟨_,rfl,?_⟩;exact hx
 ·cases hq

theorem YC {g:Nat} {b:UInt8} {l:By} {i n:Nat}:tv (g+1) (b::l) i n=if b.toNat<128 then some (n+b.toNat % 128*2 ^ (7*i),i+1,decide (n+b.toNat % 128*2 ^ (7*i)<=2000000001)&&(decide (0<b.toNat)||decide (i=0))) else tv g l (i+1) (n+b.toNat % 128*2 ^ (7*i)):=rfl
theorem VG : ∀ (f g n i acc:Nat) (post:By),n<128 ^ (f+1)->(Bs f n).1.length<g->(0<n\/i=0)->
  tv g ((Bs f n).1++UInt8.ofNat (Bs f n).2::post) i acc=some (acc+n*2 ^ (7*i),i+(Bs f n).1.length+1,decide (acc+n*2 ^ (7*i)<=2000000001))
 | 0,g,n,i,acc,post,h,hg,h0=>by
  have h:n<128:=by simpa using h
  obtain ⟨g,rfl⟩ : ∃ k,g=k+1:=⟨g-1,by omega⟩
  have hb:(UInt8.ofNat n).toNat=n:=by rw [UInt8.toNat_ofNat']; omega
  rw [Bs,nil_append,YC,hb,if_pos h,Nat.mod_eq_of_lt h];have:(decide (0<n)||decide (i=0))=true:=by simpa using h0
  rw [this,Bool.and_true]; rfl
 | f+1,g,n,i,acc,post,h,hg,h0=>by
  by_cases q:128<=n
  ·rw [DV q] at hg ⊢;dsimp only at hg ⊢;rw [length_cons] at hg;obtain ⟨g,rfl⟩ : ∃ k,g=k+1:=⟨g-1,by omega⟩
   have hb:(UInt8.ofNat (n % 128+128)).toNat=n % 128+128:=by rw [UInt8.toNat_ofNat']; omega
   rw [cons_append,YC,hb,if_neg (by omega),show (n % 128+128) % 128=n % 128 by omega];rw [Nat.pow_succ] at h;rw [VG f g (n / 128) (i+1) _ post (Nat.div_lt_of_lt_mul (by omega)) (by omega) (.inl (by omega))]
   have e:acc+n % 128*2 ^ (7*i)+n / 128*2 ^ (7*(i+1))=acc+n*2 ^ (7*i):=by
    have e1:2 ^ (7*(i+1))=128*2 ^ (7*i):=by rw [Nat.mul_add,Nat.pow_add]; omega
    have e2:n*2 ^ (7*i)=(n % 128)*2 ^ (7*i)+(n / 128)*(128*2 ^ (7*i)):=by
     rw [<-Nat.mul_assoc,<-Nat.add_mul]; congr 1; omega
    rw [e1,e2]; omega
   rw [e,length_cons];congr 3;omega
  ·have h:n<128:=by omega
   rw [CX h] at hg ⊢;obtain ⟨g,rfl⟩ : ∃ k,g=k+1:=⟨g-1,by omega⟩
   have hb:(UInt8.ofNat n).toNat=n:=by rw [UInt8.toNat_ofNat']; omega
   rw [nil_append,YC,hb,if_pos h,Nat.mod_eq_of_lt h];have:(decide (0<n)||decide (i=0))=true:=by simpa using h0
   rw [this,Bool.and_true]; rfl
theorem Hv : ∀ (f k n:Nat),n<128 ^ (f+1)->Bs (f+k) n=Bs f n
 | 0,k,n,h=>by
  rw [CX (by simpa using h),CX (by simpa using h)]
 | f+1,k,n,h=>by
  by_cases q:128<=n
  ·rw [show f+1+k=f+k+1 by omega,DV q,DV q];rw [Nat.pow_succ] at h;rw [Hv f k (n / 128) (Nat.div_lt_of_lt_mul (by omega))]
  ·rw [CX (by omega),CX (by omega)]
theorem p5 {n:Nat} (h:n<=2000000001):n<128 ^ (4+1):=by
 have:(128:Nat) ^ (4+1)=34359738368:=by decide
 omega
theorem TC {n:Nat} (h:n<=2000000001):vbs n=(Bs 4 n).1++[UInt8.ofNat (Bs 4 n).2]:=by
 unfold vbs;rw [show 10=4+6 from rfl,Hv 4 6 n (p5 h)]
theorem Fd {n:Nat} (h:n<=2000000001) (pre post:By):Ai (pre++(vbs n++post)) pre.length=some (n,(vbs n).length,true):=by
 have hp:=Ie 4 n;unfold Ai;rw [List.drop_left,TC h,append_assoc,List.singleton_append,VG 4 5 n 0 0 post (p5 h) (by omega) (.inr rfl),Nat.mul_zero,Nat.pow_zero,Nat.mul_one,zero_add,dcT h,length_append,length_singleton,zero_add]
theorem NT {n:Int}:unf (fol n)=n:=by
 unfold unf fol;split<;>split<;>omega
theorem YI {s:By} {a n k:Nat} (h:Ai s a=some (n,k,true)) (hle:(n:Int)<=s.length-((a+k:Nat):Int)):Bd s a=((s.drop (a+k)).take n,((a+k:Nat):Int)+(n:Int),true):=by
 unfold Bd;rw [h];exact if_pos ⟨rfl,hle⟩
theorem Ps {s:By} {a n k m j:Nat} (h:Ai s a=some (n,k,true)) (h2 : ¬(n:Int) % 8=2) (hu:Ai s (a+k)=some (m,j,true)):Be s a=(((n:Int) / 8,(n:Int) % 8,unf (m:Int),[],()),(a:Int),((a+k+j:Nat):Int),AJ ((n:Int) / 8,(n:Int) % 8,unf (m:Int),[],())):=by
 unfold Be;rw [h];refine (if_neg (by simp [BP])).trans ((if_neg h2).trans ?_);show (((n:Int) / 8,(n:Int) % 8,unf (A8 (Ai s (a+k))),[],()),(a:Int),Ax (a+k) (Ai s (a+k)),BP (Ai s (a+k))&&AJ ((n:Int) / 8,(n:Int) % 8,unf (A8 (Ai s (a+k))),[],()))=_;rw [hu]; rfl
theorem Pt {s d:By} {a n k:Nat} {e:Int} (h:Ai s a=some (n,k,true)) (h2:(n:Int) % 8=2) (hu:Bd s (a+k)=(d,e,true)):Be s a=(((n:Int) / 8,2,0,d,()),(a:Int),e,AJ ((n:Int) / 8,2,0,d,())):=by
 unfold Be;rw [h];refine (if_neg (by simp [BP])).trans ((if_pos h2).trans ?_);show (((n:Int) / 8,2,0,(Bd s (a+k)).1,()),(a:Int),(Bd s (a+k)).2.1,(Bd s (a+k)).2.2&&AJ ((n:Int) / 8,2,0,(Bd s (a+k)).1,()))=_;rw [hu]; rfl
theorem KH {d:By} (h:d.length<=2000000001) (pre post:By):Bd (pre++(vbs d.length++(d++post))) pre.length=(d,((pre.length+(vbs d.length).length+d.length:Nat):Int),true):=by
 have e:pre++(vbs d.length++(d++post))=(pre++vbs d.length)++(d++post):=by rw [append_assoc]
 have el:pre.length+(vbs d.length).length=(pre++vbs d.length).length:=by rw [length_append]
 rw [YI (Fd h pre _) (by simp only [length_append]; push_cast; omega),e,el,List.drop_left,List.take_left];simp
theorem VK {f:WFd} (hf:DN f=true) (pre post:By):Be (pre++(fb1 f++post)) pre.length=(f,(pre.length:Int),((pre.length+(fb1 f).length:Nat):Int),true):=by
 obtain ⟨no,k,num,d,⟨⟩⟩:=f;unfold DN at hf;rw [anE,dcE] at hf;obtain ⟨h1,h2⟩:=hf;obtain ⟨⟨a1,a2⟩,a3⟩:=DO h1;have a1:1<=no:=a1;have a2:no<=30:=a2;have h2:d.length<=100000:=h2;have a3:(k=0/\BX num=true/\d=[])\/(k=2/\num=0):=a3;have e1:fb1 (no,k,num,d,())=vbs (8*no+k).toNat++(if k=0 then vbs (fol num).toNat else vbs d.length++d):=rfl;rw [e1,append_assoc];have ea : ∀ x:By,pre++(vbs (8*no+k).toNat++x)=(pre++vbs (8*no+k).toNat)++x:=fun x=>by rw [append_assoc]
 have el:pre.length+(vbs (8*no+k).toNat).length=(pre++vbs (8*no+k).toNat).length:=by rw [length_append]
 rcases a3 with ⟨c1,c2,c3⟩ | ⟨c1,c2⟩
 ·have hr:=DB (GM c2);have hm:(fol num).toNat<=2000000001:=by omega
  have hu:=Fd hm (pre++vbs (8*no+k).toNat) post;rw [if_pos c1];rw [<-ea,<-el] at hu;rw [Ps (Fd (by omega) pre _) (by omega) hu,show (((fol num).toNat:Nat):Int)=fol num by omega,NT,show (((8*no+k).toNat:Nat):Int) / 8=no by omega,show (((8*no+k).toNat:Nat):Int) % 8=k by omega,<-c3,h1,length_append,add_assoc]
 ·have hu:=KH (d:=d) (by omega) (pre++vbs (8*no+k).toNat) post;rw [if_neg (by omega),append_assoc];rw [<-ea,<-el] at hu;rw [Pt (Fd (by omega) pre _) (by omega) hu,show (((8*no+k).toNat:Nat):Int) / 8=no by omega,<-c1,<-c2,h1];simp only [length_append,add_assoc]

theorem ZB (f:WFd):1<=(fb1 f).length:=by
 unfold fb1 vbs;simp only [length_append,length_singleton]; omega
theorem SR : ∀ (l:List WFd) (pre:By) (o:List WFd) (g:Nat),l.all DN=true->o.length+l.length<=40->(fbs l).length<=g->rdF (pre++fbs l) g pre.length o=some (o++l)
 | [],pre,o,g,_,_,_=>by
  rw [show fbs []=[] from rfl,append_nil,append_nil];cases g<;>rw [rdF,if_neg (lt_irrefl _)]
 | f::l,pre,o,g,hf,ho,hg=>by
  rw [all_cons,anE] at hf;rw [Db,length_append] at hg;rw [length_cons] at ho;have h1:=ZB f;obtain ⟨g,rfl⟩ : ∃ k,g=k+1:=⟨g-1,by omega⟩
  rw [Db];have ht:=VK hf.1 pre (fbs l);have ih:=SR l (pre++fb1 f) (o++[f]) g hf.2 (by rw [length_append,length_singleton]; omega) (by omega);rw [append_assoc,length_append,append_assoc,List.singleton_append] at ih;rw [rdF,if_pos (by simp only [length_append]; omega),ht,if_pos ⟨rfl,by omega⟩];exact ih
theorem YT {l:List WFd} (h:l.Pairwise fun a b=>a.1<b.1):JT (CE l)=true:=by
 unfold JT;rw [all_eq_true];intro i hi;have hi:=List.mem_range.1 hi;unfold CE at hi ⊢;rw [length_map] at hi;unfold Ci
 cases i with
 | zero=>simp
 | succ i=>
  have:=List.pairwise_iff_getElem.1 h i (i+1) (by omega) hi (by omega);simp [getD_eq_getElem?_getD,getElem?_map,gtE hi,gtE (show i<l.length by omega)];omega
theorem KU {l:List WFd} (hf:l.all DN=true) (hl:l.length<=40) (hb:(fbs l).length<=400) (hr:l.Pairwise fun a b=>a.1<b.1):Df (fbs l)=some l:=by
 have h:=SR l [] [] (fbs l).length hf (by simpa using hl) (le_refl _);unfold Df CZ CB;rw [if_pos hb];rw [nil_append,nil_append] at h;have h:rdF (fbs l) (fbs l).length 0 []=some l:=h;rw [h];dsimp only;rw [if_pos (YT hr)]

theorem Yp {x0:Int} {x1:By} {x3:Bool} {k:Int} (h : ¬Dq x0 x1 x3 k=true):x3=Ar k/\(k≠2->x1=[])/\((k=2\/x3=true)->x0=0):=by
 unfold Dq at h;simp only [or_eq_true,anE,not_or,bne_iff_ne,ne_eq,beq_iff_eq,Decidable.not_not,not_and] at h;exact ⟨h.1,h.2.1,h.2.2⟩
theorem Rx {x:A4} {vs:RVL} {t:Rose Lab} (h:sfR (.node x vs) t=true) : ¬Dq x.1 x.2.1 x.2.2.2.1 t.lab.1=true:=fun hb=>by
 rw [sfR,if_pos hb] at h; cases h
theorem SW {v:Rose A4} {y:Rose Lab} (hr:Ah y=true) (hf:fkB y=true) (hs:sfR v y=true) (hw:wfR v=true):A1 y v.lab.1 v.lab.2.2.1=some v:=by
 have hn:=Km hr hf hs;obtain ⟨⟨x0,x1,x2,x3,⟨⟩⟩,vs⟩:=v;have hb:=Yp (Rx hs);have hk:y.lab.1=1\/y.lab.1=3:=by unfold fkB at hf; simpa using hf
 have h3:x3=false:=by have:=hb.1; rcases hk with h | h<;>rw [h] at this<;>exact this
 have h1:x1=[]:=hb.2.1 (by omega);subst h3;subst h1;rw [wfR,anE,Bool.false_or,isEmpty_iff] at hw;obtain ⟨rfl,_⟩:=hw;have hn0:=Rx hs;rw [sfR,if_neg hn0] at hs;have hn : -1000000000<=x0/\x0<=1000000000:=hn;have hm:BX x0=true:=by unfold BX; simpa only [anE,dcE] using hn
 unfold A1;rcases hk with h | h
 ·exact if_pos ⟨hm,.inl h⟩
 ·rw [if_neg (by omega),if_pos h] at hs;exact if_pos ⟨hm,.inr (of_decide_eq_true hs)⟩
theorem LO (y:Rose Lab) (v:Rose A4):1<=(itm y (A0 v y)).length:=by
 unfold itm;split
 ·rename_i h;rw [O8 h];unfold vbs;simp only [length_append,length_singleton]; omega
 ·unfold vbs;simp only [length_append,length_singleton]; omega
theorem QI {y:Rose Lab} (hr:Ah y=true) {D:By->Option (Rose A4)} : ∀ (vs:RVL) (pre:By) (g:Nat),(∀ v∈vs,v.lab.2.2.1=0/\sfR v y=true/\wfR v=true/\(A0 v y).length<=400/\(fkB y=false->D (A0 v y)=some v))->(Ca y vs).length<=g->BC (fkB y) (fun n=>A1 y n 0) D (pre++Ca y vs) g pre.length=some vs
 | [],pre,g,_,_=>by
  rw [Ca,append_nil]
  cases g with
  | zero=>rw [Fb,if_neg (lt_irrefl _)]
  | succ g=>rw [C5,if_neg (lt_irrefl _)]
 | v::vs,pre,g,hv,hg=>by
  obtain ⟨a0,a1,a2,a3,a4⟩:=hv v mem_cons_self;have hpos:=LO y v;rw [Ca,length_append] at hg;obtain ⟨g,rfl⟩ : ∃ k,g=k+1:=⟨g-1,by omega⟩
  have ih:=QI hr vs (pre++itm y (A0 v y)) g (fun w hw=>hv w (mem_cons_of_mem _ hw)) (by omega) (D:=D);rw [append_assoc,length_append] at ih;rw [Ca,C5,if_pos (by simp only [length_append]; omega)];rcases Bool.eq_false_or_eq_true (fkB y) with hf | hf
  ·have hn:=Km hr hf a1;have hfo:=DB hn;have hm:(fol v.lab.1).toNat<=2000000001:=by omega
   have ht:=Fd hm pre (Ca y vs);have hd:=SW hr hf a1 a2;rw [a0] at hd;rw [GR hf] at ih ⊢;rw [hf] at ih ⊢;rw [ht]
   have e1:unf (A8 (some ((fol v.lab.1).toNat,(vbs (fol v.lab.1).toNat).length,true)))=v.lab.1:=by
    show unf (((fol v.lab.1).toNat:Nat):Int)=_;rw [show (((fol v.lab.1).toNat:Nat):Int)=fol v.lab.1 by omega,NT]
   dsimp only;rw [e1,hd];dsimp only;refine (if_pos rfl).trans ?_;have e2:(Ax pre.length (some ((fol v.lab.1).toNat,(vbs (fol v.lab.1).toNat).length,true))).toNat=pre.length+(vbs (fol v.lab.1).toNat).length:=rfl;rw [e2,ih]; rfl
  ·have ht:=KH (d:=A0 v y) (by omega) pre (Ca y vs);rw [GS hf,append_assoc] at ih ⊢;rw [hf] at ih ⊢;dsimp only;rw [ht];dsimp only;rw [a4 hf];dsimp only;rw [ntN,show pre.length+(vbs (A0 v y).length).length+(A0 v y).length=pre.length+(vbs (A0 v y).length++A0 v y).length by rw [length_append,add_assoc],ih]; rfl
theorem ID (F:Rose A4->WFd) (hF : ∀ u,(F u).1=u.lab.2.2.1) : ∀ (ks:RL) (us:RVL) (fs:List WFd),ks.Pairwise KR->BA ks us=true->(∀ p∈ks,fs.find? (fun f=>f.1==p.lab.2.2.1)=(us.map F).find? (fun f=>f.1==p.lab.2.2.1))->(∀ p∈ks,∀ u∈us,u.lab.2.2.1=p.lab.2.2.1->Dh p (F u)=some u)->Bf ks fs=some us
 | [],us,fs,_,hm,_,_=>by
  rw [BA,isEmpty_iff] at hm;subst hm;rw [Bf]
 | p::ks,[],fs,hpw,hm,hfd,hd=>by
  rw [BA,anE] at hm;rw [pairwise_cons] at hpw;rw [Bv,hfd p mem_cons_self];show (if p.lab.2.2.2.1=true then none else Bf ks fs)=_;rw [if_neg (by simpa using hm.1)];exact ID F hF ks [] fs hpw.2 hm.2 (fun q hq=>hfd q (mem_cons_of_mem _ hq)) (fun q hq u hu=>by cases hu)
 | p::ks,u::us,fs,hpw,hm,hfd,hd=>by
  have hpw':=hpw;rw [pairwise_cons] at hpw;rw [Bv,hfd p mem_cons_self];rw [BA] at hm
  by_cases q:u.lab.2.2.1=p.lab.2.2.1
  ·rw [if_pos q,anE] at hm;rw [map_cons,List.find?_cons_of_pos (by rw [hF,q]; exact beq_self_eq_true _)];dsimp only;rw [hd p mem_cons_self u mem_cons_self q];dsimp only
   rw [ID F hF ks us fs hpw.2 hm.2 (fun r hr=>by
    have h1:=hpw.1 r hr;unfold KR at h1
    rw [hfd r (mem_cons_of_mem _ hr),map_cons,List.find?_cons_of_neg (by rw [hF]; simp; omega)]) (fun r hr w hw=>hd r (mem_cons_of_mem _ hr) w (mem_cons_of_mem _ hw))]
   rfl
  ·rw [if_neg q,anE] at hm;have hi:=(CF ks hpw.2 (u::us)).1 hm.2
   have hno:((u::us).map F).find? (fun f=>f.1==p.lab.2.2.1)=none:=by
    rw [List.find?_eq_none];intro f hf;obtain ⟨w,hw,rfl⟩:=List.mem_map.1 hf;obtain ⟨y,hy,e⟩:=Er.1 (hi.1.1 w hw).1;have h1:=hpw.1 y hy;unfold KR at h1;rw [hF]; simp; omega
   rw [hno];show (if p.lab.2.2.2.1=true then none else Bf ks fs)=_;rw [if_neg (by simpa using hm.1)];exact ID F hF ks (u::us) fs hpw.2 hm.2 (fun r hr=>hfd r (mem_cons_of_mem _ hr)) (fun r hr w hw=>hd r (mem_cons_of_mem _ hr) w hw)
theorem Fh : ∀ (ks:RL) (us:RVL),BA ks us=true->us.length<=ks.length
 | [],us,h=>by rw [BA,isEmpty_iff] at h; rw [h]; exact le_refl _
 | p::ks,[],_=>zero_le _
 | p::ks,u::us,h=>by
  rw [BA] at h;split at h
  ·rw [anE] at h;have:=Fh ks us h.2;simp only [length_cons]; omega
  ·rw [anE] at h;have:=Fh ks (u::us) h.2;simp only [length_cons] at this ⊢; omega
theorem Q6 {y:Rose Lab} {v:Rose A4} : ∀ {vs:RVL},v∈vs->(A0 v y).length<=(Ca y vs).length
 | u::vs,h=>by
  rw [Ca,length_append];rcases mem_cons.1 h with rfl | h
  ·have:(A0 v y).length<=(itm y (A0 v y)).length:=by
    unfold itm; split
    ·exact le_refl _
    ·rw [length_append]; omega
   omega
  ·have:=Q6 h (y:=y); omega
theorem Q4 {ks:RL} {v:Rose A4} : ∀ {vs:RVL},v∈vs->(A0 v (byR v.lab.2.2.1 ks)).length<=(EY ks vs).length
 | u::vs,h=>by
  rw [EY,length_append,length_append];rcases mem_cons.1 h with rfl | h
  ·have:(A0 v (byR v.lab.2.2.1 ks)).length<=(itm (byR v.lab.2.2.1 ks) (A0 v (byR v.lab.2.2.1 ks))).length:=by
    unfold itm; split
    ·exact le_refl _
    ·rw [length_append]; omega
   omega
  ·have:=Q4 h (ks:=ks); omega
theorem E9 (ks:RL) (u:Rose A4):(BZ ks u).1=u.lab.2.2.1:=by unfold BZ; split<;>rfl
mutual
theorem OK : ∀ (v:Rose A4) (z:Rose Lab),Ah z=true->fkB z=false->Aj z<=40->vcR v<=1000->sfR v z=true->wfR v=true->(A0 v z).length<=400->AI z (A0 v z) v.lab.2.2.1=some v
 | .node x vs,z,hr,hf,hcn,hvc,hs,hw,hlen=>by
  have hb:=Yp (Rx hs);rw [vcR] at hvc;have hck:=AE z;rw [wfR,anE] at hw;obtain ⟨x0,x1,x2,x3,⟨⟩⟩:=x;have hb:x3=Ar z.lab.1/\(z.lab.1≠2->x1=[])/\((z.lab.1=2\/x3=true)->x0=0):=hb;have hw1:(x3||vs.isEmpty)=true:=hw.1;have hw2:=hw.2;rw [NQ,all_eq_true] at hw2
  by_cases h2:z.lab.1=2
  ·have h3:x3=false:=by rw [hb.1,h2]; rfl
   have h0:=hb.2.2 (.inl h2);subst h3;subst h0;rw [Bool.false_or,isEmpty_iff] at hw1;subst hw1;rw [G6 h2];show AI z x1 x2=_;rw [CP h2,if_pos (SI h2 hs)]
  ·have hk:=GT hr h2 (by rw [hf]; simp);have h3:x3=true:=by rw [hb.1]; rcases hk with h | h<;>rw [h]<;>rfl
   have h0:=hb.2.2 (.inr h3);have h1:=hb.2.1 h2;subst h3;subst h0;subst h1;rcases hk with h4 | h5
   ·obtain ⟨g1,g2⟩:=BE hr h4;obtain ⟨y,hy⟩:=List.length_eq_one_iff.1 g1;have hsl:=Kn h4 hs;rw [G7 h4] at hlen ⊢;rw [hy] at hsl hlen g2 hck ⊢;have e0:hd0 [y]=y:=rfl;rw [e0] at hsl hlen ⊢;rw [Ak,Ak] at hck;have hry:Ah y=true:=by simpa using g2
    rw [GL,all_eq_true] at hsl;rw [CQ h4,hy,Dp]
    have hI:=QI hry (D:=fun d=>AI y d 0) vs [] (Ca y vs).length (fun v hv=>by
     have a:=hsl v hv;rw [anE,beq_iff_eq] at a;have hm:=Q6 hv (y:=y);have hvm:=Gh hv;refine ⟨a.1,a.2,hw2 v hv,by omega,fun hfy=>?_⟩;have:=Mf vs v hv y hry hfy (by omega) (by omega) a.2 (hw2 v hv) (by omega);rw [a.1] at this
     exact this) (le_refl _)
    rw [nil_append] at hI;have hI:BC (fkB y) (fun n=>A1 y n 0) (fun d=>AI y d 0) (Ca y vs) (Ca y vs).length 0=some vs:=hI;rw [hI]; rfl
   ·have hkp:=DM hr h5;have hr5:=BK hr (by omega);obtain ⟨m1,m2⟩:=H1 h5 hs;have hmm:BA z.kids vs=true:=by rw [Fi hkp,m1,m2]; rfl
    have hml:=Fh _ _ hmm;have hkl:=Bc z.kids;have hvr:=((CF z.kids hkp vs).1 hmm).1.2;obtain ⟨b1,b2⟩:=I3 hr5 vs (by omega) (Yl m1);rw [GV h5] at hlen ⊢
    have hpw:(vs.map (BZ z.kids)).Pairwise fun a b=>a.1<b.1:=by
     rw [List.pairwise_map];exact hvr.imp fun {a b} h=>by rw [E9,E9]; exact h
    have hris:=KU b1 (by rw [length_map]; omega) (by rw [b2]; exact hlen) hpw;rw [b2] at hris;rw [Dx (by omega) (by omega),hris];dsimp only
    rw [ID (BZ z.kids) (E9 z.kids) z.kids vs _ hkp hmm (fun p _=>rfl) (fun p hp u hu e=>by
     obtain ⟨c1,c2⟩:=HY m1 u hu;have hby:=IF hkp hp e.symm;rw [hby] at c2;have hem:=Q4 hu (ks:=z.kids);rw [hby] at hem;have hvm:=Gh hu;have hpc:=Bo hp;have hrp:=BO hr5 hp;have hfo:BZ z.kids u=if fkB p=true then (u.lab.2.2.1,0,u.lab.1,[],()) else (u.lab.2.2.1,2,0,A0 u p,()):=by unfold BZ; rw [hby]
     rcases Bool.eq_false_or_eq_true (fkB p) with hfp | hfp
     ·have hfo:=hfo.trans (if_pos hfp);rw [hfo];unfold Dh;refine (if_pos ?_).trans ((if_pos rfl).trans (SW hrp hfp c2 (hw2 u hu)));rw [hfp]; rfl
     ·have hfo:=hfo.trans (if_neg (by rw [hfp]; simp));rw [hfo];unfold Dh;refine (if_pos ?_).trans ((if_neg ?_).trans (Mf vs u hu p hrp hfp (by omega) (by omega) c2 (hw2 u hu) (by omega)))
      ·rw [hfp]; rfl
      ·show ¬((2:Int)==0)=true
       decide)]
    rfl
theorem Mf : ∀ (vs:RVL) (v:Rose A4),v∈vs->∀ (z:Rose Lab),Ah z=true->fkB z=false->Aj z<=40->vcR v<=1000->sfR v z=true->wfR v=true->(A0 v z).length<=400->AI z (A0 v z) v.lab.2.2.1=some v
 | [],v,hv=>by cases hv
 | u::vs,v,hv=>by
  by_cases e:v∈vs
  ·exact Mf vs v e
  ·have:v=u:=by rcases mem_cons.1 hv with h | h; exact h; exact absurd h e
   rw [this];exact OK u
end
end Go.Proofs.YtckmoiopjocapaaGreat.Den
