/- What functions of the program do, by the machine: Fw5 Eq Same Fw6 Srt Fw8 Fw7 LFw. -/
import Derived.Test.YtckmoiopjocapaaGreatDC
import Derived.KernelRfl
import Derived.Test.YtckmoiopjocapaaGreatRows
import Derived.Lib.SlicesCompact
import Derived.Shelf.Slices.In.SortAlone
import Derived.Shelf.Slices.In.SortNone
import Derived.Shelf.Slices.In.CompactI
import Derived.Sort.EveryDepth
open Go.IntKind (i64)
open Go.Proofs.Tryz
open List (all_eq_true append_nil drop drop_zero length_filter_le mem_cons mem_cons_self mem_filter mem_map mem_range mem_singleton range take take_length)
open Int (eq_ofNat_of_zero_le)
open Nat (lt_or_ge)
open Option (map_some)
namespace Go.Proofs.YtckmoiopjocapaaGreat.Den
open Go.Proofs
set_option maxRecDepth 100000
def K4:Gm
 | [.sl WCd l],[]=>.need (decide (l.length<=1000000000)) (.leaf (.ref 0 0 l.length,[R0 WCd l]))
 | _,_=>.no
def R5:Gm
 | [.sl WCd l],[]=>.br (decide ((l.length:Int)>20)) (.leaf (.tup [.agg [.ref 0 0 0],.b false],[R0 WCd []])) (.leaf (.tup [.agg [.sl WCd l],.b true],[]))
 | _,_=>.no
def SN:Gm
 | [.agg [.sl WCd l]],[]=>.br (Ha l) (.leaf (.tup [.agg [.sl WCd (DT l)],.b true],[])) (.leaf (.tup [.agg [.ref 0 0 0],.b false],[R0 WCd []]))
 | _,_=>.no
def ffW (ks:RL) (w:Wt):Bool:=w.2.1==0||(Cp w.2.1 ks&&((!decide (w.1<=3)||fkB (byR w.2.1 ks))&&(!(w.1==5)||(byR w.2.1 ks).lab.1==2)))
def ffK (l:List Ty) (ws:List Wt):Bool:=Bd l&&Au ws
def ffB (l:List Ty) (ws:List Wt):Bool:=ffK l ws&&ws.all (ffW (t2L l 0).kids)
def ffG:Gm
 | [.agg [.sl WCd ws],.agg [.sl TCd l]],[]=>.need (decide (l.length<=4000000000)&&nmL l) (.leaf (.tup [.b (ffB l ws),.b (ffK l ws)],[]))
 | _,_=>.no
def HR:Gm
 | [.agg [.sl TCd l],.j k],[]=>.need (decide (0<=k/\k.toNat<l.length/\l.length<=4000000000)) (.leaf (.agg (Lt ((t2L l k.toNat).lab.1) ((t2L l k.toNat).lab.2.1) ((t2L l k.toNat).lab.2.2.1) ((t2L l k.toNat).lab.2.2.2.1) ((t2L l k.toNat).lab.2.2.2.2.1) ((t2L l k.toNat).kids)),[]))
 | _,_=>.no
def LM:LoopEnt:=⟨55,[6,20,21,22],[],[4,5],fun
 | ([.tp LCd z 0,.sl WCd ws,.j c,.j i],[])=>.need (decide (0<=i/\i.toNat<=ws.length/\c=ws.length/\ws.length<=20/\z.kids.length<=maxI)) (.br ((ws.drop i.toNat).all (ffW z.kids)) (.leaf (.exit 0,([],[]))) (.leaf (.ret,([.b false,.b true],[]))))
 | _=>.no⟩
def La:LoopEnt:=⟨61,[6,22,23,24],[],[4,5],fun
 | ([.ptr 0 0,.sl WCd ws,.j c,.j i],[some (.box (Lt _ _ _ _ _ ks))])=>.need (decide (0<=i/\i.toNat<=ws.length/\c=ws.length/\ws.length<=20/\ks.length<=maxI)) (.br ((ws.drop i.toNat).all (ffW ks)) (.leaf (.exit 0,([],[]))) (.leaf (.ret,([.b false,.b true],[]))))
 | _=>.no⟩
theorem Nw (l:List (Int×Int×Int×By×Int×Int×Unit)) (h:l.length<=1000000000):DZ prog (Aa []) (Aa []) f60 [.sl WCd l] []=some (.ref 0 0 l.length,[R0 WCd l]):=by
 have e:DZ prog (Aa []) (Aa []) f60 [.sl WCd l] [] =
  ((shr (Ai WCd.den++l) fun sh1=>ifB (decide (0<l.length)) (ifT (decide ((0+l.length)*56<=140737488355328)&&decide (0 +
 l.length<=maxI)) (some (V.ref 0 0 (0+l.length),[R0 WCd sh1]))) (Jv (some (V.ref 0 0 0,[R0 WCd (Ai
 WCd.den)])) (ifT (decide ((0+l.length)*56<=140737488355328)&&decide (0+l.length<=maxI)) (some (V.ref 0 0 (0 +
 l.length),[R0 WCd sh1]))))):_):=by kernel_rfl
 rw [e]
 try dsimp only [shr]
 by_cases q:0<l.length
 ·rw [Ag (dcT q),Ae (by simp [maxI]; omega)]; simp
 ·obtain rfl:l=[]:=List.eq_nil_of_length_eq_zero (by omega);rw [Ad (by simp),Rl]<;>simp [maxI]
theorem V3:Ab prog 60 (Ent.rd1 K4).F:=by
 refine fcN (KnowsL.nil).knows (Λ:=Aa []) func60 fun vs bs r h=>?_
 unfold Ent.F K4 at h;dsimp only at h;split at h
 ·rename_i l;obtain ⟨hc,h⟩:=Ac h;exact ⟨Aj _,(Nw l (of_decide_eq_true hc)).trans h⟩
 ·cases h
theorem Pr (l:List Wt):Ba prog (Aa []) (Aa []) f59 [.sl WCd l] [] =
 ((ifB (decide ((↑l.length:Int)>(20:Int))) (some (V.tup [V.agg [V.ref 0 0 0],V.b false],[R0 WCd (Ai WCd.den)])) (some (V.tup [V.agg [V.sl WCd
 l],V.b true],[]))):_):=by kernel_rfl
theorem QI (l:List Wt):Ba prog (Aa [(48,.rd1 CE),(60,.rd1 K4),(59,.rd1 R5)]) (Aa []) f24 [.agg [.sl WCd l]] [] =
 ((shr (Ai WCd.den) fun sh2=>shr (take (l.length+1) (drop 0 (take l.length (drop 0 l)++((8:Int),(0:Int),(0:Int),
 Ai UInt8,i64.wrap ((↑l.length:Int)-(1:Int)),(0:Int),())::sh2))) fun sh1=>ifB (!Au l) (some (V.tup [V.agg [V.ref 0 0 0],V.b false],[R0 WCd sh2])) (ifT (decide (l.length<=1000000000)) (ifT (decide ((l.length+1)*56<=140737488355328)&&decide
 (l.length+1<=maxI)) (ifB (decide ((↑sh1.length:Int)>(20:Int))) (some (V.tup [V.agg [V.ref 0 0 0],V.b false],[R0 WCd sh2])) (some
 (V.tup [V.agg [V.sl WCd sh1],V.b true],[])))))):_):=by kernel_rfl
abbrev TS:FuncId->Option Ent:=Aa [(29,.rd1 MY),(48,.rd1 CE),(35,.rd1 MV),(62,.rd1 UT)]
theorem Jz (z:Rose Lab) (ws:List Wt) (c i:Int):As prog TS (Aa [(5,LM)]) 0 (body f26 0) LM ([.tp LCd z 0,.sl WCd ws,.j c,.j i],[]) =
 ((ifB (decide (i<c)) (ifT (decide (0<=i)&&decide (i<(↑ws.length:Int))) (Al ws[i.toNat]? fun z_1=>shr z_1.2 fun sh4=>shr z.kids fun sh3=>shr (byR sh4.1
 sh3) fun sh2=>shr (ifB (z_1.1==(5:Int)) (ifB (sh2.lab.1 != (2:Int)) (some (Ex.ret,[V.b false,V.b true],[])) (some (Ex.normal,[V.tp LCd z 0,V.sl
 WCd ws,V.j c,V.j (i64.wrap (i+1))],[]))) (some (Ex.normal,[V.tp LCd z 0,V.sl WCd ws,V.j c,V.j (i64.wrap (i+1))],
 []))) fun sh1=>ifB (sh4.1==(0:Int)) (some (Ex.normal,[V.tp LCd z 0,V.sl WCd ws,V.j c,V.j (i64.wrap (i+1))],[])) (ifT (decide
 (sh3.length<=maxI)) (ifB (Cp sh4.1 sh3) (ifB (decide (z_1.1<=(3:Int))) (ifB ((if fkB sh2=true then (0:Int) else (2:Int)) != (0:Int)) (ifB ((if fkB sh2
 = true then (0:Int) else (2:Int)) != (0:Int)) (some (Ex.ret,[V.b false,V.b true],[])) (some (Ex.normal,[V.tp LCd z 0,V.sl WCd ws,V.j c,V.i .i64
 (i64.wrap (i+1))],[]))) sh1) sh1) (some (Ex.ret,[V.b false,V.b true],[])))))) (some (Ex.exit 0,[],[]))):_):=by kernel_rfl
theorem Rw (ws:List Wt) (l:List Ty):Ba prog TS (Aa [(5,LM)]) f26 [.agg [.sl WCd ws],.agg [.sl TCd l]] [] =
 ((shr (kf l 0).1.kids fun sh1=>ifT (decide (l.length<=4000000000)&&nmL l) (ifB (Bd l) (ifB (!Au ws) (some (V.tup [V.b false,V.b false],[]))
 (ifT (decide ((0:Int)<=(0:Int)/\0<=ws.length/\(↑ws.length:Int)=(↑ws.length:Int)/\ws.length<=20/\sh1.length<=maxI)) (ifB ((drop (0 :
 Nat) ws).all (ffW sh1)) (some (V.tup [V.b true,V.b true],[])) (some (V.tup [V.b false,V.b true],[]))))) (some (V.tup [V.b false,V.b false],[])))):_):=by kernel_rfl
abbrev TR:FuncId->Option Ent:=Aa [(51,.rd1 CE),(63,.rd1 Ok),(39,.rd1 HR),(38,.rd1 byG),(64,.rd1 Uv)]
theorem Jc (x0:Int) (x1:By) (x2:Int) (x3:Bool) (x4:Int) (ks:RL) (ws:List Wt) (c i:Int):As prog TR (Aa [(5,La)]) 0 (body f27 0) La ([.ptr 0 0,.sl WCd ws,.j c,.j i],[some (.box (Lt x0 x1 x2 x3 x4 ks))]) =
 ((ifB (decide (i<c)) (ifT (decide (0<=i)&&decide (i<(↑ws.length:Int))) (Al ws[i.toNat]? fun z=>shr z.2 fun sh3=>shr (byR sh3.1 ks) fun sh2=>shr (ifB
 (z.1==(5:Int)) (ifB (sh2.lab.1 != (2:Int)) (some (Ex.ret,[V.b false,V.b true],[])) (some (Ex.normal,[V.ptr 0 0,V.sl WCd ws,V.j c,V.i .i64
 (i64.wrap (i+1))],[some (Blk.box (Lt x0 x1 x2 x3 x4 ks))]))) (some (Ex.normal,[V.ptr 0 0,V.sl WCd ws,V.i
 .i64 c,V.j (i64.wrap (i+1))],[some (Blk.box (Lt x0 x1 x2 x3 x4 ks))]))) fun sh1=>ifB (sh3.1==(0
 : Int)) (some (Ex.normal,[V.ptr 0 0,V.sl WCd ws,V.j c,V.j (i64.wrap (i+1))],[some (Blk.box (Lt x0 x1 x2 x3 x4 ks))])) (ifT (decide (ks.length<=maxI)) (ifB (Cp sh3.1 ks) (ifB (decide (z.1<=(3:Int))) (ifB (!fkB (Rose.node (sh2.lab.1,sh2.lab.2.1,
 sh2.lab.2.2.1,sh2.lab.2.2.2.1,sh2.lab.2.2.2.2.1,()) sh2.kids)) (some (Ex.ret,[V.b false,V.b true],[])) sh1) sh1) (some (Ex.ret,[V.b false,
 V.b true],[])))))) (some (Ex.exit 0,[],[]))):_):=by kernel_rfl
theorem Qh (ws:List Wt) (l:List Ty):Ba prog TR (Aa [(5,La)]) f27 [.agg [.sl WCd ws],.agg [.sl TCd l]] [] =
 ((shr (t2L l 0).kids fun sh1=>ifB (!Au ws) (some (V.tup [V.b false,V.b false],[])) (ifT (decide (l.length<=4000000000)&&nmL l) (ifB (!Bd l)
 (some (V.tup [V.b false,V.b false],[])) (ifT (decide ((0:Int)<=(0:Int)/\0<l.length/\l.length<=4000000000)) (ifT (decide ((0:Int)<=(0:Int)
 /\ 0<=ws.length/\(↑ws.length:Int)=(↑ws.length:Int)/\ws.length<=20/\sh1.length<=maxI)) (ifB ((drop 0 ws).all (ffW sh1)) (some
 (V.tup [V.b true,V.b true],[])) (some (V.tup [V.b false,V.b true],[])))))))):_):=by kernel_rfl
theorem WH:Ab prog 59 (Ent.rd1 R5).F:=by
 refine fcC KnowsL.nil.knows (Λ:=Aa []) func59 fun vs bs r hq=>?_
 unfold Ent.F R5 at hq;dsimp only at hq;split at hq
 ·rename_i l;refine ⟨Aj _,(Pr l).trans (Eq.trans ?_ hq)⟩;cases h:decide ((l.length:Int)>20)<;>rfl
 ·cases hq
theorem WC:Ab prog 24 (Ent.rd1 SN).F:=by
 refine fcC (kc func48 HZ (kc func60 V3 (kc func59 WH KnowsL.nil))).knows (Λ:=Aa []) func24 fun vs bs r hq=>?_
 unfold Ent.F SN at hq;dsimp only at hq;split at hq
 ·rename_i l;refine ⟨Aj _,(QI l).trans (Eq.trans ?_ hq)⟩;dsimp only [shr]
  cases hg:Au l with
  | false=>
   have:Ha l=false:=by unfold Ha; rw [hg]; rfl
   rw [this]; rfl
  | true=>
   obtain ⟨_,h1,h2⟩:=AS hg;have W2:i64.wrap ((l.length:Int)-1)=(l.length:Int)-1:=An (by omega) (by omega)
   have e:take (l.length+1) (drop 0 (take l.length (drop 0 l)++((8,0,0,Ai UInt8,i64.wrap ((l.length:Int)-1),0,()):Wt)::Ai _))=DT l:=by
    rw [W2,drop_zero,drop_zero,take_length,AG,AG,List.take_of_length_le (by simp)]; rfl
   have hn:(DT l).length=l.length+1:=by unfold DT; simp
   rw [Bool.not_true,AL,Ae (dcT (by omega)),Ae (by simp only [anE,dcE]; unfold maxI; omega)];rw [e,hn];unfold Ha;rw [hg,Bool.true_and]
   by_cases q:l.length+1<=20
   ·rw [Ad (dcF (by omega)),dcT q]; rfl
   ·rw [Ag (dcT (by omega)),dcF q]; rfl
 ·cases hq
theorem SW:Ab prog 39 (Ent.rd1 HR).F:=by
 refine Fn Ra fun vs bs r hq=>?_
 unfold Ent.F HR at hq;dsimp only at hq;split at hq
 ·rename_i l k;obtain ⟨hc,hx⟩:=Ac hq;refine ⟨rfl,?_⟩;unfold Ent.F Ho;dsimp only;rw [hc];refine ⟨_,rfl,?_⟩;dsimp only;generalize t2L l k.toNat=z at *;obtain ⟨⟨a,b,c,d,e,⟨⟩⟩,ks⟩:=z;have e1:NF (.agg [.j a,.s b,.j c,.b d,.j e,.ref 0 0 ks.length]) [R0 (.rose LCd) ks]=some (.agg (Lt a b c d e ((ks.drop 0).take ks.length)),[]):=by kernel_rfl
  refine e1.trans ?_;rw [drop_zero,take_length];exact hx
 ·cases hq
theorem Vc (z:Rose Lab) (ws:List Wt) (hl:ws.length<=20) (hk:z.kids.length<=maxI) (n:Nat) (h:n<ws.length):As prog TS (Aa [(5,LM)]) 0 (body f26 0) LM ([.tp LCd z 0,.sl WCd ws,.j (ws.length:Int),.j (n:Int)],[])=some (bif ffW z.kids ws[n] then ((.normal:Ex),(([.tp LCd z 0,.sl WCd ws,.j (ws.length:Int),.j ((n+1:Nat):Int)],[]):Dt)) else (.ret,([.b false,.b true],[]))):=by
 rw [Jz];dsimp only [shr];have w1:i64.wrap ((n:Int)+1)=((n+1:Nat):Int):=by rw [An (by omega) (by omega)]; omega
 rw [Ag (dcT (by omega)),T2 (by omega),ntN,gtE h,Am,w1];generalize ws[n]=w;unfold ffW;cases h0:w.2.1==0
 ·rw [AL,Ae (dcT hk)];cases h1:Cp w.2.1 z.kids
  ·rfl
  ·generalize byR w.2.1 z.kids=y;cases h3:decide (w.1<=3)<;>cases h4:fkB y<;>cases h5:w.1==5<;>cases h2:y.lab.1==2<;>simp [ifB,bne,h2]
 ·rfl
theorem Uw (x0:Int) (x1:By) (x2:Int) (x3:Bool) (x4:Int) (ks:RL) (ws:List Wt) (hl:ws.length<=20) (hk:ks.length<=maxI) (n:Nat) (h:n<ws.length):As prog TR (Aa [(5,La)]) 0 (body f27 0) La ([.ptr 0 0,.sl WCd ws,.j (ws.length:Int),.j (n:Int)],[some (.box (Lt x0 x1 x2 x3 x4 ks))])=some (bif ffW ks ws[n] then ((.normal:Ex),(([.ptr 0 0,.sl WCd ws,.j (ws.length:Int),.j ((n+1:Nat):Int)],[some (.box (Lt x0 x1 x2 x3 x4 ks))]):Dt)) else (.ret,([.b false,.b true],[]))):=by
 rw [Jc];dsimp only [shr];have w1:i64.wrap ((n:Int)+1)=((n+1:Nat):Int):=by rw [An (by omega) (by omega)]; omega
 rw [Ag (dcT (by omega)),T2 (by omega),ntN,gtE h,Am,w1];generalize ws[n]=w;unfold ffW;cases h0:w.2.1==0
 ·rw [AL,Ae (dcT hk)];cases h1:Cp w.2.1 ks
  ·rfl
  ·try simp only [ER]
   generalize byR w.2.1 ks=y;cases h3:decide (w.1<=3)<;>cases h4:fkB y<;>cases h5:w.1==5<;>cases h2:y.lab.1==2<;>simp [ifB,bne,h2]
 ·rfl
theorem Vd:Ar prog TS (Aa [(5,LM)]) 0 (f26.body.getD .skip):=by
 refine Ap (a:=body f26 0) (by kernel_rfl) fun d ex d' h=>?_
 unfold LM at h;dsimp only at h;split at h
 ·rename_i z ws c i;obtain ⟨hc,hx⟩:=Ac h;obtain ⟨k1,k2,k3,k4,k5⟩:=of_decide_eq_true hc;obtain ⟨j,rfl⟩:=eq_ofNat_of_zero_le k1;simp only [ntN] at k2 hx;subst k3
  exact BZ (l:=ws) (ex:=((.exit 0:Ex),([],[]))) (rt:=((.ret:Ex),([.b false,.b true],[]))) _ (fun j=>([.tp LCd z 0,.sl WCd ws,.j (ws.length:Int),.j (j:Int)],[])) (by simp) (by simp) (Vc z ws k4 k5) (by
   rw [Jz,Ad (dcF (by omega))]) (ws.length-j) j (by omega) ex d' hx
 ·cases h
theorem Ux:Ar prog TR (Aa [(5,La)]) 0 (f27.body.getD .skip):=by
 refine Ap (a:=body f27 0) (by kernel_rfl) fun d ex d' h=>?_
 unfold La at h;dsimp only at h;split at h
 ·rename_i ws c i x0 x1 x2 x3 x4 ks;obtain ⟨hc,hx⟩:=Ac h;obtain ⟨k1,k2,k3,k4,k5⟩:=of_decide_eq_true hc;obtain ⟨j,rfl⟩:=eq_ofNat_of_zero_le k1;simp only [ntN] at k2 hx;subst k3
  exact BZ (l:=ws) (ex:=((.exit 0:Ex),([],[]))) (rt:=((.ret:Ex),([.b false,.b true],[]))) _ (fun j=>([.ptr 0 0,.sl WCd ws,.j (ws.length:Int),.j (j:Int)],[some (.box (Lt x0 x1 x2 x3 x4 ks))])) (by simp) (by simp) (Uw x0 x1 x2 x3 x4 ks ws k4 k5) (by
   rw [Jc,Ad (dcF (by omega))]) (ws.length-j) j (by omega) ex d' hx
 ·cases h
theorem iff:Ab prog 26 (Ent.rd1 ffG).F:=by
 refine fcC (kc func29 VX (kc func48 HZ (kc func35 VV (kc func62 kfk KnowsL.nil)))).knows (Λ:=(Aa [(5,LM)])) func26 fun vs bs r hq=>?_
 unfold Ent.F ffG at hq;dsimp only at hq;split at hq
 ·rename_i ws l;obtain ⟨hc,hx⟩:=Ac hq;refine ⟨Vd,(Rw ws l).trans (Eq.trans ?_ hx)⟩;dsimp only [shr];have hc':=hc;rw [anE,dcE] at hc';show _=some _;unfold ffB ffK;rw [hc,EC]
  cases hk:Bd l with
  | false=>rw [AL]; rfl
  | true=>
   rw [Be]
   cases hg:Au ws with
   | false=>rfl
   | true=>
    obtain ⟨hg2,g1,g2⟩:=N8 hk;have hkl:(t2L l 0).kids.length<=maxI:=by have:=Ct (t2L l 0).kids; have:=Cu (t2L l 0); have:=(Id hg2).2.2; unfold maxI; omega
    rw [(VZ hk).2.2.2,Bool.not_true,AL,Ae (dcT ⟨by omega,by omega,by first | trivial | rfl,(AS hg).2.2,hkl⟩),drop_zero];cases ws.all (ffW (t2L l 0).kids)<;>rfl
 ·cases hq
theorem sff:Ab prog 27 (Ent.rd1 ffG).F:=by
 refine fcC (kc func51 M7 (kc func63 TZ (kc func39 SW (kc func38 WA (kc func64 sfk KnowsL.nil))))).knows (Λ:=(Aa [(5,La)])) func27 fun vs bs r hq=>?_
 unfold Ent.F ffG at hq;dsimp only at hq;split at hq
 ·rename_i ws l;obtain ⟨hc,hx⟩:=Ac hq;refine ⟨Ux,(Qh ws l).trans (Eq.trans ?_ hx)⟩;dsimp only [shr];have hc':=hc;rw [anE,dcE] at hc';show _=some _;unfold ffB ffK
  cases hg:Au ws with
  | false=>rw [Bool.and_false]; rfl
  | true=>
   rw [Bool.not_true,AL,hc,EC]
   cases hk:Bd l with
   | false=>rfl
   | true=>
    obtain ⟨hg2,g1,g2⟩:=N8 hk;have hkl:(t2L l 0).kids.length<=maxI:=by have:=Ct (t2L l 0).kids; have:=Cu (t2L l 0); have:=(Id hg2).2.2; unfold maxI; omega
    rw [Bool.not_true,AL,Ae (dcT ⟨by omega,g1,hc'.1⟩),Ae (dcT ⟨by omega,by omega,by first | trivial | rfl,(AS hg).2.2,hkl⟩),drop_zero];cases ws.all (ffW (t2L l 0).kids)<;>rfl
 ·cases hq


def BR:LoopEnt:=⟨26,[0,1,4,12,13],[],[4],fun
 | ([.sl (.int .i64) a,.sl (.int .i64) b,.b _,.j m,.j n],[])=>
  .need (decide (0<=n/\m=a.length/\a.length=b.length/\n.toNat<=a.length/\a.length<=maxI)) (.br (decide (a.drop n.toNat=b.drop n.toNat)) (.leaf (.exit 0,([],[]))) (.leaf (.ret,([.b false],[]))))
 | _=>.no⟩
def EQ:Gm
 | [.sl (.int .i64) a,.sl (.int .i64) b],[]=>.leaf (.b (decide (a=b)),[])
 | _,_=>.no
theorem E3 (a b:List Int) (r:Bool) (n:Nat):As prog (Aa []) (Aa [(4,BR)]) 0 (body f10 0) BR ([.sl (.int .i64) a,.sl (.int .i64) b,.b r,.j (↑a.length:Int),.j n],[]) =
 ((ifB (decide ((↑n:Int)<(↑a.length:Int))) (ifT (decide (0<=(↑n:Int))&&decide ((↑n:Int)<(↑a.length:Int))) (Al a[((↑n:Int)).toNat]? fun z=>ifT (decide
 (0<=(↑n:Int))&&decide ((↑n:Int)<(↑b.length:Int))) (Al b[((↑n:Int)).toNat]? fun z_1=>ifB (z != z_1) rF (some (Ex.normal,
 [V.sl (Cd.int .i64) a,V.sl (Cd.int .i64) b,V.b r,V.j (↑a.length:Int),V.j (i64.wrap ((↑n:Int)+(1:Int)))],[]))))) (some (Ex.exit 0,[],[]))):_):=by kernel_rfl
theorem Fe {a b:List Int} {r:Bool} (hl:a.length=b.length) (hm:a.length<=maxI) : ∀ (k n:Nat),n+k=a.length->
  Runs prog (Aa []) (Aa [(4,BR)]) 0 (body f10 0) BR ([.sl (.int .i64) a,.sl (.int .i64) b,.b r,.j (↑a.length:Int),.j n],[]) (if a.drop n=b.drop n then .exit 0 else .ret) (if a.drop n=b.drop n then [] else [.b false],[])
 | 0,n,hn=>by
  have e1:a.drop n=[]:=List.drop_eq_nil_of_le (by omega);have e2:b.drop n=[]:=List.drop_eq_nil_of_le (by omega);refine .stop _ _ _ ((E3 a b r n).trans ?_) (by simp [e1,e2]);simp [e1,e2,show ¬n<a.length by omega]
 | k+1,n,hn=>by
  have h1:n<a.length:=by omega
  have h2:n<b.length:=by omega
  have hd:(a.drop n=b.drop n)=(a[n]=b[n]/\a.drop (n+1)=b.drop (n+1)):=by rw [List.drop_eq_getElem_cons h1,List.drop_eq_getElem_cons h2,List.cons.injEq]
  have hr:=E3 a b r n;simp only [ntN,gtE h1,gtE h2,Ax (n:=n) (by omega)] at hr
  by_cases he:a[n]=b[n]
  ·refine .step _ _ _ (d1:=([.sl (.int .i64) a,.sl (.int .i64) b,.b r,.j (↑a.length:Int),.j ((n+1:Nat):Int)],[])) (hr.trans (by simp [h1,h2,he])) ?_;simp only [hd,he,true_and];exact Fe hl hm k (n+1) (by omega)
  ·exact .stop _ _ _ (hr.trans (by simp [h1,h2,hd,he])) (by simp [hd,he])
theorem Lc:Ar prog (Aa []) (Aa [(4,BR)]) 0 (f10.body.getD .skip):=by
 refine Ap (a:=body f10 0) (by kernel_rfl) fun d e d' h=>?_
 unfold BR at h;dsimp only at h;split at h
 ·rename_i a b r m n;obtain ⟨hc,h⟩:=Ac h;have hc:=of_decide_eq_true hc;obtain ⟨n,rfl⟩:=eq_ofNat_of_zero_le hc.1;have:=Fe (r:=r) hc.2.2.1 hc.2.2.2.2 _ n (Nat.add_sub_of_le hc.2.2.2.1);rw [<-hc.2.1] at this;rcases TP h with ⟨h1,h⟩ | ⟨h1,h⟩
  ·have h1:=of_decide_eq_true h1;simp only [ntN] at h1 h;cases h;rw [if_pos h1,if_pos h1] at this; exact this
  ·have h1:=of_decide_eq_false h1;simp only [ntN] at h1 h;cases h;rw [if_neg h1,if_neg h1] at this; exact this
 ·cases h
theorem JX (a b:List Int) (hm:a.length<=maxI):A3 prog (Aa []) (Aa [(4,BR)]) f10 [.sl (.int .i64) a,.sl (.int .i64) b] []=some (.b (decide (a=b)),[]):=by
 have e:A3 prog (Aa []) (Aa [(4,BR)]) f10 [.sl (.int .i64) a,.sl (.int .i64) b] [] =
  ((ifB ((↑a.length:Int) != (↑b.length:Int)) nF (ifT (decide ((0:Int)<=(0:Int)/\(↑a.length:Int)=(↑a.length:Int)/\a.length=b.length/\(0
 : Nat)<=a.length/\a.length<=maxI)) (ifB (decide (drop 0 a=drop 0 b)) (some (V.b true,[])) nF))):_):=by kernel_rfl
 rw [e]
 by_cases h1:a.length=b.length
 ·by_cases h2:a=b<;>simp [h1,h2,show b.length<=maxI by omega]
 ·have h2:a≠b:=fun e=>h1 (by rw [e])
  simp [h1,h2]
theorem Qm:Ab prog 10 (Ent.rd1 EQ).F:=by
 refine Bn KnowsL.nil.knows (Λ:=(Aa [(4,BR)])) func10 (c:=f10.body.getD .skip) (by kernel_rfl) fun vs bs r h hv hb=>?_
 unfold Ent.F EQ at h;dsimp only at h;split at h
 ·rename_i a b;exact ⟨Lc,(JX a b (hv (.sl (.int .i64) a) (by simp)).1).trans (by cases h; rfl)⟩
 ·cases h
def Nu:Gm
 | [.sl (.int .i64) l,.j x],[]=>.leaf (.b (decide (x∈l)),[])
 | _,_=>.no
def HU:LoopEnt:=⟨17,[1,7,8,9],[],[4],fun
 | ([.j x,.sl (.int .i64) l,.j m,.j i],[])=>.need (decide (0<=i/\m=l.length/\i.toNat<=l.length/\l.length<=maxI)) (.br ((l.drop i.toNat).all fun z=>!(z==x)) (.leaf (.exit 0,([],[]))) (.leaf (.ret,([.b true],[]))))
 | _=>.no⟩
def Pb:LoopEnt:=⟨29,[0,5,6,7],[],[2],fun
 | ([.sl (.int .i64) ns,.sl (.int .i64) ns2,.j c,.j i],[])=>.need (decide (0<=i/\i.toNat<=ns.length/\c=ns.length/\ns.length<=maxI/\ns2=ns)) (.br (((range ns.length).drop i.toNat).all (fun i=>decide (1<=ns.getD i 0/\ns.getD i 0<=30)&&BF ns i)) (.leaf (.exit 0,([],[]))) (.leaf (.ret,([.b false],[]))))
 | _=>.no⟩
def UJ:Gm
 | [.sl (.int .i64) ns],[]=>.leaf (.b (GM ns),[])
 | _,_=>.no
def L8:LoopEnt:=⟨28,[1,2,7,10,11,12],[7],[],fun
 | ([.sl (.int .i64) ns,.b true,.ref 0 0 m,.sl FCd fs,.j c,.j i],[R0 FCd o])=>.need (decide (0<=i/\i.toNat<=fs.length/\c=fs.length/\m=o.length/\fs.length<=100000/\o.length<=i.toNat)) (.leaf (.exit 0,([.ref 0 0 (o++Cv (fs.drop i.toNat) ns).length],[R0 FCd (o++Cv (fs.drop i.toNat) ns)])))
 | _=>.no⟩
def UH:Gm
 | [.sl FCd fs,.sl (.int .i64) ns,.b true],[]=>.need (decide (fs.length<=100000)) (.leaf (.ref 0 0 (Cv fs ns).length,[R0 FCd (Cv fs ns)]))
 | _,_=>.no
def vwG:Gm
 | [.s s,.sl (.int .i64) ns],[]=>.need (decide (s.length<=4000000000)) (.leaf (.tup [.s (vwL s ns),.b (vwB s ns)],[]))
 | _,_=>.no
def S6:Gm
 | [.agg [.sl WCd ws]],[]=>.leaf (.tup [.ref 0 0 (CB ws).length,.b (Au ws)],[R0 (.int .i64) (CB ws)])
 | _,_=>.no
def El:LoopEnt:=⟨38,[1,4,5],[4],[],fun
 | ([.ptr 0 0,.ref 1 0 m,.j n],[some (.box [.sl WCd ws]),R0 (.int .i64) o])=>.need (decide (n=1/\o=[]/\m=0/\ws.length<=20)) (.leaf (.exit 0,([.ref 0 0 (BX ws).length],[R0 (.int .i64) (BX ws)])))
 | _=>.no⟩
def D6:LoopEnt:=⟨38,[1,4,5,16,17,18],[1,4,5],[],fun
 | ([.ptr 0 0,.ref 1 0 m,.j n,.sl WCd wl,.j c,.j i],[some (.box [.sl WCd ws]),R0 (.int .i64) o])=>.need (decide (0<=i/\i.toNat<=wl.length/\c=wl.length/\m=o.length/\wl.length<=20/\o.length<=100)) (.leaf (.exit 2,([.ptr 0 0,.ref 1 0 (o++bif ((wl.drop i.toNat).any fun w=>w.2.1==n)&&!decide (n∈o) then [n] else []).length,.j n],[some (.box [.sl WCd ws]),R0 (.int .i64) (o++bif ((wl.drop i.toNat).any fun w=>w.2.1==n)&&!decide (n∈o) then [n] else [])])))
 | _=>.no⟩
theorem HT (x:Int) (l:List Int) (m i:Int):As prog (Aa []) (Aa [(2,HU)]) 0 (body f52 0) HU ([.j x,.sl (.int .i64) l,.j m,.j i],[]) =
 ((ifB (decide (i<m)) (ifT (decide (0<=i)&&decide (i<(↑l.length:Int))) (Al l[i.toNat]? fun z=>ifB (z==x) (some (Ex.ret,[V.b true],[])) (some (Ex.normal,
 [V.j x,V.sl (Cd.int .i64) l,V.j m,V.j (i64.wrap (i+1))],[])))) (some (Ex.exit 0,[],[]))):_):=by kernel_rfl
theorem SX:Ar prog (Aa []) (Aa [(2,HU)]) 0 (f52.body.getD .skip):=by
 refine Ap (a:=body f52 0) (by kernel_rfl) fun d e d' h=>?_
 unfold HU at h;dsimp only at h;split at h
 ·rename_i x l m i;obtain ⟨hc,hx⟩:=Ac h;clear h;obtain ⟨h0,rfl,h2,h3⟩:=of_decide_eq_true hc;obtain ⟨i,rfl⟩:=eq_ofNat_of_zero_le h0;rw [ntN] at h2 hx;refine BZ (l:=l) (fun z=>!(z==x)) (fun i=>([.j x,.sl (.int .i64) l,.j (↑l.length:Int),.j (i:Int)],[])) (ex:=(.exit 0,([],[]))) (rt:=(.ret,([.b true],[]))) (by simp) (by simp) (fun i hi=>?_) ?_ (l.length-i) i (by omega) e d' hx
  ·have hr:=HT x l l.length i;rw [Ag (dcT (by omega)),T2 (by omega),ntN,gtE hi,Am] at hr;refine hr.trans ?_
   by_cases hz:l[i]=x
   ·rw [Ag (by simpa using hz)]; simp [hz]
   ·rw [Ad (by simpa using hz),Ax (by omega)]; simp only [beq_false_of_ne hz,Bool.not_false,cond_true]
  ·have hr:=HT x l l.length l.length;rw [Ad (dcF (by omega))] at hr;exact hr
 ·cases h
theorem Rf (l:List Int) (x:Int) (hm:l.length<=maxI):A3 prog (Aa []) (Aa [(2,HU)]) f52 [.sl (.int .i64) l,.j x] []=some (.b (decide (x∈l)),[]):=by
 have e:A3 prog (Aa []) (Aa [(2,HU)]) f52 [.sl (.int .i64) l,.j x] []=((ifT (decide ((0:Int)<=(0:Int)/\(↑l.length:Int)=(↑l.length:Int)/\0<=l.length/\l.length<=maxI)) (ifB ((drop 0 l).all fun z=>!z==x)
 nF (some (V.b true,[])))):_):=by kernel_rfl
 rw [e];clear e;rw [Ae (dcT ⟨by omega,by trivial,by omega,hm⟩)];simp only [drop_zero]
 by_cases h:x∈l
 ·rw [Ad (by rw [List.all_eq_false]; exact ⟨x,h,by simp⟩),dcT h]
 ·rw [Ag (by rw [all_eq_true]; intro z hz; simp; intro e; exact h (e ▸ hz)),dcF h]
theorem VT:Ab prog 52 (Ent.rd1 Nu).F:=by
 refine Bn KnowsL.nil.knows (Λ:=Aa [(2,HU)]) func52 (c:=f52.body.getD .skip) (by kernel_rfl) fun vs bs r' hq hv hb=>?_
 unfold Ent.F Nu at hq;dsimp only at hq;split at hq
 ·rename_i l x;exact ⟨SX,(Rf l x (hv (.sl (.int .i64) l) (by simp)).1).trans (by cases hq; rfl)⟩
 ·cases hq
theorem Jp (ns:List Int) (c i:Int):As prog (Aa [(100,.rd1 AA)]) (Aa [(2,Pb)]) 0 (body f56 0) Pb ([.sl (.int .i64) ns,.sl (.int .i64) ns,.j c,.j i],[]) =
 ((ifB (decide (i<c)) (ifT (decide (0<=i)&&decide (i<(↑ns.length:Int))) (Al ns[i.toNat]? fun z=>ifB (!decide ((1:Int)<=z/\z<=(30:Int))) rF (ifB (decide (i>0)) (ifT (decide (0<=i64.wrap (i-1))&&decide (i64.wrap (i-1)<(↑ns.length:Int))) (Al
 ns[(i64.wrap (i-1)).toNat]? fun z_1=>ifB (decide (z_1>=z)) rF (some (Ex.normal,[V.sl (Cd.int .i64) ns,V.sl (Cd.int .i64) ns,
 V.j c,V.j (i64.wrap (i+1))],[])))) (some (Ex.normal,[V.sl (Cd.int .i64) ns,V.sl (Cd.int .i64) ns,V.j c,V.j (i64.wrap (i +
 1))],[]))))) (some (Ex.exit 0,[],[]))):_):=by kernel_rfl
theorem QZ (ns:List Int):Ba prog (Aa [(100,.rd1 AA)]) (Aa [(2,Pb)]) f56 [.sl (.int .i64) ns] [] =
 ((ifT (decide ((0:Int)<=(0:Int)/\0<=ns.length/\(↑ns.length:Int)=(↑ns.length:Int)/\ns.length<=maxI/\ns=ns)) (ifB ((drop 0 (range
 ns.length)).all fun i=>decide ((1:(Cd.int .i64).den)<=ns.getD i (0:(Cd.int .i64).den)/\ns.getD i (0:(Cd.int .i64).den)<=(30:(Cd.int .i64).den))&&BF ns
 i) (some (V.b true,[])) nF)):_):=by kernel_rfl
theorem Jo (ns:List Int) (m:Nat) (fs:List WFd) (c i:Int) (o:List WFd):As prog (Aa [(52,.rd1 Nu)]) (Aa [(3,L8)]) 0 (body f58 0) L8 ([.sl (.int .i64) ns,.b true,.ref 0 0 m,.sl FCd fs,.j c,.j i],[R0 FCd o]) =
 ((ifB (decide (i<c)) (ifT (decide (0<=i)&&decide (i<(↑fs.length:Int))) (Al fs[i.toNat]? fun z=>ifB (decide (z.1∈ns)==true) (ifT (decide ((m+1)
 * 40<=140737488355328)&&decide (m+1<=maxI)) (some (Ex.normal,[V.sl (Cd.int .i64) ns,V.b true,V.ref 0 0 (m+1),V.sl FCd fs,V.i
 .i64 c,V.j (i64.wrap (i+1))],[R0 FCd (take m (drop 0 o)++(z.1,z.2.1,z.2.2.1,z.2.2.2.1,
 ())::Ai FCd.den)]))) (some (Ex.normal,[V.sl (Cd.int .i64) ns,V.b true,V.ref 0 0 m,V.sl FCd fs,V.j c,V.j (i64.wrap (i+1))],[R0 FCd o])))) (some (Ex.exit 0,[V.ref 0 0 m],[R0 FCd o]))):_):=by kernel_rfl
theorem QY (fs:List WFd) (ns:List Int):Ba prog (Aa [(52,.rd1 Nu)]) (Aa [(3,L8)]) f58 [.sl FCd fs,.sl (.int .i64) ns,.b true] [] =
 ((shr (Ai FCd.den++Cv (drop 0 fs) ns) fun sh1=>ifT (decide ((0:Int)<=(0:Int)/\0<=fs.length/\(↑fs.length:Int)=(↑fs.length:Int)/\
 0=0/\fs.length<=100000/\0<=0)) (some (V.ref 0 0 sh1.length,[R0 FCd sh1]))):_):=by kernel_rfl
theorem Sm (s:By) (ns:List Int):Ba prog (Aa [(37,.rd1 Qn),(56,.rd1 UJ),(58,.rd1 UH),(57,.rd1 Vm)]) (Aa []) f23 [.s s,.sl (.int .i64) ns] [] =
 ((shr (take ((C9 s).getD (Ai WFd)).length (drop 0 ((C9 s).getD (Ai WFd)))) fun sh1=>ifT (decide (s.length<=4000000000)) (ifB (!(C9
 s).isSome) (some (V.tup [V.s (Ai UInt8),V.b false],[])) (ifB (!GM ns) (some (V.tup [V.s (Ai UInt8),V.b false],[])) (ifT (decide (sh1.length<=100000))
 (ifT (decide ((take (Cv sh1 ns).length (drop 0 (Cv sh1 ns))).length<=100000)&&(take (Cv sh1 ns).length (drop 0
 (Cv sh1 ns))).all Cw) (some (V.tup [V.s (fbs (take (Cv sh1 ns).length (drop 0 (Cv sh1 ns)))),V.b true],[]))))))):_):=by kernel_rfl
abbrev N1:FuncId->Option Ent:=Aa [(51,.rd1 CE),(52,.rd1 Nu)]
theorem H4 (ws:List Wt) (m:Nat) (n:Int) (o:List Int):As prog N1 (Aa [(5,El),(8,D6)]) 0 (body f19 0) El ([.ptr 0 0,.ref 1 0 m,.j n],[some (.box [.sl WCd ws]),R0 (.int .i64) o]) =
 ((shr (o++bif ((drop 0 ws).any fun w=>w.2.1==n)&&!decide (n∈o) then n::Ai Int else Ai Int) fun sh1=>ifB (decide (n<=30)) (ifT (decide ((0
 : Int)<=(0:Int)/\0<=ws.length/\(↑ws.length:Int)=(↑ws.length:Int)/\m=o.length/\ws.length<=20/\o.length<=100)) (some (Ex.normal,
 [V.ptr 0 0,V.ref 1 0 sh1.length,V.j (i64.wrap (n+1))],[some (Blk.box [V.sl WCd ws]),R0 (Cd.int .i64) sh1]))) (some (Ex.exit 0,
 [V.ref 0 0 m],[R0 (Cd.int .i64) o]))):_):=by kernel_rfl
theorem DN (ws wl:List Wt) (m:Nat) (n c i:Int) (o:List Int):As prog N1 (Aa [(5,El),(8,D6)]) 0 (body f19 1) D6 ([.ptr 0 0,.ref 1 0 m,.j n,.sl WCd wl,.j c,.j i],[some (.box [.sl WCd ws]),R0 (.int .i64) o]) =
 ((ifB (decide (i<c)) (ifT (decide (0<=i)&&decide (i<(↑wl.length:Int))) (Al wl[i.toNat]? fun z=>ifB (z.2.1==n) (ifB (!decide (n∈take m (drop
 0 o))) (ifT (decide ((m+1)*8<=140737488355328)&&decide (m+1<=maxI)) (some (Ex.normal,[V.ptr 0 0,V.ref 1 0 (m+(1 :
 Nat)),V.j n,V.sl WCd wl,V.j c,V.j (i64.wrap (i+1))],[some (Blk.box [V.sl WCd ws]),R0 (Cd.int .i64) (take m
 (drop 0 o)++n::Ai (Cd.int .i64).den)]))) (some (Ex.normal,[V.ptr 0 0,V.ref 1 0 m,V.j n,V.sl WCd wl,V.j c,V.j (i64.wrap (i
 + 1))],[some (Blk.box [V.sl WCd ws]),R0 (Cd.int .i64) o]))) (some (Ex.normal,[V.ptr 0 0,V.ref 1 0 m,V.j n,V.sl WCd wl,V.j c,V.i
 .i64 (i64.wrap (i+1))],[some (Blk.box [V.sl WCd ws]),R0 (Cd.int .i64) o])))) (some (Ex.exit 2,[V.ptr 0 0,V.ref 1 0 m,V.j n],
 [some (Blk.box [V.sl WCd ws]),R0 (Cd.int .i64) o]))):_):=by kernel_rfl
theorem Qb (ws:List Wt):Ba prog N1 (Aa [(5,El),(8,D6)]) f19 [.agg [.sl WCd ws]] [] =
 ((ifB (!Au ws) (some (V.tup [V.ref 0 0 0,V.b false],[R0 (Cd.int .i64) (Ai (Cd.int .i64).den)])) (ifT (decide ((1:Int)=(1:Int)/\Ai
 (Cd.int .i64).den=Ai (Cd.int .i64).den/\0=0/\ws.length<=20)) (some (V.tup [V.ref 0 0 (BX ws).length,V.b true],[R0 (Cd.int .i64) (BX ws)])))):_):=by kernel_rfl
theorem UI:Ar prog (Aa [(100,.rd1 AA)]) (Aa [(2,Pb)]) 0 (f56.body.getD .skip):=by
 refine Ap (a:=body f56 0) (by kernel_rfl) fun d ex d' h=>?_
 unfold Pb at h;dsimp only at h;split at h
 ·rename_i ns ns2 c i;obtain ⟨hc,hx⟩:=Ac h;obtain ⟨k1,k2,k3,k4,k5⟩:=of_decide_eq_true hc;obtain ⟨j,rfl⟩:=eq_ofNat_of_zero_le k1;simp only [ntN] at k2 hx;subst k3 k5;refine BZ (l:=range ns2.length) (ex:=((.exit 0:Ex),([],[]))) (rt:=((.ret:Ex),([.b false],[]))) (fun i=>decide (1<=ns2.getD i 0/\ns2.getD i 0<=30)&&BF ns2 i) (fun j=>([.sl (.int .i64) ns2,.sl (.int .i64) ns2,.j (ns2.length:Int),.j (j:Int)],[])) (by simp) (by simp) (fun n hn=>?_) ?_ (ns2.length-j) j (by rw [List.length_range]; omega) ex d' hx
  ·have hn:n<ns2.length:=by simpa using hn
   unfold maxI at k4;rw [List.getElem_range,Jp];have w1:i64.wrap ((n:Int)+1)=((n+1:Nat):Int):=by rw [An (by omega) (by omega)]; omega
   have g0:ns2.getD n 0=ns2[n]:=by rw [List.getD_eq_getElem?_getD,gtE hn]; rfl
   rw [Ag (dcT (by omega)),T2 (by omega),ntN,gtE hn,Am,w1,g0];unfold BF
   by_cases q:1<=ns2[n]/\ns2[n]<=30
   ·rw [dcT q,Bool.not_true,AL,Bool.true_and]
    cases n with
    | zero=>rw [Ad (dcF (by omega))]; rfl
    | succ n=>
     have w2:i64.wrap (((n+1:Nat):Int)-1)=(n:Int):=by rw [An (by omega) (by omega)]; omega
     have g1:ns2.getD n 0=ns2[n]:=by rw [List.getD_eq_getElem?_getD,gtE (by omega)]; rfl
     rw [Ag (dcT (by omega)),w2,T2 (by omega),ntN,gtE (by omega),Am,Nat.add_sub_cancel,g0,g1]
     by_cases q2:ns2[n]>=ns2[n+1]
     ·rw [Ag (dcT q2),dcF (Int.not_lt.2 q2)]; rfl
     ·rw [Ad (dcF q2),dcT (Int.not_le.1 q2)]; rfl
   ·rw [dcF q]; rfl
  ·have hr:=Jp ns2 ns2.length ns2.length;rw [Ad (dcF (by omega))] at hr;rw [List.length_range];exact hr
 ·cases h
theorem l5n:Ab prog 56 (Ent.rd1 UJ).F:=by
 refine EE (kc func100 LD KnowsL.nil).knows (Λ:=(Aa [(2,Pb)])) func56 (c:=f56.body.getD .skip) (by kernel_rfl) fun vs bs r hq hv hb=>?_
 unfold Ent.F UJ at hq;dsimp only at hq;split at hq
 ·rename_i ns;have hm:ns.length<=maxI:=(hv (.sl (.int .i64) ns) (by simp)).1;refine ⟨UI,(QZ ns).trans (Eq.trans ?_ hq)⟩;rw [Ae (dcT ⟨by omega,by omega,by first | trivial | rfl,hm,by first | trivial | rfl⟩),drop_zero]
  have e:GM ns=(range ns.length).all (fun i=>decide (1<=ns.getD i 0/\ns.getD i 0<=30)&&BF ns i):=by
   unfold GM H8;rw [Bool.eq_iff_iff,anE,all_eq_true,all_eq_true,all_eq_true];have gd : ∀ (i:Nat) (h:i<ns.length),ns.getD i 0=ns[i]:=fun i h=>by rw [List.getD_eq_getElem?_getD,gtE h]; rfl
   constructor
   ·rintro ⟨a1,a2⟩ i hi
    have hi':=mem_range.1 hi;rw [anE];refine ⟨?_,a2 i hi⟩;rw [gd i hi'];exact a1 _ (List.getElem_mem hi')
   ·intro a;refine ⟨fun x hx=>?_,fun i hi=>?_⟩
    ·obtain ⟨i,hi,rfl⟩:=List.getElem_of_mem hx;have:=a i (mem_range.2 hi);rw [anE,gd i hi] at this;exact this.1
    ·have:=a i hi;rw [anE] at this;exact this.2
  show _=some _;rw [e];cases (range ns.length).all (fun i=>decide (1<=ns.getD i 0/\ns.getD i 0<=30)&&BF ns i)<;>rfl
 ·cases hq
theorem UF (ns:List Int) (fs:List WFd) (hf:fs.length<=100000) (o:List WFd) (n:Nat) (h:n<fs.length) (ho:o.length<=n):As prog (Aa [(52,.rd1 Nu)]) (Aa [(3,L8)]) 0 (body f58 0) L8 ([.sl (.int .i64) ns,.b true,.ref 0 0 o.length,.sl FCd fs,.j (fs.length:Int),.j (n:Int)],[R0 FCd o])=some ((.normal:Ex),(fun (o:List WFd) (n:Nat)=>(([.sl (.int .i64) ns,.b true,.ref 0 0 o.length,.sl FCd fs,.j (fs.length:Int),.j (n:Int)],[R0 FCd o]):Dt)) (bif ns.contains fs[n].1 then o++[id fs[n]] else o) (n+1)):=by
 rw [Jo];have w1:i64.wrap ((n:Int)+1)=((n+1:Nat):Int):=by rw [An (by omega) (by omega)]; omega
 rw [Ag (dcT (by omega)),T2 (by omega),ntN,gtE h,Am,w1];have e:(decide (fs[n].1∈ns)==true)=ns.contains fs[n].1:=by rw [Bool.eq_iff_iff]; simp
 rw [e]
 cases ns.contains fs[n].1 with
 | false=>rw [AL]; rfl
 | true=>
  rw [Be,Ae (by simp only [anE,dcE]; unfold maxI; omega),drop_zero,take_length];simp only [cond_true,List.length_append,List.length_cons,List.length_nil,Nat.zero_add,AG,id]
theorem UG:Ar prog (Aa [(52,.rd1 Nu)]) (Aa [(3,L8)]) 0 (f58.body.getD .skip):=by
 refine Ap (a:=body f58 0) (by kernel_rfl) fun d ex d' h=>?_
 unfold L8 at h;dsimp only at h;split at h
 ·rename_i ns m fs c i o;obtain ⟨hc,hx⟩:=Ac h;obtain ⟨k1,k2,k3,k4,k5,k6⟩:=of_decide_eq_true hc;obtain ⟨j,rfl⟩:=eq_ofNat_of_zero_le k1;simp only [ntN] at k2 k6 hx;subst k3 k4
  have key:=FL (l:=fs) (fun p:WFd=>ns.contains p.1) id (fun (o:List WFd) (n:Nat)=>(([.sl (.int .i64) ns,.b true,.ref 0 0 o.length,.sl FCd fs,.j (fs.length:Int),.j (n:Int)],[R0 FCd o]):Dt)) (fun o=>((.exit 0:Ex),([.ref 0 0 o.length],[R0 FCd o]))) (by simp) (fun o n h ho=>UF ns fs k5 o n h ho) (fun o ho=>by
   rw [Jo,Ad (dcF (by omega))]) (fs.length-j) j o (by omega) k6
  have hx:=AI hx;unfold Cv at hx;obtain ⟨rfl,rfl⟩:=Prod.mk.inj hx;simp only [List.map_id_fun,id] at key;exact key
 ·cases h
theorem l5p:Ab prog 58 (Ent.rd1 UH).F:=by
 refine fcC (kc func52 VT KnowsL.nil).knows (Λ:=(Aa [(3,L8)])) func58 fun vs bs r hq=>?_
 unfold Ent.F UH at hq;dsimp only at hq;split at hq
 ·rename_i fs ns;obtain ⟨hc,hx⟩:=Ac hq;have hc:=of_decide_eq_true hc;refine ⟨UG,(QY fs ns).trans (Eq.trans ?_ hx)⟩;dsimp only [shr];rw [Ae (dcT ⟨by omega,by omega,by first | trivial | rfl,by first | trivial | rfl,hc,by omega⟩)];simp only [AG,drop_zero,List.nil_append]
  try rfl
 ·cases hq
theorem vw:Ab prog 23 (Ent.rd1 vwG).F:=by
 refine fcC (kc func37 VD (kc func56 l5n (kc func58 l5p (kc func57 WJ KnowsL.nil)))).knows (Λ:=Aa []) func23 fun vs bs r hq=>?_
 unfold Ent.F vwG at hq;dsimp only at hq;split at hq
 ·rename_i s ns;obtain ⟨hc,hx⟩:=Ac hq;refine ⟨Aj _,(Sm s ns).trans (Eq.trans ?_ hx)⟩;dsimp only [shr];rw [Ae hc];simp only [AG,drop_zero,take_length];show _=some _;unfold vwL vwB
  cases h:C9 s with
  | none=>rfl
  | some l=>
   obtain ⟨b1,b2,b3,b4⟩:=Gq h (fun f=>ns.contains f.1);have hp:(Cv l ns).length<=100000:=by have:=length_filter_le (fun f:WFd=>ns.contains f.1) l; unfold Cv; omega
   simp only [Option.isSome_some,Option.getD_some,Bool.not_true,AL,Bool.true_and]
   cases hn:GM ns with
   | false=>rfl
   | true=>
    have h4:(Cv l ns).all Cw=true:=b4;rw [Bool.not_true,AL,Ae (dcT (by omega)),h4,dcT hp];rfl
 ·cases hq
def FS (ws:List Wt) (k:Nat):List Int:=((range k).map fun i=>((i+1:Nat):Int)).filter fun no=>ws.any fun w=>w.2.1==no
theorem JU (ws wl:List Wt) (n:Int) (hl:wl.length<=20) (o:List Int) (q:n∈o) : ∀ (k j:Nat),j+k=wl.length->
  Runs prog N1 (Aa [(5,El),(8,D6)]) 0 (body f19 1) D6 ([.ptr 0 0,.ref 1 0 o.length,.j n,.sl WCd wl,.j (wl.length:Int),.j (j:Int)],[some (.box [.sl WCd ws]),R0 (.int .i64) o]) (.exit 2) ([.ptr 0 0,.ref 1 0 o.length,.j n],[some (.box [.sl WCd ws]),R0 (.int .i64) o])
 | 0,j,hj=>by
  have hr:=DN ws wl o.length n wl.length j o;rw [Ad (dcF (by omega))] at hr;exact stp hr
 | k+1,j,hj=>by
  have hl2:j<wl.length:=by omega
  have hr:=DN ws wl o.length n wl.length j o;have W1:i64.wrap ((j:Int)+1)=((j+1:Nat):Int):=by rw [An (by omega) (by omega)]; omega
  rw [Ag (dcT (by omega)),T2 (by omega),ntN,gtE hl2,Am,W1] at hr;rw [drop_zero,take_length,dcT q,Bool.not_true,AL] at hr;refine sts (hr.trans ?_) (JU ws wl n hl o q k (j+1) (by omega));cases wl[j].2.1==n<;>rfl
theorem Ja (ws wl:List Wt) (n:Int) (hl:wl.length<=20) (o:List Int) (ho:o.length<=100) : ∀ (k j:Nat),j+k=wl.length->
  Runs prog N1 (Aa [(5,El),(8,D6)]) 0 (body f19 1) D6 ([.ptr 0 0,.ref 1 0 o.length,.j n,.sl WCd wl,.j (wl.length:Int),.j (j:Int)],[some (.box [.sl WCd ws]),R0 (.int .i64) o]) (.exit 2) ([.ptr 0 0,.ref 1 0 (o++bif ((wl.drop j).any fun w=>w.2.1==n)&&!decide (n∈o) then [n] else []).length,.j n],[some (.box [.sl WCd ws]),R0 (.int .i64) (o++bif ((wl.drop j).any fun w=>w.2.1==n)&&!decide (n∈o) then [n] else [])])
 | 0,j,hj=>by
  have hr:=DN ws wl o.length n wl.length j o;rw [Ad (dcF (by omega))] at hr;rw [List.drop_eq_nil_of_le (by omega),List.any_nil,Bool.false_and,cond_false,append_nil];exact stp hr
 | k+1,j,hj=>by
  by_cases q:n∈o
  ·rw [dcT q,Bool.not_true,Bool.and_false,cond_false,append_nil];exact JU ws wl n hl o q (k+1) j hj
  ·have hl2:j<wl.length:=by omega
   have hr:=DN ws wl o.length n wl.length j o;have W1:i64.wrap ((j:Int)+1)=((j+1:Nat):Int):=by rw [An (by omega) (by omega)]; omega
   rw [Ag (dcT (by omega)),T2 (by omega),ntN,gtE hl2,Am,W1] at hr;rw [drop_zero,take_length,dcF q,Bool.not_false,Be,Ae (by simp only [anE,dcE]; unfold maxI; omega),AG] at hr;rw [List.drop_eq_getElem_cons hl2,List.any_cons]
   cases q1:wl[j].2.1==n with
   | false=>
    rw [q1,AL] at hr;rw [Bool.false_or];exact sts hr (Ja ws wl n hl o ho k (j+1) (by omega))
   | true=>
    rw [q1,Be] at hr;rw [Bool.true_or,dcF q,Bool.not_false,Bool.and_true,cond_true];have ih:=JU ws wl n hl (o++[n]) (List.mem_append_right _ (mem_singleton.2 rfl)) k (j+1) (by omega);refine sts (hr.trans ?_) ih;rw [List.length_append]; rfl
theorem UC (ws:List Wt) (k:Nat):FS ws (k+1)=FS ws k++bif ((ws.drop 0).any fun w=>w.2.1==((k+1:Nat):Int))&&!decide (((k+1:Nat):Int)∈FS ws k) then [((k+1:Nat):Int)] else []:=by
 have hn : ¬((k+1:Nat):Int)∈FS ws k:=fun h=>by
  unfold FS at h;obtain ⟨i,hi,e⟩:=mem_map.1 (mem_filter.1 h).1;have:=mem_range.1 hi;omega
 rw [dcF hn,Bool.not_false,Bool.and_true,drop_zero];unfold FS
 have e:List.filter (fun no=>ws.any fun w=>w.2.1==no) (List.map (fun i=>((i+1:Nat):Int)) [k])=bif ws.any (fun w=>w.2.1==((k+1:Nat):Int)) then [((k+1:Nat):Int)] else []:=by
  rw [List.map_cons,List.map_nil,List.filter_cons,List.filter_nil];cases ws.any fun w=>w.2.1==((k+1:Nat):Int)<;>rfl
 rw [List.range_succ,List.map_append,List.filter_append,e]
theorem QK (ws:List Wt) (k:Nat):(FS ws k).length<=k:=by
 unfold FS;refine Nat.le_trans (length_filter_le _ _) ?_;simp
theorem Jb (ws:List Wt) (hl:ws.length<=20) : ∀ (j k:Nat),k+j=30->
  Runs prog N1 (Aa [(5,El),(8,D6)]) 0 (body f19 0) El ([.ptr 0 0,.ref 1 0 (FS ws k).length,.j ((k+1:Nat):Int)],[some (.box [.sl WCd ws]),R0 (.int .i64) (FS ws k)]) (.exit 0) ([.ref 0 0 (BX ws).length],[R0 (.int .i64) (BX ws)])
 | 0,k,hk=>by
  have hr:=H4 ws (FS ws k).length ((k+1:Nat):Int) (FS ws k);dsimp only [shr] at hr;rw [Ad (dcF (by omega))] at hr;obtain rfl:k=30:=by omega
  exact stp hr
 | j+1,k,hk=>by
  have hr:=H4 ws (FS ws k).length ((k+1:Nat):Int) (FS ws k);dsimp only [shr] at hr;have hkl:=QK ws k;have W1:i64.wrap (((k+1:Nat):Int)+1)=((k+1+1:Nat):Int):=by rw [An (by omega) (by omega)]; omega
  rw [Ag (dcT (by omega)),Ae (dcT ⟨by omega,by omega,by first | trivial | rfl,by first | trivial | rfl,hl,by omega⟩),W1,AG,<-UC] at hr;exact sts hr (Jb ws hl j (k+1) (by omega))
theorem Uu:Ar prog N1 (Aa [(5,El),(8,D6)]) 0 (f19.body.getD .skip):=by
 refine LoopsI.loops (cs:=[body f19 0,body f19 1]) ?_ (by kernel_rfl);refine .cons (ent:=El) (by rfl) (fun d ex d' h=>?_) (.cons (ent:=D6) (by rfl) (fun d ex d' h=>?_) .nil)
 ·unfold El at h;dsimp only at h;split at h
  ·rename_i m n ws o;obtain ⟨hc,hx⟩:=Ac h;clear h;obtain ⟨rfl,rfl,rfl,h4⟩:=of_decide_eq_true hc;obtain ⟨rfl,rfl⟩:=lfP hx;exact Jb ws h4 30 0 (by omega)
  ·cases h
 ·unfold D6 at h;dsimp only at h;split at h
  ·rename_i m n wl c i ws o;obtain ⟨hc,hx⟩:=Ac h;clear h;obtain ⟨h0,h1,rfl,rfl,h5,h6⟩:=of_decide_eq_true hc;obtain ⟨j,rfl⟩:=eq_ofNat_of_zero_le h0;simp only [ntN] at h1 hx;obtain ⟨rfl,rfl⟩:=lfP hx;exact Ja ws wl n h5 o h6 (wl.length-j) j (by omega)
  ·cases h
theorem W6:Ab prog 19 (Ent.rd1 S6).F:=by
 refine fcC (kc func51 M7 (kc func52 VT KnowsL.nil)).knows (Λ:=(Aa [(5,El),(8,D6)])) func19 fun vs bs r hq=>?_
 unfold Ent.F S6 at hq;dsimp only at hq;split at hq
 ·rename_i ws;refine ⟨Uu,(Qb ws).trans (Eq.trans ?_ hq)⟩;show _=some _;unfold CB
  cases hg:Au ws with
  | false=>rfl
  | true=>
   rw [Bool.not_true,AL,Ae (dcT ⟨by first | trivial | rfl,by first | trivial | rfl,by first | trivial | rfl,(AS hg).2.2⟩)];rfl
 ·cases hq
def PY:Gm
 | [.ref 0 0 n],[.row false _ (.int .i64) l]=>.need (decide (n=l.length/\n<=1000000000)) (.leaf (.tup [],[R0 (.int .i64) (l.mergeSort fun x y=>decide (x<=y))]))
 | _,_=>.no
def Hw (l:List Int):List Int:=List.replicate (l.length-(Go.Lib.compact l).length) 0
def Sc:Gm
 | [.ref 0 0 n],[.row false _ (.int .i64) l]=>.need (decide (n=l.length/\n<=1000000000)) (.leaf (.ref 0 0 (Go.Lib.compact l).length,[R0 (.int .i64) (Go.Lib.compact l++Hw l)]))
 | _,_=>.no
open Go.Shelf in
def Up:Ren:=⟨fun k=>match k with | 125=>99 | 128=>148 | 129=>149 | 189=>49 | 215=>174 | 216=>145 | 257=>98 | 294=>139 | 295=>140 | 296=>141 | 297=>142 | 298=>143 | 299=>144 | 300=>146 | 301=>147 | 328=>169 | 329=>170 | 330=>171 | 331=>172 | 332=>173 | 343=>178 | k=>k,
 fun k=>match k with | 0=>0 | 3=>3 | 4=>4 | 5=>5 | 9=>9 | 28=>30 | 46=>153 | 51=>188 | 53=>88 | 131=>52 | 182=>180 | 183=>181 | 218=>200 | 222=>204 | 228=>207 | 229=>208 | k=>k,fun k=>k⟩
open Go.Shelf in
theorem NC:Lays.n189 prog Up:=⟨by kernel_rfl,by kernel_rfl,by kernel_rfl,by kernel_rfl,by kernel_rfl,by kernel_rfl,by kernel_rfl,by kernel_rfl,by kernel_rfl,by kernel_rfl,by kernel_rfl,by kernel_rfl,by kernel_rfl,by kernel_rfl,by kernel_rfl,by kernel_rfl,by kernel_rfl,by kernel_rfl,by kernel_rfl,by kernel_rfl,by kernel_rfl,by kernel_rfl,by kernel_rfl,fun w=>by kernel_rfl,fun w=>by kernel_rfl,fun w=>by kernel_rfl,by kernel_rfl,fun w=>by kernel_rfl,fun w=>by kernel_rfl,fun w=>by kernel_rfl,by kernel_rfl,fun w=>by kernel_rfl,fun w=>by kernel_rfl,fun w=>by kernel_rfl,by kernel_rfl,fun w=>by kernel_rfl,fun w=>by kernel_rfl,fun w=>by kernel_rfl,by kernel_rfl,fun w=>by kernel_rfl,fun w=>by kernel_rfl,fun w=>by kernel_rfl,by kernel_rfl,fun w=>by kernel_rfl,fun w=>by kernel_rfl,fun w=>by kernel_rfl,by kernel_rfl,fun w=>by kernel_rfl,fun w=>by kernel_rfl,fun w=>by kernel_rfl,by kernel_rfl,fun w=>by kernel_rfl,fun w=>by kernel_rfl,fun w=>by kernel_rfl,by kernel_rfl,fun w=>by kernel_rfl,fun w=>by kernel_rfl,fun w=>by kernel_rfl,by kernel_rfl,fun w=>by kernel_rfl,fun w=>by kernel_rfl,fun w=>by kernel_rfl,by kernel_rfl,fun w=>by kernel_rfl,fun w=>by kernel_rfl,fun w=>by kernel_rfl,by kernel_rfl,fun w=>by kernel_rfl,fun w=>by kernel_rfl,fun w=>by kernel_rfl,by kernel_rfl,fun w=>by kernel_rfl,fun w=>by kernel_rfl,fun w=>by kernel_rfl,by kernel_rfl,fun w=>by kernel_rfl,fun w=>by kernel_rfl,fun w=>by kernel_rfl,by kernel_rfl,fun w=>by kernel_rfl,fun w=>by kernel_rfl,fun w=>by kernel_rfl,by kernel_rfl,fun w=>by kernel_rfl,fun w=>by kernel_rfl,fun w=>by kernel_rfl⟩
open Go.Shelf in
def V2:Ren:=⟨fun k=>match k with | 20=>50 | k=>k,
 fun k=>match k with | 0=>0 | 3=>3 | 4=>4 | 22=>30 | k=>k,fun k=>k⟩
open Go.Shelf in
theorem Oy:Lays2.n20 prog V2:=⟨by kernel_rfl,by kernel_rfl,by kernel_rfl,fun w=>by kernel_rfl,fun w=>by kernel_rfl,fun w=>by kernel_rfl,by kernel_rfl,fun w=>by kernel_rfl,fun w=>by kernel_rfl,fun w=>by kernel_rfl,by kernel_rfl,fun w=>by kernel_rfl,fun w=>by kernel_rfl,fun w=>by kernel_rfl,by kernel_rfl,fun w=>by kernel_rfl,fun w=>by kernel_rfl,fun w=>by kernel_rfl,by kernel_rfl⟩
theorem G2 {w w':World} {R:Nat->Prop} {μ:Nat->Option RB} {l l':List Int} {nl:Option Bool} {rb:RB} {r:V} {u:Value} (hmem:Mem w R μ (fun j=>([.row false nl (.int .i64) l]:List Blk)[j]?)) (hnone : ∀ j,1<=j->μ j=none) (hm0:μ 0=some rb)
  (ho:w'.os=w.os) (ht:w'.tape=w.tape) (hp:w'.output=w.output) (hg:w.heap.size<=w'.heap.size) (hs : ∀ k,k<w.heap.size->rb.real≠some k->w'.heap[k]? = w.heap[k]?) (hB:BRep w' R μ rb (.row false none (.int .i64) l')) (hval:VRep w' R μ r u) :
  Left w R μ (fun j=>([.row false nl (.int .i64) l]:List Blk)[j]?) r [R0 (.int .i64) l'] u w' R μ:=by
 have at0 : ∀ j B,(([R0 (.int .i64) l']:List (Option Blk))[j]?).join=some B->j=0/\B = .row false none (.int .i64) l':=fun j B hB=>by
  match j with
  | 0=>simp at hB; exact ⟨rfl,hB.symm⟩
  | j+1=>simp at hB
 refine ⟨hval,⟨fun id B h=>?_,fun id id' B B' rb1 rb2 x h1 h2 _ _ _ _ _ _=>?_,fun id B rb1 x h1 _ m1 e1=>?_,fun x hx=>Nat.lt_of_lt_of_le (hmem.rlt x hx) hg⟩,ho,ht,hp,hg,fun k hk hn=>?_,fun x h=>h,fun x h=>.inl h,fun j B rb1 x h1 _ m1 e1=>?_,fun j B rb1 x h1 m1 e1=>?_,fun _ _ h=>h,hnone⟩
 ·obtain ⟨rfl,rfl⟩:=at0 id B h;exact ⟨rb,hm0,hB⟩
 ·rw [(at0 id B h1).1,(at0 id' B' h2).1]
 ·obtain ⟨rfl,rfl⟩:=at0 id B h1;rw [hm0] at m1; simp at m1; subst m1;exact hmem.sep 0 (.row false nl (.int .i64) l) rb x rfl rfl hm0 e1
 ·exact hs k hk (fun e=>hn ⟨0,.row false nl (.int .i64) l,rb,rfl,rfl,hm0,e⟩)
 ·obtain ⟨rfl,rfl⟩:=at0 j B h1;rw [hm0] at m1; simp at m1; subst m1;exact .inl ⟨0,.row false nl (.int .i64) l,rb,rfl,rfl,hm0,e1⟩
 ·obtain ⟨rfl,rfl⟩:=at0 j B h1;rw [hm0] at m1; simp at m1; subst m1;exact .inl ⟨0,.row false nl (.int .i64) l,rb,rfl,hm0,e1⟩
open Go.Sort in
theorem L7 {w:World} {R:Nat->Prop} {μ:Nat->Option RB} {l l':List Int} {nl:Option Bool} {b off cap q:Nat} {os:Array Obj} {us:Array Value} {e:TypeId} {r:V} {u:Value} (hmem:Mem w R μ (fun j=>([.row false nl (.int .i64) l]:List Blk)[j]?)) (hnone : ∀ j,1<=j->μ j=none) (hm0:μ 0=some (.at b off 1 cap l.length))
  (hh:w.heap[b]? = some (.cells us e (0,0))) (hl:l'.length=l.length) (hc:l.length<=cap) (hc2:cap<=maxI) (hz:off+cap<=us.size) (hval : ∀ w':World,VRep w' R μ r u) :
  Left w R μ (fun j=>([.row false nl (.int .i64) l]:List Blk)[j]?) r [R0 (.int .i64) l'] u (grow (putRow (Value.int .i64) (Go.Sort.ahead w q) b off l'.toArray) os) R μ:=by
 have hb:b<w.heap.size:=(Array.getElem?_eq_some_iff.1 hh).1;have hsz:(putRow (Value.int .i64) (Go.Sort.ahead w q) b off l'.toArray).heap.size=w.heap.size:=by simp [Go.Sort.ahead]
 have other : ∀ k,k<w.heap.size->k≠b->(grow (putRow (Value.int .i64) (Go.Sort.ahead w q) b off l'.toArray) os).heap[k]? = w.heap[k]?:=fun k hk hkb=>by
  rw [heap_grow_old _ _ (by rw [hsz]; exact hk)];unfold putRow mapBlock Go.Sort.ahead;simp [Array.getElem?_modify,Ne.symm hkb]
 have here:(grow (putRow (Value.int .i64) (Go.Sort.ahead w q) b off l'.toArray) os).heap[b]? = some (.cells (putCells (Value.int .i64) off l'.toArray us) e (0,0)):=by
  rw [heap_grow_old _ _ (by rw [hsz]; exact hb)];unfold putRow mapBlock Go.Sort.ahead;simp only [Array.getElem?_modify,if_true,hh,map_some,onCells]
 refine G2 hmem hnone hm0 rfl rfl rfl (by rw [size_grow,hsz]; omega) (fun k hk hne=>other k hk (fun e=>hne (by rw [e]; rfl))) ?_ (hval _);refine .row b off 1 cap l.length false none (.int .i64) l' _ e rfl here ⟨hl,hc⟩ hc2 ?_ ?_ (by simp)
 ·unfold putCells; simp; omega
 ·intro i z j v hi hv;have hil:i<l'.length:=(List.getElem?_eq_some_iff.1 hi).1
  match j with
  | 0=>
   simp only [enc,List.getElem?_cons_zero,Option.some.injEq] at hv;subst hv;refine ⟨.int .i64 z,?_,.i _ _⟩;unfold putCells;rw [Array.getElem?_mapIdx];have:off+(i*1+0)<us.size:=by omega
   rw [Array.getElem?_eq_getElem this,map_some,if_pos (by simp; omega)];have e2:off+(i*1+0)-off=i:=by omega
   rw [e2];have h3:=(List.getElem?_eq_some_iff.1 hi).2;simp [hil,h3]
  | j+1=>simp [enc] at hv
theorem NS {w:World} {R:Nat->Prop} {μ:Nat->Option RB} {l:List Int} {nl:Option Bool} {u0:Value} (hmem:Mem w R μ (fun j=>([.row false nl (.int .i64) l]:List Blk)[j]?)) (hv:VRep w R μ (.ref 0 0 l.length) u0) :
  (∃ ao cap,u0 = .slice ao 0 cap/\l=[]/\∃ rb,μ 0=some rb/\BRep w R μ rb (.row false none (.int .i64) []))\/∃ b off cap us e,u0 = .slice (some ⟨b,off,none⟩) l.length cap/\0<l.length/\μ 0=some (.at b off 1 cap l.length)/\w.heap[b]? = some (.cells us e (0,0))/\l.length<=cap/\cap<=maxI/\off+cap<=us.size/\∀ i z,l[i]? = some z->us[off+i]? = some (.int .i64 z):=by
 obtain ⟨rb,hm0,hB⟩:=hmem.blk 0 _ rfl;have nil:l.length=0->l=[]:=List.eq_nil_of_length_eq_zero;generalize hn:l.length=n at hv
 cases hv with
 | vac _ ao hv0=>
  have hl:=nil hn;subst hl;exact .inl ⟨ao,0,rfl,rfl,rb,hm0,hB.noNl⟩
 | ref _ _ _ b off k cap len a hv0 q0 q1 q2 q3=>
  by_cases h0:n=0
  ·have hl:=nil (hn.trans h0);subst hl;subst h0;exact .inl ⟨some a,cap-0,rfl,rfl,rb,hm0,hB.noNl⟩
  ·rw [hm0] at hv0; simp at hv0; subst hv0
   cases hB with
   | row _ _ _ _ _ _ _ _ _ us e hk hh p1 p2 p3 p4 p5=>
   simp [Cd.size] at hk; subst hk
   have ha:a=⟨b,off,none⟩:=by
    rcases q3 with h | h
    ·omega
    ·simpa using h
   subst ha;refine .inr ⟨b,off,cap,us,e,?_,by omega,?_,hh,by omega,p2,by omega,fun i z hz=>?_⟩
   ·rw [Nat.sub_zero]
   ·rw [hm0,<-p1.1,hn]
   ·obtain ⟨u,g1,g2⟩:=p4 i z 0 (.j z) hz rfl;cases g2;rw [<-g1]; congr 1; omega
open Go.Sort in
theorem J0 {w:World} {l:List Int} {b off:Nat} {us:Array Value} {e:TypeId} (hh:w.heap[b]? = some (.cells us e (0,0))) (h : ∀ i z,l[i]? = some z->us[off+i]? = some (.int .i64 z)):Holds (Value.int .i64) w b off l.toArray:=fun j hj=>by
 have hj:j<l.length:=by simpa using hj
 have h1:=h j l[j] (by simp [hj]);refine ⟨?_,by simp [World.frozen?,hh]⟩;simp only [World.cell?,hh,h1];simp [hj]
theorem W5:Ab prog 49 (Ent.own PY).F:=by
 intro w R μ vs us bs r outs hmem hnone hreps hF;unfold Ent.F PY at hF;dsimp only at hF;split at hF
 rotate_left
 ·cases hF
 rename_i n nl l;obtain ⟨hc,h⟩:=Ac hF;obtain ⟨rfl,hn⟩:=of_decide_eq_true hc;obtain ⟨rfl,rfl⟩:=Prod.mk.inj (AI h);clear h hF hc
 match us,hreps with
 | [u0],hreps=>
 have v0:=hreps.2 0 _ u0 rfl rfl;have ht : ∀ w':World,VRep w' R μ (.tup []) (.tuple #[]):=fun w'=>.tup [] #[] rfl (by simp)
 rcases NS hmem v0 with ⟨ao,cap,rfl,rfl,rb,hm0,hB⟩ | ⟨b,off,cap,us,e,rfl,h0,hm0,hh,h1,h2,h3,h4⟩
 ·refine (calls_of_every_depth fun D=>AnyS.slices_Sort_int_none_alone NC D ao cap w).mono ?_
  rintro e w' ⟨rfl,rfl⟩
  refine ⟨_,R,μ,rfl,?_⟩;rw [List.mergeSort_nil];exact G2 (l':=[]) hmem hnone hm0 rfl rfl rfl (Nat.le_refl _) (fun _ _ _=>rfl) hB (ht _)
 ·refine (calls_of_every_depth fun D=>AnyS.slices_Sort_int_alone NC D b off cap l w (J0 hh h4) (Array.getElem?_eq_some_iff.1 hh).1 (by omega)).mono ?_
  rintro e' w' ⟨rfl,q,os,rfl⟩
  exact ⟨_,R,μ,rfl,L7 hmem hnone hm0 hh (List.length_mergeSort _) h1 h2 h3 ht⟩
theorem WM:Ab prog 50 (Ent.own Sc).F:=by
 intro w R μ vs us bs r outs hmem hnone hreps hF;unfold Ent.F Sc at hF;dsimp only at hF;split at hF
 rotate_left
 ·cases hF
 rename_i n nl l;obtain ⟨hc,h⟩:=Ac hF;obtain ⟨rfl,hn⟩:=of_decide_eq_true hc;obtain ⟨rfl,rfl⟩:=Prod.mk.inj (AI h);clear h hF hc
 match us,hreps with
 | [u0],hreps=>
 have v0:=hreps.2 0 _ u0 rfl rfl
 have hle:(Go.Lib.compact l).length<=l.length:=by
  unfold Go.Lib.compact Go.Lib.compactUpTo;rw [List.length_map];exact Nat.le_trans (length_filter_le _ _) (by simp)
 rcases NS hmem v0 with ⟨ao,cap,rfl,rfl,rb,hm0,hB⟩ | ⟨b,off,cap,us,e,rfl,h0,hm0,hh,h1,h2,h3,h4⟩
 ·refine (calls_of_every_depth fun D=>AnyS.slices_Compact_int_empty_in Oy D ao cap w).mono ?_
  rintro e w' ⟨rfl,rfl⟩
  exact ⟨_,R,μ,rfl,G2 (l':=[]) hmem hnone hm0 rfl rfl rfl (Nat.le_refl _) (fun _ _ _=>rfl) hB v0⟩
 ·refine (calls_of_every_depth fun D=>AnyS.slices_Compact_int_in Oy D b off cap l w (J0 hh h4) (by omega) h1).mono ?_
  rintro e' w' ⟨rfl,q,rfl⟩
  have:=L7 (q:=q) (os:=#[]) (l':=Go.Lib.compact l++Hw l) (r:=.ref 0 0 (Go.Lib.compact l).length) (u:=.slice (some ⟨b,off,none⟩) (Go.Lib.compact l).length (cap-0)) hmem hnone hm0 hh (by unfold Hw; simp; omega) h1 h2 h3 (fun w'=>.ref 0 0 _ b off 1 cap l.length ⟨b,off,none⟩ hm0 h1 (by omega) h2 (.inr (by simp)));rw [Go.Sort.grow_empty] at this;exact ⟨_,R,μ,rfl,this⟩

theorem Ox {l:List Int} (hs : ∀ i j,i<=j->j<l.length->l.toArray[i]!<=l.toArray[j]!) : ∀ m,m<=l.length->(Go.Lib.compactUpTo l.toArray m).Pairwise (· < ·)/\(∀ x∈Go.Lib.compactUpTo l.toArray m,∃ j,j<m/\x=l.toArray[j]!)/\∀ j,j<m->l.toArray[j]!∈Go.Lib.compactUpTo l.toArray m
 | 0,_=>⟨by simp [Go.Lib.compactUpTo],by simp [Go.Lib.compactUpTo],by simp⟩
 | m+1,hm=>by
  obtain ⟨h1,h2,h3⟩:=Ox hs m (by omega);rw [Go.Lib.compactUpTo_succ]
  by_cases hk:Go.Lib.keeps l.toArray m=true
  ·rw [if_pos hk];refine ⟨List.pairwise_append.2 ⟨h1,List.pairwise_singleton _ _,fun x hx y hy=>?_⟩,fun x hx=>?_,fun j hj=>?_⟩
   ·obtain rfl:=mem_singleton.1 hy;obtain ⟨j,hj,rfl⟩:=h2 x hx
    have ne:l.toArray[m]!≠l.toArray[m-1]!:=fun e=>by
     rw [Go.Lib.keeps_neg (by omega) e] at hk; cases hk
    have g1:=hs j (m-1) (by omega) (by omega);have g2:=hs (m-1) m (by omega) (by omega);omega
   ·rcases List.mem_append.1 hx with hx | hx
    ·obtain ⟨j,hj,e⟩:=h2 x hx;exact ⟨j,by omega,e⟩
    ·exact ⟨m,by omega,mem_singleton.1 hx⟩
   ·rcases lt_or_ge j m with q | q
    ·exact List.mem_append_left _ (h3 j q)
    ·obtain rfl:j=m:=by omega
     exact List.mem_append_right _ (mem_singleton.2 rfl)
  ·rw [if_neg hk,append_nil];refine ⟨h1,fun x hx=>?_,fun j hj=>?_⟩
   ·obtain ⟨j,hj,e⟩:=h2 x hx;exact ⟨j,by omega,e⟩
   ·rcases lt_or_ge j m with q | q
    ·exact h3 j q
    ·obtain rfl:j=m:=by omega
     have h0:0<j:=by
      rcases Nat.eq_zero_or_pos j with q0 | q0
      ·subst q0; exact absurd (Go.Lib.keeps_lt_one _ 0 (by omega)) hk
      ·exact q0
     have e:l.toArray[j]! = l.toArray[j-1]!:=Classical.byContradiction fun ne=>hk (Go.Lib.keeps_pos ne)
     rw [e]; exact h3 (j-1) (by omega)
theorem QW : ∀ (a b:List Int),a.Pairwise (· < ·)->b.Pairwise (· < ·)->(∀ x,x∈a↔x∈b)->a=b
 | [],[],_,_,_=>rfl
 | [],y::b,_,_,h=>absurd ((h y).2 mem_cons_self) (by simp)
 | x::a,[],_,_,h=>absurd ((h x).1 mem_cons_self) (by simp)
 | x::a,y::b,ha,hb,h=>by
  rw [List.pairwise_cons] at ha hb
  have e:x=y:=by
   rcases mem_cons.1 ((h x).1 mem_cons_self) with e | e
   ·exact e
   ·rcases mem_cons.1 ((h y).2 mem_cons_self) with e2 | e2
    ·exact e2.symm
    ·have:=hb.1 x e; have:=ha.1 y e2; omega
  subst e;rw [QW a b ha.2 hb.2 fun z=>⟨fun hz=>?_,fun hz=>?_⟩]
  ·rcases mem_cons.1 ((h z).1 (List.mem_cons_of_mem _ hz)) with e | e
   ·have:=ha.1 z hz; omega
   ·exact e
  ·rcases mem_cons.1 ((h z).2 (List.mem_cons_of_mem _ hz)) with e | e
   ·have:=hb.1 z hz; omega
   ·exact e
theorem Sb {a b:List Int} (hb:b.Pairwise (· < ·)) (h : ∀ x,x∈a↔x∈b):Go.Lib.compact (a.mergeSort fun x y=>decide (x<=y))=b:=by
 have hp:(a.mergeSort fun x y=>decide (x<=y)).Pairwise fun x y=>decide (x<=y)=true:=List.pairwise_mergeSort (fun x y z h1 h2=>by simp only [dcE] at *; omega) (fun x y=>by simp only [Bool.or_eq_true,dcE]; omega) a
 have hm : ∀ x,x∈(a.mergeSort fun x y=>decide (x<=y))↔x∈a:=fun x=>List.mem_mergeSort
 generalize (a.mergeSort fun x y=>decide (x<=y))=s at hp hm
 have hs : ∀ i j,i<=j->j<s.length->s.toArray[i]!<=s.toArray[j]!:=fun i j hij hj=>by
  have e1:s.toArray[i]! = s[i]'(by omega):=by simp [show i<s.length by omega]
  have e2:s.toArray[j]! = s[j]:=by simp [hj]
  rw [e1,e2];rcases lt_or_ge i j with q | q
  ·have:=List.pairwise_iff_getElem.1 hp i j (by omega) hj q
   simpa using this
  ·obtain rfl:i=j:=by omega
   exact Int.le_refl _
 obtain ⟨h1,h2,h3⟩:=Ox hs s.length (Nat.le_refl _);refine QW _ _ h1 hb fun x=>?_
 rw [<-h,<-hm];constructor
 ·intro hx;obtain ⟨j,hj,rfl⟩:=h2 x hx;rw [show s.toArray[j]! = s[j] by simp [hj]];exact List.getElem_mem hj
 ·intro hx;obtain ⟨j,hj,rfl⟩:=List.getElem_of_mem hx;have:=h3 j hj
  rwa [show s.toArray[j]! = s[j] by simp [hj]] at this
theorem QJ {ws:List Wt} (hg:Au ws=true):Go.Lib.compact (((ws.filter fun w=>decide (w.2.1>0)).map fun w=>w.2.1).mergeSort fun x y=>decide (x<=y))=BX ws:=by
 refine Sb (NV ws) fun x=>?_
 rw [HH,mem_map];constructor
 ·rintro ⟨w,hw,rfl⟩
  obtain ⟨h1,h2⟩:=mem_filter.1 hw;have h2:w.2.1>0:=of_decide_eq_true h2;obtain ⟨j,hj,rfl⟩:=List.getElem_of_mem h1;have hb:=(AS hg).1 j hj
  by_cases hk:ws[j].1=6\/ws[j].1=7\/ws[j].1=8
  ·have:=O2 hb hk; omega
  ·have:=IT hb (by omega) (by omega) (by omega);exact ⟨⟨this.1,this.2.1⟩,_,h1,rfl⟩
 ·rintro ⟨⟨h1,h2⟩,w,hw,rfl⟩
  exact ⟨w,mem_filter.2 ⟨hw,dcT (by omega)⟩,rfl⟩
def IC (ws:List Wt):List Int:=(ws.filter fun w=>decide (w.2.1>0)).map fun w=>w.2.1
def Uq (l:List Int):List Int:=l.mergeSort fun x y=>decide (x<=y)
def KC (ws:List Wt):List Int:=bif Au ws then Hw (Uq (IC ws)) else []
def Th:Gm
 | [.agg [.sl WCd ws]],[]=>.leaf (.tup [.ref 0 0 (CB ws).length,.b (Au ws)],[R0 (.int .i64) (CB ws++KC ws)])
 | _,_=>.no
def LK:LoopEnt:=⟨31,[4,12,13,14],[4],[],fun
 | ([.ref 0 0 m,.sl WCd ws,.j c,.j i],[R0 (.int .i64) o])=>.need (decide (0<=i/\i.toNat<=ws.length/\c=ws.length/\m=o.length/\ws.length<=20/\o.length<=i.toNat)) (.leaf (.exit 0,([.ref 0 0 (o++IC (ws.drop i.toNat)).length],[R0 (.int .i64) (o++IC (ws.drop i.toNat))])))
 | _=>.no⟩
abbrev TQ:FuncId->Option Ent:=Aa [(48,.rd1 CE),(49,.own PY),(50,.own Sc)]
theorem Jw (m:Nat) (ws:List Wt) (c i:Int) (o:List Int):As prog TQ (Aa [(5,LK)]) 0 (body f18 0) LK ([.ref 0 0 m,.sl WCd ws,.j c,.j i],[R0 (.int .i64) o]) =
 ((ifB (decide (i<c)) (ifT (decide (0<=i)&&decide (i<(↑ws.length:Int))) (Al ws[i.toNat]? fun z=>shr z.2 fun sh1=>ifB (decide (sh1.1>(0:Int))) (ifT
 (decide ((m+1)*8<=140737488355328)&&decide (m+1<=maxI)) (some (Ex.normal,[V.ref 0 0 (m+1),V.sl WCd ws,V.j c,
 V.j (i64.wrap (i+1))],[R0 (Cd.int .i64) (take m (drop 0 o)++sh1.1::Ai (Cd.int .i64).den)]))) (some
 (Ex.normal,[V.ref 0 0 m,V.sl WCd ws,V.j c,V.j (i64.wrap (i+1))],[R0 (Cd.int .i64) o])))) (some (Ex.exit 0,[V.ref 0 0 m],
 [R0 (Cd.int .i64) o]))):_):=by kernel_rfl
theorem Rq (ws:List Wt):Ba prog TQ (Aa [(5,LK)]) f18 [.agg [.sl WCd ws]] [] =
 ((shr (Ai (Cd.int .i64).den++IC (drop 0 ws)) fun sh1=>ifB (!Au ws) (some (V.tup [V.ref 0 0 0,V.b false],[R0 (Cd.int .i64)
 (Ai (Cd.int .i64).den)])) (ifT (decide ((0:Int)<=(0:Int)/\0<=ws.length/\(↑ws.length:Int)=(↑ws.length:Int)/\0=0/\ws.length<=
 20/\0<=0)) (ifT (decide (sh1.length=sh1.length/\sh1.length<=1000000000)) (ifT (decide (sh1.length=(sh1.mergeSort fun x y=>decide
 (x<=y)).length/\sh1.length<=1000000000)) (some (V.tup [V.ref 0 0 (Lib.compact (sh1.mergeSort fun x y=>decide (x<=y))).length,V.b true],[R0 (Cd.int .i64) (Lib.compact (sh1.mergeSort fun x y=>decide (x<=y))++Hw (sh1.mergeSort fun x y=>decide (x<=y)))])))))):_):=by kernel_rfl
theorem UY (ws:List Wt) (hl:ws.length<=20) (o:List Int) (n:Nat) (h:n<ws.length) (ho:o.length<=n):As prog TQ (Aa [(5,LK)]) 0 (body f18 0) LK ([.ref 0 0 o.length,.sl WCd ws,.j (ws.length:Int),.j (n:Int)],[R0 (.int .i64) o])=some ((.normal:Ex),(fun (o:List Int) (n:Nat)=>(([.ref 0 0 o.length,.sl WCd ws,.j (ws.length:Int),.j (n:Int)],[R0 (.int .i64) o]):Dt)) (bif decide (ws[n].2.1>0) then o++[ws[n].2.1] else o) (n+1)):=by
 rw [Jw];dsimp only [shr];have w1:i64.wrap ((n:Int)+1)=((n+1:Nat):Int):=by rw [An (by omega) (by omega)]; omega
 rw [Ag (dcT (by omega)),T2 (by omega),ntN,gtE h,Am,w1]
 cases hd:decide (ws[n].2.1>0) with
 | false=>rw [AL]; rfl
 | true=>
  rw [Be,Ae (by simp only [anE,dcE]; unfold maxI; omega),drop_zero,take_length];simp only [cond_true,List.length_append,List.length_cons,List.length_nil,Nat.zero_add,AG]
theorem UZ:Ar prog TQ (Aa [(5,LK)]) 0 (f18.body.getD .skip):=by
 refine Ap (a:=body f18 0) (by kernel_rfl) fun d ex d' h=>?_
 unfold LK at h;dsimp only at h;split at h
 ·rename_i m ws c i o;obtain ⟨hc,hx⟩:=Ac h;obtain ⟨k1,k2,k3,k4,k5,k6⟩:=of_decide_eq_true hc;obtain ⟨j,rfl⟩:=eq_ofNat_of_zero_le k1;simp only [ntN] at k2 k6 hx;subst k3 k4
  have key:=FL (l:=ws) (fun w:Wt=>decide (w.2.1>0)) (fun w=>w.2.1) (fun (o:List Int) (n:Nat)=>(([.ref 0 0 o.length,.sl WCd ws,.j (ws.length:Int),.j (n:Int)],[R0 (.int .i64) o]):Dt)) (fun o=>((.exit 0:Ex),([.ref 0 0 o.length],[R0 (.int .i64) o]))) (by simp) (fun o n h ho=>UY ws k5 o n h ho) (fun o ho=>by
   rw [Jw,Ad (dcF (by omega))]) (ws.length-j) j o (by omega) k6
  have hx:=AI hx;unfold IC at hx;obtain ⟨rfl,rfl⟩:=Prod.mk.inj hx;exact key
 ·cases h
theorem WD:Ab prog 18 (Ent.rd1 Th).F:=by
 refine fcC (kc func48 HZ (kc func49 W5 (kc func50 WM KnowsL.nil))).knows (Λ:=(Aa [(5,LK)])) func18 fun vs bs r hq=>?_
 unfold Ent.F Th at hq;dsimp only at hq;split at hq
 ·rename_i ws;refine ⟨UZ,(Rq ws).trans (Eq.trans ?_ hq)⟩;dsimp only [shr];show _=some _;unfold CB KC
  cases hg:Au ws with
  | false=>rfl
  | true=>
   have h20:=(AS hg).2.2;have hp:(IC ws).length<=ws.length:=by unfold IC; rw [List.length_map]; exact length_filter_le _ _
   have hs:Go.Lib.compact (Uq (IC ws))=BX ws:=QJ hg;have hml:(Uq (IC ws)).length=(IC ws).length:=List.length_mergeSort _;simp only [AG,drop_zero,List.nil_append];rw [Bool.not_true,AL,Ae (dcT ⟨by omega,by omega,by first | trivial | rfl,by first | trivial | rfl,h20,by omega⟩),Ae (dcT ⟨by first | trivial | rfl,by omega⟩),Ae (dcT ⟨hml.symm,by omega⟩)];rw [cond_true,cond_true,<-hs];rfl
 ·cases hq

theorem Pa (f:List Int->List Wt×By) (g:List Int->List Wt×List Ty) (l r:List Int):A3 prog (Aa [(17,.rd1 (RU f)),(18,.rd1 Th),(19,.rd1 S6),(20,.rd1 Mh),(21,.rd1 Mh),(10,.rd1 EQ),(22,.rd1 ST),(23,.rd1 vwG),(24,.rd1 SN),(25,.rd1 (RX g)),(26,.rd1 ffG),(27,.rd1 ffG)]) (Aa []) f4 [.sl (.int .u8) l,.sl (.int .u8) r] [] =
 ((shr (f l).2 fun sh5=>shr (take (g r).1.length (drop 0 (g r).1)) fun sh4=>shr (take (g r).2.length (drop 0 (g r).2)) fun
 sh3=>shr (take (f l).1.length (drop 0 (f l).1)) fun sh2=>shr (ifT (decide ((Cur.mk r (0:Int) (0:Int)).good (0:Int))) (ifT (decide
 (sh3.length<=4000000000)&&nmL sh3) (ifT (decide (sh3.length<=4000000000)&&nmL sh3) (ifB (ffK sh3 sh4==ffK sh3 sh4) (some (V.b (ffB sh3 sh4==ffB
 sh3 sh4),[])) nF)))) fun sh1=>ifB (decide (i64.wrap ((↑l.length:Int)+(↑r.length:Int))>(1048576:Int))) (some (V.b true,[])) (ifT
 (decide ((Cur.mk l (0:Int) (0:Int)).good (0:Int))) (ifB (!Au sh2==Au sh2) nF (ifB (!decide (take (CB sh2).length (drop (0
 : Nat) (CB sh2++KC sh2))=take (CB sh2).length (drop 0 (CB sh2)))) nF (ifB (!Au sh2==Au sh2) nF (ifB (EI sh2 != EI sh2) nF (ifB (Au sh2) (ifT (decide (sh5.length<=4000000000)) (ifT (decide (sh5.length<=4000000000))
 (ifT (decide ((vwL sh5 (take (CB sh2).length (drop 0 (CB sh2++KC sh2)))).length<=4000000000)) (ifB (!((Es sh5).isSome&&Au sh2)
 == vwB sh5 (take (CB sh2).length (drop 0 (CB sh2++KC sh2)))) nF (ifB ((Es sh5).isSome&&Au sh2) (ifB (!((Es (vwL
 sh5 (take (CB sh2).length (drop 0 (CB sh2++KC sh2))))).isSome&&Au sh2)) nF (ifB (!Lz sh2 (vwL sh5 (take (CB
 sh2).length (drop 0 (CB sh2++KC sh2))))==Lz sh2 sh5) nF (ifB (Ha sh2) (ifB (!Au (DT sh2)) nF (ifB
 (EI (DT sh2) != i64.wrap (EI sh2+(1:Int))) nF sh1)) sh1))) (ifB (Ha sh2) (ifB (!Au (DT sh2)) nF (ifB
 (EI (DT sh2) != i64.wrap (EI sh2+(1:Int))) nF sh1)) sh1)))))) sh1))))))):_):=by kernel_rfl
theorem U0 (s:By):(Es s).isSome=(C9 s).isSome:=by
 rw [NI];cases Es s<;>rfl
theorem TI {ws:List Wt}:0<=EI ws/\EI ws<=21:=by
 unfold EI
 cases hg:Au ws with
 | false=>rw [cond_false]; omega
 | true=>
  obtain ⟨_,h1,h2⟩:=AS hg;have:=RY hg (ws.length-1) (by omega);rw [cond_true];omega
theorem Sn (s:By) (ws:List Wt):(vwL s (BX ws)).length<=400:=by
 cases h:(C9 s).isSome with
 | false=>
  have e:vwB s (BX ws)=false:=by unfold vwB; rw [h]; rfl
  unfold vwL;rw [e]; exact Nat.zero_le _
 | true=>
  obtain ⟨l,hl⟩:=Option.isSome_iff_exists.1 h;have hv:vwB s (BX ws)=true:=by unfold vwB; rw [h,NW]; rfl
  have e:vwL s (BX ws)=fbs (l.filter fun f=>(BX ws).contains f.1):=by unfold vwL Cv; rw [hv,hl]; rfl
  rw [e];exact (Gq hl (fun f=>(BX ws).contains f.1)).2.1
theorem u8_range {n:Int} (h:(Lit.int .u8 n).wf=true):0<=n/\n<=255:=by
 simp only [Lit.wf,anE,dcE] at h;exact h
noncomputable abbrev V6:FuncId->Option Ent:=Aa [(17,.rd1 (RU JF)),(18,.rd1 Th),(19,.rd1 S6),(20,.rd1 Mh),(21,.rd1 Mh),(10,.rd1 EQ),(22,.rd1 ST),(23,.rd1 vwG),(24,.rd1 SN),(25,.rd1 (RX GU)),(26,.rd1 ffG),(27,.rd1 ffG)]
theorem law_knows:Knows prog V6:=KnowsL.knows (kc func17 TF (kc func18 WD (kc func19 W6 (kc func20 WG (kc func21 W7 (kc func10 Qm (kc func22 mat (kc func23 vw (kc func24 WC (kc func25 TH (kc func26 iff (kc func27 sff KnowsL.nil))))))))))))
theorem law_loops:Ar prog V6 (Aa []) 0 (f4.body.getD .skip):=Aj _
theorem law_fun (l r:List Int) (hb : ∀ z∈l,0<=z/\z<=255) (hr : ∀ z∈r,0<=z/\z<=255):A3 prog V6 (Aa []) f4 [.sl (.int .u8) l,.sl (.int .u8) r] []=some (.b true,[]):=by
 rw [Pa]
 try dsimp only [shr]
 by_cases h0:i64.wrap ((l.length:Int)+(r.length:Int))>1048576
 ·rw [Ag (dcT h0)]
 have hc:(Cur.mk l 0 0).good 0:=⟨hb,Int.le_refl _,Int.le_refl _⟩
 have hd:(Cur.mk r 0 0).good 0:=⟨hr,Int.le_refl _,Int.le_refl _⟩
 have hd':decide ((Cur.mk r 0 0).good 0)=true:=dcT hd;rw [Ad (dcF h0),Ae (dcT hc)];obtain ⟨a1,a2,a3⟩:=Vx l hc;obtain ⟨b1,b2,b3,b4,b5⟩:=Vz r hd;generalize JF l=G at *;generalize GU r=H at *;obtain ⟨v,b⟩:=G;obtain ⟨g,s⟩:=H;dsimp only at *;have tk1:take (CB v).length (drop 0 (CB v++KC v))=CB v:=by rw [drop_zero,List.take_left]
 have tk2:take (CB v).length (drop 0 (CB v))=CB v:=by rw [drop_zero,take_length]
 have tk3:take g.length (drop 0 g)=g:=by rw [drop_zero,take_length]
 have tk4:take s.length (drop 0 s)=s:=by rw [drop_zero,take_length]
 have tk5:take v.length (drop 0 v)=v:=by rw [drop_zero,take_length]
 have n1:(decide (s.length<=4000000000)&&nmL s)=true:=by rw [b3,dcT (by omega)]; rfl
 have n2:decide (b.length<=4000000000)=true:=dcT (by omega);have sameE : ∀ a:List Int,decide (a=a)=true:=fun a=>dcT rfl
 simp only [tk1,tk2,tk3,tk4,tk5,hd',n1,n2,EC,beq_self_eq_true,bne_self_eq_false,Bool.not_true,AL,Be,decide_true]
 cases hg:Au v with
 | false=>simp only [AL]
 | true=>
  have hn:CB v=BX v:=by unfold CB; rw [hg]; rfl
  have n3:decide ((vwL b (BX v)).length<=4000000000)=true:=dcT (by have:=Sn b v; omega);rw [hn];simp only [Be,EC,n3,U0,Bool.and_true]
  have fin:ifB (Ha v) (ifB (!Au (DT v)) (some (V.b false,([]:List (Option Blk)))) (ifB (EI (DT v) != i64.wrap (EI v+1)) nF (some (V.b true,[])))) (some (V.b true,[]))=some (V.b true,[]):=by
   cases hq:Ha v with
   | false=>rfl
   | true=>
    have hb:=TI (ws:=v);rw [Be,Lq hq,SM hq,An (by omega) (by omega),bne_self_eq_false]; rfl
  cases hr:(C9 b).isSome with
  | false=>
   have e:vwB b (BX v)=false:=by unfold vwB; rw [hr]; rfl
   rw [e];simp only [beq_self_eq_true,Bool.not_true,AL];exact fin
  | true=>
   obtain ⟨m1,m2,m3,m4⟩:=QT hg hr;simp only [m1,m2,m3,beq_self_eq_true,Bool.not_true,AL,Be];exact fin
end Go.Proofs.YtckmoiopjocapaaGreat.Den
