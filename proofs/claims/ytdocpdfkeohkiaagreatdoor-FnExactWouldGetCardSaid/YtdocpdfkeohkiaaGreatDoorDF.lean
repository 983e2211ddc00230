/- What functions of the program do, by the machine: Sz4 Eq5 Eq6 To5 To7 Own2 Fo1 Wg1 Own3 Nb1 Tn1 Gt1 Gt2 Hd2 Nb2 LWg. -/
import Derived.Test.YtdocpdfkeohkiaaGreatDoorDE
import Derived.KernelRfl
import Derived.Test.YtdocpdfkeohkiaaGreatDoorRows
open Go.IntKind (i64)
open Go.Proofs.Tryz
open List (all_eq_true append_assoc drop drop_eq_getElem_cons drop_eq_nil_of_le drop_zero getElem_mem map_cons replicate singleton_append sum_cons take take_length take_of_length_le)
open Int (eq_ofNat_of_zero_le)
open Nat (add_sub_of_le le_trans zero_add)
namespace Go.Proofs.YtdocpdfkeohkiaaGreatDoor.Den
open Go.Proofs
set_option maxRecDepth 100000
def FA (z:List Ty×Unit):Nat:=M7 z.1
def GQ (z:List Ty×Unit):Bool:=GP z.1
def OK:Gm
 | [.agg [.sl TCd l],.j k],[]=>.need (decide (0<=k/\k<=1048576)&&GQ (l,())) (szA k (FA (l,())))
 | _,_=>.no
def GE (z:List Wt×Unit):Nat:=OE z.1
def N8 (z:List Wt×Unit):Bool:=HJ z.1
def S4:Gm
 | [.agg [.sl WCd l],.j k],[]=>.need (decide (0<=k/\k<=1048576)&&N8 (l,())) (szA k (GE (l,())))
 | _,_=>.no
def wTp (z:Tp):Nat:=z.1.length+FA z.2.1
def Ph (z:Tp):Bool:=decide (z.1.length<=maxI)&&GQ z.2.1
def Nk:Gm
 | [.agg [.s a,.sl TCd l,.j c],.j k],[]=>.need (decide (0<=k/\k<=1048576)&&Ph (a,(l,()),c,())) (szA k (wTp (a,(l,()),c,())))
 | _,_=>.no
def wFa (z:Fa):Nat:=z.2.1.length+(GE z.2.2.1+(FA z.2.2.2.1+M8 z.2.2.2.2.1))
def Pi (z:Fa):Bool:=decide (z.2.1.length<=maxI)&&(N8 z.2.2.1&&(GQ z.2.2.2.1&&HK z.2.2.2.2.1))
def Nn:Gm
 | [.agg (Lf w p ws v b c),.j k],[]=>.need (decide (0<=k/\k<=1048576)&&Pi (w,p,(ws,()),(v,()),b,c,())) (szA k (wFa (w,p,(ws,()),(v,()),b,c,())))
 | _,_=>.no
def Dr (l:List Tp):Nat:=(l.map wTp).sum
def JW (l:List Tp):Nat:=l.length+Dr l
def J8 (l:List Tp):Bool:=decide (l.length<=maxI)&&l.all Ph
def FK:LoopEnt:=⟨27,[0,1,5],[1],[4],fun
 | ([.sl TPd l,.j k,.j i],[])=>.need (decide (0<=i/\i.toNat<=l.length/\0<=k/\k<=1048576)&&J8 l) (.br (decide (k-(Dr (l.drop i.toNat):Int)<0)) (.leaf (.ret,([.j (-1)],[]))) (.leaf (.exit 0,([.j (k-(Dr (l.drop i.toNat):Int))],[]))))
 | _=>.no⟩
def Sx:Gm
 | [.sl TPd l,.j k],[]=>.need (decide (0<=k/\k<=1048576)&&J8 l) (szA k (JW l))
 | _,_=>.no
def Du (l:List Fa):Nat:=(l.map wFa).sum
def PP (l:List Fa):Nat:=l.length+Du l
def J9 (l:List Fa):Bool:=decide (l.length<=maxI)&&l.all Pi
def FM:LoopEnt:=⟨27,[0,1,5],[1],[4],fun
 | ([.sl FNd l,.j k,.j i],[])=>.need (decide (0<=i/\i.toNat<=l.length/\0<=k/\k<=1048576)&&J9 l) (.br (decide (k-(Du (l.drop i.toNat):Int)<0)) (.leaf (.ret,([.j (-1)],[]))) (.leaf (.exit 0,([.j (k-(Du (l.drop i.toNat):Int))],[]))))
 | _=>.no⟩
def S6:Gm
 | [.sl FNd l,.j k],[]=>.need (decide (0<=k/\k<=1048576)&&J9 l) (szA k (PP l))
 | _,_=>.no
def wBk (z:List Tp×List Fa×Unit):Nat:=JW z.1+PP z.2.1
def Q6 (z:List Tp×List Fa×Unit):Bool:=J8 z.1&&J9 z.2.1
def Yn:Gm
 | [.agg [.sl TPd ts,.sl FNd fs],.j k],[]=>.need (decide (0<=k/\k<=1048576)&&Q6 (ts,fs,())) (szA k (wBk (ts,fs,())))
 | _,_=>.no
theorem S2 {k:Int} {w:Nat} {ok:Bool} (hok:ok=true) (h0:0<=k) (h1:k<=1048576):ifT (decide (0<=k/\k<=1048576)&&ok) (ifB (decide (k-(w:Int)<0)) (some (V.j (-1),([]:List (Option Blk)))) (ifB (decide (k-(w:Int)<0)) (some (V.j (-1),[])) (some (V.j (k-(w:Int)),[]))))=(szA k w).run:=by
 rw [Ab (by rw [anE]; exact ⟨dcT ⟨h0,h1⟩,hok⟩)]
 by_cases q:k-(w:Int)<0
 ·rw [Ae (dcT q),Cs q]
 ·rw [Ac (dcF q),Ac (dcF q),El q]
theorem Uo {k:Int} {w r:Nat} (q : ¬k-(w:Int)<0):(szA (k-(w:Int)) r).run=(szA k (w+r)).run:=by
 have e:k-(w:Int)-(r:Int)=k-((w+r:Nat):Int):=by push_cast; omega
 by_cases q2:k-(w:Int)-(r:Int)<0
 ·rw [Cs q2,Cs (by omega)]
 ·rw [El q2,El (by omega),e]
theorem Sy {k:Int} {w r:Nat} {ok:Bool} {X:Option (V×List (Option Blk))} (hok:ok=true) (h0:0<=k) (h1:k<=1048576) (hX : ¬k-(w:Int)<0->X=(szA (k-(w:Int)) r).run):ifT (decide (0<=k/\k<=1048576)&&ok) (ifB (decide (k-(w:Int)<0)) (some (V.j (-1),([]:List (Option Blk)))) (ifB (decide (k-(w:Int)<0)) (some (V.j (-1),[])) X))=(szA k (w+r)).run:=by
 rw [Ab (by rw [anE]; exact ⟨dcT ⟨h0,h1⟩,hok⟩)]
 by_cases q:k-(w:Int)<0
 ·rw [Ae (dcT q),Cs (by push_cast; omega)]
 ·rw [Ac (dcF q),Ac (dcF q),hX q,Uo q]
theorem Afy {k:Int} {w r:Nat} {X:Option (V×List (Option Blk))} (hX : ¬k-(w:Int)<0->X=(szA (k-(w:Int)) r).run):ifB (decide (k-(w:Int)<0)) (some (V.j (-1),([]:List (Option Blk)))) X=(szA k (w+r)).run:=by
 by_cases q:k-(w:Int)<0
 ·rw [Ae (dcT q),Cs (by push_cast; omega)]
 ·rw [Ac (dcF q),hX q,Uo q]
theorem Sz (l:List Ty) (k:Int):Aw prog (Aa [(74,.rd1 Sv)]) (Aa []) f37 [.agg [.sl TCd l],.j k] [] =
 ((ifT (decide (0<=k/\k<=1048576)&&GP l) (ifB (decide (k-(↑(M7 l):Int)<(0:Int))) (some (V.j (-1),[])) (ifB (decide (k-(↑(M7 l):Int)<(0 :
 Int))) (some (V.j (-1),[])) (some (V.j (k-(↑(M7 l):Int)),[]))))):_):=by kernel_rfl
theorem Nl:Af prog 37 (Ent.rd1 OK).F:=by
 refine fcK (kc func74 Vw KnowsL.nil).knows (Λ:=Aa []) func37 fun vs_ bs_ r_ hq_=>?_
 unfold Ent.F OK at hq_;dsimp only at hq_;split at hq_
 ·rename_i l k;obtain ⟨hc,hx⟩:=Ad hq_;rw [anE,dcE] at hc;obtain ⟨⟨h0,h1⟩,h2⟩:=hc;unfold GQ at h2;dsimp only at h2;have hM:=mxI;refine ⟨Ah _,(Sz l k).trans (Eq.trans ?_ hx)⟩;show _=(szA k (FA (l,()))).run;unfold FA;dsimp only;rw [Ab (by rw [anE]; exact ⟨dcT ⟨h0,h1⟩,h2⟩)]
  by_cases q:k-(M7 l:Int)<0
  ·rw [Ae (dcT q),Cs q]
  ·rw [Ac (dcF q),Ac (dcF q),El q]
 ·cases hq_
theorem S3 (l:List Wt) (k:Int):Aw prog (Aa [(73,.rd1 Ss)]) (Aa []) f36 [.agg [.sl WCd l],.j k] [] =
 ((ifT (decide (0<=k/\k<=1048576)&&HJ l) (ifB (decide (k-(↑(OE l):Int)<(0:Int))) (some (V.j (-1),[])) (ifB (decide (k-(↑(OE l):Int)<(0 :
 Int))) (some (V.j (-1),[])) (some (V.j (k-(↑(OE l):Int)),[]))))):_):=by kernel_rfl
theorem V3:Af prog 36 (Ent.rd1 S4).F:=by
 refine fcK (kc func73 Vu KnowsL.nil).knows (Λ:=Aa []) func36 fun vs_ bs_ r_ hq_=>?_
 unfold Ent.F S4 at hq_;dsimp only at hq_;split at hq_
 ·rename_i l k;obtain ⟨hc,hx⟩:=Ad hq_;rw [anE,dcE] at hc;obtain ⟨⟨h0,h1⟩,h2⟩:=hc;unfold N8 at h2;dsimp only at h2;have hM:=mxI;refine ⟨Ah _,(S3 l k).trans (Eq.trans ?_ hx)⟩;show _=(szA k (GE (l,()))).run;unfold GE;dsimp only;rw [Ab (by rw [anE]; exact ⟨dcT ⟨h0,h1⟩,h2⟩)]
  by_cases q:k-(OE l:Int)<0
  ·rw [Ae (dcT q),Cs q]
  ·rw [Ac (dcF q),Ac (dcF q),El q]
 ·cases hq_
theorem Vz (a:By) (l:List Ty) (c:Int) (k:Int):Aw prog (Aa [(37,.rd1 OK)]) (Aa []) f72 [.agg [.s a,.sl TCd l,.j c],.j k] [] =
 ((ifB (decide (i64.wrap (k-(↑a.length:Int))<(0:Int))) (some (V.j (-1),[])) (ifT (decide (0<=i64.wrap (k-(↑a.length:Int))/\
 i64.wrap (k-(↑a.length:Int))<=(1048576:Int))&&GQ (l,())) (ifB (decide (i64.wrap (k-(↑a.length:Int))-(↑(FA (l,())):Int)<(0 :
 Int))) (some (V.j (-1),[])) (ifB (decide (i64.wrap (k-(↑a.length:Int))-(↑(FA (l,())):Int)<(0:Int))) (some (V.j (-1),[])) (some (V.i
 .i64 (i64.wrap (k-(↑a.length:Int))-(↑(FA (l,())):Int)),[])))))):_):=by kernel_rfl
theorem Yh:Af prog 72 (Ent.rd1 Nk).F:=by
 refine fcK (kc func37 Nl KnowsL.nil).knows (Λ:=Aa []) func72 fun vs_ bs_ r_ hq_=>?_
 unfold Ent.F Nk at hq_;dsimp only at hq_;split at hq_
 ·rename_i a l c k;obtain ⟨hc,hx⟩:=Ad hq_;rw [anE,dcE] at hc;obtain ⟨⟨h0,h1⟩,h2⟩:=hc;unfold Ph at h2;dsimp only at h2;have hM:=mxI;refine ⟨Ah _,(Vz a l c k).trans (Eq.trans ?_ hx)⟩;show _=(szA k (wTp (a,(l,()),c,()))).run;unfold wTp;dsimp only;rw [anE,dcE] at h2;obtain ⟨h3,h4⟩:=h2;have hw:i64.wrap (k-(a.length:Int))=k-(a.length:Int):=Av (by omega) (by omega);rw [hw];exact Afy fun q=>S2 h4 (by omega) (by omega)
 ·cases hq_
theorem V5 (w:Int) (p:By) (ws:List Wt) (v:List Ty) (b:List Nt) (c:Int) (k:Int):Aw prog (Aa [(36,.rd1 S4),(37,.rd1 OK),(38,.rd1 S1)]) (Aa []) f8 [.agg (Lf w p ws v b c),.j k] [] =
 ((ifB (decide (i64.wrap (k-(↑p.length:Int))<(0:Int))) (some (V.j (-1),[])) (ifT (decide (0<=i64.wrap (k-(↑p.length:Int))/\
 i64.wrap (k-(↑p.length:Int))<=(1048576:Int))&&N8 (ws,())) (ifB (decide (i64.wrap (k-(↑p.length:Int))-(↑(GE (ws,())):Int)<(0 :
 Int))) (some (V.j (-1),[])) (ifB (decide (i64.wrap (k-(↑p.length:Int))-(↑(GE (ws,())):Int)<(0:Int))) (some (V.j (-1),[])) (ifT (decide
 (0<=i64.wrap (k-(↑p.length:Int))-(↑(GE (ws,())):Int)/\i64.wrap (k-(↑p.length:Int))-(↑(GE (ws,())):Int)<=(1048576:Int))&&GQ
 (v,())) (ifB (decide (i64.wrap (k-(↑p.length:Int))-(↑(GE (ws,())):Int)-(↑(FA (v,())):Int)<(0:Int))) (some (V.j (-1),[])) (ifB (decide
 (i64.wrap (k-(↑p.length:Int))-(↑(GE (ws,())):Int)-(↑(FA (v,())):Int)<(0:Int))) (some (V.j (-1),[])) (ifT (decide (0<=i64.wrap
 (k-(↑p.length:Int))-(↑(GE (ws,())):Int)-(↑(FA (v,())):Int)/\i64.wrap (k-(↑p.length:Int))-(↑(GE (ws,())):Int)-(↑(FA (v,())) :
 Int)<=(1048576:Int))&&HK b) (ifB (decide (i64.wrap (k-(↑p.length:Int))-(↑(GE (ws,())):Int)-(↑(FA (v,())):Int)-(↑(M8 b):Int)<(0 :
 Int))) (some (V.j (-1),[])) (ifB (decide (i64.wrap (k-(↑p.length:Int))-(↑(GE (ws,())):Int)-(↑(FA (v,())):Int)-(↑(M8 b):Int)<(0 :
 Int))) (some (V.j (-1),[])) (some (V.j (i64.wrap (k-(↑p.length:Int))-(↑(GE (ws,())):Int)-(↑(FA (v,())):Int)-(↑(M8 b):Int)),
 [])))))))))))):_):=by kernel_rfl
theorem Yl:Af prog 8 (Ent.rd1 Nn).F:=by
 refine fcK (kc func36 V3 (kc func37 Nl (kc func38 V1 KnowsL.nil))).knows (Λ:=Aa []) func8 fun vs_ bs_ r_ hq_=>?_
 unfold Ent.F Nn at hq_;dsimp only at hq_;split at hq_
 ·rename_i w p ws v b c k;obtain ⟨hc,hx⟩:=Ad hq_;rw [anE,dcE] at hc;obtain ⟨⟨h0,h1⟩,h2⟩:=hc;unfold Pi at h2;dsimp only at h2;have hM:=mxI;refine ⟨Ah _,(V5 w p ws v b c k).trans (Eq.trans ?_ hx)⟩;show _=(szA k (wFa (w,p,(ws,()),(v,()),b,c,()))).run;unfold wFa;dsimp only;simp only [anE,dcE] at h2;obtain ⟨h3,h4,h5,h6⟩:=h2;have hw:i64.wrap (k-(p.length:Int))=k-(p.length:Int):=Av (by omega) (by omega);rw [hw];exact Afy fun q=>Sy h4 (by omega) (by omega) fun q2=>Sy h5 (by omega) (by omega) fun q3=>S2 h6 (by omega) (by omega)
 ·cases hq_
theorem Jz (l:List Tp) (k i:Int):At prog (Aa [(72,.rd1 Nk)]) (Aa [(5,FK)]) 0 (body f34 0) FK ([.sl TPd l,.j k,.j i],[]) =
 ((ifB (decide (i<(↑l.length:Int))) (ifT (decide (0<=i)&&decide (i<(↑l.length:Int))) (Ak l[i.toNat]? fun z=>ifT (decide (0<=k/\k<=1048576)&&Ph (z.1,
 (z.2.1.1,()),z.2.2.1,())) (ifB (decide (k-(↑(wTp (z.1,(z.2.1.1,()),z.2.2.1,())):Int)<(0:Int))) (some (Ex.ret,[V.j (-1)],
 [])) (ifB (decide (k-(↑(wTp (z.1,(z.2.1.1,()),z.2.2.1,())):Int)<(0:Int))) (some (Ex.ret,[V.j (-1)],[])) (some (Ex.normal,[V.sl TPd l,
 V.j (k-(↑(wTp (z.1,(z.2.1.1,()),z.2.2.1,())):Int)),V.j (i64.wrap (i+1))],[])))))) (some (Ex.exit 0,[V.j k],[]))):_):=by kernel_rfl
theorem Sw (l:List Tp) (k:Int):Aw prog (Aa [(72,.rd1 Nk)]) (Aa [(5,FK)]) f34 [.sl TPd l,.j k] [] =
 ((ifB (decide (i64.wrap (k-(↑l.length:Int))<(0:Int))) (some (V.j (-1),[])) (ifT (decide ((0:Int)<=(0:Int)/\0<=l.length/\0<=
 i64.wrap (k-(↑l.length:Int))/\i64.wrap (k-(↑l.length:Int))<=(1048576:Int))&&J8 l) (ifB (decide (i64.wrap (k-(↑l.length:Int))
 - (↑(Dr (drop 0 l)):Int)<(0:Int))) (some (V.j (-1),[])) (some (V.j (i64.wrap (k-(↑l.length:Int))-(↑(Dr (drop (0 :
 Nat) l)):Int)),[]))))):_):=by kernel_rfl
theorem KT (l:List Tp) (hl:l.length<=maxI) (ho : ∀ z∈l,Ph z=true) : ∀ (j i:Nat) (k:Int),i+j=l.length->0<=k->k<=1048576->∀ ex d,(Br.br (decide (k-(Dr (l.drop i):Int)<0)) (.leaf (.ret,([.j (-1)],[]))) (.leaf (.exit 0,([.j (k-(Dr (l.drop i):Int))],[]))):Br (Ex×Dt)).run=some (ex,d)->Runs prog (Aa [(72,.rd1 Nk)]) (Aa [(5,FK)]) 0 (body f34 0) FK ([.sl TPd l,.j k,.j (i:Int)],[]) ex d
 | 0,i,k,hi,h0,h1,ex,d,h=>by
  have hr:=Jz l k i;rw [Ac (dcF (by omega))] at hr;have e0:(Dr (l.drop i):Int)=0:=by rw [drop_eq_nil_of_le (by omega)]; rfl
  rw [e0,Int.sub_zero,Hz (dcF (by omega))] at h;obtain ⟨rfl,rfl⟩:=lfP h;exact stp hr
 | j+1,i,k,hi,h0,h1,ex,d,h=>by
  have hM:=mxI;have hlt:i<l.length:=by omega
  have hr:=Jz l k i;rw [Ae (dcT (by omega)),T2 (by omega),ntN,gtE hlt,Ai,Ap (n:=i) (by omega)] at hr;have ho1:=ho _ (getElem_mem hlt)
  have e:Dr (l.drop i)=wTp l[i]+Dr (l.drop (i+1)):=by
   unfold Dr;rw [drop_eq_getElem_cons hlt,map_cons,sum_cons]
  generalize l[i]=z at hr ho1 e;obtain ⟨a,⟨l_,⟨⟩⟩,c,⟨⟩⟩:=z;dsimp only at hr;rw [Ab (by rw [anE]; exact ⟨dcT ⟨h0,h1⟩,ho1⟩)] at hr;generalize wTp _=w at hr e
  by_cases q:k-(w:Int)<0
  ·rw [Ae (dcT q)] at hr;rw [GN (dcT (by rw [e]; push_cast; omega))] at h;obtain ⟨rfl,rfl⟩:=lfP h;exact stp hr
  ·rw [Ac (dcF q),Ac (dcF q)] at hr;have e2:k-(Dr (l.drop i):Int)=k-(w:Int)-(Dr (l.drop (i+1)):Int):=by rw [e]; push_cast; omega
   rw [e2] at h;exact sts hr (KT l hl ho j (i+1) (k-(w:Int)) (by omega) (by omega) (by omega) ex d h)
theorem II {l:List Tp} (h:J8 l=true):l.length<=maxI/\∀ z∈l,Ph z=true:=by
 unfold J8 at h;rw [anE,dcE] at h;exact ⟨h.1,all_eq_true.1 h.2⟩
theorem Vy:Af prog 34 (Ent.rd1 Sx).F:=by
 refine fcK (kc func72 Yh KnowsL.nil).knows (Λ:=(Aa [(5,FK)])) func34 fun vs bs r hq=>?_
 unfold Ent.F Sx at hq;dsimp only at hq;split at hq
 ·rename_i l k;obtain ⟨hc,hx⟩:=Ad hq;rw [anE,dcE] at hc;obtain ⟨⟨h0,h1⟩,h2⟩:=hc;obtain ⟨h3,h4⟩:=II h2;have hM:=mxI
  have hok:As prog (Aa [(72,.rd1 Nk)]) (Aa [(5,FK)]) 0 (f34.body.getD .skip):=by
   refine Am (a:=body f34 0) (by kernel_rfl) fun d ex d' h=>?_
   unfold FK at h;dsimp only at h;split at h
   ·rename_i l k i;obtain ⟨hc,hx⟩:=Ad h;rw [anE,dcE] at hc;obtain ⟨⟨a0,a1,a2,a3⟩,a4⟩:=hc;obtain ⟨b1,b2⟩:=II a4;obtain ⟨i,rfl⟩:=eq_ofNat_of_zero_le a0;simp only [ntN] at a1 hx;exact KT l b1 b2 (l.length-i) i k (by omega) a2 a3 ex d' hx
   ·cases h
  refine ⟨hok,(Sw l k).trans (Eq.trans ?_ hx)⟩;show _=(szA k (JW l)).run;have hw:i64.wrap (k-(l.length:Int))=k-(l.length:Int):=Av (by omega) (by omega);unfold JW;rw [hw,drop_zero]
  by_cases q:k-(l.length:Int)<0
  ·rw [Ae (dcT q),Cs (by push_cast; omega)]
  ·rw [Ac (dcF q),Ab (by rw [anE]; exact ⟨dcT (by omega),h2⟩)];have e:k-(l.length:Int)-(Dr l:Int)=k-((l.length+Dr l:Nat):Int):=by push_cast; omega
   rw [e]
   by_cases q2:k-((l.length+Dr l:Nat):Int)<0
   ·rw [Ae (dcT q2),Cs q2]
   ·rw [Ac (dcF q2),El q2]
 ·cases hq
theorem J1 (l:List Fa) (k i:Int):At prog (Aa [(8,.rd1 Nn)]) (Aa [(5,FM)]) 0 (body f35 0) FM ([.sl FNd l,.j k,.j i],[]) =
 ((ifB (decide (i<(↑l.length:Int))) (ifT (decide (0<=i)&&decide (i<(↑l.length:Int))) (Ak l[i.toNat]? fun z=>ifT (decide (0<=k/\k<=1048576)&&Pi (z.1,
 z.2.1,(z.2.2.1.1,()),(z.2.2.2.1.1,()),z.2.2.2.2.1,z.2.2.2.2.2.1,())) (ifB (decide (k-(↑(wFa (z.1,z.2.1,
 (z.2.2.1.1,()),(z.2.2.2.1.1,()),z.2.2.2.2.1,z.2.2.2.2.2.1,())):Int)<(0:Int))) (some (Ex.ret,[V.j (-1)],[]))
 (ifB (decide (k-(↑(wFa (z.1,z.2.1,(z.2.2.1.1,()),(z.2.2.2.1.1,()),z.2.2.2.2.1,z.2.2.2.2.2.1,())):Int)<(0 :
 Int))) (some (Ex.ret,[V.j (-1)],[])) (some (Ex.normal,[V.sl FNd l,V.j (k-(↑(wFa (z.1,z.2.1,(z.2.2.1.1,()),(z.2.2.2.1.1,()),
 z.2.2.2.2.1,z.2.2.2.2.2.1,())):Int)),V.j (i64.wrap (i+1))],[])))))) (some (Ex.exit 0,[V.j k],[]))):_):=by kernel_rfl
theorem S5 (l:List Fa) (k:Int):Aw prog (Aa [(8,.rd1 Nn)]) (Aa [(5,FM)]) f35 [.sl FNd l,.j k] [] =
 ((ifB (decide (i64.wrap (k-(↑l.length:Int))<(0:Int))) (some (V.j (-1),[])) (ifT (decide ((0:Int)<=(0:Int)/\0<=l.length/\0<=
 i64.wrap (k-(↑l.length:Int))/\i64.wrap (k-(↑l.length:Int))<=(1048576:Int))&&J9 l) (ifB (decide (i64.wrap (k-(↑l.length:Int))
 - (↑(Du (drop 0 l)):Int)<(0:Int))) (some (V.j (-1),[])) (some (V.j (i64.wrap (k-(↑l.length:Int))-(↑(Du (drop (0 :
 Nat) l)):Int)),[]))))):_):=by kernel_rfl
theorem KV (l:List Fa) (hl:l.length<=maxI) (ho : ∀ z∈l,Pi z=true) : ∀ (j i:Nat) (k:Int),i+j=l.length->0<=k->k<=1048576->∀ ex d,(Br.br (decide (k-(Du (l.drop i):Int)<0)) (.leaf (.ret,([.j (-1)],[]))) (.leaf (.exit 0,([.j (k-(Du (l.drop i):Int))],[]))):Br (Ex×Dt)).run=some (ex,d)->Runs prog (Aa [(8,.rd1 Nn)]) (Aa [(5,FM)]) 0 (body f35 0) FM ([.sl FNd l,.j k,.j (i:Int)],[]) ex d
 | 0,i,k,hi,h0,h1,ex,d,h=>by
  have hr:=J1 l k i;rw [Ac (dcF (by omega))] at hr;have e0:(Du (l.drop i):Int)=0:=by rw [drop_eq_nil_of_le (by omega)]; rfl
  rw [e0,Int.sub_zero,Hz (dcF (by omega))] at h;obtain ⟨rfl,rfl⟩:=lfP h;exact stp hr
 | j+1,i,k,hi,h0,h1,ex,d,h=>by
  have hM:=mxI;have hlt:i<l.length:=by omega
  have hr:=J1 l k i;rw [Ae (dcT (by omega)),T2 (by omega),ntN,gtE hlt,Ai,Ap (n:=i) (by omega)] at hr;have ho1:=ho _ (getElem_mem hlt)
  have e:Du (l.drop i)=wFa l[i]+Du (l.drop (i+1)):=by
   unfold Du;rw [drop_eq_getElem_cons hlt,map_cons,sum_cons]
  generalize l[i]=z at hr ho1 e;obtain ⟨w_,p,⟨ws,⟨⟩⟩,⟨v,⟨⟩⟩,b,c,⟨⟩⟩:=z;dsimp only at hr;rw [Ab (by rw [anE]; exact ⟨dcT ⟨h0,h1⟩,ho1⟩)] at hr;generalize wFa _=w at hr e
  by_cases q:k-(w:Int)<0
  ·rw [Ae (dcT q)] at hr;rw [GN (dcT (by rw [e]; push_cast; omega))] at h;obtain ⟨rfl,rfl⟩:=lfP h;exact stp hr
  ·rw [Ac (dcF q),Ac (dcF q)] at hr;have e2:k-(Du (l.drop i):Int)=k-(w:Int)-(Du (l.drop (i+1)):Int):=by rw [e]; push_cast; omega
   rw [e2] at h;exact sts hr (KV l hl ho j (i+1) (k-(w:Int)) (by omega) (by omega) (by omega) ex d h)
theorem IJ {l:List Fa} (h:J9 l=true):l.length<=maxI/\∀ z∈l,Pi z=true:=by
 unfold J9 at h;rw [anE,dcE] at h;exact ⟨h.1,all_eq_true.1 h.2⟩
theorem V4:Af prog 35 (Ent.rd1 S6).F:=by
 refine fcK (kc func8 Yl KnowsL.nil).knows (Λ:=(Aa [(5,FM)])) func35 fun vs bs r hq=>?_
 unfold Ent.F S6 at hq;dsimp only at hq;split at hq
 ·rename_i l k;obtain ⟨hc,hx⟩:=Ad hq;rw [anE,dcE] at hc;obtain ⟨⟨h0,h1⟩,h2⟩:=hc;obtain ⟨h3,h4⟩:=IJ h2;have hM:=mxI
  have hok:As prog (Aa [(8,.rd1 Nn)]) (Aa [(5,FM)]) 0 (f35.body.getD .skip):=by
   refine Am (a:=body f35 0) (by kernel_rfl) fun d ex d' h=>?_
   unfold FM at h;dsimp only at h;split at h
   ·rename_i l k i;obtain ⟨hc,hx⟩:=Ad h;rw [anE,dcE] at hc;obtain ⟨⟨a0,a1,a2,a3⟩,a4⟩:=hc;obtain ⟨b1,b2⟩:=IJ a4;obtain ⟨i,rfl⟩:=eq_ofNat_of_zero_le a0;simp only [ntN] at a1 hx;exact KV l b1 b2 (l.length-i) i k (by omega) a2 a3 ex d' hx
   ·cases h
  refine ⟨hok,(S5 l k).trans (Eq.trans ?_ hx)⟩;show _=(szA k (PP l)).run;have hw:i64.wrap (k-(l.length:Int))=k-(l.length:Int):=Av (by omega) (by omega);unfold PP;rw [hw,drop_zero]
  by_cases q:k-(l.length:Int)<0
  ·rw [Ae (dcT q),Cs (by push_cast; omega)]
  ·rw [Ac (dcF q),Ab (by rw [anE]; exact ⟨dcT (by omega),h2⟩)];have e:k-(l.length:Int)-(Du l:Int)=k-((l.length+Du l:Nat):Int):=by push_cast; omega
   rw [e]
   by_cases q2:k-((l.length+Du l:Nat):Int)<0
   ·rw [Ae (dcT q2),Cs q2]
   ·rw [Ac (dcF q2),El q2]
 ·cases hq
theorem V6 (ts:List Tp) (fs:List Fa) (k:Int):Aw prog (Aa [(34,.rd1 Sx),(35,.rd1 S6)]) (Aa []) f7 [.agg [.sl TPd ts,.sl FNd fs],.j k] [] =
 ((ifT (decide (0<=k/\k<=1048576)&&J8 ts) (ifB (decide (k-(↑(JW ts):Int)<(0:Int))) (some (V.j (-1),[])) (ifB (decide (k-(↑(JW ts):Int)<(0 :
 Int))) (some (V.j (-1),[])) (ifT (decide (0<=k-(↑(JW ts):Int)/\k-(↑(JW ts):Int)<=(1048576:Int))&&J9 fs) (ifB (decide (k-(↑(JW ts):Int) -
 (↑(PP fs):Int)<(0:Int))) (some (V.j (-1),[])) (ifB (decide (k-(↑(JW ts):Int)-(↑(PP fs):Int)<(0:Int))) (some (V.j (-1),[])) (some (V.i
 .i64 (k-(↑(JW ts):Int)-(↑(PP fs):Int)),[])))))))):_):=by kernel_rfl
theorem Ym:Af prog 7 (Ent.rd1 Yn).F:=by
 refine fcK (kc func34 Vy (kc func35 V4 KnowsL.nil)).knows (Λ:=Aa []) func7 fun vs_ bs_ r_ hq_=>?_
 unfold Ent.F Yn at hq_;dsimp only at hq_;split at hq_
 ·rename_i ts fs k;obtain ⟨hc,hx⟩:=Ad hq_;rw [anE,dcE] at hc;obtain ⟨⟨h0,h1⟩,h2⟩:=hc;unfold Q6 at h2;dsimp only at h2;have hM:=mxI;refine ⟨Ah _,(V6 ts fs k).trans (Eq.trans ?_ hx)⟩;show _=(szA k (wBk (ts,fs,()))).run;unfold wBk;dsimp only;rw [anE] at h2;exact Sy h2.1 h0 h1 fun q2=>S2 h2.2 (by omega) (by omega)
 ·cases hq_
def eqL {α:Type} (f:α->α->Bool):List α->List α->Bool
 | [],[]=>true
 | x::l,y::q=>f x y&&eqL f l q
 | _,_=>false
def Gn (x y:Nt):Bool:=x.1==y.1&&(x.2.1==y.2.1&&x.2.2.1==y.2.2.1)
def Mk:Gm
 | [.agg [.s a0,.j a1,.s a2],.agg [.s b0,.j b1,.s b2]],[]=>.leaf (.b (Gn (a0,a1,a2,()) (b0,b1,b2,())),[])
 | _,_=>.no
def GK (x y:Ty):Bool:=x.1==y.1&&(x.2.1==y.2.1&&(x.2.2.1==y.2.2.1&&(x.2.2.2.1==y.2.2.2.1&&(x.2.2.2.2.1==y.2.2.2.2.1&&x.2.2.2.2.2.1==y.2.2.2.2.2.1))))
def Or:Gm
 | [.agg (Ly a0 a1 a2 a3 a4 a5),.agg (Ly b0 b1 b2 b3 b4 b5)],[]=>.leaf (.b (GK (a0,a1,a2,a3,a4,a5,()) (b0,b1,b2,b3,b4,b5,())),[])
 | _,_=>.no
def GJ (x y:Wt):Bool:=x.1==y.1&&(x.2.1==y.2.1&&(x.2.2.1==y.2.2.1&&(x.2.2.2.1==y.2.2.2.1&&(x.2.2.2.2.1==y.2.2.2.2.1&&x.2.2.2.2.2.1==y.2.2.2.2.2.1))))
def Oo:Gm
 | [.agg (Lw a0 a1 a2 a3 a4 a5),.agg (Lw b0 b1 b2 b3 b4 b5)],[]=>.leaf (.b (GJ (a0,a1,a2,a3,a4,a5,()) (b0,b1,b2,b3,b4,b5,())),[])
 | _,_=>.no
def Gl:LoopEnt:=⟨27,[0,1,5],[],[4],fun
 | ([.sl NTd l,.sl NTd q,.j i],[])=>.need (decide (0<=i/\i.toNat<=l.length/\l.length=q.length/\l.length<=maxI)) (.br (eqL Gn (l.drop i.toNat) (q.drop i.toNat)) (.leaf (.exit 0,([],[]))) (.leaf (.ret,([.b false],[]))))
 | _=>.no⟩
def TJ:Gm
 | [.sl NTd l,.sl NTd q],[]=>.need (decide (l.length<=maxI)) (.leaf (.b (eqL Gn l q),[]))
 | _,_=>.no
def Gj:LoopEnt:=⟨27,[0,1,5],[],[4],fun
 | ([.sl TCd l,.sl TCd q,.j i],[])=>.need (decide (0<=i/\i.toNat<=l.length/\l.length=q.length/\l.length<=maxI)) (.br (eqL GK (l.drop i.toNat) (q.drop i.toNat)) (.leaf (.exit 0,([],[]))) (.leaf (.ret,([.b false],[]))))
 | _=>.no⟩
def TE:Gm
 | [.sl TCd l,.sl TCd q],[]=>.need (decide (l.length<=maxI)) (.leaf (.b (eqL GK l q),[]))
 | _,_=>.no
def Gi:LoopEnt:=⟨27,[0,1,5],[],[4],fun
 | ([.sl WCd l,.sl WCd q,.j i],[])=>.need (decide (0<=i/\i.toNat<=l.length/\l.length=q.length/\l.length<=maxI)) (.br (eqL GJ (l.drop i.toNat) (q.drop i.toNat)) (.leaf (.exit 0,([],[]))) (.leaf (.ret,([.b false],[]))))
 | _=>.no⟩
def TC:Gm
 | [.sl WCd l,.sl WCd q],[]=>.need (decide (l.length<=maxI)) (.leaf (.b (eqL GJ l q),[]))
 | _,_=>.no
theorem Jb {α:Type} {f:α->α->Bool} : ∀ {l q:List α},l.length≠q.length->eqL f l q=false
 | [],[],h=>absurd rfl h
 | [],_::_,_=>rfl
 | _::_,[],_=>rfl
 | x::l,y::q,h=>by
  have:l.length≠q.length:=fun e=>h (by simp [e])
  rw [eqL,Jb this,Bool.and_false]
theorem Eb {α:Type} {f:α->α->Bool} : ∀ {l:List α},(∀ x∈l,f x x=true)->eqL f l l=true
 | [],_=>rfl
 | x::l,h=>by rw [eqL,h x (by simp),Eb (fun y hy=>h y (by simp [hy]))]; rfl
theorem WX (a0:By) (a1:Int) (a2:By) (b0:By) (b1:Int) (b2:By):Aw prog (Aa []) (Aa []) f22 [.agg [.s a0,.j a1,.s a2],.agg [.s b0,.j b1,.s b2]] [] =
 ((ifB (!a0==b0) nF (ifB (a1 != b1) nF (ifB (!a2==b2) nF (some (V.b true,[]))))):_):=by kernel_rfl
theorem Rv:Af prog 22 (Ent.rd1 Mk).F:=by
 refine fcK KnowsL.nil.knows (Λ:=Aa []) func22 fun vs bs r hq=>?_
 unfold Ent.F Mk at hq;dsimp only at hq;split at hq
 ·rename_i a0 a1 a2 b0 b1 b2;refine ⟨Ah _,(WX a0 a1 a2 b0 b1 b2).trans (Eq.trans ?_ hq)⟩;show _=some _;unfold Gn bne;dsimp only;cases a0==b0<;>cases a1==b1<;>cases a2==b2<;>rfl
 ·cases hq
theorem WS (a0:Int) (a1:By) (a2:Int) (a3:Bool) (a4 a5:Int) (b0:Int) (b1:By) (b2:Int) (b3:Bool) (b4 b5:Int):Aw prog (Aa []) (Aa []) f132 [.agg (Ly a0 a1 a2 a3 a4 a5),.agg (Ly b0 b1 b2 b3 b4 b5)] [] =
 ((ifB (a0 != b0) nF (ifB (!a1==b1) nF (ifB (a2 != b2) nF (ifB (!a3==b3) nF (ifB (a4 !=
 b4) nF (ifB (a5 != b5) nF (some (V.b true,[])))))))):_):=by kernel_rfl
theorem Aan:Af prog 132 (Ent.rd1 Or).F:=by
 refine fcK KnowsL.nil.knows (Λ:=Aa []) func132 fun vs bs r hq=>?_
 unfold Ent.F Or at hq;dsimp only at hq;split at hq
 ·rename_i a0 a1 a2 a3 a4 a5 b0 b1 b2 b3 b4 b5;refine ⟨Ah _,(WS a0 a1 a2 a3 a4 a5 b0 b1 b2 b3 b4 b5).trans (Eq.trans ?_ hq)⟩;show _=some _;unfold GK bne;dsimp only;cases a0==b0<;>cases a1==b1<;>cases a2==b2<;>cases a3==b3<;>cases a4==b4<;>cases a5==b5<;>rfl
 ·cases hq
theorem WP (a0 a1 a2:Int) (a3:By) (a4 a5:Int) (b0 b1 b2:Int) (b3:By) (b4 b5:Int):Aw prog (Aa []) (Aa []) f131 [.agg (Lw a0 a1 a2 a3 a4 a5),.agg (Lw b0 b1 b2 b3 b4 b5)] [] =
 ((ifB (a0 != b0) nF (ifB (a1 != b1) nF (ifB (a2 != b2) nF (ifB (!a3==b3) nF (ifB (a4 != b4)
 nF (ifB (a5 != b5) nF (some (V.b true,[])))))))):_):=by kernel_rfl
theorem Aam:Af prog 131 (Ent.rd1 Oo).F:=by
 refine fcK KnowsL.nil.knows (Λ:=Aa []) func131 fun vs bs r hq=>?_
 unfold Ent.F Oo at hq;dsimp only at hq;split at hq
 ·rename_i a0 a1 a2 a3 a4 a5 b0 b1 b2 b3 b4 b5;refine ⟨Ah _,(WP a0 a1 a2 a3 a4 a5 b0 b1 b2 b3 b4 b5).trans (Eq.trans ?_ hq)⟩;show _=some _;unfold GJ bne;dsimp only;cases a0==b0<;>cases a1==b1<;>cases a2==b2<;>cases a3==b3<;>cases a4==b4<;>cases a5==b5<;>rfl
 ·cases hq
theorem JS (l q:List Nt) (i:Int):At prog (Aa [(22,.rd1 Mk)]) (Aa [(4,Gl)]) 0 (body f54 0) Gl ([.sl NTd l,.sl NTd q,.j i],[]) =
 ((ifB (decide (i<(↑l.length:Int))) (ifT (decide (0<=i)&&decide (i<(↑l.length:Int))) (Ak l[i.toNat]? fun z=>ifT (decide (0<=i)&&decide (i<(↑q.length :
 Int))) (Ak q[i.toNat]? fun z_1=>ifB (!Gn (z.1,z.2.1,z.2.2.1,()) (z_1.1,z_1.2.1,z_1.2.2.1,())) rF (some
 (Ex.normal,[V.sl NTd l,V.sl NTd q,V.j (i64.wrap (i+1))],[]))))) (some (Ex.exit 0,[],[]))):_):=by kernel_rfl
theorem TI (l q:List Nt):Aw prog (Aa [(22,.rd1 Mk)]) (Aa [(4,Gl)]) f54 [.sl NTd l,.sl NTd q] [] =
 ((ifB ((↑l.length:Int) != (↑q.length:Int)) nF (ifT (decide ((0:Int)<=(0:Int)/\0<=l.length/\l.length=q.length/\l.length<=maxI))
 (ifB (eqL Gn (drop 0 l) (drop 0 q)) (some (V.b true,[])) nF))):_):=by kernel_rfl
theorem Mj (l q:List Nt) (hl:l.length<=maxI) (hq:l.length=q.length) : ∀ (j i:Nat),i+j=l.length->∀ ex d,(Br.br (eqL Gn (l.drop i) (q.drop i)) (.leaf (.exit 0,([],[]))) (.leaf (.ret,([.b false],[]))):Br (Ex×Dt)).run=some (ex,d)->Runs prog (Aa [(22,.rd1 Mk)]) (Aa [(4,Gl)]) 0 (body f54 0) Gl ([.sl NTd l,.sl NTd q,.j (i:Int)],[]) ex d
 | 0,i,hi,ex,d,h=>by
  have hr:=JS l q i;rw [Ac (dcF (by omega))] at hr;rw [drop_eq_nil_of_le (by omega),drop_eq_nil_of_le (by omega),eqL] at h;obtain ⟨rfl,rfl⟩:=lfP h;exact stp hr
 | j+1,i,hi,ex,d,h=>by
  have hM:=mxI;have hlt:i<l.length:=by omega
  have hlq:i<q.length:=by omega
  have hr:=JS l q i;rw [Ae (dcT (by omega)),T2 (by omega),ntN,gtE hlt,Ai,T2 (by omega),gtE hlq,Ai,Ap (n:=i) (by omega)] at hr;rw [drop_eq_getElem_cons hlt,drop_eq_getElem_cons hlq,eqL] at h;have e : ∀ x y:Nt,Gn (x.1,x.2.1,x.2.2.1,()) (y.1,y.2.1,y.2.2.1,())=Gn x y:=fun x y=>rfl
  rw [e] at hr
  cases h1:Gn l[i] q[i] with
  | false=>
   rw [h1] at hr h;obtain ⟨rfl,rfl⟩:=lfP h;exact stp hr
  | true=>
   rw [h1] at hr h;exact sts hr (Mj l q hl hq j (i+1) (by omega) ex d h)
theorem WW:Af prog 54 (Ent.rd1 TJ).F:=by
 refine fcK (kc func22 Rv KnowsL.nil).knows (Λ:=(Aa [(4,Gl)])) func54 fun vs bs r hq=>?_
 unfold Ent.F TJ at hq;dsimp only at hq;split at hq
 ·rename_i l q;obtain ⟨hc,hx⟩:=Ad hq;have hc:=of_decide_eq_true hc
  have hok:As prog (Aa [(22,.rd1 Mk)]) (Aa [(4,Gl)]) 0 (f54.body.getD .skip):=by
   refine Am (a:=body f54 0) (by kernel_rfl) fun d ex d' h=>?_
   unfold Gl at h;dsimp only at h;split at h
   ·rename_i l q i;obtain ⟨hc,hx⟩:=Ad h;obtain ⟨a0,a1,a2,a3⟩:=of_decide_eq_true hc;obtain ⟨i,rfl⟩:=eq_ofNat_of_zero_le a0;simp only [ntN] at a1 hx;exact Mj l q a3 a2 (l.length-i) i (by omega) ex d' hx
   ·cases h
  refine ⟨hok,(TI l q).trans (Eq.trans ?_ hx)⟩;show _=some _
  by_cases h:l.length=q.length
  ·have h2:((l.length:Int) != (q.length:Int))=false:=bne_eq_false_iff_eq.2 (by omega);rw [h2,A6,Ab (dcT ⟨by omega,by omega,h,hc⟩),drop_zero,drop_zero];cases eqL Gn l q<;>rfl
  ·have h2:((l.length:Int) != (q.length:Int))=true:=bne_iff_ne.2 (by omega);rw [h2,Jb h];rfl
 ·cases hq
theorem JQ (l q:List Ty) (i:Int):At prog (Aa [(132,.rd1 Or)]) (Aa [(4,Gj)]) 0 (body f91 0) Gj ([.sl TCd l,.sl TCd q,.j i],[]) =
 ((ifB (decide (i<(↑l.length:Int))) (ifT (decide (0<=i)&&decide (i<(↑l.length:Int))) (Ak l[i.toNat]? fun z=>ifT (decide (0<=i)&&decide (i<(↑q.length :
 Int))) (Ak q[i.toNat]? fun z_1=>ifB (!GK (z.1,z.2.1,z.2.2.1,z.2.2.2.1,z.2.2.2.2.1,z.2.2.2.2.2.1,()) (z_1.1,
 z_1.2.1,z_1.2.2.1,z_1.2.2.2.1,z_1.2.2.2.2.1,z_1.2.2.2.2.2.1,())) rF (some (Ex.normal,[V.sl TCd
 l,V.sl TCd q,V.j (i64.wrap (i+1))],[]))))) (some (Ex.exit 0,[],[]))):_):=by kernel_rfl
theorem TD (l q:List Ty):Aw prog (Aa [(132,.rd1 Or)]) (Aa [(4,Gj)]) f91 [.sl TCd l,.sl TCd q] [] =
 ((ifB ((↑l.length:Int) != (↑q.length:Int)) nF (ifT (decide ((0:Int)<=(0:Int)/\0<=l.length/\l.length=q.length/\l.length<=maxI))
 (ifB (eqL GK (drop 0 l) (drop 0 q)) (some (V.b true,[])) nF))):_):=by kernel_rfl
theorem Mh (l q:List Ty) (hl:l.length<=maxI) (hq:l.length=q.length) : ∀ (j i:Nat),i+j=l.length->∀ ex d,(Br.br (eqL GK (l.drop i) (q.drop i)) (.leaf (.exit 0,([],[]))) (.leaf (.ret,([.b false],[]))):Br (Ex×Dt)).run=some (ex,d)->Runs prog (Aa [(132,.rd1 Or)]) (Aa [(4,Gj)]) 0 (body f91 0) Gj ([.sl TCd l,.sl TCd q,.j (i:Int)],[]) ex d
 | 0,i,hi,ex,d,h=>by
  have hr:=JQ l q i;rw [Ac (dcF (by omega))] at hr;rw [drop_eq_nil_of_le (by omega),drop_eq_nil_of_le (by omega),eqL] at h;obtain ⟨rfl,rfl⟩:=lfP h;exact stp hr
 | j+1,i,hi,ex,d,h=>by
  have hM:=mxI;have hlt:i<l.length:=by omega
  have hlq:i<q.length:=by omega
  have hr:=JQ l q i;rw [Ae (dcT (by omega)),T2 (by omega),ntN,gtE hlt,Ai,T2 (by omega),gtE hlq,Ai,Ap (n:=i) (by omega)] at hr;rw [drop_eq_getElem_cons hlt,drop_eq_getElem_cons hlq,eqL] at h;have e : ∀ x y:Ty,GK (x.1,x.2.1,x.2.2.1,x.2.2.2.1,x.2.2.2.2.1,x.2.2.2.2.2.1,()) (y.1,y.2.1,y.2.2.1,y.2.2.2.1,y.2.2.2.2.1,y.2.2.2.2.2.1,())=GK x y:=fun x y=>rfl
  rw [e] at hr
  cases h1:GK l[i] q[i] with
  | false=>
   rw [h1] at hr h;obtain ⟨rfl,rfl⟩:=lfP h;exact stp hr
  | true=>
   rw [h1] at hr h;exact sts hr (Mh l q hl hq j (i+1) (by omega) ex d h)
theorem WR:Af prog 91 (Ent.rd1 TE).F:=by
 refine fcK (kc func132 Aan KnowsL.nil).knows (Λ:=(Aa [(4,Gj)])) func91 fun vs bs r hq=>?_
 unfold Ent.F TE at hq;dsimp only at hq;split at hq
 ·rename_i l q;obtain ⟨hc,hx⟩:=Ad hq;have hc:=of_decide_eq_true hc
  have hok:As prog (Aa [(132,.rd1 Or)]) (Aa [(4,Gj)]) 0 (f91.body.getD .skip):=by
   refine Am (a:=body f91 0) (by kernel_rfl) fun d ex d' h=>?_
   unfold Gj at h;dsimp only at h;split at h
   ·rename_i l q i;obtain ⟨hc,hx⟩:=Ad h;obtain ⟨a0,a1,a2,a3⟩:=of_decide_eq_true hc;obtain ⟨i,rfl⟩:=eq_ofNat_of_zero_le a0;simp only [ntN] at a1 hx;exact Mh l q a3 a2 (l.length-i) i (by omega) ex d' hx
   ·cases h
  refine ⟨hok,(TD l q).trans (Eq.trans ?_ hx)⟩;show _=some _
  by_cases h:l.length=q.length
  ·have h2:((l.length:Int) != (q.length:Int))=false:=bne_eq_false_iff_eq.2 (by omega);rw [h2,A6,Ab (dcT ⟨by omega,by omega,h,hc⟩),drop_zero,drop_zero];cases eqL GK l q<;>rfl
  ·have h2:((l.length:Int) != (q.length:Int))=true:=bne_iff_ne.2 (by omega);rw [h2,Jb h];rfl
 ·cases hq
theorem JP (l q:List Wt) (i:Int):At prog (Aa [(131,.rd1 Oo)]) (Aa [(4,Gi)]) 0 (body f90 0) Gi ([.sl WCd l,.sl WCd q,.j i],[]) =
 ((ifB (decide (i<(↑l.length:Int))) (ifT (decide (0<=i)&&decide (i<(↑l.length:Int))) (Ak l[i.toNat]? fun z=>ifT (decide (0<=i)&&decide (i<(↑q.length :
 Int))) (Ak q[i.toNat]? fun z_1=>ifB (!GJ (z.1,z.2.1,z.2.2.1,z.2.2.2.1,z.2.2.2.2.1,z.2.2.2.2.2.1,()) (z_1.1,
 z_1.2.1,z_1.2.2.1,z_1.2.2.2.1,z_1.2.2.2.2.1,z_1.2.2.2.2.2.1,())) rF (some (Ex.normal,[V.sl WCd
 l,V.sl WCd q,V.j (i64.wrap (i+1))],[]))))) (some (Ex.exit 0,[],[]))):_):=by kernel_rfl
theorem TB (l q:List Wt):Aw prog (Aa [(131,.rd1 Oo)]) (Aa [(4,Gi)]) f90 [.sl WCd l,.sl WCd q] [] =
 ((ifB ((↑l.length:Int) != (↑q.length:Int)) nF (ifT (decide ((0:Int)<=(0:Int)/\0<=l.length/\l.length=q.length/\l.length<=maxI))
 (ifB (eqL GJ (drop 0 l) (drop 0 q)) (some (V.b true,[])) nF))):_):=by kernel_rfl
theorem Mg (l q:List Wt) (hl:l.length<=maxI) (hq:l.length=q.length) : ∀ (j i:Nat),i+j=l.length->∀ ex d,(Br.br (eqL GJ (l.drop i) (q.drop i)) (.leaf (.exit 0,([],[]))) (.leaf (.ret,([.b false],[]))):Br (Ex×Dt)).run=some (ex,d)->Runs prog (Aa [(131,.rd1 Oo)]) (Aa [(4,Gi)]) 0 (body f90 0) Gi ([.sl WCd l,.sl WCd q,.j (i:Int)],[]) ex d
 | 0,i,hi,ex,d,h=>by
  have hr:=JP l q i;rw [Ac (dcF (by omega))] at hr;rw [drop_eq_nil_of_le (by omega),drop_eq_nil_of_le (by omega),eqL] at h;obtain ⟨rfl,rfl⟩:=lfP h;exact stp hr
 | j+1,i,hi,ex,d,h=>by
  have hM:=mxI;have hlt:i<l.length:=by omega
  have hlq:i<q.length:=by omega
  have hr:=JP l q i;rw [Ae (dcT (by omega)),T2 (by omega),ntN,gtE hlt,Ai,T2 (by omega),gtE hlq,Ai,Ap (n:=i) (by omega)] at hr;rw [drop_eq_getElem_cons hlt,drop_eq_getElem_cons hlq,eqL] at h;have e : ∀ x y:Wt,GJ (x.1,x.2.1,x.2.2.1,x.2.2.2.1,x.2.2.2.2.1,x.2.2.2.2.2.1,()) (y.1,y.2.1,y.2.2.1,y.2.2.2.1,y.2.2.2.2.1,y.2.2.2.2.2.1,())=GJ x y:=fun x y=>rfl
  rw [e] at hr
  cases h1:GJ l[i] q[i] with
  | false=>
   rw [h1] at hr h;obtain ⟨rfl,rfl⟩:=lfP h;exact stp hr
  | true=>
   rw [h1] at hr h;exact sts hr (Mg l q hl hq j (i+1) (by omega) ex d h)
theorem WO:Af prog 90 (Ent.rd1 TC).F:=by
 refine fcK (kc func131 Aam KnowsL.nil).knows (Λ:=(Aa [(4,Gi)])) func90 fun vs bs r hq=>?_
 unfold Ent.F TC at hq;dsimp only at hq;split at hq
 ·rename_i l q;obtain ⟨hc,hx⟩:=Ad hq;have hc:=of_decide_eq_true hc
  have hok:As prog (Aa [(131,.rd1 Oo)]) (Aa [(4,Gi)]) 0 (f90.body.getD .skip):=by
   refine Am (a:=body f90 0) (by kernel_rfl) fun d ex d' h=>?_
   unfold Gi at h;dsimp only at h;split at h
   ·rename_i l q i;obtain ⟨hc,hx⟩:=Ad h;obtain ⟨a0,a1,a2,a3⟩:=of_decide_eq_true hc;obtain ⟨i,rfl⟩:=eq_ofNat_of_zero_le a0;simp only [ntN] at a1 hx;exact Mg l q a3 a2 (l.length-i) i (by omega) ex d' hx
   ·cases h
  refine ⟨hok,(TB l q).trans (Eq.trans ?_ hx)⟩;show _=some _
  by_cases h:l.length=q.length
  ·have h2:((l.length:Int) != (q.length:Int))=false:=bne_eq_false_iff_eq.2 (by omega);rw [h2,A6,Ab (dcT ⟨by omega,by omega,h,hc⟩),drop_zero,drop_zero];cases eqL GJ l q<;>rfl
  ·have h2:((l.length:Int) != (q.length:Int))=true:=bne_iff_ne.2 (by omega);rw [h2,Jb h];rfl
 ·cases hq
def GY (x y:List Ty×Unit):Bool:=eqL GK x.1 y.1
def Gh (x:List Ty×Unit):Bool:=decide (x.1.length<=maxI)
def P6:Gm
 | [.agg [.sl TCd a0],.agg [.sl TCd b0]],[]=>.need (Gh (a0,())) (.leaf (.b (GY (a0,()) (b0,())),[]))
 | _,_=>.no
def Ow (x y:List Wt×Unit):Bool:=eqL GJ x.1 y.1
def Mf (x:List Wt×Unit):Bool:=decide (x.1.length<=maxI)
def TL:Gm
 | [.agg [.sl WCd a0],.agg [.sl WCd b0]],[]=>.need (Mf (a0,())) (.leaf (.b (Ow (a0,()) (b0,())),[]))
 | _,_=>.no
def GL (x y:Tp):Bool:=x.1==y.1&&(GY x.2.1 y.2.1&&x.2.2.1==y.2.2.1)
def EB (x:Tp):Bool:=Gh x.2.1
def Ot:Gm
 | [.agg [.s a0,.sl TCd a1,.j a2],.agg [.s b0,.sl TCd b1,.j b2]],[]=>.need (EB (a0,(a1,()),a2,())) (.leaf (.b (GL (a0,(a1,()),a2,()) (b0,(b1,()),b2,())),[]))
 | _,_=>.no
def GM (x y:Fa):Bool:=x.1==y.1&&(x.2.1==y.2.1&&(Ow x.2.2.1 y.2.2.1&&(GY x.2.2.2.1 y.2.2.2.1&&(eqL Gn x.2.2.2.2.1 y.2.2.2.2.1&&x.2.2.2.2.2.1==y.2.2.2.2.2.1))))
def EC (x:Fa):Bool:=Mf x.2.2.1&&(Gh x.2.2.2.1&&decide (x.2.2.2.2.1.length<=maxI))
def Ox:Gm
 | [.agg (Lf a0 a1 a2 a3 a4 a5),.agg (Lf b0 b1 b2 b3 b4 b5)],[]=>.need (EC (a0,a1,(a2,()),(a3,()),a4,a5,())) (.leaf (.b (GM (a0,a1,(a2,()),(a3,()),a4,a5,()) (b0,b1,(b2,()),(b3,()),b4,b5,())),[]))
 | _,_=>.no
def Gk:LoopEnt:=⟨27,[0,1,5],[],[4],fun
 | ([.sl TPd l,.sl TPd q,.j i],[])=>.need (decide (0<=i/\i.toNat<=l.length/\l.length=q.length/\l.length<=maxI)&&l.all EB) (.br (eqL GL (l.drop i.toNat) (q.drop i.toNat)) (.leaf (.exit 0,([],[]))) (.leaf (.ret,([.b false],[]))))
 | _=>.no⟩
def TG:Gm
 | [.sl TPd l,.sl TPd q],[]=>.need (decide (l.length<=maxI)&&l.all EB) (.leaf (.b (eqL GL l q),[]))
 | _,_=>.no
def Gp:LoopEnt:=⟨27,[0,1,5],[],[4],fun
 | ([.sl FNd l,.sl FNd q,.j i],[])=>.need (decide (0<=i/\i.toNat<=l.length/\l.length=q.length/\l.length<=maxI)&&l.all EC) (.br (eqL GM (l.drop i.toNat) (q.drop i.toNat)) (.leaf (.exit 0,([],[]))) (.leaf (.ret,([.b false],[]))))
 | _=>.no⟩
def TN:Gm
 | [.sl FNd l,.sl FNd q],[]=>.need (decide (l.length<=maxI)&&l.all EC) (.leaf (.b (eqL GM l q),[]))
 | _,_=>.no
def Aat (x y:List Tp×List Fa×Unit):Bool:=eqL GL x.1 y.1&&eqL GM x.2.1 y.2.1
def Ru (x:List Tp×List Fa×Unit):Bool:=(decide (x.1.length<=maxI)&&x.1.all EB)&&(decide (x.2.1.length<=maxI)&&x.2.1.all EC)
def Aas:Gm
 | [.agg l,.agg q],[]=>(match l with
  | [.sl TPd a0,.sl FNd a1]=>(match q with
   | [.sl TPd b0,.sl FNd b1]=>.need (Ru (a0,a1,())) (.leaf (.b (Aat (a0,a1,()) (b0,b1,())),[]))
   | _=>.no)
  | _=>.no)
 | _,_=>.no
theorem TH (a0:List Ty) (b0:List Ty):Aw prog (Aa [(91,.rd1 TE)]) (Aa []) f53 [.agg [.sl TCd a0],.agg [.sl TCd b0]] [] =
 ((ifT (decide (a0.length<=maxI)) (ifB (!eqL GK a0 b0) nF (some (V.b true,[])))):_):=by kernel_rfl
theorem Ou:Af prog 53 (Ent.rd1 P6).F:=by
 refine fcK (kc func91 WR KnowsL.nil).knows (Λ:=Aa []) func53 fun vs bs r hq=>?_
 unfold Ent.F P6 at hq;dsimp only at hq;split at hq
 ·rename_i a0 b0;obtain ⟨hc,hx⟩:=Ad hq;unfold Gh at hc;dsimp only at hc;refine ⟨Ah _,(TH a0 b0).trans (Eq.trans ?_ hx)⟩;show _=some _;unfold GY;dsimp only;rw [Ab hc];cases eqL GK a0 b0<;>rfl
 ·cases hq
theorem TK (a0:List Wt) (b0:List Wt):Aw prog (Aa [(90,.rd1 TC)]) (Aa []) f52 [.agg [.sl WCd a0],.agg [.sl WCd b0]] [] =
 ((ifT (decide (a0.length<=maxI)) (ifB (!eqL GJ a0 b0) nF (some (V.b true,[])))):_):=by kernel_rfl
theorem WY:Af prog 52 (Ent.rd1 TL).F:=by
 refine fcK (kc func90 WO KnowsL.nil).knows (Λ:=Aa []) func52 fun vs bs r hq=>?_
 unfold Ent.F TL at hq;dsimp only at hq;split at hq
 ·rename_i a0 b0;obtain ⟨hc,hx⟩:=Ad hq;unfold Mf at hc;dsimp only at hc;refine ⟨Ah _,(TK a0 b0).trans (Eq.trans ?_ hx)⟩;show _=some _;unfold Ow;dsimp only;rw [Ab hc];cases eqL GJ a0 b0<;>rfl
 ·cases hq
theorem WU (a0:By) (a1:List Ty) (a2:Int) (b0:By) (b1:List Ty) (b2:Int):Aw prog (Aa [(53,.rd1 P6)]) (Aa []) f89 [.agg [.s a0,.sl TCd a1,.j a2],.agg [.s b0,.sl TCd b1,.j b2]] [] =
 ((ifB (!a0==b0) nF (ifT (Gh (a1,())) (ifB (!GY (a1,()) (b1,())) nF (ifB (a2 != b2) nF (some (V.b
 true,[])))))):_):=by kernel_rfl
theorem Aao:Af prog 89 (Ent.rd1 Ot).F:=by
 refine fcK (kc func53 Ou KnowsL.nil).knows (Λ:=Aa []) func89 fun vs bs r hq=>?_
 unfold Ent.F Ot at hq;dsimp only at hq;split at hq
 ·rename_i a0 a1 a2 b0 b1 b2;obtain ⟨hc,hx⟩:=Ad hq;unfold EB at hc;dsimp only at hc;refine ⟨Ah _,(WU a0 a1 a2 b0 b1 b2).trans (Eq.trans ?_ hx)⟩;show _=some _;unfold GL;dsimp only;rw [Ab hc];unfold bne;cases a0==b0<;>cases GY (a1,()) (b1,())<;>cases a2==b2<;>rfl
 ·cases hq
theorem Xa (a0:Int) (a1:By) (a2:List Wt) (a3:List Ty) (a4:List Nt) (a5:Int) (b0:Int) (b1:By) (b2:List Wt) (b3:List Ty) (b4:List Nt) (b5:Int):Aw prog (Aa [(52,.rd1 TL),(53,.rd1 P6),(54,.rd1 TJ)]) (Aa []) f14 [.agg (Lf a0 a1 a2 a3 a4 a5),.agg (Lf b0 b1 b2 b3 b4 b5)] [] =
 ((ifB (a0 != b0) nF (ifB (!a1==b1) nF (ifT (Mf (a2,())) (ifB (!Ow (a2,()) (b2,())) nF (ifT (Gh
 (a3,())) (ifB (!GY (a3,()) (b3,())) nF (ifT (decide (a4.length<=maxI)) (ifB (!eqL Gn a4 b4) nF (ifB (a5 != b5) nF (some (V.b true,[]))))))))))):_):=by kernel_rfl
theorem Aaq:Af prog 14 (Ent.rd1 Ox).F:=by
 refine fcK (kc func52 WY (kc func53 Ou (kc func54 WW KnowsL.nil))).knows (Λ:=Aa []) func14 fun vs bs r hq=>?_
 unfold Ent.F Ox at hq;dsimp only at hq;split at hq
 ·rename_i a0 a1 a2 a3 a4 a5 b0 b1 b2 b3 b4 b5;obtain ⟨hc,hx⟩:=Ad hq;unfold EC at hc;dsimp only at hc;refine ⟨Ah _,(Xa a0 a1 a2 a3 a4 a5 b0 b1 b2 b3 b4 b5).trans (Eq.trans ?_ hx)⟩;show _=some _;unfold GM;dsimp only;rw [anE,anE] at hc;rw [Ab hc.1,Ab hc.2.1,Ab hc.2.2];unfold bne;cases a0==b0<;>cases a1==b1<;>cases Ow (a2,()) (b2,())<;>cases GY (a3,()) (b3,())<;>cases eqL Gn a4 b4<;>cases a5==b5<;>rfl
 ·cases hq
theorem JR (l q:List Tp) (i:Int):At prog (Aa [(89,.rd1 Ot)]) (Aa [(4,Gk)]) 0 (body f50 0) Gk ([.sl TPd l,.sl TPd q,.j i],[]) =
 ((ifB (decide (i<(↑l.length:Int))) (ifT (decide (0<=i)&&decide (i<(↑l.length:Int))) (Ak l[i.toNat]? fun z=>ifT (decide (0<=i)&&decide (i<(↑q.length :
 Int))) (Ak q[i.toNat]? fun z_1=>ifT (EB (z.1,(z.2.1.1,()),z.2.2.1,())) (ifB (!GL (z.1,(z.2.1.1,()),z.2.2.1,()) (z_1.1,
 (z_1.2.1.1,()),z_1.2.2.1,())) rF (some (Ex.normal,[V.sl TPd l,V.sl TPd q,V.j (i64.wrap (i+1))],[]))))))
 (some (Ex.exit 0,[],[]))):_):=by kernel_rfl
theorem TF (l q:List Tp):Aw prog (Aa [(89,.rd1 Ot)]) (Aa [(4,Gk)]) f50 [.sl TPd l,.sl TPd q] [] =
 ((ifB ((↑l.length:Int) != (↑q.length:Int)) nF (ifT (decide ((0:Int)<=(0:Int)/\0<=l.length/\l.length=q.length/\l.length<=maxI)&&
 l.all EB) (ifB (eqL GL (drop 0 l) (drop 0 q)) (some (V.b true,[])) nF))):_):=by kernel_rfl
theorem Mi (l q:List Tp) (hl:l.length<=maxI) (hq:l.length=q.length) (hn:l.all EB=true) : ∀ (j i:Nat),i+j=l.length->∀ ex d,(Br.br (eqL GL (l.drop i) (q.drop i)) (.leaf (.exit 0,([],[]))) (.leaf (.ret,([.b false],[]))):Br (Ex×Dt)).run=some (ex,d)->Runs prog (Aa [(89,.rd1 Ot)]) (Aa [(4,Gk)]) 0 (body f50 0) Gk ([.sl TPd l,.sl TPd q,.j (i:Int)],[]) ex d
 | 0,i,hi,ex,d,h=>by
  have hr:=JR l q i;rw [Ac (dcF (by omega))] at hr;rw [drop_eq_nil_of_le (by omega),drop_eq_nil_of_le (by omega),eqL] at h;obtain ⟨rfl,rfl⟩:=lfP h;exact stp hr
 | j+1,i,hi,ex,d,h=>by
  have hM:=mxI;have hlt:i<l.length:=by omega
  have hlq:i<q.length:=by omega
  have hr:=JR l q i;rw [Ae (dcT (by omega)),T2 (by omega),ntN,gtE hlt,Ai,T2 (by omega),gtE hlq,Ai,Ap (n:=i) (by omega)] at hr;rw [drop_eq_getElem_cons hlt,drop_eq_getElem_cons hlq,eqL] at h;have e : ∀ x y:Tp,GL (x.1,(x.2.1.1,()),x.2.2.1,()) (y.1,(y.2.1.1,()),y.2.2.1,())=GL x y:=fun x y=>rfl
  rw [e,show EB (l[i].1,(l[i].2.1.1,()),l[i].2.2.1,())=true from all_eq_true.1 hn _ (getElem_mem hlt),CP] at hr
  cases h1:GL l[i] q[i] with
  | false=>
   rw [h1] at hr h;obtain ⟨rfl,rfl⟩:=lfP h;exact stp hr
  | true=>
   rw [h1] at hr h;exact sts hr (Mi l q hl hq hn j (i+1) (by omega) ex d h)
theorem WT:Af prog 50 (Ent.rd1 TG).F:=by
 refine fcK (kc func89 Aao KnowsL.nil).knows (Λ:=(Aa [(4,Gk)])) func50 fun vs bs r hq=>?_
 unfold Ent.F TG at hq;dsimp only at hq;split at hq
 ·rename_i l q;obtain ⟨hc,hx⟩:=Ad hq;rw [anE,dcE] at hc;obtain ⟨hc,hn⟩:=hc
  have hok:As prog (Aa [(89,.rd1 Ot)]) (Aa [(4,Gk)]) 0 (f50.body.getD .skip):=by
   refine Am (a:=body f50 0) (by kernel_rfl) fun d ex d' h=>?_
   unfold Gk at h;dsimp only at h;split at h
   ·rename_i l q i;obtain ⟨hc,hx⟩:=Ad h;rw [anE,dcE] at hc;obtain ⟨⟨a0,a1,a2,a3⟩,a4⟩:=hc;obtain ⟨i,rfl⟩:=eq_ofNat_of_zero_le a0;simp only [ntN] at a1 hx;exact Mi l q a3 a2 a4 (l.length-i) i (by omega) ex d' hx
   ·cases h
  refine ⟨hok,(TF l q).trans (Eq.trans ?_ hx)⟩;show _=some _
  by_cases h:l.length=q.length
  ·have h2:((l.length:Int) != (q.length:Int))=false:=bne_eq_false_iff_eq.2 (by omega);rw [h2,A6,Ab (by rw [anE]; exact ⟨dcT ⟨by omega,by omega,h,hc⟩,hn⟩),drop_zero,drop_zero];cases eqL GL l q<;>rfl
  ·have h2:((l.length:Int) != (q.length:Int))=true:=bne_iff_ne.2 (by omega);rw [h2,Jb h];rfl
 ·cases hq
theorem JT (l q:List Fa) (i:Int):At prog (Aa [(14,.rd1 Ox)]) (Aa [(4,Gp)]) 0 (body f51 0) Gp ([.sl FNd l,.sl FNd q,.j i],[]) =
 ((ifB (decide (i<(↑l.length:Int))) (ifT (decide (0<=i)&&decide (i<(↑l.length:Int))) (Ak l[i.toNat]? fun z=>ifT (decide (0<=i)&&decide (i<(↑q.length :
 Int))) (Ak q[i.toNat]? fun z_1=>ifT (EC (z.1,z.2.1,(z.2.2.1.1,()),(z.2.2.2.1.1,()),z.2.2.2.2.1,
 z.2.2.2.2.2.1,())) (ifB (!GM (z.1,z.2.1,(z.2.2.1.1,()),(z.2.2.2.1.1,()),z.2.2.2.2.1,z.2.2.2.2.2.1,())
 (z_1.1,z_1.2.1,(z_1.2.2.1.1,()),(z_1.2.2.2.1.1,()),z_1.2.2.2.2.1,z_1.2.2.2.2.2.1,())) rF (some (Ex.normal,[V.sl FNd l,V.sl FNd q,V.j (i64.wrap (i+1))],[])))))) (some (Ex.exit 0,[],[]))):_):=by kernel_rfl
theorem TM (l q:List Fa):Aw prog (Aa [(14,.rd1 Ox)]) (Aa [(4,Gp)]) f51 [.sl FNd l,.sl FNd q] [] =
 ((ifB ((↑l.length:Int) != (↑q.length:Int)) nF (ifT (decide ((0:Int)<=(0:Int)/\0<=l.length/\l.length=q.length/\l.length<=maxI)&&
 l.all EC) (ifB (eqL GM (drop 0 l) (drop 0 q)) (some (V.b true,[])) nF))):_):=by kernel_rfl
theorem Ml (l q:List Fa) (hl:l.length<=maxI) (hq:l.length=q.length) (hn:l.all EC=true) : ∀ (j i:Nat),i+j=l.length->∀ ex d,(Br.br (eqL GM (l.drop i) (q.drop i)) (.leaf (.exit 0,([],[]))) (.leaf (.ret,([.b false],[]))):Br (Ex×Dt)).run=some (ex,d)->Runs prog (Aa [(14,.rd1 Ox)]) (Aa [(4,Gp)]) 0 (body f51 0) Gp ([.sl FNd l,.sl FNd q,.j (i:Int)],[]) ex d
 | 0,i,hi,ex,d,h=>by
  have hr:=JT l q i;rw [Ac (dcF (by omega))] at hr;rw [drop_eq_nil_of_le (by omega),drop_eq_nil_of_le (by omega),eqL] at h;obtain ⟨rfl,rfl⟩:=lfP h;exact stp hr
 | j+1,i,hi,ex,d,h=>by
  have hM:=mxI;have hlt:i<l.length:=by omega
  have hlq:i<q.length:=by omega
  have hr:=JT l q i;rw [Ae (dcT (by omega)),T2 (by omega),ntN,gtE hlt,Ai,T2 (by omega),gtE hlq,Ai,Ap (n:=i) (by omega)] at hr;rw [drop_eq_getElem_cons hlt,drop_eq_getElem_cons hlq,eqL] at h;have e : ∀ x y:Fa,GM (x.1,x.2.1,(x.2.2.1.1,()),(x.2.2.2.1.1,()),x.2.2.2.2.1,x.2.2.2.2.2.1,()) (y.1,y.2.1,(y.2.2.1.1,()),(y.2.2.2.1.1,()),y.2.2.2.2.1,y.2.2.2.2.2.1,())=GM x y:=fun x y=>rfl
  rw [e,show EC (l[i].1,l[i].2.1,(l[i].2.2.1.1,()),(l[i].2.2.2.1.1,()),l[i].2.2.2.2.1,l[i].2.2.2.2.2.1,())=true from all_eq_true.1 hn _ (getElem_mem hlt),CP] at hr
  cases h1:GM l[i] q[i] with
  | false=>
   rw [h1] at hr h;obtain ⟨rfl,rfl⟩:=lfP h;exact stp hr
  | true=>
   rw [h1] at hr h;exact sts hr (Ml l q hl hq hn j (i+1) (by omega) ex d h)
theorem WZ:Af prog 51 (Ent.rd1 TN).F:=by
 refine fcK (kc func14 Aaq KnowsL.nil).knows (Λ:=(Aa [(4,Gp)])) func51 fun vs bs r hq=>?_
 unfold Ent.F TN at hq;dsimp only at hq;split at hq
 ·rename_i l q;obtain ⟨hc,hx⟩:=Ad hq;rw [anE,dcE] at hc;obtain ⟨hc,hn⟩:=hc
  have hok:As prog (Aa [(14,.rd1 Ox)]) (Aa [(4,Gp)]) 0 (f51.body.getD .skip):=by
   refine Am (a:=body f51 0) (by kernel_rfl) fun d ex d' h=>?_
   unfold Gp at h;dsimp only at h;split at h
   ·rename_i l q i;obtain ⟨hc,hx⟩:=Ad h;rw [anE,dcE] at hc;obtain ⟨⟨a0,a1,a2,a3⟩,a4⟩:=hc;obtain ⟨i,rfl⟩:=eq_ofNat_of_zero_le a0;simp only [ntN] at a1 hx;exact Ml l q a3 a2 a4 (l.length-i) i (by omega) ex d' hx
   ·cases h
  refine ⟨hok,(TM l q).trans (Eq.trans ?_ hx)⟩;show _=some _
  by_cases h:l.length=q.length
  ·have h2:((l.length:Int) != (q.length:Int))=false:=bne_eq_false_iff_eq.2 (by omega);rw [h2,A6,Ab (by rw [anE]; exact ⟨dcT ⟨by omega,by omega,h,hc⟩,hn⟩),drop_zero,drop_zero];cases eqL GM l q<;>rfl
  ·have h2:((l.length:Int) != (q.length:Int))=true:=bne_iff_ne.2 (by omega);rw [h2,Jb h];rfl
 ·cases hq
theorem Xc (a0:List Tp) (a1:List Fa) (b0:List Tp) (b1:List Fa):Aw prog (Aa [(50,.rd1 TG),(51,.rd1 TN)]) (Aa []) f13 [.agg [.sl TPd a0,.sl FNd a1],.agg [.sl TPd b0,.sl FNd b1]] [] =
 ((ifT (decide (a0.length<=maxI)&&a0.all EB) (ifB (!eqL GL a0 b0) nF (ifT (decide (a1.length<=maxI)&&a1.all EC) (ifB (!eqL GM a1 b1) nF (some (V.b true,[])))))):_):=by kernel_rfl
theorem Aar:Af prog 13 (Ent.rd1 Aas).F:=by
 refine fcK (kc func50 WT (kc func51 WZ KnowsL.nil)).knows (Λ:=Aa []) func13 fun vs bs r hq=>?_
 unfold Ent.F Aas at hq;dsimp only at hq;split at hq
 rotate_left
 ·cases hq
 split at hq
 rotate_left
 ·cases hq
 rename_i a0 a1;split at hq
 ·rename_i b0 b1;obtain ⟨hc,hx⟩:=Ad hq;unfold Ru at hc;dsimp only at hc;refine ⟨Ah _,(Xc a0 a1 b0 b1).trans (Eq.trans ?_ hx)⟩;show _=some _;unfold Aat;dsimp only;rw [anE] at hc;rw [Ab hc.1,Ab hc.2];cases eqL GL a0 b0<;>cases eqL GM a1 b1<;>rfl
 ·cases hq
def KO:Gm
 | [.agg [.s a0,.j a1,.s a2]],[]=>.leaf (.agg [.s a0,.j a1,.s a2],[])
 | _,_=>.no
def EQ:LoopEnt:=⟨23,[0,3,4],[3],[],fun
 | ([.sl NTd l,.ref 0 0 m,.j n],[R0 NTd r])=>
  .need (decide (0<=n/\m=l.length/\r.length=l.length/\n.toNat<=l.length/\l.length<=maxI)) (.leaf (.exit 0,([.ref 0 0 m],[R0 NTd (r.take n.toNat++l.drop n.toNat)])))
 | _=>.no⟩
def Sm:Gm
 | [.sl NTd l],[]=>.need (decide (l.length<=1000000000)) (.leaf (.ref 0 0 l.length,[R0 NTd l]))
 | _,_=>.no

def KL:Gm
 | [.agg (Ly a0 a1 a2 a3 a4 a5)],[]=>.leaf (.agg (Ly a0 a1 a2 a3 a4 a5),[])
 | _,_=>.no
def EP:LoopEnt:=⟨23,[0,3,4],[3],[],fun
 | ([.sl TCd l,.ref 0 0 m,.j n],[R0 TCd r])=>
  .need (decide (0<=n/\m=l.length/\r.length=l.length/\n.toNat<=l.length/\l.length<=maxI)) (.leaf (.exit 0,([.ref 0 0 m],[R0 TCd (r.take n.toNat++l.drop n.toNat)])))
 | _=>.no⟩
def Si:Gm
 | [.sl TCd l],[]=>.need (decide (l.length<=1000000000)) (.leaf (.ref 0 0 l.length,[R0 TCd l]))
 | _,_=>.no

def KI:Gm
 | [.agg (Lw a0 a1 a2 a3 a4 a5)],[]=>.leaf (.agg (Lw a0 a1 a2 a3 a4 a5),[])
 | _,_=>.no
def EO:LoopEnt:=⟨23,[0,3,4],[3],[],fun
 | ([.sl WCd l,.ref 0 0 m,.j n],[R0 WCd r])=>
  .need (decide (0<=n/\m=l.length/\r.length=l.length/\n.toNat<=l.length/\l.length<=maxI)) (.leaf (.exit 0,([.ref 0 0 m],[R0 WCd (r.take n.toNat++l.drop n.toNat)])))
 | _=>.no⟩
def Sh:Gm
 | [.sl WCd l],[]=>.need (decide (l.length<=1000000000)) (.leaf (.ref 0 0 l.length,[R0 WCd l]))
 | _,_=>.no
theorem XY (a0:By) (a1:Int) (a2:By):Aw prog (Aa []) (Aa []) f83 [.agg [.s a0,.j a1,.s a2]] []=some (.agg [.s a0,.j a1,.s a2],[]):=by kernel_rfl
theorem Aln:Af prog 83 (Ent.rd1 KO).F:=by
 refine AB (KnowsL.nil).knows (Λ:=Aa []) func83 (c:=f83.body.getD .skip) (by kernel_rfl) fun vs bs r h _ _=>?_
 unfold Ent.F KO at h;dsimp only at h;split at h
 ·exact ⟨Ah _,(XY _ _ _ ).trans (by cases h; rfl)⟩
 ·cases h
theorem Jv (l r:List Nt) (m n:Nat):At prog (Aa [(83,.rd1 KO)]) (Aa [(3,EQ)]) 0 (body f46 0) EQ ([.sl NTd l,.ref 0 0 m,.j n],[R0 NTd r]) =
 ((ifB (decide ((↑n:Int)<(↑l.length:Int))) (ifT (decide (0<=(↑n:Int))&&decide ((↑n:Int)<(↑l.length:Int))) (Ak l[((↑n:Int)).toNat]? fun z=>ifT (decide
 (0<=(↑n:Int))&&decide ((↑n:Int)<(↑m:Int))) (Ak r[0+((↑n:Int)).toNat]? fun z_1=>some (Ex.normal,[V.sl NTd l,V.ref 0 0 m,V.i .i64
 (i64.wrap ((↑n:Int)+(1:Int)))],[R0 NTd (r.set (0+((↑n:Int)).toNat) (z.1,z.2.1,z.2.2.1,()))])))) (some
 (Ex.exit 0,[V.ref 0 0 m],[R0 NTd r]))):_):=by kernel_rfl
theorem KN {l:List Nt} {m:Nat} (hm:m=l.length) (hx:l.length<=maxI) : ∀ (k n:Nat) (r:List Nt),n+k=l.length->r.length=l.length->
  Runs prog (Aa [(83,.rd1 KO)]) (Aa [(3,EQ)]) 0 (body f46 0) EQ ([.sl NTd l,.ref 0 0 m,.j n],[R0 NTd r]) (.exit 0) ([.ref 0 0 m],[R0 NTd (r.take n++l.drop n)])
 | 0,n,r,hn,hr=>by
  refine .stop _ _ _ ((Jv l r m n).trans ?_) (by simp);simp [show ¬n<l.length by omega,show r.take n=r from take_of_length_le (by omega),show l.drop n=[] from drop_eq_nil_of_le (by omega)]
 | k+1,n,r,hn,hr=>by
  have h1:n<l.length:=by omega
  have h2:n<r.length:=by omega
  have h3:n<m:=by omega
  have hq:=Jv l r m n;simp only [ntN,gtE h1,zero_add,gtE h2,Ap (n:=n) (by omega)] at hq;refine .step _ _ _ (d1:=([.sl NTd l,.ref 0 0 m,.j ((n+1:Nat):Int)],[R0 NTd (r.set n l[n])])) (hq.trans ?_) ?_
  ·simp [h1,h2,h3]
  ·have:=KN hm hx k (n+1) (r.set n l[n]) (by omega) (by simp; omega);rw [FR h2,append_assoc,singleton_append,<-drop_eq_getElem_cons h1] at this;exact this
theorem XX:As prog (Aa [(83,.rd1 KO)]) (Aa [(3,EQ)]) 0 (f46.body.getD .skip):=by
 refine Am (a:=body f46 0) (by kernel_rfl) fun d e d' h=>?_
 unfold EQ at h;dsimp only at h;split at h
 ·obtain ⟨hc,h⟩:=Ad h;have hc:=of_decide_eq_true hc;obtain ⟨n,rfl⟩:=eq_ofNat_of_zero_le hc.1;cases h;exact KN hc.2.1 hc.2.2.2.2 _ n _ (add_sub_of_le hc.2.2.2.1) hc.2.2.1
 ·cases h
theorem Vq (l:List Nt) (hx:l.length<=1000000000):Aw prog (Aa [(83,.rd1 KO)]) (Aa [(3,EQ)]) f46 [.sl NTd l] []=some (.ref 0 0 l.length,[R0 NTd l]):=by
 have e:Aw prog (Aa [(83,.rd1 KO)]) (Aa [(3,EQ)]) f46 [.sl NTd l] [] =
  ((ifT (decide (0<=(↑l.length:Int))&&decide ((↑l.length:Int)<=(↑l.length:Int))&&decide ((↑l.length:Int)*(↑(40:Nat):Int)<=(140737488355328:Int))&&
 decide ((↑l.length:Int)<=(9223372036854775807:Int))) (ifT (decide ((0:Int)<=(0:Int)/\(↑l.length:Int).toNat=l.length/\(replicate (↑l.length :
 Int).toNat (Ag UInt8,(0:Int),Ag UInt8,())).length=l.length/\0<=l.length/\l.length<=maxI)) (some (V.ref 0 0 (↑l.length:Int).toNat,[R0 NTd (Ag NTd.den++drop 0 l)])))):_):=by kernel_rfl
 rw [e];have hx':l.length<=maxI:=le_trans hx (by decide);simp [hx'];omega
theorem Ajq:Af prog 46 (Ent.rd1 Sm).F:=by
 refine fcK (kc func83 Aln KnowsL.nil).knows (Λ:=(Aa [(3,EQ)])) func46 fun vs bs r h=>?_
 unfold Ent.F Sm at h;dsimp only at h;split at h
 ·rename_i l;obtain ⟨hc,h⟩:=Ad h;exact ⟨XX,(Vq l (of_decide_eq_true hc)).trans (by cases h; rfl)⟩
 ·cases h
theorem XT (a0:Int) (a1:By) (a2:Int) (a3:Bool) (a4 a5:Int):Aw prog (Aa []) (Aa []) f122 [.agg (Ly a0 a1 a2 a3 a4 a5)] []=some (.agg (Ly a0 a1 a2 a3 a4 a5),[]):=by kernel_rfl
theorem Alm:Af prog 122 (Ent.rd1 KL).F:=by
 refine AB (KnowsL.nil).knows (Λ:=Aa []) func122 (c:=f122.body.getD .skip) (by kernel_rfl) fun vs bs r h _ _=>?_
 unfold Ent.F KL at h;dsimp only at h;split at h
 ·exact ⟨Ah _,(XT _ _ _ _ _ _ ).trans (by cases h; rfl)⟩
 ·cases h
theorem Jt (l r:List Ty) (m n:Nat):At prog (Aa [(122,.rd1 KL)]) (Aa [(3,EP)]) 0 (body f82 0) EP ([.sl TCd l,.ref 0 0 m,.j n],[R0 TCd r]) =
 ((ifB (decide ((↑n:Int)<(↑l.length:Int))) (ifT (decide (0<=(↑n:Int))&&decide ((↑n:Int)<(↑l.length:Int))) (Ak l[((↑n:Int)).toNat]? fun z=>ifT (decide
 (0<=(↑n:Int))&&decide ((↑n:Int)<(↑m:Int))) (Ak r[0+((↑n:Int)).toNat]? fun z_1=>some (Ex.normal,[V.sl TCd l,V.ref 0 0 m,V.i .i64
 (i64.wrap ((↑n:Int)+(1:Int)))],[R0 TCd (r.set (0+((↑n:Int)).toNat) (z.1,z.2.1,z.2.2.1,z.2.2.2.1,
 z.2.2.2.2.1,z.2.2.2.2.2.1,()))])))) (some (Ex.exit 0,[V.ref 0 0 m],[R0 TCd r]))):_):=by kernel_rfl
theorem KJ {l:List Ty} {m:Nat} (hm:m=l.length) (hx:l.length<=maxI) : ∀ (k n:Nat) (r:List Ty),n+k=l.length->r.length=l.length->
  Runs prog (Aa [(122,.rd1 KL)]) (Aa [(3,EP)]) 0 (body f82 0) EP ([.sl TCd l,.ref 0 0 m,.j n],[R0 TCd r]) (.exit 0) ([.ref 0 0 m],[R0 TCd (r.take n++l.drop n)])
 | 0,n,r,hn,hr=>by
  refine .stop _ _ _ ((Jt l r m n).trans ?_) (by simp);simp [show ¬n<l.length by omega,show r.take n=r from take_of_length_le (by omega),show l.drop n=[] from drop_eq_nil_of_le (by omega)]
 | k+1,n,r,hn,hr=>by
  have h1:n<l.length:=by omega
  have h2:n<r.length:=by omega
  have h3:n<m:=by omega
  have hq:=Jt l r m n;simp only [ntN,gtE h1,zero_add,gtE h2,Ap (n:=n) (by omega)] at hq;refine .step _ _ _ (d1:=([.sl TCd l,.ref 0 0 m,.j ((n+1:Nat):Int)],[R0 TCd (r.set n l[n])])) (hq.trans ?_) ?_
  ·simp [h1,h2,h3]
  ·have:=KJ hm hx k (n+1) (r.set n l[n]) (by omega) (by simp; omega);rw [FR h2,append_assoc,singleton_append,<-drop_eq_getElem_cons h1] at this;exact this
theorem XS:As prog (Aa [(122,.rd1 KL)]) (Aa [(3,EP)]) 0 (f82.body.getD .skip):=by
 refine Am (a:=body f82 0) (by kernel_rfl) fun d e d' h=>?_
 unfold EP at h;dsimp only at h;split at h
 ·obtain ⟨hc,h⟩:=Ad h;have hc:=of_decide_eq_true hc;obtain ⟨n,rfl⟩:=eq_ofNat_of_zero_le hc.1;cases h;exact KJ hc.2.1 hc.2.2.2.2 _ n _ (add_sub_of_le hc.2.2.2.1) hc.2.2.1
 ·cases h
theorem Vo (l:List Ty) (hx:l.length<=1000000000):Aw prog (Aa [(122,.rd1 KL)]) (Aa [(3,EP)]) f82 [.sl TCd l] []=some (.ref 0 0 l.length,[R0 TCd l]):=by
 have e:Aw prog (Aa [(122,.rd1 KL)]) (Aa [(3,EP)]) f82 [.sl TCd l] [] =
  ((ifT (decide (0<=(↑l.length:Int))&&decide ((↑l.length:Int)<=(↑l.length:Int))&&decide ((↑l.length:Int)*(↑(56:Nat):Int)<=(140737488355328:Int))&&
 decide ((↑l.length:Int)<=(9223372036854775807:Int))) (ifT (decide ((0:Int)<=(0:Int)/\(↑l.length:Int).toNat=l.length/\(replicate (↑l.length :
 Int).toNat ((0:Int),Ag UInt8,(0:Int),false,(0:Int),(0:Int),())).length=l.length/\0<=l.length/\l.length<=maxI)) (some (V.ref 0 0 (↑l.length :
 Int).toNat,[R0 TCd (Ag TCd.den++drop 0 l)])))):_):=by kernel_rfl
 rw [e];have hx':l.length<=maxI:=le_trans hx (by decide);simp [hx'];omega
theorem Ajo:Af prog 82 (Ent.rd1 Si).F:=by
 refine fcK (kc func122 Alm KnowsL.nil).knows (Λ:=(Aa [(3,EP)])) func82 fun vs bs r h=>?_
 unfold Ent.F Si at h;dsimp only at h;split at h
 ·rename_i l;obtain ⟨hc,h⟩:=Ad h;exact ⟨XS,(Vo l (of_decide_eq_true hc)).trans (by cases h; rfl)⟩
 ·cases h
theorem XR (a0 a1 a2:Int) (a3:By) (a4 a5:Int):Aw prog (Aa []) (Aa []) f121 [.agg (Lw a0 a1 a2 a3 a4 a5)] []=some (.agg (Lw a0 a1 a2 a3 a4 a5),[]):=by kernel_rfl
theorem All:Af prog 121 (Ent.rd1 KI).F:=by
 refine AB (KnowsL.nil).knows (Λ:=Aa []) func121 (c:=f121.body.getD .skip) (by kernel_rfl) fun vs bs r h _ _=>?_
 unfold Ent.F KI at h;dsimp only at h;split at h
 ·exact ⟨Ah _,(XR _ _ _ _ _ _ ).trans (by cases h; rfl)⟩
 ·cases h
theorem Js (l r:List Wt) (m n:Nat):At prog (Aa [(121,.rd1 KI)]) (Aa [(3,EO)]) 0 (body f81 0) EO ([.sl WCd l,.ref 0 0 m,.j n],[R0 WCd r]) =
 ((ifB (decide ((↑n:Int)<(↑l.length:Int))) (ifT (decide (0<=(↑n:Int))&&decide ((↑n:Int)<(↑l.length:Int))) (Ak l[((↑n:Int)).toNat]? fun z=>ifT (decide
 (0<=(↑n:Int))&&decide ((↑n:Int)<(↑m:Int))) (Ak r[0+((↑n:Int)).toNat]? fun z_1=>some (Ex.normal,[V.sl WCd l,V.ref 0 0 m,V.i .i64
 (i64.wrap ((↑n:Int)+(1:Int)))],[R0 WCd (r.set (0+((↑n:Int)).toNat) (z.1,z.2.1,z.2.2.1,z.2.2.2.1,
 z.2.2.2.2.1,z.2.2.2.2.2.1,()))])))) (some (Ex.exit 0,[V.ref 0 0 m],[R0 WCd r]))):_):=by kernel_rfl
theorem KH {l:List Wt} {m:Nat} (hm:m=l.length) (hx:l.length<=maxI) : ∀ (k n:Nat) (r:List Wt),n+k=l.length->r.length=l.length->
  Runs prog (Aa [(121,.rd1 KI)]) (Aa [(3,EO)]) 0 (body f81 0) EO ([.sl WCd l,.ref 0 0 m,.j n],[R0 WCd r]) (.exit 0) ([.ref 0 0 m],[R0 WCd (r.take n++l.drop n)])
 | 0,n,r,hn,hr=>by
  refine .stop _ _ _ ((Js l r m n).trans ?_) (by simp);simp [show ¬n<l.length by omega,show r.take n=r from take_of_length_le (by omega),show l.drop n=[] from drop_eq_nil_of_le (by omega)]
 | k+1,n,r,hn,hr=>by
  have h1:n<l.length:=by omega
  have h2:n<r.length:=by omega
  have h3:n<m:=by omega
  have hq:=Js l r m n;simp only [ntN,gtE h1,zero_add,gtE h2,Ap (n:=n) (by omega)] at hq;refine .step _ _ _ (d1:=([.sl WCd l,.ref 0 0 m,.j ((n+1:Nat):Int)],[R0 WCd (r.set n l[n])])) (hq.trans ?_) ?_
  ·simp [h1,h2,h3]
  ·have:=KH hm hx k (n+1) (r.set n l[n]) (by omega) (by simp; omega);rw [FR h2,append_assoc,singleton_append,<-drop_eq_getElem_cons h1] at this;exact this
theorem XQ:As prog (Aa [(121,.rd1 KI)]) (Aa [(3,EO)]) 0 (f81.body.getD .skip):=by
 refine Am (a:=body f81 0) (by kernel_rfl) fun d e d' h=>?_
 unfold EO at h;dsimp only at h;split at h
 ·obtain ⟨hc,h⟩:=Ad h;have hc:=of_decide_eq_true hc;obtain ⟨n,rfl⟩:=eq_ofNat_of_zero_le hc.1;cases h;exact KH hc.2.1 hc.2.2.2.2 _ n _ (add_sub_of_le hc.2.2.2.1) hc.2.2.1
 ·cases h
theorem Vn (l:List Wt) (hx:l.length<=1000000000):Aw prog (Aa [(121,.rd1 KI)]) (Aa [(3,EO)]) f81 [.sl WCd l] []=some (.ref 0 0 l.length,[R0 WCd l]):=by
 have e:Aw prog (Aa [(121,.rd1 KI)]) (Aa [(3,EO)]) f81 [.sl WCd l] [] =
  ((ifT (decide (0<=(↑l.length:Int))&&decide ((↑l.length:Int)<=(↑l.length:Int))&&decide ((↑l.length:Int)*(↑(56:Nat):Int)<=(140737488355328:Int))&&
 decide ((↑l.length:Int)<=(9223372036854775807:Int))) (ifT (decide ((0:Int)<=(0:Int)/\(↑l.length:Int).toNat=l.length/\(replicate (↑l.length :
 Int).toNat ((0:Int),(0:Int),(0:Int),Ag UInt8,(0:Int),(0:Int),())).length=l.length/\0<=l.length/\l.length<=maxI)) (some (V.ref 0 0
 (↑l.length:Int).toNat,[R0 WCd (Ag WCd.den++drop 0 l)])))):_):=by kernel_rfl
 rw [e];have hx':l.length<=maxI:=le_trans hx (by decide);simp [hx'];omega
theorem Ajn:Af prog 81 (Ent.rd1 Sh).F:=by
 refine fcK (kc func121 All KnowsL.nil).knows (Λ:=(Aa [(3,EO)])) func81 fun vs bs r h=>?_
 unfold Ent.F Sh at h;dsimp only at h;split at h
 ·rename_i l;obtain ⟨hc,h⟩:=Ad h;exact ⟨XQ,(Vn l (of_decide_eq_true hc)).trans (by cases h; rfl)⟩
 ·cases h
def OG:Gm
 | [.agg [.sl TCd l]],[]=>.need (decide (l.length<=1000000000)) (.leaf (.agg [.ref 0 0 l.length],[R0 TCd l]))
 | _,_=>.no
def So:Gm
 | [.agg [.sl WCd l]],[]=>.need (decide (l.length<=1000000000)) (.leaf (.agg [.ref 0 0 l.length],[R0 WCd l]))
 | _,_=>.no
def Na:Gm
 | [.agg [.s a,.sl TCd l,.j c]],[]=>.need (decide (l.length<=1000000000)) (.leaf (.agg [.s a,.ref 0 0 l.length,.j c],[R0 TCd l]))
 | _,_=>.no
def Nc:Gm
 | [.agg (Lf w p ws v b c)],[]=>.need (decide (ws.length<=1000000000)&&(decide (v.length<=1000000000)&&decide (b.length<=1000000000))) (.leaf (.agg [.j w,.s p,.ref 0 0 ws.length,.ref 1 0 v.length,.ref 2 0 b.length,.j c],[R0 WCd ws,R0 TCd v,R0 NTd b]))
 | _,_=>.no
def Ej (t:Tp):Bool:=decide (t.2.1.1.length<=1000000000)
def FG:LoopEnt:=⟨23,[0,3,4],[3],[],fun
 | ([.sl TPd l,.ref 0 0 m,.j n],[D0 TPd r])=>.need (decide (0<=n/\m=l.length/\r.length=l.length/\n.toNat<=l.length/\l.length<=maxI)&&l.all Ej) (.leaf (.exit 0,([.ref 0 0 m],[D0 TPd (r.take n.toNat++l.drop n.toNat)])))
 | _=>.no⟩
def Sk:Gm
 | [.sl TPd l],[]=>.need (decide (l.length<=1000000000)&&l.all Ej) (.leaf (.ref 0 0 l.length,[D0 TPd l]))
 | _,_=>.no
def Ek (t:Fa):Bool:=decide (t.2.2.1.1.length<=1000000000)&&(decide (t.2.2.2.1.1.length<=1000000000)&&decide (t.2.2.2.2.1.length<=1000000000))
def FH:LoopEnt:=⟨23,[0,3,4],[3],[],fun
 | ([.sl FNd l,.ref 0 0 m,.j n],[D0 FNd r])=>.need (decide (0<=n/\m=l.length/\r.length=l.length/\n.toNat<=l.length/\l.length<=maxI)&&l.all Ek) (.leaf (.exit 0,([.ref 0 0 m],[D0 FNd (r.take n.toNat++l.drop n.toNat)])))
 | _=>.no⟩
def Sq:Gm
 | [.sl FNd l],[]=>.need (decide (l.length<=1000000000)&&l.all Ek) (.leaf (.ref 0 0 l.length,[D0 FNd l]))
 | _,_=>.no
def Yb:Gm
 | [.agg [.sl TPd ts,.sl FNd fs]],[]=>.need ((decide (ts.length<=1000000000)&&ts.all Ej)&&(decide (fs.length<=1000000000)&&fs.all Ek)) (.leaf (.agg [.ref 0 0 ts.length,.ref 1 0 fs.length],[D0 TPd ts,D0 FNd fs]))
 | _,_=>.no
theorem Sl (l:List Ty):Aw prog (Aa [(82,.rd1 Si)]) (Aa []) f45 [.agg [.sl TCd l]] [] =
 ((ifT (decide (l.length<=1000000000)) (some (V.agg [V.ref 0 0 l.length],[R0 TCd l]))):_):=by kernel_rfl
theorem Nb:Af prog 45 (Ent.rd1 OG).F:=by
 refine fcK (kc func82 Ajo KnowsL.nil).knows (Λ:=Aa []) func45 fun vs bs r hq=>?_
 unfold Ent.F OG at hq;dsimp only at hq;split at hq
 ·rename_i l;obtain ⟨hc,hx⟩:=Ad hq;refine ⟨Ah _,(Sl l).trans (Eq.trans ?_ hx)⟩;show _=some _;rw [Ab hc]
 ·cases hq
theorem Sn (l:List Wt):Aw prog (Aa [(81,.rd1 Sh)]) (Aa []) f44 [.agg [.sl WCd l]] [] =
 ((ifT (decide (l.length<=1000000000)) (some (V.agg [V.ref 0 0 l.length],[R0 WCd l]))):_):=by kernel_rfl
theorem Vr:Af prog 44 (Ent.rd1 So).F:=by
 refine fcK (kc func81 Ajn KnowsL.nil).knows (Λ:=Aa []) func44 fun vs bs r hq=>?_
 unfold Ent.F So at hq;dsimp only at hq;split at hq
 ·rename_i l;obtain ⟨hc,hx⟩:=Ad hq;refine ⟨Ah _,(Sn l).trans (Eq.trans ?_ hx)⟩;show _=some _;rw [Ab hc]
 ·cases hq
theorem Vp (a:By) (l:List Ty) (c:Int):Aw prog (Aa [(45,.rd1 OG)]) (Aa []) f80 [.agg [.s a,.sl TCd l,.j c]] [] =
 ((ifT (decide (l.length<=1000000000)) (some (V.agg [V.s a,V.ref 0 0 l.length,V.j c],[R0 TCd l]))):_):=by kernel_rfl
theorem XU:Af prog 80 (Ent.rd1 Na).F:=by
 refine fcK (kc func45 Nb KnowsL.nil).knows (Λ:=Aa []) func80 fun vs bs r hq=>?_
 unfold Ent.F Na at hq;dsimp only at hq;split at hq
 ·rename_i a l c;obtain ⟨hc,hx⟩:=Ad hq;refine ⟨Ah _,(Vp a l c).trans (Eq.trans ?_ hx)⟩;show _=some _;rw [Ab hc]
 ·cases hq
theorem Vs (w:Int) (p:By) (ws:List Wt) (v:List Ty) (b:List Nt) (c:Int):Aw prog (Aa [(44,.rd1 So),(45,.rd1 OG),(46,.rd1 Sm)]) (Aa []) f11 [.agg (Lf w p ws v b c)] [] =
 ((ifT (decide (ws.length<=1000000000)) (ifT (decide (v.length<=1000000000)) (ifT (decide (b.length<=1000000000)) (some (V.agg [V.j w,V.s p,
 V.ref 0 0 ws.length,V.ref 1 0 v.length,V.ref 2 0 b.length,V.j c],[R0 WCd ws,R0 TCd v,R0 NTd
 b]))))):_):=by kernel_rfl
theorem XZ:Af prog 11 (Ent.rd1 Nc).F:=by
 refine fcK (kc func44 Vr (kc func45 Nb (kc func46 Ajq KnowsL.nil))).knows (Λ:=Aa []) func11 fun vs bs r hq=>?_
 unfold Ent.F Nc at hq;dsimp only at hq;split at hq
 ·rename_i w p ws v b c;obtain ⟨hc,hx⟩:=Ad hq;refine ⟨Ah _,(Vs w p ws v b c).trans (Eq.trans ?_ hx)⟩;show _=some _;rw [anE,anE] at hc;rw [Ab hc.1,Ab hc.2.1,Ab hc.2.2]
 ·cases hq
theorem Ju (l r:List Tp) (m:Nat) (n:Int):At prog (Aa [(80,.rd1 Na)]) (Aa [(3,FG)]) 0 (body f42 0) FG ([.sl TPd l,.ref 0 0 m,.j n],[D0 TPd r]) =
 ((ifB (decide (n<(↑l.length:Int))) (ifT (decide (0<=n)&&decide (n<(↑l.length:Int))) (Ak l[n.toNat]? fun z=>ifT (decide (List.length z.2.1.1<=
 1000000000)) (ifT (decide (0<=n)&&decide (n<(↑m:Int))) (Ak r[0+n.toNat]? fun z_1=>some (Ex.normal,[V.sl TPd l,V.ref 0 0 m,V.i .i64
 (i64.wrap (n+1))],[D0 TPd (r.set (0+n.toNat) (z.1,(take (List.length z.2.1.1) (drop 0 z.2.1.1),()),
 z.2.2.1,()))]))))) (some (Ex.exit 0,[V.ref 0 0 m],[D0 TPd r]))):_):=by kernel_rfl
theorem Sj (l:List Tp):Aw prog (Aa [(80,.rd1 Na)]) (Aa [(3,FG)]) f42 [.sl TPd l] [] =
 ((ifT (decide (0<=(↑l.length:Int))&&decide ((↑l.length:Int)<=(↑l.length:Int))&&decide ((↑l.length:Int)*(↑(48:Nat):Int)<=(140737488355328:Int))&&
 decide ((↑l.length:Int)<=(9223372036854775807:Int))) (ifT (decide ((0:Int)<=(0:Int)/\(↑l.length:Int).toNat=l.length/\(replicate (↑l.length :
 Int).toNat (Ag UInt8,(Ag TCd.den,()),(0:Int),())).length=l.length/\0<=l.length/\l.length<=maxI)&&l.all Ej) (some (V.ref 0 0 (↑l.length :
 Int).toNat,[D0 TPd (Ag TPd.den++drop 0 l)])))):_):=by kernel_rfl
theorem KM {l:List Tp} (hx:l.length<=maxI) (ho : ∀ z∈l,Ej z=true) : ∀ (k n:Nat) (r:List Tp),n+k=l.length->r.length=l.length->
  Runs prog (Aa [(80,.rd1 Na)]) (Aa [(3,FG)]) 0 (body f42 0) FG ([.sl TPd l,.ref 0 0 l.length,.j (n:Int)],[D0 TPd r]) (.exit 0) ([.ref 0 0 l.length],[D0 TPd (r.take n++l.drop n)])
 | 0,n,r,hn,hr=>by
  have hq:=Ju l r l.length n;rw [Ac (dcF (by omega))] at hq;rw [take_of_length_le (by omega),drop_eq_nil_of_le (by omega),List.append_nil];exact stp hq
 | k+1,n,r,hn,hr=>by
  have hM:=mxI;have h1:n<l.length:=by omega
  have h2:n<r.length:=by omega
  have hq:=Ju l r l.length n;have ho1:=ho _ (getElem_mem h1);have hs:=KM hx ho k (n+1) (r.set n l[n]) (by omega) (by simp; omega);rw [FR h2,append_assoc,singleton_append,<-drop_eq_getElem_cons h1] at hs;rw [Ae (dcT (by omega)),T2 (by omega),ntN,gtE h1,Ai,Ap (n:=n) (by omega)] at hq;unfold Ej at ho1;generalize l[n]=z at hq ho1 hs;obtain ⟨a,⟨l_,⟨⟩⟩,c,⟨⟩⟩:=z;dsimp only at hq ho1;rw [Ab ho1] at hq;rw [T2 (by omega),zero_add,gtE h2,Ai] at hq;simp only [drop_zero,take_length] at hq;exact sts hq hs
theorem Ajp:Af prog 42 (Ent.rd1 Sk).F:=by
 refine fcK (kc func80 XU KnowsL.nil).knows (Λ:=(Aa [(3,FG)])) func42 fun vs bs r hq=>?_
 unfold Ent.F Sk at hq;dsimp only at hq;split at hq
 ·rename_i l;obtain ⟨hc,hx⟩:=Ad hq;rw [anE,dcE] at hc;obtain ⟨h1,h2⟩:=hc;have hM:=mxI
  have hok:As prog (Aa [(80,.rd1 Na)]) (Aa [(3,FG)]) 0 (f42.body.getD .skip):=by
   refine Am (a:=body f42 0) (by kernel_rfl) fun d e d' h=>?_
   unfold FG at h;dsimp only at h;split at h
   ·rename_i l m n r;obtain ⟨hc,h⟩:=Ad h;rw [anE,dcE] at hc;obtain ⟨⟨a0,a1,a2,a3,a4⟩,a5⟩:=hc;obtain ⟨n,rfl⟩:=eq_ofNat_of_zero_le a0;subst a1;cases h;exact KM a4 (all_eq_true.1 a5) _ n _ (add_sub_of_le a3) a2
   ·cases h
  refine ⟨hok,(Sj l).trans (Eq.trans ?_ hx)⟩;show _=some _;rw [Ab (by simp only [anE,dcE]; omega),Ab (by rw [anE]; exact ⟨dcT ⟨by omega,by simp,by simp,by omega,by omega⟩,h2⟩)];rfl
 ·cases hq
theorem Jw (l r:List Fa) (m:Nat) (n:Int):At prog (Aa [(11,.rd1 Nc)]) (Aa [(3,FH)]) 0 (body f43 0) FH ([.sl FNd l,.ref 0 0 m,.j n],[D0 FNd r]) =
 ((ifB (decide (n<(↑l.length:Int))) (ifT (decide (0<=n)&&decide (n<(↑l.length:Int))) (Ak l[n.toNat]? fun z=>ifT (decide (List.length z.2.2.1.1<=
 1000000000)&&(decide (List.length z.2.2.2.1.1<=1000000000)&&decide (List.length z.2.2.2.2.1<=1000000000))) (ifT (decide
 (0<=n)&&decide (n<(↑m:Int))) (Ak r[0+n.toNat]? fun z_1=>some (Ex.normal,[V.sl FNd l,V.ref 0 0 m,V.j (i64.wrap (n+1))],[D0 FNd (r.set (0+n.toNat) (z.1,z.2.1,(take (List.length z.2.2.1.1) (drop 0 z.2.2.1.1),()),(take
 (List.length z.2.2.2.1.1) (drop 0 z.2.2.2.1.1),()),take (List.length z.2.2.2.2.1) (drop 0
 z.2.2.2.2.1),z.2.2.2.2.2.1,()))]))))) (some (Ex.exit 0,[V.ref 0 0 m],[D0 FNd r]))):_):=by kernel_rfl
theorem Sp (l:List Fa):Aw prog (Aa [(11,.rd1 Nc)]) (Aa [(3,FH)]) f43 [.sl FNd l] [] =
 ((ifT (decide (0<=(↑l.length:Int))&&decide ((↑l.length:Int)<=(↑l.length:Int))&&decide ((↑l.length:Int)*(↑(104:Nat):Int)<=(140737488355328:Int))&&
 decide ((↑l.length:Int)<=(9223372036854775807:Int))) (ifT (decide ((0:Int)<=(0:Int)/\(↑l.length:Int).toNat=l.length/\(replicate (↑l.length :
 Int).toNat ((0:Int),Ag UInt8,(Ag WCd.den,()),(Ag TCd.den,()),Ag NTd.den,(0:Int),())).length=l.length/\0<=l.length/\l.length<=maxI)&&
 l.all Ek) (some (V.ref 0 0 (↑l.length:Int).toNat,[D0 FNd (Ag FNd.den++drop 0 l)])))):_):=by kernel_rfl
theorem KP {l:List Fa} (hx:l.length<=maxI) (ho : ∀ z∈l,Ek z=true) : ∀ (k n:Nat) (r:List Fa),n+k=l.length->r.length=l.length->
  Runs prog (Aa [(11,.rd1 Nc)]) (Aa [(3,FH)]) 0 (body f43 0) FH ([.sl FNd l,.ref 0 0 l.length,.j (n:Int)],[D0 FNd r]) (.exit 0) ([.ref 0 0 l.length],[D0 FNd (r.take n++l.drop n)])
 | 0,n,r,hn,hr=>by
  have hq:=Jw l r l.length n;rw [Ac (dcF (by omega))] at hq;rw [take_of_length_le (by omega),drop_eq_nil_of_le (by omega),List.append_nil];exact stp hq
 | k+1,n,r,hn,hr=>by
  have hM:=mxI;have h1:n<l.length:=by omega
  have h2:n<r.length:=by omega
  have hq:=Jw l r l.length n;have ho1:=ho _ (getElem_mem h1);have hs:=KP hx ho k (n+1) (r.set n l[n]) (by omega) (by simp; omega);rw [FR h2,append_assoc,singleton_append,<-drop_eq_getElem_cons h1] at hs;rw [Ae (dcT (by omega)),T2 (by omega),ntN,gtE h1,Ai,Ap (n:=n) (by omega)] at hq;unfold Ek at ho1;generalize l[n]=z at hq ho1 hs;obtain ⟨w_,p,⟨ws,⟨⟩⟩,⟨v,⟨⟩⟩,b,c,⟨⟩⟩:=z;dsimp only at hq ho1;rw [Ab ho1] at hq;rw [T2 (by omega),zero_add,gtE h2,Ai] at hq;simp only [drop_zero,take_length] at hq;exact sts hq hs
theorem Ajr:Af prog 43 (Ent.rd1 Sq).F:=by
 refine fcK (kc func11 XZ KnowsL.nil).knows (Λ:=(Aa [(3,FH)])) func43 fun vs bs r hq=>?_
 unfold Ent.F Sq at hq;dsimp only at hq;split at hq
 ·rename_i l;obtain ⟨hc,hx⟩:=Ad hq;rw [anE,dcE] at hc;obtain ⟨h1,h2⟩:=hc;have hM:=mxI
  have hok:As prog (Aa [(11,.rd1 Nc)]) (Aa [(3,FH)]) 0 (f43.body.getD .skip):=by
   refine Am (a:=body f43 0) (by kernel_rfl) fun d e d' h=>?_
   unfold FH at h;dsimp only at h;split at h
   ·rename_i l m n r;obtain ⟨hc,h⟩:=Ad h;rw [anE,dcE] at hc;obtain ⟨⟨a0,a1,a2,a3,a4⟩,a5⟩:=hc;obtain ⟨n,rfl⟩:=eq_ofNat_of_zero_le a0;subst a1;cases h;exact KP a4 (all_eq_true.1 a5) _ n _ (add_sub_of_le a3) a2
   ·cases h
  refine ⟨hok,(Sp l).trans (Eq.trans ?_ hx)⟩;show _=some _;rw [Ab (by simp only [anE,dcE]; omega),Ab (by rw [anE]; exact ⟨dcT ⟨by omega,by simp,by simp,by omega,by omega⟩,h2⟩)];rfl
 ·cases hq
theorem Vt (ts:List Tp) (fs:List Fa):Aw prog (Aa [(42,.rd1 Sk),(43,.rd1 Sq)]) (Aa []) f10 [.agg [.sl TPd ts,.sl FNd fs]] [] =
 ((ifT (decide (ts.length<=1000000000)&&ts.all Ej) (ifT (decide (fs.length<=1000000000)&&fs.all Ek) (some (V.agg [V.ref 0 0 ts.length,V.ref 1 0
 fs.length],[D0 TPd ts,D0 FNd fs])))):_):=by kernel_rfl
theorem Ya:Af prog 10 (Ent.rd1 Yb).F:=by
 refine fcK (kc func42 Ajp (kc func43 Ajr KnowsL.nil)).knows (Λ:=Aa []) func10 fun vs bs r hq=>?_
 unfold Ent.F Yb at hq;dsimp only at hq;split at hq
 ·rename_i ts fs;obtain ⟨hc,hx⟩:=Ad hq;refine ⟨Ah _,(Vt ts fs).trans (Eq.trans ?_ hx)⟩;show _=some _;rw [anE] at hc;rw [Ab hc.1,Ab hc.2]
 ·cases hq


def MI (ts:List Tp) (fs:List Fa) (w:Int):Bool:=Dm ts fs&&!decide (atW fs w<0)
def faZ:Fa:=(0,[],([],()),([],()),[],0,())
def foF (ts:List Tp) (fs:List Fa) (w:Int):Fa:=bif MI ts fs w then fs[(atW fs w).toNat]?.getD faZ else faZ
theorem Abi {fs:List Fa} {w:Int} (h : ¬atW fs w<0) : ∃ i,∃ h:i<fs.length,atW fs w=(i:Int):=by
 obtain ⟨i,h1,h2,_⟩:=Dn (fun f:Fa=>f.1==w) fs 0 (by unfold atW at h; omega);exact ⟨i,h1,by unfold atW; rw [h2,zero_add]⟩
def cdC (ts:List Tp) (t b:By):Int:=if atT ts t<0 then 1 else if 400<b.length then 2 else match ts[(atT ts t).toNat]? with
 | some z=>bif F5 z.2.1.1 b then (bif z.2.2.1==1000 then 4 else 0) else 3
 | none=>0
def Aja:Gm
 | [.bx [.sl TPd ts,.sl FNd _fs] 0,.agg [.s t,.s b]],[]=>.need (Dg ts) (.leaf (.tup [.j (cdC ts t b),.j (atT ts t)],[]))
 | _,_=>.no
def Ai9:Gm
 | [.agg [.sl TPd ts,.sl FNd _fs],.agg [.s t,.s b]],[]=>.need (Dg ts) (.leaf (.tup [.j (if cdC ts t b=0 then atT ts t else 0),.j (cdC ts t b)],[]))
 | _,_=>.no
theorem Abd (ts:List Tp) (fs:List Fa) (t b:By):BI prog (Aa [(104,.rd1 KF),(105,.rd1 G4),(106,.rd1 K9)]) (Aa []) f66 [.bx [.sl TPd ts,.sl FNd fs] 0,.agg [.s t,.s b]] [] =
 ((ifB (decide (atT ts t<(0:Int))) (some (V.tup [V.j 1,V.j (atT ts t)],[])) (ifB (decide ((↑b.length:Int)>(400:Int))) (some (V.tup [V.j 2,V.i .i64
 (atT ts t)],[])) (ifT (decide ((0:Int)<=atT ts t)&&decide (atT ts t<(↑ts.length:Int))) (Ak ts[(atT ts t).toNat]? fun z=>ifT (decide (List.length
 z.2.1.1<=4000000000)&&nmL z.2.1.1) (ifB (AN z.2.1.1) (ifT (decide (BM (Rose.node ((kf z.2.1.1 0).1.lab.1,(kf
 z.2.1.1 0).1.lab.2.1,(kf z.2.1.1 0).1.lab.2.2.1,(kf z.2.1.1 0).1.lab.2.2.2.1,(kf z.2.1.1 (0 :
 Nat)).1.lab.2.2.2.2.1,()) (take (kf z.2.1.1 0).1.kids.length (drop 0 (kf z.2.1.1 0).1.kids)))=true/\
 b.length<=4000000000)) (ifB (!Ed (Rose.node ((kf z.2.1.1 0).1.lab.1,(kf z.2.1.1 0).1.lab.2.1,(kf z.2.1.1 (0 :
 Nat)).1.lab.2.2.1,(kf z.2.1.1 0).1.lab.2.2.2.1,(kf z.2.1.1 0).1.lab.2.2.2.2.1,()) (take (kf
 z.2.1.1 0).1.kids.length (drop 0 (kf z.2.1.1 0).1.kids))) b) (some (V.tup [V.j 3,V.j (atT ts t)],[])) (ifT
 (decide ((0:Int)<=atT ts t)&&decide (atT ts t<(↑ts.length:Int))) (Ak ts[(atT ts t).toNat]? fun z=>ifB (z.2.2.1==(1000:Int)) (some (V.tup [V.i
 .i64 4,V.j (atT ts t)],[])) (some (V.tup [V.j 0,V.j (atT ts t)],[])))))) none))))):_):=by kernel_rfl
theorem Abc (ts:List Tp) (fs:List Fa) (t b:By):BI prog (Aa [(77,.rd1 YE),(97,.rd1 Aea)]) (Aa []) f63 [.agg [.sl TPd ts,.sl FNd fs],.agg [.s t,.s b]] [] =
 ((ifB (decide (atT ts t<(0:Int))) (some (V.tup [V.j 0,V.j 1],[])) (ifB (decide ((↑b.length:Int)>(400:Int))) (some (V.tup [V.j 0,V.j 2],[]))
 (ifT (decide ((0:Int)<=atT ts t)&&decide (atT ts t<(↑ts.length:Int))) (Ak ts[(atT ts t).toNat]? fun z=>ifT (decide (List.length z.2.1.1<=(4000000000
 : Nat))&&nmL z.2.1.1) (ifB (!F5 z.2.1.1 b) (some (V.tup [V.j 0,V.j 3],[])) (ifT (decide ((0:Int)<=atT ts t)&&decide (atT ts t <
 (↑ts.length:Int))) (Ak ts[(atT ts t).toNat]? fun z=>ifB (z.2.2.1==(1000:Int)) (some (V.tup [V.j 0,V.j 4],[])) (some (V.tup [V.j (atT ts
 t),V.j 0],[]))))))))):_):=by kernel_rfl
theorem Abj {ts:List Tp} {t:By} (h : ¬atT ts t<0) : ∃ i,∃ h:i<ts.length,atT ts t=(i:Int):=by
 obtain ⟨i,h1,h2,_⟩:=Dn (fun z:Tp=>z.1==t) ts 0 (by unfold atT at h; omega);exact ⟨i,h1,by unfold atT; rw [h2,zero_add]⟩
theorem cdi:Af prog 66 (Ent.rd1 Aja).F:=by
 refine fcC (kc func104 Tv (kc func105 Py (kc func106 I3 KnowsL.nil))).knows (Λ:=Aa []) func66 fun vs bs r hq=>?_
 unfold Ent.F Aja at hq;dsimp only at hq;split at hq
 ·rename_i ts fs t b;obtain ⟨hc,hx⟩:=Ad hq;unfold Dg at hc;rw [anE,anE,dcE] at hc;obtain ⟨h1,h2,h3⟩:=hc;refine ⟨Ah _,(Abd ts fs t b).trans (Eq.trans ?_ hx)⟩
  try dsimp only [shr]
  unfold cdC
  by_cases hw:atT ts t<0
  ·rw [Ae (dcT hw),if_pos hw]; rfl
  ·rw [Ac (dcF hw),if_neg hw]
   by_cases hb4:400<b.length
   ·rw [Ae (dcT (by omega)),if_pos hb4]; rfl
   ·obtain ⟨i,hi,e0⟩:=Abj hw;have s1:=all_eq_true.1 h2 _ (getElem_mem hi);have s2:=all_eq_true.1 h3 _ (getElem_mem hi);have hbd:(decide ((0:Int)<=(i:Int))&&decide ((i:Int)<(ts.length:Int)))=true:=by simp only [anE,dcE]; omega
    rw [Ac (dcF (by omega)),if_neg hb4,e0];simp only [hbd,CP,ntN,gtE hi,Ai];generalize ts[i]=z at s1 s2 ⊢;unfold Ev at s1;rw [anE,anE] at s1
    have hk:AN z.2.1.1=true:=by
     unfold tOK at s2;simp only [anE] at s2
     first | exact s2.1.1 | exact s2.1.2 | exact s2.2.1 | exact s2.2.2 | exact s2.1 | exact s2.2 | exact s2.2.1.1 | exact s2.2.2.1 | exact s2.2.1.2
    rw [Ab (by rw [anE]; exact s1.2)];rw [hk,AR]
    have hz:(Rose.node ((kf z.2.1.1 0).1.lab.1,(kf z.2.1.1 0).1.lab.2.1,(kf z.2.1.1 0).1.lab.2.2.1,(kf z.2.1.1 0).1.lab.2.2.2.1,(kf z.2.1.1 0).1.lab.2.2.2.2.1,()) (take (kf z.2.1.1 0).1.kids.length (drop 0 (kf z.2.1.1 0).1.kids)):Rose Lab)=t2L z.2.1.1 0:=by
     rw [drop_zero,take_length,<- (Fk z.2.1.1).2 hk];cases (kf z.2.1.1 0).1; rfl
    rw [hz,Ab (dcT ⟨(CC hk).1,by omega⟩),<-UO hk];cases F5 z.2.1.1 b<;>cases z.2.2.1==1000<;>rfl
 ·cases hq
theorem cds:Af prog 63 (Ent.rd1 Ai9).F:=by
 refine fcC (kc func77 sat (kc func97 Ajy KnowsL.nil)).knows (Λ:=Aa []) func63 fun vs bs r hq=>?_
 unfold Ent.F Ai9 at hq;dsimp only at hq;split at hq
 ·rename_i ts fs t b;obtain ⟨hc,hx⟩:=Ad hq;unfold Dg at hc;rw [anE,anE,dcE] at hc;obtain ⟨h1,h2,h3⟩:=hc;refine ⟨Ah _,(Abc ts fs t b).trans (Eq.trans ?_ hx)⟩
  try dsimp only [shr]
  unfold cdC
  by_cases hw:atT ts t<0
  ·rw [Ae (dcT hw),if_pos hw]; rfl
  ·rw [Ac (dcF hw),if_neg hw]
   by_cases hb4:400<b.length
   ·rw [Ae (dcT (by omega)),if_pos hb4]; rfl
   ·obtain ⟨i,hi,e0⟩:=Abj hw;have s1:=all_eq_true.1 h2 _ (getElem_mem hi);have s2:=all_eq_true.1 h3 _ (getElem_mem hi);have hbd:(decide ((0:Int)<=(i:Int))&&decide ((i:Int)<(ts.length:Int)))=true:=by simp only [anE,dcE]; omega
    rw [Ac (dcF (by omega)),if_neg hb4,e0];simp only [hbd,CP,ntN,gtE hi,Ai];generalize ts[i]=z at s1 s2 ⊢;unfold Ev at s1;rw [anE,anE] at s1
    have hk:AN z.2.1.1=true:=by
     unfold tOK at s2;simp only [anE] at s2
     first | exact s2.1.1 | exact s2.1.2 | exact s2.2.1 | exact s2.2.2 | exact s2.1 | exact s2.2 | exact s2.2.1.1 | exact s2.2.2.1 | exact s2.2.1.2
    rw [Ab (by rw [anE]; exact s1.2)];cases F5 z.2.1.1 b<;>cases z.2.2.1==1000<;>rfl
 ·cases hq




def ntZ:Nt:=([],0,[],())

def gtM (f:Fa) (t b:By):Bool:=tk inL (cut 47 f.2.1) (cut 47 t)&&L9 f.2.2.1.1 b
def gtB (f:Fa) (t b:By):Bool:=gtM f t b&&dtB (t2L f.2.2.2.1.1 0) b
def giN (f:Fa) (t b:By) (no:Int):Nt:=bif gtM f t b then (t,no,dtL (t2L f.2.2.2.1.1 0) b,()) else ntZ
def gtN (f:Fa) (t b:By) (no:Int):Nt:=bif gtB f t b then (t,no,dtL (t2L f.2.2.2.1.1 0) b,()) else ntZ
def P3 (f:Fa) (t b:By):Bool:=decide (f.2.1.length<=4000000000/\t.length<=4000000000/\b.length<=4000000000/\f.2.2.2.1.1.length<=4000000000)&&(nmL f.2.2.2.1.1&&(lvB (cut 47 f.2.1)&&(tpB (cut 47 t)&&(B6 f.2.2.1.1&&(AN f.2.2.2.1.1&&(BK b).isSome)))))
def gtG:Gm
 | [.rp FNd fs i 0,.agg [.s t,.s b],.j no],[]=>.opt FNd fs[i]? fun f=>.need (P3 f t b) (.leaf (.tup [.agg [.s (giN f t b no).1,.j (giN f t b no).2.1,.s (giN f t b no).2.2.1],.b (gtB f t b)],[]))
 | _,_=>.no
def ntG:Gm
 | [.agg (Lf w p ws v bx c),.agg [.s t,.s b],.j no],[]=>.need (P3 (w,p,(ws,()),(v,()),bx,c,()) t b) (.leaf (.tup [.agg [.s (gtN (w,p,(ws,()),(v,()),bx,c,()) t b no).1,.j (gtN (w,p,(ws,()),(v,()),bx,c,()) t b no).2.1,.s (gtN (w,p,(ws,()),(v,()),bx,c,()) t b no).2.2.1],.b (gtB (w,p,(ws,()),(v,()),bx,c,()) t b)],[]))
 | _,_=>.no
theorem Aeh (fs:List Fa) (i:Nat) (t b:By) (no:Int):BI prog (Aa [(108,.rd1 Eo),(107,.rd1 inG),(109,.rd1 Ahs),(105,.rd1 G4),(110,.rd1 Aid)]) (Aa []) f67 [.rp FNd fs i 0,.agg [.s t,.s b],.j no] [] =
 ((Ak fs[i]? fun z=>shr (cut (47:UInt8) t) fun sh3=>shr z.2.1 fun sh2=>shr (Ak fs[i]? fun z=>shr z.2.2.2.1.1 fun sh1=>ifT (decide
 (List.length sh1<=4000000000)&&nmL sh1) (ifB (AN sh1) (ifT (decide (BM (Rose.node ((kf sh1 0).1.lab.1,(kf sh1 0).1.lab.2.1,
 (kf sh1 0).1.lab.2.2.1,(kf sh1 0).1.lab.2.2.2.1,(kf sh1 0).1.lab.2.2.2.2.1,()) (take (kf sh1 (0 :
 Nat)).1.kids.length (drop 0 (kf sh1 0).1.kids)))=true/\b.length<=4000000000)) (some (V.tup [V.agg [V.s t,V.j no,V.s (dtL
 (Rose.node ((kf sh1 0).1.lab.1,(kf sh1 0).1.lab.2.1,(kf sh1 0).1.lab.2.2.1,(kf sh1 0).1.lab.2.2.2.1,(kf
 sh1 0).1.lab.2.2.2.2.1,()) (take (kf sh1 0).1.kids.length (drop 0 (kf sh1 0).1.kids))) b)],V.b (dtB (Rose.node
 ((kf sh1 0).1.lab.1,(kf sh1 0).1.lab.2.1,(kf sh1 0).1.lab.2.2.1,(kf sh1 0).1.lab.2.2.2.1,(kf sh1 (0 :
 Nat)).1.lab.2.2.2.2.1,()) (take (kf sh1 0).1.kids.length (drop 0 (kf sh1 0).1.kids))) b)],[]))) none)) fun sh1=>ifT
 (decide (List.length sh2<=4000000000)) (ifB (lvB (cut (47:UInt8) sh2)) (ifT (decide (t.length<=4000000000)) (ifB (lvB sh3) (ifB (!tk inL (take
 (cut (47:UInt8) sh2).length (drop 0 (cut (47:UInt8) sh2))) (take sh3.length (drop 0 sh3))) (some (V.tup [V.agg [V.s (Ag UInt8),V.i
 .i64 0,V.s (Ag UInt8)],V.b false],[])) (Ak fs[i]? fun z=>shr z.2.2.1.1 fun sh1_1=>ifT (decide (b.length<=4000000000)) (ifB (!L9 sh1_1 b)
 (some (V.tup [V.agg [V.s (Ag UInt8),V.j 0,V.s (Ag UInt8)],V.b false],[])) (ifB (!((BK b).isSome&&B6 sh1_1)) (some (V.tup [V.agg [V.s (Ag UInt8),
 V.j 0,V.s (Ag UInt8)],V.b false],[])) sh1)))) (ifB (!tk inL (take (cut (47:UInt8) sh2).length (drop 0 (cut (47:UInt8) sh2))) (Ag
 Cd.str.den)) (some (V.tup [V.agg [V.s (Ag UInt8),V.j 0,V.s (Ag UInt8)],V.b false],[])) (Ak fs[i]? fun z=>shr z.2.2.1.1 fun sh1_1=>ifT (decide
 (b.length<=4000000000)) (ifB (!L9 sh1_1 b) (some (V.tup [V.agg [V.s (Ag UInt8),V.j 0,V.s (Ag UInt8)],V.b false],[])) (ifB (!((BK b).isSome&&
 B6 sh1_1)) (some (V.tup [V.agg [V.s (Ag UInt8),V.j 0,V.s (Ag UInt8)],V.b false],[])) sh1)))))) (ifT (decide (t.length<=4000000000)) (ifB (lvB
 sh3) (ifB (!tk inL (Ag Cd.str.den) (take sh3.length (drop 0 sh3))) (some (V.tup [V.agg [V.s (Ag UInt8),V.j 0,V.s (Ag UInt8)],V.b false],
 [])) (Ak fs[i]? fun z=>shr z.2.2.1.1 fun sh1_1=>ifT (decide (b.length<=4000000000)) (ifB (!L9 sh1_1 b) (some (V.tup [V.agg [V.s (Ag UInt8),
 V.j 0,V.s (Ag UInt8)],V.b false],[])) (ifB (!((BK b).isSome&&B6 sh1_1)) (some (V.tup [V.agg [V.s (Ag UInt8),V.j 0,V.s (Ag UInt8)],V.b
 false],[])) sh1)))) (Ak fs[i]? fun z=>shr z.2.2.1.1 fun sh1_1=>ifT (decide (b.length<=4000000000)) (ifB (!L9 sh1_1 b) (some (V.tup [V.agg [V.s
 (Ag UInt8),V.j 0,V.s (Ag UInt8)],V.b false],[])) (ifB (!((BK b).isSome&&B6 sh1_1)) (some (V.tup [V.agg [V.s (Ag UInt8),V.j 0,V.s (Ag
 UInt8)],V.b false],[])) sh1))))))):_):=by kernel_rfl
theorem Adg (w:Int) (p:By) (ws:List Wt) (v:List Ty) (bx:List Nt) (c:Int) (t b:By) (no:Int):BI prog (Aa [(98,.rd1 YH),(99,.rd1 UG),(100,.rd1 Ahy),(101,.rd1 Ag4)]) (Aa []) f64 [.agg (Lf w p ws v bx c),.agg [.s t,.s b],.j no] [] =
 ((ifT (decide (b.length<=4000000000)) (ifT (decide (p.length<=4000000000/\t.length<=4000000000)) (ifB (!tk E9 (cut (47:UInt8) p) (cut (47 :
 UInt8) t)) (some (V.tup [V.agg [V.s (Ag UInt8),V.j 0,V.s (Ag UInt8)],V.b false],[])) (ifT (CZ ws&&decide (1<=ws.length/\ws.length<=(1000000000
 : Nat))) (ifB (!soF ws (siV (take ((DT b).getD (Ag WFd)).length (drop 0 ((DT b).getD (Ag WFd)))))) (some (V.tup [V.agg [V.s (Ag UInt8),V.i
 .i64 0,V.s (Ag UInt8)],V.b false],[])) (ifT (decide (v.length<=4000000000)&&nmL v) (ifB (!Lg v b) (some (V.tup [V.agg [V.s (Ag UInt8),V.j 0,V.s
 (Ag UInt8)],V.b false],[])) (some (V.tup [V.agg [V.s t,V.j no,V.s (VM v b)],V.b true],[]))))))))):_):=by kernel_rfl
theorem Rk {f:Fa} {t b:By} (h:P3 f t b=true):(f.2.1.length<=4000000000/\t.length<=4000000000/\b.length<=4000000000/\f.2.2.2.1.1.length<=4000000000)/\nmL f.2.2.2.1.1=true/\lvB (cut 47 f.2.1)=true/\tpB (cut 47 t)=true/\B6 f.2.2.1.1=true/\AN f.2.2.2.1.1=true/\(BK b).isSome=true:=by
 unfold P3 at h
 simpa only [anE,dcE] using h
theorem Ado {ws:List Wt} {b:By} (hg:B6 ws=true) (hb:(BK b).isSome=true):L9 ws b=soF ws (siV ((DT b).getD [])):=by
 obtain ⟨l,hl⟩:=Option.isSome_iff_exists.1 hb;unfold L9;rw [HD,hl,hg]
 have hr:JZ (GH l)=true:=by
  unfold BK at hl;split at hl
  ·split at hl
   ·rename_i q; cases hl; exact q
   ·cases hl
  ·cases hl
 have e:soq l=siV (l.map (·.1)):=funext fun w=>Afz fun i j hij hj=>by
  have:=Acy hr (j-i-1) i (by unfold GH; rw [List.length_map]; omega);unfold GH at this;simp only [List.getElem_map] at this;have e2:i+(j-i-1)+1=j:=by omega
  simpa only [e2] using this
 dsimp only;rw [e]; rfl
theorem Ak7:Af prog 67 (Ent.rd1 gtG).F:=by
 refine fcC (kc func108 Pr (kc func107 tin (kc func109 mat (kc func105 Py (kc func110 kdt KnowsL.nil))))).knows (Λ:=Aa []) func67 fun vs bs r hq=>?_
 unfold Ent.F gtG at hq;dsimp only at hq;split at hq
 ·rename_i fs i t b no
  cases hfi:fs[i]? with
  | none=>rw [hfi] at hq; cases hq
  | some f=>
   rw [hfi] at hq;obtain ⟨hc,hx⟩:=Ad (show (Br.need (P3 f t b) _).run=some r from hq);obtain ⟨⟨h1,h2,h3,h4⟩,h5,h6,h7,h8,h9,h10⟩:=Rk hc;obtain ⟨m1,m2,m3⟩:=CC h9;have k4:=(ZB h9).2.2.2;refine ⟨Ah _,(Aeh fs i t b no).trans (Eq.trans ?_ hx)⟩
   try dsimp only [shr]
   simp only [hfi,Ai,drop_zero,take_length,Bc];rw [k4,Ab (dcT h1),h6,AR,Ab (dcT h2),Afx h7,AR];unfold gtB giN gtM;cases e1:tk inL (cut 47 f.2.1) (cut 47 t)
   ·rfl
   ·rw [Bool.not_true,A6,Ab (dcT h3)];cases e2:L9 f.2.2.1.1 b
    ·rfl
    ·rw [h10,h8,Ab (by rw [h5,Bool.and_true]; exact dcT h4),h9,AR,Ab (dcT ⟨m1,h3⟩)];rfl
 ·cases hq
theorem Adz:Af prog 64 (Ent.rd1 ntG).F:=by
 refine fcC (kc func98 Ajv (kc func99 Aki (kc func100 l7m (kc func101 sdt KnowsL.nil)))).knows (Λ:=Aa []) func64 fun vs bs r hq=>?_
 unfold Ent.F ntG at hq;dsimp only at hq;split at hq
 ·rename_i w p ws v bx c t b no;obtain ⟨hc,hx⟩:=Ad hq;obtain ⟨⟨h1,h2,h3,h4⟩,h5,h6,h7,h8,h9,h10⟩:=Rk hc;have h1:p.length<=4000000000:=h1;have h4:v.length<=4000000000:=h4;have h5:nmL v=true:=h5;have h8:B6 ws=true:=h8;have h9:AN v=true:=h9;obtain ⟨r1,r2,r3⟩:=Rm h8;refine ⟨Ah _,(Adg w p ws v bx c t b no).trans (Eq.trans ?_ hx)⟩
  try dsimp only [shr]
  simp only [AX,drop_zero,take_length];rw [Ab (dcT h3),Ab (dcT ⟨h1,h2⟩),Yc h7];unfold gtN gtB gtM;dsimp only;cases e1:tk inL (cut 47 p) (cut 47 t)
  ·rfl
  ·rw [Bool.not_true,A6,Ab (by rw [r1,Bool.true_and]; exact dcT ⟨r2,by omega⟩),<-Ado h8 h10];cases e2:L9 ws b
   ·rfl
   ·rw [Bool.not_true,A6,Ab (by rw [h5,Bool.and_true]; exact dcT h4)];unfold Lg VM Lg;rw [h9];cases e3:dtB (t2L v 0) b
    ·rfl
    ·rfl
 ·cases hq
def Abb (ts:List Tp) (t:By):Int:=(ts[(atT ts t).toNat]?.map fun z=>z.2.2.1).getD 0
def wgB (ts:List Tp) (fs:List Fa) (w:Int) (t b:By):Bool:=MI ts fs w&&(decide (cdC ts t b=0)&&gtB (foF ts fs w) t b)
def wgN (ts:List Tp) (fs:List Fa) (w:Int) (t b:By):Nt:=bif wgB ts fs w t b then gtN (foF ts fs w) t b (Abb ts t+1) else ntZ
def RZ (ts:List Tp) (fs:List Fa) (t b:By):Bool:=H8 ts fs&&decide (t.length<=4000000000/\b.length<=4000000000)
def wgG:Gm
 | [.agg [.sl TPd ts,.sl FNd fs],.j w,.agg [.s t,.s b]],[]=>.need (RZ ts fs t b) (.leaf (.tup [.agg [.s (wgN ts fs w t b).1,.j (wgN ts fs w t b).2.1,.s (wgN ts fs w t b).2.2.1],.b (wgB ts fs w t b)],[]))
 | _,_=>.no
theorem X5 (ts:List Tp) (fs:List Fa) (w:Int) (t b:By):BI prog (Aa [(65,.rd1 Aet),(47,.rd1 Aiu),(66,.rd1 Aja),(67,.rd1 gtG)]) (Aa []) f21 [.agg [.sl TPd ts,.sl FNd fs],.j w,.agg [.s t,.s b]] [] =
 ((ifT (H8 ts fs) (ifB (!Dm ts fs) (some (V.tup [V.agg [V.s (Ag UInt8),V.j 0,V.s (Ag UInt8)],V.b false],[])) (ifB (decide (atW fs w<0)) (some (V.tup
 [V.agg [V.s (Ag UInt8),V.j 0,V.s (Ag UInt8)],V.b false],[])) (ifT (Dg ts) (ifB (cdC ts t b != (0:Int)) (some (V.tup [V.agg [V.s (Ag UInt8),V.j 0,
 V.s (Ag UInt8)],V.b false],[])) (ifT (decide ((0:Int)<=atW fs w)&&decide (atW fs w<(↑fs.length:Int))) (ifT (decide ((0:Int)<=atT ts t)&&decide (atT ts t
 < (↑ts.length:Int))) (Ak ts[(atT ts t).toNat]? fun z=>Ak fs[(atW fs w).toNat]? fun z_1=>shr (giN z_1 t b (i64.wrap (z.2.2.1+(1:Int)))) fun
 sh1=>ifT (P3 z_1 t b) (ifB (!gtB z_1 t b) (some (V.tup [V.agg [V.s (Ag UInt8),V.j 0,V.s (Ag UInt8)],V.b false],[])) (some (V.tup [V.agg [V.s sh1.1,V.i
 .i64 sh1.2.1,V.s sh1.2.2.1],V.b true],[]))))))))))):_):=by kernel_rfl
theorem X4 (ts:List Tp) (fs:List Fa) (w:Int) (t b:By):BI prog (Aa [(39,.rd1 Aab),(62,.rd1 Yo),(63,.rd1 Ai9),(64,.rd1 ntG)]) (Aa []) f19 [.agg [.sl TPd ts,.sl FNd fs],.j w,.agg [.s t,.s b]] [] =
 ((ifT (H8 ts fs) (ifB (!In ts fs) (some (V.tup [V.agg [V.s (Ag UInt8),V.j 0,V.s (Ag UInt8)],V.b false],[])) (ifB (decide (atW fs w<0)) (some (V.tup
 [V.agg [V.s (Ag UInt8),V.j 0,V.s (Ag UInt8)],V.b false],[])) (ifT (Dg ts) (ifB (cdC ts t b != (0:Int)) (some (V.tup [V.agg [V.s (Ag UInt8),V.j 0,
 V.s (Ag UInt8)],V.b false],[])) (ifT (decide ((0:Int)<=atW fs w)&&decide (atW fs w<(↑fs.length:Int))) (Ak fs[(atW fs w).toNat]? fun z=>ifT (decide ((0
 : Int)<=if cdC ts t b=(0:Int) then atT ts t else (0:Int))&&decide ((if cdC ts t b=(0:Int) then atT ts t else (0:Int))<(↑ts.length:Int))) (Ak ts[(if
 cdC ts t b=(0:Int) then atT ts t else (0:Int)).toNat]? fun z_1=>shr z.2 fun sh4=>shr sh4.2.1.1 fun sh3=>shr sh4.2.2 fun sh2=>shr (gtN (z.1,
 sh4.1,(sh3,()),(sh2.1.1,()),sh2.2.1,sh2.2.2.1,()) t b (i64.wrap (z_1.2.2.1+(1:Int)))) fun sh1=>ifT (P3 (z.1,sh4.1,(sh3,
 ()),(sh2.1.1,()),sh2.2.1,sh2.2.2.1,()) t b) (some (V.tup [V.agg [V.s sh1.1,V.j sh1.2.1,V.s sh1.2.2.1],V.b (gtB (z.1,sh4.1,
 (sh3,()),(sh2.1.1,()),sh2.2.1,sh2.2.2.1,()) t b)],[])))))))))):_):=by kernel_rfl
theorem Gf {ts:List Tp} {fs:List Fa} (hs:H8 ts fs=true) (hg:Dm ts fs=true):Dg ts=true:=by
 unfold H8 at hs;unfold Dm at hg;rw [anE,anE,dcE] at hs;rw [anE] at hg;unfold Dg;rw [dcT hs.1.1,hs.2.1,Ei hg.1]; rfl
theorem ZZ {ts:List Tp} {fs:List Fa} (hs:H8 ts fs=true) (hg:Dm ts fs=true) {i:Nat} (hi:i<fs.length):(fs[i].2.1.length<=4000000000/\fs[i].2.2.2.1.1.length<=4000000000)/\nmL fs[i].2.2.2.1.1=true/\lvB (cut 47 fs[i].2.1)=true/\B6 fs[i].2.2.1.1=true/\AN fs[i].2.2.2.1.1=true:=by
 unfold H8 at hs;unfold Dm JO at hg;simp only [anE,dcE] at hs hg;have h1:=all_eq_true.1 hs.2.2 _ (getElem_mem hi);rw [drop_zero] at hg;have h2:=all_eq_true.1 hg.2.2.2 i (List.mem_range.2 hi);unfold I7 at h1;unfold T6 at h2;rw [gtE hi] at h2;unfold P4 at h2;simp only [anE,dcE] at h1 h2;exact ⟨h1.1,h1.2.1,by first | exact h2.1.2.1 | exact h2.2.2.1,by first | exact h2.1.2.2.1 | exact h2.2.2.2.1,by first | exact h2.1.2.2.2.1 | exact h2.2.2.2.2.1⟩
theorem Abe {ts:List Tp} {t b:By} (h:cdC ts t b=0) : ∃ k,∃ hk:k<ts.length,atT ts t=(k:Int)/\ts[k].1=t/\b.length<=400/\F5 ts[k].2.1.1 b=true:=by
 unfold cdC at h;split at h
 ·omega
 ·rename_i h0;split at h
  ·omega
  ·rename_i h1;obtain ⟨k,hk,h2,h3⟩:=Dn (fun z:Tp=>z.1==t) ts 0 (by unfold atT at h0; omega);have e:atT ts t=(k:Int):=by unfold atT; rw [h2,zero_add]
   rw [e,ntN,gtE hk] at h;dsimp only at h;refine ⟨k,hk,e,by simpa using h3.1,by omega,?_⟩;cases hv:F5 ts[k].2.1.1 b
   ·rw [hv] at h; cases h
   ·rfl
theorem Ad9 {l:List Ty} {b:By} (h:F5 l b=true):(BK b).isSome=true:=by
 unfold F5 Tx at h;rw [anE,anE] at h;obtain ⟨⟨_,hk⟩,hd⟩:=h;obtain ⟨g1,_⟩:=Bw (CC hk).1;rw [EH (by omega) (by omega),HD] at hd
 cases e:BK b with
 | none=>rw [e] at hd; cases hd
 | some l=>rfl
theorem Uf {ts:List Tp} {fs:List Fa} {t b:By} (hs:H8 ts fs=true) (hg:Dm ts fs=true) (ht:t.length<=4000000000) (h:cdC ts t b=0) {i:Nat} (hi:i<fs.length):P3 fs[i] t b=true:=by
 obtain ⟨k,hk,e1,e2,e3,e4⟩:=Abe h;obtain ⟨⟨a1,a2⟩,a3,a4,a5,a6⟩:=ZZ hs hg hi;have h7:=((H5 (Gf hs hg)).2.2 _ (getElem_mem hk)).2.1;rw [e2] at h7;unfold P3;rw [a3,a4,h7,a5,a6,Ad9 e4,dcT ⟨a1,ht,by omega,a2⟩]; rfl
theorem Ak5 {f:Fa} {t b:By} {no:Int} (h:gtB f t b=true):giN f t b no=gtN f t b no:=by
 have h':=h;unfold gtB at h';rw [anE] at h';unfold giN gtN;rw [h'.1,h]
theorem wgi:Af prog 21 (Ent.rd1 wgG).F:=by
 refine B7 (kc func65 Akz (kc func47 Aec (kc func66 cdi (kc func67 Ak7 KnowsL.nil)))).knows (Λ:=Aa []) func21 (c:=f21.body.getD .skip) (by kernel_rfl) fun vs bs r hq hv hb=>?_
 unfold Ent.F wgG at hq;dsimp only at hq;split at hq
 ·rename_i ts fs w t b;obtain ⟨hc,hx⟩:=Ad hq;unfold RZ at hc;rw [anE,dcE] at hc;obtain ⟨h1,ht,hb⟩:=hc
  have no:wgB ts fs w t b=false->some (V.tup [.agg [.s (Ag _),.j 0,.s (Ag _)],.b false],[])=some r:=fun h=>by
   unfold wgN at hx;rw [h] at hx;exact hx
  refine ⟨Ah _,(X5 ts fs w t b).trans ?_⟩
  try dsimp only [shr]
  rw [Ab h1];cases hg:Dm ts fs
  ·exact no (by unfold wgB MI; rw [hg]; rfl)
  ·by_cases hw:atW fs w<0
   ·rw [Bool.not_true,A6,Ae (dcT hw)];exact no (by unfold wgB MI; rw [hg,dcT hw]; rfl)
   ·obtain ⟨i,hi,e0⟩:=Abi hw;have e1:MI ts fs w=true:=by unfold MI; rw [hg,dcF hw]; rfl
    have e2:foF ts fs w=fs[i]:=by unfold foF; rw [e1,e0,ntN,gtE hi]; rfl
    rw [Bool.not_true,A6,Ac (dcF hw),Ab (Gf h1 hg)]
    by_cases hz:cdC ts t b=0
    ·obtain ⟨k,hk,e3,_⟩:=Abe hz;obtain ⟨_,_,_,c0,c1⟩:=(H5 (Gf h1 hg)).2.2 _ (getElem_mem hk);have hn:i64.wrap (ts[k].2.2.1+1)=ts[k].2.2.1+1:=Av (by omega) (by omega);have e4:Abb ts t=ts[k].2.2.1:=by unfold Abb; rw [e3,ntN,gtE hk]; rfl
     have e5:wgB ts fs w t b=gtB fs[i] t b:=by unfold wgB; rw [e1,e2,dcT hz]; rfl
     have hnd:=Uf h1 hg ht hz hi;have hb0:(decide ((0:Int)<=(i:Int))&&decide ((i:Int)<(fs.length:Int)))=true:=by simp only [anE,dcE]; omega
     have hb1:(decide ((0:Int)<=(k:Int))&&decide ((k:Int)<(ts.length:Int)))=true:=by simp only [anE,dcE]; omega
     rw [Ac (by rw [hz]; rfl),e0,Ab hb0,e3,Ab hb1,ntN,gtE hk,Ai,ntN,gtE hi,Ai,Ab hnd,hn];cases hgt:gtB fs[i] t b
     ·exact no (e5.trans hgt)
     ·have e6:=e5.trans hgt;unfold wgN at hx;rw [e6,e2,e4] at hx;rw [Ak5 hgt];exact hx
    ·rw [Ae (by simpa using hz)];exact no (by unfold wgB; rw [dcF hz,Bool.false_and,Bool.and_false])
 ·cases hq
theorem wgs:Af prog 19 (Ent.rd1 wgG).F:=by
 refine B7 (kc func39 Aco (kc func62 Alo (kc func63 cds (kc func64 Adz KnowsL.nil)))).knows (Λ:=Aa []) func19 (c:=f19.body.getD .skip) (by kernel_rfl) fun vs bs r hq hv hb=>?_
 unfold Ent.F wgG at hq;dsimp only at hq;split at hq
 ·rename_i ts fs w t b;obtain ⟨hc,hx⟩:=Ad hq;unfold RZ at hc;rw [anE,dcE] at hc;obtain ⟨h1,ht,hb⟩:=hc
  have no:wgB ts fs w t b=false->some (V.tup [.agg [.s (Ag _),.j 0,.s (Ag _)],.b false],[])=some r:=fun h=>by
   unfold wgN at hx;rw [h] at hx;exact hx
  refine ⟨Ah _,(X4 ts fs w t b).trans ?_⟩
  try dsimp only [shr]
  rw [Ab h1,<-WJ];cases hg:Dm ts fs
  ·exact no (by unfold wgB MI; rw [hg]; rfl)
  ·by_cases hw:atW fs w<0
   ·rw [Bool.not_true,A6,Ae (dcT hw)];exact no (by unfold wgB MI; rw [hg,dcT hw]; rfl)
   ·obtain ⟨i,hi,e0⟩:=Abi hw;have e1:MI ts fs w=true:=by unfold MI; rw [hg,dcF hw]; rfl
    have e2:foF ts fs w=fs[i]:=by unfold foF; rw [e1,e0,ntN,gtE hi]; rfl
    rw [Bool.not_true,A6,Ac (dcF hw),Ab (Gf h1 hg)]
    by_cases hz:cdC ts t b=0
    ·obtain ⟨k,hk,e3,_⟩:=Abe hz;obtain ⟨_,_,_,c0,c1⟩:=(H5 (Gf h1 hg)).2.2 _ (getElem_mem hk);have hn:i64.wrap (ts[k].2.2.1+1)=ts[k].2.2.1+1:=Av (by omega) (by omega);have e4:Abb ts t=ts[k].2.2.1:=by unfold Abb; rw [e3,ntN,gtE hk]; rfl
     have e5:wgB ts fs w t b=gtB fs[i] t b:=by unfold wgB; rw [e1,e2,dcT hz]; rfl
     have hnd:=Uf h1 hg ht hz hi;have hb0:(decide ((0:Int)<=(i:Int))&&decide ((i:Int)<(fs.length:Int)))=true:=by simp only [anE,dcE]; omega
     have hb1:(decide ((0:Int)<=(k:Int))&&decide ((k:Int)<(ts.length:Int)))=true:=by simp only [anE,dcE]; omega
     rw [Ac (by rw [hz]; rfl),e0,Ab hb0,ntN,gtE hi,Ai,if_pos hz,e3,Ab hb1,ntN,gtE hk,Ai,hn];have eF:((fs[i].1,fs[i].2.1,(fs[i].2.2.1.1,()),(fs[i].2.2.2.1.1,()),fs[i].2.2.2.2.1,fs[i].2.2.2.2.2.1,()):Fa)=fs[i]:=rfl;simp only [eF];rw [Ab hnd];cases hgt:gtB fs[i] t b
     ·have e7:gtN fs[i] t b (ts[k].2.2.1+1)=ntZ:=by unfold gtN; rw [hgt]; rfl
      rw [e7];exact no (e5.trans hgt)
     ·have e6:=e5.trans hgt;unfold wgN at hx;rw [e6,e2,e4] at hx;exact hx
    ·rw [Ae (by simpa using hz)];exact no (by unfold wgB; rw [dcF hz,Bool.false_and,Bool.and_false])
 ·cases hq



theorem Ko {α:Type} (w:α->Nat) : ∀ {l:List α} {x:α},x∈l->w x<=(l.map w).sum
 | y::l,x,h=>by
  rw [map_cons,sum_cons];rcases List.mem_cons.1 h with rfl | h
  ·omega
  ·have:=Ko w h; omega
theorem Af3 {l:List Ty} (h:GP l=true):nmL l=true:=by
 unfold nmL;rw [all_eq_true];intro x hx;have:=(IG h).2 x hx;unfold Q5 at this;exact this
theorem XN {t:Tp} (ho:Ph t=true) (hw:wTp t<=1048576):Ev t=true/\EB t=true/\Ej t=true:=by
 have hM:=mxI;unfold wTp FA M7 at hw;unfold Ph GQ at ho;rw [anE,dcE] at ho;have hn:=Af3 ho.2;unfold Ev EB Gh Ej;simp only [anE,dcE];refine ⟨⟨by omega,by omega,hn⟩,by omega,by omega⟩
theorem Ahl {b:List Nt} (hw:M8 b<=1048576):HM b=true:=by
 unfold M8 Ds at hw;unfold HM;rw [anE,dcE,all_eq_true];refine ⟨by omega,fun n hn=>?_⟩;have:=Ko wNt hn;unfold wNt at this hw;exact dcT (by omega)
theorem Aal {f:Fa} (ho:Pi f=true) (hw:wFa f<=1048576):I7 f=true/\EC f=true/\Ek f=true:=by
 have hM:=mxI;unfold wFa FA GE at hw;unfold Pi N8 GQ at ho;simp only [anE,dcE] at ho;have hn:=Af3 ho.2.2.1;have hb:=Ahl (b:=f.2.2.2.2.1) (by omega);unfold OE M7 M8 at hw;unfold I7 EC Gh Mf Ek;simp only [anE,dcE];refine ⟨⟨⟨by omega,by omega⟩,hn,hb⟩,⟨by omega,by omega,by omega⟩,by omega,by omega,by omega⟩
theorem Abh {ts:List Tp} {fs:List Fa} (ho:Q6 (ts,fs,())=true) (hw:wBk (ts,fs,())<=1048576):H8 ts fs=true/\Ru (ts,fs,())=true/\((decide (ts.length<=1000000000)&&ts.all Ej)&&(decide (fs.length<=1000000000)&&fs.all Ek))=true:=by
 have hM:=mxI;unfold Q6 at ho;rw [anE] at ho;obtain ⟨h1,h2⟩:=II ho.1;obtain ⟨h3,h4⟩:=IJ ho.2;unfold wBk JW PP at hw;dsimp only at hw
 have a : ∀ t∈ts,Ev t=true/\EB t=true/\Ej t=true:=fun t ht=>by
  have:=Ko wTp ht;unfold Dr at hw;exact XN (h2 t ht) (by omega)
 have b : ∀ f∈fs,I7 f=true/\EC f=true/\Ek f=true:=fun f hf=>by
  have:=Ko wFa hf;unfold Du at hw;exact Aal (h4 f hf) (by omega)
 unfold H8 Ru;simp only [anE,dcE,all_eq_true];exact ⟨⟨⟨by omega,by omega⟩,fun t ht=>(a t ht).1,fun f hf=>(b f hf).1⟩,⟨⟨by omega,fun t ht=>(a t ht).2.1⟩,by omega,fun f hf=>(b f hf).2.1⟩,⟨by omega,fun t ht=>(a t ht).2.2⟩,by omega,fun f hf=>(b f hf).2.2⟩
theorem Ov (x:Nt):Gn x x=true:=by unfold Gn; simp
theorem Oq (x:Ty):GK x x=true:=by unfold GK; simp
theorem WQ (x:Wt):GJ x x=true:=by unfold GJ; simp
theorem WV (x:Tp):GL x x=true:=by
 unfold GL GY;rw [Eb fun y _=>Oq y]; simp
theorem Xb (x:Fa):GM x x=true:=by
 unfold GM Ow GY;rw [Eb fun y _=>Oq y,Eb fun y _=>WQ y,Eb fun y _=>Ov y]; simp
theorem Xd (ts:List Tp) (fs:List Fa):Aat (ts,fs,()) (ts,fs,())=true:=by
 unfold Aat;rw [Eb fun y _=>WV y,Eb fun y _=>Xb y]; rfl
def wPo (z:By×By×Unit):Nat:=z.1.length+z.2.1.length
def Zj (z:By×By×Unit):Bool:=decide (z.1.length<=maxI/\z.2.1.length<=maxI)
def Yj:Gm
 | [.agg [.s a,.s b],.j k],[]=>.need (decide (0<=k/\k<=1048576)&&Zj (a,b,())) (szA k (wPo (a,b,())))
 | _,_=>.no
def XW:Gm
 | [.agg [.s a,.s b]],[]=>.leaf (.agg [.s a,.s b],[])
 | _,_=>.no
theorem V0 (a b:By) (k:Int):Aw prog (Aa []) (Aa []) f18 [.agg [.s a,.s b],.j k] [] =
 ((ifB (decide (i64.wrap (k-(↑a.length:Int))<(0:Int))) (some (V.j (-1),[])) (ifB (decide (i64.wrap (i64.wrap (k-(↑a.length:Int)) -
 (↑b.length:Int))<(0:Int))) (some (V.j (-1),[])) (some (V.j (i64.wrap (i64.wrap (k-(↑a.length:Int))-(↑b.length:Int))),[])))):_):=by kernel_rfl
theorem Yi:Af prog 18 (Ent.rd1 Yj).F:=by
 refine fcK KnowsL.nil.knows (Λ:=Aa []) func18 fun vs_ bs_ r_ hq_=>?_
 unfold Ent.F Yj at hq_;dsimp only at hq_;split at hq_
 ·rename_i a b k;obtain ⟨hc,hx⟩:=Ad hq_;rw [anE,dcE] at hc;obtain ⟨⟨h0,h1⟩,h2⟩:=hc;unfold Zj at h2;dsimp only at h2;have hM:=mxI;refine ⟨Ah _,(V0 a b k).trans (Eq.trans ?_ hx)⟩;show _=(szA k (wPo (a,b,()))).run;unfold wPo;dsimp only;obtain ⟨h3,h4⟩:=of_decide_eq_true h2;have hw:i64.wrap (k-(a.length:Int))=k-(a.length:Int):=Av (by omega) (by omega);rw [hw]
  by_cases q:k-(a.length:Int)<0
  ·rw [Ae (dcT q),Cs (by push_cast; omega)]
  ·have hw2:i64.wrap (k-(a.length:Int)-(b.length:Int))=k-(a.length:Int)-(b.length:Int):=Av (by omega) (by omega);rw [Ac (dcF q),hw2];have e:k-(a.length:Int)-(b.length:Int)=k-((a.length+b.length:Nat):Int):=by push_cast; omega
   rw [e]
   by_cases q2:k-((a.length+b.length:Nat):Int)<0
   ·rw [Ae (dcT q2),Cs q2]
   ·rw [Ac (dcF q2),El q2]
 ·cases hq_
theorem XV:Af prog 20 (Ent.rd1 XW).F:=by
 refine fcK KnowsL.nil.knows (Λ:=Aa []) func20 fun vs bs r hq=>?_
 unfold Ent.F XW at hq;dsimp only at hq;split at hq
 ·rename_i a b;have e:Aw prog (Aa []) (Aa []) f20 [.agg [.s a,.s b]] []=some (.agg [.s a,.s b],[]):=by kernel_rfl
  exact ⟨Ah _,e.trans hq⟩
 ·cases hq
abbrev Afj:FuncId->Option Ent:=Aa [(7,.rd1 Yn),(18,.rd1 Yj),(10,.rd1 Yb),(20,.rd1 XW),(19,.rd1 wgG),(21,.rd1 wgG),(22,.rd1 Mk),(13,.rd1 Aas)]
theorem Wp (ts:List Tp) (fs:List Fa) (w:Int) (t b:By):Aw prog Afj (Aa []) f4 [.agg [.sl TPd ts,.sl FNd fs],.j w,.agg [.s t,.s b]] [] =
 ((shr (take ts.length (drop 0 ts)) fun sh2=>shr (take fs.length (drop 0 fs)) fun sh1=>ifT (decide ((0:Int)<=(1048576:Int)/\
 (1048576:Int)<=(1048576:Int))&&Q6 (ts,fs,())) (ifB (decide (1048576-(↑(wBk (ts,fs,())):Int)<(0:Int))) (some (V.b true,[])) (ifB (decide (1048576 -
 (↑(wBk (ts,fs,())):Int)<(0:Int))) (some (V.b true,[])) (ifT (decide ((0:Int)<=1048576-(↑(wBk (ts,fs,())):Int)/\1048576-(↑(wBk (ts,fs,())):Int)<=
 (1048576:Int))&&Zj (t,b,())) (ifB (decide (1048576-(↑(wBk (ts,fs,())):Int)-(↑(wPo (t,b,())):Int)<(0:Int))) (some (V.b true,[])) (ifB (decide
 (1048576-(↑(wBk (ts,fs,())):Int)-(↑(wPo (t,b,())):Int)<(0:Int))) (some (V.b true,[])) (ifT (decide (ts.length<=1000000000)&&ts.all Ej&&
 (decide (fs.length<=1000000000)&&fs.all Ek)) (ifT (RZ sh2 sh1 t b) (ifT (decide (ts.length<=1000000000)&&ts.all Ej&&(decide (fs.length<=
 1000000000)&&fs.all Ek)) (ifT (RZ sh2 sh1 t b) (ifB (!Gn ((wgN sh2 sh1 w t b).1,(wgN sh2 sh1 w t b).2.1,(wgN sh2 sh1 w t b).2.2.1,())
 ((wgN sh2 sh1 w t b).1,(wgN sh2 sh1 w t b).2.1,(wgN sh2 sh1 w t b).2.2.1,())) nF (ifB (!wgB sh2 sh1 w t b==wgB sh2 sh1 w t b) nF (ifT (decide (ts.length<=1000000000)&&ts.all Ej&&(decide (fs.length<=1000000000)&&fs.all Ek)) (ifT (Ru (sh2,sh1,()))
 (ifB (!Aat (sh2,sh1,()) (sh2,sh1,())) nF (some (V.b true,[]))))))))))))))))):_):=by kernel_rfl
theorem law_knows:Knows prog Afj:=(kc func7 Ym (kc func18 Yi (kc func10 Ya (kc func20 XV (kc func19 wgs (kc func21 wgi (kc func22 Rv (kc func13 Aar KnowsL.nil)))))))).knows
theorem law_fun (ts:List Tp) (fs:List Fa) (w:Int) (t b:By) (ho:Q6 (ts,fs,())=true) (hp:t.length<=maxI/\b.length<=maxI):Aw prog Afj (Aa []) f4 [.agg [.sl TPd ts,.sl FNd fs],.j w,.agg [.s t,.s b]] []=some (.b true,[]):=by
 rw [Wp]
 try dsimp only [shr]
 rw [Ab (by rw [anE]; exact ⟨dcT ⟨by omega,by omega⟩,ho⟩)]
 by_cases q:1048576-(wBk (ts,fs,()):Int)<0
 ·rw [Ae (dcT q)]
 ·have hP:Zj (t,b,())=true:=by unfold Zj; exact dcT hp
  rw [Ac (dcF q),Ac (dcF q),Ab (by rw [anE]; exact ⟨dcT ⟨by omega,by omega⟩,hP⟩)]
  by_cases q2:1048576-(wBk (ts,fs,()):Int)-(wPo (t,b,()):Int)<0
  ·rw [Ae (dcT q2)]
  ·have hw:wBk (ts,fs,())<=1048576:=by omega
   have hw2:t.length+b.length<=1048576:=by unfold wPo at q2; dsimp only at q2; omega
   obtain ⟨b1,b2,h3⟩:=Abh ho hw;have hnd:RZ ts fs t b=true:=by unfold RZ; rw [b1,dcT ⟨by omega,by omega⟩]; rfl
   rw [Ac (dcF q2),Ac (dcF q2)];simp only [drop_zero,take_length,Xd,Ov,beq_self_eq_true,Bool.not_true,A6];rw [Ab h3,Ab hnd,Ab h3,Ab hnd,Ab h3,Ab b2]
theorem law_loops:As prog Afj (Aa []) 0 (f4.body.getD .skip):=Ah _
theorem ok_of {z:(Cd.den (.pair (.slice TPd) (.pair (.slice FNd) .unit)))} (g:Jp (.pair (.slice TPd) (.pair (.slice FNd) .unit)) z):Q6 (z.1,z.2.1,())=true:=by
 have hT : ∀ l:List Ty,Jp (.slice TCd) l->GP l=true:=fun l h=>by
  unfold GP;rw [anE,dcE,all_eq_true];refine ⟨h.1,fun x hx=>?_⟩;unfold Q5;exact dcT (h.2 x hx).2.1
 have hW : ∀ l:List Wt,Jp (.slice WCd) l->HJ l=true:=fun l h=>by
  unfold HJ;rw [anE,dcE,all_eq_true];refine ⟨h.1,fun x hx=>?_⟩;unfold SQ;exact dcT (h.2 x hx).2.2.2.1
 have hN : ∀ l:List Nt,Jp (.slice NTd) l->HK l=true:=fun l h=>by
  unfold HK;rw [anE,dcE,all_eq_true];refine ⟨h.1,fun x hx=>?_⟩;unfold SR;exact dcT ⟨(h.2 x hx).1,(h.2 x hx).2.2.1⟩
 unfold Q6 J8 J9;simp only [anE,dcE,all_eq_true];refine ⟨⟨g.1.1,fun t ht=>?_⟩,g.2.1.1,fun f hf=>?_⟩
 ·have h:=g.1.2 t ht;unfold Ph GQ;rw [anE,dcE];exact ⟨h.1,hT _ h.2.1.1⟩
 ·have h:=g.2.1.2 f hf;unfold Pi N8 GQ;simp only [anE,dcE];exact ⟨h.2.1,hW _ h.2.2.1.1,hT _ h.2.2.2.1.1,hN _ h.2.2.2.2.1⟩
end Go.Proofs.YtdocpdfkeohkiaaGreatDoor.Den
