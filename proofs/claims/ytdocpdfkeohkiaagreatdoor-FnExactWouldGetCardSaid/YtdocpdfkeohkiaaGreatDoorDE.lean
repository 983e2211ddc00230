/- What functions of the program do, by the machine: Top7 Brk1 Wm1 Wm2 Wm3 Wm4 Wm5 Text Mark Mk1 Held Hd1 Mk2 Own1 Brk2 Brk3 Brk4 Top8 Brk5 Brk6 Brk7 Brk8 Brk9 Sz3. -/
import Derived.Test.YtdocpdfkeohkiaaGreatDoorDD
import Derived.KernelRfl
import Derived.Test.YtdocpdfkeohkiaaGreatDoorRows
open Go.IntKind (i64)
open Go.Proofs.Tryz
open List (all_cons all_eq_true any_cons drop drop_eq_getElem_cons drop_eq_nil_of_le drop_zero getElem_mem getElem_range length_range map_cons mem_append mem_range range sum_cons take take_length)
open Int (eq_ofNat_of_zero_le toNat)
open Nat (add_sub_of_le lt_succ_self zero_add)
open Bool (not_not)
namespace Go.Proofs.YtdocpdfkeohkiaaGreatDoor.Den
open Go.Proofs
set_option maxRecDepth 100000
def pt:List (By)->Bool
 | []=>true
 | x::l=>(lev x||(x==[43]||(x==[35]&&l.isEmpty)))&&pt l
def EU:LoopEnt:=⟨21,[3,8,9,10],[3],[2],fun
 | ([.ref 0 0 k,.ref 0 0 k2,.j m,.j i],[R0 .str l])=>.need (decide (0<=i/\k=l.length/\k2=l.length/\m=l.length/\i.toNat<=l.length/\l.length<=5000000000/\∀ z∈l,z.length<=4000000000)) (.br ((l.drop i.toNat).all lev) (.leaf (.exit 0,([.ref 0 0 l.length],[R0 .str l]))) (.leaf (.ret,([.b false],[]))))
 | _=>.no⟩
def EV:LoopEnt:=⟨37,[3,8,9,10],[3],[2],fun
 | ([.ref 0 0 k,.ref 0 0 k2,.j m,.j i],[R0 .str l])=>.need (decide (0<=i/\k=l.length/\k2=l.length/\m=l.length/\i.toNat<=l.length/\l.length<=5000000000/\∀ z∈l,z.length<=4000000000)) (.br (pt (l.drop i.toNat)) (.leaf (.exit 0,([.ref 0 0 l.length],[R0 .str l]))) (.leaf (.ret,([.b false],[]))))
 | _=>.no⟩
theorem Af4:lev [35]=false:=by decide
theorem Af2 : ∀ l:List (By),pt l=(!(l.any fun z=>!Dy z)&&!decide ([35]∈l.take (l.length-1)))
 | []=>by simp [pt]
 | [x]=>by
  simp only [pt,Dy,any_cons,List.any_nil,List.isEmpty_nil,Bool.and_true,Bool.or_false,not_not,List.length_singleton,Nat.sub_self,List.take_zero,List.not_mem_nil,decide_false,Bool.not_false];cases lev x<;>cases x==[43]<;>cases x==[35]<;>rfl
 | x::y::l=>by
  have ih:=Af2 (y::l);rw [pt,ih];have e1:(x::y::l).length-1=((y::l).length-1)+1:=by simp
  have e3:((x::y::l).any fun z=>!Dy z)=(!Dy x||(y::l).any fun z=>!Dy z):=rfl;rw [e1,List.take_succ_cons,e3];generalize hA:((y::l).any fun z=>!Dy z)=A;clear hA ih e3 e1;simp only [Dy,List.isEmpty_cons,Bool.and_false,Bool.or_false]
  by_cases hx:x=[35]
  ·subst hx;rw [Af4];simp
  ·have hne:([35]:By)≠x:=fun h=>hx h.symm
   have e2:decide (([35]:By)∈x::(y::l).take ((y::l).length-1))=decide ([35]∈(y::l).take ((y::l).length-1)):=decide_eq_decide.2 (by simp [hne]);rw [e2,beq_false_of_ne hx];generalize decide ([35]∈(y::l).take ((y::l).length-1))=d;cases lev x<;>cases x==[43]<;>cases A<;>cases d<;>rfl
theorem Zx (l:List (By)):lvB l=(pt l&&decide (l.length<=6)):=by
 unfold lvB;rw [<-Af2,Bool.and_comm]
theorem Afw : ∀ l:List (By),l.all lev=true->pt l=true
 | [],_=>rfl
 | x::l,h=>by
  rw [all_cons,anE] at h;rw [pt,h.1,Afw l h.2]; rfl
theorem XO (l:List (By)):tpB l=(l.all lev&&decide (l.length<=6)):=by
 unfold tpB;rw [Zx]
 have e:(l.any fun z=>!lev z) = !(l.all lev):=by
  induction l with
  | nil=>rfl
  | cons z l ih=>rw [any_cons,all_cons,ih,Bool.not_and]
 rw [e,not_not]
 cases h:l.all lev with
 | true=>rw [Afw l h]; simp
 | false=>simp
abbrev MQ:FuncId->Option Ent:=Aa [(136,.rd1 UA),(154,.rd1 Ps)]
theorem J5 (k k2:Nat) (m i:Int) (l:List (By)):At prog MQ (Aa [(3,EU)]) 0 (body f113 0) EU ([.ref 0 0 k,.ref 0 0 k2,.j m,.j i],[R0 .str l]) =
 ((ifB (decide (i<m)) (ifT (decide (0<=i)&&decide (i<(↑k2:Int))) (Ak l[0+i.toNat]? fun z=>ifT (decide (List.length z<=maxI)) (ifB (!lev z) rF (some (Ex.normal,[V.ref 0 0 k,V.ref 0 0 k2,V.j m,V.j (i64.wrap (i+1))],[R0 Cd.str l]))))) (some
 (Ex.exit 0,[V.ref 0 0 k],[R0 Cd.str l]))):_):=by kernel_rfl
theorem Lb (l:List (By)) (hl:l.length<=5000000000) (ha : ∀ z∈l,z.length<=4000000000) : ∀ (j i:Nat),i+j=l.length->∀ e d',(Br.br ((l.drop i).all lev) (.leaf (.exit 0,([.ref 0 0 l.length],[R0 .str l]))) (.leaf (.ret,([.b false],[]))):Br (Ex×Dt)).run=some (e,d')->Runs prog MQ (Aa [(3,EU)]) 0 (body f113 0) EU ([.ref 0 0 l.length,.ref 0 0 l.length,.j (↑l.length:Int),.j (i:Int)],[R0 .str l]) e d'
 | 0,i,hi,e,d',hx=>by
  have hr:=J5 l.length l.length l.length i l;rw [Ac (dcF (by omega))] at hr;rw [drop_eq_nil_of_le (by omega)] at hx;cases hx;exact stp hr
 | j+1,i,hi,e,d',hx=>by
  have hM:=mxI;have hil:i<l.length:=by omega
  have hr:=J5 l.length l.length l.length i l;rw [Ae (dcT (by omega)),T2 (by omega)] at hr;simp only [ntN,zero_add,gtE hil,Ai,Ap (n:=i) (by omega)] at hr;have hlen:=ha l[i] (getElem_mem hil);rw [Ab (dcT (by omega))] at hr;rw [drop_eq_getElem_cons hil] at hx;rw [all_cons] at hx
  cases hz:lev l[i] with
  | true=>
   rw [hz,Bool.true_and] at hx;rw [hz,Ac (by rfl:(!true)=false)] at hr;exact sts hr (Lb l hl ha j (i+1) (by omega) e d' hx)
  | false=>
   rw [hz,Bool.false_and] at hx;cases hx;rw [hz,Ae (by rfl:(!false)=true)] at hr;exact stp hr
theorem Yy:As prog MQ (Aa [(3,EU)]) 0 (f113.body.getD .skip):=by
 refine Am (a:=body f113 0) (by kernel_rfl) fun x e y h=>?_
 unfold EU at h;dsimp only at h;split at h
 ·rename_i k k2 m i l;obtain ⟨hc,hx⟩:=Ad h;clear h;obtain ⟨h0,rfl,rfl,rfl,h1,h2,h3⟩:=of_decide_eq_true hc;obtain ⟨i,rfl⟩:=eq_ofNat_of_zero_le h0;rw [ntN] at h1 hx;exact Lb l h2 h3 (l.length-i) i (by omega) e y hx
 ·cases h
theorem VF (s:By) (hc:s.length<=4000000000):CS prog MQ (Aa [(3,EU)]) f113 [.s s] []=some (.b (tpB (cut 47 s)),[]):=by
 have e:CS prog MQ (Aa [(3,EU)]) f113 [.s s] []=((ifT (decide ((47:Int)=(47:Int)/\s.length<=4000000000)) (ifT (decide ((0:Int)<=(0:Int)/\(cut (47:UInt8) s).length=(cut (47:UInt8) s).length/\
 (cut (47:UInt8) s).length=(cut (47:UInt8) s).length/\(↑(cut (47:UInt8) s).length:Int)=(↑(cut (47:UInt8) s).length:Int)/\0<=(cut (47:UInt8)
 s).length/\(cut (47:UInt8) s).length<=5000000000/\∀ (z:Cd.str.den),z∈cut (47:UInt8) s->List.length z<=4000000000)) (ifB ((drop (0 :
 Nat) (cut (47:UInt8) s)).all lev) (some (V.b (decide ((↑(cut (47:UInt8) s).length:Int)<=(6:Int))),[])) nF))):_):=by kernel_rfl
 rw [e];clear e;obtain ⟨hz,hpos,hle⟩:=EJ hc;rw [XO];rw [Ab (dcT ⟨by trivial,hc⟩),Ab (dcT ⟨by omega,by trivial,by trivial,by trivial,by omega,by omega,hz⟩)];simp only [drop_zero];generalize cut 47 s=l at *
 by_cases q:l.length<=6
 ·have q2:((l.length:Int)<=6):=by omega
  rw [dcT q,dcT q2];cases (l.all lev)<;>rfl
 ·have q2 : ¬((l.length:Int)<=6):=by omega
  rw [dcF q,dcF q2];cases (l.all lev)<;>rfl
theorem Aj1:Af prog 113 (Ent.rd1 NY).F:=by
 refine fcN (kc func136 Aht (kc func154 Ajx KnowsL.nil)).knows (Λ:=(Aa [(3,EU)])) func113 fun vs bs r hq=>?_
 unfold Ent.F NY at hq;dsimp only at hq;split at hq
 ·rename_i s;obtain ⟨hc,hq⟩:=Ad hq;exact ⟨Yy,(VF s (of_decide_eq_true hc)).trans hq⟩
 ·cases hq
theorem J6 (k k2:Nat) (m i:Int) (l:List (By)):At prog MQ (Aa [(3,EV)]) 0 (body f116 0) EV ([.ref 0 0 k,.ref 0 0 k2,.j m,.j i],[R0 .str l]) =
 ((ifB (decide (i<m)) (ifT (decide (0<=i)&&decide (i<(↑k2:Int))) (Ak l[0+i.toNat]? fun z=>ifT (decide (List.length z<=maxI)) (ifB (!lev z) (ifB (!z
 == [(43:UInt8)]) (ifB (!z==[(35:UInt8)]) rF (ifB (decide (i<i64.wrap ((↑k:Int)-(1:Int)))) rF (some (Ex.normal,[V.ref 0 0 k,V.ref 0 0 k2,V.j m,V.j (i64.wrap (i+1))],[R0 Cd.str l])))) (some (Ex.normal,[V.ref 0 0
 k,V.ref 0 0 k2,V.j m,V.j (i64.wrap (i+1))],[R0 Cd.str l]))) (some (Ex.normal,[V.ref 0 0 k,V.ref 0 0 k2,V.j m,V.i
 .i64 (i64.wrap (i+1))],[R0 Cd.str l]))))) (some (Ex.exit 0,[V.ref 0 0 k],[R0 Cd.str l]))):_):=by kernel_rfl
theorem Lc (l:List (By)) (hl:l.length<=5000000000) (ha : ∀ z∈l,z.length<=4000000000) : ∀ (j i:Nat),i+j=l.length->∀ e d',(Br.br (pt (l.drop i)) (.leaf (.exit 0,([.ref 0 0 l.length],[R0 .str l]))) (.leaf (.ret,([.b false],[]))):Br (Ex×Dt)).run=some (e,d')->Runs prog MQ (Aa [(3,EV)]) 0 (body f116 0) EV ([.ref 0 0 l.length,.ref 0 0 l.length,.j (↑l.length:Int),.j (i:Int)],[R0 .str l]) e d'
 | 0,i,hi,e,d',hx=>by
  have hr:=J6 l.length l.length l.length i l;rw [Ac (dcF (by omega))] at hr;rw [drop_eq_nil_of_le (by omega)] at hx;cases hx;exact stp hr
 | j+1,i,hi,e,d',hx=>by
  have hM:=mxI;have hil:i<l.length:=by omega
  have hr:=J6 l.length l.length l.length i l;rw [Ae (dcT (by omega)),T2 (by omega)] at hr;simp only [ntN,zero_add,gtE hil,Ai,Ap (n:=i) (by omega)] at hr;have hlen:=ha l[i] (getElem_mem hil);rw [Ab (dcT (by omega))] at hr;rw [drop_eq_getElem_cons hil] at hx;rw [pt] at hx
  have e0:(l.drop (i+1)).isEmpty=decide (¬((i:Int)<(l.length:Int)-1)):=by
   by_cases h:i+1<l.length
   ·rw [dcF (by omega),drop_eq_getElem_cons h]; rfl
   ·rw [dcT (by omega),drop_eq_nil_of_le (by omega)]; rfl
  have w:i64.wrap ((l.length:Int)-1)=(l.length:Int)-1:=Av (by omega) (by omega);rw [e0] at hx;simp only [w,decide_not] at hr hx;have key:(lev l[i]||(l[i]==[43]||(l[i]==[35]&&!decide ((i:Int)<(l.length:Int)-1))))=true\/(lev l[i]||(l[i]==[43]||(l[i]==[35]&&!decide ((i:Int)<(l.length:Int)-1))))=false:=by cases (lev l[i]||(l[i]==[43]||(l[i]==[35]&&!decide ((i:Int)<(l.length:Int)-1))))<;>simp
  rcases key with hz | hz
  ·rw [hz,Bool.true_and] at hx;refine sts (hr.trans ?_) (Lc l hl ha j (i+1) (by omega) e d' hx)
   revert hz
   generalize lev l[i]=a;generalize (l[i]==[43])=b;generalize (l[i]==[35])=c;generalize decide ((i:Int)<(l.length:Int)-1)=d;cases a<;>cases b<;>cases c<;>cases d<;>intro hz<;>first | rfl | cases hz
  ·rw [hz,Bool.false_and] at hx;cases hx;refine .stop _ _ _ (hr.trans ?_) (by simp)
   revert hz
   generalize lev l[i]=a;generalize (l[i]==[43])=b;generalize (l[i]==[35])=c;generalize decide ((i:Int)<(l.length:Int)-1)=d;cases a<;>cases b<;>cases c<;>cases d<;>intro hz<;>first | rfl | cases hz
theorem Yz:As prog MQ (Aa [(3,EV)]) 0 (f116.body.getD .skip):=by
 refine Am (a:=body f116 0) (by kernel_rfl) fun x e y h=>?_
 unfold EV at h;dsimp only at h;split at h
 ·rename_i k k2 m i l;obtain ⟨hc,hx⟩:=Ad h;clear h;obtain ⟨h0,rfl,rfl,rfl,h1,h2,h3⟩:=of_decide_eq_true hc;obtain ⟨i,rfl⟩:=eq_ofNat_of_zero_le h0;rw [ntN] at h1 hx;exact Lc l h2 h3 (l.length-i) i (by omega) e y hx
 ·cases h
theorem VG (s:By) (hc:s.length<=4000000000):CS prog MQ (Aa [(3,EV)]) f116 [.s s] []=some (.b (lvB (cut 47 s)),[]):=by
 have e:CS prog MQ (Aa [(3,EV)]) f116 [.s s] []=((ifT (decide ((47:Int)=(47:Int)/\s.length<=4000000000)) (ifT (decide ((0:Int)<=(0:Int)/\(cut (47:UInt8) s).length=(cut (47:UInt8) s).length/\
 (cut (47:UInt8) s).length=(cut (47:UInt8) s).length/\(↑(cut (47:UInt8) s).length:Int)=(↑(cut (47:UInt8) s).length:Int)/\0<=(cut (47:UInt8)
 s).length/\(cut (47:UInt8) s).length<=5000000000/\∀ (z:Cd.str.den),z∈cut (47:UInt8) s->List.length z<=4000000000)) (ifB (pt (drop (0 :
 Nat) (cut (47:UInt8) s))) (some (V.b (decide ((↑(cut (47:UInt8) s).length:Int)<=(6:Int))),[])) nF))):_):=by kernel_rfl
 rw [e];clear e;obtain ⟨hz,hpos,hle⟩:=EJ hc;rw [Zx];rw [Ab (dcT ⟨by trivial,hc⟩),Ab (dcT ⟨by omega,by trivial,by trivial,by trivial,by omega,by omega,hz⟩)];simp only [drop_zero];generalize cut 47 s=l at *
 by_cases q:l.length<=6
 ·have q2:((l.length:Int)<=6):=by omega
  rw [dcT q,dcT q2];cases (pt l)<;>rfl
 ·have q2 : ¬((l.length:Int)<=6):=by omega
  rw [dcF q,dcF q2];cases (pt l)<;>rfl
theorem Aj2:Af prog 116 (Ent.rd1 Ob).F:=by
 refine fcN (kc func136 Aht (kc func154 Ajx KnowsL.nil)).knows (Λ:=(Aa [(3,EV)])) func116 fun vs bs r hq=>?_
 unfold Ent.F Ob at hq;dsimp only at hq;split at hq
 ·rename_i s;obtain ⟨hc,hq⟩:=Ad hq;exact ⟨Yz,(VG s (of_decide_eq_true hc)).trans hq⟩
 ·cases hq
abbrev Tp:=By×(List Ty×Unit)×Int×Unit
abbrev Nt:=By×Int×By×Unit
abbrev Fa:=Int×By×(List Wt×Unit)×(List Ty×Unit)×List Nt×Int×Unit
def atT (ts:List Tp) (x:By):Int:=Aq (fun t:Tp=>t.1==x) 0 ts
def atW (fs:List Fa) (x:Int):Int:=Aq (fun f:Fa=>f.1==x) 0 fs
def KG:Gm
 | [.agg [.s n,.sl TCd l,.j c],.bx [.s x] 0],[]=>.leaf (.b (n==x),[])
 | _,_=>.no
def Me:Gm
 | [.agg (Lf w p ws v b t),.bx [.j x] 0],[]=>.leaf (.b (w==x),[])
 | _,_=>.no
def KF:Gm
 | [.bx [.sl TPd ts,.sl FNd fs] 0,.s x],[]=>.leaf (.j (atT ts x),[])
 | _,_=>.no
def Aet:Gm
 | [.bx [.sl TPd ts,.sl FNd fs] 0,.j x],[]=>.leaf (.j (atW fs x),[])
 | _,_=>.no
def PG  : LoopEnt:=⟨19,[0,1,4,7,8],[],[4],fun
 | ([.sl TPd l,.fn 141 [] [.ptr 0 0],.j r,.j k,.j i],[some (.box [.s x])])=>
  .need (decide (0<=i/\i.toNat<=l.length/\l.length<=maxI/\k=l.length)) (.br (decide (Aq (fun z:Tp=>z.1==x) i.toNat (l.drop i.toNat)<0)) (.leaf (.exit 0,([],[some (.box [.s x])]))) (.leaf (.ret,([.j (Aq (fun z:Tp=>z.1==x) i.toNat (l.drop i.toNat))],[some (.box [.s x])]))))
 | _=>.no⟩
def Vd  : Gm
 | [.sl TPd l,.fn 141 [] [.ptr 0 0]],[.box [.s x]]=>.leaf (.j (Aq (fun z:Tp=>z.1==x) 0 l),[some (.box [.s x])])
 | _,_=>.no
def PH  : LoopEnt:=⟨19,[0,1,4,7,8],[],[4],fun
 | ([.sl FNd l,.fn 103 [] [.ptr 0 0],.j r,.j k,.j i],[some (.box [.j x])])=>
  .need (decide (0<=i/\i.toNat<=l.length/\l.length<=maxI/\k=l.length)) (.br (decide (Aq (fun z:Fa=>z.1==x) i.toNat (l.drop i.toNat)<0)) (.leaf (.exit 0,([],[some (.box [.j x])]))) (.leaf (.ret,([.j (Aq (fun z:Fa=>z.1==x) i.toNat (l.drop i.toNat))],[some (.box [.j x])]))))
 | _=>.no⟩
def Vg  : Gm
 | [.sl FNd l,.fn 103 [] [.ptr 0 0]],[.box [.j x]]=>.leaf (.j (Aq (fun z:Fa=>z.1==x) 0 l),[some (.box [.j x])])
 | _,_=>.no
def Qq:LoopEnt:=⟨21,[1,8,9,10],[],[4],fun
 | ([.s x,.sl TPd l,.j k,.j i],[])=>.need (decide (0<=i/\i.toNat<=l.length/\k=l.length/\l.length<=maxI)) ((Br.br (decide (Aq (fun t:Tp=>t.1==x) i.toNat (l.drop i.toNat)<0)) (.leaf (.exit 0,([],[]))) (.leaf (.ret,([.j (Aq (fun t:Tp=>t.1==x) i.toNat (l.drop i.toNat))],[]))):Br (Ex×Dt)))
 | _=>.no⟩
def YE:Gm
 | [.agg [.sl TPd ts,.sl FNd fs],.s x],[]=>.leaf (.j (atT ts x),[])
 | _,_=>.no
def J2:LoopEnt:=⟨21,[1,8,9,10],[],[4],fun
 | ([.j x,.sl FNd l,.j k,.j i],[])=>.need (decide (0<=i/\i.toNat<=l.length/\k=l.length/\l.length<=maxI)) ((Br.br (decide (Aq (fun f:Fa=>f.1==x) i.toNat (l.drop i.toNat)<0)) (.leaf (.exit 0,([],[]))) (.leaf (.ret,([.j (Aq (fun f:Fa=>f.1==x) i.toNat (l.drop i.toNat))],[]))):Br (Ex×Dt)))
 | _=>.no⟩
def Yo:Gm
 | [.agg [.sl TPd ts,.sl FNd fs],.j x],[]=>.leaf (.j (atW fs x),[])
 | _,_=>.no
theorem Vl:Af prog 141 (Ent.rd1 KG).F:=by
 refine fcK KnowsL.nil.knows (Λ:=Aa []) func141 fun vs bs r hq=>?_
 unfold Ent.F KG at hq;dsimp only at hq;split at hq
 ·rename_i n l c x;refine ⟨Ah _,Eq.trans ?_ hq⟩;have e:Aw prog (Aa []) (Aa []) f141 [.agg [.s n,.sl TCd l,.j c],.bx [.s x] 0] []=((some (V.b (n==x),[])):_):=by kernel_rfl
  exact e
 ·cases hq
theorem WN:Af prog 103 (Ent.rd1 Me).F:=by
 refine fcK KnowsL.nil.knows (Λ:=Aa []) func103 fun vs bs r hq=>?_
 unfold Ent.F Me at hq;dsimp only at hq;split at hq
 ·rename_i w p ws v b t x;refine ⟨Ah _,Eq.trans ?_ hq⟩;have e:Aw prog (Aa []) (Aa []) f103 [.agg (Lf w p ws v b t),.bx [.j x] 0] []=((some (V.b (w==x),[])):_):=by kernel_rfl
  exact e
 ·cases hq
theorem O8  (x:By) (l:List (Tp)) (r k i:Int):At prog (Aa [(141,.rd1 KG)]) (Aa [(2,PG)]) 1 (body f140 0) PG ([.sl TPd l,.fn 141 [] [.ptr 0 0],.j r,.j k,.j i],[some (.box [.s x])]) =
 ((ifB (decide (i<k)) (ifT (decide (0<=i)&&decide (i<(↑l.length:Int))) (Ak l[i.toNat]? fun z=>ifB (z.1==x) (some (Ex.ret,[V.j i],[some (Blk.box [V.s
 x])])) (some (Ex.normal,[V.sl TPd l,V.fn 141 [] [V.ptr 0 0],V.j r,V.j k,V.j (i64.wrap (i+1))],[some (Blk.box [V.s
 x])])))) (some (Ex.exit 0,[],[some (Blk.box [V.s x])]))):_):=by kernel_rfl
theorem RH  (x:By) {l:List (Tp)} {r:Int} (hx:l.length<=maxI) : ∀ (j i:Nat),i+j=l.length->∀ e d',(.br (decide (Aq (fun z:Tp=>z.1==x) i (l.drop i)<0)) (.leaf (.exit 0,([],[some (.box [.s x])]))) (.leaf (.ret,([.j (Aq (fun z:Tp=>z.1==x) i (l.drop i))],[some (.box [.s x])]))):Br (Ex×Dt)).run=some (e,d')->
  Runs prog (Aa [(141,.rd1 KG)]) (Aa [(2,PG)]) 1 (body f140 0) PG ([.sl TPd l,.fn 141 [] [.ptr 0 0],.j r,.j (l.length:Int),.j (i:Int)],[some (.box [.s x])]) e d'
 | 0,i,hi,e,d',h=>by
  have e1:l.drop i=[]:=drop_eq_nil_of_le (by omega);rw [e1,Bz,Aq,if_pos (by omega)] at h;cases h;have hr:=O8 x l r l.length i;rw [Ac (dcF (by omega))] at hr;exact stp hr
 | j+1,i,hi,e,d',h=>by
  have h1:i<l.length:=by omega
  have hr:=O8 x l r l.length i;rw [Ae (dcT (by omega)),T2 (by omega)] at hr;simp only [ntN,gtE h1,Ai,Ap (n:=i) (by omega)] at hr;rw [drop_eq_getElem_cons h1,Bz,Aq] at h
  by_cases he:(fun z:Tp=>z.1==x) l[i]=true
  ·rw [if_pos he,if_neg (by omega)] at h;cases h;rw [Ae he] at hr;exact stp hr
  ·rw [if_neg he] at h;rw [Ac (by simpa using he)] at hr;exact sts hr (RH x hx j (i+1) (by omega) e d' (by rw [Bz]; exact h))
theorem Ajd  : As prog (Aa [(141,.rd1 KG)]) (Aa [(2,PG)]) 1 (f140.body.getD .skip):=by
 refine Am (a:=body f140 0) (by kernel_rfl) fun d e d' h=>?_
 unfold PG at h;dsimp only at h;split at h
 ·obtain ⟨hc,h'⟩:=Ad h;obtain ⟨h0,h1,h2,rfl⟩:=of_decide_eq_true hc;obtain ⟨i,rfl⟩:=eq_ofNat_of_zero_le h0;exact RH _  h2 _ i (add_sub_of_le h1) e d' h'
 ·cases h
theorem Aff  (x:By) (l:List (Tp)) (hx:l.length<=maxI):Aw prog (Aa [(141,.rd1 KG)]) (Aa [(2,PG)]) f140 [.sl TPd l,.fn 141 [] [.ptr 0 0]] [.box [.s x]]=some (.j (Aq (fun z:Tp=>z.1==x) 0 l),[some (.box [.s x])]):=by
 have e:Aw prog (Aa [(141,.rd1 KG)]) (Aa [(2,PG)]) f140 [.sl TPd l,.fn 141 [] [.ptr 0 0]] [.box [.s x]] =
  ((ifT (decide ((0:Int)<=(0:Int)/\0<=l.length/\l.length<=maxI/\(↑l.length:Int)=(↑l.length:Int))) (ifB (decide (Aq (fun z=>z.1==x) 0
 (drop 0 l)<(0:Int))) (some (V.j (-1),[some (Blk.box [V.s x])])) (some (V.j (Aq (fun z=>z.1==x) 0 (drop 0 l)),
 [some (Blk.box [V.s x])])))):_):=by kernel_rfl
 rw [e,Ab (dcT ⟨by omega,by omega,hx,rfl⟩)];simp only [Int.toNat_zero,drop_zero]
 by_cases q:Aq (fun z:Tp=>z.1==x) 0 l<0
 ·rw [Ae (dcT q),Ci _ _ _ q]
 ·rw [Ac (dcF q)]
theorem Afe  : Af prog 140 (Ent.own Vd).F:=by
 refine AB (kc func141 Vl KnowsL.nil).knows (Λ:=(Aa [(2,PG)])) func140 (c:=f140.body.getD .skip) (by kernel_rfl) fun vs bs r h hv hb=>?_
 unfold Ent.F Vd at h;dsimp only at h;split at h
 ·rename_i l x;have h':=h;exact ⟨Ajd ,(Aff x l (hv (.sl TPd l) (by simp)).1).trans (by cases h'; rfl)⟩
 ·cases h
theorem O9  (x:Int) (l:List (Fa)) (r k i:Int):At prog (Aa [(103,.rd1 Me)]) (Aa [(2,PH)]) 1 (body f102 0) PH ([.sl FNd l,.fn 103 [] [.ptr 0 0],.j r,.j k,.j i],[some (.box [.j x])]) =
 ((ifB (decide (i<k)) (ifT (decide (0<=i)&&decide (i<(↑l.length:Int))) (Ak l[i.toNat]? fun z=>ifB (z.1==x) (some (Ex.ret,[V.j i],[some (Blk.box [V.i
 .i64 x])])) (some (Ex.normal,[V.sl FNd l,V.fn 103 [] [V.ptr 0 0],V.j r,V.j k,V.j (i64.wrap (i+1))],[some (Blk.box
 [V.j x])])))) (some (Ex.exit 0,[],[some (Blk.box [V.j x])]))):_):=by kernel_rfl
theorem RJ  (x:Int) {l:List (Fa)} {r:Int} (hx:l.length<=maxI) : ∀ (j i:Nat),i+j=l.length->∀ e d',(.br (decide (Aq (fun z:Fa=>z.1==x) i (l.drop i)<0)) (.leaf (.exit 0,([],[some (.box [.j x])]))) (.leaf (.ret,([.j (Aq (fun z:Fa=>z.1==x) i (l.drop i))],[some (.box [.j x])]))):Br (Ex×Dt)).run=some (e,d')->
  Runs prog (Aa [(103,.rd1 Me)]) (Aa [(2,PH)]) 1 (body f102 0) PH ([.sl FNd l,.fn 103 [] [.ptr 0 0],.j r,.j (l.length:Int),.j (i:Int)],[some (.box [.j x])]) e d'
 | 0,i,hi,e,d',h=>by
  have e1:l.drop i=[]:=drop_eq_nil_of_le (by omega);rw [e1,Bz,Aq,if_pos (by omega)] at h;cases h;have hr:=O9 x l r l.length i;rw [Ac (dcF (by omega))] at hr;exact stp hr
 | j+1,i,hi,e,d',h=>by
  have h1:i<l.length:=by omega
  have hr:=O9 x l r l.length i;rw [Ae (dcT (by omega)),T2 (by omega)] at hr;simp only [ntN,gtE h1,Ai,Ap (n:=i) (by omega)] at hr;rw [drop_eq_getElem_cons h1,Bz,Aq] at h
  by_cases he:(fun z:Fa=>z.1==x) l[i]=true
  ·rw [if_pos he,if_neg (by omega)] at h;cases h;rw [Ae he] at hr;exact stp hr
  ·rw [if_neg he] at h;rw [Ac (by simpa using he)] at hr;exact sts hr (RJ x hx j (i+1) (by omega) e d' (by rw [Bz]; exact h))
theorem Ajf  : As prog (Aa [(103,.rd1 Me)]) (Aa [(2,PH)]) 1 (f102.body.getD .skip):=by
 refine Am (a:=body f102 0) (by kernel_rfl) fun d e d' h=>?_
 unfold PH at h;dsimp only at h;split at h
 ·obtain ⟨hc,h'⟩:=Ad h;obtain ⟨h0,h1,h2,rfl⟩:=of_decide_eq_true hc;obtain ⟨i,rfl⟩:=eq_ofNat_of_zero_le h0;exact RJ _  h2 _ i (add_sub_of_le h1) e d' h'
 ·cases h
theorem Afi  (x:Int) (l:List (Fa)) (hx:l.length<=maxI):Aw prog (Aa [(103,.rd1 Me)]) (Aa [(2,PH)]) f102 [.sl FNd l,.fn 103 [] [.ptr 0 0]] [.box [.j x]]=some (.j (Aq (fun z:Fa=>z.1==x) 0 l),[some (.box [.j x])]):=by
 have e:Aw prog (Aa [(103,.rd1 Me)]) (Aa [(2,PH)]) f102 [.sl FNd l,.fn 103 [] [.ptr 0 0]] [.box [.j x]] =
  ((ifT (decide ((0:Int)<=(0:Int)/\0<=l.length/\l.length<=maxI/\(↑l.length:Int)=(↑l.length:Int))) (ifB (decide (Aq (fun z=>z.1==x) 0
 (drop 0 l)<(0:Int))) (some (V.j (-1),[some (Blk.box [V.j x])])) (some (V.j (Aq (fun z=>z.1==x) 0 (drop 0
 l)),[some (Blk.box [V.j x])])))):_):=by kernel_rfl
 rw [e,Ab (dcT ⟨by omega,by omega,hx,rfl⟩)];simp only [Int.toNat_zero,drop_zero]
 by_cases q:Aq (fun z:Fa=>z.1==x) 0 l<0
 ·rw [Ae (dcT q),Ci _ _ _ q]
 ·rw [Ac (dcF q)]
theorem Afh  : Af prog 102 (Ent.own Vg).F:=by
 refine AB (kc func103 WN KnowsL.nil).knows (Λ:=(Aa [(2,PH)])) func102 (c:=f102.body.getD .skip) (by kernel_rfl) fun vs bs r h hv hb=>?_
 unfold Ent.F Vg at h;dsimp only at h;split at h
 ·rename_i l x;have h':=h;exact ⟨Ajf ,(Afi x l (hv (.sl FNd l) (by simp)).1).trans (by cases h'; rfl)⟩
 ·cases h
theorem Tu (ts:List Tp) (fs:List Fa) (x:By):Aw prog (Aa [(140,.own Vd)]) (Aa []) f104 [.bx [.sl TPd ts,.sl FNd fs] 0,.s x] []=some (.j (atT ts x),[]):=by
 have e:Aw prog (Aa [(140,.own Vd)]) (Aa []) f104 [.bx [.sl TPd ts,.sl FNd fs] 0,.s x] []=((some (V.j (Aq (fun z=>z.1==x) 0 ts),[])):_):=by kernel_rfl
 exact e
theorem Tv:Af prog 104 (Ent.rd1 KF).F:=by
 refine fcK (kc func140 Afe KnowsL.nil).knows (Λ:=Aa []) func104 fun vs bs r hq=>?_
 unfold Ent.F KF at hq;dsimp only at hq;split at hq
 ·exact ⟨Ah _,(Tu _ _ _).trans hq⟩
 ·cases hq
theorem ZW (ts:List Tp) (fs:List Fa) (x:Int):Aw prog (Aa [(102,.own Vg)]) (Aa []) f65 [.bx [.sl TPd ts,.sl FNd fs] 0,.j x] []=some (.j (atW fs x),[]):=by
 have e:Aw prog (Aa [(102,.own Vg)]) (Aa []) f65 [.bx [.sl TPd ts,.sl FNd fs] 0,.j x] []=((some (V.j (Aq (fun z=>z.1==x) 0 fs),[])):_):=by kernel_rfl
 exact e
theorem Akz:Af prog 65 (Ent.rd1 Aet).F:=by
 refine fcK (kc func102 Afh KnowsL.nil).knows (Λ:=Aa []) func65 fun vs bs r hq=>?_
 unfold Ent.F Aet at hq;dsimp only at hq;split at hq
 ·exact ⟨Ah _,(ZW _ _ _).trans hq⟩
 ·cases hq
theorem Nz (x:By) (l:List Tp) (k i:Int):At prog (Aa []) (Aa [(2,Qq)]) 0 (body f77 0) Qq ([.s x,.sl TPd l,.j k,.j i],[]) =
 ((ifB (decide (i<k)) (ifT (decide (0<=i)&&decide (i<(↑l.length:Int))) (Ak l[i.toNat]? fun z=>ifB (z.1==x) (some (Ex.ret,[V.j i],[])) (some
 (Ex.normal,[V.s x,V.sl TPd l,V.j k,V.j (i64.wrap (i+1))],[])))) (some (Ex.exit 0,[],[]))):_):=by kernel_rfl
theorem YD (ts:List Tp) (fs:List Fa) (x:By):Aw prog (Aa []) (Aa [(2,Qq)]) f77 [.agg [.sl TPd ts,.sl FNd fs],.s x] [] =
 ((ifT (decide ((0:Int)<=(0:Int)/\0<=ts.length/\(↑ts.length:Int)=(↑ts.length:Int)/\ts.length<=maxI)) (ifB (decide (Aq (fun t=>t.1==x) (0 :
 Nat) (drop 0 ts)<(0:Int))) (some (V.j (-1),[])) (some (V.j (Aq (fun t=>t.1==x) 0 (drop 0 ts)),[])))):_):=by kernel_rfl
theorem Qp (x:By) (l:List Tp) (hl:l.length<=maxI) : ∀ (j i:Nat),i+j=l.length->∀ ex d,(Br.br (decide (Aq (fun t:Tp=>t.1==x) i (l.drop i)<0)) (.leaf (.exit 0,([],[]))) (.leaf (.ret,([.j (Aq (fun t:Tp=>t.1==x) i (l.drop i))],[]))):Br (Ex×Dt)).run=some (ex,d)->Runs prog (Aa []) (Aa [(2,Qq)]) 0 (body f77 0) Qq ([.s x,.sl TPd l,.j (l.length:Int),.j (i:Int)],[]) ex d
 | 0,i,hi,ex,d,h=>by
  have hr:=Nz x l l.length i;rw [Ac (dcF (by omega))] at hr;rw [drop_eq_nil_of_le (by omega),Aq,GN (dcT (by omega))] at h;obtain ⟨rfl,rfl⟩:=lfP h;exact stp hr
 | j+1,i,hi,ex,d,h=>by
  have hM:=mxI;have hlt:i<l.length:=by omega
  have hr:=Nz x l l.length i;rw [Ae (dcT (by omega)),T2 (by omega),ntN,gtE hlt,Ai,Ap (n:=i) (by omega)] at hr;rw [drop_eq_getElem_cons hlt,Aq] at h
  by_cases q:(l[i].1==x)=true
  ·rw [if_pos q,Hz (dcF (by omega))] at h;rw [Ae q] at hr;obtain ⟨rfl,rfl⟩:=lfP h;exact stp hr
  ·rw [if_neg q] at h;rw [Ac (by simpa using q)] at hr;exact sts hr (Qp x l hl j (i+1) (by omega) ex d h)
theorem Ag5:As prog (Aa []) (Aa [(2,Qq)]) 0 (f77.body.getD .skip):=by
 refine Am (a:=body f77 0) (by kernel_rfl) fun d ex d' h=>?_
 unfold Qq at h;dsimp only at h;split at h
 ·rename_i x l k i;obtain ⟨hc,hx⟩:=Ad h;obtain ⟨h0,h1,rfl,h2⟩:=of_decide_eq_true hc;obtain ⟨i,rfl⟩:=eq_ofNat_of_zero_le h0;simp only [ntN] at h1 hx;exact Qp x l h2 (l.length-i) i (by omega) ex d' hx
 ·cases h
theorem sat:Af prog 77 (Ent.rd1 YE).F:=by
 refine AB KnowsL.nil.knows (Λ:=(Aa [(2,Qq)])) func77 (c:=f77.body.getD .skip) (by kernel_rfl) fun vs bs r hq hv hb=>?_
 unfold Ent.F YE at hq;dsimp only at hq;split at hq
 ·rename_i ts fs x;have hm:ts.length<=maxI:=(hv (.agg [.sl TPd ts,.sl FNd fs]) (by simp) (.sl TPd ts) (by simp)).1;refine ⟨Ag5,(YD ts fs x).trans (Eq.trans ?_ hq)⟩;show _=some (V.j (atT ts x),[]);rw [Ab (dcT ⟨by omega,by omega,rfl,hm⟩),drop_zero];unfold atT
  by_cases q:Aq (fun t:Tp=>t.1==x) 0 ts<0
  ·rw [Ae (dcT q),Ci _ _ _ q]
  ·rw [Ac (dcF q)]
 ·cases hq
theorem KW (x:Int) (l:List Fa) (k i:Int):At prog (Aa []) (Aa [(2,J2)]) 0 (body f62 0) J2 ([.j x,.sl FNd l,.j k,.j i],[]) =
 ((ifB (decide (i<k)) (ifT (decide (0<=i)&&decide (i<(↑l.length:Int))) (Ak l[i.toNat]? fun z=>ifB (z.1==x) (some (Ex.ret,[V.j i],[])) (some
 (Ex.normal,[V.j x,V.sl FNd l,V.j k,V.j (i64.wrap (i+1))],[])))) (some (Ex.exit 0,[],[]))):_):=by kernel_rfl
theorem V7 (ts:List Tp) (fs:List Fa) (x:Int):Aw prog (Aa []) (Aa [(2,J2)]) f62 [.agg [.sl TPd ts,.sl FNd fs],.j x] [] =
 ((ifT (decide ((0:Int)<=(0:Int)/\0<=fs.length/\(↑fs.length:Int)=(↑fs.length:Int)/\fs.length<=maxI)) (ifB (decide (Aq (fun f=>f.1==x) (0 :
 Nat) (drop 0 fs)<(0:Int))) (some (V.j (-1),[])) (some (V.j (Aq (fun f=>f.1==x) 0 (drop 0 fs)),[])))):_):=by kernel_rfl
theorem Np (x:Int) (l:List Fa) (hl:l.length<=maxI) : ∀ (j i:Nat),i+j=l.length->∀ ex d,(Br.br (decide (Aq (fun f:Fa=>f.1==x) i (l.drop i)<0)) (.leaf (.exit 0,([],[]))) (.leaf (.ret,([.j (Aq (fun f:Fa=>f.1==x) i (l.drop i))],[]))):Br (Ex×Dt)).run=some (ex,d)->Runs prog (Aa []) (Aa [(2,J2)]) 0 (body f62 0) J2 ([.j x,.sl FNd l,.j (l.length:Int),.j (i:Int)],[]) ex d
 | 0,i,hi,ex,d,h=>by
  have hr:=KW x l l.length i;rw [Ac (dcF (by omega))] at hr;rw [drop_eq_nil_of_le (by omega),Aq,GN (dcT (by omega))] at h;obtain ⟨rfl,rfl⟩:=lfP h;exact stp hr
 | j+1,i,hi,ex,d,h=>by
  have hM:=mxI;have hlt:i<l.length:=by omega
  have hr:=KW x l l.length i;rw [Ae (dcT (by omega)),T2 (by omega),ntN,gtE hlt,Ai,Ap (n:=i) (by omega)] at hr;rw [drop_eq_getElem_cons hlt,Aq] at h
  by_cases q:(l[i].1==x)=true
  ·rw [if_pos q,Hz (dcF (by omega))] at h;rw [Ae q] at hr;obtain ⟨rfl,rfl⟩:=lfP h;exact stp hr
  ·rw [if_neg q] at h;rw [Ac (by simpa using q)] at hr;exact sts hr (Np x l hl j (i+1) (by omega) ex d h)
theorem Ab9:As prog (Aa []) (Aa [(2,J2)]) 0 (f62.body.getD .skip):=by
 refine Am (a:=body f62 0) (by kernel_rfl) fun d ex d' h=>?_
 unfold J2 at h;dsimp only at h;split at h
 ·rename_i x l k i;obtain ⟨hc,hx⟩:=Ad h;obtain ⟨h0,h1,rfl,h2⟩:=of_decide_eq_true hc;obtain ⟨i,rfl⟩:=eq_ofNat_of_zero_le h0;simp only [ntN] at h1 hx;exact Np x l h2 (l.length-i) i (by omega) ex d' hx
 ·cases h
theorem Alo:Af prog 62 (Ent.rd1 Yo).F:=by
 refine AB KnowsL.nil.knows (Λ:=(Aa [(2,J2)])) func62 (c:=f62.body.getD .skip) (by kernel_rfl) fun vs bs r hq hv hb=>?_
 unfold Ent.F Yo at hq;dsimp only at hq;split at hq
 ·rename_i ts fs x;have hm:fs.length<=maxI:=(hv (.agg [.sl TPd ts,.sl FNd fs]) (by simp) (.sl FNd fs) (by simp)).1;refine ⟨Ab9,(V7 ts fs x).trans (Eq.trans ?_ hq)⟩;show _=some (V.j (atW fs x),[]);rw [Ab (dcT ⟨by omega,by omega,rfl,hm⟩),drop_zero];unfold atW
  by_cases q:Aq (fun f:Fa=>f.1==x) 0 fs<0
  ·rw [Ae (dcT q),Ci _ _ _ q]
  ·rw [Ac (dcF q)]
 ·cases hq
def D2 (kd nm:Int) (tx:By) (fk fn:Int) (fd:By):Bool:=
 bif kd==1 then fk==0&&fn==nm else bif kd==2 then fk==0&&decide (fn<nm) else bif kd==3 then fk==0&&decide (fn>nm) else bif kd==5 then !(fk==0)&&(decide (tx.length<=fd.length)&&fd.take tx.length==tx) else true
def FP (s p:By):Bool:=decide (p.length<=s.length)&&s.take p.length==p
def JK:Gm
 | [.s s,.s p],[]=>.leaf (.b (FP s p),[])
 | _,_=>.no
def ZV:Gm
 | [.agg [.j fo,.j fk,.j fn,.s fd],.j kd,.j nm,.s tx],[]=>.leaf (.b (D2 kd nm tx fk fn fd),[])
 | _,_=>.no
def soC:Gm
 | [.agg [.j fo,.j fk,.j fn,.s fd,.j _fr],.bx (Lw w0 w1 w2 w3 _w4 _w5) 0],[]=>.leaf (.b (fo==w1&&D2 w0 w2 w3 fk fn fd),[])
 | _,_=>.no
def ON  : LoopEnt:=⟨19,[0,1,4,7,8],[],[4],fun
 | ([.sl PCd l,.fn 190 [] [.ptr 0 0],.j r,.j k,.j i],[some (.box (Lw w0 w1 w2 w3 w4 w5))])=>
  .need (decide (0<=i/\i.toNat<=l.length/\l.length<=maxI/\k=l.length)) (.br (decide (Aq (fun z:Pl=>(z.1.1==w1&&D2 w0 w2 w3 z.1.2.1 z.1.2.2.1 z.1.2.2.2.1)) i.toNat (l.drop i.toNat)<0)) (.leaf (.exit 0,([],[some (.box (Lw w0 w1 w2 w3 w4 w5))]))) (.leaf (.ret,([.j (Aq (fun z:Pl=>(z.1.1==w1&&D2 w0 w2 w3 z.1.2.1 z.1.2.2.1 z.1.2.2.2.1)) i.toNat (l.drop i.toNat))],[some (.box (Lw w0 w1 w2 w3 w4 w5))]))))
 | _=>.no⟩
def Uq  : Gm
 | [.sl PCd l,.fn 190 [] [.ptr 0 0]],[.box (Lw w0 w1 w2 w3 w4 w5)]=>.leaf (.j (Aq (fun z:Pl=>(z.1.1==w1&&D2 w0 w2 w3 z.1.2.1 z.1.2.2.1 z.1.2.2.2.1)) 0 l),[some (.box (Lw w0 w1 w2 w3 w4 w5))])
 | _,_=>.no
def Ys  : Gm
 | [.sl PCd l,.fn 190 [] [.ptr 0 0]],[.box (Lw w0 w1 w2 w3 w4 w5)]=>.leaf (.b (l.any (fun z:Pl=>(z.1.1==w1&&D2 w0 w2 w3 z.1.2.1 z.1.2.2.1 z.1.2.2.2.1))),[some (.box (Lw w0 w1 w2 w3 w4 w5))])
 | _,_=>.no
theorem WH (s p:By):Aw prog (Aa []) (Aa []) f232 [.s s,.s p] []=some (.b (FP s p),[]):=by
 have e:Aw prog (Aa []) (Aa []) f232 [.s s,.s p] []=((ifB (decide ((↑s.length:Int)>=(↑p.length:Int))) (ifT (decide (0<=(↑p.length:Int))&&decide ((↑p.length:Int)<=(↑s.length:Int))) (some (V.b (take
 ((↑p.length:Int).toNat-0) (drop 0 s)==p),[]))) nF):_):=by kernel_rfl
 rw [e];clear e
 by_cases h:p.length<=s.length
 ·unfold FP;rw [Ae (dcT (by omega)),T2 (by omega),dcT h,ntN,Nat.sub_zero,drop_zero,Bool.true_and]
 ·unfold FP;rw [Ac (dcF (by omega)),dcF h,Bool.false_and]
theorem Ak3:Af prog 232 (Ent.rd1 JK).F:=by
 refine fcK KnowsL.nil.knows (Λ:=Aa []) func232 fun vs bs r' hq=>?_
 unfold Ent.F JK at hq;dsimp only at hq;split at hq
 ·exact ⟨Ah _,(WH _ _ ).trans hq⟩
 ·cases hq
theorem ZX (s p:By):Aw prog (Aa [(232,.rd1 JK)]) (Aa []) f223 [.s s,.s p] []=some (.b (FP s p),[]):=by
 have e:Aw prog (Aa [(232,.rd1 JK)]) (Aa []) f223 [.s s,.s p] []=((some (V.b (FP s p),[])):_):=by kernel_rfl
 exact e
theorem Aef:Af prog 223 (Ent.rd1 JK).F:=by
 refine fcK (kc func232 Ak3 KnowsL.nil).knows (Λ:=Aa []) func223 fun vs bs r' hq=>?_
 unfold Ent.F JK at hq;dsimp only at hq;split at hq
 ·exact ⟨Ah _,(ZX _ _ ).trans hq⟩
 ·cases hq
theorem ZU (fo fk fn:Int) (fd:By) (kd nm:Int) (tx:By):Aw prog (Aa [(223,.rd1 JK)]) (Aa []) f191 [.agg [.j fo,.j fk,.j fn,.s fd],.j kd,.j nm,.s tx] []=some (.b (D2 kd nm tx fk fn fd),[]):=by
 have e:Aw prog (Aa [(223,.rd1 JK)]) (Aa []) f191 [.agg [.j fo,.j fk,.j fn,.s fd],.j kd,.j nm,.s tx] []=((ifB (kd==1) (ifB (fk==0) (some (V.b (fn==nm),[])) nF) (ifB (kd==2) (ifB (fk==0) (some (V.b (decide (fn<nm)),[])) nF)
 (ifB (kd==3) (ifB (fk==0) (some (V.b (decide (fn>nm)),[])) nF) (ifB (kd==5) (ifB (!fk==0) (some (V.b (FP fd tx),[])) nF) (some (V.b true,[])))))):_):=by kernel_rfl
 rw [e];clear e;unfold D2 FP;cases kd==1<;>cases kd==2<;>cases kd==3<;>cases kd==5<;>cases fk==0<;>simp [ifB]
theorem Al0:Af prog 191 (Ent.rd1 ZV).F:=by
 refine fcK (kc func223 Aef KnowsL.nil).knows (Λ:=Aa []) func191 fun vs bs r' hq=>?_
 unfold Ent.F ZV at hq;dsimp only at hq;split at hq
 ·exact ⟨Ah _,(ZU _ _ _ _ _ _ _ ).trans hq⟩
 ·cases hq
theorem Ack:Af prog 190 (Ent.rd1 soC).F:=by
 refine fcK (kc func191 Al0 KnowsL.nil).knows (Λ:=Aa []) func190 fun vs bs r hq=>?_
 unfold Ent.F soC at hq;dsimp only at hq;split at hq
 ·rename_i fo fk fn fd fr w0 w1 w2 w3 w4 w5;refine ⟨Ah _,Eq.trans ?_ hq⟩;have e:Aw prog (Aa [(191,.rd1 ZV)]) (Aa []) f190 [.agg [.j fo,.j fk,.j fn,.s fd,.j fr],.bx (Lw w0 w1 w2 w3 w4 w5) 0] []=((ifB (fo==w1) (some (V.b (D2 w0 w2 w3 fk fn fd),[])) nF):_):=by kernel_rfl
  rw [e];cases fo==w1<;>rfl
 ·cases hq
theorem Nr  (w0 w1 w2:Int) (w3:By) (w4 w5:Int) (l:List (Pl)) (r k i:Int):At prog (Aa [(190,.rd1 soC)]) (Aa [(2,ON)]) 1 (body f181 0) ON ([.sl PCd l,.fn 190 [] [.ptr 0 0],.j r,.j k,.j i],[some (.box (Lw w0 w1 w2 w3 w4 w5))]) =
 ((ifB (decide (i<k)) (ifT (decide (0<=i)&&decide (i<(↑l.length:Int))) (Ak l[i.toNat]? fun z=>ifB (z.1.1==w1&&D2 w0 w2 w3 z.1.2.1
 z.1.2.2.1 z.1.2.2.2.1) (some (Ex.ret,[V.j i],[some (Blk.box (Lw w0 w1 w2 w3 w4 w5))])) (some
 (Ex.normal,[V.sl PCd l,V.fn 190 [] [V.ptr 0 0],V.j r,V.j k,V.j (i64.wrap (i+1))],[some (Blk.box (Lw w0 w1 w2 w3 w4 w5))])))) (some (Ex.exit 0,[],[some (Blk.box (Lw w0 w1 w2 w3 w4 w5))]))):_):=by kernel_rfl
theorem Qj  (w0 w1 w2:Int) (w3:By) (w4 w5:Int) {l:List (Pl)} {r:Int} (hx:l.length<=maxI) : ∀ (j i:Nat),i+j=l.length->∀ e d',(.br (decide (Aq (fun z:Pl=>(z.1.1==w1&&D2 w0 w2 w3 z.1.2.1 z.1.2.2.1 z.1.2.2.2.1)) i (l.drop i)<0)) (.leaf (.exit 0,([],[some (.box (Lw w0 w1 w2 w3 w4 w5))]))) (.leaf (.ret,([.j (Aq (fun z:Pl=>(z.1.1==w1&&D2 w0 w2 w3 z.1.2.1 z.1.2.2.1 z.1.2.2.2.1)) i (l.drop i))],[some (.box (Lw w0 w1 w2 w3 w4 w5))]))):Br (Ex×Dt)).run=some (e,d')->
  Runs prog (Aa [(190,.rd1 soC)]) (Aa [(2,ON)]) 1 (body f181 0) ON ([.sl PCd l,.fn 190 [] [.ptr 0 0],.j r,.j (l.length:Int),.j (i:Int)],[some (.box (Lw w0 w1 w2 w3 w4 w5))]) e d'
 | 0,i,hi,e,d',h=>by
  have e1:l.drop i=[]:=drop_eq_nil_of_le (by omega);rw [e1,Bz,Aq,if_pos (by omega)] at h;cases h;have hr:=Nr w0 w1 w2 w3 w4 w5 l r l.length i;rw [Ac (dcF (by omega))] at hr;exact stp hr
 | j+1,i,hi,e,d',h=>by
  have h1:i<l.length:=by omega
  have hr:=Nr w0 w1 w2 w3 w4 w5 l r l.length i;rw [Ae (dcT (by omega)),T2 (by omega)] at hr;simp only [ntN,gtE h1,Ai,Ap (n:=i) (by omega)] at hr;rw [drop_eq_getElem_cons h1,Bz,Aq] at h
  by_cases he:(fun z:Pl=>(z.1.1==w1&&D2 w0 w2 w3 z.1.2.1 z.1.2.2.1 z.1.2.2.2.1)) l[i]=true
  ·rw [if_pos he,if_neg (by omega)] at h;cases h;rw [Ae he] at hr;exact stp hr
  ·rw [if_neg he] at h;rw [Ac (by simpa using he)] at hr;exact sts hr (Qj w0 w1 w2 w3 w4 w5 hx j (i+1) (by omega) e d' (by rw [Bz]; exact h))
theorem Agp  : As prog (Aa [(190,.rd1 soC)]) (Aa [(2,ON)]) 1 (f181.body.getD .skip):=by
 refine Am (a:=body f181 0) (by kernel_rfl) fun d e d' h=>?_
 unfold ON at h;dsimp only at h;split at h
 ·obtain ⟨hc,h'⟩:=Ad h;obtain ⟨h0,h1,h2,rfl⟩:=of_decide_eq_true hc;obtain ⟨i,rfl⟩:=eq_ofNat_of_zero_le h0;exact Qj _ _ _ _ _ _  h2 _ i (add_sub_of_le h1) e d' h'
 ·cases h
theorem Aci  (w0 w1 w2:Int) (w3:By) (w4 w5:Int) (l:List (Pl)) (hx:l.length<=maxI):Aw prog (Aa [(190,.rd1 soC)]) (Aa [(2,ON)]) f181 [.sl PCd l,.fn 190 [] [.ptr 0 0]] [.box (Lw w0 w1 w2 w3 w4 w5)]=some (.j (Aq (fun z:Pl=>(z.1.1==w1&&D2 w0 w2 w3 z.1.2.1 z.1.2.2.1 z.1.2.2.2.1)) 0 l),[some (.box (Lw w0 w1 w2 w3 w4 w5))]):=by
 have e:Aw prog (Aa [(190,.rd1 soC)]) (Aa [(2,ON)]) f181 [.sl PCd l,.fn 190 [] [.ptr 0 0]] [.box (Lw w0 w1 w2 w3 w4 w5)] =
  ((ifT (decide ((0:Int)<=(0:Int)/\0<=l.length/\l.length<=maxI/\(↑l.length:Int)=(↑l.length:Int))) (ifB (decide (Aq (fun z=>z.1.1==w1&&
 D2 w0 w2 w3 z.1.2.1 z.1.2.2.1 z.1.2.2.2.1) 0 (drop 0 l)<(0:Int))) (some (V.j (-1),[some (Blk.box (Lw w0 w1 w2 w3 w4 w5))])) (some (V.j (Aq (fun z=>z.1.1==w1&&D2 w0 w2 w3 z.1.2.1 z.1.2.2.1
 z.1.2.2.2.1) 0 (drop 0 l)),[some (Blk.box (Lw w0 w1 w2 w3 w4 w5))])))):_):=by kernel_rfl
 rw [e,Ab (dcT ⟨by omega,by omega,hx,rfl⟩)];simp only [Int.toNat_zero,drop_zero]
 by_cases q:Aq (fun z:Pl=>(z.1.1==w1&&D2 w0 w2 w3 z.1.2.1 z.1.2.2.1 z.1.2.2.2.1)) 0 l<0
 ·rw [Ae (dcT q),Ci _ _ _ q]
 ·rw [Ac (dcF q)]
theorem Acg  : Af prog 181 (Ent.own Uq).F:=by
 refine AB (kc func190 Ack KnowsL.nil).knows (Λ:=(Aa [(2,ON)])) func181 (c:=f181.body.getD .skip) (by kernel_rfl) fun vs bs r h hv hb=>?_
 unfold Ent.F Uq at h;dsimp only at h;split at h
 ·rename_i l w0 w1 w2 w3 w4 w5;have h':=h;exact ⟨Agp ,(Aci w0 w1 w2 w3 w4 w5 l (hv (.sl PCd l) (by simp)).1).trans (by cases h'; rfl)⟩
 ·cases h
theorem Yt  (w0 w1 w2:Int) (w3:By) (w4 w5:Int) (l:List (Pl)):Aw prog (Aa [(181,.own Uq)]) (Aa []) f189 [.sl PCd l,.fn 190 [] [.ptr 0 0]] [.box (Lw w0 w1 w2 w3 w4 w5)]=some (.b (l.any (fun z:Pl=>(z.1.1==w1&&D2 w0 w2 w3 z.1.2.1 z.1.2.2.1 z.1.2.2.2.1))),[some (.box (Lw w0 w1 w2 w3 w4 w5))]):=by
 have e:Aw prog (Aa [(181,.own Uq)]) (Aa []) f189 [.sl PCd l,.fn 190 [] [.ptr 0 0]] [.box (Lw w0 w1 w2 w3 w4 w5)] =
  ((some (V.b (decide (Aq (fun z=>z.1.1==w1&&D2 w0 w2 w3 z.1.2.1 z.1.2.2.1 z.1.2.2.2.1) 0 l>=(0:Int))),[some (Blk.box [V.i
 .i64 w0,V.j w1,V.j w2,V.s w3,V.j w4,V.j w5])])):_):=by kernel_rfl
 rw [e]
 skip
 rw [Fo]
theorem Ach  : Af prog 189 (Ent.own Ys).F:=by
 refine fcK (kc func181 (Acg ) KnowsL.nil).knows (Λ:=Aa []) func189 fun vs bs r h=>?_
 unfold Ent.F Ys at h;dsimp only at h;split at h
 ·rename_i l w0 w1 w2 w3 w4 w5;have h':=h;exact ⟨Ah _,(Yt w0 w1 w2 w3 w4 w5 l).trans (by cases h'; rfl)⟩
 ·cases h
def soR (ws:List Wt) (q:Wt->Bool):Nat->Int->Bool
 | 0,_=>false
 | n+1,k=>match ws[k.toNat]? with
  | some w=>bif w.1==6 then soR ws q n w.2.2.2.2.1&&soR ws q n w.2.2.2.2.2.1 else bif w.1==7 then soR ws q n w.2.2.2.2.1||soR ws q n w.2.2.2.2.2.1 else bif w.1==8 then !soR ws q n w.2.2.2.2.1 else q w
  | none=>false
def SI (w:Wt) (i:Int):Bool:=bif w.1==6||w.1==7 then decide (0<=w.2.2.2.2.1/\w.2.2.2.2.1<i/\0<=w.2.2.2.2.2.1/\w.2.2.2.2.2.1<i) else bif w.1==8 then decide (0<=w.2.2.2.2.1/\w.2.2.2.2.1<i) else true
def CZ (ws:List Wt):Bool:=(range ws.length).all fun i=>match ws[i]? with | some w=>SI w i | none=>true
def soq (l:List Pl) (w:Wt):Bool:=l.any fun z=>z.1.1==w.2.1&&D2 w.1 w.2.2.1 w.2.2.2.1 z.1.2.1 z.1.2.2.1 z.1.2.2.2.1
def soN (n:Nat):Gm
 | [.bx [.sl WCd ws] 0,.j k,.sl PCd l],[]=>.need (CZ ws&&decide (0<=k/\k.toNat<n/\k.toNat<ws.length)) (.leaf (.b (soR ws (soq l) n k),[]))
 | _,_=>.no
def soG:Gm
 | [.bx [.sl WCd ws] 0,.j k,.sl PCd l],[]=>.need (CZ ws&&decide (0<=k/\k.toNat<ws.length)) (.leaf (.b (soR ws (soq l) (k.toNat+1) k),[]))
 | _,_=>.no
theorem Acj (n:Nat) (ws:List Wt) (k:Int) (l:List Pl):BI prog (Aa [(151,.rd1 (soN n)),(189,.own Ys)]) (Aa []) f151 [.bx [.sl WCd ws] 0,.j k,.sl PCd l] [] =
 ((ifT (decide (0<=k)&&decide (k<(↑ws.length:Int))) (Ak ws[k.toNat]? fun z=>ifB (z.1==(6:Int)) (ifT (CZ ws&&decide ((0:Int)<=z.2.2.2.2.1/\
 toNat z.2.2.2.2.1<n/\toNat z.2.2.2.2.1<ws.length)) (ifB (soR ws (soq l) n z.2.2.2.2.1) (ifT (CZ ws&&decide ((0:Int)<=
 z.2.2.2.2.2.1/\toNat z.2.2.2.2.2.1<n/\toNat z.2.2.2.2.2.1<ws.length)) (some (V.b (soR ws (soq l) n
 z.2.2.2.2.2.1),[]))) nF)) (ifB (z.1==(7:Int)) (ifT (CZ ws&&decide ((0:Int)<=z.2.2.2.2.1/\toNat
 z.2.2.2.2.1<n/\toNat z.2.2.2.2.1<ws.length)) (ifB (soR ws (soq l) n z.2.2.2.2.1) (some (V.b true,[])) (ifT (CZ ws&&decide ((0
 : Int)<=z.2.2.2.2.2.1/\toNat z.2.2.2.2.2.1<n/\toNat z.2.2.2.2.2.1<ws.length)) (some (V.b (soR ws (soq l) n
 z.2.2.2.2.2.1),[]))))) (ifB (z.1==(8:Int)) (ifT (CZ ws&&decide ((0:Int)<=z.2.2.2.2.1/\toNat z.2.2.2.2.1<n/\toNat
 z.2.2.2.2.1<ws.length)) (some (V.b !soR ws (soq l) n z.2.2.2.2.1,[]))) (some (V.b (l.any fun z_1=>z_1.1.1==z.2.1&&D2 z.1
 z.2.2.1 z.2.2.2.1 z_1.1.2.1 z_1.1.2.2.1 z_1.1.2.2.2.1),[])))))):_):=by kernel_rfl
theorem Uu {ws:List Wt} (h:CZ ws=true) {i:Nat} (hi:i<ws.length):SI ws[i] i=true:=by
 unfold CZ at h;have:=all_eq_true.1 h i (mem_range.2 hi);rw [gtE hi] at this;exact this
theorem Af0 (ws:List Wt) (q:Wt->Bool) (n:Nat) (k:Int) {z:Wt} (h:ws[k.toNat]? = some z):soR ws q (n+1) k=(bif z.1==6 then soR ws q n z.2.2.2.2.1&&soR ws q n z.2.2.2.2.2.1 else bif z.1==7 then soR ws q n z.2.2.2.2.1||soR ws q n z.2.2.2.2.2.1 else bif z.1==8 then !soR ws q n z.2.2.2.2.1 else q z):=by rw [soR,h]
theorem Agr : ∀ n,(∀ m,m<n->Af prog 151 (Ent.rd1 (soN m)).F)->Af prog 151 (Ent.rd1 (soN n)).F
 | 0,_=>AW fun vs bs=>by
  unfold Ent.F soN;dsimp only;split
  ·rename_i ws k l;have:(CZ ws&&decide (0<=k/\k.toNat<0/\k.toNat<ws.length))=false:=by rw [Bool.and_eq_false_iff]; exact .inr (dcF (by omega))
   rw [this]; rfl
  ·rfl
 | n+1,ihs=>by
  have ih:=ihs n (lt_succ_self n);refine fcC (kc func151 ih (kc func189 Ach KnowsL.nil)).knows (Λ:=Aa []) func151 fun vs bs r hq=>?_
  unfold Ent.F soN at hq;dsimp only at hq;split at hq
  ·rename_i ws k l;obtain ⟨hc,hx⟩:=Ad hq;rw [anE] at hc;obtain ⟨hr,hc⟩:=hc;obtain ⟨h0,h1,h2⟩:=of_decide_eq_true hc;refine ⟨Ah _,(Acj n ws k l).trans (Eq.trans ?_ hx)⟩
   try dsimp only [shr]
   have hz:=Uu hr h2;rw [T2 (by omega)];rw [Af0 ws (soq l) n k (gtE h2),gtE h2,Ai];generalize ws[k.toNat]=z at hz ⊢;unfold SI at hz;rw [hr];cases q6:z.1==6
   ·cases q7:z.1==7
    ·cases q8:z.1==8
     ·rfl
     ·rw [q6,q7,q8] at hz;have hz:=of_decide_eq_true hz;rw [A6,A6,AR,Ab (show (true&&decide _)=true from dcT ⟨by omega,by omega,by omega⟩)];rfl
    ·rw [q6,q7] at hz;have hz:=of_decide_eq_true hz;rw [A6,AR,Ab (show (true&&decide _)=true from dcT ⟨by omega,by omega,by omega⟩),Ab (show (true&&decide _)=true from dcT ⟨by omega,by omega,by omega⟩)];cases soR ws (soq l) n z.2.2.2.2.1<;>rfl
   ·rw [q6] at hz;have hz:=of_decide_eq_true hz;rw [AR,Ab (show (true&&decide _)=true from dcT ⟨by omega,by omega,by omega⟩),Ab (show (true&&decide _)=true from dcT ⟨by omega,by omega,by omega⟩)];cases soR ws (soq l) n z.2.2.2.2.1<;>rfl
  ·cases hq
theorem Agq:Af prog 151 (Ent.rd1 soG).F:=by
 refine Bd (F:=fun n=>(Ent.rd1 (soN n)).F) Agr fun vs bs r h=>?_
 unfold Ent.F soG at h;dsimp only at h;split at h
 ·rename_i ws k l;obtain ⟨hc,hx⟩:=Ad h;refine ⟨k.toNat+1,?_⟩;show (Br.need (CZ ws&&decide (0<=k/\k.toNat<k.toNat+1/\k.toNat<ws.length)) (.leaf (.b (soR ws (soq l) (k.toNat+1) k),[]))).run=some r;rw [anE,dcE] at hc;have:(CZ ws&&decide (0<=k/\k.toNat<k.toNat+1/\k.toNat<ws.length))=true:=by rw [anE,dcE]; exact ⟨hc.1,hc.2.1,lt_succ_self _,hc.2.2⟩
  rw [this];exact hx
 ·cases h
def siV (l:List WFd) (w:Wt):Bool:=match l.find? (fun x=>x.1==w.2.1) with
 | some x=>D2 w.1 w.2.2.1 w.2.2.2.1 x.2.1 x.2.2.1 x.2.2.2.1
 | none=>false
def Ns (l:List WFd) (no:Int):Bool:=l.any fun x=>x.1==no
def siN (n:Nat):Gm
 | [.agg [.sl WCd ws],.j k,.sl FCd l],[]=>.need (CZ ws&&decide (0<=k/\k.toNat<n/\k.toNat<ws.length)) (.leaf (.b (soR ws (siV l) n k),[]))
 | _,_=>.no
def siE:LoopEnt:=⟨125,[7,54,55,56],[],[6],fun
 | ([.ptr 0 0,.sl FCd l,.j m,.j i],[bw])=>(match bw with | some (.box (Lw w0 w1 w2 w3 w4 w5))=>.need (decide (0<=i/\i.toNat<=l.length/\m=l.length/\l.length<=maxI)) (.br (Ns (l.drop i.toNat) w1) (.leaf (.ret,([.b (siV (l.drop i.toNat) (w0,w1,w2,w3,w4,w5,()))],[]))) (.leaf (.exit 1,([],[])))) | _=>.no)
 | _=>.no⟩
def siG:Gm
 | [.agg [.sl WCd ws],.j k,.sl FCd l],[]=>.need (CZ ws&&decide (0<=k/\k.toNat<ws.length)) (.leaf (.b (soR ws (siV l) (k.toNat+1) k),[]))
 | _,_=>.no
theorem Ql (n:Nat) (w0 w1 w2:Int) (w3:By) (w4 w5:Int) (l:List WFd) (m i:Int):At prog (Aa [(137,.rd1 (siN n))]) (Aa [(10,siE)]) 0 (body f137 0) siE ([.ptr 0 0,.sl FCd l,.j m,.j i],[some (.box (Lw w0 w1 w2 w3 w4 w5))]) =
 ((ifB (decide (i<m)) (ifT (decide (0<=i)&&decide (i<(↑l.length:Int))) (Ak l[i.toNat]? fun z=>ifB (z.1 != w1) (some (Ex.normal,[V.ptr 0 0,V.sl FCd l,V.i
 .i64 m,V.j (i64.wrap (i+1))],[some (Blk.box (Lw w0 w1 w2 w3 w4 w5))])) (ifB (w0==1) (ifB (z.2.1
 == (0:Int)) (some (Ex.ret,[V.b (z.2.2.1==w2)],[])) rF) (ifB (w0==2) (ifB (z.2.1==(0:Int)) (some (Ex.ret,[V.b (decide
 (z.2.2.1<w2))],[])) rF) (ifB (w0==3) (ifB (z.2.1==(0:Int)) (some (Ex.ret,[V.b (decide (z.2.2.1>w2))],[])) rF) (ifB (w0==5) (ifB (!z.2.1==(0:Int)) (ifB (decide ((↑(List.length z.2.2.2.1):Int)>=(↑w3.length:Int))) (ifT (decide (0<=
 (↑w3.length:Int))&&decide ((↑w3.length:Int)<=(↑(List.length z.2.2.2.1):Int))) (some (Ex.ret,[V.b (take ((↑w3.length:Int).toNat-0)
 (drop 0 z.2.2.2.1)==w3)],[]))) rF) rF) (some (Ex.ret,[V.b true],[])))))))) (some
 (Ex.exit 1,[],[]))):_):=by kernel_rfl
theorem Acm (n:Nat) (ws:List Wt) (k:Int) (l:List WFd):BI prog (Aa [(137,.rd1 (siN n))]) (Aa [(10,siE)]) f137 [.agg [.sl WCd ws],.j k,.sl FCd l] [] =
 ((ifT (decide (0<=k)&&decide (k<(↑ws.length:Int))) (Ak ws[k.toNat]? fun z=>ifB (z.1==(6:Int)) (ifT (CZ ws&&decide ((0:Int)<=z.2.2.2.2.1/\
 toNat z.2.2.2.2.1<n/\toNat z.2.2.2.2.1<ws.length)) (ifB (soR ws (siV l) n z.2.2.2.2.1) (ifT (CZ ws&&decide ((0:Int)<=
 z.2.2.2.2.2.1/\toNat z.2.2.2.2.2.1<n/\toNat z.2.2.2.2.2.1<ws.length)) (some (V.b (soR ws (siV l) n
 z.2.2.2.2.2.1),[]))) nF)) (ifB (z.1==(7:Int)) (ifT (CZ ws&&decide ((0:Int)<=z.2.2.2.2.1/\toNat
 z.2.2.2.2.1<n/\toNat z.2.2.2.2.1<ws.length)) (ifB (soR ws (siV l) n z.2.2.2.2.1) (some (V.b true,[])) (ifT (CZ ws&&decide ((0
 : Int)<=z.2.2.2.2.2.1/\toNat z.2.2.2.2.2.1<n/\toNat z.2.2.2.2.2.1<ws.length)) (some (V.b (soR ws (siV l) n
 z.2.2.2.2.2.1),[]))))) (ifB (z.1==(8:Int)) (ifT (CZ ws&&decide ((0:Int)<=z.2.2.2.2.1/\toNat z.2.2.2.2.1<n/\toNat
 z.2.2.2.2.1<ws.length)) (some (V.b !soR ws (siV l) n z.2.2.2.2.1,[]))) (ifT (decide ((0:Int)<=(0:Int)/\0<=l.length/\(↑l.length :
 Int)=(↑l.length:Int)/\l.length<=maxI)) (ifB (Ns (drop 0 l) z.2.1) (some (V.b (siV (drop 0 l) (z.1,z.2.1,z.2.2.1,
 z.2.2.2.1,z.2.2.2.2.1,z.2.2.2.2.2.1,())),[])) nF)))))):_):=by kernel_rfl
theorem Ur {n:Nat} (w0 w1 w2:Int) (w3:By) (w4 w5:Int) {l:List WFd} (hx:l.length<=maxI) : ∀ (j i:Nat),i+j=l.length->∀ e d',(Br.br (Ns (l.drop i) w1) (.leaf (.ret,([.b (siV (l.drop i) (w0,w1,w2,w3,w4,w5,()))],[]))) (.leaf (.exit 1,([],[]))):Br (Ex×Dt)).run=some (e,d')->
  Runs prog (Aa [(137,.rd1 (siN n))]) (Aa [(10,siE)]) 0 (body f137 0) siE ([.ptr 0 0,.sl FCd l,.j (l.length:Int),.j (i:Int)],[some (.box (Lw w0 w1 w2 w3 w4 w5))]) e d'
 | 0,i,hi,e,d',h=>by
  have hq:=Ql n w0 w1 w2 w3 w4 w5 l l.length i
  try dsimp only [shr] at hq
  rw [Ac (dcF (by omega))] at hq;rw [drop_eq_nil_of_le (by omega)] at h;cases h;exact stp hq
 | j+1,i,hi,e,d',h=>by
  have h1:i<l.length:=by omega
  have hq:=Ql n w0 w1 w2 w3 w4 w5 l l.length i
  try dsimp only [shr] at hq
  have ih:=Ur (n:=n) w0 w1 w2 w3 w4 w5 hx j (i+1) (by omega) e d';rw [drop_eq_getElem_cons h1] at h;rw [Ae (dcT (by omega)),T2 (by omega),ntN,gtE h1,Ai,Ap (n:=i) (by omega)] at hq;generalize l[i]=z at hq h;unfold Ns at h ih;rw [any_cons] at h;cases hc:(z.1==w1)
  ·rw [show (z.1 != w1)=true by unfold bne; rw [hc]; rfl,AR] at hq;rw [hc,Bool.false_or] at h;have e1:siV (z::l.drop (i+1)) (w0,w1,w2,w3,w4,w5,())=siV (l.drop (i+1)) (w0,w1,w2,w3,w4,w5,()):=by unfold siV; rw [List.find?_cons_of_neg (by simp [hc])]
   rw [e1] at h;exact sts hq (ih h)
  ·rw [show (z.1 != w1)=false by unfold bne; rw [hc]; rfl,A6] at hq;rw [hc,Bool.true_or] at h;have e1:siV (z::l.drop (i+1)) (w0,w1,w2,w3,w4,w5,())=D2 w0 w2 w3 z.2.1 z.2.2.1 z.2.2.2.1:=by unfold siV; rw [List.find?_cons_of_pos (by simp [hc])]
   rw [e1] at h;cases h;refine .stop _ _ _ (hq.trans ?_) (by simp);clear hq ih hc e1;unfold D2;cases w0==1<;>cases w0==2<;>cases w0==3<;>cases q5:(w0==5)<;>cases z.2.1==0<;>try rfl
   all_goals
    by_cases hl:w3.length<=z.2.2.2.1.length
    ·simp only [AR,A6,Bool.not_false,cond_true,cond_false];rw [Ae (dcT (by omega)),T2 (by omega),dcT hl,ntN,Nat.sub_zero,drop_zero];rfl
    ·simp only [AR,A6,Bool.not_false,cond_true,cond_false];rw [Ac (dcF (by omega)),dcF hl];rfl
theorem Ajz (n:Nat):As prog (Aa [(137,.rd1 (siN n))]) (Aa [(10,siE)]) 0 (f137.body.getD .skip):=by
 refine Am (a:=body f137 0) (by kernel_rfl) fun d e d' h=>?_
 unfold siE at h;dsimp only at h
 repeat' split at h
 all_goals first | contradiction | skip
 obtain ⟨hc,hx⟩:=Ad h;obtain ⟨a0,a1,a2,a3⟩:=of_decide_eq_true hc;obtain ⟨i,rfl⟩:=eq_ofNat_of_zero_le a0;subst a2;exact Ur _ _ _ _ _ _ a3 _ i (add_sub_of_le a1) e d' hx
theorem Agu : ∀ n,(∀ m,m<n->Af prog 137 (Ent.rd1 (siN m)).F)->Af prog 137 (Ent.rd1 (siN n)).F
 | 0,_=>AW fun vs bs=>by
  unfold Ent.F siN;dsimp only;split
  ·rename_i ws k l;have:(CZ ws&&decide (0<=k/\k.toNat<0/\k.toNat<ws.length))=false:=by rw [Bool.and_eq_false_iff]; exact .inr (dcF (by omega))
   rw [this]; rfl
  ·rfl
 | n+1,ihs=>by
  have ih:=ihs n (lt_succ_self n);refine B7 (kc func137 ih KnowsL.nil).knows (Λ:=(Aa [(10,siE)])) func137 (c:=f137.body.getD .skip) (by kernel_rfl) fun vs bs r hq hv hb=>?_
  unfold Ent.F siN at hq;dsimp only at hq;split at hq
  ·rename_i ws k l;obtain ⟨hc,hx⟩:=Ad hq;rw [anE] at hc;obtain ⟨hr,hc⟩:=hc;obtain ⟨h0,h1,h2⟩:=of_decide_eq_true hc;refine ⟨Ajz n,(Acm n ws k l).trans (Eq.trans ?_ hx)⟩
   try dsimp only [shr]
   have hz:=Uu hr h2;rw [T2 (by omega)];rw [Af0 ws (siV l) n k (gtE h2),gtE h2,Ai];generalize ws[k.toNat]=z at hz ⊢;unfold SI at hz;rw [hr];cases q6:z.1==6
   ·cases q7:z.1==7
    ·cases q8:z.1==8
     ·rw [A6,A6,A6,Ab (dcT ⟨by omega,by simp,by simp,(hv (.sl FCd l) (by simp)).1⟩),drop_zero];cases hh:Ns l z.2.1
      ·rw [A6]
       have e:siV l z=false:=by
        unfold siV;rw [List.find?_eq_none.2 (fun x hx'=>by unfold Ns at hh; rw [List.any_eq_false] at hh; exact hh x hx')]
       rw [e]; rfl
      ·rfl
     ·rw [q6,q7,q8] at hz;have hz:=of_decide_eq_true hz;rw [A6,A6,AR,Ab (show (true&&decide _)=true from dcT ⟨by omega,by omega,by omega⟩)];rfl
    ·rw [q6,q7] at hz;have hz:=of_decide_eq_true hz;rw [A6,AR,Ab (show (true&&decide _)=true from dcT ⟨by omega,by omega,by omega⟩),Ab (show (true&&decide _)=true from dcT ⟨by omega,by omega,by omega⟩)];cases soR ws (siV l) n z.2.2.2.2.1<;>rfl
   ·rw [q6] at hz;have hz:=of_decide_eq_true hz;rw [AR,Ab (show (true&&decide _)=true from dcT ⟨by omega,by omega,by omega⟩),Ab (show (true&&decide _)=true from dcT ⟨by omega,by omega,by omega⟩)];cases soR ws (siV l) n z.2.2.2.2.1<;>rfl
  ·cases hq
theorem Agt:Af prog 137 (Ent.rd1 siG).F:=by
 refine Bd (F:=fun n=>(Ent.rd1 (siN n)).F) Agu fun vs bs r h=>?_
 unfold Ent.F siG at h;dsimp only at h;split at h
 ·rename_i ws k l;obtain ⟨hc,hx⟩:=Ad h;refine ⟨k.toNat+1,?_⟩;show (Br.need (CZ ws&&decide (0<=k/\k.toNat<k.toNat+1/\k.toNat<ws.length)) (.leaf (.b (soR ws (siV l) (k.toNat+1) k),[]))).run=some r;rw [anE,dcE] at hc;have:(CZ ws&&decide (0<=k/\k.toNat<k.toNat+1/\k.toNat<ws.length))=true:=by rw [anE,dcE]; exact ⟨hc.1,hc.2.1,lt_succ_self _,hc.2.2⟩
  rw [this];exact hx
 ·cases h

theorem Ue : ∀ (l:List Wt) (i:Nat) (u v:List Int),wgo i l u=some v->∀ (j:Nat) (h:j<l.length),SI l[j] ((i+j:Nat):Int)=true
 | [],_,_,_,_,j,h=>by simp at h
 | w::l,i,u,v,hw,j,h=>by
  rw [wgo] at hw
  by_cases hb:CK w (i:Int)=true
  ·rw [if_pos hb] at hw
   cases j with
   | zero=>
    show SI w ((i+0:Nat):Int)=true;rw [Nat.add_zero];unfold CK at hb;unfold SI
    by_cases q1:w.1=6\/w.1=7
    ·rw [if_pos q1] at hb;have hb:=of_decide_eq_true hb;have e:(w.1==6||w.1==7)=true:=by rcases q1 with q | q<;>rw [q]<;>rfl
     rw [e];exact dcT ⟨hb.2.2.2.1,by omega,by omega,hb.2.2.2.2.2⟩
    ·rw [if_neg q1] at hb
     have e:(w.1==6||w.1==7)=false:=by
      rw [Bool.or_eq_false_iff,beq_eq_false_iff_ne,beq_eq_false_iff_ne]; exact ⟨fun q=>q1 (.inl q),fun q=>q1 (.inr q)⟩
     rw [e]
     by_cases q2:w.1=8
     ·rw [if_pos q2] at hb;have hb:=of_decide_eq_true hb;rw [show (w.1==8)=true by rw [q2]; rfl];exact dcT ⟨hb.2.2.2.1,hb.2.2.2.2.1⟩
     ·rw [show (w.1==8)=false from beq_eq_false_iff_ne.2 q2]; rfl
   | succ j=>
    have:=Ue l (i+1) _ _ hw j (by simpa using h);rw [show i+(j+1)=i+1+j by omega]
    simpa using this
  ·rw [if_neg hb] at hw; cases hw
theorem Rm {l:List Wt} (h:B6 l=true):CZ l=true/\1<=l.length/\l.length<=20:=by
 unfold B6 at h;rw [anE,dcE] at h;refine ⟨?_,h.1⟩;have h2:=h.2;split at h2
 ·rename_i u hu;unfold CZ;rw [all_eq_true];intro j hj;have hj:=mem_range.1 hj;rw [gtE hj];have:=Ue l 0 _ _ hu j hj
  rwa [zero_add] at this
 ·cases h2
theorem Acy {ns:List Int} (h:JZ ns=true) : ∀ (d i:Nat) (hj:i+d+1<ns.length),ns[i]<ns[i+d+1]:=by
 have step : ∀ (j:Nat) (hj:j+1<ns.length),ns[j]<ns[j+1]:=fun j hj=>by
  unfold JZ at h;have:=all_eq_true.1 h (j+1) (mem_range.2 hj);unfold BY at this
  simpa [List.getD_eq_getElem?_getD,gtE hj,gtE (show j<ns.length by omega)] using this
 intro d
 induction d with
 | zero=>intro i hj; exact step i hj
 | succ d ih=>intro i hj; have a:=ih i (by omega); have b:=step (i+d+1) hj; exact Int.lt_trans a b
theorem Afz {w:Wt} : ∀ {l:List Pl},(∀ (i j:Nat) (_:i<j) (hj:j<l.length),l[i].1.1<l[j].1.1)->soq l w=siV (l.map (·.1)) w
 | [],_=>rfl
 | z::l,h=>by
  have ih:=Afz (w:=w) (l:=l) fun i j hij hj=>by
   have:=h (i+1) (j+1) (by omega) (by simpa using hj)
   simpa using this
  unfold soq siV at ih ⊢;rw [any_cons,map_cons];cases hc:(z.1.1==w.2.1)
  ·rw [List.find?_cons_of_neg (by simp [hc]),Bool.false_and,Bool.false_or]; exact ih
  ·rw [List.find?_cons_of_pos (by simp [hc]),Bool.true_and]
   have hr:(l.any fun z=>z.1.1==w.2.1&&D2 w.1 w.2.2.1 w.2.2.2.1 z.1.2.1 z.1.2.2.1 z.1.2.2.2.1)=false:=by
    rw [List.any_eq_false];intro x hx;obtain ⟨j,hj,rfl⟩:=List.mem_iff_getElem.1 hx;have:=h 0 (j+1) (by omega) (by simpa using hj);have e:z.1.1=w.2.1:=by simpa using hc
    have:z.1.1<l[j].1.1:=by simpa using this
    have ne:(l[j].1.1==w.2.1)=false:=beq_eq_false_iff_ne.2 (by omega);rw [ne]; simp
   rw [hr,Bool.or_false]
def kW (ws:List Wt):Int:=(ws.length:Int)-1
def soF (ws:List Wt) (q:Wt->Bool):Bool:=soR ws q ((kW ws).toNat+1) (kW ws)
def Ahy:Gm
 | [.agg [.sl WCd ws],.sl FCd l],[]=>.need (CZ ws&&decide (1<=ws.length/\ws.length<=1000000000)) (.leaf (.b (soF ws (siV l)),[]))
 | _,_=>.no
def L9 (ws:List Wt) (s:By):Bool:=match BK s with
 | some l=>B6 ws&&soF ws (soq l)
 | none=>false
def Ahs:Gm
 | [.agg [.sl WCd ws],.s s],[]=>.need (decide (s.length<=4000000000)) (.leaf (.tup [.b (L9 ws s),.b ((BK s).isSome&&B6 ws)],[]))
 | _,_=>.no
theorem Zw (ws:List Wt) (s:By):BI prog (Aa [(150,.rd1 VT),(127,.rd1 Hp),(151,.rd1 soG)]) (Aa []) f109 [.agg [.sl WCd ws],.s s] [] =
 ((ifT (decide (s.length<=4000000000)) (ifB (!(BK s).isSome) (some (V.tup [V.b false,V.b false],[])) (ifB (!B6 ws) (some (V.tup [V.b false,V.b false],[]))
 (ifT (CZ ws&&decide (0<=i64.wrap ((↑ws.length:Int)-(1:Int))/\(i64.wrap ((↑ws.length:Int)-(1:Int))).toNat<ws.length)) (some (V.tup [V.b
 (soR ws (soq (take ((BK s).getD (Ag Pl)).length (drop 0 ((BK s).getD (Ag Pl))))) ((i64.wrap ((↑ws.length:Int)-(1:Int))).toNat+(1
 : Nat)) (i64.wrap ((↑ws.length:Int)-(1:Int)))),V.b true],[])))))):_):=by kernel_rfl
theorem Z1 (ws:List Wt) (l:List WFd):BI prog (Aa [(137,.rd1 siG)]) (Aa []) f100 [.agg [.sl WCd ws],.sl FCd l] [] =
 ((ifT (CZ ws&&decide (0<=i64.wrap ((↑ws.length:Int)-(1:Int))/\(i64.wrap ((↑ws.length:Int)-(1:Int))).toNat<ws.length)) (some (V.b (soR ws
 (siV l) ((i64.wrap ((↑ws.length:Int)-(1:Int))).toNat+1) (i64.wrap ((↑ws.length:Int)-(1:Int)))),[]))):_):=by kernel_rfl
theorem l7m:Af prog 100 (Ent.rd1 Ahy).F:=by
 refine fcC (kc func137 Agt KnowsL.nil).knows (Λ:=Aa []) func100 fun vs bs r hq=>?_
 unfold Ent.F Ahy at hq;dsimp only at hq;split at hq
 ·rename_i ws l;obtain ⟨hc,hx⟩:=Ad hq;rw [anE,dcE] at hc;obtain ⟨h1,h2,h3⟩:=hc;refine ⟨Ah _,(Z1 ws l).trans (Eq.trans ?_ hx)⟩
  try dsimp only [shr]
  have e:i64.wrap ((ws.length:Int)-1)=kW ws:=Av (by omega) (by omega);rw [e,Ab (by rw [h1,Bool.true_and]; unfold kW; exact dcT (by omega))];rfl
 ·cases hq
theorem mat:Af prog 109 (Ent.rd1 Ahs).F:=by
 refine fcC (kc func150 ris (kc func127 ZR (kc func151 Agq KnowsL.nil))).knows (Λ:=Aa []) func109 fun vs bs r hq=>?_
 unfold Ent.F Ahs at hq;dsimp only at hq;split at hq
 ·rename_i ws s;obtain ⟨hc,hx⟩:=Ad hq;refine ⟨Ah _,(Zw ws s).trans (Eq.trans ?_ hx)⟩
  try dsimp only [shr]
  rw [Ab hc];unfold L9
  cases hp:BK s with
  | none=>rfl
  | some l=>
   cases hg:B6 ws
   ·rfl
   ·obtain ⟨h1,h2,h3⟩:=Rm hg;have e:i64.wrap ((ws.length:Int)-1)=kW ws:=Av (by omega) (by omega);rw [e,Ab (by rw [h1,Bool.true_and]; unfold kW; exact dcT (by omega))];simp only [Option.getD_some,drop_zero,take_length,Option.isSome_some,Bool.not_true,A6,Bool.true_and];rfl
 ·cases hq



theorem FR {α:Type} {l:List α} {p:Nat} {e:α} (h:p<l.length):(l.set p e).take (p+1)=l.take p++[e]:=by
 rw [List.take_add_one,List.getElem?_set_self h,List.take_set_of_le (Nat.le_refl p)]; rfl




instance dqType4:DecidableEq (Int×Int×Unit):=inferInstance
instance dqType3:DecidableEq (Bool×Int×Int×Unit):=inferInstance
instance dqType2:DecidableEq (Int×Bool×Int×Int×Unit):=inferInstance
instance dqType1:DecidableEq (By×Int×Bool×Int×Int×Unit):=inferInstance
instance dqType0:DecidableEq (Int×By×Int×Bool×Int×Int×Unit):=inferInstance
instance dqWant4:DecidableEq (Int×Int×Unit):=inferInstance
instance dqWant3:DecidableEq (By×Int×Int×Unit):=inferInstance
instance dqWant2:DecidableEq (Int×By×Int×Int×Unit):=inferInstance
instance dqWant1:DecidableEq (Int×Int×By×Int×Int×Unit):=inferInstance
instance dqWant0:DecidableEq (Int×Int×Int×By×Int×Int×Unit):=inferInstance





instance decTp:DecidableEq Tp:=inferInstance
def tOK (t:Tp):Bool:=tpB (cut 47 t.1)&&(AN t.2.1.1&&decide (0<=t.2.2.1/\t.2.2.1<=1000))
def Ev (t:Tp):Bool:=decide (t.1.length<=4000000000)&&(decide (t.2.1.1.length<=4000000000)&&nmL t.2.1.1)
def Vm (ts:List Tp) (i:Nat):Bool:=match ts[i]? with | some t=>tOK t&&atT ts t.1==(i:Int) | none=>true
def C4 (ts:List Tp) (i:Nat):Bool:=((range ts.length).drop i).all (Vm ts)
def Z7:Gm
 | [.agg [.s n,.sl TCd l,.j c]],[]=>.need (Ev (n,(l,()),c,())) (.leaf (.b (tOK (n,(l,()),c,())),[]))
 | _,_=>.no
def UG:Gm
 | [.s p,.s q],[]=>.need (decide (p.length<=4000000000/\q.length<=4000000000)) (.leaf (.b (tk E9 (cut 47 p) (cut 47 q)),[]))
 | _,_=>.no
def XP:Gm
 | [.bx [.sl TPd ts,.sl FNd fs] 0],[]=>.need (decide (ts.length<=4000000000)&&ts.all Ev) (.leaf (.b (C4 ts 0&&decide (ts.length<=4)),[]))
 | _,_=>.no
def Fw:LoopEnt:=⟨46,[0,8,9,10],[0],[2],fun
 | ([.bx [.sl TPd ts,.sl FNd fs] 0,.sl TPd l,.j k,.j i],[])=>.need (decide (0<=i/\i.toNat<=l.length/\k=l.length/\eqT (List Tp) l ts/\l.length<=maxI)&&ts.all Ev) (.br (C4 ts i.toNat) (.leaf (.exit 0,([.bx [.sl TPd ts,.sl FNd fs] 0],[]))) (.leaf (.ret,([.b false],[]))))
 | _=>.no⟩
theorem Wy (n:By) (l:List Ty) (c:Int):Aw prog (Aa [(113,.rd1 NY),(114,.rd1 Ge),(115,.rd1 A0)]) (Aa []) f76 [.agg [.s n,.sl TCd l,.j c]] [] =
 ((ifT (decide (n.length<=4000000000)) (ifB (tpB (cut (47:UInt8) n)) (ifT (decide (l.length<=4000000000)&&nmL l) (ifB (AN l) (some (V.b (decide (0<=
 c/\c<=1000)),[])) nF)) nF)):_):=by kernel_rfl
theorem Alu:Af prog 76 (Ent.rd1 Z7).F:=by
 refine fcK (kc func113 Aj1 (kc func114 Qm (kc func115 Ia KnowsL.nil))).knows (Λ:=Aa []) func76 fun vs bs r hq=>?_
 unfold Ent.F Z7 at hq;dsimp only at hq;split at hq
 ·rename_i n l c;obtain ⟨hc,hx⟩:=Ad hq;unfold Ev at hc;dsimp only at hc;simp only [anE,dcE] at hc;refine ⟨Ah _,(Wy n l c).trans (Eq.trans ?_ hx)⟩;show _=some (V.b (tpB (cut 47 n)&&(AN l&&decide (0<=c/\c<=1000))),[]);rw [Ab (dcT hc.1),hc.2.2,dcT hc.2.1];cases tpB (cut 47 n)<;>cases AN l<;>rfl
 ·cases hq
theorem Wz (p q:By):Aw prog (Aa [(136,.rd1 UA),(135,.rd1 Aiv)]) (Aa []) f99 [.s p,.s q] [] =
 ((ifT (decide ((47:Int)=(47:Int)/\p.length<=4000000000)) (ifT (decide ((47:Int)=(47:Int)/\q.length<=4000000000)) (some (V.b (tk E9
 (take (cut (47:UInt8) p).length (drop 0 (cut (47:UInt8) p))) (take (cut (47:UInt8) q).length (drop 0 (cut (47:UInt8) q)))),
 [])))):_):=by kernel_rfl
theorem Aki:Af prog 99 (Ent.rd1 UG).F:=by
 refine fcK (kc func136 Aht (kc func135 Al2 KnowsL.nil)).knows (Λ:=Aa []) func99 fun vs bs r hq=>?_
 unfold Ent.F UG at hq;dsimp only at hq;split at hq
 ·rename_i p q;obtain ⟨hc,hx⟩:=Ad hq;obtain ⟨h1,h2⟩:=of_decide_eq_true hc;refine ⟨Ah _,(Wz p q).trans (Eq.trans ?_ hx)⟩
  try dsimp only [shr]
  rw [Ab (dcT ⟨rfl,h1⟩),Ab (dcT ⟨rfl,h2⟩)];simp only [drop_zero,take_length]
  try rfl
 ·cases hq
abbrev Xy:FuncId->Option Ent:=Aa [(123,.rd1 NY),(124,.rd1 Ge),(125,.rd1 A0),(104,.rd1 KF)]
theorem KE (ts:List Tp) (fs:List Fa) (l:List Tp) (k i:Int):At prog Xy (Aa [(2,Fw)]) 0 (body f84 0) Fw ([.bx [.sl TPd ts,.sl FNd fs] 0,.sl TPd l,.j k,.j i],[]) =
 ((ifB (decide (i<k)) (ifT (decide (0<=i)&&decide (i<(↑l.length:Int))) (Ak l[i.toNat]? fun z=>ifT (decide (List.length z.1<=4000000000)) (ifB (!tpB
 (cut (47:UInt8) z.1)) rF (ifT (decide (List.length z.2.1.1<=4000000000)&&nmL z.2.1.1) (ifB (!AN z.2.1.1)
 rF (ifB (!decide ((0:Int)<=z.2.2.1/\z.2.2.1<=(1000:Int))) rF (ifB (atT ts z.1 != i) rF (some (Ex.normal,[V.bx [V.sl TPd ts,V.sl FNd fs] 0,V.sl TPd l,V.j k,V.j (i64.wrap (i+1))],[]))))))))) (some
 (Ex.exit 0,[V.bx [V.sl TPd ts,V.sl FNd fs] 0],[]))):_):=by kernel_rfl
theorem Vk (ts:List Tp) (fs:List Fa):Aw prog Xy (Aa [(2,Fw)]) f84 [.bx [.sl TPd ts,.sl FNd fs] 0] [] =
 ((ifT (decide ((0:Int)<=(0:Int)/\0<=ts.length/\(↑ts.length:Int)=(↑ts.length:Int)/\eqT (List Tp) ts ts/\ts.length<=maxI)&&ts.all Ev) (ifB (C4
 ts 0) (some (V.b (decide ((↑ts.length:Int)<=(4:Int))),[])) nF)):_):=by kernel_rfl
theorem MZ (ts:List Tp) (fs:List Fa) (hm:ts.length<=maxI) (hz:ts.all Ev=true) : ∀ (j i:Nat),i+j=ts.length->∀ ex d,(Br.br (C4 ts i) (.leaf (.exit 0,([.bx [.sl TPd ts,.sl FNd fs] 0],[]))) (.leaf (.ret,([.b false],[]))):Br (Ex×Dt)).run=some (ex,d)->Runs prog Xy (Aa [(2,Fw)]) 0 (body f84 0) Fw ([.bx [.sl TPd ts,.sl FNd fs] 0,.sl TPd ts,.j (ts.length:Int),.j (i:Int)],[]) ex d
 | 0,i,hi,ex,d,h=>by
  have hr:=KE ts fs ts ts.length i
  try dsimp only [shr] at hr
  rw [Ac (dcF (by omega))] at hr;have e:C4 ts i=true:=by unfold C4; rw [drop_eq_nil_of_le (by simp; omega)]; rfl
  rw [GN e] at h;obtain ⟨rfl,rfl⟩:=lfP h;exact stp hr
 | j+1,i,hi,ex,d,h=>by
  have hM:=mxI;have hlt:i<ts.length:=by omega
  have hr:=KE ts fs ts ts.length i
  try dsimp only [shr] at hr
  have hs:=all_eq_true.1 hz _ (getElem_mem hlt);unfold Ev at hs;simp only [anE,dcE] at hs;rw [Ae (dcT (by omega)),T2 (by omega),ntN,gtE hlt,Ai,Ap (n:=i) (by omega)] at hr
  have e:C4 ts i=((tOK ts[i]&&atT ts ts[i].1==(i:Int))&&C4 ts (i+1)):=by
   unfold C4;rw [drop_eq_getElem_cons (by simpa using hlt),all_cons,getElem_range];congr 1;unfold Vm;rw [gtE hlt]
  generalize ts[i]=t at hr e hs;unfold tOK at e;rw [Ab (dcT hs.1),hs.2.2,dcT hs.2.1] at hr
  have bad : ∀ {w},At prog Xy (Aa [(2,Fw)]) 0 (body f84 0) Fw ([.bx [.sl TPd ts,.sl FNd fs] 0,.sl TPd ts,.j (ts.length:Int),.j (i:Int)],[])=w->w=some ((.ret:Ex),(([.b false]:List V),([]:List (Option Blk))))->C4 ts i=false->Runs prog Xy (Aa [(2,Fw)]) 0 (body f84 0) Fw ([.bx [.sl TPd ts,.sl FNd fs] 0,.sl TPd ts,.j (ts.length:Int),.j (i:Int)],[]) ex d:=fun e1 e2 e3=>by
   rw [Hz e3] at h;obtain ⟨rfl,rfl⟩:=lfP h;exact .stop _ _ _ (e1.trans e2) (by simp)
  cases h1:tpB (cut 47 t.1) with
  | false=>rw [h1] at hr e; exact bad hr rfl (by rw [e]; rfl)
  | true=>
   cases h2:AN t.2.1.1 with
   | false=>rw [h1,h2] at hr e; exact bad hr rfl (by rw [e]; rfl)
   | true=>
    by_cases h3:0<=t.2.2.1/\t.2.2.1<=1000
    ·by_cases h4:atT ts t.1=(i:Int)
     ·have h5:(atT ts t.1==(i:Int))=true:=beq_iff_eq.2 h4;have h6:(atT ts t.1 != (i:Int))=false:=bne_eq_false_iff_eq.2 h4;rw [h1,h2,dcT h3,h6] at hr;rw [h1,h2,dcT h3,h5] at e;refine sts hr (MZ ts fs hm hz j (i+1) (by omega) ex d ?_);rw [e] at h;exact h
     ·have h5:(atT ts t.1==(i:Int))=false:=beq_eq_false_iff_ne.2 h4;have h6:(atT ts t.1 != (i:Int))=true:=bne_iff_ne.2 h4;rw [h1,h2,dcT h3,h6] at hr;exact bad hr rfl (by rw [e,h5]; simp)
    ·rw [h1,h2,dcF h3] at hr e;exact bad hr rfl (by rw [e]; rfl)
theorem Ab2:As prog Xy (Aa [(2,Fw)]) 0 (f84.body.getD .skip):=by
 refine Am (a:=body f84 0) (by kernel_rfl) fun d ex d' h=>?_
 unfold Fw at h;dsimp only at h;split at h
 ·rename_i ts fs l k i;obtain ⟨hc,hx⟩:=Ad h;rw [anE] at hc;obtain ⟨hc,hz⟩:=hc;obtain ⟨h0,h1,h2,h3,h4⟩:=of_decide_eq_true hc;have h3:l=ts:=h3;subst h3;subst h2;obtain ⟨i,rfl⟩:=eq_ofNat_of_zero_le h0;simp only [ntN] at h1 hx;exact MZ l fs h4 hz (l.length-i) i (by omega) ex d' hx
 ·cases h
theorem Aku:Af prog 84 (Ent.rd1 XP).F:=by
 refine fcK (kc func123 Akw (kc func124 Akx (kc func125 Dd (kc func104 Tv KnowsL.nil)))).knows (Λ:=(Aa [(2,Fw)])) func84 fun vs bs r hq=>?_
 unfold Ent.F XP at hq;dsimp only at hq;split at hq
 ·rename_i ts fs;obtain ⟨hc,hx⟩:=Ad hq;rw [anE] at hc;obtain ⟨hm0,hc⟩:=hc;have hM:=mxI;have hm:ts.length<=maxI:=by have:=of_decide_eq_true hm0; omega
  refine ⟨Ab2,(Vk ts fs).trans (Eq.trans ?_ hx)⟩
  try dsimp only [shr]
  show _=some _;rw [hc,Ab (show (decide ((0:Int)<=0/\0<=ts.length/\(ts.length:Int)=ts.length/\eqT (List Tp) ts ts/\ts.length<=maxI)&&true)=true by rw [Bool.and_true]; exact dcT ⟨by omega,by omega,rfl,rfl,hm⟩)]
  cases C4 ts 0 with
  | false=>rfl
  | true=>
   by_cases q:ts.length<=4
   ·rw [dcT q,dcT (by omega)]; rfl
   ·rw [dcF q,dcF (by omega)]; rfl
 ·cases hq
def F4 (ts:List Tp) (x:By):Int:=match ts[(atT ts x).toNat]? with | some t=>t.2.2.1 | none=>0
def ntI (ts:List Tp) (z:Rose Lab) (m:List (By×Int)) (n:Nt):Bool:=decide (0<=atT ts n.1)&&(decide (i64.wrap ((Cy .str m n.1).getD 0+1)<=n.2.1/\n.2.1<=F4 ts n.1)&&Ed z n.2.2.1)
def Ie (ts:List Tp) (z:Rose Lab):List (By×Int)->List Nt->Bool
 | _,[]=>true
 | m,n::l=>ntI ts z m n&&Ie ts z (D1 .str m n.1 n.2.1) l
def HM (l:List Nt):Bool:=decide (l.length<=4000000000)&&l.all fun n=>decide (n.2.2.1.length<=4000000000)
def Aik:Gm
 | [.bx [.sl TPd ts,.sl FNd fs] 0,.sl NTd l,.tp LCd z 0],[]=>.need (decide (BM z=true)&&HM l) (.leaf (.b (Ie ts z [] l&&decide (l.length<=10)),[]))
 | _,_=>.no
def Ke:LoopEnt:=⟨63,[0,1,2,7,14,15,16],[1],[6],fun
 | ([.bx [.sl TPd ts,.sl FNd fs] 0,.sl NTd q,.tp LCd z 0,.mref 0,.sl NTd l,.j k,.j i],[some (.mp .str (.int .i64) m)])=>.need (decide (0<=i/\i.toNat<=l.length/\k=l.length/\BM z=true)&&HM l) (.br (Ie ts z m (l.drop i.toNat)) (.leaf (.exit 0,([.sl NTd q],[]))) (.leaf (.ret,([.b false],[]))))
 | _=>.no⟩
abbrev Xx:FuncId->Option Ent:=Aa [(104,.rd1 KF),(125,.rd1 A0),(106,.rd1 K9)]
theorem NS (ts:List Tp) (fs:List Fa) (q:List Nt) (z:Rose Lab) (l:List Nt) (k i:Int) (m:List (By×Int)):At prog Xx (Aa [(3,Ke)]) 0 (body f129 0) Ke ([.bx [.sl TPd ts,.sl FNd fs] 0,.sl NTd q,.tp LCd z 0,.mref 0,.sl NTd l,.j k,.j i],[some (.mp .str (.int .i64) m)]) =
 ((ifB (decide (i<k)) (ifT (decide (0<=i)&&decide (i<(↑l.length:Int))) (Ak l[i.toNat]? fun z_1=>ifB (decide (atT ts z_1.1<(0:Int))) rF (ifT (decide ((0:Int)<=atT ts z_1.1)&&decide (atT ts z_1.1<(↑ts.length:Int))) (Ak ts[(atT ts z_1.1).toNat]? fun z_2=>ifB (!decide
 (i64.wrap ((Cy Cd.str m z_1.1).getD (0:Int)+(1:Int))<=z_1.2.1/\z_1.2.1<=z_2.2.2.1)) rF (ifT (decide
 (BM z=true/\List.length z_1.2.2.1<=4000000000)) (ifB (!Ed z z_1.2.2.1) rF (some (Ex.normal,[V.bx [V.sl TPd ts,
 V.sl FNd fs] 0,V.sl NTd q,V.tp LCd z 0,V.mref 0,V.sl NTd l,V.j k,V.j (i64.wrap (i+1))],[some (Blk.mp Cd.str (Cd.int
 .i64) (D1 Cd.str m z_1.1 z_1.2.1))])))))))) (some (Ex.exit 0,[V.sl NTd q],[]))):_):=by kernel_rfl
theorem ZO (ts:List Tp) (fs:List Fa) (l:List Nt) (z:Rose Lab):Aw prog Xx (Aa [(3,Ke)]) f129 [.bx [.sl TPd ts,.sl FNd fs] 0,.sl NTd l,.tp LCd z 0] [] =
 ((ifT (decide ((0:Int)<=(0:Int)/\0<=l.length/\(↑l.length:Int)=(↑l.length:Int)/\BM z=true)&&HM l) (ifB (Ie ts z (Ag (Cd.str.den×(Cd.int
 .i64).den)) (drop 0 l)) (some (V.b (decide ((↑l.length:Int)<=(10:Int))),[])) nF)):_):=by kernel_rfl
theorem Ua (ts:List Tp) (x:By):(atT ts x<0)\/(0<=atT ts x/\(atT ts x).toNat<ts.length/\atT ts x<ts.length):=by
 unfold atT;rcases G7 (fun t:Tp=>t.1==x) ts 0 with h | h
 ·left; rw [h.1]; decide
 ·right; omega
theorem Rc (ts:List Tp) (fs:List Fa) (q:List Nt) (z:Rose Lab) (hz:BM z=true) (l:List Nt) (hl:l.length<=4000000000) (hs : ∀ n∈l,n.2.2.1.length<=4000000000) : ∀ (j i:Nat) (m:List (By×Int)),i+j=l.length->∀ ex d,(Br.br (Ie ts z m (l.drop i)) (.leaf (.exit 0,([.sl NTd q],[]))) (.leaf (.ret,([.b false],[]))):Br (Ex×Dt)).run=some (ex,d)->Runs prog Xx (Aa [(3,Ke)]) 0 (body f129 0) Ke ([.bx [.sl TPd ts,.sl FNd fs] 0,.sl NTd q,.tp LCd z 0,.mref 0,.sl NTd l,.j (l.length:Int),.j (i:Int)],[some (.mp .str (.int .i64) m)]) ex d
 | 0,i,m,hi,ex,d,h=>by
  have hr:=NS ts fs q z l l.length i m
  try dsimp only [shr] at hr
  rw [Ac (dcF (by omega))] at hr;rw [drop_eq_nil_of_le (by omega),Ie] at h;obtain ⟨rfl,rfl⟩:=lfP h;exact stp hr
 | j+1,i,m,hi,ex,d,h=>by
  have hM:=mxI;have hlt:i<l.length:=by omega
  have hr:=NS ts fs q z l l.length i m
  try dsimp only [shr] at hr
  have hs1:=hs _ (getElem_mem hlt);rw [Ae (dcT (by omega)),T2 (by omega),ntN,gtE hlt,Ai,Ap (n:=i) (by omega)] at hr;rw [drop_eq_getElem_cons hlt,Ie] at h
  have bad : ∀ {w},At prog Xx (Aa [(3,Ke)]) 0 (body f129 0) Ke ([.bx [.sl TPd ts,.sl FNd fs] 0,.sl NTd q,.tp LCd z 0,.mref 0,.sl NTd l,.j (l.length:Int),.j (i:Int)],[some (.mp .str (.int .i64) m)])=w->w=some ((.ret:Ex),(([.b false]:List V),([]:List (Option Blk))))->ntI ts z m l[i]=false->Runs prog Xx (Aa [(3,Ke)]) 0 (body f129 0) Ke ([.bx [.sl TPd ts,.sl FNd fs] 0,.sl NTd q,.tp LCd z 0,.mref 0,.sl NTd l,.j (l.length:Int),.j (i:Int)],[some (.mp .str (.int .i64) m)]) ex d:=fun e1 e2 e3=>by
   rw [e3,Bool.false_and] at h;obtain ⟨rfl,rfl⟩:=lfP h;exact .stop _ _ _ (e1.trans e2) (by simp)
  rcases Ua ts l[i].1 with h1 | ⟨h1,h2,h3⟩
  ·rw [Ae (dcT h1)] at hr;exact bad hr rfl (by unfold ntI; rw [dcF (by omega)]; rfl)
  ·rw [Ac (dcF (by omega)),Ab (by simp only [anE,dcE]; exact ⟨h1,h3⟩),gtE h2,Ai] at hr;have ec:F4 ts l[i].1=ts[(atT ts l[i].1).toNat].2.2.1:=by unfold F4; rw [gtE h2]
   rw [<-ec,Ab (dcT ⟨hz,hs1⟩)] at hr
   have e:ntI ts z m l[i]=(decide (i64.wrap ((Cy .str m l[i].1).getD 0+1)<=l[i].2.1/\l[i].2.1<=F4 ts l[i].1)&&Ed z l[i].2.2.1):=by
    unfold ntI; rw [dcT h1,Bool.true_and]
   rw [e] at bad h;generalize decide (i64.wrap ((Cy .str m l[i].1).getD 0+1)<=l[i].2.1/\l[i].2.1<=F4 ts l[i].1)=c1 at hr bad h;generalize Ed z l[i].2.2.1=c2 at hr bad h
   cases c1 with
   | false=>exact bad hr rfl rfl
   | true=>
    cases c2 with
    | false=>exact bad hr rfl rfl
    | true=>exact sts hr (Rc ts fs q z hz l hl hs j (i+1) _ (by omega) ex d h)
theorem Q7 {l:List Nt} (h:HM l=true):l.length<=4000000000/\∀ n∈l,n.2.2.1.length<=4000000000:=by
 unfold HM at h;rw [anE,dcE] at h;exact ⟨h.1,fun n hn=>of_decide_eq_true (all_eq_true.1 h.2 n hn)⟩
theorem Aij:As prog Xx (Aa [(3,Ke)]) 0 (f129.body.getD .skip):=by
 refine Am (a:=body f129 0) (by kernel_rfl) fun d ex d' h=>?_
 unfold Ke at h;dsimp only at h;split at h
 ·rename_i ts fs q z l k i m;obtain ⟨hc,hx⟩:=Ad h;rw [anE] at hc;obtain ⟨hc,hz⟩:=hc;obtain ⟨h0,h1,h2,h3⟩:=of_decide_eq_true hc;subst h2;obtain ⟨i,rfl⟩:=eq_ofNat_of_zero_le h0;simp only [ntN] at h1 hx;obtain ⟨a,b⟩:=Q7 hz;exact Rc ts fs q z h3 l a b (l.length-i) i m (by omega) ex d' hx
 ·cases h
theorem Aly:Af prog 129 (Ent.rd1 Aik).F:=by
 refine fcK (kc func104 Tv (kc func125 Dd (kc func106 I3 KnowsL.nil))).knows (Λ:=(Aa [(3,Ke)])) func129 fun vs bs r hq=>?_
 unfold Ent.F Aik at hq;dsimp only at hq;split at hq
 ·rename_i ts fs l z;obtain ⟨hc,hx⟩:=Ad hq;rw [anE,dcE] at hc;refine ⟨Aij,(ZO ts fs l z).trans (Eq.trans ?_ hx)⟩
  try dsimp only [shr]
  show _=some _;rw [hc.2,Ab (show (decide ((0:Int)<=0/\0<=l.length/\(l.length:Int)=l.length/\BM z=true)&&true)=true by rw [Bool.and_true]; exact dcT ⟨by omega,by omega,rfl,hc.1⟩)];dsimp only [Ag,drop]
  cases Ie ts z [] l with
  | false=>rfl
  | true=>
   by_cases q:l.length<=10
   ·rw [dcT q,dcT (by omega)]; rfl
   ·rw [dcF q,dcF (by omega)]; rfl
 ·cases hq
def ltB (nt:By) (no:Int) (o:Nt):Bool:=!(o.1==nt&&decide (o.2.1>=no))
def ntS (ts:List Tp) (v:List Ty) (b:List Nt) (i:Nat):Bool:=match b[i]? with
 | some n=>decide (0<=atT ts n.1)&&(decide (1<=n.2.1/\n.2.1<=F4 ts n.1)&&(F5 v n.2.2.1&&(b.take i).all (ltB n.1 n.2.1)))
 | none=>true
def IV (ts:List Tp) (v:List Ty) (b:List Nt) (i:Nat):Bool:=((range b.length).drop i).all (ntS ts v b)
def Aii:Gm
 | [.agg [.sl TPd ts,.sl FNd fs],.agg (Lf w p ws v b t)],[]=>.need (decide (v.length<=4000000000)&&(nmL v&&HM b)) (.leaf (.b (IV ts v b 0&&decide (b.length<=10)),[]))
 | _,_=>.no
def LN:LoopEnt:=⟨79,[2,3,13,14,15],[3],[4],fun
 | ([.ptr 0 0,.ptr 1 0,.sl NTd l,.j k,.j i],[bb,bf])=>(match bb with
  | some (.box [.sl TPd ts,.sl FNd fs])=>(match bf with
   | some (.box (Lf w p ws v b t))=>.need (decide (0<=i/\i.toNat<=l.length/\k=l.length/\eqT (List Nt) l b)&&(decide (v.length<=4000000000)&&(nmL v&&HM b))) (.br (IV ts v b i.toNat) (.leaf (.exit 0,([.ptr 0 0],[some (.box (Lf w p ws v b t))]))) (.leaf (.ret,([.b false],[]))))
   | _=>.no)
  | _=>.no)
 | _=>.no⟩
def LP:LoopEnt:=⟨79,[2,3,6,13,14,15,55,56,57],[2,3,13,14,15],[4],fun
 | ([.ptr 0 0,.ptr 1 0,.ptr 2 0,.sl NTd l,.j k0,.j i0,.sl NTd q,.j k,.j i],[bb,bf,bn])=>(match bb with
  | some (.box [.sl TPd ts,.sl FNd fs])=>(match bf with
   | some (.box (Lf w p ws v b t))=>(match bn with
    | some (.box [.s nt,.j no,.s by_])=>.need (decide (0<=i/\i.toNat<=q.length/\k=q.length/\q.length<=maxI)) (.br ((q.drop i.toNat).all (ltB nt no)) (.leaf (.exit 2,([.ptr 0 0,.ptr 1 0,.sl NTd l,.j k0,.j i0],[some (.box [.sl TPd ts,.sl FNd fs]),some (.box (Lf w p ws v b t))]))) (.leaf (.ret,([.b false],[]))))
    | _=>.no)
   | _=>.no)
  | _=>.no)
 | _=>.no⟩
abbrev Xw:FuncId->Option Ent:=Aa [(77,.rd1 YE),(115,.rd1 A0),(97,.rd1 Aea)]
theorem NR (ts:List Tp) (fs:List Fa) (w:Int) (p:By) (ws:List Wt) (v:List Ty) (b:List Nt) (t:Int) (l:List Nt) (k i:Int):At prog Xw (Aa [(2,LN),(11,LP)]) 0 (body f120 0) LN ([.ptr 0 0,.ptr 1 0,.sl NTd l,.j k,.j i],[some (.box [.sl TPd ts,.sl FNd fs]),some (.box (Lf w p ws v b t))]) =
 ((ifB (decide (i<k)) (ifT (decide (0<=i)&&decide (i<(↑l.length:Int))) (Ak l[i.toNat]? fun z=>ifB (decide (atT ts z.1<(0:Int))) rF (ifT (decide ((0:Int)<=atT ts z.1)&&decide (atT ts z.1<(↑ts.length:Int))) (Ak ts[(atT ts z.1).toNat]? fun z_1=>ifB (!decide ((1:Int)<=
 z.2.1/\z.2.1<=z_1.2.2.1)) rF (ifT (decide (v.length<=4000000000)&&nmL v) (ifB (!F5 v z.2.2.1) rF (ifB (!Tx v z.2.2.1) rF (ifT (decide (0<=i)&&decide (i<=(↑b.length:Int))) (ifT (decide ((0:Int)<=
 (0:Int)/\0<=(take (i.toNat-0) (drop 0 b)).length/\(↑(take (i.toNat-0) (drop 0 b)).length:Int) =
 (↑(take (i.toNat-0) (drop 0 b)).length:Int)/\(take (i.toNat-0) (drop 0 b)).length<=maxI)) (ifB ((drop (0
 : Nat) (take (i.toNat-0) (drop 0 b))).all (ltB z.1 z.2.1)) (some (Ex.normal,[V.ptr 0 0,V.ptr 1 0,V.sl NTd l,V.j k,V.i .i64
 (i64.wrap (i+1))],[some (Blk.box [V.sl TPd ts,V.sl FNd fs]),some (Blk.box (Lf w p ws v b t))])) rF)))))))))) (some (Ex.exit 0,[V.ptr 0 0],[some (Blk.box (Lf w p ws v b t))]))):_):=by kernel_rfl
theorem NT (ts:List Tp) (fs:List Fa) (w:Int) (p:By) (ws:List Wt) (v:List Ty) (b:List Nt) (t:Int) (l:List Nt) (k0 i0:Int) (q:List Nt) (nt:By) (no:Int) (by_:By) (k i:Int):At prog Xw (Aa [(2,LN),(11,LP)]) 0 (body f120 1) LP ([.ptr 0 0,.ptr 1 0,.ptr 2 0,.sl NTd l,.j k0,.j i0,.sl NTd q,.j k,.j i],[some (.box [.sl TPd ts,.sl FNd fs]),some (.box (Lf w p ws v b t)),some (.box [.s nt,.j no,.s by_])]) =
 ((ifB (decide (i<k)) (ifT (decide (0<=i)&&decide (i<(↑q.length:Int))) (Ak q[i.toNat]? fun z=>ifB (z.1==nt) (ifB (decide (z.2.1>=no)) rF (some (Ex.normal,[V.ptr 0 0,V.ptr 1 0,V.ptr 2 0,V.sl NTd l,V.j k0,V.j i0,V.sl NTd q,V.j k,V.j (i64.wrap (i+1))],
 [some (Blk.box [V.sl TPd ts,V.sl FNd fs]),some (Blk.box (Lf w p ws v b t)),some (Blk.box [V.s nt,V.j no,V.s
 by_])]))) (some (Ex.normal,[V.ptr 0 0,V.ptr 1 0,V.ptr 2 0,V.sl NTd l,V.j k0,V.j i0,V.sl NTd q,V.j k,V.j (i64.wrap (i+1))],[some
 (Blk.box [V.sl TPd ts,V.sl FNd fs]),some (Blk.box (Lf w p ws v b t)),some (Blk.box [V.s nt,V.j no,V.s
 by_])])))) (some (Ex.exit 2,[V.ptr 0 0,V.ptr 1 0,V.sl NTd l,V.j k0,V.j i0],[some (Blk.box [V.sl TPd ts,V.sl FNd fs]),some (Blk.box (Lf w p ws v b t))]))):_):=by kernel_rfl
theorem ZN (ts:List Tp) (fs:List Fa) (w:Int) (p:By) (ws:List Wt) (v:List Ty) (b:List Nt) (t:Int):Aw prog Xw (Aa [(2,LN),(11,LP)]) f120 [.agg [.sl TPd ts,.sl FNd fs],.agg (Lf w p ws v b t)] [] =
 ((ifT (decide ((0:Int)<=(0:Int)/\0<=b.length/\(↑b.length:Int)=(↑b.length:Int)/\eqT (List Nt) b b)&&(decide (v.length<=4000000000)&&(nmL v
 && HM b))) (ifB (IV ts v b 0) (some (V.b (decide ((↑b.length:Int)<=(10:Int))),[])) nF)):_):=by kernel_rfl
theorem WA (ts:List Tp) (fs:List Fa) (w:Int) (p:By) (ws:List Wt) (v:List Ty) (l:List Nt) (t:Int) (hv:decide (v.length<=4000000000)=true) (hn:nmL v=true) (hl:l.length<=4000000000) (i:Nat) (h1:i<=l.length) (ex:Ex) (d':Dt)
  (hx:(Br.br (IV ts v l i) (.leaf (.exit 0,([.ptr 0 0],[some (.box (Lf w p ws v l t))]))) (.leaf (.ret,([.b false],[]))):Br (Ex×Dt)).run=some (ex,d')):Runs prog Xw (Aa [(2,LN),(11,LP)]) 0 (body f120 0) LN ([.ptr 0 0,.ptr 1 0,.sl NTd l,.j (l.length:Int),.j (i:Int)],[some (.box [.sl TPd ts,.sl FNd fs]),some (.box (Lf w p ws v l t))]) ex d':=by
 have hM:=mxI;refine B3 (l:=range l.length) (ntS ts v l) (fun i=>([.ptr 0 0,.ptr 1 0,.sl NTd l,.j (l.length:Int),.j (i:Int)],[some (.box [.sl TPd ts,.sl FNd fs]),some (.box (Lf w p ws v l t))])) (ex:=(.exit 0,([.ptr 0 0],[some (.box (Lf w p ws v l t))]))) (rt:=(.ret,([.b false],[]))) (by simp) (by simp) (fun n hn'=>?_) ?_ (l.length-i) i (by simp; omega) ex d' hx
 ·have hlt:n<l.length:=by simpa using hn'
  have hr:=NR ts fs w p ws v l t l l.length n
  try dsimp only [shr] at hr
  rw [Ae (dcT (by omega)),T2 (by omega),ntN,gtE hlt,Ai,Ap (n:=n) (by omega),hv,hn] at hr;refine hr.trans ?_;clear hr;rw [getElem_range]
  have e:ntS ts v l n=(decide (0<=atT ts l[n].1)&&(decide (1<=l[n].2.1/\l[n].2.1<=F4 ts l[n].1)&&(F5 v l[n].2.2.1&&(l.take n).all (ltB l[n].1 l[n].2.1)))):=by
   unfold ntS;rw [gtE hlt]
  rw [e];rcases Ua ts l[n].1 with h1 | ⟨h1,h2,h3⟩
  ·rw [Ae (dcT h1),dcF (by omega)];rfl
  ·have ec:F4 ts l[n].1=ts[(atT ts l[n].1).toNat].2.2.1:=by unfold F4; rw [gtE h2]
   rw [Ac (dcF (by omega)),Ab (by simp only [anE,dcE]; exact ⟨h1,h3⟩),gtE h2,Ai,<-ec,dcT h1,Bool.true_and,Nat.sub_zero,drop_zero,drop_zero];have hk:F5 v l[n].2.2.1=true->Tx v l[n].2.2.1=true:=fun h=>by unfold F5 at h; exact ((anE _ _).mp h).1
   generalize decide (1<=l[n].2.1/\l[n].2.1<=F4 ts l[n].1)=c1
   cases c1 with
   | false=>rfl
   | true=>
    cases hq:F5 v l[n].2.2.1 with
    | false=>rfl
    | true=>
     have ht:(l.take n).length<=maxI:=by simp; omega
     rw [hk hq,Ab (show (decide (0<=(n:Int))&&decide ((n:Int)<=(l.length:Int)))=true by simp only [anE,dcE]; omega),Ab (dcT ⟨by omega,by omega,rfl,ht⟩)];cases (l.take n).all (ltB l[n].1 l[n].2.1)<;>rfl
 ·have hr:=NR ts fs w p ws v l t l l.length l.length
  try dsimp only [shr] at hr
  rw [Ac (dcF (by omega))] at hr;simp only [length_range];exact hr
theorem W9 (ts:List Tp) (fs:List Fa) (w:Int) (p:By) (ws:List Wt) (v:List Ty) (b:List Nt) (t:Int) (l:List Nt) (k0 i0:Int) (q:List Nt) (nt:By) (no:Int) (by_:By) (h3:q.length<=maxI) (i:Nat) (h1:i<=q.length) (ex:Ex) (d':Dt)
  (hx:(Br.br ((q.drop i).all (ltB nt no)) (.leaf (.exit 2,([.ptr 0 0,.ptr 1 0,.sl NTd l,.j k0,.j i0],[some (.box [.sl TPd ts,.sl FNd fs]),some (.box (Lf w p ws v b t))]))) (.leaf (.ret,([.b false],[]))):Br (Ex×Dt)).run=some (ex,d')):Runs prog Xw (Aa [(2,LN),(11,LP)]) 0 (body f120 1) LP ([.ptr 0 0,.ptr 1 0,.ptr 2 0,.sl NTd l,.j k0,.j i0,.sl NTd q,.j (q.length:Int),.j (i:Int)],[some (.box [.sl TPd ts,.sl FNd fs]),some (.box (Lf w p ws v b t)),some (.box [.s nt,.j no,.s by_])]) ex d':=by
 have hM:=mxI;refine B3 (l:=q) (ltB nt no) (fun i=>([.ptr 0 0,.ptr 1 0,.ptr 2 0,.sl NTd l,.j k0,.j i0,.sl NTd q,.j (q.length:Int),.j (i:Int)],[some (.box [.sl TPd ts,.sl FNd fs]),some (.box (Lf w p ws v b t)),some (.box [.s nt,.j no,.s by_])])) (ex:=(.exit 2,([.ptr 0 0,.ptr 1 0,.sl NTd l,.j k0,.j i0],[some (.box [.sl TPd ts,.sl FNd fs]),some (.box (Lf w p ws v b t))]))) (rt:=(.ret,([.b false],[]))) (by simp) (by simp) (fun n hlt=>?_) ?_ (q.length-i) i (by omega) ex d' hx
 ·have hr:=NT ts fs w p ws v b t l k0 i0 q nt no by_ q.length n
  try dsimp only [shr] at hr
  rw [Ae (dcT (by omega)),T2 (by omega),ntN,gtE hlt,Ai,Ap (n:=n) (by omega)] at hr;refine hr.trans ?_;unfold ltB;cases q[n].1==nt<;>cases decide (q[n].2.1>=no)<;>rfl
 ·have hr:=NT ts fs w p ws v b t l k0 i0 q nt no by_ q.length q.length
  try dsimp only [shr] at hr
  rw [Ac (dcF (by omega))] at hr;exact hr
theorem Aih:As prog Xw (Aa [(2,LN),(11,LP)]) 0 (f120.body.getD .skip):=by
 refine LoopsI.loops (cs:=[body f120 0,body f120 1]) ?_ (by kernel_rfl);refine .cons (ent:=LN) (by rfl) (fun d ex d' h=>?_) (.cons (ent:=LP) (by rfl) (fun d ex d' h=>?_) .nil)
 ·unfold LN at h;dsimp only at h;split at h
  ·rename_i l k i bb bf;split at h
   ·rename_i ts fs;split at h
    ·rename_i w p ws v b t;obtain ⟨hc,hx⟩:=Ad h;clear h;rw [anE,anE,anE] at hc;obtain ⟨hc,hv,hn,hb⟩:=hc;obtain ⟨h0,h1,h2,h3⟩:=of_decide_eq_true hc;have h3:l=b:=h3;subst h3;subst h2;obtain ⟨i,rfl⟩:=eq_ofNat_of_zero_le h0;simp only [ntN] at h1 hx;exact WA ts fs w p ws v l t hv hn (Q7 hb).1 i h1 ex d' hx
    ·cases h
   ·cases h
  ·cases h
 ·unfold LP at h;dsimp only at h;split at h
  ·rename_i l k0 i0 q k i bb bf bn;split at h
   ·rename_i ts fs;split at h
    ·rename_i w p ws v b t;split at h
     ·rename_i nt no by_;obtain ⟨hc,hx⟩:=Ad h;clear h;obtain ⟨h0,h1,h2,h3⟩:=of_decide_eq_true hc;subst h2;obtain ⟨i,rfl⟩:=eq_ofNat_of_zero_le h0;simp only [ntN] at h1 hx;exact W9 ts fs w p ws v b t l k0 i0 q nt no by_ h3 i h1 ex d' hx
     ·cases h
    ·cases h
   ·cases h
  ·cases h
theorem Ags:Af prog 120 (Ent.rd1 Aii).F:=by
 refine fcK (kc func77 sat (kc func115 Ia (kc func97 Ajy KnowsL.nil))).knows (Λ:=(Aa [(2,LN),(11,LP)])) func120 fun vs bs r hq=>?_
 unfold Ent.F Aii at hq;dsimp only at hq;split at hq
 ·rename_i ts fs w p ws v b t;obtain ⟨hc,hx⟩:=Ad hq;refine ⟨Aih,(ZN ts fs w p ws v b t).trans (Eq.trans ?_ hx)⟩
  try dsimp only [shr]
  show _=some _;rw [hc,Ab (show (decide ((0:Int)<=0/\0<=b.length/\(b.length:Int)=b.length/\eqT (List Nt) b b)&&true)=true by rw [Bool.and_true]; exact dcT ⟨by omega,by omega,rfl,rfl⟩)]
  cases IV ts v b 0 with
  | false=>rfl
  | true=>
   by_cases q:b.length<=10
   ·rw [dcT q,dcT (by omega)]; rfl
   ·rw [dcF q,dcF (by omega)]; rfl
 ·cases hq

theorem Aby {l:List (By)} (h:tpB l=true) : ∀ y∈l,y≠[35]:=by
 rw [XO,anE,all_eq_true] at h;intro y hy e;have:=h.1 y hy;rw [e,Af4] at this;cases this
theorem Ul : ∀ (p t:List (By)),(∀ y∈t,y≠[35])->tkS E9 p t=tkS inL p t
 | [],_,_=>rfl
 | x::p,[],_=>rfl
 | x::p,y::t,h=>by
  have hy:(y==[35])=false:=beq_false_of_ne (h y (by simp));have e:E9 x y=inL x y:=by unfold E9 inL; rw [hy]; simp [Bool.or_comm]
  rw [H6,H6];dsimp only;rw [e,Ul p t (fun z hz=>h z (by simp [hz]))]
theorem Yc {p t:List (By)} (h:tpB t=true):tk E9 p t=tk inL p t:=by
 unfold tk; rw [Ul p t (Aby h)]
theorem Afx {l:List (By)} (h:tpB l=true):lvB l=true:=by
 unfold tpB at h; exact (anE _ _ ▸ h).1
def Eg (p:By) (z:Rose Lab) (t:Tp):Bool:=!(tk inL (cut 47 p) (cut 47 t.1)&&!CE z (t2L t.2.1.1 0))
def Dg (ts:List Tp):Bool:=decide (ts.length<=4000000000)&&(ts.all Ev&&ts.all tOK)
def P4 (ts:List Tp) (w:Int) (p:By) (ws:List Wt) (v:List Ty) (b:List Nt) (t:Int):Bool:=decide (0<=w/\w<=100)&&(lvB (cut 47 p)&&(B6 ws&&(AN v&&(decide (0<=t/\t<=100000)&&(ts.all (Eg p (t2L v 0))&&(Ie ts (t2L v 0) [] b&&decide (b.length<=10)))))))
def GX (ts:List Tp) (p:By) (v:List Ty) (b:List Nt):Bool:=Dg ts&&(decide (p.length<=4000000000/\v.length<=4000000000)&&(nmL v&&HM b))
def Aak:Gm
 | [.bx [.sl TPd ts,.sl FNd fs] 0,.agg (Lf w p ws v b t)],[]=>.need (GX ts p v b) (.leaf (.b (P4 ts w p ws v b t),[]))
 | _,_=>.no
def fnE:LoopEnt:=⟨67,[0,3,5,40,41,42],[0,3,5],[4],fun
 | ([.bx [.sl TPd ts,.sl FNd fs] 0,.ptr 0 0,.ptr 1 0,.sl TPd l,.j k,.j i],[bf,bk,br])=>(match bf with
  | some (.box (Lf w p ws v b t))=>(match bk with
   | some (.box [.j x0,.s x1,.j x2,.b x3,.j x4,.ref 2 0 n])=>(match br with
    | R0 (.tree LCd) ks=>.need (decide (n=ks.length)&&(decide (0<=i/\i.toNat<=l.length/\k=l.length/\eqT (List Tp) l ts/\BM (.node (x0,x1,x2,x3,x4,()) ks:Rose Lab)=true/\lvB (cut 47 p)=true/\p.length<=4000000000)&&Dg l)) (.br ((l.drop i.toNat).all (Eg p (.node (x0,x1,x2,x3,x4,()) ks:Rose Lab))) (.leaf (.exit 0,([.bx [.sl TPd ts,.sl FNd fs] 0,.ptr 0 0,.ptr 1 0],[some (.box (Lf w p ws v b t)),some (.box [.j (.node (x0,x1,x2,x3,x4,()) ks:Rose Lab).lab.1,.s (.node (x0,x1,x2,x3,x4,()) ks:Rose Lab).lab.2.1,.j (.node (x0,x1,x2,x3,x4,()) ks:Rose Lab).lab.2.2.1,.b (.node (x0,x1,x2,x3,x4,()) ks:Rose Lab).lab.2.2.2.1,.j (.node (x0,x1,x2,x3,x4,()) ks:Rose Lab).lab.2.2.2.2.1,.ref 2 0 (.node (x0,x1,x2,x3,x4,()) ks:Rose Lab).kids.length]),R0 (.tree LCd) (.node (x0,x1,x2,x3,x4,()) ks:Rose Lab).kids]))) (.leaf (.ret,([.b false],[]))))
    | _=>.no)
   | _=>.no)
  | _=>.no)
 | _=>.no⟩
abbrev Afm:FuncId->Option Ent:=Aa [(105,.rd1 G4),(125,.rd1 A0),(126,.rd1 Ob),(127,.rd1 Hp),(108,.rd1 Eo),(107,.rd1 inG),(128,.rd1 (Sc 1000000)),(129,.rd1 Aik)]
theorem Og (ts:List Tp) (fs:List Fa) (w:Int) (p:By) (ws:List Wt) (v:List Ty) (b:List Nt) (t:Int) (z:Rose Lab) (l:List Tp) (k i:Int):At prog Afm (Aa [(5,fnE)]) 0 (body f85 0) fnE ([.bx [.sl TPd ts,.sl FNd fs] 0,.ptr 0 0,.ptr 1 0,.sl TPd l,.j k,.j i],[some (.box (Lf w p ws v b t)),some (.box [.j z.lab.1,.s z.lab.2.1,.j z.lab.2.2.1,.b z.lab.2.2.2.1,.j z.lab.2.2.2.2.1,.ref 2 0 z.kids.length]),R0 (.tree LCd) z.kids]) =
 ((ifB (decide (i<k)) (ifT (decide (0<=i)&&decide (i<(↑l.length:Int))) (Ak l[i.toNat]? fun z_1=>ifT (decide (p.length<=4000000000)) (ifB (lvB (cut (47
 : UInt8) p)) (ifT (decide (List.length z_1.1<=4000000000)) (ifB (lvB (cut (47:UInt8) z_1.1)) (ifB (tk inL (take (cut (47:UInt8) p).length (drop
 0 (cut (47:UInt8) p))) (take (cut (47:UInt8) z_1.1).length (drop 0 (cut (47:UInt8) z_1.1)))) (ifT (decide (List.length z_1.2.1.1
 <= 4000000000)&&nmL z_1.2.1.1) (ifB (AN z_1.2.1.1) (ifT (decide (An (Rose.node ((kf z_1.2.1.1 0).1.lab.1,(kf
 z_1.2.1.1 0).1.lab.2.1,(kf z_1.2.1.1 0).1.lab.2.2.1,(kf z_1.2.1.1 0).1.lab.2.2.2.1,(kf
 z_1.2.1.1 0).1.lab.2.2.2.2.1,()) (take (kf z_1.2.1.1 0).1.kids.length (drop 0 (kf z_1.2.1.1 (0 :
 Nat)).1.kids)))=true/\An (Rose.node (z.lab.1,z.lab.2.1,z.lab.2.2.1,z.lab.2.2.2.1,z.lab.2.2.2.2.1,()) (take z.kids.length
 (drop 0 z.kids)))=true/\Ao (Rose.node (z.lab.1,z.lab.2.1,z.lab.2.2.1,z.lab.2.2.2.1,z.lab.2.2.2.2.1,()) (take
 z.kids.length (drop 0 z.kids)))<=1000000/\Ao (Rose.node (z.lab.1,z.lab.2.1,z.lab.2.2.1,z.lab.2.2.2.1,
 z.lab.2.2.2.2.1,()) (take z.kids.length (drop 0 z.kids)))<=1000000/\Ao (Rose.node ((kf z_1.2.1.1 0).1.lab.1,
 (kf z_1.2.1.1 0).1.lab.2.1,(kf z_1.2.1.1 0).1.lab.2.2.1,(kf z_1.2.1.1 0).1.lab.2.2.2.1,(kf
 z_1.2.1.1 0).1.lab.2.2.2.2.1,()) (take (kf z_1.2.1.1 0).1.kids.length (drop 0 (kf z_1.2.1.1 (0 :
 Nat)).1.kids)))<=1000000)) (ifB (!CE (Rose.node (z.lab.1,z.lab.2.1,z.lab.2.2.1,z.lab.2.2.2.1,z.lab.2.2.2.2.1,())
 (take z.kids.length (drop 0 z.kids))) (Rose.node ((kf z_1.2.1.1 0).1.lab.1,(kf z_1.2.1.1 0).1.lab.2.1,(kf
 z_1.2.1.1 0).1.lab.2.2.1,(kf z_1.2.1.1 0).1.lab.2.2.2.1,(kf z_1.2.1.1 0).1.lab.2.2.2.2.1,())
 (take (kf z_1.2.1.1 0).1.kids.length (drop 0 (kf z_1.2.1.1 0).1.kids)))) rF (some
 (Ex.normal,[V.bx [V.sl TPd ts,V.sl FNd fs] 0,V.ptr 0 0,V.ptr 1 0,V.sl TPd l,V.j k,V.j (i64.wrap (i+1))],[some (Blk.box (Lf w p ws v b t)),some (Blk.box [V.j z.lab.1,V.s z.lab.2.1,V.j z.lab.2.2.1,V.b z.lab.2.2.2.1,V.i
 .i64 z.lab.2.2.2.2.1,V.ref 2 0 z.kids.length]),R0 LCd.tree z.kids])))) none)) (some (Ex.normal,[V.bx [V.sl TPd ts,V.sl FNd fs] (0 :
 Nat),V.ptr 0 0,V.ptr 1 0,V.sl TPd l,V.j k,V.j (i64.wrap (i+1))],[some (Blk.box (Lf w p ws v b t)),some (Blk.box [V.j z.lab.1,V.s z.lab.2.1,V.j z.lab.2.2.1,V.b z.lab.2.2.2.1,V.j z.lab.2.2.2.2.1,V.ref 2 0
 z.kids.length]),R0 LCd.tree z.kids]))) (ifB (tk inL (take (cut (47:UInt8) p).length (drop 0 (cut (47:UInt8) p))) (Ag
 Cd.str.den)) (ifT (decide (List.length z_1.2.1.1<=4000000000)&&nmL z_1.2.1.1) (ifB (AN z_1.2.1.1) (ifT (decide (An (Rose.node ((kf
 z_1.2.1.1 0).1.lab.1,(kf z_1.2.1.1 0).1.lab.2.1,(kf z_1.2.1.1 0).1.lab.2.2.1,(kf z_1.2.1.1 (0 :
 Nat)).1.lab.2.2.2.1,(kf z_1.2.1.1 0).1.lab.2.2.2.2.1,()) (take (kf z_1.2.1.1 0).1.kids.length (drop (0 :
 Nat) (kf z_1.2.1.1 0).1.kids)))=true/\An (Rose.node (z.lab.1,z.lab.2.1,z.lab.2.2.1,z.lab.2.2.2.1,z.lab.2.2.2.2.1,
 ()) (take z.kids.length (drop 0 z.kids)))=true/\Ao (Rose.node (z.lab.1,z.lab.2.1,z.lab.2.2.1,z.lab.2.2.2.1,
 z.lab.2.2.2.2.1,()) (take z.kids.length (drop 0 z.kids)))<=1000000/\Ao (Rose.node (z.lab.1,z.lab.2.1,z.lab.2.2.1,
 z.lab.2.2.2.1,z.lab.2.2.2.2.1,()) (take z.kids.length (drop 0 z.kids)))<=1000000/\Ao (Rose.node ((kf z_1.2.1.1 (0
 : Nat)).1.lab.1,(kf z_1.2.1.1 0).1.lab.2.1,(kf z_1.2.1.1 0).1.lab.2.2.1,(kf z_1.2.1.1 (0 :
 Nat)).1.lab.2.2.2.1,(kf z_1.2.1.1 0).1.lab.2.2.2.2.1,()) (take (kf z_1.2.1.1 0).1.kids.length (drop (0 :
 Nat) (kf z_1.2.1.1 0).1.kids)))<=1000000)) (ifB (!CE (Rose.node (z.lab.1,z.lab.2.1,z.lab.2.2.1,z.lab.2.2.2.1,
 z.lab.2.2.2.2.1,()) (take z.kids.length (drop 0 z.kids))) (Rose.node ((kf z_1.2.1.1 0).1.lab.1,(kf z_1.2.1.1 (0 :
 Nat)).1.lab.2.1,(kf z_1.2.1.1 0).1.lab.2.2.1,(kf z_1.2.1.1 0).1.lab.2.2.2.1,(kf z_1.2.1.1 (0 :
 Nat)).1.lab.2.2.2.2.1,()) (take (kf z_1.2.1.1 0).1.kids.length (drop 0 (kf z_1.2.1.1 0).1.kids)))) rF (some (Ex.normal,[V.bx [V.sl TPd ts,V.sl FNd fs] 0,V.ptr 0 0,V.ptr 1 0,V.sl TPd l,V.j k,V.j (i64.wrap (i +
 1))],[some (Blk.box (Lf w p ws v b t)),some (Blk.box [V.j z.lab.1,V.s z.lab.2.1,V.i .i64
 z.lab.2.2.1,V.b z.lab.2.2.2.1,V.j z.lab.2.2.2.2.1,V.ref 2 0 z.kids.length]),R0 LCd.tree z.kids])))) none)) (some
 (Ex.normal,[V.bx [V.sl TPd ts,V.sl FNd fs] 0,V.ptr 0 0,V.ptr 1 0,V.sl TPd l,V.j k,V.j (i64.wrap (i+1))],[some (Blk.box (Lf w p ws v b t)),some (Blk.box [V.j z.lab.1,V.s z.lab.2.1,V.j z.lab.2.2.1,V.b z.lab.2.2.2.1,V.i
 .i64 z.lab.2.2.2.2.1,V.ref 2 0 z.kids.length]),R0 LCd.tree z.kids]))))) (ifT (decide (List.length z_1.1<=4000000000)) (ifB
 (lvB (cut (47:UInt8) z_1.1)) (ifB (tk inL (Ag Cd.str.den) (take (cut (47:UInt8) z_1.1).length (drop 0 (cut (47:UInt8) z_1.1)))) (ifT
 (decide (List.length z_1.2.1.1<=4000000000)&&nmL z_1.2.1.1) (ifB (AN z_1.2.1.1) (ifT (decide (An (Rose.node ((kf z_1.2.1.1 (0 :
 Nat)).1.lab.1,(kf z_1.2.1.1 0).1.lab.2.1,(kf z_1.2.1.1 0).1.lab.2.2.1,(kf z_1.2.1.1 (0 :
 Nat)).1.lab.2.2.2.1,(kf z_1.2.1.1 0).1.lab.2.2.2.2.1,()) (take (kf z_1.2.1.1 0).1.kids.length (drop (0 :
 Nat) (kf z_1.2.1.1 0).1.kids)))=true/\An (Rose.node (z.lab.1,z.lab.2.1,z.lab.2.2.1,z.lab.2.2.2.1,z.lab.2.2.2.2.1,
 ()) (take z.kids.length (drop 0 z.kids)))=true/\Ao (Rose.node (z.lab.1,z.lab.2.1,z.lab.2.2.1,z.lab.2.2.2.1,
 z.lab.2.2.2.2.1,()) (take z.kids.length (drop 0 z.kids)))<=1000000/\Ao (Rose.node (z.lab.1,z.lab.2.1,z.lab.2.2.1,
 z.lab.2.2.2.1,z.lab.2.2.2.2.1,()) (take z.kids.length (drop 0 z.kids)))<=1000000/\Ao (Rose.node ((kf z_1.2.1.1 (0
 : Nat)).1.lab.1,(kf z_1.2.1.1 0).1.lab.2.1,(kf z_1.2.1.1 0).1.lab.2.2.1,(kf z_1.2.1.1 (0 :
 Nat)).1.lab.2.2.2.1,(kf z_1.2.1.1 0).1.lab.2.2.2.2.1,()) (take (kf z_1.2.1.1 0).1.kids.length (drop (0 :
 Nat) (kf z_1.2.1.1 0).1.kids)))<=1000000)) (ifB (!CE (Rose.node (z.lab.1,z.lab.2.1,z.lab.2.2.1,z.lab.2.2.2.1,
 z.lab.2.2.2.2.1,()) (take z.kids.length (drop 0 z.kids))) (Rose.node ((kf z_1.2.1.1 0).1.lab.1,(kf z_1.2.1.1 (0 :
 Nat)).1.lab.2.1,(kf z_1.2.1.1 0).1.lab.2.2.1,(kf z_1.2.1.1 0).1.lab.2.2.2.1,(kf z_1.2.1.1 (0 :
 Nat)).1.lab.2.2.2.2.1,()) (take (kf z_1.2.1.1 0).1.kids.length (drop 0 (kf z_1.2.1.1 0).1.kids)))) rF (some (Ex.normal,[V.bx [V.sl TPd ts,V.sl FNd fs] 0,V.ptr 0 0,V.ptr 1 0,V.sl TPd l,V.j k,V.j (i64.wrap (i +
 1))],[some (Blk.box (Lf w p ws v b t)),some (Blk.box [V.j z.lab.1,V.s z.lab.2.1,V.i .i64
 z.lab.2.2.1,V.b z.lab.2.2.2.1,V.j z.lab.2.2.2.2.1,V.ref 2 0 z.kids.length]),R0 LCd.tree z.kids])))) none)) (some
 (Ex.normal,[V.bx [V.sl TPd ts,V.sl FNd fs] 0,V.ptr 0 0,V.ptr 1 0,V.sl TPd l,V.j k,V.j (i64.wrap (i+1))],[some (Blk.box (Lf w p ws v b t)),some (Blk.box [V.j z.lab.1,V.s z.lab.2.1,V.j z.lab.2.2.1,V.b z.lab.2.2.2.1,V.i
 .i64 z.lab.2.2.2.2.1,V.ref 2 0 z.kids.length]),R0 LCd.tree z.kids]))) (ifT (decide (List.length z_1.2.1.1<=4000000000)
 && nmL z_1.2.1.1) (ifB (AN z_1.2.1.1) (ifT (decide (An (Rose.node ((kf z_1.2.1.1 0).1.lab.1,(kf z_1.2.1.1 (0 :
 Nat)).1.lab.2.1,(kf z_1.2.1.1 0).1.lab.2.2.1,(kf z_1.2.1.1 0).1.lab.2.2.2.1,(kf z_1.2.1.1 (0 :
 Nat)).1.lab.2.2.2.2.1,()) (take (kf z_1.2.1.1 0).1.kids.length (drop 0 (kf z_1.2.1.1 0).1.kids)))=true/\
 An (Rose.node (z.lab.1,z.lab.2.1,z.lab.2.2.1,z.lab.2.2.2.1,z.lab.2.2.2.2.1,()) (take z.kids.length (drop 0
 z.kids)))=true/\Ao (Rose.node (z.lab.1,z.lab.2.1,z.lab.2.2.1,z.lab.2.2.2.1,z.lab.2.2.2.2.1,()) (take z.kids.length (drop
 0 z.kids)))<=1000000/\Ao (Rose.node (z.lab.1,z.lab.2.1,z.lab.2.2.1,z.lab.2.2.2.1,z.lab.2.2.2.2.1,()) (take
 z.kids.length (drop 0 z.kids)))<=1000000/\Ao (Rose.node ((kf z_1.2.1.1 0).1.lab.1,(kf z_1.2.1.1 (0 :
 Nat)).1.lab.2.1,(kf z_1.2.1.1 0).1.lab.2.2.1,(kf z_1.2.1.1 0).1.lab.2.2.2.1,(kf z_1.2.1.1 (0 :
 Nat)).1.lab.2.2.2.2.1,()) (take (kf z_1.2.1.1 0).1.kids.length (drop 0 (kf z_1.2.1.1 0).1.kids)))<=
 1000000)) (ifB (!CE (Rose.node (z.lab.1,z.lab.2.1,z.lab.2.2.1,z.lab.2.2.2.1,z.lab.2.2.2.2.1,()) (take z.kids.length
 (drop 0 z.kids))) (Rose.node ((kf z_1.2.1.1 0).1.lab.1,(kf z_1.2.1.1 0).1.lab.2.1,(kf z_1.2.1.1 (0 :
 Nat)).1.lab.2.2.1,(kf z_1.2.1.1 0).1.lab.2.2.2.1,(kf z_1.2.1.1 0).1.lab.2.2.2.2.1,()) (take (kf
 z_1.2.1.1 0).1.kids.length (drop 0 (kf z_1.2.1.1 0).1.kids)))) rF (some (Ex.normal,[V.bx [V.sl
 TPd ts,V.sl FNd fs] 0,V.ptr 0 0,V.ptr 1 0,V.sl TPd l,V.j k,V.j (i64.wrap (i+1))],[some (Blk.box (Lf w p ws v b t)),some (Blk.box [V.j z.lab.1,V.s z.lab.2.1,V.j z.lab.2.2.1,V.b z.lab.2.2.2.1,V.i .i64
 z.lab.2.2.2.2.1,V.ref 2 0 z.kids.length]),R0 LCd.tree z.kids])))) none))))))) (some (Ex.exit 0,[V.bx [V.sl TPd ts,V.sl FNd fs] (0 :
 Nat),V.ptr 0 0,V.ptr 1 0],[some (Blk.box (Lf w p ws v b t)),some (Blk.box [V.j z.lab.1,V.s z.lab.2.1,
 V.j z.lab.2.2.1,V.b z.lab.2.2.2.1,V.j z.lab.2.2.2.2.1,V.ref 2 0 z.kids.length]),R0 LCd.tree z.kids]))):_):=by kernel_rfl
theorem Aeo (ts:List Tp) (fs:List Fa) (w:Int) (p:By) (ws:List Wt) (v:List Ty) (b:List Nt) (t:Int):Aw prog Afm (Aa [(5,fnE)]) f85 [.bx [.sl TPd ts,.sl FNd fs] 0,.agg (Lf w p ws v b t)] [] =
 ((ifT (decide (v.length<=4000000000)&&nmL v) (ifB (AN v) (ifB (!decide (0<=w/\w<=100)) nF (ifT (decide (p.length<=4000000000))
 (ifB (!lvB (cut (47:UInt8) p)) nF (ifB (!B6 ws) nF (ifB (!decide (0<=t/\t<=100000)) nF (ifT (decide
 ((kf v 0).1.kids.length=(kf v 0).1.kids.length)&&(decide ((0:Int)<=(0:Int)/\0<=ts.length/\(↑ts.length:Int)=(↑ts.length:Int)
 /\ eqT (List Tp) ts ts/\BM (Rose.node ((kf v 0).1.lab.1,(kf v 0).1.lab.2.1,(kf v 0).1.lab.2.2.1,(kf v (0 :
 Nat)).1.lab.2.2.2.1,(kf v 0).1.lab.2.2.2.2.1,()) (kf v 0).1.kids)=true/\lvB (cut (47:UInt8) p)=true/\p.length<=
 4000000000)&&Dg ts)) (ifB ((drop 0 ts).all (Eg p (Rose.node ((kf v 0).1.lab.1,(kf v 0).1.lab.2.1,(kf v (0 :
 Nat)).1.lab.2.2.1,(kf v 0).1.lab.2.2.2.1,(kf v 0).1.lab.2.2.2.2.1,()) (kf v 0).1.kids))) (ifT (decide (BM
 (Rose.node ((Rose.node ((kf v 0).1.lab.1,(kf v 0).1.lab.2.1,(kf v 0).1.lab.2.2.1,(kf v 0).1.lab.2.2.2.1,
 (kf v 0).1.lab.2.2.2.2.1,()) (kf v 0).1.kids).lab.1,(Rose.node ((kf v 0).1.lab.1,(kf v 0).1.lab.2.1,(kf v (0
 : Nat)).1.lab.2.2.1,(kf v 0).1.lab.2.2.2.1,(kf v 0).1.lab.2.2.2.2.1,()) (kf v 0).1.kids).lab.2.1,
 (Rose.node ((kf v 0).1.lab.1,(kf v 0).1.lab.2.1,(kf v 0).1.lab.2.2.1,(kf v 0).1.lab.2.2.2.1,(kf v (0 :
 Nat)).1.lab.2.2.2.2.1,()) (kf v 0).1.kids).lab.2.2.1,(Rose.node ((kf v 0).1.lab.1,(kf v 0).1.lab.2.1,(kf v (0 :
 Nat)).1.lab.2.2.1,(kf v 0).1.lab.2.2.2.1,(kf v 0).1.lab.2.2.2.2.1,()) (kf v 0).1.kids).lab.2.2.2.1,
 (Rose.node ((kf v 0).1.lab.1,(kf v 0).1.lab.2.1,(kf v 0).1.lab.2.2.1,(kf v 0).1.lab.2.2.2.1,(kf v (0 :
 Nat)).1.lab.2.2.2.2.1,()) (kf v 0).1.kids).lab.2.2.2.2.1,()) (take (Rose.node ((kf v 0).1.lab.1,(kf v (0 :
 Nat)).1.lab.2.1,(kf v 0).1.lab.2.2.1,(kf v 0).1.lab.2.2.2.1,(kf v 0).1.lab.2.2.2.2.1,()) (kf v (0 :
 Nat)).1.kids).kids.length (drop 0 (Rose.node ((kf v 0).1.lab.1,(kf v 0).1.lab.2.1,(kf v 0).1.lab.2.2.1,(kf v
 0).1.lab.2.2.2.1,(kf v 0).1.lab.2.2.2.2.1,()) (kf v 0).1.kids).kids)))=true)&&HM b) (some (V.b (Ie ts (Rose.node
 ((Rose.node ((kf v 0).1.lab.1,(kf v 0).1.lab.2.1,(kf v 0).1.lab.2.2.1,(kf v 0).1.lab.2.2.2.1,(kf v (0 :
 Nat)).1.lab.2.2.2.2.1,()) (kf v 0).1.kids).lab.1,(Rose.node ((kf v 0).1.lab.1,(kf v 0).1.lab.2.1,(kf v (0 :
 Nat)).1.lab.2.2.1,(kf v 0).1.lab.2.2.2.1,(kf v 0).1.lab.2.2.2.2.1,()) (kf v 0).1.kids).lab.2.1,(Rose.node
 ((kf v 0).1.lab.1,(kf v 0).1.lab.2.1,(kf v 0).1.lab.2.2.1,(kf v 0).1.lab.2.2.2.1,(kf v (0 :
 Nat)).1.lab.2.2.2.2.1,()) (kf v 0).1.kids).lab.2.2.1,(Rose.node ((kf v 0).1.lab.1,(kf v 0).1.lab.2.1,(kf v (0 :
 Nat)).1.lab.2.2.1,(kf v 0).1.lab.2.2.2.1,(kf v 0).1.lab.2.2.2.2.1,()) (kf v 0).1.kids).lab.2.2.2.1,
 (Rose.node ((kf v 0).1.lab.1,(kf v 0).1.lab.2.1,(kf v 0).1.lab.2.2.1,(kf v 0).1.lab.2.2.2.1,(kf v (0 :
 Nat)).1.lab.2.2.2.2.1,()) (kf v 0).1.kids).lab.2.2.2.2.1,()) (take (Rose.node ((kf v 0).1.lab.1,(kf v (0 :
 Nat)).1.lab.2.1,(kf v 0).1.lab.2.2.1,(kf v 0).1.lab.2.2.2.1,(kf v 0).1.lab.2.2.2.2.1,()) (kf v (0 :
 Nat)).1.kids).kids.length (drop 0 (Rose.node ((kf v 0).1.lab.1,(kf v 0).1.lab.2.1,(kf v 0).1.lab.2.2.1,(kf v
 0).1.lab.2.2.2.1,(kf v 0).1.lab.2.2.2.2.1,()) (kf v 0).1.kids).kids))) (Ag (By×Int)) b&&decide (b.length<=
 10)),[]))) nF))))))) (ifB (!decide (0<=w/\w<=100)) nF (ifT (decide (p.length<=4000000000)) (ifB (!lvB (cut
 (47:UInt8) p)) nF (ifB (!B6 ws) nF nF)))))):_):=by kernel_rfl
theorem H5 {ts:List Tp} (h:Dg ts=true):ts.length<=4000000000/\ts.all Ev=true/\(∀ t∈ts,(t.1.length<=4000000000/\t.2.1.1.length<=4000000000/\nmL t.2.1.1=true)/\tpB (cut 47 t.1)=true/\AN t.2.1.1=true/\0<=t.2.2.1/\t.2.2.1<=1000):=by
 unfold Dg at h;rw [anE,anE,dcE] at h;obtain ⟨h1,h2,h3⟩:=h;refine ⟨h1,h2,fun t ht=>?_⟩;have a:=all_eq_true.1 h2 t ht;have b:=all_eq_true.1 h3 t ht;unfold Ev at a;unfold tOK at b;simp only [anE,dcE] at a b;exact ⟨⟨a.1,a.2.1,a.2.2⟩,b.1,b.2.1,b.2.2⟩
theorem Aep (l:List Tp) (fs:List Fa) (w:Int) (p:By) (ws:List Wt) (v:List Ty) (b:List Nt) (t:Int) (z:Rose Lab) (hz:BM z=true) (hlv:lvB (cut 47 p)=true) (hp:p.length<=4000000000) (ht:Dg l=true) (i:Nat) (h1:i<=l.length) (ex:Ex) (d':Dt)
  (hx:(Br.br ((l.drop i).all (Eg p z)) (.leaf ((.exit 0:Ex),([.bx [.sl TPd l,.sl FNd fs] 0,.ptr 0 0,.ptr 1 0],[some (.box (Lf w p ws v b t)),some (.box [.j z.lab.1,.s z.lab.2.1,.j z.lab.2.2.1,.b z.lab.2.2.2.1,.j z.lab.2.2.2.2.1,.ref 2 0 z.kids.length]),R0 (.tree LCd) z.kids]))) (.leaf ((.ret:Ex),([.b false],[]))):Br (Ex×Dt)).run=some (ex,d')):Runs prog Afm (Aa [(5,fnE)]) 0 (body f85 0) fnE ([.bx [.sl TPd l,.sl FNd fs] 0,.ptr 0 0,.ptr 1 0,.sl TPd l,.j (l.length:Int),.j (i:Int)],[some (.box (Lf w p ws v b t)),some (.box [.j z.lab.1,.s z.lab.2.1,.j z.lab.2.2.1,.b z.lab.2.2.2.1,.j z.lab.2.2.2.2.1,.ref 2 0 z.kids.length]),R0 (.tree LCd) z.kids]) ex d':=by
 have hM:=mxI;obtain ⟨hl,_,hall⟩:=H5 ht;refine B3 (l:=l) (Eg p z) (fun i=>([.bx [.sl TPd l,.sl FNd fs] 0,.ptr 0 0,.ptr 1 0,.sl TPd l,.j (l.length:Int),.j (i:Int)],[some (.box (Lf w p ws v b t)),some (.box [.j z.lab.1,.s z.lab.2.1,.j z.lab.2.2.1,.b z.lab.2.2.2.1,.j z.lab.2.2.2.2.1,.ref 2 0 z.kids.length]),R0 (.tree LCd) z.kids])) (ex:=((.exit 0:Ex),([.bx [.sl TPd l,.sl FNd fs] 0,.ptr 0 0,.ptr 1 0],[some (.box (Lf w p ws v b t)),some (.box [.j z.lab.1,.s z.lab.2.1,.j z.lab.2.2.1,.b z.lab.2.2.2.1,.j z.lab.2.2.2.2.1,.ref 2 0 z.kids.length]),R0 (.tree LCd) z.kids]))) (rt:=((.ret:Ex),([.b false],[]))) (by simp) (by simp) (fun n hlt=>?_) ?_ (l.length-i) i (by omega) ex d' hx
 ·have hr:=Og l fs w p ws v b t z l l.length n
  try dsimp only [shr] at hr
  obtain ⟨⟨s1,s2,s3⟩,g1,g2,_⟩:=hall _ (getElem_mem hlt);obtain ⟨q1,q2,q3⟩:=Bw hz;rw [Ae (dcT (by omega)),T2 (by omega),ntN,gtE hlt,Ai,Ap (n:=n) (by omega),Ab (dcT hp),hlv,AR,Ab (dcT s1),Afx g1,AR] at hr;refine hr.trans ?_;clear hr hall hx;obtain ⟨m1,m2,m3⟩:=CC g2;obtain ⟨r1,r2,r3⟩:=Bw m1;have ek:=(Fk l[n].2.1.1).2 g2;simp only [drop_zero,take_length,Bc];unfold Eg
  cases h3:tk inL (cut 47 p) (cut 47 l[n].1) with
  | false=>rfl
  | true=>
   rw [AR,Ab (by simp only [anE,dcE]; exact ⟨s2,s3⟩),g2,AR,ek,Ab (dcT ⟨r2,q2,by omega,by omega,by omega⟩)];cases CE z (t2L l[n].2.1.1 0)<;>rfl
 ·have hr:=Og l fs w p ws v b t z l l.length l.length
  try dsimp only [shr] at hr
  rw [Ac (dcF (by omega))] at hr;exact hr
theorem Ak9:As prog Afm (Aa [(5,fnE)]) 0 (f85.body.getD .skip):=by
 refine Am (a:=body f85 0) (by kernel_rfl) fun d ex d' h=>?_
 unfold fnE at h;dsimp only at h;split at h
 ·rename_i ts fs l k i bf bk br;split at h
  ·rename_i w p ws v b t;split at h
   ·rename_i x0 x1 x2 x3 x4 n;split at h
    ·rename_i ks;obtain ⟨hc,hx⟩:=Ad h;clear h;rw [anE,anE,dcE] at hc;obtain ⟨hn,hc,ht⟩:=hc;obtain ⟨h0,h1,h2,h3,h4,h5,h6⟩:=of_decide_eq_true hc;have h3:l=ts:=h3;subst h3;subst h2;subst hn;obtain ⟨i,rfl⟩:=eq_ofNat_of_zero_le h0;simp only [ntN] at h1 hx;exact Aep l fs w p ws v b t (.node (x0,x1,x2,x3,x4,()) ks:Rose Lab) h4 h5 h6 ht i h1 ex d' hx
    ·cases h
   ·cases h
  ·cases h
 ·cases h
theorem Ain:Af prog 85 (Ent.rd1 Aak).F:=by
 refine AB (kc func105 Py (kc func125 Dd (kc func126 Aky (kc func127 ZR (kc func108 Pr (kc func107 tin (kc func128 (Abw 1000000) (kc func129 Aly KnowsL.nil)))))))).knows (Λ:=(Aa [(5,fnE)])) func85 (c:=f85.body.getD .skip) (by kernel_rfl) fun vs bs r hq hv hb=>?_
 unfold Ent.F Aak at hq;dsimp only at hq;split at hq
 ·rename_i ts fs w p ws v b t;obtain ⟨hc,hx⟩:=Ad hq;unfold GX at hc;simp only [anE,dcE] at hc;obtain ⟨ht,⟨hp,hv⟩,hn,hb⟩:=hc;refine ⟨Ak9,(Aeo ts fs w p ws v b t).trans (Eq.trans ?_ hx)⟩
  try dsimp only [shr]
  show _=some _;unfold P4;simp only [drop_zero,take_length,Bc];rw [Ab (by simp only [anE,dcE]; exact ⟨hv,hn⟩)];generalize hw:decide (0<=w/\w<=100)=c1;generalize decide (0<=t/\t<=100000)=c2
  cases hk:AN v with
  | false=>
   rw [A6]
   cases c1 with
   | false=>rfl
   | true=>
    rw [Bool.not_true,A6,Ab (dcT hp)]
    cases lvB (cut 47 p) with
    | false=>rfl
    | true=>cases B6 ws<;>rfl
  | true=>
   have ek:=(Fk v).2 hk;rw [AR,ek]
   cases c1 with
   | false=>rfl
   | true=>
    rw [Bool.not_true,A6,Ab (dcT hp)]
    cases hl:lvB (cut 47 p) with
    | false=>rfl
    | true=>
     cases B6 ws with
     | false=>rfl
     | true=>
      cases c2 with
      | false=>rfl
      | true=>
       have g:=(CC hk).1;rw [Bool.not_true,A6,A6,A6,Ab (by rw [anE,anE]; exact ⟨dcT (by first | rfl | trivial),dcT (by refine ⟨by omega,by omega,?_,?_,g,?_,hp⟩<;>first | rfl | trivial),ht⟩)]
       cases ts.all (Eg p (t2L v 0)) with
       | false=>rfl
       | true=>
        rw [AR,Ab (by simp only [anE,dcE]; exact ⟨g,hb⟩)];rfl
 ·cases hq
def Rt (ts:List Tp) (w:Int) (p:By) (ws:List Wt) (v:List Ty) (b:List Nt) (t:Int):Bool:=decide (0<=w/\w<=100)&&(lvB (cut 47 p)&&(B6 ws&&(AN v&&(decide (0<=t/\t<=100000)&&(ts.all (Eg p (t2L v 0))&&(IV ts v b 0&&decide (b.length<=10)))))))
def Aaj:Gm
 | [.agg [.sl TPd ts,.sl FNd fs],.agg (Lf w p ws v b t)],[]=>.need (GX ts p v b) (.leaf (.b (Rt ts w p ws v b t),[]))
 | _,_=>.no
def sfE:LoopEnt:=⟨61,[2,3,36,37,38],[2,3],[4],fun
 | ([.ptr 0 0,.ptr 1 0,.sl TPd l,.j k,.j i],[bb,bf])=>(match bb with
  | some (.box [.sl TPd ts,.sl FNd fs])=>(match bf with
   | some (.box (Lf w p ws v b t))=>.need (decide (0<=i/\i.toNat<=l.length/\k=l.length/\eqT (List Tp) l ts/\AN v=true/\p.length<=4000000000/\v.length<=4000000000)&&Dg l) (.br ((l.drop i.toNat).all (Eg p (t2L v 0))) (.leaf ((.exit 0:Ex),([.ptr 0 0,.ptr 1 0],[some (.box [.sl TPd ts,.sl FNd fs]),some (.box (Lf w p ws v b t))]))) (.leaf (.ret,([.b false],[]))))
   | _=>.no)
  | _=>.no)
 | _=>.no⟩
abbrev Afl:FuncId->Option Ent:=Aa [(115,.rd1 A0),(116,.rd1 Ob),(117,.rd1 Hp),(114,.rd1 Ge),(99,.rd1 UG),(119,.rd1 DD),(118,.rd1 (S8 1000000)),(120,.rd1 Aii)]
theorem Le (ts:List Tp) (fs:List Fa) (w:Int) (p:By) (ws:List Wt) (v:List Ty) (b:List Nt) (t:Int) (l:List Tp) (k i:Int):At prog Afl (Aa [(4,sfE)]) 0 (body f78 0) sfE ([.ptr 0 0,.ptr 1 0,.sl TPd l,.j k,.j i],[some (.box [.sl TPd ts,.sl FNd fs]),some (.box (Lf w p ws v b t))]) =
 ((ifB (decide (i<k)) (ifT (decide (0<=i)&&decide (i<(↑l.length:Int))) (Ak l[i.toNat]? fun z=>ifT (decide (p.length<=4000000000/\List.length z.1<=
 4000000000)) (ifB (tk E9 (cut (47:UInt8) p) (cut (47:UInt8) z.1)) (ifT (decide ((0:Int)<=(0:Int)/\0<List.length z.2.1.1/\
 List.length z.2.1.1<=4000000000)) (ifT (decide ((0:Int)<=(0:Int)/\0<v.length/\v.length<=4000000000)) (ifT (decide (An
 (Rose.node ((t2L z.2.1.1 0).lab.1,(t2L z.2.1.1 0).lab.2.1,(t2L z.2.1.1 0).lab.2.2.1,(t2L z.2.1.1 (0 :
 Nat)).lab.2.2.2.1,(t2L z.2.1.1 0).lab.2.2.2.2.1,()) (take (t2L z.2.1.1 0).kids.length (drop 0 (t2L
 z.2.1.1 0).kids)))=true/\An (Rose.node ((t2L v 0).lab.1,(t2L v 0).lab.2.1,(t2L v 0).lab.2.2.1,(t2L v (0 :
 Nat)).lab.2.2.2.1,(t2L v 0).lab.2.2.2.2.1,()) (take (t2L v 0).kids.length (drop 0 (t2L v 0).kids)))=true/\
 Ao (Rose.node ((t2L v 0).lab.1,(t2L v 0).lab.2.1,(t2L v 0).lab.2.2.1,(t2L v 0).lab.2.2.2.1,(t2L v (0 :
 Nat)).lab.2.2.2.2.1,()) (take (t2L v 0).kids.length (drop 0 (t2L v 0).kids)))<=1000000/\Ao (Rose.node ((t2L v (0
 : Nat)).lab.1,(t2L v 0).lab.2.1,(t2L v 0).lab.2.2.1,(t2L v 0).lab.2.2.2.1,(t2L v 0).lab.2.2.2.2.1,())
 (take (t2L v 0).kids.length (drop 0 (t2L v 0).kids)))<=1000000/\Ao (Rose.node ((t2L z.2.1.1 0).lab.1,(t2L
 z.2.1.1 0).lab.2.1,(t2L z.2.1.1 0).lab.2.2.1,(t2L z.2.1.1 0).lab.2.2.2.1,(t2L z.2.1.1 (0 :
 Nat)).lab.2.2.2.2.1,()) (take (t2L z.2.1.1 0).kids.length (drop 0 (t2L z.2.1.1 0).kids)))<=1000000))
 (ifB (!CE (Rose.node ((t2L v 0).lab.1,(t2L v 0).lab.2.1,(t2L v 0).lab.2.2.1,(t2L v 0).lab.2.2.2.1,(t2L v (0 :
 Nat)).lab.2.2.2.2.1,()) (take (t2L v 0).kids.length (drop 0 (t2L v 0).kids))) (Rose.node ((t2L z.2.1.1 (0 :
 Nat)).lab.1,(t2L z.2.1.1 0).lab.2.1,(t2L z.2.1.1 0).lab.2.2.1,(t2L z.2.1.1 0).lab.2.2.2.1,(t2L
 z.2.1.1 0).lab.2.2.2.2.1,()) (take (t2L z.2.1.1 0).kids.length (drop 0 (t2L z.2.1.1 0).kids))))
 rF (some (Ex.normal,[V.ptr 0 0,V.ptr 1 0,V.sl TPd l,V.j k,V.j (i64.wrap (i+1))],[some (Blk.box [V.sl TPd ts,V.sl
 FNd fs]),some (Blk.box (Lf w p ws v b t))])))))) (some (Ex.normal,[V.ptr 0 0,V.ptr 1 0,V.sl TPd l,V.j k,V.i
 .i64 (i64.wrap (i+1))],[some (Blk.box [V.sl TPd ts,V.sl FNd fs]),some (Blk.box (Lf w p ws v b t))])))))
 (some (Ex.exit 0,[V.ptr 0 0,V.ptr 1 0],[some (Blk.box [V.sl TPd ts,V.sl FNd fs]),some (Blk.box (Lf w p ws v b t))]))):_):=by kernel_rfl
theorem VJ (ts:List Tp) (fs:List Fa) (w:Int) (p:By) (ws:List Wt) (v:List Ty) (b:List Nt) (t:Int):Aw prog Afl (Aa [(4,sfE)]) f78 [.agg [.sl TPd ts,.sl FNd fs],.agg (Lf w p ws v b t)] [] =
 ((ifB (!decide (0<=w/\w<=100)) nF (ifT (decide (p.length<=4000000000)) (ifB (!lvB (cut (47:UInt8) p)) nF (ifB (!B6
 ws) nF (ifT (decide (v.length<=4000000000)&&nmL v) (ifB (!AN v) nF (ifB (!decide (0<=t/\t<=100000)) nF (ifT (decide ((0:Int)<=(0:Int)/\0<=ts.length/\(↑ts.length:Int)=(↑ts.length:Int)/\eqT (List Tp) ts ts/\AN v=true/\p.length<=
 4000000000/\v.length<=4000000000)&&Dg ts) (ifB ((drop 0 ts).all (Eg p (t2L v 0))) (ifT (decide (v.length<=(4000000000 :
 Nat))&&(nmL v&&HM b)) (some (V.b (IV ts v b 0&&decide (b.length<=10)),[]))) nF))))))))):_):=by kernel_rfl
theorem VK (l:List Tp) (fs:List Fa) (w:Int) (p:By) (ws:List Wt) (v:List Ty) (b:List Nt) (t:Int) (hk:AN v=true) (hp:p.length<=4000000000) (hv:v.length<=4000000000) (ht:Dg l=true) (i:Nat) (h1:i<=l.length) (ex:Ex) (d':Dt)
  (hx:(Br.br ((l.drop i).all (Eg p (t2L v 0))) (.leaf ((.exit 0:Ex),([.ptr 0 0,.ptr 1 0],[some (.box [.sl TPd l,.sl FNd fs]),some (.box (Lf w p ws v b t))]))) (.leaf ((.ret:Ex),([.b false],[]))):Br (Ex×Dt)).run=some (ex,d')):Runs prog Afl (Aa [(4,sfE)]) 0 (body f78 0) sfE ([.ptr 0 0,.ptr 1 0,.sl TPd l,.j (l.length:Int),.j (i:Int)],[some (.box [.sl TPd l,.sl FNd fs]),some (.box (Lf w p ws v b t))]) ex d':=by
 have hM:=mxI;obtain ⟨hl,_,hall⟩:=H5 ht;refine B3 (l:=l) (Eg p (t2L v 0)) (fun i=>([.ptr 0 0,.ptr 1 0,.sl TPd l,.j (l.length:Int),.j (i:Int)],[some (.box [.sl TPd l,.sl FNd fs]),some (.box (Lf w p ws v b t))])) (ex:=((.exit 0:Ex),([.ptr 0 0,.ptr 1 0],[some (.box [.sl TPd l,.sl FNd fs]),some (.box (Lf w p ws v b t))]))) (rt:=((.ret:Ex),([.b false],[]))) (by simp) (by simp) (fun n hlt=>?_) ?_ (l.length-i) i (by omega) ex d' hx
 ·have hr:=Le l fs w p ws v b t l l.length n
  try dsimp only [shr] at hr
  obtain ⟨⟨s1,s2,s3⟩,g1,g2,_⟩:=hall _ (getElem_mem hlt);obtain ⟨z1,z2,z3⟩:=CC hk;obtain ⟨q1,q2,q3⟩:=Bw z1;rw [Ae (dcT (by omega)),T2 (by omega),ntN,gtE hlt,Ai,Ap (n:=n) (by omega),Ab (dcT ⟨hp,s1⟩),Yc g1] at hr;refine hr.trans ?_;clear hr hall hx;obtain ⟨m1,m2,m3⟩:=CC g2;obtain ⟨r1,r2,r3⟩:=Bw m1;rw [Ab (dcT ⟨by omega,by omega,s2⟩),Ab (dcT ⟨by omega,by omega,hv⟩)];simp only [drop_zero,take_length,Bc];unfold Eg
  cases h3:tk inL (cut 47 p) (cut 47 l[n].1) with
  | false=>rfl
  | true=>
   rw [AR,Ab (dcT ⟨r2,q2,by omega,by omega,by omega⟩)];cases CE (t2L v 0) (t2L l[n].2.1.1 0)<;>rfl
 ·have hr:=Le l fs w p ws v b t l l.length l.length
  try dsimp only [shr] at hr
  rw [Ac (dcF (by omega))] at hr;exact hr
theorem Acs:As prog Afl (Aa [(4,sfE)]) 0 (f78.body.getD .skip):=by
 refine Am (a:=body f78 0) (by kernel_rfl) fun d ex d' h=>?_
 unfold sfE at h;dsimp only at h;split at h
 ·rename_i l k i bb bf;split at h
  ·rename_i ts fs;split at h
   ·rename_i w p ws v b t;obtain ⟨hc,hx⟩:=Ad h;clear h;rw [anE] at hc;obtain ⟨hc,ht⟩:=hc;obtain ⟨h0,h1,h2,h3,h4,h5,h6⟩:=of_decide_eq_true hc;have h3:l=ts:=h3;subst h3;subst h2;obtain ⟨i,rfl⟩:=eq_ofNat_of_zero_le h0;simp only [ntN] at h1 hx;exact VK l fs w p ws v b t h4 h5 h6 ht i h1 ex d' hx
   ·cases h
  ·cases h
 ·cases h
theorem Agy:Af prog 78 (Ent.rd1 Aaj).F:=by
 refine AB (kc func115 Ia (kc func116 Aj2 (kc func117 Agv (kc func114 Qm (kc func99 Aki (kc func119 IS (kc func118 (Acd 1000000) (kc func120 Ags KnowsL.nil)))))))).knows (Λ:=(Aa [(4,sfE)])) func78 (c:=f78.body.getD .skip) (by kernel_rfl) fun vs bs r hq hv hb=>?_
 unfold Ent.F Aaj at hq;dsimp only at hq;split at hq
 ·rename_i ts fs w p ws v b t;obtain ⟨hc,hx⟩:=Ad hq;unfold GX at hc;simp only [anE,dcE] at hc;obtain ⟨ht,⟨hp,hv⟩,hn,hb⟩:=hc;refine ⟨Acs,(VJ ts fs w p ws v b t).trans (Eq.trans ?_ hx)⟩
  try dsimp only [shr]
  show _=some _;unfold Rt;rw [drop_zero];generalize hw:decide (0<=w/\w<=100)=c1;generalize decide (0<=t/\t<=100000)=c2
  cases c1 with
  | false=>rfl
  | true=>
   rw [Bool.not_true,A6,Ab (dcT hp)]
   cases hl:lvB (cut 47 p) with
   | false=>rfl
   | true=>
    cases B6 ws with
    | false=>rfl
    | true=>
     rw [Bool.not_true,A6,A6,Ab (by rw [anE]; exact ⟨dcT hv,hn⟩)]
     cases hk:AN v with
     | false=>rfl
     | true=>
      cases c2 with
      | false=>rfl
      | true=>
       rw [Bool.not_true,A6,A6,Ab (by rw [anE]; exact ⟨dcT (by refine ⟨by omega,by omega,?_,?_,?_,hp,hv⟩<;>first | rfl | trivial),ht⟩)]
       cases ts.all (Eg p (t2L v 0)) with
       | false=>rfl
       | true=>
        rw [AR,Ab (by rw [anE,anE]; exact ⟨dcT hv,hn,hb⟩)];rfl
 ·cases hq
set_option synthInstance.maxSize 2000
set_option synthInstance.maxHeartbeats 400000
instance decWt7:DecidableEq Wt:=inferInstance
instance decNt7:DecidableEq Nt:=inferInstance
instance decFa70:DecidableEq (List Nt×Int×Unit):=inferInstance
instance decFa71:DecidableEq ((List Ty×Unit)×List Nt×Int×Unit):=inferInstance
instance decFa7:DecidableEq Fa:=inferInstance
def T6 (ts:List Tp) (fs:List Fa) (i:Nat):Bool:=match fs[i]? with | some f=>atW fs f.1==(i:Int)&&P4 ts f.1 f.2.1 f.2.2.1.1 f.2.2.2.1.1 f.2.2.2.2.1 f.2.2.2.2.2.1 | none=>true
def JO (ts:List Tp) (fs:List Fa) (i:Nat):Bool:=((range fs.length).drop i).all (T6 ts fs)
def I7 (f:Fa):Bool:=decide (f.2.1.length<=4000000000/\f.2.2.2.1.1.length<=4000000000)&&(nmL f.2.2.2.1.1&&HM f.2.2.2.2.1)
def H8 (ts:List Tp) (fs:List Fa):Bool:=decide (ts.length<=4000000000/\fs.length<=4000000000)&&(ts.all Ev&&fs.all I7)
def Dm (ts:List Tp) (fs:List Fa):Bool:=C4 ts 0&&(decide (ts.length<=4)&&(decide (fs.length<=4)&&JO ts fs 0))
def Aiu:Gm
 | [.agg [.sl TPd ts,.sl FNd fs]],[]=>.need (H8 ts fs) (.leaf (.b (Dm ts fs),[]))
 | _,_=>.no
def gbE:LoopEnt:=⟨32,[1,14,15,16],[],[2],fun
 | ([.ptr 0 0,.sl FNd l,.j k,.j i],[bb])=>(match bb with
  | some (.box [.sl TPd ts,.sl FNd fs])=>.need (decide (0<=i/\i.toNat<=l.length/\k=l.length/\eqT (List Fa) l fs/\l.length<=4000000000)&&(Dg ts&&l.all I7)) (.br (JO ts fs i.toNat) (.leaf (.exit 0,([],[]))) (.leaf (.ret,([.b false],[]))))
  | _=>.no)
 | _=>.no⟩
abbrev Afk:FuncId->Option Ent:=Aa [(84,.rd1 XP),(65,.rd1 Aet),(85,.rd1 Aak)]
theorem Rp (ts:List Tp) (fs:List Fa) (l:List Fa) (k i:Int):At prog Afk (Aa [(4,gbE)]) 0 (body f47 0) gbE ([.ptr 0 0,.sl FNd l,.j k,.j i],[some (.box [.sl TPd ts,.sl FNd fs])]) =
 ((ifB (decide (i<k)) (ifT (decide (0<=i)&&decide (i<(↑l.length:Int))) (Ak l[i.toNat]? fun z=>ifB (atW fs z.1 != i) rF (ifT
 (GX ts z.2.1 z.2.2.2.1.1 z.2.2.2.2.1) (ifB (!P4 ts z.1 z.2.1 z.2.2.1.1 z.2.2.2.1.1 z.2.2.2.2.1
 z.2.2.2.2.2.1) rF (some (Ex.normal,[V.ptr 0 0,V.sl FNd l,V.j k,V.j (i64.wrap (i+1))],[some (Blk.box
 [V.sl TPd ts,V.sl FNd fs])])))))) (some (Ex.exit 0,[],[]))):_):=by kernel_rfl
theorem Ael (ts:List Tp) (fs:List Fa):Aw prog Afk (Aa [(4,gbE)]) f47 [.agg [.sl TPd ts,.sl FNd fs]] [] =
 ((ifT (decide (ts.length<=4000000000)&&ts.all Ev) (ifB (!(C4 ts 0&&decide (ts.length<=4))) nF (ifB (decide
 ((↑fs.length:Int)>(4:Int))) nF (ifT (decide ((0:Int)<=(0:Int)/\0<=fs.length/\(↑fs.length:Int)=(↑fs.length:Int)/\eqT (List
 Fa) fs fs/\fs.length<=4000000000)&&(Dg ts&&fs.all I7)) (ifB (JO ts fs 0) (some (V.b true,[])) nF))))):_):=by kernel_rfl
theorem Aem (ts:List Tp) (l:List Fa) (hl:l.length<=4000000000) (ht:Dg ts=true) (hs:l.all I7=true) (i:Nat) (h1:i<=l.length) (ex:Ex) (d':Dt)
  (hx:(Br.br (JO ts l i) (.leaf ((.exit 0:Ex),([],[]))) (.leaf ((.ret:Ex),([.b false],[]))):Br (Ex×Dt)).run=some (ex,d')):Runs prog Afk (Aa [(4,gbE)]) 0 (body f47 0) gbE ([.ptr 0 0,.sl FNd l,.j (l.length:Int),.j (i:Int)],[some (.box [.sl TPd ts,.sl FNd l])]) ex d':=by
 have hM:=mxI;refine B3 (l:=range l.length) (T6 ts l) (fun i=>([.ptr 0 0,.sl FNd l,.j (l.length:Int),.j (i:Int)],[some (.box [.sl TPd ts,.sl FNd l])])) (ex:=((.exit 0:Ex),([],[]))) (rt:=((.ret:Ex),([.b false],[]))) (by simp) (by simp) (fun n hn'=>?_) ?_ (l.length-i) i (by simp; omega) ex d' hx
 ·have hlt:n<l.length:=by simpa using hn'
  have hr:=Rp ts l l l.length n
  try dsimp only [shr] at hr
  have s1:=all_eq_true.1 hs _ (getElem_mem hlt);unfold I7 at s1;rw [Ae (dcT (by omega)),T2 (by omega),ntN,gtE hlt,Ai,Ap (n:=n) (by omega)] at hr;refine hr.trans ?_;clear hr hx hs;rw [getElem_range]
  have e:T6 ts l n=(atW l l[n].1==(n:Int)&&P4 ts l[n].1 l[n].2.1 l[n].2.2.1.1 l[n].2.2.2.1.1 l[n].2.2.2.2.1 l[n].2.2.2.2.2.1):=by
   unfold T6;rw [gtE hlt]
  rw [e];generalize l[n]=f at s1 ⊢
  have s2:GX ts f.2.1 f.2.2.2.1.1 f.2.2.2.2.1=true:=by
   unfold GX;rw [ht,Bool.true_and];exact s1
  by_cases q:atW l f.1=(n:Int)
  ·have h5:(atW l f.1==(n:Int))=true:=beq_iff_eq.2 q;have h6:(atW l f.1 != (n:Int))=false:=bne_eq_false_iff_eq.2 q;rw [h5,h6,A6,Ab s2];cases P4 ts f.1 f.2.1 f.2.2.1.1 f.2.2.2.1.1 f.2.2.2.2.1 f.2.2.2.2.2.1<;>rfl
  ·have h5:(atW l f.1==(n:Int))=false:=beq_eq_false_iff_ne.2 q;have h6:(atW l f.1 != (n:Int))=true:=bne_iff_ne.2 q;rw [h5,h6];rfl
 ·have hr:=Rp ts l l l.length l.length
  try dsimp only [shr] at hr
  rw [Ac (dcF (by omega))] at hr;simp only [length_range];exact hr
theorem Ak8:As prog Afk (Aa [(4,gbE)]) 0 (f47.body.getD .skip):=by
 refine Am (a:=body f47 0) (by kernel_rfl) fun d ex d' h=>?_
 unfold gbE at h;dsimp only at h;split at h
 ·rename_i l k i bb;split at h
  ·rename_i ts fs;obtain ⟨hc,hx⟩:=Ad h;clear h;rw [anE,anE] at hc;obtain ⟨hc,ht,hs⟩:=hc;obtain ⟨h0,h1,h2,h3,h4⟩:=of_decide_eq_true hc;have h3:l=fs:=h3;subst h3;subst h2;obtain ⟨i,rfl⟩:=eq_ofNat_of_zero_le h0;simp only [ntN] at h1 hx;exact Aem ts l h4 ht hs i h1 ex d' hx
  ·cases h
 ·cases h
theorem Ei {ts:List Tp} (h:C4 ts 0=true):ts.all tOK=true:=by
 unfold C4 at h;rw [drop_zero,all_eq_true] at h;rw [all_eq_true];intro t ht;obtain ⟨n,hn,rfl⟩:=List.mem_iff_getElem.1 ht;have:=h n (by simpa using hn);unfold Vm at this;rw [gtE hn] at this;exact ((anE _ _).mp this).1
theorem Aec:Af prog 47 (Ent.rd1 Aiu).F:=by
 refine fcK (kc func84 Aku (kc func65 Akz (kc func85 Ain KnowsL.nil))).knows (Λ:=(Aa [(4,gbE)])) func47 fun vs bs r hq=>?_
 unfold Ent.F Aiu at hq;dsimp only at hq;split at hq
 ·rename_i ts fs;obtain ⟨hc,hx⟩:=Ad hq;unfold H8 at hc;rw [anE,anE] at hc;obtain ⟨hc,h2,h3⟩:=hc;obtain ⟨h0,h1⟩:=of_decide_eq_true hc;refine ⟨Ak8,(Ael ts fs).trans (Eq.trans ?_ hx)⟩
  try dsimp only [shr]
  show _=some _;unfold Dm;rw [Ab (by rw [anE]; exact ⟨dcT h0,h2⟩)]
  cases h4:C4 ts 0 with
  | false=>rfl
  | true=>
   by_cases h5:ts.length<=4
   ·rw [dcT h5]
    by_cases h6:fs.length<=4
    ·have h7:Dg ts=true:=by unfold Dg; rw [dcT h0,h2,Ei h4]; rfl
     rw [dcT h6];rw [Bool.true_and,Bool.not_true,A6,Ac (dcF (by omega)),Ab (by rw [anE,anE]; exact ⟨dcT (by refine ⟨by omega,by omega,?_,?_,h1⟩<;>first | rfl | trivial),h7,h3⟩)];cases JO ts fs 0<;>rfl
    ·rw [dcF h6];rw [Bool.true_and,Bool.not_true,A6,Ae (dcT (by omega))];rfl
   ·rw [dcF h5];rfl
 ·cases hq
def noW (w:Int) (o:Fa):Bool:=!(o.1==w)
def fnS (ts:List Tp) (fs:List Fa) (i:Nat):Bool:=match fs[i]? with | some f=>Rt ts f.1 f.2.1 f.2.2.1.1 f.2.2.2.1.1 f.2.2.2.2.1 f.2.2.2.2.2.1&&(fs.take i).all (noW f.1) | none=>true
def Md (ts:List Tp) (fs:List Fa) (i:Nat):Bool:=((range fs.length).drop i).all (fnS ts fs)
def In (ts:List Tp) (fs:List Fa):Bool:=C4 ts 0&&(decide (ts.length<=4)&&(decide (fs.length<=4)&&Md ts fs 0))
def Aab:Gm
 | [.agg [.sl TPd ts,.sl FNd fs]],[]=>.need (H8 ts fs) (.leaf (.b (In ts fs),[]))
 | _,_=>.no
def YC:LoopEnt:=⟨67,[1,10,11,12],[1],[2],fun
 | ([.ptr 0 0,.sl TPd l,.j k,.j i],[bb])=>(match bb with
  | some (.box [.sl TPd ts,.sl FNd fs])=>.need (decide (0<=i/\i.toNat<=l.length/\k=l.length/\eqT (List Tp) l ts/\l.length<=4000000000)&&l.all Ev) (.br (C4 ts i.toNat) (.leaf ((.exit 0:Ex),([.ptr 0 0],[some (.box [.sl TPd ts,.sl FNd fs])]))) (.leaf (.ret,([.b false],[]))))
  | _=>.no)
 | _=>.no⟩
def YA:LoopEnt:=⟨67,[1,40,41,42],[],[2],fun
 | ([.ptr 0 0,.sl FNd l,.j k,.j i],[bb])=>(match bb with
  | some (.box [.sl TPd ts,.sl FNd fs])=>.need (decide (0<=i/\i.toNat<=l.length/\k=l.length/\eqT (List Fa) l fs/\l.length<=4000000000)&&(Dg ts&&l.all I7)) (.br (Md ts fs i.toNat) (.leaf (.exit 2,([],[]))) (.leaf (.ret,([.b false],[]))))
  | _=>.no)
 | _=>.no⟩
def Y8:LoopEnt:=⟨67,[1,6,40,41,42,54,55,56],[1,40,41,42],[2],fun
 | (.ptr 0 0::.ptr 1 0::.sl FNd l::.j k0::.j i0::vs,[bb,bf])=>(match vs with
  | [.sl FNd q,.j k,.j i]=>(match bb with
   | some (.box [.sl TPd ts,.sl FNd fs])=>(match bf with
    | some (.box (Lf w p ws v b t))=>.need (decide (0<=i/\i.toNat<=q.length/\k=q.length/\q.length<=4000000000)) (.br ((q.drop i.toNat).all (noW w)) (.leaf ((.exit 4:Ex),([.ptr 0 0,.sl FNd l,.j k0,.j i0],[some (.box [.sl TPd ts,.sl FNd fs])]))) (.leaf (.ret,([.b false],[]))))
    | _=>.no)
   | _=>.no)
  | _=>.no)
 | _=>.no⟩
abbrev RO:FuncId->Option Ent:=Aa [(76,.rd1 Z7),(77,.rd1 YE),(78,.rd1 Aaj)]
abbrev PK:Nat->Option LoopEnt:=Aa [(2,YC),(10,YA),(15,Y8)]
theorem Ny (ts:List Tp) (fs:List Fa) (l:List Tp) (k i:Int):At prog RO PK 0 (body f39 0) YC ([.ptr 0 0,.sl TPd l,.j k,.j i],[some (.box [.sl TPd ts,.sl FNd fs])]) =
 ((ifB (decide (i<k)) (ifT (decide (0<=i)&&decide (i<(↑l.length:Int))) (Ak l[i.toNat]? fun z=>ifT (Ev (z.1,(z.2.1.1,()),z.2.2.1,())) (ifB
 (!tOK (z.1,(z.2.1.1,()),z.2.2.1,())) rF (ifB (atT ts z.1 != i) rF (some (Ex.normal,[V.ptr
 0 0,V.sl TPd l,V.j k,V.j (i64.wrap (i+1))],[some (Blk.box [V.sl TPd ts,V.sl FNd fs])])))))) (some (Ex.exit 0,[V.ptr 0 0],[some (Blk.box [V.sl
 TPd ts,V.sl FNd fs])]))):_):=by kernel_rfl
theorem Nx (ts:List Tp) (fs:List Fa) (l:List Fa) (k i:Int):At prog RO PK 0 (body f39 1) YA ([.ptr 0 0,.sl FNd l,.j k,.j i],[some (.box [.sl TPd ts,.sl FNd fs])]) =
 ((ifB (decide (i<k)) (ifT (decide (0<=i)&&decide (i<(↑l.length:Int))) (Ak l[i.toNat]? fun z=>ifT (GX ts z.2.1 z.2.2.2.1.1
 z.2.2.2.2.1) (ifB (!Rt ts z.1 z.2.1 z.2.2.1.1 z.2.2.2.1.1 z.2.2.2.2.1 z.2.2.2.2.2.1) rF (ifT (decide (0<=i)&&decide (i<=(↑fs.length:Int))) (ifT (decide ((0:Int)<=(0:Int)/\0<=(take (i.toNat-0) (drop 0
 fs)).length/\(↑(take (i.toNat-0) (drop 0 fs)).length:Int)=(↑(take (i.toNat-0) (drop 0 fs)).length:Int)/\
 (take (i.toNat-0) (drop 0 fs)).length<=4000000000)) (ifB ((drop 0 (take (i.toNat-0) (drop 0
 fs))).all (noW z.1)) (some (Ex.normal,[V.ptr 0 0,V.sl FNd l,V.j k,V.j (i64.wrap (i+1))],[some (Blk.box [V.sl TPd ts,V.sl FNd fs])])) rF)))))) (some (Ex.exit 2,[],[]))):_):=by kernel_rfl
theorem Nw (ts:List Tp) (fs:List Fa) (w:Int) (p:By) (ws:List Wt) (v:List Ty) (b:List Nt) (t:Int) (l:List Fa) (k0 i0:Int) (q:List Fa) (k i:Int):At prog RO PK 0 (body f39 2) Y8 ([.ptr 0 0,.ptr 1 0,.sl FNd l,.j k0,.j i0,.sl FNd q,.j k,.j i],[some (.box [.sl TPd ts,.sl FNd fs]),some (.box (Lf w p ws v b t))]) =
 ((ifB (decide (i<k)) (ifT (decide (0<=i)&&decide (i<(↑q.length:Int))) (Ak q[i.toNat]? fun z=>ifB (z.1==w) rF (some
 (Ex.normal,[V.ptr 0 0,V.ptr 1 0,V.sl FNd l,V.j k0,V.j i0,V.sl FNd q,V.j k,V.j (i64.wrap (i+1))],[some (Blk.box [V.sl TPd ts,V.sl
 FNd fs]),some (Blk.box (Lf w p ws v b t))])))) (some (Ex.exit 4,[V.ptr 0 0,V.sl FNd l,V.j k0,V.j i0],
 [some (Blk.box [V.sl TPd ts,V.sl FNd fs])]))):_):=by kernel_rfl
theorem Acv (ts:List Tp) (fs:List Fa):Aw prog RO PK f39 [.agg [.sl TPd ts,.sl FNd fs]] [] =
 ((ifT (decide ((0:Int)<=(0:Int)/\0<=ts.length/\(↑ts.length:Int)=(↑ts.length:Int)/\eqT (List Tp) ts ts/\ts.length<=4000000000)&&ts.all
 Ev) (ifB (C4 ts 0) (ifB (decide ((↑ts.length:Int)>(4:Int))) nF (ifB (decide ((↑fs.length:Int)>(4:Int))) nF (ifT (decide ((0:Int)<=(0:Int)/\0<=fs.length/\(↑fs.length:Int)=(↑fs.length:Int)/\eqT (List Fa) fs fs/\fs.length<=4000000000)&&
 (Dg ts&&fs.all I7)) (ifB (Md ts fs 0) (some (V.b true,[])) nF)))) nF)):_):=by kernel_rfl
theorem YB (l:List Tp) (fs:List Fa) (hl:l.length<=4000000000) (hs:l.all Ev=true) (i:Nat) (h1:i<=l.length) (ex:Ex) (d':Dt)
  (hx:(Br.br (C4 l i) (.leaf ((.exit 0:Ex),([.ptr 0 0],[some (.box [.sl TPd l,.sl FNd fs])]))) (.leaf ((.ret:Ex),([.b false],[]))):Br (Ex×Dt)).run=some (ex,d')):Runs prog RO PK 0 (body f39 0) YC ([.ptr 0 0,.sl TPd l,.j (l.length:Int),.j (i:Int)],[some (.box [.sl TPd l,.sl FNd fs])]) ex d':=by
 have hM:=mxI;refine B3 (l:=range l.length) (Vm l) (fun i=>([.ptr 0 0,.sl TPd l,.j (l.length:Int),.j (i:Int)],[some (.box [.sl TPd l,.sl FNd fs])])) (ex:=((.exit 0:Ex),([.ptr 0 0],[some (.box [.sl TPd l,.sl FNd fs])]))) (rt:=((.ret:Ex),([.b false],[]))) (by simp) (by simp) (fun n hn'=>?_) ?_ (l.length-i) i (by simp; omega) ex d' hx
 ·have hlt:n<l.length:=by simpa using hn'
  have hr:=Ny l fs l l.length n
  try dsimp only [shr] at hr
  have s1:=all_eq_true.1 hs _ (getElem_mem hlt);rw [Ae (dcT (by omega)),T2 (by omega),ntN,gtE hlt,Ai,Ap (n:=n) (by omega)] at hr;refine hr.trans ?_;clear hr hx hs;rw [getElem_range]
  have e:Vm l n=(tOK l[n]&&atT l l[n].1==(n:Int)):=by
   unfold Vm;rw [gtE hlt]
  rw [e];generalize l[n]=f at s1 ⊢;obtain ⟨f1,⟨f2,⟨⟩⟩,f3,⟨⟩⟩:=f;dsimp only;rw [Ab s1]
  cases tOK (f1,(f2,()),f3,()) with
  | false=>rfl
  | true=>
   by_cases q:atT l f1=(n:Int)
   ·rw [show (atT l f1==(n:Int))=true from beq_iff_eq.2 q,show (atT l f1 != (n:Int))=false from bne_eq_false_iff_eq.2 q];rfl
   ·rw [show (atT l f1==(n:Int))=false from beq_eq_false_iff_ne.2 q,show (atT l f1 != (n:Int))=true from bne_iff_ne.2 q];rfl
 ·have hr:=Ny l fs l l.length l.length
  try dsimp only [shr] at hr
  rw [Ac (dcF (by omega))] at hr;simp only [length_range];exact hr
theorem Y9 (ts:List Tp) (l:List Fa) (hl:l.length<=4000000000) (ht:Dg ts=true) (hs:l.all I7=true) (i:Nat) (h1:i<=l.length) (ex:Ex) (d':Dt)
  (hx:(Br.br (Md ts l i) (.leaf ((.exit 2:Ex),([],[]))) (.leaf ((.ret:Ex),([.b false],[]))):Br (Ex×Dt)).run=some (ex,d')):Runs prog RO PK 0 (body f39 1) YA ([.ptr 0 0,.sl FNd l,.j (l.length:Int),.j (i:Int)],[some (.box [.sl TPd ts,.sl FNd l])]) ex d':=by
 have hM:=mxI;refine B3 (l:=range l.length) (fnS ts l) (fun i=>([.ptr 0 0,.sl FNd l,.j (l.length:Int),.j (i:Int)],[some (.box [.sl TPd ts,.sl FNd l])])) (ex:=((.exit 2:Ex),([],[]))) (rt:=((.ret:Ex),([.b false],[]))) (by simp) (by simp) (fun n hn'=>?_) ?_ (l.length-i) i (by simp; omega) ex d' hx
 ·have hlt:n<l.length:=by simpa using hn'
  have hr:=Nx ts l l l.length n
  try dsimp only [shr] at hr
  have s1:=all_eq_true.1 hs _ (getElem_mem hlt);unfold I7 at s1;rw [Ae (dcT (by omega)),T2 (by omega),ntN,gtE hlt,Ai,Ap (n:=n) (by omega),Nat.sub_zero,drop_zero,drop_zero] at hr;refine hr.trans ?_;clear hr hx hs;rw [getElem_range]
  have e:fnS ts l n=(Rt ts l[n].1 l[n].2.1 l[n].2.2.1.1 l[n].2.2.2.1.1 l[n].2.2.2.2.1 l[n].2.2.2.2.2.1&&(l.take n).all (noW l[n].1)):=by
   unfold fnS;rw [gtE hlt]
  rw [e];generalize l[n]=f at s1 ⊢
  have s2:GX ts f.2.1 f.2.2.2.1.1 f.2.2.2.2.1=true:=by
   unfold GX;rw [ht,Bool.true_and];exact s1
  rw [Ab s2]
  cases Rt ts f.1 f.2.1 f.2.2.1.1 f.2.2.2.1.1 f.2.2.2.2.1 f.2.2.2.2.2.1 with
  | false=>rfl
  | true=>
   have h9:(l.take n).length<=4000000000:=by simp; omega
   rw [Bool.not_true,A6,Ab (show (decide (0<=(n:Int))&&decide ((n:Int)<=(l.length:Int)))=true by simp only [anE,dcE]; omega),Ab (dcT ⟨by omega,by omega,rfl,h9⟩)];cases (l.take n).all (noW f.1)<;>rfl
 ·have hr:=Nx ts l l l.length l.length
  try dsimp only [shr] at hr
  rw [Ac (dcF (by omega))] at hr;simp only [length_range];exact hr
theorem Y7 (ts:List Tp) (fs:List Fa) (w:Int) (p:By) (ws:List Wt) (v:List Ty) (b:List Nt) (t:Int) (l:List Fa) (k0 i0:Int) (q:List Fa) (hq:q.length<=4000000000) (i:Nat) (h1:i<=q.length) (ex:Ex) (d':Dt)
  (hx:(Br.br ((q.drop i).all (noW w)) (.leaf ((.exit 4:Ex),([.ptr 0 0,.sl FNd l,.j k0,.j i0],[some (.box [.sl TPd ts,.sl FNd fs])]))) (.leaf ((.ret:Ex),([.b false],[]))):Br (Ex×Dt)).run=some (ex,d')):Runs prog RO PK 0 (body f39 2) Y8 ([.ptr 0 0,.ptr 1 0,.sl FNd l,.j k0,.j i0,.sl FNd q,.j (q.length:Int),.j (i:Int)],[some (.box [.sl TPd ts,.sl FNd fs]),some (.box (Lf w p ws v b t))]) ex d':=by
 have hM:=mxI;refine B3 (l:=q) (noW w) (fun i=>([.ptr 0 0,.ptr 1 0,.sl FNd l,.j k0,.j i0,.sl FNd q,.j (q.length:Int),.j (i:Int)],[some (.box [.sl TPd ts,.sl FNd fs]),some (.box (Lf w p ws v b t))])) (ex:=((.exit 4:Ex),([.ptr 0 0,.sl FNd l,.j k0,.j i0],[some (.box [.sl TPd ts,.sl FNd fs])]))) (rt:=((.ret:Ex),([.b false],[]))) (by simp) (by simp) (fun n hlt=>?_) ?_ (q.length-i) i (by omega) ex d' hx
 ·have hr:=Nw ts fs w p ws v b t l k0 i0 q q.length n
  try dsimp only [shr] at hr
  rw [Ae (dcT (by omega)),T2 (by omega),ntN,gtE hlt,Ai,Ap (n:=n) (by omega)] at hr;refine hr.trans ?_;unfold noW;cases q[n].1==w<;>rfl
 ·have hr:=Nw ts fs w p ws v b t l k0 i0 q q.length q.length
  try dsimp only [shr] at hr
  rw [Ac (dcF (by omega))] at hr;exact hr
theorem Aj5:As prog RO PK 0 (f39.body.getD .skip):=by
 refine LoopsI.loops (cs:=[body f39 0,body f39 1,body f39 2]) ?_ (by kernel_rfl);refine .cons (ent:=YC) (by rfl) (fun d ex d' h=>?_) (.cons (ent:=YA) (by rfl) (fun d ex d' h=>?_) (.cons (ent:=Y8) (by rfl) (fun d ex d' h=>?_) .nil))
 ·unfold YC at h;dsimp only at h;split at h
  ·rename_i l k i bb;split at h
   ·rename_i ts fs;obtain ⟨hc,hx⟩:=Ad h;clear h;rw [anE] at hc;obtain ⟨hc,hs⟩:=hc;obtain ⟨h0,h1,h2,h3,h4⟩:=of_decide_eq_true hc;have h3:l=ts:=h3;subst h3;subst h2;obtain ⟨i,rfl⟩:=eq_ofNat_of_zero_le h0;simp only [ntN] at h1 hx;exact YB l fs h4 hs i h1 ex d' hx
   ·cases h
  ·cases h
 ·unfold YA at h;dsimp only at h;split at h
  ·rename_i l k i bb;split at h
   ·rename_i ts fs;obtain ⟨hc,hx⟩:=Ad h;clear h;rw [anE,anE] at hc;obtain ⟨hc,ht,hs⟩:=hc;obtain ⟨h0,h1,h2,h3,h4⟩:=of_decide_eq_true hc;have h3:l=fs:=h3;subst h3;subst h2;obtain ⟨i,rfl⟩:=eq_ofNat_of_zero_le h0;simp only [ntN] at h1 hx;exact Y9 ts l h4 ht hs i h1 ex d' hx
   ·cases h
  ·cases h
 ·unfold Y8 at h;dsimp only at h;split at h
  ·rename_i l k0 i0 vs bb bf;split at h
   ·rename_i q k i;split at h
    ·rename_i ts fs;split at h
     ·rename_i w p ws v b t;obtain ⟨hc,hx⟩:=Ad h;clear h;obtain ⟨h0,h1,h2,h3⟩:=of_decide_eq_true hc;subst h2;obtain ⟨i,rfl⟩:=eq_ofNat_of_zero_le h0;simp only [ntN] at h1 hx;exact Y7 ts fs w p ws v b t l k0 i0 q h3 i h1 ex d' hx
     ·cases h
    ·cases h
   ·cases h
  ·cases h
theorem Aco:Af prog 39 (Ent.rd1 Aab).F:=by
 refine fcK (kc func76 Alu (kc func77 sat (kc func78 Agy KnowsL.nil))).knows (Λ:=PK) func39 fun vs bs r hq=>?_
 unfold Ent.F Aab at hq;dsimp only at hq;split at hq
 ·rename_i ts fs;obtain ⟨hc,hx⟩:=Ad hq;unfold H8 at hc;rw [anE,anE] at hc;obtain ⟨hc,h2,h3⟩:=hc;obtain ⟨h0,h1⟩:=of_decide_eq_true hc;refine ⟨Aj5,(Acv ts fs).trans (Eq.trans ?_ hx)⟩
  try dsimp only [shr]
  show _=some _;unfold In;rw [Ab (by rw [anE]; exact ⟨dcT (by refine ⟨by omega,by omega,?_,?_,h0⟩<;>first | rfl | trivial),h2⟩)]
  cases h4:C4 ts 0 with
  | false=>rfl
  | true=>
   by_cases h5:ts.length<=4
   ·rw [dcT h5,AR,Ac (dcF (by omega))]
    by_cases h6:fs.length<=4
    ·have h7:Dg ts=true:=by unfold Dg; rw [dcT h0,h2,Ei h4]; rfl
     rw [dcT h6];rw [Ac (dcF (by omega)),Ab (by rw [anE,anE]; exact ⟨dcT (by refine ⟨by omega,by omega,?_,?_,h1⟩<;>first | rfl | trivial),h7,h3⟩)];cases Md ts fs 0<;>rfl
    ·rw [dcF h6,Ae (dcT (by omega))];rfl
   ·rw [dcF h5,AR,Ae (dcT (by omega))];rfl
 ·cases hq

theorem Om {α:Type} (p:α->Bool) : ∀ (l:List α) (n i:Nat) (h:i<l.length),p l[i]=true->(Aq p n l==((n+i:Nat):Int))=(l.take i).all (fun x=>!p x)
 | [],n,i,h,_=>by simp at h
 | x::l,n,0,h,hp=>by
  simp only [List.getElem_cons_zero] at hp;rw [Aq];simp [hp]
 | x::l,n,i+1,h,hp=>by
  simp only [List.getElem_cons_succ] at hp;have hl:i<l.length:=by simpa using h
  rw [Aq,List.take_succ_cons,all_cons]
  cases hx:p x with
  | true=>
   have : ¬((n:Int)=((n+(i+1):Nat):Int)):=by omega
   simp only [if_true,all_cons,Bool.not_true,Bool.false_and];exact beq_eq_false_iff_ne.2 this
  | false=>
   have:=Om p l (n+1) i hl hp;rw [show n+(i+1)=n+1+i by omega]
   simpa using this
theorem Wj (m:List (By×Int)) (x y:By) (v:Int):Cy .str (D1 .str m x v) y=if y=x then some v else Cy .str m y:=by
 induction m with
 | nil=>
  show (match (y==x) with | true=>some v | false=>none)=_
  by_cases h:y=x
  ·subst h; simp
  ·rw [beq_false_of_ne h,if_neg h]; rfl
 | cons e m ih=>
  show Cy .str (match (x==e.1) with | true=>(x,v)::m | false=>e::D1 .str m x v) y=_
  by_cases h:x=e.1
  ·rw [h,beq_self_eq_true];show (match (y==e.1) with | true=>some v | false=>Cy .str m y)=if y=e.1 then some v else (match (y==e.1) with | true=>some e.2 | false=>Cy .str m y)
   by_cases h2:y=e.1
   ·rw [if_pos h2,h2,beq_self_eq_true]
   ·rw [if_neg h2,beq_false_of_ne h2]
  ·rw [beq_false_of_ne h];show (match (y==e.1) with | true=>some e.2 | false=>Cy .str (D1 .str m x v) y)=if y=x then some v else (match (y==e.1) with | true=>some e.2 | false=>Cy .str m y)
   by_cases h2:y=e.1
   ·have hn : ¬y=x:=fun q=>h (q.symm.trans h2)
    rw [if_neg hn,h2,beq_self_eq_true]
   ·rw [beq_false_of_ne h2];exact ih
def gm (m:List (By×Int)) (x:By):Int:=(Cy .str m x).getD 0
theorem Ait (m:List (By×Int)) (x y:By) (v:Int):gm (D1 .str m x v) y=if y=x then v else gm m y:=by
 unfold gm;rw [Wj];split<;>rfl
def Afp (m:List (By×Int)) (q:List Nt):Prop:=∀ x,(∀ o∈q,o.1=x->o.2.1<=gm m x)/\(gm m x=0\/∃ o∈q,o.1=x/\o.2.1=gm m x)/\0<=gm m x/\gm m x<=1000
theorem Ai7 {ts:List Tp} (h:ts.all tOK=true) (x:By) (ha:0<=atT ts x):F4 ts x<=1000:=by
 rcases Ua ts x with h1 | ⟨h1,h2,h3⟩
 ·omega
 ·unfold F4;rw [gtE h2];have:=all_eq_true.1 h _ (getElem_mem h2);unfold tOK at this;simp only [anE,dcE] at this;exact this.2.2.2
theorem UO {v:List Ty} (hk:AN v=true) (s:By):F5 v s=Ed (t2L v 0) s:=by
 unfold F5 Tx Ed;rw [hk,Bool.and_true]
theorem Ake {ts:List Tp} {v:List Ty} (hk:AN v=true) {m:List (By×Int)} {b:List Nt} {i:Nat} (hi:i<b.length) (hm:Afp m (b.take i)):ntI ts (t2L v 0) m b[i]=ntS ts v b i:=by
 obtain ⟨h1,h2,h3,h4⟩:=hm b[i].1;have hw:i64.wrap (gm m b[i].1+1)=gm m b[i].1+1:=Av (by omega) (by omega);unfold ntI ntS;rw [gtE hi];dsimp only;rw [UO hk,show (Cy .str m b[i].1).getD 0=gm m b[i].1 from rfl,hw,Bool.eq_iff_iff];simp only [anE,dcE,all_eq_true];constructor
 ·rintro ⟨a,⟨c,d⟩,e⟩
  refine ⟨a,⟨by omega,d⟩,e,fun o ho=>?_⟩;unfold ltB
  by_cases q:o.1=b[i].1
  ·have:=h1 o ho q;rw [dcF (by omega),Bool.and_false]; rfl
  ·rw [beq_false_of_ne q]; rfl
 ·rintro ⟨a,⟨c,d⟩,e,f⟩
  refine ⟨a,⟨?_,d⟩,e⟩;rcases h2 with h2 | ⟨o,ho,h5,h6⟩
  ·omega
  ·have:=f o ho;unfold ltB at this;rw [h5,beq_self_eq_true,Bool.true_and] at this
   by_cases q:o.2.1>=b[i].2.1
   ·rw [dcT q] at this; cases this
   ·omega
theorem ZM {ts:List Tp} {v:List Ty} (ht:ts.all tOK=true) {m:List (By×Int)} {b:List Nt} {i:Nat} (hi:i<b.length) (hm:Afp m (b.take i)) (h:ntI ts (t2L v 0) m b[i]=true):Afp (D1 .str m b[i].1 b[i].2.1) (b.take (i+1)):=by
 obtain ⟨h1,h2,h3,h4⟩:=hm b[i].1;have hw:i64.wrap (gm m b[i].1+1)=gm m b[i].1+1:=Av (by omega) (by omega);unfold ntI at h;rw [show (Cy .str m b[i].1).getD 0=gm m b[i].1 from rfl,hw] at h;simp only [anE,dcE] at h;obtain ⟨a,⟨c,d⟩,e⟩:=h;have hc:=Ai7 ht _ a;intro x;rw [Ait,List.take_succ_eq_append_getElem hi]
 by_cases q:x=b[i].1
 ·rw [if_pos q];refine ⟨fun o ho hx=>?_,.inr ⟨b[i],mem_append.2 (.inr (List.mem_singleton.2 rfl)),q.symm,rfl⟩,by omega,by omega⟩;rcases mem_append.1 ho with ho | ho
  ·have:=h1 o ho (hx.trans q); omega
  ·rw [List.mem_singleton.1 ho]; exact Int.le_refl _
 ·rw [if_neg q];obtain ⟨g1,g2,g3,g4⟩:=hm x;refine ⟨fun o ho hx=>?_,?_,g3,g4⟩
  ·rcases mem_append.1 ho with ho | ho
   ·exact g1 o ho hx
   ·rw [List.mem_singleton.1 ho] at hx; exact absurd hx.symm q
  ·rcases g2 with g2 | ⟨o,ho,h5,h6⟩
   ·exact .inl g2
   ·exact .inr ⟨o,mem_append.2 (.inl ho),h5,h6⟩
theorem ZP {ts:List Tp} {v:List Ty} (hk:AN v=true) (ht:ts.all tOK=true) (b:List Nt) : ∀ (j i:Nat) (m:List (By×Int)),i+j=b.length->Afp m (b.take i)->Ie ts (t2L v 0) m (b.drop i)=IV ts v b i
 | 0,i,m,hi,hm=>by
  unfold IV;rw [drop_eq_nil_of_le (by omega),drop_eq_nil_of_le (by simp; omega),Ie];rfl
 | j+1,i,m,hi,hm=>by
  have hlt:i<b.length:=by omega
  have e:IV ts v b i=(ntS ts v b i&&IV ts v b (i+1)):=by
   unfold IV;rw [drop_eq_getElem_cons (by simpa using hlt),all_cons,getElem_range]
  rw [e,drop_eq_getElem_cons hlt,Ie,<-Ake hk hlt hm]
  cases h:ntI ts (t2L v 0) m b[i] with
  | false=>rfl
  | true=>
   rw [Bool.true_and,Bool.true_and];exact ZP hk ht b j (i+1) _ (by omega) (ZM ht hlt hm h)
theorem Aeb {ts:List Tp} {v:List Ty} (hk:AN v=true) (ht:ts.all tOK=true) (b:List Nt):Ie ts (t2L v 0) [] b=IV ts v b 0:=
 ZP hk ht b b.length 0 [] (by omega) (fun x=>⟨fun o ho=>(by simp at ho),.inl rfl,Int.le_refl _,by show (0:Int)<=1000; decide⟩)
theorem Aiy {ts:List Tp} (ht:ts.all tOK=true) (w:Int) (p:By) (ws:List Wt) (v:List Ty) (b:List Nt) (t:Int):P4 ts w p ws v b t=Rt ts w p ws v b t:=by
 unfold P4 Rt
 cases hk:AN v with
 | false=>rfl
 | true=>rw [Aeb hk ht]
theorem Aga {ts:List Tp} (ht:ts.all tOK=true) {fs:List Fa} {i:Nat} (hi:i<fs.length):T6 ts fs i=fnS ts fs i:=by
 unfold T6 fnS;rw [gtE hi];dsimp only;rw [Aiy ht,Bool.and_comm];congr 1;have:=Om (fun f:Fa=>f.1==fs[i].1) fs 0 i hi (by simp);rw [zero_add] at this;exact this
theorem WJ (ts:List Tp) (fs:List Fa):Dm ts fs=In ts fs:=by
 unfold Dm In
 cases h:C4 ts 0 with
 | false=>rfl
 | true=>
  have ht:=Ei h
  have e:JO ts fs 0=Md ts fs 0:=by
   unfold JO Md;rw [drop_zero,Bool.eq_iff_iff,all_eq_true,all_eq_true];constructor
   ·intro h i hi; rw [<-Aga ht (by simpa using hi)]; exact h i hi
   ·intro h i hi; rw [Aga ht (by simpa using hi)]; exact h i hi
  rw [e]
def szA (k:Int) (w:Nat):Br (V×List (Option Blk)):=.br (decide (k-(w:Int)<0)) (.leaf (.j (-1),[])) (.leaf (.j (k-(w:Int)),[]))
def wNt (z:Nt):Nat:=z.1.length+z.2.2.1.length
def SR (z:Nt):Bool:=decide (z.1.length<=maxI/\z.2.2.1.length<=maxI)
def Nm:Gm
 | [.agg [.s a,.j c,.s b],.j k],[]=>.need (decide (0<=k/\k<=1048576)&&SR (a,c,b,())) (szA k (wNt (a,c,b,())))
 | _,_=>.no
def wTy (z:Ty):Nat:=z.2.1.length
def Q5 (z:Ty):Bool:=decide (z.2.1.length<=maxI)
def Nj:Gm
 | [.agg (Ly a b c d e f),.j k],[]=>.need (decide (0<=k/\k<=1048576)&&Q5 (a,b,c,d,e,f,())) (szA k (wTy (a,b,c,d,e,f,())))
 | _,_=>.no
def wWt (z:Wt):Nat:=z.2.2.2.1.length
def SQ (z:Wt):Bool:=decide (z.2.2.2.1.length<=maxI)
def Ni:Gm
 | [.agg (Lw a c d b e f),.j k],[]=>.need (decide (0<=k/\k<=1048576)&&SQ (a,c,d,b,e,f,())) (szA k (wWt (a,c,d,b,e,f,())))
 | _,_=>.no
def Ds (l:List Nt):Nat:=(l.map wNt).sum
def M8 (l:List Nt):Nat:=l.length+Ds l
def HK (l:List Nt):Bool:=decide (l.length<=maxI)&&l.all SR
def FL:LoopEnt:=⟨27,[0,1,5],[1],[4],fun
 | ([.sl NTd l,.j k,.j i],[])=>.need (decide (0<=i/\i.toNat<=l.length/\0<=k/\k<=1048576)&&HK l) (.br (decide (k-(Ds (l.drop i.toNat):Int)<0)) (.leaf (.ret,([.j (-1)],[]))) (.leaf (.exit 0,([.j (k-(Ds (l.drop i.toNat):Int))],[]))))
 | _=>.no⟩
def S1:Gm
 | [.sl NTd l,.j k],[]=>.need (decide (0<=k/\k<=1048576)&&HK l) (szA k (M8 l))
 | _,_=>.no
def D6 (l:List Ty):Nat:=(l.map wTy).sum
def M7 (l:List Ty):Nat:=l.length+D6 l
def GP (l:List Ty):Bool:=decide (l.length<=maxI)&&l.all Q5
def FJ:LoopEnt:=⟨27,[0,1,5],[1],[4],fun
 | ([.sl TCd l,.j k,.j i],[])=>.need (decide (0<=i/\i.toNat<=l.length/\0<=k/\k<=1048576)&&GP l) (.br (decide (k-(D6 (l.drop i.toNat):Int)<0)) (.leaf (.ret,([.j (-1)],[]))) (.leaf (.exit 0,([.j (k-(D6 (l.drop i.toNat):Int))],[]))))
 | _=>.no⟩
def Sv:Gm
 | [.sl TCd l,.j k],[]=>.need (decide (0<=k/\k<=1048576)&&GP l) (szA k (M7 l))
 | _,_=>.no
def D5 (l:List Wt):Nat:=(l.map wWt).sum
def OE (l:List Wt):Nat:=l.length+D5 l
def HJ (l:List Wt):Bool:=decide (l.length<=maxI)&&l.all SQ
def FI:LoopEnt:=⟨27,[0,1,5],[1],[4],fun
 | ([.sl WCd l,.j k,.j i],[])=>.need (decide (0<=i/\i.toNat<=l.length/\0<=k/\k<=1048576)&&HJ l) (.br (decide (k-(D5 (l.drop i.toNat):Int)<0)) (.leaf (.ret,([.j (-1)],[]))) (.leaf (.exit 0,([.j (k-(D5 (l.drop i.toNat):Int))],[]))))
 | _=>.no⟩
def Ss:Gm
 | [.sl WCd l,.j k],[]=>.need (decide (0<=k/\k<=1048576)&&HJ l) (szA k (OE l))
 | _,_=>.no
theorem Cs {k:Int} {w:Nat} (h:k-(w:Int)<0):(szA k w).run=some (.j (-1),[]):=by
 unfold szA; rw [GN (dcT h)]; rfl
theorem El {k:Int} {w:Nat} (h : ¬k-(w:Int)<0):(szA k w).run=some (.j (k-(w:Int)),[]):=by
 unfold szA; rw [Hz (dcF h)]; rfl
theorem V2 (a:By) (c:Int) (b:By) (k:Int):Aw prog (Aa []) (Aa []) f75 [.agg [.s a,.j c,.s b],.j k] [] =
 ((ifB (decide (i64.wrap (k-(↑a.length:Int))<(0:Int))) (some (V.j (-1),[])) (ifB (decide (i64.wrap (i64.wrap (k-(↑a.length:Int)) -
 (↑b.length:Int))<(0:Int))) (some (V.j (-1),[])) (some (V.j (i64.wrap (i64.wrap (k-(↑a.length:Int))-(↑b.length:Int))),[])))):_):=by kernel_rfl
theorem Yk:Af prog 75 (Ent.rd1 Nm).F:=by
 refine fcK KnowsL.nil.knows (Λ:=Aa []) func75 fun vs_ bs_ r_ hq_=>?_
 unfold Ent.F Nm at hq_;dsimp only at hq_;split at hq_
 ·rename_i a c b k;obtain ⟨hc,hx⟩:=Ad hq_;rw [anE,dcE] at hc;obtain ⟨⟨h0,h1⟩,h2⟩:=hc;unfold SR at h2;dsimp only at h2;have hM:=mxI;refine ⟨Ah _,(V2 a c b k).trans (Eq.trans ?_ hx)⟩;show _=(szA k (wNt (a,c,b,()))).run;unfold wNt;dsimp only;obtain ⟨h3,h4⟩:=of_decide_eq_true h2;have hw:i64.wrap (k-(a.length:Int))=k-(a.length:Int):=Av (by omega) (by omega);rw [hw]
  by_cases q:k-(a.length:Int)<0
  ·rw [Ae (dcT q),Cs (by push_cast; omega)]
  ·have hw2:i64.wrap (k-(a.length:Int)-(b.length:Int))=k-(a.length:Int)-(b.length:Int):=Av (by omega) (by omega);rw [Ac (dcF q),hw2];have e:k-(a.length:Int)-(b.length:Int)=k-((a.length+b.length:Nat):Int):=by push_cast; omega
   rw [e]
   by_cases q2:k-((a.length+b.length:Nat):Int)<0
   ·rw [Ae (dcT q2),Cs q2]
   ·rw [Ac (dcF q2),El q2]
 ·cases hq_
theorem Vx (a:Int) (b:By) (c:Int) (d:Bool) (e f:Int) (k:Int):Aw prog (Aa []) (Aa []) f112 [.agg (Ly a b c d e f),.j k] [] =
 ((ifB (decide (i64.wrap (k-(↑b.length:Int))<(0:Int))) (some (V.j (-1),[])) (some (V.j (i64.wrap (k-(↑b.length:Int))),[]))):_):=by kernel_rfl
theorem Yg:Af prog 112 (Ent.rd1 Nj).F:=by
 refine fcK KnowsL.nil.knows (Λ:=Aa []) func112 fun vs_ bs_ r_ hq_=>?_
 unfold Ent.F Nj at hq_;dsimp only at hq_;split at hq_
 ·rename_i a b c d e f k;obtain ⟨hc,hx⟩:=Ad hq_;rw [anE,dcE] at hc;obtain ⟨⟨h0,h1⟩,h2⟩:=hc;unfold Q5 at h2;dsimp only at h2;have hM:=mxI;refine ⟨Ah _,(Vx a b c d e f k).trans (Eq.trans ?_ hx)⟩;show _=(szA k (wTy (a,b,c,d,e,f,()))).run;unfold wTy;dsimp only;have h3:=of_decide_eq_true h2;have hw:i64.wrap (k-(b.length:Int))=k-(b.length:Int):=Av (by omega) (by omega);rw [hw]
  by_cases q:k-(b.length:Int)<0
  ·rw [Ae (dcT q),Cs q]
  ·rw [Ac (dcF q),El q]
 ·cases hq_
theorem Vv (a c d:Int) (b:By) (e f:Int) (k:Int):Aw prog (Aa []) (Aa []) f111 [.agg (Lw a c d b e f),.j k] [] =
 ((ifB (decide (i64.wrap (k-(↑b.length:Int))<(0:Int))) (some (V.j (-1),[])) (some (V.j (i64.wrap (k-(↑b.length:Int))),[]))):_):=by kernel_rfl
theorem Yf:Af prog 111 (Ent.rd1 Ni).F:=by
 refine fcK KnowsL.nil.knows (Λ:=Aa []) func111 fun vs_ bs_ r_ hq_=>?_
 unfold Ent.F Ni at hq_;dsimp only at hq_;split at hq_
 ·rename_i a c d b e f k;obtain ⟨hc,hx⟩:=Ad hq_;rw [anE,dcE] at hc;obtain ⟨⟨h0,h1⟩,h2⟩:=hc;unfold SQ at h2;dsimp only at h2;have hM:=mxI;refine ⟨Ah _,(Vv a c d b e f k).trans (Eq.trans ?_ hx)⟩;show _=(szA k (wWt (a,c,d,b,e,f,()))).run;unfold wWt;dsimp only;have h3:=of_decide_eq_true h2;have hw:i64.wrap (k-(b.length:Int))=k-(b.length:Int):=Av (by omega) (by omega);rw [hw]
  by_cases q:k-(b.length:Int)<0
  ·rw [Ae (dcT q),Cs q]
  ·rw [Ac (dcF q),El q]
 ·cases hq_
theorem J0 (l:List Nt) (k i:Int):At prog (Aa [(75,.rd1 Nm)]) (Aa [(5,FL)]) 0 (body f38 0) FL ([.sl NTd l,.j k,.j i],[]) =
 ((ifB (decide (i<(↑l.length:Int))) (ifT (decide (0<=i)&&decide (i<(↑l.length:Int))) (Ak l[i.toNat]? fun z=>ifT (decide (0<=k/\k<=1048576)&&SR (z.1,
 z.2.1,z.2.2.1,())) (ifB (decide (k-(↑(wNt (z.1,z.2.1,z.2.2.1,())):Int)<(0:Int))) (some (Ex.ret,[V.j (-1)],[])) (ifB (decide (k -
 (↑(wNt (z.1,z.2.1,z.2.2.1,())):Int)<(0:Int))) (some (Ex.ret,[V.j (-1)],[])) (some (Ex.normal,[V.sl NTd l,V.j (k-(↑(wNt (z.1,
 z.2.1,z.2.2.1,())):Int)),V.j (i64.wrap (i+1))],[])))))) (some (Ex.exit 0,[V.j k],[]))):_):=by kernel_rfl
theorem S0 (l:List Nt) (k:Int):Aw prog (Aa [(75,.rd1 Nm)]) (Aa [(5,FL)]) f38 [.sl NTd l,.j k] [] =
 ((ifB (decide (i64.wrap (k-(↑l.length:Int))<(0:Int))) (some (V.j (-1),[])) (ifT (decide ((0:Int)<=(0:Int)/\0<=l.length/\0<=
 i64.wrap (k-(↑l.length:Int))/\i64.wrap (k-(↑l.length:Int))<=(1048576:Int))&&HK l) (ifB (decide (i64.wrap (k-(↑l.length:Int))
 - (↑(Ds (drop 0 l)):Int)<(0:Int))) (some (V.j (-1),[])) (some (V.j (i64.wrap (k-(↑l.length:Int))-(↑(Ds (drop (0 :
 Nat) l)):Int)),[]))))):_):=by kernel_rfl
theorem KU (l:List Nt) (hl:l.length<=maxI) (ho : ∀ z∈l,SR z=true) : ∀ (j i:Nat) (k:Int),i+j=l.length->0<=k->k<=1048576->∀ ex d,(Br.br (decide (k-(Ds (l.drop i):Int)<0)) (.leaf (.ret,([.j (-1)],[]))) (.leaf (.exit 0,([.j (k-(Ds (l.drop i):Int))],[]))):Br (Ex×Dt)).run=some (ex,d)->Runs prog (Aa [(75,.rd1 Nm)]) (Aa [(5,FL)]) 0 (body f38 0) FL ([.sl NTd l,.j k,.j (i:Int)],[]) ex d
 | 0,i,k,hi,h0,h1,ex,d,h=>by
  have hr:=J0 l k i;rw [Ac (dcF (by omega))] at hr;have e0:(Ds (l.drop i):Int)=0:=by rw [drop_eq_nil_of_le (by omega)]; rfl
  rw [e0,Int.sub_zero,Hz (dcF (by omega))] at h;obtain ⟨rfl,rfl⟩:=lfP h;exact stp hr
 | j+1,i,k,hi,h0,h1,ex,d,h=>by
  have hM:=mxI;have hlt:i<l.length:=by omega
  have hr:=J0 l k i;rw [Ae (dcT (by omega)),T2 (by omega),ntN,gtE hlt,Ai,Ap (n:=i) (by omega)] at hr;have ho1:=ho _ (getElem_mem hlt)
  have e:Ds (l.drop i)=wNt l[i]+Ds (l.drop (i+1)):=by
   unfold Ds;rw [drop_eq_getElem_cons hlt,map_cons,sum_cons]
  generalize l[i]=z at hr ho1 e;obtain ⟨a,c,b,⟨⟩⟩:=z;dsimp only at hr;rw [Ab (by rw [anE]; exact ⟨dcT ⟨h0,h1⟩,ho1⟩)] at hr;generalize wNt _=w at hr e
  by_cases q:k-(w:Int)<0
  ·rw [Ae (dcT q)] at hr;rw [GN (dcT (by rw [e]; push_cast; omega))] at h;obtain ⟨rfl,rfl⟩:=lfP h;exact stp hr
  ·rw [Ac (dcF q),Ac (dcF q)] at hr;have e2:k-(Ds (l.drop i):Int)=k-(w:Int)-(Ds (l.drop (i+1)):Int):=by rw [e]; push_cast; omega
   rw [e2] at h;exact sts hr (KU l hl ho j (i+1) (k-(w:Int)) (by omega) (by omega) (by omega) ex d h)
theorem N7 {l:List Nt} (h:HK l=true):l.length<=maxI/\∀ z∈l,SR z=true:=by
 unfold HK at h;rw [anE,dcE] at h;exact ⟨h.1,all_eq_true.1 h.2⟩
theorem V1:Af prog 38 (Ent.rd1 S1).F:=by
 refine fcK (kc func75 Yk KnowsL.nil).knows (Λ:=(Aa [(5,FL)])) func38 fun vs bs r hq=>?_
 unfold Ent.F S1 at hq;dsimp only at hq;split at hq
 ·rename_i l k;obtain ⟨hc,hx⟩:=Ad hq;rw [anE,dcE] at hc;obtain ⟨⟨h0,h1⟩,h2⟩:=hc;obtain ⟨h3,h4⟩:=N7 h2;have hM:=mxI
  have hok:As prog (Aa [(75,.rd1 Nm)]) (Aa [(5,FL)]) 0 (f38.body.getD .skip):=by
   refine Am (a:=body f38 0) (by kernel_rfl) fun d ex d' h=>?_
   unfold FL at h;dsimp only at h;split at h
   ·rename_i l k i;obtain ⟨hc,hx⟩:=Ad h;rw [anE,dcE] at hc;obtain ⟨⟨a0,a1,a2,a3⟩,a4⟩:=hc;obtain ⟨b1,b2⟩:=N7 a4;obtain ⟨i,rfl⟩:=eq_ofNat_of_zero_le a0;simp only [ntN] at a1 hx;exact KU l b1 b2 (l.length-i) i k (by omega) a2 a3 ex d' hx
   ·cases h
  refine ⟨hok,(S0 l k).trans (Eq.trans ?_ hx)⟩;show _=(szA k (M8 l)).run;have hw:i64.wrap (k-(l.length:Int))=k-(l.length:Int):=Av (by omega) (by omega);unfold M8;rw [hw,drop_zero]
  by_cases q:k-(l.length:Int)<0
  ·rw [Ae (dcT q),Cs (by push_cast; omega)]
  ·rw [Ac (dcF q),Ab (by rw [anE]; exact ⟨dcT (by omega),h2⟩)];have e:k-(l.length:Int)-(Ds l:Int)=k-((l.length+Ds l:Nat):Int):=by push_cast; omega
   rw [e]
   by_cases q2:k-((l.length+Ds l:Nat):Int)<0
   ·rw [Ae (dcT q2),Cs q2]
   ·rw [Ac (dcF q2),El q2]
 ·cases hq
theorem Jy (l:List Ty) (k i:Int):At prog (Aa [(112,.rd1 Nj)]) (Aa [(5,FJ)]) 0 (body f74 0) FJ ([.sl TCd l,.j k,.j i],[]) =
 ((ifB (decide (i<(↑l.length:Int))) (ifT (decide (0<=i)&&decide (i<(↑l.length:Int))) (Ak l[i.toNat]? fun z=>ifT (decide (0<=k/\k<=1048576)&&Q5 (z.1,
 z.2.1,z.2.2.1,z.2.2.2.1,z.2.2.2.2.1,z.2.2.2.2.2.1,())) (ifB (decide (k-(↑(wTy (z.1,z.2.1,z.2.2.1,
 z.2.2.2.1,z.2.2.2.2.1,z.2.2.2.2.2.1,())):Int)<(0:Int))) (some (Ex.ret,[V.j (-1)],[])) (ifB (decide (k-(↑(wTy (z.1,
 z.2.1,z.2.2.1,z.2.2.2.1,z.2.2.2.2.1,z.2.2.2.2.2.1,())):Int)<(0:Int))) (some (Ex.ret,[V.j (-1)],[])) (some
 (Ex.normal,[V.sl TCd l,V.j (k-(↑(wTy (z.1,z.2.1,z.2.2.1,z.2.2.2.1,z.2.2.2.2.1,z.2.2.2.2.2.1,())):Int)),V.i
 .i64 (i64.wrap (i+1))],[])))))) (some (Ex.exit 0,[V.j k],[]))):_):=by kernel_rfl
theorem Su (l:List Ty) (k:Int):Aw prog (Aa [(112,.rd1 Nj)]) (Aa [(5,FJ)]) f74 [.sl TCd l,.j k] [] =
 ((ifB (decide (i64.wrap (k-(↑l.length:Int))<(0:Int))) (some (V.j (-1),[])) (ifT (decide ((0:Int)<=(0:Int)/\0<=l.length/\0<=
 i64.wrap (k-(↑l.length:Int))/\i64.wrap (k-(↑l.length:Int))<=(1048576:Int))&&GP l) (ifB (decide (i64.wrap (k-(↑l.length:Int))
 - (↑(D6 (drop 0 l)):Int)<(0:Int))) (some (V.j (-1),[])) (some (V.j (i64.wrap (k-(↑l.length:Int))-(↑(D6 (drop (0 :
 Nat) l)):Int)),[]))))):_):=by kernel_rfl
theorem KS (l:List Ty) (hl:l.length<=maxI) (ho : ∀ z∈l,Q5 z=true) : ∀ (j i:Nat) (k:Int),i+j=l.length->0<=k->k<=1048576->∀ ex d,(Br.br (decide (k-(D6 (l.drop i):Int)<0)) (.leaf (.ret,([.j (-1)],[]))) (.leaf (.exit 0,([.j (k-(D6 (l.drop i):Int))],[]))):Br (Ex×Dt)).run=some (ex,d)->Runs prog (Aa [(112,.rd1 Nj)]) (Aa [(5,FJ)]) 0 (body f74 0) FJ ([.sl TCd l,.j k,.j (i:Int)],[]) ex d
 | 0,i,k,hi,h0,h1,ex,d,h=>by
  have hr:=Jy l k i;rw [Ac (dcF (by omega))] at hr;have e0:(D6 (l.drop i):Int)=0:=by rw [drop_eq_nil_of_le (by omega)]; rfl
  rw [e0,Int.sub_zero,Hz (dcF (by omega))] at h;obtain ⟨rfl,rfl⟩:=lfP h;exact stp hr
 | j+1,i,k,hi,h0,h1,ex,d,h=>by
  have hM:=mxI;have hlt:i<l.length:=by omega
  have hr:=Jy l k i;rw [Ae (dcT (by omega)),T2 (by omega),ntN,gtE hlt,Ai,Ap (n:=i) (by omega)] at hr;have ho1:=ho _ (getElem_mem hlt)
  have e:D6 (l.drop i)=wTy l[i]+D6 (l.drop (i+1)):=by
   unfold D6;rw [drop_eq_getElem_cons hlt,map_cons,sum_cons]
  generalize l[i]=z at hr ho1 e;obtain ⟨a,b,c,d_,e_,f,⟨⟩⟩:=z;dsimp only at hr;rw [Ab (by rw [anE]; exact ⟨dcT ⟨h0,h1⟩,ho1⟩)] at hr;generalize wTy _=w at hr e
  by_cases q:k-(w:Int)<0
  ·rw [Ae (dcT q)] at hr;rw [GN (dcT (by rw [e]; push_cast; omega))] at h;obtain ⟨rfl,rfl⟩:=lfP h;exact stp hr
  ·rw [Ac (dcF q),Ac (dcF q)] at hr;have e2:k-(D6 (l.drop i):Int)=k-(w:Int)-(D6 (l.drop (i+1)):Int):=by rw [e]; push_cast; omega
   rw [e2] at h;exact sts hr (KS l hl ho j (i+1) (k-(w:Int)) (by omega) (by omega) (by omega) ex d h)
theorem IG {l:List Ty} (h:GP l=true):l.length<=maxI/\∀ z∈l,Q5 z=true:=by
 unfold GP at h;rw [anE,dcE] at h;exact ⟨h.1,all_eq_true.1 h.2⟩
theorem Vw:Af prog 74 (Ent.rd1 Sv).F:=by
 refine fcK (kc func112 Yg KnowsL.nil).knows (Λ:=(Aa [(5,FJ)])) func74 fun vs bs r hq=>?_
 unfold Ent.F Sv at hq;dsimp only at hq;split at hq
 ·rename_i l k;obtain ⟨hc,hx⟩:=Ad hq;rw [anE,dcE] at hc;obtain ⟨⟨h0,h1⟩,h2⟩:=hc;obtain ⟨h3,h4⟩:=IG h2;have hM:=mxI
  have hok:As prog (Aa [(112,.rd1 Nj)]) (Aa [(5,FJ)]) 0 (f74.body.getD .skip):=by
   refine Am (a:=body f74 0) (by kernel_rfl) fun d ex d' h=>?_
   unfold FJ at h;dsimp only at h;split at h
   ·rename_i l k i;obtain ⟨hc,hx⟩:=Ad h;rw [anE,dcE] at hc;obtain ⟨⟨a0,a1,a2,a3⟩,a4⟩:=hc;obtain ⟨b1,b2⟩:=IG a4;obtain ⟨i,rfl⟩:=eq_ofNat_of_zero_le a0;simp only [ntN] at a1 hx;exact KS l b1 b2 (l.length-i) i k (by omega) a2 a3 ex d' hx
   ·cases h
  refine ⟨hok,(Su l k).trans (Eq.trans ?_ hx)⟩;show _=(szA k (M7 l)).run;have hw:i64.wrap (k-(l.length:Int))=k-(l.length:Int):=Av (by omega) (by omega);unfold M7;rw [hw,drop_zero]
  by_cases q:k-(l.length:Int)<0
  ·rw [Ae (dcT q),Cs (by push_cast; omega)]
  ·rw [Ac (dcF q),Ab (by rw [anE]; exact ⟨dcT (by omega),h2⟩)];have e:k-(l.length:Int)-(D6 l:Int)=k-((l.length+D6 l:Nat):Int):=by push_cast; omega
   rw [e]
   by_cases q2:k-((l.length+D6 l:Nat):Int)<0
   ·rw [Ae (dcT q2),Cs q2]
   ·rw [Ac (dcF q2),El q2]
 ·cases hq
theorem Jx (l:List Wt) (k i:Int):At prog (Aa [(111,.rd1 Ni)]) (Aa [(5,FI)]) 0 (body f73 0) FI ([.sl WCd l,.j k,.j i],[]) =
 ((ifB (decide (i<(↑l.length:Int))) (ifT (decide (0<=i)&&decide (i<(↑l.length:Int))) (Ak l[i.toNat]? fun z=>ifT (decide (0<=k/\k<=1048576)&&SQ (z.1,
 z.2.1,z.2.2.1,z.2.2.2.1,z.2.2.2.2.1,z.2.2.2.2.2.1,())) (ifB (decide (k-(↑(wWt (z.1,z.2.1,z.2.2.1,
 z.2.2.2.1,z.2.2.2.2.1,z.2.2.2.2.2.1,())):Int)<(0:Int))) (some (Ex.ret,[V.j (-1)],[])) (ifB (decide (k-(↑(wWt (z.1,
 z.2.1,z.2.2.1,z.2.2.2.1,z.2.2.2.2.1,z.2.2.2.2.2.1,())):Int)<(0:Int))) (some (Ex.ret,[V.j (-1)],[])) (some
 (Ex.normal,[V.sl WCd l,V.j (k-(↑(wWt (z.1,z.2.1,z.2.2.1,z.2.2.2.1,z.2.2.2.2.1,z.2.2.2.2.2.1,())):Int)),V.i
 .i64 (i64.wrap (i+1))],[])))))) (some (Ex.exit 0,[V.j k],[]))):_):=by kernel_rfl
theorem Sr (l:List Wt) (k:Int):Aw prog (Aa [(111,.rd1 Ni)]) (Aa [(5,FI)]) f73 [.sl WCd l,.j k] [] =
 ((ifB (decide (i64.wrap (k-(↑l.length:Int))<(0:Int))) (some (V.j (-1),[])) (ifT (decide ((0:Int)<=(0:Int)/\0<=l.length/\0<=
 i64.wrap (k-(↑l.length:Int))/\i64.wrap (k-(↑l.length:Int))<=(1048576:Int))&&HJ l) (ifB (decide (i64.wrap (k-(↑l.length:Int))
 - (↑(D5 (drop 0 l)):Int)<(0:Int))) (some (V.j (-1),[])) (some (V.j (i64.wrap (k-(↑l.length:Int))-(↑(D5 (drop (0 :
 Nat) l)):Int)),[]))))):_):=by kernel_rfl
theorem KQ (l:List Wt) (hl:l.length<=maxI) (ho : ∀ z∈l,SQ z=true) : ∀ (j i:Nat) (k:Int),i+j=l.length->0<=k->k<=1048576->∀ ex d,(Br.br (decide (k-(D5 (l.drop i):Int)<0)) (.leaf (.ret,([.j (-1)],[]))) (.leaf (.exit 0,([.j (k-(D5 (l.drop i):Int))],[]))):Br (Ex×Dt)).run=some (ex,d)->Runs prog (Aa [(111,.rd1 Ni)]) (Aa [(5,FI)]) 0 (body f73 0) FI ([.sl WCd l,.j k,.j (i:Int)],[]) ex d
 | 0,i,k,hi,h0,h1,ex,d,h=>by
  have hr:=Jx l k i;rw [Ac (dcF (by omega))] at hr;have e0:(D5 (l.drop i):Int)=0:=by rw [drop_eq_nil_of_le (by omega)]; rfl
  rw [e0,Int.sub_zero,Hz (dcF (by omega))] at h;obtain ⟨rfl,rfl⟩:=lfP h;exact stp hr
 | j+1,i,k,hi,h0,h1,ex,d,h=>by
  have hM:=mxI;have hlt:i<l.length:=by omega
  have hr:=Jx l k i;rw [Ae (dcT (by omega)),T2 (by omega),ntN,gtE hlt,Ai,Ap (n:=i) (by omega)] at hr;have ho1:=ho _ (getElem_mem hlt)
  have e:D5 (l.drop i)=wWt l[i]+D5 (l.drop (i+1)):=by
   unfold D5;rw [drop_eq_getElem_cons hlt,map_cons,sum_cons]
  generalize l[i]=z at hr ho1 e;obtain ⟨a,c,d_,b,e_,f,⟨⟩⟩:=z;dsimp only at hr;rw [Ab (by rw [anE]; exact ⟨dcT ⟨h0,h1⟩,ho1⟩)] at hr;generalize wWt _=w at hr e
  by_cases q:k-(w:Int)<0
  ·rw [Ae (dcT q)] at hr;rw [GN (dcT (by rw [e]; push_cast; omega))] at h;obtain ⟨rfl,rfl⟩:=lfP h;exact stp hr
  ·rw [Ac (dcF q),Ac (dcF q)] at hr;have e2:k-(D5 (l.drop i):Int)=k-(w:Int)-(D5 (l.drop (i+1)):Int):=by rw [e]; push_cast; omega
   rw [e2] at h;exact sts hr (KQ l hl ho j (i+1) (k-(w:Int)) (by omega) (by omega) (by omega) ex d h)
theorem N6 {l:List Wt} (h:HJ l=true):l.length<=maxI/\∀ z∈l,SQ z=true:=by
 unfold HJ at h;rw [anE,dcE] at h;exact ⟨h.1,all_eq_true.1 h.2⟩
theorem Vu:Af prog 73 (Ent.rd1 Ss).F:=by
 refine fcK (kc func111 Yf KnowsL.nil).knows (Λ:=(Aa [(5,FI)])) func73 fun vs bs r hq=>?_
 unfold Ent.F Ss at hq;dsimp only at hq;split at hq
 ·rename_i l k;obtain ⟨hc,hx⟩:=Ad hq;rw [anE,dcE] at hc;obtain ⟨⟨h0,h1⟩,h2⟩:=hc;obtain ⟨h3,h4⟩:=N6 h2;have hM:=mxI
  have hok:As prog (Aa [(111,.rd1 Ni)]) (Aa [(5,FI)]) 0 (f73.body.getD .skip):=by
   refine Am (a:=body f73 0) (by kernel_rfl) fun d ex d' h=>?_
   unfold FI at h;dsimp only at h;split at h
   ·rename_i l k i;obtain ⟨hc,hx⟩:=Ad h;rw [anE,dcE] at hc;obtain ⟨⟨a0,a1,a2,a3⟩,a4⟩:=hc;obtain ⟨b1,b2⟩:=N6 a4;obtain ⟨i,rfl⟩:=eq_ofNat_of_zero_le a0;simp only [ntN] at a1 hx;exact KQ l b1 b2 (l.length-i) i k (by omega) a2 a3 ex d' hx
   ·cases h
  refine ⟨hok,(Sr l k).trans (Eq.trans ?_ hx)⟩;show _=(szA k (OE l)).run;have hw:i64.wrap (k-(l.length:Int))=k-(l.length:Int):=Av (by omega) (by omega);unfold OE;rw [hw,drop_zero]
  by_cases q:k-(l.length:Int)<0
  ·rw [Ae (dcT q),Cs (by push_cast; omega)]
  ·rw [Ac (dcF q),Ab (by rw [anE]; exact ⟨dcT (by omega),h2⟩)];have e:k-(l.length:Int)-(D5 l:Int)=k-((l.length+D5 l:Nat):Int):=by push_cast; omega
   rw [e]
   by_cases q2:k-((l.length+D5 l:Nat):Int)<0
   ·rw [Ae (dcT q2),Cs q2]
   ·rw [Ac (dcF q2),El q2]
 ·cases hq
end Go.Proofs.YtdocpdfkeohkiaaGreatDoor.Den
