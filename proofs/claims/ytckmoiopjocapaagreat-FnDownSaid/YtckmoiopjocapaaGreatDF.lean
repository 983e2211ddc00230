/- What functions of the program do, by the machine: Cod4 Cod5 Sub1 Sub2 Cod6 Cod7 Is1 Cod8 Nlf Dp1 Dp2 Eq Same LDn. -/
import Derived.Test.YtckmoiopjocapaaGreatDE
import Derived.KernelRfl
import Derived.Test.YtckmoiopjocapaaGreatRows
open Go.IntKind (i64)
open Go.Proofs.Tryz
open List (all_eq_true append_assoc append_nil drop drop_eq_getElem_cons drop_eq_nil_of_le drop_zero filter_cons find?_some getElem_mem length_append length_cons length_map length_nil length_take mem_cons mem_cons_of_mem mem_cons_self mem_map nil_append pairwise_cons take take_length)
open Nat (lt_irrefl zero_add zero_le)
open Option (map_eq_some_iff)
namespace Go.Proofs.YtckmoiopjocapaaGreat.Den
open Go.Proofs
set_option maxRecDepth 100000

theorem Pm : ∀ (f:Nat) (l:By) (i acc:Nat) {x k:Nat} {ok:Bool},tv f l i acc=some (x,k,ok)->∃ m,x=acc+m*2 ^ (7*i)/\i<k/\m<128 ^ (k-i)
 | 0,l,i,acc,x,k,ok,h=>by cases l<;>cases h
 | f+1,[],i,acc,x,k,ok,h=>by cases h
 | f+1,b::l,i,acc,x,k,ok,h=>by
  rw [YC] at h;split at h
  ·cases h;refine ⟨b.toNat % 128,rfl,by omega,?_⟩;rw [show i+1-i=1 by omega,Nat.pow_one]; omega
  ·obtain ⟨m,h1,h2,h3⟩:=Pm f l (i+1) _ h;refine ⟨b.toNat % 128+128*m,?_,by omega,?_⟩
   ·have e1:2 ^ (7*(i+1))=128*2 ^ (7*i):=by rw [Nat.mul_add,Nat.pow_add]; omega
    rw [h1,e1,Nat.add_mul,Nat.add_assoc];congr 2;rw [Nat.mul_comm 128 m,Nat.mul_assoc]
   ·have e2:k-i=k-(i+1)+1:=by omega
    rw [e2,Nat.pow_succ];have:b.toNat % 128<128:=by omega
    omega
theorem V1 {n k:Nat} (h:n<128 ^ (k+1)) (hk:k<=10):(vbs n).length<=k+1:=by
 have:=Ie k n;unfold vbs;rw [show 10=k+(10-k) by omega,Hv k (10-k) n h,length_append,List.length_singleton]; omega
theorem HV {s:By} {a n k:Nat} {ok:Bool} (h:Ai s a=some (n,k,ok)):(vbs n).length<=k:=by
 obtain ⟨m,h1,h2,h3⟩:=Pm _ _ _ _ h;have h4:=(Ew h).2.2.2;have h4:k<=5:=h4;rw [Nat.mul_zero,Nat.pow_zero,Nat.mul_one,zero_add] at h1;subst h1;obtain ⟨k,rfl⟩ : ∃ j,k=j+1:=⟨k-1,by omega⟩
 exact V1 (by simpa using h3) (by omega)
theorem ML : ∀ (f a b:Nat),a<=b->(Bs f a).1.length<=(Bs f b).1.length
 | 0,a,b,_=>by rw [Bs,Bs]; exact Nat.le_refl _
 | f+1,a,b,h=>by
  by_cases q:128<=a
  ·rw [DV q,DV (by omega)];have:=ML f (a / 128) (b / 128) (Nat.div_le_div_right h);simp only [length_cons]; omega
  ·rw [CX (by omega)]; exact zero_le _
theorem Pe {a b:Nat} (h:a<=b):(vbs a).length<=(vbs b).length:=by
 have:=ML 10 a b h;unfold vbs;simp only [length_append,List.length_singleton]; omega
theorem Tp {n:Int} (h:0<=n):fol (unf n)=n:=by
 unfold unf fol;split<;>split<;>omega
theorem Pu {s d:By} {a:Nat} {e:Int} (h:Bd s a=(d,e,true)):(a:Int)+(vbs d.length).length+d.length<=e:=by
 unfold Bd at h;dsimp only at h;split at h
 ·rename_i hc
  cases ht:Ai s a with
  | none=>rw [ht] at hc; cases hc.1
  | some x=>
   obtain ⟨n,k,ok⟩:=x;have hl:=HV ht;have hfa:=(Ew ht).2.2.1;have hfa:a+k<=s.length:=hfa;rw [ht] at hc h;have hc2:(n:Int)<=s.length-((a+k:Nat):Int):=hc.2;have h:((s.drop (a+k)).take n,((a+k:Nat):Int)+(n:Int),true)=(d,e,true):=h;simp only [Prod.mk.injEq,and_true] at h;obtain ⟨rfl,rfl⟩:=h;have e1:((s.drop (a+k)).take n).length=n:=by rw [length_take,List.length_drop]; omega
   rw [e1]; push_cast; omega
 ·simp only [Prod.mk.injEq] at h;exact absurd h.2.2 (by simp)
theorem VJ {s:By} {a:Nat} (h:(Be s a).2.2.2=true):(a:Int)+(fb1 (Be s a).1).length<=(Be s a).2.2.1:=by
 cases ht:Ai s a with
 | none=>
  unfold Be at h;rw [ht] at h;cases h
 | some x=>
  obtain ⟨n,k,ok⟩:=x
  cases ok with
  | false=>
   unfold Be at h;rw [ht] at h;cases h
  | true=>
   have hl:=HV ht
   by_cases q:(n:Int) % 8=2
   ·cases hu:Bd s (a+k) with
    | mk d y=>
     obtain ⟨e,ok⟩:=y
     cases ok with
     | false=>
      unfold Be at h;rw [ht] at h;have h:(if (true:Bool)=false then (((0,0,0,[],()),0,0,false):WFd×Int×Int×Bool) else if (n:Int) % 8=2 then (((n:Int) / 8,2,0,(Bd s (a+k)).1,()),(a:Int),(Bd s (a+k)).2.1,(Bd s (a+k)).2.2&&AJ ((n:Int) / 8,2,0,(Bd s (a+k)).1,())) else _).2.2.2=true:=h;rw [if_neg (by simp),if_pos q,hu] at h;cases h
     | true=>
      have hb:=Pu hu;rw [Pt ht q hu];have e1:fb1 ((n:Int) / 8,2,0,d,())=vbs (8*((n:Int) / 8)+2).toNat++(vbs d.length++d):=rfl;show (a:Int)+(fb1 ((n:Int) / 8,2,0,d,())).length<=e;rw [e1,show (8*((n:Int) / 8)+2).toNat=n by omega,length_append,length_append];push_cast at hb ⊢;omega
   ·cases hu:Ai s (a+k) with
    | none=>
     unfold Be at h;rw [ht] at h;have h:(if (true:Bool)=false then (((0,0,0,[],()),0,0,false):WFd×Int×Int×Bool) else if (n:Int) % 8=2 then _ else (((n:Int) / 8,(n:Int) % 8,unf (A8 (Ai s (a+k))),[],()),(a:Int),Ax (a+k) (Ai s (a+k)),BP (Ai s (a+k))&&AJ ((n:Int) / 8,(n:Int) % 8,unf (A8 (Ai s (a+k))),[],()))).2.2.2=true:=h;rw [if_neg (by simp),if_neg q,hu] at h;cases h
    | some y=>
     obtain ⟨m,j,ok⟩:=y
     cases ok with
     | false=>
      unfold Be at h;rw [ht] at h;have h:(if (true:Bool)=false then (((0,0,0,[],()),0,0,false):WFd×Int×Int×Bool) else if (n:Int) % 8=2 then _ else (((n:Int) / 8,(n:Int) % 8,unf (A8 (Ai s (a+k))),[],()),(a:Int),Ax (a+k) (Ai s (a+k)),BP (Ai s (a+k))&&AJ ((n:Int) / 8,(n:Int) % 8,unf (A8 (Ai s (a+k))),[],()))).2.2.2=true:=h;rw [if_neg (by simp),if_neg q,hu] at h;cases h
     | true=>
      have hm:=HV hu;rw [Ps ht q hu] at h ⊢;have h:AJ ((n:Int) / 8,(n:Int) % 8,unf (m:Int),[],())=true:=h
      have hk:(n:Int) % 8=0:=by
       obtain ⟨_,c⟩:=DO h;rcases c with ⟨c,_⟩ | ⟨c,_⟩
       ·exact c
       ·exact absurd c q
      show (a:Int)+(fb1 ((n:Int) / 8,(n:Int) % 8,unf (m:Int),[],())).length<=((a+k+j:Nat):Int);have e1:fb1 ((n:Int) / 8,(n:Int) % 8,unf (m:Int),[],())=vbs (8*((n:Int) / 8)+(n:Int) % 8).toNat++(if (n:Int) % 8=0 then vbs (fol (unf (m:Int))).toNat else vbs 0++[]):=rfl;rw [e1,if_pos hk,Tp (by omega),show (8*((n:Int) / 8)+(n:Int) % 8).toNat=n by omega,ntN,length_append];push_cast;omega
theorem SQ {s:By} : ∀ (g a:Nat) (o l:List WFd),a<=s.length->rdF s g a o=some l->∃ l',l=o++l'/\(fbs l').length<=s.length-a/\∀ f∈l',AJ f=true
 | 0,a,o,l,ha,h=>by
  rw [rdF] at h;split at h
  ·cases h
  ·cases h; exact ⟨[],by simp,zero_le _,fun f hf=>by cases hf⟩
 | g+1,a,o,l,ha,h=>by
  rw [rdF] at h;split at h
  ·split at h
   ·rename_i hc;have ht:=VJ hc.1;have hk:=KG hc.1;obtain ⟨l',h1,h2,h3⟩:=SQ g _ _ l (by omega) h;refine ⟨(Be s a).1::l',by rw [h1,append_assoc]; rfl,?_,fun f hf=>?_⟩
    ·rw [Db,length_append];omega
    ·rcases mem_cons.1 hf with rfl | hf
     ·exact hk.1
     ·exact h3 f hf
   ·cases h
  ·cases h; exact ⟨[],by simp,zero_le _,fun f hf=>by cases hf⟩
theorem Wm {s:By} {l:List WFd} (h:Df s=some l):(fbs l).length<=s.length/\∀ f∈l,AJ f=true:=by
 unfold Df CZ at h
 by_cases q:s.length<=400
 ·rw [if_pos q] at h
  cases hr:CB s with
  | none=>rw [hr] at h; cases h
  | some k=>
   rw [hr] at h;dsimp only at h;split at h
   ·cases h;obtain ⟨l',h1,h2,h3⟩:=SQ _ _ _ _ (zero_le _) hr;rw [nil_append] at h1;subst h1;exact ⟨h2,h3⟩
   ·cases h
 ·rw [if_neg q] at h; cases h
theorem FK {z:Rose Lab} {n no:Int} {v:Rose A4} (h:A1 z n no=some v):v.lab.1=n:=by
 unfold A1 at h;split at h
 ·cases h; rfl
 ·cases h
theorem Mk {y:Rose Lab} {num:Bool} (hnum:fkB y=num) {D:By->Option (Rose A4)} {s:By} (hD:num=false->∀ d v,D d=some v->(A0 v y).length<=d.length) : ∀ (f a:Nat) (vs:RVL),a<=s.length->BC num (fun n=>A1 y n 0) D s f a=some vs->(Ca y vs).length+a<=s.length
 | 0,a,vs,ha,h=>by
  rw [Fb] at h;split at h
  ·cases h
  ·cases h; rw [Ca,length_nil]; omega
 | f+1,a,vs,ha,h=>by
  rw [C5] at h;split at h
  ·cases num with
   | true=>
    dsimp only at h;split at h
    ·rename_i w hw;split at h
     ·rename_i hc;obtain ⟨us,hu,rfl⟩:=map_eq_some_iff.1 h
      cases ht:Ai s a with
      | none=>rw [ht] at hc; cases hc
      | some x=>
       obtain ⟨n,k,ok⟩:=x;have hl:=HV ht;have hfa:a+k<=s.length:=(Ew ht).2.2.1;rw [ht] at hw hu;have hv:w.lab.1=unf (n:Int):=FK hw;have ih:(Ca y us).length+(a+k)<=s.length:=Mk hnum hD f (a+k) us hfa hu;rw [Ca,length_append,GR hnum,hv,Tp (by omega),ntN];omega
     ·cases h
    ·cases h
   | false=>
    dsimp only at h;split at h
    ·rename_i hc;split at h
     ·rename_i w hw;obtain ⟨us,hu,rfl⟩:=map_eq_some_iff.1 h;have he:=IQ hc;have hb:=Pu (s:=s) (a:=a) (d:=(Bd s a).1) (e:=(Bd s a).2.1) (Prod.ext rfl (Prod.ext rfl hc));have ih:=Mk hnum hD f _ us (by omega) hu;have hd:=hD rfl _ _ hw;have hm:=Pe hd;rw [Ca,length_append,GS hnum,length_append];omega
     ·cases h
    ·cases h
  ·cases h; rw [Ca,length_nil]; omega
theorem JP {n:Int} : ∀ (ks:RL) (fs:List WFd),(∀ q∈ks,q.lab.2.2.1≠n)->Bf ks (fs.filter fun f=>f.1 != n)=Bf ks fs
 | [],fs,_=>by rw [Bf,Bf]
 | p::ks,fs,h=>by
  have hp:=h p mem_cons_self;rw [Bv,Bv,JP ks fs (fun q hq=>h q (mem_cons_of_mem _ hq)),List.find?_filter]
  have e:(fun f:WFd=>decide ((f.1 != n)=true/\(f.1==p.lab.2.2.1)=true))=fun f:WFd=>f.1==p.lab.2.2.1:=by
   funext f
   by_cases q:f.1=p.lab.2.2.1
   ·rw [q]; simp [hp]
   ·simp [q]
  rw [e]
theorem LM {n:Int} {f:WFd} : ∀ {fs:List WFd},f∈fs->f.1=n->(fb1 f).length+(fbs (fs.filter fun g=>g.1 != n)).length<=(fbs fs).length
 | g::fs,hf,hn=>by
  have hle:(fbs (fs.filter fun g=>g.1 != n)).length<=(fbs fs).length:=by
   clear hf
   induction fs with
   | nil=>exact Nat.le_refl _
   | cons u us ih=>
    rw [filter_cons];split
    ·rw [Db,Db,length_append,length_append]; omega
    ·rw [Db,length_append]; omega
  rw [Db,length_append]
  by_cases q:g.1=n
  ·rw [List.filter_cons_of_neg (by simp [q])];rcases mem_cons.1 hf with rfl | hf
   ·omega
   ·have:=LM hf hn;omega
  ·rcases mem_cons.1 hf with rfl | hf
   ·exact absurd hn q
   ·have:=LM hf hn;rw [List.filter_cons_of_pos (by simp [q]),Db,length_append];omega
theorem XY {p:Rose Lab} {f:WFd} {w:Rose A4} (hf:AJ f=true) (hD:fkB p=false->∀ d no v,AI p d no=some v->(A0 v p).length<=d.length) (h:Dh p f=some w):(vbs (8*w.lab.2.2.1+(if fkB p=true then 0 else 2)).toNat++itm p (A0 w p)).length<=(fb1 f).length:=by
 have hno:=Ej h;obtain ⟨f1,f2,f3,f4,⟨⟩⟩:=f;have hno:w.lab.2.2.1=f1:=hno;unfold Dh at h;split at h
 ·rename_i hk;have hk:(f2==0)=fkB p:=hk;rcases Bool.eq_false_or_eq_true (fkB p) with hp | hp
  ·rw [hp,beq_iff_eq] at hk;subst hk;have h:=(if_pos rfl).symm.trans h;have hv:w.lab.1=f3:=FK h;rw [GR hp,hv,hno,if_pos hp];exact Nat.le_refl _
  ·have h0:f2≠0:=by rw [hp] at hk; simpa using hk
   have h2:f2=2:=by
    obtain ⟨_,c⟩:=DO hf;rcases c with ⟨c,_⟩ | ⟨c,_⟩
    ·exact absurd c h0
    ·exact c
   subst h2;have h:AI p f4 f1=some w:=h;have hd:=hD hp _ _ _ h;have hm:=Pe hd;rw [GS hp,hno,if_neg (by rw [hp]; simp)];show _<=(vbs (8*f1+2).toNat++(vbs f4.length++f4)).length;simp only [length_append];omega
 ·cases h
mutual
theorem IB : ∀ (z:Rose Lab),Ah z=true->fkB z=false->∀ (s:By) (no:Int) (v:Rose A4),AI z s no=some v->(A0 v z).length<=s.length
 | .node x ks,hr,hf,s,no,v,h=>by
  have hkd:=GT (t:=.node x ks) hr
  by_cases h2:x.1=2
  ·rw [AI,if_pos h2] at h;split at h
   ·cases h;rw [G6 (z:=.node x ks) h2];exact Nat.le_refl _
   ·cases h
  ·have hk:=hkd h2 (by rw [hf]; simp);have hk:x.1=4\/x.1=5:=hk
   by_cases h4:x.1=4
   ·rw [AI,if_neg h2,if_pos h4] at h;obtain ⟨vs,hv,rfl⟩:=map_eq_some_iff.1 h;have hl:=BE hr h4;rw [G7 (z:=.node x ks) h4];exact XV ks hl.2 s vs hv
   ·have h5:x.1=5:=by omega
    rw [AI,if_neg h2,if_neg h4] at h;split at h
    ·rename_i fs hfs;obtain ⟨vs,hv,rfl⟩:=map_eq_some_iff.1 h;have h5':(Rose.node x ks:Rose Lab).lab.1=5:=h5;have hpw:ks.Pairwise KR:=DM (z:=.node x ks) hr h5';obtain ⟨b1,b2⟩:=Wm hfs;rw [GV h5'];exact Nat.le_trans (Me ks (BK (z:=.node x ks) hr (by omega)) hpw ks (fun p hp=>IF hpw hp rfl) fs b2 vs hv) b1
    ·cases h
theorem XV : ∀ (ks:RL),ks.all Ah=true->∀ (s:By) (vs:RVL),Dp ks s=some vs->(Ca (hd0 ks) vs).length<=s.length
 | [],_,s,vs,h=>by rw [Dp] at h; cases h
 | z::ks,hr,s,vs,h=>by
  rw [List.all_cons,anE] at hr;rw [Dp] at h;exact Mk rfl (fun hf d v hv=>IB z hr.1 hf d 0 v hv) _ 0 vs (zero_le _) h
theorem Me : ∀ (ks:RL),A6 5 ks=true->ks.Pairwise KR->∀ (K:RL),(∀ p∈ks,byR p.lab.2.2.1 K=p)->∀ (fs:List WFd),(∀ f∈fs,AJ f=true)->∀ (vs:RVL),Bf ks fs=some vs->(EY K vs).length<=(fbs fs).length
 | [],_,_,K,_,fs,_,vs,h=>by
  rw [Bf] at h; cases h;rw [EY]; exact zero_le _
 | p::ks,hr,hpw,K,hK,fs,hfs,vs,h=>by
  rw [A6,anE,anE] at hr;rw [pairwise_cons] at hpw;rw [Bv] at h;have hK' : ∀ q∈ks,byR q.lab.2.2.1 K=q:=fun q hq=>hK q (mem_cons_of_mem _ hq)
  split at h
  ·split at h
   ·cases h
   ·exact Me ks hr.2 hpw.2 K hK' fs hfs vs h
  ·rename_i f hf;have hfn:=find?_some hf;have hfn:f.1=p.lab.2.2.1:=by simpa using hfn
   have hfm:=List.mem_of_find?_eq_some hf;split at h
   ·rename_i w hw;obtain ⟨us,hu,rfl⟩:=map_eq_some_iff.1 h
    rw [<-JP ks fs (n:=p.lab.2.2.1) (fun q hq e=>by
     have:=hpw.1 q hq;unfold KR at this
     omega)] at hu
    have ih:=Me ks hr.2 hpw.2 K hK' _ (fun g hg=>hfs g (List.mem_filter.1 hg).1) us hu;have hd:=LM hfm hfn;have hwn:=Ej hw;have hby:byR w.lab.2.2.1 K=p:=by rw [hwn,hfn]; exact hK p mem_cons_self
    have h1:=XY (hfs f hfm) (fun hp d no v hv=>IB p hr.1.2 hp d no v hv) hw;rw [EY,hby,length_append];omega
   ·cases h
end

mutual
theorem Aa3 : ∀ z:Rose Lab,lfR z=true->wfR (cv z)=true
 | .node x ks,h=>by
  rw [lfR,anE,anE] at h;obtain ⟨⟨h1,h2⟩,h3⟩:=h;rw [cv,wfR,Vu ks h3,Bool.and_true];obtain ⟨a,b,c,m,e,⟨⟩⟩:=x;show (m||(cvs ks).isEmpty)=true;cases m
  ·have h2:(a==1)=true:=h2;rw [beq_iff_eq] at h2;subst h2;have h1:ks.isEmpty=true:=h1;rw [List.isEmpty_iff] at h1;subst h1;rw [cvs]; rfl
  ·rfl
theorem Vu : ∀ ks:RL,lfL ks=true->wfL (cvs ks)=true
 | [],_=>by rw [cvs,wfL]
 | z::ks,h=>by
  rw [lfL,anE] at h;rw [cvs,wfL,Aa3 z h.1,Vu ks h.2]; rfl
end
theorem Agi {v:List Nd} (h0:0<v.length) (H:Ord (tys v)):v[0].2.2.2.1 = -1:=by
 have h:=H.zero;unfold Ba tys at h;rw [List.getElem?_map,gtE h0] at h;exact Option.some.inj h
theorem Aen {v:List Nd} {l:List Ty} (hf:D2 v l=true):wfR (vtr v 0)=true/\Am (vtr v 0) (-1) 0=v/\(vtr v 0).lab.2.2.1=0/\vcR (vtr v 0)=v.length:=by
 have hf':=hf;obtain ⟨hk,h0,h40,H,hsf⟩:=Es hf
 have hn:noN v 0=some 0:=by
  unfold D2 EV at hf';simp only [anE] at hf';exact ((GN h0).1 hf'.2.1.1).2
 have e:=H.end' (by rw [Bn]; exact h0);have hw:wfR (vtr v 0)=true:=Aa3 _ (Adb v _ 0 h0)
 have hfl:Am (vtr v 0) (-1) 0=v:=by
  have:=O4 v.length 0 (by omega) h0;rw [Agi h0 H,e.1,Bn] at this;refine this.trans ?_;unfold FN;rw [drop_zero,Nat.sub_zero,take_length]
 refine ⟨hw,hfl,?_,?_⟩
 ·have:=L5 (v:=v) h0;rw [Gw h0] at hn;show (cv (kf (tys v) 0).1).lab.2.2.1=0;rw [this];exact Option.some.inj hn
 ·have:=(DC hw).2.2;rw [hfl] at this;exact this.symm
theorem NN {v:List Nd} {l:List Ty} (h:seB v l=true):sdB l (seL v l)=true/\sdL l (seL v l)=v/\DP l (seL v l)=true/\FA l (seL v l)=true/\(seL v l).length<=400:=by
 have h':=h;unfold seB at h';rw [anE] at h';obtain ⟨hf,he⟩:=h';obtain ⟨hk,h0,h40,H,hsf⟩:=Es hf;rw [Rk hf] at hsf;obtain ⟨w1,w2,w3,w4⟩:=Aen hf;have e:seL v l=A0 (vtr v 0) (t2L l 0):=by unfold seL; rw [h]; rfl
 unfold ecB ecL at he;have he:=of_decide_eq_true he;obtain ⟨g1,g2,g3⟩:=AZ (Bz hk).1;have hd:=OK (vtr v 0) (t2L l 0) g2 (Ei (Bz hk).1) (by omega) (by omega) hsf w1 he;rw [w3] at hd;rw [e];obtain ⟨a1,a2⟩:=KC he hd;rw [w2] at a2;have hb:dvB (t2L l 0) (A0 (vtr v 0) (t2L l 0))=true:=by unfold dvB; rw [a1,a2,dcT h40]; rfl
 have hs:sdB l (A0 (vtr v 0) (t2L l 0))=true:=by unfold sdB; rw [hk,hb]; rfl
 have hi:FA l (A0 (vtr v 0) (t2L l 0))=true:=by unfold FA; rw [dcT he,hk]; rfl
 refine ⟨hs,?_,?_,hi,he⟩
 ·unfold sdL dvL;rw [hs,hb,a2]; rfl
 ·unfold DP;rw [hi,hd]; rfl
mutual
def Dd:Rose Lab->Rose Lab->Bool
 | .node y ks,a=>if a.lab.1≠y.1\/y.2.2.2.2.1<a.lab.2.2.2.2.1 then false else if y.1=4 then M1 ks a.kids else Ez a.kids ks
def M1:RL->RL->Bool
 | [],_=>true
 | p::_,zs=>Dd p (hd0 zs)
def Ez (zs:RL):RL->Bool
 | []=>true
 | p::ks=>(AN p.lab.2.2.1 zs&&((!p.lab.2.2.2.1||(byR p.lab.2.2.1 zs).lab.2.2.2.1)&&Dd p (byR p.lab.2.2.1 zs)))&&Ez zs ks
end
def Gp (a:Rose Lab) (ks:RL) (i:Nat):Bool:=if a.lab.1=4 then (if i=0 then M1 ks a.kids else true) else Ez a.kids (ks.drop i)
def Rm (n:Nat):Gm
 | [.tp LCd a 0,.tp LCd b 0],[]=>.need (decide (Ah a=true/\Ah b=true/\Aj b<=n/\Aj b<=1000000/\Aj a<=1000000)) (.leaf (.b (Dd b a),[]))
 | _,_=>.no
def Rr (n:Nat):Gm
 | [.agg (Lt x0 x1 x2 x3 x4 xs),.agg (Lt y0 y1 y2 y3 y4 ys)],[]=>.need (decide (Ah (.node (x0,x1,x2,x3,x4,()) xs:Rose Lab)=true/\Ah (.node (y0,y1,y2,y3,y4,()) ys:Rose Lab)=true/\Aj (.node (y0,y1,y2,y3,y4,()) ys:Rose Lab)<=n/\Aj (.node (y0,y1,y2,y3,y4,()) ys:Rose Lab)<=1000000/\Aj (.node (x0,x1,x2,x3,x4,()) xs:Rose Lab)<=1000000)) (.leaf (.b (Dd (.node (y0,y1,y2,y3,y4,()) ys:Rose Lab) (.node (x0,x1,x2,x3,x4,()) xs:Rose Lab)),[]))
 | _,_=>.no
def Hf (n:Nat):LoopEnt:=⟨83,[0,32,33,34],[],[4],fun
 | ([.tp LCd a 0,.sl (.tree LCd) ks,.j c,.j i],[])=>.need (decide (0<=i/\i.toNat<=ks.length/\c=ks.length/\Ah a=true/\ks.all Ah=true/\(a.lab.1=4->ks.length=1)/\Ak ks<=n/\Ak ks<=1000000/\Aj a<=1000000)) (.br (Gp a ks i.toNat) (.leaf (.exit 0,([],[]))) (.leaf (.ret,([.b false],[]))))
 | _=>.no⟩
def Hg (n:Nat):LoopEnt:=⟨70,[2,39,40,41],[],[4],fun
 | ([.ptr 0 0,.sl (.rose LCd) ks,.j c,.j i],[some (.box (Lt _ _ _ _ _ xs))])=>.need (decide (0<=i/\i.toNat<=ks.length/\c=ks.length/\A6 5 xs=true/\ks.all Ah=true/\Ak ks<=n/\Ak ks<=1000000/\Ak xs<=1000000)) (.br (Ez xs (ks.drop i.toNat)) (.leaf (.exit 0,([],[]))) (.leaf (.ret,([.b false],[]))))
 | _=>.no⟩
abbrev Rb (n:Nat):FuncId->Option Ent:=Aa [(35,.rd1 L3),(84,.rd1 (Rm n))]
theorem MQ (n:Nat) (a:Rose Lab) (ks:RL) (c i:Int):Au prog (Rb n) (Aa [(4,Hf n)]) 0 (body f84 0) (Hf n) ([.tp LCd a 0,.sl (.tree LCd) ks,.j c,.j i],[]) =
 ((ifB (decide (i<c)) (ifT (decide (0<=i)&&decide (i<(↑ks.length:Int))) (An ks[i.toNat]? fun z=>ifB (a.lab.1==(4:Int)) (ifT (decide (0<=i)&&decide (i
 < (↑a.kids.length:Int))) (An a.kids[i.toNat]? fun z_1=>ifT (decide (Ah z_1=true/\Ah z=true/\Aj z<=n/\Aj z<=1000000/\Aj z_1<=
 1000000)) (ifB (!Dd z z_1) rF (some (Ex.normal,[V.tp LCd a 0,V.sl LCd.tree ks,V.j c,V.j (i64.wrap (i
 + 1))],[]))))) (ifT (decide (a.kids.length<=maxI)) (ifB (AN (Rose.lab z).2.2.1 a.kids) (ifB (Rose.lab z).2.2.2.1 (ifB (!(byR (Rose.lab z).2.2.1
 a.kids).lab.2.2.2.1) rF (ifT (decide (Ah (byR (Rose.lab z).2.2.1 a.kids)=true/\Ah z=true/\Aj z<=n/\Aj z<=
 1000000/\Aj (byR (Rose.lab z).2.2.1 a.kids)<=1000000)) (ifB (!Dd z (byR (Rose.lab z).2.2.1 a.kids)) rF
 (some (Ex.normal,[V.tp LCd a 0,V.sl LCd.tree ks,V.j c,V.j (i64.wrap (i+1))],[]))))) (ifT (decide (Ah (byR (Rose.lab z).2.2.1
 a.kids)=true/\Ah z=true/\Aj z<=n/\Aj z<=1000000/\Aj (byR (Rose.lab z).2.2.1 a.kids)<=1000000)) (ifB (!Dd z (byR (Rose.lab
 z).2.2.1 a.kids)) rF (some (Ex.normal,[V.tp LCd a 0,V.sl LCd.tree ks,V.j c,V.j (i64.wrap (i+1))],
 []))))) rF)))) (some (Ex.exit 0,[],[]))):_):=by kernel_rfl
theorem VC (n:Nat) (a b:Rose Lab):Bm prog (Rb n) (Aa [(4,Hf n)]) f84 [.tp LCd a 0,.tp LCd b 0] [] =
 ((ifB (a.lab.1 != b.lab.1) nF (ifB (decide (a.lab.2.2.2.2.1>b.lab.2.2.2.2.1)) nF (ifT (decide ((0:Int)<=
 (0:Int)/\0<=b.kids.length/\(↑b.kids.length:Int)=(↑b.kids.length:Int)/\Ah a=true/\b.kids.all Ah=true/\(a.lab.1=(4:(Cd.int
 .i64).den)->b.kids.length=1)/\Ak b.kids<=n/\Ak b.kids<=1000000/\Aj a<=1000000)) (ifB (Gp a b.kids 0) (some (V.b true,
 [])) nF)))):_):=by kernel_rfl
abbrev Ra (n:Nat):FuncId->Option Ent:=Aa [(38,.rd1 byG),(85,.rd1 (Rr n))]
theorem MX (n:Nat) (x0:Int) (x1:By) (x2:Int) (x3:Bool) (x4:Int) (xs:RL) (ks:RL) (c i:Int):Au prog (Ra n) (Aa [(6,Hg n)]) 0 (body f85 0) (Hg n) ([.ptr 0 0,.sl (.rose LCd) ks,.j c,.j i],[some (.box (Lt x0 x1 x2 x3 x4 xs))]) =
 ((ifB (decide (i<c)) (ifT (decide (0<=i)&&decide (i<(↑ks.length:Int))) (An ks[i.toNat]? fun z=>ifT (decide (xs.length<=maxI)) (ifB (AN (Rose.lab
 z).2.2.1 xs) (ifB (Rose.lab z).2.2.2.1 (ifB (!(byR (Rose.lab z).2.2.1 xs).lab.2.2.2.1) rF (ifT (decide (Ah
 (Rose.node ((byR (Rose.lab z).2.2.1 xs).lab.1,(byR (Rose.lab z).2.2.1 xs).lab.2.1,(byR (Rose.lab z).2.2.1 xs).lab.2.2.1,(byR (Rose.lab
 z).2.2.1 xs).lab.2.2.2.1,(byR (Rose.lab z).2.2.1 xs).lab.2.2.2.2.1,()) (byR (Rose.lab z).2.2.1 xs).kids)=true/\Ah (Rose.node
 ((Rose.lab z).1,(Rose.lab z).2.1,(Rose.lab z).2.2.1,(Rose.lab z).2.2.2.1,(Rose.lab z).2.2.2.2.1,()) (Rose.kids z))=true/\Aj
 (Rose.node ((Rose.lab z).1,(Rose.lab z).2.1,(Rose.lab z).2.2.1,(Rose.lab z).2.2.2.1,(Rose.lab z).2.2.2.2.1,()) (Rose.kids z))<=n/\
 Aj (Rose.node ((Rose.lab z).1,(Rose.lab z).2.1,(Rose.lab z).2.2.1,(Rose.lab z).2.2.2.1,(Rose.lab z).2.2.2.2.1,()) (Rose.kids z))<=
 1000000/\Aj (Rose.node ((byR (Rose.lab z).2.2.1 xs).lab.1,(byR (Rose.lab z).2.2.1 xs).lab.2.1,(byR (Rose.lab z).2.2.1
 xs).lab.2.2.1,(byR (Rose.lab z).2.2.1 xs).lab.2.2.2.1,(byR (Rose.lab z).2.2.1 xs).lab.2.2.2.2.1,()) (byR (Rose.lab z).2.2.1
 xs).kids)<=1000000)) (ifB (!Dd (Rose.node ((Rose.lab z).1,(Rose.lab z).2.1,(Rose.lab z).2.2.1,(Rose.lab z).2.2.2.1,(Rose.lab
 z).2.2.2.2.1,()) (Rose.kids z)) (Rose.node ((byR (Rose.lab z).2.2.1 xs).lab.1,(byR (Rose.lab z).2.2.1 xs).lab.2.1,(byR (Rose.lab
 z).2.2.1 xs).lab.2.2.1,(byR (Rose.lab z).2.2.1 xs).lab.2.2.2.1,(byR (Rose.lab z).2.2.1 xs).lab.2.2.2.2.1,()) (byR (Rose.lab
 z).2.2.1 xs).kids)) rF (some (Ex.normal,[V.ptr 0 0,V.sl LCd.rose ks,V.j c,V.j (i64.wrap (i+1))],[some
 (Blk.box (Lt x0 x1 x2 x3 x4 xs))]))))) (ifT (decide (Ah (Rose.node ((byR (Rose.lab z).2.2.1 xs).lab.1,(byR
 (Rose.lab z).2.2.1 xs).lab.2.1,(byR (Rose.lab z).2.2.1 xs).lab.2.2.1,(byR (Rose.lab z).2.2.1 xs).lab.2.2.2.1,(byR (Rose.lab
 z).2.2.1 xs).lab.2.2.2.2.1,()) (byR (Rose.lab z).2.2.1 xs).kids)=true/\Ah (Rose.node ((Rose.lab z).1,(Rose.lab z).2.1,(Rose.lab
 z).2.2.1,(Rose.lab z).2.2.2.1,(Rose.lab z).2.2.2.2.1,()) (Rose.kids z))=true/\Aj (Rose.node ((Rose.lab z).1,(Rose.lab z).2.1,
 (Rose.lab z).2.2.1,(Rose.lab z).2.2.2.1,(Rose.lab z).2.2.2.2.1,()) (Rose.kids z))<=n/\Aj (Rose.node ((Rose.lab z).1,(Rose.lab
 z).2.1,(Rose.lab z).2.2.1,(Rose.lab z).2.2.2.1,(Rose.lab z).2.2.2.2.1,()) (Rose.kids z))<=1000000/\Aj (Rose.node ((byR
 (Rose.lab z).2.2.1 xs).lab.1,(byR (Rose.lab z).2.2.1 xs).lab.2.1,(byR (Rose.lab z).2.2.1 xs).lab.2.2.1,(byR (Rose.lab z).2.2.1
 xs).lab.2.2.2.1,(byR (Rose.lab z).2.2.1 xs).lab.2.2.2.2.1,()) (byR (Rose.lab z).2.2.1 xs).kids)<=1000000)) (ifB (!Dd (Rose.node
 ((Rose.lab z).1,(Rose.lab z).2.1,(Rose.lab z).2.2.1,(Rose.lab z).2.2.2.1,(Rose.lab z).2.2.2.2.1,()) (Rose.kids z)) (Rose.node ((byR
 (Rose.lab z).2.2.1 xs).lab.1,(byR (Rose.lab z).2.2.1 xs).lab.2.1,(byR (Rose.lab z).2.2.1 xs).lab.2.2.1,(byR (Rose.lab z).2.2.1
 xs).lab.2.2.2.1,(byR (Rose.lab z).2.2.1 xs).lab.2.2.2.2.1,()) (byR (Rose.lab z).2.2.1 xs).kids)) rF (some
 (Ex.normal,[V.ptr 0 0,V.sl LCd.rose ks,V.j c,V.j (i64.wrap (i+1))],[some (Blk.box (Lt x0 x1 x2 x3 x4 xs))]))))) rF))) (some (Ex.exit 0,[],[]))):_):=by kernel_rfl
theorem VQ (n:Nat) (x0:Int) (x1:By) (x2:Int) (x3:Bool) (x4:Int) (xs:RL) (y0:Int) (y1:By) (y2:Int) (y3:Bool) (y4:Int) (ys:RL):Bm prog (Ra n) (Aa [(6,Hg n)]) f85 [.agg (Lt x0 x1 x2 x3 x4 xs),.agg (Lt y0 y1 y2 y3 y4 ys)] [] =
 ((ifB (x0 != y0) nF (ifB (x0==3) (ifB (decide (x4>y4)) nF (ifB (x0==4) (ifT (decide ((0:Int)<=(0:Int))&&decide (0 <
 (↑xs.length:Int))) (An xs[0]? fun z=>ifT (decide ((0:Int)<=(0:Int))&&decide (0<(↑ys.length:Int))) (An ys[0]? fun z_1=>ifT (decide
 (Ah (Rose.node ((Rose.lab z).1,(Rose.lab z).2.1,(Rose.lab z).2.2.1,(Rose.lab z).2.2.2.1,(Rose.lab z).2.2.2.2.1,()) (Rose.kids z)) =
 true/\Ah (Rose.node ((Rose.lab z_1).1,(Rose.lab z_1).2.1,(Rose.lab z_1).2.2.1,(Rose.lab z_1).2.2.2.1,(Rose.lab z_1).2.2.2.2.1,())
 (Rose.kids z_1))=true/\Aj (Rose.node ((Rose.lab z_1).1,(Rose.lab z_1).2.1,(Rose.lab z_1).2.2.1,(Rose.lab z_1).2.2.2.1,(Rose.lab
 z_1).2.2.2.2.1,()) (Rose.kids z_1))<=n/\Aj (Rose.node ((Rose.lab z_1).1,(Rose.lab z_1).2.1,(Rose.lab z_1).2.2.1,(Rose.lab
 z_1).2.2.2.1,(Rose.lab z_1).2.2.2.2.1,()) (Rose.kids z_1))<=1000000/\Aj (Rose.node ((Rose.lab z).1,(Rose.lab z).2.1,(Rose.lab
 z).2.2.1,(Rose.lab z).2.2.2.1,(Rose.lab z).2.2.2.2.1,()) (Rose.kids z))<=1000000)) (some (V.b (Dd (Rose.node ((Rose.lab z_1).1,
 (Rose.lab z_1).2.1,(Rose.lab z_1).2.2.1,(Rose.lab z_1).2.2.2.1,(Rose.lab z_1).2.2.2.2.1,()) (Rose.kids z_1)) (Rose.node ((Rose.lab z).1,
 (Rose.lab z).2.1,(Rose.lab z).2.2.1,(Rose.lab z).2.2.2.1,(Rose.lab z).2.2.2.2.1,()) (Rose.kids z))),[]))))) (ifT (decide ((0:Int)<=(0
 : Int)/\0<=ys.length/\(↑ys.length:Int)=(↑ys.length:Int)/\A6 (5:Int) xs=true/\ys.all Ah=true/\Ak ys<=n/\Ak ys<=1000000/\
 Ak xs<=1000000)) (ifB (Ez xs (drop 0 ys)) (some (V.b true,[])) nF)))) (ifB (x0==4) (ifT (decide ((0:Int)<=(0:Int))
 && decide (0<(↑xs.length:Int))) (An xs[0]? fun z=>ifT (decide ((0:Int)<=(0:Int))&&decide (0<(↑ys.length:Int))) (An ys[0]? fun z_1
 => ifT (decide (Ah (Rose.node ((Rose.lab z).1,(Rose.lab z).2.1,(Rose.lab z).2.2.1,(Rose.lab z).2.2.2.1,(Rose.lab z).2.2.2.2.1,())
 (Rose.kids z))=true/\Ah (Rose.node ((Rose.lab z_1).1,(Rose.lab z_1).2.1,(Rose.lab z_1).2.2.1,(Rose.lab z_1).2.2.2.1,(Rose.lab
 z_1).2.2.2.2.1,()) (Rose.kids z_1))=true/\Aj (Rose.node ((Rose.lab z_1).1,(Rose.lab z_1).2.1,(Rose.lab z_1).2.2.1,(Rose.lab
 z_1).2.2.2.1,(Rose.lab z_1).2.2.2.2.1,()) (Rose.kids z_1))<=n/\Aj (Rose.node ((Rose.lab z_1).1,(Rose.lab z_1).2.1,(Rose.lab
 z_1).2.2.1,(Rose.lab z_1).2.2.2.1,(Rose.lab z_1).2.2.2.2.1,()) (Rose.kids z_1))<=1000000/\Aj (Rose.node ((Rose.lab z).1,
 (Rose.lab z).2.1,(Rose.lab z).2.2.1,(Rose.lab z).2.2.2.1,(Rose.lab z).2.2.2.2.1,()) (Rose.kids z))<=1000000)) (some (V.b (Dd
 (Rose.node ((Rose.lab z_1).1,(Rose.lab z_1).2.1,(Rose.lab z_1).2.2.1,(Rose.lab z_1).2.2.2.1,(Rose.lab z_1).2.2.2.2.1,()) (Rose.kids
 z_1)) (Rose.node ((Rose.lab z).1,(Rose.lab z).2.1,(Rose.lab z).2.2.1,(Rose.lab z).2.2.2.1,(Rose.lab z).2.2.2.2.1,()) (Rose.kids z))),
 []))))) (ifT (decide ((0:Int)<=(0:Int)/\0<=ys.length/\(↑ys.length:Int)=(↑ys.length:Int)/\A6 (5:Int) xs=true/\ys.all Ah=true/\Ak
 ys<=n/\Ak ys<=1000000/\Ak xs<=1000000)) (ifB (Ez xs (drop 0 ys)) (some (V.b true,[])) nF))))):_):=by kernel_rfl

theorem Pf (n:Nat) (a:Rose Lab) (ha:Ah a=true) (ks:RL) (hks:ks.all Ah=true) (h4:a.lab.1=4->ks.length=1) (hcn:Ak ks<=n) (hc6:Ak ks<=1000000) (hca:Aj a<=1000000) : ∀ (j i:Nat),i+j=ks.length->∀ ex d,(Br.br (Gp a ks i) (.leaf (.exit 0,([],[]))) (.leaf (.ret,([.b false],[]))):Br (Ex×Dt)).run=some (ex,d)->Runs prog (Rb n) (Aa [(4,Hf n)]) 0 (body f84 0) (Hf n) ([.tp LCd a 0,.sl (.tree LCd) ks,.j (ks.length:Int),.j (i:Int)],[]) ex d
 | 0,i,hi,ex,d,h=>by
  have hr:=MQ n a ks ks.length i;rw [Ae (dcF (by omega))] at hr
  have e:Gp a ks i=true:=by
   unfold Gp;rw [drop_eq_nil_of_le (by omega)];split
   ·rename_i q;have:=h4 q;rw [if_neg (by omega)]
   ·rfl
  rw [S2 e] at h;obtain ⟨rfl,rfl⟩:=lfP h;exact stp hr
 | j+1,i,hi,ex,d,h=>by
  have hl:i<ks.length:=by omega
  have hM:=mxI;have hr:=MQ n a ks ks.length i;have hlen:=Bc ks;have W1:i64.wrap ((i:Int)+1)=((i+1:Nat):Int):=by rw [Av (by omega) (by omega)]; omega
  have hd:=drop_eq_getElem_cons hl;have hm:=getElem_mem hl;have hrz:=all_eq_true.1 hks _ hm;have hcz:=Bo hm;have hka:=AE a;have hla:=Bc a.kids
  have bad : ∀ {w},Au prog (Rb n) (Aa [(4,Hf n)]) 0 (body f84 0) (Hf n) ([.tp LCd a 0,.sl (.tree LCd) ks,.j (ks.length:Int),.j (i:Int)],[])=w->w=some ((.ret:Ex),(([.b false]:List V),([]:List (Option Blk))))->Gp a ks i=false->Runs prog (Rb n) (Aa [(4,Hf n)]) 0 (body f84 0) (Hf n) ([.tp LCd a 0,.sl (.tree LCd) ks,.j (ks.length:Int),.j (i:Int)],[]) ex d:=fun e1 e2 e3=>by
   rw [Vl e3] at h;obtain ⟨rfl,rfl⟩:=lfP h;exact .stop _ _ _ (e1.trans e2) (by simp)
  have good : ∀ {w},Au prog (Rb n) (Aa [(4,Hf n)]) 0 (body f84 0) (Hf n) ([.tp LCd a 0,.sl (.tree LCd) ks,.j (ks.length:Int),.j (i:Int)],[])=w->w=some ((.normal:Ex),(([.tp LCd a 0,.sl (.tree LCd) ks,.j (ks.length:Int),.j ((i+1:Nat):Int)],[]):Dt))->Gp a ks i=Gp a ks (i+1)->Runs prog (Rb n) (Aa [(4,Hf n)]) 0 (body f84 0) (Hf n) ([.tp LCd a 0,.sl (.tree LCd) ks,.j (ks.length:Int),.j (i:Int)],[]) ex d:=fun e1 e2 e3=>
   sts (e1.trans e2) (Pf n a ha ks hks h4 hcn hc6 hca j (i+1) (by omega) ex d (by rw [<-e3]; exact h))
  rw [Af (dcT (by omega)),T2 (by omega),ntN,gtE hl,Ap,W1] at hr
  by_cases q4:a.lab.1=4
  ·have hk1:=h4 q4;obtain ⟨ka,kb⟩:=BE ha q4;obtain rfl:i=0:=by omega
   have e0:Gp a ks 0=Dd ks[0] (hd0 a.kids):=by
    unfold Gp;rw [if_pos q4,if_pos rfl]
    match ks,hl with
    | p::ks,_=>rw [M1]; rfl
   have e1:Gp a ks (0+1)=true:=by unfold Gp; rw [if_pos q4,if_neg (by omega)]
   have hz:0<a.kids.length:=by omega
   have hx:a.kids[0]=hd0 a.kids:=by
    match hk:a.kids,hz with
    | x::xs,_=>rfl
   have hxr:=all_eq_true.1 kb _ (getElem_mem hz);have hxc:=Bo (getElem_mem hz);rw [Af (beq_iff_eq.2 q4),T2 (by omega),gtE hz,Ap,Ab (dcT ⟨hxr,hrz,by omega,by omega,by omega⟩),hx] at hr
   cases hs:Dd ks[0] (hd0 a.kids) with
   | false=>rw [hs] at hr; exact bad hr rfl (e0.trans hs)
   | true=>rw [hs] at hr; exact good hr rfl ((e0.trans hs).trans e1.symm)
  ·have hal:=(Cq ha).2
   have e0:Gp a ks i=((AN ks[i].lab.2.2.1 a.kids&&((!ks[i].lab.2.2.2.1||(byR ks[i].lab.2.2.1 a.kids).lab.2.2.2.1)&&Dd ks[i] (byR ks[i].lab.2.2.1 a.kids)))&&Gp a ks (i+1)):=by
    unfold Gp;rw [if_neg q4,if_neg q4,hd,Ez]
   rw [Ae (beq_eq_false_iff_ne.2 q4),Ab (dcT (by omega))] at hr;generalize ks[i]=p at hr e0 hrz hcz
   cases hn:AN p.lab.2.2.1 a.kids with
   | false=>rw [hn] at hr e0; exact bad hr rfl (by rw [e0]; rfl)
   | true=>
    obtain ⟨bm,bn⟩:=EC hn;have hxr:=(BH hal _ bm).2;have hxc:=Bo bm;rw [hn] at hr e0;simp only [Bg,Ab (dcT (show Ah (byR p.lab.2.2.1 a.kids)=true/\Ah p=true/\Aj p<=n/\Aj p<=1000000/\Aj (byR p.lab.2.2.1 a.kids)<=1000000 from ⟨hxr,hrz,by omega,by omega,by omega⟩))] at hr
    cases hmu:p.lab.2.2.2.1 with
    | true=>
     rw [hmu] at hr e0
     cases hmx:(byR p.lab.2.2.1 a.kids).lab.2.2.2.1 with
     | false=>rw [hmx] at hr e0; exact bad hr rfl (by rw [e0]; rfl)
     | true=>
      rw [hmx] at hr e0
      cases hs:Dd p (byR p.lab.2.2.1 a.kids) with
      | false=>rw [hs] at hr e0; exact bad hr rfl (by rw [e0]; rfl)
      | true=>rw [hs] at hr e0; exact good hr rfl (by rw [e0]; rfl)
    | false=>
     rw [hmu] at hr e0
     cases hs:Dd p (byR p.lab.2.2.1 a.kids) with
     | false=>rw [hs] at hr e0; exact bad hr rfl (by rw [e0]; rfl)
     | true=>rw [hs] at hr e0; exact good hr rfl (by rw [e0]; rfl)
theorem Abl (n:Nat):Aw prog (Rb n) (Aa [(4,Hf n)]) 0 (f84.body.getD .skip):=by
 refine As (a:=body f84 0) (by kernel_rfl) fun d ex d' h=>?_
 unfold Hf at h;dsimp only at h;split at h
 ·rename_i a ks c i;obtain ⟨hc,hx⟩:=Ad h;obtain ⟨h0,h1,rfl,h3,h4,h5,h6,h7,h8⟩:=of_decide_eq_true hc;obtain ⟨i,rfl⟩:=Int.eq_ofNat_of_zero_le h0;simp only [ntN] at h1 hx;exact Pf n a h3 ks h4 h5 h6 h7 h8 (ks.length-i) i (by omega) ex d' hx
 ·cases h
theorem SH (b a:Rose Lab):Dd b a=if a.lab.1≠b.lab.1\/b.lab.2.2.2.2.1<a.lab.2.2.2.2.1 then false else if b.lab.1=4 then M1 b.kids a.kids else Ez a.kids b.kids:=by
 obtain ⟨y,ks⟩:=b;rw [Dd]; rfl
theorem IU {z:Rose Lab} (h:Ah z=true):z.kids.all Ah=true:=all_eq_true.2 fun y hy=>(BH (Cq h).2 y hy).2
theorem Y9 : ∀ n,(∀ m,m<n->Ac prog 84 (Ent.rd1 (Rm m)).F)->Ac prog 84 (Ent.rd1 (Rm n)).F
 | 0,_=>AP fun vs bs=>by
  unfold Ent.F Rm;dsimp only;split
  ·rename_i a b;have hz:=BN b;have:decide (Ah a=true/\Ah b=true/\Aj b<=0/\Aj b<=1000000/\Aj a<=1000000)=false:=dcF (by omega);rw [this]; rfl
  ·rfl
 | n+1,ihs=>by
  have ih:=ihs n (Nat.lt_succ_self n);refine fcC (kc func35 WY (kc func84 ih KnowsL.nil)).knows (Λ:=(Aa [(4,Hf n)])) func84 fun vs bs r hq=>?_
  unfold Ent.F Rm at hq;dsimp only at hq;split at hq
  ·rename_i a b;obtain ⟨hc,hx⟩:=Ad hq;obtain ⟨h1,h2,h3,h4,h5⟩:=of_decide_eq_true hc;refine ⟨Abl n,(VC n a b).trans (Eq.trans ?_ hx)⟩;show _=some _;rw [SH];have hkb:=AE b
   by_cases q1:a.lab.1=b.lab.1
   ·rw [Ae (bne_eq_false_iff_eq.2 q1)]
    by_cases q2:b.lab.2.2.2.2.1<a.lab.2.2.2.2.1
    ·rw [Af (dcT q2),if_pos (.inr q2)]
    ·rw [Ae (dcF q2),if_neg (by rintro (h | h); exact h q1; exact q2 h),Ab (dcT ⟨by omega,by omega,rfl,h1,IU h2,fun h=>(BE h2 (q1.symm.trans h)).1,by omega,by omega,h5⟩)]
     have e:Gp a b.kids 0=if b.lab.1=4 then M1 b.kids a.kids else Ez a.kids b.kids:=by
      unfold Gp;rw [q1,if_pos rfl,drop_zero]
     rw [e];cases (if b.lab.1=4 then M1 b.kids a.kids else Ez a.kids b.kids)<;>rfl
   ·rw [Af (bne_iff_ne.2 q1),if_pos (.inl q1)]
  ·cases hq
theorem YA (n:Nat):Ac prog 84 (Ent.rd1 (Rm n)).F:=Nat.strongRecOn n fun n h=>Y9 n h
theorem P0 (n:Nat) (x0:Int) (x1:By) (x2:Int) (x3:Bool) (x4:Int) (xs:RL) (hxs:A6 5 xs=true) (ks:RL) (hks:ks.all Ah=true) (hcn:Ak ks<=n) (hc6:Ak ks<=1000000) (hca:Ak xs<=1000000) : ∀ (j i:Nat),i+j=ks.length->∀ ex d,(Br.br (Ez xs (ks.drop i)) (.leaf (.exit 0,([],[]))) (.leaf (.ret,([.b false],[]))):Br (Ex×Dt)).run=some (ex,d)->Runs prog (Ra n) (Aa [(6,Hg n)]) 0 (body f85 0) (Hg n) ([.ptr 0 0,.sl (.rose LCd) ks,.j (ks.length:Int),.j (i:Int)],[some (.box (Lt x0 x1 x2 x3 x4 xs))]) ex d
 | 0,i,hi,ex,d,h=>by
  have hr:=MX n x0 x1 x2 x3 x4 xs ks ks.length i;rw [Ae (dcF (by omega))] at hr;have e:Ez xs (ks.drop i)=true:=by rw [drop_eq_nil_of_le (by omega)]; rfl
  rw [S2 e] at h;obtain ⟨rfl,rfl⟩:=lfP h;exact stp hr
 | j+1,i,hi,ex,d,h=>by
  have hl:i<ks.length:=by omega
  have hM:=mxI;have hr:=MX n x0 x1 x2 x3 x4 xs ks ks.length i
  try dsimp only [shr] at hr
  have hlen:=Bc ks;have hlx:=Bc xs;have W1:i64.wrap ((i:Int)+1)=((i+1:Nat):Int):=by rw [Av (by omega) (by omega)]; omega
  have hd:=drop_eq_getElem_cons hl;have hm:=getElem_mem hl;have hrz:=all_eq_true.1 hks _ hm;have hcz:=Bo hm
  have bad : ∀ {w},Au prog (Ra n) (Aa [(6,Hg n)]) 0 (body f85 0) (Hg n) ([.ptr 0 0,.sl (.rose LCd) ks,.j (ks.length:Int),.j (i:Int)],[some (.box (Lt x0 x1 x2 x3 x4 xs))])=w->w=some ((.ret:Ex),(([.b false]:List V),([]:List (Option Blk))))->Ez xs (ks.drop i)=false->Runs prog (Ra n) (Aa [(6,Hg n)]) 0 (body f85 0) (Hg n) ([.ptr 0 0,.sl (.rose LCd) ks,.j (ks.length:Int),.j (i:Int)],[some (.box (Lt x0 x1 x2 x3 x4 xs))]) ex d:=fun e1 e2 e3=>by
   rw [Vl e3] at h;obtain ⟨rfl,rfl⟩:=lfP h;exact .stop _ _ _ (e1.trans e2) (by simp)
  have good : ∀ {w},Au prog (Ra n) (Aa [(6,Hg n)]) 0 (body f85 0) (Hg n) ([.ptr 0 0,.sl (.rose LCd) ks,.j (ks.length:Int),.j (i:Int)],[some (.box (Lt x0 x1 x2 x3 x4 xs))])=w->w=some ((.normal:Ex),(([.ptr 0 0,.sl (.rose LCd) ks,.j (ks.length:Int),.j ((i+1:Nat):Int)],[some (.box (Lt x0 x1 x2 x3 x4 xs))]):Dt))->Ez xs (ks.drop i)=Ez xs (ks.drop (i+1))->Runs prog (Ra n) (Aa [(6,Hg n)]) 0 (body f85 0) (Hg n) ([.ptr 0 0,.sl (.rose LCd) ks,.j (ks.length:Int),.j (i:Int)],[some (.box (Lt x0 x1 x2 x3 x4 xs))]) ex d:=fun e1 e2 e3=>
   sts (e1.trans e2) (P0 n x0 x1 x2 x3 x4 xs hxs ks hks hcn hc6 hca j (i+1) (by omega) ex d (by rw [<-e3]; exact h))
  rw [Af (dcT (by omega)),T2 (by omega),ntN,gtE hl,Ap,W1,Ab (dcT (by omega))] at hr;simp only [AG] at hr;have e0:Ez xs (ks.drop i)=((AN ks[i].lab.2.2.1 xs&&((!ks[i].lab.2.2.2.1||(byR ks[i].lab.2.2.1 xs).lab.2.2.2.1)&&Dd ks[i] (byR ks[i].lab.2.2.1 xs)))&&Ez xs (ks.drop (i+1))):=by rw [hd,Ez]
  generalize ks[i]=p at hr e0 hrz hcz
  cases hn:AN p.lab.2.2.1 xs with
  | false=>rw [hn] at hr e0; exact bad hr rfl (by rw [e0]; rfl)
  | true=>
   obtain ⟨bm,bn⟩:=EC hn;have hxr:=(BH hxs _ bm).2;have hxc:=Bo bm;rw [hn] at hr e0;simp only [Bg,Ab (dcT (show Ah (byR p.lab.2.2.1 xs)=true/\Ah p=true/\Aj p<=n/\Aj p<=1000000/\Aj (byR p.lab.2.2.1 xs)<=1000000 from ⟨hxr,hrz,by omega,by omega,by omega⟩))] at hr
   cases hmu:p.lab.2.2.2.1 with
   | true=>
    rw [hmu] at hr e0
    cases hmx:(byR p.lab.2.2.1 xs).lab.2.2.2.1 with
    | false=>rw [hmx] at hr e0; exact bad hr rfl (by rw [e0]; rfl)
    | true=>
     rw [hmx] at hr e0
     cases hs:Dd p (byR p.lab.2.2.1 xs) with
     | false=>rw [hs] at hr e0; exact bad hr rfl (by rw [e0]; rfl)
     | true=>rw [hs] at hr e0; exact good hr rfl (by rw [e0]; rfl)
   | false=>
    rw [hmu] at hr e0
    cases hs:Dd p (byR p.lab.2.2.1 xs) with
    | false=>rw [hs] at hr e0; exact bad hr rfl (by rw [e0]; rfl)
    | true=>rw [hs] at hr e0; exact good hr rfl (by rw [e0]; rfl)
theorem Abu (n:Nat):Aw prog (Ra n) (Aa [(6,Hg n)]) 0 (f85.body.getD .skip):=by
 refine As (a:=body f85 0) (by kernel_rfl) fun d ex d' h=>?_
 unfold Hg at h;dsimp only at h;split at h
 ·rename_i ks c i x0 x1 x2 x3 x4 xs;obtain ⟨hc,hx⟩:=Ad h;obtain ⟨h0,h1,rfl,h3,h4,h6,h7,h8⟩:=of_decide_eq_true hc;obtain ⟨i,rfl⟩:=Int.eq_ofNat_of_zero_le h0;simp only [ntN] at h1 hx;exact P0 n x0 x1 x2 x3 x4 xs h3 ks h4 h6 h7 h8 (ks.length-i) i (by omega) ex d' hx
 ·cases h
theorem KW {z:Rose Lab} (h:Ah z=true) (h3:z.lab.1≠3):z.lab.2.2.2.2.1=0:=by
 obtain ⟨h1,_⟩:=Cq h;unfold B5 at h1
 by_cases a1:z.lab.1=1\/z.lab.1=2
 ·rw [if_pos a1,anE] at h1; simpa using h1.1
 ·rw [if_neg a1,if_neg h3] at h1
  by_cases a4:z.lab.1=4
  ·rw [if_pos a4,anE] at h1; simpa using h1.1
  ·rw [if_neg a4] at h1
   by_cases a5:z.lab.1≠5\/z.lab.2.2.2.2.1≠0
   ·rw [if_pos a5] at h1; cases h1
   ·omega
theorem TL (x0:Int) (x1:By) (x2:Int) (x3:Bool) (x4:Int) (xs:RL) (y0:Int) (y1:By) (y2:Int) (y3:Bool) (y4:Int) (ys:RL):Dd (.node (y0,y1,y2,y3,y4,()) ys:Rose Lab) (.node (x0,x1,x2,x3,x4,()) xs:Rose Lab)=if x0≠y0\/y4<x4 then false else if y0=4 then M1 ys xs else Ez xs ys:=by rw [Dd]; rfl
theorem YK : ∀ n,(∀ m,m<n->Ac prog 85 (Ent.rd1 (Rr m)).F)->Ac prog 85 (Ent.rd1 (Rr n)).F
 | 0,_=>AP fun vs bs=>by
  unfold Ent.F Rr;dsimp only;split
  ·rename_i x0 x1 x2 x3 x4 xs y0 y1 y2 y3 y4 ys;have hz:=BN (.node (y0,y1,y2,y3,y4,()) ys:Rose Lab);have:decide (Ah (.node (x0,x1,x2,x3,x4,()) xs:Rose Lab)=true/\Ah (.node (y0,y1,y2,y3,y4,()) ys:Rose Lab)=true/\Aj (.node (y0,y1,y2,y3,y4,()) ys:Rose Lab)<=0/\Aj (.node (y0,y1,y2,y3,y4,()) ys:Rose Lab)<=1000000/\Aj (.node (x0,x1,x2,x3,x4,()) xs:Rose Lab)<=1000000)=false:=dcF (by omega);rw [this]; rfl
  ·rfl
 | n+1,ihs=>by
  have ih:=ihs n (Nat.lt_succ_self n);refine fcC (kc func38 WU (kc func85 ih KnowsL.nil)).knows (Λ:=(Aa [(6,Hg n)])) func85 fun vs bs r hq=>?_
  unfold Ent.F Rr at hq;dsimp only at hq;split at hq
  ·rename_i x0 x1 x2 x3 x4 xs y0 y1 y2 y3 y4 ys;obtain ⟨hc,hx⟩:=Ad hq;obtain ⟨h1,h2,h3,h4,h5⟩:=of_decide_eq_true hc;refine ⟨Abu n,(VQ n x0 x1 x2 x3 x4 xs y0 y1 y2 y3 y4 ys).trans (Eq.trans ?_ hx)⟩
   try dsimp only [shr]
   show _=some _;rw [TL];have hkb:Aj (.node (y0,y1,y2,y3,y4,()) ys:Rose Lab)=Ak ys+1:=AE _;have hka:Aj (.node (x0,x1,x2,x3,x4,()) xs:Rose Lab)=Ak xs+1:=AE _;have m1:=KW h1;have m2:=KW h2;have l1:=BE h1;have l2:=BE h2;have w1:=BK h1;dsimp only [Rose.lab,Rose.kids] at m1 m2 l1 l2 w1;simp only [AG,drop_zero]
   by_cases q1:x0=y0
   ·subst q1;rw [Ae (bne_eq_false_iff_eq.2 rfl)]
    by_cases q4:x0=4
    ·obtain ⟨k1,k2⟩:=l1 q4;obtain ⟨k3,k4⟩:=l2 q4;rw [if_neg (by rintro (h | h); exact h rfl; have:=m1 (by omega); have:=m2 (by omega); omega),if_pos q4,Ae (beq_eq_false_iff_ne.2 (by omega)),Af (beq_iff_eq.2 q4)]
     match xs,k1,ys,k3 with
     | [x],_,[y],_=>
      have e1:Ak [x]=Aj x:=by rw [Ak,Ak]; rfl
      have e2:Ak [y]=Aj y:=by rw [Ak,Ak]; rfl
      rw [Ab (by rfl),show [x][0]? = some x from rfl,Ap,Ab (by rfl),show [y][0]? = some y from rfl,Ap]
      try simp only [AG]
      rw [Ab (dcT ⟨by simpa using k2,by simpa using k4,by omega,by omega,by omega⟩),M1];rfl
    ·by_cases q3:x0=3
     ·rw [Af (beq_iff_eq.2 q3)]
      by_cases q5:y4<x4
      ·rw [Af (dcT q5),if_pos (.inr q5)]
      ·rw [Ae (dcF q5),if_neg (by rintro (h | h); exact h rfl; exact q5 h),if_neg q4,Ae (beq_eq_false_iff_ne.2 q4)];rw [Ab (dcT ⟨by omega,by omega,by first | trivial | rfl,w1 q4,IU h2,by omega,by omega,by omega⟩)];cases Ez xs ys<;>rfl
     ·rw [Ae (beq_eq_false_iff_ne.2 q3),if_neg (by rintro (h | h); exact h rfl; have:=m1 q3; have:=m2 q3; omega),if_neg q4,Ae (beq_eq_false_iff_ne.2 q4)];rw [Ab (dcT ⟨by omega,by omega,by first | trivial | rfl,w1 q4,IU h2,by omega,by omega,by omega⟩)];cases Ez xs ys<;>rfl
   ·rw [Af (bne_iff_ne.2 q1),if_pos (.inl q1)]
  ·cases hq
theorem YL (n:Nat):Ac prog 85 (Ent.rd1 (Rr n)).F:=Nat.strongRecOn n fun n h=>YK n h

theorem Mi {z y:Rose Lab} {n no:Int} {v:Rose A4} (h1:y.lab.1=z.lab.1) (h2:z.lab.2.2.2.2.1<=y.lab.2.2.2.2.1) (h:A1 z n no=some v):A1 y n no=some v:=by
 unfold A1 at h ⊢;split at h
 ·rename_i hc;rw [if_pos ⟨hc.1,hc.2.elim (fun c=>.inl (h1.trans c)) (fun c=>.inr ⟨c.1,by omega⟩)⟩];exact h
 ·cases h
theorem Jz {q:Rose Lab} {fs:List WFd} (hf:(fs.find? fun f=>f.1==q.lab.2.2.1)=none) : ∀ (ks:RL) (us:RVL),q∈ks->ks.Pairwise KR->Bf ks fs=some us->q.lab.2.2.2.1=false/\∀ u∈us,u.lab.2.2.1≠q.lab.2.2.1
 | p::ks,us,hq,hpw,h=>by
  rw [pairwise_cons] at hpw;rw [Bv] at h;rcases mem_cons.1 hq with rfl | hq
  ·rw [hf] at h;dsimp only at h;split at h
   ·cases h
   ·rename_i hm;refine ⟨by simpa using hm,fun u hu e=>?_⟩;obtain ⟨x,hx,e2⟩:=IC ks fs us h u hu;have:=hpw.1 x hx;unfold KR at this;omega
  ·split at h
   ·split at h
    ·cases h
    ·exact Jz hf ks us hq hpw.2 h
   ·rename_i f hfp;split at h
    ·rename_i w hw;obtain ⟨us',hu,rfl⟩:=map_eq_some_iff.1 h;obtain ⟨a1,a2⟩:=Jz hf ks us' hq hpw.2 hu;refine ⟨a1,fun u hu e=>?_⟩;rcases mem_cons.1 hu with rfl | hu
     ·have h1:=hpw.1 q hq;unfold KR at h1;have h2:=Ej hw;have h3:=find?_some hfp;have h3:f.1=p.lab.2.2.1:=by simpa using h3
      omega
     ·exact a2 u hu e
    ·cases h
theorem Jw {q:Rose Lab} {fs:List WFd} {f:WFd} (hf:(fs.find? fun f=>f.1==q.lab.2.2.1)=some f) : ∀ (ks:RL) (us:RVL),q∈ks->Bf ks fs=some us->∃ u∈us,u.lab.2.2.1=q.lab.2.2.1/\Dh q f=some u
 | p::ks,us,hq,h=>by
  rw [Bv] at h;rcases mem_cons.1 hq with rfl | hq
  ·rw [hf] at h;dsimp only at h;split at h
   ·rename_i w hw;obtain ⟨us',hu,rfl⟩:=map_eq_some_iff.1 h;have h3:=find?_some hf;have h3:f.1=q.lab.2.2.1:=by simpa using h3
    exact ⟨w,mem_cons_self,(Ej hw).trans h3,hw⟩
   ·cases h
  ·split at h
   ·split at h
    ·cases h
    ·exact Jw hf ks us hq h
   ·split at h
    ·obtain ⟨us',hu,rfl⟩:=map_eq_some_iff.1 h;obtain ⟨u,a1,a2⟩:=Jw hf ks us' hq hu;exact ⟨u,mem_cons_of_mem _ a1,a2⟩
    ·cases h
theorem Q1 {K:RL} {n:Int} {u:Rose A4} : ∀ {us:RVL},(us.Pairwise fun a b=>a.lab.2.2.1<b.lab.2.2.1)->u∈us->u.lab.2.2.1=n->((us.map (BZ K)).find? fun f=>f.1==n)=some (BZ K u)
 | x::us,hp,hu,hn=>by
  rw [pairwise_cons] at hp;rw [List.map_cons];rcases mem_cons.1 hu with rfl | hu
  ·rw [List.find?_cons_of_pos (by rw [E9,hn]; exact beq_self_eq_true _)]
  ·have:=hp.1 u hu;rw [List.find?_cons_of_neg (by rw [E9]; simp; omega)];exact Q1 hp.2 hu hn
theorem UJ {K:RL} {n:Int} {us:RVL} (h : ∀ u∈us,u.lab.2.2.1≠n):((us.map (BZ K)).find? fun f=>f.1==n)=none:=by
 rw [List.find?_eq_none];intro f hf;obtain ⟨w,hw,rfl⟩:=mem_map.1 hf;rw [E9]
 simpa using h w hw
theorem GJ {Q R:Rose A4->Bool} (hQ : ∀ u,Q u=true->R u=true) : ∀ us:RVL,vcL (us.filter Q)<=vcL (us.filter R)
 | []=>Nat.le_refl _
 | u::us=>by
  have ih:=GJ hQ us;rw [filter_cons,filter_cons]
  cases hq:Q u with
  | true=>rw [hQ u hq,if_pos rfl,if_pos rfl,vcL,vcL]; omega
  | false=>
   rw [if_neg (by simp)];split
   ·rw [vcL]; omega
   ·exact ih
theorem S9 {Q R:Rose A4->Bool} (hQ : ∀ u,Q u=true->R u=true) {x:Rose A4} (h1:Q x=false) (h2:R x=true) : ∀ {us:RVL},x∈us->vcR x+vcL (us.filter Q)<=vcL (us.filter R)
 | u::us,hx=>by
  rw [filter_cons,filter_cons];rcases mem_cons.1 hx with rfl | hx
  ·have:=GJ hQ us;rw [h1,h2,if_neg (by simp),if_pos rfl,vcL]; omega
  ·have ih:=S9 hQ h1 h2 hx
   cases hq:Q u with
   | true=>rw [hQ u hq,if_pos rfl,if_pos rfl,vcL,vcL]; omega
   | false=>
    rw [if_neg (by simp)];split
    ·rw [vcL]; omega
    ·exact ih
theorem QH {K:RL} (hK:K.Pairwise KR) {fs:List WFd} {us:RVL} (hus:us.Pairwise fun a b=>a.lab.2.2.1<b.lab.2.2.1) (hd:Bf K fs=some us) : ∀ ks:RL,ks.Pairwise KR->(∀ p∈ks,AN p.lab.2.2.1 K=true/\(p.lab.2.2.2.1=true->(byR p.lab.2.2.1 K).lab.2.2.2.1=true)/\∀ f u,Dh (byR p.lab.2.2.1 K) f=some u->f.1=p.lab.2.2.1->f∈fs->u∈us->∃ u',Dh p f=some u'/\Dh p (BZ K u)=some u'/\vcR u'<=vcR u)->∃ us',Bf ks fs=some us'/\Bf ks (us.map (BZ K))=some us'/\vcL us'<=vcL (us.filter fun u=>AN u.lab.2.2.1 ks)
 | [],_,_=>⟨[],by rw [Bf],by rw [Bf],by rw [vcL]; exact zero_le _⟩
 | p::ks,hpw,h=>by
  rw [pairwise_cons] at hpw;obtain ⟨a1,a2,a3⟩:=h p mem_cons_self;obtain ⟨us',b1,b2,b3⟩:=QH hK hus hd ks hpw.2 (fun q hq=>h q (mem_cons_of_mem _ hq));obtain ⟨m1,m2⟩:=EC a1
  have hmono : ∀ u:Rose A4,AN u.lab.2.2.1 ks=true->AN u.lab.2.2.1 (p::ks)=true:=fun u hu=>by
   unfold AN at hu ⊢;rw [List.any_cons,hu,Bool.or_true]
  rw [Bv,Bv]
  cases hf:(fs.find? fun f=>f.1==p.lab.2.2.1) with
  | none=>
   obtain ⟨c1,c2⟩:=Jz (q:=byR p.lab.2.2.1 K) (by rw [m2]; exact hf) K us m1 hK hd;rw [m2] at c2;rw [UJ c2];have hm : ¬p.lab.2.2.2.1=true:=fun hm=>by rw [a2 hm] at c1; cases c1
   refine ⟨us',(if_neg hm).trans b1,(if_neg hm).trans b2,Nat.le_trans b3 (GJ hmono us)⟩
  | some f=>
   obtain ⟨u,c1,c2,c3⟩:=Jw (q:=byR p.lab.2.2.1 K) (by rw [m2]; exact hf) K us m1 hd;rw [m2] at c2;rw [Q1 hus c1 c2];obtain ⟨u',d1,d2,d3⟩:=a3 f u c3 (by simpa using find?_some hf) (List.mem_of_find?_eq_some hf) c1;dsimp only;rw [d1,d2];dsimp only;refine ⟨u'::us',by rw [b1]; rfl,by rw [b2]; rfl,?_⟩
   have hno:AN u.lab.2.2.1 ks=false:=by
    rw [Bool.eq_false_iff];intro hn;unfold AN at hn;rw [List.any_eq_true] at hn;obtain ⟨q,hq,e⟩:=hn;have h1:=hpw.1 q hq;unfold KR at h1;have e:q.lab.2.2.1=u.lab.2.2.1:=by simpa using e
    omega
   have:=S9 hmono hno (show AN u.lab.2.2.1 (p::ks)=true by unfold AN; rw [List.any_cons,c2,beq_self_eq_true]; rfl) c1;rw [vcL]; exact Nat.le_trans (Nat.add_le_add d3 b3) this
theorem Mj {z y:Rose Lab} {num:Bool} (hn:fkB z=num) (h1:y.lab.1=z.lab.1) (h2:z.lab.2.2.2.2.1<=y.lab.2.2.2.2.1) {Dw Dr:By->Option (Rose A4)} {s:By} (hs:s.length<=400) (hD:num=false->∀ d v,d.length<=400->vcR v<=1000->Dw d=some v->(A0 v z).length<=d.length/\∃ v',Dr d=some v'/\Dr (A0 v z)=some v'/\vcR v'<=vcR v) : ∀ (g a:Nat) (vs:RVL),vcL vs<=1000->BC num (fun n=>A1 z n 0) Dw s g a=some vs->∃ vs',BC num (fun n=>A1 y n 0) Dr s g a=some vs'/\vcL vs'<=vcL vs/\∀ (pre:By) (k:Nat),(Ca z vs).length<=k->BC num (fun n=>A1 y n 0) Dr (pre++Ca z vs) k pre.length=some vs'
 | 0,a,vs,_,h=>by
  rw [Fb] at h;split at h
  ·cases h
  ·rename_i hc;cases h;refine ⟨[],by rw [Fb,if_neg hc],Nat.le_refl _,fun pre k _=>?_⟩;rw [Ca,append_nil]
   cases k with
   | zero=>rw [Fb,if_neg (lt_irrefl _)]
   | succ k=>rw [C5,if_neg (lt_irrefl _)]
 | g+1,a,vs,hvc,h=>by
  rw [C5] at h;split at h
  ·rename_i hlt
   cases num with
   | true=>
    dsimp only at h;split at h
    ·rename_i v hv;split at h
     ·rename_i hc;obtain ⟨us,hu,rfl⟩:=map_eq_some_iff.1 h;rw [vcL] at hvc;obtain ⟨us',b1,b2,b3⟩:=Mj hn h1 h2 hs hD g _ us (by omega) hu;have hy:=Mi h1 h2 hv;have hv1:=FK hv;refine ⟨v::us',?_,by rw [vcL,vcL]; omega,fun pre k hk=>?_⟩
      ·rw [C5,if_pos hlt];dsimp only;rw [hy];dsimp only;rw [if_pos hc,b1]; rfl
      ·have hpos:=LO z v;rw [Ca,length_append] at hk;obtain ⟨k,rfl⟩ : ∃ j,k=j+1:=⟨k-1,by omega⟩
       have ih:=b3 (pre++itm z (A0 v z)) k (by omega);rw [append_assoc,length_append] at ih;rw [Ca,C5,if_pos (by simp only [length_append]; omega)]
       have hb:BX v.lab.1=true:=by
        rw [hv1];unfold A1 at hv;split at hv
        ·rename_i q; exact q.1
        ·cases hv
       unfold BX at hb;have hfo:=DB (n:=v.lab.1) (by simpa only [anE,dcE] using hb);have ht:=Fd (n:=(fol v.lab.1).toNat) (by omega) pre (Ca z us);rw [GR hn] at ih ⊢;rw [ht]
       have e1:unf (A8 (some ((fol v.lab.1).toNat,(vbs (fol v.lab.1).toNat).length,true)))=v.lab.1:=by
        show unf (((fol v.lab.1).toNat:Nat):Int)=_;rw [show (((fol v.lab.1).toNat:Nat):Int)=fol v.lab.1 by omega,NT]
       dsimp only;rw [e1,hv1,hy];dsimp only;refine (if_pos rfl).trans ?_;have e2:(Ax pre.length (some ((fol v.lab.1).toNat,(vbs (fol v.lab.1).toNat).length,true))).toNat=pre.length+(vbs (fol v.lab.1).toNat).length:=rfl;rw [hv1] at e2 ih;rw [e2,ih]; rfl
     ·cases h
    ·cases h
   | false=>
    dsimp only at h;split at h
    ·rename_i hc;split at h
     ·rename_i v hv;obtain ⟨us,hu,rfl⟩:=map_eq_some_iff.1 h;rw [vcL] at hvc;obtain ⟨us',b1,b2,b3⟩:=Mj hn h1 h2 hs hD g _ us (by omega) hu;have he:=IQ hc;obtain ⟨c1,v',c2,c3,c4⟩:=hD rfl _ v (by omega) (by omega) hv;refine ⟨v'::us',?_,by rw [vcL,vcL]; omega,fun pre k hk=>?_⟩
      ·rw [C5,if_pos hlt];dsimp only;rw [hc];dsimp only;rw [c2];dsimp only;rw [b1]; rfl
      ·have hpos:=LO z v;rw [Ca,length_append] at hk;obtain ⟨k,rfl⟩ : ∃ j,k=j+1:=⟨k-1,by omega⟩
       have ih:=b3 (pre++itm z (A0 v z)) k (by omega);rw [append_assoc,length_append] at ih;rw [Ca,C5,if_pos (by simp only [length_append]; omega)];have ht:=KH (d:=A0 v z) (by omega) pre (Ca z us);rw [GS hn,append_assoc] at ih ⊢;dsimp only;rw [ht];dsimp only;rw [c3];dsimp only;rw [ntN,show pre.length+(vbs (A0 v z).length).length+(A0 v z).length=pre.length+(vbs (A0 v z).length++A0 v z).length by rw [length_append,Nat.add_assoc],ih]; rfl
     ·cases h
    ·cases h
  ·rename_i hc;cases h;refine ⟨[],by rw [C5,if_neg hc],Nat.le_refl _,fun pre k _=>?_⟩;rw [Ca,append_nil]
   cases k with
   | zero=>rw [Fb,if_neg (lt_irrefl _)]
   | succ k=>rw [C5,if_neg (lt_irrefl _)]
theorem Px {zs:RL} : ∀ {ks:RL},Ez zs ks=true->∀ p∈ks,AN p.lab.2.2.1 zs=true/\(p.lab.2.2.2.1=true->(byR p.lab.2.2.1 zs).lab.2.2.2.1=true)/\Dd p (byR p.lab.2.2.1 zs)=true
 | q::ks,h,p,hp=>by
  rw [Ez] at h;simp only [anE,Bool.or_eq_true,Bool.not_eq_true'] at h;rcases mem_cons.1 hp with rfl | hp
  ·refine ⟨h.1.1,fun hm=>?_,h.1.2.2⟩;rcases h.1.2.1 with c | c
   ·rw [hm] at c; cases c
   ·exact c
  ·exact Px h.2 p hp
theorem NW {zr zw:Rose Lab} (h:Dd zr zw=true):zw.lab.1=zr.lab.1/\zw.lab.2.2.2.2.1<=zr.lab.2.2.2.2.1:=by
 rw [SH] at h;split at h
 ·cases h
 ·omega
def S3 (zr:Rose Lab):Prop:=Ah zr=true->fkB zr=false->∀ zw:Rose Lab,Ah zw=true->Aj zw<=40->Dd zr zw=true->∀ (s:By) (no:Int) (v:Rose A4),s.length<=400->vcR v<=1000->AI zw s no=some v->∃ v',AI zr s no=some v'/\AI zr (A0 v zw) no=some v'/\vcR v'<=vcR v
theorem O5 {zr zw:Rose Lab} (h:zw.lab.1=zr.lab.1):fkB zw=fkB zr:=by unfold fkB; rw [h]
theorem TK {p q:Rose Lab} {K:RL} {f:WFd} {u:Rose A4} (hp:S3 p) (hrp:Ah p=true) (hrq:Ah q=true) (hcq:Aj q<=40) (hsub:Dd p q=true) (hq:byR q.lab.2.2.1 K=q) (hd:Dh q f=some u) (hf:f.1=q.lab.2.2.1) (hl:f.2.2.2.1.length<=400) (hv:vcR u<=1000) : ∃ u',Dh p f=some u'/\Dh p (BZ K u)=some u'/\vcR u'<=vcR u:=by
 obtain ⟨e1,e2⟩:=NW hsub;have hfk:=O5 e1;have hno:=Ej hd;have hby:byR u.lab.2.2.1 K=q:=by rw [hno,hf]; exact hq
 have hfo:BZ K u=if fkB q=true then (u.lab.2.2.1,0,u.lab.1,[],()) else (u.lab.2.2.1,2,0,A0 u q,()):=by unfold BZ; rw [hby]
 unfold Dh at hd;split at hd
 ·rename_i hk;rcases Bool.eq_false_or_eq_true (fkB q) with hfq | hfq
  ·have h0:(f.2.1==0)=true:=by rw [hk]; exact hfq
   rw [if_pos h0] at hd;have hy:=Mi (y:=p) e1.symm e2 hd;have hv1:=FK hd;have hfo:=hfo.trans (if_pos hfq);refine ⟨u,?_,?_,Nat.le_refl _⟩
   ·unfold Dh;rw [if_pos (by rw [hk,hfk]),if_pos h0]; exact hy
   ·rw [hfo];unfold Dh;refine (if_pos ?_).trans ((if_pos rfl).trans ?_)
    ·rw [<-hfk,hfq]; rfl
    ·show A1 p u.lab.1 u.lab.2.2.1=some u;rw [hv1,hno]; exact hy
  ·have h0 : ¬(f.2.1==0)=true:=by rw [hk,hfq]; simp
   rw [if_neg h0] at hd;have hfo:=hfo.trans (if_neg (by rw [hfq]; simp));obtain ⟨u',c1,c2,c3⟩:=hp hrp (by rw [<-hfk]; exact hfq) q hrq hcq hsub _ _ u hl hv hd;refine ⟨u',?_,?_,c3⟩
   ·unfold Dh;rw [if_pos (by rw [hk,hfk]),if_neg h0]; exact c1
   ·rw [hfo];unfold Dh;refine (if_pos ?_).trans ((if_neg ?_).trans ?_)
    ·rw [<-hfk,hfq]; rfl
    ·show ¬((2:Int)==0)=true
     decide
    ·show AI p (A0 u q) u.lab.2.2.1=some u';rw [hno]; exact c2
 ·cases hd
mutual
theorem Kl : ∀ zr:Rose Lab,S3 zr
 | .node y ks,hr,hf,zw,hrw,hcw,hsub,s,no,v,hs,hvc,h=>by
  obtain ⟨e1,e2⟩:=NW hsub;have hfw:fkB zw=false:=(O5 e1).trans hf;have hl:=IB zw hrw hfw s no v h;have hsf:=Jt zw hrw hfw s no v h;have e1:zw.lab.1=y.1:=e1;have hkd:=GT (t:=.node y ks) hr;rw [Dd] at hsub;split at hsub
  ·cases hsub
  ·by_cases y2:y.1=2
   ·have y2':(Rose.node y ks:Rose Lab).lab.1=2:=y2;rw [CP (by omega)] at h;split at h
    ·rename_i hle;cases h;refine ⟨.node (0,s,no,false,()) [],by rw [CP y2',if_pos hle],?_,Nat.le_refl _⟩;rw [G6 (by omega)];show AI (.node y ks) s no=_;rw [CP y2',if_pos hle]
    ·cases h
   ·have hk:y.1=4\/y.1=5:=hkd y2 (by rw [hf]; simp)
    by_cases y4:y.1=4
    ·have y4':(Rose.node y ks:Rose Lab).lab.1=4:=y4;have w4:zw.lab.1=4:=by omega
     rw [if_pos y4] at hsub;rw [CQ w4] at h;obtain ⟨vs,hv,rfl⟩:=map_eq_some_iff.1 h;obtain ⟨g1,g2⟩:=BE hr y4';obtain ⟨g3,g4⟩:=BE hrw w4;have hck:=AE zw;rw [vcR] at hvc;rw [G7 w4] at hl ⊢;obtain ⟨vs',b1,b2,b3⟩:=VO ks g2 zw.kids g4 g3 (by omega) hsub s vs hs (by omega) hv (fun e=>by rw [show (Rose.node y ks:Rose Lab).kids=ks from rfl,e] at g1; cases g1);refine ⟨.node (0,[],no,true,()) vs',by rw [CQ y4']; show (Dp ks s).map _=_; rw [b1]; rfl,?_,by rw [vcR,vcR]; omega⟩;rw [CQ y4'];show (Dp ks _).map _=_;rw [b3]; rfl
    ·have y5:y.1=5:=by omega
     have y5':(Rose.node y ks:Rose Lab).lab.1=5:=y5;have w5:zw.lab.1=5:=by omega
     rw [if_neg y4] at hsub;have hkr:ks.Pairwise KR:=DM (z:=.node y ks) hr y5';have hkw:=DM hrw w5;have hr5:=BK (z:=.node y ks) hr (by omega);have hw5:=BK hrw (by omega);rw [Dx (by omega) (by omega)] at h;split at h
     ·rename_i fs hfs;obtain ⟨vs,hv,rfl⟩:=map_eq_some_iff.1 h;obtain ⟨r1,r2,r3⟩:=Ko hfs;obtain ⟨m1,m2⟩:=H1 w5 hsf.1;have hmm:BA zw.kids vs=true:=by rw [Fi hkw,m1,m2]; rfl
      have hml:=Fh _ _ hmm;have hkl:=Bc zw.kids;have hck:=AE zw;have hvr:=((CF zw.kids hkw vs).1 hmm).1.2;rw [vcR] at hvc;obtain ⟨b1,b2⟩:=I3 hw5 vs (by omega) (Yl m1);rw [GV w5] at hl ⊢
      have hpw:(vs.map (BZ zw.kids)).Pairwise fun a b=>a.1<b.1:=by
       rw [List.pairwise_map];exact hvr.imp fun {a b} h=>by rw [E9,E9]; exact h
      have hris:=KU b1 (by rw [length_map]; omega) (by rw [b2]; omega) hpw;rw [b2] at hris
      obtain ⟨us',c1,c2,c3⟩:=QH hkw hvr hv ks hkr (fun p hp=>by
       obtain ⟨q1,q2,q3⟩:=Px hsub p hp;obtain ⟨n1,n2⟩:=EC q1;refine ⟨q1,q2,fun f u hd hfn hfm hum=>?_⟩;have hvm:=Gh hum;have hcm:=Bo n1;have hfl:=(r1 f hfm).2
       exact TK (Pw ks p hp) (BO hr5 hp) (BO hw5 n1) (by omega) q3 (by rw [n2]) hd (by rw [n2]; exact hfn) (by omega) (by omega))
      have hfl:vcL (vs.filter fun u=>AN u.lab.2.2.1 ks)<=vcL vs:=by
       have:=GJ (Q:=fun u=>AN u.lab.2.2.1 ks) (R:=fun _=>true) (fun _ _=>rfl) vs
       rwa [List.filter_eq_self.2 (fun _ _=>rfl)] at this
      refine ⟨.node (0,[],no,true,()) us',?_,?_,by rw [vcR,vcR]; omega⟩
      ·rw [Dx (by show y.1≠2; omega) (by show y.1≠4; omega),hfs];show (Bf ks fs).map _=_;rw [c1]; rfl
      ·rw [Dx (by show y.1≠2; omega) (by show y.1≠4; omega),hris];show (Bf ks (vs.map (BZ zw.kids))).map _=_;rw [c2]; rfl
     ·cases h
theorem VO : ∀ (ks:RL),ks.all Ah=true->∀ zs:RL,zs.all Ah=true->zs.length=1->Ak zs<=40->M1 ks zs=true->∀ (s:By) (vs:RVL),s.length<=400->vcL vs<=1000->Dp zs s=some vs->ks≠[]->∃ vs',Dp ks s=some vs'/\vcL vs'<=vcL vs/\Dp ks (Ca (hd0 zs) vs)=some vs'
 | [],_,zs,_,_,_,_,s,vs,_,_,_,hne=>absurd rfl hne
 | p::ks,hr,zs,hz,h1,hc,hsub,s,vs,hs,hvc,h,_=>by
  obtain ⟨z,rfl⟩:=List.length_eq_one_iff.1 h1;have e0:hd0 [z]=z:=rfl;rw [M1,e0] at hsub;rw [e0];rw [List.all_cons,anE] at hr;have hrz:Ah z=true:=by simpa using hz
  rw [Ak,Ak] at hc;obtain ⟨e1,e2⟩:=NW hsub;have hfk:=O5 e1;rw [Dp] at h;obtain ⟨vs',b1,b2,b3⟩:=Mj (y:=p) (Dr:=fun d=>AI p d 0) rfl e1.symm e2 hs (fun hf d v hd hv hdv=>⟨IB z hrz hf d 0 v hdv,Kl p hr.1 (hfk.symm.trans hf) z hrz (by omega) hsub d 0 v hd hv hdv⟩) s.length 0 vs hvc h;refine ⟨vs',?_,b2,?_⟩
  ·rw [Dp,<-hfk]; exact b1
  ·rw [Dp,<-hfk];have:=b3 [] (Ca z vs).length (Nat.le_refl _);rw [nil_append] at this;exact this
theorem Pw : ∀ (ks:RL) (p:Rose Lab),p∈ks->S3 p
 | [],p,hp=>by cases hp
 | q::ks,p,hp=>by
  by_cases e:p∈ks
  ·exact Pw ks p e
  ·have:p=q:=by rcases mem_cons.1 hp with h | h; exact h; exact absurd h e
   rw [this];exact Kl q
end

theorem SA {n:Nat} (h:n<16384):(vbs n).length<=2:=V1 (k:=1) (by omega) (by omega)
mutual
theorem T1 : ∀ (z:Rose Lab) (no:Int),Ah z=true->Aj z<=40->(A0 (Bl z no) z).length+4<=5*Aj z
 | .node x ks,no,hr,hc=>by
  have hck:=AE (.node x ks);have hck:Aj (.node x ks)=Ak ks+1:=hck;rw [Bl]
  by_cases h2:x.1=2
  ·rw [G6 (z:=.node x ks) h2,length_nil]; omega
  ·by_cases hf:fkB (.node x ks)=true
   ·rw [O8 hf];have:(vbs (fol (0:Int)).toNat).length=1:=rfl;show (vbs (fol (0:Int)).toNat).length+4<=_;omega
   ·rcases GT hr h2 hf with h | h
    ·have h:x.1=4:=h;rw [G7 (z:=.node x ks) h,h];show (Ca _ []).length+4<=_;rw [Ca,length_nil]; omega
    ·have h:x.1=5:=h;have hr5:=BK (z:=.node x ks) hr (by show x.1≠4; omega);have hpw:ks.Pairwise KR:=DM (z:=.node x ks) hr h;rw [GV (z:=.node x ks) h,h];have:=QF ks hr5 (by omega) ks (fun p hp=>IF hpw hp rfl) (fun p hp=>Nk hr5 hp);show (EY ks (EG ks)).length+4<=_;omega
theorem QF : ∀ ks:RL,A6 5 ks=true->Ak ks<=40->∀ K:RL,(∀ p∈ks,byR p.lab.2.2.1 K=p)->(∀ p∈ks,1<=p.lab.2.2.1/\p.lab.2.2.1<=30)->(EY K (EG ks)).length<=5*Ak ks
 | [],_,_,K,_,_=>by rw [EG,EY]; exact zero_le _
 | p::ks,hr,hc,K,hK,hn=>by
  rw [A6,anE,anE] at hr;rw [Ak] at hc ⊢;have ih:=QF ks hr.2 (by omega) K (fun q hq=>hK q (mem_cons_of_mem _ hq)) (fun q hq=>hn q (mem_cons_of_mem _ hq));rw [EG];split
  ·have hd:=T1 p p.lab.2.2.1 hr.1.2 (by omega);have hno:(Bl p p.lab.2.2.1).lab.2.2.1=p.lab.2.2.1:=by rw [T3]; rfl
   have hr30:=hn p mem_cons_self;rw [EY,hno,hK p mem_cons_self,length_append,length_append];have ht:(vbs (8*p.lab.2.2.1+(if fkB p=true then 0 else 2)).toNat).length<=2:=SA (by split<;>omega)
   have hi:(itm p (A0 (Bl p p.lab.2.2.1) p)).length<=(A0 (Bl p p.lab.2.2.1) p).length+2:=by
    unfold itm;split
    ·omega
    ·have:=SA (n:=(A0 (Bl p p.lab.2.2.1) p).length) (by omega);rw [length_append]; omega
   omega
  ·omega
end
theorem YV {z:Rose Lab} {v:Rose A4} (hr:Ah z=true) (h5:z.lab.1=5) (hc:Aj z<=40) (hv:vcR v<=1000) (hs:sfR v z=true) (hl:(A0 v z).length<=400):Df (A0 v z)=some (v.kids.map (BZ z.kids))/\∀ f∈v.kids.map (BZ z.kids),AN f.1 z.kids=true:=by
 obtain ⟨x,vs⟩:=v;obtain ⟨m1,m2⟩:=H1 h5 hs;have hkp:=DM hr h5;have hmm:BA z.kids vs=true:=by rw [Fi hkp,m1,m2]; rfl
 have hml:=Fh _ _ hmm;have hkl:=Bc z.kids;have hck:=AE z;have hi:=(CF z.kids hkp vs).1 hmm;rw [vcR] at hv;obtain ⟨b1,b2⟩:=I3 (BK hr (by omega)) vs (by omega) (Yl m1);rw [GV h5] at hl ⊢
 have hpw:(vs.map (BZ z.kids)).Pairwise fun a b=>a.1<b.1:=by
  rw [List.pairwise_map];exact hi.1.2.imp fun {a b} h=>by rw [E9,E9]; exact h
 have hris:=KU b1 (by rw [length_map]; omega) (by rw [b2]; exact hl) hpw;rw [b2] at hris;refine ⟨hris,fun f hf=>?_⟩;obtain ⟨u,hu,rfl⟩:=mem_map.1 hf;rw [E9];exact (HY m1 u hu).1
def Ji (a b:List Ty):Bool:=Ay a&&Ay b
def Jj (a b:List Ty):Bool:=Ji a b&&Dd (t2L b 0) (t2L a 0)
def Hh:Gm
 | [.agg [.sl TCd v],.agg [.sl TCd l]],[]=>.need ((decide (v.length<=4000000000)&&nmL v)&&(decide (l.length<=4000000000)&&nmL l)) (.leaf (.tup [.b (Jj v l),.b (Ji v l)],[]))
 | _,_=>.no
theorem UD (v l:List Ty):Bm prog (Aa [(29,.rd1 Eg),(84,.rd1 (Rm 1000))]) (Aa []) f41 [.agg [.sl TCd v],.agg [.sl TCd l]] [] =
 ((shr (kf v 0).1 fun sh6=>shr (kf l 0).1 fun sh5=>shr sh6.lab.2 fun sh4=>shr sh5.lab.2 fun sh3=>shr (Rose.node (sh6.lab.1,sh4.1,
 sh4.2.1,sh4.2.2.1,sh4.2.2.2.1,()) (take sh6.kids.length (drop 0 sh6.kids))) fun sh2=>shr (Rose.node (sh5.lab.1,sh3.1,
 sh3.2.1,sh3.2.2.1,sh3.2.2.2.1,()) (take sh5.kids.length (drop 0 sh5.kids))) fun sh1=>ifT (decide (v.length<=4000000000)
 && nmL v) (ifB (Ay v) (ifT (decide (l.length<=4000000000)&&nmL l) (ifB (Ay l) (ifT (decide (Ah sh2=true/\Ah sh1=true/\Aj sh1<=(1000 :
 Nat)/\Aj sh1<=1000000/\Aj sh2<=1000000)) (some (V.tup [V.b (Dd sh1 sh2),V.b true],[]))) (some (V.tup [V.b false,V.b false],[])))) (ifT
 (decide (l.length<=4000000000)&&nmL l) (ifB (Ay l) (some (V.tup [V.b false,V.b false],[])) (some (V.tup [V.b false,V.b false],[])))))):_):=by kernel_rfl
theorem TP (v l:List Ty):Bm prog (Aa [(63,.rd1 FX),(39,.rd1 C7),(85,.rd1 (Rr 1000))]) (Aa []) f42 [.agg [.sl TCd v],.agg [.sl TCd l]] [] =
 ((shr (t2L l 0).lab.2 fun sh4=>shr (t2L v 0).lab.2 fun sh3=>shr (Rose.node ((t2L v 0).lab.1,sh3.1,sh3.2.1,sh3.2.2.1,
 sh3.2.2.2.1,()) (take (t2L v 0).kids.length (drop 0 (t2L v 0).kids))) fun sh2=>shr (Rose.node ((t2L l 0).lab.1,
 sh4.1,sh4.2.1,sh4.2.2.1,sh4.2.2.2.1,()) (take (t2L l 0).kids.length (drop 0 (t2L l 0).kids))) fun sh1=>ifT
 (decide (v.length<=4000000000)&&nmL v) (ifB (!Ay v) (some (V.tup [V.b false,V.b false],[])) (ifT (decide (l.length<=4000000000)&&nmL l) (ifB
 (!Ay l) (some (V.tup [V.b false,V.b false],[])) (ifT (decide ((0:Int)<=(0:Int)/\0<v.length/\v.length<=4000000000)) (ifT (decide ((0:Int)
 <= (0:Int)/\0<l.length/\l.length<=4000000000)) (ifT (decide (Ah sh2=true/\Ah sh1=true/\Aj sh1<=1000/\Aj sh1<=(1000000 :
 Nat)/\Aj sh2<=1000000)) (some (V.tup [V.b (Dd sh1 sh2),V.b true],[]))))))))):_):=by kernel_rfl
theorem Xp (v l:List Ty):Bm prog (Aa [(41,.rd1 Hh)]) (Aa []) f12 [.agg [.sl TCd v],.agg [.sl TCd l]] [] =
 ((ifT (decide (v.length<=4000000000)&&nmL v&&(decide (l.length<=4000000000)&&nmL l)) (some (V.tup [V.b (Jj v l),V.b (Ji v l)],[]))):_):=by kernel_rfl
theorem Wf (v l:List Ty):Bm prog (Aa [(42,.rd1 Hh)]) (Aa []) f13 [.agg [.sl TCd v],.agg [.sl TCd l]] [] =
 ((ifT (decide (v.length<=4000000000)&&nmL v&&(decide (l.length<=4000000000)&&nmL l)) (some (V.tup [V.b (Jj v l),V.b (Ji v l)],[]))):_):=by kernel_rfl
theorem Agq:Ac prog 41 (Ent.rd1 Hh).F:=by
 refine fcC (kc func29 Jg (kc func84 (YA 1000) KnowsL.nil)).knows (Λ:=Aa []) func41 fun vs bs r hq=>?_
 unfold Ent.F Hh at hq;dsimp only at hq;split at hq
 ·rename_i v l;obtain ⟨hc,hx⟩:=Ad hq;refine ⟨Ao _,(UD v l).trans (Eq.trans ?_ hx)⟩
  try dsimp only [shr]
  show _=some _;have hc':=hc;rw [anE] at hc';rw [hc'.1,hc'.2];simp only [C9,Cw];unfold Jj Ji;cases h1:Ay v<;>cases h2:Ay l
  all_goals first
   | rfl
   | skip
  obtain ⟨a1,a2,a3,a4⟩:=DT h1;obtain ⟨b1,b2,b3,b4⟩:=DT h2;have l1:v.length<=4000000000:=by have:=hc'.1; rw [anE,dcE] at this; exact this.1
  have l2:l.length<=4000000000:=by have:=hc'.2; rw [anE,dcE] at this; exact this.1
  have c1:=(AZ (Bz h1).1).2.2;have c2:=(AZ (Bz h2).1).2.2;simp only [a4,b4,Bg,Bool.true_and]
  try rw [Ab (dcT ⟨by omega,a1,l1⟩),Ab (dcT ⟨by omega,b1,l2⟩)]
  rw [Ab (dcT ⟨a3,b3,by omega,by omega,by omega⟩)]
 ·cases hq
theorem Agl:Ac prog 42 (Ent.rd1 Hh).F:=by
 refine fcC (kc func63 KL (kc func39 F5 (kc func85 (YL 1000) KnowsL.nil))).knows (Λ:=Aa []) func42 fun vs bs r hq=>?_
 unfold Ent.F Hh at hq;dsimp only at hq;split at hq
 ·rename_i v l;obtain ⟨hc,hx⟩:=Ad hq;refine ⟨Ao _,(TP v l).trans (Eq.trans ?_ hx)⟩
  try dsimp only [shr]
  show _=some _;have hc':=hc;rw [anE] at hc';rw [hc'.1,hc'.2];simp only [C9,Cw];unfold Jj Ji;cases h1:Ay v<;>cases h2:Ay l
  all_goals first
   | rfl
   | skip
  obtain ⟨a1,a2,a3,a4⟩:=DT h1;obtain ⟨b1,b2,b3,b4⟩:=DT h2;have l1:v.length<=4000000000:=by have:=hc'.1; rw [anE,dcE] at this; exact this.1
  have l2:l.length<=4000000000:=by have:=hc'.2; rw [anE,dcE] at this; exact this.1
  have c1:=(AZ (Bz h1).1).2.2;have c2:=(AZ (Bz h2).1).2.2;simp only [Bool.not_true,AR,Bool.true_and]
  try rw [Ab (dcT ⟨by omega,a1,l1⟩),Ab (dcT ⟨by omega,b1,l2⟩)]
  rw [Ab (dcT ⟨a3,b3,by omega,by omega,by omega⟩)]
 ·cases hq
theorem icr:Ac prog 12 (Ent.rd1 Hh).F:=by
 refine fcC (kc func41 Agq KnowsL.nil).knows (Λ:=Aa []) func12 fun vs bs r hq=>?_
 unfold Ent.F Hh at hq;dsimp only at hq;split at hq
 ·rename_i v l;obtain ⟨hc,hx⟩:=Ad hq;refine ⟨Ao _,(Xp v l).trans (Eq.trans ?_ hx)⟩
  try dsimp only [shr]
  show _=some _;rw [Ab hc]
 ·cases hq
theorem scr:Ac prog 13 (Ent.rd1 Hh).F:=by
 refine fcC (kc func42 Agl KnowsL.nil).knows (Λ:=Aa []) func13 fun vs bs r hq=>?_
 unfold Ent.F Hh at hq;dsimp only at hq;split at hq
 ·rename_i v l;obtain ⟨hc,hx⟩:=Ad hq;refine ⟨Ao _,(Wf v l).trans (Eq.trans ?_ hx)⟩
  try dsimp only [shr]
  show _=some _;rw [Ab hc]
 ·cases hq
def Jr (ks:RL) (fs:List WFd):List Int:=(fs.filter fun f=>!AN f.1 ks).map fun f=>f.1
def JY (l:List Ty) (s:By):List Int:=bif DP l s then Jr (t2L l 0).kids ((Df s).getD []) else []
mutual
theorem XQ : ∀ (z:Rose Lab) (no:Int),wfR (Bl z no)=true
 | .node x ks,no=>by
  rw [Bl,wfR]
  by_cases h:(x.1==5)=true
  ·rw [h,cond_true,OH ks,Bool.and_true];show (Ar x.1||_)=true;unfold Ar;rw [h,Bool.or_true]; rfl
  ·rw [show (x.1==5)=false by simpa using h,cond_false,wfL,Bool.and_true];show (_||(List.isEmpty []))=true;rw [List.isEmpty_nil,Bool.or_true]
theorem OH : ∀ ks:RL,wfL (EG ks)=true
 | []=>by rw [EG,wfL]
 | z::ks=>by
  rw [EG];split
  ·rw [wfL,XQ z,OH ks]; rfl
  ·exact OH ks
end
theorem ZZ {l:List Ty} (h:Ay l=true):seB (dfL l) l=true/\vtr (dfL l) 0=Bl (t2L l 0) 0:=by
 have hf:D2 (dfL l) l=true:=by rw [<-K3]; exact OG h
 have e:dfL l=Am (Bl (t2L l 0) 0) (-1) 0:=EK _ _ _ _;obtain ⟨g1,g2,g3⟩:=AZ (Bz h).1;have ev:vtr (dfL l) 0=Bl (t2L l 0) 0:=by rw [e]; exact (DC (XQ _ _)).1
 have hl:=T1 (t2L l 0) 0 g2 (by omega);refine ⟨?_,ev⟩;unfold seB ecB ecL;rw [hf,ev,dcT (by omega)]; rfl
theorem Aag {z:Rose Lab} {s:By} {no:Int} {v:Rose A4} (h5:z.lab.1=5) (h:AI z s no=some v):v.lab.2.2.1=no:=by
 cases z with
 | node x ks=>
  have h5:x.1=5:=h5;rw [AI,if_neg (by omega),if_neg (by omega)] at h;split at h
  ·obtain ⟨vs,_,rfl⟩:=map_eq_some_iff.1 h;rfl
  ·cases h
theorem Sf {l:List Ty} {s:By} {v:Rose A4} (hk:Ay l=true) (hs:s.length<=400) (hd:AI (t2L l 0) s 0=some v):DP l s=true/\FA l s=true:=by
 unfold DP FA;rw [dcT hs,hk,hd];exact ⟨rfl,rfl⟩
theorem KN {l:List Ty} {s:By} {v:Rose A4} (hk:Ay l=true) (hs:s.length<=400) (hd:AI (t2L l 0) s 0=some v) (hv:vcR v<=40):Do l s=true/\Co l s=A0 v (t2L l 0)/\(A0 v (t2L l 0)).length<=s.length:=by
 have hg:=(Bz hk).1;obtain ⟨g1,g2,g3⟩:=AZ hg;obtain ⟨s1,s2⟩:=Jt _ g2 (Ei hg) s 0 v hd;obtain ⟨f1,f2,f3⟩:=DC s2;obtain ⟨a1,a2⟩:=KC hs hd;have hl:=IB _ g2 (Ei hg) s 0 v hd;have hb:dvB (t2L l 0) s=true:=by unfold dvB; rw [a1,a2,f3,dcT hv]; rfl
 have e:dvL (t2L l 0) s=Am v (-1) 0:=by unfold dvL; rw [hb,a2]; rfl
 have e2:ecL (t2L l 0) (dvL (t2L l 0) s)=A0 v (t2L l 0):=by unfold ecL; rw [e,f1]
 have ht:dtB (t2L l 0) s=true:=by unfold dtB ecB; rw [hb,e2,dcT (by omega)]; rfl
 have hsb:Do l s=true:=by unfold Do; rw [hk,ht]; rfl
 refine ⟨hsb,?_,hl⟩;unfold Co dtL;rw [hsb,ht,e2]; rfl
theorem P4 {l:List Ty} {s:By} (h:Do l s=true):Ay l=true/\s.length<=400/\∃ v,AI (t2L l 0) s 0=some v/\vcR v<=40:=by
 unfold Do at h;rw [anE] at h;obtain ⟨hk,h⟩:=h;unfold dtB at h;rw [anE] at h;have hg:=(Bz hk).1;obtain ⟨d1,d2,v,d3,d4,d5,d6⟩:=OC hg h.1
 have ht:s.length<=400:=by
  have:=h.1;unfold dvB ED at this;simp only [anE,dcE] at this;exact this.1.1
 refine ⟨hk,ht,v,d3,?_⟩;have h1:=(DC d4).2.2;rw [<-d5] at h1;have:=LS (z:=t2L l 0) (s:=s);omega
theorem LX {l:List Ty} {s:By} (h:Do l s=true):Do l (Co l s)=true/\Co l (Co l s)=Co l s/\(Co l s).length<=s.length/\DP l (Co l s)=true/\JY l (Co l s)=[]/\s.length<=400:=by
 obtain ⟨hk,hs,v,hd,hv⟩:=P4 h;obtain ⟨a1,a2,a3⟩:=KN hk hs hd hv;have hg:=(Bz hk).1;obtain ⟨g1,g2,g3⟩:=AZ hg;obtain ⟨s1,s2⟩:=Jt _ g2 (Ei hg) s 0 v hd;have h2:=OK v (t2L l 0) g2 (Ei hg) (by omega) (by omega) s1 s2 (by omega);rw [Aag g1 hd] at h2;obtain ⟨b1,b2,b3⟩:=KN (s:=A0 v (t2L l 0)) hk (by omega) h2 hv;obtain ⟨i1,i2⟩:=Sf (s:=A0 v (t2L l 0)) hk (by omega) h2;rw [a2];refine ⟨b1,b2,a3,i1,?_,hs⟩;obtain ⟨r1,r2⟩:=YV g2 g1 (by omega) (by omega) s1 (by omega);unfold JY;rw [i1,cond_true,r1,Option.getD_some];unfold Jr;rw [List.filter_eq_nil_iff.2 (fun f hf=>by rw [r2 f hf]; exact Bool.false_ne_true)]; rfl
theorem W0 {s:By} : ∀ (g a:Nat) (o l:List WFd),o.length<=40->rdF s g a o=some l->l.length<=40
 | 0,a,o,l,ho,h=>by
  rw [rdF] at h;split at h
  ·cases h
  ·cases h; exact ho
 | g+1,a,o,l,ho,h=>by
  rw [rdF] at h;split at h
  ·split at h
   ·rename_i hc;exact W0 g _ _ l (by rw [length_append]; have:=hc.2; simp; omega) h
   ·cases h
  ·cases h; exact ho
theorem SL {s:By} {l:List WFd} (h:Df s=some l):l.length<=40/\s.length<=400/\JT (CE l)=true:=by
 unfold Df CZ at h
 by_cases q:s.length<=400
 ·rw [if_pos q] at h
  cases hr:CB s with
  | none=>rw [hr] at h; cases h
  | some k=>
   rw [hr] at h;dsimp only at h;split at h
   ·rename_i hs;cases h;exact ⟨W0 _ _ _ _ (by simp) hr,q,hs⟩
   ·cases h
 ·rw [if_neg q] at h; cases h
theorem XD {w r:List Ty} {b:By} (hc:Jj w r=true) (h:Do w b=true):DP r b=true/\FA r b=true/\Do r b=true/\Do r (Co w b)=true/\Co r b=Co r (Co w b):=by
 unfold Jj Ji at hc;simp only [anE] at hc;obtain ⟨⟨hw,hr⟩,hsub⟩:=hc;obtain ⟨_,hs,v,hd,hv⟩:=P4 h;obtain ⟨a1,a2,a3⟩:=KN hw hs hd hv;have hg:=(Bz hr).1;obtain ⟨g1,g2,g3⟩:=AZ hg;obtain ⟨k1,k2,k3⟩:=AZ (Bz hw).1;obtain ⟨v',e1,e2,e3⟩:=Kl (t2L r 0) g2 (Ei hg) (t2L w 0) k2 (by omega) hsub b 0 v hs (by omega) hd;obtain ⟨b1,b2,b3⟩:=KN hr hs e1 (by omega);obtain ⟨c1,c2,c3⟩:=KN (s:=A0 v (t2L w 0)) hr (by omega) e2 (by omega);obtain ⟨i1,i2⟩:=Sf hr hs e1;rw [a2];exact ⟨i1,i2,b1,c1,b2.trans c2.symm⟩
theorem XS {w r:List Ty} (hc:Jj w r=true):seB (dfL w) w=true/\DP r (seL (dfL w) w)=true/\FA r (seL (dfL w) w)=true:=by
 unfold Jj Ji at hc;simp only [anE] at hc;obtain ⟨⟨hw,hr⟩,hsub⟩:=hc;obtain ⟨h1,h2⟩:=ZZ hw;obtain ⟨c1,c2,c3,c4,c5⟩:=NN h1;have hg:=(Bz hr).1;obtain ⟨g1,g2,g3⟩:=AZ hg;obtain ⟨k1,k2,k3⟩:=AZ (Bz hw).1;have hd:=c1;unfold sdB at hd;rw [anE] at hd;obtain ⟨d1,d2,v,d3,d4,d5,d6⟩:=OC (Bz hw).1 hd.2
 have hv:vcR v<=40:=by
  have h1:=(DC d4).2.2;rw [<-d5] at h1;have:=LS (z:=t2L w 0) (s:=seL (dfL w) w);omega
 obtain ⟨v',e1,e2,e3⟩:=Kl (t2L r 0) g2 (Ei hg) (t2L w 0) k2 (by omega) hsub _ 0 v c5 (by omega) d3;obtain ⟨i1,i2⟩:=Sf hr c5 e1;exact ⟨h1,i1,i2⟩

theorem HZ {P:Program} {Γ:FuncId->Option Ent} {Λ:Nat->Option LoopEnt} {m:Nat} {a:Code} {ent:LoopEnt} {α τ:Type} {l:List α} (p:α->Bool) (g:α->τ) (H:List τ->Nat->Dt) (ex:List τ->Ex×Dt) (hex : ∀ o,(ex o).1≠.normal)
  (hr : ∀ o n (h:n<l.length),o.length<=n->Au P Γ Λ m a ent (H o n)=some (.normal,H (bif p l[n] then o++[g l[n]] else o) (n+1)))
  (he : ∀ o,o.length<=l.length->Au P Γ Λ m a ent (H o l.length)=some (ex o)) : ∀ (j n:Nat) (o:List τ),n+j=l.length->o.length<=n->Runs P Γ Λ m a ent (H o n) (ex (o++((l.drop n).filter p).map g)).1 (ex (o++((l.drop n).filter p).map g)).2
 | 0,n,o,hn,ho=>by
  have h3:n=l.length:=by omega
  subst h3;rw [drop_eq_nil_of_le (Nat.le_refl _),List.filter_nil,List.map_nil,append_nil];exact .stop _ _ _ (he o ho) (hex o)
 | j+1,n,o,hn,ho=>by
  have h1:n<l.length:=by omega
  have h2:=hr o n h1 ho;rw [drop_eq_getElem_cons h1,filter_cons]
  cases hp:p l[n] with
  | true=>
   rw [hp,cond_true] at h2;have ih:=HZ p g H ex hex hr he j (n+1) (o++[g l[n]]) (by omega) (by simp; omega);rw [append_assoc] at ih;exact sts h2 ih
  | false=>
   rw [hp,cond_false] at h2;exact sts h2 (HZ p g H ex hex hr he j (n+1) o (by omega) (by omega))
def Qt:LoopEnt:=⟨52,[6,11,32,33,34],[11],[],fun
 | ([.tp LCd z 0,.ref 0 0 m,.ref 1 0 w,.j c,.j i],[R0 (.int .i64) o,some (.row _ none PCd fs)])=>.need (decide (0<=i/\i.toNat<=fs.length/\c=fs.length/\w=fs.length/\m=o.length/\z.kids.length<=maxI/\fs.length<=1000/\o.length<=i.toNat)) (.leaf (.exit 0,([.ref 0 0 (o++Jr z.kids ((fs.drop i.toNat).map fun p=>p.1)).length],[R0 (.int .i64) (o++Jr z.kids ((fs.drop i.toNat).map fun p=>p.1))])))
 | _=>.no⟩
def ME:Gm
 | [.s s,.agg [.sl TCd l]],[]=>.need (decide (l.length<=4000000000)&&(nmL l&&decide (s.length<=4000000000))) (.leaf (.tup [.ref 0 0 (JY l s).length,.b (DP l s)],[R0 (.int .i64) (JY l s)]))
 | _,_=>.no
abbrev Aaz:FuncId->Option Ent:=Aa [(29,.rd1 RW),(33,.rd1 KB),(34,.rd1 Ua),(35,.rd1 L3)]
theorem N4 (z:Rose Lab) (m w:Nat) (c i:Int) (o:List Int) (ro:Bool) (fs:List Pl):Au prog Aaz (Aa [(10,Qt)]) 0 (body f8 0) Qt ([.tp LCd z 0,.ref 0 0 m,.ref 1 0 w,.j c,.j i],[R0 (.int .i64) o,some (.row ro none PCd fs)]) =
 ((ifB (decide (i<c)) (ifT (decide (0<=i)&&decide (i<(↑w:Int))) (An fs[0+i.toNat]? fun z_1=>shr z.kids fun sh1=>ifT (decide (sh1.length<=maxI))
 (ifB (AN z_1.1.1 sh1) (some (Ex.normal,[V.tp LCd z 0,V.ref 0 0 m,V.ref 1 0 w,V.j c,V.j (i64.wrap (i+1))],[R0 (Cd.int .i64) o,some (Blk.row ro none PCd fs)])) (ifT (decide ((m+1)*8<=140737488355328)&&decide (m+1<=maxI)) (some
 (Ex.normal,[V.tp LCd z 0,V.ref 0 0 (m+1),V.ref 1 0 w,V.j c,V.j (i64.wrap (i+1))],[R0 (Cd.int .i64)
 (take m (drop 0 o)++z_1.1.1::Ag (Cd.int .i64).den),some (Blk.row ro none PCd fs)])))))) (some (Ex.exit 0,[V.ref 0 0 m],[R0 (Cd.int .i64) o]))):_):=by kernel_rfl
theorem Xo (s:By) (l:List Ty):Bm prog Aaz (Aa [(10,Qt)]) f8 [.s s,.agg [.sl TCd l]] [] =
 ((shr (kf l 0).1 fun sh3=>shr ((CA s).getD (Ag Pl)) fun sh2=>shr sh3.kids fun sh1=>ifT (decide (l.length<=4000000000)&&nmL l) (ifB (Ay l)
 (ifT (decide (CJ sh3=true/\s.length<=4000000000)) (ifB (!ED sh3 s) (some (V.tup [V.ref 0 0 0,V.b false],[R0 (Cd.int .i64) (Ag
 (Cd.int .i64).den)])) (ifT (decide (s.length<=4000000000)) (ifT (decide ((0:Int)<=(0:Int)/\0<=sh2.length/\(↑sh2.length:Int)=(↑sh2.length :
 Int)/\sh2.length=sh2.length/\0=0/\sh1.length<=maxI/\sh2.length<=1000/\0<=0)) (some (V.tup [V.ref 0 0 (Ag (Cd.int
 .i64).den++Jr sh1 (List.map (fun p=>p.1) (drop 0 sh2))).length,V.b true],[R0 (Cd.int .i64) (Ag (Cd.int .i64).den++Jr
 sh1 (List.map (fun p=>p.1) (drop 0 sh2)))])))))) (some (V.tup [V.ref 0 0 0,V.b false],[R0 (Cd.int .i64) (Ag (Cd.int
 .i64).den)])))):_):=by kernel_rfl
theorem Adj (z:Rose Lab) (ro:Bool) (fs:List Pl) (hf:fs.length<=1000) (hk:z.kids.length<=maxI) (o:List Int) (n:Nat) (h:n<fs.length) (ho:o.length<=n):Au prog Aaz (Aa [(10,Qt)]) 0 (body f8 0) Qt ([.tp LCd z 0,.ref 0 0 o.length,.ref 1 0 fs.length,.j (fs.length:Int),.j (n:Int)],[R0 (.int .i64) o,some (.row ro none PCd fs)])=some ((.normal:Ex),(fun (o:List Int) (n:Nat)=>(([.tp LCd z 0,.ref 0 0 o.length,.ref 1 0 fs.length,.j (fs.length:Int),.j (n:Int)],[R0 (.int .i64) o,some (.row ro none PCd fs)]):Dt)) (bif !AN fs[n].1.1 z.kids then o++[fs[n].1.1] else o) (n+1)):=by
 rw [N4];dsimp only [shr];have w1:i64.wrap ((n:Int)+1)=((n+1:Nat):Int):=by rw [Av (by omega) (by omega)]; omega
 rw [Af (dcT (by omega)),T2 (by omega),ntN,zero_add,gtE h,Ap,Ab (dcT hk),w1]
 cases AN fs[n].1.1 z.kids with
 | true=>rw [Bg]; rfl
 | false=>
  rw [AR,Ab (by simp only [anE,dcE]; unfold maxI; omega),drop_zero,take_length];simp only [Bool.not_false,cond_true,length_append,length_cons,length_nil,zero_add,A7]
theorem ZL (ks:RL) (fs:List Pl):Jr ks (fs.map fun p=>p.1)=(fs.filter fun p=>!AN p.1.1 ks).map fun p=>p.1.1:=by
 unfold Jr;rw [List.filter_map,List.map_map];rfl
theorem Adk:Aw prog Aaz (Aa [(10,Qt)]) 0 (f8.body.getD .skip):=by
 refine As (a:=body f8 0) (by kernel_rfl) fun d ex d' h=>?_
 unfold Qt at h;dsimp only at h;split at h
 ·rename_i z m w c i o ro fs;obtain ⟨hc,hx⟩:=Ad h;obtain ⟨k1,k2,k3,k4,k5,k6,k7,k8⟩:=of_decide_eq_true hc;obtain ⟨j,rfl⟩:=Int.eq_ofNat_of_zero_le k1;simp only [ntN] at k2 k8 hx;subst k3 k4 k5
  have key:=HZ (l:=fs) (fun p:Pl=>!AN p.1.1 z.kids) (fun p=>p.1.1) (fun (o:List Int) (n:Nat)=>(([.tp LCd z 0,.ref 0 0 o.length,.ref 1 0 fs.length,.j (fs.length:Int),.j (n:Int)],[R0 (.int .i64) o,some (.row ro none PCd fs)]):Dt)) (fun o=>((.exit 0:Ex),([.ref 0 0 o.length],[R0 (.int .i64) o]))) (by simp) (fun o n h ho=>Adj z ro fs k7 k6 o n h ho) (fun o ho=>by
   rw [N4,Ae (dcF (by omega))]) (fs.length-j) j o (by omega) k8
  have hx:=Bk hx;rw [ZL] at hx;obtain ⟨rfl,rfl⟩:=Prod.mk.inj hx;exact key
 ·cases h
theorem YW {s:By}:((CA s).getD []).length<=40:=by
 cases h:CA s with
 | none=>exact zero_le _
 | some l=>
  have e:=Ib s;rw [h] at e;have:=(SL e).1;rw [length_map] at this;exact this
theorem Afw:Ac prog 8 (Ent.rd1 ME).F:=by
 refine BY (kc func29 Afh (kc func33 IM (kc func34 ris (kc func35 WY KnowsL.nil)))).knows (Λ:=(Aa [(10,Qt)])) func8 (c:=f8.body.getD .skip) (by kernel_rfl) fun vs bs r hq hv hb=>?_
 unfold Ent.F ME at hq;dsimp only at hq;split at hq
 ·rename_i s l;obtain ⟨hc,hx⟩:=Ad hq;refine ⟨Adk,(Xo s l).trans (Eq.trans ?_ hx)⟩;dsimp only [shr];have hc':=hc;rw [anE,anE,dcE,dcE] at hc';rw [show (decide (l.length<=4000000000)&&nmL l)=true by rw [anE]; exact ⟨dcT hc'.1,hc'.2.1⟩,Cw];simp only [A7,drop_zero,nil_append]
  cases hk:Ay l with
  | false=>
   have e:DP l s=false:=by unfold DP FA; rw [hk,Bool.and_false,Bool.false_and]
   unfold JY;rw [AR,e]; rfl
  | true=>
   have hg:=(Bz hk).1;rw [(DT hk).2.2.2,Bg,Ab (dcT ⟨hg,hc'.2.2⟩)];have ei:DP l s=ED (t2L l 0) s:=by unfold DP FA ED; rw [hk,Bool.and_true]
   have hkl:(t2L l 0).kids.length<=maxI:=by have:=Bc (t2L l 0).kids; have:=AE (t2L l 0); have:=(AZ hg).2.2; unfold maxI; omega
   unfold JY;rw [ei]
   cases hv:ED (t2L l 0) s with
   | false=>rfl
   | true=>
    have h40:=YW (s:=s);rw [Bool.not_true,AR,Ab (dcT hc'.2.2),Ab (dcT ⟨by omega,by omega,trivial,trivial,trivial,hkl,by omega,by omega⟩),cond_true,Ib];cases CA s<;>rfl
 ·cases hq
def P5:LoopEnt:=⟨55,[3,10,32,33,34],[10],[],fun
 | ([.ptr 0 0,.ref 1 0 m,.ref 2 0 w,.j c,.j i],[some (.box [.sl TCd l]),R0 (.int .i64) o,some (.row _ none FCd fs)])=>.need (decide (0<=i/\i.toNat<=fs.length/\c=fs.length/\w=fs.length/\m=o.length/\0<l.length/\l.length<=4000000000/\(t2L l 0).kids.length<=maxI/\fs.length<=1000/\o.length<=i.toNat)) (.leaf (.exit 0,([.ref 0 0 (o++Jr (t2L l 0).kids (fs.drop i.toNat)).length],[R0 (.int .i64) (o++Jr (t2L l 0).kids (fs.drop i.toNat))])))
 | _=>.no⟩
abbrev Aay:FuncId->Option Ent:=Aa [(36,.rd1 Adh),(37,.rd1 Wj),(39,.rd1 C7),(38,.rd1 byG)]
theorem Na (l:List Ty) (m w:Nat) (c i:Int) (o:List Int) (ro:Bool) (fs:List WFd):Au prog Aay (Aa [(7,P5)]) 0 (body f9 0) P5 ([.ptr 0 0,.ref 1 0 m,.ref 2 0 w,.j c,.j i],[some (.box [.sl TCd l]),R0 (.int .i64) o,some (.row ro none FCd fs)]) =
 ((ifB (decide (i<c)) (ifT (decide (0<=i)&&decide (i<(↑w:Int))) (An fs[0+i.toNat]? fun z=>shr (take (t2L l 0).kids.length (drop (0
 : Nat) (t2L l 0).kids)) fun sh1=>ifT (decide ((0:Int)<=(0:Int)/\0<l.length/\l.length<=4000000000)) (ifT (decide (sh1.length<=maxI))
 (ifB (AN z.1 sh1) (some (Ex.normal,[V.ptr 0 0,V.ref 1 0 m,V.ref 2 0 w,V.j c,V.j (i64.wrap (i+1))],[some (Blk.box [V.sl TCd l]),R0 (Cd.int .i64) o,some (Blk.row ro none FCd fs)])) (ifT (decide ((m+1)*8<=140737488355328)&&decide (m+1<=
 maxI)) (some (Ex.normal,[V.ptr 0 0,V.ref 1 0 (m+1),V.ref 2 0 w,V.j c,V.j (i64.wrap (i+1))],[some (Blk.box [V.sl TCd l]),R0 (Cd.int .i64) (take m (drop 0 o)++z.1::Ag (Cd.int .i64).den),some (Blk.row ro none FCd fs)]))))))) (some (Ex.exit 0,[V.ref 0 0 m],
 [R0 (Cd.int .i64) o]))):_):=by kernel_rfl
theorem Wd (s:By) (l:List Ty):Bm prog Aay (Aa [(7,P5)]) f9 [.s s,.agg [.sl TCd l]] [] =
 ((shr (t2L l 0).kids fun sh2=>shr ((Df s).getD (Ag WFd)) fun sh1=>ifT (decide (l.length<=4000000000)&&nmL l) (ifB (!DP l s) (some (V.tup [V.ref
 0 0 0,V.b false],[R0 (Cd.int .i64) (Ag (Cd.int .i64).den)])) (ifB (!FA l s) (some (V.tup [V.ref 0 0 0,V.b false],[R0 (Cd.int .i64) (Ag (Cd.int .i64).den)])) (ifT (decide (s.length<=4000000000)) (ifT (decide ((0:Int)<=(0:Int)/\0<=sh1.length/\(↑sh1.length :
 Int)=(↑sh1.length:Int)/\sh1.length=sh1.length/\0=0/\0<l.length/\l.length<=4000000000/\sh2.length<=maxI/\sh1.length<=
 1000/\0<=0)) (some (V.tup [V.ref 0 0 (Ag (Cd.int .i64).den++Jr sh2 (drop 0 sh1)).length,V.b true],[R0 (Cd.int .i64) (Ag (Cd.int .i64).den++Jr sh2 (drop 0 sh1))]))))))):_):=by kernel_rfl
theorem Ab4 (l:List Ty) (ro:Bool) (fs:List WFd) (hf:fs.length<=1000) (h0:0<l.length/\l.length<=4000000000) (hk:(t2L l 0).kids.length<=maxI) (o:List Int) (n:Nat) (h:n<fs.length) (ho:o.length<=n):Au prog Aay (Aa [(7,P5)]) 0 (body f9 0) P5 ([.ptr 0 0,.ref 1 0 o.length,.ref 2 0 fs.length,.j (fs.length:Int),.j (n:Int)],[some (.box [.sl TCd l]),R0 (.int .i64) o,some (.row ro none FCd fs)])=some ((.normal:Ex),(fun (o:List Int) (n:Nat)=>(([.ptr 0 0,.ref 1 0 o.length,.ref 2 0 fs.length,.j (fs.length:Int),.j (n:Int)],[some (.box [.sl TCd l]),R0 (.int .i64) o,some (.row ro none FCd fs)]):Dt)) (bif !AN fs[n].1 (t2L l 0).kids then o++[fs[n].1] else o) (n+1)):=by
 rw [Na];dsimp only [shr];have w1:i64.wrap ((n:Int)+1)=((n+1:Nat):Int):=by rw [Av (by omega) (by omega)]; omega
 rw [Af (dcT (by omega)),T2 (by omega),ntN,zero_add,gtE h,Ap,Ab (dcT ⟨by omega,h0.1,h0.2⟩),w1];rw [show take (t2L l 0).kids.length (drop 0 (t2L l 0).kids)=(t2L l 0).kids by rw [drop_zero,take_length],Ab (dcT hk)]
 cases AN fs[n].1 (t2L l 0).kids with
 | true=>rw [Bg]; rfl
 | false=>
  rw [AR,Ab (by simp only [anE,dcE]; unfold maxI; omega),drop_zero,take_length];simp only [Bool.not_false,cond_true,length_append,length_cons,length_nil,zero_add,A7]
theorem Ab5:Aw prog Aay (Aa [(7,P5)]) 0 (f9.body.getD .skip):=by
 refine As (a:=body f9 0) (by kernel_rfl) fun d ex d' h=>?_
 unfold P5 at h;dsimp only at h;split at h
 ·rename_i m w c i l o ro fs;obtain ⟨hc,hx⟩:=Ad h;obtain ⟨k1,k2,k3,k4,k5,k6,k7,k8,k9,k10⟩:=of_decide_eq_true hc;obtain ⟨j,rfl⟩:=Int.eq_ofNat_of_zero_le k1;simp only [ntN] at k2 k10 hx;subst k3 k4 k5
  have key:=HZ (l:=fs) (fun p:WFd=>!AN p.1 (t2L l 0).kids) (fun p=>p.1) (fun (o:List Int) (n:Nat)=>(([.ptr 0 0,.ref 1 0 o.length,.ref 2 0 fs.length,.j (fs.length:Int),.j (n:Int)],[some (.box [.sl TCd l]),R0 (.int .i64) o,some (.row ro none FCd fs)]):Dt)) (fun o=>((.exit 0:Ex),([.ref 0 0 o.length],[R0 (.int .i64) o]))) (by simp) (fun o n h ho=>Ab4 l ro fs k9 ⟨k6,k7⟩ k8 o n h ho) (fun o ho=>by
   rw [Na,Ae (dcF (by omega))]) (fs.length-j) j o (by omega) k10
  have hx:=Bk hx;unfold Jr at hx;obtain ⟨rfl,rfl⟩:=Prod.mk.inj hx;exact key
 ·cases h
theorem Ae3:Ac prog 9 (Ent.rd1 ME).F:=by
 refine fcC (kc func36 Agk (kc func37 Aey (kc func39 F5 (kc func38 WU KnowsL.nil)))).knows (Λ:=(Aa [(7,P5)])) func9 fun vs bs r hq=>?_
 unfold Ent.F ME at hq;dsimp only at hq;split at hq
 ·rename_i s l;obtain ⟨hc,hx⟩:=Ad hq;refine ⟨Ab5,(Wd s l).trans (Eq.trans ?_ hx)⟩;dsimp only [shr];have hc':=hc;rw [anE,anE,dcE,dcE] at hc';rw [show (decide (l.length<=4000000000)&&nmL l)=true by rw [anE]; exact ⟨dcT hc'.1,hc'.2.1⟩,Cw];simp only [A7,drop_zero,nil_append];unfold JY
  cases hi:DP l s with
  | false=>rfl
  | true=>
   have hik:FA l s=true:=by unfold DP at hi; rw [anE] at hi; exact hi.1
   have hk:Ay l=true:=by unfold FA at hik; rw [anE] at hik; exact hik.2
   obtain ⟨hg,g1,g2⟩:=Bz hk;have hkl:(t2L l 0).kids.length<=maxI:=by have:=Bc (t2L l 0).kids; have:=AE (t2L l 0); have:=(AZ hg).2.2; unfold maxI; omega
   have h40:((Df s).getD []).length<=40:=by
    cases h:Df s with
    | none=>exact zero_le _
    | some fs=>exact (SL h).1
   rw [hik,Bool.not_true,AR,AR,Ab (dcT hc'.2.2),Ab (dcT ⟨by omega,by omega,trivial,trivial,trivial,g1,by omega,hkl,by omega,by omega⟩),cond_true];rfl
 ·cases hq


def CL:LoopEnt:=⟨26,[0,1,4,12,13],[],[4],fun
 | ([.sl (.int .i64) a,.sl (.int .i64) b,.b _,.j m,.j n],[])=>
  .need (decide (0<=n/\m=a.length/\a.length=b.length/\n.toNat<=a.length/\a.length<=maxI)) (.br (decide (a.drop n.toNat=b.drop n.toNat)) (.leaf (.exit 0,([],[]))) (.leaf (.ret,([.b false],[]))))
 | _=>.no⟩
def Fe:Gm
 | [.sl (.int .i64) a,.sl (.int .i64) b],[]=>.leaf (.b (decide (a=b)),[])
 | _,_=>.no
theorem Gr (a b:List Int) (r:Bool) (n:Nat):Au prog (Aa []) (Aa [(4,CL)]) 0 (body f10 0) CL ([.sl (.int .i64) a,.sl (.int .i64) b,.b r,.j (↑a.length:Int),.j n],[]) =
 ((ifB (decide ((↑n:Int)<(↑a.length:Int))) (ifT (decide (0<=(↑n:Int))&&decide ((↑n:Int)<(↑a.length:Int))) (An a[((↑n:Int)).toNat]? fun z=>ifT (decide
 (0<=(↑n:Int))&&decide ((↑n:Int)<(↑b.length:Int))) (An b[((↑n:Int)).toNat]? fun z_1=>ifB (z != z_1) rF (some (Ex.normal,
 [V.sl (Cd.int .i64) a,V.sl (Cd.int .i64) b,V.b r,V.j (↑a.length:Int),V.j (i64.wrap ((↑n:Int)+(1:Int)))],[]))))) (some (Ex.exit 0,[],[]))):_):=by kernel_rfl
theorem Hj {a b:List Int} {r:Bool} (hl:a.length=b.length) (hm:a.length<=maxI) : ∀ (k n:Nat),n+k=a.length->
  Runs prog (Aa []) (Aa [(4,CL)]) 0 (body f10 0) CL ([.sl (.int .i64) a,.sl (.int .i64) b,.b r,.j (↑a.length:Int),.j n],[]) (if a.drop n=b.drop n then .exit 0 else .ret) (if a.drop n=b.drop n then [] else [.b false],[])
 | 0,n,hn=>by
  have e1:a.drop n=[]:=drop_eq_nil_of_le (by omega);have e2:b.drop n=[]:=drop_eq_nil_of_le (by omega);refine .stop _ _ _ ((Gr a b r n).trans ?_) (by simp [e1,e2]);simp [e1,e2,show ¬n<a.length by omega]
 | k+1,n,hn=>by
  have h1:n<a.length:=by omega
  have h2:n<b.length:=by omega
  have hd:(a.drop n=b.drop n)=(a[n]=b[n]/\a.drop (n+1)=b.drop (n+1)):=by rw [drop_eq_getElem_cons h1,drop_eq_getElem_cons h2,List.cons.injEq]
  have hr:=Gr a b r n;simp only [ntN,gtE h1,gtE h2,Az (n:=n) (by omega)] at hr
  by_cases he:a[n]=b[n]
  ·refine .step _ _ _ (d1:=([.sl (.int .i64) a,.sl (.int .i64) b,.b r,.j (↑a.length:Int),.j ((n+1:Nat):Int)],[])) (hr.trans (by simp [h1,h2,he])) ?_;simp only [hd,he,true_and];exact Hj hl hm k (n+1) (by omega)
  ·exact .stop _ _ _ (hr.trans (by simp [h1,h2,hd,he])) (by simp [hd,he])
theorem P8:Aw prog (Aa []) (Aa [(4,CL)]) 0 (f10.body.getD .skip):=by
 refine As (a:=body f10 0) (by kernel_rfl) fun d e d' h=>?_
 unfold CL at h;dsimp only at h;split at h
 ·rename_i a b r m n;obtain ⟨hc,h⟩:=Ad h;have hc:=of_decide_eq_true hc;obtain ⟨n,rfl⟩:=Int.eq_ofNat_of_zero_le hc.1;have:=Hj (r:=r) hc.2.2.1 hc.2.2.2.2 _ n (Nat.add_sub_of_le hc.2.2.2.1);rw [<-hc.2.1] at this;rcases Aax h with ⟨h1,h⟩ | ⟨h1,h⟩
  ·have h1:=of_decide_eq_true h1;simp only [ntN] at h1 h;cases h;rw [if_pos h1,if_pos h1] at this; exact this
  ·have h1:=of_decide_eq_false h1;simp only [ntN] at h1 h;cases h;rw [if_neg h1,if_neg h1] at this; exact this
 ·cases h
theorem Oa (a b:List Int) (hm:a.length<=maxI):AT prog (Aa []) (Aa [(4,CL)]) f10 [.sl (.int .i64) a,.sl (.int .i64) b] []=some (.b (decide (a=b)),[]):=by
 have e:AT prog (Aa []) (Aa [(4,CL)]) f10 [.sl (.int .i64) a,.sl (.int .i64) b] [] =
  ((ifB ((↑a.length:Int) != (↑b.length:Int)) nF (ifT (decide ((0:Int)<=(0:Int)/\(↑a.length:Int)=(↑a.length:Int)/\a.length=b.length/\(0
 : Nat)<=a.length/\a.length<=maxI)) (ifB (decide (drop 0 a=drop 0 b)) (some (V.b true,[])) nF))):_):=by kernel_rfl
 rw [e]
 by_cases h1:a.length=b.length
 ·by_cases h2:a=b<;>simp [h1,h2,show b.length<=maxI by omega]
 ·have h2:a≠b:=fun e=>h1 (by rw [e])
  simp [h1,h2]
theorem Wg:Ac prog 10 (Ent.rd1 Fe).F:=by
 refine Da KnowsL.nil.knows (Λ:=(Aa [(4,CL)])) func10 (c:=f10.body.getD .skip) (by kernel_rfl) fun vs bs r h hv hb=>?_
 unfold Ent.F Fe at h;dsimp only at h;split at h
 ·rename_i a b;exact ⟨P8,(Oa a b (hv (.sl (.int .i64) a) (by simp)).1).trans (by cases h; rfl)⟩
 ·cases h
def dnE:LoopEnt:=⟨233,[1,5],[],[4],fun
 | ([.sl (.int .u8) r,.s b],[])=>.need (decide ((Cur.mk r 0 0).good 0/\b.length<=403)) (.leaf (.ret,([.b true],[])))
 | _=>.no⟩
theorem ZP (f:List Int->By×List Ty×Nat×Bool) (g:List Int->List Ty×Bool×List Ty×Nat) (r:List Int) (b:By):H4 prog (Aa [(5,.rd1 (Ve f)),(6,.rd1 Xn),(7,.rd1 Wc),(8,.rd1 ME),(9,.rd1 ME),(10,.rd1 Fe),(11,.rd1 (Vg g)),(12,.rd1 Hh),(13,.rd1 Hh),(14,.rd1 FJ),(15,.rd1 seG),(16,.rd1 ivG)]) (Aa [(1000015,dnE)]) 0 (Kr Tryz.f3 1000015) dnE ([.sl (.int .u8) r,.s b],[]) =
 ((shr (take (g r).2.2.2 (drop 0 (g r).2.2.1)) fun sh2=>shr (take (g r).1.length (drop 0 (g r).1)) fun sh1=>ifT
 (decide ((Cur.mk r (0:Int) (0:Int)).good (0:Int))) (ifT (decide (sh1.length<=4000000000)&&nmL sh1&&(decide (sh2.length<=4000000000)&&nmL
 sh2)) (ifT (decide (sh1.length<=4000000000)&&nmL sh1&&(decide (sh2.length<=4000000000)&&nmL sh2)) (ifB (!Ji sh1 sh2==Ji sh1 sh2) rF (ifB (!Jj sh1 sh2==Jj sh1 sh2) rF (ifB (Ji sh1 sh2) (ifB (Jj sh1 sh2) (ifT (decide (sh1.length<=
 4000000000)&&nmL sh1) (ifB (Ay sh1) (ifT (decide (sh1.length<=4000000000)&&nmL sh1&&decide ((take (dfL sh1).length (drop 0
 (dfL sh1))).length<=4000000000)) (ifT (decide (sh2.length<=4000000000)&&(nmL sh2&&decide ((seL (take (dfL sh1).length (drop 0 (dfL
 sh1))) sh1).length<=4000000000))) (ifB (!seB (take (dfL sh1).length (drop 0 (dfL sh1))) sh1) rF (ifB (!FA sh2
 (seL (take (dfL sh1).length (drop 0 (dfL sh1))) sh1)) rF (ifB (!DP sh2 (seL (take (dfL sh1).length (drop (0 :
 Nat) (dfL sh1))) sh1)) rF (ifT (decide (sh1.length<=4000000000)&&(nmL sh1&&decide (b.length<=4000000000))) (ifB (Do
 sh1 b) (ifT (decide (sh2.length<=4000000000)&&(nmL sh2&&decide (b.length<=4000000000))) (ifT (decide (sh2.length<=4000000000)&&(nmL sh2
 && decide (b.length<=4000000000))) (ifT (decide (sh2.length<=4000000000)&&(nmL sh2&&decide ((Co sh1 b).length<=4000000000))) (ifB (!FA
 sh2 b) rF (ifB (!DP sh2 b) rF (ifB (!Do sh2 b) rF (ifB (!Do sh2 (Co sh1
 b)) rF (ifB (!Co sh2 b==Co sh2 (Co sh1 b)) rF (some (Ex.ret,[V.b true],[])))))))))) (some (Ex.ret,
 [V.b true],[]))))))))) (ifT (decide (sh1.length<=4000000000)&&nmL sh1&&decide (0<=4000000000)) (ifT (decide (sh2.length<=(4000000000 :
 Nat))&&(nmL sh2&&decide ((seL (Ag NCd.den) sh1).length<=4000000000))) rF)))) (some (Ex.ret,[V.b true],[]))) (some (Ex.ret,
 [V.b true],[])))))))):_):=by kernel_rfl
theorem Uw (f:List Int->By×List Ty×Nat×Bool) (g:List Int->List Ty×Bool×List Ty×Nat) (l r:List Int):AT prog (Aa [(5,.rd1 (Ve f)),(6,.rd1 Xn),(7,.rd1 Wc),(8,.rd1 ME),(9,.rd1 ME),(10,.rd1 Fe),(11,.rd1 (Vg g)),(12,.rd1 Hh),(13,.rd1 Hh),(14,.rd1 FJ),(15,.rd1 seG),(16,.rd1 ivG)]) (Aa [(1000015,dnE)]) Tryz.f3 [.sl (.int .u8) l,.sl (.int .u8) r] [] =
 ((shr (Cur.mk r (0:Int) (0:Int)) fun sh3=>shr (f l).1 fun sh2=>shr (take (f l).2.2.1 (drop 0 (f l).2.1)) fun sh1=>ifB (decide
 (i64.wrap ((↑l.length:Int)+(↑r.length:Int))>(1048576:Int))) (some (V.b true,[])) (ifT (decide ((Cur.mk l (0:Int) (0:Int)).good (0:Int))) (ifT
 (decide (sh1.length<=4000000000)&&(nmL sh1&&decide (sh2.length<=4000000000))) (ifT (decide (sh1.length<=4000000000)&&nmL sh1) (ifT
 (decide (sh1.length<=4000000000)&&(nmL sh1&&decide (sh2.length<=4000000000))) (ifT (decide (sh1.length<=4000000000)&&(nmL sh1&&decide
 (sh2.length<=4000000000))) (ifB (!Do sh1 sh2==Do sh1 sh2) nF (ifB (!Co sh1 sh2==Co sh1 sh2) nF (ifB (!DP
 sh1 sh2==DP sh1 sh2) nF (ifB (!decide (take (JY sh1 sh2).length (drop 0 (JY sh1 sh2))=take (JY sh1 sh2).length
 (drop 0 (JY sh1 sh2)))) nF (ifB (Do sh1 sh2) (ifT (decide (sh1.length<=4000000000)&&(nmL sh1&&decide ((Co sh1
 sh2).length<=4000000000))) (ifT (decide (sh1.length<=4000000000)&&(nmL sh1&&decide ((Co sh1 sh2).length<=4000000000))) (ifB (!Do sh1
 (Co sh1 sh2)) nF (ifB (!Co sh1 (Co sh1 sh2)==Co sh1 sh2) nF (ifB (!DP sh1 (Co sh1 sh2)) nF (ifB
 (decide ((↑(JY sh1 (Co sh1 sh2)).length:Int)>(0:Int))) nF (ifB (decide ((↑(Co sh1 sh2).length:Int)>(↑sh2.length:Int))) nF (ifT (decide (sh3.good (0:Int)/\sh2.length<=403)) (some (V.b true,[])))))))))) (ifT (decide (sh3.good (0:Int)/\sh2.length<=403))
 (some (V.b true,[])))))))))))))):_):=by kernel_rfl
theorem PO {w:List Ty} {n:Nat} (h:nmL w=true):nmL (w.take n)=true:=by
 unfold nmL at h ⊢;rw [all_eq_true] at h ⊢;exact fun x hx=>h x (List.mem_of_mem_take hx)
theorem SJ {l:List Ty} {s:By}:(Co l s).length<=s.length:=by
 cases h:Do l s with
 | true=>exact (LX h).2.2.1
 | false=>unfold Co; rw [h]; exact zero_le _
noncomputable abbrev Yq:FuncId->Option Ent:=Aa [(5,.rd1 (Ve IE)),(6,.rd1 Xn),(7,.rd1 Wc),(8,.rd1 ME),(9,.rd1 ME),(10,.rd1 Fe),(11,.rd1 (Vg GB)),(12,.rd1 Hh),(13,.rd1 Hh),(14,.rd1 FJ),(15,.rd1 seG),(16,.rd1 ivG)]
theorem Ad0 (r:List Int) (b:By) (hd:(Cur.mk r 0 0).good 0) (hb:b.length<=403):H4 prog Yq (Aa [(1000015,dnE)]) 0 (Kr Tryz.f3 1000015) dnE ([.sl (.int .u8) r,.s b],[])=some (.ret,([.b true],[])):=by
 rw [ZP]
 try dsimp only [shr]
 obtain ⟨b1,b2,b3,b4,b5,b6,b7⟩:=Aeb r hd;generalize GB r=G at *;obtain ⟨w,ro,v,n⟩:=G;dsimp only at *;have hu1:nmL (v.take n)=true:=PO b4;have hu2:(v.take n).length<=30:=by rw [length_take]; omega
 simp only [drop_zero,take_length];generalize v.take n=u at *;have n1:(decide (w.length<=4000000000)&&nmL w)=true:=by rw [b1,dcT (by omega)]; rfl
 have n2:(decide (u.length<=4000000000)&&nmL u)=true:=by rw [hu1,dcT (by omega)]; rfl
 have n3:(decide (w.length<=4000000000)&&nmL w&&(decide (u.length<=4000000000)&&nmL u))=true:=by rw [n1,n2]; rfl
 rw [Ab (dcT hd)];simp only [n1,n2,Cw,beq_self_eq_true,Bool.not_true,Bool.and_true,AR]
 cases hk:Ji w u with
 | false=>simp only [AR]
 | true=>
  cases hc:Jj w u with
  | false=>simp only [AR,Bg]
  | true=>
   obtain ⟨e1,e2,e3⟩:=XS hc;have hkw:Ay w=true:=by unfold Ji at hk; rw [anE] at hk; exact hk.1
   obtain ⟨_,_,_,_,c5⟩:=NN e1;have hf:=Es (show D2 (dfL w) w=true by rw [<-K3]; exact OG hkw);have n4:decide ((dfL w).length<=4000000000)=true:=dcT (by omega);have n5:(decide (u.length<=4000000000)&&(nmL u&&decide ((seL (dfL w) w).length<=4000000000)))=true:=by rw [hu1,dcT (by omega),dcT (by omega)]; rfl
   have n6:(decide (w.length<=4000000000)&&(nmL w&&decide (b.length<=4000000000)))=true:=by rw [b1,dcT (by omega),dcT (by omega)]; rfl
   have n7:(decide (u.length<=4000000000)&&(nmL u&&decide (b.length<=4000000000)))=true:=by rw [hu1,dcT (by omega),dcT (by omega)]; rfl
   have n8:(decide (u.length<=4000000000)&&(nmL u&&decide ((Co w b).length<=4000000000)))=true:=by have:=SJ (l:=w) (s:=b); rw [hu1,dcT (by omega),dcT (by omega)]; rfl
   simp only [Bg,AR,Cw,hkw,e1,e2,e3,n4,n5,n6,Bool.not_true,Bool.and_self]
   cases hy:Do w b with
   | false=>simp only [AR]
   | true=>
    obtain ⟨d1,d2,d3,d4,d5⟩:=XD hc hy;simp only [Bg,AR,Cw,n7,n8,d1,d2,d3,d4,d5,Bool.not_true,beq_self_eq_true]
theorem Af2 : ∀ d e d',(dnE.L d).run=some (e,d')->H4 prog Yq (Aa [(1000015,dnE)]) 0 (Kr Tryz.f3 1000015) dnE d=some (e,d'):=fun d e d' h=>by
 unfold dnE at h;dsimp only at h;split at h
 ·rename_i r b;obtain ⟨hc,hx⟩:=Ad h;obtain ⟨h1,h2⟩:=of_decide_eq_true hc;exact (Ad0 r b h1 h2).trans hx
 ·cases h
theorem u8_range {n:Int} (h:(Lit.int .u8 n).wf=true):0<=n/\n<=255:=by
 simp only [Lit.wf,anE,dcE] at h;exact h
theorem law_knows:Knows prog Yq:=KnowsL.knows (kc func5 Aak (kc func6 idt (kc func7 sdt (kc func8 Afw (kc func9 Ae3 (kc func10 Wg (kc func11 Aan (kc func12 icr (kc func13 scr (kc func14 Adl (kc func15 Agt (kc func16 iiv KnowsL.nil))))))))))))
theorem law_loops:Aw prog Yq (Aa [(1000015,dnE)]) 0 (Tryz.f3.body.getD .skip):=CutsI.loops (cs:=[(Kr Tryz.f3 1000015,dnE)]) (.cons Af2 .nil) .nil (by kernel_rfl) (by kernel_rfl)
theorem law_fun (l r:List Int) (hb : ∀ z∈l,0<=z/\z<=255) (hr : ∀ z∈r,0<=z/\z<=255):AT prog Yq (Aa [(1000015,dnE)]) Tryz.f3 [.sl (.int .u8) l,.sl (.int .u8) r] []=some (.b true,[]):=by
 rw [Uw]
 try dsimp only [shr]
 simp only [drop_zero,take_length]
 by_cases h0:i64.wrap ((l.length:Int)+(r.length:Int))>1048576
 ·rw [Af (dcT h0)]
 have hc:(Cur.mk l 0 0).good 0:=⟨hb,Int.le_refl _,Int.le_refl _⟩
 have hd:(Cur.mk r 0 0).good 0:=⟨hr,Int.le_refl _,Int.le_refl _⟩
 rw [Ae (dcF h0),Ab (dcT hc)];obtain ⟨b1,b2,b3,b4,b5⟩:=Ad9 l hc;generalize IE l=G at *;obtain ⟨t,w,n,ro⟩:=G;dsimp only at *;have hu1:nmL (w.take n)=true:=PO b2;have hu2:(w.take n).length<=30:=by rw [length_take]; omega
 generalize w.take n=u at *;have hd':decide ((Cur.mk r 0 0).good 0/\t.length<=403)=true:=dcT ⟨hd,b1⟩;have n1:(decide (u.length<=4000000000)&&nmL u)=true:=by rw [hu1,dcT (by omega)]; rfl
 have n2:(decide (u.length<=4000000000)&&(nmL u&&decide (t.length<=4000000000)))=true:=by rw [hu1,dcT (by omega),dcT (by omega)]; rfl
 have n3:(decide (u.length<=4000000000)&&(nmL u&&decide ((Co u t).length<=4000000000)))=true:=by have:=SJ (l:=u) (s:=t); rw [hu1,dcT (by omega),dcT (by omega)]; rfl
 have sameE : ∀ a:List Int,decide (a=a)=true:=fun a=>dcT rfl
 simp only [n1,n2,hd',Cw,beq_self_eq_true,Bool.not_true,AR,decide_true]
 cases hs:Do u t with
 | false=>simp only [AR]
 | true=>
  obtain ⟨c1,c2,c3,c4,c5,c6⟩:=LX hs;have n5:decide (((Co u t).length:Int)>(t.length:Int))=false:=dcF (by omega);simp only [Bg,AR,Cw,n3,c1,c2,c4,c5,n5,Bool.not_true,beq_self_eq_true,length_nil];rfl
end Go.Proofs.YtckmoiopjocapaaGreat.Den
