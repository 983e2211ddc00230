/- What functions of the program do, by the machine: Dr2 Val1 Val2 Val3 Val4 Val5 Val6 Val7 Val8 Val9 Val10 Val11 Val12 Val13 Val14 Val15 Val16 Val17 Val18 Val19 Val20 Val21 Val22 Val23 Dr3 Dr4 Dr5 Dr6 Dr7 Dr8 Dr9 Dw2 Wi1 Wi2 Wi3 Wi4 Wi5 Wi6 En1 Wi7 Dc1 Dc2 Dc3 Dc4 En2 Wi8 Dc5 En3 Val24 Val25 Val26 Dc6 Dc7 En4 En5 Dc8 En6 Dw1 Dw3 Dw4 Dx1 Dx2 Sub1 Sub2 Lat1 Lt2 Lt3 Lt4 SrkS. -/
import Derived.Test.YtcgddnpfapcohaaDA
import Derived.KernelRfl
import Derived.Test.YtcgddnpfapcohaaRows
open Go.IntKind (i64)
open Go.Proofs.Try
open List (all_eq_true any_cons append_assoc append_nil cons_append drop drop_eq_getElem_cons drop_eq_nil_of_le drop_zero getElem_mem length_append length_cons length_drop length_set mem_append mem_cons mem_cons_of_mem mem_cons_self mem_map mem_range nil_append pairwise_cons take take_length)
open Int (eq_ofNat_of_zero_le toNat)
open Nat (add_zero lt_succ_self zero_add)
open Bool (eq_false_or_eq_true or_eq_true)
namespace Go.Proofs.Ytcgddnpfapcohaa.Den
open Go.Proofs
set_option maxRecDepth 100000
def Pz (g:Int->Cur->Rose Lab×Cur):Gm
 | [.ptr 0 0,.j x],[.box [.sl (.int .u8) l,.j a,.i .u64 s]]=>.need (decide (0<=x/\x<=3/\(Cur.mk l a s).good 83000000)) (.leaf (.agg [.j (g x (Cur.mk l a s)).1.lab.1,.s (g x (Cur.mk l a s)).1.lab.2.1,.j (g x (Cur.mk l a s)).1.lab.2.2.1,.b (g x (Cur.mk l a s)).1.lab.2.2.2.1,.j (g x (Cur.mk l a s)).1.lab.2.2.2.2.1,.ref 1 0 (g x (Cur.mk l a s)).1.kids.length],[some (cB (g x (Cur.mk l a s)).2),R0 (.rose LCd) (g x (Cur.mk l a s)).1.kids]))
 | _,_=>.no
def TyEx (d m K:Int) (N:Nat):Prop:=∃ f:Cur->Rose Lab×Cur,Ab prog 57 (Ent.own (Gu d m f)).F/\(0<=d->∀ c n,c.good n->n<=m->(f c).2.good (n+K)/\drT N (f c).1)
def MsEx (d m K:Int) (N:Nat):Prop:=∃ f:Cur->Rose Lab×Cur,Ab prog 43 (Ent.own (FU d m f)).F/\(0<=d->∀ c n,c.good n->n<=m->(f c).2.good (n+K)/\drT N (f c).1)
theorem TyEx.weak {d m K m2 K2:Int} {N N2:Nat} (h:TyEx d m K N) (h1:m2<=m) (h2:K<=K2) (h3:N<=N2):TyEx d m2 K2 N2:=by
 obtain ⟨f,hf,pf⟩:=h;refine ⟨f,EX hf fun vs bs r hq=>?_,fun hd c n hc hn=>?_⟩
 ·unfold Ent.F Gu at hq ⊢;dsimp only at hq ⊢;split at hq
  ·rename_i x l a s;obtain ⟨hc,hx⟩:=Ae hq;obtain ⟨q1,q2,q3⟩:=of_decide_eq_true hc;have:decide (x=d/\0<=d/\(Cur.mk l a s).good m)=true:=dcT ⟨q1,q2,Cur.good_mono q3 h1⟩;rw [this];exact hx
  ·cases hq
 ·have:=pf hd c n hc (by omega);exact ⟨Cur.good_mono this.1 (by omega),HS this.2 h3⟩
theorem TyEx.none (m K:Int) (N:Nat):TyEx (-1) m K N:=by
 refine ⟨fun c=>(.node (0,[],0,false,0,()) [],c),AN fun vs bs=>?_,fun h=>by omega⟩;unfold Ent.F Gu;dsimp only;split
 ·rename_i x l a s;have:decide (x=(-1:Int)/\(0:Int)<=-1/\(Cur.mk l a s).good m)=false:=dcF (by omega);rw [this]; rfl
 ·rfl
theorem MsEx.weak {d m K m2 K2:Int} {N N2:Nat} (h:MsEx d m K N) (h1:m2<=m) (h2:K<=K2) (h3:N<=N2):MsEx d m2 K2 N2:=by
 obtain ⟨f,hf,pf⟩:=h;refine ⟨f,EX hf fun vs bs r hq=>?_,fun hd c n hc hn=>?_⟩
 ·unfold Ent.F FU at hq ⊢;dsimp only at hq ⊢;split at hq
  ·rename_i x l a s;obtain ⟨hc,hx⟩:=Ae hq;obtain ⟨q1,q2,q3⟩:=of_decide_eq_true hc;have:decide (x=d/\0<=d/\(Cur.mk l a s).good m)=true:=dcT ⟨q1,q2,Cur.good_mono q3 h1⟩;rw [this];exact hx
  ·cases hq
 ·have:=pf hd c n hc (by omega);exact ⟨Cur.good_mono this.1 (by omega),HS this.2 h3⟩
theorem MsEx.none (m K:Int) (N:Nat):MsEx (-1) m K N:=by
 refine ⟨fun c=>(.node (0,[],0,false,0,()) [],c),AN fun vs bs=>?_,fun h=>by omega⟩;unfold Ent.F FU;dsimp only;split
 ·rename_i x l a s;have:decide (x=(-1:Int)/\(0:Int)<=-1/\(Cur.mk l a s).good m)=false:=dcF (by omega);rw [this]; rfl
 ·rfl
theorem GM {d d' m m' K:Int} {N:Nat} (h1:TyEx d' m' K N) (h2:MsEx d' m' K N) (hd:d'=d-1) (hd2:0<=d/\d<=100) (h0:m+2<=m') (hm:m'<=800000000) (hK:0<=K):TyEx d m (K+4) (N+1):=by
 subst hd;obtain ⟨f,hf,pf⟩:=h1;obtain ⟨g,hg,pg⟩:=h2;obtain ⟨h,hh,ph⟩:=Qr d m m' K N h0 hm hK hd2 f g hf hg (fun h=>pf (by omega)) (fun h=>pg (by omega));exact ⟨h,hh,fun _=>ph⟩
theorem GR {d m m' K:Int} {N:Nat} (h1:TyEx d m' K N) (hd2:0<=d/\d<=100) (h0:m+5*(K+4)<=m') (hm:m'<=100000000) (hK:0<=K):MsEx d m (5*(K+4)) (5*N+1):=by
 obtain ⟨f,hf,pf⟩:=h1;obtain ⟨h,hh,ph⟩:=Px d m m' K N h0 hm hK hd2 f hf (pf hd2.1);exact ⟨h,hh,fun _=>ph⟩
theorem Sq:TyEx 0 90000000 4 1:=GM (m':=90000002) (K:=0) (N:=0) (TyEx.none _ _ _) (MsEx.none _ _ _) (by omega) (by omega) (by omega) (by omega) (by omega)
theorem Su:MsEx 0 89000000 40 6:=GR Sq (by omega) (by omega) (by omega) (by omega)
theorem Sp:TyEx 1 88000000 44 7:=GM (Sq.weak (m2:=89000000) (K2:=40) (N2:=6) (by omega) (by omega) (by omega)) Su (by omega) (by omega) (by omega) (by omega) (by omega)
theorem Ss:MsEx 1 87000000 240 36:=GR Sp (by omega) (by omega) (by omega) (by omega)
theorem So:TyEx 2 86000000 244 37:=GM (Sp.weak (m2:=87000000) (K2:=240) (N2:=36) (by omega) (by omega) (by omega)) Ss (by omega) (by omega) (by omega) (by omega) (by omega)
theorem Sr:MsEx 2 85000000 1240 186:=GR So (by omega) (by omega) (by omega) (by omega)
theorem S9:TyEx 3 84000000 1244 187:=GM (So.weak (m2:=85000000) (K2:=1240) (N2:=186) (by omega) (by omega) (by omega)) Sr (by omega) (by omega) (by omega) (by omega) (by omega)
theorem SA:MsEx 3 83000000 6240 936:=GR S9 (by omega) (by omega) (by omega) (by omega)
theorem Qw (x:Int) (h:0<=x/\x<=3):MsEx x 83000000 6240 936:=by
 have:x=0\/x=1\/x=2\/x=3:=by omega
 rcases this with rfl | rfl | rfl | rfl
 ·exact Su.weak (by omega) (by omega) (by omega)
 ·exact Ss.weak (by omega) (by omega) (by omega)
 ·exact Sr.weak (by omega) (by omega) (by omega)
 ·exact SA
theorem Mn : ∃ g:Int->Cur->Rose Lab×Cur,Ab prog 43 (Ent.own (Pz g)).F/\∀ x c n,0<=x->x<=3->c.good n->n<=83000000->(g x c).2.good (n+6240)/\drT 936 (g x c).1:=by
 obtain ⟨g,hg⟩:=EI (Y:=Cur->Rose Lab×Cur) (fun c=>(.node (0,[],0,false,0,()) [],c)) Qw;refine ⟨g,?_,fun x c n h0 h3 hc hn=>(hg x ⟨h0,h3⟩).2 h0 c n hc hn⟩;refine Bl (F:=fun n=>(Ent.own (bif decide (n<=3) then FU (n:Int) 83000000 (g n) else fun _ _=>.no)).F) (fun n _=>?_) fun vs bs r hq=>?_
 ·by_cases h:n<=3
  ·rw [dcT h];exact (hg n (by omega)).1
  ·rw [dcF h];exact AN fun vs bs=>rfl
 ·unfold Ent.F Pz at hq;dsimp only at hq;split at hq
  ·rename_i x l a s;obtain ⟨hc,hx⟩:=Ae hq;obtain ⟨q1,q2,q3⟩:=of_decide_eq_true hc;obtain ⟨x,rfl⟩:=eq_ofNat_of_zero_le q1;refine ⟨x,?_⟩;rw [dcT (show x<=3 by omega)];show (Br.need (decide ((x:Int)=(x:Int)/\0<=(x:Int)/\(Cur.mk l a s).good 83000000)) (.leaf (.agg [.j (g (x:Int) (Cur.mk l a s)).1.lab.1,.s (g (x:Int) (Cur.mk l a s)).1.lab.2.1,.j (g (x:Int) (Cur.mk l a s)).1.lab.2.2.1,.b (g (x:Int) (Cur.mk l a s)).1.lab.2.2.2.1,.j (g (x:Int) (Cur.mk l a s)).1.lab.2.2.2.2.1,.ref 1 0 (g (x:Int) (Cur.mk l a s)).1.kids.length],[some (cB (g (x:Int) (Cur.mk l a s)).2),R0 (.rose LCd) (g (x:Int) (Cur.mk l a s)).1.kids]))).run=some r;rw [dcT ⟨rfl,q1,q3⟩];exact hx
  ·cases hq
noncomputable def GF:Int->Cur->Rose Lab×Cur:=Mn.choose
theorem Qv:Ab prog 43 (Ent.own (Pz GF)).F:=Mn.choose_spec.1
theorem Py : ∀ x c n,0<=x->x<=3->c.good n->n<=83000000->(GF x c).2.good (n+6240)/\drT 936 (GF x c).1:=Mn.choose_spec.2
abbrev Nd:=Int×By×Int×Int×Bool×Unit


theorem Hn {k:Int} {z:Rose Lab} : ∀ {l:RL},Cr k l=true->z∈l->Ac z=true
 | [],_,h=>by cases h
 | y::l,hn,h=>by
  rw [Cr,anE,anE] at hn;rcases mem_cons.1 h with rfl | h
  ·exact hn.1.2
  ·exact Hn hn.2 h
theorem Cq {z:Rose Lab} (h:Ac z=true):B8 z.lab z.kids=true/\Cr z.lab.1 z.kids=true:=by
 cases z;rw [Ac,anE] at h;exact h

theorem KD {l:List Ty} (h:As l=true):Af (kf l 0).1<=1000000/\Ac (kf l 0).1=true:=by
 unfold As at h;simp only [anE,dcE] at h;obtain ⟨⟨⟨h1,_⟩,h3⟩,h4⟩:=h;have hl:0<l.length:=by omega
 have hc:=Jz hl;have hb:=Dk l 0 hl;refine ⟨by omega,?_⟩;unfold AZ at h4;simp only [anE] at h4;exact h4.1.1.2


def byR (n:Int):RL->Rose Lab
 | []=>.node (0,[],0,false,0,()) []
 | z::l=>if z.lab.2.2.1=n then z else byR n l
def AC (n:Int) (l:RL):Bool:=l.any fun z=>z.lab.2.2.1==n
def byG:Gm
 | [.agg (Lt _ _ _ _ _ ys),.j n],[]=>.need (decide (ys.length<=maxI)) (.br (AC n ys) (.leaf (.tup [.agg (Lt ((byR n ys).lab.1) ((byR n ys).lab.2.1) ((byR n ys).lab.2.2.1) ((byR n ys).lab.2.2.2.1) ((byR n ys).lab.2.2.2.2.1) ((byR n ys).kids)),.b true],[])) (.leaf (.tup [.agg [.j 0,.s [],.j 0,.b false,.j 0,.ref 0 0 0],.b false],[R0 (.rose LCd) []])))
 | _,_=>.no
def byE:LoopEnt:=⟨22,[1,4,9,10,11],[4],[4,5],fun
 | ([.j n,.ptr 0 0,.sl (.rose LCd) ks,.j k,.j i],[some (.box [.j 0,.s [],.j 0,.b false,.j 0,.ref 1 0 0]),R0 (.rose LCd) []])=>.need (decide (0<=i/\i.toNat<=ks.length/\k=ks.length/\ks.length<=maxI)) (.br (AC n (ks.drop i.toNat)) (.leaf (.ret,([.ptr 0 0,.b true],[some (.box (Lt ((byR n (ks.drop i.toNat)).lab.1) ((byR n (ks.drop i.toNat)).lab.2.1) ((byR n (ks.drop i.toNat)).lab.2.2.1) ((byR n (ks.drop i.toNat)).lab.2.2.2.1) ((byR n (ks.drop i.toNat)).lab.2.2.2.2.1) ((byR n (ks.drop i.toNat)).kids)))]))) (.leaf (.exit 0,([.ptr 0 0],[some (.box [.j 0,.s [],.j 0,.b false,.j 0,.ref 1 0 0]),R0 (.rose LCd) []]))))
 | _=>.no⟩
theorem Li (n:Int) (ks:RL) (k i:Int):AD prog (Aa []) (Aa [(2,byE)]) 0 (body f37 0) byE ([.j n,.ptr 0 0,.sl (.rose LCd) ks,.j k,.j i],[some (.box [.j 0,.s [],.j 0,.b false,.j 0,.ref 1 0 0]),R0 (.rose LCd) []]) =
 ((ifB (decide (i<k)) (ifT (decide (0<=i)&&decide (i<(↑ks.length:Int))) (Am ks[i.toNat]? fun z=>ifB ((Rose.lab z).2.2.1==n) (some (Ex.ret,[V.ptr 0 0,
 V.b true],[some (Blk.box (Lt ((Rose.lab z).1) ((Rose.lab z).2.1) ((Rose.lab z).2.2.1) ((Rose.lab z).2.2.2.1) ((Rose.lab
 z).2.2.2.2.1) (Rose.kids z)))])) (some (Ex.normal,[V.j n,V.ptr 0 0,V.sl LCd.rose ks,V.j k,V.j (i64.wrap (i+1))],
 [some (Blk.box [V.j 0,V.s (Ar UInt8),V.j 0,V.b false,V.j 0,V.ref 1 0 0]),R0 LCd.rose (Ar LCd.rose.den)])))) (some (Ex.exit
 0,[V.ptr 0 0],[some (Blk.box [V.j 0,V.s (Ar UInt8),V.j 0,V.b false,V.j 0,V.ref 1 0 0]),R0 LCd.rose (Ar LCd.rose.den)]))):_):=by kernel_rfl
theorem Q8 (y0:Int) (y1:By) (y2:Int) (y3:Bool) (y4:Int) (ys:RL) (n:Int):Dq prog (Aa []) (Aa [(2,byE)]) f37 [.agg (Lt y0 y1 y2 y3 y4 ys),.j n] [] =
 ((ifT (decide ((0:Int)<=(0:Int)/\0<=ys.length/\(↑ys.length:Int)=(↑ys.length:Int)/\ys.length<=maxI)) (ifB (AC n (drop 0 ys)) (some
 (V.tup [V.agg (Lt ((byR n (drop 0 ys)).lab.1) ((byR n (drop 0 ys)).lab.2.1) ((byR n (drop 0
 ys)).lab.2.2.1) ((byR n (drop 0 ys)).lab.2.2.2.1) ((byR n (drop 0 ys)).lab.2.2.2.2.1) ((byR n
 (drop 0 ys)).kids)),V.b true],[])) (some (V.tup [V.agg [V.j 0,V.s (Ar UInt8),V.j 0,V.b false,V.j 0,V.ref 0 0 0],V.b false],[R0 LCd.rose (Ar LCd.rose.den)])))):_):=by kernel_rfl
theorem MU (n:Int) (ks:RL) (hm:ks.length<=maxI) : ∀ (j i:Nat),i+j=ks.length->∀ ex d,(Br.br (AC n (ks.drop i)) (.leaf (.ret,([.ptr 0 0,.b true],[some (.box (Lt ((byR n (ks.drop i)).lab.1) ((byR n (ks.drop i)).lab.2.1) ((byR n (ks.drop i)).lab.2.2.1) ((byR n (ks.drop i)).lab.2.2.2.1) ((byR n (ks.drop i)).lab.2.2.2.2.1) ((byR n (ks.drop i)).kids)))]))) (.leaf (.exit 0,([.ptr 0 0],[some (.box [.j 0,.s [],.j 0,.b false,.j 0,.ref 1 0 0]),R0 (.rose LCd) []]))):Br (Ex×Dt)).run=some (ex,d)->
  Runs prog (Aa []) (Aa [(2,byE)]) 0 (body f37 0) byE ([.j n,.ptr 0 0,.sl (.rose LCd) ks,.j (ks.length:Int),.j (i:Int)],[some (.box [.j 0,.s [],.j 0,.b false,.j 0,.ref 1 0 0]),R0 (.rose LCd) []]) ex d
 | 0,i,hi,ex,d,h=>by
  have hr:=Li n ks ks.length i;rw [Ah (dcF (by omega))] at hr;rw [drop_eq_nil_of_le (by omega)] at h;obtain ⟨rfl,rfl⟩:=lfP h;exact stp hr
 | j+1,i,hi,ex,d,h=>by
  have hl:i<ks.length:=by omega
  have hM:=mxI;have hr:=Li n ks ks.length i;rw [Aj (dcT (by omega)),T2 (by omega)] at hr;simp only [ntN,gtE hl,Ao,AE (n:=i) (by omega)] at hr;rw [drop_eq_getElem_cons hl] at h;unfold AC at h;rw [any_cons,byR] at h
  by_cases q:ks[i].lab.2.2.1=n
  ·have qb:(ks[i].lab.2.2.1==n)=true:=by rw [q]; exact beq_self_eq_true _
   rw [qb,Bool.true_or,if_pos q] at h;rw [qb,Bs] at hr;obtain ⟨rfl,rfl⟩:=lfP h;exact stp hr
  ·rw [beq_false_of_ne q,Bool.false_or,if_neg q] at h;rw [beq_false_of_ne q,Bt] at hr;exact sts hr (MU n ks hm j (i+1) (by omega) ex d h)
theorem Sx:Az prog (Aa []) (Aa [(2,byE)]) 0 (f37.body.getD .skip):=by
 refine Aw (a:=body f37 0) (by kernel_rfl) fun d ex d' h=>?_
 unfold byE at h;dsimp only at h;split at h
 ·rename_i n ks k i;obtain ⟨hc,hx⟩:=Ae h;clear h;obtain ⟨h0,h1,rfl,h3⟩:=of_decide_eq_true hc;obtain ⟨i,rfl⟩:=eq_ofNat_of_zero_le h0;simp only [ntN] at h1 hx;exact MU n ks h3 (ks.length-i) i (by omega) ex d' hx
 ·cases h
theorem RZ:Ab prog 37 (Ent.rd1 byG).F:=by
 refine fcN KnowsL.nil.knows (Λ:=(Aa [(2,byE)])) func37 fun vs bs r hq=>?_
 unfold Ent.F byG at hq;dsimp only at hq;split at hq
 ·rename_i y0 y1 y2 y3 y4 ys n;obtain ⟨hc,hx⟩:=Ae hq;refine ⟨Sx,Eq.trans ?_ hx⟩;rw [Q8,Ag (dcT ⟨by omega,by omega,rfl,of_decide_eq_true hc⟩),drop_zero];cases AC n ys<;>rfl
 ·cases hq
def hd0:RL->Rose Lab
 | []=>.node (0,[],0,false,0,()) []
 | z::_=>z
theorem Bo (z:Rose Lab):Rose.node (z.lab.1,z.lab.2.1,z.lab.2.2.1,z.lab.2.2.2.1,z.lab.2.2.2.2.1,()) z.kids=z:=by
 obtain ⟨⟨_,_,_,_,_,⟨⟩⟩,ks⟩:=z; rfl
theorem Dw {x:Lab} {ks:RL} (h:B8 x ks=true):x.1=1\/x.1=2\/x.1=3\/(x.1=4/\ks.length=1)\/x.1=5:=by
 unfold B8 at h;split at h
 ·rename_i q; omega
 ·split at h
  ·rename_i q; omega
  ·split at h
   ·rename_i q;rw [anE] at h;exact .inr (.inr (.inr (.inl ⟨q,by simpa using h.2⟩)))
   ·split at h
    ·cases h
    ·rename_i q; omega
instance decNd0:DecidableEq (Int×Bool×Unit):=inferInstance
instance decNd:DecidableEq Nd:=inferInstance


theorem En {l:List Ty} (h:As l=true):0<l.length/\Af (t2L l 0)<=1000000/\Ac (t2L l 0)=true/\(kf l 0).1=t2L l 0:=by
 have e:=(GY l).2 h;have f:=KD h;rw [e] at f;refine ⟨?_,f.1,f.2,e⟩;unfold As at h;simp only [anE,dcE] at h;omega


def KR (y z:Rose Lab):Prop:=y.lab.2.2.1<z.lab.2.2.1
theorem NE {n:Int} {ks:RL}:AC n ks=true↔∃ y∈ks,y.lab.2.2.1=n:=by
 unfold AC;rw [List.any_eq_true];constructor
 ·rintro ⟨y,h1,h2⟩; exact ⟨y,h1,by simpa using h2⟩
 ·rintro ⟨y,h1,h2⟩; exact ⟨y,h1,by simpa using h2⟩
theorem Pq {n:Int} {z:Rose Lab} {ks:RL} (h:n≠z.lab.2.2.1):AC n (z::ks)=AC n ks/\byR n (z::ks)=byR n ks:=by
 constructor
 ·unfold AC;rw [any_cons,beq_false_of_ne (Ne.symm h),Bool.false_or]
 ·rw [byR,if_neg (Ne.symm h)]














def kpC:Gm
 | [.tp LCd z 0,.bx [.j x] 0],[]=>.leaf (.b (z.lab.2.2.1==x),[])
 | _,_=>.no
def kpE  : LoopEnt:=⟨19,[0,1,4,7,8],[],[4],fun
 | ([.sl (.tree LCd) l,.fn 49 [] [.ptr 0 0],.j _,.j k,.j i],[some (.box [.j x])])=>
  .need (decide (0<=i/\i.toNat<=l.length/\l.length<=maxI/\k=l.length)) (.br (decide (AI (fun z:Rose Lab=>z.lab.2.2.1==x) i.toNat (l.drop i.toNat)<0)) (.leaf (.exit 0,([],[some (.box [.j x])]))) (.leaf (.ret,([.j (AI (fun z:Rose Lab=>z.lab.2.2.1==x) i.toNat (l.drop i.toNat))],[some (.box [.j x])]))))
 | _=>.no⟩
def Rn  : Gm
 | [.sl (.tree LCd) l,.fn 49 [] [.ptr 0 0]],[.box [.j x]]=>.leaf (.j (AI (fun z:Rose Lab=>z.lab.2.2.1==x) 0 l),[some (.box [.j x])])
 | _,_=>.no
def H8:Gm
 | [.tp LCd z 0,.j x],[]=>.need (decide (z.kids.length<=maxI)) (.br (AC x z.kids) (.leaf (.tp LCd (byR x z.kids) 0,[])) (.leaf (.np,[])))
 | _,_=>.no
theorem Qe:Ab prog 49 (Ent.rd1 kpC).F:=by
 refine fcK KnowsL.nil.knows (Λ:=Aa []) func49 fun vs bs r hq=>?_
 unfold Ent.F kpC at hq;dsimp only at hq;split at hq
 ·rename_i z x;refine ⟨Aq _,Eq.trans ?_ hq⟩;have e:AV prog (Aa []) (Aa []) f49 [.tp LCd z 0,.bx [.j x] 0] []=((some (V.b (z.lab.2.2.1==x),[])):_):=by kernel_rfl
  rw [e];rfl
 ·cases hq
theorem K8  (x:Int) (l:RL) (r k i:Int):AD prog (Aa [(49,.rd1 kpC)]) (Aa [(2,kpE)]) 1 (body f48 0) kpE ([.sl (.tree LCd) l,.fn 49 [] [.ptr 0 0],.j r,.j k,.j i],[some (.box [.j x])]) =
 ((ifB (decide (i<k)) (ifT (decide (0<=i)&&decide (i<(↑l.length:Int))) (Am l[i.toNat]? fun z=>ifB ((Rose.lab z).2.2.1==x) (some (Ex.ret,[V.j i],
 [some (Blk.box [V.j x])])) (some (Ex.normal,[V.sl LCd.tree l,V.fn 49 [] [V.ptr 0 0],V.j r,V.j k,V.j (i64.wrap (i +
 1))],[some (Blk.box [V.j x])])))) (some (Ex.exit 0,[],[some (Blk.box [V.j x])]))):_):=by kernel_rfl
theorem MG  (x:Int) {l:RL} {r:Int} (hx:l.length<=maxI) : ∀ (j i:Nat),i+j=l.length->∀ e d',(.br (decide (AI (fun z:Rose Lab=>z.lab.2.2.1==x) i (l.drop i)<0)) (.leaf (.exit 0,([],[some (.box [.j x])]))) (.leaf (.ret,([.j (AI (fun z:Rose Lab=>z.lab.2.2.1==x) i (l.drop i))],[some (.box [.j x])]))):Br (Ex×Dt)).run=some (e,d')->
  Runs prog (Aa [(49,.rd1 kpC)]) (Aa [(2,kpE)]) 1 (body f48 0) kpE ([.sl (.tree LCd) l,.fn 49 [] [.ptr 0 0],.j r,.j (l.length:Int),.j (i:Int)],[some (.box [.j x])]) e d'
 | 0,i,hi,e,d',h=>by
  have e1:l.drop i=[]:=drop_eq_nil_of_le (by omega);rw [e1,EF,AI,if_pos (by omega)] at h;cases h;have hr:=K8 x l r l.length i;rw [Ah (dcF (by omega))] at hr;exact stp hr
 | j+1,i,hi,e,d',h=>by
  have h1:i<l.length:=by omega
  have hr:=K8 x l r l.length i;rw [Aj (dcT (by omega)),T2 (by omega)] at hr;simp only [ntN,gtE h1,Ao,AE (n:=i) (by omega)] at hr;rw [drop_eq_getElem_cons h1,EF,AI] at h
  by_cases he:(fun z:Rose Lab=>z.lab.2.2.1==x) l[i]=true
  ·rw [if_pos he,if_neg (by omega)] at h;cases h;rw [Aj he] at hr;exact stp hr
  ·rw [if_neg he] at h;rw [Ah (by simpa using he)] at hr;exact sts hr (MG x hx j (i+1) (by omega) e d' (by rw [EF]; exact h))
theorem Sc  : Az prog (Aa [(49,.rd1 kpC)]) (Aa [(2,kpE)]) 1 (f48.body.getD .skip):=by
 refine Aw (a:=body f48 0) (by kernel_rfl) fun d e d' h=>?_
 unfold kpE at h;dsimp only at h;split at h
 ·obtain ⟨hc,h'⟩:=Ae h;obtain ⟨h0,h1,h2,rfl⟩:=of_decide_eq_true hc;obtain ⟨i,rfl⟩:=eq_ofNat_of_zero_le h0;exact MG _  h2 _ i (Nat.add_sub_of_le h1) e d' h'
 ·cases h
theorem Rp  (x:Int) (l:RL) (hx:l.length<=maxI):AV prog (Aa [(49,.rd1 kpC)]) (Aa [(2,kpE)]) f48 [.sl (.tree LCd) l,.fn 49 [] [.ptr 0 0]] [.box [.j x]]=some (.j (AI (fun z:Rose Lab=>z.lab.2.2.1==x) 0 l),[some (.box [.j x])]):=by
 have e:AV prog (Aa [(49,.rd1 kpC)]) (Aa [(2,kpE)]) f48 [.sl (.tree LCd) l,.fn 49 [] [.ptr 0 0]] [.box [.j x]] =
  ((ifT (decide ((0:Int)<=(0:Int)/\0<=l.length/\l.length<=maxI/\(↑l.length:Int)=(↑l.length:Int))) (ifB (decide (AI (fun z=>z.lab.2.2.1==
 x) 0 (drop 0 l)<(0:Int))) (some (V.j (-1),[some (Blk.box [V.j x])])) (some (V.j (AI (fun z=>z.lab.2.2.1==x) (0 :
 Nat) (drop 0 l)),[some (Blk.box [V.j x])])))):_):=by kernel_rfl
 rw [e,Ag (dcT ⟨by omega,by omega,hx,rfl⟩)];simp only [drop_zero]
 by_cases q:AI (fun z:Rose Lab=>z.lab.2.2.1==x) 0 l<0
 ·rw [Aj (dcT q),HK _ _ _ q]
 ·rw [Ah (dcF q)]
theorem Ro  : Ab prog 48 (Ent.own Rn).F:=by
 refine C7 (kc func49 Qe KnowsL.nil).knows (Λ:=(Aa [(2,kpE)])) func48 (c:=f48.body.getD .skip) (by kernel_rfl) fun vs bs r h hv hb=>?_
 unfold Ent.F Rn at h;dsimp only at h;split at h
 ·rename_i l x;have h':=h;exact ⟨Sc ,(Rp x l (hv (.sl (.tree LCd) l) (by simp)).1).trans (by cases h'; rfl)⟩
 ·cases h
theorem LZ (z:Rose Lab) (x:Int):AV prog (Aa [(48,.own Rn)]) (Aa []) f29 [.tp LCd z 0,.j x] [] =
 ((ifB (decide (AI (fun z=>z.lab.2.2.1==x) 0 z.kids<(0:Int))) (some (V.np,[])) (ifT (decide ((0:Int)<=AI (fun z=>z.lab.2.2.1==x)
 0 z.kids)&&decide (AI (fun z=>z.lab.2.2.1==x) 0 z.kids<(↑z.kids.length:Int))) (Am z.kids[(AI (fun z=>z.lab.2.2.1==x)
 0 z.kids).toNat]? fun z=>some (V.tp LCd z 0,[])))):_):=by kernel_rfl
theorem Lj {x:Int} : ∀ {l:RL} {y:Rose Lab},l.find? (fun z=>z.lab.2.2.1==x)=some y->AC x l=true/\byR x l=y
 | [],y,h=>by cases h
 | z::l,y,h=>by
  by_cases q:z.lab.2.2.1=x
  ·have hb:(z.lab.2.2.1==x)=true:=by rw [q]; exact beq_self_eq_true _
   rw [List.find?_cons_of_pos (p:=fun z:Rose Lab=>z.lab.2.2.1==x) hb] at h;refine ⟨NE.2 ⟨z,by simp,q⟩,?_⟩;rw [byR,if_pos q];exact Option.some.inj h
  ·have hb : ¬(z.lab.2.2.1==x)=true:=by rw [beq_false_of_ne q]; simp
   rw [List.find?_cons_of_neg (p:=fun z:Rose Lab=>z.lab.2.2.1==x) hb] at h;obtain ⟨h1,h2⟩:=Lj h;have hne:=Pq (ks:=l) (z:=z) (n:=x) (Ne.symm q);rw [hne.1,hne.2];exact ⟨h1,h2⟩
theorem OS:Ab prog 29 (Ent.rd1 H8).F:=by
 refine fcK (kc func48 Ro KnowsL.nil).knows (Λ:=Aa []) func29 fun vs bs r hq=>?_
 unfold Ent.F H8 at hq;dsimp only at hq;split at hq
 ·rename_i z x;obtain ⟨hc,hx⟩:=Ae hq;refine ⟨Aq _,Eq.trans ?_ hx⟩;rw [LZ];have ha:=HL (fun z:Rose Lab=>z.lab.2.2.1==x) z.kids 0;have hhas:AC x z.kids=z.kids.any (fun z:Rose Lab=>z.lab.2.2.1==x):=rfl
  by_cases q:AI (fun z:Rose Lab=>z.lab.2.2.1==x) 0 z.kids<0
  ·rw [Aj (dcT q),hhas,<-ha,dcF (by omega)];rfl
  ·obtain ⟨i,h1,h2,h3,h4⟩:=IN (fun z:Rose Lab=>z.lab.2.2.1==x) z.kids 0 (by omega);obtain ⟨h5,h6⟩:=Lj h4;rw [Ah (dcF q),h2,zero_add,T2 (by omega),ntN,gtE h1,Ao,h5,h6];rfl
 ·cases hq






mutual
def Al:Rose Lab->Int->Nat->List Ty
 | .node x ks,up,s=>(x.1,x.2.1,x.2.2.1,x.2.2.2.1,up,x.2.2.2.2.1,())::A9 ks s (s+1)
def A9:RL->Nat->Nat->List Ty
 | [],_,_=>[]
 | z::ks,s,p=>Al z s p++A9 ks s (p+(Al z s p).length)
end
def D3 (n:Nat):Gm
 | [.tp LCd z 0,.ref 0 0 m,.j up],[.row false _ TCd o]=>.need (decide (m=o.length/\o.length+Af z<=2000000/\Af z<=n)) (.leaf (.ref 1 0 (o++Al z up o.length).length,[none,R0 TCd (o++Al z up o.length)]))
 | _,_=>.no
def Fc:Gm
 | [.tp LCd z 0,.ref 0 0 m,.j up],[.row false _ TCd o]=>.need (decide (m=o.length/\o.length+Af z<=2000000)) (.leaf (.ref 1 0 (o++Al z up o.length).length,[none,R0 TCd (o++Al z up o.length)]))
 | _,_=>.no
def DL (n:Nat):LoopEnt:=⟨52,[1,7,40,41,42],[1],[],fun
 | ([.ref 1 0 m,.j s,.sl (.tree LCd) ks,.j k,.j i],[none,R0 TCd o])=>.need (decide (m=o.length/\0<=i/\i.toNat<=ks.length/\k=ks.length/\0<=s/\o.length+Ai (ks.drop i.toNat)<=2000000/\Ai ks<=n/\Ai ks<=2000000)) (.leaf (.exit 0,([.ref 1 0 (o++A9 (ks.drop i.toNat) s.toNat o.length).length],[none,R0 TCd (o++A9 (ks.drop i.toNat) s.toNat o.length)])))
 | _=>.no⟩
def CO:LoopEnt:=⟨52,[1,7,40,41,42],[1],[],fun
 | ([.ref 0 0 m,.j s,.sl (.tree LCd) ks,.j k,.j i],[R0 TCd o])=>.need (decide (m=o.length/\0<=i/\i.toNat<=ks.length/\k=ks.length/\0<=s/\o.length+Ai (ks.drop i.toNat)<=2000000/\Ai ks<=2000000)) (.leaf (.exit 0,([.ref 0 0 (o++A9 (ks.drop i.toNat) s.toNat o.length).length],[R0 TCd (o++A9 (ks.drop i.toNat) s.toNat o.length)])))
 | _=>.no⟩
def IU:Gm
 | [.tp LCd z 0,.nl,.j up],[]=>.need (decide (Af z<=2000000)) (.leaf (.ref 0 0 (Al z up 0).length,[R0 TCd (Al z up 0)]))
 | _,_=>.no
mutual
theorem B7 : ∀ (z:Rose Lab) (up:Int) (s:Nat),(Al z up s).length=Af z
 | .node x ks,up,s=>by rw [Al,Af,length_cons,Hd ks s (s+1)]
theorem Hd : ∀ (ks:RL) (s p:Nat),(A9 ks s p).length=Ai ks
 | [],_,_=>by rw [A9,Ai]; rfl
 | z::ks,s,p=>by rw [A9,Ai,length_append,B7 z s p,Hd ks s]
end
theorem Cx (z:Rose Lab) (up:Int) (s:Nat):Al z up s=(z.lab.1,z.lab.2.1,z.lab.2.2.1,z.lab.2.2.2.1,up,z.lab.2.2.2.2.1,())::A9 z.kids s (s+1):=by cases z; rw [Al]; rfl
theorem G0 (n:Nat) (m:Nat) (s:Int) (ks:RL) (k i:Int) (o:List Ty):AD prog (Aa [(31,.own (D3 n))]) (Aa [(4,DL n)]) 1 (body f31 0) (DL n) ([.ref 1 0 m,.j s,.sl (.tree LCd) ks,.j k,.j i],[none,R0 TCd o]) =
 ((ifB (decide (i<k)) (ifT (decide (0<=i)&&decide (i<(↑ks.length:Int))) (Am ks[i.toNat]? fun z=>ifT (decide (m=o.length/\o.length+Af z<=2000000
 /\ Af z<=n)) (some (Ex.normal,[V.ref 1 0 (o++Al z s o.length).length,V.j s,V.sl LCd.tree ks,V.j k,V.j (i64.wrap (i+1))],[none,R0 TCd (o++Al z s o.length)])))) (some (Ex.exit 0,[V.ref 1 0 m],[none,R0 TCd o]))):_):=by kernel_rfl
theorem Hc (n:Nat) (s:Nat) (ks:RL) (h1:Ai ks<=n) (h2:Ai ks<=2000000) : ∀ (j i:Nat) (o:List Ty),i+j=ks.length->o.length+Ai (ks.drop i)<=2000000->
  Runs prog (Aa [(31,.own (D3 n))]) (Aa [(4,DL n)]) 1 (body f31 0) (DL n) ([.ref 1 0 o.length,.j (s:Int),.sl (.tree LCd) ks,.j (ks.length:Int),.j (i:Int)],[none,R0 TCd o]) (.exit 0) ([.ref 1 0 (o++A9 (ks.drop i) s o.length).length],[none,R0 TCd (o++A9 (ks.drop i) s o.length)])
 | 0,i,o,hi,ho=>by
  have hr:=G0 n o.length s ks ks.length i o;rw [Ah (dcF (by omega))] at hr;rw [drop_eq_nil_of_le (by omega),A9,append_nil];exact stp hr
 | j+1,i,o,hi,ho=>by
  have hl:i<ks.length:=by omega
  have hM:=mxI;have hlen:=AK ks;have hmem:=AU (getElem_mem hl);have hr:=G0 n o.length s ks ks.length i o;rw [drop_eq_getElem_cons hl,Ai] at ho;rw [Aj (dcT (by omega)),T2 (by omega),ntN,gtE hl,Ao,AE (n:=i) (by omega),Ag (dcT ⟨rfl,by omega,by omega⟩)] at hr;rw [drop_eq_getElem_cons hl,A9];have hk:=B7 ks[i] s o.length;have ih:=Hc n s ks h1 h2 j (i+1) (o++Al ks[i] s o.length) (by omega) (by rw [length_append]; omega);rw [length_append,append_assoc] at ih;rw [length_append] at hr;exact sts hr ih
theorem Od (n:Nat):Az prog (Aa [(31,.own (D3 n))]) (Aa [(4,DL n)]) 1 (f31.body.getD .skip):=by
 refine Aw (a:=body f31 0) (by kernel_rfl) fun d ex d' h=>?_
 unfold DL at h;dsimp only at h;split at h
 ·rename_i m s ks k i o;obtain ⟨hc,hx⟩:=Ae h;clear h;obtain ⟨rfl,h0,h1,rfl,h3,h4,h5,h6⟩:=of_decide_eq_true hc;obtain ⟨i,rfl⟩:=eq_ofNat_of_zero_le h0;obtain ⟨s,rfl⟩:=eq_ofNat_of_zero_le h3;simp only [ntN] at h1 h4 hx;obtain ⟨rfl,rfl⟩:=lfP hx;exact Hc n s ks h5 h6 (ks.length-i) i o (by omega) h4
 ·cases h
theorem F3 (m:Nat) (s:Int) (ks:RL) (k i:Int) (o:List Ty):AD prog (Aa [(31,.own Fc)]) (Aa [(4,CO)]) 0 (body f31 0) CO ([.ref 0 0 m,.j s,.sl (.tree LCd) ks,.j k,.j i],[R0 TCd o]) =
 ((ifB (decide (i<k)) (ifT (decide (0<=i)&&decide (i<(↑ks.length:Int))) (Am ks[i.toNat]? fun z=>ifT (decide (m=o.length/\o.length+Af z<=(2000000 :
 Nat))) (some (Ex.normal,[V.ref 0 0 (o++Al z s o.length).length,V.j s,V.sl LCd.tree ks,V.j k,V.j (i64.wrap (i+1))],[R0 TCd (o++Al z s o.length)])))) (some (Ex.exit 0,[V.ref 0 0 m],[R0 TCd o]))):_):=by kernel_rfl
theorem G2 (s:Nat) (ks:RL) (h2:Ai ks<=2000000) : ∀ (j i:Nat) (o:List Ty),i+j=ks.length->o.length+Ai (ks.drop i)<=2000000->
  Runs prog (Aa [(31,.own Fc)]) (Aa [(4,CO)]) 0 (body f31 0) CO ([.ref 0 0 o.length,.j (s:Int),.sl (.tree LCd) ks,.j (ks.length:Int),.j (i:Int)],[R0 TCd o]) (.exit 0) ([.ref 0 0 (o++A9 (ks.drop i) s o.length).length],[R0 TCd (o++A9 (ks.drop i) s o.length)])
 | 0,i,o,hi,ho=>by
  have hr:=F3 o.length s ks ks.length i o;rw [Ah (dcF (by omega))] at hr;rw [drop_eq_nil_of_le (by omega),A9,append_nil];exact stp hr
 | j+1,i,o,hi,ho=>by
  have hl:i<ks.length:=by omega
  have hM:=mxI;have hlen:=AK ks;have hmem:=AU (getElem_mem hl);have hr:=F3 o.length s ks ks.length i o;rw [drop_eq_getElem_cons hl,Ai] at ho;rw [Aj (dcT (by omega)),T2 (by omega),ntN,gtE hl,Ao,AE (n:=i) (by omega),Ag (dcT ⟨rfl,by omega⟩)] at hr;rw [drop_eq_getElem_cons hl,A9];have hk:=B7 ks[i] s o.length;have ih:=G2 s ks h2 j (i+1) (o++Al ks[i] s o.length) (by omega) (by rw [length_append]; omega);rw [length_append,append_assoc] at ih;rw [length_append] at hr;exact sts hr ih
theorem MZ:Az prog (Aa [(31,.own Fc)]) (Aa [(4,CO)]) 0 (f31.body.getD .skip):=by
 refine Aw (a:=body f31 0) (by kernel_rfl) fun d ex d' h=>?_
 unfold CO at h;dsimp only at h;split at h
 ·rename_i m s ks k i o;obtain ⟨hc,hx⟩:=Ae h;clear h;obtain ⟨rfl,h0,h1,rfl,h3,h4,h6⟩:=of_decide_eq_true hc;obtain ⟨i,rfl⟩:=eq_ofNat_of_zero_le h0;obtain ⟨s,rfl⟩:=eq_ofNat_of_zero_le h3;simp only [ntN] at h1 h4 hx;obtain ⟨rfl,rfl⟩:=lfP hx;exact G2 s ks h6 (ks.length-i) i o (by omega) h4
 ·cases h
theorem MX (n:Nat) (z:Rose Lab) (m:Nat) (up:Int) (nl:Option Bool) (o:List Ty) (hc:m=o.length/\o.length+Af z<=2000000/\Af z<=n+1):Dq prog (Aa [(31,.own (D3 n))]) (Aa [(4,DL n)]) f31 [.tp LCd z 0,.ref 0 0 m,.j up] [.row false nl TCd o]=some (.ref 1 0 (o++Al z up o.length).length,[none,R0 TCd (o++Al z up o.length)]):=by
 have e:Dq prog (Aa [(31,.own (D3 n))]) (Aa [(4,DL n)]) f31 [.tp LCd z 0,.ref 0 0 m,.j up] [.row false nl TCd o]=((ifT (decide ((m+1)*56<=140737488355328)&&decide (m+1<=maxI)) (ifT (decide (m+1=(take m (drop 0 o)
 ++ (z.lab.1,z.lab.2.1,z.lab.2.2.1,z.lab.2.2.2.1,up,z.lab.2.2.2.2.1,())::Ar TCd.den).length/\(0:Int)<=(0:Int)/\0<=
 z.kids.length/\(↑z.kids.length:Int)=(↑z.kids.length:Int)/\0<=(↑m:Int)/\(take m (drop 0 o)++(z.lab.1,z.lab.2.1,z.lab.2.2.1,
 z.lab.2.2.2.1,up,z.lab.2.2.2.2.1,())::Ar TCd.den).length+Ai (drop 0 z.kids)<=2000000/\Ai z.kids<=n/\Ai z.kids<=
 2000000)) (some (V.ref 1 0 (take m (drop 0 o)++(z.lab.1,z.lab.2.1,z.lab.2.2.1,z.lab.2.2.2.1,up,
 z.lab.2.2.2.2.1,())::Ar TCd.den++A9 (drop 0 z.kids) (↑m:Int).toNat (take m (drop 0 o)++(z.lab.1,z.lab.2.1,
 z.lab.2.2.1,z.lab.2.2.2.1,up,z.lab.2.2.2.2.1,())::Ar TCd.den).length).length,[none,R0 TCd (take m (drop
 0 o)++(z.lab.1,z.lab.2.1,z.lab.2.2.1,z.lab.2.2.2.1,up,z.lab.2.2.2.2.1,())::Ar TCd.den++A9 (drop 0
 z.kids) (↑m:Int).toNat (take m (drop 0 o)++(z.lab.1,z.lab.2.1,z.lab.2.2.1,z.lab.2.2.2.1,up,z.lab.2.2.2.2.1,())
 :: Ar TCd.den).length)])))):_):=by kernel_rfl
 rw [e];clear e;obtain ⟨rfl,h2,h3⟩:=hc;have hM:=mxI;have hck:=AF z;have hlen:=AK z.kids;rw [show drop 0 o=o from rfl,show drop 0 z.kids=z.kids from rfl,take_length,ntN,Cx];rw [T2 (by omega)];rw [Ag (dcT ⟨by simp [AH],by omega,by omega,rfl,by omega,by simp [AH]; omega,by omega,by omega⟩)];simp [AH]
theorem L1 (z:Rose Lab) (up:Int) (hc:Af z<=2000000):Dq prog (Aa [(31,.own Fc)]) (Aa [(4,CO)]) f31 [.tp LCd z 0,.nl,.j up] []=some (.ref 0 0 (Al z up 0).length,[R0 TCd (Al z up 0)]):=by
 have e:Dq prog (Aa [(31,.own Fc)]) (Aa [(4,CO)]) f31 [.tp LCd z 0,.nl,.j up] []=((ifT (decide (1=1/\(0:Int)<=(0:Int)/\0<=z.kids.length/\(↑z.kids.length:Int)=(↑z.kids.length:Int)/\(0:Int)<=(0:Int)/\(1 :
 Nat)+Ai (drop 0 z.kids)<=2000000/\Ai z.kids<=2000000)) (some (V.ref 0 0 ((z.lab.1,z.lab.2.1,z.lab.2.2.1,
 z.lab.2.2.2.1,up,z.lab.2.2.2.2.1,())::Ar TCd.den++A9 (drop 0 z.kids) 0 1).length,[R0 TCd ((z.lab.1,z.lab.2.1,z.lab.2.2.1,z.lab.2.2.2.1,up,z.lab.2.2.2.2.1,())::Ar TCd.den++A9 (drop 0 z.kids) (0 :
 Nat) 1)]))):_):=by kernel_rfl
 rw [e];clear e;have hck:=AF z;have hlen:=AK z.kids;rw [show drop 0 z.kids=z.kids from rfl,Cx];rw [Ag (dcT (by refine ⟨by trivial,by omega,by omega,by trivial,by omega,by omega,by omega⟩))];simp [AH]
theorem MY : ∀ n,(∀ m,m<n->Ab prog 31 (Ent.own (D3 m)).F)->Ab prog 31 (Ent.own (D3 n)).F
 | 0,_=>AN fun vs bs=>by
  unfold Ent.F D3;dsimp only;split
  ·rename_i z m up x o;have:decide (m=o.length/\o.length+Af z<=2000000/\Af z<=0)=false:=dcF (by have:=Cf z; omega);rw [this]; rfl
  ·rfl
 | n+1,ih=>by
  refine fcN (kc func31 (ih n (lt_succ_self n)) KnowsL.nil).knows (Λ:=(Aa [(4,DL n)])) func31 fun vs bs r hq=>?_
  unfold Ent.F D3 at hq;dsimp only at hq;split at hq
  ·rename_i z m up nl o;obtain ⟨hc,hx⟩:=Ae hq;exact ⟨Od n,(MX n z m up nl o (of_decide_eq_true hc)).trans hx⟩
  ·cases hq
theorem RP:Ab prog 31 (Ent.own Fc).F:=by
 refine Bl (F:=fun n=>(Ent.own (D3 n)).F) MY fun vs bs r h=>?_
 unfold Ent.F Fc at h;dsimp only at h;split at h
 ·rename_i z m up nl o;obtain ⟨hc,hx⟩:=Ae h;refine ⟨Af z,?_⟩;show (Br.need (decide (m=o.length/\o.length+Af z<=2000000/\Af z<=Af z)) (.leaf (.ref 1 0 (o++Al z up o.length).length,[none,R0 TCd (o++Al z up o.length)]))).run=some r;obtain ⟨h1,h2⟩:=of_decide_eq_true hc;have:decide (m=o.length/\o.length+Af z<=2000000/\Af z<=Af z)=true:=dcT ⟨h1,h2,Nat.le_refl _⟩;rw [this];exact hx
 ·cases h
theorem QO:Ab prog 31 (Ent.rd1 IU).F:=by
 refine fcN (kc func31 RP KnowsL.nil).knows (Λ:=(Aa [(4,CO)])) func31 fun vs bs r hq=>?_
 unfold Ent.F IU at hq;dsimp only at hq;split at hq
 ·rename_i z up;obtain ⟨hc,hx⟩:=Ae hq;exact ⟨MZ,(L1 z up (of_decide_eq_true hc)).trans hx⟩
 ·cases hq
def Jc:Gm
 | [.tp LCd z 0],[]=>.need (decide (Af z<=1000000/\AX z=true)) (.br (AZ z) (.leaf (.tup [.agg [.ref 0 0 (Al z (-1) 0).length],.b true],[R0 TCd (Al z (-1) 0)])) (.leaf (.tup [.agg [.ref 0 0 0],.b false],[R0 TCd []])))
 | _,_=>.no
theorem JX (z:Rose Lab):Dq prog (Aa [(28,.rd1 HB),(31,.rd1 IU)]) (Aa []) f14 [.tp LCd z 0] [] =
 ((ifT (decide (Af z<=1000000/\AX z=true)) (ifB (!AZ z) (some (V.tup [V.agg [V.ref 0 0 0],V.b false],[R0 TCd (Ar TCd.den)]))
 (ifT (decide (Af z<=2000000)) (some (V.tup [V.agg [V.ref 0 0 (Al z (-1:Int) 0).length],V.b true],[R0 TCd (Al z (-1 :
 Int) 0)]))))):_):=by kernel_rfl
theorem Qb:Ab prog 14 (Ent.rd1 Jc).F:=by
 refine fcN (kc func28 QK (kc func31 QO KnowsL.nil)).knows (Λ:=Aa []) func14 fun vs bs r hq=>?_
 unfold Ent.F Jc at hq;dsimp only at hq;split at hq
 ·rename_i z;obtain ⟨hc,hx⟩:=Ae hq;have h1:=of_decide_eq_true hc;refine ⟨Aq _,Eq.trans ?_ hx⟩;rw [JX,hc,Eo,Ag (dcT (show Af z<=2000000 by omega))];cases AZ z<;>rfl
 ·cases hq
def D4 (n:Nat):Gm
 | [.agg (Lt y0 y1 y2 y3 y4 ys),.j up,.ref 0 0 m],[.row false _ TCd o]=>.need (decide (m=o.length/\o.length+Ai ys+1<=2000000/\Ai ys+1<=n)) (.leaf (.ref 1 0 (o++Al (.node (y0,y1,y2,y3,y4,()) ys) up o.length).length,[none,R0 TCd (o++Al (.node (y0,y1,y2,y3,y4,()) ys) up o.length)]))
 | _,_=>.no
def Fe:Gm
 | [.agg (Lt y0 y1 y2 y3 y4 ys),.j up,.ref 0 0 m],[.row false _ TCd o]=>.need (decide (m=o.length/\o.length+Ai ys+1<=2000000)) (.leaf (.ref 1 0 (o++Al (.node (y0,y1,y2,y3,y4,()) ys) up o.length).length,[none,R0 TCd (o++Al (.node (y0,y1,y2,y3,y4,()) ys) up o.length)]))
 | _,_=>.no
def DM (n:Nat):LoopEnt:=⟨40,[2,7,28,29,30],[2],[],fun
 | ([.ref 1 0 m,.j s,.sl (.rose LCd) ks,.j k,.j i],[none,R0 TCd o])=>.need (decide (m=o.length/\0<=i/\i.toNat<=ks.length/\k=ks.length/\0<=s/\o.length+Ai (ks.drop i.toNat)<=2000000/\Ai ks<=n/\Ai ks<=2000000)) (.leaf (.exit 0,([.ref 1 0 (o++A9 (ks.drop i.toNat) s.toNat o.length).length],[none,R0 TCd (o++A9 (ks.drop i.toNat) s.toNat o.length)])))
 | _=>.no⟩
def IW:Gm
 | [.agg (Lt y0 y1 y2 y3 y4 ys),.j up,.nl],[]=>.need (decide (Ai ys+1<=2000000)) (.leaf (.ref 0 0 (Al (.node (y0,y1,y2,y3,y4,()) ys) up 0).length,[R0 TCd (Al (.node (y0,y1,y2,y3,y4,()) ys) up 0)]))
 | _,_=>.no
def CP:LoopEnt:=⟨40,[2,7,28,29,30],[2],[],fun
 | ([.ref 0 0 m,.j s,.sl (.rose LCd) ks,.j k,.j i],[R0 TCd o])=>.need (decide (m=o.length/\0<=i/\i.toNat<=ks.length/\k=ks.length/\0<=s/\o.length+Ai (ks.drop i.toNat)<=2000000/\Ai ks<=2000000)) (.leaf (.exit 0,([.ref 0 0 (o++A9 (ks.drop i.toNat) s.toNat o.length).length],[R0 TCd (o++A9 (ks.drop i.toNat) s.toNat o.length)])))
 | _=>.no⟩
def Iy:Gm
 | [.agg (Lt y0 y1 y2 y3 y4 ys)],[]=>.need (decide (Ai ys+1<=2000000)&&nmL (Al (.node (y0,y1,y2,y3,y4,()) ys) (-1) 0)) (.br (As (Al (.node (y0,y1,y2,y3,y4,()) ys) (-1) 0)) (.leaf (.tup [.agg [.ref 0 0 (Al (.node (y0,y1,y2,y3,y4,()) ys) (-1) 0).length],.b true],[R0 TCd (Al (.node (y0,y1,y2,y3,y4,()) ys) (-1) 0)])) (.leaf (.tup [.agg [.ref 0 0 0],.b false],[R0 TCd []])))
 | _,_=>.no
def HR (f:Cur->(List Ty)×Cur):Gm
 | [.ptr 0 0],[.box [.sl (.int .u8) l,.j a,.i .u64 s]]=>.need (decide ((Cur.mk l a s).good 80000000)) (.leaf (.agg [.ref 1 0 (f  (Cur.mk l a s)).1.length],[some (cB (f  (Cur.mk l a s)).2),R0 TCd (f  (Cur.mk l a s)).1]))
 | _,_=>.no
theorem G3 (n m:Nat) (s:Int) (ks:RL) (k i:Int) (o:List Ty):AD prog (Aa [(39,.own (D4 n))]) (Aa [(4,DM n)]) 1 (body f39 0) (DM n) ([.ref 1 0 m,.j s,.sl (.rose LCd) ks,.j k,.j i],[none,R0 TCd o]) =
 ((ifB (decide (i<k)) (ifT (decide (0<=i)&&decide (i<(↑ks.length:Int))) (Am ks[i.toNat]? fun z=>ifT (decide (m=o.length/\o.length+Ai (Rose.kids z)+(1
 : Nat)<=2000000/\Ai (Rose.kids z)+1<=n)) (some (Ex.normal,[V.ref 1 0 (o++Al (Rose.node ((Rose.lab z).1,(Rose.lab z).2.1,(Rose.lab
 z).2.2.1,(Rose.lab z).2.2.2.1,(Rose.lab z).2.2.2.2.1,()) (Rose.kids z)) s o.length).length,V.j s,V.sl LCd.rose ks,V.j k,V.i .i64
 (i64.wrap (i+1))],[none,R0 TCd (o++Al (Rose.node ((Rose.lab z).1,(Rose.lab z).2.1,(Rose.lab z).2.2.1,(Rose.lab
 z).2.2.2.1,(Rose.lab z).2.2.2.2.1,()) (Rose.kids z)) s o.length)])))) (some (Ex.exit 0,[V.ref 1 0 m],[none,R0 TCd o]))):_):=by kernel_rfl
theorem L2 (n:Nat) (y0:Int) (y1:By) (y2:Int) (y3:Bool) (y4:Int) (ys:RL) (m:Nat) (up:Int) (nl:Option Bool) (o:List Ty):Dq prog (Aa [(39,.own (D4 n))]) (Aa [(4,DM n)]) f39 [.agg (Lt y0 y1 y2 y3 y4 ys),.j up,.ref 0 0 m] [.row false nl TCd o] =
 ((ifT (decide ((m+1)*56<=140737488355328)&&decide (m+1<=maxI)) (ifT (decide (m+1=(take m (drop 0 o)
 ++ (y0,y1,y2,y3,up,y4,())::Ar TCd.den).length/\(0:Int)<=(0:Int)/\0<=ys.length/\(↑ys.length:Int)=(↑ys.length:Int)/\0<=(↑m:Int)/\
 (take m (drop 0 o)++(y0,y1,y2,y3,up,y4,())::Ar TCd.den).length+Ai (drop 0 ys)<=2000000/\Ai ys<=n/\Ai ys<=
 2000000)) (some (V.ref 1 0 (take m (drop 0 o)++(y0,y1,y2,y3,up,y4,())::Ar TCd.den++A9 (drop 0 ys) (↑m :
 Int).toNat (take m (drop 0 o)++(y0,y1,y2,y3,up,y4,())::Ar TCd.den).length).length,[none,R0 TCd (take m
 (drop 0 o)++(y0,y1,y2,y3,up,y4,())::Ar TCd.den++A9 (drop 0 ys) (↑m:Int).toNat (take m (drop 0 o)++(y0,
 y1,y2,y3,up,y4,())::Ar TCd.den).length)])))):_):=by kernel_rfl
theorem He (n s:Nat) (ks:RL) (h1:Ai ks<=n) (h2:Ai ks<=2000000) : ∀ (j i:Nat) (o:List Ty),i+j=ks.length->o.length+Ai (ks.drop i)<=2000000->
  Runs prog (Aa [(39,.own (D4 n))]) (Aa [(4,DM n)]) 1 (body f39 0) (DM n) ([.ref 1 0 o.length,.j (s:Int),.sl (.rose LCd) ks,.j (ks.length:Int),.j (i:Int)],[none,R0 TCd o]) (.exit 0) ([.ref 1 0 (o++A9 (ks.drop i) s o.length).length],[none,R0 TCd (o++A9 (ks.drop i) s o.length)])
 | 0,i,o,hi,ho=>by
  have hr:=G3 n o.length s ks ks.length i o;rw [Ah (dcF (by omega))] at hr;rw [drop_eq_nil_of_le (by omega),A9,append_nil];exact stp hr
 | j+1,i,o,hi,ho=>by
  have hl:i<ks.length:=by omega
  have hM:=mxI;have hlen:=AK ks;have hmem:=AU (getElem_mem hl);have hck:=AF ks[i];have hr:=G3 n o.length s ks ks.length i o;rw [drop_eq_getElem_cons hl,Ai] at ho;rw [Aj (dcT (by omega)),T2 (by omega),ntN,gtE hl,Ao,AE (n:=i) (by omega),Bo,Ag (dcT ⟨rfl,by omega,by omega⟩)] at hr;rw [drop_eq_getElem_cons hl,A9];have hk:=B7 ks[i] s o.length;have ih:=He n s ks h1 h2 j (i+1) (o++Al ks[i] s o.length) (by omega) (by rw [length_append]; omega);rw [length_append,append_assoc] at ih;rw [length_append] at hr;exact sts hr ih
theorem Og (n:Nat):Az prog (Aa [(39,.own (D4 n))]) (Aa [(4,DM n)]) 1 (f39.body.getD .skip):=by
 refine Aw (a:=body f39 0) (by kernel_rfl) fun d ex d' h=>?_
 unfold DM at h;dsimp only at h;split at h
 ·rename_i m s ks k i o;obtain ⟨hc,hx⟩:=Ae h;clear h;obtain ⟨rfl,h0,h1,rfl,h3,h4,h5,h6⟩:=of_decide_eq_true hc;obtain ⟨i,rfl⟩:=eq_ofNat_of_zero_le h0;obtain ⟨s,rfl⟩:=eq_ofNat_of_zero_le h3;simp only [ntN] at h1 h4 hx;obtain ⟨rfl,rfl⟩:=lfP hx;exact He n s ks h5 h6 (ks.length-i) i o (by omega) h4
 ·cases h
theorem Iw (y0:Int) (y1:By) (y2:Int) (y3:Bool) (y4:Int) (ys:RL) (up:Int) (s:Nat):Al (.node (y0,y1,y2,y3,y4,()) ys) up s=(y0,y1,y2,y3,up,y4,())::A9 ys s (s+1):=by rw [Al]
theorem Na (n:Nat) (y0:Int) (y1:By) (y2:Int) (y3:Bool) (y4:Int) (ys:RL) (m:Nat) (up:Int) (nl:Option Bool) (o:List Ty) (hc:m=o.length/\o.length+Ai ys+1<=2000000/\Ai ys+1<=n+1):Dq prog (Aa [(39,.own (D4 n))]) (Aa [(4,DM n)]) f39 [.agg (Lt y0 y1 y2 y3 y4 ys),.j up,.ref 0 0 m] [.row false nl TCd o]=some (.ref 1 0 (o++Al (.node (y0,y1,y2,y3,y4,()) ys) up o.length).length,[none,R0 TCd (o++Al (.node (y0,y1,y2,y3,y4,()) ys) up o.length)]):=by
 rw [L2];obtain ⟨rfl,h2,h3⟩:=hc;have hM:=mxI;have hlen:=AK ys;rw [show drop 0 o=o from rfl,show drop 0 ys=ys from rfl,take_length,ntN,Iw];rw [T2 (by omega)];rw [Ag (dcT ⟨by simp [AH],by omega,by omega,rfl,by omega,by simp [AH]; omega,by omega,by omega⟩)];simp [AH]
theorem Nb : ∀ n,(∀ m,m<n->Ab prog 39 (Ent.own (D4 m)).F)->Ab prog 39 (Ent.own (D4 n)).F
 | 0,_=>AN fun vs bs=>by
  unfold Ent.F D4;dsimp only;split
  ·rename_i y0 y1 y2 y3 y4 ys up m x o;have:decide (m=o.length/\o.length+Ai ys+1<=2000000/\Ai ys+1<=0)=false:=dcF (by omega);rw [this]; rfl
  ·rfl
 | n+1,ih=>by
  refine fcN (kc func39 (ih n (lt_succ_self n)) KnowsL.nil).knows (Λ:=(Aa [(4,DM n)])) func39 fun vs bs r hq=>?_
  unfold Ent.F D4 at hq;dsimp only at hq;split at hq
  ·rename_i y0 y1 y2 y3 y4 ys up m nl o;obtain ⟨hc,hx⟩:=Ae hq;exact ⟨Og n,(Na n y0 y1 y2 y3 y4 ys m up nl o (of_decide_eq_true hc)).trans hx⟩
  ·cases hq
theorem QP:Ab prog 39 (Ent.own Fe).F:=by
 refine Bl (F:=fun n=>(Ent.own (D4 n)).F) Nb fun vs bs r h=>?_
 unfold Ent.F Fe at h;dsimp only at h;split at h
 ·rename_i y0 y1 y2 y3 y4 ys up m nl o;obtain ⟨hc,hx⟩:=Ae h;refine ⟨Ai ys+1,?_⟩;show (Br.need (decide (m=o.length/\o.length+Ai ys+1<=2000000/\Ai ys+1<=Ai ys+1)) (.leaf (.ref 1 0 (o++Al (.node (y0,y1,y2,y3,y4,()) ys) up o.length).length,[none,R0 TCd (o++Al (.node (y0,y1,y2,y3,y4,()) ys) up o.length)]))).run=some r;obtain ⟨h1,h2⟩:=of_decide_eq_true hc;have:decide (m=o.length/\o.length+Ai ys+1<=2000000/\Ai ys+1<=Ai ys+1)=true:=dcT ⟨h1,h2,Nat.le_refl _⟩;rw [this];exact hx
 ·cases h
theorem F4 (m:Nat) (s:Int) (ks:RL) (k i:Int) (o:List Ty):AD prog (Aa [(39,.own Fe)]) (Aa [(4,CP)]) 0 (body f39 0) CP ([.ref 0 0 m,.j s,.sl (.rose LCd) ks,.j k,.j i],[R0 TCd o]) =
 ((ifB (decide (i<k)) (ifT (decide (0<=i)&&decide (i<(↑ks.length:Int))) (Am ks[i.toNat]? fun z=>ifT (decide (m=o.length/\o.length+Ai (Rose.kids z)+(1
 : Nat)<=2000000)) (some (Ex.normal,[V.ref 0 0 (o++Al (Rose.node ((Rose.lab z).1,(Rose.lab z).2.1,(Rose.lab z).2.2.1,(Rose.lab
 z).2.2.2.1,(Rose.lab z).2.2.2.2.1,()) (Rose.kids z)) s o.length).length,V.j s,V.sl LCd.rose ks,V.j k,V.j (i64.wrap (i +
 1))],[R0 TCd (o++Al (Rose.node ((Rose.lab z).1,(Rose.lab z).2.1,(Rose.lab z).2.2.1,(Rose.lab z).2.2.2.1,(Rose.lab
 z).2.2.2.2.1,()) (Rose.kids z)) s o.length)])))) (some (Ex.exit 0,[V.ref 0 0 m],[R0 TCd o]))):_):=by kernel_rfl
theorem JP (y0:Int) (y1:By) (y2:Int) (y3:Bool) (y4:Int) (ys:RL) (up:Int):Dq prog (Aa [(39,.own Fe)]) (Aa [(4,CP)]) f39 [.agg (Lt y0 y1 y2 y3 y4 ys),.j up,.nl] [] =
 ((ifT (decide (1=1/\(0:Int)<=(0:Int)/\0<=ys.length/\(↑ys.length:Int)=(↑ys.length:Int)/\(0:Int)<=(0:Int)/\1+Ai
 (drop 0 ys)<=2000000/\Ai ys<=2000000)) (some (V.ref 0 0 ((y0,y1,y2,y3,up,y4,())::Ar TCd.den++A9 (drop 0 ys)
 0 1).length,[R0 TCd ((y0,y1,y2,y3,up,y4,())::Ar TCd.den++A9 (drop 0 ys) 0 1)]))):_):=by kernel_rfl
theorem G4 (s:Nat) (ks:RL) (h2:Ai ks<=2000000) : ∀ (j i:Nat) (o:List Ty),i+j=ks.length->o.length+Ai (ks.drop i)<=2000000->
  Runs prog (Aa [(39,.own Fe)]) (Aa [(4,CP)]) 0 (body f39 0) CP ([.ref 0 0 o.length,.j (s:Int),.sl (.rose LCd) ks,.j (ks.length:Int),.j (i:Int)],[R0 TCd o]) (.exit 0) ([.ref 0 0 (o++A9 (ks.drop i) s o.length).length],[R0 TCd (o++A9 (ks.drop i) s o.length)])
 | 0,i,o,hi,ho=>by
  have hr:=F4 o.length s ks ks.length i o;rw [Ah (dcF (by omega))] at hr;rw [drop_eq_nil_of_le (by omega),A9,append_nil];exact stp hr
 | j+1,i,o,hi,ho=>by
  have hl:i<ks.length:=by omega
  have hM:=mxI;have hlen:=AK ks;have hmem:=AU (getElem_mem hl);have hck:=AF ks[i];have hr:=F4 o.length s ks ks.length i o;rw [drop_eq_getElem_cons hl,Ai] at ho;rw [Aj (dcT (by omega)),T2 (by omega),ntN,gtE hl,Ao,AE (n:=i) (by omega),Bo,Ag (dcT ⟨rfl,by omega⟩)] at hr;rw [drop_eq_getElem_cons hl,A9];have hk:=B7 ks[i] s o.length;have ih:=G4 s ks h2 j (i+1) (o++Al ks[i] s o.length) (by omega) (by rw [length_append]; omega);rw [length_append,append_assoc] at ih;rw [length_append] at hr;exact sts hr ih
theorem Nc:Az prog (Aa [(39,.own Fe)]) (Aa [(4,CP)]) 0 (f39.body.getD .skip):=by
 refine Aw (a:=body f39 0) (by kernel_rfl) fun d ex d' h=>?_
 unfold CP at h;dsimp only at h;split at h
 ·rename_i m s ks k i o;obtain ⟨hc,hx⟩:=Ae h;clear h;obtain ⟨rfl,h0,h1,rfl,h3,h4,h6⟩:=of_decide_eq_true hc;obtain ⟨i,rfl⟩:=eq_ofNat_of_zero_le h0;obtain ⟨s,rfl⟩:=eq_ofNat_of_zero_le h3;simp only [ntN] at h1 h4 hx;obtain ⟨rfl,rfl⟩:=lfP hx;exact G4 s ks h6 (ks.length-i) i o (by omega) h4
 ·cases h
theorem L3 (y0:Int) (y1:By) (y2:Int) (y3:Bool) (y4:Int) (ys:RL) (up:Int) (hc:Ai ys+1<=2000000):Dq prog (Aa [(39,.own Fe)]) (Aa [(4,CP)]) f39 [.agg (Lt y0 y1 y2 y3 y4 ys),.j up,.nl] []=some (.ref 0 0 (Al (.node (y0,y1,y2,y3,y4,()) ys) up 0).length,[R0 TCd (Al (.node (y0,y1,y2,y3,y4,()) ys) up 0)]):=by
 rw [JP];have hM:=mxI;have hlen:=AK ys;rw [show drop 0 ys=ys from rfl,Iw];rw [Ag (dcT (by refine ⟨by trivial,by omega,by omega,by trivial,by omega,by omega,by omega⟩))];simp [AH]
theorem QQ:Ab prog 39 (Ent.own IW).F:=by
 refine fcN (kc func39 QP KnowsL.nil).knows (Λ:=(Aa [(4,CP)])) func39 fun vs bs r hq=>?_
 unfold Ent.F IW at hq;dsimp only at hq;split at hq
 ·rename_i y0 y1 y2 y3 y4 ys up;obtain ⟨hc,hx⟩:=Ae hq;exact ⟨Nc,(L3 y0 y1 y2 y3 y4 ys up (of_decide_eq_true hc)).trans hx⟩
 ·cases hq
theorem Nf (y0:Int) (y1:By) (y2:Int) (y3:Bool) (y4:Int) (ys:RL):BX prog (Aa [(39,.own IW),(15,.rd1 HH)]) (Aa []) f18 [.agg (Lt y0 y1 y2 y3 y4 ys)] [] =
 ((ifT (decide (Ai ys+1<=2000000)) (ifT (decide ((take (Al (Rose.node (y0,y1,y2,y3,y4,()) ys) (-1:Int) 0).length (drop (0 :
 Nat) (Al (Rose.node (y0,y1,y2,y3,y4,()) ys) (-1:Int) 0))).length<=4000000000)&&nmL (take (Al (Rose.node (y0,y1,y2,y3,y4,())
 ys) (-1:Int) 0).length (drop 0 (Al (Rose.node (y0,y1,y2,y3,y4,()) ys) (-1:Int) 0)))) (ifB (!As (take (Al (Rose.node
 (y0,y1,y2,y3,y4,()) ys) (-1:Int) 0).length (drop 0 (Al (Rose.node (y0,y1,y2,y3,y4,()) ys) (-1:Int) 0)))) (some (V.tup
 [V.agg [V.ref 0 0 0],V.b false],[R0 TCd (Ar TCd.den)])) (some (V.tup [V.agg [V.ref 0 0 (Al (Rose.node (y0,y1,y2,y3,y4,()) ys) (-1 :
 Int) 0).length],V.b true],[R0 TCd (Al (Rose.node (y0,y1,y2,y3,y4,()) ys) (-1:Int) 0)]))))):_):=by kernel_rfl
mutual
theorem Db : ∀ (z:Rose Lab) (up:Int) (s:Nat),AX z=true->nmL (Al z up s)=true
 | .node x ks,up,s,h=>by
  rw [AX,anE] at h;have:=I6 ks s (s+1) h.2;unfold nmL at this ⊢;rw [Al,List.all_cons,this,h.1]; rfl
theorem I6 : ∀ (ks:RL) (s p:Nat),CR ks=true->nmL (A9 ks s p)=true
 | [],_,_,_=>by rw [A9]; rfl
 | z::ks,s,p,h=>by
  rw [CR,anE] at h;have h1:=Db z s p h.1;have h2:=I6 ks s (p+(Al z s p).length) h.2;unfold nmL at h1 h2 ⊢;rw [A9,List.all_append,h1,h2]; rfl
end
theorem QR:Ab prog 18 (Ent.rd1 Iy).F:=by
 refine fcC (kc func39 QQ (kc func15 Mz KnowsL.nil)).knows (Λ:=Aa []) func18 fun vs bs r hq=>?_
 unfold Ent.F Iy at hq;dsimp only at hq;split at hq
 ·rename_i y0 y1 y2 y3 y4 ys;obtain ⟨hc,hx⟩:=Ae hq;rw [anE] at hc;obtain ⟨hc,hn⟩:=hc;have hc:=of_decide_eq_true hc;refine ⟨Aq _,Eq.trans ?_ hx⟩;have hl:=B7 (.node (y0,y1,y2,y3,y4,()) ys) (-1) 0;rw [AF,show (Rose.node (y0,y1,y2,y3,y4,()) ys:Rose Lab).kids=ys from rfl] at hl;rw [Nf,Ag (dcT hc),drop_zero,take_length,Ag (by rw [hn,dcT (by omega)]; rfl)];cases As (Al (.node (y0,y1,y2,y3,y4,()) ys) (-1) 0)<;>rfl
 ·cases hq
theorem NI (g:Int->Cur->Rose Lab×Cur)  (l:List Int) (a s:Int):BX prog (Aa [(40,.own BD),(43,.own (Pz g)),(18,.rd1 Iy)]) (Aa []) f25 [.ptr 0 0] [.box [.sl (.int .u8) l,.j a,.i .u64 s]] =
 ((ifT (decide ((Cur.mk l a s).good (900000000:Int))) (ifT (decide ((0:Int)<=(Cur.mk l a s).pickV (4:Int)/\(Cur.mk l a s).pickV (4:Int)<=(3:Int)/\((Cur.mk l a
 s).pickC (4:Int)).good (83000000:Int))) (ifT (decide (Ai (take (g ((Cur.mk l a s).pickV (4:Int)) ((Cur.mk l a s).pickC (4:Int))).1.kids.length (drop
 0 (g ((Cur.mk l a s).pickV (4:Int)) ((Cur.mk l a s).pickC (4:Int))).1.kids))+1<=2000000)&&nmL (Al (Rose.node ((g ((Cur.mk l a
 s).pickV (4:Int)) ((Cur.mk l a s).pickC (4:Int))).1.lab.1,(g ((Cur.mk l a s).pickV (4:Int)) ((Cur.mk l a s).pickC (4:Int))).1.lab.2.1,(g ((Cur.mk l a
 s).pickV (4:Int)) ((Cur.mk l a s).pickC (4:Int))).1.lab.2.2.1,(g ((Cur.mk l a s).pickV (4:Int)) ((Cur.mk l a s).pickC (4:Int))).1.lab.2.2.2.1,
 (g ((Cur.mk l a s).pickV (4:Int)) ((Cur.mk l a s).pickC (4:Int))).1.lab.2.2.2.2.1,()) (take (g ((Cur.mk l a s).pickV (4:Int)) ((Cur.mk l a
 s).pickC (4:Int))).1.kids.length (drop 0 (g ((Cur.mk l a s).pickV (4:Int)) ((Cur.mk l a s).pickC (4:Int))).1.kids))) (-1:Int) 0)) (ifB
 (As (Al (Rose.node ((g ((Cur.mk l a s).pickV (4:Int)) ((Cur.mk l a s).pickC (4:Int))).1.lab.1,(g ((Cur.mk l a s).pickV (4:Int)) ((Cur.mk l a s).pickC (4
 : Int))).1.lab.2.1,(g ((Cur.mk l a s).pickV (4:Int)) ((Cur.mk l a s).pickC (4:Int))).1.lab.2.2.1,(g ((Cur.mk l a s).pickV (4:Int)) ((Cur.mk l a
 s).pickC (4:Int))).1.lab.2.2.2.1,(g ((Cur.mk l a s).pickV (4:Int)) ((Cur.mk l a s).pickC (4:Int))).1.lab.2.2.2.2.1,()) (take (g
 ((Cur.mk l a s).pickV (4:Int)) ((Cur.mk l a s).pickC (4:Int))).1.kids.length (drop 0 (g ((Cur.mk l a s).pickV (4:Int)) ((Cur.mk l a s).pickC (4 :
 Int))).1.kids))) (-1:Int) 0)) (some (V.agg [V.ref 1 0 (Al (Rose.node ((g ((Cur.mk l a s).pickV (4:Int)) ((Cur.mk l a s).pickC (4:Int))).1.lab.1,
 (g ((Cur.mk l a s).pickV (4:Int)) ((Cur.mk l a s).pickC (4:Int))).1.lab.2.1,(g ((Cur.mk l a s).pickV (4:Int)) ((Cur.mk l a s).pickC (4 :
 Int))).1.lab.2.2.1,(g ((Cur.mk l a s).pickV (4:Int)) ((Cur.mk l a s).pickC (4:Int))).1.lab.2.2.2.1,(g ((Cur.mk l a s).pickV (4:Int)) ((Cur.mk l
 a s).pickC (4:Int))).1.lab.2.2.2.2.1,()) (take (g ((Cur.mk l a s).pickV (4:Int)) ((Cur.mk l a s).pickC (4:Int))).1.kids.length (drop (0 :
 Nat) (g ((Cur.mk l a s).pickV (4:Int)) ((Cur.mk l a s).pickC (4:Int))).1.kids))) (-1:Int) 0).length],[some (Blk.box [V.sl (Cd.int .u8) (g ((Cur.mk l a
 s).pickV (4:Int)) ((Cur.mk l a s).pickC (4:Int))).2.l,V.j (g ((Cur.mk l a s).pickV (4:Int)) ((Cur.mk l a s).pickC (4:Int))).2.a,V.i .u64 (g ((Cur.mk l
 a s).pickV (4:Int)) ((Cur.mk l a s).pickC (4:Int))).2.s]),R0 TCd (Al (Rose.node ((g ((Cur.mk l a s).pickV (4:Int)) ((Cur.mk l a
 s).pickC (4:Int))).1.lab.1,(g ((Cur.mk l a s).pickV (4:Int)) ((Cur.mk l a s).pickC (4:Int))).1.lab.2.1,(g ((Cur.mk l a s).pickV (4:Int)) ((Cur.mk l a
 s).pickC (4:Int))).1.lab.2.2.1,(g ((Cur.mk l a s).pickV (4:Int)) ((Cur.mk l a s).pickC (4:Int))).1.lab.2.2.2.1,(g ((Cur.mk l a s).pickV (4 :
 Int)) ((Cur.mk l a s).pickC (4:Int))).1.lab.2.2.2.2.1,()) (take (g ((Cur.mk l a s).pickV (4:Int)) ((Cur.mk l a s).pickC (4:Int))).1.kids.length
 (drop 0 (g ((Cur.mk l a s).pickV (4:Int)) ((Cur.mk l a s).pickC (4:Int))).1.kids))) (-1:Int) 0)])) (some (V.agg [V.ref 1 0 1],[some
 (Blk.box [V.sl (Cd.int .u8) (g ((Cur.mk l a s).pickV (4:Int)) ((Cur.mk l a s).pickC (4:Int))).2.l,V.j (g ((Cur.mk l a s).pickV (4:Int)) ((Cur.mk l a
 s).pickC (4:Int))).2.a,V.i .u64 (g ((Cur.mk l a s).pickV (4:Int)) ((Cur.mk l a s).pickC (4:Int))).2.s]),R0 TCd (((5:Int),Ar UInt8,
 (0:Int),false,(-1:Int),(0:Int),())::Ar TCd.den)])))))):_):=by kernel_rfl
theorem Qs  (l:List Int) (a s:Int) (hc:(Cur.mk l a s).good 80000000):Ex1 (BX prog (Aa [(40,.own BD),(43,.own (Pz GF)),(18,.rd1 Iy)]) (Aa []) f25 [.ptr 0 0] [.box [.sl (.int .u8) l,.j a,.i .u64 s]]) (fun y:(List Ty)×Cur=>((.agg [.ref 1 0 y.1.length],[some (cB y.2),R0 TCd y.1]):V×List (Option Blk))) (fun y=>(∀ n,(Cur.mk l a s).good n->n<=80000000->y.2.good (n+6250))/\As y.1=true/\nmL y.1=true/\1<=y.1.length/\y.1.length<=30):=by
 refine Ex1.of (NI GF  l a s) ?_;have r4:=Cur.pickV_range (k:=4) hc (by omega);have g1:(Cur.pickC (Cur.mk l a s) 4).good 83000000:=Cur.pk (Cur.good_mono hc (by omega));obtain ⟨p1,p2⟩:=Py _ _ _ r4.1 (by omega) g1 (by omega);have p3 : ∀ n,(Cur.mk l a s).good n->n<=80000000->(GF ((Cur.mk l a s).pickV 4) ((Cur.mk l a s).pickC 4)).2.good (n+6250):=fun n hn hm=>Cur.good_mono (Py _ _ _ r4.1 (by omega) (Cur.pickC_good hn) (by omega)).1 (by omega)
 have hnm:=Db _ (-1) 0 p2.2;have hcn:=p2.1;rw [AF] at hcn;simp only [D2,AH,drop_zero,take_length,Bo];refine Ex1.T (dcT (Cur.good_mono hc (by omega))) (Ex1.T (dcT ⟨r4.1,by omega,g1⟩) (Ex1.T (by rw [hnm,dcT (by omega)]; rfl) (Ex1.B (fun h=>?_) (fun h=>?_))))
 ·have hk:1<=(Al (GF ((Cur.mk l a s).pickV 4) ((Cur.mk l a s).pickC 4)).1 (-1) 0).length/\(Al (GF ((Cur.mk l a s).pickV 4) ((Cur.mk l a s).pickC 4)).1 (-1) 0).length<=30:=by
   have h:=h;unfold As at h;simp only [anE,dcE] at h;exact h.1.1.1
  exact Ex1.P (_,_) rfl rfl ⟨p3,h,hnm,hk⟩
 ·exact Ex1.P ([(5,[],0,false,-1,0,())],_) rfl rfl ⟨p3,by show As [(5,[],0,false,-1,0,())]=true; decide +kernel,by show nmL [(5,[],0,false,-1,0,())]=true; decide +kernel,by simp,by simp⟩

theorem HQ : ∃ f:Cur->(List Ty)×Cur,Ab prog 25 (Ent.own (HR f)).F/\∀  (c:Cur),(c.good 80000000)->(∀ n,c.good n->n<=80000000->(f  c).2.good (n+6250))/\As (f  c).1=true/\nmL (f  c).1=true/\1<=(f  c).1.length/\(f  c).1.length<=30:=by
 have ex:=fun  (c:Cur) (hc:c.good 80000000)=>Qs  c.l c.a c.s hc
 classical
 refine ⟨fun  c=>if h:c.good 80000000 then (ex  c h).choose else ([],c),?_,fun  c hc=>?_⟩
 rotate_left
 ·simp only [dif_pos hc];exact (ex  c hc).choose_spec.2
 refine fcC (kc func40 HU (kc func43 Qv (kc func18 QR KnowsL.nil))).knows (Λ:=(Aa [])) func25 fun vs bs r hq=>?_
 unfold Ent.F HR at hq;dsimp only at hq;split at hq
 ·rename_i  l a s;obtain ⟨hc,hx⟩:=Ae hq;have hc:=of_decide_eq_true hc;refine ⟨Aq _,((ex  (Cur.mk l a s) hc).choose_spec.1).trans ?_⟩;rw [dif_pos hc] at hx;exact hx
 ·cases hq
noncomputable def CK:Cur->(List Ty)×Cur:=HQ.choose
theorem KV:Ab prog 25 (Ent.own (HR CK)).F:=HQ.choose_spec.1
theorem J7 : ∀  (c:Cur),(c.good 80000000)->(∀ n,c.good n->n<=80000000->(CK  c).2.good (n+6250))/\As (CK  c).1=true/\nmL (CK  c).1=true/\1<=(CK  c).1.length/\(CK  c).1.length<=30:=HQ.choose_spec.2
def KW (f:Cur->(List Ty)×Cur):Gm
 | [.ptr 0 0],[.box [.sl (.int .u8) l,.j a,.i .u64 s]]=>.need (decide ((Cur.mk l a s).good 70000000)) (.leaf (.agg [.ref 1 0 (f  (Cur.mk l a s)).1.length],[some (cB (f  (Cur.mk l a s)).2),R0 TCd (f  (Cur.mk l a s)).1]))
 | _,_=>.no
theorem Jq {w:List Ty} {i:Nat} {z:Ty} (h:nmL w=true) (hz:z.2.1.length<=maxI):nmL (w.set i z)=true:=by
 unfold nmL at h ⊢;rw [all_eq_true] at h ⊢;intro x hx;rcases List.mem_or_eq_of_mem_set hx with hx | rfl
 ·exact h x hx
 ·exact dcT hz
theorem QF {w:List Ty} {i:Nat} {z:Ty} (h:nmL w=true) (hz:w[i]? = some z):z.2.1.length<=maxI:=by
 unfold nmL at h;exact of_decide_eq_true (all_eq_true.1 h z (List.mem_of_getElem? hz))
theorem Ps {l:List (By)} {i n:Nat} (h:l.all (fun x=>decide (x.length<=n))=true):(l.getD i []).length<=n:=by
 rw [List.getD_eq_getElem?_getD]
 cases e:l[i]? with
 | none=>simp
 | some x=>exact of_decide_eq_true (all_eq_true.1 h x (List.mem_of_getElem? e))
theorem NL (f:Cur->List Ty×Cur)  (l:List Int) (a s:Int):BX prog (Aa [(25,.own (HR f)),(23,.own EY),(40,.own BD),(41,.own GZ),(42,.own Q5)]) (Aa []) f22 [.ptr 0 0] [.box [.sl (.int .u8) l,.j a,.i .u64 s]] =
 ((ifT (decide ((Cur.mk l a s).good (80000000:Int))) (ifT (decide ((f (Cur.mk l a s)).2.good (900000000:Int))) (ifB ((f (Cur.mk l a s)).2.pickV (12:Int)==(0 :
 Int)) (ifT (decide (((f (Cur.mk l a s)).2.pickC (12:Int)).good (900000000:Int))) (ifT (decide ((((f (Cur.mk l a s)).2.pickC (12:Int)).pickC (↑(f (Cur.mk l a
 s)).1.length:Int)).good (900000000:Int))) (ifB ((((f (Cur.mk l a s)).2.pickC (12:Int)).pickC (↑(f (Cur.mk l a s)).1.length:Int)).pickV (5:Int)==(0 :
 Int)) (ifT (decide (((((f (Cur.mk l a s)).2.pickC (12:Int)).pickC (↑(f (Cur.mk l a s)).1.length:Int)).pickC (5:Int)).good (900000000:Int))) (ifT (decide ((0 :
 Int)<=((f (Cur.mk l a s)).2.pickC (12:Int)).pickV (↑(f (Cur.mk l a s)).1.length:Int))&&decide (((f (Cur.mk l a s)).2.pickC (12:Int)).pickV (↑(f (Cur.mk l a
 s)).1.length:Int)<(↑(f (Cur.mk l a s)).1.length:Int))) (Am (f (Cur.mk l a s)).1[0+(((f (Cur.mk l a s)).2.pickC (12:Int)).pickV (↑(f (Cur.mk
 l a s)).1.length:Int)).toNat]? fun z=>some (V.agg [V.ref 1 0 (f (Cur.mk l a s)).1.length],[some (Blk.box [V.sl (Cd.int .u8) (((((f (Cur.mk l a s)).2.pickC (12
 : Int)).pickC (↑(f (Cur.mk l a s)).1.length:Int)).pickC (5:Int)).pickC (7:Int)).l,V.j (((((f (Cur.mk l a s)).2.pickC (12:Int)).pickC (↑(f (Cur.mk l a
 s)).1.length:Int)).pickC (5:Int)).pickC (7:Int)).a,V.i .u64 (((((f (Cur.mk l a s)).2.pickC (12:Int)).pickC (↑(f (Cur.mk l a s)).1.length:Int)).pickC (5 :
 Int)).pickC (7:Int)).s]),R0 TCd ((f (Cur.mk l a s)).1.set (0+(((f (Cur.mk l a s)).2.pickC (12:Int)).pickV (↑(f (Cur.mk l a
 s)).1.length:Int)).toNat) (((((f (Cur.mk l a s)).2.pickC (12:Int)).pickC (↑(f (Cur.mk l a s)).1.length:Int)).pickC (5:Int)).pickV (7:Int),z.2.1,
 z.2.2.1,z.2.2.2.1,z.2.2.2.2.1,z.2.2.2.2.2.1,()))])))) (ifB ((((f (Cur.mk l a s)).2.pickC (12:Int)).pickC (↑(f (Cur.mk l a
 s)).1.length:Int)).pickV (5:Int)==(1:Int)) (ifT (decide (((((f (Cur.mk l a s)).2.pickC (12:Int)).pickC (↑(f (Cur.mk l a s)).1.length:Int)).pickC (5 :
 Int)).good (900000000:Int))) (ifT (decide ((0:Int)<=((f (Cur.mk l a s)).2.pickC (12:Int)).pickV (↑(f (Cur.mk l a s)).1.length:Int))&&decide (((f (Cur.mk l
 a s)).2.pickC (12:Int)).pickV (↑(f (Cur.mk l a s)).1.length:Int)<(↑(f (Cur.mk l a s)).1.length:Int))) (Am (f (Cur.mk l a s)).1[0+(((f
 (Cur.mk l a s)).2.pickC (12:Int)).pickV (↑(f (Cur.mk l a s)).1.length:Int)).toNat]? fun z=>some (V.agg [V.ref 1 0 (f (Cur.mk l a s)).1.length],[some (Blk.box
 [V.sl (Cd.int .u8) (((((f (Cur.mk l a s)).2.pickC (12:Int)).pickC (↑(f (Cur.mk l a s)).1.length:Int)).pickC (5:Int)).pickC (4:Int)).l,V.j (((((f (Cur.mk
 l a s)).2.pickC (12:Int)).pickC (↑(f (Cur.mk l a s)).1.length:Int)).pickC (5:Int)).pickC (4:Int)).a,V.i .u64 (((((f (Cur.mk l a s)).2.pickC (12 :
 Int)).pickC (↑(f (Cur.mk l a s)).1.length:Int)).pickC (5:Int)).pickC (4:Int)).s]),R0 TCd ((f (Cur.mk l a s)).1.set (0+(((f
 (Cur.mk l a s)).2.pickC (12:Int)).pickV (↑(f (Cur.mk l a s)).1.length:Int)).toNat) (z.1,z.2.1,((((f (Cur.mk l a s)).2.pickC (12:Int)).pickC (↑(f
 (Cur.mk l a s)).1.length:Int)).pickC (5:Int)).pickV (4:Int),z.2.2.2.1,z.2.2.2.2.1,z.2.2.2.2.2.1,()))])))) (ifB ((((f (Cur.mk l
 a s)).2.pickC (12:Int)).pickC (↑(f (Cur.mk l a s)).1.length:Int)).pickV (5:Int)==(2:Int)) (ifT (decide (((((f (Cur.mk l a s)).2.pickC (12:Int)).pickC
 (↑(f (Cur.mk l a s)).1.length:Int)).pickC (5:Int)).good (900000000:Int))) (ifT (decide ((0:Int)<=((f (Cur.mk l a s)).2.pickC (12:Int)).pickV (↑(f (Cur.mk l
 a s)).1.length:Int))&&decide (((f (Cur.mk l a s)).2.pickC (12:Int)).pickV (↑(f (Cur.mk l a s)).1.length:Int)<(↑(f (Cur.mk l a s)).1.length:Int)))
 (Am (f (Cur.mk l a s)).1[0+(((f (Cur.mk l a s)).2.pickC (12:Int)).pickV (↑(f (Cur.mk l a s)).1.length:Int)).toNat]? fun z=>some (V.agg [V.ref 1
 0 (f (Cur.mk l a s)).1.length],[some (Blk.box [V.sl (Cd.int .u8) (((((f (Cur.mk l a s)).2.pickC (12:Int)).pickC (↑(f (Cur.mk l a s)).1.length:Int)).pickC (5 :
 Int)).pickC (4:Int)).l,V.j (((((f (Cur.mk l a s)).2.pickC (12:Int)).pickC (↑(f (Cur.mk l a s)).1.length:Int)).pickC (5:Int)).pickC (4:Int)).a,V.i
 .u64 (((((f (Cur.mk l a s)).2.pickC (12:Int)).pickC (↑(f (Cur.mk l a s)).1.length:Int)).pickC (5:Int)).pickC (4:Int)).s]),R0 TCd ((f
 (Cur.mk l a s)).1.set (0+(((f (Cur.mk l a s)).2.pickC (12:Int)).pickV (↑(f (Cur.mk l a s)).1.length:Int)).toNat) (z.1,z.2.1,z.2.2.1,
 z.2.2.2.1,i64.wrap (((((f (Cur.mk l a s)).2.pickC (12:Int)).pickC (↑(f (Cur.mk l a s)).1.length:Int)).pickC (5:Int)).pickV (4:Int)-(1 :
 Int)),z.2.2.2.2.2.1,()))])))) (ifB ((((f (Cur.mk l a s)).2.pickC (12:Int)).pickC (↑(f (Cur.mk l a s)).1.length:Int)).pickV (5:Int)==(3:Int))
 (ifT (decide (((((f (Cur.mk l a s)).2.pickC (12:Int)).pickC (↑(f (Cur.mk l a s)).1.length:Int)).pickC (5:Int)).good (900000000:Int)/\1<=3/\
 3<=3)) (ifT (decide ((0:Int)<=((f (Cur.mk l a s)).2.pickC (12:Int)).pickV (↑(f (Cur.mk l a s)).1.length:Int))&&decide (((f (Cur.mk l a
 s)).2.pickC (12:Int)).pickV (↑(f (Cur.mk l a s)).1.length:Int)<(↑(f (Cur.mk l a s)).1.length:Int))) (Am (f (Cur.mk l a s)).1[0+(((f (Cur.mk
 l a s)).2.pickC (12:Int)).pickV (↑(f (Cur.mk l a s)).1.length:Int)).toNat]? fun z=>some (V.agg [V.ref 1 0 (f (Cur.mk l a s)).1.length],[some (Blk.box [V.sl
 (Cd.int .u8) (((((f (Cur.mk l a s)).2.pickC (12:Int)).pickC (↑(f (Cur.mk l a s)).1.length:Int)).pickC (5:Int)).pickC (↑(3:Nat):Int)).l,V.j (((((f
 (Cur.mk l a s)).2.pickC (12:Int)).pickC (↑(f (Cur.mk l a s)).1.length:Int)).pickC (5:Int)).pickC (↑(3:Nat):Int)).a,V.i .u64 (((((f (Cur.mk l a
 s)).2.pickC (12:Int)).pickC (↑(f (Cur.mk l a s)).1.length:Int)).pickC (5:Int)).pickC (↑(3:Nat):Int)).s]),R0 TCd ((f (Cur.mk l a
 s)).1.set (0+(((f (Cur.mk l a s)).2.pickC (12:Int)).pickV (↑(f (Cur.mk l a s)).1.length:Int)).toNat) (z.1,z.2.1,z.2.2.1,
 z.2.2.2.1,z.2.2.2.2.1,((-1:Int)::(20:Int)::(21:Int)::Ar (Cd.int .i64).den).getD (0+(((((f (Cur.mk l a s)).2.pickC (12 :
 Int)).pickC (↑(f (Cur.mk l a s)).1.length:Int)).pickC (5:Int)).pickV (↑(3:Nat):Int)).toNat) (0:(Cd.int .i64).den),()))])))) (ifT (decide (((((f (Cur.mk l a
 s)).2.pickC (12:Int)).pickC (↑(f (Cur.mk l a s)).1.length:Int)).pickC (5:Int)).good (900000000:Int)/\1<=3/\3<=3)) (ifT
 (decide ((0:Int)<=((f (Cur.mk l a s)).2.pickC (12:Int)).pickV (↑(f (Cur.mk l a s)).1.length:Int))&&decide (((f (Cur.mk l a s)).2.pickC (12:Int)).pickV
 (↑(f (Cur.mk l a s)).1.length:Int)<(↑(f (Cur.mk l a s)).1.length:Int))) (Am (f (Cur.mk l a s)).1[0+(((f (Cur.mk l a s)).2.pickC (12 :
 Int)).pickV (↑(f (Cur.mk l a s)).1.length:Int)).toNat]? fun z=>some (V.agg [V.ref 1 0 (f (Cur.mk l a s)).1.length],[some (Blk.box [V.sl (Cd.int .u8) (((((f
 (Cur.mk l a s)).2.pickC (12:Int)).pickC (↑(f (Cur.mk l a s)).1.length:Int)).pickC (5:Int)).pickC (↑(3:Nat):Int)).l,V.j (((((f (Cur.mk l a
 s)).2.pickC (12:Int)).pickC (↑(f (Cur.mk l a s)).1.length:Int)).pickC (5:Int)).pickC (↑(3:Nat):Int)).a,V.i .u64 (((((f (Cur.mk l a s)).2.pickC (12 :
 Int)).pickC (↑(f (Cur.mk l a s)).1.length:Int)).pickC (5:Int)).pickC (↑(3:Nat):Int)).s]),R0 TCd ((f (Cur.mk l a s)).1.set (0 +
 (((f (Cur.mk l a s)).2.pickC (12:Int)).pickV (↑(f (Cur.mk l a s)).1.length:Int)).toNat) (z.1,(Ar UInt8::[(97:UInt8)]::[(65:UInt8)]::Ar
 Cd.str.den).getD (0+(((((f (Cur.mk l a s)).2.pickC (12:Int)).pickC (↑(f (Cur.mk l a s)).1.length:Int)).pickC (5:Int)).pickV (↑(3:Nat):Int)).toNat)
 (Ar UInt8),z.2.2.1,z.2.2.2.1,z.2.2.2.2.1,z.2.2.2.2.2.1,()))])))))))))) (some (V.agg [V.ref 1 0 (f (Cur.mk l a s)).1.length],
 [some (Blk.box [V.sl (Cd.int .u8) ((f (Cur.mk l a s)).2.pickC (12:Int)).l,V.j ((f (Cur.mk l a s)).2.pickC (12:Int)).a,V.i .u64 ((f (Cur.mk l a
 s)).2.pickC (12:Int)).s]),R0 TCd (f (Cur.mk l a s)).1]))))):_):=by kernel_rfl
theorem Qz  (l:List Int) (a s:Int) (hc:(Cur.mk l a s).good 70000000):Ex1 (BX prog (Aa [(25,.own (HR CK)),(23,.own EY),(40,.own BD),(41,.own GZ),(42,.own Q5)]) (Aa []) f22 [.ptr 0 0] [.box [.sl (.int .u8) l,.j a,.i .u64 s]]) (fun y:(List Ty)×Cur=>((.agg [.ref 1 0 y.1.length],[some (cB y.2),R0 TCd y.1]):V×List (Option Blk))) (fun y=>(∀ n,(Cur.mk l a s).good n->n<=70000000->y.2.good (n+6300))/\nmL y.1=true/\1<=y.1.length/\y.1.length<=30):=by
 refine Ex1.of (NL CK  l a s) ?_;obtain ⟨p1,_,p3,p4,p5⟩:=J7 (Cur.mk l a s) (Cur.good_mono hc (by omega));have g0:=Cur.good_mono hc (show (70000000:Int)<=80000000 by omega);have q1:=p1 70000000 hc (by omega);have p1 : ∀ n,(Cur.mk l a s).good n->n<=70000000->(CK (Cur.mk l a s)).2.good (n+6250):=fun n hn hm=>p1 n hn (by omega)
 generalize CK (Cur.mk l a s)=F at *;obtain ⟨w,c⟩:=F;dsimp only at *;have hM:=mxI;have hr:=Cur.pickV_range (c:=c.pickC 12) (n:=70007000) (k:=(w.length:Int)) (Cur.pk (Cur.good_mono q1 (by omega))) (by omega);have hi:((c.pickC 12).pickV (w.length:Int)).toNat<w.length:=by omega
 simp only [D2,AH,zero_add]
 repeat' first
  | with_reducible refine Ex1.B (fun h=>?_) (fun h=>?_)
  | with_reducible refine Ex1.T ?_ ?_
  | with_reducible refine Ex1.S ⟨_,gtE hi⟩ fun z hz=>?_
 all_goals try simp only [D2]
 all_goals first
  | exact dcT g0
  | (refine dcT ?_; (repeat with_reducible apply Cur.pk); exact Cur.good_mono q1 (by omega))
  | (refine dcT ⟨?_,by omega,by omega⟩; (repeat with_reducible apply Cur.pk); exact Cur.good_mono q1 (by omega))
  | (simp only [anE,dcE]; exact ⟨hr.1,hr.2⟩)
  | exact Ex1.c _ rfl rfl ⟨fun n hn hm=>by (repeat with_reducible apply Cur.pk); exact Cur.good_mono (p1 n hn hm) (by omega),p3,p4,p5⟩
  | exact Ex1.c (w.set _ (_,_,_,_,_,_,())) rfl (by simp only [length_set]) ⟨fun n hn hm=>by (repeat with_reducible apply Cur.pk); exact Cur.good_mono (p1 n hn hm) (by omega),Jq p3 (show z.2.1.length<=maxI from QF p3 hz),by rw [length_set]; exact p4,by rw [length_set]; exact p5⟩
  | exact Ex1.c (w.set _ (_,_,_,_,_,_,())) rfl (by simp only [length_set]) ⟨fun n hn hm=>by (repeat with_reducible apply Cur.pk); exact Cur.good_mono (p1 n hn hm) (by omega),Jq p3 (Nat.le_trans (Ps (n:=1) (by decide +kernel)) (by omega)),by rw [length_set]; exact p4,by rw [length_set]; exact p5⟩

theorem HT : ∃ f:Cur->(List Ty)×Cur,Ab prog 22 (Ent.own (KW f)).F/\∀  (c:Cur),(c.good 70000000)->(∀ n,c.good n->n<=70000000->(f  c).2.good (n+6300))/\nmL (f  c).1=true/\1<=(f  c).1.length/\(f  c).1.length<=30:=by
 have ex:=fun  (c:Cur) (hc:c.good 70000000)=>Qz  c.l c.a c.s hc
 classical
 refine ⟨fun  c=>if h:c.good 70000000 then (ex  c h).choose else ([],c),?_,fun  c hc=>?_⟩
 rotate_left
 ·simp only [dif_pos hc];exact (ex  c hc).choose_spec.2
 refine fcC (kc func25 KV (kc func23 RD (kc func40 HU (kc func41 RF (kc func42 cof KnowsL.nil))))).knows (Λ:=(Aa [])) func22 fun vs bs r hq=>?_
 unfold Ent.F KW at hq;dsimp only at hq;split at hq
 ·rename_i  l a s;obtain ⟨hc,hx⟩:=Ae hq;have hc:=of_decide_eq_true hc;refine ⟨Aq _,((ex  (Cur.mk l a s) hc).choose_spec.1).trans ?_⟩;rw [dif_pos hc] at hx;exact hx
 ·cases hq
noncomputable def E8:Cur->(List Ty)×Cur:=HT.choose
theorem P2:Ab prog 22 (Ent.own (KW E8)).F:=HT.choose_spec.1
theorem Qy : ∀  (c:Cur),(c.good 70000000)->(∀ n,c.good n->n<=70000000->(E8  c).2.good (n+6300))/\nmL (E8  c).1=true/\1<=(E8  c).1.length/\(E8  c).1.length<=30:=HT.choose_spec.2


def Cur.room (c:Cur) (k:Nat):Prop:=c.good (60000000-(k:Int))
instance (c:Cur) (k:Nat):Decidable (c.room k):=by unfold Cur.room; exact inferInstance







def okU (w:List Ty) (m:Nat):Bool:=(List.range m).all fun k=>k==0||match w[k]? with
 | some z=>decide (0<=z.2.2.2.2.1/\z.2.2.2.2.1<(k:Int))
 | none=>false
def Gv (o:Cur×List Ty×Nat×Nat->(List Ty×Nat)×Cur):LoopEnt:=⟨96,[0,4,5,6],[4,5],[],fun
 | ([.ptr 0 0,.ptr 1 0,.ptr 2 0,.j n],[some (.box [.sl (.int .u8) l,.j a,.i .u64 s]),some (.box [.ref 3 0 0]),some (.box [.ref 4 0 m]),R0 TCd [],R0 TCd w])=>.need (decide (0<=n/\n<=3/\1<=m/\m<=w.length/\w.length<=30/\(Cur.mk l a s).good (60000000-8*n))&&(okU w m&&nmL w)) (.leaf (.exit 0,([.ptr 1 0,.ptr 2 0],[some (cB (o (Cur.mk l a s,w,m,n.toNat)).2),some (.box [.ref 3 0 0]),some (.box [.ref 4 0 (o (Cur.mk l a s,w,m,n.toNat)).1.2]),R0 TCd [],R0 TCd (o (Cur.mk l a s,w,m,n.toNat)).1.1])))
 | _=>.no⟩
def PA (f:(List Ty)->Cur->(List Ty×Nat)×Cur):Gm
 | [.ptr 0 0,.agg [.sl TCd v]],[.box [.sl (.int .u8) l,.j a,.i .u64 s]]=>.need (decide (As v=true/\nmL v=true/\1<=v.length/\v.length<=30/\(Cur.mk l a s).good 50000000)) (.leaf (.agg [.ref 1 0 (f v (Cur.mk l a s)).1.2],[some (cB (f v (Cur.mk l a s)).2),R0 TCd (f v (Cur.mk l a s)).1.1]))
 | _,_=>.no
theorem Ee (o:Cur×List Ty×Nat×Nat->(List Ty×Nat)×Cur) (l:List Int) (a s:Int) (w:List Ty) (m:Nat) (n:Int):AD prog (Aa [(40,.own BD)]) (Aa [(3,Gv o)]) 1 (body f24 0) (Gv o) ([.ptr 0 0,.ptr 1 0,.ptr 2 0,.j n],[some (.box [.sl (.int .u8) l,.j a,.i .u64 s]),some (.box [.ref 3 0 0]),some (.box [.ref 4 0 m]),R0 TCd [],R0 TCd w]) =
 ((shr ((Cur.mk l a s).pickC (↑m:Int)) fun sh2=>shr (Ar TCd.den) fun sh1=>ifB (decide (n>0)) (ifT (decide ((Cur.mk l a s).good (900000000:Int))) (ifB ((Cur.mk l a
 s).pickV (↑m:Int)==(0:Int)) (some (Ex.normal,[V.ptr 0 0,V.ptr 1 0,V.ptr 2 0,V.j (i64.wrap (n-1))],[some (Blk.box [V.sl (Cd.int .u8) sh2.l,V.i
 .i64 sh2.a,V.i .u64 sh2.s]),some (Blk.box [V.ref 3 0 0]),some (Blk.box [V.ref 4 0 m]),R0 TCd sh1,R0 TCd w])) (ifT
 (decide (sh2.good (900000000:Int))) (ifB (sh2.pickV (3:Int)==(0:Int)) (ifT (decide ((0:Int)<=(Cur.mk l a s).pickV (↑m:Int))&&decide ((Cur.mk l a s).pickV
 (↑m:Int)<(↑m:Int))) (Am w[0+((Cur.mk l a s).pickV (↑m:Int)).toNat]? fun z=>shr z.2.2.2.2 fun sh1_1=>ifT (decide ((0:Int)<=sh1_1.1)
 && decide (sh1_1.1<(↑m:Int))) (Am w[0+toNat sh1_1.1]? fun z=>shr (sh2.pickC (3:Int)) fun sh1_2=>ifB (z.1==(5:Int)) (ifT (decide ((0
 : Int)<=(Cur.mk l a s).pickV (↑m:Int))&&decide ((Cur.mk l a s).pickV (↑m:Int)<(↑m:Int))) (Am w[0+((Cur.mk l a s).pickV (↑m:Int)).toNat]? fun z
 => ifT (decide ((0:Int)<=(Cur.mk l a s).pickV (↑m:Int))&&decide ((Cur.mk l a s).pickV (↑m:Int)<(↑m:Int))) (Am w[0+((Cur.mk l a s).pickV (↑m :
 Int)).toNat]? fun z_1=>shr z_1.2.2 fun sh1_3=>some (Ex.normal,[V.ptr 0 0,V.ptr 1 0,V.ptr 2 0,V.j (i64.wrap (n-1))],[some (Blk.box [V.sl
 (Cd.int .u8) sh1_2.l,V.j sh1_2.a,V.i .u64 sh1_2.s]),some (Blk.box [V.ref 3 0 0]),some (Blk.box [V.ref 4 0 m]),R0 TCd sh1,R0 TCd (w.set (0+((Cur.mk l a s).pickV (↑m:Int)).toNat) (z_1.1,z_1.2.1,sh1_3.1,!z.2.2.2.1,sh1_3.2.2.1,
 sh1_3.2.2.2.1,()))])))) (some (Ex.normal,[V.ptr 0 0,V.ptr 1 0,V.ptr 2 0,V.j (i64.wrap (n-1))],[some (Blk.box [V.sl (Cd.int .u8) sh1_2.l,V.i
 .i64 sh1_2.a,V.i .u64 sh1_2.s]),some (Blk.box [V.ref 3 0 0]),some (Blk.box [V.ref 4 0 m]),R0 TCd sh1,R0 TCd w])))))
 (ifB (sh2.pickV (3:Int)==(1:Int)) (ifT (decide ((0:Int)<=(Cur.mk l a s).pickV (↑m:Int))&&decide ((Cur.mk l a s).pickV (↑m:Int)<(↑m:Int))) (Am w[(0
 : Nat)+((Cur.mk l a s).pickV (↑m:Int)).toNat]? fun z=>shr (sh2.pickC (3:Int)) fun sh1_1=>ifB (z.1==(3:Int)) (ifT (decide (sh1_1.good (900000000:Int)))
 (ifT (decide ((0:Int)<=(Cur.mk l a s).pickV (↑m:Int))&&decide ((Cur.mk l a s).pickV (↑m:Int)<(↑m:Int))) (Am w[0+((Cur.mk l a s).pickV (↑m :
 Int)).toNat]? fun z=>shr sh1_1 fun sh2=>shr z.2.2 fun sh1_2=>some (Ex.normal,[V.ptr 0 0,V.ptr 1 0,V.ptr 2 0,V.j (i64.wrap (n-1))],[some
 (Blk.box [V.sl (Cd.int .u8) (sh2.pickC (5:Int)).l,V.j (sh2.pickC (5:Int)).a,V.i .u64 (sh2.pickC (5:Int)).s]),some (Blk.box [V.ref 3 0 0]),some (Blk.box
 [V.ref 4 0 m]),R0 TCd sh1,R0 TCd (w.set (0+((Cur.mk l a s).pickV (↑m:Int)).toNat) (z.1,z.2.1,sh1_2.1,
 sh1_2.2.1,sh1_2.2.2.1,sh2.pickV (5:Int),()))])))) (some (Ex.normal,[V.ptr 0 0,V.ptr 1 0,V.ptr 2 0,V.j (i64.wrap (n-1))],[some (Blk.box
 [V.sl (Cd.int .u8) sh1_1.l,V.j sh1_1.a,V.i .u64 sh1_1.s]),some (Blk.box [V.ref 3 0 0]),some (Blk.box [V.ref 4 0 m]),R0 TCd sh1,R0 TCd w])))) (ifB ((Cur.mk l a s).pickV (↑m:Int)==i64.wrap ((↑m:Int)-(1:Int))) (ifT (decide ((0:Int)<=(Cur.mk l a s).pickV (↑m :
 Int))&&decide ((Cur.mk l a s).pickV (↑m:Int)<(↑m:Int))) (Am w[0+((Cur.mk l a s).pickV (↑m:Int)).toNat]? fun z=>shr z.2.2.2.2 fun sh1_1
 => ifT (decide ((0:Int)<=sh1_1.1)&&decide (sh1_1.1<(↑m:Int))) (Am w[0+toNat sh1_1.1]? fun z=>shr (sh2.pickC (3:Int)) fun sh1_2=>ifB
 (z.1==(5:Int)) (ifT (decide ((0:Int)<=(Cur.mk l a s).pickV (↑m:Int))&&decide ((Cur.mk l a s).pickV (↑m:Int)<=(↑(w.length-0):Int))) (some
 (Ex.normal,[V.ptr 0 0,V.ptr 1 0,V.ptr 2 0,V.j (i64.wrap (n-1))],[some (Blk.box [V.sl (Cd.int .u8) sh1_2.l,V.j sh1_2.a,V.i .u64 sh1_2.s]),some
 (Blk.box [V.ref 3 0 0]),some (Blk.box [V.ref 4 0 (((Cur.mk l a s).pickV (↑m:Int)).toNat-0)]),R0 TCd sh1,R0 TCd
 w]))) (some (Ex.normal,[V.ptr 0 0,V.ptr 1 0,V.ptr 2 0,V.j (i64.wrap (n-1))],[some (Blk.box [V.sl (Cd.int .u8) sh1_2.l,V.j sh1_2.a,V.i .u64
 sh1_2.s]),some (Blk.box [V.ref 3 0 0]),some (Blk.box [V.ref 4 0 m]),R0 TCd sh1,R0 TCd w]))))) (some (Ex.normal,[V.ptr 0
 0,V.ptr 1 0,V.ptr 2 0,V.j (i64.wrap (n-1))],[some (Blk.box [V.sl (Cd.int .u8) (sh2.pickC (3:Int)).l,V.j (sh2.pickC (3:Int)).a,V.i .u64
 (sh2.pickC (3:Int)).s]),some (Blk.box [V.ref 3 0 0]),some (Blk.box [V.ref 4 0 m]),R0 TCd sh1,R0 TCd w])))))))) (some
 (Ex.exit 0,[V.ptr 1 0,V.ptr 2 0],[some (Blk.box [V.sl (Cd.int .u8) l,V.j a,V.i .u64 s]),some (Blk.box [V.ref 3 0 0]),some (Blk.box [V.ref 4 0 m]),R0 TCd sh1,R0 TCd w]))):_):=by kernel_rfl
theorem Re {w:List Ty} {m k:Nat} (h:okU w m=true) (hk:k<m) (h0:k≠0) (hl:k<w.length) : ∃ u:Nat,w[k].2.2.2.2.1=(u:Int)/\u<k:=by
 unfold okU at h;have:=all_eq_true.1 h k (mem_range.2 hk);rw [or_eq_true,gtE hl] at this;rcases this with h1 | h1
 ·exact absurd (by simpa using h1) h0
 ·have h1:=of_decide_eq_true h1;exact ⟨w[k].2.2.2.2.1.toNat,by omega,by omega⟩
theorem OC {w:List Ty} {m k:Nat} (h:okU w m=true) (hk:k<=m):okU w k=true:=by
 unfold okU at h ⊢;rw [all_eq_true] at h ⊢;exact fun j hj=>h j (mem_range.2 (by have:=mem_range.1 hj; omega))
theorem M6 {w:List Ty} {m k:Nat} {z:Ty} (h:okU w m=true) (hl:k<w.length) (hz:z.2.2.2.2.1=w[k].2.2.2.2.1):okU (w.set k z) m=true:=by
 unfold okU at h ⊢;rw [all_eq_true] at h ⊢;intro j hj;have hj':=h j hj;rw [or_eq_true] at hj' ⊢;rcases hj' with h1 | h1
 ·exact .inl h1
 ·right
  by_cases e:k=j
  ·subst e;rw [List.getElem?_set_self hl];rw [gtE hl] at h1;dsimp only at h1 ⊢;rw [hz]; exact h1
  ·rw [List.getElem?_set_ne e]; exact h1
theorem KX : ∀ x:Cur×List Ty×Nat×Nat,(x.2.2.2<=3/\1<=x.2.2.1/\x.2.2.1<=x.2.1.length/\x.2.1.length<=30/\x.1.good (60000000-8*(x.2.2.2:Int))/\okU x.2.1 x.2.2.1=true/\nmL x.2.1=true)->∃ y:(List Ty×Nat)×Cur,(∀ o,Runs prog (Aa [(40,.own BD)]) (Aa [(3,Gv o)]) 1 (body f24 0) (Gv o) ((fun x:Cur×List Ty×Nat×Nat=>(([.ptr 0 0,.ptr 1 0,.ptr 2 0,.j (x.2.2.2:Int)],[some (cB x.1),some (.box [.ref 3 0 0]),some (.box [.ref 4 0 x.2.2.1]),R0 TCd [],R0 TCd x.2.1]):Dt)) x) ((fun y:(List Ty×Nat)×Cur=>(((.exit 0:Ex),([.ptr 1 0,.ptr 2 0],[some (cB y.2),some (.box [.ref 3 0 0]),some (.box [.ref 4 0 y.1.2]),R0 TCd [],R0 TCd y.1.1])):Ex×Dt)) y).1 ((fun y:(List Ty×Nat)×Cur=>(((.exit 0:Ex),([.ptr 1 0,.ptr 2 0],[some (cB y.2),some (.box [.ref 3 0 0]),some (.box [.ref 4 0 y.1.2]),R0 TCd [],R0 TCd y.1.1])):Ex×Dt)) y).2)/\((∀ g,x.1.good g->g<=60000000-8*(x.2.2.2:Int)->y.2.good (g+8*(x.2.2.2:Int)))/\1<=y.1.2/\y.1.2<=y.1.1.length/\y.1.1.length<=30/\nmL y.1.1=true):=by
 refine Kv (ι:=Cur×List Ty×Nat×Nat->(List Ty×Nat)×Cur) (fun _=>(([],0),Cur.mk [] 0 0)) (Λ:=fun o=>(Aa [(3,Gv o)])) (ent:=fun o=>Gv o) (fun x:Cur×List Ty×Nat×Nat=>(([.ptr 0 0,.ptr 1 0,.ptr 2 0,.j (x.2.2.2:Int)],[some (cB x.1),some (.box [.ref 3 0 0]),some (.box [.ref 4 0 x.2.2.1]),R0 TCd [],R0 TCd x.2.1]):Dt)) (fun y:(List Ty×Nat)×Cur=>(((.exit 0:Ex),([.ptr 1 0,.ptr 2 0],[some (cB y.2),some (.box [.ref 3 0 0]),some (.box [.ref 4 0 y.1.2]),R0 TCd [],R0 TCd y.1.1])):Ex×Dt)) (fun y=>by simp) _ _ (fun x=>x.2.2.2) (fun o x _=>(Ee o x.1.l x.1.a x.1.s x.2.1 x.2.2.1 (x.2.2.2:Int)).trans (Ee _ x.1.l x.1.a x.1.s x.2.1 x.2.2.1 (x.2.2.2:Int)).symm) ?_
 rintro ⟨c,w,m,n⟩ ⟨h1,h2,h3,h4,hc,hu,hn⟩
 dsimp only at h1 h2 h3 h4 hc hu hn ⊢;have hM:=mxI
 by_cases h:0<n
 ·right;refine Ex1.of (Ee _ c.l c.a c.s w m (n:Int)) ?_
  try dsimp only [shr]
  rw [Aj (dcT (by omega))];have g1:(c.pickC (m:Int)).good (60000000-8*(n:Int)+2):=Cur.pickC_good hc;have r1:=Cur.pickV_range (k:=(m:Int)) hc (by omega);have w1:i64.wrap ((n:Int)-1)=((n-1:Nat):Int):=by rw [Ba (by omega) (by omega)]; omega
  have w2:i64.wrap ((m:Int)-1)=(m:Int)-1:=Ba (by omega) (by omega);have gm : ∀ g,c.good g->g<=60000000-8*(n:Int)->(c.pickC (m:Int)).good (g+2):=fun g hg _=>Cur.pickC_good hg
  simp only [D2,show Cur.mk c.l c.a c.s=c from rfl,AH,w1,w2];refine Ex1.T (dcT (Cur.good_mono hc (by omega))) ?_;generalize c.pickV (m:Int)=k at *;generalize c.pickC (m:Int)=c2 at *;obtain ⟨k,rfl⟩:=eq_ofNat_of_zero_le r1.1;have hkl:k<w.length:=by omega
  simp only [zero_add,ntN,gtE hkl,Ao,Nat.sub_zero];have hnk:=QF hn (gtE hkl)
  have fin : ∀ (c':Cur) (w':List Ty) (m':Nat),(∀ g,c2.good g->g<=70000000->c'.good (g+4))->1<=m'->m'<=w'.length->w'.length<=30->okU w' m'=true->nmL w'=true->((n-1<=3/\1<=m'/\m'<=w'.length/\w'.length<=30/\c'.good (60000000-8*((n-1:Nat):Int))/\okU w' m'=true/\nmL w'=true)/\n-1<n/\∀ y:(List Ty×Nat)×Cur,((∀ g,c'.good g->g<=60000000-8*((n-1:Nat):Int)->y.2.good (g+8*((n-1:Nat):Int)))/\1<=y.1.2/\y.1.2<=y.1.1.length/\y.1.1.length<=30/\nmL y.1.1=true)->((∀ g,c.good g->g<=60000000-8*(n:Int)->y.2.good (g+8*(n:Int)))/\1<=y.1.2/\y.1.2<=y.1.1.length/\y.1.1.length<=30/\nmL y.1.1=true)):=fun c' w' m' q1 q2 q3 q4 q5 q6=>by
   refine ⟨⟨by omega,q2,q3,q4,Cur.good_mono (q1 _ g1 (by omega)) (by omega),q5,q6⟩,by omega,fun y hy=>⟨fun g hg hl=>Cur.good_mono (hy.1 (g+2+4) (q1 _ (gm g hg hl) (by omega)) (by omega)) (by omega),hy.2⟩⟩
  by_cases hk0:k=0
  ·subst hk0;refine Ex1.B (fun _=>?_) (fun hf=>by simp at hf);exact Ex1.P3 (c2,w,m,n-1) rfl rfl rfl (fin c2 w m (fun g hg _=>Cur.good_mono hg (by omega)) h2 h3 h4 hu hn)
  ·obtain ⟨u,hu1,hu2⟩:=Re hu (by omega) hk0 hkl;have hul:u<w.length:=by omega
   simp only [hu1,ntN,gtE hul,Ao]
   repeat' first
    | with_reducible refine Ex1.B (fun h=>?_) (fun h=>?_)
    | with_reducible refine Ex1.T ?_ ?_
   all_goals try simp only [D2]
   all_goals first
    | (refine dcT ?_; (repeat with_reducible apply Cur.pk); exact Cur.good_mono g1 (by omega))
    | (simp only [anE,dcE]; omega)
    | exact Ex1.P3 (c2,w,m,n-1) rfl rfl rfl (fin _ w m (fun g hg _=>Cur.good_mono hg (by omega)) h2 h3 h4 hu hn)
    | exact Ex1.P3 (c2.pickC 3,w,m,n-1) rfl rfl rfl (fin _ w m (fun g hg _=>Cur.good_mono (Cur.pickC_good hg) (by omega)) h2 h3 h4 hu hn)
    | exact Ex1.P3 (c2.pickC 3,w,k,n-1) rfl rfl rfl (fin _ w k (fun g hg _=>Cur.good_mono (Cur.pickC_good hg) (by omega)) (by omega) (by omega) h4 (OC hu (by omega)) hn)
    | exact Ex1.P3 (c2.pickC 3,w.set k (_,_,_,_,_,_,()),m,n-1) rfl rfl rfl (fin _ _ m (fun g hg _=>Cur.good_mono (Cur.pickC_good hg) (by omega)) h2 (by rw [length_set]; exact h3) (by rw [length_set]; exact h4) (M6 hu hkl hu1.symm) (Jq hn hnk))
    | exact Ex1.P3 ((c2.pickC 3).pickC 5,w.set k (_,_,_,_,_,_,()),m,n-1) rfl rfl rfl (fin _ _ m (fun g hg _=>Cur.good_mono (Cur.pickC_good (Cur.pickC_good hg)) (by omega)) h2 (by rw [length_set]; exact h3) (by rw [length_set]; exact h4) (M6 hu hkl hu1.symm) (Jq hn hnk))
 ·left;refine Ex1.of (Ee _ c.l c.a c.s w m (n:Int)) ?_
  try dsimp only [shr]
  rw [Ah (dcF (by omega))];exact Ex1.L ((w,m),c) rfl ⟨fun g hg _=>Cur.good_mono hg (by omega),h2,h3,h4,hn⟩
noncomputable def D1:Cur×List Ty×Nat×Nat->(List Ty×Nat)×Cur:=(EI (Y:=(List Ty×Nat)×Cur) (([],0),Cur.mk [] 0 0) KX).choose
theorem P9 : ∀ x:Cur×List Ty×Nat×Nat,(x.2.2.2<=3/\1<=x.2.2.1/\x.2.2.1<=x.2.1.length/\x.2.1.length<=30/\x.1.good (60000000-8*(x.2.2.2:Int))/\okU x.2.1 x.2.2.1=true/\nmL x.2.1=true)->(∀ o,Runs prog (Aa [(40,.own BD)]) (Aa [(3,Gv o)]) 1 (body f24 0) (Gv o) ((fun x:Cur×List Ty×Nat×Nat=>(([.ptr 0 0,.ptr 1 0,.ptr 2 0,.j (x.2.2.2:Int)],[some (cB x.1),some (.box [.ref 3 0 0]),some (.box [.ref 4 0 x.2.2.1]),R0 TCd [],R0 TCd x.2.1]):Dt)) x) ((fun y:(List Ty×Nat)×Cur=>(((.exit 0:Ex),([.ptr 1 0,.ptr 2 0],[some (cB y.2),some (.box [.ref 3 0 0]),some (.box [.ref 4 0 y.1.2]),R0 TCd [],R0 TCd y.1.1])):Ex×Dt)) (D1 x)).1 ((fun y:(List Ty×Nat)×Cur=>(((.exit 0:Ex),([.ptr 1 0,.ptr 2 0],[some (cB y.2),some (.box [.ref 3 0 0]),some (.box [.ref 4 0 y.1.2]),R0 TCd [],R0 TCd y.1.1])):Ex×Dt)) (D1 x)).2)/\((∀ g,x.1.good g->g<=60000000-8*(x.2.2.2:Int)->(D1 x).2.good (g+8*(x.2.2.2:Int)))/\1<=(D1 x).1.2/\(D1 x).1.2<=(D1 x).1.1.length/\(D1 x).1.1.length<=30/\nmL (D1 x).1.1=true):=(EI (Y:=(List Ty×Nat)×Cur) (([],0),Cur.mk [] 0 0) KX).choose_spec
theorem R9:Az prog (Aa [(40,.own BD)]) (Aa [(3,Gv D1)]) 1 (f24.body.getD .skip):=by
 refine Aw (a:=body f24 0) (by kernel_rfl) fun d ex d' h=>?_
 unfold Gv at h;dsimp only at h;split at h
 ·rename_i n l a s m w;obtain ⟨hc,hx⟩:=Ae h;rw [anE,anE] at hc;obtain ⟨hc,q7,q8⟩:=hc;obtain ⟨q1,q2,q3,q4,q5,q6⟩:=of_decide_eq_true hc;obtain ⟨n,rfl⟩:=eq_ofNat_of_zero_le q1;obtain ⟨rfl,rfl⟩:=lfP hx;exact (P9 (Cur.mk l a s,w,m,n) ⟨by dsimp only; omega,q3,q4,q5,q6,q7,q8⟩).1 D1
 ·cases h
theorem Pb {l:List Ty} (h:As l=true):Ord l:=by
 unfold As at h;simp only [anE,dcE,beq_iff_eq] at h;exact FA (by omega) h.1.1.2 h.1.2
theorem OD {l:List Ty} (h:As l=true):okU l l.length=true:=by
 have H:=Pb h;unfold okU;rw [all_eq_true];intro k hk;have hk:=mem_range.1 hk
 by_cases e:k=0
 ·subst e; rfl
 ·obtain ⟨u,a1,a2,_⟩:=H.up k (by omega) hk;unfold AG at a1;rw [gtE hk] at a1 ⊢;have a1:=Option.some.inj a1;dsimp only;rw [or_eq_true];right;have a1:l[k].2.2.2.2.1=(u:Int):=a1;rw [a1];exact dcT ⟨by omega,by omega⟩
theorem P8 (o:Cur×List Ty×Nat×Nat->(List Ty×Nat)×Cur) (v:List Ty) (l:List Int) (a s:Int):BX prog (Aa [(40,.own BD)]) (Aa [(3,Gv o)]) f24 [.ptr 0 0,.agg [.sl TCd v]] [.box [.sl (.int .u8) l,.j a,.i .u64 s]] =
 ((shr ((Cur.mk l a s).pickC (3:Int)) fun sh2=>shr (Ar TCd.den++v) fun sh1=>ifT (decide ((0+v.length)*56<=140737488355328)&&decide
 (0+v.length<=maxI)) (ifT (decide ((Cur.mk l a s).good (900000000:Int))) (ifT (decide ((0:Int)<=(Cur.mk l a s).pickV (3:Int)/\(Cur.mk l a s).pickV (3 :
 Int)<=(3:Int)/\1<=0+v.length/\0+v.length<=sh1.length/\sh1.length<=30/\sh2.good ((60000000:Int)-(8:Int)*(Cur.mk l a
 s).pickV (3:Int)))&&(okU sh1 (0+v.length)&&nmL sh1)) (some (V.agg [V.ref 1 0 (o (sh2,sh1,0+v.length,((Cur.mk l a s).pickV (3 :
 Int)).toNat)).1.2],[some (Blk.box [V.sl (Cd.int .u8) (o (sh2,sh1,0+v.length,((Cur.mk l a s).pickV (3:Int)).toNat)).2.l,V.j (o (sh2,sh1,(0 :
 Nat)+v.length,((Cur.mk l a s).pickV (3:Int)).toNat)).2.a,V.i .u64 (o (sh2,sh1,0+v.length,((Cur.mk l a s).pickV (3:Int)).toNat)).2.s]),R0 TCd (o (sh2,sh1,0+v.length,((Cur.mk l a s).pickV (3:Int)).toNat)).1.1]))))):_):=by kernel_rfl
theorem RA (v:List Ty) (l:List Int) (a s:Int) (hc:As v=true/\nmL v=true/\1<=v.length/\v.length<=30/\(Cur.mk l a s).good 50000000):Ex1 (BX prog (Aa [(40,.own BD)]) (Aa [(3,Gv D1)]) f24 [.ptr 0 0,.agg [.sl TCd v]] [.box [.sl (.int .u8) l,.j a,.i .u64 s]]) (fun y:(List Ty×Nat)×Cur=>((.agg [.ref 1 0 y.1.2],[some (cB y.2),R0 TCd y.1.1]):V×List (Option Blk))) (fun y=>(∀ g,(Cur.mk l a s).good g->g<=50000000->y.2.good (g+26))/\1<=y.1.2/\y.1.2<=y.1.1.length/\y.1.1.length<=30/\nmL y.1.1=true):=by
 refine Ex1.of (P8 D1 v l a s) ?_;obtain ⟨h1,h2,h3,h4,hc⟩:=hc;have hp:=Cur.pickV_range (k:=3) hc (by omega);have g1:((Cur.mk l a s).pickC 3).good (50000000+2):=Cur.pickC_good hc;have hu:=OD h1;have ho:=(P9 ((Cur.mk l a s).pickC 3,v,v.length,((Cur.mk l a s).pickV 3).toNat) ⟨by dsimp only; omega,h3,Nat.le_refl _,h4,Cur.good_mono g1 (by dsimp only; omega),hu,h2⟩).2;dsimp only at ho;have hM:=mxI;have hp2:=hp.2
 try dsimp only [shr]
 simp only [D2,AH,nil_append,zero_add];refine Ex1.T (by rw [anE]; exact ⟨dcT (by omega),dcT (by omega)⟩) (Ex1.T (dcT (Cur.good_mono hc (by omega))) (Ex1.T (by rw [hu,h2,Bool.and_true,Bool.and_true]; exact dcT ⟨by omega,by omega,h3,Nat.le_refl _,h4,Cur.good_mono g1 (by omega)⟩) ?_));generalize D1 ((Cur.mk l a s).pickC 3,v,v.length,((Cur.mk l a s).pickV 3).toNat)=D at *;exact Ex1.c D.1 rfl rfl ⟨fun m hm hl=>Cur.good_mono (ho.1 (m+2) (Cur.pickC_good hm) (by omega)) (by omega),ho.2⟩
theorem JA : ∃ f:(List Ty)->Cur->(List Ty×Nat)×Cur,Ab prog 24 (Ent.mix (PA f)).F/\∀ (v:List Ty) (c:Cur),(As v=true/\nmL v=true/\1<=v.length/\v.length<=30/\c.good 50000000)->(∀ g,c.good g->g<=50000000->(f v c).2.good (g+26))/\1<=(f v c).1.2/\(f v c).1.2<=(f v c).1.1.length/\(f v c).1.1.length<=30/\nmL (f v c).1.1=true:=by
 have ex:=fun (v:List Ty) (c:Cur) (hc:As v=true/\nmL v=true/\1<=v.length/\v.length<=30/\c.good 50000000)=>RA v c.l c.a c.s hc
 classical
 refine ⟨fun v c=>if h:As v=true/\nmL v=true/\1<=v.length/\v.length<=30/\c.good 50000000 then (ex v c h).choose else (([],0),c),?_,fun v c hc=>?_⟩
 rotate_left
 ·simp only [dif_pos hc];exact (ex v c hc).choose_spec.2
 refine fcC (kc func40 HU KnowsL.nil).knows (Λ:=(Aa [(3,Gv D1)])) func24 fun vs bs r hq=>?_
 unfold Ent.F PA at hq;dsimp only at hq;split at hq
 ·rename_i v l a s;obtain ⟨hc,hx⟩:=Ae hq;have hc:=of_decide_eq_true hc;refine ⟨R9,((ex v (Cur.mk l a s) hc).choose_spec.1).trans ?_⟩;rw [dif_pos hc] at hx;exact hx
 ·cases hq
noncomputable def FW:(List Ty)->Cur->(List Ty×Nat)×Cur:=JA.choose
theorem Q1:Ab prog 24 (Ent.mix (PA FW)).F:=JA.choose_spec.1
theorem R8 : ∀ (v:List Ty) (c:Cur),(As v=true/\nmL v=true/\1<=v.length/\v.length<=30/\c.good 50000000)->(∀ g,c.good g->g<=50000000->(FW v c).2.good (g+26))/\1<=(FW v c).1.2/\(FW v c).1.2<=(FW v c).1.1.length/\(FW v c).1.1.length<=30/\nmL (FW v c).1.1=true:=JA.choose_spec.2












def u8 (s:By):List Int:=s.map fun z=>((z.toNat:Nat):Int)
theorem La {P:Program} {K:FuncId} {F F' G:List V->List Blk->Option (V×List (Option Blk))} (h:Ab P K F) (h':Ab P K F') (hG : ∀ vs bs r,G vs bs=some r->F vs bs=some r\/F' vs bs=some r):Ab P K G:=by
 intro w R μ vs us bs r outs hm hn hr hG1;rcases hG vs bs _ hG1 with h1 | h1
 ·exact h w R μ vs us bs r outs hm hn hr h1
 ·exact h' w R μ vs us bs r outs hm hn hr h1







theorem Dv {k:Int} : ∀ {ks:RL},Cr k ks=true->∀ z∈ks,Dh k z.lab=true/\Ac z=true
 | y::ks,h,z,hz=>by
  rw [Cr,anE,anE] at h;rcases mem_cons.1 hz with rfl | hz
  ·exact h.1
  ·exact Dv h.2 z hz

theorem Fh {z:Rose Lab} (h:Ac z=true):B8 z.lab z.kids=true/\Cr z.lab.1 z.kids=true:=by
 obtain ⟨x,ks⟩:=z;rw [Ac,anE] at h;exact h
theorem Cz {z:Rose Lab} (h:Ac z=true) (h4:z.lab.1=4):z.kids.length=1/\z.kids.all Ac=true:=by
 obtain ⟨h1,h2⟩:=Fh h;refine ⟨?_,all_eq_true.2 fun y hy=>(Dv h2 y hy).2⟩;unfold B8 at h1;rw [if_neg (by omega),if_neg (by omega),if_pos h4,anE] at h1
 simpa using h1.2
theorem Bg {z:Rose Lab} (h:AZ z=true):z.lab.1=5/\Ac z=true/\Af z<=30:=by
 unfold AZ at h;simp only [anE,dcE,beq_iff_eq] at h;exact ⟨h.1.1.1.1.1.1,h.1.1.2,h.2⟩








def Cl (l:List Ty):Nat->List Ty->Prop
 | _,[]=>True
 | s,x::w=>l[s]? = some x/\Cl l (s+1) w
def Kl (l:List Ty) (s e:Nat):Prop:=∀ j:Nat,s<=j->AG l e≠some (j:Int)
theorem Gl {l:List Ty} : ∀ {a:List Ty} {s:Nat} {b:List Ty},Cl l s (a++b)↔Cl l s a/\Cl l (s+a.length) b
 | [],s,b=>by simp [Cl]
 | x::a,s,b=>by
  rw [cons_append,Cl,Cl,Gl,length_cons,and_assoc,show s+1+a.length=s+(a.length+1) by omega]
theorem I5 {l:List Ty} {s p t:Nat} {ks:RL} (hl:Cl l p (A9 ks s p)) (he:Kl l s (p+Ai ks)) (hst:s<t):Kl l t p:=by
 cases ks with
 | nil=>intro j hj; rw [Ai] at he; exact he j (by omega)
 | cons z ks=>
  rw [A9,Cx,cons_append,Cl] at hl;intro j hj hu;unfold AG at hu;rw [hl.1,Option.map_some] at hu;have:=Option.some.inj hu;dsimp only at this;omega
mutual
theorem JL (l:List Ty) : ∀ (z:Rose Lab),Ac z=true->∀ (up:Int) (s:Nat),Cl l s (Al z up s)->Kl l s (s+Af z)->kf l s=(z,s+Af z)
 | .node x ks,hr,up,s,hl,he=>by
  obtain ⟨hp,hrr⟩:=Cq hr;have hp:B8 x ks=true:=hp;have hrr:Cr x.1 ks=true:=hrr;rw [Al,Cl] at hl
  have hs:s<l.length:=by
   by_cases h:s<l.length
   ·exact h
   ·rw [List.getElem?_eq_none (by omega)] at hl; cases hl.1
  have hlab:At l s=x:=by unfold At; rw [hl.1]
  rw [Af] at he ⊢;rw [KG hs,hlab]
  cases hh:Au x.1 with
  | true=>
   have:=G1 l ks (fun z hz=>Hn hrr hz) s (s+1) (by omega) hl.2 (by rw [show s+1+Ai ks=s+(Ai ks+1) by omega]; exact he) l.length [] (by omega);rw [cond_true,this,nil_append,show s+1+Ai ks=s+(Ai ks+1) by omega]
  | false=>
   have h0:ks=[]:=by
    have hk:=Dw hp;unfold B8 at hp;unfold Au at hh;rw [Bool.or_eq_false_iff,beq_eq_false_iff_ne,beq_eq_false_iff_ne] at hh;split at hp
    ·rw [anE] at hp; simpa using hp.2
    ·split at hp
     ·rw [anE] at hp; simpa using hp.2
     ·omega
   subst h0;rw [cond_false,Ai]
theorem G1 (l:List Ty) : ∀ (ks:RL),(∀ z∈ks,Ac z=true)->∀ (s p:Nat),s<p->Cl l p (A9 ks s p)->Kl l s (p+Ai ks)->∀ (n:Nat) (acc:RL),l.length-p<=n->AL (kf l) l s n p acc=(acc++ks,p+Ai ks)
 | [],_,s,p,_,_,he,n,acc,_=>by
  rw [Ai] at he ⊢;rw [add_zero] at he ⊢;rw [DW (he s (Nat.le_refl _)),append_nil]
 | z::ks,hr,s,p,hsp,hl,he,n,acc,hn=>by
  rw [A9,Gl,B7] at hl;rw [Ai,<-Nat.add_assoc] at he ⊢;have hz:=hr z mem_cons_self;have hk:=JL l z hz s p hl.1 (I5 hl.2 he hsp)
  have hu:AG l p=some (s:Int):=by
   have:=hl.1;rw [Cx,Cl] at this;unfold AG;rw [this.1]; rfl
  have hpl:=Ds hu;have hb:=Dk l p hpl;obtain ⟨n,rfl⟩ : ∃ m,n=m+1:=⟨n-1,by omega⟩
  rw [hk] at hb;dsimp only at hb;rw [AL,if_pos hu,hk];dsimp only;rw [G1 l ks (fun w hw=>hr w (mem_cons_of_mem _ hw)) s (p+Af z) (by omega) hl.2 he n _ (by omega),append_assoc];rfl
end
theorem Fn (v:List Ty) : ∀ (w pre:List Ty),v=pre++w->Cl v pre.length w
 | [],pre,h=>by rw [Cl]; trivial
 | x::w,pre,h=>by
  rw [Cl];refine ⟨by rw [h,List.getElem?_append_right (Nat.le_refl _)]; simp,?_⟩;have:=Fn v w (pre++[x]) (by rw [h]; simp);rw [length_append] at this;exact this
theorem Mk {z:Rose Lab} (h:AZ z=true):As (Al z (-1) 0)=true/\(kf (Al z (-1) 0) 0).1=z:=by
 have hg:=h;unfold AZ at hg;simp only [anE,dcE] at hg;obtain ⟨⟨⟨_,hr⟩,_⟩,hc⟩:=hg;have hlen:=B7 z (-1) 0
 have hoff:Kl (Al z (-1) 0) 0 (0+Af z):=fun j _ hu=>by
  have:=Ds hu;omega
 have hk:=JL (Al z (-1) 0) z hr (-1) 0 (Fn _ _ [] rfl) hoff;have hp:=Cf z;have hu:AG (Al z (-1) 0) 0=some (-1):=by rw [Cx]; rfl
 unfold As;rw [hk,h,hu,hlen,dcT (show 1<=Af z/\Af z<=30 from ⟨hp,hc⟩)];exact ⟨by simp,rfl⟩

theorem Ia {n:Int} {u:Rose Lab} : ∀ {us:RL},us.Pairwise KR->u∈us->u.lab.2.2.1=n->byR n us=u
 | [],_,h,_=>by cases h
 | w::us,hp,h,hn=>by
  rw [pairwise_cons] at hp;rw [byR];rcases mem_cons.1 h with e | h
  ·subst e; rw [if_pos hn]
  ·have:w.lab.2.2.1<u.lab.2.2.1:=hp.1 u h;rw [if_neg (by omega)];exact Ia hp.2 h hn
theorem Qh {z:Rose Lab} (h:Ac z=true) (h5:z.lab.1=5):z.kids.Pairwise KR:=by
 obtain ⟨hp,_⟩:=Cq h;unfold B8 at hp;rw [if_neg (by omega),if_neg (by omega),if_neg (by omega)] at hp;split at hp
 ·cases hp
 ·exact ((Kn _).1 hp).imp fun h=>h.1



theorem DI {n:Int} : ∀ {l:RL},AC n l=true->byR n l∈l/\(byR n l).lab.2.2.1=n
 | [],h=>by cases h
 | z::l,h=>by
  rw [byR]
  by_cases q:z.lab.2.2.1=n
  ·rw [if_pos q]; exact ⟨by simp,q⟩
  ·rw [if_neg q]
   have h2:AC n l=true:=by
    unfold AC at h ⊢;rw [any_cons,beq_eq_false_iff_ne.2 q,Bool.false_or] at h;exact h
   have:=DI h2;exact ⟨mem_cons_of_mem _ this.1,this.2⟩







theorem Cp {l:List Ty} (h:As l=true):AZ (t2L l 0)=true/\0<l.length/\l.length<=30:=by
 have e:=((GY l).2 h)
 unfold As at h;simp only [anE,dcE,beq_iff_eq] at h;rw [<-e];exact ⟨h.2,by omega,by omega⟩








def P5 (f:(List Int)->List Ty×Bool×List Ty×Nat):Gm
 | [.sl (.int .u8) l],[]=>.need (decide ((Cur.mk l 0 0).good 0)) (.leaf (.tup [.agg [.ref 0 0 (f l ).1.length],.agg [.ref 1 0 (f l ).2.2.2]],[some (.row (f l ).2.1 none TCd (f l ).1),R0 TCd (f l ).2.2.1]))
 | _,_=>.no
theorem P4 (k:Cur->(List Ty)×Cur) (h:List Ty->Cur->(List Ty×Nat)×Cur) (f:Cur->(List Ty)×Cur) (l:List Int)  : BX prog (Aa [(22,.own (KW k)),(15,.rd1 HH),(23,.own EY),(24,.mix (PA h)),(25,.own (HR f))]) (Aa []) f11 [.sl (.int .u8) l] [] =
 ((shr (k (Cur.mk l (0:Int) (0:Int))) fun sh2=>shr (take sh2.1.length (drop 0 sh2.1)) fun sh1=>ifT (decide ((Cur.mk l (0:Int) (0:Int)).good
 (70000000:Int))) (ifT (decide (sh1.length<=4000000000)&&nmL sh1) (ifB (As sh1) (ifT (decide (sh2.2.good (900000000:Int))) (ifB (!sh2.2.pickV (3 :
 Int)==(0:Int)) (ifT (decide (As sh1=true/\nmL sh1=true/\1<=sh1.length/\sh1.length<=30/\(sh2.2.pickC (3:Int)).good (50000000:Int)))
 (some (V.tup [V.agg [V.ref 0 0 sh2.1.length],V.agg [V.ref 1 0 (h sh1 (sh2.2.pickC (3:Int))).1.2]],[some (Blk.row true none TCd sh2.1),R0 TCd (h sh1 (sh2.2.pickC (3:Int))).1.1]))) (ifT (decide ((sh2.2.pickC (3:Int)).good (80000000:Int))) (some (V.tup [V.agg [V.ref 0 0 sh2.1.length],
 V.agg [V.ref 1 0 (f (sh2.2.pickC (3:Int))).1.length]],[R0 TCd sh2.1,R0 TCd (f (sh2.2.pickC (3:Int))).1])))))
 (ifT (decide (sh2.2.good (80000000:Int))) (some (V.tup [V.agg [V.ref 0 0 sh2.1.length],V.agg [V.ref 1 0 (f sh2.2).1.length]],[R0 TCd
 sh2.1,R0 TCd (f sh2.2).1])))))):_):=by kernel_rfl
theorem R7 (l:List Int)  (hc:(Cur.mk l 0 0).good 0):Ex1 (BX prog (Aa [(22,.own (KW E8)),(15,.rd1 HH),(23,.own EY),(24,.mix (PA FW)),(25,.own (HR CK))]) (Aa []) f11 [.sl (.int .u8) l] []) (fun y:List Ty×Bool×List Ty×Nat=>((.tup [.agg [.ref 0 0 y.1.length],.agg [.ref 1 0 y.2.2.2]],[some (.row y.2.1 none TCd y.1),R0 TCd y.2.2.1]):V×List (Option Blk))) (fun y=>nmL y.1=true/\1<=y.1.length/\y.1.length<=30/\nmL y.2.2.1=true/\1<=y.2.2.2/\y.2.2.2<=y.2.2.1.length/\y.2.2.1.length<=30):=by
 refine Ex1.of (P4 E8 FW CK l ) ?_;have h7:=Cur.good_mono hc (show (0:Int)<=70000000 by omega);obtain ⟨a1,a2,a3,a4⟩:=Qy (Cur.mk l 0 0) h7;have b1:=a1 0 hc (by omega)
 repeat with_reducible refine Ex1.sh ?_
 try simp only [drop_zero,take_length]
 generalize E8 (Cur.mk l 0 0)=B at *;obtain ⟨v,c⟩:=B;dsimp only at *;have d2:=Cur.pickC_good (k:=3) b1;have e0:=R8 v (c.pickC 3);obtain ⟨m0,m4,m1,m2,m3⟩:=J7 c (Cur.good_mono b1 (by omega));obtain ⟨n0,n4,n1,n2,n3⟩:=J7 (c.pickC 3) (Cur.good_mono d2 (by omega));refine Ex1.T (dcT h7) ?_;refine Ex1.T (by rw [a2,dcT (by omega)]; rfl) ?_;refine Ex1.B (fun hk=>?_) (fun hk=>?_)
 ·have e1:=e0 ⟨hk,a2,a3,a4,Cur.good_mono d2 (by omega)⟩;obtain ⟨e1,e2,e3,e4,e5⟩:=e1
  repeat' first
   | with_reducible refine Ex1.B (fun h=>?_) (fun h=>?_)
   | with_reducible refine Ex1.T ?_ ?_
  all_goals first
   | exact dcT (Cur.good_mono b1 (by omega))
   | exact dcT (Cur.good_mono d2 (by omega))
   | exact dcT ⟨hk,a2,a3,a4,Cur.good_mono d2 (by omega)⟩
   | exact Ex1.P (_,_,_,_) rfl rfl ⟨a2,a3,a4,e5,e2,e3,e4⟩
   | exact Ex1.P (_,_,_,_) rfl rfl ⟨a2,a3,a4,n1,n2,Nat.le_refl _,n3⟩
 ·repeat' first
   | with_reducible refine Ex1.B (fun h=>?_) (fun h=>?_)
   | with_reducible refine Ex1.T ?_ ?_
  all_goals first
   | exact dcT (Cur.good_mono b1 (by omega))
   | exact dcT (Cur.good_mono d2 (by omega))
   | exact Ex1.P (_,_,_,_) rfl rfl ⟨a2,a3,a4,m1,m2,Nat.le_refl _,m3⟩
theorem J9 : ∃ f:(List Int)->List Ty×Bool×List Ty×Nat,Ab prog 11 (Ent.rd1 (P5 f)).F/\∀ (l:List Int) ,((Cur.mk l 0 0).good 0)->nmL (f l ).1=true/\1<=(f l ).1.length/\(f l ).1.length<=30/\nmL (f l ).2.2.1=true/\1<=(f l ).2.2.2/\(f l ).2.2.2<=(f l ).2.2.1.length/\(f l ).2.2.1.length<=30:=by
 have ex:=fun (l:List Int)  (hc:(Cur.mk l 0 0).good 0)=>R7 l  hc
 classical
 refine ⟨fun l  => if h:(Cur.mk l 0 0).good 0 then (ex l  h).choose else ([],false,[],0),?_,fun l  hc=>?_⟩
 rotate_left
 ·simp only [dif_pos hc];exact (ex l  hc).choose_spec.2
 refine fcC (kc func22 P2 (kc func15 Mz (kc func23 RD (kc func24 Q1 (kc func25 KV KnowsL.nil))))).knows (Λ:=(Aa [])) func11 fun vs bs r hq=>?_
 unfold Ent.F P5 at hq;dsimp only at hq;split at hq
 ·rename_i l ;obtain ⟨hc,hx⟩:=Ae hq;have hc:=of_decide_eq_true hc;refine ⟨Aq _,((ex l  hc).choose_spec.1).trans ?_⟩;rw [dif_pos hc] at hx;exact hx
 ·cases hq
noncomputable def E9:(List Int)->List Ty×Bool×List Ty×Nat:=J9.choose
theorem Q0:Ab prog 11 (Ent.rd1 (P5 E9)).F:=J9.choose_spec.1
theorem R6 : ∀ (l:List Int) ,((Cur.mk l 0 0).good 0)->nmL (E9 l ).1=true/\1<=(E9 l ).1.length/\(E9 l ).1.length<=30/\nmL (E9 l ).2.2.1=true/\1<=(E9 l ).2.2.2/\(E9 l ).2.2.2<=(E9 l ).2.2.1.length/\(E9 l ).2.2.1.length<=30:=J9.choose_spec.2
def P1 (f:(List Int)->List Ty×Bool×List Ty×Nat):Gm
 | [.sl (.int .u8) l],[]=>.need (decide ((Cur.mk l 0 0).good 0)) (.leaf (.tup [.agg [.ref 0 0 (f l ).1.length],.agg [.ref 1 0 (f l ).2.2.2]],[some (.row (f l ).2.1 none TCd (f l ).1),R0 TCd (f l ).2.2.1]))
 | _,_=>.no
theorem P0 (f:List Int->List Ty×Bool×List Ty×Nat) (l:List Int)  : BX prog (Aa [(11,.rd1 (P5 f))]) (Aa []) f4 [.sl (.int .u8) l] [] =
 ((ifT (decide ((Cur.mk l (0:Int) (0:Int)).good (0:Int))) (some (V.tup [V.agg [V.ref 0 0 (f l).1.length],V.agg [V.ref 1 0 (f l).2.2.2]],[some (Blk.row (f
 l).2.1 none TCd (f l).1),R0 TCd (f l).2.2.1]))):_):=by kernel_rfl
theorem R5 (l:List Int)  (hc:(Cur.mk l 0 0).good 0):Ex1 (BX prog (Aa [(11,.rd1 (P5 E9))]) (Aa []) f4 [.sl (.int .u8) l] []) (fun y:List Ty×Bool×List Ty×Nat=>((.tup [.agg [.ref 0 0 y.1.length],.agg [.ref 1 0 y.2.2.2]],[some (.row y.2.1 none TCd y.1),R0 TCd y.2.2.1]):V×List (Option Blk))) (fun y=>nmL y.1=true/\1<=y.1.length/\y.1.length<=30/\nmL y.2.2.1=true/\1<=y.2.2.2/\y.2.2.2<=y.2.2.1.length/\y.2.2.1.length<=30):=by
 refine Ex1.of (P0 E9 l ) ?_;obtain ⟨a1,a2,a3,a4,a5,a6,a7⟩:=R6 l hc
 repeat with_reducible refine Ex1.sh ?_
 try simp only [AH,drop_zero,take_length,zero_add]
 refine Ex1.T (dcT hc) ?_;exact Ex1.P (_,_,_,_) rfl rfl ⟨a1,a2,a3,a4,a5,a6,a7⟩
theorem J8 : ∃ f:(List Int)->List Ty×Bool×List Ty×Nat,Ab prog 4 (Ent.rd1 (P1 f)).F/\∀ (l:List Int) ,((Cur.mk l 0 0).good 0)->nmL (f l ).1=true/\1<=(f l ).1.length/\(f l ).1.length<=30/\nmL (f l ).2.2.1=true/\1<=(f l ).2.2.2/\(f l ).2.2.2<=(f l ).2.2.1.length/\(f l ).2.2.1.length<=30:=by
 have ex:=fun (l:List Int)  (hc:(Cur.mk l 0 0).good 0)=>R5 l  hc
 classical
 refine ⟨fun l  => if h:(Cur.mk l 0 0).good 0 then (ex l  h).choose else ([],false,[],0),?_,fun l  hc=>?_⟩
 rotate_left
 ·simp only [dif_pos hc];exact (ex l  hc).choose_spec.2
 refine fcC (kc func11 Q0 KnowsL.nil).knows (Λ:=(Aa [])) func4 fun vs bs r hq=>?_
 unfold Ent.F P1 at hq;dsimp only at hq;split at hq
 ·rename_i l ;obtain ⟨hc,hx⟩:=Ae hq;have hc:=of_decide_eq_true hc;refine ⟨Aq _,((ex l  hc).choose_spec.1).trans ?_⟩;rw [dif_pos hc] at hx;exact hx
 ·cases hq
noncomputable def E7:(List Int)->List Ty×Bool×List Ty×Nat:=J8.choose
theorem Qx:Ab prog 4 (Ent.rd1 (P1 E7)).F:=J8.choose_spec.1
theorem R4 : ∀ (l:List Int) ,((Cur.mk l 0 0).good 0)->nmL (E7 l ).1=true/\1<=(E7 l ).1.length/\(E7 l ).1.length<=30/\nmL (E7 l ).2.2.1=true/\1<=(E7 l ).2.2.2/\(E7 l ).2.2.2<=(E7 l ).2.2.1.length/\(E7 l ).2.2.1.length<=30:=J8.choose_spec.2
mutual
def CA:Rose Lab->Rose Lab->Bool
 | .node y ks,a=>if a.lab.1≠y.1\/y.2.2.2.2.1<a.lab.2.2.2.2.1 then false else if y.1=4 then IX ks a.kids else Hf a.kids ks
def IX:RL->RL->Bool
 | [],_=>true
 | p::_,zs=>CA p (hd0 zs)
def Hf (zs:RL):RL->Bool
 | []=>true
 | p::ks=>(AC p.lab.2.2.1 zs&&((!p.lab.2.2.2.1||(byR p.lab.2.2.1 zs).lab.2.2.2.1)&&CA p (byR p.lab.2.2.1 zs)))&&Hf zs ks
end
def Eu (a:Rose Lab) (ks:RL) (i:Nat):Bool:=if a.lab.1=4 then (if i=0 then IX ks a.kids else true) else Hf a.kids (ks.drop i)
def L0 (n:Nat):Gm
 | [.tp LCd a 0,.tp LCd b 0],[]=>.need (decide (Ac a=true/\Ac b=true/\Af b<=n/\Af b<=1000000/\Af a<=1000000)) (.leaf (.b (CA b a),[]))
 | _,_=>.no
def EP (n:Nat):LoopEnt:=⟨83,[0,32,33,34],[],[4],fun
 | ([.tp LCd a 0,.sl (.tree LCd) ks,.j c,.j i],[])=>.need (decide (0<=i/\i.toNat<=ks.length/\c=ks.length/\Ac a=true/\ks.all Ac=true/\(a.lab.1=4->ks.length=1)/\Ai ks<=n/\Ai ks<=1000000/\Af a<=1000000)) (.br (Eu a ks i.toNat) (.leaf (.exit 0,([],[]))) (.leaf (.ret,([.b false],[]))))
 | _=>.no⟩
abbrev Ls (n:Nat):FuncId->Option Ent:=Aa [(29,.rd1 H8),(21,.rd1 (L0 n))]
theorem Iu (n:Nat) (a:Rose Lab) (ks:RL) (c i:Int):AD prog (Ls n) (Aa [(4,EP n)]) 0 (body f21 0) (EP n) ([.tp LCd a 0,.sl (.tree LCd) ks,.j c,.j i],[]) =
 ((ifB (decide (i<c)) (ifT (decide (0<=i)&&decide (i<(↑ks.length:Int))) (Am ks[i.toNat]? fun z=>ifB (a.lab.1==(4:Int)) (ifT (decide (0<=i)&&decide (i
 < (↑a.kids.length:Int))) (Am a.kids[i.toNat]? fun z_1=>ifT (decide (Ac z_1=true/\Ac z=true/\Af z<=n/\Af z<=1000000/\Af z_1<=
 1000000)) (ifB (!CA z z_1) rF (some (Ex.normal,[V.tp LCd a 0,V.sl LCd.tree ks,V.j c,V.j (i64.wrap (i
 + 1))],[]))))) (ifT (decide (a.kids.length<=maxI)) (ifB (AC (Rose.lab z).2.2.1 a.kids) (ifB (Rose.lab z).2.2.2.1 (ifB (!(byR (Rose.lab z).2.2.1
 a.kids).lab.2.2.2.1) rF (ifT (decide (Ac (byR (Rose.lab z).2.2.1 a.kids)=true/\Ac z=true/\Af z<=n/\Af z<=
 1000000/\Af (byR (Rose.lab z).2.2.1 a.kids)<=1000000)) (ifB (!CA z (byR (Rose.lab z).2.2.1 a.kids)) rF
 (some (Ex.normal,[V.tp LCd a 0,V.sl LCd.tree ks,V.j c,V.j (i64.wrap (i+1))],[]))))) (ifT (decide (Ac (byR (Rose.lab z).2.2.1
 a.kids)=true/\Ac z=true/\Af z<=n/\Af z<=1000000/\Af (byR (Rose.lab z).2.2.1 a.kids)<=1000000)) (ifB (!CA z (byR (Rose.lab
 z).2.2.1 a.kids)) rF (some (Ex.normal,[V.tp LCd a 0,V.sl LCd.tree ks,V.j c,V.j (i64.wrap (i+1))],
 []))))) rF)))) (some (Ex.exit 0,[],[]))):_):=by kernel_rfl
theorem Ob (n:Nat) (a b:Rose Lab):BX prog (Ls n) (Aa [(4,EP n)]) f21 [.tp LCd a 0,.tp LCd b 0] [] =
 ((ifB (a.lab.1 != b.lab.1) nF (ifB (decide (a.lab.2.2.2.2.1>b.lab.2.2.2.2.1)) nF (ifT (decide ((0:Int)<=
 (0:Int)/\0<=b.kids.length/\(↑b.kids.length:Int)=(↑b.kids.length:Int)/\Ac a=true/\b.kids.all Ac=true/\(a.lab.1=(4:(Cd.int
 .i64).den)->b.kids.length=1)/\Ai b.kids<=n/\Ai b.kids<=1000000/\Af a<=1000000)) (ifB (Eu a b.kids 0) (some (V.b true,
 [])) nF)))):_):=by kernel_rfl

theorem JK (n:Nat) (a:Rose Lab) (ha:Ac a=true) (ks:RL) (hks:ks.all Ac=true) (h4:a.lab.1=4->ks.length=1) (hcn:Ai ks<=n) (hc6:Ai ks<=1000000) (hca:Af a<=1000000) : ∀ (j i:Nat),i+j=ks.length->∀ ex d,(Br.br (Eu a ks i) (.leaf (.exit 0,([],[]))) (.leaf (.ret,([.b false],[]))):Br (Ex×Dt)).run=some (ex,d)->Runs prog (Ls n) (Aa [(4,EP n)]) 0 (body f21 0) (EP n) ([.tp LCd a 0,.sl (.tree LCd) ks,.j (ks.length:Int),.j (i:Int)],[]) ex d
 | 0,i,hi,ex,d,h=>by
  have hr:=Iu n a ks ks.length i;rw [Ah (dcF (by omega))] at hr
  have e:Eu a ks i=true:=by
   unfold Eu;rw [drop_eq_nil_of_le (by omega)];split
   ·rename_i q;have:=h4 q;rw [if_neg (by omega)]
   ·rfl
  rw [RH e] at h;obtain ⟨rfl,rfl⟩:=lfP h;exact stp hr
 | j+1,i,hi,ex,d,h=>by
  have hl:i<ks.length:=by omega
  have hM:=mxI;have hr:=Iu n a ks ks.length i;have hlen:=AK ks;have W1:i64.wrap ((i:Int)+1)=((i+1:Nat):Int):=by rw [Ba (by omega) (by omega)]; omega
  have hd:=drop_eq_getElem_cons hl;have hm:=getElem_mem hl;have hrz:=all_eq_true.1 hks _ hm;have hcz:=AU hm;have hka:=AF a;have hla:=AK a.kids
  have bad : ∀ {w},AD prog (Ls n) (Aa [(4,EP n)]) 0 (body f21 0) (EP n) ([.tp LCd a 0,.sl (.tree LCd) ks,.j (ks.length:Int),.j (i:Int)],[])=w->w=some ((.ret:Ex),(([.b false]:List V),([]:List (Option Blk))))->Eu a ks i=false->Runs prog (Ls n) (Aa [(4,EP n)]) 0 (body f21 0) (EP n) ([.tp LCd a 0,.sl (.tree LCd) ks,.j (ks.length:Int),.j (i:Int)],[]) ex d:=fun e1 e2 e3=>by
   rw [RI e3] at h;obtain ⟨rfl,rfl⟩:=lfP h;exact .stop _ _ _ (e1.trans e2) (by simp)
  have good : ∀ {w},AD prog (Ls n) (Aa [(4,EP n)]) 0 (body f21 0) (EP n) ([.tp LCd a 0,.sl (.tree LCd) ks,.j (ks.length:Int),.j (i:Int)],[])=w->w=some ((.normal:Ex),(([.tp LCd a 0,.sl (.tree LCd) ks,.j (ks.length:Int),.j ((i+1:Nat):Int)],[]):Dt))->Eu a ks i=Eu a ks (i+1)->Runs prog (Ls n) (Aa [(4,EP n)]) 0 (body f21 0) (EP n) ([.tp LCd a 0,.sl (.tree LCd) ks,.j (ks.length:Int),.j (i:Int)],[]) ex d:=fun e1 e2 e3=>
   sts (e1.trans e2) (JK n a ha ks hks h4 hcn hc6 hca j (i+1) (by omega) ex d (by rw [<-e3]; exact h))
  rw [Aj (dcT (by omega)),T2 (by omega),ntN,gtE hl,Ao,W1] at hr
  by_cases q4:a.lab.1=4
  ·have hk1:=h4 q4;obtain ⟨ka,kb⟩:=Cz ha q4;obtain rfl:i=0:=by omega
   have e0:Eu a ks 0=CA ks[0] (hd0 a.kids):=by
    unfold Eu;rw [if_pos q4,if_pos rfl]
    match ks,hl with
    | p::ks,_=>rw [IX]; rfl
   have e1:Eu a ks (0+1)=true:=by unfold Eu; rw [if_pos q4,if_neg (by omega)]
   have hz:0<a.kids.length:=by omega
   have hx:a.kids[0]=hd0 a.kids:=by
    match hk:a.kids,hz with
    | x::xs,_=>rfl
   have hxr:=all_eq_true.1 kb _ (getElem_mem hz);have hxc:=AU (getElem_mem hz);rw [Aj (beq_iff_eq.2 q4),T2 (by omega),gtE hz,Ao,Ag (dcT ⟨hxr,hrz,by omega,by omega,by omega⟩),hx] at hr
   cases hs:CA ks[0] (hd0 a.kids) with
   | false=>rw [hs] at hr; exact bad hr rfl (e0.trans hs)
   | true=>rw [hs] at hr; exact good hr rfl ((e0.trans hs).trans e1.symm)
  ·have hal:=(Fh ha).2
   have e0:Eu a ks i=((AC ks[i].lab.2.2.1 a.kids&&((!ks[i].lab.2.2.2.1||(byR ks[i].lab.2.2.1 a.kids).lab.2.2.2.1)&&CA ks[i] (byR ks[i].lab.2.2.1 a.kids)))&&Eu a ks (i+1)):=by
    unfold Eu;rw [if_neg q4,if_neg q4,hd,Hf]
   rw [Ah (beq_eq_false_iff_ne.2 q4),Ag (dcT (by omega))] at hr;generalize ks[i]=p at hr e0 hrz hcz
   cases hn:AC p.lab.2.2.1 a.kids with
   | false=>rw [hn] at hr e0; exact bad hr rfl (by rw [e0]; rfl)
   | true=>
    obtain ⟨bm,bn⟩:=DI hn;have hxr:=(Dv hal _ bm).2;have hxc:=AU bm;rw [hn] at hr e0;simp only [Bs,Ag (dcT (show Ac (byR p.lab.2.2.1 a.kids)=true/\Ac p=true/\Af p<=n/\Af p<=1000000/\Af (byR p.lab.2.2.1 a.kids)<=1000000 from ⟨hxr,hrz,by omega,by omega,by omega⟩))] at hr
    cases hmu:p.lab.2.2.2.1 with
    | true=>
     rw [hmu] at hr e0
     cases hmx:(byR p.lab.2.2.1 a.kids).lab.2.2.2.1 with
     | false=>rw [hmx] at hr e0; exact bad hr rfl (by rw [e0]; rfl)
     | true=>
      rw [hmx] at hr e0
      cases hs:CA p (byR p.lab.2.2.1 a.kids) with
      | false=>rw [hs] at hr e0; exact bad hr rfl (by rw [e0]; rfl)
      | true=>rw [hs] at hr e0; exact good hr rfl (by rw [e0]; rfl)
    | false=>
     rw [hmu] at hr e0
     cases hs:CA p (byR p.lab.2.2.1 a.kids) with
     | false=>rw [hs] at hr e0; exact bad hr rfl (by rw [e0]; rfl)
     | true=>rw [hs] at hr e0; exact good hr rfl (by rw [e0]; rfl)
theorem QN (n:Nat):Az prog (Ls n) (Aa [(4,EP n)]) 0 (f21.body.getD .skip):=by
 refine Aw (a:=body f21 0) (by kernel_rfl) fun d ex d' h=>?_
 unfold EP at h;dsimp only at h;split at h
 ·rename_i a ks c i;obtain ⟨hc,hx⟩:=Ae h;obtain ⟨h0,h1,rfl,h3,h4,h5,h6,h7,h8⟩:=of_decide_eq_true hc;obtain ⟨i,rfl⟩:=eq_ofNat_of_zero_le h0;simp only [ntN] at h1 hx;exact JK n a h3 ks h4 h5 h6 h7 h8 (ks.length-i) i (by omega) ex d' hx
 ·cases h
theorem Mx (b a:Rose Lab):CA b a=if a.lab.1≠b.lab.1\/b.lab.2.2.2.2.1<a.lab.2.2.2.2.1 then false else if b.lab.1=4 then IX b.kids a.kids else Hf a.kids b.kids:=by
 obtain ⟨y,ks⟩:=b;rw [CA]; rfl
theorem BL {z:Rose Lab} (h:Ac z=true):z.kids.all Ac=true:=all_eq_true.2 fun y hy=>(Dv (Fh h).2 y hy).2
theorem PL : ∀ n,(∀ m,m<n->Ab prog 21 (Ent.rd1 (L0 m)).F)->Ab prog 21 (Ent.rd1 (L0 n)).F
 | 0,_=>AN fun vs bs=>by
  unfold Ent.F L0;dsimp only;split
  ·rename_i a b;have hz:=Cf b;have:decide (Ac a=true/\Ac b=true/\Af b<=0/\Af b<=1000000/\Af a<=1000000)=false:=dcF (by omega);rw [this]; rfl
  ·rfl
 | n+1,ihs=>by
  have ih:=ihs n (lt_succ_self n);refine fcC (kc func29 OS (kc func21 ih KnowsL.nil)).knows (Λ:=(Aa [(4,EP n)])) func21 fun vs bs r hq=>?_
  unfold Ent.F L0 at hq;dsimp only at hq;split at hq
  ·rename_i a b;obtain ⟨hc,hx⟩:=Ae hq;obtain ⟨h1,h2,h3,h4,h5⟩:=of_decide_eq_true hc;refine ⟨QN n,(Ob n a b).trans (Eq.trans ?_ hx)⟩;show _=some _;rw [Mx];have hkb:=AF b
   by_cases q1:a.lab.1=b.lab.1
   ·rw [Ah (bne_eq_false_iff_eq.2 q1)]
    by_cases q2:b.lab.2.2.2.2.1<a.lab.2.2.2.2.1
    ·rw [Aj (dcT q2),if_pos (.inr q2)]
    ·rw [Ah (dcF q2),if_neg (by rintro (h | h); exact h q1; exact q2 h),Ag (dcT ⟨by omega,by omega,rfl,h1,BL h2,fun h=>(Cz h2 (q1.symm.trans h)).1,by omega,by omega,h5⟩)]
     have e:Eu a b.kids 0=if b.lab.1=4 then IX b.kids a.kids else Hf a.kids b.kids:=by
      unfold Eu;rw [q1,if_pos rfl,drop_zero]
     rw [e];cases (if b.lab.1=4 then IX b.kids a.kids else Hf a.kids b.kids)<;>rfl
   ·rw [Aj (bne_iff_ne.2 q1),if_pos (.inl q1)]
  ·cases hq
theorem PM (n:Nat):Ab prog 21 (Ent.rd1 (L0 n)).F:=Nat.strongRecOn n fun n h=>PL n h
def zR:Rose Lab:=.node (0,[],0,false,0,()) []
def noR (z:Rose Lab):Int:=z.lab.2.2.1
def Gj (a b:Int):Int:=if b<a then b else a
def Fd (a b:Int):Int:=if b>a then b else a
def shM (x y:Lab):Lab:=(x.1,x.2.1,x.2.2.1,x.2.2.2.1||y.2.2.2.1,Gj x.2.2.2.2.1 y.2.2.2.2.1,())
def shJ (x y:Lab):Lab:=(x.1,x.2.1,x.2.2.1,x.2.2.2.1&&y.2.2.2.1,Fd x.2.2.2.2.1 y.2.2.2.2.1,())
def kK (n:Int):RL->Nat
 | []=>0
 | y::o=>if noR y<n then kK n o+1 else 0
def Cc (o:RL) (z:Rose Lab):RL:=o.take (kK (noR z) o)++z::o.drop (kK (noR z) o)
def A0 (o l:RL):RL:=l.foldl Cc o
def AM (ks zs:RL):RL:=zs.filter fun q=>!AC q.lab.2.2.1 ks
mutual
def meB:Rose Lab->Rose Lab->Bool
 | .node x ks,b=>if x.1≠b.lab.1 then false else if x.1=4 then LO ks b.kids else Bw b.kids ks
def LO:RL->RL->Bool
 | [],_=>false
 | p::_,zs=>meB p (hd0 zs)
def Bw (zs:RL):RL->Bool
 | []=>true
 | p::ks=>(!AC p.lab.2.2.1 zs||meB p (byR p.lab.2.2.1 zs))&&Bw zs ks
end
mutual
def meV:Rose Lab->Rose Lab->Rose Lab
 | .node x ks,b=>if x.1≠b.lab.1 then zR else if x.1=4 then .node (shM x b.lab) [LM ks b.kids] else bif Bw b.kids ks then .node (shM x b.lab) (A0 [] (Bv b.kids ks++AM ks b.kids)) else zR
def LM:RL->RL->Rose Lab
 | [],_=>zR
 | p::_,zs=>meV p (hd0 zs)
def Bv (zs:RL):RL->RL
 | []=>[]
 | p::ks=>(bif AC p.lab.2.2.1 zs then meV p (byR p.lab.2.2.1 zs) else p)::Bv zs ks
end
mutual
def joB:Rose Lab->Rose Lab->Bool
 | .node x ks,b=>if x.1≠b.lab.1 then false else if x.1=4 then KN ks b.kids else true
def KN:RL->RL->Bool
 | [],_=>false
 | p::_,zs=>joB p (hd0 zs)
end
mutual
def joV:Rose Lab->Rose Lab->Rose Lab
 | .node x ks,b=>if x.1≠b.lab.1 then zR else if x.1=4 then .node (shJ x b.lab) [KM ks b.kids] else .node (shJ x b.lab) (Bb b.kids ks)
def KM:RL->RL->Rose Lab
 | [],_=>zR
 | p::_,zs=>joV p (hd0 zs)
def Bb (zs:RL):RL->RL
 | []=>[]
 | p::ks=>bif AC p.lab.2.2.1 zs&&joB p (byR p.lab.2.2.1 zs) then joV p (byR p.lab.2.2.1 zs)::Bb zs ks else Bb zs ks
end
mutual
def hoR:Rose Lab->Bool
 | .node x ks=>(Au x.1||ks.isEmpty)&&hoL ks
def hoL:RL->Bool
 | []=>true
 | z::l=>hoR z&&hoL l
end
theorem OL (a b:Int):Gj a b<=a/\Gj a b<=b:=by unfold Gj; split<;>omega
theorem Of (a b:Int):a<=Fd a b/\b<=Fd a b:=by unfold Fd; split<;>omega
theorem Hr (z y:Rose Lab) (o:RL):Cc (y::o) z=if noR y<noR z then y::Cc o z else z::y::o:=by
 unfold Cc;rw [kK];split
 ·rw [List.take_succ_cons,List.drop_succ_cons,cons_append]
 ·rfl
theorem M0 (z:Rose Lab):Cc [] z=[z]:=rfl
theorem Ph (n:Int) : ∀ o:RL,kK n o<=o.length
 | []=>Nat.le_refl _
 | y::o=>by
  have:=Ph n o;rw [kK,length_cons];split<;>omega
theorem F8 (z:Rose Lab) (o:RL):(Cc o z).length=o.length+1:=by
 have:=Ph (noR z) o;unfold Cc;rw [length_append,length_cons,List.length_take,length_drop];omega
theorem Jh {z x:Rose Lab} {o:RL}:x∈Cc o z↔x=z\/x∈o:=by
 have h:x∈o↔x∈o.take (kK (noR z) o)\/x∈o.drop (kK (noR z) o):=by rw [<-mem_append,List.take_append_drop]
 unfold Cc;rw [mem_append,mem_cons,h];constructor
 ·rintro (h | h | h)
  ·exact .inr (.inl h)
  ·exact .inl h
  ·exact .inr (.inr h)
 ·rintro (h | h | h)
  ·exact .inr (.inl h)
  ·exact .inl h
  ·exact .inr (.inr h)
theorem Oz {z:Rose Lab} : ∀ {o:RL},o.Pairwise KR->(∀ y∈o,noR y≠noR z)->(Cc o z).Pairwise KR
 | [],_,_=>by rw [M0]; simp
 | y::o,hp,hn=>by
  rw [pairwise_cons] at hp;rw [Hr];have hy:=hn y mem_cons_self;split
  ·rename_i q;rw [pairwise_cons];refine ⟨fun x hx=>?_,Oz hp.2 fun x hx=>hn x (mem_cons_of_mem _ hx)⟩;rcases Jh.1 hx with rfl | hx
   ·exact q
   ·exact hp.1 x hx
  ·rename_i q;rw [pairwise_cons,pairwise_cons];refine ⟨fun x hx=>?_,hp.1,hp.2⟩;have q2:noR z<noR y:=by omega
   rcases mem_cons.1 hx with rfl | hx
   ·exact q2
   ·have:=hp.1 x hx;unfold KR noR at *;omega
theorem DB {x:Rose Lab} : ∀ {l o:RL},x∈A0 o l↔x∈o\/x∈l
 | [],o=>by unfold A0; simp
 | z::l,o=>by
  show x∈A0 (Cc o z) l↔_;rw [DB,Jh,mem_cons];constructor
  ·rintro ((h | h) | h)
   ·exact .inr (.inl h)
   ·exact .inl h
   ·exact .inr (.inr h)
  ·rintro (h | h | h)
   ·exact .inl (.inr h)
   ·exact .inl (.inl h)
   ·exact .inr h
theorem F7 : ∀ (l o:RL),(A0 o l).length=o.length+l.length
 | [],o=>rfl
 | z::l,o=>by
  show (A0 (Cc o z) l).length=_;rw [F7,F8,length_cons]; omega
theorem Oy (o l m:RL):A0 o (l++m)=A0 (A0 o l) m:=by unfold A0; rw [List.foldl_append]
def NR (a b:Rose Lab):Prop:=noR a≠noR b
theorem Jg : ∀ {l o:RL},o.Pairwise KR->l.Pairwise NR->(∀ z∈l,∀ y∈o,noR y≠noR z)->(A0 o l).Pairwise KR
 | [],o,ho,_,_=>ho
 | z::l,o,ho,hl,hd=>by
  rw [pairwise_cons] at hl;show (A0 (Cc o z) l).Pairwise KR;refine Jg (Oz ho (hd z mem_cons_self)) hl.2 fun y hy x hx=>?_
  rcases Jh.1 hx with rfl | hx
  ·exact hl.1 y hy
  ·exact hd y (mem_cons_of_mem _ hy) x hx
theorem M1 {z:Rose Lab} : ∀ {o:RL},(∀ y∈o,noR y<noR z)->Cc o z=o++[z]
 | [],_=>rfl
 | y::o,h=>by rw [Hr,if_pos (h y mem_cons_self),M1 fun x hx=>h x (mem_cons_of_mem _ hx)]; rfl
theorem Kb : ∀ {l o:RL},(o++l).Pairwise KR->A0 o l=o++l
 | [],o,_=>by unfold A0; simp
 | z::l,o,h=>by
  show A0 (Cc o z) l=_;have h':=List.pairwise_append.1 h;rw [M1 fun y hy=>h'.2.2 y hy z mem_cons_self,Kb (by rw [append_assoc]; exact h),append_assoc];rfl
theorem OR : ∀ (a b:RL),a.Pairwise KR->b.Pairwise KR->(∀ x,x∈a↔x∈b)->a=b
 | [],[],_,_,_=>rfl
 | [],y::b,_,_,h=>absurd ((h y).2 mem_cons_self) (by simp)
 | x::a,[],_,_,h=>absurd ((h x).1 mem_cons_self) (by simp)
 | x::a,y::b,ha,hb,h=>by
  rw [pairwise_cons] at ha hb
  have e:x=y:=by
   rcases mem_cons.1 ((h x).1 mem_cons_self) with e | e
   ·exact e
   ·rcases mem_cons.1 ((h y).2 mem_cons_self) with e2 | e2
    ·exact e2.symm
    ·have h1:=hb.1 x e;have h2:=ha.1 y e2;unfold KR at h1 h2;omega
  subst e;rw [OR a b ha.2 hb.2 fun z=>⟨fun hz=>?_,fun hz=>?_⟩]
  ·rcases mem_cons.1 ((h z).1 (mem_cons_of_mem _ hz)) with e | e
   ·have h1:=ha.1 z hz;subst e;unfold KR at h1;omega
   ·exact e
  ·rcases mem_cons.1 ((h z).2 (mem_cons_of_mem _ hz)) with e | e
   ·have h1:=hb.1 z hz;subst e;unfold KR at h1;omega
   ·exact e
theorem J3 {n:Int} {l:RL}:AC n l=true↔∃ z∈l,noR z=n:=by
 unfold AC;rw [List.any_eq_true];constructor
 ·rintro ⟨z,h1,h2⟩; exact ⟨z,h1,of_decide_eq_true h2⟩
 ·rintro ⟨z,h1,h2⟩; exact ⟨z,h1,dcT h2⟩
theorem EZ {z:Rose Lab} {l:RL} {n:Int} (hl:l.Pairwise KR) (h:z∈l) (hn:noR z=n):AC n l=true/\byR n l=z:=⟨J3.2 ⟨z,h,hn⟩,Ia hl h hn⟩
theorem FX {n:Int} {l:RL} (hl:l.Pairwise KR) (h:AC n l=true):byR n l∈l/\noR (byR n l)=n:=by
 obtain ⟨z,h1,h2⟩:=J3.1 h;rw [Ia hl h1 h2];exact ⟨h1,h2⟩
theorem CI (zs:RL) : ∀ ks:RL,Bv zs ks=ks.map fun p=>bif AC p.lab.2.2.1 zs then meV p (byR p.lab.2.2.1 zs) else p
 | []=>rfl
 | p::ks=>by rw [Bv,CI zs ks]; rfl
theorem DD {zs:RL} : ∀ {ks:RL},Bw zs ks=true↔∀ p∈ks,AC p.lab.2.2.1 zs=true->meB p (byR p.lab.2.2.1 zs)=true
 | []=>by rw [Bw]; simp
 | p::ks=>by
  rw [Bw,anE,DD,List.forall_mem_cons,or_eq_true];cases AC p.lab.2.2.1 zs<;>simp
theorem Dl {zs:RL} {z:Rose Lab} : ∀ {ks:RL},z∈Bb zs ks↔∃ p∈ks,AC p.lab.2.2.1 zs=true/\joB p (byR p.lab.2.2.1 zs)=true/\z=joV p (byR p.lab.2.2.1 zs)
 | []=>by rw [Bb]; simp
 | p::ks=>by
  rw [Bb]
  cases h:AC p.lab.2.2.1 zs&&joB p (byR p.lab.2.2.1 zs) with
  | true=>
   rw [cond_true,mem_cons,Dl];rw [anE] at h;constructor
   ·rintro (h2 | ⟨q,h2,h3⟩)
    ·exact ⟨p,mem_cons_self,h.1,h.2,h2⟩
    ·exact ⟨q,mem_cons_of_mem _ h2,h3⟩
   ·rintro ⟨q,h2,h3⟩
    rcases mem_cons.1 h2 with rfl | h2
    ·exact .inl h3.2.2
    ·exact .inr ⟨q,h2,h3⟩
  | false=>
   rw [cond_false,Dl];constructor
   ·rintro ⟨q,h2,h3⟩
    exact ⟨q,mem_cons_of_mem _ h2,h3⟩
   ·rintro ⟨q,h2,h3⟩
    rcases mem_cons.1 h2 with rfl | h2
    ·rw [h3.1,h3.2.1] at h; cases h
    ·exact ⟨q,h2,h3⟩
theorem Ks : ∀ {a b:Rose Lab},meB a b=true->noR (meV a b)=noR a/\(meV a b).lab=shM a.lab b.lab/\a.lab.1=b.lab.1
 | .node x ks,b,h=>by
  rw [meB] at h;rw [meV]
  by_cases h1:x.1≠b.lab.1
  ·rw [if_pos h1] at h; cases h
  ·rw [if_neg h1] at h ⊢;have e:x.1=b.lab.1:=Classical.not_not.1 h1
   by_cases h2:x.1=4
   ·rw [if_pos h2]; exact ⟨rfl,rfl,e⟩
   ·rw [if_neg h2] at h ⊢;rw [h,cond_true]; exact ⟨rfl,rfl,e⟩
theorem GD : ∀ {a b:Rose Lab},joB a b=true->noR (joV a b)=noR a/\(joV a b).lab=shJ a.lab b.lab/\a.lab.1=b.lab.1
 | .node x ks,b,h=>by
  rw [joB] at h;rw [joV]
  by_cases h1:x.1≠b.lab.1
  ·rw [if_pos h1] at h; cases h
  ·rw [if_neg h1] at h ⊢;have e:x.1=b.lab.1:=Classical.not_not.1 h1
   by_cases h2:x.1=4
   ·rw [if_pos h2]; exact ⟨rfl,rfl,e⟩
   ·rw [if_neg h2]; exact ⟨rfl,rfl,e⟩
theorem B4 {z:Rose Lab} (h:Ac z=true) (h4:z.lab.1≠4):z.kids.Pairwise KR:=by
 by_cases h5:z.lab.1=5
 ·exact Qh h h5
 ·have hp:=(Cq h).1
  have:z.kids=[]:=by
   have hk:=Dw hp;unfold B8 at hp;split at hp
   ·rw [anE] at hp; simpa using hp.2
   ·split at hp
    ·rw [anE] at hp; simpa using hp.2
    ·omega
  rw [this]; exact .nil
theorem A5 {z p:Rose Lab} (h:Ac z=true) (hp:p∈z.kids):Ac p=true:=all_eq_true.1 (BL h) p hp
theorem Bd {z:Rose Lab} (h:Ac z=true) (h4:z.lab.1=4) : ∃ p,z.kids=[p]/\Ac p=true:=by
 have hp:=(Cq h).1;have hk:=Dw hp;have hl:z.kids.length=1:=by omega
 obtain ⟨p,e⟩:=List.length_eq_one_iff.1 hl;exact ⟨p,e,A5 h (by rw [e]; exact mem_cons_self)⟩
theorem QG {ks zs:RL} (hk:ks.Pairwise KR) (hz:zs.Pairwise KR) (hb:Bw zs ks=true):(Bv zs ks++AM ks zs).Pairwise NR:=by
 have hn : ∀ p∈ks,noR (bif AC p.lab.2.2.1 zs then meV p (byR p.lab.2.2.1 zs) else p)=noR p:=fun p hp=>by
  cases h:AC p.lab.2.2.1 zs with
  | true=>exact (Ks (DD.1 hb p hp h)).1
  | false=>rfl
 rw [CI];refine List.pairwise_append.2 ⟨?_,?_,fun x hx y hy=>?_⟩
 ·rw [List.pairwise_map];refine List.Pairwise.imp_of_mem (fun {a b} ha hb h=>?_) hk;unfold NR;rw [hn a ha,hn b hb];unfold KR at h;unfold noR;omega
 ·refine (List.Pairwise.filter _ hz).imp fun h=>?_
  unfold KR at h;unfold NR noR;omega
 ·obtain ⟨p,hp,rfl⟩:=mem_map.1 hx;unfold AM at hy;obtain ⟨h1,h2⟩:=List.mem_filter.1 hy;unfold NR;rw [hn p hp];intro e;have:AC y.lab.2.2.1 ks=true:=J3.2 ⟨p,hp,e⟩;rw [this] at h2; cases h2
theorem PZ {ks zs:RL} (hk:ks.Pairwise KR) (hz:zs.Pairwise KR) (hb:Bw zs ks=true):(A0 [] (Bv zs ks++AM ks zs)).Pairwise KR/\
  (∀ p∈ks,AC p.lab.2.2.1 zs=true->meV p (byR p.lab.2.2.1 zs)∈A0 [] (Bv zs ks++AM ks zs))/\
  (∀ p∈ks,AC p.lab.2.2.1 zs=false->p∈A0 [] (Bv zs ks++AM ks zs))/\
  (∀ q∈zs,AC q.lab.2.2.1 ks=false->q∈A0 [] (Bv zs ks++AM ks zs)):=by
 refine ⟨Jg .nil (QG hk hz hb) (fun _ _ _ h=>by cases h),fun p hp h=>?_,fun p hp h=>?_,fun q hq h=>?_⟩
 ·rw [DB,mem_append,CI];exact .inr (.inl (mem_map.2 ⟨p,hp,by rw [h]; rfl⟩))
 ·rw [DB,mem_append,CI];exact .inr (.inl (mem_map.2 ⟨p,hp,by rw [h]; rfl⟩))
 ·rw [DB,mem_append];exact .inr (.inr (List.mem_filter.2 ⟨hq,by rw [h]; rfl⟩))
theorem CB {zs:RL} : ∀ {ks:RL},Hf zs ks=true↔∀ p∈ks,AC (noR p) zs=true/\(p.lab.2.2.2.1=true->(byR (noR p) zs).lab.2.2.2.1=true)/\CA p (byR (noR p) zs)=true
 | []=>by rw [Hf]; simp
 | p::ks=>by
  rw [Hf,anE,CB,List.forall_mem_cons,anE,anE];have e:noR p=p.lab.2.2.1:=rfl;rw [e];cases p.lab.2.2.2.1<;>simp [and_assoc]
theorem De {b a:Rose Lab}:CA b a=true↔a.lab.1=b.lab.1/\a.lab.2.2.2.2.1<=b.lab.2.2.2.2.1/\(if b.lab.1=4 then IX b.kids a.kids else Hf a.kids b.kids)=true:=by
 rw [Mx]
 by_cases h:a.lab.1≠b.lab.1\/b.lab.2.2.2.2.1<a.lab.2.2.2.2.1
 ·rw [if_pos h];constructor
  ·intro q; cases q
  ·rintro ⟨h1,h2,_⟩; omega
 ·rw [if_neg h];have h1:a.lab.1=b.lab.1:=by omega
  have h2:a.lab.2.2.2.2.1<=b.lab.2.2.2.2.1:=by omega
  exact ⟨fun q=>⟨h1,h2,q⟩,fun q=>q.2.2⟩
theorem CC (p q:Rose Lab):IX [p] [q]=CA p q:=by rw [IX]; rfl
theorem CF {Q:Rose Lab->Prop} (h : ∀ z,(∀ p∈z.kids,Q p)->Q z) : ∀ z,Q z
 | .node x ks=>h _ fun p hp=>by
  have:Af p<Af (.node x ks:Rose Lab):=by have:=AU hp; rw [Af]; exact Nat.lt_succ_of_le this
  exact CF h p
termination_by z=>Af z
theorem JQ : ∀ z:Rose Lab,Ac z=true->CA z z=true:=CF fun z ih hr=>by
 refine De.2 ⟨rfl,Int.le_refl _,?_⟩
 by_cases h4:z.lab.1=4
 ·rw [if_pos h4];obtain ⟨p,e,hp⟩:=Bd hr h4;rw [e,CC];exact ih p (by rw [e]; exact mem_cons_self) hp
 ·rw [if_neg h4];refine CB.2 fun p hp=>?_
  obtain ⟨h1,h2⟩:=EZ (B4 hr h4) hp rfl;rw [h2];exact ⟨h1,id,ih p hp (A5 hr hp)⟩
theorem H0 (a b:Rose Lab):meV a b=if a.lab.1≠b.lab.1 then zR else if a.lab.1=4 then .node (shM a.lab b.lab) [LM a.kids b.kids] else bif Bw b.kids a.kids then .node (shM a.lab b.lab) (A0 [] (Bv b.kids a.kids++AM a.kids b.kids)) else zR:=by
 cases a; rw [meV]; rfl
theorem LN (a b:Rose Lab):meB a b=if a.lab.1≠b.lab.1 then false else if a.lab.1=4 then LO a.kids b.kids else Bw b.kids a.kids:=by
 cases a; rw [meB]; rfl
theorem Fs (a b:Rose Lab):joV a b=if a.lab.1≠b.lab.1 then zR else if a.lab.1=4 then .node (shJ a.lab b.lab) [KM a.kids b.kids] else .node (shJ a.lab b.lab) (Bb b.kids a.kids):=by
 cases a; rw [joV]; rfl
theorem HF (a b:Rose Lab):joB a b=if a.lab.1≠b.lab.1 then false else if a.lab.1=4 then KN a.kids b.kids else true:=by
 cases a; rw [joB]; rfl
theorem OI : ∀ a:Rose Lab,Ac a=true->∀ b:Rose Lab,Ac b=true->meB a b=true->CA a (meV a b)=true/\CA b (meV a b)=true:=CF fun a ih ha b hb h=>by
 obtain ⟨_,hlab,hk⟩:=Ks h;have e1:(meV a b).lab.1=a.lab.1:=by rw [hlab]; rfl
 have e2:(meV a b).lab.2.2.2.2.1=Gj a.lab.2.2.2.2.1 b.lab.2.2.2.2.1:=by rw [hlab]; rfl
 rw [LN,if_neg (by omega)] at h;have l1:(meV a b).lab.2.2.2.2.1<=a.lab.2.2.2.2.1:=by rw [e2]; exact (OL _ _).1
 have l2:(meV a b).lab.2.2.2.2.1<=b.lab.2.2.2.2.1:=by rw [e2]; exact (OL _ _).2
 rw [De,De]
 by_cases h4:a.lab.1=4
 ·rw [if_pos h4] at h;obtain ⟨p,ep,hp⟩:=Bd ha h4;obtain ⟨q,eq,hq⟩:=Bd hb (hk ▸ h4)
  have ek:(meV a b).kids=[meV p q]:=by
   rw [H0,if_neg (by omega),if_pos h4,ep,eq,LM]; rfl
  have hm:meB p q=true:=by rw [ep,eq,LO] at h; exact h
  obtain ⟨s1,s2⟩:=ih p (by rw [ep]; exact mem_cons_self) hp q hq hm;refine ⟨⟨e1,l1,?_⟩,⟨by omega,l2,?_⟩⟩
  ·rw [if_pos h4,ep,ek,CC]; exact s1
  ·rw [if_pos (by omega),eq,ek,CC]; exact s2
 ·rw [if_neg h4] at h;have ka:=B4 ha h4;have kb:=B4 hb (by omega);obtain ⟨m1,m2,m3,m4⟩:=PZ ka kb h
  have ek:(meV a b).kids=A0 [] (Bv b.kids a.kids++AM a.kids b.kids):=by
   rw [H0,if_neg (by omega),if_neg h4,h]; rfl
  refine ⟨⟨e1,l1,?_⟩,⟨by omega,l2,?_⟩⟩
  ·rw [if_neg h4,ek];refine CB.2 fun p hp=>?_
   cases hh:AC p.lab.2.2.1 b.kids with
   | true=>
    have hm:=DD.1 h p hp hh;obtain ⟨n1,n2,_⟩:=Ks hm;obtain ⟨q1,q2⟩:=EZ m1 (m2 p hp hh) n1;obtain ⟨b1,_⟩:=FX kb hh;rw [q2];refine ⟨q1,fun hmu=>by rw [n2]; show (p.lab.2.2.2.1||_)=true; rw [hmu]; rfl,(ih p hp (A5 ha hp) _ (A5 hb b1) hm).1⟩
   | false=>
    obtain ⟨q1,q2⟩:=EZ m1 (m3 p hp hh) rfl;rw [q2];exact ⟨q1,id,JQ p (A5 ha hp)⟩
  ·rw [if_neg (by omega),ek];refine CB.2 fun q hq=>?_
   cases hh:AC q.lab.2.2.1 a.kids with
   | true=>
    obtain ⟨p1,p2⟩:=FX ka hh;generalize byR q.lab.2.2.1 a.kids=p at p1 p2;obtain ⟨b1,b2⟩:=EZ kb hq p2.symm;have hm:=DD.1 h p p1 b1;obtain ⟨n1,n2,_⟩:=Ks hm;have hin:=m2 p p1 b1;have b2:byR p.lab.2.2.1 b.kids=q:=b2;rw [b2] at hm n1 n2 hin;obtain ⟨q1,q2⟩:=EZ m1 hin (n1.trans p2);have q1:AC (noR q) _=true:=q1;have q2:byR (noR q) _=_:=q2;rw [q2];refine ⟨q1,fun hmu=>by rw [n2]; show (_||q.lab.2.2.2.1)=true; rw [hmu,Bool.or_true],(ih p p1 (A5 ha p1) _ (A5 hb hq) hm).2⟩
   | false=>
    obtain ⟨q1,q2⟩:=EZ m1 (m4 q hq hh) rfl;rw [q2];exact ⟨q1,id,JQ q (A5 hb hq)⟩
theorem Pj : ∀ a:Rose Lab,Ac a=true->∀ b:Rose Lab,Ac b=true->joB a b=true->CA (joV a b) a=true/\CA (joV a b) b=true:=CF fun a ih ha b hb h=>by
 obtain ⟨_,hlab,hk⟩:=GD h;have e1:(joV a b).lab.1=a.lab.1:=by rw [hlab]; rfl
 have e2:(joV a b).lab.2.2.2.2.1=Fd a.lab.2.2.2.2.1 b.lab.2.2.2.2.1:=by rw [hlab]; rfl
 rw [HF,if_neg (by omega)] at h;have l1:a.lab.2.2.2.2.1<=(joV a b).lab.2.2.2.2.1:=by rw [e2]; exact (Of _ _).1
 have l2:b.lab.2.2.2.2.1<=(joV a b).lab.2.2.2.2.1:=by rw [e2]; exact (Of _ _).2
 rw [De,De]
 by_cases h4:a.lab.1=4
 ·rw [if_pos h4] at h;obtain ⟨p,ep,hp⟩:=Bd ha h4;obtain ⟨q,eq,hq⟩:=Bd hb (hk ▸ h4)
  have ek:(joV a b).kids=[joV p q]:=by
   rw [Fs,if_neg (by omega),if_pos h4,ep,eq,KM]; rfl
  have hm:joB p q=true:=by rw [ep,eq,KN] at h; exact h
  obtain ⟨s1,s2⟩:=ih p (by rw [ep]; exact mem_cons_self) hp q hq hm;refine ⟨⟨e1.symm,l1,?_⟩,⟨by omega,l2,?_⟩⟩
  ·rw [if_pos (by omega),ep,ek,CC]; exact s1
  ·rw [if_pos (by omega),eq,ek,CC]; exact s2
 ·have ka:=B4 ha h4;have kb:=B4 hb (by omega)
  have ek:(joV a b).kids=Bb b.kids a.kids:=by
   rw [Fs,if_neg (by omega),if_neg h4]; rfl
  refine ⟨⟨e1.symm,l1,?_⟩,⟨by omega,l2,?_⟩⟩
  ·rw [if_neg (by omega),ek];refine CB.2 fun z hz=>?_
   obtain ⟨p,hp,j1,j2,rfl⟩:=Dl.1 hz;obtain ⟨n1,n2,_⟩:=GD j2;obtain ⟨b1,_⟩:=FX kb j1;obtain ⟨q1,q2⟩:=EZ ka hp n1.symm;rw [q2];refine ⟨q1,fun hmu=>?_,(ih p hp (A5 ha hp) _ (A5 hb b1) j2).1⟩;rw [n2] at hmu;have hmu:(p.lab.2.2.2.1&&_)=true:=hmu;exact (anE _ _ ▸ hmu).1
  ·rw [if_neg (by omega),ek];refine CB.2 fun z hz=>?_
   obtain ⟨p,hp,j1,j2,rfl⟩:=Dl.1 hz;obtain ⟨n1,n2,_⟩:=GD j2;obtain ⟨b1,b2⟩:=FX kb j1;obtain ⟨q1,q2⟩:=EZ kb b1 (b2.trans n1.symm);rw [q2];refine ⟨q1,fun hmu=>?_,(ih p hp (A5 ha hp) _ (A5 hb b1) j2).2⟩;rw [n2] at hmu;have hmu:(_&&(byR p.lab.2.2.1 b.kids).lab.2.2.2.1)=true:=hmu;exact (anE _ _ ▸ hmu).2
theorem GX {zs:RL} : ∀ {ks:RL},ks.Pairwise KR->(Bb zs ks).Pairwise KR
 | [],_=>by rw [Bb]; exact .nil
 | p::ks,h=>by
  rw [pairwise_cons] at h;rw [Bb]
  cases hh:AC p.lab.2.2.1 zs&&joB p (byR p.lab.2.2.1 zs) with
  | false=>exact GX h.2
  | true=>
   rw [anE] at hh;rw [cond_true,pairwise_cons];refine ⟨fun z hz=>?_,GX h.2⟩;obtain ⟨q,hq,j1,j2,rfl⟩:=Dl.1 hz;have h1:=h.1 q hq;have n1:=(GD hh.2).1;have n2:=(GD j2).1;unfold KR at h1 ⊢;unfold noR at n1 n2;omega
theorem Ql : ∀ b:Rose Lab,Ac b=true->∀ a:Rose Lab,Ac a=true->CA b a=true->joB a b=true/\CA b (joV a b)=true:=CF fun b ih hb a ha h=>by
 obtain ⟨hk,hm,h⟩:=De.1 h
 have hj:joB a b=true:=by
  rw [HF,if_neg (by omega)]
  by_cases h4:a.lab.1=4
  ·rw [if_pos h4];rw [if_pos (by omega)] at h;obtain ⟨p,ep,hp⟩:=Bd ha h4;obtain ⟨q,eq,hq⟩:=Bd hb (by omega);rw [ep,eq,CC] at h;rw [ep,eq,KN];exact (ih q (by rw [eq]; exact mem_cons_self) hq p hp h).1
  ·rw [if_neg h4]
 refine ⟨hj,?_⟩;obtain ⟨_,hlab,_⟩:=GD hj;have e1:(joV a b).lab.1=a.lab.1:=by rw [hlab]; rfl
 have e2:(joV a b).lab.2.2.2.2.1=Fd a.lab.2.2.2.2.1 b.lab.2.2.2.2.1:=by rw [hlab]; rfl
 refine De.2 ⟨by omega,by rw [e2]; unfold Fd; split<;>omega,?_⟩
 by_cases h4:b.lab.1=4
 ·rw [if_pos h4] at h ⊢;obtain ⟨p,ep,hp⟩:=Bd ha (by omega);obtain ⟨q,eq,hq⟩:=Bd hb h4
  have ek:(joV a b).kids=[joV p q]:=by
   rw [Fs,if_neg (by omega),if_pos (by omega),ep,eq,KM]; rfl
  rw [ep,eq,CC] at h;rw [eq,ek,CC];exact (ih q (by rw [eq]; exact mem_cons_self) hq p hp h).2
 ·rw [if_neg h4] at h ⊢;have ka:=B4 ha (by omega);have kb:=B4 hb h4
  have ek:(joV a b).kids=Bb b.kids a.kids:=by
   rw [Fs,if_neg (by omega),if_neg (by omega)]; rfl
  rw [ek];refine CB.2 fun q hq=>?_
  obtain ⟨h1,h2,h3⟩:=CB.1 h q hq;obtain ⟨p1,p2⟩:=FX ka h1;generalize byR (noR q) a.kids=p at *;obtain ⟨j1,j2⟩:=ih q hq (A5 hb hq) p (A5 ha p1) h3;obtain ⟨n1,n2,_⟩:=GD j1;obtain ⟨b1,b2⟩:=EZ kb hq p2.symm;have b2:byR p.lab.2.2.1 b.kids=q:=b2;have hin:joV p q∈Bb b.kids a.kids:=Dl.2 ⟨p,p1,b1,by rw [b2]; exact j1,by rw [b2]⟩;obtain ⟨q1,q2⟩:=EZ (GX ka) hin (n1.trans p2);rw [q2];refine ⟨q1,fun hmu=>?_,j2⟩;rw [n2];show (p.lab.2.2.2.1&&q.lab.2.2.2.1)=true;rw [h2 hmu,hmu]; rfl
def pkE:LoopEnt:=⟨43,[2,3,4,5],[2,3,4,5],[],fun
 | ([.ptr 0 0,.ptr 1 0,.ptr 2 0,.j k],[some (.box (Lt x0 x1 x2 x3 x4 xs)),some (.box (Lt y0 y1 y2 y3 y4 ys)),some (.box [.j 0,.s [],.j 0,.b false,.j 0,.ref 3 0 0]),R0 (.rose LCd) []])=>.need (decide (0<=k/\k.toNat<=xs.length/\xs.length<=1000000)) (.leaf (.exit 0,([.ptr 0 0,.ptr 1 0,.ptr 2 0,.j ((k.toNat+kK y2 (xs.drop k.toNat):Nat):Int)],[some (.box (Lt x0 x1 x2 x3 x4 xs)),some (.box (Lt y0 y1 y2 y3 y4 ys)),some (.box [.j 0,.s [],.j 0,.b false,.j 0,.ref 3 0 0]),R0 (.rose LCd) []])))
 | _=>.no⟩
def pkG:Gm
 | [.agg (Lt x0 x1 x2 x3 x4 xs),.agg (Lt y0 y1 y2 y3 y4 ys)],[]=>.need (decide (xs.length<=1000000)) (.leaf (.agg [.j x0,.s x1,.j x2,.b x3,.j x4,.ref 0 0 (Cc xs (.node (y0,y1,y2,y3,y4,()) ys:Rose Lab)).length],[R0 (.rose LCd) (Cc xs (.node (y0,y1,y2,y3,y4,()) ys:Rose Lab))]))
 | _,_=>.no
def IZ:Gm
 | [.agg (Lt x0 x1 x2 x3 x4 _)],[]=>.leaf (.agg [.j x0,.s x1,.j x2,.b x3,.j x4,.ref 0 0 0],[R0 (.rose LCd) []])
 | _,_=>.no
theorem Ke (x0:Int) (x1:By) (x2:Int) (x3:Bool) (x4:Int) (xs:RL) (y0:Int) (y1:By) (y2:Int) (y3:Bool) (y4:Int) (ys:RL) (k:Int):AD prog (Aa []) (Aa [(2,pkE)]) 0 (body f38 0) pkE ([.ptr 0 0,.ptr 1 0,.ptr 2 0,.j k],[some (.box (Lt x0 x1 x2 x3 x4 xs)),some (.box (Lt y0 y1 y2 y3 y4 ys)),some (.box [.j 0,.s [],.j 0,.b false,.j 0,.ref 3 0 0]),R0 (.rose LCd) []]) =
 ((shr (Ar LCd.rose.den) fun sh1=>ifB (decide (k<(↑xs.length:Int))) (ifT (decide (0<=k)&&decide (k<(↑xs.length:Int))) (Am xs[k.toNat]? fun z=>shr
 (Rose.lab z).2.2 fun sh1_1=>ifB (decide (sh1_1.1<y2)) (some (Ex.normal,[V.ptr 0 0,V.ptr 1 0,V.ptr 2 0,V.j (i64.wrap (k+1))],[some (Blk.box
 (Lt x0 x1 x2 x3 x4 xs)),some (Blk.box (Lt y0 y1 y2 y3 y4 ys)),some
 (Blk.box [V.j 0,V.s (Ar UInt8),V.j 0,V.b false,V.j 0,V.ref 3 0 0]),R0 LCd.rose sh1])) (some (Ex.exit 0,[V.ptr 0 0,V.ptr 1
 0,V.ptr 2 0,V.j k],[some (Blk.box (Lt x0 x1 x2 x3 x4 xs)),some (Blk.box (Lt y0 y1 y2 y3 y4 ys)),some (Blk.box [V.j 0,V.s (Ar UInt8),V.j 0,V.b false,V.j 0,V.ref 3 0 0]),R0 LCd.rose
 sh1])))) (some (Ex.exit 0,[V.ptr 0 0,V.ptr 1 0,V.ptr 2 0,V.j k],[some (Blk.box (Lt x0 x1 x2 x3 x4 xs)),some
 (Blk.box (Lt y0 y1 y2 y3 y4 ys)),some (Blk.box [V.j 0,V.s (Ar UInt8),V.j 0,V.b false,V.j 0,V.ref
 3 0 0]),R0 LCd.rose sh1]))):_):=by kernel_rfl
theorem PS (x0:Int) (x1:By) (x2:Int) (x3:Bool) (x4:Int) (xs:RL) (y0:Int) (y1:By) (y2:Int) (y3:Bool) (y4:Int) (ys:RL):BX prog (Aa []) (Aa [(2,pkE)]) f38 [.agg (Lt x0 x1 x2 x3 x4 xs),.agg (Lt y0 y1 y2 y3 y4 ys)] [] =
 ((shr (drop 0 xs) fun sh3=>shr (take (xs.length-(↑(0+kK y2 sh3):Int).toNat) (drop (↑(0+kK y2 sh3):Int).toNat xs)) fun sh2
 => shr (take ((↑(0+kK y2 sh3):Int).toNat-0) (drop 0 xs)) fun sh1=>ifT (decide ((0:Int)<=(0:Int)/\0<=xs.length/\
 xs.length<=1000000)) (ifT (decide (0<=(↑(0+kK y2 sh3):Int))&&decide ((↑(0+kK y2 sh3):Int)<=(↑xs.length:Int))) (ifT (decide (((0 :
 Nat)+sh1.length)*72<=140737488355328)&&decide (0+sh1.length<=maxI)) (ifT (decide ((0+sh1.length+1)*72<=
 140737488355328)&&decide (0+sh1.length+1<=maxI)) (ifT (decide (0<=(↑(0+kK y2 sh3):Int))&&decide ((↑(0+kK y2 sh3) :
 Int)<=(↑xs.length:Int))) (ifT (decide ((0+sh1.length+1+sh2.length)*72<=140737488355328)&&decide (0+sh1.length+(1
 : Nat)+sh2.length<=maxI)) (some (V.agg [V.j x0,V.s x1,V.j x2,V.b x3,V.j x4,V.ref 0 0 (0+sh1.length+1+sh2.length)],[R0 LCd.rose (take (0+sh1.length+1) (drop 0 (take (0+sh1.length) (drop 0 (Ar
 LCd.rose.den++sh1))++Rose.node (y0,y1,y2,y3,y4,()) ys::Ar LCd.rose.den))++sh2)])))))))):_):=by kernel_rfl
theorem L8 (x0:Int) (x1:By) (x2:Int) (x3:Bool) (x4:Int) (xs:RL):BX prog (Aa []) (Aa []) f36 [.agg (Lt x0 x1 x2 x3 x4 xs)] [] =
 ((some (V.agg [V.j x0,V.s x1,V.j x2,V.b x3,V.j x4,V.ref 0 0 0],[R0 LCd.rose (Ar LCd.rose.den)])):_):=by kernel_rfl
theorem On:Ab prog 36 (Ent.rd1 IZ).F:=by
 refine fcC KnowsL.nil.knows (Λ:=Aa []) func36 fun vs bs r hq=>?_
 unfold Ent.F IZ at hq;dsimp only at hq;split at hq
 ·rename_i x0 x1 x2 x3 x4 xs;exact ⟨Aq _,(L8 x0 x1 x2 x3 x4 xs).trans hq⟩
 ·cases hq
theorem M3 (x0:Int) (x1:By) (x2:Int) (x3:Bool) (x4:Int) (xs:RL) (y0:Int) (y1:By) (y2:Int) (y3:Bool) (y4:Int) (ys:RL) (hx:xs.length<=1000000) : ∀ (j i:Nat),i+j=xs.length->
  Runs prog (Aa []) (Aa [(2,pkE)]) 0 (body f38 0) pkE ([.ptr 0 0,.ptr 1 0,.ptr 2 0,.j (i:Int)],[some (.box (Lt x0 x1 x2 x3 x4 xs)),some (.box (Lt y0 y1 y2 y3 y4 ys)),some (.box [.j 0,.s [],.j 0,.b false,.j 0,.ref 3 0 0]),R0 (.rose LCd) []]) (.exit 0) ([.ptr 0 0,.ptr 1 0,.ptr 2 0,.j ((i+kK y2 (xs.drop i):Nat):Int)],[some (.box (Lt x0 x1 x2 x3 x4 xs)),some (.box (Lt y0 y1 y2 y3 y4 ys)),some (.box [.j 0,.s [],.j 0,.b false,.j 0,.ref 3 0 0]),R0 (.rose LCd) []])
 | 0,i,hi=>by
  have hr:=Ke x0 x1 x2 x3 x4 xs y0 y1 y2 y3 y4 ys i
  try dsimp only [shr] at hr
  rw [Ah (dcF (by omega))] at hr;rw [drop_eq_nil_of_le (by omega),kK,add_zero];exact stp hr
 | j+1,i,hi=>by
  have hl:i<xs.length:=by omega
  have hM:=mxI;have hr:=Ke x0 x1 x2 x3 x4 xs y0 y1 y2 y3 y4 ys i
  try dsimp only [shr] at hr
  rw [Aj (dcT (by omega)),T2 (by omega),ntN,gtE hl,Ao,AE (n:=i) (by omega)] at hr;rw [drop_eq_getElem_cons hl,kK]
  by_cases q:noR xs[i]<y2
  ·have q':xs[i].lab.2.2.1<y2:=q;rw [Aj (dcT q')] at hr;have ih:=M3 x0 x1 x2 x3 x4 xs y0 y1 y2 y3 y4 ys hx j (i+1) (by omega);rw [show i+1+kK y2 (xs.drop (i+1))=i+(kK y2 (xs.drop (i+1))+1) by omega] at ih;rw [if_pos q];exact sts hr ih
  ·have q' : ¬xs[i].lab.2.2.1<y2:=q;rw [Ah (dcF q')] at hr;rw [if_neg q,add_zero];exact stp hr
theorem RW:Az prog (Aa []) (Aa [(2,pkE)]) 0 (f38.body.getD .skip):=by
 refine Aw (a:=body f38 0) (by kernel_rfl) fun d ex d' h=>?_
 unfold pkE at h;dsimp only at h;split at h
 ·rename_i k x0 x1 x2 x3 x4 xs y0 y1 y2 y3 y4 ys;obtain ⟨hc,hx⟩:=Ae h;obtain ⟨h0,h1,h2⟩:=of_decide_eq_true hc;obtain ⟨i,rfl⟩:=eq_ofNat_of_zero_le h0;simp only [ntN] at h1 hx;obtain ⟨rfl,rfl⟩:=Prod.mk.inj (BV hx);exact M3 x0 x1 x2 x3 x4 xs y0 y1 y2 y3 y4 ys h2 (xs.length-i) i (by omega)
 ·cases h
theorem pkC:Ab prog 38 (Ent.rd1 pkG).F:=by
 refine fcC KnowsL.nil.knows (Λ:=(Aa [(2,pkE)])) func38 fun vs bs r hq=>?_
 unfold Ent.F pkG at hq;dsimp only at hq;split at hq
 ·rename_i x0 x1 x2 x3 x4 xs y0 y1 y2 y3 y4 ys;obtain ⟨hc,hx⟩:=Ae hq;have h6:=of_decide_eq_true hc;refine ⟨RW,(PS x0 x1 x2 x3 x4 xs y0 y1 y2 y3 y4 ys).trans (Eq.trans ?_ hx)⟩;dsimp only [shr];show _=some _;have hk:kK y2 xs<=xs.length:=Ph y2 xs;have hM:=mxI;rw [drop_zero,zero_add,ntN,Nat.sub_zero];have e1:(xs.take (kK y2 xs)).length=kK y2 xs:=by rw [List.length_take]; omega
  have e2:((xs.drop (kK y2 xs)).take (xs.length-kK y2 xs))=xs.drop (kK y2 xs):=by rw [<-length_drop,take_length]
  have e3:(xs.drop (kK y2 xs)).length=xs.length-kK y2 xs:=length_drop;rw [e2]
  repeat rw [Ag (by simp only [anE,dcE,e1,e3]; omega)]
  have e4:Cc xs (.node (y0,y1,y2,y3,y4,()) ys:Rose Lab)=xs.take (kK y2 xs)++(.node (y0,y1,y2,y3,y4,()) ys:Rose Lab)::xs.drop (kK y2 xs):=rfl;rw [e4];have e5:(xs.take (kK y2 xs)++[(.node (y0,y1,y2,y3,y4,()) ys:Rose Lab)]).take (kK y2 xs+1)=xs.take (kK y2 xs)++[(.node (y0,y1,y2,y3,y4,()) ys:Rose Lab)]:=List.take_of_length_le (by rw [length_append,e1]; exact Nat.le_refl _);simp only [AH,drop_zero,nil_append,e1,e3,List.take_take,Nat.min_self,e5,append_assoc,length_append,length_cons,zero_add,List.singleton_append];rw [show kK y2 xs+1+(xs.length-kK y2 xs)=kK y2 xs+(xs.length-kK y2 xs+1) by omega]
 ·cases hq
def L4 (n:Nat):Gm
 | [.agg (Lt x0 x1 x2 x3 x4 xs),.agg (Lt y0 y1 y2 y3 y4 ys)],[]=>.need (decide (Ac (.node (x0,x1,x2,x3,x4,()) xs:Rose Lab)=true/\Ac (.node (y0,y1,y2,y3,y4,()) ys:Rose Lab)=true/\Af (.node (x0,x1,x2,x3,x4,()) xs:Rose Lab)<=n/\Af (.node (x0,x1,x2,x3,x4,()) xs:Rose Lab)<=400000/\Af (.node (y0,y1,y2,y3,y4,()) ys:Rose Lab)<=400000)) (.leaf (.tup [.agg [.j (meV (.node (x0,x1,x2,x3,x4,()) xs:Rose Lab) (.node (y0,y1,y2,y3,y4,()) ys:Rose Lab)).lab.1,.s (meV (.node (x0,x1,x2,x3,x4,()) xs:Rose Lab) (.node (y0,y1,y2,y3,y4,()) ys:Rose Lab)).lab.2.1,.j (meV (.node (x0,x1,x2,x3,x4,()) xs:Rose Lab) (.node (y0,y1,y2,y3,y4,()) ys:Rose Lab)).lab.2.2.1,.b (meV (.node (x0,x1,x2,x3,x4,()) xs:Rose Lab) (.node (y0,y1,y2,y3,y4,()) ys:Rose Lab)).lab.2.2.2.1,.j (meV (.node (x0,x1,x2,x3,x4,()) xs:Rose Lab) (.node (y0,y1,y2,y3,y4,()) ys:Rose Lab)).lab.2.2.2.2.1,.ref 0 0 (meV (.node (x0,x1,x2,x3,x4,()) xs:Rose Lab) (.node (y0,y1,y2,y3,y4,()) ys:Rose Lab)).kids.length],.b (meB (.node (x0,x1,x2,x3,x4,()) xs:Rose Lab) (.node (y0,y1,y2,y3,y4,()) ys:Rose Lab))],[R0 (.rose LCd) (meV (.node (x0,x1,x2,x3,x4,()) xs:Rose Lab) (.node (y0,y1,y2,y3,y4,()) ys:Rose Lab)).kids]))
 | _,_=>.no
def L7 (n:Nat):Gm
 | [.agg (Lt x0 x1 x2 x3 x4 xs),.agg (Lt y0 y1 y2 y3 y4 ys)],[]=>.need (decide (Ac (.node (x0,x1,x2,x3,x4,()) xs:Rose Lab)=true/\Ac (.node (y0,y1,y2,y3,y4,()) ys:Rose Lab)=true/\Af (.node (x0,x1,x2,x3,x4,()) xs:Rose Lab)<=n/\Af (.node (x0,x1,x2,x3,x4,()) xs:Rose Lab)<=400000/\Af (.node (y0,y1,y2,y3,y4,()) ys:Rose Lab)<=400000)) (.leaf (.tup [.agg [.j (joV (.node (x0,x1,x2,x3,x4,()) xs:Rose Lab) (.node (y0,y1,y2,y3,y4,()) ys:Rose Lab)).lab.1,.s (joV (.node (x0,x1,x2,x3,x4,()) xs:Rose Lab) (.node (y0,y1,y2,y3,y4,()) ys:Rose Lab)).lab.2.1,.j (joV (.node (x0,x1,x2,x3,x4,()) xs:Rose Lab) (.node (y0,y1,y2,y3,y4,()) ys:Rose Lab)).lab.2.2.1,.b (joV (.node (x0,x1,x2,x3,x4,()) xs:Rose Lab) (.node (y0,y1,y2,y3,y4,()) ys:Rose Lab)).lab.2.2.2.1,.j (joV (.node (x0,x1,x2,x3,x4,()) xs:Rose Lab) (.node (y0,y1,y2,y3,y4,()) ys:Rose Lab)).lab.2.2.2.2.1,.ref 0 0 (joV (.node (x0,x1,x2,x3,x4,()) xs:Rose Lab) (.node (y0,y1,y2,y3,y4,()) ys:Rose Lab)).kids.length],.b (joB (.node (x0,x1,x2,x3,x4,()) xs:Rose Lab) (.node (y0,y1,y2,y3,y4,()) ys:Rose Lab))],[R0 (.rose LCd) (joV (.node (x0,x1,x2,x3,x4,()) xs:Rose Lab) (.node (y0,y1,y2,y3,y4,()) ys:Rose Lab)).kids]))
 | _,_=>.no
def smA (n:Nat):LoopEnt:=⟨115,[2,3,4,6,63,64,65],[2,3,4,6],[4,5],fun
 | ([.ptr 0 0,.ptr 1 0,.ptr 2 0,.ptr 3 0,.sl (.rose LCd) ks,.j c,.j i],[bx,bb,br,bo,rr,ro])=>(match bx,bb with
  | some (.box (Lt x0 x1 x2 x3 x4 xs)),some (.box (Lt y0 y1 y2 y3 y4 ys))=>(match br,bo with
   | some (.box [.j 0,.s [],.j 0,.b false,.j 0,.ref 4 0 0]),some (.box [.j z0,.s z1,.j z2,.b z3,.j z4,.ref 5 0 m])=>(match rr,ro with
    | R0 (.rose LCd) [],R0 (.rose LCd) o=>.need (decide (0<=i/\i.toNat<=ks.length/\c=ks.length/\m=o.length/\o.length<=i.toNat/\ks.all Ac=true/\ys.all Ac=true/\Ai ks<=n/\Ai ks<=400000/\Ai ys<=400000)) (.br (Bw ys (ks.drop i.toNat)) (.leaf (.exit 0,([.ptr 0 0,.ptr 1 0,.ptr 2 0,.ptr 3 0],[some (.box (Lt x0 x1 x2 x3 x4 xs)),some (.box (Lt y0 y1 y2 y3 y4 ys)),some (.box [.j 0,.s [],.j 0,.b false,.j 0,.ref 4 0 0]),some (.box [.j z0,.s z1,.j z2,.b z3,.j z4,.ref 5 0 (A0 o (Bv ys (ks.drop i.toNat))).length]),R0 (.rose LCd) [],R0 (.rose LCd) (A0 o (Bv ys (ks.drop i.toNat)))]))) (.leaf (.ret,([.ptr 0 0,.b false],[some (.box [.j 0,.s [],.j 0,.b false,.j 0,.ref 1 0 0]),R0 (.rose LCd) []]))))
    | _,_=>.no)
   | _,_=>.no)
  | _,_=>.no)
 | _=>.no⟩
def smB:LoopEnt:=⟨115,[2,4,6,95,96,97],[4,6],[],fun
 | ([.ptr 0 0,.ptr 1 0,.ptr 2 0,.sl (.rose LCd) ks,.j c,.j i],[some (.box (Lt _ _ _ _ _ xs)),some (.box [.j 0,.s [],.j 0,.b false,.j 0,.ref 3 0 0]),some (.box [.j z0,.s z1,.j z2,.b z3,.j z4,.ref 4 0 m]),R0 (.rose LCd) [],R0 (.rose LCd) o])=>.need (decide (0<=i/\i.toNat<=ks.length/\c=ks.length/\m=o.length/\o.length<=500000+i.toNat/\ks.length<=500000/\xs.length<=1000000)) (.leaf (.exit 2,([.ptr 0 0,.ptr 1 0],[some (.box [.j 0,.s [],.j 0,.b false,.j 0,.ref 2 0 0]),some (.box [.j z0,.s z1,.j z2,.b z3,.j z4,.ref 3 0 (A0 o (AM xs (ks.drop i.toNat))).length]),R0 (.rose LCd) [],R0 (.rose LCd) (A0 o (AM xs (ks.drop i.toNat)))])))
 | _=>.no⟩
def sjA (n:Nat):LoopEnt:=⟨86,[3,4,6,59,60,61],[4,6],[],fun
 | ([.ptr 0 0,.ptr 1 0,.ptr 2 0,.sl (.rose LCd) ks,.j c,.j i],[some (.box (Lt _ _ _ _ _ ys)),some (.box [.j 0,.s [],.j 0,.b false,.j 0,.ref 3 0 0]),some (.box [.j z0,.s z1,.j z2,.b z3,.j z4,.ref 4 0 m]),R0 (.rose LCd) [],R0 (.rose LCd) o])=>.need (decide (0<=i/\i.toNat<=ks.length/\c=ks.length/\m=o.length/\o.length<=i.toNat/\ks.all Ac=true/\ys.all Ac=true/\Ai ks<=n/\Ai ks<=400000/\Ai ys<=400000)) (.leaf (.exit 0,([.ptr 0 0,.ptr 1 0],[some (.box [.j 0,.s [],.j 0,.b false,.j 0,.ref 2 0 0]),some (.box [.j z0,.s z1,.j z2,.b z3,.j z4,.ref 3 0 (A0 o (Bb ys (ks.drop i.toNat))).length]),R0 (.rose LCd) [],R0 (.rose LCd) (A0 o (Bb ys (ks.drop i.toNat)))])))
 | _=>.no⟩
abbrev Lr (n:Nat):FuncId->Option Ent:=Aa [(36,.rd1 IZ),(37,.rd1 byG),(38,.rd1 pkG),(16,.rd1 (L4 n))]
theorem I1 (n:Nat) (x0:Int) (x1:By) (x2:Int) (x3:Bool) (x4:Int) (xs:RL) (y0:Int) (y1:By) (y2:Int) (y3:Bool) (y4:Int) (ys:RL) (z0:Int) (z1:By) (z2:Int) (z3:Bool) (z4:Int) (ks o:RL) (m:Nat) (c i:Int):AD prog (Lr n) (Aa [(12,smA n),(23,smB)]) 0 (body f16 0) (smA n) ([.ptr 0 0,.ptr 1 0,.ptr 2 0,.ptr 3 0,.sl (.rose LCd) ks,.j c,.j i],[some (.box (Lt x0 x1 x2 x3 x4 xs)),some (.box (Lt y0 y1 y2 y3 y4 ys)),some (.box [.j 0,.s [],.j 0,.b false,.j 0,.ref 4 0 0]),some (.box [.j z0,.s z1,.j z2,.b z3,.j z4,.ref 5 0 m]),R0 (.rose LCd) [],R0 (.rose LCd) o]) =
 ((ifB (decide (i<c)) (ifT (decide (0<=i)&&decide (i<(↑ks.length:Int))) (Am ks[i.toNat]? fun z=>shr (Ar LCd.rose.den) fun sh6=>shr (Rose.lab z) fun sh5=>
 shr (take m (drop 0 o)) fun sh4=>shr sh5.2.2 fun sh3=>shr (Rose.node (sh5.1,sh5.2.1,sh3.1,sh3.2.1,sh3.2.2.1,())
 (Rose.kids z)) fun sh2=>shr (Rose.node ((byR sh3.1 ys).lab.1,(byR sh3.1 ys).lab.2.1,(byR sh3.1 ys).lab.2.2.1,(byR sh3.1 ys).lab.2.2.2.1,
 (byR sh3.1 ys).lab.2.2.2.2.1,()) (byR sh3.1 ys).kids) fun sh1=>ifT (decide (ys.length<=maxI)) (ifB (AC sh3.1 ys) (ifT (decide (Ac sh2=true/\
 Ac sh1=true/\Af sh2<=n/\Af sh2<=400000/\Af sh1<=400000)) (ifB (!meB sh2 sh1) (some (Ex.ret,[V.ptr 0 0,V.b false],[some (Blk.box [V.i
 .i64 0,V.s (Ar UInt8),V.j 0,V.b false,V.j 0,V.ref 1 0 0]),R0 LCd.rose sh6])) (ifT (decide (sh4.length<=1000000)) (some
 (Ex.normal,[V.ptr 0 0,V.ptr 1 0,V.ptr 2 0,V.ptr 3 0,V.sl LCd.rose ks,V.j c,V.j (i64.wrap (i+1))],[some (Blk.box (Lt x0 x1 x2 x3 x4 xs)),some (Blk.box (Lt y0 y1 y2 y3 y4 ys)),some (Blk.box [V.j 0,V.s
 (Ar UInt8),V.j 0,V.b false,V.j 0,V.ref 4 0 0]),some (Blk.box [V.j z0,V.s z1,V.j z2,V.b z3,V.j z4,V.ref 5 0 (Cc sh4 (Rose.node ((meV
 sh2 sh1).lab.1,(meV sh2 sh1).lab.2.1,(meV sh2 sh1).lab.2.2.1,(meV sh2 sh1).lab.2.2.2.1,(meV sh2 sh1).lab.2.2.2.2.1,()) (take (meV
 sh2 sh1).kids.length (drop 0 (meV sh2 sh1).kids)))).length]),R0 LCd.rose sh6,R0 LCd.rose (Cc sh4 (Rose.node
 ((meV sh2 sh1).lab.1,(meV sh2 sh1).lab.2.1,(meV sh2 sh1).lab.2.2.1,(meV sh2 sh1).lab.2.2.2.1,(meV sh2 sh1).lab.2.2.2.2.1,()) (take
 (meV sh2 sh1).kids.length (drop 0 (meV sh2 sh1).kids))))]))))) (ifT (decide (sh4.length<=1000000)) (some (Ex.normal,[V.ptr 0 0,V.ptr 1 0,V.ptr 2
 0,V.ptr 3 0,V.sl LCd.rose ks,V.j c,V.j (i64.wrap (i+1))],[some (Blk.box (Lt x0 x1 x2 x3 x4 xs)),some (Blk.box (Lt y0 y1 y2 y3 y4 ys)),some (Blk.box [V.j 0,V.s (Ar UInt8),V.j 0,V.b false,V.i
 .i64 0,V.ref 4 0 0]),some (Blk.box [V.j z0,V.s z1,V.j z2,V.b z3,V.j z4,V.ref 5 0 (Cc sh4 sh2).length]),R0 LCd.rose sh6,
 R0 LCd.rose (Cc sh4 sh2)])))))) (some (Ex.exit 0,[V.ptr 0 0,V.ptr 1 0,V.ptr 2 0,V.ptr 3 0],[some (Blk.box (Lt x0 x1 x2 x3 x4 xs)),some (Blk.box (Lt y0 y1 y2 y3 y4 ys)),some (Blk.box [V.j 0,V.s (Ar
 UInt8),V.j 0,V.b false,V.j 0,V.ref 4 0 0]),some (Blk.box [V.j z0,V.s z1,V.j z2,V.b z3,V.j z4,V.ref 5 0 m]),R0 LCd.rose (Ar LCd.rose.den),R0 LCd.rose o]))):_):=by kernel_rfl
theorem I0 (n:Nat) (x0:Int) (x1:By) (x2:Int) (x3:Bool) (x4:Int) (xs:RL) (z0:Int) (z1:By) (z2:Int) (z3:Bool) (z4:Int) (ks o:RL) (m:Nat) (c i:Int):AD prog (Lr n) (Aa [(12,smA n),(23,smB)]) 0 (body f16 1) smB ([.ptr 0 0,.ptr 1 0,.ptr 2 0,.sl (.rose LCd) ks,.j c,.j i],[some (.box (Lt x0 x1 x2 x3 x4 xs)),some (.box [.j 0,.s [],.j 0,.b false,.j 0,.ref 3 0 0]),some (.box [.j z0,.s z1,.j z2,.b z3,.j z4,.ref 4 0 m]),R0 (.rose LCd) [],R0 (.rose LCd) o]) =
 ((shr (Ar LCd.rose.den) fun sh1=>ifB (decide (i<c)) (ifT (decide (0<=i)&&decide (i<(↑ks.length:Int))) (Am ks[i.toNat]? fun z=>shr (Rose.lab z) fun sh4=>
 shr (take m (drop 0 o)) fun sh3=>shr sh4.2.2 fun sh2=>shr (Cc sh3 (Rose.node (sh4.1,sh4.2.1,sh2.1,sh2.2.1,sh2.2.2.1,())
 (Rose.kids z))) fun sh1_1=>ifT (decide (xs.length<=maxI)) (ifB (AC sh2.1 xs) (some (Ex.normal,[V.ptr 0 0,V.ptr 1 0,V.ptr 2 0,V.sl LCd.rose ks,V.j c,V.i
 .i64 (i64.wrap (i+1))],[some (Blk.box (Lt x0 x1 x2 x3 x4 xs)),some (Blk.box [V.j 0,V.s (Ar UInt8),
 V.j 0,V.b false,V.j 0,V.ref 3 0 0]),some (Blk.box [V.j z0,V.s z1,V.j z2,V.b z3,V.j z4,V.ref 4 0 m]),R0 LCd.rose
 sh1,R0 LCd.rose o])) (ifT (decide (sh3.length<=1000000)) (some (Ex.normal,[V.ptr 0 0,V.ptr 1 0,V.ptr 2 0,V.sl LCd.rose ks,V.i .i64
 c,V.j (i64.wrap (i+1))],[some (Blk.box (Lt x0 x1 x2 x3 x4 xs)),some (Blk.box [V.j 0,V.s (Ar
 UInt8),V.j 0,V.b false,V.j 0,V.ref 3 0 0]),some (Blk.box [V.j z0,V.s z1,V.j z2,V.b z3,V.j z4,V.ref 4 0 sh1_1.length]),R0 LCd.rose sh1,R0 LCd.rose sh1_1])))))) (some (Ex.exit 2,[V.ptr 0 0,V.ptr 1 0],[some (Blk.box [V.j 0,V.s (Ar UInt8),V.i .i64
 0,V.b false,V.j 0,V.ref 2 0 0]),some (Blk.box [V.j z0,V.s z1,V.j z2,V.b z3,V.j z4,V.ref 3 0 m]),R0 LCd.rose sh1,R0 LCd.rose o]))):_):=by kernel_rfl
abbrev QA (n:Nat):FuncId->Option Ent:=Aa [(36,.rd1 IZ),(37,.rd1 byG),(38,.rd1 pkG),(20,.rd1 (L7 n))]
theorem I2 (n:Nat) (y0:Int) (y1:By) (y2:Int) (y3:Bool) (y4:Int) (ys:RL) (z0:Int) (z1:By) (z2:Int) (z3:Bool) (z4:Int) (ks o:RL) (m:Nat) (c i:Int):AD prog (QA n) (Aa [(12,sjA n)]) 0 (body f20 0) (sjA n) ([.ptr 0 0,.ptr 1 0,.ptr 2 0,.sl (.rose LCd) ks,.j c,.j i],[some (.box (Lt y0 y1 y2 y3 y4 ys)),some (.box [.j 0,.s [],.j 0,.b false,.j 0,.ref 3 0 0]),some (.box [.j z0,.s z1,.j z2,.b z3,.j z4,.ref 4 0 m]),R0 (.rose LCd) [],R0 (.rose LCd) o]) =
 ((ifB (decide (i<c)) (ifT (decide (0<=i)&&decide (i<(↑ks.length:Int))) (Am ks[i.toNat]? fun z=>shr (Ar LCd.rose.den) fun sh6=>shr (Rose.lab z) fun sh5=>
 shr (take m (drop 0 o)) fun sh4=>shr sh5.2.2 fun sh3=>shr (Rose.node (sh5.1,sh5.2.1,sh3.1,sh3.2.1,sh3.2.2.1,())
 (Rose.kids z)) fun sh2=>shr (Rose.node ((byR sh3.1 ys).lab.1,(byR sh3.1 ys).lab.2.1,(byR sh3.1 ys).lab.2.2.1,(byR sh3.1 ys).lab.2.2.2.1,
 (byR sh3.1 ys).lab.2.2.2.2.1,()) (byR sh3.1 ys).kids) fun sh1=>ifT (decide (ys.length<=maxI)) (ifB (AC sh3.1 ys) (ifT (decide (Ac sh2=true/\
 Ac sh1=true/\Af sh2<=n/\Af sh2<=400000/\Af sh1<=400000)) (ifB (joB sh2 sh1) (ifT (decide (sh4.length<=1000000)) (some
 (Ex.normal,[V.ptr 0 0,V.ptr 1 0,V.ptr 2 0,V.sl LCd.rose ks,V.j c,V.j (i64.wrap (i+1))],[some (Blk.box (Lt y0 y1 y2 y3 y4 ys)),some (Blk.box [V.j 0,V.s (Ar UInt8),V.j 0,V.b false,V.j 0,V.ref 3 0 0]),some (Blk.box [V.j z0,V.s z1,
 V.j z2,V.b z3,V.j z4,V.ref 4 0 (Cc sh4 (Rose.node ((joV sh2 sh1).lab.1,(joV sh2 sh1).lab.2.1,(joV sh2 sh1).lab.2.2.1,(joV sh2
 sh1).lab.2.2.2.1,(joV sh2 sh1).lab.2.2.2.2.1,()) (take (joV sh2 sh1).kids.length (drop 0 (joV sh2 sh1).kids)))).length]),R0 LCd.rose sh6,R0 LCd.rose (Cc sh4 (Rose.node ((joV sh2 sh1).lab.1,(joV sh2 sh1).lab.2.1,(joV sh2
 sh1).lab.2.2.1,(joV sh2 sh1).lab.2.2.2.1,(joV sh2 sh1).lab.2.2.2.2.1,()) (take (joV sh2 sh1).kids.length (drop 0 (joV sh2
 sh1).kids))))]))) (some (Ex.normal,[V.ptr 0 0,V.ptr 1 0,V.ptr 2 0,V.sl LCd.rose ks,V.j c,V.j (i64.wrap (i+1))],[some (Blk.box (Lt y0 y1 y2 y3 y4 ys)),some (Blk.box [V.j 0,V.s (Ar UInt8),V.j 0,V.b false,V.j 0,V.ref 3 0 0]),some (Blk.box
 [V.j z0,V.s z1,V.j z2,V.b z3,V.j z4,V.ref 4 0 m]),R0 LCd.rose sh6,R0 LCd.rose o])))) (some (Ex.normal,
 [V.ptr 0 0,V.ptr 1 0,V.ptr 2 0,V.sl LCd.rose ks,V.j c,V.j (i64.wrap (i+1))],[some (Blk.box (Lt y0 y1 y2 y3 y4 ys)),some (Blk.box [V.j 0,V.s (Ar UInt8),V.j 0,V.b false,V.j 0,V.ref 3 0 0]),some (Blk.box [V.j z0,V.s z1,V.j z2,
 V.b z3,V.j z4,V.ref 4 0 m]),R0 LCd.rose sh6,R0 LCd.rose o]))))) (some (Ex.exit 0,[V.ptr 0 0,V.ptr 1 0],[some
 (Blk.box [V.j 0,V.s (Ar UInt8),V.j 0,V.b false,V.j 0,V.ref 2 0 0]),some (Blk.box [V.j z0,V.s z1,V.j z2,V.b z3,V.j z4,V.ref 3 0
 m]),R0 LCd.rose (Ar LCd.rose.den),R0 LCd.rose o]))):_):=by kernel_rfl
theorem Oj (n:Nat) (x0:Int) (x1:By) (x2:Int) (x3:Bool) (x4:Int) (xs:RL) (y0:Int) (y1:By) (y2:Int) (y3:Bool) (y4:Int) (ys:RL):BX prog (Lr n) (Aa [(12,smA n),(23,smB)]) f16 [.agg (Lt x0 x1 x2 x3 x4 xs),.agg (Lt y0 y1 y2 y3 y4 ys)] [] =
 ((shr (drop 0 xs) fun sh4=>shr (AM xs (drop 0 ys)) fun sh3=>shr (Ar LCd.rose.den) fun sh2=>shr (A0 sh2 (Bv ys sh4)) fun sh1=>ifB
 (x0 != y0) (some (V.tup [V.agg [V.j 0,V.s (Ar UInt8),V.j 0,V.b false,V.j 0,V.ref 0 0 0],V.b false],[R0 LCd.rose sh2])) (ifB
 x3 (ifB (decide (y4<x4)) (ifB (x0==4) (ifT (decide ((0:Int)<=(0:Int))&&decide (0<(↑xs.length:Int))) (Am xs[0]? fun z=>ifT (decide ((0:Int)
 <= (0:Int))&&decide (0<(↑ys.length:Int))) (Am ys[0]? fun z_1=>shr (Rose.lab z).2 fun sh4=>shr (Rose.lab z_1).2 fun sh3=>shr (Rose.node
 ((Rose.lab z_1).1,sh3.1,sh3.2.1,sh3.2.2.1,sh3.2.2.2.1,()) (Rose.kids z_1)) fun sh2_1=>shr (Rose.node ((Rose.lab z).1,sh4.1,sh4.2.1,
 sh4.2.2.1,sh4.2.2.2.1,()) (Rose.kids z)) fun sh1=>ifT (decide (Ac sh1=true/\Ac sh2_1=true/\Af sh1<=n/\Af sh1<=400000/\Af
 sh2_1<=400000)) (some (V.tup [V.agg [V.j x0,V.s x1,V.j x2,V.b true,V.j y4,V.ref 0 0 1],V.b (meB sh1 sh2_1)],[R0 LCd.rose (Rose.node ((meV sh1 sh2_1).lab.1,(meV sh1 sh2_1).lab.2.1,(meV sh1 sh2_1).lab.2.2.1,(meV sh1 sh2_1).lab.2.2.2.1,(meV sh1
 sh2_1).lab.2.2.2.2.1,()) (take (meV sh1 sh2_1).kids.length (drop 0 (meV sh1 sh2_1).kids))::sh2)]))))) (ifT (decide ((0:Int)<=(0:Int)
 /\ 0<=xs.length/\(↑xs.length:Int)=(↑xs.length:Int)/\0=0/\0<=0/\xs.all Ac=true/\ys.all Ac=true/\Ai xs
 <= n/\Ai xs<=400000/\Ai ys<=400000)) (ifB (Bw ys sh4) (ifT (decide ((0:Int)<=(0:Int)/\0<=ys.length/\(↑ys.length:Int) =
 (↑ys.length:Int)/\sh1.length=sh1.length/\sh1.length<=500000/\ys.length<=500000/\xs.length<=1000000)) (some (V.tup [V.agg [V.j x0,
 V.s x1,V.j x2,V.b true,V.j y4,V.ref 0 0 (A0 sh1 sh3).length],V.b true],[R0 LCd.rose (A0 sh1 sh3)]))) (some (V.tup [V.agg [V.i
 .i64 0,V.s (Ar UInt8),V.j 0,V.b false,V.j 0,V.ref 0 0 0],V.b false],[R0 LCd.rose sh2]))))) (ifB (x0==4) (ifT (decide ((0 :
 Int)<=(0:Int))&&decide (0<(↑xs.length:Int))) (Am xs[0]? fun z=>ifT (decide ((0:Int)<=(0:Int))&&decide (0<(↑ys.length:Int))) (Am
 ys[0]? fun z_1=>shr (Rose.lab z).2 fun sh4=>shr (Rose.lab z_1).2 fun sh3=>shr (Rose.node ((Rose.lab z_1).1,sh3.1,sh3.2.1,sh3.2.2.1,
 sh3.2.2.2.1,()) (Rose.kids z_1)) fun sh2_1=>shr (Rose.node ((Rose.lab z).1,sh4.1,sh4.2.1,sh4.2.2.1,sh4.2.2.2.1,()) (Rose.kids z))
 fun sh1=>ifT (decide (Ac sh1=true/\Ac sh2_1=true/\Af sh1<=n/\Af sh1<=400000/\Af sh2_1<=400000)) (some (V.tup [V.agg [V.i .i64
 x0,V.s x1,V.j x2,V.b true,V.j x4,V.ref 0 0 1],V.b (meB sh1 sh2_1)],[R0 LCd.rose (Rose.node ((meV sh1 sh2_1).lab.1,(meV sh1
 sh2_1).lab.2.1,(meV sh1 sh2_1).lab.2.2.1,(meV sh1 sh2_1).lab.2.2.2.1,(meV sh1 sh2_1).lab.2.2.2.2.1,()) (take (meV sh1
 sh2_1).kids.length (drop 0 (meV sh1 sh2_1).kids))::sh2)]))))) (ifT (decide ((0:Int)<=(0:Int)/\0<=xs.length/\(↑xs.length:Int) =
 (↑xs.length:Int)/\0=0/\0<=0/\xs.all Ac=true/\ys.all Ac=true/\Ai xs<=n/\Ai xs<=400000/\Ai ys<=
 400000)) (ifB (Bw ys sh4) (ifT (decide ((0:Int)<=(0:Int)/\0<=ys.length/\(↑ys.length:Int)=(↑ys.length:Int)/\sh1.length=sh1.length/\
 sh1.length<=500000/\ys.length<=500000/\xs.length<=1000000)) (some (V.tup [V.agg [V.j x0,V.s x1,V.j x2,V.b true,V.j x4,
 V.ref 0 0 (A0 sh1 sh3).length],V.b true],[R0 LCd.rose (A0 sh1 sh3)]))) (some (V.tup [V.agg [V.j 0,V.s (Ar UInt8),V.j 0,V.b
 false,V.j 0,V.ref 0 0 0],V.b false],[R0 LCd.rose sh2])))))) (ifB (decide (y4<x4)) (ifB (x0==4) (ifT (decide ((0:Int)<=(0:Int))&&
 decide (0<(↑xs.length:Int))) (Am xs[0]? fun z=>ifT (decide ((0:Int)<=(0:Int))&&decide (0<(↑ys.length:Int))) (Am ys[0]? fun z_1=>
 shr (Rose.lab z_1).2 fun sh4=>shr (Rose.lab z).2 fun sh3=>shr (Rose.node ((Rose.lab z_1).1,sh4.1,sh4.2.1,sh4.2.2.1,sh4.2.2.2.1,())
 (Rose.kids z_1)) fun sh2_1=>shr (Rose.node ((Rose.lab z).1,sh3.1,sh3.2.1,sh3.2.2.1,sh3.2.2.2.1,()) (Rose.kids z)) fun sh1=>ifT (decide
 (Ac sh1=true/\Ac sh2_1=true/\Af sh1<=n/\Af sh1<=400000/\Af sh2_1<=400000)) (some (V.tup [V.agg [V.j x0,V.s x1,V.j x2,
 V.b y3,V.j y4,V.ref 0 0 1],V.b (meB sh1 sh2_1)],[R0 LCd.rose (Rose.node ((meV sh1 sh2_1).lab.1,(meV sh1 sh2_1).lab.2.1,(meV sh1
 sh2_1).lab.2.2.1,(meV sh1 sh2_1).lab.2.2.2.1,(meV sh1 sh2_1).lab.2.2.2.2.1,()) (take (meV sh1 sh2_1).kids.length (drop 0 (meV
 sh1 sh2_1).kids))::sh2)]))))) (ifT (decide ((0:Int)<=(0:Int)/\0<=xs.length/\(↑xs.length:Int)=(↑xs.length:Int)/\0=0/\0
 <= 0/\xs.all Ac=true/\ys.all Ac=true/\Ai xs<=n/\Ai xs<=400000/\Ai ys<=400000)) (ifB (Bw ys sh4) (ifT (decide ((0:Int)
 <= (0:Int)/\0<=ys.length/\(↑ys.length:Int)=(↑ys.length:Int)/\sh1.length=sh1.length/\sh1.length<=500000/\ys.length<=500000/\
 xs.length<=1000000)) (some (V.tup [V.agg [V.j x0,V.s x1,V.j x2,V.b y3,V.j y4,V.ref 0 0 (A0 sh1 sh3).length],V.b true],[R0 LCd.rose (A0 sh1 sh3)]))) (some (V.tup [V.agg [V.j 0,V.s (Ar UInt8),V.j 0,V.b false,V.j 0,V.ref 0 0 0],V.b false],[R0 LCd.rose sh2]))))) (ifB (x0==4) (ifT (decide ((0:Int)<=(0:Int))&&decide (0<(↑xs.length:Int))) (Am xs[0]? fun z=>ifT (decide ((0 :
 Int)<=(0:Int))&&decide (0<(↑ys.length:Int))) (Am ys[0]? fun z_1=>shr (Rose.lab z).2 fun sh4=>shr (Rose.lab z_1).2 fun sh3=>shr (Rose.node
 ((Rose.lab z_1).1,sh3.1,sh3.2.1,sh3.2.2.1,sh3.2.2.2.1,()) (Rose.kids z_1)) fun sh2_1=>shr (Rose.node ((Rose.lab z).1,sh4.1,sh4.2.1,
 sh4.2.2.1,sh4.2.2.2.1,()) (Rose.kids z)) fun sh1=>ifT (decide (Ac sh1=true/\Ac sh2_1=true/\Af sh1<=n/\Af sh1<=400000/\Af
 sh2_1<=400000)) (some (V.tup [V.agg [V.j x0,V.s x1,V.j x2,V.b y3,V.j x4,V.ref 0 0 1],V.b (meB sh1 sh2_1)],[R0 LCd.rose (Rose.node ((meV sh1 sh2_1).lab.1,(meV sh1 sh2_1).lab.2.1,(meV sh1 sh2_1).lab.2.2.1,(meV sh1 sh2_1).lab.2.2.2.1,(meV sh1
 sh2_1).lab.2.2.2.2.1,()) (take (meV sh1 sh2_1).kids.length (drop 0 (meV sh1 sh2_1).kids))::sh2)]))))) (ifT (decide ((0:Int)<=(0:Int)
 /\ 0<=xs.length/\(↑xs.length:Int)=(↑xs.length:Int)/\0=0/\0<=0/\xs.all Ac=true/\ys.all Ac=true/\Ai xs
 <= n/\Ai xs<=400000/\Ai ys<=400000)) (ifB (Bw ys sh4) (ifT (decide ((0:Int)<=(0:Int)/\0<=ys.length/\(↑ys.length:Int) =
 (↑ys.length:Int)/\sh1.length=sh1.length/\sh1.length<=500000/\ys.length<=500000/\xs.length<=1000000)) (some (V.tup [V.agg [V.j x0,
 V.s x1,V.j x2,V.b y3,V.j x4,V.ref 0 0 (A0 sh1 sh3).length],V.b true],[R0 LCd.rose (A0 sh1 sh3)]))) (some (V.tup [V.agg [V.i
 .i64 0,V.s (Ar UInt8),V.j 0,V.b false,V.j 0,V.ref 0 0 0],V.b false],[R0 LCd.rose sh2])))))))):_):=by kernel_rfl
theorem Ol (n:Nat) (x0:Int) (x1:By) (x2:Int) (x3:Bool) (x4:Int) (xs:RL) (y0:Int) (y1:By) (y2:Int) (y3:Bool) (y4:Int) (ys:RL):BX prog (QA n) (Aa [(12,sjA n)]) f20 [.agg (Lt x0 x1 x2 x3 x4 xs),.agg (Lt y0 y1 y2 y3 y4 ys)] [] =
 ((shr (Ar LCd.rose.den) fun sh2=>shr (A0 sh2 (Bb ys (drop 0 xs))) fun sh1=>ifB (x0 != y0) (some (V.tup [V.agg [V.j 0,V.s (Ar UInt8),V.i .i64
 0,V.b false,V.j 0,V.ref 0 0 0],V.b false],[R0 LCd.rose sh2])) (ifB x3 (ifB (decide (y4>x4)) (ifB (x0==4) (ifT (decide ((0:Int)<=(0
 : Int))&&decide (0<(↑xs.length:Int))) (Am xs[0]? fun z=>ifT (decide ((0:Int)<=(0:Int))&&decide (0<(↑ys.length:Int))) (Am ys[0]?
 fun z_1=>shr (Rose.lab z_1).2 fun sh4=>shr (Rose.lab z).2 fun sh3=>shr (Rose.node ((Rose.lab z_1).1,sh4.1,sh4.2.1,sh4.2.2.1,
 sh4.2.2.2.1,()) (Rose.kids z_1)) fun sh2_1=>shr (Rose.node ((Rose.lab z).1,sh3.1,sh3.2.1,sh3.2.2.1,sh3.2.2.2.1,()) (Rose.kids z))
 fun sh1=>ifT (decide (Ac sh1=true/\Ac sh2_1=true/\Af sh1<=n/\Af sh1<=400000/\Af sh2_1<=400000)) (some (V.tup [V.agg [V.i .i64
 x0,V.s x1,V.j x2,V.b y3,V.j y4,V.ref 0 0 1],V.b (joB sh1 sh2_1)],[R0 LCd.rose (Rose.node ((joV sh1 sh2_1).lab.1,(joV sh1
 sh2_1).lab.2.1,(joV sh1 sh2_1).lab.2.2.1,(joV sh1 sh2_1).lab.2.2.2.1,(joV sh1 sh2_1).lab.2.2.2.2.1,()) (take (joV sh1
 sh2_1).kids.length (drop 0 (joV sh1 sh2_1).kids))::sh2)]))))) (ifT (decide ((0:Int)<=(0:Int)/\0<=xs.length/\(↑xs.length:Int) =
 (↑xs.length:Int)/\0=0/\0<=0/\xs.all Ac=true/\ys.all Ac=true/\Ai xs<=n/\Ai xs<=400000/\Ai ys<=
 400000)) (some (V.tup [V.agg [V.j x0,V.s x1,V.j x2,V.b y3,V.j y4,V.ref 0 0 sh1.length],V.b true],[R0 LCd.rose
 sh1])))) (ifB (x0==4) (ifT (decide ((0:Int)<=(0:Int))&&decide (0<(↑xs.length:Int))) (Am xs[0]? fun z=>ifT (decide ((0:Int)<=(0:Int))&&
 decide (0<(↑ys.length:Int))) (Am ys[0]? fun z_1=>shr (Rose.lab z_1).2 fun sh4=>shr (Rose.lab z).2 fun sh3=>shr (Rose.node ((Rose.lab z_1).1,
 sh4.1,sh4.2.1,sh4.2.2.1,sh4.2.2.2.1,()) (Rose.kids z_1)) fun sh2_1=>shr (Rose.node ((Rose.lab z).1,sh3.1,sh3.2.1,sh3.2.2.1,
 sh3.2.2.2.1,()) (Rose.kids z)) fun sh1=>ifT (decide (Ac sh1=true/\Ac sh2_1=true/\Af sh1<=n/\Af sh1<=400000/\Af sh2_1<=(400000
 : Nat))) (some (V.tup [V.agg [V.j x0,V.s x1,V.j x2,V.b y3,V.j x4,V.ref 0 0 1],V.b (joB sh1 sh2_1)],[R0 LCd.rose (Rose.node
 ((joV sh1 sh2_1).lab.1,(joV sh1 sh2_1).lab.2.1,(joV sh1 sh2_1).lab.2.2.1,(joV sh1 sh2_1).lab.2.2.2.1,(joV sh1 sh2_1).lab.2.2.2.2.1,())
 (take (joV sh1 sh2_1).kids.length (drop 0 (joV sh1 sh2_1).kids))::sh2)]))))) (ifT (decide ((0:Int)<=(0:Int)/\0<=xs.length/\
 (↑xs.length:Int)=(↑xs.length:Int)/\0=0/\0<=0/\xs.all Ac=true/\ys.all Ac=true/\Ai xs<=n/\Ai xs<=(400000 :
 Nat)/\Ai ys<=400000)) (some (V.tup [V.agg [V.j x0,V.s x1,V.j x2,V.b y3,V.j x4,V.ref 0 0 sh1.length],V.b true],[R0 LCd.rose sh1]))))) (ifB (decide (y4>x4)) (ifB (x0==4) (ifT (decide ((0:Int)<=(0:Int))&&decide (0<(↑xs.length:Int))) (Am xs[0]? fun z=>ifT
 (decide ((0:Int)<=(0:Int))&&decide (0<(↑ys.length:Int))) (Am ys[0]? fun z_1=>shr (Rose.lab z).2 fun sh4=>shr (Rose.lab z_1).2 fun sh3=>
 shr (Rose.node ((Rose.lab z_1).1,sh3.1,sh3.2.1,sh3.2.2.1,sh3.2.2.2.1,()) (Rose.kids z_1)) fun sh2_1=>shr (Rose.node ((Rose.lab z).1,
 sh4.1,sh4.2.1,sh4.2.2.1,sh4.2.2.2.1,()) (Rose.kids z)) fun sh1=>ifT (decide (Ac sh1=true/\Ac sh2_1=true/\Af sh1<=n/\Af sh1<=
 400000/\Af sh2_1<=400000)) (some (V.tup [V.agg [V.j x0,V.s x1,V.j x2,V.b false,V.j y4,V.ref 0 0 1],V.b (joB sh1 sh2_1)],[R0 LCd.rose (Rose.node ((joV sh1 sh2_1).lab.1,(joV sh1 sh2_1).lab.2.1,(joV sh1 sh2_1).lab.2.2.1,(joV sh1 sh2_1).lab.2.2.2.1,(joV
 sh1 sh2_1).lab.2.2.2.2.1,()) (take (joV sh1 sh2_1).kids.length (drop 0 (joV sh1 sh2_1).kids))::sh2)]))))) (ifT (decide ((0:Int)<=(0 :
 Int)/\0<=xs.length/\(↑xs.length:Int)=(↑xs.length:Int)/\0=0/\0<=0/\xs.all Ac=true/\ys.all Ac=true/\
 Ai xs<=n/\Ai xs<=400000/\Ai ys<=400000)) (some (V.tup [V.agg [V.j x0,V.s x1,V.j x2,V.b false,V.j y4,V.ref 0 0 sh1.length],
 V.b true],[R0 LCd.rose sh1])))) (ifB (x0==4) (ifT (decide ((0:Int)<=(0:Int))&&decide (0<(↑xs.length:Int))) (Am xs[0]? fun
 z=>ifT (decide ((0:Int)<=(0:Int))&&decide (0<(↑ys.length:Int))) (Am ys[0]? fun z_1=>shr (Rose.lab z_1).2 fun sh4=>shr (Rose.lab z).2 fun
 sh3=>shr (Rose.node ((Rose.lab z_1).1,sh4.1,sh4.2.1,sh4.2.2.1,sh4.2.2.2.1,()) (Rose.kids z_1)) fun sh2_1=>shr (Rose.node ((Rose.lab z).1,
 sh3.1,sh3.2.1,sh3.2.2.1,sh3.2.2.2.1,()) (Rose.kids z)) fun sh1=>ifT (decide (Ac sh1=true/\Ac sh2_1=true/\Af sh1<=n/\Af sh1<=
 400000/\Af sh2_1<=400000)) (some (V.tup [V.agg [V.j x0,V.s x1,V.j x2,V.b false,V.j x4,V.ref 0 0 1],V.b (joB sh1 sh2_1)],[R0 LCd.rose (Rose.node ((joV sh1 sh2_1).lab.1,(joV sh1 sh2_1).lab.2.1,(joV sh1 sh2_1).lab.2.2.1,(joV sh1 sh2_1).lab.2.2.2.1,(joV
 sh1 sh2_1).lab.2.2.2.2.1,()) (take (joV sh1 sh2_1).kids.length (drop 0 (joV sh1 sh2_1).kids))::sh2)]))))) (ifT (decide ((0:Int)<=(0 :
 Int)/\0<=xs.length/\(↑xs.length:Int)=(↑xs.length:Int)/\0=0/\0<=0/\xs.all Ac=true/\ys.all Ac=true/\
 Ai xs<=n/\Ai xs<=400000/\Ai ys<=400000)) (some (V.tup [V.agg [V.j x0,V.s x1,V.j x2,V.b false,V.j x4,V.ref 0 0 sh1.length],
 V.b true],[R0 LCd.rose sh1]))))))):_):=by kernel_rfl

theorem JU (n:Nat) (x0:Int) (x1:By) (x2:Int) (x3:Bool) (x4:Int) (xs:RL) (y0:Int) (y1:By) (y2:Int) (y3:Bool) (y4:Int) (ys:RL) (z0:Int) (z1:By) (z2:Int) (z3:Bool) (z4:Int) (hys:ys.all Ac=true) (hcy:Ai ys<=400000) (ks:RL) (hks:ks.all Ac=true) (hcn:Ai ks<=n) (hc6:Ai ks<=400000) : ∀ (j i:Nat) (o:RL),i+j=ks.length->o.length<=i->∀ ex d,(Br.br (Bw ys (ks.drop i)) (.leaf (.exit 0,([.ptr 0 0,.ptr 1 0,.ptr 2 0,.ptr 3 0],[some (.box (Lt x0 x1 x2 x3 x4 xs)),some (.box (Lt y0 y1 y2 y3 y4 ys)),some (.box [.j 0,.s [],.j 0,.b false,.j 0,.ref 4 0 0]),some (.box [.j z0,.s z1,.j z2,.b z3,.j z4,.ref 5 0 (A0 o (Bv ys (ks.drop i))).length]),R0 (.rose LCd) [],R0 (.rose LCd) (A0 o (Bv ys (ks.drop i)))]))) (.leaf (.ret,([.ptr 0 0,.b false],[some (.box [.j 0,.s [],.j 0,.b false,.j 0,.ref 1 0 0]),R0 (.rose LCd) []]))):Br (Ex×Dt)).run=some (ex,d)->Runs prog (Lr n) (Aa [(12,smA n),(23,smB)]) 0 (body f16 0) (smA n) ([.ptr 0 0,.ptr 1 0,.ptr 2 0,.ptr 3 0,.sl (.rose LCd) ks,.j (ks.length:Int),.j (i:Int)],[some (.box (Lt x0 x1 x2 x3 x4 xs)),some (.box (Lt y0 y1 y2 y3 y4 ys)),some (.box [.j 0,.s [],.j 0,.b false,.j 0,.ref 4 0 0]),some (.box [.j z0,.s z1,.j z2,.b z3,.j z4,.ref 5 0 o.length]),R0 (.rose LCd) [],R0 (.rose LCd) o]) ex d
 | 0,i,o,hi,ho,ex,d,h=>by
  have hr:=I1 n x0 x1 x2 x3 x4 xs y0 y1 y2 y3 y4 ys z0 z1 z2 z3 z4 ks o o.length ks.length i
  try dsimp only [shr] at hr
  rw [Ah (dcF (by omega))] at hr;have e1:ks.drop i=[]:=drop_eq_nil_of_le (by omega);rw [e1,RH (show Bw ys []=true from rfl)] at h;obtain ⟨rfl,rfl⟩:=lfP h;exact stp hr
 | j+1,i,o,hi,ho,ex,d,h=>by
  have hl:i<ks.length:=by omega
  have hM:=mxI;have hlen:=AK ks;have hly:=AK ys;have W1:i64.wrap ((i:Int)+1)=((i+1:Nat):Int):=by rw [Ba (by omega) (by omega)]; omega
  have hd:=drop_eq_getElem_cons hl;have hm:=getElem_mem hl;have hrz:=all_eq_true.1 hks _ hm;have hcz:=AU hm;have hr:=I1 n x0 x1 x2 x3 x4 xs y0 y1 y2 y3 y4 ys z0 z1 z2 z3 z4 ks o o.length ks.length i
  try dsimp only [shr] at hr
  rw [Aj (dcT (by omega)),T2 (by omega),ntN,gtE hl,Ao,W1,Ag (dcT (by omega))] at hr;simp only [Bo,drop_zero,take_length,AH] at hr;rw [hd] at h;generalize ks[i]=p at hr h hrz hcz;have ih:=fun o' (ho':o'.length<=i+1)=>JU n x0 x1 x2 x3 x4 xs y0 y1 y2 y3 y4 ys z0 z1 z2 z3 z4 hys hcy ks hks hcn hc6 j (i+1) o' (by omega) ho' ex d
  cases hn:AC p.lab.2.2.1 ys with
  | false=>
   have e2:Bw ys (p::ks.drop (i+1))=Bw ys (ks.drop (i+1)):=by rw [Bw,hn]; rfl
   have e3:A0 o (Bv ys (p::ks.drop (i+1)))=A0 (Cc o p) (Bv ys (ks.drop (i+1))):=by rw [Bv,hn]; rfl
   rw [e2,e3] at h;rw [hn,Bt,Ag (dcT (by omega))] at hr;exact sts hr (ih _ (by rw [F8]; omega) h)
  | true=>
   obtain ⟨bm,bn⟩:=DI hn;have hxr:=all_eq_true.1 hys _ bm;have hxc:=AU bm;rw [hn,Bs,Ag (dcT ⟨hrz,hxr,by omega,by omega,by omega⟩)] at hr
   cases hb:meB p (byR p.lab.2.2.1 ys) with
   | false=>
    rw [RI (show Bw ys (p::ks.drop (i+1))=false by rw [Bw,hn,hb]; rfl)] at h;obtain ⟨rfl,rfl⟩:=lfP h;rw [hb] at hr;exact stp hr
   | true=>
    have e2:Bw ys (p::ks.drop (i+1))=Bw ys (ks.drop (i+1)):=by rw [Bw,hn,hb]; rfl
    have e3:A0 o (Bv ys (p::ks.drop (i+1)))=A0 (Cc o (meV p (byR p.lab.2.2.1 ys))) (Bv ys (ks.drop (i+1))):=by rw [Bv,hn]; rfl
    rw [e2,e3] at h;rw [hb,Bool.not_true,Bt,Ag (dcT (by omega))] at hr;exact sts hr (ih _ (by rw [F8]; omega) h)
theorem Hh (n:Nat) (x0:Int) (x1:By) (x2:Int) (x3:Bool) (x4:Int) (xs:RL) (z0:Int) (z1:By) (z2:Int) (z3:Bool) (z4:Int) (hx:xs.length<=1000000) (ks:RL) (hk:ks.length<=500000) : ∀ (j i:Nat) (o:RL),i+j=ks.length->o.length<=500000+i->Runs prog (Lr n) (Aa [(12,smA n),(23,smB)]) 0 (body f16 1) smB ([.ptr 0 0,.ptr 1 0,.ptr 2 0,.sl (.rose LCd) ks,.j (ks.length:Int),.j (i:Int)],[some (.box (Lt x0 x1 x2 x3 x4 xs)),some (.box [.j 0,.s [],.j 0,.b false,.j 0,.ref 3 0 0]),some (.box [.j z0,.s z1,.j z2,.b z3,.j z4,.ref 4 0 o.length]),R0 (.rose LCd) [],R0 (.rose LCd) o]) (.exit 2) ([.ptr 0 0,.ptr 1 0],[some (.box [.j 0,.s [],.j 0,.b false,.j 0,.ref 2 0 0]),some (.box [.j z0,.s z1,.j z2,.b z3,.j z4,.ref 3 0 (A0 o (AM xs (ks.drop i))).length]),R0 (.rose LCd) [],R0 (.rose LCd) (A0 o (AM xs (ks.drop i)))])
 | 0,i,o,hi,ho=>by
  have hr:=I0 n x0 x1 x2 x3 x4 xs z0 z1 z2 z3 z4 ks o o.length ks.length i
  try dsimp only [shr] at hr
  rw [Ah (dcF (by omega))] at hr;rw [drop_eq_nil_of_le (by omega)];exact stp hr
 | j+1,i,o,hi,ho=>by
  have hl:i<ks.length:=by omega
  have hM:=mxI;have W1:i64.wrap ((i:Int)+1)=((i+1:Nat):Int):=by rw [Ba (by omega) (by omega)]; omega
  have hd:=drop_eq_getElem_cons hl;have hr:=I0 n x0 x1 x2 x3 x4 xs z0 z1 z2 z3 z4 ks o o.length ks.length i
  try dsimp only [shr] at hr
  rw [Aj (dcT (by omega)),T2 (by omega),ntN,gtE hl,Ao,W1,Ag (dcT (by omega))] at hr;simp only [Bo,drop_zero,take_length,AH] at hr;rw [hd];generalize ks[i]=p at hr ⊢
  cases hn:AC p.lab.2.2.1 xs with
  | true=>
   have e3:A0 o (AM xs (p::ks.drop (i+1)))=A0 o (AM xs (ks.drop (i+1))):=by unfold AM; rw [List.filter_cons,hn]; rfl
   rw [hn,Bs] at hr;rw [e3];exact sts hr (Hh n x0 x1 x2 x3 x4 xs z0 z1 z2 z3 z4 hx ks hk j (i+1) o (by omega) (by omega))
  | false=>
   have e3:A0 o (AM xs (p::ks.drop (i+1)))=A0 (Cc o p) (AM xs (ks.drop (i+1))):=by unfold AM; rw [List.filter_cons,hn]; rfl
   rw [hn,Bt,Ag (dcT (by omega))] at hr;rw [e3];exact sts hr (Hh n x0 x1 x2 x3 x4 xs z0 z1 z2 z3 z4 hx ks hk j (i+1) (Cc o p) (by omega) (by rw [F8]; omega))
theorem JW (n:Nat) (y0:Int) (y1:By) (y2:Int) (y3:Bool) (y4:Int) (ys:RL) (z0:Int) (z1:By) (z2:Int) (z3:Bool) (z4:Int) (hys:ys.all Ac=true) (hcy:Ai ys<=400000) (ks:RL) (hks:ks.all Ac=true) (hcn:Ai ks<=n) (hc6:Ai ks<=400000) : ∀ (j i:Nat) (o:RL),i+j=ks.length->o.length<=i->Runs prog (QA n) (Aa [(12,sjA n)]) 0 (body f20 0) (sjA n) ([.ptr 0 0,.ptr 1 0,.ptr 2 0,.sl (.rose LCd) ks,.j (ks.length:Int),.j (i:Int)],[some (.box (Lt y0 y1 y2 y3 y4 ys)),some (.box [.j 0,.s [],.j 0,.b false,.j 0,.ref 3 0 0]),some (.box [.j z0,.s z1,.j z2,.b z3,.j z4,.ref 4 0 o.length]),R0 (.rose LCd) [],R0 (.rose LCd) o]) (.exit 0) ([.ptr 0 0,.ptr 1 0],[some (.box [.j 0,.s [],.j 0,.b false,.j 0,.ref 2 0 0]),some (.box [.j z0,.s z1,.j z2,.b z3,.j z4,.ref 3 0 (A0 o (Bb ys (ks.drop i))).length]),R0 (.rose LCd) [],R0 (.rose LCd) (A0 o (Bb ys (ks.drop i)))])
 | 0,i,o,hi,ho=>by
  have hr:=I2 n y0 y1 y2 y3 y4 ys z0 z1 z2 z3 z4 ks o o.length ks.length i
  try dsimp only [shr] at hr
  rw [Ah (dcF (by omega))] at hr;rw [drop_eq_nil_of_le (by omega)];exact stp hr
 | j+1,i,o,hi,ho=>by
  have hl:i<ks.length:=by omega
  have hM:=mxI;have hlen:=AK ks;have hly:=AK ys;have W1:i64.wrap ((i:Int)+1)=((i+1:Nat):Int):=by rw [Ba (by omega) (by omega)]; omega
  have hd:=drop_eq_getElem_cons hl;have hm:=getElem_mem hl;have hrz:=all_eq_true.1 hks _ hm;have hcz:=AU hm;have hr:=I2 n y0 y1 y2 y3 y4 ys z0 z1 z2 z3 z4 ks o o.length ks.length i
  try dsimp only [shr] at hr
  rw [Aj (dcT (by omega)),T2 (by omega),ntN,gtE hl,Ao,W1,Ag (dcT (by omega))] at hr;simp only [Bo,drop_zero,take_length,AH] at hr;rw [hd];generalize ks[i]=p at hr hrz hcz ⊢;have ih:=fun o' (ho':o'.length<=i+1)=>JW n y0 y1 y2 y3 y4 ys z0 z1 z2 z3 z4 hys hcy ks hks hcn hc6 j (i+1) o' (by omega) ho'
  cases hn:AC p.lab.2.2.1 ys with
  | false=>
   have e3:A0 o (Bb ys (p::ks.drop (i+1)))=A0 o (Bb ys (ks.drop (i+1))):=by rw [Bb,hn]; rfl
   rw [hn,Bt] at hr;rw [e3];exact sts hr (ih _ (by omega))
  | true=>
   obtain ⟨bm,bn⟩:=DI hn;have hxr:=all_eq_true.1 hys _ bm;have hxc:=AU bm;rw [hn,Bs,Ag (dcT ⟨hrz,hxr,by omega,by omega,by omega⟩)] at hr
   cases hb:joB p (byR p.lab.2.2.1 ys) with
   | false=>
    have e3:A0 o (Bb ys (p::ks.drop (i+1)))=A0 o (Bb ys (ks.drop (i+1))):=by rw [Bb,hn,hb]; rfl
    rw [hb,Bt] at hr;rw [e3];exact sts hr (ih _ (by omega))
   | true=>
    have e3:A0 o (Bb ys (p::ks.drop (i+1)))=A0 (Cc o (joV p (byR p.lab.2.2.1 ys))) (Bb ys (ks.drop (i+1))):=by rw [Bb,hn,hb]; rfl
    rw [hb,Bs,Ag (dcT (by omega))] at hr;rw [e3];exact sts hr (ih _ (by rw [F8]; omega))
theorem QX (n:Nat) : ∀ d e d',((smA n).L d).run=some (e,d')->Runs prog (Lr n) (Aa [(12,smA n),(23,smB)]) 0 (body f16 0) (smA n) d e d':=fun d e d' h=>by
 unfold smA at h;dsimp only at h;split at h
 ·rename_i ks c i bx bb br bo rr ro;split at h
  ·rename_i x0 x1 x2 x3 x4 xs y0 y1 y2 y3 y4 ys;split at h
   ·rename_i z0 z1 z2 z3 z4 m;split at h
    ·rename_i o;obtain ⟨hc,hx⟩:=Ae h;obtain ⟨h0,h1,rfl,rfl,h3,h4,h5,h6,h7,h8⟩:=of_decide_eq_true hc;obtain ⟨i,rfl⟩:=eq_ofNat_of_zero_le h0;simp only [ntN] at h1 h3 hx;exact JU n x0 x1 x2 x3 x4 xs y0 y1 y2 y3 y4 ys z0 z1 z2 z3 z4 h5 h8 ks h4 h6 h7 (ks.length-i) i o (by omega) h3 e d' hx
    ·cases h
   ·cases h
  ·cases h
 ·cases h
theorem QW (n:Nat) : ∀ d e d',(smB.L d).run=some (e,d')->Runs prog (Lr n) (Aa [(12,smA n),(23,smB)]) 0 (body f16 1) smB d e d':=fun d e d' h=>by
 unfold smB at h;dsimp only at h;split at h
 ·rename_i ks c i x0 x1 x2 x3 x4 xs z0 z1 z2 z3 z4 m o;obtain ⟨hc,hx⟩:=Ae h;obtain ⟨h0,h1,rfl,rfl,h3,h4,h5⟩:=of_decide_eq_true hc;obtain ⟨i,rfl⟩:=eq_ofNat_of_zero_le h0;simp only [ntN] at h1 h3 hx;obtain ⟨rfl,rfl⟩:=Prod.mk.inj (BV hx);exact Hh n x0 x1 x2 x3 x4 xs z0 z1 z2 z3 z4 h5 ks h4 (ks.length-i) i o (by omega) h3
 ·cases h
theorem QV (n:Nat):Az prog (Lr n) (Aa [(12,smA n),(23,smB)]) 0 (f16.body.getD .skip):=
 LoopsI.loops (.cons (a:=body f16 0) (by kernel_rfl) (QX n) (.cons (a:=body f16 1) (by kernel_rfl) (QW n) .nil)) (by kernel_rfl)
theorem QY (n:Nat):Az prog (QA n) (Aa [(12,sjA n)]) 0 (f20.body.getD .skip):=by
 refine Aw (a:=body f20 0) (by kernel_rfl) fun d e d' h=>?_
 unfold sjA at h;dsimp only at h;split at h
 ·rename_i ks c i y0 y1 y2 y3 y4 ys z0 z1 z2 z3 z4 m o;obtain ⟨hc,hx⟩:=Ae h;obtain ⟨h0,h1,rfl,rfl,h3,h4,h5,h6,h7,h8⟩:=of_decide_eq_true hc;obtain ⟨i,rfl⟩:=eq_ofNat_of_zero_le h0;simp only [ntN] at h1 h3 hx;obtain ⟨rfl,rfl⟩:=Prod.mk.inj (BV hx);exact JW n y0 y1 y2 y3 y4 ys z0 z1 z2 z3 z4 h5 h8 ks h4 h6 h7 (ks.length-i) i o (by omega) h3
 ·cases h
theorem OJ (x0:Int) (x1:By) (x2:Int) (x3:Bool) (x4:Int) (xs:RL) (y0:Int) (y1:By) (y2:Int) (y3:Bool) (y4:Int) (ys:RL):meV (.node (x0,x1,x2,x3,x4,()) xs:Rose Lab) (.node (y0,y1,y2,y3,y4,()) ys:Rose Lab)=if x0≠y0 then zR else if x0=4 then .node (shM (x0,x1,x2,x3,x4,()) (y0,y1,y2,y3,y4,())) [LM xs ys] else bif Bw ys xs then .node (shM (x0,x1,x2,x3,x4,()) (y0,y1,y2,y3,y4,())) (A0 [] (Bv ys xs++AM xs ys)) else zR:=by rw [meV]; rfl
theorem OK (x0:Int) (x1:By) (x2:Int) (x3:Bool) (x4:Int) (xs:RL) (y0:Int) (y1:By) (y2:Int) (y3:Bool) (y4:Int) (ys:RL):meB (.node (x0,x1,x2,x3,x4,()) xs:Rose Lab) (.node (y0,y1,y2,y3,y4,()) ys:Rose Lab)=if x0≠y0 then false else if x0=4 then LO xs ys else Bw ys xs:=by rw [meB]; rfl
theorem Pk (x0:Int) (x1:By) (x2:Int) (x3:Bool) (x4:Int) (xs:RL) (y0:Int) (y1:By) (y2:Int) (y3:Bool) (y4:Int) (ys:RL):joV (.node (x0,x1,x2,x3,x4,()) xs:Rose Lab) (.node (y0,y1,y2,y3,y4,()) ys:Rose Lab)=if x0≠y0 then zR else if x0=4 then .node (shJ (x0,x1,x2,x3,x4,()) (y0,y1,y2,y3,y4,())) [KM xs ys] else .node (shJ (x0,x1,x2,x3,x4,()) (y0,y1,y2,y3,y4,())) (Bb ys xs):=by rw [joV]; rfl
theorem Pm (x0:Int) (x1:By) (x2:Int) (x3:Bool) (x4:Int) (xs:RL) (y0:Int) (y1:By) (y2:Int) (y3:Bool) (y4:Int) (ys:RL):joB (.node (x0,x1,x2,x3,x4,()) xs:Rose Lab) (.node (y0,y1,y2,y3,y4,()) ys:Rose Lab)=if x0≠y0 then false else if x0=4 then KN xs ys else true:=by rw [joB]; rfl
theorem PN : ∀ n,(∀ m,m<n->Ab prog 16 (Ent.rd1 (L4 m)).F)->Ab prog 16 (Ent.rd1 (L4 n)).F
 | 0,_=>AN fun vs bs=>by
  unfold Ent.F L4;dsimp only;split
  ·rename_i x0 x1 x2 x3 x4 xs y0 y1 y2 y3 y4 ys;have hz:=Cf (.node (x0,x1,x2,x3,x4,()) xs:Rose Lab);have:decide (Ac (.node (x0,x1,x2,x3,x4,()) xs:Rose Lab)=true/\Ac (.node (y0,y1,y2,y3,y4,()) ys:Rose Lab)=true/\Af (.node (x0,x1,x2,x3,x4,()) xs:Rose Lab)<=0/\Af (.node (x0,x1,x2,x3,x4,()) xs:Rose Lab)<=400000/\Af (.node (y0,y1,y2,y3,y4,()) ys:Rose Lab)<=400000)=false:=dcF (by omega);rw [this]; rfl
  ·rfl
 | n+1,ihs=>by
  have ih:=ihs n (lt_succ_self n);refine Dm (kc func36 On (kc func37 RZ (kc func38 pkC (kc func16 ih KnowsL.nil)))).knows (Λ:=(Aa [(12,smA n),(23,smB)])) func16 (c:=f16.body.getD .skip) (by kernel_rfl) fun vs bs r hq hv hb=>?_
  unfold Ent.F L4 at hq;dsimp only at hq;split at hq
  ·rename_i x0 x1 x2 x3 x4 xs y0 y1 y2 y3 y4 ys;obtain ⟨hc,hx⟩:=Ae hq;obtain ⟨h1,h2,h3,h4,h5⟩:=of_decide_eq_true hc;refine ⟨QV n,(Oj n x0 x1 x2 x3 x4 xs y0 y1 y2 y3 y4 ys).trans (Eq.trans ?_ hx)⟩;dsimp only [shr];show _=some _;have hM:=mxI;have hkb:Af (.node (y0,y1,y2,y3,y4,()) ys:Rose Lab)=Ai ys+1:=AF _;have hka:Af (.node (x0,x1,x2,x3,x4,()) xs:Rose Lab)=Ai xs+1:=AF _;have hlx:=AK xs;have hly:=AK ys;have l1:=Cz h1;have l2:=Cz h2;have k1:=BL h1;have k2:=BL h2;have kr:=B4 h1;dsimp only [Rose.lab,Rose.kids] at l1 l2 k1 k2 kr;rw [OJ,OK]
   by_cases q1:x0=y0
   ·rw [Ah (bne_eq_false_iff_eq.2 q1),if_neg (Classical.not_not.2 q1),if_neg (Classical.not_not.2 q1)]
    by_cases q4:x0=4
    ·rw [if_pos q4,if_pos q4];obtain ⟨k3,k4⟩:=l1 q4;obtain ⟨k5,k6⟩:=l2 (q1 ▸ q4)
     match xs,k3,ys,k5 with
     | [x],_,[y],_=>
      have e1:Ai [x]=Af x:=by rw [Ai,Ai]; rfl
      have e2:Ai [y]=Af y:=by rw [Ai,Ai]; rfl
      have nd:Ac x=true/\Ac y=true/\Af x<=n/\Af x<=400000/\Af y<=400000:=⟨by simpa using k4,by simpa using k6,by omega,by omega,by omega⟩
      rw [LM,LO,show hd0 [y]=y from rfl,show [x][0]? = some x from rfl,show [y][0]? = some y from rfl];rcases eq_false_or_eq_true x3 with q3 | q3<;>by_cases q5:y4<x4
      all_goals
       first
        | rw [Aj q3]
        | rw [Ah q3]
       first
        | rw [Aj (dcT q5)]
        | rw [Ah (dcF q5)]
       rw [Aj (beq_iff_eq.2 q4),Ag (by rfl),Ao,Ag (by rfl),Ao];simp only [Bo,drop_zero,take_length,AH];rw [Ag (dcT nd)];subst q3
       first
        | simp only [shM,Gj,if_neg q5]
        | simp only [shM,Gj,if_pos q5]
       rfl
    ·rw [if_neg q4,if_neg q4];have kr:=kr q4;simp only [drop_zero,AH]
     cases hb:Bw ys xs with
     | true=>
      have hL:=F7 (Bv ys xs) [];rw [CI,List.length_map,<-CI,List.length_nil,zero_add] at hL;rcases eq_false_or_eq_true x3 with q3 | q3<;>by_cases q5:y4<x4
      all_goals
       first
        | rw [Aj q3]
        | rw [Ah q3]
       first
        | rw [Aj (dcT q5)]
        | rw [Ah (dcF q5)]
       rw [Ah (beq_eq_false_iff_ne.2 q4),Ag (dcT ⟨by omega,by omega,by trivial,by trivial,by omega,k1,k2,by omega,by omega,by omega⟩),Bs,Ag (dcT ⟨by omega,by omega,by trivial,by trivial,by omega,by omega,by omega⟩),cond_true,Oy];subst q3
       first
        | simp only [shM,Gj,if_neg q5]
        | simp only [shM,Gj,if_pos q5]
       rfl
     | false=>
      rcases eq_false_or_eq_true x3 with q3 | q3<;>by_cases q5:y4<x4
      all_goals
       first
        | rw [Aj q3]
        | rw [Ah q3]
       first
        | rw [Aj (dcT q5)]
        | rw [Ah (dcF q5)]
       rw [Ah (beq_eq_false_iff_ne.2 q4),Ag (dcT ⟨by omega,by omega,by trivial,by trivial,by omega,k1,k2,by omega,by omega,by omega⟩),Bt,cond_false];rfl
   ·rw [Aj (bne_iff_ne.2 q1),if_pos q1,if_pos q1];rfl
  ·cases hq
theorem PO (n:Nat):Ab prog 16 (Ent.rd1 (L4 n)).F:=Nat.strongRecOn n fun n h=>PN n h
theorem PP : ∀ n,(∀ m,m<n->Ab prog 20 (Ent.rd1 (L7 m)).F)->Ab prog 20 (Ent.rd1 (L7 n)).F
 | 0,_=>AN fun vs bs=>by
  unfold Ent.F L7;dsimp only;split
  ·rename_i x0 x1 x2 x3 x4 xs y0 y1 y2 y3 y4 ys;have hz:=Cf (.node (x0,x1,x2,x3,x4,()) xs:Rose Lab);have:decide (Ac (.node (x0,x1,x2,x3,x4,()) xs:Rose Lab)=true/\Ac (.node (y0,y1,y2,y3,y4,()) ys:Rose Lab)=true/\Af (.node (x0,x1,x2,x3,x4,()) xs:Rose Lab)<=0/\Af (.node (x0,x1,x2,x3,x4,()) xs:Rose Lab)<=400000/\Af (.node (y0,y1,y2,y3,y4,()) ys:Rose Lab)<=400000)=false:=dcF (by omega);rw [this]; rfl
  ·rfl
 | n+1,ihs=>by
  have ih:=ihs n (lt_succ_self n);refine fcC (kc func36 On (kc func37 RZ (kc func38 pkC (kc func20 ih KnowsL.nil)))).knows (Λ:=(Aa [(12,sjA n)])) func20 fun vs bs r hq=>?_
  unfold Ent.F L7 at hq;dsimp only at hq;split at hq
  ·rename_i x0 x1 x2 x3 x4 xs y0 y1 y2 y3 y4 ys;obtain ⟨hc,hx⟩:=Ae hq;obtain ⟨h1,h2,h3,h4,h5⟩:=of_decide_eq_true hc;refine ⟨QY n,(Ol n x0 x1 x2 x3 x4 xs y0 y1 y2 y3 y4 ys).trans (Eq.trans ?_ hx)⟩;dsimp only [shr];show _=some _;have hM:=mxI;have hkb:Af (.node (y0,y1,y2,y3,y4,()) ys:Rose Lab)=Ai ys+1:=AF _;have hka:Af (.node (x0,x1,x2,x3,x4,()) xs:Rose Lab)=Ai xs+1:=AF _;have hlx:=AK xs;have hly:=AK ys;have l1:=Cz h1;have l2:=Cz h2;have k1:=BL h1;have k2:=BL h2;have kr:=B4 h1;dsimp only [Rose.lab,Rose.kids] at l1 l2 k1 k2 kr;rw [Pk,Pm]
   by_cases q1:x0=y0
   ·rw [Ah (bne_eq_false_iff_eq.2 q1),if_neg (Classical.not_not.2 q1),if_neg (Classical.not_not.2 q1)]
    by_cases q4:x0=4
    ·rw [if_pos q4,if_pos q4];obtain ⟨k3,k4⟩:=l1 q4;obtain ⟨k5,k6⟩:=l2 (q1 ▸ q4)
     match xs,k3,ys,k5 with
     | [x],_,[y],_=>
      have e1:Ai [x]=Af x:=by rw [Ai,Ai]; rfl
      have e2:Ai [y]=Af y:=by rw [Ai,Ai]; rfl
      have nd:Ac x=true/\Ac y=true/\Af x<=n/\Af x<=400000/\Af y<=400000:=⟨by simpa using k4,by simpa using k6,by omega,by omega,by omega⟩
      rw [KM,KN,show hd0 [y]=y from rfl,show [x][0]? = some x from rfl,show [y][0]? = some y from rfl];rcases eq_false_or_eq_true x3 with q3 | q3<;>by_cases q5:y4>x4
      all_goals
       first
        | rw [Aj q3]
        | rw [Ah q3]
       first
        | rw [Aj (dcT q5)]
        | rw [Ah (dcF q5)]
       rw [Aj (beq_iff_eq.2 q4),Ag (by rfl),Ao,Ag (by rfl),Ao];simp only [Bo,drop_zero,take_length,AH];rw [Ag (dcT nd)];subst q3
       first
        | simp only [shJ,Fd,if_neg q5]
        | simp only [shJ,Fd,if_pos q5]
       rfl
    ·rw [if_neg q4,if_neg q4];have kr:=kr q4;simp only [drop_zero,AH];have he:A0 [] (Bb ys xs)=Bb ys xs:=Kb (o:=[]) (GX kr);rw [he];rcases eq_false_or_eq_true x3 with q3 | q3<;>by_cases q5:y4>x4
     all_goals
      first
       | rw [Aj q3]
       | rw [Ah q3]
      first
       | rw [Aj (dcT q5)]
       | rw [Ah (dcF q5)]
      rw [Ah (beq_eq_false_iff_ne.2 q4),Ag (dcT ⟨by omega,by omega,by trivial,by trivial,by omega,k1,k2,by omega,by omega,by omega⟩)];subst q3
      first
       | simp only [shJ,Fd,if_neg q5]
       | simp only [shJ,Fd,if_pos q5]
      rfl
   ·rw [Aj (bne_iff_ne.2 q1),if_pos q1,if_pos q1];rfl
  ·cases hq
theorem PQ (n:Nat):Ab prog 20 (Ent.rd1 (L7 n)).F:=Nat.strongRecOn n fun n h=>PP n h
def Nt (l:RL):Bool:=decide (l.Pairwise fun a b=>noR a≠noR b)
def QU:Gm
 | [.ref 0 0 n,.fn 51 [] []],[.row false _ (.tree LCd) l]=>.need (decide (n=l.length/\n<=1000000)&&Nt l) (.leaf (.tup [],[R0 (.tree LCd) (A0 [] l)]))
 | _,_=>.no

end Go.Proofs.Ytcgddnpfapcohaa.Den
