/- What functions of the program do, by the machine: Val5 Val6 Val7 Val8 Val9 Val10 Val11 Val12 Val13 Val14 Val15 Val16 Val17 Val18 Val19 Val20 Val21 Val22 Val23 Dr3 Dr4 Dr5 Dr6 DrR Fw1 Dc1 Dc2 Dc3 Dc4 Fil2 Wm1 Wm2 Wm3 Wm4 Wm5 En1 En2 Wi8 Dc5 En3 Val24 Val25 Val26 Dc6 Dc7 En4 En5 Dc8 En6 Cod1 Cod2 Cod3 Cod4 Cod5 Sub1 Sub2 Cod6 Cod7 Cd1 Is1 Cod8 Fw2 Fw3 Fw4 Frz Kf Nlf Dp1. -/
import Derived.Test.YtckmoiopjocapaaGreatDB
import Derived.KernelRfl
import Derived.Test.YtckmoiopjocapaaGreatRows
open Go.IntKind (i64)
open Go.Proofs.Tryz
open List (all_cons all_eq_true any_cons append_assoc append_nil cons_append drop drop_eq_getElem_cons drop_eq_nil_of_le drop_zero foldl_cons getD_eq_getElem?_getD getElem_mem length_append length_cons length_set length_singleton mem_cons mem_cons_of_mem mem_cons_self mem_of_getElem? mem_range mem_singleton nil_append pairwise_map range replicate set_set take take_length)
open Int (eq_ofNat_of_zero_le toNat)
open Nat (add_assoc le_trans lt_succ_self pow_succ zero_add zero_le)
open Option (getD_some)
namespace Go.Proofs.YtckmoiopjocapaaGreat.Den
open Go.Proofs
set_option maxRecDepth 100000
def byR (n:Int):RL->Rose Lab
 | []=>.node (0,[],0,false,0,()) []
 | z::l=>if z.lab.2.2.1=n then z else byR n l
def Cp (n:Int) (l:RL):Bool:=l.any fun z=>z.lab.2.2.1==n
def byG:Gm
 | [.agg (Lt _ _ _ _ _ ys),.j n],[]=>.need (decide (ys.length<=maxI)) (.br (Cp n ys) (.leaf (.tup [.agg (Lt ((byR n ys).lab.1) ((byR n ys).lab.2.1) ((byR n ys).lab.2.2.1) ((byR n ys).lab.2.2.2.1) ((byR n ys).lab.2.2.2.2.1) ((byR n ys).kids)),.b true],[])) (.leaf (.tup [.agg [.j 0,.s [],.j 0,.b false,.j 0,.ref 0 0 0],.b false],[R0 (.rose LCd) []])))
 | _,_=>.no
def byE:LoopEnt:=⟨22,[1,4,9,10,11],[4],[4,5],fun
 | ([.j n,.ptr 0 0,.sl (.rose LCd) ks,.j k,.j i],[some (.box [.j 0,.s [],.j 0,.b false,.j 0,.ref 1 0 0]),R0 (.rose LCd) []])=>.need (decide (0<=i/\i.toNat<=ks.length/\k=ks.length/\ks.length<=maxI)) (.br (Cp n (ks.drop i.toNat)) (.leaf (.ret,([.ptr 0 0,.b true],[some (.box (Lt ((byR n (ks.drop i.toNat)).lab.1) ((byR n (ks.drop i.toNat)).lab.2.1) ((byR n (ks.drop i.toNat)).lab.2.2.1) ((byR n (ks.drop i.toNat)).lab.2.2.2.1) ((byR n (ks.drop i.toNat)).lab.2.2.2.2.1) ((byR n (ks.drop i.toNat)).kids)))]))) (.leaf (.exit 0,([.ptr 0 0],[some (.box [.j 0,.s [],.j 0,.b false,.j 0,.ref 1 0 0]),R0 (.rose LCd) []]))))
 | _=>.no⟩
theorem Mn (n:Int) (ks:RL) (k i:Int):As prog (Aa []) (Aa [(2,byE)]) 0 (body f38 0) byE ([.j n,.ptr 0 0,.sl (.rose LCd) ks,.j k,.j i],[some (.box [.j 0,.s [],.j 0,.b false,.j 0,.ref 1 0 0]),R0 (.rose LCd) []]) =
 ((ifB (decide (i<k)) (ifT (decide (0<=i)&&decide (i<(↑ks.length:Int))) (Al ks[i.toNat]? fun z=>ifB ((Rose.lab z).2.2.1==n) (some (Ex.ret,[V.ptr 0 0,
 V.b true],[some (Blk.box (Lt ((Rose.lab z).1) ((Rose.lab z).2.1) ((Rose.lab z).2.2.1) ((Rose.lab z).2.2.2.1) ((Rose.lab
 z).2.2.2.2.1) (Rose.kids z)))])) (some (Ex.normal,[V.j n,V.ptr 0 0,V.sl LCd.rose ks,V.j k,V.j (i64.wrap (i+1))],
 [some (Blk.box [V.j 0,V.s (Ai UInt8),V.j 0,V.b false,V.j 0,V.ref 1 0 0]),R0 LCd.rose (Ai LCd.rose.den)])))) (some (Ex.exit
 0,[V.ptr 0 0],[some (Blk.box [V.j 0,V.s (Ai UInt8),V.j 0,V.b false,V.j 0,V.ref 1 0 0]),R0 LCd.rose (Ai LCd.rose.den)]))):_):=by kernel_rfl
theorem TO (y0:Int) (y1:By) (y2:Int) (y3:Bool) (y4:Int) (ys:RL) (n:Int):DZ prog (Aa []) (Aa [(2,byE)]) f38 [.agg (Lt y0 y1 y2 y3 y4 ys),.j n] [] =
 ((ifT (decide ((0:Int)<=(0:Int)/\0<=ys.length/\(↑ys.length:Int)=(↑ys.length:Int)/\ys.length<=maxI)) (ifB (Cp n (drop 0 ys)) (some
 (V.tup [V.agg (Lt ((byR n (drop 0 ys)).lab.1) ((byR n (drop 0 ys)).lab.2.1) ((byR n (drop 0
 ys)).lab.2.2.1) ((byR n (drop 0 ys)).lab.2.2.2.1) ((byR n (drop 0 ys)).lab.2.2.2.2.1) ((byR n
 (drop 0 ys)).kids)),V.b true],[])) (some (V.tup [V.agg [V.j 0,V.s (Ai UInt8),V.j 0,V.b false,V.j 0,V.ref 0 0 0],V.b false],[R0 LCd.rose (Ai LCd.rose.den)])))):_):=by kernel_rfl
theorem Oz (n:Int) (ks:RL) (hm:ks.length<=maxI) : ∀ (j i:Nat),i+j=ks.length->∀ ex d,(Br.br (Cp n (ks.drop i)) (.leaf (.ret,([.ptr 0 0,.b true],[some (.box (Lt ((byR n (ks.drop i)).lab.1) ((byR n (ks.drop i)).lab.2.1) ((byR n (ks.drop i)).lab.2.2.1) ((byR n (ks.drop i)).lab.2.2.2.1) ((byR n (ks.drop i)).lab.2.2.2.2.1) ((byR n (ks.drop i)).kids)))]))) (.leaf (.exit 0,([.ptr 0 0],[some (.box [.j 0,.s [],.j 0,.b false,.j 0,.ref 1 0 0]),R0 (.rose LCd) []]))):Br (Ex×Dt)).run=some (ex,d)->
  Runs prog (Aa []) (Aa [(2,byE)]) 0 (body f38 0) byE ([.j n,.ptr 0 0,.sl (.rose LCd) ks,.j (ks.length:Int),.j (i:Int)],[some (.box [.j 0,.s [],.j 0,.b false,.j 0,.ref 1 0 0]),R0 (.rose LCd) []]) ex d
 | 0,i,hi,ex,d,h=>by
  have hr:=Mn n ks ks.length i;rw [Ad (dcF (by omega))] at hr;rw [drop_eq_nil_of_le (by omega)] at h;obtain ⟨rfl,rfl⟩:=lfP h;exact stp hr
 | j+1,i,hi,ex,d,h=>by
  have hl:i<ks.length:=by omega
  have hM:=mxI;have hr:=Mn n ks ks.length i;rw [Ag (dcT (by omega)),T2 (by omega)] at hr;simp only [ntN,gtE hl,Am,Ax (n:=i) (by omega)] at hr;rw [drop_eq_getElem_cons hl] at h;unfold Cp at h;rw [any_cons,byR] at h
  by_cases q:ks[i].lab.2.2.1=n
  ·have qb:(ks[i].lab.2.2.1==n)=true:=by rw [q]; exact beq_self_eq_true _
   rw [qb,Bool.true_or,if_pos q] at h;rw [qb,Be] at hr;obtain ⟨rfl,rfl⟩:=lfP h;exact stp hr
  ·rw [beq_false_of_ne q,Bool.false_or,if_neg q] at h;rw [beq_false_of_ne q,AL] at hr;exact sts hr (Oz n ks hm j (i+1) (by omega) ex d h)
theorem Ww:Ar prog (Aa []) (Aa [(2,byE)]) 0 (f38.body.getD .skip):=by
 refine Ap (a:=body f38 0) (by kernel_rfl) fun d ex d' h=>?_
 unfold byE at h;dsimp only at h;split at h
 ·rename_i n ks k i;obtain ⟨hc,hx⟩:=Ac h;clear h;obtain ⟨h0,h1,rfl,h3⟩:=of_decide_eq_true hc;obtain ⟨i,rfl⟩:=eq_ofNat_of_zero_le h0;simp only [ntN] at h1 hx;exact Oz n ks h3 (ks.length-i) i (by omega) ex d' hx
 ·cases h
theorem WA:Ab prog 38 (Ent.rd1 byG).F:=by
 refine fcN KnowsL.nil.knows (Λ:=(Aa [(2,byE)])) func38 fun vs bs r hq=>?_
 unfold Ent.F byG at hq;dsimp only at hq;split at hq
 ·rename_i y0 y1 y2 y3 y4 ys n;obtain ⟨hc,hx⟩:=Ac hq;refine ⟨Ww,Eq.trans ?_ hx⟩;rw [TO,Ae (dcT ⟨by omega,by omega,rfl,of_decide_eq_true hc⟩),drop_zero];cases Cp n ys<;>rfl
 ·cases hq

theorem ER (z:Rose Lab):Rose.node (z.lab.1,z.lab.2.1,z.lab.2.2.1,z.lab.2.2.2.1,z.lab.2.2.2.2.1,()) z.kids=z:=by
 obtain ⟨⟨_,_,_,_,_,⟨⟩⟩,ks⟩:=z; rfl
instance decNd0:DecidableEq (Int×Bool×Unit):=inferInstance
instance decNd:DecidableEq Nd:=inferInstance


theorem VZ {l:List Ty} (h:Bd l=true):0<l.length/\A5 (t2L l 0)<=1000000/\Bv (t2L l 0)=true/\(kf l 0).1=t2L l 0:=by
 have e:=(Ht l).2 h;have f:=LH h;rw [e] at f;refine ⟨?_,f.1,f.2,e⟩;unfold Bd at h;simp only [anE,dcE] at h;omega



theorem Pp {n:Int} {ks:RL}:Cp n ks=true↔∃ y∈ks,y.lab.2.2.1=n:=by
 unfold Cp;rw [List.any_eq_true];constructor
 ·rintro ⟨y,h1,h2⟩; exact ⟨y,h1,by simpa using h2⟩
 ·rintro ⟨y,h1,h2⟩; exact ⟨y,h1,by simpa using h2⟩
theorem Ry {n:Int} {z:Rose Lab} {ks:RL} (h:n≠z.lab.2.2.1):Cp n (z::ks)=Cp n ks/\byR n (z::ks)=byR n ks:=by
 constructor
 ·unfold Cp;rw [any_cons,beq_false_of_ne (Ne.symm h),Bool.false_or]
 ·rw [byR,if_neg (Ne.symm h)]














def kpC:Gm
 | [.tp LCd z 0,.bx [.j x] 0],[]=>.leaf (.b (z.lab.2.2.1==x),[])
 | _,_=>.no
def kpE  : LoopEnt:=⟨19,[0,1,4,7,8],[],[4],fun
 | ([.sl (.tree LCd) l,.fn 81 [] [.ptr 0 0],.j _,.j k,.j i],[some (.box [.j x])])=>
  .need (decide (0<=i/\i.toNat<=l.length/\l.length<=maxI/\k=l.length)) (.br (decide (Aw (fun z:Rose Lab=>z.lab.2.2.1==x) i.toNat (l.drop i.toNat)<0)) (.leaf (.exit 0,([],[some (.box [.j x])]))) (.leaf (.ret,([.j (Aw (fun z:Rose Lab=>z.lab.2.2.1==x) i.toNat (l.drop i.toNat))],[some (.box [.j x])]))))
 | _=>.no⟩
def UP  : Gm
 | [.sl (.tree LCd) l,.fn 81 [] [.ptr 0 0]],[.box [.j x]]=>.leaf (.j (Aw (fun z:Rose Lab=>z.lab.2.2.1==x) 0 l),[some (.box [.j x])])
 | _,_=>.no
def MV:Gm
 | [.tp LCd z 0,.j x],[]=>.need (decide (z.kids.length<=maxI)) (.br (Cp x z.kids) (.leaf (.tp LCd (byR x z.kids) 0,[])) (.leaf (.np,[])))
 | _,_=>.no
theorem Ta:Ab prog 81 (Ent.rd1 kpC).F:=by
 refine fcK KnowsL.nil.knows (Λ:=Aa []) func81 fun vs bs r hq=>?_
 unfold Ent.F kpC at hq;dsimp only at hq;split at hq
 ·rename_i z x;refine ⟨Aj _,Eq.trans ?_ hq⟩;have e:A3 prog (Aa []) (Aa []) f81 [.tp LCd z 0,.bx [.j x] 0] []=((some (V.b (z.lab.2.2.1==x),[])):_):=by kernel_rfl
  rw [e];rfl
 ·cases hq
theorem LG  (x:Int) (l:RL) (r k i:Int):As prog (Aa [(81,.rd1 kpC)]) (Aa [(2,kpE)]) 1 (body f80 0) kpE ([.sl (.tree LCd) l,.fn 81 [] [.ptr 0 0],.j r,.j k,.j i],[some (.box [.j x])]) =
 ((ifB (decide (i<k)) (ifT (decide (0<=i)&&decide (i<(↑l.length:Int))) (Al l[i.toNat]? fun z=>ifB ((Rose.lab z).2.2.1==x) (some (Ex.ret,[V.j i],
 [some (Blk.box [V.j x])])) (some (Ex.normal,[V.sl LCd.tree l,V.fn 81 [] [V.ptr 0 0],V.j r,V.j k,V.j (i64.wrap (i +
 1))],[some (Blk.box [V.j x])])))) (some (Ex.exit 0,[],[some (Blk.box [V.j x])]))):_):=by kernel_rfl
theorem Og  (x:Int) {l:RL} {r:Int} (hx:l.length<=maxI) : ∀ (j i:Nat),i+j=l.length->∀ e d',(.br (decide (Aw (fun z:Rose Lab=>z.lab.2.2.1==x) i (l.drop i)<0)) (.leaf (.exit 0,([],[some (.box [.j x])]))) (.leaf (.ret,([.j (Aw (fun z:Rose Lab=>z.lab.2.2.1==x) i (l.drop i))],[some (.box [.j x])]))):Br (Ex×Dt)).run=some (e,d')->
  Runs prog (Aa [(81,.rd1 kpC)]) (Aa [(2,kpE)]) 1 (body f80 0) kpE ([.sl (.tree LCd) l,.fn 81 [] [.ptr 0 0],.j r,.j (l.length:Int),.j (i:Int)],[some (.box [.j x])]) e d'
 | 0,i,hi,e,d',h=>by
  have e1:l.drop i=[]:=drop_eq_nil_of_le (by omega);rw [e1,CF,Aw,if_pos (by omega)] at h;cases h;have hr:=LG x l r l.length i;rw [Ad (dcF (by omega))] at hr;exact stp hr
 | j+1,i,hi,e,d',h=>by
  have h1:i<l.length:=by omega
  have hr:=LG x l r l.length i;rw [Ag (dcT (by omega)),T2 (by omega)] at hr;simp only [ntN,gtE h1,Am,Ax (n:=i) (by omega)] at hr;rw [drop_eq_getElem_cons h1,CF,Aw] at h
  by_cases he:(fun z:Rose Lab=>z.lab.2.2.1==x) l[i]=true
  ·rw [if_pos he,if_neg (by omega)] at h;cases h;rw [Ag he] at hr;exact stp hr
  ·rw [if_neg he] at h;rw [Ad (by simpa using he)] at hr;exact sts hr (Og x hx j (i+1) (by omega) e d' (by rw [CF]; exact h))
theorem VW  : Ar prog (Aa [(81,.rd1 kpC)]) (Aa [(2,kpE)]) 1 (f80.body.getD .skip):=by
 refine Ap (a:=body f80 0) (by kernel_rfl) fun d e d' h=>?_
 unfold kpE at h;dsimp only at h;split at h
 ·obtain ⟨hc,h'⟩:=Ac h;obtain ⟨h0,h1,h2,rfl⟩:=of_decide_eq_true hc;obtain ⟨i,rfl⟩:=eq_ofNat_of_zero_le h0;exact Og _  h2 _ i (Nat.add_sub_of_le h1) e d' h'
 ·cases h
theorem UR  (x:Int) (l:RL) (hx:l.length<=maxI):A3 prog (Aa [(81,.rd1 kpC)]) (Aa [(2,kpE)]) f80 [.sl (.tree LCd) l,.fn 81 [] [.ptr 0 0]] [.box [.j x]]=some (.j (Aw (fun z:Rose Lab=>z.lab.2.2.1==x) 0 l),[some (.box [.j x])]):=by
 have e:A3 prog (Aa [(81,.rd1 kpC)]) (Aa [(2,kpE)]) f80 [.sl (.tree LCd) l,.fn 81 [] [.ptr 0 0]] [.box [.j x]] =
  ((ifT (decide ((0:Int)<=(0:Int)/\0<=l.length/\l.length<=maxI/\(↑l.length:Int)=(↑l.length:Int))) (ifB (decide (Aw (fun z=>z.lab.2.2.1==
 x) 0 (drop 0 l)<(0:Int))) (some (V.j (-1),[some (Blk.box [V.j x])])) (some (V.j (Aw (fun z=>z.lab.2.2.1==x) (0 :
 Nat) (drop 0 l)),[some (Blk.box [V.j x])])))):_):=by kernel_rfl
 rw [e,Ae (dcT ⟨by omega,by omega,hx,rfl⟩)];simp only [drop_zero]
 by_cases q:Aw (fun z:Rose Lab=>z.lab.2.2.1==x) 0 l<0
 ·rw [Ag (dcT q),Ec _ _ _ q]
 ·rw [Ad (dcF q)]
theorem UQ  : Ab prog 80 (Ent.own UP).F:=by
 refine Bn (kc func81 Ta KnowsL.nil).knows (Λ:=(Aa [(2,kpE)])) func80 (c:=f80.body.getD .skip) (by kernel_rfl) fun vs bs r h hv hb=>?_
 unfold Ent.F UP at h;dsimp only at h;split at h
 ·rename_i l x;have h':=h;exact ⟨VW ,(UR x l (hv (.sl (.tree LCd) l) (by simp)).1).trans (by cases h'; rfl)⟩
 ·cases h
theorem MU (z:Rose Lab) (x:Int):A3 prog (Aa [(80,.own UP)]) (Aa []) f35 [.tp LCd z 0,.j x] [] =
 ((ifB (decide (Aw (fun z=>z.lab.2.2.1==x) 0 z.kids<(0:Int))) (some (V.np,[])) (ifT (decide ((0:Int)<=Aw (fun z=>z.lab.2.2.1==x)
 0 z.kids)&&decide (Aw (fun z=>z.lab.2.2.1==x) 0 z.kids<(↑z.kids.length:Int))) (Al z.kids[(Aw (fun z=>z.lab.2.2.1==x)
 0 z.kids).toNat]? fun z=>some (V.tp LCd z 0,[])))):_):=by kernel_rfl
theorem Mo {x:Int} : ∀ {l:RL} {y:Rose Lab},l.find? (fun z=>z.lab.2.2.1==x)=some y->Cp x l=true/\byR x l=y
 | [],y,h=>by cases h
 | z::l,y,h=>by
  by_cases q:z.lab.2.2.1=x
  ·have hb:(z.lab.2.2.1==x)=true:=by rw [q]; exact beq_self_eq_true _
   rw [List.find?_cons_of_pos (p:=fun z:Rose Lab=>z.lab.2.2.1==x) hb] at h;refine ⟨Pp.2 ⟨z,by simp,q⟩,?_⟩;rw [byR,if_pos q];exact Option.some.inj h
  ·have hb : ¬(z.lab.2.2.1==x)=true:=by rw [beq_false_of_ne q]; simp
   rw [List.find?_cons_of_neg (p:=fun z:Rose Lab=>z.lab.2.2.1==x) hb] at h;obtain ⟨h1,h2⟩:=Mo h;have hne:=Ry (ks:=l) (z:=z) (n:=x) (Ne.symm q);rw [hne.1,hne.2];exact ⟨h1,h2⟩
theorem VV:Ab prog 35 (Ent.rd1 MV).F:=by
 refine fcK (kc func80 UQ KnowsL.nil).knows (Λ:=Aa []) func35 fun vs bs r hq=>?_
 unfold Ent.F MV at hq;dsimp only at hq;split at hq
 ·rename_i z x;obtain ⟨hc,hx⟩:=Ac hq;refine ⟨Aj _,Eq.trans ?_ hx⟩;rw [MU];have ha:=Ed (fun z:Rose Lab=>z.lab.2.2.1==x) z.kids 0;have hhas:Cp x z.kids=z.kids.any (fun z:Rose Lab=>z.lab.2.2.1==x):=rfl
  by_cases q:Aw (fun z:Rose Lab=>z.lab.2.2.1==x) 0 z.kids<0
  ·rw [Ag (dcT q),hhas,<-ha,dcF (by omega)];rfl
  ·obtain ⟨i,h1,h2,h3,h4⟩:=J8 (fun z:Rose Lab=>z.lab.2.2.1==x) z.kids 0 (by omega);obtain ⟨h5,h6⟩:=Mo h4;rw [Ad (dcF q),h2,zero_add,T2 (by omega),ntN,gtE h1,Am,h5,h6];rfl
 ·cases hq






mutual
def AF:Rose Lab->Int->Nat->List Ty
 | .node x ks,up,s=>(x.1,x.2.1,x.2.2.1,x.2.2.2.1,up,x.2.2.2.2.1,())::Bg ks s (s+1)
def Bg:RL->Nat->Nat->List Ty
 | [],_,_=>[]
 | z::ks,s,p=>AF z s p++Bg ks s (p+(AF z s p).length)
end
mutual
theorem DJ : ∀ (z:Rose Lab) (up:Int) (s:Nat),(AF z up s).length=A5 z
 | .node x ks,up,s=>by rw [AF,A5,length_cons,Hz ks s (s+1)]
theorem Hz : ∀ (ks:RL) (s p:Nat),(Bg ks s p).length=Ay ks
 | [],_,_=>by rw [Bg,Ay]; rfl
 | z::ks,s,p=>by rw [Bg,Ay,length_append,DJ z s p,Hz ks s]
end


def Dr (n:Nat):Gm
 | [.agg (Lt y0 y1 y2 y3 y4 ys),.j up,.ref 0 0 m],[.row false _ TCd o]=>.need (decide (m=o.length/\o.length+Ay ys+1<=2000000/\Ay ys+1<=n)) (.leaf (.ref 1 0 (o++AF (.node (y0,y1,y2,y3,y4,()) ys) up o.length).length,[none,R0 TCd (o++AF (.node (y0,y1,y2,y3,y4,()) ys) up o.length)]))
 | _,_=>.no
def Fs:Gm
 | [.agg (Lt y0 y1 y2 y3 y4 ys),.j up,.ref 0 0 m],[.row false _ TCd o]=>.need (decide (m=o.length/\o.length+Ay ys+1<=2000000)) (.leaf (.ref 1 0 (o++AF (.node (y0,y1,y2,y3,y4,()) ys) up o.length).length,[none,R0 TCd (o++AF (.node (y0,y1,y2,y3,y4,()) ys) up o.length)]))
 | _,_=>.no
def DL (n:Nat):LoopEnt:=⟨40,[2,7,28,29,30],[2],[],fun
 | ([.ref 1 0 m,.j s,.sl (.rose LCd) ks,.j k,.j i],[none,R0 TCd o])=>.need (decide (m=o.length/\0<=i/\i.toNat<=ks.length/\k=ks.length/\0<=s/\o.length+Ay (ks.drop i.toNat)<=2000000/\Ay ks<=n/\Ay ks<=2000000)) (.leaf (.exit 0,([.ref 1 0 (o++Bg (ks.drop i.toNat) s.toNat o.length).length],[none,R0 TCd (o++Bg (ks.drop i.toNat) s.toNat o.length)])))
 | _=>.no⟩
def JR:Gm
 | [.agg (Lt y0 y1 y2 y3 y4 ys),.j up,.nl],[]=>.need (decide (Ay ys+1<=2000000)) (.leaf (.ref 0 0 (AF (.node (y0,y1,y2,y3,y4,()) ys) up 0).length,[R0 TCd (AF (.node (y0,y1,y2,y3,y4,()) ys) up 0)]))
 | _,_=>.no
def CL:LoopEnt:=⟨40,[2,7,28,29,30],[2],[],fun
 | ([.ref 0 0 m,.j s,.sl (.rose LCd) ks,.j k,.j i],[R0 TCd o])=>.need (decide (m=o.length/\0<=i/\i.toNat<=ks.length/\k=ks.length/\0<=s/\o.length+Ay (ks.drop i.toNat)<=2000000/\Ay ks<=2000000)) (.leaf (.exit 0,([.ref 0 0 (o++Bg (ks.drop i.toNat) s.toNat o.length).length],[R0 TCd (o++Bg (ks.drop i.toNat) s.toNat o.length)])))
 | _=>.no⟩
def N7:Gm
 | [.agg (Lt y0 y1 y2 y3 y4 ys)],[]=>.need (decide (Ay ys+1<=2000000)&&nmL (AF (.node (y0,y1,y2,y3,y4,()) ys) (-1) 0)) (.br (Bd (AF (.node (y0,y1,y2,y3,y4,()) ys) (-1) 0)) (.leaf (.tup [.agg [.ref 0 0 (AF (.node (y0,y1,y2,y3,y4,()) ys) (-1) 0).length],.b true],[R0 TCd (AF (.node (y0,y1,y2,y3,y4,()) ys) (-1) 0)])) (.leaf (.tup [.agg [.ref 0 0 0],.b false],[R0 TCd []])))
 | _,_=>.no
def LX (f:Cur->(List Ty)×Cur):Gm
 | [.ptr 0 0],[.box [.sl (.int .u8) l,.j a,.i .u64 s]]=>.need (decide ((Cur.mk l a s).good 80000000)) (.leaf (.agg [.ref 1 0 (f  (Cur.mk l a s)).1.length],[some (cB (f  (Cur.mk l a s)).2),R0 TCd (f  (Cur.mk l a s)).1]))
 | _,_=>.no
theorem GG (n m:Nat) (s:Int) (ks:RL) (k i:Int) (o:List Ty):As prog (Aa [(154,.own (Dr n))]) (Aa [(4,DL n)]) 1 (body f154 0) (DL n) ([.ref 1 0 m,.j s,.sl (.rose LCd) ks,.j k,.j i],[none,R0 TCd o]) =
 ((ifB (decide (i<k)) (ifT (decide (0<=i)&&decide (i<(↑ks.length:Int))) (Al ks[i.toNat]? fun z=>ifT (decide (m=o.length/\o.length+Ay (Rose.kids z)+(1
 : Nat)<=2000000/\Ay (Rose.kids z)+1<=n)) (some (Ex.normal,[V.ref 1 0 (o++AF (Rose.node ((Rose.lab z).1,(Rose.lab z).2.1,(Rose.lab
 z).2.2.1,(Rose.lab z).2.2.2.1,(Rose.lab z).2.2.2.2.1,()) (Rose.kids z)) s o.length).length,V.j s,V.sl LCd.rose ks,V.j k,V.i .i64
 (i64.wrap (i+1))],[none,R0 TCd (o++AF (Rose.node ((Rose.lab z).1,(Rose.lab z).2.1,(Rose.lab z).2.2.1,(Rose.lab
 z).2.2.2.1,(Rose.lab z).2.2.2.2.1,()) (Rose.kids z)) s o.length)])))) (some (Ex.exit 0,[V.ref 1 0 m],[none,R0 TCd o]))):_):=by kernel_rfl
theorem M2 (n:Nat) (y0:Int) (y1:By) (y2:Int) (y3:Bool) (y4:Int) (ys:RL) (m:Nat) (up:Int) (nl:Option Bool) (o:List Ty):DZ prog (Aa [(154,.own (Dr n))]) (Aa [(4,DL n)]) f154 [.agg (Lt y0 y1 y2 y3 y4 ys),.j up,.ref 0 0 m] [.row false nl TCd o] =
 ((ifT (decide ((m+1)*56<=140737488355328)&&decide (m+1<=maxI)) (ifT (decide (m+1=(take m (drop 0 o)
 ++ (y0,y1,y2,y3,up,y4,())::Ai TCd.den).length/\(0:Int)<=(0:Int)/\0<=ys.length/\(↑ys.length:Int)=(↑ys.length:Int)/\0<=(↑m:Int)/\
 (take m (drop 0 o)++(y0,y1,y2,y3,up,y4,())::Ai TCd.den).length+Ay (drop 0 ys)<=2000000/\Ay ys<=n/\Ay ys<=
 2000000)) (some (V.ref 1 0 (take m (drop 0 o)++(y0,y1,y2,y3,up,y4,())::Ai TCd.den++Bg (drop 0 ys) (↑m :
 Int).toNat (take m (drop 0 o)++(y0,y1,y2,y3,up,y4,())::Ai TCd.den).length).length,[none,R0 TCd (take m
 (drop 0 o)++(y0,y1,y2,y3,up,y4,())::Ai TCd.den++Bg (drop 0 ys) (↑m:Int).toNat (take m (drop 0 o)++(y0,
 y1,y2,y3,up,y4,())::Ai TCd.den).length)])))):_):=by kernel_rfl
theorem H1 (n s:Nat) (ks:RL) (h1:Ay ks<=n) (h2:Ay ks<=2000000) : ∀ (j i:Nat) (o:List Ty),i+j=ks.length->o.length+Ay (ks.drop i)<=2000000->
  Runs prog (Aa [(154,.own (Dr n))]) (Aa [(4,DL n)]) 1 (body f154 0) (DL n) ([.ref 1 0 o.length,.j (s:Int),.sl (.rose LCd) ks,.j (ks.length:Int),.j (i:Int)],[none,R0 TCd o]) (.exit 0) ([.ref 1 0 (o++Bg (ks.drop i) s o.length).length],[none,R0 TCd (o++Bg (ks.drop i) s o.length)])
 | 0,i,o,hi,ho=>by
  have hr:=GG n o.length s ks ks.length i o;rw [Ad (dcF (by omega))] at hr;rw [drop_eq_nil_of_le (by omega),Bg,append_nil];exact stp hr
 | j+1,i,o,hi,ho=>by
  have hl:i<ks.length:=by omega
  have hM:=mxI;have hlen:=Ct ks;have hmem:=Dq (getElem_mem hl);have hck:=Cu ks[i];have hr:=GG n o.length s ks ks.length i o;rw [drop_eq_getElem_cons hl,Ay] at ho;rw [Ag (dcT (by omega)),T2 (by omega),ntN,gtE hl,Am,Ax (n:=i) (by omega),ER,Ae (dcT ⟨rfl,by omega,by omega⟩)] at hr;rw [drop_eq_getElem_cons hl,Bg];have hk:=DJ ks[i] s o.length;have ih:=H1 n s ks h1 h2 j (i+1) (o++AF ks[i] s o.length) (by omega) (by rw [length_append]; omega);rw [length_append,append_assoc] at ih;rw [length_append] at hr;exact sts hr ih
theorem PR (n:Nat):Ar prog (Aa [(154,.own (Dr n))]) (Aa [(4,DL n)]) 1 (f154.body.getD .skip):=by
 refine Ap (a:=body f154 0) (by kernel_rfl) fun d ex d' h=>?_
 unfold DL at h;dsimp only at h;split at h
 ·rename_i m s ks k i o;obtain ⟨hc,hx⟩:=Ac h;clear h;obtain ⟨rfl,h0,h1,rfl,h3,h4,h5,h6⟩:=of_decide_eq_true hc;obtain ⟨i,rfl⟩:=eq_ofNat_of_zero_le h0;obtain ⟨s,rfl⟩:=eq_ofNat_of_zero_le h3;simp only [ntN] at h1 h4 hx;obtain ⟨rfl,rfl⟩:=lfP hx;exact H1 n s ks h5 h6 (ks.length-i) i o (by omega) h4
 ·cases h
theorem IW (y0:Int) (y1:By) (y2:Int) (y3:Bool) (y4:Int) (ys:RL) (up:Int) (s:Nat):AF (.node (y0,y1,y2,y3,y4,()) ys) up s=(y0,y1,y2,y3,up,y4,())::Bg ys s (s+1):=by rw [AF]
theorem O5 (n:Nat) (y0:Int) (y1:By) (y2:Int) (y3:Bool) (y4:Int) (ys:RL) (m:Nat) (up:Int) (nl:Option Bool) (o:List Ty) (hc:m=o.length/\o.length+Ay ys+1<=2000000/\Ay ys+1<=n+1):DZ prog (Aa [(154,.own (Dr n))]) (Aa [(4,DL n)]) f154 [.agg (Lt y0 y1 y2 y3 y4 ys),.j up,.ref 0 0 m] [.row false nl TCd o]=some (.ref 1 0 (o++AF (.node (y0,y1,y2,y3,y4,()) ys) up o.length).length,[none,R0 TCd (o++AF (.node (y0,y1,y2,y3,y4,()) ys) up o.length)]):=by
 rw [M2];obtain ⟨rfl,h2,h3⟩:=hc;have hM:=mxI;have hlen:=Ct ys;rw [show drop 0 o=o from rfl,show drop 0 ys=ys from rfl,take_length,ntN,IW];rw [T2 (by omega)];rw [Ae (dcT ⟨by simp [AG],by omega,by omega,rfl,by omega,by simp [AG]; omega,by omega,by omega⟩)];simp [AG]
theorem O6 : ∀ n,(∀ m,m<n->Ab prog 154 (Ent.own (Dr m)).F)->Ab prog 154 (Ent.own (Dr n)).F
 | 0,_=>AQ fun vs bs=>by
  unfold Ent.F Dr;dsimp only;split
  ·rename_i y0 y1 y2 y3 y4 ys up m x o;have:decide (m=o.length/\o.length+Ay ys+1<=2000000/\Ay ys+1<=0)=false:=dcF (by omega);rw [this]; rfl
  ·rfl
 | n+1,ih=>by
  refine fcN (kc func154 (ih n (lt_succ_self n)) KnowsL.nil).knows (Λ:=(Aa [(4,DL n)])) func154 fun vs bs r hq=>?_
  unfold Ent.F Dr at hq;dsimp only at hq;split at hq
  ·rename_i y0 y1 y2 y3 y4 ys up m nl o;obtain ⟨hc,hx⟩:=Ac hq;exact ⟨PR n,(O5 n y0 y1 y2 y3 y4 ys m up nl o (of_decide_eq_true hc)).trans hx⟩
  ·cases hq
theorem Ul:Ab prog 154 (Ent.own Fs).F:=by
 refine AX (F:=fun n=>(Ent.own (Dr n)).F) O6 fun vs bs r h=>?_
 unfold Ent.F Fs at h;dsimp only at h;split at h
 ·rename_i y0 y1 y2 y3 y4 ys up m nl o;obtain ⟨hc,hx⟩:=Ac h;refine ⟨Ay ys+1,?_⟩;show (Br.need (decide (m=o.length/\o.length+Ay ys+1<=2000000/\Ay ys+1<=Ay ys+1)) (.leaf (.ref 1 0 (o++AF (.node (y0,y1,y2,y3,y4,()) ys) up o.length).length,[none,R0 TCd (o++AF (.node (y0,y1,y2,y3,y4,()) ys) up o.length)]))).run=some r;obtain ⟨h1,h2⟩:=of_decide_eq_true hc;have:decide (m=o.length/\o.length+Ay ys+1<=2000000/\Ay ys+1<=Ay ys+1)=true:=dcT ⟨h1,h2,Nat.le_refl _⟩;rw [this];exact hx
 ·cases h
theorem FI (m:Nat) (s:Int) (ks:RL) (k i:Int) (o:List Ty):As prog (Aa [(154,.own Fs)]) (Aa [(4,CL)]) 0 (body f154 0) CL ([.ref 0 0 m,.j s,.sl (.rose LCd) ks,.j k,.j i],[R0 TCd o]) =
 ((ifB (decide (i<k)) (ifT (decide (0<=i)&&decide (i<(↑ks.length:Int))) (Al ks[i.toNat]? fun z=>ifT (decide (m=o.length/\o.length+Ay (Rose.kids z)+(1
 : Nat)<=2000000)) (some (Ex.normal,[V.ref 0 0 (o++AF (Rose.node ((Rose.lab z).1,(Rose.lab z).2.1,(Rose.lab z).2.2.1,(Rose.lab
 z).2.2.2.1,(Rose.lab z).2.2.2.2.1,()) (Rose.kids z)) s o.length).length,V.j s,V.sl LCd.rose ks,V.j k,V.j (i64.wrap (i +
 1))],[R0 TCd (o++AF (Rose.node ((Rose.lab z).1,(Rose.lab z).2.1,(Rose.lab z).2.2.1,(Rose.lab z).2.2.2.1,(Rose.lab
 z).2.2.2.2.1,()) (Rose.kids z)) s o.length)])))) (some (Ex.exit 0,[V.ref 0 0 m],[R0 TCd o]))):_):=by kernel_rfl
theorem KR (y0:Int) (y1:By) (y2:Int) (y3:Bool) (y4:Int) (ys:RL) (up:Int):DZ prog (Aa [(154,.own Fs)]) (Aa [(4,CL)]) f154 [.agg (Lt y0 y1 y2 y3 y4 ys),.j up,.nl] [] =
 ((ifT (decide (1=1/\(0:Int)<=(0:Int)/\0<=ys.length/\(↑ys.length:Int)=(↑ys.length:Int)/\(0:Int)<=(0:Int)/\1+Ay
 (drop 0 ys)<=2000000/\Ay ys<=2000000)) (some (V.ref 0 0 ((y0,y1,y2,y3,up,y4,())::Ai TCd.den++Bg (drop 0 ys)
 0 1).length,[R0 TCd ((y0,y1,y2,y3,up,y4,())::Ai TCd.den++Bg (drop 0 ys) 0 1)]))):_):=by kernel_rfl
theorem GH (s:Nat) (ks:RL) (h2:Ay ks<=2000000) : ∀ (j i:Nat) (o:List Ty),i+j=ks.length->o.length+Ay (ks.drop i)<=2000000->
  Runs prog (Aa [(154,.own Fs)]) (Aa [(4,CL)]) 0 (body f154 0) CL ([.ref 0 0 o.length,.j (s:Int),.sl (.rose LCd) ks,.j (ks.length:Int),.j (i:Int)],[R0 TCd o]) (.exit 0) ([.ref 0 0 (o++Bg (ks.drop i) s o.length).length],[R0 TCd (o++Bg (ks.drop i) s o.length)])
 | 0,i,o,hi,ho=>by
  have hr:=FI o.length s ks ks.length i o;rw [Ad (dcF (by omega))] at hr;rw [drop_eq_nil_of_le (by omega),Bg,append_nil];exact stp hr
 | j+1,i,o,hi,ho=>by
  have hl:i<ks.length:=by omega
  have hM:=mxI;have hlen:=Ct ks;have hmem:=Dq (getElem_mem hl);have hck:=Cu ks[i];have hr:=FI o.length s ks ks.length i o;rw [drop_eq_getElem_cons hl,Ay] at ho;rw [Ag (dcT (by omega)),T2 (by omega),ntN,gtE hl,Am,Ax (n:=i) (by omega),ER,Ae (dcT ⟨rfl,by omega⟩)] at hr;rw [drop_eq_getElem_cons hl,Bg];have hk:=DJ ks[i] s o.length;have ih:=GH s ks h2 j (i+1) (o++AF ks[i] s o.length) (by omega) (by rw [length_append]; omega);rw [length_append,append_assoc] at ih;rw [length_append] at hr;exact sts hr ih
theorem O7:Ar prog (Aa [(154,.own Fs)]) (Aa [(4,CL)]) 0 (f154.body.getD .skip):=by
 refine Ap (a:=body f154 0) (by kernel_rfl) fun d ex d' h=>?_
 unfold CL at h;dsimp only at h;split at h
 ·rename_i m s ks k i o;obtain ⟨hc,hx⟩:=Ac h;clear h;obtain ⟨rfl,h0,h1,rfl,h3,h4,h6⟩:=of_decide_eq_true hc;obtain ⟨i,rfl⟩:=eq_ofNat_of_zero_le h0;obtain ⟨s,rfl⟩:=eq_ofNat_of_zero_le h3;simp only [ntN] at h1 h4 hx;obtain ⟨rfl,rfl⟩:=lfP hx;exact GH s ks h6 (ks.length-i) i o (by omega) h4
 ·cases h
theorem M3 (y0:Int) (y1:By) (y2:Int) (y3:Bool) (y4:Int) (ys:RL) (up:Int) (hc:Ay ys+1<=2000000):DZ prog (Aa [(154,.own Fs)]) (Aa [(4,CL)]) f154 [.agg (Lt y0 y1 y2 y3 y4 ys),.j up,.nl] []=some (.ref 0 0 (AF (.node (y0,y1,y2,y3,y4,()) ys) up 0).length,[R0 TCd (AF (.node (y0,y1,y2,y3,y4,()) ys) up 0)]):=by
 rw [KR];have hM:=mxI;have hlen:=Ct ys;rw [show drop 0 ys=ys from rfl,IW];rw [Ae (dcT (by refine ⟨by trivial,by omega,by omega,by trivial,by omega,by omega,by omega⟩))];simp [AG]
theorem Um:Ab prog 154 (Ent.own JR).F:=by
 refine fcN (kc func154 Ul KnowsL.nil).knows (Λ:=(Aa [(4,CL)])) func154 fun vs bs r hq=>?_
 unfold Ent.F JR at hq;dsimp only at hq;split at hq
 ·rename_i y0 y1 y2 y3 y4 ys up;obtain ⟨hc,hx⟩:=Ac hq;exact ⟨O7,(M3 y0 y1 y2 y3 y4 ys up (of_decide_eq_true hc)).trans hx⟩
 ·cases hq
theorem O8 (y0:Int) (y1:By) (y2:Int) (y3:Bool) (y4:Int) (ys:RL):Ba prog (Aa [(154,.own JR),(63,.rd1 Ok)]) (Aa []) f110 [.agg (Lt y0 y1 y2 y3 y4 ys)] [] =
 ((ifT (decide (Ay ys+1<=2000000)) (ifT (decide ((take (AF (Rose.node (y0,y1,y2,y3,y4,()) ys) (-1:Int) 0).length (drop (0 :
 Nat) (AF (Rose.node (y0,y1,y2,y3,y4,()) ys) (-1:Int) 0))).length<=4000000000)&&nmL (take (AF (Rose.node (y0,y1,y2,y3,y4,())
 ys) (-1:Int) 0).length (drop 0 (AF (Rose.node (y0,y1,y2,y3,y4,()) ys) (-1:Int) 0)))) (ifB (!Bd (take (AF (Rose.node
 (y0,y1,y2,y3,y4,()) ys) (-1:Int) 0).length (drop 0 (AF (Rose.node (y0,y1,y2,y3,y4,()) ys) (-1:Int) 0)))) (some (V.tup
 [V.agg [V.ref 0 0 0],V.b false],[R0 TCd (Ai TCd.den)])) (some (V.tup [V.agg [V.ref 0 0 (AF (Rose.node (y0,y1,y2,y3,y4,()) ys) (-1 :
 Int) 0).length],V.b true],[R0 TCd (AF (Rose.node (y0,y1,y2,y3,y4,()) ys) (-1:Int) 0)]))))):_):=by kernel_rfl
mutual
theorem Jj : ∀ (z:Rose Lab) (up:Int) (s:Nat),B8 z=true->nmL (AF z up s)=true
 | .node x ks,up,s,h=>by
  rw [B8,anE] at h;have:=Jk ks s (s+1) h.2;unfold nmL at this ⊢;rw [AF,all_cons,this,h.1]; rfl
theorem Jk : ∀ (ks:RL) (s p:Nat),Di ks=true->nmL (Bg ks s p)=true
 | [],_,_,_=>by rw [Bg]; rfl
 | z::ks,s,p,h=>by
  rw [Di,anE] at h;have h1:=Jj z s p h.1;have h2:=Jk ks s (p+(AF z s p).length) h.2;unfold nmL at h1 h2 ⊢;rw [Bg,List.all_append,h1,h2]; rfl
end
theorem W3:Ab prog 110 (Ent.rd1 N7).F:=by
 refine fcC (kc func154 Um (kc func63 TZ KnowsL.nil)).knows (Λ:=Aa []) func110 fun vs bs r hq=>?_
 unfold Ent.F N7 at hq;dsimp only at hq;split at hq
 ·rename_i y0 y1 y2 y3 y4 ys;obtain ⟨hc,hx⟩:=Ac hq;rw [anE] at hc;obtain ⟨hc,hn⟩:=hc;have hc:=of_decide_eq_true hc;refine ⟨Aj _,Eq.trans ?_ hx⟩;have hl:=DJ (.node (y0,y1,y2,y3,y4,()) ys) (-1) 0;rw [Cu,show (Rose.node (y0,y1,y2,y3,y4,()) ys:Rose Lab).kids=ys from rfl] at hl;rw [O8,Ae (dcT hc),drop_zero,take_length,Ae (by rw [hn,dcT (by omega)]; rfl)];cases Bd (AF (.node (y0,y1,y2,y3,y4,()) ys) (-1) 0)<;>rfl
 ·cases hq
theorem Px (g:Int->Cur->Rose Lab×Cur)  (l:List Int) (a s:Int):Ba prog (Aa [(90,.own AV),(111,.own (RR g)),(110,.rd1 N7)]) (Aa []) f65 [.ptr 0 0] [.box [.sl (.int .u8) l,.j a,.i .u64 s]] =
 ((ifT (decide ((Cur.mk l a s).good (900000000:Int))) (ifT (decide ((0:Int)<=(Cur.mk l a s).pickV (4:Int)/\(Cur.mk l a s).pickV (4:Int)<=(3:Int)/\((Cur.mk l a
 s).pickC (4:Int)).good (83000000:Int))) (ifT (decide (Ay (take (g ((Cur.mk l a s).pickV (4:Int)) ((Cur.mk l a s).pickC (4:Int))).1.kids.length (drop
 0 (g ((Cur.mk l a s).pickV (4:Int)) ((Cur.mk l a s).pickC (4:Int))).1.kids))+1<=2000000)&&nmL (AF (Rose.node ((g ((Cur.mk l a
 s).pickV (4:Int)) ((Cur.mk l a s).pickC (4:Int))).1.lab.1,(g ((Cur.mk l a s).pickV (4:Int)) ((Cur.mk l a s).pickC (4:Int))).1.lab.2.1,(g ((Cur.mk l a
 s).pickV (4:Int)) ((Cur.mk l a s).pickC (4:Int))).1.lab.2.2.1,(g ((Cur.mk l a s).pickV (4:Int)) ((Cur.mk l a s).pickC (4:Int))).1.lab.2.2.2.1,
 (g ((Cur.mk l a s).pickV (4:Int)) ((Cur.mk l a s).pickC (4:Int))).1.lab.2.2.2.2.1,()) (take (g ((Cur.mk l a s).pickV (4:Int)) ((Cur.mk l a
 s).pickC (4:Int))).1.kids.length (drop 0 (g ((Cur.mk l a s).pickV (4:Int)) ((Cur.mk l a s).pickC (4:Int))).1.kids))) (-1:Int) 0)) (ifB
 (Bd (AF (Rose.node ((g ((Cur.mk l a s).pickV (4:Int)) ((Cur.mk l a s).pickC (4:Int))).1.lab.1,(g ((Cur.mk l a s).pickV (4:Int)) ((Cur.mk l a s).pickC (4
 : Int))).1.lab.2.1,(g ((Cur.mk l a s).pickV (4:Int)) ((Cur.mk l a s).pickC (4:Int))).1.lab.2.2.1,(g ((Cur.mk l a s).pickV (4:Int)) ((Cur.mk l a
 s).pickC (4:Int))).1.lab.2.2.2.1,(g ((Cur.mk l a s).pickV (4:Int)) ((Cur.mk l a s).pickC (4:Int))).1.lab.2.2.2.2.1,()) (take (g
 ((Cur.mk l a s).pickV (4:Int)) ((Cur.mk l a s).pickC (4:Int))).1.kids.length (drop 0 (g ((Cur.mk l a s).pickV (4:Int)) ((Cur.mk l a s).pickC (4 :
 Int))).1.kids))) (-1:Int) 0)) (some (V.agg [V.ref 1 0 (AF (Rose.node ((g ((Cur.mk l a s).pickV (4:Int)) ((Cur.mk l a s).pickC (4:Int))).1.lab.1,
 (g ((Cur.mk l a s).pickV (4:Int)) ((Cur.mk l a s).pickC (4:Int))).1.lab.2.1,(g ((Cur.mk l a s).pickV (4:Int)) ((Cur.mk l a s).pickC (4 :
 Int))).1.lab.2.2.1,(g ((Cur.mk l a s).pickV (4:Int)) ((Cur.mk l a s).pickC (4:Int))).1.lab.2.2.2.1,(g ((Cur.mk l a s).pickV (4:Int)) ((Cur.mk l
 a s).pickC (4:Int))).1.lab.2.2.2.2.1,()) (take (g ((Cur.mk l a s).pickV (4:Int)) ((Cur.mk l a s).pickC (4:Int))).1.kids.length (drop (0 :
 Nat) (g ((Cur.mk l a s).pickV (4:Int)) ((Cur.mk l a s).pickC (4:Int))).1.kids))) (-1:Int) 0).length],[some (Blk.box [V.sl (Cd.int .u8) (g ((Cur.mk l a
 s).pickV (4:Int)) ((Cur.mk l a s).pickC (4:Int))).2.l,V.j (g ((Cur.mk l a s).pickV (4:Int)) ((Cur.mk l a s).pickC (4:Int))).2.a,V.i .u64 (g ((Cur.mk l
 a s).pickV (4:Int)) ((Cur.mk l a s).pickC (4:Int))).2.s]),R0 TCd (AF (Rose.node ((g ((Cur.mk l a s).pickV (4:Int)) ((Cur.mk l a
 s).pickC (4:Int))).1.lab.1,(g ((Cur.mk l a s).pickV (4:Int)) ((Cur.mk l a s).pickC (4:Int))).1.lab.2.1,(g ((Cur.mk l a s).pickV (4:Int)) ((Cur.mk l a
 s).pickC (4:Int))).1.lab.2.2.1,(g ((Cur.mk l a s).pickV (4:Int)) ((Cur.mk l a s).pickC (4:Int))).1.lab.2.2.2.1,(g ((Cur.mk l a s).pickV (4 :
 Int)) ((Cur.mk l a s).pickC (4:Int))).1.lab.2.2.2.2.1,()) (take (g ((Cur.mk l a s).pickV (4:Int)) ((Cur.mk l a s).pickC (4:Int))).1.kids.length
 (drop 0 (g ((Cur.mk l a s).pickV (4:Int)) ((Cur.mk l a s).pickC (4:Int))).1.kids))) (-1:Int) 0)])) (some (V.agg [V.ref 1 0 1],[some
 (Blk.box [V.sl (Cd.int .u8) (g ((Cur.mk l a s).pickV (4:Int)) ((Cur.mk l a s).pickC (4:Int))).2.l,V.j (g ((Cur.mk l a s).pickV (4:Int)) ((Cur.mk l a
 s).pickC (4:Int))).2.a,V.i .u64 (g ((Cur.mk l a s).pickV (4:Int)) ((Cur.mk l a s).pickC (4:Int))).2.s]),R0 TCd (((5:Int),Ai UInt8,
 (0:Int),false,(-1:Int),(0:Int),())::Ai TCd.den)])))))):_):=by kernel_rfl
theorem T4  (l:List Int) (a s:Int) (hc:(Cur.mk l a s).good 80000000):Ex1 (Ba prog (Aa [(90,.own AV),(111,.own (RR GT)),(110,.rd1 N7)]) (Aa []) f65 [.ptr 0 0] [.box [.sl (.int .u8) l,.j a,.i .u64 s]]) (fun y:(List Ty)×Cur=>((.agg [.ref 1 0 y.1.length],[some (cB y.2),R0 TCd y.1]):V×List (Option Blk))) (fun y=>(∀ n,(Cur.mk l a s).good n->n<=80000000->y.2.good (n+6250))/\Bd y.1=true/\nmL y.1=true/\1<=y.1.length/\y.1.length<=30):=by
 refine Ex1.of (Px GT  l a s) ?_;have r4:=Cur.pickV_range (k:=4) hc (by omega);have g1:(Cur.pickC (Cur.mk l a s) 4).good 83000000:=Cur.pk (Cur.good_mono hc (by omega));obtain ⟨p1,p2⟩:=RQ _ _ _ r4.1 (by omega) g1 (by omega);have p3 : ∀ n,(Cur.mk l a s).good n->n<=80000000->(GT ((Cur.mk l a s).pickV 4) ((Cur.mk l a s).pickC 4)).2.good (n+6250):=fun n hn hm=>Cur.good_mono (RQ _ _ _ r4.1 (by omega) (Cur.pickC_good hn) (by omega)).1 (by omega)
 have hnm:=Jj _ (-1) 0 p2.2;have hcn:=p2.1;rw [Cu] at hcn;simp only [B3,AG,drop_zero,take_length,ER];refine Ex1.T (dcT (Cur.good_mono hc (by omega))) (Ex1.T (dcT ⟨r4.1,by omega,g1⟩) (Ex1.T (by rw [hnm,dcT (by omega)]; rfl) (Ex1.B (fun h=>?_) (fun h=>?_))))
 ·have hk:1<=(AF (GT ((Cur.mk l a s).pickV 4) ((Cur.mk l a s).pickC 4)).1 (-1) 0).length/\(AF (GT ((Cur.mk l a s).pickV 4) ((Cur.mk l a s).pickC 4)).1 (-1) 0).length<=30:=by
   have h:=h;unfold Bd at h;simp only [anE,dcE] at h;exact h.1.1.1
  exact Ex1.P (_,_) rfl rfl ⟨p3,h,hnm,hk⟩
 ·exact Ex1.P ([(5,[],0,false,-1,0,())],_) rfl rfl ⟨p3,by show Bd [(5,[],0,false,-1,0,())]=true; decide +kernel,by show nmL [(5,[],0,false,-1,0,())]=true; decide +kernel,by simp,by simp⟩

theorem Io : ∃ f:Cur->(List Ty)×Cur,Ab prog 65 (Ent.own (LX f)).F/\∀  (c:Cur),(c.good 80000000)->(∀ n,c.good n->n<=80000000->(f  c).2.good (n+6250))/\Bd (f  c).1=true/\nmL (f  c).1=true/\1<=(f  c).1.length/\(f  c).1.length<=30:=by
 have ex:=fun  (c:Cur) (hc:c.good 80000000)=>T4  c.l c.a c.s hc
 classical
 refine ⟨fun  c=>if h:c.good 80000000 then (ex  c h).choose else ([],c),?_,fun  c hc=>?_⟩
 rotate_left
 ·simp only [dif_pos hc];exact (ex  c hc).choose_spec.2
 refine fcC (kc func90 Fm (kc func111 TB (kc func110 W3 KnowsL.nil))).knows (Λ:=(Aa [])) func65 fun vs bs r hq=>?_
 unfold Ent.F LX at hq;dsimp only at hq;split at hq
 ·rename_i  l a s;obtain ⟨hc,hx⟩:=Ac hq;have hc:=of_decide_eq_true hc;refine ⟨Aj _,((ex  (Cur.mk l a s) hc).choose_spec.1).trans ?_⟩;rw [dif_pos hc] at hx;exact hx
 ·cases hq
noncomputable def Dz:Cur->(List Ty)×Cur:=Io.choose
theorem RJ:Ab prog 65 (Ent.own (LX Dz)).F:=Io.choose_spec.1
theorem T3 : ∀  (c:Cur),(c.good 80000000)->(∀ n,c.good n->n<=80000000->(Dz  c).2.good (n+6250))/\Bd (Dz  c).1=true/\nmL (Dz  c).1=true/\1<=(Dz  c).1.length/\(Dz  c).1.length<=30:=Io.choose_spec.2
def Mc (f:Cur->(List Ty)×Cur):Gm
 | [.ptr 0 0],[.box [.sl (.int .u8) l,.j a,.i .u64 s]]=>.need (decide ((Cur.mk l a s).good 70000000)) (.leaf (.agg [.ref 1 0 (f  (Cur.mk l a s)).1.length],[some (cB (f  (Cur.mk l a s)).2),R0 TCd (f  (Cur.mk l a s)).1]))
 | _,_=>.no
theorem QL {w:List Ty} {i:Nat} {z:Ty} (h:nmL w=true) (hz:z.2.1.length<=maxI):nmL (w.set i z)=true:=by
 unfold nmL at h ⊢;rw [all_eq_true] at h ⊢;intro x hx;rcases List.mem_or_eq_of_mem_set hx with hx | rfl
 ·exact h x hx
 ·exact dcT hz
theorem VQ {w:List Ty} {i:Nat} {z:Ty} (h:nmL w=true) (hz:w[i]? = some z):z.2.1.length<=maxI:=by
 unfold nmL at h;exact of_decide_eq_true (all_eq_true.1 h z (mem_of_getElem? hz))
theorem R3 {l:List (By)} {i n:Nat} (h:l.all (fun x=>decide (x.length<=n))=true):(l.getD i []).length<=n:=by
 rw [getD_eq_getElem?_getD]
 cases e:l[i]? with
 | none=>simp
 | some x=>exact of_decide_eq_true (all_eq_true.1 h x (mem_of_getElem? e))
theorem P1 (f:Cur->List Ty×Cur)  (l:List Int) (a s:Int):Ba prog (Aa [(65,.own (LX f)),(67,.own DF),(90,.own AV),(107,.own EW),(92,.own GB)]) (Aa []) f61 [.ptr 0 0] [.box [.sl (.int .u8) l,.j a,.i .u64 s]] =
 ((ifT (decide ((Cur.mk l a s).good (80000000:Int))) (ifT (decide ((f (Cur.mk l a s)).2.good (900000000:Int))) (ifB ((f (Cur.mk l a s)).2.pickV (12:Int)==(0 :
 Int)) (ifT (decide (((f (Cur.mk l a s)).2.pickC (12:Int)).good (900000000:Int))) (ifT (decide ((((f (Cur.mk l a s)).2.pickC (12:Int)).pickC (↑(f (Cur.mk l a
 s)).1.length:Int)).good (900000000:Int))) (ifB ((((f (Cur.mk l a s)).2.pickC (12:Int)).pickC (↑(f (Cur.mk l a s)).1.length:Int)).pickV (5:Int)==(0 :
 Int)) (ifT (decide (((((f (Cur.mk l a s)).2.pickC (12:Int)).pickC (↑(f (Cur.mk l a s)).1.length:Int)).pickC (5:Int)).good (900000000:Int))) (ifT (decide ((0 :
 Int)<=((f (Cur.mk l a s)).2.pickC (12:Int)).pickV (↑(f (Cur.mk l a s)).1.length:Int))&&decide (((f (Cur.mk l a s)).2.pickC (12:Int)).pickV (↑(f (Cur.mk l a
 s)).1.length:Int)<(↑(f (Cur.mk l a s)).1.length:Int))) (Al (f (Cur.mk l a s)).1[0+(((f (Cur.mk l a s)).2.pickC (12:Int)).pickV (↑(f (Cur.mk
 l a s)).1.length:Int)).toNat]? fun z=>some (V.agg [V.ref 1 0 (f (Cur.mk l a s)).1.length],[some (Blk.box [V.sl (Cd.int .u8) (((((f (Cur.mk l a s)).2.pickC (12
 : Int)).pickC (↑(f (Cur.mk l a s)).1.length:Int)).pickC (5:Int)).pickC (7:Int)).l,V.j (((((f (Cur.mk l a s)).2.pickC (12:Int)).pickC (↑(f (Cur.mk l a
 s)).1.length:Int)).pickC (5:Int)).pickC (7:Int)).a,V.i .u64 (((((f (Cur.mk l a s)).2.pickC (12:Int)).pickC (↑(f (Cur.mk l a s)).1.length:Int)).pickC (5 :
 Int)).pickC (7:Int)).s]),R0 TCd ((f (Cur.mk l a s)).1.set (0+(((f (Cur.mk l a s)).2.pickC (12:Int)).pickV (↑(f (Cur.mk l a
 s)).1.length:Int)).toNat) (((((f (Cur.mk l a s)).2.pickC (12:Int)).pickC (↑(f (Cur.mk l a s)).1.length:Int)).pickC (5:Int)).pickV (7:Int),z.2.1,
 z.2.2.1,z.2.2.2.1,z.2.2.2.2.1,z.2.2.2.2.2.1,()))])))) (ifB ((((f (Cur.mk l a s)).2.pickC (12:Int)).pickC (↑(f (Cur.mk l a
 s)).1.length:Int)).pickV (5:Int)==(1:Int)) (ifT (decide (((((f (Cur.mk l a s)).2.pickC (12:Int)).pickC (↑(f (Cur.mk l a s)).1.length:Int)).pickC (5 :
 Int)).good (900000000:Int))) (ifT (decide ((0:Int)<=((f (Cur.mk l a s)).2.pickC (12:Int)).pickV (↑(f (Cur.mk l a s)).1.length:Int))&&decide (((f (Cur.mk l
 a s)).2.pickC (12:Int)).pickV (↑(f (Cur.mk l a s)).1.length:Int)<(↑(f (Cur.mk l a s)).1.length:Int))) (Al (f (Cur.mk l a s)).1[0+(((f
 (Cur.mk l a s)).2.pickC (12:Int)).pickV (↑(f (Cur.mk l a s)).1.length:Int)).toNat]? fun z=>some (V.agg [V.ref 1 0 (f (Cur.mk l a s)).1.length],[some (Blk.box
 [V.sl (Cd.int .u8) (((((f (Cur.mk l a s)).2.pickC (12:Int)).pickC (↑(f (Cur.mk l a s)).1.length:Int)).pickC (5:Int)).pickC (4:Int)).l,V.j (((((f (Cur.mk
 l a s)).2.pickC (12:Int)).pickC (↑(f (Cur.mk l a s)).1.length:Int)).pickC (5:Int)).pickC (4:Int)).a,V.i .u64 (((((f (Cur.mk l a s)).2.pickC (12 :
 Int)).pickC (↑(f (Cur.mk l a s)).1.length:Int)).pickC (5:Int)).pickC (4:Int)).s]),R0 TCd ((f (Cur.mk l a s)).1.set (0+(((f
 (Cur.mk l a s)).2.pickC (12:Int)).pickV (↑(f (Cur.mk l a s)).1.length:Int)).toNat) (z.1,z.2.1,((((f (Cur.mk l a s)).2.pickC (12:Int)).pickC (↑(f
 (Cur.mk l a s)).1.length:Int)).pickC (5:Int)).pickV (4:Int),z.2.2.2.1,z.2.2.2.2.1,z.2.2.2.2.2.1,()))])))) (ifB ((((f (Cur.mk l
 a s)).2.pickC (12:Int)).pickC (↑(f (Cur.mk l a s)).1.length:Int)).pickV (5:Int)==(2:Int)) (ifT (decide (((((f (Cur.mk l a s)).2.pickC (12:Int)).pickC
 (↑(f (Cur.mk l a s)).1.length:Int)).pickC (5:Int)).good (900000000:Int))) (ifT (decide ((0:Int)<=((f (Cur.mk l a s)).2.pickC (12:Int)).pickV (↑(f (Cur.mk l
 a s)).1.length:Int))&&decide (((f (Cur.mk l a s)).2.pickC (12:Int)).pickV (↑(f (Cur.mk l a s)).1.length:Int)<(↑(f (Cur.mk l a s)).1.length:Int)))
 (Al (f (Cur.mk l a s)).1[0+(((f (Cur.mk l a s)).2.pickC (12:Int)).pickV (↑(f (Cur.mk l a s)).1.length:Int)).toNat]? fun z=>some (V.agg [V.ref 1
 0 (f (Cur.mk l a s)).1.length],[some (Blk.box [V.sl (Cd.int .u8) (((((f (Cur.mk l a s)).2.pickC (12:Int)).pickC (↑(f (Cur.mk l a s)).1.length:Int)).pickC (5 :
 Int)).pickC (4:Int)).l,V.j (((((f (Cur.mk l a s)).2.pickC (12:Int)).pickC (↑(f (Cur.mk l a s)).1.length:Int)).pickC (5:Int)).pickC (4:Int)).a,V.i
 .u64 (((((f (Cur.mk l a s)).2.pickC (12:Int)).pickC (↑(f (Cur.mk l a s)).1.length:Int)).pickC (5:Int)).pickC (4:Int)).s]),R0 TCd ((f
 (Cur.mk l a s)).1.set (0+(((f (Cur.mk l a s)).2.pickC (12:Int)).pickV (↑(f (Cur.mk l a s)).1.length:Int)).toNat) (z.1,z.2.1,z.2.2.1,
 z.2.2.2.1,i64.wrap (((((f (Cur.mk l a s)).2.pickC (12:Int)).pickC (↑(f (Cur.mk l a s)).1.length:Int)).pickC (5:Int)).pickV (4:Int)-(1 :
 Int)),z.2.2.2.2.2.1,()))])))) (ifB ((((f (Cur.mk l a s)).2.pickC (12:Int)).pickC (↑(f (Cur.mk l a s)).1.length:Int)).pickV (5:Int)==(3:Int))
 (ifT (decide (((((f (Cur.mk l a s)).2.pickC (12:Int)).pickC (↑(f (Cur.mk l a s)).1.length:Int)).pickC (5:Int)).good (900000000:Int)/\1<=3/\
 3<=3)) (ifT (decide ((0:Int)<=((f (Cur.mk l a s)).2.pickC (12:Int)).pickV (↑(f (Cur.mk l a s)).1.length:Int))&&decide (((f (Cur.mk l a
 s)).2.pickC (12:Int)).pickV (↑(f (Cur.mk l a s)).1.length:Int)<(↑(f (Cur.mk l a s)).1.length:Int))) (Al (f (Cur.mk l a s)).1[0+(((f (Cur.mk
 l a s)).2.pickC (12:Int)).pickV (↑(f (Cur.mk l a s)).1.length:Int)).toNat]? fun z=>some (V.agg [V.ref 1 0 (f (Cur.mk l a s)).1.length],[some (Blk.box [V.sl
 (Cd.int .u8) (((((f (Cur.mk l a s)).2.pickC (12:Int)).pickC (↑(f (Cur.mk l a s)).1.length:Int)).pickC (5:Int)).pickC (↑(3:Nat):Int)).l,V.j (((((f
 (Cur.mk l a s)).2.pickC (12:Int)).pickC (↑(f (Cur.mk l a s)).1.length:Int)).pickC (5:Int)).pickC (↑(3:Nat):Int)).a,V.i .u64 (((((f (Cur.mk l a
 s)).2.pickC (12:Int)).pickC (↑(f (Cur.mk l a s)).1.length:Int)).pickC (5:Int)).pickC (↑(3:Nat):Int)).s]),R0 TCd ((f (Cur.mk l a
 s)).1.set (0+(((f (Cur.mk l a s)).2.pickC (12:Int)).pickV (↑(f (Cur.mk l a s)).1.length:Int)).toNat) (z.1,z.2.1,z.2.2.1,
 z.2.2.2.1,z.2.2.2.2.1,((-1:Int)::(20:Int)::(21:Int)::Ai (Cd.int .i64).den).getD (0+(((((f (Cur.mk l a s)).2.pickC (12 :
 Int)).pickC (↑(f (Cur.mk l a s)).1.length:Int)).pickC (5:Int)).pickV (↑(3:Nat):Int)).toNat) (0:(Cd.int .i64).den),()))])))) (ifT (decide (((((f (Cur.mk l a
 s)).2.pickC (12:Int)).pickC (↑(f (Cur.mk l a s)).1.length:Int)).pickC (5:Int)).good (900000000:Int)/\1<=3/\3<=3)) (ifT
 (decide ((0:Int)<=((f (Cur.mk l a s)).2.pickC (12:Int)).pickV (↑(f (Cur.mk l a s)).1.length:Int))&&decide (((f (Cur.mk l a s)).2.pickC (12:Int)).pickV
 (↑(f (Cur.mk l a s)).1.length:Int)<(↑(f (Cur.mk l a s)).1.length:Int))) (Al (f (Cur.mk l a s)).1[0+(((f (Cur.mk l a s)).2.pickC (12 :
 Int)).pickV (↑(f (Cur.mk l a s)).1.length:Int)).toNat]? fun z=>some (V.agg [V.ref 1 0 (f (Cur.mk l a s)).1.length],[some (Blk.box [V.sl (Cd.int .u8) (((((f
 (Cur.mk l a s)).2.pickC (12:Int)).pickC (↑(f (Cur.mk l a s)).1.length:Int)).pickC (5:Int)).pickC (↑(3:Nat):Int)).l,V.j (((((f (Cur.mk l a
 s)).2.pickC (12:Int)).pickC (↑(f (Cur.mk l a s)).1.length:Int)).pickC (5:Int)).pickC (↑(3:Nat):Int)).a,V.i .u64 (((((f (Cur.mk l a s)).2.pickC (12 :
 Int)).pickC (↑(f (Cur.mk l a s)).1.length:Int)).pickC (5:Int)).pickC (↑(3:Nat):Int)).s]),R0 TCd ((f (Cur.mk l a s)).1.set (0 +
 (((f (Cur.mk l a s)).2.pickC (12:Int)).pickV (↑(f (Cur.mk l a s)).1.length:Int)).toNat) (z.1,(Ai UInt8::[(97:UInt8)]::[(65:UInt8)]::Ai
 Cd.str.den).getD (0+(((((f (Cur.mk l a s)).2.pickC (12:Int)).pickC (↑(f (Cur.mk l a s)).1.length:Int)).pickC (5:Int)).pickV (↑(3:Nat):Int)).toNat)
 (Ai UInt8),z.2.2.1,z.2.2.2.1,z.2.2.2.2.1,z.2.2.2.2.2.1,()))])))))))))) (some (V.agg [V.ref 1 0 (f (Cur.mk l a s)).1.length],
 [some (Blk.box [V.sl (Cd.int .u8) ((f (Cur.mk l a s)).2.pickC (12:Int)).l,V.j ((f (Cur.mk l a s)).2.pickC (12:Int)).a,V.i .u64 ((f (Cur.mk l a
 s)).2.pickC (12:Int)).s]),R0 TCd (f (Cur.mk l a s)).1]))))):_):=by kernel_rfl
theorem TE  (l:List Int) (a s:Int) (hc:(Cur.mk l a s).good 70000000):Ex1 (Ba prog (Aa [(65,.own (LX Dz)),(67,.own DF),(90,.own AV),(107,.own EW),(92,.own GB)]) (Aa []) f61 [.ptr 0 0] [.box [.sl (.int .u8) l,.j a,.i .u64 s]]) (fun y:(List Ty)×Cur=>((.agg [.ref 1 0 y.1.length],[some (cB y.2),R0 TCd y.1]):V×List (Option Blk))) (fun y=>(∀ n,(Cur.mk l a s).good n->n<=70000000->y.2.good (n+6300))/\nmL y.1=true/\1<=y.1.length/\y.1.length<=30):=by
 refine Ex1.of (P1 Dz  l a s) ?_;obtain ⟨p1,_,p3,p4,p5⟩:=T3 (Cur.mk l a s) (Cur.good_mono hc (by omega));have g0:=Cur.good_mono hc (show (70000000:Int)<=80000000 by omega);have q1:=p1 70000000 hc (by omega);have p1 : ∀ n,(Cur.mk l a s).good n->n<=70000000->(Dz (Cur.mk l a s)).2.good (n+6250):=fun n hn hm=>p1 n hn (by omega)
 generalize Dz (Cur.mk l a s)=F at *;obtain ⟨w,c⟩:=F;dsimp only at *;have hM:=mxI;have hr:=Cur.pickV_range (c:=c.pickC 12) (n:=70007000) (k:=(w.length:Int)) (Cur.pk (Cur.good_mono q1 (by omega))) (by omega);have hi:((c.pickC 12).pickV (w.length:Int)).toNat<w.length:=by omega
 simp only [B3,AG,zero_add]
 repeat' first
  | with_reducible refine Ex1.B (fun h=>?_) (fun h=>?_)
  | with_reducible refine Ex1.T ?_ ?_
  | with_reducible refine Ex1.S ⟨_,gtE hi⟩ fun z hz=>?_
 all_goals try simp only [B3]
 all_goals first
  | exact dcT g0
  | (refine dcT ?_; (repeat with_reducible apply Cur.pk); exact Cur.good_mono q1 (by omega))
  | (refine dcT ⟨?_,by omega,by omega⟩; (repeat with_reducible apply Cur.pk); exact Cur.good_mono q1 (by omega))
  | (simp only [anE,dcE]; exact ⟨hr.1,hr.2⟩)
  | exact Ex1.c _ rfl rfl ⟨fun n hn hm=>by (repeat with_reducible apply Cur.pk); exact Cur.good_mono (p1 n hn hm) (by omega),p3,p4,p5⟩
  | exact Ex1.c (w.set _ (_,_,_,_,_,_,())) rfl (by simp only [length_set]) ⟨fun n hn hm=>by (repeat with_reducible apply Cur.pk); exact Cur.good_mono (p1 n hn hm) (by omega),QL p3 (show z.2.1.length<=maxI from VQ p3 hz),by rw [length_set]; exact p4,by rw [length_set]; exact p5⟩
  | exact Ex1.c (w.set _ (_,_,_,_,_,_,())) rfl (by simp only [length_set]) ⟨fun n hn hm=>by (repeat with_reducible apply Cur.pk); exact Cur.good_mono (p1 n hn hm) (by omega),QL p3 (le_trans (R3 (n:=1) (by decide +kernel)) (by omega)),by rw [length_set]; exact p4,by rw [length_set]; exact p5⟩

theorem It : ∃ f:Cur->(List Ty)×Cur,Ab prog 61 (Ent.own (Mc f)).F/\∀  (c:Cur),(c.good 70000000)->(∀ n,c.good n->n<=70000000->(f  c).2.good (n+6300))/\nmL (f  c).1=true/\1<=(f  c).1.length/\(f  c).1.length<=30:=by
 have ex:=fun  (c:Cur) (hc:c.good 70000000)=>TE  c.l c.a c.s hc
 classical
 refine ⟨fun  c=>if h:c.good 70000000 then (ex  c h).choose else ([],c),?_,fun  c hc=>?_⟩
 rotate_left
 ·simp only [dif_pos hc];exact (ex  c hc).choose_spec.2
 refine fcC (kc func65 RJ (kc func67 TL (kc func90 Fm (kc func107 Sd (kc func92 cof KnowsL.nil))))).knows (Λ:=(Aa [])) func61 fun vs bs r hq=>?_
 unfold Ent.F Mc at hq;dsimp only at hq;split at hq
 ·rename_i  l a s;obtain ⟨hc,hx⟩:=Ac hq;have hc:=of_decide_eq_true hc;refine ⟨Aj _,((ex  (Cur.mk l a s) hc).choose_spec.1).trans ?_⟩;rw [dif_pos hc] at hx;exact hx
 ·cases hq
noncomputable def FC:Cur->(List Ty)×Cur:=It.choose
theorem RS:Ab prog 61 (Ent.own (Mc FC)).F:=It.choose_spec.1
theorem TD : ∀  (c:Cur),(c.good 70000000)->(∀ n,c.good n->n<=70000000->(FC  c).2.good (n+6300))/\nmL (FC  c).1=true/\1<=(FC  c).1.length/\(FC  c).1.length<=30:=It.choose_spec.2
def Mb (f:Cur->(Int)×Cur):Gm
 | [.ptr 0 0],[.box [.sl (.int .u8) l,.j a,.i .u64 s]]=>.need (decide ((Cur.mk l a s).good 80000000)) (.leaf (.j (f  (Cur.mk l a s)).1,[some (cB (f  (Cur.mk l a s)).2)]))
 | _,_=>.no
theorem R4 {l:List Int} {i:Nat} {a b:Int} (h:l.all (fun x=>decide (a<=x/\x<=b))=true) (h0:a<=0/\0<=b):a<=l.getD i 0/\l.getD i 0<=b:=by
 rw [getD_eq_getElem?_getD]
 cases e:l[i]? with
 | none=>exact h0
 | some x=>exact of_decide_eq_true (all_eq_true.1 h x (mem_of_getElem? e))
theorem Py   (l:List Int) (a s:Int):Ba prog (Aa [(90,.own AV),(107,.own EW)]) (Aa []) f134 [.ptr 0 0] [.box [.sl (.int .u8) l,.j a,.i .u64 s]] =
 ((ifT (decide ((Cur.mk l a s).good (900000000:Int))) (ifB ((Cur.mk l a s).pickV (6:Int)==(0:Int)) (ifT (decide (((Cur.mk l a s).pickC (6:Int)).good (900000000 :
 Int)/\1<=10/\10<=10)) (some (V.j (((-1000000001:Int)::(-1000000000:Int)::(-1:Int)::(0:Int)::(63:Int)::(64 :
 Int)::(-64:Int)::(-65:Int)::(1000000000:Int)::(1000000001:Int)::Ai (Cd.int .i64).den).getD (0+(((Cur.mk l a s).pickC (6:Int)).pickV (↑(10
 : Nat):Int)).toNat) (0:(Cd.int .i64).den)),[some (Blk.box [V.sl (Cd.int .u8) (((Cur.mk l a s).pickC (6:Int)).pickC (↑(10:Nat):Int)).l,V.j (((Cur.mk l a
 s).pickC (6:Int)).pickC (↑(10:Nat):Int)).a,V.i .u64 (((Cur.mk l a s).pickC (6:Int)).pickC (↑(10:Nat):Int)).s])]))) (ifB ((Cur.mk l a s).pickV (6:Int)==(1
 : Int)) (ifT (decide (((Cur.mk l a s).pickC (6:Int)).good (900000000:Int))) (some (V.j (i64.wrap (((Cur.mk l a s).pickC (6:Int)).pickV (100000:Int) -
 (50000:Int))),[some (Blk.box [V.sl (Cd.int .u8) (((Cur.mk l a s).pickC (6:Int)).pickC (100000:Int)).l,V.j (((Cur.mk l a s).pickC (6:Int)).pickC (100000 :
 Int)).a,V.i .u64 (((Cur.mk l a s).pickC (6:Int)).pickC (100000:Int)).s])]))) (ifT (decide (((Cur.mk l a s).pickC (6:Int)).good (900000000:Int))) (some (V.i .i64
 (i64.wrap (((Cur.mk l a s).pickC (6:Int)).pickV (20:Int)-(5:Int))),[some (Blk.box [V.sl (Cd.int .u8) (((Cur.mk l a s).pickC (6:Int)).pickC (20 :
 Int)).l,V.j (((Cur.mk l a s).pickC (6:Int)).pickC (20:Int)).a,V.i .u64 (((Cur.mk l a s).pickC (6:Int)).pickC (20:Int)).s])])))))):_):=by kernel_rfl
theorem TA  (l:List Int) (a s:Int) (hc:(Cur.mk l a s).good 80000000):Ex1 (Ba prog (Aa [(90,.own AV),(107,.own EW)]) (Aa []) f134 [.ptr 0 0] [.box [.sl (.int .u8) l,.j a,.i .u64 s]]) (fun y:(Int)×Cur=>((.j y.1,[some (cB y.2)]):V×List (Option Blk))) (fun y=>(∀ n,(Cur.mk l a s).good n->n<=80000000->y.2.good (n+8))/\(-2000000000<=y.1/\y.1<=2000000000)):=by
 refine Ex1.of (Py   l a s) ?_;have r1:=fun {c:Cur} {k:Int} (h:c.good 80000100) (hk:1<=k)=>Cur.pickV_range (c:=c) (n:=80000100) (k:=k) h hk
 have ra:=r1 (c:=((Cur.mk l a s).pickC 6)) (k:=100000) (Cur.pk (Cur.good_mono hc (by omega))) (by omega);have rb:=r1 (c:=((Cur.mk l a s).pickC 6)) (k:=20) (Cur.pk (Cur.good_mono hc (by omega))) (by omega);simp only [B3,AG,zero_add];rw [An (n:=((Cur.mk l a s).pickC 6).pickV 100000-50000) (by omega) (by omega),An (n:=((Cur.mk l a s).pickC 6).pickV 20-5) (by omega) (by omega)]
 repeat' first
  | with_reducible refine Ex1.B (fun h=>?_) (fun h=>?_)
  | with_reducible refine Ex1.T ?_ ?_
 all_goals first
  | (refine dcT ?_; (repeat with_reducible apply Cur.pk); exact Cur.good_mono hc (by omega))
  | (refine dcT ⟨?_,by omega,by omega⟩; (repeat with_reducible apply Cur.pk); exact Cur.good_mono hc (by omega))
  | refine Ex1.c _ rfl rfl ⟨fun n hn hm=>by (repeat with_reducible apply Cur.pk); exact Cur.good_mono hn (by omega),?_⟩
 all_goals first
  | omega
  | exact R4 (by decide +kernel) (by omega)
theorem Is : ∃ f:Cur->(Int)×Cur,Ab prog 134 (Ent.own (Mb f)).F/\∀  (c:Cur),(c.good 80000000)->(∀ n,c.good n->n<=80000000->(f  c).2.good (n+8))/\(-2000000000<=(f  c).1/\(f  c).1<=2000000000):=by
 have ex:=fun  (c:Cur) (hc:c.good 80000000)=>TA  c.l c.a c.s hc
 classical
 refine ⟨fun  c=>if h:c.good 80000000 then (ex  c h).choose else (0,c),?_,fun  c hc=>?_⟩
 rotate_left
 ·simp only [dif_pos hc];exact (ex  c hc).choose_spec.2
 refine fcC (kc func90 Fm (kc func107 Sd KnowsL.nil)).knows (Λ:=(Aa [])) func134 fun vs bs r hq=>?_
 unfold Ent.F Mb at hq;dsimp only at hq;split at hq
 ·rename_i  l a s;obtain ⟨hc,hx⟩:=Ac hq;have hc:=of_decide_eq_true hc;refine ⟨Aj _,((ex  (Cur.mk l a s) hc).choose_spec.1).trans ?_⟩;rw [dif_pos hc] at hx;exact hx
 ·cases hq
noncomputable def EH:Cur->(Int)×Cur:=Is.choose
theorem RO:Ab prog 134 (Ent.own (Mb EH)).F:=Is.choose_spec.1
theorem T9 : ∀  (c:Cur),(c.good 80000000)->(∀ n,c.good n->n<=80000000->(EH  c).2.good (n+8))/\(-2000000000<=(EH  c).1/\(EH  c).1<=2000000000):=Is.choose_spec.2
def JC (f:Cur->(Int)×Cur):Gm
 | [.ptr 0 0],[.box [.sl (.int .u8) l,.j a,.i .u64 s]]=>.need (decide ((Cur.mk l a s).good 80000000)) (.leaf (.j (f  (Cur.mk l a s)).1,[some (cB (f  (Cur.mk l a s)).2)]))
 | _,_=>.no
def Cur.room (c:Cur) (k:Nat):Prop:=c.good (60000000-(k:Int))
instance (c:Cur) (k:Nat):Decidable (c.room k):=by unfold Cur.room; exact inferInstance
theorem Pw (f:Cur->(Int)×Cur)  (l:List Int) (a s:Int):Ba prog (Aa [(134,.own (Mb f)),(135,.rd1 FR)]) (Aa []) f91 [.ptr 0 0] [.box [.sl (.int .u8) l,.j a,.i .u64 s]] =
 ((ifT (decide ((Cur.mk l a s).good (80000000:Int))) (ifB (!Co (f (Cur.mk l a s)).1) (some (V.j 7,[some (Blk.box [V.sl (Cd.int .u8) (f (Cur.mk l a s)).2.l,V.i
 .i64 (f (Cur.mk l a s)).2.a,V.i .u64 (f (Cur.mk l a s)).2.s])])) (some (V.j (f (Cur.mk l a s)).1,[some (Blk.box [V.sl (Cd.int .u8) (f (Cur.mk l a s)).2.l,
 V.j (f (Cur.mk l a s)).2.a,V.i .u64 (f (Cur.mk l a s)).2.s])])))):_):=by kernel_rfl
theorem T1  (l:List Int) (a s:Int) (hc:(Cur.mk l a s).good 80000000):Ex1 (Ba prog (Aa [(134,.own (Mb EH)),(135,.rd1 FR)]) (Aa []) f91 [.ptr 0 0] [.box [.sl (.int .u8) l,.j a,.i .u64 s]]) (fun y:(Int)×Cur=>((.j y.1,[some (cB y.2)]):V×List (Option Blk))) (fun y=>(∀ n,(Cur.mk l a s).good n->n<=80000000->y.2.good (n+8))/\Co y.1=true):=by
 refine Ex1.of (Pw EH  l a s) ?_;obtain ⟨p1,p2⟩:=T9 (Cur.mk l a s) hc;simp only [B3];refine Ex1.T (dcT hc) (Ex1.B (fun h=>?_) (fun h=>?_))
 all_goals refine Ex1.c _ rfl rfl ⟨p1,?_⟩
 ·show Co 7=true; decide +kernel
 ·show Co (EH (Cur.mk l a s)).1=true; cases e:Co (EH (Cur.mk l a s)).1; rw [e] at h; cases h; rfl
theorem Im : ∃ f:Cur->(Int)×Cur,Ab prog 91 (Ent.own (JC f)).F/\∀  (c:Cur),(c.good 80000000)->(∀ n,c.good n->n<=80000000->(f  c).2.good (n+8))/\Co (f  c).1=true:=by
 have ex:=fun  (c:Cur) (hc:c.good 80000000)=>T1  c.l c.a c.s hc
 classical
 refine ⟨fun  c=>if h:c.good 80000000 then (ex  c h).choose else (0,c),?_,fun  c hc=>?_⟩
 rotate_left
 ·simp only [dif_pos hc];exact (ex  c hc).choose_spec.2
 refine fcC (kc func134 RO (kc func135 Rd KnowsL.nil)).knows (Λ:=(Aa [])) func91 fun vs bs r hq=>?_
 unfold Ent.F JC at hq;dsimp only at hq;split at hq
 ·rename_i  l a s;obtain ⟨hc,hx⟩:=Ac hq;have hc:=of_decide_eq_true hc;refine ⟨Aj _,((ex  (Cur.mk l a s) hc).choose_spec.1).trans ?_⟩;rw [dif_pos hc] at hx;exact hx
 ·cases hq
noncomputable def Dg:Cur->(Int)×Cur:=Im.choose
theorem RI:Ab prog 91 (Ent.own (JC Dg)).F:=Im.choose_spec.1
theorem T0 : ∀  (c:Cur),(c.good 80000000)->(∀ n,c.good n->n<=80000000->(Dg  c).2.good (n+8))/\Co (Dg  c).1=true:=Im.choose_spec.2
def D7 (o:Cur×List WFd×Nat->List WFd×Cur):LoopEnt:=⟨40,[0,3,4],[0,3],[],fun
 | ([.ptr 0 0,.ref 1 0 m,.j n],[some (.box [.sl (.int .u8) l,.j a,.i .u64 s]),R0 FCd u])=>.need (decide (1<=n/\n<=7/\m=u.length/\u.length<=n.toNat/\(Cur.mk l a s).good (70000200-14*(7-n)))) (.leaf (.exit 0,([.ptr 0 0,.ref 1 0 (o ((Cur.mk l a s),u,n.toNat)).1.length],[some (cB (o ((Cur.mk l a s),u,n.toNat)).2),R0 FCd (o ((Cur.mk l a s),u,n.toNat)).1])))
 | _=>.no⟩
def RM (f:Cur->(By)×Cur):Gm
 | [.ptr 0 0],[.box [.sl (.int .u8) l,.j a,.i .u64 s]]=>.need (decide ((Cur.mk l a s).good 70000000)) (.leaf (.s (f  (Cur.mk l a s)).1,[some (cB (f  (Cur.mk l a s)).2)]))
 | _,_=>.no
theorem DQ (f:Cur->(Int)×Cur) (g:By->By->Cur->(By)×Cur) (o:Cur×List WFd×Nat->List WFd×Cur) (m:Nat) (n:Int) (l:List Int) (a s:Int) (u:List WFd):As prog (Aa [(67,.own DF),(91,.own (JC f)),(92,.own GB),(93,.rd1 R9),(94,.own (Pv g))]) (Aa [(3,D7 o)]) 1 (body f47 0) (D7 o) ([.ptr 0 0,.ref 1 0 m,.j n],[some (.box [.sl (.int .u8) l,.j a,.i .u64 s]),R0 FCd u]) =
 ((shr (take m (drop 0 u)) fun sh3=>shr ((Cur.mk l a s).pickC (2:Int)) fun sh2=>shr ((f sh2).2.pickC (3:Int)) fun sh1=>ifB (decide (n<7)) (ifT
 (decide ((Cur.mk l a s).good (900000000:Int))) (ifB ((Cur.mk l a s).pickV (2:Int)==(0:Int)) (ifT (decide (sh2.good (80000000:Int))) (ifT (decide ((f
 sh2).2.good (900000000:Int))) (ifB ((f sh2).2.pickV (3:Int)==(0:Int)) (ifT (decide (sh1.good (900000000:Int)/\1<=3/\3<=(3 :
 Nat))) (ifT (decide ((m+1)*40<=140737488355328)&&decide (m+1<=maxI)) (some (Ex.normal,[V.ptr 0 0,V.ref 1 0 (m+1),
 V.j (i64.wrap (n+1))],[some (Blk.box [V.sl (Cd.int .u8) (sh1.pickC (↑(3:Nat):Int)).l,V.j (sh1.pickC (↑(3:Nat):Int)).a,V.i .u64 (sh1.pickC
 (↑(3:Nat):Int)).s]),R0 FCd (sh3++(n,(2:Int),(0:Int),(Ai UInt8::((97:UInt8)::(98:UInt8)::Ai UInt8)::((116:UInt8)::
 (101:UInt8)::(120:UInt8)::(116:UInt8)::Ai UInt8)::Ai Cd.str.den).getD (0+(sh1.pickV (↑(3:Nat):Int)).toNat) (Ai UInt8),())::Ai
 FCd.den)])))) (ifT (decide ((m+1)*40<=140737488355328)&&decide (m+1<=maxI)) (some (Ex.normal,[V.ptr 0 0,V.ref 1 0 (m+(1 :
 Nat)),V.j (i64.wrap (n+1))],[some (Blk.box [V.sl (Cd.int .u8) sh1.l,V.j sh1.a,V.i .u64 sh1.s]),R0 FCd (sh3++(n,(0 :
 Int),(f sh2).1,Ai UInt8,())::Ai FCd.den)])))))) (some (Ex.normal,[V.ptr 0 0,V.ref 1 0 m,V.j (i64.wrap (n+1))],[some (Blk.box [V.sl (Cd.int
 .u8) sh2.l,V.j sh2.a,V.i .u64 sh2.s]),R0 FCd u])))) (some (Ex.exit 0,[V.ptr 0 0,V.ref 1 0 m],[some (Blk.box [V.sl (Cd.int .u8) l,V.i
 .i64 a,V.i .u64 s]),R0 FCd u]))):_):=by kernel_rfl
noncomputable abbrev TT:FuncId->Option Ent:=Aa [(67,.own DF),(91,.own (JC Dg)),(92,.own GB),(93,.rd1 R9),(94,.own (Pv Gi))]
theorem Je : ∀ x:Cur×List WFd×Nat,(1<=x.2.2/\x.2.2<=7/\x.2.1.length<=x.2.2/\x.1.good (70000200-14*(7-(x.2.2:Int))))->∃ y:List WFd×Cur,(∀ o,Runs prog TT (Aa [(3,D7 o)]) 1 (body f47 0) (D7 o) ((fun x:Cur×List WFd×Nat=>([.ptr 0 0,.ref 1 0 x.2.1.length,.j (x.2.2:Int)],[some (cB x.1),R0 FCd x.2.1])) x) ((fun y:List WFd×Cur=>(((.exit 0:Ex),([.ptr 0 0,.ref 1 0 y.1.length],[some (cB y.2),R0 FCd y.1])):Ex×Dt)) y).1 ((fun y:List WFd×Cur=>(((.exit 0:Ex),([.ptr 0 0,.ref 1 0 y.1.length],[some (cB y.2),R0 FCd y.1])):Ex×Dt)) y).2)/\(∀ n,x.1.good n->n<=70000200-14*(7-(x.2.2:Int))->y.2.good (n+14*(7-(x.2.2:Int)))):=by
  refine HN (ι:=Cur×List WFd×Nat->List WFd×Cur) (fun _=>([],Cur.mk [] 0 0)) (Λ:=fun o=>(Aa [(3,D7 o)])) (ent:=fun o=>D7 o) (fun x:Cur×List WFd×Nat=>([.ptr 0 0,.ref 1 0 x.2.1.length,.j (x.2.2:Int)],[some (cB x.1),R0 FCd x.2.1])) (fun y:List WFd×Cur=>(((.exit 0:Ex),([.ptr 0 0,.ref 1 0 y.1.length],[some (cB y.2),R0 FCd y.1])):Ex×Dt)) (fun y=>by simp) _ _ (fun x=>7-x.2.2) (fun o x _=>(DQ Dg Gi o x.2.1.length (x.2.2:Int) x.1.l x.1.a x.1.s x.2.1).trans (DQ Dg Gi _ x.2.1.length (x.2.2:Int) x.1.l x.1.a x.1.s x.2.1).symm) ?_
  rintro ⟨c,u,n⟩ ⟨h1,h2,h3,h4⟩
  dsimp only at h1 h2 h3 h4 ⊢;have hM:=mxI
  by_cases hn:n<7
  · right;refine Ex1.of (DQ Dg Gi _ u.length (n:Int) c.l c.a c.s u) ?_
    repeat with_reducible refine Ex1.sh ?_
    rw [Ag (dcT (by omega))];have sm:=fun (c':Cur) (m:Int) (hc:c'.good m) (hm:m<=80000000)=>(T0 c' (Cur.good_mono hc hm)).1 m hc hm
    have g1:=Cur.pickC_good (k:=2) h4;have g2:=sm (c.pickC 2) _ g1 (by omega);simp only [B3,show Cur.mk c.l c.a c.s=c from rfl,Ax (n:=n) (by omega),AG,drop_zero,take_length]
    have fin : ∀ (c':Cur) (w:List WFd),(∀ m,c.good m->m<=70000200-14*(7-(n:Int))->c'.good (m+14))->w.length<=n+1->
        ((1<=n+1/\n+1<=7/\w.length<=n+1/\c'.good (70000200-14*(7-((n+1:Nat):Int))))/\7-(n+1)<7-n/\∀ y:List WFd×Cur,(∀ m,c'.good m->m<=70000200-14*(7-((n+1:Nat):Int))->y.2.good (m+14*(7-((n+1:Nat):Int))))->(∀ m,c.good m->m<=70000200-14*(7-(n:Int))->y.2.good (m+14*(7-(n:Int))))):=fun c' w k1 k2=>by
      refine ⟨⟨by omega,by omega,k2,Cur.good_mono (k1 _ h4 (by omega)) (by push_cast; omega)⟩,by omega,fun y hy m hm hl=>?_⟩;exact Cur.good_mono (hy (m+14) (k1 m hm hl) (by push_cast; omega)) (by push_cast; omega)
    have s1 : ∀ m,c.good m->m<=70000200-14*(7-(n:Int))->(Dg (c.pickC 2)).2.good (m+10):=fun m hm hl=>Cur.good_mono (sm (c.pickC 2) (m+2) (Cur.pickC_good hm) (by omega)) (by omega)
    generalize Dg (c.pickC 2)=G at *;obtain ⟨v,c2⟩:=G;dsimp only at *
    repeat' first
      | with_reducible refine Ex1.B (fun h=>?_) (fun h=>?_)
      | with_reducible refine Ex1.T ?_ ?_
    all_goals try simp only [B3]
    all_goals first
      | (refine dcT ?_; (repeat with_reducible apply Cur.pk); exact Cur.good_mono h4 (by omega))
      | exact dcT (Cur.good_mono g2 (by omega))
      | (refine dcT ⟨?_,by omega,by omega⟩; (repeat with_reducible apply Cur.pk); exact Cur.good_mono g2 (by omega))
      | (simp only [anE,dcE]; omega)
      | exact Ex1.lc (u,n+1) rfl rfl rfl (fin (c.pickC 2) u (fun m hm hl=>Cur.good_mono (Cur.pickC_good hm) (by omega)) (by omega))
      | (refine Ex1.lc (u++[_],n+1) rfl (by simp) rfl (fin _ _ (fun m hm hl=>?_) (by simp; omega))
         (repeat with_reducible apply Cur.pk); exact Cur.good_mono (s1 m hm hl) (by omega))
  · left;refine Ex1.of (DQ Dg Gi _ u.length (n:Int) c.l c.a c.s u) ?_
    repeat with_reducible refine Ex1.sh ?_
    rw [Ad (dcF (by omega))];exact Ex1.L (u,c) rfl (fun m hm hl=>Cur.good_mono hm (by omega))
noncomputable def Du:Cur×List WFd×Nat->List WFd×Cur:=(CO (Y:=List WFd×Cur) ([],Cur.mk [] 0 0) Je).choose
theorem NH : ∀ x:Cur×List WFd×Nat,(1<=x.2.2/\x.2.2<=7/\x.2.1.length<=x.2.2/\x.1.good (70000200-14*(7-(x.2.2:Int))))->(∀ o,Runs prog TT (Aa [(3,D7 o)]) 1 (body f47 0) (D7 o) ((fun x:Cur×List WFd×Nat=>([.ptr 0 0,.ref 1 0 x.2.1.length,.j (x.2.2:Int)],[some (cB x.1),R0 FCd x.2.1])) x) ((fun y:List WFd×Cur=>(((.exit 0:Ex),([.ptr 0 0,.ref 1 0 y.1.length],[some (cB y.2),R0 FCd y.1])):Ex×Dt)) (Du x)).1 ((fun y:List WFd×Cur=>(((.exit 0:Ex),([.ptr 0 0,.ref 1 0 y.1.length],[some (cB y.2),R0 FCd y.1])):Ex×Dt)) (Du x)).2)/\(∀ n,x.1.good n->n<=70000200-14*(7-(x.2.2:Int))->(Du x).2.good (n+14*(7-(x.2.2:Int)))):=(CO (Y:=List WFd×Cur) ([],Cur.mk [] 0 0) Je).choose_spec
theorem SB:Ar prog TT (Aa [(3,D7 Du)]) 1 (f47.body.getD .skip):=by
 refine Ap (a:=body f47 0) (by kernel_rfl) fun d ex d' h=>?_
 unfold D7 at h;dsimp only at h;split at h
 ·rename_i m n l a s u;obtain ⟨hc,hx⟩:=Ac h;obtain ⟨k1,k2,rfl,k4,k5⟩:=of_decide_eq_true hc;obtain ⟨n,rfl⟩:=eq_ofNat_of_zero_le (show 0<=n by omega);simp only [ntN] at k4 hx;obtain ⟨rfl,rfl⟩:=lfP hx;exact (NH ((Cur.mk l a s),u,n) ⟨by dsimp only; omega,by dsimp only; omega,k4,k5⟩).1 Du
 ·cases h
theorem Ts (l:List WFd):(bif Hd l then fbs l else []).length<=400:=by
 unfold Hd
 cases h:(l.all CJ&&(decide (l.length<=40)&&decide ((fbs l).length<=400))) with
 | false=>simp
 | true=>
  simp only [anE,dcE] at h;exact h.2.2
theorem RK (f:Cur->(Int)×Cur) (g:By->By->Cur->(By)×Cur) (o:Cur×List WFd×Nat->List WFd×Cur)  (l:List Int) (a s:Int):Ba prog (Aa [(67,.own DF),(91,.own (JC f)),(92,.own GB),(93,.rd1 R9),(94,.own (Pv g))]) (Aa [(3,D7 o)]) f47 [.ptr 0 0] [.box [.sl (.int .u8) l,.j a,.i .u64 s]] =
 ((shr (o (Cur.mk l a s,Ai FCd.den,1)) fun sh2=>shr (take sh2.1.length (drop 0 sh2.1)) fun sh1=>ifT (decide ((1:Int)<=(1:Int)/\(1
 : Int)<=(7:Int)/\0=0/\0<=1/\(Cur.mk l a s).good (70000116:Int))) (ifT (decide (sh2.2.good (900000000:Int))) (ifB
 (sh2.2.pickV (12:Int)==(0:Int)) (ifT (decide (1<=3/\3<=100/\(bif Hd sh1 then fbs sh1 else Ai UInt8).length<=90000
 /\ (sh2.2.pickC (12:Int)).good (80000000:Int))) (some (V.s (g (bif Hd sh1 then fbs sh1 else Ai UInt8) [(0:UInt8),(8:UInt8),(18:UInt8)] (sh2.2.pickC (12
 : Int))).1,[some (Blk.box [V.sl (Cd.int .u8) (g (bif Hd sh1 then fbs sh1 else Ai UInt8) [(0:UInt8),(8:UInt8),(18:UInt8)] (sh2.2.pickC (12:Int))).2.l,
 V.j (g (bif Hd sh1 then fbs sh1 else Ai UInt8) [(0:UInt8),(8:UInt8),(18:UInt8)] (sh2.2.pickC (12:Int))).2.a,V.i .u64 (g (bif Hd sh1 then fbs sh1
 else Ai UInt8) [(0:UInt8),(8:UInt8),(18:UInt8)] (sh2.2.pickC (12:Int))).2.s])]))) (some (V.s (bif Hd sh1 then fbs sh1 else Ai UInt8),[some (Blk.box
 [V.sl (Cd.int .u8) (sh2.2.pickC (12:Int)).l,V.j (sh2.2.pickC (12:Int)).a,V.i .u64 (sh2.2.pickC (12:Int)).s])]))))):_):=by kernel_rfl
theorem Vu  (l:List Int) (a s:Int) (hc:(Cur.mk l a s).good 70000000):Ex1 (Ba prog TT (Aa [(3,D7 Du)]) f47 [.ptr 0 0] [.box [.sl (.int .u8) l,.j a,.i .u64 s]]) (fun y:(By)×Cur=>((.s y.1,[some (cB y.2)]):V×List (Option Blk))) (fun y=>(∀ n,(Cur.mk l a s).good n->n<=70000000->y.2.good (n+120))/\y.1.length<=500):=by
 refine Ex1.of (RK Dg Gi Du  l a s) ?_;have g1:(Cur.mk l a s).good (70000200-14*(7-((1:Nat):Int))):=Cur.good_mono hc (by omega);have q:=(NH ((Cur.mk l a s),[],1) ⟨by dsimp only; omega,by dsimp only; omega,by simp,g1⟩).2;dsimp only at q
 repeat with_reducible refine Ex1.sh ?_
 simp only [B3,AG,drop_zero,take_length];generalize hR:Du ((Cur.mk l a s),[],1)=R at *;have hR':Du ((Cur.mk l a s),[],(1:Int).toNat)=R:=hR
 try simp only [hR']
 obtain ⟨w,c⟩:=R;dsimp only at *;have q1:=q 70000000 hc (by omega);have hl:=Ts w;generalize (bif Hd w then fbs w else [])=str at *;have hsp:=Vr str [0,8,18] (c.pickC 12) ⟨by simp,by simp,by omega,Cur.pk (Cur.good_mono q1 (by omega))⟩;refine Ex1.T (dcT ⟨by omega,by omega,trivial,by omega,g1⟩) (Ex1.T (dcT (Cur.good_mono q1 (by omega))) (Ex1.B (fun h=>Ex1.T (dcT ⟨by simp,by simp,by omega,Cur.pk (Cur.good_mono q1 (by omega))⟩) ?_) (fun h=>?_)))
 ·exact Ex1.c _ rfl rfl ⟨fun n hn hm=>Cur.good_mono (hsp.1 (n+90) (Cur.pk (Cur.good_mono (q n hn (by omega)) (by omega))) (by omega)) (by omega),le_trans hsp.2 (by omega)⟩
 ·exact Ex1.c _ rfl rfl ⟨fun n hn hm=>Cur.pk (Cur.good_mono (q n hn (by omega)) (by omega)),by dsimp only; omega⟩
theorem Ky : ∃ f:Cur->(By)×Cur,Ab prog 47 (Ent.own (RM f)).F/\∀  (c:Cur),(c.good 70000000)->(∀ n,c.good n->n<=70000000->(f  c).2.good (n+120))/\(f  c).1.length<=500:=by
 have ex:=fun  (c:Cur) (hc:c.good 70000000)=>Vu  c.l c.a c.s hc
 classical
 refine ⟨fun  c=>if h:c.good 70000000 then (ex  c h).choose else ([],c),?_,fun  c hc=>?_⟩
 rotate_left
 ·simp only [dif_pos hc];exact (ex  c hc).choose_spec.2
 refine fcC (kc func67 TL (kc func91 RI (kc func92 cof (kc func93 fby (kc func94 Tz KnowsL.nil))))).knows (Λ:=(Aa [(3,D7 Du)])) func47 fun vs bs r hq=>?_
 unfold Ent.F RM at hq;dsimp only at hq;split at hq
 ·rename_i  l a s;obtain ⟨hc,hx⟩:=Ac hq;have hc:=of_decide_eq_true hc;refine ⟨SB,((ex  (Cur.mk l a s) hc).choose_spec.1).trans ?_⟩;rw [dif_pos hc] at hx;exact hx
 ·cases hq
noncomputable def LY:Cur->(By)×Cur:=Ky.choose
theorem T5:Ab prog 47 (Ent.own (RM LY)).F:=Ky.choose_spec.1
theorem Vt : ∀  (c:Cur),(c.good 70000000)->(∀ n,c.good n->n<=70000000->(LY  c).2.good (n+120))/\(LY  c).1.length<=500:=Ky.choose_spec.2
def RU (f:(List Int)->List Wt×By):Gm
 | [.sl (.int .u8) l],[]=>.need (decide ((Cur.mk l 0 0).good 0)) (.leaf (.tup [.agg [.ref 0 0 (f l ).1.length],.s (f l ).2],[R0 WCd (f l ).1]))
 | _,_=>.no
def RX (f:(List Int)->List Wt×List Ty):Gm
 | [.sl (.int .u8) l],[]=>.need (decide ((Cur.mk l 0 0).good 0)) (.leaf (.tup [.agg [.ref 0 0 (f l ).1.length],.agg [.ref 1 0 (f l ).2.length]],[R0 WCd (f l ).1,R0 TCd (f l ).2]))
 | _,_=>.no
theorem RT (f:Cur->(List Wt)×Cur) (g:Cur->(By)×Cur) (l:List Int)  : Ba prog (Aa [(46,.own (Iv f)),(47,.own (RM g))]) (Aa []) f17 [.sl (.int .u8) l] [] =
 ((ifT (decide ((Cur.mk l (0:Int) (0:Int)).good (80000000:Int))) (ifT (decide ((f (Cur.mk l (0:Int) (0:Int))).2.good (70000000:Int))) (some (V.tup [V.agg [V.ref
 0 0 (f (Cur.mk l (0:Int) (0:Int))).1.length],V.s (g (f (Cur.mk l (0:Int) (0:Int))).2).1],[R0 WCd (f (Cur.mk l (0:Int) (0 :
 Int))).1])))):_):=by kernel_rfl
theorem Vy (l:List Int)  (hc:(Cur.mk l 0 0).good 0):Ex1 (Ba prog (Aa [(46,.own (Iv D1)),(47,.own (RM LY))]) (Aa []) f17 [.sl (.int .u8) l] []) (fun y:List Wt×By=>((.tup [.agg [.ref 0 0 y.1.length],.s y.2],[R0 WCd y.1]):V×List (Option Blk))) (fun y=>1<=y.1.length/\y.1.length<=15/\y.2.length<=500):=by
 refine Ex1.of (RT D1 LY l ) ?_;have h7:=Cur.good_mono hc (show (0:Int)<=80000000 by omega);obtain ⟨a1,a2,a3⟩:=Ow (Cur.mk l 0 0) h7;have b1:=a1 0 hc (by omega)
 repeat with_reducible refine Ex1.sh ?_
 try simp only [AG,drop_zero,take_length,zero_add]
 generalize D1 (Cur.mk l 0 0)=B at *;obtain ⟨v,c⟩:=B;dsimp only at *;obtain ⟨m1,m2⟩:=Vt c (Cur.good_mono b1 (by omega));refine Ex1.T (dcT h7) ?_;refine Ex1.T (dcT (Cur.good_mono b1 (by omega))) ?_;exact Ex1.P (_,_) rfl rfl ⟨a2,a3,m2⟩
theorem Kz : ∃ f:(List Int)->List Wt×By,Ab prog 17 (Ent.rd1 (RU f)).F/\∀ (l:List Int) ,((Cur.mk l 0 0).good 0)->1<=(f l ).1.length/\(f l ).1.length<=15/\(f l ).2.length<=500:=by
 have ex:=fun (l:List Int)  (hc:(Cur.mk l 0 0).good 0)=>Vy l  hc
 classical
 refine ⟨fun l  => if h:(Cur.mk l 0 0).good 0 then (ex l  h).choose else ([],[]),?_,fun l  hc=>?_⟩
 rotate_left
 ·simp only [dif_pos hc];exact (ex l  hc).choose_spec.2
 refine fcC (kc func46 Md (kc func47 T5 KnowsL.nil)).knows (Λ:=(Aa [])) func17 fun vs bs r hq=>?_
 unfold Ent.F RU at hq;dsimp only at hq;split at hq
 ·rename_i l ;obtain ⟨hc,hx⟩:=Ac hq;have hc:=of_decide_eq_true hc;refine ⟨Aj _,((ex l  hc).choose_spec.1).trans ?_⟩;rw [dif_pos hc] at hx;exact hx
 ·cases hq
noncomputable def JF:(List Int)->List Wt×By:=Kz.choose
theorem TF:Ab prog 17 (Ent.rd1 (RU JF)).F:=Kz.choose_spec.1
theorem Vx : ∀ (l:List Int) ,((Cur.mk l 0 0).good 0)->1<=(JF l ).1.length/\(JF l ).1.length<=15/\(JF l ).2.length<=500:=Kz.choose_spec.2
theorem RW (f:Cur->(List Wt)×Cur) (g:Cur->(List Ty)×Cur) (l:List Int)  : Ba prog (Aa [(46,.own (Iv f)),(61,.own (Mc g))]) (Aa []) f25 [.sl (.int .u8) l] [] =
 ((ifT (decide ((Cur.mk l (0:Int) (0:Int)).good (80000000:Int))) (ifT (decide ((f (Cur.mk l (0:Int) (0:Int))).2.good (70000000:Int))) (some (V.tup [V.agg [V.ref
 0 0 (f (Cur.mk l (0:Int) (0:Int))).1.length],V.agg [V.ref 1 0 (g (f (Cur.mk l (0:Int) (0:Int))).2).1.length]],[R0 WCd (f (Cur.mk l
 (0:Int) (0:Int))).1,R0 TCd (g (f (Cur.mk l (0:Int) (0:Int))).2).1])))):_):=by kernel_rfl
theorem V0 (l:List Int)  (hc:(Cur.mk l 0 0).good 0):Ex1 (Ba prog (Aa [(46,.own (Iv D1)),(61,.own (Mc FC))]) (Aa []) f25 [.sl (.int .u8) l] []) (fun y:List Wt×List Ty=>((.tup [.agg [.ref 0 0 y.1.length],.agg [.ref 1 0 y.2.length]],[R0 WCd y.1,R0 TCd y.2]):V×List (Option Blk))) (fun y=>1<=y.1.length/\y.1.length<=15/\nmL y.2=true/\1<=y.2.length/\y.2.length<=30):=by
 refine Ex1.of (RW D1 FC l ) ?_;have h7:=Cur.good_mono hc (show (0:Int)<=80000000 by omega);obtain ⟨a1,a2,a3⟩:=Ow (Cur.mk l 0 0) h7;have b1:=a1 0 hc (by omega)
 repeat with_reducible refine Ex1.sh ?_
 try simp only [AG,drop_zero,take_length,zero_add]
 generalize D1 (Cur.mk l 0 0)=B at *;obtain ⟨v,c⟩:=B;dsimp only at *;obtain ⟨m1,m2,m3,m4⟩:=TD c (Cur.good_mono b1 (by omega));refine Ex1.T (dcT h7) ?_;refine Ex1.T (dcT (Cur.good_mono b1 (by omega))) ?_;exact Ex1.P (_,_) rfl rfl ⟨a2,a3,m2,m3,m4⟩
theorem K0 : ∃ f:(List Int)->List Wt×List Ty,Ab prog 25 (Ent.rd1 (RX f)).F/\∀ (l:List Int) ,((Cur.mk l 0 0).good 0)->1<=(f l ).1.length/\(f l ).1.length<=15/\nmL (f l ).2=true/\1<=(f l ).2.length/\(f l ).2.length<=30:=by
 have ex:=fun (l:List Int)  (hc:(Cur.mk l 0 0).good 0)=>V0 l  hc
 classical
 refine ⟨fun l  => if h:(Cur.mk l 0 0).good 0 then (ex l  h).choose else ([],[]),?_,fun l  hc=>?_⟩
 rotate_left
 ·simp only [dif_pos hc];exact (ex l  hc).choose_spec.2
 refine fcC (kc func46 Md (kc func61 RS KnowsL.nil)).knows (Λ:=(Aa [])) func25 fun vs bs r hq=>?_
 unfold Ent.F RX at hq;dsimp only at hq;split at hq
 ·rename_i l ;obtain ⟨hc,hx⟩:=Ac hq;have hc:=of_decide_eq_true hc;refine ⟨Aj _,((ex l  hc).choose_spec.1).trans ?_⟩;rw [dif_pos hc] at hx;exact hx
 ·cases hq
noncomputable def GU:(List Int)->List Wt×List Ty:=K0.choose
theorem TH:Ab prog 25 (Ent.rd1 (RX GU)).F:=K0.choose_spec.1
theorem Vz : ∀ (l:List Int) ,((Cur.mk l 0 0).good 0)->1<=(GU l ).1.length/\(GU l ).1.length<=15/\nmL (GU l ).2=true/\1<=(GU l ).2.length/\(GU l ).2.length<=30:=K0.choose_spec.2
def fkB (z:Rose Lab):Bool:=z.lab.1==1||z.lab.1==3
def UT:Gm
 | [.tp LCd z 0],[]=>.leaf (.j (if fkB z=true then 0 else 2),[])
 | _,_=>.no
def VL (a b:WFd):Prop:=a.1<b.1
theorem Tc (z:Rose Lab):A3 prog (Aa []) (Aa []) f62 [.tp LCd z 0] []=some (.j (if fkB z=true then 0 else 2),[]):=by
 have e:A3 prog (Aa []) (Aa []) f62 [.tp LCd z 0] []=((ifB (z.lab.1==(1:Int)) (some (V.j 0,[])) (ifB (z.lab.1==(3:Int)) (some (V.j 0,[])) (some (V.j 2,[])))):_):=by kernel_rfl
 rw [e];clear e;unfold fkB;cases z.lab.1==1<;>cases z.lab.1==3<;>rfl
theorem kfk:Ab prog 62 (Ent.rd1 UT).F:=by
 refine fcK KnowsL.nil.knows (Λ:=Aa []) func62 fun vs bs r' hq=>?_
 unfold Ent.F UT at hq;dsimp only at hq;split at hq
 ·exact ⟨Aj _,(Tc _ ).trans hq⟩
 ·cases hq





theorem Id {z:Rose Lab} (h:Fi z=true):z.lab.1=5/\Bv z=true/\A5 z<=30:=by
 unfold Fi at h;simp only [anE,dcE,beq_iff_eq] at h;exact ⟨h.1.1.1.1.1.1,h.1.1.2,h.2⟩
def AJ (w:Wt):List Int:=if w.1=6\/w.1=7 then [w.2.2.2.2.1,w.2.2.2.2.2.1] else if w.1=8 then [w.2.2.2.2.1] else []
def F6 (ps:List Int) (u:List Int):List Int:=ps.foldl (fun u k=>Cb u k.toNat) u
def Hs:Gm
 | [.j k,.j n,.s s],[]=>.leaf (.b (Fd k n s),[])
 | _,_=>.no
def Nh:Gm
 | [.agg (Lw w0 w1 w2 w3 w4 w5),.j i],[]=>.need (decide (0<=i/\i<=1000)) (.leaf (.b (Bl (w0,w1,w2,w3,w4,w5,()) i),[]))
 | _,_=>.no
def Hg:Gm
 | [.agg (Lw w0 w1 w2 w3 w4 w5)],[]=>.leaf (.ref 0 0 (AJ (w0,w1,w2,w3,w4,w5,())).length,[R0 (.int .i64) (AJ (w0,w1,w2,w3,w4,w5,()))])
 | _,_=>.no
def MM:Gm
 | [.j x],[]=>.leaf (.b (x != 1),[])
 | _,_=>.no
def Km  : LoopEnt:=⟨19,[0,1,4,7,8],[],[4],fun
 | ([.sl (.int .i64) l,.fn 97 [] [],.j _,.j k,.j i],[])=>
  .need (decide (0<=i/\i.toNat<=l.length/\l.length<=maxI/\k=l.length)) (.br (decide (Aw (fun z:Int=>z != 1) i.toNat (l.drop i.toNat)<0)) (.leaf (.exit 0,([],[]))) (.leaf (.ret,([.j (Aw (fun z:Int=>z != 1) i.toNat (l.drop i.toNat))],[]))))
 | _=>.no⟩
def NY  : Gm
 | [.sl (.int .i64) l,.fn 97 [] []],[]=>.leaf (.j (Aw (fun z:Int=>z != 1) 0 l),[])
 | _,_=>.no
def QN  : Gm
 | [.sl (.int .i64) l,.fn 97 [] []],[]=>.leaf (.b (l.any (fun z:Int=>z != 1)),[])
 | _,_=>.no
def EB:LoopEnt:=⟨51,[3,18,19,20],[3],[2],fun
 | ([.ref 0 0 m,.sl WCd l,.j k,.j i],[R0 (.int .i64) u])=>.need (decide (0<=i/\i.toNat<=l.length/\k=l.length/\m=l.length/\u.length=l.length/\l.length<=20/\(∀ x∈u,0<=x/\x<=2*i))) (.br (wgo i.toNat (l.drop i.toNat) u).isSome (.leaf (.exit 0,([.ref 0 0 ((wgo i.toNat (l.drop i.toNat) u).getD []).length],[R0 (.int .i64) ((wgo i.toNat (l.drop i.toNat) u).getD [])]))) (.leaf (.ret,([.b false],[]))))
 | _=>.no⟩
def EA:LoopEnt:=⟨51,[3,18,19,20,30,31,32],[3,18,19,20],[2],fun
 | ([.ref 0 0 m,.sl WCd l,.j k,.j i,.ref 1 0 p,.j q,.j j],[R0 (.int .i64) u,R0 (.int .i64) ps])=>.need (decide (0<=j/\j.toNat<=ps.length/\q=ps.length/\p=ps.length/\m=u.length/\ps.length<=2/\(∀ x∈ps,0<=x/\x.toNat<u.length)/\(∀ x∈u,0<=x/\x<=1000))) (.leaf (.exit 2,([.ref 0 0 (F6 (ps.drop j.toNat) u).length,.sl WCd l,.j k,.j i],[R0 (.int .i64) (F6 (ps.drop j.toNat) u)])))
 | _=>.no⟩
theorem Pn (c x y:Bool):ifB c (some ((V.b x,[]):V×List (Option Blk))) (some (V.b y,[]))=some (V.b (cond c x y),[]):=by cases c<;>rfl
theorem Ni (k n:Int) (s:By):A3 prog (Aa [(167,.rd1 FR)]) (Aa []) f137 [.j k,.j n,.s s] []=some (.b (Fd k n s),[]):=by
 have e:A3 prog (Aa [(167,.rd1 FR)]) (Aa []) f137 [.j k,.j n,.s s] []=((ifB (k==1) (ifB (k==1) (ifB (Co n) (some (V.b (s==Ai UInt8),[])) nF) (ifB (k==4) (ifB (n==0) (some (V.b (s==Ai UInt8),[])) nF) (ifB (k==5) (ifB (n==0) (some (V.b (decide ((↑s.length:Int)<=(30:Int))),[])) nF) nF))) (ifB (k==2)
 (ifB (k==2) (ifB (Co n) (some (V.b (s==Ai UInt8),[])) nF) (ifB (k==4) (ifB (n==0) (some (V.b (s==Ai UInt8),[])) nF) (ifB (k==5) (ifB (n==0) (some (V.b (decide ((↑s.length:Int)<=(30:Int))),[])) nF) nF))) (ifB (k==3) (ifB (Co n)
 (some (V.b (s==Ai UInt8),[])) nF) (ifB (k==4) (ifB (n==0) (some (V.b (s==Ai UInt8),[])) nF) (ifB (k==5) (ifB (n==
 0) (some (V.b (decide ((↑s.length:Int)<=(30:Int))),[])) nF) nF))))):_):=by kernel_rfl
 rw [e];clear e;show _=some (V.b (Fd k n s),[]);simp only [AG];unfold Fd
 by_cases a1:k=1
 ·subst a1; cases hn:Co n<;>cases s<;>simp [ifB]
 by_cases a2:k=2
 ·subst a2; cases hn:Co n<;>cases s<;>simp [ifB]
 by_cases a3:k=3
 ·subst a3; cases hn:Co n<;>cases s<;>simp [ifB]
 have q1:=beq_eq_false_iff_ne.2 a1;have q2:=beq_eq_false_iff_ne.2 a2;have q3:=beq_eq_false_iff_ne.2 a3;rw [if_neg (by omega)]
 by_cases a4:k=4
 ·subst a4;rw [if_pos rfl];cases n==0<;>cases s<;>simp [ifB]
 have q4:=beq_eq_false_iff_ne.2 a4;rw [if_neg a4]
 by_cases a5:k=5
 ·subst a5;rw [if_pos rfl]
  by_cases ht:s.length<=30
  ·rw [dcT (show (s.length:Int)<=30 by omega),dcT ht]; cases n==0<;>simp [ifB]
  ·rw [dcF (show ¬(s.length:Int)<=30 by omega),dcF ht]; cases n==0<;>simp [ifB]
 have q5:=beq_eq_false_iff_ne.2 a5;rw [if_neg a5];simp [ifB,q1,q2,q3,q4,q5]
theorem UX:Ab prog 137 (Ent.rd1 Hs).F:=by
 refine fcK (kc func167 Ua KnowsL.nil).knows (Λ:=Aa []) func137 fun vs bs r' hq=>?_
 unfold Ent.F Hs at hq;dsimp only at hq;split at hq
 ·exact ⟨Aj _,(Ni _ _ _).trans hq⟩
 ·cases hq
theorem Pj (w0 w1 w2:Int) (w3:By) (w4 w5:Int) (i:Int) (h0:0<=i) (h1:i<=1000):A3 prog (Aa [(69,.rd1 AA),(137,.rd1 Hs)]) (Aa []) f95 [.agg (Lw w0 w1 w2 w3 w4 w5),.j i] []=some (.b (Bl (w0,w1,w2,w3,w4,w5,()) i),[]):=by
 have e:A3 prog (Aa [(69,.rd1 AA),(137,.rd1 Hs)]) (Aa []) f95 [.agg (Lw w0 w1 w2 w3 w4 w5),.j i] []=((ifB (w0==6) (ifB (w0==6) (ifB (w1==0) (ifB (w2==0) (ifB (w3==Ai UInt8) (ifB (decide (w4>=0)) (ifB (decide (w4<w5)) (some (V.b (decide (w5<i)),[])) nF) nF) nF) nF) nF) (ifB (w0==8) (ifB (w1==0) (ifB (w2==0) (ifB (w3==
 Ai UInt8) (ifB (decide (0<=w4/\w4<=i64.wrap (i-1))) (some (V.b (w5==0),[])) nF) nF) nF)
 nF) (ifB (decide (1<=w1/\w1<=30)) (ifB (Fd w0 w2 w3) (ifB (w4==0) (some (V.b (w5==0),[])) nF) nF)
 nF))) (ifB (w0==7) (ifB (w1==0) (ifB (w2==0) (ifB (w3==Ai UInt8) (ifB (decide (w4>=0)) (ifB (decide (w4<w5)) (some (V.b (decide (w5 <
 i)),[])) nF) nF) nF) nF) nF) (ifB (w0==8) (ifB (w1==0) (ifB (w2
 == 0) (ifB (w3==Ai UInt8) (ifB (decide (0<=w4/\w4<=i64.wrap (i-1))) (some (V.b (w5==0),[])) nF) nF) nF) nF) (ifB (decide (1<=w1/\w1<=30)) (ifB (Fd w0 w2 w3) (ifB (w4==0) (some (V.b (w5==0),[])) nF) nF) nF)))):_):=by kernel_rfl
 rw [e];clear e;have w1:i64.wrap (i-1)=i-1:=An (by omega) (by omega);simp only [AG,w1,Pn];refine congrArg (fun b=>some (V.b b,[])) ?_;unfold Bl;dsimp only;rw [Bool.eq_iff_iff]
 by_cases a6:w0=6
 ·subst a6; simp; try omega
 by_cases a7:w0=7
 ·subst a7; simp; try omega
 by_cases a8:w0=8
 ·subst a8; simp; try omega
 have q6:=beq_eq_false_iff_ne.2 a6;have q7:=beq_eq_false_iff_ne.2 a7;have q8:=beq_eq_false_iff_ne.2 a8;rw [if_neg (by omega),if_neg a8,q6,q7,q8];simp [and_assoc]
theorem Wd:Ab prog 95 (Ent.rd1 Nh).F:=by
 refine fcK (kc func69 Ew (kc func137 UX KnowsL.nil)).knows (Λ:=Aa []) func95 fun vs bs r' hq=>?_
 unfold Ent.F Nh at hq;dsimp only at hq;split at hq
 ·obtain ⟨hc,hx⟩:=Ac hq;obtain ⟨h0,h1⟩:=of_decide_eq_true hc;exact ⟨Aj _,(Pj _ _ _ _ _ _ _ h0 h1).trans hx⟩
 ·cases hq
theorem Mw (w0 w1 w2:Int) (w3:By) (w4 w5:Int):Ba prog (Aa []) (Aa []) f53 [.agg (Lw w0 w1 w2 w3 w4 w5)] []=some (.ref 0 0 (AJ (w0,w1,w2,w3,w4,w5,())).length,[R0 (.int .i64) (AJ (w0,w1,w2,w3,w4,w5,()))]):=by
 have e:Ba prog (Aa []) (Aa []) f53 [.agg (Lw w0 w1 w2 w3 w4 w5)] []=((ifB (w0==6) (ifB (w0==6) (some (V.ref 0 0 2,[R0 (Cd.int .i64) (w4::w5::Ai (Cd.int .i64).den)])) (ifB (w0==8) (some (V.ref 0 0 1,[R0 (Cd.int .i64) (w4::Ai (Cd.int .i64).den)])) (some (V.ref 0 0 0,[R0 (Cd.int .i64) (Ai (Cd.int .i64).den)])))) (ifB (w0
 == 7) (some (V.ref 0 0 2,[R0 (Cd.int .i64) (w4::w5::Ai (Cd.int .i64).den)])) (ifB (w0==8) (some (V.ref 0 0 1,[R0 (Cd.int .i64) (w4::Ai (Cd.int .i64).den)])) (some (V.ref 0 0 0,[R0 (Cd.int .i64) (Ai (Cd.int .i64).den)]))))):_):=by kernel_rfl
 rw [e];clear e
 try dsimp only [shr]
 unfold AJ;dsimp only
 by_cases a6:w0=6
 ·subst a6; rfl
 by_cases a7:w0=7
 ·subst a7; rfl
 rw [if_neg (by omega),Ad (beq_eq_false_iff_ne.2 a6),Ad (beq_eq_false_iff_ne.2 a7)]
 by_cases a8:w0=8
 ·subst a8; rfl
 rw [if_neg a8,Ad (beq_eq_false_iff_ne.2 a8)];rfl
theorem Hy:Ab prog 53 (Ent.rd1 Hg).F:=by
 refine fcC KnowsL.nil.knows (Λ:=Aa []) func53 fun vs bs r' hq=>?_
 unfold Ent.F Hg at hq;dsimp only at hq;split at hq
 ·exact ⟨Aj _,(Mw _ _ _ _ _ _).trans hq⟩
 ·cases hq
theorem SS:Ab prog 97 (Ent.rd1 MM).F:=by
 refine fcK KnowsL.nil.knows (Λ:=Aa []) func97 fun vs bs r hq=>?_
 unfold Ent.F MM at hq;dsimp only at hq;split at hq
 ·rename_i x;refine ⟨Aj _,Eq.trans ?_ hq⟩;have e:A3 prog (Aa []) (Aa []) f97 [.j x] []=((some (V.b (x != (1:Int)),[])):_):=by kernel_rfl
  exact e
 ·cases hq
theorem Jl   (l:List (Int)) (r k i:Int):As prog (Aa [(97,.rd1 MM)]) (Aa [(2,Km)]) 0 (body f138 0) Km ([.sl (.int .i64) l,.fn 97 [] [],.j r,.j k,.j i],[]) =
 ((ifB (decide (i<k)) (ifT (decide (0<=i)&&decide (i<(↑l.length:Int))) (Al l[i.toNat]? fun z=>ifB (z != (1:Int)) (some (Ex.ret,[V.j i],[])) (some
 (Ex.normal,[V.sl (Cd.int .i64) l,V.fn 97 [] [],V.j r,V.j k,V.j (i64.wrap (i+1))],[])))) (some (Ex.exit 0,[],[]))):_):=by kernel_rfl
theorem Lr   {l:List (Int)} {r:Int} (hx:l.length<=maxI) : ∀ (j i:Nat),i+j=l.length->∀ e d',(.br (decide (Aw (fun z:Int=>z != 1) i (l.drop i)<0)) (.leaf (.exit 0,([],[]))) (.leaf (.ret,([.j (Aw (fun z:Int=>z != 1) i (l.drop i))],[]))):Br (Ex×Dt)).run=some (e,d')->
  Runs prog (Aa [(97,.rd1 MM)]) (Aa [(2,Km)]) 0 (body f138 0) Km ([.sl (.int .i64) l,.fn 97 [] [],.j r,.j (l.length:Int),.j (i:Int)],[]) e d'
 | 0,i,hi,e,d',h=>by
  have e1:l.drop i=[]:=drop_eq_nil_of_le (by omega);rw [e1,CF,Aw,if_pos (by omega)] at h;cases h;have hr:=Jl  l r l.length i;rw [Ad (dcF (by omega))] at hr;exact stp hr
 | j+1,i,hi,e,d',h=>by
  have h1:i<l.length:=by omega
  have hr:=Jl  l r l.length i;rw [Ag (dcT (by omega)),T2 (by omega)] at hr;simp only [ntN,gtE h1,Am,Ax (n:=i) (by omega)] at hr;rw [drop_eq_getElem_cons h1,CF,Aw] at h
  by_cases he:(fun z:Int=>z != 1) l[i]=true
  ·rw [if_pos he,if_neg (by omega)] at h;cases h;rw [Ag he] at hr;exact stp hr
  ·rw [if_neg he] at h;rw [Ad (by simpa using he)] at hr;exact sts hr (Lr  hx j (i+1) (by omega) e d' (by rw [CF]; exact h))
theorem UD  : Ar prog (Aa [(97,.rd1 MM)]) (Aa [(2,Km)]) 0 (f138.body.getD .skip):=by
 refine Ap (a:=body f138 0) (by kernel_rfl) fun d e d' h=>?_
 unfold Km at h;dsimp only at h;split at h
 ·obtain ⟨hc,h'⟩:=Ac h;obtain ⟨h0,h1,h2,rfl⟩:=of_decide_eq_true hc;obtain ⟨i,rfl⟩:=eq_ofNat_of_zero_le h0;exact Lr  h2 _ i (Nat.add_sub_of_le h1) e d' h'
 ·cases h
theorem SR   (l:List (Int)) (hx:l.length<=maxI):A3 prog (Aa [(97,.rd1 MM)]) (Aa [(2,Km)]) f138 [.sl (.int .i64) l,.fn 97 [] []] []=some (.j (Aw (fun z:Int=>z != 1) 0 l),[]):=by
 have e:A3 prog (Aa [(97,.rd1 MM)]) (Aa [(2,Km)]) f138 [.sl (.int .i64) l,.fn 97 [] []] [] =
  ((ifT (decide ((0:Int)<=(0:Int)/\0<=l.length/\l.length<=maxI/\(↑l.length:Int)=(↑l.length:Int))) (ifB (decide (Aw (fun z=>z != (1:Int)) (0 :
 Nat) (drop 0 l)<(0:Int))) (some (V.j (-1),[])) (some (V.j (Aw (fun z=>z != (1:Int)) 0 (drop 0 l)),[])))):_):=by kernel_rfl
 rw [e,Ae (dcT ⟨by omega,by omega,hx,rfl⟩)];simp only [drop_zero]
 by_cases q:Aw (fun z:Int=>z != 1) 0 l<0
 ·rw [Ag (dcT q),Ec _ _ _ q]
 ·rw [Ad (dcF q)]
theorem SP  : Ab prog 138 (Ent.rd1 NY).F:=by
 refine Bn (kc func97 SS KnowsL.nil).knows (Λ:=(Aa [(2,Km)])) func138 (c:=f138.body.getD .skip) (by kernel_rfl) fun vs bs r h hv hb=>?_
 unfold Ent.F NY at h;dsimp only at h;split at h
 ·rename_i l ;have h':=h;exact ⟨UD ,(SR  l (hv (.sl (.int .i64) l) (by simp)).1).trans (by cases h'; rfl)⟩
 ·cases h
theorem QO   (l:List (Int)):A3 prog (Aa [(138,.rd1 NY)]) (Aa []) f96 [.sl (.int .i64) l,.fn 97 [] []] []=some (.b (l.any (fun z:Int=>z != 1)),[]):=by
 have e:A3 prog (Aa [(138,.rd1 NY)]) (Aa []) f96 [.sl (.int .i64) l,.fn 97 [] []] [] =
  ((some (V.b (decide (Aw (fun z=>z != (1:Int)) 0 l>=(0:Int))),[])):_):=by kernel_rfl
 rw [e]
 skip
 rw [Ed]
theorem SQ  : Ab prog 96 (Ent.rd1 QN).F:=by
 refine fcK (kc func138 (SP ) KnowsL.nil).knows (Λ:=Aa []) func96 fun vs bs r h=>?_
 unfold Ent.F QN at h;dsimp only at h;split at h
 ·rename_i l ;have h':=h;exact ⟨Aj _,(QO  l).trans (by cases h'; rfl)⟩
 ·cases h
abbrev PF:FuncId->Option Ent:=Aa [(69,.rd1 AA),(95,.rd1 Nh),(53,.rd1 Hg),(96,.rd1 QN)]
theorem Ib (m:Nat) (l:List Wt) (k i:Int) (u:List Int):As prog PF (Aa [(5,EB),(10,EA)]) 0 (body f48 0) EB ([.ref 0 0 m,.sl WCd l,.j k,.j i],[R0 (.int .i64) u]) =
 ((ifB (decide (i<k)) (ifT (decide (0<=i)&&decide (i<(↑l.length:Int))) (Al l[i.toNat]? fun z=>ifT (decide (0<=i/\i<=1000)) (ifB (!Bl (z.1,z.2.1,
 z.2.2.1,z.2.2.2.1,z.2.2.2.2.1,z.2.2.2.2.2.1,()) i) rF (ifT (decide ((0:Int)<=(0:Int)/\(0 :
 Nat)<=(AJ (z.1,z.2.1,z.2.2.1,z.2.2.2.1,z.2.2.2.2.1,z.2.2.2.2.2.1,())).length/\(↑(AJ (z.1,z.2.1,
 z.2.2.1,z.2.2.2.1,z.2.2.2.2.1,z.2.2.2.2.2.1,())).length:Int)=(↑(AJ (z.1,z.2.1,z.2.2.1,z.2.2.2.1,
 z.2.2.2.2.1,z.2.2.2.2.2.1,())).length:Int)/\(AJ (z.1,z.2.1,z.2.2.1,z.2.2.2.1,z.2.2.2.2.1,
 z.2.2.2.2.2.1,())).length=(AJ (z.1,z.2.1,z.2.2.1,z.2.2.2.1,z.2.2.2.2.1,z.2.2.2.2.2.1,())).length/\m =
 u.length/\(AJ (z.1,z.2.1,z.2.2.1,z.2.2.2.1,z.2.2.2.2.1,z.2.2.2.2.2.1,())).length<=2/\(∀ (x:(Cd.int
 .i64).den),x∈AJ (z.1,z.2.1,z.2.2.1,z.2.2.2.1,z.2.2.2.2.1,z.2.2.2.2.2.1,())->(0:(Cd.int .i64).den)<=x/\
 toNat x<u.length)/\∀ (x:(Cd.int .i64).den),x∈u->(0:(Cd.int .i64).den)<=x/\x<=(1000:(Cd.int .i64).den))) (some (Ex.normal,[V.ref 0 0 (F6 (drop
 0 (AJ (z.1,z.2.1,z.2.2.1,z.2.2.2.1,z.2.2.2.2.1,z.2.2.2.2.2.1,()))) u).length,V.sl WCd l,V.j k,V.i .i64
 (i64.wrap (i+1))],[R0 (Cd.int .i64) (F6 (drop 0 (AJ (z.1,z.2.1,z.2.2.1,z.2.2.2.1,
 z.2.2.2.2.1,z.2.2.2.2.2.1,()))) u)])))))) (some (Ex.exit 0,[V.ref 0 0 m],[R0 (Cd.int .i64) u]))):_):=by kernel_rfl
theorem Ia (m:Nat) (l:List Wt) (k i:Int) (p:Nat) (q j:Int) (u ps:List Int):As prog PF (Aa [(5,EB),(10,EA)]) 0 (body f48 1) EA ([.ref 0 0 m,.sl WCd l,.j k,.j i,.ref 1 0 p,.j q,.j j],[R0 (.int .i64) u,R0 (.int .i64) ps]) =
 ((ifB (decide (j<q)) (ifT (decide (0<=j)&&decide (j<(↑p:Int))) (Al ps[0+j.toNat]? fun z=>ifT (decide ((0:Int)<=z)&&decide (z<(↑m:Int)))
 (Al u[0+toNat z]? fun z_1=>ifT (decide ((0:Int)<=z)&&decide (z<(↑m:Int))) (Al u[0+toNat z]? fun _=>some (Ex.normal,
 [V.ref 0 0 m,V.sl WCd l,V.j k,V.j i,V.ref 1 0 p,V.j q,V.j (i64.wrap (j+1))],[R0 (Cd.int .i64) (u.set (0
 + toNat z) (i64.wrap (z_1+(1:Int)))),R0 (Cd.int .i64) ps]))))) (some (Ex.exit 2,[V.ref 0 0 m,V.sl WCd l,V.j k,V.i .i64
 i],[R0 (Cd.int .i64) u]))):_):=by kernel_rfl
theorem Rt (l:List Wt):A3 prog PF (Aa [(5,EB),(10,EA)]) f48 [.agg [.sl WCd l]] [] =
 ((ifB (!decide (1<=(↑l.length:Int)/\(↑l.length:Int)<=(20:Int))) nF (ifT (decide (0<=(↑l.length:Int))&&decide ((↑l.length:Int)<=
 (↑l.length:Int))&&decide ((↑l.length:Int)*(↑(8:Nat):Int)<=(140737488355328:Int))&&decide ((↑l.length:Int)<=(9223372036854775807:Int))) (ifT (decide
 ((0:Int)<=(0:Int)/\0<=l.length/\(↑l.length:Int)=(↑l.length:Int)/\(↑l.length:Int).toNat=l.length/\(replicate (↑l.length:Int).toNat (0 :
 Int)).length=l.length/\l.length<=20/\∀ (x:(Cd.int .i64).den),x∈replicate (↑l.length:Int).toNat (0:Int)->(0:(Cd.int .i64).den)<=x/\x<=(0 :
 Int))) (ifB (wgo 0 (drop 0 l) (replicate (↑l.length:Int).toNat (0:Int))).isSome (ifT (decide (0<=i64.wrap ((↑((wgo 0
 (drop 0 l) (replicate (↑l.length:Int).toNat (0:Int))).getD (Ai Int)).length:Int)-(1:Int)))&&decide (i64.wrap ((↑((wgo 0
 (drop 0 l) (replicate (↑l.length:Int).toNat (0:Int))).getD (Ai Int)).length:Int)-(1:Int))<=(↑(((wgo 0 (drop 0 l)
 (replicate (↑l.length:Int).toNat (0:Int))).getD (Ai Int)).length-0):Int))) (some (V.b !(take ((i64.wrap ((↑((wgo 0 (drop
 0 l) (replicate (↑l.length:Int).toNat (0:Int))).getD (Ai Int)).length:Int)-(1:Int))).toNat-0) (drop 0 ((wgo 0
 (drop 0 l) (replicate (↑l.length:Int).toNat (0:Int))).getD (Ai Int)))).any fun z=>z != (1:Int),[]))) nF)))):_):=by kernel_rfl
theorem SV {i:Nat} {x:Int} (h:0<=x/\x<=2*(i:Int)) (hi:i<=20):0<=x/\x<=1000:=by omega
theorem W9 {x:Int} (h:0<=x/\x<=2*((0:Nat):Int)):0<=x/\x<=0:=by omega
theorem Ti {u:List Int} {k:Nat} {b:Int} (h : ∀ x∈u,0<=x/\x<=b) (hk:k<u.length) : ∀ x∈Cb u k,0<=x/\x<=b+1:=ET h hk
theorem Jx (l:List Wt) (k i:Int) (ps:List Int) (hp:ps.length<=2) : ∀ (n j:Nat) (u:List Int),j+n=ps.length->(∀ x∈ps,0<=x/\x.toNat<u.length)->(∀ x∈u,0<=x/\x<=1000+j)->
  Runs prog PF (Aa [(5,EB),(10,EA)]) 0 (body f48 1) EA ([.ref 0 0 u.length,.sl WCd l,.j k,.j i,.ref 1 0 ps.length,.j (ps.length:Int),.j (j:Int)],[R0 (.int .i64) u,R0 (.int .i64) ps]) (.exit 2) ([.ref 0 0 (F6 (ps.drop j) u).length,.sl WCd l,.j k,.j i],[R0 (.int .i64) (F6 (ps.drop j) u)])
 | 0,j,u,hj,hps,hu=>by
  have hr:=Ia u.length l k i ps.length ps.length j u ps;rw [Ad (dcF (by omega))] at hr;rw [drop_eq_nil_of_le (by omega)];exact stp hr
 | n+1,j,u,hj,hps,hu=>by
  have hl:j<ps.length:=by omega
  have hr:=Ia u.length l k i ps.length ps.length j u ps;have W1:i64.wrap ((j:Int)+1)=((j+1:Nat):Int):=by rw [An (by omega) (by omega)]; omega
  obtain ⟨h0,h1⟩:=hps _ (getElem_mem hl);have hu1:=hu _ (getElem_mem h1);rw [Ag (dcT (by omega)),T2 (by omega),ntN,zero_add,gtE hl,Am,T2 (by omega),zero_add,gtE h1,Am,T2 (by omega),Am,W1,An (n:=u[(ps[j]).toNat]+1) (by omega) (by omega)] at hr;have e:u.set (ps[j]).toNat (u[(ps[j]).toNat]+1)=Cb u (ps[j]).toNat:=by unfold Cb; simp [h1]
  rw [e] at hr;have hb:=ET hu h1;have ih:=Jx l k i ps hp n (j+1) (Cb u (ps[j]).toNat) (by omega) (fun x hx=>by rw [BA]; exact hps x hx) (fun x hx=>by have:=hb x hx; omega);rw [drop_eq_getElem_cons hl];have e2:F6 (ps[j]::ps.drop (j+1)) u=F6 (ps.drop (j+1)) (Cb u (ps[j]).toNat):=rfl;rw [e2];rw [BA] at ih;exact sts hr ih
theorem DI (w:Wt) (u:List Int):F6 (AJ w) u=E0 w u:=by
 unfold AJ E0;split
 ·rfl
 ·split<;>rfl
theorem IS {w:Wt} {i:Nat} {u:List Int} (h:Bl w i=true) (hi:i<=u.length):(AJ w).length<=2/\∀ x∈AJ w,0<=x/\x.toNat<u.length:=by
 obtain ⟨h1,h2,_⟩:=Ey h;unfold AJ;split
 ·rename_i q;have:=h1 q;refine ⟨by simp,fun x hx=>?_⟩;rcases mem_cons.1 hx with rfl | hx
  ·omega
  ·obtain rfl:=mem_singleton.1 hx; omega
 ·split
  ·rename_i q;have:=h2 q;refine ⟨by simp,fun x hx=>?_⟩;obtain rfl:=mem_singleton.1 hx; omega
  ·exact ⟨by simp,fun x hx=>by cases hx⟩
theorem Jy (l:List Wt) (hl:l.length<=20) : ∀ (j i:Nat) (u:List Int),i+j=l.length->u.length=l.length->(∀ x∈u,0<=x/\x<=2*(i:Int))->∀ ex d,(Br.br (wgo i (l.drop i) u).isSome (.leaf (.exit 0,([.ref 0 0 ((wgo i (l.drop i) u).getD []).length],[R0 (.int .i64) ((wgo i (l.drop i) u).getD [])]))) (.leaf (.ret,([.b false],[]))):Br (Ex×Dt)).run=some (ex,d)->
  Runs prog PF (Aa [(5,EB),(10,EA)]) 0 (body f48 0) EB ([.ref 0 0 u.length,.sl WCd l,.j (l.length:Int),.j (i:Int)],[R0 (.int .i64) u]) ex d
 | 0,i,u,hi,hul,hu,ex,d,h=>by
  have hr:=Ib u.length l l.length i u
  try dsimp only [shr] at hr
  rw [Ad (dcF (by omega))] at hr;rw [drop_eq_nil_of_le (by omega),wgo] at h;have h8:=AI (show (Br.leaf (.exit 0,([.ref 0 0 u.length],[R0 (.int .i64) u])):Br (Ex×Dt)).run=some (ex,d) from h);obtain ⟨rfl,rfl⟩:=Prod.mk.inj h8;exact stp hr
 | j+1,i,u,hi,hul,hu,ex,d,h=>by
  have hlt:i<l.length:=by omega
  have hr:=Ib u.length l l.length i u
  try dsimp only [shr] at hr
  have W1:i64.wrap ((i:Int)+1)=((i+1:Nat):Int):=by rw [An (by omega) (by omega)]; omega
  rw [Ag (dcT (by omega)),T2 (by omega),ntN,gtE hlt,Am,Ae (dcT (by omega)),W1] at hr;rw [drop_eq_getElem_cons hlt,wgo] at h;have eta : ∀ z:Wt,(z.1,z.2.1,z.2.2.1,z.2.2.2.1,z.2.2.2.2.1,z.2.2.2.2.2.1,())=z:=fun z=>rfl
  simp only [eta,drop_zero] at hr
  by_cases q:Bl l[i] (i:Int)=true
  ·obtain ⟨g1,g2⟩:=JP q (by omega) hu;obtain ⟨p1,p2⟩:=IS q (by omega:i<=u.length);rw [if_pos q] at h;rw [q,Bool.not_true,AL,Ae (dcT ⟨by omega,by omega,by first | trivial | rfl,by first | trivial | rfl,by first | trivial | rfl,p1,p2,fun x hx=>SV (hu x hx) (by omega)⟩),DI] at hr;have hul2:u.length=(E0 l[i] u).length:=by omega
   exact sts hr (Jy l hl j (i+1) (E0 l[i] u) (by omega) (g1.trans hul) (by push_cast; exact g2) ex d h)
  ·rw [if_neg q] at h;rw [show Bl l[i] (i:Int)=false by simpa using q] at hr;have h8:=AI (show (Br.leaf (.ret,([.b false],[])):Br (Ex×Dt)).run=some (ex,d) from h);obtain ⟨rfl,rfl⟩:=Prod.mk.inj h8;exact stp hr
theorem Va:Ar prog PF (Aa [(5,EB),(10,EA)]) 0 (f48.body.getD .skip):=by
 refine LoopsI.loops (cs:=[body f48 0,body f48 1]) ?_ (by kernel_rfl);refine .cons (ent:=EB) (by rfl) (fun d ex d' h=>?_) (.cons (ent:=EA) (by rfl) (fun d ex d' h=>?_) .nil)
 ·unfold EB at h;dsimp only at h;split at h
  ·rename_i m l k i u;obtain ⟨hc,hx⟩:=Ac h;clear h;obtain ⟨h0,h1,rfl,rfl,h4,h5,h6⟩:=of_decide_eq_true hc;obtain ⟨i,rfl⟩:=eq_ofNat_of_zero_le h0;simp only [ntN] at h1 hx;have:=Jy l h5 (l.length-i) i u (by omega) h4 h6 ex d' hx;rw [h4] at this;exact this
  ·cases h
 ·unfold EA at h;dsimp only at h;split at h
  ·rename_i m l k i p q j u ps;obtain ⟨hc,hx⟩:=Ac h;clear h;obtain ⟨h0,h1,rfl,rfl,rfl,h5,h6,h7⟩:=of_decide_eq_true hc;obtain ⟨j,rfl⟩:=eq_ofNat_of_zero_le h0;simp only [ntN] at h1 hx;obtain ⟨rfl,rfl⟩:=lfP hx;exact Jx l k i ps h5 (ps.length-j) j u (by omega) h6 (fun x hx=>by have h8:(0:Int)<=(x:Int)/\(x:Int)<=1000:=h7 x hx; omega)
  ·cases h
theorem QG (u:List Int):(!(u.any fun z=>z != 1))=Fg u:=by
 unfold Fg
 induction u with
 | nil=>rfl
 | cons x u ih=>rw [any_cons,all_cons,<-ih,Bool.not_or]; cases h:x==1<;>simp [bne,h]
theorem HZ:Ab prog 48 (Ent.rd1 CE).F:=by
 refine fcK (kc func69 Ew (kc func95 Wd (kc func53 Hy (kc func96 SQ KnowsL.nil)))).knows (Λ:=(Aa [(5,EB),(10,EA)])) func48 fun vs bs r hq=>?_
 unfold Ent.F CE at hq;dsimp only at hq;split at hq
 ·rename_i l;refine ⟨Va,(Rt l).trans (Eq.trans ?_ hq)⟩
  try dsimp only [shr]
  show _=some _;unfold Au
  by_cases h:1<=l.length/\l.length<=20
  ·have hrep : ∀ x∈replicate l.length (0:Int),0<=x/\x<=2*((0:Nat):Int):=fun x hx=>by
    have:=(List.mem_replicate.1 hx).2; omega
   rw [dcT h,dcT (show (1:Int)<=(l.length:Int)/\(l.length:Int)<=20 by omega),Bool.not_true,AL,Ae (by simp only [anE,dcE]; omega),ntN,Ae (dcT ⟨by omega,by omega,rfl,rfl,by simp,h.2,fun x hx=>W9 (hrep x hx)⟩),Bool.true_and,drop_zero]
   cases hw:wgo 0 l (replicate l.length 0) with
   | none=>rfl
   | some v=>
    have hvl:=JL l 0 (replicate l.length 0) (by simp) hrep hw;rw [List.length_replicate] at hvl;rw [show (some v).isSome=true from rfl,Be,show (some v).getD []=v from rfl];have W2:i64.wrap ((v.length:Int)-1)=((v.length-1:Nat):Int):=by rw [An (by omega) (by omega)]; omega
    rw [W2,Ae (by simp only [anE,dcE]; omega),ntN,Nat.sub_zero,drop_zero,hvl,QG]
  ·rw [dcF h,dcF (show ¬((1:Int)<=(l.length:Int)/\(l.length:Int)<=20) by omega)];rfl
 ·cases hq
def Dj (kd nm:Int) (tx:By) (fk fn:Int) (fd:By):Bool:=
 bif kd==1 then fk==0&&fn==nm else bif kd==2 then fk==0&&decide (fn<nm) else bif kd==3 then fk==0&&decide (fn>nm) else bif kd==5 then !(fk==0)&&(decide (tx.length<=fd.length)&&fd.take tx.length==tx) else true
def E2 (s p:By):Bool:=decide (p.length<=s.length)&&s.take p.length==p
def GS:Gm
 | [.s s,.s p],[]=>.leaf (.b (E2 s p),[])
 | _,_=>.no
def Rv:Gm
 | [.agg [.j _,.j fk,.j fn,.s fd],.j kd,.j nm,.s tx],[]=>.leaf (.b (Dj kd nm tx fk fn fd),[])
 | _,_=>.no
def soC:Gm
 | [.agg [.j fo,.j fk,.j fn,.s fd,.j _fr],.bx (Lw w0 w1 w2 w3 _w4 _w5) 0],[]=>.leaf (.b (fo==w1&&Dj w0 w2 w3 fk fn fd),[])
 | _,_=>.no
def JT  : LoopEnt:=⟨19,[0,1,4,7,8],[],[4],fun
 | ([.sl PCd l,.fn 103 [] [.ptr 0 0],.j _,.j k,.j i],[some (.box (Lw w0 w1 w2 w3 w4 w5))])=>
  .need (decide (0<=i/\i.toNat<=l.length/\l.length<=maxI/\k=l.length)) (.br (decide (Aw (fun z:Pl=>(z.1.1==w1&&Dj w0 w2 w3 z.1.2.1 z.1.2.2.1 z.1.2.2.2.1)) i.toNat (l.drop i.toNat)<0)) (.leaf (.exit 0,([],[some (.box (Lw w0 w1 w2 w3 w4 w5))]))) (.leaf (.ret,([.j (Aw (fun z:Pl=>(z.1.1==w1&&Dj w0 w2 w3 z.1.2.1 z.1.2.2.1 z.1.2.2.2.1)) i.toNat (l.drop i.toNat))],[some (.box (Lw w0 w1 w2 w3 w4 w5))]))))
 | _=>.no⟩
def NE  : Gm
 | [.sl PCd l,.fn 103 [] [.ptr 0 0]],[.box (Lw w0 w1 w2 w3 w4 w5)]=>.leaf (.j (Aw (fun z:Pl=>(z.1.1==w1&&Dj w0 w2 w3 z.1.2.1 z.1.2.2.1 z.1.2.2.2.1)) 0 l),[some (.box (Lw w0 w1 w2 w3 w4 w5))])
 | _,_=>.no
def PZ  : Gm
 | [.sl PCd l,.fn 103 [] [.ptr 0 0]],[.box (Lw w0 w1 w2 w3 w4 w5)]=>.leaf (.b (l.any (fun z:Pl=>(z.1.1==w1&&Dj w0 w2 w3 z.1.2.1 z.1.2.2.1 z.1.2.2.2.1))),[some (.box (Lw w0 w1 w2 w3 w4 w5))])
 | _,_=>.no
theorem Po (s p:By):A3 prog (Aa []) (Aa []) f175 [.s s,.s p] []=some (.b (E2 s p),[]):=by
 have e:A3 prog (Aa []) (Aa []) f175 [.s s,.s p] []=((ifB (decide ((↑s.length:Int)>=(↑p.length:Int))) (ifT (decide (0<=(↑p.length:Int))&&decide ((↑p.length:Int)<=(↑s.length:Int))) (some (V.b (take
 ((↑p.length:Int).toNat-0) (drop 0 s)==p),[]))) nF):_):=by kernel_rfl
 rw [e];clear e
 by_cases h:p.length<=s.length
 ·unfold E2;rw [Ag (dcT (by omega)),T2 (by omega),dcT h,ntN,Nat.sub_zero,drop_zero,Bool.true_and]
 ·unfold E2;rw [Ad (dcF (by omega)),dcF h,Bool.false_and]
theorem Wi:Ab prog 175 (Ent.rd1 GS).F:=by
 refine fcK KnowsL.nil.knows (Λ:=Aa []) func175 fun vs bs r' hq=>?_
 unfold Ent.F GS at hq;dsimp only at hq;split at hq
 ·exact ⟨Aj _,(Po _ _ ).trans hq⟩
 ·cases hq
theorem Rx (s p:By):A3 prog (Aa [(175,.rd1 GS)]) (Aa []) f150 [.s s,.s p] []=some (.b (E2 s p),[]):=by
 have e:A3 prog (Aa [(175,.rd1 GS)]) (Aa []) f150 [.s s,.s p] []=((some (V.b (E2 s p),[])):_):=by kernel_rfl
 exact e
theorem Tl:Ab prog 150 (Ent.rd1 GS).F:=by
 refine fcK (kc func175 Wi KnowsL.nil).knows (Λ:=Aa []) func150 fun vs bs r' hq=>?_
 unfold Ent.F GS at hq;dsimp only at hq;split at hq
 ·exact ⟨Aj _,(Rx _ _ ).trans hq⟩
 ·cases hq
theorem Ru (fo fk fn:Int) (fd:By) (kd nm:Int) (tx:By):A3 prog (Aa [(150,.rd1 GS)]) (Aa []) f104 [.agg [.j fo,.j fk,.j fn,.s fd],.j kd,.j nm,.s tx] []=some (.b (Dj kd nm tx fk fn fd),[]):=by
 have e:A3 prog (Aa [(150,.rd1 GS)]) (Aa []) f104 [.agg [.j fo,.j fk,.j fn,.s fd],.j kd,.j nm,.s tx] []=((ifB (kd==1) (ifB (fk==0) (some (V.b (fn==nm),[])) nF) (ifB (kd==2) (ifB (fk==0) (some (V.b (decide (fn<nm)),[])) nF)
 (ifB (kd==3) (ifB (fk==0) (some (V.b (decide (fn>nm)),[])) nF) (ifB (kd==5) (ifB (!fk==0) (some (V.b (E2 fd tx),[])) nF) (some (V.b true,[])))))):_):=by kernel_rfl
 rw [e];clear e;unfold Dj E2;cases kd==1<;>cases kd==2<;>cases kd==3<;>cases kd==5<;>cases fk==0<;>simp [ifB]
theorem WE:Ab prog 104 (Ent.rd1 Rv).F:=by
 refine fcK (kc func150 Tl KnowsL.nil).knows (Λ:=Aa []) func104 fun vs bs r' hq=>?_
 unfold Ent.F Rv at hq;dsimp only at hq;split at hq
 ·exact ⟨Aj _,(Ru _ _ _ _ _ _ _ ).trans hq⟩
 ·cases hq
theorem S5:Ab prog 103 (Ent.rd1 soC).F:=by
 refine fcK (kc func104 WE KnowsL.nil).knows (Λ:=Aa []) func103 fun vs bs r hq=>?_
 unfold Ent.F soC at hq;dsimp only at hq;split at hq
 ·rename_i fo fk fn fd fr w0 w1 w2 w3 w4 w5;refine ⟨Aj _,Eq.trans ?_ hq⟩;have e:A3 prog (Aa [(104,.rd1 Rv)]) (Aa []) f103 [.agg [.j fo,.j fk,.j fn,.s fd,.j fr],.bx (Lw w0 w1 w2 w3 w4 w5) 0] []=((ifB (fo==w1) (some (V.b (Dj w0 w2 w3 fk fn fd),[])) nF):_):=by kernel_rfl
  rw [e];cases fo==w1<;>rfl
 ·cases hq
theorem IZ  (w0 w1 w2:Int) (w3:By) (w4 w5:Int) (l:List (Pl)) (r k i:Int):As prog (Aa [(103,.rd1 soC)]) (Aa [(2,JT)]) 1 (body f125 0) JT ([.sl PCd l,.fn 103 [] [.ptr 0 0],.j r,.j k,.j i],[some (.box (Lw w0 w1 w2 w3 w4 w5))]) =
 ((ifB (decide (i<k)) (ifT (decide (0<=i)&&decide (i<(↑l.length:Int))) (Al l[i.toNat]? fun z=>ifB (z.1.1==w1&&Dj w0 w2 w3 z.1.2.1
 z.1.2.2.1 z.1.2.2.2.1) (some (Ex.ret,[V.j i],[some (Blk.box (Lw w0 w1 w2 w3 w4 w5))])) (some
 (Ex.normal,[V.sl PCd l,V.fn 103 [] [V.ptr 0 0],V.j r,V.j k,V.j (i64.wrap (i+1))],[some (Blk.box (Lw w0 w1 w2 w3 w4 w5))])))) (some (Ex.exit 0,[],[some (Blk.box (Lw w0 w1 w2 w3 w4 w5))]))):_):=by kernel_rfl
theorem KX  (w0 w1 w2:Int) (w3:By) (w4 w5:Int) {l:List (Pl)} {r:Int} (hx:l.length<=maxI) : ∀ (j i:Nat),i+j=l.length->∀ e d',(.br (decide (Aw (fun z:Pl=>(z.1.1==w1&&Dj w0 w2 w3 z.1.2.1 z.1.2.2.1 z.1.2.2.2.1)) i (l.drop i)<0)) (.leaf (.exit 0,([],[some (.box (Lw w0 w1 w2 w3 w4 w5))]))) (.leaf (.ret,([.j (Aw (fun z:Pl=>(z.1.1==w1&&Dj w0 w2 w3 z.1.2.1 z.1.2.2.1 z.1.2.2.2.1)) i (l.drop i))],[some (.box (Lw w0 w1 w2 w3 w4 w5))]))):Br (Ex×Dt)).run=some (e,d')->
  Runs prog (Aa [(103,.rd1 soC)]) (Aa [(2,JT)]) 1 (body f125 0) JT ([.sl PCd l,.fn 103 [] [.ptr 0 0],.j r,.j (l.length:Int),.j (i:Int)],[some (.box (Lw w0 w1 w2 w3 w4 w5))]) e d'
 | 0,i,hi,e,d',h=>by
  have e1:l.drop i=[]:=drop_eq_nil_of_le (by omega);rw [e1,CF,Aw,if_pos (by omega)] at h;cases h;have hr:=IZ w0 w1 w2 w3 w4 w5 l r l.length i;rw [Ad (dcF (by omega))] at hr;exact stp hr
 | j+1,i,hi,e,d',h=>by
  have h1:i<l.length:=by omega
  have hr:=IZ w0 w1 w2 w3 w4 w5 l r l.length i;rw [Ag (dcT (by omega)),T2 (by omega)] at hr;simp only [ntN,gtE h1,Am,Ax (n:=i) (by omega)] at hr;rw [drop_eq_getElem_cons h1,CF,Aw] at h
  by_cases he:(fun z:Pl=>(z.1.1==w1&&Dj w0 w2 w3 z.1.2.1 z.1.2.2.1 z.1.2.2.2.1)) l[i]=true
  ·rw [if_pos he,if_neg (by omega)] at h;cases h;rw [Ag he] at hr;exact stp hr
  ·rw [if_neg he] at h;rw [Ad (by simpa using he)] at hr;exact sts hr (KX w0 w1 w2 w3 w4 w5 hx j (i+1) (by omega) e d' (by rw [CF]; exact h))
theorem Ur  : Ar prog (Aa [(103,.rd1 soC)]) (Aa [(2,JT)]) 1 (f125.body.getD .skip):=by
 refine Ap (a:=body f125 0) (by kernel_rfl) fun d e d' h=>?_
 unfold JT at h;dsimp only at h;split at h
 ·obtain ⟨hc,h'⟩:=Ac h;obtain ⟨h0,h1,h2,rfl⟩:=of_decide_eq_true hc;obtain ⟨i,rfl⟩:=eq_ofNat_of_zero_le h0;exact KX _ _ _ _ _ _  h2 _ i (Nat.add_sub_of_le h1) e d' h'
 ·cases h
theorem S3  (w0 w1 w2:Int) (w3:By) (w4 w5:Int) (l:List (Pl)) (hx:l.length<=maxI):A3 prog (Aa [(103,.rd1 soC)]) (Aa [(2,JT)]) f125 [.sl PCd l,.fn 103 [] [.ptr 0 0]] [.box (Lw w0 w1 w2 w3 w4 w5)]=some (.j (Aw (fun z:Pl=>(z.1.1==w1&&Dj w0 w2 w3 z.1.2.1 z.1.2.2.1 z.1.2.2.2.1)) 0 l),[some (.box (Lw w0 w1 w2 w3 w4 w5))]):=by
 have e:A3 prog (Aa [(103,.rd1 soC)]) (Aa [(2,JT)]) f125 [.sl PCd l,.fn 103 [] [.ptr 0 0]] [.box (Lw w0 w1 w2 w3 w4 w5)] =
  ((ifT (decide ((0:Int)<=(0:Int)/\0<=l.length/\l.length<=maxI/\(↑l.length:Int)=(↑l.length:Int))) (ifB (decide (Aw (fun z=>z.1.1==w1&&
 Dj w0 w2 w3 z.1.2.1 z.1.2.2.1 z.1.2.2.2.1) 0 (drop 0 l)<(0:Int))) (some (V.j (-1),[some (Blk.box (Lw w0 w1 w2 w3 w4 w5))])) (some (V.j (Aw (fun z=>z.1.1==w1&&Dj w0 w2 w3 z.1.2.1 z.1.2.2.1
 z.1.2.2.2.1) 0 (drop 0 l)),[some (Blk.box (Lw w0 w1 w2 w3 w4 w5))])))):_):=by kernel_rfl
 rw [e,Ae (dcT ⟨by omega,by omega,hx,rfl⟩)];simp only [drop_zero]
 by_cases q:Aw (fun z:Pl=>(z.1.1==w1&&Dj w0 w2 w3 z.1.2.1 z.1.2.2.1 z.1.2.2.2.1)) 0 l<0
 ·rw [Ag (dcT q),Ec _ _ _ q]
 ·rw [Ad (dcF q)]
theorem S1  : Ab prog 125 (Ent.own NE).F:=by
 refine Bn (kc func103 S5 KnowsL.nil).knows (Λ:=(Aa [(2,JT)])) func125 (c:=f125.body.getD .skip) (by kernel_rfl) fun vs bs r h hv hb=>?_
 unfold Ent.F NE at h;dsimp only at h;split at h
 ·rename_i l w0 w1 w2 w3 w4 w5;have h':=h;exact ⟨Ur ,(S3 w0 w1 w2 w3 w4 w5 l (hv (.sl PCd l) (by simp)).1).trans (by cases h'; rfl)⟩
 ·cases h
theorem Qa  (w0 w1 w2:Int) (w3:By) (w4 w5:Int) (l:List (Pl)):A3 prog (Aa [(125,.own NE)]) (Aa []) f102 [.sl PCd l,.fn 103 [] [.ptr 0 0]] [.box (Lw w0 w1 w2 w3 w4 w5)]=some (.b (l.any (fun z:Pl=>(z.1.1==w1&&Dj w0 w2 w3 z.1.2.1 z.1.2.2.1 z.1.2.2.2.1))),[some (.box (Lw w0 w1 w2 w3 w4 w5))]):=by
 have e:A3 prog (Aa [(125,.own NE)]) (Aa []) f102 [.sl PCd l,.fn 103 [] [.ptr 0 0]] [.box (Lw w0 w1 w2 w3 w4 w5)] =
  ((some (V.b (decide (Aw (fun z=>z.1.1==w1&&Dj w0 w2 w3 z.1.2.1 z.1.2.2.1 z.1.2.2.2.1) 0 l>=(0:Int))),[some (Blk.box [V.i
 .i64 w0,V.j w1,V.j w2,V.s w3,V.j w4,V.j w5])])):_):=by kernel_rfl
 rw [e]
 skip
 rw [Ed]
theorem S2  : Ab prog 102 (Ent.own PZ).F:=by
 refine fcK (kc func125 (S1 ) KnowsL.nil).knows (Λ:=Aa []) func102 fun vs bs r h=>?_
 unfold Ent.F PZ at h;dsimp only at h;split at h
 ·rename_i l w0 w1 w2 w3 w4 w5;have h':=h;exact ⟨Aj _,(Qa w0 w1 w2 w3 w4 w5 l).trans (by cases h'; rfl)⟩
 ·cases h
def soR (ws:List Wt) (q:Wt->Bool):Nat->Int->Bool
 | 0,_=>false
 | n+1,k=>match ws[k.toNat]? with
  | some w=>bif w.1==6 then soR ws q n w.2.2.2.2.1&&soR ws q n w.2.2.2.2.2.1 else bif w.1==7 then soR ws q n w.2.2.2.2.1||soR ws q n w.2.2.2.2.2.1 else bif w.1==8 then !soR ws q n w.2.2.2.2.1 else q w
  | none=>false
def ON (w:Wt) (i:Int):Bool:=bif w.1==6||w.1==7 then decide (0<=w.2.2.2.2.1/\w.2.2.2.2.1<i/\0<=w.2.2.2.2.2.1/\w.2.2.2.2.2.1<i) else bif w.1==8 then decide (0<=w.2.2.2.2.1/\w.2.2.2.2.1<i) else true
def Fx (ws:List Wt):Bool:=(range ws.length).all fun i=>match ws[i]? with | some w=>ON w i | none=>true
def soq (l:List Pl) (w:Wt):Bool:=l.any fun z=>z.1.1==w.2.1&&Dj w.1 w.2.2.1 w.2.2.2.1 z.1.2.1 z.1.2.2.1 z.1.2.2.2.1
def soN (n:Nat):Gm
 | [.bx [.sl WCd ws] 0,.j k,.sl PCd l],[]=>.need (Fx ws&&decide (0<=k/\k.toNat<n/\k.toNat<ws.length)) (.leaf (.b (soR ws (soq l) n k),[]))
 | _,_=>.no
def soG:Gm
 | [.bx [.sl WCd ws] 0,.j k,.sl PCd l],[]=>.need (Fx ws&&decide (0<=k/\k.toNat<ws.length)) (.leaf (.b (soR ws (soq l) (k.toNat+1) k),[]))
 | _,_=>.no
theorem S4 (n:Nat) (ws:List Wt) (k:Int) (l:List Pl):Ba prog (Aa [(55,.rd1 (soN n)),(102,.own PZ)]) (Aa []) f55 [.bx [.sl WCd ws] 0,.j k,.sl PCd l] [] =
 ((ifT (decide (0<=k)&&decide (k<(↑ws.length:Int))) (Al ws[k.toNat]? fun z=>ifB (z.1==(6:Int)) (ifT (Fx ws&&decide ((0:Int)<=z.2.2.2.2.1/\
 toNat z.2.2.2.2.1<n/\toNat z.2.2.2.2.1<ws.length)) (ifB (soR ws (soq l) n z.2.2.2.2.1) (ifT (Fx ws&&decide ((0:Int)<=
 z.2.2.2.2.2.1/\toNat z.2.2.2.2.2.1<n/\toNat z.2.2.2.2.2.1<ws.length)) (some (V.b (soR ws (soq l) n
 z.2.2.2.2.2.1),[]))) nF)) (ifB (z.1==(7:Int)) (ifT (Fx ws&&decide ((0:Int)<=z.2.2.2.2.1/\toNat
 z.2.2.2.2.1<n/\toNat z.2.2.2.2.1<ws.length)) (ifB (soR ws (soq l) n z.2.2.2.2.1) (some (V.b true,[])) (ifT (Fx ws&&decide ((0
 : Int)<=z.2.2.2.2.2.1/\toNat z.2.2.2.2.2.1<n/\toNat z.2.2.2.2.2.1<ws.length)) (some (V.b (soR ws (soq l) n
 z.2.2.2.2.2.1),[]))))) (ifB (z.1==(8:Int)) (ifT (Fx ws&&decide ((0:Int)<=z.2.2.2.2.1/\toNat z.2.2.2.2.1<n/\toNat
 z.2.2.2.2.1<ws.length)) (some (V.b !soR ws (soq l) n z.2.2.2.2.1,[]))) (some (V.b (l.any fun z_1=>z_1.1.1==z.2.1&&Dj z.1
 z.2.2.1 z.2.2.2.1 z_1.1.2.1 z_1.1.2.2.1 z_1.1.2.2.2.1),[])))))):_):=by kernel_rfl
theorem SD {ws:List Wt} (h:Fx ws=true) {i:Nat} (hi:i<ws.length):ON ws[i] i=true:=by
 unfold Fx at h;have:=all_eq_true.1 h i (mem_range.2 hi);rw [gtE hi] at this;exact this
theorem VF (ws:List Wt) (q:Wt->Bool) (n:Nat) (k:Int) {z:Wt} (h:ws[k.toNat]? = some z):soR ws q (n+1) k=(bif z.1==6 then soR ws q n z.2.2.2.2.1&&soR ws q n z.2.2.2.2.2.1 else bif z.1==7 then soR ws q n z.2.2.2.2.1||soR ws q n z.2.2.2.2.2.1 else bif z.1==8 then !soR ws q n z.2.2.2.2.1 else q z):=by rw [soR,h]
theorem Ut : ∀ n,(∀ m,m<n->Ab prog 55 (Ent.rd1 (soN m)).F)->Ab prog 55 (Ent.rd1 (soN n)).F
 | 0,_=>AQ fun vs bs=>by
  unfold Ent.F soN;dsimp only;split
  ·rename_i ws k l;have:(Fx ws&&decide (0<=k/\k.toNat<0/\k.toNat<ws.length))=false:=by rw [Bool.and_eq_false_iff]; exact .inr (dcF (by omega))
   rw [this]; rfl
  ·rfl
 | n+1,ihs=>by
  have ih:=ihs n (lt_succ_self n);refine fcC (kc func55 ih (kc func102 S2 KnowsL.nil)).knows (Λ:=Aa []) func55 fun vs bs r hq=>?_
  unfold Ent.F soN at hq;dsimp only at hq;split at hq
  ·rename_i ws k l;obtain ⟨hc,hx⟩:=Ac hq;rw [anE] at hc;obtain ⟨hr,hc⟩:=hc;obtain ⟨h0,h1,h2⟩:=of_decide_eq_true hc;refine ⟨Aj _,(S4 n ws k l).trans (Eq.trans ?_ hx)⟩
   try dsimp only [shr]
   have hz:=SD hr h2;rw [T2 (by omega)];rw [VF ws (soq l) n k (gtE h2),gtE h2,Am];generalize ws[k.toNat]=z at hz ⊢;unfold ON at hz;rw [hr];cases q6:z.1==6
   ·cases q7:z.1==7
    ·cases q8:z.1==8
     ·rfl
     ·rw [q6,q7,q8] at hz;have hz:=of_decide_eq_true hz;rw [AL,AL,Be,Ae (show (true&&decide _)=true from dcT ⟨by omega,by omega,by omega⟩)];rfl
    ·rw [q6,q7] at hz;have hz:=of_decide_eq_true hz;rw [AL,Be,Ae (show (true&&decide _)=true from dcT ⟨by omega,by omega,by omega⟩),Ae (show (true&&decide _)=true from dcT ⟨by omega,by omega,by omega⟩)];cases soR ws (soq l) n z.2.2.2.2.1<;>rfl
   ·rw [q6] at hz;have hz:=of_decide_eq_true hz;rw [Be,Ae (show (true&&decide _)=true from dcT ⟨by omega,by omega,by omega⟩),Ae (show (true&&decide _)=true from dcT ⟨by omega,by omega,by omega⟩)];cases soR ws (soq l) n z.2.2.2.2.1<;>rfl
  ·cases hq
theorem Us:Ab prog 55 (Ent.rd1 soG).F:=by
 refine AX (F:=fun n=>(Ent.rd1 (soN n)).F) Ut fun vs bs r h=>?_
 unfold Ent.F soG at h;dsimp only at h;split at h
 ·rename_i ws k l;obtain ⟨hc,hx⟩:=Ac h;refine ⟨k.toNat+1,?_⟩;show (Br.need (Fx ws&&decide (0<=k/\k.toNat<k.toNat+1/\k.toNat<ws.length)) (.leaf (.b (soR ws (soq l) (k.toNat+1) k),[]))).run=some r;rw [anE,dcE] at hc;have:(Fx ws&&decide (0<=k/\k.toNat<k.toNat+1/\k.toNat<ws.length))=true:=by rw [anE,dcE]; exact ⟨hc.1,hc.2.1,lt_succ_self _,hc.2.2⟩
  rw [this];exact hx
 ·cases h



theorem N5 : ∀ (l:List Wt) (i:Nat) (u v:List Int),wgo i l u=some v->∀ (j:Nat) (h:j<l.length),ON l[j] ((i+j:Nat):Int)=true
 | [],_,_,_,_,j,h=>by simp at h
 | w::l,i,u,v,hw,j,h=>by
  rw [wgo] at hw
  by_cases hb:Bl w (i:Int)=true
  ·rw [if_pos hb] at hw
   cases j with
   | zero=>
    show ON w ((i+0:Nat):Int)=true;rw [Nat.add_zero];unfold Bl at hb;unfold ON
    by_cases q1:w.1=6\/w.1=7
    ·rw [if_pos q1] at hb;have hb:=of_decide_eq_true hb;have e:(w.1==6||w.1==7)=true:=by rcases q1 with q | q<;>rw [q]<;>rfl
     rw [e];exact dcT ⟨hb.2.2.2.1,by omega,by omega,hb.2.2.2.2.2⟩
    ·rw [if_neg q1] at hb
     have e:(w.1==6||w.1==7)=false:=by
      rw [Bool.or_eq_false_iff,beq_eq_false_iff_ne,beq_eq_false_iff_ne]; exact ⟨fun q=>q1 (.inl q),fun q=>q1 (.inr q)⟩
     rw [e]
     by_cases q2:w.1=8
     ·rw [if_pos q2] at hb;have hb:=of_decide_eq_true hb;rw [show (w.1==8)=true by rw [q2]; rfl];exact dcT ⟨hb.2.2.2.1,hb.2.2.2.2.1⟩
     ·rw [show (w.1==8)=false from beq_eq_false_iff_ne.2 q2]; rfl
   | succ j=>
    have:=N5 l (i+1) _ _ hw j (by simpa using h);rw [show i+(j+1)=i+1+j by omega]
    simpa using this
  ·rw [if_neg hb] at hw; cases hw
theorem R2 {l:List Wt} (h:Au l=true):Fx l=true/\1<=l.length/\l.length<=20:=by
 unfold Au at h;rw [anE,dcE] at h;refine ⟨?_,h.1⟩;have h2:=h.2;split at h2
 ·rename_i u hu;unfold Fx;rw [all_eq_true];intro j hj;have hj:=mem_range.1 hj;rw [gtE hj];have:=N5 l 0 _ _ hu j hj
  rwa [zero_add] at this
 ·cases h2
def kW (ws:List Wt):Int:=(ws.length:Int)-1
def soF (ws:List Wt) (q:Wt->Bool):Bool:=soR ws q ((kW ws).toNat+1) (kW ws)
def Lz (ws:List Wt) (s:By):Bool:=match Es s with
 | some l=>Au ws&&soF ws (soq l)
 | none=>false
def ST:Gm
 | [.agg [.sl WCd ws],.s s],[]=>.need (decide (s.length<=4000000000)) (.leaf (.tup [.b (Lz ws s),.b ((Es s).isSome&&Au ws)],[]))
 | _,_=>.no
theorem QU (ws:List Wt) (s:By):Ba prog (Aa [(34,.rd1 U1),(48,.rd1 CE),(55,.rd1 soG)]) (Aa []) f22 [.agg [.sl WCd ws],.s s] [] =
 ((ifT (decide (s.length<=4000000000)) (ifB (!(Es s).isSome) (some (V.tup [V.b false,V.b false],[])) (ifB (!Au ws) (some (V.tup [V.b false,V.b false],[]))
 (ifT (Fx ws&&decide (0<=i64.wrap ((↑ws.length:Int)-(1:Int))/\(i64.wrap ((↑ws.length:Int)-(1:Int))).toNat<ws.length)) (some (V.tup [V.b
 (soR ws (soq (take ((Es s).getD (Ai Pl)).length (drop 0 ((Es s).getD (Ai Pl))))) ((i64.wrap ((↑ws.length:Int)-(1:Int))).toNat+(1
 : Nat)) (i64.wrap ((↑ws.length:Int)-(1:Int)))),V.b true],[])))))):_):=by kernel_rfl
theorem mat:Ab prog 22 (Ent.rd1 ST).F:=by
 refine fcC (kc func34 ris (kc func48 HZ (kc func55 Us KnowsL.nil))).knows (Λ:=Aa []) func22 fun vs bs r hq=>?_
 unfold Ent.F ST at hq;dsimp only at hq;split at hq
 ·rename_i ws s;obtain ⟨hc,hx⟩:=Ac hq;refine ⟨Aj _,(QU ws s).trans (Eq.trans ?_ hx)⟩
  try dsimp only [shr]
  rw [Ae hc];unfold Lz
  cases hp:Es s with
  | none=>rfl
  | some l=>
   cases hg:Au ws
   ·rfl
   ·obtain ⟨h1,h2,h3⟩:=R2 hg;have e:i64.wrap ((ws.length:Int)-1)=kW ws:=An (by omega) (by omega);rw [e,Ae (by rw [h1,Bool.true_and]; unfold kW; exact dcT (by omega))];simp only [getD_some,drop_zero,take_length,Option.isSome_some,Bool.not_true,AL,Bool.true_and];rfl
 ·cases hq
def u8 (s:By):List Int:=s.map fun z=>((z.toNat:Nat):Int)
theorem JO {f n:Nat} (h:128<=n):BL (f+1) n=(UInt8.ofNat (n % 128+128)::(BL f (n / 128)).1,(BL f (n / 128)).2):=by rw [BL,if_pos h]
theorem Ez {f n:Nat} (h:n<128):BL f n=([],n):=by
 cases f with
 | zero=>rfl
 | succ f=>rw [BL,if_neg (by omega)]
theorem NQ (f n:Nat):(BL f n).1.length<=f:=by
 induction f generalizing n with
 | zero=>rw [BL]; exact Nat.le_refl _
 | succ f ih=>
  rw [BL];split
  ·have:=ih (n / 128);rw [length_cons]; omega
  ·exact zero_le _


def Cw (f:WFd):Bool:=AM f&&decide (f.2.2.2.1.length<=100000)
def Vm:Gm
 | [.sl FCd l],[]=>.need (decide (l.length<=100000)&&l.all Cw) (.leaf (.s (fbs l),[]))
 | _,_=>.no
def IO:LoopEnt:=⟨41,[3,6,7,8],[3],[],fun
 | ([.s s,.sl FCd l,.j k,.j i],[])=>.need (decide (0<=i/\i.toNat<=l.length/\k=l.length/\l.length<=100000/\s.length<=200000*i.toNat)&&l.all Cw) (.leaf (.exit 0,([.s (s++fbs (l.drop i.toNat))],[])))
 | _=>.no⟩
abbrev Se:FuncId->Option Ent:=Aa [(105,.rd1 So),(106,.rd1 Tq)]
theorem JB (s:By) (l:List WFd) (k i:Int):As prog Se (Aa [(3,IO)]) 0 (body f57 0) IO ([.s s,.sl FCd l,.j k,.j i],[]) =
 ((ifB (decide (i<k)) (ifT (decide (0<=i)&&decide (i<(↑l.length:Int))) (Al l[i.toNat]? fun z=>ifT (decide (0<=i64.wrap (i64.wrap ((8:Int) *
 z.1)+z.2.1)/\i64.wrap (i64.wrap ((8:Int)*z.1)+z.2.1)<=(1000000000000:Int))) (ifT (decide (s.length+(vbs (i64.wrap
 (i64.wrap ((8:Int)*z.1)+z.2.1)).toNat).length<=9223372036854775807)) (ifB (z.2.1==(0:Int)) (ifT (decide ((-1000000000000:Int)<=
 z.2.2.1/\z.2.2.1<=(1000000000000:Int))) (ifT (decide ((0:Int)<=fol z.2.2.1/\fol z.2.2.1<=(1000000000000:Int))) (ifT (decide ((s++vbs
 (i64.wrap (i64.wrap ((8:Int)*z.1)+z.2.1)).toNat).length+(vbs (fol z.2.2.1).toNat).length<=9223372036854775807)) (some
 (Ex.normal,[V.s (s++vbs (i64.wrap (i64.wrap ((8:Int)*z.1)+z.2.1)).toNat++vbs (fol z.2.2.1).toNat),V.sl FCd l,V.j k,V.i .i64
 (i64.wrap (i+1))],[]))))) (ifT (decide (0<=(↑(List.length z.2.2.2.1):Int)/\(↑(List.length z.2.2.2.1):Int)<=(1000000000000:Int))) (ifT
 (decide ((vbs (↑(List.length z.2.2.2.1):Int).toNat).length+List.length z.2.2.2.1<=9223372036854775807)) (ifT (decide ((s++vbs
 (i64.wrap (i64.wrap ((8:Int)*z.1)+z.2.1)).toNat).length+(vbs (↑(List.length z.2.2.2.1):Int).toNat++z.2.2.2.1).length<=
 9223372036854775807)) (some (Ex.normal,[V.s (s++vbs (i64.wrap (i64.wrap ((8:Int)*z.1)+z.2.1)).toNat++(vbs (↑(List.length
 z.2.2.2.1):Int).toNat++z.2.2.2.1)),V.sl FCd l,V.j k,V.j (i64.wrap (i+1))],[]))))))))) (some (Ex.exit 0,[V.s s],[]))):_):=by kernel_rfl
theorem RC (l:List WFd):A3 prog Se (Aa [(3,IO)]) f57 [.sl FCd l] [] =
 ((ifT (decide ((0:Int)<=(0:Int)/\0<=l.length/\(↑l.length:Int)=(↑l.length:Int)/\l.length<=100000/\0<=0)&&l.all Cw)
 (some (V.s (Ai UInt8++fbs (drop 0 l)),[]))):_):=by kernel_rfl
theorem Oo {f:WFd} (h:Cw f=true):(fb1 f).length<=100100:=by
 unfold Cw at h;rw [anE,dcE] at h;obtain ⟨h1,h2⟩:=h;obtain ⟨⟨a1,a2⟩,a3⟩:=Cn h1;have b1:=Ce (n:=(8*f.1+f.2.1).toNat) (by omega);unfold fb1;rw [length_append];split
 ·rename_i q;rcases a3 with ⟨_,c2,_⟩ | ⟨c1,_⟩
  ·have c3:=DB (D8 c2);have b2:=Ce (n:=(fol f.2.2.1).toNat) (by omega);omega
  ·omega
 ·have b2:=Ce (n:=f.2.2.2.1.length) (by omega);rw [length_append]; omega
theorem Tu (s:By) (l:List WFd) (i:Nat) (hi:i<l.length) (hl:l.length<=100000) (hs:s.length<=200000*i) (hf:Cw l[i]=true) :
  As prog Se (Aa [(3,IO)]) 0 (body f57 0) IO ([.s s,.sl FCd l,.j (l.length:Int),.j (i:Int)],[])=some (.normal,([.s (s++fb1 l[i]),.sl FCd l,.j (l.length:Int),.j ((i+1:Nat):Int)],[])):=by
 have hb:=Oo hf;rw [JB];have hM:=mxI;rw [Ag (dcT (by omega)),T2 (by omega),ntN,gtE hi,Am,Ax (n:=i) (by omega)];generalize l[i]=z at *;have hf0:=hf;unfold Cw at hf;rw [anE,dcE] at hf;obtain ⟨h1,h2⟩:=hf;obtain ⟨⟨a1,a2⟩,a3⟩:=Cn h1
 have e:i64.wrap (i64.wrap (8*z.1)+z.2.1)=8*z.1+z.2.1:=by
  rw [An (n:=8*z.1) (by omega) (by omega),An (by omega) (by omega)]
 have b1:=Ce (n:=(8*z.1+z.2.1).toNat) (by omega);rw [e,Ae (dcT ⟨by omega,by omega⟩),Ae (dcT (by omega))];unfold fb1 at hb ⊢;rcases a3 with ⟨c1,c2,c3⟩ | ⟨c1,c2⟩
 ·have c4:=D8 c2;have c5:=DB c4;have b2:=Ce (n:=(fol z.2.2.1).toNat) (by omega);rw [Ag (by rw [c1]; rfl),Ae (dcT ⟨by omega,by omega⟩),Ae (dcT ⟨by omega,by omega⟩),Ae (dcT (by rw [length_append]; omega)),if_pos c1,append_assoc]
 ·have b2:=Ce (n:=z.2.2.2.1.length) (by omega);rw [Ad (by rw [c1]; rfl),ntN,Ae (dcT ⟨by omega,by omega⟩),Ae (dcT (by omega)),Ae (dcT (by rw [length_append,length_append]; omega)),if_neg (by omega),append_assoc]
theorem LV (l:List WFd) (hl:l.length<=100000) (hf:l.all Cw=true) : ∀ (j i:Nat) (s:By),i+j=l.length->s.length<=200000*i->
  Runs prog Se (Aa [(3,IO)]) 0 (body f57 0) IO ([.s s,.sl FCd l,.j (l.length:Int),.j (i:Int)],[]) (.exit 0) ([.s (s++fbs (l.drop i))],[])
 | 0,i,s,hi,hs=>by
  have hr:=JB s l l.length i;rw [Ad (dcF (by omega))] at hr;rw [drop_eq_nil_of_le (by omega),show fbs []=[] from rfl,append_nil];exact stp hr
 | j+1,i,s,hi,hs=>by
  have hlt:i<l.length:=by omega
  have hfi:=all_eq_true.1 hf _ (getElem_mem hlt);have hr:=Tu s l i hlt hl hs hfi;have hb:=Oo hfi;have ih:=LV l hl hf j (i+1) (s++fb1 l[i]) (by omega) (by rw [length_append]; omega);rw [drop_eq_getElem_cons hlt,Cs];rw [append_assoc] at ih;exact sts hr ih
theorem Vl:Ar prog Se (Aa [(3,IO)]) 0 (f57.body.getD .skip):=by
 refine Ap (a:=body f57 0) (by kernel_rfl) fun d ex d' h=>?_
 unfold IO at h;dsimp only at h;split at h
 ·rename_i s l k i;obtain ⟨hc,hx⟩:=Ac h;clear h;rw [anE] at hc;obtain ⟨hc,hf⟩:=hc;obtain ⟨h0,h1,rfl,h3,h4⟩:=of_decide_eq_true hc;obtain ⟨i,rfl⟩:=eq_ofNat_of_zero_le h0;simp only [ntN] at h1 h4 hx;obtain ⟨rfl,rfl⟩:=lfP hx;exact LV l h3 hf (l.length-i) i s (by omega) h4
 ·cases h
theorem WJ:Ab prog 57 (Ent.rd1 Vm).F:=by
 refine fcK (kc func105 sv (kc func106 VI KnowsL.nil)).knows (Λ:=(Aa [(3,IO)])) func57 fun vs bs r hq=>?_
 unfold Ent.F Vm at hq;dsimp only at hq;split at hq
 ·rename_i l;obtain ⟨hc,hx⟩:=Ac hq;rw [anE] at hc;obtain ⟨h1,h2⟩:=hc;have h1:=of_decide_eq_true h1;refine ⟨Vl,Eq.trans ?_ hx⟩;rw [RC,Ae (by rw [h2,Bool.and_true]; exact dcT ⟨by omega,by omega,rfl,h1,by omega⟩)];rfl
 ·cases hq
def Uv:Gm
 | [.agg (Lt y0 y1 y2 y3 y4 ys)],[]=>.leaf (.b (fkB (.node (y0,y1,y2,y3,y4,()) ys:Rose Lab)),[])
 | _,_=>.no
theorem S7 (y0:Int) (y1:By) (y2:Int) (y3:Bool) (y4:Int) (ys:RL):A3 prog (Aa []) (Aa []) f64 [.agg (Lt y0 y1 y2 y3 y4 ys)] []=some (.b (fkB (.node (y0,y1,y2,y3,y4,()) ys:Rose Lab)),[]):=by
 have e:A3 prog (Aa []) (Aa []) f64 [.agg (Lt y0 y1 y2 y3 y4 ys)] []=((ifB (y0==1) (some (V.b true,[])) (some (V.b (y0==3),[]))):_):=by kernel_rfl
 rw [e];clear e;show _=some (V.b (y0==1||y0==3),[]);cases y0==1<;>rfl
theorem sfk:Ab prog 64 (Ent.rd1 Uv).F:=by
 refine fcK KnowsL.nil.knows (Λ:=Aa []) func64 fun vs bs r' hq=>?_
 unfold Ent.F Uv at hq;dsimp only at hq;split at hq
 ·exact ⟨Aj _,(S7 _ _ _ _ _ _ ).trans hq⟩
 ·cases hq









theorem OJ {ns:List Int} (h : ∀ i,i<ns.length->BF ns i=true):ns.Pairwise (· < ·):=by
 induction ns with
 | nil=>exact .nil
 | cons x ns ih=>
  have ih:=ih fun i hi=>by
   have:=h (i+1) (by simp; omega);unfold BF at this ⊢
   cases i with
   | zero=>rfl
   | succ i=>simpa using this
  refine List.pairwise_cons.2 ⟨fun y hy=>?_,ih⟩
  cases ns with
  | nil=>cases hy
  | cons w ns=>
   have h1:=h 1 (by simp);unfold BF at h1;have h1:x<w:=by simpa using h1
   rcases mem_cons.1 hy with rfl | hy
   ·exact h1
   ·have:=(List.pairwise_cons.1 ih).1 y hy;omega
theorem SA {l:List WFd} (h:H8 (Dx l)=true):l.Pairwise VL:=by
 have h2:=OJ (ns:=Dx l) fun i hi=>all_eq_true.1 h i (mem_range.2 hi)
 unfold Dx at h2;have h3:l.Pairwise (fun a b=>a.1<b.1):=pairwise_map.1 h2;exact h3







theorem N8 {l:List Ty} (h:Bd l=true):Fi (t2L l 0)=true/\0<l.length/\l.length<=30:=by
 have e:=((Ht l).2 h)
 unfold Bd at h;simp only [anE,dcE,beq_iff_eq] at h;rw [<-e];exact ⟨h.2,by omega,by omega⟩



theorem Sq {g:Nat} {b:UInt8} {l:By} {i n:Nat}:tv (g+1) (b::l) i n=if b.toNat<128 then some (n+b.toNat % 128*2 ^ (7*i),i+1,decide (n+b.toNat % 128*2 ^ (7*i)<=2000000001)&&(decide (0<b.toNat)||decide (i=0))) else tv g l (i+1) (n+b.toNat % 128*2 ^ (7*i)):=rfl
theorem PO : ∀ (f g n i acc:Nat) (post:By),n<128 ^ (f+1)->(BL f n).1.length<g->(0<n\/i=0)->
  tv g ((BL f n).1++UInt8.ofNat (BL f n).2::post) i acc=some (acc+n*2 ^ (7*i),i+(BL f n).1.length+1,decide (acc+n*2 ^ (7*i)<=2000000001))
 | 0,g,n,i,acc,post,h,hg,h0=>by
  have h:n<128:=by simpa using h
  obtain ⟨g,rfl⟩ : ∃ k,g=k+1:=⟨g-1,by omega⟩
  have hb:(UInt8.ofNat n).toNat=n:=by rw [UInt8.toNat_ofNat']; omega
  rw [BL,nil_append,Sq,hb,if_pos h,Nat.mod_eq_of_lt h];have:(decide (0<n)||decide (i=0))=true:=by simpa using h0
  rw [this,Bool.and_true]; rfl
 | f+1,g,n,i,acc,post,h,hg,h0=>by
  by_cases q:128<=n
  ·rw [JO q] at hg ⊢;dsimp only at hg ⊢;rw [length_cons] at hg;obtain ⟨g,rfl⟩ : ∃ k,g=k+1:=⟨g-1,by omega⟩
   have hb:(UInt8.ofNat (n % 128+128)).toNat=n % 128+128:=by rw [UInt8.toNat_ofNat']; omega
   rw [cons_append,Sq,hb,if_neg (by omega),show (n % 128+128) % 128=n % 128 by omega];rw [pow_succ] at h;rw [PO f g (n / 128) (i+1) _ post (Nat.div_lt_of_lt_mul (by omega)) (by omega) (.inl (by omega))]
   have e:acc+n % 128*2 ^ (7*i)+n / 128*2 ^ (7*(i+1))=acc+n*2 ^ (7*i):=by
    have e1:2 ^ (7*(i+1))=128*2 ^ (7*i):=by rw [Nat.mul_add,Nat.pow_add]; omega
    have e2:n*2 ^ (7*i)=(n % 128)*2 ^ (7*i)+(n / 128)*(128*2 ^ (7*i)):=by
     rw [<-Nat.mul_assoc,<-Nat.add_mul]; congr 1; omega
    rw [e1,e2]; omega
   rw [e,length_cons];congr 3;omega
  ·have h:n<128:=by omega
   rw [Ez h] at hg ⊢;obtain ⟨g,rfl⟩ : ∃ k,g=k+1:=⟨g-1,by omega⟩
   have hb:(UInt8.ofNat n).toNat=n:=by rw [UInt8.toNat_ofNat']; omega
   rw [nil_append,Sq,hb,if_pos h,Nat.mod_eq_of_lt h];have:(decide (0<n)||decide (i=0))=true:=by simpa using h0
   rw [this,Bool.and_true]; rfl
theorem Fq : ∀ (f k n:Nat),n<128 ^ (f+1)->BL (f+k) n=BL f n
 | 0,k,n,h=>by
  rw [Ez (by simpa using h),Ez (by simpa using h)]
 | f+1,k,n,h=>by
  by_cases q:128<=n
  ·rw [show f+1+k=f+k+1 by omega,JO q,JO q];rw [pow_succ] at h;rw [Fq f k (n / 128) (Nat.div_lt_of_lt_mul (by omega))]
  ·rw [Ez (by omega),Ez (by omega)]
theorem p5 {n:Nat} (h:n<=2000000001):n<128 ^ (4+1):=by
 have:(128:Nat) ^ (4+1)=34359738368:=by decide
 omega
theorem O3 {n:Nat} (h:n<=2000000001):vbs n=(BL 4 n).1++[UInt8.ofNat (BL 4 n).2]:=by
 unfold vbs;rw [show 10=4+6 from rfl,Fq 4 6 n (p5 h)]
theorem FH {n:Nat} (h:n<=2000000001) (pre post:By):Ah (pre++(vbs n++post)) pre.length=some (n,(vbs n).length,true):=by
 have hp:=NQ 4 n;unfold Ah;rw [List.drop_left,O3 h,append_assoc,List.singleton_append,PO 4 5 n 0 0 post (p5 h) (by omega) (.inr rfl),Nat.mul_zero,Nat.pow_zero,Nat.mul_one,zero_add,dcT h,length_append,length_singleton,zero_add]
theorem Sp {n:Int}:unf (fol n)=n:=by
 unfold unf fol;split<;>split<;>omega
theorem Sx {s:By} {a n k:Nat} (h:Ah s a=some (n,k,true)) (hle:(n:Int)<=s.length-((a+k:Nat):Int)):BM s a=((s.drop (a+k)).take n,((a+k:Nat):Int)+(n:Int),true):=by
 unfold BM;rw [h];exact if_pos ⟨rfl,hle⟩
theorem KS {s:By} {a n k m j:Nat} (h:Ah s a=some (n,k,true)) (h2 : ¬(n:Int) % 8=2) (hu:Ah s (a+k)=some (m,j,true)):AH s a=(((n:Int) / 8,(n:Int) % 8,unf (m:Int),[],()),(a:Int),((a+k+j:Nat):Int),AM ((n:Int) / 8,(n:Int) % 8,unf (m:Int),[],())):=by
 unfold AH;rw [h];refine (if_neg (by simp [BB])).trans ((if_neg h2).trans ?_);show (((n:Int) / 8,(n:Int) % 8,unf (AC (Ah s (a+k))),[],()),(a:Int),At (a+k) (Ah s (a+k)),BB (Ah s (a+k))&&AM ((n:Int) / 8,(n:Int) % 8,unf (AC (Ah s (a+k))),[],()))=_;rw [hu]; rfl
theorem KT {s d:By} {a n k:Nat} {e:Int} (h:Ah s a=some (n,k,true)) (h2:(n:Int) % 8=2) (hu:BM s (a+k)=(d,e,true)):AH s a=(((n:Int) / 8,2,0,d,()),(a:Int),e,AM ((n:Int) / 8,2,0,d,())):=by
 unfold AH;rw [h];refine (if_neg (by simp [BB])).trans ((if_pos h2).trans ?_);show (((n:Int) / 8,2,0,(BM s (a+k)).1,()),(a:Int),(BM s (a+k)).2.1,(BM s (a+k)).2.2&&AM ((n:Int) / 8,2,0,(BM s (a+k)).1,()))=_;rw [hu]; rfl
theorem PV {d:By} (h:d.length<=2000000001) (pre post:By):BM (pre++(vbs d.length++(d++post))) pre.length=(d,((pre.length+(vbs d.length).length+d.length:Nat):Int),true):=by
 have e:pre++(vbs d.length++(d++post))=(pre++vbs d.length)++(d++post):=by rw [append_assoc]
 have el:pre.length+(vbs d.length).length=(pre++vbs d.length).length:=by rw [length_append]
 rw [Sx (FH h pre _) (by simp only [length_append]; push_cast; omega),e,el,List.drop_left,List.take_left];simp
theorem PT {f:WFd} (hf:Cw f=true) (pre post:By):AH (pre++(fb1 f++post)) pre.length=(f,(pre.length:Int),((pre.length+(fb1 f).length:Nat):Int),true):=by
 obtain ⟨no,k,num,d,⟨⟩⟩:=f;unfold Cw at hf;rw [anE,dcE] at hf;obtain ⟨h1,h2⟩:=hf;obtain ⟨⟨a1,a2⟩,a3⟩:=Cn h1;have a1:1<=no:=a1;have a2:no<=30:=a2;have h2:d.length<=100000:=h2;have a3:(k=0/\Co num=true/\d=[])\/(k=2/\num=0):=a3;have e1:fb1 (no,k,num,d,())=vbs (8*no+k).toNat++(if k=0 then vbs (fol num).toNat else vbs d.length++d):=rfl;rw [e1,append_assoc];have ea : ∀ x:By,pre++(vbs (8*no+k).toNat++x)=(pre++vbs (8*no+k).toNat)++x:=fun x=>by rw [append_assoc]
 have el:pre.length+(vbs (8*no+k).toNat).length=(pre++vbs (8*no+k).toNat).length:=by rw [length_append]
 rcases a3 with ⟨c1,c2,c3⟩ | ⟨c1,c2⟩
 ·have hr:=DB (D8 c2);have hm:(fol num).toNat<=2000000001:=by omega
  have hu:=FH hm (pre++vbs (8*no+k).toNat) post;rw [if_pos c1];rw [<-ea,<-el] at hu;rw [KS (FH (by omega) pre _) (by omega) hu,show (((fol num).toNat:Nat):Int)=fol num by omega,Sp,show (((8*no+k).toNat:Nat):Int) / 8=no by omega,show (((8*no+k).toNat:Nat):Int) % 8=k by omega,<-c3,h1,length_append,add_assoc]
 ·have hu:=PV (d:=d) (by omega) (pre++vbs (8*no+k).toNat) post;rw [if_neg (by omega),append_assoc];rw [<-ea,<-el] at hu;rw [KT (FH (by omega) pre _) (by omega) hu,show (((8*no+k).toNat:Nat):Int) / 8=no by omega,<-c1,<-c2,h1];simp only [length_append,add_assoc]

theorem Tv (f:WFd):1<=(fb1 f).length:=by
 unfold fb1 vbs;simp only [length_append,length_singleton]; omega
theorem NO : ∀ (l:List WFd) (pre:By) (o:List WFd) (g:Nat),l.all Cw=true->o.length+l.length<=40->(fbs l).length<=g->rdF (pre++fbs l) g pre.length o=some (o++l)
 | [],pre,o,g,_,_,_=>by
  rw [show fbs []=[] from rfl,append_nil,append_nil];cases g<;>rw [rdF,if_neg (Nat.lt_irrefl _)]
 | f::l,pre,o,g,hf,ho,hg=>by
  rw [all_cons,anE] at hf;rw [Cs,length_append] at hg;rw [length_cons] at ho;have h1:=Tv f;obtain ⟨g,rfl⟩ : ∃ k,g=k+1:=⟨g-1,by omega⟩
  rw [Cs];have ht:=PT hf.1 pre (fbs l);have ih:=NO l (pre++fb1 f) (o++[f]) g hf.2 (by rw [length_append,length_singleton]; omega) (by omega);rw [append_assoc,length_append,append_assoc,List.singleton_append] at ih;rw [rdF,if_pos (by simp only [length_append]; omega),ht,if_pos ⟨rfl,by omega⟩];exact ih
theorem NG {l:List WFd} (h:l.Pairwise fun a b=>a.1<b.1):H8 (Dx l)=true:=by
 unfold H8;rw [all_eq_true];intro i hi;have hi:=mem_range.1 hi;unfold Dx at hi ⊢;rw [List.length_map] at hi;unfold BF
 cases i with
 | zero=>simp
 | succ i=>
  have:=List.pairwise_iff_getElem.1 h i (i+1) (by omega) hi (by omega);simp [getD_eq_getElem?_getD,List.getElem?_map,gtE hi,gtE (show i<l.length by omega)];omega
theorem Qr {l:List WFd} (hf:l.all Cw=true) (hl:l.length<=40) (hb:(fbs l).length<=400) (hr:l.Pairwise fun a b=>a.1<b.1):C9 (fbs l)=some l:=by
 have h:=NO l [] [] (fbs l).length hf (by simpa using hl) (Nat.le_refl _);unfold C9 CN GX;rw [if_pos hb];rw [nil_append,nil_append] at h;have h:rdF (fbs l) (fbs l).length 0 []=some l:=h;rw [h];dsimp only;rw [if_pos (NG hr)]



theorem KM : ∀ (f:Nat) (l:By) (i acc:Nat) {x k:Nat} {ok:Bool},tv f l i acc=some (x,k,ok)->∃ m,x=acc+m*2 ^ (7*i)/\i<k/\m<128 ^ (k-i)
 | 0,l,i,acc,x,k,ok,h=>by cases l<;>cases h
 | f+1,[],i,acc,x,k,ok,h=>by cases h
 | f+1,b::l,i,acc,x,k,ok,h=>by
  rw [Sq] at h;split at h
  ·cases h;refine ⟨b.toNat % 128,rfl,by omega,?_⟩;rw [show i+1-i=1 by omega,Nat.pow_one]; omega
  ·obtain ⟨m,h1,h2,h3⟩:=KM f l (i+1) _ h;refine ⟨b.toNat % 128+128*m,?_,by omega,?_⟩
   ·have e1:2 ^ (7*(i+1))=128*2 ^ (7*i):=by rw [Nat.mul_add,Nat.pow_add]; omega
    rw [h1,e1,Nat.add_mul,add_assoc];congr 2;rw [Nat.mul_comm 128 m,Nat.mul_assoc]
   ·have e2:k-i=k-(i+1)+1:=by omega
    rw [e2,pow_succ];have:b.toNat % 128<128:=by omega
    omega
theorem Uh {n k:Nat} (h:n<128 ^ (k+1)) (hk:k<=10):(vbs n).length<=k+1:=by
 have:=NQ k n;unfold vbs;rw [show 10=k+(10-k) by omega,Fq k (10-k) n h,length_append,length_singleton]; omega
theorem H0 {s:By} {a n k:Nat} {ok:Bool} (h:Ah s a=some (n,k,ok)):(vbs n).length<=k:=by
 obtain ⟨m,h1,h2,h3⟩:=KM _ _ _ _ h;have h4:=(DK h).2.2.2;have h4:k<=5:=h4;rw [Nat.mul_zero,Nat.pow_zero,Nat.mul_one,zero_add] at h1;subst h1;obtain ⟨k,rfl⟩ : ∃ j,k=j+1:=⟨k-1,by omega⟩
 exact Uh (by simpa using h3) (by omega)
theorem Tp {n:Int} (h:0<=n):fol (unf n)=n:=by
 unfold unf fol;split<;>split<;>omega
theorem PU {s d:By} {a:Nat} {e:Int} (h:BM s a=(d,e,true)):(a:Int)+(vbs d.length).length+d.length<=e:=by
 unfold BM at h;dsimp only at h;split at h
 ·rename_i hc
  cases ht:Ah s a with
  | none=>rw [ht] at hc; cases hc.1
  | some x=>
   obtain ⟨n,k,ok⟩:=x;have hl:=H0 ht;have hfa:=(DK ht).2.2.1;have hfa:a+k<=s.length:=hfa;rw [ht] at hc h;have hc2:(n:Int)<=s.length-((a+k:Nat):Int):=hc.2;have h:((s.drop (a+k)).take n,((a+k:Nat):Int)+(n:Int),true)=(d,e,true):=h;simp only [Prod.mk.injEq,and_true] at h;obtain ⟨rfl,rfl⟩:=h;have e1:((s.drop (a+k)).take n).length=n:=by rw [List.length_take,List.length_drop]; omega
   rw [e1]; push_cast; omega
 ·simp only [Prod.mk.injEq] at h;exact absurd h.2.2 (by simp)
theorem PS {s:By} {a:Nat} (h:(AH s a).2.2.2=true):(a:Int)+(fb1 (AH s a).1).length<=(AH s a).2.2.1:=by
 cases ht:Ah s a with
 | none=>
  unfold AH at h;rw [ht] at h;cases h
 | some x=>
  obtain ⟨n,k,ok⟩:=x
  cases ok with
  | false=>
   unfold AH at h;rw [ht] at h;cases h
  | true=>
   have hl:=H0 ht
   by_cases q:(n:Int) % 8=2
   ·cases hu:BM s (a+k) with
    | mk d y=>
     obtain ⟨e,ok⟩:=y
     cases ok with
     | false=>
      unfold AH at h;rw [ht] at h;have h:(if (true:Bool)=false then (((0,0,0,[],()),0,0,false):WFd×Int×Int×Bool) else if (n:Int) % 8=2 then (((n:Int) / 8,2,0,(BM s (a+k)).1,()),(a:Int),(BM s (a+k)).2.1,(BM s (a+k)).2.2&&AM ((n:Int) / 8,2,0,(BM s (a+k)).1,())) else _).2.2.2=true:=h;rw [if_neg (by simp),if_pos q,hu] at h;cases h
     | true=>
      have hb:=PU hu;rw [KT ht q hu];have e1:fb1 ((n:Int) / 8,2,0,d,())=vbs (8*((n:Int) / 8)+2).toNat++(vbs d.length++d):=rfl;show (a:Int)+(fb1 ((n:Int) / 8,2,0,d,())).length<=e;rw [e1,show (8*((n:Int) / 8)+2).toNat=n by omega,length_append,length_append];push_cast at hb ⊢;omega
   ·cases hu:Ah s (a+k) with
    | none=>
     unfold AH at h;rw [ht] at h;have h:(if (true:Bool)=false then (((0,0,0,[],()),0,0,false):WFd×Int×Int×Bool) else if (n:Int) % 8=2 then _ else (((n:Int) / 8,(n:Int) % 8,unf (AC (Ah s (a+k))),[],()),(a:Int),At (a+k) (Ah s (a+k)),BB (Ah s (a+k))&&AM ((n:Int) / 8,(n:Int) % 8,unf (AC (Ah s (a+k))),[],()))).2.2.2=true:=h;rw [if_neg (by simp),if_neg q,hu] at h;cases h
    | some y=>
     obtain ⟨m,j,ok⟩:=y
     cases ok with
     | false=>
      unfold AH at h;rw [ht] at h;have h:(if (true:Bool)=false then (((0,0,0,[],()),0,0,false):WFd×Int×Int×Bool) else if (n:Int) % 8=2 then _ else (((n:Int) / 8,(n:Int) % 8,unf (AC (Ah s (a+k))),[],()),(a:Int),At (a+k) (Ah s (a+k)),BB (Ah s (a+k))&&AM ((n:Int) / 8,(n:Int) % 8,unf (AC (Ah s (a+k))),[],()))).2.2.2=true:=h;rw [if_neg (by simp),if_neg q,hu] at h;cases h
     | true=>
      have hm:=H0 hu;rw [KS ht q hu] at h ⊢;have h:AM ((n:Int) / 8,(n:Int) % 8,unf (m:Int),[],())=true:=h
      have hk:(n:Int) % 8=0:=by
       obtain ⟨_,c⟩:=Cn h;rcases c with ⟨c,_⟩ | ⟨c,_⟩
       ·exact c
       ·exact absurd c q
      show (a:Int)+(fb1 ((n:Int) / 8,(n:Int) % 8,unf (m:Int),[],())).length<=((a+k+j:Nat):Int);have e1:fb1 ((n:Int) / 8,(n:Int) % 8,unf (m:Int),[],())=vbs (8*((n:Int) / 8)+(n:Int) % 8).toNat++(if (n:Int) % 8=0 then vbs (fol (unf (m:Int))).toNat else vbs 0++[]):=rfl;rw [e1,if_pos hk,Tp (by omega),show (8*((n:Int) / 8)+(n:Int) % 8).toNat=n by omega,ntN,length_append];push_cast;omega
theorem NN {s:By} : ∀ (g a:Nat) (o l:List WFd),a<=s.length->rdF s g a o=some l->∃ l',l=o++l'/\(fbs l').length<=s.length-a/\∀ f∈l',AM f=true
 | 0,a,o,l,ha,h=>by
  rw [rdF] at h;split at h
  ·cases h
  ·cases h; exact ⟨[],by simp,zero_le _,fun f hf=>by cases hf⟩
 | g+1,a,o,l,ha,h=>by
  rw [rdF] at h;split at h
  ·split at h
   ·rename_i hc;have ht:=PS hc.1;have hk:=IX hc.1;obtain ⟨l',h1,h2,h3⟩:=NN g _ _ l (by omega) h;refine ⟨(AH s a).1::l',by rw [h1,append_assoc]; rfl,?_,fun f hf=>?_⟩
    ·rw [Cs,length_append];omega
    ·rcases mem_cons.1 hf with rfl | hf
     ·exact hk.1
     ·exact h3 f hf
   ·cases h
  ·cases h; exact ⟨[],by simp,zero_le _,fun f hf=>by cases hf⟩
theorem Qq {s:By} {l:List WFd} (h:C9 s=some l):(fbs l).length<=s.length/\∀ f∈l,AM f=true:=by
 unfold C9 CN at h
 by_cases q:s.length<=400
 ·rw [if_pos q] at h
  cases hr:GX s with
  | none=>rw [hr] at h; cases h
  | some k=>
   rw [hr] at h;dsimp only at h;split at h
   ·cases h;obtain ⟨l',h1,h2,h3⟩:=NN _ _ _ _ (zero_le _) hr;rw [nil_append] at h1;subst h1;exact ⟨h2,h3⟩
   ·cases h
 ·rw [if_neg q] at h; cases h















theorem Q5 {s:By} : ∀ (g a:Nat) (o l:List WFd),o.length<=40->rdF s g a o=some l->l.length<=40
 | 0,a,o,l,ho,h=>by
  rw [rdF] at h;split at h
  ·cases h
  ·cases h; exact ho
 | g+1,a,o,l,ho,h=>by
  rw [rdF] at h;split at h
  ·split at h
   ·rename_i hc;exact Q5 g _ _ l (by rw [length_append]; have:=hc.2; simp; omega) h
   ·cases h
  ·cases h; exact ho
theorem SC {s:By} {l:List WFd} (h:C9 s=some l):l.length<=40/\s.length<=400/\H8 (Dx l)=true:=by
 unfold C9 CN at h
 by_cases q:s.length<=400
 ·rw [if_pos q] at h
  cases hr:GX s with
  | none=>rw [hr] at h; cases h
  | some k=>
   rw [hr] at h;dsimp only at h;split at h
   ·rename_i hs;cases h;exact ⟨Q5 _ _ _ _ (by simp) hr,q,hs⟩
   ·cases h
 ·rw [if_neg q] at h; cases h
def BX (ws:List Wt):List Int:=((range 30).map fun i=>((i+1:Nat):Int)).filter fun no=>ws.any fun w=>w.2.1==no
def D2 (u:List Int) (w:Wt):Int:=((AJ w).foldl (fun m k=>max m (u.getD k.toNat 0)) 0)+1
def Bh:List Wt->List Int->List Int
 | [],u=>u
 | w::ws,u=>Bh ws (u++[D2 u w])
def EI (ws:List Wt):Int:=bif Au ws then (Bh ws []).getD (ws.length-1) 0 else 0
def CB (ws:List Wt):List Int:=bif Au ws then BX ws else []
def DT (ws:List Wt):List Wt:=ws++[(8,0,0,[],(ws.length:Int)-1,0,())]
def Ha (ws:List Wt):Bool:=Au ws&&decide (ws.length+1<=20)
def S0 (l:List WFd) (w:Wt):Bool:=l.any fun z=>z.1==w.2.1&&Dj w.1 w.2.2.1 w.2.2.2.1 z.2.1 z.2.2.1 z.2.2.2.1
def GM (ns:List Int):Bool:=(ns.all fun n=>decide (1<=n/\n<=30))&&H8 ns
def Cv (l:List WFd) (ns:List Int):List WFd:=l.filter fun f=>ns.contains f.1
def vwB (s:By) (ns:List Int):Bool:=(C9 s).isSome&&GM ns
def vwL (s:By) (ns:List Int):By:=bif vwB s ns then fbs (Cv ((C9 s).getD []) ns) else []
theorem Ih (q:WFd->Bool) : ∀ l:List WFd,(fbs (l.filter q)).length<=(fbs l).length
 | []=>Nat.le_refl _
 | f::l=>by
  have ih:=Ih q l;rw [List.filter_cons];split
  ·rw [Cs,Cs,length_append,length_append]; omega
  ·rw [Cs,length_append]; omega
theorem On {f:WFd} : ∀ {l:List WFd},f∈l->(fb1 f).length<=(fbs l).length
 | [],h=>by cases h
 | g::l,h=>by
  rw [Cs,length_append];rcases mem_cons.1 h with rfl | h
  ·omega
  ·have:=On h; omega
theorem R7 {f:WFd} (h:AM f=true) (hl:(fb1 f).length<=400):Cw f=true:=by
 unfold Cw;rw [h,Bool.true_and,dcE];unfold AM at h;rw [anE] at h;have h2:=h.2;unfold fb1 at hl;split at h2
 ·simp only [anE,beq_iff_eq] at h2;have:=h2.2;simp [this]
 ·rename_i hk;rw [if_neg hk] at hl;simp only [length_append] at hl;omega
theorem Gq {s:By} {l:List WFd} (h:C9 s=some l) (q:WFd->Bool):C9 (fbs (l.filter q))=some (l.filter q)/\(fbs (l.filter q)).length<=400/\l.length<=40/\(l.filter q).all Cw=true:=by
 obtain ⟨h1,h2,h3⟩:=SC h;obtain ⟨h4,h5⟩:=Qq h;have hb:=Ih q l
 have hf:(l.filter q).all Cw=true:=all_eq_true.2 fun f hf=>by
  have hm:=(List.mem_filter.1 hf).1;exact R7 (h5 f hm) (le_trans (On hm) (by omega))
 have hl:(l.filter q).length<=40:=le_trans (List.length_filter_le _ _) h1;refine ⟨Qr hf hl (by omega) ?_,by omega,h1,hf⟩;exact List.Pairwise.filter q (SA h3)
theorem Gs {ws:List Wt} {q q':Wt->Bool} (h : ∀ w∈ws,w.1≠6->w.1≠7->w.1≠8->q w=q' w) : ∀ (n:Nat) (k:Int),soR ws q n k=soR ws q' n k
 | 0,k=>by rw [soR,soR]
 | n+1,k=>by
  rw [soR,soR]
  cases hw:ws[k.toNat]? with
  | none=>rfl
  | some w=>
   dsimp only;rw [Gs h n,Gs h n]
   by_cases h6:w.1=6
   ·rw [h6]; rfl
   by_cases h7:w.1=7
   ·rw [h7]; rfl
   by_cases h8:w.1=8
   ·rw [h8]; rfl
   rw [h w (mem_of_getElem? hw) h6 h7 h8]
theorem QV (ws:List Wt) (s:By):Lz ws s=match C9 s with | some l=>Au ws&&soF ws (S0 l) | none=>false:=by
 unfold Lz;rw [NI]
 cases Es s with
 | none=>rfl
 | some l=>
  dsimp only [Option.map_some]
  have e:soq l=S0 (l.map fun z=>z.1):=by
   funext w;unfold soq S0;rw [List.any_map]; rfl
  rw [e]
theorem KE : ∀ (l:List Wt) (i:Nat) (u v:List Int),wgo i l u=some v->∀ (j:Nat) (h:j<l.length),Bl l[j] ((i+j:Nat):Int)=true
 | [],_,_,_,_,j,h=>by simp at h
 | w::l,i,u,v,hw,j,h=>by
  rw [wgo] at hw;split at hw
  ·rename_i hb
   cases j with
   | zero=>exact hb
   | succ j=>
    have:=KE l (i+1) _ v hw j (by simpa using h);rw [show i+(j+1)=i+1+j by omega];exact this
  ·cases hw
theorem AS {ws:List Wt} (h:Au ws=true):(∀ (j:Nat) (hj:j<ws.length),Bl ws[j] (j:Int)=true)/\1<=ws.length/\ws.length<=20:=by
 unfold Au at h;rw [anE,dcE] at h;refine ⟨fun j hj=>?_,h.1.1,h.1.2⟩;have h2:=h.2;split at h2
 ·rename_i u hu;have:=KE ws 0 _ u hu j hj
  rwa [zero_add] at this
 ·cases h2
theorem IT {w:Wt} {i:Int} (h:Bl w i=true) (h6:w.1≠6) (h7:w.1≠7) (h8:w.1≠8):1<=w.2.1/\w.2.1<=30/\1<=w.1/\w.1<=5:=by
 unfold Bl at h;rw [if_neg (by omega),if_neg h8] at h;simp only [anE,dcE] at h;refine ⟨h.1.1.1,h.1.1.2,?_⟩;have ht:=h.1.2;unfold Fd at ht;split at ht
 ·omega
 ·split at ht
  ·omega
  ·split at ht
   ·omega
   ·cases ht
theorem O2 {w:Wt} {i:Int} (h:Bl w i=true) (hk:w.1=6\/w.1=7\/w.1=8):w.2.1=0:=by
 unfold Bl at h
 by_cases h1:w.1=6\/w.1=7
 ·rw [if_pos h1] at h;exact (of_decide_eq_true h).1
 ·rw [if_neg h1,if_pos (by omega)] at h;exact (of_decide_eq_true h).1
theorem HH {ws:List Wt} {n:Int}:n∈BX ws↔(1<=n/\n<=30)/\∃ w∈ws,w.2.1=n:=by
 unfold BX;rw [List.mem_filter,List.mem_map,List.any_eq_true];constructor
 ·rintro ⟨⟨i,hi,rfl⟩,w,hw,e⟩
  rw [mem_range] at hi;exact ⟨⟨by omega,by omega⟩,w,hw,by simpa using e⟩
 ·rintro ⟨⟨h1,h2⟩,w,hw,e⟩
  exact ⟨⟨(n-1).toNat,mem_range.2 (by omega),by omega⟩,w,hw,by simpa using e⟩
theorem NV (ws:List Wt):(BX ws).Pairwise (· < ·):=by
 unfold BX;refine List.Pairwise.filter _ ?_;rw [pairwise_map];exact List.pairwise_lt_range.imp (fun h=>by omega)
theorem Qo {ns:List Int} (h:ns.Pairwise (· < ·)):H8 ns=true:=by
 have e:Dx (ns.map fun n=>((n,0,0,[],()):WFd))=ns:=by
  unfold Dx;rw [List.map_map];exact List.map_id' ns
 have:=NG (l:=ns.map fun n=>((n,0,0,[],()):WFd)) (by rw [pairwise_map]; exact h)
 rwa [e] at this
theorem NW (ws:List Wt):GM (BX ws)=true:=by
 unfold GM;rw [Qo (NV ws),Bool.and_true,all_eq_true];exact fun n hn=>dcT (HH.1 hn).1
theorem QT {ws:List Wt} {s:By} (hg:Au ws=true) (h:(C9 s).isSome=true):vwB s (BX ws)=true/\(C9 (vwL s (BX ws))).isSome=true/\Lz ws (vwL s (BX ws))=Lz ws s/\(vwL s (BX ws)).length<=400:=by
 obtain ⟨l,hl⟩:=Option.isSome_iff_exists.1 h;have hv:vwB s (BX ws)=true:=by unfold vwB; rw [h,NW]; rfl
 obtain ⟨b1,b2,b3,b4⟩:=Gq hl (fun f=>(BX ws).contains f.1);have e:vwL s (BX ws)=fbs (l.filter fun f=>(BX ws).contains f.1):=by unfold vwL Cv; rw [hv,hl]; rfl
 rw [e];refine ⟨hv,by rw [b1]; rfl,?_,b2⟩;rw [QV,QV,b1,hl];dsimp only;congr 1;unfold soF;refine Gs (fun w hw h6 h7 h8=>?_) _ _;obtain ⟨j,hj,rfl⟩:=List.getElem_of_mem hw;have hb:=IT ((AS hg).1 j hj) h6 h7 h8;have hm:ws[j].2.1∈BX ws:=HH.2 ⟨⟨hb.1,hb.2.1⟩,_,hw,rfl⟩;unfold S0;rw [List.any_filter];congr 1;funext z
 by_cases q:z.1=ws[j].2.1
 ·rw [q,show (BX ws).contains ws[j].2.1=true by simpa using hm,Bool.true_and]
 ·rw [show (z.1==ws[j].2.1)=false by simpa using q]; simp

theorem Iy : ∀ (ws:List Wt) (u:List Int),∃ r,Bh ws u=u++r/\r.length=ws.length
 | [],u=>⟨[],by rw [Bh,append_nil],rfl⟩
 | w::ws,u=>by
  obtain ⟨r,h1,h2⟩:=Iy ws (u++[D2 u w]);exact ⟨D2 u w::r,by rw [Bh,h1,append_assoc]; rfl,by simp [h2]⟩
theorem Ix (ws:List Wt):(Bh ws []).length=ws.length:=by
 obtain ⟨r,h1,h2⟩:=Iy ws [];rw [h1]; simpa using h2
theorem Mg : ∀ (ws:List Wt) (u:List Int) (i:Nat) (h:i<ws.length),(Bh ws u)[u.length+i]? = some (D2 ((Bh ws u).take (u.length+i)) ws[i])
 | [],u,i,h=>by simp at h
 | w::ws,u,0,_=>by
  obtain ⟨r,h1,h2⟩:=Iy ws (u++[D2 u w]);rw [Bh,h1,Nat.add_zero,append_assoc,List.getElem?_append_right (Nat.le_refl _),List.take_left];simp
 | w::ws,u,i+1,h=>by
  have:=Mg ws (u++[D2 u w]) i (by simpa using h);rw [Bh,show u.length+(i+1)=(u++[D2 u w]).length+i by simp; omega];exact this
theorem Mf (m:List Wt) : ∀ (ws:List Wt) (u:List Int),Bh (ws++m) u=Bh m (Bh ws u)
 | [],u=>by rw [Bh]; rfl
 | w::ws,u=>by rw [cons_append,Bh,Bh,Mf m ws]
theorem Iw {u v:List Int} {w:Wt} (h : ∀ k∈AJ w,u.getD k.toNat 0=v.getD k.toNat 0):D2 u w=D2 v w:=by
 unfold D2;congr 1
 have : ∀ (ps:List Int) (m:Int),(∀ k∈ps,u.getD k.toNat 0=v.getD k.toNat 0)->ps.foldl (fun m k=>max m (u.getD k.toNat 0)) m=ps.foldl (fun m k=>max m (v.getD k.toNat 0)) m:=by
  intro ps
  induction ps with
  | nil=>intro m _; rfl
  | cons p ps ih=>
   intro m hp;rw [foldl_cons,foldl_cons,hp p mem_cons_self];exact ih _ (fun k hk=>hp k (mem_cons_of_mem _ hk))
 exact this _ 0 h
theorem J5 {u:List Int} {k n:Nat} (h:k<n):(u.take n).getD k 0=u.getD k 0:=by
 rw [getD_eq_getElem?_getD,getD_eq_getElem?_getD,List.getElem?_take,if_pos h]
theorem D5 {w:Wt} {i:Nat} (h:Bl w i=true) : ∀ k∈AJ w,0<=k/\k.toNat<i:=by
 obtain ⟨h1,h2,_⟩:=Ey h;unfold AJ;intro k hk;split at hk
 ·rename_i q;have:=h1 q;rcases mem_cons.1 hk with rfl | hk
  ·omega
  ·obtain rfl:=mem_singleton.1 hk; omega
 ·split at hk
  ·rename_i q;have:=h2 q;obtain rfl:=mem_singleton.1 hk; omega
  ·cases hk
theorem Nr {ws:List Wt} (hg:Au ws=true) {i:Nat} (h:i<ws.length):(Bh ws []).getD i 0=D2 (Bh ws []) ws[i]:=by
 have h1:=Mg ws [] i h;rw [List.length_nil,zero_add] at h1;rw [getD_eq_getElem?_getD,h1,getD_some];exact Iw fun k hk=>J5 (D5 ((AS hg).1 i h) k hk).2
theorem Me (u:List Int) (w:Wt):1<=D2 u w:=by
 unfold D2
 have : ∀ (ps:List Int) (m:Int),0<=m->0<=ps.foldl (fun m k=>max m (u.getD k.toNat 0)) m:=by
  intro ps
  induction ps with
  | nil=>intro m h; exact h
  | cons p ps ih=>intro m h; rw [foldl_cons]; exact ih _ (by omega)
 have:=this (AJ w) 0 (Int.le_refl _);omega
theorem N4 (m:List Wt) : ∀ (l:List Wt) (i:Nat) (u:List Int),wgo i (l++m) u=(match wgo i l u with | some v=>wgo (i+l.length) m v | none=>none)
 | [],i,u=>by rw [wgo]; rfl
 | w::l,i,u=>by
  rw [cons_append,wgo,wgo];split
  ·rw [N4 m l (i+1)];rw [show i+1+l.length=i+(w::l).length by simp; omega]
  ·rfl
theorem Rr {u:List Int} {k:Nat} (x:Int) (h:k<u.length):Cb (u++[x]) k=Cb u k++[x]:=by
 unfold Cb;rw [List.set_append_left _ _ h,getD_eq_getElem?_getD,getD_eq_getElem?_getD,List.getElem?_append_left h]
theorem PK {w:Wt} {i:Nat} {u:List Int} (x:Int) (h:Bl w i=true) (hi:i<=u.length):E0 w (u++[x])=E0 w u++[x]:=by
 have hp:=D5 h;rw [<-DI,<-DI]
 have : ∀ (ps:List Int) (u:List Int),(∀ k∈ps,k.toNat<u.length)->F6 ps (u++[x])=F6 ps u++[x]:=by
  intro ps
  induction ps with
  | nil=>intro u _; rfl
  | cons p ps ih=>
   intro u hk;show F6 ps (Cb (u++[x]) p.toNat)=F6 ps (Cb u p.toNat)++[x];rw [Rr x (hk p mem_cons_self)];exact ih _ (fun k hk'=>by rw [BA]; exact hk k (mem_cons_of_mem _ hk'))
 exact this _ u (fun k hk=>by have:=hp k hk; omega)
theorem KG (w:Wt) (u:List Int):(E0 w u).length=u.length:=by
 unfold E0;split
 ·rw [BA,BA]
 ·split
  ·rw [BA]
  ·rfl
theorem N6 (x:Int) : ∀ (l:List Wt) (i:Nat) (u v:List Int),i+l.length<=u.length->wgo i l u=some v->wgo i l (u++[x])=some (v++[x])/\v.length=u.length
 | [],i,u,v,_,h=>by rw [wgo] at h ⊢; cases h; exact ⟨rfl,rfl⟩
 | w::l,i,u,v,hi,h=>by
  rw [wgo] at h ⊢;rw [length_cons] at hi;split at h
  ·rename_i hw;rw [if_pos hw,PK x hw (by omega)];have:=N6 x l (i+1) (E0 w u) v (by rw [KG]; omega) h
   rwa [KG] at this
  ·cases h
theorem Nk {u:List Int} {k j:Nat} (h:j≠k):(Cb u k).getD j 0=u.getD j 0:=by
 unfold Cb;rw [getD_eq_getElem?_getD,List.getElem?_set_ne (Ne.symm h),<-getD_eq_getElem?_getD]
theorem My {w:Wt} {i j:Nat} {u:List Int} (h:Bl w i=true) (hj:i<=j):(E0 w u).getD j 0=u.getD j 0:=by
 have hp:=D5 h;rw [<-DI]
 have : ∀ (ps:List Int) (u:List Int),(∀ k∈ps,k.toNat<i)->(F6 ps u).getD j 0=u.getD j 0:=by
  intro ps
  induction ps with
  | nil=>intro u _; rfl
  | cons p ps ih=>
   intro u hk;show (F6 ps (Cb u p.toNat)).getD j 0=_;have:=hk p mem_cons_self;rw [ih _ (fun k hk'=>hk k (mem_cons_of_mem _ hk')),Nk (by omega)]
 exact this _ u (fun k hk=>(hp k hk).2)
theorem KF : ∀ (l:List Wt) (i:Nat) (u v:List Int) (j:Nat),wgo i l u=some v->i+l.length<=j+1->v.getD j 0=u.getD j 0
 | [],i,u,v,j,h,_=>by rw [wgo] at h; cases h; rfl
 | w::l,i,u,v,j,h,hj=>by
  rw [wgo] at h;rw [length_cons] at hj;split at h
  ·rename_i hw;rw [KF l (i+1) _ v j h (by omega),My hw (by omega)]
  ·cases h
theorem Lq {ws:List Wt} (h:Ha ws=true):Au (DT ws)=true:=by
 unfold Ha at h;rw [anE,dcE] at h;obtain ⟨hg,hn⟩:=h;have hg':=hg;unfold Au at hg';rw [anE,dcE] at hg';obtain ⟨⟨h1,_⟩,h2⟩:=hg'
 cases hw:wgo 0 ws (replicate ws.length 0) with
 | none=>rw [hw] at h2; cases h2
 | some v=>
  rw [hw] at h2;dsimp only at h2;obtain ⟨p1,p2⟩:=N6 0 ws 0 _ v (by simp) hw;rw [List.length_replicate] at p2;have hz:=KF ws 0 _ v (ws.length-1) hw (by omega)
  have hz:v.getD (ws.length-1) 0=0:=by
   rw [hz,getD_eq_getElem?_getD,List.getElem?_replicate];split<;>rfl
  have hlen:(DT ws).length=ws.length+1:=by unfold DT; simp
  unfold Au;rw [hlen,dcT (show 1<=ws.length+1/\ws.length+1<=20 by omega),Bool.true_and]
  have e:wgo 0 (DT ws) (replicate (ws.length+1) 0)=some (Cb (v++[0]) (ws.length-1)):=by
   unfold DT;rw [N4,List.replicate_succ',p1];dsimp only
   have hb:Bl ((8,0,0,[],(ws.length:Int)-1,0,()):Wt) ((0+ws.length:Nat):Int)=true:=by
    unfold Bl;dsimp only;rw [if_neg (by omega),if_pos rfl];exact dcT ⟨rfl,rfl,rfl,by omega,by omega,rfl⟩
   rw [wgo,if_pos hb,wgo];show some (Cb _ ((ws.length:Int)-1).toNat)=_;rw [show ((ws.length:Int)-1).toNat=ws.length-1 by omega]
  rw [e];dsimp only;unfold Fg at h2 ⊢;rw [all_eq_true] at h2 ⊢;intro x hx;obtain ⟨j,hj,rfl⟩:=List.getElem_of_mem hx;rw [List.length_take,BA,length_append,p2] at hj;simp only [length_cons,List.length_nil] at hj;rw [List.getElem_take];unfold Cb
  by_cases q:j=ws.length-1
  ·subst q;rw [List.getElem_set_self,getD_eq_getElem?_getD,List.getElem?_append_left (by omega),<-getD_eq_getElem?_getD,hz]; rfl
  ·rw [List.getElem_set_ne (Ne.symm q),List.getElem_append_left (by omega)];refine h2 _ ?_;rw [List.mem_take_iff_getElem];exact ⟨j,by omega,rfl⟩
theorem SM {ws:List Wt} (h:Ha ws=true):EI (DT ws)=EI ws+1:=by
 have hg:=h;unfold Ha at hg;rw [anE,dcE] at hg;obtain ⟨hg,hn⟩:=hg;obtain ⟨_,h1,_⟩:=AS hg;have hl:=Ix ws;unfold EI;rw [Lq h,hg,cond_true,cond_true];have hlen:(DT ws).length-1=ws.length:=by unfold DT; simp
 rw [hlen];unfold DT;rw [Mf,Bh,Bh,getD_eq_getElem?_getD,List.getElem?_append_right (by omega),hl,Nat.sub_self];show D2 _ _=_;unfold D2 AJ;dsimp only;rw [if_neg (by omega),if_pos rfl];show max 0 ((Bh ws []).getD ((ws.length:Int)-1).toNat 0)+1=_;rw [show ((ws.length:Int)-1).toNat=ws.length-1 by omega];have:=Nr hg (i:=ws.length-1) (by omega);have:=Me (Bh ws []) ws[ws.length-1];omega
theorem Om {u:List Int} {b:Int} : ∀ (ps:List Int) (m:Int),m<=b->(∀ k∈ps,u.getD k.toNat 0<=b)->ps.foldl (fun m k=>max m (u.getD k.toNat 0)) m<=b
 | [],m,h,_=>h
 | p::ps,m,h,hp=>by
  rw [foldl_cons];have:=hp p mem_cons_self;exact Om ps _ (by omega) (fun k hk=>hp k (mem_cons_of_mem _ hk))
theorem RY {ws:List Wt} (hg:Au ws=true) (i:Nat):i<ws.length->1<=(Bh ws []).getD i 0/\(Bh ws []).getD i 0<=i+1:=by
 induction i using Nat.strongRecOn with
 | ind i ih=>
  intro h;have e:=Nr hg h;have hp:=D5 ((AS hg).1 i h);have h1:=Me (Bh ws []) ws[i]
  have h2:D2 (Bh ws []) ws[i]<=(i:Int)+1:=by
   unfold D2
   have:=Om (u:=Bh ws []) (b:=(i:Int)) (AJ ws[i]) 0 (by omega) (fun k hk=>by
    have hk2:=hp k hk;have:=(ih k.toNat hk2.2 (by omega)).2
    omega)
   omega
  omega
def mxW (i:Nat) (u:List Int) (k:Int):List Int:=u.set i (max (u.getD i 0) (u.getD k.toNat 0))
def mxL (ps:List Int) (i:Nat) (u:List Int):List Int:=ps.foldl (mxW i) u
def Fb:Nat->List Wt->List Int->List Int
 | _,[],u=>u
 | i,w::l,u=>Fb (i+1) l (Cb (mxL (AJ w) i u) i)
def Ir:LoopEnt:=⟨57,[4,17,18,19],[4],[],fun
 | ([.ref 0 0 m,.sl WCd l,.j k,.j i],[R0 (.int .i64) u])=>.need (decide (0<=i/\i.toNat<=l.length/\k=l.length/\m=l.length/\u.length=l.length/\l.length<=20/\(∀ x∈u,0<=x/\x<=i))&&Au l) (.leaf (.exit 0,([.ref 0 0 (Fb i.toNat (l.drop i.toNat) u).length],[R0 (.int .i64) (Fb i.toNat (l.drop i.toNat) u)])))
 | _=>.no⟩
def Iq:LoopEnt:=⟨57,[4,5,17,18,19,25,26,27],[4,5,17,18,19],[],fun
 | ([.ref 0 0 m,.j t,.sl WCd l,.j k,.j i,.ref 1 0 p,.j q,.j j],[R0 (.int .i64) u,R0 (.int .i64) ps])=>.need (decide (0<=j/\j.toNat<=ps.length/\q=ps.length/\p=ps.length/\m=u.length/\ps.length<=2/\0<=t/\t.toNat<u.length/\(∀ x∈ps,0<=x/\x.toNat<u.length))) (.leaf (.exit 2,([.ref 0 0 (mxL (ps.drop j.toNat) t.toNat u).length,.j t,.sl WCd l,.j k,.j i],[R0 (.int .i64) (mxL (ps.drop j.toNat) t.toNat u)])))
 | _=>.no⟩
def Mh:Gm
 | [.agg [.sl WCd l]],[]=>.leaf (.tup [.j (EI l),.b (Au l)],[])
 | _,_=>.no
def OG (n:Nat):Gm
 | [.agg [.sl WCd ws],.j k],[]=>.need (Au ws&&decide (0<=k/\k.toNat<n/\k.toNat<ws.length)) (.leaf (.j ((Bh ws []).getD k.toNat 0),[]))
 | _,_=>.no
def Uy:Gm
 | [.agg [.sl WCd ws],.j k],[]=>.need (Au ws&&decide (0<=k/\k.toNat<ws.length)) (.leaf (.j ((Bh ws []).getD k.toNat 0),[]))
 | _,_=>.no
abbrev PE:FuncId->Option Ent:=Aa [(48,.rd1 CE),(53,.rd1 Hg)]
theorem JE (m:Nat) (l:List Wt) (k i:Int) (u:List Int):As prog PE (Aa [(5,Ir),(8,Iq)]) 0 (body f20 0) Ir ([.ref 0 0 m,.sl WCd l,.j k,.j i],[R0 (.int .i64) u]) =
 ((ifB (decide (i<k)) (ifT (decide (0<=i)&&decide (i<(↑l.length:Int))) (Al l[i.toNat]? fun z=>shr z.2 fun sh3=>shr sh3.2 fun sh2=>shr (AJ (z.1,
 sh3.1,sh2.1,sh2.2.1,sh2.2.2.1,sh2.2.2.2.1,())) fun sh1=>ifT (decide ((0:Int)<=(0:Int)/\0<=sh1.length/\(↑sh1.length:Int) =
 (↑sh1.length:Int)/\sh1.length=sh1.length/\m=u.length/\sh1.length<=2/\0<=i/\i.toNat<u.length/\∀ (x:(Cd.int .i64).den),x∈sh1->(0:(Cd.int
 .i64).den)<=x/\toNat x<u.length)) (ifT (decide (0<=i)&&decide (i<(↑(mxL (drop 0 sh1) i.toNat u).length:Int))) (Al (mxL (drop (0 :
 Nat) sh1) i.toNat u)[0+i.toNat]? fun z_1=>shr sh3 fun sh3=>shr sh3.2 fun sh2=>shr (mxL (drop 0 (AJ (z.1,sh3.1,sh2.1,
 sh2.2.1,sh2.2.2.1,sh2.2.2.2.1,()))) i.toNat u) fun sh1=>ifT (decide (0<=i)&&decide (i<(↑sh1.length:Int))) (Al sh1[0+i.toNat]?
 fun _=>shr sh2 fun sh2=>shr (mxL (drop 0 (AJ (z.1,sh3.1,sh2.1,sh2.2.1,sh2.2.2.1,sh2.2.2.2.1,()))) i.toNat u) fun sh1
 => some (Ex.normal,[V.ref 0 0 sh1.length,V.sl WCd l,V.j k,V.j (i64.wrap (i+1))],[R0 (Cd.int .i64) (sh1.set (0 +
 i.toNat) (i64.wrap (z_1+(1:Int))))])))))) (some (Ex.exit 0,[V.ref 0 0 m],[R0 (Cd.int .i64) u]))):_):=by kernel_rfl
theorem JD (m:Nat) (t:Int) (l:List Wt) (k i:Int) (p:Nat) (q j:Int) (u ps:List Int):As prog PE (Aa [(5,Ir),(8,Iq)]) 0 (body f20 1) Iq ([.ref 0 0 m,.j t,.sl WCd l,.j k,.j i,.ref 1 0 p,.j q,.j j],[R0 (.int .i64) u,R0 (.int .i64) ps]) =
 ((ifB (decide (j<q)) (ifT (decide (0<=j)&&decide (j<(↑p:Int))) (Al ps[0+j.toNat]? fun z=>ifT (decide (0<=t)&&decide (t<(↑m:Int))) (Al
 u[0+t.toNat]? fun z_1=>ifT (decide ((0:Int)<=z)&&decide (z<(↑m:Int))) (Al u[0+toNat z]? fun z=>ifT (decide (0<=t)&&decide (t <
 (↑m:Int))) (Al u[0+t.toNat]? fun _=>some (Ex.normal,[V.ref 0 0 m,V.j t,V.sl WCd l,V.j k,V.j i,V.ref 1 0 p,V.j q,V.i .i64
 (i64.wrap (j+1))],[R0 (Cd.int .i64) (u.set (0+t.toNat) (if z>z_1 then z else z_1)),R0 (Cd.int .i64)
 ps])))))) (some (Ex.exit 2,[V.ref 0 0 m,V.j t,V.sl WCd l,V.j k,V.j i],[R0 (Cd.int .i64) u]))):_):=by kernel_rfl
theorem T8 (l:List Wt):Ba prog PE (Aa [(5,Ir),(8,Iq)]) f20 [.agg [.sl WCd l]] [] =
 ((shr (drop 0 l) fun sh2=>shr (replicate (↑l.length:Int).toNat (0:Int)) fun sh1=>ifB (!Au l) (some (V.tup [V.j 0,V.b false],[])) (ifT
 (decide (0<=(↑l.length:Int))&&decide ((↑l.length:Int)<=(↑l.length:Int))&&decide ((↑l.length:Int)*(↑(8:Nat):Int)<=(140737488355328:Int))&&decide
 ((↑l.length:Int)<=(9223372036854775807:Int))) (ifT (decide ((0:Int)<=(0:Int)/\0<=l.length/\(↑l.length:Int)=(↑l.length:Int)/\(↑l.length :
 Int).toNat=l.length/\sh1.length=l.length/\l.length<=20/\∀ (x:(Cd.int .i64).den),x∈sh1->(0:(Cd.int .i64).den)<=x/\x<=(0:Int))&&Au l)
 (ifT (decide (0<=i64.wrap ((↑(Fb 0 sh2 sh1).length:Int)-(1:Int)))&&decide (i64.wrap ((↑(Fb 0 sh2 sh1).length:Int)-(1 :
 Int))<(↑(Fb 0 sh2 sh1).length:Int))) (Al (Fb 0 sh2 sh1)[0+(i64.wrap ((↑(Fb 0 sh2 sh1).length:Int)-(1 :
 Int))).toNat]? fun z=>some (V.tup [V.j z,V.b true],[])))))):_):=by kernel_rfl
theorem Qj (n:Nat) (ws:List Wt) (k:Int):Ba prog (Aa [(54,.rd1 (OG n))]) (Aa []) f54 [.agg [.sl WCd ws],.j k] [] =
 ((ifT (decide (0<=k)&&decide (k<(↑ws.length:Int))) (Al ws[k.toNat]? fun z=>shr z.2.2.2.2 fun sh1=>ifB (decide (z.1<(6:Int))) (some (V.j 1,
 [])) (ifT (Au ws&&decide ((0:Int)<=sh1.1/\toNat sh1.1<n/\toNat sh1.1<ws.length)) (ifB (z.1 != (8:Int)) (ifT (Au ws&&decide ((0 :
 Int)<=sh1.2.1/\toNat sh1.2.1<n/\toNat sh1.2.1<ws.length)) (ifB (decide ((Bh ws (Ai Int)).getD (toNat sh1.2.1) (0:Int)>(Bh ws
 (Ai Int)).getD (toNat sh1.1) (0:Int))) (some (V.j (i64.wrap ((Bh ws (Ai Int)).getD (toNat sh1.2.1) (0:Int)+(1:Int))),[])) (some
 (V.j (i64.wrap ((Bh ws (Ai Int)).getD (toNat sh1.1) (0:Int)+(1:Int))),[])))) (some (V.j (i64.wrap ((Bh ws (Ai Int)).getD
 (toNat sh1.1) (0:Int)+(1:Int))),[])))))):_):=by kernel_rfl
theorem Qk (l:List Wt):Ba prog (Aa [(51,.rd1 CE),(54,.rd1 Uy)]) (Aa []) f21 [.agg [.sl WCd l]] [] =
 ((ifB (!Au l) (some (V.tup [V.j 0,V.b false],[])) (ifT (Au l&&decide (0<=i64.wrap ((↑l.length:Int)-(1:Int))/\(i64.wrap ((↑l.length :
 Int)-(1:Int))).toNat<l.length)) (some (V.tup [V.j ((Bh l (Ai Int)).getD (i64.wrap ((↑l.length:Int)-(1:Int))).toNat (0:Int)),V.b true],
 [])))):_):=by kernel_rfl
theorem FV (i:Nat) (u:List Int) (k:Int):(mxW i u k).length=u.length:=by unfold mxW; simp
theorem NZ (i:Nat) : ∀ (ps u:List Int),(mxL ps i u).length=u.length
 | [],u=>rfl
 | p::ps,u=>by
  show (mxL ps i (mxW i u p)).length=_;rw [NZ i ps,FV]
theorem LZ (l:List Wt) (k i:Int) (t:Nat) (ps:List Int) (hp:ps.length<=2) : ∀ (n j:Nat) (u:List Int),j+n=ps.length->t<u.length->(∀ x∈ps,0<=x/\x.toNat<u.length)->
  Runs prog PE (Aa [(5,Ir),(8,Iq)]) 0 (body f20 1) Iq ([.ref 0 0 u.length,.j (t:Int),.sl WCd l,.j k,.j i,.ref 1 0 ps.length,.j (ps.length:Int),.j (j:Int)],[R0 (.int .i64) u,R0 (.int .i64) ps]) (.exit 2) ([.ref 0 0 (mxL (ps.drop j) t u).length,.j (t:Int),.sl WCd l,.j k,.j i],[R0 (.int .i64) (mxL (ps.drop j) t u)])
 | 0,j,u,hj,ht,hps=>by
  have hr:=JD u.length t l k i ps.length ps.length j u ps;rw [Ad (dcF (by omega))] at hr;rw [drop_eq_nil_of_le (by omega)];exact stp hr
 | n+1,j,u,hj,ht,hps=>by
  have hl:j<ps.length:=by omega
  have hr:=JD u.length t l k i ps.length ps.length j u ps;have W1:i64.wrap ((j:Int)+1)=((j+1:Nat):Int):=by rw [An (by omega) (by omega)]; omega
  obtain ⟨h0,h1⟩:=hps _ (getElem_mem hl);rw [Ag (dcT (by omega)),T2 (by omega),ntN,zero_add,gtE hl,Am,T2 (by omega),ntN,zero_add,gtE ht,Am,T2 (by omega),zero_add,gtE h1,Am,T2 (by omega),Am,W1] at hr
  have e:u.set t (if u[(ps[j]).toNat]>u[t] then u[(ps[j]).toNat] else u[t])=mxW t u ps[j]:=by
   unfold mxW;rw [getD_eq_getElem?_getD,getD_eq_getElem?_getD,gtE ht,gtE h1,getD_some,getD_some];congr 1;split<;>omega
  rw [e] at hr;have ih:=LZ l k i t ps hp n (j+1) (mxW t u ps[j]) (by omega) (by rw [FV]; exact ht) (fun x hx=>by rw [FV]; exact hps x hx);rw [drop_eq_getElem_cons hl];have e2:mxL (ps[j]::ps.drop (j+1)) t u=mxL (ps.drop (j+1)) t (mxW t u ps[j]):=rfl;rw [e2];rw [FV] at ih;exact sts hr ih
theorem Ol {u:List Int} {b:Int} (h : ∀ x∈u,0<=x/\x<=b) (hb:0<=b) (k:Nat):0<=u.getD k 0/\u.getD k 0<=b:=by
 rw [getD_eq_getElem?_getD]
 cases e:u[k]? with
 | none=>exact ⟨Int.le_refl _,hb⟩
 | some x=>exact h x (mem_of_getElem? e)
theorem QQ {b:Int} (hb:0<=b) (i:Nat) : ∀ (ps u:List Int),(∀ x∈u,0<=x/\x<=b)->∀ x∈mxL ps i u,0<=x/\x<=b
 | [],u,h=>h
 | p::ps,u,h=>by
  refine QQ hb i ps (mxW i u p) fun x hx=>?_
  unfold mxW at hx;rcases List.mem_or_eq_of_mem_set hx with hx | rfl
  ·exact h x hx
  ·have h1:=Ol h hb i;have h2:=Ol h hb p.toNat;omega
theorem Ma (l:List Wt) (hg:Au l=true) (hl:l.length<=20) : ∀ (j i:Nat) (u:List Int),i+j=l.length->u.length=l.length->(∀ x∈u,0<=x/\x<=(i:Int))->
  Runs prog PE (Aa [(5,Ir),(8,Iq)]) 0 (body f20 0) Ir ([.ref 0 0 u.length,.sl WCd l,.j (l.length:Int),.j (i:Int)],[R0 (.int .i64) u]) (.exit 0) ([.ref 0 0 (Fb i (l.drop i) u).length],[R0 (.int .i64) (Fb i (l.drop i) u)])
 | 0,i,u,hi,hul,hu=>by
  have hr:=JE u.length l l.length i u
  try dsimp only [shr] at hr
  rw [Ad (dcF (by omega))] at hr;rw [drop_eq_nil_of_le (by omega),Fb];exact stp hr
 | j+1,i,u,hi,hul,hu=>by
  have hlt:i<l.length:=by omega
  have hr:=JE u.length l l.length i u
  try dsimp only [shr] at hr
  have W1:i64.wrap ((i:Int)+1)=((i+1:Nat):Int):=by rw [An (by omega) (by omega)]; omega
  have eta : ∀ z:Wt,(z.1,z.2.1,z.2.2.1,z.2.2.2.1,z.2.2.2.2.1,z.2.2.2.2.2.1,())=z:=fun z=>rfl
  rw [Ag (dcT (by omega)),T2 (by omega),ntN,gtE hlt,Am] at hr;simp only [eta,drop_zero] at hr;obtain ⟨p1,p2⟩:=IS ((AS hg).1 i hlt) (by omega:i<=u.length);have hml:=NZ i (AJ l[i]) u;have hmb:=QQ (b:=(i:Int)) (by omega) i (AJ l[i]) u hu;have hlt2:i<(mxL (AJ l[i]) i u).length:=by omega
  have hv:=hmb _ (getElem_mem hlt2);rw [Ae (dcT ⟨by omega,by omega,by first | trivial | rfl,by first | trivial | rfl,by first | trivial | rfl,p1,by omega,by omega,p2⟩),T2 (by omega),zero_add,gtE hlt2,Am,T2 (by omega),Am,W1,An (n:=(mxL (AJ l[i]) i u)[i]+1) (by omega) (by omega)] at hr;have e:(mxL (AJ l[i]) i u).set i ((mxL (AJ l[i]) i u)[i]+1)=Cb (mxL (AJ l[i]) i u) i:=by unfold Cb; simp [hlt2]
  rw [e] at hr;have hb:=Ti hmb hlt2;have ih:=Ma l hg hl j (i+1) (Cb (mxL (AJ l[i]) i u) i) (by omega) (by rw [BA]; omega) (fun x hx=>by have:=hb x hx; omega);rw [drop_eq_getElem_cons hlt,Fb];rw [BA] at ih;exact sts hr ih
theorem Wp:Ar prog PE (Aa [(5,Ir),(8,Iq)]) 0 (f20.body.getD .skip):=by
 refine LoopsI.loops (cs:=[body f20 0,body f20 1]) ?_ (by kernel_rfl);refine .cons (ent:=Ir) (by rfl) (fun d ex d' h=>?_) (.cons (ent:=Iq) (by rfl) (fun d ex d' h=>?_) .nil)
 ·unfold Ir at h;dsimp only at h;split at h
  ·rename_i m l k i u;obtain ⟨hc,hx⟩:=Ac h;clear h;rw [anE] at hc;obtain ⟨hc,hg⟩:=hc;obtain ⟨h0,h1,rfl,rfl,h4,h5,h6⟩:=of_decide_eq_true hc;obtain ⟨i,rfl⟩:=eq_ofNat_of_zero_le h0;simp only [ntN] at h1 hx;obtain ⟨rfl,rfl⟩:=lfP hx;have:=Ma l hg h5 (l.length-i) i u (by omega) h4 h6;rw [h4] at this;exact this
  ·cases h
 ·unfold Iq at h;dsimp only at h;split at h
  ·rename_i m t l k i p q j u ps;obtain ⟨hc,hx⟩:=Ac h;clear h;obtain ⟨h0,h1,rfl,rfl,rfl,h5,h6,h7,h8⟩:=of_decide_eq_true hc;obtain ⟨j,rfl⟩:=eq_ofNat_of_zero_le h0;obtain ⟨t,rfl⟩:=eq_ofNat_of_zero_le h6;simp only [ntN] at h1 h7 hx;obtain ⟨rfl,rfl⟩:=lfP hx;exact LZ l k i t ps h5 (ps.length-j) j u (by omega) h7 h8
  ·cases h
theorem QR {i:Nat} : ∀ (ps u:List Int),i<u.length->(∀ k∈ps,k.toNat<i)->mxL ps i u=u.set i (ps.foldl (fun m k=>max m (u.getD k.toNat 0)) (u.getD i 0))
 | [],u,hi,_=>by
  show u=u.set i (u.getD i 0);rw [getD_eq_getElem?_getD,gtE hi,getD_some,List.set_getElem_self]
 | p::ps,u,hi,hp=>by
  show mxL ps i (mxW i u p)=_
  have h1:(mxW i u p).getD i 0=max (u.getD i 0) (u.getD p.toNat 0):=by
   unfold mxW;rw [getD_eq_getElem?_getD,List.getElem?_set_self hi]; rfl
  have h2 : ∀ k,k<i->(mxW i u p).getD k 0=u.getD k 0:=fun k hk=>by
   unfold mxW;rw [getD_eq_getElem?_getD,List.getElem?_set_ne (by omega),<-getD_eq_getElem?_getD]
  rw [QR ps (mxW i u p) (by rw [FV]; exact hi) (fun k hk=>hp k (mem_cons_of_mem _ hk)),h1,foldl_cons]
  have h3 : ∀ (qs:List Int) (m:Int),(∀ k∈qs,k.toNat<i)->qs.foldl (fun m k=>max m ((mxW i u p).getD k.toNat 0)) m=qs.foldl (fun m k=>max m (u.getD k.toNat 0)) m:=by
   intro qs
   induction qs with
   | nil=>intro m _; rfl
   | cons q qs ih=>
    intro m hq;rw [foldl_cons,foldl_cons,h2 _ (hq q mem_cons_self)];exact ih _ (fun k hk=>hq k (mem_cons_of_mem _ hk))
  rw [h3 ps _ (fun k hk=>hp k (mem_cons_of_mem _ hk))];unfold mxW;rw [set_set]
theorem Ov : ∀ (l:List Wt) (i:Nat) (u:List Int),u.length=i+l.length->(∀ j,i<=j->u.getD j 0=0)->(∀ (j:Nat) (h:j<l.length),Bl l[j] ((i+j:Nat):Int)=true)->Fb i l u=Bh l (u.take i)
 | [],i,u,hu,_,_=>by rw [Fb,Bh,List.take_of_length_le (by simpa using Nat.le_of_eq hu)]
 | w::l,i,u,hu,hz,hw=>by
  rw [length_cons] at hu;have hw0:Bl w (i:Int)=true:=hw 0 (by simp);have hp:=D5 hw0;have hi:i<u.length:=by omega
  have e:Cb (mxL (AJ w) i u) i=u.set i (D2 (u.take i) w):=by
   rw [QR _ u hi (fun k hk=>(hp k hk).2),hz i (Nat.le_refl _)];unfold Cb;rw [set_set,getD_eq_getElem?_getD,List.getElem?_set_self hi,getD_some];have:D2 (u.take i) w=D2 u w:=Iw fun k hk=>J5 (hp k hk).2
   rw [this];rfl
  rw [Fb,Bh,e]
  rw [Ov l (i+1) _ (by rw [length_set]; omega) (fun j hj=>by
   rw [getD_eq_getElem?_getD,List.getElem?_set_ne (by omega),<-getD_eq_getElem?_getD]
   exact hz j (by omega)) (fun j hj=>by
   have:=hw (j+1) (by simpa using hj);rw [show i+1+j=i+(j+1) by omega]
   exact this)]
  congr 1;rw [List.take_add_one,List.getElem?_set_self hi,List.take_set_of_le (Nat.le_refl _)];rfl
theorem Vw {l:List Wt} (hg:Au l=true):Fb 0 l (replicate l.length 0)=Bh l []:=by
 rw [Ov l 0 _ (by simp) (fun j _=>by rw [getD_eq_getElem?_getD,List.getElem?_replicate]; split<;>rfl) (fun j hj=>by rw [zero_add]; exact (AS hg).1 j hj),List.take_zero]
theorem WG:Ab prog 20 (Ent.rd1 Mh).F:=by
 refine fcC (kc func48 HZ (kc func53 Hy KnowsL.nil)).knows (Λ:=(Aa [(5,Ir),(8,Iq)])) func20 fun vs bs r hq=>?_
 unfold Ent.F Mh at hq;dsimp only at hq;split at hq
 ·rename_i l;refine ⟨Wp,(T8 l).trans (Eq.trans ?_ hq)⟩
  try dsimp only [shr]
  show _=some _;unfold EI
  cases hg:Au l with
  | false=>rfl
  | true=>
   obtain ⟨_,h1,h2⟩:=AS hg;rw [Bool.not_true,AL,ntN,drop_zero,Vw hg,Ix];have W2:i64.wrap ((l.length:Int)-1)=((l.length-1:Nat):Int):=by rw [An (by omega) (by omega)]; omega
   have hlt:l.length-1<(Bh l []).length:=by rw [Ix]; omega
   rw [Ae (by simp only [anE,dcE]; omega),Ae (by
    rw [anE];refine ⟨dcT ⟨by omega,by omega,by first | trivial | rfl,by first | trivial | rfl,by simp,h2,fun x hx=>?_⟩,by first | rfl | trivial⟩;have:=(List.mem_replicate.1 hx).2;subst this
    exact ⟨Int.le_refl _,Int.le_refl _⟩),W2,Ae (by simp only [anE,dcE]; omega),ntN,zero_add,gtE hlt,Am,cond_true,getD_eq_getElem?_getD,gtE hlt]
   rfl
 ·cases hq
theorem S9 : ∀ n,(∀ m,m<n->Ab prog 54 (Ent.rd1 (OG m)).F)->Ab prog 54 (Ent.rd1 (OG n)).F
 | 0,_=>AQ fun vs bs=>by
  unfold Ent.F OG;dsimp only;split
  ·rename_i ws k;have:(Au ws&&decide (0<=k/\k.toNat<0/\k.toNat<ws.length))=false:=by rw [Bool.and_eq_false_iff]; exact .inr (dcF (by omega))
   rw [this]; rfl
  ·rfl
 | n+1,ihs=>by
  have ih:=ihs n (lt_succ_self n);refine fcC (kc func54 ih KnowsL.nil).knows (Λ:=Aa []) func54 fun vs bs r hq=>?_
  unfold Ent.F OG at hq;dsimp only at hq;split at hq
  ·rename_i ws k;obtain ⟨hc,hx⟩:=Ac hq;rw [anE] at hc;obtain ⟨hg,hc⟩:=hc;obtain ⟨h0,h1,h2⟩:=of_decide_eq_true hc;refine ⟨Aj _,(Qj n ws k).trans (Eq.trans ?_ hx)⟩
   try dsimp only [shr]
   obtain ⟨k,rfl⟩:=eq_ofNat_of_zero_le h0;simp only [ntN] at h1 h2;rw [T2 (by omega),ntN,gtE h2,Am,hg];show _=some _;rw [Nr hg h2];have hw:=(AS hg).1 k h2;have h20:=(AS hg).2.2;obtain ⟨u1,u2,u3⟩:=Ey hw;generalize ws[k]=z at *;simp only [AG];have hd:=fun (a:Int) (ha:a.toNat<ws.length)=>RY hg a.toNat ha
   unfold D2 AJ
   by_cases q : @LT.lt Int _ z.1 6
   ·rw [Ag (dcT q),if_neg (by omega),if_neg (by omega)]; rfl
   ·rw [Ad (dcF q)]
    by_cases q8 : @Eq Int z.1 8
    ·have hA:=u2 q8;have hDA:=hd z.2.2.2.2.1 (by omega);rw [Ae (show (true&&decide _)=true from dcT ⟨by omega,by omega,by omega⟩),q8,show ((8:Int) != 8)=false from rfl,AL,if_neg (by omega),if_pos rfl,An (by omega) (by omega)];show some (V.j _,_)=some (V.j (max 0 _+1),_);rw [show max 0 ((Bh ws []).getD (z.2.2.2.2.1).toNat 0)=(Bh ws []).getD (z.2.2.2.2.1).toNat 0 by omega]
    ·have hA:=u1 (by omega);have hDA:=hd z.2.2.2.2.1 (by omega);have hDB:=hd z.2.2.2.2.2.1 (by omega);rw [Ae (show (true&&decide _)=true from dcT ⟨by omega,by omega,by omega⟩),show (z.1 != 8)=true from by simpa using q8,Be,Ae (show (true&&decide _)=true from dcT ⟨by omega,by omega,by omega⟩),if_pos (by omega)];show _=some (V.j (max (max 0 _) _+1),_)
     by_cases qq:(Bh ws []).getD (z.2.2.2.2.2.1).toNat 0>(Bh ws []).getD (z.2.2.2.2.1).toNat 0
     ·rw [Ag (dcT qq),An (by omega) (by omega),show max (max 0 ((Bh ws []).getD (z.2.2.2.2.1).toNat 0)) ((Bh ws []).getD (z.2.2.2.2.2.1).toNat 0)=(Bh ws []).getD (z.2.2.2.2.2.1).toNat 0 by omega]
     ·rw [Ad (dcF qq),An (by omega) (by omega),show max (max 0 ((Bh ws []).getD (z.2.2.2.2.1).toNat 0)) ((Bh ws []).getD (z.2.2.2.2.2.1).toNat 0)=(Bh ws []).getD (z.2.2.2.2.1).toNat 0 by omega]
  ·cases hq
theorem S8:Ab prog 54 (Ent.rd1 Uy).F:=by
 refine AX (F:=fun n=>(Ent.rd1 (OG n)).F) S9 fun vs bs r h=>?_
 unfold Ent.F Uy at h;dsimp only at h;split at h
 ·rename_i ws k;obtain ⟨hc,hx⟩:=Ac h;refine ⟨k.toNat+1,?_⟩;show (Br.need (Au ws&&decide (0<=k/\k.toNat<k.toNat+1/\k.toNat<ws.length)) (.leaf (.j ((Bh ws []).getD k.toNat 0),[]))).run=some r;rw [anE,dcE] at hc;have:(Au ws&&decide (0<=k/\k.toNat<k.toNat+1/\k.toNat<ws.length))=true:=by rw [anE,dcE]; exact ⟨hc.1,hc.2.1,lt_succ_self _,hc.2.2⟩
  rw [this];exact hx
 ·cases h
theorem W7:Ab prog 21 (Ent.rd1 Mh).F:=by
 refine fcC (kc func51 M7 (kc func54 S8 KnowsL.nil)).knows (Λ:=Aa []) func21 fun vs bs r hq=>?_
 unfold Ent.F Mh at hq;dsimp only at hq;split at hq
 ·rename_i l;refine ⟨Aj _,(Qk l).trans (Eq.trans ?_ hq)⟩
  try dsimp only [shr]
  show _=some _;unfold EI
  cases hg:Au l with
  | false=>rfl
  | true=>
   obtain ⟨_,h1,h2⟩:=AS hg;have W2:i64.wrap ((l.length:Int)-1)=((l.length-1:Nat):Int):=by rw [An (by omega) (by omega)]; omega
   rw [Bool.not_true,AL,W2,ntN,Ae (show (true&&decide _)=true from dcT ⟨by omega,by omega⟩)];rfl
 ·cases hq

def NF (r:V) (outs:List (Option Blk)):Option (V×List (Option Blk)):=
 match (match r with
  | .tup vs=>(C0 (Dl (fun j=>(outs[j]?).join) true 5) vs).map fun p=>V.tup p.1
  | v=>(Dl (fun j=>(outs[j]?).join) true 5 v).map fun p=>p.1) with
 | some v=>some (BN (fun _=>none) 6 v,[])
 | none=>none
theorem OZ {w w':World} {R R':Nat->Prop} {μ μ':Nat->Option RB} {bl:Nat->Option Blk} {r v:V} {outs:List (Option Blk)} {u:Value} (h:Left w R μ bl r outs u w' R' μ') (hm : ∀ j,μ j=none) {ids:List Nat} (hl : ∀ id∈ids,GW (fun j=>(outs[j]?).join) id)
  (hv : ∀ R1:Nat->Prop,(∀ x,R' x->R1 x)->(∀ id∈ids,Fo w' μ' (fun j=>(outs[j]?).join) R1 id)->VRep w' R1 μ' v u) :
  ∃ R1,Left w R μ bl (BN (fun _=>none) 6 v) [] u w' R1 (fun _=>none):=by
 have hs:SimAt ⟨w,EP w bl μ,R,μ,Was w bl μ⟩ R' μ' [] (fun j=>(outs[j]?).join) (fun _=>False) { tmps:=#[],defers:=[] } w':=
  ⟨h.mem,rfl,fun t v u h1 _=>by simp at h1,rfl,fun _ h=>h.elim,h.os,h.tape,h.output,h.grow,fun k h1 h2=>h.same k h1 h2,h.ownT,h.allT,h.r0,h.rT,h.ext⟩
 obtain ⟨R1,g1,g2,g3⟩:=Cq (fun j=>(outs[j]?).join) ids R' _ hs (fun id ro nl c l _ hb=>⟨ro,hb⟩) (fun id cs _ hb=>.inl hb) (fun id c l op hi hb=>by
  rcases hl id hi with ⟨ro,nl,c2,l2,hb2⟩ | ⟨cs,hb2⟩ | ⟨c2,l2,hb2⟩
  ·cases hb.symm.trans hb2
  ·cases hb.symm.trans hb2
  ·cases hb.symm.trans hb2; exact ⟨rfl,.inl hb⟩)
 have hval:=hv R1 g2 (fun id hi=>g3 id hi (fun kc vc l e=>by
  rcases hl id hi with ⟨ro,nl,c2,l2,hb2⟩ | ⟨cs,hb2⟩ | ⟨c2,l2,hb2⟩<;>cases e.symm.trans hb2))
 have no : ∀ j:Nat,(([]:List (Option Blk))[j]?).join=none:=fun j=>by simp
 refine ⟨R1,⟨BT (fun id j rb e _=>by cases e) 6 v u hval,⟨fun id B hB=>?_,fun id id' B B' rb rb' x h1=>?_,fun id B rb x h1=>?_,g1.mem.rlt⟩,h.os,h.tape,h.output,h.grow,h.same,fun x hx=>g1.r0 x hx,fun x hx=>g1.rT x hx,fun j B rb x h1=>?_,fun j B rb x h1=>?_,fun j rb hj=>?_,fun _ _=>rfl⟩⟩
 ·rw [no] at hB; cases hB
 ·rw [no] at h1; cases h1
 ·rw [no] at h1; cases h1
 ·rw [no] at h1; cases h1
 ·rw [no] at h1; cases h1
 ·rw [hm] at hj; cases hj
theorem Fn {P:Program} {K:FuncId} {F F':List V->List Blk->Option (V×List (Option Blk))} (h:Ab P K F) (hF : ∀ vs bs r,F' vs bs=some r->bs=[]/\∃ p,F vs []=some p/\NF p.1 p.2=some r):Ab P K F':=by
 intro w R μ vs us bs r outs hm hn hr hF1;obtain ⟨rfl,⟨r0,outs0⟩,h1,h2⟩:=hF vs bs _ hF1;refine (h w R μ vs us [] r0 outs0 hm hn hr h1).mono fun e w' ⟨u,R',μ',he,hl⟩=>?_
 unfold NF at h2;dsimp only at h2
 have key : ∀ (v:V) (ids:List Nat),(∀ id∈ids,GW (fun j=>(outs0[j]?).join) id)->(∀ R1:Nat->Prop,(∀ x,R' x->R1 x)->(∀ id∈ids,Fo w' μ' (fun j=>(outs0[j]?).join) R1 id)->VRep w' R1 μ' v u)->some (BN (fun _=>none) 6 v,([]:List (Option Blk)))=some (r,outs)->∃ u R' μ',e = .returned u/\Left w R μ (fun j=>([]:List Blk)[j]?) r outs u w' R' μ':=fun v ids a1 a2 a3=>by
  obtain ⟨R1,g⟩:=OZ hl (fun j=>hn j (zero_le _)) a1 a2;simp only [Option.some.injEq,Prod.mk.injEq] at a3;obtain ⟨rfl,rfl⟩:=a3;exact ⟨u,R1,_,he,g⟩
 clear hF1;split at h2
 ·rename_i v hv;split at hv
  ·rename_i vs0 _;obtain ⟨⟨l,ids⟩,k1,k2⟩:=Option.map_eq_some_iff.1 hv;dsimp only at k2;subst k2;refine key _ ids (Ep vs0 l ids k1) (fun R1 b1 b2=>?_) h2;have hval:=hl.val
   cases hval with
   | tup _ us' c1 c2=>
   have:=BP (w:=w') (R:=R') (R':=R1) (μ:=μ') (fun v v' ids u hv hf hi=>C8 hl.mem b1 5 v v' ids u hv hf hi) vs0 l ids us'.toList ⟨by simp [c1],fun j v u hv hu=>c2 j v u hv (by simpa using hu)⟩ k1 b2;exact .tup l us' (by have:=this.1; simpa using this) (fun j v u hv hu=>this.2 j v u hv (by simpa using hu))
  ·obtain ⟨⟨v1,ids⟩,k1,k2⟩:=Option.map_eq_some_iff.1 hv;dsimp only at k2;subst k2;exact key _ ids (CM 5 r0 v1 ids k1) (fun R1 b1 b2=>C8 hl.mem b1 5 r0 v1 ids u hl.val k1 b2) h2
 ·cases h2
def MY:Gm
 | [.agg [.sl TCd l]],[]=>.need (decide (l.length<=4000000000)&&nmL l) (.br (Bd l) (.leaf (.tp LCd (kf l 0).1 0,[])) (.leaf (.np,[])))
 | _,_=>.no
theorem OC (a:Int) (b:By) (c:Int) (d:Bool) (e:Int) (ks:RL):NF (.ptr 0 0) [some (.box [.j a,.s b,.j c,.b d,.j e,.ref 1 0 ks.length]),R0 (.tree LCd) ks]=some (.tp LCd (.node (a,b,c,d,e,()) ((ks.drop 0).take ks.length)) 0,[]):=by kernel_rfl
theorem VX:Ab prog 29 (Ent.rd1 MY).F:=by
 refine Fn US fun vs bs r hq=>?_
 unfold Ent.F MY at hq;dsimp only at hq;split at hq
 ·rename_i l;obtain ⟨hc,hx⟩:=Ac hq;refine ⟨rfl,?_⟩;unfold Ent.F Kp;dsimp only;rw [hc]
  cases hk:Bd l with
  | true=>
   rw [hk] at hx;refine ⟨_,rfl,?_⟩;dsimp only;generalize (kf l 0).1=z at *;obtain ⟨⟨a,b,c,d,e,⟨⟩⟩,ks⟩:=z;refine (OC a b c d e ks).trans ?_;rw [drop_zero,take_length];exact hx
  | false=>
   rw [hk] at hx;refine ⟨_,rfl,?_⟩;exact hx
 ·cases hq

theorem FL {P:Program} {Γ:FuncId->Option Ent} {Λ:Nat->Option LoopEnt} {m:Nat} {a:Code} {ent:LoopEnt} {α τ:Type} {l:List α} (p:α->Bool) (g:α->τ) (H:List τ->Nat->Dt) (ex:List τ->Ex×Dt) (hex : ∀ o,(ex o).1≠.normal)
  (hr : ∀ o n (h:n<l.length),o.length<=n->As P Γ Λ m a ent (H o n)=some (.normal,H (bif p l[n] then o++[g l[n]] else o) (n+1)))
  (he : ∀ o,o.length<=l.length->As P Γ Λ m a ent (H o l.length)=some (ex o)) : ∀ (j n:Nat) (o:List τ),n+j=l.length->o.length<=n->Runs P Γ Λ m a ent (H o n) (ex (o++((l.drop n).filter p).map g)).1 (ex (o++((l.drop n).filter p).map g)).2
 | 0,n,o,hn,ho=>by
  have h3:n=l.length:=by omega
  subst h3;rw [drop_eq_nil_of_le (Nat.le_refl _),List.filter_nil,List.map_nil,append_nil];exact .stop _ _ _ (he o ho) (hex o)
 | j+1,n,o,hn,ho=>by
  have h1:n<l.length:=by omega
  have h2:=hr o n h1 ho;rw [drop_eq_getElem_cons h1,List.filter_cons]
  cases hp:p l[n] with
  | true=>
   rw [hp,cond_true] at h2;have ih:=FL p g H ex hex hr he j (n+1) (o++[g l[n]]) (by omega) (by simp; omega);rw [append_assoc] at ih;exact sts h2 ih
  | false=>
   rw [hp,cond_false] at h2;exact sts h2 (FL p g H ex hex hr he j (n+1) o (by omega) (by omega))


end Go.Proofs.YtckmoiopjocapaaGreat.Den
