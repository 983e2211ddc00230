/- What functions of the program do, by the machine: Ln2 Fw3 Eq Same Fw6 Ln3 Ln4 Ln5 DrS Dr1 Dr2 Dr3 Dr4 Dr5 Dr6 DrR Ln6 Srf Ln8 Ln7 LLn. -/
import Derived.Test.YtiflknahhbkneaaDA
import Derived.KernelRfl
import Derived.Test.YtiflknahhbkneaaRows
import Derived.Shelf.SlSortCmp.WholeK
import Derived.Shelf.SlSortCmp.NoneTotal
import Derived.Shelf.SlicesG.Cmp
import Derived.WalkKit
import Derived.Lib.Small
open Go.IntKind (i64)
open Go.Proofs.Try
open List (all_eq_true append_assoc append_nil drop drop_eq_getElem_cons drop_eq_nil_of_le drop_zero filter foldl length_append length_cons length_drop length_map length_nil length_set length_take map_id_fun mem_cons mem_cons_self mem_map nil_append pairwise_map range take take_length take_of_length_le)
open Int (eq_ofNat_of_zero_le)
open Nat (le_trans sub_zero zero_le)
open Option (getD_some isSome_some map_some)
namespace Go.Proofs.Ytiflknahhbkneaa.Den
open Go.Proofs
set_option maxRecDepth 100000
def GS:Gm
 | [.ref 0 0 m,.agg [.j f0,.j f1,.j f2,.s f3]],[.row false _ (.int .u8) o]=>.need (decide (m=o.length/\o.length<=10000/\f3.length<=400)&&As (f0,f1,f2,f3,())) (.leaf (.ref 1 0 (o++u8 (fb1 (f0,f1,f2,f3,()))).length,[none,R0 (.int .u8) (o++u8 (fb1 (f0,f1,f2,f3,())))]))
 | _,_=>.no
def H3 (fs:List WFd):Bool:=decide ((fbs fs).length<=400)
def IC:LoopEnt:=⟨23,[4,8,9,10],[4],[2,3],fun
 | ([.ref 0 0 m,.sl FCd fs,.j c,.j i],[R0 (.int .u8) o])=>.need (decide (0<=i/\i.toNat<=fs.length/\c=fs.length/\m=o.length/\fs.length<=1000/\o.length<=400)&&fs.all Bp) (.br (decide (o.length+(fbs (fs.drop i.toNat)).length<=400)) (.leaf (.exit 0,([.ref 0 0 (o++u8 (fbs (fs.drop i.toNat))).length],[R0 (.int .u8) (o++u8 (fbs (fs.drop i.toNat)))]))) (.leaf (.ret,([.s [],.b false],[]))))
 | _=>.no⟩
def N4:Gm
 | [.sl FCd fs],[]=>.need (decide (fs.length<=1000)&&fs.all Bp) (.leaf (.tup [.s (bif H3 fs then fbs fs else []),.b (H3 fs)],[]))
 | _,_=>.no
theorem M0 (m:Nat) (f0 f1 f2:Int) (f3:By) (nl:Option Bool) (o:List Int):Bg prog (Aa [(68,.own Lc),(69,.rd1 KG)]) (Aa []) f46 [.ref 0 0 m,.agg [.j f0,.j f1,.j f2,.s f3]] [.row false nl (.int .u8) o] =
 ((shr (u8 (vbs (↑f3.length:Int).toNat)) fun sh3=>shr (List.map (fun z=>(↑z.toNat:Int)) f3) fun sh2=>shr (o++u8 (vbs (i64.wrap (i64.wrap (8*f0)
 + f1)).toNat)) fun sh1=>ifT (decide (m=o.length/\0<=i64.wrap (i64.wrap (8*f0)+f1)/\i64.wrap (i64.wrap (8*f0)+f1)<=
 (1000000000000:Int)/\o.length<=1000000)) (ifB (f1==0) (ifT (decide ((-1000000000000:Int)<=f2/\f2<=1000000000000)) (ifT (decide (sh1.length=sh1.length
 /\ (0:Int)<=fol f2/\fol f2<=1000000000000/\sh1.length<=1000000)) (some (V.ref 1 0 (sh1++u8 (vbs (fol f2).toNat)).length,[none,R0 (Cd.int .u8) (sh1++u8 (vbs (fol f2).toNat))])))) (ifT (decide (sh1.length=sh1.length/\0<=(↑f3.length:Int)/\(↑f3.length:Int)<=(1000000000000:Int)/\
 sh1.length<=1000000)) (ifT (decide (((sh1++sh3).length+sh2.length)*1<=140737488355328)&&decide ((sh1++sh3).length+sh2.length<=
 maxI)) (some (V.ref 1 0 ((sh1++sh3).length+sh2.length),[none,R0 (Cd.int .u8) (take (sh1++sh3).length (drop 0 (sh1++sh3))
 ++ sh2)])))))):_):=by kernel_rfl
theorem GO (m:Nat) (fs:List WFd) (c i:Int) (o:List Int):A4 prog (Aa [(46,.own GS)]) (Aa [(3,IC)]) 0 (body f23 0) IC ([.ref 0 0 m,.sl FCd fs,.j c,.j i],[R0 (.int .u8) o]) =
 ((ifB (decide (i<c)) (ifT (decide (0<=i)&&decide (i<(↑fs.length:Int))) (Ax fs[i.toNat]? fun z=>shr z.2 fun sh3=>shr sh3.2.2.1 fun sh2=>shr (o++
 u8 (fb1 (z.1,sh3.1,sh3.2.1,sh2,()))) fun sh1=>ifT (decide (m=o.length/\o.length<=10000/\List.length sh2<=400)&&As (z.1,
 sh3.1,sh3.2.1,sh2,())) (ifB (decide ((↑sh1.length:Int)>(400:Int))) (some (Ex.ret,[V.s (An UInt8),V.b false],[])) (some (Ex.normal,[V.ref 0 0
 sh1.length,V.sl FCd fs,V.j c,V.j (i64.wrap (i+1))],[R0 (Cd.int .u8) sh1]))))) (some (Ex.exit 0,[V.ref 0 0 m],[R0 (Cd.int .u8) o]))):_):=by kernel_rfl
theorem My (fs:List WFd):Bg prog (Aa [(46,.own GS)]) (Aa [(3,IC)]) f23 [.sl FCd fs] [] =
 ((shr (An (Cd.int .u8).den++u8 (fbs (drop 0 fs))) fun sh1=>ifT (decide ((0:Int)<=(0:Int)/\0<=fs.length/\(↑fs.length:Int)=(↑fs.length :
 Int)/\0=0/\fs.length<=1000/\0<=400)&&fs.all Bp) (ifB (decide (0+(fbs (drop 0 fs)).length<=(400
 : Nat))) (some (V.tup [V.s (List.map (fun n=>UInt8.ofNat n.toNat) (take sh1.length (drop 0 sh1))),V.b true],[])) (some (V.tup [V.s (An UInt8),V.b
 false],[])))):_):=by kernel_rfl
theorem Ok (a:By):(u8 a).map (fun n:Int=>UInt8.ofNat n.toNat)=a:=by
 unfold u8
 rw [List.map_map]
 have:((fun n:Int=>UInt8.ofNat n.toNat) ∘ fun z:UInt8=>((z.toNat:Nat):Int))=id:=by
  funext z
  show UInt8.ofNat ((z.toNat:Nat):Int).toNat=z
  rw [ntN,UInt8.ofNat_toNat]
 rw [this,List.map_id]
theorem PC:Ag prog 46 (Ent.own GS).F:=by
 refine fcC (kc func68 PB (kc func69 PU KnowsL.nil)).knows (Λ:=Aa []) func46 fun vs bs r hq=>?_
 unfold Ent.F GS at hq
 dsimp only at hq
 split at hq
 ·rename_i m f0 f1 f2 f3 nl o
  obtain ⟨hc,hx⟩:=Af hq
  rw [anE] at hc
  obtain ⟨hc,hf⟩:=hc
  obtain ⟨rfl,k2,k3⟩:=of_decide_eq_true hc
  refine ⟨Am _,(M0 o.length f0 f1 f2 f3 nl o).trans (Eq.trans ?_ hx)⟩
  dsimp only [shr]
  obtain ⟨⟨g1,g2⟩,g3⟩:=Bs hf
  have g1:1<=f0:=g1
  have g2:f0<=30:=g2
  have hk:f1=0/\(-1000000000<=f2/\f2<=1000000000)\/f1=2:=by
   unfold As at hf
   rw [anE] at hf
   have h2:=hf.2
   split at h2
   ·rename_i q
    rw [anE] at h2
    refine .inl ⟨q,?_⟩
    have:=h2.1
    unfold CA at this
    simpa using this
   ·split at h2
    ·rename_i q; exact .inr q
    ·cases h2
  have hF:0<=f1/\f1<=2:=by omega
  rw [show i64.wrap (i64.wrap (8*f0)+f1)=8*f0+f1 by rw [Ak (n:=8*f0) (by omega) (by omega),Ak (by omega) (by omega)]]
  have hl1:=Lb (8*f0+f1).toNat
  have hl2:(o++u8 (vbs (8*f0+f1).toNat)).length<=1000000:=by rw [length_append,Hk]; omega
  rw [Ad (dcT ⟨by first | trivial | rfl,by omega,by omega,by omega⟩)]
  have fe:fb1 (f0,f1,f2,f3,())=vbs (8*f0+f1).toNat++(if f1=0 then vbs (fol f2).toNat else vbs f3.length++f3):=rfl
  rcases hk with ⟨rfl,n1,n2⟩ | rfl
  ·have hfo:0<=fol f2/\fol f2<=1000000000000:=by unfold fol; split<;>omega
   rw [show ((0:Int)==0)=true from rfl,BT,Ad (dcT ⟨by omega,by omega⟩),Ad (dcT ⟨by first | trivial | rfl,hfo.1,hfo.2,hl2⟩)]
   rw [fe,if_pos rfl,Fv,<-append_assoc]
   rfl
  ·have hl3:=Lb f3.length
   rw [show ((2:Int)==0)=false from rfl,AI,Ad (dcT ⟨by first | trivial | rfl,by omega,by omega,hl2⟩),Ad (by
    simp only [anE,dcE,length_append,Hk,length_map,ntN] at *
    unfold maxI; omega)]
   rw [drop_zero,take_length,ntN,fe,if_neg (by omega),Fv,Fv]
   have e3:u8 f3=f3.map (fun z=>((z.toNat:Nat):Int)):=rfl
   rw [<-e3]
   simp only [append_assoc,length_append]
   first | rfl | (congr 3; omega) | (simp only [Nat.add_assoc]; rfl)
 ·cases hq
theorem IB (fs:List WFd) (hf:fs.length<=1000) (ha:fs.all Bp=true) : ∀ (j i:Nat) (o:List Int),i+j=fs.length->o.length<=400->∀ e d',(Br.br (decide (o.length+(fbs (fs.drop i)).length<=400)) (.leaf (.exit 0,([.ref 0 0 (o++u8 (fbs (fs.drop i))).length],[R0 (.int .u8) (o++u8 (fbs (fs.drop i)))]))) (.leaf (.ret,([.s [],.b false],[]))):Br (Ex×Dt)).run=some (e,d')->Runs prog (Aa [(46,.own GS)]) (Aa [(3,IC)]) 0 (body f23 0) IC ([.ref 0 0 o.length,.sl FCd fs,.j (fs.length:Int),.j (i:Int)],[R0 (.int .u8) o]) e d'
 | 0,i,o,hi,ho,e,d',h=>by
  have hr:=GO o.length fs fs.length i o
  try dsimp only [shr] at hr
  rw [Ae (dcF (by omega))] at hr
  rw [drop_eq_nil_of_le (by omega),show fbs []=[] from rfl,show u8 []=[] from rfl,append_nil,length_nil,Nat.add_zero,dcT ho] at h
  have h8:=A8 (show (Br.leaf (.exit 0,([.ref 0 0 o.length],[R0 (.int .u8) o])):Br (Ex×Dt)).run=some (e,d') from h)
  obtain ⟨rfl,rfl⟩:=Prod.mk.inj h8
  exact stp hr
 | j+1,i,o,hi,ho,e,d',h=>by
  have hl:i<fs.length:=by omega
  have hr:=GO o.length fs fs.length i o
  try dsimp only [shr] at hr
  have w1:i64.wrap ((i:Int)+1)=((i+1:Nat):Int):=by rw [Ak (by omega) (by omega)]; omega
  have hfi:=all_eq_true.1 ha _ (List.getElem_mem hl)
  unfold Bp at hfi
  rw [anE,dcE] at hfi
  rw [Ah (dcT (by omega)),T2 (by omega),ntN,gtE hl,A7,w1] at hr
  have eta:((fs[i].1,fs[i].2.1,fs[i].2.2.1,fs[i].2.2.2.1,()):WFd)=fs[i]:=rfl
  rw [eta,hfi.1,Bool.and_true,Ad (dcT ⟨by first | trivial | rfl,by omega,hfi.2⟩)] at hr
  rw [drop_eq_getElem_cons hl,B7,Fv,<-append_assoc,length_append,<-Nat.add_assoc] at h
  have hlen:(o++u8 (fb1 fs[i])).length=o.length+(fb1 fs[i]).length:=by rw [length_append,Hk]
  by_cases q:(o++u8 (fb1 fs[i])).length<=400
  ·rw [Ae (dcF (by omega))] at hr
   rw [<-hlen] at h
   exact sts hr (IB fs hf ha j (i+1) _ (by omega) q e d' h)
  ·rw [Ah (dcT (by omega)),A9] at hr
   rw [dcF (by omega)] at h
   have h8:=A8 (show (Br.leaf (.ret,([.s [],.b false],[])):Br (Ex×Dt)).run=some (e,d') from h)
   obtain ⟨rfl,rfl⟩:=Prod.mk.inj h8
   exact stp hr
theorem OM:Aq prog (Aa [(46,.own GS)]) (Aa [(3,IC)]) 0 (f23.body.getD .skip):=by
 refine Ap (a:=body f23 0) (by kernel_rfl) fun d ex d' h=>?_
 unfold IC at h
 dsimp only at h
 split at h
 ·rename_i m fs c i o
  obtain ⟨hc,hx⟩:=Af h
  rw [anE] at hc
  obtain ⟨hc,ha⟩:=hc
  obtain ⟨k1,k2,k3,k4,k5,k6⟩:=of_decide_eq_true hc
  obtain ⟨j,rfl⟩:=eq_ofNat_of_zero_le k1
  simp only [ntN] at k2 hx
  subst k3 k4
  exact IB fs k5 ha (fs.length-j) j o (by omega) k6 ex d' hx
 ·cases h
theorem fsb:Ag prog 23 (Ent.rd1 N4).F:=by
 refine fcC (kc func46 PC KnowsL.nil).knows (Λ:=(Aa [(3,IC)])) func23 fun vs bs r hq=>?_
 unfold Ent.F N4 at hq
 dsimp only at hq
 split at hq
 ·rename_i fs
  obtain ⟨hc,hx⟩:=Af hq
  rw [anE] at hc
  obtain ⟨hc,ha⟩:=hc
  have hc:=of_decide_eq_true hc
  refine ⟨OM,(My fs).trans (Eq.trans ?_ hx)⟩
  dsimp only [shr]
  rw [ha,Bool.and_true,Ad (dcT ⟨by omega,by omega,by first | trivial | rfl,by first | trivial | rfl,hc,by omega⟩)]
  simp only [A9,drop_zero,nil_append,Nat.zero_add,take_length,Ok]
  unfold H3
  cases decide ((fbs fs).length<=400)<;>rfl
 ·cases hq




def B8:LoopEnt:=⟨26,[0,1,4,12,13],[],[4],fun
 | ([.sl (.int .i64) a,.sl (.int .i64) b,.b _,.j m,.j n],[])=>
  .need (decide (0<=n/\m=a.length/\a.length=b.length/\n.toNat<=a.length/\a.length<=maxI)) (.br (decide (a.drop n.toNat=b.drop n.toNat)) (.leaf (.exit 0,([],[]))) (.leaf (.ret,([.b false],[]))))
 | _=>.no⟩
def DJ:Gm
 | [.sl (.int .i64) a,.sl (.int .i64) b],[]=>.leaf (.b (decide (a=b)),[])
 | _,_=>.no
theorem Dy (a b:List Int) (r:Bool) (n:Nat):A4 prog (Aa []) (Aa [(4,B8)]) 0 (body f13 0) B8 ([.sl (.int .i64) a,.sl (.int .i64) b,.b r,.j (↑a.length:Int),.j n],[]) =
 ((ifB (decide ((↑n:Int)<(↑a.length:Int))) (ifT (decide (0<=(↑n:Int))&&decide ((↑n:Int)<(↑a.length:Int))) (Ax a[((↑n:Int)).toNat]? fun z=>ifT (decide
 (0<=(↑n:Int))&&decide ((↑n:Int)<(↑b.length:Int))) (Ax b[((↑n:Int)).toNat]? fun z_1=>ifB (z != z_1) rF (some (Ex.normal,
 [V.sl (Cd.int .i64) a,V.sl (Cd.int .i64) b,V.b r,V.j (↑a.length:Int),V.j (i64.wrap ((↑n:Int)+(1:Int)))],[]))))) (some (Ex.exit 0,[],[]))):_):=by kernel_rfl
theorem DS {a b:List Int} {r:Bool} (hl:a.length=b.length) (hm:a.length<=maxI) : ∀ (k n:Nat),n+k=a.length->
  Runs prog (Aa []) (Aa [(4,B8)]) 0 (body f13 0) B8 ([.sl (.int .i64) a,.sl (.int .i64) b,.b r,.j (↑a.length:Int),.j n],[]) (if a.drop n=b.drop n then .exit 0 else .ret) (if a.drop n=b.drop n then [] else [.b false],[])
 | 0,n,hn=>by
  have e1:a.drop n=[]:=drop_eq_nil_of_le (by omega)
  have e2:b.drop n=[]:=drop_eq_nil_of_le (by omega)
  refine .stop _ _ _ ((Dy a b r n).trans ?_) (by simp [e1,e2])
  simp [e1,e2,show ¬n<a.length by omega]
 | k+1,n,hn=>by
  have h1:n<a.length:=by omega
  have h2:n<b.length:=by omega
  have hd:(a.drop n=b.drop n)=(a[n]=b[n]/\a.drop (n+1)=b.drop (n+1)):=by rw [drop_eq_getElem_cons h1,drop_eq_getElem_cons h2,List.cons.injEq]
  have hr:=Dy a b r n
  simp only [ntN,gtE h1,gtE h2,AY (n:=n) (by omega)] at hr
  by_cases he:a[n]=b[n]
  ·refine .step _ _ _ (d1:=([.sl (.int .i64) a,.sl (.int .i64) b,.b r,.j (↑a.length:Int),.j ((n+1:Nat):Int)],[])) (hr.trans (by simp [h1,h2,he])) ?_
   simp only [hd,he,true_and]
   exact DS hl hm k (n+1) (by omega)
  ·exact .stop _ _ _ (hr.trans (by simp [h1,h2,hd,he])) (by simp [hd,he])
theorem Ij:Aq prog (Aa []) (Aa [(4,B8)]) 0 (f13.body.getD .skip):=by
 refine Ap (a:=body f13 0) (by kernel_rfl) fun d e d' h=>?_
 unfold B8 at h
 dsimp only at h
 split at h
 ·rename_i a b r m n
  obtain ⟨hc,h⟩:=Af h
  have hc:=of_decide_eq_true hc
  obtain ⟨n,rfl⟩:=eq_ofNat_of_zero_le hc.1
  have:=DS (r:=r) hc.2.2.1 hc.2.2.2.2 _ n (Nat.add_sub_of_le hc.2.2.2.1)
  rw [<-hc.2.1] at this
  rcases Ko h with ⟨h1,h⟩ | ⟨h1,h⟩
  ·have h1:=of_decide_eq_true h1
   simp only [ntN] at h1 h
   cases h
   rw [if_pos h1,if_pos h1] at this; exact this
  ·have h1:=of_decide_eq_false h1
   simp only [ntN] at h1 h
   cases h
   rw [if_neg h1,if_neg h1] at this; exact this
 ·cases h
theorem Hq (a b:List Int) (hm:a.length<=maxI):AL prog (Aa []) (Aa [(4,B8)]) f13 [.sl (.int .i64) a,.sl (.int .i64) b] []=some (.b (decide (a=b)),[]):=by
 have e:AL prog (Aa []) (Aa [(4,B8)]) f13 [.sl (.int .i64) a,.sl (.int .i64) b] [] =
  ((ifB ((↑a.length:Int) != (↑b.length:Int)) nF (ifT (decide ((0:Int)<=(0:Int)/\(↑a.length:Int)=(↑a.length:Int)/\a.length=b.length/\(0
 : Nat)<=a.length/\a.length<=maxI)) (ifB (decide (drop 0 a=drop 0 b)) (some (V.b true,[])) nF))):_):=by kernel_rfl
 rw [e]
 by_cases h1:a.length=b.length
 ·by_cases h2:a=b<;>simp [h1,h2,show b.length<=maxI by omega]
 ·have h2:a≠b:=fun e=>h1 (by rw [e])
  simp [h1,h2]
theorem L5:Ag prog 13 (Ent.rd1 DJ).F:=by
 refine BI KnowsL.nil.knows (Λ:=(Aa [(4,B8)])) func13 (c:=f13.body.getD .skip) (by kernel_rfl) fun vs bs r h hv hb=>?_
 unfold Ent.F DJ at h
 dsimp only at h
 split at h
 ·rename_i a b
  exact ⟨Ij,(Hq a b (hv (.sl (.int .i64) a) (by simp)).1).trans (by cases h; rfl)⟩
 ·cases h
def FX:Gm
 | [.sl (.int .i64) l,.j x],[]=>.leaf (.b (decide (x∈l)),[])
 | _,_=>.no
def FK:LoopEnt:=⟨17,[1,7,8,9],[],[4],fun
 | ([.j x,.sl (.int .i64) l,.j m,.j i],[])=>.need (decide (0<=i/\m=l.length/\i.toNat<=l.length/\l.length<=maxI)) (.br ((l.drop i.toNat).all fun z=>!(z==x)) (.leaf (.exit 0,([],[]))) (.leaf (.ret,([.b true],[]))))
 | _=>.no⟩
def KB:LoopEnt:=⟨29,[0,5,6,7],[],[2],fun
 | ([.sl (.int .i64) ns,.sl (.int .i64) ns2,.j c,.j i],[])=>.need (decide (0<=i/\i.toNat<=ns.length/\c=ns.length/\ns.length<=maxI/\ns2=ns)) (.br (((range ns.length).drop i.toNat).all (fun i=>decide (1<=ns.getD i 0/\ns.getD i 0<=30)&&Bv ns i)) (.leaf (.exit 0,([],[]))) (.leaf (.ret,([.b false],[]))))
 | _=>.no⟩
def Me:Gm
 | [.sl (.int .i64) ns],[]=>.leaf (.b (AP ns),[])
 | _,_=>.no
def I2:LoopEnt:=⟨28,[1,2,7,10,11,12],[7],[],fun
 | ([.sl (.int .i64) ns,.b true,.ref 0 0 m,.sl FCd fs,.j c,.j i],[R0 FCd o])=>.need (decide (0<=i/\i.toNat<=fs.length/\c=fs.length/\m=o.length/\fs.length<=100000/\o.length<=i.toNat)) (.leaf (.exit 0,([.ref 0 0 (o++AV (fs.drop i.toNat) ns).length],[R0 FCd (o++AV (fs.drop i.toNat) ns)])))
 | _=>.no⟩
def OA:Gm
 | [.sl FCd fs,.sl (.int .i64) ns,.b true],[]=>.need (decide (fs.length<=100000)) (.leaf (.ref 0 0 (AV fs ns).length,[R0 FCd (AV fs ns)]))
 | _,_=>.no
def vwG:Gm
 | [.s s,.sl (.int .i64) ns],[]=>.need (decide (s.length<=4000000000)) (.leaf (.tup [.s (vwL s ns),.b (vwB s ns)],[]))
 | _,_=>.no
theorem FJ (x:Int) (l:List Int) (m i:Int):A4 prog (Aa []) (Aa [(2,FK)]) 0 (body f34 0) FK ([.j x,.sl (.int .i64) l,.j m,.j i],[]) =
 ((ifB (decide (i<m)) (ifT (decide (0<=i)&&decide (i<(↑l.length:Int))) (Ax l[i.toNat]? fun z=>ifB (z==x) (some (Ex.ret,[V.b true],[])) (some (Ex.normal,
 [V.j x,V.sl (Cd.int .i64) l,V.j m,V.j (i64.wrap (i+1))],[])))) (some (Ex.exit 0,[],[]))):_):=by kernel_rfl
theorem Nx:Aq prog (Aa []) (Aa [(2,FK)]) 0 (f34.body.getD .skip):=by
 refine Ap (a:=body f34 0) (by kernel_rfl) fun d e d' h=>?_
 unfold FK at h
 dsimp only at h
 split at h
 ·rename_i x l m i
  obtain ⟨hc,hx⟩:=Af h
  clear h
  obtain ⟨h0,rfl,h2,h3⟩:=of_decide_eq_true hc
  obtain ⟨i,rfl⟩:=eq_ofNat_of_zero_le h0
  rw [ntN] at h2 hx
  refine Es (l:=l) (fun z=>!(z==x)) (fun i=>([.j x,.sl (.int .i64) l,.j (↑l.length:Int),.j (i:Int)],[])) (ex:=(.exit 0,([],[]))) (rt:=(.ret,([.b true],[]))) (by simp) (by simp) (fun i hi=>?_) ?_ (l.length-i) i (by omega) e d' hx
  ·have hr:=FJ x l l.length i
   rw [Ah (dcT (by omega)),T2 (by omega),ntN,gtE hi,A7] at hr
   refine hr.trans ?_
   by_cases hz:l[i]=x
   ·rw [Ah (by simpa using hz)]; simp [hz]
   ·rw [Ae (by simpa using hz),AY (by omega)]; simp only [beq_false_of_ne hz,Bool.not_false,cond_true]
  ·have hr:=FJ x l l.length l.length
   rw [Ae (dcF (by omega))] at hr
   exact hr
 ·cases h
theorem Mh (l:List Int) (x:Int) (hm:l.length<=maxI):AL prog (Aa []) (Aa [(2,FK)]) f34 [.sl (.int .i64) l,.j x] []=some (.b (decide (x∈l)),[]):=by
 have e:AL prog (Aa []) (Aa [(2,FK)]) f34 [.sl (.int .i64) l,.j x] []=((ifT (decide ((0:Int)<=(0:Int)/\(↑l.length:Int)=(↑l.length:Int)/\0<=l.length/\l.length<=maxI)) (ifB ((drop 0 l).all fun z=>!z==x)
 nF (some (V.b true,[])))):_):=by kernel_rfl
 rw [e]
 clear e
 rw [Ad (dcT ⟨by omega,by trivial,by omega,hm⟩)]
 simp only [drop_zero]
 by_cases h:x∈l
 ·rw [Ae (by rw [List.all_eq_false]; exact ⟨x,h,by simp⟩),dcT h]
 ·rw [Ah (by rw [all_eq_true]; intro z hz; simp; intro e; exact h (e ▸ hz)),dcF h]
theorem OG:Ag prog 34 (Ent.rd1 FX).F:=by
 refine BI KnowsL.nil.knows (Λ:=Aa [(2,FK)]) func34 (c:=f34.body.getD .skip) (by kernel_rfl) fun vs bs r' hq hv hb=>?_
 unfold Ent.F FX at hq
 dsimp only at hq
 split at hq
 ·rename_i l x
  exact ⟨Nx,(Mh l x (hv (.sl (.int .i64) l) (by simp)).1).trans (by cases hq; rfl)⟩
 ·cases hq
theorem GK (ns:List Int) (c i:Int):A4 prog (Aa [(48,.rd1 AT)]) (Aa [(2,KB)]) 0 (body f26 0) KB ([.sl (.int .i64) ns,.sl (.int .i64) ns,.j c,.j i],[]) =
 ((ifB (decide (i<c)) (ifT (decide (0<=i)&&decide (i<(↑ns.length:Int))) (Ax ns[i.toNat]? fun z=>ifB (!decide ((1:Int)<=z/\z<=(30:Int))) rF (ifB (decide (i>0)) (ifT (decide (0<=i64.wrap (i-1))&&decide (i64.wrap (i-1)<(↑ns.length:Int))) (Ax
 ns[(i64.wrap (i-1)).toNat]? fun z_1=>ifB (decide (z_1>=z)) rF (some (Ex.normal,[V.sl (Cd.int .i64) ns,V.sl (Cd.int .i64) ns,
 V.j c,V.j (i64.wrap (i+1))],[])))) (some (Ex.normal,[V.sl (Cd.int .i64) ns,V.sl (Cd.int .i64) ns,V.j c,V.j (i64.wrap (i +
 1))],[]))))) (some (Ex.exit 0,[],[]))):_):=by kernel_rfl
theorem Md (ns:List Int):Bg prog (Aa [(48,.rd1 AT)]) (Aa [(2,KB)]) f26 [.sl (.int .i64) ns] [] =
 ((ifT (decide ((0:Int)<=(0:Int)/\0<=ns.length/\(↑ns.length:Int)=(↑ns.length:Int)/\ns.length<=maxI/\ns=ns)) (ifB ((drop 0 (range
 ns.length)).all fun i=>decide ((1:(Cd.int .i64).den)<=ns.getD i (0:(Cd.int .i64).den)/\ns.getD i (0:(Cd.int .i64).den)<=(30:(Cd.int .i64).den))&&Bv ns
 i) (some (V.b true,[])) nF)):_):=by kernel_rfl
theorem GJ (ns:List Int) (m:Nat) (fs:List WFd) (c i:Int) (o:List WFd):A4 prog (Aa [(34,.rd1 FX)]) (Aa [(3,I2)]) 0 (body f27 0) I2 ([.sl (.int .i64) ns,.b true,.ref 0 0 m,.sl FCd fs,.j c,.j i],[R0 FCd o]) =
 ((ifB (decide (i<c)) (ifT (decide (0<=i)&&decide (i<(↑fs.length:Int))) (Ax fs[i.toNat]? fun z=>ifB (decide (z.1∈ns)==true) (ifT (decide ((m+1)
 * 40<=140737488355328)&&decide (m+1<=maxI)) (some (Ex.normal,[V.sl (Cd.int .i64) ns,V.b true,V.ref 0 0 (m+1),V.sl FCd fs,V.i
 .i64 c,V.j (i64.wrap (i+1))],[R0 FCd (take m (drop 0 o)++(z.1,z.2.1,z.2.2.1,z.2.2.2.1,
 ())::An FCd.den)]))) (some (Ex.normal,[V.sl (Cd.int .i64) ns,V.b true,V.ref 0 0 m,V.sl FCd fs,V.j c,V.j (i64.wrap (i+1))],[R0 FCd o])))) (some (Ex.exit 0,[V.ref 0 0 m],[R0 FCd o]))):_):=by kernel_rfl
theorem Mc (fs:List WFd) (ns:List Int):Bg prog (Aa [(34,.rd1 FX)]) (Aa [(3,I2)]) f27 [.sl FCd fs,.sl (.int .i64) ns,.b true] [] =
 ((shr (An FCd.den++AV (drop 0 fs) ns) fun sh1=>ifT (decide ((0:Int)<=(0:Int)/\0<=fs.length/\(↑fs.length:Int)=(↑fs.length:Int)/\
 0=0/\fs.length<=100000/\0<=0)) (some (V.ref 0 0 sh1.length,[R0 FCd sh1]))):_):=by kernel_rfl
theorem MV (s:By) (ns:List Int):Bg prog (Aa [(25,.rd1 JM),(26,.rd1 Me),(27,.rd1 OA),(29,.rd1 NA)]) (Aa []) f9 [.s s,.sl (.int .i64) ns] [] =
 ((shr (take ((AR s).getD (An WFd)).length (drop 0 ((AR s).getD (An WFd)))) fun sh1=>ifT (decide (s.length<=4000000000)) (ifB (!(AR
 s).isSome) (some (V.tup [V.s (An UInt8),V.b false],[])) (ifB (!AP ns) (some (V.tup [V.s (An UInt8),V.b false],[])) (ifT (decide (sh1.length<=100000))
 (ifT (decide ((take (AV sh1 ns).length (drop 0 (AV sh1 ns))).length<=100000)&&(take (AV sh1 ns).length (drop 0
 (AV sh1 ns))).all BV) (some (V.tup [V.s (fbs (take (AV sh1 ns).length (drop 0 (AV sh1 ns)))),V.b true],[]))))))):_):=by kernel_rfl
theorem OB:Aq prog (Aa [(48,.rd1 AT)]) (Aa [(2,KB)]) 0 (f26.body.getD .skip):=by
 refine Ap (a:=body f26 0) (by kernel_rfl) fun d ex d' h=>?_
 unfold KB at h
 dsimp only at h
 split at h
 ·rename_i ns ns2 c i
  obtain ⟨hc,hx⟩:=Af h
  obtain ⟨k1,k2,k3,k4,k5⟩:=of_decide_eq_true hc
  obtain ⟨j,rfl⟩:=eq_ofNat_of_zero_le k1
  simp only [ntN] at k2 hx
  subst k3 k5
  refine Es (l:=range ns2.length) (ex:=((.exit 0:Ex),([],[]))) (rt:=((.ret:Ex),([.b false],[]))) (fun i=>decide (1<=ns2.getD i 0/\ns2.getD i 0<=30)&&Bv ns2 i) (fun j=>([.sl (.int .i64) ns2,.sl (.int .i64) ns2,.j (ns2.length:Int),.j (j:Int)],[])) (by simp) (by simp) (fun n hn=>?_) ?_ (ns2.length-j) j (by rw [List.length_range]; omega) ex d' hx
  ·have hn:n<ns2.length:=by simpa using hn
   unfold maxI at k4
   rw [List.getElem_range,GK]
   have w1:i64.wrap ((n:Int)+1)=((n+1:Nat):Int):=by rw [Ak (by omega) (by omega)]; omega
   have g0:ns2.getD n 0=ns2[n]:=by rw [List.getD_eq_getElem?_getD,gtE hn]; rfl
   rw [Ah (dcT (by omega)),T2 (by omega),ntN,gtE hn,A7,w1,g0]
   unfold Bv
   by_cases q:1<=ns2[n]/\ns2[n]<=30
   ·rw [dcT q,Bool.not_true,AI,Bool.true_and]
    cases n with
    | zero=>rw [Ae (dcF (by omega))]; rfl
    | succ n=>
     have w2:i64.wrap (((n+1:Nat):Int)-1)=(n:Int):=by rw [Ak (by omega) (by omega)]; omega
     have g1:ns2.getD n 0=ns2[n]:=by rw [List.getD_eq_getElem?_getD,gtE (by omega)]; rfl
     rw [Ah (dcT (by omega)),w2,T2 (by omega),ntN,gtE (by omega),A7,Nat.add_sub_cancel,g0,g1]
     by_cases q2:ns2[n]>=ns2[n+1]
     ·rw [Ah (dcT q2),dcF (Int.not_lt.2 q2)]; rfl
     ·rw [Ae (dcF q2),dcT (Int.not_le.1 q2)]; rfl
   ·rw [dcF q]; rfl
  ·have hr:=GK ns2 ns2.length ns2.length
   rw [Ae (dcF (by omega))] at hr
   rw [List.length_range]
   exact hr
 ·cases h
theorem l5n:Ag prog 26 (Ent.rd1 Me).F:=by
 refine C5 (kc func48 OF KnowsL.nil).knows (Λ:=(Aa [(2,KB)])) func26 (c:=f26.body.getD .skip) (by kernel_rfl) fun vs bs r hq hv hb=>?_
 unfold Ent.F Me at hq
 dsimp only at hq
 split at hq
 ·rename_i ns
  have hm:ns.length<=maxI:=(hv (.sl (.int .i64) ns) (by simp)).1
  refine ⟨OB,(Md ns).trans (Eq.trans ?_ hq)⟩
  rw [Ad (dcT ⟨by omega,by omega,by first | trivial | rfl,hm,by first | trivial | rfl⟩),drop_zero]
  have e:AP ns=(range ns.length).all (fun i=>decide (1<=ns.getD i 0/\ns.getD i 0<=30)&&Bv ns i):=by
   unfold AP Fc
   rw [Bool.eq_iff_iff,anE,all_eq_true,all_eq_true,all_eq_true]
   have gd : ∀ (i:Nat) (h:i<ns.length),ns.getD i 0=ns[i]:=fun i h=>by rw [List.getD_eq_getElem?_getD,gtE h]; rfl
   constructor
   ·rintro ⟨a1,a2⟩ i hi
    have hi':=List.mem_range.1 hi
    rw [anE]
    refine ⟨?_,a2 i hi⟩
    rw [gd i hi']
    exact a1 _ (List.getElem_mem hi')
   ·intro a
    refine ⟨fun x hx=>?_,fun i hi=>?_⟩
    ·obtain ⟨i,hi,rfl⟩:=List.getElem_of_mem hx
     have:=a i (List.mem_range.2 hi)
     rw [anE,gd i hi] at this
     exact this.1
    ·have:=a i hi
     rw [anE] at this
     exact this.2
  show _=some _
  rw [e]
  cases (range ns.length).all (fun i=>decide (1<=ns.getD i 0/\ns.getD i 0<=30)&&Bv ns i)<;>rfl
 ·cases hq
theorem O8 (ns:List Int) (fs:List WFd) (hf:fs.length<=100000) (o:List WFd) (n:Nat) (h:n<fs.length) (ho:o.length<=n):A4 prog (Aa [(34,.rd1 FX)]) (Aa [(3,I2)]) 0 (body f27 0) I2 ([.sl (.int .i64) ns,.b true,.ref 0 0 o.length,.sl FCd fs,.j (fs.length:Int),.j (n:Int)],[R0 FCd o])=some ((.normal:Ex),(fun (o:List WFd) (n:Nat)=>(([.sl (.int .i64) ns,.b true,.ref 0 0 o.length,.sl FCd fs,.j (fs.length:Int),.j (n:Int)],[R0 FCd o]):Dt)) (bif ns.contains fs[n].1 then o++[id fs[n]] else o) (n+1)):=by
 rw [GJ]
 have w1:i64.wrap ((n:Int)+1)=((n+1:Nat):Int):=by rw [Ak (by omega) (by omega)]; omega
 rw [Ah (dcT (by omega)),T2 (by omega),ntN,gtE h,A7,w1]
 have e:(decide (fs[n].1∈ns)==true)=ns.contains fs[n].1:=by rw [Bool.eq_iff_iff]; simp
 rw [e]
 cases ns.contains fs[n].1 with
 | false=>rw [AI]; rfl
 | true=>
  rw [BT,Ad (by simp only [anE,dcE]; unfold maxI; omega),drop_zero,take_length]
  simp only [cond_true,length_append,length_cons,length_nil,Nat.zero_add,A9,id]
theorem O9:Aq prog (Aa [(34,.rd1 FX)]) (Aa [(3,I2)]) 0 (f27.body.getD .skip):=by
 refine Ap (a:=body f27 0) (by kernel_rfl) fun d ex d' h=>?_
 unfold I2 at h
 dsimp only at h
 split at h
 ·rename_i ns m fs c i o
  obtain ⟨hc,hx⟩:=Af h
  obtain ⟨k1,k2,k3,k4,k5,k6⟩:=of_decide_eq_true hc
  obtain ⟨j,rfl⟩:=eq_ofNat_of_zero_le k1
  simp only [ntN] at k2 k6 hx
  subst k3 k4
  have key:=CN (l:=fs) (fun p:WFd=>ns.contains p.1) id (fun (o:List WFd) (n:Nat)=>(([.sl (.int .i64) ns,.b true,.ref 0 0 o.length,.sl FCd fs,.j (fs.length:Int),.j (n:Int)],[R0 FCd o]):Dt)) (fun o=>((.exit 0:Ex),([.ref 0 0 o.length],[R0 FCd o]))) (by simp) (fun o n h ho=>O8 ns fs k5 o n h ho) (fun o ho=>by
   rw [GJ,Ae (dcF (by omega))]) (fs.length-j) j o (by omega) k6
  have hx:=A8 hx
  unfold AV at hx
  obtain ⟨rfl,rfl⟩:=Prod.mk.inj hx
  simp only [map_id_fun,id] at key
  exact key
 ·cases h
theorem l5p:Ag prog 27 (Ent.rd1 OA).F:=by
 refine fcC (kc func34 OG KnowsL.nil).knows (Λ:=(Aa [(3,I2)])) func27 fun vs bs r hq=>?_
 unfold Ent.F OA at hq
 dsimp only at hq
 split at hq
 ·rename_i fs ns
  obtain ⟨hc,hx⟩:=Af hq
  have hc:=of_decide_eq_true hc
  refine ⟨O9,(Mc fs ns).trans (Eq.trans ?_ hx)⟩
  dsimp only [shr]
  rw [Ad (dcT ⟨by omega,by omega,by first | trivial | rfl,by first | trivial | rfl,hc,by omega⟩)]
  simp only [A9,drop_zero,nil_append]
  try rfl
 ·cases hq
theorem vw:Ag prog 9 (Ent.rd1 vwG).F:=by
 refine fcC (kc func25 NU (kc func26 l5n (kc func27 l5p (kc func29 PH KnowsL.nil)))).knows (Λ:=Aa []) func9 fun vs bs r hq=>?_
 unfold Ent.F vwG at hq
 dsimp only at hq
 split at hq
 ·rename_i s ns
  obtain ⟨hc,hx⟩:=Af hq
  refine ⟨Am _,(MV s ns).trans (Eq.trans ?_ hx)⟩
  dsimp only [shr]
  rw [Ad hc]
  simp only [A9,drop_zero,take_length]
  show _=some _
  unfold vwL vwB
  cases h:AR s with
  | none=>rfl
  | some l=>
   obtain ⟨b1,b2,b3,b4⟩:=DI h (fun f=>ns.contains f.1)
   have hp:(AV l ns).length<=100000:=by have:=List.length_filter_le (fun f:WFd=>ns.contains f.1) l; unfold AV; omega
   simp only [isSome_some,getD_some,Bool.not_true,AI,Bool.true_and]
   cases hn:AP ns with
   | false=>rfl
   | true=>
    have h4:(AV l ns).all BV=true:=b4
    rw [Bool.not_true,AI,Ad (dcT (by omega)),h4,dcT hp]
    rfl
 ·cases hq

theorem Ml (s:By) (ns:List Int):Bg prog (Aa [(17,.rd1 Nm),(18,.rd1 rnG),(19,.rd1 N3),(24,.rd1 N5),(23,.rd1 N4)]) (Aa []) f7 [.s s,.sl (.int .i64) ns] [] =
 ((shr (take ((Do s).getD (An Pl)).length (drop 0 ((Do s).getD (An Pl)))) fun sh2=>shr (take (take (Bx sh2 ns false).length (drop
 0 (Bx sh2 ns false))).length (drop 0 (List.map (fun z=>z.1) (take (Bx sh2 ns false).length (drop 0 (Bx sh2 ns false))))))
 fun sh1=>ifT (decide (s.length<=4000000000)) (ifB (!(Do s).isSome) (some (V.tup [V.s (An UInt8),V.b false],[])) (ifB (!AP ns) (some (V.tup [V.s (An
 UInt8),V.b false],[])) (ifT (decide (sh2.length<=100000)) (ifT (decide ((take (Bx sh2 ns false).length (drop 0 (Bx sh2 ns false))).length
 <= 100000)) (ifT (decide (sh1.length<=1000)&&sh1.all Bp) (some (V.tup [V.s (bif H3 sh1 then fbs sh1 else An UInt8),V.b (H3 sh1)],[])))))))):_):=by kernel_rfl
theorem I7 (l:List Pl) (ns:List Int):(Bx l ns false).map (fun z=>z.1)=AV (l.map fun z=>z.1) ns:=by
 unfold Bx AV
 rw [List.filter_map]
 congr 1
 refine List.filter_congr fun z _=>?_
 simp
theorem I8 (l:List Pl) (ns:List Int):(Bx l ns true).map (fun z=>z.1)=AJ (l.map fun z=>z.1) ns:=by
 unfold Bx AJ
 rw [List.filter_map]
 congr 1
 refine List.filter_congr fun z _=>?_
 simp
theorem II {f:WFd} (h:As f=true) (hl:(fb1 f).length<=400):Bp f=true:=by
 unfold Bp
 rw [h,Bool.true_and,dcE]
 unfold As at h
 rw [anE] at h
 have h2:=h.2
 unfold fb1 at hl
 split at h2
 ·simp only [anE,beq_iff_eq] at h2
  have:=h2.2
  simp [this]
 ·rename_i hk
  rw [if_neg hk] at hl
  simp only [length_append] at hl
  omega
theorem ivw:Ag prog 7 (Ent.rd1 vwG).F:=by
 refine fcC (kc func17 ris (kc func18 rn (kc func19 hav (kc func24 fof (kc func23 fsb KnowsL.nil))))).knows (Λ:=Aa []) func7 fun vs bs r hq=>?_
 unfold Ent.F vwG at hq
 dsimp only at hq
 split at hq
 ·rename_i s ns
  obtain ⟨hc,hx⟩:=Af hq
  refine ⟨Am _,(Ml s ns).trans (Eq.trans ?_ hx)⟩
  dsimp only [shr]
  rw [Ad hc]
  simp only [A9,drop_zero,take_length]
  show _=some _
  unfold vwL vwB
  rw [DK]
  cases h:Do s with
  | none=>rfl
  | some l=>
   have hF:AR s=some (l.map fun z=>z.1):=by rw [DK,h]; rfl
   obtain ⟨b1,b2,b3,b4⟩:=DI hF (fun f=>ns.contains f.1)
   have b5:=(Dz hF).2
   rw [length_map] at b3
   have hp:(Bx l ns false).length<=40:=le_trans (List.length_filter_le _ _) b3
   simp only [isSome_some,map_some,getD_some,Bool.not_true,AI,Bool.true_and]
   cases hn:AP ns with
   | false=>rfl
   | true=>
    have h4:(AV (l.map fun z=>z.1) ns).all Bp=true:=all_eq_true.2 fun f hf=>by
     have hm:=(List.mem_filter.1 hf).1
     exact II (b5 f hm) (le_trans (E5 hf) b2)
    have h6:(AV (l.map fun z=>z.1) ns).length=(Bx l ns false).length:=by rw [<-I7,length_map]
    have h7:H3 (AV (l.map fun z=>z.1) ns)=true:=dcT b2
    have e9:take (Bx l ns false).length ((Bx l ns false).map fun z=>z.1)=AV (l.map fun z=>z.1) ns:=by rw [take_of_length_le (by rw [length_map]; omega),I7]
    rw [Bool.not_true,AI]
    repeat rw [Ad (dcT (by omega))]
    simp only [e9]
    rw [h4,Ad (by rw [Bool.and_true]; exact dcT (by omega)),h7]
    try rfl
 ·cases hq
def Ed:Gm
 | [.sl (.int .i64) l],[]=>.need (decide (l.length<=1000000000)) (.leaf (.ref 0 0 l.length,[R0 (.int .i64) l]))
 | _,_=>.no
def J8:Gm
 | [.j n,.bx [.sl (.int .i64) y] 0],[]=>.leaf (.b (!(y.contains n)),[])
 | _,_=>.no
def IU:LoopEnt:=⟨19,[0,1,4,7,8],[],[4],fun
 | ([.ref 0 0 m,.fn 32 [] [.ptr 1 0],.j _,.j k,.j i],[R0 (.int .i64) l,some (.box [.sl (.int .i64) y])])=>.need (decide (0<=i/\i.toNat<=l.length/\k=l.length/\m=l.length/\l.length<=maxI)) (.br (decide ((AB (fun n:Int=>!(y.contains n)) i.toNat (l.drop i.toNat))<0)) (.leaf (.exit 0,([],[R0 (.int .i64) l,some (.box [.sl (.int .i64) y])]))) (.leaf (.ret,([.j (AB (fun n:Int=>!(y.contains n)) i.toNat (l.drop i.toNat))],[R0 (.int .i64) l,some (.box [.sl (.int .i64) y])]))))
 | _=>.no⟩
def Ph:Gm
 | [.ref 0 0 m,.fn 32 [] [.ptr 1 0]],[.row false _ (.int .i64) l,.box [.sl (.int .i64) y]]=>.need (decide (m=l.length/\l.length<=maxI)) (.leaf (.j (AB (fun n:Int=>!(y.contains n)) 0 l),[R0 (.int .i64) l,some (.box [.sl (.int .i64) y])]))
 | _,_=>.no
def IV:LoopEnt:=⟨42,[0,1,5,6],[0,5],[],fun
 | ([.ref 0 0 m,.fn 32 [] [.ptr 1 0],.j i,.j j],[R0 (.int .i64) l,some (.box [.sl (.int .i64) y])])=>.need (decide (0<=i/\i<=j/\j.toNat<=l.length/\m=l.length/\l.length<=1000000000)) (.leaf (.exit 0,([.ref 0 0 m,.j (i+(((l.drop j.toNat).filter fun n=>y.contains n).length:Int))],[R0 (.int .i64) (l.take i.toNat++((l.drop j.toNat).filter fun n=>y.contains n)++l.drop (i.toNat+((l.drop j.toNat).filter fun n=>y.contains n).length)),some (.box [.sl (.int .i64) y])])))
 | _=>.no⟩
def I4 (l y:List Int):List Int:=(l.filter fun n=>y.contains n)++List.replicate (l.length-(l.filter fun n=>y.contains n).length) 0
def Pj:Gm
 | [.ref 0 0 m,.fn 32 [] [.ptr 1 0]],[.row false _ (.int .i64) l,.box [.sl (.int .i64) y]]=>.need (decide (m=l.length/\l.length<=1000000000)) (.leaf (.ref 2 0 (l.filter fun n=>y.contains n).length,[none,some (.box [.sl (.int .i64) y]),R0 (.int .i64) (I4 l y)]))
 | _,_=>.no
def J0 (x y:List Int):List Int:=bif coB x y then I4 x y else []
def N2:Gm
 | [.sl (.int .i64) x,.sl (.int .i64) y],[]=>.need (decide (x.length<=1000000000)) (.leaf (.tup [.ref 0 0 (coL x y).length,.b (coB x y)],[R0 (.int .i64) (J0 x y)]))
 | _,_=>.no
theorem Gr (l:List Int) (h:l.length<=1000000000):J1 prog (Aa []) (Aa []) f31 [.sl (.int .i64) l] []=some (.ref 0 0 l.length,[R0 (.int .i64) l]):=by
 have e:J1 prog (Aa []) (Aa []) f31 [.sl (.int .i64) l] [] =
  ((ifB (decide (0<l.length)) (ifT (decide ((0+l.length)*8<=140737488355328)&&decide (0+l.length<=maxI)) (some (V.ref 0 0
 (0+l.length),[R0 (Cd.int .i64) (An (Cd.int .i64).den++l)]))) (GM (some (V.ref 0 0 0,[R0 (Cd.int .i64)
 (An (Cd.int .i64).den)])) (ifT (decide ((0+l.length)*8<=140737488355328)&&decide (0+l.length<=maxI)) (some (V.ref 0 0 ((0 :
 Nat)+l.length),[R0 (Cd.int .i64) (An (Cd.int .i64).den++l)]))))):_):=by kernel_rfl
 rw [e]
 by_cases q:0<l.length
 ·rw [Ah (dcT q),Ad (by simp [maxI]; omega)]; simp
 ·obtain rfl:l=[]:=List.eq_nil_of_length_eq_zero (by omega)
  rw [Ae (by simp),Mk]<;>simp [maxI]
theorem K9:Ag prog 31 (Ent.rd1 Ed).F:=by
 refine fcN (KnowsL.nil).knows (Λ:=Aa []) func31 fun vs bs r h=>?_
 unfold Ent.F Ed at h
 dsimp only at h
 split at h
 ·rename_i l
  obtain ⟨hc,h⟩:=Af h
  exact ⟨Am _,(Gr l (of_decide_eq_true hc)).trans h⟩
 ·cases h
theorem MP (n:Int) (y:List Int):Bg prog (Aa [(33,.rd1 Cb)]) (Aa []) f32 [.j n,.bx [.sl (.int .i64) y] 0] [] =
 ((some (V.b !decide (n∈y),[])):_):=by kernel_rfl
theorem Hc (m:Nat) (l y:List Int) (r k i:Int):A4 prog (Aa [(32,.rd1 J8)]) (Aa [(2,IU)]) 2 (body f52 0) IU ([.ref 0 0 m,.fn 32 [] [.ptr 1 0],.j r,.j k,.j i],[R0 (.int .i64) l,some (.box [.sl (.int .i64) y])]) =
 ((ifB (decide (i<k)) (ifT (decide (0<=i)&&decide (i<(↑m:Int))) (Ax l[0+i.toNat]? fun z=>ifB (!y.contains z) (some (Ex.ret,[V.j i],[R0 (Cd.int .i64) l,some (Blk.box [V.sl (Cd.int .i64) y])])) (some (Ex.normal,[V.ref 0 0 m,V.fn 32 [] [V.ptr 1 0],V.j r,V.i
 .i64 k,V.j (i64.wrap (i+1))],[R0 (Cd.int .i64) l,some (Blk.box [V.sl (Cd.int .i64) y])])))) (some (Ex.exit 0,[],[R0 (Cd.int .i64) l,some (Blk.box [V.sl (Cd.int .i64) y])]))):_):=by kernel_rfl
theorem MN (m:Nat) (nl:Option Bool) (l y:List Int):J1 prog (Aa [(32,.rd1 J8)]) (Aa [(2,IU)]) f52 [.ref 0 0 m,.fn 32 [] [.ptr 1 0]] [.row false nl (.int .i64) l,.box [.sl (.int .i64) y]] =
 ((ifT (decide ((0:Int)<=(0:Int)/\0<=l.length/\(↑m:Int)=(↑l.length:Int)/\m=l.length/\l.length<=maxI)) (ifB (decide (AB (fun n=>!y.contains n)
 0 (drop 0 l)<(0:Int))) (some (V.j (-1),[R0 (Cd.int .i64) l,some (Blk.box [V.sl (Cd.int .i64) y])])) (some (V.i .i64
 (AB (fun n=>!y.contains n) 0 (drop 0 l)),[R0 (Cd.int .i64) l,some (Blk.box [V.sl (Cd.int .i64) y])])))):_):=by kernel_rfl
abbrev NR:FuncId->Option Ent:=Aa [(32,.rd1 J8),(52,.own Ph)]
theorem Hd (m:Nat) (l y:List Int) (i j:Int):A4 prog NR (Aa [(5,IV)]) 2 (body f30 0) IV ([.ref 0 0 m,.fn 32 [] [.ptr 1 0],.j i,.j j],[R0 (.int .i64) l,some (.box [.sl (.int .i64) y])]) =
 ((ifB (decide (j<(↑m:Int))) (ifT (decide (0<=j)&&decide (j<(↑m:Int))) (Ax l[0+j.toNat]? fun z=>ifB (!!y.contains z) (ifT (decide (0<=i)&&decide
 (i<(↑m:Int))) (Ax l[0+i.toNat]? fun _=>some (Ex.normal,[V.ref 0 0 m,V.fn 32 [] [V.ptr 1 0],V.j (i64.wrap (i +
 1)),V.j (i64.wrap (j+1))],[R0 (Cd.int .i64) (l.set (0+i.toNat) z),some (Blk.box [V.sl (Cd.int .i64) y])]))) (some
 (Ex.normal,[V.ref 0 0 m,V.fn 32 [] [V.ptr 1 0],V.j i,V.j (i64.wrap (j+1))],[R0 (Cd.int .i64) l,some
 (Blk.box [V.sl (Cd.int .i64) y])])))) (some (Ex.exit 0,[V.ref 0 0 m,V.j i],[R0 (Cd.int .i64) l,some (Blk.box [V.sl (Cd.int .i64) y])]))):_):=by kernel_rfl
theorem MO (m:Nat) (nl:Option Bool) (l y:List Int):Bg prog NR (Aa [(5,IV)]) f30 [.ref 0 0 m,.fn 32 [] [.ptr 1 0]] [.row false nl (.int .i64) l,.box [.sl (.int .i64) y]] =
 ((shr (filter (fun n=>y.contains n) (drop (i64.wrap (AB (fun n=>!y.contains n) 0 l+(1:Int))).toNat l)) fun sh2=>shr (take ((0 :
 Nat)+(AB (fun n=>!y.contains n) 0 l+(↑sh2.length:Int)).toNat) (take (AB (fun n=>!y.contains n) 0 l).toNat l++sh2++drop
 ((AB (fun n=>!y.contains n) 0 l).toNat+sh2.length) l)++List.replicate (m-(AB (fun n=>!y.contains n) 0 l+(↑sh2.length:Int)).toNat) (0
 : Int)++drop (0+(AB (fun n=>!y.contains n) 0 l+(↑sh2.length:Int)).toNat+(m-(AB (fun n=>!y.contains n) 0 l +
 (↑sh2.length:Int)).toNat)) (take (AB (fun n=>!y.contains n) 0 l).toNat l++sh2++drop ((AB (fun n=>!y.contains n) 0 l).toNat +
 sh2.length) l)) fun sh1=>ifT (decide (m=l.length/\l.length<=maxI)) (ifB (AB (fun n=>!y.contains n) 0 l==(-1:Int)) (some (V.ref 2 0 m,[none,some
 (Blk.box [V.sl (Cd.int .i64) y]),R0 (Cd.int .i64) l])) (ifT (decide ((0:Int)<=AB (fun n=>!y.contains n) 0 l/\AB (fun n=>
 !y.contains n) 0 l<=i64.wrap (AB (fun n=>!y.contains n) 0 l+(1:Int))/\(i64.wrap (AB (fun n=>!y.contains n) 0 l +
 (1:Int))).toNat<=l.length/\m=l.length/\l.length<=1000000000)) (ifT (decide ((0:Int)<=AB (fun n=>!y.contains n) 0 l+(↑sh2.length:Int))
 && decide (AB (fun n=>!y.contains n) 0 l+(↑sh2.length:Int)<=(↑m:Int))) (ifT (decide ((0:Int)<=AB (fun n=>!y.contains n) 0 l +
 (↑sh2.length:Int))&&decide (AB (fun n=>!y.contains n) 0 l+(↑sh2.length:Int)<=(↑(sh1.length-0):Int))) (some (V.ref 2 0 ((AB (fun n
 => !y.contains n) 0 l+(↑sh2.length:Int)).toNat-0),[none,some (Blk.box [V.sl (Cd.int .i64) y]),R0 (Cd.int .i64) sh1]))))))):_):=by kernel_rfl
theorem Mu (x y:List Int):Bg prog (Aa [(18,.rd1 rnG),(31,.rd1 Ed),(30,.own Pj)]) (Aa []) f11 [.sl (.int .i64) x,.sl (.int .i64) y] [] =
 ((ifB (!AP x) (some (V.tup [V.ref 0 0 0,V.b false],[R0 (Cd.int .i64) (An (Cd.int .i64).den)])) (ifB (!AP y) (some (V.tup [V.ref 0 0 0,V.b
 false],[R0 (Cd.int .i64) (An (Cd.int .i64).den)])) (ifT (decide (x.length<=1000000000)) (ifT (decide (x.length=x.length/\x.length<=
 1000000000)) (some (V.tup [V.ref 0 0 (filter (fun n=>y.contains n) x).length,V.b true],[R0 (Cd.int .i64) (I4 x y)])))))):_):=by kernel_rfl
theorem cn1:Ag prog 32 (Ent.rd1 J8).F:=by
 refine fcC (kc func33 HO KnowsL.nil).knows (Λ:=Aa []) func32 fun vs bs r hq=>?_
 unfold Ent.F J8 at hq
 dsimp only at hq
 split at hq
 ·rename_i n y
  refine ⟨Am _,(MP n y).trans (Eq.trans ?_ hq)⟩
  rw [List.contains_eq_mem]; rfl
 ·cases hq
theorem IT {y l:List Int} {m:Nat} {r:Int} (hx:l.length<=maxI) (hm:m=l.length) : ∀ (j i:Nat),i+j=l.length->∀ e d',(.br (decide ((AB (fun n:Int=>!(y.contains n)) i (l.drop i))<0)) (.leaf (.exit 0,([],[R0 (.int .i64) l,some (.box [.sl (.int .i64) y])]))) (.leaf (.ret,([.j (AB (fun n:Int=>!(y.contains n)) i (l.drop i))],[R0 (.int .i64) l,some (.box [.sl (.int .i64) y])]))):Br (Ex×Dt)).run=some (e,d')->
  Runs prog (Aa [(32,.rd1 J8)]) (Aa [(2,IU)]) 2 (body f52 0) IU ([.ref 0 0 m,.fn 32 [] [.ptr 1 0],.j r,.j (l.length:Int),.j (i:Int)],[R0 (.int .i64) l,some (.box [.sl (.int .i64) y])]) e d'
 | 0,i,hi,e,d',h=>by
  have e1:l.drop i=[]:=drop_eq_nil_of_le (by omega)
  rw [e1,JE,AB,if_pos (by omega)] at h
  cases h
  have hr:=Hc m l y r l.length i
  rw [Ae (dcF (by omega))] at hr
  exact stp hr
 | j+1,i,hi,e,d',h=>by
  have h1:i<l.length:=by omega
  have hr:=Hc m l y r l.length i
  rw [Ah (dcT (by omega)),T2 (by omega)] at hr
  simp only [ntN,Nat.zero_add,gtE h1,A7,AY (n:=i) (by omega)] at hr
  rw [drop_eq_getElem_cons h1,JE,AB] at h
  by_cases he:(!(y.contains l[i]))=true
  ·rw [if_pos he,if_neg (by omega)] at h
   cases h
   rw [Ah he] at hr
   exact stp hr
  ·rw [if_neg he] at h
   rw [Ae (by simpa using he)] at hr
   exact sts hr (IT hx hm j (i+1) (by omega) e d' (by rw [JE]; exact h))
theorem Pg:Aq prog (Aa [(32,.rd1 J8)]) (Aa [(2,IU)]) 2 (f52.body.getD .skip):=by
 refine Ap (a:=body f52 0) (by kernel_rfl) fun d e d' h=>?_
 unfold IU at h
 dsimp only at h
 split at h
 ·obtain ⟨hc,h'⟩:=Af h
  obtain ⟨h0,h1,rfl,h3,h2⟩:=of_decide_eq_true hc
  obtain ⟨i,rfl⟩:=eq_ofNat_of_zero_le h0
  exact IT h2 h3 _ i (Nat.add_sub_of_le h1) e d' h'
 ·cases h
theorem cni:Ag prog 52 (Ent.own Ph).F:=by
 refine fcN (kc func32 cn1 KnowsL.nil).knows (Λ:=(Aa [(2,IU)])) func52 fun vs bs r hq=>?_
 unfold Ent.F Ph at hq
 dsimp only at hq
 split at hq
 ·rename_i m nl l y
  obtain ⟨hc,hx⟩:=Af hq
  obtain ⟨h1,h2⟩:=of_decide_eq_true hc
  refine ⟨Pg,(MN m nl l y).trans (Eq.trans ?_ hx)⟩
  rw [Ad (dcT ⟨by omega,by omega,by omega,h1,h2⟩)]
  simp only [drop_zero]
  show _=some _
  by_cases q:AB (fun n:Int=>!(y.contains n)) 0 l<0
  ·rw [Ah (dcT q),J3 _ _ _ q]
  ·rw [Ae (dcF q)]
 ·cases hq
theorem FO (q:Int->Bool) : ∀ (l:List Int) (n:Nat),(AB (fun z=>!(q z)) n l = -1/\l.filter q=l)\/∃ i,i<l.length/\AB (fun z=>!(q z)) n l=((n+i:Nat):Int)/\l.filter q=l.take i++(l.drop (i+1)).filter q
 | [],n=>.inl ⟨rfl,rfl⟩
 | z::l,n=>by
  rw [AB]
  cases hq:q z with
  | false=>exact .inr ⟨0,by simp,by simp,by simp [hq]⟩
  | true=>
   rw [if_neg (by simp)]
   rcases FO q l (n+1) with ⟨h1,h2⟩ | ⟨i,h1,h2,h3⟩
   ·exact .inl ⟨h1,by rw [List.filter_cons_of_pos hq,h2]⟩
   ·refine .inr ⟨i+1,by simp; omega,by rw [h2]; congr 1; omega,?_⟩
    rw [List.filter_cons_of_pos hq,h3]; rfl
theorem FZ {y:List Int} {m:Nat} : ∀ (k i j:Nat) (l:List Int),j+k=l.length->i<=j->m=l.length->l.length<=1000000000->Runs prog NR (Aa [(5,IV)]) 2 (body f30 0) IV ([.ref 0 0 m,.fn 32 [] [.ptr 1 0],.j (i:Int),.j (j:Int)],[R0 (.int .i64) l,some (.box [.sl (.int .i64) y])]) (.exit 0) ([.ref 0 0 m,.j ((i:Int)+(((l.drop j).filter fun n=>y.contains n).length:Int))],[R0 (.int .i64) (l.take i++((l.drop j).filter fun n=>y.contains n)++l.drop (i+((l.drop j).filter fun n=>y.contains n).length)),some (.box [.sl (.int .i64) y])])
 | 0,i,j,l,hk,hi,hm,hl=>by
  have hr:=Hd m l y i j
  rw [Ae (dcF (by omega))] at hr
  rw [drop_eq_nil_of_le (show l.length<=j by omega),List.filter_nil,append_nil,length_nil,Nat.add_zero,List.take_append_drop]
  rw [show (i:Int)+((0:Nat):Int)=(i:Int) by omega]
  exact stp hr
 | k+1,i,j,l,hk,hi,hm,hl=>by
  have hj:j<l.length:=by omega
  have hil:i<l.length:=by omega
  have hr:=Hd m l y i j
  have w1:i64.wrap ((j:Int)+1)=((j+1:Nat):Int):=by rw [Ak (by omega) (by omega)]; omega
  have w2:i64.wrap ((i:Int)+1)=((i+1:Nat):Int):=by rw [Ak (by omega) (by omega)]; omega
  rw [Ah (dcT (by omega)),T2 (by omega)] at hr
  simp only [ntN,Nat.zero_add,gtE hj,A7,w1] at hr
  rw [drop_eq_getElem_cons hj]
  cases hv:y.contains l[j] with
  | false=>
   rw [hv,Ae (by rfl)] at hr
   rw [List.filter_cons_of_neg (by rw [hv]; decide)]
   exact sts hr (FZ k i (j+1) l (by omega) (by omega) hm hl)
  | true=>
   rw [hv,Ah (by rfl),T2 (by omega)] at hr
   simp only [gtE hil,A7,w2] at hr
   have ih:=FZ (m:=m) (y:=y) k (i+1) (j+1) (l.set i l[j]) (by rw [length_set]; omega) (by omega) (by rw [length_set]; exact hm) (by rw [length_set]; exact hl)
   rw [List.drop_set_of_lt (show i<j+1 by omega)] at ih
   rw [List.filter_cons_of_pos (by exact hv)]
   generalize ((l.drop (j+1)).filter fun n=>y.contains n)=K at ih ⊢
   rw [List.drop_set_of_lt (show i<i+1+K.length by omega),List.take_add_one,List.getElem?_set_self hil,List.take_set_of_le (Nat.le_refl _)] at ih
   rw [length_cons,show i+(K.length+1)=i+1+K.length by omega,show (i:Int)+((K.length+1:Nat):Int)=((i+1:Nat):Int)+(K.length:Int) by omega]
   have e:l.take i++(some l[j]).toList++K=l.take i++l[j]::K:=by simp
   rw [e] at ih
   exact sts hr ih
theorem Pi:Aq prog NR (Aa [(5,IV)]) 2 (f30.body.getD .skip):=by
 refine Ap (a:=body f30 0) (by kernel_rfl) fun d e d' h=>?_
 unfold IV at h
 dsimp only at h
 split at h
 ·rename_i m i j l y
  obtain ⟨hc,h'⟩:=Af h
  obtain ⟨h0,h1,h2,h3,h4⟩:=of_decide_eq_true hc
  obtain ⟨i,rfl⟩:=eq_ofNat_of_zero_le h0
  obtain ⟨j,rfl⟩:=eq_ofNat_of_zero_le (show 0<=j by omega)
  simp only [ntN] at h2 h'
  have h':=A8 h'
  obtain ⟨rfl,rfl⟩:=Prod.mk.inj h'
  exact FZ (l.length-j) i j l (by omega) (by omega) h3 h4
 ·cases h
theorem cnd:Ag prog 30 (Ent.own Pj).F:=by
 refine fcC (kc func32 cn1 (kc func52 cni KnowsL.nil)).knows (Λ:=(Aa [(5,IV)])) func30 fun vs bs r hq=>?_
 unfold Ent.F Pj at hq
 dsimp only at hq
 split at hq
 ·rename_i m nl l y
  obtain ⟨hc,hx⟩:=Af hq
  obtain ⟨h1,h2⟩:=of_decide_eq_true hc
  refine ⟨Pi,(MO m nl l y).trans (Eq.trans ?_ hx)⟩
  dsimp only [shr]
  have hM:=mxI
  rw [Ad (dcT ⟨h1,by omega⟩)]
  show _=some _
  unfold I4
  rcases FO (fun n=>y.contains n) l 0 with ⟨e1,e2⟩ | ⟨i,e0,e1,e2⟩
  ·rw [e1,Ah (by rfl),e2,Nat.sub_self,List.replicate_zero,append_nil,h1]
  ·rw [Nat.zero_add] at e1
   have w1:i64.wrap ((i:Int)+1)=((i+1:Nat):Int):=by rw [Ak (by omega) (by omega)]; omega
   simp only [e1,w1,ntN,Nat.zero_add,sub_zero]
   rw [Ae (by simp),e2]
   have hK:((l.drop (i+1)).filter fun n=>y.contains n).length<=l.length-(i+1):=le_trans (List.length_filter_le _ _) (by rw [length_drop]; exact Nat.le_refl _)
   generalize ((l.drop (i+1)).filter fun n=>y.contains n)=K at hK ⊢
   have a1:((i:Int)+(K.length:Int)).toNat=i+K.length:=by omega
   have a2:(l.take i++K).length=i+K.length:=by rw [length_append,length_take]; omega
   have a3:(l.take i++K++l.drop (i+K.length)).take (i+K.length)=l.take i++K:=List.take_left' a2
   have a4:(l.take i++K++l.drop (i+K.length)).drop (i+K.length+(l.length-(i+K.length)))=[]:=drop_eq_nil_of_le (by rw [length_append,a2,length_drop]; omega)
   subst h1
   simp only [a1,a2,a3,a4,append_nil]
   rw [Ad (dcT ⟨by omega,by omega,by omega,by first | trivial | rfl,h2⟩),T2 (by omega),Ad (by simp only [anE,dcE,length_append,List.length_replicate,a2]; omega)]
 ·cases hq
theorem ico:Ag prog 11 (Ent.rd1 N2).F:=by
 refine fcC (kc func18 rn (kc func31 K9 (kc func30 cnd KnowsL.nil))).knows (Λ:=Aa []) func11 fun vs bs r hq=>?_
 unfold Ent.F N2 at hq
 dsimp only at hq
 split at hq
 ·rename_i x y
  obtain ⟨hc,hx⟩:=Af hq
  have hc:=of_decide_eq_true hc
  refine ⟨Am _,(Mu x y).trans (Eq.trans ?_ hx)⟩
  show _=some _
  unfold J0 coL coB
  cases AP x with
  | false=>rfl
  | true=>
  cases AP y with
  | false=>rfl
  | true=>
   rw [Bool.not_true,AI,AI,Ad (dcT hc),Ad (dcT ⟨by first | trivial | rfl,hc⟩)]
   try rfl
 ·cases hq
def I3:LoopEnt:=⟨28,[1,2,7,10,11,12],[7],[],fun
 | ([.sl (.int .i64) ns,.b false,.ref 0 0 m,.sl FCd fs,.j c,.j i],[R0 FCd o])=>.need (decide (0<=i/\i.toNat<=fs.length/\c=fs.length/\m=o.length/\fs.length<=100000/\o.length<=i.toNat)) (.leaf (.exit 0,([.ref 0 0 (o++AJ (fs.drop i.toNat) ns).length],[R0 FCd (o++AJ (fs.drop i.toNat) ns)])))
 | _=>.no⟩
def OE:Gm
 | [.sl FCd fs,.sl (.int .i64) ns,.b false],[]=>.need (decide (fs.length<=100000)) (.leaf (.ref 0 0 (AJ fs ns).length,[R0 FCd (AJ fs ns)]))
 | _,_=>.no
def Ih:LoopEnt:=⟨32,[1,6,17,18,19],[6],[],fun
 | ([.sl (.int .i64) y,.ref 0 0 m,.sl (.int .i64) x,.j c,.j i],[R0 (.int .i64) o])=>.need (decide (0<=i/\i.toNat<=x.length/\c=x.length/\m=o.length/\x.length<=1000000000/\o.length<=i.toNat)) (.leaf (.exit 0,([.ref 0 0 (o++(x.drop i.toNat).filter fun n=>y.contains n).length],[R0 (.int .i64) (o++(x.drop i.toNat).filter fun n=>y.contains n)])))
 | _=>.no⟩
def coG:Gm
 | [.sl (.int .i64) x,.sl (.int .i64) y],[]=>.need (decide (x.length<=1000000000)) (.leaf (.tup [.ref 0 0 (coL x y).length,.b (coB x y)],[R0 (.int .i64) (coL x y)]))
 | _,_=>.no
def L2 (l:List WFd):Bool:=l.all As&&decide (l.length<=40)
def EF (l:List WFd):List WFd:=bif L2 l then Ie l else []
def Dx:LoopEnt:=⟨53,[0,4,9,10,11],[0,4],[2,3],fun
 | ([.sl FCd l0,.ref 0 0 m,.sl FCd fs,.j c,.j i],[R0 FCd o])=>.need (decide (0<=i/\i.toNat<=fs.length/\c=fs.length/\m=o.length/\fs.length<=100000/\o.length<=i.toNat)) (.br ((fs.drop i.toNat).all As) (.leaf (.exit 0,([.sl FCd l0,.ref 0 0 ((fs.drop i.toNat).foldl C4 o).length],[R0 FCd ((fs.drop i.toNat).foldl C4 o)]))) (.leaf (.ret,([.ref 0 0 0,.b false],[R0 FCd []]))))
 | _=>.no⟩
def Dw:LoopEnt:=⟨53,[0,4,6,7,9,10,11],[0,4,6,7,9,10,11],[],fun
 | ([.sl FCd l0,.ref 0 0 m,.ptr 1 0,.j k,.sl FCd fs,.j c,.j i],[R0 FCd o,some (.box [.j f0,.j f1,.j f2,.s f3])])=>.need (decide (0<=k/\k.toNat<=o.length/\m=o.length/\o.length<=100000)) (.leaf (.exit 2,([.sl FCd l0,.ref 0 0 m,.ptr 1 0,.j (k+(kF (f0,f1,f2,f3,()) (o.drop k.toNat):Nat)),.sl FCd fs,.j c,.j i],[R0 FCd o,some (.box [.j f0,.j f1,.j f2,.s f3])])))
 | _=>.no⟩
def Ow:Gm
 | [.sl FCd l],[]=>.need (decide (l.length<=100000)) (.leaf (.tup [.ref 0 0 (EF l).length,.b (L2 l)],[R0 FCd (EF l)]))
 | _,_=>.no
theorem GL (ns:List Int) (m:Nat) (fs:List WFd) (c i:Int) (o:List WFd):A4 prog (Aa [(34,.rd1 FX)]) (Aa [(3,I3)]) 0 (body f27 0) I3 ([.sl (.int .i64) ns,.b false,.ref 0 0 m,.sl FCd fs,.j c,.j i],[R0 FCd o]) =
 ((ifB (decide (i<c)) (ifT (decide (0<=i)&&decide (i<(↑fs.length:Int))) (Ax fs[i.toNat]? fun z=>ifB (decide (z.1∈ns)==false) (ifT (decide ((m+(1 :
 Nat))*40<=140737488355328)&&decide (m+1<=maxI)) (some (Ex.normal,[V.sl (Cd.int .i64) ns,V.b false,V.ref 0 0 (m+1),V.sl FCd
 fs,V.j c,V.j (i64.wrap (i+1))],[R0 FCd (take m (drop 0 o)++(z.1,z.2.1,z.2.2.1,
 z.2.2.2.1,())::An FCd.den)]))) (some (Ex.normal,[V.sl (Cd.int .i64) ns,V.b false,V.ref 0 0 m,V.sl FCd fs,V.j c,V.j (i64.wrap (i +
 1))],[R0 FCd o])))) (some (Ex.exit 0,[V.ref 0 0 m],[R0 FCd o]))):_):=by kernel_rfl
theorem Mf (fs:List WFd) (ns:List Int):Bg prog (Aa [(34,.rd1 FX)]) (Aa [(3,I3)]) f27 [.sl FCd fs,.sl (.int .i64) ns,.b false] [] =
 ((shr (An FCd.den++AJ (drop 0 fs) ns) fun sh1=>ifT (decide ((0:Int)<=(0:Int)/\0<=fs.length/\(↑fs.length:Int)=(↑fs.length:Int)/\
 0=0/\fs.length<=100000/\0<=0)) (some (V.ref 0 0 sh1.length,[R0 FCd sh1]))):_):=by kernel_rfl
abbrev NQ:FuncId->Option Ent:=Aa [(26,.rd1 Me),(34,.rd1 FX)]
theorem GA (y:List Int) (m:Nat) (x:List Int) (c i:Int) (o:List Int):A4 prog NQ (Aa [(5,Ih)]) 0 (body f12 0) Ih ([.sl (.int .i64) y,.ref 0 0 m,.sl (.int .i64) x,.j c,.j i],[R0 (.int .i64) o]) =
 ((ifB (decide (i<c)) (ifT (decide (0<=i)&&decide (i<(↑x.length:Int))) (Ax x[i.toNat]? fun z=>ifB (decide (z∈y)) (ifT (decide ((m+1)*8<=
 140737488355328)&&decide (m+1<=maxI)) (some (Ex.normal,[V.sl (Cd.int .i64) y,V.ref 0 0 (m+1),V.sl (Cd.int .i64) x,V.j c,V.i .i64
 (i64.wrap (i+1))],[R0 (Cd.int .i64) (take m (drop 0 o)++z::An (Cd.int .i64).den)]))) (some (Ex.normal,[V.sl
 (Cd.int .i64) y,V.ref 0 0 m,V.sl (Cd.int .i64) x,V.j c,V.j (i64.wrap (i+1))],[R0 (Cd.int .i64) o])))) (some (Ex.exit 0,
 [V.ref 0 0 m],[R0 (Cd.int .i64) o]))):_):=by kernel_rfl
theorem L4 (x y:List Int):Bg prog NQ (Aa [(5,Ih)]) f12 [.sl (.int .i64) x,.sl (.int .i64) y] [] =
 ((shr (An (Cd.int .i64).den++filter (fun n=>y.contains n) (drop 0 x)) fun sh1=>ifB (!AP x) (some (V.tup [V.ref 0 0 0,V.b false],[R0 (Cd.int .i64) (An (Cd.int .i64).den)])) (ifB (!AP y) (some (V.tup [V.ref 0 0 0,V.b false],[R0 (Cd.int .i64) (An (Cd.int
 .i64).den)])) (ifT (decide ((0:Int)<=(0:Int)/\0<=x.length/\(↑x.length:Int)=(↑x.length:Int)/\0=0/\x.length<=1000000000
 /\ 0<=0)) (some (V.tup [V.ref 0 0 sh1.length,V.b true],[R0 (Cd.int .i64) sh1]))))):_):=by kernel_rfl
theorem F4 (l0:List WFd) (m:Nat) (fs:List WFd) (c i:Int) (o:List WFd):A4 prog (Aa [(49,.rd1 BZ)]) (Aa [(3,Dx),(8,Dw)]) 0 (body f28 0) Dx ([.sl FCd l0,.ref 0 0 m,.sl FCd fs,.j c,.j i],[R0 FCd o]) =
 ((ifB (decide (i<c)) (ifT (decide (0<=i)&&decide (i<(↑fs.length:Int))) (Ax fs[i.toNat]? fun z=>shr (drop 0 o) fun sh5=>shr z.2 fun sh4=>shr
 sh4.2 fun sh3=>shr (take (m-(0+(↑(kF (z.1,sh4.1,sh3.1,sh3.2.1,()) sh5):Int)).toNat) (drop (0+(0+(↑(kF (z.1,sh4.1,
 sh3.1,sh3.2.1,()) sh5):Int)).toNat) o)) fun sh2=>shr (take ((0+(↑(kF (z.1,sh4.1,sh3.1,sh3.2.1,()) sh5):Int)).toNat-0)
 (drop 0 o)) fun sh1=>ifB (!As (z.1,sh4.1,sh3.1,sh3.2.1,())) (some (Ex.ret,[V.ref 0 0 0,V.b false],[R0 FCd (An
 FCd.den)])) (ifT (decide ((0:Int)<=(0:Int)/\0<=o.length/\m=o.length/\o.length<=100000)) (ifT (decide ((0:Int)<=0+(↑(kF (z.1,sh4.1,
 sh3.1,sh3.2.1,()) sh5):Int))&&decide (0+(↑(kF (z.1,sh4.1,sh3.1,sh3.2.1,()) sh5):Int)<=(↑(o.length-0):Int))) (ifT (decide (((0 :
 Nat)+sh1.length)*40<=140737488355328)&&decide (0+sh1.length<=maxI)) (ifT (decide ((0+sh1.length+1)*40<=
 140737488355328)&&decide (0+sh1.length+1<=maxI)) (ifT (decide ((0:Int)<=0+(↑(kF (z.1,sh4.1,sh3.1,sh3.2.1,()) sh5) :
 Int))&&decide (0+(↑(kF (z.1,sh4.1,sh3.1,sh3.2.1,()) sh5):Int)<=(↑m:Int))) (ifT (decide ((0+sh1.length+1+sh2.length)*(40 :
 Nat)<=140737488355328)&&decide (0+sh1.length+1+sh2.length<=maxI)) (some (Ex.normal,[V.sl FCd l0,V.ref 0 0 (0+sh1.length+(1
 : Nat)+sh2.length),V.sl FCd fs,V.j c,V.j (i64.wrap (i+1))],[R0 FCd (take (0+sh1.length+1)
 (drop 0 (take (0+sh1.length) (drop 0 (An FCd.den++sh1))++(z.1,sh4.1,sh3.1,sh3.2.1,())::An FCd.den))++
 sh2)])))))))))) (some (Ex.exit 0,[V.sl FCd l0,V.ref 0 0 m],[R0 FCd o]))):_):=by kernel_rfl
theorem F3 (l0:List WFd) (m:Nat) (k:Int) (fs:List WFd) (c i:Int) (o:List WFd) (f0 f1 f2:Int) (f3:By):A4 prog (Aa [(49,.rd1 BZ)]) (Aa [(3,Dx),(8,Dw)]) 0 (body f28 1) Dw ([.sl FCd l0,.ref 0 0 m,.ptr 1 0,.j k,.sl FCd fs,.j c,.j i],[R0 FCd o,some (.box [.j f0,.j f1,.j f2,.s f3])]) =
 ((ifB (decide (k<(↑m:Int))) (ifT (decide (0<=k)&&decide (k<(↑m:Int))) (Ax o[0+k.toNat]? fun z=>ifB (decide (z.1<=f0)) (some (Ex.normal,[V.sl
 FCd l0,V.ref 0 0 m,V.ptr 1 0,V.j (i64.wrap (k+1)),V.sl FCd fs,V.j c,V.j i],[R0 FCd o,some (Blk.box [V.j f0,
 V.j f1,V.j f2,V.s f3])])) (some (Ex.exit 2,[V.sl FCd l0,V.ref 0 0 m,V.ptr 1 0,V.j k,V.sl FCd fs,V.j c,V.j i],[R0 FCd o,some (Blk.box [V.j f0,V.j f1,V.j f2,V.s f3])])))) (some (Ex.exit 2,[V.sl FCd l0,V.ref 0 0 m,V.ptr 1 0,V.j k,V.sl FCd fs,V.j c,
 V.j i],[R0 FCd o,some (Blk.box [V.j f0,V.j f1,V.j f2,V.s f3])]))):_):=by kernel_rfl
theorem L1 (l:List WFd):Bg prog (Aa [(49,.rd1 BZ)]) (Aa [(3,Dx),(8,Dw)]) f28 [.sl FCd l] [] =
 ((shr (drop 0 l) fun sh2=>shr (An FCd.den) fun sh1=>ifT (decide ((0:Int)<=(0:Int)/\0<=l.length/\(↑l.length:Int)=(↑l.length:Int)/\(0
 : Nat)=0/\l.length<=100000/\0<=0)) (ifB (sh2.all As) (ifB (decide ((↑l.length:Int)>(40:Int))) (some (V.tup [V.ref 0 0 0,
 V.b false],[R0 FCd sh1])) (some (V.tup [V.ref 0 0 (foldl C4 sh1 sh2).length,V.b true],[R0 FCd (foldl C4 sh1
 sh2)]))) (some (V.tup [V.ref 0 0 0,V.b false],[R0 FCd sh1])))):_):=by kernel_rfl
theorem OC (ns:List Int) (fs:List WFd) (hf:fs.length<=100000) (o:List WFd) (n:Nat) (h:n<fs.length) (ho:o.length<=n):A4 prog (Aa [(34,.rd1 FX)]) (Aa [(3,I3)]) 0 (body f27 0) I3 ([.sl (.int .i64) ns,.b false,.ref 0 0 o.length,.sl FCd fs,.j (fs.length:Int),.j (n:Int)],[R0 FCd o])=some ((.normal:Ex),(fun (o:List WFd) (n:Nat)=>(([.sl (.int .i64) ns,.b false,.ref 0 0 o.length,.sl FCd fs,.j (fs.length:Int),.j (n:Int)],[R0 FCd o]):Dt)) (bif !ns.contains fs[n].1 then o++[id fs[n]] else o) (n+1)):=by
 rw [GL]
 have w1:i64.wrap ((n:Int)+1)=((n+1:Nat):Int):=by rw [Ak (by omega) (by omega)]; omega
 rw [Ah (dcT (by omega)),T2 (by omega),ntN,gtE h,A7,w1]
 have e:(decide (fs[n].1∈ns)==false) = !ns.contains fs[n].1:=by rw [List.contains_eq_mem]; cases decide (fs[n].1∈ns)<;>rfl
 rw [e]
 cases ns.contains fs[n].1 with
 | true=>rw [Bool.not_true,AI]; rfl
 | false=>
  rw [Bool.not_false,BT,Ad (by simp only [anE,dcE]; unfold maxI; omega),drop_zero,take_length]
  simp only [cond_true,length_append,length_cons,length_nil,Nat.zero_add,A9,id]
theorem OD:Aq prog (Aa [(34,.rd1 FX)]) (Aa [(3,I3)]) 0 (f27.body.getD .skip):=by
 refine Ap (a:=body f27 0) (by kernel_rfl) fun d ex d' h=>?_
 unfold I3 at h
 dsimp only at h
 split at h
 ·rename_i ns m fs c i o
  obtain ⟨hc,hx⟩:=Af h
  obtain ⟨k1,k2,k3,k4,k5,k6⟩:=of_decide_eq_true hc
  obtain ⟨j,rfl⟩:=eq_ofNat_of_zero_le k1
  simp only [ntN] at k2 k6 hx
  subst k3 k4
  have key:=CN (l:=fs) (fun p:WFd=>!ns.contains p.1) id (fun (o:List WFd) (n:Nat)=>(([.sl (.int .i64) ns,.b false,.ref 0 0 o.length,.sl FCd fs,.j (fs.length:Int),.j (n:Int)],[R0 FCd o]):Dt)) (fun o=>((.exit 0:Ex),([.ref 0 0 o.length],[R0 FCd o]))) (by simp) (fun o n h ho=>OC ns fs k5 o n h ho) (fun o ho=>by
   rw [GL,Ae (dcF (by omega))]) (fs.length-j) j o (by omega) k6
  have hx:=A8 hx
  unfold AJ at hx
  obtain ⟨rfl,rfl⟩:=Prod.mk.inj hx
  simp only [map_id_fun,id] at key
  exact key
 ·cases h
theorem l5d:Ag prog 27 (Ent.rd1 OE).F:=by
 refine fcC (kc func34 OG KnowsL.nil).knows (Λ:=(Aa [(3,I3)])) func27 fun vs bs r hq=>?_
 unfold Ent.F OE at hq
 dsimp only at hq
 split at hq
 ·rename_i fs ns
  obtain ⟨hc,hx⟩:=Af hq
  have hc:=of_decide_eq_true hc
  refine ⟨OD,(Mf fs ns).trans (Eq.trans ?_ hx)⟩
  dsimp only [shr]
  rw [Ad (dcT ⟨by omega,by omega,by first | trivial | rfl,by first | trivial | rfl,hc,by omega⟩)]
  simp only [A9,drop_zero,nil_append]
  try rfl
 ·cases hq
theorem Ox (y x:List Int) (hf:x.length<=1000000000) (o:List Int) (n:Nat) (h:n<x.length) (ho:o.length<=n):A4 prog NQ (Aa [(5,Ih)]) 0 (body f12 0) Ih ([.sl (.int .i64) y,.ref 0 0 o.length,.sl (.int .i64) x,.j (x.length:Int),.j (n:Int)],[R0 (.int .i64) o])=some ((.normal:Ex),(fun (o:List Int) (n:Nat)=>(([.sl (.int .i64) y,.ref 0 0 o.length,.sl (.int .i64) x,.j (x.length:Int),.j (n:Int)],[R0 (.int .i64) o]):Dt)) (bif y.contains x[n] then o++[id x[n]] else o) (n+1)):=by
 rw [GA]
 have w1:i64.wrap ((n:Int)+1)=((n+1:Nat):Int):=by rw [Ak (by omega) (by omega)]; omega
 rw [Ah (dcT (by omega)),T2 (by omega),ntN,gtE h,A7,w1]
 have e:decide (x[n]∈y)=y.contains x[n]:=by rw [List.contains_eq_mem]
 rw [e]
 cases y.contains x[n] with
 | false=>rw [AI]; rfl
 | true=>
  rw [BT,Ad (by simp only [anE,dcE]; unfold maxI; omega),drop_zero,take_length]
  simp only [cond_true,length_append,length_cons,length_nil,Nat.zero_add,A9,id]
theorem Oy:Aq prog NQ (Aa [(5,Ih)]) 0 (f12.body.getD .skip):=by
 refine Ap (a:=body f12 0) (by kernel_rfl) fun d ex d' h=>?_
 unfold Ih at h
 dsimp only at h
 split at h
 ·rename_i y m x c i o
  obtain ⟨hc,hx⟩:=Af h
  obtain ⟨k1,k2,k3,k4,k5,k6⟩:=of_decide_eq_true hc
  obtain ⟨j,rfl⟩:=eq_ofNat_of_zero_le k1
  simp only [ntN] at k2 k6 hx
  subst k3 k4
  have key:=CN (l:=x) (fun n:Int=>y.contains n) id (fun (o:List Int) (n:Nat)=>(([.sl (.int .i64) y,.ref 0 0 o.length,.sl (.int .i64) x,.j (x.length:Int),.j (n:Int)],[R0 (.int .i64) o]):Dt)) (fun o=>((.exit 0:Ex),([.ref 0 0 o.length],[R0 (.int .i64) o]))) (by simp) (fun o n h ho=>Ox y x k5 o n h ho) (fun o ho=>by
   rw [GA,Ae (dcF (by omega))]) (x.length-j) j o (by omega) k6
  obtain ⟨rfl,rfl⟩:=lfP hx
  simp only [map_id_fun,id] at key
  exact key
 ·cases h
theorem sco:Ag prog 12 (Ent.rd1 coG).F:=by
 refine fcC (kc func26 l5n (kc func34 OG KnowsL.nil)).knows (Λ:=(Aa [(5,Ih)])) func12 fun vs bs r hq=>?_
 unfold Ent.F coG at hq
 dsimp only at hq
 split at hq
 ·rename_i x y
  obtain ⟨hc,hx⟩:=Af hq
  have hc:=of_decide_eq_true hc
  refine ⟨Oy,(L4 x y).trans (Eq.trans ?_ hx)⟩
  dsimp only [shr]
  show _=some _
  unfold coL coB
  cases AP x with
  | false=>rfl
  | true=>
   cases AP y with
   | false=>rfl
   | true=>
    rw [Bool.not_true,AI,AI,Ad (dcT ⟨by omega,by omega,by first | trivial | rfl,by first | trivial | rfl,hc,by omega⟩)]
    simp only [A9,drop_zero,nil_append]
    rfl
 ·cases hq
theorem G8 (l0 fs:List WFd) (c i:Int) (o:List WFd) (f0 f1 f2:Int) (f3:By) (ho:o.length<=100000) : ∀ (j k:Nat),k+j=o.length->Runs prog (Aa [(49,.rd1 BZ)]) (Aa [(3,Dx),(8,Dw)]) 0 (body f28 1) Dw ([.sl FCd l0,.ref 0 0 o.length,.ptr 1 0,.j (k:Int),.sl FCd fs,.j c,.j i],[R0 FCd o,some (.box [.j f0,.j f1,.j f2,.s f3])]) (.exit 2) ([.sl FCd l0,.ref 0 0 o.length,.ptr 1 0,.j ((k:Int)+(kF (f0,f1,f2,f3,()) (o.drop k):Nat)),.sl FCd fs,.j c,.j i],[R0 FCd o,some (.box [.j f0,.j f1,.j f2,.s f3])])
 | 0,k,hk=>by
  have hr:=F3 l0 o.length k fs c i o f0 f1 f2 f3
  rw [Ae (dcF (by omega))] at hr
  rw [drop_eq_nil_of_le (by omega),kF]
  refine .stop _ _ _ (hr.trans ?_) (by simp)
  simp
 | j+1,k,hk=>by
  have hl:k<o.length:=by omega
  have hr:=F3 l0 o.length k fs c i o f0 f1 f2 f3
  have w1:i64.wrap ((k:Int)+1)=((k+1:Nat):Int):=by rw [Ak (by omega) (by omega)]; omega
  rw [Ah (dcT (by omega)),T2 (by omega),ntN,Nat.zero_add,gtE hl,A7,w1] at hr
  rw [drop_eq_getElem_cons hl,kF]
  by_cases q : @LE.le Int _ o[k].1 f0
  ·rw [Ah (dcT q)] at hr
   have ih:=G8 l0 fs c i o f0 f1 f2 f3 ho j (k+1) (by omega)
   rw [if_pos q]
   have e:((k+1:Nat):Int)+(kF (f0,f1,f2,f3,()) (o.drop (k+1)):Nat)=(k:Int)+((kF (f0,f1,f2,f3,()) (o.drop (k+1))+1:Nat):Int):=by omega
   rw [e] at ih
   exact sts hr ih
  ·rw [Ae (dcF q)] at hr
   rw [if_neg q]
   refine .stop _ _ _ (hr.trans ?_) (by simp)
   simp
theorem H2 (o:List WFd) (f:WFd):(C4 o f).length=o.length+1:=by
 have:=Mj f o
 unfold C4
 rw [length_append,length_cons,length_take,length_drop]; omega
theorem G9 (l0 fs:List WFd) (hf:fs.length<=100000) : ∀ (j i:Nat) (o:List WFd),i+j=fs.length->o.length<=i->∀ e d',(Br.br ((fs.drop i).all As) (.leaf (.exit 0,([.sl FCd l0,.ref 0 0 ((fs.drop i).foldl C4 o).length],[R0 FCd ((fs.drop i).foldl C4 o)]))) (.leaf (.ret,([.ref 0 0 0,.b false],[R0 FCd []]))):Br (Ex×Dt)).run=some (e,d')->Runs prog (Aa [(49,.rd1 BZ)]) (Aa [(3,Dx),(8,Dw)]) 0 (body f28 0) Dx ([.sl FCd l0,.ref 0 0 o.length,.sl FCd fs,.j (fs.length:Int),.j (i:Int)],[R0 FCd o]) e d'
 | 0,i,o,hi,ho,e,d',h=>by
  have hr:=F4 l0 o.length fs fs.length i o
  try dsimp only [shr] at hr
  rw [Ae (dcF (by omega))] at hr
  rw [drop_eq_nil_of_le (by omega)] at h
  have h8:=A8 (show (Br.leaf (.exit 0,([.sl FCd l0,.ref 0 0 o.length],[R0 FCd o])):Br (Ex×Dt)).run=some (e,d') from h)
  obtain ⟨rfl,rfl⟩:=Prod.mk.inj h8
  exact stp hr
 | j+1,i,o,hi,ho,e,d',h=>by
  have hM:=mxI
  have hl:i<fs.length:=by omega
  have hr:=F4 l0 o.length fs fs.length i o
  try dsimp only [shr] at hr
  have w1:i64.wrap ((i:Int)+1)=((i+1:Nat):Int):=by rw [Ak (by omega) (by omega)]; omega
  rw [Ah (dcT (by omega)),T2 (by omega),ntN,gtE hl,A7,w1] at hr
  have eta:((fs[i].1,fs[i].2.1,fs[i].2.2.1,fs[i].2.2.2.1,()):WFd)=fs[i]:=rfl
  simp only [eta,drop_zero,Int.zero_add,Nat.zero_add,sub_zero,ntN,A9,nil_append] at hr
  rw [drop_eq_getElem_cons hl,List.all_cons,List.foldl_cons] at h
  cases hb:As fs[i] with
  | false=>
   rw [hb,Bool.not_false,BT] at hr
   rw [hb,Bool.false_and] at h
   have h8:=A8 (show (Br.leaf (.ret,([.ref 0 0 0,.b false],[R0 FCd []])):Br (Ex×Dt)).run=some (e,d') from h)
   obtain ⟨rfl,rfl⟩:=Prod.mk.inj h8
   exact stp hr
  | true=>
   have hk:=Mj fs[i] o
   have ht:(take (kF fs[i] o) o).length=kF fs[i] o:=by rw [length_take]; omega
   have hd:(take (o.length-kF fs[i] o) (drop (kF fs[i] o) o))=drop (kF fs[i] o) o:=take_of_length_le (by rw [length_drop]; omega)
   rw [hb,Bool.not_true,AI,hd,ht] at hr
   have hdl:(drop (kF fs[i] o) o).length=o.length-kF fs[i] o:=length_drop
   rw [Ad (dcT ⟨by omega,by omega,by first | trivial | rfl,by omega⟩),T2 (by omega),T2 (by omega),T2 (by omega),T2 (by omega),T2 (by omega)] at hr
   rw [hb,Bool.true_and] at h
   have e1:take (kF fs[i] o+1) (take (kF fs[i] o) (take (kF fs[i] o) o)++[fs[i]])++drop (kF fs[i] o) o=C4 o fs[i]:=by
    rw [List.take_take,Nat.min_self,take_of_length_le (by rw [length_append,ht]; simp)]
    unfold C4
    rw [append_assoc]; rfl
   have e2:kF fs[i] o+1+(drop (kF fs[i] o) o).length=(C4 o fs[i]).length:=by rw [H2,hdl]; omega
   rw [e1,e2] at hr
   exact sts hr (G9 l0 fs hf j (i+1) (C4 o fs[i]) (by omega) (by rw [H2]; omega) e d' h)
theorem Ov:Aq prog (Aa [(49,.rd1 BZ)]) (Aa [(3,Dx),(8,Dw)]) 0 (f28.body.getD .skip):=by
 refine LoopsI.loops (cs:=[body f28 0,body f28 1]) ?_ (by kernel_rfl)
 refine .cons (ent:=Dx) (by rfl) (fun d ex d' h=>?_) (.cons (ent:=Dw) (by rfl) (fun d ex d' h=>?_) .nil)
 ·unfold Dx at h
  dsimp only at h
  split at h
  ·rename_i l0 m fs c i o
   obtain ⟨hc,hx⟩:=Af h
   clear h
   obtain ⟨k1,k2,k3,k4,k5,k6⟩:=of_decide_eq_true hc
   obtain ⟨j,rfl⟩:=eq_ofNat_of_zero_le k1
   simp only [ntN] at k2 k6 hx
   subst k3 k4
   exact G9 l0 fs k5 (fs.length-j) j o (by omega) k6 ex d' hx
  ·cases h
 ·unfold Dw at h
  dsimp only at h
  split at h
  ·rename_i l0 m k fs c i o f0 f1 f2 f3
   obtain ⟨hc,hx⟩:=Af h
   clear h
   obtain ⟨k1,k2,rfl,k4⟩:=of_decide_eq_true hc
   obtain ⟨j,rfl⟩:=eq_ofNat_of_zero_le k1
   simp only [ntN] at k2 hx
   obtain ⟨rfl,rfl⟩:=lfP hx
   exact G8 l0 fs c i o f0 f1 f2 f3 k4 (o.length-j) j (by omega)
  ·cases h
theorem sfo:Ag prog 28 (Ent.rd1 Ow).F:=by
 refine fcC (kc func49 Jm KnowsL.nil).knows (Λ:=(Aa [(3,Dx),(8,Dw)])) func28 fun vs bs r hq=>?_
 unfold Ent.F Ow at hq
 dsimp only at hq
 split at hq
 ·rename_i l
  obtain ⟨hc,hx⟩:=Af hq
  have hc:=of_decide_eq_true hc
  refine ⟨Ov,(L1 l).trans (Eq.trans ?_ hx)⟩
  try dsimp only [shr]
  show _=some _
  rw [Ad (dcT ⟨by omega,by omega,by first | trivial | rfl,by first | trivial | rfl,hc,by omega⟩)]
  simp only [A9,drop_zero]
  unfold EF L2
  cases l.all As with
  | false=>rfl
  | true=>
   rw [BT]
   by_cases q:l.length<=40
   ·rw [Ae (dcF (by omega)),dcT q]; rfl
   ·rw [Ah (dcT (by omega)),dcF q]; rfl
 ·cases hq
def spE (o:Cur×By×By×Nat->By×Cur):LoopEnt:=⟨67,[0,1,2,7],[1],[],fun
 | ([.ptr 0 0,.s t,.s w,.j n],[some (.box [.sl (.int .u8) l,.j a,.i .u64 s])])=>.need (decide (0<=n/\n<=2/\1<=w.length/\w.length<=100/\t.length<=100000-n.toNat/\(Cur.mk l a s).good (80000100-6*n))) (.leaf (.exit 0,([.s (o ((Cur.mk l a s),t,w,n.toNat)).1],[some (cB (o ((Cur.mk l a s),t,w,n.toNat)).2)])))
 | _=>.no⟩
def KK (f:(By)->(By)->Cur->(By)×Cur):Gm
 | [.ptr 0 0,.s t,.s w],[.box [.sl (.int .u8) l,.j a,.i .u64 s]]=>.need (decide (1<=w.length/\w.length<=100/\t.length<=90000/\(Cur.mk l a s).good 80000000)) (.leaf (.s (f t w (Cur.mk l a s)).1,[some (cB (f t w (Cur.mk l a s)).2)]))
 | _,_=>.no
theorem Ep (o:Cur×By×By×Nat->By×Cur) (l:List Int) (a s:Int) (t w:By) (n:Int):A4 prog (Aa [(40,.own BF)]) (Aa [(2,spE o)]) 1 (body f39 0) (spE o) ([.ptr 0 0,.s t,.s w,.j n],[some (.box [.sl (.int .u8) l,.j a,.i .u64 s])]) =
 ((shr ((Cur.mk l a s).pickC (↑t.length:Int)) fun sh5=>shr (take (t.length-((Cur.mk l a s).pickV (↑t.length:Int)).toNat) (drop ((Cur.mk l a s).pickV
 (↑t.length:Int)).toNat t)) fun sh4=>shr (sh5.pickC (↑w.length:Int)) fun sh3=>shr (take (t.length-(i64.wrap ((Cur.mk l a s).pickV (↑t.length:Int)
 + (1:Int))).toNat) (drop (i64.wrap ((Cur.mk l a s).pickV (↑t.length:Int)+(1:Int))).toNat t)) fun sh2=>shr (take (((Cur.mk l a s).pickV
 (↑t.length:Int)).toNat-0) (drop 0 t)) fun sh1=>ifB (decide (n>0)) (ifB (decide ((↑t.length:Int)>(0:Int))) (ifT (decide ((Cur.mk l a
 s).good (900000000:Int))) (ifT (decide (sh5.good (900000000:Int))) (ifT (decide ((0:Int)<=sh5.pickV (↑w.length:Int))) (Ax w[(sh5.pickV (↑w.length :
 Int)).toNat]? fun z=>ifT (decide (sh3.good (900000000:Int))) (ifB (sh3.pickV (3:Int)==(0:Int)) (ifT (decide ((0:Int)<=(Cur.mk l a s).pickV (↑t.length:Int))
 && decide ((Cur.mk l a s).pickV (↑t.length:Int)<=(↑t.length:Int))) (ifT (decide (sh1.length+1<=9223372036854775807)) (ifT (decide ((0:Int)<=
 (Cur.mk l a s).pickV (↑t.length:Int))&&decide ((Cur.mk l a s).pickV (↑t.length:Int)<=(↑t.length:Int))) (ifT (decide ((sh1++List.map (fun n=>UInt8.ofNat
 n.toNat) ((↑z.toNat:Int)::An (Cd.int .u8).den)).length+sh4.length<=9223372036854775807)) (some (Ex.normal,[V.ptr 0 0,V.s (sh1++List.map (fun n=>
 UInt8.ofNat n.toNat) ((↑z.toNat:Int)::An (Cd.int .u8).den)++sh4),V.s w,V.j (i64.wrap (n-1))],[some (Blk.box [V.sl (Cd.int .u8) (sh3.pickC (3 :
 Int)).l,V.j (sh3.pickC (3:Int)).a,V.i .u64 (sh3.pickC (3:Int)).s])])))))) (ifB (sh3.pickV (3:Int)==(1:Int)) (ifT (decide ((0:Int)<=(Cur.mk l a
 s).pickV (↑t.length:Int))&&decide ((Cur.mk l a s).pickV (↑t.length:Int)<=(↑t.length:Int))) (ifT (decide (sh1.length+1<=9223372036854775807))
 (ifT (decide (0<=i64.wrap ((Cur.mk l a s).pickV (↑t.length:Int)+(1:Int)))&&decide (i64.wrap ((Cur.mk l a s).pickV (↑t.length:Int)+(1:Int))
 <= (↑t.length:Int))) (ifT (decide ((sh1++List.map (fun n=>UInt8.ofNat n.toNat) ((↑z.toNat:Int)::An (Cd.int .u8).den)).length+sh2.length<=
 9223372036854775807)) (some (Ex.normal,[V.ptr 0 0,V.s (sh1++List.map (fun n=>UInt8.ofNat n.toNat) ((↑z.toNat:Int)::An (Cd.int .u8).den)++sh2),V.s
 w,V.j (i64.wrap (n-1))],[some (Blk.box [V.sl (Cd.int .u8) (sh3.pickC (3:Int)).l,V.j (sh3.pickC (3:Int)).a,V.i .u64 (sh3.pickC (3 :
 Int)).s])])))))) (ifT (decide ((0:Int)<=(Cur.mk l a s).pickV (↑t.length:Int))&&decide ((Cur.mk l a s).pickV (↑t.length:Int)<=(↑t.length:Int))) (ifT (decide (0
 <= i64.wrap ((Cur.mk l a s).pickV (↑t.length:Int)+(1:Int)))&&decide (i64.wrap ((Cur.mk l a s).pickV (↑t.length:Int)+(1:Int))<=(↑t.length :
 Int))) (ifT (decide (sh1.length+sh2.length<=9223372036854775807)) (some (Ex.normal,[V.ptr 0 0,V.s (sh1++sh2),V.s w,V.j (i64.wrap (n-1))],
 [some (Blk.box [V.sl (Cd.int .u8) (sh3.pickC (3:Int)).l,V.j (sh3.pickC (3:Int)).a,V.i .u64 (sh3.pickC (3:Int)).s])]))))))))))) (some (Ex.exit 0,[V.s t],
 [some (Blk.box [V.sl (Cd.int .u8) l,V.j a,V.i .u64 s])]))) (some (Ex.exit 0,[V.s t],[some (Blk.box [V.sl (Cd.int .u8) l,V.j a,V.i .u64 s])]))):_):=by kernel_rfl
theorem JJ : ∀ x:Cur×By×By×Nat,(x.2.2.2<=2/\1<=x.2.2.1.length/\x.2.2.1.length<=100/\x.2.1.length<=100000-x.2.2.2/\x.1.good (80000100-6*(x.2.2.2:Int)))->
    ∃ y:By×Cur,(∀ o,Runs prog (Aa [(40,.own BF)]) (Aa [(2,spE o)]) 1 (body f39 0) (spE o) ((fun x:Cur×By×By×Nat=>([.ptr 0 0,.s x.2.1,.s x.2.2.1,.j (x.2.2.2:Int)],[some (cB x.1)])) x) ((fun y:By×Cur=>(((.exit 0:Ex),([.s y.1],[some (cB y.2)])):Ex×Dt)) y).1 ((fun y:By×Cur=>(((.exit 0:Ex),([.s y.1],[some (cB y.2)])):Ex×Dt)) y).2)/\((∀ n,x.1.good n->n<=80000100-6*(x.2.2.2:Int)->y.2.good (n+6*(x.2.2.2:Int)))/\y.1.length<=x.2.1.length+x.2.2.2):=by
  refine FE (ι:=Cur×By×By×Nat->By×Cur) (fun _=>([],Cur.mk [] 0 0)) (Λ:=fun o=>(Aa [(2,spE o)])) (ent:=fun o=>spE o) (fun x:Cur×By×By×Nat=>([.ptr 0 0,.s x.2.1,.s x.2.2.1,.j (x.2.2.2:Int)],[some (cB x.1)])) (fun y:By×Cur=>(((.exit 0:Ex),([.s y.1],[some (cB y.2)])):Ex×Dt)) (fun y=>by simp) _ _ (fun x=>x.2.2.2) (fun o x _=>(Ep o x.1.l x.1.a x.1.s x.2.1 x.2.2.1 (x.2.2.2:Int)).trans (Ep _ x.1.l x.1.a x.1.s x.2.1 x.2.2.1 (x.2.2.2:Int)).symm) ?_
  rintro ⟨c,t,w,n⟩ ⟨h1,h2,h3,h4,h5⟩
  dsimp only at h1 h2 h3 h4 h5 ⊢
  by_cases hn:0<n/\0<t.length
  · right
    obtain ⟨n,rfl⟩ : ∃ m,n=m+1:=⟨n-1,by omega⟩
    refine Ex1.of (Ep _ c.l c.a c.s t w ((n+1:Nat):Int)) ?_
    have hpt:=Cur.pickV_range (c:=c) (k:=(t.length:Int)) h5 (by omega)
    have w1:i64.wrap (((n+1:Nat):Int)-1)=(n:Int):=by rw [Ak (by omega) (by omega)]; omega
    have w2:i64.wrap (c.pickV (t.length:Int)+1)=c.pickV (t.length:Int)+1:=Ak (by omega) (by omega)
    have pw:=Nq (W:=w) (c:=c.pickC (t.length:Int)) (n:=80000200) (Cur.pk (Cur.good_mono h5 (by omega))) h2
    have pw0:=(Cur.pickV_range (c:=c.pickC (t.length:Int)) (n:=80000200) (k:=(w.length:Int)) (Cur.pk (Cur.good_mono h5 (by omega))) (by omega)).1
    repeat with_reducible refine Ex1.sh ?_
    rw [Ah (dcT (by omega)),Ah (dcT (by omega))]
    simp only [BL,show Cur.mk c.l c.a c.s=c from rfl,w1,w2]
    have fin : ∀ (c':Cur) (t':By),(∀ m,c.good m->c'.good (m+6))->t'.length<=t.length+1->
        ((n<=2/\1<=w.length/\w.length<=100/\t'.length<=100000-n/\c'.good (80000100-6*(n:Int)))/\n<n+1/\∀ y:By×Cur,((∀ m,c'.good m->m<=80000100-6*(n:Int)->y.2.good (m+6*(n:Int)))/\y.1.length<=t'.length+n)->((∀ m,c.good m->m<=80000100-6*((n+1:Nat):Int)->y.2.good (m+6*((n+1:Nat):Int)))/\y.1.length<=t.length+(n+1))):=fun c' t' k1 k2=>by
      refine ⟨⟨by omega,h2,h3,by omega,Cur.good_mono (k1 _ h5) (by push_cast; omega)⟩,by omega,fun y hy=>⟨fun m hm hl=>?_,by have:=hy.2; omega⟩⟩
      exact Cur.good_mono (hy.1 (m+6) (k1 m hm) (by push_cast at hl; omega)) (by push_cast; omega)
    repeat' first
      | with_reducible refine Ex1.B (fun h=>?_) (fun h=>?_)
      | with_reducible refine Ex1.T ?_ ?_
      | with_reducible refine Ex1.S (PI pw) fun z hz=>?_
    all_goals try simp only [BL]
    all_goals first
      | (refine dcT ?_; (repeat with_reducible apply Cur.pk); exact Cur.good_mono h5 (by omega))
      | exact dcT pw0
      | (simp only [anE,dcE]; omega)
      | (simp only [dcE,length_append,length_take,length_drop,length_map,length_cons,length_nil,A9]; omega)
      | (refine Ex1.lc (_,w,n) rfl rfl rfl (fin _ _ (fun m hm=>?_) ?_)
         · (repeat with_reducible apply Cur.pk); exact Cur.good_mono hm (by omega)
         · simp only [length_append,length_take,length_drop,length_map,length_cons,length_nil,A9]; omega)
  · left
    refine Ex1.of (Ep _ c.l c.a c.s t w (n:Int)) ?_
    repeat with_reducible refine Ex1.sh ?_
    have e : ∀ a b:Option (Ex×Dt),ifB (decide ((n:Int)>0)) (ifB (decide ((t.length:Int)>0)) a b) b=b:=fun a b=>by
      by_cases q:0<n
      · rw [Ah (dcT (by omega)),Ae (dcF (by omega))]
      · rw [Ae (dcF (by omega))]
    rw [e]
    exact Ex1.L (t,c) rfl ⟨fun m hm hl=>Cur.good_mono hm (by omega),by dsimp only; omega⟩
noncomputable def Gk:Cur×By×By×Nat->By×Cur:=(DL (Y:=By×Cur) ([],Cur.mk [] 0 0) JJ).choose
theorem NV : ∀ x:Cur×By×By×Nat,(x.2.2.2<=2/\1<=x.2.2.1.length/\x.2.2.1.length<=100/\x.2.1.length<=100000-x.2.2.2/\x.1.good (80000100-6*(x.2.2.2:Int)))->(∀ o,Runs prog (Aa [(40,.own BF)]) (Aa [(2,spE o)]) 1 (body f39 0) (spE o) ((fun x:Cur×By×By×Nat=>([.ptr 0 0,.s x.2.1,.s x.2.2.1,.j (x.2.2.2:Int)],[some (cB x.1)])) x) ((fun y:By×Cur=>(((.exit 0:Ex),([.s y.1],[some (cB y.2)])):Ex×Dt)) (Gk x)).1 ((fun y:By×Cur=>(((.exit 0:Ex),([.s y.1],[some (cB y.2)])):Ex×Dt)) (Gk x)).2)/\((∀ n,x.1.good n->n<=80000100-6*(x.2.2.2:Int)->(Gk x).2.good (n+6*(x.2.2.2:Int)))/\(Gk x).1.length<=x.2.1.length+x.2.2.2):=(DL (Y:=By×Cur) ([],Cur.mk [] 0 0) JJ).choose_spec
theorem Px:Aq prog (Aa [(40,.own BF)]) (Aa [(2,spE Gk)]) 1 (f39.body.getD .skip):=by
 refine Ap (a:=body f39 0) (by kernel_rfl) fun d ex d' h=>?_
 unfold spE at h
 dsimp only at h
 split at h
 ·rename_i t w n l a s
  obtain ⟨hc,hx⟩:=Af h
  obtain ⟨k1,k2,k3,k4,k5,k6⟩:=of_decide_eq_true hc
  obtain ⟨n,rfl⟩:=eq_ofNat_of_zero_le k1
  simp only [ntN] at k5 hx
  obtain ⟨rfl,rfl⟩:=lfP hx
  exact (NV ((Cur.mk l a s),t,w,n) ⟨by dsimp only; omega,k3,k4,k5,k6⟩).1 Gk
 ·cases h
theorem M9 (o:Cur×By×By×Nat->By×Cur) (t w:By) (l:List Int) (a s:Int):Bg prog (Aa [(40,.own BF)]) (Aa [(2,spE o)]) f39 [.ptr 0 0,.s t,.s w] [.box [.sl (.int .u8) l,.j a,.i .u64 s]] =
 ((shr ((Cur.mk l a s).pickC (3:Int)) fun sh2=>shr (o (sh2,t,w,((Cur.mk l a s).pickV (3:Int)).toNat)) fun sh1=>ifT (decide ((Cur.mk l a s).good (900000000:Int)))
 (ifT (decide ((0:Int)<=(Cur.mk l a s).pickV (3:Int)/\(Cur.mk l a s).pickV (3:Int)<=(2:Int)/\1<=w.length/\w.length<=100/\t.length<=(100000
 : Nat)-((Cur.mk l a s).pickV (3:Int)).toNat/\sh2.good ((80000100:Int)-(6:Int)*(Cur.mk l a s).pickV (3:Int)))) (some (V.s sh1.1,[some (Blk.box [V.sl
 (Cd.int .u8) sh1.2.l,V.j sh1.2.a,V.i .u64 sh1.2.s])])))):_):=by kernel_rfl
theorem OV (t w:By) (l:List Int) (a s:Int) (hc:1<=w.length/\w.length<=100/\t.length<=90000/\(Cur.mk l a s).good 80000000):Ex1 (Bg prog (Aa [(40,.own BF)]) (Aa [(2,spE Gk)]) f39 [.ptr 0 0,.s t,.s w] [.box [.sl (.int .u8) l,.j a,.i .u64 s]]) (fun y:(By)×Cur=>((.s y.1,[some (cB y.2)]):V×List (Option Blk))) (fun y=>(∀ n,(Cur.mk l a s).good n->n<=80000000->y.2.good (n+20))/\y.1.length<=t.length+2):=by
 refine Ex1.of (M9 Gk t w l a s) ?_
 obtain ⟨h1,h2,h3,h4⟩:=hc
 have r3:=Cur.pickV_range (k:=3) h4 (by omega)
 obtain ⟨n,hn⟩:=eq_ofNat_of_zero_le r3.1
 repeat with_reducible refine Ex1.sh ?_
 simp only [BL]
 rw [hn] at r3 ⊢
 have g1:(Cur.pickC (Cur.mk l a s) 3).good (80000100-6*(n:Int)):=Cur.pk (Cur.good_mono h4 (by omega))
 have q:=(NV ((Cur.mk l a s).pickC 3,t,w,n) ⟨by dsimp only; omega,h1,h2,by dsimp only; omega,g1⟩).2
 refine Ex1.T (dcT (Cur.good_mono h4 (by omega))) (Ex1.T (dcT ⟨by omega,by omega,h1,h2,by omega,g1⟩) ?_)
 refine Ex1.c (Gk ((Cur.mk l a s).pickC 3,t,w,n)).1 rfl rfl ⟨fun m hm hl=>?_,by have:=q.2; dsimp only at this ⊢; omega⟩
 exact Cur.good_mono (q.1 (m+2) (Cur.pickC_good hm) (by dsimp only; omega)) (by dsimp only; omega)
theorem H8 : ∃ f:(By)->(By)->Cur->(By)×Cur,Ag prog 39 (Ent.own (KK f)).F/\∀ (t w:By) (c:Cur),(1<=w.length/\w.length<=100/\t.length<=90000/\c.good 80000000)->(∀ n,c.good n->n<=80000000->(f t w c).2.good (n+20))/\(f t w c).1.length<=t.length+2:=by
 have ex:=fun (t w:By) (c:Cur) (hc:1<=w.length/\w.length<=100/\t.length<=90000/\c.good 80000000)=>OV t w c.l c.a c.s hc
 classical
 refine ⟨fun t w c=>if h:1<=w.length/\w.length<=100/\t.length<=90000/\c.good 80000000 then (ex t w c h).choose else ([],c),?_,fun t w c hc=>?_⟩
 rotate_left
 ·simp only [dif_pos hc]
  exact (ex t w c hc).choose_spec.2
 refine fcC (kc func40 IS KnowsL.nil).knows (Λ:=(Aa [(2,spE Gk)])) func39 fun vs bs r hq=>?_
 unfold Ent.F KK at hq
 dsimp only at hq
 split at hq
 ·rename_i t w l a s
  obtain ⟨hc,hx⟩:=Af hq
  have hc:=of_decide_eq_true hc
  refine ⟨Px,((ex t w (Cur.mk l a s) hc).choose_spec.1).trans ?_⟩
  rw [dif_pos hc] at hx
  exact hx
 ·cases hq
noncomputable def E7:(By)->(By)->Cur->(By)×Cur:=H8.choose
theorem ND:Ag prog 39 (Ent.own (KK E7)).F:=H8.choose_spec.1
theorem OU : ∀ (t w:By) (c:Cur),(1<=w.length/\w.length<=100/\t.length<=90000/\c.good 80000000)->(∀ n,c.good n->n<=80000000->(E7 t w c).2.good (n+20))/\(E7 t w c).1.length<=t.length+2:=H8.choose_spec.2








def IO (f:Cur->(Int)×Cur):Gm
 | [.ptr 0 0],[.box [.sl (.int .u8) l,.j a,.i .u64 s]]=>.need (decide ((Cur.mk l a s).good 80000000)) (.leaf (.j (f  (Cur.mk l a s)).1,[some (cB (f  (Cur.mk l a s)).2)]))
 | _,_=>.no
theorem Mx {l:List Int} {i:Nat} {a b:Int} (h:l.all (fun x=>decide (a<=x/\x<=b))=true) (h0:a<=0/\0<=b):a<=l.getD i 0/\l.getD i 0<=b:=by
 rw [List.getD_eq_getElem?_getD]
 cases e:l[i]? with
 | none=>exact h0
 | some x=>exact of_decide_eq_true (all_eq_true.1 h x (List.mem_of_getElem? e))
theorem KM   (l:List Int) (a s:Int):Bg prog (Aa [(40,.own BF),(35,.own E9)]) (Aa []) f54 [.ptr 0 0] [.box [.sl (.int .u8) l,.j a,.i .u64 s]] =
 ((ifT (decide ((Cur.mk l a s).good (900000000:Int))) (ifB ((Cur.mk l a s).pickV (6:Int)==(0:Int)) (ifT (decide (((Cur.mk l a s).pickC (6:Int)).good (900000000 :
 Int)/\1<=10/\10<=10)) (some (V.j (((-1000000001:Int)::(-1000000000:Int)::(-1:Int)::(0:Int)::(63:Int)::(64 :
 Int)::(-64:Int)::(-65:Int)::(1000000000:Int)::(1000000001:Int)::An (Cd.int .i64).den).getD (0+(((Cur.mk l a s).pickC (6:Int)).pickV (↑(10
 : Nat):Int)).toNat) (0:(Cd.int .i64).den)),[some (Blk.box [V.sl (Cd.int .u8) (((Cur.mk l a s).pickC (6:Int)).pickC (↑(10:Nat):Int)).l,V.j (((Cur.mk l a
 s).pickC (6:Int)).pickC (↑(10:Nat):Int)).a,V.i .u64 (((Cur.mk l a s).pickC (6:Int)).pickC (↑(10:Nat):Int)).s])]))) (ifB ((Cur.mk l a s).pickV (6:Int)==(1
 : Int)) (ifT (decide (((Cur.mk l a s).pickC (6:Int)).good (900000000:Int))) (some (V.j (i64.wrap (((Cur.mk l a s).pickC (6:Int)).pickV (100000:Int) -
 (50000:Int))),[some (Blk.box [V.sl (Cd.int .u8) (((Cur.mk l a s).pickC (6:Int)).pickC (100000:Int)).l,V.j (((Cur.mk l a s).pickC (6:Int)).pickC (100000 :
 Int)).a,V.i .u64 (((Cur.mk l a s).pickC (6:Int)).pickC (100000:Int)).s])]))) (ifT (decide (((Cur.mk l a s).pickC (6:Int)).good (900000000:Int))) (some (V.i .i64
 (i64.wrap (((Cur.mk l a s).pickC (6:Int)).pickV (20:Int)-(5:Int))),[some (Blk.box [V.sl (Cd.int .u8) (((Cur.mk l a s).pickC (6:Int)).pickC (20 :
 Int)).l,V.j (((Cur.mk l a s).pickC (6:Int)).pickC (20:Int)).a,V.i .u64 (((Cur.mk l a s).pickC (6:Int)).pickC (20:Int)).s])])))))):_):=by kernel_rfl
theorem NI  (l:List Int) (a s:Int) (hc:(Cur.mk l a s).good 80000000):Ex1 (Bg prog (Aa [(40,.own BF),(35,.own E9)]) (Aa []) f54 [.ptr 0 0] [.box [.sl (.int .u8) l,.j a,.i .u64 s]]) (fun y:(Int)×Cur=>((.j y.1,[some (cB y.2)]):V×List (Option Blk))) (fun y=>(∀ n,(Cur.mk l a s).good n->n<=80000000->y.2.good (n+8))/\(-2000000000<=y.1/\y.1<=2000000000)):=by
 refine Ex1.of (KM   l a s) ?_
 have r1:=fun {c:Cur} {k:Int} (h:c.good 80000100) (hk:1<=k)=>Cur.pickV_range (c:=c) (n:=80000100) (k:=k) h hk
 have ra:=r1 (c:=((Cur.mk l a s).pickC 6)) (k:=100000) (Cur.pk (Cur.good_mono hc (by omega))) (by omega)
 have rb:=r1 (c:=((Cur.mk l a s).pickC 6)) (k:=20) (Cur.pk (Cur.good_mono hc (by omega))) (by omega)
 simp only [BL,A9,Nat.zero_add]
 rw [Ak (n:=((Cur.mk l a s).pickC 6).pickV 100000-50000) (by omega) (by omega),Ak (n:=((Cur.mk l a s).pickC 6).pickV 20-5) (by omega) (by omega)]
 repeat' first
  | with_reducible refine Ex1.B (fun h=>?_) (fun h=>?_)
  | with_reducible refine Ex1.T ?_ ?_
 all_goals first
  | (refine dcT ?_; (repeat with_reducible apply Cur.pk); exact Cur.good_mono hc (by omega))
  | (refine dcT ⟨?_,by omega,by omega⟩; (repeat with_reducible apply Cur.pk); exact Cur.good_mono hc (by omega))
  | refine Ex1.c _ rfl rfl ⟨fun n hn hm=>by (repeat with_reducible apply Cur.pk); exact Cur.good_mono hn (by omega),?_⟩
 all_goals first
  | omega
  | exact Mx (by decide +kernel) (by omega)
theorem FW : ∃ f:Cur->(Int)×Cur,Ag prog 54 (Ent.own (IO f)).F/\∀  (c:Cur),(c.good 80000000)->(∀ n,c.good n->n<=80000000->(f  c).2.good (n+8))/\(-2000000000<=(f  c).1/\(f  c).1<=2000000000):=by
 have ex:=fun  (c:Cur) (hc:c.good 80000000)=>NI  c.l c.a c.s hc
 classical
 refine ⟨fun  c=>if h:c.good 80000000 then (ex  c h).choose else (0,c),?_,fun  c hc=>?_⟩
 rotate_left
 ·simp only [dif_pos hc]
  exact (ex  c hc).choose_spec.2
 refine fcC (kc func40 IS (kc func35 MS KnowsL.nil)).knows (Λ:=(Aa [])) func54 fun vs bs r hq=>?_
 unfold Ent.F IO at hq
 dsimp only at hq
 split at hq
 ·rename_i  l a s
  obtain ⟨hc,hx⟩:=Af hq
  have hc:=of_decide_eq_true hc
  refine ⟨Am _,((ex  (Cur.mk l a s) hc).choose_spec.1).trans ?_⟩
  rw [dif_pos hc] at hx
  exact hx
 ·cases hq
noncomputable def DA:Cur->(Int)×Cur:=FW.choose
theorem MG:Ag prog 54 (Ent.own (IO DA)).F:=FW.choose_spec.1
theorem NH : ∀  (c:Cur),(c.good 80000000)->(∀ n,c.good n->n<=80000000->(DA  c).2.good (n+8))/\(-2000000000<=(DA  c).1/\(DA  c).1<=2000000000):=FW.choose_spec.2
def GX (f:Cur->(Int)×Cur):Gm
 | [.ptr 0 0],[.box [.sl (.int .u8) l,.j a,.i .u64 s]]=>.need (decide ((Cur.mk l a s).good 80000000)) (.leaf (.j (f  (Cur.mk l a s)).1,[some (cB (f  (Cur.mk l a s)).2)]))
 | _,_=>.no
def Cur.room (c:Cur) (k:Nat):Prop:=c.good (60000000-(k:Int))
instance (c:Cur) (k:Nat):Decidable (c.room k):=by unfold Cur.room; exact inferInstance
theorem KL (f:Cur->(Int)×Cur)  (l:List Int) (a s:Int):Bg prog (Aa [(54,.own (IO f)),(55,.rd1 Gq)]) (Aa []) f36 [.ptr 0 0] [.box [.sl (.int .u8) l,.j a,.i .u64 s]] =
 ((ifT (decide ((Cur.mk l a s).good (80000000:Int))) (ifB (!CA (f (Cur.mk l a s)).1) (some (V.j 7,[some (Blk.box [V.sl (Cd.int .u8) (f (Cur.mk l a s)).2.l,V.i
 .i64 (f (Cur.mk l a s)).2.a,V.i .u64 (f (Cur.mk l a s)).2.s])])) (some (V.j (f (Cur.mk l a s)).1,[some (Blk.box [V.sl (Cd.int .u8) (f (Cur.mk l a s)).2.l,
 V.j (f (Cur.mk l a s)).2.a,V.i .u64 (f (Cur.mk l a s)).2.s])])))):_):=by kernel_rfl
theorem NF  (l:List Int) (a s:Int) (hc:(Cur.mk l a s).good 80000000):Ex1 (Bg prog (Aa [(54,.own (IO DA)),(55,.rd1 Gq)]) (Aa []) f36 [.ptr 0 0] [.box [.sl (.int .u8) l,.j a,.i .u64 s]]) (fun y:(Int)×Cur=>((.j y.1,[some (cB y.2)]):V×List (Option Blk))) (fun y=>(∀ n,(Cur.mk l a s).good n->n<=80000000->y.2.good (n+8))/\CA y.1=true):=by
 refine Ex1.of (KL DA  l a s) ?_
 obtain ⟨p1,p2⟩:=NH (Cur.mk l a s) hc
 simp only [BL]
 refine Ex1.T (dcT hc) (Ex1.B (fun h=>?_) (fun h=>?_))
 all_goals refine Ex1.c _ rfl rfl ⟨p1,?_⟩
 ·show CA 7=true; decide +kernel
 ·show CA (DA (Cur.mk l a s)).1=true; cases e:CA (DA (Cur.mk l a s)).1; rw [e] at h; cases h; rfl
theorem FV : ∃ f:Cur->(Int)×Cur,Ag prog 36 (Ent.own (GX f)).F/\∀  (c:Cur),(c.good 80000000)->(∀ n,c.good n->n<=80000000->(f  c).2.good (n+8))/\CA (f  c).1=true:=by
 have ex:=fun  (c:Cur) (hc:c.good 80000000)=>NF  c.l c.a c.s hc
 classical
 refine ⟨fun  c=>if h:c.good 80000000 then (ex  c h).choose else (0,c),?_,fun  c hc=>?_⟩
 rotate_left
 ·simp only [dif_pos hc]
  exact (ex  c hc).choose_spec.2
 refine fcC (kc func54 MG (kc func55 Ob KnowsL.nil)).knows (Λ:=(Aa [])) func36 fun vs bs r hq=>?_
 unfold Ent.F GX at hq
 dsimp only at hq
 split at hq
 ·rename_i  l a s
  obtain ⟨hc,hx⟩:=Af hq
  have hc:=of_decide_eq_true hc
  refine ⟨Am _,((ex  (Cur.mk l a s) hc).choose_spec.1).trans ?_⟩
  rw [dif_pos hc] at hx
  exact hx
 ·cases hq
noncomputable def C8:Cur->(Int)×Cur:=FV.choose
theorem MA:Ag prog 36 (Ent.own (GX C8)).F:=FV.choose_spec.1
theorem NE : ∀  (c:Cur),(c.good 80000000)->(∀ n,c.good n->n<=80000000->(C8  c).2.good (n+8))/\CA (C8  c).1=true:=FV.choose_spec.2
def CO (o:Cur×List WFd×Nat->List WFd×Cur):LoopEnt:=⟨40,[0,3,4],[0,3],[],fun
 | ([.ptr 0 0,.ref 1 0 m,.j n],[some (.box [.sl (.int .u8) l,.j a,.i .u64 s]),R0 FCd u])=>.need (decide (1<=n/\n<=7/\m=u.length/\u.length<=n.toNat/\(Cur.mk l a s).good (70000200-14*(7-n)))) (.leaf (.exit 0,([.ptr 0 0,.ref 1 0 (o ((Cur.mk l a s),u,n.toNat)).1.length],[some (cB (o ((Cur.mk l a s),u,n.toNat)).2),R0 FCd (o ((Cur.mk l a s),u,n.toNat)).1])))
 | _=>.no⟩
def J5 (f:Cur->(By)×Cur):Gm
 | [.ptr 0 0],[.box [.sl (.int .u8) l,.j a,.i .u64 s]]=>.need (decide ((Cur.mk l a s).good 70000000)) (.leaf (.s (f  (Cur.mk l a s)).1,[some (cB (f  (Cur.mk l a s)).2)]))
 | _,_=>.no
theorem CZ (f:Cur->(Int)×Cur) (g:By->By->Cur->(By)×Cur) (o:Cur×List WFd×Nat->List WFd×Cur) (m:Nat) (n:Int) (l:List Int) (a s:Int) (u:List WFd):A4 prog (Aa [(16,.own EZ),(36,.own (GX f)),(37,.own MM),(38,.rd1 M3),(39,.own (KK g))]) (Aa [(3,CO o)]) 1 (body f15 0) (CO o) ([.ptr 0 0,.ref 1 0 m,.j n],[some (.box [.sl (.int .u8) l,.j a,.i .u64 s]),R0 FCd u]) =
 ((shr (take m (drop 0 u)) fun sh3=>shr ((Cur.mk l a s).pickC (2:Int)) fun sh2=>shr ((f sh2).2.pickC (3:Int)) fun sh1=>ifB (decide (n<7)) (ifT
 (decide ((Cur.mk l a s).good (900000000:Int))) (ifB ((Cur.mk l a s).pickV (2:Int)==(0:Int)) (ifT (decide (sh2.good (80000000:Int))) (ifT (decide ((f
 sh2).2.good (900000000:Int))) (ifB ((f sh2).2.pickV (3:Int)==(0:Int)) (ifT (decide (sh1.good (900000000:Int)/\1<=3/\3<=(3 :
 Nat))) (ifT (decide ((m+1)*40<=140737488355328)&&decide (m+1<=maxI)) (some (Ex.normal,[V.ptr 0 0,V.ref 1 0 (m+1),
 V.j (i64.wrap (n+1))],[some (Blk.box [V.sl (Cd.int .u8) (sh1.pickC (↑(3:Nat):Int)).l,V.j (sh1.pickC (↑(3:Nat):Int)).a,V.i .u64 (sh1.pickC
 (↑(3:Nat):Int)).s]),R0 FCd (sh3++(n,(2:Int),(0:Int),(An UInt8::((97:UInt8)::(98:UInt8)::An UInt8)::((116:UInt8)::
 (101:UInt8)::(120:UInt8)::(116:UInt8)::An UInt8)::An Cd.str.den).getD (0+(sh1.pickV (↑(3:Nat):Int)).toNat) (An UInt8),())::An
 FCd.den)])))) (ifT (decide ((m+1)*40<=140737488355328)&&decide (m+1<=maxI)) (some (Ex.normal,[V.ptr 0 0,V.ref 1 0 (m+(1 :
 Nat)),V.j (i64.wrap (n+1))],[some (Blk.box [V.sl (Cd.int .u8) sh1.l,V.j sh1.a,V.i .u64 sh1.s]),R0 FCd (sh3++(n,(0 :
 Int),(f sh2).1,An UInt8,())::An FCd.den)])))))) (some (Ex.normal,[V.ptr 0 0,V.ref 1 0 m,V.j (i64.wrap (n+1))],[some (Blk.box [V.sl (Cd.int
 .u8) sh2.l,V.j sh2.a,V.i .u64 sh2.s]),R0 FCd u])))) (some (Ex.exit 0,[V.ptr 0 0,V.ref 1 0 m],[some (Blk.box [V.sl (Cd.int .u8) l,V.i
 .i64 a,V.i .u64 s]),R0 FCd u]))):_):=by kernel_rfl
noncomputable abbrev NP:FuncId->Option Ent:=Aa [(16,.own EZ),(36,.own (GX C8)),(37,.own MM),(38,.rd1 M3),(39,.own (KK E7))]
theorem GC : ∀ x:Cur×List WFd×Nat,(1<=x.2.2/\x.2.2<=7/\x.2.1.length<=x.2.2/\x.1.good (70000200-14*(7-(x.2.2:Int))))->∃ y:List WFd×Cur,(∀ o,Runs prog NP (Aa [(3,CO o)]) 1 (body f15 0) (CO o) ((fun x:Cur×List WFd×Nat=>([.ptr 0 0,.ref 1 0 x.2.1.length,.j (x.2.2:Int)],[some (cB x.1),R0 FCd x.2.1])) x) ((fun y:List WFd×Cur=>(((.exit 0:Ex),([.ptr 0 0,.ref 1 0 y.1.length],[some (cB y.2),R0 FCd y.1])):Ex×Dt)) y).1 ((fun y:List WFd×Cur=>(((.exit 0:Ex),([.ptr 0 0,.ref 1 0 y.1.length],[some (cB y.2),R0 FCd y.1])):Ex×Dt)) y).2)/\(∀ n,x.1.good n->n<=70000200-14*(7-(x.2.2:Int))->y.2.good (n+14*(7-(x.2.2:Int)))):=by
  refine FE (ι:=Cur×List WFd×Nat->List WFd×Cur) (fun _=>([],Cur.mk [] 0 0)) (Λ:=fun o=>(Aa [(3,CO o)])) (ent:=fun o=>CO o) (fun x:Cur×List WFd×Nat=>([.ptr 0 0,.ref 1 0 x.2.1.length,.j (x.2.2:Int)],[some (cB x.1),R0 FCd x.2.1])) (fun y:List WFd×Cur=>(((.exit 0:Ex),([.ptr 0 0,.ref 1 0 y.1.length],[some (cB y.2),R0 FCd y.1])):Ex×Dt)) (fun y=>by simp) _ _ (fun x=>7-x.2.2) (fun o x _=>(CZ C8 E7 o x.2.1.length (x.2.2:Int) x.1.l x.1.a x.1.s x.2.1).trans (CZ C8 E7 _ x.2.1.length (x.2.2:Int) x.1.l x.1.a x.1.s x.2.1).symm) ?_
  rintro ⟨c,u,n⟩ ⟨h1,h2,h3,h4⟩
  dsimp only at h1 h2 h3 h4 ⊢
  have hM:=mxI
  by_cases hn:n<7
  · right
    refine Ex1.of (CZ C8 E7 _ u.length (n:Int) c.l c.a c.s u) ?_
    repeat with_reducible refine Ex1.sh ?_
    rw [Ah (dcT (by omega))]
    have sm:=fun (c':Cur) (m:Int) (hc:c'.good m) (hm:m<=80000000)=>(NE c' (Cur.good_mono hc hm)).1 m hc hm
    have g1:=Cur.pickC_good (k:=2) h4
    have g2:=sm (c.pickC 2) _ g1 (by omega)
    simp only [BL,show Cur.mk c.l c.a c.s=c from rfl,AY (n:=n) (by omega),A9,drop_zero,take_length]
    have fin : ∀ (c':Cur) (w:List WFd),(∀ m,c.good m->m<=70000200-14*(7-(n:Int))->c'.good (m+14))->w.length<=n+1->
        ((1<=n+1/\n+1<=7/\w.length<=n+1/\c'.good (70000200-14*(7-((n+1:Nat):Int))))/\7-(n+1)<7-n/\∀ y:List WFd×Cur,(∀ m,c'.good m->m<=70000200-14*(7-((n+1:Nat):Int))->y.2.good (m+14*(7-((n+1:Nat):Int))))->(∀ m,c.good m->m<=70000200-14*(7-(n:Int))->y.2.good (m+14*(7-(n:Int))))):=fun c' w k1 k2=>by
      refine ⟨⟨by omega,by omega,k2,Cur.good_mono (k1 _ h4 (by omega)) (by push_cast; omega)⟩,by omega,fun y hy m hm hl=>?_⟩
      exact Cur.good_mono (hy (m+14) (k1 m hm hl) (by push_cast; omega)) (by push_cast; omega)
    have s1 : ∀ m,c.good m->m<=70000200-14*(7-(n:Int))->(C8 (c.pickC 2)).2.good (m+10):=fun m hm hl=>Cur.good_mono (sm (c.pickC 2) (m+2) (Cur.pickC_good hm) (by omega)) (by omega)
    generalize C8 (c.pickC 2)=G at *
    obtain ⟨v,c2⟩:=G
    dsimp only at *
    repeat' first
      | with_reducible refine Ex1.B (fun h=>?_) (fun h=>?_)
      | with_reducible refine Ex1.T ?_ ?_
    all_goals try simp only [BL]
    all_goals first
      | (refine dcT ?_; (repeat with_reducible apply Cur.pk); exact Cur.good_mono h4 (by omega))
      | exact dcT (Cur.good_mono g2 (by omega))
      | (refine dcT ⟨?_,by omega,by omega⟩; (repeat with_reducible apply Cur.pk); exact Cur.good_mono g2 (by omega))
      | (simp only [anE,dcE]; omega)
      | exact Ex1.lc (u,n+1) rfl rfl rfl (fin (c.pickC 2) u (fun m hm hl=>Cur.good_mono (Cur.pickC_good hm) (by omega)) (by omega))
      | (refine Ex1.lc (u++[_],n+1) rfl (by simp) rfl (fin _ _ (fun m hm hl=>?_) (by simp; omega))
         (repeat with_reducible apply Cur.pk); exact Cur.good_mono (s1 m hm hl) (by omega))
  · left
    refine Ex1.of (CZ C8 E7 _ u.length (n:Int) c.l c.a c.s u) ?_
    repeat with_reducible refine Ex1.sh ?_
    rw [Ae (dcF (by omega))]
    exact Ex1.L (u,c) rfl (fun m hm hl=>Cur.good_mono hm (by omega))
noncomputable def CH:Cur×List WFd×Nat->List WFd×Cur:=(DL (Y:=List WFd×Cur) ([],Cur.mk [] 0 0) GC).choose
theorem JO : ∀ x:Cur×List WFd×Nat,(1<=x.2.2/\x.2.2<=7/\x.2.1.length<=x.2.2/\x.1.good (70000200-14*(7-(x.2.2:Int))))->(∀ o,Runs prog NP (Aa [(3,CO o)]) 1 (body f15 0) (CO o) ((fun x:Cur×List WFd×Nat=>([.ptr 0 0,.ref 1 0 x.2.1.length,.j (x.2.2:Int)],[some (cB x.1),R0 FCd x.2.1])) x) ((fun y:List WFd×Cur=>(((.exit 0:Ex),([.ptr 0 0,.ref 1 0 y.1.length],[some (cB y.2),R0 FCd y.1])):Ex×Dt)) (CH x)).1 ((fun y:List WFd×Cur=>(((.exit 0:Ex),([.ptr 0 0,.ref 1 0 y.1.length],[some (cB y.2),R0 FCd y.1])):Ex×Dt)) (CH x)).2)/\(∀ n,x.1.good n->n<=70000200-14*(7-(x.2.2:Int))->(CH x).2.good (n+14*(7-(x.2.2:Int)))):=(DL (Y:=List WFd×Cur) ([],Cur.mk [] 0 0) GC).choose_spec
theorem Nl:Aq prog NP (Aa [(3,CO CH)]) 1 (f15.body.getD .skip):=by
 refine Ap (a:=body f15 0) (by kernel_rfl) fun d ex d' h=>?_
 unfold CO at h
 dsimp only at h
 split at h
 ·rename_i m n l a s u
  obtain ⟨hc,hx⟩:=Af h
  obtain ⟨k1,k2,rfl,k4,k5⟩:=of_decide_eq_true hc
  obtain ⟨n,rfl⟩:=eq_ofNat_of_zero_le (show 0<=n by omega)
  simp only [ntN] at k4 hx
  obtain ⟨rfl,rfl⟩:=lfP hx
  exact (JO ((Cur.mk l a s),u,n) ⟨by dsimp only; omega,by dsimp only; omega,k4,k5⟩).1 CH
 ·cases h
theorem N7 (l:List WFd):(bif Fi l then fbs l else []).length<=400:=by
 unfold Fi
 cases h:(l.all Bp&&(decide (l.length<=40)&&decide ((fbs l).length<=400))) with
 | false=>simp
 | true=>
  simp only [anE,dcE] at h
  exact h.2.2
theorem MB (f:Cur->(Int)×Cur) (g:By->By->Cur->(By)×Cur) (o:Cur×List WFd×Nat->List WFd×Cur)  (l:List Int) (a s:Int):Bg prog (Aa [(16,.own EZ),(36,.own (GX f)),(37,.own MM),(38,.rd1 M3),(39,.own (KK g))]) (Aa [(3,CO o)]) f15 [.ptr 0 0] [.box [.sl (.int .u8) l,.j a,.i .u64 s]] =
 ((shr (o (Cur.mk l a s,An FCd.den,1)) fun sh2=>shr (take sh2.1.length (drop 0 sh2.1)) fun sh1=>ifT (decide ((1:Int)<=(1:Int)/\(1
 : Int)<=(7:Int)/\0=0/\0<=1/\(Cur.mk l a s).good (70000116:Int))) (ifT (decide (sh2.2.good (900000000:Int))) (ifB
 (sh2.2.pickV (12:Int)==(0:Int)) (ifT (decide (1<=3/\3<=100/\(bif Fi sh1 then fbs sh1 else An UInt8).length<=90000
 /\ (sh2.2.pickC (12:Int)).good (80000000:Int))) (some (V.s (g (bif Fi sh1 then fbs sh1 else An UInt8) [(0:UInt8),(8:UInt8),(18:UInt8)] (sh2.2.pickC (12
 : Int))).1,[some (Blk.box [V.sl (Cd.int .u8) (g (bif Fi sh1 then fbs sh1 else An UInt8) [(0:UInt8),(8:UInt8),(18:UInt8)] (sh2.2.pickC (12:Int))).2.l,
 V.j (g (bif Fi sh1 then fbs sh1 else An UInt8) [(0:UInt8),(8:UInt8),(18:UInt8)] (sh2.2.pickC (12:Int))).2.a,V.i .u64 (g (bif Fi sh1 then fbs sh1
 else An UInt8) [(0:UInt8),(8:UInt8),(18:UInt8)] (sh2.2.pickC (12:Int))).2.s])]))) (some (V.s (bif Fi sh1 then fbs sh1 else An UInt8),[some (Blk.box
 [V.sl (Cd.int .u8) (sh2.2.pickC (12:Int)).l,V.j (sh2.2.pickC (12:Int)).a,V.i .u64 (sh2.2.pickC (12:Int)).s])]))))):_):=by kernel_rfl
theorem OW  (l:List Int) (a s:Int) (hc:(Cur.mk l a s).good 70000000):Ex1 (Bg prog NP (Aa [(3,CO CH)]) f15 [.ptr 0 0] [.box [.sl (.int .u8) l,.j a,.i .u64 s]]) (fun y:(By)×Cur=>((.s y.1,[some (cB y.2)]):V×List (Option Blk))) (fun y=>(∀ n,(Cur.mk l a s).good n->n<=70000000->y.2.good (n+120))/\y.1.length<=500):=by
 refine Ex1.of (MB C8 E7 CH  l a s) ?_
 have g1:(Cur.mk l a s).good (70000200-14*(7-((1:Nat):Int))):=Cur.good_mono hc (by omega)
 have q:=(JO ((Cur.mk l a s),[],1) ⟨by dsimp only; omega,by dsimp only; omega,by simp,g1⟩).2
 dsimp only at q
 repeat with_reducible refine Ex1.sh ?_
 simp only [BL,A9,drop_zero,take_length]
 generalize hR:CH ((Cur.mk l a s),[],1)=R at *
 have hR':CH ((Cur.mk l a s),[],(1:Int).toNat)=R:=hR
 try simp only [hR']
 obtain ⟨w,c⟩:=R
 dsimp only at *
 have q1:=q 70000000 hc (by omega)
 have hl:=N7 w
 generalize (bif Fi w then fbs w else [])=str at *
 have hsp:=OU str [0,8,18] (c.pickC 12) ⟨by simp,by simp,by omega,Cur.pk (Cur.good_mono q1 (by omega))⟩
 refine Ex1.T (dcT ⟨by omega,by omega,trivial,by omega,g1⟩) (Ex1.T (dcT (Cur.good_mono q1 (by omega))) (Ex1.B (fun h=>Ex1.T (dcT ⟨by simp,by simp,by omega,Cur.pk (Cur.good_mono q1 (by omega))⟩) ?_) (fun h=>?_)))
 ·exact Ex1.c _ rfl rfl ⟨fun n hn hm=>Cur.good_mono (hsp.1 (n+90) (Cur.pk (Cur.good_mono (q n hn (by omega)) (by omega))) (by omega)) (by omega),le_trans hsp.2 (by omega)⟩
 ·exact Ex1.c _ rfl rfl ⟨fun n hn hm=>Cur.pk (Cur.good_mono (q n hn (by omega)) (by omega)),by dsimp only; omega⟩
theorem H9 : ∃ f:Cur->(By)×Cur,Ag prog 15 (Ent.own (J5 f)).F/\∀  (c:Cur),(c.good 70000000)->(∀ n,c.good n->n<=70000000->(f  c).2.good (n+120))/\(f  c).1.length<=500:=by
 have ex:=fun  (c:Cur) (hc:c.good 70000000)=>OW  c.l c.a c.s hc
 classical
 refine ⟨fun  c=>if h:c.good 70000000 then (ex  c h).choose else ([],c),?_,fun  c hc=>?_⟩
 rotate_left
 ·simp only [dif_pos hc]
  exact (ex  c hc).choose_spec.2
 refine fcC (kc func16 Pe (kc func36 MA (kc func37 cof (kc func38 fby (kc func39 ND KnowsL.nil))))).knows (Λ:=(Aa [(3,CO CH)])) func15 fun vs bs r hq=>?_
 unfold Ent.F J5 at hq
 dsimp only at hq
 split at hq
 ·rename_i  l a s
  obtain ⟨hc,hx⟩:=Af hq
  have hc:=of_decide_eq_true hc
  refine ⟨Nl,((ex  (Cur.mk l a s) hc).choose_spec.1).trans ?_⟩
  rw [dif_pos hc] at hx
  exact hx
 ·cases hq
noncomputable def D7:Cur->(By)×Cur:=H9.choose
theorem Kn:Ag prog 15 (Ent.own (J5 D7)).F:=H9.choose_spec.1
theorem EQ : ∀  (c:Cur),(c.good 70000000)->(∀ n,c.good n->n<=70000000->(D7  c).2.good (n+120))/\(D7  c).1.length<=500:=H9.choose_spec.2
def ER (o:Cur×List Int×Nat->List Int×Cur):LoopEnt:=⟨24,[0,3,4],[0,3],[],fun
 | ([.ptr 0 0,.ref 1 0 m,.j n],[some (.box [.sl (.int .u8) l,.j a,.i .u64 s]),R0 (.int .i64) u])=>.need (decide (1<=n/\n<=7/\m=u.length/\u.length<=n.toNat/\(Cur.mk l a s).good (70000200-4*(7-n)))) (.leaf (.exit 0,([.ptr 0 0,.ref 1 0 (o ((Cur.mk l a s),u,n.toNat)).1.length],[some (cB (o ((Cur.mk l a s),u,n.toNat)).2),R0 (.int .i64) (o ((Cur.mk l a s),u,n.toNat)).1])))
 | _=>.no⟩
def HE (f:Cur->(List Int)×Cur):Gm
 | [.ptr 0 0],[.box [.sl (.int .u8) l,.j a,.i .u64 s]]=>.need (decide ((Cur.mk l a s).good 70000000)) (.leaf (.ref 1 0 (f  (Cur.mk l a s)).1.length,[some (cB (f  (Cur.mk l a s)).2),R0 (.int .i64) (f  (Cur.mk l a s)).1]))
 | _,_=>.no
def M8 (f:(List Int)->By×List Int):Gm
 | [.sl (.int .u8) l],[]=>.need (decide ((Cur.mk l 0 0).good 0)) (.leaf (.tup [.s (f l ).1,.ref 0 0 (f l ).2.length],[R0 (.int .i64) (f l ).2]))
 | _,_=>.no
def MK (f:(List Int)->List Int×List Int):Gm
 | [.sl (.int .u8) l],[]=>.need (decide ((Cur.mk l 0 0).good 0)) (.leaf (.tup [.ref 0 0 (f l ).1.length,.ref 1 0 (f l ).2.length],[R0 (.int .i64) (f l ).1,R0 (.int .i64) (f l ).2]))
 | _,_=>.no
def MD (f:(List Int)->By×List Int×By):Gm
 | [.sl (.int .u8) l],[]=>.need (decide ((Cur.mk l 0 0).good 0)) (.leaf (.tup [.s (f l ).1,.ref 0 0 (f l ).2.1.length,.s (f l ).2.2],[R0 (.int .i64) (f l ).2.1]))
 | _,_=>.no
abbrev KX:FuncId->Option Ent:=Aa [(16,.own EZ),(35,.own E9)]
theorem DM (o:Cur×List Int×Nat->List Int×Cur) (m:Nat) (n:Int) (l:List Int) (a s:Int) (u:List Int):A4 prog KX (Aa [(3,ER o)]) 1 (body f14 0) (ER o) ([.ptr 0 0,.ref 1 0 m,.j n],[some (.box [.sl (.int .u8) l,.j a,.i .u64 s]),R0 (.int .i64) u]) =
 ((ifB (decide (n<7)) (ifT (decide ((Cur.mk l a s).good (900000000:Int))) (ifB ((Cur.mk l a s).pickV (2:Int)==(0:Int)) (ifT (decide ((m+1)*8<=
 140737488355328)&&decide (m+1<=maxI)) (some (Ex.normal,[V.ptr 0 0,V.ref 1 0 (m+1),V.j (i64.wrap (n+1))],[some (Blk.box
 [V.sl (Cd.int .u8) ((Cur.mk l a s).pickC (2:Int)).l,V.j ((Cur.mk l a s).pickC (2:Int)).a,V.i .u64 ((Cur.mk l a s).pickC (2:Int)).s]),R0 (Cd.int .i64) (take m (drop 0 u)++n::An (Cd.int .i64).den)]))) (some (Ex.normal,[V.ptr 0 0,V.ref 1 0 m,V.j (i64.wrap (n +
 1))],[some (Blk.box [V.sl (Cd.int .u8) ((Cur.mk l a s).pickC (2:Int)).l,V.j ((Cur.mk l a s).pickC (2:Int)).a,V.i .u64 ((Cur.mk l a s).pickC (2:Int)).s]),
 R0 (Cd.int .i64) u])))) (some (Ex.exit 0,[V.ptr 0 0,V.ref 1 0 m],[some (Blk.box [V.sl (Cd.int .u8) l,V.j a,V.i .u64 s]),R0 (Cd.int .i64) u]))):_):=by kernel_rfl
theorem IN : ∀ x:Cur×List Int×Nat,(1<=x.2.2/\x.2.2<=7/\x.2.1.length<=x.2.2/\x.1.good (70000200-4*(7-(x.2.2:Int))))->∃ y:List Int×Cur,(∀ o,Runs prog KX (Aa [(3,ER o)]) 1 (body f14 0) (ER o) ((fun x:Cur×List Int×Nat=>([.ptr 0 0,.ref 1 0 x.2.1.length,.j (x.2.2:Int)],[some (cB x.1),R0 (.int .i64) x.2.1])) x) ((fun y:List Int×Cur=>(((.exit 0:Ex),([.ptr 0 0,.ref 1 0 y.1.length],[some (cB y.2),R0 (.int .i64) y.1])):Ex×Dt)) y).1 ((fun y:List Int×Cur=>(((.exit 0:Ex),([.ptr 0 0,.ref 1 0 y.1.length],[some (cB y.2),R0 (.int .i64) y.1])):Ex×Dt)) y).2)/\((∀ n,x.1.good n->n<=70000200-4*(7-(x.2.2:Int))->y.2.good (n+4*(7-(x.2.2:Int))))/\y.1.length<=7):=by
 refine FE (ι:=Cur×List Int×Nat->List Int×Cur) (fun _=>([],Cur.mk [] 0 0)) (Λ:=fun o=>(Aa [(3,ER o)])) (ent:=fun o=>ER o) (fun x:Cur×List Int×Nat=>([.ptr 0 0,.ref 1 0 x.2.1.length,.j (x.2.2:Int)],[some (cB x.1),R0 (.int .i64) x.2.1])) (fun y:List Int×Cur=>(((.exit 0:Ex),([.ptr 0 0,.ref 1 0 y.1.length],[some (cB y.2),R0 (.int .i64) y.1])):Ex×Dt)) (fun y=>by simp) _ _ (fun x=>7-x.2.2) (fun o x _=>(DM o x.2.1.length (x.2.2:Int) x.1.l x.1.a x.1.s x.2.1).trans (DM _ x.2.1.length (x.2.2:Int) x.1.l x.1.a x.1.s x.2.1).symm) ?_
 rintro ⟨c,u,n⟩ ⟨h1,h2,h3,h4⟩
 dsimp only at h1 h2 h3 h4 ⊢
 have hM:=mxI
 by_cases hn:n<7
 ·right
  refine Ex1.of (DM _ u.length (n:Int) c.l c.a c.s u) ?_
  repeat with_reducible refine Ex1.sh ?_
  rw [Ah (dcT (by omega))]
  simp only [BL,show Cur.mk c.l c.a c.s=c from rfl,AY (n:=n) (by omega),A9,drop_zero,take_length]
  have fin : ∀ (w:List Int),w.length<=n+1->
    ((1<=n+1/\n+1<=7/\w.length<=n+1/\(c.pickC 2).good (70000200-4*(7-((n+1:Nat):Int))))/\7-(n+1)<7-n/\∀ y:List Int×Cur,((∀ m,(c.pickC 2).good m->m<=70000200-4*(7-((n+1:Nat):Int))->y.2.good (m+4*(7-((n+1:Nat):Int))))/\y.1.length<=7)->((∀ m,c.good m->m<=70000200-4*(7-(n:Int))->y.2.good (m+4*(7-(n:Int))))/\y.1.length<=7)):=fun w k2=>by
   refine ⟨⟨by omega,by omega,k2,Cur.good_mono (Cur.pickC_good h4) (by push_cast; omega)⟩,by omega,fun y hy=>⟨fun m hm hl=>?_,hy.2⟩⟩
   exact Cur.good_mono (hy.1 (m+4) (Cur.good_mono (Cur.pickC_good hm) (by omega)) (by push_cast; omega)) (by push_cast; omega)
  repeat' first
   | with_reducible refine Ex1.B (fun h=>?_) (fun h=>?_)
   | with_reducible refine Ex1.T ?_ ?_
  all_goals try simp only [BL]
  all_goals first
   | exact dcT (Cur.good_mono h4 (by omega))
   | (simp only [anE,dcE]; omega)
   | exact Ex1.lc (u,n+1) rfl rfl rfl (fin u (by omega))
   | exact Ex1.lc (u++[_],n+1) rfl (by simp) rfl (fin _ (by simp; omega))
 ·left
  refine Ex1.of (DM _ u.length (n:Int) c.l c.a c.s u) ?_
  repeat with_reducible refine Ex1.sh ?_
  rw [Ae (dcF (by omega))]
  exact Ex1.L (u,c) rfl ⟨fun m hm hl=>Cur.good_mono hm (by omega),by dsimp only; omega⟩
noncomputable def D9:Cur×List Int×Nat->List Int×Cur:=(DL (Y:=List Int×Cur) ([],Cur.mk [] 0 0) IN).choose
theorem MF : ∀ x:Cur×List Int×Nat,(1<=x.2.2/\x.2.2<=7/\x.2.1.length<=x.2.2/\x.1.good (70000200-4*(7-(x.2.2:Int))))->(∀ o,Runs prog KX (Aa [(3,ER o)]) 1 (body f14 0) (ER o) ((fun x:Cur×List Int×Nat=>([.ptr 0 0,.ref 1 0 x.2.1.length,.j (x.2.2:Int)],[some (cB x.1),R0 (.int .i64) x.2.1])) x) ((fun y:List Int×Cur=>(((.exit 0:Ex),([.ptr 0 0,.ref 1 0 y.1.length],[some (cB y.2),R0 (.int .i64) y.1])):Ex×Dt)) (D9 x)).1 ((fun y:List Int×Cur=>(((.exit 0:Ex),([.ptr 0 0,.ref 1 0 y.1.length],[some (cB y.2),R0 (.int .i64) y.1])):Ex×Dt)) (D9 x)).2)/\((∀ n,x.1.good n->n<=70000200-4*(7-(x.2.2:Int))->(D9 x).2.good (n+4*(7-(x.2.2:Int))))/\(D9 x).1.length<=7):=(DL (Y:=List Int×Cur) ([],Cur.mk [] 0 0) IN).choose_spec
theorem Pa:Aq prog KX (Aa [(3,ER D9)]) 1 (f14.body.getD .skip):=by
 refine Ap (a:=body f14 0) (by kernel_rfl) fun d ex d' h=>?_
 unfold ER at h
 dsimp only at h
 split at h
 ·rename_i m n l a s u
  obtain ⟨hc,hx⟩:=Af h
  obtain ⟨k1,k2,rfl,k4,k5⟩:=of_decide_eq_true hc
  obtain ⟨n,rfl⟩:=eq_ofNat_of_zero_le (show 0<=n by omega)
  simp only [ntN] at k4 hx
  obtain ⟨rfl,rfl⟩:=lfP hx
  exact (MF ((Cur.mk l a s),u,n) ⟨by dsimp only; omega,by dsimp only; omega,k4,k5⟩).1 D9
 ·cases h
theorem ME (o:Cur×List Int×Nat->List Int×Cur)  (l:List Int) (a s:Int):Bg prog KX (Aa [(3,ER o)]) f14 [.ptr 0 0] [.box [.sl (.int .u8) l,.j a,.i .u64 s]] =
 ((shr (o (Cur.mk l a s,An (Cd.int .i64).den,1)) fun sh1=>ifT (decide ((1:Int)<=(1:Int)/\(1:Int)<=(7:Int)/\0=0/\0<=(1 :
 Nat)/\(Cur.mk l a s).good (70000176:Int))) (ifT (decide (sh1.2.good (900000000:Int))) (ifB (sh1.2.pickV (30:Int)==(0:Int)) (ifT (decide ((sh1.2.pickC (30
 : Int)).good (900000000:Int)/\1<=3/\3<=3)) (ifT (decide ((sh1.1.length+1)*8<=140737488355328)&&
 decide (sh1.1.length+1<=maxI)) (some (V.ref 1 0 (sh1.1.length+1),[some (Blk.box [V.sl (Cd.int .u8) ((sh1.2.pickC (30:Int)).pickC (↑(3:Nat)
 : Int)).l,V.j ((sh1.2.pickC (30:Int)).pickC (↑(3:Nat):Int)).a,V.i .u64 ((sh1.2.pickC (30:Int)).pickC (↑(3:Nat):Int)).s]),R0 (Cd.int .i64) (take sh1.1.length (drop 0 sh1.1)++((0:Int)::(3:Int)::(31:Int)::An (Cd.int .i64).den).getD (0 +
 ((sh1.2.pickC (30:Int)).pickV (↑(3:Nat):Int)).toNat) (0:(Cd.int .i64).den)::An (Cd.int .i64).den)])))) (some (V.ref 1 0 sh1.1.length,[some (Blk.box
 [V.sl (Cd.int .u8) (sh1.2.pickC (30:Int)).l,V.j (sh1.2.pickC (30:Int)).a,V.i .u64 (sh1.2.pickC (30:Int)).s]),R0 (Cd.int .i64)
 sh1.1]))))):_):=by kernel_rfl
theorem OZ  (l:List Int) (a s:Int) (hc:(Cur.mk l a s).good 70000000):Ex1 (Bg prog KX (Aa [(3,ER D9)]) f14 [.ptr 0 0] [.box [.sl (.int .u8) l,.j a,.i .u64 s]]) (fun y:(List Int)×Cur=>((.ref 1 0 y.1.length,[some (cB y.2),R0 (.int .i64) y.1]):V×List (Option Blk))) (fun y=>(∀ n,(Cur.mk l a s).good n->n<=70000000->y.2.good (n+60))/\y.1.length<=8):=by
  refine Ex1.of (ME D9  l a s) ?_
  have g1:(Cur.mk l a s).good (70000200-4*(7-((1:Nat):Int))):=Cur.good_mono hc (by omega)
  have q:=(MF ((Cur.mk l a s),[],1) ⟨by dsimp only; omega,by dsimp only; omega,by simp,g1⟩).2
  dsimp only at q
  repeat with_reducible refine Ex1.sh ?_
  simp only [BL,A9,drop_zero,take_length]
  generalize hR:D9 ((Cur.mk l a s),[],1)=R at *
  have hR':D9 ((Cur.mk l a s),[],(1:Int).toNat)=R:=hR
  try simp only [hR']
  obtain ⟨w,c⟩:=R
  dsimp only at *
  obtain ⟨q,qw⟩:=q
  have q1:=q 70000000 hc (by omega)
  have hM:=mxI
  repeat' first
    | with_reducible refine Ex1.B (fun h=>?_) (fun h=>?_)
    | with_reducible refine Ex1.T ?_ ?_
  all_goals try simp only [BL]
  all_goals first
    | exact dcT ⟨by omega,by omega,trivial,by omega,g1⟩
    | exact dcT (Cur.good_mono q1 (by omega))
    | (refine dcT ⟨?_,by omega,by simp⟩; exact Cur.good_mono (Cur.pickC_good q1) (by omega))
    | (simp only [anE,dcE]; omega)
    | exact Ex1.c _ rfl rfl ⟨fun n hn hm=>Cur.good_mono (Cur.pickC_good (q n hn (by omega))) (by omega),by dsimp only; omega⟩
    | (refine Ex1.c (w++[_]) rfl (by simp) ⟨fun n hn hm=>?_,by simp; omega⟩
       exact Cur.good_mono (Cur.pickC_good (Cur.pickC_good (q n hn (by omega)))) (by omega))
theorem HC : ∃ f:Cur->(List Int)×Cur,Ag prog 14 (Ent.own (HE f)).F/\∀  (c:Cur),(c.good 70000000)->(∀ n,c.good n->n<=70000000->(f  c).2.good (n+60))/\(f  c).1.length<=8:=by
 have ex:=fun  (c:Cur) (hc:c.good 70000000)=>OZ  c.l c.a c.s hc
 classical
 refine ⟨fun  c=>if h:c.good 70000000 then (ex  c h).choose else ([],c),?_,fun  c hc=>?_⟩
 rotate_left
 ·simp only [dif_pos hc]
  exact (ex  c hc).choose_spec.2
 refine fcC (kc func16 Pe (kc func35 MS KnowsL.nil)).knows (Λ:=(Aa [(3,ER D9)])) func14 fun vs bs r hq=>?_
 unfold Ent.F HE at hq
 dsimp only at hq
 split at hq
 ·rename_i  l a s
  obtain ⟨hc,hx⟩:=Af hq
  have hc:=of_decide_eq_true hc
  refine ⟨Pa,((ex  (Cur.mk l a s) hc).choose_spec.1).trans ?_⟩
  rw [dif_pos hc] at hx
  exact hx
 ·cases hq
noncomputable def D8:Cur->(List Int)×Cur:=HC.choose
theorem HD:Ag prog 14 (Ent.own (HE D8)).F:=HC.choose_spec.1
theorem HB : ∀  (c:Cur),(c.good 70000000)->(∀ n,c.good n->n<=70000000->(D8  c).2.good (n+60))/\(D8  c).1.length<=8:=HC.choose_spec.2
theorem M7 (f:Cur->(By)×Cur) (g:Cur->(List Int)×Cur) (l:List Int)  : Bg prog (Aa [(15,.own (J5 f)),(14,.own (HE g))]) (Aa []) f8 [.sl (.int .u8) l] [] =
 ((ifT (decide ((Cur.mk l (0:Int) (0:Int)).good (70000000:Int))) (ifT (decide ((f (Cur.mk l (0:Int) (0:Int))).2.good (70000000:Int))) (some (V.tup [V.s (f
 (Cur.mk l (0:Int) (0:Int))).1,V.ref 0 0 (g (f (Cur.mk l (0:Int) (0:Int))).2).1.length],[R0 (Cd.int .i64) (g (f (Cur.mk l (0:Int)
 (0:Int))).2).1])))):_):=by kernel_rfl
theorem OT (l:List Int)  (hc:(Cur.mk l 0 0).good 0):Ex1 (Bg prog (Aa [(15,.own (J5 D7)),(14,.own (HE D8))]) (Aa []) f8 [.sl (.int .u8) l] []) (fun y:By×List Int=>((.tup [.s y.1,.ref 0 0 y.2.length],[R0 (.int .i64) y.2]):V×List (Option Blk))) (fun y=>y.1.length<=500/\y.2.length<=8):=by
 refine Ex1.of (M7 D7 D8 l ) ?_
 have h7:=Cur.good_mono hc (show (0:Int)<=70000000 by omega)
 obtain ⟨a1,a2⟩:=EQ (Cur.mk l 0 0) h7
 have b1:=a1 0 hc (by omega)
 repeat with_reducible refine Ex1.sh ?_
 try simp only [A9,drop_zero,take_length,Nat.zero_add]
 generalize D7 (Cur.mk l 0 0)=B at *
 obtain ⟨v,c⟩:=B
 dsimp only at *
 obtain ⟨m1,m2⟩:=HB c (Cur.good_mono b1 (by omega))
 refine Ex1.T (dcT h7) ?_
 refine Ex1.T (dcT (Cur.good_mono b1 (by omega))) ?_
 exact Ex1.P (_,_) rfl rfl ⟨a2,m2⟩
theorem H7 : ∃ f:(List Int)->By×List Int,Ag prog 8 (Ent.rd1 (M8 f)).F/\∀ (l:List Int) ,((Cur.mk l 0 0).good 0)->(f l ).1.length<=500/\(f l ).2.length<=8:=by
 have ex:=fun (l:List Int)  (hc:(Cur.mk l 0 0).good 0)=>OT l  hc
 classical
 refine ⟨fun l  => if h:(Cur.mk l 0 0).good 0 then (ex l  h).choose else ([],[]),?_,fun l  hc=>?_⟩
 rotate_left
 ·simp only [dif_pos hc]
  exact (ex l  hc).choose_spec.2
 refine fcC (kc func15 Kn (kc func14 HD KnowsL.nil)).knows (Λ:=(Aa [])) func8 fun vs bs r hq=>?_
 unfold Ent.F M8 at hq
 dsimp only at hq
 split at hq
 ·rename_i l 
  obtain ⟨hc,hx⟩:=Af hq
  have hc:=of_decide_eq_true hc
  refine ⟨Am _,((ex l  hc).choose_spec.1).trans ?_⟩
  rw [dif_pos hc] at hx
  exact hx
 ·cases hq
noncomputable def IL:(List Int)->By×List Int:=H7.choose
theorem NC:Ag prog 8 (Ent.rd1 (M8 IL)).F:=H7.choose_spec.1
theorem OS : ∀ (l:List Int) ,((Cur.mk l 0 0).good 0)->(IL l ).1.length<=500/\(IL l ).2.length<=8:=H7.choose_spec.2
theorem MJ (g:Cur->(List Int)×Cur) (l:List Int)  : Bg prog (Aa [(14,.own (HE g))]) (Aa []) f10 [.sl (.int .u8) l] [] =
 ((ifT (decide ((Cur.mk l (0:Int) (0:Int)).good (70000000:Int))) (ifT (decide ((g (Cur.mk l (0:Int) (0:Int))).2.good (70000000:Int))) (some (V.tup [V.ref 0 0 (g
 (Cur.mk l (0:Int) (0:Int))).1.length,V.ref 1 0 (g (g (Cur.mk l (0:Int) (0:Int))).2).1.length],[R0 (Cd.int .i64) (g (Cur.mk l (0 :
 Int) (0:Int))).1,R0 (Cd.int .i64) (g (g (Cur.mk l (0:Int) (0:Int))).2).1])))):_):=by kernel_rfl
theorem Pc (l:List Int)  (hc:(Cur.mk l 0 0).good 0):Ex1 (Bg prog (Aa [(14,.own (HE D8))]) (Aa []) f10 [.sl (.int .u8) l] []) (fun y:List Int×List Int=>((.tup [.ref 0 0 y.1.length,.ref 1 0 y.2.length],[R0 (.int .i64) y.1,R0 (.int .i64) y.2]):V×List (Option Blk))) (fun y=>y.1.length<=8/\y.2.length<=8):=by
 refine Ex1.of (MJ D8 l ) ?_
 have h7:=Cur.good_mono hc (show (0:Int)<=70000000 by omega)
 obtain ⟨a1,a2⟩:=HB (Cur.mk l 0 0) h7
 have b1:=a1 0 hc (by omega)
 repeat with_reducible refine Ex1.sh ?_
 try simp only [A9,drop_zero,take_length,Nat.zero_add]
 generalize D8 (Cur.mk l 0 0)=B at *
 obtain ⟨v,c⟩:=B
 dsimp only at *
 obtain ⟨m1,m2⟩:=HB c (Cur.good_mono b1 (by omega))
 refine Ex1.T (dcT h7) ?_
 refine Ex1.T (dcT (Cur.good_mono b1 (by omega))) ?_
 exact Ex1.P (_,_) rfl rfl ⟨a2,m2⟩
theorem HF : ∃ f:(List Int)->List Int×List Int,Ag prog 10 (Ent.rd1 (MK f)).F/\∀ (l:List Int) ,((Cur.mk l 0 0).good 0)->(f l ).1.length<=8/\(f l ).2.length<=8:=by
 have ex:=fun (l:List Int)  (hc:(Cur.mk l 0 0).good 0)=>Pc l  hc
 classical
 refine ⟨fun l  => if h:(Cur.mk l 0 0).good 0 then (ex l  h).choose else ([],[]),?_,fun l  hc=>?_⟩
 rotate_left
 ·simp only [dif_pos hc]
  exact (ex l  hc).choose_spec.2
 refine fcC (kc func14 HD KnowsL.nil).knows (Λ:=(Aa [])) func10 fun vs bs r hq=>?_
 unfold Ent.F MK at hq
 dsimp only at hq
 split at hq
 ·rename_i l 
  obtain ⟨hc,hx⟩:=Af hq
  have hc:=of_decide_eq_true hc
  refine ⟨Am _,((ex l  hc).choose_spec.1).trans ?_⟩
  rw [dif_pos hc] at hx
  exact hx
 ·cases hq
noncomputable def IP:(List Int)->List Int×List Int:=HF.choose
theorem NJ:Ag prog 10 (Ent.rd1 (MK IP)).F:=HF.choose_spec.1
theorem Pb : ∀ (l:List Int) ,((Cur.mk l 0 0).good 0)->(IP l ).1.length<=8/\(IP l ).2.length<=8:=HF.choose_spec.2
theorem Hj (s:By) (ns:List Int):(vwL s ns).length<=400:=by
 cases h:vwB s ns with
 | false=>unfold vwL; rw [h]; exact zero_le _
 | true=>
  have h':=h
  unfold vwB at h'
  rw [anE] at h'
  obtain ⟨l,hl⟩:=Option.isSome_iff_exists.1 h'.1
  have e:vwL s ns=fbs (l.filter fun f=>ns.contains f.1):=by unfold vwL AV; rw [h,hl]; rfl
  rw [e]
  exact (DI hl (fun f=>ns.contains f.1)).2.1
theorem MC (f:Cur->(By)×Cur) (g:Cur->(List Int)×Cur) (l:List Int)  : Bg prog (Aa [(14,.own (HE g)),(15,.own (J5 f)),(9,.rd1 vwG),(16,.own EZ)]) (Aa []) f4 [.sl (.int .u8) l] [] =
 ((shr (g (Cur.mk l (0:Int) (0:Int))) fun sh1=>ifT (decide ((Cur.mk l (0:Int) (0:Int)).good (70000000:Int))) (ifT (decide (sh1.2.good (70000000:Int))) (ifT
 (decide ((f sh1.2).1.length<=4000000000)) (ifB (!vwB (f sh1.2).1 (take sh1.1.length (drop 0 sh1.1))) (ifT (decide ((f
 sh1.2).2.good (70000000:Int))) (ifT (decide ((f (f sh1.2).2).2.good (70000000:Int))) (some (V.tup [V.s (f (f (f sh1.2).2).2).1,V.ref 0 0
 sh1.1.length,V.s (f (f sh1.2).2).1],[R0 (Cd.int .i64) sh1.1])))) (ifT (decide ((f sh1.2).2.good (900000000:Int))) (ifB ((f
 sh1.2).2.pickV (6:Int)==(0:Int)) (ifT (decide (((f sh1.2).2.pickC (6:Int)).good (70000000:Int))) (ifT (decide ((f ((f sh1.2).2.pickC (6 :
 Int))).2.good (70000000:Int))) (some (V.tup [V.s (f (f ((f sh1.2).2.pickC (6:Int))).2).1,V.ref 0 0 sh1.1.length,V.s (f ((f sh1.2).2.pickC (6 :
 Int))).1],[R0 (Cd.int .i64) sh1.1])))) (ifT (decide (((f sh1.2).2.pickC (6:Int)).good (70000000:Int))) (some (V.tup [V.s (f ((f
 sh1.2).2.pickC (6:Int))).1,V.ref 0 0 sh1.1.length,V.s (vwL (f sh1.2).1 (take sh1.1.length (drop 0 sh1.1)))],[R0 (Cd.int .i64) sh1.1]))))))))):_):=by kernel_rfl
theorem OY (l:List Int)  (hc:(Cur.mk l 0 0).good 0):Ex1 (Bg prog (Aa [(14,.own (HE D8)),(15,.own (J5 D7)),(9,.rd1 vwG),(16,.own EZ)]) (Aa []) f4 [.sl (.int .u8) l] []) (fun y:By×List Int×By=>((.tup [.s y.1,.ref 0 0 y.2.1.length,.s y.2.2],[R0 (.int .i64) y.2.1]):V×List (Option Blk))) (fun y=>y.1.length<=500/\y.2.1.length<=8/\y.2.2.length<=500):=by
 refine Ex1.of (MC D7 D8 l ) ?_
 have h7:=Cur.good_mono hc (show (0:Int)<=70000000 by omega)
 obtain ⟨a1,a2⟩:=HB (Cur.mk l 0 0) h7
 have b1:=a1 0 hc (by omega)
 repeat with_reducible refine Ex1.sh ?_
 try simp only [drop_zero,take_length]
 generalize D8 (Cur.mk l 0 0)=B at *
 obtain ⟨ns,c⟩:=B
 dsimp only at *
 obtain ⟨m1,m2⟩:=EQ c (Cur.good_mono b1 (by omega))
 have b2:=m1 _ b1 (by omega)
 generalize D7 c=B at *
 obtain ⟨s,c2⟩:=B
 dsimp only at *
 have hw:=Hj s ns
 generalize vwL s ns=w at *
 have b3:=Cur.pickC_good (k:=6) b2
 obtain ⟨n1,n2⟩:=EQ c2 (Cur.good_mono b2 (by omega))
 obtain ⟨p1,p2⟩:=EQ (c2.pickC 6) (Cur.good_mono b3 (by omega))
 have b4:=n1 _ b2 (by omega)
 have b5:=p1 _ b3 (by omega)
 obtain ⟨r1,r2⟩:=EQ (D7 c2).2 (Cur.good_mono b4 (by omega))
 obtain ⟨t1,t2⟩:=EQ (D7 (c2.pickC 6)).2 (Cur.good_mono b5 (by omega))
 repeat' first
  | with_reducible refine Ex1.B (fun h=>?_) (fun h=>?_)
  | with_reducible refine Ex1.T ?_ ?_
 all_goals first
  | exact dcT h7
  | exact dcT (Cur.good_mono b1 (by omega))
  | exact dcT (Cur.good_mono b2 (by omega))
  | exact dcT (Cur.good_mono b3 (by omega))
  | exact dcT (Cur.good_mono b4 (by omega))
  | exact dcT (Cur.good_mono b5 (by omega))
  | exact dcT (by omega)
  | exact Ex1.P (_,_,_) rfl rfl ⟨r2,a2,n2⟩
  | exact Ex1.P (_,_,_) rfl rfl ⟨t2,a2,p2⟩
  | exact Ex1.P (_,_,_) rfl rfl ⟨p2,a2,by dsimp only; omega⟩
theorem HA : ∃ f:(List Int)->By×List Int×By,Ag prog 4 (Ent.rd1 (MD f)).F/\∀ (l:List Int) ,((Cur.mk l 0 0).good 0)->(f l ).1.length<=500/\(f l ).2.1.length<=8/\(f l ).2.2.length<=500:=by
 have ex:=fun (l:List Int)  (hc:(Cur.mk l 0 0).good 0)=>OY l  hc
 classical
 refine ⟨fun l  => if h:(Cur.mk l 0 0).good 0 then (ex l  h).choose else ([],[],[]),?_,fun l  hc=>?_⟩
 rotate_left
 ·simp only [dif_pos hc]
  exact (ex l  hc).choose_spec.2
 refine fcC (kc func14 HD (kc func15 Kn (kc func9 vw (kc func16 Pe KnowsL.nil)))).knows (Λ:=(Aa [])) func4 fun vs bs r hq=>?_
 unfold Ent.F MD at hq
 dsimp only at hq
 split at hq
 ·rename_i l 
  obtain ⟨hc,hx⟩:=Af hq
  have hc:=of_decide_eq_true hc
  refine ⟨Am _,((ex l  hc).choose_spec.1).trans ?_⟩
  rw [dif_pos hc] at hx
  exact hx
 ·cases hq
noncomputable def GY:(List Int)->By×List Int×By:=HA.choose
theorem NG:Ag prog 4 (Ent.rd1 (MD GY)).F:=HA.choose_spec.1
theorem OX : ∀ (l:List Int) ,((Cur.mk l 0 0).good 0)->(GY l ).1.length<=500/\(GY l ).2.1.length<=8/\(GY l ).2.2.length<=500:=HA.choose_spec.2
def Du (l:List Pl):List Pl:=l.mergeSort fun a b=>decide (a.1.1<=b.1.1)
def O6 (l:List Pl):Bool:=decide (l.Pairwise fun a b=>a.1.1≠b.1.1)
def Ou:Gm
 | [.ref 0 0 n,.fn 21 [] []],[.row false _ PCd l]=>.need (decide (n=l.length/\n<=1000)&&O6 l) (.leaf (.tup [],[R0 PCd (Du l)]))
 | _,_=>.no
open Go.Shelf in
def Ot:Ren:=⟨fun k=>match k with | 6=>20 | 14=>43 | 15=>44 | 20=>58 | 21=>59 | 22=>60 | 23=>61 | 24=>62 | 25=>63 | 26=>64 | 27=>65 | 28=>66 | 29=>67 | 46=>75 | 47=>76 | 48=>77 | 49=>78 | 50=>79 | 57=>83 | k=>k,
 fun k=>match k with | 0=>0 | 3=>3 | 4=>4 | 5=>5 | 9=>9 | 22=>44 | 25=>55 | 39=>76 | 45=>85 | 46=>86 | 50=>90 | 53=>93 | 55=>38 | 66=>100 | 70=>104 | 76=>106 | 77=>107 | 24=>53 | k=>k,fun k=>k⟩
open Go.Shelf in
theorem JI:SlLaysF0.n6 prog Ot:=⟨by kernel_rfl,⟨f20.name,by kernel_rfl,by kernel_rfl⟩,⟨f43.name,by kernel_rfl,by kernel_rfl⟩,by kernel_rfl,⟨f58.name,by kernel_rfl,by kernel_rfl⟩,⟨f59.name,by kernel_rfl,by kernel_rfl⟩,⟨f60.name,by kernel_rfl,by kernel_rfl⟩,⟨f61.name,by kernel_rfl,by kernel_rfl⟩,⟨f62.name,by kernel_rfl,by kernel_rfl⟩,⟨f63.name,by kernel_rfl,by kernel_rfl⟩,⟨f64.name,by kernel_rfl,by kernel_rfl⟩,⟨f65.name,by kernel_rfl,by kernel_rfl⟩,by kernel_rfl,by kernel_rfl,⟨f75.name,by kernel_rfl,by kernel_rfl⟩,by kernel_rfl,by kernel_rfl,⟨f78.name,by kernel_rfl,by kernel_rfl⟩,⟨f79.name,by kernel_rfl,by kernel_rfl⟩,⟨f83.name,by kernel_rfl,by kernel_rfl⟩,by kernel_rfl,fun w=>by kernel_rfl,fun w=>by kernel_rfl,fun w=>by kernel_rfl,by kernel_rfl,fun w=>by kernel_rfl,fun w=>by kernel_rfl,fun w=>by kernel_rfl,by kernel_rfl,fun w=>by kernel_rfl,fun w=>by kernel_rfl,fun w=>by kernel_rfl,by kernel_rfl,fun w=>by kernel_rfl,fun w=>by kernel_rfl,fun w=>by kernel_rfl,by kernel_rfl,fun w=>by kernel_rfl,fun w=>by kernel_rfl,fun w=>by kernel_rfl,by kernel_rfl,fun w=>by kernel_rfl,fun w=>by kernel_rfl,fun w=>by kernel_rfl,by kernel_rfl,fun w=>by kernel_rfl,fun w=>by kernel_rfl,fun w=>by kernel_rfl,by kernel_rfl,fun w=>by kernel_rfl,fun w=>by kernel_rfl,fun w=>by kernel_rfl,by kernel_rfl,fun w=>by kernel_rfl,fun w=>by kernel_rfl,fun w=>by kernel_rfl,by kernel_rfl,fun w=>by kernel_rfl,fun w=>by kernel_rfl,fun w=>by kernel_rfl,by kernel_rfl,fun w=>by kernel_rfl,fun w=>by kernel_rfl,fun w=>by kernel_rfl,by kernel_rfl,fun w=>by kernel_rfl,fun w=>by kernel_rfl,fun w=>by kernel_rfl,by kernel_rfl,fun w=>by kernel_rfl,fun w=>by kernel_rfl,fun w=>by kernel_rfl,by kernel_rfl,fun w=>by kernel_rfl,fun w=>by kernel_rfl,fun w=>by kernel_rfl,by kernel_rfl,fun w=>by kernel_rfl,fun w=>by kernel_rfl,fun w=>by kernel_rfl,by kernel_rfl,fun w=>by kernel_rfl,fun w=>by kernel_rfl,fun w=>by kernel_rfl,by kernel_rfl,fun w=>by kernel_rfl,fun w=>by kernel_rfl,fun w=>by kernel_rfl⟩
open Go.Shelf in
def Pk:Ren:=⟨fun k=>match k with | 5=>22 | 7=>45 | k=>k,
 fun k=>match k with | 3=>3 | 4=>4 | 22=>3 | k=>k,fun k=>k⟩
open Go.Shelf in
theorem NN:SlLaysC2.n5 prog Pk:=⟨by kernel_rfl,⟨f22.name,by kernel_rfl,by kernel_rfl⟩,⟨f45.name,by kernel_rfl,by kernel_rfl⟩,by kernel_rfl,fun w=>by kernel_rfl,fun w=>by kernel_rfl,fun w=>by kernel_rfl,by kernel_rfl,fun w=>by kernel_rfl,fun w=>by kernel_rfl,fun w=>by kernel_rfl,by kernel_rfl,fun w=>by kernel_rfl,fun w=>by kernel_rfl,fun w=>by kernel_rfl⟩
def BW (z:Pl):List Value:=[.int .i64 z.1.1,.int .i64 z.1.2.1,.int .i64 z.1.2.2.1,.string ⟨z.1.2.2.2.1.toArray⟩,.int .i64 z.2.1]
def He (x y:Pl):Int:=Go.Lib.compareInt x.1.1 y.1.1
section
open Go.Shelf Go.RowKit Go.Lib Go.Sort
set_option maxHeartbeats 1000000 in
theorem MR (a b c:Int) (d:ByteArray) (e a' b' c':Int) (d':ByteArray) (e':Int) (W:World):Calls prog 21 #[.agg #[.int .i64 a,.int .i64 b,.int .i64 c,.string d,.int .i64 e],.agg #[.int .i64 a',.int .i64 b',.int .i64 c',.string d',.int .i64 e']] W fun r w'=>r = .returned (.int .i64 (Go.Lib.compareInt a a'))/\∃ q os',w'=grow (W.drewN q) os':=by
 have hcon:=fun W'=>AnyG.cmp_Compare_int NN a a' W'
 change ∀ W',Calls prog 22 _ _ _ at hcon
 generalize Go.Lib.compareInt a a'=r at hcon ⊢
 go_enter func21,Try.ntmps21
 go_wp2_with (go_at_call 22; refine (hcon _).mono ?_; rintro e w' ⟨rfl,rfl⟩)
 go_ret
 exact ⟨rfl,0,_,by rw [alloc_eq_grow,alloc_eq_grow,grow_grow]; rfl⟩
theorem Nv (x y:Pl):ltOf He x y=decide (x.1.1<y.1.1):=by
 unfold ltOf He Go.Lib.compareInt
 by_cases h1:x.1.1<y.1.1
 ·simp [h1]
 ·by_cases h2:y.1.1<x.1.1<;>simp [h1,h2]
theorem Pv:SWO (ltOf He) where
 irrefl x:=by rw [Nv]; simp
 trans x y z h1 h2:=by rw [Nv] at *; simp only [dcE] at *; omega
 ntrans x y z h1 h2:=by rw [Nv] at *; simp only [decide_eq_false_iff_not] at *; omega
theorem MQ (blk off size:Nat) (w:World):CmpLays prog 21 #[] BW 5 He blk off size w:=
 fun _ _ _ _ _ _=>MR _ _ _ _ _ _ _ _ _ _ _
theorem LO {w:World} {R:Nat->Prop} {μ:Nat->Option RB} {l:List Pl} {nl:Option Bool} {u0:Value} (hmem:Mem w R μ (fun j=>([.row false nl PCd l]:List Blk)[j]?)) (hv:VRep w R μ (.ref 0 0 l.length) u0) (hl:0<l.length) :
  ∃ b off cap us e,u0 = .slice (some ⟨b,off,none⟩) l.length cap/\μ 0=some (.at b off 5 cap l.length)/\w.heap[b]? = some (.cells us e (0,0))/\l.length<=cap/\cap<=maxI/\off+cap*5<=us.size/\∀ i z j v,l[i]? = some z->(BW z)[j]? = some v->us[off+(i*5+j)]? = some v:=by
 obtain ⟨rb,hm0,hB⟩:=hmem.blk 0 _ rfl
 generalize hn:l.length=n at hv
 cases hv with
 | vac _ ao hv0=>omega
 | ref _ _ _ b off k cap len a hv0 q0 q1 q2 q3=>
  rw [hm0] at hv0; simp at hv0; subst hv0
  cases hB with
  | row _ _ _ _ _ _ _ _ _ us e hk hh p1 p2 p3 p4 p5=>
  simp [Cd.size] at hk; subst hk
  have ha:a=⟨b,off,none⟩:=by
   rcases q3 with h | h
   ·omega
   ·simpa using h
  subst ha
  refine ⟨b,off,cap,us,e,?_,?_,hh,by omega,p2,p3,fun i z j v hz hv=>?_⟩
  ·rw [sub_zero]
  ·rw [hm0,<-p1.1,hn]
  ·unfold BW at hv
   match j with
   | 0=>
    obtain ⟨u,g1,g2⟩:=p4 i z 0 (.j z.1.1) hz rfl
    cases g2; cases hv; exact g1
   | 1=>
    obtain ⟨u,g1,g2⟩:=p4 i z 1 (.j z.1.2.1) hz rfl
    cases g2; cases hv; exact g1
   | 2=>
    obtain ⟨u,g1,g2⟩:=p4 i z 2 (.j z.1.2.2.1) hz rfl
    cases g2; cases hv; exact g1
   | 3=>
    obtain ⟨u,g1,g2⟩:=p4 i z 3 (.s z.1.2.2.2.1) hz rfl
    cases g2; cases hv; exact g1
   | 4=>
    obtain ⟨u,g1,g2⟩:=p4 i z 4 (.j z.2.1) hz rfl
    cases g2; cases hv; exact g1
   | j+5=>simp at hv
theorem E6 (z:Pl):(BW z).length=5:=rfl
theorem Ki (d:Array Pl) {i j:Nat} (hi:i<d.size) (hj:j<5):(flatK BW 5 d)[i*5+j]! = (BW d[i]!)[j]!:=by
 rw [get_flatK BW 5 d (i*5+j) (by omega)]
 rw [show (i*5+j) / 5=i by omega,show (i*5+j) % 5=j by omega]
theorem OJ {w:World} {l:List Pl} {b off:Nat} {us:Array Value} {e:TypeId} (hh:w.heap[b]? = some (.cells us e (0,0))) (h : ∀ i z j v,l[i]? = some z->(BW z)[j]? = some v->us[off+(i*5+j)]? = some v):HoldsK BW 5 w b off l.toArray:=fun t ht=>by
 rw [size_flatK] at ht
 have ht:t<l.length*5:=by simpa using ht
 have hi:t / 5<l.length:=by omega
 have hj:t % 5<5:=by omega
 have e1:t=t / 5*5+t % 5:=by omega
 have hz:=h (t / 5) l[t / 5] (t % 5) ((BW l[t / 5])[t % 5]'(by rw [E6]; exact hj)) (by simp [hi]) (gtE _)
 refine ⟨?_,by simp [World.frozen?,hh]⟩
 rw [e1,Ki l.toArray (by simpa using hi) hj]
 simp only [World.cell?,hh,hz]
 have e2:(l.toArray)[t / 5]! = l[t / 5]:=by simp [hi]
 rw [e2]
 simp
 rw [gtE (by rw [E6]; exact hj)]; rfl
theorem LN : ∀ (a b:List Pl),(a.Pairwise fun a b=>a.1.1<b.1.1)->(b.Pairwise fun a b=>a.1.1<b.1.1)->(∀ x,x∈a↔x∈b)->a=b
 | [],[],_,_,_=>rfl
 | [],y::b,_,_,h=>absurd ((h y).2 mem_cons_self) (by simp)
 | x::a,[],_,_,h=>absurd ((h x).1 mem_cons_self) (by simp)
 | x::a,y::b,ha,hb,h=>by
  rw [List.pairwise_cons] at ha hb
  have e:x=y:=by
   rcases mem_cons.1 ((h x).1 mem_cons_self) with e | e
   ·exact e
   ·rcases mem_cons.1 ((h y).2 mem_cons_self) with e2 | e2
    ·exact e2.symm
    ·have:=hb.1 x e; have:=ha.1 y e2; omega
  subst e
  rw [LN a b ha.2 hb.2 fun z=>⟨fun hz=>?_,fun hz=>?_⟩]
  ·rcases mem_cons.1 ((h z).1 (List.mem_cons_of_mem _ hz)) with e | e
   ·have:=ha.1 z hz; subst e; omega
   ·exact e
  ·rcases mem_cons.1 ((h z).2 (List.mem_cons_of_mem _ hz)) with e | e
   ·have:=hb.1 z hz; subst e; omega
   ·exact e
theorem Ct (l:List Pl):(Du l).Perm l:=List.mergeSort_perm l _
theorem NW {l l':List Pl} (h:l'.Perm l) (hs:l'.Pairwise fun a b=>a.1.1<=b.1.1) (hd:l.Pairwise fun a b=>a.1.1≠b.1.1):l'.Pairwise fun a b=>a.1.1<b.1.1:=by
 have hd':l'.Pairwise fun a b=>a.1.1≠b.1.1:=(h.pairwise_iff (fun hab=>Ne.symm hab)).2 hd
 exact (hs.and hd').imp fun h=>by omega
theorem JH {l:List Pl} (hd:l.Pairwise fun a b=>a.1.1≠b.1.1):(Du l).Pairwise fun a b=>a.1.1<b.1.1:=by
 refine NW (Ct l) ?_ hd
 have:=List.pairwise_mergeSort (le:=fun a b:Pl=>decide (a.1.1<=b.1.1)) (fun x y z h1 h2=>by simp only [dcE] at *; omega) (fun x y=>by simp only [Bool.or_eq_true,dcE]; omega) l
 exact this.imp fun h=>of_decide_eq_true h
theorem Or {l:List Pl} {d':Array Pl} (hd:l.Pairwise fun a b=>a.1.1≠b.1.1) (hp:PermIn 0 l.toArray.size l.toArray d') (hs:SortedIn (ltOf He) 0 l.toArray.size d'):d'.toList=Du l:=by
 obtain ⟨p1,_,p3⟩:=hp
 have hsz:d'.size=l.length:=by rw [p1]; simp
 have e1:(l.toArray.extract 0 l.toArray.size).toList=l:=by simp
 have e2:(d'.extract 0 l.toArray.size).toList=d'.toList:=by rw [<-p1]; simp
 rw [e1,e2] at p3
 refine LN _ _ (NW p3 ?_ hd) (JH hd) fun x=>by rw [p3.mem_iff,(Ct l).mem_iff]
 refine List.pairwise_iff_getElem.2 fun i j hi hj hij=>?_
 have hi':i<d'.size:=by simpa using hi
 have hj':j<d'.size:=by simpa using hj
 have:=hs i j (zero_le _) hij (by simp; omega)
 rw [Nv] at this
 have e3:d'[i]! = d'.toList[i]:=by simp [hi']
 have e4:d'[j]! = d'.toList[j]:=by simp [hj']
 rw [e3,e4] at this
 have:=of_decide_eq_false this
 omega
theorem FI {w w':World} {R:Nat->Prop} {μ:Nat->Option RB} {l l':List Pl} {nl:Option Bool} {rb:RB} {r:V} {u:Value} (hmem:Mem w R μ (fun j=>([.row false nl PCd l]:List Blk)[j]?)) (hnone : ∀ j,1<=j->μ j=none) (hm0:μ 0=some rb)
  (ho:w'.os=w.os) (ht:w'.tape=w.tape) (hp:w'.output=w.output) (hg:w.heap.size<=w'.heap.size) (hs : ∀ k,k<w.heap.size->rb.real≠some k->w'.heap[k]? = w.heap[k]?) (hB:BRep w' R μ rb (.row false none PCd l')) (hval:VRep w' R μ r u) :
  Left w R μ (fun j=>([.row false nl PCd l]:List Blk)[j]?) r [R0 PCd l'] u w' R μ:=by
 have at0 : ∀ j B,(([R0 PCd l']:List (Option Blk))[j]?).join=some B->j=0/\B = .row false none PCd l':=fun j B hB=>by
  match j with
  | 0=>simp at hB; exact ⟨rfl,hB.symm⟩
  | j+1=>simp at hB
 refine ⟨hval,⟨fun id B h=>?_,fun id id' B B' rb1 rb2 x h1 h2 _ _ _ _ _ _=>?_,fun id B rb1 x h1 _ m1 e1=>?_,fun x hx=>Nat.lt_of_lt_of_le (hmem.rlt x hx) hg⟩,ho,ht,hp,hg,fun k hk hn=>?_,fun x h=>h,fun x h=>.inl h,fun j B rb1 x h1 _ m1 e1=>?_,fun j B rb1 x h1 m1 e1=>?_,fun _ _ h=>h,hnone⟩
 ·obtain ⟨rfl,rfl⟩:=at0 id B h
  exact ⟨rb,hm0,hB⟩
 ·rw [(at0 id B h1).1,(at0 id' B' h2).1]
 ·obtain ⟨rfl,rfl⟩:=at0 id B h1
  rw [hm0] at m1; simp at m1; subst m1
  exact hmem.sep 0 (.row false nl PCd l) rb x rfl rfl hm0 e1
 ·exact hs k hk (fun e=>hn ⟨0,.row false nl PCd l,rb,rfl,rfl,hm0,e⟩)
 ·obtain ⟨rfl,rfl⟩:=at0 j B h1
  rw [hm0] at m1; simp at m1; subst m1
  exact .inl ⟨0,.row false nl PCd l,rb,rfl,rfl,hm0,e1⟩
 ·obtain ⟨rfl,rfl⟩:=at0 j B h1
  rw [hm0] at m1; simp at m1; subst m1
  exact .inl ⟨0,.row false nl PCd l,rb,rfl,hm0,e1⟩
theorem K8 {w:World} {R:Nat->Prop} {μ:Nat->Option RB} {l l':List Pl} {nl:Option Bool} {b off cap q:Nat} {os:Array Obj} {us:Array Value} {e:TypeId} {r:V} {u:Value} {d:Array Pl} (hmem:Mem w R μ (fun j=>([.row false nl PCd l]:List Blk)[j]?)) (hnone : ∀ j,1<=j->μ j=none) (hm0:μ 0=some (.at b off 5 cap l.length))
  (hh:w.heap[b]? = some (.cells us e (0,0))) (hd:d.toList=l') (hl:l'.length=l.length) (hc:l.length<=cap) (hc2:cap<=maxI) (hz:off+cap*5<=us.size) (hval : ∀ w':World,VRep w' R μ r u) :
  Left w R μ (fun j=>([.row false nl PCd l]:List Blk)[j]?) r [R0 PCd l'] u (sortWorldK BW 5 w b off q d os) R μ:=by
 have hb:b<w.heap.size:=(Array.getElem?_eq_some_iff.1 hh).1
 have hds:d.size=l'.length:=by rw [<-hd]; simp
 unfold sortWorldK putRowK
 have hsz:(putRow id (Go.Sort.ahead w q) b off (flatK BW 5 d)).heap.size=w.heap.size:=by simp [Go.Sort.ahead]
 have other : ∀ k,k<w.heap.size->k≠b->(grow (putRow id (Go.Sort.ahead w q) b off (flatK BW 5 d)) os).heap[k]? = w.heap[k]?:=fun k hk hkb=>by
  rw [heap_grow_old _ _ (by rw [hsz]; exact hk)]
  unfold putRow mapBlock Go.Sort.ahead
  simp [Array.getElem?_modify,Ne.symm hkb]
 have here:(grow (putRow id (Go.Sort.ahead w q) b off (flatK BW 5 d)) os).heap[b]? = some (.cells (putCells id off (flatK BW 5 d) us) e (0,0)):=by
  rw [heap_grow_old _ _ (by rw [hsz]; exact hb)]
  unfold putRow mapBlock Go.Sort.ahead
  simp only [Array.getElem?_modify,if_true,hh,map_some,onCells]
 refine FI hmem hnone hm0 rfl rfl rfl (by rw [size_grow,hsz]; omega) (fun k hk hne=>other k hk (fun e=>hne (by rw [e]; rfl))) ?_ (hval _)
 refine .row b off 5 cap l.length false none PCd l' _ e rfl here ⟨hl,hc⟩ hc2 ?_ ?_ (by simp)
 ·unfold putCells; simp; omega
 ·intro i z j v hi hv
  have hil:i<l'.length:=(List.getElem?_eq_some_iff.1 hi).1
  have hj:j<5:=by have:=(List.getElem?_eq_some_iff.1 hv).1; rw [A0] at this; exact this
  have hdi:d[i]! = z:=by
   have h3:=(List.getElem?_eq_some_iff.1 hi).2
   rw [show d[i]! = d.toList[i]'(by simpa [hds] using hil) by simp [hds,hil]]
   simp only [hd]; exact h3
  have key:(putCells id off (flatK BW 5 d) us)[off+(i*5+j)]? = some ((BW z)[j]!):=by
   unfold putCells
   rw [Array.getElem?_mapIdx]
   have h1:off+(i*5+j)<us.size:=by omega
   rw [Array.getElem?_eq_getElem h1,map_some,if_pos (by rw [size_flatK,hds]; omega)]
   rw [show off+(i*5+j)-off=i*5+j by omega,Ki d (by omega) hj,hdi]; rfl
  refine ⟨_,key,?_⟩
  unfold BW
  match j,hv with
  | 0,hv=>cases hv; exact .i _ _
  | 1,hv=>cases hv; exact .i _ _
  | 2,hv=>cases hv; exact .i _ _
  | 3,hv=>cases hv; exact .s _
  | 4,hv=>cases hv; exact .i _ _
end
theorem PR:Ag prog 20 (Ent.own Ou).F:=by
 intro w R μ vs us bs r outs hmem hnone hreps hF
 unfold Ent.F Ou at hF
 dsimp only at hF
 split at hF
 rotate_left
 ·cases hF
 rename_i n nl l
 obtain ⟨hc,h⟩:=Af hF
 rw [anE] at hc
 obtain ⟨hc,hone⟩:=hc
 obtain ⟨rfl,hn⟩:=of_decide_eq_true hc
 have hd:l.Pairwise fun a b=>a.1.1≠b.1.1:=of_decide_eq_true hone
 obtain ⟨rfl,rfl⟩:=Prod.mk.inj (A8 h)
 clear h hF hc
 match us,hreps with
 | [u0,u1],hreps=>
 have v0:=hreps.2 0 _ u0 rfl rfl
 have v1:=hreps.2 1 _ u1 rfl rfl
 have ht : ∀ w':World,VRep w' R μ (.tup []) (.tuple #[]):=fun w'=>.tup [] #[] rfl (by simp)
 cases v1 with
 | fn _ _ _ ua uc h1 h2 h3 h4=>
 have e1:ua = #[]:=by apply Array.ext'; exact List.eq_nil_of_length_eq_zero (by simpa using h1)
 have e2:uc = #[]:=by apply Array.ext'; exact List.eq_nil_of_length_eq_zero (by simpa using h2)
 subst e1 e2
 have hlen:(Du l).length=l.length:=(Ct l).length_eq
 by_cases h0:0<l.length
 ·obtain ⟨b,off,cap,us,e,rfl,hm0,hh,g1,g2,g3,g4⟩:=LO hmem v0 h0
  have eg : ∀ args w,(callFunc 21 args).run prog w = .ok (.enter 21 args) w:=enters_of func21 (by kernel_rfl) rfl
  have hcon:=AnyQ.slices_SortFunc JI 5 (fun w=>by kernel_rfl) (fun w=>by kernel_rfl) BW E6 (fun x v hv=>by
   unfold BW at hv
   simp only [mem_cons,List.mem_nil_iff,or_false] at hv
   rcases hv with rfl | rfl | rfl | rfl | rfl<;>rfl) He Pv 21 #[] b off cap l.toArray w eg (MQ b off l.toArray.size w) (OJ hh g4) (Array.getElem?_eq_some_iff.1 hh).1 (by simp; omega)
  have hs:l.toArray.size=l.length:=by simp
  rw [hs] at hcon
  refine hcon.mono ?_
  rintro e' w' ⟨rfl,d',q,os,hp,hso,rfl⟩
  rw [<-hs] at hp hso
  exact ⟨_,R,μ,rfl,K8 hmem hnone hm0 hh (Or hd hp hso) hlen g1 g2 g3 ht⟩
 ·have hl:l=[]:=List.eq_nil_of_length_eq_zero (by omega)
  subst hl
  obtain ⟨rb,hm0,hB⟩:=hmem.blk 0 _ rfl
  have hB2:BRep w R μ rb (.row false none PCd (Du [])):=by
   rw [show Du []=[] by unfold Du; simp]; exact hB.noNl
  have hslice : ∃ p cap,u0 = .slice p 0 cap:=by
   generalize hz:([]:List Pl).length=z at v0
   cases v0 with
   | vac _ ao h=>exact ⟨_,_,rfl⟩
   | ref _ _ _ b off k cap len a h q0 q1 q2 q3=>exact ⟨some a,cap-0,by subst hz; rfl⟩
  obtain ⟨p,cap,rfl⟩:=hslice
  refine (AnyF.slices_SortFunc_none JI p cap _ w).mono ?_
  rintro e w' ⟨rfl,rfl⟩
  exact ⟨_,R,μ,rfl,FI (l':=Du []) hmem hnone hm0 rfl rfl rfl (Nat.le_refl _) (fun _ _ _=>rfl) hB2 (ht _)⟩
def puG:Gm
 | [.s b,.sl (.int .i64) ns,.s v],[]=>.need (decide (b.length<=4000000000/\v.length<=4000000000)) (.leaf (.tup [.s (puL b ns v),.b (puB b ns v)],[]))
 | _,_=>.no
theorem Lx (b:By) (ns:List Int) (v:By):Bg prog (Aa [(25,.rd1 JM),(26,.rd1 Me),(27,.rd1 OE),(28,.rd1 Ow),(29,.rd1 NA)]) (Aa []) f6 [.s b,.sl (.int .i64) ns,.s v] [] =
 ((shr (take ((AR b).getD (An WFd)).length (drop 0 ((AR b).getD (An WFd)))) fun sh3=>shr (take ((AR v).getD (An WFd)).length (drop
 0 ((AR v).getD (An WFd)))) fun sh2=>shr (take ((AJ sh3 ns).length+sh2.length) (drop 0 (take (AJ sh3 ns).length (drop (0
 : Nat) (AJ sh3 ns))++sh2))) fun sh1=>ifT (decide (b.length<=4000000000)) (ifT (decide (v.length<=4000000000)) (ifB (!(AR b).isSome) (some
 (V.tup [V.s (An UInt8),V.b false],[])) (ifB (!(AR v).isSome) (some (V.tup [V.s (An UInt8),V.b false],[])) (ifB (!AP ns) (some (V.tup [V.s (An UInt8),V.b
 false],[])) (ifT (decide (sh2.length<=100000)) (ifB (decide ((↑(AJ sh2 ns).length:Int)>(0:Int))) (some (V.tup [V.s (An UInt8),V.b false],[])) (ifT
 (decide (sh3.length<=100000)) (ifT (decide (((AJ sh3 ns).length+sh2.length)*40<=140737488355328)&&decide ((AJ sh3 ns).length +
 sh2.length<=maxI)) (ifT (decide (sh1.length<=100000)) (ifT (decide ((take (EF sh1).length (drop 0 (EF sh1))).length<=100000)&&
 (take (EF sh1).length (drop 0 (EF sh1))).all BV) (ifB (decide ((↑(fbs (take (EF sh1).length (drop 0 (EF sh1)))).length :
 Int)>(400:Int))) (some (V.tup [V.s (An UInt8),V.b false],[])) (some (V.tup [V.s (fbs (take (EF sh1).length (drop 0 (EF sh1)))),V.b true],
 [])))))))))))))):_):=by kernel_rfl
theorem IE : ∀ (l o:List WFd),(l.foldl C4 o).length=o.length+l.length
 | [],o=>by simp
 | f::l,o=>by rw [List.foldl_cons,IE l,H2,length_cons]; omega
theorem Ni (l:List WFd):(Ie l).length=l.length:=by unfold Ie; rw [IE]; simp
theorem JW {b v:By} {ns:List Int} {l m:List WFd} (hl:AR b=some l) (hm:AR v=some m) (hn : ∀ f∈m,f.1∈ns):EF (AJ l ns++m)=BH l m ns/\(BH l m ns).all BV=true/\(AJ l ns++m).length<=40/\(BH l m ns).length<=40:=by
 obtain ⟨x1,x2,x3,x4,_⟩:=D1 hl hm hn
 have h1:(AJ l ns++m).length<=40:=by
  have:=Ni (AJ l ns++m)
  unfold BH at x3
  omega
 refine ⟨?_,all_eq_true.2 fun f hf=>FP (x4 f hf).1 (x4 f hf).2,h1,by omega⟩
 have h2:L2 (AJ l ns++m)=true:=by
  unfold L2
  rw [dcT h1,Bool.and_true]
  exact all_eq_true.2 fun f hf=>(x4 f (Hn.2 hf)).1
 unfold EF
 rw [h2]; rfl
theorem CJ {b v:By} {ns:List Int} (h:puB b ns v=false):(some (V.tup [V.s [],V.b false],[]):Option (V×List (Option Blk)))=some (V.tup [V.s (puL b ns v),V.b (puB b ns v)],[]):=by
 unfold puL
 rw [h]; rfl
theorem spu:Ag prog 6 (Ent.rd1 puG).F:=by
 refine fcC (kc func25 NU (kc func26 l5n (kc func27 l5d (kc func28 sfo (kc func29 PH KnowsL.nil))))).knows (Λ:=Aa []) func6 fun vs bs r hq=>?_
 unfold Ent.F puG at hq
 dsimp only at hq
 split at hq
 ·rename_i b ns v
  obtain ⟨hc,hx⟩:=Af hq
  obtain ⟨hc1,hc2⟩:=of_decide_eq_true hc
  refine ⟨Am _,(Lx b ns v).trans (Eq.trans ?_ hx)⟩
  dsimp only [shr]
  rw [Ad (dcT hc1),Ad (dcT hc2)]
  simp only [A9,drop_zero,take_length]
  show _=some _
  cases h1:AR b with
  | none=>exact CJ (by unfold puB; rw [h1]; rfl)
  | some l=>
  cases h2:AR v with
  | none=>exact CJ (by unfold puB; rw [h1,h2]; rfl)
  | some m=>
  simp only [isSome_some,getD_some,Bool.not_true,AI]
  cases h3:AP ns with
  | false=>exact CJ (by unfold puB; rw [h1,h2,h3]; rfl)
  | true=>
  have m1:=(BA h1).1
  have m2:=(BA h2).1
  rw [Bool.not_true,AI,Ad (dcT (by omega))]
  cases h4:(AJ m ns).isEmpty with
  | false=>
   have h5:0<(AJ m ns).length:=by
    cases q:AJ m ns with
    | nil=>rw [q] at h4; cases h4
    | cons x y=>simp
   rw [Ah (dcT (by omega))]
   exact CJ (by unfold puB; rw [h1,h2,h3,getD_some,h4]; rfl)
  | true=>
  have h5:(AJ m ns).length=0:=by rw [List.isEmpty_iff.1 h4]; rfl
  have hn:=E8.1 h4
  obtain ⟨y1,y2,y3,y4⟩:=JW h1 h2 hn
  have y5:=y3
  rw [length_append] at y5
  have e9:take ((AJ l ns).length+m.length) (AJ l ns++m)=AJ l ns++m:=take_of_length_le (by rw [length_append]; omega)
  have hM:=mxI
  rw [Ae (dcF (by omega)),Ad (dcT (by omega)),T2 (by omega)]
  simp only [e9,y1]
  rw [Ad (dcT (by omega)),y2,Ad (by rw [Bool.and_true]; exact dcT (by omega))]
  by_cases h6:(fbs (BH l m ns)).length<=400
  ·obtain ⟨z1,z2⟩:=JY h1 h2 h3 hn h6
   rw [Ae (dcF (by omega)),z1,z2]
  ·rw [Ah (dcT (by omega))]
   exact CJ (by unfold puB puX; rw [h1,h2,h3,getD_some,getD_some,h4,dcF h6]; rfl)
 ·cases hq

theorem Mq (b:By) (ns:List Int) (v:By):Bg prog (Aa [(17,.rd1 Nm),(18,.rd1 rnG),(19,.rd1 N3),(20,.own Ou),(24,.rd1 N5),(23,.rd1 N4)]) (Aa []) f5 [.s b,.sl (.int .i64) ns,.s v] [] =
 ((shr (take ((Do b).getD (An Pl)).length (drop 0 ((Do b).getD (An Pl)))) fun sh4=>shr (take ((Do v).getD (An Pl)).length (drop (0 :
 Nat) ((Do v).getD (An Pl)))) fun sh3=>shr (take (Bx sh4 ns true).length (drop 0 (Bx sh4 ns true))++sh3) fun sh2=>shr (take ((Bx sh4
 ns true).length+sh3.length) (drop 0 (Du sh2))) fun sh1=>ifT (decide (b.length<=4000000000)) (ifT (decide (v.length<=4000000000)) (ifB
 (!(Do b).isSome) (some (V.tup [V.s (An UInt8),V.b false],[])) (ifB (!(Do v).isSome) (some (V.tup [V.s (An UInt8),V.b false],[])) (ifB (!AP ns) (some (V.tup
 [V.s (An UInt8),V.b false],[])) (ifT (decide (sh3.length<=100000)) (ifB (decide ((↑(Bx sh3 ns true).length:Int)>(0:Int))) (some (V.tup [V.s (An
 UInt8),V.b false],[])) (ifT (decide (sh4.length<=100000)) (ifT (decide (((Bx sh4 ns true).length+sh3.length)*48<=140737488355328)&&
 decide ((Bx sh4 ns true).length+sh3.length<=maxI)) (ifT (decide ((Bx sh4 ns true).length+sh3.length=sh2.length/\(Bx sh4 ns true).length+sh3.length<=(1000
 : Nat))&&O6 sh2) (ifT (decide (sh1.length<=100000)) (ifT (decide ((take sh1.length (drop 0 (List.map (fun z=>z.1) sh1))).length<=(1000
 : Nat))&&(take sh1.length (drop 0 (List.map (fun z=>z.1) sh1))).all Bp) (some (V.tup [V.s (bif H3 (take sh1.length (drop 0
 (List.map (fun z=>z.1) sh1))) then fbs (take sh1.length (drop 0 (List.map (fun z=>z.1) sh1))) else An UInt8),V.b (H3 (take sh1.length
 (drop 0 (List.map (fun z=>z.1) sh1))))],[])))))))))))))):_):=by kernel_rfl
theorem Nh {J:List Pl} (hd:J.Pairwise fun a b=>a.1.1≠b.1.1):(Du J).map (fun z=>z.1)=Ie (J.map fun z=>z.1):=by
 refine ED _ _ (pairwise_map.2 (JH hd)) (Lu (pairwise_map.2 hd)) fun x=>?_
 rw [Hn,mem_map,mem_map]
 constructor
 ·rintro ⟨z,h1,h2⟩; exact ⟨z,(Ct J).mem_iff.1 h1,h2⟩
 ·rintro ⟨z,h1,h2⟩; exact ⟨z,(Ct J).mem_iff.2 h1,h2⟩
theorem ipu:Ag prog 5 (Ent.rd1 puG).F:=by
 refine fcC (kc func17 ris (kc func18 rn (kc func19 hav (kc func20 PR (kc func24 fof (kc func23 fsb KnowsL.nil)))))).knows (Λ:=Aa []) func5 fun vs bs r hq=>?_
 unfold Ent.F puG at hq
 dsimp only at hq
 split at hq
 ·rename_i b ns v
  obtain ⟨hc,hx⟩:=Af hq
  obtain ⟨hc1,hc2⟩:=of_decide_eq_true hc
  refine ⟨Am _,(Mq b ns v).trans (Eq.trans ?_ hx)⟩
  dsimp only [shr]
  rw [Ad (dcT hc1),Ad (dcT hc2)]
  simp only [A9,drop_zero,take_length]
  show _=some _
  cases g1:Do b with
  | none=>
   have h1:AR b=none:=by rw [DK,g1]; rfl
   exact CJ (by unfold puB; rw [h1]; rfl)
  | some lp=>
  have h1:AR b=some (lp.map fun z=>z.1):=by rw [DK,g1]; rfl
  cases g2:Do v with
  | none=>
   have h2:AR v=none:=by rw [DK,g2]; rfl
   exact CJ (by unfold puB; rw [h1,h2]; rfl)
  | some mp=>
  have h2:AR v=some (mp.map fun z=>z.1):=by rw [DK,g2]; rfl
  simp only [isSome_some,getD_some,Bool.not_true,AI]
  cases h3:AP ns with
  | false=>exact CJ (by unfold puB; rw [h1,h2,h3]; rfl)
  | true=>
  have m1:=(BA h1).1
  have m2:=(BA h2).1
  rw [length_map] at m1 m2
  rw [Bool.not_true,AI,Ad (dcT (by omega))]
  have d1:=congrArg List.length (I8 mp ns)
  rw [length_map] at d1
  cases h4:(AJ (mp.map fun z=>z.1) ns).isEmpty with
  | false=>
   have h5:0<(AJ (mp.map fun z=>z.1) ns).length:=by
    cases q:AJ (mp.map fun z=>z.1) ns with
    | nil=>rw [q] at h4; cases h4
    | cons x y=>simp
   rw [Ah (dcT (by omega))]
   exact CJ (by unfold puB; rw [h1,h2,h3,getD_some,h4]; rfl)
  | true=>
  have h5:(AJ (mp.map fun z=>z.1) ns).length=0:=by rw [List.isEmpty_iff.1 h4]; rfl
  have hn:=E8.1 h4
  have hj:=Kf (CC (BA h1).2.2) (CC (BA h2).2.2) hn
  have eJ:AJ (lp.map fun z=>z.1) ns++(mp.map fun z=>z.1)=(Bx lp ns true++mp).map fun z=>z.1:=by rw [List.map_append,I8]
  rw [eJ] at hj
  have hd:=pairwise_map.1 hj
  obtain ⟨y1,y2,y3,y4⟩:=JW h1 h2 hn
  obtain ⟨x1,x2,x3,x4,_⟩:=D1 h1 h2 hn
  have y5:=y3
  rw [eJ,length_map,length_append] at y5
  have sl:(Du (Bx lp ns true++mp)).length=(Bx lp ns true).length+mp.length:=by rw [(Ct _).length_eq,length_append]
  have e9:take ((Bx lp ns true).length+mp.length) (Du (Bx lp ns true++mp))=Du (Bx lp ns true++mp):=take_of_length_le (by omega)
  have e8:(Du (Bx lp ns true++mp)).map (fun z=>z.1)=BH (lp.map fun z=>z.1) (mp.map fun z=>z.1) ns:=by rw [Nh hd,<-eJ]; rfl
  have e7:take (Du (Bx lp ns true++mp)).length ((Du (Bx lp ns true++mp)).map fun z=>z.1)=BH (lp.map fun z=>z.1) (mp.map fun z=>z.1) ns:=by rw [take_of_length_le (by rw [length_map]; exact Nat.le_refl _),e8]
  have one:O6 (Bx lp ns true++mp)=true:=dcT hd
  have fn:(BH (lp.map fun z=>z.1) (mp.map fun z=>z.1) ns).all Bp=true:=all_eq_true.2 fun f hf=>II (x4 f hf).1 (x4 f hf).2
  have hM:=mxI
  rw [Ae (dcF (by omega)),Ad (dcT (by omega)),T2 (by omega),one,Ad (by rw [Bool.and_true]; exact dcT ⟨by rw [length_append],by omega⟩)]
  simp only [e9]
  simp only [e7]
  rw [Ad (dcT (by omega)),fn,Ad (by rw [Bool.and_true]; exact dcT (by omega))]
  unfold H3
  by_cases h6:(fbs (BH (lp.map fun z=>z.1) (mp.map fun z=>z.1) ns)).length<=400
  ·obtain ⟨z1,z2⟩:=JY h1 h2 h3 hn h6
   rw [dcT h6,z1,z2]; rfl
  ·rw [dcF h6]
   exact CJ (by unfold puB puX; rw [h1,h2,h3,getD_some,getD_some,h4,dcF h6]; rfl)
 ·cases hq

theorem KA (f:List Int->By×List Int×By) (g:List Int->By×List Int) (h:List Int->List Int×List Int) (l r:List Int):AL prog (Aa [(4,.rd1 (MD f)),(5,.rd1 puG),(6,.rd1 puG),(7,.rd1 vwG),(8,.rd1 (M8 g)),(9,.rd1 vwG),(10,.rd1 (MK h)),(11,.rd1 N2),(12,.rd1 coG),(13,.rd1 DJ)]) (Aa []) Try.f3 [.sl (.int .u8) l,.sl (.int .u8) r] [] =
 ((shr (Cur.mk r (0:Int) (0:Int)) fun sh9=>shr (take (g r).2.length (drop 0 (g r).2)) fun sh8=>shr (g r).1 fun sh7=>shr (f l).2.2 fun
 sh6=>shr (f l).1 fun sh5=>shr (take (h r).2.length (drop 0 (h r).2)) fun sh4=>shr (take (h r).1.length (drop 0 (h
 r).1)) fun sh3=>shr (take (f l).2.1.length (drop 0 (f l).2.1)) fun sh2=>shr (ifT (decide (sh7.length<=4000000000)) (ifT (decide
 (sh7.length<=4000000000)) (ifT (decide (sh9.good (0:Int))) (ifT (decide (sh3.length<=1000000000)) (ifT (decide (sh3.length<=1000000000)) (ifB
 (!vwB sh7 sh8==vwB sh7 sh8) nF (ifB (!vwL sh7 sh8==vwL sh7 sh8) nF (ifB (!coB sh3 sh4==coB sh3 sh4) nF
 (ifB (!decide (take (coL sh3 sh4).length (drop 0 (J0 sh3 sh4))=take (coL sh3 sh4).length (drop 0 (coL sh3 sh4)))) nF (ifB (coB sh3 sh4) (ifT (decide (sh7.length<=4000000000)) (ifT (decide ((vwL sh7 sh3).length<=4000000000)) (ifT (decide (sh7.length<=
 4000000000)) (ifB (!vwB sh7 sh3==vwB sh7 (take (coL sh3 sh4).length (drop 0 (J0 sh3 sh4)))) nF (ifB (vwB sh7 sh3) (ifB
 (!vwB (vwL sh7 sh3) sh4) nF (ifB (!vwL (vwL sh7 sh3) sh4==vwL sh7 (take (coL sh3 sh4).length (drop 0 (J0 sh3 sh4)))) nF (some (V.b true,[])))) (some (V.b true,[]))))))) (some (V.b true,[])))))))))))) fun sh1=>ifB (decide (i64.wrap ((↑l.length:Int)+(↑r.length :
 Int))>(1048576:Int))) (some (V.b true,[])) (ifT (decide ((Cur.mk l (0:Int) (0:Int)).good (0:Int))) (ifT (decide (sh5.length<=4000000000/\sh6.length<=
 4000000000)) (ifT (decide (sh5.length<=4000000000/\sh6.length<=4000000000)) (ifB (!puB sh5 sh2 sh6==puB sh5 sh2 sh6) nF
 (ifB (!puL sh5 sh2 sh6==puL sh5 sh2 sh6) nF (ifB (puB sh5 sh2 sh6) (ifT (decide ((puL sh5 sh2 sh6).length<=4000000000)) (ifT (decide
 (sh5.length<=4000000000)) (ifT (decide ((puL sh5 sh2 sh6).length<=4000000000/\(vwL sh5 sh2).length<=4000000000)) (ifB (!vwB (puL sh5 sh2 sh6)
 sh2) nF (ifB (!vwL (puL sh5 sh2 sh6) sh2==sh6) nF (ifB (!vwB sh5 sh2) nF (ifB (!puB (puL sh5 sh2 sh6) sh2
 (vwL sh5 sh2)) nF (ifB (!puL (puL sh5 sh2 sh6) sh2 (vwL sh5 sh2)==sh5) nF (ifT (decide (sh5.length<=4000000000/\(vwL
 sh5 sh2).length<=4000000000)) (ifB (!puB sh5 sh2 (vwL sh5 sh2)) nF (ifB (!puL sh5 sh2 (vwL sh5 sh2)==sh5) nF (ifT
 (decide (sh9.good (0:Int))) sh1)))))))))))) (ifT (decide (sh9.good (0:Int))) sh1)))))))):_):=by kernel_rfl
theorem NX (b:By) (ns:List Int) (v:By):(puL b ns v).length<=400:=by
 cases h:puB b ns v with
 | false=>unfold puL; rw [h]; exact zero_le _
 | true=>
  obtain ⟨_,_,_,_,_,_,h5,e⟩:=JX h
  rw [e]; exact h5
theorem Mv (x y:List Int):take (coL x y).length (drop 0 (J0 x y))=coL x y:=by
 rw [drop_zero]
 unfold J0 coL
 cases coB x y with
 | false=>rfl
 | true=>
  rw [cond_true,cond_true]
  unfold I4
  exact List.take_left
theorem N6 (c:By) (x y:List Int):ifB (coB x y) (ifB (!(vwB c x==vwB c (coL x y))) (some (V.b false,([]:List (Option Blk)))) (ifB (vwB c x) (ifB (!(vwB (vwL c x) y)) nF (ifB (!(vwL (vwL c x) y==vwL c (coL x y))) nF (some (V.b true,[])))) (some (V.b true,[])))) (some (V.b true,[]))=some (V.b true,[]):=by
 cases h:coB x y with
 | false=>rfl
 | true=>
  obtain ⟨h1,h2⟩:=La (c:=c) h
  rw [BT,<-h1,beq_self_eq_true,Bool.not_true,AI]
  cases hv:vwB c x with
  | false=>rfl
  | true=>
   obtain ⟨h3,h4⟩:=h2 hv
   rw [BT,h3,Bool.not_true,AI,h4,beq_self_eq_true,Bool.not_true,AI]
theorem u8_range {n:Int} (h:(Lit.int .u8 n).wf=true):0<=n/\n<=255:=by
 simp only [Lit.wf,anE,dcE] at h
 exact h
noncomputable abbrev Po:FuncId->Option Ent:=Aa [(4,.rd1 (MD GY)),(5,.rd1 puG),(6,.rd1 puG),(7,.rd1 vwG),(8,.rd1 (M8 IL)),(9,.rd1 vwG),(10,.rd1 (MK IP)),(11,.rd1 N2),(12,.rd1 coG),(13,.rd1 DJ)]
theorem law_knows:Knows prog Po:=KnowsL.knows (kc func4 NG (kc func5 ipu (kc func6 spu (kc func7 ivw (kc func8 NC (kc func9 vw (kc func10 NJ (kc func11 ico (kc func12 sco (kc func13 L5 KnowsL.nil))))))))))
theorem law_loops:Aq prog Po (Aa []) 0 (Try.f3.body.getD .skip):=Am _
theorem law_fun (l r:List Int) (hb : ∀ z∈l,0<=z/\z<=255) (hr : ∀ z∈r,0<=z/\z<=255):AL prog Po (Aa []) Try.f3 [.sl (.int .u8) l,.sl (.int .u8) r] []=some (.b true,[]):=by
 rw [KA]
 try dsimp only [shr]
 by_cases h0:i64.wrap ((l.length:Int)+(r.length:Int))>1048576
 ·rw [Ah (dcT h0)]
 have hc:(Cur.mk l 0 0).good 0:=⟨hb,Int.le_refl _,Int.le_refl _⟩
 have hd:(Cur.mk r 0 0).good 0:=⟨hr,Int.le_refl _,Int.le_refl _⟩
 have hd':decide ((Cur.mk r 0 0).good 0)=true:=dcT hd
 rw [Ae (dcF h0),Ad (dcT hc)]
 obtain ⟨a1,a2,a3⟩:=OX l hc
 obtain ⟨b1,b2⟩:=OS r hd
 obtain ⟨c1,c2⟩:=Pb r hd
 generalize GY l=G at *
 generalize IL r=H at *
 generalize IP r=J at *
 obtain ⟨b,ns,v⟩:=G
 obtain ⟨c,few⟩:=H
 obtain ⟨x,y⟩:=J
 dsimp only at *
 have tk : ∀ a:List Int,take a.length (drop 0 a)=a:=fun a=>by rw [drop_zero,take_length]
 have n1:decide (c.length<=4000000000)=true:=dcT (by omega)
 have n2:decide (x.length<=1000000000)=true:=dcT (by omega)
 have n3:decide (b.length<=4000000000/\v.length<=4000000000)=true:=dcT ⟨by omega,by omega⟩
 have n4 : ∀ (s:By) (q:List Int),decide ((vwL s q).length<=4000000000)=true:=fun s q=>dcT (by have:=Hj s q; omega)
 have n5:decide ((puL b ns v).length<=4000000000)=true:=dcT (by have:=NX b ns v; omega)
 have n6:decide (b.length<=4000000000)=true:=dcT (by omega)
 have n7:decide ((puL b ns v).length<=4000000000/\(vwL b ns).length<=4000000000)=true:=dcT ⟨by have:=NX b ns v; omega,by have:=Hj b ns; omega⟩
 have n8:decide (b.length<=4000000000/\(vwL b ns).length<=4000000000)=true:=dcT ⟨by omega,by have:=Hj b ns; omega⟩
 have sameE : ∀ a:List Int,decide (a=a)=true:=fun a=>dcT rfl
 have fin:=N6 c x y
 simp only [Mv,tk,hd',n1,n2,n3,n4,n5,n6,n7,n8,Mt,beq_self_eq_true,Bool.not_true,AI,decide_true,fin]
 cases hp:puB b ns v with
 | false=>simp only [AI]
 | true=>
  obtain ⟨e1,e2,e3,e4,e5,e6,e7⟩:=Mb hp
  simp only [BT,e1,e2,e3,e4,e5,e6,e7,beq_self_eq_true,Bool.not_true,AI]
end Go.Proofs.Ytiflknahhbkneaa.Den
