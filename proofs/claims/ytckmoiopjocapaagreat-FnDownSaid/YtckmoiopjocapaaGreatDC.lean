/- What functions of the program do, by the machine: Dr3 Dr4 Dr5 Dr6 Dr7 Dr8 Dr9 Dw2 Wi1 Wi2 Wi3. -/
import Derived.Test.YtckmoiopjocapaaGreatDB
import Derived.KernelRfl
import Derived.Test.YtckmoiopjocapaaGreatRows
open Go.IntKind (i64)
open Go.Proofs.Tryz
open List (all_eq_true drop drop_eq_getElem_cons drop_eq_nil_of_le drop_zero getElem_mem length_append length_set mem_range take take_length)
open Int (eq_ofNat_of_zero_le tdiv tmod toNat)
open Nat (mul_comm mul_le_mul pow_add sub_zero zero_add)
open Bool (or_eq_true)
namespace Go.Proofs.YtckmoiopjocapaaGreat.Den
open Go.Proofs
set_option maxRecDepth 100000
def ER (n:Nat):Gm
 | [.agg (Lt y0 y1 y2 y3 y4 ys),.j up,.ref 0 0 m],[.row false _ TCd o]=>.need (decide (m=o.length/\o.length+Ak ys+1<=2000000/\Ak ys+1<=n)) (.leaf (.ref 1 0 (o++AK (.node (y0,y1,y2,y3,y4,()) ys) up o.length).length,[none,R0 TCd (o++AK (.node (y0,y1,y2,y3,y4,()) ys) up o.length)]))
 | _,_=>.no
def Hy:Gm
 | [.agg (Lt y0 y1 y2 y3 y4 ys),.j up,.ref 0 0 m],[.row false _ TCd o]=>.need (decide (m=o.length/\o.length+Ak ys+1<=2000000)) (.leaf (.ref 1 0 (o++AK (.node (y0,y1,y2,y3,y4,()) ys) up o.length).length,[none,R0 TCd (o++AK (.node (y0,y1,y2,y3,y4,()) ys) up o.length)]))
 | _,_=>.no
def Fv (n:Nat):LoopEnt:=⟨40,[2,7,28,29,30],[2],[],fun
 | ([.ref 1 0 m,.j s,.sl (.rose LCd) ks,.j k,.j i],[none,R0 TCd o])=>.need (decide (m=o.length/\0<=i/\i.toNat<=ks.length/\k=ks.length/\0<=s/\o.length+Ak (ks.drop i.toNat)<=2000000/\Ak ks<=n/\Ak ks<=2000000)) (.leaf (.exit 0,([.ref 1 0 (o++Bt (ks.drop i.toNat) s.toNat o.length).length],[none,R0 TCd (o++Bt (ks.drop i.toNat) s.toNat o.length)])))
 | _=>.no⟩
def NV:Gm
 | [.agg (Lt y0 y1 y2 y3 y4 ys),.j up,.nl],[]=>.need (decide (Ak ys+1<=2000000)) (.leaf (.ref 0 0 (AK (.node (y0,y1,y2,y3,y4,()) ys) up 0).length,[R0 TCd (AK (.node (y0,y1,y2,y3,y4,()) ys) up 0)]))
 | _,_=>.no
def DW:LoopEnt:=⟨40,[2,7,28,29,30],[2],[],fun
 | ([.ref 0 0 m,.j s,.sl (.rose LCd) ks,.j k,.j i],[R0 TCd o])=>.need (decide (m=o.length/\0<=i/\i.toNat<=ks.length/\k=ks.length/\0<=s/\o.length+Ak (ks.drop i.toNat)<=2000000/\Ak ks<=2000000)) (.leaf (.exit 0,([.ref 0 0 (o++Bt (ks.drop i.toNat) s.toNat o.length).length],[R0 TCd (o++Bt (ks.drop i.toNat) s.toNat o.length)])))
 | _=>.no⟩
def SD:Gm
 | [.agg (Lt y0 y1 y2 y3 y4 ys)],[]=>.need (decide (Ak ys+1<=2000000)&&nmL (AK (.node (y0,y1,y2,y3,y4,()) ys) (-1) 0)) (.br (Ay (AK (.node (y0,y1,y2,y3,y4,()) ys) (-1) 0)) (.leaf (.tup [.agg [.ref 0 0 (AK (.node (y0,y1,y2,y3,y4,()) ys) (-1) 0).length],.b true],[R0 TCd (AK (.node (y0,y1,y2,y3,y4,()) ys) (-1) 0)])) (.leaf (.tup [.agg [.ref 0 0 0],.b false],[R0 TCd []])))
 | _,_=>.no
def I7 (f:Cur->(List Ty)×Cur):Gm
 | [.ptr 0 0],[.box [.sl (.int .u8) l,.j a,.i .u64 s]]=>.need (decide ((Cur.mk l a s).good 80000000)) (.leaf (.agg [.ref 1 0 (f  (Cur.mk l a s)).1.length],[some (cB (f  (Cur.mk l a s)).2),R0 TCd (f  (Cur.mk l a s)).1]))
 | _,_=>.no
theorem JA (n m:Nat) (s:Int) (ks:RL) (k i:Int) (o:List Ty):Au prog (Aa [(154,.own (ER n))]) (Aa [(4,Fv n)]) 1 (body f154 0) (Fv n) ([.ref 1 0 m,.j s,.sl (.rose LCd) ks,.j k,.j i],[none,R0 TCd o]) =
 ((ifB (decide (i<k)) (ifT (decide (0<=i)&&decide (i<(↑ks.length:Int))) (An ks[i.toNat]? fun z=>ifT (decide (m=o.length/\o.length+Ak (Rose.kids z)+(1
 : Nat)<=2000000/\Ak (Rose.kids z)+1<=n)) (some (Ex.normal,[V.ref 1 0 (o++AK (Rose.node ((Rose.lab z).1,(Rose.lab z).2.1,(Rose.lab
 z).2.2.1,(Rose.lab z).2.2.2.1,(Rose.lab z).2.2.2.2.1,()) (Rose.kids z)) s o.length).length,V.j s,V.sl LCd.rose ks,V.j k,V.i .i64
 (i64.wrap (i+1))],[none,R0 TCd (o++AK (Rose.node ((Rose.lab z).1,(Rose.lab z).2.1,(Rose.lab z).2.2.1,(Rose.lab
 z).2.2.2.1,(Rose.lab z).2.2.2.2.1,()) (Rose.kids z)) s o.length)])))) (some (Ex.exit 0,[V.ref 1 0 m],[none,R0 TCd o]))):_):=by kernel_rfl
theorem Rp (n:Nat) (y0:Int) (y1:By) (y2:Int) (y3:Bool) (y4:Int) (ys:RL) (m:Nat) (up:Int) (nl:Option Bool) (o:List Ty):Cx prog (Aa [(154,.own (ER n))]) (Aa [(4,Fv n)]) f154 [.agg (Lt y0 y1 y2 y3 y4 ys),.j up,.ref 0 0 m] [.row false nl TCd o] =
 ((ifT (decide ((m+1)*56<=140737488355328)&&decide (m+1<=maxI)) (ifT (decide (m+1=(take m (drop 0 o)
 ++ (y0,y1,y2,y3,up,y4,())::Ag TCd.den).length/\(0:Int)<=(0:Int)/\0<=ys.length/\(↑ys.length:Int)=(↑ys.length:Int)/\0<=(↑m:Int)/\
 (take m (drop 0 o)++(y0,y1,y2,y3,up,y4,())::Ag TCd.den).length+Ak (drop 0 ys)<=2000000/\Ak ys<=n/\Ak ys<=
 2000000)) (some (V.ref 1 0 (take m (drop 0 o)++(y0,y1,y2,y3,up,y4,())::Ag TCd.den++Bt (drop 0 ys) (↑m :
 Int).toNat (take m (drop 0 o)++(y0,y1,y2,y3,up,y4,())::Ag TCd.den).length).length,[none,R0 TCd (take m
 (drop 0 o)++(y0,y1,y2,y3,up,y4,())::Ag TCd.den++Bt (drop 0 ys) (↑m:Int).toNat (take m (drop 0 o)++(y0,
 y1,y2,y3,up,y4,())::Ag TCd.den).length)])))):_):=by kernel_rfl
theorem KF (n s:Nat) (ks:RL) (h1:Ak ks<=n) (h2:Ak ks<=2000000) : ∀ (j i:Nat) (o:List Ty),i+j=ks.length->o.length+Ak (ks.drop i)<=2000000->
  Runs prog (Aa [(154,.own (ER n))]) (Aa [(4,Fv n)]) 1 (body f154 0) (Fv n) ([.ref 1 0 o.length,.j (s:Int),.sl (.rose LCd) ks,.j (ks.length:Int),.j (i:Int)],[none,R0 TCd o]) (.exit 0) ([.ref 1 0 (o++Bt (ks.drop i) s o.length).length],[none,R0 TCd (o++Bt (ks.drop i) s o.length)])
 | 0,i,o,hi,ho=>by
  have hr:=JA n o.length s ks ks.length i o;rw [Ae (dcF (by omega))] at hr;rw [drop_eq_nil_of_le (by omega),Bt,List.append_nil];exact stp hr
 | j+1,i,o,hi,ho=>by
  have hl:i<ks.length:=by omega
  have hM:=mxI;have hlen:=Bc ks;have hmem:=Bo (getElem_mem hl);have hck:=AE ks[i];have hr:=JA n o.length s ks ks.length i o;rw [drop_eq_getElem_cons hl,Ak] at ho;rw [Af (dcT (by omega)),T2 (by omega),ntN,gtE hl,Ap,Az (n:=i) (by omega),AG,Ab (dcT ⟨rfl,by omega,by omega⟩)] at hr;rw [drop_eq_getElem_cons hl,Bt];have hk:=Dc ks[i] s o.length;have ih:=KF n s ks h1 h2 j (i+1) (o++AK ks[i] s o.length) (by omega) (by rw [length_append]; omega);rw [length_append,List.append_assoc] at ih;rw [length_append] at hr;exact sts hr ih
theorem VI (n:Nat):Aw prog (Aa [(154,.own (ER n))]) (Aa [(4,Fv n)]) 1 (f154.body.getD .skip):=by
 refine As (a:=body f154 0) (by kernel_rfl) fun d ex d' h=>?_
 unfold Fv at h;dsimp only at h;split at h
 ·rename_i m s ks k i o;obtain ⟨hc,hx⟩:=Ad h;clear h;obtain ⟨rfl,h0,h1,rfl,h3,h4,h5,h6⟩:=of_decide_eq_true hc;obtain ⟨i,rfl⟩:=eq_ofNat_of_zero_le h0;obtain ⟨s,rfl⟩:=eq_ofNat_of_zero_le h3;simp only [ntN] at h1 h4 hx;obtain ⟨rfl,rfl⟩:=lfP hx;exact KF n s ks h5 h6 (ks.length-i) i o (by omega) h4
 ·cases h
theorem MV (y0:Int) (y1:By) (y2:Int) (y3:Bool) (y4:Int) (ys:RL) (up:Int) (s:Nat):AK (.node (y0,y1,y2,y3,y4,()) ys) up s=(y0,y1,y2,y3,up,y4,())::Bt ys s (s+1):=by rw [AK]
theorem TF (n:Nat) (y0:Int) (y1:By) (y2:Int) (y3:Bool) (y4:Int) (ys:RL) (m:Nat) (up:Int) (nl:Option Bool) (o:List Ty) (hc:m=o.length/\o.length+Ak ys+1<=2000000/\Ak ys+1<=n+1):Cx prog (Aa [(154,.own (ER n))]) (Aa [(4,Fv n)]) f154 [.agg (Lt y0 y1 y2 y3 y4 ys),.j up,.ref 0 0 m] [.row false nl TCd o]=some (.ref 1 0 (o++AK (.node (y0,y1,y2,y3,y4,()) ys) up o.length).length,[none,R0 TCd (o++AK (.node (y0,y1,y2,y3,y4,()) ys) up o.length)]):=by
 rw [Rp];obtain ⟨rfl,h2,h3⟩:=hc;have hM:=mxI;have hlen:=Bc ys;rw [show drop 0 o=o from rfl,show drop 0 ys=ys from rfl,take_length,ntN,MV];rw [T2 (by omega)];rw [Ab (dcT ⟨by simp [A7],by omega,by omega,rfl,by omega,by simp [A7]; omega,by omega,by omega⟩)];simp [A7]
theorem TG : ∀ n,(∀ m,m<n->Ac prog 154 (Ent.own (ER m)).F)->Ac prog 154 (Ent.own (ER n)).F
 | 0,_=>AP fun vs bs=>by
  unfold Ent.F ER;dsimp only;split
  ·rename_i y0 y1 y2 y3 y4 ys up m x o;have:decide (m=o.length/\o.length+Ak ys+1<=2000000/\Ak ys+1<=0)=false:=dcF (by omega);rw [this]; rfl
  ·rfl
 | n+1,ih=>by
  refine fcN (kc func154 (ih n (Nat.lt_succ_self n)) KnowsL.nil).knows (Λ:=(Aa [(4,Fv n)])) func154 fun vs bs r hq=>?_
  unfold Ent.F ER at hq;dsimp only at hq;split at hq
  ·rename_i y0 y1 y2 y3 y4 ys up m nl o;obtain ⟨hc,hx⟩:=Ad hq;exact ⟨VI n,(TF n y0 y1 y2 y3 y4 ys m up nl o (of_decide_eq_true hc)).trans hx⟩
  ·cases hq
theorem Abp:Ac prog 154 (Ent.own Hy).F:=by
 refine Bb (F:=fun n=>(Ent.own (ER n)).F) TG fun vs bs r h=>?_
 unfold Ent.F Hy at h;dsimp only at h;split at h
 ·rename_i y0 y1 y2 y3 y4 ys up m nl o;obtain ⟨hc,hx⟩:=Ad h;refine ⟨Ak ys+1,?_⟩;show (Br.need (decide (m=o.length/\o.length+Ak ys+1<=2000000/\Ak ys+1<=Ak ys+1)) (.leaf (.ref 1 0 (o++AK (.node (y0,y1,y2,y3,y4,()) ys) up o.length).length,[none,R0 TCd (o++AK (.node (y0,y1,y2,y3,y4,()) ys) up o.length)]))).run=some r;obtain ⟨h1,h2⟩:=of_decide_eq_true hc;have:decide (m=o.length/\o.length+Ak ys+1<=2000000/\Ak ys+1<=Ak ys+1)=true:=dcT ⟨h1,h2,Nat.le_refl _⟩;rw [this];exact hx
 ·cases h
theorem HW (m:Nat) (s:Int) (ks:RL) (k i:Int) (o:List Ty):Au prog (Aa [(154,.own Hy)]) (Aa [(4,DW)]) 0 (body f154 0) DW ([.ref 0 0 m,.j s,.sl (.rose LCd) ks,.j k,.j i],[R0 TCd o]) =
 ((ifB (decide (i<k)) (ifT (decide (0<=i)&&decide (i<(↑ks.length:Int))) (An ks[i.toNat]? fun z=>ifT (decide (m=o.length/\o.length+Ak (Rose.kids z)+(1
 : Nat)<=2000000)) (some (Ex.normal,[V.ref 0 0 (o++AK (Rose.node ((Rose.lab z).1,(Rose.lab z).2.1,(Rose.lab z).2.2.1,(Rose.lab
 z).2.2.2.1,(Rose.lab z).2.2.2.2.1,()) (Rose.kids z)) s o.length).length,V.j s,V.sl LCd.rose ks,V.j k,V.j (i64.wrap (i +
 1))],[R0 TCd (o++AK (Rose.node ((Rose.lab z).1,(Rose.lab z).2.1,(Rose.lab z).2.2.1,(Rose.lab z).2.2.2.1,(Rose.lab
 z).2.2.2.2.1,()) (Rose.kids z)) s o.length)])))) (some (Ex.exit 0,[V.ref 0 0 m],[R0 TCd o]))):_):=by kernel_rfl
theorem Pr (y0:Int) (y1:By) (y2:Int) (y3:Bool) (y4:Int) (ys:RL) (up:Int):Cx prog (Aa [(154,.own Hy)]) (Aa [(4,DW)]) f154 [.agg (Lt y0 y1 y2 y3 y4 ys),.j up,.nl] [] =
 ((ifT (decide (1=1/\(0:Int)<=(0:Int)/\0<=ys.length/\(↑ys.length:Int)=(↑ys.length:Int)/\(0:Int)<=(0:Int)/\1+Ak
 (drop 0 ys)<=2000000/\Ak ys<=2000000)) (some (V.ref 0 0 ((y0,y1,y2,y3,up,y4,())::Ag TCd.den++Bt (drop 0 ys)
 0 1).length,[R0 TCd ((y0,y1,y2,y3,up,y4,())::Ag TCd.den++Bt (drop 0 ys) 0 1)]))):_):=by kernel_rfl
theorem JB (s:Nat) (ks:RL) (h2:Ak ks<=2000000) : ∀ (j i:Nat) (o:List Ty),i+j=ks.length->o.length+Ak (ks.drop i)<=2000000->
  Runs prog (Aa [(154,.own Hy)]) (Aa [(4,DW)]) 0 (body f154 0) DW ([.ref 0 0 o.length,.j (s:Int),.sl (.rose LCd) ks,.j (ks.length:Int),.j (i:Int)],[R0 TCd o]) (.exit 0) ([.ref 0 0 (o++Bt (ks.drop i) s o.length).length],[R0 TCd (o++Bt (ks.drop i) s o.length)])
 | 0,i,o,hi,ho=>by
  have hr:=HW o.length s ks ks.length i o;rw [Ae (dcF (by omega))] at hr;rw [drop_eq_nil_of_le (by omega),Bt,List.append_nil];exact stp hr
 | j+1,i,o,hi,ho=>by
  have hl:i<ks.length:=by omega
  have hM:=mxI;have hlen:=Bc ks;have hmem:=Bo (getElem_mem hl);have hck:=AE ks[i];have hr:=HW o.length s ks ks.length i o;rw [drop_eq_getElem_cons hl,Ak] at ho;rw [Af (dcT (by omega)),T2 (by omega),ntN,gtE hl,Ap,Az (n:=i) (by omega),AG,Ab (dcT ⟨rfl,by omega⟩)] at hr;rw [drop_eq_getElem_cons hl,Bt];have hk:=Dc ks[i] s o.length;have ih:=JB s ks h2 j (i+1) (o++AK ks[i] s o.length) (by omega) (by rw [length_append]; omega);rw [length_append,List.append_assoc] at ih;rw [length_append] at hr;exact sts hr ih
theorem TH:Aw prog (Aa [(154,.own Hy)]) (Aa [(4,DW)]) 0 (f154.body.getD .skip):=by
 refine As (a:=body f154 0) (by kernel_rfl) fun d ex d' h=>?_
 unfold DW at h;dsimp only at h;split at h
 ·rename_i m s ks k i o;obtain ⟨hc,hx⟩:=Ad h;clear h;obtain ⟨rfl,h0,h1,rfl,h3,h4,h6⟩:=of_decide_eq_true hc;obtain ⟨i,rfl⟩:=eq_ofNat_of_zero_le h0;obtain ⟨s,rfl⟩:=eq_ofNat_of_zero_le h3;simp only [ntN] at h1 h4 hx;obtain ⟨rfl,rfl⟩:=lfP hx;exact JB s ks h6 (ks.length-i) i o (by omega) h4
 ·cases h
theorem Rq (y0:Int) (y1:By) (y2:Int) (y3:Bool) (y4:Int) (ys:RL) (up:Int) (hc:Ak ys+1<=2000000):Cx prog (Aa [(154,.own Hy)]) (Aa [(4,DW)]) f154 [.agg (Lt y0 y1 y2 y3 y4 ys),.j up,.nl] []=some (.ref 0 0 (AK (.node (y0,y1,y2,y3,y4,()) ys) up 0).length,[R0 TCd (AK (.node (y0,y1,y2,y3,y4,()) ys) up 0)]):=by
 rw [Pr];have hM:=mxI;have hlen:=Bc ys;rw [show drop 0 ys=ys from rfl,MV];rw [Ab (dcT (by refine ⟨by trivial,by omega,by omega,by trivial,by omega,by omega,by omega⟩))];simp [A7]
theorem Abq:Ac prog 154 (Ent.own NV).F:=by
 refine fcN (kc func154 Abp KnowsL.nil).knows (Λ:=(Aa [(4,DW)])) func154 fun vs bs r hq=>?_
 unfold Ent.F NV at hq;dsimp only at hq;split at hq
 ·rename_i y0 y1 y2 y3 y4 ys up;obtain ⟨hc,hx⟩:=Ad hq;exact ⟨TH,(Rq y0 y1 y2 y3 y4 ys up (of_decide_eq_true hc)).trans hx⟩
 ·cases hq
theorem TI (y0:Int) (y1:By) (y2:Int) (y3:Bool) (y4:Int) (ys:RL):Bm prog (Aa [(154,.own NV),(63,.rd1 FX)]) (Aa []) f110 [.agg (Lt y0 y1 y2 y3 y4 ys)] [] =
 ((ifT (decide (Ak ys+1<=2000000)) (ifT (decide ((take (AK (Rose.node (y0,y1,y2,y3,y4,()) ys) (-1:Int) 0).length (drop (0 :
 Nat) (AK (Rose.node (y0,y1,y2,y3,y4,()) ys) (-1:Int) 0))).length<=4000000000)&&nmL (take (AK (Rose.node (y0,y1,y2,y3,y4,())
 ys) (-1:Int) 0).length (drop 0 (AK (Rose.node (y0,y1,y2,y3,y4,()) ys) (-1:Int) 0)))) (ifB (!Ay (take (AK (Rose.node
 (y0,y1,y2,y3,y4,()) ys) (-1:Int) 0).length (drop 0 (AK (Rose.node (y0,y1,y2,y3,y4,()) ys) (-1:Int) 0)))) (some (V.tup
 [V.agg [V.ref 0 0 0],V.b false],[R0 TCd (Ag TCd.den)])) (some (V.tup [V.agg [V.ref 0 0 (AK (Rose.node (y0,y1,y2,y3,y4,()) ys) (-1 :
 Int) 0).length],V.b true],[R0 TCd (AK (Rose.node (y0,y1,y2,y3,y4,()) ys) (-1:Int) 0)]))))):_):=by kernel_rfl
mutual
theorem Nm : ∀ (z:Rose Lab) (up:Int) (s:Nat),Cl z=true->nmL (AK z up s)=true
 | .node x ks,up,s,h=>by
  rw [Cl,anE] at h;have:=Nn ks s (s+1) h.2;unfold nmL at this ⊢;rw [AK,List.all_cons,this,h.1]; rfl
theorem Nn : ∀ (ks:RL) (s p:Nat),EF ks=true->nmL (Bt ks s p)=true
 | [],_,_,_=>by rw [Bt]; rfl
 | z::ks,s,p,h=>by
  rw [EF,anE] at h;have h1:=Nm z s p h.1;have h2:=Nn ks s (p+(AK z s p).length) h.2;unfold nmL at h1 h2 ⊢;rw [Bt,List.all_append,h1,h2]; rfl
end
theorem Agj:Ac prog 110 (Ent.rd1 SD).F:=by
 refine fcC (kc func154 Abq (kc func63 KL KnowsL.nil)).knows (Λ:=Aa []) func110 fun vs bs r hq=>?_
 unfold Ent.F SD at hq;dsimp only at hq;split at hq
 ·rename_i y0 y1 y2 y3 y4 ys;obtain ⟨hc,hx⟩:=Ad hq;rw [anE] at hc;obtain ⟨hc,hn⟩:=hc;have hc:=of_decide_eq_true hc;refine ⟨Ao _,Eq.trans ?_ hx⟩;have hl:=Dc (.node (y0,y1,y2,y3,y4,()) ys) (-1) 0;rw [AE,show (Rose.node (y0,y1,y2,y3,y4,()) ys:Rose Lab).kids=ys from rfl] at hl;rw [TI,Ab (dcT hc),drop_zero,take_length,Ab (by rw [hn,dcT (by omega)]; rfl)];cases Ay (AK (.node (y0,y1,y2,y3,y4,()) ys) (-1) 0)<;>rfl
 ·cases hq
theorem US (g:Int->Cur->Rose Lab×Cur)  (l:List Int) (a s:Int):Bm prog (Aa [(90,.own Bp),(111,.own (XH g)),(110,.rd1 SD)]) (Aa []) f65 [.ptr 0 0] [.box [.sl (.int .u8) l,.j a,.i .u64 s]] =
 ((ifT (decide ((Cur.mk l a s).good (900000000:Int))) (ifT (decide ((0:Int)<=(Cur.mk l a s).pickV (4:Int)/\(Cur.mk l a s).pickV (4:Int)<=(3:Int)/\((Cur.mk l a
 s).pickC (4:Int)).good (83000000:Int))) (ifT (decide (Ak (take (g ((Cur.mk l a s).pickV (4:Int)) ((Cur.mk l a s).pickC (4:Int))).1.kids.length (drop
 0 (g ((Cur.mk l a s).pickV (4:Int)) ((Cur.mk l a s).pickC (4:Int))).1.kids))+1<=2000000)&&nmL (AK (Rose.node ((g ((Cur.mk l a
 s).pickV (4:Int)) ((Cur.mk l a s).pickC (4:Int))).1.lab.1,(g ((Cur.mk l a s).pickV (4:Int)) ((Cur.mk l a s).pickC (4:Int))).1.lab.2.1,(g ((Cur.mk l a
 s).pickV (4:Int)) ((Cur.mk l a s).pickC (4:Int))).1.lab.2.2.1,(g ((Cur.mk l a s).pickV (4:Int)) ((Cur.mk l a s).pickC (4:Int))).1.lab.2.2.2.1,
 (g ((Cur.mk l a s).pickV (4:Int)) ((Cur.mk l a s).pickC (4:Int))).1.lab.2.2.2.2.1,()) (take (g ((Cur.mk l a s).pickV (4:Int)) ((Cur.mk l a
 s).pickC (4:Int))).1.kids.length (drop 0 (g ((Cur.mk l a s).pickV (4:Int)) ((Cur.mk l a s).pickC (4:Int))).1.kids))) (-1:Int) 0)) (ifB
 (Ay (AK (Rose.node ((g ((Cur.mk l a s).pickV (4:Int)) ((Cur.mk l a s).pickC (4:Int))).1.lab.1,(g ((Cur.mk l a s).pickV (4:Int)) ((Cur.mk l a s).pickC (4
 : Int))).1.lab.2.1,(g ((Cur.mk l a s).pickV (4:Int)) ((Cur.mk l a s).pickC (4:Int))).1.lab.2.2.1,(g ((Cur.mk l a s).pickV (4:Int)) ((Cur.mk l a
 s).pickC (4:Int))).1.lab.2.2.2.1,(g ((Cur.mk l a s).pickV (4:Int)) ((Cur.mk l a s).pickC (4:Int))).1.lab.2.2.2.2.1,()) (take (g
 ((Cur.mk l a s).pickV (4:Int)) ((Cur.mk l a s).pickC (4:Int))).1.kids.length (drop 0 (g ((Cur.mk l a s).pickV (4:Int)) ((Cur.mk l a s).pickC (4 :
 Int))).1.kids))) (-1:Int) 0)) (some (V.agg [V.ref 1 0 (AK (Rose.node ((g ((Cur.mk l a s).pickV (4:Int)) ((Cur.mk l a s).pickC (4:Int))).1.lab.1,
 (g ((Cur.mk l a s).pickV (4:Int)) ((Cur.mk l a s).pickC (4:Int))).1.lab.2.1,(g ((Cur.mk l a s).pickV (4:Int)) ((Cur.mk l a s).pickC (4 :
 Int))).1.lab.2.2.1,(g ((Cur.mk l a s).pickV (4:Int)) ((Cur.mk l a s).pickC (4:Int))).1.lab.2.2.2.1,(g ((Cur.mk l a s).pickV (4:Int)) ((Cur.mk l
 a s).pickC (4:Int))).1.lab.2.2.2.2.1,()) (take (g ((Cur.mk l a s).pickV (4:Int)) ((Cur.mk l a s).pickC (4:Int))).1.kids.length (drop (0 :
 Nat) (g ((Cur.mk l a s).pickV (4:Int)) ((Cur.mk l a s).pickC (4:Int))).1.kids))) (-1:Int) 0).length],[some (Blk.box [V.sl (Cd.int .u8) (g ((Cur.mk l a
 s).pickV (4:Int)) ((Cur.mk l a s).pickC (4:Int))).2.l,V.j (g ((Cur.mk l a s).pickV (4:Int)) ((Cur.mk l a s).pickC (4:Int))).2.a,V.i .u64 (g ((Cur.mk l
 a s).pickV (4:Int)) ((Cur.mk l a s).pickC (4:Int))).2.s]),R0 TCd (AK (Rose.node ((g ((Cur.mk l a s).pickV (4:Int)) ((Cur.mk l a
 s).pickC (4:Int))).1.lab.1,(g ((Cur.mk l a s).pickV (4:Int)) ((Cur.mk l a s).pickC (4:Int))).1.lab.2.1,(g ((Cur.mk l a s).pickV (4:Int)) ((Cur.mk l a
 s).pickC (4:Int))).1.lab.2.2.1,(g ((Cur.mk l a s).pickV (4:Int)) ((Cur.mk l a s).pickC (4:Int))).1.lab.2.2.2.1,(g ((Cur.mk l a s).pickV (4 :
 Int)) ((Cur.mk l a s).pickC (4:Int))).1.lab.2.2.2.2.1,()) (take (g ((Cur.mk l a s).pickV (4:Int)) ((Cur.mk l a s).pickC (4:Int))).1.kids.length
 (drop 0 (g ((Cur.mk l a s).pickV (4:Int)) ((Cur.mk l a s).pickC (4:Int))).1.kids))) (-1:Int) 0)])) (some (V.agg [V.ref 1 0 1],[some
 (Blk.box [V.sl (Cd.int .u8) (g ((Cur.mk l a s).pickV (4:Int)) ((Cur.mk l a s).pickC (4:Int))).2.l,V.j (g ((Cur.mk l a s).pickV (4:Int)) ((Cur.mk l a
 s).pickC (4:Int))).2.a,V.i .u64 (g ((Cur.mk l a s).pickV (4:Int)) ((Cur.mk l a s).pickC (4:Int))).2.s]),R0 TCd (((5:Int),Ag UInt8,
 (0:Int),false,(-1:Int),(0:Int),())::Ag TCd.den)])))))):_):=by kernel_rfl
theorem ZK  (l:List Int) (a s:Int) (hc:(Cur.mk l a s).good 80000000):Ex1 (Bm prog (Aa [(90,.own Bp),(111,.own (XH JO)),(110,.rd1 SD)]) (Aa []) f65 [.ptr 0 0] [.box [.sl (.int .u8) l,.j a,.i .u64 s]]) (fun y:(List Ty)×Cur=>((.agg [.ref 1 0 y.1.length],[some (cB y.2),R0 TCd y.1]):V×List (Option Blk))) (fun y=>(∀ n,(Cur.mk l a s).good n->n<=80000000->y.2.good (n+6250))/\Ay y.1=true/\nmL y.1=true/\1<=y.1.length/\y.1.length<=30):=by
 refine Ex1.of (US JO  l a s) ?_;have r4:=Cur.pickV_range (k:=4) hc (by omega);have g1:(Cur.pickC (Cur.mk l a s) 4).good 83000000:=Cur.pk (Cur.good_mono hc (by omega));obtain ⟨p1,p2⟩:=XG _ _ _ r4.1 (by omega) g1 (by omega);have p3 : ∀ n,(Cur.mk l a s).good n->n<=80000000->(JO ((Cur.mk l a s).pickV 4) ((Cur.mk l a s).pickC 4)).2.good (n+6250):=fun n hn hm=>Cur.good_mono (XG _ _ _ r4.1 (by omega) (Cur.pickC_good hn) (by omega)).1 (by omega)
 have hnm:=Nm _ (-1) 0 p2.2;have hcn:=p2.1;rw [AE] at hcn;simp only [BS,A7,drop_zero,take_length,AG];refine Ex1.T (dcT (Cur.good_mono hc (by omega))) (Ex1.T (dcT ⟨r4.1,by omega,g1⟩) (Ex1.T (by rw [hnm,dcT (by omega)]; rfl) (Ex1.B (fun h=>?_) (fun h=>?_))))
 ·have hk:1<=(AK (JO ((Cur.mk l a s).pickV 4) ((Cur.mk l a s).pickC 4)).1 (-1) 0).length/\(AK (JO ((Cur.mk l a s).pickV 4) ((Cur.mk l a s).pickC 4)).1 (-1) 0).length<=30:=by
   have h:=h;unfold Ay at h;simp only [anE,dcE] at h;exact h.1.1.1
  exact Ex1.P (_,_) rfl rfl ⟨p3,h,hnm,hk⟩
 ·exact Ex1.P ([(5,[],0,false,-1,0,())],_) rfl rfl ⟨p3,by show Ay [(5,[],0,false,-1,0,())]=true; decide +kernel,by show nmL [(5,[],0,false,-1,0,())]=true; decide +kernel,by simp,by simp⟩

theorem LU : ∃ f:Cur->(List Ty)×Cur,Ac prog 65 (Ent.own (I7 f)).F/\∀  (c:Cur),(c.good 80000000)->(∀ n,c.good n->n<=80000000->(f  c).2.good (n+6250))/\Ay (f  c).1=true/\nmL (f  c).1=true/\1<=(f  c).1.length/\(f  c).1.length<=30:=by
 have ex:=fun  (c:Cur) (hc:c.good 80000000)=>ZK  c.l c.a c.s hc
 classical
 refine ⟨fun  c=>if h:c.good 80000000 then (ex  c h).choose else ([],c),?_,fun  c hc=>?_⟩
 rotate_left
 ·simp only [dif_pos hc];exact (ex  c hc).choose_spec.2
 refine fcC (kc func90 GD (kc func111 ZQ (kc func110 Agj KnowsL.nil))).knows (Λ:=(Aa [])) func65 fun vs bs r hq=>?_
 unfold Ent.F I7 at hq;dsimp only at hq;split at hq
 ·rename_i  l a s;obtain ⟨hc,hx⟩:=Ad hq;have hc:=of_decide_eq_true hc;refine ⟨Ao _,((ex  (Cur.mk l a s) hc).choose_spec.1).trans ?_⟩;rw [dif_pos hc] at hx;exact hx
 ·cases hq
noncomputable def Ct:Cur->(List Ty)×Cur:=LU.choose
theorem LV:Ac prog 65 (Ent.own (I7 Ct)).F:=LU.choose_spec.1
theorem K4 : ∀  (c:Cur),(c.good 80000000)->(∀ n,c.good n->n<=80000000->(Ct  c).2.good (n+6250))/\Ay (Ct  c).1=true/\nmL (Ct  c).1=true/\1<=(Ct  c).1.length/\(Ct  c).1.length<=30:=LU.choose_spec.2
def Mb (f:Cur->(List Ty)×Cur):Gm
 | [.ptr 0 0],[.box [.sl (.int .u8) l,.j a,.i .u64 s]]=>.need (decide ((Cur.mk l a s).good 70000000)) (.leaf (.agg [.ref 1 0 (f  (Cur.mk l a s)).1.length],[some (cB (f  (Cur.mk l a s)).2),R0 TCd (f  (Cur.mk l a s)).1]))
 | _,_=>.no
theorem Ot {w:List Ty} {i:Nat} {z:Ty} (h:nmL w=true) (hz:z.2.1.length<=maxI):nmL (w.set i z)=true:=by
 unfold nmL at h ⊢;rw [all_eq_true] at h ⊢;intro x hx;rcases List.mem_or_eq_of_mem_set hx with hx | rfl
 ·exact h x hx
 ·exact dcT hz
theorem Aa9 {w:List Ty} {i:Nat} {z:Ty} (h:nmL w=true) (hz:w[i]? = some z):z.2.1.length<=maxI:=by
 unfold nmL at h;exact of_decide_eq_true (all_eq_true.1 h z (List.mem_of_getElem? hz))
theorem Xs {l:List (By)} {i n:Nat} (h:l.all (fun x=>decide (x.length<=n))=true):(l.getD i []).length<=n:=by
 rw [List.getD_eq_getElem?_getD]
 cases e:l[i]? with
 | none=>simp
 | some x=>exact of_decide_eq_true (all_eq_true.1 h x (List.mem_of_getElem? e))
theorem UX (f:Cur->List Ty×Cur)  (l:List Int) (a s:Int):Bm prog (Aa [(65,.own (I7 f)),(67,.own CT),(90,.own Bp),(107,.own Hb),(92,.own MH)]) (Aa []) f61 [.ptr 0 0] [.box [.sl (.int .u8) l,.j a,.i .u64 s]] =
 ((ifT (decide ((Cur.mk l a s).good (80000000:Int))) (ifT (decide ((f (Cur.mk l a s)).2.good (900000000:Int))) (ifB ((f (Cur.mk l a s)).2.pickV (12:Int)==(0 :
 Int)) (ifT (decide (((f (Cur.mk l a s)).2.pickC (12:Int)).good (900000000:Int))) (ifT (decide ((((f (Cur.mk l a s)).2.pickC (12:Int)).pickC (↑(f (Cur.mk l a
 s)).1.length:Int)).good (900000000:Int))) (ifB ((((f (Cur.mk l a s)).2.pickC (12:Int)).pickC (↑(f (Cur.mk l a s)).1.length:Int)).pickV (5:Int)==(0 :
 Int)) (ifT (decide (((((f (Cur.mk l a s)).2.pickC (12:Int)).pickC (↑(f (Cur.mk l a s)).1.length:Int)).pickC (5:Int)).good (900000000:Int))) (ifT (decide ((0 :
 Int)<=((f (Cur.mk l a s)).2.pickC (12:Int)).pickV (↑(f (Cur.mk l a s)).1.length:Int))&&decide (((f (Cur.mk l a s)).2.pickC (12:Int)).pickV (↑(f (Cur.mk l a
 s)).1.length:Int)<(↑(f (Cur.mk l a s)).1.length:Int))) (An (f (Cur.mk l a s)).1[0+(((f (Cur.mk l a s)).2.pickC (12:Int)).pickV (↑(f (Cur.mk
 l a s)).1.length:Int)).toNat]? fun z=>some (V.agg [V.ref 1 0 (f (Cur.mk l a s)).1.length],[some (Blk.box [V.sl (Cd.int .u8) (((((f (Cur.mk l a s)).2.pickC (12
 : Int)).pickC (↑(f (Cur.mk l a s)).1.length:Int)).pickC (5:Int)).pickC (7:Int)).l,V.j (((((f (Cur.mk l a s)).2.pickC (12:Int)).pickC (↑(f (Cur.mk l a
 s)).1.length:Int)).pickC (5:Int)).pickC (7:Int)).a,V.i .u64 (((((f (Cur.mk l a s)).2.pickC (12:Int)).pickC (↑(f (Cur.mk l a s)).1.length:Int)).pickC (5 :
 Int)).pickC (7:Int)).s]),R0 TCd ((f (Cur.mk l a s)).1.set (0+(((f (Cur.mk l a s)).2.pickC (12:Int)).pickV (↑(f (Cur.mk l a
 s)).1.length:Int)).toNat) (((((f (Cur.mk l a s)).2.pickC (12:Int)).pickC (↑(f (Cur.mk l a s)).1.length:Int)).pickC (5:Int)).pickV (7:Int),z.2.1,
 z.2.2.1,z.2.2.2.1,z.2.2.2.2.1,z.2.2.2.2.2.1,()))])))) (ifB ((((f (Cur.mk l a s)).2.pickC (12:Int)).pickC (↑(f (Cur.mk l a
 s)).1.length:Int)).pickV (5:Int)==(1:Int)) (ifT (decide (((((f (Cur.mk l a s)).2.pickC (12:Int)).pickC (↑(f (Cur.mk l a s)).1.length:Int)).pickC (5 :
 Int)).good (900000000:Int))) (ifT (decide ((0:Int)<=((f (Cur.mk l a s)).2.pickC (12:Int)).pickV (↑(f (Cur.mk l a s)).1.length:Int))&&decide (((f (Cur.mk l
 a s)).2.pickC (12:Int)).pickV (↑(f (Cur.mk l a s)).1.length:Int)<(↑(f (Cur.mk l a s)).1.length:Int))) (An (f (Cur.mk l a s)).1[0+(((f
 (Cur.mk l a s)).2.pickC (12:Int)).pickV (↑(f (Cur.mk l a s)).1.length:Int)).toNat]? fun z=>some (V.agg [V.ref 1 0 (f (Cur.mk l a s)).1.length],[some (Blk.box
 [V.sl (Cd.int .u8) (((((f (Cur.mk l a s)).2.pickC (12:Int)).pickC (↑(f (Cur.mk l a s)).1.length:Int)).pickC (5:Int)).pickC (4:Int)).l,V.j (((((f (Cur.mk
 l a s)).2.pickC (12:Int)).pickC (↑(f (Cur.mk l a s)).1.length:Int)).pickC (5:Int)).pickC (4:Int)).a,V.i .u64 (((((f (Cur.mk l a s)).2.pickC (12 :
 Int)).pickC (↑(f (Cur.mk l a s)).1.length:Int)).pickC (5:Int)).pickC (4:Int)).s]),R0 TCd ((f (Cur.mk l a s)).1.set (0+(((f
 (Cur.mk l a s)).2.pickC (12:Int)).pickV (↑(f (Cur.mk l a s)).1.length:Int)).toNat) (z.1,z.2.1,((((f (Cur.mk l a s)).2.pickC (12:Int)).pickC (↑(f
 (Cur.mk l a s)).1.length:Int)).pickC (5:Int)).pickV (4:Int),z.2.2.2.1,z.2.2.2.2.1,z.2.2.2.2.2.1,()))])))) (ifB ((((f (Cur.mk l
 a s)).2.pickC (12:Int)).pickC (↑(f (Cur.mk l a s)).1.length:Int)).pickV (5:Int)==(2:Int)) (ifT (decide (((((f (Cur.mk l a s)).2.pickC (12:Int)).pickC
 (↑(f (Cur.mk l a s)).1.length:Int)).pickC (5:Int)).good (900000000:Int))) (ifT (decide ((0:Int)<=((f (Cur.mk l a s)).2.pickC (12:Int)).pickV (↑(f (Cur.mk l
 a s)).1.length:Int))&&decide (((f (Cur.mk l a s)).2.pickC (12:Int)).pickV (↑(f (Cur.mk l a s)).1.length:Int)<(↑(f (Cur.mk l a s)).1.length:Int)))
 (An (f (Cur.mk l a s)).1[0+(((f (Cur.mk l a s)).2.pickC (12:Int)).pickV (↑(f (Cur.mk l a s)).1.length:Int)).toNat]? fun z=>some (V.agg [V.ref 1
 0 (f (Cur.mk l a s)).1.length],[some (Blk.box [V.sl (Cd.int .u8) (((((f (Cur.mk l a s)).2.pickC (12:Int)).pickC (↑(f (Cur.mk l a s)).1.length:Int)).pickC (5 :
 Int)).pickC (4:Int)).l,V.j (((((f (Cur.mk l a s)).2.pickC (12:Int)).pickC (↑(f (Cur.mk l a s)).1.length:Int)).pickC (5:Int)).pickC (4:Int)).a,V.i
 .u64 (((((f (Cur.mk l a s)).2.pickC (12:Int)).pickC (↑(f (Cur.mk l a s)).1.length:Int)).pickC (5:Int)).pickC (4:Int)).s]),R0 TCd ((f
 (Cur.mk l a s)).1.set (0+(((f (Cur.mk l a s)).2.pickC (12:Int)).pickV (↑(f (Cur.mk l a s)).1.length:Int)).toNat) (z.1,z.2.1,z.2.2.1,
 z.2.2.2.1,i64.wrap (((((f (Cur.mk l a s)).2.pickC (12:Int)).pickC (↑(f (Cur.mk l a s)).1.length:Int)).pickC (5:Int)).pickV (4:Int)-(1 :
 Int)),z.2.2.2.2.2.1,()))])))) (ifB ((((f (Cur.mk l a s)).2.pickC (12:Int)).pickC (↑(f (Cur.mk l a s)).1.length:Int)).pickV (5:Int)==(3:Int))
 (ifT (decide (((((f (Cur.mk l a s)).2.pickC (12:Int)).pickC (↑(f (Cur.mk l a s)).1.length:Int)).pickC (5:Int)).good (900000000:Int)/\1<=3/\
 3<=3)) (ifT (decide ((0:Int)<=((f (Cur.mk l a s)).2.pickC (12:Int)).pickV (↑(f (Cur.mk l a s)).1.length:Int))&&decide (((f (Cur.mk l a
 s)).2.pickC (12:Int)).pickV (↑(f (Cur.mk l a s)).1.length:Int)<(↑(f (Cur.mk l a s)).1.length:Int))) (An (f (Cur.mk l a s)).1[0+(((f (Cur.mk
 l a s)).2.pickC (12:Int)).pickV (↑(f (Cur.mk l a s)).1.length:Int)).toNat]? fun z=>some (V.agg [V.ref 1 0 (f (Cur.mk l a s)).1.length],[some (Blk.box [V.sl
 (Cd.int .u8) (((((f (Cur.mk l a s)).2.pickC (12:Int)).pickC (↑(f (Cur.mk l a s)).1.length:Int)).pickC (5:Int)).pickC (↑(3:Nat):Int)).l,V.j (((((f
 (Cur.mk l a s)).2.pickC (12:Int)).pickC (↑(f (Cur.mk l a s)).1.length:Int)).pickC (5:Int)).pickC (↑(3:Nat):Int)).a,V.i .u64 (((((f (Cur.mk l a
 s)).2.pickC (12:Int)).pickC (↑(f (Cur.mk l a s)).1.length:Int)).pickC (5:Int)).pickC (↑(3:Nat):Int)).s]),R0 TCd ((f (Cur.mk l a
 s)).1.set (0+(((f (Cur.mk l a s)).2.pickC (12:Int)).pickV (↑(f (Cur.mk l a s)).1.length:Int)).toNat) (z.1,z.2.1,z.2.2.1,
 z.2.2.2.1,z.2.2.2.2.1,((-1:Int)::(20:Int)::(21:Int)::Ag (Cd.int .i64).den).getD (0+(((((f (Cur.mk l a s)).2.pickC (12 :
 Int)).pickC (↑(f (Cur.mk l a s)).1.length:Int)).pickC (5:Int)).pickV (↑(3:Nat):Int)).toNat) (0:(Cd.int .i64).den),()))])))) (ifT (decide (((((f (Cur.mk l a
 s)).2.pickC (12:Int)).pickC (↑(f (Cur.mk l a s)).1.length:Int)).pickC (5:Int)).good (900000000:Int)/\1<=3/\3<=3)) (ifT
 (decide ((0:Int)<=((f (Cur.mk l a s)).2.pickC (12:Int)).pickV (↑(f (Cur.mk l a s)).1.length:Int))&&decide (((f (Cur.mk l a s)).2.pickC (12:Int)).pickV
 (↑(f (Cur.mk l a s)).1.length:Int)<(↑(f (Cur.mk l a s)).1.length:Int))) (An (f (Cur.mk l a s)).1[0+(((f (Cur.mk l a s)).2.pickC (12 :
 Int)).pickV (↑(f (Cur.mk l a s)).1.length:Int)).toNat]? fun z=>some (V.agg [V.ref 1 0 (f (Cur.mk l a s)).1.length],[some (Blk.box [V.sl (Cd.int .u8) (((((f
 (Cur.mk l a s)).2.pickC (12:Int)).pickC (↑(f (Cur.mk l a s)).1.length:Int)).pickC (5:Int)).pickC (↑(3:Nat):Int)).l,V.j (((((f (Cur.mk l a
 s)).2.pickC (12:Int)).pickC (↑(f (Cur.mk l a s)).1.length:Int)).pickC (5:Int)).pickC (↑(3:Nat):Int)).a,V.i .u64 (((((f (Cur.mk l a s)).2.pickC (12 :
 Int)).pickC (↑(f (Cur.mk l a s)).1.length:Int)).pickC (5:Int)).pickC (↑(3:Nat):Int)).s]),R0 TCd ((f (Cur.mk l a s)).1.set (0 +
 (((f (Cur.mk l a s)).2.pickC (12:Int)).pickV (↑(f (Cur.mk l a s)).1.length:Int)).toNat) (z.1,(Ag UInt8::[(97:UInt8)]::[(65:UInt8)]::Ag
 Cd.str.den).getD (0+(((((f (Cur.mk l a s)).2.pickC (12:Int)).pickC (↑(f (Cur.mk l a s)).1.length:Int)).pickC (5:Int)).pickV (↑(3:Nat):Int)).toNat)
 (Ag UInt8),z.2.2.1,z.2.2.2.1,z.2.2.2.2.1,z.2.2.2.2.2.1,()))])))))))))) (some (V.agg [V.ref 1 0 (f (Cur.mk l a s)).1.length],
 [some (Blk.box [V.sl (Cd.int .u8) ((f (Cur.mk l a s)).2.pickC (12:Int)).l,V.j ((f (Cur.mk l a s)).2.pickC (12:Int)).a,V.i .u64 ((f (Cur.mk l a
 s)).2.pickC (12:Int)).s]),R0 TCd (f (Cur.mk l a s)).1]))))):_):=by kernel_rfl
theorem ZS  (l:List Int) (a s:Int) (hc:(Cur.mk l a s).good 70000000):Ex1 (Bm prog (Aa [(65,.own (I7 Ct)),(67,.own CT),(90,.own Bp),(107,.own Hb),(92,.own MH)]) (Aa []) f61 [.ptr 0 0] [.box [.sl (.int .u8) l,.j a,.i .u64 s]]) (fun y:(List Ty)×Cur=>((.agg [.ref 1 0 y.1.length],[some (cB y.2),R0 TCd y.1]):V×List (Option Blk))) (fun y=>(∀ n,(Cur.mk l a s).good n->n<=70000000->y.2.good (n+6300))/\nmL y.1=true/\1<=y.1.length/\y.1.length<=30):=by
 refine Ex1.of (UX Ct  l a s) ?_;obtain ⟨p1,_,p3,p4,p5⟩:=K4 (Cur.mk l a s) (Cur.good_mono hc (by omega));have g0:=Cur.good_mono hc (show (70000000:Int)<=80000000 by omega);have q1:=p1 70000000 hc (by omega);have p1 : ∀ n,(Cur.mk l a s).good n->n<=70000000->(Ct (Cur.mk l a s)).2.good (n+6250):=fun n hn hm=>p1 n hn (by omega)
 generalize Ct (Cur.mk l a s)=F at *;obtain ⟨w,c⟩:=F;dsimp only at *;have hM:=mxI;have hr:=Cur.pickV_range (c:=c.pickC 12) (n:=70007000) (k:=(w.length:Int)) (Cur.pk (Cur.good_mono q1 (by omega))) (by omega);have hi:((c.pickC 12).pickV (w.length:Int)).toNat<w.length:=by omega
 simp only [BS,A7,zero_add]
 repeat' first
  | with_reducible refine Ex1.B (fun h=>?_) (fun h=>?_)
  | with_reducible refine Ex1.T ?_ ?_
  | with_reducible refine Ex1.S ⟨_,gtE hi⟩ fun z hz=>?_
 all_goals try simp only [BS]
 all_goals first
  | exact dcT g0
  | (refine dcT ?_; (repeat with_reducible apply Cur.pk); exact Cur.good_mono q1 (by omega))
  | (refine dcT ⟨?_,by omega,by omega⟩; (repeat with_reducible apply Cur.pk); exact Cur.good_mono q1 (by omega))
  | (simp only [anE,dcE]; exact ⟨hr.1,hr.2⟩)
  | exact Ex1.c _ rfl rfl ⟨fun n hn hm=>by (repeat with_reducible apply Cur.pk); exact Cur.good_mono (p1 n hn hm) (by omega),p3,p4,p5⟩
  | exact Ex1.c (w.set _ (_,_,_,_,_,_,())) rfl (by simp only [length_set]) ⟨fun n hn hm=>by (repeat with_reducible apply Cur.pk); exact Cur.good_mono (p1 n hn hm) (by omega),Ot p3 (show z.2.1.length<=maxI from Aa9 p3 hz),by rw [length_set]; exact p4,by rw [length_set]; exact p5⟩
  | exact Ex1.c (w.set _ (_,_,_,_,_,_,())) rfl (by simp only [length_set]) ⟨fun n hn hm=>by (repeat with_reducible apply Cur.pk); exact Cur.good_mono (p1 n hn hm) (by omega),Ot p3 (Nat.le_trans (Xs (n:=1) (by decide +kernel)) (by omega)),by rw [length_set]; exact p4,by rw [length_set]; exact p5⟩

theorem Ma : ∃ f:Cur->(List Ty)×Cur,Ac prog 61 (Ent.own (Mb f)).F/\∀  (c:Cur),(c.good 70000000)->(∀ n,c.good n->n<=70000000->(f  c).2.good (n+6300))/\nmL (f  c).1=true/\1<=(f  c).1.length/\(f  c).1.length<=30:=by
 have ex:=fun  (c:Cur) (hc:c.good 70000000)=>ZS  c.l c.a c.s hc
 classical
 refine ⟨fun  c=>if h:c.good 70000000 then (ex  c h).choose else ([],c),?_,fun  c hc=>?_⟩
 rotate_left
 ·simp only [dif_pos hc];exact (ex  c hc).choose_spec.2
 refine fcC (kc func65 LV (kc func67 Sv (kc func90 GD (kc func107 Ym (kc func92 cof KnowsL.nil))))).knows (Λ:=(Aa [])) func61 fun vs bs r hq=>?_
 unfold Ent.F Mb at hq;dsimp only at hq;split at hq
 ·rename_i  l a s;obtain ⟨hc,hx⟩:=Ad hq;have hc:=of_decide_eq_true hc;refine ⟨Ao _,((ex  (Cur.mk l a s) hc).choose_spec.1).trans ?_⟩;rw [dif_pos hc] at hx;exact hx
 ·cases hq
noncomputable def Fa:Cur->(List Ty)×Cur:=Ma.choose
theorem QC:Ac prog 61 (Ent.own (Mb Fa)).F:=Ma.choose_spec.1
theorem OE : ∀  (c:Cur),(c.good 70000000)->(∀ n,c.good n->n<=70000000->(Fa  c).2.good (n+6300))/\nmL (Fa  c).1=true/\1<=(Fa  c).1.length/\(Fa  c).1.length<=30:=Ma.choose_spec.2
def LZ (f:Cur->(Int)×Cur):Gm
 | [.ptr 0 0],[.box [.sl (.int .u8) l,.j a,.i .u64 s]]=>.need (decide ((Cur.mk l a s).good 80000000)) (.leaf (.j (f  (Cur.mk l a s)).1,[some (cB (f  (Cur.mk l a s)).2)]))
 | _,_=>.no
theorem Xt {l:List Int} {i:Nat} {a b:Int} (h:l.all (fun x=>decide (a<=x/\x<=b))=true) (h0:a<=0/\0<=b):a<=l.getD i 0/\l.getD i 0<=b:=by
 rw [List.getD_eq_getElem?_getD]
 cases e:l[i]? with
 | none=>exact h0
 | some x=>exact of_decide_eq_true (all_eq_true.1 h x (List.mem_of_getElem? e))
theorem UU   (l:List Int) (a s:Int):Bm prog (Aa [(90,.own Bp),(107,.own Hb)]) (Aa []) f134 [.ptr 0 0] [.box [.sl (.int .u8) l,.j a,.i .u64 s]] =
 ((ifT (decide ((Cur.mk l a s).good (900000000:Int))) (ifB ((Cur.mk l a s).pickV (6:Int)==(0:Int)) (ifT (decide (((Cur.mk l a s).pickC (6:Int)).good (900000000 :
 Int)/\1<=10/\10<=10)) (some (V.j (((-1000000001:Int)::(-1000000000:Int)::(-1:Int)::(0:Int)::(63:Int)::(64 :
 Int)::(-64:Int)::(-65:Int)::(1000000000:Int)::(1000000001:Int)::Ag (Cd.int .i64).den).getD (0+(((Cur.mk l a s).pickC (6:Int)).pickV (↑(10
 : Nat):Int)).toNat) (0:(Cd.int .i64).den)),[some (Blk.box [V.sl (Cd.int .u8) (((Cur.mk l a s).pickC (6:Int)).pickC (↑(10:Nat):Int)).l,V.j (((Cur.mk l a
 s).pickC (6:Int)).pickC (↑(10:Nat):Int)).a,V.i .u64 (((Cur.mk l a s).pickC (6:Int)).pickC (↑(10:Nat):Int)).s])]))) (ifB ((Cur.mk l a s).pickV (6:Int)==(1
 : Int)) (ifT (decide (((Cur.mk l a s).pickC (6:Int)).good (900000000:Int))) (some (V.j (i64.wrap (((Cur.mk l a s).pickC (6:Int)).pickV (100000:Int) -
 (50000:Int))),[some (Blk.box [V.sl (Cd.int .u8) (((Cur.mk l a s).pickC (6:Int)).pickC (100000:Int)).l,V.j (((Cur.mk l a s).pickC (6:Int)).pickC (100000 :
 Int)).a,V.i .u64 (((Cur.mk l a s).pickC (6:Int)).pickC (100000:Int)).s])]))) (ifT (decide (((Cur.mk l a s).pickC (6:Int)).good (900000000:Int))) (some (V.i .i64
 (i64.wrap (((Cur.mk l a s).pickC (6:Int)).pickV (20:Int)-(5:Int))),[some (Blk.box [V.sl (Cd.int .u8) (((Cur.mk l a s).pickC (6:Int)).pickC (20 :
 Int)).l,V.j (((Cur.mk l a s).pickC (6:Int)).pickC (20:Int)).a,V.i .u64 (((Cur.mk l a s).pickC (6:Int)).pickC (20:Int)).s])])))))):_):=by kernel_rfl
theorem ZO  (l:List Int) (a s:Int) (hc:(Cur.mk l a s).good 80000000):Ex1 (Bm prog (Aa [(90,.own Bp),(107,.own Hb)]) (Aa []) f134 [.ptr 0 0] [.box [.sl (.int .u8) l,.j a,.i .u64 s]]) (fun y:(Int)×Cur=>((.j y.1,[some (cB y.2)]):V×List (Option Blk))) (fun y=>(∀ n,(Cur.mk l a s).good n->n<=80000000->y.2.good (n+8))/\(-2000000000<=y.1/\y.1<=2000000000)):=by
 refine Ex1.of (UU   l a s) ?_;have r1:=fun {c:Cur} {k:Int} (h:c.good 80000100) (hk:1<=k)=>Cur.pickV_range (c:=c) (n:=80000100) (k:=k) h hk
 have ra:=r1 (c:=((Cur.mk l a s).pickC 6)) (k:=100000) (Cur.pk (Cur.good_mono hc (by omega))) (by omega);have rb:=r1 (c:=((Cur.mk l a s).pickC 6)) (k:=20) (Cur.pk (Cur.good_mono hc (by omega))) (by omega);simp only [BS,A7,zero_add];rw [Av (n:=((Cur.mk l a s).pickC 6).pickV 100000-50000) (by omega) (by omega),Av (n:=((Cur.mk l a s).pickC 6).pickV 20-5) (by omega) (by omega)]
 repeat' first
  | with_reducible refine Ex1.B (fun h=>?_) (fun h=>?_)
  | with_reducible refine Ex1.T ?_ ?_
 all_goals first
  | (refine dcT ?_; (repeat with_reducible apply Cur.pk); exact Cur.good_mono hc (by omega))
  | (refine dcT ⟨?_,by omega,by omega⟩; (repeat with_reducible apply Cur.pk); exact Cur.good_mono hc (by omega))
  | refine Ex1.c _ rfl rfl ⟨fun n hn hm=>by (repeat with_reducible apply Cur.pk); exact Cur.good_mono hn (by omega),?_⟩
 all_goals first
  | omega
  | exact Xt (by decide +kernel) (by omega)
theorem LY : ∃ f:Cur->(Int)×Cur,Ac prog 134 (Ent.own (LZ f)).F/\∀  (c:Cur),(c.good 80000000)->(∀ n,c.good n->n<=80000000->(f  c).2.good (n+8))/\(-2000000000<=(f  c).1/\(f  c).1<=2000000000):=by
 have ex:=fun  (c:Cur) (hc:c.good 80000000)=>ZO  c.l c.a c.s hc
 classical
 refine ⟨fun  c=>if h:c.good 80000000 then (ex  c h).choose else (0,c),?_,fun  c hc=>?_⟩
 rotate_left
 ·simp only [dif_pos hc];exact (ex  c hc).choose_spec.2
 refine fcC (kc func90 GD (kc func107 Ym KnowsL.nil)).knows (Λ:=(Aa [])) func134 fun vs bs r hq=>?_
 unfold Ent.F LZ at hq;dsimp only at hq;split at hq
 ·rename_i  l a s;obtain ⟨hc,hx⟩:=Ad hq;have hc:=of_decide_eq_true hc;refine ⟨Ao _,((ex  (Cur.mk l a s) hc).choose_spec.1).trans ?_⟩;rw [dif_pos hc] at hx;exact hx
 ·cases hq
noncomputable def EZ:Cur->(Int)×Cur:=LY.choose
theorem QB:Ac prog 134 (Ent.own (LZ EZ)).F:=LY.choose_spec.1
theorem Tx : ∀  (c:Cur),(c.good 80000000)->(∀ n,c.good n->n<=80000000->(EZ  c).2.good (n+8))/\(-2000000000<=(EZ  c).1/\(EZ  c).1<=2000000000):=LY.choose_spec.2
def I6 (f:Cur->(Int)×Cur):Gm
 | [.ptr 0 0],[.box [.sl (.int .u8) l,.j a,.i .u64 s]]=>.need (decide ((Cur.mk l a s).good 80000000)) (.leaf (.j (f  (Cur.mk l a s)).1,[some (cB (f  (Cur.mk l a s)).2)]))
 | _,_=>.no
mutual
def vbR:Rose Lab->Nat
 | .node _ ks=>3*vbL ks+1
def vbL:RL->Nat
 | []=>0
 | z::l=>vbR z+vbL l
end
def Cur.room (c:Cur) (k:Nat):Prop:=c.good (60000000-(k:Int))
instance (c:Cur) (k:Nat):Decidable (c.room k):=by unfold Cur.room; exact inferInstance
def FZ (n:Nat) (f:Rose Lab->Cur->Rose A4×Cur):Gm
 | [.ptr 0 0,.agg (Lt y0 y1 y2 y3 y4 ys)],[.box [.sl (.int .u8) l,.j a,.i .u64 s]]=>.need (decide (Aj (Rose.node (y0,y1,y2,y3,y4,()) ys)<=n/\Ah (Rose.node (y0,y1,y2,y3,y4,()) ys)=true/\vbR (Rose.node (y0,y1,y2,y3,y4,()) ys)<=1000000/\(Cur.mk l a s).room (8*vbR (Rose.node (y0,y1,y2,y3,y4,()) ys)))) (.leaf (.agg [.j (f (Rose.node (y0,y1,y2,y3,y4,()) ys) (Cur.mk l a s)).1.lab.1,.s (f (Rose.node (y0,y1,y2,y3,y4,()) ys) (Cur.mk l a s)).1.lab.2.1,.j (f (Rose.node (y0,y1,y2,y3,y4,()) ys) (Cur.mk l a s)).1.lab.2.2.1,.b (f (Rose.node (y0,y1,y2,y3,y4,()) ys) (Cur.mk l a s)).1.lab.2.2.2.1,.ref 1 0 (f (Rose.node (y0,y1,y2,y3,y4,()) ys) (Cur.mk l a s)).1.kids.length],[some (cB (f (Rose.node (y0,y1,y2,y3,y4,()) ys) (Cur.mk l a s)).2),R0 (.rose VCd) (f (Rose.node (y0,y1,y2,y3,y4,()) ys) (Cur.mk l a s)).1.kids]))
 | _,_=>.no
def I5 (N:Nat) (o:Rose Lab×Cur×RVL×Nat->RVL×Cur):LoopEnt:=⟨80,[0,3,4,5,6],[4,5],[],fun
 | ([.ptr 0 0,.ptr 1 0,.ptr 2 0,.ptr 3 0,.j n],[some (.box [.sl (.int .u8) l,.j a,.i .u64 s]),some (.box (Lt y0 y1 y2 y3 y4 ys)),some (.box [.j 0,.s [],.j 0,.b false,.ref 4 0 0]),some (.box [.j 0,.s [],.j 0,.b true,.ref 5 0 w]),R0 (.rose VCd) [],R0 (.rose VCd) us])=>.need (decide (Aj (Rose.node (y0,y1,y2,y3,y4,()) ys)<=N+1/\Ah (Rose.node (y0,y1,y2,y3,y4,()) ys)=true/\y0=4/\vbR (Rose.node (y0,y1,y2,y3,y4,()) ys)<=1000000/\0<=n/\n<=3/\w=us.length/\us.length<=3-n.toNat/\(Cur.mk l a s).room (6+8*(n.toNat*vbL ys)))) (.leaf (.exit 1,([.ptr 1 0,.ptr 2 0],[some (cB (o ((Rose.node (y0,y1,y2,y3,y4,()) ys),(Cur.mk l a s),us,n.toNat)).2),some (.box [.j 0,.s [],.j 0,.b false,.ref 3 0 0]),some (.box [.j 0,.s [],.j 0,.b true,.ref 4 0 (o ((Rose.node (y0,y1,y2,y3,y4,()) ys),(Cur.mk l a s),us,n.toNat)).1.length]),R0 (.rose VCd) [],R0 (.rose VCd) (o ((Rose.node (y0,y1,y2,y3,y4,()) ys),(Cur.mk l a s),us,n.toNat)).1])))
 | _=>.no⟩
def I4 (N:Nat) (o:RL×Cur×RVL×Nat->RVL×Cur):LoopEnt:=⟨80,[0,4,5,54,55,56],[4,5],[],fun
 | ([.ptr 0 0,.ptr 1 0,.ptr 2 0,.sl (.rose LCd) ks,.j k,.j i],[some (.box [.sl (.int .u8) l,.j a,.i .u64 s]),some (.box [.j 0,.s [],.j 0,.b false,.ref 3 0 0]),some (.box [.j 0,.s [],.j 0,.b true,.ref 4 0 w]),R0 (.rose VCd) [],R0 (.rose VCd) us])=>.need (decide (Ak ks<=N/\A6 5 ks=true/\3*vbL ks<=1000000/\k=ks.length/\0<=i/\i.toNat<=ks.length/\w=us.length/\us.length<=i.toNat/\(Cur.mk l a s).room (8+24*vbL (ks.drop i.toNat)))) (.leaf (.exit 3,([.ptr 1 0,.ptr 2 0],[some (cB (o (ks,(Cur.mk l a s),us,i.toNat)).2),some (.box [.j 0,.s [],.j 0,.b false,.ref 3 0 0]),some (.box [.j 0,.s [],.j 0,.b true,.ref 4 0 (o (ks,(Cur.mk l a s),us,i.toNat)).1.length]),R0 (.rose VCd) [],R0 (.rose VCd) (o (ks,(Cur.mk l a s),us,i.toNat)).1])))
 | _=>.no⟩
theorem UR (f:Cur->(Int)×Cur)  (l:List Int) (a s:Int):Bm prog (Aa [(134,.own (LZ f)),(135,.rd1 Gu)]) (Aa []) f91 [.ptr 0 0] [.box [.sl (.int .u8) l,.j a,.i .u64 s]] =
 ((ifT (decide ((Cur.mk l a s).good (80000000:Int))) (ifB (!BX (f (Cur.mk l a s)).1) (some (V.j 7,[some (Blk.box [V.sl (Cd.int .u8) (f (Cur.mk l a s)).2.l,V.i
 .i64 (f (Cur.mk l a s)).2.a,V.i .u64 (f (Cur.mk l a s)).2.s])])) (some (V.j (f (Cur.mk l a s)).1,[some (Blk.box [V.sl (Cd.int .u8) (f (Cur.mk l a s)).2.l,
 V.j (f (Cur.mk l a s)).2.a,V.i .u64 (f (Cur.mk l a s)).2.s])])))):_):=by kernel_rfl
theorem ZJ  (l:List Int) (a s:Int) (hc:(Cur.mk l a s).good 80000000):Ex1 (Bm prog (Aa [(134,.own (LZ EZ)),(135,.rd1 Gu)]) (Aa []) f91 [.ptr 0 0] [.box [.sl (.int .u8) l,.j a,.i .u64 s]]) (fun y:(Int)×Cur=>((.j y.1,[some (cB y.2)]):V×List (Option Blk))) (fun y=>(∀ n,(Cur.mk l a s).good n->n<=80000000->y.2.good (n+8))/\BX y.1=true):=by
 refine Ex1.of (UR EZ  l a s) ?_;obtain ⟨p1,p2⟩:=Tx (Cur.mk l a s) hc;simp only [BS];refine Ex1.T (dcT hc) (Ex1.B (fun h=>?_) (fun h=>?_))
 all_goals refine Ex1.c _ rfl rfl ⟨p1,?_⟩
 ·show BX 7=true; decide +kernel
 ·show BX (EZ (Cur.mk l a s)).1=true; cases e:BX (EZ (Cur.mk l a s)).1; rw [e] at h; cases h; rfl
theorem LT : ∃ f:Cur->(Int)×Cur,Ac prog 91 (Ent.own (I6 f)).F/\∀  (c:Cur),(c.good 80000000)->(∀ n,c.good n->n<=80000000->(f  c).2.good (n+8))/\BX (f  c).1=true:=by
 have ex:=fun  (c:Cur) (hc:c.good 80000000)=>ZJ  c.l c.a c.s hc
 classical
 refine ⟨fun  c=>if h:c.good 80000000 then (ex  c h).choose else (0,c),?_,fun  c hc=>?_⟩
 rotate_left
 ·simp only [dif_pos hc];exact (ex  c hc).choose_spec.2
 refine fcC (kc func134 QB (kc func135 Th KnowsL.nil)).knows (Λ:=(Aa [])) func91 fun vs bs r hq=>?_
 unfold Ent.F I6 at hq;dsimp only at hq;split at hq
 ·rename_i  l a s;obtain ⟨hc,hx⟩:=Ad hq;have hc:=of_decide_eq_true hc;refine ⟨Ao _,((ex  (Cur.mk l a s) hc).choose_spec.1).trans ?_⟩;rw [dif_pos hc] at hx;exact hx
 ·cases hq
noncomputable def HO:Cur->(Int)×Cur:=LT.choose
theorem XB:Ac prog 91 (Ent.own (I6 HO)).F:=LT.choose_spec.1
theorem ZI : ∀  (c:Cur),(c.good 80000000)->(∀ n,c.good n->n<=80000000->(HO  c).2.good (n+8))/\BX (HO  c).1=true:=LT.choose_spec.2
theorem GX (N:Nat) (f:Rose Lab->Cur->Rose A4×Cur) (h:Cur->(Int)×Cur) (o1:Rose Lab×Cur×RVL×Nat->RVL×Cur) (o2:RL×Cur×RVL×Nat->RVL×Cur) (y0:Int) (y1:By) (y2:Int) (y3:Bool) (y4:Int) (ys:RL) (n:Int) (l:List Int) (a s:Int) (w:Nat) (us:RVL):Au prog (Aa [(90,.own Bp),(67,.own CT),(92,.own MH),(91,.own (I6 h)),(156,.mix (FZ N f))]) (Aa [(11,I5 N o1),(16,I4 N o2)]) 1 (body f156 0) (I5 N o1) ([.ptr 0 0,.ptr 1 0,.ptr 2 0,.ptr 3 0,.j n],[some (.box [.sl (.int .u8) l,.j a,.i .u64 s]),some (.box (Lt y0 y1 y2 y3 y4 ys)),some (.box [.j 0,.s [],.j 0,.b false,.ref 4 0 0]),some (.box [.j 0,.s [],.j 0,.b true,.ref 5 0 w]),R0 (.rose VCd) [],R0 (.rose VCd) us]) =
 ((ifB (decide (n>0)) (ifT (decide ((0:Int)<=(0:Int))&&decide (0<(↑ys.length:Int))) (An ys[0]? fun z=>ifT (decide (Aj (Rose.node ((Rose.lab
 z).1,(Rose.lab z).2.1,(Rose.lab z).2.2.1,(Rose.lab z).2.2.2.1,(Rose.lab z).2.2.2.2.1,()) (Rose.kids z))<=N/\Ah (Rose.node
 ((Rose.lab z).1,(Rose.lab z).2.1,(Rose.lab z).2.2.1,(Rose.lab z).2.2.2.1,(Rose.lab z).2.2.2.2.1,()) (Rose.kids z))=true/\vbR
 (Rose.node ((Rose.lab z).1,(Rose.lab z).2.1,(Rose.lab z).2.2.1,(Rose.lab z).2.2.2.1,(Rose.lab z).2.2.2.2.1,()) (Rose.kids z))<=
 1000000/\(Cur.mk l a s).room (8*vbR (Rose.node ((Rose.lab z).1,(Rose.lab z).2.1,(Rose.lab z).2.2.1,(Rose.lab z).2.2.2.1,
 (Rose.lab z).2.2.2.2.1,()) (Rose.kids z))))) (ifT (decide ((w+1)*64<=140737488355328)&&decide (w+1<=maxI)) (some
 (Ex.normal,[V.ptr 0 0,V.ptr 1 0,V.ptr 2 0,V.ptr 3 0,V.j (i64.wrap (n-1))],[some (Blk.box [V.sl (Cd.int .u8) (f (Rose.node ((Rose.lab z).1,
 (Rose.lab z).2.1,(Rose.lab z).2.2.1,(Rose.lab z).2.2.2.1,(Rose.lab z).2.2.2.2.1,()) (Rose.kids z)) (Cur.mk l a s)).2.l,V.j (f
 (Rose.node ((Rose.lab z).1,(Rose.lab z).2.1,(Rose.lab z).2.2.1,(Rose.lab z).2.2.2.1,(Rose.lab z).2.2.2.2.1,()) (Rose.kids z)) (Cur.mk l
 a s)).2.a,V.i .u64 (f (Rose.node ((Rose.lab z).1,(Rose.lab z).2.1,(Rose.lab z).2.2.1,(Rose.lab z).2.2.2.1,(Rose.lab z).2.2.2.2.1,())
 (Rose.kids z)) (Cur.mk l a s)).2.s]),some (Blk.box (Lt y0 y1 y2 y3 y4 ys)),some (Blk.box [V.j 0,V.s (Ag
 UInt8),V.j 0,V.b false,V.ref 4 0 0]),some (Blk.box [V.j 0,V.s (Ag UInt8),V.j 0,V.b true,V.ref 5 0 (w+1)]),R0 VCd.rose (Ag VCd.rose.den),R0 VCd.rose (take w (drop 0 us)++Rose.node ((f (Rose.node ((Rose.lab z).1,(Rose.lab
 z).2.1,(Rose.lab z).2.2.1,(Rose.lab z).2.2.2.1,(Rose.lab z).2.2.2.2.1,()) (Rose.kids z)) (Cur.mk l a s)).1.lab.1,(f (Rose.node
 ((Rose.lab z).1,(Rose.lab z).2.1,(Rose.lab z).2.2.1,(Rose.lab z).2.2.2.1,(Rose.lab z).2.2.2.2.1,()) (Rose.kids z)) (Cur.mk l a
 s)).1.lab.2.1,(f (Rose.node ((Rose.lab z).1,(Rose.lab z).2.1,(Rose.lab z).2.2.1,(Rose.lab z).2.2.2.1,(Rose.lab z).2.2.2.2.1,())
 (Rose.kids z)) (Cur.mk l a s)).1.lab.2.2.1,(f (Rose.node ((Rose.lab z).1,(Rose.lab z).2.1,(Rose.lab z).2.2.1,(Rose.lab z).2.2.2.1,
 (Rose.lab z).2.2.2.2.1,()) (Rose.kids z)) (Cur.mk l a s)).1.lab.2.2.2.1,()) (take (f (Rose.node ((Rose.lab z).1,(Rose.lab z).2.1,
 (Rose.lab z).2.2.1,(Rose.lab z).2.2.2.1,(Rose.lab z).2.2.2.2.1,()) (Rose.kids z)) (Cur.mk l a s)).1.kids.length (drop 0 (f
 (Rose.node ((Rose.lab z).1,(Rose.lab z).2.1,(Rose.lab z).2.2.1,(Rose.lab z).2.2.2.1,(Rose.lab z).2.2.2.2.1,()) (Rose.kids z)) (Cur.mk l
 a s)).1.kids))::Ag VCd.rose.den)]))))) (some (Ex.exit 1,[V.ptr 1 0,V.ptr 2 0],[some (Blk.box [V.sl (Cd.int .u8) l,V.j a,V.i .u64 s]),some (Blk.box [V.i
 .i64 0,V.s (Ag UInt8),V.j 0,V.b false,V.ref 3 0 0]),some (Blk.box [V.j 0,V.s (Ag UInt8),V.j 0,V.b true,V.ref 4 0 w]),R0 VCd.rose (Ag VCd.rose.den),R0 VCd.rose us]))):_):=by kernel_rfl
theorem GW (N:Nat) (f:Rose Lab->Cur->Rose A4×Cur) (h:Cur->(Int)×Cur) (o1:Rose Lab×Cur×RVL×Nat->RVL×Cur) (o2:RL×Cur×RVL×Nat->RVL×Cur) (ks:RL) (k i:Int) (l:List Int) (a s:Int) (w:Nat) (us:RVL):Au prog (Aa [(90,.own Bp),(67,.own CT),(92,.own MH),(91,.own (I6 h)),(156,.mix (FZ N f))]) (Aa [(11,I5 N o1),(16,I4 N o2)]) 1 (body f156 1) (I4 N o2) ([.ptr 0 0,.ptr 1 0,.ptr 2 0,.sl (.rose LCd) ks,.j k,.j i],[some (.box [.sl (.int .u8) l,.j a,.i .u64 s]),some (.box [.j 0,.s [],.j 0,.b false,.ref 3 0 0]),some (.box [.j 0,.s [],.j 0,.b true,.ref 4 0 w]),R0 (.rose VCd) [],R0 (.rose VCd) us]) =
 ((ifB (decide (i<k)) (ifT (decide (0<=i)&&decide (i<(↑ks.length:Int))) (An ks[i.toNat]? fun z=>ifB (Rose.lab z).2.2.2.1 (ifT (decide (Aj (Rose.node
 ((Rose.lab z).1,(Rose.lab z).2.1,(Rose.lab z).2.2.1,(Rose.lab z).2.2.2.1,(Rose.lab z).2.2.2.2.1,()) (Rose.kids z))<=N/\Ah
 (Rose.node ((Rose.lab z).1,(Rose.lab z).2.1,(Rose.lab z).2.2.1,(Rose.lab z).2.2.2.1,(Rose.lab z).2.2.2.2.1,()) (Rose.kids z))=true/\
 vbR (Rose.node ((Rose.lab z).1,(Rose.lab z).2.1,(Rose.lab z).2.2.1,(Rose.lab z).2.2.2.1,(Rose.lab z).2.2.2.2.1,()) (Rose.kids z))<=
 1000000/\(Cur.mk l a s).room (8*vbR (Rose.node ((Rose.lab z).1,(Rose.lab z).2.1,(Rose.lab z).2.2.1,(Rose.lab z).2.2.2.1,
 (Rose.lab z).2.2.2.2.1,()) (Rose.kids z))))) (ifT (decide ((w+1)*64<=140737488355328)&&decide (w+1<=maxI)) (some
 (Ex.normal,[V.ptr 0 0,V.ptr 1 0,V.ptr 2 0,V.sl LCd.rose ks,V.j k,V.j (i64.wrap (i+1))],[some (Blk.box [V.sl (Cd.int .u8) (f (Rose.node
 ((Rose.lab z).1,(Rose.lab z).2.1,(Rose.lab z).2.2.1,(Rose.lab z).2.2.2.1,(Rose.lab z).2.2.2.2.1,()) (Rose.kids z)) (Cur.mk l a
 s)).2.l,V.j (f (Rose.node ((Rose.lab z).1,(Rose.lab z).2.1,(Rose.lab z).2.2.1,(Rose.lab z).2.2.2.1,(Rose.lab z).2.2.2.2.1,())
 (Rose.kids z)) (Cur.mk l a s)).2.a,V.i .u64 (f (Rose.node ((Rose.lab z).1,(Rose.lab z).2.1,(Rose.lab z).2.2.1,(Rose.lab z).2.2.2.1,(Rose.lab
 z).2.2.2.2.1,()) (Rose.kids z)) (Cur.mk l a s)).2.s]),some (Blk.box [V.j 0,V.s (Ag UInt8),V.j 0,V.b false,V.ref 3 0 0]),some (Blk.box [V.i
 .i64 0,V.s (Ag UInt8),V.j 0,V.b true,V.ref 4 0 (w+1)]),R0 VCd.rose (Ag VCd.rose.den),R0 VCd.rose
 (take w (drop 0 us)++Rose.node ((f (Rose.node ((Rose.lab z).1,(Rose.lab z).2.1,(Rose.lab z).2.2.1,(Rose.lab z).2.2.2.1,
 (Rose.lab z).2.2.2.2.1,()) (Rose.kids z)) (Cur.mk l a s)).1.lab.1,(f (Rose.node ((Rose.lab z).1,(Rose.lab z).2.1,(Rose.lab z).2.2.1,
 (Rose.lab z).2.2.2.1,(Rose.lab z).2.2.2.2.1,()) (Rose.kids z)) (Cur.mk l a s)).1.lab.2.1,(Rose.lab z).2.2.1,(f (Rose.node ((Rose.lab
 z).1,(Rose.lab z).2.1,(Rose.lab z).2.2.1,(Rose.lab z).2.2.2.1,(Rose.lab z).2.2.2.2.1,()) (Rose.kids z)) (Cur.mk l a
 s)).1.lab.2.2.2.1,()) (take (f (Rose.node ((Rose.lab z).1,(Rose.lab z).2.1,(Rose.lab z).2.2.1,(Rose.lab z).2.2.2.1,(Rose.lab
 z).2.2.2.2.1,()) (Rose.kids z)) (Cur.mk l a s)).1.kids.length (drop 0 (f (Rose.node ((Rose.lab z).1,(Rose.lab z).2.1,(Rose.lab
 z).2.2.1,(Rose.lab z).2.2.2.1,(Rose.lab z).2.2.2.2.1,()) (Rose.kids z)) (Cur.mk l a s)).1.kids))::Ag VCd.rose.den)])))) (ifT (decide
 ((Cur.mk l a s).good (900000000:Int))) (ifB ((Cur.mk l a s).pickV (2:Int)==(0:Int)) (ifT (decide (Aj (Rose.node ((Rose.lab z).1,(Rose.lab z).2.1,
 (Rose.lab z).2.2.1,(Rose.lab z).2.2.2.1,(Rose.lab z).2.2.2.2.1,()) (Rose.kids z))<=N/\Ah (Rose.node ((Rose.lab z).1,(Rose.lab
 z).2.1,(Rose.lab z).2.2.1,(Rose.lab z).2.2.2.1,(Rose.lab z).2.2.2.2.1,()) (Rose.kids z))=true/\vbR (Rose.node ((Rose.lab z).1,
 (Rose.lab z).2.1,(Rose.lab z).2.2.1,(Rose.lab z).2.2.2.1,(Rose.lab z).2.2.2.2.1,()) (Rose.kids z))<=1000000/\((Cur.mk l a
 s).pickC (2:Int)).room (8*vbR (Rose.node ((Rose.lab z).1,(Rose.lab z).2.1,(Rose.lab z).2.2.1,(Rose.lab z).2.2.2.1,(Rose.lab
 z).2.2.2.2.1,()) (Rose.kids z))))) (ifT (decide ((w+1)*64<=140737488355328)&&decide (w+1<=maxI)) (some (Ex.normal,
 [V.ptr 0 0,V.ptr 1 0,V.ptr 2 0,V.sl LCd.rose ks,V.j k,V.j (i64.wrap (i+1))],[some (Blk.box [V.sl (Cd.int .u8) (f (Rose.node ((Rose.lab z).1,
 (Rose.lab z).2.1,(Rose.lab z).2.2.1,(Rose.lab z).2.2.2.1,(Rose.lab z).2.2.2.2.1,()) (Rose.kids z)) ((Cur.mk l a s).pickC (2 :
 Int))).2.l,V.j (f (Rose.node ((Rose.lab z).1,(Rose.lab z).2.1,(Rose.lab z).2.2.1,(Rose.lab z).2.2.2.1,(Rose.lab z).2.2.2.2.1,
 ()) (Rose.kids z)) ((Cur.mk l a s).pickC (2:Int))).2.a,V.i .u64 (f (Rose.node ((Rose.lab z).1,(Rose.lab z).2.1,(Rose.lab z).2.2.1,(Rose.lab
 z).2.2.2.1,(Rose.lab z).2.2.2.2.1,()) (Rose.kids z)) ((Cur.mk l a s).pickC (2:Int))).2.s]),some (Blk.box [V.j 0,V.s (Ag UInt8),V.i .i64
 0,V.b false,V.ref 3 0 0]),some (Blk.box [V.j 0,V.s (Ag UInt8),V.j 0,V.b true,V.ref 4 0 (w+1)]),R0 VCd.rose (Ag
 VCd.rose.den),R0 VCd.rose (take w (drop 0 us)++Rose.node ((f (Rose.node ((Rose.lab z).1,(Rose.lab z).2.1,(Rose.lab
 z).2.2.1,(Rose.lab z).2.2.2.1,(Rose.lab z).2.2.2.2.1,()) (Rose.kids z)) ((Cur.mk l a s).pickC (2:Int))).1.lab.1,(f (Rose.node ((Rose.lab
 z).1,(Rose.lab z).2.1,(Rose.lab z).2.2.1,(Rose.lab z).2.2.2.1,(Rose.lab z).2.2.2.2.1,()) (Rose.kids z)) ((Cur.mk l a s).pickC (2 :
 Int))).1.lab.2.1,(Rose.lab z).2.2.1,(f (Rose.node ((Rose.lab z).1,(Rose.lab z).2.1,(Rose.lab z).2.2.1,(Rose.lab z).2.2.2.1,(Rose.lab
 z).2.2.2.2.1,()) (Rose.kids z)) ((Cur.mk l a s).pickC (2:Int))).1.lab.2.2.2.1,()) (take (f (Rose.node ((Rose.lab z).1,(Rose.lab
 z).2.1,(Rose.lab z).2.2.1,(Rose.lab z).2.2.2.1,(Rose.lab z).2.2.2.2.1,()) (Rose.kids z)) ((Cur.mk l a s).pickC (2:Int))).1.kids.length
 (drop 0 (f (Rose.node ((Rose.lab z).1,(Rose.lab z).2.1,(Rose.lab z).2.2.1,(Rose.lab z).2.2.2.1,(Rose.lab z).2.2.2.2.1,())
 (Rose.kids z)) ((Cur.mk l a s).pickC (2:Int))).1.kids))::Ag VCd.rose.den)])))) (some (Ex.normal,[V.ptr 0 0,V.ptr 1 0,V.ptr 2 0,V.sl LCd.rose ks,V.j k,
 V.j (i64.wrap (i+1))],[some (Blk.box [V.sl (Cd.int .u8) ((Cur.mk l a s).pickC (2:Int)).l,V.j ((Cur.mk l a s).pickC (2:Int)).a,V.i .u64 ((Cur.mk
 l a s).pickC (2:Int)).s]),some (Blk.box [V.j 0,V.s (Ag UInt8),V.j 0,V.b false,V.ref 3 0 0]),some (Blk.box [V.j 0,V.s (Ag UInt8),V.j 0,
 V.b true,V.ref 4 0 w]),R0 VCd.rose (Ag VCd.rose.den),R0 VCd.rose us])))))) (some (Ex.exit 3,[V.ptr 1 0,V.ptr 2 0],
 [some (Blk.box [V.sl (Cd.int .u8) l,V.j a,V.i .u64 s]),some (Blk.box [V.j 0,V.s (Ag UInt8),V.j 0,V.b false,V.ref 3 0 0]),some (Blk.box [V.i .i64
 0,V.s (Ag UInt8),V.j 0,V.b true,V.ref 4 0 w]),R0 VCd.rose (Ag VCd.rose.den),R0 VCd.rose us]))):_):=by kernel_rfl
theorem UP (N:Nat) (f:Rose Lab->Cur->Rose A4×Cur) (h:Cur->(Int)×Cur) (o1:Rose Lab×Cur×RVL×Nat->RVL×Cur) (o2:RL×Cur×RVL×Nat->RVL×Cur) (y0:Int) (y1:By) (y2:Int) (y3:Bool) (y4:Int) (ys:RL) (l:List Int) (a s:Int):Bm prog (Aa [(90,.own Bp),(67,.own CT),(92,.own MH),(91,.own (I6 h)),(156,.mix (FZ N f))]) (Aa [(11,I5 N o1),(16,I4 N o2)]) f156 [.ptr 0 0,.agg (Lt y0 y1 y2 y3 y4 ys)] [.box [.sl (.int .u8) l,.j a,.i .u64 s]] =
 ((ifB (y0==1) (ifT (decide ((Cur.mk l a s).good (80000000:Int))) (some (V.agg [V.j (h (Cur.mk l a s)).1,V.s (Ag UInt8),V.j 0,V.b false,V.ref 1 0 0],
 [some (Blk.box [V.sl (Cd.int .u8) (h (Cur.mk l a s)).2.l,V.j (h (Cur.mk l a s)).2.a,V.i .u64 (h (Cur.mk l a s)).2.s]),R0 VCd.rose
 (Ag VCd.rose.den)]))) (ifB (y0==3) (ifT (decide ((Cur.mk l a s).good (900000000:Int))) (some (V.agg [V.j ((Cur.mk l a s).pickV (i64.wrap (y4+1))),
 V.s (Ag UInt8),V.j 0,V.b false,V.ref 1 0 0],[some (Blk.box [V.sl (Cd.int .u8) ((Cur.mk l a s).pickC (i64.wrap (y4+1))).l,V.j ((Cur.mk l a
 s).pickC (i64.wrap (y4+1))).a,V.i .u64 ((Cur.mk l a s).pickC (i64.wrap (y4+1))).s]),R0 VCd.rose (Ag VCd.rose.den)]))) (ifB
 (y0==2) (ifT (decide ((Cur.mk l a s).good (900000000:Int)/\1<=4/\4<=4)) (some (V.agg [V.j 0,V.s ((Ag UInt8::[(120 :
 UInt8)]::[(115:UInt8),(111:UInt8),(109:UInt8),(101:UInt8),(32:UInt8),(116:UInt8),(101:UInt8),(120:UInt8),(116:UInt8)]::[(0:UInt8)]::Ag
 Cd.str.den).getD (0+((Cur.mk l a s).pickV (↑(4:Nat):Int)).toNat) (Ag UInt8)),V.j 0,V.b false,V.ref 1 0 0],[some (Blk.box [V.sl (Cd.int .u8)
 ((Cur.mk l a s).pickC (↑(4:Nat):Int)).l,V.j ((Cur.mk l a s).pickC (↑(4:Nat):Int)).a,V.i .u64 ((Cur.mk l a s).pickC (↑(4:Nat):Int)).s]),R0 VCd.rose (Ag VCd.rose.den)]))) (ifB (y0==4) (ifT (decide ((Cur.mk l a s).good (900000000:Int))) (ifT (decide (Aj (Rose.node (y0,y1,y2,y3,y4,())
 ys)<=N+1/\Ah (Rose.node (y0,y1,y2,y3,y4,()) ys)=true/\y0=4/\vbR (Rose.node (y0,y1,y2,y3,y4,()) ys)<=1000000/\(0:Int)<=(Cur.mk
 l a s).pickV (4:Int)/\(Cur.mk l a s).pickV (4:Int)<=(3:Int)/\0=0/\0<=3-((Cur.mk l a s).pickV (4:Int)).toNat/\((Cur.mk l
 a s).pickC (4:Int)).room (6+8*(((Cur.mk l a s).pickV (4:Int)).toNat*vbL ys)))) (some (V.agg [V.j 0,V.s (Ag UInt8),V.j 0,V.b true,
 V.ref 1 0 (o1 (Rose.node (y0,y1,y2,y3,y4,()) ys,(Cur.mk l a s).pickC (4:Int),Ag VCd.rose.den,((Cur.mk l a s).pickV (4:Int)).toNat)).1.length],[some
 (Blk.box [V.sl (Cd.int .u8) (o1 (Rose.node (y0,y1,y2,y3,y4,()) ys,(Cur.mk l a s).pickC (4:Int),Ag VCd.rose.den,((Cur.mk l a s).pickV (4:Int)).toNat)).2.l,
 V.j (o1 (Rose.node (y0,y1,y2,y3,y4,()) ys,(Cur.mk l a s).pickC (4:Int),Ag VCd.rose.den,((Cur.mk l a s).pickV (4:Int)).toNat)).2.a,V.i .u64 (o1
 (Rose.node (y0,y1,y2,y3,y4,()) ys,(Cur.mk l a s).pickC (4:Int),Ag VCd.rose.den,((Cur.mk l a s).pickV (4:Int)).toNat)).2.s]),R0 VCd.rose (o1 (Rose.node (y0,y1,y2,y3,y4,()) ys,(Cur.mk l a s).pickC (4:Int),Ag VCd.rose.den,((Cur.mk l a s).pickV (4:Int)).toNat)).1])))) (ifT (decide
 (Ak ys<=N/\A6 (5:Int) ys=true/\3*vbL ys<=1000000/\(↑ys.length:Int)=(↑ys.length:Int)/\(0:Int)<=(0:Int)/\0<=ys.length
 /\ 0=0/\0<=0/\(Cur.mk l a s).room (8+24*vbL (drop 0 ys)))) (some (V.agg [V.j 0,V.s (Ag
 UInt8),V.j 0,V.b true,V.ref 1 0 (o2 (ys,Cur.mk l a s,Ag VCd.rose.den,0)).1.length],[some (Blk.box [V.sl (Cd.int .u8) (o2 (ys,Cur.mk l a s,Ag
 VCd.rose.den,0)).2.l,V.j (o2 (ys,Cur.mk l a s,Ag VCd.rose.den,0)).2.a,V.i .u64 (o2 (ys,Cur.mk l a s,Ag VCd.rose.den,(0 :
 Nat))).2.s]),R0 VCd.rose (o2 (ys,Cur.mk l a s,Ag VCd.rose.den,0)).1]))))))):_):=by kernel_rfl
theorem Kh : ∀ (us:RVL) (v:Rose A4),vcL (us++[v])=vcL us+vcR v
 | [],v=>by rw [List.nil_append,vcL,vcL,vcL]; omega
 | y::us,v=>by rw [List.cons_append,vcL,Kh us v,vcL]; omega
theorem Ri (z:Rose Lab):1<=vbR z:=by cases z; rw [vbR]; omega
theorem V3 {z:Rose Lab} : ∀ {l:RL},z∈l->vbR z<=vbL l
 | [],h=>by cases h
 | y::l,h=>by
  rw [vbL];rcases List.mem_cons.1 h with rfl | h
  ·omega
  ·have:=V3 h; omega
theorem V4 : ∀ (l:RL),l.length<=vbL l
 | []=>Nat.le_refl _
 | z::l=>by have:=V4 l; have:=Ri z; rw [vbL,List.length_cons]; omega
theorem Ub {x:Lab} {ks:RL} (h:Ah (.node x ks)=true) (h4:x.1=4) : ∃ k,ks=[k]/\Ah k=true:=by
 rw [Ah,anE] at h;obtain ⟨h1,h2⟩:=h;unfold B5 at h1;rw [if_neg (by omega),if_neg (by omega),if_pos h4,anE] at h1
 match ks,h1.2,h2 with
 | [k],_,h2=>rw [A6,anE,anE] at h2; exact ⟨k,rfl,h2.1.2⟩
theorem Ng {k:Int} {z:Rose Lab} : ∀ {l:RL},A6 k l=true->z∈l->Ah z=true
 | [],_,h=>by cases h
 | y::l,hr,h=>by
  rw [A6,anE,anE] at hr;rcases List.mem_cons.1 h with rfl | h
  ·exact hr.1.2
  ·exact Ng hr.2 h
theorem Y6 : ∀ (z:Rose Lab),Ah z=true->vbR z<=Aj z*3 ^ BG z:=by
 have key : ∀ (n:Nat) (z:Rose Lab),Aj z<=n->Ah z=true->vbR z<=Aj z*3 ^ BG z:=by
  intro n
  induction n with
  | zero=>intro z h; have:=BN z; omega
  | succ n ih=>
   intro z hz hr;obtain ⟨x,ks⟩:=z;have hr0:=hr;rw [Ah,anE] at hr;rw [Aj] at hz
   have hall : ∀ (l:RL) (d:Nat),Ak l<=n->A6 x.1 l=true->BQ l<=d->vbL l<=Ak l*3 ^ d:=by
    intro l
    induction l with
    | nil=>intro d _ _ _; rw [vbL]; omega
    | cons y l ihl=>
     intro d h1 h2 h3;rw [Ak] at h1;rw [A6,anE,anE] at h2;rw [BQ] at h3;have a1:=ih y (by omega) h2.1.2;have a2:=ihl d (by omega) h2.2 (by omega);have a3:Aj y*3 ^ BG y<=Aj y*3 ^ d:=Nat.mul_le_mul_left _ (Nat.pow_le_pow_right (by omega) (by omega));rw [vbL,Ak,Nat.add_mul]; omega
   have hk:=hall ks (BQ ks) (by omega) hr.2 (Nat.le_refl _);rw [vbR,Aj,BG]
   cases hh:Ar x.1 with
   | true=>
    rw [cond_true,Nat.pow_succ];have:1<=3 ^ BQ ks:=Nat.pos_of_ne_zero (by simp);have e:(Ak ks+1)*(3 ^ BQ ks*3)=3*(Ak ks*3 ^ BQ ks)+3*3 ^ BQ ks:=by rw [Nat.add_mul,<-Nat.mul_assoc,mul_comm _ 3,Nat.one_mul,mul_comm _ 3]
    rw [e]; omega
   | false=>
    have hl:ks=[]:=by
     have h1:=hr.1;unfold B5 at h1;unfold Ar at hh;simp only [Bool.or_eq_false_iff,beq_eq_false_iff_ne] at hh;split at h1
     ·simp only [anE,beq_iff_eq] at h1; exact List.length_eq_zero_iff.1 h1.2
     split at h1
     ·simp only [anE,beq_iff_eq] at h1; exact List.length_eq_zero_iff.1 h1.2
     rw [if_neg hh.1,if_pos (.inl hh.2)] at h1;cases h1
    subst hl;rw [vbL,Ak,BQ]; simp
 exact fun z=>key (Aj z) z (Nat.le_refl _)
theorem X6 (N:Nat) (f:Rose Lab->Cur->Rose A4×Cur) (h:Cur->(Int)×Cur) (pf : ∀ (z:Rose Lab) (c:Cur) (m:Int),Aj z<=N->Ah z=true->vbR z<=1000000->c.good m->m<=60000000-8*(vbR z:Int)->(f z c).2.good (m+8*(vbR z:Int))/\vcR (f z c).1<=vbR z) :
  ∀ x:Rose Lab×Cur×RVL×Nat,(Aj x.1<=N+1/\Ah x.1=true/\x.1.lab.1=4/\vbR x.1<=1000000/\x.2.2.2<=3/\x.2.2.1.length<=3-x.2.2.2/\x.2.1.room (6+8*(x.2.2.2*vbL x.1.kids)))->
   ∃ y:RVL×Cur,(∀ o:((Rose Lab×Cur×RVL×Nat->RVL×Cur)×(RL×Cur×RVL×Nat->RVL×Cur)),Runs prog (Aa [(90,.own Bp),(67,.own CT),(92,.own MH),(91,.own (I6 h)),(156,.mix (FZ N f))]) (Aa [(11,I5 N o.1),(16,I4 N o.2)]) 1 (body f156 0) (I5 N o.1) ((fun x:Rose Lab×Cur×RVL×Nat=>([.ptr 0 0,.ptr 1 0,.ptr 2 0,.ptr 3 0,.j (x.2.2.2:Int)],[some (cB x.2.1),some (.box (Lt x.1.lab.1 x.1.lab.2.1 x.1.lab.2.2.1 x.1.lab.2.2.2.1 x.1.lab.2.2.2.2.1 x.1.kids)),some (.box [.j 0,.s [],.j 0,.b false,.ref 4 0 0]),some (.box [.j 0,.s [],.j 0,.b true,.ref 5 0 x.2.2.1.length]),R0 (.rose VCd) [],R0 (.rose VCd) x.2.2.1])) x) ((fun y:RVL×Cur=>(((.exit 1:Ex),([.ptr 1 0,.ptr 2 0],[some (cB y.2),some (.box [.j 0,.s [],.j 0,.b false,.ref 3 0 0]),some (.box [.j 0,.s [],.j 0,.b true,.ref 4 0 y.1.length]),R0 (.rose VCd) [],R0 (.rose VCd) y.1])):Ex×Dt)) y).1 ((fun y:RVL×Cur=>(((.exit 1:Ex),([.ptr 1 0,.ptr 2 0],[some (cB y.2),some (.box [.j 0,.s [],.j 0,.b false,.ref 3 0 0]),some (.box [.j 0,.s [],.j 0,.b true,.ref 4 0 y.1.length]),R0 (.rose VCd) [],R0 (.rose VCd) y.1])):Ex×Dt)) y).2)/\
    ((∀ m,x.2.1.good m->m<=60000000-6-8*((x.2.2.2*vbL x.1.kids:Nat):Int)->y.2.good (m+8*((x.2.2.2*vbL x.1.kids:Nat):Int)))/\vcL y.1<=vcL x.2.2.1+x.2.2.2*vbL x.1.kids):=by
 refine Gy (ι:=((Rose Lab×Cur×RVL×Nat->RVL×Cur)×(RL×Cur×RVL×Nat->RVL×Cur))) (⟨fun _=>([],Cur.mk [] 0 0),fun _=>([],Cur.mk [] 0 0)⟩) (Λ:=fun o=>(Aa [(11,I5 N o.1),(16,I4 N o.2)])) (ent:=fun o=>I5 N o.1) (fun x:Rose Lab×Cur×RVL×Nat=>([.ptr 0 0,.ptr 1 0,.ptr 2 0,.ptr 3 0,.j (x.2.2.2:Int)],[some (cB x.2.1),some (.box (Lt x.1.lab.1 x.1.lab.2.1 x.1.lab.2.2.1 x.1.lab.2.2.2.1 x.1.lab.2.2.2.2.1 x.1.kids)),some (.box [.j 0,.s [],.j 0,.b false,.ref 4 0 0]),some (.box [.j 0,.s [],.j 0,.b true,.ref 5 0 x.2.2.1.length]),R0 (.rose VCd) [],R0 (.rose VCd) x.2.2.1])) (fun y:RVL×Cur=>(((.exit 1:Ex),([.ptr 1 0,.ptr 2 0],[some (cB y.2),some (.box [.j 0,.s [],.j 0,.b false,.ref 3 0 0]),some (.box [.j 0,.s [],.j 0,.b true,.ref 4 0 y.1.length]),R0 (.rose VCd) [],R0 (.rose VCd) y.1])):Ex×Dt)) (fun y=>by simp) _ _ (fun x=>x.2.2.2) (fun o x _=>(GX N f h o.1 o.2 x.1.lab.1 x.1.lab.2.1 x.1.lab.2.2.1 x.1.lab.2.2.2.1 x.1.lab.2.2.2.2.1 x.1.kids (x.2.2.2:Int) x.2.1.l x.2.1.a x.2.1.s x.2.2.1.length x.2.2.1).trans (GX N f h _ _ x.1.lab.1 x.1.lab.2.1 x.1.lab.2.2.1 x.1.lab.2.2.2.1 x.1.lab.2.2.2.2.1 x.1.kids (x.2.2.2:Int) x.2.1.l x.2.1.a x.2.1.s x.2.2.1.length x.2.2.1).symm) ?_
 rintro ⟨⟨⟨y0,y1,y2,y3,y4,⟨⟩⟩,ys⟩,c,us,n⟩ ⟨q1,q2,q3,q4,q5,q6,q7⟩
 dsimp only [Rose.lab,Rose.kids] at q1 q2 q3 q4 q5 q6 q7 ⊢;have hM:=mxI;obtain ⟨k,rfl,hk⟩:=Ub q2 q3;have e1:vbL [k]=vbR k:=by rw [vbL,vbL]; omega
 rw [e1] at q7;simp only [e1];unfold Cur.room at q7;rw [Aj,Ak,Ak] at q1;rw [vbR,e1] at q4
 cases n with
 | succ n=>
  right;simp only [Nat.succ_mul] at q7 ⊢;refine Ex1.of (GX N f h _ _ y0 y1 y2 y3 y4 [k] ((n+1:Nat):Int) c.l c.a c.s us.length us) ?_;have w1:i64.wrap (((n+1:Nat):Int)-1)=(n:Int):=by rw [Av (by omega) (by omega)]; omega
  rw [Af (dcT (by omega))];have hnn:(0:Int)<=(n:Int)*(vbR k:Int):=Int.mul_nonneg (by omega) (by omega);have g0:c.room (8*vbR k):=Cur.good_mono q7 (by push_cast; omega);have pf1:=pf k c _ (by omega) hk (by omega) q7 (by push_cast; omega);refine Ex1.T (by simp) (Ex1.S ⟨k,rfl⟩ fun z hz=>?_);obtain rfl:k=z:=by simpa using hz
  simp only [AG,BS,show Cur.mk c.l c.a c.s=c from rfl,w1,A7,drop_zero,take_length,BD];refine Ex1.T (dcT ⟨by omega,hk,by omega,g0⟩) (Ex1.T (by simp; omega) ?_);refine Ex1.P3 (.node (y0,y1,y2,y3,y4,()) [k],(f k c).2,us++[(f k c).1],n) (by simp) rfl rfl ⟨⟨by rw [Aj,Ak,Ak]; omega,q2,q3,by rw [vbR,e1]; omega,by dsimp only; omega,by simp; omega,?_⟩,by dsimp only; omega,fun y hy=>⟨fun m hm hl=>?_,?_⟩⟩
  ·dsimp only [Rose.kids];rw [e1];exact Cur.good_mono pf1.1 (by push_cast; omega)
  ·dsimp only [Rose.kids] at hy ⊢;simp only [e1] at hy;have:=pf k c m (by omega) hk (by omega) hm (by push_cast at hl; omega);exact Cur.good_mono (hy.1 _ this.1 (by push_cast at hl ⊢; omega)) (by push_cast; omega)
  ·dsimp only [Rose.kids] at hy ⊢;simp only [e1] at hy;have:=hy.2;rw [Kh] at this;have:=pf1.2;omega
 | zero=>
  left;refine Ex1.of (GX N f h _ _ y0 y1 y2 y3 y4 [k] ((0:Nat):Int) c.l c.a c.s us.length us) ?_;rw [Ae (dcF (by omega))];refine Ex1.L (us,c) rfl ⟨fun m hm hl=>Cur.good_mono hm (by rw [Nat.zero_mul]; omega),by dsimp only; omega⟩
theorem X4 (N:Nat) (f:Rose Lab->Cur->Rose A4×Cur) (h:Cur->(Int)×Cur) (pf : ∀ (z:Rose Lab) (c:Cur) (m:Int),Aj z<=N->Ah z=true->vbR z<=1000000->c.good m->m<=60000000-8*(vbR z:Int)->(f z c).2.good (m+8*(vbR z:Int))/\vcR (f z c).1<=vbR z) :
  ∀ x:RL×Cur×RVL×Nat,(Ak x.1<=N/\A6 5 x.1=true/\3*vbL x.1<=1000000/\x.2.2.2<=x.1.length/\x.2.2.1.length<=x.2.2.2/\x.2.1.room (8+24*vbL (x.1.drop x.2.2.2)))->
   ∃ y:RVL×Cur,(∀ o:((Rose Lab×Cur×RVL×Nat->RVL×Cur)×(RL×Cur×RVL×Nat->RVL×Cur)),Runs prog (Aa [(90,.own Bp),(67,.own CT),(92,.own MH),(91,.own (I6 h)),(156,.mix (FZ N f))]) (Aa [(11,I5 N o.1),(16,I4 N o.2)]) 1 (body f156 1) (I4 N o.2) ((fun x:RL×Cur×RVL×Nat=>([.ptr 0 0,.ptr 1 0,.ptr 2 0,.sl (.rose LCd) x.1,.j (x.1.length:Int),.j (x.2.2.2:Int)],[some (cB x.2.1),some (.box [.j 0,.s [],.j 0,.b false,.ref 3 0 0]),some (.box [.j 0,.s [],.j 0,.b true,.ref 4 0 x.2.2.1.length]),R0 (.rose VCd) [],R0 (.rose VCd) x.2.2.1])) x) ((fun y:RVL×Cur=>(((.exit 3:Ex),([.ptr 1 0,.ptr 2 0],[some (cB y.2),some (.box [.j 0,.s [],.j 0,.b false,.ref 3 0 0]),some (.box [.j 0,.s [],.j 0,.b true,.ref 4 0 y.1.length]),R0 (.rose VCd) [],R0 (.rose VCd) y.1])):Ex×Dt)) y).1 ((fun y:RVL×Cur=>(((.exit 3:Ex),([.ptr 1 0,.ptr 2 0],[some (cB y.2),some (.box [.j 0,.s [],.j 0,.b false,.ref 3 0 0]),some (.box [.j 0,.s [],.j 0,.b true,.ref 4 0 y.1.length]),R0 (.rose VCd) [],R0 (.rose VCd) y.1])):Ex×Dt)) y).2)/\
    ((∀ m,x.2.1.good m->m<=60000000-8-24*(vbL (x.1.drop x.2.2.2):Int)->y.2.good (m+24*(vbL (x.1.drop x.2.2.2):Int)))/\vcL y.1<=vcL x.2.2.1+vbL (x.1.drop x.2.2.2)):=by
 refine Gy (ι:=((Rose Lab×Cur×RVL×Nat->RVL×Cur)×(RL×Cur×RVL×Nat->RVL×Cur))) (⟨fun _=>([],Cur.mk [] 0 0),fun _=>([],Cur.mk [] 0 0)⟩) (Λ:=fun o=>(Aa [(11,I5 N o.1),(16,I4 N o.2)])) (ent:=fun o=>I4 N o.2) (fun x:RL×Cur×RVL×Nat=>([.ptr 0 0,.ptr 1 0,.ptr 2 0,.sl (.rose LCd) x.1,.j (x.1.length:Int),.j (x.2.2.2:Int)],[some (cB x.2.1),some (.box [.j 0,.s [],.j 0,.b false,.ref 3 0 0]),some (.box [.j 0,.s [],.j 0,.b true,.ref 4 0 x.2.2.1.length]),R0 (.rose VCd) [],R0 (.rose VCd) x.2.2.1])) (fun y:RVL×Cur=>(((.exit 3:Ex),([.ptr 1 0,.ptr 2 0],[some (cB y.2),some (.box [.j 0,.s [],.j 0,.b false,.ref 3 0 0]),some (.box [.j 0,.s [],.j 0,.b true,.ref 4 0 y.1.length]),R0 (.rose VCd) [],R0 (.rose VCd) y.1])):Ex×Dt)) (fun y=>by simp) _ _ (fun x=>x.1.length-x.2.2.2) (fun o x _=>(GW N f h o.1 o.2 x.1 (x.1.length:Int) (x.2.2.2:Int) x.2.1.l x.2.1.a x.2.1.s x.2.2.1.length x.2.2.1).trans (GW N f h _ _ x.1 (x.1.length:Int) (x.2.2.2:Int) x.2.1.l x.2.1.a x.2.1.s x.2.2.1.length x.2.2.1).symm) ?_
 rintro ⟨ks,c,us,i⟩ ⟨q1,q2,q3,q4,q5,q6⟩
 dsimp only at q1 q2 q3 q4 q5 q6 ⊢;have hM:=mxI;unfold Cur.room at q6;have hcl:=Bc ks;have hcv:=V4 ks
 by_cases hi:i<ks.length
 ·right;have e1:ks.drop i=ks[i]::ks.drop (i+1):=drop_eq_getElem_cons hi;have e2:vbL (ks.drop i)=vbR ks[i]+vbL (ks.drop (i+1)):=by rw [e1,vbL]
  have hmem:=getElem_mem hi;have b1:=V3 hmem;have b2:=Ri ks[i];have b3:=Bo hmem;have b4:=Ng q2 hmem;rw [e2] at q6 ⊢;refine Ex1.of (GW N f h _ _ ks (ks.length:Int) (i:Int) c.l c.a c.s us.length us) ?_;rw [Af (dcT (by omega)),ntN,Az (n:=i) (by omega)];refine Ex1.T (by simp; omega) (Ex1.S ⟨ks[i],gtE hi⟩ fun z hz=>?_);obtain rfl:ks[i]=z:=by rw [gtE hi] at hz; exact Option.some.inj hz
  generalize ks[i]=z at *;have g0:c.room (8*vbR z):=Cur.good_mono q6 (by push_cast; omega);have g1:(c.pickC 2).room (8*vbR z):=Cur.good_mono (Cur.pickC_good q6) (by push_cast; omega);have pf0:=fun (c:Cur) (m:Int) (hc:c.good m) (hm:m<=60000000-8*(vbR z:Int))=>pf z c m (by omega) b4 (by omega) hc hm
  simp only [AG,BS,show Cur.mk c.l c.a c.s=c from rfl,A7,drop_zero,take_length]
  have done : ∀ (c':Cur) (w:RVL) (K:Int),(∀ m,c.good m->m<=60000000-8-24*((vbR z+vbL (ks.drop (i+1)):Nat):Int)->c'.good (m+K))->K<=24*(vbR z:Int)->w.length<=i+1->vcL w<=vcL us+vbR z->
    ((Ak ks<=N/\A6 5 ks=true/\3*vbL ks<=1000000/\i+1<=ks.length/\w.length<=i+1/\c'.room (8+24*vbL (ks.drop (i+1))))/\ks.length-(i+1)<ks.length-i/\∀ y:RVL×Cur,((∀ m,c'.good m->m<=60000000-8-24*(vbL (ks.drop (i+1)):Int)->y.2.good (m+24*(vbL (ks.drop (i+1)):Int)))/\vcL y.1<=vcL w+vbL (ks.drop (i+1)))->
     ((∀ m,c.good m->m<=60000000-8-24*((vbR z+vbL (ks.drop (i+1)):Nat):Int)->y.2.good (m+24*((vbR z+vbL (ks.drop (i+1)):Nat):Int)))/\vcL y.1<=vcL us+(vbR z+vbL (ks.drop (i+1))))):=fun c' w K h1 h2 h3 h4=>by
   refine ⟨⟨q1,q2,q3,by omega,h3,Cur.good_mono (h1 _ q6 (by push_cast; omega)) (by push_cast; omega)⟩,by omega,fun y hy=>⟨fun m hm hl=>?_,by have:=hy.2; omega⟩⟩;exact Cur.good_mono (hy.1 _ (h1 m hm hl) (by push_cast at hl; omega)) (by push_cast; omega)
  refine Ex1.B (fun _=>?_) (fun _=>Ex1.T (dcT (Cur.good_mono q6 (by push_cast; omega))) (Ex1.B (fun _=>?_) (fun _=>?_)))
  ·have pv:=pf0 c _ q6 (by push_cast; omega);refine Ex1.T (dcT ⟨by omega,b4,by omega,g0⟩) (Ex1.T (by simp; omega) ?_);refine Ex1.P3 (ks,(f z c).2,us++[.node ((f z c).1.lab.1,(f z c).1.lab.2.1,z.lab.2.2.1,(f z c).1.lab.2.2.2.1,()) (f z c).1.kids],i+1) (by simp) rfl rfl ?_;exact done _ _ (8*(vbR z:Int)) (fun m hm hl=>(pf0 c m hm (by push_cast at hl; omega)).1) (by omega) (by simp; omega) (by rw [Kh]; have:=pv.2; rw [DE] at this; rw [vcR]; omega)
  ·have pv:=pf0 (c.pickC 2) _ (Cur.pickC_good q6) (by push_cast; omega);refine Ex1.T (dcT ⟨by omega,b4,by omega,g1⟩) (Ex1.T (by simp; omega) ?_);refine Ex1.P3 (ks,(f z (c.pickC 2)).2,us++[.node ((f z (c.pickC 2)).1.lab.1,(f z (c.pickC 2)).1.lab.2.1,z.lab.2.2.1,(f z (c.pickC 2)).1.lab.2.2.2.1,()) (f z (c.pickC 2)).1.kids],i+1) (by simp) rfl rfl ?_;exact done _ _ (2+8*(vbR z:Int)) (fun m hm hl=>Cur.good_mono (pf0 (c.pickC 2) (m+2) (Cur.pickC_good hm) (by push_cast at hl; omega)).1 (by omega)) (by omega) (by simp; omega) (by rw [Kh]; have:=pv.2; rw [DE] at this; rw [vcR]; omega)
  ·refine Ex1.P3 (ks,c.pickC 2,us,i+1) rfl rfl rfl ?_;exact done (c.pickC 2) us 2 (fun m hm hl=>Cur.pickC_good hm) (by omega) (by omega) (by omega)
 ·left;refine Ex1.of (GW N f h _ _ ks (ks.length:Int) (i:Int) c.l c.a c.s us.length us) ?_;rw [Ae (dcF (by omega))];have e1:ks.drop i=[]:=drop_eq_nil_of_le (by omega);refine Ex1.L (us,c) rfl ⟨fun m hm hl=>Cur.good_mono hm (by rw [e1,vbL]; omega),by dsimp only; omega⟩
def Q8 (f:Rose Lab->Cur->Rose A4×Cur):Gm
 | [.ptr 0 0,.agg (Lt y0 y1 y2 y3 y4 ys)],[.box [.sl (.int .u8) l,.j a,.i .u64 s]]=>.need (decide (Ah (Rose.node (y0,y1,y2,y3,y4,()) ys)=true/\vbR (Rose.node (y0,y1,y2,y3,y4,()) ys)<=1000000/\(Cur.mk l a s).room (8*vbR (Rose.node (y0,y1,y2,y3,y4,()) ys)))) (.leaf (.agg [.j (f (Rose.node (y0,y1,y2,y3,y4,()) ys) (Cur.mk l a s)).1.lab.1,.s (f (Rose.node (y0,y1,y2,y3,y4,()) ys) (Cur.mk l a s)).1.lab.2.1,.j (f (Rose.node (y0,y1,y2,y3,y4,()) ys) (Cur.mk l a s)).1.lab.2.2.1,.b (f (Rose.node (y0,y1,y2,y3,y4,()) ys) (Cur.mk l a s)).1.lab.2.2.2.1,.ref 1 0 (f (Rose.node (y0,y1,y2,y3,y4,()) ys) (Cur.mk l a s)).1.kids.length],[some (cB (f (Rose.node (y0,y1,y2,y3,y4,()) ys) (Cur.mk l a s)).2),R0 (.rose VCd) (f (Rose.node (y0,y1,y2,y3,y4,()) ys) (Cur.mk l a s)).1.kids]))
 | _,_=>.no
theorem ZF (N:Nat) (f:Rose Lab->Cur->Rose A4×Cur) (_ : ∀ (z:Rose Lab) (c:Cur) (m:Int),Aj z<=N->Ah z=true->vbR z<=1000000->c.good m->m<=60000000-8*(vbR z:Int)->(f z c).2.good (m+8*(vbR z:Int))/\vcR (f z c).1<=vbR z) (o:((Rose Lab×Cur×RVL×Nat->RVL×Cur)×(RL×Cur×RVL×Nat->RVL×Cur)))
  (hA : ∀ x:Rose Lab×Cur×RVL×Nat,(Aj x.1<=N+1/\Ah x.1=true/\x.1.lab.1=4/\vbR x.1<=1000000/\x.2.2.2<=3/\x.2.2.1.length<=3-x.2.2.2/\x.2.1.room (6+8*(x.2.2.2*vbL x.1.kids)))->(∀ m,x.2.1.good m->m<=60000000-6-8*((x.2.2.2*vbL x.1.kids:Nat):Int)->(o.1 x).2.good (m+8*((x.2.2.2*vbL x.1.kids:Nat):Int)))/\vcL (o.1 x).1<=vcL x.2.2.1+x.2.2.2*vbL x.1.kids)
  (hB : ∀ x:RL×Cur×RVL×Nat,(Ak x.1<=N/\A6 5 x.1=true/\3*vbL x.1<=1000000/\x.2.2.2<=x.1.length/\x.2.2.1.length<=x.2.2.2/\x.2.1.room (8+24*vbL (x.1.drop x.2.2.2)))->(∀ m,x.2.1.good m->m<=60000000-8-24*(vbL (x.1.drop x.2.2.2):Int)->(o.2 x).2.good (m+24*(vbL (x.1.drop x.2.2.2):Int)))/\vcL (o.2 x).1<=vcL x.2.2.1+vbL (x.1.drop x.2.2.2))
  (y0:Int) (y1:By) (y2:Int) (y3:Bool) (y4:Int) (ys:RL) (l:List Int) (a s:Int) (q1:Aj (Rose.node (y0,y1,y2,y3,y4,()) ys)<=N+1) (q2:Ah (Rose.node (y0,y1,y2,y3,y4,()) ys)=true) (q3:vbR (Rose.node (y0,y1,y2,y3,y4,()) ys)<=1000000) (q4:(Cur.mk l a s).room (8*vbR (Rose.node (y0,y1,y2,y3,y4,()) ys))) :
  Ex1 (Bm prog (Aa [(90,.own Bp),(67,.own CT),(92,.own MH),(91,.own (I6 HO)),(156,.mix (FZ N f))]) (Aa [(11,I5 N o.1),(16,I4 N o.2)]) f156 [.ptr 0 0,.agg (Lt y0 y1 y2 y3 y4 ys)] [.box [.sl (.int .u8) l,.j a,.i .u64 s]]) (fun y:Rose A4×Cur=>((.agg [.j y.1.lab.1,.s y.1.lab.2.1,.j y.1.lab.2.2.1,.b y.1.lab.2.2.2.1,.ref 1 0 y.1.kids.length],[some (cB y.2),R0 (.rose VCd) y.1.kids]):V×List (Option Blk))) (fun y=>(∀ m,(Cur.mk l a s).good m->m<=60000000-8*(vbR (Rose.node (y0,y1,y2,y3,y4,()) ys):Int)->y.2.good (m+8*(vbR (Rose.node (y0,y1,y2,y3,y4,()) ys):Int)))/\vcR y.1<=vbR (Rose.node (y0,y1,y2,y3,y4,()) ys)):=by
 refine Ex1.of (UP N f HO o.1 o.2 y0 y1 y2 y3 y4 ys l a s) ?_;have hM:=mxI;unfold Cur.room at q4;have hvb:=Ri (Rose.node (y0,y1,y2,y3,y4,()) ys);have ev:vbR (Rose.node (y0,y1,y2,y3,y4,()) ys)=3*vbL ys+1:=by rw [vbR]
 have hq2:=q2;have hcq:=q1;rw [Ah,anE] at q2;rw [Aj] at q1;have hcl:=Bc ys;have hg9:(Cur.mk l a s).good 900000000:=Cur.good_mono q4 (by omega);simp only [Agb,A7,drop_zero,zero_add];refine Ex1.B (fun h=>?_) (fun h1=>Ex1.B (fun h=>?_) (fun h3=>Ex1.B (fun h=>?_) (fun h2=>Ex1.B (fun h4=>?_) (fun h4=>?_))))
 ·refine Ex1.T (dcT (Cur.good_mono q4 (by omega))) (Ex1.c (.node (_,_,_,_,()) []) rfl rfl ⟨fun m hm hl=>?_,?_⟩)
  ·exact Cur.good_mono ((ZI (Cur.mk l a s) (Cur.good_mono q4 (by omega))).1 m hm (by omega)) (by omega)
  ·rw [vcR,vcL]; omega
 ·refine Ex1.T (dcT hg9) (Ex1.c (.node (_,_,_,_,()) []) rfl rfl ⟨fun m hm hl=>?_,?_⟩)
  ·exact Cur.good_mono (Cur.pickC_good hm) (by omega)
  ·rw [vcR,vcL]; omega
 ·refine Ex1.T (dcT ⟨hg9,by omega,by omega⟩) (Ex1.c (.node (_,_,_,_,()) []) rfl rfl ⟨fun m hm hl=>?_,?_⟩)
  ·exact Cur.good_mono (Cur.pickC_good hm) (by omega)
  ·rw [vcR,vcL]; omega
 ·have hy:y0=4:=by simpa using h4
  have r4:=Cur.pickV_range (c:=(Cur.mk l a s)) (k:=4) hg9 (by omega);obtain ⟨n,hn⟩:=eq_ofNat_of_zero_le r4.1;rw [hn] at r4 ⊢;have hp:n*vbL ys<=3*vbL ys:=Nat.mul_le_mul_right _ (by omega);have g2:((Cur.mk l a s).pickC 4).room (6+8*(n*vbL ys)):=Cur.good_mono (Cur.pickC_good q4) (by omega);have hA1:=hA ((Rose.node (y0,y1,y2,y3,y4,()) ys),(Cur.mk l a s).pickC 4,[],n) ⟨hcq,hq2,hy,q3,by dsimp only; omega,by simp,g2⟩;refine Ex1.T (dcT hg9) (Ex1.T (dcT ⟨hcq,hq2,hy,q3,by omega,by omega,trivial,by omega,g2⟩) (Ex1.c (.node (0,[],0,true,()) (o.1 ((Rose.node (y0,y1,y2,y3,y4,()) ys),(Cur.mk l a s).pickC 4,[],n)).1) rfl rfl ⟨fun m hm hl=>?_,?_⟩))
  ·exact Cur.good_mono (hA1.1 _ (Cur.pickC_good hm) (by dsimp only [Rose.kids]; omega)) (by dsimp only [Rose.kids]; omega)
  ·have:=hA1.2;dsimp only [Rose.kids] at this;rw [vcL] at this;rw [vcR]; omega
 ·have h5:A6 5 ys=true:=by
   have hp:=q2.1;unfold B5 at hp;simp only [beq_eq_false_iff_ne] at h1 h2 h3 h4;rw [if_neg (by omega),if_neg h3,if_neg h4] at hp;split at hp
   ·cases hp
   ·rename_i hh
    have:y0=5:=by
     by_cases e:y0=5
     ·exact e
     ·exact absurd (Or.inl e) hh
    have:=q2.2
    simpa only [‹y0=5›] using this
  have e0:ys.drop 0=ys:=rfl;have g3:(Cur.mk l a s).room (8+24*vbL ys):=Cur.good_mono q4 (by push_cast; omega);have hB1:=hB (ys,(Cur.mk l a s),[],0) ⟨by dsimp only; omega,h5,by dsimp only; omega,by dsimp only; omega,by simp,by dsimp only; rw [e0]; exact g3⟩;refine Ex1.T (dcT ⟨by omega,h5,by omega,trivial,by omega,by omega,trivial,by omega,g3⟩) (Ex1.c (.node (0,[],0,true,()) (o.2 (ys,(Cur.mk l a s),[],0)).1) rfl rfl ⟨fun m hm hl=>?_,?_⟩)
  ·exact Cur.good_mono (hB1.1 m hm (by dsimp only; rw [e0]; omega)) (by dsimp only; rw [e0]; omega)
  ·have:=hB1.2;dsimp only at this;rw [e0,vcL] at this;rw [vcR]; omega
theorem UQ (N:Nat) (f:Rose Lab->Cur->Rose A4×Cur) (hf:Ac prog 156 (Ent.mix (FZ N f)).F) (pf : ∀ (z:Rose Lab) (c:Cur) (m:Int),Aj z<=N->Ah z=true->vbR z<=1000000->c.good m->m<=60000000-8*(vbR z:Int)->(f z c).2.good (m+8*(vbR z:Int))/\vcR (f z c).1<=vbR z) : ∃ g:Rose Lab->Cur->Rose A4×Cur,Ac prog 156 (Ent.mix (FZ (N+1) g)).F/\∀ (z:Rose Lab) (c:Cur) (m:Int),Aj z<=N+1->Ah z=true->vbR z<=1000000->c.good m->m<=60000000-8*(vbR z:Int)->(g z c).2.good (m+8*(vbR z:Int))/\vcR (g z c).1<=vbR z:=by
 obtain ⟨o1,ho1⟩:=DF (Y:=RVL×Cur) ([],Cur.mk [] 0 0) (X6 N f HO pf);obtain ⟨o2,ho2⟩:=DF (Y:=RVL×Cur) ([],Cur.mk [] 0 0) (X4 N f HO pf);have ex:=fun (z:Rose Lab) (c:Cur) (h:Aj z<=N+1/\Ah z=true/\vbR z<=1000000/\c.room (8*vbR z))=>ZF N f pf (o1,o2) (fun x hx=>(ho1 x hx).2) (fun x hx=>(ho2 x hx).2) z.lab.1 z.lab.2.1 z.lab.2.2.1 z.lab.2.2.2.1 z.lab.2.2.2.2.1 z.kids c.l c.a c.s (by rw [AG]; exact h.1) (by rw [AG]; exact h.2.1) (by rw [AG]; exact h.2.2.1) (by rw [AG]; exact h.2.2.2)
 classical
 refine ⟨fun z c=>if h:Aj z<=N+1/\Ah z=true/\vbR z<=1000000/\c.room (8*vbR z) then (ex z c h).choose else (.node (0,[],0,false,()) [],c),?_,fun z c m h1 h2 h3 hc hm=>?_⟩
 rotate_left
 ·have h:Aj z<=N+1/\Ah z=true/\vbR z<=1000000/\c.room (8*vbR z):=⟨h1,h2,h3,Cur.good_mono hc (by push_cast; omega)⟩
  simp only [dif_pos h];have:=(ex z c h).choose_spec.2;generalize (ex z c h).choose=y at this;rw [AG] at this;exact ⟨this.1 m hc hm,this.2⟩
 refine fcC (kc func90 GD (kc func67 Sv (kc func92 cof (kc func91 XB (kc func156 hf KnowsL.nil))))).knows (Λ:=(Aa [(11,I5 N o1),(16,I4 N o2)])) func156 fun vs bs r hq=>?_
 unfold Ent.F FZ at hq;dsimp only at hq;split at hq
 ·rename_i y0 y1 y2 y3 y4 ys l a s;obtain ⟨hc,hx⟩:=Ad hq;have hc:=of_decide_eq_true hc;refine ⟨?_,((ex (Rose.node (y0,y1,y2,y3,y4,()) ys) (Cur.mk l a s) hc).choose_spec.1).trans ?_⟩
  ·refine LoopsI.loops (cs:=[body f156 0,body f156 1]) ?_ (by kernel_rfl);refine .cons (ent:=I5 N o1) (by rfl) (fun d ex d' h=>?_) (.cons (ent:=I4 N o2) (by rfl) (fun d ex d' h=>?_) .nil)
   ·unfold I5 at h;dsimp only at h;split at h
    ·rename_i n l a s y0 y1 y2 y3 y4 ys w us;obtain ⟨hc,hx⟩:=Ad h;obtain ⟨k1,k2,k3,k4,k5,k6,rfl,k7,k8⟩:=of_decide_eq_true hc;obtain ⟨n,rfl⟩:=eq_ofNat_of_zero_le k5;simp only [ntN] at k7 k8 hx;obtain ⟨rfl,rfl⟩:=lfP hx;exact (ho1 ((Rose.node (y0,y1,y2,y3,y4,()) ys),(Cur.mk l a s),us,n) ⟨k1,k2,k3,k4,by dsimp only; omega,k7,k8⟩).1 (o1,o2)
    ·cases h
   ·unfold I4 at h;dsimp only at h;split at h
    ·rename_i ks k i l a s w us;obtain ⟨hc,hx⟩:=Ad h;obtain ⟨k1,k2,k3,rfl,k5,k6,rfl,k7,k8⟩:=of_decide_eq_true hc;obtain ⟨i,rfl⟩:=eq_ofNat_of_zero_le k5;simp only [ntN] at k6 k7 k8 hx;obtain ⟨rfl,rfl⟩:=lfP hx;exact (ho2 (ks,(Cur.mk l a s),us,i) ⟨k1,k2,k3,k6,k7,k8⟩).1 (o1,o2)
    ·cases h
  ·rw [dif_pos hc] at hx;exact hx
 ·cases hq
theorem Cz : ∀ N,∃ g:Rose Lab->Cur->Rose A4×Cur,Ac prog 156 (Ent.mix (FZ N g)).F/\∀ (z:Rose Lab) (c:Cur) (m:Int),Aj z<=N->Ah z=true->vbR z<=1000000->c.good m->m<=60000000-8*(vbR z:Int)->(g z c).2.good (m+8*(vbR z:Int))/\vcR (g z c).1<=vbR z
 | 0=>⟨fun _ c=>(.node (0,[],0,false,()) [],c),AP fun vs bs=>by
  unfold Ent.F FZ;dsimp only;split
  ·rename_i y0 y1 y2 y3 y4 ys l a s;have:decide (Aj (Rose.node (y0,y1,y2,y3,y4,()) ys)<=0/\Ah (Rose.node (y0,y1,y2,y3,y4,()) ys)=true/\vbR (Rose.node (y0,y1,y2,y3,y4,()) ys)<=1000000/\(Cur.mk l a s).room (8*vbR (Rose.node (y0,y1,y2,y3,y4,()) ys)))=false:=dcF (by have:=BN (Rose.node (y0,y1,y2,y3,y4,()) ys); omega);rw [this]; rfl
  ·rfl,fun z c m h=>by have:=BN z; omega⟩
 | N+1=>by
  obtain ⟨f,hf,pf⟩:=Cz N;exact UQ N f hf pf
theorem LR : ∃ g:Rose Lab->Cur->Rose A4×Cur,Ac prog 156 (Ent.mix (Q8 g)).F/\∀ (z:Rose Lab) (c:Cur) (m:Int),Ah z=true->vbR z<=1000000->c.good m->m<=60000000-8*(vbR z:Int)->(g z c).2.good (m+8*(vbR z:Int))/\vcR (g z c).1<=vbR z:=by
 classical
 refine ⟨fun z c=>(Cz (Aj z)).choose z c,?_,fun z c m h1 h2 hc hm=>(Cz (Aj z)).choose_spec.2 z c m (Nat.le_refl _) h1 h2 hc hm⟩;refine Bb (F:=fun n=>(Ent.mix (FZ n (Cz n).choose)).F) (fun n _=>(Cz n).choose_spec.1) fun vs bs r hq=>?_
 unfold Ent.F Q8 at hq;dsimp only at hq;split at hq
 ·rename_i y0 y1 y2 y3 y4 ys l a s;obtain ⟨hc,hx⟩:=Ad hq;have hc:=of_decide_eq_true hc;refine ⟨Aj (Rose.node (y0,y1,y2,y3,y4,()) ys),?_⟩;show (Br.need (decide (Aj (Rose.node (y0,y1,y2,y3,y4,()) ys)<=Aj (Rose.node (y0,y1,y2,y3,y4,()) ys)/\Ah (Rose.node (y0,y1,y2,y3,y4,()) ys)=true/\vbR (Rose.node (y0,y1,y2,y3,y4,()) ys)<=1000000/\(Cur.mk l a s).room (8*vbR (Rose.node (y0,y1,y2,y3,y4,()) ys)))) (.leaf (.agg [.j ((Cz (Aj (Rose.node (y0,y1,y2,y3,y4,()) ys))).choose (Rose.node (y0,y1,y2,y3,y4,()) ys) (Cur.mk l a s)).1.lab.1,.s ((Cz (Aj (Rose.node (y0,y1,y2,y3,y4,()) ys))).choose (Rose.node (y0,y1,y2,y3,y4,()) ys) (Cur.mk l a s)).1.lab.2.1,.j ((Cz (Aj (Rose.node (y0,y1,y2,y3,y4,()) ys))).choose (Rose.node (y0,y1,y2,y3,y4,()) ys) (Cur.mk l a s)).1.lab.2.2.1,.b ((Cz (Aj (Rose.node (y0,y1,y2,y3,y4,()) ys))).choose (Rose.node (y0,y1,y2,y3,y4,()) ys) (Cur.mk l a s)).1.lab.2.2.2.1,.ref 1 0 ((Cz (Aj (Rose.node (y0,y1,y2,y3,y4,()) ys))).choose (Rose.node (y0,y1,y2,y3,y4,()) ys) (Cur.mk l a s)).1.kids.length],[some (cB ((Cz (Aj (Rose.node (y0,y1,y2,y3,y4,()) ys))).choose (Rose.node (y0,y1,y2,y3,y4,()) ys) (Cur.mk l a s)).2),R0 (.rose VCd) ((Cz (Aj (Rose.node (y0,y1,y2,y3,y4,()) ys))).choose (Rose.node (y0,y1,y2,y3,y4,()) ys) (Cur.mk l a s)).1.kids]))).run=some r;rw [dcT ⟨Nat.le_refl _,hc⟩];exact hx
 ·cases hq
noncomputable def HM:Rose Lab->Cur->Rose A4×Cur:=LR.choose
theorem X5:Ac prog 156 (Ent.mix (Q8 HM)).F:=LR.choose_spec.1
theorem Tv : ∀ (z:Rose Lab) (c:Cur) (m:Int),Ah z=true->vbR z<=1000000->c.good m->m<=60000000-8*(vbR z:Int)->(HM z c).2.good (m+8*(vbR z:Int))/\vcR (HM z c).1<=vbR z:=LR.choose_spec.2
def X3 (f:(List Ty)->Cur->(List Nd)×Cur):Gm
 | [.ptr 0 0,.agg [.sl TCd v]],[.box [.sl (.int .u8) l,.j a,.i .u64 s]]=>.need (decide (Ay v=true/\nmL v=true/\(Cur.mk l a s).good 50000000)) (.leaf (.agg [.ref 1 0 (f v (Cur.mk l a s)).1.length],[some (cB (f v (Cur.mk l a s)).2),R0 NCd (f v (Cur.mk l a s)).1]))
 | _,_=>.no
theorem X2 (f:Rose Lab->Cur->Rose A4×Cur) (h:Cur->(Int)×Cur) (v:List Ty) (l:List Int) (a s:Int):Bm prog (Aa [(39,.rd1 C7),(156,.mix (Q8 f)),(74,.rd1 ofG),(67,.own CT),(157,.rd1 FJ),(90,.own Bp),(134,.own (LZ h))]) (Aa []) f112 [.ptr 0 0,.agg [.sl TCd v]] [.box [.sl (.int .u8) l,.j a,.i .u64 s]] =
 ((shr (t2L v 0).lab.2 fun sh3=>shr (Rose.node ((t2L v 0).lab.1,sh3.1,sh3.2.1,sh3.2.2.1,sh3.2.2.2.1,()) (take (t2L v (0 :
 Nat)).kids.length (drop 0 (t2L v 0).kids))) fun sh2=>shr (f sh2 (Cur.mk l a s)) fun sh1=>ifT (decide ((0:Int)<=(0:Int)/\0 <
 v.length/\v.length<=4000000000)) (ifT (decide (Ah sh2=true/\vbR sh2<=1000000/\(Cur.mk l a s).room (8*vbR sh2))) (ifT (decide (vcL
 (take sh1.1.kids.length (drop 0 sh1.1.kids))+1<=2000000)) (ifB (decide ((↑(Am (Rose.node (sh1.1.lab.1,
 sh1.1.lab.2.1,sh1.1.lab.2.2.1,sh1.1.lab.2.2.2.1,()) (take sh1.1.kids.length (drop 0 sh1.1.kids))) (-1:Int) (0 :
 Nat)).length:Int)>(40:Int))) (ifT (decide (sh1.2.good (900000000:Int))) (ifB (!sh1.2.pickV (4:Int)==(0:Int)) (ifT (decide (v.length<=(4000000000 :
 Nat))&&nmL v) (ifB (Ay v) (ifT (decide ((sh1.2.pickC (4:Int)).good (900000000:Int))) (ifB ((sh1.2.pickC (4:Int)).pickV (12:Int)==(0:Int)) (ifT
 (decide (((sh1.2.pickC (4:Int)).pickC (12:Int)).good (900000000:Int))) (ifT (decide ((((sh1.2.pickC (4:Int)).pickC (12:Int)).pickC (↑(dfL v).length :
 Int)).good (900000000:Int))) (ifB ((((sh1.2.pickC (4:Int)).pickC (12:Int)).pickC (↑(dfL v).length:Int)).pickV (4:Int)==(0:Int)) (ifT (decide
 (((((sh1.2.pickC (4:Int)).pickC (12:Int)).pickC (↑(dfL v).length:Int)).pickC (4:Int)).good (80000000:Int))) (ifT (decide ((0:Int)<=((sh1.2.pickC (4 :
 Int)).pickC (12:Int)).pickV (↑(dfL v).length:Int))&&decide (((sh1.2.pickC (4:Int)).pickC (12:Int)).pickV (↑(dfL v).length:Int)<(↑(dfL v).length:Int)))
 (An (dfL v)[0+(((sh1.2.pickC (4:Int)).pickC (12:Int)).pickV (↑(dfL v).length:Int)).toNat]? fun z=>some (V.agg [V.ref 1 0 (dfL v).length],[some
 (Blk.box [V.sl (Cd.int .u8) (h ((((sh1.2.pickC (4:Int)).pickC (12:Int)).pickC (↑(dfL v).length:Int)).pickC (4:Int))).2.l,V.j (h ((((sh1.2.pickC (4 :
 Int)).pickC (12:Int)).pickC (↑(dfL v).length:Int)).pickC (4:Int))).2.a,V.i .u64 (h ((((sh1.2.pickC (4:Int)).pickC (12:Int)).pickC (↑(dfL v).length :
 Int)).pickC (4:Int))).2.s]),R0 NCd ((dfL v).set (0+(((sh1.2.pickC (4:Int)).pickC (12:Int)).pickV (↑(dfL v).length :
 Int)).toNat) ((h ((((sh1.2.pickC (4:Int)).pickC (12:Int)).pickC (↑(dfL v).length:Int)).pickC (4:Int))).1,z.2.1,z.2.2.1,z.2.2.2.1,
 z.2.2.2.2.1,()))])))) (ifB ((((sh1.2.pickC (4:Int)).pickC (12:Int)).pickC (↑(dfL v).length:Int)).pickV (4:Int)==(1:Int)) (ifT (decide
 (((((sh1.2.pickC (4:Int)).pickC (12:Int)).pickC (↑(dfL v).length:Int)).pickC (4:Int)).good (900000000:Int))) (ifT (decide ((0:Int)<=((sh1.2.pickC (4 :
 Int)).pickC (12:Int)).pickV (↑(dfL v).length:Int))&&decide (((sh1.2.pickC (4:Int)).pickC (12:Int)).pickV (↑(dfL v).length:Int)<(↑(dfL v).length:Int)))
 (An (dfL v)[0+(((sh1.2.pickC (4:Int)).pickC (12:Int)).pickV (↑(dfL v).length:Int)).toNat]? fun z=>some (V.agg [V.ref 1 0 (dfL v).length],[some
 (Blk.box [V.sl (Cd.int .u8) (((((sh1.2.pickC (4:Int)).pickC (12:Int)).pickC (↑(dfL v).length:Int)).pickC (4:Int)).pickC (5:Int)).l,V.i .i64
 (((((sh1.2.pickC (4:Int)).pickC (12:Int)).pickC (↑(dfL v).length:Int)).pickC (4:Int)).pickC (5:Int)).a,V.i .u64 (((((sh1.2.pickC (4:Int)).pickC (12 :
 Int)).pickC (↑(dfL v).length:Int)).pickC (4:Int)).pickC (5:Int)).s]),R0 NCd ((dfL v).set (0+(((sh1.2.pickC (4:Int)).pickC (12 :
 Int)).pickV (↑(dfL v).length:Int)).toNat) (z.1,z.2.1,((((sh1.2.pickC (4:Int)).pickC (12:Int)).pickC (↑(dfL v).length:Int)).pickC (4:Int)).pickV (5 :
 Int),z.2.2.2.1,z.2.2.2.2.1,()))])))) (ifB ((((sh1.2.pickC (4:Int)).pickC (12:Int)).pickC (↑(dfL v).length:Int)).pickV (4:Int)==(2 :
 Int)) (ifT (decide ((0:Int)<=((sh1.2.pickC (4:Int)).pickC (12:Int)).pickV (↑(dfL v).length:Int))&&decide (((sh1.2.pickC (4:Int)).pickC (12:Int)).pickV
 (↑(dfL v).length:Int)<(↑(dfL v).length:Int))) (An (dfL v)[0+(((sh1.2.pickC (4:Int)).pickC (12:Int)).pickV (↑(dfL v).length:Int)).toNat]? fun z
 => ifT (decide ((0:Int)<=((sh1.2.pickC (4:Int)).pickC (12:Int)).pickV (↑(dfL v).length:Int))&&decide (((sh1.2.pickC (4:Int)).pickC (12:Int)).pickV
 (↑(dfL v).length:Int)<(↑(dfL v).length:Int))) (An (dfL v)[0+(((sh1.2.pickC (4:Int)).pickC (12:Int)).pickV (↑(dfL v).length:Int)).toNat]? fun
 z_1=>some (V.agg [V.ref 1 0 (dfL v).length],[some (Blk.box [V.sl (Cd.int .u8) ((((sh1.2.pickC (4:Int)).pickC (12:Int)).pickC (↑(dfL v).length:Int)).pickC (4 :
 Int)).l,V.j ((((sh1.2.pickC (4:Int)).pickC (12:Int)).pickC (↑(dfL v).length:Int)).pickC (4:Int)).a,V.i .u64 ((((sh1.2.pickC (4:Int)).pickC (12 :
 Int)).pickC (↑(dfL v).length:Int)).pickC (4:Int)).s]),R0 NCd ((dfL v).set (0+(((sh1.2.pickC (4:Int)).pickC (12:Int)).pickV
 (↑(dfL v).length:Int)).toNat) (z_1.1,z_1.2.1,z_1.2.2.1,z_1.2.2.2.1,!z.2.2.2.2.1,()))])))) (ifT (decide (((((sh1.2.pickC (4 :
 Int)).pickC (12:Int)).pickC (↑(dfL v).length:Int)).pickC (4:Int)).good (900000000:Int))) (ifT (decide ((0:Int)<=((sh1.2.pickC (4:Int)).pickC (12 :
 Int)).pickV (↑(dfL v).length:Int))&&decide (((sh1.2.pickC (4:Int)).pickC (12:Int)).pickV (↑(dfL v).length:Int)<(↑(dfL v).length:Int))) (An (dfL v)[(0
 : Nat)+(((sh1.2.pickC (4:Int)).pickC (12:Int)).pickV (↑(dfL v).length:Int)).toNat]? fun z=>some (V.agg [V.ref 1 0 (dfL v).length],[some (Blk.box [V.sl
 (Cd.int .u8) (((((sh1.2.pickC (4:Int)).pickC (12:Int)).pickC (↑(dfL v).length:Int)).pickC (4:Int)).pickC (3:Int)).l,V.j (((((sh1.2.pickC (4 :
 Int)).pickC (12:Int)).pickC (↑(dfL v).length:Int)).pickC (4:Int)).pickC (3:Int)).a,V.i .u64 (((((sh1.2.pickC (4:Int)).pickC (12:Int)).pickC (↑(dfL
 v).length:Int)).pickC (4:Int)).pickC (3:Int)).s]),R0 NCd ((dfL v).set (0+(((sh1.2.pickC (4:Int)).pickC (12:Int)).pickV (↑(dfL
 v).length:Int)).toNat) (z.1,z.2.1,z.2.2.1,i64.wrap (((((sh1.2.pickC (4:Int)).pickC (12:Int)).pickC (↑(dfL v).length:Int)).pickC (4 :
 Int)).pickV (3:Int)-(1:Int)),z.2.2.2.2.1,()))]))))))))) (some (V.agg [V.ref 1 0 (dfL v).length],[some (Blk.box [V.sl (Cd.int .u8) ((sh1.2.pickC (4 :
 Int)).pickC (12:Int)).l,V.j ((sh1.2.pickC (4:Int)).pickC (12:Int)).a,V.i .u64 ((sh1.2.pickC (4:Int)).pickC (12:Int)).s]),R0 NCd (dfL v)])))) (ifT (decide ((sh1.2.pickC (4:Int)).good (900000000:Int))) (ifB ((sh1.2.pickC (4:Int)).pickV (12:Int)==(0:Int)) (ifT (decide
 (((sh1.2.pickC (4:Int)).pickC (12:Int)).good (900000000:Int))) (ifT (decide ((((sh1.2.pickC (4:Int)).pickC (12:Int)).pickC (↑(0:Nat):Int)).good
 (900000000:Int))) (ifB ((((sh1.2.pickC (4:Int)).pickC (12:Int)).pickC (↑(0:Nat):Int)).pickV (4:Int)==(0:Int)) (ifT (decide (((((sh1.2.pickC (4 :
 Int)).pickC (12:Int)).pickC (↑(0:Nat):Int)).pickC (4:Int)).good (80000000:Int))) none) (ifB ((((sh1.2.pickC (4:Int)).pickC (12:Int)).pickC (↑(0:Nat) :
 Int)).pickV (4:Int)==(1:Int)) (ifT (decide (((((sh1.2.pickC (4:Int)).pickC (12:Int)).pickC (↑(0:Nat):Int)).pickC (4:Int)).good (900000000:Int))) none)
 (ifB ((((sh1.2.pickC (4:Int)).pickC (12:Int)).pickC (↑(0:Nat):Int)).pickV (4:Int)==(2:Int)) none (ifT (decide (((((sh1.2.pickC (4:Int)).pickC (12 :
 Int)).pickC (↑(0:Nat):Int)).pickC (4:Int)).good (900000000:Int))) none)))))) (some (V.agg [V.ref 1 0 0],[some (Blk.box [V.sl (Cd.int .u8) ((sh1.2.pickC (4 :
 Int)).pickC (12:Int)).l,V.j ((sh1.2.pickC (4:Int)).pickC (12:Int)).a,V.i .u64 ((sh1.2.pickC (4:Int)).pickC (12:Int)).s]),R0 NCd (Ag NCd.den)])))))) (ifT (decide ((sh1.2.pickC (4:Int)).good (900000000:Int))) (ifB ((sh1.2.pickC (4:Int)).pickV (12:Int)==(0:Int)) (ifT (decide
 (((sh1.2.pickC (4:Int)).pickC (12:Int)).good (900000000:Int))) (ifT (decide ((((sh1.2.pickC (4:Int)).pickC (12:Int)).pickC (↑(Am (Rose.node
 (sh1.1.lab.1,sh1.1.lab.2.1,sh1.1.lab.2.2.1,sh1.1.lab.2.2.2.1,()) (take sh1.1.kids.length (drop 0 sh1.1.kids))) (-1 :
 Int) 0).length:Int)).good (900000000:Int))) (ifB ((((sh1.2.pickC (4:Int)).pickC (12:Int)).pickC (↑(Am (Rose.node (sh1.1.lab.1,
 sh1.1.lab.2.1,sh1.1.lab.2.2.1,sh1.1.lab.2.2.2.1,()) (take sh1.1.kids.length (drop 0 sh1.1.kids))) (-1:Int) (0 :
 Nat)).length:Int)).pickV (4:Int)==(0:Int)) (ifT (decide (((((sh1.2.pickC (4:Int)).pickC (12:Int)).pickC (↑(Am (Rose.node (sh1.1.lab.1,
 sh1.1.lab.2.1,sh1.1.lab.2.2.1,sh1.1.lab.2.2.2.1,()) (take sh1.1.kids.length (drop 0 sh1.1.kids))) (-1:Int) (0 :
 Nat)).length:Int)).pickC (4:Int)).good (80000000:Int))) (ifT (decide ((0:Int)<=((sh1.2.pickC (4:Int)).pickC (12:Int)).pickV (↑(Am (Rose.node
 (sh1.1.lab.1,sh1.1.lab.2.1,sh1.1.lab.2.2.1,sh1.1.lab.2.2.2.1,()) (take sh1.1.kids.length (drop 0 sh1.1.kids))) (-1 :
 Int) 0).length:Int))&&decide (((sh1.2.pickC (4:Int)).pickC (12:Int)).pickV (↑(Am (Rose.node (sh1.1.lab.1,sh1.1.lab.2.1,
 sh1.1.lab.2.2.1,sh1.1.lab.2.2.2.1,()) (take sh1.1.kids.length (drop 0 sh1.1.kids))) (-1:Int) 0).length:Int) <
 (↑(Am (Rose.node (sh1.1.lab.1,sh1.1.lab.2.1,sh1.1.lab.2.2.1,sh1.1.lab.2.2.2.1,()) (take sh1.1.kids.length (drop 0
 sh1.1.kids))) (-1:Int) 0).length:Int))) (An (Am (Rose.node (sh1.1.lab.1,sh1.1.lab.2.1,sh1.1.lab.2.2.1,
 sh1.1.lab.2.2.2.1,()) (take sh1.1.kids.length (drop 0 sh1.1.kids))) (-1:Int) 0)[0+(((sh1.2.pickC (4:Int)).pickC
 (12:Int)).pickV (↑(Am (Rose.node (sh1.1.lab.1,sh1.1.lab.2.1,sh1.1.lab.2.2.1,sh1.1.lab.2.2.2.1,()) (take sh1.1.kids.length
 (drop 0 sh1.1.kids))) (-1:Int) 0).length:Int)).toNat]? fun z=>some (V.agg [V.ref 1 0 (Am (Rose.node (sh1.1.lab.1,sh1.1.lab.2.1,
 sh1.1.lab.2.2.1,sh1.1.lab.2.2.2.1,()) (take sh1.1.kids.length (drop 0 sh1.1.kids))) (-1:Int) 0).length],[some
 (Blk.box [V.sl (Cd.int .u8) (h ((((sh1.2.pickC (4:Int)).pickC (12:Int)).pickC (↑(Am (Rose.node (sh1.1.lab.1,sh1.1.lab.2.1,sh1.1.lab.2.2.1,
 sh1.1.lab.2.2.2.1,()) (take sh1.1.kids.length (drop 0 sh1.1.kids))) (-1:Int) 0).length:Int)).pickC (4:Int))).2.l,V.i
 .i64 (h ((((sh1.2.pickC (4:Int)).pickC (12:Int)).pickC (↑(Am (Rose.node (sh1.1.lab.1,sh1.1.lab.2.1,sh1.1.lab.2.2.1,
 sh1.1.lab.2.2.2.1,()) (take sh1.1.kids.length (drop 0 sh1.1.kids))) (-1:Int) 0).length:Int)).pickC (4:Int))).2.a,V.i
 .u64 (h ((((sh1.2.pickC (4:Int)).pickC (12:Int)).pickC (↑(Am (Rose.node (sh1.1.lab.1,sh1.1.lab.2.1,sh1.1.lab.2.2.1,
 sh1.1.lab.2.2.2.1,()) (take sh1.1.kids.length (drop 0 sh1.1.kids))) (-1:Int) 0).length:Int)).pickC (4:Int))).2.s]),R0 NCd ((Am (Rose.node (sh1.1.lab.1,sh1.1.lab.2.1,sh1.1.lab.2.2.1,sh1.1.lab.2.2.2.1,()) (take sh1.1.kids.length
 (drop 0 sh1.1.kids))) (-1:Int) 0).set (0+(((sh1.2.pickC (4:Int)).pickC (12:Int)).pickV (↑(Am (Rose.node (sh1.1.lab.1,
 sh1.1.lab.2.1,sh1.1.lab.2.2.1,sh1.1.lab.2.2.2.1,()) (take sh1.1.kids.length (drop 0 sh1.1.kids))) (-1:Int) (0 :
 Nat)).length:Int)).toNat) ((h ((((sh1.2.pickC (4:Int)).pickC (12:Int)).pickC (↑(Am (Rose.node (sh1.1.lab.1,sh1.1.lab.2.1,sh1.1.lab.2.2.1,
 sh1.1.lab.2.2.2.1,()) (take sh1.1.kids.length (drop 0 sh1.1.kids))) (-1:Int) 0).length:Int)).pickC (4:Int))).1,
 z.2.1,z.2.2.1,z.2.2.2.1,z.2.2.2.2.1,()))])))) (ifB ((((sh1.2.pickC (4:Int)).pickC (12:Int)).pickC (↑(Am (Rose.node
 (sh1.1.lab.1,sh1.1.lab.2.1,sh1.1.lab.2.2.1,sh1.1.lab.2.2.2.1,()) (take sh1.1.kids.length (drop 0 sh1.1.kids))) (-1 :
 Int) 0).length:Int)).pickV (4:Int)==(1:Int)) (ifT (decide (((((sh1.2.pickC (4:Int)).pickC (12:Int)).pickC (↑(Am (Rose.node (sh1.1.lab.1,
 sh1.1.lab.2.1,sh1.1.lab.2.2.1,sh1.1.lab.2.2.2.1,()) (take sh1.1.kids.length (drop 0 sh1.1.kids))) (-1:Int) (0 :
 Nat)).length:Int)).pickC (4:Int)).good (900000000:Int))) (ifT (decide ((0:Int)<=((sh1.2.pickC (4:Int)).pickC (12:Int)).pickV (↑(Am (Rose.node
 (sh1.1.lab.1,sh1.1.lab.2.1,sh1.1.lab.2.2.1,sh1.1.lab.2.2.2.1,()) (take sh1.1.kids.length (drop 0 sh1.1.kids))) (-1 :
 Int) 0).length:Int))&&decide (((sh1.2.pickC (4:Int)).pickC (12:Int)).pickV (↑(Am (Rose.node (sh1.1.lab.1,sh1.1.lab.2.1,
 sh1.1.lab.2.2.1,sh1.1.lab.2.2.2.1,()) (take sh1.1.kids.length (drop 0 sh1.1.kids))) (-1:Int) 0).length:Int) <
 (↑(Am (Rose.node (sh1.1.lab.1,sh1.1.lab.2.1,sh1.1.lab.2.2.1,sh1.1.lab.2.2.2.1,()) (take sh1.1.kids.length (drop 0
 sh1.1.kids))) (-1:Int) 0).length:Int))) (An (Am (Rose.node (sh1.1.lab.1,sh1.1.lab.2.1,sh1.1.lab.2.2.1,
 sh1.1.lab.2.2.2.1,()) (take sh1.1.kids.length (drop 0 sh1.1.kids))) (-1:Int) 0)[0+(((sh1.2.pickC (4:Int)).pickC
 (12:Int)).pickV (↑(Am (Rose.node (sh1.1.lab.1,sh1.1.lab.2.1,sh1.1.lab.2.2.1,sh1.1.lab.2.2.2.1,()) (take sh1.1.kids.length
 (drop 0 sh1.1.kids))) (-1:Int) 0).length:Int)).toNat]? fun z=>some (V.agg [V.ref 1 0 (Am (Rose.node (sh1.1.lab.1,sh1.1.lab.2.1,
 sh1.1.lab.2.2.1,sh1.1.lab.2.2.2.1,()) (take sh1.1.kids.length (drop 0 sh1.1.kids))) (-1:Int) 0).length],[some
 (Blk.box [V.sl (Cd.int .u8) (((((sh1.2.pickC (4:Int)).pickC (12:Int)).pickC (↑(Am (Rose.node (sh1.1.lab.1,sh1.1.lab.2.1,sh1.1.lab.2.2.1,
 sh1.1.lab.2.2.2.1,()) (take sh1.1.kids.length (drop 0 sh1.1.kids))) (-1:Int) 0).length:Int)).pickC (4:Int)).pickC (5 :
 Int)).l,V.j (((((sh1.2.pickC (4:Int)).pickC (12:Int)).pickC (↑(Am (Rose.node (sh1.1.lab.1,sh1.1.lab.2.1,sh1.1.lab.2.2.1,
 sh1.1.lab.2.2.2.1,()) (take sh1.1.kids.length (drop 0 sh1.1.kids))) (-1:Int) 0).length:Int)).pickC (4:Int)).pickC (5 :
 Int)).a,V.i .u64 (((((sh1.2.pickC (4:Int)).pickC (12:Int)).pickC (↑(Am (Rose.node (sh1.1.lab.1,sh1.1.lab.2.1,sh1.1.lab.2.2.1,
 sh1.1.lab.2.2.2.1,()) (take sh1.1.kids.length (drop 0 sh1.1.kids))) (-1:Int) 0).length:Int)).pickC (4:Int)).pickC (5 :
 Int)).s]),R0 NCd ((Am (Rose.node (sh1.1.lab.1,sh1.1.lab.2.1,sh1.1.lab.2.2.1,sh1.1.lab.2.2.2.1,()) (take
 sh1.1.kids.length (drop 0 sh1.1.kids))) (-1:Int) 0).set (0+(((sh1.2.pickC (4:Int)).pickC (12:Int)).pickV (↑(Am (Rose.node
 (sh1.1.lab.1,sh1.1.lab.2.1,sh1.1.lab.2.2.1,sh1.1.lab.2.2.2.1,()) (take sh1.1.kids.length (drop 0 sh1.1.kids))) (-1 :
 Int) 0).length:Int)).toNat) (z.1,z.2.1,((((sh1.2.pickC (4:Int)).pickC (12:Int)).pickC (↑(Am (Rose.node (sh1.1.lab.1,sh1.1.lab.2.1,
 sh1.1.lab.2.2.1,sh1.1.lab.2.2.2.1,()) (take sh1.1.kids.length (drop 0 sh1.1.kids))) (-1:Int) 0).length:Int)).pickC
 (4:Int)).pickV (5:Int),z.2.2.2.1,z.2.2.2.2.1,()))])))) (ifB ((((sh1.2.pickC (4:Int)).pickC (12:Int)).pickC (↑(Am (Rose.node
 (sh1.1.lab.1,sh1.1.lab.2.1,sh1.1.lab.2.2.1,sh1.1.lab.2.2.2.1,()) (take sh1.1.kids.length (drop 0 sh1.1.kids))) (-1 :
 Int) 0).length:Int)).pickV (4:Int)==(2:Int)) (ifT (decide ((0:Int)<=((sh1.2.pickC (4:Int)).pickC (12:Int)).pickV (↑(Am (Rose.node
 (sh1.1.lab.1,sh1.1.lab.2.1,sh1.1.lab.2.2.1,sh1.1.lab.2.2.2.1,()) (take sh1.1.kids.length (drop 0 sh1.1.kids))) (-1 :
 Int) 0).length:Int))&&decide (((sh1.2.pickC (4:Int)).pickC (12:Int)).pickV (↑(Am (Rose.node (sh1.1.lab.1,sh1.1.lab.2.1,
 sh1.1.lab.2.2.1,sh1.1.lab.2.2.2.1,()) (take sh1.1.kids.length (drop 0 sh1.1.kids))) (-1:Int) 0).length:Int) <
 (↑(Am (Rose.node (sh1.1.lab.1,sh1.1.lab.2.1,sh1.1.lab.2.2.1,sh1.1.lab.2.2.2.1,()) (take sh1.1.kids.length (drop 0
 sh1.1.kids))) (-1:Int) 0).length:Int))) (An (Am (Rose.node (sh1.1.lab.1,sh1.1.lab.2.1,sh1.1.lab.2.2.1,
 sh1.1.lab.2.2.2.1,()) (take sh1.1.kids.length (drop 0 sh1.1.kids))) (-1:Int) 0)[0+(((sh1.2.pickC (4:Int)).pickC
 (12:Int)).pickV (↑(Am (Rose.node (sh1.1.lab.1,sh1.1.lab.2.1,sh1.1.lab.2.2.1,sh1.1.lab.2.2.2.1,()) (take sh1.1.kids.length
 (drop 0 sh1.1.kids))) (-1:Int) 0).length:Int)).toNat]? fun z=>ifT (decide ((0:Int)<=((sh1.2.pickC (4:Int)).pickC (12:Int)).pickV
 (↑(Am (Rose.node (sh1.1.lab.1,sh1.1.lab.2.1,sh1.1.lab.2.2.1,sh1.1.lab.2.2.2.1,()) (take sh1.1.kids.length (drop 0
 sh1.1.kids))) (-1:Int) 0).length:Int))&&decide (((sh1.2.pickC (4:Int)).pickC (12:Int)).pickV (↑(Am (Rose.node (sh1.1.lab.1,
 sh1.1.lab.2.1,sh1.1.lab.2.2.1,sh1.1.lab.2.2.2.1,()) (take sh1.1.kids.length (drop 0 sh1.1.kids))) (-1:Int) (0 :
 Nat)).length:Int)<(↑(Am (Rose.node (sh1.1.lab.1,sh1.1.lab.2.1,sh1.1.lab.2.2.1,sh1.1.lab.2.2.2.1,()) (take sh1.1.kids.length
 (drop 0 sh1.1.kids))) (-1:Int) 0).length:Int))) (An (Am (Rose.node (sh1.1.lab.1,sh1.1.lab.2.1,sh1.1.lab.2.2.1,
 sh1.1.lab.2.2.2.1,()) (take sh1.1.kids.length (drop 0 sh1.1.kids))) (-1:Int) 0)[0+(((sh1.2.pickC (4:Int)).pickC
 (12:Int)).pickV (↑(Am (Rose.node (sh1.1.lab.1,sh1.1.lab.2.1,sh1.1.lab.2.2.1,sh1.1.lab.2.2.2.1,()) (take sh1.1.kids.length
 (drop 0 sh1.1.kids))) (-1:Int) 0).length:Int)).toNat]? fun z_1=>some (V.agg [V.ref 1 0 (Am (Rose.node (sh1.1.lab.1,
 sh1.1.lab.2.1,sh1.1.lab.2.2.1,sh1.1.lab.2.2.2.1,()) (take sh1.1.kids.length (drop 0 sh1.1.kids))) (-1:Int) (0 :
 Nat)).length],[some (Blk.box [V.sl (Cd.int .u8) ((((sh1.2.pickC (4:Int)).pickC (12:Int)).pickC (↑(Am (Rose.node (sh1.1.lab.1,sh1.1.lab.2.1,
 sh1.1.lab.2.2.1,sh1.1.lab.2.2.2.1,()) (take sh1.1.kids.length (drop 0 sh1.1.kids))) (-1:Int) 0).length:Int)).pickC
 (4:Int)).l,V.j ((((sh1.2.pickC (4:Int)).pickC (12:Int)).pickC (↑(Am (Rose.node (sh1.1.lab.1,sh1.1.lab.2.1,sh1.1.lab.2.2.1,
 sh1.1.lab.2.2.2.1,()) (take sh1.1.kids.length (drop 0 sh1.1.kids))) (-1:Int) 0).length:Int)).pickC (4:Int)).a,V.i .u64
 ((((sh1.2.pickC (4:Int)).pickC (12:Int)).pickC (↑(Am (Rose.node (sh1.1.lab.1,sh1.1.lab.2.1,sh1.1.lab.2.2.1,sh1.1.lab.2.2.2.1,())
 (take sh1.1.kids.length (drop 0 sh1.1.kids))) (-1:Int) 0).length:Int)).pickC (4:Int)).s]),R0 NCd ((Am
 (Rose.node (sh1.1.lab.1,sh1.1.lab.2.1,sh1.1.lab.2.2.1,sh1.1.lab.2.2.2.1,()) (take sh1.1.kids.length (drop 0
 sh1.1.kids))) (-1:Int) 0).set (0+(((sh1.2.pickC (4:Int)).pickC (12:Int)).pickV (↑(Am (Rose.node (sh1.1.lab.1,sh1.1.lab.2.1,
 sh1.1.lab.2.2.1,sh1.1.lab.2.2.2.1,()) (take sh1.1.kids.length (drop 0 sh1.1.kids))) (-1:Int) 0).length:Int)).toNat)
 (z_1.1,z_1.2.1,z_1.2.2.1,z_1.2.2.2.1,!z.2.2.2.2.1,()))])))) (ifT (decide (((((sh1.2.pickC (4:Int)).pickC (12:Int)).pickC
 (↑(Am (Rose.node (sh1.1.lab.1,sh1.1.lab.2.1,sh1.1.lab.2.2.1,sh1.1.lab.2.2.2.1,()) (take sh1.1.kids.length (drop 0
 sh1.1.kids))) (-1:Int) 0).length:Int)).pickC (4:Int)).good (900000000:Int))) (ifT (decide ((0:Int)<=((sh1.2.pickC (4:Int)).pickC (12 :
 Int)).pickV (↑(Am (Rose.node (sh1.1.lab.1,sh1.1.lab.2.1,sh1.1.lab.2.2.1,sh1.1.lab.2.2.2.1,()) (take sh1.1.kids.length (drop
 0 sh1.1.kids))) (-1:Int) 0).length:Int))&&decide (((sh1.2.pickC (4:Int)).pickC (12:Int)).pickV (↑(Am (Rose.node (sh1.1.lab.1,
 sh1.1.lab.2.1,sh1.1.lab.2.2.1,sh1.1.lab.2.2.2.1,()) (take sh1.1.kids.length (drop 0 sh1.1.kids))) (-1:Int) (0 :
 Nat)).length:Int)<(↑(Am (Rose.node (sh1.1.lab.1,sh1.1.lab.2.1,sh1.1.lab.2.2.1,sh1.1.lab.2.2.2.1,()) (take sh1.1.kids.length
 (drop 0 sh1.1.kids))) (-1:Int) 0).length:Int))) (An (Am (Rose.node (sh1.1.lab.1,sh1.1.lab.2.1,sh1.1.lab.2.2.1,
 sh1.1.lab.2.2.2.1,()) (take sh1.1.kids.length (drop 0 sh1.1.kids))) (-1:Int) 0)[0+(((sh1.2.pickC (4:Int)).pickC
 (12:Int)).pickV (↑(Am (Rose.node (sh1.1.lab.1,sh1.1.lab.2.1,sh1.1.lab.2.2.1,sh1.1.lab.2.2.2.1,()) (take sh1.1.kids.length
 (drop 0 sh1.1.kids))) (-1:Int) 0).length:Int)).toNat]? fun z=>some (V.agg [V.ref 1 0 (Am (Rose.node (sh1.1.lab.1,sh1.1.lab.2.1,
 sh1.1.lab.2.2.1,sh1.1.lab.2.2.2.1,()) (take sh1.1.kids.length (drop 0 sh1.1.kids))) (-1:Int) 0).length],[some
 (Blk.box [V.sl (Cd.int .u8) (((((sh1.2.pickC (4:Int)).pickC (12:Int)).pickC (↑(Am (Rose.node (sh1.1.lab.1,sh1.1.lab.2.1,sh1.1.lab.2.2.1,
 sh1.1.lab.2.2.2.1,()) (take sh1.1.kids.length (drop 0 sh1.1.kids))) (-1:Int) 0).length:Int)).pickC (4:Int)).pickC (3 :
 Int)).l,V.j (((((sh1.2.pickC (4:Int)).pickC (12:Int)).pickC (↑(Am (Rose.node (sh1.1.lab.1,sh1.1.lab.2.1,sh1.1.lab.2.2.1,
 sh1.1.lab.2.2.2.1,()) (take sh1.1.kids.length (drop 0 sh1.1.kids))) (-1:Int) 0).length:Int)).pickC (4:Int)).pickC (3 :
 Int)).a,V.i .u64 (((((sh1.2.pickC (4:Int)).pickC (12:Int)).pickC (↑(Am (Rose.node (sh1.1.lab.1,sh1.1.lab.2.1,sh1.1.lab.2.2.1,
 sh1.1.lab.2.2.2.1,()) (take sh1.1.kids.length (drop 0 sh1.1.kids))) (-1:Int) 0).length:Int)).pickC (4:Int)).pickC (3 :
 Int)).s]),R0 NCd ((Am (Rose.node (sh1.1.lab.1,sh1.1.lab.2.1,sh1.1.lab.2.2.1,sh1.1.lab.2.2.2.1,()) (take
 sh1.1.kids.length (drop 0 sh1.1.kids))) (-1:Int) 0).set (0+(((sh1.2.pickC (4:Int)).pickC (12:Int)).pickV (↑(Am (Rose.node
 (sh1.1.lab.1,sh1.1.lab.2.1,sh1.1.lab.2.2.1,sh1.1.lab.2.2.2.1,()) (take sh1.1.kids.length (drop 0 sh1.1.kids))) (-1 :
 Int) 0).length:Int)).toNat) (z.1,z.2.1,z.2.2.1,i64.wrap (((((sh1.2.pickC (4:Int)).pickC (12:Int)).pickC (↑(Am (Rose.node
 (sh1.1.lab.1,sh1.1.lab.2.1,sh1.1.lab.2.2.1,sh1.1.lab.2.2.2.1,()) (take sh1.1.kids.length (drop 0 sh1.1.kids))) (-1 :
 Int) 0).length:Int)).pickC (4:Int)).pickV (3:Int)-(1:Int)),z.2.2.2.2.1,()))]))))))))) (some (V.agg [V.ref 1 0 (Am (Rose.node
 (sh1.1.lab.1,sh1.1.lab.2.1,sh1.1.lab.2.2.1,sh1.1.lab.2.2.2.1,()) (take sh1.1.kids.length (drop 0 sh1.1.kids))) (-1 :
 Int) 0).length],[some (Blk.box [V.sl (Cd.int .u8) ((sh1.2.pickC (4:Int)).pickC (12:Int)).l,V.j ((sh1.2.pickC (4:Int)).pickC (12:Int)).a,V.i
 .u64 ((sh1.2.pickC (4:Int)).pickC (12:Int)).s]),R0 NCd (Am (Rose.node (sh1.1.lab.1,sh1.1.lab.2.1,sh1.1.lab.2.2.1,
 sh1.1.lab.2.2.2.1,()) (take sh1.1.kids.length (drop 0 sh1.1.kids))) (-1:Int) 0)])))))) (ifT (decide (sh1.2.good (900000000 :
 Int))) (ifB (sh1.2.pickV (12:Int)==(0:Int)) (ifT (decide ((sh1.2.pickC (12:Int)).good (900000000:Int))) (ifT (decide (((sh1.2.pickC (12:Int)).pickC
 (↑(Am (Rose.node (sh1.1.lab.1,sh1.1.lab.2.1,sh1.1.lab.2.2.1,sh1.1.lab.2.2.2.1,()) (take sh1.1.kids.length (drop 0
 sh1.1.kids))) (-1:Int) 0).length:Int)).good (900000000:Int))) (ifB (((sh1.2.pickC (12:Int)).pickC (↑(Am (Rose.node (sh1.1.lab.1,
 sh1.1.lab.2.1,sh1.1.lab.2.2.1,sh1.1.lab.2.2.2.1,()) (take sh1.1.kids.length (drop 0 sh1.1.kids))) (-1:Int) (0 :
 Nat)).length:Int)).pickV (4:Int)==(0:Int)) (ifT (decide ((((sh1.2.pickC (12:Int)).pickC (↑(Am (Rose.node (sh1.1.lab.1,sh1.1.lab.2.1,
 sh1.1.lab.2.2.1,sh1.1.lab.2.2.2.1,()) (take sh1.1.kids.length (drop 0 sh1.1.kids))) (-1:Int) 0).length:Int)).pickC
 (4:Int)).good (80000000:Int))) (ifT (decide ((0:Int)<=(sh1.2.pickC (12:Int)).pickV (↑(Am (Rose.node (sh1.1.lab.1,sh1.1.lab.2.1,
 sh1.1.lab.2.2.1,sh1.1.lab.2.2.2.1,()) (take sh1.1.kids.length (drop 0 sh1.1.kids))) (-1:Int) 0).length:Int))&&
 decide ((sh1.2.pickC (12:Int)).pickV (↑(Am (Rose.node (sh1.1.lab.1,sh1.1.lab.2.1,sh1.1.lab.2.2.1,sh1.1.lab.2.2.2.1,()) (take
 sh1.1.kids.length (drop 0 sh1.1.kids))) (-1:Int) 0).length:Int)<(↑(Am (Rose.node (sh1.1.lab.1,sh1.1.lab.2.1,
 sh1.1.lab.2.2.1,sh1.1.lab.2.2.2.1,()) (take sh1.1.kids.length (drop 0 sh1.1.kids))) (-1:Int) 0).length:Int)))
 (An (Am (Rose.node (sh1.1.lab.1,sh1.1.lab.2.1,sh1.1.lab.2.2.1,sh1.1.lab.2.2.2.1,()) (take sh1.1.kids.length (drop (0 :
 Nat) sh1.1.kids))) (-1:Int) 0)[0+((sh1.2.pickC (12:Int)).pickV (↑(Am (Rose.node (sh1.1.lab.1,sh1.1.lab.2.1,
 sh1.1.lab.2.2.1,sh1.1.lab.2.2.2.1,()) (take sh1.1.kids.length (drop 0 sh1.1.kids))) (-1:Int) 0).length:Int)).toNat]?
 fun z=>some (V.agg [V.ref 1 0 (Am (Rose.node (sh1.1.lab.1,sh1.1.lab.2.1,sh1.1.lab.2.2.1,sh1.1.lab.2.2.2.1,()) (take
 sh1.1.kids.length (drop 0 sh1.1.kids))) (-1:Int) 0).length],[some (Blk.box [V.sl (Cd.int .u8) (h (((sh1.2.pickC (12:Int)).pickC (↑(Am
 (Rose.node (sh1.1.lab.1,sh1.1.lab.2.1,sh1.1.lab.2.2.1,sh1.1.lab.2.2.2.1,()) (take sh1.1.kids.length (drop 0
 sh1.1.kids))) (-1:Int) 0).length:Int)).pickC (4:Int))).2.l,V.j (h (((sh1.2.pickC (12:Int)).pickC (↑(Am (Rose.node (sh1.1.lab.1,
 sh1.1.lab.2.1,sh1.1.lab.2.2.1,sh1.1.lab.2.2.2.1,()) (take sh1.1.kids.length (drop 0 sh1.1.kids))) (-1:Int) (0 :
 Nat)).length:Int)).pickC (4:Int))).2.a,V.i .u64 (h (((sh1.2.pickC (12:Int)).pickC (↑(Am (Rose.node (sh1.1.lab.1,sh1.1.lab.2.1,
 sh1.1.lab.2.2.1,sh1.1.lab.2.2.2.1,()) (take sh1.1.kids.length (drop 0 sh1.1.kids))) (-1:Int) 0).length:Int)).pickC
 (4:Int))).2.s]),R0 NCd ((Am (Rose.node (sh1.1.lab.1,sh1.1.lab.2.1,sh1.1.lab.2.2.1,sh1.1.lab.2.2.2.1,())
 (take sh1.1.kids.length (drop 0 sh1.1.kids))) (-1:Int) 0).set (0+((sh1.2.pickC (12:Int)).pickV (↑(Am (Rose.node
 (sh1.1.lab.1,sh1.1.lab.2.1,sh1.1.lab.2.2.1,sh1.1.lab.2.2.2.1,()) (take sh1.1.kids.length (drop 0 sh1.1.kids))) (-1 :
 Int) 0).length:Int)).toNat) ((h (((sh1.2.pickC (12:Int)).pickC (↑(Am (Rose.node (sh1.1.lab.1,sh1.1.lab.2.1,sh1.1.lab.2.2.1,
 sh1.1.lab.2.2.2.1,()) (take sh1.1.kids.length (drop 0 sh1.1.kids))) (-1:Int) 0).length:Int)).pickC (4:Int))).1,
 z.2.1,z.2.2.1,z.2.2.2.1,z.2.2.2.2.1,()))])))) (ifB (((sh1.2.pickC (12:Int)).pickC (↑(Am (Rose.node (sh1.1.lab.1,
 sh1.1.lab.2.1,sh1.1.lab.2.2.1,sh1.1.lab.2.2.2.1,()) (take sh1.1.kids.length (drop 0 sh1.1.kids))) (-1:Int) (0 :
 Nat)).length:Int)).pickV (4:Int)==(1:Int)) (ifT (decide ((((sh1.2.pickC (12:Int)).pickC (↑(Am (Rose.node (sh1.1.lab.1,sh1.1.lab.2.1,
 sh1.1.lab.2.2.1,sh1.1.lab.2.2.2.1,()) (take sh1.1.kids.length (drop 0 sh1.1.kids))) (-1:Int) 0).length:Int)).pickC
 (4:Int)).good (900000000:Int))) (ifT (decide ((0:Int)<=(sh1.2.pickC (12:Int)).pickV (↑(Am (Rose.node (sh1.1.lab.1,sh1.1.lab.2.1,
 sh1.1.lab.2.2.1,sh1.1.lab.2.2.2.1,()) (take sh1.1.kids.length (drop 0 sh1.1.kids))) (-1:Int) 0).length:Int))&&
 decide ((sh1.2.pickC (12:Int)).pickV (↑(Am (Rose.node (sh1.1.lab.1,sh1.1.lab.2.1,sh1.1.lab.2.2.1,sh1.1.lab.2.2.2.1,()) (take
 sh1.1.kids.length (drop 0 sh1.1.kids))) (-1:Int) 0).length:Int)<(↑(Am (Rose.node (sh1.1.lab.1,sh1.1.lab.2.1,
 sh1.1.lab.2.2.1,sh1.1.lab.2.2.2.1,()) (take sh1.1.kids.length (drop 0 sh1.1.kids))) (-1:Int) 0).length:Int)))
 (An (Am (Rose.node (sh1.1.lab.1,sh1.1.lab.2.1,sh1.1.lab.2.2.1,sh1.1.lab.2.2.2.1,()) (take sh1.1.kids.length (drop (0 :
 Nat) sh1.1.kids))) (-1:Int) 0)[0+((sh1.2.pickC (12:Int)).pickV (↑(Am (Rose.node (sh1.1.lab.1,sh1.1.lab.2.1,
 sh1.1.lab.2.2.1,sh1.1.lab.2.2.2.1,()) (take sh1.1.kids.length (drop 0 sh1.1.kids))) (-1:Int) 0).length:Int)).toNat]?
 fun z=>some (V.agg [V.ref 1 0 (Am (Rose.node (sh1.1.lab.1,sh1.1.lab.2.1,sh1.1.lab.2.2.1,sh1.1.lab.2.2.2.1,()) (take
 sh1.1.kids.length (drop 0 sh1.1.kids))) (-1:Int) 0).length],[some (Blk.box [V.sl (Cd.int .u8) ((((sh1.2.pickC (12:Int)).pickC (↑(Am
 (Rose.node (sh1.1.lab.1,sh1.1.lab.2.1,sh1.1.lab.2.2.1,sh1.1.lab.2.2.2.1,()) (take sh1.1.kids.length (drop 0
 sh1.1.kids))) (-1:Int) 0).length:Int)).pickC (4:Int)).pickC (5:Int)).l,V.j ((((sh1.2.pickC (12:Int)).pickC (↑(Am (Rose.node
 (sh1.1.lab.1,sh1.1.lab.2.1,sh1.1.lab.2.2.1,sh1.1.lab.2.2.2.1,()) (take sh1.1.kids.length (drop 0 sh1.1.kids))) (-1 :
 Int) 0).length:Int)).pickC (4:Int)).pickC (5:Int)).a,V.i .u64 ((((sh1.2.pickC (12:Int)).pickC (↑(Am (Rose.node (sh1.1.lab.1,
 sh1.1.lab.2.1,sh1.1.lab.2.2.1,sh1.1.lab.2.2.2.1,()) (take sh1.1.kids.length (drop 0 sh1.1.kids))) (-1:Int) (0 :
 Nat)).length:Int)).pickC (4:Int)).pickC (5:Int)).s]),R0 NCd ((Am (Rose.node (sh1.1.lab.1,sh1.1.lab.2.1,
 sh1.1.lab.2.2.1,sh1.1.lab.2.2.2.1,()) (take sh1.1.kids.length (drop 0 sh1.1.kids))) (-1:Int) 0).set (0 +
 ((sh1.2.pickC (12:Int)).pickV (↑(Am (Rose.node (sh1.1.lab.1,sh1.1.lab.2.1,sh1.1.lab.2.2.1,sh1.1.lab.2.2.2.1,()) (take
 sh1.1.kids.length (drop 0 sh1.1.kids))) (-1:Int) 0).length:Int)).toNat) (z.1,z.2.1,(((sh1.2.pickC (12:Int)).pickC (↑(Am
 (Rose.node (sh1.1.lab.1,sh1.1.lab.2.1,sh1.1.lab.2.2.1,sh1.1.lab.2.2.2.1,()) (take sh1.1.kids.length (drop 0
 sh1.1.kids))) (-1:Int) 0).length:Int)).pickC (4:Int)).pickV (5:Int),z.2.2.2.1,z.2.2.2.2.1,()))])))) (ifB (((sh1.2.pickC (12 :
 Int)).pickC (↑(Am (Rose.node (sh1.1.lab.1,sh1.1.lab.2.1,sh1.1.lab.2.2.1,sh1.1.lab.2.2.2.1,()) (take sh1.1.kids.length (drop
 0 sh1.1.kids))) (-1:Int) 0).length:Int)).pickV (4:Int)==(2:Int)) (ifT (decide ((0:Int)<=(sh1.2.pickC (12:Int)).pickV (↑(Am
 (Rose.node (sh1.1.lab.1,sh1.1.lab.2.1,sh1.1.lab.2.2.1,sh1.1.lab.2.2.2.1,()) (take sh1.1.kids.length (drop 0
 sh1.1.kids))) (-1:Int) 0).length:Int))&&decide ((sh1.2.pickC (12:Int)).pickV (↑(Am (Rose.node (sh1.1.lab.1,sh1.1.lab.2.1,
 sh1.1.lab.2.2.1,sh1.1.lab.2.2.2.1,()) (take sh1.1.kids.length (drop 0 sh1.1.kids))) (-1:Int) 0).length:Int) <
 (↑(Am (Rose.node (sh1.1.lab.1,sh1.1.lab.2.1,sh1.1.lab.2.2.1,sh1.1.lab.2.2.2.1,()) (take sh1.1.kids.length (drop 0
 sh1.1.kids))) (-1:Int) 0).length:Int))) (An (Am (Rose.node (sh1.1.lab.1,sh1.1.lab.2.1,sh1.1.lab.2.2.1,
 sh1.1.lab.2.2.2.1,()) (take sh1.1.kids.length (drop 0 sh1.1.kids))) (-1:Int) 0)[0+((sh1.2.pickC (12:Int)).pickV
 (↑(Am (Rose.node (sh1.1.lab.1,sh1.1.lab.2.1,sh1.1.lab.2.2.1,sh1.1.lab.2.2.2.1,()) (take sh1.1.kids.length (drop 0
 sh1.1.kids))) (-1:Int) 0).length:Int)).toNat]? fun z=>ifT (decide ((0:Int)<=(sh1.2.pickC (12:Int)).pickV (↑(Am (Rose.node (sh1.1.lab.1,
 sh1.1.lab.2.1,sh1.1.lab.2.2.1,sh1.1.lab.2.2.2.1,()) (take sh1.1.kids.length (drop 0 sh1.1.kids))) (-1:Int) (0 :
 Nat)).length:Int))&&decide ((sh1.2.pickC (12:Int)).pickV (↑(Am (Rose.node (sh1.1.lab.1,sh1.1.lab.2.1,sh1.1.lab.2.2.1,
 sh1.1.lab.2.2.2.1,()) (take sh1.1.kids.length (drop 0 sh1.1.kids))) (-1:Int) 0).length:Int)<(↑(Am (Rose.node
 (sh1.1.lab.1,sh1.1.lab.2.1,sh1.1.lab.2.2.1,sh1.1.lab.2.2.2.1,()) (take sh1.1.kids.length (drop 0 sh1.1.kids))) (-1 :
 Int) 0).length:Int))) (An (Am (Rose.node (sh1.1.lab.1,sh1.1.lab.2.1,sh1.1.lab.2.2.1,sh1.1.lab.2.2.2.1,()) (take
 sh1.1.kids.length (drop 0 sh1.1.kids))) (-1:Int) 0)[0+((sh1.2.pickC (12:Int)).pickV (↑(Am (Rose.node (sh1.1.lab.1,
 sh1.1.lab.2.1,sh1.1.lab.2.2.1,sh1.1.lab.2.2.2.1,()) (take sh1.1.kids.length (drop 0 sh1.1.kids))) (-1:Int) (0 :
 Nat)).length:Int)).toNat]? fun z_1=>some (V.agg [V.ref 1 0 (Am (Rose.node (sh1.1.lab.1,sh1.1.lab.2.1,sh1.1.lab.2.2.1,
 sh1.1.lab.2.2.2.1,()) (take sh1.1.kids.length (drop 0 sh1.1.kids))) (-1:Int) 0).length],[some (Blk.box [V.sl (Cd.int .u8)
 (((sh1.2.pickC (12:Int)).pickC (↑(Am (Rose.node (sh1.1.lab.1,sh1.1.lab.2.1,sh1.1.lab.2.2.1,sh1.1.lab.2.2.2.1,()) (take
 sh1.1.kids.length (drop 0 sh1.1.kids))) (-1:Int) 0).length:Int)).pickC (4:Int)).l,V.j (((sh1.2.pickC (12:Int)).pickC (↑(Am
 (Rose.node (sh1.1.lab.1,sh1.1.lab.2.1,sh1.1.lab.2.2.1,sh1.1.lab.2.2.2.1,()) (take sh1.1.kids.length (drop 0
 sh1.1.kids))) (-1:Int) 0).length:Int)).pickC (4:Int)).a,V.i .u64 (((sh1.2.pickC (12:Int)).pickC (↑(Am (Rose.node (sh1.1.lab.1,
 sh1.1.lab.2.1,sh1.1.lab.2.2.1,sh1.1.lab.2.2.2.1,()) (take sh1.1.kids.length (drop 0 sh1.1.kids))) (-1:Int) (0 :
 Nat)).length:Int)).pickC (4:Int)).s]),R0 NCd ((Am (Rose.node (sh1.1.lab.1,sh1.1.lab.2.1,sh1.1.lab.2.2.1,
 sh1.1.lab.2.2.2.1,()) (take sh1.1.kids.length (drop 0 sh1.1.kids))) (-1:Int) 0).set (0+((sh1.2.pickC (12 :
 Int)).pickV (↑(Am (Rose.node (sh1.1.lab.1,sh1.1.lab.2.1,sh1.1.lab.2.2.1,sh1.1.lab.2.2.2.1,()) (take sh1.1.kids.length (drop
 0 sh1.1.kids))) (-1:Int) 0).length:Int)).toNat) (z_1.1,z_1.2.1,z_1.2.2.1,z_1.2.2.2.1,!z.2.2.2.2.1,()))])))) (ifT
 (decide ((((sh1.2.pickC (12:Int)).pickC (↑(Am (Rose.node (sh1.1.lab.1,sh1.1.lab.2.1,sh1.1.lab.2.2.1,sh1.1.lab.2.2.2.1,())
 (take sh1.1.kids.length (drop 0 sh1.1.kids))) (-1:Int) 0).length:Int)).pickC (4:Int)).good (900000000:Int))) (ifT (decide ((0:Int)
 <= (sh1.2.pickC (12:Int)).pickV (↑(Am (Rose.node (sh1.1.lab.1,sh1.1.lab.2.1,sh1.1.lab.2.2.1,sh1.1.lab.2.2.2.1,()) (take
 sh1.1.kids.length (drop 0 sh1.1.kids))) (-1:Int) 0).length:Int))&&decide ((sh1.2.pickC (12:Int)).pickV (↑(Am (Rose.node
 (sh1.1.lab.1,sh1.1.lab.2.1,sh1.1.lab.2.2.1,sh1.1.lab.2.2.2.1,()) (take sh1.1.kids.length (drop 0 sh1.1.kids))) (-1 :
 Int) 0).length:Int)<(↑(Am (Rose.node (sh1.1.lab.1,sh1.1.lab.2.1,sh1.1.lab.2.2.1,sh1.1.lab.2.2.2.1,()) (take
 sh1.1.kids.length (drop 0 sh1.1.kids))) (-1:Int) 0).length:Int))) (An (Am (Rose.node (sh1.1.lab.1,sh1.1.lab.2.1,
 sh1.1.lab.2.2.1,sh1.1.lab.2.2.2.1,()) (take sh1.1.kids.length (drop 0 sh1.1.kids))) (-1:Int) 0)[0 +
 ((sh1.2.pickC (12:Int)).pickV (↑(Am (Rose.node (sh1.1.lab.1,sh1.1.lab.2.1,sh1.1.lab.2.2.1,sh1.1.lab.2.2.2.1,()) (take
 sh1.1.kids.length (drop 0 sh1.1.kids))) (-1:Int) 0).length:Int)).toNat]? fun z=>some (V.agg [V.ref 1 0 (Am (Rose.node (sh1.1.lab.1,
 sh1.1.lab.2.1,sh1.1.lab.2.2.1,sh1.1.lab.2.2.2.1,()) (take sh1.1.kids.length (drop 0 sh1.1.kids))) (-1:Int) (0 :
 Nat)).length],[some (Blk.box [V.sl (Cd.int .u8) ((((sh1.2.pickC (12:Int)).pickC (↑(Am (Rose.node (sh1.1.lab.1,sh1.1.lab.2.1,sh1.1.lab.2.2.1,
 sh1.1.lab.2.2.2.1,()) (take sh1.1.kids.length (drop 0 sh1.1.kids))) (-1:Int) 0).length:Int)).pickC (4:Int)).pickC (3 :
 Int)).l,V.j ((((sh1.2.pickC (12:Int)).pickC (↑(Am (Rose.node (sh1.1.lab.1,sh1.1.lab.2.1,sh1.1.lab.2.2.1,sh1.1.lab.2.2.2.1,())
 (take sh1.1.kids.length (drop 0 sh1.1.kids))) (-1:Int) 0).length:Int)).pickC (4:Int)).pickC (3:Int)).a,V.i .u64 ((((sh1.2.pickC
 (12:Int)).pickC (↑(Am (Rose.node (sh1.1.lab.1,sh1.1.lab.2.1,sh1.1.lab.2.2.1,sh1.1.lab.2.2.2.1,()) (take sh1.1.kids.length
 (drop 0 sh1.1.kids))) (-1:Int) 0).length:Int)).pickC (4:Int)).pickC (3:Int)).s]),R0 NCd ((Am (Rose.node
 (sh1.1.lab.1,sh1.1.lab.2.1,sh1.1.lab.2.2.1,sh1.1.lab.2.2.2.1,()) (take sh1.1.kids.length (drop 0 sh1.1.kids))) (-1 :
 Int) 0).set (0+((sh1.2.pickC (12:Int)).pickV (↑(Am (Rose.node (sh1.1.lab.1,sh1.1.lab.2.1,sh1.1.lab.2.2.1,
 sh1.1.lab.2.2.2.1,()) (take sh1.1.kids.length (drop 0 sh1.1.kids))) (-1:Int) 0).length:Int)).toNat) (z.1,z.2.1,
 z.2.2.1,i64.wrap ((((sh1.2.pickC (12:Int)).pickC (↑(Am (Rose.node (sh1.1.lab.1,sh1.1.lab.2.1,sh1.1.lab.2.2.1,
 sh1.1.lab.2.2.2.1,()) (take sh1.1.kids.length (drop 0 sh1.1.kids))) (-1:Int) 0).length:Int)).pickC (4:Int)).pickV (3:Int)
 - (1:Int)),z.2.2.2.2.1,()))]))))))))) (some (V.agg [V.ref 1 0 (Am (Rose.node (sh1.1.lab.1,sh1.1.lab.2.1,sh1.1.lab.2.2.1,
 sh1.1.lab.2.2.2.1,()) (take sh1.1.kids.length (drop 0 sh1.1.kids))) (-1:Int) 0).length],[some (Blk.box [V.sl (Cd.int .u8)
 (sh1.2.pickC (12:Int)).l,V.j (sh1.2.pickC (12:Int)).a,V.i .u64 (sh1.2.pickC (12:Int)).s]),R0 NCd (Am (Rose.node
 (sh1.1.lab.1,sh1.1.lab.2.1,sh1.1.lab.2.2.1,sh1.1.lab.2.2.2.1,()) (take sh1.1.kids.length (drop 0 sh1.1.kids))) (-1 :
 Int) 0)])))))))):_):=by kernel_rfl
theorem Y5 {v:List Ty} (h:Ay v=true):vbR (t2L v 0)<=7290:=by
 obtain ⟨k1,k2,k3,k4⟩:=DT h;have hd:=Y6 _ k3
 have hg:CJ (t2L v 0)=true:=by
  unfold Ay at h;rw [anE,k4] at h;exact h.2
 unfold CJ at hg;simp only [anE,dcE] at hg;have h1:3 ^ BG (t2L v 0)<=3 ^ 5:=Nat.pow_le_pow_right (by omega) hg.1.2;have h2:Aj (t2L v 0)*3 ^ BG (t2L v 0)<=30*3 ^ 5:=mul_le_mul hg.2 h1;have:30*3 ^ 5=7290:=by decide
 omega
theorem ZY {v:List Ty} (h:Ay v=true):1<=(dfL v).length/\(dfL v).length<=40:=by
 have:=OG h;unfold LH Fs at this;simp only [anE,dcE] at this;exact this.2.1
theorem Adt (v:List Ty) (l:List Int) (a s:Int) (hc:Ay v=true/\nmL v=true/\(Cur.mk l a s).good 50000000):Ex1 (Bm prog (Aa [(39,.rd1 C7),(156,.mix (Q8 HM)),(74,.rd1 ofG),(67,.own CT),(157,.rd1 FJ),(90,.own Bp),(134,.own (LZ EZ))]) (Aa []) f112 [.ptr 0 0,.agg [.sl TCd v]] [.box [.sl (.int .u8) l,.j a,.i .u64 s]]) (fun y:(List Nd)×Cur=>((.agg [.ref 1 0 y.1.length],[some (cB y.2),R0 NCd y.1]):V×List (Option Blk))) (fun y=>(∀ n,(Cur.mk l a s).good n->n<=50000000->y.2.good (n+60000))/\1<=y.1.length/\y.1.length<=10000):=by
 refine Ex1.of (X2 HM EZ v l a s) ?_;obtain ⟨hk,hn,hc⟩:=hc;obtain ⟨k1,k2,k3,k4⟩:=DT hk;have hvb:=Y5 hk;obtain ⟨d1,d2⟩:=ZY hk;obtain ⟨p1,p2⟩:=Tv (t2L v 0) (Cur.mk l a s) 50000000 k3 (by omega) hc (by omega);have hroom:(Cur.mk l a s).room (8*vbR (t2L v 0)):=Cur.good_mono hc (by push_cast; omega);have p3 : ∀ n,(Cur.mk l a s).good n->n<=50000000->(HM (t2L v 0) (Cur.mk l a s)).2.good (n+58320):=fun n h hm=>Cur.good_mono (Tv (t2L v 0) (Cur.mk l a s) n k3 (by omega) h (by omega)).1 (by omega)
 have hl30:v.length<=30:=by
  have h:=hk;unfold Ay at h;simp only [anE,dcE] at h;exact h.1.1.1.2
 repeat with_reducible refine Ex1.sh ?_
 simp only [AG,A7,drop_zero,take_length,BD,zero_add];have g3:=p3 50000000 hc (by omega);generalize HM (t2L v 0) (Cur.mk l a s)=F at *;obtain ⟨t,c⟩:=F;dsimp only at *;have hM:=mxI;have w1:1<=(Am t (-1) 0).length/\(Am t (-1) 0).length<=10000:=by rw [Cn]; refine ⟨by cases t; rw [vcR]; omega,by omega⟩
 have hvk:vcL t.kids+1<=2000000:=by rw [DE] at p2; omega
 generalize Am t (-1) 0=W at *;generalize dfL v=D at *;simp only [hk,Bg,BS]
 repeat' first
  | with_reducible refine Ex1.B (fun h=>?_) (fun h=>?_)
  | with_reducible refine Ex1.T ?_ ?_
  | with_reducible refine Ex1.S (Abd ?_) fun z hz=>?_
 all_goals try simp only [BS]
 all_goals first
  | exact dcT ⟨by omega,by omega,by omega⟩
  | exact dcT ⟨k3,by omega,hroom⟩
  | exact dcT hvk
  | (rw [hn,dcT (by omega)]; rfl)
  | (refine dcT ?_; (repeat with_reducible apply Cur.pk); exact Cur.good_mono g3 (by omega))
  | exact Ace (n:=60000000) (by (repeat with_reducible apply Cur.pk); exact Cur.good_mono g3 (by omega)) (by omega)
  | exact Zg (n:=60000000) (by (repeat with_reducible apply Cur.pk); exact Cur.good_mono g3 (by omega)) (by omega)
  | exact Ex1.c _ rfl rfl ⟨fun n hn hm=>by (repeat with_reducible apply Cur.pk); exact Cur.good_mono (p3 n hn hm) (by omega),by dsimp only; omega⟩
  | exact Ex1.c _ rfl (by simp only [length_set]) ⟨fun n hn hm=>by (repeat with_reducible apply Cur.pk); exact Cur.good_mono (p3 n hn hm) (by omega),by simp only [length_set]; omega⟩
  | exact Ex1.c _ rfl (by simp only [length_set]) ⟨fun n hn hm=>Cur.good_mono ((Tx _ (by (repeat with_reducible apply Cur.pk); exact Cur.good_mono g3 (by omega))).1 (n+59000) (by (repeat with_reducible apply Cur.pk); exact Cur.good_mono (p3 n hn hm) (by omega)) (by omega)) (by omega),by simp only [length_set]; omega⟩

theorem OB : ∃ f:(List Ty)->Cur->(List Nd)×Cur,Ac prog 112 (Ent.mix (X3 f)).F/\∀ (v:List Ty) (c:Cur),(Ay v=true/\nmL v=true/\c.good 50000000)->(∀ n,c.good n->n<=50000000->(f v c).2.good (n+60000))/\1<=(f v c).1.length/\(f v c).1.length<=10000:=by
 have ex:=fun (v:List Ty) (c:Cur) (hc:Ay v=true/\nmL v=true/\c.good 50000000)=>Adt v c.l c.a c.s hc
 classical
 refine ⟨fun v c=>if h:Ay v=true/\nmL v=true/\c.good 50000000 then (ex v c h).choose else ([],c),?_,fun v c hc=>?_⟩
 rotate_left
 ·simp only [dif_pos hc];exact (ex v c hc).choose_spec.2
 refine fcC (kc func39 F5 (kc func156 X5 (kc func74 Acz (kc func67 Sv (kc func157 Ab6 (kc func90 GD (kc func134 QB KnowsL.nil))))))).knows (Λ:=(Aa [])) func112 fun vs bs r hq=>?_
 unfold Ent.F X3 at hq;dsimp only at hq;split at hq
 ·rename_i v l a s;obtain ⟨hc,hx⟩:=Ad hq;have hc:=of_decide_eq_true hc;refine ⟨Ao _,((ex v (Cur.mk l a s) hc).choose_spec.1).trans ?_⟩;rw [dif_pos hc] at hx;exact hx
 ·cases hq
noncomputable def G8:(List Ty)->Cur->(List Nd)×Cur:=OB.choose
theorem ZE:Ac prog 112 (Ent.mix (X3 G8)).F:=OB.choose_spec.1
theorem Ads : ∀ (v:List Ty) (c:Cur),(Ay v=true/\nmL v=true/\c.good 50000000)->(∀ n,c.good n->n<=50000000->(G8 v c).2.good (n+60000))/\1<=(G8 v c).1.length/\(G8 v c).1.length<=10000:=OB.choose_spec.2


def okU (w:List Ty) (m:Nat):Bool:=(List.range m).all fun k=>k==0||match w[k]? with
 | some z=>decide (0<=z.2.2.2.2.1/\z.2.2.2.2.1<(k:Int))
 | none=>false
def J2 (o:Cur×List Ty×Nat×Nat->(List Ty×Nat)×Cur):LoopEnt:=⟨96,[0,4,5,6],[4,5],[],fun
 | ([.ptr 0 0,.ptr 1 0,.ptr 2 0,.j n],[some (.box [.sl (.int .u8) l,.j a,.i .u64 s]),some (.box [.ref 3 0 0]),some (.box [.ref 4 0 m]),R0 TCd [],R0 TCd w])=>.need (decide (0<=n/\n<=3/\1<=m/\m<=w.length/\w.length<=30/\(Cur.mk l a s).good (60000000-8*n))&&(okU w m&&nmL w)) (.leaf (.exit 0,([.ptr 1 0,.ptr 2 0],[some (cB (o (Cur.mk l a s,w,m,n.toNat)).2),some (.box [.ref 3 0 0]),some (.box [.ref 4 0 (o (Cur.mk l a s,w,m,n.toNat)).1.2]),R0 TCd [],R0 TCd (o (Cur.mk l a s,w,m,n.toNat)).1.1])))
 | _=>.no⟩
def Ss (f:(List Ty)->Cur->(List Ty×Nat)×Cur):Gm
 | [.ptr 0 0,.agg [.sl TCd v]],[.box [.sl (.int .u8) l,.j a,.i .u64 s]]=>.need (decide (Ay v=true/\nmL v=true/\1<=v.length/\v.length<=30/\(Cur.mk l a s).good 50000000)) (.leaf (.agg [.ref 1 0 (f v (Cur.mk l a s)).1.2],[some (cB (f v (Cur.mk l a s)).2),R0 TCd (f v (Cur.mk l a s)).1.1]))
 | _,_=>.no
theorem FM (o:Cur×List Ty×Nat×Nat->(List Ty×Nat)×Cur) (l:List Int) (a s:Int) (w:List Ty) (m:Nat) (n:Int):Au prog (Aa [(90,.own Bp)]) (Aa [(3,J2 o)]) 1 (body f68 0) (J2 o) ([.ptr 0 0,.ptr 1 0,.ptr 2 0,.j n],[some (.box [.sl (.int .u8) l,.j a,.i .u64 s]),some (.box [.ref 3 0 0]),some (.box [.ref 4 0 m]),R0 TCd [],R0 TCd w]) =
 ((shr ((Cur.mk l a s).pickC (↑m:Int)) fun sh2=>shr (Ag TCd.den) fun sh1=>ifB (decide (n>0)) (ifT (decide ((Cur.mk l a s).good (900000000:Int))) (ifB ((Cur.mk l a
 s).pickV (↑m:Int)==(0:Int)) (some (Ex.normal,[V.ptr 0 0,V.ptr 1 0,V.ptr 2 0,V.j (i64.wrap (n-1))],[some (Blk.box [V.sl (Cd.int .u8) sh2.l,V.i
 .i64 sh2.a,V.i .u64 sh2.s]),some (Blk.box [V.ref 3 0 0]),some (Blk.box [V.ref 4 0 m]),R0 TCd sh1,R0 TCd w])) (ifT
 (decide (sh2.good (900000000:Int))) (ifB (sh2.pickV (3:Int)==(0:Int)) (ifT (decide ((0:Int)<=(Cur.mk l a s).pickV (↑m:Int))&&decide ((Cur.mk l a s).pickV
 (↑m:Int)<(↑m:Int))) (An w[0+((Cur.mk l a s).pickV (↑m:Int)).toNat]? fun z=>shr z.2.2.2.2 fun sh1_1=>ifT (decide ((0:Int)<=sh1_1.1)
 && decide (sh1_1.1<(↑m:Int))) (An w[0+toNat sh1_1.1]? fun z=>shr (sh2.pickC (3:Int)) fun sh1_2=>ifB (z.1==(5:Int)) (ifT (decide ((0
 : Int)<=(Cur.mk l a s).pickV (↑m:Int))&&decide ((Cur.mk l a s).pickV (↑m:Int)<(↑m:Int))) (An w[0+((Cur.mk l a s).pickV (↑m:Int)).toNat]? fun z
 => ifT (decide ((0:Int)<=(Cur.mk l a s).pickV (↑m:Int))&&decide ((Cur.mk l a s).pickV (↑m:Int)<(↑m:Int))) (An w[0+((Cur.mk l a s).pickV (↑m :
 Int)).toNat]? fun z_1=>shr z_1.2.2 fun sh1_3=>some (Ex.normal,[V.ptr 0 0,V.ptr 1 0,V.ptr 2 0,V.j (i64.wrap (n-1))],[some (Blk.box [V.sl
 (Cd.int .u8) sh1_2.l,V.j sh1_2.a,V.i .u64 sh1_2.s]),some (Blk.box [V.ref 3 0 0]),some (Blk.box [V.ref 4 0 m]),R0 TCd sh1,R0 TCd (w.set (0+((Cur.mk l a s).pickV (↑m:Int)).toNat) (z_1.1,z_1.2.1,sh1_3.1,!z.2.2.2.1,sh1_3.2.2.1,
 sh1_3.2.2.2.1,()))])))) (some (Ex.normal,[V.ptr 0 0,V.ptr 1 0,V.ptr 2 0,V.j (i64.wrap (n-1))],[some (Blk.box [V.sl (Cd.int .u8) sh1_2.l,V.i
 .i64 sh1_2.a,V.i .u64 sh1_2.s]),some (Blk.box [V.ref 3 0 0]),some (Blk.box [V.ref 4 0 m]),R0 TCd sh1,R0 TCd w])))))
 (ifB (sh2.pickV (3:Int)==(1:Int)) (ifT (decide ((0:Int)<=(Cur.mk l a s).pickV (↑m:Int))&&decide ((Cur.mk l a s).pickV (↑m:Int)<(↑m:Int))) (An w[(0
 : Nat)+((Cur.mk l a s).pickV (↑m:Int)).toNat]? fun z=>shr (sh2.pickC (3:Int)) fun sh1_1=>ifB (z.1==(3:Int)) (ifT (decide (sh1_1.good (900000000:Int)))
 (ifT (decide ((0:Int)<=(Cur.mk l a s).pickV (↑m:Int))&&decide ((Cur.mk l a s).pickV (↑m:Int)<(↑m:Int))) (An w[0+((Cur.mk l a s).pickV (↑m :
 Int)).toNat]? fun z=>shr sh1_1 fun sh2=>shr z.2.2 fun sh1_2=>some (Ex.normal,[V.ptr 0 0,V.ptr 1 0,V.ptr 2 0,V.j (i64.wrap (n-1))],[some
 (Blk.box [V.sl (Cd.int .u8) (sh2.pickC (5:Int)).l,V.j (sh2.pickC (5:Int)).a,V.i .u64 (sh2.pickC (5:Int)).s]),some (Blk.box [V.ref 3 0 0]),some (Blk.box
 [V.ref 4 0 m]),R0 TCd sh1,R0 TCd (w.set (0+((Cur.mk l a s).pickV (↑m:Int)).toNat) (z.1,z.2.1,sh1_2.1,
 sh1_2.2.1,sh1_2.2.2.1,sh2.pickV (5:Int),()))])))) (some (Ex.normal,[V.ptr 0 0,V.ptr 1 0,V.ptr 2 0,V.j (i64.wrap (n-1))],[some (Blk.box
 [V.sl (Cd.int .u8) sh1_1.l,V.j sh1_1.a,V.i .u64 sh1_1.s]),some (Blk.box [V.ref 3 0 0]),some (Blk.box [V.ref 4 0 m]),R0 TCd sh1,R0 TCd w])))) (ifB ((Cur.mk l a s).pickV (↑m:Int)==i64.wrap ((↑m:Int)-(1:Int))) (ifT (decide ((0:Int)<=(Cur.mk l a s).pickV (↑m :
 Int))&&decide ((Cur.mk l a s).pickV (↑m:Int)<(↑m:Int))) (An w[0+((Cur.mk l a s).pickV (↑m:Int)).toNat]? fun z=>shr z.2.2.2.2 fun sh1_1
 => ifT (decide ((0:Int)<=sh1_1.1)&&decide (sh1_1.1<(↑m:Int))) (An w[0+toNat sh1_1.1]? fun z=>shr (sh2.pickC (3:Int)) fun sh1_2=>ifB
 (z.1==(5:Int)) (ifT (decide ((0:Int)<=(Cur.mk l a s).pickV (↑m:Int))&&decide ((Cur.mk l a s).pickV (↑m:Int)<=(↑(w.length-0):Int))) (some
 (Ex.normal,[V.ptr 0 0,V.ptr 1 0,V.ptr 2 0,V.j (i64.wrap (n-1))],[some (Blk.box [V.sl (Cd.int .u8) sh1_2.l,V.j sh1_2.a,V.i .u64 sh1_2.s]),some
 (Blk.box [V.ref 3 0 0]),some (Blk.box [V.ref 4 0 (((Cur.mk l a s).pickV (↑m:Int)).toNat-0)]),R0 TCd sh1,R0 TCd
 w]))) (some (Ex.normal,[V.ptr 0 0,V.ptr 1 0,V.ptr 2 0,V.j (i64.wrap (n-1))],[some (Blk.box [V.sl (Cd.int .u8) sh1_2.l,V.j sh1_2.a,V.i .u64
 sh1_2.s]),some (Blk.box [V.ref 3 0 0]),some (Blk.box [V.ref 4 0 m]),R0 TCd sh1,R0 TCd w]))))) (some (Ex.normal,[V.ptr 0
 0,V.ptr 1 0,V.ptr 2 0,V.j (i64.wrap (n-1))],[some (Blk.box [V.sl (Cd.int .u8) (sh2.pickC (3:Int)).l,V.j (sh2.pickC (3:Int)).a,V.i .u64
 (sh2.pickC (3:Int)).s]),some (Blk.box [V.ref 3 0 0]),some (Blk.box [V.ref 4 0 m]),R0 TCd sh1,R0 TCd w])))))))) (some
 (Ex.exit 0,[V.ptr 1 0,V.ptr 2 0],[some (Blk.box [V.sl (Cd.int .u8) l,V.j a,V.i .u64 s]),some (Blk.box [V.ref 3 0 0]),some (Blk.box [V.ref 4 0 m]),R0 TCd sh1,R0 TCd w]))):_):=by kernel_rfl
theorem Ack {w:List Ty} {m k:Nat} (h:okU w m=true) (hk:k<m) (h0:k≠0) (hl:k<w.length) : ∃ u:Nat,w[k].2.2.2.2.1=(u:Int)/\u<k:=by
 unfold okU at h;have:=all_eq_true.1 h k (mem_range.2 hk);rw [or_eq_true,gtE hl] at this;rcases this with h1 | h1
 ·exact absurd (by simpa using h1) h0
 ·have h1:=of_decide_eq_true h1;exact ⟨w[k].2.2.2.2.1.toNat,by omega,by omega⟩
theorem WC {w:List Ty} {m k:Nat} (h:okU w m=true) (hk:k<=m):okU w k=true:=by
 unfold okU at h ⊢;rw [all_eq_true] at h ⊢;exact fun j hj=>h j (mem_range.2 (by have:=mem_range.1 hj; omega))
theorem SV {w:List Ty} {m k:Nat} {z:Ty} (h:okU w m=true) (hl:k<w.length) (hz:z.2.2.2.2.1=w[k].2.2.2.2.1):okU (w.set k z) m=true:=by
 unfold okU at h ⊢;rw [all_eq_true] at h ⊢;intro j hj;have hj':=h j hj;rw [or_eq_true] at hj' ⊢;rcases hj' with h1 | h1
 ·exact .inl h1
 ·right
  by_cases e:k=j
  ·subst e;rw [List.getElem?_set_self hl];rw [gtE hl] at h1;dsimp only at h1 ⊢;rw [hz]; exact h1
  ·rw [List.getElem?_set_ne e]; exact h1
theorem QK : ∀ x:Cur×List Ty×Nat×Nat,(x.2.2.2<=3/\1<=x.2.2.1/\x.2.2.1<=x.2.1.length/\x.2.1.length<=30/\x.1.good (60000000-8*(x.2.2.2:Int))/\okU x.2.1 x.2.2.1=true/\nmL x.2.1=true)->∃ y:(List Ty×Nat)×Cur,(∀ o,Runs prog (Aa [(90,.own Bp)]) (Aa [(3,J2 o)]) 1 (body f68 0) (J2 o) ((fun x:Cur×List Ty×Nat×Nat=>(([.ptr 0 0,.ptr 1 0,.ptr 2 0,.j (x.2.2.2:Int)],[some (cB x.1),some (.box [.ref 3 0 0]),some (.box [.ref 4 0 x.2.2.1]),R0 TCd [],R0 TCd x.2.1]):Dt)) x) ((fun y:(List Ty×Nat)×Cur=>(((.exit 0:Ex),([.ptr 1 0,.ptr 2 0],[some (cB y.2),some (.box [.ref 3 0 0]),some (.box [.ref 4 0 y.1.2]),R0 TCd [],R0 TCd y.1.1])):Ex×Dt)) y).1 ((fun y:(List Ty×Nat)×Cur=>(((.exit 0:Ex),([.ptr 1 0,.ptr 2 0],[some (cB y.2),some (.box [.ref 3 0 0]),some (.box [.ref 4 0 y.1.2]),R0 TCd [],R0 TCd y.1.1])):Ex×Dt)) y).2)/\((∀ g,x.1.good g->g<=60000000-8*(x.2.2.2:Int)->y.2.good (g+8*(x.2.2.2:Int)))/\1<=y.1.2/\y.1.2<=y.1.1.length/\y.1.1.length<=30/\nmL y.1.1=true):=by
 refine Gy (ι:=Cur×List Ty×Nat×Nat->(List Ty×Nat)×Cur) (fun _=>(([],0),Cur.mk [] 0 0)) (Λ:=fun o=>(Aa [(3,J2 o)])) (ent:=fun o=>J2 o) (fun x:Cur×List Ty×Nat×Nat=>(([.ptr 0 0,.ptr 1 0,.ptr 2 0,.j (x.2.2.2:Int)],[some (cB x.1),some (.box [.ref 3 0 0]),some (.box [.ref 4 0 x.2.2.1]),R0 TCd [],R0 TCd x.2.1]):Dt)) (fun y:(List Ty×Nat)×Cur=>(((.exit 0:Ex),([.ptr 1 0,.ptr 2 0],[some (cB y.2),some (.box [.ref 3 0 0]),some (.box [.ref 4 0 y.1.2]),R0 TCd [],R0 TCd y.1.1])):Ex×Dt)) (fun y=>by simp) _ _ (fun x=>x.2.2.2) (fun o x _=>(FM o x.1.l x.1.a x.1.s x.2.1 x.2.2.1 (x.2.2.2:Int)).trans (FM _ x.1.l x.1.a x.1.s x.2.1 x.2.2.1 (x.2.2.2:Int)).symm) ?_
 rintro ⟨c,w,m,n⟩ ⟨h1,h2,h3,h4,hc,hu,hn⟩
 dsimp only at h1 h2 h3 h4 hc hu hn ⊢;have hM:=mxI
 by_cases h:0<n
 ·right;refine Ex1.of (FM _ c.l c.a c.s w m (n:Int)) ?_
  try dsimp only [shr]
  rw [Af (dcT (by omega))];have g1:(c.pickC (m:Int)).good (60000000-8*(n:Int)+2):=Cur.pickC_good hc;have r1:=Cur.pickV_range (k:=(m:Int)) hc (by omega);have w1:i64.wrap ((n:Int)-1)=((n-1:Nat):Int):=by rw [Av (by omega) (by omega)]; omega
  have w2:i64.wrap ((m:Int)-1)=(m:Int)-1:=Av (by omega) (by omega);have gm : ∀ g,c.good g->g<=60000000-8*(n:Int)->(c.pickC (m:Int)).good (g+2):=fun g hg _=>Cur.pickC_good hg
  simp only [BS,show Cur.mk c.l c.a c.s=c from rfl,A7,w1,w2];refine Ex1.T (dcT (Cur.good_mono hc (by omega))) ?_;generalize c.pickV (m:Int)=k at *;generalize c.pickC (m:Int)=c2 at *;obtain ⟨k,rfl⟩:=eq_ofNat_of_zero_le r1.1;have hkl:k<w.length:=by omega
  simp only [zero_add,ntN,gtE hkl,Ap,sub_zero];have hnk:=Aa9 hn (gtE hkl)
  have fin : ∀ (c':Cur) (w':List Ty) (m':Nat),(∀ g,c2.good g->g<=70000000->c'.good (g+4))->1<=m'->m'<=w'.length->w'.length<=30->okU w' m'=true->nmL w'=true->((n-1<=3/\1<=m'/\m'<=w'.length/\w'.length<=30/\c'.good (60000000-8*((n-1:Nat):Int))/\okU w' m'=true/\nmL w'=true)/\n-1<n/\∀ y:(List Ty×Nat)×Cur,((∀ g,c'.good g->g<=60000000-8*((n-1:Nat):Int)->y.2.good (g+8*((n-1:Nat):Int)))/\1<=y.1.2/\y.1.2<=y.1.1.length/\y.1.1.length<=30/\nmL y.1.1=true)->((∀ g,c.good g->g<=60000000-8*(n:Int)->y.2.good (g+8*(n:Int)))/\1<=y.1.2/\y.1.2<=y.1.1.length/\y.1.1.length<=30/\nmL y.1.1=true)):=fun c' w' m' q1 q2 q3 q4 q5 q6=>by
   refine ⟨⟨by omega,q2,q3,q4,Cur.good_mono (q1 _ g1 (by omega)) (by omega),q5,q6⟩,by omega,fun y hy=>⟨fun g hg hl=>Cur.good_mono (hy.1 (g+2+4) (q1 _ (gm g hg hl) (by omega)) (by omega)) (by omega),hy.2⟩⟩
  by_cases hk0:k=0
  ·subst hk0;refine Ex1.B (fun _=>?_) (fun hf=>by simp at hf);exact Ex1.P3 (c2,w,m,n-1) rfl rfl rfl (fin c2 w m (fun g hg _=>Cur.good_mono hg (by omega)) h2 h3 h4 hu hn)
  ·obtain ⟨u,hu1,hu2⟩:=Ack hu (by omega) hk0 hkl;have hul:u<w.length:=by omega
   simp only [hu1,ntN,gtE hul,Ap]
   repeat' first
    | with_reducible refine Ex1.B (fun h=>?_) (fun h=>?_)
    | with_reducible refine Ex1.T ?_ ?_
   all_goals try simp only [BS]
   all_goals first
    | (refine dcT ?_; (repeat with_reducible apply Cur.pk); exact Cur.good_mono g1 (by omega))
    | (simp only [anE,dcE]; omega)
    | exact Ex1.P3 (c2,w,m,n-1) rfl rfl rfl (fin _ w m (fun g hg _=>Cur.good_mono hg (by omega)) h2 h3 h4 hu hn)
    | exact Ex1.P3 (c2.pickC 3,w,m,n-1) rfl rfl rfl (fin _ w m (fun g hg _=>Cur.good_mono (Cur.pickC_good hg) (by omega)) h2 h3 h4 hu hn)
    | exact Ex1.P3 (c2.pickC 3,w,k,n-1) rfl rfl rfl (fin _ w k (fun g hg _=>Cur.good_mono (Cur.pickC_good hg) (by omega)) (by omega) (by omega) h4 (WC hu (by omega)) hn)
    | exact Ex1.P3 (c2.pickC 3,w.set k (_,_,_,_,_,_,()),m,n-1) rfl rfl rfl (fin _ _ m (fun g hg _=>Cur.good_mono (Cur.pickC_good hg) (by omega)) h2 (by rw [length_set]; exact h3) (by rw [length_set]; exact h4) (SV hu hkl hu1.symm) (Ot hn hnk))
    | exact Ex1.P3 ((c2.pickC 3).pickC 5,w.set k (_,_,_,_,_,_,()),m,n-1) rfl rfl rfl (fin _ _ m (fun g hg _=>Cur.good_mono (Cur.pickC_good (Cur.pickC_good hg)) (by omega)) h2 (by rw [length_set]; exact h3) (by rw [length_set]; exact h4) (SV hu hkl hu1.symm) (Ot hn hnk))
 ·left;refine Ex1.of (FM _ c.l c.a c.s w m (n:Int)) ?_
  try dsimp only [shr]
  rw [Ae (dcF (by omega))];exact Ex1.L ((w,m),c) rfl ⟨fun g hg _=>Cur.good_mono hg (by omega),h2,h3,h4,hn⟩
noncomputable def EO:Cur×List Ty×Nat×Nat->(List Ty×Nat)×Cur:=(DF (Y:=(List Ty×Nat)×Cur) (([],0),Cur.mk [] 0 0) QK).choose
theorem Yi : ∀ x:Cur×List Ty×Nat×Nat,(x.2.2.2<=3/\1<=x.2.2.1/\x.2.2.1<=x.2.1.length/\x.2.1.length<=30/\x.1.good (60000000-8*(x.2.2.2:Int))/\okU x.2.1 x.2.2.1=true/\nmL x.2.1=true)->(∀ o,Runs prog (Aa [(90,.own Bp)]) (Aa [(3,J2 o)]) 1 (body f68 0) (J2 o) ((fun x:Cur×List Ty×Nat×Nat=>(([.ptr 0 0,.ptr 1 0,.ptr 2 0,.j (x.2.2.2:Int)],[some (cB x.1),some (.box [.ref 3 0 0]),some (.box [.ref 4 0 x.2.2.1]),R0 TCd [],R0 TCd x.2.1]):Dt)) x) ((fun y:(List Ty×Nat)×Cur=>(((.exit 0:Ex),([.ptr 1 0,.ptr 2 0],[some (cB y.2),some (.box [.ref 3 0 0]),some (.box [.ref 4 0 y.1.2]),R0 TCd [],R0 TCd y.1.1])):Ex×Dt)) (EO x)).1 ((fun y:(List Ty×Nat)×Cur=>(((.exit 0:Ex),([.ptr 1 0,.ptr 2 0],[some (cB y.2),some (.box [.ref 3 0 0]),some (.box [.ref 4 0 y.1.2]),R0 TCd [],R0 TCd y.1.1])):Ex×Dt)) (EO x)).2)/\((∀ g,x.1.good g->g<=60000000-8*(x.2.2.2:Int)->(EO x).2.good (g+8*(x.2.2.2:Int)))/\1<=(EO x).1.2/\(EO x).1.2<=(EO x).1.1.length/\(EO x).1.1.length<=30/\nmL (EO x).1.1=true):=(DF (Y:=(List Ty×Nat)×Cur) (([],0),Cur.mk [] 0 0) QK).choose_spec
theorem Aef:Aw prog (Aa [(90,.own Bp)]) (Aa [(3,J2 EO)]) 1 (f68.body.getD .skip):=by
 refine As (a:=body f68 0) (by kernel_rfl) fun d ex d' h=>?_
 unfold J2 at h;dsimp only at h;split at h
 ·rename_i n l a s m w;obtain ⟨hc,hx⟩:=Ad h;rw [anE,anE] at hc;obtain ⟨hc,q7,q8⟩:=hc;obtain ⟨q1,q2,q3,q4,q5,q6⟩:=of_decide_eq_true hc;obtain ⟨n,rfl⟩:=eq_ofNat_of_zero_le q1;obtain ⟨rfl,rfl⟩:=lfP hx;exact (Yi (Cur.mk l a s,w,m,n) ⟨by dsimp only; omega,q3,q4,q5,q6,q7,q8⟩).1 EO
 ·cases h
theorem WZ {l:List Ty} (h:Ay l=true):Ord l:=by
 unfold Ay at h;simp only [anE,dcE,beq_iff_eq] at h;exact DZ (by omega) h.1.1.2 h.1.2
theorem WD {l:List Ty} (h:Ay l=true):okU l l.length=true:=by
 have H:=WZ h;unfold okU;rw [all_eq_true];intro k hk;have hk:=mem_range.1 hk
 by_cases e:k=0
 ·subst e; rfl
 ·obtain ⟨u,a1,a2,_⟩:=H.up k (by omega) hk;unfold Ba at a1;rw [gtE hk] at a1 ⊢;have a1:=Option.some.inj a1;dsimp only;rw [or_eq_true];right;have a1:l[k].2.2.2.2.1=(u:Int):=a1;rw [a1];exact dcT ⟨by omega,by omega⟩
theorem Yg (o:Cur×List Ty×Nat×Nat->(List Ty×Nat)×Cur) (v:List Ty) (l:List Int) (a s:Int):Bm prog (Aa [(90,.own Bp)]) (Aa [(3,J2 o)]) f68 [.ptr 0 0,.agg [.sl TCd v]] [.box [.sl (.int .u8) l,.j a,.i .u64 s]] =
 ((shr ((Cur.mk l a s).pickC (3:Int)) fun sh2=>shr (Ag TCd.den++v) fun sh1=>ifT (decide ((0+v.length)*56<=140737488355328)&&decide
 (0+v.length<=maxI)) (ifT (decide ((Cur.mk l a s).good (900000000:Int))) (ifT (decide ((0:Int)<=(Cur.mk l a s).pickV (3:Int)/\(Cur.mk l a s).pickV (3 :
 Int)<=(3:Int)/\1<=0+v.length/\0+v.length<=sh1.length/\sh1.length<=30/\sh2.good ((60000000:Int)-(8:Int)*(Cur.mk l a
 s).pickV (3:Int)))&&(okU sh1 (0+v.length)&&nmL sh1)) (some (V.agg [V.ref 1 0 (o (sh2,sh1,0+v.length,((Cur.mk l a s).pickV (3 :
 Int)).toNat)).1.2],[some (Blk.box [V.sl (Cd.int .u8) (o (sh2,sh1,0+v.length,((Cur.mk l a s).pickV (3:Int)).toNat)).2.l,V.j (o (sh2,sh1,(0 :
 Nat)+v.length,((Cur.mk l a s).pickV (3:Int)).toNat)).2.a,V.i .u64 (o (sh2,sh1,0+v.length,((Cur.mk l a s).pickV (3:Int)).toNat)).2.s]),R0 TCd (o (sh2,sh1,0+v.length,((Cur.mk l a s).pickV (3:Int)).toNat)).1.1]))))):_):=by kernel_rfl
theorem Aeg (v:List Ty) (l:List Int) (a s:Int) (hc:Ay v=true/\nmL v=true/\1<=v.length/\v.length<=30/\(Cur.mk l a s).good 50000000):Ex1 (Bm prog (Aa [(90,.own Bp)]) (Aa [(3,J2 EO)]) f68 [.ptr 0 0,.agg [.sl TCd v]] [.box [.sl (.int .u8) l,.j a,.i .u64 s]]) (fun y:(List Ty×Nat)×Cur=>((.agg [.ref 1 0 y.1.2],[some (cB y.2),R0 TCd y.1.1]):V×List (Option Blk))) (fun y=>(∀ g,(Cur.mk l a s).good g->g<=50000000->y.2.good (g+26))/\1<=y.1.2/\y.1.2<=y.1.1.length/\y.1.1.length<=30/\nmL y.1.1=true):=by
 refine Ex1.of (Yg EO v l a s) ?_;obtain ⟨h1,h2,h3,h4,hc⟩:=hc;have hp:=Cur.pickV_range (k:=3) hc (by omega);have g1:((Cur.mk l a s).pickC 3).good (50000000+2):=Cur.pickC_good hc;have hu:=WD h1;have ho:=(Yi ((Cur.mk l a s).pickC 3,v,v.length,((Cur.mk l a s).pickV 3).toNat) ⟨by dsimp only; omega,h3,Nat.le_refl _,h4,Cur.good_mono g1 (by dsimp only; omega),hu,h2⟩).2;dsimp only at ho;have hM:=mxI;have hp2:=hp.2
 try dsimp only [shr]
 simp only [BS,A7,List.nil_append,zero_add];refine Ex1.T (by rw [anE]; exact ⟨dcT (by omega),dcT (by omega)⟩) (Ex1.T (dcT (Cur.good_mono hc (by omega))) (Ex1.T (by rw [hu,h2,Bool.and_true,Bool.and_true]; exact dcT ⟨by omega,by omega,h3,Nat.le_refl _,h4,Cur.good_mono g1 (by omega)⟩) ?_));generalize EO ((Cur.mk l a s).pickC 3,v,v.length,((Cur.mk l a s).pickV 3).toNat)=D at *;exact Ex1.c D.1 rfl rfl ⟨fun m hm hl=>Cur.good_mono (ho.1 (m+2) (Cur.pickC_good hm) (by omega)) (by omega),ho.2⟩
theorem OP : ∃ f:(List Ty)->Cur->(List Ty×Nat)×Cur,Ac prog 68 (Ent.mix (Ss f)).F/\∀ (v:List Ty) (c:Cur),(Ay v=true/\nmL v=true/\1<=v.length/\v.length<=30/\c.good 50000000)->(∀ g,c.good g->g<=50000000->(f v c).2.good (g+26))/\1<=(f v c).1.2/\(f v c).1.2<=(f v c).1.1.length/\(f v c).1.1.length<=30/\nmL (f v c).1.1=true:=by
 have ex:=fun (v:List Ty) (c:Cur) (hc:Ay v=true/\nmL v=true/\1<=v.length/\v.length<=30/\c.good 50000000)=>Aeg v c.l c.a c.s hc
 classical
 refine ⟨fun v c=>if h:Ay v=true/\nmL v=true/\1<=v.length/\v.length<=30/\c.good 50000000 then (ex v c h).choose else (([],0),c),?_,fun v c hc=>?_⟩
 rotate_left
 ·simp only [dif_pos hc];exact (ex v c hc).choose_spec.2
 refine fcC (kc func90 GD KnowsL.nil).knows (Λ:=(Aa [(3,J2 EO)])) func68 fun vs bs r hq=>?_
 unfold Ent.F Ss at hq;dsimp only at hq;split at hq
 ·rename_i v l a s;obtain ⟨hc,hx⟩:=Ad hq;have hc:=of_decide_eq_true hc;refine ⟨Aef,((ex v (Cur.mk l a s) hc).choose_spec.1).trans ?_⟩;rw [dif_pos hc] at hx;exact hx
 ·cases hq
noncomputable def Ga:(List Ty)->Cur->(List Ty×Nat)×Cur:=OP.choose
theorem T4:Ac prog 68 (Ent.mix (Ss Ga)).F:=OP.choose_spec.1
theorem Yh : ∀ (v:List Ty) (c:Cur),(Ay v=true/\nmL v=true/\1<=v.length/\v.length<=30/\c.good 50000000)->(∀ g,c.good g->g<=50000000->(Ga v c).2.good (g+26))/\1<=(Ga v c).1.2/\(Ga v c).1.2<=(Ga v c).1.1.length/\(Ga v c).1.1.length<=30/\nmL (Ga v c).1.1=true:=OP.choose_spec.2
def tv:Nat->By->Nat->Nat->Option (Nat×Nat×Bool)
 | 0,_,_,_=>none
 | _+1,[],_,_=>none
 | f+1,b::l,i,n=>if b.toNat<128 then some (n+b.toNat % 128*2 ^ (7*i),i+1,decide (n+b.toNat % 128*2 ^ (7*i)<=2000000001)&&(decide (0<b.toNat)||decide (i=0))) else tv f l (i+1) (n+b.toNat % 128*2 ^ (7*i))
def Ai (s:By) (a:Nat):Option (Nat×Nat×Bool):=tv 5 (s.drop a) 0 0
def A8:Option (Nat×Nat×Bool)->Int | some (n,_,_)=>n | none=>0
def Ax (a:Nat):Option (Nat×Nat×Bool)->Int | some (_,k,_)=>((a+k:Nat):Int) | none=>0
def BP:Option (Nat×Nat×Bool)->Bool | some (_,_,ok)=>ok | none=>false
def Cj:Option (Nat×Nat×Bool)->Int | some (n,_,true)=>n | _=>0
def Bh (a:Nat):Option (Nat×Nat×Bool)->Int | some (_,k,true)=>((a+k:Nat):Int) | _=>0
def Pk:LoopEnt:=⟨52,[0,1,7,8],[],[4,5,6],fun
 | ([.s s,.j a,.j n,.j i],[])=>.need (decide (0<=a/\0<=n/\0<=i/\i<=5/\n.toNat<2 ^ (7*i.toNat)/\s.length<=4000000000/\a<=4000000000)) (.br (tv (5-i.toNat) (s.drop (a.toNat+i.toNat)) i.toNat n.toNat).isSome (.leaf (.ret,([.j (A8 (tv (5-i.toNat) (s.drop (a.toNat+i.toNat)) i.toNat n.toNat)),.j (Ax a.toNat (tv (5-i.toNat) (s.drop (a.toNat+i.toNat)) i.toNat n.toNat)),.b (BP (tv (5-i.toNat) (s.drop (a.toNat+i.toNat)) i.toNat n.toNat))],[]))) (.leaf (.exit 0,([],[]))))
 | _=>.no⟩
def Rn:Gm
 | [.s s,.j a],[]=>.need (decide (0<=a/\s.length<=4000000000/\a<=4000000000)) (.leaf (.tup [.j (A8 (Ai s a.toNat)),.j (Ax a.toNat (Ai s a.toNat)),.b (BP (Ai s a.toNat))],[]))
 | _,_=>.no
def Pi:LoopEnt:=⟨53,[0,1,7,8],[],[4,5,6],fun
 | ([.s s,.j a,.j n,.j i],[])=>.need (decide (0<=a/\0<=n/\0<=i/\i<=5/\n.toNat<2 ^ (7*i.toNat)/\s.length<=4000000000/\a<=4000000000)) (.br (tv (5-i.toNat) (s.drop (a.toNat+i.toNat)) i.toNat n.toNat).isSome (.leaf (.ret,([.j (Cj (tv (5-i.toNat) (s.drop (a.toNat+i.toNat)) i.toNat n.toNat)),.j (Bh a.toNat (tv (5-i.toNat) (s.drop (a.toNat+i.toNat)) i.toNat n.toNat)),.b (BP (tv (5-i.toNat) (s.drop (a.toNat+i.toNat)) i.toNat n.toNat))],[]))) (.leaf (.exit 0,([],[]))))
 | _=>.no⟩
def VF:Gm
 | [.s s,.j a],[]=>.need (decide (0<=a/\s.length<=4000000000/\a<=4000000000)) (.leaf (.tup [.j (Cj (Ai s a.toNat)),.j (Bh a.toNat (Ai s a.toNat)),.b (BP (Ai s a.toNat))],[]))
 | _,_=>.no
theorem Agn (n:Nat) (_:n<256):IntKind.u8.wrap ((BitVec.ofInt IntKind.u8.bits (n:Int) &&& BitVec.ofInt IntKind.u8.bits (127:Int)).toNat:Int)=((n % 128:Nat):Int):=by
 have e:(BitVec.ofInt IntKind.u8.bits (n:Int) &&& BitVec.ofInt IntKind.u8.bits (127:Int)).toNat=n % 128:=by
  show (BitVec.ofInt 8 (n:Int) &&& BitVec.ofInt 8 ((127:Nat):Int)).toNat=n % 128;rw [BitVec.toNat_and,BitVec.ofInt_natCast,BitVec.ofInt_natCast,BitVec.toNat_ofNat,BitVec.toNat_ofNat,show 127 % 2 ^ 8=2 ^ 7-1 by decide,Nat.and_two_pow_sub_one_eq_mod];show n % 256 % 128=n % 128;omega
 rw [e];unfold IntKind.wrap;simp [IntKind.bits,IntKind.signed];omega
theorem Afd (n:Nat) (_:n<256):i64.wrap ((BitVec.ofInt i64.bits (n:Int) &&& BitVec.ofInt i64.bits (127:Int)).toNat:Int)=((n % 128:Nat):Int):=by
 have e:(BitVec.ofInt i64.bits (n:Int) &&& BitVec.ofInt i64.bits (127:Int)).toNat=n % 128:=by
  show (BitVec.ofInt 64 (n:Int) &&& BitVec.ofInt 64 ((127:Nat):Int)).toNat=n % 128;rw [BitVec.toNat_and,BitVec.ofInt_natCast,BitVec.ofInt_natCast,BitVec.toNat_ofNat,BitVec.toNat_ofNat,show 127 % 2 ^ 64=2 ^ 7-1 by decide,Nat.and_two_pow_sub_one_eq_mod];show n % 18446744073709551616 % 128=n % 128;omega
 rw [e,Av (by omega) (by omega)]
theorem Kq {i:Nat} (h:i<=4):2 ^ (7*i)<=268435456:=by
 have:2 ^ (7*i)<=2 ^ 28:=Nat.pow_le_pow_right (by decide) (by omega);have e:(2:Nat) ^ 28=268435456:=by decide
 omega
theorem Ae0 (x i:Nat) (hx:x<128) (hi:i<=4):i64.wrap ((x:Int)*(2:Int) ^ min ((7:Int)*(i:Int)).toNat i64.bits)=((x*2 ^ (7*i):Nat):Int):=by
 have hp:=Kq hi;have hm:x*2 ^ (7*i)<=127*268435456:=mul_le_mul (by omega) hp;have e1:((7:Int)*(i:Int)).toNat=7*i:=by omega
 have e2:min (7*i) i64.bits=7*i:=Nat.min_eq_left (by show 7*i<=64; omega);rw [e1,e2];have e3:(x:Int)*(2:Int) ^ (7*i)=((x*2 ^ (7*i):Nat):Int):=by simp
 rw [e3,Av (by omega) (by omega)]
theorem Pa {n:Int} (h1:0<=n) (h2:n<=9223372036854775807):IntKind.u64.wrap n=n:=by
 unfold IntKind.wrap;simp [IntKind.bits,IntKind.signed];omega
theorem or7 (n x i:Nat) (hn:n<2 ^ (7*i)) (hx:x<128) (hi:i<=4):i64.wrap ((BitVec.ofInt i64.bits (n:Int) ||| BitVec.ofInt i64.bits ((x*2 ^ (7*i):Nat):Int)).toNat:Int)=((n+x*2 ^ (7*i):Nat):Int):=by
 have hp:=Kq hi;have hm:x*2 ^ (7*i)<=127*268435456:=mul_le_mul (by omega) hp
 have e:(BitVec.ofInt i64.bits (n:Int) ||| BitVec.ofInt i64.bits ((x*2 ^ (7*i):Nat):Int)).toNat=n+x*2 ^ (7*i):=by
  show (BitVec.ofInt 64 (n:Int) ||| BitVec.ofInt 64 ((x*2 ^ (7*i):Nat):Int)).toNat=_;rw [BitVec.toNat_or,BitVec.ofInt_natCast,BitVec.ofInt_natCast,BitVec.toNat_ofNat,BitVec.toNat_ofNat,Nat.mod_eq_of_lt (by omega),Nat.mod_eq_of_lt (by omega),mul_comm x,Nat.or_comm,<-Nat.two_pow_add_eq_or_of_lt hn x,Nat.add_comm]
 rw [e,Av (by omega) (by omega)]
theorem Pn : ∀ (f:Nat) (l:By) (i n:Nat) {x:Nat×Nat×Bool},i+f<=5->n<2 ^ (7*i)->tv f l i n=some x->x.1<2 ^ 35/\i<x.2.1/\x.2.1<=i+l.length/\x.2.1<=5
 | 0,l,i,n,x,h1,h2,h=>by rw [tv] at h; cases h
 | f+1,[],i,n,x,h1,h2,h=>by rw [tv] at h; cases h
 | f+1,b::l,i,n,x,h1,h2,h=>by
  have hm:n+b.toNat % 128*2 ^ (7*i)<2 ^ (7*(i+1)):=by
   have h3:b.toNat % 128<=127:=by omega
   have h4:b.toNat % 128*2 ^ (7*i)<=127*2 ^ (7*i):=Nat.mul_le_mul_right _ h3;have h5:2 ^ (7*(i+1))=2 ^ (7*i)*128:=by rw [show 7*(i+1)=7*i+7 by omega,pow_add]
   omega
  rw [tv] at h;split at h
  ·simp at h;subst h;have h6:2 ^ (7*(i+1))<=2 ^ 35:=Nat.pow_le_pow_right (by decide) (by omega);exact ⟨by omega,by simp,by simp<;>omega,by simp<;>omega⟩
  ·obtain ⟨g1,g2,g3,g4⟩:=Pn f l (i+1) _ (by omega) hm h;exact ⟨g1,by omega,by simp; omega,g4⟩
theorem Ew {s:By} {a:Nat} {x:Nat×Nat×Bool} (h:Ai s a=some x):x.1<=34359738368/\0<x.2.1/\a+x.2.1<=s.length/\x.2.1<=5:=by
 obtain ⟨h1,h2,h3,h4⟩:=Pn 5 _ 0 0 (by omega) (by decide) h;rw [List.length_drop] at h3;have e:(2:Nat) ^ 35=34359738368:=by decide
 exact ⟨by omega,h2,by omega,h4⟩
theorem MU (s:By) (a n i:Int):Au prog (Aa []) (Aa [(3,Pk)]) 0 (body f164 0) Pk ([.s s,.j a,.j n,.j i],[]) =
 ((ifB (decide (i<5)) (ifB (decide (i64.wrap (a+i)<(↑s.length:Int))) (ifT (decide (0<=i64.wrap (a+i))) (An s[(i64.wrap (a+i)).toNat]?
 fun z=>ifT (decide (0<=i64.wrap (7*i))) (ifB (decide ((↑z.toNat:Int)<(128:Int))) (ifB (decide (i64.wrap (↑(BitVec.ofInt i64.bits n |||
 BitVec.ofInt i64.bits (i64.wrap (i64.wrap (IntKind.u8.wrap (↑(BitVec.ofInt IntKind.u8.bits (↑z.toNat:Int) &&& BitVec.ofInt IntKind.u8.bits (127
 : Int)).toNat:Int))*(2:Int) ^ min (i64.wrap (7*i)).toNat i64.bits))).toNat:Int)<=(2000000001:Int))) (ifB (decide ((↑z.toNat:Int)>(0 :
 Int))) (some (Ex.ret,[V.j (i64.wrap (↑(BitVec.ofInt i64.bits n ||| BitVec.ofInt i64.bits (i64.wrap (i64.wrap
 (IntKind.u8.wrap (↑(BitVec.ofInt IntKind.u8.bits (↑z.toNat:Int) &&& BitVec.ofInt IntKind.u8.bits (127:Int)).toNat:Int))*(2:Int) ^ min (i64.wrap (7 *
 i)).toNat i64.bits))).toNat:Int)),V.j (i64.wrap (i64.wrap (a+i)+(1:Int))),V.b true],[])) (some (Ex.ret,[V.i .i64
 (i64.wrap (↑(BitVec.ofInt i64.bits n ||| BitVec.ofInt i64.bits (i64.wrap (i64.wrap (IntKind.u8.wrap (↑(BitVec.ofInt
 IntKind.u8.bits (↑z.toNat:Int) &&& BitVec.ofInt IntKind.u8.bits (127:Int)).toNat:Int))*(2:Int) ^ min (i64.wrap (7*i)).toNat i64.bits))).toNat
 : Int)),V.j (i64.wrap (i64.wrap (a+i)+(1:Int))),V.b (i==0)],[]))) (some (Ex.ret,[V.j (i64.wrap (↑(BitVec.ofInt
 i64.bits n ||| BitVec.ofInt i64.bits (i64.wrap (i64.wrap (IntKind.u8.wrap (↑(BitVec.ofInt IntKind.u8.bits (↑z.toNat:Int) &&&
 BitVec.ofInt IntKind.u8.bits (127:Int)).toNat:Int))*(2:Int) ^ min (i64.wrap (7*i)).toNat i64.bits))).toNat:Int)),V.j (i64.wrap
 (i64.wrap (a+i)+(1:Int))),V.b false],[]))) (some (Ex.normal,[V.s s,V.j a,V.j (i64.wrap (↑(BitVec.ofInt i64.bits n |||
 BitVec.ofInt i64.bits (i64.wrap (i64.wrap (IntKind.u8.wrap (↑(BitVec.ofInt IntKind.u8.bits (↑z.toNat:Int) &&& BitVec.ofInt IntKind.u8.bits (127
 : Int)).toNat:Int))*(2:Int) ^ min (i64.wrap (7*i)).toNat i64.bits))).toNat:Int)),V.j (i64.wrap (i+1))],[]))))) (some (Ex.exit
 0,[],[]))) (some (Ex.exit 0,[],[]))):_):=by kernel_rfl
theorem Pj (s:By) (a:Nat) (hs:s.length<=4000000000) (ha:a<=4000000000) : ∀ (j i n:Nat),i+j=5->n<2 ^ (7*i)->∀ ex d,(Br.br (tv (5-i) (s.drop (a+i)) i n).isSome (.leaf (.ret,([.j (A8 (tv (5-i) (s.drop (a+i)) i n)),.j (Ax a (tv (5-i) (s.drop (a+i)) i n)),.b (BP (tv (5-i) (s.drop (a+i)) i n))],[]))) (.leaf (.exit 0,([],[]))):Br (Ex×Dt)).run=some (ex,d)->
  Runs prog (Aa []) (Aa [(3,Pk)]) 0 (body f164 0) Pk ([.s s,.j (a:Int),.j (n:Int),.j (i:Int)],[]) ex d
 | 0,i,n,hi,hn,ex,d,h=>by
  have hr:=MU s a n i;rw [Ae (dcF (by omega))] at hr;rw [show 5-i=0 by omega,tv] at h;obtain ⟨rfl,rfl⟩:=lfP h;exact stp hr
 | j+1,i,n,hi,hn,ex,d,h=>by
  have hr:=MU s a n i;have hw:i64.wrap ((a:Int)+(i:Int))=((a+i:Nat):Int):=by rw [Av (by omega) (by omega)]; omega
  rw [Af (dcT (by omega)),hw] at hr;rw [show 5-i=(5-(i+1))+1 by omega] at h
  by_cases hl:a+i<s.length
  ·rw [Af (dcT (by omega)),Ab (dcT (by omega))] at hr;have hz:=s[a+i].toNat_lt;have hx:s[a+i].toNat % 128<128:=Nat.mod_lt _ (by decide);have hp:=Kq (i:=i) (by omega);have hm:s[a+i].toNat % 128*2 ^ (7*i)<=127*268435456:=mul_le_mul (by omega) hp;have hw7:i64.wrap ((7:Int)*(i:Int))=7*(i:Int):=Av (by omega) (by omega);have hwc:i64.wrap (s[a+i].toNat:Int)=(s[a+i].toNat:Int):=Av (by omega) (by omega);have hu7:IntKind.u64.wrap (7*(i:Int))=7*(i:Int):=Pa (by omega) (by omega);have hwx:i64.wrap ((s[a+i].toNat % 128:Nat):Int)=((s[a+i].toNat % 128:Nat):Int):=Av (by omega) (by omega);simp only [ntN,gtE hl,Ap,hw7,Agn _ hz,hwx,Ae0 _ i hx (by omega),or7 n _ i hn hx (by omega)] at hr;rw [Ab (dcT (by omega))] at hr;rw [drop_eq_getElem_cons hl,tv] at h
   have hm2:n+s[a+i].toNat % 128*2 ^ (7*i)<2 ^ (7*(i+1)):=by
    have h4:s[a+i].toNat % 128*2 ^ (7*i)<=127*2 ^ (7*i):=Nat.mul_le_mul_right _ (by omega);have h5:2 ^ (7*(i+1))=2 ^ (7*i)*128:=by rw [show 7*(i+1)=7*i+7 by omega,pow_add]
    omega
   have hwi:i64.wrap (((a+i:Nat):Int)+1)=((a+(i+1):Nat):Int):=by rw [Av (by omega) (by omega)]; omega
   rw [Az (n:=i) (by unfold maxI; omega)] at hr
   try rw [hwi] at hr
   generalize s[a+i].toNat % 128*2 ^ (7*i)=y at *
   have hi0:((i:Int)==0)=decide (i=0):=by
    by_cases h:i=0
    ·subst h; rfl
    ·rw [dcF h]; exact beq_false_of_ne (by omega)
   have hle:decide (((n+y:Nat):Int)<=2000000001)=decide (n+y<=2000000001):=decide_eq_decide.2 (by omega);have hgt:decide (((n+y:Nat):Int)>2000000001) = !decide (n+y<=2000000001):=by rw [<-decide_not]; exact decide_eq_decide.2 (by omega)
   have hb0:decide ((s[a+i].toNat:Int)>0)=decide (0<s[a+i].toNat):=decide_eq_decide.2 (by omega)
   have hbz:((s[a+i].toNat:Int)==0) = !decide (0<s[a+i].toNat):=by
    by_cases h:s[a+i].toNat=0
    ·rw [h]; rfl
    ·rw [dcT (by omega)]; exact beq_false_of_ne (by omega)
   have hig:decide ((i:Int)>0) = !decide (i=0):=by rw [<-decide_not]; exact decide_eq_decide.2 (by omega)
   simp only [hi0,hle,hb0] at hr
   by_cases hb:s[a+i].toNat<128
   ·rw [if_pos hb] at h;rw [Af (dcT (by omega))] at hr;obtain ⟨rfl,rfl⟩:=lfP h;refine .stop _ _ _ (hr.trans ?_) (by simp);cases decide (n+y<=2000000001)<;>cases decide (0<s[a+i].toNat)<;>cases decide (i=0)<;>rfl
   ·rw [if_neg hb] at h;rw [Ae (dcF (by omega))] at hr;exact sts hr (Pj s a hs ha j (i+1) (n+y) (by omega) hm2 ex d h)
  ·rw [Ae (dcF (by omega))] at hr;rw [drop_eq_nil_of_le (by omega),tv] at h;obtain ⟨rfl,rfl⟩:=lfP h;exact stp hr
theorem Abo:Aw prog (Aa []) (Aa [(3,Pk)]) 0 (f164.body.getD .skip):=by
 refine As (a:=body f164 0) (by kernel_rfl) fun d ex d' h=>?_
 unfold Pk at h;dsimp only at h;split at h
 ·rename_i s a n i;obtain ⟨hc,hx⟩:=Ad h;clear h;obtain ⟨h0,h1,h2,h3,h4,h5,h6⟩:=of_decide_eq_true hc;obtain ⟨a,rfl⟩:=eq_ofNat_of_zero_le h0;obtain ⟨n,rfl⟩:=eq_ofNat_of_zero_le h1;obtain ⟨i,rfl⟩:=eq_ofNat_of_zero_le h2;simp only [ntN] at h4 hx;exact Pj s a h5 (by omega) (5-i) i n (by omega) h4 ex d' hx
 ·cases h
theorem tvi:Ac prog 164 (Ent.rd1 Rn).F:=by
 refine fcK KnowsL.nil.knows (Λ:=(Aa [(3,Pk)])) func164 fun vs bs r hq=>?_
 unfold Ent.F Rn at hq;dsimp only at hq;split at hq
 ·rename_i s a;obtain ⟨hc,hx⟩:=Ad hq;refine ⟨Abo,Eq.trans ?_ hx⟩;obtain ⟨h0,h1,h2⟩:=of_decide_eq_true hc;obtain ⟨a,rfl⟩:=eq_ofNat_of_zero_le h0
  have e:AT prog (Aa []) (Aa [(3,Pk)]) f164 [.s s,.j (a:Int)] []=((ifT (decide (0<=(↑a:Int)/\(0:Int)<=(0:Int)/\(0:Int)<=(0:Int)/\(0:Int)<=(5:Int)/\0<2 ^ 0/\s.length<=4000000000/\
 (↑a:Int)<=(4000000000:Int))) (ifB (tv 5 (drop ((↑a:Int).toNat+0) s) 0 0).isSome (some (V.tup [V.j (A8 (tv 5
 (drop ((↑a:Int).toNat+0) s) 0 0)),V.j (Ax (↑a:Int).toNat (tv 5 (drop ((↑a:Int).toNat+0) s) 0
 0)),V.b (BP (tv 5 (drop ((↑a:Int).toNat+0) s) 0 0))],[])) (some (V.tup [V.j 0,V.j 0,V.b false],[])))):_):=by kernel_rfl
  rw [e];clear e;rw [Ab (dcT ⟨by omega,by omega,by omega,by omega,by decide,h1,h2⟩)];simp only [ntN,Nat.add_zero];show ifB (Ai s a).isSome (some (V.tup [.j (A8 (Ai s a)),.j (Ax a (Ai s a)),.b (BP (Ai s a))],[])) _=_;cases Ai s a<;>rfl
 ·cases hq
theorem MT (s:By) (a n i:Int):Au prog (Aa []) (Aa [(3,Pi)]) 0 (body f162 0) Pi ([.s s,.j a,.j n,.j i],[]) =
 ((ifB (decide (i<5)) (ifB (decide (i64.wrap (a+i)<(↑s.length:Int))) (ifT (decide (0<=i64.wrap (a+i))) (An s[(i64.wrap (a+i)).toNat]?
 fun z=>ifT (decide ((0:Int)<=IntKind.u64.wrap (i64.wrap (7*i)))) (ifB (decide (i64.wrap (↑z.toNat:Int)<(128:Int))) (ifB (decide (i>0)) (ifB
 (i64.wrap (↑z.toNat:Int)==(0:Int)) (some (Ex.ret,[V.j 0,V.j 0,V.b false],[])) (ifB (decide (i64.wrap (↑(BitVec.ofInt i64.bits
 n ||| BitVec.ofInt i64.bits (i64.wrap (i64.wrap (↑(BitVec.ofInt i64.bits (i64.wrap (↑z.toNat:Int)) &&& BitVec.ofInt
 i64.bits (127:Int)).toNat:Int)*(2:Int) ^ min (IntKind.u64.wrap (i64.wrap (7*i))).toNat i64.bits))).toNat:Int)>(2000000001:Int)))
 (some (Ex.ret,[V.j 0,V.j 0,V.b false],[])) (some (Ex.ret,[V.j (i64.wrap (↑(BitVec.ofInt i64.bits n ||| BitVec.ofInt i64.bits
 (i64.wrap (i64.wrap (↑(BitVec.ofInt i64.bits (i64.wrap (↑z.toNat:Int)) &&& BitVec.ofInt i64.bits (127:Int)).toNat:Int)*(2
 : Int) ^ min (IntKind.u64.wrap (i64.wrap (7*i))).toNat i64.bits))).toNat:Int)),V.j (i64.wrap (i64.wrap (a+i)+(1:Int))),
 V.b true],[])))) (ifB (decide (i64.wrap (↑(BitVec.ofInt i64.bits n ||| BitVec.ofInt i64.bits (i64.wrap (i64.wrap (↑(BitVec.ofInt
 i64.bits (i64.wrap (↑z.toNat:Int)) &&& BitVec.ofInt i64.bits (127:Int)).toNat:Int)*(2:Int) ^ min (IntKind.u64.wrap (i64.wrap (7
 * i))).toNat i64.bits))).toNat:Int)>(2000000001:Int))) (some (Ex.ret,[V.j 0,V.j 0,V.b false],[])) (some (Ex.ret,[V.j (i64.wrap
 (↑(BitVec.ofInt i64.bits n ||| BitVec.ofInt i64.bits (i64.wrap (i64.wrap (↑(BitVec.ofInt i64.bits (i64.wrap (↑z.toNat :
 Int)) &&& BitVec.ofInt i64.bits (127:Int)).toNat:Int)*(2:Int) ^ min (IntKind.u64.wrap (i64.wrap (7*i))).toNat i64.bits))).toNat:Int)),
 V.j (i64.wrap (i64.wrap (a+i)+(1:Int))),V.b true],[])))) (some (Ex.normal,[V.s s,V.j a,V.j (i64.wrap (↑(BitVec.ofInt
 i64.bits n ||| BitVec.ofInt i64.bits (i64.wrap (i64.wrap (↑(BitVec.ofInt i64.bits (i64.wrap (↑z.toNat:Int)) &&&
 BitVec.ofInt i64.bits (127:Int)).toNat:Int)*(2:Int) ^ min (IntKind.u64.wrap (i64.wrap (7*i))).toNat i64.bits))).toNat:Int)),V.i .i64
 (i64.wrap (i+1))],[]))))) (some (Ex.exit 0,[],[]))) (some (Ex.exit 0,[],[]))):_):=by kernel_rfl
theorem Ph (s:By) (a:Nat) (hs:s.length<=4000000000) (ha:a<=4000000000) : ∀ (j i n:Nat),i+j=5->n<2 ^ (7*i)->∀ ex d,(Br.br (tv (5-i) (s.drop (a+i)) i n).isSome (.leaf (.ret,([.j (Cj (tv (5-i) (s.drop (a+i)) i n)),.j (Bh a (tv (5-i) (s.drop (a+i)) i n)),.b (BP (tv (5-i) (s.drop (a+i)) i n))],[]))) (.leaf (.exit 0,([],[]))):Br (Ex×Dt)).run=some (ex,d)->
  Runs prog (Aa []) (Aa [(3,Pi)]) 0 (body f162 0) Pi ([.s s,.j (a:Int),.j (n:Int),.j (i:Int)],[]) ex d
 | 0,i,n,hi,hn,ex,d,h=>by
  have hr:=MT s a n i;rw [Ae (dcF (by omega))] at hr;rw [show 5-i=0 by omega,tv] at h;obtain ⟨rfl,rfl⟩:=lfP h;exact stp hr
 | j+1,i,n,hi,hn,ex,d,h=>by
  have hr:=MT s a n i;have hw:i64.wrap ((a:Int)+(i:Int))=((a+i:Nat):Int):=by rw [Av (by omega) (by omega)]; omega
  rw [Af (dcT (by omega)),hw] at hr;rw [show 5-i=(5-(i+1))+1 by omega] at h
  by_cases hl:a+i<s.length
  ·rw [Af (dcT (by omega)),Ab (dcT (by omega))] at hr;have hz:=s[a+i].toNat_lt;have hx:s[a+i].toNat % 128<128:=Nat.mod_lt _ (by decide);have hp:=Kq (i:=i) (by omega);have hm:s[a+i].toNat % 128*2 ^ (7*i)<=127*268435456:=mul_le_mul (by omega) hp;have hw7:i64.wrap ((7:Int)*(i:Int))=7*(i:Int):=Av (by omega) (by omega);have hwc:i64.wrap (s[a+i].toNat:Int)=(s[a+i].toNat:Int):=Av (by omega) (by omega);have hu7:IntKind.u64.wrap (7*(i:Int))=7*(i:Int):=Pa (by omega) (by omega);have hwx:i64.wrap ((s[a+i].toNat % 128:Nat):Int)=((s[a+i].toNat % 128:Nat):Int):=Av (by omega) (by omega);simp only [ntN,gtE hl,Ap,hw7,hu7,hwc,Afd _ hz,Ae0 _ i hx (by omega),or7 n _ i hn hx (by omega)] at hr;rw [Ab (dcT (by omega))] at hr;rw [drop_eq_getElem_cons hl,tv] at h
   have hm2:n+s[a+i].toNat % 128*2 ^ (7*i)<2 ^ (7*(i+1)):=by
    have h4:s[a+i].toNat % 128*2 ^ (7*i)<=127*2 ^ (7*i):=Nat.mul_le_mul_right _ (by omega);have h5:2 ^ (7*(i+1))=2 ^ (7*i)*128:=by rw [show 7*(i+1)=7*i+7 by omega,pow_add]
    omega
   have hwi:i64.wrap (((a+i:Nat):Int)+1)=((a+(i+1):Nat):Int):=by rw [Av (by omega) (by omega)]; omega
   rw [Az (n:=i) (by unfold maxI; omega)] at hr
   try rw [hwi] at hr
   generalize s[a+i].toNat % 128*2 ^ (7*i)=y at *
   have hi0:((i:Int)==0)=decide (i=0):=by
    by_cases h:i=0
    ·subst h; rfl
    ·rw [dcF h]; exact beq_false_of_ne (by omega)
   have hle:decide (((n+y:Nat):Int)<=2000000001)=decide (n+y<=2000000001):=decide_eq_decide.2 (by omega);have hgt:decide (((n+y:Nat):Int)>2000000001) = !decide (n+y<=2000000001):=by rw [<-decide_not]; exact decide_eq_decide.2 (by omega)
   have hb0:decide ((s[a+i].toNat:Int)>0)=decide (0<s[a+i].toNat):=decide_eq_decide.2 (by omega)
   have hbz:((s[a+i].toNat:Int)==0) = !decide (0<s[a+i].toNat):=by
    by_cases h:s[a+i].toNat=0
    ·rw [h]; rfl
    ·rw [dcT (by omega)]; exact beq_false_of_ne (by omega)
   have hig:decide ((i:Int)>0) = !decide (i=0):=by rw [<-decide_not]; exact decide_eq_decide.2 (by omega)
   simp only [hgt,hbz,hig] at hr
   by_cases hb:s[a+i].toNat<128
   ·rw [if_pos hb] at h;rw [Af (dcT (by omega))] at hr;obtain ⟨rfl,rfl⟩:=lfP h;refine .stop _ _ _ (hr.trans ?_) (by simp);cases decide (n+y<=2000000001)<;>cases decide (0<s[a+i].toNat)<;>cases decide (i=0)<;>rfl
   ·rw [if_neg hb] at h;rw [Ae (dcF (by omega))] at hr;exact sts hr (Ph s a hs ha j (i+1) (n+y) (by omega) hm2 ex d h)
  ·rw [Ae (dcF (by omega))] at hr;rw [drop_eq_nil_of_le (by omega),tv] at h;obtain ⟨rfl,rfl⟩:=lfP h;exact stp hr
theorem Abn:Aw prog (Aa []) (Aa [(3,Pi)]) 0 (f162.body.getD .skip):=by
 refine As (a:=body f162 0) (by kernel_rfl) fun d ex d' h=>?_
 unfold Pi at h;dsimp only at h;split at h
 ·rename_i s a n i;obtain ⟨hc,hx⟩:=Ad h;clear h;obtain ⟨h0,h1,h2,h3,h4,h5,h6⟩:=of_decide_eq_true hc;obtain ⟨a,rfl⟩:=eq_ofNat_of_zero_le h0;obtain ⟨n,rfl⟩:=eq_ofNat_of_zero_le h1;obtain ⟨i,rfl⟩:=eq_ofNat_of_zero_le h2;simp only [ntN] at h4 hx;exact Ph s a h5 (by omega) (5-i) i n (by omega) h4 ex d' hx
 ·cases h
theorem tvs:Ac prog 162 (Ent.rd1 VF).F:=by
 refine fcK KnowsL.nil.knows (Λ:=(Aa [(3,Pi)])) func162 fun vs bs r hq=>?_
 unfold Ent.F VF at hq;dsimp only at hq;split at hq
 ·rename_i s a;obtain ⟨hc,hx⟩:=Ad hq;refine ⟨Abn,Eq.trans ?_ hx⟩;obtain ⟨h0,h1,h2⟩:=of_decide_eq_true hc;obtain ⟨a,rfl⟩:=eq_ofNat_of_zero_le h0
  have e:AT prog (Aa []) (Aa [(3,Pi)]) f162 [.s s,.j (a:Int)] []=((ifT (decide (0<=(↑a:Int)/\(0:Int)<=(0:Int)/\(0:Int)<=(0:Int)/\(0:Int)<=(5:Int)/\0<2 ^ 0/\s.length<=4000000000/\
 (↑a:Int)<=(4000000000:Int))) (ifB (tv 5 (drop ((↑a:Int).toNat+0) s) 0 0).isSome (some (V.tup [V.j (Cj (tv 5
 (drop ((↑a:Int).toNat+0) s) 0 0)),V.j (Bh (↑a:Int).toNat (tv 5 (drop ((↑a:Int).toNat+0) s) 0
 0)),V.b (BP (tv 5 (drop ((↑a:Int).toNat+0) s) 0 0))],[])) (some (V.tup [V.j 0,V.j 0,V.b false],[])))):_):=by kernel_rfl
  rw [e];clear e;rw [Ab (dcT ⟨by omega,by omega,by omega,by omega,by decide,h1,h2⟩)];simp only [ntN,Nat.add_zero];show ifB (Ai s a).isSome (some (V.tup [.j (Cj (Ai s a)),.j (Bh a (Ai s a)),.b (BP (Ai s a))],[])) _=_;cases Ai s a<;>rfl
 ·cases hq
abbrev WFd:=Int×Int×Int×By×Unit
abbrev Pl:=WFd×Int×Unit
def unf (n:Int):Int:=if n % 2=1 then -((n+1) / 2) else n / 2
def AJ (f:WFd):Bool:=(decide (1<=f.1)&&decide (f.1<=30))&&(if f.2.1=0 then BX f.2.2.1&&f.2.2.2.1==[] else if f.2.1=2 then f.2.2.1==0 else false)
def Bd (s:By) (a:Nat):By×Int×Bool:=
 let u:=Ai s a
 if BP u=true/\A8 u<=s.length-Ax a u then ((s.drop (Ax a u).toNat).take (A8 u).toNat,Ax a u+A8 u,true) else ([],0,false)
def Be (s:By) (a:Nat):WFd×Int×Int×Bool:=
 let t:=Ai s a
 if BP t=false then ((0,0,0,[],()),0,0,false)
 else if A8 t % 8=2 then
  let b:=Bd s (Ax a t).toNat
  ((A8 t / 8,2,0,b.1,()),a,b.2.1,b.2.2&&AJ (A8 t / 8,2,0,b.1,()))
 else
  let u:=Ai s (Ax a t).toNat
  ((A8 t / 8,A8 t % 8,unf (A8 u),[],()),a,Ax (Ax a t).toNat u,BP u&&AJ (A8 t / 8,A8 t % 8,unf (A8 u),[],()))
def M0:Gm
 | [.j n],[]=>.need (decide (0<=n/\n<=1000000000000)) (.leaf (.j (unf n),[]))
 | _,_=>.no
def HL:Gm
 | [.agg [.j f0,.j f1,.j f2,.s f3]],[]=>.leaf (.b (AJ (f0,f1,f2,f3,())),[])
 | _,_=>.no
def tbG:Gm
 | [.s s,.j a],[]=>.need (decide (0<=a/\s.length<=4000000000/\a<=4000000000)) (.leaf (.tup [.s (Bd s a.toNat).1,.j (Bd s a.toNat).2.1,.b (Bd s a.toNat).2.2],[]))
 | _,_=>.no
def tfG:Gm
 | [.s s,.j a],[]=>.need (decide (0<=a/\s.length<=4000000000/\a<=4000000000)) (.leaf (.tup [.agg [.j (Be s a.toNat).1.1,.j (Be s a.toNat).1.2.1,.j (Be s a.toNat).1.2.2.1,.s (Be s a.toNat).1.2.2.2.1,.j (Be s a.toNat).2.1],.j (Be s a.toNat).2.2.1,.b (Be s a.toNat).2.2.2],[]))
 | _,_=>.no
theorem UB (n:Int):AT prog (Aa []) (Aa []) f165 [.j n] [] =
 ((ifB (n.tmod (2:Int)==(1:Int)) (some (V.j (i64.wrap ((i64.wrap (0-i64.wrap (n+1))).tdiv (2:Int))),[])) (some (V.i .i64
 (i64.wrap (n.tdiv (2:Int))),[]))):_):=by kernel_rfl
theorem Xe (n:Int) (hc:0<=n/\n<=1000000000000):AT prog (Aa []) (Aa []) f165 [.j n] []=(.leaf (.j (unf n),[]):Br (V×List (Option Blk))).run:=by
 rw [UB];unfold unf;have h1:tmod n 2=n % 2:=Int.tmod_eq_emod_of_nonneg hc.1;have h2:tdiv n 2=n / 2:=Int.tdiv_eq_ediv_of_nonneg hc.1;have h3:i64.wrap (n+1)=n+1:=Av (by omega) (by omega);have h4:i64.wrap (0-(n+1)) = -(n+1):=by rw [Av (by omega) (by omega)]; omega
 have h5:tdiv (-(n+1)) 2 = -((n+1) / 2):=by rw [Int.neg_tdiv,Int.tdiv_eq_ediv_of_nonneg (by omega)]
 rw [h1,h2,h3,h4,h5];rw [Av (n:=n / 2) (by omega) (by omega),Av (n:=-((n+1) / 2)) (by omega) (by omega)]
 by_cases q:n % 2=1
 ·rw [Af (by simpa using q),if_pos q]; rfl
 ·rw [Ae (by simpa using q),if_neg q]; rfl
theorem Afr:Ac prog 165 (Ent.rd1 M0).F:=by
 refine fcK KnowsL.nil.knows (Λ:=Aa []) func165 fun vs bs r' hq=>?_
 unfold Ent.F M0 at hq;dsimp only at hq;split at hq
 ·rename_i n;obtain ⟨hc,hx⟩:=Ad hq;exact ⟨Ao _,(Xe n (of_decide_eq_true hc)).trans hx⟩
 ·cases hq
theorem TJ (n:Int):AT prog (Aa []) (Aa []) f163 [.j n] [] =
 ((ifB (n.tmod (2:Int)==(0:Int)) (some (V.j (i64.wrap (n.tdiv (2:Int))),[])) (some (V.j (i64.wrap ((i64.wrap (0-i64.wrap
 (n+1))).tdiv (2:Int))),[]))):_):=by kernel_rfl
theorem VN (n:Int) (hc:0<=n/\n<=1000000000000):AT prog (Aa []) (Aa []) f163 [.j n] []=(.leaf (.j (unf n),[]):Br (V×List (Option Blk))).run:=by
 rw [TJ];unfold unf;have h1:tmod n 2=n % 2:=Int.tmod_eq_emod_of_nonneg hc.1;have h2:tdiv n 2=n / 2:=Int.tdiv_eq_ediv_of_nonneg hc.1;have h3:i64.wrap (n+1)=n+1:=Av (by omega) (by omega);have h4:i64.wrap (0-(n+1)) = -(n+1):=by rw [Av (by omega) (by omega)]; omega
 have h5:tdiv (-(n+1)) 2 = -((n+1) / 2):=by rw [Int.neg_tdiv,Int.tdiv_eq_ediv_of_nonneg (by omega)]
 rw [h1,h2,h3,h4,h5];rw [Av (n:=n / 2) (by omega) (by omega),Av (n:=-((n+1) / 2)) (by omega) (by omega)]
 by_cases q:n % 2=1
 ·rw [Ae (by rw [q]; rfl),if_pos q]; rfl
 ·rw [Af (by rw [show n % 2=0 by omega]; rfl),if_neg q]; rfl
theorem Aex:Ac prog 163 (Ent.rd1 M0).F:=by
 refine fcK KnowsL.nil.knows (Λ:=Aa []) func163 fun vs bs r' hq=>?_
 unfold Ent.F M0 at hq;dsimp only at hq;split at hq
 ·rename_i n;obtain ⟨hc,hx⟩:=Ad hq;exact ⟨Ao _,(VN n (of_decide_eq_true hc)).trans hx⟩
 ·cases hq
theorem Qs (f0 f1 f2:Int) (f3:By):AT prog (Aa [(69,.rd1 AC),(167,.rd1 Gu)]) (Aa []) f168 [.agg [.j f0,.j f1,.j f2,.s f3]] [] =
 ((ifB (!decide (1<=f0/\f0<=30)) nF (ifB (f1==0) (ifB (BX f2) (some (V.b (f3==Ag UInt8),[])) nF) (ifB (f1==2) (some (V.b
 (f2==0),[])) nF))):_):=by kernel_rfl
theorem Sh (f0 f1 f2:Int) (f3:By):AT prog (Aa [(69,.rd1 AC),(167,.rd1 Gu)]) (Aa []) f168 [.agg [.j f0,.j f1,.j f2,.s f3]] []=(.leaf (.b (AJ (f0,f1,f2,f3,())),[]):Br (V×List (Option Blk))).run:=by
 rw [Qs];unfold AJ;dsimp only;have d1:decide (1<=f0/\f0<=30)=(decide (1<=f0)&&decide (f0<=30)):=Bool.decide_and ..;rw [d1]
 cases hA:(decide (1<=f0)&&decide (f0<=30)) with
 | false=>rfl
 | true=>
  rw [Bool.not_true,AR]
  by_cases q:f1=0
  ·rw [Af (by simpa using q),if_pos q];cases BX f2<;>rfl
  ·rw [Ae (by simpa using q),if_neg q]
   by_cases q2:f1=2
   ·rw [Af (by simpa using q2),if_pos q2]; rfl
   ·rw [Ae (by simpa using q2),if_neg q2]; rfl
theorem Adi:Ac prog 168 (Ent.rd1 HL).F:=by
 refine fcK (kc func69 Fr (kc func167 WI KnowsL.nil)).knows (Λ:=Aa []) func168 fun vs bs r' hq=>?_
 unfold Ent.F HL at hq;dsimp only at hq;split at hq
 ·rename_i f0 f1 f2 f3;exact ⟨Ao _,(Sh f0 f1 f2 f3).trans hq⟩
 ·cases hq
theorem P2 (f0 f1 f2:Int) (f3:By):AT prog (Aa [(100,.rd1 AC),(135,.rd1 Gu)]) (Aa []) f136 [.agg [.j f0,.j f1,.j f2,.s f3]] [] =
 ((ifB (!decide (1<=f0/\f0<=30)) nF (ifB (f1==0) (ifB (BX f2) (some (V.b (f3==Ag UInt8),[])) nF) (ifB (f1==2) (some (V.b
 (f2==0),[])) nF))):_):=by kernel_rfl
theorem Rw (f0 f1 f2:Int) (f3:By):AT prog (Aa [(100,.rd1 AC),(135,.rd1 Gu)]) (Aa []) f136 [.agg [.j f0,.j f1,.j f2,.s f3]] []=(.leaf (.b (AJ (f0,f1,f2,f3,())),[]):Br (V×List (Option Blk))).run:=by
 rw [P2];unfold AJ;dsimp only;have d1:decide (1<=f0/\f0<=30)=(decide (1<=f0)&&decide (f0<=30)):=Bool.decide_and ..;rw [d1]
 cases hA:(decide (1<=f0)&&decide (f0<=30)) with
 | false=>rfl
 | true=>
  rw [Bool.not_true,AR]
  by_cases q:f1=0
  ·rw [Af (by simpa using q),if_pos q];cases BX f2<;>rfl
  ·rw [Ae (by simpa using q),if_neg q]
   by_cases q2:f1=2
   ·rw [Af (by simpa using q2),if_pos q2]; rfl
   ·rw [Ae (by simpa using q2),if_neg q2]; rfl
theorem Abw:Ac prog 136 (Ent.rd1 HL).F:=by
 refine fcK (kc func100 Qj (kc func135 Th KnowsL.nil)).knows (Λ:=Aa []) func136 fun vs bs r' hq=>?_
 unfold Ent.F HL at hq;dsimp only at hq;split at hq
 ·rename_i f0 f1 f2 f3;exact ⟨Ao _,(Rw f0 f1 f2 f3).trans hq⟩
 ·cases hq
theorem EQ (s:By) (a:Nat):(0<=A8 (Ai s a)/\A8 (Ai s a)<=34359738368)/\0<=Ax a (Ai s a)/\Ax a (Ai s a)<=s.length:=by
 cases e:Ai s a with
 | none=>exact ⟨⟨by decide,by decide⟩,Int.le_refl 0,Int.natCast_nonneg _⟩
 | some x=>
  obtain ⟨n,k,ok⟩:=x;obtain ⟨h1,h2,h3,h4⟩:=Ew e;dsimp only at h1 h2 h3 h4;refine ⟨⟨?_,?_⟩,?_,?_⟩
  ·show (0:Int)<=(n:Int); omega
  ·show (n:Int)<=34359738368; omega
  ·show (0:Int)<=((a+k:Nat):Int); omega
  ·show ((a+k:Nat):Int)<=(s.length:Int); omega
theorem Fu {s:By} {a:Nat} (h:BP (Ai s a)=true):(a:Int)<Ax a (Ai s a)/\Ax a (Ai s a)<=s.length:=by
 refine ⟨?_,(EQ s a).2.2⟩
 cases e:Ai s a with
 | none=>rw [e] at h; cases h
 | some x=>
  obtain ⟨n,k,ok⟩:=x;obtain ⟨h1,h2,h3,h4⟩:=Ew e;show (a:Int)<((a+k:Nat):Int);dsimp only at h2;omega
theorem Xg (s:By) (a:Int):AT prog (Aa [(164,.rd1 Rn)]) (Aa []) f166 [.s s,.j a] [] =
 ((ifT (decide (0<=a/\s.length<=4000000000/\a<=4000000000)) (ifB (!BP (Ai s a.toNat)) (some (V.tup [V.s (Ag UInt8),V.j 0,V.b false],[])) (ifB
 (decide (A8 (Ai s a.toNat)>i64.wrap ((↑s.length:Int)-Ax a.toNat (Ai s a.toNat)))) (some (V.tup [V.s (Ag UInt8),V.j 0,V.b false],[])) (ifT
 (decide ((0:Int)<=Ax a.toNat (Ai s a.toNat))&&decide (Ax a.toNat (Ai s a.toNat)<=i64.wrap (Ax a.toNat (Ai s a.toNat)+A8 (Ai s a.toNat)))
 && decide (i64.wrap (Ax a.toNat (Ai s a.toNat)+A8 (Ai s a.toNat))<=(↑s.length:Int))) (some (V.tup [V.s (take ((i64.wrap (Ax a.toNat
 (Ai s a.toNat)+A8 (Ai s a.toNat))).toNat-(Ax a.toNat (Ai s a.toNat)).toNat) (drop (Ax a.toNat (Ai s a.toNat)).toNat s)),V.j (i64.wrap
 (Ax a.toNat (Ai s a.toNat)+A8 (Ai s a.toNat))),V.b true],[])))))):_):=by kernel_rfl
theorem Z3 (s:By) (a:Int) (hc:0<=a/\s.length<=4000000000/\a<=4000000000):AT prog (Aa [(164,.rd1 Rn)]) (Aa []) f166 [.s s,.j a] []=(.leaf (.tup [.s (Bd s a.toNat).1,.j (Bd s a.toNat).2.1,.b (Bd s a.toNat).2.2],[]):Br (V×List (Option Blk))).run:=by
 rw [Xg];obtain ⟨h1,h2,h3⟩:=hc;obtain ⟨a,rfl⟩:=eq_ofNat_of_zero_le h1;simp only [ntN];obtain ⟨⟨u1,u2⟩,u3,u4⟩:=EQ s a;rw [Ab (dcT ⟨h1,h2,h3⟩)];unfold Bd;dsimp only;have w1:i64.wrap ((s.length:Int)-Ax a (Ai s a))=(s.length:Int)-Ax a (Ai s a):=Av (by omega) (by omega);have w2:i64.wrap (Ax a (Ai s a)+A8 (Ai s a))=Ax a (Ai s a)+A8 (Ai s a):=Av (by omega) (by omega);simp only [w1,w2]
 cases hk:BP (Ai s a) with
 | false=>rw [Bool.not_false,Bg,if_neg (fun h=>by cases h.1)]; rfl
 | true=>
  rw [Bool.not_true,AR]
  by_cases q:A8 (Ai s a)<=s.length-Ax a (Ai s a)
  ·rw [Ae (dcF (by omega)),if_pos ⟨rfl,q⟩,Ab (by simp only [anE,dcE]; omega)];have e:(Ax a (Ai s a)+A8 (Ai s a)).toNat-(Ax a (Ai s a)).toNat=(A8 (Ai s a)).toNat:=by omega
   rw [e]; rfl
  ·rw [Af (dcT (by omega)),if_neg (fun h=>q h.2)]; rfl
theorem itb:Ac prog 166 (Ent.rd1 tbG).F:=by
 refine fcK (kc func164 tvi KnowsL.nil).knows (Λ:=Aa []) func166 fun vs bs r' hq=>?_
 unfold Ent.F tbG at hq;dsimp only at hq;split at hq
 ·rename_i s a;obtain ⟨hc,hx⟩:=Ad hq;exact ⟨Ao _,(Z3 s a (of_decide_eq_true hc)).trans hx⟩
 ·cases hq
theorem Xf (s:By) (a:Int):AT prog (Aa [(164,.rd1 Rn),(166,.rd1 tbG),(165,.rd1 M0),(168,.rd1 HL)]) (Aa []) f128 [.s s,.j a] [] =
 ((ifT (decide (0<=a/\s.length<=4000000000/\a<=4000000000)) (ifB (!BP (Ai s a.toNat)) (some (V.tup [V.agg [V.j 0,V.j 0,V.j 0,V.s (Ag
 UInt8),V.j 0],V.j 0,V.b false],[])) (ifB ((A8 (Ai s a.toNat)).tmod (8:Int)==(2:Int)) (ifT (decide ((0:Int)<=Ax a.toNat (Ai s a.toNat)/\
 s.length<=4000000000/\Ax a.toNat (Ai s a.toNat)<=(4000000000:Int))) (ifB (Bd s (Ax a.toNat (Ai s a.toNat)).toNat).2.2 (some (V.tup [V.agg [V.i
 .i64 (i64.wrap ((A8 (Ai s a.toNat)).tdiv (8:Int))),V.j ((A8 (Ai s a.toNat)).tmod (8:Int)),V.j 0,V.s (Bd s (Ax a.toNat (Ai s
 a.toNat)).toNat).1,V.j a],V.j (Bd s (Ax a.toNat (Ai s a.toNat)).toNat).2.1,V.b (AJ (i64.wrap ((A8 (Ai s a.toNat)).tdiv (8 :
 Int)),(A8 (Ai s a.toNat)).tmod (8:Int),(0:Int),(Bd s (Ax a.toNat (Ai s a.toNat)).toNat).1,()))],[])) (some (V.tup [V.agg [V.j (i64.wrap
 ((A8 (Ai s a.toNat)).tdiv (8:Int))),V.j ((A8 (Ai s a.toNat)).tmod (8:Int)),V.j 0,V.s (Bd s (Ax a.toNat (Ai s a.toNat)).toNat).1,V.i .i64
 a],V.j (Bd s (Ax a.toNat (Ai s a.toNat)).toNat).2.1,V.b false],[])))) (ifT (decide ((0:Int)<=Ax a.toNat (Ai s a.toNat)/\s.length<=(4000000000 :
 Nat)/\Ax a.toNat (Ai s a.toNat)<=(4000000000:Int))) (ifT (decide ((0:Int)<=A8 (Ai s (Ax a.toNat (Ai s a.toNat)).toNat)/\A8 (Ai s (Ax a.toNat
 (Ai s a.toNat)).toNat)<=(1000000000000:Int))) (ifB (BP (Ai s (Ax a.toNat (Ai s a.toNat)).toNat)) (some (V.tup [V.agg [V.j (i64.wrap ((A8 (Ai
 s a.toNat)).tdiv (8:Int))),V.j ((A8 (Ai s a.toNat)).tmod (8:Int)),V.j (unf (A8 (Ai s (Ax a.toNat (Ai s a.toNat)).toNat))),V.s (Ag UInt8),
 V.j a],V.j (Ax (Ax a.toNat (Ai s a.toNat)).toNat (Ai s (Ax a.toNat (Ai s a.toNat)).toNat)),V.b (AJ (i64.wrap ((A8 (Ai s
 a.toNat)).tdiv (8:Int)),(A8 (Ai s a.toNat)).tmod (8:Int),unf (A8 (Ai s (Ax a.toNat (Ai s a.toNat)).toNat)),Ag UInt8,()))],[])) (some (V.tup [V.agg
 [V.j (i64.wrap ((A8 (Ai s a.toNat)).tdiv (8:Int))),V.j ((A8 (Ai s a.toNat)).tmod (8:Int)),V.j (unf (A8 (Ai s (Ax a.toNat (Ai
 s a.toNat)).toNat))),V.s (Ag UInt8),V.j a],V.j (Ax (Ax a.toNat (Ai s a.toNat)).toNat (Ai s (Ax a.toNat (Ai s a.toNat)).toNat)),V.b false],
 [])))))))):_):=by kernel_rfl
theorem Z2 (s:By) (a:Int) (hc:0<=a/\s.length<=4000000000/\a<=4000000000):AT prog (Aa [(164,.rd1 Rn),(166,.rd1 tbG),(165,.rd1 M0),(168,.rd1 HL)]) (Aa []) f128 [.s s,.j a] []=(.leaf (.tup [.agg [.j (Be s a.toNat).1.1,.j (Be s a.toNat).1.2.1,.j (Be s a.toNat).1.2.2.1,.s (Be s a.toNat).1.2.2.2.1,.j (Be s a.toNat).2.1],.j (Be s a.toNat).2.2.1,.b (Be s a.toNat).2.2.2],[]):Br (V×List (Option Blk))).run:=by
 rw [Xf];obtain ⟨h1,h2,h3⟩:=hc;obtain ⟨a,rfl⟩:=eq_ofNat_of_zero_le h1;simp only [ntN];obtain ⟨⟨u1,u2⟩,u3,u4⟩:=EQ s a;obtain ⟨⟨v1,v2⟩,v3,v4⟩:=EQ s (Ax a (Ai s a)).toNat;have e1:tdiv (A8 (Ai s a)) 8=A8 (Ai s a) / 8:=Int.tdiv_eq_ediv_of_nonneg u1;have e2:tmod (A8 (Ai s a)) 8=A8 (Ai s a) % 8:=Int.tmod_eq_emod_of_nonneg u1;have e3:i64.wrap (A8 (Ai s a) / 8)=A8 (Ai s a) / 8:=Av (by omega) (by omega);rw [Ab (dcT ⟨h1,h2,h3⟩)];simp only [e1,e2,e3];unfold Be;dsimp only
 cases hk:BP (Ai s a) with
 | false=>rw [Bool.not_false,Bg,if_pos rfl]; rfl
 | true=>
  rw [Bool.not_true,AR,if_neg (by simp)];have hd:decide (0<=Ax a (Ai s a)/\s.length<=4000000000/\Ax a (Ai s a)<=4000000000)=true:=dcT ⟨u3,h2,by omega⟩
  by_cases q:A8 (Ai s a) % 8=2
  ·rw [Af (by simpa using q),if_pos q,q,hd,Cw];cases hb:(Bd s (Ax a (Ai s a)).toNat).2.2<;>rfl
  ·rw [Ae (by simpa using q),if_neg q,hd,Cw,Ab (dcT ⟨v1,by omega⟩)];cases hb:BP (Ai s (Ax a (Ai s a)).toNat)<;>rfl
theorem itf:Ac prog 128 (Ent.rd1 tfG).F:=by
 refine fcK (kc func164 tvi (kc func166 itb (kc func165 Afr (kc func168 Adi KnowsL.nil)))).knows (Λ:=Aa []) func128 fun vs bs r' hq=>?_
 unfold Ent.F tfG at hq;dsimp only at hq;split at hq
 ·rename_i s a;obtain ⟨hc,hx⟩:=Ad hq;exact ⟨Ao _,(Z2 s a (of_decide_eq_true hc)).trans hx⟩
 ·cases hq
theorem KG {s:By} {a:Nat} (h:(Be s a).2.2.2=true):AJ (Be s a).1=true/\(a:Int)<(Be s a).2.2.1/\(Be s a).2.2.1<=s.length/\(Be s a).2.1=a:=by
 have ha : ∀ {x:Int},(0:Int)<=x->((x.toNat:Nat):Int)=x:=fun h=>by omega
 unfold Be at h ⊢;dsimp only at h ⊢
 cases hk:BP (Ai s a) with
 | false=>rw [hk] at h; cases h
 | true=>
  have t1:=Fu hk;have t2:=ha (x:=Ax a (Ai s a)) (by omega);rw [hk,if_neg (by simp)] at h;rw [if_neg (by simp)]
  by_cases q:A8 (Ai s a) % 8=2
  ·rw [if_pos q] at h ⊢;dsimp only at h ⊢;rw [anE] at h;refine ⟨h.2,?_⟩;have h:=h.1;unfold Bd at h ⊢;dsimp only at h ⊢;split at h
   ·rename_i hh;rw [if_pos hh];have u:=Fu hh.1;have v:=(EQ s (Ax a (Ai s a)).toNat).1.1;dsimp only;exact ⟨by omega,by omega,rfl⟩
   ·cases h
  ·rw [if_neg q] at h ⊢;dsimp only at h ⊢;rw [anE] at h;have u:=Fu h.1;exact ⟨h.2,by omega,u.2,rfl⟩
def rdL (s:By):Nat->Nat->List Pl->Option (List Pl)
 | 0,a,o=>if a<s.length then none else some o
 | f+1,a,o=>if a<s.length then (if (Be s a).2.2.2=true/\o.length≠40 then rdL s f (Be s a).2.2.1.toNat (o++[((Be s a).1,(a:Int),())]) else none) else some o
def rdP (s:By):Option (List Pl):=if s.length<=400 then rdL s s.length 0 [] else none
def Ug:Gm
 | [.s s],[]=>.need (decide (s.length<=4000000000)) (.leaf (.tup [.ref 0 0 ((rdP s).getD []).length,.b (rdP s).isSome],[R0 PCd ((rdP s).getD [])]))
 | _,_=>.no
def PC:LoopEnt:=⟨37,[0,4,5],[4],[2,3],fun
 | ([.s s,.ref 0 0 n,.j a],[R0 PCd o])=>.need (decide (0<=a/\a.toNat<=s.length/\s.length<=400/\n=o.length/\o.length<=a.toNat)) (.br (rdL s (s.length-a.toNat) a.toNat o).isSome (.leaf (.exit 0,([.ref 0 0 ((rdL s (s.length-a.toNat) a.toNat o).getD []).length],[R0 PCd ((rdL s (s.length-a.toNat) a.toNat o).getD [])]))) (.leaf (.ret,([.ref 0 0 0,.b false],[R0 PCd []]))))
 | _=>.no⟩
theorem Ni (s:By) (n:Nat) (a:Int) (o:List Pl):Au prog (Aa [(128,.rd1 tfG)]) (Aa [(5,PC)]) 0 (body f79 0) PC ([.s s,.ref 0 0 n,.j a],[R0 PCd o]) =
 ((ifB (decide (a<(↑s.length:Int))) (ifT (decide (0<=a/\s.length<=4000000000/\a<=4000000000)) (ifB (!(Be s a.toNat).2.2.2) (some (Ex.ret,[V.ref 0 0
 0,V.b false],[R0 PCd (Ag PCd.den)])) (ifB ((↑n:Int)==(40:Int)) (some (Ex.ret,[V.ref 0 0 0,V.b false],[R0 PCd
 (Ag PCd.den)])) (ifT (decide ((n+1)*48<=140737488355328)&&decide (n+1<=maxI)) (some (Ex.normal,[V.s s,V.ref 0 0 (n+(1 :
 Nat)),V.j (Be s a.toNat).2.2.1],[R0 PCd (take n (drop 0 o)++(((Be s a.toNat).1.1,(Be s
 a.toNat).1.2.1,(Be s a.toNat).1.2.2.1,(Be s a.toNat).1.2.2.2.1,()),(Be s a.toNat).2.1,())::Ag PCd.den)])))))) (some (Ex.exit
 0,[V.ref 0 0 n],[R0 PCd o]))):_):=by kernel_rfl
theorem Ws (s:By):Bm prog (Aa [(128,.rd1 tfG)]) (Aa [(5,PC)]) f79 [.s s] [] =
 ((ifB (decide ((↑s.length:Int)>(400:Int))) (some (V.tup [V.ref 0 0 0,V.b false],[R0 PCd (Ag PCd.den)])) (ifT (decide ((0:Int)<=(0:Int)
 /\ 0<=s.length/\s.length<=400/\0=0/\0<=0)) (ifB (rdL s (s.length-0) 0 (Ag PCd.den)).isSome
 (some (V.tup [V.ref 0 0 ((rdL s (s.length-0) 0 (Ag PCd.den)).getD (Ag Pl)).length,V.b true],[R0 PCd ((rdL s (s.length-(0 :
 Nat)) 0 (Ag PCd.den)).getD (Ag Pl))])) (some (V.tup [V.ref 0 0 0,V.b false],[R0 PCd (Ag PCd.den)]))))):_):=by kernel_rfl
theorem PE (s:By) : ∀ (f f' a:Nat) (o:List Pl),s.length-a<=f->s.length-a<=f'->rdL s f a o=rdL s f' a o:=by
 intro f
 induction f with
 | zero=>
  intro f' a o h1 h2
  cases f' with
  | zero=>rfl
  | succ f'=>rw [rdL,rdL,if_neg (by omega),if_neg (by omega)]
 | succ f ih=>
  intro f' a o h1 h2
  cases f' with
  | zero=>rw [rdL,rdL,if_neg (by omega),if_neg (by omega)]
  | succ f'=>
   rw [rdL,rdL]
   by_cases q:a<s.length
   ·rw [if_pos q,if_pos q]
    by_cases q2:(Be s a).2.2.2=true/\o.length≠40
    ·rw [if_pos q2,if_pos q2];have:=KG q2.1;exact ih f' _ _ (by omega) (by omega)
    ·rw [if_neg q2,if_neg q2]
   ·rw [if_neg q,if_neg q]
theorem Wx {s:By} {a:Nat} {o:List Pl} (h:a<s.length) (h1:(Be s a).2.2.2=true) (h2:o.length≠40):rdL s (s.length-a) a o=rdL s (s.length-(Be s a).2.2.1.toNat) (Be s a).2.2.1.toNat (o++[((Be s a).1,(a:Int),())]):=by
 have e:s.length-a=(s.length-a-1)+1:=by omega
 have ht:=KG h1;rw [e,rdL,if_pos h,if_pos ⟨h1,h2⟩];exact PE s _ _ _ _ (by omega) (by omega)
theorem SP {s:By} {a:Nat} {o:List Pl} (h:a<s.length) (h1:(Be s a).2.2.2=false\/o.length=40):rdL s (s.length-a) a o=none:=by
 have e:s.length-a=(s.length-a-1)+1:=by omega
 rw [e,rdL,if_pos h,if_neg]
 rintro ⟨h2,h3⟩
 rcases h1 with h1 | h1
 ·rw [h1] at h2; cases h2
 ·exact h3 h1
theorem SO {s:By} {a:Nat} {o:List Pl} (h:s.length<=a):rdL s (s.length-a) a o=some o:=by
 have e:s.length-a=0:=by omega
 rw [e,rdL,if_neg (by omega)]
theorem Wt (s:By) (hs:s.length<=400) : ∀ (j a:Nat) (o:List Pl),s.length-a<=j->a<=s.length->o.length<=a->∀ ex d,(Br.br (rdL s (s.length-a) a o).isSome (.leaf (.exit 0,([.ref 0 0 ((rdL s (s.length-a) a o).getD []).length],[R0 PCd ((rdL s (s.length-a) a o).getD [])]))) (.leaf (.ret,([.ref 0 0 0,.b false],[R0 PCd []]))):Br (Ex×Dt)).run=some (ex,d)->
  Runs prog (Aa [(128,.rd1 tfG)]) (Aa [(5,PC)]) 0 (body f79 0) PC ([.s s,.ref 0 0 o.length,.j (a:Int)],[R0 PCd o]) ex d:=by
 intro j
 induction j with
 | zero=>
  intro a o hj ha ho ex d h;have hr:=Ni s o.length a o;rw [Ae (dcF (by omega))] at hr;rw [SO (by omega)] at h;have h8:=Bk (show (Br.leaf (.exit 0,([.ref 0 0 o.length],[R0 PCd o])):Br (Ex×Dt)).run=some (ex,d) from h);obtain ⟨rfl,rfl⟩:=Prod.mk.inj h8;exact stp hr
 | succ j ih=>
  intro a o hj ha ho ex d h;have hr:=Ni s o.length a o;have hM:=mxI
  by_cases q:a<s.length
  ·rw [Af (dcT (by omega)),Ab (dcT (by omega)),ntN] at hr
   cases hk:(Be s a).2.2.2 with
   | false=>
    rw [hk,Bool.not_false,Bg] at hr;rw [SP q (.inl hk)] at h;have h8:=Bk (show (Br.leaf (.ret,([.ref 0 0 0,.b false],[R0 PCd []])):Br (Ex×Dt)).run=some (ex,d) from h);obtain ⟨rfl,rfl⟩:=Prod.mk.inj h8;exact stp hr
   | true=>
    obtain ⟨t1,t2,t3,t4⟩:=KG hk;rw [hk,Bool.not_true,AR] at hr
    by_cases q2:o.length=40
    ·rw [Af (by rw [q2]; rfl)] at hr;rw [SP q (.inr q2)] at h;have h8:=Bk (show (Br.leaf (.ret,([.ref 0 0 0,.b false],[R0 PCd []])):Br (Ex×Dt)).run=some (ex,d) from h);obtain ⟨rfl,rfl⟩:=Prod.mk.inj h8;exact stp hr
    ·rw [Ae (by simpa using fun e=>q2 (by omega)),T2 (by omega),drop_zero,take_length,t4] at hr;rw [Wx q hk q2] at h;obtain ⟨b,hb⟩:=eq_ofNat_of_zero_le (a:=(Be s a).2.2.1) (by omega);rw [hb] at hr h t2 t3;rw [ntN] at h;have:=ih b (o++[((Be s a).1,(a:Int),())]) (by omega) (by omega) (by simp; omega) ex d h;rw [length_append] at this;exact sts hr this
  ·rw [Ae (dcF (by omega))] at hr;rw [SO (by omega)] at h;have h8:=Bk (show (Br.leaf (.exit 0,([.ref 0 0 o.length],[R0 PCd o])):Br (Ex×Dt)).run=some (ex,d) from h);obtain ⟨rfl,rfl⟩:=Prod.mk.inj h8;exact stp hr
theorem Ab9:Aw prog (Aa [(128,.rd1 tfG)]) (Aa [(5,PC)]) 0 (f79.body.getD .skip):=by
 refine As (a:=body f79 0) (by kernel_rfl) fun d ex d' h=>?_
 unfold PC at h;dsimp only at h;split at h
 ·rename_i s n a o;obtain ⟨hc,hx⟩:=Ad h;clear h;obtain ⟨h0,h1,h2,rfl,h4⟩:=of_decide_eq_true hc;obtain ⟨a,rfl⟩:=eq_ofNat_of_zero_le h0;simp only [ntN] at h1 h4 hx;exact Wt s h2 _ a o (Nat.le_refl _) h1 h4 ex d' hx
 ·cases h
theorem rdp:Ac prog 79 (Ent.rd1 Ug).F:=by
 refine fcC (kc func128 itf KnowsL.nil).knows (Λ:=(Aa [(5,PC)])) func79 fun vs bs r hq=>?_
 unfold Ent.F Ug at hq;dsimp only at hq;split at hq
 ·rename_i s;obtain ⟨hc,hx⟩:=Ad hq;refine ⟨Ab9,Eq.trans ?_ hx⟩;rw [Ws];unfold rdP
  by_cases q:s.length<=400
  ·rw [Ae (dcF (by omega)),if_pos q,Ab (dcT ⟨by omega,by omega,q,rfl,by omega⟩),sub_zero];simp only [A7];cases rdL s s.length 0 []<;>rfl
  ·rw [Af (dcT (by omega)),if_neg q]; rfl
 ·cases hq
end Go.Proofs.YtckmoiopjocapaaGreat.Den
