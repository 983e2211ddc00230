/- What functions of the program do, by the machine: Wi3 Wi4 Wi5 Wi6 En1 Wi7 Val2 Val3 Val4 Val5 Val6 Val7 Val8 Val9 Val10 Val11 Val12 Val13 Val14 Val15 Val16 Val17 Val18 Val19 Val20 Val21 Dc1. -/
import Derived.Test.YtdocpdfkeohkiaaGreatDoorDA
import Derived.KernelRfl
import Derived.Test.YtdocpdfkeohkiaaGreatDoorRows
open Go.IntKind (i64)
open Go.Proofs.Tryz
open List (Pairwise all_cons all_eq_true any_cons any_eq_true append_assoc append_nil drop drop_eq_getElem_cons drop_eq_nil_of_le drop_zero getElem_mem length_append length_cons length_drop length_map length_singleton map_congr_left map_map mem_cons mem_cons_of_mem mem_range nil_append pairwise_cons range take take_length)
open Int (eq_ofNat_of_zero_le fdiv toNat)
open Nat (le_refl pow_succ zero_add)
open Option (getD_some isSome_some map_eq_some_iff)
namespace Go.Proofs.YtdocpdfkeohkiaaGreatDoor.Den
open Go.Proofs
set_option maxRecDepth 100000
def rdL (s:By):Nat->Nat->List Pl->Option (List Pl)
 | 0,a,o=>if a<s.length then none else some o
 | f+1,a,o=>if a<s.length then (if (AZ s a).2.2.2=true/\o.length≠40 then rdL s f (AZ s a).2.2.1.toNat (o++[((AZ s a).1,(a:Int),())]) else none) else some o
def rdP (s:By):Option (List Pl):=if s.length<=400 then rdL s s.length 0 [] else none
def VY:Gm
 | [.s s],[]=>.need (decide (s.length<=4000000000)) (.leaf (.tup [.ref 0 0 ((rdP s).getD []).length,.b (rdP s).isSome],[R0 PCd ((rdP s).getD [])]))
 | _,_=>.no
def Qu:LoopEnt:=⟨37,[0,4,5],[4],[2,3],fun
 | ([.s s,.ref 0 0 n,.j a],[R0 PCd o])=>.need (decide (0<=a/\a.toNat<=s.length/\s.length<=400/\n=o.length/\o.length<=a.toNat)) (.br (rdL s (s.length-a.toNat) a.toNat o).isSome (.leaf (.exit 0,([.ref 0 0 ((rdL s (s.length-a.toNat) a.toNat o).getD []).length],[R0 PCd ((rdL s (s.length-a.toNat) a.toNat o).getD [])]))) (.leaf (.ret,([.ref 0 0 0,.b false],[R0 PCd []]))))
 | _=>.no⟩
theorem N4 (s:By) (n:Nat) (a:Int) (o:List Pl):At prog (Aa [(222,.rd1 tfG)]) (Aa [(5,Qu)]) 0 (body f188 0) Qu ([.s s,.ref 0 0 n,.j a],[R0 PCd o]) =
 ((ifB (decide (a<(↑s.length:Int))) (ifT (decide (0<=a/\s.length<=4000000000/\a<=4000000000)) (ifB (!(AZ s a.toNat).2.2.2) (some (Ex.ret,[V.ref 0 0
 0,V.b false],[R0 PCd (Ag PCd.den)])) (ifB ((↑n:Int)==(40:Int)) (some (Ex.ret,[V.ref 0 0 0,V.b false],[R0 PCd
 (Ag PCd.den)])) (ifT (decide ((n+1)*48<=140737488355328)&&decide (n+1<=maxI)) (some (Ex.normal,[V.s s,V.ref 0 0 (n+(1 :
 Nat)),V.j (AZ s a.toNat).2.2.1],[R0 PCd (take n (drop 0 o)++(((AZ s a.toNat).1.1,(AZ s
 a.toNat).1.2.1,(AZ s a.toNat).1.2.2.1,(AZ s a.toNat).1.2.2.2.1,()),(AZ s a.toNat).2.1,())::Ag PCd.den)])))))) (some (Ex.exit
 0,[V.ref 0 0 n],[R0 PCd o]))):_):=by kernel_rfl
theorem YP (s:By):BI prog (Aa [(222,.rd1 tfG)]) (Aa [(5,Qu)]) f188 [.s s] [] =
 ((ifB (decide ((↑s.length:Int)>(400:Int))) (some (V.tup [V.ref 0 0 0,V.b false],[R0 PCd (Ag PCd.den)])) (ifT (decide ((0:Int)<=(0:Int)
 /\ 0<=s.length/\s.length<=400/\0=0/\0<=0)) (ifB (rdL s (s.length-0) 0 (Ag PCd.den)).isSome
 (some (V.tup [V.ref 0 0 ((rdL s (s.length-0) 0 (Ag PCd.den)).getD (Ag Pl)).length,V.b true],[R0 PCd ((rdL s (s.length-(0 :
 Nat)) 0 (Ag PCd.den)).getD (Ag Pl))])) (some (V.tup [V.ref 0 0 0,V.b false],[R0 PCd (Ag PCd.den)]))))):_):=by kernel_rfl
theorem Qw (s:By) : ∀ (f f' a:Nat) (o:List Pl),s.length-a<=f->s.length-a<=f'->rdL s f a o=rdL s f' a o:=by
 intro f
 induction f with
 | zero=>
  intro f' a o h1 h2
  cases f' with
  | zero=>rfl
  | succ f'=>rw [rdL,rdL,if_neg (by omega),if_neg (by omega)]
 | succ f ih=>
  intro f' a o h1 h2
  cases f' with
  | zero=>rw [rdL,rdL,if_neg (by omega),if_neg (by omega)]
  | succ f'=>
   rw [rdL,rdL]
   by_cases q:a<s.length
   ·rw [if_pos q,if_pos q]
    by_cases q2:(AZ s a).2.2.2=true/\o.length≠40
    ·rw [if_pos q2,if_pos q2];have:=Ng q2.1;exact ih f' _ _ (by omega) (by omega)
    ·rw [if_neg q2,if_neg q2]
   ·rw [if_neg q,if_neg q]
theorem YU {s:By} {a:Nat} {o:List Pl} (h:a<s.length) (h1:(AZ s a).2.2.2=true) (h2:o.length≠40):rdL s (s.length-a) a o=rdL s (s.length-(AZ s a).2.2.1.toNat) (AZ s a).2.2.1.toNat (o++[((AZ s a).1,(a:Int),())]):=by
 have e:s.length-a=(s.length-a-1)+1:=by omega
 have ht:=Ng h1;rw [e,rdL,if_pos h,if_pos ⟨h1,h2⟩];exact Qw s _ _ _ _ (by omega) (by omega)
theorem Uy {s:By} {a:Nat} {o:List Pl} (h:a<s.length) (h1:(AZ s a).2.2.2=false\/o.length=40):rdL s (s.length-a) a o=none:=by
 have e:s.length-a=(s.length-a-1)+1:=by omega
 rw [e,rdL,if_pos h,if_neg]
 rintro ⟨h2,h3⟩
 rcases h1 with h1 | h1
 ·rw [h1] at h2; cases h2
 ·exact h3 h1
theorem Ux {s:By} {a:Nat} {o:List Pl} (h:s.length<=a):rdL s (s.length-a) a o=some o:=by
 have e:s.length-a=0:=by omega
 rw [e,rdL,if_neg (by omega)]
theorem YQ (s:By) (hs:s.length<=400) : ∀ (j a:Nat) (o:List Pl),s.length-a<=j->a<=s.length->o.length<=a->∀ ex d,(Br.br (rdL s (s.length-a) a o).isSome (.leaf (.exit 0,([.ref 0 0 ((rdL s (s.length-a) a o).getD []).length],[R0 PCd ((rdL s (s.length-a) a o).getD [])]))) (.leaf (.ret,([.ref 0 0 0,.b false],[R0 PCd []]))):Br (Ex×Dt)).run=some (ex,d)->
  Runs prog (Aa [(222,.rd1 tfG)]) (Aa [(5,Qu)]) 0 (body f188 0) Qu ([.s s,.ref 0 0 o.length,.j (a:Int)],[R0 PCd o]) ex d:=by
 intro j
 induction j with
 | zero=>
  intro a o hj ha ho ex d h;have hr:=N4 s o.length a o;rw [Ac (dcF (by omega))] at hr;rw [Ux (by omega)] at h;have h8:=AO (show (Br.leaf (.exit 0,([.ref 0 0 o.length],[R0 PCd o])):Br (Ex×Dt)).run=some (ex,d) from h);obtain ⟨rfl,rfl⟩:=Prod.mk.inj h8;exact stp hr
 | succ j ih=>
  intro a o hj ha ho ex d h;have hr:=N4 s o.length a o;have hM:=mxI
  by_cases q:a<s.length
  ·rw [Ae (dcT (by omega)),Ab (dcT (by omega)),ntN] at hr
   cases hk:(AZ s a).2.2.2 with
   | false=>
    rw [hk,Bool.not_false,AR] at hr;rw [Uy q (.inl hk)] at h;have h8:=AO (show (Br.leaf (.ret,([.ref 0 0 0,.b false],[R0 PCd []])):Br (Ex×Dt)).run=some (ex,d) from h);obtain ⟨rfl,rfl⟩:=Prod.mk.inj h8;exact stp hr
   | true=>
    obtain ⟨t1,t2,t3,t4⟩:=Ng hk;rw [hk,Bool.not_true,A6] at hr
    by_cases q2:o.length=40
    ·rw [Ae (by rw [q2]; rfl)] at hr;rw [Uy q (.inr q2)] at h;have h8:=AO (show (Br.leaf (.ret,([.ref 0 0 0,.b false],[R0 PCd []])):Br (Ex×Dt)).run=some (ex,d) from h);obtain ⟨rfl,rfl⟩:=Prod.mk.inj h8;exact stp hr
    ·rw [Ac (by simpa using fun e=>q2 (by omega)),T2 (by omega),drop_zero,take_length,t4] at hr;rw [YU q hk q2] at h;obtain ⟨b,hb⟩:=eq_ofNat_of_zero_le (a:=(AZ s a).2.2.1) (by omega);rw [hb] at hr h t2 t3;rw [ntN] at h;have:=ih b (o++[((AZ s a).1,(a:Int),())]) (by omega) (by omega) (by simp; omega) ex d h;rw [length_append] at this;exact sts hr this
  ·rw [Ac (dcF (by omega))] at hr;rw [Ux (by omega)] at h;have h8:=AO (show (Br.leaf (.exit 0,([.ref 0 0 o.length],[R0 PCd o])):Br (Ex×Dt)).run=some (ex,d) from h);obtain ⟨rfl,rfl⟩:=Prod.mk.inj h8;exact stp hr
theorem Ag8:As prog (Aa [(222,.rd1 tfG)]) (Aa [(5,Qu)]) 0 (f188.body.getD .skip):=by
 refine Am (a:=body f188 0) (by kernel_rfl) fun d ex d' h=>?_
 unfold Qu at h;dsimp only at h;split at h
 ·rename_i s n a o;obtain ⟨hc,hx⟩:=Ad h;clear h;obtain ⟨h0,h1,h2,rfl,h4⟩:=of_decide_eq_true hc;obtain ⟨a,rfl⟩:=eq_ofNat_of_zero_le h0;simp only [ntN] at h1 h4 hx;exact YQ s h2 _ a o (le_refl _) h1 h4 ex d' hx
 ·cases h
theorem rdp:Af prog 188 (Ent.rd1 VY).F:=by
 refine fcC (kc func222 itf KnowsL.nil).knows (Λ:=(Aa [(5,Qu)])) func188 fun vs bs r hq=>?_
 unfold Ent.F VY at hq;dsimp only at hq;split at hq
 ·rename_i s;obtain ⟨hc,hx⟩:=Ad hq;refine ⟨Ag8,Eq.trans ?_ hx⟩;rw [YP];unfold rdP
  by_cases q:s.length<=400
  ·rw [Ac (dcF (by omega)),if_pos q,Ab (dcT ⟨by omega,by omega,q,rfl,by omega⟩),Nat.sub_zero];simp only [AX];cases rdL s s.length 0 []<;>rfl
  ·rw [Ae (dcT (by omega)),if_neg q]; rfl
 ·cases hq
def BY (ns:List Int) (i:Nat):Bool:=i==0||decide (ns.getD (i-1) 0<ns.getD i 0)
def JZ (ns:List Int):Bool:=(range ns.length).all (BY ns)
def GH (l:List Pl):List Int:=l.map fun x=>x.1.1
def CB (l:List WFd):List Int:=l.map fun x=>x.1
def BK (s:By):Option (List Pl):=match rdP s with | some l=>(if JZ (GH l)=true then some l else none) | none=>none
def Qt:LoopEnt:=⟨39,[4,15,16],[4],[2,3],fun
 | ([.ref 0 0 m,.j k,.j i],[R0 PCd o])=>.need (decide (0<=i/\i.toNat<=o.length/\m=o.length/\k=o.length/\o.length<=4000000000)) (.br (((range o.length).drop i.toNat).all (BY (GH o))) (.leaf (.exit 0,([.ref 0 0 o.length],[R0 PCd o]))) (.leaf (.ret,([.ref 0 0 0,.b false],[R0 PCd []]))))
 | _=>.no⟩
def VT:Gm
 | [.s s],[]=>.need (decide (s.length<=4000000000)) (.leaf (.tup [.ref 0 0 ((BK s).getD []).length,.b (BK s).isSome],[R0 PCd ((BK s).getD [])]))
 | _,_=>.no
theorem N1 (m:Nat) (k i:Int) (o:List Pl):At prog (Aa [(188,.rd1 VY)]) (Aa [(5,Qt)]) 0 (body f150 0) Qt ([.ref 0 0 m,.j k,.j i],[R0 PCd o]) =
 ((ifB (decide (i<k)) (ifB (decide (i>0)) (ifT (decide (0<=i64.wrap (i-1))&&decide (i64.wrap (i-1)<(↑m:Int))) (Ak o[0 +
 (i64.wrap (i-1)).toNat]? fun z=>ifT (decide (0<=i)&&decide (i<(↑m:Int))) (Ak o[0+i.toNat]? fun z_1=>ifB (decide (z.1.1>=
 z_1.1.1)) (some (Ex.ret,[V.ref 0 0 0,V.b false],[R0 PCd (Ag PCd.den)])) (some (Ex.normal,[V.ref 0 0 m,V.j k,V.i .i64
 (i64.wrap (i+1))],[R0 PCd o]))))) (some (Ex.normal,[V.ref 0 0 m,V.j k,V.j (i64.wrap (i+1))],[R0 PCd o]))) (some (Ex.exit 0,[V.ref 0 0 m],[R0 PCd o]))):_):=by kernel_rfl
theorem YI (s:By):BI prog (Aa [(188,.rd1 VY)]) (Aa [(5,Qt)]) f150 [.s s] [] =
 ((ifT (decide (s.length<=4000000000)) (ifB (!(rdP s).isSome) (some (V.tup [V.ref 0 0 0,V.b false],[R0 PCd (Ag PCd.den)])) (ifT (decide
 ((0:Int)<=(0:Int)/\0<=((rdP s).getD (Ag Pl)).length/\((rdP s).getD (Ag Pl)).length=((rdP s).getD (Ag Pl)).length/\(↑((rdP s).getD (Ag
 Pl)).length:Int)=(↑((rdP s).getD (Ag Pl)).length:Int)/\((rdP s).getD (Ag Pl)).length<=4000000000)) (ifB ((drop 0 (range ((rdP
 s).getD (Ag Pl)).length)).all (BY (GH ((rdP s).getD (Ag Pl))))) (some (V.tup [V.ref 0 0 ((rdP s).getD (Ag Pl)).length,V.b true],[R0 PCd
 ((rdP s).getD (Ag Pl))])) (some (V.tup [V.ref 0 0 0,V.b false],[R0 PCd (Ag PCd.den)])))))):_):=by kernel_rfl
theorem Ll (o:List Pl) (hm:o.length<=4000000000) : ∀ (j i:Nat),i+j=o.length->∀ ex d,(Br.br (((range o.length).drop i).all (BY (GH o))) (.leaf (.exit 0,([.ref 0 0 o.length],[R0 PCd o]))) (.leaf (.ret,([.ref 0 0 0,.b false],[R0 PCd []]))):Br (Ex×Dt)).run=some (ex,d)->
  Runs prog (Aa [(188,.rd1 VY)]) (Aa [(5,Qt)]) 0 (body f150 0) Qt ([.ref 0 0 o.length,.j (o.length:Int),.j (i:Int)],[R0 PCd o]) ex d
 | 0,i,hi,ex,d,h=>by
  have hr:=N1 o.length o.length i o;rw [Ac (dcF (by omega))] at hr;rw [drop_eq_nil_of_le (by simp; omega)] at h;have h8:=AO (show (Br.leaf (.exit 0,([.ref 0 0 o.length],[R0 PCd o])):Br (Ex×Dt)).run=some (ex,d) from h);obtain ⟨rfl,rfl⟩:=Prod.mk.inj h8;exact stp hr
 | j+1,i,hi,ex,d,h=>by
  have hl:i<o.length:=by omega
  have hM:=mxI;have hr:=N1 o.length o.length i o
  have hd:(range o.length).drop i=i::(range o.length).drop (i+1):=by
   rw [drop_eq_getElem_cons (by simpa using hl)];simp
  rw [hd,all_cons] at h;rw [Ae (dcT (by omega)),Ap (n:=i) (by omega)] at hr;have gA : ∀ {x:Nat} (hx:x<o.length),(GH o).getD x 0=o[x].1.1:=fun hx=>by unfold GH; simp [hx]
  skip
  by_cases q0:i=0
  ·subst q0;rw [Ac (dcF (by omega))] at hr;have e0:BY (GH o) 0=true:=rfl;rw [e0,Bool.true_and] at h;exact sts hr (Ll o hm j 1 (by omega) ex d h)
  ·have hw:i64.wrap ((i:Int)-1)=((i-1:Nat):Int):=by rw [Av (by omega) (by omega)]; omega
   have hl1:i-1<o.length:=by omega
   rw [Ae (dcT (by omega)),hw,T2 (by omega),ntN,zero_add,gtE hl1,Ai] at hr;rw [T2 (by omega),ntN,zero_add,gtE hl,Ai] at hr
   have er:BY (GH o) i=decide (o[i-1].1.1<o[i].1.1):=by
    unfold BY;rw [gA hl1,gA hl,beq_false_of_ne q0,Bool.false_or]
   rw [er] at h
   by_cases q:o[i-1].1.1<o[i].1.1
   ·rw [Ac (dcF (by omega))] at hr;rw [dcT q,Bool.true_and] at h;exact sts hr (Ll o hm j (i+1) (by omega) ex d h)
   ·rw [Ae (dcT (by omega))] at hr;rw [dcF q,Bool.false_and] at h;have h8:=AO (show (Br.leaf (.ret,([.ref 0 0 0,.b false],[R0 PCd []])):Br (Ex×Dt)).run=some (ex,d) from h);obtain ⟨rfl,rfl⟩:=Prod.mk.inj h8;exact stp hr
theorem Ag7:As prog (Aa [(188,.rd1 VY)]) (Aa [(5,Qt)]) 0 (f150.body.getD .skip):=by
 refine Am (a:=body f150 0) (by kernel_rfl) fun d ex d' h=>?_
 unfold Qt at h;dsimp only at h;split at h
 ·rename_i m k i o;obtain ⟨hc,hx⟩:=Ad h;clear h;obtain ⟨h0,h1,rfl,rfl,h4⟩:=of_decide_eq_true hc;obtain ⟨i,rfl⟩:=eq_ofNat_of_zero_le h0;simp only [ntN] at h1 hx;exact Ll o h4 (o.length-i) i (by omega) ex d' hx
 ·cases h
theorem Uw {s:By} : ∀ (f a:Nat) (o l:List Pl),o.length<=40->rdL s f a o=some l->l.length<=40
 | 0,a,o,l,h,e=>by
  rw [rdL] at e;split at e
  ·cases e
  ·cases e; exact h
 | f+1,a,o,l,h,e=>by
  rw [rdL] at e;split at e
  ·split at e
   ·rename_i h2;exact Uw f _ _ l (by have:=h2.2; simp; omega) e
   ·cases e
  ·cases e; exact h
theorem Kq {s:By} {l:List Pl} (h:rdP s=some l):l.length<=40/\s.length<=400:=by
 unfold rdP at h;split at h
 ·rename_i h1;exact ⟨Uw _ _ _ l (by simp) h,h1⟩
 ·cases h
theorem ris:Af prog 150 (Ent.rd1 VT).F:=by
 refine fcC (kc func188 rdp KnowsL.nil).knows (Λ:=(Aa [(5,Qt)])) func150 fun vs bs r hq=>?_
 unfold Ent.F VT at hq;dsimp only at hq;split at hq
 ·rename_i s;obtain ⟨hc,hx⟩:=Ad hq;refine ⟨Ag7,Eq.trans ?_ hx⟩;rw [YI,Ab hc];unfold BK
  cases e:rdP s with
  | none=>rfl
  | some l=>
   have hl:=(Kq e).1;dsimp only [isSome_some,getD_some];rw [Bool.not_true,A6,Ab (dcT ⟨by omega,by omega,rfl,rfl,by omega⟩),drop_zero];unfold JZ;rw [show (GH l).length=l.length by unfold GH; simp];cases (range l.length).all (BY (GH l))<;>rfl
 ·cases hq
def rdF (s:By):Nat->Nat->List WFd->Option (List WFd)
 | 0,a,o=>if a<s.length then none else some o
 | f+1,a,o=>if a<s.length then (if (AZ s a).2.2.2=true/\o.length≠40 then rdF s f (AZ s a).2.2.1.toNat (o++[(AZ s a).1]) else none) else some o
def CA (s:By):Option (List WFd):=rdF s s.length 0 []
def CU (s:By):Option (List WFd):=if s.length<=400 then CA s else none
def DT (s:By):Option (List WFd):=match CU s with | some l=>(if JZ (CB l)=true then some l else none) | none=>none
def Ka:LoopEnt:=⟨76,[0,4,5],[4],[2,3],fun
 | ([.s s,.ref 0 0 n,.j a],[R0 FCd o])=>.need (decide (0<=a/\a.toNat<=s.length/\s.length<=4000000000/\n=o.length/\o.length<=a.toNat)) (.br (rdF s (s.length-a.toNat) a.toNat o).isSome (.leaf (.exit 0,([.ref 0 0 ((rdF s (s.length-a.toNat) a.toNat o).getD []).length],[R0 FCd ((rdF s (s.length-a.toNat) a.toNat o).getD [])]))) (.leaf (.ret,([.ref 0 0 0,.b false],[R0 FCd []]))))
 | _=>.no⟩
def VZ:Gm
 | [.s s],[]=>.need (decide (s.length<=4000000000)) (.leaf (.tup [.ref 0 0 ((CA s).getD []).length,.b (CA s).isSome],[R0 FCd ((CA s).getD [])]))
 | _,_=>.no
def VX:Gm
 | [.s s],[]=>.need (decide (s.length<=4000000000)) (.leaf (.tup [.ref 0 0 ((CU s).getD []).length,.b (CU s).isSome],[R0 FCd ((CU s).getD [])]))
 | _,_=>.no
def YH:Gm
 | [.s s],[]=>.need (decide (s.length<=4000000000)) (.leaf (.tup [.ref 0 0 ((DT s).getD []).length,.b (DT s).isSome],[R0 FCd ((DT s).getD [])]))
 | _,_=>.no
def J3:LoopEnt:=⟨37,[4,15,16,17],[4],[2,3],fun
 | ([.ref 0 0 m,.ref 0 0 m2,.j k,.j i],[R0 FCd o])=>.need (decide (0<=i/\i.toNat<=o.length/\m=o.length/\m2=o.length/\k=o.length/\o.length<=4000000000)) (.br (((range o.length).drop i.toNat).all (BY (CB o))) (.leaf (.exit 0,([.ref 0 0 o.length],[R0 FCd o]))) (.leaf (.ret,([.ref 0 0 0,.b false],[R0 FCd []]))))
 | _=>.no⟩
abbrev X2:FuncId->Option Ent:=Aa [(201,.rd1 Sd),(202,.rd1 JX),(203,.rd1 Ht)]
theorem N5 (s:By) (n:Nat) (a:Int) (o:List WFd):At prog X2 (Aa [(3,Ka)]) 0 (body f167 0) Ka ([.s s,.ref 0 0 n,.j a],[R0 FCd o]) =
 ((shr (take n (drop 0 o)) fun sh3=>shr (take ((i64.wrap (AV (AV a.toNat (Aj s a.toNat)).toNat (Aj s (AV a.toNat (Aj s
 a.toNat)).toNat)+BZ (Aj s (AV a.toNat (Aj s a.toNat)).toNat))).toNat-(AV (AV a.toNat (Aj s a.toNat)).toNat (Aj s (AV a.toNat (Aj s
 a.toNat)).toNat)).toNat) (drop (AV (AV a.toNat (Aj s a.toNat)).toNat (Aj s (AV a.toNat (Aj s a.toNat)).toNat)).toNat s)) fun sh2=>shr (Ag FCd.den)
 fun sh1=>ifB (decide (a<(↑s.length:Int))) (ifT (decide (0<=a/\s.length<=4000000000/\a<=4000000000)) (ifB (!BO (Aj s a.toNat)) (some (Ex.ret,[V.ref
 0 0 0,V.b false],[R0 FCd sh1])) (ifT (decide ((0:Int)<=AV a.toNat (Aj s a.toNat)/\s.length<=4000000000/\AV a.toNat (Aj s
 a.toNat)<=(4000000000:Int))) (ifB (!BO (Aj s (AV a.toNat (Aj s a.toNat)).toNat)) (some (Ex.ret,[V.ref 0 0 0,V.b false],[R0 FCd sh1]))
 (ifB ((BZ (Aj s a.toNat)).tmod (8:Int)==(0:Int)) (ifT (decide ((0:Int)<=BZ (Aj s (AV a.toNat (Aj s a.toNat)).toNat)/\BZ (Aj s (AV a.toNat
 (Aj s a.toNat)).toNat)<=(1000000000000:Int))) (ifB (!AU (i64.wrap ((BZ (Aj s a.toNat)).tdiv (8:Int)),(BZ (Aj s a.toNat)).tmod (8:Int),unf
 (BZ (Aj s (AV a.toNat (Aj s a.toNat)).toNat)),Ag UInt8,())) (some (Ex.ret,[V.ref 0 0 0,V.b false],[R0 FCd sh1])) (ifB ((↑n:Int)==
 (40:Int)) (some (Ex.ret,[V.ref 0 0 0,V.b false],[R0 FCd sh1])) (ifT (decide ((n+1)*40<=140737488355328)&&decide
 (n+1<=maxI)) (some (Ex.normal,[V.s s,V.ref 0 0 (n+1),V.j (AV (AV a.toNat (Aj s a.toNat)).toNat (Aj s (AV a.toNat (Aj s
 a.toNat)).toNat))],[R0 FCd (sh3++(i64.wrap ((BZ (Aj s a.toNat)).tdiv (8:Int)),(BZ (Aj s a.toNat)).tmod (8:Int),unf (BZ
 (Aj s (AV a.toNat (Aj s a.toNat)).toNat)),Ag UInt8,())::sh1)])))))) (ifB (decide (BZ (Aj s (AV a.toNat (Aj s a.toNat)).toNat)>i64.wrap
 ((↑s.length:Int)-AV (AV a.toNat (Aj s a.toNat)).toNat (Aj s (AV a.toNat (Aj s a.toNat)).toNat)))) (some (Ex.ret,[V.ref 0 0 0,V.b false],[R0 FCd sh1])) (ifT (decide ((0:Int)<=AV (AV a.toNat (Aj s a.toNat)).toNat (Aj s (AV a.toNat (Aj s a.toNat)).toNat))&&decide (AV (AV a.toNat
 (Aj s a.toNat)).toNat (Aj s (AV a.toNat (Aj s a.toNat)).toNat)<=i64.wrap (AV (AV a.toNat (Aj s a.toNat)).toNat (Aj s (AV a.toNat (Aj s
 a.toNat)).toNat)+BZ (Aj s (AV a.toNat (Aj s a.toNat)).toNat)))&&decide (i64.wrap (AV (AV a.toNat (Aj s a.toNat)).toNat (Aj s (AV a.toNat
 (Aj s a.toNat)).toNat)+BZ (Aj s (AV a.toNat (Aj s a.toNat)).toNat))<=(↑s.length:Int))) (ifB (!AU (i64.wrap ((BZ (Aj s a.toNat)).tdiv (8 :
 Int)),(BZ (Aj s a.toNat)).tmod (8:Int),(0:Int),sh2,())) (some (Ex.ret,[V.ref 0 0 0,V.b false],[R0 FCd sh1])) (ifB ((↑n:Int)==(40
 : Int)) (some (Ex.ret,[V.ref 0 0 0,V.b false],[R0 FCd sh1])) (ifT (decide ((n+1)*40<=140737488355328)&&decide (n
 + 1<=maxI)) (some (Ex.normal,[V.s s,V.ref 0 0 (n+1),V.j (i64.wrap (AV (AV a.toNat (Aj s a.toNat)).toNat (Aj s (AV a.toNat
 (Aj s a.toNat)).toNat)+BZ (Aj s (AV a.toNat (Aj s a.toNat)).toNat)))],[R0 FCd (sh3++(i64.wrap ((BZ (Aj s a.toNat)).tdiv
 (8:Int)),(BZ (Aj s a.toNat)).tmod (8:Int),(0:Int),sh2,())::sh1)])))))))))))) (some (Ex.exit 0,[V.ref 0 0 n],[R0 FCd o]))):_):=by kernel_rfl
theorem YR (s:By):BI prog X2 (Aa [(3,Ka)]) f167 [.s s] [] =
 ((ifT (decide ((0:Int)<=(0:Int)/\0<=s.length/\s.length<=4000000000/\0=0/\0<=0)) (ifB (rdF s (s.length-(0 :
 Nat)) 0 (Ag FCd.den)).isSome (some (V.tup [V.ref 0 0 ((rdF s (s.length-0) 0 (Ag FCd.den)).getD (Ag WFd)).length,V.b true],[R0 FCd ((rdF s (s.length-0) 0 (Ag FCd.den)).getD (Ag WFd))])) (some (V.tup [V.ref 0 0 0,V.b false],[R0 FCd (Ag
 FCd.den)])))):_):=by kernel_rfl
theorem HE (s:By) : ∀ (f a:Nat) (o:List Pl),rdF s f a (o.map (·.1))=(rdL s f a o).map (fun l=>l.map (·.1))
 | 0,a,o=>by
  rw [rdF,rdL];split<;>rfl
 | f+1,a,o=>by
  rw [rdF,rdL,length_map];split
  ·split
   ·have:=HE s f (AZ s a).2.2.1.toNat (o++[((AZ s a).1,(a:Int),())]);rw [List.map_append] at this;exact this
   ·rfl
  ·rfl
theorem YW (s:By) : ∀ (f f' a:Nat) (o:List WFd),s.length-a<=f->s.length-a<=f'->rdF s f a o=rdF s f' a o:=by
 intro f f' a o h1 h2;have e:o=(o.map (fun x=>((x,0,()):Pl))).map (·.1):=by rw [map_map]; exact (List.map_id' o).symm
 rw [e,HE,HE,Qw s f f' a _ h1 h2]
theorem YV {s:By} {a:Nat} {o:List WFd} (h:a<s.length) (h1:(AZ s a).2.2.2=true) (h2:o.length≠40):rdF s (s.length-a) a o=rdF s (s.length-(AZ s a).2.2.1.toNat) (AZ s a).2.2.1.toNat (o++[(AZ s a).1]):=by
 have e:s.length-a=(s.length-a-1)+1:=by omega
 have ht:=Ng h1;rw [e,rdF,if_pos h,if_pos ⟨h1,h2⟩];exact YW s _ _ _ _ (by omega) (by omega)
theorem Ac4 {s:By} {a:Nat} {o:List WFd} (h:a<s.length) (h1:(AZ s a).2.2.2=false\/o.length=40):rdF s (s.length-a) a o=none:=by
 have e:s.length-a=(s.length-a-1)+1:=by omega
 rw [e,rdF,if_pos h,if_neg]
 rintro ⟨h2,h3⟩
 rcases h1 with h1 | h1
 ·rw [h1] at h2; cases h2
 ·exact h3 h1
theorem Ac3 {s:By} {a:Nat} {o:List WFd} (h:s.length<=a):rdF s (s.length-a) a o=some o:=by
 have e:s.length-a=0:=by omega
 rw [e,rdF,if_neg (by omega)]
theorem Sf {a:Nat} {x:Option (Nat×Nat×Bool)} (h:BO x=true):BZ x=A7 x/\AV a x=Az a x:=by
 match x,h with
 | some (n,k,true),_=>exact ⟨rfl,rfl⟩
theorem Ab8 {s:By} {a:Nat} (h:BO (Aj s a)=false):(AZ s a).2.2.2=false:=by
 unfold AZ; dsimp only; rw [if_pos h]
theorem Ab7 {s:By} {a:Nat} (h:BO (Aj s a)=true) (h2:BO (Aj s (Az a (Aj s a)).toNat)=false):(AZ s a).2.2.2=false:=by
 unfold AZ; dsimp only; rw [if_neg (by rw [h]; simp)];split
 ·have:(Ba s (Az a (Aj s a)).toNat).2.2=false:=by unfold Ba; dsimp only; rw [if_neg (fun hh=>by rw [h2] at hh; cases hh.1)]
  dsimp only;rw [this]; rfl
 ·dsimp only;rw [h2]; rfl
theorem Agk {s:By} {a:Nat} (h:BO (Aj s a)=true) (h2:BO (Aj s (Az a (Aj s a)).toNat)=true) (h0:A7 (Aj s a) % 8=0):AZ s a=((A7 (Aj s a) / 8,0,unf (A7 (Aj s (Az a (Aj s a)).toNat)),[],()),(a:Int),Az (Az a (Aj s a)).toNat (Aj s (Az a (Aj s a)).toNat),AU (A7 (Aj s a) / 8,0,unf (A7 (Aj s (Az a (Aj s a)).toNat)),[],())):=by
 unfold AZ; dsimp only; rw [if_neg (by rw [h]; simp),if_neg (by omega),h0,h2,Bool.true_and]
theorem Agm {s:By} {a:Nat} (h:BO (Aj s a)=true) (h2:BO (Aj s (Az a (Aj s a)).toNat)=true) (h0:A7 (Aj s a) % 8=2) (hn:A7 (Aj s (Az a (Aj s a)).toNat)<=s.length-Az (Az a (Aj s a)).toNat (Aj s (Az a (Aj s a)).toNat)) :
  AZ s a=((A7 (Aj s a) / 8,2,0,(s.drop (Az (Az a (Aj s a)).toNat (Aj s (Az a (Aj s a)).toNat)).toNat).take (A7 (Aj s (Az a (Aj s a)).toNat)).toNat,()),(a:Int),Az (Az a (Aj s a)).toNat (Aj s (Az a (Aj s a)).toNat)+A7 (Aj s (Az a (Aj s a)).toNat),AU (A7 (Aj s a) / 8,2,0,(s.drop (Az (Az a (Aj s a)).toNat (Aj s (Az a (Aj s a)).toNat)).toNat).take (A7 (Aj s (Az a (Aj s a)).toNat)).toNat,())):=by
 have:Ba s (Az a (Aj s a)).toNat=((s.drop (Az (Az a (Aj s a)).toNat (Aj s (Az a (Aj s a)).toNat)).toNat).take (A7 (Aj s (Az a (Aj s a)).toNat)).toNat,Az (Az a (Aj s a)).toNat (Aj s (Az a (Aj s a)).toNat)+A7 (Aj s (Az a (Aj s a)).toNat),true):=by unfold Ba; dsimp only; rw [if_pos ⟨h2,hn⟩]
 unfold AZ; dsimp only; rw [if_neg (by rw [h]; simp),if_pos h0,this,Bool.true_and]
theorem Ab5 {s:By} {a:Nat} (h:BO (Aj s a)=true) (h0:A7 (Aj s a) % 8≠0) (hn : ¬A7 (Aj s (Az a (Aj s a)).toNat)<=s.length-Az (Az a (Aj s a)).toNat (Aj s (Az a (Aj s a)).toNat)):(AZ s a).2.2.2=false:=by
 unfold AZ; dsimp only; rw [if_neg (by rw [h]; simp)];split
 ·have:(Ba s (Az a (Aj s a)).toNat).2.2=false:=by unfold Ba; dsimp only; rw [if_neg (fun hh=>hn hh.2)]
  dsimp only;rw [this]; rfl
 ·rename_i h2;dsimp only;unfold AU;dsimp only;rw [if_neg h0,if_neg h2,Bool.and_false,Bool.and_false]
theorem Ab6 {s:By} {a:Nat} (h:BO (Aj s a)=true) (h0:A7 (Aj s a) % 8≠0) (h2:A7 (Aj s a) % 8≠2):(AZ s a).2.2.2=false/\∀ x y z,AU (x,A7 (Aj s a) % 8,y,z,())=false:=by
 have hb : ∀ x y z,AU (x,A7 (Aj s a) % 8,y,z,())=false:=fun x y z=>by
  unfold AU;dsimp only;rw [if_neg h0,if_neg h2,Bool.and_false]
 refine ⟨?_,hb⟩;unfold AZ; dsimp only; rw [if_neg (by rw [h]; simp),if_neg h2];dsimp only;rw [hb,Bool.and_false]
theorem Ac0 (s:By) (a:Nat) (o:List WFd) (hs:s.length<=4000000000) (ha:a<s.length) (ho:o.length<=a) :
  At prog X2 (Aa [(3,Ka)]) 0 (body f167 0) Ka ([.s s,.ref 0 0 o.length,.j (a:Int)],[R0 FCd o])=if (AZ s a).2.2.2=true/\o.length≠40 then some (.normal,([.s s,.ref 0 0 (o++[(AZ s a).1]).length,.j (AZ s a).2.2.1],[R0 FCd (o++[(AZ s a).1])])) else some (.ret,([.ref 0 0 0,.b false],[R0 FCd []])):=by
 rw [N5];dsimp only [shr];have hM:=mxI;obtain ⟨⟨u1,u2⟩,u3,u4⟩:=Eu s a;rw [Ae (dcT (by omega)),Ab (dcT (by omega)),ntN]
 cases hk:BO (Aj s a) with
 | false=>rw [Bool.not_false,AR,if_neg (fun h=>by rw [Ab8 hk] at h; cases h.1)]
 | true=>
  obtain ⟨e1,e2⟩:=Sf (a:=a) hk;rw [Bool.not_true,A6];simp only [e1,e2];obtain ⟨⟨v1,v2⟩,v3,v4⟩:=Eu s (Az a (Aj s a)).toNat;rw [Ab (dcT ⟨u3,hs,by omega⟩)]
  cases hk2:BO (Aj s (Az a (Aj s a)).toNat) with
  | false=>rw [Bool.not_false,AR,if_neg (fun h=>by rw [Ab7 hk hk2] at h; cases h.1)]
  | true=>
   obtain ⟨e3,e4⟩:=Sf (a:=(Az a (Aj s a)).toNat) hk2;rw [Bool.not_true,A6];have m1:Int.tdiv (A7 (Aj s a)) 8=A7 (Aj s a) / 8:=Int.tdiv_eq_ediv_of_nonneg u1;have m2:Int.tmod (A7 (Aj s a)) 8=A7 (Aj s a) % 8:=Int.tmod_eq_emod_of_nonneg u1;have m3:i64.wrap (A7 (Aj s a) / 8)=A7 (Aj s a) / 8:=Av (by omega) (by omega);have m4:i64.wrap ((s.length:Int)-Az (Az a (Aj s a)).toNat (Aj s (Az a (Aj s a)).toNat))=(s.length:Int)-Az (Az a (Aj s a)).toNat (Aj s (Az a (Aj s a)).toNat):=Av (by omega) (by omega);have m5:i64.wrap (Az (Az a (Aj s a)).toNat (Aj s (Az a (Aj s a)).toNat)+A7 (Aj s (Az a (Aj s a)).toNat))=Az (Az a (Aj s a)).toNat (Aj s (Az a (Aj s a)).toNat)+A7 (Aj s (Az a (Aj s a)).toNat):=Av (by omega) (by omega);simp only [e3,e4,m1,m2,m3,m4,m5,drop_zero,take_length,AX];have hlen:(decide ((o.length+1)*40<=140737488355328)&&decide (o.length+1<=maxI))=true:=by simp only [anE,dcE]; omega
   by_cases q0:A7 (Aj s a) % 8=0
   ·rw [Ae (by simpa using q0),Ab (dcT ⟨v1,by omega⟩),q0];have ht:=Agk hk hk2 q0
    cases hf:AU (A7 (Aj s a) / 8,0,unf (A7 (Aj s (Az a (Aj s a)).toNat)),[],()) with
    | false=>rw [Bool.not_false,AR,if_neg (fun h=>by rw [ht] at h; have:=h.1; rw [hf] at this; cases this)]
    | true=>
     rw [Bool.not_true,A6]
     by_cases q2:o.length=40
     ·rw [Ae (by rw [q2]; rfl),if_neg (fun h=>h.2 q2)]
     ·rw [Ac (by simpa using fun e=>q2 (by omega)),Ab hlen,if_pos ⟨by rw [ht]; exact hf,q2⟩,ht,length_append]; rfl
   ·rw [Ac (by simpa using q0)]
    by_cases qn:A7 (Aj s (Az a (Aj s a)).toNat)<=s.length-Az (Az a (Aj s a)).toNat (Aj s (Az a (Aj s a)).toNat)
    rotate_left
    ·rw [Ae (dcT (by omega)),if_neg (fun h=>by rw [Ab5 hk q0 qn] at h; cases h.1)]
    rw [Ac (dcF (by omega)),Ab (by simp only [anE,dcE]; omega)];have e5:(Az (Az a (Aj s a)).toNat (Aj s (Az a (Aj s a)).toNat)+A7 (Aj s (Az a (Aj s a)).toNat)).toNat-(Az (Az a (Aj s a)).toNat (Aj s (Az a (Aj s a)).toNat)).toNat=(A7 (Aj s (Az a (Aj s a)).toNat)).toNat:=by omega
    rw [e5]
    by_cases qk:A7 (Aj s a) % 8=2
    rotate_left
    ·obtain ⟨b1,b2⟩:=Ab6 hk q0 qk;rw [b2,Bool.not_false,AR,if_neg (fun h=>by rw [b1] at h; cases h.1)]
    have ht:=Agm hk hk2 qk qn;rw [qk]
    cases hf:AU (A7 (Aj s a) / 8,2,0,(s.drop (Az (Az a (Aj s a)).toNat (Aj s (Az a (Aj s a)).toNat)).toNat).take (A7 (Aj s (Az a (Aj s a)).toNat)).toNat,()) with
    | false=>rw [Bool.not_false,AR,if_neg (fun h=>by rw [ht] at h; have:=h.1; rw [hf] at this; cases this)]
    | true=>
     rw [Bool.not_true,A6]
     by_cases q2:o.length=40
     ·rw [Ae (by rw [q2]; rfl),if_neg (fun h=>h.2 q2)]
     ·rw [Ac (by simpa using fun e=>q2 (by omega)),Ab hlen,if_pos ⟨by rw [ht]; exact hf,q2⟩,ht,length_append]; rfl
theorem YS (s:By) (hs:s.length<=4000000000) : ∀ (j a:Nat) (o:List WFd),s.length-a<=j->a<=s.length->o.length<=a->∀ ex d,(Br.br (rdF s (s.length-a) a o).isSome (.leaf (.exit 0,([.ref 0 0 ((rdF s (s.length-a) a o).getD []).length],[R0 FCd ((rdF s (s.length-a) a o).getD [])]))) (.leaf (.ret,([.ref 0 0 0,.b false],[R0 FCd []]))):Br (Ex×Dt)).run=some (ex,d)->
  Runs prog X2 (Aa [(3,Ka)]) 0 (body f167 0) Ka ([.s s,.ref 0 0 o.length,.j (a:Int)],[R0 FCd o]) ex d:=by
 intro j
 have fin : ∀ (a:Nat) (o:List WFd),a=s.length->∀ ex d,(Br.br (rdF s (s.length-a) a o).isSome (.leaf (.exit 0,([.ref 0 0 ((rdF s (s.length-a) a o).getD []).length],[R0 FCd ((rdF s (s.length-a) a o).getD [])]))) (.leaf (.ret,([.ref 0 0 0,.b false],[R0 FCd []]))):Br (Ex×Dt)).run=some (ex,d)->Runs prog X2 (Aa [(3,Ka)]) 0 (body f167 0) Ka ([.s s,.ref 0 0 o.length,.j (a:Int)],[R0 FCd o]) ex d:=fun a o ha ex d h=>by
  have hr:=N5 s o.length a o;dsimp only [shr] at hr;rw [Ac (dcF (by omega))] at hr;rw [Ac3 (by omega)] at h;have h8:=AO (show (Br.leaf (.exit 0,([.ref 0 0 o.length],[R0 FCd o])):Br (Ex×Dt)).run=some (ex,d) from h);obtain ⟨rfl,rfl⟩:=Prod.mk.inj h8;exact stp hr
 induction j with
 | zero=>exact fun a o hj ha ho ex d h=>fin a o (by omega) ex d h
 | succ j ih=>
  intro a o hj ha ho ex d h
  by_cases q:a<s.length
  rotate_left
  ·exact fin a o (by omega) ex d h
  have hr:=Ac0 s a o hs q ho
  by_cases q2:(AZ s a).2.2.2=true/\o.length≠40
  ·obtain ⟨t1,t2,t3,t4⟩:=Ng q2.1;rw [if_pos q2] at hr;rw [YV q q2.1 q2.2] at h;obtain ⟨b,hb⟩:=eq_ofNat_of_zero_le (a:=(AZ s a).2.2.1) (by omega);rw [hb] at hr h t2 t3;rw [ntN] at h;exact sts hr (ih b (o++[(AZ s a).1]) (by omega) (by omega) (by simp; omega) ex d h)
  ·rw [if_neg q2] at hr
   rw [Ac4 q (by
    cases e:(AZ s a).2.2.2 with
    | false=>exact .inl rfl
    | true=>exact .inr (by by_cases e2:o.length=40; exact e2; exact absurd ⟨e,e2⟩ q2))] at h
   have h8:=AO (show (Br.leaf (.ret,([.ref 0 0 0,.b false],[R0 FCd []])):Br (Ex×Dt)).run=some (ex,d) from h);obtain ⟨rfl,rfl⟩:=Prod.mk.inj h8;exact stp hr
theorem Ag9:As prog X2 (Aa [(3,Ka)]) 0 (f167.body.getD .skip):=by
 refine Am (a:=body f167 0) (by kernel_rfl) fun d ex d' h=>?_
 unfold Ka at h;dsimp only at h;split at h
 ·rename_i s n a o;obtain ⟨hc,hx⟩:=Ad h;clear h;obtain ⟨h0,h1,h2,rfl,h4⟩:=of_decide_eq_true hc;obtain ⟨a,rfl⟩:=eq_ofNat_of_zero_le h0;simp only [ntN] at h1 h4 hx;exact YS s h2 _ a o (le_refl _) h1 h4 ex d' hx
 ·cases h
theorem rdf:Af prog 167 (Ent.rd1 VZ).F:=by
 refine fcC (kc func201 tvs (kc func202 Aju (kc func203 Agx KnowsL.nil))).knows (Λ:=(Aa [(3,Ka)])) func167 fun vs bs r hq=>?_
 unfold Ent.F VZ at hq;dsimp only at hq;split at hq
 ·rename_i s;obtain ⟨hc,hx⟩:=Ad hq;have hc:=of_decide_eq_true hc;refine ⟨Ag9,Eq.trans ?_ hx⟩;rw [YR];unfold CA;rw [Ab (dcT ⟨by omega,by omega,hc,rfl,by omega⟩),Nat.sub_zero];simp only [AX];cases rdF s s.length 0 []<;>rfl
 ·cases hq
theorem YO (s:By):BI prog (Aa [(167,.rd1 VZ)]) (Aa []) f134 [.s s] [] =
 ((ifB (decide ((↑s.length:Int)>(400:Int))) (some (V.tup [V.ref 0 0 0,V.b false],[R0 FCd (Ag FCd.den)])) (ifT (decide (s.length<=(4000000000
 : Nat))) (some (V.tup [V.ref 0 0 ((CA s).getD (Ag WFd)).length,V.b (CA s).isSome],[R0 FCd ((CA s).getD (Ag WFd))])))):_):=by kernel_rfl
theorem rdq:Af prog 134 (Ent.rd1 VX).F:=by
 refine fcC (kc func167 rdf KnowsL.nil).knows (Λ:=Aa []) func134 fun vs bs r hq=>?_
 unfold Ent.F VX at hq;dsimp only at hq;split at hq
 ·rename_i s;obtain ⟨hc,hx⟩:=Ad hq;refine ⟨Ah _,Eq.trans ?_ hx⟩;rw [YO];unfold CU
  by_cases q:s.length<=400
  ·rw [Ac (dcF (by omega)),if_pos q,Ab hc]; rfl
  ·rw [Ae (dcT (by omega)),if_neg q]; rfl
 ·cases hq
theorem KY (m:Nat) (k i:Int) (o:List WFd):At prog (Aa [(134,.rd1 VX)]) (Aa [(5,J3)]) 0 (body f98 0) J3 ([.ref 0 0 m,.ref 0 0 m,.j k,.j i],[R0 FCd o]) =
 ((ifB (decide (i<k)) (ifT (decide (0<=i)&&decide (i<(↑m:Int))) (Ak o[0+i.toNat]? fun z=>ifB (decide (i>0)) (ifT (decide (0<=i64.wrap (i -
 1))&&decide (i64.wrap (i-1)<(↑m:Int))) (Ak o[0+(i64.wrap (i-1)).toNat]? fun z_1=>ifB (decide (z_1.1>=z.1)) (some (Ex.ret,
 [V.ref 0 0 0,V.b false],[R0 FCd (Ag FCd.den)])) (some (Ex.normal,[V.ref 0 0 m,V.ref 0 0 m,V.j k,V.j (i64.wrap (i+1))],
 [R0 FCd o])))) (some (Ex.normal,[V.ref 0 0 m,V.ref 0 0 m,V.j k,V.j (i64.wrap (i+1))],[R0 FCd o]))))
 (some (Ex.exit 0,[V.ref 0 0 m],[R0 FCd o]))):_):=by kernel_rfl
theorem VB (s:By):BI prog (Aa [(134,.rd1 VX)]) (Aa [(5,J3)]) f98 [.s s] [] =
 ((ifT (decide (s.length<=4000000000)) (ifB (!(CU s).isSome) (some (V.tup [V.ref 0 0 0,V.b false],[R0 FCd (Ag FCd.den)])) (ifT (decide
 ((0:Int)<=(0:Int)/\0<=((CU s).getD (Ag WFd)).length/\((CU s).getD (Ag WFd)).length=((CU s).getD (Ag WFd)).length/\((CU s).getD (Ag
 WFd)).length=((CU s).getD (Ag WFd)).length/\(↑((CU s).getD (Ag WFd)).length:Int)=(↑((CU s).getD (Ag WFd)).length:Int)/\((CU s).getD (Ag
 WFd)).length<=4000000000)) (ifB ((drop 0 (range ((CU s).getD (Ag WFd)).length)).all (BY (CB ((CU s).getD (Ag WFd))))) (some (V.tup
 [V.ref 0 0 ((CU s).getD (Ag WFd)).length,V.b true],[R0 FCd ((CU s).getD (Ag WFd))])) (some (V.tup [V.ref 0 0 0,V.b false],[R0 FCd (Ag FCd.den)])))))):_):=by kernel_rfl
theorem I8 (o:List WFd) (hm:o.length<=4000000000) : ∀ (j i:Nat),i+j=o.length->∀ ex d,(Br.br (((range o.length).drop i).all (BY (CB o))) (.leaf (.exit 0,([.ref 0 0 o.length],[R0 FCd o]))) (.leaf (.ret,([.ref 0 0 0,.b false],[R0 FCd []]))):Br (Ex×Dt)).run=some (ex,d)->
  Runs prog (Aa [(134,.rd1 VX)]) (Aa [(5,J3)]) 0 (body f98 0) J3 ([.ref 0 0 o.length,.ref 0 0 o.length,.j (o.length:Int),.j (i:Int)],[R0 FCd o]) ex d
 | 0,i,hi,ex,d,h=>by
  have hr:=KY o.length o.length i o;rw [Ac (dcF (by omega))] at hr;rw [drop_eq_nil_of_le (by simp; omega)] at h;have h8:=AO (show (Br.leaf (.exit 0,([.ref 0 0 o.length],[R0 FCd o])):Br (Ex×Dt)).run=some (ex,d) from h);obtain ⟨rfl,rfl⟩:=Prod.mk.inj h8;exact stp hr
 | j+1,i,hi,ex,d,h=>by
  have hl:i<o.length:=by omega
  have hM:=mxI;have hr:=KY o.length o.length i o
  have hd:(range o.length).drop i=i::(range o.length).drop (i+1):=by
   rw [drop_eq_getElem_cons (by simpa using hl)];simp
  rw [hd,all_cons] at h;rw [Ae (dcT (by omega)),Ap (n:=i) (by omega)] at hr;have gA : ∀ {x:Nat} (hx:x<o.length),(CB o).getD x 0=o[x].1:=fun hx=>by unfold CB; simp [hx]
  rw [T2 (by omega),ntN,zero_add,gtE hl,Ai] at hr
  by_cases q0:i=0
  ·subst q0;rw [Ac (dcF (by omega))] at hr;have e0:BY (CB o) 0=true:=rfl;rw [e0,Bool.true_and] at h;exact sts hr (I8 o hm j 1 (by omega) ex d h)
  ·have hw:i64.wrap ((i:Int)-1)=((i-1:Nat):Int):=by rw [Av (by omega) (by omega)]; omega
   have hl1:i-1<o.length:=by omega
   rw [Ae (dcT (by omega)),hw,T2 (by omega),ntN,zero_add,gtE hl1,Ai] at hr
   skip
   have er:BY (CB o) i=decide (o[i-1].1<o[i].1):=by
    unfold BY;rw [gA hl1,gA hl,beq_false_of_ne q0,Bool.false_or]
   rw [er] at h
   by_cases q:o[i-1].1<o[i].1
   ·rw [Ac (dcF (by omega))] at hr;rw [dcT q,Bool.true_and] at h;exact sts hr (I8 o hm j (i+1) (by omega) ex d h)
   ·rw [Ae (dcT (by omega))] at hr;rw [dcF q,Bool.false_and] at h;have h8:=AO (show (Br.leaf (.ret,([.ref 0 0 0,.b false],[R0 FCd []])):Br (Ex×Dt)).run=some (ex,d) from h);obtain ⟨rfl,rfl⟩:=Prod.mk.inj h8;exact stp hr
theorem Ace:As prog (Aa [(134,.rd1 VX)]) (Aa [(5,J3)]) 0 (f98.body.getD .skip):=by
 refine Am (a:=body f98 0) (by kernel_rfl) fun d ex d' h=>?_
 unfold J3 at h;dsimp only at h;split at h
 ·rename_i m m2 k i o;obtain ⟨hc,hx⟩:=Ad h;clear h;obtain ⟨h0,h1,rfl,rfl,rfl,h4⟩:=of_decide_eq_true hc;obtain ⟨i,rfl⟩:=eq_ofNat_of_zero_le h0;simp only [ntN] at h1 hx;exact I8 o h4 (o.length-i) i (by omega) ex d' hx
 ·cases h
theorem YT (s:By):CU s=(rdP s).map (fun l=>l.map (·.1)):=by
 unfold CU rdP CA;split
 ·exact HE s s.length 0 []
 ·rfl
theorem HD (s:By):DT s=(BK s).map (fun l=>l.map (·.1)):=by
 unfold DT BK;rw [YT]
 cases rdP s with
 | none=>rfl
 | some l=>
  dsimp only [Option.map_some];have e:CB (l.map (·.1))=GH l:=by unfold CB GH; rw [map_map]; rfl
  rw [e];split<;>rfl
theorem Ajv:Af prog 98 (Ent.rd1 YH).F:=by
 refine fcC (kc func134 rdq KnowsL.nil).knows (Λ:=(Aa [(5,J3)])) func98 fun vs bs r hq=>?_
 unfold Ent.F YH at hq;dsimp only at hq;split at hq
 ·rename_i s;obtain ⟨hc,hx⟩:=Ad hq;refine ⟨Ace,Eq.trans ?_ hx⟩;rw [VB,Ab hc];unfold DT
  cases e:CU s with
  | none=>rfl
  | some l=>
   have hl:l.length<=40:=by
    rw [YT] at e;obtain ⟨w,h1,rfl⟩:=map_eq_some_iff.1 e;rw [length_map]; exact (Kq h1).1
   dsimp only [isSome_some,getD_some];rw [Bool.not_true,A6,Ab (dcT ⟨by omega,by omega,rfl,rfl,rfl,by omega⟩),drop_zero];unfold JZ;rw [show (CB l).length=l.length by unfold CB; simp];cases (range l.length).all (BY (CB l))<;>rfl
 ·cases hq
def Bu:Nat->Nat->By×Nat
 | 0,n=>([],n)
 | f+1,n=>if 128<=n then (UInt8.ofNat (n % 128+128)::(Bu f (n / 128)).1,(Bu f (n / 128)).2) else ([],n)
def vbs (n:Nat):By:=(Bu 10 n).1++[UInt8.ofNat (Bu 10 n).2]
def fol (n:Int):Int:=if n<0 then -2*n-1 else 2*n
def svE:LoopEnt:=⟨22,[0,3],[0,3],[],fun
 | ([.j n,.s s],[])=>.need (decide (0<=n/\n<=1000000000000/\s.length<=1000)) (.leaf (.exit 0,([.j ((Bu 10 n.toNat).2:Int),.s (s++(Bu 10 n.toNat).1)],[])))
 | _=>.no⟩
def Abs:Gm
 | [.j n],[]=>.need (decide (0<=n/\n<=1000000000000)) (.leaf (.s (vbs n.toNat),[]))
 | _,_=>.no
def T5:Gm
 | [.j n],[]=>.need (decide (-1000000000000<=n/\n<=1000000000000)) (.leaf (.j (fol n),[]))
 | _,_=>.no
theorem Qe (n:Int) (s:By):At prog (Aa []) (Aa [(2,svE)]) 0 (body f207 0) svE ([.j n,.s s],[]) =
 ((ifB (decide (n>=128)) (ifT (decide (s.length+1<=9223372036854775807)) (some (Ex.normal,[V.j (n.fdiv ((2:Int) ^ min 7
 i64.bits)),V.s (s++List.map (fun n=>UInt8.ofNat n.toNat) (IntKind.u8.wrap (↑(BitVec.ofInt IntKind.u8.bits (IntKind.u8.wrap (i64.wrap (↑(BitVec.ofInt
 i64.bits n &&& BitVec.ofInt i64.bits (127:Int)).toNat:Int))) ||| BitVec.ofInt IntKind.u8.bits (128:Int)).toNat:Int)::Ag (Cd.int .u8).den))],
 []))) (some (Ex.exit 0,[V.j n,V.s s],[]))):_):=by kernel_rfl
theorem Aca (n:Int):Aw prog (Aa []) (Aa [(2,svE)]) f207 [.j n] [] =
 ((ifT (decide (0<=n/\n<=1000000000000/\0<=1000)) (ifT (decide ((Ag UInt8++(Bu 10 n.toNat).1).length+1<=(9223372036854775807 :
 Nat))) (some (V.s (Ag UInt8++(Bu 10 n.toNat).1++List.map (fun n=>UInt8.ofNat n.toNat) (IntKind.u8.wrap (↑(Bu 10 n.toNat).2:Int)::Ag
 (Cd.int .u8).den)),[])))):_):=by kernel_rfl
theorem Akg (n:Nat):i64.wrap ((BitVec.ofInt i64.bits (n:Int) &&& BitVec.ofInt i64.bits (127:Int)).toNat:Int)=((n % 128:Nat):Int):=by
 have e:(BitVec.ofInt i64.bits (n:Int) &&& BitVec.ofInt i64.bits (127:Int)).toNat=n % 128:=by
  show (BitVec.ofInt 64 (n:Int) &&& BitVec.ofInt 64 ((127:Nat):Int)).toNat=n % 128;rw [BitVec.toNat_and,BitVec.ofInt_natCast,BitVec.ofInt_natCast,BitVec.toNat_ofNat,BitVec.toNat_ofNat,show 127 % 2 ^ 64=2 ^ 7-1 by decide,Nat.and_two_pow_sub_one_eq_mod];show n % 18446744073709551616 % 128=n % 128;omega
 rw [e,Av (by omega) (by omega)]
theorem PU {n:Nat} (h:n<256):IntKind.u8.wrap (n:Int)=(n:Int):=by
 unfold IntKind.wrap;simp [IntKind.bits,IntKind.signed];omega
theorem Akb (x:Nat) (hx:x<128):IntKind.u8.wrap ((BitVec.ofInt IntKind.u8.bits (x:Int) ||| BitVec.ofInt IntKind.u8.bits (128:Int)).toNat:Int)=((x+128:Nat):Int):=by
 have e:(BitVec.ofInt IntKind.u8.bits (x:Int) ||| BitVec.ofInt IntKind.u8.bits (128:Int)).toNat=x+128:=by
  show (BitVec.ofInt 8 (x:Int) ||| BitVec.ofInt 8 ((128:Nat):Int)).toNat=_;rw [BitVec.toNat_or,BitVec.ofInt_natCast,BitVec.ofInt_natCast,BitVec.toNat_ofNat,BitVec.toNat_ofNat,Nat.mod_eq_of_lt (by omega),Nat.mod_eq_of_lt (by omega),Nat.or_comm,show (128:Nat)=2 ^ 7*1 by decide,<-Nat.two_pow_add_eq_or_of_lt (by omega) 1];omega
 rw [e,PU (by omega)]
theorem Kl : ∀ (f n:Nat),n<128 ^ (f+1)->(Bu f n).2<128/\(Bu f n).1.length<=f
 | 0,n,h=>⟨by simpa [Bu] using h,by simp [Bu]⟩
 | f+1,n,h=>by
  rw [Bu];split
  ·rw [pow_succ] at h;have:=Kl f (n / 128) (Nat.div_lt_of_lt_mul (by omega));exact ⟨this.1,by simp; omega⟩
  ·exact ⟨by dsimp only; omega,by simp⟩
theorem G1 {n : Nat} (h : n ≤ 1000000000000) : 1 ≤ (vbs n).length ∧ (vbs n).length ≤ 11 := by
 have := (Kl 10 n (by have : (128 : Nat) ^ 11 = 151115727451828646838272 := (by decide); omega)).2;unfold vbs;rw [length_append, length_singleton];omega
theorem Up : ∀ (f n:Nat) (s:By),n<128 ^ f->f<=10->s.length<=1000+(10-f)->
  Runs prog (Aa []) (Aa [(2,svE)]) 0 (body f207 0) svE ([.j (n:Int),.s s],[]) (.exit 0) ([.j ((Bu f n).2:Int),.s (s++(Bu f n).1)],[])
 | 0,n,s,h,hf,hs=>by
  have:n=0:=by simpa using h
  subst this;have hr:=Qe ((0:Nat):Int) s;rw [Ac (dcF (by omega))] at hr;rw [Bu,append_nil];exact stp hr
 | f+1,n,s,h,hf,hs=>by
  have hr:=Qe (n:Int) s
  by_cases q:128<=n
  ·have hn:n<128 ^ 10:=Nat.lt_of_lt_of_le h (Nat.pow_le_pow_right (by omega) hf);have hn2:n<2 ^ 63\/2 ^ 63<=n:=by omega
   rw [Ae (dcT (by omega)),Ab (dcT (by omega)),Akg n,PU (n:=n % 128) (by omega),Akb (n % 128) (by omega)] at hr
   have e1:fdiv (n:Int) ((2:Int) ^ min 7 i64.bits)=((n / 128:Nat):Int):=by
    show fdiv (n:Int) ((128:Nat):Int)=_;rw [Int.fdiv_eq_ediv_of_nonneg _ (by omega)];rfl
   rw [e1] at hr;rw [pow_succ] at h;have ih:=Up f (n / 128) (s++[UInt8.ofNat (n % 128+128)]) (Nat.div_lt_of_lt_mul (by omega)) (by omega) (by simp; omega);rw [Bu,if_pos q];dsimp only;rw [append_assoc] at ih;exact sts hr ih
  ·rw [Ac (dcF (by omega))] at hr;rw [Bu,if_neg q,append_nil];exact stp hr
theorem Ajt : As prog (Aa []) (Aa [(2, svE)]) 0 (f207.body.getD .skip) := by
  refine Am (a := body f207 0) (by kernel_rfl) fun d ex d' h => ?_
  unfold svE at h;dsimp only at h;split at h
  · rename_i n s;obtain ⟨hc, hx⟩ := Ad h;clear h;obtain ⟨h0, h1, h2⟩ := of_decide_eq_true hc;obtain ⟨n, rfl⟩ := eq_ofNat_of_zero_le h0;rw [ntN] at hx;obtain ⟨rfl, rfl⟩ := lfP hx;exact Up 10 n s (by have : (128 : Nat) ^ 10 = 1180591620717411303424 := (by decide); omega) (by omega) (by omega)
  · cases h
theorem sv : Af prog 207 (Ent.rd1 Abs).F := by
 refine fcK KnowsL.nil.knows (Λ := Aa [(2, svE)]) func207 fun vs bs r hq => ?_
 unfold Ent.F Abs at hq;dsimp only at hq;split at hq
 ·rename_i n;obtain ⟨hc, hx⟩ := Ad hq;obtain ⟨h0, h1⟩ := of_decide_eq_true hc;obtain ⟨n, rfl⟩ := eq_ofNat_of_zero_le h0;rw [ntN] at hx;refine ⟨Ajt, Eq.trans ?_ hx⟩;have hl := Kl 10 n (by have : (128 : Nat) ^ 11 = 151115727451828646838272 := (by decide); omega);rw [Aca, Ab (dcT ⟨h0, h1, by simp⟩), ntN];simp only [AX, nil_append];rw [Ab (dcT (by omega)), PU (by omega)];rfl
 ·cases hq
theorem VH (n:Int):Aw prog (Aa []) (Aa []) f208 [.j n] [] =
 ((ifB (decide (n>=0)) (some (V.j (i64.wrap (2*n)),[])) (some (V.j (i64.wrap (i64.wrap ((-2:Int)*n)-(1:Int))),[]))):_):=by kernel_rfl
theorem Y0 (n:Int) (hc : -1000000000000<=n/\n<=1000000000000):Aw prog (Aa []) (Aa []) f208 [.j n] []=(.leaf (.j (fol n),[]):Br (V×List (Option Blk))).run:=by
 rw [VH];unfold fol
 by_cases q:n<0
 ·rw [Ac (dcF (by omega)),if_pos q,Av (n:=-2*n) (by omega) (by omega),Av (by omega) (by omega)]; rfl
 ·rw [Ae (dcT (by omega)),if_neg q,Av (by omega) (by omega)]; rfl
theorem Aj3:Af prog 208 (Ent.rd1 T5).F:=by
 refine fcK KnowsL.nil.knows (Λ:=Aa []) func208 fun vs bs r' hq=>?_
 unfold Ent.F T5 at hq;dsimp only at hq;split at hq
 ·rename_i n;obtain ⟨hc,hx⟩:=Ad hq;exact ⟨Ah _,(Y0 n (of_decide_eq_true hc)).trans hx⟩
 ·cases hq
def u8 (s:By):List Int:=s.map fun z=>((z.toNat:Nat):Int)
def FD:LoopEnt:=⟨20,[0,1],[0,1],[],fun
 | ([.ref 0 0 m,.j n],[R0 (.int .u8) o])=>.need (decide (m=o.length/\0<=n/\n<=1000000000000/\o.length<=1000000)) (.br (decide (n<128)) (.leaf (.exit 0,([.ref 0 0 m,.j n],[R0 (.int .u8) o]))) (.leaf (.exit 0,([.ref 1 0 (o++u8 (Bu 10 n.toNat).1).length,.j ((Bu 10 n.toNat).2:Int)],[none,R0 (.int .u8) (o++u8 (Bu 10 n.toNat).1)]))))
 | _=>.no⟩
def FE:LoopEnt:=⟨20,[0,1],[0,1],[],fun
 | ([.nl,.j n],[])=>.need (decide (0<=n/\n<=1000000000000)) (.br (decide (n<128)) (.leaf (.exit 0,([.nl,.j n],[]))) (.leaf (.exit 0,([.ref 0 0 (u8 (Bu 10 n.toNat).1).length,.j ((Bu 10 n.toNat).2:Int)],[R0 (.int .u8) (u8 (Bu 10 n.toNat).1)]))))
 | _=>.no⟩
def XC:Gm
 | [.ref 0 0 m,.j n],[.row false _ (.int .u8) o]=>.need (decide (m=o.length/\0<=n/\n<=1000000000000/\o.length<=1000000)) (.leaf (.ref 1 0 (o++u8 (vbs n.toNat)).length,[none,R0 (.int .u8) (o++u8 (vbs n.toNat))]))
 | _,_=>.no
def XD:Gm
 | [.nl,.j n],[]=>.need (decide (0<=n/\n<=1000000000000)) (.leaf (.ref 0 0 (u8 (vbs n.toNat)).length,[R0 (.int .u8) (u8 (vbs n.toNat))]))
 | _,_=>.no
def orG (f g:List V->List Blk->Br (V×List (Option Blk))) (vs:List V) (bs:List Blk):Br (V×List (Option Blk)):=match bs with | []=>g vs bs | _=>f vs bs
def Agc:List V->List Blk->Br (V×List (Option Blk)):=orG XC XD
theorem Ajk (m:Nat) (n:Int) (o:List Int):At prog (Aa []) (Aa [(1,FD)]) 1 (body f224 0) FD ([.ref 0 0 m,.j n],[R0 (.int .u8) o]) =
 ((ifB (decide (n>=128)) (ifT (decide ((m+1)*1<=140737488355328)&&decide (m+1<=maxI)) (some (Ex.normal,[V.ref 1 0 (m+1),
 V.j (n.fdiv ((2:Int) ^ min 7 i64.bits))],[none,R0 (Cd.int .u8) (take m (drop 0 o)++IntKind.u8.wrap
 (↑(BitVec.ofInt IntKind.u8.bits (IntKind.u8.wrap n) ||| BitVec.ofInt IntKind.u8.bits (128:Int)).toNat:Int)::Ag (Cd.int .u8).den)]))) (some (Ex.exit 0,[V.ref 0 0
 m,V.j n],[R0 (Cd.int .u8) o]))):_):=by kernel_rfl
theorem Afr (m:Nat) (n:Int) (o:List Int):At prog (Aa []) (Aa [(1,FD)]) 1 (body f224 0) FD ([.ref 1 0 m,.j n],[none,R0 (.int .u8) o]) =
 ((ifB (decide (n>=128)) (ifT (decide ((m+1)*1<=140737488355328)&&decide (m+1<=maxI)) (some (Ex.normal,[V.ref 1 0 (m+1),
 V.j (n.fdiv ((2:Int) ^ min 7 i64.bits))],[none,R0 (Cd.int .u8) (take m (drop 0 o)++IntKind.u8.wrap
 (↑(BitVec.ofInt IntKind.u8.bits (IntKind.u8.wrap n) ||| BitVec.ofInt IntKind.u8.bits (128:Int)).toNat:Int)::Ag (Cd.int .u8).den)]))) (some (Ex.exit 0,[V.ref 1 0
 m,V.j n],[none,R0 (Cd.int .u8) o]))):_):=by kernel_rfl
theorem Ajl (n:Int):At prog (Aa []) (Aa [(1,FE)]) 0 (body f224 0) FE ([.nl,.j n],[]) =
 ((ifB (decide (n>=128)) (some (Ex.normal,[V.ref 0 0 1,V.j (n.fdiv ((2:Int) ^ min 7 i64.bits))],[R0 (Cd.int .u8)
 (IntKind.u8.wrap (↑(BitVec.ofInt IntKind.u8.bits (IntKind.u8.wrap n) ||| BitVec.ofInt IntKind.u8.bits (128:Int)).toNat:Int)::Ag (Cd.int .u8).den)])) (some
 (Ex.exit 0,[V.nl,V.j n],[]))):_):=by kernel_rfl
theorem Afs (m:Nat) (n:Int) (o:List Int):At prog (Aa []) (Aa [(1,FE)]) 0 (body f224 0) FE ([.ref 0 0 m,.j n],[R0 (.int .u8) o]) =
 ((ifB (decide (n>=128)) (ifT (decide ((m+1)*1<=140737488355328)&&decide (m+1<=maxI)) (some (Ex.normal,[V.ref 0 0 (m+1),
 V.j (n.fdiv ((2:Int) ^ min 7 i64.bits))],[R0 (Cd.int .u8) (take m (drop 0 o)++IntKind.u8.wrap
 (↑(BitVec.ofInt IntKind.u8.bits (IntKind.u8.wrap n) ||| BitVec.ofInt IntKind.u8.bits (128:Int)).toNat:Int)::Ag (Cd.int .u8).den)]))) (some (Ex.exit 0,[V.ref 0 0
 m,V.j n],[R0 (Cd.int .u8) o]))):_):=by kernel_rfl
theorem Vi (m:Nat) (n:Int) (o:List Int) (nl:Option Bool):BI prog (Aa []) (Aa [(1,FD)]) f224 [.ref 0 0 m,.j n] [.row false nl (.int .u8) o] =
 ((ifT (decide (m=o.length/\0<=n/\n<=1000000000000/\o.length<=1000000)) (ifB (decide (n<128)) (ifT (decide ((m+1)*1<=(140737488355328 :
 Nat))&&decide (m+1<=maxI)) (some (V.ref 1 0 (m+1),[none,R0 (Cd.int .u8) (take m (drop 0 o)++
 IntKind.u8.wrap n::Ag (Cd.int .u8).den)]))) (ifT (decide (((o++u8 (Bu 10 n.toNat).1).length+1)*1<=140737488355328)&&
 decide ((o++u8 (Bu 10 n.toNat).1).length+1<=maxI)) (some (V.ref 1 0 ((o++u8 (Bu 10 n.toNat).1).length+1),[none,R0 (Cd.int .u8) (take (o++u8 (Bu 10 n.toNat).1).length (drop 0 (o++u8 (Bu 10 n.toNat).1))++
 IntKind.u8.wrap (↑(Bu 10 n.toNat).2:Int)::Ag (Cd.int .u8).den)]))))):_):=by kernel_rfl
theorem Vj (n:Int):BI prog (Aa []) (Aa [(1,FE)]) f224 [.nl,.j n] [] =
 ((ifT (decide (0<=n/\n<=1000000000000)) (ifB (decide (n<128)) (some (V.ref 0 0 1,[R0 (Cd.int .u8) (IntKind.u8.wrap n::Ag (Cd.int
 .u8).den)])) (ifT (decide (((u8 (Bu 10 n.toNat).1).length+1)*1<=140737488355328)&&decide ((u8 (Bu 10
 n.toNat).1).length+1<=maxI)) (some (V.ref 0 0 ((u8 (Bu 10 n.toNat).1).length+1),[R0 (Cd.int .u8) (take (u8
 (Bu 10 n.toNat).1).length (drop 0 (u8 (Bu 10 n.toNat).1))++IntKind.u8.wrap (↑(Bu 10 n.toNat).2:Int)::Ag (Cd.int
 .u8).den)]))))):_):=by kernel_rfl
theorem Kn (z:UInt8) (s:By):u8 (z::s)=((z.toNat:Nat):Int)::u8 s:=rfl
theorem I6 (a b:By):u8 (a++b)=u8 a++u8 b:=by unfold u8; rw [List.map_append]
theorem FF (a:By):(u8 a).length=a.length:=by unfold u8; rw [length_map]
theorem Uk (a:By):(u8 a).map (fun n:Int=>UInt8.ofNat n.toNat)=a:=by
 unfold u8;rw [map_map]
 conv=>rhs; rw [<-List.map_id a]
 exact map_congr_left fun z _=>by simp
theorem Aji (n:Nat):IntKind.u8.wrap (n:Int)=((n % 256:Nat):Int):=by
 unfold IntKind.wrap;simp [IntKind.bits,IntKind.signed]
theorem Pc (n:Nat):IntKind.u8.wrap ((BitVec.ofInt IntKind.u8.bits (IntKind.u8.wrap (n:Int)) ||| BitVec.ofInt IntKind.u8.bits (128:Int)).toNat:Int)=(((UInt8.ofNat (n % 128+128)).toNat:Nat):Int):=by
 have key : ∀ x,x<256->(BitVec.ofNat 8 x ||| BitVec.ofNat 8 128).toNat=x % 128+128:=by decide
 have e:(BitVec.ofInt IntKind.u8.bits (IntKind.u8.wrap (n:Int)) ||| BitVec.ofInt IntKind.u8.bits (128:Int)).toNat=n % 128+128:=by
  rw [Aji];show (BitVec.ofInt 8 ((n % 256:Nat):Int) ||| BitVec.ofInt 8 ((128:Nat):Int)).toNat=_;rw [BitVec.ofInt_natCast,BitVec.ofInt_natCast,key (n % 256) (by omega)];omega
 rw [e,PU (by omega)]
 have:(UInt8.ofNat (n % 128+128)).toNat=n % 128+128:=by
  rw [UInt8.toNat_ofNat']; omega
 rw [this]
theorem Ajj {n:Nat} (h:n<128):IntKind.u8.wrap (n:Int)=(((UInt8.ofNat n).toNat:Nat):Int):=by
 rw [PU (by omega)];have:(UInt8.ofNat n).toNat=n:=by rw [UInt8.toNat_ofNat']; omega
 rw [this]
theorem Acn (n:Nat):fdiv (n:Int) ((2:Int) ^ min 7 i64.bits)=((n / 128:Nat):Int):=by
 show fdiv (n:Int) ((128:Nat):Int)=_;rw [Int.fdiv_eq_ediv_of_nonneg _ (by omega)];rfl
theorem Km {f n:Nat} (h:128<=n):Bu (f+1) n=(UInt8.ofNat (n % 128+128)::(Bu f (n / 128)).1,(Bu f (n / 128)).2):=by rw [Bu,if_pos h]
theorem H2 {f n:Nat} (h:n<128):Bu f n=([],n):=by
 cases f with
 | zero=>rfl
 | succ f=>rw [Bu,if_neg (by omega)]
theorem OY (f n:Nat):(Bu f n).1.length<=f:=by
 induction f generalizing n with
 | zero=>rw [Bu]; exact le_refl _
 | succ f ih=>
  rw [Bu];split
  ·have:=ih (n / 128);rw [length_cons]; omega
  ·exact Nat.zero_le _
theorem MS : ∀ (f n:Nat) (o:List Int),n<128 ^ f->f<=10->o.length+f<=1000010->
  Runs prog (Aa []) (Aa [(1,FD)]) 1 (body f224 0) FD ([.ref 1 0 o.length,.j (n:Int)],[none,R0 (.int .u8) o]) (.exit 0) ([.ref 1 0 (o++u8 (Bu f n).1).length,.j ((Bu f n).2:Int)],[none,R0 (.int .u8) (o++u8 (Bu f n).1)])
 | 0,n,o,h,hf,ho=>by
  have:n=0:=by simpa using h
  subst this;have hr:=Afr o.length ((0:Nat):Int) o;rw [Ac (dcF (by omega))] at hr;rw [Bu,show u8 []=[] from rfl,append_nil];exact stp hr
 | f+1,n,o,h,hf,ho=>by
  have hM:=mxI;have hr:=Afr o.length (n:Int) o
  by_cases q:128<=n
  ·rw [Ae (dcT (by omega)),T2 (by omega),Pc,Acn,drop_zero,take_length] at hr;rw [pow_succ] at h;have ih:=MS f (n / 128) (o++[(((UInt8.ofNat (n % 128+128)).toNat:Nat):Int)]) (Nat.div_lt_of_lt_mul (by omega)) (by omega) (by simp; omega);rw [length_append,length_singleton,append_assoc] at ih;rw [Km q];dsimp only;rw [Kn];exact sts hr ih
  ·rw [Ac (dcF (by omega))] at hr;rw [H2 (by omega),show u8 []=[] from rfl,append_nil];exact stp hr
theorem MT : ∀ (f n:Nat) (o:List Int),n<128 ^ f->f<=10->o.length+f<=1000010->
  Runs prog (Aa []) (Aa [(1,FE)]) 0 (body f224 0) FE ([.ref 0 0 o.length,.j (n:Int)],[R0 (.int .u8) o]) (.exit 0) ([.ref 0 0 (o++u8 (Bu f n).1).length,.j ((Bu f n).2:Int)],[R0 (.int .u8) (o++u8 (Bu f n).1)])
 | 0,n,o,h,hf,ho=>by
  have:n=0:=by simpa using h
  subst this;have hr:=Afs o.length ((0:Nat):Int) o;rw [Ac (dcF (by omega))] at hr;rw [Bu,show u8 []=[] from rfl,append_nil];exact stp hr
 | f+1,n,o,h,hf,ho=>by
  have hM:=mxI;have hr:=Afs o.length (n:Int) o
  by_cases q:128<=n
  ·rw [Ae (dcT (by omega)),T2 (by omega),Pc,Acn,drop_zero,take_length] at hr;rw [pow_succ] at h;have ih:=MT f (n / 128) (o++[(((UInt8.ofNat (n % 128+128)).toNat:Nat):Int)]) (Nat.div_lt_of_lt_mul (by omega)) (by omega) (by simp; omega);rw [length_append,length_singleton,append_assoc] at ih;rw [Km q];dsimp only;rw [Kn];exact sts hr ih
  ·rw [Ac (dcF (by omega))] at hr;rw [H2 (by omega),show u8 []=[] from rfl,append_nil];exact stp hr
theorem p10 {n:Nat} (h:(n:Int)<=1000000000000):n<128 ^ 10/\n / 128<128 ^ 9:=by
 have a:(128:Nat) ^ 10=1180591620717411303424:=by decide
 have b:(128:Nat) ^ 9=9223372036854775808:=by decide
 omega
theorem Abt:As prog (Aa []) (Aa [(1,FD)]) 1 (f224.body.getD .skip):=by
 refine Am (a:=body f224 0) (by kernel_rfl) fun d ex d' h=>?_
 unfold FD at h;dsimp only at h;split at h
 ·rename_i m n o;obtain ⟨hc,hx⟩:=Ad h;clear h;obtain ⟨rfl,h0,h1,h2⟩:=of_decide_eq_true hc;obtain ⟨n,rfl⟩:=eq_ofNat_of_zero_le h0;rw [ntN] at hx;have hM:=mxI;have hr:=Ajk o.length (n:Int) o
  by_cases q:n<128
  ·rw [Ac (dcF (by omega))] at hr;rw [GN (dcT (by omega))] at hx;obtain ⟨rfl,rfl⟩:=lfP hx;exact stp hr
  ·rw [Ae (dcT (by omega)),T2 (by omega),Pc,Acn,drop_zero,take_length] at hr;rw [Hz (dcF (by omega)),Km (by omega)] at hx;obtain ⟨rfl,rfl⟩:=lfP hx;have ih:=MS 9 (n / 128) (o++[(((UInt8.ofNat (n % 128+128)).toNat:Nat):Int)]) (p10 h1).2 (by omega) (by simp; omega);rw [length_append,length_singleton,append_assoc] at ih;rw [Kn];exact sts hr ih
 ·cases h
theorem Abu:As prog (Aa []) (Aa [(1,FE)]) 0 (f224.body.getD .skip):=by
 refine Am (a:=body f224 0) (by kernel_rfl) fun d ex d' h=>?_
 unfold FE at h;dsimp only at h;split at h
 ·rename_i n;obtain ⟨hc,hx⟩:=Ad h;clear h;obtain ⟨h0,h1⟩:=of_decide_eq_true hc;obtain ⟨n,rfl⟩:=eq_ofNat_of_zero_le h0;rw [ntN] at hx;have hr:=Ajl (n:Int)
  by_cases q:n<128
  ·rw [Ac (dcF (by omega))] at hr;rw [GN (dcT (by omega))] at hx;obtain ⟨rfl,rfl⟩:=lfP hx;exact stp hr
  ·rw [Ae (dcT (by omega)),Pc,Acn] at hr;rw [Hz (dcF (by omega)),Km (by omega)] at hx;obtain ⟨rfl,rfl⟩:=lfP hx;have ih:=MT 9 (n / 128) [(((UInt8.ofNat (n % 128+128)).toNat:Nat):Int)] (p10 h1).2 (by omega) (by simp);rw [Kn];exact sts hr ih
 ·cases h
theorem XB {n:Nat} (h:(n:Int)<=1000000000000):u8 (vbs n)=u8 (Bu 10 n).1++[IntKind.u8.wrap ((Bu 10 n).2:Int)]:=by
 have:=Kl 10 n (by have:=(p10 h).1; rw [pow_succ]; omega);unfold vbs;rw [I6,Ajj this.1]; rfl
theorem XE (m:Nat) (n:Int) (o:List Int) (nl:Option Bool) (hc:m=o.length/\0<=n/\n<=1000000000000/\o.length<=1000000):BI prog (Aa []) (Aa [(1,FD)]) f224 [.ref 0 0 m,.j n] [.row false nl (.int .u8) o]=some (.ref 1 0 (o++u8 (vbs n.toNat)).length,[none,R0 (.int .u8) (o++u8 (vbs n.toNat))]):=by
 rw [Vi,Ab (dcT hc)];obtain ⟨rfl,h0,h1,h2⟩:=hc;obtain ⟨n,rfl⟩:=eq_ofNat_of_zero_le h0;have hM:=mxI;have hp:=OY 10 n;rw [ntN,XB h1]
 by_cases q:n<128
 ·rw [Ae (dcT (by omega)),T2 (by omega),H2 q];simp only [drop_zero,take_length,AX,show u8 []=[] from rfl,nil_append,length_append,length_singleton]
 ·rw [Ac (dcF (by omega)),Ab (by simp only [anE,dcE,length_append,FF]; omega)];simp only [drop_zero,take_length];simp only [AX,<-append_assoc,length_append,length_singleton]
theorem XF (n:Int) (hc:0<=n/\n<=1000000000000):BI prog (Aa []) (Aa [(1,FE)]) f224 [.nl,.j n] []=some (.ref 0 0 (u8 (vbs n.toNat)).length,[R0 (.int .u8) (u8 (vbs n.toNat))]):=by
 rw [Vj,Ab (dcT hc)];obtain ⟨h0,h1⟩:=hc;obtain ⟨n,rfl⟩:=eq_ofNat_of_zero_le h0;have hM:=mxI;have hp:=OY 10 n;rw [ntN,XB h1]
 by_cases q:n<128
 ·rw [Ae (dcT (by omega)),H2 q];rfl
 ·rw [Ac (dcF (by omega)),Ab (by simp only [anE,dcE,FF]; omega)];simp only [drop_zero,take_length];simp only [AX,length_append,length_singleton]
theorem R8 {P:Program} {K:FuncId} {F F' G:List V->List Blk->Option (V×List (Option Blk))} (h:Af P K F) (h':Af P K F') (hG : ∀ vs bs r,G vs bs=some r->F vs bs=some r\/F' vs bs=some r):Af P K G:=by
 intro w R μ vs us bs r outs hm hn hr hG1;rcases hG vs bs _ hG1 with h1 | h1
 ·exact h w R μ vs us bs r outs hm hn hr h1
 ·exact h' w R μ vs us bs r outs hm hn hr h1
theorem Akr:Af prog 224 (Ent.own XC).F:=by
 refine fcC KnowsL.nil.knows (Λ:=(Aa [(1,FD)])) func224 fun vs bs r hq=>?_
 unfold Ent.F XC at hq;dsimp only at hq;split at hq
 ·rename_i m n nl o;obtain ⟨hc,hx⟩:=Ad hq;exact ⟨Abt,(XE m n o nl (of_decide_eq_true hc)).trans hx⟩
 ·cases hq
theorem Aks:Af prog 224 (Ent.own XD).F:=by
 refine fcC KnowsL.nil.knows (Λ:=(Aa [(1,FE)])) func224 fun vs bs r hq=>?_
 unfold Ent.F XD at hq;dsimp only at hq;split at hq
 ·rename_i n;obtain ⟨hc,hx⟩:=Ad hq;exact ⟨Abu,(XF n (of_decide_eq_true hc)).trans hx⟩
 ·cases hq
theorem Alx:Af prog 224 (Ent.own Agc).F:=by
 refine R8 Akr Aks fun vs bs r h=>?_
 unfold Ent.F Agc orG at h;dsimp only at h;split at h
 ·exact .inr h
 ·exact .inl h
theorem WE (n:Int):Aw prog (Aa []) (Aa []) f225 [.j n] [] =
 ((ifB (decide (n<0)) (some (V.j (i64.wrap (i64.wrap ((-2:Int)*n)-(1:Int))),[])) (some (V.j (i64.wrap (2*n)),[]))):_):=by kernel_rfl
theorem ZT (n:Int) (hc : -1000000000000<=n/\n<=1000000000000):Aw prog (Aa []) (Aa []) f225 [.j n] []=some (.j (fol n),[]):=by
 obtain ⟨h0,h1⟩:=hc;rw [WE];unfold fol
 by_cases q:n<0
 ·rw [Ae (dcT q),if_pos q,Av (n:=-2*n) (by omega) (by omega),Av (by omega) (by omega)]
 ·rw [Ac (dcF q),if_neg q,Av (by omega) (by omega)]
theorem Alz:Af prog 225 (Ent.rd1 T5).F:=by
 refine fcK KnowsL.nil.knows (Λ:=Aa []) func225 fun vs bs r hq=>?_
 unfold Ent.F T5 at hq;dsimp only at hq;split at hq
 ·rename_i n;obtain ⟨hc,hx⟩:=Ad hq;exact ⟨Ah _,(ZT n (of_decide_eq_true hc)).trans hx⟩
 ·cases hq
def fb1 (f:WFd):By:=vbs (8*f.1+f.2.1).toNat++(if f.2.1=0 then vbs (fol f.2.2.1).toNat else vbs f.2.2.2.1.length++f.2.2.2.1)
def fbs (l:List WFd):By:=l.flatMap fb1
theorem JN {f:WFd} (h:AU f=true):(1<=f.1/\f.1<=30)/\((f.2.1=0/\Cm f.2.2.1=true/\f.2.2.2.1=[])\/(f.2.1=2/\f.2.2.1=0)):=by
 unfold AU at h;simp only [anE,dcE] at h;obtain ⟨h1,h2⟩:=h;refine ⟨h1,?_⟩;split at h2
 ·rename_i q;simp only [anE,beq_iff_eq] at h2;exact .inl ⟨q,h2.1,h2.2⟩
 ·split at h2
  ·rename_i q;exact .inr ⟨q,by simpa using h2⟩
  ·cases h2
theorem IK {n:Int} (h:Cm n=true) : -1000000000<=n/\n<=1000000000:=by
 unfold Cm at h
 simpa only [anE,dcE] using h
theorem G6 {n:Int} (h : -1000000000<=n/\n<=1000000000):0<=fol n/\fol n<=2000000000:=by
 unfold fol; split<;>omega
theorem Rr (f:WFd) (l:List WFd):fbs (f::l)=fb1 f++fbs l:=by unfold fbs; rw [List.flatMap_cons]

theorem Di {k:Int} {z:Rose Lab} : ∀ {l:RL},AL k l=true->z∈l->An z=true
 | [],_,h=>by cases h
 | y::l,hn,h=>by
  rw [AL,anE,anE] at hn;rcases mem_cons.1 h with rfl | h
  ·exact hn.1.2
  ·exact Di hn.2 h
theorem Ahm {l:List Nd} {e:Nat} (h:e<l.length):noN l e=some l[e].2.2.1:=by
 unfold noN;rw [gtE h]; rfl
theorem DA {z:Rose Lab} (h:An z=true):BV z.lab z.kids=true/\AL z.lab.1 z.kids=true:=by
 cases z;rw [An,anE] at h;exact h

theorem QX {l:List Ty} (h:AN l=true):Ao (kf l 0).1<=1000000/\An (kf l 0).1=true:=by
 unfold AN at h;simp only [anE,dcE] at h;obtain ⟨⟨⟨h1,_⟩,h3⟩,h4⟩:=h;have hl:0<l.length:=by omega
 have hc:=P0 hl;have hb:=CI l 0 hl;refine ⟨by omega,?_⟩;unfold BM at h4;simp only [anE] at h4;exact h4.1.1.2
abbrev AG:=Int×By×Int×Bool×Unit
def IL (l:List Nd) (i:Nat):AG:=match l[i]? with | some x=>(x.1,x.2.1,x.2.2.1,x.2.2.2.2.1,()) | none=>(0,[],0,false,())
def nkL (k:Int):Nat->List Nd->List Int
 | _,[]=>[]
 | i,x::l=>if x.2.2.2.1=k then (i:Int)::nkL k (i+1) l else nkL k (i+1) l
def E1 (l:List Nd) (k:Nat):List Int:=nkL k (k+1) (l.drop (k+1))
def v4t (l:List Nd):Nat->Nat->Rose AG
 | 0,k=>.node (IL l k) []
 | f+1,k=>.node (IL l k) ((E1 l k).map fun i=>v4t l f i.toNat)
def v4L (l:List Nd) (k:Nat):Rose AG:=v4t l l.length k
def DC:LoopEnt:=⟨29,[1,2,5,6],[5],[],fun
 | ([.j k,.ptr 0 0,.ref 1 0 n,.j i],[some (.box [.sl NCd l]),R0 (.int .i64) o])=>.need (decide (0<=i/\i.toNat<=l.length/\l.length<=4000000000/\n=o.length/\o.length<=i.toNat)) (.leaf (.exit 0,([.ref 0 0 (o++nkL k i.toNat (l.drop i.toNat)).length],[R0 (.int .i64) (o++nkL k i.toNat (l.drop i.toNat))])))
 | _=>.no⟩
def Pt:Gm
 | [.agg [.sl NCd l],.j k],[]=>.need (decide (0<=k/\k.toNat<l.length/\l.length<=4000000000)) (.leaf (.ref 0 0 (E1 l k.toNat).length,[R0 (.int .i64) (E1 l k.toNat)]))
 | _,_=>.no
def Fe (n:Nat):Gm
 | [.agg [.sl NCd l],.j k],[]=>.need (decide (0<=k/\k.toNat<l.length/\l.length<=4000000000/\l.length-k.toNat<=n)) (.leaf (.agg [.j (v4L l k.toNat).lab.1,.s (v4L l k.toNat).lab.2.1,.j (v4L l k.toNat).lab.2.2.1,.b (v4L l k.toNat).lab.2.2.2.1,.ref 0 0 (v4L l k.toNat).kids.length],[R0 (.rose VCd) (v4L l k.toNat).kids]))
 | _,_=>.no
def HV:Gm
 | [.agg [.sl NCd l],.j k],[]=>.need (decide (0<=k/\k.toNat<l.length/\l.length<=4000000000)) (.leaf (.agg [.j (v4L l k.toNat).lab.1,.s (v4L l k.toNat).lab.2.1,.j (v4L l k.toNat).lab.2.2.1,.b (v4L l k.toNat).lab.2.2.2.1,.ref 0 0 (v4L l k.toNat).kids.length],[R0 (.rose VCd) (v4L l k.toNat).kids]))
 | _,_=>.no
def DB (n:Nat):LoopEnt:=⟨41,[2,4,6,25,26,27],[4,6],[],fun
 | ([.ptr 0 0,.ptr 1 0,.ptr 2 0,.ref 3 0 p,.j m,.j i],[some (.box [.sl NCd l]),some (.box [.j 0,.s [],.j 0,.b false,.ref 4 0 0]),some (.box [.j x0,.s x1,.j x2,.b x3,.ref 5 0 k]),R0 (.int .i64) q,R0 (.rose VCd) [],R0 (.rose VCd) ks])=>.need (decide (0<=i/\i.toNat<=q.length/\m=q.length/\p=q.length/\k=ks.length/\ks.length<=i.toNat/\q.length<=4000000000/\l.length<=4000000000)&&(q.all fun i:Int=>decide (0<=i/\i.toNat<l.length/\l.length-i.toNat<=n))) (.leaf (.exit 0,([.ptr 0 0,.ptr 1 0],[some (.box [.j 0,.s [],.j 0,.b false,.ref 2 0 0]),some (.box [.j x0,.s x1,.j x2,.b x3,.ref 3 0 (ks++(q.drop i.toNat).map fun i=>v4L l i.toNat).length]),R0 (.rose VCd) [],R0 (.rose VCd) (ks++(q.drop i.toNat).map fun i=>v4L l i.toNat)])))
 | _=>.no⟩
theorem MR (z:Rose AG):Rose.node (z.lab.1,z.lab.2.1,z.lab.2.2.1,z.lab.2.2.2.1,()) (take z.kids.length (drop 0 z.kids))=z:=by
 obtain ⟨⟨_,_,_,_,⟨⟩⟩,ks⟩:=z;simp [Rose.lab,Rose.kids]
theorem U3 {k:Int} : ∀ {l:List Nd} {i:Nat} {x:Int},x∈nkL k i l->∃ j:Nat,x=(j:Int)/\i<=j/\j<i+l.length
 | [],i,x,h=>by simp [nkL] at h
 | y::l,i,x,h=>by
  rw [nkL] at h
  have rest:x∈nkL k (i+1) l->∃ j:Nat,x=(j:Int)/\i<=j/\j<i+(y::l).length:=fun h=>by
   obtain ⟨j,h1,h2,h3⟩:=U3 h;exact ⟨j,h1,by omega,by simp; omega⟩
  split at h
  ·rcases mem_cons.1 h with rfl | h
   ·exact ⟨i,rfl,le_refl _,by simp⟩
   ·exact rest h
  ·exact rest h
theorem L4 {l:List Nd} {k:Nat} {x:Int} (h:x∈E1 l k) : ∃ j:Nat,x=(j:Int)/\k<j/\j<l.length:=by
 obtain ⟨j,h1,h2,h3⟩:=U3 h;rw [length_drop] at h3;exact ⟨j,h1,by omega,by omega⟩
theorem Pm (k:Int) : ∀ (l:List Nd) (i:Nat),(nkL k i l).length<=l.length
 | [],i=>le_refl _
 | y::l,i=>by
  rw [nkL];have:=Pm k l (i+1);split<;>simp<;>omega
theorem Uj (l:List Nd) : ∀ (f f' k:Nat),l.length-k<=f->l.length-k<=f'->k<l.length->v4t l f k=v4t l f' k
 | 0,f',k,h1,_,h=>by omega
 | f+1,0,k,_,h1,h=>by omega
 | f+1,f'+1,k,h1,h2,h=>by
  unfold v4t;congr 1;refine map_congr_left fun x hx=>?_
  obtain ⟨j,rfl,h3,h4⟩:=L4 hx;exact Uj l f f' _ (by simp; omega) (by simp; omega) (by simpa using h4)
theorem Aft {l:List Nd} {k:Nat} (h:k<l.length):v4L l k = .node (IL l k) ((E1 l k).map fun i=>v4L l i.toNat):=by
 obtain ⟨m,hm⟩ : ∃ m,l.length=m+1:=⟨l.length-1,by omega⟩
 unfold v4L
 conv=>lhs; rw [hm]
 rw [v4t];congr 1;refine map_congr_left fun x hx=>?_
 obtain ⟨j,rfl,h3,h4⟩:=L4 hx;exact Uj l m l.length _ (by simp; omega) (by simp) (by simpa using h4)
theorem HW (l:List Nd) (k:Int) (n:Nat) (i:Int) (o:List Int):At prog (Aa []) (Aa [(3,DC)]) 0 (body f210 0) DC ([.j k,.ptr 0 0,.ref 1 0 n,.j i],[some (.box [.sl NCd l]),R0 (.int .i64) o]) =
 ((ifB (decide (i<(↑l.length:Int))) (ifT (decide (0<=i)&&decide (i<(↑l.length:Int))) (Ak l[i.toNat]? fun z=>ifB (z.2.2.2.1==k) (ifT (decide ((n +
 1)*8<=140737488355328)&&decide (n+1<=maxI)) (some (Ex.normal,[V.j k,V.ptr 0 0,V.ref 1 0 (n+1),V.i .i64
 (i64.wrap (i+1))],[some (Blk.box [V.sl NCd l]),R0 (Cd.int .i64) (take n (drop 0 o)++i::Ag (Cd.int
 .i64).den)]))) (some (Ex.normal,[V.j k,V.ptr 0 0,V.ref 1 0 n,V.j (i64.wrap (i+1))],[some (Blk.box [V.sl NCd l]),R0 (Cd.int .i64) o])))) (some (Ex.exit 0,[V.ref 0 0 n],[R0 (Cd.int .i64) o]))):_):=by kernel_rfl
theorem FX (l:List Nd) (k:Int) (hl:l.length<=4000000000) : ∀ (j i:Nat) (o:List Int),i+j=l.length->o.length<=i->
  Runs prog (Aa []) (Aa [(3,DC)]) 0 (body f210 0) DC ([.j k,.ptr 0 0,.ref 1 0 o.length,.j (i:Int)],[some (.box [.sl NCd l]),R0 (.int .i64) o]) (.exit 0) ([.ref 0 0 (o++nkL k i (l.drop i)).length],[R0 (.int .i64) (o++nkL k i (l.drop i))])
 | 0,i,o,hi,ho=>by
  have hr:=HW l k o.length i o;rw [Ac (dcF (by omega))] at hr;rw [drop_eq_nil_of_le (by omega),nkL,append_nil];exact stp hr
 | j+1,i,o,hi,ho=>by
  have h1:i<l.length:=by omega
  have hM:=mxI;have hr:=HW l k o.length i o;rw [Ae (dcT (by omega)),T2 (by omega)] at hr;simp only [ntN,gtE h1,Ai,Ap (n:=i) (by omega),drop_zero,take_length] at hr;rw [drop_eq_getElem_cons h1,nkL]
  by_cases h2:l[i].2.2.2.1=k
  ·rw [Ae (by rw [h2]; exact beq_self_eq_true _),T2 (by omega)] at hr;rw [if_pos h2];have ih:=FX l k hl j (i+1) (o++[(i:Int)]) (by omega) (by simp; omega);rw [append_assoc] at ih;exact sts (hr.trans (by simp)) ih
  ·rw [Ac (beq_false_of_ne h2)] at hr;rw [if_neg h2];exact sts hr (FX l k hl j (i+1) o (by omega) (by omega))
theorem Ws:As prog (Aa []) (Aa [(3,DC)]) 0 (f210.body.getD .skip):=by
 refine Am (a:=body f210 0) (by kernel_rfl) fun d ex d' h=>?_
 unfold DC at h;dsimp only at h;split at h
 ·rename_i k n i l o;obtain ⟨hc,hx⟩:=Ad h;clear h;obtain ⟨h0,h1,h2,rfl,h4⟩:=of_decide_eq_true hc;obtain ⟨i,rfl⟩:=eq_ofNat_of_zero_le h0;simp only [ntN] at h1 h4 hx;obtain ⟨rfl,rfl⟩:=lfP hx;exact FX l k h2 (l.length-i) i o (by omega) h4
 ·cases h
theorem Tb (l:List Nd) (k:Int) (hc:0<=k/\k.toNat<l.length/\l.length<=4000000000):CS prog (Aa []) (Aa [(3,DC)]) f210 [.agg [.sl NCd l],.j k] []=some (.ref 0 0 (E1 l k.toNat).length,[R0 (.int .i64) (E1 l k.toNat)]):=by
 have e:CS prog (Aa []) (Aa [(3,DC)]) f210 [.agg [.sl NCd l],.j k] []=((ifT (decide (0<=i64.wrap (k+1)/\(i64.wrap (k+1)).toNat<=l.length/\l.length<=4000000000/\0=0/\0<=
 (i64.wrap (k+1)).toNat)) (some (V.ref 0 0 (Ag (Cd.int .i64).den++nkL k (i64.wrap (k+1)).toNat (drop (i64.wrap (k+1)).toNat
 l)).length,[R0 (Cd.int .i64) (Ag (Cd.int .i64).den++nkL k (i64.wrap (k+1)).toNat (drop (i64.wrap (k+1)).toNat l))]))):_):=by kernel_rfl
 rw [e];clear e;obtain ⟨h0,h1,h2⟩:=hc;obtain ⟨k,rfl⟩:=eq_ofNat_of_zero_le h0;rw [ntN] at h1;have hM:=mxI;rw [Ap (n:=k) (by omega),Ab (dcT ⟨by omega,by omega,h2,by simp,by simp⟩)];simp only [ntN,AX,nil_append];rfl
theorem Ah0:Af prog 210 (Ent.rd1 Pt).F:=by
 refine fcN KnowsL.nil.knows (Λ:=(Aa [(3,DC)])) func210 fun vs bs r hq=>?_
 unfold Ent.F Pt at hq;dsimp only at hq;split at hq
 ·rename_i l k;obtain ⟨hc,hx⟩:=Ad hq;exact ⟨Ws,(Tb l k (of_decide_eq_true hc)).trans hx⟩
 ·cases hq
abbrev Abl (n:Nat):FuncId->Option Ent:=Aa [(210,.rd1 Pt),(175,.rd1 (Fe n))]
theorem HU (n:Nat) (l:List Nd) (x0:Int) (x1:By) (x2:Int) (x3:Bool) (p:Nat) (m i:Int) (k:Nat) (q:List Int) (ks:RVL):At prog (Abl n) (Aa [(4,DB n)]) 0 (body f175 0) (DB n) ([.ptr 0 0,.ptr 1 0,.ptr 2 0,.ref 3 0 p,.j m,.j i],[some (.box [.sl NCd l]),some (.box [.j 0,.s [],.j 0,.b false,.ref 4 0 0]),some (.box [.j x0,.s x1,.j x2,.b x3,.ref 5 0 k]),R0 (.int .i64) q,R0 (.rose VCd) [],R0 (.rose VCd) ks]) =
 ((ifB (decide (i<m)) (ifT (decide (0<=i)&&decide (i<(↑p:Int))) (Ak q[0+i.toNat]? fun z=>ifT (decide ((0:Int)<=z/\toNat z<l.length/\
 l.length<=4000000000/\l.length-toNat z<=n)) (ifT (decide ((k+1)*64<=140737488355328)&&decide (k+1<=maxI)) (some
 (Ex.normal,[V.ptr 0 0,V.ptr 1 0,V.ptr 2 0,V.ref 3 0 p,V.j m,V.j (i64.wrap (i+1))],[some (Blk.box [V.sl NCd l]),some (Blk.box [V.j 0,V.s
 (Ag UInt8),V.j 0,V.b false,V.ref 4 0 0]),some (Blk.box [V.j x0,V.s x1,V.j x2,V.b x3,V.ref 5 0 (k+1)]),R0 (Cd.int
 .i64) q,R0 VCd.rose (Ag VCd.rose.den),R0 VCd.rose (take k (drop 0 ks)++Rose.node ((v4L l (toNat
 z)).lab.1,(v4L l (toNat z)).lab.2.1,(v4L l (toNat z)).lab.2.2.1,(v4L l (toNat z)).lab.2.2.2.1,()) (take (v4L l (toNat
 z)).kids.length (drop 0 (v4L l (toNat z)).kids))::Ag VCd.rose.den)]))))) (some (Ex.exit 0,[V.ptr 0 0,V.ptr 1 0],[some (Blk.box [V.j 0,V.s
 (Ag UInt8),V.j 0,V.b false,V.ref 2 0 0]),some (Blk.box [V.j x0,V.s x1,V.j x2,V.b x3,V.ref 3 0 k]),R0 VCd.rose (Ag
 VCd.rose.den),R0 VCd.rose ks]))):_):=by kernel_rfl
theorem QP (n:Nat) (l:List Nd) (k:Int):CS prog (Abl n) (Aa [(4,DB n)]) f175 [.agg [.sl NCd l],.j k] [] =
 ((ifT (decide (0<=k)&&decide (k<(↑l.length:Int))) (Ak l[k.toNat]? fun z=>ifT (decide (0<=k/\k.toNat<l.length/\l.length<=4000000000)) (ifT (decide
 ((0:Int)<=(0:Int)/\0<=(E1 l k.toNat).length/\(↑(E1 l k.toNat).length:Int)=(↑(E1 l k.toNat).length:Int)/\(E1 l k.toNat).length=(E1 l
 k.toNat).length/\0=0/\0<=0/\(E1 l k.toNat).length<=4000000000/\l.length<=4000000000)&&(E1 l k.toNat).all
 fun i=>decide ((0:Int)<=i/\i.toNat<l.length/\l.length-i.toNat<=n)) (some (V.agg [V.j z.1,V.s z.2.1,V.j z.2.2.1,V.b
 z.2.2.2.2.1,V.ref 0 0 (Ag VCd.rose.den++List.map (fun i=>v4L l (toNat i)) (drop 0 (E1 l k.toNat))).length],[R0 VCd.rose (Ag VCd.rose.den++List.map (fun i=>v4L l (toNat i)) (drop 0 (E1 l k.toNat)))]))))):_):=by kernel_rfl
theorem JC (n:Nat) (l:List Nd) (x0:Int) (x1:By) (x2:Int) (x3:Bool) (q:List Int) (hl:l.length<=4000000000) (hq:q.length<=4000000000) (hs:(q.all fun i:Int=>decide (0<=i/\i.toNat<l.length/\l.length-i.toNat<=n))=true) : ∀ (j i:Nat) (ks:RVL),i+j=q.length->ks.length<=i->
  Runs prog (Abl n) (Aa [(4,DB n)]) 0 (body f175 0) (DB n) ([.ptr 0 0,.ptr 1 0,.ptr 2 0,.ref 3 0 q.length,.j (q.length:Int),.j (i:Int)],[some (.box [.sl NCd l]),some (.box [.j 0,.s [],.j 0,.b false,.ref 4 0 0]),some (.box [.j x0,.s x1,.j x2,.b x3,.ref 5 0 ks.length]),R0 (.int .i64) q,R0 (.rose VCd) [],R0 (.rose VCd) ks]) (.exit 0) ([.ptr 0 0,.ptr 1 0],[some (.box [.j 0,.s [],.j 0,.b false,.ref 2 0 0]),some (.box [.j x0,.s x1,.j x2,.b x3,.ref 3 0 (ks++(q.drop i).map fun i=>v4L l i.toNat).length]),R0 (.rose VCd) [],R0 (.rose VCd) (ks++(q.drop i).map fun i=>v4L l i.toNat)])
 | 0,i,ks,hi,hk=>by
  have hr:=HU n l x0 x1 x2 x3 q.length q.length i ks.length q ks;rw [Ac (dcF (by omega))] at hr;rw [drop_eq_nil_of_le (by omega),List.map_nil,append_nil];exact stp hr
 | j+1,i,ks,hi,hk=>by
  have h1:i<q.length:=by omega
  have hM:=mxI;have hr:=HU n l x0 x1 x2 x3 q.length q.length i ks.length q ks;have hz:=of_decide_eq_true (all_eq_true.1 hs _ (getElem_mem h1));rw [Ae (dcT (by omega)),T2 (by omega)] at hr;simp only [ntN,zero_add,gtE h1,Ai,Ap (n:=i) (by omega),drop_zero,take_length] at hr;rw [Ab (dcT ⟨hz.1,hz.2.1,hl,hz.2.2⟩),T2 (by omega)] at hr;have ht:=MR (v4L l q[i].toNat);rw [drop_zero,take_length] at ht;rw [ht] at hr;rw [drop_eq_getElem_cons h1,List.map_cons];have ih:=JC n l x0 x1 x2 x3 q hl hq hs j (i+1) (ks++[v4L l q[i].toNat]) (by omega) (by simp; omega);rw [append_assoc] at ih;exact sts (hr.trans (by simp)) ih
theorem Wr (n:Nat):As prog (Abl n) (Aa [(4,DB n)]) 0 (f175.body.getD .skip):=by
 refine Am (a:=body f175 0) (by kernel_rfl) fun d ex d' h=>?_
 unfold DB at h;dsimp only at h;split at h
 ·rename_i p m i l x0 x1 x2 x3 k q ks;obtain ⟨hc,hx⟩:=Ad h;clear h;rw [anE] at hc;obtain ⟨hc,hs⟩:=hc;obtain ⟨h0,h1,rfl,rfl,rfl,h5,h6,h7⟩:=of_decide_eq_true hc;obtain ⟨i,rfl⟩:=eq_ofNat_of_zero_le h0;simp only [ntN] at h1 h5 hx;obtain ⟨rfl,rfl⟩:=lfP hx;exact JC n l x0 x1 x2 x3 q h7 h6 hs (q.length-i) i ks (by omega) h5
 ·cases h
theorem SZ (n:Nat) (l:List Nd) (k:Int) (hc:0<=k/\k.toNat<l.length/\l.length<=4000000000/\l.length-k.toNat<=n+1):CS prog (Abl n) (Aa [(4,DB n)]) f175 [.agg [.sl NCd l],.j k] []=some (.agg [.j (v4L l k.toNat).lab.1,.s (v4L l k.toNat).lab.2.1,.j (v4L l k.toNat).lab.2.2.1,.b (v4L l k.toNat).lab.2.2.2.1,.ref 0 0 (v4L l k.toNat).kids.length],[R0 (.rose VCd) (v4L l k.toNat).kids]):=by
 rw [QP];obtain ⟨h0,h1,h2,h3⟩:=hc;obtain ⟨k,rfl⟩:=eq_ofNat_of_zero_le h0;rw [ntN] at h1 h3;have hkl:=Pm (k:Int) (l.drop (k+1)) (k+1);rw [length_drop] at hkl;have hkl2:(E1 l k).length<=l.length-(k+1):=hkl;rw [T2 (by omega)];simp only [ntN,gtE h1,Ai];rw [Ab (dcT ⟨by omega,h1,h2⟩)]
 have hall:((E1 l k).all fun i:Int=>decide (0<=i/\i.toNat<l.length/\l.length-i.toNat<=n))=true:=all_eq_true.2 fun x hx=>by
  obtain ⟨j,rfl,h5,h6⟩:=L4 hx;exact dcT ⟨by omega,by simpa using h6,by simp; omega⟩
 rw [Ab (by rw [anE]; exact ⟨dcT ⟨by omega,by simp,by simp,by simp,by simp,by simp,by omega,h2⟩,hall⟩)];have hlab:IL l k=(l[k].1,l[k].2.1,l[k].2.2.1,l[k].2.2.2.2.1,()):=by unfold IL; rw [gtE h1]
 rw [Aft h1,hlab];simp [Rose.lab,Rose.kids]
theorem Ta : ∀ n,(∀ m,m<n->Af prog 175 (Ent.rd1 (Fe m)).F)->Af prog 175 (Ent.rd1 (Fe n)).F
 | 0,_=>AW fun vs bs=>by
  unfold Ent.F Fe;dsimp only;split
  ·rename_i l a;have:decide (0<=a/\a.toNat<l.length/\l.length<=4000000000/\l.length-a.toNat<=0)=false:=dcF (by omega);rw [this]; rfl
  ·rfl
 | n+1,ih=>by
  refine fcN (kc func210 Ah0 (kc func175 (ih n (Nat.lt_succ_self n)) KnowsL.nil)).knows (Λ:=(Aa [(4,DB n)])) func175 fun vs bs r hq=>?_
  unfold Ent.F Fe at hq;dsimp only at hq;split at hq
  ·rename_i l a;obtain ⟨hc,hx⟩:=Ad hq;exact ⟨Wr n,(SZ n l a (of_decide_eq_true hc)).trans hx⟩
  ·cases hq
theorem Z3:Af prog 175 (Ent.rd1 HV).F:=by
 refine Bd (F:=fun n=>(Ent.rd1 (Fe n)).F) Ta fun vs bs r h=>?_
 unfold Ent.F HV at h;dsimp only at h;split at h
 ·rename_i l a;obtain ⟨hc,hx⟩:=Ad h;obtain ⟨h0,h1,h2⟩:=of_decide_eq_true hc;refine ⟨l.length,?_⟩;unfold Ent.F Fe;dsimp only;have:decide (0<=a/\a.toNat<l.length/\l.length<=4000000000/\l.length-a.toNat<=l.length)=true:=dcT ⟨h0,h1,h2,by omega⟩;rw [this];exact hx
 ·cases h
def byR (n:Int):RL->Rose Lab
 | []=>.node (0,[],0,false,0,()) []
 | z::l=>if z.lab.2.2.1=n then z else byR n l
def AY (n:Int) (l:RL):Bool:=l.any fun z=>z.lab.2.2.1==n
def CX (n:Int) (l:RVL):Bool:=l.any fun x=>x.lab.2.2.1==n
def Bv (vs:RVL) (ks:RL):Bool:=ks.all fun y=>!y.lab.2.2.2.1||CX y.lab.2.2.1 vs
def byG:Gm
 | [.agg (Lt y0 y1 y2 y3 y4 ys),.j n],[]=>.need (decide (ys.length<=maxI)) (.br (AY n ys) (.leaf (.tup [.agg (Lt ((byR n ys).lab.1) ((byR n ys).lab.2.1) ((byR n ys).lab.2.2.1) ((byR n ys).lab.2.2.2.1) ((byR n ys).lab.2.2.2.2.1) ((byR n ys).kids)),.b true],[])) (.leaf (.tup [.agg [.j 0,.s [],.j 0,.b false,.j 0,.ref 0 0 0],.b false],[R0 (.rose LCd) []])))
 | _,_=>.no
def byE:LoopEnt:=⟨22,[1,4,9,10,11],[4],[4,5],fun
 | ([.j n,.ptr 0 0,.sl (.rose LCd) ks,.j k,.j i],[some (.box [.j 0,.s [],.j 0,.b false,.j 0,.ref 1 0 0]),R0 (.rose LCd) []])=>.need (decide (0<=i/\i.toNat<=ks.length/\k=ks.length/\ks.length<=maxI)) (.br (AY n (ks.drop i.toNat)) (.leaf (.ret,([.ptr 0 0,.b true],[some (.box (Lt ((byR n (ks.drop i.toNat)).lab.1) ((byR n (ks.drop i.toNat)).lab.2.1) ((byR n (ks.drop i.toNat)).lab.2.2.1) ((byR n (ks.drop i.toNat)).lab.2.2.2.1) ((byR n (ks.drop i.toNat)).lab.2.2.2.2.1) ((byR n (ks.drop i.toNat)).kids)))]))) (.leaf (.exit 0,([.ptr 0 0],[some (.box [.j 0,.s [],.j 0,.b false,.j 0,.ref 1 0 0]),R0 (.rose LCd) []]))))
 | _=>.no⟩
def IO:Gm
 | [.agg (Lv x0 x1 x2 x3 xs),.agg (Lt y0 y1 y2 y3 y4 ys)],[]=>.need (decide (ys.length<=maxI/\xs.length<=maxI)) (.leaf (.b (Bv xs ys),[]))
 | _,_=>.no
def L8:LoopEnt:=⟨39,[2,11,12,13],[],[4],fun
 | ([.ptr 0 0,.sl (.rose LCd) ks,.j k,.j i],[some (.box (Lv x0 x1 x2 x3 xs))])=>.need (decide (0<=i/\i.toNat<=ks.length/\k=ks.length/\ks.length<=maxI/\xs.length<=maxI)) (.br (Bv xs (ks.drop i.toNat)) (.leaf (.exit 0,([],[]))) (.leaf (.ret,([.b false],[]))))
 | _=>.no⟩
def Kc:LoopEnt:=⟨39,[2,6,7,11,12,13,21,22,23],[2,7,11,12,13],[],fun
 | ([.ptr 0 0,.ptr 1 0,.b f,.sl (.rose LCd) ks,.j k,.j i,.sl (.rose VCd) us,.j m,.j j],[some (.box (Lv x0 x1 x2 x3 xs)),some (.box (Lt y0 y1 y2 y3 y4 ys))])=>.need (decide (0<=j/\j.toNat<=us.length/\m=us.length/\us.length<=maxI)) (.leaf (.exit 2,([.ptr 0 0,.b (f||CX y2 (us.drop j.toNat)),.sl (.rose LCd) ks,.j k,.j i],[some (.box (Lv x0 x1 x2 x3 xs))])))
 | _=>.no⟩
theorem RE (n:Int) (ks:RL) (k i:Int):At prog (Aa []) (Aa [(2,byE)]) 0 (body f159 0) byE ([.j n,.ptr 0 0,.sl (.rose LCd) ks,.j k,.j i],[some (.box [.j 0,.s [],.j 0,.b false,.j 0,.ref 1 0 0]),R0 (.rose LCd) []]) =
 ((ifB (decide (i<k)) (ifT (decide (0<=i)&&decide (i<(↑ks.length:Int))) (Ak ks[i.toNat]? fun z=>ifB ((Rose.lab z).2.2.1==n) (some (Ex.ret,[V.ptr 0 0,
 V.b true],[some (Blk.box (Lt ((Rose.lab z).1) ((Rose.lab z).2.1) ((Rose.lab z).2.2.1) ((Rose.lab z).2.2.2.1) ((Rose.lab
 z).2.2.2.2.1) (Rose.kids z)))])) (some (Ex.normal,[V.j n,V.ptr 0 0,V.sl LCd.rose ks,V.j k,V.j (i64.wrap (i+1))],
 [some (Blk.box [V.j 0,V.s (Ag UInt8),V.j 0,V.b false,V.j 0,V.ref 1 0 0]),R0 LCd.rose (Ag LCd.rose.den)])))) (some (Ex.exit
 0,[V.ptr 0 0],[some (Blk.box [V.j 0,V.s (Ag UInt8),V.j 0,V.b false,V.j 0,V.ref 1 0 0]),R0 LCd.rose (Ag LCd.rose.den)]))):_):=by kernel_rfl
theorem Afd (y0:Int) (y1:By) (y2:Int) (y3:Bool) (y4:Int) (ys:RL) (n:Int):CS prog (Aa []) (Aa [(2,byE)]) f159 [.agg (Lt y0 y1 y2 y3 y4 ys),.j n] [] =
 ((ifT (decide ((0:Int)<=(0:Int)/\0<=ys.length/\(↑ys.length:Int)=(↑ys.length:Int)/\ys.length<=maxI)) (ifB (AY n (drop 0 ys)) (some
 (V.tup [V.agg (Lt ((byR n (drop 0 ys)).lab.1) ((byR n (drop 0 ys)).lab.2.1) ((byR n (drop 0
 ys)).lab.2.2.1) ((byR n (drop 0 ys)).lab.2.2.2.1) ((byR n (drop 0 ys)).lab.2.2.2.2.1) ((byR n
 (drop 0 ys)).kids)),V.b true],[])) (some (V.tup [V.agg [V.j 0,V.s (Ag UInt8),V.j 0,V.b false,V.j 0,V.ref 0 0 0],V.b false],[R0 LCd.rose (Ag LCd.rose.den)])))):_):=by kernel_rfl
theorem Vc (n:Int) (ks:RL) (hm:ks.length<=maxI) : ∀ (j i:Nat),i+j=ks.length->∀ ex d,(Br.br (AY n (ks.drop i)) (.leaf (.ret,([.ptr 0 0,.b true],[some (.box (Lt ((byR n (ks.drop i)).lab.1) ((byR n (ks.drop i)).lab.2.1) ((byR n (ks.drop i)).lab.2.2.1) ((byR n (ks.drop i)).lab.2.2.2.1) ((byR n (ks.drop i)).lab.2.2.2.2.1) ((byR n (ks.drop i)).kids)))]))) (.leaf (.exit 0,([.ptr 0 0],[some (.box [.j 0,.s [],.j 0,.b false,.j 0,.ref 1 0 0]),R0 (.rose LCd) []]))):Br (Ex×Dt)).run=some (ex,d)->
  Runs prog (Aa []) (Aa [(2,byE)]) 0 (body f159 0) byE ([.j n,.ptr 0 0,.sl (.rose LCd) ks,.j (ks.length:Int),.j (i:Int)],[some (.box [.j 0,.s [],.j 0,.b false,.j 0,.ref 1 0 0]),R0 (.rose LCd) []]) ex d
 | 0,i,hi,ex,d,h=>by
  have hr:=RE n ks ks.length i;rw [Ac (dcF (by omega))] at hr;rw [drop_eq_nil_of_le (by omega)] at h;obtain ⟨rfl,rfl⟩:=lfP h;exact stp hr
 | j+1,i,hi,ex,d,h=>by
  have hl:i<ks.length:=by omega
  have hM:=mxI;have hr:=RE n ks ks.length i;rw [Ae (dcT (by omega)),T2 (by omega)] at hr;simp only [ntN,gtE hl,Ai,Ap (n:=i) (by omega)] at hr;rw [drop_eq_getElem_cons hl] at h;unfold AY at h;rw [any_cons,byR] at h
  by_cases q:ks[i].lab.2.2.1=n
  ·have qb:(ks[i].lab.2.2.1==n)=true:=by rw [q]; exact beq_self_eq_true _
   rw [qb,Bool.true_or,if_pos q] at h;rw [qb,AR] at hr;obtain ⟨rfl,rfl⟩:=lfP h;exact stp hr
  ·rw [beq_false_of_ne q,Bool.false_or,if_neg q] at h;rw [beq_false_of_ne q,A6] at hr;exact sts hr (Vc n ks hm j (i+1) (by omega) ex d h)
theorem Alg:As prog (Aa []) (Aa [(2,byE)]) 0 (f159.body.getD .skip):=by
 refine Am (a:=body f159 0) (by kernel_rfl) fun d ex d' h=>?_
 unfold byE at h;dsimp only at h;split at h
 ·rename_i n ks k i;obtain ⟨hc,hx⟩:=Ad h;clear h;obtain ⟨h0,h1,rfl,h3⟩:=of_decide_eq_true hc;obtain ⟨i,rfl⟩:=eq_ofNat_of_zero_le h0;simp only [ntN] at h1 hx;exact Vc n ks h3 (ks.length-i) i (by omega) ex d' hx
 ·cases h
theorem Ady:Af prog 159 (Ent.rd1 byG).F:=by
 refine fcN KnowsL.nil.knows (Λ:=(Aa [(2,byE)])) func159 fun vs bs r hq=>?_
 unfold Ent.F byG at hq;dsimp only at hq;split at hq
 ·rename_i y0 y1 y2 y3 y4 ys n;obtain ⟨hc,hx⟩:=Ad hq;refine ⟨Alg,Eq.trans ?_ hx⟩;rw [Afd,Ab (dcT ⟨by omega,by omega,rfl,of_decide_eq_true hc⟩),drop_zero];cases AY n ys<;>rfl
 ·cases hq
theorem ND (x0:Int) (x1:By) (x2:Int) (x3:Bool) (xs:RVL) (ks:RL) (k i:Int):At prog (Aa []) (Aa [(2,L8),(6,Kc)]) 0 (body f171 0) L8 ([.ptr 0 0,.sl (.rose LCd) ks,.j k,.j i],[some (.box (Lv x0 x1 x2 x3 xs))]) =
 ((ifB (decide (i<k)) (ifT (decide (0<=i)&&decide (i<(↑ks.length:Int))) (Ak ks[i.toNat]? fun z=>ifT (decide ((0:Int)<=(0:Int)/\0<=xs.length/\
 (↑xs.length:Int)=(↑xs.length:Int)/\xs.length<=maxI)) (ifB (!(!(Rose.lab z).2.2.2.1||CX (Rose.lab z).2.2.1 (drop 0 xs))) rF (some (Ex.normal,[V.ptr 0 0,V.sl LCd.rose ks,V.j k,V.j (i64.wrap (i+1))],[some (Blk.box (Lv x0 x1 x2 x3 xs))]))))) (some (Ex.exit 0,[],[]))):_):=by kernel_rfl
theorem NC (x0:Int) (x1:By) (x2:Int) (x3:Bool) (xs:RVL) (y0:Int) (y1:By) (y2:Int) (y3:Bool) (y4:Int) (ys:RL) (f:Bool) (ks:RL) (k i:Int) (us:RVL) (m j:Int):At prog (Aa []) (Aa [(2,L8),(6,Kc)]) 0 (body f171 1) Kc ([.ptr 0 0,.ptr 1 0,.b f,.sl (.rose LCd) ks,.j k,.j i,.sl (.rose VCd) us,.j m,.j j],[some (.box (Lv x0 x1 x2 x3 xs)),some (.box (Lt y0 y1 y2 y3 y4 ys))]) =
 ((ifB (decide (j<m)) (ifT (decide (0<=j)&&decide (j<(↑us.length:Int))) (Ak us[j.toNat]? fun z=>ifB f (some (Ex.normal,[V.ptr 0 0,V.ptr 1 0,V.b true,V.sl
 LCd.rose ks,V.j k,V.j i,V.sl VCd.rose us,V.j m,V.j (i64.wrap (j+1))],[some (Blk.box (Lv x0 x1 x2 x3 xs)),some (Blk.box (Lt y0 y1 y2 y3 y4 ys))])) (some (Ex.normal,[V.ptr 0 0,V.ptr 1 0,V.b ((Rose.lab
 z).2.2.1==y2),V.sl LCd.rose ks,V.j k,V.j i,V.sl VCd.rose us,V.j m,V.j (i64.wrap (j+1))],[some (Blk.box (Lv x0 x1 x2 x3 xs)),some (Blk.box (Lt y0 y1 y2 y3 y4 ys))])))) (some (Ex.exit 2,[V.ptr 0 0,V.b
 f,V.sl LCd.rose ks,V.j k,V.j i],[some (Blk.box (Lv x0 x1 x2 x3 xs))]))):_):=by kernel_rfl
theorem Adn (x0:Int) (x1:By) (x2:Int) (x3:Bool) (xs:RVL) (y0:Int) (y1:By) (y2:Int) (y3:Bool) (y4:Int) (ys:RL):Aw prog (Aa []) (Aa [(2,L8),(6,Kc)]) f171 [.agg (Lv x0 x1 x2 x3 xs),.agg (Lt y0 y1 y2 y3 y4 ys)] [] =
 ((ifT (decide ((0:Int)<=(0:Int)/\0<=ys.length/\(↑ys.length:Int)=(↑ys.length:Int)/\ys.length<=maxI/\xs.length<=maxI)) (ifB (Bv xs (drop (0
 : Nat) ys)) (some (V.b true,[])) nF)):_):=by kernel_rfl
theorem Ahr : ∀ d e d',(L8.L d).run=some (e,d')->Runs prog (Aa []) (Aa [(2,L8),(6,Kc)]) 0 (body f171 0) L8 d e d':=fun d ex d' h=>by
 unfold L8 at h;dsimp only at h;split at h
 ·rename_i ks k i x0 x1 x2 x3 xs;obtain ⟨hc,hx⟩:=Ad h;clear h;obtain ⟨h0,h1,rfl,h3,h4⟩:=of_decide_eq_true hc;obtain ⟨i,rfl⟩:=eq_ofNat_of_zero_le h0;simp only [ntN] at h1 hx;have hM:=mxI;refine B3 (l:=ks) (fun y:Rose Lab=>!y.lab.2.2.2.1||CX y.lab.2.2.1 xs) (fun i=>([.ptr 0 0,.sl (.rose LCd) ks,.j (ks.length:Int),.j (i:Int)],[some (.box (Lv x0 x1 x2 x3 xs))])) (ex:=(.exit 0,([],[]))) (rt:=(.ret,([.b false],[]))) (by simp) (by simp) (fun n hn=>?_) ?_ (ks.length-i) i (by omega) ex d' hx
  ·have hr:=ND x0 x1 x2 x3 xs ks ks.length n;rw [Ae (dcT (by omega)),T2 (by omega)] at hr;rw [ntN,gtE hn,Ai,Ap (n:=n) (by omega),Ab (dcT ⟨by omega,by omega,rfl,h4⟩),drop_zero] at hr;refine hr.trans ?_;cases ks[n].lab.2.2.2.1<;>cases CX ks[n].lab.2.2.1 xs<;>rfl
  ·have hr:=ND x0 x1 x2 x3 xs ks ks.length ks.length;rw [Ac (dcF (by omega))] at hr;exact hr
 ·cases h
theorem QC (x0:Int) (x1:By) (x2:Int) (x3:Bool) (xs:RVL) (y0:Int) (y1:By) (y2:Int) (y3:Bool) (y4:Int) (ys:RL) (ks:RL) (k i:Int) (us:RVL) (hm:us.length<=maxI) : ∀ (c j:Nat) (f:Bool),j+c=us.length->
  Runs prog (Aa []) (Aa [(2,L8),(6,Kc)]) 0 (body f171 1) Kc ([.ptr 0 0,.ptr 1 0,.b f,.sl (.rose LCd) ks,.j k,.j i,.sl (.rose VCd) us,.j (us.length:Int),.j (j:Int)],[some (.box (Lv x0 x1 x2 x3 xs)),some (.box (Lt y0 y1 y2 y3 y4 ys))]) (.exit 2) ([.ptr 0 0,.b (f||CX y2 (us.drop j)),.sl (.rose LCd) ks,.j k,.j i],[some (.box (Lv x0 x1 x2 x3 xs))])
 | 0,j,f,hj=>by
  have hr:=NC x0 x1 x2 x3 xs y0 y1 y2 y3 y4 ys f ks k i us us.length j;rw [Ac (dcF (by omega))] at hr;rw [drop_eq_nil_of_le (by omega),show CX y2 []=false from rfl,Bool.or_false];exact stp hr
 | c+1,j,f,hj=>by
  have hl:j<us.length:=by omega
  have hM:=mxI;have hr:=NC x0 x1 x2 x3 xs y0 y1 y2 y3 y4 ys f ks k i us us.length j;rw [Ae (dcT (by omega)),T2 (by omega)] at hr;simp only [ntN,gtE hl,Ai,Ap (n:=j) (by omega)] at hr;have ih:=QC x0 x1 x2 x3 xs y0 y1 y2 y3 y4 ys ks k i us hm c (j+1) (f||us[j].lab.2.2.1==y2) (by omega);rw [drop_eq_getElem_cons hl,show CX y2 (us[j]::us.drop (j+1))=(us[j].lab.2.2.1==y2||CX y2 (us.drop (j+1))) from rfl,<-Bool.or_assoc];refine sts (hr.trans ?_) ih;cases f<;>rfl
theorem Ahq : ∀ d e d',(Kc.L d).run=some (e,d')->Runs prog (Aa []) (Aa [(2,L8),(6,Kc)]) 0 (body f171 1) Kc d e d':=fun d ex d' h=>by
 unfold Kc at h;dsimp only at h;split at h
 ·rename_i f ks k i us m j x0 x1 x2 x3 xs y0 y1 y2 y3 y4 ys;obtain ⟨hc,hx⟩:=Ad h;clear h;obtain ⟨h0,h1,rfl,h3⟩:=of_decide_eq_true hc;obtain ⟨j,rfl⟩:=eq_ofNat_of_zero_le h0;simp only [ntN] at h1 hx;obtain ⟨rfl,rfl⟩:=lfP hx;exact QC x0 x1 x2 x3 xs y0 y1 y2 y3 y4 ys ks k i us h3 (us.length-j) j f (by omega)
 ·cases h
theorem UE:Af prog 171 (Ent.rd1 IO).F:=by
 refine fcK KnowsL.nil.knows (Λ:=(Aa [(2,L8),(6,Kc)])) func171 fun vs bs r hq=>?_
 unfold Ent.F IO at hq;dsimp only at hq;split at hq
 ·rename_i x0 x1 x2 x3 xs y0 y1 y2 y3 y4 ys;obtain ⟨hc,hx⟩:=Ad hq;obtain ⟨h1,h2⟩:=of_decide_eq_true hc;refine ⟨LoopsI.loops (.cons (a:=body f171 0) (by kernel_rfl) Ahr (.cons (a:=body f171 1) (by kernel_rfl) Ahq .nil)) (by kernel_rfl),Eq.trans ?_ hx⟩;rw [Adn,Ab (dcT ⟨by omega,by omega,rfl,h1,h2⟩),drop_zero];cases Bv xs ys<;>rfl
 ·cases hq
mutual
def F9:Rose AG->Bool
 | .node _ ks=>decide (ks.length<=4000000000)&&I2 ks
def I2:RVL->Bool
 | []=>true
 | z::l=>F9 z&&I2 l
end
def Jq (zk:RVL) (i:Nat) (n:Int):Bool:=match i with
 | 0=>false
 | i+1=>match zk[i]? with | some y=>decide (y.lab.2.2.1>=n) | none=>false
def hd0:RL->Rose Lab
 | []=>.node (0,[],0,false,0,()) []
 | z::_=>z
def Jm (x0:Int) (x1:By) (x3:Bool) (k:Int):Bool:=(x3 != A3 k)||((k != 2&&x1 != [])||((k==2||x3)&&x0 != 0))
mutual
def sfR:Rose AG->Rose Lab->Bool
 | .node x vs,t=>
  if Jm x.1 x.2.1 x.2.2.2.1 t.lab.1=true then false
  else if t.lab.1=1 then Cm x.1
  else if t.lab.1=3 then decide (0<=x.1/\x.1<=t.lab.2.2.2.2.1)
  else if t.lab.1=2 then decide (x.2.1.length<=30)
  else if t.lab.1=4 then sfL (hd0 t.kids) vs
  else sfM t.kids vs 0 vs&&Bv vs t.kids
def sfL (t:Rose Lab):RVL->Bool
 | []=>true
 | v::vs=>(v.lab.2.2.1==0&&sfR v t)&&sfL t vs
def sfM (ks:RL) (zk:RVL) (i:Nat):RVL->Bool
 | []=>true
 | v::vs=>(AY v.lab.2.2.1 ks&&(sfR v (byR v.lab.2.2.1 ks)&&!Jq zk i v.lab.2.2.1))&&sfM ks zk (i+1) vs
end
def sfN (n:Nat):Gm
 | [.agg (Lv x0 x1 x2 x3 xs),.agg (Lt y0 y1 y2 y3 y4 ys)],[]=>.need (decide (Ar ys+1<=n/\Ar ys+1<=1000000/\An (.node (y0,y1,y2,y3,y4,()) ys)=true/\F9 (.node (x0,x1,x2,x3,()) xs)=true)) (.leaf (.b (sfR (.node (x0,x1,x2,x3,()) xs) (.node (y0,y1,y2,y3,y4,()) ys)),[]))
 | _,_=>.no
def sfG:Gm
 | [.agg (Lv x0 x1 x2 x3 xs),.agg (Lt y0 y1 y2 y3 y4 ys)],[]=>.need (decide (Ar ys+1<=1000000/\An (.node (y0,y1,y2,y3,y4,()) ys)=true/\F9 (.node (x0,x1,x2,x3,()) xs)=true)) (.leaf (.b (sfR (.node (x0,x1,x2,x3,()) xs) (.node (y0,y1,y2,y3,y4,()) ys)),[]))
 | _,_=>.no
def JY (n:Nat):LoopEnt:=⟨126,[3,64,65,66],[],[4],fun
 | ([.ptr 0 0,.sl (.rose VCd) us,.j k,.j i],[some (.box (Lt y0 y1 y2 y3 y4 ys))])=>.need (decide (0<=i/\i.toNat<=us.length/\k=us.length/\us.length<=4000000000/\Ar ys<=n/\Ar ys<=1000000/\ys.length=1/\AL y0 ys=true/\I2 us=true)) (.br (sfL (hd0 ys) (us.drop i.toNat)) (.leaf (.exit 1,([],[]))) (.leaf (.ret,([.b false],[]))))
 | _=>.no⟩
def IA (n:Nat):LoopEnt:=⟨126,[2,3,84,85,86],[2,3],[4],fun
 | ([.ptr 0 0,.ptr 1 0,.sl (.rose VCd) us,.j k,.j i],[some (.box (Lv x0 x1 x2 x3 xs)),some (.box (Lt y0 y1 y2 y3 y4 ys))])=>.need (decide (0<=i/\i.toNat<=us.length/\k=us.length/\us.length<=4000000000/\xs.length=us.length/\Ar ys<=n/\Ar ys<=1000000/\AL y0 ys=true/\I2 us=true)) (.br (sfM ys xs i.toNat (us.drop i.toNat)) (.leaf (.exit 3,([.ptr 0 0,.ptr 1 0],[some (.box (Lv x0 x1 x2 x3 xs)),some (.box (Lt y0 y1 y2 y3 y4 ys))]))) (.leaf (.ret,([.b false],[]))))
 | _=>.no⟩
theorem Bc (z:Rose Lab):Rose.node (z.lab.1,z.lab.2.1,z.lab.2.2.1,z.lab.2.2.2.1,z.lab.2.2.2.2.1,()) z.kids=z:=by
 obtain ⟨⟨_,_,_,_,_,⟨⟩⟩,ks⟩:=z; rfl
theorem Cf (z:Rose AG):Rose.node (z.lab.1,z.lab.2.1,z.lab.2.2.1,z.lab.2.2.2.1,()) z.kids=z:=by
 obtain ⟨⟨_,_,_,_,⟨⟩⟩,ks⟩:=z; rfl
theorem K6 {z:Rose AG} : ∀ {l:RVL},I2 l=true->z∈l->F9 z=true
 | [],_,h=>by cases h
 | y::l,hn,h=>by
  rw [I2,anE] at hn;rcases mem_cons.1 h with rfl | h
  ·exact hn.1
  ·exact K6 hn.2 h
theorem HA (t:Rose Lab) : ∀ l,sfL t l=l.all fun v=>v.lab.2.2.1==0&&sfR v t
 | []=>by rw [sfL]; rfl
 | v::l=>by rw [sfL,HA t l]; rfl
theorem Fs {n:Int} : ∀ {l:RL},AY n l=true->byR n l∈l
 | [],h=>by cases h
 | z::l,h=>by
  rw [byR]
  by_cases q:z.lab.2.2.1=n
  ·rw [if_pos q]; exact List.mem_cons_self
  ·rw [if_neg q];unfold AY at h;rw [any_cons,beq_false_of_ne q,Bool.false_or] at h;exact mem_cons_of_mem _ (Fs h)
theorem Ag1 (x0:Int) (x1:By) (x2:Int) (x3:Bool) (xs:RVL) (y0:Int) (y1:By) (y2:Int) (y3:Bool) (y4:Int) (ys:RL):sfR (.node (x0,x1,x2,x3,()) xs) (.node (y0,y1,y2,y3,y4,()) ys)=(if Jm x0 x1 x3 y0=true then false
  else if y0=1 then Cm x0 else if y0=3 then decide (0<=x0/\x0<=y4) else if y0=2 then decide (x1.length<=30)
  else if y0=4 then sfL (hd0 ys) xs else sfM ys xs 0 xs&&Bv xs ys):=by rw [sfR]; rfl
theorem Em {x:Lab} {ks:RL} (h:BV x ks=true):x.1=1\/x.1=2\/x.1=3\/(x.1=4/\ks.length=1)\/x.1=5:=by
 unfold BV at h;split at h
 ·rename_i q; omega
 ·split at h
  ·rename_i q; omega
  ·split at h
   ·rename_i q;rw [anE] at h;exact .inr (.inr (.inr (.inl ⟨q,by simpa using h.2⟩)))
   ·split at h
    ·cases h
    ·rename_i q; omega
abbrev Ud (n:Nat):FuncId->Option Ent:=Aa [(206,.rd1 (sfN n)),(193,.rd1 FZ),(196,.rd1 EZ),(115,.rd1 A0),(159,.rd1 byG),(171,.rd1 IO)]
theorem Nv (n:Nat) (y0:Int) (y1:By) (y2:Int) (y3:Bool) (y4:Int) (ys:RL) (us:RVL) (k i:Int):At prog (Ud n) (Aa [(12,JY n),(19,IA n)]) 0 (body f206 0) (JY n) ([.ptr 0 0,.sl (.rose VCd) us,.j k,.j i],[some (.box (Lt y0 y1 y2 y3 y4 ys))]) =
 ((ifB (decide (i<k)) (ifT (decide (0<=i)&&decide (i<(↑us.length:Int))) (Ak us[i.toNat]? fun z=>ifB ((Rose.lab z).2.2.1 != (0:Int)) rF (ifT (decide ((0:Int)<=(0:Int))&&decide (0<(↑ys.length:Int))) (Ak ys[0]? fun z_1=>ifT (decide (Ar (Rose.kids z_1)+1<=n
 /\ Ar (Rose.kids z_1)+1<=1000000/\An (Rose.node ((Rose.lab z_1).1,(Rose.lab z_1).2.1,(Rose.lab z_1).2.2.1,(Rose.lab
 z_1).2.2.2.1,(Rose.lab z_1).2.2.2.2.1,()) (Rose.kids z_1))=true/\F9 (Rose.node ((Rose.lab z).1,(Rose.lab z).2.1,(Rose.lab z).2.2.1,
 (Rose.lab z).2.2.2.1,()) (Rose.kids z))=true)) (ifB (!sfR (Rose.node ((Rose.lab z).1,(Rose.lab z).2.1,(Rose.lab z).2.2.1,(Rose.lab
 z).2.2.2.1,()) (Rose.kids z)) (Rose.node ((Rose.lab z_1).1,(Rose.lab z_1).2.1,(Rose.lab z_1).2.2.1,(Rose.lab z_1).2.2.2.1,(Rose.lab
 z_1).2.2.2.2.1,()) (Rose.kids z_1))) rF (some (Ex.normal,[V.ptr 0 0,V.sl VCd.rose us,V.j k,V.j (i64.wrap (i
 + 1))],[some (Blk.box (Lt y0 y1 y2 y3 y4 ys))]))))))) (some (Ex.exit 1,[],[]))):_):=by kernel_rfl
theorem Nu (n:Nat) (x0:Int) (x1:By) (x2:Int) (x3:Bool) (xs:RVL) (y0:Int) (y1:By) (y2:Int) (y3:Bool) (y4:Int) (ys:RL) (us:RVL) (k i:Int):At prog (Ud n) (Aa [(12,JY n),(19,IA n)]) 0 (body f206 1) (IA n) ([.ptr 0 0,.ptr 1 0,.sl (.rose VCd) us,.j k,.j i],[some (.box (Lv x0 x1 x2 x3 xs)),some (.box (Lt y0 y1 y2 y3 y4 ys))]) =
 ((ifB (decide (i<k)) (ifT (decide (0<=i)&&decide (i<(↑us.length:Int))) (Ak us[i.toNat]? fun z=>shr (Rose.lab z).2.2 fun sh3=>shr (Rose.node ((Rose.lab
 z).1,(Rose.lab z).2.1,sh3.1,sh3.2.1,()) (Rose.kids z)) fun sh2=>shr (Rose.node ((byR sh3.1 ys).lab.1,(byR sh3.1 ys).lab.2.1,(byR sh3.1
 ys).lab.2.2.1,(byR sh3.1 ys).lab.2.2.2.1,(byR sh3.1 ys).lab.2.2.2.2.1,()) (byR sh3.1 ys).kids) fun sh1=>ifT (decide (ys.length<=maxI))
 (ifB (AY sh3.1 ys) (ifT (decide (Ar (byR sh3.1 ys).kids+1<=n/\Ar (byR sh3.1 ys).kids+1<=1000000/\An sh1=true/\F9 sh2
 = true)) (ifB (!sfR sh2 sh1) rF (ifB (decide (i>0)) (ifT (decide (0<=i64.wrap (i-1))&&decide (i64.wrap (i-1) <
 (↑xs.length:Int))) (Ak xs[(i64.wrap (i-1)).toNat]? fun z=>shr sh3 fun sh2=>shr (Rose.lab z).2.2 fun sh1=>ifB (decide (sh1.1>=sh2.1)) rF (some (Ex.normal,[V.ptr 0 0,V.ptr 1 0,V.sl VCd.rose us,V.j k,V.j (i64.wrap (i+1))],[some (Blk.box (Lv x0 x1 x2 x3 xs)),some (Blk.box (Lt y0 y1 y2 y3 y4 ys))])))) (some (Ex.normal,[V.ptr 0 0,
 V.ptr 1 0,V.sl VCd.rose us,V.j k,V.j (i64.wrap (i+1))],[some (Blk.box (Lv x0 x1 x2 x3 xs)),some (Blk.box
 (Lt y0 y1 y2 y3 y4 ys))]))))) rF))) (some (Ex.exit 3,[V.ptr 0 0,V.ptr 1 0],[some
 (Blk.box (Lv x0 x1 x2 x3 xs)),some (Blk.box (Lt y0 y1 y2 y3 y4 ys))]))):_):=by kernel_rfl
theorem Acq (n:Nat) (x0:Int) (x1:By) (x2:Int) (x3:Bool) (xs:RVL) (y0:Int) (y1:By) (y2:Int) (y3:Bool) (y4:Int) (ys:RL):CS prog (Ud n) (Aa [(12,JY n),(19,IA n)]) f206 [.agg (Lv x0 x1 x2 x3 xs),.agg (Lt y0 y1 y2 y3 y4 ys)] [] =
 ((shr (ifB (y0==4) (ifT (decide ((0:Int)<=(0:Int)/\0<=xs.length/\(↑xs.length:Int)=(↑xs.length:Int)/\xs.length<=4000000000/\Ar ys<=n/\
 Ar ys<=1000000/\ys.length=1/\AL y0 ys=true/\I2 xs=true)) (ifB (sfL (hd0 ys) (drop 0 xs)) (some (V.b true,[])) nF)) (ifT (decide ((0:Int)<=(0:Int)/\0<=xs.length/\(↑xs.length:Int)=(↑xs.length:Int)/\xs.length<=4000000000/\xs.length =
 xs.length/\Ar ys<=n/\Ar ys<=1000000/\AL y0 ys=true/\I2 xs=true)) (ifB (sfM ys xs 0 (drop 0 xs)) (ifT (decide (ys.length<=
 maxI/\xs.length<=maxI)) (some (V.b (Bv xs ys),[]))) nF))) fun sh1=>ifB (!x3==A3 y0) nF (ifB (y0 != 2) (ifB (!x1==
 Ag UInt8) nF (ifB (y0==2) (ifB (x0 != 0) nF (ifB (y0==1) (some (V.b (Cm x0),[])) (ifB (y0==3) (some (V.b (decide (0<=
 x0/\x0<=y4)),[])) (ifB (y0==2) (some (V.b (decide ((↑x1.length:Int)<=(30:Int))),[])) sh1)))) (ifB x3 (ifB (x0 != 0) nF (ifB (y0==1) (some
 (V.b (Cm x0),[])) (ifB (y0==3) (some (V.b (decide (0<=x0/\x0<=y4)),[])) (ifB (y0==2) (some (V.b (decide ((↑x1.length:Int)<=(30:Int))),[])) sh1)))) (ifB
 (y0==1) (some (V.b (Cm x0),[])) (ifB (y0==3) (some (V.b (decide (0<=x0/\x0<=y4)),[])) (ifB (y0==2) (some (V.b (decide ((↑x1.length:Int)<=(30:Int))),
 [])) sh1)))))) (ifB (y0==2) (ifB (x0 != 0) nF (ifB (y0==1) (some (V.b (Cm x0),[])) (ifB (y0==3) (some (V.b (decide (0<=x0/\x0<=y4)),[]))
 (ifB (y0==2) (some (V.b (decide ((↑x1.length:Int)<=(30:Int))),[])) sh1)))) (ifB x3 (ifB (x0 != 0) nF (ifB (y0==1) (some (V.b (Cm x0),[]))
 (ifB (y0==3) (some (V.b (decide (0<=x0/\x0<=y4)),[])) (ifB (y0==2) (some (V.b (decide ((↑x1.length:Int)<=(30:Int))),[])) sh1)))) (ifB (y0==1) (some (V.b
 (Cm x0),[])) (ifB (y0==3) (some (V.b (decide (0<=x0/\x0<=y4)),[])) (ifB (y0==2) (some (V.b (decide ((↑x1.length:Int)<=(30:Int))),[])) sh1))))))):_):=by kernel_rfl
theorem Ag3 (n:Nat) : ∀ d e d',((JY n).L d).run=some (e,d')->Runs prog (Ud n) (Aa [(12,JY n),(19,IA n)]) 0 (body f206 0) (JY n) d e d':=fun d ex d' h=>by
 unfold JY at h;dsimp only at h;split at h
 ·rename_i us k i y0 y1 y2 y3 y4 ys;obtain ⟨hc,hx⟩:=Ad h;clear h;obtain ⟨h0,h1,rfl,h3,h4,h5,h6,h7,h8⟩:=of_decide_eq_true hc;obtain ⟨i,rfl⟩:=eq_ofNat_of_zero_le h0;simp only [ntN] at h1 hx;have hM:=mxI;obtain ⟨y,rfl⟩:=List.length_eq_one_iff.1 h6;rw [Ar,Ar] at h4 h5;rw [AL,anE,anE] at h7;have hk:=Bk y;rw [HA] at hx;refine B3 (l:=us) (fun v=>v.lab.2.2.1==0&&sfR v (hd0 [y])) (fun i=>([.ptr 0 0,.sl (.rose VCd) us,.j (us.length:Int),.j (i:Int)],[some (.box (Lt y0 y1 y2 y3 y4 [y]))])) (ex:=(.exit 1,([],[]))) (rt:=(.ret,([.b false],[]))) (by simp) (by simp) (fun m hn=>?_) ?_ (us.length-i) i (by omega) ex d' hx
  ·have hr:=Nv n y0 y1 y2 y3 y4 [y] us us.length m;have hw:=K6 h8 (getElem_mem hn);have hy0:([y]:RL)[(0:Nat)]? = some y:=rfl;rw [Ae (dcT (by omega)),T2 (by omega)] at hr;rw [ntN,gtE hn,Ai,hy0,Ai,Ab (by simp),Ap (n:=m) (by omega),Bc,Cf,Ab (dcT ⟨by omega,by omega,h7.1.2,hw⟩)] at hr;refine hr.trans ?_;show _=some (bif us[m].lab.2.2.1==0&&sfR us[m] y then _ else _)
   by_cases q:us[m].lab.2.2.1=0
   ·rw [q];cases sfR us[m] y<;>rfl
   ·have q1:(us[m].lab.2.2.1 != (0:Int))=true:=by simpa using q
    rw [q1,beq_false_of_ne q]; rfl
  ·have hr:=Nv n y0 y1 y2 y3 y4 [y] us us.length us.length;rw [Ac (dcF (by omega))] at hr;exact hr
 ·cases h
theorem Ld (n:Nat) (x0:Int) (x1:By) (x2:Int) (x3:Bool) (xs:RVL) (y0:Int) (y1:By) (y2:Int) (y3:Bool) (y4:Int) (ys:RL) (us:RVL) (h3:us.length<=4000000000) (h4:xs.length=us.length) (h5:Ar ys<=n) (h6:Ar ys<=1000000) (h7:AL y0 ys=true) (h8:I2 us=true) : ∀ (j i:Nat),i+j=us.length->∀ ex d,(Br.br (sfM ys xs i (us.drop i)) (.leaf (.exit 3,([.ptr 0 0,.ptr 1 0],[some (.box (Lv x0 x1 x2 x3 xs)),some (.box (Lt y0 y1 y2 y3 y4 ys))]))) (.leaf (.ret,([.b false],[]))):Br (Ex×Dt)).run=some (ex,d)->
  Runs prog (Ud n) (Aa [(12,JY n),(19,IA n)]) 0 (body f206 1) (IA n) ([.ptr 0 0,.ptr 1 0,.sl (.rose VCd) us,.j (us.length:Int),.j (i:Int)],[some (.box (Lv x0 x1 x2 x3 xs)),some (.box (Lt y0 y1 y2 y3 y4 ys))]) ex d
 | 0,i,hi,ex,d,h=>by
  have hr:=Nu n x0 x1 x2 x3 xs y0 y1 y2 y3 y4 ys us us.length i;dsimp only [shr] at hr;rw [Ac (dcF (by omega))] at hr;rw [drop_eq_nil_of_le (by omega),sfM] at h;obtain ⟨rfl,rfl⟩:=lfP h;exact stp hr
 | j+1,i,hi,ex,d,h=>by
  have hl:i<us.length:=by omega
  have hM:=mxI;have hr:=Nu n x0 x1 x2 x3 xs y0 y1 y2 y3 y4 ys us us.length i;dsimp only [shr] at hr;have hw:=K6 h8 (getElem_mem hl);have hlen:=BS ys;rw [Ae (dcT (by omega)),T2 (by omega)] at hr;rw [ntN,gtE hl,Ai,Ap (n:=i) (by omega),Ab (dcT (by omega)),Bc,Cf] at hr;rw [drop_eq_getElem_cons hl,sfM] at h
  have stop : ∀ {x:Option (Ex×Dt)},x=some (.ret,([.b false],[]))->(Br.br false (.leaf (.exit 3,([.ptr 0 0,.ptr 1 0],[some (.box (Lv x0 x1 x2 x3 xs)),some (.box (Lt y0 y1 y2 y3 y4 ys))]))) (.leaf (.ret,([.b false],[]))):Br (Ex×Dt)).run=some (ex,d)->x=some (ex,d)/\ex≠.normal:=fun hx h=>by
   obtain ⟨rfl,rfl⟩:=lfP h;exact ⟨hx,by simp⟩
  cases q1:AY us[i].lab.2.2.1 ys with
  | false=>
   rw [q1,Bool.false_and,Bool.false_and] at h;rw [q1,A6] at hr;obtain ⟨g1,g2⟩:=stop hr h;exact .stop _ _ _ g1 g2
  | true=>
   have hb:=Fs q1;have hcm:=BE hb;have hck:=Bk (byR us[i].lab.2.2.1 ys);rw [q1,Bool.true_and] at h;rw [q1,AR,Ab (dcT ⟨by omega,by omega,Di h7 hb,hw⟩)] at hr
   cases q2:sfR us[i] (byR us[i].lab.2.2.1 ys) with
   | false=>
    rw [q2,Bool.false_and,Bool.false_and] at h;rw [q2,Bool.not_false,AR] at hr;obtain ⟨g1,g2⟩:=stop hr h;exact .stop _ _ _ g1 g2
   | true=>
    rw [q2,Bool.true_and] at h;rw [q2,Bool.not_true,A6] at hr
    cases i with
    | zero=>
     rw [Ac (dcF (by omega))] at hr;rw [Jq,Bool.not_false,Bool.true_and] at h;exact sts hr (Ld n x0 x1 x2 x3 xs y0 y1 y2 y3 y4 ys us h3 h4 h5 h6 h7 h8 j 1 (by omega) ex d h)
    | succ i=>
     have hl':i<xs.length:=by omega
     have hw2:i64.wrap (((i+1:Nat):Int)-1)=(i:Int):=by rw [Av (by omega) (by omega)]; omega
     rw [Ae (dcT (by omega)),hw2,T2 (by omega),ntN,gtE hl',Ai] at hr;have hp:Jq xs (i+1) us[i+1].lab.2.2.1=decide (xs[i].lab.2.2.1>=us[i+1].lab.2.2.1):=by unfold Jq; simp only [gtE hl']
     rw [hp] at h
     cases h2:decide (xs[i].lab.2.2.1>=us[i+1].lab.2.2.1) with
     | true=>
      rw [h2,Bool.not_true,Bool.false_and] at h;rw [h2,AR] at hr;obtain ⟨g1,g2⟩:=stop hr h;exact .stop _ _ _ g1 g2
     | false=>
      rw [h2,Bool.not_false,Bool.true_and] at h;rw [h2,A6] at hr;exact sts hr (Ld n x0 x1 x2 x3 xs y0 y1 y2 y3 y4 ys us h3 h4 h5 h6 h7 h8 j (i+1+1) (by omega) ex d h)
theorem Ag2 (n:Nat) : ∀ d e d',((IA n).L d).run=some (e,d')->Runs prog (Ud n) (Aa [(12,JY n),(19,IA n)]) 0 (body f206 1) (IA n) d e d':=fun d ex d' h=>by
 unfold IA at h;dsimp only at h;split at h
 ·rename_i us k i x0 x1 x2 x3 xs y0 y1 y2 y3 y4 ys;obtain ⟨hc,hx⟩:=Ad h;clear h;obtain ⟨h0,h1,rfl,h3,h4,h5,h6,h7,h8⟩:=of_decide_eq_true hc;obtain ⟨i,rfl⟩:=eq_ofNat_of_zero_le h0;simp only [ntN] at h1 hx;exact Ld n x0 x1 x2 x3 xs y0 y1 y2 y3 y4 ys us h3 h4 h5 h6 h7 h8 (us.length-i) i (by omega) ex d' hx
 ·cases h
theorem Agz (n:Nat) (x0:Int) (x1:By) (x2:Int) (x3:Bool) (xs:RVL) (y0:Int) (y1:By) (y2:Int) (y3:Bool) (y4:Int) (ys:RL) (hc:Ar ys+1<=n+1/\Ar ys+1<=1000000/\An (.node (y0,y1,y2,y3,y4,()) ys)=true/\F9 (.node (x0,x1,x2,x3,()) xs)=true):CS prog (Ud n) (Aa [(12,JY n),(19,IA n)]) f206 [.agg (Lv x0 x1 x2 x3 xs),.agg (Lt y0 y1 y2 y3 y4 ys)] []=some (.b (sfR (.node (x0,x1,x2,x3,()) xs) (.node (y0,y1,y2,y3,y4,()) ys)),[]):=by
 rw [Acq,Ag1];dsimp only [shr];obtain ⟨h1,h2,h3,h4⟩:=hc;obtain ⟨hp,hrr⟩:=DA h3;rw [F9,anE,dcE] at h4;obtain ⟨h4,h5⟩:=h4;have hk:=Em hp;simp only [Rose.lab,Rose.kids] at hp hrr hk;have hM:=mxI;have hlen:=BS ys;have e1:(x1 != []) = !(x1==Ag UInt8):=rfl;unfold Jm;rw [e1];rcases hk with rfl | rfl | rfl | ⟨rfl,h6⟩ | rfl
 ·cases x3<;>cases x1==Ag UInt8<;>cases x0 != 0<;>rfl
 ·have hd:decide ((x1.length:Int)<=30)=decide (x1.length<=30):=decide_eq_decide.2 (by omega);rw [hd];cases x3<;>cases x1==Ag UInt8<;>cases x0 != 0<;>rfl
 ·cases x3<;>cases x1==Ag UInt8<;>cases x0 != 0<;>rfl
 ·rw [drop_zero];have d1:decide ((0:Int)<=0/\0<=xs.length/\(xs.length:Int)=(xs.length:Int)/\xs.length<=4000000000/\Ar ys<=n/\Ar ys<=1000000/\ys.length=1/\AL 4 ys=true/\I2 xs=true)=true:=dcT ⟨by omega,by omega,rfl,h4,by omega,by omega,h6,hrr,h5⟩;rw [d1];cases x3<;>cases x1==Ag UInt8<;>cases x0 != 0<;>cases sfL (hd0 ys) xs<;>rfl
 ·rw [drop_zero];have d1:decide ((0:Int)<=0/\0<=xs.length/\(xs.length:Int)=(xs.length:Int)/\xs.length<=4000000000/\xs.length=xs.length/\Ar ys<=n/\Ar ys<=1000000/\AL 5 ys=true/\I2 xs=true)=true:=dcT ⟨by omega,by omega,rfl,h4,rfl,by omega,by omega,hrr,h5⟩;have d2:decide (ys.length<=maxI/\xs.length<=maxI)=true:=dcT ⟨by omega,by omega⟩;rw [d1,d2];cases x3<;>cases x1==Ag UInt8<;>cases x0 != 0<;>cases sfM ys xs 0 xs<;>cases Bv xs ys<;>rfl
theorem Ag0 : ∀ n,(∀ m,m<n->Af prog 206 (Ent.rd1 (sfN m)).F)->Af prog 206 (Ent.rd1 (sfN n)).F
 | 0,_=>AW fun vs bs=>by
  unfold Ent.F sfN;dsimp only;split
  ·rename_i x0 x1 x2 x3 xs y0 y1 y2 y3 y4 ys;have:decide (Ar ys+1<=0/\Ar ys+1<=1000000/\An (.node (y0,y1,y2,y3,y4,()) ys)=true/\F9 (.node (x0,x1,x2,x3,()) xs)=true)=false:=dcF (by omega);rw [this]; rfl
  ·rfl
 | n+1,ih=>by
  refine fcN (kc func206 (ih n (Nat.lt_succ_self n)) (kc func193 Pv (kc func196 UF (kc func115 Ia (kc func159 Ady (kc func171 UE KnowsL.nil)))))).knows (Λ:=(Aa [(12,JY n),(19,IA n)])) func206 fun vs bs r hq=>?_
  unfold Ent.F sfN at hq;dsimp only at hq;split at hq
  ·rename_i x0 x1 x2 x3 xs y0 y1 y2 y3 y4 ys;obtain ⟨hc,hx⟩:=Ad hq;exact ⟨LoopsI.loops (.cons (a:=body f206 0) (by kernel_rfl) (Ag3 n) (.cons (a:=body f206 1) (by kernel_rfl) (Ag2 n) .nil)) (by kernel_rfl),(Agz n x0 x1 x2 x3 xs y0 y1 y2 y3 y4 ys (of_decide_eq_true hc)).trans hx⟩
  ·cases hq
theorem Ah2:Af prog 206 (Ent.rd1 sfG).F:=by
 refine Bd (F:=fun n=>(Ent.rd1 (sfN n)).F) Ag0 fun vs bs r h=>?_
 unfold Ent.F sfG at h;dsimp only at h;split at h
 ·rename_i x0 x1 x2 x3 xs y0 y1 y2 y3 y4 ys;obtain ⟨hc,hx⟩:=Ad h;refine ⟨Ar ys+1,?_⟩;show (Br.need (decide (Ar ys+1<=Ar ys+1/\Ar ys+1<=1000000/\An (.node (y0,y1,y2,y3,y4,()) ys)=true/\F9 (.node (x0,x1,x2,x3,()) xs)=true)) (.leaf (.b (sfR (.node (x0,x1,x2,x3,()) xs) (.node (y0,y1,y2,y3,y4,()) ys)),[]))).run=some r;have:decide (Ar ys+1<=Ar ys+1/\Ar ys+1<=1000000/\An (.node (y0,y1,y2,y3,y4,()) ys)=true/\F9 (.node (x0,x1,x2,x3,()) xs)=true)=true:=dcT ⟨le_refl _,of_decide_eq_true hc⟩;rw [this];exact hx
 ·cases h
instance decNd0:DecidableEq (Int×Bool×Unit):=inferInstance
instance decNd:DecidableEq Nd:=inferInstance
def NF (l:List Nd) (e:Nat):Option Bool:=(l[e]?).map fun x=>x.2.2.2.2.1
def Db (v:List Nd) (u:Int):Nat->Int->Bool
 | 0,_=>false
 | f+1,x=>if x<0 then false else (x==u||match upN v x.toNat with | some w=>Db v u f w | none=>false)
def De (l:List Nd) (i:Nat):Bool:=(range i).all fun j=>match upN l j with | some v=>decide (v<(j:Int)) | none=>false
def okN (v:List Nd) (i:Nat):Bool:=match v[i]? with
 | none=>false
 | some x=>if i=0 then x.2.2.2.1==-1&&x.2.2.1==0
  else decide (0<=x.2.2.2.1/\x.2.2.2.1<(i:Int))&&((NF v x.2.2.2.1.toNat).getD false&&Db v x.2.2.2.1 i ((i:Int)-1))
def FU (v:List Nd):Bool:=(range v.length).all (okN v)&&decide (1<=v.length/\v.length<=40)
def Pj:Gm
 | [.agg [.sl NCd v]],[]=>.need (decide (v.length<=4000000000)) (.leaf (.b (FU v),[]))
 | _,_=>.no
def Hi:LoopEnt:=⟨68,[1,8,9,10],[1],[2],fun
 | ([.ptr 0 0,.sl NCd q,.j m,.j i],[some (.box [.sl NCd v])])=>.need (decide (0<=i/\i.toNat<=v.length/\m=v.length/\eqT (List Nd) q v/\v.length<=4000000000)&&De v i.toNat) (.br (((range v.length).drop i.toNat).all (okN v)) (.leaf (.exit 0,([.ptr 0 0],[some (.box [.sl NCd v])]))) (.leaf (.ret,([.b false],[]))))
 | _=>.no⟩
def HO:LoopEnt:=⟨68,[1,4,5,6,8,9,10],[1,5,8,9,10],[],fun
 | ([.ptr 0 0,.ptr 1 0,.b ar,.j x,.sl NCd q,.j m,.j i],[some (.box [.sl NCd v]),some (.box [.j y0,.s y1,.j y2,.j y3,.b y4])])=>.need (decide (0<=i/\i.toNat<=v.length/\x<i/\v.length<=4000000000)&&De v i.toNat) (.leaf (.exit 2,([.ptr 0 0,.b (ar||Db v y3 (x+1).toNat x),.sl NCd q,.j m,.j i],[some (.box [.sl NCd v])])))
 | _=>.no⟩
theorem NA (v q:List Nd) (m i:Int):At prog (Aa [(115,.rd1 A0)]) (Aa [(2,Hi),(11,HO)]) 0 (body f205 0) Hi ([.ptr 0 0,.sl NCd q,.j m,.j i],[some (.box [.sl NCd v])]) =
 ((ifB (decide (i<m)) (ifT (decide (0<=i)&&decide (i<(↑q.length:Int))) (Ak q[i.toNat]? fun z=>ifB (i==0) (ifB (z.2.2.2.1 != (-1:Int)) rF (ifB (z.2.2.1 != (0:Int)) rF (some (Ex.normal,[V.ptr 0 0,V.sl NCd q,V.j m,V.i .i64
 (i64.wrap (i+1))],[some (Blk.box [V.sl NCd v])])))) (ifB (decide (z.2.2.2.1<(0:Int))) rF (ifB (decide
 (z.2.2.2.1>=i)) rF (ifT (decide ((0:Int)<=z.2.2.2.1)&&decide (z.2.2.2.1<(↑v.length:Int))) (Ak
 v[toNat z.2.2.2.1]? fun z_1=>ifB (!z_1.2.2.2.2.1) rF (ifT (decide (0<=i/\i.toNat<=v.length/\i64.wrap (i
 - 1)<i/\v.length<=4000000000)&&De v i.toNat) (ifB (!(false||Db v z.2.2.2.1 (i64.wrap (i-1)+(1:Int)).toNat (i64.wrap
 (i-1)))) rF (some (Ex.normal,[V.ptr 0 0,V.sl NCd q,V.j m,V.j (i64.wrap (i+1))],[some (Blk.box [V.sl NCd
 v])])))))))))) (some (Ex.exit 0,[V.ptr 0 0],[some (Blk.box [V.sl NCd v])]))):_):=by kernel_rfl
theorem Wh (v q:List Nd) (y0:Int) (y1:By) (y2 y3:Int) (y4:Bool) (ar:Bool) (m i x:Int):At prog (Aa [(115,.rd1 A0)]) (Aa [(2,Hi),(11,HO)]) 0 (body f205 1) HO ([.ptr 0 0,.ptr 1 0,.b ar,.j x,.sl NCd q,.j m,.j i],[some (.box [.sl NCd v]),some (.box [.j y0,.s y1,.j y2,.j y3,.b y4])]) =
 ((ifB (decide (x>=0)) (ifB ar (ifT (decide (0<=x)&&decide (x<(↑v.length:Int))) (Ak v[x.toNat]? fun z=>some (Ex.normal,[V.ptr 0 0,V.ptr 1 0,V.b true,V.i
 .i64 z.2.2.2.1,V.sl NCd q,V.j m,V.j i],[some (Blk.box [V.sl NCd v]),some (Blk.box [V.j y0,V.s y1,V.j y2,V.j y3,V.b y4])]))) (ifT
 (decide (0<=x)&&decide (x<(↑v.length:Int))) (Ak v[x.toNat]? fun z=>some (Ex.normal,[V.ptr 0 0,V.ptr 1 0,V.b (x==y3),V.j z.2.2.2.1,V.sl
 NCd q,V.j m,V.j i],[some (Blk.box [V.sl NCd v]),some (Blk.box [V.j y0,V.s y1,V.j y2,V.j y3,V.b y4])])))) (some (Ex.exit 2,[V.ptr 0 0,
 V.b ar,V.sl NCd q,V.j m,V.j i],[some (Blk.box [V.sl NCd v])]))):_):=by kernel_rfl
theorem Adh (v:List Nd):Aw prog (Aa [(115,.rd1 A0)]) (Aa [(2,Hi),(11,HO)]) f205 [.agg [.sl NCd v]] [] =
 ((ifT (decide ((0:Int)<=(0:Int)/\0<=v.length/\(↑v.length:Int)=(↑v.length:Int)/\eqT (List Nd) v v/\v.length<=4000000000)&&De v (0 :
 Nat)) (ifB ((drop 0 (range v.length)).all (okN v)) (some (V.b (decide (1<=(↑v.length:Int)/\(↑v.length:Int)<=(40:Int))),[])) nF)):_):=by kernel_rfl
theorem Uh {l:List Nd} {i j:Nat} (h:De l i=true) (hj:j<i) : ∃ v,upN l j=some v/\v<(j:Int):=by
 have:=all_eq_true.1 h j (mem_range.2 hj)
 cases hu:upN l j with
 | none=>rw [hu] at this; cases this
 | some v=>rw [hu] at this; exact ⟨v,rfl,of_decide_eq_true this⟩
theorem PQ {l:List Nd} {i:Nat} (h:De l i=true) {u:Int} (hu:upN l i=some u) (hlt:u<(i:Int)):De l (i+1)=true:=by
 unfold De at h ⊢;rw [List.range_succ,List.all_append,h,Bool.true_and,all_cons,List.all_nil,Bool.and_true,hu];exact dcT hlt
theorem Hb {l:List Nd} {i:Nat} (h:De l i=true) (u:Int) : ∀ (f f':Nat) (x:Int),x<(i:Int)->(x+1).toNat<=f->(x+1).toNat<=f'->Db l u f x=Db l u f' x
 | 0,0,x,_,_,_=>rfl
 | 0,f'+1,x,hx,h1,h2=>by rw [Db,Db,if_pos (by omega)]
 | f+1,0,x,hx,h1,h2=>by rw [Db,Db,if_pos (by omega)]
 | f+1,f'+1,x,hx,h1,h2=>by
  rw [Db,Db]
  by_cases a:x<0
  ·rw [if_pos a,if_pos a]
  ·rw [if_neg a,if_neg a];obtain ⟨v,hv,hv2⟩:=Uh h (j:=x.toNat) (by omega);rw [hv];dsimp only;rw [Hb h u f f' v (by omega) (by omega) (by omega)]
theorem I5 {l:List Nd} {e:Nat} (h:e<l.length):upN l e=some l[e].2.2.2.1:=by
 unfold upN;rw [gtE h]; rfl
theorem Zp (v q:List Nd) (y0:Int) (y1:By) (y2 y3:Int) (y4:Bool) (m:Int) (i:Nat) (hi:i<=v.length) (hl:v.length<=4000000000) (hs:De v i=true) : ∀ (j:Nat) (x:Int) (ar:Bool),(x+1).toNat=j->x<(i:Int)->
  Runs prog (Aa [(115,.rd1 A0)]) (Aa [(2,Hi),(11,HO)]) 0 (body f205 1) HO ([.ptr 0 0,.ptr 1 0,.b ar,.j x,.sl NCd q,.j m,.j (i:Int)],[some (.box [.sl NCd v]),some (.box [.j y0,.s y1,.j y2,.j y3,.b y4])]) (.exit 2) ([.ptr 0 0,.b (ar||Db v y3 (x+1).toNat x),.sl NCd q,.j m,.j (i:Int)],[some (.box [.sl NCd v])]):=by
 intro j
 induction j using Nat.strongRecOn with
 | ind j ih=>
  intro x ar hj hx;have hr:=Wh v q y0 y1 y2 y3 y4 ar m i x
  by_cases a:x<0
  ·rw [Ac (dcF (by omega))] at hr;have e0:(x+1).toNat=0:=by omega
   rw [e0,Db,Bool.or_false];exact stp hr
  ·obtain ⟨x,rfl⟩:=eq_ofNat_of_zero_le (by omega:0<=x);have hxl:x<v.length:=by omega
   have hd:(decide ((0:Int)<=(x:Int))&&decide ((x:Int)<(v.length:Int)))=true:=by simp only [anE,dcE]; omega
   rw [Ae (dcT (by omega)),hd,ntN,gtE hxl,CP,Ai,CP,Ai] at hr;obtain ⟨w,hw,hw2⟩:=Uh hs (j:=x) (by omega);have hw3:v[x].2.2.2.1=w:=by rw [I5 hxl] at hw; exact Option.some.inj hw
   rw [hw3] at hr;have e0:((x:Int)+1).toNat=x+1:=by omega
   rw [e0,Db,if_neg (by omega),ntN,hw];dsimp only;rw [Hb hs y3 x (w+1).toNat w (by omega) (by omega) (le_refl _),<-Bool.or_assoc];refine sts (hr.trans ?_) (ih (w+1).toNat (by omega) w (ar||(x:Int)==y3) rfl (by omega));cases ar<;>rfl
theorem Ahn : ∀ d e d',(HO.L d).run=some (e,d')->Runs prog (Aa [(115,.rd1 A0)]) (Aa [(2,Hi),(11,HO)]) 0 (body f205 1) HO d e d':=fun d ex d' h=>by
 unfold HO at h;dsimp only at h;split at h
 ·rename_i ar x q m i v y0 y1 y2 y3 y4;obtain ⟨hc,hx⟩:=Ad h;clear h;rw [anE] at hc;obtain ⟨hc,hs⟩:=hc;obtain ⟨h0,h1,h2,h3⟩:=of_decide_eq_true hc;obtain ⟨i,rfl⟩:=eq_ofNat_of_zero_le h0;simp only [ntN] at h1 hs;obtain ⟨rfl,rfl⟩:=lfP hx;exact Zp v q y0 y1 y2 y3 y4 m i h1 h3 hs _ x ar rfl h2
 ·cases h
theorem Ahk {v:List Nd} {i:Nat} (h:okN v i=true) : ∃ u,upN v i=some u/\u<(i:Int):=by
 unfold okN at h
 cases hx:v[i]? with
 | none=>rw [hx] at h; cases h
 | some x=>
  rw [hx] at h;dsimp only at h;refine ⟨x.2.2.2.1,by unfold upN; rw [hx]; rfl,?_⟩;split at h
  ·rw [anE,beq_iff_eq] at h; omega
  ·rw [anE,dcE] at h; exact h.1.2
theorem Zq (v:List Nd) (hl:v.length<=4000000000) (i:Nat) (hi:i<v.length) (hs:De v i=true) :
  At prog (Aa [(115,.rd1 A0)]) (Aa [(2,Hi),(11,HO)]) 0 (body f205 0) Hi ([.ptr 0 0,.sl NCd v,.j (v.length:Int),.j (i:Int)],[some (.box [.sl NCd v])])=some (bif okN v i then (.normal,([.ptr 0 0,.sl NCd v,.j (v.length:Int),.j ((i+1:Nat):Int)],[some (.box [.sl NCd v])])) else (.ret,([.b false],[]))):=by
 have hM:=mxI;have hr:=NA v v v.length i;rw [Ae (dcT (by omega)),T2 (by omega),ntN,gtE hi,Ai,Ap (n:=i) (by omega)] at hr;refine hr.trans ?_;clear hr;unfold okN;rw [gtE hi];dsimp only
 by_cases hz:i=0
 ·subst hz;rw [if_pos rfl,show (((0:Nat):Int)==0)=true from rfl];unfold bne;cases v[0].2.2.2.1==-1<;>cases v[0].2.2.1==0<;>rfl
 ·rw [if_neg hz,show ((i:Int)==0)=false from beq_false_of_ne (by omega),A6];have hw:i64.wrap ((i:Int)-1)=(i:Int)-1:=Av (by omega) (by omega);rw [hw]
  by_cases c:0<=v[i].2.2.2.1/\v[i].2.2.2.1<(i:Int)
  ·obtain ⟨u,hu⟩:=eq_ofNat_of_zero_le c.1;rw [hu] at c ⊢;have hul:u<v.length:=by omega
   rw [dcT c,Ac (dcF (by omega)),Ac (dcF (by omega)),T2 (by omega),ntN,gtE hul,Ai];have hm:NF v u=some v[u].2.2.2.2.1:=by unfold NF; rw [gtE hul]; rfl
   rw [hm,Ab (by rw [anE]; exact ⟨dcT ⟨by omega,by omega,by omega,hl⟩,hs⟩)];rw [Hb hs u ((i:Int)-1+1).toNat i ((i:Int)-1) (by omega) (le_refl _) (by omega)];show _=some (bif true&&(v[u].2.2.2.2.1&&_) then _ else _);cases v[u].2.2.2.2.1<;>cases Db v u i ((i:Int)-1)<;>rfl
  ·rw [dcF c]
   by_cases c1:v[i].2.2.2.1<0
   ·rw [Ae (dcT c1)]; rfl
   ·rw [Ac (dcF c1),Ae (dcT (by omega))]; rfl
theorem Q8 (v:List Nd) (hl:v.length<=4000000000) : ∀ (j i:Nat),i+j=v.length->De v i=true->∀ ex d,(Br.br (((range v.length).drop i).all (okN v)) (.leaf (.exit 0,([.ptr 0 0],[some (.box [.sl NCd v])]))) (.leaf (.ret,([.b false],[]))):Br (Ex×Dt)).run=some (ex,d)->
  Runs prog (Aa [(115,.rd1 A0)]) (Aa [(2,Hi),(11,HO)]) 0 (body f205 0) Hi ([.ptr 0 0,.sl NCd v,.j (v.length:Int),.j (i:Int)],[some (.box [.sl NCd v])]) ex d
 | 0,i,hi,hs,ex,d,h=>by
  have hr:=NA v v v.length i;rw [Ac (dcF (by omega))] at hr;have e1:(range v.length).drop i=[]:=drop_eq_nil_of_le (by simp; omega);rw [e1] at h;obtain ⟨rfl,rfl⟩:=lfP h;exact stp hr
 | j+1,i,hi,hs,ex,d,h=>by
  have hr:=Zq v hl i (by omega) hs;rw [Lu (by omega),all_cons] at h
  cases hk:okN v i with
  | true=>
   rw [hk,cond_true] at hr;rw [hk,Bool.true_and] at h;obtain ⟨u,hu,hlt⟩:=Ahk hk;exact sts hr (Q8 v hl j (i+1) (by omega) (PQ hs hu hlt) ex d h)
  | false=>
   rw [hk,cond_false] at hr;rw [hk,Bool.false_and] at h;obtain ⟨rfl,rfl⟩:=lfP h;exact stp hr
theorem Aho : ∀ d e d',(Hi.L d).run=some (e,d')->Runs prog (Aa [(115,.rd1 A0)]) (Aa [(2,Hi),(11,HO)]) 0 (body f205 0) Hi d e d':=fun d ex d' h=>by
 unfold Hi at h;dsimp only at h;split at h
 ·rename_i q m i v;obtain ⟨hc,hx⟩:=Ad h;clear h;rw [anE] at hc;obtain ⟨hc,hs⟩:=hc;obtain ⟨h0,h1,rfl,h3,h4⟩:=of_decide_eq_true hc;have h3:q=v:=h3;subst h3;obtain ⟨i,rfl⟩:=eq_ofNat_of_zero_le h0;simp only [ntN] at h1 hs hx;exact Q8 _ h4 _ i (Nat.add_sub_of_le h1) hs ex d' hx
 ·cases h
theorem Adx:Af prog 205 (Ent.rd1 Pj).F:=by
 refine fcK (kc func115 Ia KnowsL.nil).knows (Λ:=(Aa [(2,Hi),(11,HO)])) func205 fun vs bs r hq=>?_
 unfold Ent.F Pj at hq;dsimp only at hq;split at hq
 ·rename_i v;obtain ⟨hc,hx⟩:=Ad hq;have h1:=of_decide_eq_true hc;refine ⟨LoopsI.loops (.cons (a:=body f205 0) (by kernel_rfl) Aho (.cons (a:=body f205 1) (by kernel_rfl) Ahn .nil)) (by kernel_rfl),Eq.trans ?_ hx⟩;have hu0:De v 0=true:=rfl;have d0:decide ((0:Int)<=0/\0<=v.length/\(v.length:Int)=(v.length:Int)/\eqT (List Nd) v v/\v.length<=4000000000)=true:=dcT ⟨by omega,by omega,rfl,rfl,h1⟩;have hle:decide (1<=(v.length:Int)/\(v.length:Int)<=40)=decide (1<=v.length/\v.length<=40):=decide_eq_decide.2 (by omega);rw [Adh,d0,hu0,drop_zero,hle];unfold FU;cases (range v.length).all (okN v)<;>rfl
 ·cases hq
def Gg (v:List Nd) (l:List Ty):Bool:=AN l&&(FU v&&sfR (v4L v 0) (t2L l 0))
def SD:Gm
 | [.agg [.sl NCd v],.agg [.sl TCd l]],[]=>.need (decide (l.length<=4000000000)&&nmL l&&decide (v.length<=4000000000)) (.leaf (.b (Gg v l),[]))
 | _,_=>.no
theorem SC (v:List Nd) (l:List Ty):Aw prog (Aa [(114,.rd1 Ge),(205,.rd1 Pj),(175,.rd1 HV),(119,.rd1 DD),(206,.rd1 sfG)]) (Aa []) f173 [.agg [.sl NCd v],.agg [.sl TCd l]] [] =
 ((ifT (decide (l.length<=4000000000)&&nmL l) (ifB (AN l) (ifT (decide (v.length<=4000000000)) (ifB (FU v) (ifT (decide ((0:Int)<=(0:Int)/\(0
 : Nat)<v.length/\v.length<=4000000000)) (ifT (decide ((0:Int)<=(0:Int)/\0<l.length/\l.length<=4000000000)) (ifT (decide (Ar
 (take (t2L l 0).kids.length (drop 0 (t2L l 0).kids))+1<=1000000/\An (Rose.node ((t2L l 0).lab.1,(t2L
 l 0).lab.2.1,(t2L l 0).lab.2.2.1,(t2L l 0).lab.2.2.2.1,(t2L l 0).lab.2.2.2.2.1,()) (take (t2L l (0 :
 Nat)).kids.length (drop 0 (t2L l 0).kids)))=true/\F9 (Rose.node ((v4L v 0).lab.1,(v4L v 0).lab.2.1,(v4L v (0 :
 Nat)).lab.2.2.1,(v4L v 0).lab.2.2.2.1,()) (take (v4L v 0).kids.length (drop 0 (v4L v 0).kids)))=true)) (some
 (V.b (sfR (Rose.node ((v4L v 0).lab.1,(v4L v 0).lab.2.1,(v4L v 0).lab.2.2.1,(v4L v 0).lab.2.2.2.1,()) (take
 (v4L v 0).kids.length (drop 0 (v4L v 0).kids))) (Rose.node ((t2L l 0).lab.1,(t2L l 0).lab.2.1,(t2L l (0 :
 Nat)).lab.2.2.1,(t2L l 0).lab.2.2.2.1,(t2L l 0).lab.2.2.2.2.1,()) (take (t2L l 0).kids.length (drop 0
 (t2L l 0).kids)))),[]))))) nF)) nF)):_):=by kernel_rfl
theorem Agd {v:List Nd} (hl:v.length<=4000000000) : ∀ (f k:Nat),F9 (v4t v f k)=true:=by
 have all : ∀ l:RVL,(∀ z∈l,F9 z=true)->I2 l=true:=fun l=>by
  induction l with
  | nil=>intro _; rfl
  | cons z l ih=>intro h; rw [I2,h z (by simp),ih fun w hw=>h w (by simp [hw])]; rfl
 intro f
 induction f with
 | zero=>intro k; rw [v4t,F9]; rfl
 | succ f ih=>
  intro k;have h1:=Pm (k:Int) (v.drop (k+1)) (k+1);rw [length_drop] at h1;have h2:(E1 v k).length<=v.length-(k+1):=h1
  rw [v4t,F9,all _ (fun z hz=>by
   obtain ⟨x,_,rfl⟩:=List.mem_map.1 hz
   exact ih _),length_map,dcT (by omega)]
  rfl
theorem ZB {l:List Ty} (h:AN l=true):0<l.length/\Ao (t2L l 0)<=1000000/\An (t2L l 0)=true/\(kf l 0).1=t2L l 0:=by
 have e:=(Fk l).2 h;have f:=QX h;rw [e] at f;refine ⟨?_,f.1,f.2,e⟩;unfold AN at h;simp only [anE,dcE] at h;omega
theorem VI (v:List Nd) (l:List Ty) (h1:(decide (l.length<=4000000000)&&nmL l)=true) (h2:v.length<=4000000000):Aw prog (Aa [(114,.rd1 Ge),(205,.rd1 Pj),(175,.rd1 HV),(119,.rd1 DD),(206,.rd1 sfG)]) (Aa []) f173 [.agg [.sl NCd v],.agg [.sl TCd l]] []=some (.b (Gg v l),[]):=by
 rw [SC,h1,CP];unfold Gg
 cases hk:AN l with
 | false=>rfl
 | true=>
  obtain ⟨k1,k2,k3,k4⟩:=ZB hk;rw [AR,Ab (dcT h2)]
  cases hn:FU v with
  | false=>rfl
  | true=>
   have hv:0<v.length:=by
    unfold FU at hn;simp only [anE,dcE] at hn;omega
   rw [anE,dcE] at h1;have hck:=Bk (t2L l 0);have hw:F9 (v4L v 0)=true:=Agd h2 _ _;rw [AR,Ab (dcT ⟨by omega,hv,h2⟩),Ab (dcT ⟨by omega,k1,h1.1⟩),HC,MR,drop_zero,take_length,Ab (dcT ⟨by omega,k3,hw⟩)];rfl
theorem Agw:Af prog 173 (Ent.rd1 SD).F:=by
 refine fcK (kc func114 Qm (kc func205 Adx (kc func175 Z3 (kc func119 IS (kc func206 Ah2 KnowsL.nil))))).knows (Λ:=Aa []) func173 fun vs bs r hq=>?_
 unfold Ent.F SD at hq;dsimp only at hq;split at hq
 ·rename_i v l;obtain ⟨hc,hx⟩:=Ad hq;rw [anE,dcE] at hc;exact ⟨Ah _,(VI v l hc.1 hc.2).trans hx⟩
 ·cases hq
def asT (x:Nd):Ty:=(bif x.2.2.2.2.1 then 5 else 1,x.2.1,x.2.2.1,x.2.2.2.2.1,x.2.2.2.1,x.1,())
def tys (v:List Nd):List Ty:=v.map asT
def cvL (x:Lab):AG:=(x.2.2.2.2.1,x.2.1,x.2.2.1,x.2.2.2.1,())
mutual
def cv:Rose Lab->Rose AG
 | .node x ks=>.node (cvL x) (cvs ks)
def cvs:RL->RVL
 | []=>[]
 | z::l=>cv z::cvs l
end
def Dk:RL->RVL->Bool
 | [],us=>us.isEmpty
 | z::ks,[]=>!z.lab.2.2.2.1&&Dk ks []
 | z::ks,u::us=>if u.lab.2.2.1=z.lab.2.2.1 then sfR u z&&Dk ks us else !z.lab.2.2.2.1&&Dk ks (u::us)
theorem BL (v:List Nd):(tys v).length=v.length:=by unfold tys; rw [length_map]
theorem EL (v:List Nd) (i:Nat):AT (tys v) i=upN v i:=by
 unfold AT upN tys;rw [List.getElem?_map];cases v[i]?<;>rfl
theorem Kv {v:List Nd} {i:Nat} (h:i<v.length):A1 (tys v) i=(bif v[i].2.2.2.2.1 then 5 else 1,v[i].2.1,v[i].2.2.1,v[i].2.2.2.2.1,v[i].1,()):=by
 unfold A1 tys;rw [List.getElem?_map,gtE h];rfl
theorem IX {v:List Nd} {i:Nat} (h:i<v.length):A3 (A1 (tys v) i).1=v[i].2.2.2.2.1:=by
 rw [Kv h];cases v[i].2.2.2.2.1<;>rfl
theorem UZ : ∀ l:RL,cvs l=l.map cv
 | []=>by rw [cvs]; rfl
 | z::l=>by rw [cvs,UZ l]; rfl
theorem Ai5 (z:Rose Lab):(cv z).lab=cvL z.lab:=by cases z; rw [cv]; rfl
theorem U2 (k:Int) : ∀ (l:List Nd) (i:Nat),nkL k i l=C6 k i (l.map asT)
 | [],i=>rfl
 | x::l,i=>by
  rw [nkL,List.map_cons,C6,U2 k l];rfl
theorem Zr (v:List Nd) (k:Nat):E1 v k=Bt (tys v) k:=by
 unfold E1 Bt tys;rw [U2,List.map_drop]
theorem Afu {v:List Nd} : ∀ (n k:Nat),v.length-k<=n->k<v.length->v4L v k=cv (t2L (tys v) k)
 | 0,k,h1,h2=>by omega
 | n+1,k,h1,h2=>by
  have hl:=BL v;rw [Aft h2,Ye (by omega),cv,UZ,map_map,Zr];congr 1
  ·rw [Kv h2];unfold IL;rw [gtE h2];rfl
  ·refine map_congr_left fun x hx=>?_
   obtain ⟨j,rfl,h3,h4⟩:=Fi hx;exact Afu n _ (by simp; omega) (by simp; omega)
theorem G3 {l:List Ty} {g:Nat->Rose Lab×Nat} {a:Nat} : ∀ (n e:Nat) (ks:RL),AI g l a n e ks=(ks++(AI g l a n e []).1,(AI g l a n e []).2)
 | 0,e,ks=>by simp [AI]
 | n+1,e,ks=>by
  rw [AI,AI];split
  ·rw [G3 n _ (ks++[(g e).1]),G3 n _ ([]++[(g e).1])];simp
  ·simp
theorem Ahe {v:List Nd} {a e:Nat}:YY v a e=true↔AT (tys v) e=some (a:Int):=by
 rw [EL];unfold YY;exact beq_iff_eq
theorem ZD {v:List Nd} {e:Nat} (h:e<v.length):(cv (kf (tys v) e).1).lab=(v[e].1,v[e].2.1,v[e].2.2.1,v[e].2.2.2.2.1,()):=by
 rw [Ai5,NQ (by rw [BL]; exact h)];show cvL (A1 (tys v) e)=_;rw [Kv h];rfl
def VR (y z:Rose AG):Prop:=y.lab.2.2.1<z.lab.2.2.1
def KR (y z:Rose Lab):Prop:=y.lab.2.2.1<z.lab.2.2.1
theorem Y2 (ks:RL) : ∀ (us pre:RVL),pre.Pairwise VR->
  (sfM ks (pre++us) pre.length us=true↔(∀ u∈us,AY u.lab.2.2.1 ks=true/\sfR u (byR u.lab.2.2.1 ks)=true)/\(pre++us).Pairwise VR)
 | [],pre,hp=>by rw [sfM,append_nil]; exact ⟨fun _=>⟨fun _ h=>(by cases h),hp⟩,fun _=>rfl⟩
 | z::l,pre,hp=>by
  have hpg:Jq (pre++z::l) pre.length z.lab.2.2.1=true↔∃ y,pre.getLast? = some y/\y.lab.2.2.1>=z.lab.2.2.1:=by
   cases hl:pre.getLast? with
   | none=>
    have:pre=[]:=by simpa using hl
    subst this;simp [Jq]
   | some y=>
    have hne:pre≠[]:=by intro e; subst e; cases hl
    obtain ⟨m,hm⟩ : ∃ m,pre.length=m+1:=⟨pre.length-1,by have:=List.length_pos_iff.2 hne; omega⟩
    have hy:(pre++z::l)[m]? = some y:=by
     rw [List.getElem?_append_left (by omega),<-hl,List.getLast?_eq_getElem?,hm]; rfl
    rw [hm];unfold Jq;dsimp only;rw [hy];simp
  have hR:(∀ y∈pre,VR y z)↔Jq (pre++z::l) pre.length z.lab.2.2.1=false:=by
   rw [<-Bool.not_eq_true,hpg];constructor
   ·rintro h ⟨y,g1,g2⟩
    have:y.lab.2.2.1<z.lab.2.2.1:=h y (List.mem_of_getLast? g1);omega
   ·intro h y hy;show y.lab.2.2.1<z.lab.2.2.1
    cases hl:pre.getLast? with
    | none=>
     have:pre=[]:=by simpa using hl
     subst this; cases hy
    | some w=>
     have h1 : ¬w.lab.2.2.1>=z.lab.2.2.1:=fun g=>h ⟨w,hl,g⟩
     have hne:pre≠[]:=by intro e; subst e; cases hl
     have e:pre=pre.dropLast++[w]:=by
      rw [List.getLast?_eq_some_getLast hne] at hl;have:=(List.dropLast_concat_getLast hne).symm;rw [Option.some.inj hl] at this;exact this
     rw [e] at hy hp;rcases List.mem_append.1 hy with hy | hy
     ·have:y.lab.2.2.1<w.lab.2.2.1:=(List.pairwise_append.1 hp).2.2 y hy w (by simp);omega
     ·simp at hy; subst hy; omega
  rw [sfM,anE,anE,anE,Bool.not_eq_true',<-hR]
  have hstep:(∀ y∈pre,VR y z)->(sfM ks (pre++z::l) (pre.length+1) l=true↔(∀ u∈l,AY u.lab.2.2.1 ks=true/\sfR u (byR u.lab.2.2.1 ks)=true)/\(pre++z::l).Pairwise VR):=fun hall=>by
   have hp2:(pre++[z]).Pairwise VR:=List.pairwise_append.2 ⟨hp,List.pairwise_singleton _ _,fun y hy w hw=>by simp at hw; subst hw; exact hall y hy⟩;have ih:=Y2 ks l (pre++[z]) hp2;rw [append_assoc] at ih
   simpa using ih
  constructor
  ·rintro ⟨⟨h1,h2,h3⟩,h4⟩
   have:=(hstep h3).1 h4;refine ⟨fun u hu=>?_,this.2⟩;rcases mem_cons.1 hu with e | hu
   ·rw [e]; exact ⟨h1,h2⟩
   ·exact this.1 u hu
  ·rintro ⟨h1,h2⟩
   have hall : ∀ y∈pre,VR y z:=fun y hy=>(List.pairwise_append.1 h2).2.2 y hy z (by simp)
   exact ⟨⟨(h1 z (by simp)).1,(h1 z (by simp)).2,hall⟩,(hstep hall).2 ⟨fun u hu=>h1 u (by simp [hu]),h2⟩⟩
theorem E7 {n:Int} {ks:RL}:AY n ks=true↔∃ y∈ks,y.lab.2.2.1=n:=by
 unfold AY;rw [any_eq_true];constructor
 ·rintro ⟨y,h1,h2⟩; exact ⟨y,h1,by simpa using h2⟩
 ·rintro ⟨y,h1,h2⟩; exact ⟨y,h1,by simpa using h2⟩
theorem DP {us:RVL} {ks:RL}:Bv us ks=true↔∀ y∈ks,y.lab.2.2.2.1=true->∃ u∈us,u.lab.2.2.1=y.lab.2.2.1:=by
 unfold Bv CX;rw [all_eq_true];constructor
 ·intro h y hy hm;have:=h y hy;rw [hm,Bool.not_true,Bool.false_or,any_eq_true] at this;obtain ⟨u,h1,h2⟩:=this;exact ⟨u,h1,by simpa using h2⟩
 ·intro h y hy
  cases hm:y.lab.2.2.2.1 with
  | false=>rfl
  | true=>
   obtain ⟨u,h1,h2⟩:=h y hy hm;rw [Bool.not_true,Bool.false_or,any_eq_true];exact ⟨u,h1,by simpa using h2⟩
theorem DZ {n:Int} {z:Rose Lab} {ks:RL} (h:n≠z.lab.2.2.1):AY n (z::ks)=AY n ks/\byR n (z::ks)=byR n ks:=by
 constructor
 ·unfold AY;rw [any_cons,beq_false_of_ne (Ne.symm h),Bool.false_or]
 ·rw [byR,if_neg (Ne.symm h)]
theorem Fc : ∀ (ks:RL),ks.Pairwise KR->∀ us:RVL,(Dk ks us=true↔((∀ u∈us,AY u.lab.2.2.1 ks=true/\sfR u (byR u.lab.2.2.1 ks)=true)/\us.Pairwise VR)/\Bv us ks=true)
 | [],_,us=>by
  rw [Dk,List.isEmpty_iff];constructor
  ·rintro rfl; exact ⟨⟨fun u h=>(by cases h),Pairwise.nil⟩,rfl⟩
  ·rintro ⟨⟨h,_⟩,_⟩
   cases us with
   | nil=>rfl
   | cons u us=>
    have:=(h u (by simp)).1;cases this
 | z::ks,hp,[]=>by
  rw [pairwise_cons] at hp;rw [Dk,anE,Fc ks hp.2 [],DP,DP];constructor
  ·rintro ⟨h1,h2,h3⟩
   refine ⟨h2.imp_left fun _ u h=>(by cases h),fun y hy hm=>?_⟩;rcases mem_cons.1 hy with e | hy
   ·rw [e] at hm; rw [hm] at h1; cases h1
   ·exact h3 y hy hm
  ·rintro ⟨h2,h3⟩
   refine ⟨?_,⟨fun u h=>(by cases h),Pairwise.nil⟩,fun y hy hm=>h3 y (by simp [hy]) hm⟩
   cases hm:z.lab.2.2.2.1 with
   | false=>rfl
   | true=>obtain ⟨u,g,_⟩:=h3 z (by simp) hm; cases g
 | z::ks,hp,u::us=>by
  rw [pairwise_cons] at hp
  have hz : ∀ n,AY n ks=true->z.lab.2.2.1<n:=fun n h=>by
   obtain ⟨y,h1,h2⟩:=E7.1 h;have:z.lab.2.2.1<y.lab.2.2.1:=hp.1 y h1;omega
  rw [Dk]
  by_cases q:u.lab.2.2.1=z.lab.2.2.1
  ·have hb:byR u.lab.2.2.1 (z::ks)=z:=by rw [byR,if_pos q.symm]
   rw [if_pos q,anE,Fc ks hp.2 us,DP,DP];constructor
   ·rintro ⟨h1,⟨h2,h3⟩,h4⟩
    refine ⟨⟨fun w hw=>?_,pairwise_cons.2 ⟨fun w hw=>?_,h3⟩⟩,fun y hy hm=>?_⟩
    ·rcases mem_cons.1 hw with e | hw
     ·rw [e,hb]; exact ⟨E7.2 ⟨z,by simp,q.symm⟩,h1⟩
     ·have:=h2 w hw;have hne:=DZ (ks:=ks) (z:=z) (n:=w.lab.2.2.1) (by have:=hz _ this.1; omega);rw [hne.1,hne.2]; exact this
    ·show u.lab.2.2.1<w.lab.2.2.1;have:=hz _ (h2 w hw).1; omega
    ·rcases mem_cons.1 hy with e | hy
     ·exact ⟨u,by simp,by rw [e,q]⟩
     ·obtain ⟨w,g1,g2⟩:=h4 y hy hm;exact ⟨w,by simp [g1],g2⟩
   ·rintro ⟨⟨h1,h2⟩,h3⟩
    rw [pairwise_cons] at h2;refine ⟨by have:=(h1 u (by simp)).2; rw [hb] at this; exact this,⟨fun w hw=>?_,h2.2⟩,fun y hy hm=>?_⟩
    ·have hlt:u.lab.2.2.1<w.lab.2.2.1:=h2.1 w hw;have:=h1 w (by simp [hw]);have hne:=DZ (ks:=ks) (z:=z) (n:=w.lab.2.2.1) (by omega);rw [hne.1,hne.2] at this; exact this
    ·obtain ⟨w,g1,g2⟩:=h3 y (by simp [hy]) hm;rcases mem_cons.1 g1 with e | g1
     ·have:z.lab.2.2.1<y.lab.2.2.1:=hp.1 y hy;rw [e] at g2; omega
     ·exact ⟨w,g1,g2⟩
  ·rw [if_neg q,anE,Fc ks hp.2 (u::us),DP,DP];constructor
   ·rintro ⟨h1,⟨h2,h3⟩,h4⟩
    refine ⟨⟨fun w hw=>?_,h3⟩,fun y hy hm=>?_⟩
    ·have:=h2 w hw;have hne:=DZ (ks:=ks) (z:=z) (n:=w.lab.2.2.1) (by have:=hz _ this.1; omega);rw [hne.1,hne.2]; exact this
    ·rcases mem_cons.1 hy with e | hy
     ·rw [e] at hm; rw [hm] at h1; cases h1
     ·exact h4 y hy hm
   ·rintro ⟨⟨h1,h2⟩,h3⟩
    have hu:z.lab.2.2.1<u.lab.2.2.1:=by
     have:=(h1 u (by simp)).1;rw [(DZ (ks:=ks) q).1] at this;exact hz _ this
    have hall : ∀ w∈u::us,z.lab.2.2.1<w.lab.2.2.1:=fun w hw=>by
     rcases mem_cons.1 hw with e | hw
     ·rw [e]; exact hu
     ·have:u.lab.2.2.1<w.lab.2.2.1:=(pairwise_cons.1 h2).1 w hw;omega
    refine ⟨?_,⟨fun w hw=>?_,h2⟩,fun y hy hm=>h3 y (by simp [hy]) hm⟩
    ·cases hm:z.lab.2.2.2.1 with
     | false=>rfl
     | true=>
      obtain ⟨w,g1,g2⟩:=h3 z (by simp) hm;have:=hall w g1; omega
    ·have:=h1 w hw;have hne:=DZ (ks:=ks) (z:=z) (n:=w.lab.2.2.1) (by have:=hall w hw; omega);rw [hne.1,hne.2] at this; exact this
theorem Wk {ks:RL} (h:ks.Pairwise KR) (us:RVL):Dk ks us=(sfM ks us 0 us&&Bv us ks):=by
 have h1:=Y2 ks us [] Pairwise.nil;rw [nil_append,List.length_nil] at h1;rw [Bool.eq_iff_iff,anE,h1];exact Fc ks h us
def Ks (v:List Nd) (e:Nat) (m:Bool):RL×Nat:=bif m then AI (kf (tys v)) (tys v) e (tys v).length (e+1) [] else ([],e+1)
theorem Af8 {v:List Nd} {e:Nat} (h:e<v.length):kf (tys v) e=(.node (A1 (tys v) e) (Ks v e v[e].2.2.2.2.1).1,(Ks v e v[e].2.2.2.2.1).2):=by
 have:=NQ (l:=tys v) (a:=e) (by rw [BL]; exact h);rw [IX h] at this;exact this
theorem Hc (v:List Nd) (u:Int) : ∀ (f:Nat) (x:Int),Db v u f x=Da (tys v) u f x
 | 0,x=>rfl
 | f+1,x=>by
  rw [Db,Da,EL]
  by_cases a:x<0
  ·rw [if_pos a,if_pos a]
  ·rw [if_neg a,if_neg a]
   by_cases b:x=u
   ·rw [if_pos b,b,beq_self_eq_true,Bool.true_or]
   ·rw [if_neg b,beq_false_of_ne b,Bool.false_or]
    cases upN v x.toNat with
    | none=>rfl
    | some w=>exact Hc v u f w
theorem N9 {v:List Nd} (h0:0<v.length):((range v.length).all (okN v)=true)↔(Ord (tys v)/\noN v 0=some 0):=by
 have hn0:=Ahm h0;have hl:=BL v;constructor
 ·intro h;have ok : ∀ i,i<v.length->okN v i=true:=fun i hi=>all_eq_true.1 h i (mem_range.2 hi)
  have z:=ok 0 h0;unfold okN at z;rw [gtE h0] at z;dsimp only at z;rw [if_pos rfl,anE,beq_iff_eq,beq_iff_eq] at z;refine ⟨⟨by rw [EL,I5 h0,z.1],fun i hp hi=>?_⟩,by rw [hn0,z.2]⟩;rw [hl] at hi;have o:=ok i hi;unfold okN at o;rw [gtE hi] at o;dsimp only at o;rw [if_neg (by omega),anE,anE,dcE] at o;obtain ⟨⟨o1,o2⟩,o3,o4⟩:=o;obtain ⟨u,hu⟩:=eq_ofNat_of_zero_le o1;rw [hu] at o2 o3 o4;have hul:u<v.length:=by omega
  refine ⟨u,by rw [EL,I5 hi,hu],by omega,?_,?_⟩
  ·rw [IX hul];unfold NF at o3;rw [ntN,gtE hul] at o3;exact o3
  ·rw [Hc,show (i:Int)-1=((i-1:Nat):Int) by omega] at o4;obtain ⟨y,e,ho⟩:=M1 _ _ _ _ o4;have:u=y:=by omega
   subst this;exact ho
 ·rintro ⟨H,hz⟩
  refine all_eq_true.2 fun i hi=>?_
  have hi:=mem_range.1 hi;unfold okN;rw [gtE hi];dsimp only;rcases Nat.eq_zero_or_pos i with rfl | hp
  ·have h1:=H.zero;rw [EL,I5 h0] at h1;rw [hn0] at hz;rw [if_pos rfl,Option.some.inj h1,Option.some.inj hz]; rfl
  ·obtain ⟨u,k1,k2,k3,k4⟩:=H.up i hp (by omega);have hul:u<v.length:=by omega
   rw [EL,I5 hi] at k1;have hm:NF v u=some v[u].2.2.2.2.1:=by unfold NF; rw [gtE hul]; rfl
   rw [IX hul] at k3;rw [if_neg (by omega),Option.some.inj k1,ntN,hm,k3,Hc,show (i:Int)-1=((i-1:Nat):Int) by omega,Q1 (i:=i) (fun j hj=>H.lt j (by omega)) k4 (by omega) i (by omega),dcT (show (0:Int)<=(u:Int)/\(u:Int)<(i:Int) by omega)];rfl




mutual
def A4:Rose AG->Int->Nat->List Nd
 | .node x ks,up,s=>(x.1,x.2.1,x.2.2.1,up,x.2.2.2.1,())::A8 ks s (s+1)
def A8:RVL->Nat->Nat->List Nd
 | [],_,_=>[]
 | z::ks,s,p=>A4 z s p++A8 ks s (p+(A4 z s p).length)
end
mutual
def vcR:Rose AG->Nat
 | .node _ ks=>vcL ks+1
def vcL:RVL->Nat
 | []=>0
 | z::l=>vcR z+vcL l
end
def GW (n:Nat):Gm
 | [.agg (Lv x0 x1 x2 x3 xs),.j up,.ref 0 0 m],[.row false _ NCd o]=>.need (decide (m=o.length/\o.length+vcL xs+1<=2000000/\vcL xs+1<=n)) (.leaf (.ref 1 0 (o++A4 (.node (x0,x1,x2,x3,()) xs) up o.length).length,[none,R0 NCd (o++A4 (.node (x0,x1,x2,x3,()) xs) up o.length)]))
 | _,_=>.no
def LY:Gm
 | [.agg (Lv x0 x1 x2 x3 xs),.j up,.ref 0 0 m],[.row false _ NCd o]=>.need (decide (m=o.length/\o.length+vcL xs+1<=2000000)) (.leaf (.ref 1 0 (o++A4 (.node (x0,x1,x2,x3,()) xs) up o.length).length,[none,R0 NCd (o++A4 (.node (x0,x1,x2,x3,()) xs) up o.length)]))
 | _,_=>.no
def Iq (n:Nat):LoopEnt:=⟨38,[2,7,26,27,28],[2],[],fun
 | ([.ref 1 0 m,.j s,.sl (.rose VCd) ks,.j k,.j i],[none,R0 NCd o])=>.need (decide (m=o.length/\0<=i/\i.toNat<=ks.length/\k=ks.length/\0<=s/\o.length+vcL (ks.drop i.toNat)<=2000000/\vcL ks<=n/\vcL ks<=2000000)) (.leaf (.exit 0,([.ref 1 0 (o++A8 (ks.drop i.toNat) s.toNat o.length).length],[none,R0 NCd (o++A8 (ks.drop i.toNat) s.toNat o.length)])))
 | _=>.no⟩
def T8:Gm
 | [.agg (Lv x0 x1 x2 x3 xs),.j up,.nl],[]=>.need (decide (vcL xs+1<=2000000)) (.leaf (.ref 0 0 (A4 (.node (x0,x1,x2,x3,()) xs) up 0).length,[R0 NCd (A4 (.node (x0,x1,x2,x3,()) xs) up 0)]))
 | _,_=>.no
def Fn:LoopEnt:=⟨38,[2,7,26,27,28],[2],[],fun
 | ([.ref 0 0 m,.j s,.sl (.rose VCd) ks,.j k,.j i],[R0 NCd o])=>.need (decide (m=o.length/\0<=i/\i.toNat<=ks.length/\k=ks.length/\0<=s/\o.length+vcL (ks.drop i.toNat)<=2000000/\vcL ks<=2000000)) (.leaf (.exit 0,([.ref 0 0 (o++A8 (ks.drop i.toNat) s.toNat o.length).length],[R0 NCd (o++A8 (ks.drop i.toNat) s.toNat o.length)])))
 | _=>.no⟩
def ofG:Gm
 | [.agg (Lv x0 x1 x2 x3 xs)],[]=>.need (decide (vcL xs+1<=2000000)) (.leaf (.agg [.ref 0 0 (A4 (.node (x0,x1,x2,x3,()) xs) (-1) 0).length],[R0 NCd (A4 (.node (x0,x1,x2,x3,()) xs) (-1) 0)]))
 | _,_=>.no
theorem LV (n m:Nat) (s:Int) (ks:RVL) (k i:Int) (o:List Nd):At prog (Aa [(204,.own (GW n))]) (Aa [(4,Iq n)]) 1 (body f204 0) (Iq n) ([.ref 1 0 m,.j s,.sl (.rose VCd) ks,.j k,.j i],[none,R0 NCd o]) =
 ((ifB (decide (i<k)) (ifT (decide (0<=i)&&decide (i<(↑ks.length:Int))) (Ak ks[i.toNat]? fun z=>ifT (decide (m=o.length/\o.length+vcL (Rose.kids z)+(1 :
 Nat)<=2000000/\vcL (Rose.kids z)+1<=n)) (some (Ex.normal,[V.ref 1 0 (o++A4 (Rose.node ((Rose.lab z).1,(Rose.lab z).2.1,(Rose.lab
 z).2.2.1,(Rose.lab z).2.2.2.1,()) (Rose.kids z)) s o.length).length,V.j s,V.sl VCd.rose ks,V.j k,V.j (i64.wrap (i+1))],
 [none,R0 NCd (o++A4 (Rose.node ((Rose.lab z).1,(Rose.lab z).2.1,(Rose.lab z).2.2.1,(Rose.lab z).2.2.2.1,()) (Rose.kids
 z)) s o.length)])))) (some (Ex.exit 0,[V.ref 1 0 m],[none,R0 NCd o]))):_):=by kernel_rfl
theorem WL (n:Nat) (x0:Int) (x1:By) (x2:Int) (x3:Bool) (xs:RVL) (m:Nat) (up:Int) (nl:Option Bool) (o:List Nd):CS prog (Aa [(204,.own (GW n))]) (Aa [(4,Iq n)]) f204 [.agg (Lv x0 x1 x2 x3 xs),.j up,.ref 0 0 m] [.row false nl NCd o] =
 ((ifT (decide ((m+1)*48<=140737488355328)&&decide (m+1<=maxI)) (ifT (decide (m+1=(take m (drop 0 o)
 ++ (x0,x1,x2,up,x3,())::Ag NCd.den).length/\(0:Int)<=(0:Int)/\0<=xs.length/\(↑xs.length:Int)=(↑xs.length:Int)/\0<=(↑m:Int)/\
 (take m (drop 0 o)++(x0,x1,x2,up,x3,())::Ag NCd.den).length+vcL (drop 0 xs)<=2000000/\vcL xs<=n/\vcL xs<=(2000000
 : Nat))) (some (V.ref 1 0 (take m (drop 0 o)++(x0,x1,x2,up,x3,())::Ag NCd.den++A8 (drop 0 xs) (↑m:Int).toNat (take m
 (drop 0 o)++(x0,x1,x2,up,x3,())::Ag NCd.den).length).length,[none,R0 NCd (take m (drop 0 o)++(x0,x1,
 x2,up,x3,())::Ag NCd.den++A8 (drop 0 xs) (↑m:Int).toNat (take m (drop 0 o)++(x0,x1,x2,up,x3,())::Ag
 NCd.den).length)])))):_):=by kernel_rfl
mutual
theorem C0 : ∀ (z:Rose AG) (up:Int) (s:Nat),(A4 z up s).length=vcR z
 | .node x ks,up,s=>by
  rw [A4,vcR,length_cons,Oj ks s (s+1)]
theorem Oj : ∀ (ks:RVL) (s p:Nat),(A8 ks s p).length=vcL ks
 | [],_,_=>by rw [A8,vcL]; rfl
 | z::ks,s,p=>by rw [A8,vcL,length_append,C0 z s p,Oj ks s]
end
theorem FB : ∀ (l:RVL),l.length<=vcL l
 | []=>le_refl _
 | z::l=>by
  have:=FB l;have:1<=vcR z:=by cases z; rw [vcR]; omega
  rw [vcL,length_cons]; omega
theorem K8 {z:Rose AG} : ∀ {l:RVL},z∈l->vcR z<=vcL l
 | [],h=>by cases h
 | y::l,h=>by
  rw [vcL];rcases mem_cons.1 h with rfl | h
  ·omega
  ·have:=K8 h; omega
theorem G0 (z:Rose AG):vcR z=vcL z.kids+1:=by cases z; rw [vcR]; rfl
theorem Oh (n s:Nat) (ks:RVL) (h1:vcL ks<=n) (h2:vcL ks<=2000000) : ∀ (j i:Nat) (o:List Nd),i+j=ks.length->o.length+vcL (ks.drop i)<=2000000->
  Runs prog (Aa [(204,.own (GW n))]) (Aa [(4,Iq n)]) 1 (body f204 0) (Iq n) ([.ref 1 0 o.length,.j (s:Int),.sl (.rose VCd) ks,.j (ks.length:Int),.j (i:Int)],[none,R0 NCd o]) (.exit 0) ([.ref 1 0 (o++A8 (ks.drop i) s o.length).length],[none,R0 NCd (o++A8 (ks.drop i) s o.length)])
 | 0,i,o,hi,ho=>by
  have hr:=LV n o.length s ks ks.length i o;rw [Ac (dcF (by omega))] at hr;rw [drop_eq_nil_of_le (by omega),A8,append_nil];exact stp hr
 | j+1,i,o,hi,ho=>by
  have hl:i<ks.length:=by omega
  have hM:=mxI;have hlen:=FB ks;have hmem:=K8 (getElem_mem hl);have hck:=G0 ks[i];have hr:=LV n o.length s ks ks.length i o;rw [drop_eq_getElem_cons hl,vcL] at ho;rw [Ae (dcT (by omega)),T2 (by omega),ntN,gtE hl,Ai,Ap (n:=i) (by omega),Cf,Ab (dcT ⟨rfl,by omega,by omega⟩)] at hr;rw [drop_eq_getElem_cons hl,A8];have hk:=C0 ks[i] s o.length;have ih:=Oh n s ks h1 h2 j (i+1) (o++A4 ks[i] s o.length) (by omega) (by rw [length_append]; omega);rw [length_append,append_assoc] at ih;rw [length_append] at hr;exact sts hr ih
theorem Aeq (n:Nat):As prog (Aa [(204,.own (GW n))]) (Aa [(4,Iq n)]) 1 (f204.body.getD .skip):=by
 refine Am (a:=body f204 0) (by kernel_rfl) fun d ex d' h=>?_
 unfold Iq at h;dsimp only at h;split at h
 ·rename_i m s ks k i o;obtain ⟨hc,hx⟩:=Ad h;clear h;obtain ⟨rfl,h0,h1,rfl,h3,h4,h5,h6⟩:=of_decide_eq_true hc;obtain ⟨i,rfl⟩:=eq_ofNat_of_zero_le h0;obtain ⟨s,rfl⟩:=eq_ofNat_of_zero_le h3;simp only [ntN] at h1 h4 hx;obtain ⟨rfl,rfl⟩:=lfP hx;exact Oh n s ks h5 h6 (ks.length-i) i o (by omega) h4
 ·cases h
theorem LX (x0:Int) (x1:By) (x2:Int) (x3:Bool) (xs:RVL) (up:Int) (s:Nat):A4 (.node (x0,x1,x2,x3,()) xs) up s=(x0,x1,x2,up,x3,())::A8 xs s (s+1):=by rw [A4]
theorem Aad (n:Nat) (x0:Int) (x1:By) (x2:Int) (x3:Bool) (xs:RVL) (m:Nat) (up:Int) (nl:Option Bool) (o:List Nd) (hc:m=o.length/\o.length+vcL xs+1<=2000000/\vcL xs+1<=n+1):CS prog (Aa [(204,.own (GW n))]) (Aa [(4,Iq n)]) f204 [.agg (Lv x0 x1 x2 x3 xs),.j up,.ref 0 0 m] [.row false nl NCd o]=some (.ref 1 0 (o++A4 (.node (x0,x1,x2,x3,()) xs) up o.length).length,[none,R0 NCd (o++A4 (.node (x0,x1,x2,x3,()) xs) up o.length)]):=by
 rw [WL];obtain ⟨rfl,h2,h3⟩:=hc;have hM:=mxI;have hlen:=FB xs;rw [show drop 0 o=o from rfl,show drop 0 xs=xs from rfl,take_length,ntN,LX];rw [T2 (by omega)];rw [Ab (dcT ⟨by simp [AX],by omega,by omega,rfl,by omega,by simp [AX]; omega,by omega,by omega⟩)];simp [AX]
theorem Aae : ∀ n,(∀ m,m<n->Af prog 204 (Ent.own (GW m)).F)->Af prog 204 (Ent.own (GW n)).F
 | 0,_=>AW fun vs bs=>by
  unfold Ent.F GW;dsimp only;split
  ·rename_i x0 x1 x2 x3 xs up m x o;have:decide (m=o.length/\o.length+vcL xs+1<=2000000/\vcL xs+1<=0)=false:=dcF (by omega);rw [this]; rfl
  ·rfl
 | n+1,ih=>by
  refine fcN (kc func204 (ih n (Nat.lt_succ_self n)) KnowsL.nil).knows (Λ:=(Aa [(4,Iq n)])) func204 fun vs bs r hq=>?_
  unfold Ent.F GW at hq;dsimp only at hq;split at hq
  ·rename_i x0 x1 x2 x3 xs up m nl o;obtain ⟨hc,hx⟩:=Ad hq;exact ⟨Aeq n,(Aad n x0 x1 x2 x3 xs m up nl o (of_decide_eq_true hc)).trans hx⟩
  ·cases hq
theorem Ah1:Af prog 204 (Ent.own LY).F:=by
 refine Bd (F:=fun n=>(Ent.own (GW n)).F) Aae fun vs bs r h=>?_
 unfold Ent.F LY at h;dsimp only at h;split at h
 ·rename_i x0 x1 x2 x3 xs up m nl o;obtain ⟨hc,hx⟩:=Ad h;refine ⟨vcL xs+1,?_⟩;show (Br.need (decide (m=o.length/\o.length+vcL xs+1<=2000000/\vcL xs+1<=vcL xs+1)) (.leaf (.ref 1 0 (o++A4 (.node (x0,x1,x2,x3,()) xs) up o.length).length,[none,R0 NCd (o++A4 (.node (x0,x1,x2,x3,()) xs) up o.length)]))).run=some r;obtain ⟨h1,h2⟩:=of_decide_eq_true hc;have:decide (m=o.length/\o.length+vcL xs+1<=2000000/\vcL xs+1<=vcL xs+1)=true:=dcT ⟨h1,h2,le_refl _⟩;rw [this];exact hx
 ·cases h
theorem JL (m:Nat) (s:Int) (ks:RVL) (k i:Int) (o:List Nd):At prog (Aa [(204,.own LY)]) (Aa [(4,Fn)]) 0 (body f204 0) Fn ([.ref 0 0 m,.j s,.sl (.rose VCd) ks,.j k,.j i],[R0 NCd o]) =
 ((ifB (decide (i<k)) (ifT (decide (0<=i)&&decide (i<(↑ks.length:Int))) (Ak ks[i.toNat]? fun z=>ifT (decide (m=o.length/\o.length+vcL (Rose.kids z)+(1 :
 Nat)<=2000000)) (some (Ex.normal,[V.ref 0 0 (o++A4 (Rose.node ((Rose.lab z).1,(Rose.lab z).2.1,(Rose.lab z).2.2.1,(Rose.lab
 z).2.2.2.1,()) (Rose.kids z)) s o.length).length,V.j s,V.sl VCd.rose ks,V.j k,V.j (i64.wrap (i+1))],[R0 NCd
 (o++A4 (Rose.node ((Rose.lab z).1,(Rose.lab z).2.1,(Rose.lab z).2.2.1,(Rose.lab z).2.2.2.1,()) (Rose.kids z)) s o.length)])))) (some
 (Ex.exit 0,[V.ref 0 0 m],[R0 NCd o]))):_):=by kernel_rfl
theorem T7 (x0:Int) (x1:By) (x2:Int) (x3:Bool) (xs:RVL) (up:Int):CS prog (Aa [(204,.own LY)]) (Aa [(4,Fn)]) f204 [.agg (Lv x0 x1 x2 x3 xs),.j up,.nl] [] =
 ((ifT (decide (1=1/\(0:Int)<=(0:Int)/\0<=xs.length/\(↑xs.length:Int)=(↑xs.length:Int)/\(0:Int)<=(0:Int)/\1+vcL
 (drop 0 xs)<=2000000/\vcL xs<=2000000)) (some (V.ref 0 0 ((x0,x1,x2,up,x3,())::Ag NCd.den++A8 (drop 0 xs) (0 :
 Nat) 1).length,[R0 NCd ((x0,x1,x2,up,x3,())::Ag NCd.den++A8 (drop 0 xs) 0 1)]))):_):=by kernel_rfl
theorem LZ (s:Nat) (ks:RVL) (h2:vcL ks<=2000000) : ∀ (j i:Nat) (o:List Nd),i+j=ks.length->o.length+vcL (ks.drop i)<=2000000->
  Runs prog (Aa [(204,.own LY)]) (Aa [(4,Fn)]) 0 (body f204 0) Fn ([.ref 0 0 o.length,.j (s:Int),.sl (.rose VCd) ks,.j (ks.length:Int),.j (i:Int)],[R0 NCd o]) (.exit 0) ([.ref 0 0 (o++A8 (ks.drop i) s o.length).length],[R0 NCd (o++A8 (ks.drop i) s o.length)])
 | 0,i,o,hi,ho=>by
  have hr:=JL o.length s ks ks.length i o;rw [Ac (dcF (by omega))] at hr;rw [drop_eq_nil_of_le (by omega),A8,append_nil];exact stp hr
 | j+1,i,o,hi,ho=>by
  have hl:i<ks.length:=by omega
  have hM:=mxI;have hlen:=FB ks;have hmem:=K8 (getElem_mem hl);have hck:=G0 ks[i];have hr:=JL o.length s ks ks.length i o;rw [drop_eq_getElem_cons hl,vcL] at ho;rw [Ae (dcT (by omega)),T2 (by omega),ntN,gtE hl,Ai,Ap (n:=i) (by omega),Cf,Ab (dcT ⟨rfl,by omega⟩)] at hr;rw [drop_eq_getElem_cons hl,A8];have hk:=C0 ks[i] s o.length;have ih:=LZ s ks h2 j (i+1) (o++A4 ks[i] s o.length) (by omega) (by rw [length_append]; omega);rw [length_append,append_assoc] at ih;rw [length_append] at hr;exact sts hr ih
theorem Aaf:As prog (Aa [(204,.own LY)]) (Aa [(4,Fn)]) 0 (f204.body.getD .skip):=by
 refine Am (a:=body f204 0) (by kernel_rfl) fun d ex d' h=>?_
 unfold Fn at h;dsimp only at h;split at h
 ·rename_i m s ks k i o;obtain ⟨hc,hx⟩:=Ad h;clear h;obtain ⟨rfl,h0,h1,rfl,h3,h4,h6⟩:=of_decide_eq_true hc;obtain ⟨i,rfl⟩:=eq_ofNat_of_zero_le h0;obtain ⟨s,rfl⟩:=eq_ofNat_of_zero_le h3;simp only [ntN] at h1 h4 hx;obtain ⟨rfl,rfl⟩:=lfP hx;exact LZ s ks h6 (ks.length-i) i o (by omega) h4
 ·cases h
theorem Adf (x0:Int) (x1:By) (x2:Int) (x3:Bool) (xs:RVL):CS prog (Aa [(204,.own T8)]) (Aa []) f172 [.agg (Lv x0 x1 x2 x3 xs)] [] =
 ((ifT (decide (vcL xs+1<=2000000)) (some (V.agg [V.ref 0 0 (A4 (Rose.node (x0,x1,x2,x3,()) xs) (-1:Int) 0).length],[R0 NCd (A4 (Rose.node (x0,x1,x2,x3,()) xs) (-1:Int) 0)]))):_):=by kernel_rfl

theorem WM (x0:Int) (x1:By) (x2:Int) (x3:Bool) (xs:RVL) (up:Int) (hc:vcL xs+1<=2000000):CS prog (Aa [(204,.own LY)]) (Aa [(4,Fn)]) f204 [.agg (Lv x0 x1 x2 x3 xs),.j up,.nl] []=some (.ref 0 0 (A4 (.node (x0,x1,x2,x3,()) xs) up 0).length,[R0 NCd (A4 (.node (x0,x1,x2,x3,()) xs) up 0)]):=by
 rw [T7];have hM:=mxI;have hlen:=FB xs;rw [show drop 0 xs=xs from rfl,LX];rw [Ab (dcT (by refine ⟨by trivial,by omega,by omega,by trivial,by omega,by omega,by omega⟩))];simp [AX]
theorem Ala:Af prog 204 (Ent.own T8).F:=by
 refine fcN (kc func204 Ah1 KnowsL.nil).knows (Λ:=(Aa [(4,Fn)])) func204 fun vs bs r hq=>?_
 unfold Ent.F T8 at hq;dsimp only at hq;split at hq
 ·rename_i x0 x1 x2 x3 xs up;obtain ⟨hc,hx⟩:=Ad hq;exact ⟨Aaf,(WM x0 x1 x2 x3 xs up (of_decide_eq_true hc)).trans hx⟩
 ·cases hq
theorem Alt:Af prog 172 (Ent.rd1 ofG).F:=by
 refine fcN (kc func204 Ala KnowsL.nil).knows (Λ:=Aa []) func172 fun vs bs r hq=>?_
 unfold Ent.F ofG at hq;dsimp only at hq;split at hq
 ·rename_i x0 x1 x2 x3 xs;obtain ⟨hc,hx⟩:=Ad hq;refine ⟨Ah _,Eq.trans ?_ hx⟩;rw [Adf,Ab hc];rfl
 ·cases hq




def kpC:Gm
 | [.tp LCd z 0,.bx [.j x] 0],[]=>.leaf (.b (z.lab.2.2.1==x),[])
 | _,_=>.no
def kpE  : LoopEnt:=⟨19,[0,1,4,7,8],[],[4],fun
 | ([.sl (.tree LCd) l,.fn 200 [] [.ptr 0 0],.j r,.j k,.j i],[some (.box [.j x])])=>
  .need (decide (0<=i/\i.toNat<=l.length/\l.length<=maxI/\k=l.length)) (.br (decide (Aq (fun z:Rose Lab=>z.lab.2.2.1==x) i.toNat (l.drop i.toNat)<0)) (.leaf (.exit 0,([],[some (.box [.j x])]))) (.leaf (.ret,([.j (Aq (fun z:Rose Lab=>z.lab.2.2.1==x) i.toNat (l.drop i.toNat))],[some (.box [.j x])]))))
 | _=>.no⟩
def Ah8  : Gm
 | [.sl (.tree LCd) l,.fn 200 [] [.ptr 0 0]],[.box [.j x]]=>.leaf (.j (Aq (fun z:Rose Lab=>z.lab.2.2.1==x) 0 l),[some (.box [.j x])])
 | _,_=>.no
def Px:Gm
 | [.tp LCd z 0,.j x],[]=>.need (decide (z.kids.length<=maxI)) (.br (AY x z.kids) (.leaf (.tp LCd (byR x z.kids) 0,[])) (.leaf (.np,[])))
 | _,_=>.no
theorem Ad2:Af prog 200 (Ent.rd1 kpC).F:=by
 refine fcK KnowsL.nil.knows (Λ:=Aa []) func200 fun vs bs r hq=>?_
 unfold Ent.F kpC at hq;dsimp only at hq;split at hq
 ·rename_i z x;refine ⟨Ah _,Eq.trans ?_ hq⟩;have e:Aw prog (Aa []) (Aa []) f200 [.tp LCd z 0,.bx [.j x] 0] []=((some (V.b (z.lab.2.2.1==x),[])):_):=by kernel_rfl
  rw [e];rfl
 ·cases hq
theorem QW  (x:Int) (l:RL) (r k i:Int):At prog (Aa [(200,.rd1 kpC)]) (Aa [(2,kpE)]) 1 (body f199 0) kpE ([.sl (.tree LCd) l,.fn 200 [] [.ptr 0 0],.j r,.j k,.j i],[some (.box [.j x])]) =
 ((ifB (decide (i<k)) (ifT (decide (0<=i)&&decide (i<(↑l.length:Int))) (Ak l[i.toNat]? fun z=>ifB ((Rose.lab z).2.2.1==x) (some (Ex.ret,[V.j i],
 [some (Blk.box [V.j x])])) (some (Ex.normal,[V.sl LCd.tree l,V.fn 200 [] [V.ptr 0 0],V.j r,V.j k,V.j (i64.wrap (i +
 1))],[some (Blk.box [V.j x])])))) (some (Ex.exit 0,[],[some (Blk.box [V.j x])]))):_):=by kernel_rfl
theorem UI  (x:Int) {l:RL} {r:Int} (hx:l.length<=maxI) : ∀ (j i:Nat),i+j=l.length->∀ e d',(.br (decide (Aq (fun z:Rose Lab=>z.lab.2.2.1==x) i (l.drop i)<0)) (.leaf (.exit 0,([],[some (.box [.j x])]))) (.leaf (.ret,([.j (Aq (fun z:Rose Lab=>z.lab.2.2.1==x) i (l.drop i))],[some (.box [.j x])]))):Br (Ex×Dt)).run=some (e,d')->
  Runs prog (Aa [(200,.rd1 kpC)]) (Aa [(2,kpE)]) 1 (body f199 0) kpE ([.sl (.tree LCd) l,.fn 200 [] [.ptr 0 0],.j r,.j (l.length:Int),.j (i:Int)],[some (.box [.j x])]) e d'
 | 0,i,hi,e,d',h=>by
  have e1:l.drop i=[]:=drop_eq_nil_of_le (by omega);rw [e1,Bz,Aq,if_pos (by omega)] at h;cases h;have hr:=QW x l r l.length i;rw [Ac (dcF (by omega))] at hr;exact stp hr
 | j+1,i,hi,e,d',h=>by
  have h1:i<l.length:=by omega
  have hr:=QW x l r l.length i;rw [Ae (dcT (by omega)),T2 (by omega)] at hr;simp only [ntN,gtE h1,Ai,Ap (n:=i) (by omega)] at hr;rw [drop_eq_getElem_cons h1,Bz,Aq] at h
  by_cases he:(fun z:Rose Lab=>z.lab.2.2.1==x) l[i]=true
  ·rw [if_pos he,if_neg (by omega)] at h;cases h;rw [Ae he] at hr;exact stp hr
  ·rw [if_neg he] at h;rw [Ac (by simpa using he)] at hr;exact sts hr (UI x hx j (i+1) (by omega) e d' (by rw [Bz]; exact h))
theorem Akk  : As prog (Aa [(200,.rd1 kpC)]) (Aa [(2,kpE)]) 1 (f199.body.getD .skip):=by
 refine Am (a:=body f199 0) (by kernel_rfl) fun d e d' h=>?_
 unfold kpE at h;dsimp only at h;split at h
 ·obtain ⟨hc,h'⟩:=Ad h;obtain ⟨h0,h1,h2,rfl⟩:=of_decide_eq_true hc;obtain ⟨i,rfl⟩:=eq_ofNat_of_zero_le h0;exact UI _  h2 _ i (Nat.add_sub_of_le h1) e d' h'
 ·cases h
theorem Aia  (x:Int) (l:RL) (hx:l.length<=maxI):Aw prog (Aa [(200,.rd1 kpC)]) (Aa [(2,kpE)]) f199 [.sl (.tree LCd) l,.fn 200 [] [.ptr 0 0]] [.box [.j x]]=some (.j (Aq (fun z:Rose Lab=>z.lab.2.2.1==x) 0 l),[some (.box [.j x])]):=by
 have e:Aw prog (Aa [(200,.rd1 kpC)]) (Aa [(2,kpE)]) f199 [.sl (.tree LCd) l,.fn 200 [] [.ptr 0 0]] [.box [.j x]] =
  ((ifT (decide ((0:Int)<=(0:Int)/\0<=l.length/\l.length<=maxI/\(↑l.length:Int)=(↑l.length:Int))) (ifB (decide (Aq (fun z=>z.lab.2.2.1==
 x) 0 (drop 0 l)<(0:Int))) (some (V.j (-1),[some (Blk.box [V.j x])])) (some (V.j (Aq (fun z=>z.lab.2.2.1==x) (0 :
 Nat) (drop 0 l)),[some (Blk.box [V.j x])])))):_):=by kernel_rfl
 rw [e,Ab (dcT ⟨by omega,by omega,hx,rfl⟩)];simp only [Int.toNat_zero,drop_zero]
 by_cases q:Aq (fun z:Rose Lab=>z.lab.2.2.1==x) 0 l<0
 ·rw [Ae (dcT q),Ci _ _ _ q]
 ·rw [Ac (dcF q)]
theorem Ah9  : Af prog 199 (Ent.own Ah8).F:=by
 refine AB (kc func200 Ad2 KnowsL.nil).knows (Λ:=(Aa [(2,kpE)])) func199 (c:=f199.body.getD .skip) (by kernel_rfl) fun vs bs r h hv hb=>?_
 unfold Ent.F Ah8 at h;dsimp only at h;split at h
 ·rename_i l x;have h':=h;exact ⟨Akk ,(Aia x l (hv (.sl (.tree LCd) l) (by simp)).1).trans (by cases h'; rfl)⟩
 ·cases h
theorem Th (z:Rose Lab) (x:Int):Aw prog (Aa [(199,.own Ah8)]) (Aa []) f166 [.tp LCd z 0,.j x] [] =
 ((ifB (decide (Aq (fun z=>z.lab.2.2.1==x) 0 z.kids<(0:Int))) (some (V.np,[])) (ifT (decide ((0:Int)<=Aq (fun z=>z.lab.2.2.1==x)
 0 z.kids)&&decide (Aq (fun z=>z.lab.2.2.1==x) 0 z.kids<(↑z.kids.length:Int))) (Ak z.kids[(Aq (fun z=>z.lab.2.2.1==x)
 0 z.kids).toNat]? fun z=>some (V.tp LCd z 0,[])))):_):=by kernel_rfl
theorem RF {x:Int} : ∀ {l:RL} {y:Rose Lab},l.find? (fun z=>z.lab.2.2.1==x)=some y->AY x l=true/\byR x l=y
 | [],y,h=>by cases h
 | z::l,y,h=>by
  by_cases q:z.lab.2.2.1=x
  ·have hb:(z.lab.2.2.1==x)=true:=by rw [q]; exact beq_self_eq_true _
   rw [List.find?_cons_of_pos (p:=fun z:Rose Lab=>z.lab.2.2.1==x) hb] at h;refine ⟨E7.2 ⟨z,by simp,q⟩,?_⟩;rw [byR,if_pos q];exact Option.some.inj h
  ·have hb : ¬(z.lab.2.2.1==x)=true:=by rw [beq_false_of_ne q]; simp
   rw [List.find?_cons_of_neg (p:=fun z:Rose Lab=>z.lab.2.2.1==x) hb] at h;obtain ⟨h1,h2⟩:=RF h;have hne:=DZ (ks:=l) (z:=z) (n:=x) (Ne.symm q);rw [hne.1,hne.2];exact ⟨h1,h2⟩
theorem Af7:Af prog 166 (Ent.rd1 Px).F:=by
 refine fcK (kc func199 Ah9 KnowsL.nil).knows (Λ:=Aa []) func166 fun vs bs r hq=>?_
 unfold Ent.F Px at hq;dsimp only at hq;split at hq
 ·rename_i z x;obtain ⟨hc,hx⟩:=Ad hq;refine ⟨Ah _,Eq.trans ?_ hx⟩;rw [Th];have ha:=Fo (fun z:Rose Lab=>z.lab.2.2.1==x) z.kids 0;have hhas:AY x z.kids=z.kids.any (fun z:Rose Lab=>z.lab.2.2.1==x):=rfl
  by_cases q:Aq (fun z:Rose Lab=>z.lab.2.2.1==x) 0 z.kids<0
  ·rw [Ae (dcT q),hhas,<-ha,dcF (by omega)];rfl
  ·obtain ⟨i,h1,h2,h3,h4⟩:=Dn (fun z:Rose Lab=>z.lab.2.2.1==x) z.kids 0 (by omega);obtain ⟨h5,h6⟩:=RF h4;rw [Ac (dcF q),h2,zero_add,T2 (by omega),ntN,gtE h1,Ai,h5,h6];rfl
 ·cases hq



mutual
theorem XA : ∀ z:Rose Lab,vcR (cv z)=Ao z
 | .node x ks=>by rw [cv,vcR,Ao,X9 ks]
theorem X9 : ∀ l:RL,vcL (cvs l)=Ar l
 | []=>by rw [cvs,vcL,Ar]
 | z::l=>by rw [cvs,vcL,Ar,XA z,X9 l]
end
def F8 (v:List Nd) (s t:Nat):List Nd:=(v.drop s).take (t-s)
theorem Vb {v:List Nd} {s t u:Nat} (h1:s<=t) (h2:t<=u):F8 v s t++F8 v t u=F8 v s u:=by
 unfold F8;have e:v.drop t=(v.drop s).drop (t-s):=by rw [List.drop_drop]; congr 1; omega
 rw [e,show u-s=(t-s)+(u-t) by omega,List.take_add]
theorem Ae6 {v:List Nd} {a:Nat} (h:a<v.length):F8 v a (a+1)=[v[a]]:=by
 unfold F8;rw [drop_eq_getElem_cons h,show a+1-a=1 by omega]; rfl
theorem R7 {v:List Nd} {s t:Nat} (h:t<=v.length):(F8 v s t).length=t-s:=by
 unfold F8;rw [List.length_take,length_drop]; omega
theorem LW {v:List Nd} {a:Nat} (IH : ∀ e,a<e->∀ h:e<v.length,A4 (cv (kf (tys v) e).1) v[e].2.2.2.1 e=F8 v e (kf (tys v) e).2) : ∀ n e,a<e->e<=v.length->A8 (cvs (AI (kf (tys v)) (tys v) a n e []).1) a e=F8 v e (AI (kf (tys v)) (tys v) a n e []).2
 | 0,e,_,_=>by
  rw [AI,cvs,A8];unfold F8;simp
 | n+1,e,he,hl=>by
  rw [AI]
  by_cases hu:AT (tys v) e=some (a:Int)
  ·have h1:=Ada (Ahe.2 hu);have hb:=CI (tys v) e (by rw [BL]; exact h1);rw [BL] at hb;have hup:v[e].2.2.2.1=(a:Int):=by rw [EL,I5 h1] at hu; exact Option.some.inj hu
   have ih:=IH e he h1;rw [hup] at ih;have ih2:=LW IH n (kf (tys v) e).2 (by omega) hb.2;have hk:=G2 (a:=a) (CI (tys v)) n (kf (tys v) e).2 [] (by rw [BL]; exact hb.2);rw [if_pos hu,G3];dsimp only;rw [nil_append,List.singleton_append,cvs,A8,ih,R7 hb.2,show e+((kf (tys v) e).2-e)=(kf (tys v) e).2 by omega,ih2];exact Vb (by omega) hk.1
  ·rw [if_neg hu,cvs,A8];unfold F8;simp
theorem UQ {v:List Nd} : ∀ n a,v.length-a<=n->∀ h:a<v.length,A4 (cv (kf (tys v) a).1) v[a].2.2.2.1 a=F8 v a (kf (tys v) a).2
 | 0,a,h1,h2=>by omega
 | n+1,a,h1,h2=>by
  have IH : ∀ e,a<e->∀ h:e<v.length,A4 (cv (kf (tys v) e).1) v[e].2.2.2.1 e=F8 v e (kf (tys v) e).2:=fun e he h=>UQ n e (by omega) h
  have hb:=CI (tys v) a (by rw [BL]; exact h2);rw [Af8 h2] at hb ⊢;dsimp only at hb ⊢;rw [<-Vb (Nat.le_succ a) hb.1,Ae6 h2,cv,A4,Kv h2];unfold Ks;have hx : ∀ m,v[a].2.2.2.2.1=m->((v[a].1,v[a].2.1,v[a].2.2.1,v[a].2.2.2.1,m,()):Nd)=v[a]:=fun m hm=>by subst hm; rfl
  cases hm:v[a].2.2.2.2.1 with
  | false=>
   simp only [cond_false];rw [cvs,A8];have:F8 v (a+1) (a+1)=[]:=by unfold F8; simp
   show _=_++F8 v (a+1) (a+1);rw [this];exact congrArg (fun y:Nd=>[y]) (hx false hm)
  | true=>
   simp only [cond_true];rw [LW IH _ (a+1) (by omega) h2];exact congrArg (fun y:Nd=>y::F8 v (a+1) (AI (kf (tys v)) (tys v) a (tys v).length (a+1) []).2) (hx true hm)
def fkB (z:Rose Lab):Bool:=z.lab.1==1||z.lab.1==3
def A5 (z:Rose Lab) (n no:Int):Option (Rose AG):=if Cm n=true/\(z.lab.1=1\/(0<=n/\n<=z.lab.2.2.2.2.1)) then some (.node (n,[],no,false,()) []) else none
def BD (num:Bool) (N:Int->Option (Rose AG)) (D:By->Option (Rose AG)) (s:By):Nat->Nat->Option RVL
 | 0,a=>if a<s.length then none else some []
 | f+1,a=>if a<s.length then (match num with
  | true=>(match N (unf (A7 (Aj s a))) with
   | some v=>if BO (Aj s a)=true then (BD num N D s f (Az a (Aj s a)).toNat).map (v::·) else none
   | none=>none)
  | false=>(match (Ba s a).2.2 with
   | true=>(match D (Ba s a).1 with
    | some v=>(BD num N D s f (Ba s a).2.1.toNat).map (v::·)
    | none=>none)
   | false=>none)) else some []
mutual
def AS:Rose Lab->By->Int->Option (Rose AG)
 | .node x ks,s,no=>
  if x.1=2 then (if s.length<=30 then some (.node (0,s,no,false,()) []) else none)
  else if x.1=4 then (F6 ks s).map fun vs=>.node (0,[],no,true,()) vs
  else (match DT s with
   | some fs=>(Be ks fs).map fun vs=>.node (0,[],no,true,()) vs
   | none=>none)
def F6:RL->By->Option RVL
 | [],_=>none
 | z::_,s=>BD (fkB z) (fun n=>A5 z n 0) (fun d=>AS z d 0) s s.length 0
def Be:RL->List WFd->Option RVL
 | [],_=>some []
 | p::ks,fs=>match fs.find? fun f=>f.1==p.lab.2.2.1 with
  | none=>if p.lab.2.2.2.1=true then none else Be ks fs
  | some f=>if (f.2.1==0)=fkB p then (match (if (f.2.1==0)=true then A5 p f.2.2.1 p.lab.2.2.1 else AS p f.2.2.2.1 p.lab.2.2.1) with
   | some v=>(Be ks fs).map (v::·)
   | none=>none) else none
end
def Ix (p:Rose Lab) (f:WFd):Option (Rose AG):=if (f.2.1==0)=fkB p then (if (f.2.1==0)=true then A5 p f.2.2.1 f.1 else AS p f.2.2.2.1 f.1) else none
def Bq (ks:RL):List WFd->Option RVL
 | []=>some []
 | f::fs=>if AY f.1 ks=true then (match Ix (byR f.1 ks) f with
  | some v=>(Bq ks fs).map (v::·)
  | none=>none) else Bq ks fs
def Tl:Gm
 | [.tp LCd z 0],[]=>.leaf (.j (if fkB z=true then 0 else 2),[])
 | _,_=>.no
def O0:Gm
 | [.tp LCd z 0,.ref 0 0 m,.j n,.j no,.j up],[.row false nl NCd o]=>.need (decide (m=o.length/\o.length<=2000000)) (.leaf (.tup [.ref 1 0 (o.length+1),.b (A5 z n no).isSome],[none,R0 NCd (o++[(n,[],no,up,false,())])]))
 | _,_=>.no
def TS:Gm
 | [.agg [.j fo,.j fk,.j fn,.s fd,.j fr],.bx [.tp LCd p 0] 0],[]=>.leaf (.b (fo==p.lab.2.2.1),[])
 | _,_=>.no
def dfE  : LoopEnt:=⟨19,[0,1,4,7,8],[],[4],fun
 | ([.sl PCd l,.fn 182 [] [.ptr 0 0],.j r,.j k,.j i],[some (.box [.tp LCd p 0])])=>
  .need (decide (0<=i/\i.toNat<=l.length/\l.length<=maxI/\k=l.length)) (.br (decide (Aq (fun z:Pl=>z.1.1==p.lab.2.2.1) i.toNat (l.drop i.toNat)<0)) (.leaf (.exit 0,([],[some (.box [.tp LCd p 0])]))) (.leaf (.ret,([.j (Aq (fun z:Pl=>z.1.1==p.lab.2.2.1) i.toNat (l.drop i.toNat))],[some (.box [.tp LCd p 0])]))))
 | _=>.no⟩
def Xl  : Gm
 | [.sl PCd l,.fn 182 [] [.ptr 0 0]],[.box [.tp LCd p 0]]=>.leaf (.j (Aq (fun z:Pl=>z.1.1==p.lab.2.2.1) 0 l),[some (.box [.tp LCd p 0])])
 | _,_=>.no
theorem O3 {z:Rose Lab} {n no:Int} {v:Rose AG} (h:A5 z n no=some v):v.lab.2.2.1=no:=by
 unfold A5 at h;split at h
 ·cases h; rfl
 ·cases h
theorem PA {z:Rose Lab} {s:By} {no:Int} {v:Rose AG} (h:AS z s no=some v):v.lab.2.2.1=no:=by
 obtain ⟨x,ks⟩:=z;unfold AS at h;split at h
 ·split at h
  ·cases h; rfl
  ·cases h
 ·split at h
  ·obtain ⟨vs,_,rfl⟩:=map_eq_some_iff.1 h; rfl
  ·split at h
   ·obtain ⟨vs,_,rfl⟩:=map_eq_some_iff.1 h; rfl
   ·cases h
theorem K3 {p:Rose Lab} {f:WFd} {v:Rose AG} (h:Ix p f=some v):v.lab.2.2.1=f.1:=by
 unfold Ix at h;split at h
 ·split at h
  ·exact O3 h
  ·exact PA h
 ·cases h
theorem C3 (p:Rose Lab) (ks:RL) (fs:List WFd):Be (p::ks) fs=(match fs.find? fun f=>f.1==p.lab.2.2.1 with
  | none=>if p.lab.2.2.2.1=true then none else Be ks fs
  | some f=>(match Ix p f with
   | some v=>(Be ks fs).map (v::·)
   | none=>none)):=by
 rw [Be]
 cases hf:fs.find? (fun f=>f.1==p.lab.2.2.1) with
 | none=>rfl
 | some f=>
  have hfe:f.1=p.lab.2.2.1:=by simpa using List.find?_some hf
  unfold Ix;dsimp only;rw [<-hfe]
  by_cases q:(f.2.1==0)=fkB p
  ·rw [if_pos q,if_pos q]; all_goals rfl
  ·rw [if_neg q,if_neg q]
theorem Jf {f:WFd} {fs:List WFd} : ∀ {ks:RL},(∀ y∈ks,y.lab.2.2.1≠f.1)->Be ks (f::fs)=Be ks fs
 | [],_=>by rw [Be,Be]
 | p::ks,h=>by
  have hp : ¬(f.1==p.lab.2.2.1)=true:=by have:=h p (by simp); simpa using fun e=>this e.symm
  rw [C3,C3,List.find?_cons_of_neg (p:=fun f:WFd=>f.1==p.lab.2.2.1) hp,Jf (fun y hy=>h y (mem_cons_of_mem _ hy))]
theorem Jd {p:Rose Lab} {ks:RL} : ∀ {fs:List WFd},(∀ f∈fs,f.1≠p.lab.2.2.1)->Bq (p::ks) fs=Bq ks fs
 | [],_=>by rw [Bq,Bq]
 | f::fs,h=>by
  obtain ⟨e1,e2⟩:=DZ (z:=p) (ks:=ks) (h f (by simp));rw [Bq,Bq,e1,e2,Jd (fun g hg=>h g (mem_cons_of_mem _ hg))]
theorem Mq {ks:RL} : ∀ {fs:List WFd} {vs:RVL},Bq ks fs=some vs->∀ v∈vs,∃ f∈fs,v.lab.2.2.1=f.1
 | [],vs,h,v,hv=>by rw [Bq] at h; cases h; cases hv
 | f::fs,vs,h,v,hv=>by
  rw [Bq] at h;split at h
  ·split at h
   ·rename_i w hw;obtain ⟨us,h1,rfl⟩:=map_eq_some_iff.1 h;rcases mem_cons.1 hv with rfl | hv
    ·exact ⟨f,by simp,K3 hw⟩
    ·obtain ⟨g,h2,h3⟩:=Mq h1 v hv;exact ⟨g,mem_cons_of_mem _ h2,h3⟩
   ·cases h
  ·obtain ⟨g,h2,h3⟩:=Mq h v hv;exact ⟨g,mem_cons_of_mem _ h2,h3⟩
def Af1 (a b:WFd):Prop:=a.1<b.1
theorem Aa6 : ∀ (N:Nat) (ks:RL) (fs:List WFd),ks.length+fs.length<=N->ks.Pairwise KR->fs.Pairwise Af1->Be ks fs=(match Bq ks fs with | some vs=>if Bv vs ks=true then some vs else none | none=>none):=by
 intro N
 induction N with
 | zero=>
  intro ks fs hN _ _;obtain rfl:ks=[]:=List.eq_nil_of_length_eq_zero (by omega);obtain rfl:fs=[]:=List.eq_nil_of_length_eq_zero (by omega);rw [Be,Bq]; rfl
 | succ N ih=>
  intro ks fs hN hk hf
  cases fs with
  | nil=>
   have key : ∀ ks:RL,Be ks []=if Bv [] ks=true then some [] else none:=by
    intro ks
    induction ks with
    | nil=>rw [Be]; rfl
    | cons p ks ihk=>
     rw [C3,List.find?_nil,ihk];unfold Bv;rw [all_cons];cases p.lab.2.2.2.1<;>simp [CX]
   rw [key,Bq]
  | cons f fs=>
   cases ks with
   | nil=>
    have : ∀ fs:List WFd,Bq [] fs=some []:=by
     intro fs
     induction fs with
     | nil=>rw [Bq]
     | cons g fs ihf=>rw [Bq,ihf]; rfl
    rw [Be,this]; rfl
   | cons p ks=>
    have hk2:=pairwise_cons.1 hk;have hf2:=pairwise_cons.1 hf;simp only [length_cons] at hN;have fgt : ∀ g∈fs,f.1<g.1:=fun g hg=>hf2.1 g hg
    have kgt : ∀ y∈ks,p.lab.2.2.1<y.lab.2.2.1:=fun y hy=>hk2.1 y hy
    rcases Int.lt_trichotomy f.1 p.lab.2.2.1 with h | h | h
    ·have e1 : ∀ y∈p::ks,y.lab.2.2.1≠f.1:=fun y hy=>by
      rcases mem_cons.1 hy with rfl | hy
      ·omega
      ·have:=kgt y hy; omega
     have e2:AY f.1 (p::ks)=false:=by
      cases e:AY f.1 (p::ks) with
      | false=>rfl
      | true=>obtain ⟨y,hy,hy2⟩:=E7.1 e; exact absurd hy2 (e1 y hy)
     rw [Jf e1,Bq,e2,ih (p::ks) fs (by simp only [length_cons]; omega) hk hf2.2];rfl
    ·have e1 : ∀ y∈ks,y.lab.2.2.1≠f.1:=fun y hy=>by have:=kgt y hy; omega
     have e2:AY f.1 (p::ks)=true:=E7.2 ⟨p,by simp,h.symm⟩;have e3:byR f.1 (p::ks)=p:=by rw [byR,if_pos h.symm]
     have e4 : ∀ g∈fs,g.1≠p.lab.2.2.1:=fun g hg=>by have:=fgt g hg; omega
     rw [C3,List.find?_cons_of_pos (p:=fun f:WFd=>f.1==p.lab.2.2.1) (by simpa using h),Bq,if_pos e2,e3,Jf e1,Jd e4];dsimp only
     cases hd:Ix p f with
     | none=>rfl
     | some v=>
      dsimp only;rw [ih ks fs (by omega) hk2.2 hf2.2];have hv:=K3 hd
      cases hs:Bq ks fs with
      | none=>rfl
      | some vs=>
       have em:Bv (v::vs) (p::ks)=Bv vs ks:=by
        unfold Bv;rw [all_cons];have e5:CX p.lab.2.2.1 (v::vs)=true:=by unfold CX; rw [any_cons,hv,h]; simp
        rw [e5,Bool.or_true,Bool.true_and,Bool.eq_iff_iff,all_eq_true,all_eq_true];refine forall_congr' fun y=>forall_congr' fun hy=>?_
        have e6:CX y.lab.2.2.1 (v::vs)=CX y.lab.2.2.1 vs:=by
         unfold CX;rw [any_cons,hv,show (f.1==y.lab.2.2.1)=false from beq_eq_false_iff_ne.2 (e1 y hy).symm,Bool.false_or]
        rw [e6]
       dsimp only [Option.map];rw [em]
       by_cases hm:Bv vs ks=true
       ·rw [if_pos hm,if_pos hm]
       ·rw [if_neg hm,if_neg hm]
    ·have e4 : ∀ g∈f::fs,g.1≠p.lab.2.2.1:=fun g hg=>by
      rcases mem_cons.1 hg with rfl | hg
      ·omega
      ·have:=fgt g hg; omega
     have e5:(f::fs).find? (fun f=>f.1==p.lab.2.2.1)=none:=List.find?_eq_none.2 fun g hg=>by simpa using e4 g hg
     rw [C3,e5,Jd e4];dsimp only;rw [ih ks (f::fs) (by simp only [length_cons]; omega) hk2.2 hf]
     cases hs:Bq ks (f::fs) with
     | none=>simp
     | some vs=>
      dsimp only
      have em:Bv vs (p::ks)=(!p.lab.2.2.2.1&&Bv vs ks):=by
       unfold Bv;rw [all_cons]
       have:CX p.lab.2.2.1 vs=false:=by
        cases e:CX p.lab.2.2.1 vs with
        | false=>rfl
        | true=>
         unfold CX at e;obtain ⟨v,hv,hv2⟩:=any_eq_true.1 e;obtain ⟨g,hg,hg2⟩:=Mq hs v hv;have:=e4 g hg;have hv2:v.lab.2.2.1=p.lab.2.2.1:=by simpa using hv2
         omega
       rw [this,Bool.or_false]
      rw [em];cases p.lab.2.2.2.1<;>simp
theorem Ad4 (z:Rose Lab):Aw prog (Aa []) (Aa []) f183 [.tp LCd z 0] []=some (.j (if fkB z=true then 0 else 2),[]):=by
 have e:Aw prog (Aa []) (Aa []) f183 [.tp LCd z 0] []=((ifB (z.lab.1==(1:Int)) (some (V.j 0,[])) (ifB (z.lab.1==(3:Int)) (some (V.j 0,[])) (some (V.j 2,[])))):_):=by kernel_rfl
 rw [e];clear e;unfold fkB;cases z.lab.1==1<;>cases z.lab.1==3<;>rfl
theorem kfk:Af prog 183 (Ent.rd1 Tl).F:=by
 refine fcK KnowsL.nil.knows (Λ:=Aa []) func183 fun vs bs r' hq=>?_
 unfold Ent.F Tl at hq;dsimp only at hq;split at hq
 ·exact ⟨Ah _,(Ad4 _ ).trans hq⟩
 ·cases hq
theorem Xj (z:Rose Lab) (m:Nat) (n no up:Int) (nl:Option Bool) (o:List Nd):BI prog (Aa [(218,.rd1 EZ),(125,.rd1 A0)]) (Aa []) f184 [.tp LCd z 0,.ref 0 0 m,.j n,.j no,.j up] [.row false nl NCd o] =
 ((ifT (decide ((m+1)*48<=140737488355328)&&decide (m+1<=maxI)) (ifB (Cm n) (ifB (z.lab.1==(1:Int)) (some (V.tup [V.ref 1 0
 (m+1),V.b true],[none,R0 NCd (take m (drop 0 o)++(n,Ag UInt8,no,up,false,())::Ag NCd.den)])) (some
 (V.tup [V.ref 1 0 (m+1),V.b (decide (0<=n/\n<=z.lab.2.2.2.2.1))],[none,R0 NCd (take m (drop 0 o)++(n,
 Ag UInt8,no,up,false,())::Ag NCd.den)]))) (some (V.tup [V.ref 1 0 (m+1),V.b false],[none,R0 NCd (take m (drop (0 :
 Nat) o)++(n,Ag UInt8,no,up,false,())::Ag NCd.den)])))):_):=by kernel_rfl
theorem Aay (z:Rose Lab) (m:Nat) (n no up:Int) (nl:Option Bool) (o:List Nd) (hc:m=o.length/\o.length<=2000000):BI prog (Aa [(218,.rd1 EZ),(125,.rd1 A0)]) (Aa []) f184 [.tp LCd z 0,.ref 0 0 m,.j n,.j no,.j up] [.row false nl NCd o]=some (.tup [.ref 1 0 (o.length+1),.b (A5 z n no).isSome],[none,R0 NCd (o++[(n,[],no,up,false,())])]):=by
 rw [Xj]
 try dsimp only [shr]
 obtain ⟨rfl,h1⟩:=hc;have hM:=mxI;simp only [AX,drop_zero,take_length];unfold A5;have el:(decide ((o.length+1)*48<=140737488355328)&&decide (o.length+1<=maxI))=true:=by simp only [anE,dcE]; omega
 simp only [Ab el]
 cases h2:Cm n with
 | false=>simp [ifB]
 | true=>
  by_cases h3:z.lab.1=1
  ·simp [ifB,h3]
  ·have h4:=beq_eq_false_iff_ne.2 h3
   by_cases h5:0<=n/\n<=z.lab.2.2.2.2.1
   ·simp [ifB,h3,h4,h5]
   ·simp [ifB,h3,h4,h5]
theorem Aiz:Af prog 184 (Ent.own O0).F:=by
 refine fcC (kc func218 Zn (kc func125 Dd KnowsL.nil)).knows (Λ:=(Aa [])) func184 fun vs bs r' hq=>?_
 unfold Ent.F O0 at hq;dsimp only at hq;split at hq
 ·rename_i z m n no up nl o;obtain ⟨hc,hx⟩:=Ad hq;exact ⟨Ah _,(Aay z m n no up nl o (of_decide_eq_true hc)).trans hx⟩
 ·cases hq
theorem Aa8:Af prog 182 (Ent.rd1 TS).F:=by
 refine fcK KnowsL.nil.knows (Λ:=Aa []) func182 fun vs bs r hq=>?_
 unfold Ent.F TS at hq;dsimp only at hq;split at hq
 ·rename_i fo fk fn fd fr p;refine ⟨Ah _,Eq.trans ?_ hq⟩;have e:Aw prog (Aa []) (Aa []) f182 [.agg [.j fo,.j fk,.j fn,.s fd,.j fr],.bx [.tp LCd p 0] 0] []=((some (V.b (fo==p.lab.2.2.1),[])):_):=by kernel_rfl
  exact e
 ·cases hq
theorem R3  (p:Rose Lab) (l:List (Pl)) (r k i:Int):At prog (Aa [(182,.rd1 TS)]) (Aa [(2,dfE)]) 1 (body f181 0) dfE ([.sl PCd l,.fn 182 [] [.ptr 0 0],.j r,.j k,.j i],[some (.box [.tp LCd p 0])]) =
 ((ifB (decide (i<k)) (ifT (decide (0<=i)&&decide (i<(↑l.length:Int))) (Ak l[i.toNat]? fun z=>ifB (z.1.1==p.lab.2.2.1) (some (Ex.ret,[V.j i],
 [some (Blk.box [V.tp LCd p 0])])) (some (Ex.normal,[V.sl PCd l,V.fn 182 [] [V.ptr 0 0],V.j r,V.j k,V.i .i64
 (i64.wrap (i+1))],[some (Blk.box [V.tp LCd p 0])])))) (some (Ex.exit 0,[],[some (Blk.box [V.tp LCd p 0])]))):_):=by kernel_rfl
theorem UY  (p:Rose Lab) {l:List (Pl)} {r:Int} (hx:l.length<=maxI) : ∀ (j i:Nat),i+j=l.length->∀ e d',(.br (decide (Aq (fun z:Pl=>z.1.1==p.lab.2.2.1) i (l.drop i)<0)) (.leaf (.exit 0,([],[some (.box [.tp LCd p 0])]))) (.leaf (.ret,([.j (Aq (fun z:Pl=>z.1.1==p.lab.2.2.1) i (l.drop i))],[some (.box [.tp LCd p 0])]))):Br (Ex×Dt)).run=some (e,d')->
  Runs prog (Aa [(182,.rd1 TS)]) (Aa [(2,dfE)]) 1 (body f181 0) dfE ([.sl PCd l,.fn 182 [] [.ptr 0 0],.j r,.j (l.length:Int),.j (i:Int)],[some (.box [.tp LCd p 0])]) e d'
 | 0,i,hi,e,d',h=>by
  have e1:l.drop i=[]:=drop_eq_nil_of_le (by omega);rw [e1,Bz,Aq,if_pos (by omega)] at h;cases h;have hr:=R3 p l r l.length i;rw [Ac (dcF (by omega))] at hr;exact stp hr
 | j+1,i,hi,e,d',h=>by
  have h1:i<l.length:=by omega
  have hr:=R3 p l r l.length i;rw [Ae (dcT (by omega)),T2 (by omega)] at hr;simp only [ntN,gtE h1,Ai,Ap (n:=i) (by omega)] at hr;rw [drop_eq_getElem_cons h1,Bz,Aq] at h
  by_cases he:(fun z:Pl=>z.1.1==p.lab.2.2.1) l[i]=true
  ·rw [if_pos he,if_neg (by omega)] at h;cases h;rw [Ae he] at hr;exact stp hr
  ·rw [if_neg he] at h;rw [Ac (by simpa using he)] at hr;exact sts hr (UY p hx j (i+1) (by omega) e d' (by rw [Bz]; exact h))
theorem Ald  : As prog (Aa [(182,.rd1 TS)]) (Aa [(2,dfE)]) 1 (f181.body.getD .skip):=by
 refine Am (a:=body f181 0) (by kernel_rfl) fun d e d' h=>?_
 unfold dfE at h;dsimp only at h;split at h
 ·obtain ⟨hc,h'⟩:=Ad h;obtain ⟨h0,h1,h2,rfl⟩:=of_decide_eq_true hc;obtain ⟨i,rfl⟩:=eq_ofNat_of_zero_le h0;exact UY _  h2 _ i (Nat.add_sub_of_le h1) e d' h'
 ·cases h
theorem Ai4  (p:Rose Lab) (l:List (Pl)) (hx:l.length<=maxI):Aw prog (Aa [(182,.rd1 TS)]) (Aa [(2,dfE)]) f181 [.sl PCd l,.fn 182 [] [.ptr 0 0]] [.box [.tp LCd p 0]]=some (.j (Aq (fun z:Pl=>z.1.1==p.lab.2.2.1) 0 l),[some (.box [.tp LCd p 0])]):=by
 have e:Aw prog (Aa [(182,.rd1 TS)]) (Aa [(2,dfE)]) f181 [.sl PCd l,.fn 182 [] [.ptr 0 0]] [.box [.tp LCd p 0]] =
  ((ifT (decide ((0:Int)<=(0:Int)/\0<=l.length/\l.length<=maxI/\(↑l.length:Int)=(↑l.length:Int))) (ifB (decide (Aq (fun z=>z.1.1==
 p.lab.2.2.1) 0 (drop 0 l)<(0:Int))) (some (V.j (-1),[some (Blk.box [V.tp LCd p 0])])) (some (V.j (Aq (fun z=>
 z.1.1==p.lab.2.2.1) 0 (drop 0 l)),[some (Blk.box [V.tp LCd p 0])])))):_):=by kernel_rfl
 rw [e,Ab (dcT ⟨by omega,by omega,hx,rfl⟩)];simp only [Int.toNat_zero,drop_zero]
 by_cases q:Aq (fun z:Pl=>z.1.1==p.lab.2.2.1) 0 l<0
 ·rw [Ae (dcT q),Ci _ _ _ q]
 ·rw [Ac (dcF q)]
theorem Ai3  : Af prog 181 (Ent.own Xl).F:=by
 refine AB (kc func182 Aa8 KnowsL.nil).knows (Λ:=(Aa [(2,dfE)])) func181 (c:=f181.body.getD .skip) (by kernel_rfl) fun vs bs r h hv hb=>?_
 unfold Ent.F Xl at h;dsimp only at h;split at h
 ·rename_i l p;have h':=h;exact ⟨Ald ,(Ai4 p l (hv (.sl PCd l) (by simp)).1).trans (by cases h'; rfl)⟩
 ·cases h
theorem Aa4:Af prog 181 (Ent.mix Xl).F:=Ai3
end Go.Proofs.YtdocpdfkeohkiaaGreatDoor.Den
