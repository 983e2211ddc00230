/- What functions of the program do, by the machine: Wi4 Wi5 Wi6 En1 Wi7 Dc1 Dc2 Dc3 Dc4 En2 Wi8. -/
import Derived.Test.YtckmoiopjocapaaGreatDC
import Derived.KernelRfl
import Derived.Test.YtckmoiopjocapaaGreatRows
open Go.IntKind (i64)
open Go.Proofs.Tryz
open List (all_cons all_eq_true any_cons append_assoc append_nil drop drop_eq_getElem_cons drop_eq_nil_of_le drop_zero flatMap flatMap_cons getElem_mem length_append length_cons length_map length_singleton map_map mem_cons mem_cons_of_mem mem_map nil_append range take take_length)
open Int (eq_ofNat_of_zero_le fdiv)
open Nat (add_assoc add_mul le_refl mul_add mul_le_mul_left mul_one mul_pos pow_succ sub_zero zero_add zero_le)
open Option (getD getD_some isSome isSome_some map_eq_some_iff map_none map_some)
open Bool (or_eq_true)
namespace Go.Proofs.YtckmoiopjocapaaGreat.Den
open Go.Proofs
set_option maxRecDepth 100000
def Ci (ns:List Int) (i:Nat):Bool:=i==0||decide (ns.getD (i-1) 0<ns.getD i 0)
def JT (ns:List Int):Bool:=(range ns.length).all (Ci ns)
def IY (l:List Pl):List Int:=l.map fun x=>x.1.1
def CE (l:List WFd):List Int:=l.map fun x=>x.1
def CA (s:By):Option (List Pl):=match rdP s with | some l=>(if JT (IY l)=true then some l else none) | none=>none
def PB:LoopEnt:=⟨39,[4,15,16],[4],[2,3],fun
 | ([.ref 0 0 m,.j k,.j i],[R0 PCd o])=>.need (decide (0<=i/\i.toNat<=o.length/\m=o.length/\k=o.length/\o.length<=4000000000)) (.br (((range o.length).drop i.toNat).all (Ci (IY o))) (.leaf (.exit 0,([.ref 0 0 o.length],[R0 PCd o]))) (.leaf (.ret,([.ref 0 0 0,.b false],[R0 PCd []]))))
 | _=>.no⟩
def Ua:Gm
 | [.s s],[]=>.need (decide (s.length<=4000000000)) (.leaf (.tup [.ref 0 0 ((CA s).getD []).length,.b (CA s).isSome],[R0 PCd ((CA s).getD [])]))
 | _,_=>.no
theorem Nc (m:Nat) (k i:Int) (o:List Pl):Au prog (Aa [(79,.rd1 Ug)]) (Aa [(5,PB)]) 0 (body f34 0) PB ([.ref 0 0 m,.j k,.j i],[R0 PCd o]) =
 ((ifB (decide (i<k)) (ifB (decide (i>0)) (ifT (decide (0<=i64.wrap (i-1))&&decide (i64.wrap (i-1)<(↑m:Int))) (An o[0 +
 (i64.wrap (i-1)).toNat]? fun z=>ifT (decide (0<=i)&&decide (i<(↑m:Int))) (An o[0+i.toNat]? fun z_1=>ifB (decide (z.1.1>=
 z_1.1.1)) (some (Ex.ret,[V.ref 0 0 0,V.b false],[R0 PCd (Ag PCd.den)])) (some (Ex.normal,[V.ref 0 0 m,V.j k,V.i .i64
 (i64.wrap (i+1))],[R0 PCd o]))))) (some (Ex.normal,[V.ref 0 0 m,V.j k,V.j (i64.wrap (i+1))],[R0 PCd o]))) (some (Ex.exit 0,[V.ref 0 0 m],[R0 PCd o]))):_):=by kernel_rfl
theorem Wk (s:By):Bm prog (Aa [(79,.rd1 Ug)]) (Aa [(5,PB)]) f34 [.s s] [] =
 ((ifT (decide (s.length<=4000000000)) (ifB (!(rdP s).isSome) (some (V.tup [V.ref 0 0 0,V.b false],[R0 PCd (Ag PCd.den)])) (ifT (decide
 ((0:Int)<=(0:Int)/\0<=((rdP s).getD (Ag Pl)).length/\((rdP s).getD (Ag Pl)).length=((rdP s).getD (Ag Pl)).length/\(↑((rdP s).getD (Ag
 Pl)).length:Int)=(↑((rdP s).getD (Ag Pl)).length:Int)/\((rdP s).getD (Ag Pl)).length<=4000000000)) (ifB ((drop 0 (range ((rdP
 s).getD (Ag Pl)).length)).all (Ci (IY ((rdP s).getD (Ag Pl))))) (some (V.tup [V.ref 0 0 ((rdP s).getD (Ag Pl)).length,V.b true],[R0 PCd
 ((rdP s).getD (Ag Pl))])) (some (V.tup [V.ref 0 0 0,V.b false],[R0 PCd (Ag PCd.den)])))))):_):=by kernel_rfl
theorem KT (o:List Pl) (hm:o.length<=4000000000) : ∀ (j i:Nat),i+j=o.length->∀ ex d,(Br.br (((range o.length).drop i).all (Ci (IY o))) (.leaf (.exit 0,([.ref 0 0 o.length],[R0 PCd o]))) (.leaf (.ret,([.ref 0 0 0,.b false],[R0 PCd []]))):Br (Ex×Dt)).run=some (ex,d)->
  Runs prog (Aa [(79,.rd1 Ug)]) (Aa [(5,PB)]) 0 (body f34 0) PB ([.ref 0 0 o.length,.j (o.length:Int),.j (i:Int)],[R0 PCd o]) ex d
 | 0,i,hi,ex,d,h=>by
  have hr:=Nc o.length o.length i o;rw [Ae (dcF (by omega))] at hr;rw [drop_eq_nil_of_le (by simp; omega)] at h;have h8:=Bk (show (Br.leaf (.exit 0,([.ref 0 0 o.length],[R0 PCd o])):Br (Ex×Dt)).run=some (ex,d) from h);obtain ⟨rfl,rfl⟩:=Prod.mk.inj h8;exact stp hr
 | j+1,i,hi,ex,d,h=>by
  have hl:i<o.length:=by omega
  have hM:=mxI;have hr:=Nc o.length o.length i o
  have hd:(range o.length).drop i=i::(range o.length).drop (i+1):=by
   rw [drop_eq_getElem_cons (by simpa using hl)];simp
  rw [hd,all_cons] at h;rw [Af (dcT (by omega)),Az (n:=i) (by omega)] at hr;have gA : ∀ {x:Nat} (hx:x<o.length),(IY o).getD x 0=o[x].1.1:=fun hx=>by unfold IY; simp [hx]
  skip
  by_cases q0:i=0
  ·subst q0;rw [Ae (dcF (by omega))] at hr;have e0:Ci (IY o) 0=true:=rfl;rw [e0,Bool.true_and] at h;exact sts hr (KT o hm j 1 (by omega) ex d h)
  ·have hw:i64.wrap ((i:Int)-1)=((i-1:Nat):Int):=by rw [Av (by omega) (by omega)]; omega
   have hl1:i-1<o.length:=by omega
   rw [Af (dcT (by omega)),hw,T2 (by omega),ntN,zero_add,gtE hl1,Ap] at hr;rw [T2 (by omega),ntN,zero_add,gtE hl,Ap] at hr
   have er:Ci (IY o) i=decide (o[i-1].1.1<o[i].1.1):=by
    unfold Ci;rw [gA hl1,gA hl,beq_false_of_ne q0,Bool.false_or]
   rw [er] at h
   by_cases q:o[i-1].1.1<o[i].1.1
   ·rw [Ae (dcF (by omega))] at hr;rw [dcT q,Bool.true_and] at h;exact sts hr (KT o hm j (i+1) (by omega) ex d h)
   ·rw [Af (dcT (by omega))] at hr;rw [dcF q,Bool.false_and] at h;have h8:=Bk (show (Br.leaf (.ret,([.ref 0 0 0,.b false],[R0 PCd []])):Br (Ex×Dt)).run=some (ex,d) from h);obtain ⟨rfl,rfl⟩:=Prod.mk.inj h8;exact stp hr
theorem Ab8:Aw prog (Aa [(79,.rd1 Ug)]) (Aa [(5,PB)]) 0 (f34.body.getD .skip):=by
 refine As (a:=body f34 0) (by kernel_rfl) fun d ex d' h=>?_
 unfold PB at h;dsimp only at h;split at h
 ·rename_i m k i o;obtain ⟨hc,hx⟩:=Ad h;clear h;obtain ⟨h0,h1,rfl,rfl,h4⟩:=of_decide_eq_true hc;obtain ⟨i,rfl⟩:=eq_ofNat_of_zero_le h0;simp only [ntN] at h1 hx;exact KT o h4 (o.length-i) i (by omega) ex d' hx
 ·cases h
theorem SN {s:By} : ∀ (f a:Nat) (o l:List Pl),o.length<=40->rdL s f a o=some l->l.length<=40
 | 0,a,o,l,h,e=>by
  rw [rdL] at e;split at e
  ·cases e
  ·cases e; exact h
 | f+1,a,o,l,h,e=>by
  rw [rdL] at e;split at e
  ·split at e
   ·rename_i h2;exact SN f _ _ l (by have:=h2.2; simp; omega) e
   ·cases e
  ·cases e; exact h
theorem Kp {s:By} {l:List Pl} (h:rdP s=some l):l.length<=40/\s.length<=400:=by
 unfold rdP at h;split at h
 ·rename_i h1;exact ⟨SN _ _ _ l (by simp) h,h1⟩
 ·cases h
theorem ris:Ac prog 34 (Ent.rd1 Ua).F:=by
 refine fcC (kc func79 rdp KnowsL.nil).knows (Λ:=(Aa [(5,PB)])) func34 fun vs bs r hq=>?_
 unfold Ent.F Ua at hq;dsimp only at hq;split at hq
 ·rename_i s;obtain ⟨hc,hx⟩:=Ad hq;refine ⟨Ab8,Eq.trans ?_ hx⟩;rw [Wk,Ab hc];unfold CA
  cases e:rdP s with
  | none=>rfl
  | some l=>
   have hl:=(Kp e).1;dsimp only [isSome_some,getD_some];rw [Bool.not_true,AR,Ab (dcT ⟨by omega,by omega,rfl,rfl,by omega⟩),drop_zero];unfold JT;rw [show (IY l).length=l.length by unfold IY; simp];cases (range l.length).all (Ci (IY l))<;>rfl
 ·cases hq
def rdF (s:By):Nat->Nat->List WFd->Option (List WFd)
 | 0,a,o=>if a<s.length then none else some o
 | f+1,a,o=>if a<s.length then (if (Be s a).2.2.2=true/\o.length≠40 then rdF s f (Be s a).2.2.1.toNat (o++[(Be s a).1]) else none) else some o
def CB (s:By):Option (List WFd):=rdF s s.length 0 []
def CZ (s:By):Option (List WFd):=if s.length<=400 then CB s else none
def Df (s:By):Option (List WFd):=match CZ s with | some l=>(if JT (CE l)=true then some l else none) | none=>none
def JU:LoopEnt:=⟨76,[0,4,5],[4],[2,3],fun
 | ([.s s,.ref 0 0 n,.j a],[R0 FCd o])=>.need (decide (0<=a/\a.toNat<=s.length/\s.length<=4000000000/\n=o.length/\o.length<=a.toNat)) (.br (rdF s (s.length-a.toNat) a.toNat o).isSome (.leaf (.exit 0,([.ref 0 0 ((rdF s (s.length-a.toNat) a.toNat o).getD []).length],[R0 FCd ((rdF s (s.length-a.toNat) a.toNat o).getD [])]))) (.leaf (.ret,([.ref 0 0 0,.b false],[R0 FCd []]))))
 | _=>.no⟩
def YZ:Gm
 | [.s s],[]=>.need (decide (s.length<=4000000000)) (.leaf (.tup [.ref 0 0 ((CB s).getD []).length,.b (CB s).isSome],[R0 FCd ((CB s).getD [])]))
 | _,_=>.no
def Uf:Gm
 | [.s s],[]=>.need (decide (s.length<=4000000000)) (.leaf (.tup [.ref 0 0 ((CZ s).getD []).length,.b (CZ s).isSome],[R0 FCd ((CZ s).getD [])]))
 | _,_=>.no
def Wj:Gm
 | [.s s],[]=>.need (decide (s.length<=4000000000)) (.leaf (.tup [.ref 0 0 ((Df s).getD []).length,.b (Df s).isSome],[R0 FCd ((Df s).getD [])]))
 | _,_=>.no
def JC:LoopEnt:=⟨37,[4,15,16,17],[4],[2,3],fun
 | ([.ref 0 0 m,.ref 0 0 m2,.j k,.j i],[R0 FCd o])=>.need (decide (0<=i/\i.toNat<=o.length/\m=o.length/\m2=o.length/\k=o.length/\o.length<=4000000000)) (.br (((range o.length).drop i.toNat).all (Ci (CE o))) (.leaf (.exit 0,([.ref 0 0 o.length],[R0 FCd o]))) (.leaf (.ret,([.ref 0 0 0,.b false],[R0 FCd []]))))
 | _=>.no⟩
abbrev Vs:FuncId->Option Ent:=Aa [(162,.rd1 VF),(163,.rd1 M0),(136,.rd1 HL)]
theorem Nj (s:By) (n:Nat) (a:Int) (o:List WFd):Au prog Vs (Aa [(3,JU)]) 0 (body f116 0) JU ([.s s,.ref 0 0 n,.j a],[R0 FCd o]) =
 ((shr (take n (drop 0 o)) fun sh3=>shr (take ((i64.wrap (Bh (Bh a.toNat (Ai s a.toNat)).toNat (Ai s (Bh a.toNat (Ai s
 a.toNat)).toNat)+Cj (Ai s (Bh a.toNat (Ai s a.toNat)).toNat))).toNat-(Bh (Bh a.toNat (Ai s a.toNat)).toNat (Ai s (Bh a.toNat (Ai s
 a.toNat)).toNat)).toNat) (drop (Bh (Bh a.toNat (Ai s a.toNat)).toNat (Ai s (Bh a.toNat (Ai s a.toNat)).toNat)).toNat s)) fun sh2=>shr (Ag FCd.den)
 fun sh1=>ifB (decide (a<(↑s.length:Int))) (ifT (decide (0<=a/\s.length<=4000000000/\a<=4000000000)) (ifB (!BP (Ai s a.toNat)) (some (Ex.ret,[V.ref
 0 0 0,V.b false],[R0 FCd sh1])) (ifT (decide ((0:Int)<=Bh a.toNat (Ai s a.toNat)/\s.length<=4000000000/\Bh a.toNat (Ai s
 a.toNat)<=(4000000000:Int))) (ifB (!BP (Ai s (Bh a.toNat (Ai s a.toNat)).toNat)) (some (Ex.ret,[V.ref 0 0 0,V.b false],[R0 FCd sh1]))
 (ifB ((Cj (Ai s a.toNat)).tmod (8:Int)==(0:Int)) (ifT (decide ((0:Int)<=Cj (Ai s (Bh a.toNat (Ai s a.toNat)).toNat)/\Cj (Ai s (Bh a.toNat
 (Ai s a.toNat)).toNat)<=(1000000000000:Int))) (ifB (!AJ (i64.wrap ((Cj (Ai s a.toNat)).tdiv (8:Int)),(Cj (Ai s a.toNat)).tmod (8:Int),unf
 (Cj (Ai s (Bh a.toNat (Ai s a.toNat)).toNat)),Ag UInt8,())) (some (Ex.ret,[V.ref 0 0 0,V.b false],[R0 FCd sh1])) (ifB ((↑n:Int)==
 (40:Int)) (some (Ex.ret,[V.ref 0 0 0,V.b false],[R0 FCd sh1])) (ifT (decide ((n+1)*40<=140737488355328)&&decide
 (n+1<=maxI)) (some (Ex.normal,[V.s s,V.ref 0 0 (n+1),V.j (Bh (Bh a.toNat (Ai s a.toNat)).toNat (Ai s (Bh a.toNat (Ai s
 a.toNat)).toNat))],[R0 FCd (sh3++(i64.wrap ((Cj (Ai s a.toNat)).tdiv (8:Int)),(Cj (Ai s a.toNat)).tmod (8:Int),unf (Cj
 (Ai s (Bh a.toNat (Ai s a.toNat)).toNat)),Ag UInt8,())::sh1)])))))) (ifB (decide (Cj (Ai s (Bh a.toNat (Ai s a.toNat)).toNat)>i64.wrap
 ((↑s.length:Int)-Bh (Bh a.toNat (Ai s a.toNat)).toNat (Ai s (Bh a.toNat (Ai s a.toNat)).toNat)))) (some (Ex.ret,[V.ref 0 0 0,V.b false],[R0 FCd sh1])) (ifT (decide ((0:Int)<=Bh (Bh a.toNat (Ai s a.toNat)).toNat (Ai s (Bh a.toNat (Ai s a.toNat)).toNat))&&decide (Bh (Bh a.toNat
 (Ai s a.toNat)).toNat (Ai s (Bh a.toNat (Ai s a.toNat)).toNat)<=i64.wrap (Bh (Bh a.toNat (Ai s a.toNat)).toNat (Ai s (Bh a.toNat (Ai s
 a.toNat)).toNat)+Cj (Ai s (Bh a.toNat (Ai s a.toNat)).toNat)))&&decide (i64.wrap (Bh (Bh a.toNat (Ai s a.toNat)).toNat (Ai s (Bh a.toNat
 (Ai s a.toNat)).toNat)+Cj (Ai s (Bh a.toNat (Ai s a.toNat)).toNat))<=(↑s.length:Int))) (ifB (!AJ (i64.wrap ((Cj (Ai s a.toNat)).tdiv (8 :
 Int)),(Cj (Ai s a.toNat)).tmod (8:Int),(0:Int),sh2,())) (some (Ex.ret,[V.ref 0 0 0,V.b false],[R0 FCd sh1])) (ifB ((↑n:Int)==(40
 : Int)) (some (Ex.ret,[V.ref 0 0 0,V.b false],[R0 FCd sh1])) (ifT (decide ((n+1)*40<=140737488355328)&&decide (n
 + 1<=maxI)) (some (Ex.normal,[V.s s,V.ref 0 0 (n+1),V.j (i64.wrap (Bh (Bh a.toNat (Ai s a.toNat)).toNat (Ai s (Bh a.toNat
 (Ai s a.toNat)).toNat)+Cj (Ai s (Bh a.toNat (Ai s a.toNat)).toNat)))],[R0 FCd (sh3++(i64.wrap ((Cj (Ai s a.toNat)).tdiv
 (8:Int)),(Cj (Ai s a.toNat)).tmod (8:Int),(0:Int),sh2,())::sh1)])))))))))))) (some (Ex.exit 0,[V.ref 0 0 n],[R0 FCd o]))):_):=by kernel_rfl
theorem Wu (s:By):Bm prog Vs (Aa [(3,JU)]) f116 [.s s] [] =
 ((ifT (decide ((0:Int)<=(0:Int)/\0<=s.length/\s.length<=4000000000/\0=0/\0<=0)) (ifB (rdF s (s.length-(0 :
 Nat)) 0 (Ag FCd.den)).isSome (some (V.tup [V.ref 0 0 ((rdF s (s.length-0) 0 (Ag FCd.den)).getD (Ag WFd)).length,V.b true],[R0 FCd ((rdF s (s.length-0) 0 (Ag FCd.den)).getD (Ag WFd))])) (some (V.tup [V.ref 0 0 0,V.b false],[R0 FCd (Ag
 FCd.den)])))):_):=by kernel_rfl
theorem Ic (s:By) : ∀ (f a:Nat) (o:List Pl),rdF s f a (o.map (·.1))=(rdL s f a o).map (fun l=>l.map (·.1))
 | 0,a,o=>by
  rw [rdF,rdL];split<;>rfl
 | f+1,a,o=>by
  rw [rdF,rdL,length_map];split
  ·split
   ·have:=Ic s f (Be s a).2.2.1.toNat (o++[((Be s a).1,(a:Int),())]);rw [List.map_append] at this;exact this
   ·rfl
  ·rfl
theorem Wz (s:By) : ∀ (f f' a:Nat) (o:List WFd),s.length-a<=f->s.length-a<=f'->rdF s f a o=rdF s f' a o:=by
 intro f f' a o h1 h2;have e:o=(o.map (fun x=>((x,0,()):Pl))).map (·.1):=by rw [map_map]; exact (List.map_id' o).symm
 rw [e,Ic,Ic,PE s f f' a _ h1 h2]
theorem Wy {s:By} {a:Nat} {o:List WFd} (h:a<s.length) (h1:(Be s a).2.2.2=true) (h2:o.length≠40):rdF s (s.length-a) a o=rdF s (s.length-(Be s a).2.2.1.toNat) (Be s a).2.2.1.toNat (o++[(Be s a).1]):=by
 have e:s.length-a=(s.length-a-1)+1:=by omega
 have ht:=KG h1;rw [e,rdF,if_pos h,if_pos ⟨h1,h2⟩];exact Wz s _ _ _ _ (by omega) (by omega)
theorem Zc {s:By} {a:Nat} {o:List WFd} (h:a<s.length) (h1:(Be s a).2.2.2=false\/o.length=40):rdF s (s.length-a) a o=none:=by
 have e:s.length-a=(s.length-a-1)+1:=by omega
 rw [e,rdF,if_pos h,if_neg]
 rintro ⟨h2,h3⟩
 rcases h1 with h1 | h1
 ·rw [h1] at h2; cases h2
 ·exact h3 h1
theorem Zb {s:By} {a:Nat} {o:List WFd} (h:s.length<=a):rdF s (s.length-a) a o=some o:=by
 have e:s.length-a=0:=by omega
 rw [e,rdF,if_neg (by omega)]
theorem Ro {a:Nat} {x:Option (Nat×Nat×Bool)} (h:BP x=true):Cj x=A8 x/\Bh a x=Ax a x:=by
 match x,h with
 | some (n,k,true),_=>exact ⟨rfl,rfl⟩
theorem YH {s:By} {a:Nat} (h:BP (Ai s a)=false):(Be s a).2.2.2=false:=by
 unfold Be; dsimp only; rw [if_pos h]
theorem YG {s:By} {a:Nat} (h:BP (Ai s a)=true) (h2:BP (Ai s (Ax a (Ai s a)).toNat)=false):(Be s a).2.2.2=false:=by
 unfold Be; dsimp only; rw [if_neg (by rw [h]; simp)];split
 ·have:(Bd s (Ax a (Ai s a)).toNat).2.2=false:=by unfold Bd; dsimp only; rw [if_neg (fun hh=>by rw [h2] at hh; cases hh.1)]
  dsimp only;rw [this]; rfl
 ·dsimp only;rw [h2]; rfl
theorem Abr {s:By} {a:Nat} (h:BP (Ai s a)=true) (h2:BP (Ai s (Ax a (Ai s a)).toNat)=true) (h0:A8 (Ai s a) % 8=0):Be s a=((A8 (Ai s a) / 8,0,unf (A8 (Ai s (Ax a (Ai s a)).toNat)),[],()),(a:Int),Ax (Ax a (Ai s a)).toNat (Ai s (Ax a (Ai s a)).toNat),AJ (A8 (Ai s a) / 8,0,unf (A8 (Ai s (Ax a (Ai s a)).toNat)),[],())):=by
 unfold Be; dsimp only; rw [if_neg (by rw [h]; simp),if_neg (by omega),h0,h2,Bool.true_and]
theorem Abt {s:By} {a:Nat} (h:BP (Ai s a)=true) (h2:BP (Ai s (Ax a (Ai s a)).toNat)=true) (h0:A8 (Ai s a) % 8=2) (hn:A8 (Ai s (Ax a (Ai s a)).toNat)<=s.length-Ax (Ax a (Ai s a)).toNat (Ai s (Ax a (Ai s a)).toNat)) :
  Be s a=((A8 (Ai s a) / 8,2,0,(s.drop (Ax (Ax a (Ai s a)).toNat (Ai s (Ax a (Ai s a)).toNat)).toNat).take (A8 (Ai s (Ax a (Ai s a)).toNat)).toNat,()),(a:Int),Ax (Ax a (Ai s a)).toNat (Ai s (Ax a (Ai s a)).toNat)+A8 (Ai s (Ax a (Ai s a)).toNat),AJ (A8 (Ai s a) / 8,2,0,(s.drop (Ax (Ax a (Ai s a)).toNat (Ai s (Ax a (Ai s a)).toNat)).toNat).take (A8 (Ai s (Ax a (Ai s a)).toNat)).toNat,())):=by
 have:Bd s (Ax a (Ai s a)).toNat=((s.drop (Ax (Ax a (Ai s a)).toNat (Ai s (Ax a (Ai s a)).toNat)).toNat).take (A8 (Ai s (Ax a (Ai s a)).toNat)).toNat,Ax (Ax a (Ai s a)).toNat (Ai s (Ax a (Ai s a)).toNat)+A8 (Ai s (Ax a (Ai s a)).toNat),true):=by unfold Bd; dsimp only; rw [if_pos ⟨h2,hn⟩]
 unfold Be; dsimp only; rw [if_neg (by rw [h]; simp),if_pos h0,this,Bool.true_and]
theorem YE {s:By} {a:Nat} (h:BP (Ai s a)=true) (h0:A8 (Ai s a) % 8≠0) (hn : ¬A8 (Ai s (Ax a (Ai s a)).toNat)<=s.length-Ax (Ax a (Ai s a)).toNat (Ai s (Ax a (Ai s a)).toNat)):(Be s a).2.2.2=false:=by
 unfold Be; dsimp only; rw [if_neg (by rw [h]; simp)];split
 ·have:(Bd s (Ax a (Ai s a)).toNat).2.2=false:=by unfold Bd; dsimp only; rw [if_neg (fun hh=>hn hh.2)]
  dsimp only;rw [this]; rfl
 ·rename_i h2;dsimp only;unfold AJ;dsimp only;rw [if_neg h0,if_neg h2,Bool.and_false,Bool.and_false]
theorem YF {s:By} {a:Nat} (h:BP (Ai s a)=true) (h0:A8 (Ai s a) % 8≠0) (h2:A8 (Ai s a) % 8≠2):(Be s a).2.2.2=false/\∀ x y z,AJ (x,A8 (Ai s a) % 8,y,z,())=false:=by
 have hb : ∀ x y z,AJ (x,A8 (Ai s a) % 8,y,z,())=false:=fun x y z=>by
  unfold AJ;dsimp only;rw [if_neg h0,if_neg h2,Bool.and_false]
 refine ⟨?_,hb⟩;unfold Be; dsimp only; rw [if_neg (by rw [h]; simp),if_neg h2];dsimp only;rw [hb,Bool.and_false]
theorem YX (s:By) (a:Nat) (o:List WFd) (hs:s.length<=4000000000) (ha:a<s.length) (ho:o.length<=a) :
  Au prog Vs (Aa [(3,JU)]) 0 (body f116 0) JU ([.s s,.ref 0 0 o.length,.j (a:Int)],[R0 FCd o])=if (Be s a).2.2.2=true/\o.length≠40 then some (.normal,([.s s,.ref 0 0 (o++[(Be s a).1]).length,.j (Be s a).2.2.1],[R0 FCd (o++[(Be s a).1])])) else some (.ret,([.ref 0 0 0,.b false],[R0 FCd []])):=by
 rw [Nj];dsimp only [shr];have hM:=mxI;obtain ⟨⟨u1,u2⟩,u3,u4⟩:=EQ s a;rw [Af (dcT (by omega)),Ab (dcT (by omega)),ntN]
 cases hk:BP (Ai s a) with
 | false=>rw [Bool.not_false,Bg,if_neg (fun h=>by rw [YH hk] at h; cases h.1)]
 | true=>
  obtain ⟨e1,e2⟩:=Ro (a:=a) hk;rw [Bool.not_true,AR];simp only [e1,e2];obtain ⟨⟨v1,v2⟩,v3,v4⟩:=EQ s (Ax a (Ai s a)).toNat;rw [Ab (dcT ⟨u3,hs,by omega⟩)]
  cases hk2:BP (Ai s (Ax a (Ai s a)).toNat) with
  | false=>rw [Bool.not_false,Bg,if_neg (fun h=>by rw [YG hk hk2] at h; cases h.1)]
  | true=>
   obtain ⟨e3,e4⟩:=Ro (a:=(Ax a (Ai s a)).toNat) hk2;rw [Bool.not_true,AR];have m1:Int.tdiv (A8 (Ai s a)) 8=A8 (Ai s a) / 8:=Int.tdiv_eq_ediv_of_nonneg u1;have m2:Int.tmod (A8 (Ai s a)) 8=A8 (Ai s a) % 8:=Int.tmod_eq_emod_of_nonneg u1;have m3:i64.wrap (A8 (Ai s a) / 8)=A8 (Ai s a) / 8:=Av (by omega) (by omega);have m4:i64.wrap ((s.length:Int)-Ax (Ax a (Ai s a)).toNat (Ai s (Ax a (Ai s a)).toNat))=(s.length:Int)-Ax (Ax a (Ai s a)).toNat (Ai s (Ax a (Ai s a)).toNat):=Av (by omega) (by omega);have m5:i64.wrap (Ax (Ax a (Ai s a)).toNat (Ai s (Ax a (Ai s a)).toNat)+A8 (Ai s (Ax a (Ai s a)).toNat))=Ax (Ax a (Ai s a)).toNat (Ai s (Ax a (Ai s a)).toNat)+A8 (Ai s (Ax a (Ai s a)).toNat):=Av (by omega) (by omega);simp only [e3,e4,m1,m2,m3,m4,m5,drop_zero,take_length,A7];have hlen:(decide ((o.length+1)*40<=140737488355328)&&decide (o.length+1<=maxI))=true:=by simp only [anE,dcE]; omega
   by_cases q0:A8 (Ai s a) % 8=0
   ·rw [Af (by simpa using q0),Ab (dcT ⟨v1,by omega⟩),q0];have ht:=Abr hk hk2 q0
    cases hf:AJ (A8 (Ai s a) / 8,0,unf (A8 (Ai s (Ax a (Ai s a)).toNat)),[],()) with
    | false=>rw [Bool.not_false,Bg,if_neg (fun h=>by rw [ht] at h; have:=h.1; rw [hf] at this; cases this)]
    | true=>
     rw [Bool.not_true,AR]
     by_cases q2:o.length=40
     ·rw [Af (by rw [q2]; rfl),if_neg (fun h=>h.2 q2)]
     ·rw [Ae (by simpa using fun e=>q2 (by omega)),Ab hlen,if_pos ⟨by rw [ht]; exact hf,q2⟩,ht,length_append]; rfl
   ·rw [Ae (by simpa using q0)]
    by_cases qn:A8 (Ai s (Ax a (Ai s a)).toNat)<=s.length-Ax (Ax a (Ai s a)).toNat (Ai s (Ax a (Ai s a)).toNat)
    rotate_left
    ·rw [Af (dcT (by omega)),if_neg (fun h=>by rw [YE hk q0 qn] at h; cases h.1)]
    rw [Ae (dcF (by omega)),Ab (by simp only [anE,dcE]; omega)];have e5:(Ax (Ax a (Ai s a)).toNat (Ai s (Ax a (Ai s a)).toNat)+A8 (Ai s (Ax a (Ai s a)).toNat)).toNat-(Ax (Ax a (Ai s a)).toNat (Ai s (Ax a (Ai s a)).toNat)).toNat=(A8 (Ai s (Ax a (Ai s a)).toNat)).toNat:=by omega
    rw [e5]
    by_cases qk:A8 (Ai s a) % 8=2
    rotate_left
    ·obtain ⟨b1,b2⟩:=YF hk q0 qk;rw [b2,Bool.not_false,Bg,if_neg (fun h=>by rw [b1] at h; cases h.1)]
    have ht:=Abt hk hk2 qk qn;rw [qk]
    cases hf:AJ (A8 (Ai s a) / 8,2,0,(s.drop (Ax (Ax a (Ai s a)).toNat (Ai s (Ax a (Ai s a)).toNat)).toNat).take (A8 (Ai s (Ax a (Ai s a)).toNat)).toNat,()) with
    | false=>rw [Bool.not_false,Bg,if_neg (fun h=>by rw [ht] at h; have:=h.1; rw [hf] at this; cases this)]
    | true=>
     rw [Bool.not_true,AR]
     by_cases q2:o.length=40
     ·rw [Af (by rw [q2]; rfl),if_neg (fun h=>h.2 q2)]
     ·rw [Ae (by simpa using fun e=>q2 (by omega)),Ab hlen,if_pos ⟨by rw [ht]; exact hf,q2⟩,ht,length_append]; rfl
theorem Wv (s:By) (hs:s.length<=4000000000) : ∀ (j a:Nat) (o:List WFd),s.length-a<=j->a<=s.length->o.length<=a->∀ ex d,(Br.br (rdF s (s.length-a) a o).isSome (.leaf (.exit 0,([.ref 0 0 ((rdF s (s.length-a) a o).getD []).length],[R0 FCd ((rdF s (s.length-a) a o).getD [])]))) (.leaf (.ret,([.ref 0 0 0,.b false],[R0 FCd []]))):Br (Ex×Dt)).run=some (ex,d)->
  Runs prog Vs (Aa [(3,JU)]) 0 (body f116 0) JU ([.s s,.ref 0 0 o.length,.j (a:Int)],[R0 FCd o]) ex d:=by
 intro j
 have fin : ∀ (a:Nat) (o:List WFd),a=s.length->∀ ex d,(Br.br (rdF s (s.length-a) a o).isSome (.leaf (.exit 0,([.ref 0 0 ((rdF s (s.length-a) a o).getD []).length],[R0 FCd ((rdF s (s.length-a) a o).getD [])]))) (.leaf (.ret,([.ref 0 0 0,.b false],[R0 FCd []]))):Br (Ex×Dt)).run=some (ex,d)->Runs prog Vs (Aa [(3,JU)]) 0 (body f116 0) JU ([.s s,.ref 0 0 o.length,.j (a:Int)],[R0 FCd o]) ex d:=fun a o ha ex d h=>by
  have hr:=Nj s o.length a o;dsimp only [shr] at hr;rw [Ae (dcF (by omega))] at hr;rw [Zb (by omega)] at h;have h8:=Bk (show (Br.leaf (.exit 0,([.ref 0 0 o.length],[R0 FCd o])):Br (Ex×Dt)).run=some (ex,d) from h);obtain ⟨rfl,rfl⟩:=Prod.mk.inj h8;exact stp hr
 induction j with
 | zero=>exact fun a o hj ha ho ex d h=>fin a o (by omega) ex d h
 | succ j ih=>
  intro a o hj ha ho ex d h
  by_cases q:a<s.length
  rotate_left
  ·exact fin a o (by omega) ex d h
  have hr:=YX s a o hs q ho
  by_cases q2:(Be s a).2.2.2=true/\o.length≠40
  ·obtain ⟨t1,t2,t3,t4⟩:=KG q2.1;rw [if_pos q2] at hr;rw [Wy q q2.1 q2.2] at h;obtain ⟨b,hb⟩:=eq_ofNat_of_zero_le (a:=(Be s a).2.2.1) (by omega);rw [hb] at hr h t2 t3;rw [ntN] at h;exact sts hr (ih b (o++[(Be s a).1]) (by omega) (by omega) (by simp; omega) ex d h)
  ·rw [if_neg q2] at hr
   rw [Zc q (by
    cases e:(Be s a).2.2.2 with
    | false=>exact .inl rfl
    | true=>exact .inr (by by_cases e2:o.length=40; exact e2; exact absurd ⟨e,e2⟩ q2))] at h
   have h8:=Bk (show (Br.leaf (.ret,([.ref 0 0 0,.b false],[R0 FCd []])):Br (Ex×Dt)).run=some (ex,d) from h);obtain ⟨rfl,rfl⟩:=Prod.mk.inj h8;exact stp hr
theorem Aca:Aw prog Vs (Aa [(3,JU)]) 0 (f116.body.getD .skip):=by
 refine As (a:=body f116 0) (by kernel_rfl) fun d ex d' h=>?_
 unfold JU at h;dsimp only at h;split at h
 ·rename_i s n a o;obtain ⟨hc,hx⟩:=Ad h;clear h;obtain ⟨h0,h1,h2,rfl,h4⟩:=of_decide_eq_true hc;obtain ⟨a,rfl⟩:=eq_ofNat_of_zero_le h0;simp only [ntN] at h1 h4 hx;exact Wv s h2 _ a o (le_refl _) h1 h4 ex d' hx
 ·cases h
theorem rdf:Ac prog 116 (Ent.rd1 YZ).F:=by
 refine fcC (kc func162 tvs (kc func163 Aex (kc func136 Abw KnowsL.nil))).knows (Λ:=(Aa [(3,JU)])) func116 fun vs bs r hq=>?_
 unfold Ent.F YZ at hq;dsimp only at hq;split at hq
 ·rename_i s;obtain ⟨hc,hx⟩:=Ad hq;have hc:=of_decide_eq_true hc;refine ⟨Aca,Eq.trans ?_ hx⟩;rw [Wu];unfold CB;rw [Ab (dcT ⟨by omega,by omega,hc,rfl,by omega⟩),sub_zero];simp only [A7];cases rdF s s.length 0 []<;>rfl
 ·cases hq
theorem Wr (s:By):Bm prog (Aa [(116,.rd1 YZ)]) (Aa []) f82 [.s s] [] =
 ((ifB (decide ((↑s.length:Int)>(400:Int))) (some (V.tup [V.ref 0 0 0,V.b false],[R0 FCd (Ag FCd.den)])) (ifT (decide (s.length<=(4000000000
 : Nat))) (some (V.tup [V.ref 0 0 ((CB s).getD (Ag WFd)).length,V.b (CB s).isSome],[R0 FCd ((CB s).getD (Ag WFd))])))):_):=by kernel_rfl
theorem rdq:Ac prog 82 (Ent.rd1 Uf).F:=by
 refine fcC (kc func116 rdf KnowsL.nil).knows (Λ:=Aa []) func82 fun vs bs r hq=>?_
 unfold Ent.F Uf at hq;dsimp only at hq;split at hq
 ·rename_i s;obtain ⟨hc,hx⟩:=Ad hq;refine ⟨Ao _,Eq.trans ?_ hx⟩;rw [Wr];unfold CZ
  by_cases q:s.length<=400
  ·rw [Ae (dcF (by omega)),if_pos q,Ab hc]; rfl
  ·rw [Af (dcT (by omega)),if_neg q]; rfl
 ·cases hq
theorem KJ (m:Nat) (k i:Int) (o:List WFd):Au prog (Aa [(82,.rd1 Uf)]) (Aa [(5,JC)]) 0 (body f37 0) JC ([.ref 0 0 m,.ref 0 0 m,.j k,.j i],[R0 FCd o]) =
 ((ifB (decide (i<k)) (ifT (decide (0<=i)&&decide (i<(↑m:Int))) (An o[0+i.toNat]? fun z=>ifB (decide (i>0)) (ifT (decide (0<=i64.wrap (i -
 1))&&decide (i64.wrap (i-1)<(↑m:Int))) (An o[0+(i64.wrap (i-1)).toNat]? fun z_1=>ifB (decide (z_1.1>=z.1)) (some (Ex.ret,
 [V.ref 0 0 0,V.b false],[R0 FCd (Ag FCd.den)])) (some (Ex.normal,[V.ref 0 0 m,V.ref 0 0 m,V.j k,V.j (i64.wrap (i+1))],
 [R0 FCd o])))) (some (Ex.normal,[V.ref 0 0 m,V.ref 0 0 m,V.j k,V.j (i64.wrap (i+1))],[R0 FCd o]))))
 (some (Ex.exit 0,[V.ref 0 0 m],[R0 FCd o]))):_):=by kernel_rfl
theorem TM (s:By):Bm prog (Aa [(82,.rd1 Uf)]) (Aa [(5,JC)]) f37 [.s s] [] =
 ((ifT (decide (s.length<=4000000000)) (ifB (!(CZ s).isSome) (some (V.tup [V.ref 0 0 0,V.b false],[R0 FCd (Ag FCd.den)])) (ifT (decide
 ((0:Int)<=(0:Int)/\0<=((CZ s).getD (Ag WFd)).length/\((CZ s).getD (Ag WFd)).length=((CZ s).getD (Ag WFd)).length/\((CZ s).getD (Ag
 WFd)).length=((CZ s).getD (Ag WFd)).length/\(↑((CZ s).getD (Ag WFd)).length:Int)=(↑((CZ s).getD (Ag WFd)).length:Int)/\((CZ s).getD (Ag
 WFd)).length<=4000000000)) (ifB ((drop 0 (range ((CZ s).getD (Ag WFd)).length)).all (Ci (CE ((CZ s).getD (Ag WFd))))) (some (V.tup
 [V.ref 0 0 ((CZ s).getD (Ag WFd)).length,V.b true],[R0 FCd ((CZ s).getD (Ag WFd))])) (some (V.tup [V.ref 0 0 0,V.b false],[R0 FCd (Ag FCd.den)])))))):_):=by kernel_rfl
theorem IR (o:List WFd) (hm:o.length<=4000000000) : ∀ (j i:Nat),i+j=o.length->∀ ex d,(Br.br (((range o.length).drop i).all (Ci (CE o))) (.leaf (.exit 0,([.ref 0 0 o.length],[R0 FCd o]))) (.leaf (.ret,([.ref 0 0 0,.b false],[R0 FCd []]))):Br (Ex×Dt)).run=some (ex,d)->
  Runs prog (Aa [(82,.rd1 Uf)]) (Aa [(5,JC)]) 0 (body f37 0) JC ([.ref 0 0 o.length,.ref 0 0 o.length,.j (o.length:Int),.j (i:Int)],[R0 FCd o]) ex d
 | 0,i,hi,ex,d,h=>by
  have hr:=KJ o.length o.length i o;rw [Ae (dcF (by omega))] at hr;rw [drop_eq_nil_of_le (by simp; omega)] at h;have h8:=Bk (show (Br.leaf (.exit 0,([.ref 0 0 o.length],[R0 FCd o])):Br (Ex×Dt)).run=some (ex,d) from h);obtain ⟨rfl,rfl⟩:=Prod.mk.inj h8;exact stp hr
 | j+1,i,hi,ex,d,h=>by
  have hl:i<o.length:=by omega
  have hM:=mxI;have hr:=KJ o.length o.length i o
  have hd:(range o.length).drop i=i::(range o.length).drop (i+1):=by
   rw [drop_eq_getElem_cons (by simpa using hl)];simp
  rw [hd,all_cons] at h;rw [Af (dcT (by omega)),Az (n:=i) (by omega)] at hr;have gA : ∀ {x:Nat} (hx:x<o.length),(CE o).getD x 0=o[x].1:=fun hx=>by unfold CE; simp [hx]
  rw [T2 (by omega),ntN,zero_add,gtE hl,Ap] at hr
  by_cases q0:i=0
  ·subst q0;rw [Ae (dcF (by omega))] at hr;have e0:Ci (CE o) 0=true:=rfl;rw [e0,Bool.true_and] at h;exact sts hr (IR o hm j 1 (by omega) ex d h)
  ·have hw:i64.wrap ((i:Int)-1)=((i-1:Nat):Int):=by rw [Av (by omega) (by omega)]; omega
   have hl1:i-1<o.length:=by omega
   rw [Af (dcT (by omega)),hw,T2 (by omega),ntN,zero_add,gtE hl1,Ap] at hr
   skip
   have er:Ci (CE o) i=decide (o[i-1].1<o[i].1):=by
    unfold Ci;rw [gA hl1,gA hl,beq_false_of_ne q0,Bool.false_or]
   rw [er] at h
   by_cases q:o[i-1].1<o[i].1
   ·rw [Ae (dcF (by omega))] at hr;rw [dcT q,Bool.true_and] at h;exact sts hr (IR o hm j (i+1) (by omega) ex d h)
   ·rw [Af (dcT (by omega))] at hr;rw [dcF q,Bool.false_and] at h;have h8:=Bk (show (Br.leaf (.ret,([.ref 0 0 0,.b false],[R0 FCd []])):Br (Ex×Dt)).run=some (ex,d) from h);obtain ⟨rfl,rfl⟩:=Prod.mk.inj h8;exact stp hr
theorem YM:Aw prog (Aa [(82,.rd1 Uf)]) (Aa [(5,JC)]) 0 (f37.body.getD .skip):=by
 refine As (a:=body f37 0) (by kernel_rfl) fun d ex d' h=>?_
 unfold JC at h;dsimp only at h;split at h
 ·rename_i m m2 k i o;obtain ⟨hc,hx⟩:=Ad h;clear h;obtain ⟨h0,h1,rfl,rfl,rfl,h4⟩:=of_decide_eq_true hc;obtain ⟨i,rfl⟩:=eq_ofNat_of_zero_le h0;simp only [ntN] at h1 hx;exact IR o h4 (o.length-i) i (by omega) ex d' hx
 ·cases h
theorem Ww (s:By):CZ s=(rdP s).map (fun l=>l.map (·.1)):=by
 unfold CZ rdP CB;split
 ·exact Ic s s.length 0 []
 ·rfl
theorem Ib (s:By):Df s=(CA s).map (fun l=>l.map (·.1)):=by
 unfold Df CA;rw [Ww]
 cases rdP s with
 | none=>rfl
 | some l=>
  dsimp only [map_some];have e:CE (l.map (·.1))=IY l:=by unfold CE IY; rw [map_map]; rfl
  rw [e];split<;>rfl
theorem Aey:Ac prog 37 (Ent.rd1 Wj).F:=by
 refine fcC (kc func82 rdq KnowsL.nil).knows (Λ:=(Aa [(5,JC)])) func37 fun vs bs r hq=>?_
 unfold Ent.F Wj at hq;dsimp only at hq;split at hq
 ·rename_i s;obtain ⟨hc,hx⟩:=Ad hq;refine ⟨YM,Eq.trans ?_ hx⟩;rw [TM,Ab hc];unfold Df
  cases e:CZ s with
  | none=>rfl
  | some l=>
   have hl:l.length<=40:=by
    rw [Ww] at e;obtain ⟨w,h1,rfl⟩:=map_eq_some_iff.1 e;rw [length_map]; exact (Kp h1).1
   dsimp only [isSome_some,getD_some];rw [Bool.not_true,AR,Ab (dcT ⟨by omega,by omega,rfl,rfl,rfl,by omega⟩),drop_zero];unfold JT;rw [show (CE l).length=l.length by unfold CE; simp];cases (range l.length).all (Ci (CE l))<;>rfl
 ·cases hq
def Bs:Nat->Nat->By×Nat
 | 0,n=>([],n)
 | f+1,n=>if 128<=n then (UInt8.ofNat (n % 128+128)::(Bs f (n / 128)).1,(Bs f (n / 128)).2) else ([],n)
def vbs (n:Nat):By:=(Bs 10 n).1++[UInt8.ofNat (Bs 10 n).2]
def fol (n:Int):Int:=if n<0 then -2*n-1 else 2*n
def svE:LoopEnt:=⟨22,[0,3],[0,3],[],fun
 | ([.j n,.s s],[])=>.need (decide (0<=n/\n<=1000000000000/\s.length<=1000)) (.leaf (.exit 0,([.j ((Bs 10 n.toNat).2:Int),.s (s++(Bs 10 n.toNat).1)],[])))
 | _=>.no⟩
def Y4:Gm
 | [.j n],[]=>.need (decide (0<=n/\n<=1000000000000)) (.leaf (.s (vbs n.toNat),[]))
 | _,_=>.no
def Sj:Gm
 | [.j n],[]=>.need (decide (-1000000000000<=n/\n<=1000000000000)) (.leaf (.j (fol n),[]))
 | _,_=>.no
theorem Pv (n:Int) (s:By):Au prog (Aa []) (Aa [(2,svE)]) 0 (body f105 0) svE ([.j n,.s s],[]) =
 ((ifB (decide (n>=128)) (ifT (decide (s.length+1<=9223372036854775807)) (some (Ex.normal,[V.j (n.fdiv ((2:Int) ^ min 7
 i64.bits)),V.s (s++List.map (fun n=>UInt8.ofNat n.toNat) (IntKind.u8.wrap (↑(BitVec.ofInt IntKind.u8.bits (IntKind.u8.wrap (i64.wrap (↑(BitVec.ofInt
 i64.bits n &&& BitVec.ofInt i64.bits (127:Int)).toNat:Int))) ||| BitVec.ofInt IntKind.u8.bits (128:Int)).toNat:Int)::Ag (Cd.int .u8).den))],
 []))) (some (Ex.exit 0,[V.j n,V.s s],[]))):_):=by kernel_rfl
theorem YJ (n:Int):AT prog (Aa []) (Aa [(2,svE)]) f105 [.j n] [] =
 ((ifT (decide (0<=n/\n<=1000000000000/\0<=1000)) (ifT (decide ((Ag UInt8++(Bs 10 n.toNat).1).length+1<=(9223372036854775807 :
 Nat))) (some (V.s (Ag UInt8++(Bs 10 n.toNat).1++List.map (fun n=>UInt8.ofNat n.toNat) (IntKind.u8.wrap (↑(Bs 10 n.toNat).2:Int)::Ag
 (Cd.int .u8).den)),[])))):_):=by kernel_rfl
theorem Afc (n:Nat):i64.wrap ((BitVec.ofInt i64.bits (n:Int) &&& BitVec.ofInt i64.bits (127:Int)).toNat:Int)=((n % 128:Nat):Int):=by
 have e:(BitVec.ofInt i64.bits (n:Int) &&& BitVec.ofInt i64.bits (127:Int)).toNat=n % 128:=by
  show (BitVec.ofInt 64 (n:Int) &&& BitVec.ofInt 64 ((127:Nat):Int)).toNat=n % 128;rw [BitVec.toNat_and,BitVec.ofInt_natCast,BitVec.ofInt_natCast,BitVec.toNat_ofNat,BitVec.toNat_ofNat,show 127 % 2 ^ 64=2 ^ 7-1 by decide,Nat.and_two_pow_sub_one_eq_mod];show n % 18446744073709551616 % 128=n % 128;omega
 rw [e,Av (by omega) (by omega)]
theorem Pg {n:Nat} (h:n<256):IntKind.u8.wrap (n:Int)=(n:Int):=by
 unfold IntKind.wrap;simp [IntKind.bits,IntKind.signed];omega
theorem Ae9 (x:Nat) (hx:x<128):IntKind.u8.wrap ((BitVec.ofInt IntKind.u8.bits (x:Int) ||| BitVec.ofInt IntKind.u8.bits (128:Int)).toNat:Int)=((x+128:Nat):Int):=by
 have e:(BitVec.ofInt IntKind.u8.bits (x:Int) ||| BitVec.ofInt IntKind.u8.bits (128:Int)).toNat=x+128:=by
  show (BitVec.ofInt 8 (x:Int) ||| BitVec.ofInt 8 ((128:Nat):Int)).toNat=_;rw [BitVec.toNat_or,BitVec.ofInt_natCast,BitVec.ofInt_natCast,BitVec.toNat_ofNat,BitVec.toNat_ofNat,Nat.mod_eq_of_lt (by omega),Nat.mod_eq_of_lt (by omega),Nat.or_comm,show (128:Nat)=2 ^ 7*1 by decide,<-Nat.two_pow_add_eq_or_of_lt (by omega) 1];omega
 rw [e,Pg (by omega)]
theorem Kc : ∀ (f n:Nat),n<128 ^ (f+1)->(Bs f n).2<128/\(Bs f n).1.length<=f
 | 0,n,h=>⟨by simpa [Bs] using h,by simp [Bs]⟩
 | f+1,n,h=>by
  rw [Bs];split
  ·rw [pow_succ] at h;have:=Kc f (n / 128) (Nat.div_lt_of_lt_mul (by omega));exact ⟨this.1,by simp; omega⟩
  ·exact ⟨by dsimp only; omega,by simp⟩
theorem GK {n:Nat} (h:n<=1000000000000):1<=(vbs n).length/\(vbs n).length<=11:=by
 have:=(Kc 10 n (by have:(128:Nat) ^ 11=151115727451828646838272:=(by decide); omega)).2;unfold vbs;rw [length_append,length_singleton];omega
theorem SG : ∀ (f n:Nat) (s:By),n<128 ^ f->f<=10->s.length<=1000+(10-f)->
  Runs prog (Aa []) (Aa [(2,svE)]) 0 (body f105 0) svE ([.j (n:Int),.s s],[]) (.exit 0) ([.j ((Bs f n).2:Int),.s (s++(Bs f n).1)],[])
 | 0,n,s,h,hf,hs=>by
  have:n=0:=by simpa using h
  subst this;have hr:=Pv ((0:Nat):Int) s;rw [Ae (dcF (by omega))] at hr;rw [Bs,append_nil];exact stp hr
 | f+1,n,s,h,hf,hs=>by
  have hr:=Pv (n:Int) s
  by_cases q:128<=n
  ·have hn:n<128 ^ 10:=Nat.lt_of_lt_of_le h (Nat.pow_le_pow_right (by omega) hf);have hn2:n<2 ^ 63\/2 ^ 63<=n:=by omega
   rw [Af (dcT (by omega)),Ab (dcT (by omega)),Afc n,Pg (n:=n % 128) (by omega),Ae9 (n % 128) (by omega)] at hr
   have e1:fdiv (n:Int) ((2:Int) ^ min 7 i64.bits)=((n / 128:Nat):Int):=by
    show fdiv (n:Int) ((128:Nat):Int)=_;rw [Int.fdiv_eq_ediv_of_nonneg _ (by omega)];rfl
   rw [e1] at hr;rw [pow_succ] at h;have ih:=SG f (n / 128) (s++[UInt8.ofNat (n % 128+128)]) (Nat.div_lt_of_lt_mul (by omega)) (by omega) (by simp; omega);rw [Bs,if_pos q];dsimp only;rw [append_assoc] at ih;exact sts hr ih
  ·rw [Ae (dcF (by omega))] at hr;rw [Bs,if_neg q,append_nil];exact stp hr
theorem Aew:Aw prog (Aa []) (Aa [(2,svE)]) 0 (f105.body.getD .skip):=by
 refine As (a:=body f105 0) (by kernel_rfl) fun d ex d' h=>?_
 unfold svE at h;dsimp only at h;split at h
 ·rename_i n s;obtain ⟨hc,hx⟩:=Ad h;clear h;obtain ⟨h0,h1,h2⟩:=of_decide_eq_true hc;obtain ⟨n,rfl⟩:=eq_ofNat_of_zero_le h0;rw [ntN] at hx;obtain ⟨rfl,rfl⟩:=lfP hx;exact SG 10 n s (by have:(128:Nat) ^ 10=1180591620717411303424:=(by decide); omega) (by omega) (by omega)
 ·cases h
theorem sv:Ac prog 105 (Ent.rd1 Y4).F:=by
 refine fcK KnowsL.nil.knows (Λ:=Aa [(2,svE)]) func105 fun vs bs r hq=>?_
 unfold Ent.F Y4 at hq;dsimp only at hq;split at hq
 ·rename_i n;obtain ⟨hc,hx⟩:=Ad hq;obtain ⟨h0,h1⟩:=of_decide_eq_true hc;obtain ⟨n,rfl⟩:=eq_ofNat_of_zero_le h0;rw [ntN] at hx;refine ⟨Aew,Eq.trans ?_ hx⟩;have hl:=Kc 10 n (by have:(128:Nat) ^ 11=151115727451828646838272:=(by decide); omega);rw [YJ,Ab (dcT ⟨h0,h1,by simp⟩),ntN];simp only [A7,nil_append];rw [Ab (dcT (by omega)),Pg (by omega)];rfl
 ·cases hq
theorem TR (n:Int):AT prog (Aa []) (Aa []) f106 [.j n] [] =
 ((ifB (decide (n>=0)) (some (V.j (i64.wrap (2*n)),[])) (some (V.j (i64.wrap (i64.wrap ((-2:Int)*n)-(1:Int))),[]))):_):=by kernel_rfl
theorem VW (n:Int) (hc : -1000000000000<=n/\n<=1000000000000):AT prog (Aa []) (Aa []) f106 [.j n] []=(.leaf (.j (fol n),[]):Br (V×List (Option Blk))).run:=by
 rw [TR];unfold fol
 by_cases q:n<0
 ·rw [Ae (dcF (by omega)),if_pos q,Av (n:=-2*n) (by omega) (by omega),Av (by omega) (by omega)]; rfl
 ·rw [Af (dcT (by omega)),if_neg q,Av (by omega) (by omega)]; rfl
theorem Ae1:Ac prog 106 (Ent.rd1 Sj).F:=by
 refine fcK KnowsL.nil.knows (Λ:=Aa []) func106 fun vs bs r' hq=>?_
 unfold Ent.F Sj at hq;dsimp only at hq;split at hq
 ·rename_i n;obtain ⟨hc,hx⟩:=Ad hq;exact ⟨Ao _,(VW n (of_decide_eq_true hc)).trans hx⟩
 ·cases hq
def u8 (s:By):List Int:=s.map fun z=>((z.toNat:Nat):Int)
def Gk:LoopEnt:=⟨20,[0,1],[0,1],[],fun
 | ([.ref 0 0 m,.j n],[R0 (.int .u8) o])=>.need (decide (m=o.length/\0<=n/\n<=1000000000000/\o.length<=1000000)) (.br (decide (n<128)) (.leaf (.exit 0,([.ref 0 0 m,.j n],[R0 (.int .u8) o]))) (.leaf (.exit 0,([.ref 1 0 (o++u8 (Bs 10 n.toNat).1).length,.j ((Bs 10 n.toNat).2:Int)],[none,R0 (.int .u8) (o++u8 (Bs 10 n.toNat).1)]))))
 | _=>.no⟩
def Gl:LoopEnt:=⟨20,[0,1],[0,1],[],fun
 | ([.nl,.j n],[])=>.need (decide (0<=n/\n<=1000000000000)) (.br (decide (n<128)) (.leaf (.exit 0,([.nl,.j n],[]))) (.leaf (.exit 0,([.ref 0 0 (u8 (Bs 10 n.toNat).1).length,.j ((Bs 10 n.toNat).2:Int)],[R0 (.int .u8) (u8 (Bs 10 n.toNat).1)]))))
 | _=>.no⟩
def V5:Gm
 | [.ref 0 0 m,.j n],[.row false _ (.int .u8) o]=>.need (decide (m=o.length/\0<=n/\n<=1000000000000/\o.length<=1000000)) (.leaf (.ref 1 0 (o++u8 (vbs n.toNat)).length,[none,R0 (.int .u8) (o++u8 (vbs n.toNat))]))
 | _,_=>.no
def V6:Gm
 | [.nl,.j n],[]=>.need (decide (0<=n/\n<=1000000000000)) (.leaf (.ref 0 0 (u8 (vbs n.toNat)).length,[R0 (.int .u8) (u8 (vbs n.toNat))]))
 | _,_=>.no
def orG (f g:List V->List Blk->Br (V×List (Option Blk))) (vs:List V) (bs:List Blk):Br (V×List (Option Blk)):=match bs with | []=>g vs bs | _=>f vs bs
def Abj:List V->List Blk->Br (V×List (Option Blk)):=orG V5 V6
theorem Aet (m:Nat) (n:Int) (o:List Int):Au prog (Aa []) (Aa [(1,Gk)]) 1 (body f131 0) Gk ([.ref 0 0 m,.j n],[R0 (.int .u8) o]) =
 ((ifB (decide (n>=128)) (ifT (decide ((m+1)*1<=140737488355328)&&decide (m+1<=maxI)) (some (Ex.normal,[V.ref 1 0 (m+1),
 V.j (n.fdiv ((2:Int) ^ min 7 i64.bits))],[none,R0 (Cd.int .u8) (take m (drop 0 o)++IntKind.u8.wrap
 (↑(BitVec.ofInt IntKind.u8.bits (IntKind.u8.wrap n) ||| BitVec.ofInt IntKind.u8.bits (128:Int)).toNat:Int)::Ag (Cd.int .u8).den)]))) (some (Ex.exit 0,[V.ref 0 0
 m,V.j n],[R0 (Cd.int .u8) o]))):_):=by kernel_rfl
theorem Aa4 (m:Nat) (n:Int) (o:List Int):Au prog (Aa []) (Aa [(1,Gk)]) 1 (body f131 0) Gk ([.ref 1 0 m,.j n],[none,R0 (.int .u8) o]) =
 ((ifB (decide (n>=128)) (ifT (decide ((m+1)*1<=140737488355328)&&decide (m+1<=maxI)) (some (Ex.normal,[V.ref 1 0 (m+1),
 V.j (n.fdiv ((2:Int) ^ min 7 i64.bits))],[none,R0 (Cd.int .u8) (take m (drop 0 o)++IntKind.u8.wrap
 (↑(BitVec.ofInt IntKind.u8.bits (IntKind.u8.wrap n) ||| BitVec.ofInt IntKind.u8.bits (128:Int)).toNat:Int)::Ag (Cd.int .u8).den)]))) (some (Ex.exit 0,[V.ref 1 0
 m,V.j n],[none,R0 (Cd.int .u8) o]))):_):=by kernel_rfl
theorem Aeu (n:Int):Au prog (Aa []) (Aa [(1,Gl)]) 0 (body f131 0) Gl ([.nl,.j n],[]) =
 ((ifB (decide (n>=128)) (some (Ex.normal,[V.ref 0 0 1,V.j (n.fdiv ((2:Int) ^ min 7 i64.bits))],[R0 (Cd.int .u8)
 (IntKind.u8.wrap (↑(BitVec.ofInt IntKind.u8.bits (IntKind.u8.wrap n) ||| BitVec.ofInt IntKind.u8.bits (128:Int)).toNat:Int)::Ag (Cd.int .u8).den)])) (some
 (Ex.exit 0,[V.nl,V.j n],[]))):_):=by kernel_rfl
theorem Aa5 (m:Nat) (n:Int) (o:List Int):Au prog (Aa []) (Aa [(1,Gl)]) 0 (body f131 0) Gl ([.ref 0 0 m,.j n],[R0 (.int .u8) o]) =
 ((ifB (decide (n>=128)) (ifT (decide ((m+1)*1<=140737488355328)&&decide (m+1<=maxI)) (some (Ex.normal,[V.ref 0 0 (m+1),
 V.j (n.fdiv ((2:Int) ^ min 7 i64.bits))],[R0 (Cd.int .u8) (take m (drop 0 o)++IntKind.u8.wrap
 (↑(BitVec.ofInt IntKind.u8.bits (IntKind.u8.wrap n) ||| BitVec.ofInt IntKind.u8.bits (128:Int)).toNat:Int)::Ag (Cd.int .u8).den)]))) (some (Ex.exit 0,[V.ref 0 0
 m,V.j n],[R0 (Cd.int .u8) o]))):_):=by kernel_rfl
theorem TD (m:Nat) (n:Int) (o:List Int) (nl:Option Bool):Bm prog (Aa []) (Aa [(1,Gk)]) f131 [.ref 0 0 m,.j n] [.row false nl (.int .u8) o] =
 ((ifT (decide (m=o.length/\0<=n/\n<=1000000000000/\o.length<=1000000)) (ifB (decide (n<128)) (ifT (decide ((m+1)*1<=(140737488355328 :
 Nat))&&decide (m+1<=maxI)) (some (V.ref 1 0 (m+1),[none,R0 (Cd.int .u8) (take m (drop 0 o)++
 IntKind.u8.wrap n::Ag (Cd.int .u8).den)]))) (ifT (decide (((o++u8 (Bs 10 n.toNat).1).length+1)*1<=140737488355328)&&
 decide ((o++u8 (Bs 10 n.toNat).1).length+1<=maxI)) (some (V.ref 1 0 ((o++u8 (Bs 10 n.toNat).1).length+1),[none,R0 (Cd.int .u8) (take (o++u8 (Bs 10 n.toNat).1).length (drop 0 (o++u8 (Bs 10 n.toNat).1))++
 IntKind.u8.wrap (↑(Bs 10 n.toNat).2:Int)::Ag (Cd.int .u8).den)]))))):_):=by kernel_rfl
theorem TE (n:Int):Bm prog (Aa []) (Aa [(1,Gl)]) f131 [.nl,.j n] [] =
 ((ifT (decide (0<=n/\n<=1000000000000)) (ifB (decide (n<128)) (some (V.ref 0 0 1,[R0 (Cd.int .u8) (IntKind.u8.wrap n::Ag (Cd.int
 .u8).den)])) (ifT (decide (((u8 (Bs 10 n.toNat).1).length+1)*1<=140737488355328)&&decide ((u8 (Bs 10
 n.toNat).1).length+1<=maxI)) (some (V.ref 0 0 ((u8 (Bs 10 n.toNat).1).length+1),[R0 (Cd.int .u8) (take (u8
 (Bs 10 n.toNat).1).length (drop 0 (u8 (Bs 10 n.toNat).1))++IntKind.u8.wrap (↑(Bs 10 n.toNat).2:Int)::Ag (Cd.int
 .u8).den)]))))):_):=by kernel_rfl
theorem Ki (z:UInt8) (s:By):u8 (z::s)=((z.toNat:Nat):Int)::u8 s:=rfl
theorem IP (a b:By):u8 (a++b)=u8 a++u8 b:=by unfold u8; rw [List.map_append]
theorem Gn (a:By):(u8 a).length=a.length:=by unfold u8; rw [length_map]
theorem SC (a:By):(u8 a).map (fun n:Int=>UInt8.ofNat n.toNat)=a:=by
 unfold u8;rw [map_map]
 conv=>rhs; rw [<-List.map_id a]
 exact List.map_congr_left fun z _=>by simp
theorem Aeq (n:Nat):IntKind.u8.wrap (n:Int)=((n % 256:Nat):Int):=by
 unfold IntKind.wrap;simp [IntKind.bits,IntKind.signed]
theorem Oi (n:Nat):IntKind.u8.wrap ((BitVec.ofInt IntKind.u8.bits (IntKind.u8.wrap (n:Int)) ||| BitVec.ofInt IntKind.u8.bits (128:Int)).toNat:Int)=(((UInt8.ofNat (n % 128+128)).toNat:Nat):Int):=by
 have key : ∀ x,x<256->(BitVec.ofNat 8 x ||| BitVec.ofNat 8 128).toNat=x % 128+128:=by decide
 have e:(BitVec.ofInt IntKind.u8.bits (IntKind.u8.wrap (n:Int)) ||| BitVec.ofInt IntKind.u8.bits (128:Int)).toNat=n % 128+128:=by
  rw [Aeq];show (BitVec.ofInt 8 ((n % 256:Nat):Int) ||| BitVec.ofInt 8 ((128:Nat):Int)).toNat=_;rw [BitVec.ofInt_natCast,BitVec.ofInt_natCast,key (n % 256) (by omega)];omega
 rw [e,Pg (by omega)]
 have:(UInt8.ofNat (n % 128+128)).toNat=n % 128+128:=by
  rw [UInt8.toNat_ofNat']; omega
 rw [this]
theorem Aer {n:Nat} (h:n<128):IntKind.u8.wrap (n:Int)=(((UInt8.ofNat n).toNat:Nat):Int):=by
 rw [Pg (by omega)];have:(UInt8.ofNat n).toNat=n:=by rw [UInt8.toNat_ofNat']; omega
 rw [this]
theorem YN (n:Nat):fdiv (n:Int) ((2:Int) ^ min 7 i64.bits)=((n / 128:Nat):Int):=by
 show fdiv (n:Int) ((128:Nat):Int)=_;rw [Int.fdiv_eq_ediv_of_nonneg _ (by omega)];rfl
theorem DV {f n:Nat} (h:128<=n):Bs (f+1) n=(UInt8.ofNat (n % 128+128)::(Bs f (n / 128)).1,(Bs f (n / 128)).2):=by rw [Bs,if_pos h]
theorem CX {f n:Nat} (h:n<128):Bs f n=([],n):=by
 cases f with
 | zero=>rfl
 | succ f=>rw [Bs,if_neg (by omega)]
theorem Ie (f n:Nat):(Bs f n).1.length<=f:=by
 induction f generalizing n with
 | zero=>rw [Bs]; exact le_refl _
 | succ f ih=>
  rw [Bs];split
  ·have:=ih (n / 128);rw [length_cons]; omega
  ·exact zero_le _
theorem MO : ∀ (f n:Nat) (o:List Int),n<128 ^ f->f<=10->o.length+f<=1000010->
  Runs prog (Aa []) (Aa [(1,Gk)]) 1 (body f131 0) Gk ([.ref 1 0 o.length,.j (n:Int)],[none,R0 (.int .u8) o]) (.exit 0) ([.ref 1 0 (o++u8 (Bs f n).1).length,.j ((Bs f n).2:Int)],[none,R0 (.int .u8) (o++u8 (Bs f n).1)])
 | 0,n,o,h,hf,ho=>by
  have:n=0:=by simpa using h
  subst this;have hr:=Aa4 o.length ((0:Nat):Int) o;rw [Ae (dcF (by omega))] at hr;rw [Bs,show u8 []=[] from rfl,append_nil];exact stp hr
 | f+1,n,o,h,hf,ho=>by
  have hM:=mxI;have hr:=Aa4 o.length (n:Int) o
  by_cases q:128<=n
  ·rw [Af (dcT (by omega)),T2 (by omega),Oi,YN,drop_zero,take_length] at hr;rw [pow_succ] at h;have ih:=MO f (n / 128) (o++[(((UInt8.ofNat (n % 128+128)).toNat:Nat):Int)]) (Nat.div_lt_of_lt_mul (by omega)) (by omega) (by simp; omega);rw [length_append,length_singleton,append_assoc] at ih;rw [DV q];dsimp only;rw [Ki];exact sts hr ih
  ·rw [Ae (dcF (by omega))] at hr;rw [CX (by omega),show u8 []=[] from rfl,append_nil];exact stp hr
theorem MP : ∀ (f n:Nat) (o:List Int),n<128 ^ f->f<=10->o.length+f<=1000010->
  Runs prog (Aa []) (Aa [(1,Gl)]) 0 (body f131 0) Gl ([.ref 0 0 o.length,.j (n:Int)],[R0 (.int .u8) o]) (.exit 0) ([.ref 0 0 (o++u8 (Bs f n).1).length,.j ((Bs f n).2:Int)],[R0 (.int .u8) (o++u8 (Bs f n).1)])
 | 0,n,o,h,hf,ho=>by
  have:n=0:=by simpa using h
  subst this;have hr:=Aa5 o.length ((0:Nat):Int) o;rw [Ae (dcF (by omega))] at hr;rw [Bs,show u8 []=[] from rfl,append_nil];exact stp hr
 | f+1,n,o,h,hf,ho=>by
  have hM:=mxI;have hr:=Aa5 o.length (n:Int) o
  by_cases q:128<=n
  ·rw [Af (dcT (by omega)),T2 (by omega),Oi,YN,drop_zero,take_length] at hr;rw [pow_succ] at h;have ih:=MP f (n / 128) (o++[(((UInt8.ofNat (n % 128+128)).toNat:Nat):Int)]) (Nat.div_lt_of_lt_mul (by omega)) (by omega) (by simp; omega);rw [length_append,length_singleton,append_assoc] at ih;rw [DV q];dsimp only;rw [Ki];exact sts hr ih
  ·rw [Ae (dcF (by omega))] at hr;rw [CX (by omega),show u8 []=[] from rfl,append_nil];exact stp hr
theorem p10 {n:Nat} (h:(n:Int)<=1000000000000):n<128 ^ 10/\n / 128<128 ^ 9:=by
 have a:(128:Nat) ^ 10=1180591620717411303424:=by decide
 have b:(128:Nat) ^ 9=9223372036854775808:=by decide
 omega
theorem Y7:Aw prog (Aa []) (Aa [(1,Gk)]) 1 (f131.body.getD .skip):=by
 refine As (a:=body f131 0) (by kernel_rfl) fun d ex d' h=>?_
 unfold Gk at h;dsimp only at h;split at h
 ·rename_i m n o;obtain ⟨hc,hx⟩:=Ad h;clear h;obtain ⟨rfl,h0,h1,h2⟩:=of_decide_eq_true hc;obtain ⟨n,rfl⟩:=eq_ofNat_of_zero_le h0;rw [ntN] at hx;have hM:=mxI;have hr:=Aet o.length (n:Int) o
  by_cases q:n<128
  ·rw [Ae (dcF (by omega))] at hr;rw [S2 (dcT (by omega))] at hx;obtain ⟨rfl,rfl⟩:=lfP hx;exact stp hr
  ·rw [Af (dcT (by omega)),T2 (by omega),Oi,YN,drop_zero,take_length] at hr;rw [Vl (dcF (by omega)),DV (by omega)] at hx;obtain ⟨rfl,rfl⟩:=lfP hx;have ih:=MO 9 (n / 128) (o++[(((UInt8.ofNat (n % 128+128)).toNat:Nat):Int)]) (p10 h1).2 (by omega) (by simp; omega);rw [length_append,length_singleton,append_assoc] at ih;rw [Ki];exact sts hr ih
 ·cases h
theorem Y8:Aw prog (Aa []) (Aa [(1,Gl)]) 0 (f131.body.getD .skip):=by
 refine As (a:=body f131 0) (by kernel_rfl) fun d ex d' h=>?_
 unfold Gl at h;dsimp only at h;split at h
 ·rename_i n;obtain ⟨hc,hx⟩:=Ad h;clear h;obtain ⟨h0,h1⟩:=of_decide_eq_true hc;obtain ⟨n,rfl⟩:=eq_ofNat_of_zero_le h0;rw [ntN] at hx;have hr:=Aeu (n:Int)
  by_cases q:n<128
  ·rw [Ae (dcF (by omega))] at hr;rw [S2 (dcT (by omega))] at hx;obtain ⟨rfl,rfl⟩:=lfP hx;exact stp hr
  ·rw [Af (dcT (by omega)),Oi,YN] at hr;rw [Vl (dcF (by omega)),DV (by omega)] at hx;obtain ⟨rfl,rfl⟩:=lfP hx;have ih:=MP 9 (n / 128) [(((UInt8.ofNat (n % 128+128)).toNat:Nat):Int)] (p10 h1).2 (by omega) (by simp);rw [Ki];exact sts hr ih
 ·cases h
theorem V2 {n:Nat} (h:(n:Int)<=1000000000000):u8 (vbs n)=u8 (Bs 10 n).1++[IntKind.u8.wrap ((Bs 10 n).2:Int)]:=by
 have:=Kc 10 n (by have:=(p10 h).1; rw [pow_succ]; omega);unfold vbs;rw [IP,Aer this.1]; rfl
theorem V7 (m:Nat) (n:Int) (o:List Int) (nl:Option Bool) (hc:m=o.length/\0<=n/\n<=1000000000000/\o.length<=1000000):Bm prog (Aa []) (Aa [(1,Gk)]) f131 [.ref 0 0 m,.j n] [.row false nl (.int .u8) o]=some (.ref 1 0 (o++u8 (vbs n.toNat)).length,[none,R0 (.int .u8) (o++u8 (vbs n.toNat))]):=by
 rw [TD,Ab (dcT hc)];obtain ⟨rfl,h0,h1,h2⟩:=hc;obtain ⟨n,rfl⟩:=eq_ofNat_of_zero_le h0;have hM:=mxI;have hp:=Ie 10 n;rw [ntN,V2 h1]
 by_cases q:n<128
 ·rw [Af (dcT (by omega)),T2 (by omega),CX q];simp only [drop_zero,take_length,A7,show u8 []=[] from rfl,nil_append,length_append,length_singleton]
 ·rw [Ae (dcF (by omega)),Ab (by simp only [anE,dcE,length_append,Gn]; omega)];simp only [drop_zero,take_length];simp only [A7,<-append_assoc,length_append,length_singleton]
theorem V8 (n:Int) (hc:0<=n/\n<=1000000000000):Bm prog (Aa []) (Aa [(1,Gl)]) f131 [.nl,.j n] []=some (.ref 0 0 (u8 (vbs n.toNat)).length,[R0 (.int .u8) (u8 (vbs n.toNat))]):=by
 rw [TE,Ab (dcT hc)];obtain ⟨h0,h1⟩:=hc;obtain ⟨n,rfl⟩:=eq_ofNat_of_zero_le h0;have hM:=mxI;have hp:=Ie 10 n;rw [ntN,V2 h1]
 by_cases q:n<128
 ·rw [Af (dcT (by omega)),CX q];rfl
 ·rw [Ae (dcF (by omega)),Ab (by simp only [anE,dcE,Gn]; omega)];simp only [drop_zero,take_length];simp only [A7,length_append,length_singleton]
theorem QO {P:Program} {K:FuncId} {F F' G:List V->List Blk->Option (V×List (Option Blk))} (h:Ac P K F) (h':Ac P K F') (hG : ∀ vs bs r,G vs bs=some r->F vs bs=some r\/F' vs bs=some r):Ac P K G:=by
 intro w R μ vs us bs r outs hm hn hr hG1;rcases hG vs bs _ hG1 with h1 | h1
 ·exact h w R μ vs us bs r outs hm hn hr h1
 ·exact h' w R μ vs us bs r outs hm hn hr h1
theorem Afp:Ac prog 131 (Ent.own V5).F:=by
 refine fcC KnowsL.nil.knows (Λ:=(Aa [(1,Gk)])) func131 fun vs bs r hq=>?_
 unfold Ent.F V5 at hq;dsimp only at hq;split at hq
 ·rename_i m n nl o;obtain ⟨hc,hx⟩:=Ad hq;exact ⟨Y7,(V7 m n o nl (of_decide_eq_true hc)).trans hx⟩
 ·cases hq
theorem Afq:Ac prog 131 (Ent.own V6).F:=by
 refine fcC KnowsL.nil.knows (Λ:=(Aa [(1,Gl)])) func131 fun vs bs r hq=>?_
 unfold Ent.F V6 at hq;dsimp only at hq;split at hq
 ·rename_i n;obtain ⟨hc,hx⟩:=Ad hq;exact ⟨Y8,(V8 n (of_decide_eq_true hc)).trans hx⟩
 ·cases hq
theorem Agp:Ac prog 131 (Ent.own Abj).F:=by
 refine QO Afp Afq fun vs bs r h=>?_
 unfold Ent.F Abj orG at h;dsimp only at h;split at h
 ·exact .inr h
 ·exact .inl h
theorem UE (n:Int):AT prog (Aa []) (Aa []) f132 [.j n] [] =
 ((ifB (decide (n<0)) (some (V.j (i64.wrap (i64.wrap ((-2:Int)*n)-(1:Int))),[])) (some (V.j (i64.wrap (2*n)),[]))):_):=by kernel_rfl
theorem Xl (n:Int) (hc : -1000000000000<=n/\n<=1000000000000):AT prog (Aa []) (Aa []) f132 [.j n] []=some (.j (fol n),[]):=by
 obtain ⟨h0,h1⟩:=hc;rw [UE];unfold fol
 by_cases q:n<0
 ·rw [Af (dcT q),if_pos q,Av (n:=-2*n) (by omega) (by omega),Av (by omega) (by omega)]
 ·rw [Ae (dcF q),if_neg q,Av (by omega) (by omega)]
theorem Agr:Ac prog 132 (Ent.rd1 Sj).F:=by
 refine fcK KnowsL.nil.knows (Λ:=Aa []) func132 fun vs bs r hq=>?_
 unfold Ent.F Sj at hq;dsimp only at hq;split at hq
 ·rename_i n;obtain ⟨hc,hx⟩:=Ad hq;exact ⟨Ao _,(Xl n (of_decide_eq_true hc)).trans hx⟩
 ·cases hq
def fb1 (f:WFd):By:=vbs (8*f.1+f.2.1).toNat++(if f.2.1=0 then vbs (fol f.2.2.1).toNat else vbs f.2.2.2.1.length++f.2.2.2.1)
def fbs (l:List WFd):By:=l.flatMap fb1
theorem DO {f:WFd} (h:AJ f=true):(1<=f.1/\f.1<=30)/\((f.2.1=0/\BX f.2.2.1=true/\f.2.2.2.1=[])\/(f.2.1=2/\f.2.2.1=0)):=by
 unfold AJ at h;simp only [anE,dcE] at h;obtain ⟨h1,h2⟩:=h;refine ⟨h1,?_⟩;split at h2
 ·rename_i q;simp only [anE,beq_iff_eq] at h2;exact .inl ⟨q,h2.1,h2.2⟩
 ·split at h2
  ·rename_i q;exact .inr ⟨q,by simpa using h2⟩
  ·cases h2
theorem GM {n:Int} (h:BX n=true) : -1000000000<=n/\n<=1000000000:=by
 unfold BX at h
 simpa only [anE,dcE] using h
theorem DB {n:Int} (h : -1000000000<=n/\n<=1000000000):0<=fol n/\fol n<=2000000000:=by
 unfold fol; split<;>omega
theorem Db (f:WFd) (l:List WFd):fbs (f::l)=fb1 f++fbs l:=by unfold fbs; rw [flatMap_cons]
def fkB (z:Rose Lab):Bool:=z.lab.1==1||z.lab.1==3
def A1 (z:Rose Lab) (n no:Int):Option (Rose A4):=if BX n=true/\(z.lab.1=1\/(0<=n/\n<=z.lab.2.2.2.2.1)) then some (.node (n,[],no,false,()) []) else none
def BC (num:Bool) (N:Int->Option (Rose A4)) (D:By->Option (Rose A4)) (s:By):Nat->Nat->Option RVL
 | 0,a=>if a<s.length then none else some []
 | f+1,a=>if a<s.length then (match num with
  | true=>(match N (unf (A8 (Ai s a))) with
   | some v=>if BP (Ai s a)=true then (BC num N D s f (Ax a (Ai s a)).toNat).map (v::·) else none
   | none=>none)
  | false=>(match (Bd s a).2.2 with
   | true=>(match D (Bd s a).1 with
    | some v=>(BC num N D s f (Bd s a).2.1.toNat).map (v::·)
    | none=>none)
   | false=>none)) else some []
mutual
def AI:Rose Lab->By->Int->Option (Rose A4)
 | .node x ks,s,no=>
  if x.1=2 then (if s.length<=30 then some (.node (0,s,no,false,()) []) else none)
  else if x.1=4 then (Dp ks s).map fun vs=>.node (0,[],no,true,()) vs
  else (match Df s with
   | some fs=>(Bf ks fs).map fun vs=>.node (0,[],no,true,()) vs
   | none=>none)
def Dp:RL->By->Option RVL
 | [],_=>none
 | z::_,s=>BC (fkB z) (fun n=>A1 z n 0) (fun d=>AI z d 0) s s.length 0
def Bf:RL->List WFd->Option RVL
 | [],_=>some []
 | p::ks,fs=>match fs.find? fun f=>f.1==p.lab.2.2.1 with
  | none=>if p.lab.2.2.2.1=true then none else Bf ks fs
  | some f=>if (f.2.1==0)=fkB p then (match (if (f.2.1==0)=true then A1 p f.2.2.1 p.lab.2.2.1 else AI p f.2.2.2.1 p.lab.2.2.1) with
   | some v=>(Bf ks fs).map (v::·)
   | none=>none) else none
end
def Dh (p:Rose Lab) (f:WFd):Option (Rose A4):=if (f.2.1==0)=fkB p then (if (f.2.1==0)=true then A1 p f.2.2.1 f.1 else AI p f.2.2.2.1 f.1) else none
def B7 (ks:RL):List WFd->Option RVL
 | []=>some []
 | f::fs=>if AN f.1 ks=true then (match Dh (byR f.1 ks) f with
  | some v=>(B7 ks fs).map (v::·)
  | none=>none) else B7 ks fs
def RY:Gm
 | [.tp LCd z 0],[]=>.leaf (.j (if fkB z=true then 0 else 2),[])
 | _,_=>.no
def NF:Gm
 | [.tp LCd z 0,.ref 0 0 m,.j n,.j no,.j up],[.row false _ NCd o]=>.need (decide (m=o.length/\o.length<=2000000)) (.leaf (.tup [.ref 1 0 (o.length+1),.b (A1 z n no).isSome],[none,R0 NCd (o++[(n,[],no,up,false,())])]))
 | _,_=>.no
def Sr:Gm
 | [.agg [.j fo,.j _,.j _,.s _,.j _],.bx [.tp LCd p 0] 0],[]=>.leaf (.b (fo==p.lab.2.2.1),[])
 | _,_=>.no
def dfE  : LoopEnt:=⟨19,[0,1,4,7,8],[],[4],fun
 | ([.sl PCd l,.fn 126 [] [.ptr 0 0],.j _,.j k,.j i],[some (.box [.tp LCd p 0])])=>
  .need (decide (0<=i/\i.toNat<=l.length/\l.length<=maxI/\k=l.length)) (.br (decide (A9 (fun z:Pl=>z.1.1==p.lab.2.2.1) i.toNat (l.drop i.toNat)<0)) (.leaf (.exit 0,([],[some (.box [.tp LCd p 0])]))) (.leaf (.ret,([.j (A9 (fun z:Pl=>z.1.1==p.lab.2.2.1) i.toNat (l.drop i.toNat))],[some (.box [.tp LCd p 0])]))))
 | _=>.no⟩
def UZ  : Gm
 | [.sl PCd l,.fn 126 [] [.ptr 0 0]],[.box [.tp LCd p 0]]=>.leaf (.j (A9 (fun z:Pl=>z.1.1==p.lab.2.2.1) 0 l),[some (.box [.tp LCd p 0])])
 | _,_=>.no
theorem NJ {z:Rose Lab} {n no:Int} {v:Rose A4} (h:A1 z n no=some v):v.lab.2.2.1=no:=by
 unfold A1 at h;split at h
 ·cases h; rfl
 ·cases h
theorem OL {z:Rose Lab} {s:By} {no:Int} {v:Rose A4} (h:AI z s no=some v):v.lab.2.2.1=no:=by
 obtain ⟨x,ks⟩:=z;unfold AI at h;split at h
 ·split at h
  ·cases h; rfl
  ·cases h
 ·split at h
  ·obtain ⟨vs,_,rfl⟩:=map_eq_some_iff.1 h; rfl
  ·split at h
   ·obtain ⟨vs,_,rfl⟩:=map_eq_some_iff.1 h; rfl
   ·cases h
theorem Ej {p:Rose Lab} {f:WFd} {v:Rose A4} (h:Dh p f=some v):v.lab.2.2.1=f.1:=by
 unfold Dh at h;split at h
 ·split at h
  ·exact NJ h
  ·exact OL h
 ·cases h
theorem Bv (p:Rose Lab) (ks:RL) (fs:List WFd):Bf (p::ks) fs=(match fs.find? fun f=>f.1==p.lab.2.2.1 with
  | none=>if p.lab.2.2.2.1=true then none else Bf ks fs
  | some f=>(match Dh p f with
   | some v=>(Bf ks fs).map (v::·)
   | none=>none)):=by
 rw [Bf]
 cases hf:fs.find? (fun f=>f.1==p.lab.2.2.1) with
 | none=>rfl
 | some f=>
  have hfe:f.1=p.lab.2.2.1:=by simpa using List.find?_some hf
  unfold Dh;dsimp only;rw [<-hfe]
  by_cases q:(f.2.1==0)=fkB p
  ·rw [if_pos q,if_pos q]; all_goals rfl
  ·rw [if_neg q,if_neg q]
theorem Jx {f:WFd} {fs:List WFd} : ∀ {ks:RL},(∀ y∈ks,y.lab.2.2.1≠f.1)->Bf ks (f::fs)=Bf ks fs
 | [],_=>by rw [Bf,Bf]
 | p::ks,h=>by
  have hp : ¬(f.1==p.lab.2.2.1)=true:=by have:=h p (by simp); simpa using fun e=>this e.symm
  rw [Bv,Bv,List.find?_cons_of_neg (p:=fun f:WFd=>f.1==p.lab.2.2.1) hp,Jx (fun y hy=>h y (mem_cons_of_mem _ hy))]
theorem Ju {p:Rose Lab} {ks:RL} : ∀ {fs:List WFd},(∀ f∈fs,f.1≠p.lab.2.2.1)->B7 (p::ks) fs=B7 ks fs
 | [],_=>by rw [B7,B7]
 | f::fs,h=>by
  obtain ⟨e1,e2⟩:=E8 (z:=p) (ks:=ks) (h f (by simp));rw [B7,B7,e1,e2,Ju (fun g hg=>h g (mem_cons_of_mem _ hg))]
theorem Mg {ks:RL} : ∀ {fs:List WFd} {vs:RVL},B7 ks fs=some vs->∀ v∈vs,∃ f∈fs,v.lab.2.2.1=f.1
 | [],vs,h,v,hv=>by rw [B7] at h; cases h; cases hv
 | f::fs,vs,h,v,hv=>by
  rw [B7] at h;split at h
  ·split at h
   ·rename_i w hw;obtain ⟨us,h1,rfl⟩:=map_eq_some_iff.1 h;rcases mem_cons.1 hv with rfl | hv
    ·exact ⟨f,by simp,Ej hw⟩
    ·obtain ⟨g,h2,h3⟩:=Mg h1 v hv;exact ⟨g,mem_cons_of_mem _ h2,h3⟩
   ·cases h
  ·obtain ⟨g,h2,h3⟩:=Mg h v hv;exact ⟨g,mem_cons_of_mem _ h2,h3⟩
def Aa8 (a b:WFd):Prop:=a.1<b.1
theorem XW : ∀ (N:Nat) (ks:RL) (fs:List WFd),ks.length+fs.length<=N->ks.Pairwise KR->fs.Pairwise Aa8->Bf ks fs=(match B7 ks fs with | some vs=>if B9 vs ks=true then some vs else none | none=>none):=by
 intro N
 induction N with
 | zero=>
  intro ks fs hN _ _;obtain rfl:ks=[]:=List.eq_nil_of_length_eq_zero (by omega);obtain rfl:fs=[]:=List.eq_nil_of_length_eq_zero (by omega);rw [Bf,B7]; rfl
 | succ N ih=>
  intro ks fs hN hk hf
  cases fs with
  | nil=>
   have key : ∀ ks:RL,Bf ks []=if B9 [] ks=true then some [] else none:=by
    intro ks
    induction ks with
    | nil=>rw [Bf]; rfl
    | cons p ks ihk=>
     rw [Bv,List.find?_nil,ihk];unfold B9;rw [all_cons];cases p.lab.2.2.2.1<;>simp [Ds]
   rw [key,B7]
  | cons f fs=>
   cases ks with
   | nil=>
    have : ∀ fs:List WFd,B7 [] fs=some []:=by
     intro fs
     induction fs with
     | nil=>rw [B7]
     | cons g fs ihf=>rw [B7,ihf]; rfl
    rw [Bf,this]; rfl
   | cons p ks=>
    have hk2:=List.pairwise_cons.1 hk;have hf2:=List.pairwise_cons.1 hf;simp only [length_cons] at hN;have fgt : ∀ g∈fs,f.1<g.1:=fun g hg=>hf2.1 g hg
    have kgt : ∀ y∈ks,p.lab.2.2.1<y.lab.2.2.1:=fun y hy=>hk2.1 y hy
    rcases Int.lt_trichotomy f.1 p.lab.2.2.1 with h | h | h
    ·have e1 : ∀ y∈p::ks,y.lab.2.2.1≠f.1:=fun y hy=>by
      rcases mem_cons.1 hy with rfl | hy
      ·omega
      ·have:=kgt y hy; omega
     have e2:AN f.1 (p::ks)=false:=by
      cases e:AN f.1 (p::ks) with
      | false=>rfl
      | true=>obtain ⟨y,hy,hy2⟩:=Er.1 e; exact absurd hy2 (e1 y hy)
     rw [Jx e1,B7,e2,ih (p::ks) fs (by simp only [length_cons]; omega) hk hf2.2];rfl
    ·have e1 : ∀ y∈ks,y.lab.2.2.1≠f.1:=fun y hy=>by have:=kgt y hy; omega
     have e2:AN f.1 (p::ks)=true:=Er.2 ⟨p,by simp,h.symm⟩;have e3:byR f.1 (p::ks)=p:=by rw [byR,if_pos h.symm]
     have e4 : ∀ g∈fs,g.1≠p.lab.2.2.1:=fun g hg=>by have:=fgt g hg; omega
     rw [Bv,List.find?_cons_of_pos (p:=fun f:WFd=>f.1==p.lab.2.2.1) (by simpa using h),B7,if_pos e2,e3,Jx e1,Ju e4];dsimp only
     cases hd:Dh p f with
     | none=>rfl
     | some v=>
      dsimp only;rw [ih ks fs (by omega) hk2.2 hf2.2];have hv:=Ej hd
      cases hs:B7 ks fs with
      | none=>rfl
      | some vs=>
       have em:B9 (v::vs) (p::ks)=B9 vs ks:=by
        unfold B9;rw [all_cons];have e5:Ds p.lab.2.2.1 (v::vs)=true:=by unfold Ds; rw [any_cons,hv,h]; simp
        rw [e5,Bool.or_true,Bool.true_and,Bool.eq_iff_iff,all_eq_true,all_eq_true];refine forall_congr' fun y=>forall_congr' fun hy=>?_
        have e6:Ds y.lab.2.2.1 (v::vs)=Ds y.lab.2.2.1 vs:=by
         unfold Ds;rw [any_cons,hv,show (f.1==y.lab.2.2.1)=false from beq_eq_false_iff_ne.2 (e1 y hy).symm,Bool.false_or]
        rw [e6]
       dsimp only [Option.map];rw [em]
       by_cases hm:B9 vs ks=true
       ·rw [if_pos hm,if_pos hm]
       ·rw [if_neg hm,if_neg hm]
    ·have e4 : ∀ g∈f::fs,g.1≠p.lab.2.2.1:=fun g hg=>by
      rcases mem_cons.1 hg with rfl | hg
      ·omega
      ·have:=fgt g hg; omega
     have e5:(f::fs).find? (fun f=>f.1==p.lab.2.2.1)=none:=List.find?_eq_none.2 fun g hg=>by simpa using e4 g hg
     rw [Bv,e5,Ju e4];dsimp only;rw [ih ks (f::fs) (by simp only [length_cons]; omega) hk2.2 hf]
     cases hs:B7 ks (f::fs) with
     | none=>simp
     | some vs=>
      dsimp only
      have em:B9 vs (p::ks)=(!p.lab.2.2.2.1&&B9 vs ks):=by
       unfold B9;rw [all_cons]
       have:Ds p.lab.2.2.1 vs=false:=by
        cases e:Ds p.lab.2.2.1 vs with
        | false=>rfl
        | true=>
         unfold Ds at e;obtain ⟨v,hv,hv2⟩:=List.any_eq_true.1 e;obtain ⟨g,hg,hg2⟩:=Mg hs v hv;have:=e4 g hg;have hv2:v.lab.2.2.1=p.lab.2.2.1:=by simpa using hv2
         omega
       rw [this,Bool.or_false]
      rw [em];cases p.lab.2.2.2.1<;>simp
theorem Zz (z:Rose Lab):AT prog (Aa []) (Aa []) f62 [.tp LCd z 0] []=some (.j (if fkB z=true then 0 else 2),[]):=by
 have e:AT prog (Aa []) (Aa []) f62 [.tp LCd z 0] []=((ifB (z.lab.1==(1:Int)) (some (V.j 0,[])) (ifB (z.lab.1==(3:Int)) (some (V.j 0,[])) (some (V.j 2,[])))):_):=by kernel_rfl
 rw [e];clear e;unfold fkB;cases z.lab.1==1<;>cases z.lab.1==3<;>rfl
theorem kfk:Ac prog 62 (Ent.rd1 RY).F:=by
 refine fcK KnowsL.nil.knows (Λ:=Aa []) func62 fun vs bs r' hq=>?_
 unfold Ent.F RY at hq;dsimp only at hq;split at hq
 ·exact ⟨Ao _,(Zz _ ).trans hq⟩
 ·cases hq
theorem UT (z:Rose Lab) (m:Nat) (n no up:Int) (nl:Option Bool) (o:List Nd):Bm prog (Aa [(167,.rd1 Gu),(69,.rd1 AC)]) (Aa []) f127 [.tp LCd z 0,.ref 0 0 m,.j n,.j no,.j up] [.row false nl NCd o] =
 ((ifT (decide ((m+1)*48<=140737488355328)&&decide (m+1<=maxI)) (ifB (BX n) (ifB (z.lab.1==(1:Int)) (some (V.tup [V.ref 1 0
 (m+1),V.b true],[none,R0 NCd (take m (drop 0 o)++(n,Ag UInt8,no,up,false,())::Ag NCd.den)])) (some
 (V.tup [V.ref 1 0 (m+1),V.b (decide (0<=n/\n<=z.lab.2.2.2.2.1))],[none,R0 NCd (take m (drop 0 o)++(n,
 Ag UInt8,no,up,false,())::Ag NCd.den)]))) (some (V.tup [V.ref 1 0 (m+1),V.b false],[none,R0 NCd (take m (drop (0 :
 Nat) o)++(n,Ag UInt8,no,up,false,())::Ag NCd.den)])))):_):=by kernel_rfl
theorem XE (z:Rose Lab) (m:Nat) (n no up:Int) (nl:Option Bool) (o:List Nd) (hc:m=o.length/\o.length<=2000000):Bm prog (Aa [(167,.rd1 Gu),(69,.rd1 AC)]) (Aa []) f127 [.tp LCd z 0,.ref 0 0 m,.j n,.j no,.j up] [.row false nl NCd o]=some (.tup [.ref 1 0 (o.length+1),.b (A1 z n no).isSome],[none,R0 NCd (o++[(n,[],no,up,false,())])]):=by
 rw [UT]
 try dsimp only [shr]
 obtain ⟨rfl,h1⟩:=hc;have hM:=mxI;simp only [A7,drop_zero,take_length];unfold A1;have el:(decide ((o.length+1)*48<=140737488355328)&&decide (o.length+1<=maxI))=true:=by simp only [anE,dcE]; omega
 simp only [Ab el]
 cases h2:BX n with
 | false=>simp [ifB]
 | true=>
  by_cases h3:z.lab.1=1
  ·simp [ifB,h3]
  ·have h4:=beq_eq_false_iff_ne.2 h3
   by_cases h5:0<=n/\n<=z.lab.2.2.2.2.1
   ·simp [ifB,h3,h4,h5]
   ·simp [ifB,h3,h4,h5]
theorem Adz:Ac prog 127 (Ent.own NF).F:=by
 refine fcC (kc func167 WI (kc func69 Fr KnowsL.nil)).knows (Λ:=(Aa [])) func127 fun vs bs r' hq=>?_
 unfold Ent.F NF at hq;dsimp only at hq;split at hq
 ·rename_i z m n no up nl o;obtain ⟨hc,hx⟩:=Ad hq;exact ⟨Ao _,(XE z m n no up nl o (of_decide_eq_true hc)).trans hx⟩
 ·cases hq
theorem XZ:Ac prog 126 (Ent.rd1 Sr).F:=by
 refine fcK KnowsL.nil.knows (Λ:=Aa []) func126 fun vs bs r hq=>?_
 unfold Ent.F Sr at hq;dsimp only at hq;split at hq
 ·rename_i fo fk fn fd fr p;refine ⟨Ao _,Eq.trans ?_ hq⟩;have e:AT prog (Aa []) (Aa []) f126 [.agg [.j fo,.j fk,.j fn,.s fd,.j fr],.bx [.tp LCd p 0] 0] []=((some (V.b (fo==p.lab.2.2.1),[])):_):=by kernel_rfl
  exact e
 ·cases hq
theorem QE  (p:Rose Lab) (l:List (Pl)) (r k i:Int):Au prog (Aa [(126,.rd1 Sr)]) (Aa [(2,dfE)]) 1 (body f125 0) dfE ([.sl PCd l,.fn 126 [] [.ptr 0 0],.j r,.j k,.j i],[some (.box [.tp LCd p 0])]) =
 ((ifB (decide (i<k)) (ifT (decide (0<=i)&&decide (i<(↑l.length:Int))) (An l[i.toNat]? fun z=>ifB (z.1.1==p.lab.2.2.1) (some (Ex.ret,[V.j i],
 [some (Blk.box [V.tp LCd p 0])])) (some (Ex.normal,[V.sl PCd l,V.fn 126 [] [V.ptr 0 0],V.j r,V.j k,V.i .i64
 (i64.wrap (i+1))],[some (Blk.box [V.tp LCd p 0])])))) (some (Ex.exit 0,[],[some (Blk.box [V.tp LCd p 0])]))):_):=by kernel_rfl
theorem T0  (p:Rose Lab) {l:List (Pl)} {r:Int} (hx:l.length<=maxI) : ∀ (j i:Nat),i+j=l.length->∀ e d',(.br (decide (A9 (fun z:Pl=>z.1.1==p.lab.2.2.1) i (l.drop i)<0)) (.leaf (.exit 0,([],[some (.box [.tp LCd p 0])]))) (.leaf (.ret,([.j (A9 (fun z:Pl=>z.1.1==p.lab.2.2.1) i (l.drop i))],[some (.box [.tp LCd p 0])]))):Br (Ex×Dt)).run=some (e,d')->
  Runs prog (Aa [(126,.rd1 Sr)]) (Aa [(2,dfE)]) 1 (body f125 0) dfE ([.sl PCd l,.fn 126 [] [.ptr 0 0],.j r,.j (l.length:Int),.j (i:Int)],[some (.box [.tp LCd p 0])]) e d'
 | 0,i,hi,e,d',h=>by
  have e1:l.drop i=[]:=drop_eq_nil_of_le (by omega);rw [e1,Dy,A9,if_pos (by omega)] at h;cases h;have hr:=QE p l r l.length i;rw [Ae (dcF (by omega))] at hr;exact stp hr
 | j+1,i,hi,e,d',h=>by
  have h1:i<l.length:=by omega
  have hr:=QE p l r l.length i;rw [Af (dcT (by omega)),T2 (by omega)] at hr;simp only [ntN,gtE h1,Ap,Az (n:=i) (by omega)] at hr;rw [drop_eq_getElem_cons h1,Dy,A9] at h
  by_cases he:(fun z:Pl=>z.1.1==p.lab.2.2.1) l[i]=true
  ·rw [if_pos he,if_neg (by omega)] at h;cases h;rw [Af he] at hr;exact stp hr
  ·rw [if_neg he] at h;rw [Ae (by simpa using he)] at hr;exact sts hr (T0 p hx j (i+1) (by omega) e d' (by rw [Dy]; exact h))
theorem Af8  : Aw prog (Aa [(126,.rd1 Sr)]) (Aa [(2,dfE)]) 1 (f125.body.getD .skip):=by
 refine As (a:=body f125 0) (by kernel_rfl) fun d e d' h=>?_
 unfold dfE at h;dsimp only at h;split at h
 ·obtain ⟨hc,h'⟩:=Ad h;obtain ⟨h0,h1,h2,rfl⟩:=of_decide_eq_true hc;obtain ⟨i,rfl⟩:=eq_ofNat_of_zero_le h0;exact T0 _  h2 _ i (Nat.add_sub_of_le h1) e d' h'
 ·cases h
theorem Ad7  (p:Rose Lab) (l:List (Pl)) (hx:l.length<=maxI):AT prog (Aa [(126,.rd1 Sr)]) (Aa [(2,dfE)]) f125 [.sl PCd l,.fn 126 [] [.ptr 0 0]] [.box [.tp LCd p 0]]=some (.j (A9 (fun z:Pl=>z.1.1==p.lab.2.2.1) 0 l),[some (.box [.tp LCd p 0])]):=by
 have e:AT prog (Aa [(126,.rd1 Sr)]) (Aa [(2,dfE)]) f125 [.sl PCd l,.fn 126 [] [.ptr 0 0]] [.box [.tp LCd p 0]] =
  ((ifT (decide ((0:Int)<=(0:Int)/\0<=l.length/\l.length<=maxI/\(↑l.length:Int)=(↑l.length:Int))) (ifB (decide (A9 (fun z=>z.1.1==
 p.lab.2.2.1) 0 (drop 0 l)<(0:Int))) (some (V.j (-1),[some (Blk.box [V.tp LCd p 0])])) (some (V.j (A9 (fun z=>
 z.1.1==p.lab.2.2.1) 0 (drop 0 l)),[some (Blk.box [V.tp LCd p 0])])))):_):=by kernel_rfl
 rw [e,Ab (dcT ⟨by omega,by omega,hx,rfl⟩)];simp only [drop_zero]
 by_cases q:A9 (fun z:Pl=>z.1.1==p.lab.2.2.1) 0 l<0
 ·rw [Af (dcT q),HJ _ _ _ q]
 ·rw [Ae (dcF q)]
theorem Ad6  : Ac prog 125 (Ent.own UZ).F:=by
 refine Da (kc func126 XZ KnowsL.nil).knows (Λ:=(Aa [(2,dfE)])) func125 (c:=f125.body.getD .skip) (by kernel_rfl) fun vs bs r h hv hb=>?_
 unfold Ent.F UZ at h;dsimp only at h;split at h
 ·rename_i l p;have h':=h;exact ⟨Af8 ,(Ad7 p l (hv (.sl PCd l) (by simp)).1).trans (by cases h'; rfl)⟩
 ·cases h
theorem XP:Ac prog 125 (Ent.mix UZ).F:=Ad6
def mxD:List WFd->Nat
 | []=>0
 | f::fs=>max f.2.2.2.1.length (mxD fs)
def dlE (n:Nat):LoopEnt:=⟨74,[1,2,3,10,11],[1],[8,9],fun
 | ([.ref 1 0 m,.s s,.j up,.tp LCd z 0,.j a],[none,R0 NCd o])=>.need (decide (m=o.length/\0<=a/\a.toNat<=s.length/\0<=up/\s.length<=400/\Ah z=true/\Aj z<=n/\o.length+Aj z*(s.length-a.toNat)<=1000000)) (.br (BC (fkB z) (fun n=>A1 z n 0) (fun d=>AI z d 0) s (s.length-a.toNat) a.toNat).isSome (.leaf (.exit 0,([.ref 1 0 (o++AA ((BC (fkB z) (fun n=>A1 z n 0) (fun d=>AI z d 0) s (s.length-a.toNat) a.toNat).getD []) up.toNat o.length).length],[none,R0 NCd (o++AA ((BC (fkB z) (fun n=>A1 z n 0) (fun d=>AI z d 0) s (s.length-a.toNat) a.toNat).getD []) up.toNat o.length)]))) (.leaf (.ret,([.ref 1 0 0,.b false],[none,R0 NCd []]))))
 | _=>.no⟩
def Hr (z:Rose Lab) (s:By) (up:Int) (o:List Nd):List Nd:=match Dp z.kids s with | some vs=>o++AA vs up.toNat o.length | none=>[]
def dlN (n:Nat):Gm
 | [.tp LCd z 0,.ref 0 0 m,.s s,.j up],[.row false _ NCd o]=>.need (decide (m=o.length/\0<=up/\s.length<=400/\z.kids.length=1/\z.kids.all Ah=true/\Aj z<=n/\o.length+Ak z.kids*s.length<=1000000)) (.leaf (.tup [.ref 1 0 (Hr z s up o).length,.b (Dp z.kids s).isSome],[none,R0 NCd (Hr z s up o)]))
 | _,_=>.no
def Bx (z:Rose Lab) (s:By) (no up:Int) (o:List Nd):List Nd:=match AI z s no with | some v=>o++Am v up o.length | none=>if z.lab.1=2 then o++[(0,s,no,up,false,())] else []
def MF (n:Nat):Gm
 | [.tp LCd z 0,.ref 0 0 m,.s s,.j no,.j up],[.row false _ NCd o]=>.need (decide (m=o.length/\s.length<=400/\Ah z=true/\Aj z<=n/\o.length+Aj z*(s.length+1)<=1000000)) (.leaf (.tup [.ref 1 0 (Bx z s no up o).length,.b (AI z s no).isSome],[none,R0 NCd (Bx z s no up o)]))
 | _,_=>.no
def dmE (n:Nat):LoopEnt:=⟨129,[1,12,14,68,69,70],[1],[10,11],fun
 | ([.ref 1 0 m,.ref 2 0 w,.j up,.sl (.tree LCd) ks,.j c,.j i],[none,R0 NCd o,some (.row _ none PCd fs)])=>.need (decide (m=o.length/\w=fs.length/\c=ks.length/\0<=i/\i.toNat<=ks.length/\ks.length<=1000000/\w<=40/\0<=up/\mxD (fs.map (·.1))<=400/\(fs.all fun x=>AJ x.1)=true/\Ak ks<=n/\A6 5 ks=true/\o.length+Ak (ks.drop i.toNat)*(mxD (fs.map (·.1))+1)<=1000000)) (.br (Bf (ks.drop i.toNat) (fs.map (·.1))).isSome (.leaf (.exit 1,([.ref 1 0 (o++AA ((Bf (ks.drop i.toNat) (fs.map (·.1))).getD []) up.toNat o.length).length],[none,R0 NCd (o++AA ((Bf (ks.drop i.toNat) (fs.map (·.1))).getD []) up.toNat o.length)]))) (.leaf (.ret,([.ref 1 0 0,.b false],[none,R0 NCd []]))))
 | _=>.no⟩
def Js (n:Nat):LoopEnt:=⟨129,[1,12,14,68,69,70],[1],[10,11],fun
 | ([.ref 0 0 m,.ref 1 0 w,.j up,.sl (.tree LCd) ks,.j c,.j i],[R0 NCd o,some (.row _ none PCd fs)])=>.need (decide (m=o.length/\w=fs.length/\c=ks.length/\0<=i/\i.toNat<=ks.length/\ks.length<=1000000/\w<=40/\0<=up/\mxD (fs.map (·.1))<=400/\(fs.all fun x=>AJ x.1)=true/\Ak ks<=n/\A6 5 ks=true/\o.length+Ak (ks.drop i.toNat)*(mxD (fs.map (·.1))+1)<=1000000)) (.br (Bf (ks.drop i.toNat) (fs.map (·.1))).isSome (.leaf (.exit 1,([.ref 0 0 (o++AA ((Bf (ks.drop i.toNat) (fs.map (·.1))).getD []) up.toNat o.length).length],[R0 NCd (o++AA ((Bf (ks.drop i.toNat) (fs.map (·.1))).getD []) up.toNat o.length)]))) (.leaf (.ret,([.ref 0 0 0,.b false],[R0 NCd []]))))
 | _=>.no⟩
def XX:Gm
 | [.tp LCd z 0,.nl,.s s,.j no,.j up],[]=>.need (decide (z.lab.1=5/\s.length<=400/\Ah z=true/\Aj z*(s.length+1)<=1000000)) (.leaf (.tup [.ref 0 0 (Bx z s no up []).length,.b (AI z s no).isSome],[R0 NCd (Bx z s no up [])]))
 | _,_=>.no
abbrev S4 (n:Nat):FuncId->Option Ent:=Aa [(62,.rd1 RY),(164,.rd1 Rn),(165,.rd1 M0),(127,.own NF),(166,.rd1 tbG),(78,.own (MF n))]
theorem Mc (n m:Nat) (s:By) (up:Int) (z:Rose Lab) (a:Int) (o:List Nd):Au prog (S4 n) (Aa [(3,dlE n)]) 1 (body f124 0) (dlE n) ([.ref 1 0 m,.s s,.j up,.tp LCd z 0,.j a],[none,R0 NCd o]) =
 ((ifB (decide (a<(↑s.length:Int))) (ifB ((if fkB z=true then (0:Int) else (2:Int))==(0:Int)) (ifT (decide (0<=a/\s.length<=4000000000/\a<=
 4000000000)) (ifT (decide ((0:Int)<=A8 (Ai s a.toNat)/\A8 (Ai s a.toNat)<=(1000000000000:Int))) (ifT (decide (m=o.length/\o.length<=2000000))
 (ifB (A1 z (unf (A8 (Ai s a.toNat))) (0:Int)).isSome (ifB (!BP (Ai s a.toNat)) (some (Ex.ret,[V.ref 1 0 0,V.b false],[none,R0 NCd
 (Ag NCd.den)])) (some (Ex.normal,[V.ref 1 0 (o.length+1),V.s s,V.j up,V.tp LCd z 0,V.j (Ax a.toNat (Ai s a.toNat))],[none,R0 NCd (o++(unf (A8 (Ai s a.toNat)),Ag UInt8,(0:Int),up,false,())::Ag (Int×By×Int×Int×Bool×Unit))]))) (some
 (Ex.ret,[V.ref 1 0 0,V.b false],[none,R0 NCd (Ag NCd.den)])))))) (ifT (decide (0<=a/\s.length<=4000000000/\a<=4000000000)) (ifB
 (!(Bd s a.toNat).2.2) (some (Ex.ret,[V.ref 1 0 0,V.b false],[none,R0 NCd (Ag NCd.den)])) (ifT (decide (m=o.length/\(Bd s
 a.toNat).1.length<=400/\Ah z=true/\Aj z<=n/\o.length+Aj z*((Bd s a.toNat).1.length+1)<=1000000)) (ifB (!(AI z (Bd
 s a.toNat).1 (0:Int)).isSome) (some (Ex.ret,[V.ref 1 0 0,V.b false],[none,R0 NCd (Ag NCd.den)])) (some (Ex.normal,[V.ref 1 0 (Bx z
 (Bd s a.toNat).1 (0:Int) up o).length,V.s s,V.j up,V.tp LCd z 0,V.j (Bd s a.toNat).2.1],[none,R0 NCd (Bx z
 (Bd s a.toNat).1 (0:Int) up o)]))))))) (some (Ex.exit 0,[V.ref 1 0 m],[none,R0 NCd o]))):_):=by kernel_rfl
theorem ZV (n:Nat) (z:Rose Lab) (m:Nat) (s:By) (up:Int) (nl:Option Bool) (o:List Nd):Z8 prog (S4 n) (Aa [(3,dlE n)]) f124 [.tp LCd z 0,.ref 0 0 m,.s s,.j up] [.row false nl NCd o] =
 ((ifT (decide ((0:Int)<=(0:Int))&&decide (0<(↑z.kids.length:Int))) (An z.kids[0]? fun z=>ifT (decide (m=o.length/\(0:Int)<=(0:Int)/\(0 :
 Nat)<=s.length/\0<=up/\s.length<=400/\Ah z=true/\Aj z<=n/\o.length+Aj z*(s.length-0)<=1000000)) (ifB (BC (fkB z) (fun
 n=>A1 z n (0:Int)) (fun d=>AI z d (0:Int)) s (s.length-0) 0).isSome (some (V.tup [V.ref 1 0 (o++AA ((BC (fkB z) (fun n=>A1 z
 n (0:Int)) (fun d=>AI z d (0:Int)) s (s.length-0) 0).getD (Ag (Rose A4))) up.toNat o.length).length,V.b true],[none,R0 NCd (o++AA ((BC (fkB z) (fun n=>A1 z n (0:Int)) (fun d=>AI z d (0:Int)) s (s.length-0) 0).getD (Ag (Rose A4))) up.toNat
 o.length)])) (some (V.tup [V.ref 1 0 0,V.b false],[none,R0 NCd (Ag NCd.den)]))))):_):=by kernel_rfl
abbrev Kb (k n:Nat):FuncId->Option Ent:=Aa [(124,.own (dlN n)),(34,.rd1 Ua),(125,.mix UZ),(62,.rd1 RY),(127,.own NF),(78,.own (MF k))]
theorem QD (n k m w:Nat) (ro:Bool) (up:Int) (ks:RL) (c i:Int) (o:List Nd) (fs:List Pl):Au prog (Kb k n) (Aa [(12,dmE k)]) 1 (body f78 0) (dmE k) ([.ref 1 0 m,.ref 2 0 w,.j up,.sl (.tree LCd) ks,.j c,.j i],[none,R0 NCd o,some (.row ro none PCd fs)]) =
 ((ifB (decide (i<c)) (ifT (decide (0<=i)&&decide (i<(↑ks.length:Int))) (An ks[i.toNat]? fun z=>ifB (decide (A9 (fun z_1=>z_1.1.1==(Rose.lab
 z).2.2.1) 0 (take w (drop 0 fs))<(0:Int))) (ifB (Rose.lab z).2.2.2.1 (some (Ex.ret,[V.ref 1 0 0,V.b false],[none,R0 NCd (Ag NCd.den)])) (some (Ex.normal,[V.ref 1 0 m,V.ref 2 0 w,V.j up,V.sl LCd.tree ks,V.j c,V.j (i64.wrap (i+1))],
 [none,R0 NCd o,some (Blk.row true none PCd fs)]))) (ifT (decide ((0:Int)<=A9 (fun z_1=>z_1.1.1==(Rose.lab z).2.2.1) (0 :
 Nat) (take w (drop 0 fs)))&&decide (A9 (fun z_1=>z_1.1.1==(Rose.lab z).2.2.1) 0 (take w (drop 0 fs))<(↑w
 : Int))) (An fs[0+(A9 (fun z_1=>z_1.1.1==(Rose.lab z).2.2.1) 0 (take w (drop 0 fs))).toNat]? fun z_1=>ifB
 (z_1.1.2.1 != if fkB z=true then (0:Int) else (2:Int)) (some (Ex.ret,[V.ref 1 0 0,V.b false],[none,R0 NCd (Ag NCd.den)])) (ifB
 (z_1.1.2.1==(0:Int)) (ifT (decide (m=o.length/\o.length<=2000000)) (ifB (!(A1 z z_1.1.2.2.1 (Rose.lab z).2.2.1).isSome) (some
 (Ex.ret,[V.ref 1 0 0,V.b false],[none,R0 NCd (Ag NCd.den)])) (some (Ex.normal,[V.ref 1 0 (o.length+1),V.ref 2 0 w,V.j up,
 V.sl LCd.tree ks,V.j c,V.j (i64.wrap (i+1))],[none,R0 NCd (o++(z_1.1.2.2.1,Ag UInt8,(Rose.lab z).2.2.1,
 up,false,())::Ag (Int×By×Int×Int×Bool×Unit)),some (Blk.row true none PCd fs)])))) (ifT (decide (m=o.length/\List.length
 z_1.1.2.2.2.1<=400/\Ah z=true/\Aj z<=k/\o.length+Aj z*(List.length z_1.1.2.2.2.1+1)<=1000000)) (ifB
 (!(AI z z_1.1.2.2.2.1 (Rose.lab z).2.2.1).isSome) (some (Ex.ret,[V.ref 1 0 0,V.b false],[none,R0 NCd (Ag NCd.den)])) (some
 (Ex.normal,[V.ref 1 0 (Bx z z_1.1.2.2.2.1 (Rose.lab z).2.2.1 up o).length,V.ref 2 0 w,V.j up,V.sl LCd.tree ks,V.j c,V.i .i64
 (i64.wrap (i+1))],[none,R0 NCd (Bx z z_1.1.2.2.2.1 (Rose.lab z).2.2.1 up o),some (Blk.row true none PCd
 fs)]))))))))) (some (Ex.exit 1,[V.ref 1 0 m],[none,R0 NCd o]))):_):=by kernel_rfl
theorem ZT (n k:Nat) (z:Rose Lab) (m:Nat) (s:By) (no up:Int) (nl:Option Bool) (o:List Nd):Bm prog (Kb k n) (Aa [(12,dmE k)]) f78 [.tp LCd z 0,.ref 0 0 m,.s s,.j no,.j up] [.row false nl NCd o] =
 ((ifB (z.lab.1==(2:Int)) (ifT (decide ((m+1)*48<=140737488355328)&&decide (m+1<=maxI)) (some (V.tup [V.ref 1 0 (m+(1 :
 Nat)),V.b (decide ((↑s.length:Int)<=(30:Int)))],[none,R0 NCd (take m (drop 0 o)++((0:Int),s,no,up,false,())::
 Ag NCd.den)]))) (ifB (z.lab.1==(4:Int)) (ifT (decide ((m+1)*48<=140737488355328)&&decide (m+1<=maxI)) (ifT (decide (m +
 1=(take m (drop 0 o)++((0:Int),Ag UInt8,no,up,true,())::Ag NCd.den).length/\0<=(↑m:Int)/\s.length<=400/\
 z.kids.length=1/\z.kids.all Ah=true/\Aj z<=n/\(take m (drop 0 o)++((0:Int),Ag UInt8,no,up,true,())::Ag
 NCd.den).length+Ak z.kids*s.length<=1000000)) (some (V.tup [V.ref 1 0 (Hr z s (↑m:Int) (take m (drop 0 o)++((0:Int),Ag UInt8,
 no,up,true,())::Ag NCd.den)).length,V.b (Dp z.kids s).isSome],[none,R0 NCd (Hr z s (↑m:Int) (take m (drop 0 o)++
 ((0:Int),Ag UInt8,no,up,true,())::Ag NCd.den))])))) (ifT (decide (s.length<=4000000000)) (ifB (!(CA s).isSome) (some (V.tup [V.ref 1 0 0,V.b
 false],[none,R0 NCd (Ag NCd.den)])) (ifT (decide ((m+1)*48<=140737488355328)&&decide (m+1<=maxI))
 (ifT (decide (m+1=(take m (drop 0 o)++((0:Int),Ag UInt8,no,up,true,())::Ag NCd.den).length/\((CA s).getD (Ag Pl)).length
 = ((CA s).getD (Ag Pl)).length/\(↑z.kids.length:Int)=(↑z.kids.length:Int)/\(0:Int)<=(0:Int)/\0<=z.kids.length/\z.kids.length<=1000000
 /\ ((CA s).getD (Ag Pl)).length<=40/\0<=(↑m:Int)/\mxD (List.map (fun x=>x.1) ((CA s).getD (Ag Pl)))<=400/\(((CA s).getD (Ag
 Pl)).all fun x=>AJ x.1)=true/\Ak z.kids<=k/\A6 (5:Int) z.kids=true/\(take m (drop 0 o)++((0:Int),Ag UInt8,no,up,true,
 ())::Ag NCd.den).length+Ak (drop 0 z.kids)*(mxD (List.map (fun x=>x.1) ((CA s).getD (Ag Pl)))+1)<=1000000)) (ifB (Bf
 (drop 0 z.kids) (List.map (fun x=>x.1) ((CA s).getD (Ag Pl)))).isSome (some (V.tup [V.ref 1 0 (take m (drop 0 o)++((0:Int),
 Ag UInt8,no,up,true,())::Ag NCd.den++AA ((Bf (drop 0 z.kids) (List.map (fun x=>x.1) ((CA s).getD (Ag Pl)))).getD (Ag (Rose A4)))
 (↑m:Int).toNat (take m (drop 0 o)++((0:Int),Ag UInt8,no,up,true,())::Ag NCd.den).length).length,V.b true],[none,R0 NCd (take m (drop 0 o)++((0:Int),Ag UInt8,no,up,true,())::Ag NCd.den++AA ((Bf (drop 0 z.kids) (List.map (fun x
 => x.1) ((CA s).getD (Ag Pl)))).getD (Ag (Rose A4))) (↑m:Int).toNat (take m (drop 0 o)++((0:Int),Ag UInt8,no,up,true,())::Ag
 NCd.den).length)])) (some (V.tup [V.ref 1 0 0,V.b false],[none,R0 NCd (Ag NCd.den)]))))))))):_):=by kernel_rfl
theorem Fb (num:Bool) (N:Int->Option (Rose A4)) (D:By->Option (Rose A4)) (s:By) (a:Nat):BC num N D s 0 a=if a<s.length then none else some []:=rfl
theorem C5 (num:Bool) (N:Int->Option (Rose A4)) (D:By->Option (Rose A4)) (s:By) (f a:Nat):BC num N D s (f+1) a=if a<s.length then (match num with
  | true=>(match N (unf (A8 (Ai s a))) with
   | some v=>if BP (Ai s a)=true then (BC num N D s f (Ax a (Ai s a)).toNat).map (v::·) else none
   | none=>none)
  | false=>(match (Bd s a).2.2 with
   | true=>(match D (Bd s a).1 with
    | some v=>(BC num N D s f (Bd s a).2.1.toNat).map (v::·)
    | none=>none)
   | false=>none)) else some []:=rfl
theorem IQ {s:By} {a:Nat} (h:(Bd s a).2.2=true):(a:Int)+1+((Bd s a).1.length:Int)<=(Bd s a).2.1/\(Bd s a).2.1<=s.length:=by
 have ⟨⟨u1,u2⟩,u3,u4⟩:=EQ s a;unfold Bd at h ⊢;dsimp only at h ⊢;split at h
 ·rename_i q;have e:=Fu q.1;rw [if_pos q];simp only [List.length_take,List.length_drop];omega
 ·cases h
theorem VL (s:By) (a:Nat):(Bd s a).1.length<=s.length:=by
 unfold Bd;dsimp only;split
 ·simp only [List.length_take,List.length_drop]; omega
 ·simp
theorem GZ {num:Bool} {N:Int->Option (Rose A4)} {D:By->Option (Rose A4)} {s:By} : ∀ (f f' a:Nat),s.length-a<=f->s.length-a<=f'->BC num N D s f a=BC num N D s f' a
 | 0,0,a,_,_=>rfl
 | 0,f'+1,a,h,_=>by rw [Fb,C5,if_neg (by omega),if_neg (by omega)]
 | f+1,0,a,_,h=>by rw [C5,Fb,if_neg (by omega),if_neg (by omega)]
 | f+1,f'+1,a,h,h'=>by
  rw [C5,C5]
  by_cases ha:a<s.length
  ·rw [if_pos ha,if_pos ha]
   cases num with
   | true=>
    dsimp only
    cases N (unf (A8 (Ai s a))) with
    | none=>rfl
    | some v=>
     dsimp only
     by_cases h3:BP (Ai s a)=true
     ·have:=Fu h3;rw [if_pos h3,if_pos h3,GZ f f' _ (by omega) (by omega)]
     ·rw [if_neg h3,if_neg h3]
   | false=>
    dsimp only
    cases h3:(Bd s a).2.2 with
    | false=>rfl
    | true=>
     have:=IQ h3;dsimp only
     cases D (Bd s a).1 with
     | none=>rfl
     | some v=>dsimp only; rw [GZ f f' _ (by omega) (by omega)]
  ·rw [if_neg ha,if_neg ha]
theorem GA {num:Bool} {N:Int->Option (Rose A4)} {D:By->Option (Rose A4)} {s:By} {f a:Nat} (h:s.length<=a):BC num N D s f a=some []:=by
 cases f with
 | zero=>rw [Fb,if_neg (by omega)]
 | succ f=>rw [C5,if_neg (by omega)]
theorem J0 {num:Bool} {N:Int->Option (Rose A4)} {D:By->Option (Rose A4)} {s:By} {a:Nat} (h:a<s.length):BC num N D s (s.length-a) a=(match num with
  | true=>(match N (unf (A8 (Ai s a))) with
   | some v=>if BP (Ai s a)=true then (BC num N D s (s.length-(Ax a (Ai s a)).toNat) (Ax a (Ai s a)).toNat).map (v::·) else none
   | none=>none)
  | false=>(match (Bd s a).2.2 with
   | true=>(match D (Bd s a).1 with
    | some v=>(BC num N D s (s.length-(Bd s a).2.1.toNat) (Bd s a).2.1.toNat).map (v::·)
    | none=>none)
   | false=>none)):=by
 rw [show s.length-a=(s.length-a-1)+1 by omega,C5,if_pos h]
 cases num with
 | true=>
  dsimp only
  cases N (unf (A8 (Ai s a))) with
  | none=>rfl
  | some v=>
   dsimp only
   by_cases h3:BP (Ai s a)=true
   ·have:=Fu h3;rw [if_pos h3,if_pos h3,GZ (s.length-a-1) (s.length-(Ax a (Ai s a)).toNat) _ (by omega) (by omega)]
   ·rw [if_neg h3,if_neg h3]
 | false=>
  dsimp only
  cases h3:(Bd s a).2.2 with
  | false=>rfl
  | true=>
   have:=IQ h3;dsimp only
   cases D (Bd s a).1 with
   | none=>rfl
   | some v=>dsimp only; rw [GZ (s.length-a-1) (s.length-(Bd s a).2.1.toNat) _ (by omega) (by omega)]
theorem J1 {num:Bool} {N:Int->Option (Rose A4)} {D:By->Option (Rose A4)} {s:By} (c:Nat) (h1:1<=c) (hN : ∀ n v,N n=some v->vcR v<=c) (hD : ∀ d v,D d=some v->vcR v<=c*(d.length+1)) : ∀ (j a:Nat) (vs:RVL),s.length-a<=j->BC num N D s (s.length-a) a=some vs->vcL vs<=c*(s.length-a)
 | j,a,vs,hj,h=>by
  by_cases ha:a<s.length
  ·rw [J0 ha] at h;have mul : ∀ b:Nat,a<b->b<=s.length->c*(b-a)+c*(s.length-b)=c*(s.length-a):=fun b k1 k2=>by rw [<-mul_add]; congr 1; omega
   obtain ⟨j,rfl⟩ : ∃ i,j=i+1:=⟨j-1,by omega⟩
   cases num with
   | true=>
    dsimp only at h
    cases hn:N (unf (A8 (Ai s a))) with
    | none=>rw [hn] at h; cases h
    | some v=>
     rw [hn] at h;dsimp only at h
     by_cases h3:BP (Ai s a)=true
     ·have e:=Fu h3;rw [if_pos h3] at h;obtain ⟨us,h4,rfl⟩:=map_eq_some_iff.1 h;have ih:=J1 c h1 hN hD j _ us (by omega) h4;have k1:=hN _ _ hn;have k2:=mul (Ax a (Ai s a)).toNat (by omega) (by omega);have k3:c<=c*((Ax a (Ai s a)).toNat-a):=Nat.le_mul_of_pos_right c (by omega);rw [vcL]; omega
     ·rw [if_neg h3] at h; cases h
   | false=>
    dsimp only at h
    cases h3:(Bd s a).2.2 with
    | false=>rw [h3] at h; cases h
    | true=>
     have e:=IQ h3;rw [h3] at h;dsimp only at h
     cases hn:D (Bd s a).1 with
     | none=>rw [hn] at h; cases h
     | some v=>
      rw [hn] at h;obtain ⟨us,h4,rfl⟩:=map_eq_some_iff.1 h;have ih:=J1 c h1 hN hD j _ us (by omega) h4;have k1:=hD _ _ hn;have k2:=mul (Bd s a).2.1.toNat (by omega) (by omega);have k3:c*((Bd s a).1.length+1)<=c*((Bd s a).2.1.toNat-a):=mul_le_mul_left c (by omega);rw [vcL]; omega
  ·rw [GA (by omega)] at h; cases h; rw [vcL]; omega
termination_by j=>j
theorem Lm {f:WFd} : ∀ {fs:List WFd},f∈fs->f.2.2.2.1.length<=mxD fs
 | g::fs,h=>by
  rw [mxD];rcases mem_cons.1 h with rfl | h
  ·omega
  ·have:=Lm h; omega
theorem SZ {L:Nat} : ∀ {fs:List WFd},(∀ f∈fs,f.2.2.2.1.length<=L)->mxD fs<=L
 | [],_=>zero_le _
 | g::fs,h=>by
  rw [mxD];have h1:=h g (by simp);have h2:=SZ (fun f hf=>h f (mem_cons_of_mem _ hf));omega
theorem Abs {s:By} {a:Nat}:(Be s a).1.2.2.2.1.length<=s.length:=by
 unfold Be;dsimp only;split
 ·simp
 ·split
  ·exact VL s _
  ·simp
theorem Od (s:By) : ∀ (f a:Nat) (o l:List WFd),(∀ x∈o,AJ x=true/\x.2.2.2.1.length<=s.length)->rdF s f a o=some l->∀ x∈l,AJ x=true/\x.2.2.2.1.length<=s.length
 | 0,a,o,l,ho,h=>by
  rw [rdF] at h;split at h
  ·cases h
  ·cases h; exact ho
 | f+1,a,o,l,ho,h=>by
  rw [rdF] at h;split at h
  ·split at h
   ·rename_i q;refine Od s f _ _ l (fun x hx=>?_) h;rcases List.mem_append.1 hx with hx | hx
    ·exact ho x hx
    ·obtain rfl:x=(Be s a).1:=by simpa using hx
     exact ⟨(KG q.1).1,Abs⟩
   ·cases h
  ·cases h; exact ho
theorem Ko {s:By} {l:List WFd} (h:Df s=some l):(∀ x∈l,AJ x=true/\x.2.2.2.1.length<=s.length)/\JT (CE l)=true/\s.length<=400:=by
 unfold Df CZ CB at h;split at h
 ·rename_i l' hl;split at h
  ·rename_i hr;cases h;split at hl
   ·rename_i h4;exact ⟨Od s _ _ [] l (by simp) hl,hr,h4⟩
   ·cases hl
  ·cases h
 ·cases h
mutual
theorem Et : ∀ (z:Rose Lab) (s:By) (no:Int) (v:Rose A4),AI z s no=some v->vcR v<=Aj z*(s.length+1)
 | .node x ks,s,no,v,h=>by
  rw [AI] at h;rw [Aj];have hm:(Ak ks+1)*(s.length+1)=Ak ks*s.length+Ak ks+s.length+1:=by rw [add_mul,mul_add]; omega
  split at h
  ·split at h
   ·cases h; rw [vcR,vcL]; omega
   ·cases h
  ·split at h
   ·obtain ⟨vs,h1,rfl⟩:=map_eq_some_iff.1 h;have:=Vc ks s vs h1;rw [vcR]; omega
   ·split at h
    ·rename_i fs hf;obtain ⟨vs,h1,rfl⟩:=map_eq_some_iff.1 h;have h2:=Jy ks fs vs h1;have h3:mxD fs<=s.length:=SZ fun f hf'=>((Ko hf).1 f hf').2
     have h4:Ak ks*(mxD fs+1)<=Ak ks*(s.length+1):=mul_le_mul_left _ (by omega);have h5:Ak ks*(s.length+1)=Ak ks*s.length+Ak ks:=by rw [mul_add,mul_one]
     rw [vcR]; omega
    ·cases h
theorem Vc : ∀ (ks:RL) (s:By) (vs:RVL),Dp ks s=some vs->vcL vs<=Ak ks*s.length
 | [],s,vs,h=>by rw [Dp] at h; cases h
 | z::ks,s,vs,h=>by
  rw [Dp] at h;have hz:=BN z
  have:=J1 (s:=s) (Aj z) hz (fun n v hv=>by
   unfold A1 at hv;split at hv
   ·cases hv; rw [vcR,vcL]; omega
   ·cases hv) (fun d v hv=>Et z d 0 v hv) s.length 0 vs (by omega) h
  rw [sub_zero] at this;rw [Ak,add_mul]; omega
theorem Jy : ∀ (ks:RL) (fs:List WFd) (vs:RVL),Bf ks fs=some vs->vcL vs<=Ak ks*(mxD fs+1)
 | [],fs,vs,h=>by rw [Bf] at h; cases h; rw [vcL]; omega
 | p::ks,fs,vs,h=>by
  rw [Bf] at h;rw [Ak,add_mul];split at h
  ·split at h
   ·cases h
   ·have:=Jy ks fs vs h; omega
  ·rename_i f hf;have hmem:=List.mem_of_find?_eq_some hf;have hmx:=Lm hmem;split at h
   ·split at h
    ·rename_i v hv;obtain ⟨us,h1,rfl⟩:=map_eq_some_iff.1 h;have ih:=Jy ks fs us h1;have hp:=BN p
     have h2:vcR v<=Aj p*(mxD fs+1):=by
      split at hv
      ·unfold A1 at hv;split at hv
       ·cases hv;rw [vcR,vcL];exact mul_pos hp (by omega)
       ·cases hv
      ·have:=Et p _ _ v hv;exact Nat.le_trans this (mul_le_mul_left _ (by omega))
     rw [vcL]; omega
    ·cases h
   ·cases h
end
theorem XK {z:Rose Lab} {s:By} {a b:Nat} {v:Rose A4} {up:Nat} {o:List Nd} (h:(BC (fkB z) (fun n=>A1 z n 0) (fun d=>AI z d 0) s (s.length-a) a)=(BC (fkB z) (fun n=>A1 z n 0) (fun d=>AI z d 0) s (s.length-b) b).map (v::·)) {ex:Ex} {d:Dt} (hd:(Br.br (BC (fkB z) (fun n=>A1 z n 0) (fun d=>AI z d 0) s (s.length-a) a).isSome (.leaf (.exit 0,([.ref 1 0 (o++AA ((BC (fkB z) (fun n=>A1 z n 0) (fun d=>AI z d 0) s (s.length-a) a).getD []) up o.length).length],[none,R0 NCd (o++AA ((BC (fkB z) (fun n=>A1 z n 0) (fun d=>AI z d 0) s (s.length-a) a).getD []) up o.length)]))) (.leaf (.ret,([.ref 1 0 0,.b false],[none,R0 NCd []]))):Br (Ex×Dt)).run=some (ex,d)):(Br.br (BC (fkB z) (fun n=>A1 z n 0) (fun d=>AI z d 0) s (s.length-b) b).isSome (.leaf (.exit 0,([.ref 1 0 ((o++Am v up o.length)++AA ((BC (fkB z) (fun n=>A1 z n 0) (fun d=>AI z d 0) s (s.length-b) b).getD []) up (o++Am v up o.length).length).length],[none,R0 NCd ((o++Am v up o.length)++AA ((BC (fkB z) (fun n=>A1 z n 0) (fun d=>AI z d 0) s (s.length-b) b).getD []) up (o++Am v up o.length).length)]))) (.leaf (.ret,([.ref 1 0 0,.b false],[none,R0 NCd []]))):Br (Ex×Dt)).run=some (ex,d):=by
 rw [h] at hd
 cases e:(BC (fkB z) (fun n=>A1 z n 0) (fun d=>AI z d 0) s (s.length-b) b) with
 | none=>rw [e] at hd; exact hd
 | some vs=>
  rw [e] at hd;refine Eq.trans ?_ hd;show some _=some _;rw [show ((Option.map (v::·) (some vs)).getD [])=v::vs from rfl,show ((some vs).getD [])=vs from rfl];simp only [AA,length_append,append_assoc]
theorem ZW (n:Nat) (z:Rose Lab) (hz:Ah z=true) (hcn:Aj z<=n) (s:By) (hs:s.length<=400) (up:Nat) : ∀ (j a:Nat) (o:List Nd),s.length-a<=j->a<=s.length->o.length+Aj z*(s.length-a)<=1000000->∀ ex d,(Br.br (BC (fkB z) (fun n=>A1 z n 0) (fun d=>AI z d 0) s (s.length-a) a).isSome (.leaf (.exit 0,([.ref 1 0 (o++AA ((BC (fkB z) (fun n=>A1 z n 0) (fun d=>AI z d 0) s (s.length-a) a).getD []) up o.length).length],[none,R0 NCd (o++AA ((BC (fkB z) (fun n=>A1 z n 0) (fun d=>AI z d 0) s (s.length-a) a).getD []) up o.length)]))) (.leaf (.ret,([.ref 1 0 0,.b false],[none,R0 NCd []]))):Br (Ex×Dt)).run=some (ex,d)->Runs prog (S4 n) (Aa [(3,dlE n)]) 1 (body f124 0) (dlE n) ([.ref 1 0 o.length,.s s,.j (up:Int),.tp LCd z 0,.j (a:Int)],[none,R0 NCd o]) ex d:=by
 intro j
 induction j with
 | zero=>
  intro a o hj ha ho ex d h;have hr:=Mc n o.length s up z a o;rw [Ae (dcF (by omega))] at hr;rw [GA (by omega)] at h;have h8:=Bk (show (Br.leaf (.exit 0,([.ref 1 0 (o++AA [] up o.length).length],[none,R0 NCd (o++AA [] up o.length)])):Br (Ex×Dt)).run=some (ex,d) from h);obtain ⟨rfl,rfl⟩:=Prod.mk.inj h8;rw [AA,append_nil];exact stp hr
 | succ j ih=>
  intro a o hj ha ho ex d h
  by_cases hlt:a<s.length
  ·have hr:=Mc n o.length s up z a o;have ⟨⟨u1,u2⟩,u3,u4⟩:=EQ s a;have hst:=J0 (num:=fkB z) (N:=fun n=>A1 z n 0) (D:=fun d=>AI z d 0) hlt;have hcp:=BN z;have mul : ∀ b:Nat,a<b->b<=s.length->Aj z*(b-a)+Aj z*(s.length-b)=Aj z*(s.length-a):=fun b k1 k2=>by rw [<-mul_add]; congr 1; omega
   have bad : ∀ {w},Au prog (S4 n) (Aa [(3,dlE n)]) 1 (body f124 0) (dlE n) ([.ref 1 0 o.length,.s s,.j (up:Int),.tp LCd z 0,.j (a:Int)],[none,R0 NCd o])=w->w=some ((.ret:Ex),(([.ref 1 0 0,.b false]:List V),[none,R0 NCd []]))->(BC (fkB z) (fun n=>A1 z n 0) (fun d=>AI z d 0) s (s.length-a) a)=none->Runs prog (S4 n) (Aa [(3,dlE n)]) 1 (body f124 0) (dlE n) ([.ref 1 0 o.length,.s s,.j (up:Int),.tp LCd z 0,.j (a:Int)],[none,R0 NCd o]) ex d:=fun e1 e2 e3=>by
    rw [e3] at h;have h8:=Bk (show (Br.leaf (.ret,([.ref 1 0 0,.b false],[none,R0 NCd []])):Br (Ex×Dt)).run=some (ex,d) from h);obtain ⟨rfl,rfl⟩:=Prod.mk.inj h8;exact .stop _ _ _ (e1.trans e2) (by simp)
   rw [Af (dcT (by omega)),ntN] at hr
   cases hf:fkB z with
   | true=>
    rw [hf] at hr hst;dsimp only at hst;rw [if_pos rfl,Af (show ((0:Int)==0)=true from rfl),Ab (dcT (by omega)),Ab (dcT (by omega)),Ab (dcT ⟨rfl,by omega⟩)] at hr
    cases hn:A1 z (unf (A8 (Ai s a))) 0 with
    | none=>
     rw [hn] at hr hst;refine bad hr rfl (by rw [hf]; exact hst)
    | some v=>
     rw [hn] at hr hst;dsimp only at hst;rw [show (some v).isSome=true from rfl,Bg] at hr
     cases h3:BP (Ai s a) with
     | false=>
      rw [h3] at hr hst;exact bad hr rfl (by rw [hf]; exact hst)
     | true=>
      rw [h3] at hr hst;have e:=Fu h3;rw [if_pos rfl] at hst;have k2:=mul (Ax a (Ai s a)).toNat (by omega) (by omega);have k3:Aj z<=Aj z*((Ax a (Ai s a)).toNat-a):=Nat.le_mul_of_pos_right _ (by omega)
      have hv:Am v up o.length=[(unf (A8 (Ai s a)),[],0,(up:Int),false,())]:=by
       unfold A1 at hn;split at hn
       ·cases hn; rw [Am,AA]
       ·cases hn
      have h':=XK (up:=up) (o:=o) (by rw [hf]; exact hst) h;have ih':=ih (Ax a (Ai s a)).toNat (o++Am v up o.length) (by omega) (by omega) (by rw [hv,length_append,length_singleton]; omega) ex d h';rw [hv,length_append,length_singleton,show (((Ax a (Ai s a)).toNat:Nat):Int)=Ax a (Ai s a) by omega] at ih';exact sts hr ih'
   | false=>
    rw [hf] at hr hst;dsimp only at hst;rw [if_neg (by simp),Ae (show ((2:Int)==0)=false from rfl),Ab (dcT (by omega))] at hr
    cases h3:(Bd s a).2.2 with
    | false=>
     rw [h3] at hr hst;exact bad hr rfl (by rw [hf]; exact hst)
    | true=>
     rw [h3] at hr hst;dsimp only at hst;have e:=IQ h3;have k2:=mul (Bd s a).2.1.toNat (by omega) (by omega);have k3:Aj z*((Bd s a).1.length+1)<=Aj z*((Bd s a).2.1.toNat-a):=mul_le_mul_left _ (by omega);rw [Bool.not_true,AR,Ab (dcT ⟨rfl,by omega,hz,hcn,by omega⟩)] at hr
     cases hn:AI z (Bd s a).1 0 with
     | none=>
      rw [hn] at hr hst;exact bad hr rfl (by rw [hf]; exact hst)
     | some v=>
      have hsz:=Et z _ _ v hn;have hdo:Bx z (Bd s a).1 0 up o=o++Am v up o.length:=by unfold Bx; rw [hn]
      rw [hn,hdo] at hr;rw [hn] at hst;dsimp only at hst;have hl:=Cn v up o.length;have h':=XK (up:=up) (o:=o) (by rw [hf]; exact hst) h;have ih':=ih (Bd s a).2.1.toNat (o++Am v up o.length) (by omega) (by omega) (by rw [length_append,hl]; omega) ex d h';rw [show (((Bd s a).2.1.toNat:Nat):Int)=(Bd s a).2.1 by omega] at ih';exact sts hr ih'
  ·have hr:=Mc n o.length s up z a o;rw [Ae (dcF (by omega))] at hr;rw [GA (by omega)] at h;have h8:=Bk (show (Br.leaf (.exit 0,([.ref 1 0 (o++AA [] up o.length).length],[none,R0 NCd (o++AA [] up o.length)])):Br (Ex×Dt)).run=some (ex,d) from h);obtain ⟨rfl,rfl⟩:=Prod.mk.inj h8;rw [AA,append_nil];exact stp hr
theorem Af7 (n:Nat):Aw prog (S4 n) (Aa [(3,dlE n)]) 1 (f124.body.getD .skip):=by
 refine As (a:=body f124 0) (by kernel_rfl) fun d ex d' h=>?_
 unfold dlE at h;dsimp only at h;split at h
 ·rename_i m s up z a o;obtain ⟨hc,hx⟩:=Ad h;obtain ⟨rfl,h0,h1,h2,h3,h4,h5,h6⟩:=of_decide_eq_true hc;obtain ⟨a,rfl⟩:=eq_ofNat_of_zero_le h0;obtain ⟨up,rfl⟩:=eq_ofNat_of_zero_le h2;simp only [ntN] at h1 h6 hx;exact ZW n z h4 h5 s h3 up _ a o (le_refl _) h1 h6 ex d' hx
 ·cases h
theorem NG (n k m w:Nat) (ro:Bool) (up:Int) (ks:RL) (c i:Int) (o:List Nd) (fs:List Pl):Au prog (Kb k n) (Aa [(12,Js k)]) 0 (body f78 0) (Js k) ([.ref 0 0 m,.ref 1 0 w,.j up,.sl (.tree LCd) ks,.j c,.j i],[R0 NCd o,some (.row ro none PCd fs)]) =
 ((ifB (decide (i<c)) (ifT (decide (0<=i)&&decide (i<(↑ks.length:Int))) (An ks[i.toNat]? fun z=>ifB (decide (A9 (fun z_1=>z_1.1.1==(Rose.lab
 z).2.2.1) 0 (take w (drop 0 fs))<(0:Int))) (ifB (Rose.lab z).2.2.2.1 (some (Ex.ret,[V.ref 0 0 0,V.b false],[R0 NCd (Ag NCd.den)])) (some (Ex.normal,[V.ref 0 0 m,V.ref 1 0 w,V.j up,V.sl LCd.tree ks,V.j c,V.j (i64.wrap (i+1))],[R0 NCd o,some (Blk.row true none PCd fs)]))) (ifT (decide ((0:Int)<=A9 (fun z_1=>z_1.1.1==(Rose.lab z).2.2.1) 0 (take
 w (drop 0 fs)))&&decide (A9 (fun z_1=>z_1.1.1==(Rose.lab z).2.2.1) 0 (take w (drop 0 fs))<(↑w:Int)))
 (An fs[0+(A9 (fun z_1=>z_1.1.1==(Rose.lab z).2.2.1) 0 (take w (drop 0 fs))).toNat]? fun z_1=>ifB
 (z_1.1.2.1 != if fkB z=true then (0:Int) else (2:Int)) (some (Ex.ret,[V.ref 0 0 0,V.b false],[R0 NCd (Ag NCd.den)])) (ifB
 (z_1.1.2.1==(0:Int)) (ifT (decide (m=o.length/\o.length<=2000000)) (ifB (!(A1 z z_1.1.2.2.1 (Rose.lab z).2.2.1).isSome) (some
 (Ex.ret,[V.ref 0 0 0,V.b false],[R0 NCd (Ag NCd.den)])) (some (Ex.normal,[V.ref 0 0 (o.length+1),V.ref 1 0 w,V.j up,V.sl
 LCd.tree ks,V.j c,V.j (i64.wrap (i+1))],[R0 NCd (o++(z_1.1.2.2.1,Ag UInt8,(Rose.lab z).2.2.1,up,false,
 ())::Ag (Int×By×Int×Int×Bool×Unit)),some (Blk.row true none PCd fs)])))) (ifT (decide (m=o.length/\List.length z_1.1.2.2.2.1<=(400 :
 Nat)/\Ah z=true/\Aj z<=k/\o.length+Aj z*(List.length z_1.1.2.2.2.1+1)<=1000000)) (ifB (!(AI z z_1.1.2.2.2.1
 (Rose.lab z).2.2.1).isSome) (some (Ex.ret,[V.ref 0 0 0,V.b false],[R0 NCd (Ag NCd.den)])) (some (Ex.normal,[V.ref 0 0 (Bx z
 z_1.1.2.2.2.1 (Rose.lab z).2.2.1 up o).length,V.ref 1 0 w,V.j up,V.sl LCd.tree ks,V.j c,V.j (i64.wrap (i+1))],[R0 NCd (Bx z z_1.1.2.2.2.1 (Rose.lab z).2.2.1 up o),some (Blk.row true none PCd fs)]))))))))) (some (Ex.exit 1,[V.ref 0 0 m],
 [R0 NCd o]))):_):=by kernel_rfl
theorem XJ (n k:Nat) (z:Rose Lab) (s:By) (no up:Int):Bm prog (Kb k n) (Aa [(12,Js k)]) f78 [.tp LCd z 0,.nl,.s s,.j no,.j up] [] =
 ((ifB (z.lab.1==(2:Int)) (some (V.tup [V.ref 0 0 1,V.b (decide ((↑s.length:Int)<=(30:Int)))],[R0 NCd (((0:Int),s,no,up,false,())::
 Ag NCd.den)])) (ifB (z.lab.1==(4:Int)) (ifT (decide (1=1/\(0:Int)<=(0:Int)/\s.length<=400/\z.kids.length=1/\
 z.kids.all Ah=true/\Aj z<=n/\1+Ak z.kids*s.length<=1000000)) (some (V.tup [V.ref 0 0 (Hr z s (0:Int) (((0:Int),Ag UInt8,no,
 up,true,())::Ag NCd.den)).length,V.b (Dp z.kids s).isSome],[R0 NCd (Hr z s (0:Int) (((0:Int),Ag UInt8,no,up,true,())::Ag
 NCd.den))]))) (ifT (decide (s.length<=4000000000)) (ifB (!(CA s).isSome) (some (V.tup [V.ref 0 0 0,V.b false],[R0 NCd (Ag
 NCd.den)])) (ifT (decide (1=1/\((CA s).getD (Ag Pl)).length=((CA s).getD (Ag Pl)).length/\(↑z.kids.length:Int)=(↑z.kids.length:Int)/\
 (0:Int)<=(0:Int)/\0<=z.kids.length/\z.kids.length<=1000000/\((CA s).getD (Ag Pl)).length<=40/\(0:Int)<=(0:Int)/\mxD
 (List.map (fun x=>x.1) ((CA s).getD (Ag Pl)))<=400/\(((CA s).getD (Ag Pl)).all fun x=>AJ x.1)=true/\Ak z.kids<=k/\A6 (5:Int)
 z.kids=true/\1+Ak (drop 0 z.kids)*(mxD (List.map (fun x=>x.1) ((CA s).getD (Ag Pl)))+1)<=1000000)) (ifB (Bf
 (drop 0 z.kids) (List.map (fun x=>x.1) ((CA s).getD (Ag Pl)))).isSome (some (V.tup [V.ref 0 0 (((0:Int),Ag UInt8,no,up,true,())::Ag
 NCd.den++AA ((Bf (drop 0 z.kids) (List.map (fun x=>x.1) ((CA s).getD (Ag Pl)))).getD (Ag (Rose A4))) 0 1).length,V.b
 true],[R0 NCd (((0:Int),Ag UInt8,no,up,true,())::Ag NCd.den++AA ((Bf (drop 0 z.kids) (List.map (fun x=>x.1)
 ((CA s).getD (Ag Pl)))).getD (Ag (Rose A4))) 0 1)])) (some (V.tup [V.ref 0 0 0,V.b false],[R0 NCd (Ag NCd.den)])))))))):_):=by kernel_rfl

theorem Ad3 (n:Nat) (z:Rose Lab) (m:Nat) (s:By) (up:Int) (nl:Option Bool) (o:List Nd) (hc:m=o.length/\0<=up/\s.length<=400/\z.kids.length=1/\z.kids.all Ah=true/\Aj z<=(n+1)/\o.length+Ak z.kids*s.length<=1000000):Z8 prog (S4 n) (Aa [(3,dlE n)]) f124 [.tp LCd z 0,.ref 0 0 m,.s s,.j up] [.row false nl NCd o]=some (.tup [.ref 1 0 (Hr z s up o).length,.b (Dp z.kids s).isSome],[none,R0 NCd (Hr z s up o)]):=by
 obtain ⟨rfl,h1,h2,h3,h4,h5,h6⟩:=hc;obtain ⟨up,rfl⟩:=eq_ofNat_of_zero_le h1;rw [ZV];obtain ⟨x,ks⟩:=z;have h3:ks.length=1:=h3
 match ks,h3 with
 | [y],_=>
  have h4:[y].all Ah=true:=h4;have h6:o.length+Ak [y]*s.length<=1000000:=h6;have h5:Aj (.node x [y])<=n+1:=h5;have hy:Ah y=true:=by simpa using h4
  have e:Ak [y]=Aj y:=by rw [Ak,Ak]; rfl
  have e2:Aj (.node x [y])=Aj y+1:=by rw [Aj,e]
  rw [e] at h6;rw [Ab (by rfl)];show An (some y) _=_;rw [Ap,sub_zero,Ab (dcT ⟨rfl,by omega,by omega,h1,h2,hy,by omega,h6⟩)];unfold Hr;dsimp only [Rose.kids];rw [Dp]
  cases BC (fkB y) (fun n=>A1 y n 0) (fun d=>AI y d 0) s s.length 0 with
  | none=>rfl
  | some vs=>rfl
theorem XL (n:Nat) (ih:Ac prog 78 (Ent.own (MF n)).F):Ac prog 124 (Ent.own (dlN (n+1))).F:=by
 refine M8 (kc func62 kfk (kc func164 tvi (kc func165 Afr (kc func127 Adz (kc func166 itb (kc func78 (ih) KnowsL.nil)))))).knows (Λ:=(Aa [(3,dlE n)])) func124 (c:=f124.body.getD .skip) (by kernel_rfl) fun vs bs r hq=>?_
 unfold Ent.F dlN at hq;dsimp only at hq;split at hq
 ·rename_i z m s up nl o;obtain ⟨hc,hx⟩:=Ad hq;exact ⟨Af7 n,(Ad3 n z m s up nl o (of_decide_eq_true hc)).trans hx⟩
 ·cases hq
theorem BH {k:Int} : ∀ {ks:RL},A6 k ks=true->∀ z∈ks,DL k z.lab=true/\Ah z=true
 | y::ks,h,z,hz=>by
  rw [A6,anE,anE] at h;rcases mem_cons.1 hz with rfl | hz
  ·exact h.1
  ·exact BH h.2 z hz
theorem EL {f:WFd} (h:AJ f=true):f.2.1=0\/f.2.1=2:=by
 unfold AJ at h;rw [anE] at h;have h:=h.2;split at h
 ·rename_i q; exact .inl q
 ·split at h
  ·rename_i q; exact .inr q
  ·cases h
theorem Tq (fs:List Pl) (no:Int):(fs.map (·.1)).find? (fun f=>f.1==no)=(fs.find? fun z:Pl=>z.1.1==no).map (·.1):=by
 rw [List.find?_map];rfl
theorem XI {ks:RL} {fs:List Pl} {i:Nat} {v:Rose A4} {up:Nat} {o:List Nd} (h:(Bf (ks.drop i) (fs.map (·.1)))=(Bf (ks.drop (i+1)) (fs.map (·.1))).map (v::·)) {ex:Ex} {d:Dt} (hd:(Br.br (Bf (ks.drop i) (fs.map (·.1))).isSome (.leaf (.exit 1,([.ref 1 0 (o++AA ((Bf (ks.drop i) (fs.map (·.1))).getD []) up o.length).length],[none,R0 NCd (o++AA ((Bf (ks.drop i) (fs.map (·.1))).getD []) up o.length)]))) (.leaf (.ret,([.ref 1 0 0,.b false],[none,R0 NCd []]))):Br (Ex×Dt)).run=some (ex,d)):(Br.br (Bf (ks.drop (i+1)) (fs.map (·.1))).isSome (.leaf (.exit 1,([.ref 1 0 ((o++Am v up o.length)++AA ((Bf (ks.drop (i+1)) (fs.map (·.1))).getD []) up (o++Am v up o.length).length).length],[none,R0 NCd ((o++Am v up o.length)++AA ((Bf (ks.drop (i+1)) (fs.map (·.1))).getD []) up (o++Am v up o.length).length)]))) (.leaf (.ret,([.ref 1 0 0,.b false],[none,R0 NCd []]))):Br (Ex×Dt)).run=some (ex,d):=by
 rw [h] at hd
 cases e:(Bf (ks.drop (i+1)) (fs.map (·.1))) with
 | none=>rw [e] at hd; exact hd
 | some vs=>
  rw [e] at hd;refine Eq.trans ?_ hd;show some _=some _;rw [show ((Option.map (v::·) (some vs)).getD [])=v::vs from rfl,show ((some vs).getD [])=vs from rfl];simp only [AA,length_append,append_assoc]
theorem K5 (n k:Nat) (ks:RL) (hks:A6 5 ks=true) (hcn:Ak ks<=k) (hlen:ks.length<=1000000) (fs:List Pl) (hfs:fs.length<=40) (hmx:mxD (fs.map (·.1))<=400) (hfb:(fs.all fun x=>AJ x.1)=true) (up:Nat) : ∀ (j i:Nat) (ro:Bool) (o:List Nd),i+j=ks.length->o.length+Ak (ks.drop i)*(mxD (fs.map (·.1))+1)<=1000000->∀ ex d,(Br.br (Bf (ks.drop i) (fs.map (·.1))).isSome (.leaf (.exit 1,([.ref 1 0 (o++AA ((Bf (ks.drop i) (fs.map (·.1))).getD []) up o.length).length],[none,R0 NCd (o++AA ((Bf (ks.drop i) (fs.map (·.1))).getD []) up o.length)]))) (.leaf (.ret,([.ref 1 0 0,.b false],[none,R0 NCd []]))):Br (Ex×Dt)).run=some (ex,d)->Runs prog (Kb k n) (Aa [(12,dmE k)]) 1 (body f78 0) (dmE k) ([.ref 1 0 o.length,.ref 2 0 fs.length,.j (up:Int),.sl (.tree LCd) ks,.j (ks.length:Int),.j (i:Int)],[none,R0 NCd o,some (.row ro none PCd fs)]) ex d
 | 0,i,ro,o,hi,ho,ex,d,h=>by
  have hr:=QD n k o.length fs.length ro up ks ks.length i o fs;rw [Ae (dcF (by omega))] at hr;rw [drop_eq_nil_of_le (by omega),Bf] at h;have h8:=Bk (show (Br.leaf (.exit 1,([.ref 1 0 (o++AA [] up o.length).length],[none,R0 NCd (o++AA [] up o.length)])):Br (Ex×Dt)).run=some (ex,d) from h);obtain ⟨rfl,rfl⟩:=Prod.mk.inj h8;rw [AA,append_nil];exact stp hr
 | j+1,i,ro,o,hi,ho,ex,d,h=>by
  have hl:i<ks.length:=by omega
  have hr:=QD n k o.length fs.length ro up ks ks.length i o fs;have W1:i64.wrap ((i:Int)+1)=((i+1:Nat):Int):=by rw [Av (by omega) (by omega)]; omega
  have hd:=drop_eq_getElem_cons hl;have hm:=getElem_mem hl;obtain ⟨hp,hrz⟩:=BH hks _ hm;have hcz:=Bo hm;rw [Af (dcT (by omega)),T2 (by omega),ntN,gtE hl,Ap,W1,drop_zero,take_length] at hr;have hst:=Bv ks[i] (ks.drop (i+1)) (fs.map (·.1));rw [<-hd,Tq] at hst;rw [hd,Ak,add_mul] at ho;have hpos:=BN ks[i];generalize ks[i]=p at hr hst ho hp hrz hcz hpos
  have bad : ∀ {w},Au prog (Kb k n) (Aa [(12,dmE k)]) 1 (body f78 0) (dmE k) ([.ref 1 0 o.length,.ref 2 0 fs.length,.j (up:Int),.sl (.tree LCd) ks,.j (ks.length:Int),.j (i:Int)],[none,R0 NCd o,some (.row ro none PCd fs)])=w->w=some ((.ret:Ex),(([.ref 1 0 0,.b false]:List V),[none,R0 NCd []]))->(Bf (ks.drop i) (fs.map (·.1)))=none->Runs prog (Kb k n) (Aa [(12,dmE k)]) 1 (body f78 0) (dmE k) ([.ref 1 0 o.length,.ref 2 0 fs.length,.j (up:Int),.sl (.tree LCd) ks,.j (ks.length:Int),.j (i:Int)],[none,R0 NCd o,some (.row ro none PCd fs)]) ex d:=fun e1 e2 e3=>by
   rw [e3] at h;have h8:=Bk (show (Br.leaf (.ret,([.ref 1 0 0,.b false],[none,R0 NCd []])):Br (Ex×Dt)).run=some (ex,d) from h);obtain ⟨rfl,rfl⟩:=Prod.mk.inj h8;exact .stop _ _ _ (e1.trans e2) (by simp)
  by_cases q:A9 (fun z:Pl=>z.1.1==p.lab.2.2.1) 0 fs<0
  ·rw [Jn _ _ _ q] at hst;rw [Af (dcT q)] at hr;dsimp only [map_none] at hst
   cases hmu:p.lab.2.2.2.1 with
   | true=>
    rw [hmu] at hr hst;exact bad hr rfl (hst.trans (if_pos rfl))
   | false=>
    rw [hmu] at hr hst;rw [if_neg (by simp)] at hst;have ih:=K5 n k ks hks hcn hlen fs hfs hmx hfb up j (i+1) true o (by omega) (by omega) ex d (by rw [<-hst]; exact h);exact sts hr ih
  ·obtain ⟨q0,hq0,hq1,hq2,hq3⟩:=GU (fun z:Pl=>z.1.1==p.lab.2.2.1) fs 0 (by omega);rw [hq3] at hst;dsimp only [map_some] at hst;have hno:fs[q0].1.1=p.lab.2.2.1:=by simpa using hq2
   have hmem:fs[q0].1∈fs.map (·.1):=mem_map.2 ⟨_,getElem_mem hq0,rfl⟩;have hml:=Lm hmem;have hkd:=EL (all_eq_true.1 hfb _ (getElem_mem hq0));rw [Ae (dcF q),hq1,zero_add,T2 (by omega),ntN,zero_add,gtE hq0,Ap] at hr;generalize fs[q0].1=f at hr hst hno hml hkd;unfold Dh at hst;rw [hno] at hst
   by_cases hk0:f.2.1=0
   ·have hb0:(f.2.1==0)=true:=by rw [hk0]; rfl
    cases hfk:fkB p with
    | false=>
     rw [hfk] at hr hst;rw [if_neg (by rw [hb0]; simp)] at hst;rw [Af (by rw [hk0]; rfl)] at hr;exact bad hr rfl hst
    | true=>
     rw [hfk] at hr hst;rw [if_pos hb0,if_pos hb0] at hst;rw [Ae (by rw [hk0]; rfl),Af hb0,Ab (dcT ⟨rfl,by omega⟩)] at hr
     cases hn:A1 p f.2.2.1 p.lab.2.2.1 with
     | none=>
      rw [hn] at hr hst;exact bad hr rfl hst
     | some v=>
      rw [hn] at hr hst;dsimp only at hst
      have hv:Am v up o.length=[(f.2.2.1,[],p.lab.2.2.1,(up:Int),false,())]:=by
       unfold A1 at hn;split at hn
       ·cases hn; rw [Am,AA]
       ·cases hn
      have h':=XI (up:=up) (o:=o) hst h;have hmul:1<=Aj p*(mxD (fs.map (·.1))+1):=mul_pos hpos (by omega);have ih:=K5 n k ks hks hcn hlen fs hfs hmx hfb up j (i+1) true (o++Am v up o.length) (by omega) (by rw [hv,length_append,length_singleton]; omega) ex d h';rw [hv,length_append,length_singleton] at ih;exact sts hr ih
   ·have hb0:(f.2.1==0)=false:=beq_eq_false_iff_ne.2 hk0
    cases hfk:fkB p with
    | true=>
     rw [hfk] at hr hst;rw [if_neg (by rw [hb0]; simp)] at hst;rw [if_pos rfl,Af (bne_iff_ne.2 hk0)] at hr;exact bad hr rfl hst
    | false=>
     rw [hfk] at hr hst;rw [if_pos hb0,if_neg (by rw [hb0]; simp)] at hst;rw [if_neg (by simp)] at hr;have hk2:f.2.1=2:=by rcases hkd with e | e; exact absurd e hk0; exact e
     have hml2:Aj p*(f.2.2.2.1.length+1)<=Aj p*(mxD (fs.map (·.1))+1):=mul_le_mul_left _ (by omega);rw [Ae (by rw [hk2]; rfl),Ae hb0,Ab (dcT ⟨rfl,by omega,hrz,by omega,by omega⟩)] at hr
     cases hn:AI p f.2.2.2.1 p.lab.2.2.1 with
     | none=>
      rw [hn] at hr hst;exact bad hr rfl hst
     | some v=>
      have hsz:=Et p _ _ v hn;have hdo:Bx p f.2.2.2.1 p.lab.2.2.1 up o=o++Am v up o.length:=by unfold Bx; rw [hn]
      rw [hn,hdo] at hr;rw [hn] at hst;dsimp only at hst;have hl2:=Cn v up o.length;have h':=XI (up:=up) (o:=o) hst h;have ih:=K5 n k ks hks hcn hlen fs hfs hmx hfb up j (i+1) true (o++Am v up o.length) (by omega) (by rw [length_append,hl2]; omega) ex d h';exact sts hr ih
theorem Af6 (n k:Nat):Aw prog (Kb k n) (Aa [(12,dmE k)]) 1 (f78.body.getD .skip):=by
 refine As (a:=body f78 0) (by kernel_rfl) fun d ex d' h=>?_
 unfold dmE at h;dsimp only at h;split at h
 ·rename_i m w up ks c i o ro fs;obtain ⟨hc,hx⟩:=Ad h;obtain ⟨rfl,rfl,rfl,h1,h2,h3,h4,h5,h6,h7,h8,h9,h10⟩:=of_decide_eq_true hc;obtain ⟨i,rfl⟩:=eq_ofNat_of_zero_le h1;obtain ⟨up,rfl⟩:=eq_ofNat_of_zero_le h5;simp only [ntN] at h2 h10 hx;exact K5 n k ks h9 h8 h3 fs h4 h6 h7 up (ks.length-i) i ro o (by omega) h10 ex d' hx
 ·cases h
theorem Tz {ks:RL} {fs:List Pl} {i:Nat} {v:Rose A4} {up:Nat} {o:List Nd} (h:(Bf (ks.drop i) (fs.map (·.1)))=(Bf (ks.drop (i+1)) (fs.map (·.1))).map (v::·)) {ex:Ex} {d:Dt} (hd:(Br.br (Bf (ks.drop i) (fs.map (·.1))).isSome (.leaf (.exit 1,([.ref 0 0 (o++AA ((Bf (ks.drop i) (fs.map (·.1))).getD []) up o.length).length],[R0 NCd (o++AA ((Bf (ks.drop i) (fs.map (·.1))).getD []) up o.length)]))) (.leaf (.ret,([.ref 0 0 0,.b false],[R0 NCd []]))):Br (Ex×Dt)).run=some (ex,d)):(Br.br (Bf (ks.drop (i+1)) (fs.map (·.1))).isSome (.leaf (.exit 1,([.ref 0 0 ((o++Am v up o.length)++AA ((Bf (ks.drop (i+1)) (fs.map (·.1))).getD []) up (o++Am v up o.length).length).length],[R0 NCd ((o++Am v up o.length)++AA ((Bf (ks.drop (i+1)) (fs.map (·.1))).getD []) up (o++Am v up o.length).length)]))) (.leaf (.ret,([.ref 0 0 0,.b false],[R0 NCd []]))):Br (Ex×Dt)).run=some (ex,d):=by
 rw [h] at hd
 cases e:(Bf (ks.drop (i+1)) (fs.map (·.1))) with
 | none=>rw [e] at hd; exact hd
 | some vs=>
  rw [e] at hd;refine Eq.trans ?_ hd;show some _=some _;rw [show ((Option.map (v::·) (some vs)).getD [])=v::vs from rfl,show ((some vs).getD [])=vs from rfl];simp only [AA,length_append,append_assoc]
theorem I9 (n k:Nat) (ks:RL) (hks:A6 5 ks=true) (hcn:Ak ks<=k) (hlen:ks.length<=1000000) (fs:List Pl) (hfs:fs.length<=40) (hmx:mxD (fs.map (·.1))<=400) (hfb:(fs.all fun x=>AJ x.1)=true) (up:Nat) : ∀ (j i:Nat) (ro:Bool) (o:List Nd),i+j=ks.length->o.length+Ak (ks.drop i)*(mxD (fs.map (·.1))+1)<=1000000->∀ ex d,(Br.br (Bf (ks.drop i) (fs.map (·.1))).isSome (.leaf (.exit 1,([.ref 0 0 (o++AA ((Bf (ks.drop i) (fs.map (·.1))).getD []) up o.length).length],[R0 NCd (o++AA ((Bf (ks.drop i) (fs.map (·.1))).getD []) up o.length)]))) (.leaf (.ret,([.ref 0 0 0,.b false],[R0 NCd []]))):Br (Ex×Dt)).run=some (ex,d)->Runs prog (Kb k n) (Aa [(12,Js k)]) 0 (body f78 0) (Js k) ([.ref 0 0 o.length,.ref 1 0 fs.length,.j (up:Int),.sl (.tree LCd) ks,.j (ks.length:Int),.j (i:Int)],[R0 NCd o,some (.row ro none PCd fs)]) ex d
 | 0,i,ro,o,hi,ho,ex,d,h=>by
  have hr:=NG n k o.length fs.length ro up ks ks.length i o fs;rw [Ae (dcF (by omega))] at hr;rw [drop_eq_nil_of_le (by omega),Bf] at h;have h8:=Bk (show (Br.leaf (.exit 1,([.ref 0 0 (o++AA [] up o.length).length],[R0 NCd (o++AA [] up o.length)])):Br (Ex×Dt)).run=some (ex,d) from h);obtain ⟨rfl,rfl⟩:=Prod.mk.inj h8;rw [AA,append_nil];exact stp hr
 | j+1,i,ro,o,hi,ho,ex,d,h=>by
  have hl:i<ks.length:=by omega
  have hr:=NG n k o.length fs.length ro up ks ks.length i o fs;have W1:i64.wrap ((i:Int)+1)=((i+1:Nat):Int):=by rw [Av (by omega) (by omega)]; omega
  have hd:=drop_eq_getElem_cons hl;have hm:=getElem_mem hl;obtain ⟨hp,hrz⟩:=BH hks _ hm;have hcz:=Bo hm;rw [Af (dcT (by omega)),T2 (by omega),ntN,gtE hl,Ap,W1,drop_zero,take_length] at hr;have hst:=Bv ks[i] (ks.drop (i+1)) (fs.map (·.1));rw [<-hd,Tq] at hst;rw [hd,Ak,add_mul] at ho;have hpos:=BN ks[i];generalize ks[i]=p at hr hst ho hp hrz hcz hpos
  have bad : ∀ {w},Au prog (Kb k n) (Aa [(12,Js k)]) 0 (body f78 0) (Js k) ([.ref 0 0 o.length,.ref 1 0 fs.length,.j (up:Int),.sl (.tree LCd) ks,.j (ks.length:Int),.j (i:Int)],[R0 NCd o,some (.row ro none PCd fs)])=w->w=some ((.ret:Ex),(([.ref 0 0 0,.b false]:List V),[R0 NCd []]))->(Bf (ks.drop i) (fs.map (·.1)))=none->Runs prog (Kb k n) (Aa [(12,Js k)]) 0 (body f78 0) (Js k) ([.ref 0 0 o.length,.ref 1 0 fs.length,.j (up:Int),.sl (.tree LCd) ks,.j (ks.length:Int),.j (i:Int)],[R0 NCd o,some (.row ro none PCd fs)]) ex d:=fun e1 e2 e3=>by
   rw [e3] at h;have h8:=Bk (show (Br.leaf (.ret,([.ref 0 0 0,.b false],[R0 NCd []])):Br (Ex×Dt)).run=some (ex,d) from h);obtain ⟨rfl,rfl⟩:=Prod.mk.inj h8;exact .stop _ _ _ (e1.trans e2) (by simp)
  by_cases q:A9 (fun z:Pl=>z.1.1==p.lab.2.2.1) 0 fs<0
  ·rw [Jn _ _ _ q] at hst;rw [Af (dcT q)] at hr;dsimp only [map_none] at hst
   cases hmu:p.lab.2.2.2.1 with
   | true=>
    rw [hmu] at hr hst;exact bad hr rfl (hst.trans (if_pos rfl))
   | false=>
    rw [hmu] at hr hst;rw [if_neg (by simp)] at hst;have ih:=I9 n k ks hks hcn hlen fs hfs hmx hfb up j (i+1) true o (by omega) (by omega) ex d (by rw [<-hst]; exact h);exact sts hr ih
  ·obtain ⟨q0,hq0,hq1,hq2,hq3⟩:=GU (fun z:Pl=>z.1.1==p.lab.2.2.1) fs 0 (by omega);rw [hq3] at hst;dsimp only [map_some] at hst;have hno:fs[q0].1.1=p.lab.2.2.1:=by simpa using hq2
   have hmem:fs[q0].1∈fs.map (·.1):=mem_map.2 ⟨_,getElem_mem hq0,rfl⟩;have hml:=Lm hmem;have hkd:=EL (all_eq_true.1 hfb _ (getElem_mem hq0));rw [Ae (dcF q),hq1,zero_add,T2 (by omega),ntN,zero_add,gtE hq0,Ap] at hr;generalize fs[q0].1=f at hr hst hno hml hkd;unfold Dh at hst;rw [hno] at hst
   by_cases hk0:f.2.1=0
   ·have hb0:(f.2.1==0)=true:=by rw [hk0]; rfl
    cases hfk:fkB p with
    | false=>
     rw [hfk] at hr hst;rw [if_neg (by rw [hb0]; simp)] at hst;rw [Af (by rw [hk0]; rfl)] at hr;exact bad hr rfl hst
    | true=>
     rw [hfk] at hr hst;rw [if_pos hb0,if_pos hb0] at hst;rw [Ae (by rw [hk0]; rfl),Af hb0,Ab (dcT ⟨rfl,by omega⟩)] at hr
     cases hn:A1 p f.2.2.1 p.lab.2.2.1 with
     | none=>
      rw [hn] at hr hst;exact bad hr rfl hst
     | some v=>
      rw [hn] at hr hst;dsimp only at hst
      have hv:Am v up o.length=[(f.2.2.1,[],p.lab.2.2.1,(up:Int),false,())]:=by
       unfold A1 at hn;split at hn
       ·cases hn; rw [Am,AA]
       ·cases hn
      have h':=Tz (up:=up) (o:=o) hst h;have hmul:1<=Aj p*(mxD (fs.map (·.1))+1):=mul_pos hpos (by omega);have ih:=I9 n k ks hks hcn hlen fs hfs hmx hfb up j (i+1) true (o++Am v up o.length) (by omega) (by rw [hv,length_append,length_singleton]; omega) ex d h';rw [hv,length_append,length_singleton] at ih;exact sts hr ih
   ·have hb0:(f.2.1==0)=false:=beq_eq_false_iff_ne.2 hk0
    cases hfk:fkB p with
    | true=>
     rw [hfk] at hr hst;rw [if_neg (by rw [hb0]; simp)] at hst;rw [if_pos rfl,Af (bne_iff_ne.2 hk0)] at hr;exact bad hr rfl hst
    | false=>
     rw [hfk] at hr hst;rw [if_pos hb0,if_neg (by rw [hb0]; simp)] at hst;rw [if_neg (by simp)] at hr;have hk2:f.2.1=2:=by rcases hkd with e | e; exact absurd e hk0; exact e
     have hml2:Aj p*(f.2.2.2.1.length+1)<=Aj p*(mxD (fs.map (·.1))+1):=mul_le_mul_left _ (by omega);rw [Ae (by rw [hk2]; rfl),Ae hb0,Ab (dcT ⟨rfl,by omega,hrz,by omega,by omega⟩)] at hr
     cases hn:AI p f.2.2.2.1 p.lab.2.2.1 with
     | none=>
      rw [hn] at hr hst;exact bad hr rfl hst
     | some v=>
      have hsz:=Et p _ _ v hn;have hdo:Bx p f.2.2.2.1 p.lab.2.2.1 up o=o++Am v up o.length:=by unfold Bx; rw [hn]
      rw [hn,hdo] at hr;rw [hn] at hst;dsimp only at hst;have hl2:=Cn v up o.length;have h':=Tz (up:=up) (o:=o) hst h;have ih:=I9 n k ks hks hcn hlen fs hfs hmx hfb up j (i+1) true (o++Am v up o.length) (by omega) (by rw [length_append,hl2]; omega) ex d h';exact sts hr ih
theorem Ad2 (n k:Nat):Aw prog (Kb k n) (Aa [(12,Js k)]) 0 (f78.body.getD .skip):=by
 refine As (a:=body f78 0) (by kernel_rfl) fun d ex d' h=>?_
 unfold Js at h;dsimp only at h;split at h
 ·rename_i m w up ks c i o ro fs;obtain ⟨hc,hx⟩:=Ad h;obtain ⟨rfl,rfl,rfl,h1,h2,h3,h4,h5,h6,h7,h8,h9,h10⟩:=of_decide_eq_true hc;obtain ⟨i,rfl⟩:=eq_ofNat_of_zero_le h1;obtain ⟨up,rfl⟩:=eq_ofNat_of_zero_le h5;simp only [ntN] at h2 h10 hx;exact I9 n k ks h9 h8 h3 fs h4 h6 h7 up (ks.length-i) i ro o (by omega) h10 ex d' hx
 ·cases h
def ED (z:Rose Lab) (s:By):Bool:=decide (s.length<=400)&&(AI z s 0).isSome
def IN (z:Rose Lab) (s:By):List Nd:=bif ED z s then Bx z s 0 (-1) [] else []
def KB:Gm
 | [.tp LCd z 0,.s s],[]=>.need (decide (CJ z=true/\s.length<=4000000000)) (.leaf (.tup [.ref 0 0 (IN z s).length,.b (ED z s)],[R0 NCd (IN z s)]))
 | _,_=>.no
theorem Wl {s:By} {l:List Pl} (h:CA s=some l):Df s=some (l.map (·.1)):=by rw [Ib,h]; rfl
theorem Nf {s:By} {l:List Pl} (h:CA s=some l):l.length<=40/\(l.all fun x=>AJ x.1)=true/\mxD (l.map (·.1))<=s.length/\mxD (l.map (·.1))<=400:=by
 obtain ⟨h1,h2,h3⟩:=Ko (Wl h);have h4:mxD (l.map (·.1))<=s.length:=SZ fun f hf=>(h1 f hf).2
 refine ⟨?_,all_eq_true.2 fun x hx=>(h1 _ (mem_map.2 ⟨x,hx,rfl⟩)).1,h4,by omega⟩;unfold CA at h
 cases e:rdP s with
 | none=>rw [e] at h; cases h
 | some l'=>
  rw [e] at h;dsimp only at h;have:=(Kp e).1;split at h
  ·cases h; exact this
  ·cases h
theorem Cq {z:Rose Lab} (h:Ah z=true):B5 z.lab z.kids=true/\A6 z.lab.1 z.kids=true:=by
 obtain ⟨x,ks⟩:=z;rw [Ah,anE] at h;exact h
theorem BE {z:Rose Lab} (h:Ah z=true) (h4:z.lab.1=4):z.kids.length=1/\z.kids.all Ah=true:=by
 obtain ⟨h1,h2⟩:=Cq h;refine ⟨?_,all_eq_true.2 fun y hy=>(BH h2 y hy).2⟩;unfold B5 at h1;rw [if_neg (by omega),if_neg (by omega),if_pos h4,anE] at h1
 simpa using h1.2
theorem BK {z:Rose Lab} (h:Ah z=true) (h4:z.lab.1≠4):A6 5 z.kids=true:=by
 obtain ⟨h1,h2⟩:=Cq h
 by_cases h5:z.lab.1=5
 ·rw [h5] at h2; exact h2
 ·unfold B5 at h1
  have e:z.kids=[]:=by
   split at h1
   ·rw [anE] at h1; exact List.eq_nil_of_length_eq_zero (by simpa using h1.2)
   ·split at h1
    ·rw [anE] at h1; exact List.eq_nil_of_length_eq_zero (by simpa using h1.2)
    ·rw [if_pos (.inl h5)] at h1; cases h1
  rw [e]; rfl
theorem CP {z:Rose Lab} {s:By} {no:Int} (h:z.lab.1=2):AI z s no=if s.length<=30 then some (.node (0,s,no,false,()) []) else none:=by
 obtain ⟨x,ks⟩:=z;have h:x.1=2:=h;rw [AI,if_pos h]
theorem CQ {z:Rose Lab} {s:By} {no:Int} (h:z.lab.1=4):AI z s no=(Dp z.kids s).map fun vs=>.node (0,[],no,true,()) vs:=by
 obtain ⟨x,ks⟩:=z;have h:x.1=4:=h;rw [AI,if_neg (by omega),if_pos h]; rfl
theorem Dx {z:Rose Lab} {s:By} {no:Int} (h:z.lab.1≠2) (h4:z.lab.1≠4):AI z s no=(match Df s with
   | some fs=>(Bf z.kids fs).map fun vs=>.node (0,[],no,true,()) vs
   | none=>none):=by
 obtain ⟨x,ks⟩:=z;have h:x.1≠2:=h;have h4:x.1≠4:=h4;rw [AI,if_neg h,if_neg h4]; rfl
theorem Ad1 (n:Nat) (z:Rose Lab) (m:Nat) (s:By) (no up:Int) (nl:Option Bool) (o:List Nd) (hc:m=o.length/\s.length<=400/\Ah z=true/\Aj z<=(n+1)/\o.length+Aj z*(s.length+1)<=1000000):Bm prog (Aa [(124,.own (dlN (n+1))),(34,.rd1 Ua),(125,.mix UZ),(62,.rd1 RY),(127,.own NF),(78,.own (MF n))]) (Aa [(12,dmE n)]) f78 [.tp LCd z 0,.ref 0 0 m,.s s,.j no,.j up] [.row false nl NCd o]=some (.tup [.ref 1 0 (Bx z s no up o).length,.b (AI z s no).isSome],[none,R0 NCd (Bx z s no up o)]):=by
 obtain ⟨rfl,h2,h3,h4,h5⟩:=hc;rw [ZT];have hM:=mxI;have hcp:=BN z;have hck:=AE z;have hlen:=Bc z.kids;have h6:1<=Aj z*(s.length+1):=mul_pos hcp (by omega);have h7:Aj z*(s.length+1)=Ak z.kids*s.length+Ak z.kids+s.length+1:=by rw [hck,add_mul,mul_add]; omega
 have el:(decide ((o.length+1)*48<=140737488355328)&&decide (o.length+1<=maxI))=true:=by simp only [anE,dcE]; omega
 simp only [A7,drop_zero,take_length,Ab el]
 by_cases q2:z.lab.1=2
 ·rw [Af (beq_iff_eq.2 q2)];unfold Bx;rw [CP q2,if_pos q2]
  by_cases q3:s.length<=30
  ·rw [if_pos q3,dcT (by omega)];dsimp only;rw [Am,AA,length_append,length_singleton];rfl
  ·rw [if_neg q3,dcF (by omega)];dsimp only;rw [length_append,length_singleton];rfl
 ·rw [Ae (beq_eq_false_iff_ne.2 q2)]
  by_cases q4:z.lab.1=4
  ·obtain ⟨k1,k2⟩:=BE h3 q4;rw [Af (beq_iff_eq.2 q4),Ab (dcT ⟨by simp,by omega,h2,k1,k2,h4,by simp; omega⟩)];unfold Bx Hr;rw [CQ q4,if_neg q2]
   cases Dp z.kids s with
   | none=>rfl
   | some vs=>
    dsimp only [Option.map];rw [Am];simp only [length_append,length_singleton,ntN,append_assoc,List.singleton_append]
    all_goals rfl
  ·rw [Ae (beq_eq_false_iff_ne.2 q4),Ab (dcT (by omega))];unfold Bx;rw [Dx q2 q4,if_neg q2]
   cases hr:CA s with
   | none=>rw [Ib,hr]; rfl
   | some w=>
    obtain ⟨f1,f2,f3,f4⟩:=Nf hr;rw [Wl hr];have h8:Ak z.kids*(mxD (w.map (·.1))+1)<=Ak z.kids*(s.length+1):=mul_le_mul_left _ (by omega);have h9:Ak z.kids*(s.length+1)=Ak z.kids*s.length+Ak z.kids:=by rw [mul_add,mul_one]
    dsimp only [isSome,getD];rw [Bool.not_true,AR,Ab (dcT ⟨by simp,by first | trivial | rfl,by first | trivial | rfl,by omega,by omega,by omega,f1,by omega,f4,f2,by omega,BK h3 q4,by simp; omega⟩),ntN]
    cases Bf z.kids (w.map (·.1)) with
    | none=>rfl
    | some vs=>
     dsimp only [Option.map,isSome,getD];rw [Am,Bg];simp only [length_append,length_singleton,append_assoc,List.singleton_append]
     all_goals rfl
theorem Aah : ∀ n,(∀ m,m<n->Ac prog 78 (Ent.own (MF m)).F)->Ac prog 78 (Ent.own (MF n)).F
 | 0,_=>AP fun vs bs=>by
  unfold Ent.F MF;dsimp only;split
  ·rename_i z m s no up nl o;have hz:=BN z;have:decide (m=o.length/\s.length<=400/\Ah z=true/\Aj z<=0/\o.length+Aj z*(s.length+1)<=1000000)=false:=dcF (by omega);rw [this]; rfl
  ·rfl
 | n+1,ihs=>by
  have ih:=ihs n (Nat.lt_succ_self n);have hl:=XL n ih;refine fcC (kc func124 hl (kc func34 ris (kc func125 XP (kc func62 kfk (kc func127 Adz (kc func78 ih KnowsL.nil)))))).knows (Λ:=(Aa [(12,dmE n)])) func78 fun vs bs r hq=>?_
  unfold Ent.F MF at hq;dsimp only at hq;split at hq
  ·rename_i z m s no up nl o;obtain ⟨hc,hx⟩:=Ad hq;exact ⟨Af6 (n+1) n,(Ad1 n z m s no up nl o (of_decide_eq_true hc)).trans hx⟩
  ·cases hq
theorem Aai (n:Nat):Ac prog 78 (Ent.own (MF n)).F:=Nat.strongRecOn n fun n h=>Aah n h
theorem ZU (n:Nat) (z:Rose Lab) (s:By) (no up:Int) (h1:z.lab.1=5) (h2:s.length<=400) (h3:Ah z=true) (h4:Aj z<=n+1) (h5:Aj z*(s.length+1)<=1000000):Bm prog (Aa [(124,.own (dlN (n+1))),(34,.rd1 Ua),(125,.mix UZ),(62,.rd1 RY),(127,.own NF),(78,.own (MF n))]) (Aa [(12,Js n)]) f78 [.tp LCd z 0,.nl,.s s,.j no,.j up] []=some (.tup [.ref 0 0 (Bx z s no up []).length,.b (AI z s no).isSome],[R0 NCd (Bx z s no up [])]):=by
 rw [XJ];have hck:=AE z;have hlen:=Bc z.kids;have h7:Aj z*(s.length+1)=Ak z.kids*s.length+Ak z.kids+s.length+1:=by rw [hck,add_mul,mul_add]; omega
 have q2:z.lab.1≠2:=by omega
 have q4:z.lab.1≠4:=by omega
 simp only [A7,drop_zero];rw [Ae (beq_eq_false_iff_ne.2 q2),Ae (beq_eq_false_iff_ne.2 q4),Ab (dcT (by omega))];unfold Bx;rw [Dx q2 q4,if_neg q2]
 cases hr:CA s with
 | none=>rw [Ib,hr]; rfl
 | some w=>
  obtain ⟨f1,f2,f3,f4⟩:=Nf hr;rw [Wl hr];have h8:Ak z.kids*(mxD (w.map (·.1))+1)<=Ak z.kids*(s.length+1):=mul_le_mul_left _ (by omega);have h9:Ak z.kids*(s.length+1)=Ak z.kids*s.length+Ak z.kids:=by rw [mul_add,mul_one]
  dsimp only [isSome,getD];rw [Bool.not_true,AR,Ab (dcT ⟨by first | trivial | rfl,by first | trivial | rfl,by first | trivial | rfl,by omega,by omega,by omega,f1,by omega,f4,f2,by omega,BK h3 q4,by omega⟩)]
  cases Bf z.kids (w.map (·.1)) with
  | none=>rfl
  | some vs=>
   dsimp only [Option.map,isSome,getD];rw [Am];rfl
theorem Ya:Ac prog 78 (Ent.own XX).F:=by
 have ih:=Aai 1000000;have hl:=XL 1000000 ih;refine fcC (kc func124 hl (kc func34 ris (kc func125 XP (kc func62 kfk (kc func127 Adz (kc func78 ih KnowsL.nil)))))).knows (Λ:=(Aa [(12,Js 1000000)])) func78 fun vs bs r hq=>?_
 unfold Ent.F XX at hq;dsimp only at hq;split at hq
 ·rename_i z s no up;obtain ⟨hc,hx⟩:=Ad hq;obtain ⟨h1,h2,h3,h5⟩:=of_decide_eq_true hc;have h6:Aj z<=Aj z*(s.length+1):=Nat.le_mul_of_pos_right _ (by omega);exact ⟨Ad2 (1000000+1) 1000000,(ZU 1000000 z s no up h1 h2 h3 (by omega) h5).trans hx⟩
 ·cases hq
theorem AZ {z:Rose Lab} (h:CJ z=true):z.lab.1=5/\Ah z=true/\Aj z<=30:=by
 unfold CJ at h;simp only [anE,dcE,beq_iff_eq] at h;exact ⟨h.1.1.1.1.1.1,h.1.1.2,h.2⟩
theorem Rj (z:Rose Lab) (s:By):Bm prog (Aa [(78,.own XX)]) (Aa []) f33 [.tp LCd z 0,.s s] [] =
 ((ifB (decide ((↑s.length:Int)>(400:Int))) (some (V.tup [V.ref 0 0 0,V.b false],[R0 NCd (Ag NCd.den)])) (ifT (decide (z.lab.1=(5 :
 (Cd.int .i64).den)/\s.length<=400/\Ah z=true/\Aj z*(s.length+1)<=1000000)) (some (V.tup [V.ref 0 0 (Bx z s (0:Int) (-1 :
 Int) (Ag Nd)).length,V.b (AI z s (0:Int)).isSome],[R0 NCd (Bx z s (0:Int) (-1:Int) (Ag Nd))])))):_):=by kernel_rfl
theorem IM:Ac prog 33 (Ent.rd1 KB).F:=by
 refine fcC (kc func78 Ya KnowsL.nil).knows (Λ:=Aa []) func33 fun vs bs r hq=>?_
 unfold Ent.F KB at hq;dsimp only at hq;split at hq
 ·rename_i z s;obtain ⟨hc,hx⟩:=Ad hq;obtain ⟨h1,h2⟩:=of_decide_eq_true hc;obtain ⟨g1,g2,g3⟩:=AZ h1;refine ⟨Ao _,(Rj z s).trans (Eq.trans ?_ hx)⟩
  try dsimp only [shr]
  show _=some _;unfold IN ED
  by_cases q:s.length<=400
  ·have hm:Aj z*(s.length+1)<=30*401:=Nat.mul_le_mul g3 (by omega);rw [Ae (dcF (by omega)),Ab (dcT ⟨g1,q,g2,by omega⟩),dcT q,Bool.true_and]
   cases hd:AI z s 0 with
   | none=>
    have e:Bx z s 0 (-1) []=[]:=by unfold Bx; rw [hd,if_neg (by omega)]
    rw [e]; rfl
   | some v=>rfl
  ·rw [Af (dcT (by omega)),dcF q];rfl
 ·cases hq
def itm (t:Rose Lab) (b:By):By:=if fkB t=true then b else vbs b.length++b
mutual
def A0:Rose A4->Rose Lab->By
 | .node x vs,t=>if t.lab.1=2 then x.2.1 else if fkB t=true then vbs (fol x.1).toNat else if t.lab.1=5 then EY t.kids vs else Ca (hd0 t.kids) vs
def Ca (t:Rose Lab):RVL->By
 | []=>[]
 | v::vs=>itm t (A0 v t)++Ca t vs
def EY (ks:RL):RVL->By
 | []=>[]
 | v::vs=>(vbs (8*v.lab.2.2.1+(if fkB (byR v.lab.2.2.1 ks)=true then 0 else 2)).toNat++itm (byR v.lab.2.2.1 ks) (A0 v (byR v.lab.2.2.1 ks)))++EY ks vs
end
def chI (z:Rose Lab) (u:Rose A4):By:=if z.lab.1=5 then vbs (8*u.lab.2.2.1+(if fkB (byR u.lab.2.2.1 z.kids)=true then 0 else 2)).toNat++itm (byR u.lab.2.2.1 z.kids) (A0 u (byR u.lab.2.2.1 z.kids)) else itm (hd0 z.kids) (A0 u (hd0 z.kids))
def OS (z:Rose Lab) (u:Rose A4):Bool:=if z.lab.1=5 then AN u.lab.2.2.1 z.kids&&sfR u (byR u.lab.2.2.1 z.kids) else sfR u (hd0 z.kids)
def vtr (l:List Nd) (a:Nat):Rose A4:=cv (kf (tys l) a).1
def ven (l:List Nd) (a:Nat):Nat:=(kf (tys l) a).2
def vks (l:List Nd) (a e:Nat):RL×Nat:=AB (kf (tys l)) (tys l) a l.length e []
def Vk (n:Nat):Gm
 | [.tp LCd z 0,.sl NCd l,.j a],[]=>.need (decide (Aj z<=n/\Aj z<=1000000/\Ah z=true/\0<=a/\a.toNat<l.length/\l.length<=40)&&sfR (vtr l a.toNat) z) (.leaf (.tup [.s (A0 (vtr l a.toNat) z),.j (ven l a.toNat:Int)],[]))
 | _,_=>.no
def Ael:Gm
 | [.tp LCd z 0,.sl NCd l,.j a],[]=>.need (decide (Aj z<=1000000/\Ah z=true/\0<=a/\a.toNat<l.length/\l.length<=40)&&sfR (vtr l a.toNat) z) (.leaf (.tup [.s (A0 (vtr l a.toNat) z),.j (ven l a.toNat:Int)],[]))
 | _,_=>.no
def Mr (n:Nat):LoopEnt:=⟨111,[0,1,2,9,10],[9,10],[],fun
 | ([.tp LCd z 0,.sl NCd l,.j a,.ref 0 0 m,.j e],[R0 (.int .u8) o])=>.need (decide (m=o.length/\0<=a/\a<e/\e.toNat<=l.length/\l.length<=40/\Ak z.kids<=n/\Aj z<=1000000/\Ah z=true/\Ar z.lab.1=true/\o.length<=52*e.toNat)&&(cvs (vks l a.toNat e.toNat).1).all (OS z)) (.leaf (.exit 1,([.ref 0 0 (o++u8 ((cvs (vks l a.toNat e.toNat).1).flatMap (chI z))).length,.j ((vks l a.toNat e.toNat).2:Int)],[R0 (.int .u8) (o++u8 ((cvs (vks l a.toNat e.toNat).1).flatMap (chI z)))])))
 | _=>.no⟩
theorem Gj (n:Nat):(vbs n).length<=11:=by
 have:=Ie 10 n;unfold vbs;rw [length_append,length_singleton]; omega
theorem K0 (t:Rose Lab) (b:By):(itm t b).length<=b.length+11:=by
 unfold itm;have:=Gj b.length;split
 ·omega
 ·rw [length_append]; omega
theorem VX {x:A4} {vs:RVL} {t:Rose Lab} (hr:Ah t=true) (hf:fkB t=true) (h:sfR (.node x vs) t=true) : -1000000000<=x.1/\x.1<=1000000000:=by
 rw [sfR] at h;obtain ⟨hp,_⟩:=Cq hr;unfold B5 at hp;unfold fkB at hf;rw [or_eq_true,beq_iff_eq,beq_iff_eq] at hf;split at h
 ·cases h
 ·rcases hf with hf | hf
  ·rw [if_pos hf] at h;exact GM h
  ·rw [if_neg (by omega),if_pos hf] at h;have:=of_decide_eq_true h;rw [if_neg (by omega),if_pos hf,anE] at hp;have:=of_decide_eq_true hp.1;omega
theorem SI {x:A4} {vs:RVL} {t:Rose Lab} (h2:t.lab.1=2) (h:sfR (.node x vs) t=true):x.2.1.length<=30:=by
 rw [sfR] at h
 by_cases hb:Dq x.1 x.2.1 x.2.2.2.1 t.lab.1=true
 ·rw [if_pos hb] at h; cases h
 ·rw [if_neg hb,if_neg (by omega),if_neg (by omega),if_pos h2] at h;exact of_decide_eq_true h
theorem Kn {x:A4} {vs:RVL} {t:Rose Lab} (h4:t.lab.1=4) (h:sfR (.node x vs) t=true):sfL (hd0 t.kids) vs=true:=by
 rw [sfR] at h
 by_cases hb:Dq x.1 x.2.1 x.2.2.2.1 t.lab.1=true
 ·rw [if_pos hb] at h; cases h
 ·rw [if_neg hb,if_neg (by omega),if_neg (by omega),if_neg (by omega),if_pos h4] at h;exact h
theorem H1 {x:A4} {vs:RVL} {t:Rose Lab} (h5:t.lab.1=5) (h:sfR (.node x vs) t=true):sfM t.kids vs 0 vs=true/\B9 vs t.kids=true:=by
 rw [sfR] at h
 by_cases hb:Dq x.1 x.2.1 x.2.2.2.1 t.lab.1=true
 ·rw [if_pos hb] at h; cases h
 ·rw [if_neg hb,if_neg (by omega),if_neg (by omega),if_neg (by omega),if_neg (by omega),anE] at h;exact h
theorem GT {t:Rose Lab} (hr:Ah t=true) (h2:t.lab.1≠2) (hf:fkB t≠true):t.lab.1=4\/t.lab.1=5:=by
 obtain ⟨hp,_⟩:=Cq hr;have:=Dl hp;have hf' : ¬(t.lab.1=1\/t.lab.1=3):=fun hh=>hf (by unfold fkB; simpa using hh)
 omega
theorem Z6 {ks:RL} (h:ks.length=1):ks=[hd0 ks]:=by
 obtain ⟨y,rfl⟩:=List.length_eq_one_iff.1 h;rfl
mutual
theorem Fo : ∀ (u:Rose A4) (t:Rose Lab),Ah t=true->sfR u t=true->(A0 u t).length+22<=52*vcR u
 | .node x vs,t,hr,hs=>by
  rw [A0,vcR]
  by_cases h2:t.lab.1=2
  ·rw [if_pos h2];have:=SI h2 hs;omega
  ·rw [if_neg h2]
   by_cases hf:fkB t=true
   ·rw [if_pos hf];have:=Gj (fol x.1).toNat;omega
   ·rw [if_neg hf];rcases GT hr h2 hf with h4 | h5
    ·rw [if_neg (by omega)];have hl:=BE hr h4;have hy:Ah (hd0 t.kids)=true:=all_eq_true.1 hl.2 _ (by rw [Z6 hl.1]; exact List.mem_singleton.2 rfl);have:=Q7 vs (hd0 t.kids) hy (Kn h4 hs);omega
    ·rw [if_pos h5];have:=Q5 vs t.kids (BK hr (by omega)) vs 0 (H1 h5 hs).1;omega
theorem Q7 : ∀ (vs:RVL) (t:Rose Lab),Ah t=true->sfL t vs=true->(Ca t vs).length<=52*vcL vs
 | [],t,_,_=>by rw [Ca]; exact zero_le _
 | v::vs,t,hr,hs=>by
  rw [sfL,anE,anE] at hs;have h1:=Fo v t hr hs.1.2;have h2:=Q7 vs t hr hs.2;have h3:=K0 t (A0 v t);rw [Ca,vcL,length_append];omega
theorem Q5 : ∀ (vs:RVL) (ks:RL),A6 5 ks=true->∀ (zk:RVL) (i:Nat),sfM ks zk i vs=true->(EY ks vs).length<=52*vcL vs
 | [],ks,_,zk,i,_=>by rw [EY]; exact zero_le _
 | v::vs,ks,hr,zk,i,hs=>by
  rw [sfM,anE,anE,anE] at hs;have h1:=Fo v _ (BO hr (FO hs.1.1)) hs.1.2.1;have h2:=Q5 vs ks hr zk (i+1) hs.2;have h3:=K0 (byR v.lab.2.2.1 ks) (A0 v (byR v.lab.2.2.1 ks));have h4:=Gj (8*v.lab.2.2.1+(if fkB (byR v.lab.2.2.1 ks)=true then 0 else 2)).toNat;rw [EY,vcL,length_append,length_append];omega
end
theorem ND {z:Rose Lab} (h:z.lab.1=4) : ∀ vs:RVL,Ca (hd0 z.kids) vs=vs.flatMap (chI z)
 | []=>by rw [Ca]; rfl
 | v::vs=>by
  rw [Ca,flatMap_cons,ND h vs];congr 1;unfold chI; rw [if_neg (by omega)]
theorem NC {z:Rose Lab} (h:z.lab.1=5) : ∀ vs:RVL,EY z.kids vs=vs.flatMap (chI z)
 | []=>by rw [EY]; rfl
 | v::vs=>by
  rw [EY,flatMap_cons,NC h vs];congr 1;unfold chI; rw [if_pos h]
theorem Sm {t:Rose Lab} (h:t.lab.1=4\/t.lab.1=5):t.lab.1≠2/\¬fkB t=true:=by
 refine ⟨by omega,fun hf=>?_⟩;unfold fkB at hf;rw [or_eq_true,beq_iff_eq,beq_iff_eq] at hf;omega
theorem Q3 {x:A4} {vs:RVL} {z:Rose Lab} (h:z.lab.1=4\/z.lab.1=5):A0 (.node x vs) z=vs.flatMap (chI z):=by
 obtain ⟨h2,hf⟩:=Sm h;rw [A0,if_neg h2,if_neg hf];rcases h with h4 | h5
 ·rw [if_neg (by omega),ND h4]
 ·rw [if_pos h5,NC h5]
theorem HY {ks:RL} {zk:RVL} : ∀ {vs:RVL} {i:Nat},sfM ks zk i vs=true->∀ v∈vs,AN v.lab.2.2.1 ks=true/\sfR v (byR v.lab.2.2.1 ks)=true
 | [],_,_,v,hv=>by cases hv
 | u::vs,i,h,v,hv=>by
  rw [sfM,anE,anE,anE] at h;rcases mem_cons.1 hv with rfl | hv
  ·exact ⟨h.1.1,h.1.2.1⟩
  ·exact HY h.2 v hv
theorem Aej {x:A4} {vs:RVL} {z:Rose Lab} (h:z.lab.1=4\/z.lab.1=5) (hs:sfR (.node x vs) z=true):vs.all (OS z)=true:=by
 rw [all_eq_true];intro v hv;unfold OS;rcases h with h4 | h5
 ·rw [if_neg (by omega)];have:=Kn h4 hs;rw [GL,all_eq_true] at this;have:=this v hv;rw [anE] at this;exact this.2
 ·rw [if_pos h5,anE];exact HY (H1 h5 hs).1 v hv
theorem Sz {n:Int} : ∀ {l:RL},AN n l=true->(byR n l).lab.2.2.1=n
 | [],h=>by cases h
 | z::l,h=>by
  rw [byR]
  by_cases q:z.lab.2.2.1=n
  ·rw [if_pos q]; exact q
  ·rw [if_neg q];unfold AN at h;rw [any_cons,beq_false_of_ne q,Bool.false_or] at h;exact Sz h
theorem HT {l:List Nd} {e:Nat} (h:e<l.length):e<ven l e/\ven l e<=l.length:=by
 have:=CI (tys l) e (by rw [Bn]; exact h);rw [Bn] at this;exact this
theorem S7 {l:List Nd} {e:Nat} (h:e<l.length):vcR (vtr l e)=ven l e-e:=by
 have h1:=O4 (l.length-e) e (le_refl _) h;have h2:=Cn (cv (kf (tys l) e).1) l[e].2.2.2.1 e;rw [h1] at h2;exact h2.symm.trans (QN (HT h).2)
theorem Pc {l:List Nd} {a e:Nat} (h:Ba (tys l) e≠some (a:Int)):vks l a e=([],e):=D8 h
theorem Pd {l:List Nd} {a e:Nat} (h:Ba (tys l) e=some (a:Int)):vks l a e=((kf (tys l) e).1::(vks l a (ven l e)).1,(vks l a (ven l e)).2):=by
 have hl:=Ev h;rw [Bn] at hl;have hb:=HT hl;unfold vks;obtain ⟨n,hn⟩ : ∃ m,l.length=m+1:=⟨l.length-1,by omega⟩
 have e1:AB (kf (tys l)) (tys l) a l.length e []=AB (kf (tys l)) (tys l) a (n+1) e []:=by rw [hn]
 rw [e1,AB,if_pos h,nil_append,D9];have e2:AB (kf (tys l)) (tys l) a n (kf (tys l) e).2 []=AB (kf (tys l)) (tys l) a l.length (ven l e) []:=HF (CI (tys l)) _ _ _ _ (by rw [Bn]; show l.length-ven l e<=n; omega) (by rw [Bn]; omega);rw [e2]; rfl
theorem WJ {z y:Rose Lab} (hr:Ah z=true) (h5:z.lab.1=5) (hy:y∈z.kids):1<=y.lab.2.2.1/\y.lab.2.2.1<=30:=by
 have:=(BH (BK hr (by omega)) y hy).1;unfold DL at this;rw [if_pos rfl] at this;simp only [anE,dcE] at this;exact this.2
abbrev Vr (n:Nat):FuncId->Option Ent:=Aa [(88,.rd1 (Vk n)),(132,.rd1 Sj),(131,.own Abj),(35,.rd1 L3),(62,.rd1 RY)]
theorem J4 (n:Nat) (z:Rose Lab) (l:List Nd) (a:Int) (m:Nat) (e:Int) (o:List Int):Au prog (Vr n) (Aa [(9,Mr n)]) 0 (body f88 0) (Mr n) ([.tp LCd z 0,.sl NCd l,.j a,.ref 0 0 m,.j e],[R0 (.int .u8) o]) =
 ((ifB (decide (e<(↑l.length:Int))) (ifT (decide (0<=e)&&decide (e<(↑l.length:Int))) (An l[e.toNat]? fun z_1=>shr z.kids fun sh1=>ifB (z_1.2.2.2.1
 == a) (ifT (decide ((0:Int)<=(0:Int))&&decide (0<(↑sh1.length:Int))) (An sh1[0]? fun z_2=>shr z.lab fun sh1_1=>ifB (sh1_1.1==(5:Int))
 (ifT (decide (0<=e)&&decide (e<(↑l.length:Int))) (An l[e.toNat]? fun z_3=>shr sh1 fun sh1=>ifT (decide (sh1.length<=maxI)) (ifB (AN z_3.2.2.1
 sh1) (ifT (decide (0<=e)&&decide (e<(↑l.length:Int))) (An l[e.toNat]? fun z_4=>shr z_4.2.2 fun sh2=>shr (byR z_3.2.2.1 sh1) fun sh1=>ifT
 (decide (Aj sh1<=n/\Aj sh1<=1000000/\Ah sh1=true/\0<=e/\e.toNat<l.length/\l.length<=40)&&sfR (vtr l e.toNat) sh1) (ifB (sh1_1.1
 == (5:Int)) (ifT (decide (m=o.length/\0<=i64.wrap (i64.wrap ((8:Int)*sh2.1)+if fkB sh1=true then (0:Int) else (2:Int))/\
 i64.wrap (i64.wrap ((8:Int)*sh2.1)+if fkB sh1=true then (0:Int) else (2:Int))<=(1000000000000:Int)/\o.length<=1000000)) (ifB
 ((if fkB sh1=true then (0:Int) else (2:Int))==(2:Int)) (ifT (decide ((o++u8 (vbs (i64.wrap (i64.wrap ((8:Int)*sh2.1)+if fkB sh1=true
 then (0:Int) else (2:Int))).toNat)).length=(o++u8 (vbs (i64.wrap (i64.wrap ((8:Int)*sh2.1)+if fkB sh1=true then (0:Int) else (2 :
 Int))).toNat)).length/\0<=(↑(A0 (vtr l e.toNat) sh1).length:Int)/\(↑(A0 (vtr l e.toNat) sh1).length:Int)<=(1000000000000:Int)/\(o++u8 (vbs
 (i64.wrap (i64.wrap ((8:Int)*sh2.1)+if fkB sh1=true then (0:Int) else (2:Int))).toNat)).length<=1000000)) (ifT (decide (((o++u8
 (vbs (i64.wrap (i64.wrap ((8:Int)*sh2.1)+if fkB sh1=true then (0:Int) else (2:Int))).toNat)++u8 (vbs (↑(A0 (vtr l e.toNat) sh1).length :
 Int).toNat)).length+(List.map (fun z=>(↑z.toNat:Int)) (A0 (vtr l e.toNat) sh1)).length)*1<=140737488355328)&&decide ((o++u8 (vbs
 (i64.wrap (i64.wrap ((8:Int)*sh2.1)+if fkB sh1=true then (0:Int) else (2:Int))).toNat)++u8 (vbs (↑(A0 (vtr l e.toNat) sh1).length :
 Int).toNat)).length+(List.map (fun z=>(↑z.toNat:Int)) (A0 (vtr l e.toNat) sh1)).length<=maxI)) (some (Ex.normal,[V.tp LCd z 0,V.sl NCd l,V.j a,
 V.ref 0 0 ((o++u8 (vbs (i64.wrap (i64.wrap ((8:Int)*sh2.1)+if fkB sh1=true then (0:Int) else (2:Int))).toNat)++u8 (vbs (↑(A0 (vtr l
 e.toNat) sh1).length:Int).toNat)).length+(List.map (fun z=>(↑z.toNat:Int)) (A0 (vtr l e.toNat) sh1)).length),V.j (↑(ven l e.toNat):Int)],[R0 (Cd.int .u8) (take (o++u8 (vbs (i64.wrap (i64.wrap ((8:Int)*sh2.1)+if fkB sh1=true then (0:Int) else (2:Int))).toNat)++
 u8 (vbs (↑(A0 (vtr l e.toNat) sh1).length:Int).toNat)).length (drop 0 (o++u8 (vbs (i64.wrap (i64.wrap ((8:Int)*sh2.1)+if fkB
 sh1=true then (0:Int) else (2:Int))).toNat)++u8 (vbs (↑(A0 (vtr l e.toNat) sh1).length:Int).toNat)))++List.map (fun z=>(↑z.toNat:Int)) (A0 (vtr l
 e.toNat) sh1))])))) (ifT (decide (((o++u8 (vbs (i64.wrap (i64.wrap ((8:Int)*sh2.1)+if fkB sh1=true then (0:Int) else (2 :
 Int))).toNat)).length+(List.map (fun z=>(↑z.toNat:Int)) (A0 (vtr l e.toNat) sh1)).length)*1<=140737488355328)&&decide ((o++u8 (vbs
 (i64.wrap (i64.wrap ((8:Int)*sh2.1)+if fkB sh1=true then (0:Int) else (2:Int))).toNat)).length+(List.map (fun z=>(↑z.toNat:Int)) (A0
 (vtr l e.toNat) sh1)).length<=maxI)) (some (Ex.normal,[V.tp LCd z 0,V.sl NCd l,V.j a,V.ref 0 0 ((o++u8 (vbs (i64.wrap (i64.wrap ((8 :
 Int)*sh2.1)+if fkB sh1=true then (0:Int) else (2:Int))).toNat)).length+(List.map (fun z=>(↑z.toNat:Int)) (A0 (vtr l e.toNat) sh1)).length),V.i .i64
 (↑(ven l e.toNat):Int)],[R0 (Cd.int .u8) (take (o++u8 (vbs (i64.wrap (i64.wrap ((8:Int)*sh2.1)+if fkB sh1=true
 then (0:Int) else (2:Int))).toNat)).length (drop 0 (o++u8 (vbs (i64.wrap (i64.wrap ((8:Int)*sh2.1)+if fkB sh1=true then (0 :
 Int) else (2:Int))).toNat)))++List.map (fun z=>(↑z.toNat:Int)) (A0 (vtr l e.toNat) sh1))]))))) (ifB ((if fkB sh1=true then (0:Int) else (2:Int))==(2 :
 Int)) (ifT (decide (m=o.length/\0<=(↑(A0 (vtr l e.toNat) sh1).length:Int)/\(↑(A0 (vtr l e.toNat) sh1).length:Int)<=(1000000000000:Int)/\o.length<=
 1000000)) (ifT (decide (((o++u8 (vbs (↑(A0 (vtr l e.toNat) sh1).length:Int).toNat)).length+(List.map (fun z=>(↑z.toNat:Int)) (A0 (vtr l e.toNat)
 sh1)).length)*1<=140737488355328)&&decide ((o++u8 (vbs (↑(A0 (vtr l e.toNat) sh1).length:Int).toNat)).length+(List.map (fun z=>(↑z.toNat :
 Int)) (A0 (vtr l e.toNat) sh1)).length<=maxI)) (some (Ex.normal,[V.tp LCd z 0,V.sl NCd l,V.j a,V.ref 0 0 ((o++u8 (vbs (↑(A0 (vtr l e.toNat)
 sh1).length:Int).toNat)).length+(List.map (fun z=>(↑z.toNat:Int)) (A0 (vtr l e.toNat) sh1)).length),V.j (↑(ven l e.toNat):Int)],[R0 (Cd.int .u8) (take (o++u8 (vbs (↑(A0 (vtr l e.toNat) sh1).length:Int).toNat)).length (drop 0 (o++u8 (vbs (↑(A0 (vtr l e.toNat)
 sh1).length:Int).toNat)))++List.map (fun z=>(↑z.toNat:Int)) (A0 (vtr l e.toNat) sh1))])))) (ifT (decide ((m+(List.map (fun z=>(↑z.toNat:Int)) (A0 (vtr
 l e.toNat) sh1)).length)*1<=140737488355328)&&decide (m+(List.map (fun z=>(↑z.toNat:Int)) (A0 (vtr l e.toNat) sh1)).length<=maxI)) (some
 (Ex.normal,[V.tp LCd z 0,V.sl NCd l,V.j a,V.ref 0 0 (m+(List.map (fun z=>(↑z.toNat:Int)) (A0 (vtr l e.toNat) sh1)).length),V.j (↑(ven l
 e.toNat):Int)],[R0 (Cd.int .u8) (take m (drop 0 o)++List.map (fun z=>(↑z.toNat:Int)) (A0 (vtr l e.toNat) sh1))])))))))
 (ifT (decide (0<=e)&&decide (e<(↑l.length:Int))) (An l[e.toNat]? fun _=>none))))) (ifT (decide (0<=e)&&decide (e<(↑l.length:Int))) (An l[e.toNat]?
 fun z_3=>shr (u8 (vbs (↑(A0 (vtr l e.toNat) z_2).length:Int).toNat)) fun sh5=>shr (o++sh5) fun sh4=>shr z_3.2.2 fun sh3=>shr (List.map (fun z=>
 (↑z.toNat:Int)) (A0 (vtr l e.toNat) z_2)) fun sh2=>shr (o++u8 (vbs (i64.wrap (i64.wrap ((8:Int)*sh3.1)+if fkB z_2=true then (0:Int)
 else (2:Int))).toNat)) fun sh1=>ifT (decide (Aj z_2<=n/\Aj z_2<=1000000/\Ah z_2=true/\0<=e/\e.toNat<l.length/\l.length<=40)&&
 sfR (vtr l e.toNat) z_2) (ifB (sh1_1.1==(5:Int)) (ifT (decide (m=o.length/\0<=i64.wrap (i64.wrap ((8:Int)*sh3.1)+if fkB z_2=true then
 (0:Int) else (2:Int))/\i64.wrap (i64.wrap ((8:Int)*sh3.1)+if fkB z_2=true then (0:Int) else (2:Int))<=(1000000000000:Int)/\o.length
 <= 1000000)) (ifB ((if fkB z_2=true then (0:Int) else (2:Int))==(2:Int)) (ifT (decide (sh1.length=sh1.length/\0<=(↑(A0 (vtr l e.toNat) z_2).length
 : Int)/\(↑(A0 (vtr l e.toNat) z_2).length:Int)<=(1000000000000:Int)/\sh1.length<=1000000)) (ifT (decide (((sh1++sh5).length+sh2.length)*1
 <= 140737488355328)&&decide ((sh1++sh5).length+sh2.length<=maxI)) (some (Ex.normal,[V.tp LCd z 0,V.sl NCd l,V.j a,V.ref 0 0 ((sh1++
 sh5).length+sh2.length),V.j (↑(ven l e.toNat):Int)],[R0 (Cd.int .u8) (take (sh1++sh5).length (drop 0 (sh1++sh5))++
 sh2)])))) (ifT (decide ((sh1.length+sh2.length)*1<=140737488355328)&&decide (sh1.length+sh2.length<=maxI)) (some (Ex.normal,[V.tp LCd z (0 :
 Nat),V.sl NCd l,V.j a,V.ref 0 0 (sh1.length+sh2.length),V.j (↑(ven l e.toNat):Int)],[R0 (Cd.int .u8) (take sh1.length
 (drop 0 sh1)++sh2)]))))) (ifB ((if fkB z_2=true then (0:Int) else (2:Int))==(2:Int)) (ifT (decide (m=o.length/\0<=(↑(A0 (vtr l e.toNat)
 z_2).length:Int)/\(↑(A0 (vtr l e.toNat) z_2).length:Int)<=(1000000000000:Int)/\o.length<=1000000)) (ifT (decide ((sh4.length+sh2.length)*1
 <= 140737488355328)&&decide (sh4.length+sh2.length<=maxI)) (some (Ex.normal,[V.tp LCd z 0,V.sl NCd l,V.j a,V.ref 0 0 (sh4.length +
 sh2.length),V.j (↑(ven l e.toNat):Int)],[R0 (Cd.int .u8) (take sh4.length (drop 0 sh4)++sh2)])))) (ifT (decide ((m +
 sh2.length)*1<=140737488355328)&&decide (m+sh2.length<=maxI)) (some (Ex.normal,[V.tp LCd z 0,V.sl NCd l,V.j a,V.ref 0 0 (m +
 sh2.length),V.j (↑(ven l e.toNat):Int)],[R0 (Cd.int .u8) (take m (drop 0 o)++sh2)]))))))))) (some (Ex.exit 1,[V.ref 0
 0 m,V.j e],[R0 (Cd.int .u8) o])))) (some (Ex.exit 1,[V.ref 0 0 m,V.j e],[R0 (Cd.int .u8) o]))):_):=by kernel_rfl
theorem Yn (n:Nat) (z:Rose Lab) (l:List Nd) (a:Int):Bm prog (Vr n) (Aa [(9,Mr n)]) f88 [.tp LCd z 0,.sl NCd l,.j a] [] =
 ((ifT (decide (0<=a)&&decide (a<(↑l.length:Int))) (An l[a.toNat]? fun z_1=>shr (vks l a.toNat (i64.wrap (a+1)).toNat) fun sh5=>shr z.kids fun sh4=>
 shr z.lab fun sh3=>shr (ifT (decide ((-1000000000000:Int)<=z_1.1/\z_1.1<=(1000000000000:Int))) (ifT (decide ((0:Int)<=fol z_1.1/\fol z_1.1<=
 (1000000000000:Int))) (some (V.tup [V.s (List.map (fun n=>UInt8.ofNat n.toNat) (take (u8 (vbs (fol z_1.1).toNat)).length (drop 0 (u8 (vbs (fol
 z_1.1).toNat))))),V.j (i64.wrap (a+1))],[])))) fun sh2=>shr (ifT (decide (0=0/\0<=a/\a<i64.wrap (a+1)/\
 (i64.wrap (a+1)).toNat<=l.length/\l.length<=40/\Ak sh4<=n/\Aj z<=1000000/\Ah z=true/\Ar sh3.1=true/\0<=(52
 : Nat)*(i64.wrap (a+1)).toNat)&&(cvs sh5.1).all (OS z)) (some (V.tup [V.s (List.map (fun n=>UInt8.ofNat n.toNat) (take (Ag (Cd.int .u8).den++
 u8 (flatMap (chI z) (cvs sh5.1))).length (drop 0 (Ag (Cd.int .u8).den++u8 (flatMap (chI z) (cvs sh5.1)))))),V.j (↑sh5.2:Int)],
 []))) fun sh1=>ifB (sh3.1==(2:Int)) (some (V.tup [V.s z_1.2.1,V.j (i64.wrap (a+1))],[])) (ifB (sh3.1==(1:Int)) (ifB (sh3.1==(1 :
 Int)) sh2 sh1) (ifB (sh3.1==(3:Int)) sh2 sh1)))):_):=by kernel_rfl
theorem Yo (n:Nat) (z:Rose Lab) (l:List Nd) (a:Int) (e:Nat) (o:List Int) (he:e<l.length) (hup:l[e].2.2.2.1=a) (hl:l.length<=40) (hn:Ak z.kids<=n) (hn2:Aj z<=1000000) (hr:Ah z=true) (hh:z.lab.1=4\/z.lab.1=5) (ho:o.length<=52*e) (hc:OS z (vtr l e)=true) :
  Au prog (Vr n) (Aa [(9,Mr n)]) 0 (body f88 0) (Mr n) ([.tp LCd z 0,.sl NCd l,.j a,.ref 0 0 o.length,.j (e:Int)],[R0 (.int .u8) o])=some (.normal,([.tp LCd z 0,.sl NCd l,.j a,.ref 0 0 (o++u8 (chI z (vtr l e))).length,.j (ven l e:Int)],[R0 (.int .u8) (o++u8 (chI z (vtr l e)))]))/\(chI z (vtr l e)).length<=52*(ven l e-e):=by
 have hM:=mxI;have hno:(vtr l e).lab.2.2.1=l[e].2.2.1:=by unfold vtr; rw [L5 he]
 have hcnt:=S7 he;have hvb:=HT he;have hE:(decide ((0:Int)<=(e:Int))&&decide ((e:Int)<(l.length:Int)))=true:=by simp only [anE,dcE]; omega
 have hown:(l[e].2.2.2.1==a)=true:=by rw [hup]; exact beq_self_eq_true _
 have hlen:=Bc z.kids;have hck:=AE z;have hr0:=J4 n z l a o.length (e:Int) o;dsimp only [shr] at hr0;rcases hh with h4 | h5
 ·obtain ⟨h1,h2⟩:=BE hr h4;obtain ⟨y,hy⟩:=List.length_eq_one_iff.1 h1;unfold OS at hc;rw [if_neg (by omega),hy] at hc;have hc:sfR (vtr l e) y=true:=hc;rw [hy] at h2 hn hlen;have hry:Ah y=true:=by simpa using h2
  rw [Ak,Ak] at hn;have hcy:Aj y<=1000000:=by rw [hy,Ak,Ak] at hck; omega
  have hL:=Fo _ _ hry hc;have hq:(z.lab.1==(5:Int))=false:=by rw [h4]; rfl
  have hI:chI z (vtr l e)=itm y (A0 (vtr l e) y):=by unfold chI; rw [if_neg (by omega),hy]; rfl
  have hIl:=K0 y (A0 (vtr l e) y);refine ⟨?_,by rw [hI,<-hcnt]; omega⟩;rw [Af (dcT (show (e:Int)<(l.length:Int) by omega)),Ab hE,ntN,gtE he,Ap,Af hown,hy,Ab (by simp),show ([y]:RL)[(0:Nat)]? = some y from rfl,Ap,Ae hq,Ab hE,Ap,Ab (by rw [hc,Bool.and_true]; exact dcT ⟨by omega,by omega,hry,by omega,he,hl⟩),Ae hq] at hr0;rw [hI];simp only [show List.map (fun z:UInt8=>((z.toNat:Nat):Int)) (A0 (vtr l e) y)=u8 (A0 (vtr l e) y) from rfl,drop_zero,take_length] at hr0;rcases Bool.eq_false_or_eq_true (fkB y) with hf | hf
  rotate_left
  ·have hk:(if fkB y=true then (0:Int) else 2)=2:=by rw [hf]; rfl
   have hi:itm y (A0 (vtr l e) y)=vbs (A0 (vtr l e) y).length++A0 (vtr l e) y:=by unfold itm; rw [hf]; rfl
   rw [hk,Af (by rfl),Ab (dcT ⟨by first | rfl | trivial,by omega,by omega,by omega⟩),ntN,Ab (by simp only [anE,dcE,length_append,Gn]; have:=Gj (A0 (vtr l e) y).length; omega)] at hr0;rw [hr0,hi,IP,append_assoc];simp only [length_append,add_assoc]
  ·have hk:(if fkB y=true then (0:Int) else 2)=0:=by rw [hf]; rfl
   have hi:itm y (A0 (vtr l e) y)=A0 (vtr l e) y:=by unfold itm; rw [hf]; rfl
   rw [hk,Ae (by rfl),Ab (by simp only [anE,dcE,Gn]; omega)] at hr0;rw [hr0,hi];simp only [length_append]
 ·unfold OS at hc;rw [if_pos h5,anE,hno] at hc;obtain ⟨hh,hc⟩:=hc;have hb:=FO hh;have hbn:=Sz hh;have hrng:=WJ hr h5 hb;rw [hbn] at hrng;have hry:=BO (BK hr (by omega)) hb;have hL:=Fo _ _ hry hc;have hcm:=Bo hb;have hq:(z.lab.1==(5:Int))=true:=by rw [h5]; rfl
  have hk0:0<z.kids.length:=List.length_pos_of_mem hb;have hI:chI z (vtr l e)=vbs (8*l[e].2.2.1+(if fkB (byR l[e].2.2.1 z.kids)=true then 0 else 2)).toNat++itm (byR l[e].2.2.1 z.kids) (A0 (vtr l e) (byR l[e].2.2.1 z.kids)):=by unfold chI; rw [if_pos h5,hno]
  have hIl:=K0 (byR l[e].2.2.1 z.kids) (A0 (vtr l e) (byR l[e].2.2.1 z.kids));have hv:=Gj (8*l[e].2.2.1+(if fkB (byR l[e].2.2.1 z.kids)=true then 0 else 2)).toNat;refine ⟨?_,by rw [hI,<-hcnt,length_append]; omega⟩;rw [Af (dcT (show (e:Int)<(l.length:Int) by omega)),Ab hE,ntN,gtE he,Ap,Af hown,T2 (by omega),gtE hk0,Ap,Af hq,Ab hE,Ap,Ab (dcT (by omega)),Af hh,Ab hE,Ap,Ab (by rw [hc,Bool.and_true]; exact dcT ⟨by omega,by omega,hry,by omega,he,hl⟩),Af hq] at hr0;rw [hI];generalize hY:byR l[e].2.2.1 z.kids=y at hr0 hL hIl hv ⊢;have hw : ∀ k:Int,0<=k->k<=2->i64.wrap (i64.wrap (8*l[e].2.2.1)+k)=8*l[e].2.2.1+k:=fun k h1 h2=>by rw [Av (n:=8*l[e].2.2.1) (by omega) (by omega),Av (by omega) (by omega)]
  simp only [show List.map (fun z:UInt8=>((z.toNat:Nat):Int)) (A0 (vtr l e) y)=u8 (A0 (vtr l e) y) from rfl,drop_zero,take_length] at hr0;rcases Bool.eq_false_or_eq_true (fkB y) with hf | hf
  rotate_left
  ·have hk:(if fkB y=true then (0:Int) else 2)=2:=by rw [hf]; rfl
   have hi:itm y (A0 (vtr l e) y)=vbs (A0 (vtr l e) y).length++A0 (vtr l e) y:=by unfold itm; rw [hf]; rfl
   rw [hk] at hr0 hv;rw [hw 2 (by omega) (by omega),Ab (dcT ⟨by first | rfl | trivial,by omega,by omega,by omega⟩),Af (by rfl),Ab (dcT ⟨by first | rfl | trivial,by omega,by omega,by rw [length_append,Gn]; omega⟩),ntN,Ab (by simp only [anE,dcE,length_append,Gn]; have:=Gj (A0 (vtr l e) y).length; omega)] at hr0;rw [hr0,hi,hk,IP,IP];simp only [length_append,add_assoc,append_assoc]
  ·have hk:(if fkB y=true then (0:Int) else 2)=0:=by rw [hf]; rfl
   have hi:itm y (A0 (vtr l e) y)=A0 (vtr l e) y:=by unfold itm; rw [hf]; rfl
   rw [hk] at hr0 hv;rw [hw 0 (by omega) (by omega),Ab (dcT ⟨by first | rfl | trivial,by omega,by omega,by omega⟩),Ae (by rfl),Ab (by simp only [anE,dcE,length_append,Gn]; omega)] at hr0;rw [hr0,hi,hk,IP];simp only [length_append,add_assoc,append_assoc]
theorem QS (n:Nat) (z:Rose Lab) (l:List Nd) (a:Nat) (hl:l.length<=40) (hn:Ak z.kids<=n) (hn2:Aj z<=1000000) (hr:Ah z=true) (hh:z.lab.1=4\/z.lab.1=5) : ∀ (j e:Nat) (o:List Int),l.length-e<=j->e<=l.length->o.length<=52*e->(cvs (vks l a e).1).all (OS z)=true->
  Runs prog (Vr n) (Aa [(9,Mr n)]) 0 (body f88 0) (Mr n) ([.tp LCd z 0,.sl NCd l,.j (a:Int),.ref 0 0 o.length,.j (e:Int)],[R0 (.int .u8) o]) (.exit 1) ([.ref 0 0 (o++u8 ((cvs (vks l a e).1).flatMap (chI z))).length,.j ((vks l a e).2:Int)],[R0 (.int .u8) (o++u8 ((cvs (vks l a e).1).flatMap (chI z)))])
 | j,e,o,hj,he,ho,hc=>by
  have hM:=mxI
  by_cases h1:e<l.length
  ·by_cases hup:l[e].2.2.2.1=(a:Int)
   ·have hup2:Ba (tys l) e=some (a:Int):=by rw [Eu]; unfold upN; rw [gtE h1,<-hup]; rfl
    have hb:=HT h1;rw [Pd hup2,cvs,all_cons,anE] at hc;obtain ⟨hs,hs2⟩:=Yo n z l (a:Int) e o h1 hup hl hn hn2 hr hh ho hc.1;obtain ⟨j,rfl⟩ : ∃ i,j=i+1:=⟨j-1,by omega⟩
    have ih:=QS n z l a hl hn hn2 hr hh j (ven l e) (o++u8 (chI z (vtr l e))) (by omega) hb.2 (by rw [length_append,Gn]; omega) hc.2;rw [Pd hup2];dsimp only;rw [cvs,flatMap_cons,IP,<-append_assoc];exact sts hs ih
   ·have hup2:Ba (tys l) e≠some (a:Int):=by rw [Eu]; unfold upN; rw [gtE h1]; simpa using hup
    have hr0:=J4 n z l (a:Int) o.length (e:Int) o;dsimp only [shr] at hr0;rw [Af (dcT (show (e:Int)<(l.length:Int) by omega)),T2 (by omega),ntN,gtE h1,Ap,Ae (beq_eq_false_iff_ne.2 hup)] at hr0;rw [Pc hup2,show cvs []=[] from by rw [cvs],List.flatMap_nil,show u8 []=[] from rfl,append_nil];exact stp hr0
  ·have hup2:Ba (tys l) e≠some (a:Int):=fun h=>by
    have:=Ev h;rw [Bn] at this; omega
   have hr0:=J4 n z l (a:Int) o.length (e:Int) o;dsimp only [shr] at hr0;rw [Ae (dcF (show ¬(e:Int)<(l.length:Int) by omega))] at hr0;rw [Pc hup2,show cvs []=[] from by rw [cvs],List.flatMap_nil,show u8 []=[] from rfl,append_nil];exact stp hr0
 termination_by j=>j
theorem Aek (n:Nat):Aw prog (Vr n) (Aa [(9,Mr n)]) 0 (f88.body.getD .skip):=by
 refine As (a:=body f88 0) (by kernel_rfl) fun d ex d' h=>?_
 unfold Mr at h;dsimp only at h;split at h
 ·rename_i z l a m e o;obtain ⟨hc,hx⟩:=Ad h;clear h;rw [anE,dcE] at hc;obtain ⟨⟨rfl,h0,h1,h2,h3,h4,h5,h6,h7,h8⟩,h9⟩:=hc;obtain ⟨a,rfl⟩:=eq_ofNat_of_zero_le h0;obtain ⟨e,rfl⟩:=eq_ofNat_of_zero_le (a:=e) (by omega);rw [ntN] at h2 h8 h9 hx;rw [ntN] at h9 hx;obtain ⟨rfl,rfl⟩:=lfP hx;have hh:z.lab.1=4\/z.lab.1=5:=by unfold Ar at h7; simpa using h7
  exact QS n z l a h3 h4 h5 h6 hh _ e o (le_refl _) h2 h8 h9
 ·cases h
theorem Vw {l:List Nd} {a:Nat} (h:a<l.length):vtr l a = .node (l[a].1,l[a].2.1,l[a].2.2.1,l[a].2.2.2.2.1,()) (cvs (bif l[a].2.2.2.2.1 then vks l a (a+1) else ([],a+1)).1)/\ven l a=(bif l[a].2.2.2.2.1 then vks l a (a+1) else ([],a+1)).2:=by
 have e:=Tm h;unfold C6 at e;rw [Bn] at e;have hl:=L5 h;unfold vtr ven;rw [e] at hl ⊢;rw [cv] at hl ⊢;refine ⟨?_,rfl⟩;have hl:cvL (A5 (tys l) a)=_:=hl;rw [hl]; rfl
theorem Aau (n:Nat) (z:Rose Lab) (l:List Nd) (a:Int) (hc:(decide (Aj z<=n+1/\Aj z<=1000000/\Ah z=true/\0<=a/\a.toNat<l.length/\l.length<=40)&&sfR (vtr l a.toNat) z)=true):Bm prog (Vr n) (Aa [(9,Mr n)]) f88 [.tp LCd z 0,.sl NCd l,.j a] []=some (.tup [.s (A0 (vtr l a.toNat) z),.j (ven l a.toNat:Int)],[]):=by
 rw [anE,dcE] at hc;obtain ⟨⟨h1,h2,h3,h4,h5,h6⟩,h7⟩:=hc;obtain ⟨a,rfl⟩:=eq_ofNat_of_zero_le h4;rw [ntN] at h5 h7 ⊢;have hM:=mxI;have hck:=AE z;obtain ⟨e1,e2⟩:=Vw h5;have hk:=Dl (Cr h3).1;have hw:i64.wrap ((a:Int)+1)=((a+1:Nat):Int):=Az (by omega);rw [Yn];dsimp only [shr];rw [T2 (by omega),ntN,gtE h5,Ap,hw];rw [e1] at h7 ⊢;rw [e2]
 have hmany:l[a].2.2.2.2.1=Ar z.lab.1:=by
  rw [sfR] at h7
  by_cases hb:Dq l[a].1 l[a].2.1 l[a].2.2.2.2.1 z.lab.1=true
  ·rw [if_pos hb] at h7; cases h7
  ·unfold Dq at hb;rw [or_eq_true] at hb;have:=fun h=>hb (.inl h)
   simpa using this
 have num:fkB z=true->(ifT (decide ((-1000000000000:Int)<=l[a].1/\l[a].1<=1000000000000)) (ifT (decide (0<=fol l[a].1/\fol l[a].1<=1000000000000)) (some (V.tup [.s (List.map (fun n:Int=>UInt8.ofNat n.toNat) (take (u8 (vbs (fol l[a].1).toNat)).length (drop 0 (u8 (vbs (fol l[a].1).toNat))))),.j ((a+1:Nat):Int)],([]:List (Option Blk))))))=some (V.tup [.s (vbs (fol l[a].1).toNat),.j ((a+1:Nat):Int)],[]):=fun hf=>by
  have hr:=VX h3 hf h7;have hr : -1000000000<=l[a].1/\l[a].1<=1000000000:=hr;have:=DB hr;rw [Ab (dcT ⟨by omega,by omega⟩),Ab (dcT ⟨by omega,by omega⟩),drop_zero,take_length,SC]
 have hold:z.lab.1=4\/z.lab.1=5->ifT (decide ((0:Nat)=0/\(0:Int)<=(a:Int)/\(a:Int)<((a+1:Nat):Int)/\(((a+1:Nat):Int)).toNat<=l.length/\l.length<=40/\Ak z.kids<=n/\Aj z<=1000000/\Ah z=true/\Ar z.lab.1=true/\0<=52*(((a+1:Nat):Int)).toNat)&&(cvs (vks l a (((a+1:Nat):Int)).toNat).1).all (OS z)) (some (V.tup [.s (List.map (fun n:Int=>UInt8.ofNat n.toNat) (take (Ag (Cd.int .u8).den++u8 (flatMap (chI z) (cvs (vks l a (((a+1:Nat):Int)).toNat).1))).length (drop 0 (Ag (Cd.int .u8).den++u8 (flatMap (chI z) (cvs (vks l a (((a+1:Nat):Int)).toNat).1)))))),.j ((vks l a (((a+1:Nat):Int)).toNat).2:Int)],([]:List (Option Blk))))=some (.tup [.s ((cvs (vks l a (a+1)).1).flatMap (chI z)),.j ((vks l a (a+1)).2:Int)],[]):=fun hh=>by
  have hx:Ar z.lab.1=true:=by unfold Ar; rcases hh with h | h<;>rw [h]<;>rfl
  rw [hmany,hx,cond_true] at h7;rw [ntN,Ab (by rw [Aej hh h7,Bool.and_true]; exact dcT ⟨rfl,by omega,by omega,by omega,h6,by omega,h2,h3,hx,by omega⟩),A7,nil_append,drop_zero,take_length,SC]
 rw [hmany];rcases hk with q | q | q | ⟨q,_⟩ | q
 ·have hf:fkB z=true:=by unfold fkB; rw [q]; rfl
  rw [num hf,q,A0,if_neg (by omega),if_pos hf]; rfl
 ·rw [q,A0,if_pos q]; rfl
 ·have hf:fkB z=true:=by unfold fkB; rw [q]; rfl
  rw [num hf,q,A0,if_neg (by omega),if_pos hf]; rfl
 ·rw [hold (.inl q),Q3 (.inl q),q]; rfl
 ·rw [hold (.inr q),Q3 (.inr q),q]; rfl
theorem Aav : ∀ n,(∀ m,m<n->Ac prog 88 (Ent.rd1 (Vk m)).F)->Ac prog 88 (Ent.rd1 (Vk n)).F
 | 0,_=>AP fun vs bs=>by
  unfold Ent.F Vk;dsimp only;split
  ·rename_i z l a;have hk:=AE z;have:(decide (Aj z<=0/\Aj z<=1000000/\Ah z=true/\0<=a/\a.toNat<l.length/\l.length<=40)&&sfR (vtr l a.toNat) z)=false:=by rw [dcF (by omega)]; rfl
   rw [this]; rfl
  ·rfl
 | n+1,ih=>by
  refine fcC (kc func88 (ih n (Nat.lt_succ_self n)) (kc func132 Agr (kc func131 Agp (kc func35 WY (kc func62 kfk KnowsL.nil))))).knows (Λ:=(Aa [(9,Mr n)])) func88 fun vs bs r hq=>?_
  unfold Ent.F Vk at hq;dsimp only at hq;split at hq
  ·rename_i z l a;obtain ⟨hc,hx⟩:=Ad hq;exact ⟨Aek n,(Aau n z l a hc).trans hx⟩
  ·cases hq
theorem Adg:Ac prog 88 (Ent.rd1 Ael).F:=by
 refine Bb (F:=fun n=>(Ent.rd1 (Vk n)).F) Aav fun vs bs r h=>?_
 unfold Ent.F Ael at h;dsimp only at h;split at h
 ·rename_i z l a;obtain ⟨hc,hx⟩:=Ad h;refine ⟨Aj z,?_⟩;show (Br.need (decide (Aj z<=Aj z/\Aj z<=1000000/\Ah z=true/\0<=a/\a.toNat<l.length/\l.length<=40)&&sfR (vtr l a.toNat) z) (.leaf (.tup [.s (A0 (vtr l a.toNat) z),.j (ven l a.toNat:Int)],[]))).run=some r
  have:(decide (Aj z<=Aj z/\Aj z<=1000000/\Ah z=true/\0<=a/\a.toNat<l.length/\l.length<=40)&&sfR (vtr l a.toNat) z)=true:=by
   rw [anE,dcE] at hc ⊢;exact ⟨⟨le_refl _,hc.1⟩,hc.2⟩
  rw [this];exact hx
 ·cases h
def DN (f:WFd):Bool:=AJ f&&decide (f.2.2.2.1.length<=100000)
def Adr:Gm
 | [.sl FCd l],[]=>.need (decide (l.length<=100000)&&l.all DN) (.leaf (.s (fbs l),[]))
 | _,_=>.no
def MC:LoopEnt:=⟨41,[3,6,7,8],[3],[],fun
 | ([.s s,.sl FCd l,.j k,.j i],[])=>.need (decide (0<=i/\i.toNat<=l.length/\k=l.length/\l.length<=100000/\s.length<=200000*i.toNat)&&l.all DN) (.leaf (.exit 0,([.s (s++fbs (l.drop i.toNat))],[])))
 | _=>.no⟩
abbrev Yr:FuncId->Option Ent:=Aa [(105,.rd1 Y4),(106,.rd1 Sj)]
theorem NB (s:By) (l:List WFd) (k i:Int):Au prog Yr (Aa [(3,MC)]) 0 (body f57 0) MC ([.s s,.sl FCd l,.j k,.j i],[]) =
 ((ifB (decide (i<k)) (ifT (decide (0<=i)&&decide (i<(↑l.length:Int))) (An l[i.toNat]? fun z=>ifT (decide (0<=i64.wrap (i64.wrap ((8:Int) *
 z.1)+z.2.1)/\i64.wrap (i64.wrap ((8:Int)*z.1)+z.2.1)<=(1000000000000:Int))) (ifT (decide (s.length+(vbs (i64.wrap
 (i64.wrap ((8:Int)*z.1)+z.2.1)).toNat).length<=9223372036854775807)) (ifB (z.2.1==(0:Int)) (ifT (decide ((-1000000000000:Int)<=
 z.2.2.1/\z.2.2.1<=(1000000000000:Int))) (ifT (decide ((0:Int)<=fol z.2.2.1/\fol z.2.2.1<=(1000000000000:Int))) (ifT (decide ((s++vbs
 (i64.wrap (i64.wrap ((8:Int)*z.1)+z.2.1)).toNat).length+(vbs (fol z.2.2.1).toNat).length<=9223372036854775807)) (some
 (Ex.normal,[V.s (s++vbs (i64.wrap (i64.wrap ((8:Int)*z.1)+z.2.1)).toNat++vbs (fol z.2.2.1).toNat),V.sl FCd l,V.j k,V.i .i64
 (i64.wrap (i+1))],[]))))) (ifT (decide (0<=(↑(List.length z.2.2.2.1):Int)/\(↑(List.length z.2.2.2.1):Int)<=(1000000000000:Int))) (ifT
 (decide ((vbs (↑(List.length z.2.2.2.1):Int).toNat).length+List.length z.2.2.2.1<=9223372036854775807)) (ifT (decide ((s++vbs
 (i64.wrap (i64.wrap ((8:Int)*z.1)+z.2.1)).toNat).length+(vbs (↑(List.length z.2.2.2.1):Int).toNat++z.2.2.2.1).length<=
 9223372036854775807)) (some (Ex.normal,[V.s (s++vbs (i64.wrap (i64.wrap ((8:Int)*z.1)+z.2.1)).toNat++(vbs (↑(List.length
 z.2.2.2.1):Int).toNat++z.2.2.2.1)),V.sl FCd l,V.j k,V.j (i64.wrap (i+1))],[]))))))))) (some (Ex.exit 0,[V.s s],[]))):_):=by kernel_rfl
theorem Xz (l:List WFd):AT prog Yr (Aa [(3,MC)]) f57 [.sl FCd l] [] =
 ((ifT (decide ((0:Int)<=(0:Int)/\0<=l.length/\(↑l.length:Int)=(↑l.length:Int)/\l.length<=100000/\0<=0)&&l.all DN)
 (some (V.s (Ag UInt8++fbs (drop 0 l)),[]))):_):=by kernel_rfl
theorem Ts {f:WFd} (h:DN f=true):(fb1 f).length<=100100:=by
 unfold DN at h;rw [anE,dcE] at h;obtain ⟨h1,h2⟩:=h;obtain ⟨⟨a1,a2⟩,a3⟩:=DO h1;have b1:=GK (n:=(8*f.1+f.2.1).toNat) (by omega);unfold fb1;rw [length_append];split
 ·rename_i q;rcases a3 with ⟨_,c2,_⟩ | ⟨c1,_⟩
  ·have c3:=DB (GM c2);have b2:=GK (n:=(fol f.2.2.1).toNat) (by omega);omega
  ·omega
 ·have b2:=GK (n:=f.2.2.2.1.length) (by omega);rw [length_append]; omega
theorem ZA (s:By) (l:List WFd) (i:Nat) (hi:i<l.length) (hl:l.length<=100000) (hs:s.length<=200000*i) (hf:DN l[i]=true) :
  Au prog Yr (Aa [(3,MC)]) 0 (body f57 0) MC ([.s s,.sl FCd l,.j (l.length:Int),.j (i:Int)],[])=some (.normal,([.s (s++fb1 l[i]),.sl FCd l,.j (l.length:Int),.j ((i+1:Nat):Int)],[])):=by
 have hb:=Ts hf;rw [NB];have hM:=mxI;rw [Af (dcT (by omega)),T2 (by omega),ntN,gtE hi,Ap,Az (n:=i) (by omega)];generalize l[i]=z at *;have hf0:=hf;unfold DN at hf;rw [anE,dcE] at hf;obtain ⟨h1,h2⟩:=hf;obtain ⟨⟨a1,a2⟩,a3⟩:=DO h1
 have e:i64.wrap (i64.wrap (8*z.1)+z.2.1)=8*z.1+z.2.1:=by
  rw [Av (n:=8*z.1) (by omega) (by omega),Av (by omega) (by omega)]
 have b1:=GK (n:=(8*z.1+z.2.1).toNat) (by omega);rw [e,Ab (dcT ⟨by omega,by omega⟩),Ab (dcT (by omega))];unfold fb1 at hb ⊢;rcases a3 with ⟨c1,c2,c3⟩ | ⟨c1,c2⟩
 ·have c4:=GM c2;have c5:=DB c4;have b2:=GK (n:=(fol z.2.2.1).toNat) (by omega);rw [Af (by rw [c1]; rfl),Ab (dcT ⟨by omega,by omega⟩),Ab (dcT ⟨by omega,by omega⟩),Ab (dcT (by rw [length_append]; omega)),if_pos c1,append_assoc]
 ·have b2:=GK (n:=z.2.2.2.1.length) (by omega);rw [Ae (by rw [c1]; rfl),ntN,Ab (dcT ⟨by omega,by omega⟩),Ab (dcT (by omega)),Ab (dcT (by rw [length_append,length_append]; omega)),if_neg (by omega),append_assoc]
theorem Q2 (l:List WFd) (hl:l.length<=100000) (hf:l.all DN=true) : ∀ (j i:Nat) (s:By),i+j=l.length->s.length<=200000*i->
  Runs prog Yr (Aa [(3,MC)]) 0 (body f57 0) MC ([.s s,.sl FCd l,.j (l.length:Int),.j (i:Int)],[]) (.exit 0) ([.s (s++fbs (l.drop i))],[])
 | 0,i,s,hi,hs=>by
  have hr:=NB s l l.length i;rw [Ae (dcF (by omega))] at hr;rw [drop_eq_nil_of_le (by omega),show fbs []=[] from rfl,append_nil];exact stp hr
 | j+1,i,s,hi,hs=>by
  have hlt:i<l.length:=by omega
  have hfi:=all_eq_true.1 hf _ (getElem_mem hlt);have hr:=ZA s l i hlt hl hs hfi;have hb:=Ts hfi;have ih:=Q2 l hl hf j (i+1) (s++fb1 l[i]) (by omega) (by rw [length_append]; omega);rw [drop_eq_getElem_cons hlt,Db];rw [append_assoc] at ih;exact sts hr ih
theorem Adq:Aw prog Yr (Aa [(3,MC)]) 0 (f57.body.getD .skip):=by
 refine As (a:=body f57 0) (by kernel_rfl) fun d ex d' h=>?_
 unfold MC at h;dsimp only at h;split at h
 ·rename_i s l k i;obtain ⟨hc,hx⟩:=Ad h;clear h;rw [anE] at hc;obtain ⟨hc,hf⟩:=hc;obtain ⟨h0,h1,rfl,h3,h4⟩:=of_decide_eq_true hc;obtain ⟨i,rfl⟩:=eq_ofNat_of_zero_le h0;simp only [ntN] at h1 h4 hx;obtain ⟨rfl,rfl⟩:=lfP hx;exact Q2 l h3 hf (l.length-i) i s (by omega) h4
 ·cases h
theorem Agu:Ac prog 57 (Ent.rd1 Adr).F:=by
 refine fcK (kc func105 sv (kc func106 Ae1 KnowsL.nil)).knows (Λ:=(Aa [(3,MC)])) func57 fun vs bs r hq=>?_
 unfold Ent.F Adr at hq;dsimp only at hq;split at hq
 ·rename_i l;obtain ⟨hc,hx⟩:=Ad hq;rw [anE] at hc;obtain ⟨h1,h2⟩:=hc;have h1:=of_decide_eq_true h1;refine ⟨Adq,Eq.trans ?_ hx⟩;rw [Xz,Ab (by rw [h2,Bool.and_true]; exact dcT ⟨by omega,by omega,rfl,h1,by omega⟩)];rfl
 ·cases hq
end Go.Proofs.YtckmoiopjocapaaGreat.Den
