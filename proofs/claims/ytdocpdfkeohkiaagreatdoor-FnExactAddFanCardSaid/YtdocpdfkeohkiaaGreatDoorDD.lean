/- What functions of the program do, by the machine: Top6 Top7 Brk1 Text Mark Mk1 Held Hd1 Mk2 Own1 Brk2 Brk3 Brk4 Top8 Brk5 Brk6. -/
import Derived.Test.YtdocpdfkeohkiaaGreatDoorDC
import Derived.KernelRfl
import Derived.Test.YtdocpdfkeohkiaaGreatDoorRows
namespace Go.Proofs.YtdocpdfkeohkiaaGreatDoor.Den
open IntKind (i64)
open Go.Proofs.Tryz
open List (all_cons all_eq_true append_nil drop drop_eq_getElem_cons drop_eq_nil_of_le drop_set_of_lt drop_zero getElem_mem length_cons nil_append range set_set take take_length take_of_length_le)
open Int (add_assoc eq_ofNat_of_zero_le tmod)
open Nat (add_sub_of_le lt_succ_self zero_add zero_le)
open Bool (not_not)
open Go.Proofs
set_option maxRecDepth 100000
def D6 (c:UInt8) (s:List UInt8):List UInt8->Nat->Nat->List (List UInt8)->List (List UInt8)×Nat
 | [],_,fr,r=>(r,fr)
 | b::l,i,fr,r=>if b=c then D6 c s l (i+1) (i+1) (r++[(s.drop fr).take (i-fr)]) else D6 c s l (i+1) fr r
def Vc (x:List UInt8):List (List UInt8)->List (List UInt8)
 | []=>[]
 | h::t=>(x++h)::t
def T0:Gm
 | [.s s,.i .u8 b],[]=>.need (decide (b=47/\s.length<=4000000000)) (.leaf (.ref 0 0 (cut 47 s).length,[some (.row false none .str (cut 47 s))]))
 | _,_=>.no
def O5:LoopEnt:=⟨34,[0,1,5,6,7],[0,5,6],[],fun
 | ([.s s,.i .u8 b,.ref 0 0 k,.i .i64 fr,.i .i64 i],[some (.row false none .str r)])=>.need (decide (b=47/\k=r.length/\(0<=fr/\fr<=i)/\i.toNat<=s.length/\s.length<=4000000000/\(r.length:Int)<=i)) (.leaf (.exit 0,([.s s,.ref 0 0 (D6 47 s (s.drop i.toNat) i.toNat fr.toNat r).1.length,.i .i64 ((D6 47 s (s.drop i.toNat) i.toNat fr.toNat r).2:Int)],[some (.row false none .str (D6 47 s (s.drop i.toNat) i.toNat fr.toNat r).1)])))
 | _=>.no⟩
theorem Hq (c:UInt8) (s:List UInt8) : ∀ (l:List UInt8) (i fr:Nat) (r:List (List UInt8)),s.drop i=l->fr<=i->i<=s.length->(D6 c s l i fr r).1++[s.drop (D6 c s l i fr r).2]=r++Vc ((s.drop fr).take (i-fr)) (cut c l)/\(D6 c s l i fr r).2<=s.length
 | [],i,fr,r,h,h1,h2=>by
  have hi:i=s.length:=by have:=congrArg List.length h; simp at this; omega
  simp only [D6,cut,Vc,append_nil]
  rw [take_of_length_le (by rw [List.length_drop]; omega)]
  exact ⟨rfl,by omega⟩
 | b::l,i,fr,r,h,h1,h2=>by
  have hlt:i<s.length:=by have:=congrArg List.length h; simp at this; omega
  have hd:s.drop (i+1)=l:=by rw [<-List.drop_drop,h]; rfl
  have hb:s[i]=b:=by have:=drop_eq_getElem_cons hlt; rw [h] at this; exact (List.cons.inj this).1.symm
  rw [D6,cut]
  by_cases hc:b=c
  ·rw [if_pos hc,if_pos hc]
   obtain ⟨e1,e2⟩:=Hq c s l (i+1) (i+1) (r++[(s.drop fr).take (i-fr)]) hd (Nat.le_refl _) (by omega)
   refine ⟨?_,e2⟩
   rw [e1,Nat.sub_self,List.take_zero]
   have hg:Vc [] (cut c l)=cut c l:=by cases cut c l<;>rfl
   rw [hg]
   simp [Vc]
  ·rw [if_neg hc,if_neg hc]
   obtain ⟨e1,e2⟩:=Hq c s l (i+1) fr r hd (by omega) (by omega)
   refine ⟨?_,e2⟩
   rw [e1]
   congr 1
   have hne:=SS c l
   have ht:(s.drop fr).take (i+1-fr)=(s.drop fr).take (i-fr)++[b]:=by
    have hk:i-fr<(s.drop fr).length:=by rw [List.length_drop]; omega
    rw [show i+1-fr=(i-fr)+1 by omega,List.take_succ_eq_append_getElem hk,List.getElem_drop]
    congr 2
    rw [<-hb]
    congr 1; omega
   rw [ht]
   cases hl:cut c l with
   | nil=>exact absurd hl hne
   | cons x t=>simp [Vc]
theorem MU (s:List UInt8) (b:Int) (k:Nat) (fr i:Int) (r:List (List UInt8)):Av prog (Ab []) (Ab [(4,O5)]) 0 (body f136 0) O5 ([.s s,.i .u8 b,.ref 0 0 k,.j fr,.j i],[some (.row false none .str r)]) =
 ((ifB (decide (i<(↑s.length:Int))) (ifT (decide ((0:Int)<=i)) (Ai s[i.toNat]? fun z=>ifB ((↑z.toNat:Int)==b) (ifT (decide ((0:Int)<=fr)&&decide (fr<=
 i)&&decide (i<=(↑s.length:Int))) (ifT (decide ((k+1)*16<=140737488355328)&&decide (k+1<=maxI)) (some (Ex.normal,[V.s s,
 V.i .u8 b,V.ref 0 0 (k+1),V.j (i64.wrap (i+(1:Int))),V.j (i64.wrap (i+(1:Int)))],[some (Blk.row false none Cd.str
 (take k (drop 0 r)++take (i.toNat-fr.toNat) (drop fr.toNat s)::Aj Cd.str.den))])))) (some (Ex.normal,[V.s s,V.i .u8 b,V.ref 0 0 k,
 V.j fr,V.j (i64.wrap (i+(1:Int)))],[some (Blk.row false none Cd.str r)])))) (some (Ex.exit 0,[V.s s,V.ref 0 0 k,V.j fr],[some (Blk.row
 false none Cd.str r)]))):_):=by kernel_rfl
theorem Lf (s:List UInt8) (hs:s.length<=4000000000) : ∀ (j i fr:Nat) (r:List (List UInt8)),i+j=s.length->fr<=i->r.length<=i->
  Runs prog (Ab []) (Ab [(4,O5)]) 0 (body f136 0) O5 ([.s s,.i .u8 47,.ref 0 0 r.length,.j (fr:Int),.j (i:Int)],[some (.row false none .str r)]) (.exit 0) ([.s s,.ref 0 0 (D6 47 s (s.drop i) i fr r).1.length,.j ((D6 47 s (s.drop i) i fr r).2:Int)],[some (.row false none .str (D6 47 s (s.drop i) i fr r).1)])
 | 0,i,fr,r,hi,h1,h2=>by
  have hr:=MU s 47 r.length fr i r
  rw [Ac (dcF (by omega))] at hr
  rw [drop_eq_nil_of_le (by omega),D6]
  exact .stop _ _ _ hr (by simp)
 | j+1,i,fr,r,hi,h1,h2=>by
  have hM:maxI=9223372036854775807:=rfl
  have hil:i<s.length:=by omega
  have hr:=MU s 47 r.length fr i r
  rw [Ag (dcT (by omega)),Aa (by simp only [dcE]; omega)] at hr
  simp only [ntN,gtE hil,Am,Ap (n:=i) (by omega),drop_zero,take_length,AN] at hr
  rw [drop_eq_getElem_cons hil,D6]
  by_cases hc:s[i]=47
  ·rw [if_pos hc]
   rw [Ag (by rw [hc]; rfl),Aa (by simp only [anE,dcE]; omega),Aa (by simp only [anE,dcE]; omega)] at hr
   have ih:=Lf s hs j (i+1) (i+1) (r++[(s.drop fr).take (i-fr)]) (by omega) (Nat.le_refl _) (by simp; omega)
   exact .step _ _ _ _ (hr.trans (by simp)) ih
  ·rw [if_neg hc]
   have hb47 : ¬(s[i].toNat=47):=fun h=>hc (UInt8.toNat_inj.1 (by rw [h]; rfl))
   rw [Ac (beq_false_of_ne (by omega))] at hr
   exact .step _ _ _ _ hr (Lf s hs j (i+1) fr r (by omega) (by omega) (by omega))
theorem Aca:Ar prog (Ab []) (Ab [(4,O5)]) 0 (f136.body.getD .skip):=by
 refine An (a:=body f136 0) (by kernel_rfl) fun x e y h=>?_
 unfold O5 at h
 dsimp only at h
 split at h
 ·rename_i s b k fr i r
  obtain ⟨hc,hx⟩:=Ad h
  clear h
  obtain ⟨rfl,rfl,⟨h0,h1⟩,h2,h3,h4⟩:=of_decide_eq_true hc
  obtain ⟨fr,rfl⟩:=eq_ofNat_of_zero_le h0
  obtain ⟨i,rfl⟩:=eq_ofNat_of_zero_le (by omega:0<=i)
  rw [ntN] at h2 hx
  rw [ntN] at hx
  have h6:=Ao hx
  obtain ⟨rfl,rfl⟩:=Prod.mk.inj h6
  exact Lf s h3 (s.length-i) i fr r (by omega) (by omega) (by omega)
 ·cases h
theorem Xq (s:List UInt8) (b:Int) (hc:b=47/\s.length<=4000000000):DH prog (Ab []) (Ab [(4,O5)]) f136 [.s s,.i .u8 b] []=some (.ref 0 0 (cut 47 s).length,[some (.row false none .str (cut 47 s))]):=by
 have e:DH prog (Ab []) (Ab [(4,O5)]) f136 [.s s,.i .u8 b] []=((ifT (decide (b=(47:Int)/\0=0/\((0:Int)<=(0:Int)/\(0:Int)<=(0:Int))/\0<=s.length/\s.length<=4000000000/\(↑(0:Nat)
 : Int)<=(0:Int))) (ifT (decide ((0:Int)<=(↑(D6 (47:UInt8) s (drop 0 s) 0 0 (Aj Cd.str.den)).snd:Int))&&decide ((↑(D6 (47 :
 UInt8) s (drop 0 s) 0 0 (Aj Cd.str.den)).snd:Int)<=(↑s.length:Int))) (ifT (decide (((D6 (47:UInt8) s (drop 0 s) (0 :
 Nat) 0 (Aj Cd.str.den)).fst.length+1)*16<=140737488355328)&&decide ((D6 (47:UInt8) s (drop 0 s) 0 (0 :
 Nat) (Aj Cd.str.den)).fst.length+1<=maxI)) (some (V.ref 0 0 ((D6 (47:UInt8) s (drop 0 s) 0 0 (Aj Cd.str.den)).fst.length +
 1),[some (Blk.row false none Cd.str (take (D6 (47:UInt8) s (drop 0 s) 0 0 (Aj Cd.str.den)).fst.length (drop (0 :
 Nat) (D6 (47:UInt8) s (drop 0 s) 0 0 (Aj Cd.str.den)).fst)++take (s.length-(↑(D6 (47:UInt8) s (drop 0 s) (0 :
 Nat) 0 (Aj Cd.str.den)).snd:Int).toNat) (drop (↑(D6 (47:UInt8) s (drop 0 s) 0 0 (Aj Cd.str.den)).snd:Int).toNat s)
 :: Aj Cd.str.den))]))))):_):=by kernel_rfl
 rw [e]
 clear e
 obtain ⟨rfl,hs⟩:=hc
 have hM:maxI=9223372036854775807:=rfl
 rw [Aa (dcT ⟨by trivial,by rfl,⟨by omega,by omega⟩,by omega,hs,by simp⟩)]
 obtain ⟨e1,e2⟩:=Hq 47 s s 0 0 [] rfl (Nat.le_refl _) (zero_le _)
 have hg:Vc ((s.drop 0).take (0-0)) (cut 47 s)=cut 47 s:=by cases cut 47 s<;>rfl
 rw [hg,nil_append] at e1
 have e4:=OK 47 s
 have e5:=List.count_le_length (a:=47) (l:=s)
 simp only [drop_zero,AN,ntN,take_length,Nat.sub_zero] at *
 generalize D6 47 s s 0 0 []=y at *
 have e3:y.1.length+1=(cut 47 s).length:=by rw [<-e1]; simp
 have e6:take (s.length-y.2) (drop y.2 s)=drop y.2 s:=take_of_length_le (by simp)
 rw [Aa (by simp only [anE,dcE]; omega),Aa (by simp only [anE,dcE]; omega)]
 simp only [e6,e1,e3]
theorem Ab9:Af prog 136 (Ent.rd1 T0).F:=by
 refine Bc KnowsL.nil.knows (Λ:=Ab [(4,O5)]) func136 (c:=f136.body.getD .skip) (by kernel_rfl) fun vs bs r hq hv hb=>?_
 unfold Ent.F T0 at hq
 dsimp only at hq
 split at hq
 ·rename_i s b
  obtain ⟨hc,hq⟩:=Ad hq
  exact ⟨Aca,(Xq s b (of_decide_eq_true hc)).trans hq⟩
 ·cases hq
def pt:List (List UInt8)->Bool
 | []=>true
 | x::l=>(lev x||(x==[43]||(x==[35]&&l.isEmpty)))&&pt l
def EL:LoopEnt:=⟨21,[3,8,9,10],[3],[2],fun
 | ([.ref 0 0 k,.ref 0 0 k2,.i .i64 m,.i .i64 i],[some (.row false none .str l)])=>.need (decide (0<=i/\k=l.length/\k2=l.length/\m=l.length/\i.toNat<=l.length/\l.length<=5000000000/\∀ z∈l,z.length<=4000000000)) (.br ((l.drop i.toNat).all lev) (.leaf (.exit 0,([.ref 0 0 l.length],[some (.row false none .str l)]))) (.leaf (.ret,([.b false],[]))))
 | _=>.no⟩
def EM:LoopEnt:=⟨37,[3,8,9,10],[3],[2],fun
 | ([.ref 0 0 k,.ref 0 0 k2,.i .i64 m,.i .i64 i],[some (.row false none .str l)])=>.need (decide (0<=i/\k=l.length/\k2=l.length/\m=l.length/\i.toNat<=l.length/\l.length<=5000000000/\∀ z∈l,z.length<=4000000000)) (.br (pt (l.drop i.toNat)) (.leaf (.exit 0,([.ref 0 0 l.length],[some (.row false none .str l)]))) (.leaf (.ret,([.b false],[]))))
 | _=>.no⟩
theorem Aa2:lev [35]=false:=by decide
theorem Aas : ∀ l:List (List UInt8),pt l=(!(l.any fun z=>!D0 z)&&!decide ([35]∈l.take (l.length-1)))
 | []=>by simp [pt]
 | [x]=>by
  simp only [pt,D0,List.any_cons,List.any_nil,List.isEmpty_nil,Bool.and_true,Bool.or_false,not_not,List.length_singleton,Nat.sub_self,List.take_zero,List.not_mem_nil,decide_false,Bool.not_false]
  cases lev x<;>cases x==[43]<;>cases x==[35]<;>rfl
 | x::y::l=>by
  have ih:=Aas (y::l)
  rw [pt,ih]
  have e1:(x::y::l).length-1=((y::l).length-1)+1:=by simp
  have e3:((x::y::l).any fun z=>!D0 z)=(!D0 x||(y::l).any fun z=>!D0 z):=rfl
  rw [e1,List.take_succ_cons,e3]
  generalize hA:((y::l).any fun z=>!D0 z)=A
  clear hA ih e3 e1
  simp only [D0,List.isEmpty_cons,Bool.and_false,Bool.or_false]
  by_cases hx:x=[35]
  ·subst hx
   rw [Aa2]
   simp
  ·have hne:([35]:List UInt8)≠x:=fun h=>hx h.symm
   have e2:decide (([35]:List UInt8)∈x::(y::l).take ((y::l).length-1))=decide ([35]∈(y::l).take ((y::l).length-1)):=decide_eq_decide.2 (by simp [hne])
   rw [e2,beq_false_of_ne hx]
   generalize decide ([35]∈(y::l).take ((y::l).length-1))=d
   cases lev x<;>cases x==[43]<;>cases A<;>cases d<;>rfl
theorem Xp (l:List (List UInt8)):lvB l=(pt l&&decide (l.length<=6)):=by
 unfold lvB
 rw [<-Aas,Bool.and_comm]
theorem Aao : ∀ l:List (List UInt8),l.all lev=true->pt l=true
 | [],_=>rfl
 | x::l,h=>by
  rw [all_cons,anE] at h
  rw [pt,h.1,Aao l h.2]; rfl
theorem VV (l:List (List UInt8)):tpB l=(l.all lev&&decide (l.length<=6)):=by
 unfold tpB
 rw [Xp]
 have e:(l.any fun z=>!lev z) = !(l.all lev):=by
  induction l with
  | nil=>rfl
  | cons z l ih=>rw [List.any_cons,all_cons,ih,Bool.not_and]
 rw [e,not_not]
 cases h:l.all lev with
 | true=>rw [Aao l h]; simp
 | false=>simp
abbrev Mx:FuncId->Option Ent:=Ab [(136,.rd1 T0),(154,.rd1 O6)]
theorem Je (k k2:Nat) (m i:Int) (l:List (List UInt8)):Av prog Mx (Ab [(3,EL)]) 0 (body f113 0) EL ([.ref 0 0 k,.ref 0 0 k2,.j m,.j i],[some (.row false none .str l)]) =
 ((ifB (decide (i<m)) (ifT (decide ((0:Int)<=i)&&decide (i<(↑k2:Int))) (Ai l[0+i.toNat]? fun z=>ifT (decide (List.length z<=maxI)) (ifB (!lev z)
 (some (Ex.ret,[V.b false],[])) (some (Ex.normal,[V.ref 0 0 k,V.ref 0 0 k2,V.j m,V.j (i64.wrap (i+(1:Int)))],[some (Blk.row false none Cd.str
 l)]))))) (some (Ex.exit 0,[V.ref 0 0 k],[some (Blk.row false none Cd.str l)]))):_):=by kernel_rfl
theorem Kz (l:List (List UInt8)) (hl:l.length<=5000000000) (ha : ∀ z∈l,z.length<=4000000000) : ∀ (j i:Nat),i+j=l.length->∀ e d',(Br.br ((l.drop i).all lev) (.leaf (.exit 0,([.ref 0 0 l.length],[some (.row false none .str l)]))) (.leaf (.ret,([.b false],[]))):Br (Ex×Dt)).run=some (e,d')->Runs prog Mx (Ab [(3,EL)]) 0 (body f113 0) EL ([.ref 0 0 l.length,.ref 0 0 l.length,.j (↑l.length:Int),.j (i:Int)],[some (.row false none .str l)]) e d'
 | 0,i,hi,e,d',hx=>by
  have hr:=Je l.length l.length l.length i l
  rw [Ac (dcF (by omega))] at hr
  rw [drop_eq_nil_of_le (by omega)] at hx
  cases hx
  exact .stop _ _ _ hr (by simp)
 | j+1,i,hi,e,d',hx=>by
  have hM:maxI=9223372036854775807:=rfl
  have hil:i<l.length:=by omega
  have hr:=Je l.length l.length l.length i l
  rw [Ag (dcT (by omega)),Aa (by simp only [anE,dcE]; omega)] at hr
  simp only [ntN,zero_add,gtE hil,Am,Ap (n:=i) (by omega)] at hr
  have hlen:=ha l[i] (getElem_mem hil)
  rw [Aa (dcT (by omega))] at hr
  rw [drop_eq_getElem_cons hil] at hx
  rw [all_cons] at hx
  cases hz:lev l[i] with
  | true=>
   rw [hz,Bool.true_and] at hx
   rw [hz,Ac (by rfl:(!true)=false)] at hr
   exact .step _ _ _ _ hr (Kz l hl ha j (i+1) (by omega) e d' hx)
  | false=>
   rw [hz,Bool.false_and] at hx
   cases hx
   rw [hz,Ag (by rfl:(!false)=true)] at hr
   exact .stop _ _ _ hr (by simp)
theorem Wv:Ar prog Mx (Ab [(3,EL)]) 0 (f113.body.getD .skip):=by
 refine An (a:=body f113 0) (by kernel_rfl) fun x e y h=>?_
 unfold EL at h
 dsimp only at h
 split at h
 ·rename_i k k2 m i l
  obtain ⟨hc,hx⟩:=Ad h
  clear h
  obtain ⟨h0,rfl,rfl,rfl,h1,h2,h3⟩:=of_decide_eq_true hc
  obtain ⟨i,rfl⟩:=eq_ofNat_of_zero_le h0
  rw [ntN] at h1 hx
  exact Kz l h2 h3 (l.length-i) i (by omega) e y hx
 ·cases h
theorem Up (s:List UInt8) (hc:s.length<=4000000000):DH prog Mx (Ab [(3,EL)]) f113 [.s s] []=some (.b (tpB (cut 47 s)),[]):=by
 have e:DH prog Mx (Ab [(3,EL)]) f113 [.s s] []=((ifT (decide ((47:Int)=(47:Int)/\s.length<=4000000000)) (ifT (decide ((0:Int)<=(0:Int)/\(cut (47:UInt8) s).length=(cut (47:UInt8) s).length/\
 (cut (47:UInt8) s).length=(cut (47:UInt8) s).length/\(↑(cut (47:UInt8) s).length:Int)=(↑(cut (47:UInt8) s).length:Int)/\0<=(cut (47:UInt8)
 s).length/\(cut (47:UInt8) s).length<=5000000000/\∀ (z:Cd.str.den),z∈cut (47:UInt8) s->List.length z<=4000000000)) (ifB ((drop (0 :
 Nat) (cut (47:UInt8) s)).all lev) (some (V.b (decide ((↑(cut (47:UInt8) s).length:Int)<=(6:Int))),[])) (some (V.b false,[]))))):_):=by kernel_rfl
 rw [e]
 clear e
 obtain ⟨hz,hpos,hle⟩:=EA hc
 rw [VV]
 rw [Aa (dcT ⟨by trivial,hc⟩),Aa (dcT ⟨by omega,by trivial,by trivial,by trivial,by omega,by omega,hz⟩)]
 simp only [drop_zero]
 generalize cut 47 s=l at *
 by_cases q:l.length<=6
 ·have q2:((l.length:Int)<=6):=by omega
  rw [dcT q,dcT q2]
  cases (l.all lev)<;>rfl
 ·have q2 : ¬((l.length:Int)<=6):=by omega
  rw [dcF q,dcF q2]
  cases (l.all lev)<;>rfl
theorem Adx:Af prog 113 (Ent.rd1 Nm).F:=by
 refine Bc (kc func136 Ab9 (kc func154 Adv KnowsL.nil)).knows (Λ:=(Ab [(3,EL)])) func113 (c:=f113.body.getD .skip) (by kernel_rfl) fun vs bs r hq hv hb=>?_
 unfold Ent.F Nm at hq
 dsimp only at hq
 split at hq
 ·rename_i s
  obtain ⟨hc,hq⟩:=Ad hq
  exact ⟨Wv,(Up s (of_decide_eq_true hc)).trans hq⟩
 ·cases hq
theorem Jf (k k2:Nat) (m i:Int) (l:List (List UInt8)):Av prog Mx (Ab [(3,EM)]) 0 (body f116 0) EM ([.ref 0 0 k,.ref 0 0 k2,.j m,.j i],[some (.row false none .str l)]) =
 ((ifB (decide (i<m)) (ifT (decide ((0:Int)<=i)&&decide (i<(↑k2:Int))) (Ai l[0+i.toNat]? fun z=>ifT (decide (List.length z<=maxI)) (ifB (!lev z)
 (ifB (!z==[(43:UInt8)]) (ifB (!z==[(35:UInt8)]) (some (Ex.ret,[V.b false],[])) (ifB (decide (i<i64.wrap ((↑k:Int)-(1:Int)))) (some (Ex.ret,[V.b
 false],[])) (some (Ex.normal,[V.ref 0 0 k,V.ref 0 0 k2,V.j m,V.j (i64.wrap (i+(1:Int)))],[some (Blk.row false none Cd.str l)])))) (some
 (Ex.normal,[V.ref 0 0 k,V.ref 0 0 k2,V.j m,V.j (i64.wrap (i+(1:Int)))],[some (Blk.row false none Cd.str l)]))) (some (Ex.normal,[V.ref 0 0 k,
 V.ref 0 0 k2,V.j m,V.j (i64.wrap (i+(1:Int)))],[some (Blk.row false none Cd.str l)]))))) (some (Ex.exit 0,[V.ref 0 0 k],[some (Blk.row false
 none Cd.str l)]))):_):=by kernel_rfl
theorem K0 (l:List (List UInt8)) (hl:l.length<=5000000000) (ha : ∀ z∈l,z.length<=4000000000) : ∀ (j i:Nat),i+j=l.length->∀ e d',(Br.br (pt (l.drop i)) (.leaf (.exit 0,([.ref 0 0 l.length],[some (.row false none .str l)]))) (.leaf (.ret,([.b false],[]))):Br (Ex×Dt)).run=some (e,d')->Runs prog Mx (Ab [(3,EM)]) 0 (body f116 0) EM ([.ref 0 0 l.length,.ref 0 0 l.length,.j (↑l.length:Int),.j (i:Int)],[some (.row false none .str l)]) e d'
 | 0,i,hi,e,d',hx=>by
  have hr:=Jf l.length l.length l.length i l
  rw [Ac (dcF (by omega))] at hr
  rw [drop_eq_nil_of_le (by omega)] at hx
  cases hx
  exact .stop _ _ _ hr (by simp)
 | j+1,i,hi,e,d',hx=>by
  have hM:maxI=9223372036854775807:=rfl
  have hil:i<l.length:=by omega
  have hr:=Jf l.length l.length l.length i l
  rw [Ag (dcT (by omega)),Aa (by simp only [anE,dcE]; omega)] at hr
  simp only [ntN,zero_add,gtE hil,Am,Ap (n:=i) (by omega)] at hr
  have hlen:=ha l[i] (getElem_mem hil)
  rw [Aa (dcT (by omega))] at hr
  rw [drop_eq_getElem_cons hil] at hx
  rw [pt] at hx
  have e0:(l.drop (i+1)).isEmpty=decide (¬((i:Int)<(l.length:Int)-1)):=by
   by_cases h:i+1<l.length
   ·rw [dcF (by omega),drop_eq_getElem_cons h]; rfl
   ·rw [dcT (by omega),drop_eq_nil_of_le (by omega)]; rfl
  have w:i64.wrap ((l.length:Int)-1)=(l.length:Int)-1:=Aw (by omega) (by omega)
  rw [e0] at hx
  simp only [w,decide_not] at hr hx
  have key:(lev l[i]||(l[i]==[43]||(l[i]==[35]&&!decide ((i:Int)<(l.length:Int)-1))))=true\/(lev l[i]||(l[i]==[43]||(l[i]==[35]&&!decide ((i:Int)<(l.length:Int)-1))))=false:=by cases (lev l[i]||(l[i]==[43]||(l[i]==[35]&&!decide ((i:Int)<(l.length:Int)-1))))<;>simp
  rcases key with hz | hz
  ·rw [hz,Bool.true_and] at hx
   refine .step _ _ _ _ (hr.trans ?_) (K0 l hl ha j (i+1) (by omega) e d' hx)
   revert hz
   generalize lev l[i]=a
   generalize (l[i]==[43])=b
   generalize (l[i]==[35])=c
   generalize decide ((i:Int)<(l.length:Int)-1)=d
   cases a<;>cases b<;>cases c<;>cases d<;>intro hz<;>first | rfl | cases hz
  ·rw [hz,Bool.false_and] at hx
   cases hx
   refine .stop _ _ _ (hr.trans ?_) (by simp)
   revert hz
   generalize lev l[i]=a
   generalize (l[i]==[43])=b
   generalize (l[i]==[35])=c
   generalize decide ((i:Int)<(l.length:Int)-1)=d
   cases a<;>cases b<;>cases c<;>cases d<;>intro hz<;>first | rfl | cases hz
theorem Wx:Ar prog Mx (Ab [(3,EM)]) 0 (f116.body.getD .skip):=by
 refine An (a:=body f116 0) (by kernel_rfl) fun x e y h=>?_
 unfold EM at h
 dsimp only at h
 split at h
 ·rename_i k k2 m i l
  obtain ⟨hc,hx⟩:=Ad h
  clear h
  obtain ⟨h0,rfl,rfl,rfl,h1,h2,h3⟩:=of_decide_eq_true hc
  obtain ⟨i,rfl⟩:=eq_ofNat_of_zero_le h0
  rw [ntN] at h1 hx
  exact K0 l h2 h3 (l.length-i) i (by omega) e y hx
 ·cases h
theorem Uq (s:List UInt8) (hc:s.length<=4000000000):DH prog Mx (Ab [(3,EM)]) f116 [.s s] []=some (.b (lvB (cut 47 s)),[]):=by
 have e:DH prog Mx (Ab [(3,EM)]) f116 [.s s] []=((ifT (decide ((47:Int)=(47:Int)/\s.length<=4000000000)) (ifT (decide ((0:Int)<=(0:Int)/\(cut (47:UInt8) s).length=(cut (47:UInt8) s).length/\
 (cut (47:UInt8) s).length=(cut (47:UInt8) s).length/\(↑(cut (47:UInt8) s).length:Int)=(↑(cut (47:UInt8) s).length:Int)/\0<=(cut (47:UInt8)
 s).length/\(cut (47:UInt8) s).length<=5000000000/\∀ (z:Cd.str.den),z∈cut (47:UInt8) s->List.length z<=4000000000)) (ifB (pt (drop (0 :
 Nat) (cut (47:UInt8) s))) (some (V.b (decide ((↑(cut (47:UInt8) s).length:Int)<=(6:Int))),[])) (some (V.b false,[]))))):_):=by kernel_rfl
 rw [e]
 clear e
 obtain ⟨hz,hpos,hle⟩:=EA hc
 rw [Xp]
 rw [Aa (dcT ⟨by trivial,hc⟩),Aa (dcT ⟨by omega,by trivial,by trivial,by trivial,by omega,by omega,hz⟩)]
 simp only [drop_zero]
 generalize cut 47 s=l at *
 by_cases q:l.length<=6
 ·have q2:((l.length:Int)<=6):=by omega
  rw [dcT q,dcT q2]
  cases (pt l)<;>rfl
 ·have q2 : ¬((l.length:Int)<=6):=by omega
  rw [dcF q,dcF q2]
  cases (pt l)<;>rfl
theorem Ady:Af prog 116 (Ent.rd1 Nq).F:=by
 refine Bc (kc func136 Ab9 (kc func154 Adv KnowsL.nil)).knows (Λ:=(Ab [(3,EM)])) func116 (c:=f116.body.getD .skip) (by kernel_rfl) fun vs bs r hq hv hb=>?_
 unfold Ent.F Nq at hq
 dsimp only at hq
 split at hq
 ·rename_i s
  obtain ⟨hc,hq⟩:=Ad hq
  exact ⟨Wx,(Uq s (of_decide_eq_true hc)).trans hq⟩
 ·cases hq
abbrev Tp:=List UInt8×(List Ty×Unit)×Int×Unit
abbrev Nt:=List UInt8×Int×List UInt8×Unit
abbrev Fa:=Int×List UInt8×(List Wt×Unit)×(List Ty×Unit)×List Nt×Int×Unit
def atT (ts:List Tp) (x:List UInt8):Int:=Au (fun t:Tp=>t.1==x) 0 ts
def atW (fs:List Fa) (x:Int):Int:=Au (fun f:Fa=>f.1==x) 0 fs
def Kg:Gm
 | [.agg [.s n,.sl TCd _,.i .i64 _],.bx [.s x] 0],[]=>.leaf (.b (n==x),[])
 | _,_=>.no
def LA:Gm
 | [.agg [.i .i64 w,.s _,.sl WCd _,.sl TCd _,.sl NTd _,.i .i64 _],.bx [.i .i64 x] 0],[]=>.leaf (.b (w==x),[])
 | _,_=>.no
def NO:Gm
 | [.bx [.sl TPd ts,.sl FNd _] 0,.s x],[]=>.leaf (.i .i64 (atT ts x),[])
 | _,_=>.no
def Ac7:Gm
 | [.bx [.sl TPd _,.sl FNd fs] 0,.i .i64 x],[]=>.leaf (.i .i64 (atW fs x),[])
 | _,_=>.no
def OM  : LoopEnt:=⟨19,[0,1,4,7,8],[],[4],fun
 | ([.sl TPd l,.fn 141 [] [.ptr 0 0],.i .i64 _,.i .i64 k,.i .i64 i],[some (.box [.s x])])=>
  .need (decide (0<=i/\i.toNat<=l.length/\l.length<=maxI/\k=l.length)) (.br (decide (Au (fun z:Tp=>z.1==x) i.toNat (l.drop i.toNat)<0)) (.leaf (.exit 0,([],[some (.box [.s x])]))) (.leaf (.ret,([.i .i64 (Au (fun z:Tp=>z.1==x) i.toNat (l.drop i.toNat))],[some (.box [.s x])]))))
 | _=>.no⟩
def TH  : Gm
 | [.sl TPd l,.fn 141 [] [.ptr 0 0]],[.box [.s x]]=>.leaf (.i .i64 (Au (fun z:Tp=>z.1==x) 0 l),[some (.box [.s x])])
 | _,_=>.no
def ON  : LoopEnt:=⟨19,[0,1,4,7,8],[],[4],fun
 | ([.sl FNd l,.fn 103 [] [.ptr 0 0],.i .i64 _,.i .i64 k,.i .i64 i],[some (.box [.i .i64 x])])=>
  .need (decide (0<=i/\i.toNat<=l.length/\l.length<=maxI/\k=l.length)) (.br (decide (Au (fun z:Fa=>z.1==x) i.toNat (l.drop i.toNat)<0)) (.leaf (.exit 0,([],[some (.box [.i .i64 x])]))) (.leaf (.ret,([.i .i64 (Au (fun z:Fa=>z.1==x) i.toNat (l.drop i.toNat))],[some (.box [.i .i64 x])]))))
 | _=>.no⟩
def TK  : Gm
 | [.sl FNd l,.fn 103 [] [.ptr 0 0]],[.box [.i .i64 x]]=>.leaf (.i .i64 (Au (fun z:Fa=>z.1==x) 0 l),[some (.box [.i .i64 x])])
 | _,_=>.no
def Pq:LoopEnt:=⟨21,[1,8,9,10],[],[4],fun
 | ([.s x,.sl TPd l,.i .i64 k,.i .i64 i],[])=>.need (decide (0<=i/\i.toNat<=l.length/\k=l.length/\l.length<=maxI)) ((Br.br (decide (Au (fun t:Tp=>t.1==x) i.toNat (l.drop i.toNat)<0)) (.leaf (.exit 0,([],[]))) (.leaf (.ret,([.i .i64 (Au (fun t:Tp=>t.1==x) i.toNat (l.drop i.toNat))],[]))):Br (Ex×Dt)))
 | _=>.no⟩
def YN:Gm
 | [.agg [.sl TPd ts,.sl FNd _],.s x],[]=>.leaf (.i .i64 (atT ts x),[])
 | _,_=>.no
theorem TO:Af prog 141 (Ent.rd1 Kg).F:=by
 refine Ae KnowsL.nil.knows (Λ:=Ab []) func141 (c:=f141.body.getD .skip) (by kernel_rfl) fun vs bs r hq hv hb=>?_
 unfold Ent.F Kg at hq
 dsimp only at hq
 split at hq
 ·rename_i n l c x
  refine ⟨Ak _,Eq.trans ?_ hq⟩
  have e:Ax prog (Ab []) (Ab []) f141 [.agg [.s n,.sl TCd l,.j c],.bx [.s x] 0] []=((some (V.b (n==x),[])):_):=by kernel_rfl
  exact e
 ·cases hq
theorem Ve:Af prog 103 (Ent.rd1 LA).F:=by
 refine Ae KnowsL.nil.knows (Λ:=Ab []) func103 (c:=f103.body.getD .skip) (by kernel_rfl) fun vs bs r hq hv hb=>?_
 unfold Ent.F LA at hq
 dsimp only at hq
 split at hq
 ·rename_i w p ws v b t x
  refine ⟨Ak _,Eq.trans ?_ hq⟩
  have e:Ax prog (Ab []) (Ab []) f103 [.agg [.j w,.s p,.sl WCd ws,.sl TCd v,.sl NTd b,.j t],.bx [.j x] 0] []=((some (V.b (w==x),[])):_):=by kernel_rfl
  exact e
 ·cases hq
theorem NG  (x:List UInt8) (l:List (Tp)) (r k i:Int):Av prog (Ab [(141,.rd1 Kg)]) (Ab [(2,OM)]) 1 (body f140 0) OM ([.sl TPd l,.fn 141 [] [.ptr 0 0],.j r,.j k,.j i],[some (.box [.s x])]) =
 ((ifB (decide (i<k)) (ifT (decide ((0:Int)<=i)&&decide (i<(↑l.length:Int))) (Ai l[i.toNat]? fun z=>ifB (z.fst==x) (some (Ex.ret,[V.j i],[some
 (Blk.box [V.s x])])) (some (Ex.normal,[V.sl TPd l,V.fn 141 [] [V.ptr 0 0],V.j r,V.j k,V.j (i64.wrap (i+(1:Int)))],
 [some (Blk.box [V.s x])])))) (some (Ex.exit 0,[],[some (Blk.box [V.s x])]))):_):=by kernel_rfl
theorem QD  (x:List UInt8) {l:List (Tp)} {r:Int} (hx:l.length<=maxI) : ∀ (j i:Nat),i+j=l.length->∀ e d',(.br (decide (Au (fun z:Tp=>z.1==x) i (l.drop i)<0)) (.leaf (.exit 0,([],[some (.box [.s x])]))) (.leaf (.ret,([.j (Au (fun z:Tp=>z.1==x) i (l.drop i))],[some (.box [.s x])]))):Br (Ex×Dt)).run=some (e,d')->
  Runs prog (Ab [(141,.rd1 Kg)]) (Ab [(2,OM)]) 1 (body f140 0) OM ([.sl TPd l,.fn 141 [] [.ptr 0 0],.j r,.j (l.length:Int),.j (i:Int)],[some (.box [.s x])]) e d'
 | 0,i,hi,e,d',h=>by
  have e1:l.drop i=[]:=drop_eq_nil_of_le (by omega)
  rw [e1,BB,Au,if_pos (by omega)] at h
  cases h
  have hr:=NG x l r l.length i
  rw [Ac (dcF (by omega))] at hr
  exact .stop _ _ _ hr (by simp)
 | j+1,i,hi,e,d',h=>by
  have h1:i<l.length:=by omega
  have hr:=NG x l r l.length i
  rw [Ag (dcT (by omega)),Aa (by simp only [anE,dcE]; omega)] at hr
  simp only [ntN,gtE h1,Am,Ap (n:=i) (by omega)] at hr
  rw [drop_eq_getElem_cons h1,BB,Au] at h
  by_cases he:(fun z:Tp=>z.1==x) l[i]=true
  ·rw [if_pos he,if_neg (by omega)] at h
   cases h
   rw [Ag he] at hr
   exact .stop _ _ _ hr (by simp)
  ·rw [if_neg he] at h
   rw [Ac (by simpa using he)] at hr
   exact .step _ _ _ _ hr (QD x hx j (i+1) (by omega) e d' (by rw [BB]; exact h))
theorem Adg  : Ar prog (Ab [(141,.rd1 Kg)]) (Ab [(2,OM)]) 1 (f140.body.getD .skip):=by
 refine An (a:=body f140 0) (by kernel_rfl) fun d e d' h=>?_
 unfold OM at h
 dsimp only at h
 split at h
 ·obtain ⟨hc,h'⟩:=Ad h
  obtain ⟨h0,h1,h2,rfl⟩:=of_decide_eq_true hc
  obtain ⟨i,rfl⟩:=eq_ofNat_of_zero_le h0
  exact QD _  h2 _ i (add_sub_of_le h1) e d' h'
 ·cases h
theorem ZZ  (x:List UInt8) (l:List (Tp)) (hx:l.length<=maxI):Ax prog (Ab [(141,.rd1 Kg)]) (Ab [(2,OM)]) f140 [.sl TPd l,.fn 141 [] [.ptr 0 0]] [.box [.s x]]=some (.j (Au (fun z:Tp=>z.1==x) 0 l),[some (.box [.s x])]):=by
 have e:Ax prog (Ab [(141,.rd1 Kg)]) (Ab [(2,OM)]) f140 [.sl TPd l,.fn 141 [] [.ptr 0 0]] [.box [.s x]] =
  ((ifT (decide ((0:Int)<=(0:Int)/\0<=l.length/\l.length<=maxI/\(↑l.length:Int)=(↑l.length:Int))) (ifB (decide (Au (fun z=>z.fst==x) 0
 (drop 0 l)<(0:Int))) (some (V.j (-1),[some (Blk.box [V.s x])])) (some (V.j (Au (fun z=>z.fst==x) 0 (drop 0 l)),
 [some (Blk.box [V.s x])])))):_):=by kernel_rfl
 rw [e,Aa (dcT ⟨by omega,by omega,hx,rfl⟩)]
 simp only [drop_zero]
 by_cases q:Au (fun z:Tp=>z.1==x) 0 l<0
 ·rw [Ag (dcT q),CP _ _ _ q]
 ·rw [Ac (dcF q)]
theorem ZY  : Af prog 140 (Ent.own TH).F:=by
 refine Ae (kc func141 TO KnowsL.nil).knows (Λ:=(Ab [(2,OM)])) func140 (c:=f140.body.getD .skip) (by kernel_rfl) fun vs bs r h hv hb=>?_
 unfold Ent.F TH at h
 dsimp only at h
 split at h
 ·rename_i l x
  have h':=h
  exact ⟨Adg ,(ZZ x l (hv (.sl TPd l) (by simp)).1).trans (by cases h'; rfl)⟩
 ·cases h
theorem NH  (x:Int) (l:List (Fa)) (r k i:Int):Av prog (Ab [(103,.rd1 LA)]) (Ab [(2,ON)]) 1 (body f102 0) ON ([.sl FNd l,.fn 103 [] [.ptr 0 0],.j r,.j k,.j i],[some (.box [.j x])]) =
 ((ifB (decide (i<k)) (ifT (decide ((0:Int)<=i)&&decide (i<(↑l.length:Int))) (Ai l[i.toNat]? fun z=>ifB (z.fst==x) (some (Ex.ret,[V.j i],[some
 (Blk.box [V.j x])])) (some (Ex.normal,[V.sl FNd l,V.fn 103 [] [V.ptr 0 0],V.j r,V.j k,V.j (i64.wrap (i+(1 :
 Int)))],[some (Blk.box [V.j x])])))) (some (Ex.exit 0,[],[some (Blk.box [V.j x])]))):_):=by kernel_rfl
theorem QG  (x:Int) {l:List (Fa)} {r:Int} (hx:l.length<=maxI) : ∀ (j i:Nat),i+j=l.length->∀ e d',(.br (decide (Au (fun z:Fa=>z.1==x) i (l.drop i)<0)) (.leaf (.exit 0,([],[some (.box [.j x])]))) (.leaf (.ret,([.j (Au (fun z:Fa=>z.1==x) i (l.drop i))],[some (.box [.j x])]))):Br (Ex×Dt)).run=some (e,d')->
  Runs prog (Ab [(103,.rd1 LA)]) (Ab [(2,ON)]) 1 (body f102 0) ON ([.sl FNd l,.fn 103 [] [.ptr 0 0],.j r,.j (l.length:Int),.j (i:Int)],[some (.box [.j x])]) e d'
 | 0,i,hi,e,d',h=>by
  have e1:l.drop i=[]:=drop_eq_nil_of_le (by omega)
  rw [e1,BB,Au,if_pos (by omega)] at h
  cases h
  have hr:=NH x l r l.length i
  rw [Ac (dcF (by omega))] at hr
  exact .stop _ _ _ hr (by simp)
 | j+1,i,hi,e,d',h=>by
  have h1:i<l.length:=by omega
  have hr:=NH x l r l.length i
  rw [Ag (dcT (by omega)),Aa (by simp only [anE,dcE]; omega)] at hr
  simp only [ntN,gtE h1,Am,Ap (n:=i) (by omega)] at hr
  rw [drop_eq_getElem_cons h1,BB,Au] at h
  by_cases he:(fun z:Fa=>z.1==x) l[i]=true
  ·rw [if_pos he,if_neg (by omega)] at h
   cases h
   rw [Ag he] at hr
   exact .stop _ _ _ hr (by simp)
  ·rw [if_neg he] at h
   rw [Ac (by simpa using he)] at hr
   exact .step _ _ _ _ hr (QG x hx j (i+1) (by omega) e d' (by rw [BB]; exact h))
theorem Adi  : Ar prog (Ab [(103,.rd1 LA)]) (Ab [(2,ON)]) 1 (f102.body.getD .skip):=by
 refine An (a:=body f102 0) (by kernel_rfl) fun d e d' h=>?_
 unfold ON at h
 dsimp only at h
 split at h
 ·obtain ⟨hc,h'⟩:=Ad h
  obtain ⟨h0,h1,h2,rfl⟩:=of_decide_eq_true hc
  obtain ⟨i,rfl⟩:=eq_ofNat_of_zero_le h0
  exact QG _  h2 _ i (add_sub_of_le h1) e d' h'
 ·cases h
theorem Aab  (x:Int) (l:List (Fa)) (hx:l.length<=maxI):Ax prog (Ab [(103,.rd1 LA)]) (Ab [(2,ON)]) f102 [.sl FNd l,.fn 103 [] [.ptr 0 0]] [.box [.j x]]=some (.j (Au (fun z:Fa=>z.1==x) 0 l),[some (.box [.j x])]):=by
 have e:Ax prog (Ab [(103,.rd1 LA)]) (Ab [(2,ON)]) f102 [.sl FNd l,.fn 103 [] [.ptr 0 0]] [.box [.j x]] =
  ((ifT (decide ((0:Int)<=(0:Int)/\0<=l.length/\l.length<=maxI/\(↑l.length:Int)=(↑l.length:Int))) (ifB (decide (Au (fun z=>z.fst==x) 0
 (drop 0 l)<(0:Int))) (some (V.j (-1),[some (Blk.box [V.j x])])) (some (V.j (Au (fun z=>z.fst==x) 0 (drop 0
 l)),[some (Blk.box [V.j x])])))):_):=by kernel_rfl
 rw [e,Aa (dcT ⟨by omega,by omega,hx,rfl⟩)]
 simp only [drop_zero]
 by_cases q:Au (fun z:Fa=>z.1==x) 0 l<0
 ·rw [Ag (dcT q),CP _ _ _ q]
 ·rw [Ac (dcF q)]
theorem Aaa  : Af prog 102 (Ent.own TK).F:=by
 refine Ae (kc func103 Ve KnowsL.nil).knows (Λ:=(Ab [(2,ON)])) func102 (c:=f102.body.getD .skip) (by kernel_rfl) fun vs bs r h hv hb=>?_
 unfold Ent.F TK at h
 dsimp only at h
 split at h
 ·rename_i l x
  have h':=h
  exact ⟨Adi ,(Aab x l (hv (.sl FNd l) (by simp)).1).trans (by cases h'; rfl)⟩
 ·cases h
theorem Sy (ts:List Tp) (fs:List Fa) (x:List UInt8):Ax prog (Ab [(140,.own TH)]) (Ab []) f104 [.bx [.sl TPd ts,.sl FNd fs] 0,.s x] []=some (.j (atT ts x),[]):=by
 have e:Ax prog (Ab [(140,.own TH)]) (Ab []) f104 [.bx [.sl TPd ts,.sl FNd fs] 0,.s x] []=((some (V.j (Au (fun z=>z.fst==x) 0 ts),[])):_):=by kernel_rfl
 exact e
theorem X7:Af prog 104 (Ent.rd1 NO).F:=by
 refine Ae (kc func140 ZY KnowsL.nil).knows (Λ:=Ab []) func104 (c:=f104.body.getD .skip) (by kernel_rfl) fun vs bs r hq hv hb=>?_
 unfold Ent.F NO at hq
 dsimp only at hq
 split at hq
 ·exact ⟨Ak _,(Sy _ _ _).trans hq⟩
 ·cases hq
theorem XI (ts:List Tp) (fs:List Fa) (x:Int):Ax prog (Ab [(102,.own TK)]) (Ab []) f65 [.bx [.sl TPd ts,.sl FNd fs] 0,.j x] []=some (.j (atW fs x),[]):=by
 have e:Ax prog (Ab [(102,.own TK)]) (Ab []) f65 [.bx [.sl TPd ts,.sl FNd fs] 0,.j x] []=((some (V.j (Au (fun z=>z.fst==x) 0 fs),[])):_):=by kernel_rfl
 exact e
theorem Afm:Af prog 65 (Ent.rd1 Ac7).F:=by
 refine Ae (kc func102 Aaa KnowsL.nil).knows (Λ:=Ab []) func65 (c:=f65.body.getD .skip) (by kernel_rfl) fun vs bs r hq hv hb=>?_
 unfold Ent.F Ac7 at hq
 dsimp only at hq
 split at hq
 ·exact ⟨Ak _,(XI _ _ _).trans hq⟩
 ·cases hq
theorem MG (x:List UInt8) (l:List Tp) (k i:Int):Av prog (Ab []) (Ab [(2,Pq)]) 0 (body f77 0) Pq ([.s x,.sl TPd l,.j k,.j i],[]) =
 ((ifB (decide (i<k)) (ifT (decide ((0:Int)<=i)&&decide (i<(↑l.length:Int))) (Ai l[i.toNat]? fun z=>ifB (z.fst==x) (some (Ex.ret,[V.j i],[])) (some
 (Ex.normal,[V.s x,V.sl TPd l,V.j k,V.j (i64.wrap (i+(1:Int)))],[])))) (some (Ex.exit 0,[],[]))):_):=by kernel_rfl
theorem W9 (ts:List Tp) (fs:List Fa) (x:List UInt8):Ax prog (Ab []) (Ab [(2,Pq)]) f77 [.agg [.sl TPd ts,.sl FNd fs],.s x] [] =
 ((ifT (decide ((0:Int)<=(0:Int)/\0<=ts.length/\(↑ts.length:Int)=(↑ts.length:Int)/\ts.length<=maxI)) (ifB (decide (Au (fun t=>t.fst==x) (0 :
 Nat) (drop 0 ts)<(0:Int))) (some (V.j (-1),[])) (some (V.j (Au (fun t=>t.fst==x) 0 (drop 0 ts)),[])))):_):=by kernel_rfl
theorem Pp (x:List UInt8) (l:List Tp) (hl:l.length<=maxI) : ∀ (j i:Nat),i+j=l.length->∀ ex d,(Br.br (decide (Au (fun t:Tp=>t.1==x) i (l.drop i)<0)) (.leaf (.exit 0,([],[]))) (.leaf (.ret,([.j (Au (fun t:Tp=>t.1==x) i (l.drop i))],[]))):Br (Ex×Dt)).run=some (ex,d)->Runs prog (Ab []) (Ab [(2,Pq)]) 0 (body f77 0) Pq ([.s x,.sl TPd l,.j (l.length:Int),.j (i:Int)],[]) ex d
 | 0,i,hi,ex,d,h=>by
  have hr:=MG x l l.length i
  rw [Ac (dcF (by omega))] at hr
  rw [drop_eq_nil_of_le (by omega),Au,IQ (dcT (by omega))] at h
  have h8:=Ao h
  obtain ⟨rfl,rfl⟩:=Prod.mk.inj h8
  exact .stop _ _ _ hr (by simp)
 | j+1,i,hi,ex,d,h=>by
  have hM:maxI=9223372036854775807:=rfl
  have hlt:i<l.length:=by omega
  have hr:=MG x l l.length i
  rw [Ag (dcT (by omega)),Aa (by simp only [anE,dcE]; omega),ntN,gtE hlt,Am,Ap (n:=i) (by omega)] at hr
  rw [drop_eq_getElem_cons hlt,Au] at h
  by_cases q:(l[i].1==x)=true
  ·rw [if_pos q,JH (dcF (by omega))] at h
   rw [Ag q] at hr
   have h8:=Ao h
   obtain ⟨rfl,rfl⟩:=Prod.mk.inj h8
   exact .stop _ _ _ hr (by simp)
  ·rw [if_neg q] at h
   rw [Ac (by simpa using q)] at hr
   exact .step _ _ _ _ hr (Pp x l hl j (i+1) (by omega) ex d h)
theorem Abn:Ar prog (Ab []) (Ab [(2,Pq)]) 0 (f77.body.getD .skip):=by
 refine An (a:=body f77 0) (by kernel_rfl) fun d ex d' h=>?_
 unfold Pq at h
 dsimp only at h
 split at h
 ·rename_i x l k i
  obtain ⟨hc,hx⟩:=Ad h
  obtain ⟨h0,h1,rfl,h2⟩:=of_decide_eq_true hc
  obtain ⟨i,rfl⟩:=eq_ofNat_of_zero_le h0
  simp only [ntN] at h1 hx
  exact Pp x l h2 (l.length-i) i (by omega) ex d' hx
 ·cases h
theorem sat:Af prog 77 (Ent.rd1 YN).F:=by
 refine Ae KnowsL.nil.knows (Λ:=(Ab [(2,Pq)])) func77 (c:=f77.body.getD .skip) (by kernel_rfl) fun vs bs r hq hv hb=>?_
 unfold Ent.F YN at hq
 dsimp only at hq
 split at hq
 ·rename_i ts fs x
  have hm:ts.length<=maxI:=(hv (.agg [.sl TPd ts,.sl FNd fs]) (by simp) (.sl TPd ts) (by simp)).1
  refine ⟨Abn,(W9 ts fs x).trans (Eq.trans ?_ hq)⟩
  show _=some (V.j (atT ts x),[])
  rw [Aa (dcT ⟨by omega,by omega,rfl,hm⟩),drop_zero]
  unfold atT
  by_cases q:Au (fun t:Tp=>t.1==x) 0 ts<0
  ·rw [Ag (dcT q),CP _ _ _ q]
  ·rw [Ac (dcF q)]
 ·cases hq
def HC:Nat->Nat->List UInt8->List UInt8
 | 0,_,acc=>acc
 | f+1,k,acc=>if k=0 then acc else HC f (k / 10) ((48+UInt8.ofNat (k % 10))::acc)
def Bn (k:Int):List UInt8:=if k<=0 then [109,48] else 109::HC (k.toNat+1) k.toNat []
def lim:Int:=1000000000000
def Cx:LoopEnt:=⟨20,[0,3],[3],[],fun
 | ([.i .i64 k,.s acc],[])=>
  .need (decide (0<=k/\k+acc.length<=lim)) (.leaf (.exit 0,([.s (HC (k.toNat+1) k.toNat acc)],[])))
 | _=>.no⟩
def A6:Gm
 | [.i .i64 k],[]=>.need (decide (k<=lim)) (.leaf (.s (Bn k),[]))
 | _,_=>.no
theorem MS : ∀ (f g k:Nat) (acc:List UInt8),k<f->k<g->HC f k acc=HC g k acc
 | 0,_,_,_,h,_=>by omega
 | _+1,0,_,_,_,h=>by omega
 | f+1,g+1,k,acc,h1,h2=>by
  simp only [HC]
  by_cases h:k=0
  ·simp [h]
  ·simp only [if_neg h]; exact MS f g (k / 10) _ (by omega) (by omega)
theorem PD : ∀ (f k:Nat) (acc:List UInt8),k<f->(HC f k acc).length<=k+acc.length
 | 0,_,acc,h=>by omega
 | f+1,k,acc,h=>by
  simp only [HC]; split
  ·omega
  ·have:=PD f (k / 10) ((48+UInt8.ofNat (k % 10))::acc) (by omega); simp only [length_cons] at this; omega
theorem Ld (n:Nat) (acc:List UInt8):Av prog (Ab []) (Ab [(4,Cx)]) 0 (body f71 0) Cx ([.j n,.s acc],[]) =
 ((ifB (decide ((↑n:Int)>(0:Int))) (ifT (decide (1+acc.length<=9223372036854775807)) (some (Ex.normal,[V.j (i64.wrap (((↑n:Int)).tdiv
 (10:Int))),V.s (List.map (fun n=>UInt8.ofNat n.toNat) (IntKind.u8.wrap (i64.wrap ((48:Int)+((↑n:Int)).tmod (10:Int)))::Aj (Cd.int .u8).den)++
 acc)],[]))) (some (Ex.exit 0,[V.s acc],[]))):_):=by kernel_rfl
theorem Mi (k:Int):Ax prog (Ab []) (Ab [(4,Cx)]) f71 [.j k] [] =
  ((ifB (decide (k<=(0:Int))) (some (V.s [(109:UInt8),(48:UInt8)],[])) (ifT (decide ((0:Int)<=k/\k+(↑(0:Nat):Int)<=lim)) (ifT (decide (1+(HC
 (k.toNat+1) k.toNat (Aj UInt8)).length<=9223372036854775807)) (some (V.s ([(109:UInt8)]++HC (k.toNat+1) k.toNat (Aj UInt8)),[]))))):_):=by kernel_rfl
theorem GG : ∀ (f n:Nat) (acc:List UInt8),n<f->(n:Int)+acc.length<=lim->
  Runs prog (Ab []) (Ab [(4,Cx)]) 0 (body f71 0) Cx ([.j n,.s acc],[]) (.exit 0) ([.s (HC (n+1) n acc)],[])
 | 0,_,_,h,_=>by omega
 | f+1,n,acc,h,hl=>by
  unfold lim at hl
  have hr:=Ld n acc
  by_cases h0:n=0
  ·subst h0
   exact .stop _ _ _ (hr.trans (by simp [HC])) (by simp)
  ·have e1:i64.wrap (((n:Int)).tdiv 10)=((n / 10:Nat):Int):=by
    rw [Int.tdiv_eq_ediv_of_nonneg (by omega),Aw (by omega) (by omega)]; rfl
   have e2:UInt8.ofNat (IntKind.u8.wrap (i64.wrap (48+((n:Int)).tmod 10))).toNat=48+UInt8.ofNat (n % 10):=by
    rw [Int.tmod_eq_emod_of_nonneg (by omega),Aw (by omega) (by omega)]
    have e3:IntKind.u8.wrap (48+(n:Int) % 10)=((48+n % 10:Nat):Int):=by
     unfold IntKind.wrap
     simp [IntKind.bits,IntKind.signed]
     omega
    rw [e3,ntN,UInt8.ofNat_add]; rfl
   have hr:=hr.trans (c:=some (Ex.normal,[V.j ((n / 10:Nat):Int),V.s ((48+UInt8.ofNat (n % 10))::acc)],[])) (by
    rw [Ag (by simp; omega),Aa (by simp; omega),e1]
    simp only [List.map_cons,List.map_nil,e2]; rfl)
   refine .step _ _ _ _ hr ?_
   have:=GG f (n / 10) ((48+UInt8.ofNat (n % 10))::acc) (by omega) (by unfold lim; simp only [length_cons]; omega)
   rw [MS (n / 10+1) n (n / 10) _ (by omega) (by omega)] at this
   simpa [HC,h0] using this
theorem PL:Ar prog (Ab []) (Ab [(4,Cx)]) 0 (f71.body.getD .skip):=by
 refine An (a:=body f71 0) (by kernel_rfl) fun d e d' h=>?_
 unfold Cx at h
 dsimp only at h
 split at h
 ·rename_i k acc
  obtain ⟨hc,h⟩:=Ad h
  have hc:=of_decide_eq_true hc
  obtain ⟨n,rfl⟩:=eq_ofNat_of_zero_le hc.1
  cases h
  exact GG (n+1) n acc (by omega) hc.2
 ·cases h
theorem O3 (k:Int) (hk:k<=lim):Ax prog (Ab []) (Ab [(4,Cx)]) f71 [.j k] []=some (.s (Bn k),[]):=by
 rw [Mi]
 unfold Bn
 unfold lim at hk
 by_cases h:k<=0
 ·simp [h]
 ·have h1:0<=k:=by omega
  have:=PD (k.toNat+1) k.toNat [] (by omega)
  simp at this
  simp [h,h1,lim,show k<=1000000000000 from hk,show 1+(HC (k.toNat+1) k.toNat []).length<=9223372036854775807 by omega]
theorem CI:Af prog 71 (Ent.rd1 A6).F:=by
 refine Ae (KnowsL.nil).knows (Λ:=Ab [(4,Cx)]) func71 (c:=f71.body.getD .skip) (by kernel_rfl) fun vs bs r h hv hb=>?_
 unfold Ent.F A6 at h
 dsimp only at h
 split at h
 ·rename_i k
  obtain ⟨hc,h⟩:=Ad h
  exact ⟨PL,(O3 k (of_decide_eq_true hc)).trans (by cases h; rfl)⟩
 ·cases h
def A4 {α:Type} (g:Int->α) (st:Int):Int->Nat->List α
 | _,0=>[]
 | k,n+1=>g k::A4 g st (k+st) n
theorem CG {α:Type} {l:List α} {p:Nat} {e:α} (h:p<l.length):(l.set p e).take (p+1)=l.take p++[e]:=by
 rw [List.take_add_one,List.getElem?_set_self h,List.take_set_of_le (Nat.le_refl p)]; rfl
theorem K2 {α:Type} {l:List α} {p q:Nat} {e:α} (h:p<q):(l.set p e).drop q=l.drop q:=drop_set_of_lt h
def A7 (k:Int):(Int×List UInt8×Int×Bool×Int×Int×Unit):=(k,Bn (k+1),k+2,(tmod (k+3) 3==0),k+4,k+5,())
def Cw:LoopEnt:=⟨58,[0,1,5],[1],[],fun
 | ([.ref 0 lo m,.i .i64 k,.i .i64 n],[some (.row false none TCd l)])=>
  .need (decide (0<=n/\n.toNat<=m/\lo+m<=l.length/\m<=maxI/\0<=k/\k+6*(↑(m-n.toNat):Int)<=lim))
   (.leaf (.exit 0,([.i .i64 (k+6*(↑(m-n.toNat):Int))],[some (.row false none TCd (l.take (lo+n.toNat)++A4 A7 6 k (m-n.toNat)++l.drop (lo+m)))])))
 | _=>.no⟩
def E0:Gm
 | [.ref 0 lo m,.i .i64 k],[.row false _ TCd l]=>
  .need (decide (lo+m<=l.length/\0<=k/\k+6*(↑m:Int)<=lim)) (.leaf (.i .i64 (k+6*(↑m:Int)),[some (.row false none TCd (l.take lo++A4 A7 6 k m++l.drop (lo+m)))]))
 | _,_=>.no
def AE (k:Int):(Int×Int×Int×List UInt8×Int×Int×Unit):=(k,k+1,k+2,Bn (k+3),k+4,k+5,())
def Cv:LoopEnt:=⟨56,[0,1,5],[1],[],fun
 | ([.ref 0 lo m,.i .i64 k,.i .i64 n],[some (.row false none WCd l)])=>
  .need (decide (0<=n/\n.toNat<=m/\lo+m<=l.length/\m<=maxI/\0<=k/\k+6*(↑(m-n.toNat):Int)<=lim))
   (.leaf (.exit 0,([.i .i64 (k+6*(↑(m-n.toNat):Int))],[some (.row false none WCd (l.take (lo+n.toNat)++A4 AE 6 k (m-n.toNat)++l.drop (lo+m)))])))
 | _=>.no⟩
def Gp:Gm
 | [.ref 0 lo m,.i .i64 k],[.row false _ WCd l]=>
  .need (decide (lo+m<=l.length/\0<=k/\k+6*(↑m:Int)<=lim)) (.leaf (.i .i64 (k+6*(↑m:Int)),[some (.row false none WCd (l.take lo++A4 AE 6 k m++l.drop (lo+m)))]))
 | _,_=>.no
def AQ (k:Int):(List UInt8×Int×List UInt8×Unit):=(Bn k,k+1,Bn (k+2),())
def Cy:LoopEnt:=⟨36,[0,1,5],[1],[],fun
 | ([.ref 0 lo m,.i .i64 k,.i .i64 n],[some (.row false none NTd l)])=>
  .need (decide (0<=n/\n.toNat<=m/\lo+m<=l.length/\m<=maxI/\0<=k/\k+3*(↑(m-n.toNat):Int)<=lim))
   (.leaf (.exit 0,([.i .i64 (k+3*(↑(m-n.toNat):Int))],[some (.row false none NTd (l.take (lo+n.toNat)++A4 AQ 3 k (m-n.toNat)++l.drop (lo+m)))])))
 | _=>.no⟩
def Gq:Gm
 | [.ref 0 lo m,.i .i64 k],[.row false _ NTd l]=>
  .need (decide (lo+m<=l.length/\0<=k/\k+3*(↑m:Int)<=lim)) (.leaf (.i .i64 (k+3*(↑m:Int)),[some (.row false none NTd (l.take lo++A4 AQ 3 k m++l.drop (lo+m)))]))
 | _,_=>.no
theorem FE (lo m:Nat) (k:Int) (l:List (Int×List UInt8×Int×Bool×Int×Int×Unit)) (n:Nat):Av prog (Ab [(71,.rd1 A6)]) (Ab [(2,Cw)]) 1 (body f92 0) Cw ([.ref 0 lo m,.j k,.j n],[some (.row false none TCd l)]) =
 ((ifB (decide ((↑n:Int)<(↑m:Int))) (ifT (decide ((0:Int)<=(↑n:Int))&&decide ((↑n:Int)<(↑m:Int))) (Ai l[lo+((↑n:Int)).toNat]? fun z=>ifT (decide
 (i64.wrap (k+(1:Int))<=lim)) (ifT (decide ((0:Int)<=(↑n:Int))&&decide ((↑n:Int)<(↑m:Int))) (Ai (l.set (lo+((↑n:Int)).toNat) (k,
 z.snd.fst,z.snd.snd.fst,z.snd.snd.snd.fst,z.snd.snd.snd.snd.fst,z.snd.snd.snd.snd.snd.fst,()))[lo+((↑n:Int)).toNat]? fun z_1=>ifT (decide ((0:Int)<=(↑n :
 Int))&&decide ((↑n:Int)<(↑m:Int))) (Ai ((l.set (lo+((↑n:Int)).toNat) (k,z.snd.fst,z.snd.snd.fst,z.snd.snd.snd.fst,z.snd.snd.snd.snd.fst,
 z.snd.snd.snd.snd.snd.fst,())).set (lo+((↑n:Int)).toNat) (z_1.fst,Bn (i64.wrap (k+(1:Int))),z_1.snd.snd.fst,z_1.snd.snd.snd.fst,
 z_1.snd.snd.snd.snd.fst,z_1.snd.snd.snd.snd.snd.fst,()))[lo+((↑n:Int)).toNat]? fun z_2=>ifT (decide ((0:Int)<=(↑n:Int))&&decide ((↑n:Int)<(↑m:Int)))
 (Ai (((l.set (lo+((↑n:Int)).toNat) (k,z.snd.fst,z.snd.snd.fst,z.snd.snd.snd.fst,z.snd.snd.snd.snd.fst,z.snd.snd.snd.snd.snd.fst,())).set (lo+((↑n :
 Int)).toNat) (z_1.fst,Bn (i64.wrap (k+(1:Int))),z_1.snd.snd.fst,z_1.snd.snd.snd.fst,z_1.snd.snd.snd.snd.fst,z_1.snd.snd.snd.snd.snd.fst,())).set (lo
 + ((↑n:Int)).toNat) (z_2.fst,z_2.snd.fst,i64.wrap (i64.wrap (k+(1:Int))+(1:Int)),z_2.snd.snd.snd.fst,z_2.snd.snd.snd.snd.fst,
 z_2.snd.snd.snd.snd.snd.fst,()))[lo+((↑n:Int)).toNat]? fun z_3=>ifT (decide ((0:Int)<=(↑n:Int))&&decide ((↑n:Int)<(↑m:Int))) (Ai ((((l.set (lo +
 ((↑n:Int)).toNat) (k,z.snd.fst,z.snd.snd.fst,z.snd.snd.snd.fst,z.snd.snd.snd.snd.fst,z.snd.snd.snd.snd.snd.fst,())).set (lo+((↑n:Int)).toNat) (z_1.fst,Bn
 (i64.wrap (k+(1:Int))),z_1.snd.snd.fst,z_1.snd.snd.snd.fst,z_1.snd.snd.snd.snd.fst,z_1.snd.snd.snd.snd.snd.fst,())).set (lo+((↑n:Int)).toNat)
 (z_2.fst,z_2.snd.fst,i64.wrap (i64.wrap (k+(1:Int))+(1:Int)),z_2.snd.snd.snd.fst,z_2.snd.snd.snd.snd.fst,z_2.snd.snd.snd.snd.snd.fst,
 ())).set (lo+((↑n:Int)).toNat) (z_3.fst,z_3.snd.fst,z_3.snd.snd.fst,(i64.wrap (i64.wrap (i64.wrap (k+(1:Int))+(1:Int))+(1 :
 Int))).tmod (3:Int)==(0:Int),z_3.snd.snd.snd.snd.fst,z_3.snd.snd.snd.snd.snd.fst,()))[lo+((↑n:Int)).toNat]? fun z_4=>ifT (decide ((0:Int)<=(↑n:Int))
 && decide ((↑n:Int)<(↑m:Int))) (Ai (((((l.set (lo+((↑n:Int)).toNat) (k,z.snd.fst,z.snd.snd.fst,z.snd.snd.snd.fst,z.snd.snd.snd.snd.fst,
 z.snd.snd.snd.snd.snd.fst,())).set (lo+((↑n:Int)).toNat) (z_1.fst,Bn (i64.wrap (k+(1:Int))),z_1.snd.snd.fst,z_1.snd.snd.snd.fst,
 z_1.snd.snd.snd.snd.fst,z_1.snd.snd.snd.snd.snd.fst,())).set (lo+((↑n:Int)).toNat) (z_2.fst,z_2.snd.fst,i64.wrap (i64.wrap (k+(1:Int))+(1 :
 Int)),z_2.snd.snd.snd.fst,z_2.snd.snd.snd.snd.fst,z_2.snd.snd.snd.snd.snd.fst,())).set (lo+((↑n:Int)).toNat) (z_3.fst,z_3.snd.fst,z_3.snd.snd.fst,
 (i64.wrap (i64.wrap (i64.wrap (k+(1:Int))+(1:Int))+(1:Int))).tmod (3:Int)==(0:Int),z_3.snd.snd.snd.snd.fst,
 z_3.snd.snd.snd.snd.snd.fst,())).set (lo+((↑n:Int)).toNat) (z_4.fst,z_4.snd.fst,z_4.snd.snd.fst,z_4.snd.snd.snd.fst,i64.wrap (i64.wrap
 (i64.wrap (i64.wrap (k+(1:Int))+(1:Int))+(1:Int))+(1:Int)),z_4.snd.snd.snd.snd.snd.fst,()))[lo+((↑n:Int)).toNat]? fun z_5=>some
 (Ex.normal,[V.ref 0 lo m,V.j (i64.wrap (i64.wrap (i64.wrap (i64.wrap (i64.wrap (i64.wrap (k+(1:Int)) +
 (1:Int))+(1:Int))+(1:Int))+(1:Int))+(1:Int))),V.j (i64.wrap ((↑n:Int)+(1:Int)))],[some (Blk.row false none TCd ((((((l.set (lo +
 ((↑n:Int)).toNat) (k,z.snd.fst,z.snd.snd.fst,z.snd.snd.snd.fst,z.snd.snd.snd.snd.fst,z.snd.snd.snd.snd.snd.fst,())).set (lo+((↑n:Int)).toNat) (z_1.fst,Bn
 (i64.wrap (k+(1:Int))),z_1.snd.snd.fst,z_1.snd.snd.snd.fst,z_1.snd.snd.snd.snd.fst,z_1.snd.snd.snd.snd.snd.fst,())).set (lo+((↑n:Int)).toNat)
 (z_2.fst,z_2.snd.fst,i64.wrap (i64.wrap (k+(1:Int))+(1:Int)),z_2.snd.snd.snd.fst,z_2.snd.snd.snd.snd.fst,z_2.snd.snd.snd.snd.snd.fst,
 ())).set (lo+((↑n:Int)).toNat) (z_3.fst,z_3.snd.fst,z_3.snd.snd.fst,(i64.wrap (i64.wrap (i64.wrap (k+(1:Int))+(1:Int))+(1 :
 Int))).tmod (3:Int)==(0:Int),z_3.snd.snd.snd.snd.fst,z_3.snd.snd.snd.snd.snd.fst,())).set (lo+((↑n:Int)).toNat) (z_4.fst,z_4.snd.fst,z_4.snd.snd.fst,
 z_4.snd.snd.snd.fst,i64.wrap (i64.wrap (i64.wrap (i64.wrap (k+(1:Int))+(1:Int))+(1:Int))+(1:Int)),
 z_4.snd.snd.snd.snd.snd.fst,())).set (lo+((↑n:Int)).toNat) (z_5.fst,z_5.snd.fst,z_5.snd.snd.fst,z_5.snd.snd.snd.fst,z_5.snd.snd.snd.snd.fst,i64.wrap
 (i64.wrap (i64.wrap (i64.wrap (i64.wrap (k+(1:Int))+(1:Int))+(1:Int))+(1:Int))+(1:Int)),())))]))))))))) (some
 (Ex.exit 0,[V.j k],[some (Blk.row false none TCd l)]))):_):=by kernel_rfl
theorem GF {lo m:Nat} (hm:m<=maxI) : ∀ (j n:Nat) (k:Int) (l:List (Int×List UInt8×Int×Bool×Int×Int×Unit)),n+j=m->lo+m<=l.length->0<=k->k+6*(j:Int)<=lim->
  Runs prog (Ab [(71,.rd1 A6)]) (Ab [(2,Cw)]) 1 (body f92 0) Cw ([.ref 0 lo m,.j k,.j n],[some (.row false none TCd l)]) (.exit 0) ([.j (k+6*(j:Int))],[some (.row false none TCd (l.take (lo+n)++A4 A7 6 k j++l.drop (lo+m)))])
 | 0,n,k,l,hn,hl,h0,hk=>by
  obtain rfl:n=m:=by omega
  refine .stop _ _ _ ((FE lo n k l n).trans ?_) (by simp)
  simp [A4]
 | j+1,n,k,l,hn,hl,h0,hk=>by
  have h1:n<m:=by omega
  have h2:lo+n<l.length:=by omega
  unfold lim at hk
  have hr:=FE lo m k l n
  have hw : ∀ i:Int,0<=i->i<=6->i64.wrap (k+i)=k+i:=fun i hi hi'=>Aw (by omega) (by omega)
  simp only [ntN,gtE h2,Ap (n:=n) (by omega)] at hr
  refine .step _ _ _ (d1:=([.ref 0 lo m,.j (k+6),.j ((n+1:Nat):Int)],[some (.row false none TCd (l.set (lo+n) (A7 k)))])) (hr.trans ?_) ?_
  ·simp [h1,h2,A7,lim,hw 1 (by omega) (by omega),hw 2 (by omega) (by omega),hw 3 (by omega) (by omega),hw 4 (by omega) (by omega),hw 5 (by omega) (by omega),hw 6 (by omega) (by omega),add_assoc,show k+1<=1000000000000 by omega]
  ·have:=GF hm j (n+1) (k+6) (l.set (lo+n) (A7 k)) (by omega) (by simp; omega) (by omega) (by unfold lim; push_cast at hk; omega)
   rw [show lo+(n+1)=lo+n+1 from rfl,CG h2,K2 (show lo+n<lo+m by omega)] at this
   have e:k+6+6*(j:Int)=k+6*((j+1:Nat):Int):=by push_cast; omega
   rw [e] at this
   simpa [A4] using this
theorem PK:Ar prog (Ab [(71,.rd1 A6)]) (Ab [(2,Cw)]) 1 (f92.body.getD .skip):=by
 refine An (a:=body f92 0) (by kernel_rfl) fun d e d' h=>?_
 unfold Cw at h
 dsimp only at h
 split at h
 ·rename_i lo m k n l
  obtain ⟨hc,h⟩:=Ad h
  have hc:=of_decide_eq_true hc
  obtain ⟨n,rfl⟩:=eq_ofNat_of_zero_le hc.1
  cases h
  exact GF hc.2.2.2.1 _ _ _ _ (add_sub_of_le hc.2.1) hc.2.2.1 hc.2.2.2.2.1 hc.2.2.2.2.2
 ·cases h
theorem O2 (lo m:Nat) (k:Int) (nl:Option Bool) (l:List (Int×List UInt8×Int×Bool×Int×Int×Unit)) (hm:m<=maxI) (hl:lo+m<=l.length) (h0:0<=k) (hk:k+6*(m:Int)<=lim):Ax prog (Ab [(71,.rd1 A6)]) (Ab [(2,Cw)]) f92 [.ref 0 lo m,.j k] [.row false nl TCd l] =
  some (.j (k+6*(m:Int)),[some (.row false none TCd (l.take lo++A4 A7 6 k m++l.drop (lo+m)))]):=by
 have e:Ax prog (Ab [(71,.rd1 A6)]) (Ab [(2,Cw)]) f92 [.ref 0 lo m,.j k] [.row false nl TCd l] =
  ((ifT (decide ((0:Int)<=(0:Int)/\0<=m/\lo+m<=l.length/\m<=maxI/\(0:Int)<=k/\k+(6:Int)*(↑(m-0):Int)<=lim)) (some (V.j (k +
 (6:Int)*(↑(m-0):Int)),[some (Blk.row false none TCd (take (lo+0) l++A4 A7 (6:Int) k (m-0)++drop (lo+m)
 l))]))):_):=by kernel_rfl
 rw [e,Aa (dcT ⟨by omega,by omega,hl,hm,h0,hk⟩)]
 rfl
theorem Lc:Af prog 92 (Ent.own E0).F:=by
 refine Ae (kc func71 CI (KnowsL.nil)).knows (Λ:=(Ab [(2,Cw)])) func92 (c:=f92.body.getD .skip) (by kernel_rfl) fun vs bs r h hv hb=>?_
 unfold Ent.F E0 at h
 dsimp only at h
 split at h
 ·rename_i lo m k nl l
  obtain ⟨hc,h⟩:=Ad h
  have hc:=of_decide_eq_true hc
  exact ⟨PK,(O2 lo m k nl l (hv (.ref 0 lo m) (by simp)) hc.1 hc.2.1 hc.2.2).trans (by cases h; rfl)⟩
 ·cases h
theorem FD (lo m:Nat) (k:Int) (l:List (Int×Int×Int×List UInt8×Int×Int×Unit)) (n:Nat):Av prog (Ab [(71,.rd1 A6)]) (Ab [(2,Cv)]) 1 (body f93 0) Cv ([.ref 0 lo m,.j k,.j n],[some (.row false none WCd l)]) =
 ((ifB (decide ((↑n:Int)<(↑m:Int))) (ifT (decide ((0:Int)<=(↑n:Int))&&decide ((↑n:Int)<(↑m:Int))) (Ai l[lo+((↑n:Int)).toNat]? fun z=>ifT (decide
 ((0:Int)<=(↑n:Int))&&decide ((↑n:Int)<(↑m:Int))) (Ai (l.set (lo+((↑n:Int)).toNat) (k,z.snd.fst,z.snd.snd.fst,z.snd.snd.snd.fst,
 z.snd.snd.snd.snd.fst,z.snd.snd.snd.snd.snd.fst,()))[lo+((↑n:Int)).toNat]? fun z_1=>ifT (decide ((0:Int)<=(↑n:Int))&&decide ((↑n:Int)<(↑m:Int)))
 (Ai ((l.set (lo+((↑n:Int)).toNat) (k,z.snd.fst,z.snd.snd.fst,z.snd.snd.snd.fst,z.snd.snd.snd.snd.fst,z.snd.snd.snd.snd.snd.fst,())).set (lo+((↑n :
 Int)).toNat) (z_1.fst,i64.wrap (k+(1:Int)),z_1.snd.snd.fst,z_1.snd.snd.snd.fst,z_1.snd.snd.snd.snd.fst,z_1.snd.snd.snd.snd.snd.fst,()))[lo+((↑n :
 Int)).toNat]? fun z_2=>ifT (decide (i64.wrap (i64.wrap (i64.wrap (k+(1:Int))+(1:Int))+(1:Int))<=lim)) (ifT (decide ((0:Int)<=(↑n
 : Int))&&decide ((↑n:Int)<(↑m:Int))) (Ai (((l.set (lo+((↑n:Int)).toNat) (k,z.snd.fst,z.snd.snd.fst,z.snd.snd.snd.fst,z.snd.snd.snd.snd.fst,
 z.snd.snd.snd.snd.snd.fst,())).set (lo+((↑n:Int)).toNat) (z_1.fst,i64.wrap (k+(1:Int)),z_1.snd.snd.fst,z_1.snd.snd.snd.fst,z_1.snd.snd.snd.snd.fst,
 z_1.snd.snd.snd.snd.snd.fst,())).set (lo+((↑n:Int)).toNat) (z_2.fst,z_2.snd.fst,i64.wrap (i64.wrap (k+(1:Int))+(1:Int)),
 z_2.snd.snd.snd.fst,z_2.snd.snd.snd.snd.fst,z_2.snd.snd.snd.snd.snd.fst,()))[lo+((↑n:Int)).toNat]? fun z_3=>ifT (decide ((0:Int)<=(↑n:Int))&&decide ((↑n :
 Int)<(↑m:Int))) (Ai ((((l.set (lo+((↑n:Int)).toNat) (k,z.snd.fst,z.snd.snd.fst,z.snd.snd.snd.fst,z.snd.snd.snd.snd.fst,z.snd.snd.snd.snd.snd.fst,
 ())).set (lo+((↑n:Int)).toNat) (z_1.fst,i64.wrap (k+(1:Int)),z_1.snd.snd.fst,z_1.snd.snd.snd.fst,z_1.snd.snd.snd.snd.fst,z_1.snd.snd.snd.snd.snd.fst,
 ())).set (lo+((↑n:Int)).toNat) (z_2.fst,z_2.snd.fst,i64.wrap (i64.wrap (k+(1:Int))+(1:Int)),z_2.snd.snd.snd.fst,z_2.snd.snd.snd.snd.fst,
 z_2.snd.snd.snd.snd.snd.fst,())).set (lo+((↑n:Int)).toNat) (z_3.fst,z_3.snd.fst,z_3.snd.snd.fst,Bn (i64.wrap (i64.wrap (i64.wrap (k +
 (1:Int))+(1:Int))+(1:Int))),z_3.snd.snd.snd.snd.fst,z_3.snd.snd.snd.snd.snd.fst,()))[lo+((↑n:Int)).toNat]? fun z_4=>ifT (decide ((0:Int)<=(↑n :
 Int))&&decide ((↑n:Int)<(↑m:Int))) (Ai (((((l.set (lo+((↑n:Int)).toNat) (k,z.snd.fst,z.snd.snd.fst,z.snd.snd.snd.fst,z.snd.snd.snd.snd.fst,
 z.snd.snd.snd.snd.snd.fst,())).set (lo+((↑n:Int)).toNat) (z_1.fst,i64.wrap (k+(1:Int)),z_1.snd.snd.fst,z_1.snd.snd.snd.fst,z_1.snd.snd.snd.snd.fst,
 z_1.snd.snd.snd.snd.snd.fst,())).set (lo+((↑n:Int)).toNat) (z_2.fst,z_2.snd.fst,i64.wrap (i64.wrap (k+(1:Int))+(1:Int)),
 z_2.snd.snd.snd.fst,z_2.snd.snd.snd.snd.fst,z_2.snd.snd.snd.snd.snd.fst,())).set (lo+((↑n:Int)).toNat) (z_3.fst,z_3.snd.fst,z_3.snd.snd.fst,Bn
 (i64.wrap (i64.wrap (i64.wrap (k+(1:Int))+(1:Int))+(1:Int))),z_3.snd.snd.snd.snd.fst,z_3.snd.snd.snd.snd.snd.fst,())).set (lo +
 ((↑n:Int)).toNat) (z_4.fst,z_4.snd.fst,z_4.snd.snd.fst,z_4.snd.snd.snd.fst,i64.wrap (i64.wrap (i64.wrap (i64.wrap (k+(1:Int)) +
 (1:Int))+(1:Int))+(1:Int)),z_4.snd.snd.snd.snd.snd.fst,()))[lo+((↑n:Int)).toNat]? fun z_5=>some (Ex.normal,[V.ref 0 lo m,V.i .i64
 (i64.wrap (i64.wrap (i64.wrap (i64.wrap (i64.wrap (i64.wrap (k+(1:Int))+(1:Int))+(1:Int))+(1:Int))+(1 :
 Int))+(1:Int))),V.j (i64.wrap ((↑n:Int)+(1:Int)))],[some (Blk.row false none WCd ((((((l.set (lo+((↑n:Int)).toNat) (k,z.snd.fst,
 z.snd.snd.fst,z.snd.snd.snd.fst,z.snd.snd.snd.snd.fst,z.snd.snd.snd.snd.snd.fst,())).set (lo+((↑n:Int)).toNat) (z_1.fst,i64.wrap (k+(1:Int)),
 z_1.snd.snd.fst,z_1.snd.snd.snd.fst,z_1.snd.snd.snd.snd.fst,z_1.snd.snd.snd.snd.snd.fst,())).set (lo+((↑n:Int)).toNat) (z_2.fst,z_2.snd.fst,i64.wrap
 (i64.wrap (k+(1:Int))+(1:Int)),z_2.snd.snd.snd.fst,z_2.snd.snd.snd.snd.fst,z_2.snd.snd.snd.snd.snd.fst,())).set (lo+((↑n:Int)).toNat) (z_3.fst,
 z_3.snd.fst,z_3.snd.snd.fst,Bn (i64.wrap (i64.wrap (i64.wrap (k+(1:Int))+(1:Int))+(1:Int))),z_3.snd.snd.snd.snd.fst,
 z_3.snd.snd.snd.snd.snd.fst,())).set (lo+((↑n:Int)).toNat) (z_4.fst,z_4.snd.fst,z_4.snd.snd.fst,z_4.snd.snd.snd.fst,i64.wrap (i64.wrap
 (i64.wrap (i64.wrap (k+(1:Int))+(1:Int))+(1:Int))+(1:Int)),z_4.snd.snd.snd.snd.snd.fst,())).set (lo+((↑n:Int)).toNat) (z_5.fst,
 z_5.snd.fst,z_5.snd.snd.fst,z_5.snd.snd.snd.fst,z_5.snd.snd.snd.snd.fst,i64.wrap (i64.wrap (i64.wrap (i64.wrap (i64.wrap (k +
 (1:Int))+(1:Int))+(1:Int))+(1:Int))+(1:Int)),())))]))))))))) (some (Ex.exit 0,[V.j k],[some (Blk.row false none WCd l)]))):_):=by kernel_rfl
theorem GE {lo m:Nat} (hm:m<=maxI) : ∀ (j n:Nat) (k:Int) (l:List (Int×Int×Int×List UInt8×Int×Int×Unit)),n+j=m->lo+m<=l.length->0<=k->k+6*(j:Int)<=lim->
  Runs prog (Ab [(71,.rd1 A6)]) (Ab [(2,Cv)]) 1 (body f93 0) Cv ([.ref 0 lo m,.j k,.j n],[some (.row false none WCd l)]) (.exit 0) ([.j (k+6*(j:Int))],[some (.row false none WCd (l.take (lo+n)++A4 AE 6 k j++l.drop (lo+m)))])
 | 0,n,k,l,hn,hl,h0,hk=>by
  obtain rfl:n=m:=by omega
  refine .stop _ _ _ ((FD lo n k l n).trans ?_) (by simp)
  simp [A4]
 | j+1,n,k,l,hn,hl,h0,hk=>by
  have h1:n<m:=by omega
  have h2:lo+n<l.length:=by omega
  unfold lim at hk
  have hr:=FD lo m k l n
  have hw : ∀ i:Int,0<=i->i<=6->i64.wrap (k+i)=k+i:=fun i hi hi'=>Aw (by omega) (by omega)
  simp only [ntN,gtE h2,Ap (n:=n) (by omega)] at hr
  refine .step _ _ _ (d1:=([.ref 0 lo m,.j (k+6),.j ((n+1:Nat):Int)],[some (.row false none WCd (l.set (lo+n) (AE k)))])) (hr.trans ?_) ?_
  ·simp [h1,h2,AE,lim,hw 1 (by omega) (by omega),hw 2 (by omega) (by omega),hw 3 (by omega) (by omega),hw 4 (by omega) (by omega),hw 5 (by omega) (by omega),hw 6 (by omega) (by omega),add_assoc,show k+3<=1000000000000 by omega]
  ·have:=GE hm j (n+1) (k+6) (l.set (lo+n) (AE k)) (by omega) (by simp; omega) (by omega) (by unfold lim; push_cast at hk; omega)
   rw [show lo+(n+1)=lo+n+1 from rfl,CG h2,K2 (show lo+n<lo+m by omega)] at this
   have e:k+6+6*(j:Int)=k+6*((j+1:Nat):Int):=by push_cast; omega
   rw [e] at this
   simpa [A4] using this
theorem PI:Ar prog (Ab [(71,.rd1 A6)]) (Ab [(2,Cv)]) 1 (f93.body.getD .skip):=by
 refine An (a:=body f93 0) (by kernel_rfl) fun d e d' h=>?_
 unfold Cv at h
 dsimp only at h
 split at h
 ·rename_i lo m k n l
  obtain ⟨hc,h⟩:=Ad h
  have hc:=of_decide_eq_true hc
  obtain ⟨n,rfl⟩:=eq_ofNat_of_zero_le hc.1
  cases h
  exact GE hc.2.2.2.1 _ _ _ _ (add_sub_of_le hc.2.1) hc.2.2.1 hc.2.2.2.2.1 hc.2.2.2.2.2
 ·cases h
theorem O1 (lo m:Nat) (k:Int) (nl:Option Bool) (l:List (Int×Int×Int×List UInt8×Int×Int×Unit)) (hm:m<=maxI) (hl:lo+m<=l.length) (h0:0<=k) (hk:k+6*(m:Int)<=lim):Ax prog (Ab [(71,.rd1 A6)]) (Ab [(2,Cv)]) f93 [.ref 0 lo m,.j k] [.row false nl WCd l] =
  some (.j (k+6*(m:Int)),[some (.row false none WCd (l.take lo++A4 AE 6 k m++l.drop (lo+m)))]):=by
 have e:Ax prog (Ab [(71,.rd1 A6)]) (Ab [(2,Cv)]) f93 [.ref 0 lo m,.j k] [.row false nl WCd l] =
  ((ifT (decide ((0:Int)<=(0:Int)/\0<=m/\lo+m<=l.length/\m<=maxI/\(0:Int)<=k/\k+(6:Int)*(↑(m-0):Int)<=lim)) (some (V.j (k +
 (6:Int)*(↑(m-0):Int)),[some (Blk.row false none WCd (take (lo+0) l++A4 AE (6:Int) k (m-0)++drop (lo+m)
 l))]))):_):=by kernel_rfl
 rw [e,Aa (dcT ⟨by omega,by omega,hl,hm,h0,hk⟩)]
 rfl
theorem PJ:Af prog 93 (Ent.own Gp).F:=by
 refine Ae (kc func71 CI (KnowsL.nil)).knows (Λ:=(Ab [(2,Cv)])) func93 (c:=f93.body.getD .skip) (by kernel_rfl) fun vs bs r h hv hb=>?_
 unfold Ent.F Gp at h
 dsimp only at h
 split at h
 ·rename_i lo m k nl l
  obtain ⟨hc,h⟩:=Ad h
  have hc:=of_decide_eq_true hc
  exact ⟨PI,(O1 lo m k nl l (hv (.ref 0 lo m) (by simp)) hc.1 hc.2.1 hc.2.2).trans (by cases h; rfl)⟩
 ·cases h
theorem FF (lo m:Nat) (k:Int) (l:List (List UInt8×Int×List UInt8×Unit)) (n:Nat):Av prog (Ab [(71,.rd1 A6)]) (Ab [(2,Cy)]) 1 (body f59 0) Cy ([.ref 0 lo m,.j k,.j n],[some (.row false none NTd l)]) =
 ((ifB (decide ((↑n:Int)<(↑m:Int))) (ifT (decide (k<=lim)) (ifT (decide ((0:Int)<=(↑n:Int))&&decide ((↑n:Int)<(↑m:Int))) (Ai l[lo+((↑n :
 Int)).toNat]? fun z=>ifT (decide ((0:Int)<=(↑n:Int))&&decide ((↑n:Int)<(↑m:Int))) (Ai (l.set (lo+((↑n:Int)).toNat) (Bn k,z.snd.fst,
 z.snd.snd.fst,()))[lo+((↑n:Int)).toNat]? fun z_1=>ifT (decide (i64.wrap (i64.wrap (k+(1:Int))+(1:Int))<=lim)) (ifT (decide ((0:Int)<=
 (↑n:Int))&&decide ((↑n:Int)<(↑m:Int))) (Ai ((l.set (lo+((↑n:Int)).toNat) (Bn k,z.snd.fst,z.snd.snd.fst,())).set (lo+((↑n:Int)).toNat)
 (z_1.fst,i64.wrap (k+(1:Int)),z_1.snd.snd.fst,()))[lo+((↑n:Int)).toNat]? fun z_2=>some (Ex.normal,[V.ref 0 lo m,V.j (i64.wrap
 (i64.wrap (i64.wrap (k+(1:Int))+(1:Int))+(1:Int))),V.j (i64.wrap ((↑n:Int)+(1:Int)))],[some (Blk.row false none NTd
 (((l.set (lo+((↑n:Int)).toNat) (Bn k,z.snd.fst,z.snd.snd.fst,())).set (lo+((↑n:Int)).toNat) (z_1.fst,i64.wrap (k+(1:Int)),z_1.snd.snd.fst,
 ())).set (lo+((↑n:Int)).toNat) (z_2.fst,z_2.snd.fst,Bn (i64.wrap (i64.wrap (k+(1:Int))+(1:Int))),())))]))))))) (some (Ex.exit 0,[V.i
 .i64 k],[some (Blk.row false none NTd l)]))):_):=by kernel_rfl
theorem GH {lo m:Nat} (hm:m<=maxI) : ∀ (j n:Nat) (k:Int) (l:List (List UInt8×Int×List UInt8×Unit)),n+j=m->lo+m<=l.length->0<=k->k+3*(j:Int)<=lim->
  Runs prog (Ab [(71,.rd1 A6)]) (Ab [(2,Cy)]) 1 (body f59 0) Cy ([.ref 0 lo m,.j k,.j n],[some (.row false none NTd l)]) (.exit 0) ([.j (k+3*(j:Int))],[some (.row false none NTd (l.take (lo+n)++A4 AQ 3 k j++l.drop (lo+m)))])
 | 0,n,k,l,hn,hl,h0,hk=>by
  obtain rfl:n=m:=by omega
  refine .stop _ _ _ ((FF lo n k l n).trans ?_) (by simp)
  simp [A4]
 | j+1,n,k,l,hn,hl,h0,hk=>by
  have h1:n<m:=by omega
  have h2:lo+n<l.length:=by omega
  unfold lim at hk
  have hr:=FF lo m k l n
  have hw : ∀ i:Int,0<=i->i<=3->i64.wrap (k+i)=k+i:=fun i hi hi'=>Aw (by omega) (by omega)
  simp only [ntN,gtE h2,Ap (n:=n) (by omega)] at hr
  refine .step _ _ _ (d1:=([.ref 0 lo m,.j (k+3),.j ((n+1:Nat):Int)],[some (.row false none NTd (l.set (lo+n) (AQ k)))])) (hr.trans ?_) ?_
  ·simp [h1,h2,AQ,lim,hw 1 (by omega) (by omega),hw 2 (by omega) (by omega),hw 3 (by omega) (by omega),add_assoc,show k<=1000000000000 by omega,show k+2<=1000000000000 by omega]
  ·have:=GH hm j (n+1) (k+3) (l.set (lo+n) (AQ k)) (by omega) (by simp; omega) (by omega) (by unfold lim; push_cast at hk; omega)
   rw [show lo+(n+1)=lo+n+1 from rfl,CG h2,K2 (show lo+n<lo+m by omega)] at this
   have e:k+3+3*(j:Int)=k+3*((j+1:Nat):Int):=by push_cast; omega
   rw [e] at this
   simpa [A4] using this
theorem PM:Ar prog (Ab [(71,.rd1 A6)]) (Ab [(2,Cy)]) 1 (f59.body.getD .skip):=by
 refine An (a:=body f59 0) (by kernel_rfl) fun d e d' h=>?_
 unfold Cy at h
 dsimp only at h
 split at h
 ·rename_i lo m k n l
  obtain ⟨hc,h⟩:=Ad h
  have hc:=of_decide_eq_true hc
  obtain ⟨n,rfl⟩:=eq_ofNat_of_zero_le hc.1
  cases h
  exact GH hc.2.2.2.1 _ _ _ _ (add_sub_of_le hc.2.1) hc.2.2.1 hc.2.2.2.2.1 hc.2.2.2.2.2
 ·cases h
theorem O4 (lo m:Nat) (k:Int) (nl:Option Bool) (l:List (List UInt8×Int×List UInt8×Unit)) (hm:m<=maxI) (hl:lo+m<=l.length) (h0:0<=k) (hk:k+3*(m:Int)<=lim):Ax prog (Ab [(71,.rd1 A6)]) (Ab [(2,Cy)]) f59 [.ref 0 lo m,.j k] [.row false nl NTd l] =
  some (.j (k+3*(m:Int)),[some (.row false none NTd (l.take lo++A4 AQ 3 k m++l.drop (lo+m)))]):=by
 have e:Ax prog (Ab [(71,.rd1 A6)]) (Ab [(2,Cy)]) f59 [.ref 0 lo m,.j k] [.row false nl NTd l] =
  ((ifT (decide ((0:Int)<=(0:Int)/\0<=m/\lo+m<=l.length/\m<=maxI/\(0:Int)<=k/\k+(3:Int)*(↑(m-0):Int)<=lim)) (some (V.j (k +
 (3:Int)*(↑(m-0):Int)),[some (Blk.row false none NTd (take (lo+0) l++A4 AQ (3:Int) k (m-0)++drop (lo+m)
 l))]))):_):=by kernel_rfl
 rw [e,Aa (dcT ⟨by omega,by omega,hl,hm,h0,hk⟩)]
 rfl
theorem PN:Af prog 59 (Ent.own Gq).F:=by
 refine Ae (kc func71 CI (KnowsL.nil)).knows (Λ:=(Ab [(2,Cy)])) func59 (c:=f59.body.getD .skip) (by kernel_rfl) fun vs bs r h hv hb=>?_
 unfold Ent.F Gq at h
 dsimp only at h
 split at h
 ·rename_i lo m k nl l
  obtain ⟨hc,h⟩:=Ad h
  have hc:=of_decide_eq_true hc
  exact ⟨PM,(O4 lo m k nl l (hv (.ref 0 lo m) (by simp)) hc.1 hc.2.1 hc.2.2).trans (by cases h; rfl)⟩
 ·cases h


instance dqType4:DecidableEq (Int×Int×Unit):=inferInstance
instance dqType3:DecidableEq (Bool×Int×Int×Unit):=inferInstance
instance dqType2:DecidableEq (Int×Bool×Int×Int×Unit):=inferInstance
instance dqType1:DecidableEq (List UInt8×Int×Bool×Int×Int×Unit):=inferInstance
instance dqType0:DecidableEq (Int×List UInt8×Int×Bool×Int×Int×Unit):=inferInstance
instance dqWant4:DecidableEq (Int×Int×Unit):=inferInstance
instance dqWant3:DecidableEq (List UInt8×Int×Int×Unit):=inferInstance
instance dqWant2:DecidableEq (Int×List UInt8×Int×Int×Unit):=inferInstance
instance dqWant1:DecidableEq (Int×Int×List UInt8×Int×Int×Unit):=inferInstance
instance dqWant0:DecidableEq (Int×Int×Int×List UInt8×Int×Int×Unit):=inferInstance
def EW (a b:List (Int×List UInt8×Int×Bool×Int×Int×Unit)):Bool:=decide (a=b)
def C3:LoopEnt:=⟨70,[0,1,4,5],[1,4],[4],fun
 | ([.sl TCd l,.i .i64 k,.i .i64 r,.i .i64 n],[])=>
  .need (decide (0<=n/\n.toNat<=l.length/\l.length<=maxI/\0<=k/\k+6*(↑(l.length-n.toNat):Int)<=lim))
   (.br (EW (l.drop n.toNat) (A4 A7 6 k (l.length-n.toNat))) (.leaf (.exit 0,([.i .i64 (k+6*(↑(l.length-n.toNat):Int)),.i .i64 r],[]))) (.leaf (.ret,([.i .i64 (-1)],[]))))
 | _=>.no⟩
def Gs:Gm
 | [.sl TCd l,.i .i64 k],[]=>
  .need (decide (0<=k/\k+6*(↑l.length:Int)<=lim)) (.br (EW l (A4 A7 6 k l.length)) (.leaf (.i .i64 (k+6*(↑l.length:Int)),[])) (.leaf (.i .i64 (-1),[])))
 | _,_=>.no
def I7 (a b:List (Int×Int×Int×List UInt8×Int×Int×Unit)):Bool:=decide (a=b)
def C0:LoopEnt:=⟨68,[0,1,4,5],[1,4],[4],fun
 | ([.sl WCd l,.i .i64 k,.i .i64 r,.i .i64 n],[])=>
  .need (decide (0<=n/\n.toNat<=l.length/\l.length<=maxI/\0<=k/\k+6*(↑(l.length-n.toNat):Int)<=lim))
   (.br (I7 (l.drop n.toNat) (A4 AE 6 k (l.length-n.toNat))) (.leaf (.exit 0,([.i .i64 (k+6*(↑(l.length-n.toNat):Int)),.i .i64 r],[]))) (.leaf (.ret,([.i .i64 (-1)],[]))))
 | _=>.no⟩
def I8:Gm
 | [.sl WCd l,.i .i64 k],[]=>
  .need (decide (0<=k/\k+6*(↑l.length:Int)<=lim)) (.br (I7 l (A4 AE 6 k l.length)) (.leaf (.i .i64 (k+6*(↑l.length:Int)),[])) (.leaf (.i .i64 (-1),[])))
 | _,_=>.no
def C4:LoopEnt:=⟨42,[0,1,4,5],[1,4],[4],fun
 | ([.sl NTd l,.i .i64 k,.i .i64 r,.i .i64 n],[])=>
  .need (decide (0<=n/\n.toNat<=l.length/\l.length<=maxI/\0<=k/\k+3*(↑(l.length-n.toNat):Int)<=lim))
   (.br (decide (l.drop n.toNat=A4 AQ 3 k (l.length-n.toNat))) (.leaf (.exit 0,([.i .i64 (k+3*(↑(l.length-n.toNat):Int)),.i .i64 r],[]))) (.leaf (.ret,([.i .i64 (-1)],[]))))
 | _=>.no⟩
def I9:Gm
 | [.sl NTd l,.i .i64 k],[]=>
  .need (decide (0<=k/\k+3*(↑l.length:Int)<=lim)) (.br (decide (l=A4 AQ 3 k l.length)) (.leaf (.i .i64 (k+3*(↑l.length:Int)),[])) (.leaf (.i .i64 (-1),[])))
 | _,_=>.no
theorem FN (k:Int) (r:Int) (l:List (Int×List UInt8×Int×Bool×Int×Int×Unit)) (n:Nat):Av prog (Ab [(71,.rd1 A6)]) (Ab [(2,C3)]) 0 (body f94 0) C3 ([.sl TCd l,.j k,.j r,.j n],[]) =
 ((ifB (decide ((↑n:Int)<(↑l.length:Int))) (ifT (decide ((0:Int)<=(↑n:Int))&&decide ((↑n:Int)<(↑l.length:Int))) (Ai l[((↑n:Int)).toNat]? fun z=>ifB
 (z.fst != k) (some (Ex.ret,[V.j (-1)],[])) (ifT (decide ((0:Int)<=(↑n:Int))&&decide ((↑n:Int)<(↑l.length:Int))) (Ai l[((↑n:Int)).toNat]? fun z
 => ifT (decide (i64.wrap (k+(1:Int))<=lim)) (ifB (!z.snd.fst==Bn (i64.wrap (k+(1:Int)))) (some (Ex.ret,[V.j (-1)],[])) (ifT (decide
 ((0:Int)<=(↑n:Int))&&decide ((↑n:Int)<(↑l.length:Int))) (Ai l[((↑n:Int)).toNat]? fun z=>ifB (z.snd.snd.fst != i64.wrap (i64.wrap (k +
 (1:Int))+(1:Int))) (some (Ex.ret,[V.j (-1)],[])) (ifT (decide ((0:Int)<=(↑n:Int))&&decide ((↑n:Int)<(↑l.length:Int))) (Ai l[((↑n :
 Int)).toNat]? fun z=>ifB (!z.snd.snd.snd.fst==((i64.wrap (i64.wrap (i64.wrap (k+(1:Int))+(1:Int))+(1:Int))).tmod (3:Int)==(0 :
 Int))) (some (Ex.ret,[V.j (-1)],[])) (ifT (decide ((0:Int)<=(↑n:Int))&&decide ((↑n:Int)<(↑l.length:Int))) (Ai l[((↑n:Int)).toNat]? fun z=>ifB
 (z.snd.snd.snd.snd.fst != i64.wrap (i64.wrap (i64.wrap (i64.wrap (k+(1:Int))+(1:Int))+(1:Int))+(1:Int))) (some (Ex.ret,
 [V.j (-1)],[])) (ifT (decide ((0:Int)<=(↑n:Int))&&decide ((↑n:Int)<(↑l.length:Int))) (Ai l[((↑n:Int)).toNat]? fun z=>ifB
 (z.snd.snd.snd.snd.snd.fst != i64.wrap (i64.wrap (i64.wrap (i64.wrap (i64.wrap (k+(1:Int))+(1:Int))+(1:Int))+(1 :
 Int))+(1:Int))) (some (Ex.ret,[V.j (-1)],[])) (some (Ex.normal,[V.sl TCd l,V.j (i64.wrap (i64.wrap (i64.wrap (i64.wrap
 (i64.wrap (i64.wrap (k+(1:Int))+(1:Int))+(1:Int))+(1:Int))+(1:Int))+(1:Int))),V.j r,V.j (i64.wrap ((↑n:Int)
 + (1:Int)))],[]))))))))))))))) (some (Ex.exit 0,[V.j k,V.j r],[]))):_):=by kernel_rfl
theorem GL {r:Int} {l:List (Int×List UInt8×Int×Bool×Int×Int×Unit)} (hm:l.length<=maxI) : ∀ (j n:Nat) (k:Int),n+j=l.length->0<=k->k+6*(j:Int)<=lim->
  Runs prog (Ab [(71,.rd1 A6)]) (Ab [(2,C3)]) 0 (body f94 0) C3 ([.sl TCd l,.j k,.j r,.j n],[]) (if l.drop n=A4 A7 6 k j then .exit 0 else .ret) (if l.drop n=A4 A7 6 k j then [.j (k+6*(j:Int)),.j r] else [.j (-1)],[])
 | 0,n,k,hn,h0,hk=>by
  have e1:l.drop n=[]:=drop_eq_nil_of_le (by omega)
  refine .stop _ _ _ ((FN k r l n).trans ?_) (by simp [e1,A4])
  simp [e1,A4,show ¬n<l.length by omega]
 | j+1,n,k,hn,h0,hk=>by
  have h1:n<l.length:=by omega
  unfold lim at hk
  have hr:=FN k r l n
  have hw : ∀ i:Int,0<=i->i<=6->i64.wrap (k+i)=k+i:=fun i hi hi'=>Aw (by omega) (by omega)
  simp only [ntN,gtE h1,Ap (n:=n) (by omega)] at hr
  have hd:(l.drop n=A4 A7 6 k (j+1))=(l[n]=A7 k/\l.drop (n+1)=A4 A7 6 (k+6) j):=by rw [drop_eq_getElem_cons h1,A4,List.cons.injEq]
  have hs:(i64.wrap (k+1)=k+1):=hw 1 (by omega) (by omega)
  by_cases he:l[n]=A7 k
  ·refine .step _ _ _ (d1:=([.sl TCd l,.j (k+6),.j r,.j ((n+1:Nat):Int)],[])) (hr.trans ?_) ?_
   ·simp [h1,he,A7,lim,hw 1 (by omega) (by omega),hw 2 (by omega) (by omega),hw 3 (by omega) (by omega),hw 4 (by omega) (by omega),hw 5 (by omega) (by omega),hw 6 (by omega) (by omega),add_assoc,show k+1<=1000000000000 by omega]
   ·have:=GL (r:=r) hm j (n+1) (k+6) (by omega) (by omega) (by unfold lim; push_cast at hk; omega)
    have e:k+6+6*(j:Int)=k+6*((j+1:Nat):Int):=by push_cast; omega
    rw [e] at this
    simp only [hd,he,true_and]
    exact this
  ·refine .stop _ _ _ (hr.trans ?_) (by simp [hd,he])
   simp only [hd,he,false_and,if_false]
   by_cases q0:l[n].1=k<;>by_cases q1:l[n].2.1=Bn (k+1)<;>by_cases q2:l[n].2.2.1=k+2<;>by_cases q3:l[n].2.2.2.1=(tmod (k+3) 3==0)<;>by_cases q4:l[n].2.2.2.2.1=k+4<;>by_cases q5:l[n].2.2.2.2.2.1=k+5<;>first | exact (he (Prod.ext q0 (Prod.ext q1 (Prod.ext q2 (Prod.ext q3 (Prod.ext q4 (Prod.ext q5 rfl))))))).elim | simp [h1,q0,q1,q2,q3,q4,q5,lim,hw 1 (by omega) (by omega),hw 2 (by omega) (by omega),hw 3 (by omega) (by omega),hw 4 (by omega) (by omega),hw 5 (by omega) (by omega),hw 6 (by omega) (by omega),add_assoc,show k+1<=1000000000000 by omega]
theorem Qk:Ar prog (Ab [(71,.rd1 A6)]) (Ab [(2,C3)]) 0 (f94.body.getD .skip):=by
 refine An (a:=body f94 0) (by kernel_rfl) fun d e d' h=>?_
 unfold C3 at h
 dsimp only at h
 split at h
 ·rename_i l k r n
  obtain ⟨hc,h⟩:=Ad h
  have hc:=of_decide_eq_true hc
  obtain ⟨n,rfl⟩:=eq_ofNat_of_zero_le hc.1
  have:=GL (r:=r) hc.2.2.1 _ n k (add_sub_of_le hc.2.1) hc.2.2.2.1 hc.2.2.2.2
  rcases DK h with ⟨h1,h⟩ | ⟨h1,h⟩
  ·have h1:=of_decide_eq_true h1
   simp only [ntN] at h1 h
   cases h
   rw [if_pos h1,if_pos h1] at this; exact this
  ·have h1:=of_decide_eq_false h1
   simp only [ntN] at h1 h
   cases h
   rw [if_neg h1,if_neg h1] at this; exact this
 ·cases h
theorem OD (l:List (Int×List UInt8×Int×Bool×Int×Int×Unit)) (k:Int) (hm:l.length<=maxI) (h0:0<=k) (hk:k+6*(l.length:Int)<=lim):Ax prog (Ab [(71,.rd1 A6)]) (Ab [(2,C3)]) f94 [.sl TCd l,.j k] [] =
  if l=A4 A7 6 k l.length then some (.j (k+6*(l.length:Int)),[]) else some (.j (-1),[]):=by
 have e:Ax prog (Ab [(71,.rd1 A6)]) (Ab [(2,C3)]) f94 [.sl TCd l,.j k] [] =
  ((ifT (decide ((0:Int)<=(0:Int)/\0<=l.length/\l.length<=maxI/\(0:Int)<=k/\k+(6:Int)*(↑(l.length-0):Int)<=lim)) (ifB (EW
 (drop 0 l) (A4 A7 (6:Int) k (l.length-0))) (some (V.j (k+(6:Int)*(↑(l.length-0):Int)),[])) (some (V.i .i64
 (-1),[])))):_):=by kernel_rfl
 rw [e,Aa (dcT ⟨by omega,by omega,hm,h0,hk⟩)]
 show ifB (decide (l=A4 A7 6 k l.length)) _ _=_
 rw [Ly]
 rfl
theorem Ql:Af prog 94 (Ent.rd1 Gs).F:=by
 refine Ae (kc func71 CI (KnowsL.nil)).knows (Λ:=(Ab [(2,C3)])) func94 (c:=f94.body.getD .skip) (by kernel_rfl) fun vs bs r h hv hb=>?_
 unfold Ent.F Gs at h
 dsimp only at h
 split at h
 ·rename_i l k
  obtain ⟨hc,h⟩:=Ad h
  have hc:=of_decide_eq_true hc
  refine ⟨Qk,(OD l k (hv (.sl TCd l) (by simp)).1 hc.1 hc.2).trans ?_⟩
  rcases DK h with ⟨h1,h⟩ | ⟨h1,h⟩
  ·rw [if_pos (of_decide_eq_true h1)]; exact h
  ·rw [if_neg (of_decide_eq_false h1)]; exact h
 ·cases h
theorem FM (k:Int) (r:Int) (l:List (Int×Int×Int×List UInt8×Int×Int×Unit)) (n:Nat):Av prog (Ab [(71,.rd1 A6)]) (Ab [(2,C0)]) 0 (body f95 0) C0 ([.sl WCd l,.j k,.j r,.j n],[]) =
 ((ifB (decide ((↑n:Int)<(↑l.length:Int))) (ifT (decide ((0:Int)<=(↑n:Int))&&decide ((↑n:Int)<(↑l.length:Int))) (Ai l[((↑n:Int)).toNat]? fun z=>ifB
 (z.fst != k) (some (Ex.ret,[V.j (-1)],[])) (ifT (decide ((0:Int)<=(↑n:Int))&&decide ((↑n:Int)<(↑l.length:Int))) (Ai l[((↑n:Int)).toNat]? fun z
 => ifB (z.snd.fst != i64.wrap (k+(1:Int))) (some (Ex.ret,[V.j (-1)],[])) (ifT (decide ((0:Int)<=(↑n:Int))&&decide ((↑n:Int)<(↑l.length :
 Int))) (Ai l[((↑n:Int)).toNat]? fun z=>ifB (z.snd.snd.fst != i64.wrap (i64.wrap (k+(1:Int))+(1:Int))) (some (Ex.ret,[V.j (-1)],[]))
 (ifT (decide ((0:Int)<=(↑n:Int))&&decide ((↑n:Int)<(↑l.length:Int))) (Ai l[((↑n:Int)).toNat]? fun z=>ifT (decide (i64.wrap (i64.wrap
 (i64.wrap (k+(1:Int))+(1:Int))+(1:Int))<=lim)) (ifB (!z.snd.snd.snd.fst==Bn (i64.wrap (i64.wrap (i64.wrap (k+(1 :
 Int))+(1:Int))+(1:Int)))) (some (Ex.ret,[V.j (-1)],[])) (ifT (decide ((0:Int)<=(↑n:Int))&&decide ((↑n:Int)<(↑l.length:Int))) (Ai l[((↑n :
 Int)).toNat]? fun z=>ifB (z.snd.snd.snd.snd.fst != i64.wrap (i64.wrap (i64.wrap (i64.wrap (k+(1:Int))+(1:Int))+(1:Int))+(1
 : Int))) (some (Ex.ret,[V.j (-1)],[])) (ifT (decide ((0:Int)<=(↑n:Int))&&decide ((↑n:Int)<(↑l.length:Int))) (Ai l[((↑n:Int)).toNat]? fun z=>
 ifB (z.snd.snd.snd.snd.snd.fst != i64.wrap (i64.wrap (i64.wrap (i64.wrap (i64.wrap (k+(1:Int))+(1:Int))+(1:Int))+(1
 : Int))+(1:Int))) (some (Ex.ret,[V.j (-1)],[])) (some (Ex.normal,[V.sl WCd l,V.j (i64.wrap (i64.wrap (i64.wrap (i64.wrap
 (i64.wrap (i64.wrap (k+(1:Int))+(1:Int))+(1:Int))+(1:Int))+(1:Int))+(1:Int))),V.j r,V.j (i64.wrap ((↑n:Int)
 + (1:Int)))],[]))))))))))))))) (some (Ex.exit 0,[V.j k,V.j r],[]))):_):=by kernel_rfl
theorem GK {r:Int} {l:List (Int×Int×Int×List UInt8×Int×Int×Unit)} (hm:l.length<=maxI) : ∀ (j n:Nat) (k:Int),n+j=l.length->0<=k->k+6*(j:Int)<=lim->
  Runs prog (Ab [(71,.rd1 A6)]) (Ab [(2,C0)]) 0 (body f95 0) C0 ([.sl WCd l,.j k,.j r,.j n],[]) (if l.drop n=A4 AE 6 k j then .exit 0 else .ret) (if l.drop n=A4 AE 6 k j then [.j (k+6*(j:Int)),.j r] else [.j (-1)],[])
 | 0,n,k,hn,h0,hk=>by
  have e1:l.drop n=[]:=drop_eq_nil_of_le (by omega)
  refine .stop _ _ _ ((FM k r l n).trans ?_) (by simp [e1,A4])
  simp [e1,A4,show ¬n<l.length by omega]
 | j+1,n,k,hn,h0,hk=>by
  have h1:n<l.length:=by omega
  unfold lim at hk
  have hr:=FM k r l n
  have hw : ∀ i:Int,0<=i->i<=6->i64.wrap (k+i)=k+i:=fun i hi hi'=>Aw (by omega) (by omega)
  simp only [ntN,gtE h1,Ap (n:=n) (by omega)] at hr
  have hd:(l.drop n=A4 AE 6 k (j+1))=(l[n]=AE k/\l.drop (n+1)=A4 AE 6 (k+6) j):=by rw [drop_eq_getElem_cons h1,A4,List.cons.injEq]
  have hs:(i64.wrap (k+1)=k+1):=hw 1 (by omega) (by omega)
  by_cases he:l[n]=AE k
  ·refine .step _ _ _ (d1:=([.sl WCd l,.j (k+6),.j r,.j ((n+1:Nat):Int)],[])) (hr.trans ?_) ?_
   ·simp [h1,he,AE,lim,hw 1 (by omega) (by omega),hw 2 (by omega) (by omega),hw 3 (by omega) (by omega),hw 4 (by omega) (by omega),hw 5 (by omega) (by omega),hw 6 (by omega) (by omega),add_assoc,show k+3<=1000000000000 by omega]
   ·have:=GK (r:=r) hm j (n+1) (k+6) (by omega) (by omega) (by unfold lim; push_cast at hk; omega)
    have e:k+6+6*(j:Int)=k+6*((j+1:Nat):Int):=by push_cast; omega
    rw [e] at this
    simp only [hd,he,true_and]
    exact this
  ·refine .stop _ _ _ (hr.trans ?_) (by simp [hd,he])
   simp only [hd,he,false_and,if_false]
   by_cases q0:l[n].1=k<;>by_cases q1:l[n].2.1=k+1<;>by_cases q2:l[n].2.2.1=k+2<;>by_cases q3:l[n].2.2.2.1=Bn (k+3)<;>by_cases q4:l[n].2.2.2.2.1=k+4<;>by_cases q5:l[n].2.2.2.2.2.1=k+5<;>first | exact (he (Prod.ext q0 (Prod.ext q1 (Prod.ext q2 (Prod.ext q3 (Prod.ext q4 (Prod.ext q5 rfl))))))).elim | simp [h1,q0,q1,q2,q3,q4,q5,lim,hw 1 (by omega) (by omega),hw 2 (by omega) (by omega),hw 3 (by omega) (by omega),hw 4 (by omega) (by omega),hw 5 (by omega) (by omega),hw 6 (by omega) (by omega),add_assoc,show k+3<=1000000000000 by omega]
theorem Qj:Ar prog (Ab [(71,.rd1 A6)]) (Ab [(2,C0)]) 0 (f95.body.getD .skip):=by
 refine An (a:=body f95 0) (by kernel_rfl) fun d e d' h=>?_
 unfold C0 at h
 dsimp only at h
 split at h
 ·rename_i l k r n
  obtain ⟨hc,h⟩:=Ad h
  have hc:=of_decide_eq_true hc
  obtain ⟨n,rfl⟩:=eq_ofNat_of_zero_le hc.1
  have:=GK (r:=r) hc.2.2.1 _ n k (add_sub_of_le hc.2.1) hc.2.2.2.1 hc.2.2.2.2
  rcases DK h with ⟨h1,h⟩ | ⟨h1,h⟩
  ·have h1:=of_decide_eq_true h1
   simp only [ntN] at h1 h
   cases h
   rw [if_pos h1,if_pos h1] at this; exact this
  ·have h1:=of_decide_eq_false h1
   simp only [ntN] at h1 h
   cases h
   rw [if_neg h1,if_neg h1] at this; exact this
 ·cases h
theorem OC (l:List (Int×Int×Int×List UInt8×Int×Int×Unit)) (k:Int) (hm:l.length<=maxI) (h0:0<=k) (hk:k+6*(l.length:Int)<=lim):Ax prog (Ab [(71,.rd1 A6)]) (Ab [(2,C0)]) f95 [.sl WCd l,.j k] [] =
  if l=A4 AE 6 k l.length then some (.j (k+6*(l.length:Int)),[]) else some (.j (-1),[]):=by
 have e:Ax prog (Ab [(71,.rd1 A6)]) (Ab [(2,C0)]) f95 [.sl WCd l,.j k] [] =
  ((ifT (decide ((0:Int)<=(0:Int)/\0<=l.length/\l.length<=maxI/\(0:Int)<=k/\k+(6:Int)*(↑(l.length-0):Int)<=lim)) (ifB (I7
 (drop 0 l) (A4 AE (6:Int) k (l.length-0))) (some (V.j (k+(6:Int)*(↑(l.length-0):Int)),[])) (some (V.i .i64
 (-1),[])))):_):=by kernel_rfl
 rw [e,Aa (dcT ⟨by omega,by omega,hm,h0,hk⟩)]
 show ifB (decide (l=A4 AE 6 k l.length)) _ _=_
 rw [Ly]
 rfl
theorem XM:Af prog 95 (Ent.rd1 I8).F:=by
 refine Ae (kc func71 CI (KnowsL.nil)).knows (Λ:=(Ab [(2,C0)])) func95 (c:=f95.body.getD .skip) (by kernel_rfl) fun vs bs r h hv hb=>?_
 unfold Ent.F I8 at h
 dsimp only at h
 split at h
 ·rename_i l k
  obtain ⟨hc,h⟩:=Ad h
  have hc:=of_decide_eq_true hc
  refine ⟨Qj,(OC l k (hv (.sl WCd l) (by simp)).1 hc.1 hc.2).trans ?_⟩
  rcases DK h with ⟨h1,h⟩ | ⟨h1,h⟩
  ·rw [if_pos (of_decide_eq_true h1)]; exact h
  ·rw [if_neg (of_decide_eq_false h1)]; exact h
 ·cases h
theorem FO (k:Int) (r:Int) (l:List (List UInt8×Int×List UInt8×Unit)) (n:Nat):Av prog (Ab [(71,.rd1 A6)]) (Ab [(2,C4)]) 0 (body f96 0) C4 ([.sl NTd l,.j k,.j r,.j n],[]) =
 ((ifB (decide ((↑n:Int)<(↑l.length:Int))) (ifT (decide ((0:Int)<=(↑n:Int))&&decide ((↑n:Int)<(↑l.length:Int))) (Ai l[((↑n:Int)).toNat]? fun z=>ifT
 (decide (k<=lim)) (ifB (!z.fst==Bn k) (some (Ex.ret,[V.j (-1)],[])) (ifT (decide ((0:Int)<=(↑n:Int))&&decide ((↑n:Int)<(↑l.length:Int))) (Ai
 l[((↑n:Int)).toNat]? fun z=>ifB (z.snd.fst != i64.wrap (k+(1:Int))) (some (Ex.ret,[V.j (-1)],[])) (ifT (decide ((0:Int)<=(↑n:Int))&&decide
 ((↑n:Int)<(↑l.length:Int))) (Ai l[((↑n:Int)).toNat]? fun z=>ifT (decide (i64.wrap (i64.wrap (k+(1:Int))+(1:Int))<=lim)) (ifB
 (!z.snd.snd.fst==Bn (i64.wrap (i64.wrap (k+(1:Int))+(1:Int)))) (some (Ex.ret,[V.j (-1)],[])) (some (Ex.normal,[V.sl NTd l,V.i .i64
 (i64.wrap (i64.wrap (i64.wrap (k+(1:Int))+(1:Int))+(1:Int))),V.j r,V.j (i64.wrap ((↑n:Int)+(1:Int)))],
 [])))))))))) (some (Ex.exit 0,[V.j k,V.j r],[]))):_):=by kernel_rfl
theorem GM {r:Int} {l:List (List UInt8×Int×List UInt8×Unit)} (hm:l.length<=maxI) : ∀ (j n:Nat) (k:Int),n+j=l.length->0<=k->k+3*(j:Int)<=lim->
  Runs prog (Ab [(71,.rd1 A6)]) (Ab [(2,C4)]) 0 (body f96 0) C4 ([.sl NTd l,.j k,.j r,.j n],[]) (if l.drop n=A4 AQ 3 k j then .exit 0 else .ret) (if l.drop n=A4 AQ 3 k j then [.j (k+3*(j:Int)),.j r] else [.j (-1)],[])
 | 0,n,k,hn,h0,hk=>by
  have e1:l.drop n=[]:=drop_eq_nil_of_le (by omega)
  refine .stop _ _ _ ((FO k r l n).trans ?_) (by simp [e1,A4])
  simp [e1,A4,show ¬n<l.length by omega]
 | j+1,n,k,hn,h0,hk=>by
  have h1:n<l.length:=by omega
  unfold lim at hk
  have hr:=FO k r l n
  have hw : ∀ i:Int,0<=i->i<=3->i64.wrap (k+i)=k+i:=fun i hi hi'=>Aw (by omega) (by omega)
  simp only [ntN,gtE h1,Ap (n:=n) (by omega)] at hr
  have hd:(l.drop n=A4 AQ 3 k (j+1))=(l[n]=AQ k/\l.drop (n+1)=A4 AQ 3 (k+3) j):=by rw [drop_eq_getElem_cons h1,A4,List.cons.injEq]
  have hs:(i64.wrap (k+1)=k+1):=hw 1 (by omega) (by omega)
  by_cases he:l[n]=AQ k
  ·refine .step _ _ _ (d1:=([.sl NTd l,.j (k+3),.j r,.j ((n+1:Nat):Int)],[])) (hr.trans ?_) ?_
   ·simp [h1,he,AQ,lim,hw 1 (by omega) (by omega),hw 2 (by omega) (by omega),hw 3 (by omega) (by omega),add_assoc,show k<=1000000000000 by omega,show k+2<=1000000000000 by omega]
   ·have:=GM (r:=r) hm j (n+1) (k+3) (by omega) (by omega) (by unfold lim; push_cast at hk; omega)
    have e:k+3+3*(j:Int)=k+3*((j+1:Nat):Int):=by push_cast; omega
    rw [e] at this
    simp only [hd,he,true_and]
    exact this
  ·refine .stop _ _ _ (hr.trans ?_) (by simp [hd,he])
   simp only [hd,he,false_and,if_false]
   by_cases q0:l[n].1=Bn k<;>by_cases q1:l[n].2.1=k+1<;>by_cases q2:l[n].2.2.1=Bn (k+2)<;>first | exact (he (Prod.ext q0 (Prod.ext q1 (Prod.ext q2 rfl)))).elim | simp [h1,q0,q1,q2,lim,hw 1 (by omega) (by omega),hw 2 (by omega) (by omega),hw 3 (by omega) (by omega),add_assoc,show k<=1000000000000 by omega,show k+2<=1000000000000 by omega]
theorem Qm:Ar prog (Ab [(71,.rd1 A6)]) (Ab [(2,C4)]) 0 (f96.body.getD .skip):=by
 refine An (a:=body f96 0) (by kernel_rfl) fun d e d' h=>?_
 unfold C4 at h
 dsimp only at h
 split at h
 ·rename_i l k r n
  obtain ⟨hc,h⟩:=Ad h
  have hc:=of_decide_eq_true hc
  obtain ⟨n,rfl⟩:=eq_ofNat_of_zero_le hc.1
  have:=GM (r:=r) hc.2.2.1 _ n k (add_sub_of_le hc.2.1) hc.2.2.2.1 hc.2.2.2.2
  rcases DK h with ⟨h1,h⟩ | ⟨h1,h⟩
  ·have h1:=of_decide_eq_true h1
   simp only [ntN] at h1 h
   cases h
   rw [if_pos h1,if_pos h1] at this; exact this
  ·have h1:=of_decide_eq_false h1
   simp only [ntN] at h1 h
   cases h
   rw [if_neg h1,if_neg h1] at this; exact this
 ·cases h
theorem OE (l:List (List UInt8×Int×List UInt8×Unit)) (k:Int) (hm:l.length<=maxI) (h0:0<=k) (hk:k+3*(l.length:Int)<=lim):Ax prog (Ab [(71,.rd1 A6)]) (Ab [(2,C4)]) f96 [.sl NTd l,.j k] [] =
  if l=A4 AQ 3 k l.length then some (.j (k+3*(l.length:Int)),[]) else some (.j (-1),[]):=by
 have e:Ax prog (Ab [(71,.rd1 A6)]) (Ab [(2,C4)]) f96 [.sl NTd l,.j k] [] =
  ((ifT (decide ((0:Int)<=(0:Int)/\0<=l.length/\l.length<=maxI/\(0:Int)<=k/\k+(3:Int)*(↑(l.length-0):Int)<=lim)) (ifB (decide
 (drop 0 l=A4 AQ (3:Int) k (l.length-0))) (some (V.j (k+(3:Int)*(↑(l.length-0):Int)),[])) (some (V.i .i64
 (-1),[])))):_):=by kernel_rfl
 rw [e,Aa (dcT ⟨by omega,by omega,hm,h0,hk⟩),Ly]
 rfl
theorem XN:Af prog 96 (Ent.rd1 I9).F:=by
 refine Ae (kc func71 CI (KnowsL.nil)).knows (Λ:=(Ab [(2,C4)])) func96 (c:=f96.body.getD .skip) (by kernel_rfl) fun vs bs r h hv hb=>?_
 unfold Ent.F I9 at h
 dsimp only at h
 split at h
 ·rename_i l k
  obtain ⟨hc,h⟩:=Ad h
  have hc:=of_decide_eq_true hc
  refine ⟨Qm,(OE l k (hv (.sl NTd l) (by simp)).1 hc.1 hc.2).trans ?_⟩
  rcases DK h with ⟨h1,h⟩ | ⟨h1,h⟩
  ·rw [if_pos (of_decide_eq_true h1)]; exact h
  ·rw [if_neg (of_decide_eq_false h1)]; exact h
 ·cases h
def mkL {α:Type} (g:Int->α->α) (w:α->Int):Int->List α->List α
 | _,[]=>[]
 | k,x::l=>g k x::mkL g w (k+w x) l
def AM {α:Type} (w:α->Int):List α->Int
 | []=>0
 | x::l=>w x+AM w l
def AR (t:Tp):Int:=2+6*(t.2.1.1.length:Int)
def D3 (k:Int) (t:Tp):Tp:=(Bn k,(A4 A7 6 (k+1) t.2.1.1.length,()),k+1+6*(t.2.1.1.length:Int),())
def Bl (f:Fa):Int:=3+6*(f.2.2.1.1.length:Int)+6*(f.2.2.2.1.1.length:Int)+3*(f.2.2.2.2.1.length:Int)
def D4 (k:Int) (f:Fa):Fa:=(k,Bn (k+1),(A4 AE 6 (k+2) f.2.2.1.1.length,()),(A4 A7 6 (k+2+6*(f.2.2.1.1.length:Int)) f.2.2.2.1.1.length,()),A4 AQ 3 (k+2+6*(f.2.2.1.1.length:Int)+6*(f.2.2.2.1.1.length:Int)) f.2.2.2.2.1.length,k+2+6*(f.2.2.1.1.length:Int)+6*(f.2.2.2.1.1.length:Int)+3*(f.2.2.2.2.1.length:Int),())
def FB:LoopEnt:=⟨36,[0,1,5],[1],[],fun
 | ([.ref 0 0 m,.i .i64 k,.i .i64 n],[some (.drow TPd l none)])=>.need (decide (0<=n/\n.toNat<=l.length/\m=l.length/\m<=maxI/\0<=k/\k+AM AR (l.drop n.toNat)<=lim)) (.leaf (.exit 0,([.i .i64 (k+AM AR (l.drop n.toNat))],[some (.drow TPd (l.take n.toNat++mkL D3 AR k (l.drop n.toNat)) none)])))
 | _=>.no⟩
def RT:Gm
 | [.ref 0 0 m,.i .i64 k],[.drow TPd l none]=>.need (decide (m=l.length/\0<=k/\k+AM AR l<=lim)) (.leaf (.i .i64 (k+AM AR l),[some (.drow TPd (mkL D3 AR k l) none)]))
 | _,_=>.no
def FC:LoopEnt:=⟨58,[0,1,5],[1],[],fun
 | ([.ref 0 0 m,.i .i64 k,.i .i64 n],[some (.drow FNd l none)])=>.need (decide (0<=n/\n.toNat<=l.length/\m=l.length/\m<=maxI/\0<=k/\k+AM Bl (l.drop n.toNat)<=lim)) (.leaf (.exit 0,([.i .i64 (k+AM Bl (l.drop n.toNat))],[some (.drow FNd (l.take n.toNat++mkL D4 Bl k (l.drop n.toNat)) none)])))
 | _=>.no⟩
def RZ:Gm
 | [.ref 0 0 m,.i .i64 k],[.drow FNd l none]=>.need (decide (m=l.length/\0<=k/\k+AM Bl l<=lim)) (.leaf (.i .i64 (k+AM Bl l),[some (.drow FNd (mkL D4 Bl k l) none)]))
 | _,_=>.no
theorem BK {α:Type} {w:α->Int} {l:List α} {n:Nat} (h:n<l.length):AM w (l.drop n)=w l[n]+AM w (l.drop (n+1)):=by rw [drop_eq_getElem_cons h]; rfl
theorem PF {α:Type} {g:Int->α->α} {w:α->Int} {k:Int} {l:List α} {n:Nat} (h:n<l.length):mkL g w k (l.drop n)=g k l[n]::mkL g w (k+w l[n]) (l.drop (n+1)):=by rw [drop_eq_getElem_cons h]; rfl
theorem DW {α:Type} {w:α->Int} (hw : ∀ x,0<=w x) : ∀ l:List α,0<=AM w l
 | []=>Int.le_refl 0
 | x::l=>by have:=hw x; have:=DW hw l; simp only [AM]; omega
theorem JQ {α:Type} {g:Int->α->α} {w:α->Int} : ∀ (k:Int) (l:List α),(mkL g w k l).length=l.length
 | _,[]=>rfl
 | k,x::l=>by simp only [mkL,length_cons,JQ]
theorem Cu {α:Type} {g:Int->α} {st:Int} : ∀ (k:Int) (n:Nat),(A4 g st k n).length=n
 | _,0=>rfl
 | k,n+1=>by simp only [A4,length_cons,Cu]
abbrev Aaj:FuncId->Option Ent:=Ab [(71,.rd1 A6),(92,.own E0)]
theorem Jk (m:Nat) (k n:Int) (l:List Tp):Av prog Aaj (Ab [(2,FB)]) 1 (body f55 0) FB ([.ref 0 0 m,.j k,.j n],[some (.drow TPd l none)]) =
 ((ifB (decide (n<(↑m:Int))) (ifT (decide (k<=lim)) (ifT (decide ((0:Int)<=n)&&decide (n<(↑m:Int))) (Ai l[0+n.toNat]? fun z=>ifT (decide ((0 :
 Int)<=n)&&decide (n<(↑m:Int))) (Ai (l.set (0+n.toNat) (Bn k,(z.snd.fst.fst,()),z.snd.snd.fst,()))[0+n.toNat]? fun z_1=>ifT (decide
 (0+List.length z_1.snd.fst.fst<=List.length z_1.snd.fst.fst/\(0:Int)<=i64.wrap (k+(1:Int))/\i64.wrap (k+(1:Int))+(6:Int) *
 (↑(List.length z_1.snd.fst.fst):Int)<=lim)) (ifT (decide ((0:Int)<=n)&&decide (n<(↑m:Int))) (Ai ((l.set (0+n.toNat) (Bn k,(z.snd.fst.fst,
 ()),z.snd.snd.fst,())).set (0+n.toNat) (z_1.fst,(take (List.length z_1.snd.fst.fst) (drop 0 (Aj TCd.den++A4 A7 (6:Int)
 (i64.wrap (k+(1:Int))) (List.length z_1.snd.fst.fst)++drop (0+List.length z_1.snd.fst.fst) z_1.snd.fst.fst)),()),z_1.snd.snd.fst,()))[(0 :
 Nat)+n.toNat]? fun z_2=>some (Ex.normal,[V.ref 0 0 m,V.j (i64.wrap (i64.wrap (k+(1:Int))+(6:Int)*(↑(List.length z_1.snd.fst.fst) :
 Int)+(1:Int))),V.j (i64.wrap (n+(1:Int)))],[some (Blk.drow TPd (((l.set (0+n.toNat) (Bn k,(z.snd.fst.fst,()),z.snd.snd.fst,
 ())).set (0+n.toNat) (z_1.fst,(take (List.length z_1.snd.fst.fst) (drop 0 (Aj TCd.den++A4 A7 (6:Int) (i64.wrap (k +
 (1:Int))) (List.length z_1.snd.fst.fst)++drop (0+List.length z_1.snd.fst.fst) z_1.snd.fst.fst)),()),z_1.snd.snd.fst,())).set (0+n.toNat)
 (z_2.fst,(z_2.snd.fst.fst,()),i64.wrap (k+(1:Int))+(6:Int)*(↑(List.length z_1.snd.fst.fst):Int),())) none)]))))))) (some (Ex.exit 0,[V.j k],
 [some (Blk.drow TPd l none)]))):_):=by kernel_rfl
theorem RS (m:Nat) (k:Int) (l:List Tp):Ax prog Aaj (Ab [(2,FB)]) f55 [.ref 0 0 m,.j k] [.drow TPd l none] =
 ((ifT (decide ((0:Int)<=(0:Int)/\0<=l.length/\m=l.length/\m<=maxI/\(0:Int)<=k/\k+AM AR (drop 0 l)<=lim)) (some (V.j (k +
 AM AR (drop 0 l)),[some (Blk.drow TPd (Aj TPd.den++mkL D3 AR k (drop 0 l)) none)]))):_):=by kernel_rfl
abbrev Aai:FuncId->Option Ent:=Ab [(71,.rd1 A6),(93,.own Gp),(92,.own E0),(59,.own Gq)]
theorem Jl (m:Nat) (k n:Int) (l:List Fa):Av prog Aai (Ab [(2,FC)]) 1 (body f56 0) FC ([.ref 0 0 m,.j k,.j n],[some (.drow FNd l none)]) =
 ((ifB (decide (n<(↑m:Int))) (ifT (decide ((0:Int)<=n)&&decide (n<(↑m:Int))) (Ai l[0+n.toNat]? fun z=>ifT (decide (i64.wrap (k+(1 :
 Int))<=lim)) (ifT (decide ((0:Int)<=n)&&decide (n<(↑m:Int))) (Ai (l.set (0+n.toNat) (k,z.snd.fst,(z.snd.snd.fst.fst,()),
 (z.snd.snd.snd.fst.fst,()),z.snd.snd.snd.snd.fst,z.snd.snd.snd.snd.snd.fst,()))[0+n.toNat]? fun z_1=>ifT (decide ((0:Int)<=n)&&decide (n<(↑m :
 Int))) (Ai ((l.set (0+n.toNat) (k,z.snd.fst,(z.snd.snd.fst.fst,()),(z.snd.snd.snd.fst.fst,()),z.snd.snd.snd.snd.fst,z.snd.snd.snd.snd.snd.fst,
 ())).set (0+n.toNat) (z_1.fst,Bn (i64.wrap (k+(1:Int))),(z_1.snd.snd.fst.fst,()),(z_1.snd.snd.snd.fst.fst,()),z_1.snd.snd.snd.snd.fst,
 z_1.snd.snd.snd.snd.snd.fst,()))[0+n.toNat]? fun z_2=>ifT (decide (0+List.length z_2.snd.snd.fst.fst<=List.length z_2.snd.snd.fst.fst/\(0:Int)
 <= i64.wrap (i64.wrap (k+(1:Int))+(1:Int))/\i64.wrap (i64.wrap (k+(1:Int))+(1:Int))+(6:Int)*(↑(List.length
 z_2.snd.snd.fst.fst):Int)<=lim)) (ifT (decide ((0:Int)<=n)&&decide (n<(↑m:Int))) (Ai (((l.set (0+n.toNat) (k,z.snd.fst,(z.snd.snd.fst.fst,
 ()),(z.snd.snd.snd.fst.fst,()),z.snd.snd.snd.snd.fst,z.snd.snd.snd.snd.snd.fst,())).set (0+n.toNat) (z_1.fst,Bn (i64.wrap (k+(1:Int))),
 (z_1.snd.snd.fst.fst,()),(z_1.snd.snd.snd.fst.fst,()),z_1.snd.snd.snd.snd.fst,z_1.snd.snd.snd.snd.snd.fst,())).set (0+n.toNat) (z_2.fst,z_2.snd.fst,
 (take (List.length z_2.snd.snd.fst.fst) (drop 0 (Aj WCd.den++A4 AE (6:Int) (i64.wrap (i64.wrap (k+(1:Int))+(1 :
 Int))) (List.length z_2.snd.snd.fst.fst)++drop (0+List.length z_2.snd.snd.fst.fst) z_2.snd.snd.fst.fst)),()),(z_2.snd.snd.snd.fst.fst,()),
 z_2.snd.snd.snd.snd.fst,z_2.snd.snd.snd.snd.snd.fst,()))[0+n.toNat]? fun z_3=>ifT (decide (0+List.length z_3.snd.snd.snd.fst.fst<=List.length
 z_3.snd.snd.snd.fst.fst/\(0:Int)<=i64.wrap (i64.wrap (k+(1:Int))+(1:Int))+(6:Int)*(↑(List.length z_2.snd.snd.fst.fst):Int)/\
 i64.wrap (i64.wrap (k+(1:Int))+(1:Int))+(6:Int)*(↑(List.length z_2.snd.snd.fst.fst):Int)+(6:Int)*(↑(List.length
 z_3.snd.snd.snd.fst.fst):Int)<=lim)) (ifT (decide ((0:Int)<=n)&&decide (n<(↑m:Int))) (Ai ((((l.set (0+n.toNat) (k,z.snd.fst,
 (z.snd.snd.fst.fst,()),(z.snd.snd.snd.fst.fst,()),z.snd.snd.snd.snd.fst,z.snd.snd.snd.snd.snd.fst,())).set (0+n.toNat) (z_1.fst,Bn (i64.wrap
 (k+(1:Int))),(z_1.snd.snd.fst.fst,()),(z_1.snd.snd.snd.fst.fst,()),z_1.snd.snd.snd.snd.fst,z_1.snd.snd.snd.snd.snd.fst,())).set (0+n.toNat) (z_2.fst,
 z_2.snd.fst,(take (List.length z_2.snd.snd.fst.fst) (drop 0 (Aj WCd.den++A4 AE (6:Int) (i64.wrap (i64.wrap (k+(1 :
 Int))+(1:Int))) (List.length z_2.snd.snd.fst.fst)++drop (0+List.length z_2.snd.snd.fst.fst) z_2.snd.snd.fst.fst)),()),(z_2.snd.snd.snd.fst.fst,
 ()),z_2.snd.snd.snd.snd.fst,z_2.snd.snd.snd.snd.snd.fst,())).set (0+n.toNat) (z_3.fst,z_3.snd.fst,(z_3.snd.snd.fst.fst,()),(take (List.length
 z_3.snd.snd.snd.fst.fst) (drop 0 (Aj TCd.den++A4 A7 (6:Int) (i64.wrap (i64.wrap (k+(1:Int))+(1:Int))+(6:Int) *
 (↑(List.length z_2.snd.snd.fst.fst):Int)) (List.length z_3.snd.snd.snd.fst.fst)++drop (0+List.length z_3.snd.snd.snd.fst.fst)
 z_3.snd.snd.snd.fst.fst)),()),z_3.snd.snd.snd.snd.fst,z_3.snd.snd.snd.snd.snd.fst,()))[0+n.toNat]? fun z_4=>ifT (decide (0+List.length
 z_4.snd.snd.snd.snd.fst<=List.length z_4.snd.snd.snd.snd.fst/\(0:Int)<=i64.wrap (i64.wrap (k+(1:Int))+(1:Int))+(6:Int)*(↑(List.length
 z_2.snd.snd.fst.fst):Int)+(6:Int)*(↑(List.length z_3.snd.snd.snd.fst.fst):Int)/\i64.wrap (i64.wrap (k+(1:Int))+(1:Int))+(6:Int) *
 (↑(List.length z_2.snd.snd.fst.fst):Int)+(6:Int)*(↑(List.length z_3.snd.snd.snd.fst.fst):Int)+(3:Int)*(↑(List.length z_4.snd.snd.snd.snd.fst):Int)<=
 lim)) (ifT (decide ((0:Int)<=n)&&decide (n<(↑m:Int))) (Ai (((((l.set (0+n.toNat) (k,z.snd.fst,(z.snd.snd.fst.fst,()),(z.snd.snd.snd.fst.fst,
 ()),z.snd.snd.snd.snd.fst,z.snd.snd.snd.snd.snd.fst,())).set (0+n.toNat) (z_1.fst,Bn (i64.wrap (k+(1:Int))),(z_1.snd.snd.fst.fst,()),
 (z_1.snd.snd.snd.fst.fst,()),z_1.snd.snd.snd.snd.fst,z_1.snd.snd.snd.snd.snd.fst,())).set (0+n.toNat) (z_2.fst,z_2.snd.fst,(take (List.length
 z_2.snd.snd.fst.fst) (drop 0 (Aj WCd.den++A4 AE (6:Int) (i64.wrap (i64.wrap (k+(1:Int))+(1:Int))) (List.length
 z_2.snd.snd.fst.fst)++drop (0+List.length z_2.snd.snd.fst.fst) z_2.snd.snd.fst.fst)),()),(z_2.snd.snd.snd.fst.fst,()),z_2.snd.snd.snd.snd.fst,
 z_2.snd.snd.snd.snd.snd.fst,())).set (0+n.toNat) (z_3.fst,z_3.snd.fst,(z_3.snd.snd.fst.fst,()),(take (List.length z_3.snd.snd.snd.fst.fst) (drop
 0 (Aj TCd.den++A4 A7 (6:Int) (i64.wrap (i64.wrap (k+(1:Int))+(1:Int))+(6:Int)*(↑(List.length z_2.snd.snd.fst.fst) :
 Int)) (List.length z_3.snd.snd.snd.fst.fst)++drop (0+List.length z_3.snd.snd.snd.fst.fst) z_3.snd.snd.snd.fst.fst)),()),z_3.snd.snd.snd.snd.fst,
 z_3.snd.snd.snd.snd.snd.fst,())).set (0+n.toNat) (z_4.fst,z_4.snd.fst,(z_4.snd.snd.fst.fst,()),(z_4.snd.snd.snd.fst.fst,()),take (List.length
 z_4.snd.snd.snd.snd.fst) (drop 0 (Aj NTd.den++A4 AQ (3:Int) (i64.wrap (i64.wrap (k+(1:Int))+(1:Int))+(6:Int) *
 (↑(List.length z_2.snd.snd.fst.fst):Int)+(6:Int)*(↑(List.length z_3.snd.snd.snd.fst.fst):Int)) (List.length z_4.snd.snd.snd.snd.fst)++drop (0 +
 List.length z_4.snd.snd.snd.snd.fst) z_4.snd.snd.snd.snd.fst)),z_4.snd.snd.snd.snd.snd.fst,()))[0+n.toNat]? fun z_5=>some (Ex.normal,[V.ref 0 0 m,V.i .i64
 (i64.wrap (i64.wrap (i64.wrap (k+(1:Int))+(1:Int))+(6:Int)*(↑(List.length z_2.snd.snd.fst.fst):Int)+(6:Int)*(↑(List.length
 z_3.snd.snd.snd.fst.fst):Int)+(3:Int)*(↑(List.length z_4.snd.snd.snd.snd.fst):Int)+(1:Int))),V.j (i64.wrap (n+(1:Int)))],[some (Blk.drow
 FNd ((((((l.set (0+n.toNat) (k,z.snd.fst,(z.snd.snd.fst.fst,()),(z.snd.snd.snd.fst.fst,()),z.snd.snd.snd.snd.fst,z.snd.snd.snd.snd.snd.fst,())).set ((0
 : Nat)+n.toNat) (z_1.fst,Bn (i64.wrap (k+(1:Int))),(z_1.snd.snd.fst.fst,()),(z_1.snd.snd.snd.fst.fst,()),z_1.snd.snd.snd.snd.fst,
 z_1.snd.snd.snd.snd.snd.fst,())).set (0+n.toNat) (z_2.fst,z_2.snd.fst,(take (List.length z_2.snd.snd.fst.fst) (drop 0 (Aj WCd.den++
 A4 AE (6:Int) (i64.wrap (i64.wrap (k+(1:Int))+(1:Int))) (List.length z_2.snd.snd.fst.fst)++drop (0+List.length
 z_2.snd.snd.fst.fst) z_2.snd.snd.fst.fst)),()),(z_2.snd.snd.snd.fst.fst,()),z_2.snd.snd.snd.snd.fst,z_2.snd.snd.snd.snd.snd.fst,())).set (0+n.toNat)
 (z_3.fst,z_3.snd.fst,(z_3.snd.snd.fst.fst,()),(take (List.length z_3.snd.snd.snd.fst.fst) (drop 0 (Aj TCd.den++A4 A7 (6:Int)
 (i64.wrap (i64.wrap (k+(1:Int))+(1:Int))+(6:Int)*(↑(List.length z_2.snd.snd.fst.fst):Int)) (List.length z_3.snd.snd.snd.fst.fst)++
 drop (0+List.length z_3.snd.snd.snd.fst.fst) z_3.snd.snd.snd.fst.fst)),()),z_3.snd.snd.snd.snd.fst,z_3.snd.snd.snd.snd.snd.fst,())).set (0 +
 n.toNat) (z_4.fst,z_4.snd.fst,(z_4.snd.snd.fst.fst,()),(z_4.snd.snd.snd.fst.fst,()),take (List.length z_4.snd.snd.snd.snd.fst) (drop 0 (Aj
 NTd.den++A4 AQ (3:Int) (i64.wrap (i64.wrap (k+(1:Int))+(1:Int))+(6:Int)*(↑(List.length z_2.snd.snd.fst.fst):Int)+(6:Int)
 * (↑(List.length z_3.snd.snd.snd.fst.fst):Int)) (List.length z_4.snd.snd.snd.snd.fst)++drop (0+List.length z_4.snd.snd.snd.snd.fst)
 z_4.snd.snd.snd.snd.fst)),z_4.snd.snd.snd.snd.snd.fst,())).set (0+n.toNat) (z_5.fst,z_5.snd.fst,(z_5.snd.snd.fst.fst,()),(z_5.snd.snd.snd.fst.fst,()),
 z_5.snd.snd.snd.snd.fst,i64.wrap (i64.wrap (k+(1:Int))+(1:Int))+(6:Int)*(↑(List.length z_2.snd.snd.fst.fst):Int)+(6:Int) *
 (↑(List.length z_3.snd.snd.snd.fst.fst):Int)+(3:Int)*(↑(List.length z_4.snd.snd.snd.snd.fst):Int),())) none)])))))))))))) (some (Ex.exit 0,[V.j k],[some
 (Blk.drow FNd l none)]))):_):=by kernel_rfl
theorem RY (m:Nat) (k:Int) (l:List Fa):Ax prog Aai (Ab [(2,FC)]) f56 [.ref 0 0 m,.j k] [.drow FNd l none] =
 ((ifT (decide ((0:Int)<=(0:Int)/\0<=l.length/\m=l.length/\m<=maxI/\(0:Int)<=k/\k+AM Bl (drop 0 l)<=lim)) (some (V.j (k +
 AM Bl (drop 0 l)),[some (Blk.drow FNd (Aj FNd.den++mkL D4 Bl k (drop 0 l)) none)]))):_):=by kernel_rfl
theorem F8 (x:Tp):0<=AR x:=by unfold AR; omega
theorem La {m:Nat} (hm:m<=maxI) : ∀ (j n:Nat) (k:Int) (l:List Tp),n+j=m->l.length=m->0<=k->k+AM AR (l.drop n)<=lim->Runs prog Aaj (Ab [(2,FB)]) 1 (body f55 0) FB ([.ref 0 0 m,.j k,.j (n:Int)],[some (.drow TPd l none)]) (.exit 0) ([.j (k+AM AR (l.drop n))],[some (.drow TPd (l.take n++mkL D3 AR k (l.drop n)) none)])
 | 0,n,k,l,hn,hl,h0,hk=>by
  have hr:=Jk m k n l
  try dsimp only [shr] at hr
  rw [Ac (dcF (by omega))] at hr
  rw [drop_eq_nil_of_le (by omega),AM,mkL,append_nil,take_of_length_le (by omega),Int.add_zero]
  exact .stop _ _ _ hr (by simp)
 | j+1,n,k,l,hn,hl,h0,hk=>by
  have h1:n<l.length:=by omega
  have hM:maxI=9223372036854775807:=rfl
  have hr:=Jk m k n l
  try dsimp only [shr] at hr
  have hp:=DW F8 (l.drop (n+1))
  have ih:=La hm j (n+1) (k+AR l[n]) (l.set n (D3 k l[n])) (by omega) (by rw [List.length_set]; exact hl) (by have:=F8 l[n]; omega) (by rw [drop_set_of_lt (lt_succ_self n),add_assoc,<-BK h1]; exact hk)
  rw [drop_set_of_lt (lt_succ_self n),CG h1,List.append_assoc,List.singleton_append,<-PF h1,add_assoc,<-BK h1] at ih
  rw [BK h1] at hk
  rw [Ag (dcT (by omega))] at hr
  simp only [zero_add,ntN,set_set,gtE h1,List.getElem?_set_self h1,Am] at hr
  generalize l[n]=z at hr hk ih
  obtain ⟨a,⟨ts,⟨⟩⟩,c,⟨⟩⟩:=z
  dsimp only at hr
  rw [show AR (a,(ts,()),c,())=2+6*(ts.length:Int) from rfl] at hk ih
  unfold lim at hk
  have hb:(decide ((0:Int)<=(n:Int))&&decide ((n:Int)<(m:Int)))=true:=by simp only [anE,dcE]; omega
  have hn1:i64.wrap ((n:Int)+1)=((n+1:Nat):Int):=by rw [Aw (by omega) (by omega)]; omega
  have w1:i64.wrap (k+1)=k+1:=Aw (by omega) (by omega)
  have w2:i64.wrap (k+1+6*(ts.length:Int)+1)=k+(2+6*(ts.length:Int)):=by rw [Aw (by omega) (by omega)]; omega
  simp only [hb,Dc,hn1,w1,AN,nil_append,drop_zero,append_nil,drop_eq_nil_of_le (Nat.le_refl _),take_of_length_le (Nat.le_of_eq (Cu _ _))] at hr
  rw [Aa (dcT (by unfold lim; omega)),Aa (dcT ⟨by omega,by omega,by unfold lim; omega⟩),w2] at hr
  exact .step _ _ _ _ hr ih
theorem Xj:Ar prog Aaj (Ab [(2,FB)]) 1 (f55.body.getD .skip):=by
 refine An (a:=body f55 0) (by kernel_rfl) fun d e d' h=>?_
 unfold FB at h
 dsimp only at h
 split at h
 ·rename_i m k n l
  obtain ⟨hc,hx⟩:=Ad h
  obtain ⟨a0,a1,a2,a3,a4,a5⟩:=of_decide_eq_true hc
  obtain ⟨n,rfl⟩:=eq_ofNat_of_zero_le a0
  simp only [ntN] at a1 a5 hx
  have h8:=Ao hx
  obtain ⟨rfl,rfl⟩:=Prod.mk.inj h8
  exact La a3 (m-n) n k l (by omega) a2.symm a4 a5
 ·cases h
theorem Aeb:Af prog 55 (Ent.own RT).F:=by
 refine Ae (kc func71 CI (kc func92 Lc KnowsL.nil)).knows (Λ:=(Ab [(2,FB)])) func55 (c:=f55.body.getD .skip) (by kernel_rfl) fun vs bs r hq hv hb=>?_
 unfold Ent.F RT at hq
 dsimp only at hq
 split at hq
 ·rename_i m k l
  obtain ⟨hc,hx⟩:=Ad hq
  obtain ⟨rfl,a1,a2⟩:=of_decide_eq_true hc
  refine ⟨Xj,(RS l.length k l).trans (Eq.trans ?_ hx)⟩
  try dsimp only [shr]
  rw [drop_zero,Aa (dcT ⟨Int.le_refl 0,zero_le _,by first | trivial | rfl,hv (.ref 0 0 l.length) (by simp),a1,a2⟩)]
  rfl
 ·cases hq
theorem F9 (x:Fa):0<=Bl x:=by unfold Bl; omega
theorem Lb {m:Nat} (hm:m<=maxI) : ∀ (j n:Nat) (k:Int) (l:List Fa),n+j=m->l.length=m->0<=k->k+AM Bl (l.drop n)<=lim->Runs prog Aai (Ab [(2,FC)]) 1 (body f56 0) FC ([.ref 0 0 m,.j k,.j (n:Int)],[some (.drow FNd l none)]) (.exit 0) ([.j (k+AM Bl (l.drop n))],[some (.drow FNd (l.take n++mkL D4 Bl k (l.drop n)) none)])
 | 0,n,k,l,hn,hl,h0,hk=>by
  have hr:=Jl m k n l
  try dsimp only [shr] at hr
  rw [Ac (dcF (by omega))] at hr
  rw [drop_eq_nil_of_le (by omega),AM,mkL,append_nil,take_of_length_le (by omega),Int.add_zero]
  exact .stop _ _ _ hr (by simp)
 | j+1,n,k,l,hn,hl,h0,hk=>by
  have h1:n<l.length:=by omega
  have hM:maxI=9223372036854775807:=rfl
  have hr:=Jl m k n l
  try dsimp only [shr] at hr
  have hp:=DW F9 (l.drop (n+1))
  have ih:=Lb hm j (n+1) (k+Bl l[n]) (l.set n (D4 k l[n])) (by omega) (by rw [List.length_set]; exact hl) (by have:=F9 l[n]; omega) (by rw [drop_set_of_lt (lt_succ_self n),add_assoc,<-BK h1]; exact hk)
  rw [drop_set_of_lt (lt_succ_self n),CG h1,List.append_assoc,List.singleton_append,<-PF h1,add_assoc,<-BK h1] at ih
  rw [BK h1] at hk
  rw [Ag (dcT (by omega))] at hr
  simp only [zero_add,ntN,set_set,gtE h1,List.getElem?_set_self h1,Am] at hr
  generalize l[n]=z at hr hk ih
  obtain ⟨w0,p,⟨ws,⟨⟩⟩,⟨v,⟨⟩⟩,b,c,⟨⟩⟩:=z
  dsimp only at hr
  rw [show Bl (w0,p,(ws,()),(v,()),b,c,())=3+6*(ws.length:Int)+6*(v.length:Int)+3*(b.length:Int) from rfl] at hk ih
  unfold lim at hk
  have hb:(decide ((0:Int)<=(n:Int))&&decide ((n:Int)<(m:Int)))=true:=by simp only [anE,dcE]; omega
  have hn1:i64.wrap ((n:Int)+1)=((n+1:Nat):Int):=by rw [Aw (by omega) (by omega)]; omega
  have w1:i64.wrap (k+1)=k+1:=Aw (by omega) (by omega)
  have w2:i64.wrap (k+1+1)=k+2:=by rw [Aw (by omega) (by omega)]; omega
  have w3:i64.wrap (k+2+6*(ws.length:Int)+6*(v.length:Int)+3*(b.length:Int)+1)=k+(3+6*(ws.length:Int)+6*(v.length:Int)+3*(b.length:Int)):=by rw [Aw (by omega) (by omega)]; omega
  simp only [hb,Dc,hn1,w1,w2,AN,nil_append,drop_zero,append_nil,drop_eq_nil_of_le (Nat.le_refl _),take_of_length_le (Nat.le_of_eq (Cu _ _))] at hr
  rw [Aa (dcT (by unfold lim; omega)),Aa (dcT ⟨by omega,by omega,by unfold lim; omega⟩),Aa (dcT ⟨by omega,by omega,by unfold lim; omega⟩),Aa (dcT ⟨by omega,by omega,by unfold lim; omega⟩),w3] at hr
  exact .step _ _ _ _ hr ih
theorem Xm:Ar prog Aai (Ab [(2,FC)]) 1 (f56.body.getD .skip):=by
 refine An (a:=body f56 0) (by kernel_rfl) fun d e d' h=>?_
 unfold FC at h
 dsimp only at h
 split at h
 ·rename_i m k n l
  obtain ⟨hc,hx⟩:=Ad h
  obtain ⟨a0,a1,a2,a3,a4,a5⟩:=of_decide_eq_true hc
  obtain ⟨n,rfl⟩:=eq_ofNat_of_zero_le a0
  simp only [ntN] at a1 a5 hx
  have h8:=Ao hx
  obtain ⟨rfl,rfl⟩:=Prod.mk.inj h8
  exact Lb a3 (m-n) n k l (by omega) a2.symm a4 a5
 ·cases h
theorem Aee:Af prog 56 (Ent.own RZ).F:=by
 refine Ae (kc func71 CI (kc func93 PJ (kc func92 Lc (kc func59 PN KnowsL.nil)))).knows (Λ:=(Ab [(2,FC)])) func56 (c:=f56.body.getD .skip) (by kernel_rfl) fun vs bs r hq hv hb=>?_
 unfold Ent.F RZ at hq
 dsimp only at hq
 split at hq
 ·rename_i m k l
  obtain ⟨hc,hx⟩:=Ad hq
  obtain ⟨rfl,a1,a2⟩:=of_decide_eq_true hc
  refine ⟨Xm,(RY l.length k l).trans (Eq.trans ?_ hx)⟩
  try dsimp only [shr]
  rw [drop_zero,Aa (dcT ⟨Int.le_refl 0,zero_le _,by first | trivial | rfl,hv (.ref 0 0 l.length) (by simp),a1,a2⟩)]
  rfl
 ·cases hq
def Hs:Gm
 | [.sl TCd l],[]=>.need (decide (l.length<=1000000000)) (.leaf (.ref 0 0 l.length,[some (.row false none TCd l)]))
 | _,_=>.no
def Hr:Gm
 | [.sl WCd l],[]=>.need (decide (l.length<=1000000000)) (.leaf (.ref 0 0 l.length,[some (.row false none WCd l)]))
 | _,_=>.no
def Ht:Gm
 | [.sl NTd l],[]=>.need (decide (l.length<=1000000000)) (.leaf (.ref 0 0 l.length,[some (.row false none NTd l)]))
 | _,_=>.no
def Eg:Gm
 | [.agg [.sl TCd l]],[]=>.need (decide (l.length<=1000000000)) (.leaf (.agg [.ref 0 0 l.length],[some (.row false none TCd l)]))
 | _,_=>.no
def Db (ws:List Wt) (v:List Ty) (b:List Nt):Bool:=decide (ws.length<=1000000000)&&(decide (v.length<=1000000000)&&decide (b.length<=1000000000))
def Eh:Gm
 | [.agg [.i .i64 w,.s p,.sl WCd ws,.sl TCd v,.sl NTd b,.i .i64 t]],[]=>.need (Db ws v b) (.leaf (.agg [.i .i64 w,.s p,.ref 0 0 ws.length,.ref 1 0 v.length,.ref 2 0 b.length,.i .i64 t],[some (.row false none WCd ws),some (.row false none TCd v),some (.row false none NTd b)]))
 | _,_=>.no
theorem Mt (l:List (Int×List UInt8×Int×Bool×Int×Int×Unit)) (h:l.length<=1000000000):DH prog (Ab []) (Ab []) f130 [.sl TCd l] []=some (.ref 0 0 l.length,[some (.row false none TCd l)]):=by
 have e:DH prog (Ab []) (Ab []) f130 [.sl TCd l] [] =
  ((ifB (decide (0<l.length)) (ifT (decide ((0+l.length)*56<=140737488355328)&&decide (0+l.length<=maxI)) (some (V.ref 0 0
 (0+l.length),[some (Blk.row false none TCd (Aj TCd.den++l))]))) (Jq (some (V.ref 0 0 0,[some (Blk.row false none TCd (Aj TCd.den))])) (ifT (decide
 ((0+l.length)*56<=140737488355328)&&decide (0+l.length<=maxI)) (some (V.ref 0 0 (0+l.length),[some (Blk.row false
 none TCd (Aj TCd.den++l))]))))):_):=by kernel_rfl
 rw [e]
 by_cases q:0<l.length
 ·rw [Ag (dcT q),Aa (by simp [maxI]; omega)]; simp
 ·obtain rfl:l=[]:=List.eq_nil_of_length_eq_zero (by omega)
  rw [Ac (by simp),Ls]<;>simp [maxI]
theorem V7:Af prog 130 (Ent.rd1 Hs).F:=by
 refine Bc (KnowsL.nil).knows (Λ:=Ab []) func130 (c:=f130.body.getD .skip) (by kernel_rfl) fun vs bs r h hv hb=>?_
 unfold Ent.F Hs at h
 dsimp only at h
 split at h
 ·rename_i l
  obtain ⟨hc,h⟩:=Ad h
  exact ⟨Ak _,(Mt l (of_decide_eq_true hc)).trans h⟩
 ·cases h
theorem Ms (l:List (Int×Int×Int×List UInt8×Int×Int×Unit)) (h:l.length<=1000000000):DH prog (Ab []) (Ab []) f87 [.sl WCd l] []=some (.ref 0 0 l.length,[some (.row false none WCd l)]):=by
 have e:DH prog (Ab []) (Ab []) f87 [.sl WCd l] [] =
  ((ifB (decide (0<l.length)) (ifT (decide ((0+l.length)*56<=140737488355328)&&decide (0+l.length<=maxI)) (some (V.ref 0 0
 (0+l.length),[some (Blk.row false none WCd (Aj WCd.den++l))]))) (Jq (some (V.ref 0 0 0,[some (Blk.row false none WCd (Aj WCd.den))])) (ifT (decide
 ((0+l.length)*56<=140737488355328)&&decide (0+l.length<=maxI)) (some (V.ref 0 0 (0+l.length),[some (Blk.row false
 none WCd (Aj WCd.den++l))]))))):_):=by kernel_rfl
 rw [e]
 by_cases q:0<l.length
 ·rw [Ag (dcT q),Aa (by simp [maxI]; omega)]; simp
 ·obtain rfl:l=[]:=List.eq_nil_of_length_eq_zero (by omega)
  rw [Ac (by simp),Ls]<;>simp [maxI]
theorem V6:Af prog 87 (Ent.rd1 Hr).F:=by
 refine Bc (KnowsL.nil).knows (Λ:=Ab []) func87 (c:=f87.body.getD .skip) (by kernel_rfl) fun vs bs r h hv hb=>?_
 unfold Ent.F Hr at h
 dsimp only at h
 split at h
 ·rename_i l
  obtain ⟨hc,h⟩:=Ad h
  exact ⟨Ak _,(Ms l (of_decide_eq_true hc)).trans h⟩
 ·cases h
theorem Mu (l:List (List UInt8×Int×List UInt8×Unit)) (h:l.length<=1000000000):DH prog (Ab []) (Ab []) f88 [.sl NTd l] []=some (.ref 0 0 l.length,[some (.row false none NTd l)]):=by
 have e:DH prog (Ab []) (Ab []) f88 [.sl NTd l] [] =
  ((ifB (decide (0<l.length)) (ifT (decide ((0+l.length)*40<=140737488355328)&&decide (0+l.length<=maxI)) (some (V.ref 0 0
 (0+l.length),[some (Blk.row false none NTd (Aj NTd.den++l))]))) (Jq (some (V.ref 0 0 0,[some (Blk.row false none NTd (Aj NTd.den))])) (ifT (decide
 ((0+l.length)*40<=140737488355328)&&decide (0+l.length<=maxI)) (some (V.ref 0 0 (0+l.length),[some (Blk.row false
 none NTd (Aj NTd.den++l))]))))):_):=by kernel_rfl
 rw [e]
 by_cases q:0<l.length
 ·rw [Ag (dcT q),Aa (by simp [maxI]; omega)]; simp
 ·obtain rfl:l=[]:=List.eq_nil_of_length_eq_zero (by omega)
  rw [Ac (by simp),Ls]<;>simp [maxI]
theorem V8:Af prog 88 (Ent.rd1 Ht).F:=by
 refine Bc (KnowsL.nil).knows (Λ:=Ab []) func88 (c:=f88.body.getD .skip) (by kernel_rfl) fun vs bs r h hv hb=>?_
 unfold Ent.F Ht at h
 dsimp only at h
 split at h
 ·rename_i l
  obtain ⟨hc,h⟩:=Ad h
  exact ⟨Ak _,(Mu l (of_decide_eq_true hc)).trans h⟩
 ·cases h
theorem Lz (l:List Ty):Df prog (Ab [(130,.rd1 Hs)]) (Ab []) f86 [.agg [.sl TCd l]] [] =
 ((ifT (decide (l.length<=1000000000)) (some (V.agg [V.ref 0 0 l.length],[some (Blk.row false none TCd l)]))):_):=by kernel_rfl
theorem Nk:Af prog 86 (Ent.rd1 Eg).F:=by
 refine A8 (kc func130 V7 KnowsL.nil).knows (Λ:=Ab []) func86 (c:=f86.body.getD .skip) (by kernel_rfl) fun vs bs r hq hv hb=>?_
 unfold Ent.F Eg at hq
 dsimp only at hq
 split at hq
 ·rename_i l
  obtain ⟨hc,hx⟩:=Ad hq
  refine ⟨Ak _,(Lz l).trans (Eq.trans ?_ hx)⟩
  try dsimp only [shr]
  show _=some _
  rw [Aa hc]
  all_goals first | rfl | (simp only [zero_add,AN,nil_append]; done) | (simp only [zero_add,AN,nil_append]; rfl)
 ·cases hq
theorem NW (l:List Ty):Df prog (Ab []) (Ab []) f79 [.agg [.sl TCd l]] [] =
 ((ifT (decide ((0+l.length)*56<=140737488355328)&&decide (0+l.length<=maxI)) (some (V.agg [V.ref 0 0 (0+l.length)],[some
 (Blk.row false none TCd (Aj TCd.den++l))]))):_):=by kernel_rfl
theorem Tg:Af prog 79 (Ent.rd1 Eg).F:=by
 refine A8 KnowsL.nil.knows (Λ:=Ab []) func79 (c:=f79.body.getD .skip) (by kernel_rfl) fun vs bs r hq hv hb=>?_
 unfold Ent.F Eg at hq
 dsimp only at hq
 split at hq
 ·rename_i l
  obtain ⟨hc,hx⟩:=Ad hq
  refine ⟨Ak _,(NW l).trans (Eq.trans ?_ hx)⟩
  try dsimp only [shr]
  show _=some _
  have hc:=of_decide_eq_true hc
  have hM:maxI=9223372036854775807:=rfl
  rw [Aa (by simp only [anE,dcE]; omega)]
  all_goals first | rfl | (simp only [zero_add,AN,nil_append]; done) | (simp only [zero_add,AN,nil_append]; rfl)
 ·cases hq
theorem L0 (w:Int) (p:List UInt8) (ws:List Wt) (v:List Ty) (b:List Nt) (t:Int):Df prog (Ab [(87,.rd1 Hr),(86,.rd1 Eg),(88,.rd1 Ht)]) (Ab []) f49 [.agg [.j w,.s p,.sl WCd ws,.sl TCd v,.sl NTd b,.j t]] [] =
 ((ifT (decide (ws.length<=1000000000)) (ifT (decide (v.length<=1000000000)) (ifT (decide (b.length<=1000000000)) (some (V.agg [V.j w,V.s p,
 V.ref 0 0 ws.length,V.ref 1 0 v.length,V.ref 2 0 b.length,V.j t],[some (Blk.row false none WCd ws),some (Blk.row false none TCd v),some (Blk.row false none NTd
 b)]))))):_):=by kernel_rfl
theorem Nl:Af prog 49 (Ent.rd1 Eh).F:=by
 refine A8 (kc func87 V6 (kc func86 Nk (kc func88 V8 KnowsL.nil))).knows (Λ:=Ab []) func49 (c:=f49.body.getD .skip) (by kernel_rfl) fun vs bs r hq hv hb=>?_
 unfold Ent.F Eh at hq
 dsimp only at hq
 split at hq
 ·rename_i w p ws v b t
  obtain ⟨hc,hx⟩:=Ad hq
  refine ⟨Ak _,(L0 w p ws v b t).trans (Eq.trans ?_ hx)⟩
  try dsimp only [shr]
  show _=some _
  unfold Db at hc
  rw [anE,anE] at hc
  rw [Aa hc.1,Aa hc.2.1,Aa hc.2.2]
  all_goals first | rfl | (simp only [zero_add,AN,nil_append]; done) | (simp only [zero_add,AN,nil_append]; rfl)
 ·cases hq
theorem NX (w:Int) (p:List UInt8) (ws:List Wt) (v:List Ty) (b:List Nt) (t:Int):Df prog (Ab [(79,.rd1 Eg)]) (Ab []) f41 [.agg [.j w,.s p,.sl WCd ws,.sl TCd v,.sl NTd b,.j t]] [] =
 ((ifT (decide ((0+ws.length)*56<=140737488355328)&&decide (0+ws.length<=maxI)) (ifT (decide (v.length<=1000000000)) (ifT
 (decide ((0+b.length)*40<=140737488355328)&&decide (0+b.length<=maxI)) (some (V.agg [V.j w,V.s p,V.ref 0 0 (0 +
 ws.length),V.ref 1 0 v.length,V.ref 2 0 (0+b.length),V.j t],[some (Blk.row false none WCd (Aj WCd.den++ws)),some (Blk.row false none TCd v),some
 (Blk.row false none NTd (Aj NTd.den++b))]))))):_):=by kernel_rfl
theorem Th:Af prog 41 (Ent.rd1 Eh).F:=by
 refine A8 (kc func79 Tg KnowsL.nil).knows (Λ:=Ab []) func41 (c:=f41.body.getD .skip) (by kernel_rfl) fun vs bs r hq hv hb=>?_
 unfold Ent.F Eh at hq
 dsimp only at hq
 split at hq
 ·rename_i w p ws v b t
  obtain ⟨hc,hx⟩:=Ad hq
  refine ⟨Ak _,(NX w p ws v b t).trans (Eq.trans ?_ hx)⟩
  try dsimp only [shr]
  show _=some _
  unfold Db at hc
  have hM:maxI=9223372036854775807:=rfl
  rw [anE,anE,dcE,dcE,dcE] at hc
  rw [Aa (by simp only [anE,dcE]; omega),Aa (by rw [dcE]; omega),Aa (by simp only [anE,dcE]; omega)]
  all_goals first | rfl | (simp only [zero_add,AN,nil_append]; done) | (simp only [zero_add,AN,nil_append]; rfl)
 ·cases hq
instance decTp:DecidableEq Tp:=inferInstance
def tOK (t:Tp):Bool:=tpB (cut 47 t.1)&&(Bf t.2.1.1&&decide (0<=t.2.2.1/\t.2.2.1<=1000))
def EI (t:Tp):Bool:=decide (t.1.length<=4000000000)&&(decide (t.2.1.1.length<=4000000000)&&nmL t.2.1.1)
def TP (ts:List Tp) (i:Nat):Bool:=match ts[i]? with | some t=>tOK t&&atT ts t.1==(i:Int) | none=>true
def C7 (ts:List Tp) (i:Nat):Bool:=((range ts.length).drop i).all (TP ts)
def Xx:Gm
 | [.agg [.s n,.sl TCd l,.i .i64 c]],[]=>.need (EI (n,(l,()),c,())) (.leaf (.b (tOK (n,(l,()),c,())),[]))
 | _,_=>.no
def Xy:Gm
 | [.s p,.s q],[]=>.need (decide (p.length<=4000000000/\q.length<=4000000000)) (.leaf (.b (tk EZ (cut 47 p) (cut 47 q)),[]))
 | _,_=>.no
def VW:Gm
 | [.bx [.sl TPd ts,.sl FNd _] 0],[]=>.need (decide (ts.length<=4000000000)&&ts.all EI) (.leaf (.b (C7 ts 0&&decide (ts.length<=4)),[]))
 | _,_=>.no
def Fh:LoopEnt:=⟨46,[0,8,9,10],[0],[2],fun
 | ([.bx [.sl TPd ts,.sl FNd fs] 0,.sl TPd l,.i .i64 k,.i .i64 i],[])=>.need (decide (0<=i/\i.toNat<=l.length/\k=l.length/\eqT (List Tp) l ts/\l.length<=maxI)&&ts.all EI) (.br (C7 ts i.toNat) (.leaf (.exit 0,([.bx [.sl TPd ts,.sl FNd fs] 0],[]))) (.leaf (.ret,([.b false],[]))))
 | _=>.no⟩
theorem UJ (n:List UInt8) (l:List Ty) (c:Int):Ax prog (Ab [(113,.rd1 Nm),(114,.rd1 Jx),(115,.rd1 A3)]) (Ab []) f76 [.agg [.s n,.sl TCd l,.j c]] [] =
 ((ifT (decide (n.length<=4000000000)) (ifB (tpB (cut (47:UInt8) n)) (ifT (decide (l.length<=4000000000)&&nmL l) (ifB (Bf l) (some (V.b (decide ((0 :
 Int)<=c/\c<=(1000:Int))),[])) (some (V.b false,[])))) (some (V.b false,[])))):_):=by kernel_rfl
theorem Afj:Af prog 76 (Ent.rd1 Xx).F:=by
 refine Ae (kc func113 Adx (kc func114 Ww (kc func115 JD KnowsL.nil))).knows (Λ:=Ab []) func76 (c:=f76.body.getD .skip) (by kernel_rfl) fun vs bs r hq hv hb=>?_
 unfold Ent.F Xx at hq
 dsimp only at hq
 split at hq
 ·rename_i n l c
  obtain ⟨hc,hx⟩:=Ad hq
  unfold EI at hc
  dsimp only at hc
  simp only [anE,dcE] at hc
  refine ⟨Ak _,(UJ n l c).trans (Eq.trans ?_ hx)⟩
  show _=some (V.b (tpB (cut 47 n)&&(Bf l&&decide (0<=c/\c<=1000))),[])
  rw [Aa (dcT hc.1),hc.2.2,dcT hc.2.1]
  cases tpB (cut 47 n)<;>cases Bf l<;>rfl
 ·cases hq
theorem UK (p q:List UInt8):Ax prog (Ab [(136,.rd1 T0),(135,.rd1 Ac5)]) (Ab []) f99 [.s p,.s q] [] =
 ((ifT (decide ((47:Int)=(47:Int)/\p.length<=4000000000)) (ifT (decide ((47:Int)=(47:Int)/\q.length<=4000000000)) (some (V.b (tk EZ
 (take (cut (47:UInt8) p).length (drop 0 (cut (47:UInt8) p))) (take (cut (47:UInt8) q).length (drop 0 (cut (47:UInt8) q)))),
 [])))):_):=by kernel_rfl
theorem Afk:Af prog 99 (Ent.rd1 Xy).F:=by
 refine Ae (kc func136 Ab9 (kc func135 Afo KnowsL.nil)).knows (Λ:=Ab []) func99 (c:=f99.body.getD .skip) (by kernel_rfl) fun vs bs r hq hv hb=>?_
 unfold Ent.F Xy at hq
 dsimp only at hq
 split at hq
 ·rename_i p q
  obtain ⟨hc,hx⟩:=Ad hq
  obtain ⟨h1,h2⟩:=of_decide_eq_true hc
  refine ⟨Ak _,(UK p q).trans (Eq.trans ?_ hx)⟩
  try dsimp only [shr]
  rw [Aa (dcT ⟨rfl,h1⟩),Aa (dcT ⟨rfl,h2⟩)]
  simp only [drop_zero,take_length]
  try rfl
 ·cases hq
abbrev VJ:FuncId->Option Ent:=Ab [(123,.rd1 Nm),(124,.rd1 Jx),(125,.rd1 A3),(104,.rd1 NO)]
theorem Kf (ts:List Tp) (fs:List Fa) (l:List Tp) (k i:Int):Av prog VJ (Ab [(2,Fh)]) 0 (body f84 0) Fh ([.bx [.sl TPd ts,.sl FNd fs] 0,.sl TPd l,.j k,.j i],[]) =
 ((ifB (decide (i<k)) (ifT (decide ((0:Int)<=i)&&decide (i<(↑l.length:Int))) (Ai l[i.toNat]? fun z=>ifT (decide (List.length z.fst<=4000000000))
 (ifB (!tpB (cut (47:UInt8) z.fst)) (some (Ex.ret,[V.b false],[])) (ifT (decide (List.length z.snd.fst.fst<=4000000000)&&nmL z.snd.fst.fst) (ifB (!Bf
 z.snd.fst.fst) (some (Ex.ret,[V.b false],[])) (ifB (!decide ((0:Int)<=z.snd.snd.fst/\z.snd.snd.fst<=(1000:Int))) (some (Ex.ret,[V.b false],[])) (ifB (atT ts
 z.fst != i) (some (Ex.ret,[V.b false],[])) (some (Ex.normal,[V.bx [V.sl TPd ts,V.sl FNd fs] 0,V.sl TPd l,V.j k,V.j (i64.wrap (i+(1 :
 Int)))],[]))))))))) (some (Ex.exit 0,[V.bx [V.sl TPd ts,V.sl FNd fs] 0],[]))):_):=by kernel_rfl
theorem TN (ts:List Tp) (fs:List Fa):Ax prog VJ (Ab [(2,Fh)]) f84 [.bx [.sl TPd ts,.sl FNd fs] 0] [] =
 ((ifT (decide ((0:Int)<=(0:Int)/\0<=ts.length/\(↑ts.length:Int)=(↑ts.length:Int)/\eqT (List Tp) ts ts/\ts.length<=maxI)&&ts.all EI) (ifB (C7
 ts 0) (some (V.b (decide ((↑ts.length:Int)<=(4:Int))),[])) (some (V.b false,[])))):_):=by kernel_rfl
theorem M1 (ts:List Tp) (fs:List Fa) (hm:ts.length<=maxI) (hz:ts.all EI=true) : ∀ (j i:Nat),i+j=ts.length->∀ ex d,(Br.br (C7 ts i) (.leaf (.exit 0,([.bx [.sl TPd ts,.sl FNd fs] 0],[]))) (.leaf (.ret,([.b false],[]))):Br (Ex×Dt)).run=some (ex,d)->Runs prog VJ (Ab [(2,Fh)]) 0 (body f84 0) Fh ([.bx [.sl TPd ts,.sl FNd fs] 0,.sl TPd ts,.j (ts.length:Int),.j (i:Int)],[]) ex d
 | 0,i,hi,ex,d,h=>by
  have hr:=Kf ts fs ts ts.length i
  try dsimp only [shr] at hr
  rw [Ac (dcF (by omega))] at hr
  have e:C7 ts i=true:=by unfold C7; rw [drop_eq_nil_of_le (by simp; omega)]; rfl
  rw [IQ e] at h
  have h8:=Ao h
  obtain ⟨rfl,rfl⟩:=Prod.mk.inj h8
  exact .stop _ _ _ hr (by simp)
 | j+1,i,hi,ex,d,h=>by
  have hM:maxI=9223372036854775807:=rfl
  have hlt:i<ts.length:=by omega
  have hr:=Kf ts fs ts ts.length i
  try dsimp only [shr] at hr
  have hs:=all_eq_true.1 hz _ (getElem_mem hlt)
  unfold EI at hs
  simp only [anE,dcE] at hs
  rw [Ag (dcT (by omega)),Aa (by simp only [anE,dcE]; omega),ntN,gtE hlt,Am,Ap (n:=i) (by omega)] at hr
  have e:C7 ts i=((tOK ts[i]&&atT ts ts[i].1==(i:Int))&&C7 ts (i+1)):=by
   unfold C7
   rw [drop_eq_getElem_cons (by simpa using hlt),all_cons,List.getElem_range]
   congr 1
   unfold TP
   rw [gtE hlt]
  generalize ts[i]=t at hr e hs
  unfold tOK at e
  rw [Aa (dcT hs.1),hs.2.2,dcT hs.2.1] at hr
  have bad : ∀ {w},Av prog VJ (Ab [(2,Fh)]) 0 (body f84 0) Fh ([.bx [.sl TPd ts,.sl FNd fs] 0,.sl TPd ts,.j (ts.length:Int),.j (i:Int)],[])=w->w=some ((.ret:Ex),(([.b false]:List V),([]:List (Option Blk))))->C7 ts i=false->Runs prog VJ (Ab [(2,Fh)]) 0 (body f84 0) Fh ([.bx [.sl TPd ts,.sl FNd fs] 0,.sl TPd ts,.j (ts.length:Int),.j (i:Int)],[]) ex d:=fun e1 e2 e3=>by
   rw [JH e3] at h
   have h8:=Ao h
   obtain ⟨rfl,rfl⟩:=Prod.mk.inj h8
   exact .stop _ _ _ (e1.trans e2) (by simp)
  cases h1:tpB (cut 47 t.1) with
  | false=>rw [h1] at hr e; exact bad hr rfl (by rw [e]; rfl)
  | true=>
   cases h2:Bf t.2.1.1 with
   | false=>rw [h1,h2] at hr e; exact bad hr rfl (by rw [e]; rfl)
   | true=>
    by_cases h3:0<=t.2.2.1/\t.2.2.1<=1000
    ·by_cases h4:atT ts t.1=(i:Int)
     ·have h5:(atT ts t.1==(i:Int))=true:=beq_iff_eq.2 h4
      have h6:(atT ts t.1 != (i:Int))=false:=bne_eq_false_iff_eq.2 h4
      rw [h1,h2,dcT h3,h6] at hr
      rw [h1,h2,dcT h3,h5] at e
      refine .step _ _ _ _ hr (M1 ts fs hm hz j (i+1) (by omega) ex d ?_)
      rw [e] at h
      exact h
     ·have h5:(atT ts t.1==(i:Int))=false:=beq_eq_false_iff_ne.2 h4
      have h6:(atT ts t.1 != (i:Int))=true:=bne_iff_ne.2 h4
      rw [h1,h2,dcT h3,h6] at hr
      exact bad hr rfl (by rw [e,h5]; simp)
    ·rw [h1,h2,dcF h3] at hr e
     exact bad hr rfl (by rw [e]; rfl)
theorem Y8:Ar prog VJ (Ab [(2,Fh)]) 0 (f84.body.getD .skip):=by
 refine An (a:=body f84 0) (by kernel_rfl) fun d ex d' h=>?_
 unfold Fh at h
 dsimp only at h
 split at h
 ·rename_i ts fs l k i
  obtain ⟨hc,hx⟩:=Ad h
  rw [anE] at hc
  obtain ⟨hc,hz⟩:=hc
  obtain ⟨h0,h1,h2,h3,h4⟩:=of_decide_eq_true hc
  have h3:l=ts:=h3
  subst h3
  subst h2
  obtain ⟨i,rfl⟩:=eq_ofNat_of_zero_le h0
  simp only [ntN] at h1 hx
  exact M1 l fs h4 hz (l.length-i) i (by omega) ex d' hx
 ·cases h
theorem Aer:Af prog 84 (Ent.rd1 VW).F:=by
 refine Ae (kc func123 Aet (kc func124 Aeu (kc func125 Dl (kc func104 X7 KnowsL.nil)))).knows (Λ:=(Ab [(2,Fh)])) func84 (c:=f84.body.getD .skip) (by kernel_rfl) fun vs bs r hq hv hb=>?_
 unfold Ent.F VW at hq
 dsimp only at hq
 split at hq
 ·rename_i ts fs
  obtain ⟨hc,hx⟩:=Ad hq
  rw [anE] at hc
  obtain ⟨hm0,hc⟩:=hc
  have hM:maxI=9223372036854775807:=rfl
  have hm:ts.length<=maxI:=by have:=of_decide_eq_true hm0; omega
  refine ⟨Y8,(TN ts fs).trans (Eq.trans ?_ hx)⟩
  try dsimp only [shr]
  show _=some _
  rw [hc,Aa (show (decide ((0:Int)<=0/\0<=ts.length/\(ts.length:Int)=ts.length/\eqT (List Tp) ts ts/\ts.length<=maxI)&&true)=true by rw [Bool.and_true]; exact dcT ⟨by omega,by omega,rfl,rfl,hm⟩)]
  cases C7 ts 0 with
  | false=>rfl
  | true=>
   by_cases q:ts.length<=4
   ·rw [dcT q,dcT (by omega)]; rfl
   ·rw [dcF q,dcF (by omega)]; rfl
 ·cases hq
def Fo (ts:List Tp) (x:List UInt8):Int:=match ts[(atT ts x).toNat]? with | some t=>t.2.2.1 | none=>0
def ntI (ts:List Tp) (z:Rose Lab) (m:List (List UInt8×Int)) (n:Nt):Bool:=decide (0<=atT ts n.1)&&(decide (i64.wrap ((Ct .str m n.1).getD 0+1)<=n.2.1/\n.2.1<=Fo ts n.1)&&NM z n.2.2.1)
def HN (ts:List Tp) (z:Rose Lab):List (List UInt8×Int)->List Nt->Bool
 | _,[]=>true
 | m,n::l=>ntI ts z m n&&HN ts z (D2 .str m n.1 n.2.1) l
def H9 (l:List Nt):Bool:=decide (l.length<=4000000000)&&l.all fun n=>decide (n.2.2.1.length<=4000000000)
def Acs:Gm
 | [.bx [.sl TPd ts,.sl FNd _] 0,.sl NTd l,.tp LCd z 0],[]=>.need (decide (CX z=true)&&H9 l) (.leaf (.b (HN ts z [] l&&decide (l.length<=10)),[]))
 | _,_=>.no
def JE:LoopEnt:=⟨63,[0,1,2,7,14,15,16],[1],[6],fun
 | ([.bx [.sl TPd ts,.sl FNd _] 0,.sl NTd q,.tp LCd z 0,.mref 0,.sl NTd l,.i .i64 k,.i .i64 i],[some (.mp .str (.int .i64) m)])=>.need (decide (0<=i/\i.toNat<=l.length/\k=l.length/\CX z=true)&&H9 l) (.br (HN ts z m (l.drop i.toNat)) (.leaf (.exit 0,([.sl NTd q],[]))) (.leaf (.ret,([.b false],[]))))
 | _=>.no⟩
abbrev VI:FuncId->Option Ent:=Ab [(104,.rd1 NO),(125,.rd1 A3),(106,.rd1 QZ)]
theorem Nc (ts:List Tp) (fs:List Fa) (q:List Nt) (z:Rose Lab) (l:List Nt) (k i:Int) (m:List (List UInt8×Int)):Av prog VI (Ab [(3,JE)]) 0 (body f129 0) JE ([.bx [.sl TPd ts,.sl FNd fs] 0,.sl NTd q,.tp LCd z 0,.mref 0,.sl NTd l,.j k,.j i],[some (.mp .str (.int .i64) m)]) =
 ((ifB (decide (i<k)) (ifT (decide ((0:Int)<=i)&&decide (i<(↑l.length:Int))) (Ai l[i.toNat]? fun z_1=>ifB (decide (atT ts z_1.fst<(0:Int))) (some
 (Ex.ret,[V.b false],[])) (ifT (decide ((0:Int)<=atT ts z_1.fst)&&decide (atT ts z_1.fst<(↑ts.length:Int))) (Ai ts[(atT ts z_1.fst).toNat]? fun z_2=>ifB
 (!decide (i64.wrap ((Ct Cd.str m z_1.fst).getD (0:Int)+(1:Int))<=z_1.snd.fst/\z_1.snd.fst<=z_2.snd.snd.fst)) (some (Ex.ret,[V.b false],[])) (ifT
 (decide (CX z=true/\List.length z_1.snd.snd.fst<=4000000000)) (ifB (!NM z z_1.snd.snd.fst) (some (Ex.ret,[V.b false],[])) (some (Ex.normal,[V.bx [V.sl
 TPd ts,V.sl FNd fs] 0,V.sl NTd q,V.tp LCd z 0,V.mref 0,V.sl NTd l,V.j k,V.j (i64.wrap (i+(1:Int)))],[some (Blk.mp
 Cd.str (Cd.int .i64) (D2 Cd.str m z_1.fst z_1.snd.fst))])))))))) (some (Ex.exit 0,[V.sl NTd q],[]))):_):=by kernel_rfl
theorem XE (ts:List Tp) (fs:List Fa) (l:List Nt) (z:Rose Lab):Ax prog VI (Ab [(3,JE)]) f129 [.bx [.sl TPd ts,.sl FNd fs] 0,.sl NTd l,.tp LCd z 0] [] =
 ((ifT (decide ((0:Int)<=(0:Int)/\0<=l.length/\(↑l.length:Int)=(↑l.length:Int)/\CX z=true)&&H9 l) (ifB (HN ts z (Aj (Cd.str.den×(Cd.int
 .i64).den)) (drop 0 l)) (some (V.b (decide ((↑l.length:Int)<=(10:Int))),[])) (some (V.b false,[])))):_):=by kernel_rfl
theorem SY (ts:List Tp) (x:List UInt8):(atT ts x<0)\/(0<=atT ts x/\(atT ts x).toNat<ts.length/\atT ts x<ts.length):=by
 unfold atT
 rcases Gv (fun t:Tp=>t.1==x) ts 0 with h | h
 ·left; rw [h.1]; decide
 ·right; omega
theorem Qe (ts:List Tp) (fs:List Fa) (q:List Nt) (z:Rose Lab) (hz:CX z=true) (l:List Nt) (hl:l.length<=4000000000) (hs : ∀ n∈l,n.2.2.1.length<=4000000000) : ∀ (j i:Nat) (m:List (List UInt8×Int)),i+j=l.length->∀ ex d,(Br.br (HN ts z m (l.drop i)) (.leaf (.exit 0,([.sl NTd q],[]))) (.leaf (.ret,([.b false],[]))):Br (Ex×Dt)).run=some (ex,d)->Runs prog VI (Ab [(3,JE)]) 0 (body f129 0) JE ([.bx [.sl TPd ts,.sl FNd fs] 0,.sl NTd q,.tp LCd z 0,.mref 0,.sl NTd l,.j (l.length:Int),.j (i:Int)],[some (.mp .str (.int .i64) m)]) ex d
 | 0,i,m,hi,ex,d,h=>by
  have hr:=Nc ts fs q z l l.length i m
  try dsimp only [shr] at hr
  rw [Ac (dcF (by omega))] at hr
  rw [drop_eq_nil_of_le (by omega),HN] at h
  have h8:=Ao h
  obtain ⟨rfl,rfl⟩:=Prod.mk.inj h8
  exact .stop _ _ _ hr (by simp)
 | j+1,i,m,hi,ex,d,h=>by
  have hM:maxI=9223372036854775807:=rfl
  have hlt:i<l.length:=by omega
  have hr:=Nc ts fs q z l l.length i m
  try dsimp only [shr] at hr
  have hs1:=hs _ (getElem_mem hlt)
  rw [Ag (dcT (by omega)),Aa (by simp only [anE,dcE]; omega),ntN,gtE hlt,Am,Ap (n:=i) (by omega)] at hr
  rw [drop_eq_getElem_cons hlt,HN] at h
  have bad : ∀ {w},Av prog VI (Ab [(3,JE)]) 0 (body f129 0) JE ([.bx [.sl TPd ts,.sl FNd fs] 0,.sl NTd q,.tp LCd z 0,.mref 0,.sl NTd l,.j (l.length:Int),.j (i:Int)],[some (.mp .str (.int .i64) m)])=w->w=some ((.ret:Ex),(([.b false]:List V),([]:List (Option Blk))))->ntI ts z m l[i]=false->Runs prog VI (Ab [(3,JE)]) 0 (body f129 0) JE ([.bx [.sl TPd ts,.sl FNd fs] 0,.sl NTd q,.tp LCd z 0,.mref 0,.sl NTd l,.j (l.length:Int),.j (i:Int)],[some (.mp .str (.int .i64) m)]) ex d:=fun e1 e2 e3=>by
   rw [e3,Bool.false_and] at h
   have h8:=Ao h
   obtain ⟨rfl,rfl⟩:=Prod.mk.inj h8
   exact .stop _ _ _ (e1.trans e2) (by simp)
  rcases SY ts l[i].1 with h1 | ⟨h1,h2,h3⟩
  ·rw [Ag (dcT h1)] at hr
   exact bad hr rfl (by unfold ntI; rw [dcF (by omega)]; rfl)
  ·rw [Ac (dcF (by omega)),Aa (by simp only [anE,dcE]; exact ⟨h1,h3⟩),gtE h2,Am] at hr
   have ec:Fo ts l[i].1=ts[(atT ts l[i].1).toNat].2.2.1:=by unfold Fo; rw [gtE h2]
   rw [<-ec,Aa (dcT ⟨hz,hs1⟩)] at hr
   have e:ntI ts z m l[i]=(decide (i64.wrap ((Ct .str m l[i].1).getD 0+1)<=l[i].2.1/\l[i].2.1<=Fo ts l[i].1)&&NM z l[i].2.2.1):=by
    unfold ntI; rw [dcT h1,Bool.true_and]
   rw [e] at bad h
   generalize decide (i64.wrap ((Ct .str m l[i].1).getD 0+1)<=l[i].2.1/\l[i].2.1<=Fo ts l[i].1)=c1 at hr bad h
   generalize NM z l[i].2.2.1=c2 at hr bad h
   cases c1 with
   | false=>exact bad hr rfl rfl
   | true=>
    cases c2 with
    | false=>exact bad hr rfl rfl
    | true=>exact .step _ _ _ _ hr (Qe ts fs q z hz l hl hs j (i+1) _ (by omega) ex d h)
theorem P6 {l:List Nt} (h:H9 l=true):l.length<=4000000000/\∀ n∈l,n.2.2.1.length<=4000000000:=by
 unfold H9 at h
 rw [anE,dcE] at h
 exact ⟨h.1,fun n hn=>of_decide_eq_true (all_eq_true.1 h.2 n hn)⟩
theorem Acr:Ar prog VI (Ab [(3,JE)]) 0 (f129.body.getD .skip):=by
 refine An (a:=body f129 0) (by kernel_rfl) fun d ex d' h=>?_
 unfold JE at h
 dsimp only at h
 split at h
 ·rename_i ts fs q z l k i m
  obtain ⟨hc,hx⟩:=Ad h
  rw [anE] at hc
  obtain ⟨hc,hz⟩:=hc
  obtain ⟨h0,h1,h2,h3⟩:=of_decide_eq_true hc
  subst h2
  obtain ⟨i,rfl⟩:=eq_ofNat_of_zero_le h0
  simp only [ntN] at h1 hx
  obtain ⟨a,b⟩:=P6 hz
  exact Qe ts fs q z h3 l a b (l.length-i) i m (by omega) ex d' hx
 ·cases h
theorem Afl:Af prog 129 (Ent.rd1 Acs).F:=by
 refine Ae (kc func104 X7 (kc func125 Dl (kc func106 TM KnowsL.nil))).knows (Λ:=(Ab [(3,JE)])) func129 (c:=f129.body.getD .skip) (by kernel_rfl) fun vs bs r hq hv hb=>?_
 unfold Ent.F Acs at hq
 dsimp only at hq
 split at hq
 ·rename_i ts fs l z
  obtain ⟨hc,hx⟩:=Ad hq
  rw [anE,dcE] at hc
  refine ⟨Acr,(XE ts fs l z).trans (Eq.trans ?_ hx)⟩
  try dsimp only [shr]
  show _=some _
  rw [hc.2,Aa (show (decide ((0:Int)<=0/\0<=l.length/\(l.length:Int)=l.length/\CX z=true)&&true)=true by rw [Bool.and_true]; exact dcT ⟨by omega,by omega,rfl,hc.1⟩)]
  dsimp only [Aj,drop]
  cases HN ts z [] l with
  | false=>rfl
  | true=>
   by_cases q:l.length<=10
   ·rw [dcT q,dcT (by omega)]; rfl
   ·rw [dcF q,dcF (by omega)]; rfl
 ·cases hq
def ltB (nt:List UInt8) (no:Int) (o:Nt):Bool:=!(o.1==nt&&decide (o.2.1>=no))
def ntS (ts:List Tp) (v:List Ty) (b:List Nt) (i:Nat):Bool:=match b[i]? with
 | some n=>decide (0<=atT ts n.1)&&(decide (1<=n.2.1/\n.2.1<=Fo ts n.1)&&(Mk v n.2.2.1&&(b.take i).all (ltB n.1 n.2.1)))
 | none=>true
def I5 (ts:List Tp) (v:List Ty) (b:List Nt) (i:Nat):Bool:=((range b.length).drop i).all (ntS ts v b)
def Acq:Gm
 | [.agg [.sl TPd ts,.sl FNd _],.agg [.i .i64 _,.s _,.sl WCd _,.sl TCd v,.sl NTd b,.i .i64 _]],[]=>.need (decide (v.length<=4000000000)&&(nmL v&&H9 b)) (.leaf (.b (I5 ts v b 0&&decide (b.length<=10)),[]))
 | _,_=>.no
def Lt:LoopEnt:=⟨79,[2,3,13,14,15],[3],[4],fun
 | ([.ptr 0 0,.ptr 1 0,.sl NTd l,.i .i64 k,.i .i64 i],[bb,bf])=>(match bb with
  | some (.box [.sl TPd ts,.sl FNd _])=>(match bf with
   | some (.box [.i .i64 w,.s p,.sl WCd ws,.sl TCd v,.sl NTd b,.i .i64 t])=>.need (decide (0<=i/\i.toNat<=l.length/\k=l.length/\eqT (List Nt) l b)&&(decide (v.length<=4000000000)&&(nmL v&&H9 b))) (.br (I5 ts v b i.toNat) (.leaf (.exit 0,([.ptr 0 0],[some (.box [.i .i64 w,.s p,.sl WCd ws,.sl TCd v,.sl NTd b,.i .i64 t])]))) (.leaf (.ret,([.b false],[]))))
   | _=>.no)
  | _=>.no)
 | _=>.no⟩
def Lv:LoopEnt:=⟨79,[2,3,6,13,14,15,55,56,57],[2,3,13,14,15],[4],fun
 | ([.ptr 0 0,.ptr 1 0,.ptr 2 0,.sl NTd l,.i .i64 k0,.i .i64 i0,.sl NTd q,.i .i64 k,.i .i64 i],[bb,bf,bn])=>(match bb with
  | some (.box [.sl TPd ts,.sl FNd fs])=>(match bf with
   | some (.box [.i .i64 w,.s p,.sl WCd ws,.sl TCd v,.sl NTd b,.i .i64 t])=>(match bn with
    | some (.box [.s nt,.i .i64 no,.s _])=>.need (decide (0<=i/\i.toNat<=q.length/\k=q.length/\q.length<=maxI)) (.br ((q.drop i.toNat).all (ltB nt no)) (.leaf (.exit 2,([.ptr 0 0,.ptr 1 0,.sl NTd l,.i .i64 k0,.i .i64 i0],[some (.box [.sl TPd ts,.sl FNd fs]),some (.box [.i .i64 w,.s p,.sl WCd ws,.sl TCd v,.sl NTd b,.i .i64 t])]))) (.leaf (.ret,([.b false],[]))))
    | _=>.no)
   | _=>.no)
  | _=>.no)
 | _=>.no⟩
abbrev VH:FuncId->Option Ent:=Ab [(77,.rd1 YN),(115,.rd1 A3),(97,.rd1 Aco)]
theorem Nb (ts:List Tp) (fs:List Fa) (w:Int) (p:List UInt8) (ws:List Wt) (v:List Ty) (b:List Nt) (t:Int) (l:List Nt) (k i:Int):Av prog VH (Ab [(2,Lt),(11,Lv)]) 0 (body f120 0) Lt ([.ptr 0 0,.ptr 1 0,.sl NTd l,.j k,.j i],[some (.box [.sl TPd ts,.sl FNd fs]),some (.box [.j w,.s p,.sl WCd ws,.sl TCd v,.sl NTd b,.j t])]) =
 ((ifB (decide (i<k)) (ifT (decide ((0:Int)<=i)&&decide (i<(↑l.length:Int))) (Ai l[i.toNat]? fun z=>ifB (decide (atT ts z.fst<(0:Int))) (some (Ex.ret,
 [V.b false],[])) (ifT (decide ((0:Int)<=atT ts z.fst)&&decide (atT ts z.fst<(↑ts.length:Int))) (Ai ts[(atT ts z.fst).toNat]? fun z_1=>ifB (!decide ((1 :
 Int)<=z.snd.fst/\z.snd.fst<=z_1.snd.snd.fst)) (some (Ex.ret,[V.b false],[])) (ifT (decide (v.length<=4000000000)&&nmL v) (ifB (!Mk v z.snd.snd.fst)
 (some (Ex.ret,[V.b false],[])) (ifB (!UR v z.snd.snd.fst) (some (Ex.ret,[V.b false],[])) (ifT (decide ((0:Int)<=i)&&decide (i<=(↑b.length:Int))) (ifT
 (decide ((0:Int)<=(0:Int)/\0<=(take (i.toNat-0) (drop 0 b)).length/\(↑(take (i.toNat-0) (drop 0
 b)).length:Int)=(↑(take (i.toNat-0) (drop 0 b)).length:Int)/\(take (i.toNat-0) (drop 0 b)).length<=maxI))
 (ifB ((drop 0 (take (i.toNat-0) (drop 0 b))).all (ltB z.fst z.snd.fst)) (some (Ex.normal,[V.ptr 0 0,V.ptr 1 0,V.sl NTd l,V.i
 .i64 k,V.j (i64.wrap (i+(1:Int)))],[some (Blk.box [V.sl TPd ts,V.sl FNd fs]),some (Blk.box [V.j w,V.s p,V.sl WCd ws,V.sl TCd v,V.sl NTd b,
 V.j t])])) (some (Ex.ret,[V.b false],[])))))))))))) (some (Ex.exit 0,[V.ptr 0 0],[some (Blk.box [V.j w,V.s p,V.sl WCd ws,V.sl TCd v,V.sl NTd b,V.i .i64
 t])]))):_):=by kernel_rfl
theorem Nf (ts:List Tp) (fs:List Fa) (w:Int) (p:List UInt8) (ws:List Wt) (v:List Ty) (b:List Nt) (t:Int) (l:List Nt) (k0 i0:Int) (q:List Nt) (nt:List UInt8) (no:Int) (by_:List UInt8) (k i:Int):Av prog VH (Ab [(2,Lt),(11,Lv)]) 0 (body f120 1) Lv ([.ptr 0 0,.ptr 1 0,.ptr 2 0,.sl NTd l,.j k0,.j i0,.sl NTd q,.j k,.j i],[some (.box [.sl TPd ts,.sl FNd fs]),some (.box [.j w,.s p,.sl WCd ws,.sl TCd v,.sl NTd b,.j t]),some (.box [.s nt,.j no,.s by_])]) =
 ((ifB (decide (i<k)) (ifT (decide ((0:Int)<=i)&&decide (i<(↑q.length:Int))) (Ai q[i.toNat]? fun z=>ifB (z.fst==nt) (ifB (decide (z.snd.fst>=no)) (some
 (Ex.ret,[V.b false],[])) (some (Ex.normal,[V.ptr 0 0,V.ptr 1 0,V.ptr 2 0,V.sl NTd l,V.j k0,V.j i0,V.sl NTd q,V.j k,V.j (i64.wrap (i
 + (1:Int)))],[some (Blk.box [V.sl TPd ts,V.sl FNd fs]),some (Blk.box [V.j w,V.s p,V.sl WCd ws,V.sl TCd v,V.sl NTd b,V.j t]),some (Blk.box [V.s nt,
 V.j no,V.s by_])]))) (some (Ex.normal,[V.ptr 0 0,V.ptr 1 0,V.ptr 2 0,V.sl NTd l,V.j k0,V.j i0,V.sl NTd q,V.j k,V.j (i64.wrap (i
 + (1:Int)))],[some (Blk.box [V.sl TPd ts,V.sl FNd fs]),some (Blk.box [V.j w,V.s p,V.sl WCd ws,V.sl TCd v,V.sl NTd b,V.j t]),some (Blk.box [V.s nt,
 V.j no,V.s by_])])))) (some (Ex.exit 2,[V.ptr 0 0,V.ptr 1 0,V.sl NTd l,V.j k0,V.j i0],[some (Blk.box [V.sl TPd ts,V.sl FNd fs]),some (Blk.box [V.i
 .i64 w,V.s p,V.sl WCd ws,V.sl TCd v,V.sl NTd b,V.j t])]))):_):=by kernel_rfl
theorem XD (ts:List Tp) (fs:List Fa) (w:Int) (p:List UInt8) (ws:List Wt) (v:List Ty) (b:List Nt) (t:Int):Ax prog VH (Ab [(2,Lt),(11,Lv)]) f120 [.agg [.sl TPd ts,.sl FNd fs],.agg [.j w,.s p,.sl WCd ws,.sl TCd v,.sl NTd b,.j t]] [] =
 ((ifT (decide ((0:Int)<=(0:Int)/\0<=b.length/\(↑b.length:Int)=(↑b.length:Int)/\eqT (List Nt) b b)&&(decide (v.length<=4000000000)&&(nmL v
 && H9 b))) (ifB (I5 ts v b 0) (some (V.b (decide ((↑b.length:Int)<=(10:Int))),[])) (some (V.b false,[])))):_):=by kernel_rfl
theorem UT (ts:List Tp) (fs:List Fa) (w:Int) (p:List UInt8) (ws:List Wt) (v:List Ty) (l:List Nt) (t:Int) (hv:decide (v.length<=4000000000)=true) (hn:nmL v=true) (hl:l.length<=4000000000) (i:Nat) (h1:i<=l.length) (ex:Ex) (d':Dt)
  (hx:(Br.br (I5 ts v l i) (.leaf (.exit 0,([.ptr 0 0],[some (.box [.j w,.s p,.sl WCd ws,.sl TCd v,.sl NTd l,.j t])]))) (.leaf (.ret,([.b false],[]))):Br (Ex×Dt)).run=some (ex,d')):Runs prog VH (Ab [(2,Lt),(11,Lv)]) 0 (body f120 0) Lt ([.ptr 0 0,.ptr 1 0,.sl NTd l,.j (l.length:Int),.j (i:Int)],[some (.box [.sl TPd ts,.sl FNd fs]),some (.box [.j w,.s p,.sl WCd ws,.sl TCd v,.sl NTd l,.j t])]) ex d':=by
 have hM:maxI=9223372036854775807:=rfl
 refine B7 (l:=range l.length) (ntS ts v l) (fun i=>([.ptr 0 0,.ptr 1 0,.sl NTd l,.j (l.length:Int),.j (i:Int)],[some (.box [.sl TPd ts,.sl FNd fs]),some (.box [.j w,.s p,.sl WCd ws,.sl TCd v,.sl NTd l,.j t])])) (ex:=(.exit 0,([.ptr 0 0],[some (.box [.j w,.s p,.sl WCd ws,.sl TCd v,.sl NTd l,.j t])]))) (rt:=(.ret,([.b false],[]))) (by simp) (by simp) (fun n hn'=>?_) ?_ (l.length-i) i (by simp; omega) ex d' hx
 ·have hlt:n<l.length:=by simpa using hn'
  have hr:=Nb ts fs w p ws v l t l l.length n
  try dsimp only [shr] at hr
  rw [Ag (dcT (by omega)),Aa (by simp only [anE,dcE]; omega),ntN,gtE hlt,Am,Ap (n:=n) (by omega),hv,hn] at hr
  refine hr.trans ?_
  clear hr
  rw [List.getElem_range]
  have e:ntS ts v l n=(decide (0<=atT ts l[n].1)&&(decide (1<=l[n].2.1/\l[n].2.1<=Fo ts l[n].1)&&(Mk v l[n].2.2.1&&(l.take n).all (ltB l[n].1 l[n].2.1)))):=by
   unfold ntS
   rw [gtE hlt]
  rw [e]
  rcases SY ts l[n].1 with h1 | ⟨h1,h2,h3⟩
  ·rw [Ag (dcT h1),dcF (by omega)]
   rfl
  ·have ec:Fo ts l[n].1=ts[(atT ts l[n].1).toNat].2.2.1:=by unfold Fo; rw [gtE h2]
   rw [Ac (dcF (by omega)),Aa (by simp only [anE,dcE]; exact ⟨h1,h3⟩),gtE h2,Am,<-ec,dcT h1,Bool.true_and,Nat.sub_zero,drop_zero,drop_zero]
   have hk:Mk v l[n].2.2.1=true->UR v l[n].2.2.1=true:=fun h=>by unfold Mk at h; exact ((anE _ _).mp h).1
   generalize decide (1<=l[n].2.1/\l[n].2.1<=Fo ts l[n].1)=c1
   cases c1 with
   | false=>rfl
   | true=>
    cases hq:Mk v l[n].2.2.1 with
    | false=>rfl
    | true=>
     have ht:(l.take n).length<=maxI:=by simp; omega
     rw [hk hq,Aa (show (decide (0<=(n:Int))&&decide ((n:Int)<=(l.length:Int)))=true by simp only [anE,dcE]; omega),Aa (dcT ⟨by omega,by omega,rfl,ht⟩)]
     cases (l.take n).all (ltB l[n].1 l[n].2.1)<;>rfl
 ·have hr:=Nb ts fs w p ws v l t l l.length l.length
  try dsimp only [shr] at hr
  rw [Ac (dcF (by omega))] at hr
  simp only [List.length_range]
  exact hr
theorem US (ts:List Tp) (fs:List Fa) (w:Int) (p:List UInt8) (ws:List Wt) (v:List Ty) (b:List Nt) (t:Int) (l:List Nt) (k0 i0:Int) (q:List Nt) (nt:List UInt8) (no:Int) (by_:List UInt8) (h3:q.length<=maxI) (i:Nat) (h1:i<=q.length) (ex:Ex) (d':Dt)
  (hx:(Br.br ((q.drop i).all (ltB nt no)) (.leaf (.exit 2,([.ptr 0 0,.ptr 1 0,.sl NTd l,.j k0,.j i0],[some (.box [.sl TPd ts,.sl FNd fs]),some (.box [.j w,.s p,.sl WCd ws,.sl TCd v,.sl NTd b,.j t])]))) (.leaf (.ret,([.b false],[]))):Br (Ex×Dt)).run=some (ex,d')):Runs prog VH (Ab [(2,Lt),(11,Lv)]) 0 (body f120 1) Lv ([.ptr 0 0,.ptr 1 0,.ptr 2 0,.sl NTd l,.j k0,.j i0,.sl NTd q,.j (q.length:Int),.j (i:Int)],[some (.box [.sl TPd ts,.sl FNd fs]),some (.box [.j w,.s p,.sl WCd ws,.sl TCd v,.sl NTd b,.j t]),some (.box [.s nt,.j no,.s by_])]) ex d':=by
 have hM:maxI=9223372036854775807:=rfl
 refine B7 (l:=q) (ltB nt no) (fun i=>([.ptr 0 0,.ptr 1 0,.ptr 2 0,.sl NTd l,.j k0,.j i0,.sl NTd q,.j (q.length:Int),.j (i:Int)],[some (.box [.sl TPd ts,.sl FNd fs]),some (.box [.j w,.s p,.sl WCd ws,.sl TCd v,.sl NTd b,.j t]),some (.box [.s nt,.j no,.s by_])])) (ex:=(.exit 2,([.ptr 0 0,.ptr 1 0,.sl NTd l,.j k0,.j i0],[some (.box [.sl TPd ts,.sl FNd fs]),some (.box [.j w,.s p,.sl WCd ws,.sl TCd v,.sl NTd b,.j t])]))) (rt:=(.ret,([.b false],[]))) (by simp) (by simp) (fun n hlt=>?_) ?_ (q.length-i) i (by omega) ex d' hx
 ·have hr:=Nf ts fs w p ws v b t l k0 i0 q nt no by_ q.length n
  try dsimp only [shr] at hr
  rw [Ag (dcT (by omega)),Aa (by simp only [anE,dcE]; omega),ntN,gtE hlt,Am,Ap (n:=n) (by omega)] at hr
  refine hr.trans ?_
  unfold ltB
  cases q[n].1==nt<;>cases decide (q[n].2.1>=no)<;>rfl
 ·have hr:=Nf ts fs w p ws v b t l k0 i0 q nt no by_ q.length q.length
  try dsimp only [shr] at hr
  rw [Ac (dcF (by omega))] at hr
  exact hr
theorem Acp:Ar prog VH (Ab [(2,Lt),(11,Lv)]) 0 (f120.body.getD .skip):=by
 refine LoopsI.loops (cs:=[body f120 0,body f120 1]) ?_ (by kernel_rfl)
 refine .cons (ent:=Lt) (by rfl) (fun d ex d' h=>?_) (.cons (ent:=Lv) (by rfl) (fun d ex d' h=>?_) .nil)
 ·unfold Lt at h
  dsimp only at h
  split at h
  ·rename_i l k i bb bf
   split at h
   ·rename_i ts fs
    split at h
    ·rename_i w p ws v b t
     obtain ⟨hc,hx⟩:=Ad h
     clear h
     rw [anE,anE,anE] at hc
     obtain ⟨hc,hv,hn,hb⟩:=hc
     obtain ⟨h0,h1,h2,h3⟩:=of_decide_eq_true hc
     have h3:l=b:=h3
     subst h3
     subst h2
     obtain ⟨i,rfl⟩:=eq_ofNat_of_zero_le h0
     simp only [ntN] at h1 hx
     exact UT ts fs w p ws v l t hv hn (P6 hb).1 i h1 ex d' hx
    ·cases h
   ·cases h
  ·cases h
 ·unfold Lv at h
  dsimp only at h
  split at h
  ·rename_i l k0 i0 q k i bb bf bn
   split at h
   ·rename_i ts fs
    split at h
    ·rename_i w p ws v b t
     split at h
     ·rename_i nt no by_
      obtain ⟨hc,hx⟩:=Ad h
      clear h
      obtain ⟨h0,h1,h2,h3⟩:=of_decide_eq_true hc
      subst h2
      obtain ⟨i,rfl⟩:=eq_ofNat_of_zero_le h0
      simp only [ntN] at h1 hx
      exact US ts fs w p ws v b t l k0 i0 q nt no by_ h3 i h1 ex d' hx
     ·cases h
    ·cases h
   ·cases h
  ·cases h
theorem Abj:Af prog 120 (Ent.rd1 Acq).F:=by
 refine Ae (kc func77 sat (kc func115 JD (kc func97 Afg KnowsL.nil))).knows (Λ:=(Ab [(2,Lt),(11,Lv)])) func120 (c:=f120.body.getD .skip) (by kernel_rfl) fun vs bs r hq hv hb=>?_
 unfold Ent.F Acq at hq
 dsimp only at hq
 split at hq
 ·rename_i ts fs w p ws v b t
  obtain ⟨hc,hx⟩:=Ad hq
  refine ⟨Acp,(XD ts fs w p ws v b t).trans (Eq.trans ?_ hx)⟩
  try dsimp only [shr]
  show _=some _
  rw [hc,Aa (show (decide ((0:Int)<=0/\0<=b.length/\(b.length:Int)=b.length/\eqT (List Nt) b b)&&true)=true by rw [Bool.and_true]; exact dcT ⟨by omega,by omega,rfl,rfl⟩)]
  cases I5 ts v b 0 with
  | false=>rfl
  | true=>
   by_cases q:b.length<=10
   ·rw [dcT q,dcT (by omega)]; rfl
   ·rw [dcF q,dcF (by omega)]; rfl
 ·cases hq

theorem Y4 {l:List (List UInt8)} (h:tpB l=true) : ∀ y∈l,y≠[35]:=by
 rw [VV,anE,all_eq_true] at h
 intro y hy e
 have:=h.1 y hy
 rw [e,Aa2] at this
 cases this
theorem Tc : ∀ (p t:List (List UInt8)),(∀ y∈t,y≠[35])->tkS EZ p t=tkS inL p t
 | [],_,_=>rfl
 | x::p,[],_=>rfl
 | x::p,y::t,h=>by
  have hy:(y==[35])=false:=beq_false_of_ne (h y (by simp))
  have e:EZ x y=inL x y:=by unfold EZ inL; rw [hy]; simp [Bool.or_comm]
  rw [Hx,Hx]
  dsimp only
  rw [e,Tc p t (fun z hz=>h z (by simp [hz]))]
theorem Abc {p t:List (List UInt8)} (h:tpB t=true):tk EZ p t=tk inL p t:=by
 unfold tk; rw [Tc p t (Y4 h)]
theorem Adm {l:List (List UInt8)} (h:tpB l=true):lvB l=true:=by
 unfold tpB at h; exact (anE _ _ ▸ h).1
def Ef (p:List UInt8) (z:Rose Lab) (t:Tp):Bool:=!(tk inL (cut 47 p) (cut 47 t.1)&&!CJ z (t2L t.2.1.1 0))
def ED (ts:List Tp):Bool:=decide (ts.length<=4000000000)&&(ts.all EI&&ts.all tOK)
def Qy (ts:List Tp) (w:Int) (p:List UInt8) (ws:List Wt) (v:List Ty) (b:List Nt) (t:Int):Bool:=decide (0<=w/\w<=100)&&(lvB (cut 47 p)&&(DY ws&&(Bf v&&(decide (0<=t/\t<=100000)&&(ts.all (Ef p (t2L v 0))&&(HN ts (t2L v 0) [] b&&decide (b.length<=10)))))))
def GQ (ts:List Tp) (p:List UInt8) (v:List Ty) (b:List Nt):Bool:=ED ts&&(decide (p.length<=4000000000/\v.length<=4000000000)&&(nmL v&&H9 b))
def XY:Gm
 | [.bx [.sl TPd ts,.sl FNd _] 0,.agg [.i .i64 w,.s p,.sl WCd ws,.sl TCd v,.sl NTd b,.i .i64 t]],[]=>.need (GQ ts p v b) (.leaf (.b (Qy ts w p ws v b t),[]))
 | _,_=>.no
def fnE:LoopEnt:=⟨67,[0,3,5,40,41,42],[0,3,5],[4],fun
 | ([.bx [.sl TPd ts,.sl FNd fs] 0,.ptr 0 0,.ptr 1 0,.sl TPd l,.i .i64 k,.i .i64 i],[bf,bk,br])=>(match bf with
  | some (.box [.i .i64 w,.s p,.sl WCd ws,.sl TCd v,.sl NTd b,.i .i64 t])=>(match bk with
   | some (.box [.i .i64 x0,.s x1,.i .i64 x2,.b x3,.i .i64 x4,.ref 2 0 n])=>(match br with
    | some (.row false none (.tree LCd) ks)=>.need (decide (n=ks.length)&&(decide (0<=i/\i.toNat<=l.length/\k=l.length/\eqT (List Tp) l ts/\CX (.node (x0,x1,x2,x3,x4,()) ks:Rose Lab)=true/\lvB (cut 47 p)=true/\p.length<=4000000000)&&ED l)) (.br ((l.drop i.toNat).all (Ef p (.node (x0,x1,x2,x3,x4,()) ks:Rose Lab))) (.leaf (.exit 0,([.bx [.sl TPd ts,.sl FNd fs] 0,.ptr 0 0,.ptr 1 0],[some (.box [.i .i64 w,.s p,.sl WCd ws,.sl TCd v,.sl NTd b,.i .i64 t]),some (.box [.i .i64 (.node (x0,x1,x2,x3,x4,()) ks:Rose Lab).lab.1,.s (.node (x0,x1,x2,x3,x4,()) ks:Rose Lab).lab.2.1,.i .i64 (.node (x0,x1,x2,x3,x4,()) ks:Rose Lab).lab.2.2.1,.b (.node (x0,x1,x2,x3,x4,()) ks:Rose Lab).lab.2.2.2.1,.i .i64 (.node (x0,x1,x2,x3,x4,()) ks:Rose Lab).lab.2.2.2.2.1,.ref 2 0 (.node (x0,x1,x2,x3,x4,()) ks:Rose Lab).kids.length]),some (.row false none (.tree LCd) (.node (x0,x1,x2,x3,x4,()) ks:Rose Lab).kids)]))) (.leaf (.ret,([.b false],[]))))
    | _=>.no)
   | _=>.no)
  | _=>.no)
 | _=>.no⟩
abbrev Aah:FuncId->Option Ent:=Ab [(105,.rd1 JT),(125,.rd1 A3),(126,.rd1 Nq),(127,.rd1 IC),(108,.rd1 ER),(107,.rd1 inG),(128,.rd1 (Rb 1000000)),(129,.rd1 Acs)]
theorem Nx (ts:List Tp) (fs:List Fa) (w:Int) (p:List UInt8) (ws:List Wt) (v:List Ty) (b:List Nt) (t:Int) (z:Rose Lab) (l:List Tp) (k i:Int):Av prog Aah (Ab [(5,fnE)]) 0 (body f85 0) fnE ([.bx [.sl TPd ts,.sl FNd fs] 0,.ptr 0 0,.ptr 1 0,.sl TPd l,.j k,.j i],[some (.box [.j w,.s p,.sl WCd ws,.sl TCd v,.sl NTd b,.j t]),some (.box [.j z.lab.1,.s z.lab.2.1,.j z.lab.2.2.1,.b z.lab.2.2.2.1,.j z.lab.2.2.2.2.1,.ref 2 0 z.kids.length]),some (.row false none (.tree LCd) z.kids)]) =
 ((ifB (decide (i<k)) (ifT (decide ((0:Int)<=i)&&decide (i<(↑l.length:Int))) (Ai l[i.toNat]? fun z_1=>ifT (decide (p.length<=4000000000)) (ifB (lvB
 (cut (47:UInt8) p)) (ifT (decide (List.length z_1.fst<=4000000000)) (ifB (lvB (cut (47:UInt8) z_1.fst)) (ifB (tk inL (take (cut (47:UInt8) p).length
 (drop 0 (cut (47:UInt8) p))) (take (cut (47:UInt8) z_1.fst).length (drop 0 (cut (47:UInt8) z_1.fst)))) (ifT (decide (List.length
 z_1.snd.fst.fst<=4000000000)&&nmL z_1.snd.fst.fst) (ifB (Bf z_1.snd.fst.fst) (ifT (decide (At (Rose.node ((kf z_1.snd.fst.fst 0).fst.lab.fst,
 (kf z_1.snd.fst.fst 0).fst.lab.snd.fst,(kf z_1.snd.fst.fst 0).fst.lab.snd.snd.fst,(kf z_1.snd.fst.fst 0).fst.lab.snd.snd.snd.fst,(kf
 z_1.snd.fst.fst 0).fst.lab.snd.snd.snd.snd.fst,()) (take (kf z_1.snd.fst.fst 0).fst.kids.length (drop 0 (kf z_1.snd.fst.fst (0 :
 Nat)).fst.kids)))=true/\At (Rose.node (z.lab.fst,z.lab.snd.fst,z.lab.snd.snd.fst,z.lab.snd.snd.snd.fst,z.lab.snd.snd.snd.snd.fst,()) (take z.kids.length
 (drop 0 z.kids)))=true/\Aq (Rose.node (z.lab.fst,z.lab.snd.fst,z.lab.snd.snd.fst,z.lab.snd.snd.snd.fst,z.lab.snd.snd.snd.snd.fst,()) (take
 z.kids.length (drop 0 z.kids)))<=1000000/\Aq (Rose.node (z.lab.fst,z.lab.snd.fst,z.lab.snd.snd.fst,z.lab.snd.snd.snd.fst,
 z.lab.snd.snd.snd.snd.fst,()) (take z.kids.length (drop 0 z.kids)))<=1000000/\Aq (Rose.node ((kf z_1.snd.fst.fst 0).fst.lab.fst,
 (kf z_1.snd.fst.fst 0).fst.lab.snd.fst,(kf z_1.snd.fst.fst 0).fst.lab.snd.snd.fst,(kf z_1.snd.fst.fst 0).fst.lab.snd.snd.snd.fst,(kf
 z_1.snd.fst.fst 0).fst.lab.snd.snd.snd.snd.fst,()) (take (kf z_1.snd.fst.fst 0).fst.kids.length (drop 0 (kf z_1.snd.fst.fst (0 :
 Nat)).fst.kids)))<=1000000)) (ifB (!CJ (Rose.node (z.lab.fst,z.lab.snd.fst,z.lab.snd.snd.fst,z.lab.snd.snd.snd.fst,z.lab.snd.snd.snd.snd.fst,())
 (take z.kids.length (drop 0 z.kids))) (Rose.node ((kf z_1.snd.fst.fst 0).fst.lab.fst,(kf z_1.snd.fst.fst 0).fst.lab.snd.fst,(kf
 z_1.snd.fst.fst 0).fst.lab.snd.snd.fst,(kf z_1.snd.fst.fst 0).fst.lab.snd.snd.snd.fst,(kf z_1.snd.fst.fst 0).fst.lab.snd.snd.snd.snd.fst,())
 (take (kf z_1.snd.fst.fst 0).fst.kids.length (drop 0 (kf z_1.snd.fst.fst 0).fst.kids)))) (some (Ex.ret,[V.b false],[])) (some
 (Ex.normal,[V.bx [V.sl TPd ts,V.sl FNd fs] 0,V.ptr 0 0,V.ptr 1 0,V.sl TPd l,V.j k,V.j (i64.wrap (i+(1:Int)))],[some (Blk.box [V.i
 .i64 w,V.s p,V.sl WCd ws,V.sl TCd v,V.sl NTd b,V.j t]),some (Blk.box [V.j z.lab.fst,V.s z.lab.snd.fst,V.j z.lab.snd.snd.fst,V.b
 z.lab.snd.snd.snd.fst,V.j z.lab.snd.snd.snd.snd.fst,V.ref 2 0 z.kids.length]),some (Blk.row false none LCd.tree z.kids)])))) none)) (some (Ex.normal,[V.bx [V.sl
 TPd ts,V.sl FNd fs] 0,V.ptr 0 0,V.ptr 1 0,V.sl TPd l,V.j k,V.j (i64.wrap (i+(1:Int)))],[some (Blk.box [V.j w,V.s p,V.sl WCd
 ws,V.sl TCd v,V.sl NTd b,V.j t]),some (Blk.box [V.j z.lab.fst,V.s z.lab.snd.fst,V.j z.lab.snd.snd.fst,V.b z.lab.snd.snd.snd.fst,V.i .i64
 z.lab.snd.snd.snd.snd.fst,V.ref 2 0 z.kids.length]),some (Blk.row false none LCd.tree z.kids)]))) (ifB (tk inL (take (cut (47:UInt8) p).length (drop (0 :
 Nat) (cut (47:UInt8) p))) (Aj Cd.str.den)) (ifT (decide (List.length z_1.snd.fst.fst<=4000000000)&&nmL z_1.snd.fst.fst) (ifB (Bf z_1.snd.fst.fst) (ifT
 (decide (At (Rose.node ((kf z_1.snd.fst.fst 0).fst.lab.fst,(kf z_1.snd.fst.fst 0).fst.lab.snd.fst,(kf z_1.snd.fst.fst (0 :
 Nat)).fst.lab.snd.snd.fst,(kf z_1.snd.fst.fst 0).fst.lab.snd.snd.snd.fst,(kf z_1.snd.fst.fst 0).fst.lab.snd.snd.snd.snd.fst,()) (take (kf
 z_1.snd.fst.fst 0).fst.kids.length (drop 0 (kf z_1.snd.fst.fst 0).fst.kids)))=true/\At (Rose.node (z.lab.fst,z.lab.snd.fst,
 z.lab.snd.snd.fst,z.lab.snd.snd.snd.fst,z.lab.snd.snd.snd.snd.fst,()) (take z.kids.length (drop 0 z.kids)))=true/\Aq (Rose.node (z.lab.fst,
 z.lab.snd.fst,z.lab.snd.snd.fst,z.lab.snd.snd.snd.fst,z.lab.snd.snd.snd.snd.fst,()) (take z.kids.length (drop 0 z.kids)))<=1000000/\Aq
 (Rose.node (z.lab.fst,z.lab.snd.fst,z.lab.snd.snd.fst,z.lab.snd.snd.snd.fst,z.lab.snd.snd.snd.snd.fst,()) (take z.kids.length (drop 0 z.kids)))<=
 1000000/\Aq (Rose.node ((kf z_1.snd.fst.fst 0).fst.lab.fst,(kf z_1.snd.fst.fst 0).fst.lab.snd.fst,(kf z_1.snd.fst.fst (0 :
 Nat)).fst.lab.snd.snd.fst,(kf z_1.snd.fst.fst 0).fst.lab.snd.snd.snd.fst,(kf z_1.snd.fst.fst 0).fst.lab.snd.snd.snd.snd.fst,()) (take (kf
 z_1.snd.fst.fst 0).fst.kids.length (drop 0 (kf z_1.snd.fst.fst 0).fst.kids)))<=1000000)) (ifB (!CJ (Rose.node (z.lab.fst,
 z.lab.snd.fst,z.lab.snd.snd.fst,z.lab.snd.snd.snd.fst,z.lab.snd.snd.snd.snd.fst,()) (take z.kids.length (drop 0 z.kids))) (Rose.node ((kf
 z_1.snd.fst.fst 0).fst.lab.fst,(kf z_1.snd.fst.fst 0).fst.lab.snd.fst,(kf z_1.snd.fst.fst 0).fst.lab.snd.snd.fst,(kf z_1.snd.fst.fst (0 :
 Nat)).fst.lab.snd.snd.snd.fst,(kf z_1.snd.fst.fst 0).fst.lab.snd.snd.snd.snd.fst,()) (take (kf z_1.snd.fst.fst 0).fst.kids.length (drop (0 :
 Nat) (kf z_1.snd.fst.fst 0).fst.kids)))) (some (Ex.ret,[V.b false],[])) (some (Ex.normal,[V.bx [V.sl TPd ts,V.sl FNd fs] 0,V.ptr 0 0,V.ptr 1 0,V.sl
 TPd l,V.j k,V.j (i64.wrap (i+(1:Int)))],[some (Blk.box [V.j w,V.s p,V.sl WCd ws,V.sl TCd v,V.sl NTd b,V.j t]),some (Blk.box [V.i
 .i64 z.lab.fst,V.s z.lab.snd.fst,V.j z.lab.snd.snd.fst,V.b z.lab.snd.snd.snd.fst,V.j z.lab.snd.snd.snd.snd.fst,V.ref 2 0 z.kids.length]),some (Blk.row
 false none LCd.tree z.kids)])))) none)) (some (Ex.normal,[V.bx [V.sl TPd ts,V.sl FNd fs] 0,V.ptr 0 0,V.ptr 1 0,V.sl TPd l,V.j k,V.i .i64
 (i64.wrap (i+(1:Int)))],[some (Blk.box [V.j w,V.s p,V.sl WCd ws,V.sl TCd v,V.sl NTd b,V.j t]),some (Blk.box [V.j z.lab.fst,V.s
 z.lab.snd.fst,V.j z.lab.snd.snd.fst,V.b z.lab.snd.snd.snd.fst,V.j z.lab.snd.snd.snd.snd.fst,V.ref 2 0 z.kids.length]),some (Blk.row false none LCd.tree
 z.kids)]))))) (ifT (decide (List.length z_1.fst<=4000000000)) (ifB (lvB (cut (47:UInt8) z_1.fst)) (ifB (tk inL (Aj Cd.str.den) (take (cut (47:UInt8)
 z_1.fst).length (drop 0 (cut (47:UInt8) z_1.fst)))) (ifT (decide (List.length z_1.snd.fst.fst<=4000000000)&&nmL z_1.snd.fst.fst) (ifB (Bf
 z_1.snd.fst.fst) (ifT (decide (At (Rose.node ((kf z_1.snd.fst.fst 0).fst.lab.fst,(kf z_1.snd.fst.fst 0).fst.lab.snd.fst,(kf z_1.snd.fst.fst (0 :
 Nat)).fst.lab.snd.snd.fst,(kf z_1.snd.fst.fst 0).fst.lab.snd.snd.snd.fst,(kf z_1.snd.fst.fst 0).fst.lab.snd.snd.snd.snd.fst,()) (take (kf
 z_1.snd.fst.fst 0).fst.kids.length (drop 0 (kf z_1.snd.fst.fst 0).fst.kids)))=true/\At (Rose.node (z.lab.fst,z.lab.snd.fst,
 z.lab.snd.snd.fst,z.lab.snd.snd.snd.fst,z.lab.snd.snd.snd.snd.fst,()) (take z.kids.length (drop 0 z.kids)))=true/\Aq (Rose.node (z.lab.fst,
 z.lab.snd.fst,z.lab.snd.snd.fst,z.lab.snd.snd.snd.fst,z.lab.snd.snd.snd.snd.fst,()) (take z.kids.length (drop 0 z.kids)))<=1000000/\Aq
 (Rose.node (z.lab.fst,z.lab.snd.fst,z.lab.snd.snd.fst,z.lab.snd.snd.snd.fst,z.lab.snd.snd.snd.snd.fst,()) (take z.kids.length (drop 0 z.kids)))<=
 1000000/\Aq (Rose.node ((kf z_1.snd.fst.fst 0).fst.lab.fst,(kf z_1.snd.fst.fst 0).fst.lab.snd.fst,(kf z_1.snd.fst.fst (0 :
 Nat)).fst.lab.snd.snd.fst,(kf z_1.snd.fst.fst 0).fst.lab.snd.snd.snd.fst,(kf z_1.snd.fst.fst 0).fst.lab.snd.snd.snd.snd.fst,()) (take (kf
 z_1.snd.fst.fst 0).fst.kids.length (drop 0 (kf z_1.snd.fst.fst 0).fst.kids)))<=1000000)) (ifB (!CJ (Rose.node (z.lab.fst,
 z.lab.snd.fst,z.lab.snd.snd.fst,z.lab.snd.snd.snd.fst,z.lab.snd.snd.snd.snd.fst,()) (take z.kids.length (drop 0 z.kids))) (Rose.node ((kf
 z_1.snd.fst.fst 0).fst.lab.fst,(kf z_1.snd.fst.fst 0).fst.lab.snd.fst,(kf z_1.snd.fst.fst 0).fst.lab.snd.snd.fst,(kf z_1.snd.fst.fst (0 :
 Nat)).fst.lab.snd.snd.snd.fst,(kf z_1.snd.fst.fst 0).fst.lab.snd.snd.snd.snd.fst,()) (take (kf z_1.snd.fst.fst 0).fst.kids.length (drop (0 :
 Nat) (kf z_1.snd.fst.fst 0).fst.kids)))) (some (Ex.ret,[V.b false],[])) (some (Ex.normal,[V.bx [V.sl TPd ts,V.sl FNd fs] 0,V.ptr 0 0,V.ptr 1 0,V.sl
 TPd l,V.j k,V.j (i64.wrap (i+(1:Int)))],[some (Blk.box [V.j w,V.s p,V.sl WCd ws,V.sl TCd v,V.sl NTd b,V.j t]),some (Blk.box [V.i
 .i64 z.lab.fst,V.s z.lab.snd.fst,V.j z.lab.snd.snd.fst,V.b z.lab.snd.snd.snd.fst,V.j z.lab.snd.snd.snd.snd.fst,V.ref 2 0 z.kids.length]),some (Blk.row
 false none LCd.tree z.kids)])))) none)) (some (Ex.normal,[V.bx [V.sl TPd ts,V.sl FNd fs] 0,V.ptr 0 0,V.ptr 1 0,V.sl TPd l,V.j k,V.i .i64
 (i64.wrap (i+(1:Int)))],[some (Blk.box [V.j w,V.s p,V.sl WCd ws,V.sl TCd v,V.sl NTd b,V.j t]),some (Blk.box [V.j z.lab.fst,V.s
 z.lab.snd.fst,V.j z.lab.snd.snd.fst,V.b z.lab.snd.snd.snd.fst,V.j z.lab.snd.snd.snd.snd.fst,V.ref 2 0 z.kids.length]),some (Blk.row false none LCd.tree
 z.kids)]))) (ifT (decide (List.length z_1.snd.fst.fst<=4000000000)&&nmL z_1.snd.fst.fst) (ifB (Bf z_1.snd.fst.fst) (ifT (decide (At (Rose.node ((kf
 z_1.snd.fst.fst 0).fst.lab.fst,(kf z_1.snd.fst.fst 0).fst.lab.snd.fst,(kf z_1.snd.fst.fst 0).fst.lab.snd.snd.fst,(kf z_1.snd.fst.fst (0 :
 Nat)).fst.lab.snd.snd.snd.fst,(kf z_1.snd.fst.fst 0).fst.lab.snd.snd.snd.snd.fst,()) (take (kf z_1.snd.fst.fst 0).fst.kids.length (drop (0 :
 Nat) (kf z_1.snd.fst.fst 0).fst.kids)))=true/\At (Rose.node (z.lab.fst,z.lab.snd.fst,z.lab.snd.snd.fst,z.lab.snd.snd.snd.fst,z.lab.snd.snd.snd.snd.fst,
 ()) (take z.kids.length (drop 0 z.kids)))=true/\Aq (Rose.node (z.lab.fst,z.lab.snd.fst,z.lab.snd.snd.fst,z.lab.snd.snd.snd.fst,
 z.lab.snd.snd.snd.snd.fst,()) (take z.kids.length (drop 0 z.kids)))<=1000000/\Aq (Rose.node (z.lab.fst,z.lab.snd.fst,z.lab.snd.snd.fst,
 z.lab.snd.snd.snd.fst,z.lab.snd.snd.snd.snd.fst,()) (take z.kids.length (drop 0 z.kids)))<=1000000/\Aq (Rose.node ((kf z_1.snd.fst.fst (0
 : Nat)).fst.lab.fst,(kf z_1.snd.fst.fst 0).fst.lab.snd.fst,(kf z_1.snd.fst.fst 0).fst.lab.snd.snd.fst,(kf z_1.snd.fst.fst (0 :
 Nat)).fst.lab.snd.snd.snd.fst,(kf z_1.snd.fst.fst 0).fst.lab.snd.snd.snd.snd.fst,()) (take (kf z_1.snd.fst.fst 0).fst.kids.length (drop (0 :
 Nat) (kf z_1.snd.fst.fst 0).fst.kids)))<=1000000)) (ifB (!CJ (Rose.node (z.lab.fst,z.lab.snd.fst,z.lab.snd.snd.fst,z.lab.snd.snd.snd.fst,
 z.lab.snd.snd.snd.snd.fst,()) (take z.kids.length (drop 0 z.kids))) (Rose.node ((kf z_1.snd.fst.fst 0).fst.lab.fst,(kf z_1.snd.fst.fst (0 :
 Nat)).fst.lab.snd.fst,(kf z_1.snd.fst.fst 0).fst.lab.snd.snd.fst,(kf z_1.snd.fst.fst 0).fst.lab.snd.snd.snd.fst,(kf z_1.snd.fst.fst (0 :
 Nat)).fst.lab.snd.snd.snd.snd.fst,()) (take (kf z_1.snd.fst.fst 0).fst.kids.length (drop 0 (kf z_1.snd.fst.fst 0).fst.kids)))) (some
 (Ex.ret,[V.b false],[])) (some (Ex.normal,[V.bx [V.sl TPd ts,V.sl FNd fs] 0,V.ptr 0 0,V.ptr 1 0,V.sl TPd l,V.j k,V.j (i64.wrap (i+(1
 : Int)))],[some (Blk.box [V.j w,V.s p,V.sl WCd ws,V.sl TCd v,V.sl NTd b,V.j t]),some (Blk.box [V.j z.lab.fst,V.s z.lab.snd.fst,V.i .i64
 z.lab.snd.snd.fst,V.b z.lab.snd.snd.snd.fst,V.j z.lab.snd.snd.snd.snd.fst,V.ref 2 0 z.kids.length]),some (Blk.row false none LCd.tree z.kids)])))) none)))))))
 (some (Ex.exit 0,[V.bx [V.sl TPd ts,V.sl FNd fs] 0,V.ptr 0 0,V.ptr 1 0],[some (Blk.box [V.j w,V.s p,V.sl WCd ws,V.sl TCd v,V.sl NTd b,V.j t]),
 some (Blk.box [V.j z.lab.fst,V.s z.lab.snd.fst,V.j z.lab.snd.snd.fst,V.b z.lab.snd.snd.snd.fst,V.j z.lab.snd.snd.snd.snd.fst,V.ref 2 0
 z.kids.length]),some (Blk.row false none LCd.tree z.kids)]))):_):=by kernel_rfl
theorem ZG (ts:List Tp) (fs:List Fa) (w:Int) (p:List UInt8) (ws:List Wt) (v:List Ty) (b:List Nt) (t:Int):Ax prog Aah (Ab [(5,fnE)]) f85 [.bx [.sl TPd ts,.sl FNd fs] 0,.agg [.j w,.s p,.sl WCd ws,.sl TCd v,.sl NTd b,.j t]] [] =
 ((ifT (decide (v.length<=4000000000)&&nmL v) (ifB (Bf v) (ifB (!decide ((0:Int)<=w/\w<=(100:Int))) (some (V.b false,[])) (ifT (decide (p.length<=
 4000000000)) (ifB (!lvB (cut (47:UInt8) p)) (some (V.b false,[])) (ifB (!DY ws) (some (V.b false,[])) (ifB (!decide ((0:Int)<=t/\t<=(100000:Int)))
 (some (V.b false,[])) (ifT (decide ((kf v 0).fst.kids.length=(kf v 0).fst.kids.length)&&(decide ((0:Int)<=(0:Int)/\0<=ts.length/\
 (↑ts.length:Int)=(↑ts.length:Int)/\eqT (List Tp) ts ts/\CX (Rose.node ((kf v 0).fst.lab.fst,(kf v 0).fst.lab.snd.fst,(kf v (0 :
 Nat)).fst.lab.snd.snd.fst,(kf v 0).fst.lab.snd.snd.snd.fst,(kf v 0).fst.lab.snd.snd.snd.snd.fst,()) (kf v 0).fst.kids)=true/\lvB (cut (47 :
 UInt8) p)=true/\p.length<=4000000000)&&ED ts)) (ifB ((drop 0 ts).all (Ef p (Rose.node ((kf v 0).fst.lab.fst,(kf v (0 :
 Nat)).fst.lab.snd.fst,(kf v 0).fst.lab.snd.snd.fst,(kf v 0).fst.lab.snd.snd.snd.fst,(kf v 0).fst.lab.snd.snd.snd.snd.fst,()) (kf v (0 :
 Nat)).fst.kids))) (ifT (decide (CX (Rose.node ((Rose.node ((kf v 0).fst.lab.fst,(kf v 0).fst.lab.snd.fst,(kf v 0).fst.lab.snd.snd.fst,(kf v
 0).fst.lab.snd.snd.snd.fst,(kf v 0).fst.lab.snd.snd.snd.snd.fst,()) (kf v 0).fst.kids).lab.fst,(Rose.node ((kf v 0).fst.lab.fst,(kf v
 0).fst.lab.snd.fst,(kf v 0).fst.lab.snd.snd.fst,(kf v 0).fst.lab.snd.snd.snd.fst,(kf v 0).fst.lab.snd.snd.snd.snd.fst,()) (kf v (0 :
 Nat)).fst.kids).lab.snd.fst,(Rose.node ((kf v 0).fst.lab.fst,(kf v 0).fst.lab.snd.fst,(kf v 0).fst.lab.snd.snd.fst,(kf v (0 :
 Nat)).fst.lab.snd.snd.snd.fst,(kf v 0).fst.lab.snd.snd.snd.snd.fst,()) (kf v 0).fst.kids).lab.snd.snd.fst,(Rose.node ((kf v 0).fst.lab.fst,(kf
 v 0).fst.lab.snd.fst,(kf v 0).fst.lab.snd.snd.fst,(kf v 0).fst.lab.snd.snd.snd.fst,(kf v 0).fst.lab.snd.snd.snd.snd.fst,()) (kf v (0 :
 Nat)).fst.kids).lab.snd.snd.snd.fst,(Rose.node ((kf v 0).fst.lab.fst,(kf v 0).fst.lab.snd.fst,(kf v 0).fst.lab.snd.snd.fst,(kf v (0 :
 Nat)).fst.lab.snd.snd.snd.fst,(kf v 0).fst.lab.snd.snd.snd.snd.fst,()) (kf v 0).fst.kids).lab.snd.snd.snd.snd.fst,()) (take (Rose.node ((kf v (0 :
 Nat)).fst.lab.fst,(kf v 0).fst.lab.snd.fst,(kf v 0).fst.lab.snd.snd.fst,(kf v 0).fst.lab.snd.snd.snd.fst,(kf v (0 :
 Nat)).fst.lab.snd.snd.snd.snd.fst,()) (kf v 0).fst.kids).kids.length (drop 0 (Rose.node ((kf v 0).fst.lab.fst,(kf v (0 :
 Nat)).fst.lab.snd.fst,(kf v 0).fst.lab.snd.snd.fst,(kf v 0).fst.lab.snd.snd.snd.fst,(kf v 0).fst.lab.snd.snd.snd.snd.fst,()) (kf v (0 :
 Nat)).fst.kids).kids)))=true)&&H9 b) (some (V.b (HN ts (Rose.node ((Rose.node ((kf v 0).fst.lab.fst,(kf v 0).fst.lab.snd.fst,(kf v (0 :
 Nat)).fst.lab.snd.snd.fst,(kf v 0).fst.lab.snd.snd.snd.fst,(kf v 0).fst.lab.snd.snd.snd.snd.fst,()) (kf v 0).fst.kids).lab.fst,(Rose.node ((kf
 v 0).fst.lab.fst,(kf v 0).fst.lab.snd.fst,(kf v 0).fst.lab.snd.snd.fst,(kf v 0).fst.lab.snd.snd.snd.fst,(kf v (0 :
 Nat)).fst.lab.snd.snd.snd.snd.fst,()) (kf v 0).fst.kids).lab.snd.fst,(Rose.node ((kf v 0).fst.lab.fst,(kf v 0).fst.lab.snd.fst,(kf v (0 :
 Nat)).fst.lab.snd.snd.fst,(kf v 0).fst.lab.snd.snd.snd.fst,(kf v 0).fst.lab.snd.snd.snd.snd.fst,()) (kf v 0).fst.kids).lab.snd.snd.fst,
 (Rose.node ((kf v 0).fst.lab.fst,(kf v 0).fst.lab.snd.fst,(kf v 0).fst.lab.snd.snd.fst,(kf v 0).fst.lab.snd.snd.snd.fst,(kf v (0 :
 Nat)).fst.lab.snd.snd.snd.snd.fst,()) (kf v 0).fst.kids).lab.snd.snd.snd.fst,(Rose.node ((kf v 0).fst.lab.fst,(kf v 0).fst.lab.snd.fst,(kf v
 0).fst.lab.snd.snd.fst,(kf v 0).fst.lab.snd.snd.snd.fst,(kf v 0).fst.lab.snd.snd.snd.snd.fst,()) (kf v (0 :
 Nat)).fst.kids).lab.snd.snd.snd.snd.fst,()) (take (Rose.node ((kf v 0).fst.lab.fst,(kf v 0).fst.lab.snd.fst,(kf v 0).fst.lab.snd.snd.fst,
 (kf v 0).fst.lab.snd.snd.snd.fst,(kf v 0).fst.lab.snd.snd.snd.snd.fst,()) (kf v 0).fst.kids).kids.length (drop 0 (Rose.node ((kf v
 0).fst.lab.fst,(kf v 0).fst.lab.snd.fst,(kf v 0).fst.lab.snd.snd.fst,(kf v 0).fst.lab.snd.snd.snd.fst,(kf v (0 :
 Nat)).fst.lab.snd.snd.snd.snd.fst,()) (kf v 0).fst.kids).kids))) (Aj (List UInt8×Int)) b&&decide (b.length<=10)),[]))) (some (V.b false,
 []))))))))) (ifB (!decide ((0:Int)<=w/\w<=(100:Int))) (some (V.b false,[])) (ifT (decide (p.length<=4000000000)) (ifB (!lvB (cut (47:UInt8) p)) (some
 (V.b false,[])) (ifB (!DY ws) (some (V.b false,[])) (some (V.b false,[])))))))):_):=by kernel_rfl
theorem Tb {ts:List Tp} (h:ED ts=true):ts.length<=4000000000/\ts.all EI=true/\(∀ t∈ts,(t.1.length<=4000000000/\t.2.1.1.length<=4000000000/\nmL t.2.1.1=true)/\tpB (cut 47 t.1)=true/\Bf t.2.1.1=true/\0<=t.2.2.1/\t.2.2.1<=1000):=by
 unfold ED at h
 rw [anE,anE,dcE] at h
 obtain ⟨h1,h2,h3⟩:=h
 refine ⟨h1,h2,fun t ht=>?_⟩
 have a:=all_eq_true.1 h2 t ht
 have b:=all_eq_true.1 h3 t ht
 unfold EI at a
 unfold tOK at b
 simp only [anE,dcE] at a b
 exact ⟨⟨a.1,a.2.1,a.2.2⟩,b.1,b.2.1,b.2.2⟩
theorem ZH (l:List Tp) (fs:List Fa) (w:Int) (p:List UInt8) (ws:List Wt) (v:List Ty) (b:List Nt) (t:Int) (z:Rose Lab) (hz:CX z=true) (hlv:lvB (cut 47 p)=true) (hp:p.length<=4000000000) (ht:ED l=true) (i:Nat) (h1:i<=l.length) (ex:Ex) (d':Dt)
  (hx:(Br.br ((l.drop i).all (Ef p z)) (.leaf ((.exit 0:Ex),([.bx [.sl TPd l,.sl FNd fs] 0,.ptr 0 0,.ptr 1 0],[some (.box [.j w,.s p,.sl WCd ws,.sl TCd v,.sl NTd b,.j t]),some (.box [.j z.lab.1,.s z.lab.2.1,.j z.lab.2.2.1,.b z.lab.2.2.2.1,.j z.lab.2.2.2.2.1,.ref 2 0 z.kids.length]),some (.row false none (.tree LCd) z.kids)]))) (.leaf ((.ret:Ex),([.b false],[]))):Br (Ex×Dt)).run=some (ex,d')):Runs prog Aah (Ab [(5,fnE)]) 0 (body f85 0) fnE ([.bx [.sl TPd l,.sl FNd fs] 0,.ptr 0 0,.ptr 1 0,.sl TPd l,.j (l.length:Int),.j (i:Int)],[some (.box [.j w,.s p,.sl WCd ws,.sl TCd v,.sl NTd b,.j t]),some (.box [.j z.lab.1,.s z.lab.2.1,.j z.lab.2.2.1,.b z.lab.2.2.2.1,.j z.lab.2.2.2.2.1,.ref 2 0 z.kids.length]),some (.row false none (.tree LCd) z.kids)]) ex d':=by
 have hM:maxI=9223372036854775807:=rfl
 obtain ⟨hl,_,hall⟩:=Tb ht
 refine B7 (l:=l) (Ef p z) (fun i=>([.bx [.sl TPd l,.sl FNd fs] 0,.ptr 0 0,.ptr 1 0,.sl TPd l,.j (l.length:Int),.j (i:Int)],[some (.box [.j w,.s p,.sl WCd ws,.sl TCd v,.sl NTd b,.j t]),some (.box [.j z.lab.1,.s z.lab.2.1,.j z.lab.2.2.1,.b z.lab.2.2.2.1,.j z.lab.2.2.2.2.1,.ref 2 0 z.kids.length]),some (.row false none (.tree LCd) z.kids)])) (ex:=((.exit 0:Ex),([.bx [.sl TPd l,.sl FNd fs] 0,.ptr 0 0,.ptr 1 0],[some (.box [.j w,.s p,.sl WCd ws,.sl TCd v,.sl NTd b,.j t]),some (.box [.j z.lab.1,.s z.lab.2.1,.j z.lab.2.2.1,.b z.lab.2.2.2.1,.j z.lab.2.2.2.2.1,.ref 2 0 z.kids.length]),some (.row false none (.tree LCd) z.kids)]))) (rt:=((.ret:Ex),([.b false],[]))) (by simp) (by simp) (fun n hlt=>?_) ?_ (l.length-i) i (by omega) ex d' hx
 ·have hr:=Nx l fs w p ws v b t z l l.length n
  try dsimp only [shr] at hr
  obtain ⟨⟨s1,s2,s3⟩,g1,g2,_⟩:=hall _ (getElem_mem hlt)
  obtain ⟨q1,q2,q3⟩:=Dq hz
  rw [Ag (dcT (by omega)),Aa (by simp only [anE,dcE]; omega),ntN,gtE hlt,Am,Ap (n:=n) (by omega),Aa (dcT hp),hlv,Be,Aa (dcT s1),Adm g1,Be] at hr
  refine hr.trans ?_
  clear hr hall hx
  obtain ⟨m1,m2,m3⟩:=Hz g2
  obtain ⟨r1,r2,r3⟩:=Dq m1
  have ek:=(HX l[n].2.1.1).2 g2
  simp only [drop_zero,take_length,BV]
  unfold Ef
  cases h3:tk inL (cut 47 p) (cut 47 l[n].1) with
  | false=>rfl
  | true=>
   rw [Be,Aa (by simp only [anE,dcE]; exact ⟨s2,s3⟩),g2,Be,ek,Aa (dcT ⟨r2,q2,by omega,by omega,by omega⟩)]
   cases CJ z (t2L l[n].2.1.1 0)<;>rfl
 ·have hr:=Nx l fs w p ws v b t z l l.length l.length
  try dsimp only [shr] at hr
  rw [Ac (dcF (by omega))] at hr
  exact hr
theorem Ae3:Ar prog Aah (Ab [(5,fnE)]) 0 (f85.body.getD .skip):=by
 refine An (a:=body f85 0) (by kernel_rfl) fun d ex d' h=>?_
 unfold fnE at h
 dsimp only at h
 split at h
 ·rename_i ts fs l k i bf bk br
  split at h
  ·rename_i w p ws v b t
   split at h
   ·rename_i x0 x1 x2 x3 x4 n
    split at h
    ·rename_i ks
     obtain ⟨hc,hx⟩:=Ad h
     clear h
     rw [anE,anE,dcE] at hc
     obtain ⟨hn,hc,ht⟩:=hc
     obtain ⟨h0,h1,h2,h3,h4,h5,h6⟩:=of_decide_eq_true hc
     have h3:l=ts:=h3
     subst h3
     subst h2
     subst hn
     obtain ⟨i,rfl⟩:=eq_ofNat_of_zero_le h0
     simp only [ntN] at h1 hx
     exact ZH l fs w p ws v b t (.node (x0,x1,x2,x3,x4,()) ks:Rose Lab) h4 h5 h6 ht i h1 ex d' hx
    ·cases h
   ·cases h
  ·cases h
 ·cases h
theorem Acx:Af prog 85 (Ent.rd1 XY).F:=by
 refine Ae (kc func105 Xz (kc func125 Dl (kc func126 Aev (kc func127 Acu (kc func108 Sc (kc func107 tin (kc func128 (Y3 1000000) (kc func129 Afl KnowsL.nil)))))))).knows (Λ:=(Ab [(5,fnE)])) func85 (c:=f85.body.getD .skip) (by kernel_rfl) fun vs bs r hq hv hb=>?_
 unfold Ent.F XY at hq
 dsimp only at hq
 split at hq
 ·rename_i ts fs w p ws v b t
  obtain ⟨hc,hx⟩:=Ad hq
  unfold GQ at hc
  simp only [anE,dcE] at hc
  obtain ⟨ht,⟨hp,hv⟩,hn,hb⟩:=hc
  refine ⟨Ae3,(ZG ts fs w p ws v b t).trans (Eq.trans ?_ hx)⟩
  try dsimp only [shr]
  show _=some _
  unfold Qy
  simp only [drop_zero,take_length,BV]
  rw [Aa (by simp only [anE,dcE]; exact ⟨hv,hn⟩)]
  generalize hw:decide (0<=w/\w<=100)=c1
  generalize decide (0<=t/\t<=100000)=c2
  cases hk:Bf v with
  | false=>
   rw [AS]
   cases c1 with
   | false=>rfl
   | true=>
    rw [Bool.not_true,AS,Aa (dcT hp)]
    cases lvB (cut 47 p) with
    | false=>rfl
    | true=>cases DY ws<;>rfl
  | true=>
   have ek:=(HX v).2 hk
   rw [Be,ek]
   cases c1 with
   | false=>rfl
   | true=>
    rw [Bool.not_true,AS,Aa (dcT hp)]
    cases hl:lvB (cut 47 p) with
    | false=>rfl
    | true=>
     cases DY ws with
     | false=>rfl
     | true=>
      cases c2 with
      | false=>rfl
      | true=>
       have g:=(Hz hk).1
       rw [Bool.not_true,AS,AS,AS,Aa (by rw [anE,anE]; exact ⟨dcT (by first | rfl | trivial),dcT (by refine ⟨by omega,by omega,?_,?_,g,?_,hp⟩<;>first | rfl | trivial),ht⟩)]
       cases ts.all (Ef p (t2L v 0)) with
       | false=>rfl
       | true=>
        rw [Be,Aa (by simp only [anE,dcE]; exact ⟨g,hb⟩)]
        rfl
 ·cases hq
def Qx (ts:List Tp) (w:Int) (p:List UInt8) (ws:List Wt) (v:List Ty) (b:List Nt) (t:Int):Bool:=decide (0<=w/\w<=100)&&(lvB (cut 47 p)&&(DY ws&&(Bf v&&(decide (0<=t/\t<=100000)&&(ts.all (Ef p (t2L v 0))&&(I5 ts v b 0&&decide (b.length<=10)))))))
def XX:Gm
 | [.agg [.sl TPd ts,.sl FNd _],.agg [.i .i64 w,.s p,.sl WCd ws,.sl TCd v,.sl NTd b,.i .i64 t]],[]=>.need (GQ ts p v b) (.leaf (.b (Qx ts w p ws v b t),[]))
 | _,_=>.no
def sfE:LoopEnt:=⟨61,[2,3,36,37,38],[2,3],[4],fun
 | ([.ptr 0 0,.ptr 1 0,.sl TPd l,.i .i64 k,.i .i64 i],[bb,bf])=>(match bb with
  | some (.box [.sl TPd ts,.sl FNd fs])=>(match bf with
   | some (.box [.i .i64 w,.s p,.sl WCd ws,.sl TCd v,.sl NTd b,.i .i64 t])=>.need (decide (0<=i/\i.toNat<=l.length/\k=l.length/\eqT (List Tp) l ts/\Bf v=true/\p.length<=4000000000/\v.length<=4000000000)&&ED l) (.br ((l.drop i.toNat).all (Ef p (t2L v 0))) (.leaf ((.exit 0:Ex),([.ptr 0 0,.ptr 1 0],[some (.box [.sl TPd ts,.sl FNd fs]),some (.box [.i .i64 w,.s p,.sl WCd ws,.sl TCd v,.sl NTd b,.i .i64 t])]))) (.leaf (.ret,([.b false],[]))))
   | _=>.no)
  | _=>.no)
 | _=>.no⟩
abbrev Aag:FuncId->Option Ent:=Ab [(115,.rd1 A3),(116,.rd1 Nq),(117,.rd1 IC),(114,.rd1 Jx),(99,.rd1 Xy),(119,.rd1 HG),(118,.rd1 (R8 1000000)),(120,.rd1 Acq)]
theorem K1 (ts:List Tp) (fs:List Fa) (w:Int) (p:List UInt8) (ws:List Wt) (v:List Ty) (b:List Nt) (t:Int) (l:List Tp) (k i:Int):Av prog Aag (Ab [(4,sfE)]) 0 (body f78 0) sfE ([.ptr 0 0,.ptr 1 0,.sl TPd l,.j k,.j i],[some (.box [.sl TPd ts,.sl FNd fs]),some (.box [.j w,.s p,.sl WCd ws,.sl TCd v,.sl NTd b,.j t])]) =
 ((ifB (decide (i<k)) (ifT (decide ((0:Int)<=i)&&decide (i<(↑l.length:Int))) (Ai l[i.toNat]? fun z=>ifT (decide (p.length<=4000000000/\List.length
 z.fst<=4000000000)) (ifB (tk EZ (cut (47:UInt8) p) (cut (47:UInt8) z.fst)) (ifT (decide ((0:Int)<=(0:Int)/\0<List.length z.snd.fst.fst/\
 List.length z.snd.fst.fst<=4000000000)) (ifT (decide ((0:Int)<=(0:Int)/\0<v.length/\v.length<=4000000000)) (ifT (decide (At
 (Rose.node ((t2L z.snd.fst.fst 0).lab.fst,(t2L z.snd.fst.fst 0).lab.snd.fst,(t2L z.snd.fst.fst 0).lab.snd.snd.fst,(t2L z.snd.fst.fst (0 :
 Nat)).lab.snd.snd.snd.fst,(t2L z.snd.fst.fst 0).lab.snd.snd.snd.snd.fst,()) (take (t2L z.snd.fst.fst 0).kids.length (drop 0 (t2L
 z.snd.fst.fst 0).kids)))=true/\At (Rose.node ((t2L v 0).lab.fst,(t2L v 0).lab.snd.fst,(t2L v 0).lab.snd.snd.fst,(t2L v (0 :
 Nat)).lab.snd.snd.snd.fst,(t2L v 0).lab.snd.snd.snd.snd.fst,()) (take (t2L v 0).kids.length (drop 0 (t2L v 0).kids)))=true/\
 Aq (Rose.node ((t2L v 0).lab.fst,(t2L v 0).lab.snd.fst,(t2L v 0).lab.snd.snd.fst,(t2L v 0).lab.snd.snd.snd.fst,(t2L v (0 :
 Nat)).lab.snd.snd.snd.snd.fst,()) (take (t2L v 0).kids.length (drop 0 (t2L v 0).kids)))<=1000000/\Aq (Rose.node ((t2L v (0
 : Nat)).lab.fst,(t2L v 0).lab.snd.fst,(t2L v 0).lab.snd.snd.fst,(t2L v 0).lab.snd.snd.snd.fst,(t2L v 0).lab.snd.snd.snd.snd.fst,())
 (take (t2L v 0).kids.length (drop 0 (t2L v 0).kids)))<=1000000/\Aq (Rose.node ((t2L z.snd.fst.fst 0).lab.fst,(t2L
 z.snd.fst.fst 0).lab.snd.fst,(t2L z.snd.fst.fst 0).lab.snd.snd.fst,(t2L z.snd.fst.fst 0).lab.snd.snd.snd.fst,(t2L z.snd.fst.fst (0 :
 Nat)).lab.snd.snd.snd.snd.fst,()) (take (t2L z.snd.fst.fst 0).kids.length (drop 0 (t2L z.snd.fst.fst 0).kids)))<=1000000))
 (ifB (!CJ (Rose.node ((t2L v 0).lab.fst,(t2L v 0).lab.snd.fst,(t2L v 0).lab.snd.snd.fst,(t2L v 0).lab.snd.snd.snd.fst,(t2L v (0 :
 Nat)).lab.snd.snd.snd.snd.fst,()) (take (t2L v 0).kids.length (drop 0 (t2L v 0).kids))) (Rose.node ((t2L z.snd.fst.fst (0 :
 Nat)).lab.fst,(t2L z.snd.fst.fst 0).lab.snd.fst,(t2L z.snd.fst.fst 0).lab.snd.snd.fst,(t2L z.snd.fst.fst 0).lab.snd.snd.snd.fst,(t2L
 z.snd.fst.fst 0).lab.snd.snd.snd.snd.fst,()) (take (t2L z.snd.fst.fst 0).kids.length (drop 0 (t2L z.snd.fst.fst 0).kids))))
 (some (Ex.ret,[V.b false],[])) (some (Ex.normal,[V.ptr 0 0,V.ptr 1 0,V.sl TPd l,V.j k,V.j (i64.wrap (i+(1:Int)))],[some (Blk.box [V.sl TPd
 ts,V.sl FNd fs]),some (Blk.box [V.j w,V.s p,V.sl WCd ws,V.sl TCd v,V.sl NTd b,V.j t])])))))) (some (Ex.normal,[V.ptr 0 0,V.ptr 1 0,V.sl TPd l,V.i
 .i64 k,V.j (i64.wrap (i+(1:Int)))],[some (Blk.box [V.sl TPd ts,V.sl FNd fs]),some (Blk.box [V.j w,V.s p,V.sl WCd ws,V.sl TCd v,V.sl NTd b,
 V.j t])]))))) (some (Ex.exit 0,[V.ptr 0 0,V.ptr 1 0],[some (Blk.box [V.sl TPd ts,V.sl FNd fs]),some (Blk.box [V.j w,V.s p,V.sl WCd ws,V.sl TCd v,V.sl
 NTd b,V.j t])]))):_):=by kernel_rfl
theorem Ur (ts:List Tp) (fs:List Fa) (w:Int) (p:List UInt8) (ws:List Wt) (v:List Ty) (b:List Nt) (t:Int):Ax prog Aag (Ab [(4,sfE)]) f78 [.agg [.sl TPd ts,.sl FNd fs],.agg [.j w,.s p,.sl WCd ws,.sl TCd v,.sl NTd b,.j t]] [] =
 ((ifB (!decide ((0:Int)<=w/\w<=(100:Int))) (some (V.b false,[])) (ifT (decide (p.length<=4000000000)) (ifB (!lvB (cut (47:UInt8) p)) (some (V.b false,
 [])) (ifB (!DY ws) (some (V.b false,[])) (ifT (decide (v.length<=4000000000)&&nmL v) (ifB (!Bf v) (some (V.b false,[])) (ifB (!decide ((0:Int)<=t/\
 t<=(100000:Int))) (some (V.b false,[])) (ifT (decide ((0:Int)<=(0:Int)/\0<=ts.length/\(↑ts.length:Int)=(↑ts.length:Int)/\eqT (List Tp) ts ts/\
 Bf v=true/\p.length<=4000000000/\v.length<=4000000000)&&ED ts) (ifB ((drop 0 ts).all (Ef p (t2L v 0))) (ifT (decide
 (v.length<=4000000000)&&(nmL v&&H9 b)) (some (V.b (I5 ts v b 0&&decide (b.length<=10)),[]))) (some (V.b false,[]))))))))))):_):=by kernel_rfl
theorem Us (l:List Tp) (fs:List Fa) (w:Int) (p:List UInt8) (ws:List Wt) (v:List Ty) (b:List Nt) (t:Int) (hk:Bf v=true) (hp:p.length<=4000000000) (hv:v.length<=4000000000) (ht:ED l=true) (i:Nat) (h1:i<=l.length) (ex:Ex) (d':Dt)
  (hx:(Br.br ((l.drop i).all (Ef p (t2L v 0))) (.leaf ((.exit 0:Ex),([.ptr 0 0,.ptr 1 0],[some (.box [.sl TPd l,.sl FNd fs]),some (.box [.j w,.s p,.sl WCd ws,.sl TCd v,.sl NTd b,.j t])]))) (.leaf ((.ret:Ex),([.b false],[]))):Br (Ex×Dt)).run=some (ex,d')):Runs prog Aag (Ab [(4,sfE)]) 0 (body f78 0) sfE ([.ptr 0 0,.ptr 1 0,.sl TPd l,.j (l.length:Int),.j (i:Int)],[some (.box [.sl TPd l,.sl FNd fs]),some (.box [.j w,.s p,.sl WCd ws,.sl TCd v,.sl NTd b,.j t])]) ex d':=by
 have hM:maxI=9223372036854775807:=rfl
 obtain ⟨hl,_,hall⟩:=Tb ht
 refine B7 (l:=l) (Ef p (t2L v 0)) (fun i=>([.ptr 0 0,.ptr 1 0,.sl TPd l,.j (l.length:Int),.j (i:Int)],[some (.box [.sl TPd l,.sl FNd fs]),some (.box [.j w,.s p,.sl WCd ws,.sl TCd v,.sl NTd b,.j t])])) (ex:=((.exit 0:Ex),([.ptr 0 0,.ptr 1 0],[some (.box [.sl TPd l,.sl FNd fs]),some (.box [.j w,.s p,.sl WCd ws,.sl TCd v,.sl NTd b,.j t])]))) (rt:=((.ret:Ex),([.b false],[]))) (by simp) (by simp) (fun n hlt=>?_) ?_ (l.length-i) i (by omega) ex d' hx
 ·have hr:=K1 l fs w p ws v b t l l.length n
  try dsimp only [shr] at hr
  obtain ⟨⟨s1,s2,s3⟩,g1,g2,_⟩:=hall _ (getElem_mem hlt)
  obtain ⟨z1,z2,z3⟩:=Hz hk
  obtain ⟨q1,q2,q3⟩:=Dq z1
  rw [Ag (dcT (by omega)),Aa (by simp only [anE,dcE]; omega),ntN,gtE hlt,Am,Ap (n:=n) (by omega),Aa (dcT ⟨hp,s1⟩),Abc g1] at hr
  refine hr.trans ?_
  clear hr hall hx
  obtain ⟨m1,m2,m3⟩:=Hz g2
  obtain ⟨r1,r2,r3⟩:=Dq m1
  rw [Aa (dcT ⟨by omega,by omega,s2⟩),Aa (dcT ⟨by omega,by omega,hv⟩)]
  simp only [drop_zero,take_length,BV]
  unfold Ef
  cases h3:tk inL (cut 47 p) (cut 47 l[n].1) with
  | false=>rfl
  | true=>
   rw [Be,Aa (dcT ⟨r2,q2,by omega,by omega,by omega⟩)]
   cases CJ (t2L v 0) (t2L l[n].2.1.1 0)<;>rfl
 ·have hr:=K1 l fs w p ws v b t l l.length l.length
  try dsimp only [shr] at hr
  rw [Ac (dcF (by omega))] at hr
  exact hr
theorem YL:Ar prog Aag (Ab [(4,sfE)]) 0 (f78.body.getD .skip):=by
 refine An (a:=body f78 0) (by kernel_rfl) fun d ex d' h=>?_
 unfold sfE at h
 dsimp only at h
 split at h
 ·rename_i l k i bb bf
  split at h
  ·rename_i ts fs
   split at h
   ·rename_i w p ws v b t
    obtain ⟨hc,hx⟩:=Ad h
    clear h
    rw [anE] at hc
    obtain ⟨hc,ht⟩:=hc
    obtain ⟨h0,h1,h2,h3,h4,h5,h6⟩:=of_decide_eq_true hc
    have h3:l=ts:=h3
    subst h3
    subst h2
    obtain ⟨i,rfl⟩:=eq_ofNat_of_zero_le h0
    simp only [ntN] at h1 hx
    exact Us l fs w p ws v b t h4 h5 h6 ht i h1 ex d' hx
   ·cases h
  ·cases h
 ·cases h
theorem Abm:Af prog 78 (Ent.rd1 XX).F:=by
 refine Ae (kc func115 JD (kc func116 Ady (kc func117 Abk (kc func114 Ww (kc func99 Afk (kc func119 Sh (kc func118 (YG 1000000) (kc func120 Abj KnowsL.nil)))))))).knows (Λ:=(Ab [(4,sfE)])) func78 (c:=f78.body.getD .skip) (by kernel_rfl) fun vs bs r hq hv hb=>?_
 unfold Ent.F XX at hq
 dsimp only at hq
 split at hq
 ·rename_i ts fs w p ws v b t
  obtain ⟨hc,hx⟩:=Ad hq
  unfold GQ at hc
  simp only [anE,dcE] at hc
  obtain ⟨ht,⟨hp,hv⟩,hn,hb⟩:=hc
  refine ⟨YL,(Ur ts fs w p ws v b t).trans (Eq.trans ?_ hx)⟩
  try dsimp only [shr]
  show _=some _
  unfold Qx
  rw [drop_zero]
  generalize hw:decide (0<=w/\w<=100)=c1
  generalize decide (0<=t/\t<=100000)=c2
  cases c1 with
  | false=>rfl
  | true=>
   rw [Bool.not_true,AS,Aa (dcT hp)]
   cases hl:lvB (cut 47 p) with
   | false=>rfl
   | true=>
    cases DY ws with
    | false=>rfl
    | true=>
     rw [Bool.not_true,AS,AS,Aa (by rw [anE]; exact ⟨dcT hv,hn⟩)]
     cases hk:Bf v with
     | false=>rfl
     | true=>
      cases c2 with
      | false=>rfl
      | true=>
       rw [Bool.not_true,AS,AS,Aa (by rw [anE]; exact ⟨dcT (by refine ⟨by omega,by omega,?_,?_,?_,hp,hv⟩<;>first | rfl | trivial),ht⟩)]
       cases ts.all (Ef p (t2L v 0)) with
       | false=>rfl
       | true=>
        rw [Be,Aa (by rw [anE,anE]; exact ⟨dcT hv,hn,hb⟩)]
        rfl
 ·cases hq
end Go.Proofs.YtdocpdfkeohkiaaGreatDoor.Den
