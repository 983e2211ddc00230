/- What functions of the program do, by the machine: Top6 Top7 Brk1 Text Mark Mk1 Held Hd1 Mk2 Own1 Brk2 Brk3 Brk4 Top8 Brk5. -/
import Derived.Test.YtcjnmdcagfgjoaaGreatDoorDC
import Derived.KernelRfl
import Derived.Test.YtcjnmdcagfgjoaaGreatDoorRows
namespace Go.Proofs.YtcjnmdcagfgjoaaGreatDoor.Den
open IntKind (i64)
open Go.Proofs.Tryz
open List (all_cons all_eq_true append_nil drop drop_eq_getElem_cons drop_eq_nil_of_le drop_set_of_lt drop_zero getElem_mem length_cons nil_append range set_set take take_length take_of_length_le)
open Int (add_assoc eq_ofNat_of_zero_le tmod)
open Nat (add_sub_of_le lt_succ_self zero_add zero_le)
open Bool (not_not)
open Go.Proofs
set_option maxRecDepth 100000
def Dy (c:UInt8) (s:List UInt8):List UInt8->Nat->Nat->List (List UInt8)->List (List UInt8)×Nat
 | [],_,fr,r=>(r,fr)
 | b::l,i,fr,r=>if b=c then Dy c s l (i+1) (i+1) (r++[(s.drop fr).take (i-fr)]) else Dy c s l (i+1) fr r
def UE (x:List UInt8):List (List UInt8)->List (List UInt8)
 | []=>[]
 | h::t=>(x++h)::t
def SW:Gm
 | [.s s,.i .u8 b],[]=>.need (decide (b=47/\s.length<=4000000000)) (.leaf (.ref 0 0 (cut 47 s).length,[some (.row false none .str (cut 47 s))]))
 | _,_=>.no
def Og:LoopEnt:=⟨34,[0,1,5,6,7],[0,5,6],[],fun
 | ([.s s,.i .u8 b,.ref 0 0 k,.i .i64 fr,.i .i64 i],[some (.row false none .str r)])=>.need (decide (b=47/\k=r.length/\(0<=fr/\fr<=i)/\i.toNat<=s.length/\s.length<=4000000000/\(r.length:Int)<=i)) (.leaf (.exit 0,([.s s,.ref 0 0 (Dy 47 s (s.drop i.toNat) i.toNat fr.toNat r).1.length,.i .i64 ((Dy 47 s (s.drop i.toNat) i.toNat fr.toNat r).2:Int)],[some (.row false none .str (Dy 47 s (s.drop i.toNat) i.toNat fr.toNat r).1)])))
 | _=>.no⟩
theorem Hd (c:UInt8) (s:List UInt8) : ∀ (l:List UInt8) (i fr:Nat) (r:List (List UInt8)),s.drop i=l->fr<=i->i<=s.length->(Dy c s l i fr r).1++[s.drop (Dy c s l i fr r).2]=r++UE ((s.drop fr).take (i-fr)) (cut c l)/\(Dy c s l i fr r).2<=s.length
 | [],i,fr,r,h,h1,h2=>by
  have hi:i=s.length:=by have:=congrArg List.length h; simp at this; omega
  simp only [Dy,cut,UE,append_nil]
  rw [take_of_length_le (by rw [List.length_drop]; omega)]
  exact ⟨rfl,by omega⟩
 | b::l,i,fr,r,h,h1,h2=>by
  have hlt:i<s.length:=by have:=congrArg List.length h; simp at this; omega
  have hd:s.drop (i+1)=l:=by rw [<-List.drop_drop,h]; rfl
  have hb:s[i]=b:=by have:=drop_eq_getElem_cons hlt; rw [h] at this; exact (List.cons.inj this).1.symm
  rw [Dy,cut]
  by_cases hc:b=c
  ·rw [if_pos hc,if_pos hc]
   obtain ⟨e1,e2⟩:=Hd c s l (i+1) (i+1) (r++[(s.drop fr).take (i-fr)]) hd (Nat.le_refl _) (by omega)
   refine ⟨?_,e2⟩
   rw [e1,Nat.sub_self,List.take_zero]
   have hg:UE [] (cut c l)=cut c l:=by cases cut c l<;>rfl
   rw [hg]
   simp [UE]
  ·rw [if_neg hc,if_neg hc]
   obtain ⟨e1,e2⟩:=Hd c s l (i+1) fr r hd (by omega) (by omega)
   refine ⟨?_,e2⟩
   rw [e1]
   congr 1
   have hne:=S1 c l
   have ht:(s.drop fr).take (i+1-fr)=(s.drop fr).take (i-fr)++[b]:=by
    have hk:i-fr<(s.drop fr).length:=by rw [List.length_drop]; omega
    rw [show i+1-fr=(i-fr)+1 by omega,List.take_succ_eq_append_getElem hk,List.getElem_drop]
    congr 2
    rw [<-hb]
    congr 1; omega
   rw [ht]
   cases hl:cut c l with
   | nil=>exact absurd hl hne
   | cons x t=>simp [UE]
theorem MA (s:List UInt8) (b:Int) (k:Nat) (fr i:Int) (r:List (List UInt8)):Av prog (Ab []) (Ab [(4,Og)]) 0 (body f120 0) Og ([.s s,.i .u8 b,.ref 0 0 k,.j fr,.j i],[some (.row false none .str r)]) =
 ((ifB (decide (i<(↑s.length:Int))) (ifT (decide ((0:Int)<=i)) (Ak s[i.toNat]? fun z=>ifB ((↑z.toNat:Int)==b) (ifT (decide ((0:Int)<=fr)&&decide (fr<=
 i)&&decide (i<=(↑s.length:Int))) (ifT (decide ((k+1)*16<=140737488355328)&&decide (k+1<=maxI)) (some (Ex.normal,[V.s s,
 V.i .u8 b,V.ref 0 0 (k+1),V.j (i64.wrap (i+(1:Int))),V.j (i64.wrap (i+(1:Int)))],[some (Blk.row false none Cd.str
 (take k (drop 0 r)++take (i.toNat-fr.toNat) (drop fr.toNat s)::Aj Cd.str.den))])))) (some (Ex.normal,[V.s s,V.i .u8 b,V.ref 0 0 k,
 V.j fr,V.j (i64.wrap (i+(1:Int)))],[some (Blk.row false none Cd.str r)])))) (some (Ex.exit 0,[V.s s,V.ref 0 0 k,V.j fr],[some (Blk.row
 false none Cd.str r)]))):_):=by kernel_rfl
theorem KH (s:List UInt8) (hs:s.length<=4000000000) : ∀ (j i fr:Nat) (r:List (List UInt8)),i+j=s.length->fr<=i->r.length<=i->
  Runs prog (Ab []) (Ab [(4,Og)]) 0 (body f120 0) Og ([.s s,.i .u8 47,.ref 0 0 r.length,.j (fr:Int),.j (i:Int)],[some (.row false none .str r)]) (.exit 0) ([.s s,.ref 0 0 (Dy 47 s (s.drop i) i fr r).1.length,.j ((Dy 47 s (s.drop i) i fr r).2:Int)],[some (.row false none .str (Dy 47 s (s.drop i) i fr r).1)])
 | 0,i,fr,r,hi,h1,h2=>by
  have hr:=MA s 47 r.length fr i r
  rw [Ac (dcF (by omega))] at hr
  rw [drop_eq_nil_of_le (by omega),Dy]
  exact .stop _ _ _ hr (by simp)
 | j+1,i,fr,r,hi,h1,h2=>by
  have hM:maxI=9223372036854775807:=rfl
  have hil:i<s.length:=by omega
  have hr:=MA s 47 r.length fr i r
  rw [Ag (dcT (by omega)),Aa (by simp only [dcE]; omega)] at hr
  simp only [ntN,gtE hil,Am,Ap (n:=i) (by omega),drop_zero,take_length,AW,zero_add] at hr
  rw [drop_eq_getElem_cons hil,Dy]
  by_cases hc:s[i]=47
  ·rw [if_pos hc]
   rw [Ag (by rw [hc]; rfl),Aa (by simp only [anE,dcE]; omega),Aa (by simp only [anE,dcE]; omega)] at hr
   have ih:=KH s hs j (i+1) (i+1) (r++[(s.drop fr).take (i-fr)]) (by omega) (Nat.le_refl _) (by simp; omega)
   exact .step _ _ _ _ (hr.trans (by simp)) ih
  ·rw [if_neg hc]
   have hb47 : ¬(s[i].toNat=47):=fun h=>hc (UInt8.toNat_inj.1 (by rw [h]; rfl))
   rw [Ac (beq_false_of_ne (by omega))] at hr
   exact .step _ _ _ _ hr (KH s hs j (i+1) fr r (by omega) (by omega) (by omega))
theorem Aa9:As prog (Ab []) (Ab [(4,Og)]) 0 (f120.body.getD .skip):=by
 refine An (a:=body f120 0) (by kernel_rfl) fun x e y h=>?_
 unfold Og at h
 dsimp only at h
 split at h
 ·rename_i s b k fr i r
  obtain ⟨hc,hx⟩:=Ad h
  clear h
  obtain ⟨rfl,rfl,⟨h0,h1⟩,h2,h3,h4⟩:=of_decide_eq_true hc
  obtain ⟨fr,rfl⟩:=eq_ofNat_of_zero_le h0
  obtain ⟨i,rfl⟩:=eq_ofNat_of_zero_le (by omega:0<=i)
  rw [ntN] at h2 hx
  rw [ntN] at hx
  have h6:=Ao hx
  obtain ⟨rfl,rfl⟩:=Prod.mk.inj h6
  exact KH s h3 (s.length-i) i fr r (by omega) (by omega) (by omega)
 ·cases h
theorem WT (s:List UInt8) (b:Int) (hc:b=47/\s.length<=4000000000):DB prog (Ab []) (Ab [(4,Og)]) f120 [.s s,.i .u8 b] []=some (.ref 0 0 (cut 47 s).length,[some (.row false none .str (cut 47 s))]):=by
 have e:DB prog (Ab []) (Ab [(4,Og)]) f120 [.s s,.i .u8 b] []=((ifT (decide (b=(47:Int)/\0=0/\((0:Int)<=(0:Int)/\(0:Int)<=(0:Int))/\0<=s.length/\s.length<=4000000000/\(↑(0:Nat)
 : Int)<=(0:Int))) (ifT (decide ((0:Int)<=(↑(Dy (47:UInt8) s (drop 0 s) 0 0 (Aj Cd.str.den)).snd:Int))&&decide ((↑(Dy (47 :
 UInt8) s (drop 0 s) 0 0 (Aj Cd.str.den)).snd:Int)<=(↑s.length:Int))) (ifT (decide (((Dy (47:UInt8) s (drop 0 s) (0 :
 Nat) 0 (Aj Cd.str.den)).fst.length+1)*16<=140737488355328)&&decide ((Dy (47:UInt8) s (drop 0 s) 0 (0 :
 Nat) (Aj Cd.str.den)).fst.length+1<=maxI)) (some (V.ref 0 0 ((Dy (47:UInt8) s (drop 0 s) 0 0 (Aj Cd.str.den)).fst.length +
 1),[some (Blk.row false none Cd.str (take (Dy (47:UInt8) s (drop 0 s) 0 0 (Aj Cd.str.den)).fst.length (drop (0 :
 Nat) (Dy (47:UInt8) s (drop 0 s) 0 0 (Aj Cd.str.den)).fst)++take (s.length-(↑(Dy (47:UInt8) s (drop 0 s) (0 :
 Nat) 0 (Aj Cd.str.den)).snd:Int).toNat) (drop (↑(Dy (47:UInt8) s (drop 0 s) 0 0 (Aj Cd.str.den)).snd:Int).toNat s)
 :: Aj Cd.str.den))]))))):_):=by kernel_rfl
 rw [e]
 clear e
 obtain ⟨rfl,hs⟩:=hc
 have hM:maxI=9223372036854775807:=rfl
 rw [Aa (dcT ⟨by trivial,by rfl,⟨by omega,by omega⟩,by omega,hs,by simp⟩)]
 obtain ⟨e1,e2⟩:=Hd 47 s s 0 0 [] rfl (Nat.le_refl _) (zero_le _)
 have hg:UE ((s.drop 0).take (0-0)) (cut 47 s)=cut 47 s:=by cases cut 47 s<;>rfl
 rw [hg,nil_append] at e1
 have e4:=Ox 47 s
 have e5:=List.count_le_length (a:=47) (l:=s)
 simp only [drop_zero,Int.toNat_zero,AW,ntN,take_length,zero_add,Nat.sub_zero] at *
 generalize Dy 47 s s 0 0 []=y at *
 have e3:y.1.length+1=(cut 47 s).length:=by rw [<-e1]; simp
 have e6:take (s.length-y.2) (drop y.2 s)=drop y.2 s:=take_of_length_le (by simp)
 rw [Aa (by simp only [anE,dcE]; omega),Aa (by simp only [anE,dcE]; omega)]
 simp only [e6,e1,e3]
theorem Aa8:Af prog 120 (Ent.rd1 SW).F:=by
 refine Ba KnowsL.nil.knows (Λ:=Ab [(4,Og)]) func120 (c:=f120.body.getD .skip) (by kernel_rfl) fun vs bs r hq hv hb=>?_
 unfold Ent.F SW at hq
 dsimp only at hq
 split at hq
 ·rename_i s b
  obtain ⟨hc,hq⟩:=Ad hq
  exact ⟨Aa9,(WT s b (of_decide_eq_true hc)).trans hq⟩
 ·cases hq
def pt:List (List UInt8)->Bool
 | []=>true
 | x::l=>(lev x||(x==[43]||(x==[35]&&l.isEmpty)))&&pt l
def EH:LoopEnt:=⟨21,[3,8,9,10],[3],[2],fun
 | ([.ref 0 0 k,.ref 0 0 k2,.i .i64 m,.i .i64 i],[some (.row false none .str l)])=>.need (decide (0<=i/\k=l.length/\k2=l.length/\m=l.length/\i.toNat<=l.length/\l.length<=5000000000/\∀ z∈l,z.length<=4000000000)) (.br ((l.drop i.toNat).all lev) (.leaf (.exit 0,([.ref 0 0 l.length],[some (.row false none .str l)]))) (.leaf (.ret,([.b false],[]))))
 | _=>.no⟩
def EI:LoopEnt:=⟨37,[3,8,9,10],[3],[2],fun
 | ([.ref 0 0 k,.ref 0 0 k2,.i .i64 m,.i .i64 i],[some (.row false none .str l)])=>.need (decide (0<=i/\k=l.length/\k2=l.length/\m=l.length/\i.toNat<=l.length/\l.length<=5000000000/\∀ z∈l,z.length<=4000000000)) (.br (pt (l.drop i.toNat)) (.leaf (.exit 0,([.ref 0 0 l.length],[some (.row false none .str l)]))) (.leaf (.ret,([.b false],[]))))
 | _=>.no⟩
theorem ZT:lev [35]=false:=by decide
theorem ZR : ∀ l:List (List UInt8),pt l=(!(l.any fun z=>!Ds z)&&!decide ([35]∈l.take (l.length-1)))
 | []=>by simp [pt]
 | [x]=>by
  simp only [pt,Ds,List.any_cons,List.any_nil,List.isEmpty_nil,Bool.and_true,Bool.or_false,not_not,List.length_singleton,Nat.sub_self,List.take_zero,List.not_mem_nil,decide_false,Bool.not_false]
  cases lev x<;>cases x==[43]<;>cases x==[35]<;>rfl
 | x::y::l=>by
  have ih:=ZR (y::l)
  rw [pt,ih]
  have e1:(x::y::l).length-1=((y::l).length-1)+1:=by simp
  have e3:((x::y::l).any fun z=>!Ds z)=(!Ds x||(y::l).any fun z=>!Ds z):=rfl
  rw [e1,List.take_succ_cons,e3]
  generalize hA:((y::l).any fun z=>!Ds z)=A
  clear hA ih e3 e1
  simp only [Ds,List.isEmpty_cons,Bool.and_false,Bool.or_false]
  by_cases hx:x=[35]
  ·subst hx
   rw [ZT]
   simp
  ·have hne:([35]:List UInt8)≠x:=fun h=>hx h.symm
   have e2:decide (([35]:List UInt8)∈x::(y::l).take ((y::l).length-1))=decide ([35]∈(y::l).take ((y::l).length-1)):=decide_eq_decide.2 (by simp [hne])
   rw [e2,beq_false_of_ne hx]
   generalize decide ([35]∈(y::l).take ((y::l).length-1))=d
   cases lev x<;>cases x==[43]<;>cases A<;>cases d<;>rfl
theorem WS (l:List (List UInt8)):lvB l=(pt l&&decide (l.length<=6)):=by
 unfold lvB
 rw [<-ZR,Bool.and_comm]
theorem ZN : ∀ l:List (List UInt8),l.all lev=true->pt l=true
 | [],_=>rfl
 | x::l,h=>by
  rw [all_cons,anE] at h
  rw [pt,h.1,ZN l h.2]; rfl
theorem V5 (l:List (List UInt8)):tpB l=(l.all lev&&decide (l.length<=6)):=by
 unfold tpB
 rw [WS]
 have e:(l.any fun z=>!lev z) = !(l.all lev):=by
  induction l with
  | nil=>rfl
  | cons z l ih=>rw [List.any_cons,all_cons,ih,Bool.not_and]
 rw [e,not_not]
 cases h:l.all lev with
 | true=>rw [ZN l h]; simp
 | false=>simp
abbrev LW:FuncId->Option Ent:=Ab [(120,.rd1 SW),(121,.rd1 Oh)]
theorem IT (k k2:Nat) (m i:Int) (l:List (List UInt8)):Av prog LW (Ab [(3,EH)]) 0 (body f76 0) EH ([.ref 0 0 k,.ref 0 0 k2,.j m,.j i],[some (.row false none .str l)]) =
 ((ifB (decide (i<m)) (ifT (decide ((0:Int)<=i)&&decide (i<(↑k2:Int))) (Ak l[0+i.toNat]? fun z=>ifT (decide (List.length z<=maxI)) (ifB (!lev z)
 (some (Ex.ret,[V.b false],[])) (some (Ex.normal,[V.ref 0 0 k,V.ref 0 0 k2,V.j m,V.j (i64.wrap (i+(1:Int)))],[some (Blk.row false none Cd.str
 l)]))))) (some (Ex.exit 0,[V.ref 0 0 k],[some (Blk.row false none Cd.str l)]))):_):=by kernel_rfl
theorem Kh (l:List (List UInt8)) (hl:l.length<=5000000000) (ha : ∀ z∈l,z.length<=4000000000) : ∀ (j i:Nat),i+j=l.length->∀ e d',(Br.br ((l.drop i).all lev) (.leaf (.exit 0,([.ref 0 0 l.length],[some (.row false none .str l)]))) (.leaf (.ret,([.b false],[]))):Br (Ex×Dt)).run=some (e,d')->Runs prog LW (Ab [(3,EH)]) 0 (body f76 0) EH ([.ref 0 0 l.length,.ref 0 0 l.length,.j (↑l.length:Int),.j (i:Int)],[some (.row false none .str l)]) e d'
 | 0,i,hi,e,d',hx=>by
  have hr:=IT l.length l.length l.length i l
  rw [Ac (dcF (by omega))] at hr
  rw [drop_eq_nil_of_le (by omega)] at hx
  cases hx
  exact .stop _ _ _ hr (by simp)
 | j+1,i,hi,e,d',hx=>by
  have hM:maxI=9223372036854775807:=rfl
  have hil:i<l.length:=by omega
  have hr:=IT l.length l.length l.length i l
  rw [Ag (dcT (by omega)),Aa (by simp only [anE,dcE]; omega)] at hr
  simp only [ntN,zero_add,gtE hil,Am,Ap (n:=i) (by omega)] at hr
  have hlen:=ha l[i] (getElem_mem hil)
  rw [Aa (dcT (by omega))] at hr
  rw [drop_eq_getElem_cons hil] at hx
  rw [all_cons] at hx
  cases hz:lev l[i] with
  | true=>
   rw [hz,Bool.true_and] at hx
   rw [hz,Ac (by rfl:(!true)=false)] at hr
   exact .step _ _ _ _ hr (Kh l hl ha j (i+1) (by omega) e d' hx)
  | false=>
   rw [hz,Bool.false_and] at hx
   cases hx
   rw [hz,Ag (by rfl:(!false)=true)] at hr
   exact .stop _ _ _ hr (by simp)
theorem VX:As prog LW (Ab [(3,EH)]) 0 (f76.body.getD .skip):=by
 refine An (a:=body f76 0) (by kernel_rfl) fun x e y h=>?_
 unfold EH at h
 dsimp only at h
 split at h
 ·rename_i k k2 m i l
  obtain ⟨hc,hx⟩:=Ad h
  clear h
  obtain ⟨h0,rfl,rfl,rfl,h1,h2,h3⟩:=of_decide_eq_true hc
  obtain ⟨i,rfl⟩:=eq_ofNat_of_zero_le h0
  rw [ntN] at h1 hx
  exact Kh l h2 h3 (l.length-i) i (by omega) e y hx
 ·cases h
theorem TP (s:List UInt8) (hc:s.length<=4000000000):DB prog LW (Ab [(3,EH)]) f76 [.s s] []=some (.b (tpB (cut 47 s)),[]):=by
 have e:DB prog LW (Ab [(3,EH)]) f76 [.s s] []=((ifT (decide ((47:Int)=(47:Int)/\s.length<=4000000000)) (ifT (decide ((0:Int)<=(0:Int)/\(cut (47:UInt8) s).length=(cut (47:UInt8) s).length/\
 (cut (47:UInt8) s).length=(cut (47:UInt8) s).length/\(↑(cut (47:UInt8) s).length:Int)=(↑(cut (47:UInt8) s).length:Int)/\0<=(cut (47:UInt8)
 s).length/\(cut (47:UInt8) s).length<=5000000000/\∀ (z:Cd.str.den),z∈cut (47:UInt8) s->List.length z<=4000000000)) (ifB ((drop (0 :
 Nat) (cut (47:UInt8) s)).all lev) (some (V.b (decide ((↑(cut (47:UInt8) s).length:Int)<=(6:Int))),[])) (some (V.b false,[]))))):_):=by kernel_rfl
 rw [e]
 clear e
 obtain ⟨hz,hpos,hle⟩:=E5 hc
 rw [V5]
 rw [Aa (dcT ⟨by trivial,hc⟩),Aa (dcT ⟨by omega,by trivial,by trivial,by trivial,by omega,by omega,hz⟩)]
 simp only [drop_zero]
 generalize cut 47 s=l at *
 by_cases q:l.length<=6
 ·have q2:((l.length:Int)<=6):=by omega
  rw [dcT q,dcT q2]
  cases (l.all lev)<;>rfl
 ·have q2 : ¬((l.length:Int)<=6):=by omega
  rw [dcF q,dcF q2]
  cases (l.all lev)<;>rfl
theorem Acw:Af prog 76 (Ent.rd1 MO).F:=by
 refine Ba (kc func120 Aa8 (kc func121 Acu KnowsL.nil)).knows (Λ:=(Ab [(3,EH)])) func76 (c:=f76.body.getD .skip) (by kernel_rfl) fun vs bs r hq hv hb=>?_
 unfold Ent.F MO at hq
 dsimp only at hq
 split at hq
 ·rename_i s
  obtain ⟨hc,hq⟩:=Ad hq
  exact ⟨VX,(TP s (of_decide_eq_true hc)).trans hq⟩
 ·cases hq
theorem IU (k k2:Nat) (m i:Int) (l:List (List UInt8)):Av prog LW (Ab [(3,EI)]) 0 (body f79 0) EI ([.ref 0 0 k,.ref 0 0 k2,.j m,.j i],[some (.row false none .str l)]) =
 ((ifB (decide (i<m)) (ifT (decide ((0:Int)<=i)&&decide (i<(↑k2:Int))) (Ak l[0+i.toNat]? fun z=>ifT (decide (List.length z<=maxI)) (ifB (!lev z)
 (ifB (!z==[(43:UInt8)]) (ifB (!z==[(35:UInt8)]) (some (Ex.ret,[V.b false],[])) (ifB (decide (i<i64.wrap ((↑k:Int)-(1:Int)))) (some (Ex.ret,[V.b
 false],[])) (some (Ex.normal,[V.ref 0 0 k,V.ref 0 0 k2,V.j m,V.j (i64.wrap (i+(1:Int)))],[some (Blk.row false none Cd.str l)])))) (some
 (Ex.normal,[V.ref 0 0 k,V.ref 0 0 k2,V.j m,V.j (i64.wrap (i+(1:Int)))],[some (Blk.row false none Cd.str l)]))) (some (Ex.normal,[V.ref 0 0 k,
 V.ref 0 0 k2,V.j m,V.j (i64.wrap (i+(1:Int)))],[some (Blk.row false none Cd.str l)]))))) (some (Ex.exit 0,[V.ref 0 0 k],[some (Blk.row false
 none Cd.str l)]))):_):=by kernel_rfl
theorem Ki (l:List (List UInt8)) (hl:l.length<=5000000000) (ha : ∀ z∈l,z.length<=4000000000) : ∀ (j i:Nat),i+j=l.length->∀ e d',(Br.br (pt (l.drop i)) (.leaf (.exit 0,([.ref 0 0 l.length],[some (.row false none .str l)]))) (.leaf (.ret,([.b false],[]))):Br (Ex×Dt)).run=some (e,d')->Runs prog LW (Ab [(3,EI)]) 0 (body f79 0) EI ([.ref 0 0 l.length,.ref 0 0 l.length,.j (↑l.length:Int),.j (i:Int)],[some (.row false none .str l)]) e d'
 | 0,i,hi,e,d',hx=>by
  have hr:=IU l.length l.length l.length i l
  rw [Ac (dcF (by omega))] at hr
  rw [drop_eq_nil_of_le (by omega)] at hx
  cases hx
  exact .stop _ _ _ hr (by simp)
 | j+1,i,hi,e,d',hx=>by
  have hM:maxI=9223372036854775807:=rfl
  have hil:i<l.length:=by omega
  have hr:=IU l.length l.length l.length i l
  rw [Ag (dcT (by omega)),Aa (by simp only [anE,dcE]; omega)] at hr
  simp only [ntN,zero_add,gtE hil,Am,Ap (n:=i) (by omega)] at hr
  have hlen:=ha l[i] (getElem_mem hil)
  rw [Aa (dcT (by omega))] at hr
  rw [drop_eq_getElem_cons hil] at hx
  rw [pt] at hx
  have e0:(l.drop (i+1)).isEmpty=decide (¬((i:Int)<(l.length:Int)-1)):=by
   by_cases h:i+1<l.length
   ·rw [dcF (by omega),drop_eq_getElem_cons h]; rfl
   ·rw [dcT (by omega),drop_eq_nil_of_le (by omega)]; rfl
  have w:i64.wrap ((l.length:Int)-1)=(l.length:Int)-1:=Ay (by omega) (by omega)
  rw [e0] at hx
  simp only [w,decide_not] at hr hx
  have key:(lev l[i]||(l[i]==[43]||(l[i]==[35]&&!decide ((i:Int)<(l.length:Int)-1))))=true\/(lev l[i]||(l[i]==[43]||(l[i]==[35]&&!decide ((i:Int)<(l.length:Int)-1))))=false:=by cases (lev l[i]||(l[i]==[43]||(l[i]==[35]&&!decide ((i:Int)<(l.length:Int)-1))))<;>simp
  rcases key with hz | hz
  ·rw [hz,Bool.true_and] at hx
   refine .step _ _ _ _ (hr.trans ?_) (Ki l hl ha j (i+1) (by omega) e d' hx)
   revert hz
   generalize lev l[i]=a
   generalize (l[i]==[43])=b
   generalize (l[i]==[35])=c
   generalize decide ((i:Int)<(l.length:Int)-1)=d
   cases a<;>cases b<;>cases c<;>cases d<;>intro hz<;>first | rfl | cases hz
  ·rw [hz,Bool.false_and] at hx
   cases hx
   refine .stop _ _ _ (hr.trans ?_) (by simp)
   revert hz
   generalize lev l[i]=a
   generalize (l[i]==[43])=b
   generalize (l[i]==[35])=c
   generalize decide ((i:Int)<(l.length:Int)-1)=d
   cases a<;>cases b<;>cases c<;>cases d<;>intro hz<;>first | rfl | cases hz
theorem VZ:As prog LW (Ab [(3,EI)]) 0 (f79.body.getD .skip):=by
 refine An (a:=body f79 0) (by kernel_rfl) fun x e y h=>?_
 unfold EI at h
 dsimp only at h
 split at h
 ·rename_i k k2 m i l
  obtain ⟨hc,hx⟩:=Ad h
  clear h
  obtain ⟨h0,rfl,rfl,rfl,h1,h2,h3⟩:=of_decide_eq_true hc
  obtain ⟨i,rfl⟩:=eq_ofNat_of_zero_le h0
  rw [ntN] at h1 hx
  exact Ki l h2 h3 (l.length-i) i (by omega) e y hx
 ·cases h
theorem TQ (s:List UInt8) (hc:s.length<=4000000000):DB prog LW (Ab [(3,EI)]) f79 [.s s] []=some (.b (lvB (cut 47 s)),[]):=by
 have e:DB prog LW (Ab [(3,EI)]) f79 [.s s] []=((ifT (decide ((47:Int)=(47:Int)/\s.length<=4000000000)) (ifT (decide ((0:Int)<=(0:Int)/\(cut (47:UInt8) s).length=(cut (47:UInt8) s).length/\
 (cut (47:UInt8) s).length=(cut (47:UInt8) s).length/\(↑(cut (47:UInt8) s).length:Int)=(↑(cut (47:UInt8) s).length:Int)/\0<=(cut (47:UInt8)
 s).length/\(cut (47:UInt8) s).length<=5000000000/\∀ (z:Cd.str.den),z∈cut (47:UInt8) s->List.length z<=4000000000)) (ifB (pt (drop (0 :
 Nat) (cut (47:UInt8) s))) (some (V.b (decide ((↑(cut (47:UInt8) s).length:Int)<=(6:Int))),[])) (some (V.b false,[]))))):_):=by kernel_rfl
 rw [e]
 clear e
 obtain ⟨hz,hpos,hle⟩:=E5 hc
 rw [WS]
 rw [Aa (dcT ⟨by trivial,hc⟩),Aa (dcT ⟨by omega,by trivial,by trivial,by trivial,by omega,by omega,hz⟩)]
 simp only [drop_zero]
 generalize cut 47 s=l at *
 by_cases q:l.length<=6
 ·have q2:((l.length:Int)<=6):=by omega
  rw [dcT q,dcT q2]
  cases (pt l)<;>rfl
 ·have q2 : ¬((l.length:Int)<=6):=by omega
  rw [dcF q,dcF q2]
  cases (pt l)<;>rfl
theorem Acx:Af prog 79 (Ent.rd1 MR).F:=by
 refine Ba (kc func120 Aa8 (kc func121 Acu KnowsL.nil)).knows (Λ:=(Ab [(3,EI)])) func79 (c:=f79.body.getD .skip) (by kernel_rfl) fun vs bs r hq hv hb=>?_
 unfold Ent.F MR at hq
 dsimp only at hq
 split at hq
 ·rename_i s
  obtain ⟨hc,hq⟩:=Ad hq
  exact ⟨VZ,(TQ s (of_decide_eq_true hc)).trans hq⟩
 ·cases hq
abbrev Tp:=List UInt8×(List Ty×Unit)×Int×Unit
abbrev Nt:=List UInt8×Int×List UInt8×Unit
abbrev Fa:=Int×List UInt8×(List Wt×Unit)×(List Ty×Unit)×List Nt×Int×Unit
def atT (ts:List Tp) (x:List UInt8):Int:=Aq (fun t:Tp=>t.1==x) 0 ts
def atW (fs:List Fa) (x:Int):Int:=Aq (fun f:Fa=>f.1==x) 0 fs
def JP:Gm
 | [.agg [.s n,.sl TCd l,.i .i64 c],.bx [.s x] 0],[]=>.leaf (.b (n==x),[])
 | _,_=>.no
def Lm:Gm
 | [.agg [.i .i64 w,.s p,.sl WCd ws,.sl TCd v,.sl NTd b,.i .i64 t],.bx [.i .i64 x] 0],[]=>.leaf (.b (w==x),[])
 | _,_=>.no
def N2:Gm
 | [.bx [.sl TPd ts,.sl FNd fs] 0,.s x],[]=>.leaf (.i .i64 (atT ts x),[])
 | _,_=>.no
def Zt:Gm
 | [.bx [.sl TPd ts,.sl FNd fs] 0,.i .i64 x],[]=>.leaf (.i .i64 (atW fs x),[])
 | _,_=>.no
def Oz  : LoopEnt:=⟨19,[0,1,4,7,8],[],[4],fun
 | ([.sl TPd l,.fn 133 [] [.ptr 0 0],.i .i64 r,.i .i64 k,.i .i64 i],[some (.box [.s x])])=>
  .need (decide (0<=i/\i.toNat<=l.length/\l.length<=maxI/\k=l.length)) (.br (decide (Aq (fun z:Tp=>z.1==x) i.toNat (l.drop i.toNat)<0)) (.leaf (.exit 0,([],[some (.box [.s x])]))) (.leaf (.ret,([.i .i64 (Aq (fun z:Tp=>z.1==x) i.toNat (l.drop i.toNat))],[some (.box [.s x])]))))
 | _=>.no⟩
def Tn  : Gm
 | [.sl TPd l,.fn 133 [] [.ptr 0 0]],[.box [.s x]]=>.leaf (.i .i64 (Aq (fun z:Tp=>z.1==x) 0 l),[some (.box [.s x])])
 | _,_=>.no
def O0  : LoopEnt:=⟨19,[0,1,4,7,8],[],[4],fun
 | ([.sl FNd l,.fn 91 [] [.ptr 0 0],.i .i64 r,.i .i64 k,.i .i64 i],[some (.box [.i .i64 x])])=>
  .need (decide (0<=i/\i.toNat<=l.length/\l.length<=maxI/\k=l.length)) (.br (decide (Aq (fun z:Fa=>z.1==x) i.toNat (l.drop i.toNat)<0)) (.leaf (.exit 0,([],[some (.box [.i .i64 x])]))) (.leaf (.ret,([.i .i64 (Aq (fun z:Fa=>z.1==x) i.toNat (l.drop i.toNat))],[some (.box [.i .i64 x])]))))
 | _=>.no⟩
def Ts  : Gm
 | [.sl FNd l,.fn 91 [] [.ptr 0 0]],[.box [.i .i64 x]]=>.leaf (.i .i64 (Aq (fun z:Fa=>z.1==x) 0 l),[some (.box [.i .i64 x])])
 | _,_=>.no
def OQ:LoopEnt:=⟨21,[1,8,9,10],[],[4],fun
 | ([.s x,.sl TPd l,.i .i64 k,.i .i64 i],[])=>.need (decide (0<=i/\i.toNat<=l.length/\k=l.length/\l.length<=maxI)) ((Br.br (decide (Aq (fun t:Tp=>t.1==x) i.toNat (l.drop i.toNat)<0)) (.leaf (.exit 0,([],[]))) (.leaf (.ret,([.i .i64 (Aq (fun t:Tp=>t.1==x) i.toNat (l.drop i.toNat))],[]))):Br (Ex×Dt)))
 | _=>.no⟩
def Y1:Gm
 | [.agg [.sl TPd ts,.sl FNd fs],.s x],[]=>.leaf (.i .i64 (atT ts x),[])
 | _,_=>.no
def IR:LoopEnt:=⟨21,[1,8,9,10],[],[4],fun
 | ([.i .i64 x,.sl FNd l,.i .i64 k,.i .i64 i],[])=>.need (decide (0<=i/\i.toNat<=l.length/\k=l.length/\l.length<=maxI)) ((Br.br (decide (Aq (fun f:Fa=>f.1==x) i.toNat (l.drop i.toNat)<0)) (.leaf (.exit 0,([],[]))) (.leaf (.ret,([.i .i64 (Aq (fun f:Fa=>f.1==x) i.toNat (l.drop i.toNat))],[]))):Br (Ex×Dt)))
 | _=>.no⟩
def VP:Gm
 | [.agg [.sl TPd ts,.sl FNd fs],.i .i64 x],[]=>.leaf (.i .i64 (atW fs x),[])
 | _,_=>.no
theorem Tw:Af prog 133 (Ent.rd1 JP).F:=by
 refine Ae KnowsL.nil.knows (Λ:=Ab []) func133 (c:=f133.body.getD .skip) (by kernel_rfl) fun vs bs r hq hv hb=>?_
 unfold Ent.F JP at hq
 dsimp only at hq
 split at hq
 ·rename_i n l c x
  refine ⟨Ai _,Eq.trans ?_ hq⟩
  have e:Aw prog (Ab []) (Ab []) f133 [.agg [.s n,.sl TCd l,.j c],.bx [.s x] 0] []=((some (V.b (n==x),[])):_):=by kernel_rfl
  exact e
 ·cases hq
theorem UG:Af prog 91 (Ent.rd1 Lm).F:=by
 refine Ae KnowsL.nil.knows (Λ:=Ab []) func91 (c:=f91.body.getD .skip) (by kernel_rfl) fun vs bs r hq hv hb=>?_
 unfold Ent.F Lm at hq
 dsimp only at hq
 split at hq
 ·rename_i w p ws v b t x
  refine ⟨Ai _,Eq.trans ?_ hq⟩
  have e:Aw prog (Ab []) (Ab []) f91 [.agg [.j w,.s p,.sl WCd ws,.sl TCd v,.sl NTd b,.j t],.bx [.j x] 0] []=((some (V.b (w==x),[])):_):=by kernel_rfl
  exact e
 ·cases hq
theorem Nu  (x:List UInt8) (l:List (Tp)) (r k i:Int):Av prog (Ab [(133,.rd1 JP)]) (Ab [(2,Oz)]) 1 (body f109 0) Oz ([.sl TPd l,.fn 133 [] [.ptr 0 0],.j r,.j k,.j i],[some (.box [.s x])]) =
 ((ifB (decide (i<k)) (ifT (decide ((0:Int)<=i)&&decide (i<(↑l.length:Int))) (Ak l[i.toNat]? fun z=>ifB (z.fst==x) (some (Ex.ret,[V.j i],[some
 (Blk.box [V.s x])])) (some (Ex.normal,[V.sl TPd l,V.fn 133 [] [V.ptr 0 0],V.j r,V.j k,V.j (i64.wrap (i+(1:Int)))],
 [some (Blk.box [V.s x])])))) (some (Ex.exit 0,[],[some (Blk.box [V.s x])]))):_):=by kernel_rfl
theorem Ql  (x:List UInt8) {l:List (Tp)} {r:Int} (hx:l.length<=maxI) : ∀ (j i:Nat),i+j=l.length->∀ e d',(.br (decide (Aq (fun z:Tp=>z.1==x) i (l.drop i)<0)) (.leaf (.exit 0,([],[some (.box [.s x])]))) (.leaf (.ret,([.j (Aq (fun z:Tp=>z.1==x) i (l.drop i))],[some (.box [.s x])]))):Br (Ex×Dt)).run=some (e,d')->
  Runs prog (Ab [(133,.rd1 JP)]) (Ab [(2,Oz)]) 1 (body f109 0) Oz ([.sl TPd l,.fn 133 [] [.ptr 0 0],.j r,.j (l.length:Int),.j (i:Int)],[some (.box [.s x])]) e d'
 | 0,i,hi,e,d',h=>by
  have e1:l.drop i=[]:=drop_eq_nil_of_le (by omega)
  rw [e1,B9,Aq,if_pos (by omega)] at h
  cases h
  have hr:=Nu x l r l.length i
  rw [Ac (dcF (by omega))] at hr
  exact .stop _ _ _ hr (by simp)
 | j+1,i,hi,e,d',h=>by
  have h1:i<l.length:=by omega
  have hr:=Nu x l r l.length i
  rw [Ag (dcT (by omega)),Aa (by simp only [anE,dcE]; omega)] at hr
  simp only [ntN,gtE h1,Am,Ap (n:=i) (by omega)] at hr
  rw [drop_eq_getElem_cons h1,B9,Aq] at h
  by_cases he:(fun z:Tp=>z.1==x) l[i]=true
  ·rw [if_pos he,if_neg (by omega)] at h
   cases h
   rw [Ag he] at hr
   exact .stop _ _ _ hr (by simp)
  ·rw [if_neg he] at h
   rw [Ac (by simpa using he)] at hr
   exact .step _ _ _ _ hr (Ql x hx j (i+1) (by omega) e d' (by rw [B9]; exact h))
theorem Ace  : As prog (Ab [(133,.rd1 JP)]) (Ab [(2,Oz)]) 1 (f109.body.getD .skip):=by
 refine An (a:=body f109 0) (by kernel_rfl) fun d e d' h=>?_
 unfold Oz at h
 dsimp only at h
 split at h
 ·obtain ⟨hc,h'⟩:=Ad h
  obtain ⟨h0,h1,h2,rfl⟩:=of_decide_eq_true hc
  obtain ⟨i,rfl⟩:=eq_ofNat_of_zero_le h0
  exact Ql _  h2 _ i (add_sub_of_le h1) e d' h'
 ·cases h
theorem ZA  (x:List UInt8) (l:List (Tp)) (hx:l.length<=maxI):Aw prog (Ab [(133,.rd1 JP)]) (Ab [(2,Oz)]) f109 [.sl TPd l,.fn 133 [] [.ptr 0 0]] [.box [.s x]]=some (.j (Aq (fun z:Tp=>z.1==x) 0 l),[some (.box [.s x])]):=by
 have e:Aw prog (Ab [(133,.rd1 JP)]) (Ab [(2,Oz)]) f109 [.sl TPd l,.fn 133 [] [.ptr 0 0]] [.box [.s x]] =
  ((ifT (decide ((0:Int)<=(0:Int)/\0<=l.length/\l.length<=maxI/\(↑l.length:Int)=(↑l.length:Int))) (ifB (decide (Aq (fun z=>z.fst==x) 0
 (drop 0 l)<(0:Int))) (some (V.j (-1),[some (Blk.box [V.s x])])) (some (V.j (Aq (fun z=>z.fst==x) 0 (drop 0 l)),
 [some (Blk.box [V.s x])])))):_):=by kernel_rfl
 rw [e,Aa (dcT ⟨by omega,by omega,hx,rfl⟩)]
 simp only [Int.toNat_zero,drop_zero]
 by_cases q:Aq (fun z:Tp=>z.1==x) 0 l<0
 ·rw [Ag (dcT q),Cn _ _ _ q]
 ·rw [Ac (dcF q)]
theorem Z9  : Af prog 109 (Ent.own Tn).F:=by
 refine Ae (kc func133 Tw KnowsL.nil).knows (Λ:=(Ab [(2,Oz)])) func109 (c:=f109.body.getD .skip) (by kernel_rfl) fun vs bs r h hv hb=>?_
 unfold Ent.F Tn at h
 dsimp only at h
 split at h
 ·rename_i l x
  have h':=h
  exact ⟨Ace ,(ZA x l (hv (.sl TPd l) (by simp)).1).trans (by cases h'; rfl)⟩
 ·cases h
theorem Nv  (x:Int) (l:List (Fa)) (r k i:Int):Av prog (Ab [(91,.rd1 Lm)]) (Ab [(2,O0)]) 1 (body f90 0) O0 ([.sl FNd l,.fn 91 [] [.ptr 0 0],.j r,.j k,.j i],[some (.box [.j x])]) =
 ((ifB (decide (i<k)) (ifT (decide ((0:Int)<=i)&&decide (i<(↑l.length:Int))) (Ak l[i.toNat]? fun z=>ifB (z.fst==x) (some (Ex.ret,[V.j i],[some
 (Blk.box [V.j x])])) (some (Ex.normal,[V.sl FNd l,V.fn 91 [] [V.ptr 0 0],V.j r,V.j k,V.j (i64.wrap (i+(1 :
 Int)))],[some (Blk.box [V.j x])])))) (some (Ex.exit 0,[],[some (Blk.box [V.j x])]))):_):=by kernel_rfl
theorem Qo  (x:Int) {l:List (Fa)} {r:Int} (hx:l.length<=maxI) : ∀ (j i:Nat),i+j=l.length->∀ e d',(.br (decide (Aq (fun z:Fa=>z.1==x) i (l.drop i)<0)) (.leaf (.exit 0,([],[some (.box [.j x])]))) (.leaf (.ret,([.j (Aq (fun z:Fa=>z.1==x) i (l.drop i))],[some (.box [.j x])]))):Br (Ex×Dt)).run=some (e,d')->
  Runs prog (Ab [(91,.rd1 Lm)]) (Ab [(2,O0)]) 1 (body f90 0) O0 ([.sl FNd l,.fn 91 [] [.ptr 0 0],.j r,.j (l.length:Int),.j (i:Int)],[some (.box [.j x])]) e d'
 | 0,i,hi,e,d',h=>by
  have e1:l.drop i=[]:=drop_eq_nil_of_le (by omega)
  rw [e1,B9,Aq,if_pos (by omega)] at h
  cases h
  have hr:=Nv x l r l.length i
  rw [Ac (dcF (by omega))] at hr
  exact .stop _ _ _ hr (by simp)
 | j+1,i,hi,e,d',h=>by
  have h1:i<l.length:=by omega
  have hr:=Nv x l r l.length i
  rw [Ag (dcT (by omega)),Aa (by simp only [anE,dcE]; omega)] at hr
  simp only [ntN,gtE h1,Am,Ap (n:=i) (by omega)] at hr
  rw [drop_eq_getElem_cons h1,B9,Aq] at h
  by_cases he:(fun z:Fa=>z.1==x) l[i]=true
  ·rw [if_pos he,if_neg (by omega)] at h
   cases h
   rw [Ag he] at hr
   exact .stop _ _ _ hr (by simp)
  ·rw [if_neg he] at h
   rw [Ac (by simpa using he)] at hr
   exact .step _ _ _ _ hr (Qo x hx j (i+1) (by omega) e d' (by rw [B9]; exact h))
theorem Acg  : As prog (Ab [(91,.rd1 Lm)]) (Ab [(2,O0)]) 1 (f90.body.getD .skip):=by
 refine An (a:=body f90 0) (by kernel_rfl) fun d e d' h=>?_
 unfold O0 at h
 dsimp only at h
 split at h
 ·obtain ⟨hc,h'⟩:=Ad h
  obtain ⟨h0,h1,h2,rfl⟩:=of_decide_eq_true hc
  obtain ⟨i,rfl⟩:=eq_ofNat_of_zero_le h0
  exact Qo _  h2 _ i (add_sub_of_le h1) e d' h'
 ·cases h
theorem ZC  (x:Int) (l:List (Fa)) (hx:l.length<=maxI):Aw prog (Ab [(91,.rd1 Lm)]) (Ab [(2,O0)]) f90 [.sl FNd l,.fn 91 [] [.ptr 0 0]] [.box [.j x]]=some (.j (Aq (fun z:Fa=>z.1==x) 0 l),[some (.box [.j x])]):=by
 have e:Aw prog (Ab [(91,.rd1 Lm)]) (Ab [(2,O0)]) f90 [.sl FNd l,.fn 91 [] [.ptr 0 0]] [.box [.j x]] =
  ((ifT (decide ((0:Int)<=(0:Int)/\0<=l.length/\l.length<=maxI/\(↑l.length:Int)=(↑l.length:Int))) (ifB (decide (Aq (fun z=>z.fst==x) 0
 (drop 0 l)<(0:Int))) (some (V.j (-1),[some (Blk.box [V.j x])])) (some (V.j (Aq (fun z=>z.fst==x) 0 (drop 0
 l)),[some (Blk.box [V.j x])])))):_):=by kernel_rfl
 rw [e,Aa (dcT ⟨by omega,by omega,hx,rfl⟩)]
 simp only [Int.toNat_zero,drop_zero]
 by_cases q:Aq (fun z:Fa=>z.1==x) 0 l<0
 ·rw [Ag (dcT q),Cn _ _ _ q]
 ·rw [Ac (dcF q)]
theorem ZB  : Af prog 90 (Ent.own Ts).F:=by
 refine Ae (kc func91 UG KnowsL.nil).knows (Λ:=(Ab [(2,O0)])) func90 (c:=f90.body.getD .skip) (by kernel_rfl) fun vs bs r h hv hb=>?_
 unfold Ent.F Ts at h
 dsimp only at h
 split at h
 ·rename_i l x
  have h':=h
  exact ⟨Acg ,(ZC x l (hv (.sl FNd l) (by simp)).1).trans (by cases h'; rfl)⟩
 ·cases h
theorem RX (ts:List Tp) (fs:List Fa) (x:List UInt8):Aw prog (Ab [(109,.own Tn)]) (Ab []) f89 [.bx [.sl TPd ts,.sl FNd fs] 0,.s x] []=some (.j (atT ts x),[]):=by
 have e:Aw prog (Ab [(109,.own Tn)]) (Ab []) f89 [.bx [.sl TPd ts,.sl FNd fs] 0,.s x] []=((some (V.j (Aq (fun z=>z.fst==x) 0 ts),[])):_):=by kernel_rfl
 exact e
theorem Xk:Af prog 89 (Ent.rd1 N2).F:=by
 refine Ae (kc func109 Z9 KnowsL.nil).knows (Λ:=Ab []) func89 (c:=f89.body.getD .skip) (by kernel_rfl) fun vs bs r hq hv hb=>?_
 unfold Ent.F N2 at hq
 dsimp only at hq
 split at hq
 ·exact ⟨Ai _,(RX _ _ _).trans hq⟩
 ·cases hq
theorem Xv (ts:List Tp) (fs:List Fa) (x:Int):Aw prog (Ab [(90,.own Ts)]) (Ab []) f42 [.bx [.sl TPd ts,.sl FNd fs] 0,.j x] []=some (.j (atW fs x),[]):=by
 have e:Aw prog (Ab [(90,.own Ts)]) (Ab []) f42 [.bx [.sl TPd ts,.sl FNd fs] 0,.j x] []=((some (V.j (Aq (fun z=>z.fst==x) 0 fs),[])):_):=by kernel_rfl
 exact e
theorem Adt:Af prog 42 (Ent.rd1 Zt).F:=by
 refine Ae (kc func90 ZB KnowsL.nil).knows (Λ:=Ab []) func42 (c:=f42.body.getD .skip) (by kernel_rfl) fun vs bs r hq hv hb=>?_
 unfold Ent.F Zt at hq
 dsimp only at hq
 split at hq
 ·exact ⟨Ai _,(Xv _ _ _).trans hq⟩
 ·cases hq
theorem Mt (x:List UInt8) (l:List Tp) (k i:Int):Av prog (Ab []) (Ab [(2,OQ)]) 0 (body f38 0) OQ ([.s x,.sl TPd l,.j k,.j i],[]) =
 ((ifB (decide (i<k)) (ifT (decide ((0:Int)<=i)&&decide (i<(↑l.length:Int))) (Ak l[i.toNat]? fun z=>ifB (z.fst==x) (some (Ex.ret,[V.j i],[])) (some
 (Ex.normal,[V.s x,V.sl TPd l,V.j k,V.j (i64.wrap (i+(1:Int)))],[])))) (some (Ex.exit 0,[],[]))):_):=by kernel_rfl
theorem Wj (ts:List Tp) (fs:List Fa) (x:List UInt8):Aw prog (Ab []) (Ab [(2,OQ)]) f38 [.agg [.sl TPd ts,.sl FNd fs],.s x] [] =
 ((ifT (decide ((0:Int)<=(0:Int)/\0<=ts.length/\(↑ts.length:Int)=(↑ts.length:Int)/\ts.length<=maxI)) (ifB (decide (Aq (fun t=>t.fst==x) (0 :
 Nat) (drop 0 ts)<(0:Int))) (some (V.j (-1),[])) (some (V.j (Aq (fun t=>t.fst==x) 0 (drop 0 ts)),[])))):_):=by kernel_rfl
theorem OP (x:List UInt8) (l:List Tp) (hl:l.length<=maxI) : ∀ (j i:Nat),i+j=l.length->∀ ex d,(Br.br (decide (Aq (fun t:Tp=>t.1==x) i (l.drop i)<0)) (.leaf (.exit 0,([],[]))) (.leaf (.ret,([.j (Aq (fun t:Tp=>t.1==x) i (l.drop i))],[]))):Br (Ex×Dt)).run=some (ex,d)->Runs prog (Ab []) (Ab [(2,OQ)]) 0 (body f38 0) OQ ([.s x,.sl TPd l,.j (l.length:Int),.j (i:Int)],[]) ex d
 | 0,i,hi,ex,d,h=>by
  have hr:=Mt x l l.length i
  rw [Ac (dcF (by omega))] at hr
  rw [drop_eq_nil_of_le (by omega),Aq,HW (dcT (by omega))] at h
  have h8:=Ao h
  obtain ⟨rfl,rfl⟩:=Prod.mk.inj h8
  exact .stop _ _ _ hr (by simp)
 | j+1,i,hi,ex,d,h=>by
  have hM:maxI=9223372036854775807:=rfl
  have hlt:i<l.length:=by omega
  have hr:=Mt x l l.length i
  rw [Ag (dcT (by omega)),Aa (by simp only [anE,dcE]; omega),ntN,gtE hlt,Am,Ap (n:=i) (by omega)] at hr
  rw [drop_eq_getElem_cons hlt,Aq] at h
  by_cases q:(l[i].1==x)=true
  ·rw [if_pos q,IC (dcF (by omega))] at h
   rw [Ag q] at hr
   have h8:=Ao h
   obtain ⟨rfl,rfl⟩:=Prod.mk.inj h8
   exact .stop _ _ _ hr (by simp)
  ·rw [if_neg q] at h
   rw [Ac (by simpa using q)] at hr
   exact .step _ _ _ _ hr (OP x l hl j (i+1) (by omega) ex d h)
theorem Aao:As prog (Ab []) (Ab [(2,OQ)]) 0 (f38.body.getD .skip):=by
 refine An (a:=body f38 0) (by kernel_rfl) fun d ex d' h=>?_
 unfold OQ at h
 dsimp only at h
 split at h
 ·rename_i x l k i
  obtain ⟨hc,hx⟩:=Ad h
  obtain ⟨h0,h1,rfl,h2⟩:=of_decide_eq_true hc
  obtain ⟨i,rfl⟩:=eq_ofNat_of_zero_le h0
  simp only [ntN] at h1 hx
  exact OP x l h2 (l.length-i) i (by omega) ex d' hx
 ·cases h
theorem sat:Af prog 38 (Ent.rd1 Y1).F:=by
 refine Ae KnowsL.nil.knows (Λ:=(Ab [(2,OQ)])) func38 (c:=f38.body.getD .skip) (by kernel_rfl) fun vs bs r hq hv hb=>?_
 unfold Ent.F Y1 at hq
 dsimp only at hq
 split at hq
 ·rename_i ts fs x
  have hm:ts.length<=maxI:=(hv (.agg [.sl TPd ts,.sl FNd fs]) (by simp) (.sl TPd ts) (by simp)).1
  refine ⟨Aao,(Wj ts fs x).trans (Eq.trans ?_ hq)⟩
  show _=some (V.j (atT ts x),[])
  rw [Aa (dcT ⟨by omega,by omega,rfl,hm⟩),drop_zero]
  unfold atT
  by_cases q:Aq (fun t:Tp=>t.1==x) 0 ts<0
  ·rw [Ag (dcT q),Cn _ _ _ q]
  ·rw [Ac (dcF q)]
 ·cases hq
theorem Kd (x:Int) (l:List Fa) (k i:Int):Av prog (Ab []) (Ab [(2,IR)]) 0 (body f45 0) IR ([.j x,.sl FNd l,.j k,.j i],[]) =
 ((ifB (decide (i<k)) (ifT (decide ((0:Int)<=i)&&decide (i<(↑l.length:Int))) (Ak l[i.toNat]? fun z=>ifB (z.fst==x) (some (Ex.ret,[V.j i],[])) (some
 (Ex.normal,[V.j x,V.sl FNd l,V.j k,V.j (i64.wrap (i+(1:Int)))],[])))) (some (Ex.exit 0,[],[]))):_):=by kernel_rfl
theorem TI (ts:List Tp) (fs:List Fa) (x:Int):Aw prog (Ab []) (Ab [(2,IR)]) f45 [.agg [.sl TPd ts,.sl FNd fs],.j x] [] =
 ((ifT (decide ((0:Int)<=(0:Int)/\0<=fs.length/\(↑fs.length:Int)=(↑fs.length:Int)/\fs.length<=maxI)) (ifB (decide (Aq (fun f=>f.fst==x) (0 :
 Nat) (drop 0 fs)<(0:Int))) (some (V.j (-1),[])) (some (V.j (Aq (fun f=>f.fst==x) 0 (drop 0 fs)),[])))):_):=by kernel_rfl
theorem Mo (x:Int) (l:List Fa) (hl:l.length<=maxI) : ∀ (j i:Nat),i+j=l.length->∀ ex d,(Br.br (decide (Aq (fun f:Fa=>f.1==x) i (l.drop i)<0)) (.leaf (.exit 0,([],[]))) (.leaf (.ret,([.j (Aq (fun f:Fa=>f.1==x) i (l.drop i))],[]))):Br (Ex×Dt)).run=some (ex,d)->Runs prog (Ab []) (Ab [(2,IR)]) 0 (body f45 0) IR ([.j x,.sl FNd l,.j (l.length:Int),.j (i:Int)],[]) ex d
 | 0,i,hi,ex,d,h=>by
  have hr:=Kd x l l.length i
  rw [Ac (dcF (by omega))] at hr
  rw [drop_eq_nil_of_le (by omega),Aq,HW (dcT (by omega))] at h
  have h8:=Ao h
  obtain ⟨rfl,rfl⟩:=Prod.mk.inj h8
  exact .stop _ _ _ hr (by simp)
 | j+1,i,hi,ex,d,h=>by
  have hM:maxI=9223372036854775807:=rfl
  have hlt:i<l.length:=by omega
  have hr:=Kd x l l.length i
  rw [Ag (dcT (by omega)),Aa (by simp only [anE,dcE]; omega),ntN,gtE hlt,Am,Ap (n:=i) (by omega)] at hr
  rw [drop_eq_getElem_cons hlt,Aq] at h
  by_cases q:(l[i].1==x)=true
  ·rw [if_pos q,IC (dcF (by omega))] at h
   rw [Ag q] at hr
   have h8:=Ao h
   obtain ⟨rfl,rfl⟩:=Prod.mk.inj h8
   exact .stop _ _ _ hr (by simp)
  ·rw [if_neg q] at h
   rw [Ac (by simpa using q)] at hr
   exact .step _ _ _ _ hr (Mo x l hl j (i+1) (by omega) ex d h)
theorem Yp:As prog (Ab []) (Ab [(2,IR)]) 0 (f45.body.getD .skip):=by
 refine An (a:=body f45 0) (by kernel_rfl) fun d ex d' h=>?_
 unfold IR at h
 dsimp only at h
 split at h
 ·rename_i x l k i
  obtain ⟨hc,hx⟩:=Ad h
  obtain ⟨h0,h1,rfl,h2⟩:=of_decide_eq_true hc
  obtain ⟨i,rfl⟩:=eq_ofNat_of_zero_le h0
  simp only [ntN] at h1 hx
  exact Mo x l h2 (l.length-i) i (by omega) ex d' hx
 ·cases h
theorem Aee:Af prog 45 (Ent.rd1 VP).F:=by
 refine Ae KnowsL.nil.knows (Λ:=(Ab [(2,IR)])) func45 (c:=f45.body.getD .skip) (by kernel_rfl) fun vs bs r hq hv hb=>?_
 unfold Ent.F VP at hq
 dsimp only at hq
 split at hq
 ·rename_i ts fs x
  have hm:fs.length<=maxI:=(hv (.agg [.sl TPd ts,.sl FNd fs]) (by simp) (.sl FNd fs) (by simp)).1
  refine ⟨Yp,(TI ts fs x).trans (Eq.trans ?_ hq)⟩
  show _=some (V.j (atW fs x),[])
  rw [Aa (dcT ⟨by omega,by omega,rfl,hm⟩),drop_zero]
  unfold atW
  by_cases q:Aq (fun f:Fa=>f.1==x) 0 fs<0
  ·rw [Ag (dcT q),Cn _ _ _ q]
  ·rw [Ac (dcF q)]
 ·cases hq
def H1:Nat->Nat->List UInt8->List UInt8
 | 0,_,acc=>acc
 | f+1,k,acc=>if k=0 then acc else H1 f (k / 10) ((48+UInt8.ofNat (k % 10))::acc)
def Bp (k:Int):List UInt8:=if k<=0 then [109,48] else 109::H1 (k.toNat+1) k.toNat []
def lim:Int:=1000000000000
def Cv:LoopEnt:=⟨20,[0,3],[3],[],fun
 | ([.i .i64 k,.s acc],[])=>
  .need (decide (0<=k/\k+acc.length<=lim)) (.leaf (.exit 0,([.s (H1 (k.toNat+1) k.toNat acc)],[])))
 | _=>.no⟩
def A9:Gm
 | [.i .i64 k],[]=>.need (decide (k<=lim)) (.leaf (.s (Bp k),[]))
 | _,_=>.no
theorem M8 : ∀ (f g k:Nat) (acc:List UInt8),k<f->k<g->H1 f k acc=H1 g k acc
 | 0,_,_,_,h,_=>by omega
 | _+1,0,_,_,_,h=>by omega
 | f+1,g+1,k,acc,h1,h2=>by
  simp only [H1]
  by_cases h:k=0
  ·simp [h]
  ·simp only [if_neg h]; exact M8 f g (k / 10) _ (by omega) (by omega)
theorem Pn : ∀ (f k:Nat) (acc:List UInt8),k<f->(H1 f k acc).length<=k+acc.length
 | 0,_,acc,h=>by omega
 | f+1,k,acc,h=>by
  simp only [H1]; split
  ·omega
  ·have:=Pn f (k / 10) ((48+UInt8.ofNat (k % 10))::acc) (by omega); simp only [length_cons] at this; omega
theorem KF (n:Nat) (acc:List UInt8):Av prog (Ab []) (Ab [(4,Cv)]) 0 (body f57 0) Cv ([.j n,.s acc],[]) =
 ((ifB (decide ((↑n:Int)>(0:Int))) (ifT (decide (1+acc.length<=9223372036854775807)) (some (Ex.normal,[V.j (i64.wrap (((↑n:Int)).tdiv
 (10:Int))),V.s (List.map (fun n=>UInt8.ofNat n.toNat) (IntKind.u8.wrap (i64.wrap ((48:Int)+((↑n:Int)).tmod (10:Int)))::Aj (Cd.int .u8).den)++
 acc)],[]))) (some (Ex.exit 0,[V.s acc],[]))):_):=by kernel_rfl
theorem LH (k:Int):Aw prog (Ab []) (Ab [(4,Cv)]) f57 [.j k] [] =
  ((ifB (decide (k<=(0:Int))) (some (V.s [(109:UInt8),(48:UInt8)],[])) (ifT (decide ((0:Int)<=k/\k+(↑(0:Nat):Int)<=lim)) (ifT (decide (1+(H1
 (k.toNat+1) k.toNat (Aj UInt8)).length<=9223372036854775807)) (some (V.s ([(109:UInt8)]++H1 (k.toNat+1) k.toNat (Aj UInt8)),[]))))):_):=by kernel_rfl
theorem G4 : ∀ (f n:Nat) (acc:List UInt8),n<f->(n:Int)+acc.length<=lim->
  Runs prog (Ab []) (Ab [(4,Cv)]) 0 (body f57 0) Cv ([.j n,.s acc],[]) (.exit 0) ([.s (H1 (n+1) n acc)],[])
 | 0,_,_,h,_=>by omega
 | f+1,n,acc,h,hl=>by
  unfold lim at hl
  have hr:=KF n acc
  by_cases h0:n=0
  ·subst h0
   exact .stop _ _ _ (hr.trans (by simp [H1])) (by simp)
  ·have e1:i64.wrap (((n:Int)).tdiv 10)=((n / 10:Nat):Int):=by
    rw [Int.tdiv_eq_ediv_of_nonneg (by omega),Ay (by omega) (by omega)]; rfl
   have e2:UInt8.ofNat (IntKind.u8.wrap (i64.wrap (48+((n:Int)).tmod 10))).toNat=48+UInt8.ofNat (n % 10):=by
    rw [Int.tmod_eq_emod_of_nonneg (by omega),Ay (by omega) (by omega)]
    have e3:IntKind.u8.wrap (48+(n:Int) % 10)=((48+n % 10:Nat):Int):=by
     unfold IntKind.wrap
     simp [IntKind.bits,IntKind.signed]
     omega
    rw [e3,ntN,UInt8.ofNat_add]; rfl
   have hr:=hr.trans (c:=some (Ex.normal,[V.j ((n / 10:Nat):Int),V.s ((48+UInt8.ofNat (n % 10))::acc)],[])) (by
    rw [Ag (by simp; omega),Aa (by simp; omega),e1]
    simp only [List.map_cons,List.map_nil,e2]; rfl)
   refine .step _ _ _ _ hr ?_
   have:=G4 f (n / 10) ((48+UInt8.ofNat (n % 10))::acc) (by omega) (by unfold lim; simp only [length_cons]; omega)
   rw [M8 (n / 10+1) n (n / 10) _ (by omega) (by omega)] at this
   simpa [H1,h0] using this
theorem Pv:As prog (Ab []) (Ab [(4,Cv)]) 0 (f57.body.getD .skip):=by
 refine An (a:=body f57 0) (by kernel_rfl) fun d e d' h=>?_
 unfold Cv at h
 dsimp only at h
 split at h
 ·rename_i k acc
  obtain ⟨hc,h⟩:=Ad h
  have hc:=of_decide_eq_true hc
  obtain ⟨n,rfl⟩:=eq_ofNat_of_zero_le hc.1
  cases h
  exact G4 (n+1) n acc (by omega) hc.2
 ·cases h
theorem Oe (k:Int) (hk:k<=lim):Aw prog (Ab []) (Ab [(4,Cv)]) f57 [.j k] []=some (.s (Bp k),[]):=by
 rw [LH]
 unfold Bp
 unfold lim at hk
 by_cases h:k<=0
 ·simp [h]
 ·have h1:0<=k:=by omega
  have:=Pn (k.toNat+1) k.toNat [] (by omega)
  simp at this
  simp [h,h1,lim,show k<=1000000000000 from hk,show 1+(H1 (k.toNat+1) k.toNat []).length<=9223372036854775807 by omega]
theorem Dq:Af prog 57 (Ent.rd1 A9).F:=by
 refine Ae (KnowsL.nil).knows (Λ:=Ab [(4,Cv)]) func57 (c:=f57.body.getD .skip) (by kernel_rfl) fun vs bs r h hv hb=>?_
 unfold Ent.F A9 at h
 dsimp only at h
 split at h
 ·rename_i k
  obtain ⟨hc,h⟩:=Ad h
  exact ⟨Pv,(Oe k (of_decide_eq_true hc)).trans (by cases h; rfl)⟩
 ·cases h
def A3 {α:Type} (g:Int->α) (st:Int):Int->Nat->List α
 | _,0=>[]
 | k,n+1=>g k::A3 g st (k+st) n
theorem CC {α:Type} {l:List α} {p:Nat} {e:α} (h:p<l.length):(l.set p e).take (p+1)=l.take p++[e]:=by
 rw [List.take_add_one,List.getElem?_set_self h,List.take_set_of_le (Nat.le_refl p)]; rfl
theorem Kk {α:Type} {l:List α} {p q:Nat} {e:α} (h:p<q):(l.set p e).drop q=l.drop q:=drop_set_of_lt h
def A6 (k:Int):(Int×List UInt8×Int×Bool×Int×Int×Unit):=(k,Bp (k+1),k+2,(tmod (k+3) 3==0),k+4,k+5,())
def Cu:LoopEnt:=⟨58,[0,1,5],[1],[],fun
 | ([.ref 0 lo m,.i .i64 k,.i .i64 n],[some (.row false none TCd l)])=>
  .need (decide (0<=n/\n.toNat<=m/\lo+m<=l.length/\m<=maxI/\0<=k/\k+6*(↑(m-n.toNat):Int)<=lim))
   (.leaf (.exit 0,([.i .i64 (k+6*(↑(m-n.toNat):Int))],[some (.row false none TCd (l.take (lo+n.toNat)++A3 A6 6 k (m-n.toNat)++l.drop (lo+m)))])))
 | _=>.no⟩
def Et:Gm
 | [.ref 0 lo m,.i .i64 k],[.row false _ TCd l]=>
  .need (decide (lo+m<=l.length/\0<=k/\k+6*(↑m:Int)<=lim)) (.leaf (.i .i64 (k+6*(↑m:Int)),[some (.row false none TCd (l.take lo++A3 A6 6 k m++l.drop (lo+m)))]))
 | _,_=>.no
def A8 (k:Int):(Int×Int×Int×List UInt8×Int×Int×Unit):=(k,k+1,k+2,Bp (k+3),k+4,k+5,())
def Ct:LoopEnt:=⟨56,[0,1,5],[1],[],fun
 | ([.ref 0 lo m,.i .i64 k,.i .i64 n],[some (.row false none WCd l)])=>
  .need (decide (0<=n/\n.toNat<=m/\lo+m<=l.length/\m<=maxI/\0<=k/\k+6*(↑(m-n.toNat):Int)<=lim))
   (.leaf (.exit 0,([.i .i64 (k+6*(↑(m-n.toNat):Int))],[some (.row false none WCd (l.take (lo+n.toNat)++A3 A8 6 k (m-n.toNat)++l.drop (lo+m)))])))
 | _=>.no⟩
def Ge:Gm
 | [.ref 0 lo m,.i .i64 k],[.row false _ WCd l]=>
  .need (decide (lo+m<=l.length/\0<=k/\k+6*(↑m:Int)<=lim)) (.leaf (.i .i64 (k+6*(↑m:Int)),[some (.row false none WCd (l.take lo++A3 A8 6 k m++l.drop (lo+m)))]))
 | _,_=>.no
def AO (k:Int):(List UInt8×Int×List UInt8×Unit):=(Bp k,k+1,Bp (k+2),())
def Cw:LoopEnt:=⟨36,[0,1,5],[1],[],fun
 | ([.ref 0 lo m,.i .i64 k,.i .i64 n],[some (.row false none NTd l)])=>
  .need (decide (0<=n/\n.toNat<=m/\lo+m<=l.length/\m<=maxI/\0<=k/\k+3*(↑(m-n.toNat):Int)<=lim))
   (.leaf (.exit 0,([.i .i64 (k+3*(↑(m-n.toNat):Int))],[some (.row false none NTd (l.take (lo+n.toNat)++A3 AO 3 k (m-n.toNat)++l.drop (lo+m)))])))
 | _=>.no⟩
def Gf:Gm
 | [.ref 0 lo m,.i .i64 k],[.row false _ NTd l]=>
  .need (decide (lo+m<=l.length/\0<=k/\k+3*(↑m:Int)<=lim)) (.leaf (.i .i64 (k+3*(↑m:Int)),[some (.row false none NTd (l.take lo++A3 AO 3 k m++l.drop (lo+m)))]))
 | _,_=>.no
theorem F8 (lo m:Nat) (k:Int) (l:List (Int×List UInt8×Int×Bool×Int×Int×Unit)) (n:Nat):Av prog (Ab [(57,.rd1 A9)]) (Ab [(2,Cu)]) 1 (body f58 0) Cu ([.ref 0 lo m,.j k,.j n],[some (.row false none TCd l)]) =
 ((ifB (decide ((↑n:Int)<(↑m:Int))) (ifT (decide ((0:Int)<=(↑n:Int))&&decide ((↑n:Int)<(↑m:Int))) (Ak l[lo+((↑n:Int)).toNat]? fun z=>ifT (decide
 (i64.wrap (k+(1:Int))<=lim)) (ifT (decide ((0:Int)<=(↑n:Int))&&decide ((↑n:Int)<(↑m:Int))) (Ak (l.set (lo+((↑n:Int)).toNat) (k,
 z.snd.fst,z.snd.snd.fst,z.snd.snd.snd.fst,z.snd.snd.snd.snd.fst,z.snd.snd.snd.snd.snd.fst,()))[lo+((↑n:Int)).toNat]? fun z_1=>ifT (decide ((0:Int)<=(↑n :
 Int))&&decide ((↑n:Int)<(↑m:Int))) (Ak ((l.set (lo+((↑n:Int)).toNat) (k,z.snd.fst,z.snd.snd.fst,z.snd.snd.snd.fst,z.snd.snd.snd.snd.fst,
 z.snd.snd.snd.snd.snd.fst,())).set (lo+((↑n:Int)).toNat) (z_1.fst,Bp (i64.wrap (k+(1:Int))),z_1.snd.snd.fst,z_1.snd.snd.snd.fst,
 z_1.snd.snd.snd.snd.fst,z_1.snd.snd.snd.snd.snd.fst,()))[lo+((↑n:Int)).toNat]? fun z_2=>ifT (decide ((0:Int)<=(↑n:Int))&&decide ((↑n:Int)<(↑m:Int)))
 (Ak (((l.set (lo+((↑n:Int)).toNat) (k,z.snd.fst,z.snd.snd.fst,z.snd.snd.snd.fst,z.snd.snd.snd.snd.fst,z.snd.snd.snd.snd.snd.fst,())).set (lo+((↑n :
 Int)).toNat) (z_1.fst,Bp (i64.wrap (k+(1:Int))),z_1.snd.snd.fst,z_1.snd.snd.snd.fst,z_1.snd.snd.snd.snd.fst,z_1.snd.snd.snd.snd.snd.fst,())).set (lo
 + ((↑n:Int)).toNat) (z_2.fst,z_2.snd.fst,i64.wrap (i64.wrap (k+(1:Int))+(1:Int)),z_2.snd.snd.snd.fst,z_2.snd.snd.snd.snd.fst,
 z_2.snd.snd.snd.snd.snd.fst,()))[lo+((↑n:Int)).toNat]? fun z_3=>ifT (decide ((0:Int)<=(↑n:Int))&&decide ((↑n:Int)<(↑m:Int))) (Ak ((((l.set (lo +
 ((↑n:Int)).toNat) (k,z.snd.fst,z.snd.snd.fst,z.snd.snd.snd.fst,z.snd.snd.snd.snd.fst,z.snd.snd.snd.snd.snd.fst,())).set (lo+((↑n:Int)).toNat) (z_1.fst,Bp
 (i64.wrap (k+(1:Int))),z_1.snd.snd.fst,z_1.snd.snd.snd.fst,z_1.snd.snd.snd.snd.fst,z_1.snd.snd.snd.snd.snd.fst,())).set (lo+((↑n:Int)).toNat)
 (z_2.fst,z_2.snd.fst,i64.wrap (i64.wrap (k+(1:Int))+(1:Int)),z_2.snd.snd.snd.fst,z_2.snd.snd.snd.snd.fst,z_2.snd.snd.snd.snd.snd.fst,
 ())).set (lo+((↑n:Int)).toNat) (z_3.fst,z_3.snd.fst,z_3.snd.snd.fst,(i64.wrap (i64.wrap (i64.wrap (k+(1:Int))+(1:Int))+(1 :
 Int))).tmod (3:Int)==(0:Int),z_3.snd.snd.snd.snd.fst,z_3.snd.snd.snd.snd.snd.fst,()))[lo+((↑n:Int)).toNat]? fun z_4=>ifT (decide ((0:Int)<=(↑n:Int))
 && decide ((↑n:Int)<(↑m:Int))) (Ak (((((l.set (lo+((↑n:Int)).toNat) (k,z.snd.fst,z.snd.snd.fst,z.snd.snd.snd.fst,z.snd.snd.snd.snd.fst,
 z.snd.snd.snd.snd.snd.fst,())).set (lo+((↑n:Int)).toNat) (z_1.fst,Bp (i64.wrap (k+(1:Int))),z_1.snd.snd.fst,z_1.snd.snd.snd.fst,
 z_1.snd.snd.snd.snd.fst,z_1.snd.snd.snd.snd.snd.fst,())).set (lo+((↑n:Int)).toNat) (z_2.fst,z_2.snd.fst,i64.wrap (i64.wrap (k+(1:Int))+(1 :
 Int)),z_2.snd.snd.snd.fst,z_2.snd.snd.snd.snd.fst,z_2.snd.snd.snd.snd.snd.fst,())).set (lo+((↑n:Int)).toNat) (z_3.fst,z_3.snd.fst,z_3.snd.snd.fst,
 (i64.wrap (i64.wrap (i64.wrap (k+(1:Int))+(1:Int))+(1:Int))).tmod (3:Int)==(0:Int),z_3.snd.snd.snd.snd.fst,
 z_3.snd.snd.snd.snd.snd.fst,())).set (lo+((↑n:Int)).toNat) (z_4.fst,z_4.snd.fst,z_4.snd.snd.fst,z_4.snd.snd.snd.fst,i64.wrap (i64.wrap
 (i64.wrap (i64.wrap (k+(1:Int))+(1:Int))+(1:Int))+(1:Int)),z_4.snd.snd.snd.snd.snd.fst,()))[lo+((↑n:Int)).toNat]? fun z_5=>some
 (Ex.normal,[V.ref 0 lo m,V.j (i64.wrap (i64.wrap (i64.wrap (i64.wrap (i64.wrap (i64.wrap (k+(1:Int)) +
 (1:Int))+(1:Int))+(1:Int))+(1:Int))+(1:Int))),V.j (i64.wrap ((↑n:Int)+(1:Int)))],[some (Blk.row false none TCd ((((((l.set (lo +
 ((↑n:Int)).toNat) (k,z.snd.fst,z.snd.snd.fst,z.snd.snd.snd.fst,z.snd.snd.snd.snd.fst,z.snd.snd.snd.snd.snd.fst,())).set (lo+((↑n:Int)).toNat) (z_1.fst,Bp
 (i64.wrap (k+(1:Int))),z_1.snd.snd.fst,z_1.snd.snd.snd.fst,z_1.snd.snd.snd.snd.fst,z_1.snd.snd.snd.snd.snd.fst,())).set (lo+((↑n:Int)).toNat)
 (z_2.fst,z_2.snd.fst,i64.wrap (i64.wrap (k+(1:Int))+(1:Int)),z_2.snd.snd.snd.fst,z_2.snd.snd.snd.snd.fst,z_2.snd.snd.snd.snd.snd.fst,
 ())).set (lo+((↑n:Int)).toNat) (z_3.fst,z_3.snd.fst,z_3.snd.snd.fst,(i64.wrap (i64.wrap (i64.wrap (k+(1:Int))+(1:Int))+(1 :
 Int))).tmod (3:Int)==(0:Int),z_3.snd.snd.snd.snd.fst,z_3.snd.snd.snd.snd.snd.fst,())).set (lo+((↑n:Int)).toNat) (z_4.fst,z_4.snd.fst,z_4.snd.snd.fst,
 z_4.snd.snd.snd.fst,i64.wrap (i64.wrap (i64.wrap (i64.wrap (k+(1:Int))+(1:Int))+(1:Int))+(1:Int)),
 z_4.snd.snd.snd.snd.snd.fst,())).set (lo+((↑n:Int)).toNat) (z_5.fst,z_5.snd.fst,z_5.snd.snd.fst,z_5.snd.snd.snd.fst,z_5.snd.snd.snd.snd.fst,i64.wrap
 (i64.wrap (i64.wrap (i64.wrap (i64.wrap (k+(1:Int))+(1:Int))+(1:Int))+(1:Int))+(1:Int)),())))]))))))))) (some
 (Ex.exit 0,[V.j k],[some (Blk.row false none TCd l)]))):_):=by kernel_rfl
theorem G3 {lo m:Nat} (hm:m<=maxI) : ∀ (j n:Nat) (k:Int) (l:List (Int×List UInt8×Int×Bool×Int×Int×Unit)),n+j=m->lo+m<=l.length->0<=k->k+6*(j:Int)<=lim->
  Runs prog (Ab [(57,.rd1 A9)]) (Ab [(2,Cu)]) 1 (body f58 0) Cu ([.ref 0 lo m,.j k,.j n],[some (.row false none TCd l)]) (.exit 0) ([.j (k+6*(j:Int))],[some (.row false none TCd (l.take (lo+n)++A3 A6 6 k j++l.drop (lo+m)))])
 | 0,n,k,l,hn,hl,h0,hk=>by
  obtain rfl:n=m:=by omega
  refine .stop _ _ _ ((F8 lo n k l n).trans ?_) (by simp)
  simp [A3]
 | j+1,n,k,l,hn,hl,h0,hk=>by
  have h1:n<m:=by omega
  have h2:lo+n<l.length:=by omega
  unfold lim at hk
  have hr:=F8 lo m k l n
  have hw : ∀ i:Int,0<=i->i<=6->i64.wrap (k+i)=k+i:=fun i hi hi'=>Ay (by omega) (by omega)
  simp only [ntN,gtE h2,Ap (n:=n) (by omega)] at hr
  refine .step _ _ _ (d1:=([.ref 0 lo m,.j (k+6),.j ((n+1:Nat):Int)],[some (.row false none TCd (l.set (lo+n) (A6 k)))])) (hr.trans ?_) ?_
  ·simp [h1,h2,A6,lim,hw 1 (by omega) (by omega),hw 2 (by omega) (by omega),hw 3 (by omega) (by omega),hw 4 (by omega) (by omega),hw 5 (by omega) (by omega),hw 6 (by omega) (by omega),add_assoc,show k<=1000000000000 by omega,show k+1<=1000000000000 by omega,show k+2<=1000000000000 by omega,show k+3<=1000000000000 by omega,show k+4<=1000000000000 by omega,show k+5<=1000000000000 by omega]
  ·have:=G3 hm j (n+1) (k+6) (l.set (lo+n) (A6 k)) (by omega) (by simp; omega) (by omega) (by unfold lim; push_cast at hk; omega)
   rw [show lo+(n+1)=lo+n+1 from rfl,CC h2,Kk (show lo+n<lo+m by omega)] at this
   have e:k+6+6*(j:Int)=k+6*((j+1:Nat):Int):=by push_cast; omega
   rw [e] at this
   simpa [A3] using this
theorem Pu:As prog (Ab [(57,.rd1 A9)]) (Ab [(2,Cu)]) 1 (f58.body.getD .skip):=by
 refine An (a:=body f58 0) (by kernel_rfl) fun d e d' h=>?_
 unfold Cu at h
 dsimp only at h
 split at h
 ·rename_i lo m k n l
  obtain ⟨hc,h⟩:=Ad h
  have hc:=of_decide_eq_true hc
  obtain ⟨n,rfl⟩:=eq_ofNat_of_zero_le hc.1
  cases h
  exact G3 hc.2.2.2.1 _ _ _ _ (add_sub_of_le hc.2.1) hc.2.2.1 hc.2.2.2.2.1 hc.2.2.2.2.2
 ·cases h
theorem Od (lo m:Nat) (k:Int) (nl:Option Bool) (l:List (Int×List UInt8×Int×Bool×Int×Int×Unit)) (hm:m<=maxI) (hl:lo+m<=l.length) (h0:0<=k) (hk:k+6*(m:Int)<=lim):Aw prog (Ab [(57,.rd1 A9)]) (Ab [(2,Cu)]) f58 [.ref 0 lo m,.j k] [.row false nl TCd l] =
  some (.j (k+6*(m:Int)),[some (.row false none TCd (l.take lo++A3 A6 6 k m++l.drop (lo+m)))]):=by
 have e:Aw prog (Ab [(57,.rd1 A9)]) (Ab [(2,Cu)]) f58 [.ref 0 lo m,.j k] [.row false nl TCd l] =
  ((ifT (decide ((0:Int)<=(0:Int)/\0<=m/\lo+m<=l.length/\m<=maxI/\(0:Int)<=k/\k+(6:Int)*(↑(m-0):Int)<=lim)) (some (V.j (k +
 (6:Int)*(↑(m-0):Int)),[some (Blk.row false none TCd (take (lo+0) l++A3 A6 (6:Int) k (m-0)++drop (lo+m)
 l))]))):_):=by kernel_rfl
 rw [e,Aa (dcT ⟨by omega,by omega,hl,hm,h0,hk⟩)]
 rfl
theorem KE:Af prog 58 (Ent.own Et).F:=by
 refine Ae (kc func57 Dq (KnowsL.nil)).knows (Λ:=(Ab [(2,Cu)])) func58 (c:=f58.body.getD .skip) (by kernel_rfl) fun vs bs r h hv hb=>?_
 unfold Ent.F Et at h
 dsimp only at h
 split at h
 ·rename_i lo m k nl l
  obtain ⟨hc,h⟩:=Ad h
  have hc:=of_decide_eq_true hc
  exact ⟨Pu,(Od lo m k nl l (hv (.ref 0 lo m) (by simp)) hc.1 hc.2.1 hc.2.2).trans (by cases h; rfl)⟩
 ·cases h
theorem F7 (lo m:Nat) (k:Int) (l:List (Int×Int×Int×List UInt8×Int×Int×Unit)) (n:Nat):Av prog (Ab [(57,.rd1 A9)]) (Ab [(2,Ct)]) 1 (body f111 0) Ct ([.ref 0 lo m,.j k,.j n],[some (.row false none WCd l)]) =
 ((ifB (decide ((↑n:Int)<(↑m:Int))) (ifT (decide ((0:Int)<=(↑n:Int))&&decide ((↑n:Int)<(↑m:Int))) (Ak l[lo+((↑n:Int)).toNat]? fun z=>ifT (decide
 ((0:Int)<=(↑n:Int))&&decide ((↑n:Int)<(↑m:Int))) (Ak (l.set (lo+((↑n:Int)).toNat) (k,z.snd.fst,z.snd.snd.fst,z.snd.snd.snd.fst,
 z.snd.snd.snd.snd.fst,z.snd.snd.snd.snd.snd.fst,()))[lo+((↑n:Int)).toNat]? fun z_1=>ifT (decide ((0:Int)<=(↑n:Int))&&decide ((↑n:Int)<(↑m:Int)))
 (Ak ((l.set (lo+((↑n:Int)).toNat) (k,z.snd.fst,z.snd.snd.fst,z.snd.snd.snd.fst,z.snd.snd.snd.snd.fst,z.snd.snd.snd.snd.snd.fst,())).set (lo+((↑n :
 Int)).toNat) (z_1.fst,i64.wrap (k+(1:Int)),z_1.snd.snd.fst,z_1.snd.snd.snd.fst,z_1.snd.snd.snd.snd.fst,z_1.snd.snd.snd.snd.snd.fst,()))[lo+((↑n :
 Int)).toNat]? fun z_2=>ifT (decide (i64.wrap (i64.wrap (i64.wrap (k+(1:Int))+(1:Int))+(1:Int))<=lim)) (ifT (decide ((0:Int)<=(↑n
 : Int))&&decide ((↑n:Int)<(↑m:Int))) (Ak (((l.set (lo+((↑n:Int)).toNat) (k,z.snd.fst,z.snd.snd.fst,z.snd.snd.snd.fst,z.snd.snd.snd.snd.fst,
 z.snd.snd.snd.snd.snd.fst,())).set (lo+((↑n:Int)).toNat) (z_1.fst,i64.wrap (k+(1:Int)),z_1.snd.snd.fst,z_1.snd.snd.snd.fst,z_1.snd.snd.snd.snd.fst,
 z_1.snd.snd.snd.snd.snd.fst,())).set (lo+((↑n:Int)).toNat) (z_2.fst,z_2.snd.fst,i64.wrap (i64.wrap (k+(1:Int))+(1:Int)),
 z_2.snd.snd.snd.fst,z_2.snd.snd.snd.snd.fst,z_2.snd.snd.snd.snd.snd.fst,()))[lo+((↑n:Int)).toNat]? fun z_3=>ifT (decide ((0:Int)<=(↑n:Int))&&decide ((↑n :
 Int)<(↑m:Int))) (Ak ((((l.set (lo+((↑n:Int)).toNat) (k,z.snd.fst,z.snd.snd.fst,z.snd.snd.snd.fst,z.snd.snd.snd.snd.fst,z.snd.snd.snd.snd.snd.fst,
 ())).set (lo+((↑n:Int)).toNat) (z_1.fst,i64.wrap (k+(1:Int)),z_1.snd.snd.fst,z_1.snd.snd.snd.fst,z_1.snd.snd.snd.snd.fst,z_1.snd.snd.snd.snd.snd.fst,
 ())).set (lo+((↑n:Int)).toNat) (z_2.fst,z_2.snd.fst,i64.wrap (i64.wrap (k+(1:Int))+(1:Int)),z_2.snd.snd.snd.fst,z_2.snd.snd.snd.snd.fst,
 z_2.snd.snd.snd.snd.snd.fst,())).set (lo+((↑n:Int)).toNat) (z_3.fst,z_3.snd.fst,z_3.snd.snd.fst,Bp (i64.wrap (i64.wrap (i64.wrap (k +
 (1:Int))+(1:Int))+(1:Int))),z_3.snd.snd.snd.snd.fst,z_3.snd.snd.snd.snd.snd.fst,()))[lo+((↑n:Int)).toNat]? fun z_4=>ifT (decide ((0:Int)<=(↑n :
 Int))&&decide ((↑n:Int)<(↑m:Int))) (Ak (((((l.set (lo+((↑n:Int)).toNat) (k,z.snd.fst,z.snd.snd.fst,z.snd.snd.snd.fst,z.snd.snd.snd.snd.fst,
 z.snd.snd.snd.snd.snd.fst,())).set (lo+((↑n:Int)).toNat) (z_1.fst,i64.wrap (k+(1:Int)),z_1.snd.snd.fst,z_1.snd.snd.snd.fst,z_1.snd.snd.snd.snd.fst,
 z_1.snd.snd.snd.snd.snd.fst,())).set (lo+((↑n:Int)).toNat) (z_2.fst,z_2.snd.fst,i64.wrap (i64.wrap (k+(1:Int))+(1:Int)),
 z_2.snd.snd.snd.fst,z_2.snd.snd.snd.snd.fst,z_2.snd.snd.snd.snd.snd.fst,())).set (lo+((↑n:Int)).toNat) (z_3.fst,z_3.snd.fst,z_3.snd.snd.fst,Bp
 (i64.wrap (i64.wrap (i64.wrap (k+(1:Int))+(1:Int))+(1:Int))),z_3.snd.snd.snd.snd.fst,z_3.snd.snd.snd.snd.snd.fst,())).set (lo +
 ((↑n:Int)).toNat) (z_4.fst,z_4.snd.fst,z_4.snd.snd.fst,z_4.snd.snd.snd.fst,i64.wrap (i64.wrap (i64.wrap (i64.wrap (k+(1:Int)) +
 (1:Int))+(1:Int))+(1:Int)),z_4.snd.snd.snd.snd.snd.fst,()))[lo+((↑n:Int)).toNat]? fun z_5=>some (Ex.normal,[V.ref 0 lo m,V.i .i64
 (i64.wrap (i64.wrap (i64.wrap (i64.wrap (i64.wrap (i64.wrap (k+(1:Int))+(1:Int))+(1:Int))+(1:Int))+(1 :
 Int))+(1:Int))),V.j (i64.wrap ((↑n:Int)+(1:Int)))],[some (Blk.row false none WCd ((((((l.set (lo+((↑n:Int)).toNat) (k,z.snd.fst,
 z.snd.snd.fst,z.snd.snd.snd.fst,z.snd.snd.snd.snd.fst,z.snd.snd.snd.snd.snd.fst,())).set (lo+((↑n:Int)).toNat) (z_1.fst,i64.wrap (k+(1:Int)),
 z_1.snd.snd.fst,z_1.snd.snd.snd.fst,z_1.snd.snd.snd.snd.fst,z_1.snd.snd.snd.snd.snd.fst,())).set (lo+((↑n:Int)).toNat) (z_2.fst,z_2.snd.fst,i64.wrap
 (i64.wrap (k+(1:Int))+(1:Int)),z_2.snd.snd.snd.fst,z_2.snd.snd.snd.snd.fst,z_2.snd.snd.snd.snd.snd.fst,())).set (lo+((↑n:Int)).toNat) (z_3.fst,
 z_3.snd.fst,z_3.snd.snd.fst,Bp (i64.wrap (i64.wrap (i64.wrap (k+(1:Int))+(1:Int))+(1:Int))),z_3.snd.snd.snd.snd.fst,
 z_3.snd.snd.snd.snd.snd.fst,())).set (lo+((↑n:Int)).toNat) (z_4.fst,z_4.snd.fst,z_4.snd.snd.fst,z_4.snd.snd.snd.fst,i64.wrap (i64.wrap
 (i64.wrap (i64.wrap (k+(1:Int))+(1:Int))+(1:Int))+(1:Int)),z_4.snd.snd.snd.snd.snd.fst,())).set (lo+((↑n:Int)).toNat) (z_5.fst,
 z_5.snd.fst,z_5.snd.snd.fst,z_5.snd.snd.snd.fst,z_5.snd.snd.snd.snd.fst,i64.wrap (i64.wrap (i64.wrap (i64.wrap (i64.wrap (k +
 (1:Int))+(1:Int))+(1:Int))+(1:Int))+(1:Int)),())))]))))))))) (some (Ex.exit 0,[V.j k],[some (Blk.row false none WCd l)]))):_):=by kernel_rfl
theorem G2 {lo m:Nat} (hm:m<=maxI) : ∀ (j n:Nat) (k:Int) (l:List (Int×Int×Int×List UInt8×Int×Int×Unit)),n+j=m->lo+m<=l.length->0<=k->k+6*(j:Int)<=lim->
  Runs prog (Ab [(57,.rd1 A9)]) (Ab [(2,Ct)]) 1 (body f111 0) Ct ([.ref 0 lo m,.j k,.j n],[some (.row false none WCd l)]) (.exit 0) ([.j (k+6*(j:Int))],[some (.row false none WCd (l.take (lo+n)++A3 A8 6 k j++l.drop (lo+m)))])
 | 0,n,k,l,hn,hl,h0,hk=>by
  obtain rfl:n=m:=by omega
  refine .stop _ _ _ ((F7 lo n k l n).trans ?_) (by simp)
  simp [A3]
 | j+1,n,k,l,hn,hl,h0,hk=>by
  have h1:n<m:=by omega
  have h2:lo+n<l.length:=by omega
  unfold lim at hk
  have hr:=F7 lo m k l n
  have hw : ∀ i:Int,0<=i->i<=6->i64.wrap (k+i)=k+i:=fun i hi hi'=>Ay (by omega) (by omega)
  simp only [ntN,gtE h2,Ap (n:=n) (by omega)] at hr
  refine .step _ _ _ (d1:=([.ref 0 lo m,.j (k+6),.j ((n+1:Nat):Int)],[some (.row false none WCd (l.set (lo+n) (A8 k)))])) (hr.trans ?_) ?_
  ·simp [h1,h2,A8,lim,hw 1 (by omega) (by omega),hw 2 (by omega) (by omega),hw 3 (by omega) (by omega),hw 4 (by omega) (by omega),hw 5 (by omega) (by omega),hw 6 (by omega) (by omega),add_assoc,show k<=1000000000000 by omega,show k+1<=1000000000000 by omega,show k+2<=1000000000000 by omega,show k+3<=1000000000000 by omega,show k+4<=1000000000000 by omega,show k+5<=1000000000000 by omega]
  ·have:=G2 hm j (n+1) (k+6) (l.set (lo+n) (A8 k)) (by omega) (by simp; omega) (by omega) (by unfold lim; push_cast at hk; omega)
   rw [show lo+(n+1)=lo+n+1 from rfl,CC h2,Kk (show lo+n<lo+m by omega)] at this
   have e:k+6+6*(j:Int)=k+6*((j+1:Nat):Int):=by push_cast; omega
   rw [e] at this
   simpa [A3] using this
theorem Ps:As prog (Ab [(57,.rd1 A9)]) (Ab [(2,Ct)]) 1 (f111.body.getD .skip):=by
 refine An (a:=body f111 0) (by kernel_rfl) fun d e d' h=>?_
 unfold Ct at h
 dsimp only at h
 split at h
 ·rename_i lo m k n l
  obtain ⟨hc,h⟩:=Ad h
  have hc:=of_decide_eq_true hc
  obtain ⟨n,rfl⟩:=eq_ofNat_of_zero_le hc.1
  cases h
  exact G2 hc.2.2.2.1 _ _ _ _ (add_sub_of_le hc.2.1) hc.2.2.1 hc.2.2.2.2.1 hc.2.2.2.2.2
 ·cases h
theorem Oc (lo m:Nat) (k:Int) (nl:Option Bool) (l:List (Int×Int×Int×List UInt8×Int×Int×Unit)) (hm:m<=maxI) (hl:lo+m<=l.length) (h0:0<=k) (hk:k+6*(m:Int)<=lim):Aw prog (Ab [(57,.rd1 A9)]) (Ab [(2,Ct)]) f111 [.ref 0 lo m,.j k] [.row false nl WCd l] =
  some (.j (k+6*(m:Int)),[some (.row false none WCd (l.take lo++A3 A8 6 k m++l.drop (lo+m)))]):=by
 have e:Aw prog (Ab [(57,.rd1 A9)]) (Ab [(2,Ct)]) f111 [.ref 0 lo m,.j k] [.row false nl WCd l] =
  ((ifT (decide ((0:Int)<=(0:Int)/\0<=m/\lo+m<=l.length/\m<=maxI/\(0:Int)<=k/\k+(6:Int)*(↑(m-0):Int)<=lim)) (some (V.j (k +
 (6:Int)*(↑(m-0):Int)),[some (Blk.row false none WCd (take (lo+0) l++A3 A8 (6:Int) k (m-0)++drop (lo+m)
 l))]))):_):=by kernel_rfl
 rw [e,Aa (dcT ⟨by omega,by omega,hl,hm,h0,hk⟩)]
 rfl
theorem Pt:Af prog 111 (Ent.own Ge).F:=by
 refine Ae (kc func57 Dq (KnowsL.nil)).knows (Λ:=(Ab [(2,Ct)])) func111 (c:=f111.body.getD .skip) (by kernel_rfl) fun vs bs r h hv hb=>?_
 unfold Ent.F Ge at h
 dsimp only at h
 split at h
 ·rename_i lo m k nl l
  obtain ⟨hc,h⟩:=Ad h
  have hc:=of_decide_eq_true hc
  exact ⟨Ps,(Oc lo m k nl l (hv (.ref 0 lo m) (by simp)) hc.1 hc.2.1 hc.2.2).trans (by cases h; rfl)⟩
 ·cases h
theorem F9 (lo m:Nat) (k:Int) (l:List (List UInt8×Int×List UInt8×Unit)) (n:Nat):Av prog (Ab [(57,.rd1 A9)]) (Ab [(2,Cw)]) 1 (body f69 0) Cw ([.ref 0 lo m,.j k,.j n],[some (.row false none NTd l)]) =
 ((ifB (decide ((↑n:Int)<(↑m:Int))) (ifT (decide (k<=lim)) (ifT (decide ((0:Int)<=(↑n:Int))&&decide ((↑n:Int)<(↑m:Int))) (Ak l[lo+((↑n :
 Int)).toNat]? fun z=>ifT (decide ((0:Int)<=(↑n:Int))&&decide ((↑n:Int)<(↑m:Int))) (Ak (l.set (lo+((↑n:Int)).toNat) (Bp k,z.snd.fst,
 z.snd.snd.fst,()))[lo+((↑n:Int)).toNat]? fun z_1=>ifT (decide (i64.wrap (i64.wrap (k+(1:Int))+(1:Int))<=lim)) (ifT (decide ((0:Int)<=
 (↑n:Int))&&decide ((↑n:Int)<(↑m:Int))) (Ak ((l.set (lo+((↑n:Int)).toNat) (Bp k,z.snd.fst,z.snd.snd.fst,())).set (lo+((↑n:Int)).toNat)
 (z_1.fst,i64.wrap (k+(1:Int)),z_1.snd.snd.fst,()))[lo+((↑n:Int)).toNat]? fun z_2=>some (Ex.normal,[V.ref 0 lo m,V.j (i64.wrap
 (i64.wrap (i64.wrap (k+(1:Int))+(1:Int))+(1:Int))),V.j (i64.wrap ((↑n:Int)+(1:Int)))],[some (Blk.row false none NTd
 (((l.set (lo+((↑n:Int)).toNat) (Bp k,z.snd.fst,z.snd.snd.fst,())).set (lo+((↑n:Int)).toNat) (z_1.fst,i64.wrap (k+(1:Int)),z_1.snd.snd.fst,
 ())).set (lo+((↑n:Int)).toNat) (z_2.fst,z_2.snd.fst,Bp (i64.wrap (i64.wrap (k+(1:Int))+(1:Int))),())))]))))))) (some (Ex.exit 0,[V.i
 .i64 k],[some (Blk.row false none NTd l)]))):_):=by kernel_rfl
theorem G5 {lo m:Nat} (hm:m<=maxI) : ∀ (j n:Nat) (k:Int) (l:List (List UInt8×Int×List UInt8×Unit)),n+j=m->lo+m<=l.length->0<=k->k+3*(j:Int)<=lim->
  Runs prog (Ab [(57,.rd1 A9)]) (Ab [(2,Cw)]) 1 (body f69 0) Cw ([.ref 0 lo m,.j k,.j n],[some (.row false none NTd l)]) (.exit 0) ([.j (k+3*(j:Int))],[some (.row false none NTd (l.take (lo+n)++A3 AO 3 k j++l.drop (lo+m)))])
 | 0,n,k,l,hn,hl,h0,hk=>by
  obtain rfl:n=m:=by omega
  refine .stop _ _ _ ((F9 lo n k l n).trans ?_) (by simp)
  simp [A3]
 | j+1,n,k,l,hn,hl,h0,hk=>by
  have h1:n<m:=by omega
  have h2:lo+n<l.length:=by omega
  unfold lim at hk
  have hr:=F9 lo m k l n
  have hw : ∀ i:Int,0<=i->i<=3->i64.wrap (k+i)=k+i:=fun i hi hi'=>Ay (by omega) (by omega)
  simp only [ntN,gtE h2,Ap (n:=n) (by omega)] at hr
  refine .step _ _ _ (d1:=([.ref 0 lo m,.j (k+3),.j ((n+1:Nat):Int)],[some (.row false none NTd (l.set (lo+n) (AO k)))])) (hr.trans ?_) ?_
  ·simp [h1,h2,AO,lim,hw 1 (by omega) (by omega),hw 2 (by omega) (by omega),hw 3 (by omega) (by omega),add_assoc,show k<=1000000000000 by omega,show k+1<=1000000000000 by omega,show k+2<=1000000000000 by omega]
  ·have:=G5 hm j (n+1) (k+3) (l.set (lo+n) (AO k)) (by omega) (by simp; omega) (by omega) (by unfold lim; push_cast at hk; omega)
   rw [show lo+(n+1)=lo+n+1 from rfl,CC h2,Kk (show lo+n<lo+m by omega)] at this
   have e:k+3+3*(j:Int)=k+3*((j+1:Nat):Int):=by push_cast; omega
   rw [e] at this
   simpa [A3] using this
theorem Pw:As prog (Ab [(57,.rd1 A9)]) (Ab [(2,Cw)]) 1 (f69.body.getD .skip):=by
 refine An (a:=body f69 0) (by kernel_rfl) fun d e d' h=>?_
 unfold Cw at h
 dsimp only at h
 split at h
 ·rename_i lo m k n l
  obtain ⟨hc,h⟩:=Ad h
  have hc:=of_decide_eq_true hc
  obtain ⟨n,rfl⟩:=eq_ofNat_of_zero_le hc.1
  cases h
  exact G5 hc.2.2.2.1 _ _ _ _ (add_sub_of_le hc.2.1) hc.2.2.1 hc.2.2.2.2.1 hc.2.2.2.2.2
 ·cases h
theorem Of (lo m:Nat) (k:Int) (nl:Option Bool) (l:List (List UInt8×Int×List UInt8×Unit)) (hm:m<=maxI) (hl:lo+m<=l.length) (h0:0<=k) (hk:k+3*(m:Int)<=lim):Aw prog (Ab [(57,.rd1 A9)]) (Ab [(2,Cw)]) f69 [.ref 0 lo m,.j k] [.row false nl NTd l] =
  some (.j (k+3*(m:Int)),[some (.row false none NTd (l.take lo++A3 AO 3 k m++l.drop (lo+m)))]):=by
 have e:Aw prog (Ab [(57,.rd1 A9)]) (Ab [(2,Cw)]) f69 [.ref 0 lo m,.j k] [.row false nl NTd l] =
  ((ifT (decide ((0:Int)<=(0:Int)/\0<=m/\lo+m<=l.length/\m<=maxI/\(0:Int)<=k/\k+(3:Int)*(↑(m-0):Int)<=lim)) (some (V.j (k +
 (3:Int)*(↑(m-0):Int)),[some (Blk.row false none NTd (take (lo+0) l++A3 AO (3:Int) k (m-0)++drop (lo+m)
 l))]))):_):=by kernel_rfl
 rw [e,Aa (dcT ⟨by omega,by omega,hl,hm,h0,hk⟩)]
 rfl
theorem Px:Af prog 69 (Ent.own Gf).F:=by
 refine Ae (kc func57 Dq (KnowsL.nil)).knows (Λ:=(Ab [(2,Cw)])) func69 (c:=f69.body.getD .skip) (by kernel_rfl) fun vs bs r h hv hb=>?_
 unfold Ent.F Gf at h
 dsimp only at h
 split at h
 ·rename_i lo m k nl l
  obtain ⟨hc,h⟩:=Ad h
  have hc:=of_decide_eq_true hc
  exact ⟨Pw,(Of lo m k nl l (hv (.ref 0 lo m) (by simp)) hc.1 hc.2.1 hc.2.2).trans (by cases h; rfl)⟩
 ·cases h


instance dqType4:DecidableEq (Int×Int×Unit):=inferInstance
instance dqType3:DecidableEq (Bool×Int×Int×Unit):=inferInstance
instance dqType2:DecidableEq (Int×Bool×Int×Int×Unit):=inferInstance
instance dqType1:DecidableEq (List UInt8×Int×Bool×Int×Int×Unit):=inferInstance
instance dqType0:DecidableEq (Int×List UInt8×Int×Bool×Int×Int×Unit):=inferInstance
instance dqWant4:DecidableEq (Int×Int×Unit):=inferInstance
instance dqWant3:DecidableEq (List UInt8×Int×Int×Unit):=inferInstance
instance dqWant2:DecidableEq (Int×List UInt8×Int×Int×Unit):=inferInstance
instance dqWant1:DecidableEq (Int×Int×List UInt8×Int×Int×Unit):=inferInstance
instance dqWant0:DecidableEq (Int×Int×Int×List UInt8×Int×Int×Unit):=inferInstance
def En (a b:List (Int×List UInt8×Int×Bool×Int×Int×Unit)):Bool:=decide (a=b)
def Cz:LoopEnt:=⟨70,[0,1,4,5],[1,4],[4],fun
 | ([.sl TCd l,.i .i64 k,.i .i64 r,.i .i64 n],[])=>
  .need (decide (0<=n/\n.toNat<=l.length/\l.length<=maxI/\0<=k/\k+6*(↑(l.length-n.toNat):Int)<=lim))
   (.br (En (l.drop n.toNat) (A3 A6 6 k (l.length-n.toNat))) (.leaf (.exit 0,([.i .i64 (k+6*(↑(l.length-n.toNat):Int)),.i .i64 r],[]))) (.leaf (.ret,([.i .i64 (-1)],[]))))
 | _=>.no⟩
def Iv:Gm
 | [.sl TCd l,.i .i64 k],[]=>
  .need (decide (0<=k/\k+6*(↑l.length:Int)<=lim)) (.br (En l (A3 A6 6 k l.length)) (.leaf (.i .i64 (k+6*(↑l.length:Int)),[])) (.leaf (.i .i64 (-1),[])))
 | _,_=>.no
def Em (a b:List (Int×Int×Int×List UInt8×Int×Int×Unit)):Bool:=decide (a=b)
def Cy:LoopEnt:=⟨68,[0,1,4,5],[1,4],[4],fun
 | ([.sl WCd l,.i .i64 k,.i .i64 r,.i .i64 n],[])=>
  .need (decide (0<=n/\n.toNat<=l.length/\l.length<=maxI/\0<=k/\k+6*(↑(l.length-n.toNat):Int)<=lim))
   (.br (Em (l.drop n.toNat) (A3 A8 6 k (l.length-n.toNat))) (.leaf (.exit 0,([.i .i64 (k+6*(↑(l.length-n.toNat):Int)),.i .i64 r],[]))) (.leaf (.ret,([.i .i64 (-1)],[]))))
 | _=>.no⟩
def Iu:Gm
 | [.sl WCd l,.i .i64 k],[]=>
  .need (decide (0<=k/\k+6*(↑l.length:Int)<=lim)) (.br (Em l (A3 A8 6 k l.length)) (.leaf (.i .i64 (k+6*(↑l.length:Int)),[])) (.leaf (.i .i64 (-1),[])))
 | _,_=>.no
def C0:LoopEnt:=⟨42,[0,1,4,5],[1,4],[4],fun
 | ([.sl NTd l,.i .i64 k,.i .i64 r,.i .i64 n],[])=>
  .need (decide (0<=n/\n.toNat<=l.length/\l.length<=maxI/\0<=k/\k+3*(↑(l.length-n.toNat):Int)<=lim))
   (.br (decide (l.drop n.toNat=A3 AO 3 k (l.length-n.toNat))) (.leaf (.exit 0,([.i .i64 (k+3*(↑(l.length-n.toNat):Int)),.i .i64 r],[]))) (.leaf (.ret,([.i .i64 (-1)],[]))))
 | _=>.no⟩
def Iw:Gm
 | [.sl NTd l,.i .i64 k],[]=>
  .need (decide (0<=k/\k+3*(↑l.length:Int)<=lim)) (.br (decide (l=A3 AO 3 k l.length)) (.leaf (.i .i64 (k+3*(↑l.length:Int)),[])) (.leaf (.i .i64 (-1),[])))
 | _,_=>.no
theorem FH (k:Int) (r:Int) (l:List (Int×List UInt8×Int×Bool×Int×Int×Unit)) (n:Nat):Av prog (Ab [(57,.rd1 A9)]) (Ab [(2,Cz)]) 0 (body f112 0) Cz ([.sl TCd l,.j k,.j r,.j n],[]) =
 ((ifB (decide ((↑n:Int)<(↑l.length:Int))) (ifT (decide ((0:Int)<=(↑n:Int))&&decide ((↑n:Int)<(↑l.length:Int))) (Ak l[((↑n:Int)).toNat]? fun z=>ifB
 (z.fst != k) (some (Ex.ret,[V.j (-1)],[])) (ifT (decide ((0:Int)<=(↑n:Int))&&decide ((↑n:Int)<(↑l.length:Int))) (Ak l[((↑n:Int)).toNat]? fun z
 => ifT (decide (i64.wrap (k+(1:Int))<=lim)) (ifB (!z.snd.fst==Bp (i64.wrap (k+(1:Int)))) (some (Ex.ret,[V.j (-1)],[])) (ifT (decide
 ((0:Int)<=(↑n:Int))&&decide ((↑n:Int)<(↑l.length:Int))) (Ak l[((↑n:Int)).toNat]? fun z=>ifB (z.snd.snd.fst != i64.wrap (i64.wrap (k +
 (1:Int))+(1:Int))) (some (Ex.ret,[V.j (-1)],[])) (ifT (decide ((0:Int)<=(↑n:Int))&&decide ((↑n:Int)<(↑l.length:Int))) (Ak l[((↑n :
 Int)).toNat]? fun z=>ifB (!z.snd.snd.snd.fst==((i64.wrap (i64.wrap (i64.wrap (k+(1:Int))+(1:Int))+(1:Int))).tmod (3:Int)==(0 :
 Int))) (some (Ex.ret,[V.j (-1)],[])) (ifT (decide ((0:Int)<=(↑n:Int))&&decide ((↑n:Int)<(↑l.length:Int))) (Ak l[((↑n:Int)).toNat]? fun z=>ifB
 (z.snd.snd.snd.snd.fst != i64.wrap (i64.wrap (i64.wrap (i64.wrap (k+(1:Int))+(1:Int))+(1:Int))+(1:Int))) (some (Ex.ret,
 [V.j (-1)],[])) (ifT (decide ((0:Int)<=(↑n:Int))&&decide ((↑n:Int)<(↑l.length:Int))) (Ak l[((↑n:Int)).toNat]? fun z=>ifB
 (z.snd.snd.snd.snd.snd.fst != i64.wrap (i64.wrap (i64.wrap (i64.wrap (i64.wrap (k+(1:Int))+(1:Int))+(1:Int))+(1 :
 Int))+(1:Int))) (some (Ex.ret,[V.j (-1)],[])) (some (Ex.normal,[V.sl TCd l,V.j (i64.wrap (i64.wrap (i64.wrap (i64.wrap
 (i64.wrap (i64.wrap (k+(1:Int))+(1:Int))+(1:Int))+(1:Int))+(1:Int))+(1:Int))),V.j r,V.j (i64.wrap ((↑n:Int)
 + (1:Int)))],[]))))))))))))))) (some (Ex.exit 0,[V.j k,V.j r],[]))):_):=by kernel_rfl
theorem G9 {r:Int} {l:List (Int×List UInt8×Int×Bool×Int×Int×Unit)} (hm:l.length<=maxI) : ∀ (j n:Nat) (k:Int),n+j=l.length->0<=k->k+6*(j:Int)<=lim->
  Runs prog (Ab [(57,.rd1 A9)]) (Ab [(2,Cz)]) 0 (body f112 0) Cz ([.sl TCd l,.j k,.j r,.j n],[]) (if l.drop n=A3 A6 6 k j then .exit 0 else .ret) (if l.drop n=A3 A6 6 k j then [.j (k+6*(j:Int)),.j r] else [.j (-1)],[])
 | 0,n,k,hn,h0,hk=>by
  have e1:l.drop n=[]:=drop_eq_nil_of_le (by omega)
  refine .stop _ _ _ ((FH k r l n).trans ?_) (by simp [e1,A3])
  simp [e1,A3,show ¬n<l.length by omega]
 | j+1,n,k,hn,h0,hk=>by
  have h1:n<l.length:=by omega
  unfold lim at hk
  have hr:=FH k r l n
  have hw : ∀ i:Int,0<=i->i<=6->i64.wrap (k+i)=k+i:=fun i hi hi'=>Ay (by omega) (by omega)
  simp only [ntN,gtE h1,Ap (n:=n) (by omega)] at hr
  have hd:(l.drop n=A3 A6 6 k (j+1))=(l[n]=A6 k/\l.drop (n+1)=A3 A6 6 (k+6) j):=by rw [drop_eq_getElem_cons h1,A3,List.cons.injEq]
  have hs:(i64.wrap (k+1)=k+1):=hw 1 (by omega) (by omega)
  by_cases he:l[n]=A6 k
  ·refine .step _ _ _ (d1:=([.sl TCd l,.j (k+6),.j r,.j ((n+1:Nat):Int)],[])) (hr.trans ?_) ?_
   ·simp [h1,he,A6,lim,hw 1 (by omega) (by omega),hw 2 (by omega) (by omega),hw 3 (by omega) (by omega),hw 4 (by omega) (by omega),hw 5 (by omega) (by omega),hw 6 (by omega) (by omega),add_assoc,show k<=1000000000000 by omega,show k+1<=1000000000000 by omega,show k+2<=1000000000000 by omega,show k+3<=1000000000000 by omega,show k+4<=1000000000000 by omega,show k+5<=1000000000000 by omega]
   ·have:=G9 (r:=r) hm j (n+1) (k+6) (by omega) (by omega) (by unfold lim; push_cast at hk; omega)
    have e:k+6+6*(j:Int)=k+6*((j+1:Nat):Int):=by push_cast; omega
    rw [e] at this
    simp only [hd,he,true_and]
    exact this
  ·refine .stop _ _ _ (hr.trans ?_) (by simp [hd,he])
   simp only [hd,he,false_and,if_false]
   by_cases q0:l[n].1=k<;>by_cases q1:l[n].2.1=Bp (k+1)<;>by_cases q2:l[n].2.2.1=k+2<;>by_cases q3:l[n].2.2.2.1=(tmod (k+3) 3==0)<;>by_cases q4:l[n].2.2.2.2.1=k+4<;>by_cases q5:l[n].2.2.2.2.2.1=k+5<;>first | exact (he (Prod.ext q0 (Prod.ext q1 (Prod.ext q2 (Prod.ext q3 (Prod.ext q4 (Prod.ext q5 rfl))))))).elim | simp [h1,q0,q1,q2,q3,q4,q5,lim,hw 1 (by omega) (by omega),hw 2 (by omega) (by omega),hw 3 (by omega) (by omega),hw 4 (by omega) (by omega),hw 5 (by omega) (by omega),hw 6 (by omega) (by omega),add_assoc,show k<=1000000000000 by omega,show k+1<=1000000000000 by omega,show k+2<=1000000000000 by omega,show k+3<=1000000000000 by omega,show k+4<=1000000000000 by omega,show k+5<=1000000000000 by omega]
theorem PK:As prog (Ab [(57,.rd1 A9)]) (Ab [(2,Cz)]) 0 (f112.body.getD .skip):=by
 refine An (a:=body f112 0) (by kernel_rfl) fun d e d' h=>?_
 unfold Cz at h
 dsimp only at h
 split at h
 ·rename_i l k r n
  obtain ⟨hc,h⟩:=Ad h
  have hc:=of_decide_eq_true hc
  obtain ⟨n,rfl⟩:=eq_ofNat_of_zero_le hc.1
  have:=G9 (r:=r) hc.2.2.1 _ n k (add_sub_of_le hc.2.1) hc.2.2.2.1 hc.2.2.2.2
  rcases Fb h with ⟨h1,h⟩ | ⟨h1,h⟩
  ·have h1:=of_decide_eq_true h1
   simp only [ntN] at h1 h
   cases h
   rw [if_pos h1,if_pos h1] at this; exact this
  ·have h1:=of_decide_eq_false h1
   simp only [ntN] at h1 h
   cases h
   rw [if_neg h1,if_neg h1] at this; exact this
 ·cases h
theorem Oo (l:List (Int×List UInt8×Int×Bool×Int×Int×Unit)) (k:Int) (hm:l.length<=maxI) (h0:0<=k) (hk:k+6*(l.length:Int)<=lim):Aw prog (Ab [(57,.rd1 A9)]) (Ab [(2,Cz)]) f112 [.sl TCd l,.j k] [] =
  if l=A3 A6 6 k l.length then some (.j (k+6*(l.length:Int)),[]) else some (.j (-1),[]):=by
 have e:Aw prog (Ab [(57,.rd1 A9)]) (Ab [(2,Cz)]) f112 [.sl TCd l,.j k] [] =
  ((ifT (decide ((0:Int)<=(0:Int)/\0<=l.length/\l.length<=maxI/\(0:Int)<=k/\k+(6:Int)*(↑(l.length-0):Int)<=lim)) (ifB (En
 (drop 0 l) (A3 A6 (6:Int) k (l.length-0))) (some (V.j (k+(6:Int)*(↑(l.length-0):Int)),[])) (some (V.i .i64
 (-1),[])))):_):=by kernel_rfl
 rw [e,Aa (dcT ⟨by omega,by omega,hm,h0,hk⟩)]
 show ifB (decide (l=A3 A6 6 k l.length)) _ _=_
 rw [Lc]
 rfl
theorem Xx:Af prog 112 (Ent.rd1 Iv).F:=by
 refine Ae (kc func57 Dq (KnowsL.nil)).knows (Λ:=(Ab [(2,Cz)])) func112 (c:=f112.body.getD .skip) (by kernel_rfl) fun vs bs r h hv hb=>?_
 unfold Ent.F Iv at h
 dsimp only at h
 split at h
 ·rename_i l k
  obtain ⟨hc,h⟩:=Ad h
  have hc:=of_decide_eq_true hc
  refine ⟨PK,(Oo l k (hv (.sl TCd l) (by simp)).1 hc.1 hc.2).trans ?_⟩
  rcases Fb h with ⟨h1,h⟩ | ⟨h1,h⟩
  ·rw [if_pos (of_decide_eq_true h1)]; exact h
  ·rw [if_neg (of_decide_eq_false h1)]; exact h
 ·cases h
theorem FG (k:Int) (r:Int) (l:List (Int×Int×Int×List UInt8×Int×Int×Unit)) (n:Nat):Av prog (Ab [(57,.rd1 A9)]) (Ab [(2,Cy)]) 0 (body f113 0) Cy ([.sl WCd l,.j k,.j r,.j n],[]) =
 ((ifB (decide ((↑n:Int)<(↑l.length:Int))) (ifT (decide ((0:Int)<=(↑n:Int))&&decide ((↑n:Int)<(↑l.length:Int))) (Ak l[((↑n:Int)).toNat]? fun z=>ifB
 (z.fst != k) (some (Ex.ret,[V.j (-1)],[])) (ifT (decide ((0:Int)<=(↑n:Int))&&decide ((↑n:Int)<(↑l.length:Int))) (Ak l[((↑n:Int)).toNat]? fun z
 => ifB (z.snd.fst != i64.wrap (k+(1:Int))) (some (Ex.ret,[V.j (-1)],[])) (ifT (decide ((0:Int)<=(↑n:Int))&&decide ((↑n:Int)<(↑l.length :
 Int))) (Ak l[((↑n:Int)).toNat]? fun z=>ifB (z.snd.snd.fst != i64.wrap (i64.wrap (k+(1:Int))+(1:Int))) (some (Ex.ret,[V.j (-1)],[]))
 (ifT (decide ((0:Int)<=(↑n:Int))&&decide ((↑n:Int)<(↑l.length:Int))) (Ak l[((↑n:Int)).toNat]? fun z=>ifT (decide (i64.wrap (i64.wrap
 (i64.wrap (k+(1:Int))+(1:Int))+(1:Int))<=lim)) (ifB (!z.snd.snd.snd.fst==Bp (i64.wrap (i64.wrap (i64.wrap (k+(1 :
 Int))+(1:Int))+(1:Int)))) (some (Ex.ret,[V.j (-1)],[])) (ifT (decide ((0:Int)<=(↑n:Int))&&decide ((↑n:Int)<(↑l.length:Int))) (Ak l[((↑n :
 Int)).toNat]? fun z=>ifB (z.snd.snd.snd.snd.fst != i64.wrap (i64.wrap (i64.wrap (i64.wrap (k+(1:Int))+(1:Int))+(1:Int))+(1
 : Int))) (some (Ex.ret,[V.j (-1)],[])) (ifT (decide ((0:Int)<=(↑n:Int))&&decide ((↑n:Int)<(↑l.length:Int))) (Ak l[((↑n:Int)).toNat]? fun z=>
 ifB (z.snd.snd.snd.snd.snd.fst != i64.wrap (i64.wrap (i64.wrap (i64.wrap (i64.wrap (k+(1:Int))+(1:Int))+(1:Int))+(1
 : Int))+(1:Int))) (some (Ex.ret,[V.j (-1)],[])) (some (Ex.normal,[V.sl WCd l,V.j (i64.wrap (i64.wrap (i64.wrap (i64.wrap
 (i64.wrap (i64.wrap (k+(1:Int))+(1:Int))+(1:Int))+(1:Int))+(1:Int))+(1:Int))),V.j r,V.j (i64.wrap ((↑n:Int)
 + (1:Int)))],[]))))))))))))))) (some (Ex.exit 0,[V.j k,V.j r],[]))):_):=by kernel_rfl
theorem G8 {r:Int} {l:List (Int×Int×Int×List UInt8×Int×Int×Unit)} (hm:l.length<=maxI) : ∀ (j n:Nat) (k:Int),n+j=l.length->0<=k->k+6*(j:Int)<=lim->
  Runs prog (Ab [(57,.rd1 A9)]) (Ab [(2,Cy)]) 0 (body f113 0) Cy ([.sl WCd l,.j k,.j r,.j n],[]) (if l.drop n=A3 A8 6 k j then .exit 0 else .ret) (if l.drop n=A3 A8 6 k j then [.j (k+6*(j:Int)),.j r] else [.j (-1)],[])
 | 0,n,k,hn,h0,hk=>by
  have e1:l.drop n=[]:=drop_eq_nil_of_le (by omega)
  refine .stop _ _ _ ((FG k r l n).trans ?_) (by simp [e1,A3])
  simp [e1,A3,show ¬n<l.length by omega]
 | j+1,n,k,hn,h0,hk=>by
  have h1:n<l.length:=by omega
  unfold lim at hk
  have hr:=FG k r l n
  have hw : ∀ i:Int,0<=i->i<=6->i64.wrap (k+i)=k+i:=fun i hi hi'=>Ay (by omega) (by omega)
  simp only [ntN,gtE h1,Ap (n:=n) (by omega)] at hr
  have hd:(l.drop n=A3 A8 6 k (j+1))=(l[n]=A8 k/\l.drop (n+1)=A3 A8 6 (k+6) j):=by rw [drop_eq_getElem_cons h1,A3,List.cons.injEq]
  have hs:(i64.wrap (k+1)=k+1):=hw 1 (by omega) (by omega)
  by_cases he:l[n]=A8 k
  ·refine .step _ _ _ (d1:=([.sl WCd l,.j (k+6),.j r,.j ((n+1:Nat):Int)],[])) (hr.trans ?_) ?_
   ·simp [h1,he,A8,lim,hw 1 (by omega) (by omega),hw 2 (by omega) (by omega),hw 3 (by omega) (by omega),hw 4 (by omega) (by omega),hw 5 (by omega) (by omega),hw 6 (by omega) (by omega),add_assoc,show k<=1000000000000 by omega,show k+1<=1000000000000 by omega,show k+2<=1000000000000 by omega,show k+3<=1000000000000 by omega,show k+4<=1000000000000 by omega,show k+5<=1000000000000 by omega]
   ·have:=G8 (r:=r) hm j (n+1) (k+6) (by omega) (by omega) (by unfold lim; push_cast at hk; omega)
    have e:k+6+6*(j:Int)=k+6*((j+1:Nat):Int):=by push_cast; omega
    rw [e] at this
    simp only [hd,he,true_and]
    exact this
  ·refine .stop _ _ _ (hr.trans ?_) (by simp [hd,he])
   simp only [hd,he,false_and,if_false]
   by_cases q0:l[n].1=k<;>by_cases q1:l[n].2.1=k+1<;>by_cases q2:l[n].2.2.1=k+2<;>by_cases q3:l[n].2.2.2.1=Bp (k+3)<;>by_cases q4:l[n].2.2.2.2.1=k+4<;>by_cases q5:l[n].2.2.2.2.2.1=k+5<;>first | exact (he (Prod.ext q0 (Prod.ext q1 (Prod.ext q2 (Prod.ext q3 (Prod.ext q4 (Prod.ext q5 rfl))))))).elim | simp [h1,q0,q1,q2,q3,q4,q5,lim,hw 1 (by omega) (by omega),hw 2 (by omega) (by omega),hw 3 (by omega) (by omega),hw 4 (by omega) (by omega),hw 5 (by omega) (by omega),hw 6 (by omega) (by omega),add_assoc,show k<=1000000000000 by omega,show k+1<=1000000000000 by omega,show k+2<=1000000000000 by omega,show k+3<=1000000000000 by omega,show k+4<=1000000000000 by omega,show k+5<=1000000000000 by omega]
theorem PJ:As prog (Ab [(57,.rd1 A9)]) (Ab [(2,Cy)]) 0 (f113.body.getD .skip):=by
 refine An (a:=body f113 0) (by kernel_rfl) fun d e d' h=>?_
 unfold Cy at h
 dsimp only at h
 split at h
 ·rename_i l k r n
  obtain ⟨hc,h⟩:=Ad h
  have hc:=of_decide_eq_true hc
  obtain ⟨n,rfl⟩:=eq_ofNat_of_zero_le hc.1
  have:=G8 (r:=r) hc.2.2.1 _ n k (add_sub_of_le hc.2.1) hc.2.2.2.1 hc.2.2.2.2
  rcases Fb h with ⟨h1,h⟩ | ⟨h1,h⟩
  ·have h1:=of_decide_eq_true h1
   simp only [ntN] at h1 h
   cases h
   rw [if_pos h1,if_pos h1] at this; exact this
  ·have h1:=of_decide_eq_false h1
   simp only [ntN] at h1 h
   cases h
   rw [if_neg h1,if_neg h1] at this; exact this
 ·cases h
theorem On (l:List (Int×Int×Int×List UInt8×Int×Int×Unit)) (k:Int) (hm:l.length<=maxI) (h0:0<=k) (hk:k+6*(l.length:Int)<=lim):Aw prog (Ab [(57,.rd1 A9)]) (Ab [(2,Cy)]) f113 [.sl WCd l,.j k] [] =
  if l=A3 A8 6 k l.length then some (.j (k+6*(l.length:Int)),[]) else some (.j (-1),[]):=by
 have e:Aw prog (Ab [(57,.rd1 A9)]) (Ab [(2,Cy)]) f113 [.sl WCd l,.j k] [] =
  ((ifT (decide ((0:Int)<=(0:Int)/\0<=l.length/\l.length<=maxI/\(0:Int)<=k/\k+(6:Int)*(↑(l.length-0):Int)<=lim)) (ifB (Em
 (drop 0 l) (A3 A8 (6:Int) k (l.length-0))) (some (V.j (k+(6:Int)*(↑(l.length-0):Int)),[])) (some (V.i .i64
 (-1),[])))):_):=by kernel_rfl
 rw [e,Aa (dcT ⟨by omega,by omega,hm,h0,hk⟩)]
 show ifB (decide (l=A3 A8 6 k l.length)) _ _=_
 rw [Lc]
 rfl
theorem Xw:Af prog 113 (Ent.rd1 Iu).F:=by
 refine Ae (kc func57 Dq (KnowsL.nil)).knows (Λ:=(Ab [(2,Cy)])) func113 (c:=f113.body.getD .skip) (by kernel_rfl) fun vs bs r h hv hb=>?_
 unfold Ent.F Iu at h
 dsimp only at h
 split at h
 ·rename_i l k
  obtain ⟨hc,h⟩:=Ad h
  have hc:=of_decide_eq_true hc
  refine ⟨PJ,(On l k (hv (.sl WCd l) (by simp)).1 hc.1 hc.2).trans ?_⟩
  rcases Fb h with ⟨h1,h⟩ | ⟨h1,h⟩
  ·rw [if_pos (of_decide_eq_true h1)]; exact h
  ·rw [if_neg (of_decide_eq_false h1)]; exact h
 ·cases h
theorem FI (k:Int) (r:Int) (l:List (List UInt8×Int×List UInt8×Unit)) (n:Nat):Av prog (Ab [(57,.rd1 A9)]) (Ab [(2,C0)]) 0 (body f72 0) C0 ([.sl NTd l,.j k,.j r,.j n],[]) =
 ((ifB (decide ((↑n:Int)<(↑l.length:Int))) (ifT (decide ((0:Int)<=(↑n:Int))&&decide ((↑n:Int)<(↑l.length:Int))) (Ak l[((↑n:Int)).toNat]? fun z=>ifT
 (decide (k<=lim)) (ifB (!z.fst==Bp k) (some (Ex.ret,[V.j (-1)],[])) (ifT (decide ((0:Int)<=(↑n:Int))&&decide ((↑n:Int)<(↑l.length:Int))) (Ak
 l[((↑n:Int)).toNat]? fun z=>ifB (z.snd.fst != i64.wrap (k+(1:Int))) (some (Ex.ret,[V.j (-1)],[])) (ifT (decide ((0:Int)<=(↑n:Int))&&decide
 ((↑n:Int)<(↑l.length:Int))) (Ak l[((↑n:Int)).toNat]? fun z=>ifT (decide (i64.wrap (i64.wrap (k+(1:Int))+(1:Int))<=lim)) (ifB
 (!z.snd.snd.fst==Bp (i64.wrap (i64.wrap (k+(1:Int))+(1:Int)))) (some (Ex.ret,[V.j (-1)],[])) (some (Ex.normal,[V.sl NTd l,V.i .i64
 (i64.wrap (i64.wrap (i64.wrap (k+(1:Int))+(1:Int))+(1:Int))),V.j r,V.j (i64.wrap ((↑n:Int)+(1:Int)))],
 [])))))))))) (some (Ex.exit 0,[V.j k,V.j r],[]))):_):=by kernel_rfl
theorem GA {r:Int} {l:List (List UInt8×Int×List UInt8×Unit)} (hm:l.length<=maxI) : ∀ (j n:Nat) (k:Int),n+j=l.length->0<=k->k+3*(j:Int)<=lim->
  Runs prog (Ab [(57,.rd1 A9)]) (Ab [(2,C0)]) 0 (body f72 0) C0 ([.sl NTd l,.j k,.j r,.j n],[]) (if l.drop n=A3 AO 3 k j then .exit 0 else .ret) (if l.drop n=A3 AO 3 k j then [.j (k+3*(j:Int)),.j r] else [.j (-1)],[])
 | 0,n,k,hn,h0,hk=>by
  have e1:l.drop n=[]:=drop_eq_nil_of_le (by omega)
  refine .stop _ _ _ ((FI k r l n).trans ?_) (by simp [e1,A3])
  simp [e1,A3,show ¬n<l.length by omega]
 | j+1,n,k,hn,h0,hk=>by
  have h1:n<l.length:=by omega
  unfold lim at hk
  have hr:=FI k r l n
  have hw : ∀ i:Int,0<=i->i<=3->i64.wrap (k+i)=k+i:=fun i hi hi'=>Ay (by omega) (by omega)
  simp only [ntN,gtE h1,Ap (n:=n) (by omega)] at hr
  have hd:(l.drop n=A3 AO 3 k (j+1))=(l[n]=AO k/\l.drop (n+1)=A3 AO 3 (k+3) j):=by rw [drop_eq_getElem_cons h1,A3,List.cons.injEq]
  have hs:(i64.wrap (k+1)=k+1):=hw 1 (by omega) (by omega)
  by_cases he:l[n]=AO k
  ·refine .step _ _ _ (d1:=([.sl NTd l,.j (k+3),.j r,.j ((n+1:Nat):Int)],[])) (hr.trans ?_) ?_
   ·simp [h1,he,AO,lim,hw 1 (by omega) (by omega),hw 2 (by omega) (by omega),hw 3 (by omega) (by omega),add_assoc,show k<=1000000000000 by omega,show k+1<=1000000000000 by omega,show k+2<=1000000000000 by omega]
   ·have:=GA (r:=r) hm j (n+1) (k+3) (by omega) (by omega) (by unfold lim; push_cast at hk; omega)
    have e:k+3+3*(j:Int)=k+3*((j+1:Nat):Int):=by push_cast; omega
    rw [e] at this
    simp only [hd,he,true_and]
    exact this
  ·refine .stop _ _ _ (hr.trans ?_) (by simp [hd,he])
   simp only [hd,he,false_and,if_false]
   by_cases q0:l[n].1=Bp k<;>by_cases q1:l[n].2.1=k+1<;>by_cases q2:l[n].2.2.1=Bp (k+2)<;>first | exact (he (Prod.ext q0 (Prod.ext q1 (Prod.ext q2 rfl)))).elim | simp [h1,q0,q1,q2,lim,hw 1 (by omega) (by omega),hw 2 (by omega) (by omega),hw 3 (by omega) (by omega),add_assoc,show k<=1000000000000 by omega,show k+1<=1000000000000 by omega,show k+2<=1000000000000 by omega]
theorem PL:As prog (Ab [(57,.rd1 A9)]) (Ab [(2,C0)]) 0 (f72.body.getD .skip):=by
 refine An (a:=body f72 0) (by kernel_rfl) fun d e d' h=>?_
 unfold C0 at h
 dsimp only at h
 split at h
 ·rename_i l k r n
  obtain ⟨hc,h⟩:=Ad h
  have hc:=of_decide_eq_true hc
  obtain ⟨n,rfl⟩:=eq_ofNat_of_zero_le hc.1
  have:=GA (r:=r) hc.2.2.1 _ n k (add_sub_of_le hc.2.1) hc.2.2.2.1 hc.2.2.2.2
  rcases Fb h with ⟨h1,h⟩ | ⟨h1,h⟩
  ·have h1:=of_decide_eq_true h1
   simp only [ntN] at h1 h
   cases h
   rw [if_pos h1,if_pos h1] at this; exact this
  ·have h1:=of_decide_eq_false h1
   simp only [ntN] at h1 h
   cases h
   rw [if_neg h1,if_neg h1] at this; exact this
 ·cases h
theorem Oq (l:List (List UInt8×Int×List UInt8×Unit)) (k:Int) (hm:l.length<=maxI) (h0:0<=k) (hk:k+3*(l.length:Int)<=lim):Aw prog (Ab [(57,.rd1 A9)]) (Ab [(2,C0)]) f72 [.sl NTd l,.j k] [] =
  if l=A3 AO 3 k l.length then some (.j (k+3*(l.length:Int)),[]) else some (.j (-1),[]):=by
 have e:Aw prog (Ab [(57,.rd1 A9)]) (Ab [(2,C0)]) f72 [.sl NTd l,.j k] [] =
  ((ifT (decide ((0:Int)<=(0:Int)/\0<=l.length/\l.length<=maxI/\(0:Int)<=k/\k+(3:Int)*(↑(l.length-0):Int)<=lim)) (ifB (decide
 (drop 0 l=A3 AO (3:Int) k (l.length-0))) (some (V.j (k+(3:Int)*(↑(l.length-0):Int)),[])) (some (V.i .i64
 (-1),[])))):_):=by kernel_rfl
 rw [e,Aa (dcT ⟨by omega,by omega,hm,h0,hk⟩),Lc]
 rfl
theorem Xy:Af prog 72 (Ent.rd1 Iw).F:=by
 refine Ae (kc func57 Dq (KnowsL.nil)).knows (Λ:=(Ab [(2,C0)])) func72 (c:=f72.body.getD .skip) (by kernel_rfl) fun vs bs r h hv hb=>?_
 unfold Ent.F Iw at h
 dsimp only at h
 split at h
 ·rename_i l k
  obtain ⟨hc,h⟩:=Ad h
  have hc:=of_decide_eq_true hc
  refine ⟨PL,(Oq l k (hv (.sl NTd l) (by simp)).1 hc.1 hc.2).trans ?_⟩
  rcases Fb h with ⟨h1,h⟩ | ⟨h1,h⟩
  ·rw [if_pos (of_decide_eq_true h1)]; exact h
  ·rw [if_neg (of_decide_eq_false h1)]; exact h
 ·cases h
def mkL {α:Type} (g:Int->α->α) (w:α->Int):Int->List α->List α
 | _,[]=>[]
 | k,x::l=>g k x::mkL g w (k+w x) l
def BT {α:Type} (w:α->Int):List α->Int
 | []=>0
 | x::l=>w x+BT w l
def CY (t:Tp):Int:=2+6*(t.2.1.1.length:Int)
def Rz (k:Int) (t:Tp):Tp:=(Bp k,(A3 A6 6 (k+1) t.2.1.1.length,()),k+1+6*(t.2.1.1.length:Int),())
def D5 (f:Fa):Int:=3+6*(f.2.2.1.1.length:Int)+6*(f.2.2.2.1.1.length:Int)+3*(f.2.2.2.2.1.length:Int)
def R8 (k:Int) (f:Fa):Fa:=(k,Bp (k+1),(A3 A8 6 (k+2) f.2.2.1.1.length,()),(A3 A6 6 (k+2+6*(f.2.2.1.1.length:Int)) f.2.2.2.1.1.length,()),A3 AO 3 (k+2+6*(f.2.2.1.1.length:Int)+6*(f.2.2.2.1.1.length:Int)) f.2.2.2.2.1.length,k+2+6*(f.2.2.1.1.length:Int)+6*(f.2.2.2.1.1.length:Int)+3*(f.2.2.2.2.1.length:Int),())
def F5:LoopEnt:=⟨36,[0,1,5],[1],[],fun
 | ([.ref 0 0 m,.i .i64 k,.i .i64 n],[some (.drow TPd l none)])=>.need (decide (0<=n/\n.toNat<=l.length/\m=l.length/\m<=maxI/\0<=k/\k+BT CY (l.drop n.toNat)<=lim)) (.leaf (.exit 0,([.i .i64 (k+BT CY (l.drop n.toNat))],[some (.drow TPd (l.take n.toNat++mkL Rz CY k (l.drop n.toNat)) none)])))
 | _=>.no⟩
def Ry:Gm
 | [.ref 0 0 m,.i .i64 k],[.drow TPd l none]=>.need (decide (m=l.length/\0<=k/\k+BT CY l<=lim)) (.leaf (.i .i64 (k+BT CY l),[some (.drow TPd (mkL Rz CY k l) none)]))
 | _,_=>.no
def F6:LoopEnt:=⟨58,[0,1,5],[1],[],fun
 | ([.ref 0 0 m,.i .i64 k,.i .i64 n],[some (.drow FNd l none)])=>.need (decide (0<=n/\n.toNat<=l.length/\m=l.length/\m<=maxI/\0<=k/\k+BT D5 (l.drop n.toNat)<=lim)) (.leaf (.exit 0,([.i .i64 (k+BT D5 (l.drop n.toNat))],[some (.drow FNd (l.take n.toNat++mkL R8 D5 k (l.drop n.toNat)) none)])))
 | _=>.no⟩
def R7:Gm
 | [.ref 0 0 m,.i .i64 k],[.drow FNd l none]=>.need (decide (m=l.length/\0<=k/\k+BT D5 l<=lim)) (.leaf (.i .i64 (k+BT D5 l),[some (.drow FNd (mkL R8 D5 k l) none)]))
 | _,_=>.no
theorem DJ {α:Type} {w:α->Int} {l:List α} {n:Nat} (h:n<l.length):BT w (l.drop n)=w l[n]+BT w (l.drop (n+1)):=by rw [drop_eq_getElem_cons h]; rfl
theorem Pp {α:Type} {g:Int->α->α} {w:α->Int} {k:Int} {l:List α} {n:Nat} (h:n<l.length):mkL g w k (l.drop n)=g k l[n]::mkL g w (k+w l[n]) (l.drop (n+1)):=by rw [drop_eq_getElem_cons h]; rfl
theorem F3 {α:Type} {w:α->Int} (hw : ∀ x,0<=w x) : ∀ l:List α,0<=BT w l
 | []=>Int.le_refl 0
 | x::l=>by have:=hw x; have:=F3 hw l; simp only [BT]; omega
theorem By {α:Type} {g:Int->α} {st:Int} : ∀ (k:Int) (n:Nat),(A3 g st k n).length=n
 | _,0=>rfl
 | k,n+1=>by simp only [A3,length_cons,By]
abbrev ZI:FuncId->Option Ent:=Ab [(57,.rd1 A9),(58,.own Et)]
theorem IZ (m:Nat) (k n:Int) (l:List Tp):Av prog ZI (Ab [(2,F5)]) 1 (body f24 0) F5 ([.ref 0 0 m,.j k,.j n],[some (.drow TPd l none)]) =
 ((ifB (decide (n<(↑m:Int))) (ifT (decide (k<=lim)) (ifT (decide ((0:Int)<=n)&&decide (n<(↑m:Int))) (Ak l[0+n.toNat]? fun z=>ifT (decide ((0 :
 Int)<=n)&&decide (n<(↑m:Int))) (Ak (l.set (0+n.toNat) (Bp k,(z.snd.fst.fst,()),z.snd.snd.fst,()))[0+n.toNat]? fun z_1=>ifT (decide
 (0+List.length z_1.snd.fst.fst<=List.length z_1.snd.fst.fst/\(0:Int)<=i64.wrap (k+(1:Int))/\i64.wrap (k+(1:Int))+(6:Int) *
 (↑(List.length z_1.snd.fst.fst):Int)<=lim)) (ifT (decide ((0:Int)<=n)&&decide (n<(↑m:Int))) (Ak ((l.set (0+n.toNat) (Bp k,(z.snd.fst.fst,
 ()),z.snd.snd.fst,())).set (0+n.toNat) (z_1.fst,(take (List.length z_1.snd.fst.fst) (drop 0 (Aj TCd.den++A3 A6 (6:Int)
 (i64.wrap (k+(1:Int))) (List.length z_1.snd.fst.fst)++drop (0+List.length z_1.snd.fst.fst) z_1.snd.fst.fst)),()),z_1.snd.snd.fst,()))[(0 :
 Nat)+n.toNat]? fun z_2=>some (Ex.normal,[V.ref 0 0 m,V.j (i64.wrap (i64.wrap (k+(1:Int))+(6:Int)*(↑(List.length z_1.snd.fst.fst) :
 Int)+(1:Int))),V.j (i64.wrap (n+(1:Int)))],[some (Blk.drow TPd (((l.set (0+n.toNat) (Bp k,(z.snd.fst.fst,()),z.snd.snd.fst,
 ())).set (0+n.toNat) (z_1.fst,(take (List.length z_1.snd.fst.fst) (drop 0 (Aj TCd.den++A3 A6 (6:Int) (i64.wrap (k +
 (1:Int))) (List.length z_1.snd.fst.fst)++drop (0+List.length z_1.snd.fst.fst) z_1.snd.fst.fst)),()),z_1.snd.snd.fst,())).set (0+n.toNat)
 (z_2.fst,(z_2.snd.fst.fst,()),i64.wrap (k+(1:Int))+(6:Int)*(↑(List.length z_1.snd.fst.fst):Int),())) none)]))))))) (some (Ex.exit 0,[V.j k],
 [some (Blk.drow TPd l none)]))):_):=by kernel_rfl
theorem Rx (m:Nat) (k:Int) (l:List Tp):Aw prog ZI (Ab [(2,F5)]) f24 [.ref 0 0 m,.j k] [.drow TPd l none] =
 ((ifT (decide ((0:Int)<=(0:Int)/\0<=l.length/\m=l.length/\m<=maxI/\(0:Int)<=k/\k+BT CY (drop 0 l)<=lim)) (some (V.j (k +
 BT CY (drop 0 l)),[some (Blk.drow TPd (Aj TPd.den++mkL Rz CY k (drop 0 l)) none)]))):_):=by kernel_rfl
abbrev ZH:FuncId->Option Ent:=Ab [(57,.rd1 A9),(111,.own Ge),(58,.own Et),(69,.own Gf)]
theorem Ja (m:Nat) (k n:Int) (l:List Fa):Av prog ZH (Ab [(2,F6)]) 1 (body f59 0) F6 ([.ref 0 0 m,.j k,.j n],[some (.drow FNd l none)]) =
 ((ifB (decide (n<(↑m:Int))) (ifT (decide ((0:Int)<=n)&&decide (n<(↑m:Int))) (Ak l[0+n.toNat]? fun z=>ifT (decide (i64.wrap (k+(1 :
 Int))<=lim)) (ifT (decide ((0:Int)<=n)&&decide (n<(↑m:Int))) (Ak (l.set (0+n.toNat) (k,z.snd.fst,(z.snd.snd.fst.fst,()),
 (z.snd.snd.snd.fst.fst,()),z.snd.snd.snd.snd.fst,z.snd.snd.snd.snd.snd.fst,()))[0+n.toNat]? fun z_1=>ifT (decide ((0:Int)<=n)&&decide (n<(↑m :
 Int))) (Ak ((l.set (0+n.toNat) (k,z.snd.fst,(z.snd.snd.fst.fst,()),(z.snd.snd.snd.fst.fst,()),z.snd.snd.snd.snd.fst,z.snd.snd.snd.snd.snd.fst,
 ())).set (0+n.toNat) (z_1.fst,Bp (i64.wrap (k+(1:Int))),(z_1.snd.snd.fst.fst,()),(z_1.snd.snd.snd.fst.fst,()),z_1.snd.snd.snd.snd.fst,
 z_1.snd.snd.snd.snd.snd.fst,()))[0+n.toNat]? fun z_2=>ifT (decide (0+List.length z_2.snd.snd.fst.fst<=List.length z_2.snd.snd.fst.fst/\(0:Int)
 <= i64.wrap (i64.wrap (k+(1:Int))+(1:Int))/\i64.wrap (i64.wrap (k+(1:Int))+(1:Int))+(6:Int)*(↑(List.length
 z_2.snd.snd.fst.fst):Int)<=lim)) (ifT (decide ((0:Int)<=n)&&decide (n<(↑m:Int))) (Ak (((l.set (0+n.toNat) (k,z.snd.fst,(z.snd.snd.fst.fst,
 ()),(z.snd.snd.snd.fst.fst,()),z.snd.snd.snd.snd.fst,z.snd.snd.snd.snd.snd.fst,())).set (0+n.toNat) (z_1.fst,Bp (i64.wrap (k+(1:Int))),
 (z_1.snd.snd.fst.fst,()),(z_1.snd.snd.snd.fst.fst,()),z_1.snd.snd.snd.snd.fst,z_1.snd.snd.snd.snd.snd.fst,())).set (0+n.toNat) (z_2.fst,z_2.snd.fst,
 (take (List.length z_2.snd.snd.fst.fst) (drop 0 (Aj WCd.den++A3 A8 (6:Int) (i64.wrap (i64.wrap (k+(1:Int))+(1 :
 Int))) (List.length z_2.snd.snd.fst.fst)++drop (0+List.length z_2.snd.snd.fst.fst) z_2.snd.snd.fst.fst)),()),(z_2.snd.snd.snd.fst.fst,()),
 z_2.snd.snd.snd.snd.fst,z_2.snd.snd.snd.snd.snd.fst,()))[0+n.toNat]? fun z_3=>ifT (decide (0+List.length z_3.snd.snd.snd.fst.fst<=List.length
 z_3.snd.snd.snd.fst.fst/\(0:Int)<=i64.wrap (i64.wrap (k+(1:Int))+(1:Int))+(6:Int)*(↑(List.length z_2.snd.snd.fst.fst):Int)/\
 i64.wrap (i64.wrap (k+(1:Int))+(1:Int))+(6:Int)*(↑(List.length z_2.snd.snd.fst.fst):Int)+(6:Int)*(↑(List.length
 z_3.snd.snd.snd.fst.fst):Int)<=lim)) (ifT (decide ((0:Int)<=n)&&decide (n<(↑m:Int))) (Ak ((((l.set (0+n.toNat) (k,z.snd.fst,
 (z.snd.snd.fst.fst,()),(z.snd.snd.snd.fst.fst,()),z.snd.snd.snd.snd.fst,z.snd.snd.snd.snd.snd.fst,())).set (0+n.toNat) (z_1.fst,Bp (i64.wrap
 (k+(1:Int))),(z_1.snd.snd.fst.fst,()),(z_1.snd.snd.snd.fst.fst,()),z_1.snd.snd.snd.snd.fst,z_1.snd.snd.snd.snd.snd.fst,())).set (0+n.toNat) (z_2.fst,
 z_2.snd.fst,(take (List.length z_2.snd.snd.fst.fst) (drop 0 (Aj WCd.den++A3 A8 (6:Int) (i64.wrap (i64.wrap (k+(1 :
 Int))+(1:Int))) (List.length z_2.snd.snd.fst.fst)++drop (0+List.length z_2.snd.snd.fst.fst) z_2.snd.snd.fst.fst)),()),(z_2.snd.snd.snd.fst.fst,
 ()),z_2.snd.snd.snd.snd.fst,z_2.snd.snd.snd.snd.snd.fst,())).set (0+n.toNat) (z_3.fst,z_3.snd.fst,(z_3.snd.snd.fst.fst,()),(take (List.length
 z_3.snd.snd.snd.fst.fst) (drop 0 (Aj TCd.den++A3 A6 (6:Int) (i64.wrap (i64.wrap (k+(1:Int))+(1:Int))+(6:Int) *
 (↑(List.length z_2.snd.snd.fst.fst):Int)) (List.length z_3.snd.snd.snd.fst.fst)++drop (0+List.length z_3.snd.snd.snd.fst.fst)
 z_3.snd.snd.snd.fst.fst)),()),z_3.snd.snd.snd.snd.fst,z_3.snd.snd.snd.snd.snd.fst,()))[0+n.toNat]? fun z_4=>ifT (decide (0+List.length
 z_4.snd.snd.snd.snd.fst<=List.length z_4.snd.snd.snd.snd.fst/\(0:Int)<=i64.wrap (i64.wrap (k+(1:Int))+(1:Int))+(6:Int)*(↑(List.length
 z_2.snd.snd.fst.fst):Int)+(6:Int)*(↑(List.length z_3.snd.snd.snd.fst.fst):Int)/\i64.wrap (i64.wrap (k+(1:Int))+(1:Int))+(6:Int) *
 (↑(List.length z_2.snd.snd.fst.fst):Int)+(6:Int)*(↑(List.length z_3.snd.snd.snd.fst.fst):Int)+(3:Int)*(↑(List.length z_4.snd.snd.snd.snd.fst):Int)<=
 lim)) (ifT (decide ((0:Int)<=n)&&decide (n<(↑m:Int))) (Ak (((((l.set (0+n.toNat) (k,z.snd.fst,(z.snd.snd.fst.fst,()),(z.snd.snd.snd.fst.fst,
 ()),z.snd.snd.snd.snd.fst,z.snd.snd.snd.snd.snd.fst,())).set (0+n.toNat) (z_1.fst,Bp (i64.wrap (k+(1:Int))),(z_1.snd.snd.fst.fst,()),
 (z_1.snd.snd.snd.fst.fst,()),z_1.snd.snd.snd.snd.fst,z_1.snd.snd.snd.snd.snd.fst,())).set (0+n.toNat) (z_2.fst,z_2.snd.fst,(take (List.length
 z_2.snd.snd.fst.fst) (drop 0 (Aj WCd.den++A3 A8 (6:Int) (i64.wrap (i64.wrap (k+(1:Int))+(1:Int))) (List.length
 z_2.snd.snd.fst.fst)++drop (0+List.length z_2.snd.snd.fst.fst) z_2.snd.snd.fst.fst)),()),(z_2.snd.snd.snd.fst.fst,()),z_2.snd.snd.snd.snd.fst,
 z_2.snd.snd.snd.snd.snd.fst,())).set (0+n.toNat) (z_3.fst,z_3.snd.fst,(z_3.snd.snd.fst.fst,()),(take (List.length z_3.snd.snd.snd.fst.fst) (drop
 0 (Aj TCd.den++A3 A6 (6:Int) (i64.wrap (i64.wrap (k+(1:Int))+(1:Int))+(6:Int)*(↑(List.length z_2.snd.snd.fst.fst) :
 Int)) (List.length z_3.snd.snd.snd.fst.fst)++drop (0+List.length z_3.snd.snd.snd.fst.fst) z_3.snd.snd.snd.fst.fst)),()),z_3.snd.snd.snd.snd.fst,
 z_3.snd.snd.snd.snd.snd.fst,())).set (0+n.toNat) (z_4.fst,z_4.snd.fst,(z_4.snd.snd.fst.fst,()),(z_4.snd.snd.snd.fst.fst,()),take (List.length
 z_4.snd.snd.snd.snd.fst) (drop 0 (Aj NTd.den++A3 AO (3:Int) (i64.wrap (i64.wrap (k+(1:Int))+(1:Int))+(6:Int) *
 (↑(List.length z_2.snd.snd.fst.fst):Int)+(6:Int)*(↑(List.length z_3.snd.snd.snd.fst.fst):Int)) (List.length z_4.snd.snd.snd.snd.fst)++drop (0 +
 List.length z_4.snd.snd.snd.snd.fst) z_4.snd.snd.snd.snd.fst)),z_4.snd.snd.snd.snd.snd.fst,()))[0+n.toNat]? fun z_5=>some (Ex.normal,[V.ref 0 0 m,V.i .i64
 (i64.wrap (i64.wrap (i64.wrap (k+(1:Int))+(1:Int))+(6:Int)*(↑(List.length z_2.snd.snd.fst.fst):Int)+(6:Int)*(↑(List.length
 z_3.snd.snd.snd.fst.fst):Int)+(3:Int)*(↑(List.length z_4.snd.snd.snd.snd.fst):Int)+(1:Int))),V.j (i64.wrap (n+(1:Int)))],[some (Blk.drow
 FNd ((((((l.set (0+n.toNat) (k,z.snd.fst,(z.snd.snd.fst.fst,()),(z.snd.snd.snd.fst.fst,()),z.snd.snd.snd.snd.fst,z.snd.snd.snd.snd.snd.fst,())).set ((0
 : Nat)+n.toNat) (z_1.fst,Bp (i64.wrap (k+(1:Int))),(z_1.snd.snd.fst.fst,()),(z_1.snd.snd.snd.fst.fst,()),z_1.snd.snd.snd.snd.fst,
 z_1.snd.snd.snd.snd.snd.fst,())).set (0+n.toNat) (z_2.fst,z_2.snd.fst,(take (List.length z_2.snd.snd.fst.fst) (drop 0 (Aj WCd.den++
 A3 A8 (6:Int) (i64.wrap (i64.wrap (k+(1:Int))+(1:Int))) (List.length z_2.snd.snd.fst.fst)++drop (0+List.length
 z_2.snd.snd.fst.fst) z_2.snd.snd.fst.fst)),()),(z_2.snd.snd.snd.fst.fst,()),z_2.snd.snd.snd.snd.fst,z_2.snd.snd.snd.snd.snd.fst,())).set (0+n.toNat)
 (z_3.fst,z_3.snd.fst,(z_3.snd.snd.fst.fst,()),(take (List.length z_3.snd.snd.snd.fst.fst) (drop 0 (Aj TCd.den++A3 A6 (6:Int)
 (i64.wrap (i64.wrap (k+(1:Int))+(1:Int))+(6:Int)*(↑(List.length z_2.snd.snd.fst.fst):Int)) (List.length z_3.snd.snd.snd.fst.fst)++
 drop (0+List.length z_3.snd.snd.snd.fst.fst) z_3.snd.snd.snd.fst.fst)),()),z_3.snd.snd.snd.snd.fst,z_3.snd.snd.snd.snd.snd.fst,())).set (0 +
 n.toNat) (z_4.fst,z_4.snd.fst,(z_4.snd.snd.fst.fst,()),(z_4.snd.snd.snd.fst.fst,()),take (List.length z_4.snd.snd.snd.snd.fst) (drop 0 (Aj
 NTd.den++A3 AO (3:Int) (i64.wrap (i64.wrap (k+(1:Int))+(1:Int))+(6:Int)*(↑(List.length z_2.snd.snd.fst.fst):Int)+(6:Int)
 * (↑(List.length z_3.snd.snd.snd.fst.fst):Int)) (List.length z_4.snd.snd.snd.snd.fst)++drop (0+List.length z_4.snd.snd.snd.snd.fst)
 z_4.snd.snd.snd.snd.fst)),z_4.snd.snd.snd.snd.snd.fst,())).set (0+n.toNat) (z_5.fst,z_5.snd.fst,(z_5.snd.snd.fst.fst,()),(z_5.snd.snd.snd.fst.fst,()),
 z_5.snd.snd.snd.snd.fst,i64.wrap (i64.wrap (k+(1:Int))+(1:Int))+(6:Int)*(↑(List.length z_2.snd.snd.fst.fst):Int)+(6:Int) *
 (↑(List.length z_3.snd.snd.snd.fst.fst):Int)+(3:Int)*(↑(List.length z_4.snd.snd.snd.snd.fst):Int),())) none)])))))))))))) (some (Ex.exit 0,[V.j k],[some
 (Blk.drow FNd l none)]))):_):=by kernel_rfl
theorem R6 (m:Nat) (k:Int) (l:List Fa):Aw prog ZH (Ab [(2,F6)]) f59 [.ref 0 0 m,.j k] [.drow FNd l none] =
 ((ifT (decide ((0:Int)<=(0:Int)/\0<=l.length/\m=l.length/\m<=maxI/\(0:Int)<=k/\k+BT D5 (drop 0 l)<=lim)) (some (V.j (k +
 BT D5 (drop 0 l)),[some (Blk.drow FNd (Aj FNd.den++mkL R8 D5 k (drop 0 l)) none)]))):_):=by kernel_rfl
theorem K5 (x:Tp):0<=CY x:=by unfold CY; omega
theorem KC {m:Nat} (hm:m<=maxI) : ∀ (j n:Nat) (k:Int) (l:List Tp),n+j=m->l.length=m->0<=k->k+BT CY (l.drop n)<=lim->Runs prog ZI (Ab [(2,F5)]) 1 (body f24 0) F5 ([.ref 0 0 m,.j k,.j (n:Int)],[some (.drow TPd l none)]) (.exit 0) ([.j (k+BT CY (l.drop n))],[some (.drow TPd (l.take n++mkL Rz CY k (l.drop n)) none)])
 | 0,n,k,l,hn,hl,h0,hk=>by
  have hr:=IZ m k n l
  try dsimp only [shr] at hr
  rw [Ac (dcF (by omega))] at hr
  rw [drop_eq_nil_of_le (by omega),BT,mkL,append_nil,take_of_length_le (by omega),Int.add_zero]
  exact .stop _ _ _ hr (by simp)
 | j+1,n,k,l,hn,hl,h0,hk=>by
  have h1:n<l.length:=by omega
  have hM:maxI=9223372036854775807:=rfl
  have hr:=IZ m k n l
  try dsimp only [shr] at hr
  have hp:=F3 K5 (l.drop (n+1))
  have ih:=KC hm j (n+1) (k+CY l[n]) (l.set n (Rz k l[n])) (by omega) (by rw [List.length_set]; exact hl) (by have:=K5 l[n]; omega) (by rw [drop_set_of_lt (lt_succ_self n),add_assoc,<-DJ h1]; exact hk)
  rw [drop_set_of_lt (lt_succ_self n),CC h1,List.append_assoc,List.singleton_append,<-Pp h1,add_assoc,<-DJ h1] at ih
  rw [DJ h1] at hk
  rw [Ag (dcT (by omega))] at hr
  simp only [zero_add,ntN,set_set,gtE h1,List.getElem?_set_self h1,Am] at hr
  generalize l[n]=z at hr hk ih
  obtain ⟨a,⟨ts,⟨⟩⟩,c,⟨⟩⟩:=z
  dsimp only at hr
  rw [show CY (a,(ts,()),c,())=2+6*(ts.length:Int) from rfl] at hk ih
  unfold lim at hk
  have hb:(decide ((0:Int)<=(n:Int))&&decide ((n:Int)<(m:Int)))=true:=by simp only [anE,dcE]; omega
  have hn1:i64.wrap ((n:Int)+1)=((n+1:Nat):Int):=by rw [Ay (by omega) (by omega)]; omega
  have w1:i64.wrap (k+1)=k+1:=Ay (by omega) (by omega)
  have w2:i64.wrap (k+1+6*(ts.length:Int)+1)=k+(2+6*(ts.length:Int)):=by rw [Ay (by omega) (by omega)]; omega
  simp only [hb,Du,hn1,w1,AW,nil_append,drop_zero,By,append_nil,drop_eq_nil_of_le (Nat.le_refl _),take_of_length_le (Nat.le_of_eq (By _ _))] at hr
  rw [Aa (dcT (by unfold lim; omega)),Aa (dcT ⟨by omega,by omega,by unfold lim; omega⟩),w2] at hr
  exact .step _ _ _ _ hr ih
theorem WM:As prog ZI (Ab [(2,F5)]) 1 (f24.body.getD .skip):=by
 refine An (a:=body f24 0) (by kernel_rfl) fun d e d' h=>?_
 unfold F5 at h
 dsimp only at h
 split at h
 ·rename_i m k n l
  obtain ⟨hc,hx⟩:=Ad h
  obtain ⟨a0,a1,a2,a3,a4,a5⟩:=of_decide_eq_true hc
  obtain ⟨n,rfl⟩:=eq_ofNat_of_zero_le a0
  simp only [ntN] at a1 a5 hx
  have h8:=Ao hx
  obtain ⟨rfl,rfl⟩:=Prod.mk.inj h8
  exact KC a3 (m-n) n k l (by omega) a2.symm a4 a5
 ·cases h
theorem Ac8:Af prog 24 (Ent.own Ry).F:=by
 refine Ae (kc func57 Dq (kc func58 KE KnowsL.nil)).knows (Λ:=(Ab [(2,F5)])) func24 (c:=f24.body.getD .skip) (by kernel_rfl) fun vs bs r hq hv hb=>?_
 unfold Ent.F Ry at hq
 dsimp only at hq
 split at hq
 ·rename_i m k l
  obtain ⟨hc,hx⟩:=Ad hq
  obtain ⟨rfl,a1,a2⟩:=of_decide_eq_true hc
  refine ⟨WM,(Rx l.length k l).trans (Eq.trans ?_ hx)⟩
  try dsimp only [shr]
  rw [drop_zero,Aa (dcT ⟨Int.le_refl 0,zero_le _,by first | trivial | rfl,hv (.ref 0 0 l.length) (by simp),a1,a2⟩)]
  rfl
 ·cases hq
theorem K6 (x:Fa):0<=D5 x:=by unfold D5; omega
theorem KD {m:Nat} (hm:m<=maxI) : ∀ (j n:Nat) (k:Int) (l:List Fa),n+j=m->l.length=m->0<=k->k+BT D5 (l.drop n)<=lim->Runs prog ZH (Ab [(2,F6)]) 1 (body f59 0) F6 ([.ref 0 0 m,.j k,.j (n:Int)],[some (.drow FNd l none)]) (.exit 0) ([.j (k+BT D5 (l.drop n))],[some (.drow FNd (l.take n++mkL R8 D5 k (l.drop n)) none)])
 | 0,n,k,l,hn,hl,h0,hk=>by
  have hr:=Ja m k n l
  try dsimp only [shr] at hr
  rw [Ac (dcF (by omega))] at hr
  rw [drop_eq_nil_of_le (by omega),BT,mkL,append_nil,take_of_length_le (by omega),Int.add_zero]
  exact .stop _ _ _ hr (by simp)
 | j+1,n,k,l,hn,hl,h0,hk=>by
  have h1:n<l.length:=by omega
  have hM:maxI=9223372036854775807:=rfl
  have hr:=Ja m k n l
  try dsimp only [shr] at hr
  have hp:=F3 K6 (l.drop (n+1))
  have ih:=KD hm j (n+1) (k+D5 l[n]) (l.set n (R8 k l[n])) (by omega) (by rw [List.length_set]; exact hl) (by have:=K6 l[n]; omega) (by rw [drop_set_of_lt (lt_succ_self n),add_assoc,<-DJ h1]; exact hk)
  rw [drop_set_of_lt (lt_succ_self n),CC h1,List.append_assoc,List.singleton_append,<-Pp h1,add_assoc,<-DJ h1] at ih
  rw [DJ h1] at hk
  rw [Ag (dcT (by omega))] at hr
  simp only [zero_add,ntN,set_set,gtE h1,List.getElem?_set_self h1,Am] at hr
  generalize l[n]=z at hr hk ih
  obtain ⟨w0,p,⟨ws,⟨⟩⟩,⟨v,⟨⟩⟩,b,c,⟨⟩⟩:=z
  dsimp only at hr
  rw [show D5 (w0,p,(ws,()),(v,()),b,c,())=3+6*(ws.length:Int)+6*(v.length:Int)+3*(b.length:Int) from rfl] at hk ih
  unfold lim at hk
  have hb:(decide ((0:Int)<=(n:Int))&&decide ((n:Int)<(m:Int)))=true:=by simp only [anE,dcE]; omega
  have hn1:i64.wrap ((n:Int)+1)=((n+1:Nat):Int):=by rw [Ay (by omega) (by omega)]; omega
  have w1:i64.wrap (k+1)=k+1:=Ay (by omega) (by omega)
  have w2:i64.wrap (k+1+1)=k+2:=by rw [Ay (by omega) (by omega)]; omega
  have w3:i64.wrap (k+2+6*(ws.length:Int)+6*(v.length:Int)+3*(b.length:Int)+1)=k+(3+6*(ws.length:Int)+6*(v.length:Int)+3*(b.length:Int)):=by rw [Ay (by omega) (by omega)]; omega
  simp only [hb,Du,hn1,w1,w2,AW,nil_append,drop_zero,By,append_nil,drop_eq_nil_of_le (Nat.le_refl _),take_of_length_le (Nat.le_of_eq (By _ _))] at hr
  rw [Aa (dcT (by unfold lim; omega)),Aa (dcT ⟨by omega,by omega,by unfold lim; omega⟩),Aa (dcT ⟨by omega,by omega,by unfold lim; omega⟩),Aa (dcT ⟨by omega,by omega,by unfold lim; omega⟩),w3] at hr
  exact .step _ _ _ _ hr ih
theorem WP:As prog ZH (Ab [(2,F6)]) 1 (f59.body.getD .skip):=by
 refine An (a:=body f59 0) (by kernel_rfl) fun d e d' h=>?_
 unfold F6 at h
 dsimp only at h
 split at h
 ·rename_i m k n l
  obtain ⟨hc,hx⟩:=Ad h
  obtain ⟨a0,a1,a2,a3,a4,a5⟩:=of_decide_eq_true hc
  obtain ⟨n,rfl⟩:=eq_ofNat_of_zero_le a0
  simp only [ntN] at a1 a5 hx
  have h8:=Ao hx
  obtain ⟨rfl,rfl⟩:=Prod.mk.inj h8
  exact KD a3 (m-n) n k l (by omega) a2.symm a4 a5
 ·cases h
theorem Adb:Af prog 59 (Ent.own R7).F:=by
 refine Ae (kc func57 Dq (kc func111 Pt (kc func58 KE (kc func69 Px KnowsL.nil)))).knows (Λ:=(Ab [(2,F6)])) func59 (c:=f59.body.getD .skip) (by kernel_rfl) fun vs bs r hq hv hb=>?_
 unfold Ent.F R7 at hq
 dsimp only at hq
 split at hq
 ·rename_i m k l
  obtain ⟨hc,hx⟩:=Ad hq
  obtain ⟨rfl,a1,a2⟩:=of_decide_eq_true hc
  refine ⟨WP,(R6 l.length k l).trans (Eq.trans ?_ hx)⟩
  try dsimp only [shr]
  rw [drop_zero,Aa (dcT ⟨Int.le_refl 0,zero_le _,by first | trivial | rfl,hv (.ref 0 0 l.length) (by simp),a1,a2⟩)]
  rfl
 ·cases hq
def Hf:Gm
 | [.sl TCd l],[]=>.need (decide (l.length<=1000000000)) (.leaf (.ref 0 0 l.length,[some (.row false none TCd l)]))
 | _,_=>.no
def He:Gm
 | [.sl WCd l],[]=>.need (decide (l.length<=1000000000)) (.leaf (.ref 0 0 l.length,[some (.row false none WCd l)]))
 | _,_=>.no
def Hg:Gm
 | [.sl NTd l],[]=>.need (decide (l.length<=1000000000)) (.leaf (.ref 0 0 l.length,[some (.row false none NTd l)]))
 | _,_=>.no
def Gc:Gm
 | [.agg [.sl TCd l]],[]=>.need (decide (l.length<=1000000000)) (.leaf (.agg [.ref 0 0 l.length],[some (.row false none TCd l)]))
 | _,_=>.no
def EM (ws:List Wt) (v:List Ty) (b:List Nt):Bool:=decide (ws.length<=1000000000)&&(decide (v.length<=1000000000)&&decide (b.length<=1000000000))
def Gd:Gm
 | [.agg [.i .i64 w,.s p,.sl WCd ws,.sl TCd v,.sl NTd b,.i .i64 t]],[]=>.need (EM ws v b) (.leaf (.agg [.i .i64 w,.s p,.ref 0 0 ws.length,.ref 1 0 v.length,.ref 2 0 b.length,.i .i64 t],[some (.row false none WCd ws),some (.row false none TCd v),some (.row false none NTd b)]))
 | _,_=>.no
theorem LS (l:List (Int×List UInt8×Int×Bool×Int×Int×Unit)) (h:l.length<=1000000000):DB prog (Ab []) (Ab []) f157 [.sl TCd l] []=some (.ref 0 0 l.length,[some (.row false none TCd l)]):=by
 have e:DB prog (Ab []) (Ab []) f157 [.sl TCd l] [] =
  ((ifB (decide (0<l.length)) (ifT (decide ((0+l.length)*56<=140737488355328)&&decide (0+l.length<=maxI)) (some (V.ref 0 0
 (0+l.length),[some (Blk.row false none TCd (Aj TCd.den++l))]))) (Jf (some (V.ref 0 0 0,[some (Blk.row false none TCd (Aj TCd.den))])) (ifT (decide
 ((0+l.length)*56<=140737488355328)&&decide (0+l.length<=maxI)) (some (V.ref 0 0 (0+l.length),[some (Blk.row false
 none TCd (Aj TCd.den++l))]))))):_):=by kernel_rfl
 rw [e]
 by_cases q:0<l.length
 ·rw [Ag (dcT q),Aa (by simp [maxI]; omega)]; simp
 ·obtain rfl:l=[]:=List.eq_nil_of_length_eq_zero (by omega)
  rw [Ac (by simp),KW]<;>simp [maxI]
theorem Vj:Af prog 157 (Ent.rd1 Hf).F:=by
 refine Ba (KnowsL.nil).knows (Λ:=Ab []) func157 (c:=f157.body.getD .skip) (by kernel_rfl) fun vs bs r h hv hb=>?_
 unfold Ent.F Hf at h
 dsimp only at h
 split at h
 ·rename_i l
  obtain ⟨hc,h⟩:=Ad h
  exact ⟨Ai _,(LS l (of_decide_eq_true hc)).trans h⟩
 ·cases h
theorem LR (l:List (Int×Int×Int×List UInt8×Int×Int×Unit)) (h:l.length<=1000000000):DB prog (Ab []) (Ab []) f114 [.sl WCd l] []=some (.ref 0 0 l.length,[some (.row false none WCd l)]):=by
 have e:DB prog (Ab []) (Ab []) f114 [.sl WCd l] [] =
  ((ifB (decide (0<l.length)) (ifT (decide ((0+l.length)*56<=140737488355328)&&decide (0+l.length<=maxI)) (some (V.ref 0 0
 (0+l.length),[some (Blk.row false none WCd (Aj WCd.den++l))]))) (Jf (some (V.ref 0 0 0,[some (Blk.row false none WCd (Aj WCd.den))])) (ifT (decide
 ((0+l.length)*56<=140737488355328)&&decide (0+l.length<=maxI)) (some (V.ref 0 0 (0+l.length),[some (Blk.row false
 none WCd (Aj WCd.den++l))]))))):_):=by kernel_rfl
 rw [e]
 by_cases q:0<l.length
 ·rw [Ag (dcT q),Aa (by simp [maxI]; omega)]; simp
 ·obtain rfl:l=[]:=List.eq_nil_of_length_eq_zero (by omega)
  rw [Ac (by simp),KW]<;>simp [maxI]
theorem Vi:Af prog 114 (Ent.rd1 He).F:=by
 refine Ba (KnowsL.nil).knows (Λ:=Ab []) func114 (c:=f114.body.getD .skip) (by kernel_rfl) fun vs bs r h hv hb=>?_
 unfold Ent.F He at h
 dsimp only at h
 split at h
 ·rename_i l
  obtain ⟨hc,h⟩:=Ad h
  exact ⟨Ai _,(LR l (of_decide_eq_true hc)).trans h⟩
 ·cases h
theorem LT (l:List (List UInt8×Int×List UInt8×Unit)) (h:l.length<=1000000000):DB prog (Ab []) (Ab []) f115 [.sl NTd l] []=some (.ref 0 0 l.length,[some (.row false none NTd l)]):=by
 have e:DB prog (Ab []) (Ab []) f115 [.sl NTd l] [] =
  ((ifB (decide (0<l.length)) (ifT (decide ((0+l.length)*40<=140737488355328)&&decide (0+l.length<=maxI)) (some (V.ref 0 0
 (0+l.length),[some (Blk.row false none NTd (Aj NTd.den++l))]))) (Jf (some (V.ref 0 0 0,[some (Blk.row false none NTd (Aj NTd.den))])) (ifT (decide
 ((0+l.length)*40<=140737488355328)&&decide (0+l.length<=maxI)) (some (V.ref 0 0 (0+l.length),[some (Blk.row false
 none NTd (Aj NTd.den++l))]))))):_):=by kernel_rfl
 rw [e]
 by_cases q:0<l.length
 ·rw [Ag (dcT q),Aa (by simp [maxI]; omega)]; simp
 ·obtain rfl:l=[]:=List.eq_nil_of_length_eq_zero (by omega)
  rw [Ac (by simp),KW]<;>simp [maxI]
theorem Vk:Af prog 115 (Ent.rd1 Hg).F:=by
 refine Ba (KnowsL.nil).knows (Λ:=Ab []) func115 (c:=f115.body.getD .skip) (by kernel_rfl) fun vs bs r h hv hb=>?_
 unfold Ent.F Hg at h
 dsimp only at h
 split at h
 ·rename_i l
  obtain ⟨hc,h⟩:=Ad h
  exact ⟨Ai _,(LT l (of_decide_eq_true hc)).trans h⟩
 ·cases h
theorem Ld (l:List Ty):Di prog (Ab [(157,.rd1 Hf)]) (Ab []) f110 [.agg [.sl TCd l]] [] =
 ((ifT (decide (l.length<=1000000000)) (some (V.agg [V.ref 0 0 l.length],[some (Blk.row false none TCd l)]))):_):=by kernel_rfl
theorem U9:Af prog 110 (Ent.rd1 Gc).F:=by
 refine AE (kc func157 Vj KnowsL.nil).knows (Λ:=Ab []) func110 (c:=f110.body.getD .skip) (by kernel_rfl) fun vs bs r hq hv hb=>?_
 unfold Ent.F Gc at hq
 dsimp only at hq
 split at hq
 ·rename_i l
  obtain ⟨hc,hx⟩:=Ad hq
  refine ⟨Ai _,(Ld l).trans (Eq.trans ?_ hx)⟩
  try dsimp only [shr]
  show _=some _
  rw [Aa hc]
  all_goals first | rfl | (simp only [zero_add,AW,nil_append]; done) | (simp only [zero_add,AW,nil_append]; rfl)
 ·cases hq
theorem NB (l:List Ty):Di prog (Ab []) (Ab []) f107 [.agg [.sl TCd l]] [] =
 ((ifT (decide ((0+l.length)*56<=140737488355328)&&decide (0+l.length<=maxI)) (some (V.agg [V.ref 0 0 (0+l.length)],[some
 (Blk.row false none TCd (Aj TCd.den++l))]))):_):=by kernel_rfl
theorem Yu:Af prog 107 (Ent.rd1 Gc).F:=by
 refine AE KnowsL.nil.knows (Λ:=Ab []) func107 (c:=f107.body.getD .skip) (by kernel_rfl) fun vs bs r hq hv hb=>?_
 unfold Ent.F Gc at hq
 dsimp only at hq
 split at hq
 ·rename_i l
  obtain ⟨hc,hx⟩:=Ad hq
  refine ⟨Ai _,(NB l).trans (Eq.trans ?_ hx)⟩
  try dsimp only [shr]
  show _=some _
  have hc:=of_decide_eq_true hc
  have hM:maxI=9223372036854775807:=rfl
  rw [Aa (by simp only [anE,dcE]; omega)]
  all_goals first | rfl | (simp only [zero_add,AW,nil_append]; done) | (simp only [zero_add,AW,nil_append]; rfl)
 ·cases hq
theorem Le (w:Int) (p:List UInt8) (ws:List Wt) (v:List Ty) (b:List Nt) (t:Int):Di prog (Ab [(114,.rd1 He),(110,.rd1 Gc),(115,.rd1 Hg)]) (Ab []) f63 [.agg [.j w,.s p,.sl WCd ws,.sl TCd v,.sl NTd b,.j t]] [] =
 ((ifT (decide (ws.length<=1000000000)) (ifT (decide (v.length<=1000000000)) (ifT (decide (b.length<=1000000000)) (some (V.agg [V.j w,V.s p,
 V.ref 0 0 ws.length,V.ref 1 0 v.length,V.ref 2 0 b.length,V.j t],[some (Blk.row false none WCd ws),some (Blk.row false none TCd v),some (Blk.row false none NTd
 b)]))))):_):=by kernel_rfl
theorem UA:Af prog 63 (Ent.rd1 Gd).F:=by
 refine AE (kc func114 Vi (kc func110 U9 (kc func115 Vk KnowsL.nil))).knows (Λ:=Ab []) func63 (c:=f63.body.getD .skip) (by kernel_rfl) fun vs bs r hq hv hb=>?_
 unfold Ent.F Gd at hq
 dsimp only at hq
 split at hq
 ·rename_i w p ws v b t
  obtain ⟨hc,hx⟩:=Ad hq
  refine ⟨Ai _,(Le w p ws v b t).trans (Eq.trans ?_ hx)⟩
  try dsimp only [shr]
  show _=some _
  unfold EM at hc
  rw [anE,anE] at hc
  rw [Aa hc.1,Aa hc.2.1,Aa hc.2.2]
  all_goals first | rfl | (simp only [zero_add,AW,nil_append]; done) | (simp only [zero_add,AW,nil_append]; rfl)
 ·cases hq
theorem NC (w:Int) (p:List UInt8) (ws:List Wt) (v:List Ty) (b:List Nt) (t:Int):Di prog (Ab [(107,.rd1 Gc)]) (Ab []) f62 [.agg [.j w,.s p,.sl WCd ws,.sl TCd v,.sl NTd b,.j t]] [] =
 ((ifT (decide ((0+ws.length)*56<=140737488355328)&&decide (0+ws.length<=maxI)) (ifT (decide (v.length<=1000000000)) (ifT
 (decide ((0+b.length)*40<=140737488355328)&&decide (0+b.length<=maxI)) (some (V.agg [V.j w,V.s p,V.ref 0 0 (0 +
 ws.length),V.ref 1 0 v.length,V.ref 2 0 (0+b.length),V.j t],[some (Blk.row false none WCd (Aj WCd.den++ws)),some (Blk.row false none TCd v),some
 (Blk.row false none NTd (Aj NTd.den++b))]))))):_):=by kernel_rfl
theorem Yv:Af prog 62 (Ent.rd1 Gd).F:=by
 refine AE (kc func107 Yu KnowsL.nil).knows (Λ:=Ab []) func62 (c:=f62.body.getD .skip) (by kernel_rfl) fun vs bs r hq hv hb=>?_
 unfold Ent.F Gd at hq
 dsimp only at hq
 split at hq
 ·rename_i w p ws v b t
  obtain ⟨hc,hx⟩:=Ad hq
  refine ⟨Ai _,(NC w p ws v b t).trans (Eq.trans ?_ hx)⟩
  try dsimp only [shr]
  show _=some _
  unfold EM at hc
  have hM:maxI=9223372036854775807:=rfl
  rw [anE,anE,dcE,dcE,dcE] at hc
  rw [Aa (by simp only [anE,dcE]; omega),Aa (by rw [dcE]; omega),Aa (by simp only [anE,dcE]; omega)]
  all_goals first | rfl | (simp only [zero_add,AW,nil_append]; done) | (simp only [zero_add,AW,nil_append]; rfl)
 ·cases hq
instance decTp:DecidableEq Tp:=inferInstance
def tOK (t:Tp):Bool:=tpB (cut 47 t.1)&&(Bd t.2.1.1&&decide (0<=t.2.2.1/\t.2.2.1<=1000))
def EE (t:Tp):Bool:=decide (t.1.length<=4000000000)&&(decide (t.2.1.1.length<=4000000000)&&nmL t.2.1.1)
def Tx (ts:List Tp) (i:Nat):Bool:=match ts[i]? with | some t=>tOK t&&atT ts t.1==(i:Int) | none=>true
def C5 (ts:List Tp) (i:Nat):Bool:=((range ts.length).drop i).all (Tx ts)
def Xa:Gm
 | [.agg [.s n,.sl TCd l,.i .i64 c]],[]=>.need (EE (n,(l,()),c,())) (.leaf (.b (tOK (n,(l,()),c,())),[]))
 | _,_=>.no
def Xb:Gm
 | [.s p,.s q],[]=>.need (decide (p.length<=4000000000/\q.length<=4000000000)) (.leaf (.b (tk EV (cut 47 p) (cut 47 q)),[]))
 | _,_=>.no
def V6:Gm
 | [.bx [.sl TPd ts,.sl FNd fs] 0],[]=>.need (decide (ts.length<=4000000000)&&ts.all EE) (.leaf (.b (C5 ts 0&&decide (ts.length<=4)),[]))
 | _,_=>.no
def Ff:LoopEnt:=⟨46,[0,8,9,10],[0],[2],fun
 | ([.bx [.sl TPd ts,.sl FNd fs] 0,.sl TPd l,.i .i64 k,.i .i64 i],[])=>.need (decide (0<=i/\i.toNat<=l.length/\k=l.length/\eqT (List Tp) l ts/\l.length<=maxI)&&ts.all EE) (.br (C5 ts i.toNat) (.leaf (.exit 0,([.bx [.sl TPd ts,.sl FNd fs] 0],[]))) (.leaf (.ret,([.b false],[]))))
 | _=>.no⟩
theorem Ut (n:List UInt8) (l:List Ty) (c:Int):Aw prog (Ab [(76,.rd1 MO),(77,.rd1 Jk),(78,.rd1 A4)]) (Ab []) f37 [.agg [.s n,.sl TCd l,.j c]] [] =
 ((ifT (decide (n.length<=4000000000)) (ifB (tpB (cut (47:UInt8) n)) (ifT (decide (l.length<=4000000000)&&nmL l) (ifB (Bd l) (some (V.b (decide ((0 :
 Int)<=c/\c<=(1000:Int))),[])) (some (V.b false,[])))) (some (V.b false,[])))):_):=by kernel_rfl
theorem Aei:Af prog 37 (Ent.rd1 Xa).F:=by
 refine Ae (kc func76 Acw (kc func77 VY (kc func78 J0 KnowsL.nil))).knows (Λ:=Ab []) func37 (c:=f37.body.getD .skip) (by kernel_rfl) fun vs bs r hq hv hb=>?_
 unfold Ent.F Xa at hq
 dsimp only at hq
 split at hq
 ·rename_i n l c
  obtain ⟨hc,hx⟩:=Ad hq
  unfold EE at hc
  dsimp only at hc
  simp only [anE,dcE] at hc
  refine ⟨Ai _,(Ut n l c).trans (Eq.trans ?_ hx)⟩
  show _=some (V.b (tpB (cut 47 n)&&(Bd l&&decide (0<=c/\c<=1000))),[])
  rw [Aa (dcT hc.1),hc.2.2,dcT hc.2.1]
  cases tpB (cut 47 n)<;>cases Bd l<;>rfl
 ·cases hq
theorem Uu (p q:List UInt8):Aw prog (Ab [(120,.rd1 SW),(126,.rd1 Ab4)]) (Ab []) f81 [.s p,.s q] [] =
 ((ifT (decide ((47:Int)=(47:Int)/\p.length<=4000000000)) (ifT (decide ((47:Int)=(47:Int)/\q.length<=4000000000)) (some (V.b (tk EV
 (take (cut (47:UInt8) p).length (drop 0 (cut (47:UInt8) p))) (take (cut (47:UInt8) q).length (drop 0 (cut (47:UInt8) q)))),
 [])))):_):=by kernel_rfl
theorem Aej:Af prog 81 (Ent.rd1 Xb).F:=by
 refine Ae (kc func120 Aa8 (kc func126 Aem KnowsL.nil)).knows (Λ:=Ab []) func81 (c:=f81.body.getD .skip) (by kernel_rfl) fun vs bs r hq hv hb=>?_
 unfold Ent.F Xb at hq
 dsimp only at hq
 split at hq
 ·rename_i p q
  obtain ⟨hc,hx⟩:=Ad hq
  obtain ⟨h1,h2⟩:=of_decide_eq_true hc
  refine ⟨Ai _,(Uu p q).trans (Eq.trans ?_ hx)⟩
  try dsimp only [shr]
  rw [Aa (dcT ⟨rfl,h1⟩),Aa (dcT ⟨rfl,h2⟩)]
  simp only [drop_zero,take_length]
  try rfl
 ·cases hq
abbrev Vt:FuncId->Option Ent:=Ab [(86,.rd1 MO),(87,.rd1 Jk),(88,.rd1 A4),(89,.rd1 N2)]
theorem JO (ts:List Tp) (fs:List Fa) (l:List Tp) (k i:Int):Av prog Vt (Ab [(2,Ff)]) 0 (body f41 0) Ff ([.bx [.sl TPd ts,.sl FNd fs] 0,.sl TPd l,.j k,.j i],[]) =
 ((ifB (decide (i<k)) (ifT (decide ((0:Int)<=i)&&decide (i<(↑l.length:Int))) (Ak l[i.toNat]? fun z=>ifT (decide (List.length z.fst<=4000000000))
 (ifB (!tpB (cut (47:UInt8) z.fst)) (some (Ex.ret,[V.b false],[])) (ifT (decide (List.length z.snd.fst.fst<=4000000000)&&nmL z.snd.fst.fst) (ifB (!Bd
 z.snd.fst.fst) (some (Ex.ret,[V.b false],[])) (ifB (!decide ((0:Int)<=z.snd.snd.fst/\z.snd.snd.fst<=(1000:Int))) (some (Ex.ret,[V.b false],[])) (ifB (atT ts
 z.fst != i) (some (Ex.ret,[V.b false],[])) (some (Ex.normal,[V.bx [V.sl TPd ts,V.sl FNd fs] 0,V.sl TPd l,V.j k,V.j (i64.wrap (i+(1 :
 Int)))],[]))))))))) (some (Ex.exit 0,[V.bx [V.sl TPd ts,V.sl FNd fs] 0],[]))):_):=by kernel_rfl
theorem Tv (ts:List Tp) (fs:List Fa):Aw prog Vt (Ab [(2,Ff)]) f41 [.bx [.sl TPd ts,.sl FNd fs] 0] [] =
 ((ifT (decide ((0:Int)<=(0:Int)/\0<=ts.length/\(↑ts.length:Int)=(↑ts.length:Int)/\eqT (List Tp) ts ts/\ts.length<=maxI)&&ts.all EE) (ifB (C5
 ts 0) (some (V.b (decide ((↑ts.length:Int)<=(4:Int))),[])) (some (V.b false,[])))):_):=by kernel_rfl
theorem Ma (ts:List Tp) (fs:List Fa) (hm:ts.length<=maxI) (hz:ts.all EE=true) : ∀ (j i:Nat),i+j=ts.length->∀ ex d,(Br.br (C5 ts i) (.leaf (.exit 0,([.bx [.sl TPd ts,.sl FNd fs] 0],[]))) (.leaf (.ret,([.b false],[]))):Br (Ex×Dt)).run=some (ex,d)->Runs prog Vt (Ab [(2,Ff)]) 0 (body f41 0) Ff ([.bx [.sl TPd ts,.sl FNd fs] 0,.sl TPd ts,.j (ts.length:Int),.j (i:Int)],[]) ex d
 | 0,i,hi,ex,d,h=>by
  have hr:=JO ts fs ts ts.length i
  try dsimp only [shr] at hr
  rw [Ac (dcF (by omega))] at hr
  have e:C5 ts i=true:=by unfold C5; rw [drop_eq_nil_of_le (by simp; omega)]; rfl
  rw [HW e] at h
  have h8:=Ao h
  obtain ⟨rfl,rfl⟩:=Prod.mk.inj h8
  exact .stop _ _ _ hr (by simp)
 | j+1,i,hi,ex,d,h=>by
  have hM:maxI=9223372036854775807:=rfl
  have hlt:i<ts.length:=by omega
  have hr:=JO ts fs ts ts.length i
  try dsimp only [shr] at hr
  have hs:=all_eq_true.1 hz _ (getElem_mem hlt)
  unfold EE at hs
  simp only [anE,dcE] at hs
  rw [Ag (dcT (by omega)),Aa (by simp only [anE,dcE]; omega),ntN,gtE hlt,Am,Ap (n:=i) (by omega)] at hr
  have e:C5 ts i=((tOK ts[i]&&atT ts ts[i].1==(i:Int))&&C5 ts (i+1)):=by
   unfold C5
   rw [drop_eq_getElem_cons (by simpa using hlt),all_cons,List.getElem_range]
   congr 1
   unfold Tx
   rw [gtE hlt]
  generalize ts[i]=t at hr e hs
  unfold tOK at e
  rw [Aa (dcT hs.1),hs.2.2,dcT hs.2.1] at hr
  have bad : ∀ {w},Av prog Vt (Ab [(2,Ff)]) 0 (body f41 0) Ff ([.bx [.sl TPd ts,.sl FNd fs] 0,.sl TPd ts,.j (ts.length:Int),.j (i:Int)],[])=w->w=some ((.ret:Ex),(([.b false]:List V),([]:List (Option Blk))))->C5 ts i=false->Runs prog Vt (Ab [(2,Ff)]) 0 (body f41 0) Ff ([.bx [.sl TPd ts,.sl FNd fs] 0,.sl TPd ts,.j (ts.length:Int),.j (i:Int)],[]) ex d:=fun e1 e2 e3=>by
   rw [IC e3] at h
   have h8:=Ao h
   obtain ⟨rfl,rfl⟩:=Prod.mk.inj h8
   exact .stop _ _ _ (e1.trans e2) (by simp)
  cases h1:tpB (cut 47 t.1) with
  | false=>rw [h1] at hr e; exact bad hr rfl (by rw [e]; rfl)
  | true=>
   cases h2:Bd t.2.1.1 with
   | false=>rw [h1,h2] at hr e; exact bad hr rfl (by rw [e]; rfl)
   | true=>
    by_cases h3:0<=t.2.2.1/\t.2.2.1<=1000
    ·by_cases h4:atT ts t.1=(i:Int)
     ·have h5:(atT ts t.1==(i:Int))=true:=beq_iff_eq.2 h4
      have h6:(atT ts t.1 != (i:Int))=false:=bne_eq_false_iff_eq.2 h4
      rw [h1,h2,dcT h3,h6] at hr
      rw [h1,h2,dcT h3,h5] at e
      refine .step _ _ _ _ hr (Ma ts fs hm hz j (i+1) (by omega) ex d ?_)
      rw [e] at h
      exact h
     ·have h5:(atT ts t.1==(i:Int))=false:=beq_eq_false_iff_ne.2 h4
      have h6:(atT ts t.1 != (i:Int))=true:=bne_iff_ne.2 h4
      rw [h1,h2,dcT h3,h6] at hr
      exact bad hr rfl (by rw [e,h5]; simp)
    ·rw [h1,h2,dcF h3] at hr e
     exact bad hr rfl (by rw [e]; rfl)
theorem Yj:As prog Vt (Ab [(2,Ff)]) 0 (f41.body.getD .skip):=by
 refine An (a:=body f41 0) (by kernel_rfl) fun d ex d' h=>?_
 unfold Ff at h
 dsimp only at h
 split at h
 ·rename_i ts fs l k i
  obtain ⟨hc,hx⟩:=Ad h
  rw [anE] at hc
  obtain ⟨hc,hz⟩:=hc
  obtain ⟨h0,h1,h2,h3,h4⟩:=of_decide_eq_true hc
  have h3:l=ts:=h3
  subst h3
  subst h2
  obtain ⟨i,rfl⟩:=eq_ofNat_of_zero_le h0
  simp only [ntN] at h1 hx
  exact Ma l fs h4 hz (l.length-i) i (by omega) ex d' hx
 ·cases h
theorem Ado:Af prog 41 (Ent.rd1 V6).F:=by
 refine Ae (kc func86 Adq (kc func87 Adr (kc func88 Dc (kc func89 Xk KnowsL.nil)))).knows (Λ:=(Ab [(2,Ff)])) func41 (c:=f41.body.getD .skip) (by kernel_rfl) fun vs bs r hq hv hb=>?_
 unfold Ent.F V6 at hq
 dsimp only at hq
 split at hq
 ·rename_i ts fs
  obtain ⟨hc,hx⟩:=Ad hq
  rw [anE] at hc
  obtain ⟨hm0,hc⟩:=hc
  have hM:maxI=9223372036854775807:=rfl
  have hm:ts.length<=maxI:=by have:=of_decide_eq_true hm0; omega
  refine ⟨Yj,(Tv ts fs).trans (Eq.trans ?_ hx)⟩
  try dsimp only [shr]
  show _=some _
  rw [hc,Aa (show (decide ((0:Int)<=0/\0<=ts.length/\(ts.length:Int)=ts.length/\eqT (List Tp) ts ts/\ts.length<=maxI)&&true)=true by rw [Bool.and_true]; exact dcT ⟨by omega,by omega,rfl,rfl,hm⟩)]
  cases C5 ts 0 with
  | false=>rfl
  | true=>
   by_cases q:ts.length<=4
   ·rw [dcT q,dcT (by omega)]; rfl
   ·rw [dcF q,dcF (by omega)]; rfl
 ·cases hq
def Fm (ts:List Tp) (x:List UInt8):Int:=match ts[(atT ts x).toNat]? with | some t=>t.2.2.1 | none=>0
def ntI (ts:List Tp) (z:Rose Lab) (m:List (List UInt8×Int)) (n:Nt):Bool:=decide (0<=atT ts n.1)&&(decide (i64.wrap ((Cs .str m n.1).getD 0+1)<=n.2.1/\n.2.1<=Fm ts n.1)&&N0 z n.2.2.1)
def HC (ts:List Tp) (z:Rose Lab):List (List UInt8×Int)->List Nt->Bool
 | _,[]=>true
 | m,n::l=>ntI ts z m n&&HC ts z (Dx .str m n.1 n.2.1) l
def Hy (l:List Nt):Bool:=decide (l.length<=4000000000)&&l.all fun n=>decide (n.2.2.1.length<=4000000000)
def Abr:Gm
 | [.bx [.sl TPd ts,.sl FNd fs] 0,.sl NTd l,.tp LCd z 0],[]=>.need (decide (CR z=true)&&Hy l) (.leaf (.b (HC ts z [] l&&decide (l.length<=10)),[]))
 | _,_=>.no
def J1:LoopEnt:=⟨63,[0,1,2,7,14,15,16],[1],[6],fun
 | ([.bx [.sl TPd ts,.sl FNd fs] 0,.sl NTd q,.tp LCd z 0,.mref 0,.sl NTd l,.i .i64 k,.i .i64 i],[some (.mp .str (.int .i64) m)])=>.need (decide (0<=i/\i.toNat<=l.length/\k=l.length/\CR z=true)&&Hy l) (.br (HC ts z m (l.drop i.toNat)) (.leaf (.exit 0,([.sl NTd q],[]))) (.leaf (.ret,([.b false],[]))))
 | _=>.no⟩
abbrev Vs:FuncId->Option Ent:=Ab [(89,.rd1 N2),(88,.rd1 A4),(103,.rd1 Q5)]
theorem MI (ts:List Tp) (fs:List Fa) (q:List Nt) (z:Rose Lab) (l:List Nt) (k i:Int) (m:List (List UInt8×Int)):Av prog Vs (Ab [(3,J1)]) 0 (body f98 0) J1 ([.bx [.sl TPd ts,.sl FNd fs] 0,.sl NTd q,.tp LCd z 0,.mref 0,.sl NTd l,.j k,.j i],[some (.mp .str (.int .i64) m)]) =
 ((ifB (decide (i<k)) (ifT (decide ((0:Int)<=i)&&decide (i<(↑l.length:Int))) (Ak l[i.toNat]? fun z_1=>ifB (decide (atT ts z_1.fst<(0:Int))) (some
 (Ex.ret,[V.b false],[])) (ifT (decide ((0:Int)<=atT ts z_1.fst)&&decide (atT ts z_1.fst<(↑ts.length:Int))) (Ak ts[(atT ts z_1.fst).toNat]? fun z_2=>ifB
 (!decide (i64.wrap ((Cs Cd.str m z_1.fst).getD (0:Int)+(1:Int))<=z_1.snd.fst/\z_1.snd.fst<=z_2.snd.snd.fst)) (some (Ex.ret,[V.b false],[])) (ifT
 (decide (CR z=true/\List.length z_1.snd.snd.fst<=4000000000)) (ifB (!N0 z z_1.snd.snd.fst) (some (Ex.ret,[V.b false],[])) (some (Ex.normal,[V.bx [V.sl
 TPd ts,V.sl FNd fs] 0,V.sl NTd q,V.tp LCd z 0,V.mref 0,V.sl NTd l,V.j k,V.j (i64.wrap (i+(1:Int)))],[some (Blk.mp
 Cd.str (Cd.int .i64) (Dx Cd.str m z_1.fst z_1.snd.fst))])))))))) (some (Ex.exit 0,[V.sl NTd q],[]))):_):=by kernel_rfl
theorem Xr (ts:List Tp) (fs:List Fa) (l:List Nt) (z:Rose Lab):Aw prog Vs (Ab [(3,J1)]) f98 [.bx [.sl TPd ts,.sl FNd fs] 0,.sl NTd l,.tp LCd z 0] [] =
 ((ifT (decide ((0:Int)<=(0:Int)/\0<=l.length/\(↑l.length:Int)=(↑l.length:Int)/\CR z=true)&&Hy l) (ifB (HC ts z (Aj (Cd.str.den×(Cd.int
 .i64).den)) (drop 0 l)) (some (V.b (decide ((↑l.length:Int)<=(10:Int))),[])) (some (V.b false,[])))):_):=by kernel_rfl
theorem S8 (ts:List Tp) (x:List UInt8):(atT ts x<0)\/(0<=atT ts x/\(atT ts x).toNat<ts.length/\atT ts x<ts.length):=by
 unfold atT
 rcases Gi (fun t:Tp=>t.1==x) ts 0 with h | h
 ·left; rw [h.1]; decide
 ·right; omega
theorem PE (ts:List Tp) (fs:List Fa) (q:List Nt) (z:Rose Lab) (hz:CR z=true) (l:List Nt) (hl:l.length<=4000000000) (hs : ∀ n∈l,n.2.2.1.length<=4000000000) : ∀ (j i:Nat) (m:List (List UInt8×Int)),i+j=l.length->∀ ex d,(Br.br (HC ts z m (l.drop i)) (.leaf (.exit 0,([.sl NTd q],[]))) (.leaf (.ret,([.b false],[]))):Br (Ex×Dt)).run=some (ex,d)->Runs prog Vs (Ab [(3,J1)]) 0 (body f98 0) J1 ([.bx [.sl TPd ts,.sl FNd fs] 0,.sl NTd q,.tp LCd z 0,.mref 0,.sl NTd l,.j (l.length:Int),.j (i:Int)],[some (.mp .str (.int .i64) m)]) ex d
 | 0,i,m,hi,ex,d,h=>by
  have hr:=MI ts fs q z l l.length i m
  try dsimp only [shr] at hr
  rw [Ac (dcF (by omega))] at hr
  rw [drop_eq_nil_of_le (by omega),HC] at h
  have h8:=Ao h
  obtain ⟨rfl,rfl⟩:=Prod.mk.inj h8
  exact .stop _ _ _ hr (by simp)
 | j+1,i,m,hi,ex,d,h=>by
  have hM:maxI=9223372036854775807:=rfl
  have hlt:i<l.length:=by omega
  have hr:=MI ts fs q z l l.length i m
  try dsimp only [shr] at hr
  have hs1:=hs _ (getElem_mem hlt)
  rw [Ag (dcT (by omega)),Aa (by simp only [anE,dcE]; omega),ntN,gtE hlt,Am,Ap (n:=i) (by omega)] at hr
  rw [drop_eq_getElem_cons hlt,HC] at h
  have bad : ∀ {w},Av prog Vs (Ab [(3,J1)]) 0 (body f98 0) J1 ([.bx [.sl TPd ts,.sl FNd fs] 0,.sl NTd q,.tp LCd z 0,.mref 0,.sl NTd l,.j (l.length:Int),.j (i:Int)],[some (.mp .str (.int .i64) m)])=w->w=some ((.ret:Ex),(([.b false]:List V),([]:List (Option Blk))))->ntI ts z m l[i]=false->Runs prog Vs (Ab [(3,J1)]) 0 (body f98 0) J1 ([.bx [.sl TPd ts,.sl FNd fs] 0,.sl NTd q,.tp LCd z 0,.mref 0,.sl NTd l,.j (l.length:Int),.j (i:Int)],[some (.mp .str (.int .i64) m)]) ex d:=fun e1 e2 e3=>by
   rw [e3,Bool.false_and] at h
   have h8:=Ao h
   obtain ⟨rfl,rfl⟩:=Prod.mk.inj h8
   exact .stop _ _ _ (e1.trans e2) (by simp)
  rcases S8 ts l[i].1 with h1 | ⟨h1,h2,h3⟩
  ·rw [Ag (dcT h1)] at hr
   exact bad hr rfl (by unfold ntI; rw [dcF (by omega)]; rfl)
  ·rw [Ac (dcF (by omega)),Aa (by simp only [anE,dcE]; exact ⟨h1,h3⟩),gtE h2,Am] at hr
   have ec:Fm ts l[i].1=ts[(atT ts l[i].1).toNat].2.2.1:=by unfold Fm; rw [gtE h2]
   rw [<-ec,Aa (dcT ⟨hz,hs1⟩)] at hr
   have e:ntI ts z m l[i]=(decide (i64.wrap ((Cs .str m l[i].1).getD 0+1)<=l[i].2.1/\l[i].2.1<=Fm ts l[i].1)&&N0 z l[i].2.2.1):=by
    unfold ntI; rw [dcT h1,Bool.true_and]
   rw [e] at bad h
   generalize decide (i64.wrap ((Cs .str m l[i].1).getD 0+1)<=l[i].2.1/\l[i].2.1<=Fm ts l[i].1)=c1 at hr bad h
   generalize N0 z l[i].2.2.1=c2 at hr bad h
   cases c1 with
   | false=>exact bad hr rfl rfl
   | true=>
    cases c2 with
    | false=>exact bad hr rfl rfl
    | true=>exact .step _ _ _ _ hr (PE ts fs q z hz l hl hs j (i+1) _ (by omega) ex d h)
theorem Pf {l:List Nt} (h:Hy l=true):l.length<=4000000000/\∀ n∈l,n.2.2.1.length<=4000000000:=by
 unfold Hy at h
 rw [anE,dcE] at h
 exact ⟨h.1,fun n hn=>of_decide_eq_true (all_eq_true.1 h.2 n hn)⟩
theorem Abq:As prog Vs (Ab [(3,J1)]) 0 (f98.body.getD .skip):=by
 refine An (a:=body f98 0) (by kernel_rfl) fun d ex d' h=>?_
 unfold J1 at h
 dsimp only at h
 split at h
 ·rename_i ts fs q z l k i m
  obtain ⟨hc,hx⟩:=Ad h
  rw [anE] at hc
  obtain ⟨hc,hz⟩:=hc
  obtain ⟨h0,h1,h2,h3⟩:=of_decide_eq_true hc
  subst h2
  obtain ⟨i,rfl⟩:=eq_ofNat_of_zero_le h0
  simp only [ntN] at h1 hx
  obtain ⟨a,b⟩:=Pf hz
  exact PE ts fs q z h3 l a b (l.length-i) i m (by omega) ex d' hx
 ·cases h
theorem Aek:Af prog 98 (Ent.rd1 Abr).F:=by
 refine Ae (kc func89 Xk (kc func88 Dc (kc func103 Tu KnowsL.nil))).knows (Λ:=(Ab [(3,J1)])) func98 (c:=f98.body.getD .skip) (by kernel_rfl) fun vs bs r hq hv hb=>?_
 unfold Ent.F Abr at hq
 dsimp only at hq
 split at hq
 ·rename_i ts fs l z
  obtain ⟨hc,hx⟩:=Ad hq
  rw [anE,dcE] at hc
  refine ⟨Abq,(Xr ts fs l z).trans (Eq.trans ?_ hx)⟩
  try dsimp only [shr]
  show _=some _
  rw [hc.2,Aa (show (decide ((0:Int)<=0/\0<=l.length/\(l.length:Int)=l.length/\CR z=true)&&true)=true by rw [Bool.and_true]; exact dcT ⟨by omega,by omega,rfl,hc.1⟩)]
  dsimp only [Aj,drop]
  cases HC ts z [] l with
  | false=>rfl
  | true=>
   by_cases q:l.length<=10
   ·rw [dcT q,dcT (by omega)]; rfl
   ·rw [dcF q,dcF (by omega)]; rfl
 ·cases hq
def ltB (nt:List UInt8) (no:Int) (o:Nt):Bool:=!(o.1==nt&&decide (o.2.1>=no))
def ntS (ts:List Tp) (v:List Ty) (b:List Nt) (i:Nat):Bool:=match b[i]? with
 | some n=>decide (0<=atT ts n.1)&&(decide (1<=n.2.1/\n.2.1<=Fm ts n.1)&&(LJ v n.2.2.1&&(b.take i).all (ltB n.1 n.2.1)))
 | none=>true
def Is (ts:List Tp) (v:List Ty) (b:List Nt) (i:Nat):Bool:=((range b.length).drop i).all (ntS ts v b)
def Abp:Gm
 | [.agg [.sl TPd ts,.sl FNd fs],.agg [.i .i64 w,.s p,.sl WCd ws,.sl TCd v,.sl NTd b,.i .i64 t]],[]=>.need (decide (v.length<=4000000000)&&(nmL v&&Hy b)) (.leaf (.b (Is ts v b 0&&decide (b.length<=10)),[]))
 | _,_=>.no
def KX:LoopEnt:=⟨79,[2,3,13,14,15],[3],[4],fun
 | ([.ptr 0 0,.ptr 1 0,.sl NTd l,.i .i64 k,.i .i64 i],[bb,bf])=>(match bb with
  | some (.box [.sl TPd ts,.sl FNd fs])=>(match bf with
   | some (.box [.i .i64 w,.s p,.sl WCd ws,.sl TCd v,.sl NTd b,.i .i64 t])=>.need (decide (0<=i/\i.toNat<=l.length/\k=l.length/\eqT (List Nt) l b)&&(decide (v.length<=4000000000)&&(nmL v&&Hy b))) (.br (Is ts v b i.toNat) (.leaf (.exit 0,([.ptr 0 0],[some (.box [.i .i64 w,.s p,.sl WCd ws,.sl TCd v,.sl NTd b,.i .i64 t])]))) (.leaf (.ret,([.b false],[]))))
   | _=>.no)
  | _=>.no)
 | _=>.no⟩
def KZ:LoopEnt:=⟨79,[2,3,6,13,14,15,55,56,57],[2,3,13,14,15],[4],fun
 | ([.ptr 0 0,.ptr 1 0,.ptr 2 0,.sl NTd l,.i .i64 k0,.i .i64 i0,.sl NTd q,.i .i64 k,.i .i64 i],[bb,bf,bn])=>(match bb with
  | some (.box [.sl TPd ts,.sl FNd fs])=>(match bf with
   | some (.box [.i .i64 w,.s p,.sl WCd ws,.sl TCd v,.sl NTd b,.i .i64 t])=>(match bn with
    | some (.box [.s nt,.i .i64 no,.s by_])=>.need (decide (0<=i/\i.toNat<=q.length/\k=q.length/\q.length<=maxI)) (.br ((q.drop i.toNat).all (ltB nt no)) (.leaf (.exit 2,([.ptr 0 0,.ptr 1 0,.sl NTd l,.i .i64 k0,.i .i64 i0],[some (.box [.sl TPd ts,.sl FNd fs]),some (.box [.i .i64 w,.s p,.sl WCd ws,.sl TCd v,.sl NTd b,.i .i64 t])]))) (.leaf (.ret,([.b false],[]))))
    | _=>.no)
   | _=>.no)
  | _=>.no)
 | _=>.no⟩
abbrev Vr:FuncId->Option Ent:=Ab [(38,.rd1 Y1),(78,.rd1 A4),(99,.rd1 Abn)]
theorem MH (ts:List Tp) (fs:List Fa) (w:Int) (p:List UInt8) (ws:List Wt) (v:List Ty) (b:List Nt) (t:Int) (l:List Nt) (k i:Int):Av prog Vr (Ab [(2,KX),(11,KZ)]) 0 (body f84 0) KX ([.ptr 0 0,.ptr 1 0,.sl NTd l,.j k,.j i],[some (.box [.sl TPd ts,.sl FNd fs]),some (.box [.j w,.s p,.sl WCd ws,.sl TCd v,.sl NTd b,.j t])]) =
 ((ifB (decide (i<k)) (ifT (decide ((0:Int)<=i)&&decide (i<(↑l.length:Int))) (Ak l[i.toNat]? fun z=>ifB (decide (atT ts z.fst<(0:Int))) (some (Ex.ret,
 [V.b false],[])) (ifT (decide ((0:Int)<=atT ts z.fst)&&decide (atT ts z.fst<(↑ts.length:Int))) (Ak ts[(atT ts z.fst).toNat]? fun z_1=>ifB (!decide ((1 :
 Int)<=z.snd.fst/\z.snd.fst<=z_1.snd.snd.fst)) (some (Ex.ret,[V.b false],[])) (ifT (decide (v.length<=4000000000)&&nmL v) (ifB (!LJ v z.snd.snd.fst)
 (some (Ex.ret,[V.b false],[])) (ifB (!U1 v z.snd.snd.fst) (some (Ex.ret,[V.b false],[])) (ifT (decide ((0:Int)<=i)&&decide (i<=(↑b.length:Int))) (ifT
 (decide ((0:Int)<=(0:Int)/\0<=(take (i.toNat-0) (drop 0 b)).length/\(↑(take (i.toNat-0) (drop 0
 b)).length:Int)=(↑(take (i.toNat-0) (drop 0 b)).length:Int)/\(take (i.toNat-0) (drop 0 b)).length<=maxI))
 (ifB ((drop 0 (take (i.toNat-0) (drop 0 b))).all (ltB z.fst z.snd.fst)) (some (Ex.normal,[V.ptr 0 0,V.ptr 1 0,V.sl NTd l,V.i
 .i64 k,V.j (i64.wrap (i+(1:Int)))],[some (Blk.box [V.sl TPd ts,V.sl FNd fs]),some (Blk.box [V.j w,V.s p,V.sl WCd ws,V.sl TCd v,V.sl NTd b,
 V.j t])])) (some (Ex.ret,[V.b false],[])))))))))))) (some (Ex.exit 0,[V.ptr 0 0],[some (Blk.box [V.j w,V.s p,V.sl WCd ws,V.sl TCd v,V.sl NTd b,V.i .i64
 t])]))):_):=by kernel_rfl
theorem MJ (ts:List Tp) (fs:List Fa) (w:Int) (p:List UInt8) (ws:List Wt) (v:List Ty) (b:List Nt) (t:Int) (l:List Nt) (k0 i0:Int) (q:List Nt) (nt:List UInt8) (no:Int) (by_:List UInt8) (k i:Int):Av prog Vr (Ab [(2,KX),(11,KZ)]) 0 (body f84 1) KZ ([.ptr 0 0,.ptr 1 0,.ptr 2 0,.sl NTd l,.j k0,.j i0,.sl NTd q,.j k,.j i],[some (.box [.sl TPd ts,.sl FNd fs]),some (.box [.j w,.s p,.sl WCd ws,.sl TCd v,.sl NTd b,.j t]),some (.box [.s nt,.j no,.s by_])]) =
 ((ifB (decide (i<k)) (ifT (decide ((0:Int)<=i)&&decide (i<(↑q.length:Int))) (Ak q[i.toNat]? fun z=>ifB (z.fst==nt) (ifB (decide (z.snd.fst>=no)) (some
 (Ex.ret,[V.b false],[])) (some (Ex.normal,[V.ptr 0 0,V.ptr 1 0,V.ptr 2 0,V.sl NTd l,V.j k0,V.j i0,V.sl NTd q,V.j k,V.j (i64.wrap (i
 + (1:Int)))],[some (Blk.box [V.sl TPd ts,V.sl FNd fs]),some (Blk.box [V.j w,V.s p,V.sl WCd ws,V.sl TCd v,V.sl NTd b,V.j t]),some (Blk.box [V.s nt,
 V.j no,V.s by_])]))) (some (Ex.normal,[V.ptr 0 0,V.ptr 1 0,V.ptr 2 0,V.sl NTd l,V.j k0,V.j i0,V.sl NTd q,V.j k,V.j (i64.wrap (i
 + (1:Int)))],[some (Blk.box [V.sl TPd ts,V.sl FNd fs]),some (Blk.box [V.j w,V.s p,V.sl WCd ws,V.sl TCd v,V.sl NTd b,V.j t]),some (Blk.box [V.s nt,
 V.j no,V.s by_])])))) (some (Ex.exit 2,[V.ptr 0 0,V.ptr 1 0,V.sl NTd l,V.j k0,V.j i0],[some (Blk.box [V.sl TPd ts,V.sl FNd fs]),some (Blk.box [V.i
 .i64 w,V.s p,V.sl WCd ws,V.sl TCd v,V.sl NTd b,V.j t])]))):_):=by kernel_rfl
theorem Xq (ts:List Tp) (fs:List Fa) (w:Int) (p:List UInt8) (ws:List Wt) (v:List Ty) (b:List Nt) (t:Int):Aw prog Vr (Ab [(2,KX),(11,KZ)]) f84 [.agg [.sl TPd ts,.sl FNd fs],.agg [.j w,.s p,.sl WCd ws,.sl TCd v,.sl NTd b,.j t]] [] =
 ((ifT (decide ((0:Int)<=(0:Int)/\0<=b.length/\(↑b.length:Int)=(↑b.length:Int)/\eqT (List Nt) b b)&&(decide (v.length<=4000000000)&&(nmL v
 && Hy b))) (ifB (Is ts v b 0) (some (V.b (decide ((↑b.length:Int)<=(10:Int))),[])) (some (V.b false,[])))):_):=by kernel_rfl
theorem U3 (ts:List Tp) (fs:List Fa) (w:Int) (p:List UInt8) (ws:List Wt) (v:List Ty) (l:List Nt) (t:Int) (hv:decide (v.length<=4000000000)=true) (hn:nmL v=true) (hl:l.length<=4000000000) (i:Nat) (h1:i<=l.length) (ex:Ex) (d':Dt)
  (hx:(Br.br (Is ts v l i) (.leaf (.exit 0,([.ptr 0 0],[some (.box [.j w,.s p,.sl WCd ws,.sl TCd v,.sl NTd l,.j t])]))) (.leaf (.ret,([.b false],[]))):Br (Ex×Dt)).run=some (ex,d')):Runs prog Vr (Ab [(2,KX),(11,KZ)]) 0 (body f84 0) KX ([.ptr 0 0,.ptr 1 0,.sl NTd l,.j (l.length:Int),.j (i:Int)],[some (.box [.sl TPd ts,.sl FNd fs]),some (.box [.j w,.s p,.sl WCd ws,.sl TCd v,.sl NTd l,.j t])]) ex d':=by
 have hM:maxI=9223372036854775807:=rfl
 refine B5 (l:=range l.length) (ntS ts v l) (fun i=>([.ptr 0 0,.ptr 1 0,.sl NTd l,.j (l.length:Int),.j (i:Int)],[some (.box [.sl TPd ts,.sl FNd fs]),some (.box [.j w,.s p,.sl WCd ws,.sl TCd v,.sl NTd l,.j t])])) (ex:=(.exit 0,([.ptr 0 0],[some (.box [.j w,.s p,.sl WCd ws,.sl TCd v,.sl NTd l,.j t])]))) (rt:=(.ret,([.b false],[]))) (by simp) (by simp) (fun n hn'=>?_) ?_ (l.length-i) i (by simp; omega) ex d' hx
 ·have hlt:n<l.length:=by simpa using hn'
  have hr:=MH ts fs w p ws v l t l l.length n
  try dsimp only [shr] at hr
  rw [Ag (dcT (by omega)),Aa (by simp only [anE,dcE]; omega),ntN,gtE hlt,Am,Ap (n:=n) (by omega),hv,hn] at hr
  refine hr.trans ?_
  clear hr
  rw [List.getElem_range]
  have e:ntS ts v l n=(decide (0<=atT ts l[n].1)&&(decide (1<=l[n].2.1/\l[n].2.1<=Fm ts l[n].1)&&(LJ v l[n].2.2.1&&(l.take n).all (ltB l[n].1 l[n].2.1)))):=by
   unfold ntS
   rw [gtE hlt]
  rw [e]
  rcases S8 ts l[n].1 with h1 | ⟨h1,h2,h3⟩
  ·rw [Ag (dcT h1),dcF (by omega)]
   rfl
  ·have ec:Fm ts l[n].1=ts[(atT ts l[n].1).toNat].2.2.1:=by unfold Fm; rw [gtE h2]
   rw [Ac (dcF (by omega)),Aa (by simp only [anE,dcE]; exact ⟨h1,h3⟩),gtE h2,Am,<-ec,dcT h1,Bool.true_and,Nat.sub_zero,drop_zero,drop_zero]
   have hk:LJ v l[n].2.2.1=true->U1 v l[n].2.2.1=true:=fun h=>by unfold LJ at h; exact ((anE _ _).mp h).1
   generalize decide (1<=l[n].2.1/\l[n].2.1<=Fm ts l[n].1)=c1
   cases c1 with
   | false=>rfl
   | true=>
    cases hq:LJ v l[n].2.2.1 with
    | false=>rfl
    | true=>
     have ht:(l.take n).length<=maxI:=by simp; omega
     rw [hk hq,Aa (show (decide (0<=(n:Int))&&decide ((n:Int)<=(l.length:Int)))=true by simp only [anE,dcE]; omega),Aa (dcT ⟨by omega,by omega,rfl,ht⟩)]
     cases (l.take n).all (ltB l[n].1 l[n].2.1)<;>rfl
 ·have hr:=MH ts fs w p ws v l t l l.length l.length
  try dsimp only [shr] at hr
  rw [Ac (dcF (by omega))] at hr
  simp only [List.length_range]
  exact hr
theorem U2 (ts:List Tp) (fs:List Fa) (w:Int) (p:List UInt8) (ws:List Wt) (v:List Ty) (b:List Nt) (t:Int) (l:List Nt) (k0 i0:Int) (q:List Nt) (nt:List UInt8) (no:Int) (by_:List UInt8) (h3:q.length<=maxI) (i:Nat) (h1:i<=q.length) (ex:Ex) (d':Dt)
  (hx:(Br.br ((q.drop i).all (ltB nt no)) (.leaf (.exit 2,([.ptr 0 0,.ptr 1 0,.sl NTd l,.j k0,.j i0],[some (.box [.sl TPd ts,.sl FNd fs]),some (.box [.j w,.s p,.sl WCd ws,.sl TCd v,.sl NTd b,.j t])]))) (.leaf (.ret,([.b false],[]))):Br (Ex×Dt)).run=some (ex,d')):Runs prog Vr (Ab [(2,KX),(11,KZ)]) 0 (body f84 1) KZ ([.ptr 0 0,.ptr 1 0,.ptr 2 0,.sl NTd l,.j k0,.j i0,.sl NTd q,.j (q.length:Int),.j (i:Int)],[some (.box [.sl TPd ts,.sl FNd fs]),some (.box [.j w,.s p,.sl WCd ws,.sl TCd v,.sl NTd b,.j t]),some (.box [.s nt,.j no,.s by_])]) ex d':=by
 have hM:maxI=9223372036854775807:=rfl
 refine B5 (l:=q) (ltB nt no) (fun i=>([.ptr 0 0,.ptr 1 0,.ptr 2 0,.sl NTd l,.j k0,.j i0,.sl NTd q,.j (q.length:Int),.j (i:Int)],[some (.box [.sl TPd ts,.sl FNd fs]),some (.box [.j w,.s p,.sl WCd ws,.sl TCd v,.sl NTd b,.j t]),some (.box [.s nt,.j no,.s by_])])) (ex:=(.exit 2,([.ptr 0 0,.ptr 1 0,.sl NTd l,.j k0,.j i0],[some (.box [.sl TPd ts,.sl FNd fs]),some (.box [.j w,.s p,.sl WCd ws,.sl TCd v,.sl NTd b,.j t])]))) (rt:=(.ret,([.b false],[]))) (by simp) (by simp) (fun n hlt=>?_) ?_ (q.length-i) i (by omega) ex d' hx
 ·have hr:=MJ ts fs w p ws v b t l k0 i0 q nt no by_ q.length n
  try dsimp only [shr] at hr
  rw [Ag (dcT (by omega)),Aa (by simp only [anE,dcE]; omega),ntN,gtE hlt,Am,Ap (n:=n) (by omega)] at hr
  refine hr.trans ?_
  unfold ltB
  cases q[n].1==nt<;>cases decide (q[n].2.1>=no)<;>rfl
 ·have hr:=MJ ts fs w p ws v b t l k0 i0 q nt no by_ q.length q.length
  try dsimp only [shr] at hr
  rw [Ac (dcF (by omega))] at hr
  exact hr
theorem Abo:As prog Vr (Ab [(2,KX),(11,KZ)]) 0 (f84.body.getD .skip):=by
 refine LoopsI.loops (cs:=[body f84 0,body f84 1]) ?_ (by kernel_rfl)
 refine .cons (ent:=KX) (by rfl) (fun d ex d' h=>?_) (.cons (ent:=KZ) (by rfl) (fun d ex d' h=>?_) .nil)
 ·unfold KX at h
  dsimp only at h
  split at h
  ·rename_i l k i bb bf
   split at h
   ·rename_i ts fs
    split at h
    ·rename_i w p ws v b t
     obtain ⟨hc,hx⟩:=Ad h
     clear h
     rw [anE,anE,anE] at hc
     obtain ⟨hc,hv,hn,hb⟩:=hc
     obtain ⟨h0,h1,h2,h3⟩:=of_decide_eq_true hc
     have h3:l=b:=h3
     subst h3
     subst h2
     obtain ⟨i,rfl⟩:=eq_ofNat_of_zero_le h0
     simp only [ntN] at h1 hx
     exact U3 ts fs w p ws v l t hv hn (Pf hb).1 i h1 ex d' hx
    ·cases h
   ·cases h
  ·cases h
 ·unfold KZ at h
  dsimp only at h
  split at h
  ·rename_i l k0 i0 q k i bb bf bn
   split at h
   ·rename_i ts fs
    split at h
    ·rename_i w p ws v b t
     split at h
     ·rename_i nt no by_
      obtain ⟨hc,hx⟩:=Ad h
      clear h
      obtain ⟨h0,h1,h2,h3⟩:=of_decide_eq_true hc
      subst h2
      obtain ⟨i,rfl⟩:=eq_ofNat_of_zero_le h0
      simp only [ntN] at h1 hx
      exact U2 ts fs w p ws v b t l k0 i0 q nt no by_ h3 i h1 ex d' hx
     ·cases h
    ·cases h
   ·cases h
  ·cases h
theorem Aak:Af prog 84 (Ent.rd1 Abp).F:=by
 refine Ae (kc func38 sat (kc func78 J0 (kc func99 Aef KnowsL.nil))).knows (Λ:=(Ab [(2,KX),(11,KZ)])) func84 (c:=f84.body.getD .skip) (by kernel_rfl) fun vs bs r hq hv hb=>?_
 unfold Ent.F Abp at hq
 dsimp only at hq
 split at hq
 ·rename_i ts fs w p ws v b t
  obtain ⟨hc,hx⟩:=Ad hq
  refine ⟨Abo,(Xq ts fs w p ws v b t).trans (Eq.trans ?_ hx)⟩
  try dsimp only [shr]
  show _=some _
  rw [hc,Aa (show (decide ((0:Int)<=0/\0<=b.length/\(b.length:Int)=b.length/\eqT (List Nt) b b)&&true)=true by rw [Bool.and_true]; exact dcT ⟨by omega,by omega,rfl,rfl⟩)]
  cases Is ts v b 0 with
  | false=>rfl
  | true=>
   by_cases q:b.length<=10
   ·rw [dcT q,dcT (by omega)]; rfl
   ·rw [dcF q,dcF (by omega)]; rfl
 ·cases hq

theorem Yf {l:List (List UInt8)} (h:tpB l=true) : ∀ y∈l,y≠[35]:=by
 rw [V5,anE,all_eq_true] at h
 intro y hy e
 have:=h.1 y hy
 rw [e,ZT] at this
 cases this
theorem SC : ∀ (p t:List (List UInt8)),(∀ y∈t,y≠[35])->tkS EV p t=tkS inL p t
 | [],_,_=>rfl
 | x::p,[],_=>rfl
 | x::p,y::t,h=>by
  have hy:(y==[35])=false:=beq_false_of_ne (h y (by simp))
  have e:EV x y=inL x y:=by unfold EV inL; rw [hy]; simp [Bool.or_comm]
  rw [Hl,Hl]
  dsimp only
  rw [e,SC p t (fun z hz=>h z (by simp [hz]))]
theorem Aad {p t:List (List UInt8)} (h:tpB t=true):tk EV p t=tk inL p t:=by
 unfold tk; rw [SC p t (Yf h)]
theorem Ack {l:List (List UInt8)} (h:tpB l=true):lvB l=true:=by
 unfold tpB at h; exact (anE _ _ ▸ h).1
def DZ (p:List UInt8) (z:Rose Lab) (t:Tp):Bool:=!(tk inL (cut 47 p) (cut 47 t.1)&&!CF z (t2L t.2.1.1 0))
def E9 (ts:List Tp):Bool:=decide (ts.length<=4000000000)&&(ts.all EE&&ts.all tOK)
def PX (ts:List Tp) (w:Int) (p:List UInt8) (ws:List Wt) (v:List Ty) (b:List Nt) (t:Int):Bool:=decide (0<=w/\w<=100)&&(lvB (cut 47 p)&&(DS ws&&(Bd v&&(decide (0<=t/\t<=100000)&&(ts.all (DZ p (t2L v 0))&&(HC ts (t2L v 0) [] b&&decide (b.length<=10)))))))
def GE (ts:List Tp) (p:List UInt8) (v:List Ty) (b:List Nt):Bool:=E9 ts&&(decide (p.length<=4000000000/\v.length<=4000000000)&&(nmL v&&Hy b))
def XA:Gm
 | [.bx [.sl TPd ts,.sl FNd fs] 0,.agg [.i .i64 w,.s p,.sl WCd ws,.sl TCd v,.sl NTd b,.i .i64 t]],[]=>.need (GE ts p v b) (.leaf (.b (PX ts w p ws v b t),[]))
 | _,_=>.no
def fnE:LoopEnt:=⟨67,[0,3,5,40,41,42],[0,3,5],[4],fun
 | ([.bx [.sl TPd ts,.sl FNd fs] 0,.ptr 0 0,.ptr 1 0,.sl TPd l,.i .i64 k,.i .i64 i],[bf,bk,br])=>(match bf with
  | some (.box [.i .i64 w,.s p,.sl WCd ws,.sl TCd v,.sl NTd b,.i .i64 t])=>(match bk with
   | some (.box [.i .i64 x0,.s x1,.i .i64 x2,.b x3,.i .i64 x4,.ref 2 0 n])=>(match br with
    | some (.row false none (.tree LCd) ks)=>.need (decide (n=ks.length)&&(decide (0<=i/\i.toNat<=l.length/\k=l.length/\eqT (List Tp) l ts/\CR (.node (x0,x1,x2,x3,x4,()) ks:Rose Lab)=true/\lvB (cut 47 p)=true/\p.length<=4000000000)&&E9 l)) (.br ((l.drop i.toNat).all (DZ p (.node (x0,x1,x2,x3,x4,()) ks:Rose Lab))) (.leaf (.exit 0,([.bx [.sl TPd ts,.sl FNd fs] 0,.ptr 0 0,.ptr 1 0],[some (.box [.i .i64 w,.s p,.sl WCd ws,.sl TCd v,.sl NTd b,.i .i64 t]),some (.box [.i .i64 (.node (x0,x1,x2,x3,x4,()) ks:Rose Lab).lab.1,.s (.node (x0,x1,x2,x3,x4,()) ks:Rose Lab).lab.2.1,.i .i64 (.node (x0,x1,x2,x3,x4,()) ks:Rose Lab).lab.2.2.1,.b (.node (x0,x1,x2,x3,x4,()) ks:Rose Lab).lab.2.2.2.1,.i .i64 (.node (x0,x1,x2,x3,x4,()) ks:Rose Lab).lab.2.2.2.2.1,.ref 2 0 (.node (x0,x1,x2,x3,x4,()) ks:Rose Lab).kids.length]),some (.row false none (.tree LCd) (.node (x0,x1,x2,x3,x4,()) ks:Rose Lab).kids)]))) (.leaf (.ret,([.b false],[]))))
    | _=>.no)
   | _=>.no)
  | _=>.no)
 | _=>.no⟩
abbrev ZG:FuncId->Option Ent:=Ab [(92,.rd1 JC),(88,.rd1 A4),(93,.rd1 MR),(94,.rd1 Iz),(96,.rd1 EO),(95,.rd1 inG),(97,.rd1 (Q7 1000000)),(98,.rd1 Abr)]
theorem MW (ts:List Tp) (fs:List Fa) (w:Int) (p:List UInt8) (ws:List Wt) (v:List Ty) (b:List Nt) (t:Int) (z:Rose Lab) (l:List Tp) (k i:Int):Av prog ZG (Ab [(5,fnE)]) 0 (body f43 0) fnE ([.bx [.sl TPd ts,.sl FNd fs] 0,.ptr 0 0,.ptr 1 0,.sl TPd l,.j k,.j i],[some (.box [.j w,.s p,.sl WCd ws,.sl TCd v,.sl NTd b,.j t]),some (.box [.j z.lab.1,.s z.lab.2.1,.j z.lab.2.2.1,.b z.lab.2.2.2.1,.j z.lab.2.2.2.2.1,.ref 2 0 z.kids.length]),some (.row false none (.tree LCd) z.kids)]) =
 ((ifB (decide (i<k)) (ifT (decide ((0:Int)<=i)&&decide (i<(↑l.length:Int))) (Ak l[i.toNat]? fun z_1=>ifT (decide (p.length<=4000000000)) (ifB (lvB
 (cut (47:UInt8) p)) (ifT (decide (List.length z_1.fst<=4000000000)) (ifB (lvB (cut (47:UInt8) z_1.fst)) (ifB (tk inL (take (cut (47:UInt8) p).length
 (drop 0 (cut (47:UInt8) p))) (take (cut (47:UInt8) z_1.fst).length (drop 0 (cut (47:UInt8) z_1.fst)))) (ifT (decide (List.length
 z_1.snd.fst.fst<=4000000000)&&nmL z_1.snd.fst.fst) (ifB (Bd z_1.snd.fst.fst) (ifT (decide (Au (Rose.node ((kf z_1.snd.fst.fst 0).fst.lab.fst,
 (kf z_1.snd.fst.fst 0).fst.lab.snd.fst,(kf z_1.snd.fst.fst 0).fst.lab.snd.snd.fst,(kf z_1.snd.fst.fst 0).fst.lab.snd.snd.snd.fst,(kf
 z_1.snd.fst.fst 0).fst.lab.snd.snd.snd.snd.fst,()) (take (kf z_1.snd.fst.fst 0).fst.kids.length (drop 0 (kf z_1.snd.fst.fst (0 :
 Nat)).fst.kids)))=true/\Au (Rose.node (z.lab.fst,z.lab.snd.fst,z.lab.snd.snd.fst,z.lab.snd.snd.snd.fst,z.lab.snd.snd.snd.snd.fst,()) (take z.kids.length
 (drop 0 z.kids)))=true/\Ar (Rose.node (z.lab.fst,z.lab.snd.fst,z.lab.snd.snd.fst,z.lab.snd.snd.snd.fst,z.lab.snd.snd.snd.snd.fst,()) (take
 z.kids.length (drop 0 z.kids)))<=1000000/\Ar (Rose.node (z.lab.fst,z.lab.snd.fst,z.lab.snd.snd.fst,z.lab.snd.snd.snd.fst,
 z.lab.snd.snd.snd.snd.fst,()) (take z.kids.length (drop 0 z.kids)))<=1000000/\Ar (Rose.node ((kf z_1.snd.fst.fst 0).fst.lab.fst,
 (kf z_1.snd.fst.fst 0).fst.lab.snd.fst,(kf z_1.snd.fst.fst 0).fst.lab.snd.snd.fst,(kf z_1.snd.fst.fst 0).fst.lab.snd.snd.snd.fst,(kf
 z_1.snd.fst.fst 0).fst.lab.snd.snd.snd.snd.fst,()) (take (kf z_1.snd.fst.fst 0).fst.kids.length (drop 0 (kf z_1.snd.fst.fst (0 :
 Nat)).fst.kids)))<=1000000)) (ifB (!CF (Rose.node (z.lab.fst,z.lab.snd.fst,z.lab.snd.snd.fst,z.lab.snd.snd.snd.fst,z.lab.snd.snd.snd.snd.fst,())
 (take z.kids.length (drop 0 z.kids))) (Rose.node ((kf z_1.snd.fst.fst 0).fst.lab.fst,(kf z_1.snd.fst.fst 0).fst.lab.snd.fst,(kf
 z_1.snd.fst.fst 0).fst.lab.snd.snd.fst,(kf z_1.snd.fst.fst 0).fst.lab.snd.snd.snd.fst,(kf z_1.snd.fst.fst 0).fst.lab.snd.snd.snd.snd.fst,())
 (take (kf z_1.snd.fst.fst 0).fst.kids.length (drop 0 (kf z_1.snd.fst.fst 0).fst.kids)))) (some (Ex.ret,[V.b false],[])) (some
 (Ex.normal,[V.bx [V.sl TPd ts,V.sl FNd fs] 0,V.ptr 0 0,V.ptr 1 0,V.sl TPd l,V.j k,V.j (i64.wrap (i+(1:Int)))],[some (Blk.box [V.i
 .i64 w,V.s p,V.sl WCd ws,V.sl TCd v,V.sl NTd b,V.j t]),some (Blk.box [V.j z.lab.fst,V.s z.lab.snd.fst,V.j z.lab.snd.snd.fst,V.b
 z.lab.snd.snd.snd.fst,V.j z.lab.snd.snd.snd.snd.fst,V.ref 2 0 z.kids.length]),some (Blk.row false none LCd.tree z.kids)])))) none)) (some (Ex.normal,[V.bx [V.sl
 TPd ts,V.sl FNd fs] 0,V.ptr 0 0,V.ptr 1 0,V.sl TPd l,V.j k,V.j (i64.wrap (i+(1:Int)))],[some (Blk.box [V.j w,V.s p,V.sl WCd
 ws,V.sl TCd v,V.sl NTd b,V.j t]),some (Blk.box [V.j z.lab.fst,V.s z.lab.snd.fst,V.j z.lab.snd.snd.fst,V.b z.lab.snd.snd.snd.fst,V.i .i64
 z.lab.snd.snd.snd.snd.fst,V.ref 2 0 z.kids.length]),some (Blk.row false none LCd.tree z.kids)]))) (ifB (tk inL (take (cut (47:UInt8) p).length (drop (0 :
 Nat) (cut (47:UInt8) p))) (Aj Cd.str.den)) (ifT (decide (List.length z_1.snd.fst.fst<=4000000000)&&nmL z_1.snd.fst.fst) (ifB (Bd z_1.snd.fst.fst) (ifT
 (decide (Au (Rose.node ((kf z_1.snd.fst.fst 0).fst.lab.fst,(kf z_1.snd.fst.fst 0).fst.lab.snd.fst,(kf z_1.snd.fst.fst (0 :
 Nat)).fst.lab.snd.snd.fst,(kf z_1.snd.fst.fst 0).fst.lab.snd.snd.snd.fst,(kf z_1.snd.fst.fst 0).fst.lab.snd.snd.snd.snd.fst,()) (take (kf
 z_1.snd.fst.fst 0).fst.kids.length (drop 0 (kf z_1.snd.fst.fst 0).fst.kids)))=true/\Au (Rose.node (z.lab.fst,z.lab.snd.fst,
 z.lab.snd.snd.fst,z.lab.snd.snd.snd.fst,z.lab.snd.snd.snd.snd.fst,()) (take z.kids.length (drop 0 z.kids)))=true/\Ar (Rose.node (z.lab.fst,
 z.lab.snd.fst,z.lab.snd.snd.fst,z.lab.snd.snd.snd.fst,z.lab.snd.snd.snd.snd.fst,()) (take z.kids.length (drop 0 z.kids)))<=1000000/\Ar
 (Rose.node (z.lab.fst,z.lab.snd.fst,z.lab.snd.snd.fst,z.lab.snd.snd.snd.fst,z.lab.snd.snd.snd.snd.fst,()) (take z.kids.length (drop 0 z.kids)))<=
 1000000/\Ar (Rose.node ((kf z_1.snd.fst.fst 0).fst.lab.fst,(kf z_1.snd.fst.fst 0).fst.lab.snd.fst,(kf z_1.snd.fst.fst (0 :
 Nat)).fst.lab.snd.snd.fst,(kf z_1.snd.fst.fst 0).fst.lab.snd.snd.snd.fst,(kf z_1.snd.fst.fst 0).fst.lab.snd.snd.snd.snd.fst,()) (take (kf
 z_1.snd.fst.fst 0).fst.kids.length (drop 0 (kf z_1.snd.fst.fst 0).fst.kids)))<=1000000)) (ifB (!CF (Rose.node (z.lab.fst,
 z.lab.snd.fst,z.lab.snd.snd.fst,z.lab.snd.snd.snd.fst,z.lab.snd.snd.snd.snd.fst,()) (take z.kids.length (drop 0 z.kids))) (Rose.node ((kf
 z_1.snd.fst.fst 0).fst.lab.fst,(kf z_1.snd.fst.fst 0).fst.lab.snd.fst,(kf z_1.snd.fst.fst 0).fst.lab.snd.snd.fst,(kf z_1.snd.fst.fst (0 :
 Nat)).fst.lab.snd.snd.snd.fst,(kf z_1.snd.fst.fst 0).fst.lab.snd.snd.snd.snd.fst,()) (take (kf z_1.snd.fst.fst 0).fst.kids.length (drop (0 :
 Nat) (kf z_1.snd.fst.fst 0).fst.kids)))) (some (Ex.ret,[V.b false],[])) (some (Ex.normal,[V.bx [V.sl TPd ts,V.sl FNd fs] 0,V.ptr 0 0,V.ptr 1 0,V.sl
 TPd l,V.j k,V.j (i64.wrap (i+(1:Int)))],[some (Blk.box [V.j w,V.s p,V.sl WCd ws,V.sl TCd v,V.sl NTd b,V.j t]),some (Blk.box [V.i
 .i64 z.lab.fst,V.s z.lab.snd.fst,V.j z.lab.snd.snd.fst,V.b z.lab.snd.snd.snd.fst,V.j z.lab.snd.snd.snd.snd.fst,V.ref 2 0 z.kids.length]),some (Blk.row
 false none LCd.tree z.kids)])))) none)) (some (Ex.normal,[V.bx [V.sl TPd ts,V.sl FNd fs] 0,V.ptr 0 0,V.ptr 1 0,V.sl TPd l,V.j k,V.i .i64
 (i64.wrap (i+(1:Int)))],[some (Blk.box [V.j w,V.s p,V.sl WCd ws,V.sl TCd v,V.sl NTd b,V.j t]),some (Blk.box [V.j z.lab.fst,V.s
 z.lab.snd.fst,V.j z.lab.snd.snd.fst,V.b z.lab.snd.snd.snd.fst,V.j z.lab.snd.snd.snd.snd.fst,V.ref 2 0 z.kids.length]),some (Blk.row false none LCd.tree
 z.kids)]))))) (ifT (decide (List.length z_1.fst<=4000000000)) (ifB (lvB (cut (47:UInt8) z_1.fst)) (ifB (tk inL (Aj Cd.str.den) (take (cut (47:UInt8)
 z_1.fst).length (drop 0 (cut (47:UInt8) z_1.fst)))) (ifT (decide (List.length z_1.snd.fst.fst<=4000000000)&&nmL z_1.snd.fst.fst) (ifB (Bd
 z_1.snd.fst.fst) (ifT (decide (Au (Rose.node ((kf z_1.snd.fst.fst 0).fst.lab.fst,(kf z_1.snd.fst.fst 0).fst.lab.snd.fst,(kf z_1.snd.fst.fst (0 :
 Nat)).fst.lab.snd.snd.fst,(kf z_1.snd.fst.fst 0).fst.lab.snd.snd.snd.fst,(kf z_1.snd.fst.fst 0).fst.lab.snd.snd.snd.snd.fst,()) (take (kf
 z_1.snd.fst.fst 0).fst.kids.length (drop 0 (kf z_1.snd.fst.fst 0).fst.kids)))=true/\Au (Rose.node (z.lab.fst,z.lab.snd.fst,
 z.lab.snd.snd.fst,z.lab.snd.snd.snd.fst,z.lab.snd.snd.snd.snd.fst,()) (take z.kids.length (drop 0 z.kids)))=true/\Ar (Rose.node (z.lab.fst,
 z.lab.snd.fst,z.lab.snd.snd.fst,z.lab.snd.snd.snd.fst,z.lab.snd.snd.snd.snd.fst,()) (take z.kids.length (drop 0 z.kids)))<=1000000/\Ar
 (Rose.node (z.lab.fst,z.lab.snd.fst,z.lab.snd.snd.fst,z.lab.snd.snd.snd.fst,z.lab.snd.snd.snd.snd.fst,()) (take z.kids.length (drop 0 z.kids)))<=
 1000000/\Ar (Rose.node ((kf z_1.snd.fst.fst 0).fst.lab.fst,(kf z_1.snd.fst.fst 0).fst.lab.snd.fst,(kf z_1.snd.fst.fst (0 :
 Nat)).fst.lab.snd.snd.fst,(kf z_1.snd.fst.fst 0).fst.lab.snd.snd.snd.fst,(kf z_1.snd.fst.fst 0).fst.lab.snd.snd.snd.snd.fst,()) (take (kf
 z_1.snd.fst.fst 0).fst.kids.length (drop 0 (kf z_1.snd.fst.fst 0).fst.kids)))<=1000000)) (ifB (!CF (Rose.node (z.lab.fst,
 z.lab.snd.fst,z.lab.snd.snd.fst,z.lab.snd.snd.snd.fst,z.lab.snd.snd.snd.snd.fst,()) (take z.kids.length (drop 0 z.kids))) (Rose.node ((kf
 z_1.snd.fst.fst 0).fst.lab.fst,(kf z_1.snd.fst.fst 0).fst.lab.snd.fst,(kf z_1.snd.fst.fst 0).fst.lab.snd.snd.fst,(kf z_1.snd.fst.fst (0 :
 Nat)).fst.lab.snd.snd.snd.fst,(kf z_1.snd.fst.fst 0).fst.lab.snd.snd.snd.snd.fst,()) (take (kf z_1.snd.fst.fst 0).fst.kids.length (drop (0 :
 Nat) (kf z_1.snd.fst.fst 0).fst.kids)))) (some (Ex.ret,[V.b false],[])) (some (Ex.normal,[V.bx [V.sl TPd ts,V.sl FNd fs] 0,V.ptr 0 0,V.ptr 1 0,V.sl
 TPd l,V.j k,V.j (i64.wrap (i+(1:Int)))],[some (Blk.box [V.j w,V.s p,V.sl WCd ws,V.sl TCd v,V.sl NTd b,V.j t]),some (Blk.box [V.i
 .i64 z.lab.fst,V.s z.lab.snd.fst,V.j z.lab.snd.snd.fst,V.b z.lab.snd.snd.snd.fst,V.j z.lab.snd.snd.snd.snd.fst,V.ref 2 0 z.kids.length]),some (Blk.row
 false none LCd.tree z.kids)])))) none)) (some (Ex.normal,[V.bx [V.sl TPd ts,V.sl FNd fs] 0,V.ptr 0 0,V.ptr 1 0,V.sl TPd l,V.j k,V.i .i64
 (i64.wrap (i+(1:Int)))],[some (Blk.box [V.j w,V.s p,V.sl WCd ws,V.sl TCd v,V.sl NTd b,V.j t]),some (Blk.box [V.j z.lab.fst,V.s
 z.lab.snd.fst,V.j z.lab.snd.snd.fst,V.b z.lab.snd.snd.snd.fst,V.j z.lab.snd.snd.snd.snd.fst,V.ref 2 0 z.kids.length]),some (Blk.row false none LCd.tree
 z.kids)]))) (ifT (decide (List.length z_1.snd.fst.fst<=4000000000)&&nmL z_1.snd.fst.fst) (ifB (Bd z_1.snd.fst.fst) (ifT (decide (Au (Rose.node ((kf
 z_1.snd.fst.fst 0).fst.lab.fst,(kf z_1.snd.fst.fst 0).fst.lab.snd.fst,(kf z_1.snd.fst.fst 0).fst.lab.snd.snd.fst,(kf z_1.snd.fst.fst (0 :
 Nat)).fst.lab.snd.snd.snd.fst,(kf z_1.snd.fst.fst 0).fst.lab.snd.snd.snd.snd.fst,()) (take (kf z_1.snd.fst.fst 0).fst.kids.length (drop (0 :
 Nat) (kf z_1.snd.fst.fst 0).fst.kids)))=true/\Au (Rose.node (z.lab.fst,z.lab.snd.fst,z.lab.snd.snd.fst,z.lab.snd.snd.snd.fst,z.lab.snd.snd.snd.snd.fst,
 ()) (take z.kids.length (drop 0 z.kids)))=true/\Ar (Rose.node (z.lab.fst,z.lab.snd.fst,z.lab.snd.snd.fst,z.lab.snd.snd.snd.fst,
 z.lab.snd.snd.snd.snd.fst,()) (take z.kids.length (drop 0 z.kids)))<=1000000/\Ar (Rose.node (z.lab.fst,z.lab.snd.fst,z.lab.snd.snd.fst,
 z.lab.snd.snd.snd.fst,z.lab.snd.snd.snd.snd.fst,()) (take z.kids.length (drop 0 z.kids)))<=1000000/\Ar (Rose.node ((kf z_1.snd.fst.fst (0
 : Nat)).fst.lab.fst,(kf z_1.snd.fst.fst 0).fst.lab.snd.fst,(kf z_1.snd.fst.fst 0).fst.lab.snd.snd.fst,(kf z_1.snd.fst.fst (0 :
 Nat)).fst.lab.snd.snd.snd.fst,(kf z_1.snd.fst.fst 0).fst.lab.snd.snd.snd.snd.fst,()) (take (kf z_1.snd.fst.fst 0).fst.kids.length (drop (0 :
 Nat) (kf z_1.snd.fst.fst 0).fst.kids)))<=1000000)) (ifB (!CF (Rose.node (z.lab.fst,z.lab.snd.fst,z.lab.snd.snd.fst,z.lab.snd.snd.snd.fst,
 z.lab.snd.snd.snd.snd.fst,()) (take z.kids.length (drop 0 z.kids))) (Rose.node ((kf z_1.snd.fst.fst 0).fst.lab.fst,(kf z_1.snd.fst.fst (0 :
 Nat)).fst.lab.snd.fst,(kf z_1.snd.fst.fst 0).fst.lab.snd.snd.fst,(kf z_1.snd.fst.fst 0).fst.lab.snd.snd.snd.fst,(kf z_1.snd.fst.fst (0 :
 Nat)).fst.lab.snd.snd.snd.snd.fst,()) (take (kf z_1.snd.fst.fst 0).fst.kids.length (drop 0 (kf z_1.snd.fst.fst 0).fst.kids)))) (some
 (Ex.ret,[V.b false],[])) (some (Ex.normal,[V.bx [V.sl TPd ts,V.sl FNd fs] 0,V.ptr 0 0,V.ptr 1 0,V.sl TPd l,V.j k,V.j (i64.wrap (i+(1
 : Int)))],[some (Blk.box [V.j w,V.s p,V.sl WCd ws,V.sl TCd v,V.sl NTd b,V.j t]),some (Blk.box [V.j z.lab.fst,V.s z.lab.snd.fst,V.i .i64
 z.lab.snd.snd.fst,V.b z.lab.snd.snd.snd.fst,V.j z.lab.snd.snd.snd.snd.fst,V.ref 2 0 z.kids.length]),some (Blk.row false none LCd.tree z.kids)])))) none)))))))
 (some (Ex.exit 0,[V.bx [V.sl TPd ts,V.sl FNd fs] 0,V.ptr 0 0,V.ptr 1 0],[some (Blk.box [V.j w,V.s p,V.sl WCd ws,V.sl TCd v,V.sl NTd b,V.j t]),
 some (Blk.box [V.j z.lab.fst,V.s z.lab.snd.fst,V.j z.lab.snd.snd.fst,V.b z.lab.snd.snd.snd.fst,V.j z.lab.snd.snd.snd.snd.fst,V.ref 2 0
 z.kids.length]),some (Blk.row false none LCd.tree z.kids)]))):_):=by kernel_rfl
theorem Zq (ts:List Tp) (fs:List Fa) (w:Int) (p:List UInt8) (ws:List Wt) (v:List Ty) (b:List Nt) (t:Int):Aw prog ZG (Ab [(5,fnE)]) f43 [.bx [.sl TPd ts,.sl FNd fs] 0,.agg [.j w,.s p,.sl WCd ws,.sl TCd v,.sl NTd b,.j t]] [] =
 ((ifT (decide (v.length<=4000000000)&&nmL v) (ifB (Bd v) (ifB (!decide ((0:Int)<=w/\w<=(100:Int))) (some (V.b false,[])) (ifT (decide (p.length<=
 4000000000)) (ifB (!lvB (cut (47:UInt8) p)) (some (V.b false,[])) (ifB (!DS ws) (some (V.b false,[])) (ifB (!decide ((0:Int)<=t/\t<=(100000:Int)))
 (some (V.b false,[])) (ifT (decide ((kf v 0).fst.kids.length=(kf v 0).fst.kids.length)&&(decide ((0:Int)<=(0:Int)/\0<=ts.length/\
 (↑ts.length:Int)=(↑ts.length:Int)/\eqT (List Tp) ts ts/\CR (Rose.node ((kf v 0).fst.lab.fst,(kf v 0).fst.lab.snd.fst,(kf v (0 :
 Nat)).fst.lab.snd.snd.fst,(kf v 0).fst.lab.snd.snd.snd.fst,(kf v 0).fst.lab.snd.snd.snd.snd.fst,()) (kf v 0).fst.kids)=true/\lvB (cut (47 :
 UInt8) p)=true/\p.length<=4000000000)&&E9 ts)) (ifB ((drop 0 ts).all (DZ p (Rose.node ((kf v 0).fst.lab.fst,(kf v (0 :
 Nat)).fst.lab.snd.fst,(kf v 0).fst.lab.snd.snd.fst,(kf v 0).fst.lab.snd.snd.snd.fst,(kf v 0).fst.lab.snd.snd.snd.snd.fst,()) (kf v (0 :
 Nat)).fst.kids))) (ifT (decide (CR (Rose.node ((Rose.node ((kf v 0).fst.lab.fst,(kf v 0).fst.lab.snd.fst,(kf v 0).fst.lab.snd.snd.fst,(kf v
 0).fst.lab.snd.snd.snd.fst,(kf v 0).fst.lab.snd.snd.snd.snd.fst,()) (kf v 0).fst.kids).lab.fst,(Rose.node ((kf v 0).fst.lab.fst,(kf v
 0).fst.lab.snd.fst,(kf v 0).fst.lab.snd.snd.fst,(kf v 0).fst.lab.snd.snd.snd.fst,(kf v 0).fst.lab.snd.snd.snd.snd.fst,()) (kf v (0 :
 Nat)).fst.kids).lab.snd.fst,(Rose.node ((kf v 0).fst.lab.fst,(kf v 0).fst.lab.snd.fst,(kf v 0).fst.lab.snd.snd.fst,(kf v (0 :
 Nat)).fst.lab.snd.snd.snd.fst,(kf v 0).fst.lab.snd.snd.snd.snd.fst,()) (kf v 0).fst.kids).lab.snd.snd.fst,(Rose.node ((kf v 0).fst.lab.fst,(kf
 v 0).fst.lab.snd.fst,(kf v 0).fst.lab.snd.snd.fst,(kf v 0).fst.lab.snd.snd.snd.fst,(kf v 0).fst.lab.snd.snd.snd.snd.fst,()) (kf v (0 :
 Nat)).fst.kids).lab.snd.snd.snd.fst,(Rose.node ((kf v 0).fst.lab.fst,(kf v 0).fst.lab.snd.fst,(kf v 0).fst.lab.snd.snd.fst,(kf v (0 :
 Nat)).fst.lab.snd.snd.snd.fst,(kf v 0).fst.lab.snd.snd.snd.snd.fst,()) (kf v 0).fst.kids).lab.snd.snd.snd.snd.fst,()) (take (Rose.node ((kf v (0 :
 Nat)).fst.lab.fst,(kf v 0).fst.lab.snd.fst,(kf v 0).fst.lab.snd.snd.fst,(kf v 0).fst.lab.snd.snd.snd.fst,(kf v (0 :
 Nat)).fst.lab.snd.snd.snd.snd.fst,()) (kf v 0).fst.kids).kids.length (drop 0 (Rose.node ((kf v 0).fst.lab.fst,(kf v (0 :
 Nat)).fst.lab.snd.fst,(kf v 0).fst.lab.snd.snd.fst,(kf v 0).fst.lab.snd.snd.snd.fst,(kf v 0).fst.lab.snd.snd.snd.snd.fst,()) (kf v (0 :
 Nat)).fst.kids).kids)))=true)&&Hy b) (some (V.b (HC ts (Rose.node ((Rose.node ((kf v 0).fst.lab.fst,(kf v 0).fst.lab.snd.fst,(kf v (0 :
 Nat)).fst.lab.snd.snd.fst,(kf v 0).fst.lab.snd.snd.snd.fst,(kf v 0).fst.lab.snd.snd.snd.snd.fst,()) (kf v 0).fst.kids).lab.fst,(Rose.node ((kf
 v 0).fst.lab.fst,(kf v 0).fst.lab.snd.fst,(kf v 0).fst.lab.snd.snd.fst,(kf v 0).fst.lab.snd.snd.snd.fst,(kf v (0 :
 Nat)).fst.lab.snd.snd.snd.snd.fst,()) (kf v 0).fst.kids).lab.snd.fst,(Rose.node ((kf v 0).fst.lab.fst,(kf v 0).fst.lab.snd.fst,(kf v (0 :
 Nat)).fst.lab.snd.snd.fst,(kf v 0).fst.lab.snd.snd.snd.fst,(kf v 0).fst.lab.snd.snd.snd.snd.fst,()) (kf v 0).fst.kids).lab.snd.snd.fst,
 (Rose.node ((kf v 0).fst.lab.fst,(kf v 0).fst.lab.snd.fst,(kf v 0).fst.lab.snd.snd.fst,(kf v 0).fst.lab.snd.snd.snd.fst,(kf v (0 :
 Nat)).fst.lab.snd.snd.snd.snd.fst,()) (kf v 0).fst.kids).lab.snd.snd.snd.fst,(Rose.node ((kf v 0).fst.lab.fst,(kf v 0).fst.lab.snd.fst,(kf v
 0).fst.lab.snd.snd.fst,(kf v 0).fst.lab.snd.snd.snd.fst,(kf v 0).fst.lab.snd.snd.snd.snd.fst,()) (kf v (0 :
 Nat)).fst.kids).lab.snd.snd.snd.snd.fst,()) (take (Rose.node ((kf v 0).fst.lab.fst,(kf v 0).fst.lab.snd.fst,(kf v 0).fst.lab.snd.snd.fst,
 (kf v 0).fst.lab.snd.snd.snd.fst,(kf v 0).fst.lab.snd.snd.snd.snd.fst,()) (kf v 0).fst.kids).kids.length (drop 0 (Rose.node ((kf v
 0).fst.lab.fst,(kf v 0).fst.lab.snd.fst,(kf v 0).fst.lab.snd.snd.fst,(kf v 0).fst.lab.snd.snd.snd.fst,(kf v (0 :
 Nat)).fst.lab.snd.snd.snd.snd.fst,()) (kf v 0).fst.kids).kids))) (Aj (List UInt8×Int)) b&&decide (b.length<=10)),[]))) (some (V.b false,
 []))))))))) (ifB (!decide ((0:Int)<=w/\w<=(100:Int))) (some (V.b false,[])) (ifT (decide (p.length<=4000000000)) (ifB (!lvB (cut (47:UInt8) p)) (some
 (V.b false,[])) (ifB (!DS ws) (some (V.b false,[])) (some (V.b false,[])))))))):_):=by kernel_rfl
theorem SB {ts:List Tp} (h:E9 ts=true):ts.length<=4000000000/\ts.all EE=true/\(∀ t∈ts,(t.1.length<=4000000000/\t.2.1.1.length<=4000000000/\nmL t.2.1.1=true)/\tpB (cut 47 t.1)=true/\Bd t.2.1.1=true/\0<=t.2.2.1/\t.2.2.1<=1000):=by
 unfold E9 at h
 rw [anE,anE,dcE] at h
 obtain ⟨h1,h2,h3⟩:=h
 refine ⟨h1,h2,fun t ht=>?_⟩
 have a:=all_eq_true.1 h2 t ht
 have b:=all_eq_true.1 h3 t ht
 unfold EE at a
 unfold tOK at b
 simp only [anE,dcE] at a b
 exact ⟨⟨a.1,a.2.1,a.2.2⟩,b.1,b.2.1,b.2.2⟩
theorem Zr (l:List Tp) (fs:List Fa) (w:Int) (p:List UInt8) (ws:List Wt) (v:List Ty) (b:List Nt) (t:Int) (z:Rose Lab) (hz:CR z=true) (hlv:lvB (cut 47 p)=true) (hp:p.length<=4000000000) (ht:E9 l=true) (i:Nat) (h1:i<=l.length) (ex:Ex) (d':Dt)
  (hx:(Br.br ((l.drop i).all (DZ p z)) (.leaf ((.exit 0:Ex),([.bx [.sl TPd l,.sl FNd fs] 0,.ptr 0 0,.ptr 1 0],[some (.box [.j w,.s p,.sl WCd ws,.sl TCd v,.sl NTd b,.j t]),some (.box [.j z.lab.1,.s z.lab.2.1,.j z.lab.2.2.1,.b z.lab.2.2.2.1,.j z.lab.2.2.2.2.1,.ref 2 0 z.kids.length]),some (.row false none (.tree LCd) z.kids)]))) (.leaf ((.ret:Ex),([.b false],[]))):Br (Ex×Dt)).run=some (ex,d')):Runs prog ZG (Ab [(5,fnE)]) 0 (body f43 0) fnE ([.bx [.sl TPd l,.sl FNd fs] 0,.ptr 0 0,.ptr 1 0,.sl TPd l,.j (l.length:Int),.j (i:Int)],[some (.box [.j w,.s p,.sl WCd ws,.sl TCd v,.sl NTd b,.j t]),some (.box [.j z.lab.1,.s z.lab.2.1,.j z.lab.2.2.1,.b z.lab.2.2.2.1,.j z.lab.2.2.2.2.1,.ref 2 0 z.kids.length]),some (.row false none (.tree LCd) z.kids)]) ex d':=by
 have hM:maxI=9223372036854775807:=rfl
 obtain ⟨hl,_,hall⟩:=SB ht
 refine B5 (l:=l) (DZ p z) (fun i=>([.bx [.sl TPd l,.sl FNd fs] 0,.ptr 0 0,.ptr 1 0,.sl TPd l,.j (l.length:Int),.j (i:Int)],[some (.box [.j w,.s p,.sl WCd ws,.sl TCd v,.sl NTd b,.j t]),some (.box [.j z.lab.1,.s z.lab.2.1,.j z.lab.2.2.1,.b z.lab.2.2.2.1,.j z.lab.2.2.2.2.1,.ref 2 0 z.kids.length]),some (.row false none (.tree LCd) z.kids)])) (ex:=((.exit 0:Ex),([.bx [.sl TPd l,.sl FNd fs] 0,.ptr 0 0,.ptr 1 0],[some (.box [.j w,.s p,.sl WCd ws,.sl TCd v,.sl NTd b,.j t]),some (.box [.j z.lab.1,.s z.lab.2.1,.j z.lab.2.2.1,.b z.lab.2.2.2.1,.j z.lab.2.2.2.2.1,.ref 2 0 z.kids.length]),some (.row false none (.tree LCd) z.kids)]))) (rt:=((.ret:Ex),([.b false],[]))) (by simp) (by simp) (fun n hlt=>?_) ?_ (l.length-i) i (by omega) ex d' hx
 ·have hr:=MW l fs w p ws v b t z l l.length n
  try dsimp only [shr] at hr
  obtain ⟨⟨s1,s2,s3⟩,g1,g2,_⟩:=hall _ (getElem_mem hlt)
  obtain ⟨q1,q2,q3⟩:=Dh hz
  rw [Ag (dcT (by omega)),Aa (by simp only [anE,dcE]; omega),ntN,gtE hlt,Am,Ap (n:=n) (by omega),Aa (dcT hp),hlv,Bc,Aa (dcT s1),Ack g1,Bc] at hr
  refine hr.trans ?_
  clear hr hall hx
  obtain ⟨m1,m2,m3⟩:=Hn g2
  obtain ⟨r1,r2,r3⟩:=Dh m1
  have ek:=(HK l[n].2.1.1).2 g2
  simp only [drop_zero,take_length,BR]
  unfold DZ
  cases h3:tk inL (cut 47 p) (cut 47 l[n].1) with
  | false=>rfl
  | true=>
   rw [Bc,Aa (by simp only [anE,dcE]; exact ⟨s2,s3⟩),g2,Bc,ek,Aa (dcT ⟨r2,q2,by omega,by omega,by omega⟩)]
   cases CF z (t2L l[n].2.1.1 0)<;>rfl
 ·have hr:=MW l fs w p ws v b t z l l.length l.length
  try dsimp only [shr] at hr
  rw [Ac (dcF (by omega))] at hr
  exact hr
theorem Ad1:As prog ZG (Ab [(5,fnE)]) 0 (f43.body.getD .skip):=by
 refine An (a:=body f43 0) (by kernel_rfl) fun d ex d' h=>?_
 unfold fnE at h
 dsimp only at h
 split at h
 ·rename_i ts fs l k i bf bk br
  split at h
  ·rename_i w p ws v b t
   split at h
   ·rename_i x0 x1 x2 x3 x4 n
    split at h
    ·rename_i ks
     obtain ⟨hc,hx⟩:=Ad h
     clear h
     rw [anE,anE,dcE] at hc
     obtain ⟨hn,hc,ht⟩:=hc
     obtain ⟨h0,h1,h2,h3,h4,h5,h6⟩:=of_decide_eq_true hc
     have h3:l=ts:=h3
     subst h3
     subst h2
     subst hn
     obtain ⟨i,rfl⟩:=eq_ofNat_of_zero_le h0
     simp only [ntN] at h1 hx
     exact Zr l fs w p ws v b t (.node (x0,x1,x2,x3,x4,()) ks:Rose Lab) h4 h5 h6 ht i h1 ex d' hx
    ·cases h
   ·cases h
  ·cases h
 ·cases h
theorem Abv:Af prog 43 (Ent.rd1 XA).F:=by
 refine Ae (kc func92 Xc (kc func88 Dc (kc func93 Ads (kc func94 Abs (kc func96 RC (kc func95 tin (kc func97 (Ye 1000000) (kc func98 Aek KnowsL.nil)))))))).knows (Λ:=(Ab [(5,fnE)])) func43 (c:=f43.body.getD .skip) (by kernel_rfl) fun vs bs r hq hv hb=>?_
 unfold Ent.F XA at hq
 dsimp only at hq
 split at hq
 ·rename_i ts fs w p ws v b t
  obtain ⟨hc,hx⟩:=Ad hq
  unfold GE at hc
  simp only [anE,dcE] at hc
  obtain ⟨ht,⟨hp,hv⟩,hn,hb⟩:=hc
  refine ⟨Ad1,(Zq ts fs w p ws v b t).trans (Eq.trans ?_ hx)⟩
  try dsimp only [shr]
  show _=some _
  unfold PX
  simp only [drop_zero,take_length,BR]
  rw [Aa (by simp only [anE,dcE]; exact ⟨hv,hn⟩)]
  generalize hw:decide (0<=w/\w<=100)=c1
  generalize decide (0<=t/\t<=100000)=c2
  cases hk:Bd v with
  | false=>
   rw [AQ]
   cases c1 with
   | false=>rfl
   | true=>
    rw [Bool.not_true,AQ,Aa (dcT hp)]
    cases lvB (cut 47 p) with
    | false=>rfl
    | true=>cases DS ws<;>rfl
  | true=>
   have ek:=(HK v).2 hk
   rw [Bc,ek]
   cases c1 with
   | false=>rfl
   | true=>
    rw [Bool.not_true,AQ,Aa (dcT hp)]
    cases hl:lvB (cut 47 p) with
    | false=>rfl
    | true=>
     cases DS ws with
     | false=>rfl
     | true=>
      cases c2 with
      | false=>rfl
      | true=>
       have g:=(Hn hk).1
       rw [Bool.not_true,AQ,AQ,AQ,Aa (by rw [anE,anE]; exact ⟨dcT (by first | rfl | trivial),dcT (by refine ⟨by omega,by omega,?_,?_,g,?_,hp⟩<;>first | rfl | trivial),ht⟩)]
       cases ts.all (DZ p (t2L v 0)) with
       | false=>rfl
       | true=>
        rw [Bc,Aa (by simp only [anE,dcE]; exact ⟨g,hb⟩)]
        rfl
 ·cases hq
end Go.Proofs.YtcjnmdcagfgjoaaGreatDoor.Den
