/- What functions of the program do, by the machine: Val16 Val17 Val18 Val19 Val20 Val21 Val22 Val23 Dr3 Dr4 Dr5 Dr6 Dr7 Dr8 Dr9 Dw2. -/
import Derived.Test.YteninfkgajnfcaaGreatDB
import Derived.KernelRfl
import Derived.Test.YteninfkgajnfcaaGreatRows
namespace Go.Proofs.YteninfkgajnfcaaGreat.Den
open IntKind (i64)
open Go.Proofs.Tryz
open List (all_eq_true drop drop_eq_getElem_cons drop_eq_nil_of_le drop_zero getElem_mem length_append length_cons length_set mem_range nil_append take take_length)
open Int (eq_ofNat_of_zero_le toNat)
open Nat (le_refl zero_add)
open Option (map_some)
open Bool (or_eq_true)
open Go.Proofs
set_option maxRecDepth 100000
def dfL (l:List Ty):List Nd:=BJ (t2L l 0) 0 (-1) 0
def NB:Gm
 | [.agg [.sl TCd l]],[]=>.need (decide (l.length<=4000000000)&&nmL l) (.br (AC l) (.leaf (.tup [.agg [.ref 0 0 (dfL l).length],.b true],[some (.row false none NCd (dfL l))])) (.leaf (.tup [.agg [.ref 0 0 0],.b false],[some (.row false none NCd [])])))
 | _,_=>.no
mutual
theorem FL : ∀ (z:Rose Lab) (no up:Int) (s:Nat),BJ z no up s=Al (Bn z no) up s
 | .node x ks,no,up,s=>by
  rw [BJ,Bn,Al]
  cases x.1==5 with
  | false=>rw [cond_false,cond_false,AB]
  | true=>rw [cond_true,cond_true,FN ks s (s+1)]
theorem FN : ∀ (ks:List (Rose Lab)) (s p:Nat),Bf ks s p=AB (Hh ks) s p
 | [],s,p=>by rw [Bf,Hh,AB]
 | z::ks,s,p=>by
  rw [Bf,Hh]
  split
  ·rw [AB,FL z,FN ks s]
  ·exact FN ks s p
end
theorem XW (z:Rose Lab) (no:Int):vcR (Bn z no)<=Ao z:=by
 rw [<-Ch (Bn z no) 0 0,<-FL]
 exact GR z no 0 0
theorem Ow (l:List Ty):CR prog (Ab [(46,.rd1 HG),(45,.rd1 CJ),(167,.rd1 XZ),(57,.rd1 ofG)]) (Ab []) f131 [.agg [.sl TCd l]] [] =
 ((ifT (decide (l.length<=4000000000)&&nmL l) (ifB (!AC l) (some (V.tup [V.agg [V.ref 0 0 0],V.b false],[some (Blk.row false none NCd (Ag NCd.den))])) (ifT
 (decide ((0:Int)<=(0:Int)/\0<l.length/\l.length<=4000000000)) (ifT (decide (Ak (take (t2L l 0).kids.length (drop 0
 (t2L l 0).kids))+1<=1000000)) (ifT (decide (vcL (take (Bn (Rose.node ((t2L l 0).lab.fst,(t2L l 0).lab.snd.fst,(t2L l
 0).lab.snd.snd.fst,(t2L l 0).lab.snd.snd.snd.fst,(t2L l 0).lab.snd.snd.snd.snd.fst,()) (take (t2L l 0).kids.length (drop (0 :
 Nat) (t2L l 0).kids))) (0:Int)).kids.length (drop 0 (Bn (Rose.node ((t2L l 0).lab.fst,(t2L l 0).lab.snd.fst,(t2L l (0 :
 Nat)).lab.snd.snd.fst,(t2L l 0).lab.snd.snd.snd.fst,(t2L l 0).lab.snd.snd.snd.snd.fst,()) (take (t2L l 0).kids.length (drop 0
 (t2L l 0).kids))) (0:Int)).kids))+1<=2000000)) (some (V.tup [V.agg [V.ref 0 0 (Al (Rose.node ((Bn (Rose.node ((t2L l 0).lab.fst,
 (t2L l 0).lab.snd.fst,(t2L l 0).lab.snd.snd.fst,(t2L l 0).lab.snd.snd.snd.fst,(t2L l 0).lab.snd.snd.snd.snd.fst,()) (take (t2L l
 0).kids.length (drop 0 (t2L l 0).kids))) (0:Int)).lab.fst,(Bn (Rose.node ((t2L l 0).lab.fst,(t2L l 0).lab.snd.fst,(t2L
 l 0).lab.snd.snd.fst,(t2L l 0).lab.snd.snd.snd.fst,(t2L l 0).lab.snd.snd.snd.snd.fst,()) (take (t2L l 0).kids.length (drop (0
 : Nat) (t2L l 0).kids))) (0:Int)).lab.snd.fst,(Bn (Rose.node ((t2L l 0).lab.fst,(t2L l 0).lab.snd.fst,(t2L l 0).lab.snd.snd.fst,
 (t2L l 0).lab.snd.snd.snd.fst,(t2L l 0).lab.snd.snd.snd.snd.fst,()) (take (t2L l 0).kids.length (drop 0 (t2L l (0 :
 Nat)).kids))) (0:Int)).lab.snd.snd.fst,(Bn (Rose.node ((t2L l 0).lab.fst,(t2L l 0).lab.snd.fst,(t2L l 0).lab.snd.snd.fst,(t2L l (0 :
 Nat)).lab.snd.snd.snd.fst,(t2L l 0).lab.snd.snd.snd.snd.fst,()) (take (t2L l 0).kids.length (drop 0 (t2L l 0).kids))) (0 :
 Int)).lab.snd.snd.snd.fst,()) (take (Bn (Rose.node ((t2L l 0).lab.fst,(t2L l 0).lab.snd.fst,(t2L l 0).lab.snd.snd.fst,(t2L l (0 :
 Nat)).lab.snd.snd.snd.fst,(t2L l 0).lab.snd.snd.snd.snd.fst,()) (take (t2L l 0).kids.length (drop 0 (t2L l 0).kids))) (0 :
 Int)).kids.length (drop 0 (Bn (Rose.node ((t2L l 0).lab.fst,(t2L l 0).lab.snd.fst,(t2L l 0).lab.snd.snd.fst,(t2L l (0 :
 Nat)).lab.snd.snd.snd.fst,(t2L l 0).lab.snd.snd.snd.snd.fst,()) (take (t2L l 0).kids.length (drop 0 (t2L l 0).kids))) (0 :
 Int)).kids))) (-1:Int) 0).length],V.b true],[some (Blk.row false none NCd (Al (Rose.node ((Bn (Rose.node ((t2L l 0).lab.fst,(t2L l (0 :
 Nat)).lab.snd.fst,(t2L l 0).lab.snd.snd.fst,(t2L l 0).lab.snd.snd.snd.fst,(t2L l 0).lab.snd.snd.snd.snd.fst,()) (take (t2L l (0 :
 Nat)).kids.length (drop 0 (t2L l 0).kids))) (0:Int)).lab.fst,(Bn (Rose.node ((t2L l 0).lab.fst,(t2L l 0).lab.snd.fst,(t2L l (0
 : Nat)).lab.snd.snd.fst,(t2L l 0).lab.snd.snd.snd.fst,(t2L l 0).lab.snd.snd.snd.snd.fst,()) (take (t2L l 0).kids.length (drop (0 :
 Nat) (t2L l 0).kids))) (0:Int)).lab.snd.fst,(Bn (Rose.node ((t2L l 0).lab.fst,(t2L l 0).lab.snd.fst,(t2L l 0).lab.snd.snd.fst,(t2L
 l 0).lab.snd.snd.snd.fst,(t2L l 0).lab.snd.snd.snd.snd.fst,()) (take (t2L l 0).kids.length (drop 0 (t2L l 0).kids)))
 (0:Int)).lab.snd.snd.fst,(Bn (Rose.node ((t2L l 0).lab.fst,(t2L l 0).lab.snd.fst,(t2L l 0).lab.snd.snd.fst,(t2L l (0 :
 Nat)).lab.snd.snd.snd.fst,(t2L l 0).lab.snd.snd.snd.snd.fst,()) (take (t2L l 0).kids.length (drop 0 (t2L l 0).kids))) (0 :
 Int)).lab.snd.snd.snd.fst,()) (take (Bn (Rose.node ((t2L l 0).lab.fst,(t2L l 0).lab.snd.fst,(t2L l 0).lab.snd.snd.fst,(t2L l (0 :
 Nat)).lab.snd.snd.snd.fst,(t2L l 0).lab.snd.snd.snd.snd.fst,()) (take (t2L l 0).kids.length (drop 0 (t2L l 0).kids))) (0 :
 Int)).kids.length (drop 0 (Bn (Rose.node ((t2L l 0).lab.fst,(t2L l 0).lab.snd.fst,(t2L l 0).lab.snd.snd.fst,(t2L l (0 :
 Nat)).lab.snd.snd.snd.fst,(t2L l 0).lab.snd.snd.snd.snd.fst,()) (take (t2L l 0).kids.length (drop 0 (t2L l 0).kids))) (0 :
 Int)).kids))) (-1:Int) 0))]))))))):_):=by kernel_rfl
theorem Qc (l:List Ty) (hc:(decide (l.length<=4000000000)&&nmL l)=true):CR prog (Ab [(46,.rd1 HG),(45,.rd1 CJ),(167,.rd1 XZ),(57,.rd1 ofG)]) (Ab []) f131 [.agg [.sl TCd l]] []=(.br (AC l) (.leaf (.tup [.agg [.ref 0 0 (dfL l).length],.b true],[some (.row false none NCd (dfL l))])) (.leaf (.tup [.agg [.ref 0 0 0],.b false],[some (.row false none NCd [])])):Br (V×List (Option Blk))).run:=by
 rw [Ow,hc,Dc]
 unfold dfL
 cases hk:AC l with
 | false=>rfl
 | true=>
  obtain ⟨k1,k2,k3,k4⟩:=G1 hk
  rw [anE,dcE] at hc
  have hck:=Be (t2L l 0)
  have hv:=XW (t2L l 0) 0
  have hvk:=Du (Bn (t2L l 0) 0)
  rw [Bool.not_true,Bd,Aa (dcT ⟨by omega,k1,hc.1⟩),Db,show drop 0 (t2L l 0).kids=(t2L l 0).kids from rfl,take_length,HZ,show drop 0 (Bn (t2L l 0) 0).kids=(Bn (t2L l 0) 0).kids from rfl,take_length,Aa (dcT (by omega)),Aa (dcT (by omega)),FL]
  rfl
theorem YV:Ad prog 131 (Ent.rd1 NB).F:=by
 refine AU (kc func46 Ou (kc func45 GV (kc func167 SI (kc func57 Zy KnowsL.nil)))).knows (Λ:=Ab []) func131 (c:=f131.body.getD .skip) (by kernel_rfl) fun vs bs r hq hv hb=>?_
 unfold Ent.F NB at hq
 dsimp only at hq
 split at hq
 ·rename_i l
  obtain ⟨hc,hx⟩:=Ae hq
  exact ⟨Aq _,(Qc l hc).trans hx⟩
 ·cases hq
def F1 (v:List Nd):Nat->List Nd->Prop
 | _,[]=>True
 | s,x::w=>v[s]? = some x/\F1 v (s+1) w
def Nj (v:List Nd) (s e:Nat):Prop:=∀ j:Nat,s<=j->upN v e≠some (j:Int)
theorem OQ {v:List Nd} : ∀ {a:List Nd} {s:Nat} {b:List Nd},F1 v s (a++b)↔F1 v s a/\F1 v (s+a.length) b
 | [],s,b=>by simp [F1]
 | x::a,s,b=>by
  rw [List.cons_append,F1,F1,OQ,length_cons,and_assoc,show s+1+a.length=s+(a.length+1) by omega]
theorem Nb {v:List Nd} {s e:Nat} (h:Nj v s e):C9 v s e=false:=by
 unfold C9
 exact beq_false_of_ne (h s (le_refl _))
theorem Zo {v:List Nd} {s t e:Nat} (h:Nj v s e) (hs:s<=t):Nj v t e:=fun j hj=>h j (by omega)
theorem FM (s:Nat) : ∀ (ks:List (Rose Lab)) (p:Nat),Bf ks s p=[]\/∃ y∈ks,∃ m rest,Bf ks s p=((0,[],y.lab.2.2.1,(s:Int),m,()):Nd)::rest
 | [],p=>.inl (by rw [Bf])
 | z::ks,p=>by
  rw [Bf]
  split
  ·rw [Is]
   exact .inr ⟨z,by simp,_,_,rfl⟩
  ·rcases FM s ks p with h | ⟨y,h1,h2⟩
   ·exact .inl h
   ·exact .inr ⟨y,by simp [h1],h2⟩
theorem UN {v:List Nd} {s p t:Nat} {ks:List (Rose Lab)} (hl:F1 v p (Bf ks s p)) (he:Nj v s (p+(Bf ks s p).length)) (hst:s<t):Nj v t p:=by
 rcases FM s ks p with h | ⟨y,_,m,rest,h⟩
 ·rw [h] at he; exact Zo he (by omega)
 ·rw [h,F1] at hl
  intro j hj hu
  unfold upN at hu
  rw [hl.1,map_some] at hu
  have:=Option.some.inj hu
  dsimp only at this
  omega
mutual
theorem Kt (v:List Nd) : ∀ (z:Rose Lab),Aj z=true->∀ (no up:Int) (s:Nat),F1 v s (BJ z no up s)->Nj v s (s+(BJ z no up s).length)->vfR v z s=((s+(BJ z no up s).length:Nat):Int)
 | .node x ks,hr,no,up,s,hl,he=>by
  obtain ⟨hp,hrr⟩:=Ck hr
  have hp:B5 x ks=true:=hp
  have hrr:A8 x.1 ks=true:=hrr
  have hk:=CW hp
  rw [BJ,F1] at hl
  have hs:s<v.length:=by
   by_cases h:s<v.length
   ·exact h
   ·rw [List.getElem?_eq_none (by omega)] at hl; cases hl.1
  have hv:v[s]=((0,[],no,up,Aw x.1,()):Nd):=by
   have:=hl.1
   rw [gtE hs] at this
   exact Option.some.inj this
  rw [PO _ hs,hv]
  show (if Aw x.1=false then (if Cw x 0 [] (Aw x.1)=true then (s:Int)+1 else -1)
   else if (!Aw x.1||(0:Int) != 0||([]:List UInt8) != [])=true then -1
   else if x.1=4 then vfI v s (vfH v ks) v.length (s+1) else (if vfP v ks s (s+1)<0 then -1 else if C9 v s (vfP v ks s (s+1)).toNat=true then -1 else vfP v ks s (s+1)))=_
  have hlen:(BJ (.node x ks) no up s).length=(bif x.1==5 then Bf ks s (s+1) else []).length+1:=by rw [BJ,length_cons]
  rw [hlen] at he ⊢
  have leaf:x.1≠5->(bif x.1==5 then Bf ks s (s+1) else []).length=0:=fun h=>by rw [beq_false_of_ne h]; rfl
  rcases hk with h1 | h1 | h1 | ⟨h1,h6⟩ | h1
  ·have h5:=leaf (by omega)
   have hb:Cw x 0 [] false=true:=by unfold Cw; rw [if_neg (by simp),if_neg (by omega),if_neg (by omega)]; rfl
   have hh:Aw x.1=false:=by rw [h1]; rfl
   rw [hh,if_pos rfl,hb,if_pos rfl,h5]; omega
  ·have h5:=leaf (by omega)
   have hb:Cw x 0 [] false=true:=by unfold Cw; rw [if_neg (by simp),if_pos h1]; rfl
   have hh:Aw x.1=false:=by rw [h1]; rfl
   rw [hh,if_pos rfl,hb,if_pos rfl,h5]; omega
  ·have h5:=leaf (by omega)
   have hm:0<=x.2.2.2.2.1:=by
    unfold B5 at hp
    rw [if_neg (by omega),if_pos h1,anE,dcE] at hp
    exact hp.1.1
   have hb:Cw x 0 [] false=true:=by unfold Cw; rw [if_neg (by simp),if_neg (by omega),if_pos h1,dcT (show (0:Int)<=0/\0<=x.2.2.2.2.1 from ⟨by omega,hm⟩)]; rfl
   have hh:Aw x.1=false:=by rw [h1]; rfl
   rw [hh,if_pos rfl,hb,if_pos rfl,h5]; omega
  ·have h5:=leaf (by omega)
   have hh:Aw x.1=true:=by rw [h1]; rfl
   rw [h5] at he ⊢
   have ho:C9 v s (s+1)=false:=Nb he
   have hI : ∀ n,vfI v s (vfH v ks) n (s+1)=((s+1:Nat):Int):=fun n=>by
    cases n with
    | zero=>rw [vfI]
    | succ n=>rw [vfI,if_neg (by rw [ho]; simp)]
   rw [hh,if_neg (by simp),if_neg (by simp),if_pos h1,hI]
  ·have hh:Aw x.1=true:=by rw [h1]; rfl
   have hpw:ks.Pairwise KR:=by
    unfold B5 at hp
    rw [if_neg (by omega),if_neg (by omega),if_neg (by omega)] at hp
    split at hp
    ·cases hp
    ·exact ((H0 _).1 hp).imp fun h=>h.1
   have hb5:(bif x.1==5 then Bf ks s (s+1) else [])=Bf ks s (s+1):=by rw [h1]; rfl
   rw [hb5] at hl he ⊢
   have hK:=GT v ks (fun z hz=>Ca hrr hz) hpw s (s+1) (by omega) hl.2 (by rw [show s+1+(Bf ks s (s+1)).length=s+((Bf ks s (s+1)).length+1) by omega]; exact he)
   rw [hh,if_neg (by simp),if_neg (by simp),if_neg (by omega),hK,if_neg (by omega),ntN]
   have ho:C9 v s (s+1+(Bf ks s (s+1)).length)=false:=Nb (by rw [show s+1+(Bf ks s (s+1)).length=s+((Bf ks s (s+1)).length+1) by omega]; exact he)
   rw [ho,if_neg (by simp)]
   omega
theorem GT (v:List Nd) : ∀ (ks:List (Rose Lab)),(∀ z∈ks,Aj z=true)->ks.Pairwise KR->∀ (s p:Nat),s<p->F1 v p (Bf ks s p)->Nj v s (p+(Bf ks s p).length)->vfP v ks s p=((p+(Bf ks s p).length:Nat):Int)
 | [],_,_,s,p,_,_,_=>by rw [vfP,Bf]; rfl
 | z::ks,hr,hpw,s,p,hsp,hl,he=>by
  rw [List.pairwise_cons] at hpw
  have hr2 : ∀ z∈ks,Aj z=true:=fun w hw=>hr w (List.mem_cons_of_mem _ hw)
  cases hm:z.lab.2.2.2.1 with
  | true=>
   have hk:Bf (z::ks) s p=BJ z z.lab.2.2.1 s p++Bf ks s (p+(BJ z z.lab.2.2.1 s p).length):=by rw [Bf,if_pos hm]
   rw [hk] at hl he ⊢
   rw [OQ] at hl
   rw [length_append] at he ⊢
   have e1:p+((BJ z z.lab.2.2.1 s p).length+(Bf ks s (p+(BJ z z.lab.2.2.1 s p).length)).length)=p+(BJ z z.lab.2.2.1 s p).length+(Bf ks s (p+(BJ z z.lab.2.2.1 s p).length)).length:=by omega
   rw [e1] at he ⊢
   have hfit:=Kt v z (hr z List.mem_cons_self) z.lab.2.2.1 s p hl.1 (UN hl.2 he hsp)
   have hv:v[p]? = some ((0,[],z.lab.2.2.1,(s:Int),Aw z.lab.1,()):Nd):=by
    have:=hl.1
    rw [Is,F1] at this
    exact this.1
   have hc:C9 v s p=true/\noN v p=some z.lab.2.2.1:=by
    constructor
    ·unfold C9 upN; rw [hv,map_some]; exact beq_self_eq_true _
    ·unfold noN; rw [hv]; rfl
   rw [vfP,if_pos hc,hfit,if_neg (by omega),ntN]
   exact GT v ks hr2 hpw.2 s _ (by omega) hl.2 he
  | false=>
   have hk:Bf (z::ks) s p=Bf ks s p:=by rw [Bf,if_neg (by rw [hm]; simp)]
   rw [hk] at hl he ⊢
   have hc : ¬(C9 v s p=true/\noN v p=some z.lab.2.2.1):=fun ⟨h1,h2⟩=>by
    rcases FM s ks p with h | ⟨y,hy,m,rest,h⟩
    ·rw [h] at he
     have he2:Nj v s p:=he
     rw [Nb he2] at h1; cases h1
    ·rw [h,F1] at hl
     unfold noN at h2
     rw [hl.1,map_some] at h2
     have h2:=Option.some.inj h2
     dsimp only at h2
     have:z.lab.2.2.1<y.lab.2.2.1:=hpw.1 y hy
     omega
   rw [vfP,if_neg hc,if_neg (by rw [hm]; simp)]
   exact GT v ks hr2 hpw.2 s p hsp hl he
end
theorem Mm (v:List Nd) : ∀ (w pre:List Nd),v=pre++w->F1 v pre.length w
 | [],pre,h=>by rw [F1]; trivial
 | x::w,pre,h=>by
  rw [F1]
  refine ⟨by rw [h,List.getElem?_append_right (le_refl _)]; simp,?_⟩
  have:=Mm v w (pre++[x]) (by rw [h]; simp)
  rw [length_append] at this
  exact this
theorem XQ {l:List Ty} (h:AC l=true):CH (dfL l) l=true:=by
 obtain ⟨k1,k2,k3,k4⟩:=G1 h
 have h30:l.length<=30:=by
  unfold AC at h
  simp only [anE,dcE] at h
  omega
 have hc:=K0 k1
 have hb:=Cx l 0 k1
 rw [k4] at hc
 have hlen:(dfL l).length<=Ao (t2L l 0):=GR _ _ _ _
 have hl:F1 (dfL l) 0 (BJ (t2L l 0) 0 (-1) 0):=Mm (dfL l) (dfL l) [] rfl
 have hoff:Nj (dfL l) 0 (0+(BJ (t2L l 0) 0 (-1) 0).length):=fun j _ hu=>by
  have:upN (dfL l) (0+(BJ (t2L l 0) 0 (-1) 0).length)=none:=by
   unfold upN
   rw [List.getElem?_eq_none (by rw [zero_add]; exact le_refl _)]; rfl
  rw [this] at hu; cases hu
 have hfit:=Kt (dfL l) _ k3 0 (-1) 0 hl hoff
 have hd:dfL l=((0,[],0,-1,Aw (t2L l 0).lab.1,()):Nd)::(bif (t2L l 0).lab.1==5 then Bf (t2L l 0).kids 0 1 else []):=by unfold dfL; rw [Is]
 have h1:1<=(dfL l).length:=by rw [hd]; simp
 have hu:upN (dfL l) 0=some (-1):=by rw [hd]; rfl
 have hn:noN (dfL l) 0=some 0:=by rw [hd]; rfl
 unfold CH Ew
 rw [h,k4,hfit,hu,hn,dcT (show 1<=(dfL l).length/\(dfL l).length<=40 by omega)]
 simp [dfL]
def kpC:Gm
 | [.tp LCd z 0,.bx [.i .i64 x] 0],[]=>.leaf (.b (z.lab.2.2.1==x),[])
 | _,_=>.no
def kpE  : LoopEnt:=⟨19,[0,1,4,7,8],[],[4],fun
 | ([.sl (.tree LCd) l,.fn 113 [] [.ptr 0 0],.i .i64 _,.i .i64 k,.i .i64 i],[some (.box [.i .i64 x])])=>
  .need (decide (0<=i/\i.toNat<=l.length/\l.length<=maxI/\k=l.length)) (.br (decide (AA (fun z:Rose Lab=>z.lab.2.2.1==x) i.toNat (l.drop i.toNat)<0)) (.leaf (.exit 0,([],[some (.box [.i .i64 x])]))) (.leaf (.ret,([.i .i64 (AA (fun z:Rose Lab=>z.lab.2.2.1==x) i.toNat (l.drop i.toNat))],[some (.box [.i .i64 x])]))))
 | _=>.no⟩
def Z8  : Gm
 | [.sl (.tree LCd) l,.fn 113 [] [.ptr 0 0]],[.box [.i .i64 x]]=>.leaf (.i .i64 (AA (fun z:Rose Lab=>z.lab.2.2.1==x) 0 l),[some (.box [.i .i64 x])])
 | _,_=>.no
def Q1:Gm
 | [.tp LCd z 0,.i .i64 x],[]=>.need (decide (z.kids.length<=maxI)) (.br (Bu x z.kids) (.leaf (.tp LCd (byR x z.kids) 0,[])) (.leaf (.np,[])))
 | _,_=>.no
theorem Xr:Ad prog 113 (Ent.rd1 kpC).F:=by
 refine Am KnowsL.nil.knows (Λ:=Ab []) func113 (c:=f113.body.getD .skip) (by kernel_rfl) fun vs bs r hq hv hb=>?_
 unfold Ent.F kpC at hq
 dsimp only at hq
 split at hq
 ·rename_i z x
  refine ⟨Aq _,Eq.trans ?_ hq⟩
  have e:AQ prog (Ab []) (Ab []) f113 [.tp LCd z 0,.bx [.j x] 0] []=((some (V.b (z.lab.snd.snd.fst==x),[])):_):=by kernel_rfl
  rw [e]
  rfl
 ·cases hq
theorem OZ  (x:Int) (l:List (Rose Lab)) (r k i:Int):A0 prog (Ab [(113,.rd1 kpC)]) (Ab [(2,kpE)]) 1 (body f112 0) kpE ([.sl (.tree LCd) l,.fn 113 [] [.ptr 0 0],.j r,.j k,.j i],[some (.box [.j x])]) =
 ((ifB (decide (i<k)) (ifT (decide ((0:Int)<=i)&&decide (i<(↑l.length:Int))) (Ap l[i.toNat]? fun z=>ifB ((Rose.lab z).snd.snd.fst==x) (some (Ex.ret,[V.i
 .i64 i],[some (Blk.box [V.j x])])) (some (Ex.normal,[V.sl LCd.tree l,V.fn 113 [] [V.ptr 0 0],V.j r,V.j k,V.i .i64
 (i64.wrap (i+(1:Int)))],[some (Blk.box [V.j x])])))) (some (Ex.exit 0,[],[some (Blk.box [V.j x])]))):_):=by kernel_rfl
theorem RE  (x:Int) {l:List (Rose Lab)} {r:Int} (hx:l.length<=maxI) : ∀ (j i:Nat),i+j=l.length->∀ e d',(.br (decide (AA (fun z:Rose Lab=>z.lab.2.2.1==x) i (l.drop i)<0)) (.leaf (.exit 0,([],[some (.box [.j x])]))) (.leaf (.ret,([.j (AA (fun z:Rose Lab=>z.lab.2.2.1==x) i (l.drop i))],[some (.box [.j x])]))):Br (Ex×Dt)).run=some (e,d')->
  Runs prog (Ab [(113,.rd1 kpC)]) (Ab [(2,kpE)]) 1 (body f112 0) kpE ([.sl (.tree LCd) l,.fn 113 [] [.ptr 0 0],.j r,.j (l.length:Int),.j (i:Int)],[some (.box [.j x])]) e d'
 | 0,i,hi,e,d',h=>by
  have e1:l.drop i=[]:=drop_eq_nil_of_le (by omega)
  rw [e1,CC,AA,if_pos (by omega)] at h
  cases h
  have hr:=OZ x l r l.length i
  rw [Ac (dcF (by omega))] at hr
  exact .stop _ _ _ hr (by simp)
 | j+1,i,hi,e,d',h=>by
  have h1:i<l.length:=by omega
  have hr:=OZ x l r l.length i
  rw [Af (dcT (by omega)),Aa (by simp only [anE,dcE]; omega)] at hr
  simp only [ntN,gtE h1,As,A3 (n:=i) (by omega)] at hr
  rw [drop_eq_getElem_cons h1,CC,AA] at h
  by_cases he:(fun z:Rose Lab=>z.lab.2.2.1==x) l[i]=true
  ·rw [if_pos he,if_neg (by omega)] at h
   cases h
   rw [Af he] at hr
   exact .stop _ _ _ hr (by simp)
  ·rw [if_neg he] at h
   rw [Ac (by simpa using he)] at hr
   exact .step _ _ _ _ hr (RE x hx j (i+1) (by omega) e d' (by rw [CC]; exact h))
theorem Abg  : A4 prog (Ab [(113,.rd1 kpC)]) (Ab [(2,kpE)]) 1 (f112.body.getD .skip):=by
 refine Ax (a:=body f112 0) (by kernel_rfl) fun d e d' h=>?_
 unfold kpE at h
 dsimp only at h
 split at h
 ·obtain ⟨hc,h'⟩:=Ae h
  obtain ⟨h0,h1,h2,rfl⟩:=of_decide_eq_true hc
  obtain ⟨i,rfl⟩:=eq_ofNat_of_zero_le h0
  exact RE _  h2 _ i (Nat.add_sub_of_le h1) e d' h'
 ·cases h
theorem ZA  (x:Int) (l:List (Rose Lab)) (hx:l.length<=maxI):AQ prog (Ab [(113,.rd1 kpC)]) (Ab [(2,kpE)]) f112 [.sl (.tree LCd) l,.fn 113 [] [.ptr 0 0]] [.box [.j x]]=some (.j (AA (fun z:Rose Lab=>z.lab.2.2.1==x) 0 l),[some (.box [.j x])]):=by
 have e:AQ prog (Ab [(113,.rd1 kpC)]) (Ab [(2,kpE)]) f112 [.sl (.tree LCd) l,.fn 113 [] [.ptr 0 0]] [.box [.j x]] =
  ((ifT (decide ((0:Int)<=(0:Int)/\0<=l.length/\l.length<=maxI/\(↑l.length:Int)=(↑l.length:Int))) (ifB (decide (AA (fun z=>z.lab.snd.snd.fst==
 x) 0 (drop 0 l)<(0:Int))) (some (V.j (-1),[some (Blk.box [V.j x])])) (some (V.j (AA (fun z=>z.lab.snd.snd.fst==x) (0 :
 Nat) (drop 0 l)),[some (Blk.box [V.j x])])))):_):=by kernel_rfl
 rw [e,Aa (dcT ⟨by omega,by omega,hx,rfl⟩)]
 simp only [drop_zero]
 by_cases q:AA (fun z:Rose Lab=>z.lab.2.2.1==x) 0 l<0
 ·rw [Af (dcT q),Hb _ _ _ q]
 ·rw [Ac (dcF q)]
theorem Z9  : Ad prog 112 (Ent.own Z8).F:=by
 refine Am (kc func113 Xr KnowsL.nil).knows (Λ:=(Ab [(2,kpE)])) func112 (c:=f112.body.getD .skip) (by kernel_rfl) fun vs bs r h hv hb=>?_
 unfold Ent.F Z8 at h
 dsimp only at h
 split at h
 ·rename_i l x
  have h':=h
  exact ⟨Abg ,(ZA x l (hv (.sl (.tree LCd) l) (by simp)).1).trans (by cases h'; rfl)⟩
 ·cases h
theorem Q0 (z:Rose Lab) (x:Int):AQ prog (Ab [(112,.own Z8)]) (Ab []) f60 [.tp LCd z 0,.j x] [] =
 ((ifB (decide (AA (fun z=>z.lab.snd.snd.fst==x) 0 z.kids<(0:Int))) (some (V.np,[])) (ifT (decide ((0:Int)<=AA (fun z=>z.lab.snd.snd.fst==x)
 0 z.kids)&&decide (AA (fun z=>z.lab.snd.snd.fst==x) 0 z.kids<(↑z.kids.length:Int))) (Ap z.kids[(AA (fun z=>z.lab.snd.snd.fst==x)
 0 z.kids).toNat]? fun z=>some (V.tp LCd z 0,[])))):_):=by kernel_rfl
theorem PD {x:Int} : ∀ {l:List (Rose Lab)} {y:Rose Lab},l.find? (fun z=>z.lab.2.2.1==x)=some y->Bu x l=true/\byR x l=y
 | [],y,h=>by cases h
 | z::l,y,h=>by
  by_cases q:z.lab.2.2.1=x
  ·have hb:(z.lab.2.2.1==x)=true:=by rw [q]; exact beq_self_eq_true _
   rw [List.find?_cons_of_pos (p:=fun z:Rose Lab=>z.lab.2.2.1==x) hb] at h
   refine ⟨DR.2 ⟨z,by simp,q⟩,?_⟩
   rw [byR,if_pos q]
   exact Option.some.inj h
  ·have hb : ¬(z.lab.2.2.1==x)=true:=by rw [beq_false_of_ne q]; simp
   rw [List.find?_cons_of_neg (p:=fun z:Rose Lab=>z.lab.2.2.1==x) hb] at h
   obtain ⟨h1,h2⟩:=PD h
   have hne:=Eh (ks:=l) (z:=z) (n:=x) (Ne.symm q)
   rw [hne.1,hne.2]
   exact ⟨h1,h2⟩
theorem Abf:Ad prog 60 (Ent.rd1 Q1).F:=by
 refine Am (kc func112 Z9 KnowsL.nil).knows (Λ:=Ab []) func60 (c:=f60.body.getD .skip) (by kernel_rfl) fun vs bs r hq hv hb=>?_
 unfold Ent.F Q1 at hq
 dsimp only at hq
 split at hq
 ·rename_i z x
  obtain ⟨hc,hx⟩:=Ae hq
  refine ⟨Aq _,Eq.trans ?_ hx⟩
  rw [Q0]
  have ha:=KC (fun z:Rose Lab=>z.lab.2.2.1==x) z.kids 0
  have hhas:Bu x z.kids=z.kids.any (fun z:Rose Lab=>z.lab.2.2.1==x):=rfl
  by_cases q:AA (fun z:Rose Lab=>z.lab.2.2.1==x) 0 z.kids<0
  ·rw [Af (dcT q),hhas,<-ha,dcF (by omega)]
   rfl
  ·obtain ⟨i,h1,h2,h3,h4⟩:=Gn (fun z:Rose Lab=>z.lab.2.2.1==x) z.kids 0 (by omega)
   obtain ⟨h5,h6⟩:=PD h4
   rw [Ac (dcF q),h2,zero_add,Aa (by simp only [anE,dcE]; omega),ntN,gtE h1,As,h5,h6]
   rfl
 ·cases hq



mutual
theorem TJ : ∀ z:Rose Lab,vcR (cv z)=Ao z
 | .node x ks=>by rw [cv,vcR,Ao,TI ks]
theorem TI : ∀ l:List (Rose Lab),vcL (cvs l)=Ak l
 | []=>by rw [cvs,vcL,Ak]
 | z::l=>by rw [cvs,vcL,Ak,TJ z,TI l]
end
def Fn (v:List Nd) (s t:Nat):List Nd:=(v.drop s).take (t-s)
theorem RY {v:List Nd} {s t u:Nat} (h1:s<=t) (h2:t<=u):Fn v s t++Fn v t u=Fn v s u:=by
 unfold Fn
 have e:v.drop t=(v.drop s).drop (t-s):=by rw [List.drop_drop]; congr 1; omega
 rw [e,show u-s=(t-s)+(u-t) by omega,List.take_add]
theorem Yi {v:List Nd} {a:Nat} (h:a<v.length):Fn v a (a+1)=[v[a]]:=by
 unfold Fn
 rw [drop_eq_getElem_cons h,show a+1-a=1 by omega]; rfl
theorem P6 {v:List Nd} {s t:Nat} (h:t<=v.length):(Fn v s t).length=t-s:=by
 unfold Fn
 rw [List.length_take,List.length_drop]; omega
theorem K7 {v:List Nd} {a:Nat} (IH : ∀ e,a<e->∀ h:e<v.length,Al (cv (kf (tys v) e).1) v[e].2.2.2.1 e=Fn v e (kf (tys v) e).2) : ∀ n e,a<e->e<=v.length->AB (cvs (AD (kf (tys v)) (tys v) a n e []).1) a e=Fn v e (AD (kf (tys v)) (tys v) a n e []).2
 | 0,e,_,_=>by
  rw [AD,cvs,AB]
  unfold Fn
  simp
 | n+1,e,he,hl=>by
  rw [AD]
  by_cases hu:AY (tys v) e=some (a:Int)
  ·have h1:=DB (GN.2 hu)
   have hb:=Cx (tys v) e (by rw [Bh]; exact h1)
   rw [Bh] at hb
   have hup:v[e].2.2.2.1=(a:Int):=by rw [DW,Ib h1] at hu; exact Option.some.inj hu
   have ih:=IH e he h1
   rw [hup] at ih
   have ih2:=K7 IH n (kf (tys v) e).2 (by omega) hb.2
   have hk:=Gj (a:=a) (Cx (tys v)) n (kf (tys v) e).2 [] (by rw [Bh]; exact hb.2)
   rw [if_pos hu,Dq]
   dsimp only
   rw [nil_append,List.singleton_append,cvs,AB,ih,P6 hb.2,show e+((kf (tys v) e).2-e)=(kf (tys v) e).2 by omega,ih2]
   exact RY (by omega) hk.1
  ·rw [if_neg hu,cvs,AB]
   unfold Fn
   simp
theorem Nz {v:List Nd} : ∀ n a,v.length-a<=n->∀ h:a<v.length,Al (cv (kf (tys v) a).1) v[a].2.2.2.1 a=Fn v a (kf (tys v) a).2
 | 0,a,h1,h2=>by omega
 | n+1,a,h1,h2=>by
  have IH : ∀ e,a<e->∀ h:e<v.length,Al (cv (kf (tys v) e).1) v[e].2.2.2.1 e=Fn v e (kf (tys v) e).2:=fun e he h=>Nz n e (by omega) h
  have hb:=Cx (tys v) a (by rw [Bh]; exact h2)
  rw [RH h2] at hb ⊢
  dsimp only at hb ⊢
  rw [<-RY (Nat.le_succ a) hb.1,Yi h2,cv,Al,Gi h2]
  unfold Ct
  have hx : ∀ m,v[a].2.2.2.2.1=m->((v[a].1,v[a].2.1,v[a].2.2.1,v[a].2.2.2.1,m,()):Nd)=v[a]:=fun m hm=>by subst hm; rfl
  cases hm:v[a].2.2.2.2.1 with
  | false=>
   simp only [cond_false]
   rw [cvs,AB]
   have:Fn v (a+1) (a+1)=[]:=by unfold Fn; simp
   show _=_++Fn v (a+1) (a+1)
   rw [this]
   exact congrArg (fun y:Nd=>[y]) (hx false hm)
  | true=>
   simp only [cond_true]
   rw [K7 IH _ (a+1) (by omega) h2]
   exact congrArg (fun y:Nd=>y::Fn v (a+1) (AD (kf (tys v)) (tys v) a (tys v).length (a+1) []).2) (hx true hm)
mutual
def AK:Rose Lab->Int->Nat->List Ty
 | .node x ks,up,s=>(x.1,x.2.1,x.2.2.1,x.2.2.2.1,up,x.2.2.2.2.1,())::Bo ks s (s+1)
def Bo:List (Rose Lab)->Nat->Nat->List Ty
 | [],_,_=>[]
 | z::ks,s,p=>AK z s p++Bo ks s (p+(AK z s p).length)
end
mutual
theorem CK : ∀ (z:Rose Lab) (up:Int) (s:Nat),(AK z up s).length=Ao z
 | .node x ks,up,s=>by rw [AK,Ao,length_cons,JJ ks s (s+1)]
theorem JJ : ∀ (ks:List (Rose Lab)) (s p:Nat),(Bo ks s p).length=Ak ks
 | [],_,_=>by rw [Bo,Ak]; rfl
 | z::ks,s,p=>by rw [Bo,Ak,length_append,CK z s p,JJ ks s]
end
theorem LO (z:Rose Lab) (up:Int) (s:Nat):AK z up s=(z.lab.1,z.lab.2.1,z.lab.2.2.1,z.lab.2.2.2.1,up,z.lab.2.2.2.2.1,())::Bo z.kids s (s+1):=by cases z; rw [AK]; rfl


def Ez (n:Nat):Gm
 | [.agg [.i .i64 y0,.s y1,.i .i64 y2,.b y3,.i .i64 y4,.sl (.rose LCd) ys],.i .i64 up,.ref 0 0 m],[.row false _ TCd o]=>.need (decide (m=o.length/\o.length+Ak ys+1<=2000000/\Ak ys+1<=n)) (.leaf (.ref 1 0 (o++AK (.node (y0,y1,y2,y3,y4,()) ys) up o.length).length,[none,some (.row false none TCd (o++AK (.node (y0,y1,y2,y3,y4,()) ys) up o.length))]))
 | _,_=>.no
def GG:Gm
 | [.agg [.i .i64 y0,.s y1,.i .i64 y2,.b y3,.i .i64 y4,.sl (.rose LCd) ys],.i .i64 up,.ref 0 0 m],[.row false _ TCd o]=>.need (decide (m=o.length/\o.length+Ak ys+1<=2000000)) (.leaf (.ref 1 0 (o++AK (.node (y0,y1,y2,y3,y4,()) ys) up o.length).length,[none,some (.row false none TCd (o++AK (.node (y0,y1,y2,y3,y4,()) ys) up o.length))]))
 | _,_=>.no
def EO (n:Nat):LoopEnt:=⟨40,[2,7,28,29,30],[2],[],fun
 | ([.ref 1 0 m,.i .i64 s,.sl (.rose LCd) ks,.i .i64 k,.i .i64 i],[none,some (.row false none TCd o)])=>.need (decide (m=o.length/\0<=i/\i.toNat<=ks.length/\k=ks.length/\0<=s/\o.length+Ak (ks.drop i.toNat)<=2000000/\Ak ks<=n/\Ak ks<=2000000)) (.leaf (.exit 0,([.ref 1 0 (o++Bo (ks.drop i.toNat) s.toNat o.length).length],[none,some (.row false none TCd (o++Bo (ks.drop i.toNat) s.toNat o.length))])))
 | _=>.no⟩
def MO:Gm
 | [.agg [.i .i64 y0,.s y1,.i .i64 y2,.b y3,.i .i64 y4,.sl (.rose LCd) ys],.i .i64 up,.nl],[]=>.need (decide (Ak ys+1<=2000000)) (.leaf (.ref 0 0 (AK (.node (y0,y1,y2,y3,y4,()) ys) up 0).length,[some (.row false none TCd (AK (.node (y0,y1,y2,y3,y4,()) ys) up 0))]))
 | _,_=>.no
def DA:LoopEnt:=⟨40,[2,7,28,29,30],[2],[],fun
 | ([.ref 0 0 m,.i .i64 s,.sl (.rose LCd) ks,.i .i64 k,.i .i64 i],[some (.row false none TCd o)])=>.need (decide (m=o.length/\0<=i/\i.toNat<=ks.length/\k=ks.length/\0<=s/\o.length+Ak (ks.drop i.toNat)<=2000000/\Ak ks<=2000000)) (.leaf (.exit 0,([.ref 0 0 (o++Bo (ks.drop i.toNat) s.toNat o.length).length],[some (.row false none TCd (o++Bo (ks.drop i.toNat) s.toNat o.length))])))
 | _=>.no⟩
def Rh:Gm
 | [.agg [.i .i64 y0,.s y1,.i .i64 y2,.b y3,.i .i64 y4,.sl (.rose LCd) ys]],[]=>.need (decide (Ak ys+1<=2000000)&&nmL (AK (.node (y0,y1,y2,y3,y4,()) ys) (-1) 0)) (.br (AC (AK (.node (y0,y1,y2,y3,y4,()) ys) (-1) 0)) (.leaf (.tup [.agg [.ref 0 0 (AK (.node (y0,y1,y2,y3,y4,()) ys) (-1) 0).length],.b true],[some (.row false none TCd (AK (.node (y0,y1,y2,y3,y4,()) ys) (-1) 0))])) (.leaf (.tup [.agg [.ref 0 0 0],.b false],[some (.row false none TCd [])])))
 | _,_=>.no
def HQ (f:Cur->(List Ty)×Cur):Gm
 | [.ptr 0 0],[.box [.sl (.int .u8) l,.i .i64 a,.i .u64 s]]=>.need (decide ((Cur.mk l a s).good 80000000)) (.leaf (.agg [.ref 1 0 (f  (Cur.mk l a s)).1.length],[some (cB (f  (Cur.mk l a s)).2),some (.row false none TCd (f  (Cur.mk l a s)).1)]))
 | _,_=>.no
theorem IM (n m:Nat) (s:Int) (ks:List (Rose Lab)) (k i:Int) (o:List Ty):A0 prog (Ab [(146,.own (Ez n))]) (Ab [(4,EO n)]) 1 (body f146 0) (EO n) ([.ref 1 0 m,.j s,.sl (.rose LCd) ks,.j k,.j i],[none,some (.row false none TCd o)]) =
 ((ifB (decide (i<k)) (ifT (decide ((0:Int)<=i)&&decide (i<(↑ks.length:Int))) (Ap ks[i.toNat]? fun z=>ifT (decide (m=o.length/\o.length+Ak (Rose.kids
 z)+1<=2000000/\Ak (Rose.kids z)+1<=n)) (some (Ex.normal,[V.ref 1 0 (o++AK (Rose.node ((Rose.lab z).fst,(Rose.lab z).snd.fst,
 (Rose.lab z).snd.snd.fst,(Rose.lab z).snd.snd.snd.fst,(Rose.lab z).snd.snd.snd.snd.fst,()) (Rose.kids z)) s o.length).length,V.j s,V.sl LCd.rose ks,V.j k,
 V.j (i64.wrap (i+(1:Int)))],[none,some (Blk.row false none TCd (o++AK (Rose.node ((Rose.lab z).fst,(Rose.lab z).snd.fst,(Rose.lab
 z).snd.snd.fst,(Rose.lab z).snd.snd.snd.fst,(Rose.lab z).snd.snd.snd.snd.fst,()) (Rose.kids z)) s o.length))])))) (some (Ex.exit 0,[V.ref 1 0 m],[none,some (Blk.row
 false none TCd o)]))):_):=by kernel_rfl
theorem PV (n:Nat) (y0:Int) (y1:List UInt8) (y2:Int) (y3:Bool) (y4:Int) (ys:List (Rose Lab)) (m:Nat) (up:Int) (nl:Option Bool) (o:List Ty):CR prog (Ab [(146,.own (Ez n))]) (Ab [(4,EO n)]) f146 [.agg [.j y0,.s y1,.j y2,.b y3,.j y4,.sl (.rose LCd) ys],.j up,.ref 0 0 m] [.row false nl TCd o] =
 ((ifT (decide ((m+1)*56<=140737488355328)&&decide (m+1<=maxI)) (ifT (decide (m+1=(take m (drop 0 o)
 ++ (y0,y1,y2,y3,up,y4,())::Ag TCd.den).length/\(0:Int)<=(0:Int)/\0<=ys.length/\(↑ys.length:Int)=(↑ys.length:Int)/\(0:Int)<=(↑m:Int)
 /\ (take m (drop 0 o)++(y0,y1,y2,y3,up,y4,())::Ag TCd.den).length+Ak (drop 0 ys)<=2000000/\Ak ys<=n/\Ak ys<=
 2000000)) (some (V.ref 1 0 (take m (drop 0 o)++(y0,y1,y2,y3,up,y4,())::Ag TCd.den++Bo (drop 0 ys) (↑m :
 Int).toNat (take m (drop 0 o)++(y0,y1,y2,y3,up,y4,())::Ag TCd.den).length).length,[none,some (Blk.row false none TCd (take m
 (drop 0 o)++(y0,y1,y2,y3,up,y4,())::Ag TCd.den++Bo (drop 0 ys) (↑m:Int).toNat (take m (drop 0 o)++(y0,
 y1,y2,y3,up,y4,())::Ag TCd.den).length))])))):_):=by kernel_rfl
theorem JK (n s:Nat) (ks:List (Rose Lab)) (h1:Ak ks<=n) (h2:Ak ks<=2000000) : ∀ (j i:Nat) (o:List Ty),i+j=ks.length->o.length+Ak (ks.drop i)<=2000000->
  Runs prog (Ab [(146,.own (Ez n))]) (Ab [(4,EO n)]) 1 (body f146 0) (EO n) ([.ref 1 0 o.length,.j (s:Int),.sl (.rose LCd) ks,.j (ks.length:Int),.j (i:Int)],[none,some (.row false none TCd o)]) (.exit 0) ([.ref 1 0 (o++Bo (ks.drop i) s o.length).length],[none,some (.row false none TCd (o++Bo (ks.drop i) s o.length))])
 | 0,i,o,hi,ho=>by
  have hr:=IM n o.length s ks ks.length i o
  rw [Ac (dcF (by omega))] at hr
  rw [drop_eq_nil_of_le (by omega),Bo,List.append_nil]
  exact .stop _ _ _ hr (by simp)
 | j+1,i,o,hi,ho=>by
  have hl:i<ks.length:=by omega
  have hM:maxI=9223372036854775807:=rfl
  have hlen:=Bz ks
  have hmem:=BB (getElem_mem hl)
  have hck:=Be ks[i]
  have hr:=IM n o.length s ks ks.length i o
  rw [drop_eq_getElem_cons hl,Ak] at ho
  rw [Af (dcT (by omega)),Aa (by simp only [anE,dcE]; omega),ntN,gtE hl,As,A3 (n:=i) (by omega),AT,Aa (dcT ⟨rfl,by omega,by omega⟩)] at hr
  rw [drop_eq_getElem_cons hl,Bo]
  have hk:=CK ks[i] s o.length
  have ih:=JK n s ks h1 h2 j (i+1) (o++AK ks[i] s o.length) (by omega) (by rw [length_append]; omega)
  rw [length_append,List.append_assoc] at ih
  rw [length_append] at hr
  exact .step _ _ _ _ hr ih
theorem TZ (n:Nat):A4 prog (Ab [(146,.own (Ez n))]) (Ab [(4,EO n)]) 1 (f146.body.getD .skip):=by
 refine Ax (a:=body f146 0) (by kernel_rfl) fun d ex d' h=>?_
 unfold EO at h
 dsimp only at h
 split at h
 ·rename_i m s ks k i o
  obtain ⟨hc,hx⟩:=Ae h
  clear h
  obtain ⟨rfl,h0,h1,rfl,h3,h4,h5,h6⟩:=of_decide_eq_true hc
  obtain ⟨i,rfl⟩:=eq_ofNat_of_zero_le h0
  obtain ⟨s,rfl⟩:=eq_ofNat_of_zero_le h3
  simp only [ntN] at h1 h4 hx
  have h8:=Ar hx
  obtain ⟨rfl,rfl⟩:=Prod.mk.inj h8
  exact JK n s ks h5 h6 (ks.length-i) i o (by omega) h4
 ·cases h
theorem LR (y0:Int) (y1:List UInt8) (y2:Int) (y3:Bool) (y4:Int) (ys:List (Rose Lab)) (up:Int) (s:Nat):AK (.node (y0,y1,y2,y3,y4,()) ys) up s=(y0,y1,y2,y3,up,y4,())::Bo ys s (s+1):=by rw [AK]
theorem Sg (n:Nat) (y0:Int) (y1:List UInt8) (y2:Int) (y3:Bool) (y4:Int) (ys:List (Rose Lab)) (m:Nat) (up:Int) (nl:Option Bool) (o:List Ty) (hc:m=o.length/\o.length+Ak ys+1<=2000000/\Ak ys+1<=n+1):CR prog (Ab [(146,.own (Ez n))]) (Ab [(4,EO n)]) f146 [.agg [.j y0,.s y1,.j y2,.b y3,.j y4,.sl (.rose LCd) ys],.j up,.ref 0 0 m] [.row false nl TCd o]=some (.ref 1 0 (o++AK (.node (y0,y1,y2,y3,y4,()) ys) up o.length).length,[none,some (.row false none TCd (o++AK (.node (y0,y1,y2,y3,y4,()) ys) up o.length))]):=by
 rw [PV]
 obtain ⟨rfl,h2,h3⟩:=hc
 have hM:maxI=9223372036854775807:=rfl
 have hlen:=Bz ys
 rw [show drop 0 o=o from rfl,show drop 0 ys=ys from rfl,take_length,ntN,LR]
 rw [Aa (by simp only [anE,dcE]; omega)]
 rw [Aa (dcT ⟨by simp [AI],by omega,by omega,rfl,by omega,by simp [AI]; omega,by omega,by omega⟩)]
 simp [AI]
theorem Sh : ∀ n,(∀ m,m<n->Ad prog 146 (Ent.own (Ez m)).F)->Ad prog 146 (Ent.own (Ez n)).F
 | 0,_=>AX fun vs bs=>by
  unfold Ent.F Ez
  dsimp only
  split
  ·rename_i y0 y1 y2 y3 y4 ys up m x o
   have:decide (m=o.length/\o.length+Ak ys+1<=2000000/\Ak ys+1<=0)=false:=dcF (by omega)
   rw [this]; rfl
  ·rfl
 | n+1,ih=>by
  refine AU (kc func146 (ih n (Nat.lt_succ_self n)) KnowsL.nil).knows (Λ:=(Ab [(4,EO n)])) func146 (c:=f146.body.getD .skip) (by kernel_rfl) fun vs bs r hq hv hb=>?_
  unfold Ent.F Ez at hq
  dsimp only at hq
  split at hq
  ·rename_i y0 y1 y2 y3 y4 ys up m nl o
   obtain ⟨hc,hx⟩:=Ae hq
   exact ⟨TZ n,(Sg n y0 y1 y2 y3 y4 ys m up nl o (of_decide_eq_true hc)).trans hx⟩
  ·cases hq
theorem YJ:Ad prog 146 (Ent.own GG).F:=by
 refine Bb (F:=fun n=>(Ent.own (Ez n)).F) Sh fun vs bs r h=>?_
 unfold Ent.F GG at h
 dsimp only at h
 split at h
 ·rename_i y0 y1 y2 y3 y4 ys up m nl o
  obtain ⟨hc,hx⟩:=Ae h
  refine ⟨Ak ys+1,?_⟩
  show (Br.need (decide (m=o.length/\o.length+Ak ys+1<=2000000/\Ak ys+1<=Ak ys+1)) (.leaf (.ref 1 0 (o++AK (.node (y0,y1,y2,y3,y4,()) ys) up o.length).length,[none,some (.row false none TCd (o++AK (.node (y0,y1,y2,y3,y4,()) ys) up o.length))]))).run=some r
  obtain ⟨h1,h2⟩:=of_decide_eq_true hc
  have:decide (m=o.length/\o.length+Ak ys+1<=2000000/\Ak ys+1<=Ak ys+1)=true:=dcT ⟨h1,h2,le_refl _⟩
  rw [this]
  exact hx
 ·cases h
theorem Hp (m:Nat) (s:Int) (ks:List (Rose Lab)) (k i:Int) (o:List Ty):A0 prog (Ab [(146,.own GG)]) (Ab [(4,DA)]) 0 (body f146 0) DA ([.ref 0 0 m,.j s,.sl (.rose LCd) ks,.j k,.j i],[some (.row false none TCd o)]) =
 ((ifB (decide (i<k)) (ifT (decide ((0:Int)<=i)&&decide (i<(↑ks.length:Int))) (Ap ks[i.toNat]? fun z=>ifT (decide (m=o.length/\o.length+Ak (Rose.kids
 z)+1<=2000000)) (some (Ex.normal,[V.ref 0 0 (o++AK (Rose.node ((Rose.lab z).fst,(Rose.lab z).snd.fst,(Rose.lab z).snd.snd.fst,(Rose.lab
 z).snd.snd.snd.fst,(Rose.lab z).snd.snd.snd.snd.fst,()) (Rose.kids z)) s o.length).length,V.j s,V.sl LCd.rose ks,V.j k,V.j (i64.wrap (i+(1
 : Int)))],[some (Blk.row false none TCd (o++AK (Rose.node ((Rose.lab z).fst,(Rose.lab z).snd.fst,(Rose.lab z).snd.snd.fst,(Rose.lab z).snd.snd.snd.fst,
 (Rose.lab z).snd.snd.snd.snd.fst,()) (Rose.kids z)) s o.length))])))) (some (Ex.exit 0,[V.ref 0 0 m],[some (Blk.row false none TCd o)]))):_):=by kernel_rfl
theorem Oi (y0:Int) (y1:List UInt8) (y2:Int) (y3:Bool) (y4:Int) (ys:List (Rose Lab)) (up:Int):CR prog (Ab [(146,.own GG)]) (Ab [(4,DA)]) f146 [.agg [.j y0,.s y1,.j y2,.b y3,.j y4,.sl (.rose LCd) ys],.j up,.nl] [] =
 ((ifT (decide (1=1/\(0:Int)<=(0:Int)/\0<=ys.length/\(↑ys.length:Int)=(↑ys.length:Int)/\(0:Int)<=(0:Int)/\1+Ak
 (drop 0 ys)<=2000000/\Ak ys<=2000000)) (some (V.ref 0 0 ((y0,y1,y2,y3,up,y4,())::Ag TCd.den++Bo (drop 0 ys)
 0 1).length,[some (Blk.row false none TCd ((y0,y1,y2,y3,up,y4,())::Ag TCd.den++Bo (drop 0 ys) 0 1))]))):_):=by kernel_rfl
theorem IN (s:Nat) (ks:List (Rose Lab)) (h2:Ak ks<=2000000) : ∀ (j i:Nat) (o:List Ty),i+j=ks.length->o.length+Ak (ks.drop i)<=2000000->
  Runs prog (Ab [(146,.own GG)]) (Ab [(4,DA)]) 0 (body f146 0) DA ([.ref 0 0 o.length,.j (s:Int),.sl (.rose LCd) ks,.j (ks.length:Int),.j (i:Int)],[some (.row false none TCd o)]) (.exit 0) ([.ref 0 0 (o++Bo (ks.drop i) s o.length).length],[some (.row false none TCd (o++Bo (ks.drop i) s o.length))])
 | 0,i,o,hi,ho=>by
  have hr:=Hp o.length s ks ks.length i o
  rw [Ac (dcF (by omega))] at hr
  rw [drop_eq_nil_of_le (by omega),Bo,List.append_nil]
  exact .stop _ _ _ hr (by simp)
 | j+1,i,o,hi,ho=>by
  have hl:i<ks.length:=by omega
  have hM:maxI=9223372036854775807:=rfl
  have hlen:=Bz ks
  have hmem:=BB (getElem_mem hl)
  have hck:=Be ks[i]
  have hr:=Hp o.length s ks ks.length i o
  rw [drop_eq_getElem_cons hl,Ak] at ho
  rw [Af (dcT (by omega)),Aa (by simp only [anE,dcE]; omega),ntN,gtE hl,As,A3 (n:=i) (by omega),AT,Aa (dcT ⟨rfl,by omega⟩)] at hr
  rw [drop_eq_getElem_cons hl,Bo]
  have hk:=CK ks[i] s o.length
  have ih:=IN s ks h2 j (i+1) (o++AK ks[i] s o.length) (by omega) (by rw [length_append]; omega)
  rw [length_append,List.append_assoc] at ih
  rw [length_append] at hr
  exact .step _ _ _ _ hr ih
theorem Si:A4 prog (Ab [(146,.own GG)]) (Ab [(4,DA)]) 0 (f146.body.getD .skip):=by
 refine Ax (a:=body f146 0) (by kernel_rfl) fun d ex d' h=>?_
 unfold DA at h
 dsimp only at h
 split at h
 ·rename_i m s ks k i o
  obtain ⟨hc,hx⟩:=Ae h
  clear h
  obtain ⟨rfl,h0,h1,rfl,h3,h4,h6⟩:=of_decide_eq_true hc
  obtain ⟨i,rfl⟩:=eq_ofNat_of_zero_le h0
  obtain ⟨s,rfl⟩:=eq_ofNat_of_zero_le h3
  simp only [ntN] at h1 h4 hx
  have h8:=Ar hx
  obtain ⟨rfl,rfl⟩:=Prod.mk.inj h8
  exact IN s ks h6 (ks.length-i) i o (by omega) h4
 ·cases h
theorem PW (y0:Int) (y1:List UInt8) (y2:Int) (y3:Bool) (y4:Int) (ys:List (Rose Lab)) (up:Int) (hc:Ak ys+1<=2000000):CR prog (Ab [(146,.own GG)]) (Ab [(4,DA)]) f146 [.agg [.j y0,.s y1,.j y2,.b y3,.j y4,.sl (.rose LCd) ys],.j up,.nl] []=some (.ref 0 0 (AK (.node (y0,y1,y2,y3,y4,()) ys) up 0).length,[some (.row false none TCd (AK (.node (y0,y1,y2,y3,y4,()) ys) up 0))]):=by
 rw [Oi]
 have hM:maxI=9223372036854775807:=rfl
 have hlen:=Bz ys
 rw [show drop 0 ys=ys from rfl,LR]
 rw [Aa (dcT (by refine ⟨by trivial,by omega,by omega,by trivial,by omega,by omega,by omega⟩))]
 simp [AI]
theorem YK:Ad prog 146 (Ent.own MO).F:=by
 refine AU (kc func146 YJ KnowsL.nil).knows (Λ:=(Ab [(4,DA)])) func146 (c:=f146.body.getD .skip) (by kernel_rfl) fun vs bs r hq hv hb=>?_
 unfold Ent.F MO at hq
 dsimp only at hq
 split at hq
 ·rename_i y0 y1 y2 y3 y4 ys up
  obtain ⟨hc,hx⟩:=Ae hq
  exact ⟨Si,(PW y0 y1 y2 y3 y4 ys up (of_decide_eq_true hc)).trans hx⟩
 ·cases hq
theorem Sj (y0:Int) (y1:List UInt8) (y2:Int) (y3:Bool) (y4:Int) (ys:List (Rose Lab)):Bt prog (Ab [(146,.own MO),(46,.rd1 HG)]) (Ab []) f101 [.agg [.j y0,.s y1,.j y2,.b y3,.j y4,.sl (.rose LCd) ys]] [] =
 ((ifT (decide (Ak ys+1<=2000000)) (ifT (decide ((take (AK (Rose.node (y0,y1,y2,y3,y4,()) ys) (-1:Int) 0).length (drop (0 :
 Nat) (AK (Rose.node (y0,y1,y2,y3,y4,()) ys) (-1:Int) 0))).length<=4000000000)&&nmL (take (AK (Rose.node (y0,y1,y2,y3,y4,())
 ys) (-1:Int) 0).length (drop 0 (AK (Rose.node (y0,y1,y2,y3,y4,()) ys) (-1:Int) 0)))) (ifB (!AC (take (AK (Rose.node
 (y0,y1,y2,y3,y4,()) ys) (-1:Int) 0).length (drop 0 (AK (Rose.node (y0,y1,y2,y3,y4,()) ys) (-1:Int) 0)))) (some (V.tup
 [V.agg [V.ref 0 0 0],V.b false],[some (Blk.row false none TCd (Ag TCd.den))])) (some (V.tup [V.agg [V.ref 0 0 (AK (Rose.node (y0,y1,y2,y3,y4,()) ys) (-1 :
 Int) 0).length],V.b true],[some (Blk.row false none TCd (AK (Rose.node (y0,y1,y2,y3,y4,()) ys) (-1:Int) 0))]))))):_):=by kernel_rfl
mutual
theorem Md : ∀ (z:Rose Lab) (up:Int) (s:Nat),Cf z=true->nmL (AK z up s)=true
 | .node x ks,up,s,h=>by
  rw [Cf,anE] at h
  have:=Me ks s (s+1) h.2
  unfold nmL at this ⊢
  rw [AK,List.all_cons,this,h.1]; rfl
theorem Me : ∀ (ks:List (Rose Lab)) (s p:Nat),El ks=true->nmL (Bo ks s p)=true
 | [],_,_,_=>by rw [Bo]; rfl
 | z::ks,s,p,h=>by
  rw [El,anE] at h
  have h1:=Md z s p h.1
  have h2:=Me ks s (p+(AK z s p).length) h.2
  unfold nmL at h1 h2 ⊢
  rw [Bo,List.all_append,h1,h2]; rfl
end
theorem Acf:Ad prog 101 (Ent.rd1 Rh).F:=by
 refine Au (kc func146 YK (kc func46 Ou KnowsL.nil)).knows (Λ:=Ab []) func101 (c:=f101.body.getD .skip) (by kernel_rfl) fun vs bs r hq hv hb=>?_
 unfold Ent.F Rh at hq
 dsimp only at hq
 split at hq
 ·rename_i y0 y1 y2 y3 y4 ys
  obtain ⟨hc,hx⟩:=Ae hq
  rw [anE] at hc
  obtain ⟨hc,hn⟩:=hc
  have hc:=of_decide_eq_true hc
  refine ⟨Aq _,Eq.trans ?_ hx⟩
  have hl:=CK (.node (y0,y1,y2,y3,y4,()) ys) (-1) 0
  rw [Be,show (Rose.node (y0,y1,y2,y3,y4,()) ys:Rose Lab).kids=ys from rfl] at hl
  rw [Sj,Aa (dcT hc),drop_zero,take_length,Aa (by rw [hn,dcT (by omega)]; rfl)]
  cases AC (AK (.node (y0,y1,y2,y3,y4,()) ys) (-1) 0)<;>rfl
 ·cases hq
theorem Tk (g:Int->Cur->Rose Lab×Cur)  (l:List Int) (a s:Int):Bt prog (Ab [(103,.own Bk),(102,.own (VM g)),(101,.rd1 Rh)]) (Ab []) f51 [.ptr 0 0] [.box [.sl (.int .u8) l,.j a,.i .u64 s]] =
 ((ifT (decide ((Cur.mk l a s).good (900000000:Int))) (ifT (decide ((0:Int)<=(Cur.mk l a s).pickV (4:Int)/\(Cur.mk l a s).pickV (4:Int)<=(3:Int)/\((Cur.mk l a
 s).pickC (4:Int)).good (83000000:Int))) (ifT (decide (Ak (take (g ((Cur.mk l a s).pickV (4:Int)) ((Cur.mk l a s).pickC (4:Int))).fst.kids.length (drop
 0 (g ((Cur.mk l a s).pickV (4:Int)) ((Cur.mk l a s).pickC (4:Int))).fst.kids))+1<=2000000)&&nmL (AK (Rose.node ((g ((Cur.mk l a
 s).pickV (4:Int)) ((Cur.mk l a s).pickC (4:Int))).fst.lab.fst,(g ((Cur.mk l a s).pickV (4:Int)) ((Cur.mk l a s).pickC (4:Int))).fst.lab.snd.fst,(g ((Cur.mk l a
 s).pickV (4:Int)) ((Cur.mk l a s).pickC (4:Int))).fst.lab.snd.snd.fst,(g ((Cur.mk l a s).pickV (4:Int)) ((Cur.mk l a s).pickC (4:Int))).fst.lab.snd.snd.snd.fst,
 (g ((Cur.mk l a s).pickV (4:Int)) ((Cur.mk l a s).pickC (4:Int))).fst.lab.snd.snd.snd.snd.fst,()) (take (g ((Cur.mk l a s).pickV (4:Int)) ((Cur.mk l a
 s).pickC (4:Int))).fst.kids.length (drop 0 (g ((Cur.mk l a s).pickV (4:Int)) ((Cur.mk l a s).pickC (4:Int))).fst.kids))) (-1:Int) 0)) (ifB
 (AC (AK (Rose.node ((g ((Cur.mk l a s).pickV (4:Int)) ((Cur.mk l a s).pickC (4:Int))).fst.lab.fst,(g ((Cur.mk l a s).pickV (4:Int)) ((Cur.mk l a s).pickC (4
 : Int))).fst.lab.snd.fst,(g ((Cur.mk l a s).pickV (4:Int)) ((Cur.mk l a s).pickC (4:Int))).fst.lab.snd.snd.fst,(g ((Cur.mk l a s).pickV (4:Int)) ((Cur.mk l a
 s).pickC (4:Int))).fst.lab.snd.snd.snd.fst,(g ((Cur.mk l a s).pickV (4:Int)) ((Cur.mk l a s).pickC (4:Int))).fst.lab.snd.snd.snd.snd.fst,()) (take (g
 ((Cur.mk l a s).pickV (4:Int)) ((Cur.mk l a s).pickC (4:Int))).fst.kids.length (drop 0 (g ((Cur.mk l a s).pickV (4:Int)) ((Cur.mk l a s).pickC (4 :
 Int))).fst.kids))) (-1:Int) 0)) (some (V.agg [V.ref 1 0 (AK (Rose.node ((g ((Cur.mk l a s).pickV (4:Int)) ((Cur.mk l a s).pickC (4:Int))).fst.lab.fst,
 (g ((Cur.mk l a s).pickV (4:Int)) ((Cur.mk l a s).pickC (4:Int))).fst.lab.snd.fst,(g ((Cur.mk l a s).pickV (4:Int)) ((Cur.mk l a s).pickC (4 :
 Int))).fst.lab.snd.snd.fst,(g ((Cur.mk l a s).pickV (4:Int)) ((Cur.mk l a s).pickC (4:Int))).fst.lab.snd.snd.snd.fst,(g ((Cur.mk l a s).pickV (4:Int)) ((Cur.mk l
 a s).pickC (4:Int))).fst.lab.snd.snd.snd.snd.fst,()) (take (g ((Cur.mk l a s).pickV (4:Int)) ((Cur.mk l a s).pickC (4:Int))).fst.kids.length (drop (0 :
 Nat) (g ((Cur.mk l a s).pickV (4:Int)) ((Cur.mk l a s).pickC (4:Int))).fst.kids))) (-1:Int) 0).length],[some (Blk.box [V.sl (Cd.int .u8) (g ((Cur.mk l a
 s).pickV (4:Int)) ((Cur.mk l a s).pickC (4:Int))).snd.l,V.j (g ((Cur.mk l a s).pickV (4:Int)) ((Cur.mk l a s).pickC (4:Int))).snd.a,V.i .u64 (g ((Cur.mk l
 a s).pickV (4:Int)) ((Cur.mk l a s).pickC (4:Int))).snd.s]),some (Blk.row false none TCd (AK (Rose.node ((g ((Cur.mk l a s).pickV (4:Int)) ((Cur.mk l a
 s).pickC (4:Int))).fst.lab.fst,(g ((Cur.mk l a s).pickV (4:Int)) ((Cur.mk l a s).pickC (4:Int))).fst.lab.snd.fst,(g ((Cur.mk l a s).pickV (4:Int)) ((Cur.mk l a
 s).pickC (4:Int))).fst.lab.snd.snd.fst,(g ((Cur.mk l a s).pickV (4:Int)) ((Cur.mk l a s).pickC (4:Int))).fst.lab.snd.snd.snd.fst,(g ((Cur.mk l a s).pickV (4 :
 Int)) ((Cur.mk l a s).pickC (4:Int))).fst.lab.snd.snd.snd.snd.fst,()) (take (g ((Cur.mk l a s).pickV (4:Int)) ((Cur.mk l a s).pickC (4:Int))).fst.kids.length
 (drop 0 (g ((Cur.mk l a s).pickV (4:Int)) ((Cur.mk l a s).pickC (4:Int))).fst.kids))) (-1:Int) 0))])) (some (V.agg [V.ref 1 0 1],[some
 (Blk.box [V.sl (Cd.int .u8) (g ((Cur.mk l a s).pickV (4:Int)) ((Cur.mk l a s).pickC (4:Int))).snd.l,V.j (g ((Cur.mk l a s).pickV (4:Int)) ((Cur.mk l a
 s).pickC (4:Int))).snd.a,V.i .u64 (g ((Cur.mk l a s).pickV (4:Int)) ((Cur.mk l a s).pickC (4:Int))).snd.s]),some (Blk.row false none TCd (((5:Int),Ag UInt8,
 (0:Int),false,(-1:Int),(0:Int),())::Ag TCd.den))])))))):_):=by kernel_rfl
theorem XD  (l:List Int) (a s:Int) (hc:(Cur.mk l a s).good 80000000):Ex1 (Bt prog (Ab [(103,.own Bk),(102,.own (VM Ja)),(101,.rd1 Rh)]) (Ab []) f51 [.ptr 0 0] [.box [.sl (.int .u8) l,.j a,.i .u64 s]]) (fun y:(List Ty)×Cur=>((.agg [.ref 1 0 y.1.length],[some (cB y.2),some (.row false none TCd y.1)]):V×List (Option Blk))) (fun y=>(∀ n,(Cur.mk l a s).good n->n<=80000000->y.2.good (n+6250))/\AC y.1=true/\nmL y.1=true/\1<=y.1.length/\y.1.length<=30):=by
 refine Ex1.of (Tk Ja  l a s) ?_
 have r4:=Cur.pickV_range (k:=4) hc (by omega)
 have g1:(Cur.pickC (Cur.mk l a s) 4).good 83000000:=Cur.pk (Cur.good_mono hc (by omega))
 obtain ⟨p1,p2⟩:=VL _ _ _ r4.1 (by omega) g1 (by omega)
 have p3 : ∀ n,(Cur.mk l a s).good n->n<=80000000->(Ja ((Cur.mk l a s).pickV 4) ((Cur.mk l a s).pickC 4)).2.good (n+6250):=fun n hn hm=>Cur.good_mono (VL _ _ _ r4.1 (by omega) (Cur.pickC_good hn) (by omega)).1 (by omega)
 have hnm:=Md _ (-1) 0 p2.2
 have hcn:=p2.1
 rw [Be] at hcn
 simp only [BN,AI,drop_zero,take_length,AT]
 refine Ex1.T (dcT (Cur.good_mono hc (by omega))) (Ex1.T (dcT ⟨r4.1,by omega,g1⟩) (Ex1.T (by rw [hnm,dcT (by omega)]; rfl) (Ex1.B (fun h=>?_) (fun h=>?_))))
 ·have hk:1<=(AK (Ja ((Cur.mk l a s).pickV 4) ((Cur.mk l a s).pickC 4)).1 (-1) 0).length/\(AK (Ja ((Cur.mk l a s).pickV 4) ((Cur.mk l a s).pickC 4)).1 (-1) 0).length<=30:=by
   have h:=h
   unfold AC at h
   simp only [anE,dcE] at h
   exact h.1.1.1
  exact Ex1.P (_,_) rfl rfl ⟨p3,h,hnm,hk⟩
 ·exact Ex1.P ([(5,[],0,false,-1,0,())],_) rfl rfl ⟨p3,by show AC [(5,[],0,false,-1,0,())]=true; decide +kernel,by show nmL [(5,[],0,false,-1,0,())]=true; decide +kernel,by simp,by simp⟩

theorem KO : ∃ f:Cur->(List Ty)×Cur,Ad prog 51 (Ent.own (HQ f)).F/\∀  (c:Cur),(c.good 80000000)->(∀ n,c.good n->n<=80000000->(f  c).2.good (n+6250))/\AC (f  c).1=true/\nmL (f  c).1=true/\1<=(f  c).1.length/\(f  c).1.length<=30:=by
 have ex:=fun  (c:Cur) (hc:c.good 80000000)=>XD  c.l c.a c.s hc
 classical
 refine ⟨fun  c=>if h:c.good 80000000 then (ex  c h).choose else ([],c),?_,fun  c hc=>?_⟩
 rotate_left
 ·simp only [dif_pos hc]
  exact (ex  c hc).choose_spec.2
 refine Au (kc func103 FX (kc func102 XH (kc func101 Acf KnowsL.nil))).knows (Λ:=(Ab [])) func51 (c:=f51.body.getD .skip) (by kernel_rfl) fun vs bs r hq hv hb=>?_
 unfold Ent.F HQ at hq
 dsimp only at hq
 split at hq
 ·rename_i  l a s
  obtain ⟨hc,hx⟩:=Ae hq
  have hc:=of_decide_eq_true hc
  refine ⟨Aq _,((ex  (Cur.mk l a s) hc).choose_spec.1).trans ?_⟩
  rw [dif_pos hc] at hx
  exact hx
 ·cases hq
noncomputable def BS:Cur->(List Ty)×Cur:=KO.choose
theorem KP:Ad prog 51 (Ent.own (HQ BS)).F:=KO.choose_spec.1
theorem N9 : ∀  (c:Cur),(c.good 80000000)->(∀ n,c.good n->n<=80000000->(BS  c).2.good (n+6250))/\AC (BS  c).1=true/\nmL (BS  c).1=true/\1<=(BS  c).1.length/\(BS  c).1.length<=30:=KO.choose_spec.2
def KV (f:Cur->(List Ty)×Cur):Gm
 | [.ptr 0 0],[.box [.sl (.int .u8) l,.i .i64 a,.i .u64 s]]=>.need (decide ((Cur.mk l a s).good 70000000)) (.leaf (.agg [.ref 1 0 (f  (Cur.mk l a s)).1.length],[some (cB (f  (Cur.mk l a s)).2),some (.row false none TCd (f  (Cur.mk l a s)).1)]))
 | _,_=>.no
theorem Nm {w:List Ty} {i:Nat} {z:Ty} (h:nmL w=true) (hz:z.2.1.length<=maxI):nmL (w.set i z)=true:=by
 unfold nmL at h ⊢
 rw [all_eq_true] at h ⊢
 intro x hx
 rcases List.mem_or_eq_of_mem_set hx with hx | rfl
 ·exact h x hx
 ·exact dcT hz
theorem Y1 {w:List Ty} {i:Nat} {z:Ty} (h:nmL w=true) (hz:w[i]? = some z):z.2.1.length<=maxI:=by
 unfold nmL at h
 exact of_decide_eq_true (all_eq_true.1 h z (List.mem_of_getElem? hz))
theorem Vv {l:List (List UInt8)} {i n:Nat} (h:l.all (fun x=>decide (x.length<=n))=true):(l.getD i []).length<=n:=by
 rw [List.getD_eq_getElem?_getD]
 cases e:l[i]? with
 | none=>simp
 | some x=>exact of_decide_eq_true (all_eq_true.1 h x (List.mem_of_getElem? e))
theorem Tp (f:Cur->List Ty×Cur)  (l:List Int) (a s:Int):Bt prog (Ab [(51,.own (HQ f)),(53,.own C7),(103,.own Bk),(105,.own Gv),(106,.own LD)]) (Ab []) f55 [.ptr 0 0] [.box [.sl (.int .u8) l,.j a,.i .u64 s]] =
 ((ifT (decide ((Cur.mk l a s).good (80000000:Int))) (ifT (decide ((f (Cur.mk l a s)).snd.good (900000000:Int))) (ifB ((f (Cur.mk l a s)).snd.pickV (12:Int)==(0 :
 Int)) (ifT (decide (((f (Cur.mk l a s)).snd.pickC (12:Int)).good (900000000:Int))) (ifT (decide ((((f (Cur.mk l a s)).snd.pickC (12:Int)).pickC (↑(f (Cur.mk l a
 s)).fst.length:Int)).good (900000000:Int))) (ifB ((((f (Cur.mk l a s)).snd.pickC (12:Int)).pickC (↑(f (Cur.mk l a s)).fst.length:Int)).pickV (5:Int)==(0 :
 Int)) (ifT (decide (((((f (Cur.mk l a s)).snd.pickC (12:Int)).pickC (↑(f (Cur.mk l a s)).fst.length:Int)).pickC (5:Int)).good (900000000:Int))) (ifT (decide ((0 :
 Int)<=((f (Cur.mk l a s)).snd.pickC (12:Int)).pickV (↑(f (Cur.mk l a s)).fst.length:Int))&&decide (((f (Cur.mk l a s)).snd.pickC (12:Int)).pickV (↑(f (Cur.mk l a
 s)).fst.length:Int)<(↑(f (Cur.mk l a s)).fst.length:Int))) (Ap (f (Cur.mk l a s)).fst[0+(((f (Cur.mk l a s)).snd.pickC (12:Int)).pickV (↑(f (Cur.mk
 l a s)).fst.length:Int)).toNat]? fun z=>some (V.agg [V.ref 1 0 (f (Cur.mk l a s)).fst.length],[some (Blk.box [V.sl (Cd.int .u8) (((((f (Cur.mk l a s)).snd.pickC (12
 : Int)).pickC (↑(f (Cur.mk l a s)).fst.length:Int)).pickC (5:Int)).pickC (7:Int)).l,V.j (((((f (Cur.mk l a s)).snd.pickC (12:Int)).pickC (↑(f (Cur.mk l a
 s)).fst.length:Int)).pickC (5:Int)).pickC (7:Int)).a,V.i .u64 (((((f (Cur.mk l a s)).snd.pickC (12:Int)).pickC (↑(f (Cur.mk l a s)).fst.length:Int)).pickC (5 :
 Int)).pickC (7:Int)).s]),some (Blk.row false none TCd ((f (Cur.mk l a s)).fst.set (0+(((f (Cur.mk l a s)).snd.pickC (12:Int)).pickV (↑(f (Cur.mk l a
 s)).fst.length:Int)).toNat) (((((f (Cur.mk l a s)).snd.pickC (12:Int)).pickC (↑(f (Cur.mk l a s)).fst.length:Int)).pickC (5:Int)).pickV (7:Int),z.snd.fst,
 z.snd.snd.fst,z.snd.snd.snd.fst,z.snd.snd.snd.snd.fst,z.snd.snd.snd.snd.snd.fst,())))])))) (ifB ((((f (Cur.mk l a s)).snd.pickC (12:Int)).pickC (↑(f (Cur.mk l a
 s)).fst.length:Int)).pickV (5:Int)==(1:Int)) (ifT (decide (((((f (Cur.mk l a s)).snd.pickC (12:Int)).pickC (↑(f (Cur.mk l a s)).fst.length:Int)).pickC (5 :
 Int)).good (900000000:Int))) (ifT (decide ((0:Int)<=((f (Cur.mk l a s)).snd.pickC (12:Int)).pickV (↑(f (Cur.mk l a s)).fst.length:Int))&&decide (((f (Cur.mk l
 a s)).snd.pickC (12:Int)).pickV (↑(f (Cur.mk l a s)).fst.length:Int)<(↑(f (Cur.mk l a s)).fst.length:Int))) (Ap (f (Cur.mk l a s)).fst[0+(((f
 (Cur.mk l a s)).snd.pickC (12:Int)).pickV (↑(f (Cur.mk l a s)).fst.length:Int)).toNat]? fun z=>some (V.agg [V.ref 1 0 (f (Cur.mk l a s)).fst.length],[some (Blk.box
 [V.sl (Cd.int .u8) (((((f (Cur.mk l a s)).snd.pickC (12:Int)).pickC (↑(f (Cur.mk l a s)).fst.length:Int)).pickC (5:Int)).pickC (4:Int)).l,V.j (((((f (Cur.mk
 l a s)).snd.pickC (12:Int)).pickC (↑(f (Cur.mk l a s)).fst.length:Int)).pickC (5:Int)).pickC (4:Int)).a,V.i .u64 (((((f (Cur.mk l a s)).snd.pickC (12 :
 Int)).pickC (↑(f (Cur.mk l a s)).fst.length:Int)).pickC (5:Int)).pickC (4:Int)).s]),some (Blk.row false none TCd ((f (Cur.mk l a s)).fst.set (0+(((f
 (Cur.mk l a s)).snd.pickC (12:Int)).pickV (↑(f (Cur.mk l a s)).fst.length:Int)).toNat) (z.fst,z.snd.fst,((((f (Cur.mk l a s)).snd.pickC (12:Int)).pickC (↑(f
 (Cur.mk l a s)).fst.length:Int)).pickC (5:Int)).pickV (4:Int),z.snd.snd.snd.fst,z.snd.snd.snd.snd.fst,z.snd.snd.snd.snd.snd.fst,())))])))) (ifB ((((f (Cur.mk l
 a s)).snd.pickC (12:Int)).pickC (↑(f (Cur.mk l a s)).fst.length:Int)).pickV (5:Int)==(2:Int)) (ifT (decide (((((f (Cur.mk l a s)).snd.pickC (12:Int)).pickC
 (↑(f (Cur.mk l a s)).fst.length:Int)).pickC (5:Int)).good (900000000:Int))) (ifT (decide ((0:Int)<=((f (Cur.mk l a s)).snd.pickC (12:Int)).pickV (↑(f (Cur.mk l
 a s)).fst.length:Int))&&decide (((f (Cur.mk l a s)).snd.pickC (12:Int)).pickV (↑(f (Cur.mk l a s)).fst.length:Int)<(↑(f (Cur.mk l a s)).fst.length:Int)))
 (Ap (f (Cur.mk l a s)).fst[0+(((f (Cur.mk l a s)).snd.pickC (12:Int)).pickV (↑(f (Cur.mk l a s)).fst.length:Int)).toNat]? fun z=>some (V.agg [V.ref 1
 0 (f (Cur.mk l a s)).fst.length],[some (Blk.box [V.sl (Cd.int .u8) (((((f (Cur.mk l a s)).snd.pickC (12:Int)).pickC (↑(f (Cur.mk l a s)).fst.length:Int)).pickC (5 :
 Int)).pickC (4:Int)).l,V.j (((((f (Cur.mk l a s)).snd.pickC (12:Int)).pickC (↑(f (Cur.mk l a s)).fst.length:Int)).pickC (5:Int)).pickC (4:Int)).a,V.i
 .u64 (((((f (Cur.mk l a s)).snd.pickC (12:Int)).pickC (↑(f (Cur.mk l a s)).fst.length:Int)).pickC (5:Int)).pickC (4:Int)).s]),some (Blk.row false none TCd ((f
 (Cur.mk l a s)).fst.set (0+(((f (Cur.mk l a s)).snd.pickC (12:Int)).pickV (↑(f (Cur.mk l a s)).fst.length:Int)).toNat) (z.fst,z.snd.fst,z.snd.snd.fst,
 z.snd.snd.snd.fst,i64.wrap (((((f (Cur.mk l a s)).snd.pickC (12:Int)).pickC (↑(f (Cur.mk l a s)).fst.length:Int)).pickC (5:Int)).pickV (4:Int)-(1 :
 Int)),z.snd.snd.snd.snd.snd.fst,())))])))) (ifB ((((f (Cur.mk l a s)).snd.pickC (12:Int)).pickC (↑(f (Cur.mk l a s)).fst.length:Int)).pickV (5:Int)==(3:Int))
 (ifT (decide (((((f (Cur.mk l a s)).snd.pickC (12:Int)).pickC (↑(f (Cur.mk l a s)).fst.length:Int)).pickC (5:Int)).good (900000000:Int)/\1<=3/\
 3<=3)) (ifT (decide ((0:Int)<=((f (Cur.mk l a s)).snd.pickC (12:Int)).pickV (↑(f (Cur.mk l a s)).fst.length:Int))&&decide (((f (Cur.mk l a
 s)).snd.pickC (12:Int)).pickV (↑(f (Cur.mk l a s)).fst.length:Int)<(↑(f (Cur.mk l a s)).fst.length:Int))) (Ap (f (Cur.mk l a s)).fst[0+(((f (Cur.mk
 l a s)).snd.pickC (12:Int)).pickV (↑(f (Cur.mk l a s)).fst.length:Int)).toNat]? fun z=>some (V.agg [V.ref 1 0 (f (Cur.mk l a s)).fst.length],[some (Blk.box [V.sl
 (Cd.int .u8) (((((f (Cur.mk l a s)).snd.pickC (12:Int)).pickC (↑(f (Cur.mk l a s)).fst.length:Int)).pickC (5:Int)).pickC (↑(3:Nat):Int)).l,V.j (((((f
 (Cur.mk l a s)).snd.pickC (12:Int)).pickC (↑(f (Cur.mk l a s)).fst.length:Int)).pickC (5:Int)).pickC (↑(3:Nat):Int)).a,V.i .u64 (((((f (Cur.mk l a
 s)).snd.pickC (12:Int)).pickC (↑(f (Cur.mk l a s)).fst.length:Int)).pickC (5:Int)).pickC (↑(3:Nat):Int)).s]),some (Blk.row false none TCd ((f (Cur.mk l a
 s)).fst.set (0+(((f (Cur.mk l a s)).snd.pickC (12:Int)).pickV (↑(f (Cur.mk l a s)).fst.length:Int)).toNat) (z.fst,z.snd.fst,z.snd.snd.fst,
 z.snd.snd.snd.fst,z.snd.snd.snd.snd.fst,((-1:Int)::(20:Int)::(21:Int)::Ag (Cd.int .i64).den).getD (0+(((((f (Cur.mk l a s)).snd.pickC (12 :
 Int)).pickC (↑(f (Cur.mk l a s)).fst.length:Int)).pickC (5:Int)).pickV (↑(3:Nat):Int)).toNat) (0:(Cd.int .i64).den),())))])))) (ifT (decide (((((f (Cur.mk l a
 s)).snd.pickC (12:Int)).pickC (↑(f (Cur.mk l a s)).fst.length:Int)).pickC (5:Int)).good (900000000:Int)/\1<=3/\3<=3)) (ifT
 (decide ((0:Int)<=((f (Cur.mk l a s)).snd.pickC (12:Int)).pickV (↑(f (Cur.mk l a s)).fst.length:Int))&&decide (((f (Cur.mk l a s)).snd.pickC (12:Int)).pickV
 (↑(f (Cur.mk l a s)).fst.length:Int)<(↑(f (Cur.mk l a s)).fst.length:Int))) (Ap (f (Cur.mk l a s)).fst[0+(((f (Cur.mk l a s)).snd.pickC (12 :
 Int)).pickV (↑(f (Cur.mk l a s)).fst.length:Int)).toNat]? fun z=>some (V.agg [V.ref 1 0 (f (Cur.mk l a s)).fst.length],[some (Blk.box [V.sl (Cd.int .u8) (((((f
 (Cur.mk l a s)).snd.pickC (12:Int)).pickC (↑(f (Cur.mk l a s)).fst.length:Int)).pickC (5:Int)).pickC (↑(3:Nat):Int)).l,V.j (((((f (Cur.mk l a
 s)).snd.pickC (12:Int)).pickC (↑(f (Cur.mk l a s)).fst.length:Int)).pickC (5:Int)).pickC (↑(3:Nat):Int)).a,V.i .u64 (((((f (Cur.mk l a s)).snd.pickC (12 :
 Int)).pickC (↑(f (Cur.mk l a s)).fst.length:Int)).pickC (5:Int)).pickC (↑(3:Nat):Int)).s]),some (Blk.row false none TCd ((f (Cur.mk l a s)).fst.set (0 +
 (((f (Cur.mk l a s)).snd.pickC (12:Int)).pickV (↑(f (Cur.mk l a s)).fst.length:Int)).toNat) (z.fst,(Ag UInt8::[(97:UInt8)]::[(65:UInt8)]::Ag
 Cd.str.den).getD (0+(((((f (Cur.mk l a s)).snd.pickC (12:Int)).pickC (↑(f (Cur.mk l a s)).fst.length:Int)).pickC (5:Int)).pickV (↑(3:Nat):Int)).toNat)
 (Ag UInt8),z.snd.snd.fst,z.snd.snd.snd.fst,z.snd.snd.snd.snd.fst,z.snd.snd.snd.snd.snd.fst,())))])))))))))) (some (V.agg [V.ref 1 0 (f (Cur.mk l a s)).fst.length],
 [some (Blk.box [V.sl (Cd.int .u8) ((f (Cur.mk l a s)).snd.pickC (12:Int)).l,V.j ((f (Cur.mk l a s)).snd.pickC (12:Int)).a,V.i .u64 ((f (Cur.mk l a
 s)).snd.pickC (12:Int)).s]),some (Blk.row false none TCd (f (Cur.mk l a s)).fst)]))))):_):=by kernel_rfl
theorem XJ  (l:List Int) (a s:Int) (hc:(Cur.mk l a s).good 70000000):Ex1 (Bt prog (Ab [(51,.own (HQ BS)),(53,.own C7),(103,.own Bk),(105,.own Gv),(106,.own LD)]) (Ab []) f55 [.ptr 0 0] [.box [.sl (.int .u8) l,.j a,.i .u64 s]]) (fun y:(List Ty)×Cur=>((.agg [.ref 1 0 y.1.length],[some (cB y.2),some (.row false none TCd y.1)]):V×List (Option Blk))) (fun y=>(∀ n,(Cur.mk l a s).good n->n<=70000000->y.2.good (n+6300))/\nmL y.1=true/\1<=y.1.length/\y.1.length<=30):=by
 refine Ex1.of (Tp BS  l a s) ?_
 obtain ⟨p1,_,p3,p4,p5⟩:=N9 (Cur.mk l a s) (Cur.good_mono hc (by omega))
 have g0:=Cur.good_mono hc (show (70000000:Int)<=80000000 by omega)
 have q1:=p1 70000000 hc (by omega)
 have p1 : ∀ n,(Cur.mk l a s).good n->n<=70000000->(BS (Cur.mk l a s)).2.good (n+6250):=fun n hn hm=>p1 n hn (by omega)
 generalize BS (Cur.mk l a s)=F at *
 obtain ⟨w,c⟩:=F
 dsimp only at *
 have hM:maxI=9223372036854775807:=rfl
 have hr:=Cur.pickV_range (c:=c.pickC 12) (n:=70007000) (k:=(w.length:Int)) (Cur.pk (Cur.good_mono q1 (by omega))) (by omega)
 have hi:((c.pickC 12).pickV (w.length:Int)).toNat<w.length:=by omega
 simp only [BN,AI,zero_add]
 repeat' first
  | with_reducible refine Ex1.B (fun h=>?_) (fun h=>?_)
  | with_reducible refine Ex1.T ?_ ?_
  | with_reducible refine Ex1.S ⟨_,gtE hi⟩ fun z hz=>?_
 all_goals try simp only [BN]
 all_goals first
  | exact dcT g0
  | (refine dcT ?_; (repeat with_reducible apply Cur.pk); exact Cur.good_mono q1 (by omega))
  | (refine dcT ⟨?_,by omega,by omega⟩; (repeat with_reducible apply Cur.pk); exact Cur.good_mono q1 (by omega))
  | (simp only [anE,dcE]; exact ⟨hr.1,hr.2⟩)
  | exact Ex1.c _ rfl rfl ⟨fun n hn hm=>by (repeat with_reducible apply Cur.pk); exact Cur.good_mono (p1 n hn hm) (by omega),p3,p4,p5⟩
  | exact Ex1.c (w.set _ (_,_,_,_,_,_,())) rfl (by simp only [length_set]) ⟨fun n hn hm=>by (repeat with_reducible apply Cur.pk); exact Cur.good_mono (p1 n hn hm) (by omega),Nm p3 (show z.2.1.length<=maxI from Y1 p3 hz),by rw [length_set]; exact p4,by rw [length_set]; exact p5⟩
  | exact Ex1.c (w.set _ (_,_,_,_,_,_,())) rfl (by simp only [length_set]) ⟨fun n hn hm=>by (repeat with_reducible apply Cur.pk); exact Cur.good_mono (p1 n hn hm) (by omega),Nm p3 (Nat.le_trans (Vv (n:=1) (by decide +kernel)) (by omega)),by rw [length_set]; exact p4,by rw [length_set]; exact p5⟩

theorem KU : ∃ f:Cur->(List Ty)×Cur,Ad prog 55 (Ent.own (KV f)).F/\∀  (c:Cur),(c.good 70000000)->(∀ n,c.good n->n<=70000000->(f  c).2.good (n+6300))/\nmL (f  c).1=true/\1<=(f  c).1.length/\(f  c).1.length<=30:=by
 have ex:=fun  (c:Cur) (hc:c.good 70000000)=>XJ  c.l c.a c.s hc
 classical
 refine ⟨fun  c=>if h:c.good 70000000 then (ex  c h).choose else ([],c),?_,fun  c hc=>?_⟩
 rotate_left
 ·simp only [dif_pos hc]
  exact (ex  c hc).choose_spec.2
 refine Au (kc func51 KP (kc func53 QR (kc func103 FX (kc func105 Wn (kc func106 cof KnowsL.nil))))).knows (Λ:=(Ab [])) func55 (c:=f55.body.getD .skip) (by kernel_rfl) fun vs bs r hq hv hb=>?_
 unfold Ent.F KV at hq
 dsimp only at hq
 split at hq
 ·rename_i  l a s
  obtain ⟨hc,hx⟩:=Ae hq
  have hc:=of_decide_eq_true hc
  refine ⟨Aq _,((ex  (Cur.mk l a s) hc).choose_spec.1).trans ?_⟩
  rw [dif_pos hc] at hx
  exact hx
 ·cases hq
noncomputable def Fj:Cur->(List Ty)×Cur:=KU.choose
theorem Pw:Ad prog 55 (Ent.own (KV Fj)).F:=KU.choose_spec.1
theorem NA : ∀  (c:Cur),(c.good 70000000)->(∀ n,c.good n->n<=70000000->(Fj  c).2.good (n+6300))/\nmL (Fj  c).1=true/\1<=(Fj  c).1.length/\(Fj  c).1.length<=30:=KU.choose_spec.2
def KT (f:Cur->(Int)×Cur):Gm
 | [.ptr 0 0],[.box [.sl (.int .u8) l,.i .i64 a,.i .u64 s]]=>.need (decide ((Cur.mk l a s).good 80000000)) (.leaf (.i .i64 (f  (Cur.mk l a s)).1,[some (cB (f  (Cur.mk l a s)).2)]))
 | _,_=>.no
theorem Vw {l:List Int} {i:Nat} {a b:Int} (h:l.all (fun x=>decide (a<=x/\x<=b))=true) (h0:a<=0/\0<=b):a<=l.getD i 0/\l.getD i 0<=b:=by
 rw [List.getD_eq_getElem?_getD]
 cases e:l[i]? with
 | none=>exact h0
 | some x=>exact of_decide_eq_true (all_eq_true.1 h x (List.mem_of_getElem? e))
theorem Tm   (l:List Int) (a s:Int):Bt prog (Ab [(103,.own Bk),(105,.own Gv)]) (Ab []) f132 [.ptr 0 0] [.box [.sl (.int .u8) l,.j a,.i .u64 s]] =
 ((ifT (decide ((Cur.mk l a s).good (900000000:Int))) (ifB ((Cur.mk l a s).pickV (6:Int)==(0:Int)) (ifT (decide (((Cur.mk l a s).pickC (6:Int)).good (900000000 :
 Int)/\1<=10/\10<=10)) (some (V.j (((-1000000001:Int)::(-1000000000:Int)::(-1:Int)::(0:Int)::(63:Int)::(64 :
 Int)::(-64:Int)::(-65:Int)::(1000000000:Int)::(1000000001:Int)::Ag (Cd.int .i64).den).getD (0+(((Cur.mk l a s).pickC (6:Int)).pickV (↑(10
 : Nat):Int)).toNat) (0:(Cd.int .i64).den)),[some (Blk.box [V.sl (Cd.int .u8) (((Cur.mk l a s).pickC (6:Int)).pickC (↑(10:Nat):Int)).l,V.j (((Cur.mk l a
 s).pickC (6:Int)).pickC (↑(10:Nat):Int)).a,V.i .u64 (((Cur.mk l a s).pickC (6:Int)).pickC (↑(10:Nat):Int)).s])]))) (ifB ((Cur.mk l a s).pickV (6:Int)==(1
 : Int)) (ifT (decide (((Cur.mk l a s).pickC (6:Int)).good (900000000:Int))) (some (V.j (i64.wrap (((Cur.mk l a s).pickC (6:Int)).pickV (100000:Int) -
 (50000:Int))),[some (Blk.box [V.sl (Cd.int .u8) (((Cur.mk l a s).pickC (6:Int)).pickC (100000:Int)).l,V.j (((Cur.mk l a s).pickC (6:Int)).pickC (100000 :
 Int)).a,V.i .u64 (((Cur.mk l a s).pickC (6:Int)).pickC (100000:Int)).s])]))) (ifT (decide (((Cur.mk l a s).pickC (6:Int)).good (900000000:Int))) (some (V.i .i64
 (i64.wrap (((Cur.mk l a s).pickC (6:Int)).pickV (20:Int)-(5:Int))),[some (Blk.box [V.sl (Cd.int .u8) (((Cur.mk l a s).pickC (6:Int)).pickC (20 :
 Int)).l,V.j (((Cur.mk l a s).pickC (6:Int)).pickC (20:Int)).a,V.i .u64 (((Cur.mk l a s).pickC (6:Int)).pickC (20:Int)).s])])))))):_):=by kernel_rfl
theorem XG  (l:List Int) (a s:Int) (hc:(Cur.mk l a s).good 80000000):Ex1 (Bt prog (Ab [(103,.own Bk),(105,.own Gv)]) (Ab []) f132 [.ptr 0 0] [.box [.sl (.int .u8) l,.j a,.i .u64 s]]) (fun y:(Int)×Cur=>((.j y.1,[some (cB y.2)]):V×List (Option Blk))) (fun y=>(∀ n,(Cur.mk l a s).good n->n<=80000000->y.2.good (n+8))/\(-2000000000<=y.1/\y.1<=2000000000)):=by
 refine Ex1.of (Tm   l a s) ?_
 have r1:=fun {c:Cur} {k:Int} (h:c.good 80000100) (hk:1<=k)=>Cur.pickV_range (c:=c) (n:=80000100) (k:=k) h hk
 have ra:=r1 (c:=((Cur.mk l a s).pickC 6)) (k:=100000) (Cur.pk (Cur.good_mono hc (by omega))) (by omega)
 have rb:=r1 (c:=((Cur.mk l a s).pickC 6)) (k:=20) (Cur.pk (Cur.good_mono hc (by omega))) (by omega)
 simp only [BN,AI,zero_add]
 rw [Ay (n:=((Cur.mk l a s).pickC 6).pickV 100000-50000) (by omega) (by omega),Ay (n:=((Cur.mk l a s).pickC 6).pickV 20-5) (by omega) (by omega)]
 repeat' first
  | with_reducible refine Ex1.B (fun h=>?_) (fun h=>?_)
  | with_reducible refine Ex1.T ?_ ?_
 all_goals first
  | (refine dcT ?_; (repeat with_reducible apply Cur.pk); exact Cur.good_mono hc (by omega))
  | (refine dcT ⟨?_,by omega,by omega⟩; (repeat with_reducible apply Cur.pk); exact Cur.good_mono hc (by omega))
  | refine Ex1.c _ rfl rfl ⟨fun n hn hm=>by (repeat with_reducible apply Cur.pk); exact Cur.good_mono hn (by omega),?_⟩
 all_goals first
  | omega
  | exact Vw (by decide +kernel) (by omega)
theorem KS : ∃ f:Cur->(Int)×Cur,Ad prog 132 (Ent.own (KT f)).F/\∀  (c:Cur),(c.good 80000000)->(∀ n,c.good n->n<=80000000->(f  c).2.good (n+8))/\(-2000000000<=(f  c).1/\(f  c).1<=2000000000):=by
 have ex:=fun  (c:Cur) (hc:c.good 80000000)=>XG  c.l c.a c.s hc
 classical
 refine ⟨fun  c=>if h:c.good 80000000 then (ex  c h).choose else (0,c),?_,fun  c hc=>?_⟩
 rotate_left
 ·simp only [dif_pos hc]
  exact (ex  c hc).choose_spec.2
 refine Au (kc func103 FX (kc func105 Wn KnowsL.nil)).knows (Λ:=(Ab [])) func132 (c:=f132.body.getD .skip) (by kernel_rfl) fun vs bs r hq hv hb=>?_
 unfold Ent.F KT at hq
 dsimp only at hq
 split at hq
 ·rename_i  l a s
  obtain ⟨hc,hx⟩:=Ae hq
  have hc:=of_decide_eq_true hc
  refine ⟨Aq _,((ex  (Cur.mk l a s) hc).choose_spec.1).trans ?_⟩
  rw [dif_pos hc] at hx
  exact hx
 ·cases hq
noncomputable def E6:Cur->(Int)×Cur:=KS.choose
theorem Pv:Ad prog 132 (Ent.own (KT E6)).F:=KS.choose_spec.1
theorem RS : ∀  (c:Cur),(c.good 80000000)->(∀ n,c.good n->n<=80000000->(E6  c).2.good (n+8))/\(-2000000000<=(E6  c).1/\(E6  c).1<=2000000000):=KS.choose_spec.2
def HP (f:Cur->(Int)×Cur):Gm
 | [.ptr 0 0],[.box [.sl (.int .u8) l,.i .i64 a,.i .u64 s]]=>.need (decide ((Cur.mk l a s).good 80000000)) (.leaf (.i .i64 (f  (Cur.mk l a s)).1,[some (cB (f  (Cur.mk l a s)).2)]))
 | _,_=>.no
mutual
def vbR:Rose Lab->Nat
 | .node _ ks=>3*vbL ks+1
def vbL:List (Rose Lab)->Nat
 | []=>0
 | z::l=>vbR z+vbL l
end
def Cur.room (c:Cur) (k:Nat):Prop:=c.good (60000000-(k:Int))
instance (c:Cur) (k:Nat):Decidable (c.room k):=by unfold Cur.room; exact inferInstance
def Fy (n:Nat) (f:Rose Lab->Cur->Rose An×Cur):Gm
 | [.ptr 0 0,.agg [.i .i64 y0,.s y1,.i .i64 y2,.b y3,.i .i64 y4,.sl (.rose LCd) ys]],[.box [.sl (.int .u8) l,.i .i64 a,.i .u64 s]]=>.need (decide (Ao (Rose.node (y0,y1,y2,y3,y4,()) ys)<=n/\Aj (Rose.node (y0,y1,y2,y3,y4,()) ys)=true/\vbR (Rose.node (y0,y1,y2,y3,y4,()) ys)<=1000000/\(Cur.mk l a s).room (8*vbR (Rose.node (y0,y1,y2,y3,y4,()) ys)))) (.leaf (.agg [.i .i64 (f (Rose.node (y0,y1,y2,y3,y4,()) ys) (Cur.mk l a s)).1.lab.1,.s (f (Rose.node (y0,y1,y2,y3,y4,()) ys) (Cur.mk l a s)).1.lab.2.1,.i .i64 (f (Rose.node (y0,y1,y2,y3,y4,()) ys) (Cur.mk l a s)).1.lab.2.2.1,.b (f (Rose.node (y0,y1,y2,y3,y4,()) ys) (Cur.mk l a s)).1.lab.2.2.2.1,.ref 1 0 (f (Rose.node (y0,y1,y2,y3,y4,()) ys) (Cur.mk l a s)).1.kids.length],[some (cB (f (Rose.node (y0,y1,y2,y3,y4,()) ys) (Cur.mk l a s)).2),some (.row false none (.rose VCd) (f (Rose.node (y0,y1,y2,y3,y4,()) ys) (Cur.mk l a s)).1.kids)]))
 | _,_=>.no
def HO (N:Nat) (o:Rose Lab×Cur×List (Rose An)×Nat->List (Rose An)×Cur):LoopEnt:=⟨80,[0,3,4,5,6],[4,5],[],fun
 | ([.ptr 0 0,.ptr 1 0,.ptr 2 0,.ptr 3 0,.i .i64 n],[some (.box [.sl (.int .u8) l,.i .i64 a,.i .u64 s]),some (.box [.i .i64 y0,.s y1,.i .i64 y2,.b y3,.i .i64 y4,.sl (.rose LCd) ys]),some (.box [.i .i64 0,.s [],.i .i64 0,.b false,.ref 4 0 0]),some (.box [.i .i64 0,.s [],.i .i64 0,.b true,.ref 5 0 w]),some (.row false none (.rose VCd) []),some (.row false none (.rose VCd) us)])=>.need (decide (Ao (Rose.node (y0,y1,y2,y3,y4,()) ys)<=N+1/\Aj (Rose.node (y0,y1,y2,y3,y4,()) ys)=true/\y0=4/\vbR (Rose.node (y0,y1,y2,y3,y4,()) ys)<=1000000/\0<=n/\n<=3/\w=us.length/\us.length<=3-n.toNat/\(Cur.mk l a s).room (6+8*(n.toNat*vbL ys)))) (.leaf (.exit 1,([.ptr 1 0,.ptr 2 0],[some (cB (o ((Rose.node (y0,y1,y2,y3,y4,()) ys),(Cur.mk l a s),us,n.toNat)).2),some (.box [.i .i64 0,.s [],.i .i64 0,.b false,.ref 3 0 0]),some (.box [.i .i64 0,.s [],.i .i64 0,.b true,.ref 4 0 (o ((Rose.node (y0,y1,y2,y3,y4,()) ys),(Cur.mk l a s),us,n.toNat)).1.length]),some (.row false none (.rose VCd) []),some (.row false none (.rose VCd) (o ((Rose.node (y0,y1,y2,y3,y4,()) ys),(Cur.mk l a s),us,n.toNat)).1)])))
 | _=>.no⟩
def HN (N:Nat) (o:List (Rose Lab)×Cur×List (Rose An)×Nat->List (Rose An)×Cur):LoopEnt:=⟨80,[0,4,5,54,55,56],[4,5],[],fun
 | ([.ptr 0 0,.ptr 1 0,.ptr 2 0,.sl (.rose LCd) ks,.i .i64 k,.i .i64 i],[some (.box [.sl (.int .u8) l,.i .i64 a,.i .u64 s]),some (.box [.i .i64 0,.s [],.i .i64 0,.b false,.ref 3 0 0]),some (.box [.i .i64 0,.s [],.i .i64 0,.b true,.ref 4 0 w]),some (.row false none (.rose VCd) []),some (.row false none (.rose VCd) us)])=>.need (decide (Ak ks<=N/\A8 5 ks=true/\3*vbL ks<=1000000/\k=ks.length/\0<=i/\i.toNat<=ks.length/\w=us.length/\us.length<=i.toNat/\(Cur.mk l a s).room (8+24*vbL (ks.drop i.toNat)))) (.leaf (.exit 3,([.ptr 1 0,.ptr 2 0],[some (cB (o (ks,(Cur.mk l a s),us,i.toNat)).2),some (.box [.i .i64 0,.s [],.i .i64 0,.b false,.ref 3 0 0]),some (.box [.i .i64 0,.s [],.i .i64 0,.b true,.ref 4 0 (o (ks,(Cur.mk l a s),us,i.toNat)).1.length]),some (.row false none (.rose VCd) []),some (.row false none (.rose VCd) (o (ks,(Cur.mk l a s),us,i.toNat)).1)])))
 | _=>.no⟩
theorem Tj (f:Cur->(Int)×Cur)  (l:List Int) (a s:Int):Bt prog (Ab [(132,.own (KT f)),(98,.rd1 FG)]) (Ab []) f119 [.ptr 0 0] [.box [.sl (.int .u8) l,.j a,.i .u64 s]] =
 ((ifT (decide ((Cur.mk l a s).good (80000000:Int))) (ifB (!BT (f (Cur.mk l a s)).fst) (some (V.j 7,[some (Blk.box [V.sl (Cd.int .u8) (f (Cur.mk l a s)).snd.l,V.i
 .i64 (f (Cur.mk l a s)).snd.a,V.i .u64 (f (Cur.mk l a s)).snd.s])])) (some (V.j (f (Cur.mk l a s)).fst,[some (Blk.box [V.sl (Cd.int .u8) (f (Cur.mk l a s)).snd.l,
 V.j (f (Cur.mk l a s)).snd.a,V.i .u64 (f (Cur.mk l a s)).snd.s])])))):_):=by kernel_rfl
theorem XC  (l:List Int) (a s:Int) (hc:(Cur.mk l a s).good 80000000):Ex1 (Bt prog (Ab [(132,.own (KT E6)),(98,.rd1 FG)]) (Ab []) f119 [.ptr 0 0] [.box [.sl (.int .u8) l,.j a,.i .u64 s]]) (fun y:(Int)×Cur=>((.j y.1,[some (cB y.2)]):V×List (Option Blk))) (fun y=>(∀ n,(Cur.mk l a s).good n->n<=80000000->y.2.good (n+8))/\BT y.1=true):=by
 refine Ex1.of (Tj E6  l a s) ?_
 obtain ⟨p1,p2⟩:=RS (Cur.mk l a s) hc
 simp only [BN]
 refine Ex1.T (dcT hc) (Ex1.B (fun h=>?_) (fun h=>?_))
 all_goals refine Ex1.c _ rfl rfl ⟨p1,?_⟩
 ·show BT 7=true; decide +kernel
 ·show BT (E6 (Cur.mk l a s)).1=true; cases e:BT (E6 (Cur.mk l a s)).1; rw [e] at h; cases h; rfl
theorem KN : ∃ f:Cur->(Int)×Cur,Ad prog 119 (Ent.own (HP f)).F/\∀  (c:Cur),(c.good 80000000)->(∀ n,c.good n->n<=80000000->(f  c).2.good (n+8))/\BT (f  c).1=true:=by
 have ex:=fun  (c:Cur) (hc:c.good 80000000)=>XC  c.l c.a c.s hc
 classical
 refine ⟨fun  c=>if h:c.good 80000000 then (ex  c h).choose else (0,c),?_,fun  c hc=>?_⟩
 rotate_left
 ·simp only [dif_pos hc]
  exact (ex  c hc).choose_spec.2
 refine Au (kc func132 Pv (kc func98 RC KnowsL.nil)).knows (Λ:=(Ab [])) func119 (c:=f119.body.getD .skip) (by kernel_rfl) fun vs bs r hq hv hb=>?_
 unfold Ent.F HP at hq
 dsimp only at hq
 split at hq
 ·rename_i  l a s
  obtain ⟨hc,hx⟩:=Ae hq
  have hc:=of_decide_eq_true hc
  refine ⟨Aq _,((ex  (Cur.mk l a s) hc).choose_spec.1).trans ?_⟩
  rw [dif_pos hc] at hx
  exact hx
 ·cases hq
noncomputable def Hg:Cur->(Int)×Cur:=KN.choose
theorem VH:Ad prog 119 (Ent.own (HP Hg)).F:=KN.choose_spec.1
theorem XB : ∀  (c:Cur),(c.good 80000000)->(∀ n,c.good n->n<=80000000->(Hg  c).2.good (n+8))/\BT (Hg  c).1=true:=KN.choose_spec.2
theorem Gq (N:Nat) (f:Rose Lab->Cur->Rose An×Cur) (h:Cur->(Int)×Cur) (o1:Rose Lab×Cur×List (Rose An)×Nat->List (Rose An)×Cur) (o2:List (Rose Lab)×Cur×List (Rose An)×Nat->List (Rose An)×Cur) (y0:Int) (y1:List UInt8) (y2:Int) (y3:Bool) (y4:Int) (ys:List (Rose Lab)) (n:Int) (l:List Int) (a s:Int) (w:Nat) (us:List (Rose An)):A0 prog (Ab [(103,.own Bk),(53,.own C7),(106,.own LD),(119,.own (HP h)),(130,.mix (Fy N f))]) (Ab [(11,HO N o1),(16,HN N o2)]) 1 (body f130 0) (HO N o1) ([.ptr 0 0,.ptr 1 0,.ptr 2 0,.ptr 3 0,.j n],[some (.box [.sl (.int .u8) l,.j a,.i .u64 s]),some (.box [.j y0,.s y1,.j y2,.b y3,.j y4,.sl (.rose LCd) ys]),some (.box [.j 0,.s [],.j 0,.b false,.ref 4 0 0]),some (.box [.j 0,.s [],.j 0,.b true,.ref 5 0 w]),some (.row false none (.rose VCd) []),some (.row false none (.rose VCd) us)]) =
 ((ifB (decide (n>(0:Int))) (ifT (decide ((0:Int)<=(0:Int))&&decide ((0:Int)<(↑ys.length:Int))) (Ap ys[0]? fun z=>ifT (decide (Ao (Rose.node
 ((Rose.lab z).fst,(Rose.lab z).snd.fst,(Rose.lab z).snd.snd.fst,(Rose.lab z).snd.snd.snd.fst,(Rose.lab z).snd.snd.snd.snd.fst,()) (Rose.kids z))<=N/\Aj
 (Rose.node ((Rose.lab z).fst,(Rose.lab z).snd.fst,(Rose.lab z).snd.snd.fst,(Rose.lab z).snd.snd.snd.fst,(Rose.lab z).snd.snd.snd.snd.fst,()) (Rose.kids z))=true/\
 vbR (Rose.node ((Rose.lab z).fst,(Rose.lab z).snd.fst,(Rose.lab z).snd.snd.fst,(Rose.lab z).snd.snd.snd.fst,(Rose.lab z).snd.snd.snd.snd.fst,()) (Rose.kids z))<=
 1000000/\(Cur.mk l a s).room (8*vbR (Rose.node ((Rose.lab z).fst,(Rose.lab z).snd.fst,(Rose.lab z).snd.snd.fst,(Rose.lab z).snd.snd.snd.fst,
 (Rose.lab z).snd.snd.snd.snd.fst,()) (Rose.kids z))))) (ifT (decide ((w+1)*64<=140737488355328)&&decide (w+1<=maxI)) (some
 (Ex.normal,[V.ptr 0 0,V.ptr 1 0,V.ptr 2 0,V.ptr 3 0,V.j (i64.wrap (n-(1:Int)))],[some (Blk.box [V.sl (Cd.int .u8) (f (Rose.node ((Rose.lab z).fst,
 (Rose.lab z).snd.fst,(Rose.lab z).snd.snd.fst,(Rose.lab z).snd.snd.snd.fst,(Rose.lab z).snd.snd.snd.snd.fst,()) (Rose.kids z)) (Cur.mk l a s)).snd.l,V.j (f
 (Rose.node ((Rose.lab z).fst,(Rose.lab z).snd.fst,(Rose.lab z).snd.snd.fst,(Rose.lab z).snd.snd.snd.fst,(Rose.lab z).snd.snd.snd.snd.fst,()) (Rose.kids z)) (Cur.mk l
 a s)).snd.a,V.i .u64 (f (Rose.node ((Rose.lab z).fst,(Rose.lab z).snd.fst,(Rose.lab z).snd.snd.fst,(Rose.lab z).snd.snd.snd.fst,(Rose.lab z).snd.snd.snd.snd.fst,())
 (Rose.kids z)) (Cur.mk l a s)).snd.s]),some (Blk.box [V.j y0,V.s y1,V.j y2,V.b y3,V.j y4,V.sl LCd.rose ys]),some (Blk.box [V.j 0,V.s (Ag
 UInt8),V.j 0,V.b false,V.ref 4 0 0]),some (Blk.box [V.j 0,V.s (Ag UInt8),V.j 0,V.b true,V.ref 5 0 (w+1)]),some (Blk.row false none
 VCd.rose (Ag VCd.rose.den)),some (Blk.row false none VCd.rose (take w (drop 0 us)++Rose.node ((f (Rose.node ((Rose.lab z).fst,(Rose.lab
 z).snd.fst,(Rose.lab z).snd.snd.fst,(Rose.lab z).snd.snd.snd.fst,(Rose.lab z).snd.snd.snd.snd.fst,()) (Rose.kids z)) (Cur.mk l a s)).fst.lab.fst,(f (Rose.node
 ((Rose.lab z).fst,(Rose.lab z).snd.fst,(Rose.lab z).snd.snd.fst,(Rose.lab z).snd.snd.snd.fst,(Rose.lab z).snd.snd.snd.snd.fst,()) (Rose.kids z)) (Cur.mk l a
 s)).fst.lab.snd.fst,(f (Rose.node ((Rose.lab z).fst,(Rose.lab z).snd.fst,(Rose.lab z).snd.snd.fst,(Rose.lab z).snd.snd.snd.fst,(Rose.lab z).snd.snd.snd.snd.fst,())
 (Rose.kids z)) (Cur.mk l a s)).fst.lab.snd.snd.fst,(f (Rose.node ((Rose.lab z).fst,(Rose.lab z).snd.fst,(Rose.lab z).snd.snd.fst,(Rose.lab z).snd.snd.snd.fst,
 (Rose.lab z).snd.snd.snd.snd.fst,()) (Rose.kids z)) (Cur.mk l a s)).fst.lab.snd.snd.snd.fst,()) (take (f (Rose.node ((Rose.lab z).fst,(Rose.lab z).snd.fst,
 (Rose.lab z).snd.snd.fst,(Rose.lab z).snd.snd.snd.fst,(Rose.lab z).snd.snd.snd.snd.fst,()) (Rose.kids z)) (Cur.mk l a s)).fst.kids.length (drop 0 (f
 (Rose.node ((Rose.lab z).fst,(Rose.lab z).snd.fst,(Rose.lab z).snd.snd.fst,(Rose.lab z).snd.snd.snd.fst,(Rose.lab z).snd.snd.snd.snd.fst,()) (Rose.kids z)) (Cur.mk l
 a s)).fst.kids))::Ag VCd.rose.den))]))))) (some (Ex.exit 1,[V.ptr 1 0,V.ptr 2 0],[some (Blk.box [V.sl (Cd.int .u8) l,V.j a,V.i .u64 s]),some (Blk.box [V.i
 .i64 0,V.s (Ag UInt8),V.j 0,V.b false,V.ref 3 0 0]),some (Blk.box [V.j 0,V.s (Ag UInt8),V.j 0,V.b true,V.ref 4 0 w]),some (Blk.row false none
 VCd.rose (Ag VCd.rose.den)),some (Blk.row false none VCd.rose us)]))):_):=by kernel_rfl
theorem Gp (N:Nat) (f:Rose Lab->Cur->Rose An×Cur) (h:Cur->(Int)×Cur) (o1:Rose Lab×Cur×List (Rose An)×Nat->List (Rose An)×Cur) (o2:List (Rose Lab)×Cur×List (Rose An)×Nat->List (Rose An)×Cur) (ks:List (Rose Lab)) (k i:Int) (l:List Int) (a s:Int) (w:Nat) (us:List (Rose An)):A0 prog (Ab [(103,.own Bk),(53,.own C7),(106,.own LD),(119,.own (HP h)),(130,.mix (Fy N f))]) (Ab [(11,HO N o1),(16,HN N o2)]) 1 (body f130 1) (HN N o2) ([.ptr 0 0,.ptr 1 0,.ptr 2 0,.sl (.rose LCd) ks,.j k,.j i],[some (.box [.sl (.int .u8) l,.j a,.i .u64 s]),some (.box [.j 0,.s [],.j 0,.b false,.ref 3 0 0]),some (.box [.j 0,.s [],.j 0,.b true,.ref 4 0 w]),some (.row false none (.rose VCd) []),some (.row false none (.rose VCd) us)]) =
 ((ifB (decide (i<k)) (ifT (decide ((0:Int)<=i)&&decide (i<(↑ks.length:Int))) (Ap ks[i.toNat]? fun z=>ifB (Rose.lab z).snd.snd.snd.fst (ifT (decide (Ao
 (Rose.node ((Rose.lab z).fst,(Rose.lab z).snd.fst,(Rose.lab z).snd.snd.fst,(Rose.lab z).snd.snd.snd.fst,(Rose.lab z).snd.snd.snd.snd.fst,()) (Rose.kids z))<=N/\
 Aj (Rose.node ((Rose.lab z).fst,(Rose.lab z).snd.fst,(Rose.lab z).snd.snd.fst,(Rose.lab z).snd.snd.snd.fst,(Rose.lab z).snd.snd.snd.snd.fst,()) (Rose.kids z)) =
 true/\vbR (Rose.node ((Rose.lab z).fst,(Rose.lab z).snd.fst,(Rose.lab z).snd.snd.fst,(Rose.lab z).snd.snd.snd.fst,(Rose.lab z).snd.snd.snd.snd.fst,()) (Rose.kids
 z))<=1000000/\(Cur.mk l a s).room (8*vbR (Rose.node ((Rose.lab z).fst,(Rose.lab z).snd.fst,(Rose.lab z).snd.snd.fst,(Rose.lab z).snd.snd.snd.fst,
 (Rose.lab z).snd.snd.snd.snd.fst,()) (Rose.kids z))))) (ifT (decide ((w+1)*64<=140737488355328)&&decide (w+1<=maxI)) (some
 (Ex.normal,[V.ptr 0 0,V.ptr 1 0,V.ptr 2 0,V.sl LCd.rose ks,V.j k,V.j (i64.wrap (i+(1:Int)))],[some (Blk.box [V.sl (Cd.int .u8) (f (Rose.node
 ((Rose.lab z).fst,(Rose.lab z).snd.fst,(Rose.lab z).snd.snd.fst,(Rose.lab z).snd.snd.snd.fst,(Rose.lab z).snd.snd.snd.snd.fst,()) (Rose.kids z)) (Cur.mk l a
 s)).snd.l,V.j (f (Rose.node ((Rose.lab z).fst,(Rose.lab z).snd.fst,(Rose.lab z).snd.snd.fst,(Rose.lab z).snd.snd.snd.fst,(Rose.lab z).snd.snd.snd.snd.fst,())
 (Rose.kids z)) (Cur.mk l a s)).snd.a,V.i .u64 (f (Rose.node ((Rose.lab z).fst,(Rose.lab z).snd.fst,(Rose.lab z).snd.snd.fst,(Rose.lab z).snd.snd.snd.fst,(Rose.lab
 z).snd.snd.snd.snd.fst,()) (Rose.kids z)) (Cur.mk l a s)).snd.s]),some (Blk.box [V.j 0,V.s (Ag UInt8),V.j 0,V.b false,V.ref 3 0 0]),some (Blk.box [V.i
 .i64 0,V.s (Ag UInt8),V.j 0,V.b true,V.ref 4 0 (w+1)]),some (Blk.row false none VCd.rose (Ag VCd.rose.den)),some (Blk.row false none VCd.rose
 (take w (drop 0 us)++Rose.node ((f (Rose.node ((Rose.lab z).fst,(Rose.lab z).snd.fst,(Rose.lab z).snd.snd.fst,(Rose.lab z).snd.snd.snd.fst,
 (Rose.lab z).snd.snd.snd.snd.fst,()) (Rose.kids z)) (Cur.mk l a s)).fst.lab.fst,(f (Rose.node ((Rose.lab z).fst,(Rose.lab z).snd.fst,(Rose.lab z).snd.snd.fst,
 (Rose.lab z).snd.snd.snd.fst,(Rose.lab z).snd.snd.snd.snd.fst,()) (Rose.kids z)) (Cur.mk l a s)).fst.lab.snd.fst,(Rose.lab z).snd.snd.fst,(f (Rose.node ((Rose.lab
 z).fst,(Rose.lab z).snd.fst,(Rose.lab z).snd.snd.fst,(Rose.lab z).snd.snd.snd.fst,(Rose.lab z).snd.snd.snd.snd.fst,()) (Rose.kids z)) (Cur.mk l a
 s)).fst.lab.snd.snd.snd.fst,()) (take (f (Rose.node ((Rose.lab z).fst,(Rose.lab z).snd.fst,(Rose.lab z).snd.snd.fst,(Rose.lab z).snd.snd.snd.fst,(Rose.lab
 z).snd.snd.snd.snd.fst,()) (Rose.kids z)) (Cur.mk l a s)).fst.kids.length (drop 0 (f (Rose.node ((Rose.lab z).fst,(Rose.lab z).snd.fst,(Rose.lab
 z).snd.snd.fst,(Rose.lab z).snd.snd.snd.fst,(Rose.lab z).snd.snd.snd.snd.fst,()) (Rose.kids z)) (Cur.mk l a s)).fst.kids))::Ag VCd.rose.den))])))) (ifT (decide
 ((Cur.mk l a s).good (900000000:Int))) (ifB ((Cur.mk l a s).pickV (2:Int)==(0:Int)) (ifT (decide (Ao (Rose.node ((Rose.lab z).fst,(Rose.lab z).snd.fst,
 (Rose.lab z).snd.snd.fst,(Rose.lab z).snd.snd.snd.fst,(Rose.lab z).snd.snd.snd.snd.fst,()) (Rose.kids z))<=N/\Aj (Rose.node ((Rose.lab z).fst,(Rose.lab
 z).snd.fst,(Rose.lab z).snd.snd.fst,(Rose.lab z).snd.snd.snd.fst,(Rose.lab z).snd.snd.snd.snd.fst,()) (Rose.kids z))=true/\vbR (Rose.node ((Rose.lab z).fst,
 (Rose.lab z).snd.fst,(Rose.lab z).snd.snd.fst,(Rose.lab z).snd.snd.snd.fst,(Rose.lab z).snd.snd.snd.snd.fst,()) (Rose.kids z))<=1000000/\((Cur.mk l a
 s).pickC (2:Int)).room (8*vbR (Rose.node ((Rose.lab z).fst,(Rose.lab z).snd.fst,(Rose.lab z).snd.snd.fst,(Rose.lab z).snd.snd.snd.fst,(Rose.lab
 z).snd.snd.snd.snd.fst,()) (Rose.kids z))))) (ifT (decide ((w+1)*64<=140737488355328)&&decide (w+1<=maxI)) (some (Ex.normal,
 [V.ptr 0 0,V.ptr 1 0,V.ptr 2 0,V.sl LCd.rose ks,V.j k,V.j (i64.wrap (i+(1:Int)))],[some (Blk.box [V.sl (Cd.int .u8) (f (Rose.node ((Rose.lab
 z).fst,(Rose.lab z).snd.fst,(Rose.lab z).snd.snd.fst,(Rose.lab z).snd.snd.snd.fst,(Rose.lab z).snd.snd.snd.snd.fst,()) (Rose.kids z)) ((Cur.mk l a s).pickC (2 :
 Int))).snd.l,V.j (f (Rose.node ((Rose.lab z).fst,(Rose.lab z).snd.fst,(Rose.lab z).snd.snd.fst,(Rose.lab z).snd.snd.snd.fst,(Rose.lab z).snd.snd.snd.snd.fst,
 ()) (Rose.kids z)) ((Cur.mk l a s).pickC (2:Int))).snd.a,V.i .u64 (f (Rose.node ((Rose.lab z).fst,(Rose.lab z).snd.fst,(Rose.lab z).snd.snd.fst,(Rose.lab
 z).snd.snd.snd.fst,(Rose.lab z).snd.snd.snd.snd.fst,()) (Rose.kids z)) ((Cur.mk l a s).pickC (2:Int))).snd.s]),some (Blk.box [V.j 0,V.s (Ag UInt8),V.i .i64
 0,V.b false,V.ref 3 0 0]),some (Blk.box [V.j 0,V.s (Ag UInt8),V.j 0,V.b true,V.ref 4 0 (w+1)]),some (Blk.row false none VCd.rose (Ag
 VCd.rose.den)),some (Blk.row false none VCd.rose (take w (drop 0 us)++Rose.node ((f (Rose.node ((Rose.lab z).fst,(Rose.lab z).snd.fst,(Rose.lab
 z).snd.snd.fst,(Rose.lab z).snd.snd.snd.fst,(Rose.lab z).snd.snd.snd.snd.fst,()) (Rose.kids z)) ((Cur.mk l a s).pickC (2:Int))).fst.lab.fst,(f (Rose.node ((Rose.lab
 z).fst,(Rose.lab z).snd.fst,(Rose.lab z).snd.snd.fst,(Rose.lab z).snd.snd.snd.fst,(Rose.lab z).snd.snd.snd.snd.fst,()) (Rose.kids z)) ((Cur.mk l a s).pickC (2 :
 Int))).fst.lab.snd.fst,(Rose.lab z).snd.snd.fst,(f (Rose.node ((Rose.lab z).fst,(Rose.lab z).snd.fst,(Rose.lab z).snd.snd.fst,(Rose.lab z).snd.snd.snd.fst,(Rose.lab
 z).snd.snd.snd.snd.fst,()) (Rose.kids z)) ((Cur.mk l a s).pickC (2:Int))).fst.lab.snd.snd.snd.fst,()) (take (f (Rose.node ((Rose.lab z).fst,(Rose.lab
 z).snd.fst,(Rose.lab z).snd.snd.fst,(Rose.lab z).snd.snd.snd.fst,(Rose.lab z).snd.snd.snd.snd.fst,()) (Rose.kids z)) ((Cur.mk l a s).pickC (2:Int))).fst.kids.length
 (drop 0 (f (Rose.node ((Rose.lab z).fst,(Rose.lab z).snd.fst,(Rose.lab z).snd.snd.fst,(Rose.lab z).snd.snd.snd.fst,(Rose.lab z).snd.snd.snd.snd.fst,())
 (Rose.kids z)) ((Cur.mk l a s).pickC (2:Int))).fst.kids))::Ag VCd.rose.den))])))) (some (Ex.normal,[V.ptr 0 0,V.ptr 1 0,V.ptr 2 0,V.sl LCd.rose ks,V.j k,
 V.j (i64.wrap (i+(1:Int)))],[some (Blk.box [V.sl (Cd.int .u8) ((Cur.mk l a s).pickC (2:Int)).l,V.j ((Cur.mk l a s).pickC (2:Int)).a,V.i .u64
 ((Cur.mk l a s).pickC (2:Int)).s]),some (Blk.box [V.j 0,V.s (Ag UInt8),V.j 0,V.b false,V.ref 3 0 0]),some (Blk.box [V.j 0,V.s (Ag UInt8),V.i
 .i64 0,V.b true,V.ref 4 0 w]),some (Blk.row false none VCd.rose (Ag VCd.rose.den)),some (Blk.row false none VCd.rose us)])))))) (some (Ex.exit 3,[V.ptr 1 0,V.ptr
 2 0],[some (Blk.box [V.sl (Cd.int .u8) l,V.j a,V.i .u64 s]),some (Blk.box [V.j 0,V.s (Ag UInt8),V.j 0,V.b false,V.ref 3 0 0]),some (Blk.box [V.i
 .i64 0,V.s (Ag UInt8),V.j 0,V.b true,V.ref 4 0 w]),some (Blk.row false none VCd.rose (Ag VCd.rose.den)),some (Blk.row false none VCd.rose us)]))):_):=by kernel_rfl
theorem Th (N:Nat) (f:Rose Lab->Cur->Rose An×Cur) (h:Cur->(Int)×Cur) (o1:Rose Lab×Cur×List (Rose An)×Nat->List (Rose An)×Cur) (o2:List (Rose Lab)×Cur×List (Rose An)×Nat->List (Rose An)×Cur) (y0:Int) (y1:List UInt8) (y2:Int) (y3:Bool) (y4:Int) (ys:List (Rose Lab)) (l:List Int) (a s:Int):Bt prog (Ab [(103,.own Bk),(53,.own C7),(106,.own LD),(119,.own (HP h)),(130,.mix (Fy N f))]) (Ab [(11,HO N o1),(16,HN N o2)]) f130 [.ptr 0 0,.agg [.j y0,.s y1,.j y2,.b y3,.j y4,.sl (.rose LCd) ys]] [.box [.sl (.int .u8) l,.j a,.i .u64 s]] =
 ((ifB (y0==(1:Int)) (ifT (decide ((Cur.mk l a s).good (80000000:Int))) (some (V.agg [V.j (h (Cur.mk l a s)).fst,V.s (Ag UInt8),V.j 0,V.b false,V.ref 1
 0 0],[some (Blk.box [V.sl (Cd.int .u8) (h (Cur.mk l a s)).snd.l,V.j (h (Cur.mk l a s)).snd.a,V.i .u64 (h (Cur.mk l a s)).snd.s]),some (Blk.row false none
 VCd.rose (Ag VCd.rose.den))]))) (ifB (y0==(3:Int)) (ifT (decide ((Cur.mk l a s).good (900000000:Int))) (some (V.agg [V.j ((Cur.mk l a s).pickV
 (i64.wrap (y4+(1:Int)))),V.s (Ag UInt8),V.j 0,V.b false,V.ref 1 0 0],[some (Blk.box [V.sl (Cd.int .u8) ((Cur.mk l a s).pickC (i64.wrap (y4
 + (1:Int)))).l,V.j ((Cur.mk l a s).pickC (i64.wrap (y4+(1:Int)))).a,V.i .u64 ((Cur.mk l a s).pickC (i64.wrap (y4+(1:Int)))).s]),some
 (Blk.row false none VCd.rose (Ag VCd.rose.den))]))) (ifB (y0==(2:Int)) (ifT (decide ((Cur.mk l a s).good (900000000:Int)/\1<=4/\4<=(4
 : Nat))) (some (V.agg [V.j 0,V.s ((Ag UInt8::[(120:UInt8)]::[(115:UInt8),(111:UInt8),(109:UInt8),(101:UInt8),(32:UInt8),(116:UInt8),(101 :
 UInt8),(120:UInt8),(116:UInt8)]::[(0:UInt8)]::Ag Cd.str.den).getD (0+((Cur.mk l a s).pickV (↑(4:Nat):Int)).toNat) (Ag UInt8)),V.j 0,
 V.b false,V.ref 1 0 0],[some (Blk.box [V.sl (Cd.int .u8) ((Cur.mk l a s).pickC (↑(4:Nat):Int)).l,V.j ((Cur.mk l a s).pickC (↑(4:Nat):Int)).a,V.i .u64
 ((Cur.mk l a s).pickC (↑(4:Nat):Int)).s]),some (Blk.row false none VCd.rose (Ag VCd.rose.den))]))) (ifB (y0==(4:Int)) (ifT (decide ((Cur.mk l a s).good
 (900000000:Int))) (ifT (decide (Ao (Rose.node (y0,y1,y2,y3,y4,()) ys)<=N+1/\Aj (Rose.node (y0,y1,y2,y3,y4,()) ys)=true/\y0=(4:Int)/\
 vbR (Rose.node (y0,y1,y2,y3,y4,()) ys)<=1000000/\(0:Int)<=(Cur.mk l a s).pickV (4:Int)/\(Cur.mk l a s).pickV (4:Int)<=(3:Int)/\0=(0 :
 Nat)/\0<=3-((Cur.mk l a s).pickV (4:Int)).toNat/\((Cur.mk l a s).pickC (4:Int)).room (6+8*(((Cur.mk l a s).pickV (4 :
 Int)).toNat*vbL ys)))) (some (V.agg [V.j 0,V.s (Ag UInt8),V.j 0,V.b true,V.ref 1 0 (o1 (Rose.node (y0,y1,y2,y3,y4,()) ys,(Cur.mk l a s).pickC (4 :
 Int),Ag VCd.rose.den,((Cur.mk l a s).pickV (4:Int)).toNat)).fst.length],[some (Blk.box [V.sl (Cd.int .u8) (o1 (Rose.node (y0,y1,y2,y3,y4,()) ys,(Cur.mk l a
 s).pickC (4:Int),Ag VCd.rose.den,((Cur.mk l a s).pickV (4:Int)).toNat)).snd.l,V.j (o1 (Rose.node (y0,y1,y2,y3,y4,()) ys,(Cur.mk l a s).pickC (4 :
 Int),Ag VCd.rose.den,((Cur.mk l a s).pickV (4:Int)).toNat)).snd.a,V.i .u64 (o1 (Rose.node (y0,y1,y2,y3,y4,()) ys,(Cur.mk l a s).pickC (4:Int),Ag
 VCd.rose.den,((Cur.mk l a s).pickV (4:Int)).toNat)).snd.s]),some (Blk.row false none VCd.rose (o1 (Rose.node (y0,y1,y2,y3,y4,()) ys,(Cur.mk l a s).pickC (4 :
 Int),Ag VCd.rose.den,((Cur.mk l a s).pickV (4:Int)).toNat)).fst)])))) (ifT (decide (Ak ys<=N/\A8 (5:Int) ys=true/\3*vbL ys<=1000000
 /\ (↑ys.length:Int)=(↑ys.length:Int)/\(0:Int)<=(0:Int)/\0<=ys.length/\0=0/\0<=0/\(Cur.mk l a s).room (8
 + 24*vbL (drop 0 ys)))) (some (V.agg [V.j 0,V.s (Ag UInt8),V.j 0,V.b true,V.ref 1 0 (o2 (ys,Cur.mk l a s,Ag VCd.rose.den,(0 :
 Nat))).fst.length],[some (Blk.box [V.sl (Cd.int .u8) (o2 (ys,Cur.mk l a s,Ag VCd.rose.den,0)).snd.l,V.j (o2 (ys,Cur.mk l a s,Ag VCd.rose.den,(0 :
 Nat))).snd.a,V.i .u64 (o2 (ys,Cur.mk l a s,Ag VCd.rose.den,0)).snd.s]),some (Blk.row false none VCd.rose (o2 (ys,Cur.mk l a s,Ag VCd.rose.den,(0 :
 Nat))).fst)]))))))):_):=by kernel_rfl
theorem Jr : ∀ (us:List (Rose An)) (v:Rose An),vcL (us++[v])=vcL us+vcR v
 | [],v=>by rw [nil_append,vcL,vcL,vcL]; omega
 | y::us,v=>by rw [List.cons_append,vcL,Jr us v,vcL]; omega
theorem PP (z:Rose Lab):1<=vbR z:=by cases z; rw [vbR]; omega
theorem TL {z:Rose Lab} : ∀ {l:List (Rose Lab)},z∈l->vbR z<=vbL l
 | [],h=>by cases h
 | y::l,h=>by
  rw [vbL]
  rcases List.mem_cons.1 h with rfl | h
  ·omega
  ·have:=TL h; omega
theorem TM : ∀ (l:List (Rose Lab)),l.length<=vbL l
 | []=>le_refl _
 | z::l=>by have:=TM l; have:=PP z; rw [vbL,length_cons]; omega
theorem Sx {x:Lab} {ks:List (Rose Lab)} (h:Aj (.node x ks)=true) (h4:x.1=4) : ∃ k,ks=[k]/\Aj k=true:=by
 rw [Aj,anE] at h
 obtain ⟨h1,h2⟩:=h
 unfold B5 at h1
 rw [if_neg (by omega),if_neg (by omega),if_pos h4,anE] at h1
 match ks,h1.2,h2 with
 | [k],_,h2=>rw [A8,anE,anE] at h2; exact ⟨k,rfl,h2.1.2⟩
theorem LY {k:Int} {z:Rose Lab} : ∀ {l:List (Rose Lab)},A8 k l=true->z∈l->Aj z=true
 | [],_,h=>by cases h
 | y::l,hr,h=>by
  rw [A8,anE,anE] at hr
  rcases List.mem_cons.1 h with rfl | h
  ·exact hr.1.2
  ·exact LY hr.2 h
theorem W8 : ∀ (z:Rose Lab),Aj z=true->vbR z<=Ao z*3 ^ BA z:=by
 have key : ∀ (n:Nat) (z:Rose Lab),Ao z<=n->Aj z=true->vbR z<=Ao z*3 ^ BA z:=by
  intro n
  induction n with
  | zero=>intro z h; have:=BX z; omega
  | succ n ih=>
   intro z hz hr
   obtain ⟨x,ks⟩:=z
   have hr0:=hr
   rw [Aj,anE] at hr
   rw [Ao] at hz
   have hall : ∀ (l:List (Rose Lab)) (d:Nat),Ak l<=n->A8 x.1 l=true->BL l<=d->vbL l<=Ak l*3 ^ d:=by
    intro l
    induction l with
    | nil=>intro d _ _ _; rw [vbL]; omega
    | cons y l ihl=>
     intro d h1 h2 h3
     rw [Ak] at h1
     rw [A8,anE,anE] at h2
     rw [BL] at h3
     have a1:=ih y (by omega) h2.1.2
     have a2:=ihl d (by omega) h2.2 (by omega)
     have a3:Ao y*3 ^ BA y<=Ao y*3 ^ d:=Nat.mul_le_mul_left _ (Nat.pow_le_pow_right (by omega) (by omega))
     rw [vbL,Ak,Nat.add_mul]; omega
   have hk:=hall ks (BL ks) (by omega) hr.2 (le_refl _)
   rw [vbR,Ao,BA]
   cases hh:Aw x.1 with
   | true=>
    rw [cond_true,Nat.pow_succ]
    have:1<=3 ^ BL ks:=Nat.pos_of_ne_zero (by simp)
    have e:(Ak ks+1)*(3 ^ BL ks*3)=3*(Ak ks*3 ^ BL ks)+3*3 ^ BL ks:=by rw [Nat.add_mul,<-Nat.mul_assoc,Nat.mul_comm _ 3,Nat.one_mul,Nat.mul_comm _ 3]
    rw [e]; omega
   | false=>
    have hl:ks=[]:=by
     have h1:=hr.1
     unfold B5 at h1
     unfold Aw at hh
     simp only [Bool.or_eq_false_iff,beq_eq_false_iff_ne] at hh
     split at h1
     ·simp only [anE,beq_iff_eq] at h1; exact List.length_eq_zero_iff.1 h1.2
     split at h1
     ·simp only [anE,beq_iff_eq] at h1; exact List.length_eq_zero_iff.1 h1.2
     rw [if_neg hh.1,if_pos (.inl hh.2)] at h1
     cases h1
    subst hl
    rw [vbL,Ak,BL]; simp
 exact fun z=>key (Ao z) z (le_refl _)
theorem VA (N:Nat) (f:Rose Lab->Cur->Rose An×Cur) (h:Cur->(Int)×Cur) (pf : ∀ (z:Rose Lab) (c:Cur) (m:Int),Ao z<=N->Aj z=true->vbR z<=1000000->c.good m->m<=60000000-8*(vbR z:Int)->(f z c).2.good (m+8*(vbR z:Int))/\vcR (f z c).1<=vbR z) :
  ∀ x:Rose Lab×Cur×List (Rose An)×Nat,(Ao x.1<=N+1/\Aj x.1=true/\x.1.lab.1=4/\vbR x.1<=1000000/\x.2.2.2<=3/\x.2.2.1.length<=3-x.2.2.2/\x.2.1.room (6+8*(x.2.2.2*vbL x.1.kids)))->
   ∃ y:List (Rose An)×Cur,(∀ o:((Rose Lab×Cur×List (Rose An)×Nat->List (Rose An)×Cur)×(List (Rose Lab)×Cur×List (Rose An)×Nat->List (Rose An)×Cur)),Runs prog (Ab [(103,.own Bk),(53,.own C7),(106,.own LD),(119,.own (HP h)),(130,.mix (Fy N f))]) (Ab [(11,HO N o.1),(16,HN N o.2)]) 1 (body f130 0) (HO N o.1) ((fun x:Rose Lab×Cur×List (Rose An)×Nat=>([.ptr 0 0,.ptr 1 0,.ptr 2 0,.ptr 3 0,.j (x.2.2.2:Int)],[some (cB x.2.1),some (.box [.j x.1.lab.1,.s x.1.lab.2.1,.j x.1.lab.2.2.1,.b x.1.lab.2.2.2.1,.j x.1.lab.2.2.2.2.1,.sl (.rose LCd) x.1.kids]),some (.box [.j 0,.s [],.j 0,.b false,.ref 4 0 0]),some (.box [.j 0,.s [],.j 0,.b true,.ref 5 0 x.2.2.1.length]),some (.row false none (.rose VCd) []),some (.row false none (.rose VCd) x.2.2.1)])) x) ((fun y:List (Rose An)×Cur=>(((.exit 1:Ex),([.ptr 1 0,.ptr 2 0],[some (cB y.2),some (.box [.j 0,.s [],.j 0,.b false,.ref 3 0 0]),some (.box [.j 0,.s [],.j 0,.b true,.ref 4 0 y.1.length]),some (.row false none (.rose VCd) []),some (.row false none (.rose VCd) y.1)])):Ex×Dt)) y).1 ((fun y:List (Rose An)×Cur=>(((.exit 1:Ex),([.ptr 1 0,.ptr 2 0],[some (cB y.2),some (.box [.j 0,.s [],.j 0,.b false,.ref 3 0 0]),some (.box [.j 0,.s [],.j 0,.b true,.ref 4 0 y.1.length]),some (.row false none (.rose VCd) []),some (.row false none (.rose VCd) y.1)])):Ex×Dt)) y).2)/\
    ((∀ m,x.2.1.good m->m<=60000000-6-8*((x.2.2.2*vbL x.1.kids:Nat):Int)->y.2.good (m+8*((x.2.2.2*vbL x.1.kids:Nat):Int)))/\vcL y.1<=vcL x.2.2.1+x.2.2.2*vbL x.1.kids):=by
 refine FK (ι:=((Rose Lab×Cur×List (Rose An)×Nat->List (Rose An)×Cur)×(List (Rose Lab)×Cur×List (Rose An)×Nat->List (Rose An)×Cur))) (⟨fun _=>([],Cur.mk [] 0 0),fun _=>([],Cur.mk [] 0 0)⟩) (Λ:=fun o=>(Ab [(11,HO N o.1),(16,HN N o.2)])) (ent:=fun o=>HO N o.1) (fun x:Rose Lab×Cur×List (Rose An)×Nat=>([.ptr 0 0,.ptr 1 0,.ptr 2 0,.ptr 3 0,.j (x.2.2.2:Int)],[some (cB x.2.1),some (.box [.j x.1.lab.1,.s x.1.lab.2.1,.j x.1.lab.2.2.1,.b x.1.lab.2.2.2.1,.j x.1.lab.2.2.2.2.1,.sl (.rose LCd) x.1.kids]),some (.box [.j 0,.s [],.j 0,.b false,.ref 4 0 0]),some (.box [.j 0,.s [],.j 0,.b true,.ref 5 0 x.2.2.1.length]),some (.row false none (.rose VCd) []),some (.row false none (.rose VCd) x.2.2.1)])) (fun y:List (Rose An)×Cur=>(((.exit 1:Ex),([.ptr 1 0,.ptr 2 0],[some (cB y.2),some (.box [.j 0,.s [],.j 0,.b false,.ref 3 0 0]),some (.box [.j 0,.s [],.j 0,.b true,.ref 4 0 y.1.length]),some (.row false none (.rose VCd) []),some (.row false none (.rose VCd) y.1)])):Ex×Dt)) (fun y=>by simp) _ _ (fun x=>x.2.2.2) (fun o x _=>(Gq N f h o.1 o.2 x.1.lab.1 x.1.lab.2.1 x.1.lab.2.2.1 x.1.lab.2.2.2.1 x.1.lab.2.2.2.2.1 x.1.kids (x.2.2.2:Int) x.2.1.l x.2.1.a x.2.1.s x.2.2.1.length x.2.2.1).trans (Gq N f h _ _ x.1.lab.1 x.1.lab.2.1 x.1.lab.2.2.1 x.1.lab.2.2.2.1 x.1.lab.2.2.2.2.1 x.1.kids (x.2.2.2:Int) x.2.1.l x.2.1.a x.2.1.s x.2.2.1.length x.2.2.1).symm) ?_
 rintro ⟨⟨⟨y0,y1,y2,y3,y4,⟨⟩⟩,ys⟩,c,us,n⟩ ⟨q1,q2,q3,q4,q5,q6,q7⟩
 dsimp only [Rose.lab,Rose.kids] at q1 q2 q3 q4 q5 q6 q7 ⊢
 have hM:maxI=9223372036854775807:=rfl
 obtain ⟨k,rfl,hk⟩:=Sx q2 q3
 have e1:vbL [k]=vbR k:=by rw [vbL,vbL]; omega
 rw [e1] at q7
 simp only [e1]
 unfold Cur.room at q7
 rw [Ao,Ak,Ak] at q1
 rw [vbR,e1] at q4
 cases n with
 | succ n=>
  right
  simp only [Nat.succ_mul] at q7 ⊢
  refine Ex1.of (Gq N f h _ _ y0 y1 y2 y3 y4 [k] ((n+1:Nat):Int) c.l c.a c.s us.length us) ?_
  have w1:i64.wrap (((n+1:Nat):Int)-1)=(n:Int):=by rw [Ay (by omega) (by omega)]; omega
  rw [Af (dcT (by omega))]
  have hnn:(0:Int)<=(n:Int)*(vbR k:Int):=Int.mul_nonneg (by omega) (by omega)
  have g0:c.room (8*vbR k):=Cur.good_mono q7 (by push_cast; omega)
  have pf1:=pf k c _ (by omega) hk (by omega) q7 (by push_cast; omega)
  refine Ex1.T (by simp) (Ex1.S ⟨k,rfl⟩ fun z hz=>?_)
  obtain rfl:k=z:=by simpa using hz
  simp only [AT,BN,show Cur.mk c.l c.a c.s=c from rfl,w1,AI,drop_zero,take_length,B8]
  refine Ex1.T (dcT ⟨by omega,hk,by omega,g0⟩) (Ex1.T (by simp; omega) ?_)
  refine Ex1.P3 (.node (y0,y1,y2,y3,y4,()) [k],(f k c).2,us++[(f k c).1],n) (by simp) rfl rfl ⟨⟨by rw [Ao,Ak,Ak]; omega,q2,q3,by rw [vbR,e1]; omega,by dsimp only; omega,by simp; omega,?_⟩,by dsimp only; omega,fun y hy=>⟨fun m hm hl=>?_,?_⟩⟩
  ·dsimp only [Rose.kids]
   rw [e1]
   exact Cur.good_mono pf1.1 (by push_cast; omega)
  ·dsimp only [Rose.kids] at hy ⊢
   simp only [e1] at hy
   have:=pf k c m (by omega) hk (by omega) hm (by push_cast at hl; omega)
   exact Cur.good_mono (hy.1 _ this.1 (by push_cast at hl ⊢; omega)) (by push_cast; omega)
  ·dsimp only [Rose.kids] at hy ⊢
   simp only [e1] at hy
   have:=hy.2
   rw [Jr] at this
   have:=pf1.2
   omega
 | zero=>
  left
  refine Ex1.of (Gq N f h _ _ y0 y1 y2 y3 y4 [k] ((0:Nat):Int) c.l c.a c.s us.length us) ?_
  rw [Ac (dcF (by omega))]
  refine Ex1.L (us,c) rfl ⟨fun m hm hl=>Cur.good_mono hm (by rw [Nat.zero_mul]; omega),by dsimp only; omega⟩
theorem V8 (N:Nat) (f:Rose Lab->Cur->Rose An×Cur) (h:Cur->(Int)×Cur) (pf : ∀ (z:Rose Lab) (c:Cur) (m:Int),Ao z<=N->Aj z=true->vbR z<=1000000->c.good m->m<=60000000-8*(vbR z:Int)->(f z c).2.good (m+8*(vbR z:Int))/\vcR (f z c).1<=vbR z) :
  ∀ x:List (Rose Lab)×Cur×List (Rose An)×Nat,(Ak x.1<=N/\A8 5 x.1=true/\3*vbL x.1<=1000000/\x.2.2.2<=x.1.length/\x.2.2.1.length<=x.2.2.2/\x.2.1.room (8+24*vbL (x.1.drop x.2.2.2)))->
   ∃ y:List (Rose An)×Cur,(∀ o:((Rose Lab×Cur×List (Rose An)×Nat->List (Rose An)×Cur)×(List (Rose Lab)×Cur×List (Rose An)×Nat->List (Rose An)×Cur)),Runs prog (Ab [(103,.own Bk),(53,.own C7),(106,.own LD),(119,.own (HP h)),(130,.mix (Fy N f))]) (Ab [(11,HO N o.1),(16,HN N o.2)]) 1 (body f130 1) (HN N o.2) ((fun x:List (Rose Lab)×Cur×List (Rose An)×Nat=>([.ptr 0 0,.ptr 1 0,.ptr 2 0,.sl (.rose LCd) x.1,.j (x.1.length:Int),.j (x.2.2.2:Int)],[some (cB x.2.1),some (.box [.j 0,.s [],.j 0,.b false,.ref 3 0 0]),some (.box [.j 0,.s [],.j 0,.b true,.ref 4 0 x.2.2.1.length]),some (.row false none (.rose VCd) []),some (.row false none (.rose VCd) x.2.2.1)])) x) ((fun y:List (Rose An)×Cur=>(((.exit 3:Ex),([.ptr 1 0,.ptr 2 0],[some (cB y.2),some (.box [.j 0,.s [],.j 0,.b false,.ref 3 0 0]),some (.box [.j 0,.s [],.j 0,.b true,.ref 4 0 y.1.length]),some (.row false none (.rose VCd) []),some (.row false none (.rose VCd) y.1)])):Ex×Dt)) y).1 ((fun y:List (Rose An)×Cur=>(((.exit 3:Ex),([.ptr 1 0,.ptr 2 0],[some (cB y.2),some (.box [.j 0,.s [],.j 0,.b false,.ref 3 0 0]),some (.box [.j 0,.s [],.j 0,.b true,.ref 4 0 y.1.length]),some (.row false none (.rose VCd) []),some (.row false none (.rose VCd) y.1)])):Ex×Dt)) y).2)/\
    ((∀ m,x.2.1.good m->m<=60000000-8-24*(vbL (x.1.drop x.2.2.2):Int)->y.2.good (m+24*(vbL (x.1.drop x.2.2.2):Int)))/\vcL y.1<=vcL x.2.2.1+vbL (x.1.drop x.2.2.2)):=by
 refine FK (ι:=((Rose Lab×Cur×List (Rose An)×Nat->List (Rose An)×Cur)×(List (Rose Lab)×Cur×List (Rose An)×Nat->List (Rose An)×Cur))) (⟨fun _=>([],Cur.mk [] 0 0),fun _=>([],Cur.mk [] 0 0)⟩) (Λ:=fun o=>(Ab [(11,HO N o.1),(16,HN N o.2)])) (ent:=fun o=>HN N o.2) (fun x:List (Rose Lab)×Cur×List (Rose An)×Nat=>([.ptr 0 0,.ptr 1 0,.ptr 2 0,.sl (.rose LCd) x.1,.j (x.1.length:Int),.j (x.2.2.2:Int)],[some (cB x.2.1),some (.box [.j 0,.s [],.j 0,.b false,.ref 3 0 0]),some (.box [.j 0,.s [],.j 0,.b true,.ref 4 0 x.2.2.1.length]),some (.row false none (.rose VCd) []),some (.row false none (.rose VCd) x.2.2.1)])) (fun y:List (Rose An)×Cur=>(((.exit 3:Ex),([.ptr 1 0,.ptr 2 0],[some (cB y.2),some (.box [.j 0,.s [],.j 0,.b false,.ref 3 0 0]),some (.box [.j 0,.s [],.j 0,.b true,.ref 4 0 y.1.length]),some (.row false none (.rose VCd) []),some (.row false none (.rose VCd) y.1)])):Ex×Dt)) (fun y=>by simp) _ _ (fun x=>x.1.length-x.2.2.2) (fun o x _=>(Gp N f h o.1 o.2 x.1 (x.1.length:Int) (x.2.2.2:Int) x.2.1.l x.2.1.a x.2.1.s x.2.2.1.length x.2.2.1).trans (Gp N f h _ _ x.1 (x.1.length:Int) (x.2.2.2:Int) x.2.1.l x.2.1.a x.2.1.s x.2.2.1.length x.2.2.1).symm) ?_
 rintro ⟨ks,c,us,i⟩ ⟨q1,q2,q3,q4,q5,q6⟩
 dsimp only at q1 q2 q3 q4 q5 q6 ⊢
 have hM:maxI=9223372036854775807:=rfl
 unfold Cur.room at q6
 have hcl:=Bz ks
 have hcv:=TM ks
 by_cases hi:i<ks.length
 ·right
  have e1:ks.drop i=ks[i]::ks.drop (i+1):=drop_eq_getElem_cons hi
  have e2:vbL (ks.drop i)=vbR ks[i]+vbL (ks.drop (i+1)):=by rw [e1,vbL]
  have hmem:=getElem_mem hi
  have b1:=TL hmem
  have b2:=PP ks[i]
  have b3:=BB hmem
  have b4:=LY q2 hmem
  rw [e2] at q6 ⊢
  refine Ex1.of (Gp N f h _ _ ks (ks.length:Int) (i:Int) c.l c.a c.s us.length us) ?_
  rw [Af (dcT (by omega)),ntN,A3 (n:=i) (by omega)]
  refine Ex1.T (by simp; omega) (Ex1.S ⟨ks[i],gtE hi⟩ fun z hz=>?_)
  obtain rfl:ks[i]=z:=by rw [gtE hi] at hz; exact Option.some.inj hz
  generalize ks[i]=z at *
  have g0:c.room (8*vbR z):=Cur.good_mono q6 (by push_cast; omega)
  have g1:(c.pickC 2).room (8*vbR z):=Cur.good_mono (Cur.pickC_good q6) (by push_cast; omega)
  have pf0:=fun (c:Cur) (m:Int) (hc:c.good m) (hm:m<=60000000-8*(vbR z:Int))=>pf z c m (by omega) b4 (by omega) hc hm
  simp only [AT,BN,show Cur.mk c.l c.a c.s=c from rfl,AI,drop_zero,take_length]
  have done : ∀ (c':Cur) (w:List (Rose An)) (K:Int),(∀ m,c.good m->m<=60000000-8-24*((vbR z+vbL (ks.drop (i+1)):Nat):Int)->c'.good (m+K))->K<=24*(vbR z:Int)->w.length<=i+1->vcL w<=vcL us+vbR z->
    ((Ak ks<=N/\A8 5 ks=true/\3*vbL ks<=1000000/\i+1<=ks.length/\w.length<=i+1/\c'.room (8+24*vbL (ks.drop (i+1))))/\ks.length-(i+1)<ks.length-i/\∀ y:List (Rose An)×Cur,((∀ m,c'.good m->m<=60000000-8-24*(vbL (ks.drop (i+1)):Int)->y.2.good (m+24*(vbL (ks.drop (i+1)):Int)))/\vcL y.1<=vcL w+vbL (ks.drop (i+1)))->
     ((∀ m,c.good m->m<=60000000-8-24*((vbR z+vbL (ks.drop (i+1)):Nat):Int)->y.2.good (m+24*((vbR z+vbL (ks.drop (i+1)):Nat):Int)))/\vcL y.1<=vcL us+(vbR z+vbL (ks.drop (i+1))))):=fun c' w K h1 h2 h3 h4=>by
   refine ⟨⟨q1,q2,q3,by omega,h3,Cur.good_mono (h1 _ q6 (by push_cast; omega)) (by push_cast; omega)⟩,by omega,fun y hy=>⟨fun m hm hl=>?_,by have:=hy.2; omega⟩⟩
   exact Cur.good_mono (hy.1 _ (h1 m hm hl) (by push_cast at hl; omega)) (by push_cast; omega)
  refine Ex1.B (fun _=>?_) (fun _=>Ex1.T (dcT (Cur.good_mono q6 (by push_cast; omega))) (Ex1.B (fun _=>?_) (fun _=>?_)))
  ·have pv:=pf0 c _ q6 (by push_cast; omega)
   refine Ex1.T (dcT ⟨by omega,b4,by omega,g0⟩) (Ex1.T (by simp; omega) ?_)
   refine Ex1.P3 (ks,(f z c).2,us++[.node ((f z c).1.lab.1,(f z c).1.lab.2.1,z.lab.2.2.1,(f z c).1.lab.2.2.2.1,()) (f z c).1.kids],i+1) (by simp) rfl rfl ?_
   exact done _ _ (8*(vbR z:Int)) (fun m hm hl=>(pf0 c m hm (by push_cast at hl; omega)).1) (by omega) (by simp; omega) (by rw [Jr]; have:=pv.2; rw [Du] at this; rw [vcR]; omega)
  ·have pv:=pf0 (c.pickC 2) _ (Cur.pickC_good q6) (by push_cast; omega)
   refine Ex1.T (dcT ⟨by omega,b4,by omega,g1⟩) (Ex1.T (by simp; omega) ?_)
   refine Ex1.P3 (ks,(f z (c.pickC 2)).2,us++[.node ((f z (c.pickC 2)).1.lab.1,(f z (c.pickC 2)).1.lab.2.1,z.lab.2.2.1,(f z (c.pickC 2)).1.lab.2.2.2.1,()) (f z (c.pickC 2)).1.kids],i+1) (by simp) rfl rfl ?_
   exact done _ _ (2+8*(vbR z:Int)) (fun m hm hl=>Cur.good_mono (pf0 (c.pickC 2) (m+2) (Cur.pickC_good hm) (by push_cast at hl; omega)).1 (by omega)) (by omega) (by simp; omega) (by rw [Jr]; have:=pv.2; rw [Du] at this; rw [vcR]; omega)
  ·refine Ex1.P3 (ks,c.pickC 2,us,i+1) rfl rfl rfl ?_
   exact done (c.pickC 2) us 2 (fun m hm hl=>Cur.pickC_good hm) (by omega) (by omega) (by omega)
 ·left
  refine Ex1.of (Gp N f h _ _ ks (ks.length:Int) (i:Int) c.l c.a c.s us.length us) ?_
  rw [Ac (dcF (by omega))]
  have e1:ks.drop i=[]:=drop_eq_nil_of_le (by omega)
  refine Ex1.L (us,c) rfl ⟨fun m hm hl=>Cur.good_mono hm (by rw [e1,vbL]; omega),by dsimp only; omega⟩
def Ps (f:Rose Lab->Cur->Rose An×Cur):Gm
 | [.ptr 0 0,.agg [.i .i64 y0,.s y1,.i .i64 y2,.b y3,.i .i64 y4,.sl (.rose LCd) ys]],[.box [.sl (.int .u8) l,.i .i64 a,.i .u64 s]]=>.need (decide (Aj (Rose.node (y0,y1,y2,y3,y4,()) ys)=true/\vbR (Rose.node (y0,y1,y2,y3,y4,()) ys)<=1000000/\(Cur.mk l a s).room (8*vbR (Rose.node (y0,y1,y2,y3,y4,()) ys)))) (.leaf (.agg [.i .i64 (f (Rose.node (y0,y1,y2,y3,y4,()) ys) (Cur.mk l a s)).1.lab.1,.s (f (Rose.node (y0,y1,y2,y3,y4,()) ys) (Cur.mk l a s)).1.lab.2.1,.i .i64 (f (Rose.node (y0,y1,y2,y3,y4,()) ys) (Cur.mk l a s)).1.lab.2.2.1,.b (f (Rose.node (y0,y1,y2,y3,y4,()) ys) (Cur.mk l a s)).1.lab.2.2.2.1,.ref 1 0 (f (Rose.node (y0,y1,y2,y3,y4,()) ys) (Cur.mk l a s)).1.kids.length],[some (cB (f (Rose.node (y0,y1,y2,y3,y4,()) ys) (Cur.mk l a s)).2),some (.row false none (.rose VCd) (f (Rose.node (y0,y1,y2,y3,y4,()) ys) (Cur.mk l a s)).1.kids)]))
 | _,_=>.no
theorem X8 (N:Nat) (f:Rose Lab->Cur->Rose An×Cur) (_ : ∀ (z:Rose Lab) (c:Cur) (m:Int),Ao z<=N->Aj z=true->vbR z<=1000000->c.good m->m<=60000000-8*(vbR z:Int)->(f z c).2.good (m+8*(vbR z:Int))/\vcR (f z c).1<=vbR z) (o:((Rose Lab×Cur×List (Rose An)×Nat->List (Rose An)×Cur)×(List (Rose Lab)×Cur×List (Rose An)×Nat->List (Rose An)×Cur)))
  (hA : ∀ x:Rose Lab×Cur×List (Rose An)×Nat,(Ao x.1<=N+1/\Aj x.1=true/\x.1.lab.1=4/\vbR x.1<=1000000/\x.2.2.2<=3/\x.2.2.1.length<=3-x.2.2.2/\x.2.1.room (6+8*(x.2.2.2*vbL x.1.kids)))->(∀ m,x.2.1.good m->m<=60000000-6-8*((x.2.2.2*vbL x.1.kids:Nat):Int)->(o.1 x).2.good (m+8*((x.2.2.2*vbL x.1.kids:Nat):Int)))/\vcL (o.1 x).1<=vcL x.2.2.1+x.2.2.2*vbL x.1.kids)
  (hB : ∀ x:List (Rose Lab)×Cur×List (Rose An)×Nat,(Ak x.1<=N/\A8 5 x.1=true/\3*vbL x.1<=1000000/\x.2.2.2<=x.1.length/\x.2.2.1.length<=x.2.2.2/\x.2.1.room (8+24*vbL (x.1.drop x.2.2.2)))->(∀ m,x.2.1.good m->m<=60000000-8-24*(vbL (x.1.drop x.2.2.2):Int)->(o.2 x).2.good (m+24*(vbL (x.1.drop x.2.2.2):Int)))/\vcL (o.2 x).1<=vcL x.2.2.1+vbL (x.1.drop x.2.2.2))
  (y0:Int) (y1:List UInt8) (y2:Int) (y3:Bool) (y4:Int) (ys:List (Rose Lab)) (l:List Int) (a s:Int) (q1:Ao (Rose.node (y0,y1,y2,y3,y4,()) ys)<=N+1) (q2:Aj (Rose.node (y0,y1,y2,y3,y4,()) ys)=true) (q3:vbR (Rose.node (y0,y1,y2,y3,y4,()) ys)<=1000000) (q4:(Cur.mk l a s).room (8*vbR (Rose.node (y0,y1,y2,y3,y4,()) ys))) :
  Ex1 (Bt prog (Ab [(103,.own Bk),(53,.own C7),(106,.own LD),(119,.own (HP Hg)),(130,.mix (Fy N f))]) (Ab [(11,HO N o.1),(16,HN N o.2)]) f130 [.ptr 0 0,.agg [.j y0,.s y1,.j y2,.b y3,.j y4,.sl (.rose LCd) ys]] [.box [.sl (.int .u8) l,.j a,.i .u64 s]]) (fun y:Rose An×Cur=>((.agg [.j y.1.lab.1,.s y.1.lab.2.1,.j y.1.lab.2.2.1,.b y.1.lab.2.2.2.1,.ref 1 0 y.1.kids.length],[some (cB y.2),some (.row false none (.rose VCd) y.1.kids)]):V×List (Option Blk))) (fun y=>(∀ m,(Cur.mk l a s).good m->m<=60000000-8*(vbR (Rose.node (y0,y1,y2,y3,y4,()) ys):Int)->y.2.good (m+8*(vbR (Rose.node (y0,y1,y2,y3,y4,()) ys):Int)))/\vcR y.1<=vbR (Rose.node (y0,y1,y2,y3,y4,()) ys)):=by
 refine Ex1.of (Th N f Hg o.1 o.2 y0 y1 y2 y3 y4 ys l a s) ?_
 have hM:maxI=9223372036854775807:=rfl
 unfold Cur.room at q4
 have hvb:=PP (Rose.node (y0,y1,y2,y3,y4,()) ys)
 have ev:vbR (Rose.node (y0,y1,y2,y3,y4,()) ys)=3*vbL ys+1:=by rw [vbR]
 have hq2:=q2
 have hcq:=q1
 rw [Aj,anE] at q2
 rw [Ao] at q1
 have hcl:=Bz ys
 have hg9:(Cur.mk l a s).good 900000000:=Cur.good_mono q4 (by omega)
 simp only [Ab7,AI,drop_zero,zero_add]
 refine Ex1.B (fun h=>?_) (fun h1=>Ex1.B (fun h=>?_) (fun h3=>Ex1.B (fun h=>?_) (fun h2=>Ex1.B (fun h4=>?_) (fun h4=>?_))))
 ·refine Ex1.T (dcT (Cur.good_mono q4 (by omega))) (Ex1.c (.node (_,_,_,_,()) []) rfl rfl ⟨fun m hm hl=>?_,?_⟩)
  ·exact Cur.good_mono ((XB (Cur.mk l a s) (Cur.good_mono q4 (by omega))).1 m hm (by omega)) (by omega)
  ·rw [vcR,vcL]; omega
 ·refine Ex1.T (dcT hg9) (Ex1.c (.node (_,_,_,_,()) []) rfl rfl ⟨fun m hm hl=>?_,?_⟩)
  ·exact Cur.good_mono (Cur.pickC_good hm) (by omega)
  ·rw [vcR,vcL]; omega
 ·refine Ex1.T (dcT ⟨hg9,by omega,by omega⟩) (Ex1.c (.node (_,_,_,_,()) []) rfl rfl ⟨fun m hm hl=>?_,?_⟩)
  ·exact Cur.good_mono (Cur.pickC_good hm) (by omega)
  ·rw [vcR,vcL]; omega
 ·have hy:y0=4:=by simpa using h4
  have r4:=Cur.pickV_range (c:=(Cur.mk l a s)) (k:=4) hg9 (by omega)
  obtain ⟨n,hn⟩:=eq_ofNat_of_zero_le r4.1
  rw [hn] at r4 ⊢
  have hp:n*vbL ys<=3*vbL ys:=Nat.mul_le_mul_right _ (by omega)
  have g2:((Cur.mk l a s).pickC 4).room (6+8*(n*vbL ys)):=Cur.good_mono (Cur.pickC_good q4) (by omega)
  have hA1:=hA ((Rose.node (y0,y1,y2,y3,y4,()) ys),(Cur.mk l a s).pickC 4,[],n) ⟨hcq,hq2,hy,q3,by dsimp only; omega,by simp,g2⟩
  refine Ex1.T (dcT hg9) (Ex1.T (dcT ⟨hcq,hq2,hy,q3,by omega,by omega,trivial,by omega,g2⟩) (Ex1.c (.node (0,[],0,true,()) (o.1 ((Rose.node (y0,y1,y2,y3,y4,()) ys),(Cur.mk l a s).pickC 4,[],n)).1) rfl rfl ⟨fun m hm hl=>?_,?_⟩))
  ·exact Cur.good_mono (hA1.1 _ (Cur.pickC_good hm) (by dsimp only [Rose.kids]; omega)) (by dsimp only [Rose.kids]; omega)
  ·have:=hA1.2
   dsimp only [Rose.kids] at this
   rw [vcL] at this
   rw [vcR]; omega
 ·have h5:A8 5 ys=true:=by
   have hp:=q2.1
   unfold B5 at hp
   simp only [beq_eq_false_iff_ne] at h1 h2 h3 h4
   rw [if_neg (by omega),if_neg h3,if_neg h4] at hp
   split at hp
   ·cases hp
   ·rename_i hh
    have:y0=5:=by
     by_cases e:y0=5
     ·exact e
     ·exact absurd (Or.inl e) hh
    have:=q2.2
    simpa only [‹y0=5›] using this
  have e0:ys.drop 0=ys:=rfl
  have g3:(Cur.mk l a s).room (8+24*vbL ys):=Cur.good_mono q4 (by push_cast; omega)
  have hB1:=hB (ys,(Cur.mk l a s),[],0) ⟨by dsimp only; omega,h5,by dsimp only; omega,by dsimp only; omega,by simp,by dsimp only; rw [e0]; exact g3⟩
  refine Ex1.T (dcT ⟨by omega,h5,by omega,trivial,by omega,by omega,trivial,by omega,g3⟩) (Ex1.c (.node (0,[],0,true,()) (o.2 (ys,(Cur.mk l a s),[],0)).1) rfl rfl ⟨fun m hm hl=>?_,?_⟩)
  ·exact Cur.good_mono (hB1.1 m hm (by dsimp only; rw [e0]; omega)) (by dsimp only; rw [e0]; omega)
  ·have:=hB1.2
   dsimp only at this
   rw [e0,vcL] at this
   rw [vcR]; omega
theorem Ti (N:Nat) (f:Rose Lab->Cur->Rose An×Cur) (hf:Ad prog 130 (Ent.mix (Fy N f)).F) (pf : ∀ (z:Rose Lab) (c:Cur) (m:Int),Ao z<=N->Aj z=true->vbR z<=1000000->c.good m->m<=60000000-8*(vbR z:Int)->(f z c).2.good (m+8*(vbR z:Int))/\vcR (f z c).1<=vbR z) : ∃ g:Rose Lab->Cur->Rose An×Cur,Ad prog 130 (Ent.mix (Fy (N+1) g)).F/\∀ (z:Rose Lab) (c:Cur) (m:Int),Ao z<=N+1->Aj z=true->vbR z<=1000000->c.good m->m<=60000000-8*(vbR z:Int)->(g z c).2.good (m+8*(vbR z:Int))/\vcR (g z c).1<=vbR z:=by
 obtain ⟨o1,ho1⟩:=Dw (Y:=List (Rose An)×Cur) ([],Cur.mk [] 0 0) (VA N f Hg pf)
 obtain ⟨o2,ho2⟩:=Dw (Y:=List (Rose An)×Cur) ([],Cur.mk [] 0 0) (V8 N f Hg pf)
 have ex:=fun (z:Rose Lab) (c:Cur) (h:Ao z<=N+1/\Aj z=true/\vbR z<=1000000/\c.room (8*vbR z))=>X8 N f pf (o1,o2) (fun x hx=>(ho1 x hx).2) (fun x hx=>(ho2 x hx).2) z.lab.1 z.lab.2.1 z.lab.2.2.1 z.lab.2.2.2.1 z.lab.2.2.2.2.1 z.kids c.l c.a c.s (by rw [AT]; exact h.1) (by rw [AT]; exact h.2.1) (by rw [AT]; exact h.2.2.1) (by rw [AT]; exact h.2.2.2)
 classical
 refine ⟨fun z c=>if h:Ao z<=N+1/\Aj z=true/\vbR z<=1000000/\c.room (8*vbR z) then (ex z c h).choose else (.node (0,[],0,false,()) [],c),?_,fun z c m h1 h2 h3 hc hm=>?_⟩
 rotate_left
 ·have h:Ao z<=N+1/\Aj z=true/\vbR z<=1000000/\c.room (8*vbR z):=⟨h1,h2,h3,Cur.good_mono hc (by push_cast; omega)⟩
  simp only [dif_pos h]
  have:=(ex z c h).choose_spec.2
  generalize (ex z c h).choose=y at this
  rw [AT] at this
  exact ⟨this.1 m hc hm,this.2⟩
 refine Au (kc func103 FX (kc func53 QR (kc func106 cof (kc func119 VH (kc func130 hf KnowsL.nil))))).knows (Λ:=(Ab [(11,HO N o1),(16,HN N o2)])) func130 (c:=f130.body.getD .skip) (by kernel_rfl) fun vs bs r hq hv hb=>?_
 unfold Ent.F Fy at hq
 dsimp only at hq
 split at hq
 ·rename_i y0 y1 y2 y3 y4 ys l a s
  obtain ⟨hc,hx⟩:=Ae hq
  have hc:=of_decide_eq_true hc
  refine ⟨?_,((ex (Rose.node (y0,y1,y2,y3,y4,()) ys) (Cur.mk l a s) hc).choose_spec.1).trans ?_⟩
  ·refine LoopsI.loops (cs:=[body f130 0,body f130 1]) ?_ (by kernel_rfl)
   refine .cons (ent:=HO N o1) (by rfl) (fun d ex d' h=>?_) (.cons (ent:=HN N o2) (by rfl) (fun d ex d' h=>?_) .nil)
   ·unfold HO at h
    dsimp only at h
    split at h
    ·rename_i n l a s y0 y1 y2 y3 y4 ys w us
     obtain ⟨hc,hx⟩:=Ae h
     obtain ⟨k1,k2,k3,k4,k5,k6,rfl,k7,k8⟩:=of_decide_eq_true hc
     obtain ⟨n,rfl⟩:=eq_ofNat_of_zero_le k5
     simp only [ntN] at k7 k8 hx
     have h8:=Ar hx
     obtain ⟨rfl,rfl⟩:=Prod.mk.inj h8
     exact (ho1 ((Rose.node (y0,y1,y2,y3,y4,()) ys),(Cur.mk l a s),us,n) ⟨k1,k2,k3,k4,by dsimp only; omega,k7,k8⟩).1 (o1,o2)
    ·cases h
   ·unfold HN at h
    dsimp only at h
    split at h
    ·rename_i ks k i l a s w us
     obtain ⟨hc,hx⟩:=Ae h
     obtain ⟨k1,k2,k3,rfl,k5,k6,rfl,k7,k8⟩:=of_decide_eq_true hc
     obtain ⟨i,rfl⟩:=eq_ofNat_of_zero_le k5
     simp only [ntN] at k6 k7 k8 hx
     have h8:=Ar hx
     obtain ⟨rfl,rfl⟩:=Prod.mk.inj h8
     exact (ho2 (ks,(Cur.mk l a s),us,i) ⟨k1,k2,k3,k6,k7,k8⟩).1 (o1,o2)
    ·cases h
  ·rw [dif_pos hc] at hx
   exact hx
 ·cases hq
theorem Cq : ∀ N,∃ g:Rose Lab->Cur->Rose An×Cur,Ad prog 130 (Ent.mix (Fy N g)).F/\∀ (z:Rose Lab) (c:Cur) (m:Int),Ao z<=N->Aj z=true->vbR z<=1000000->c.good m->m<=60000000-8*(vbR z:Int)->(g z c).2.good (m+8*(vbR z:Int))/\vcR (g z c).1<=vbR z
 | 0=>⟨fun _ c=>(.node (0,[],0,false,()) [],c),AX fun vs bs=>by
  unfold Ent.F Fy
  dsimp only
  split
  ·rename_i y0 y1 y2 y3 y4 ys l a s
   have:decide (Ao (Rose.node (y0,y1,y2,y3,y4,()) ys)<=0/\Aj (Rose.node (y0,y1,y2,y3,y4,()) ys)=true/\vbR (Rose.node (y0,y1,y2,y3,y4,()) ys)<=1000000/\(Cur.mk l a s).room (8*vbR (Rose.node (y0,y1,y2,y3,y4,()) ys)))=false:=dcF (by have:=BX (Rose.node (y0,y1,y2,y3,y4,()) ys); omega)
   rw [this]; rfl
  ·rfl,fun z c m h=>by have:=BX z; omega⟩
 | N+1=>by
  obtain ⟨f,hf,pf⟩:=Cq N
  exact Ti N f hf pf
theorem KM : ∃ g:Rose Lab->Cur->Rose An×Cur,Ad prog 130 (Ent.mix (Ps g)).F/\∀ (z:Rose Lab) (c:Cur) (m:Int),Aj z=true->vbR z<=1000000->c.good m->m<=60000000-8*(vbR z:Int)->(g z c).2.good (m+8*(vbR z:Int))/\vcR (g z c).1<=vbR z:=by
 classical
 refine ⟨fun z c=>(Cq (Ao z)).choose z c,?_,fun z c m h1 h2 hc hm=>(Cq (Ao z)).choose_spec.2 z c m (le_refl _) h1 h2 hc hm⟩
 refine Bb (F:=fun n=>(Ent.mix (Fy n (Cq n).choose)).F) (fun n _=>(Cq n).choose_spec.1) fun vs bs r hq=>?_
 unfold Ent.F Ps at hq
 dsimp only at hq
 split at hq
 ·rename_i y0 y1 y2 y3 y4 ys l a s
  obtain ⟨hc,hx⟩:=Ae hq
  have hc:=of_decide_eq_true hc
  refine ⟨Ao (Rose.node (y0,y1,y2,y3,y4,()) ys),?_⟩
  show (Br.need (decide (Ao (Rose.node (y0,y1,y2,y3,y4,()) ys)<=Ao (Rose.node (y0,y1,y2,y3,y4,()) ys)/\Aj (Rose.node (y0,y1,y2,y3,y4,()) ys)=true/\vbR (Rose.node (y0,y1,y2,y3,y4,()) ys)<=1000000/\(Cur.mk l a s).room (8*vbR (Rose.node (y0,y1,y2,y3,y4,()) ys)))) (.leaf (.agg [.j ((Cq (Ao (Rose.node (y0,y1,y2,y3,y4,()) ys))).choose (Rose.node (y0,y1,y2,y3,y4,()) ys) (Cur.mk l a s)).1.lab.1,.s ((Cq (Ao (Rose.node (y0,y1,y2,y3,y4,()) ys))).choose (Rose.node (y0,y1,y2,y3,y4,()) ys) (Cur.mk l a s)).1.lab.2.1,.j ((Cq (Ao (Rose.node (y0,y1,y2,y3,y4,()) ys))).choose (Rose.node (y0,y1,y2,y3,y4,()) ys) (Cur.mk l a s)).1.lab.2.2.1,.b ((Cq (Ao (Rose.node (y0,y1,y2,y3,y4,()) ys))).choose (Rose.node (y0,y1,y2,y3,y4,()) ys) (Cur.mk l a s)).1.lab.2.2.2.1,.ref 1 0 ((Cq (Ao (Rose.node (y0,y1,y2,y3,y4,()) ys))).choose (Rose.node (y0,y1,y2,y3,y4,()) ys) (Cur.mk l a s)).1.kids.length],[some (cB ((Cq (Ao (Rose.node (y0,y1,y2,y3,y4,()) ys))).choose (Rose.node (y0,y1,y2,y3,y4,()) ys) (Cur.mk l a s)).2),some (.row false none (.rose VCd) ((Cq (Ao (Rose.node (y0,y1,y2,y3,y4,()) ys))).choose (Rose.node (y0,y1,y2,y3,y4,()) ys) (Cur.mk l a s)).1.kids)]))).run=some r
  rw [dcT ⟨le_refl _,hc⟩]
  exact hx
 ·cases hq
noncomputable def He:Rose Lab->Cur->Rose An×Cur:=KM.choose
theorem V9:Ad prog 130 (Ent.mix (Ps He)).F:=KM.choose_spec.1
theorem RQ : ∀ (z:Rose Lab) (c:Cur) (m:Int),Aj z=true->vbR z<=1000000->c.good m->m<=60000000-8*(vbR z:Int)->(He z c).2.good (m+8*(vbR z:Int))/\vcR (He z c).1<=vbR z:=KM.choose_spec.2
def QL (f:(List Ty)->Cur->(List Nd)×Cur):Gm
 | [.ptr 0 0,.agg [.sl TCd v]],[.box [.sl (.int .u8) l,.i .i64 a,.i .u64 s]]=>.need (decide (AC v=true/\nmL v=true/\(Cur.mk l a s).good 50000000)) (.leaf (.agg [.ref 1 0 (f v (Cur.mk l a s)).1.length],[some (cB (f v (Cur.mk l a s)).2),some (.row false none NCd (f v (Cur.mk l a s)).1)]))
 | _,_=>.no
theorem V6 (f:Rose Lab->Cur->Rose An×Cur) (h:Cur->(Int)×Cur) (v:List Ty) (l:List Int) (a s:Int):Bt prog (Ab [(45,.rd1 CJ),(130,.mix (Ps f)),(57,.rd1 ofG),(53,.own C7),(131,.rd1 NB),(103,.own Bk),(132,.own (KT h))]) (Ab []) f84 [.ptr 0 0,.agg [.sl TCd v]] [.box [.sl (.int .u8) l,.j a,.i .u64 s]] =
 ((shr (t2L v 0).lab.snd fun sh3=>shr (Rose.node ((t2L v 0).lab.fst,sh3.fst,sh3.snd.fst,sh3.snd.snd.fst,sh3.snd.snd.snd.fst,()) (take (t2L v (0 :
 Nat)).kids.length (drop 0 (t2L v 0).kids))) fun sh2=>shr (f sh2 (Cur.mk l a s)) fun sh1=>ifT (decide ((0:Int)<=(0:Int)/\0 <
 v.length/\v.length<=4000000000)) (ifT (decide (Aj sh2=true/\vbR sh2<=1000000/\(Cur.mk l a s).room (8*vbR sh2))) (ifT (decide (vcL
 (take sh1.fst.kids.length (drop 0 sh1.fst.kids))+1<=2000000)) (ifB (decide ((↑(Al (Rose.node (sh1.fst.lab.fst,
 sh1.fst.lab.snd.fst,sh1.fst.lab.snd.snd.fst,sh1.fst.lab.snd.snd.snd.fst,()) (take sh1.fst.kids.length (drop 0 sh1.fst.kids))) (-1:Int) (0 :
 Nat)).length:Int)>(40:Int))) (ifT (decide (sh1.snd.good (900000000:Int))) (ifB (!sh1.snd.pickV (4:Int)==(0:Int)) (ifT (decide (v.length<=(4000000000 :
 Nat))&&nmL v) (ifB (AC v) (ifT (decide ((sh1.snd.pickC (4:Int)).good (900000000:Int))) (ifB ((sh1.snd.pickC (4:Int)).pickV (12:Int)==(0:Int)) (ifT
 (decide (((sh1.snd.pickC (4:Int)).pickC (12:Int)).good (900000000:Int))) (ifT (decide ((((sh1.snd.pickC (4:Int)).pickC (12:Int)).pickC (↑(dfL v).length :
 Int)).good (900000000:Int))) (ifB ((((sh1.snd.pickC (4:Int)).pickC (12:Int)).pickC (↑(dfL v).length:Int)).pickV (4:Int)==(0:Int)) (ifT (decide
 (((((sh1.snd.pickC (4:Int)).pickC (12:Int)).pickC (↑(dfL v).length:Int)).pickC (4:Int)).good (80000000:Int))) (ifT (decide ((0:Int)<=((sh1.snd.pickC (4 :
 Int)).pickC (12:Int)).pickV (↑(dfL v).length:Int))&&decide (((sh1.snd.pickC (4:Int)).pickC (12:Int)).pickV (↑(dfL v).length:Int)<(↑(dfL v).length:Int)))
 (Ap (dfL v)[0+(((sh1.snd.pickC (4:Int)).pickC (12:Int)).pickV (↑(dfL v).length:Int)).toNat]? fun z=>some (V.agg [V.ref 1 0 (dfL v).length],[some
 (Blk.box [V.sl (Cd.int .u8) (h ((((sh1.snd.pickC (4:Int)).pickC (12:Int)).pickC (↑(dfL v).length:Int)).pickC (4:Int))).snd.l,V.j (h ((((sh1.snd.pickC (4 :
 Int)).pickC (12:Int)).pickC (↑(dfL v).length:Int)).pickC (4:Int))).snd.a,V.i .u64 (h ((((sh1.snd.pickC (4:Int)).pickC (12:Int)).pickC (↑(dfL v).length :
 Int)).pickC (4:Int))).snd.s]),some (Blk.row false none NCd ((dfL v).set (0+(((sh1.snd.pickC (4:Int)).pickC (12:Int)).pickV (↑(dfL v).length :
 Int)).toNat) ((h ((((sh1.snd.pickC (4:Int)).pickC (12:Int)).pickC (↑(dfL v).length:Int)).pickC (4:Int))).fst,z.snd.fst,z.snd.snd.fst,z.snd.snd.snd.fst,
 z.snd.snd.snd.snd.fst,())))])))) (ifB ((((sh1.snd.pickC (4:Int)).pickC (12:Int)).pickC (↑(dfL v).length:Int)).pickV (4:Int)==(1:Int)) (ifT (decide
 (((((sh1.snd.pickC (4:Int)).pickC (12:Int)).pickC (↑(dfL v).length:Int)).pickC (4:Int)).good (900000000:Int))) (ifT (decide ((0:Int)<=((sh1.snd.pickC (4 :
 Int)).pickC (12:Int)).pickV (↑(dfL v).length:Int))&&decide (((sh1.snd.pickC (4:Int)).pickC (12:Int)).pickV (↑(dfL v).length:Int)<(↑(dfL v).length:Int)))
 (Ap (dfL v)[0+(((sh1.snd.pickC (4:Int)).pickC (12:Int)).pickV (↑(dfL v).length:Int)).toNat]? fun z=>some (V.agg [V.ref 1 0 (dfL v).length],[some
 (Blk.box [V.sl (Cd.int .u8) (((((sh1.snd.pickC (4:Int)).pickC (12:Int)).pickC (↑(dfL v).length:Int)).pickC (4:Int)).pickC (5:Int)).l,V.i .i64
 (((((sh1.snd.pickC (4:Int)).pickC (12:Int)).pickC (↑(dfL v).length:Int)).pickC (4:Int)).pickC (5:Int)).a,V.i .u64 (((((sh1.snd.pickC (4:Int)).pickC (12 :
 Int)).pickC (↑(dfL v).length:Int)).pickC (4:Int)).pickC (5:Int)).s]),some (Blk.row false none NCd ((dfL v).set (0+(((sh1.snd.pickC (4:Int)).pickC (12 :
 Int)).pickV (↑(dfL v).length:Int)).toNat) (z.fst,z.snd.fst,((((sh1.snd.pickC (4:Int)).pickC (12:Int)).pickC (↑(dfL v).length:Int)).pickC (4:Int)).pickV (5 :
 Int),z.snd.snd.snd.fst,z.snd.snd.snd.snd.fst,())))])))) (ifB ((((sh1.snd.pickC (4:Int)).pickC (12:Int)).pickC (↑(dfL v).length:Int)).pickV (4:Int)==(2 :
 Int)) (ifT (decide ((0:Int)<=((sh1.snd.pickC (4:Int)).pickC (12:Int)).pickV (↑(dfL v).length:Int))&&decide (((sh1.snd.pickC (4:Int)).pickC (12:Int)).pickV
 (↑(dfL v).length:Int)<(↑(dfL v).length:Int))) (Ap (dfL v)[0+(((sh1.snd.pickC (4:Int)).pickC (12:Int)).pickV (↑(dfL v).length:Int)).toNat]? fun z
 => ifT (decide ((0:Int)<=((sh1.snd.pickC (4:Int)).pickC (12:Int)).pickV (↑(dfL v).length:Int))&&decide (((sh1.snd.pickC (4:Int)).pickC (12:Int)).pickV
 (↑(dfL v).length:Int)<(↑(dfL v).length:Int))) (Ap (dfL v)[0+(((sh1.snd.pickC (4:Int)).pickC (12:Int)).pickV (↑(dfL v).length:Int)).toNat]? fun
 z_1=>some (V.agg [V.ref 1 0 (dfL v).length],[some (Blk.box [V.sl (Cd.int .u8) ((((sh1.snd.pickC (4:Int)).pickC (12:Int)).pickC (↑(dfL v).length:Int)).pickC (4 :
 Int)).l,V.j ((((sh1.snd.pickC (4:Int)).pickC (12:Int)).pickC (↑(dfL v).length:Int)).pickC (4:Int)).a,V.i .u64 ((((sh1.snd.pickC (4:Int)).pickC (12 :
 Int)).pickC (↑(dfL v).length:Int)).pickC (4:Int)).s]),some (Blk.row false none NCd ((dfL v).set (0+(((sh1.snd.pickC (4:Int)).pickC (12:Int)).pickV
 (↑(dfL v).length:Int)).toNat) (z_1.fst,z_1.snd.fst,z_1.snd.snd.fst,z_1.snd.snd.snd.fst,!z.snd.snd.snd.snd.fst,())))])))) (ifT (decide (((((sh1.snd.pickC (4 :
 Int)).pickC (12:Int)).pickC (↑(dfL v).length:Int)).pickC (4:Int)).good (900000000:Int))) (ifT (decide ((0:Int)<=((sh1.snd.pickC (4:Int)).pickC (12 :
 Int)).pickV (↑(dfL v).length:Int))&&decide (((sh1.snd.pickC (4:Int)).pickC (12:Int)).pickV (↑(dfL v).length:Int)<(↑(dfL v).length:Int))) (Ap (dfL v)[(0
 : Nat)+(((sh1.snd.pickC (4:Int)).pickC (12:Int)).pickV (↑(dfL v).length:Int)).toNat]? fun z=>some (V.agg [V.ref 1 0 (dfL v).length],[some (Blk.box [V.sl
 (Cd.int .u8) (((((sh1.snd.pickC (4:Int)).pickC (12:Int)).pickC (↑(dfL v).length:Int)).pickC (4:Int)).pickC (3:Int)).l,V.j (((((sh1.snd.pickC (4 :
 Int)).pickC (12:Int)).pickC (↑(dfL v).length:Int)).pickC (4:Int)).pickC (3:Int)).a,V.i .u64 (((((sh1.snd.pickC (4:Int)).pickC (12:Int)).pickC (↑(dfL
 v).length:Int)).pickC (4:Int)).pickC (3:Int)).s]),some (Blk.row false none NCd ((dfL v).set (0+(((sh1.snd.pickC (4:Int)).pickC (12:Int)).pickV (↑(dfL
 v).length:Int)).toNat) (z.fst,z.snd.fst,z.snd.snd.fst,i64.wrap (((((sh1.snd.pickC (4:Int)).pickC (12:Int)).pickC (↑(dfL v).length:Int)).pickC (4 :
 Int)).pickV (3:Int)-(1:Int)),z.snd.snd.snd.snd.fst,())))]))))))))) (some (V.agg [V.ref 1 0 (dfL v).length],[some (Blk.box [V.sl (Cd.int .u8) ((sh1.snd.pickC (4 :
 Int)).pickC (12:Int)).l,V.j ((sh1.snd.pickC (4:Int)).pickC (12:Int)).a,V.i .u64 ((sh1.snd.pickC (4:Int)).pickC (12:Int)).s]),some (Blk.row false none
 NCd (dfL v))])))) (ifT (decide ((sh1.snd.pickC (4:Int)).good (900000000:Int))) (ifB ((sh1.snd.pickC (4:Int)).pickV (12:Int)==(0:Int)) (ifT (decide
 (((sh1.snd.pickC (4:Int)).pickC (12:Int)).good (900000000:Int))) (ifT (decide ((((sh1.snd.pickC (4:Int)).pickC (12:Int)).pickC (↑(0:Nat):Int)).good
 (900000000:Int))) (ifB ((((sh1.snd.pickC (4:Int)).pickC (12:Int)).pickC (↑(0:Nat):Int)).pickV (4:Int)==(0:Int)) (ifT (decide (((((sh1.snd.pickC (4 :
 Int)).pickC (12:Int)).pickC (↑(0:Nat):Int)).pickC (4:Int)).good (80000000:Int))) none) (ifB ((((sh1.snd.pickC (4:Int)).pickC (12:Int)).pickC (↑(0:Nat) :
 Int)).pickV (4:Int)==(1:Int)) (ifT (decide (((((sh1.snd.pickC (4:Int)).pickC (12:Int)).pickC (↑(0:Nat):Int)).pickC (4:Int)).good (900000000:Int))) none)
 (ifB ((((sh1.snd.pickC (4:Int)).pickC (12:Int)).pickC (↑(0:Nat):Int)).pickV (4:Int)==(2:Int)) none (ifT (decide (((((sh1.snd.pickC (4:Int)).pickC (12 :
 Int)).pickC (↑(0:Nat):Int)).pickC (4:Int)).good (900000000:Int))) none)))))) (some (V.agg [V.ref 1 0 0],[some (Blk.box [V.sl (Cd.int .u8) ((sh1.snd.pickC (4 :
 Int)).pickC (12:Int)).l,V.j ((sh1.snd.pickC (4:Int)).pickC (12:Int)).a,V.i .u64 ((sh1.snd.pickC (4:Int)).pickC (12:Int)).s]),some (Blk.row false none
 NCd (Ag NCd.den))])))))) (ifT (decide ((sh1.snd.pickC (4:Int)).good (900000000:Int))) (ifB ((sh1.snd.pickC (4:Int)).pickV (12:Int)==(0:Int)) (ifT (decide
 (((sh1.snd.pickC (4:Int)).pickC (12:Int)).good (900000000:Int))) (ifT (decide ((((sh1.snd.pickC (4:Int)).pickC (12:Int)).pickC (↑(Al (Rose.node
 (sh1.fst.lab.fst,sh1.fst.lab.snd.fst,sh1.fst.lab.snd.snd.fst,sh1.fst.lab.snd.snd.snd.fst,()) (take sh1.fst.kids.length (drop 0 sh1.fst.kids))) (-1 :
 Int) 0).length:Int)).good (900000000:Int))) (ifB ((((sh1.snd.pickC (4:Int)).pickC (12:Int)).pickC (↑(Al (Rose.node (sh1.fst.lab.fst,
 sh1.fst.lab.snd.fst,sh1.fst.lab.snd.snd.fst,sh1.fst.lab.snd.snd.snd.fst,()) (take sh1.fst.kids.length (drop 0 sh1.fst.kids))) (-1:Int) (0 :
 Nat)).length:Int)).pickV (4:Int)==(0:Int)) (ifT (decide (((((sh1.snd.pickC (4:Int)).pickC (12:Int)).pickC (↑(Al (Rose.node (sh1.fst.lab.fst,
 sh1.fst.lab.snd.fst,sh1.fst.lab.snd.snd.fst,sh1.fst.lab.snd.snd.snd.fst,()) (take sh1.fst.kids.length (drop 0 sh1.fst.kids))) (-1:Int) (0 :
 Nat)).length:Int)).pickC (4:Int)).good (80000000:Int))) (ifT (decide ((0:Int)<=((sh1.snd.pickC (4:Int)).pickC (12:Int)).pickV (↑(Al (Rose.node
 (sh1.fst.lab.fst,sh1.fst.lab.snd.fst,sh1.fst.lab.snd.snd.fst,sh1.fst.lab.snd.snd.snd.fst,()) (take sh1.fst.kids.length (drop 0 sh1.fst.kids))) (-1 :
 Int) 0).length:Int))&&decide (((sh1.snd.pickC (4:Int)).pickC (12:Int)).pickV (↑(Al (Rose.node (sh1.fst.lab.fst,sh1.fst.lab.snd.fst,
 sh1.fst.lab.snd.snd.fst,sh1.fst.lab.snd.snd.snd.fst,()) (take sh1.fst.kids.length (drop 0 sh1.fst.kids))) (-1:Int) 0).length:Int) <
 (↑(Al (Rose.node (sh1.fst.lab.fst,sh1.fst.lab.snd.fst,sh1.fst.lab.snd.snd.fst,sh1.fst.lab.snd.snd.snd.fst,()) (take sh1.fst.kids.length (drop 0
 sh1.fst.kids))) (-1:Int) 0).length:Int))) (Ap (Al (Rose.node (sh1.fst.lab.fst,sh1.fst.lab.snd.fst,sh1.fst.lab.snd.snd.fst,
 sh1.fst.lab.snd.snd.snd.fst,()) (take sh1.fst.kids.length (drop 0 sh1.fst.kids))) (-1:Int) 0)[0+(((sh1.snd.pickC (4:Int)).pickC
 (12:Int)).pickV (↑(Al (Rose.node (sh1.fst.lab.fst,sh1.fst.lab.snd.fst,sh1.fst.lab.snd.snd.fst,sh1.fst.lab.snd.snd.snd.fst,()) (take sh1.fst.kids.length
 (drop 0 sh1.fst.kids))) (-1:Int) 0).length:Int)).toNat]? fun z=>some (V.agg [V.ref 1 0 (Al (Rose.node (sh1.fst.lab.fst,sh1.fst.lab.snd.fst,
 sh1.fst.lab.snd.snd.fst,sh1.fst.lab.snd.snd.snd.fst,()) (take sh1.fst.kids.length (drop 0 sh1.fst.kids))) (-1:Int) 0).length],[some
 (Blk.box [V.sl (Cd.int .u8) (h ((((sh1.snd.pickC (4:Int)).pickC (12:Int)).pickC (↑(Al (Rose.node (sh1.fst.lab.fst,sh1.fst.lab.snd.fst,sh1.fst.lab.snd.snd.fst,
 sh1.fst.lab.snd.snd.snd.fst,()) (take sh1.fst.kids.length (drop 0 sh1.fst.kids))) (-1:Int) 0).length:Int)).pickC (4:Int))).snd.l,V.i
 .i64 (h ((((sh1.snd.pickC (4:Int)).pickC (12:Int)).pickC (↑(Al (Rose.node (sh1.fst.lab.fst,sh1.fst.lab.snd.fst,sh1.fst.lab.snd.snd.fst,
 sh1.fst.lab.snd.snd.snd.fst,()) (take sh1.fst.kids.length (drop 0 sh1.fst.kids))) (-1:Int) 0).length:Int)).pickC (4:Int))).snd.a,V.i
 .u64 (h ((((sh1.snd.pickC (4:Int)).pickC (12:Int)).pickC (↑(Al (Rose.node (sh1.fst.lab.fst,sh1.fst.lab.snd.fst,sh1.fst.lab.snd.snd.fst,
 sh1.fst.lab.snd.snd.snd.fst,()) (take sh1.fst.kids.length (drop 0 sh1.fst.kids))) (-1:Int) 0).length:Int)).pickC (4:Int))).snd.s]),some
 (Blk.row false none NCd ((Al (Rose.node (sh1.fst.lab.fst,sh1.fst.lab.snd.fst,sh1.fst.lab.snd.snd.fst,sh1.fst.lab.snd.snd.snd.fst,()) (take sh1.fst.kids.length
 (drop 0 sh1.fst.kids))) (-1:Int) 0).set (0+(((sh1.snd.pickC (4:Int)).pickC (12:Int)).pickV (↑(Al (Rose.node (sh1.fst.lab.fst,
 sh1.fst.lab.snd.fst,sh1.fst.lab.snd.snd.fst,sh1.fst.lab.snd.snd.snd.fst,()) (take sh1.fst.kids.length (drop 0 sh1.fst.kids))) (-1:Int) (0 :
 Nat)).length:Int)).toNat) ((h ((((sh1.snd.pickC (4:Int)).pickC (12:Int)).pickC (↑(Al (Rose.node (sh1.fst.lab.fst,sh1.fst.lab.snd.fst,sh1.fst.lab.snd.snd.fst,
 sh1.fst.lab.snd.snd.snd.fst,()) (take sh1.fst.kids.length (drop 0 sh1.fst.kids))) (-1:Int) 0).length:Int)).pickC (4:Int))).fst,
 z.snd.fst,z.snd.snd.fst,z.snd.snd.snd.fst,z.snd.snd.snd.snd.fst,())))])))) (ifB ((((sh1.snd.pickC (4:Int)).pickC (12:Int)).pickC (↑(Al (Rose.node
 (sh1.fst.lab.fst,sh1.fst.lab.snd.fst,sh1.fst.lab.snd.snd.fst,sh1.fst.lab.snd.snd.snd.fst,()) (take sh1.fst.kids.length (drop 0 sh1.fst.kids))) (-1 :
 Int) 0).length:Int)).pickV (4:Int)==(1:Int)) (ifT (decide (((((sh1.snd.pickC (4:Int)).pickC (12:Int)).pickC (↑(Al (Rose.node (sh1.fst.lab.fst,
 sh1.fst.lab.snd.fst,sh1.fst.lab.snd.snd.fst,sh1.fst.lab.snd.snd.snd.fst,()) (take sh1.fst.kids.length (drop 0 sh1.fst.kids))) (-1:Int) (0 :
 Nat)).length:Int)).pickC (4:Int)).good (900000000:Int))) (ifT (decide ((0:Int)<=((sh1.snd.pickC (4:Int)).pickC (12:Int)).pickV (↑(Al (Rose.node
 (sh1.fst.lab.fst,sh1.fst.lab.snd.fst,sh1.fst.lab.snd.snd.fst,sh1.fst.lab.snd.snd.snd.fst,()) (take sh1.fst.kids.length (drop 0 sh1.fst.kids))) (-1 :
 Int) 0).length:Int))&&decide (((sh1.snd.pickC (4:Int)).pickC (12:Int)).pickV (↑(Al (Rose.node (sh1.fst.lab.fst,sh1.fst.lab.snd.fst,
 sh1.fst.lab.snd.snd.fst,sh1.fst.lab.snd.snd.snd.fst,()) (take sh1.fst.kids.length (drop 0 sh1.fst.kids))) (-1:Int) 0).length:Int) <
 (↑(Al (Rose.node (sh1.fst.lab.fst,sh1.fst.lab.snd.fst,sh1.fst.lab.snd.snd.fst,sh1.fst.lab.snd.snd.snd.fst,()) (take sh1.fst.kids.length (drop 0
 sh1.fst.kids))) (-1:Int) 0).length:Int))) (Ap (Al (Rose.node (sh1.fst.lab.fst,sh1.fst.lab.snd.fst,sh1.fst.lab.snd.snd.fst,
 sh1.fst.lab.snd.snd.snd.fst,()) (take sh1.fst.kids.length (drop 0 sh1.fst.kids))) (-1:Int) 0)[0+(((sh1.snd.pickC (4:Int)).pickC
 (12:Int)).pickV (↑(Al (Rose.node (sh1.fst.lab.fst,sh1.fst.lab.snd.fst,sh1.fst.lab.snd.snd.fst,sh1.fst.lab.snd.snd.snd.fst,()) (take sh1.fst.kids.length
 (drop 0 sh1.fst.kids))) (-1:Int) 0).length:Int)).toNat]? fun z=>some (V.agg [V.ref 1 0 (Al (Rose.node (sh1.fst.lab.fst,sh1.fst.lab.snd.fst,
 sh1.fst.lab.snd.snd.fst,sh1.fst.lab.snd.snd.snd.fst,()) (take sh1.fst.kids.length (drop 0 sh1.fst.kids))) (-1:Int) 0).length],[some
 (Blk.box [V.sl (Cd.int .u8) (((((sh1.snd.pickC (4:Int)).pickC (12:Int)).pickC (↑(Al (Rose.node (sh1.fst.lab.fst,sh1.fst.lab.snd.fst,sh1.fst.lab.snd.snd.fst,
 sh1.fst.lab.snd.snd.snd.fst,()) (take sh1.fst.kids.length (drop 0 sh1.fst.kids))) (-1:Int) 0).length:Int)).pickC (4:Int)).pickC (5 :
 Int)).l,V.j (((((sh1.snd.pickC (4:Int)).pickC (12:Int)).pickC (↑(Al (Rose.node (sh1.fst.lab.fst,sh1.fst.lab.snd.fst,sh1.fst.lab.snd.snd.fst,
 sh1.fst.lab.snd.snd.snd.fst,()) (take sh1.fst.kids.length (drop 0 sh1.fst.kids))) (-1:Int) 0).length:Int)).pickC (4:Int)).pickC (5 :
 Int)).a,V.i .u64 (((((sh1.snd.pickC (4:Int)).pickC (12:Int)).pickC (↑(Al (Rose.node (sh1.fst.lab.fst,sh1.fst.lab.snd.fst,sh1.fst.lab.snd.snd.fst,
 sh1.fst.lab.snd.snd.snd.fst,()) (take sh1.fst.kids.length (drop 0 sh1.fst.kids))) (-1:Int) 0).length:Int)).pickC (4:Int)).pickC (5 :
 Int)).s]),some (Blk.row false none NCd ((Al (Rose.node (sh1.fst.lab.fst,sh1.fst.lab.snd.fst,sh1.fst.lab.snd.snd.fst,sh1.fst.lab.snd.snd.snd.fst,()) (take
 sh1.fst.kids.length (drop 0 sh1.fst.kids))) (-1:Int) 0).set (0+(((sh1.snd.pickC (4:Int)).pickC (12:Int)).pickV (↑(Al (Rose.node
 (sh1.fst.lab.fst,sh1.fst.lab.snd.fst,sh1.fst.lab.snd.snd.fst,sh1.fst.lab.snd.snd.snd.fst,()) (take sh1.fst.kids.length (drop 0 sh1.fst.kids))) (-1 :
 Int) 0).length:Int)).toNat) (z.fst,z.snd.fst,((((sh1.snd.pickC (4:Int)).pickC (12:Int)).pickC (↑(Al (Rose.node (sh1.fst.lab.fst,sh1.fst.lab.snd.fst,
 sh1.fst.lab.snd.snd.fst,sh1.fst.lab.snd.snd.snd.fst,()) (take sh1.fst.kids.length (drop 0 sh1.fst.kids))) (-1:Int) 0).length:Int)).pickC
 (4:Int)).pickV (5:Int),z.snd.snd.snd.fst,z.snd.snd.snd.snd.fst,())))])))) (ifB ((((sh1.snd.pickC (4:Int)).pickC (12:Int)).pickC (↑(Al (Rose.node
 (sh1.fst.lab.fst,sh1.fst.lab.snd.fst,sh1.fst.lab.snd.snd.fst,sh1.fst.lab.snd.snd.snd.fst,()) (take sh1.fst.kids.length (drop 0 sh1.fst.kids))) (-1 :
 Int) 0).length:Int)).pickV (4:Int)==(2:Int)) (ifT (decide ((0:Int)<=((sh1.snd.pickC (4:Int)).pickC (12:Int)).pickV (↑(Al (Rose.node
 (sh1.fst.lab.fst,sh1.fst.lab.snd.fst,sh1.fst.lab.snd.snd.fst,sh1.fst.lab.snd.snd.snd.fst,()) (take sh1.fst.kids.length (drop 0 sh1.fst.kids))) (-1 :
 Int) 0).length:Int))&&decide (((sh1.snd.pickC (4:Int)).pickC (12:Int)).pickV (↑(Al (Rose.node (sh1.fst.lab.fst,sh1.fst.lab.snd.fst,
 sh1.fst.lab.snd.snd.fst,sh1.fst.lab.snd.snd.snd.fst,()) (take sh1.fst.kids.length (drop 0 sh1.fst.kids))) (-1:Int) 0).length:Int) <
 (↑(Al (Rose.node (sh1.fst.lab.fst,sh1.fst.lab.snd.fst,sh1.fst.lab.snd.snd.fst,sh1.fst.lab.snd.snd.snd.fst,()) (take sh1.fst.kids.length (drop 0
 sh1.fst.kids))) (-1:Int) 0).length:Int))) (Ap (Al (Rose.node (sh1.fst.lab.fst,sh1.fst.lab.snd.fst,sh1.fst.lab.snd.snd.fst,
 sh1.fst.lab.snd.snd.snd.fst,()) (take sh1.fst.kids.length (drop 0 sh1.fst.kids))) (-1:Int) 0)[0+(((sh1.snd.pickC (4:Int)).pickC
 (12:Int)).pickV (↑(Al (Rose.node (sh1.fst.lab.fst,sh1.fst.lab.snd.fst,sh1.fst.lab.snd.snd.fst,sh1.fst.lab.snd.snd.snd.fst,()) (take sh1.fst.kids.length
 (drop 0 sh1.fst.kids))) (-1:Int) 0).length:Int)).toNat]? fun z=>ifT (decide ((0:Int)<=((sh1.snd.pickC (4:Int)).pickC (12:Int)).pickV
 (↑(Al (Rose.node (sh1.fst.lab.fst,sh1.fst.lab.snd.fst,sh1.fst.lab.snd.snd.fst,sh1.fst.lab.snd.snd.snd.fst,()) (take sh1.fst.kids.length (drop 0
 sh1.fst.kids))) (-1:Int) 0).length:Int))&&decide (((sh1.snd.pickC (4:Int)).pickC (12:Int)).pickV (↑(Al (Rose.node (sh1.fst.lab.fst,
 sh1.fst.lab.snd.fst,sh1.fst.lab.snd.snd.fst,sh1.fst.lab.snd.snd.snd.fst,()) (take sh1.fst.kids.length (drop 0 sh1.fst.kids))) (-1:Int) (0 :
 Nat)).length:Int)<(↑(Al (Rose.node (sh1.fst.lab.fst,sh1.fst.lab.snd.fst,sh1.fst.lab.snd.snd.fst,sh1.fst.lab.snd.snd.snd.fst,()) (take sh1.fst.kids.length
 (drop 0 sh1.fst.kids))) (-1:Int) 0).length:Int))) (Ap (Al (Rose.node (sh1.fst.lab.fst,sh1.fst.lab.snd.fst,sh1.fst.lab.snd.snd.fst,
 sh1.fst.lab.snd.snd.snd.fst,()) (take sh1.fst.kids.length (drop 0 sh1.fst.kids))) (-1:Int) 0)[0+(((sh1.snd.pickC (4:Int)).pickC
 (12:Int)).pickV (↑(Al (Rose.node (sh1.fst.lab.fst,sh1.fst.lab.snd.fst,sh1.fst.lab.snd.snd.fst,sh1.fst.lab.snd.snd.snd.fst,()) (take sh1.fst.kids.length
 (drop 0 sh1.fst.kids))) (-1:Int) 0).length:Int)).toNat]? fun z_1=>some (V.agg [V.ref 1 0 (Al (Rose.node (sh1.fst.lab.fst,
 sh1.fst.lab.snd.fst,sh1.fst.lab.snd.snd.fst,sh1.fst.lab.snd.snd.snd.fst,()) (take sh1.fst.kids.length (drop 0 sh1.fst.kids))) (-1:Int) (0 :
 Nat)).length],[some (Blk.box [V.sl (Cd.int .u8) ((((sh1.snd.pickC (4:Int)).pickC (12:Int)).pickC (↑(Al (Rose.node (sh1.fst.lab.fst,sh1.fst.lab.snd.fst,
 sh1.fst.lab.snd.snd.fst,sh1.fst.lab.snd.snd.snd.fst,()) (take sh1.fst.kids.length (drop 0 sh1.fst.kids))) (-1:Int) 0).length:Int)).pickC
 (4:Int)).l,V.j ((((sh1.snd.pickC (4:Int)).pickC (12:Int)).pickC (↑(Al (Rose.node (sh1.fst.lab.fst,sh1.fst.lab.snd.fst,sh1.fst.lab.snd.snd.fst,
 sh1.fst.lab.snd.snd.snd.fst,()) (take sh1.fst.kids.length (drop 0 sh1.fst.kids))) (-1:Int) 0).length:Int)).pickC (4:Int)).a,V.i .u64
 ((((sh1.snd.pickC (4:Int)).pickC (12:Int)).pickC (↑(Al (Rose.node (sh1.fst.lab.fst,sh1.fst.lab.snd.fst,sh1.fst.lab.snd.snd.fst,sh1.fst.lab.snd.snd.snd.fst,())
 (take sh1.fst.kids.length (drop 0 sh1.fst.kids))) (-1:Int) 0).length:Int)).pickC (4:Int)).s]),some (Blk.row false none NCd ((Al
 (Rose.node (sh1.fst.lab.fst,sh1.fst.lab.snd.fst,sh1.fst.lab.snd.snd.fst,sh1.fst.lab.snd.snd.snd.fst,()) (take sh1.fst.kids.length (drop 0
 sh1.fst.kids))) (-1:Int) 0).set (0+(((sh1.snd.pickC (4:Int)).pickC (12:Int)).pickV (↑(Al (Rose.node (sh1.fst.lab.fst,sh1.fst.lab.snd.fst,
 sh1.fst.lab.snd.snd.fst,sh1.fst.lab.snd.snd.snd.fst,()) (take sh1.fst.kids.length (drop 0 sh1.fst.kids))) (-1:Int) 0).length:Int)).toNat)
 (z_1.fst,z_1.snd.fst,z_1.snd.snd.fst,z_1.snd.snd.snd.fst,!z.snd.snd.snd.snd.fst,())))])))) (ifT (decide (((((sh1.snd.pickC (4:Int)).pickC (12:Int)).pickC
 (↑(Al (Rose.node (sh1.fst.lab.fst,sh1.fst.lab.snd.fst,sh1.fst.lab.snd.snd.fst,sh1.fst.lab.snd.snd.snd.fst,()) (take sh1.fst.kids.length (drop 0
 sh1.fst.kids))) (-1:Int) 0).length:Int)).pickC (4:Int)).good (900000000:Int))) (ifT (decide ((0:Int)<=((sh1.snd.pickC (4:Int)).pickC (12 :
 Int)).pickV (↑(Al (Rose.node (sh1.fst.lab.fst,sh1.fst.lab.snd.fst,sh1.fst.lab.snd.snd.fst,sh1.fst.lab.snd.snd.snd.fst,()) (take sh1.fst.kids.length (drop
 0 sh1.fst.kids))) (-1:Int) 0).length:Int))&&decide (((sh1.snd.pickC (4:Int)).pickC (12:Int)).pickV (↑(Al (Rose.node (sh1.fst.lab.fst,
 sh1.fst.lab.snd.fst,sh1.fst.lab.snd.snd.fst,sh1.fst.lab.snd.snd.snd.fst,()) (take sh1.fst.kids.length (drop 0 sh1.fst.kids))) (-1:Int) (0 :
 Nat)).length:Int)<(↑(Al (Rose.node (sh1.fst.lab.fst,sh1.fst.lab.snd.fst,sh1.fst.lab.snd.snd.fst,sh1.fst.lab.snd.snd.snd.fst,()) (take sh1.fst.kids.length
 (drop 0 sh1.fst.kids))) (-1:Int) 0).length:Int))) (Ap (Al (Rose.node (sh1.fst.lab.fst,sh1.fst.lab.snd.fst,sh1.fst.lab.snd.snd.fst,
 sh1.fst.lab.snd.snd.snd.fst,()) (take sh1.fst.kids.length (drop 0 sh1.fst.kids))) (-1:Int) 0)[0+(((sh1.snd.pickC (4:Int)).pickC
 (12:Int)).pickV (↑(Al (Rose.node (sh1.fst.lab.fst,sh1.fst.lab.snd.fst,sh1.fst.lab.snd.snd.fst,sh1.fst.lab.snd.snd.snd.fst,()) (take sh1.fst.kids.length
 (drop 0 sh1.fst.kids))) (-1:Int) 0).length:Int)).toNat]? fun z=>some (V.agg [V.ref 1 0 (Al (Rose.node (sh1.fst.lab.fst,sh1.fst.lab.snd.fst,
 sh1.fst.lab.snd.snd.fst,sh1.fst.lab.snd.snd.snd.fst,()) (take sh1.fst.kids.length (drop 0 sh1.fst.kids))) (-1:Int) 0).length],[some
 (Blk.box [V.sl (Cd.int .u8) (((((sh1.snd.pickC (4:Int)).pickC (12:Int)).pickC (↑(Al (Rose.node (sh1.fst.lab.fst,sh1.fst.lab.snd.fst,sh1.fst.lab.snd.snd.fst,
 sh1.fst.lab.snd.snd.snd.fst,()) (take sh1.fst.kids.length (drop 0 sh1.fst.kids))) (-1:Int) 0).length:Int)).pickC (4:Int)).pickC (3 :
 Int)).l,V.j (((((sh1.snd.pickC (4:Int)).pickC (12:Int)).pickC (↑(Al (Rose.node (sh1.fst.lab.fst,sh1.fst.lab.snd.fst,sh1.fst.lab.snd.snd.fst,
 sh1.fst.lab.snd.snd.snd.fst,()) (take sh1.fst.kids.length (drop 0 sh1.fst.kids))) (-1:Int) 0).length:Int)).pickC (4:Int)).pickC (3 :
 Int)).a,V.i .u64 (((((sh1.snd.pickC (4:Int)).pickC (12:Int)).pickC (↑(Al (Rose.node (sh1.fst.lab.fst,sh1.fst.lab.snd.fst,sh1.fst.lab.snd.snd.fst,
 sh1.fst.lab.snd.snd.snd.fst,()) (take sh1.fst.kids.length (drop 0 sh1.fst.kids))) (-1:Int) 0).length:Int)).pickC (4:Int)).pickC (3 :
 Int)).s]),some (Blk.row false none NCd ((Al (Rose.node (sh1.fst.lab.fst,sh1.fst.lab.snd.fst,sh1.fst.lab.snd.snd.fst,sh1.fst.lab.snd.snd.snd.fst,()) (take
 sh1.fst.kids.length (drop 0 sh1.fst.kids))) (-1:Int) 0).set (0+(((sh1.snd.pickC (4:Int)).pickC (12:Int)).pickV (↑(Al (Rose.node
 (sh1.fst.lab.fst,sh1.fst.lab.snd.fst,sh1.fst.lab.snd.snd.fst,sh1.fst.lab.snd.snd.snd.fst,()) (take sh1.fst.kids.length (drop 0 sh1.fst.kids))) (-1 :
 Int) 0).length:Int)).toNat) (z.fst,z.snd.fst,z.snd.snd.fst,i64.wrap (((((sh1.snd.pickC (4:Int)).pickC (12:Int)).pickC (↑(Al (Rose.node
 (sh1.fst.lab.fst,sh1.fst.lab.snd.fst,sh1.fst.lab.snd.snd.fst,sh1.fst.lab.snd.snd.snd.fst,()) (take sh1.fst.kids.length (drop 0 sh1.fst.kids))) (-1 :
 Int) 0).length:Int)).pickC (4:Int)).pickV (3:Int)-(1:Int)),z.snd.snd.snd.snd.fst,())))]))))))))) (some (V.agg [V.ref 1 0 (Al (Rose.node
 (sh1.fst.lab.fst,sh1.fst.lab.snd.fst,sh1.fst.lab.snd.snd.fst,sh1.fst.lab.snd.snd.snd.fst,()) (take sh1.fst.kids.length (drop 0 sh1.fst.kids))) (-1 :
 Int) 0).length],[some (Blk.box [V.sl (Cd.int .u8) ((sh1.snd.pickC (4:Int)).pickC (12:Int)).l,V.j ((sh1.snd.pickC (4:Int)).pickC (12:Int)).a,V.i
 .u64 ((sh1.snd.pickC (4:Int)).pickC (12:Int)).s]),some (Blk.row false none NCd (Al (Rose.node (sh1.fst.lab.fst,sh1.fst.lab.snd.fst,sh1.fst.lab.snd.snd.fst,
 sh1.fst.lab.snd.snd.snd.fst,()) (take sh1.fst.kids.length (drop 0 sh1.fst.kids))) (-1:Int) 0))])))))) (ifT (decide (sh1.snd.good (900000000 :
 Int))) (ifB (sh1.snd.pickV (12:Int)==(0:Int)) (ifT (decide ((sh1.snd.pickC (12:Int)).good (900000000:Int))) (ifT (decide (((sh1.snd.pickC (12:Int)).pickC
 (↑(Al (Rose.node (sh1.fst.lab.fst,sh1.fst.lab.snd.fst,sh1.fst.lab.snd.snd.fst,sh1.fst.lab.snd.snd.snd.fst,()) (take sh1.fst.kids.length (drop 0
 sh1.fst.kids))) (-1:Int) 0).length:Int)).good (900000000:Int))) (ifB (((sh1.snd.pickC (12:Int)).pickC (↑(Al (Rose.node (sh1.fst.lab.fst,
 sh1.fst.lab.snd.fst,sh1.fst.lab.snd.snd.fst,sh1.fst.lab.snd.snd.snd.fst,()) (take sh1.fst.kids.length (drop 0 sh1.fst.kids))) (-1:Int) (0 :
 Nat)).length:Int)).pickV (4:Int)==(0:Int)) (ifT (decide ((((sh1.snd.pickC (12:Int)).pickC (↑(Al (Rose.node (sh1.fst.lab.fst,sh1.fst.lab.snd.fst,
 sh1.fst.lab.snd.snd.fst,sh1.fst.lab.snd.snd.snd.fst,()) (take sh1.fst.kids.length (drop 0 sh1.fst.kids))) (-1:Int) 0).length:Int)).pickC
 (4:Int)).good (80000000:Int))) (ifT (decide ((0:Int)<=(sh1.snd.pickC (12:Int)).pickV (↑(Al (Rose.node (sh1.fst.lab.fst,sh1.fst.lab.snd.fst,
 sh1.fst.lab.snd.snd.fst,sh1.fst.lab.snd.snd.snd.fst,()) (take sh1.fst.kids.length (drop 0 sh1.fst.kids))) (-1:Int) 0).length:Int))&&
 decide ((sh1.snd.pickC (12:Int)).pickV (↑(Al (Rose.node (sh1.fst.lab.fst,sh1.fst.lab.snd.fst,sh1.fst.lab.snd.snd.fst,sh1.fst.lab.snd.snd.snd.fst,()) (take
 sh1.fst.kids.length (drop 0 sh1.fst.kids))) (-1:Int) 0).length:Int)<(↑(Al (Rose.node (sh1.fst.lab.fst,sh1.fst.lab.snd.fst,
 sh1.fst.lab.snd.snd.fst,sh1.fst.lab.snd.snd.snd.fst,()) (take sh1.fst.kids.length (drop 0 sh1.fst.kids))) (-1:Int) 0).length:Int)))
 (Ap (Al (Rose.node (sh1.fst.lab.fst,sh1.fst.lab.snd.fst,sh1.fst.lab.snd.snd.fst,sh1.fst.lab.snd.snd.snd.fst,()) (take sh1.fst.kids.length (drop (0 :
 Nat) sh1.fst.kids))) (-1:Int) 0)[0+((sh1.snd.pickC (12:Int)).pickV (↑(Al (Rose.node (sh1.fst.lab.fst,sh1.fst.lab.snd.fst,
 sh1.fst.lab.snd.snd.fst,sh1.fst.lab.snd.snd.snd.fst,()) (take sh1.fst.kids.length (drop 0 sh1.fst.kids))) (-1:Int) 0).length:Int)).toNat]?
 fun z=>some (V.agg [V.ref 1 0 (Al (Rose.node (sh1.fst.lab.fst,sh1.fst.lab.snd.fst,sh1.fst.lab.snd.snd.fst,sh1.fst.lab.snd.snd.snd.fst,()) (take
 sh1.fst.kids.length (drop 0 sh1.fst.kids))) (-1:Int) 0).length],[some (Blk.box [V.sl (Cd.int .u8) (h (((sh1.snd.pickC (12:Int)).pickC (↑(Al
 (Rose.node (sh1.fst.lab.fst,sh1.fst.lab.snd.fst,sh1.fst.lab.snd.snd.fst,sh1.fst.lab.snd.snd.snd.fst,()) (take sh1.fst.kids.length (drop 0
 sh1.fst.kids))) (-1:Int) 0).length:Int)).pickC (4:Int))).snd.l,V.j (h (((sh1.snd.pickC (12:Int)).pickC (↑(Al (Rose.node (sh1.fst.lab.fst,
 sh1.fst.lab.snd.fst,sh1.fst.lab.snd.snd.fst,sh1.fst.lab.snd.snd.snd.fst,()) (take sh1.fst.kids.length (drop 0 sh1.fst.kids))) (-1:Int) (0 :
 Nat)).length:Int)).pickC (4:Int))).snd.a,V.i .u64 (h (((sh1.snd.pickC (12:Int)).pickC (↑(Al (Rose.node (sh1.fst.lab.fst,sh1.fst.lab.snd.fst,
 sh1.fst.lab.snd.snd.fst,sh1.fst.lab.snd.snd.snd.fst,()) (take sh1.fst.kids.length (drop 0 sh1.fst.kids))) (-1:Int) 0).length:Int)).pickC
 (4:Int))).snd.s]),some (Blk.row false none NCd ((Al (Rose.node (sh1.fst.lab.fst,sh1.fst.lab.snd.fst,sh1.fst.lab.snd.snd.fst,sh1.fst.lab.snd.snd.snd.fst,())
 (take sh1.fst.kids.length (drop 0 sh1.fst.kids))) (-1:Int) 0).set (0+((sh1.snd.pickC (12:Int)).pickV (↑(Al (Rose.node
 (sh1.fst.lab.fst,sh1.fst.lab.snd.fst,sh1.fst.lab.snd.snd.fst,sh1.fst.lab.snd.snd.snd.fst,()) (take sh1.fst.kids.length (drop 0 sh1.fst.kids))) (-1 :
 Int) 0).length:Int)).toNat) ((h (((sh1.snd.pickC (12:Int)).pickC (↑(Al (Rose.node (sh1.fst.lab.fst,sh1.fst.lab.snd.fst,sh1.fst.lab.snd.snd.fst,
 sh1.fst.lab.snd.snd.snd.fst,()) (take sh1.fst.kids.length (drop 0 sh1.fst.kids))) (-1:Int) 0).length:Int)).pickC (4:Int))).fst,
 z.snd.fst,z.snd.snd.fst,z.snd.snd.snd.fst,z.snd.snd.snd.snd.fst,())))])))) (ifB (((sh1.snd.pickC (12:Int)).pickC (↑(Al (Rose.node (sh1.fst.lab.fst,
 sh1.fst.lab.snd.fst,sh1.fst.lab.snd.snd.fst,sh1.fst.lab.snd.snd.snd.fst,()) (take sh1.fst.kids.length (drop 0 sh1.fst.kids))) (-1:Int) (0 :
 Nat)).length:Int)).pickV (4:Int)==(1:Int)) (ifT (decide ((((sh1.snd.pickC (12:Int)).pickC (↑(Al (Rose.node (sh1.fst.lab.fst,sh1.fst.lab.snd.fst,
 sh1.fst.lab.snd.snd.fst,sh1.fst.lab.snd.snd.snd.fst,()) (take sh1.fst.kids.length (drop 0 sh1.fst.kids))) (-1:Int) 0).length:Int)).pickC
 (4:Int)).good (900000000:Int))) (ifT (decide ((0:Int)<=(sh1.snd.pickC (12:Int)).pickV (↑(Al (Rose.node (sh1.fst.lab.fst,sh1.fst.lab.snd.fst,
 sh1.fst.lab.snd.snd.fst,sh1.fst.lab.snd.snd.snd.fst,()) (take sh1.fst.kids.length (drop 0 sh1.fst.kids))) (-1:Int) 0).length:Int))&&
 decide ((sh1.snd.pickC (12:Int)).pickV (↑(Al (Rose.node (sh1.fst.lab.fst,sh1.fst.lab.snd.fst,sh1.fst.lab.snd.snd.fst,sh1.fst.lab.snd.snd.snd.fst,()) (take
 sh1.fst.kids.length (drop 0 sh1.fst.kids))) (-1:Int) 0).length:Int)<(↑(Al (Rose.node (sh1.fst.lab.fst,sh1.fst.lab.snd.fst,
 sh1.fst.lab.snd.snd.fst,sh1.fst.lab.snd.snd.snd.fst,()) (take sh1.fst.kids.length (drop 0 sh1.fst.kids))) (-1:Int) 0).length:Int)))
 (Ap (Al (Rose.node (sh1.fst.lab.fst,sh1.fst.lab.snd.fst,sh1.fst.lab.snd.snd.fst,sh1.fst.lab.snd.snd.snd.fst,()) (take sh1.fst.kids.length (drop (0 :
 Nat) sh1.fst.kids))) (-1:Int) 0)[0+((sh1.snd.pickC (12:Int)).pickV (↑(Al (Rose.node (sh1.fst.lab.fst,sh1.fst.lab.snd.fst,
 sh1.fst.lab.snd.snd.fst,sh1.fst.lab.snd.snd.snd.fst,()) (take sh1.fst.kids.length (drop 0 sh1.fst.kids))) (-1:Int) 0).length:Int)).toNat]?
 fun z=>some (V.agg [V.ref 1 0 (Al (Rose.node (sh1.fst.lab.fst,sh1.fst.lab.snd.fst,sh1.fst.lab.snd.snd.fst,sh1.fst.lab.snd.snd.snd.fst,()) (take
 sh1.fst.kids.length (drop 0 sh1.fst.kids))) (-1:Int) 0).length],[some (Blk.box [V.sl (Cd.int .u8) ((((sh1.snd.pickC (12:Int)).pickC (↑(Al
 (Rose.node (sh1.fst.lab.fst,sh1.fst.lab.snd.fst,sh1.fst.lab.snd.snd.fst,sh1.fst.lab.snd.snd.snd.fst,()) (take sh1.fst.kids.length (drop 0
 sh1.fst.kids))) (-1:Int) 0).length:Int)).pickC (4:Int)).pickC (5:Int)).l,V.j ((((sh1.snd.pickC (12:Int)).pickC (↑(Al (Rose.node
 (sh1.fst.lab.fst,sh1.fst.lab.snd.fst,sh1.fst.lab.snd.snd.fst,sh1.fst.lab.snd.snd.snd.fst,()) (take sh1.fst.kids.length (drop 0 sh1.fst.kids))) (-1 :
 Int) 0).length:Int)).pickC (4:Int)).pickC (5:Int)).a,V.i .u64 ((((sh1.snd.pickC (12:Int)).pickC (↑(Al (Rose.node (sh1.fst.lab.fst,
 sh1.fst.lab.snd.fst,sh1.fst.lab.snd.snd.fst,sh1.fst.lab.snd.snd.snd.fst,()) (take sh1.fst.kids.length (drop 0 sh1.fst.kids))) (-1:Int) (0 :
 Nat)).length:Int)).pickC (4:Int)).pickC (5:Int)).s]),some (Blk.row false none NCd ((Al (Rose.node (sh1.fst.lab.fst,sh1.fst.lab.snd.fst,
 sh1.fst.lab.snd.snd.fst,sh1.fst.lab.snd.snd.snd.fst,()) (take sh1.fst.kids.length (drop 0 sh1.fst.kids))) (-1:Int) 0).set (0 +
 ((sh1.snd.pickC (12:Int)).pickV (↑(Al (Rose.node (sh1.fst.lab.fst,sh1.fst.lab.snd.fst,sh1.fst.lab.snd.snd.fst,sh1.fst.lab.snd.snd.snd.fst,()) (take
 sh1.fst.kids.length (drop 0 sh1.fst.kids))) (-1:Int) 0).length:Int)).toNat) (z.fst,z.snd.fst,(((sh1.snd.pickC (12:Int)).pickC (↑(Al
 (Rose.node (sh1.fst.lab.fst,sh1.fst.lab.snd.fst,sh1.fst.lab.snd.snd.fst,sh1.fst.lab.snd.snd.snd.fst,()) (take sh1.fst.kids.length (drop 0
 sh1.fst.kids))) (-1:Int) 0).length:Int)).pickC (4:Int)).pickV (5:Int),z.snd.snd.snd.fst,z.snd.snd.snd.snd.fst,())))])))) (ifB (((sh1.snd.pickC (12 :
 Int)).pickC (↑(Al (Rose.node (sh1.fst.lab.fst,sh1.fst.lab.snd.fst,sh1.fst.lab.snd.snd.fst,sh1.fst.lab.snd.snd.snd.fst,()) (take sh1.fst.kids.length (drop
 0 sh1.fst.kids))) (-1:Int) 0).length:Int)).pickV (4:Int)==(2:Int)) (ifT (decide ((0:Int)<=(sh1.snd.pickC (12:Int)).pickV (↑(Al
 (Rose.node (sh1.fst.lab.fst,sh1.fst.lab.snd.fst,sh1.fst.lab.snd.snd.fst,sh1.fst.lab.snd.snd.snd.fst,()) (take sh1.fst.kids.length (drop 0
 sh1.fst.kids))) (-1:Int) 0).length:Int))&&decide ((sh1.snd.pickC (12:Int)).pickV (↑(Al (Rose.node (sh1.fst.lab.fst,sh1.fst.lab.snd.fst,
 sh1.fst.lab.snd.snd.fst,sh1.fst.lab.snd.snd.snd.fst,()) (take sh1.fst.kids.length (drop 0 sh1.fst.kids))) (-1:Int) 0).length:Int) <
 (↑(Al (Rose.node (sh1.fst.lab.fst,sh1.fst.lab.snd.fst,sh1.fst.lab.snd.snd.fst,sh1.fst.lab.snd.snd.snd.fst,()) (take sh1.fst.kids.length (drop 0
 sh1.fst.kids))) (-1:Int) 0).length:Int))) (Ap (Al (Rose.node (sh1.fst.lab.fst,sh1.fst.lab.snd.fst,sh1.fst.lab.snd.snd.fst,
 sh1.fst.lab.snd.snd.snd.fst,()) (take sh1.fst.kids.length (drop 0 sh1.fst.kids))) (-1:Int) 0)[0+((sh1.snd.pickC (12:Int)).pickV
 (↑(Al (Rose.node (sh1.fst.lab.fst,sh1.fst.lab.snd.fst,sh1.fst.lab.snd.snd.fst,sh1.fst.lab.snd.snd.snd.fst,()) (take sh1.fst.kids.length (drop 0
 sh1.fst.kids))) (-1:Int) 0).length:Int)).toNat]? fun z=>ifT (decide ((0:Int)<=(sh1.snd.pickC (12:Int)).pickV (↑(Al (Rose.node (sh1.fst.lab.fst,
 sh1.fst.lab.snd.fst,sh1.fst.lab.snd.snd.fst,sh1.fst.lab.snd.snd.snd.fst,()) (take sh1.fst.kids.length (drop 0 sh1.fst.kids))) (-1:Int) (0 :
 Nat)).length:Int))&&decide ((sh1.snd.pickC (12:Int)).pickV (↑(Al (Rose.node (sh1.fst.lab.fst,sh1.fst.lab.snd.fst,sh1.fst.lab.snd.snd.fst,
 sh1.fst.lab.snd.snd.snd.fst,()) (take sh1.fst.kids.length (drop 0 sh1.fst.kids))) (-1:Int) 0).length:Int)<(↑(Al (Rose.node
 (sh1.fst.lab.fst,sh1.fst.lab.snd.fst,sh1.fst.lab.snd.snd.fst,sh1.fst.lab.snd.snd.snd.fst,()) (take sh1.fst.kids.length (drop 0 sh1.fst.kids))) (-1 :
 Int) 0).length:Int))) (Ap (Al (Rose.node (sh1.fst.lab.fst,sh1.fst.lab.snd.fst,sh1.fst.lab.snd.snd.fst,sh1.fst.lab.snd.snd.snd.fst,()) (take
 sh1.fst.kids.length (drop 0 sh1.fst.kids))) (-1:Int) 0)[0+((sh1.snd.pickC (12:Int)).pickV (↑(Al (Rose.node (sh1.fst.lab.fst,
 sh1.fst.lab.snd.fst,sh1.fst.lab.snd.snd.fst,sh1.fst.lab.snd.snd.snd.fst,()) (take sh1.fst.kids.length (drop 0 sh1.fst.kids))) (-1:Int) (0 :
 Nat)).length:Int)).toNat]? fun z_1=>some (V.agg [V.ref 1 0 (Al (Rose.node (sh1.fst.lab.fst,sh1.fst.lab.snd.fst,sh1.fst.lab.snd.snd.fst,
 sh1.fst.lab.snd.snd.snd.fst,()) (take sh1.fst.kids.length (drop 0 sh1.fst.kids))) (-1:Int) 0).length],[some (Blk.box [V.sl (Cd.int .u8)
 (((sh1.snd.pickC (12:Int)).pickC (↑(Al (Rose.node (sh1.fst.lab.fst,sh1.fst.lab.snd.fst,sh1.fst.lab.snd.snd.fst,sh1.fst.lab.snd.snd.snd.fst,()) (take
 sh1.fst.kids.length (drop 0 sh1.fst.kids))) (-1:Int) 0).length:Int)).pickC (4:Int)).l,V.j (((sh1.snd.pickC (12:Int)).pickC (↑(Al
 (Rose.node (sh1.fst.lab.fst,sh1.fst.lab.snd.fst,sh1.fst.lab.snd.snd.fst,sh1.fst.lab.snd.snd.snd.fst,()) (take sh1.fst.kids.length (drop 0
 sh1.fst.kids))) (-1:Int) 0).length:Int)).pickC (4:Int)).a,V.i .u64 (((sh1.snd.pickC (12:Int)).pickC (↑(Al (Rose.node (sh1.fst.lab.fst,
 sh1.fst.lab.snd.fst,sh1.fst.lab.snd.snd.fst,sh1.fst.lab.snd.snd.snd.fst,()) (take sh1.fst.kids.length (drop 0 sh1.fst.kids))) (-1:Int) (0 :
 Nat)).length:Int)).pickC (4:Int)).s]),some (Blk.row false none NCd ((Al (Rose.node (sh1.fst.lab.fst,sh1.fst.lab.snd.fst,sh1.fst.lab.snd.snd.fst,
 sh1.fst.lab.snd.snd.snd.fst,()) (take sh1.fst.kids.length (drop 0 sh1.fst.kids))) (-1:Int) 0).set (0+((sh1.snd.pickC (12 :
 Int)).pickV (↑(Al (Rose.node (sh1.fst.lab.fst,sh1.fst.lab.snd.fst,sh1.fst.lab.snd.snd.fst,sh1.fst.lab.snd.snd.snd.fst,()) (take sh1.fst.kids.length (drop
 0 sh1.fst.kids))) (-1:Int) 0).length:Int)).toNat) (z_1.fst,z_1.snd.fst,z_1.snd.snd.fst,z_1.snd.snd.snd.fst,!z.snd.snd.snd.snd.fst,())))])))) (ifT
 (decide ((((sh1.snd.pickC (12:Int)).pickC (↑(Al (Rose.node (sh1.fst.lab.fst,sh1.fst.lab.snd.fst,sh1.fst.lab.snd.snd.fst,sh1.fst.lab.snd.snd.snd.fst,())
 (take sh1.fst.kids.length (drop 0 sh1.fst.kids))) (-1:Int) 0).length:Int)).pickC (4:Int)).good (900000000:Int))) (ifT (decide ((0:Int)
 <= (sh1.snd.pickC (12:Int)).pickV (↑(Al (Rose.node (sh1.fst.lab.fst,sh1.fst.lab.snd.fst,sh1.fst.lab.snd.snd.fst,sh1.fst.lab.snd.snd.snd.fst,()) (take
 sh1.fst.kids.length (drop 0 sh1.fst.kids))) (-1:Int) 0).length:Int))&&decide ((sh1.snd.pickC (12:Int)).pickV (↑(Al (Rose.node
 (sh1.fst.lab.fst,sh1.fst.lab.snd.fst,sh1.fst.lab.snd.snd.fst,sh1.fst.lab.snd.snd.snd.fst,()) (take sh1.fst.kids.length (drop 0 sh1.fst.kids))) (-1 :
 Int) 0).length:Int)<(↑(Al (Rose.node (sh1.fst.lab.fst,sh1.fst.lab.snd.fst,sh1.fst.lab.snd.snd.fst,sh1.fst.lab.snd.snd.snd.fst,()) (take
 sh1.fst.kids.length (drop 0 sh1.fst.kids))) (-1:Int) 0).length:Int))) (Ap (Al (Rose.node (sh1.fst.lab.fst,sh1.fst.lab.snd.fst,
 sh1.fst.lab.snd.snd.fst,sh1.fst.lab.snd.snd.snd.fst,()) (take sh1.fst.kids.length (drop 0 sh1.fst.kids))) (-1:Int) 0)[0 +
 ((sh1.snd.pickC (12:Int)).pickV (↑(Al (Rose.node (sh1.fst.lab.fst,sh1.fst.lab.snd.fst,sh1.fst.lab.snd.snd.fst,sh1.fst.lab.snd.snd.snd.fst,()) (take
 sh1.fst.kids.length (drop 0 sh1.fst.kids))) (-1:Int) 0).length:Int)).toNat]? fun z=>some (V.agg [V.ref 1 0 (Al (Rose.node (sh1.fst.lab.fst,
 sh1.fst.lab.snd.fst,sh1.fst.lab.snd.snd.fst,sh1.fst.lab.snd.snd.snd.fst,()) (take sh1.fst.kids.length (drop 0 sh1.fst.kids))) (-1:Int) (0 :
 Nat)).length],[some (Blk.box [V.sl (Cd.int .u8) ((((sh1.snd.pickC (12:Int)).pickC (↑(Al (Rose.node (sh1.fst.lab.fst,sh1.fst.lab.snd.fst,sh1.fst.lab.snd.snd.fst,
 sh1.fst.lab.snd.snd.snd.fst,()) (take sh1.fst.kids.length (drop 0 sh1.fst.kids))) (-1:Int) 0).length:Int)).pickC (4:Int)).pickC (3 :
 Int)).l,V.j ((((sh1.snd.pickC (12:Int)).pickC (↑(Al (Rose.node (sh1.fst.lab.fst,sh1.fst.lab.snd.fst,sh1.fst.lab.snd.snd.fst,sh1.fst.lab.snd.snd.snd.fst,())
 (take sh1.fst.kids.length (drop 0 sh1.fst.kids))) (-1:Int) 0).length:Int)).pickC (4:Int)).pickC (3:Int)).a,V.i .u64 ((((sh1.snd.pickC
 (12:Int)).pickC (↑(Al (Rose.node (sh1.fst.lab.fst,sh1.fst.lab.snd.fst,sh1.fst.lab.snd.snd.fst,sh1.fst.lab.snd.snd.snd.fst,()) (take sh1.fst.kids.length
 (drop 0 sh1.fst.kids))) (-1:Int) 0).length:Int)).pickC (4:Int)).pickC (3:Int)).s]),some (Blk.row false none NCd ((Al (Rose.node
 (sh1.fst.lab.fst,sh1.fst.lab.snd.fst,sh1.fst.lab.snd.snd.fst,sh1.fst.lab.snd.snd.snd.fst,()) (take sh1.fst.kids.length (drop 0 sh1.fst.kids))) (-1 :
 Int) 0).set (0+((sh1.snd.pickC (12:Int)).pickV (↑(Al (Rose.node (sh1.fst.lab.fst,sh1.fst.lab.snd.fst,sh1.fst.lab.snd.snd.fst,
 sh1.fst.lab.snd.snd.snd.fst,()) (take sh1.fst.kids.length (drop 0 sh1.fst.kids))) (-1:Int) 0).length:Int)).toNat) (z.fst,z.snd.fst,
 z.snd.snd.fst,i64.wrap ((((sh1.snd.pickC (12:Int)).pickC (↑(Al (Rose.node (sh1.fst.lab.fst,sh1.fst.lab.snd.fst,sh1.fst.lab.snd.snd.fst,
 sh1.fst.lab.snd.snd.snd.fst,()) (take sh1.fst.kids.length (drop 0 sh1.fst.kids))) (-1:Int) 0).length:Int)).pickC (4:Int)).pickV (3:Int)
 - (1:Int)),z.snd.snd.snd.snd.fst,())))]))))))))) (some (V.agg [V.ref 1 0 (Al (Rose.node (sh1.fst.lab.fst,sh1.fst.lab.snd.fst,sh1.fst.lab.snd.snd.fst,
 sh1.fst.lab.snd.snd.snd.fst,()) (take sh1.fst.kids.length (drop 0 sh1.fst.kids))) (-1:Int) 0).length],[some (Blk.box [V.sl (Cd.int .u8)
 (sh1.snd.pickC (12:Int)).l,V.j (sh1.snd.pickC (12:Int)).a,V.i .u64 (sh1.snd.pickC (12:Int)).s]),some (Blk.row false none NCd (Al (Rose.node
 (sh1.fst.lab.fst,sh1.fst.lab.snd.fst,sh1.fst.lab.snd.snd.fst,sh1.fst.lab.snd.snd.snd.fst,()) (take sh1.fst.kids.length (drop 0 sh1.fst.kids))) (-1 :
 Int) 0))])))))))):_):=by kernel_rfl
theorem W7 {v:List Ty} (h:AC v=true):vbR (t2L v 0)<=7290:=by
 obtain ⟨k1,k2,k3,k4⟩:=G1 h
 have hd:=W8 _ k3
 have hg:CY (t2L v 0)=true:=by
  unfold AC at h
  rw [anE,k4] at h
  exact h.2
 unfold CY at hg
 simp only [anE,dcE] at hg
 have h1:3 ^ BA (t2L v 0)<=3 ^ 5:=Nat.pow_le_pow_right (by omega) hg.1.2
 have h2:Ao (t2L v 0)*3 ^ BA (t2L v 0)<=30*3 ^ 5:=Nat.mul_le_mul hg.2 h1
 have:30*3 ^ 5=7290:=by decide
 omega
theorem XR {v:List Ty} (h:AC v=true):1<=(dfL v).length/\(dfL v).length<=40:=by
 have:=XQ h
 unfold CH Ew at this
 simp only [anE,dcE] at this
 exact this.2.1
theorem ZN (v:List Ty) (l:List Int) (a s:Int) (hc:AC v=true/\nmL v=true/\(Cur.mk l a s).good 50000000):Ex1 (Bt prog (Ab [(45,.rd1 CJ),(130,.mix (Ps He)),(57,.rd1 ofG),(53,.own C7),(131,.rd1 NB),(103,.own Bk),(132,.own (KT E6))]) (Ab []) f84 [.ptr 0 0,.agg [.sl TCd v]] [.box [.sl (.int .u8) l,.j a,.i .u64 s]]) (fun y:(List Nd)×Cur=>((.agg [.ref 1 0 y.1.length],[some (cB y.2),some (.row false none NCd y.1)]):V×List (Option Blk))) (fun y=>(∀ n,(Cur.mk l a s).good n->n<=50000000->y.2.good (n+60000))/\1<=y.1.length/\y.1.length<=10000):=by
 refine Ex1.of (V6 He E6 v l a s) ?_
 obtain ⟨hk,hn,hc⟩:=hc
 obtain ⟨k1,k2,k3,k4⟩:=G1 hk
 have hvb:=W7 hk
 obtain ⟨d1,d2⟩:=XR hk
 obtain ⟨p1,p2⟩:=RQ (t2L v 0) (Cur.mk l a s) 50000000 k3 (by omega) hc (by omega)
 have hroom:(Cur.mk l a s).room (8*vbR (t2L v 0)):=Cur.good_mono hc (by push_cast; omega)
 have p3 : ∀ n,(Cur.mk l a s).good n->n<=50000000->(He (t2L v 0) (Cur.mk l a s)).2.good (n+58320):=fun n h hm=>Cur.good_mono (RQ (t2L v 0) (Cur.mk l a s) n k3 (by omega) h (by omega)).1 (by omega)
 have hl30:v.length<=30:=by
  have h:=hk
  unfold AC at h
  simp only [anE,dcE] at h
  exact h.1.1.1.2
 repeat with_reducible refine Ex1.sh ?_
 simp only [AT,AI,drop_zero,take_length,B8,zero_add]
 have g3:=p3 50000000 hc (by omega)
 generalize He (t2L v 0) (Cur.mk l a s)=F at *
 obtain ⟨t,c⟩:=F
 dsimp only at *
 have hM:maxI=9223372036854775807:=rfl
 have w1:1<=(Al t (-1) 0).length/\(Al t (-1) 0).length<=10000:=by rw [Ch]; refine ⟨by cases t; rw [vcR]; omega,by omega⟩
 have hvk:vcL t.kids+1<=2000000:=by rw [Du] at p2; omega
 generalize Al t (-1) 0=W at *
 generalize dfL v=D at *
 simp only [hk,Bq,BN]
 repeat' first
  | with_reducible refine Ex1.B (fun h=>?_) (fun h=>?_)
  | with_reducible refine Ex1.T ?_ ?_
  | with_reducible refine Ex1.S (Y7 ?_) fun z hz=>?_
 all_goals try simp only [BN]
 all_goals first
  | exact dcT ⟨by omega,by omega,by omega⟩
  | exact dcT ⟨k3,by omega,hroom⟩
  | exact dcT hvk
  | (rw [hn,dcT (by omega)]; rfl)
  | (refine dcT ?_; (repeat with_reducible apply Cur.pk); exact Cur.good_mono g3 (by omega))
  | exact Zf (n:=60000000) (by (repeat with_reducible apply Cur.pk); exact Cur.good_mono g3 (by omega)) (by omega)
  | exact WZ (n:=60000000) (by (repeat with_reducible apply Cur.pk); exact Cur.good_mono g3 (by omega)) (by omega)
  | exact Ex1.c _ rfl rfl ⟨fun n hn hm=>by (repeat with_reducible apply Cur.pk); exact Cur.good_mono (p3 n hn hm) (by omega),by dsimp only; omega⟩
  | exact Ex1.c _ rfl (by simp only [length_set]) ⟨fun n hn hm=>by (repeat with_reducible apply Cur.pk); exact Cur.good_mono (p3 n hn hm) (by omega),by simp only [length_set]; omega⟩
  | exact Ex1.c _ rfl (by simp only [length_set]) ⟨fun n hn hm=>Cur.good_mono ((RS _ (by (repeat with_reducible apply Cur.pk); exact Cur.good_mono g3 (by omega))).1 (n+59000) (by (repeat with_reducible apply Cur.pk); exact Cur.good_mono (p3 n hn hm) (by omega)) (by omega)) (by omega),by simp only [length_set]; omega⟩

theorem N7 : ∃ f:(List Ty)->Cur->(List Nd)×Cur,Ad prog 84 (Ent.mix (QL f)).F/\∀ (v:List Ty) (c:Cur),(AC v=true/\nmL v=true/\c.good 50000000)->(∀ n,c.good n->n<=50000000->(f v c).2.good (n+60000))/\1<=(f v c).1.length/\(f v c).1.length<=10000:=by
 have ex:=fun (v:List Ty) (c:Cur) (hc:AC v=true/\nmL v=true/\c.good 50000000)=>ZN v c.l c.a c.s hc
 classical
 refine ⟨fun v c=>if h:AC v=true/\nmL v=true/\c.good 50000000 then (ex v c h).choose else ([],c),?_,fun v c hc=>?_⟩
 rotate_left
 ·simp only [dif_pos hc]
  exact (ex v c hc).choose_spec.2
 refine Au (kc func45 GV (kc func130 V9 (kc func57 Zy (kc func53 QR (kc func131 YV (kc func103 FX (kc func132 Pv KnowsL.nil))))))).knows (Λ:=(Ab [])) func84 (c:=f84.body.getD .skip) (by kernel_rfl) fun vs bs r hq hv hb=>?_
 unfold Ent.F QL at hq
 dsimp only at hq
 split at hq
 ·rename_i v l a s
  obtain ⟨hc,hx⟩:=Ae hq
  have hc:=of_decide_eq_true hc
  refine ⟨Aq _,((ex v (Cur.mk l a s) hc).choose_spec.1).trans ?_⟩
  rw [dif_pos hc] at hx
  exact hx
 ·cases hq
noncomputable def Et:(List Ty)->Cur->(List Nd)×Cur:=N7.choose
theorem RP:Ad prog 84 (Ent.mix (QL Et)).F:=N7.choose_spec.1
theorem V7 : ∀ (v:List Ty) (c:Cur),(AC v=true/\nmL v=true/\c.good 50000000)->(∀ n,c.good n->n<=50000000->(Et v c).2.good (n+60000))/\1<=(Et v c).1.length/\(Et v c).1.length<=10000:=N7.choose_spec.2
def Py (f:(List Int)->List Nd×List Ty×Bool):Gm
 | [.sl (.int .u8) l],[]=>.need (decide ((Cur.mk l 0 0).good 0)) (.leaf (.tup [.agg [.ref 0 0 (f l ).1.length],.agg [.ref 1 0 (f l ).2.1.length]],[some (.row false none NCd (f l ).1),some (.row (f l ).2.2 none TCd (f l ).2.1)]))
 | _,_=>.no
theorem Ts (f:Cur->(List Ty)×Cur) (g:List Ty->Cur->(List Nd)×Cur) (h:Cur->(List Ty)×Cur) (l:List Int)  : Bt prog (Ab [(51,.own (HQ f)),(84,.mix (QL g)),(53,.own C7),(55,.own (KV h))]) (Ab []) f39 [.sl (.int .u8) l] [] =
 ((shr (Cur.mk l (0:Int) (0:Int)) fun sh3=>shr (f sh3).snd fun sh2=>shr (take (f sh3).fst.length (drop 0 (f sh3).fst)) fun sh1=>ifT (decide
 (sh3.good (80000000:Int))) (ifT (decide (AC sh1=true/\nmL sh1=true/\sh2.good (50000000:Int))) (ifT (decide ((g sh1 sh2).snd.good (900000000:Int))) (ifB ((g
 sh1 sh2).snd.pickV (12:Int)==(0:Int)) (ifT (decide (((g sh1 sh2).snd.pickC (12:Int)).good (70000000:Int))) (some (V.tup [V.agg [V.ref 0 0 (g sh1
 sh2).fst.length],V.agg [V.ref 1 0 (h ((g sh1 sh2).snd.pickC (12:Int))).fst.length]],[some (Blk.row false none NCd (g sh1 sh2).fst),some (Blk.row false none TCd (h
 ((g sh1 sh2).snd.pickC (12:Int))).fst)]))) (some (V.tup [V.agg [V.ref 0 0 (g sh1 sh2).fst.length],V.agg [V.ref 1 0 (f sh3).fst.length]],[some (Blk.row false none NCd
 (g sh1 sh2).fst),some (Blk.row true none TCd (f sh3).fst)])))))):_):=by kernel_rfl
theorem XP (l:List Int)  (hc:(Cur.mk l 0 0).good 0):Ex1 (Bt prog (Ab [(51,.own (HQ BS)),(84,.mix (QL Et)),(53,.own C7),(55,.own (KV Fj))]) (Ab []) f39 [.sl (.int .u8) l] []) (fun y:List Nd×List Ty×Bool=>((.tup [.agg [.ref 0 0 y.1.length],.agg [.ref 1 0 y.2.1.length]],[some (.row false none NCd y.1),some (.row y.2.2 none TCd y.2.1)]):V×List (Option Blk))) (fun y=>(1<=y.1.length/\y.1.length<=10000)/\nmL y.2.1=true/\1<=y.2.1.length/\y.2.1.length<=30):=by
 refine Ex1.of (Ts BS Et Fj l ) ?_
 have h7:=Cur.good_mono hc (show (0:Int)<=80000000 by omega)
 obtain ⟨a1,a2,a3,a4,a5⟩:=N9 (Cur.mk l 0 0) h7
 have b1:=a1 0 hc (by omega)
 obtain ⟨c1,c2,c3⟩:=V7 (BS (Cur.mk l 0 0)).1 (BS (Cur.mk l 0 0)).2 ⟨a2,a3,Cur.good_mono b1 (by omega)⟩
 have d1:=c1 _ b1 (by omega)
 obtain ⟨_,e2,e3,e4⟩:=NA ((Et (BS (Cur.mk l 0 0)).1 (BS (Cur.mk l 0 0)).2).2.pickC 12) (Cur.pk (Cur.good_mono d1 (by omega)))
 have g1:=Cur.pickC_good (k:=12) d1
 repeat with_reducible refine Ex1.sh ?_
 try simp only [drop_zero,take_length]
 repeat' first
  | with_reducible refine Ex1.B (fun h=>?_) (fun h=>?_)
  | with_reducible refine Ex1.T ?_ ?_
 all_goals first
  | exact dcT h7
  | exact dcT ⟨a2,a3,Cur.good_mono b1 (by omega)⟩
  | exact dcT (Cur.good_mono d1 (by omega))
  | exact dcT (Cur.good_mono g1 (by omega))
  | exact Ex1.P (_,_,_) rfl rfl ⟨⟨c2,c3⟩,e2,e3,e4⟩
  | exact Ex1.P (_,_,_) rfl rfl ⟨⟨c2,c3⟩,a3,a4,a5⟩
theorem KX : ∃ f:(List Int)->List Nd×List Ty×Bool,Ad prog 39 (Ent.rd1 (Py f)).F/\∀ (l:List Int) ,((Cur.mk l 0 0).good 0)->(1<=(f l ).1.length/\(f l ).1.length<=10000)/\nmL (f l ).2.1=true/\1<=(f l ).2.1.length/\(f l ).2.1.length<=30:=by
 have ex:=fun (l:List Int)  (hc:(Cur.mk l 0 0).good 0)=>XP l  hc
 classical
 refine ⟨fun l  => if h:(Cur.mk l 0 0).good 0 then (ex l  h).choose else ([],[],false),?_,fun l  hc=>?_⟩
 rotate_left
 ·simp only [dif_pos hc]
  exact (ex l  hc).choose_spec.2
 refine Au (kc func51 KP (kc func84 RP (kc func53 QR (kc func55 Pw KnowsL.nil)))).knows (Λ:=(Ab [])) func39 (c:=f39.body.getD .skip) (by kernel_rfl) fun vs bs r hq hv hb=>?_
 unfold Ent.F Py at hq
 dsimp only at hq
 split at hq
 ·rename_i l 
  obtain ⟨hc,hx⟩:=Ae hq
  have hc:=of_decide_eq_true hc
  refine ⟨Aq _,((ex l  hc).choose_spec.1).trans ?_⟩
  rw [dif_pos hc] at hx
  exact hx
 ·cases hq
noncomputable def FT:(List Int)->List Nd×List Ty×Bool:=KX.choose
theorem VT:Ad prog 39 (Ent.rd1 (Py FT)).F:=KX.choose_spec.1
theorem XO : ∀ (l:List Int) ,((Cur.mk l 0 0).good 0)->(1<=(FT l ).1.length/\(FT l ).1.length<=10000)/\nmL (FT l ).2.1=true/\1<=(FT l ).2.1.length/\(FT l ).2.1.length<=30:=KX.choose_spec.2
def okU (w:List Ty) (m:Nat):Bool:=(List.range m).all fun k=>k==0||match w[k]? with
 | some z=>decide (0<=z.2.2.2.2.1/\z.2.2.2.2.1<(k:Int))
 | none=>false
def ID (o:Cur×List Ty×Nat×Nat->(List Ty×Nat)×Cur):LoopEnt:=⟨96,[0,4,5,6],[4,5],[],fun
 | ([.ptr 0 0,.ptr 1 0,.ptr 2 0,.i .i64 n],[some (.box [.sl (.int .u8) l,.i .i64 a,.i .u64 s]),some (.box [.ref 3 0 0]),some (.box [.ref 4 0 m]),some (.row false none TCd []),some (.row false none TCd w)])=>.need (decide (0<=n/\n<=3/\1<=m/\m<=w.length/\w.length<=30/\(Cur.mk l a s).good (60000000-8*n))&&(okU w m&&nmL w)) (.leaf (.exit 0,([.ptr 1 0,.ptr 2 0],[some (cB (o (Cur.mk l a s,w,m,n.toNat)).2),some (.box [.ref 3 0 0]),some (.box [.ref 4 0 (o (Cur.mk l a s,w,m,n.toNat)).1.2]),some (.row false none TCd []),some (.row false none TCd (o (Cur.mk l a s,w,m,n.toNat)).1.1)])))
 | _=>.no⟩
def Wk (f:(List Ty)->Cur->(List Ty×Nat)×Cur):Gm
 | [.ptr 0 0,.agg [.sl TCd v]],[.box [.sl (.int .u8) l,.i .i64 a,.i .u64 s]]=>.need (decide (AC v=true/\nmL v=true/\1<=v.length/\v.length<=30/\(Cur.mk l a s).good 50000000)) (.leaf (.agg [.ref 1 0 (f v (Cur.mk l a s)).1.2],[some (cB (f v (Cur.mk l a s)).2),some (.row false none TCd (f v (Cur.mk l a s)).1.1)]))
 | _,_=>.no
theorem Fm (o:Cur×List Ty×Nat×Nat->(List Ty×Nat)×Cur) (l:List Int) (a s:Int) (w:List Ty) (m:Nat) (n:Int):A0 prog (Ab [(103,.own Bk)]) (Ab [(3,ID o)]) 1 (body f54 0) (ID o) ([.ptr 0 0,.ptr 1 0,.ptr 2 0,.j n],[some (.box [.sl (.int .u8) l,.j a,.i .u64 s]),some (.box [.ref 3 0 0]),some (.box [.ref 4 0 m]),some (.row false none TCd []),some (.row false none TCd w)]) =
 ((shr ((Cur.mk l a s).pickC (↑m:Int)) fun sh2=>shr (Ag TCd.den) fun sh1=>ifB (decide (n>(0:Int))) (ifT (decide ((Cur.mk l a s).good (900000000:Int))) (ifB
 ((Cur.mk l a s).pickV (↑m:Int)==(0:Int)) (some (Ex.normal,[V.ptr 0 0,V.ptr 1 0,V.ptr 2 0,V.j (i64.wrap (n-(1:Int)))],[some (Blk.box [V.sl
 (Cd.int .u8) sh2.l,V.j sh2.a,V.i .u64 sh2.s]),some (Blk.box [V.ref 3 0 0]),some (Blk.box [V.ref 4 0 m]),some (Blk.row false none TCd sh1),some (Blk.row false
 none TCd w)])) (ifT (decide (sh2.good (900000000:Int))) (ifB (sh2.pickV (3:Int)==(0:Int)) (ifT (decide ((0:Int)<=(Cur.mk l a s).pickV (↑m:Int))&&decide
 ((Cur.mk l a s).pickV (↑m:Int)<(↑m:Int))) (Ap w[0+((Cur.mk l a s).pickV (↑m:Int)).toNat]? fun z=>shr z.snd.snd.snd.snd fun sh1_1=>ifT (decide
 ((0:Int)<=sh1_1.fst)&&decide (sh1_1.fst<(↑m:Int))) (Ap w[0+toNat sh1_1.fst]? fun z=>shr (sh2.pickC (3:Int)) fun sh1_2=>ifB (z.fst==(5 :
 Int)) (ifT (decide ((0:Int)<=(Cur.mk l a s).pickV (↑m:Int))&&decide ((Cur.mk l a s).pickV (↑m:Int)<(↑m:Int))) (Ap w[0+((Cur.mk l a s).pickV (↑m
 : Int)).toNat]? fun z=>ifT (decide ((0:Int)<=(Cur.mk l a s).pickV (↑m:Int))&&decide ((Cur.mk l a s).pickV (↑m:Int)<(↑m:Int))) (Ap w[0 +
 ((Cur.mk l a s).pickV (↑m:Int)).toNat]? fun z_1=>shr z_1.snd.snd fun sh1_3=>some (Ex.normal,[V.ptr 0 0,V.ptr 1 0,V.ptr 2 0,V.j (i64.wrap (n-(1 :
 Int)))],[some (Blk.box [V.sl (Cd.int .u8) sh1_2.l,V.j sh1_2.a,V.i .u64 sh1_2.s]),some (Blk.box [V.ref 3 0 0]),some (Blk.box [V.ref 4 0 m]),some (Blk.row false
 none TCd sh1),some (Blk.row false none TCd (w.set (0+((Cur.mk l a s).pickV (↑m:Int)).toNat) (z_1.fst,z_1.snd.fst,sh1_3.fst,!z.snd.snd.snd.fst,
 sh1_3.snd.snd.fst,sh1_3.snd.snd.snd.fst,())))])))) (some (Ex.normal,[V.ptr 0 0,V.ptr 1 0,V.ptr 2 0,V.j (i64.wrap (n-(1:Int)))],[some (Blk.box
 [V.sl (Cd.int .u8) sh1_2.l,V.j sh1_2.a,V.i .u64 sh1_2.s]),some (Blk.box [V.ref 3 0 0]),some (Blk.box [V.ref 4 0 m]),some (Blk.row false none TCd sh1),some
 (Blk.row false none TCd w)]))))) (ifB (sh2.pickV (3:Int)==(1:Int)) (ifT (decide ((0:Int)<=(Cur.mk l a s).pickV (↑m:Int))&&decide ((Cur.mk l a s).pickV (↑m :
 Int)<(↑m:Int))) (Ap w[0+((Cur.mk l a s).pickV (↑m:Int)).toNat]? fun z=>shr (sh2.pickC (3:Int)) fun sh1_1=>ifB (z.fst==(3:Int)) (ifT (decide
 (sh1_1.good (900000000:Int))) (ifT (decide ((0:Int)<=(Cur.mk l a s).pickV (↑m:Int))&&decide ((Cur.mk l a s).pickV (↑m:Int)<(↑m:Int))) (Ap w[0 +
 ((Cur.mk l a s).pickV (↑m:Int)).toNat]? fun z=>shr sh1_1 fun sh2=>shr z.snd.snd fun sh1_2=>some (Ex.normal,[V.ptr 0 0,V.ptr 1 0,V.ptr 2 0,V.i .i64
 (i64.wrap (n-(1:Int)))],[some (Blk.box [V.sl (Cd.int .u8) (sh2.pickC (5:Int)).l,V.j (sh2.pickC (5:Int)).a,V.i .u64 (sh2.pickC (5:Int)).s]),some
 (Blk.box [V.ref 3 0 0]),some (Blk.box [V.ref 4 0 m]),some (Blk.row false none TCd sh1),some (Blk.row false none TCd (w.set (0+((Cur.mk l a s).pickV (↑m :
 Int)).toNat) (z.fst,z.snd.fst,sh1_2.fst,sh1_2.snd.fst,sh1_2.snd.snd.fst,sh2.pickV (5:Int),())))])))) (some (Ex.normal,[V.ptr 0 0,V.ptr 1 0,V.ptr 2 0,V.i .i64
 (i64.wrap (n-(1:Int)))],[some (Blk.box [V.sl (Cd.int .u8) sh1_1.l,V.j sh1_1.a,V.i .u64 sh1_1.s]),some (Blk.box [V.ref 3 0 0]),some (Blk.box [V.ref 4
 0 m]),some (Blk.row false none TCd sh1),some (Blk.row false none TCd w)])))) (ifB ((Cur.mk l a s).pickV (↑m:Int)==i64.wrap ((↑m:Int)-(1:Int))) (ifT
 (decide ((0:Int)<=(Cur.mk l a s).pickV (↑m:Int))&&decide ((Cur.mk l a s).pickV (↑m:Int)<(↑m:Int))) (Ap w[0+((Cur.mk l a s).pickV (↑m :
 Int)).toNat]? fun z=>shr z.snd.snd.snd.snd fun sh1_1=>ifT (decide ((0:Int)<=sh1_1.fst)&&decide (sh1_1.fst<(↑m:Int))) (Ap w[0+toNat
 sh1_1.fst]? fun z=>shr (sh2.pickC (3:Int)) fun sh1_2=>ifB (z.fst==(5:Int)) (ifT (decide ((0:Int)<=(Cur.mk l a s).pickV (↑m:Int))&&decide ((Cur.mk l a
 s).pickV (↑m:Int)<=(↑(w.length-0):Int))) (some (Ex.normal,[V.ptr 0 0,V.ptr 1 0,V.ptr 2 0,V.j (i64.wrap (n-(1:Int)))],[some (Blk.box
 [V.sl (Cd.int .u8) sh1_2.l,V.j sh1_2.a,V.i .u64 sh1_2.s]),some (Blk.box [V.ref 3 0 0]),some (Blk.box [V.ref 4 0 (((Cur.mk l a s).pickV (↑m:Int)).toNat-(0 :
 Nat))]),some (Blk.row false none TCd sh1),some (Blk.row false none TCd w)]))) (some (Ex.normal,[V.ptr 0 0,V.ptr 1 0,V.ptr 2 0,V.j (i64.wrap (n-(1 :
 Int)))],[some (Blk.box [V.sl (Cd.int .u8) sh1_2.l,V.j sh1_2.a,V.i .u64 sh1_2.s]),some (Blk.box [V.ref 3 0 0]),some (Blk.box [V.ref 4 0 m]),some (Blk.row false
 none TCd sh1),some (Blk.row false none TCd w)]))))) (some (Ex.normal,[V.ptr 0 0,V.ptr 1 0,V.ptr 2 0,V.j (i64.wrap (n-(1:Int)))],[some (Blk.box
 [V.sl (Cd.int .u8) (sh2.pickC (3:Int)).l,V.j (sh2.pickC (3:Int)).a,V.i .u64 (sh2.pickC (3:Int)).s]),some (Blk.box [V.ref 3 0 0]),some (Blk.box [V.ref 4 0
 m]),some (Blk.row false none TCd sh1),some (Blk.row false none TCd w)])))))))) (some (Ex.exit 0,[V.ptr 1 0,V.ptr 2 0],[some (Blk.box [V.sl (Cd.int .u8) l,V.i .i64
 a,V.i .u64 s]),some (Blk.box [V.ref 3 0 0]),some (Blk.box [V.ref 4 0 m]),some (Blk.row false none TCd sh1),some (Blk.row false none TCd w)]))):_):=by kernel_rfl
theorem Zl {w:List Ty} {m k:Nat} (h:okU w m=true) (hk:k<m) (h0:k≠0) (hl:k<w.length) : ∃ u:Nat,w[k].2.2.2.2.1=(u:Int)/\u<k:=by
 unfold okU at h
 have:=all_eq_true.1 h k (mem_range.2 hk)
 rw [or_eq_true,gtE hl] at this
 rcases this with h1 | h1
 ·exact absurd (by simpa using h1) h0
 ·have h1:=of_decide_eq_true h1
  exact ⟨w[k].2.2.2.2.1.toNat,by omega,by omega⟩
theorem UK {w:List Ty} {m k:Nat} (h:okU w m=true) (hk:k<=m):okU w k=true:=by
 unfold okU at h ⊢
 rw [all_eq_true] at h ⊢
 exact fun j hj=>h j (mem_range.2 (by have:=mem_range.1 hj; omega))
theorem Rx {w:List Ty} {m k:Nat} {z:Ty} (h:okU w m=true) (hl:k<w.length) (hz:z.2.2.2.2.1=w[k].2.2.2.2.1):okU (w.set k z) m=true:=by
 unfold okU at h ⊢
 rw [all_eq_true] at h ⊢
 intro j hj
 have hj':=h j hj
 rw [or_eq_true] at hj' ⊢
 rcases hj' with h1 | h1
 ·exact .inl h1
 ·right
  by_cases e:k=j
  ·subst e
   rw [List.getElem?_set_self hl]
   rw [gtE hl] at h1
   dsimp only at h1 ⊢
   rw [hz]; exact h1
  ·rw [List.getElem?_set_ne e]; exact h1
theorem P2 : ∀ x:Cur×List Ty×Nat×Nat,(x.2.2.2<=3/\1<=x.2.2.1/\x.2.2.1<=x.2.1.length/\x.2.1.length<=30/\x.1.good (60000000-8*(x.2.2.2:Int))/\okU x.2.1 x.2.2.1=true/\nmL x.2.1=true)->∃ y:(List Ty×Nat)×Cur,(∀ o,Runs prog (Ab [(103,.own Bk)]) (Ab [(3,ID o)]) 1 (body f54 0) (ID o) ((fun x:Cur×List Ty×Nat×Nat=>(([.ptr 0 0,.ptr 1 0,.ptr 2 0,.j (x.2.2.2:Int)],[some (cB x.1),some (.box [.ref 3 0 0]),some (.box [.ref 4 0 x.2.2.1]),some (.row false none TCd []),some (.row false none TCd x.2.1)]):Dt)) x) ((fun y:(List Ty×Nat)×Cur=>(((.exit 0:Ex),([.ptr 1 0,.ptr 2 0],[some (cB y.2),some (.box [.ref 3 0 0]),some (.box [.ref 4 0 y.1.2]),some (.row false none TCd []),some (.row false none TCd y.1.1)])):Ex×Dt)) y).1 ((fun y:(List Ty×Nat)×Cur=>(((.exit 0:Ex),([.ptr 1 0,.ptr 2 0],[some (cB y.2),some (.box [.ref 3 0 0]),some (.box [.ref 4 0 y.1.2]),some (.row false none TCd []),some (.row false none TCd y.1.1)])):Ex×Dt)) y).2)/\((∀ g,x.1.good g->g<=60000000-8*(x.2.2.2:Int)->y.2.good (g+8*(x.2.2.2:Int)))/\1<=y.1.2/\y.1.2<=y.1.1.length/\y.1.1.length<=30/\nmL y.1.1=true):=by
 refine FK (ι:=Cur×List Ty×Nat×Nat->(List Ty×Nat)×Cur) (fun _=>(([],0),Cur.mk [] 0 0)) (Λ:=fun o=>(Ab [(3,ID o)])) (ent:=fun o=>ID o) (fun x:Cur×List Ty×Nat×Nat=>(([.ptr 0 0,.ptr 1 0,.ptr 2 0,.j (x.2.2.2:Int)],[some (cB x.1),some (.box [.ref 3 0 0]),some (.box [.ref 4 0 x.2.2.1]),some (.row false none TCd []),some (.row false none TCd x.2.1)]):Dt)) (fun y:(List Ty×Nat)×Cur=>(((.exit 0:Ex),([.ptr 1 0,.ptr 2 0],[some (cB y.2),some (.box [.ref 3 0 0]),some (.box [.ref 4 0 y.1.2]),some (.row false none TCd []),some (.row false none TCd y.1.1)])):Ex×Dt)) (fun y=>by simp) _ _ (fun x=>x.2.2.2) (fun o x _=>(Fm o x.1.l x.1.a x.1.s x.2.1 x.2.2.1 (x.2.2.2:Int)).trans (Fm _ x.1.l x.1.a x.1.s x.2.1 x.2.2.1 (x.2.2.2:Int)).symm) ?_
 rintro ⟨c,w,m,n⟩ ⟨h1,h2,h3,h4,hc,hu,hn⟩
 dsimp only at h1 h2 h3 h4 hc hu hn ⊢
 have hM:maxI=9223372036854775807:=rfl
 by_cases h:0<n
 ·right
  refine Ex1.of (Fm _ c.l c.a c.s w m (n:Int)) ?_
  try dsimp only [shr]
  rw [Af (dcT (by omega))]
  have g1:(c.pickC (m:Int)).good (60000000-8*(n:Int)+2):=Cur.pickC_good hc
  have r1:=Cur.pickV_range (k:=(m:Int)) hc (by omega)
  have w1:i64.wrap ((n:Int)-1)=((n-1:Nat):Int):=by rw [Ay (by omega) (by omega)]; omega
  have w2:i64.wrap ((m:Int)-1)=(m:Int)-1:=Ay (by omega) (by omega)
  have gm : ∀ g,c.good g->g<=60000000-8*(n:Int)->(c.pickC (m:Int)).good (g+2):=fun g hg _=>Cur.pickC_good hg
  simp only [BN,show Cur.mk c.l c.a c.s=c from rfl,AI,w1,w2]
  refine Ex1.T (dcT (Cur.good_mono hc (by omega))) ?_
  generalize c.pickV (m:Int)=k at *
  generalize c.pickC (m:Int)=c2 at *
  obtain ⟨k,rfl⟩:=eq_ofNat_of_zero_le r1.1
  have hkl:k<w.length:=by omega
  simp only [zero_add,ntN,gtE hkl,As,Nat.sub_zero]
  have hnk:=Y1 hn (gtE hkl)
  have fin : ∀ (c':Cur) (w':List Ty) (m':Nat),(∀ g,c2.good g->g<=70000000->c'.good (g+4))->1<=m'->m'<=w'.length->w'.length<=30->okU w' m'=true->nmL w'=true->((n-1<=3/\1<=m'/\m'<=w'.length/\w'.length<=30/\c'.good (60000000-8*((n-1:Nat):Int))/\okU w' m'=true/\nmL w'=true)/\n-1<n/\∀ y:(List Ty×Nat)×Cur,((∀ g,c'.good g->g<=60000000-8*((n-1:Nat):Int)->y.2.good (g+8*((n-1:Nat):Int)))/\1<=y.1.2/\y.1.2<=y.1.1.length/\y.1.1.length<=30/\nmL y.1.1=true)->((∀ g,c.good g->g<=60000000-8*(n:Int)->y.2.good (g+8*(n:Int)))/\1<=y.1.2/\y.1.2<=y.1.1.length/\y.1.1.length<=30/\nmL y.1.1=true)):=fun c' w' m' q1 q2 q3 q4 q5 q6=>by
   refine ⟨⟨by omega,q2,q3,q4,Cur.good_mono (q1 _ g1 (by omega)) (by omega),q5,q6⟩,by omega,fun y hy=>⟨fun g hg hl=>Cur.good_mono (hy.1 (g+2+4) (q1 _ (gm g hg hl) (by omega)) (by omega)) (by omega),hy.2⟩⟩
  by_cases hk0:k=0
  ·subst hk0
   refine Ex1.B (fun _=>?_) (fun hf=>by simp at hf)
   exact Ex1.P3 (c2,w,m,n-1) rfl rfl rfl (fin c2 w m (fun g hg _=>Cur.good_mono hg (by omega)) h2 h3 h4 hu hn)
  ·obtain ⟨u,hu1,hu2⟩:=Zl hu (by omega) hk0 hkl
   have hul:u<w.length:=by omega
   simp only [hu1,ntN,gtE hul,As]
   repeat' first
    | with_reducible refine Ex1.B (fun h=>?_) (fun h=>?_)
    | with_reducible refine Ex1.T ?_ ?_
   all_goals try simp only [BN]
   all_goals first
    | (refine dcT ?_; (repeat with_reducible apply Cur.pk); exact Cur.good_mono g1 (by omega))
    | (simp only [anE,dcE]; omega)
    | exact Ex1.P3 (c2,w,m,n-1) rfl rfl rfl (fin _ w m (fun g hg _=>Cur.good_mono hg (by omega)) h2 h3 h4 hu hn)
    | exact Ex1.P3 (c2.pickC 3,w,m,n-1) rfl rfl rfl (fin _ w m (fun g hg _=>Cur.good_mono (Cur.pickC_good hg) (by omega)) h2 h3 h4 hu hn)
    | exact Ex1.P3 (c2.pickC 3,w,k,n-1) rfl rfl rfl (fin _ w k (fun g hg _=>Cur.good_mono (Cur.pickC_good hg) (by omega)) (by omega) (by omega) h4 (UK hu (by omega)) hn)
    | exact Ex1.P3 (c2.pickC 3,w.set k (_,_,_,_,_,_,()),m,n-1) rfl rfl rfl (fin _ _ m (fun g hg _=>Cur.good_mono (Cur.pickC_good hg) (by omega)) h2 (by rw [length_set]; exact h3) (by rw [length_set]; exact h4) (Rx hu hkl hu1.symm) (Nm hn hnk))
    | exact Ex1.P3 ((c2.pickC 3).pickC 5,w.set k (_,_,_,_,_,_,()),m,n-1) rfl rfl rfl (fin _ _ m (fun g hg _=>Cur.good_mono (Cur.pickC_good (Cur.pickC_good hg)) (by omega)) h2 (by rw [length_set]; exact h3) (by rw [length_set]; exact h4) (Rx hu hkl hu1.symm) (Nm hn hnk))
 ·left
  refine Ex1.of (Fm _ c.l c.a c.s w m (n:Int)) ?_
  try dsimp only [shr]
  rw [Ac (dcF (by omega))]
  exact Ex1.L ((w,m),c) rfl ⟨fun g hg _=>Cur.good_mono hg (by omega),h2,h3,h4,hn⟩
noncomputable def Eu:Cur×List Ty×Nat×Nat->(List Ty×Nat)×Cur:=(Dw (Y:=(List Ty×Nat)×Cur) (([],0),Cur.mk [] 0 0) P2).choose
theorem Wj : ∀ x:Cur×List Ty×Nat×Nat,(x.2.2.2<=3/\1<=x.2.2.1/\x.2.2.1<=x.2.1.length/\x.2.1.length<=30/\x.1.good (60000000-8*(x.2.2.2:Int))/\okU x.2.1 x.2.2.1=true/\nmL x.2.1=true)->(∀ o,Runs prog (Ab [(103,.own Bk)]) (Ab [(3,ID o)]) 1 (body f54 0) (ID o) ((fun x:Cur×List Ty×Nat×Nat=>(([.ptr 0 0,.ptr 1 0,.ptr 2 0,.j (x.2.2.2:Int)],[some (cB x.1),some (.box [.ref 3 0 0]),some (.box [.ref 4 0 x.2.2.1]),some (.row false none TCd []),some (.row false none TCd x.2.1)]):Dt)) x) ((fun y:(List Ty×Nat)×Cur=>(((.exit 0:Ex),([.ptr 1 0,.ptr 2 0],[some (cB y.2),some (.box [.ref 3 0 0]),some (.box [.ref 4 0 y.1.2]),some (.row false none TCd []),some (.row false none TCd y.1.1)])):Ex×Dt)) (Eu x)).1 ((fun y:(List Ty×Nat)×Cur=>(((.exit 0:Ex),([.ptr 1 0,.ptr 2 0],[some (cB y.2),some (.box [.ref 3 0 0]),some (.box [.ref 4 0 y.1.2]),some (.row false none TCd []),some (.row false none TCd y.1.1)])):Ex×Dt)) (Eu x)).2)/\((∀ g,x.1.good g->g<=60000000-8*(x.2.2.2:Int)->(Eu x).2.good (g+8*(x.2.2.2:Int)))/\1<=(Eu x).1.2/\(Eu x).1.2<=(Eu x).1.1.length/\(Eu x).1.1.length<=30/\nmL (Eu x).1.1=true):=(Dw (Y:=(List Ty×Nat)×Cur) (([],0),Cur.mk [] 0 0) P2).choose_spec
theorem Aad:A4 prog (Ab [(103,.own Bk)]) (Ab [(3,ID Eu)]) 1 (f54.body.getD .skip):=by
 refine Ax (a:=body f54 0) (by kernel_rfl) fun d ex d' h=>?_
 unfold ID at h
 dsimp only at h
 split at h
 ·rename_i n l a s m w
  obtain ⟨hc,hx⟩:=Ae h
  rw [anE,anE] at hc
  obtain ⟨hc,q7,q8⟩:=hc
  obtain ⟨q1,q2,q3,q4,q5,q6⟩:=of_decide_eq_true hc
  obtain ⟨n,rfl⟩:=eq_ofNat_of_zero_le q1
  have h8:=Ar hx
  obtain ⟨rfl,rfl⟩:=Prod.mk.inj h8
  exact (Wj (Cur.mk l a s,w,m,n) ⟨by dsimp only; omega,q3,q4,q5,q6,q7,q8⟩).1 Eu
 ·cases h
theorem Ve {l:List Ty} (h:AC l=true):Ord l:=by
 unfold AC at h
 simp only [anE,dcE,beq_iff_eq] at h
 exact DC (by omega) h.1.1.2 h.1.2
theorem UL {l:List Ty} (h:AC l=true):okU l l.length=true:=by
 have H:=Ve h
 unfold okU
 rw [all_eq_true]
 intro k hk
 have hk:=mem_range.1 hk
 by_cases e:k=0
 ·subst e; rfl
 ·obtain ⟨u,a1,a2,_⟩:=H.up k (by omega) hk
  unfold AY at a1
  rw [gtE hk] at a1 ⊢
  have a1:=Option.some.inj a1
  dsimp only
  rw [or_eq_true]
  right
  have a1:l[k].2.2.2.2.1=(u:Int):=a1
  rw [a1]
  exact dcT ⟨by omega,by omega⟩
theorem Wi (o:Cur×List Ty×Nat×Nat->(List Ty×Nat)×Cur) (v:List Ty) (l:List Int) (a s:Int):Bt prog (Ab [(103,.own Bk)]) (Ab [(3,ID o)]) f54 [.ptr 0 0,.agg [.sl TCd v]] [.box [.sl (.int .u8) l,.j a,.i .u64 s]] =
 ((shr ((Cur.mk l a s).pickC (3:Int)) fun sh2=>shr (Ag TCd.den++v) fun sh1=>ifT (decide ((0+v.length)*56<=140737488355328)&&decide
 (0+v.length<=maxI)) (ifT (decide ((Cur.mk l a s).good (900000000:Int))) (ifT (decide ((0:Int)<=(Cur.mk l a s).pickV (3:Int)/\(Cur.mk l a s).pickV (3 :
 Int)<=(3:Int)/\1<=0+v.length/\0+v.length<=sh1.length/\sh1.length<=30/\sh2.good ((60000000:Int)-(8:Int)*(Cur.mk l a
 s).pickV (3:Int)))&&(okU sh1 (0+v.length)&&nmL sh1)) (some (V.agg [V.ref 1 0 (o (sh2,sh1,0+v.length,((Cur.mk l a s).pickV (3 :
 Int)).toNat)).fst.snd],[some (Blk.box [V.sl (Cd.int .u8) (o (sh2,sh1,0+v.length,((Cur.mk l a s).pickV (3:Int)).toNat)).snd.l,V.j (o (sh2,sh1,(0 :
 Nat)+v.length,((Cur.mk l a s).pickV (3:Int)).toNat)).snd.a,V.i .u64 (o (sh2,sh1,0+v.length,((Cur.mk l a s).pickV (3:Int)).toNat)).snd.s]),some
 (Blk.row false none TCd (o (sh2,sh1,0+v.length,((Cur.mk l a s).pickV (3:Int)).toNat)).fst.fst)]))))):_):=by kernel_rfl
theorem Aae (v:List Ty) (l:List Int) (a s:Int) (hc:AC v=true/\nmL v=true/\1<=v.length/\v.length<=30/\(Cur.mk l a s).good 50000000):Ex1 (Bt prog (Ab [(103,.own Bk)]) (Ab [(3,ID Eu)]) f54 [.ptr 0 0,.agg [.sl TCd v]] [.box [.sl (.int .u8) l,.j a,.i .u64 s]]) (fun y:(List Ty×Nat)×Cur=>((.agg [.ref 1 0 y.1.2],[some (cB y.2),some (.row false none TCd y.1.1)]):V×List (Option Blk))) (fun y=>(∀ g,(Cur.mk l a s).good g->g<=50000000->y.2.good (g+26))/\1<=y.1.2/\y.1.2<=y.1.1.length/\y.1.1.length<=30/\nmL y.1.1=true):=by
 refine Ex1.of (Wi Eu v l a s) ?_
 obtain ⟨h1,h2,h3,h4,hc⟩:=hc
 have hp:=Cur.pickV_range (k:=3) hc (by omega)
 have g1:((Cur.mk l a s).pickC 3).good (50000000+2):=Cur.pickC_good hc
 have hu:=UL h1
 have ho:=(Wj ((Cur.mk l a s).pickC 3,v,v.length,((Cur.mk l a s).pickV 3).toNat) ⟨by dsimp only; omega,h3,le_refl _,h4,Cur.good_mono g1 (by dsimp only; omega),hu,h2⟩).2
 dsimp only at ho
 have hM:maxI=9223372036854775807:=rfl
 have hp2:=hp.2
 try dsimp only [shr]
 simp only [BN,AI,nil_append,zero_add]
 refine Ex1.T (by rw [anE]; exact ⟨dcT (by omega),dcT (by omega)⟩) (Ex1.T (dcT (Cur.good_mono hc (by omega))) (Ex1.T (by rw [hu,h2,Bool.and_true,Bool.and_true]; exact dcT ⟨by omega,by omega,h3,le_refl _,h4,Cur.good_mono g1 (by omega)⟩) ?_))
 generalize Eu ((Cur.mk l a s).pickC 3,v,v.length,((Cur.mk l a s).pickV 3).toNat)=D at *
 exact Ex1.c D.1 rfl rfl ⟨fun m hm hl=>Cur.good_mono (ho.1 (m+2) (Cur.pickC_good hm) (by omega)) (by omega),ho.2⟩
theorem NH : ∃ f:(List Ty)->Cur->(List Ty×Nat)×Cur,Ad prog 54 (Ent.mix (Wk f)).F/\∀ (v:List Ty) (c:Cur),(AC v=true/\nmL v=true/\1<=v.length/\v.length<=30/\c.good 50000000)->(∀ g,c.good g->g<=50000000->(f v c).2.good (g+26))/\1<=(f v c).1.2/\(f v c).1.2<=(f v c).1.1.length/\(f v c).1.1.length<=30/\nmL (f v c).1.1=true:=by
 have ex:=fun (v:List Ty) (c:Cur) (hc:AC v=true/\nmL v=true/\1<=v.length/\v.length<=30/\c.good 50000000)=>Aae v c.l c.a c.s hc
 classical
 refine ⟨fun v c=>if h:AC v=true/\nmL v=true/\1<=v.length/\v.length<=30/\c.good 50000000 then (ex v c h).choose else (([],0),c),?_,fun v c hc=>?_⟩
 rotate_left
 ·simp only [dif_pos hc]
  exact (ex v c hc).choose_spec.2
 refine Au (kc func103 FX KnowsL.nil).knows (Λ:=(Ab [(3,ID Eu)])) func54 (c:=f54.body.getD .skip) (by kernel_rfl) fun vs bs r hq hv hb=>?_
 unfold Ent.F Wk at hq
 dsimp only at hq
 split at hq
 ·rename_i v l a s
  obtain ⟨hc,hx⟩:=Ae hq
  have hc:=of_decide_eq_true hc
  refine ⟨Aad,((ex v (Cur.mk l a s) hc).choose_spec.1).trans ?_⟩
  rw [dif_pos hc] at hx
  exact hx
 ·cases hq
noncomputable def G9:(List Ty)->Cur->(List Ty×Nat)×Cur:=NH.choose
theorem Yh:Ad prog 54 (Ent.mix (Wk G9)).F:=NH.choose_spec.1
theorem Aac : ∀ (v:List Ty) (c:Cur),(AC v=true/\nmL v=true/\1<=v.length/\v.length<=30/\c.good 50000000)->(∀ g,c.good g->g<=50000000->(G9 v c).2.good (g+26))/\1<=(G9 v c).1.2/\(G9 v c).1.2<=(G9 v c).1.1.length/\(G9 v c).1.1.length<=30/\nmL (G9 v c).1.1=true:=NH.choose_spec.2
end Go.Proofs.YteninfkgajnfcaaGreat.Den
