/- The abstract machine: regions, loops and functions are sound; arguments opened; what a law needs. -/
import Derived.Test.YthbecdipboideaaDoorDen3
import Derived.Orders
import Derived.Scope
import Derived.ProofKit
import Derived.OpenShut
import Derived.Deep.Slices
import Derived.Carry
import Derived.ChangeOld
/- A region: its trace in the text's order. -/
open List (all_cons all_eq_true foldl_cons getD getD_eq_getElem?_getD getElem?_append_left getElem?_append_right getElem?_eq_getElem getElem?_eq_none getElem?_map getElem?_set_ne getElem_of_mem map_congr_left mem_append mem_cons mem_filter nodup_range range replicate)
open Nat (add_zero beq blt eq_of_beq_eq_true le_refl le_trans lt_or_ge testBit zero_add zero_le)
open Option (getD_some join_some map_eq_some_iff map_some)
open Bool (and_eq_true not_eq_true')
namespace Go.Proofs.YthbecdipboideaaDoor.Den

structure Rec where
 v:V
 us:Upd
 T:List Nat
 wanted:Bool

def Rj (want:Bool) (v:V) (b:Bool):Prop:=match v with
 | .b c=>b=(c==want)
 | .tup _=>b=false
 | _=>False
def Nf (dsts:List (Option Tmp)) (sl:List V) (o:Oper) (b:Bool):Prop:=
 match o.guard with
 | none=>b=true
 | some (g,want)=>∃ t,(dsts[g]?).bind id=some t/\Rj want (sl.getD t .unk) b

def Did (P:Program) (Γ:FuncId->Option Ent) (dsts:List (Option Tmp)) (base j:Nat) (o:Oper) (sl:List V) (bl:Nat->Option Blk) (r:Rec):Prop:=
 Nf dsts sl o r.wanted/\
 ((r.wanted=true/\opK P Γ sl (GJ bl (CT sl bl o)) (base+16*j) o mk2=some (r.v,r.us)/\r.T=CT sl bl o)\/(r.wanted=false/\r.v = .tup []/\r.us=[]/\r.T=[]))

def Tr (P:Program) (Γ:FuncId->Option Ent) (dsts:List (Option Tmp)) (base:Nat):Nat->List Oper->List V->(Nat->Option Blk)->List Rec->List V->(Nat->Option Blk)->Prop
 | _,[],sl,bl,[],sl',bl'=>sl'=sl/\bl'=bl
 | j,o::os,sl,bl,r::tr,sl',bl'=>Did P Γ dsts base j o sl bl r/\Tr P Γ dsts base (j+1) os (Do sl o.dst r.v) (Av bl r.us) tr sl' bl'
 | _,_,_,_,_,_,_=>False

section
variable {P:Program} {Γ:FuncId->Option Ent} {E:Env} {dsts:List (Option Tmp)} {base:Nat} {β:Type} {r:β}

theorem OW {sl:List V} {o:Oper} {y n:List V->Option β} (h:Nj sl dsts o y n=some r) : ∃ b,Nf dsts sl o b/\(match b with | true=>y sl | false=>n sl)=some r:=by
 unfold Nj at h
 unfold Nf
 split at h
 ·rename_i hg; rw [hg]; exact ⟨true,rfl,h⟩
 ·rename_i g want hg
  rw [hg]
  split at h
  ·rename_i t ht
   split at h
   ·rename_i c hc
    have e1:=Ny hc (by simp)
    cases want with
    | true=>
     cases c with
     | true=>rw [e1] at h; exact ⟨true,⟨t,ht,by rw [hc]; rfl⟩,h⟩
     | false=>rw [e1] at h; exact ⟨false,⟨t,ht,by rw [hc]; rfl⟩,h⟩
    | false=>
     cases c with
     | true=>rw [e1] at h; exact ⟨false,⟨t,ht,by rw [hc]; rfl⟩,h⟩
     | false=>rw [e1] at h; exact ⟨true,⟨t,ht,by rw [hc]; rfl⟩,h⟩
   ·rename_i vs hc
    exact ⟨false,⟨t,ht,by rw [hc]; rfl⟩,h⟩
   ·cases h
  ·cases h

theorem EL : ∀ (os:List Oper) (j:Nat) (sl:List V) (bl:Nat->Option Blk) (log:List (List Nat×List Nat)) (k:List V->(Nat->Option Blk)->List (List Nat×List Nat)->Option β),M1 P Γ dsts base j os sl bl log k=some r->
  ∃ tr sl' bl',Tr P Γ dsts base j os sl bl tr sl' bl'/\k sl' bl' (log++tr.map fun x=>(x.T,x.us.map (·.1)))=some r
 | [],j,sl,bl,log,k,h=>⟨[],sl,bl,⟨rfl,rfl⟩,by simpa [M1] using h⟩
 | o::os,j,sl,bl,log,k,h=>by
  unfold M1 at h
  obtain ⟨b,h1,h2⟩:=OW h
  cases b with
  | true=>
   dsimp only at h2
   obtain ⟨v,us,h3,h4⟩:=Rs h2
   obtain ⟨tr,sl',bl',h5,h6⟩:=EL os (j+1) _ _ _ k h4
   exact ⟨⟨v,us,CT sl bl o,true⟩::tr,sl',bl',⟨⟨h1,.inl ⟨rfl,h3 _,rfl⟩⟩,h5⟩,by simpa using h6⟩
  | false=>
   dsimp only at h2
   obtain ⟨tr,sl',bl',h5,h6⟩:=EL os (j+1) _ _ _ k h2
   exact ⟨⟨.tup [],[],[],false⟩::tr,sl',bl',⟨⟨h1,.inr ⟨rfl,rfl,rfl,rfl⟩⟩,by simpa [Av] using h5⟩,by simpa using h6⟩

theorem Jj {ops:Array Oper} {sl:List V} {bl:Nat->Option Blk} {fr:Nat->Prop} {a:Act} {w:World} {o:Oper} {b:Bool} (h:Sim E sl bl fr a w) (hd:dsts=ops.toList.map (·.dst)) (hs:Nf dsts sl o b):Region.wanted o (yielded ops a.tmps)=b:=by
 unfold Nf at hs
 unfold Region.wanted
 cases hg:o.guard with
 | none=>rw [hg] at hs; exact hs.symm
 | some gw=>
  obtain ⟨g,want⟩:=gw
  rw [hg] at hs
  obtain ⟨t,h1,h2⟩:=hs
  have h3:(ops[g]?).bind (·.dst)=some t:=by
   rw [hd,getElem?_map] at h1
   rw [<-Array.getElem?_toList]
   cases e:ops.toList[g]? with
   | none=>rw [e] at h1; simp at h1
   | some x=>rw [e] at h1; simpa using h1
  dsimp only
  unfold Rj at h2
  split at h2
  ·rename_i c hc
   rw [JZ h h3 hc,h2]
   cases c<;>cases want<;>rfl
  ·rename_i vs hc
   rw [MQ h h3 hc,h2]
   cases want<;>rfl
  ·exact h2.elim

theorem OJ (hG:Knows P Γ) {ops:Array Oper} {sl:List V} {bl:Nat->Option Blk} {fr:Nat->Prop} {a:Act} {w:World} {o:Oper} {j:Nat} {rc:Rec} {K:Act->World->Prop} {Q:Exit->Act->World->Prop} (h:Sim E sl bl fr a w) (hd:dsts=ops.toList.map (·.dst)) (hf : ∀ c,c<16->fr (base+16*j+c))
  (hdid:Did P Γ dsts base j o sl bl rc) (hK : ∀ a' w',Sim E (Do sl o.dst rc.v) (Av bl rc.us) (fun i=>fr i/\(i<base+16*j\/base+16*j+16<=i)) a' w'->K a' w') :
  if Region.wanted o (yielded ops a.tmps) then o.wp P a w K Q else K (a.put o.dst undef) w:=by
 obtain ⟨h1,h2⟩:=hdid
 rw [Jj h hd h1]
 rcases h2 with ⟨e,h3,_⟩ | ⟨e,e1,e2,_⟩
 ·rw [e]
  simp only [if_true]
  exact NY hG h M0 hf h3 hK
 ·rw [e]
  simp only [Bool.false_eq_true,if_false]
  refine hK _ _ ?_
  rw [e1,e2]
  obtain ⟨R,μ,g⟩:=K0 (o:=o) h
  exact ⟨R,μ,g.fr_mono (fun _ h=>h.1)⟩

theorem IZ (hG:Knows P Γ) {ops:Array Oper} {Q:Exit->Act->World->Prop} (hd:dsts=ops.toList.map (·.dst)) : ∀ (os:List Oper) (j:Nat) (sl:List V) (bl:Nat->Option Blk) (tr:List Rec) (sl':List V) (bl':Nat->Option Blk) (a:Act) (w:World),Tr P Γ dsts base j os sl bl tr sl' bl'->Sim E sl bl (fun i=>base+16*j<=i) a w->
  (∀ a' w',Sim E sl' bl' (fun i=>base+16*(j+os.length)<=i) a' w'->Q .normal a' w')->wpList P ops Q os a w
 | [],j,sl,bl,tr,sl',bl',a,w,ht,h,hQ=>by
  cases tr with
  | nil=>obtain ⟨rfl,rfl⟩:=ht; exact hQ a w (by simpa using h)
  | cons _ _=>exact ht.elim
 | o::os,j,sl,bl,tr,sl',bl',a,w,ht,h,hQ=>by
  cases tr with
  | nil=>exact ht.elim
  | cons rc tr=>
   obtain ⟨h1,h2⟩:=ht
   refine wpList_step fun K hK=>OJ hG h hd (fun c _=>by omega) h1 fun a' w' hs=>hK _ _ (IZ hG hd os (j+1) _ _ tr sl' bl' a' w' h2 ?_ fun a'' w'' hq=>hQ _ _ ?_)
   ·obtain ⟨R,μ,g⟩:=hs
    exact ⟨R,μ,g.fr_mono (fun i hi=>⟨by omega,by omega⟩)⟩
   ·rw [show j+1+os.length=j+(o::os).length by simp; omega] at hq
    exact hq
end
end Go.Proofs.YthbecdipboideaaDoor.Den
/- A region in whatever order its edges allow. -/
namespace Go.Proofs.YthbecdipboideaaDoor.Den

def BJ:Nat->List (Oper×Rec)->(Nat->Bool)->List V->List V
 | _,[],_,sl=>sl
 | i,p::L,D,sl=>BJ (i+1) L D (match D i with | true=>Do sl p.1.dst p.2.v | false=>sl)
def BP:Nat->List (Oper×Rec)->(Nat->Bool)->(Nat->Option Blk)->Nat->Option Blk
 | _,[],_,bl=>bl
 | i,p::L,D,bl=>BP (i+1) L D (match D i with | true=>Av bl p.2.us | false=>bl)

theorem Eh (sl:List V) (d:Option Tmp) (v:V):(Do sl d v).length=sl.length:=by cases d<;>simp [Do]
theorem Ei {sl:List V} {d:Option Tmp} {v:V} {t:Nat} (h:d≠some t):(Do sl d v)[t]? = sl[t]?:=by
 cases d with
 | none=>rfl
 | some d=>simp only [Do]; rw [getElem?_set_ne (fun e=>h (by rw [e]))]
theorem Fk {sl:List V} {v:V} {t:Nat}:(Do sl (some t) v)[t]? = if t<sl.length then some v else none:=by
 simp only [Do]
 rw [List.getElem?_set]
 simp
theorem F0 : ∀ (L:List (Oper×Rec)) (i:Nat) (D:Nat->Bool) (sl:List V),(BJ i L D sl).length=sl.length
 | [],i,D,sl=>rfl
 | p::L,i,D,sl=>by
  simp only [BJ]
  rw [F0]
  split
  ·exact Eh _ _ _
  ·rfl
theorem DK : ∀ (L:List (Oper×Rec)) (i:Nat) (D:Nat->Bool) (sl:List V),(∀ x,i<=x->D x=false)->BJ i L D sl=sl
 | [],i,D,sl,_=>rfl
 | p::L,i,D,sl,h=>by
  simp only [BJ,h i (le_refl _)]
  exact DK L (i+1) D sl (fun x hx=>h x (by omega))
theorem DL : ∀ (L:List (Oper×Rec)) (i:Nat) (D:Nat->Bool) (bl:Nat->Option Blk),(∀ x,i<=x->D x=false)->BP i L D bl=bl
 | [],i,D,bl,_=>rfl
 | p::L,i,D,bl,h=>by
  simp only [BP,h i (le_refl _)]
  exact DL L (i+1) D bl (fun x hx=>h x (by omega))

theorem Hq {t:Nat} : ∀ (L:List (Oper×Rec)) (i:Nat) (D D':Nat->Bool) (sl sl':List V),sl.length=sl'.length->sl[t]? = sl'[t]?->(∀ x p,L[x]? = some p->p.1.dst=some t->D (i+x)=D' (i+x))->(BJ i L D sl)[t]? = (BJ i L D' sl')[t]?
 | [],i,D,D',sl,sl',_,h,_=>h
 | p::L,i,D,D',sl,sl',hl,h,hw=>by
  simp only [BJ]
  refine Hq L (i+1) D D' _ _ ?_ ?_ (fun x q h1 h2=>by have:=hw (x+1) q (by simpa using h1) h2; rwa [show i+1+x=i+(x+1) by omega])
  ·cases D i<;>cases D' i<;>simp [Eh,hl]
  ·by_cases hd:p.1.dst=some t
   ·have e:=hw 0 p (by simp) hd
    rw [add_zero] at e
    rw [e]
    cases D' i with
    | false=>exact h
    | true=>dsimp only; rw [hd,Fk,Fk,hl]
   ·cases D i<;>cases D' i<;>dsimp only<;>(try rw [Ei hd])<;>(try rw [Ei hd])<;>exact h
theorem Qf {t:Nat} : ∀ (L:List (Oper×Rec)) (i x0:Nat) (p:Oper×Rec) (D:Nat->Bool) (sl:List V),L[x0]? = some p->p.1.dst=some t->D (i+x0)=true->(∀ x q,x0<x->L[x]? = some q->q.1.dst=some t->D (i+x)=false)->(BJ i L D sl)[t]? = if t<sl.length then some p.2.v else none
 | [],i,x0,p,D,sl,h,_,_,_=>by simp at h
 | q::L,i,0,p,D,sl,h,hd,hD,hl=>by
  simp at h; subst h
  rw [add_zero] at hD
  simp only [BJ,hD]
  have:(BJ (i+1) L D (Do sl q.1.dst q.2.v))[t]? = (BJ (i+1) L (fun _=>false) (Do sl q.1.dst q.2.v))[t]?:=Hq L (i+1) D _ _ _ rfl rfl (fun x q' h1 h2=>by have:=hl (x+1) q' (by omega) (by simpa using h1) h2; rwa [show i+1+x=i+(x+1) by omega])
  rw [this,DK _ _ _ _ (fun _ _=>rfl),hd,Fk]
 | q::L,i,x0+1,p,D,sl,h,hd,hD,hl=>by
  simp only [BJ]
  rw [Qf L (i+1) x0 p D _ (by simpa using h) hd (by rwa [show i+1+x0=i+(x0+1) by omega]) (fun x q' h1 h2 h3=>by have:=hl (x+1) q' (by omega) (by simpa using h2) h3; rwa [show i+1+x=i+(x+1) by omega])]
  cases D i<;>simp [Eh]

theorem Gb : ∀ (us:Upd) (bl bl':Nat->Option Blk) (id:Nat),bl id=bl' id->Av bl us id=Av bl' us id
 | [],bl,bl',id,h=>h
 | (k,b)::us,bl,bl',id,h=>by
  simp only [Av]
  refine Gb us _ _ id ?_
  by_cases e:id=k
  ·subst e; rw [Ah,Ah]
  ·rw [Aw _ _ e,Aw _ _ e]; exact h
theorem Hp : ∀ (us:Upd) (bl bl':Nat->Option Blk) (id:Nat),id∈us.map (·.1)->Av bl us id=Av bl' us id
 | [],bl,bl',id,h=>by simp at h
 | (k,b)::us,bl,bl',id,h=>by
  simp only [Av]
  by_cases e:id∈us.map (·.1)
  ·exact Hp us _ _ id e
  ·simp only [List.map_cons,mem_cons] at h
   rcases h with rfl | h
   ·refine Gb us _ _ _ ?_
    rw [Ah,Ah]
   ·exact absurd h e
theorem Fd {us:Upd} {bl:Nat->Option Blk} {id:Nat} (h:id ∉ us.map (·.1)):Av bl us id=bl id:=
 Bw us bl id (fun _ hp e=>h (e ▸ List.mem_map_of_mem hp))
theorem Hr {id:Nat} : ∀ (L:List (Oper×Rec)) (i:Nat) (D D':Nat->Bool) (bl bl':Nat->Option Blk),bl id=bl' id->(∀ x p,L[x]? = some p->id∈p.2.us.map (·.1)->D (i+x)=D' (i+x))->BP i L D bl id=BP i L D' bl' id
 | [],i,D,D',bl,bl',h,_=>h
 | p::L,i,D,D',bl,bl',h,hw=>by
  simp only [BP]
  refine Hr L (i+1) D D' _ _ ?_ (fun x q h1 h2=>by have:=hw (x+1) q (by simpa using h1) h2; rwa [show i+1+x=i+(x+1) by omega])
  by_cases hd:id∈p.2.us.map (·.1)
  ·have e:=hw 0 p (by simp) hd
   rw [add_zero] at e
   rw [e]
   cases D' i with
   | false=>exact h
   | true=>exact Gb _ _ _ _ h
  ·cases D i<;>cases D' i<;>dsimp only<;>(try rw [Fd hd])<;>(try rw [Fd hd])<;>exact h
theorem Qg {id:Nat} : ∀ (L:List (Oper×Rec)) (i x0:Nat) (p:Oper×Rec) (D:Nat->Bool) (bl bl':Nat->Option Blk),L[x0]? = some p->id∈p.2.us.map (·.1)->D (i+x0)=true->(∀ x q,x0<x->L[x]? = some q->id∈q.2.us.map (·.1)->D (i+x)=false)->BP i L D bl id=Av bl' p.2.us id
 | [],i,x0,p,D,bl,bl',h,_,_,_=>by simp at h
 | q::L,i,0,p,D,bl,bl',h,hd,hD,hl=>by
  simp at h; subst h
  rw [add_zero] at hD
  simp only [BP,hD]
  have:BP (i+1) L D (Av bl q.2.us) id=BP (i+1) L (fun _=>false) (Av bl q.2.us) id:=Hr L (i+1) D _ _ _ rfl (fun x q' h1 h2=>by have:=hl (x+1) q' (by omega) (by simpa using h1) h2; rwa [show i+1+x=i+(x+1) by omega])
  rw [this,DL _ _ _ _ (fun _ _=>rfl)]
  exact Hp _ _ _ _ hd
 | q::L,i,x0+1,p,D,bl,bl',h,hd,hD,hl=>by
  simp only [BP]
  exact Qg L (i+1) x0 p D _ bl' (by simpa using h) hd (by rwa [show i+1+x0=i+(x0+1) by omega]) (fun x q' h1 h2 h3=>by have:=hl (x+1) q' (by omega) (by simpa using h2) h3; rwa [show i+1+x=i+(x+1) by omega])

theorem RV {L:List (Oper×Rec)} {i0:Nat} {p:Oper×Rec} {D:Nat->Bool} {sl:List V} (h:L[i0]? = some p) (hl : ∀ x q t,i0<x->L[x]? = some q->p.1.dst=some t->q.1.dst=some t->D x=false) :
  BJ 0 L (fun j=>D j||beq j i0) sl=Do (BJ 0 L D sl) p.1.dst p.2.v:=by
 have bne : ∀ x,x≠i0->beq x i0=false:=fun x e=>by cases e2:beq x i0 with | false=>rfl | true=>exact absurd (eq_of_beq_eq_true e2) e
 apply List.ext_getElem?
 intro t
 by_cases hd:p.1.dst=some t
 ·rw [hd,Fk,F0]
  exact Qf L 0 i0 p _ sl h hd (by simp) (fun x q h1 h2 h3=>by
   simp only [zero_add]
   rw [hl x q t h1 h2 hd h3,bne x (by omega)]; rfl)
 ·rw [Ei hd]
  refine Hq L 0 _ _ _ _ rfl rfl (fun x q h1 h2=>?_)
  simp only [zero_add]
  have:x≠i0:=fun e=>by subst e; rw [h] at h1; simp at h1; subst h1; exact hd h2
  rw [bne x this]; simp
theorem RW {L:List (Oper×Rec)} {i0:Nat} {p:Oper×Rec} {D:Nat->Bool} {bl:Nat->Option Blk} (h:L[i0]? = some p) (hl : ∀ x q id,i0<x->L[x]? = some q->id∈p.2.us.map (·.1)->id∈q.2.us.map (·.1)->D x=false) :
  BP 0 L (fun j=>D j||beq j i0) bl=Av (BP 0 L D bl) p.2.us:=by
 have bne : ∀ x,x≠i0->beq x i0=false:=fun x e=>by cases e2:beq x i0 with | false=>rfl | true=>exact absurd (eq_of_beq_eq_true e2) e
 funext id
 by_cases hd:id∈p.2.us.map (·.1)
 ·exact Qg L 0 i0 p _ bl _ h hd (by simp) (fun x q h1 h2 h3=>by
   simp only [zero_add]
   rw [hl x q id h1 h2 hd h3,bne x (by omega)]; rfl)
 ·rw [Fd hd]
  refine Hr L 0 _ _ _ _ rfl (fun x q h1 h2=>?_)
  simp only [zero_add]
  have:x≠i0:=fun e=>by subst e; rw [h] at h1; simp at h1; subst h1; exact hd h2
  rw [bne x this]; simp

section
variable {P:Program} {Γ:FuncId->Option Ent} {E:Env} {dsts:List (Option Tmp)} {base:Nat}

theorem Ja : ∀ (os:List Oper) (j:Nat) (sl:List V) (bl:Nat->Option Blk) (tr:List Rec) (sl':List V) (bl':Nat->Option Blk),Tr P Γ dsts base j os sl bl tr sl' bl'->
  tr.length=os.length/\(∀ x p,(os.zip tr)[x]? = some p->Did P Γ dsts base (j+x) p.1 (BJ j (os.zip tr) (fun y=>blt y (j+x)) sl) (BP j (os.zip tr) (fun y=>blt y (j+x)) bl) p.2)/\sl'=BJ j (os.zip tr) (fun _=>true) sl/\bl'=BP j (os.zip tr) (fun _=>true) bl
 | [],j,sl,bl,tr,sl',bl',h=>by
  cases tr with
  | nil=>obtain ⟨rfl,rfl⟩:=h; exact ⟨rfl,by simp,rfl,rfl⟩
  | cons _ _=>exact h.elim
 | o::os,j,sl,bl,tr,sl',bl',h=>by
  cases tr with
  | nil=>exact h.elim
  | cons rc tr=>
   obtain ⟨h1,h2⟩:=h
   obtain ⟨g1,g2,g3,g4⟩:=Ja os (j+1) _ _ tr sl' bl' h2
   have lt : ∀ a b,a<b->blt a b=true:=fun a b h=>Nat.ble_eq_true_of_le h
   have nlt : ∀ a b,¬a<b->blt a b=false:=fun a b h=>by cases e:blt a b with | false=>rfl | true=>exact absurd (Nat.le_of_ble_eq_true e) h
   refine ⟨by simp [g1],fun x p hp=>?_,?_,?_⟩
   ·cases x with
    | zero=>
     simp at hp; subst hp
     rw [DK _ _ _ _ (fun y hy=>nlt _ _ (by omega)),DL _ _ _ _ (fun y hy=>nlt _ _ (by omega))]
     exact h1
    | succ x=>
     have:=g2 x p (by simpa using hp)
     simp only [List.zip_cons_cons,BJ,BP,lt j (j+(x+1)) (by omega)]
     rwa [show j+(x+1)=j+1+x by omega]
   ·simpa only [List.zip_cons_cons,BJ] using g3
   ·simpa only [List.zip_cons_cons,BP] using g4

theorem M7 {sl sl':List V} {bl:Nat->Option Blk} {new:Nat} {o:Oper} {β:Type} {k:V->Upd->Option β} (h : ∀ x∈o.op.operands,opd sl x=opd sl' x):opK P Γ sl bl new o k=opK P Γ sl' bl new o k:=by
 have lst : ∀ (l:List Operand),(∀ x∈l,opd sl x=opd sl' x)->l.map (opd sl)=l.map (opd sl'):=fun l hl=>map_congr_left hl
 cases ho:o.op with
 | move x=>rw [ho] at h; simp only [opK,ho]; rw [h x (by simp [Op.operands])]
 | assign x=>rw [ho] at h; simp only [opK,ho]; rw [h x (by simp [Op.operands])]
 | pick c x y=>rw [ho] at h; simp only [opK,ho]; rw [h c (by simp [Op.operands]),h x (by simp [Op.operands]),h y (by simp [Op.operands])]
 | alloc t=>simp only [opK,ho]
 | box t v=>rw [ho] at h; simp only [opK,ho]; rw [h v (by simp [Op.operands])]
 | build t parts=>
  rw [ho] at h; simp only [opK,ho]
  have:(parts.toList.map fun p=>(p.1,opd sl p.2))=parts.toList.map fun p=>(p.1,opd sl' p.2):=map_congr_left fun p hp=>by rw [h p.2 (by simp [Op.operands]; exact ⟨p.1,by simpa using hp⟩)]
  rw [this]
 | buildSlice t n parts=>
  rw [ho] at h; simp only [opK,ho]
  have:(parts.toList.map fun p=>(p.1,opd sl p.2))=parts.toList.map fun p=>(p.1,opd sl' p.2):=map_congr_left fun p hp=>by rw [h p.2 (by simp [Op.operands]; exact ⟨p.1,by simpa using hp⟩)]
  rw [this]
 | load t x=>rw [ho] at h; simp only [opK,ho]; rw [h x (by simp [Op.operands])]
 | store t x y=>rw [ho] at h; simp only [opK,ho]; rw [h x (by simp [Op.operands]),h y (by simp [Op.operands])]
 | nilCheck x=>rw [ho] at h; simp only [opK,ho]; rw [h x (by simp [Op.operands])]
 | binOp op t x y t2=>rw [ho] at h; simp only [opK,ho]; rw [h x (by simp [Op.operands]),h y (by simp [Op.operands])]
 | unOp op t x=>rw [ho] at h; simp only [opK,ho]; rw [h x (by simp [Op.operands])]
 | convert s d x=>rw [ho] at h; simp only [opK,ho]; rw [h x (by simp [Op.operands])]
 | makeFunc fn first cap=>
  rw [ho] at h
  cases fn with
  | func f=>
   simp only [opK,ho]
   rw [lst first.toList (fun x hx=>h x (by simp [Op.operands]; exact .inl (by simpa using hx))),lst cap.toList (fun x hx=>h x (by simp [Op.operands]; exact .inr (by simpa using hx)))]
  | _=>simp only [opK,ho]
 | makeSlice t n c=>rw [ho] at h; simp only [opK,ho]; rw [h n (by simp [Op.operands]),h c (by simp [Op.operands])]
 | slice t x lo hi mx=>
  rw [ho] at h
  cases mx with
  | some m=>
   cases lo with
   | none=>simp only [opK,ho]
   | some lo=>
    cases hi with
    | none=>simp only [opK,ho]
    | some hi=>
     simp only [opK,ho]
     rw [h x (by simp [Op.operands]),h lo (by simp [Op.operands]),h hi (by simp [Op.operands]),h m (by simp [Op.operands])]
  | none=>
   simp only [opK,ho]
   rw [h x (by simp [Op.operands])]
   have e1:lo.map (opd sl)=lo.map (opd sl'):=by cases lo with | none=>rfl | some y=>simp [h y (by simp [Op.operands])]
   have e2:hi.map (opd sl)=hi.map (opd sl'):=by cases hi with | none=>rfl | some y=>simp [h y (by simp [Op.operands])]
   rw [e1,e2]
 | fieldAddr s x f=>rw [ho] at h; simp only [opK,ho]; rw [h x (by simp [Op.operands])]
 | field s x f=>rw [ho] at h; simp only [opK,ho]; rw [h x (by simp [Op.operands])]
 | indexAddr t x ix=>rw [ho] at h; simp only [opK,ho]; rw [h x (by simp [Op.operands]),h ix (by simp [Op.operands])]
 | index t x ix=>rw [ho] at h; simp only [opK,ho]; rw [h x (by simp [Op.operands]),h ix (by simp [Op.operands])]
 | extract x j=>rw [ho] at h; simp only [opK,ho]; rw [h x (by simp [Op.operands])]
 | makeMap t rv=>cases rv<;>simp only [opK,ho]
 | lookup t m x ok=>rw [ho] at h; simp only [opK,ho]; rw [h m (by simp [Op.operands]),h x (by simp [Op.operands])]
 | mapUpdate t m x v=>rw [ho] at h; simp only [opK,ho]; rw [h m (by simp [Op.operands]),h x (by simp [Op.operands]),h v (by simp [Op.operands])]
 | call c=>
  rw [ho] at h
  have ha:c.args.toList.map (opd sl)=c.args.toList.map (opd sl'):=lst _ fun x hx=>h x (by simp only [Op.operands,Call.operands]; simp; exact .inr (by simpa using hx))
  cases hb:c.callee with
  | builtin b=>simp only [opK,ho,hb]; rw [ha]
  | invoke r m=>simp only [opK,ho,hb]
  | value f=>simp only [opK,ho,hb]; rw [ha,h f (by simp [Op.operands,Call.operands,hb])]
 | _=>simp only [opK,ho]

theorem C3 {bl bl':Nat->Option Blk} : ∀ (d:Nat) (acc todo:List Nat),(∀ id∈todo,id∈acc)->(∀ id∈Ba bl d acc todo,bl id=bl' id)->Ba bl d acc todo=Ba bl' d acc todo
 | 0,acc,todo,_,_=>rfl
 | d+1,acc,[],_,_=>rfl
 | d+1,acc,t::todo,hsub,h=>by
  have mono : ∀ (d:Nat) (acc todo:List Nat),∀ id∈acc,id∈Ba bl d acc todo:=by
   intro d
   induction d with
   | zero=>intro acc todo id hi; exact hi
   | succ d ih=>
    intro acc todo id hi
    cases todo with
    | nil=>exact hi
    | cons t todo=>
     unfold Ba
     refine ih _ _ id ?_
     have : ∀ (m l:List Nat),∀ id∈l,id∈A7 l m:=by
      intro m
      induction m with
      | nil=>intro l id hi; exact hi
      | cons j m ihm=>
       intro l id hi
       unfold A7
       simp only [foldl_cons]
       split
       ·exact ihm l id hi
       ·exact ihm _ id (by simp [hi])
     exact this _ _ id hi
  have hacc : ∀ id∈t::todo,bl id=bl' id:=fun id hi=>h id (mono _ _ _ id (hsub id hi))
  have e:((t::todo).flatMap fun id=>Ey (bl id))=((t::todo).flatMap fun id=>Ey (bl' id)):=by
   have : ∀ (l:List Nat),(∀ id∈l,bl id=bl' id)->(l.flatMap fun id=>Ey (bl id))=(l.flatMap fun id=>Ey (bl' id)):=by
    intro l
    induction l with
    | nil=>intro _; rfl
    | cons x l ih=>intro hl; simp only [List.flatMap_cons]; rw [hl x (by simp),ih (fun id hi=>hl id (by simp [hi]))]
   exact this _ hacc
  unfold Ba at h ⊢
  dsimp only at h ⊢
  rw [<-e]
  exact C3 d _ _ (fun id hi=>List.mem_of_mem_drop hi) h

theorem EP : ∀ (m l:List Nat) (id:Nat),id∈m\/id∈l->id∈A7 l m
 | [],l,id,h=>by rcases h with h | h; cases h; exact h
 | j::m,l,id,h=>by
  unfold A7
  simp only [foldl_cons]
  split
  ·rename_i hc
   refine EP m l id ?_
   rcases h with h | h
   ·rcases mem_cons.1 h with rfl | h
    ·exact .inr (by simpa using hc)
    ·exact .inl h
   ·exact .inr h
  ·refine EP m (l++[j]) id ?_
   rcases h with h | h
   ·rcases mem_cons.1 h with rfl | h
    ·exact .inr (by simp)
    ·exact .inl h
   ·exact .inr (by simp [h])
theorem Jb {sl sl':List V} {bl bl':Nat->Option Blk} {o:Oper} (h : ∀ x∈o.op.operands,opd sl x=opd sl' x) (hb : ∀ id∈CT sl bl o,bl id=bl' id):CT sl bl o=CT sl' bl' o:=by
 have lst:o.op.operands.toList.map (opd sl)=o.op.operands.toList.map (opd sl'):=map_congr_left fun x hx=>h x (by simpa using hx)
 unfold CT at hb ⊢
 rw [<-lst]
 dsimp only at hb ⊢
 cases ho:o.op with
 | store t x y=>
  rw [ho] at h hb
  dsimp only at hb ⊢
  rw [<-h y (by simp [Op.operands]),<-C3 3 _ _ (fun _ h=>h) (fun id hi=>hb id (EP _ _ _ (.inl hi)))]
 | buildSlice t n parts=>rw [ho] at hb; exact C3 3 _ _ (fun _ h=>h) hb
 | mapUpdate t m x v=>rw [ho] at hb; exact C3 3 _ _ (fun _ h=>h) hb
 | call c=>
  rw [ho] at hb
  obtain ⟨cl,args,ts⟩:=c
  cases cl with
  | value f=>exact C3 4 _ _ (fun _ h=>h) hb
  | _=>rfl
 | _=>rfl
end
end Go.Proofs.YthbecdipboideaaDoor.Den
/- A region in whatever order its edges allow: the proof. -/
namespace Go.Proofs.YthbecdipboideaaDoor.Den

inductive Anc (l:List Oper):Nat->Nat->Prop
 | direct (j:Nat) (o:Oper) (e:Edge) (h:l[j]? = some o) (he:e∈o.after) (hb:Region.binds .any e=true):Anc l j e.on
 | trans (j:Nat) (o:Oper) (e:Edge) (i:Nat) (h:l[j]? = some o) (he:e∈o.after) (hb:Region.binds .any e=true) (hi:Anc l e.on i):Anc l j i

theorem HZ {acc:List Nat} {i:Nat} : ∀ (es:List Edge) (s:Nat),testBit (es.foldl (fun s e=>match Region.binds .any e with | true=>s ||| (2 ^ e.on ||| acc.getD e.on 0) | false=>s) s) i=true->
  testBit s i=true\/∃ e∈es,Region.binds .any e=true/\(e.on=i\/testBit (acc.getD e.on 0) i=true)
 | [],s,h=>.inl h
 | e::es,s,h=>by
  simp only [foldl_cons] at h
  rcases HZ es _ h with h1 | ⟨e',h1,h2⟩
  ·split at h1
   ·rename_i hb
    rw [Nat.testBit_or,Nat.testBit_or,Nat.testBit_two_pow] at h1
    simp only [Bool.or_eq_true,decide_eq_true_eq] at h1
    rcases h1 with h1 | h1 | h1
    ·exact .inl h1
    ·exact .inr ⟨e,by simp,hb,.inl h1⟩
    ·exact .inr ⟨e,by simp,hb,.inr h1⟩
   ·exact .inl h1
  ·exact .inr ⟨e',by simp [h1],h2⟩
theorem FA {l:List Oper} : ∀ (os:List Oper) (pre:List Oper) (acc:List Nat),l=pre++os->acc.length=pre.length->(∀ j i,testBit (acc.getD j 0) i=true->Anc l j i)->∀ j i,testBit ((Cz os acc).getD j 0) i=true->Anc l j i
 | [],pre,acc,_,_,h=>h
 | o::os,pre,acc,hl,hlen,h=>by
  unfold Cz
  refine FA os (pre++[o]) _ (by simp [hl]) (by simp [hlen]) ?_
  intro j i hb
  by_cases hj:j<acc.length
  ·exact h j i (by
    simp only [getD_eq_getElem?_getD] at hb ⊢
    rwa [getElem?_append_left hj] at hb)
  ·by_cases hj2:j=acc.length
   ·subst hj2
    rw [getD_eq_getElem?_getD,getElem?_append_right (le_refl _)] at hb
    simp only [Nat.sub_self,List.getElem?_cons_zero,getD_some] at hb
    have ho:l[acc.length]? = some o:=by rw [hl,hlen,getElem?_append_right (le_refl _)]; simp
    rcases HZ _ _ hb with h1 | ⟨e,h1,h2,h3⟩
    ·simp at h1
    ·have he:e∈o.after:=by simpa using h1
     rcases h3 with rfl | h3
     ·exact .direct _ o e ho he h2
     ·exact .trans _ o e i ho he h2 (h _ _ h3)
   ·rw [getD_eq_getElem?_getD,getElem?_eq_none (by simp; omega)] at hb
    simp at hb
theorem Anc.closed {l:List Oper} {D:Nat->Prop} (hD : ∀ j o,l[j]? = some o->D j->∀ e∈o.after,Region.binds .any e=true->D e.on) {j i:Nat} (h:Anc l j i):D j->D i:=by
 induction h with
 | direct j o e h he hb=>exact fun hj=>hD j o h hj e he hb
 | trans j o e i h he hb _ ih=>exact fun hj=>ih (hD j o h hj e he hb)
theorem Anc.first {l:List Oper} {D:Nat->Prop} (hD : ∀ j o,l[j]? = some o->D j->∀ e∈o.after,Region.binds .any e=true->D e.on) {j i:Nat} (h:Anc l j i) (hj : ∀ o,l[j]? = some o->∀ e∈o.after,Region.binds .any e=true->D e.on):D i:=by
 cases h with
 | direct _ o e h he hb=>exact hj o h e he hb
 | trans _ o e i h he hb hi=>exact hi.closed hD (hj o h e he hb)

theorem Hn : ∀ (l:List Oper) (j:Nat),Kl j l=true->∀ i o,l[i]? = some o->∀ e∈o.after,Region.binds .any e=true->e.on<j+i
 | [],j,_,i,o,h=>by simp at h
 | o::l,j,hb,i,o',h=>by
  unfold Kl at hb
  simp only [and_eq_true] at hb
  cases i with
  | zero=>
   simp at h; subst h
   intro e he hbe
   have:=all_eq_true.1 hb.1 e (by simpa using he)
   rw [hbe] at this
   have:=Nat.le_of_ble_eq_true this
   omega
  | succ i=>
   intro e he hbe
   have:=Hn l (j+1) hb.2 i o' (by simpa using h) e he hbe
   omega
theorem Fa {d:Option Tmp} {l:List Nat} (h:Kc d l=false) : ∀ t,d=some t->t ∉ l:=by
 intro t e; subst e
 simpa [Kc] using h
theorem F9 {a b:Nat} (h:a<b):blt a b=true:=Nat.ble_eq_true_of_le h
theorem E2 {a b:Nat} (h : ¬a<b):blt a b=false:=by cases e:blt a b with | false=>rfl | true=>exact absurd (Nat.le_of_ble_eq_true e) h
theorem Dn {l:List Oper} {b:List Nat} (h:Fi l b=true) {i j:Nat} {x y:Oper} (hx:l[i]? = some x) (hy:l[j]? = some y) (hij:i<j) :
  testBit (b.getD j 0) i=true\/((∀ t,x.dst=some t->t ∉ FP l y)/\(∀ t,y.dst=some t->t ∉ FP l x)/\∀ t,x.dst=some t->y.dst≠some t):=by
 unfold Fi at h
 have h1:=all_eq_true.1 h (x,i) (List.mem_zipIdx_iff_getElem?.2 hx)
 have h2:=all_eq_true.1 h1 (y,j) (List.mem_zipIdx_iff_getElem?.2 hy)
 dsimp only at h2
 rw [F9 hij] at h2
 dsimp only at h2
 split at h2
 ·exact .inl (by assumption)
 ·right
  simp only [not_eq_true',Bool.or_eq_false_iff] at h2
  refine ⟨Fa h2.1.1,Fa h2.1.2,fun t e1 e2=>?_⟩
  have:=Fa h2.2 t e1
  rw [e2] at this; simp at this
theorem EQ {a b:List Nat} (h:J9 a b=false) : ∀ x∈a,x ∉ b:=by
 intro x hx hb
 have:J9 a b=true:=List.any_eq_true.2 ⟨x,hx,by simpa using hb⟩
 rw [h] at this; cases this
theorem DP {b:List Nat} {log:List (List Nat×List Nat)} (h:G8 b log=true) {i j:Nat} {x y:List Nat×List Nat} (hx:log[i]? = some x) (hy:log[j]? = some y) (hij:i<j) :
  testBit (b.getD j 0) i=true\/((∀ id∈x.2,id ∉ y.1)/\(∀ id∈x.2,id ∉ y.2)/\∀ id∈y.2,id ∉ x.1):=by
 unfold G8 at h
 have h1:=all_eq_true.1 h (x,i) (List.mem_zipIdx_iff_getElem?.2 hx)
 dsimp only at h1
 split at h1
 ·rename_i e1 e2
  right
  rw [e1,e2]
  exact ⟨by simp,by simp,by simp⟩
 ·have h2:=all_eq_true.1 h1 (y,j) (List.mem_zipIdx_iff_getElem?.2 hy)
  dsimp only at h2
  rw [F9 hij] at h2
  dsimp only at h2
  split at h2
  ·exact .inl (by assumption)
  ·right
   simp only [not_eq_true',Bool.or_eq_false_iff] at h2
   exact ⟨EQ h2.1.1,EQ h2.1.2,EQ h2.2⟩

section
variable {P:Program} {Γ:FuncId->Option Ent} {E:Env} {base:Nat}

theorem MU {dsts:List (Option Tmp)} {j:Nat} {o:Oper} {sl sl':List V} {bl bl':Nat->Option Blk} {rc:Rec} (h:Did P Γ dsts base j o sl bl rc) (hs : ∀ t,(∃ x∈o.op.operands,x = .tmp t)\/(∃ g want,o.guard=some (g,want)/\(dsts[g]?).bind id=some t)->sl[t]? = sl'[t]?) (hb : ∀ id∈rc.T,bl id=bl' id) :
  Did P Γ dsts base j o sl' bl' rc:=by
 obtain ⟨h1,h2⟩:=h
 have hop : ∀ x∈o.op.operands,opd sl x=opd sl' x:=fun x hx=>by
  cases x with
  | tmp t=>simp only [opd,getD]; rw [hs t (.inl ⟨_,hx,rfl⟩)]
  | const v=>rfl
  | global g=>rfl
  | func f=>rfl
 refine ⟨?_,?_⟩
 ·unfold Nf at h1 ⊢
  cases hg:o.guard with
  | none=>rw [hg] at h1; exact h1
  | some gw=>
   obtain ⟨g,want⟩:=gw
   rw [hg] at h1
   obtain ⟨t,e1,e3⟩:=h1
   exact ⟨t,e1,by simp only [getD] at e3 ⊢; rw [<-hs t (.inr ⟨g,want,hg,e1⟩)]; exact e3⟩
 ·rcases h2 with ⟨e1,e2,e3⟩ | h2
  ·left
   rw [e3] at hb
   have et:=Jb (o:=o) hop hb
   have er:GJ bl (CT sl bl o)=GJ bl' (CT sl' bl' o):=by
    rw [<-et]
    funext id
    unfold GJ
    split
    ·rename_i hc; exact hb id (by simpa using hc)
    ·rfl
   refine ⟨e1,?_,by rw [<-et]; exact e3⟩
   rw [<-er,<-M7 hop]; exact e2
  ·exact .inr h2

theorem Nm (hG:Knows P Γ) {l:List Oper} {tr:List Rec} {sl0 sl':List V} {bl0 bl':Nat->Option Blk} {Q:Exit->Act->World->Prop} (ht:Tr P Γ (l.map (·.dst)) base 0 l sl0 bl0 tr sl' bl') (hback:Kl 0 l=true) (hslot:Fi l (Cz l [])=true) (hblk:G8 (Cz l []) (tr.map fun x=>(x.T,x.us.map (·.1)))=true)
  (hQ : ∀ a' w',Sim E sl' bl' (fun i=>base+16*l.length<=i) a' w'->Q .normal a' w') :
  ∀ (fuel:Nat) (listed:Array Bool) (U:List Nat) (a:Act) (w:World),listed.size=l.length->(∀ j,j<l.length->listed.getD j false=false->j∈U)->U.length<=fuel->(∀ j o,l[j]? = some o->listed.getD j false=true->∀ e∈o.after,Region.binds .any e=true->listed.getD e.on false=true)->
   Sim E (BJ 0 (l.zip tr) (fun j=>listed.getD j false) sl0) (BP 0 (l.zip tr) (fun j=>listed.getD j false) bl0) (fun i=>base<=i/\∀ j,j<l.length->listed.getD j false=true->¬(base+16*j<=i/\i<base+16*j+16)) a w->
   wpAny P .any l.toArray Q fuel listed a w:=by
 obtain ⟨hlen,hdid,hsl,hbl⟩:=Ja l 0 sl0 bl0 tr sl' bl' ht
 have anc : ∀ j i,testBit ((Cz l []).getD j 0) i=true->Anc l j i:=FA l [] [] rfl rfl (by simp)
 have zipL : ∀ {j:Nat} {p:Oper×Rec},(l.zip tr)[j]? = some p->l[j]? = some p.1/\tr[j]? = some p.2:=fun {j p} h=>by
  rw [List.getElem?_zip_eq_some] at h; exact h
 have zipLen:(l.zip tr).length=l.length:=by simp [hlen]
 -- all are done
 have fin : ∀ (listed:Array Bool) (a:Act) (w:World),(∀ j,j<l.length->listed.getD j false=true)->Sim E (BJ 0 (l.zip tr) (fun j=>listed.getD j false) sl0) (BP 0 (l.zip tr) (fun j=>listed.getD j false) bl0) (fun i=>base<=i/\∀ j,j<l.length->listed.getD j false=true->¬(base+16*j<=i/\i<base+16*j+16)) a w->Q .normal a w:=by
  intro listed a w hall h
  refine hQ a w ?_
  have e1:BJ 0 (l.zip tr) (fun j=>listed.getD j false) sl0=sl':=by
   rw [hsl]
   apply List.ext_getElem?
   intro t
   refine Hq _ 0 _ _ _ _ rfl rfl (fun x p hp _=>?_)
   have:x<l.length:=by rw [<-zipLen]; exact (List.getElem?_eq_some_iff.1 hp).1
   simpa using hall x this
  have e2:BP 0 (l.zip tr) (fun j=>listed.getD j false) bl0=bl':=by
   rw [hbl]
   funext id
   refine Hr _ 0 _ _ _ _ rfl (fun x p hp _=>?_)
   have:x<l.length:=by rw [<-zipLen]; exact (List.getElem?_eq_some_iff.1 hp).1
   simpa using hall x this
  rw [e1,e2] at h
  obtain ⟨R,μ,g⟩:=h
  exact ⟨R,μ,g.fr_mono (fun i hi=>⟨by omega,fun j hj _=>by omega⟩)⟩
 -- where none is ready, all are done
 have noneReady : ∀ (listed:Array Bool),listed.size=l.length->Region.ready .any l.toArray listed=[]->∀ j,j<l.length->listed.getD j false=true:=by
  intro listed hsz hr j
  induction j using Nat.strongRecOn with
  | _ j ih=>
   intro hj
   cases hl:listed.getD j false with
   | true=>rfl
   | false=>
    exfalso
    have ho:l[j]? = some l[j]:=by simp [hj]
    have hm:j∈Region.ready .any l.toArray listed:=by
     unfold Region.ready
     rw [mem_filter]
     refine ⟨by simpa using hj,?_⟩
     have e1:listed.getD j true=false:=by
      have hjs:j<listed.size:=by omega
      simpa [Array.getD,hjs] using hl
     rw [e1]
     simp only [Bool.not_false,Bool.true_and]
     rw [show l.toArray[j]? = some l[j] by simp]
     simp only [map_some,getD_some]
     rw [Array.all_eq_true_iff_forall_mem]
     intro e he
     cases hb:Region.binds .any e with
     | false=>rfl
     | true=>
      have hlt:=Hn l 0 hback j l[j] ho e he hb
      simp only [Bool.not_true,Bool.false_or]
      exact ih e.on (by omega) (by omega)
    rw [hr] at hm; cases hm
 intro fuel
 induction fuel with
 | zero=>
  intro listed U a w hsz hU hlenU hdown h
  have hall : ∀ j,j<l.length->listed.getD j false=true:=fun j hj=>by
   cases hl:listed.getD j false with
   | true=>rfl
   | false=>have:=hU j hj hl; have e:U=[]:=List.eq_nil_of_length_eq_zero (by omega); rw [e] at this; cases this
  refine ⟨?_,fin listed a w hall h⟩
  unfold Region.ready
  rw [List.filter_eq_nil_iff]
  intro j hj
  have hj:j<l.length:=by simpa using hj
  have:=hall j hj
  have hjs:j<listed.size:=by omega
  have e1:listed.getD j true=true:=by simpa [Array.getD,hjs] using this
  rw [e1]; simp
 | succ fuel ih=>
  intro listed U a w hsz hU hlenU hdown h
  refine ⟨fun hr=>fin listed a w (noneReady listed hsz hr) h,fun i hi=>?_⟩
  unfold Region.ready at hi
  rw [mem_filter] at hi
  obtain ⟨hi1,hi2⟩:=hi
  have hil:i<l.length:=by simpa using hi1
  have his:i<listed.size:=by omega
  simp only [and_eq_true,not_eq_true'] at hi2
  obtain ⟨hi2,hi3⟩:=hi2
  have hDi:listed.getD i false=false:=by simpa [Array.getD,his] using hi2
  have ho:l[i]? = some l[i]:=by simp [hil]
  rw [show l.toArray[i]? = some l[i] by simp] at hi3
  simp only [map_some,getD_some] at hi3
  rw [Array.all_eq_true_iff_forall_mem] at hi3
  have hpre : ∀ o,l[i]? = some o->∀ e∈o.after,Region.binds .any e=true->listed.getD e.on false=true:=fun o h1 e he hb=>by
   rw [ho] at h1; simp at h1; subst h1
   have:=hi3 e he
   rw [hb] at this; simpa using this
  have hitr:i<tr.length:=by omega
  have hp:(l.zip tr)[i]? = some (l[i],tr[i]):=by rw [List.getElem?_zip_eq_some]; exact ⟨ho,by simp [hitr]⟩
  have hd:=hdid i _ hp
  simp only [zero_add] at hd
  -- it finds what it found in the text's order
  have ahead : ∀ x,testBit ((Cz l []).getD i 0) x=true->listed.getD x false=true:=fun x hx=>(anc i x hx).first (D:=fun j=>listed.getD j false=true) hdown hpre
  have behind : ∀ x,testBit ((Cz l []).getD x 0) i=true->listed.getD x false=false:=fun x hx=>by
   cases hl:listed.getD x false with
   | false=>rfl
   | true=>
    have:=(anc x i hx).closed (D:=fun j=>listed.getD j false=true) hdown hl
    rw [hDi] at this; cases this
  have hd2:Did P Γ (l.map (·.dst)) base i l[i] (BJ 0 (l.zip tr) (fun j=>listed.getD j false) sl0) (BP 0 (l.zip tr) (fun j=>listed.getD j false) bl0) tr[i]:=by
   refine MU hd (fun t htl=>?_) (fun id hid=>?_)
   ·have htl:t∈FP l l[i]:=by
     unfold FP
     rw [mem_append]
     rcases htl with ⟨x,hx,rfl⟩ | ⟨g,want,hg,e⟩
     ·left
      rw [List.mem_filterMap]
      exact ⟨_,by simpa using hx,rfl⟩
     ·right
      rw [hg]
      dsimp only
      rw [getElem?_map] at e
      cases e2:l[g]? with
      | none=>rw [e2] at e; simp at e
      | some og=>rw [e2] at e; simp at e; simp [e]
    refine Hq _ 0 _ _ _ _ rfl rfl (fun x p hx hdt=>?_)
    simp only [zero_add]
    obtain ⟨hxl,hxt⟩:=zipL hx
    rcases Nat.lt_trichotomy x i with h1 | h1 | h1
    ·rw [F9 h1]
     rcases Dn hslot hxl ho h1 with h2 | h2
     ·exact (ahead x h2).symm
     ·exact absurd htl (h2.1 t hdt)
    ·subst h1; rw [E2 (by omega),hDi]
    ·rw [E2 (by omega)]
     rcases Dn hslot ho hxl h1 with h2 | h2
     ·exact (behind x h2).symm
     ·exact absurd htl (h2.2.1 t hdt)
   ·refine Hr _ 0 _ _ _ _ rfl (fun x p hx hdt=>?_)
    simp only [zero_add]
    obtain ⟨hxl,hxt⟩:=zipL hx
    have hlx:(tr.map fun x=>(x.T,x.us.map (·.1)))[x]? = some (p.2.T,p.2.us.map (·.1)):=by simp [hxt]
    have hli:(tr.map fun x=>(x.T,x.us.map (·.1)))[i]? = some (tr[i].T,tr[i].us.map (·.1)):=by simp [hitr]
    rcases Nat.lt_trichotomy x i with h1 | h1 | h1
    ·rw [F9 h1]
     rcases DP hblk hlx hli h1 with h2 | h2
     ·exact (ahead x h2).symm
     ·exact absurd hid (h2.1 id hdt)
    ·subst h1; rw [E2 (by omega),hDi]
    ·rw [E2 (by omega)]
     rcases DP hblk hli hlx h1 with h2 | h2
     ·exact (behind x h2).symm
     ·exact absurd hid (h2.2.2 id hdt)
  -- the state behind it
  have hset : ∀ j,(listed.setIfInBounds i true).getD j false=(listed.getD j false||beq j i):=fun j=>by
   by_cases e:j=i
   ·subst e; simp [Array.getD,his]
   ·have hne:beq j i=false:=by cases e2:beq j i with | false=>rfl | true=>exact absurd (eq_of_beq_eq_true e2) e
    rw [hne,Bool.or_false]
    by_cases hjs:j<listed.size
    ·simp [hjs,Ne.symm e]
    ·simp [Array.getD,hjs]
  have hS:BJ 0 (l.zip tr) (fun j=>(listed.setIfInBounds i true).getD j false) sl0=Do (BJ 0 (l.zip tr) (fun j=>listed.getD j false) sl0) l[i].dst tr[i].v:=by
   rw [show (fun j=>(listed.setIfInBounds i true).getD j false)=fun j=>listed.getD j false||beq j i from funext hset]
   refine RV (D:=fun j=>listed.getD j false) hp (fun x q t h1 h2 h3 h4=>?_)
   rcases Dn hslot ho (zipL h2).1 h1 with h5 | h5
   ·exact behind x h5
   ·exact absurd h4 (h5.2.2 t h3)
  have hB:BP 0 (l.zip tr) (fun j=>(listed.setIfInBounds i true).getD j false) bl0=Av (BP 0 (l.zip tr) (fun j=>listed.getD j false) bl0) tr[i].us:=by
   rw [show (fun j=>(listed.setIfInBounds i true).getD j false)=fun j=>listed.getD j false||beq j i from funext hset]
   refine RW (D:=fun j=>listed.getD j false) hp (fun x q id h1 h2 h3 h4=>?_)
   have hlx:(tr.map fun x=>(x.T,x.us.map (·.1)))[x]? = some (q.2.T,q.2.us.map (·.1)):=by simp [(zipL h2).2]
   have hli:(tr.map fun x=>(x.T,x.us.map (·.1)))[i]? = some (tr[i].T,tr[i].us.map (·.1)):=by simp [hitr]
   rcases DP hblk hli hlx h1 with h5 | h5
   ·exact behind x h5
   ·exact absurd h4 (h5.2.1 id h3)
  have hstep:=OJ hG (ops:=l.toArray) (K:=wpAny P .any l.toArray Q fuel (listed.setIfInBounds i true)) (Q:=Q) h (by simp) (fun c hc=>⟨by omega,fun j hj hDj=>by
   have:j≠i:=fun e=>by subst e; rw [hDi] at hDj; cases hDj
   omega⟩) hd2 (fun a' w' hs=>?_)
  ·unfold wpOp
   rw [show l.toArray[i]? = some l[i] by simp]
   dsimp only
   split
   ·rename_i hw; rw [if_pos hw] at hstep; exact .inl hstep
   ·rename_i hw; rw [if_neg hw] at hstep; exact hstep
  ·refine ih (listed.setIfInBounds i true) (U.erase i) a' w' (by simpa using hsz) (fun j hj hl=>?_) ?_ ?_ ?_
   ·rw [hset] at hl
    simp only [Bool.or_eq_false_iff] at hl
    have hne:j≠i:=fun e=>by subst e; simp at hl
    exact (List.mem_erase_of_ne hne).2 (hU j hj hl.1)
   ·have:=List.length_erase_of_mem (hU i hil hDi)
    omega
   ·intro j o hjo hl e he hb
    rw [hset] at hl ⊢
    simp only [Bool.or_eq_true] at hl ⊢
    left
    rcases hl with hl | hl
    ·exact hdown j o hjo hl e he hb
    ·have:=eq_of_beq_eq_true hl
     subst this
     exact hpre o hjo e he hb
   ·rw [hS,hB]
    obtain ⟨R,μ,g⟩:=hs
    refine ⟨R,μ,g.fr_mono (fun x hx=>⟨⟨hx.1,fun j hj hDj=>hx.2 j hj (by rw [hset,hDj]; rfl)⟩,?_⟩)⟩
    have:=hx.2 i hil (by rw [hset]; simp)
    omega

theorem N7 {R:Nat->Prop} {μ:Nat->Option RB} {w:World} {bl:Nat->Option Blk} {id lo n:Nat} {nl:Option Bool} {c:Cd} {l:List c.den} {u:Value} (hm:Mem w R μ bl) (hb:bl id=some (.row false nl c l)) (hfl:c.flat=true) (hv:VRep w R μ (.ref id lo n) u) :
  Nest w c ((l.drop lo).take n) u/\∀ a m q,u = .slice (some a) m (q+1)->∃ rb,μ id=some rb/\rb.real=some a.block:=by
 obtain ⟨rb,hmu,hrep⟩:=hm.blk id _ hb
 cases hv with
 | vac _ ao hr=>
  refine ⟨by simpa using Nest.vac (w:=w) c ao,fun a m q e=>by simp at e⟩
 | ref _ _ _ b off k cap len A hr h0 h3 h4 h5=>
  rw [hmu] at hr; simp at hr; subst hr
  cases hrep with
  | row _ _ _ _ _ _ _ _ _ us e hk hh h1 h2 h6 h7=>
  subst hk
  have hlen:((l.drop lo).take n).length=n:=by rw [List.length_take,List.length_drop]; omega
  rcases h5 with h5 | rfl
  ·have hn:n=0:=by omega
   subst hn
   refine ⟨by rw [h5]; simpa using Nest.vac (w:=w) c (some A),fun a m q e2=>by rw [h5] at e2; simp at e2⟩
  ·by_cases hz:cap-lo=0
   ·have hn:n=0:=by omega
    subst hn
    refine ⟨by rw [hz]; simpa using Nest.vac (w:=w) c _,fun a m q e2=>by rw [hz] at e2; simp at e2⟩
   ·obtain ⟨q0,hq0⟩:=Nat.exists_eq_succ_of_ne_zero hz
    have hm2:(cap-lo)*c.size+lo*c.size=cap*c.size:=by rw [<-Nat.add_mul]; congr 1; omega
    refine ⟨?_,fun a m q e2=>⟨_,hmu,by simp at e2; rw [<-e2.1]; rfl⟩⟩
    rw [hq0]
    have g:=Nest.row (w:=w) c ((l.drop lo).take n) b (off+lo*c.size) q0 us e hfl hh (by rw [hlen]; omega) (by omega) (by rw [show q0+1=cap-lo by omega]; omega) (fun i z j v hz' hv=>by
     obtain ⟨hz2,_⟩:=Bk hz'
     obtain ⟨u,hu,hr⟩:=h7 (lo+i) z j v hz2 hv
     refine ⟨u,by rw [<-hu,Nat.add_mul]; congr 1; omega,Kb hfl hv hr |>.anyM _ (BE hv)⟩)
    rw [hlen] at g
    exact g
theorem SimAt.closeSub {E:Env} {R:Nat->Prop} {μ:Nat->Option RB} {sl:List V} {bl:Nat->Option Blk} {fr:Nat->Prop} {a:Act} {w:World} {id id2 i j lo n:Nat} {nl:Option Bool} {c c':Cd} {l:List c.den} {l':List c'.den} {row:List V} (h:SimAt E R μ sl bl fr a w) (hb:bl id=some (.drow c l (some (i,row)))) (hj:row[j]? = some (.ref id2 lo n)) (hb2:bl id2=some (.row false nl c' l')) (hfl:c'.flat=true) :
  SimAt E R μ sl (Au (Au bl id2 none) id (some (.drow c l (some (i,row.set j (.sl c' ((l'.drop lo).take n))))))) fr a w:=by
 have hne:id≠id2:=fun e=>by subst e; rw [hb] at hb2; cases hb2
 obtain ⟨rb,hmu,hrep⟩:=h.mem.blk id _ hb
 obtain ⟨rb2,hmu2,hrep2⟩:=h.mem.blk id2 _ hb2
 cases hrep with
 | drow b off k cap len _ _ _ us e hk hh g1 g2 g3 g4 g5 g6 g7=>
 subst hk
 obtain ⟨hil,hrl⟩:=g5 _ rfl
 have hrl:row.length=c.size:=hrl
 have at':AW c l (some (i,row)) i=some row:=by simp [AW]
 have ne' : ∀ i' row',i'≠i->AW c l (some (i,row')) i'=AW c l (some (i,row)) i':=fun i' row' hi=>by simp [AW,hi]
 have hjl:j<row.length:=(List.getElem?_eq_some_iff.1 hj).1
 obtain ⟨u0,hu0,hc0⟩:=g4 i row j _ at' hj
 obtain ⟨hn1,hn2⟩:=N7 h.mem hb2 hfl (show VRep w R μ (.ref id2 lo n) u0 from hc0)
 have hnl:(row.set j (.sl c' ((l'.drop lo).take n))).length=c.size:=by rw [List.length_set]; exact hrl
 -- an owned slice is an old one, or the one taken back
 have hsub : ∀ i' j' x,AS us off c.size c l (some (i,row.set j (.sl c' ((l'.drop lo).take n)))) i' j' x->AS us off c.size c l (some (i,row)) i' j' x\/(i'=i/\j'=j/\Foot w rb2 (.row false nl c' l') x):=by
  rintro i' j' x ⟨row1,c1,l1,a1,n1,q,k1,k2,k3,k4⟩
  by_cases e3:i'=i
  ·subst e3
   have:row1=row.set j (.sl c' ((l'.drop lo).take n)):=by simpa [AW] using k1.symm
   subst this
   by_cases e4:j=j'
   ·subst e4
    right
    rw [hu0] at k3
    obtain ⟨rb3,q1,q2⟩:=hn2 a1 n1 q (Option.some.inj k3)
    rw [hmu2] at q1; simp at q1; subst q1
    exact ⟨rfl,rfl,by rw [<-k4]; exact q2⟩
   ·rw [getElem?_set_ne e4] at k2
    exact .inl ⟨row,c1,l1,a1,n1,q,at',k2,k3,k4⟩
  ·rw [ne' _ _ e3] at k1
   exact .inl ⟨row1,c1,l1,a1,n1,q,k1,k2,k3,k4⟩
 have fold : ∀ i' j' x,AS us off c.size c l (some (i,row)) i' j' x->Foot w (.at b off c.size cap len) (.drow c l (some (i,row))) x:=fun i' j' x s=>.inr ⟨us,e,i',j',hh,s⟩
 have apart : ∀ x,Foot w (.at b off c.size cap len) (.drow c l (some (i,row))) x->Foot w rb2 (.row false nl c' l') x->False:=fun x f1 f2=>hne (h.mem.inj id id2 _ _ _ _ x hb hb2 rfl rfl hmu hmu2 f1 f2)
 refine h.merge hb rfl hmu hb2 rfl hmu2 hne (.drow b off c.size cap len c l _ us e rfl hh g1 g2 g3 (fun i' row1 j' v k1 k2=>?_) (fun p hp=>by cases hp; exact ⟨hil,hnl⟩) (fun i1 i2 j1 j2 x s1 s2=>?_) (fun i1 j1 x s1=>?_)) (fun y hy=>?_)
 ·by_cases e3:i'=i
  ·subst e3
   have:row1=row.set j (.sl c' ((l'.drop lo).take n)):=by simpa [AW] using k1.symm
   subst this
   by_cases e4:j=j'
   ·subst e4
    rw [List.getElem?_set_self hjl] at k2
    simp at k2; subst k2
    exact ⟨u0,hu0,hn1⟩
   ·rw [getElem?_set_ne e4] at k2
    exact g4 i' row j' v at' k2
  ·rw [ne' _ _ e3] at k1
   exact g4 i' row1 j' v k1 k2
 ·rcases hsub i1 j1 x s1 with t1 | ⟨t1,t2,t3⟩<;>rcases hsub i2 j2 x s2 with u1 | ⟨u1,u2,u3⟩
  ·exact g6 i1 i2 j1 j2 x t1 u1
  ·exact (apart x (fold _ _ _ t1) u3).elim
  ·exact (apart x (fold _ _ _ u1) t3).elim
  ·exact ⟨t1.trans u1.symm,t2.trans u2.symm⟩
 ·rcases hsub i1 j1 x s1 with t1 | ⟨t1,t2,t3⟩
  ·exact g7 i1 j1 x t1
  ·intro e5; subst e5; exact apart x (.inl rfl) t3
 ·rcases hy with hy | ⟨us',e',i',j',k1,k2⟩
  ·exact .inl (.inl hy)
  ·rw [hh] at k1
   have k1:=Option.some.inj k1
   injection k1 with k1 _ _
   subst k1
   rcases hsub i' j' y k2 with t1 | ⟨t1,t2,t3⟩
   ·exact .inl (fold _ _ _ t1)
   ·exact .inr t3
theorem Dz : ∀ (ids:List Nat) (bl:Nat->Option Blk) (j:Nat),CB bl ids j=if j∈ids then none else bl j
 | [],bl,j=>by simp [CB]
 | id::ids,bl,j=>by
  unfold CB
  simp only [foldl_cons]
  have:=Dz ids (Au bl id none) j
  unfold CB at this
  rw [this]
  by_cases e:j=id
  ·subst e; rw [Ah]; simp
  ·rw [Aw _ _ e]; simp [e]
theorem DR {E:Env} {R:Nat->Prop} {μ:Nat->Option RB} {sl:List V} {bl:Nat->Option Blk} {fr:Nat->Prop} {a:Act} {w:World} {id i:Nat} {c:Cd} {l:List c.den} (h:SimAt E R μ sl bl fr a w) : ∀ (vs pre vs':List V) (ids:List Nat),bl id=some (.drow c l (some (i,pre++vs)))->Hs bl vs=some (vs',ids)->ids.contains id=false->
  SimAt E R μ sl (Au (CB bl ids) id (some (.drow c l (some (i,pre++vs'))))) fr a w
 | [],pre,vs',ids,hb,hk,_=>by
  simp [Hs] at hk
  obtain ⟨rfl,rfl⟩:=hk
  have:Au (CB bl []) id (some (.drow c l (some (i,pre++[]))))=bl:=by
   funext j
   by_cases e:j=id
   ·subst e; rw [Ah,hb]
   ·rw [Aw _ _ e,Dz]; simp
  rw [this]; exact h
 | v::vs,pre,vs',ids,hb,hk,hni=>by
  unfold Hs at hk
  split at hk
  ·cases hk
  ·rename_i vs1 ids1 h1
   have hb1:bl id=some (.drow c l (some (i,(pre++[v])++vs))):=by rw [hb]; simp
   have keep:some (v::vs1,ids1)=some (vs',ids)->SimAt E R μ sl (Au (CB bl ids) id (some (.drow c l (some (i,pre++vs'))))) fr a w:=fun e=>by
    simp at e; obtain ⟨rfl,rfl⟩:=e
    have:=DR h vs (pre++[v]) vs1 ids1 hb1 h1 hni
    simpa using this
   split at hk
   ·rename_i id2 lo n
    split at hk
    ·rename_i nl c2 l2 hb2
     split at hk
     ·rename_i hfl hnc
      simp at hk; obtain ⟨rfl,rfl⟩:=hk
      have hni2:ids1.contains id=false/\id2≠id:=by
       simp at hni ⊢
       exact ⟨hni.2,fun e=>hni.1 e.symm⟩
      have hs:=DR h vs (pre++[.ref id2 lo n]) vs1 ids1 hb1 h1 hni2.1
      have hd:Au (CB bl ids1) id (some (.drow c l (some (i,(pre++[.ref id2 lo n])++vs1)))) id=some (.drow c l (some (i,(pre++[.ref id2 lo n])++vs1))):=Ah _ _ _
      have hd2:Au (CB bl ids1) id (some (.drow c l (some (i,(pre++[.ref id2 lo n])++vs1)))) id2=some (.row false nl c2 l2):=by
       rw [Aw _ _ hni2.2,Dz,if_neg (by simpa using hnc),hb2]
      have hcl:=hs.closeSub (j:=pre.length) (lo:=lo) (n:=n) hd (by simp) hd2 hfl
      have e1:((pre++[V.ref id2 lo n])++vs1).set pre.length (.sl c2 ((l2.drop lo).take n))=pre++V.sl c2 ((l2.drop lo).take n)::vs1:=by
       rw [List.append_assoc,List.set_append_right _ _ (le_refl _)]; simp
      rw [e1] at hcl
      have e2:Au (Au (Au (CB bl ids1) id (some (.drow c l (some (i,(pre++[.ref id2 lo n])++vs1))))) id2 none) id (some (.drow c l (some (i,pre++V.sl c2 ((l2.drop lo).take n)::vs1))))=Au (CB bl (id2::ids1)) id (some (.drow c l (some (i,pre++V.sl c2 ((l2.drop lo).take n)::vs1)))):=by
       funext j
       by_cases e:j=id
       ·subst e; rw [Ah,Ah]
       ·rw [Aw _ _ e,Aw _ _ e,Dz]
        by_cases e3:j=id2
        ·subst e3; rw [Ah]; simp
        ·rw [Aw _ _ e3,Aw _ _ e,Dz]; simp [e3]
      rw [e2] at hcl
      exact hcl
     ·cases hk
    ·cases hk
   ·exact keep hk
   ·exact keep hk
   ·exact keep hk
   ·exact keep hk
   ·exact keep hk
   ·cases hk
theorem Kf {β:Type} {k:(Nat->Option Blk)->Option β} {r:β} {bl:Nat->Option Blk} {id:Nat} (hk:Lp bl id k=some r) : ∃ bl',k bl'=some r/\∀ (E:Env) (sl:List V) (fr:Nat->Prop) (a:Act) (w:World),Sim E sl bl fr a w->Sim E sl bl' fr a w:=by
 have stay:k bl=some r->∃ bl',k bl'=some r/\∀ (E:Env) (sl:List V) (fr:Nat->Prop) (a:Act) (w:World),Sim E sl bl fr a w->Sim E sl bl' fr a w:=fun hk=>⟨bl,hk,fun _ _ _ _ _ h=>h⟩
 unfold Lp at hk
 split at hk
 ·rename_i c l i row hb
  split at hk
  ·rename_i cs ids habs
   split at hk
   ·rename_i z hz hni
    refine ⟨_,hk,fun E sl fr a w hs=>?_⟩
    obtain ⟨R,μ,h⟩:=hs
    have g:=DR h row [] cs ids (by simpa using hb) habs hni
    simp only [List.nil_append] at g
    have hb':Au (CB bl ids) id (some (.drow c l (some (i,cs)))) id=some (.drow c l (some (i,cs))):=Ah _ _ _
    have hn:=Ic hz
    have e0:Au (Au (CB bl ids) id (some (.drow c l (some (i,cs))))) id (some (.drow c (l.set i z) none))=Au (CB bl ids) id (some (.drow c (l.set i z) none)):=by
     funext j
     by_cases e:j=id
     ·subst e; rw [Ah,Ah]
     ·rw [Aw _ _ e,Aw _ _ e,Aw _ _ e]
    refine ⟨R,μ,?_⟩
    rw [<-e0]
    generalize Au (CB bl ids) id (some (.drow c l (some (i,cs))))=bl1 at g hb'
    obtain ⟨rb,hmu,hrep⟩:=g.mem.blk id _ hb'
    cases hrep with
    | drow b off k cap len _ _ _ us e hkk hh g1 g2 g3 g4 g5 g6 g7=>
    obtain ⟨hil,hrl⟩:=g5 _ rfl
    have hil:i<len:=hil
    have at':AW c l (some (i,cs)) i=some cs:=by simp [AW]
    have row' : ∀ i' r',AW c (l.set i z) none i'=some r'->(i'=i/\r'=enc c z)\/(i'≠i/\AW c l (some (i,cs)) i'=some r'):=fun i' r' hr=>by
     by_cases e3:i'=i
     ·subst e3
      simp only [AW] at hr
      rw [List.getElem?_set_self (by omega)] at hr
      exact .inl ⟨rfl,by simpa using hr.symm⟩
     ·simp only [AW] at hr
      rw [getElem?_set_ne (Ne.symm e3)] at hr
      exact .inr ⟨e3,by simp [AW,e3]; simpa using hr⟩
    have hsub : ∀ i' j x,AS us off k c (l.set i z) none i' j x->AS us off k c l (some (i,cs)) i' j x:=by
     rintro i' j x ⟨r',c1,l1,a1,n1,q,k1,k2,k3,k4⟩
     rcases row' i' r' k1 with ⟨rfl,rfl⟩ | ⟨_,h2⟩
     ·rcases hn.2 j _ k2 with h3 | ⟨h3,_⟩
      ·exact ⟨cs,c1,l1,a1,n1,q,at',h3,k3,k4⟩
      ·obtain ⟨u,q1,q2⟩:=g4 i' cs j _ at' h3
       cases (show VRep w R μ .nl u from q2)
       rw [q1] at k3; simp at k3
     ·exact ⟨r',c1,l1,a1,n1,q,h2,k2,k3,k4⟩
    refine g.say hb' rfl hmu (.drow b off k cap len c (l.set i z) none us e hkk hh ⟨by simpa using g1.1,g1.2⟩ g2 g3 (fun i' r' j v k1 k2=>?_) (fun p hp=>by cases hp) (fun i1 i2 j1 j2 x s1 s2=>g6 i1 i2 j1 j2 x (hsub _ _ _ s1) (hsub _ _ _ s2)) (fun i1 j1 x s1=>g7 i1 j1 x (hsub _ _ _ s1))) (fun y hy=>?_)
    ·rcases row' i' r' k1 with ⟨rfl,rfl⟩ | ⟨_,h2⟩
     ·rcases hn.2 j _ k2 with h3 | ⟨h3,c2,rfl⟩
      ·exact g4 i' cs j v at' h3
      ·obtain ⟨u,q1,q2⟩:=g4 i' cs j _ at' h3
       exact ⟨u,q1,q2.nil c2⟩
     ·exact g4 i' r' j v h2 k2
    ·rcases hy with hy | ⟨us',e',i',j',k1,k2⟩
     ·exact .inl hy
     ·rw [hh] at k1
      have k1:=Option.some.inj k1
      injection k1 with k1 _ _
      subst k1
      exact .inr ⟨us,e,i',j',hh,hsub _ _ _ k2⟩
   ·exact stay hk
  ·exact stay hk
 ·exact stay hk
theorem Eu {β:Type} : ∀ (ids:List Nat) {k:(Nat->Option Blk)->Option β} {r:β} {bl:Nat->Option Blk},E1 ids bl k=some r->∃ bl',k bl'=some r/\∀ (E:Env) (sl:List V) (fr:Nat->Prop) (a:Act) (w:World),Sim E sl bl fr a w->Sim E sl bl' fr a w
 | [],k,r,bl,hk=>⟨bl,hk,fun _ _ _ _ _ h=>h⟩
 | id::ids,k,r,bl,hk=>by
  unfold E1 at hk
  obtain ⟨bl1,h1,h2⟩:=Kf hk
  obtain ⟨bl2,h3,h4⟩:=Eu ids h1
  exact ⟨bl2,h3,fun E sl fr a w h=>h4 E sl fr a w (h2 E sl fr a w h)⟩

theorem In (hG:Knows P Γ) {id:Nat} {ops:Array Oper} {draw:Bool} {σ:St} {β:Type} {k:St->Option β} {r:β} {a:Act} {w:World} {Q:Exit->Act->World->Prop} (hk:Io P Γ ops.toList draw σ k=some r) (h:Sim E σ.sl σ.bl (fun i=>σ.next<=i) a w)
  (hQ : ∀ σ' a' w',k σ'=some r->Sim E σ'.sl σ'.bl (fun i=>σ'.next<=i) a' w'->Q .normal a' w'):(Code.region id ops draw).wp P Q a w:=by
 unfold Io at hk
 obtain ⟨tr,sl',bl',ht,hk⟩:=EL _ _ _ _ _ _ hk
 split at hk
 ·rename_i hc
  rw [List.nil_append] at hc
  obtain ⟨bl2,hk,hcl⟩:=Eu _ hk
  have hQ' : ∀ a' w',Sim E sl' bl' (fun i=>σ.next+16*ops.toList.length<=i) a' w'->Q .normal a' w':=fun a' w' hs=>hQ _ a' w' hk (hcl _ _ _ _ _ hs)
  cases draw with
  | false=>
   refine wp_region_list (IZ hG rfl ops.toList 0 σ.sl σ.bl tr sl' bl' a w ht (by simpa using h) (by simpa using hQ'))
  | true=>
   simp only [and_eq_true] at hc
   obtain ⟨hm,hc⟩:=hc
   unfold RG at hc
   simp only [and_eq_true] at hc
   refine wp_region_any hm ?_
   have h':Sim E σ.sl σ.bl (fun i=>σ.next<=i) a { w with drawn:=w.drawn+1 }:=by
    obtain ⟨R,μ,g⟩:=h
    exact ⟨R,μ,g.sameHeap rfl rfl rfl rfl⟩
   have:=Nm (Q:=Q) (E:=E) hG ht hc.1.1 hc.1.2 hc.2 hQ' ops.size (Array.replicate ops.size false) (range ops.size) a { w with drawn:=w.drawn+1 } (by simp) (fun j hj _=>by simpa using hj) (by simp) (fun j o _ hl=>by
    have:(Array.replicate ops.size false).getD j false=false:=by simp [Array.getD]
    rw [this] at hl; cases hl) ?_
   ·simpa using this
   ·have e0:(fun j=>(Array.replicate ops.size false).getD j false)=fun _=>false:=by funext j; simp [Array.getD]
    rw [DK _ _ _ _ (fun x _=>congrFun e0 x),DL _ _ _ _ (fun x _=>congrFun e0 x)]
    obtain ⟨R,μ,g⟩:=h'
    exact ⟨R,μ,g.fr_mono (fun i hi=>hi.1)⟩
 ·cases hk
end
end Go.Proofs.YthbecdipboideaaDoor.Den
/- Code, loops, functions. -/
namespace Go.Proofs.YthbecdipboideaaDoor.Den

noncomputable def AG (P:Program) (Γ:FuncId->Option Ent) (Λ:Nat->Option LoopEnt) (m:Nat) (a:Code) (ent:LoopEnt) (d:Dt):Option (Ex×Dt):=
 BY P Γ Λ m a (CU ent.ns ent.live d) fun e σ'=>match beq σ'.sl.length ent.ns with
  | true=>some (e,Fc m (ent.outs e) σ')
  | false=>none
inductive Runs (P:Program) (Γ:FuncId->Option Ent) (Λ:Nat->Option LoopEnt) (m:Nat) (a:Code) (ent:LoopEnt):Dt->Ex->Dt->Prop
 | stop (d:Dt) (e:Ex) (d':Dt) (h:AG P Γ Λ m a ent d=some (e,d')) (he:e≠.normal):Runs P Γ Λ m a ent d e d'
 | step (d d1:Dt) (e:Ex) (d':Dt) (h:AG P Γ Λ m a ent d=some (.normal,d1)) (hr:Runs P Γ Λ m a ent d1 e d'):Runs P Γ Λ m a ent d e d'

noncomputable def Dp (P:Program) (Γ:FuncId->Option Ent) (Λ:Nat->Option LoopEnt) (m:Nat) (a:Code) (ent:LoopEnt) (d:Dt):Option (Ex×Dt):=
 BY P Γ Λ m a (CU ent.ns ent.live d) fun e σ'=>match beq σ'.sl.length ent.ns with
  | true=>some (e,Fc m (ent.outC e) σ')
  | false=>none
def A6 (P:Program) (Γ:FuncId->Option Ent) (Λ:Nat->Option LoopEnt) (m:Nat) (c:Code):Prop:=
 (∀ a∈AR c,∀ ent,Λ (Cc a)=some ent->∀ d e d',(ent.L d).run=some (e,d')->Runs P Γ Λ m a ent d e d')/\
 ∀ x∈Bc c,∀ ent,Λ x.2=some ent->∀ d e d',(ent.L d).run=some (e,d')->Dp P Γ Λ m x.1 ent d=some (e,d')

def Ex.exit':Ex->Exit
 | .normal=>.normal
 | .ret=>.ret
 | .exit n=>.exit n

def IU (P:Program) (c:Code) (Q:Exit->Act->World->Prop) (a:Act) (w:World):Prop:=
 ∀ (b:Frame) (k:List Item) (cs:List Frame),∃ e a' w',Q e a' w'/\Arrives P (lone (b.at a (.code c::.inLoop c::k)) cs w) b k cs e a' w'
theorem MB {P:Program} {c:Code} {Q:Exit->Act->World->Prop} {a:Act} {w:World} (h:IU P c Q a w):(Code.loop c).wp P Q a w:=by
 intro b k cs
 obtain ⟨e,a',w',hq,harr⟩:=h b k cs
 exact ⟨e,a',w',hq,.of_steps (.one step_loop) harr⟩
theorem Gi {P:Program} {c:Code} {Q:Exit->Act->World->Prop} {a:Act} {w:World} (h:c.wp P (Exit.then (IU P c Q) Q) a w):IU P c Q a w:=by
 intro b k cs
 obtain ⟨e,a₁,w₁,hq,harr⟩:=h b (.inLoop c::k) cs
 cases e with
 | normal=>
  obtain ⟨e₂,a₂,w₂,hq₂,harr₂⟩:=hq b k cs
  exact ⟨e₂,a₂,w₂,hq₂,.of_steps (Steps.trans harr (.one step_inLoop)) harr₂⟩
 | exit id=>exact ⟨_,a₁,w₁,hq,.pass (x:=.inLoop c) rfl (fun _ _=>.inl (by simp)) harr⟩
 | goto l=>exact ⟨_,a₁,w₁,hq,.pass (x:=.inLoop c) rfl (fun _ _=>.inl (by simp)) harr⟩
 | ret=>exact ⟨_,a₁,w₁,hq,.pass (x:=.inLoop c) rfl (fun _ _=>.inl (by simp)) harr⟩
 | panic ch=>exact ⟨_,a₁,w₁,hq,.pass (x:=.inLoop c) rfl (fun _ _=>.inl (by simp)) harr⟩
 | outgrown=>exact ⟨_,a₁,w₁,hq,.pass (x:=.inLoop c) rfl (fun _ _=>.inl (by simp)) harr⟩

section
variable {P:Program} {Γ:FuncId->Option Ent} {Λ:Nat->Option LoopEnt} {E:Env} {m:Nat}

abbrev D6 (E:Env) (σ:St) (a:Act) (w:World):Prop:=Sim E σ.sl σ.bl (fun i=>σ.next<=i) a w

theorem DQ : ∀ (ms l:List Nat),∃ t,A7 l ms=l++t
 | [],l=>⟨[],by simp [A7]⟩
 | j::ms,l=>by
  unfold A7
  simp only [foldl_cons]
  split
  ·exact DQ ms l
  ·obtain ⟨t,ht⟩:=DQ ms (l++[j])
   exact ⟨[j]++t,by unfold A7 at ht; rw [ht]; simp⟩
theorem HG (bl:Nat->Option Blk) : ∀ (d:Nat) (acc todo:List Nat),∃ t,Ba bl d acc todo=acc++t
 | 0,acc,todo=>⟨[],by simp [Ba]⟩
 | d+1,acc,[]=>⟨[],by simp [Ba]⟩
 | d+1,acc,t::todo=>by
  unfold Ba
  dsimp only
  obtain ⟨x,hx⟩:=DQ ((t::todo).flatMap fun id=>Ey (bl id)) acc
  obtain ⟨y,hy⟩:=HG bl d (A7 acc ((t::todo).flatMap fun id=>Ey (bl id))) ((A7 acc ((t::todo).flatMap fun id=>Ey (bl id))).drop acc.length)
  exact ⟨x++y,by rw [hy,hx]; simp⟩
theorem FV {bl:Nat->Option Blk} {d m j:Nat} {more:List Nat} (hj:j<m):(Ba bl d (A7 (range m) more) (A7 (range m) more))[j]? = some j:=by
 obtain ⟨x,hx⟩:=DQ more (range m)
 obtain ⟨y,hy⟩:=HG bl d (A7 (range m) more) (A7 (range m) more)
 rw [hy,hx,List.append_assoc,getElem?_append_left (by simpa using hj)]
 simp [hj]

theorem BRep.nl {w:World} {R:Nat->Prop} {μ:Nat->Option RB} {rb:RB} {ro:Bool} {nl:Option Bool} {c:Cd} {l:List c.den} (h:BRep w R μ rb (.row ro nl c l)):BRep w R μ rb (.row ro none c l):=by
 cases h with
 | vac ao=>exact .vac ao ro none c
 | row b off k cap len _ _ _ _ us e hk h h1 h2 h3 h4 h5=>exact .row b off k cap len ro none c l us e hk h h1 h2 h3 h4 h5

theorem Mem.renum {w:World} {R:Nat->Prop} {μ:Nat->Option RB} {bl blc:Nat->Option Blk} {ids:List Nat} {ρ:Nat->Option Nat} (hm:Mem w R μ bl) (hnd:ids.Nodup) (hb : ∀ j B,blc j=some B->∃ id B0,ids[j]? = some id/\bl id=some B0/\B.own=B0.own/\(∀ rb,BRep w R (fun j=>(ids[j]?).bind μ) rb (BV ρ B0)->BRep w R (fun j=>(ids[j]?).bind μ) rb B)/\∀ rb x,Foot w rb B x->Foot w rb B0 x)
  (hρ : ∀ id j rb,ρ id=some j->μ id=some rb->(ids[j]?).bind μ=some rb):Mem w R (fun j=>(ids[j]?).bind μ) blc:=by
 refine ⟨?_,?_,?_,hm.rlt⟩
 ·intro j B h
  obtain ⟨id,B0,g1,g2,_,g3,_⟩:=hb j B h
  obtain ⟨rb,g4,g5⟩:=hm.blk id B0 g2
  exact ⟨rb,by rw [g1]; exact g4,g3 rb (DC hρ g5)⟩
 ·intro j j' B B' rb rb' x h1 h2 o1 o2 m1 m2 e1 e2
  obtain ⟨id,B0,g1,g2,g3,_,g4⟩:=hb j B h1
  obtain ⟨id',B0',k1,k2,k3,_,k4⟩:=hb j' B' h2
  rw [g1] at m1; rw [k1] at m2
  have:=hm.inj id id' B0 B0' rb rb' x g2 k2 (by rw [<-g3]; exact o1) (by rw [<-k3]; exact o2) m1 m2 (g4 rb x e1) (k4 rb' x e2)
  subst this
  obtain ⟨hj,e3⟩:=List.getElem?_eq_some_iff.1 g1
  obtain ⟨hj',e4⟩:=List.getElem?_eq_some_iff.1 k1
  exact (List.getElem_inj hnd).1 (e3.trans e4.symm)
 ·intro j B rb x h1 o1 m1 e1
  obtain ⟨id,B0,g1,g2,g3,_,g4⟩:=hb j B h1
  rw [g1] at m1
  exact hm.sep id B0 rb x g2 (by rw [<-g3]; exact o1) m1 (g4 rb x e1)

theorem Bn {w:World} {rb:RB} {B:Blk} {x:Nat}:Foot w rb (noNl B) x↔Foot w rb B x:=by cases B<;>exact Iff.rfl
theorem GQ {α β:Type} (l:List α) (f:α->Option β) (j:Nat):((l.map f)[j]?).join=match l[j]? with | some a=>f a | none=>none:=by
 rw [getElem?_map]; cases l[j]?<;>rfl
theorem Da (hm : ∀ j,m<=j->E.μ0 j=none) {live:List Nat} {σ:St} {a:Act} {w:World} (h:D6 E σ a w):D6 E (CU σ.sl.length live (Fc m live σ)) a w:=by
 obtain ⟨R,μ,h⟩:=h
 unfold Fc CU
 dsimp only
 generalize hmore:(live.map fun t=>σ.sl.getD t .unk).flatMap (BW 5)=more
 have hfirst : ∀ j,j<m->(Ba σ.bl 4 (A7 (range m) more) (A7 (range m) more))[j]? = some j:=fun j hj=>FV hj
 have hnd:(Ba σ.bl 4 (A7 (range m) more) (A7 (range m) more)).Nodup:=Ch _ _ _ _ (Bx _ _ nodup_range)
 generalize Ba σ.bl 4 (A7 (range m) more) (A7 (range m) more)=ids at hfirst hnd
 have hρ : ∀ id j rb,Bd ids id=some j->μ id=some rb->(ids[j]?).bind μ=some rb:=fun id j rb e1 e2=>by rw [Cw e1]; exact e2
 refine ⟨R,fun j=>(ids[j]?).bind μ,⟨h.mem.renum (ρ:=Bd ids) hnd (fun j B hB=>?_) hρ,?_,?_,h.dfr,fun id hid=>?_,h.os,h.tape,h.output,h.grow,h.same,?_,?_,h.r0,h.rT,fun id rb he=>?_⟩⟩
 ·dsimp only at hB
  rw [GQ] at hB
  cases e:ids[j]? with
  | none=>rw [e] at hB; cases hB
  | some id=>
   rw [e] at hB
   dsimp only at hB
   obtain ⟨B0,g1,g2⟩:=map_eq_some_iff.1 hB
   refine ⟨id,B0,rfl,g1,?_,fun rb hr=>?_,fun rb x hx=>?_⟩
   ·rw [<-g2]; cases B0<;>rfl
   rotate_left
   ·rw [<-g2] at hx; exact AF (Bn.1 hx)
   ·rw [<-g2]
    cases B0 with
    | drow c l op=>exact hr
    | box cs=>exact hr
    | mp kc vc l=>exact hr
    | row ro nl c l=>exact BRep.nl hr
 ·simpa using h.size
 ·intro t v u hv hu
  simp only [getElem?_map] at hv
  obtain ⟨t',ht',rfl⟩:=map_eq_some_iff.1 hv
  have htl:t<σ.sl.length:=by have:=(List.getElem?_eq_some_iff.1 ht').1; simpa using this
  rw [List.getElem?_range htl] at ht'
  simp at ht'; subst ht'
  split
  ·rename_i i hi
   have hi:=Cw hi
   have e:(List.map (BU (Bd ids) 5) (List.map (fun t=>σ.sl.getD t V.unk) live)).getD i V.unk=BU (Bd ids) 5 (σ.sl.getD t .unk):=by
    rw [getD_eq_getElem?_getD,getElem?_map,getElem?_map,hi]; rfl
   rw [e]
   refine Cg hρ 5 _ u (h.slot t _ u ?_ hu)
   simp [getD,htl]
  ·exact .unk u
 ·have:ids[id]? = none:=getElem?_eq_none (by simpa using hid)
  rw [this]; rfl
 ·intro j B rb x hB ho hmu hx
  dsimp only at hB hmu
  rw [GQ] at hB
  cases e:ids[j]? with
  | none=>rw [e] at hB; cases hB
  | some id=>
   rw [e] at hB hmu
   dsimp only at hB
   obtain ⟨B0,g1,g2⟩:=map_eq_some_iff.1 hB
   exact h.ownT id B0 rb x g1 (by rw [<-g2] at ho; cases B0<;>exact ho) hmu (by rw [<-g2] at hx; exact AF (Bn.1 hx))
 ·intro j B rb x hB hmu hx
  dsimp only at hB hmu
  rw [GQ] at hB
  cases e:ids[j]? with
  | none=>rw [e] at hB; cases hB
  | some id=>
   rw [e] at hB hmu
   dsimp only at hB
   obtain ⟨B0,g1,g2⟩:=map_eq_some_iff.1 hB
   exact h.allT id B0 rb x g1 hmu (by rw [<-g2] at hx; exact AF (Bn.1 hx))
 ·have hid:id<m:=by
   rcases lt_or_ge id m with h1 | h1
   ·exact h1
   ·rw [hm id h1] at he; cases he
  rw [hfirst id hid]
  exact h.ext id rb he

theorem Lc {β:Type} {x y:Option β} {r:β} (h:JW x y=some r):x=some r/\y=some r:=by
 unfold JW at h
 split at h
 ·rename_i e; exact ⟨h,e ▸ h⟩
 ·cases h
theorem Ep (hm : ∀ j,m<=j->E.μ0 j=none) (b:Code) (key:Nat) (hL : ∀ ent,Λ key=some ent->∀ d e d',(ent.L d).run=some (e,d')->Dp P Γ Λ m b ent d=some (e,d'))
  (ih : ∀ {β:Type} (σ:St) (k:Ex->St->Option β) (r:β) (a:Act) (w:World) (Q:Exit->Act->World->Prop),BY P Γ Λ m b σ k=some r->D6 E σ a w->
   (∀ e σ' a' w',k e σ'=some r->D6 E σ' a' w'->Q e.exit' a' w')->b.wp P Q a w) :
  ∀ {β:Type} (σ:St) (k:Ex->St->Option β) (r:β) (a:Act) (w:World) (Q:Exit->Act->World->Prop),Hf Λ m key σ k (BY P Γ Λ m b σ k)=some r->D6 E σ a w->
   (∀ e σ' a' w',k e σ'=some r->D6 E σ' a' w'->Q e.exit' a' w')->b.wp P Q a w:=by
 intro β σ k r a w Q hk h hQ
 unfold Hf at hk
 split at hk
 ·exact ih σ k r a w Q hk h hQ
 ·rename_i ent hent
  split at hk
  case h_2=>cases hk
  rename_i hns
  have hns:=eq_of_beq_eq_true hns
  obtain ⟨⟨e,d'⟩,h1,h2⟩:=Br.k_some hk
  have hcut:=hL ent hent _ e d' h1
  have hs0:=Da (m:=m) (live:=ent.live) hm h
  rw [hns] at hs0
  refine ih (CU ent.ns ent.live (Fc m ent.live σ)) _ (e,d') a w Q hcut hs0 fun e2 σ2 a' w' hk' hs'=>?_
  split at hk'
  case h_2=>cases hk'
  rename_i hln
  have hln:=eq_of_beq_eq_true hln
  simp only [Option.some.injEq,Prod.mk.injEq] at hk'
  obtain ⟨rfl,rfl⟩:=hk'
  have hs2:=Da (m:=m) (live:=ent.outC e2) hm hs'
  rw [hln] at hs2
  exact hQ e2 _ a' w' h2 hs2
theorem Hi (hG:Knows P Γ) (hm : ∀ j,m<=j->E.μ0 j=none) : ∀ (c:Code),A6 P Γ Λ m c->∀ {β:Type} (σ:St) (k:Ex->St->Option β) (r:β) (a:Act) (w:World) (Q:Exit->Act->World->Prop),BY P Γ Λ m c σ k=some r->D6 E σ a w->
  (∀ e σ' a' w',k e σ'=some r->D6 E σ' a' w'->Q e.exit' a' w')->c.wp P Q a w:=by
 intro c
 induction c with
 | skip=>intro _ β σ k r a w Q hk h hQ; exact wp_skip (hQ .normal σ a w hk h)
 | region id ops draw=>intro _ β σ k r a w Q hk h hQ; exact In hG hk h (fun σ' a' w' hk' hs=>hQ .normal σ' a' w' hk' hs)
 | seq x y ihx ihy=>
  intro hL β σ k r a w Q hk h hQ
  refine wp_seq (ihx ⟨fun l hl=>hL.1 l (by simp [AR,hl]),fun l hl=>hL.2 l (by simp [Bc,hl])⟩ σ _ r a w _ hk h fun e σ' a' w' hk' hs=>?_)
  cases e with
  | normal=>exact Ep hm y _ (hL.2 (y,_) (by simp [Bc])) (ihy ⟨fun l hl=>hL.1 l (by simp [AR,hl]),fun l hl=>hL.2 l (by simp [Bc,hl])⟩) σ' k r a' w' Q hk' hs hQ
  | ret=>exact hQ .ret σ' a' w' hk' hs
  | exit n=>exact hQ (.exit n) σ' a' w' hk' hs
 | cond c x y ihx ihy=>
  intro hL β σ k r a w Q hk h hQ
  unfold BY at hk
  split at hk
  ·rename_i t ht
   obtain ⟨R,μ,g⟩:=h
   have hc:=Ay g c
   rw [ht] at hc
   have he:a.eval c = .bool t:=by
    generalize a.eval c=u at hc
    cases hc; rfl
   refine wp_cond he ?_
   cases t with
   | true=>exact Ep hm x _ (hL.2 (x,_) (by simp [Bc])) (ihx ⟨fun l hl=>hL.1 l (by simp [AR,hl]),fun l hl=>hL.2 l (by simp [Bc,hl])⟩) σ k r a w Q hk ⟨R,μ,g⟩ hQ
   | false=>exact Ep hm y _ (hL.2 (y,_) (by simp [Bc])) (ihy ⟨fun l hl=>hL.1 l (by simp [AR,hl]),fun l hl=>hL.2 l (by simp [Bc,hl])⟩) σ k r a w Q hk ⟨R,μ,g⟩ hQ
  ·rename_i ht
   obtain ⟨R,μ,g⟩:=h
   have hc:=Ay g c
   rw [ht] at hc
   have he : ∃ t,a.eval c = .bool t:=by
    generalize a.eval c=u at hc
    cases hc; exact ⟨_,rfl⟩
   obtain ⟨t,he⟩:=he
   refine wp_cond he ?_
   obtain ⟨hk1,hk2⟩:=Lc hk
   cases t with
   | true=>exact ihx ⟨fun l hl=>hL.1 l (by simp [AR,hl]),fun l hl=>hL.2 l (by simp [Bc,hl])⟩ σ k r a w Q hk1 ⟨R,μ,g⟩ hQ
   | false=>exact ihy ⟨fun l hl=>hL.1 l (by simp [AR,hl]),fun l hl=>hL.2 l (by simp [Bc,hl])⟩ σ k r a w Q hk2 ⟨R,μ,g⟩ hQ
  ·cases hk
 | block n x ih=>
  intro hL β σ k r a w Q hk h hQ
  refine wp_block (ih ⟨fun l hl=>hL.1 l (by simpa [AR] using hl),fun l hl=>hL.2 l (by simpa [Bc] using hl)⟩ σ _ r a w _ hk h fun e σ' a' w' hk' hs=>?_)
  cases e with
  | normal=>exact hQ .normal σ' a' w' hk' hs
  | ret=>exact hQ .ret σ' a' w' hk' hs
  | exit q=>
   dsimp only at hk'
   split at hk'
   ·rename_i hqn
    have:=eq_of_beq_eq_true hqn
    subst this
    simp only [Ex.exit',Exit.inBlock,if_true]
    exact hQ .normal σ' a' w' hk' hs
   ·rename_i hqn
    have hne:q≠n:=fun e=>by subst e; simp at hqn
    simp only [Ex.exit',Exit.inBlock,hne,if_false]
    exact hQ (.exit q) σ' a' w' hk' hs
 | loop x ih=>
  intro hL β σ k r a w Q hk h hQ
  unfold BY at hk
  split at hk
  ·rename_i ent hent
   split at hk
   case h_2=>cases hk
   rename_i hns
   have hns:=eq_of_beq_eq_true hns
   obtain ⟨⟨e,d'⟩,h1,h2⟩:=Br.k_some hk
   have hruns:=hL.1 x (by simp [AR]) ent hent _ e d' h1
   have key : ∀ d e d',Runs P Γ Λ m x ent d e d'->(∀ a' w',D6 E (CU ent.ns (ent.outs e) d') a' w'->Q e.exit' a' w')->∀ a w,D6 E (CU ent.ns ent.live d) a w->IU P x Q a w:=by
    intro d e d' hr
    induction hr with
    | stop d e d' h he=>
     intro hQ a w hs
     refine Gi (ih ⟨fun l hl=>hL.1 l (by simp [AR,hl]),fun l hl=>hL.2 l (by simp [Bc,hl])⟩ (CU ent.ns ent.live d) _ (e,d') a w _ h hs fun e2 σ2 a' w' hk' hs'=>?_)
     split at hk'
     case h_2=>cases hk'
     rename_i hln
     have hln:=eq_of_beq_eq_true hln
     simp only [Option.some.injEq,Prod.mk.injEq] at hk'
     obtain ⟨rfl,rfl⟩:=hk'
     have hs2:=fun lv=>Da (m:=m) (live:=lv) hm hs'
     rw [hln] at hs2
     cases e2 with
     | normal=>exact absurd rfl he
     | ret=>exact hQ a' w' (hs2 _)
     | exit n=>exact hQ a' w' (hs2 _)
    | step d d1 e d' h _ ihr=>
     intro hQ a w hs
     refine Gi (ih ⟨fun l hl=>hL.1 l (by simp [AR,hl]),fun l hl=>hL.2 l (by simp [Bc,hl])⟩ (CU ent.ns ent.live d) _ (Ex.normal,d1) a w _ h hs fun e2 σ2 a' w' hk' hs'=>?_)
     split at hk'
     case h_2=>cases hk'
     rename_i hln
     have hln:=eq_of_beq_eq_true hln
     simp only [Option.some.injEq,Prod.mk.injEq] at hk'
     obtain ⟨rfl,rfl⟩:=hk'
     have hs2:=fun lv=>Da (m:=m) (live:=lv) hm hs'
     rw [hln] at hs2
     exact ihr hQ a' w' (hs2 _)
   have hs0:=Da (m:=m) (live:=ent.live) hm h
   rw [hns] at hs0
   exact MB (key _ _ _ hruns (fun a' w' hs=>hQ e _ a' w' h2 hs) a w hs0)
  ·cases hk
 | scope x ih=>
  intro hL β σ k r a w Q hk h hQ
  refine wp_scope_straight (ih ⟨fun l hl=>hL.1 l (by simpa [AR] using hl),fun l hl=>hL.2 l (by simpa [Bc] using hl)⟩ σ k r a w _ hk h fun e σ' a' w' hk' hs=>?_)
  cases e<;>exact hQ _ σ' a' w' hk' hs
 | ret=>intro _ β σ k r a w Q hk h hQ; exact wp_ret (hQ .ret σ a w hk h)
 | exit n=>intro _ β σ k r a w Q hk h hQ; exact wp_exit (hQ (.exit n) σ a w hk h)
 | _=>intro _ β σ k r a w Q hk h hQ; simp only [BY] at hk; cases hk
end
end Go.Proofs.YthbecdipboideaaDoor.Den
/- A function does what its spec says. -/
namespace Go.Proofs.YthbecdipboideaaDoor.Den

section
variable {P:Program} {Γ:FuncId->Option Ent} {Λ:Nat->Option LoopEnt} {E:Env}

theorem Km {R:Nat->Prop} {μ:Nat->Option RB} {w:World} {bl:Nat->Option Blk} {t:TypeId} {a v:V} {ua u:Value} (ha:VRep w R μ a ua) (h:Dj P bl t a some=some v) (hr:(Instr.loadAt t ua).run P w = .ok u w):(do loadVar t (<-asAddr ua):Sem Value).run P w = .ok u w:=by
 unfold Dj at h
 split at h<;>first
  | (cases h; done)
  | (cases ha; simpa [Instr.loadAt,Instr.sureAddr,asAddr] using hr)

theorem FE {sl:List V} {bl:Nat->Option Blk} {β:Type} {r:β} : ∀ (rs:List ResultVar) (k:List V->Option β),DZ P sl bl rs k=some r->∃ vs,(∀ {γ:Type} (k:List V->Option γ),DZ P sl bl rs k=k vs)/\k vs=some r
 | [],k,h=>⟨[],fun _=>rfl,h⟩
 | .tmp t::rs,k,h=>by
  obtain ⟨vs,h1,h2⟩:=FE rs _ h
  exact ⟨_,fun k=>by simp only [DZ]; exact h1 _,h2⟩
 | .cell x t::rs,k,h=>by
  unfold DZ at h
  obtain ⟨v,h1,h2⟩:=G4 h
  obtain ⟨vs,h3,h4⟩:=FE rs _ h2
  exact ⟨v::vs,fun k=>by simp only [DZ]; rw [h1]; exact h3 _,h4⟩

def N4 (tmps:Array Value):ResultVar->Sem Value
 | .tmp t=>pure (tmps.getD t undef)
 | .cell x t=>do loadVar t (<-asAddr (tmps.getD x undef))
theorem Ih {R:Nat->Prop} {μ:Nat->Option RB} {sl:List V} {bl:Nat->Option Blk} {fr:Nat->Prop} {a:Act} {w:World} (h:SimAt E R μ sl bl fr a w) (t:Nat):VRep w R μ (sl.getD t .unk) (a.tmps.getD t undef):=Ay h (.tmp t)

theorem FD {R:Nat->Prop} {μ:Nat->Option RB} {sl:List V} {bl:Nat->Option Blk} {fr:Nat->Prop} {a:Act} {w:World} (h:SimAt E R μ sl bl fr a w) : ∀ (rs:List ResultVar) (vs:List V),DZ P sl bl rs some=some vs->
  ∃ us:List Value,(rs.mapM (N4 a.tmps)).run P w = .ok us w/\Reps w R μ vs us
 | [],vs,hk=>by simp [DZ] at hk; subst hk; exact ⟨[],rfl,.nil⟩
 | .tmp t::rs,vs,hk=>by
  obtain ⟨vs',h1,h2⟩:=FE rs _ hk
  simp at h2; subst h2
  obtain ⟨us,g1,g2⟩:=FD h rs vs' (h1 _)
  exact ⟨_,by simp only [List.mapM_cons,N4,Sem.run_bind,Sem.run_pure,Result.andThen_ok,g1],.cons (Ih h t) g2⟩
 | .cell x t::rs,vs,hk=>by
  unfold DZ at hk
  obtain ⟨v,h1,h2⟩:=G4 hk
  obtain ⟨vs',h3,h4⟩:=FE rs _ h2
  simp at h4; subst h4
  obtain ⟨us,g1,g2⟩:=FD h rs vs' (h3 _)
  obtain ⟨u,q1,q2⟩:=GU h.mem (Ih h x) (h1 some)
  have q3:=Km (Ih h x) (h1 some) q1
  refine ⟨u::us,?_,.cons q2 g2⟩
  have q4:(N4 a.tmps (.cell x t)).run P w = .ok u w:=q3
  simp only [List.mapM_cons,Sem.run_bind,q4,g1,Result.andThen_ok,Sem.run_pure]

theorem E8 {R:Nat->Prop} {μ:Nat->Option RB} {sl:List V} {bl:Nat->Option Blk} {fr:Nat->Prop} {a:Act} {w:World} {fn:Func} {vs:List V} (h:SimAt E R μ sl bl fr a w) (hk:DZ P sl bl fn.results.toList some=some vs) :
  ∃ u,(results fn a.tmps).run P w = .ok u w/\VRep w R μ (one vs) u:=by
 obtain ⟨us,g1,g2⟩:=FD h fn.results.toList vs hk
 have e0:results fn a.tmps=(do let vs <-fn.results.mapM (N4 a.tmps); pure (if h:vs.size=1 then vs[0] else .tuple vs)):=by
  unfold results
  congr 1
 have e1:(fn.results.mapM (N4 a.tmps)).run P w = .ok us.toArray w:=by
  rw [Array.mapM_eq_mapM_toList]
  simp only [Sem.run_map,g1,Result.andThen_ok]
 have e2:(results fn a.tmps).run P w = .ok (if h:us.toArray.size=1 then us.toArray[0] else .tuple us.toArray) w:=by
  rw [e0]
  simp only [Sem.run_bind,e1,Result.andThen_ok,Sem.run_pure]
 refine ⟨_,e2,?_⟩
 cases vs with
 | nil=>have:=g2.nil_inv; subst this; exact .tup [] #[] rfl (by simp)
 | cons v vs=>
  obtain ⟨u,us',rfl,r1,r2⟩:=g2.inv
  cases vs with
  | nil=>have:=r2.nil_inv; subst this; simpa [one] using r1
  | cons v2 vs=>
   obtain ⟨u2,us'',rfl,r3,r4⟩:=r2.inv
   have : ¬(u::u2::us'').toArray.size=1:=by simp
   rw [dif_neg this]
   exact .tup _ _ (by have:=r4.1; simp [this]) (fun j v u hv hu=>g2.2 j v u hv (by simpa using hu))

theorem EB (N:List (Option Blk)->List (Option Blk)) (hN : ∀ {w R μ bl r outs u w' R' μ'},Left w R μ bl r outs u w' R' μ'->Left w R μ bl r (N outs) u w' R' μ') (hG:Knows P Γ) {K:FuncId} {fn:Func} {c:Code} (hf:P.funcs[K]? = some fn) (hb:fn.body=some c) {F:List V->List Blk->Option (V×List (Option Blk))}
  (hF : ∀ vs bs r,F vs bs=some r->A6 P Γ Λ bs.length c/\(BY P Γ Λ bs.length c ⟨vs++replicate (fn.ntmps-vs.length) .unk,fun j=>bs[j]?,bs.length⟩ fun e σ=>
  match e with
  | .exit _=>none
  | _=>DZ P σ.sl σ.bl fn.results.toList fun rs=>some ((Eo bs.length σ.bl (one rs)).1,N (Eo bs.length σ.bl (one rs)).2))=some r):Ad P K F:=by
 intro w R μ vs us bs r outs hmem hnone hreps hFv
 obtain ⟨hL,hk⟩:=hF vs bs (r,outs) hFv
 refine calls_of_wp hf hb ?_
 let E:Env:=⟨w,ED w (fun j=>bs[j]?) μ,R,μ,Was w (fun j=>bs[j]?) μ⟩
 have hsim:D6 E ⟨vs++replicate (fn.ntmps-vs.length) .unk,fun j=>bs[j]?,bs.length⟩ { tmps:=us.toArray++Array.replicate (fn.ntmps-us.toArray.size) undef,defers:=[] } w:=by
  refine ⟨R,μ,hmem,?_,?_,rfl,hnone,rfl,rfl,rfl,le_refl _,fun _ _ _=>rfl,fun id B rb x h1 h2 h3 h4=>.inl ⟨id,B,rb,h1,h2,h3,h4⟩,fun id B rb x h1 h3 h4=>.inl ⟨id,B,rb,h1,h3,h4⟩,fun _ h=>h,fun _ h=>.inl h,fun _ _ h=>h⟩
  ·simp [hreps.1]
  ·intro t v u hv hu
   dsimp only at hv hu
   rw [List.getElem?_append] at hv
   rw [Array.getElem?_append] at hu
   simp only [List.size_toArray,hreps.1] at hu
   split at hv
   ·rename_i ht
    rw [if_pos ht] at hu
    exact hreps.2 t v u hv (by simpa using hu)
   ·have:v = .unk:=by
     rw [List.getElem?_replicate] at hv
     split at hv
     ·simp at hv; exact hv.symm
     ·cases hv
    subst this
    exact .unk u
 refine Hi hG (E:=E) (m:=bs.length) hnone c hL _ _ (r,outs) _ w _ hk hsim fun e σ' a' w' hk' hs=>?_
 have fin:DZ P σ'.sl σ'.bl fn.results.toList (fun rs=>some ((Eo bs.length σ'.bl (one rs)).1,N (Eo bs.length σ'.bl (one rs)).2))=some (r,outs)->(∃ v,(results fn a'.tmps).run P w' = .ok v w'/\∃ u R' μ',Ending.returned v = .returned u/\Left w R μ (fun j=>bs[j]?) r outs u w' R' μ')/\a'.defers=[]:=by
  intro hres
  obtain ⟨R',μ',g⟩:=hs
  obtain ⟨rs,h1,h2⟩:=FE _ _ hres
  obtain ⟨u,g1,g2⟩:=E8 (P:=P) (fn:=fn) g (h1 some)
  refine ⟨⟨u,g1,u,?_⟩,g.dfr⟩
  simp only [Option.some.injEq] at h2
  generalize one rs=v at g2 h2
  unfold Eo at h2
  dsimp only at h2
  simp only [Prod.mk.injEq] at h2
  obtain ⟨rfl,rfl⟩:=h2
  have hfirst : ∀ j,j<bs.length->(Ba σ'.bl 5 (A7 (range bs.length) (BW 6 v)) (A7 (range bs.length) (BW 6 v)))[j]? = some j:=fun j hj=>FV hj
  have hnd:(Ba σ'.bl 5 (A7 (range bs.length) (BW 6 v)) (A7 (range bs.length) (BW 6 v))).Nodup:=Ch _ _ _ _ (Bx _ _ nodup_range)
  generalize Ba σ'.bl 5 (A7 (range bs.length) (BW 6 v)) (A7 (range bs.length) (BW 6 v))=ids at hfirst hnd
  have hρ : ∀ id j rb,Bd ids id=some j->μ' id=some rb->(ids[j]?).bind μ'=some rb:=fun id j rb e1 e2=>by rw [Cw e1]; exact e2
  have outAt : ∀ j B,((ids.map fun id=>(σ'.bl id).map (BV (Bd ids)))[j]?).join=some B->∃ id B0,ids[j]? = some id/\σ'.bl id=some B0/\B=BV (Bd ids) B0:=fun j B h=>by
   rw [getElem?_map] at h
   cases e:ids[j]? with
   | none=>rw [e] at h; cases h
   | some id=>
    rw [e] at h
    simp only [map_some,join_some] at h
    obtain ⟨B0,k1,k2⟩:=map_eq_some_iff.1 h
    exact ⟨id,B0,e,k1,k2.symm⟩
  refine ⟨R',fun j=>(ids[j]?).bind μ',rfl,hN ⟨Cg hρ 6 v u g2,?_,g.os,g.tape,g.output,g.grow,fun k hk hn=>g.same k hk hn,g.r0,fun x hx=>g.rT x hx,?_,?_,?_,?_⟩⟩
  ·exact g.mem.renum (ρ:=Bd ids) hnd (fun j B hB=>by
    obtain ⟨id,B0,k1,k2,k3⟩:=outAt j B hB
    exact ⟨id,B0,k1,k2,by rw [k3,B7],fun rb hr=>by rw [k3]; exact hr,fun rb x hx=>by rw [k3] at hx; exact AF hx⟩) hρ
  ·intro j B rb x hB ho hmu hx
   obtain ⟨id,B0,k1,k2,k3⟩:=outAt j B hB
   rw [k1] at hmu
   exact g.ownT id B0 rb x k2 (by rw [k3,B7] at ho; exact ho) hmu (by rw [k3] at hx; exact AF hx)
  ·intro j B rb x hB hmu hx
   obtain ⟨id,B0,k1,k2,k3⟩:=outAt j B hB
   rw [k1] at hmu
   exact g.allT id B0 rb x k2 hmu (by rw [k3] at hx; exact AF hx)
  ·intro j rb hj
   have hjm:j<bs.length:=by
    rcases lt_or_ge j bs.length with h1 | h1
    ·exact h1
    ·rw [hnone j h1] at hj; cases hj
   rw [hfirst j hjm]
   exact g.ext j rb hj
  ·intro j hj
   have:ids[j]? = none:=getElem?_eq_none (by simpa using hj)
   rw [this]; rfl
 cases e with
 | normal=>
  obtain ⟨⟨v,h1,h2⟩,h3⟩:=fin hk'
  exact ⟨h3,v,h1,h2⟩
 | ret=>
  obtain ⟨⟨v,h1,h2⟩,h3⟩:=fin hk'
  exact ⟨h3,v,h1,h2⟩
 | exit n=>cases hk'

theorem Fz (hG:Knows P Γ) {K:FuncId} {fn:Func} {c:Code} (hf:P.funcs[K]? = some fn) (hb:fn.body=some c) {F:List V->List Blk->Option (V×List (Option Blk))}
  (hF : ∀ vs bs r,F vs bs=some r->A6 P Γ Λ bs.length c/\Bv P Γ Λ fn vs bs=some r):Ad P K F:=
 EB id (fun h=>h) hG hf hb (fun vs bs r h=>by
  obtain ⟨h1,h2⟩:=hF vs bs r h
  refine ⟨h1,?_⟩
  unfold Bv at h2
  rw [hb] at h2
  exact h2)
theorem BRep.noNl {w:World} {R:Nat->Prop} {μ:Nat->Option RB} {rb:RB} {B:Blk} (h:BRep w R μ rb B):BRep w R μ rb (noNl B):=by
 cases B with
 | box cs=>exact h
 | mp kc vc l=>exact h
 | row ro nl c l=>exact h.nl
 | drow c l op=>exact h
theorem Ek (B:Blk):(noNl B).own=B.own:=by cases B<;>rfl
theorem Left.noNl {w:World} {R:Nat->Prop} {μ:Nat->Option RB} {bl:Nat->Option Blk} {r:V} {outs:List (Option Blk)} {u:Value} {w':World} {R':Nat->Prop} {μ':Nat->Option RB} (h:Left w R μ bl r outs u w' R' μ'):Left w R μ bl r (outs.map fun o=>o.map noNl) u w' R' μ':=by
 have at' : ∀ j B,((outs.map fun o=>o.map Den.noNl)[j]?).join=some B->∃ B0,(outs[j]?).join=some B0/\B=Den.noNl B0:=fun j B hB=>by
  rw [getElem?_map] at hB
  cases e:outs[j]? with
  | none=>rw [e] at hB; cases hB
  | some o=>
   rw [e] at hB
   simp only [map_some,join_some] at hB
   obtain ⟨B0,k1,k2⟩:=map_eq_some_iff.1 hB
   exact ⟨B0,by rw [e]; exact k1,k2.symm⟩
 refine ⟨h.val,⟨?_,?_,?_,h.mem.rlt⟩,h.os,h.tape,h.output,h.grow,h.same,h.r0,h.rT,?_,?_,h.ext,fun j hj=>h.none j (by simpa using hj)⟩
 ·intro id B hB
  obtain ⟨B0,k1,rfl⟩:=at' id B hB
  obtain ⟨rb,g1,g2⟩:=h.mem.blk id B0 k1
  exact ⟨rb,g1,g2.noNl⟩
 ·intro id id' B B' rb rb' x h1 h2 o1 o2 m1 m2 e1 e2
  obtain ⟨B0,k1,rfl⟩:=at' id B h1
  obtain ⟨B0',k1',rfl⟩:=at' id' B' h2
  exact h.mem.inj id id' B0 B0' rb rb' x k1 k1' (by rwa [Ek] at o1) (by rwa [Ek] at o2) m1 m2 (Bn.1 e1) (Bn.1 e2)
 ·intro id B rb x h1 o1 m1 e1
  obtain ⟨B0,k1,rfl⟩:=at' id B h1
  exact h.mem.sep id B0 rb x k1 (by rwa [Ek] at o1) m1 (Bn.1 e1)
 ·intro j B rb x h1 o1 m1 e1
  obtain ⟨B0,k1,rfl⟩:=at' j B h1
  exact h.ownT j B0 rb x k1 (by rwa [Ek] at o1) m1 (Bn.1 e1)
 ·intro j B rb x h1 m1 e1
  obtain ⟨B0,k1,rfl⟩:=at' j B h1
  exact h.allT j B0 rb x k1 m1 (Bn.1 e1)
theorem H1 (hG:Knows P Γ) {K:FuncId} {fn:Func} {c:Code} (hf:P.funcs[K]? = some fn) (hb:fn.body=some c) {F:List V->List Blk->Option (V×List (Option Blk))}
  (hF : ∀ vs bs r,F vs bs=some r->A6 P Γ Λ bs.length c/\Gu P Γ Λ fn vs bs=some r):Ad P K F:=
 EB (fun outs=>outs.map fun o=>o.map noNl) Left.noNl hG hf hb (fun vs bs r h=>by
  obtain ⟨h1,h2⟩:=hF vs bs r h
  refine ⟨h1,?_⟩
  unfold Gu at h2
  rw [hb] at h2
  exact h2)
end
end Go.Proofs.YthbecdipboideaaDoor.Den
/- Arguments opened; a law's answer. -/
namespace Go.Proofs.YthbecdipboideaaDoor.Den
open Go.WideShapes Go.ChangeShapes Go.Deep Go.ChangeAt Go.RowKit
set_option linter.unusedVariables false

def IW:(c:Cd)->c.den->Prop
 | .int k=>fun n=>(Lit.int k n).wf=true
 | .bool=>fun _=>True
 | .str=>fun l=>l.length<=maxI
 | .slice c=>fun l=>l.length<=maxI/\∀ z∈l,IW c z
 | .unit=>fun _=>True
 | .pair a b=>fun z=>IW a z.1/\IW b z.2
 | .rose _=>fun _=>True
 | .tree _=>fun _=>True

section
variable (P:Program)
def Fm (ok:TypeId->Cd->Bool):List Field->Nat->Cd->Bool
 | [],_,.unit=>true
 | f::fs,off,.pair a b=>beq f.offset off&&ok f.type a&&beq (P.cellsOf f.type) a.size&&Fm ok fs (off+a.size) b
 | _,_,_=>false
def Gs:Nat->TypeId->Cd->Bool
 | 0,_,_=>false
 | d+1,t,c=>match P.underlying t with
  | some .bool=>(match c with | .bool=>true | _=>false)
  | some (.int k)=>(match c with | .int k'=>decide (k=k') | _=>false)
  | some .string=>(match c with | .str=>true | _=>false)
  | some (.slice e)=>(match c with | .slice c=>Gs d e c&&beq (P.cellsOf e) c.size&&blt 0 c.size | _=>false)
  | some (.struct fs)=>Fm P (Gs d) fs.toList 0 c&&beq (P.cellsOf t) c.size
  | _=>false
def Ra (t:TypeId) (c:Cd) (z:c.den):V:=match Gx P t with | some true=>.agg (enc c z) | _=>(enc c z).headD .unk
def Ql:List TypeId->(c:Cd)->c.den->List V
 | t::ts,.pair a b,z=>Ra P t a z.1::Ql ts b z.2
 | _,_,_=>[]
def Cv:List TypeId->Cd->Bool
 | [],.unit=>true
 | t::ts,.pair a b=>Gs P 8 t a&&Cv ts b
 | _,_=>false
end

section
variable {H:Type} {eh:TypeId×Value->H} {P:Program} {w:World} {base:Nat} {spare:Nat->Bool} {held:Bool}
abbrev ArgReps (w:World) (vs:List V) (us:List Value):Prop:=Reps w (fun b=>b<w.heap.size) (fun _=>none) vs us

theorem DN : ∀ (c:Cd) (z:c.den),(enc c z).length=c.size
 | .int _,_=>rfl
 | .bool,_=>rfl
 | .str,_=>rfl
 | .slice _,_=>rfl
 | .unit,_=>rfl
 | .pair a b,z=>by simp only [enc,List.length_append,DN a,DN b,Cd.size]
 | .rose c,z=>by simp only [enc,List.length_append,DN c,Cd.size,List.length_singleton]
 | .tree _,_=>rfl

theorem ArgReps.app {vs vs':List V} {us us':List Value} (h:ArgReps w vs us) (k:ArgReps w vs' us'):ArgReps w (vs++vs') (us++us'):=by
 refine ⟨by simp [h.1,k.1],fun j v u h1 h2=>?_⟩
 by_cases hj:j<vs.length
 ·rw [getElem?_append_left hj] at h1
  rw [getElem?_append_left (by rw [h.1]; exact hj)] at h2
  exact h.2 j v u h1 h2
 ·rw [getElem?_append_right (by omega)] at h1
  rw [getElem?_append_right (by rw [h.1]; omega),h.1] at h2
  exact k.2 _ v u h1 h2
theorem ArgReps.one {v:V} {u:Value} (h:VRep w (fun b=>b<w.heap.size) (fun _=>none) v u):ArgReps w [v] [u]:=by
 refine ⟨rfl,fun j v' u' h1 h2=>?_⟩
 cases j with
 | zero=>simp at h1 h2; subst h1 h2; exact h
 | succ j=>simp at h1

theorem LC {ok:TypeId->Cd->Bool} {n:Nat} {cs:List Value}
  (hok : ∀ t c,ok t c=true->∀ {cs x},DataW.trod eh P w base spare held n t cs=some x->∃ z,IW c z/\ArgReps w (enc c z) cs) :
  ∀ (fs:List Field) (off:Nat) (c:Cd),Fm P ok fs off c=true->(∀ f∈fs,∃ x,DataW.trod eh P w base spare held n f.type ((cs.drop f.offset).take (P.cellsOf f.type))=some x)->∃ z,IW c z/\ArgReps w (enc c z) ((cs.drop off).take c.size)
 | [],off,.unit,_,_=>⟨(),trivial,by simp only [enc,Cd.size,List.take_zero]; exact Reps.nil⟩
 | f::fs,off,.pair a b,h,hx=>by
  simp only [Fm,and_eq_true] at h
  obtain ⟨⟨⟨h1,h2⟩,h3⟩,h4⟩:=h
  have h1:=eq_of_beq_eq_true h1
  have h3:=eq_of_beq_eq_true h3
  obtain ⟨x,hx1⟩:=hx f (by simp)
  obtain ⟨z,gz,rz⟩:=hok f.type a h2 hx1
  obtain ⟨z',gz',rz'⟩:=LC hok fs (off+a.size) b h4 (fun f hf=>hx f (by simp [hf]))
  refine ⟨(z,z'),⟨gz,gz'⟩,?_⟩
  rw [h1,h3] at rz
  have:=rz.app rz'
  simp only [enc,Cd.size]
  rw [List.take_add,List.drop_drop]
  exact this
 | [],_,.int _,h,_=>by simp [Fm] at h
 | [],_,.bool,h,_=>by simp [Fm] at h
 | [],_,.str,h,_=>by simp [Fm] at h
 | [],_,.slice _,h,_=>by simp [Fm] at h
 | [],_,.pair _ _,h,_=>by simp [Fm] at h
 | _::_,_,.int _,h,_=>by simp [Fm] at h
 | _::_,_,.bool,h,_=>by simp [Fm] at h
 | _::_,_,.str,h,_=>by simp [Fm] at h
 | _::_,_,.slice _,h,_=>by simp [Fm] at h
 | _::_,_,.unit,h,_=>by simp [Fm] at h

theorem G1 : ∀ (d:Nat) (t:TypeId) (c:Cd),Gs P d t c=true->∀ {fuel:Nat} {cs:List Value} {x:DataW H×List MemPlace},DataW.trod eh P w base spare held fuel t cs=some x->∃ z,IW c z/\ArgReps w (enc c z) cs
 | 0,t,c,h=>by simp [Gs] at h
 | d+1,t,c,h=>by
  intro hx
  unfold Gs at h
  split at h
  ·rename_i ht
   split at h
   ·obtain ⟨b,rfl,_⟩:=DataW.trod_bool ht hx
    exact ⟨b,trivial,.one (.b _)⟩
   ·simp at h
  ·rename_i k ht
   split at h
   ·rename_i k'
    have hk:k=k':=of_decide_eq_true h
    subst hk
    obtain ⟨n,rfl,_,hw⟩:=DataW.trod_int ht hx
    exact ⟨n,hw,.one (.i _ _)⟩
   ·simp at h
  ·rename_i ht
   split at h
   ·obtain ⟨s,rfl,_,hl⟩:=DataW.trod_string ht hx
    have hl2:s.data.toList.length<=maxI:=le_trans (Nat.le_of_eq Array.length_toList) hl
    refine ⟨s.data.toList,hl2,.one ?_⟩
    have:=VRep.s (w:=w) (R:=fun b=>b<w.heap.size) (μ:=fun _=>none) s.data.toList
    simpa using this
   ·simp at h
  ·rename_i e ht
   split at h
   ·rename_i c
    simp only [and_eq_true] at h
    obtain ⟨⟨h1,h2⟩,h3⟩:=h
    have hk:=eq_of_beq_eq_true h2
    have hk0:0<c.size:=Nat.le_of_ble_eq_true h3
    have hmax:maxLen=maxI:=rfl
    rcases open_slice ht hx with ⟨rfl,_⟩ | ⟨a,len,cap,m,n,D,Pl,rfl,hb,hl,hm,hmm,_,hx⟩
    ·refine ⟨[],⟨by simp,by simp⟩,.one ?_⟩
     exact .sl c [] none 0 (fun _ _=>.bool false) (by simp) (by simp) (.inl rfl) (by simp)
    ·have hlm:len<=m:=by rw [hmm]; split<;>omega
     rw [hk] at hx
     by_cases h0:len=0
     ·subst h0
      refine ⟨[],⟨by simp,by simp⟩,.one ?_⟩
      exact .sl c [] (some a) cap (fun _ _=>.bool false) (by simp) (by omega) (.inl rfl) (by simp)
     have hin:Nonempty (c.den×List Value):=by
      obtain ⟨cs',h4,h5⟩:=hx 0 (by omega)
      obtain ⟨z,_,_⟩:=G1 d e c h1 h5
      exact ⟨(z,cs')⟩
     have hin2:Inhabited (c.den×List Value):=⟨Classical.choice hin⟩
     obtain ⟨Z,hZ⟩:=choose_lt (n:=len) (α:=c.den×List Value) (p:=fun i z=>IW c z.1/\ArgReps w (enc c z.1) z.2/\∀ j,j<c.size->w.cell? (a.add (i*c.size+j))=z.2[j]?) (fun i hi=>by
      obtain ⟨cs',h4,h5⟩:=hx i (by omega)
      obtain ⟨_,hcl,hat⟩:=World.cells?_some h4
      obtain ⟨z,hg,hr⟩:=G1 d e c h1 h5
      exact ⟨(z,cs'),hg,hr,fun j hj=>by rw [<-hat j hj,add_add]⟩)
     have hlenZ : ∀ i,i<len->(Z i).2.length=c.size:=fun i hi=>by rw [(hZ i hi).2.1.1,DN]
     have hc0:=(hZ 0 (by omega)).2.2 0 hk0
     have ha:a.add (0*c.size+0)=a:=by simp [Addr.add]
     rw [ha,getElem?_eq_getElem (by rw [hlenZ 0 (by omega)]; exact hk0)] at hc0
     have hsp:a=⟨a.block,a.off,none⟩:=by
      obtain ⟨b,off,spot⟩:=a
      cases spot with
      | none=>rfl
      | some s=>
       unfold World.cell? at hc0
       split at hc0<;>simp at hc0
     have hblk:a.block<w.heap.size:=by
      unfold World.cell? at hc0
      split at hc0
      ·rename_i q _ _ hq; exact lt_of_block hq
      ·simp at hc0
     refine ⟨(range len).map fun i=>(Z i).1,⟨by simp; omega,?_⟩,.one ?_⟩
     ·intro z hz
      obtain ⟨i,hi,rfl⟩:=List.mem_map.1 hz
      exact (hZ i (List.mem_range.1 hi)).1
     ·have hl':((range len).map fun i=>(Z i).1).length=len:=by simp
      have hget : ∀ i z,((range len).map fun i=>(Z i).1)[i]? = some z->i<len/\z=(Z i).1:=by
       intro i z hz
       have hi:i<len:=by rw [<-hl']; exact (List.getElem?_eq_some_iff.1 hz).1
       refine ⟨hi,?_⟩
       simp [hi] at hz
       exact hz.symm
      have key:=VRep.sl (w:=w) (R:=fun b=>b<w.heap.size) (μ:=fun _=>none) c ((range len).map fun i=>(Z i).1) (some a) cap (fun i j=>(Z i).2.getD j (.bool false)) (by rw [hl']; exact hl) (by omega)
       (.inr ⟨a.block,a.off,by rw [<-hsp],hblk,?_⟩) ?_
      ·rw [hl'] at key; exact key
      ·intro i z j v hz hv
       obtain ⟨hi,rfl⟩:=hget i z hz
       have hj:j<c.size:=by rw [<-DN c (Z i).1]; exact (List.getElem?_eq_some_iff.1 hv).1
       have:=(hZ i hi).2.2 j hj
       rw [getElem?_eq_getElem (by rw [hlenZ i hi]; exact hj)] at this
       have e2:a.add (i*c.size+j)=⟨a.block,a.off+(i*c.size+j),none⟩:=by rw [hsp]; exact AL _ _ _
       rw [<-e2,this]
       simp [getD_eq_getElem?_getD,getElem?_eq_getElem (l:=(Z i).2) (i:=j) (by rw [hlenZ i hi]; exact hj)]
      ·intro i z j v hz hv
       obtain ⟨hi,rfl⟩:=hget i z hz
       have hj:j<c.size:=by rw [<-DN c (Z i).1]; exact (List.getElem?_eq_some_iff.1 hv).1
       refine (hZ i hi).2.1.2 j v _ hv ?_
       simp [getD_eq_getElem?_getD,getElem?_eq_getElem (l:=(Z i).2) (i:=j) (by rw [hlenZ i hi]; exact hj)]
   ·simp at h
  ·rename_i fs ht
   simp only [and_eq_true] at h
   obtain ⟨h1,h2⟩:=h
   have h2:=eq_of_beq_eq_true h2
   obtain ⟨xs,n,_,_,hcl,hlen,hg⟩:=DataW.trod_struct ht hx
   obtain ⟨z,gz,rz⟩:=LC (fun t c h=>@G1 d t c h n) fs.toList 0 c h1 (fun f hf=>by
    obtain ⟨i,hi,rfl⟩:=getElem_of_mem hf
    simp at hi
    have:=hg i fs[i] (by simp [hi])
    rw [getElem?_eq_getElem (by omega)] at this
    exact ⟨_,by simpa using this⟩)
   refine ⟨z,gz,?_⟩
   rw [List.drop_zero,List.take_of_length_le (by omega)] at rz
   exact rz
  ·simp at h

theorem Of {d:Nat} {t:TypeId} {c:Cd} (h:Gs P d t c=true):(Gx P t=some true/\∃ fs,P.underlying t=some (.struct fs))\/(Gx P t=some false/\c.size=1):=by
 cases d with
 | zero=>simp [Gs] at h
 | succ d=>
  unfold Gs at h
  unfold Gx
  split at h
  ·rename_i ht; rw [ht]; right; split at h; exact ⟨rfl,rfl⟩; simp at h
  ·rename_i ht; rw [ht]; right; split at h; exact ⟨rfl,rfl⟩; simp at h
  ·rename_i ht; rw [ht]; right; split at h; exact ⟨rfl,rfl⟩; simp at h
  ·rename_i ht; rw [ht]; right; split at h; exact ⟨rfl,rfl⟩; simp at h
  ·rename_i fs ht; rw [ht]; left; exact ⟨rfl,fs,rfl⟩
  ·simp at h

theorem NW {r:Reach} {b0:Nat} {d:Nat} {t:TypeId} {c:Cd} {v:Value} {dw:DataW H} {p:List MemPlace} (h:Gs P d t c=true) (hv:Value.okWide P w r b0 t v) (hx:DataW.Trod eh P w base spare held t v dw p) :
  ∃ z,IW c z/\VRep w (fun b=>b<w.heap.size) (fun _=>none) (Ra P t c z) v:=by
 obtain ⟨fuel,hf⟩:=hx
 obtain ⟨z,gz,rz⟩:=G1 d t c h hf
 refine ⟨z,gz,?_⟩
 unfold Ra
 rcases Of h with ⟨ha,fs,hs⟩ | ⟨ha,h1⟩
 ·rw [ha]
  obtain ⟨cs,rfl,hsz⟩:=okWide_struct hs hv
  dsimp only
  have e:(Value.agg cs).cells=cs:=rfl
  rw [e] at rz
  exact .agg _ _ (by simpa using rz.1) (fun j v u h1 h2=>rz.2 j v u h1 (by simpa using h2))
 ·rw [ha]
  dsimp only
  have hl:(enc c z).length=1:=by rw [DN,h1]
  match hh:enc c z,hl with
  | [v1],_=>
   rw [hh] at rz
   have hcl:=rz.1
   simp only [List.headD]
   have hna : ∀ u,v.cells.toList[0]? = some u->VRep w (fun b=>b<w.heap.size) (fun _=>none) v1 u:=fun u hu=>rz.2 0 v1 u rfl hu
   cases v with
   | agg cs=>
    exfalso
    cases d with
    | zero=>simp [Gs] at h
    | succ d=>
     unfold Gs at h
     split at h
     ·rename_i ht; obtain ⟨_,e⟩:=okWide_bool ht hv; cases e
     ·rename_i ht; obtain ⟨_,e⟩:=okWide_int ht hv; cases e
     ·rename_i ht; obtain ⟨_,e⟩:=okWide_string ht hv; cases e
     ·rename_i ht; obtain ⟨_,_,_,e⟩:=okWide_slice ht hv; cases e
     ·rename_i ht; simp [Gx,ht] at ha
     ·simp at h
   | _=>exact hna _ (by simp [Value.cells])

theorem open_args {r:Reach} {b0:Nat} : ∀ (ts:List TypeId) (c:Cd) {vs:List Value} {ds:List (DataW H)} {ps:List MemPlace},Cv P ts c=true->(∀ (j:Nat) t v,ts[j]? = some t->vs[j]? = some v->Value.okWide P w r b0 t v)->
  DataW.TrodAll eh P w base spare held ts vs ds ps->∃ z,IW c z/\ArgReps w (Ql P ts c z) vs
 | [],.unit,vs,ds,ps,_,_,h=>by
  obtain ⟨rfl,_,_⟩:=trodAll_nil h
  exact ⟨(),trivial,Reps.nil⟩
 | t::ts,.pair a b,vs,ds,ps,hok,hv,h=>by
  simp only [Cv,and_eq_true] at hok
  obtain ⟨v,vs',d,ds',p,q,rfl,rfl,rfl,h1,h2⟩:=trodAll_cons h
  obtain ⟨z,gz,rz⟩:=NW hok.1 (hv 0 t v rfl rfl) h1
  obtain ⟨z',gz',rz'⟩:=open_args ts b hok.2 (fun j t v h3 h4=>hv (j+1) t v (by simpa using h3) (by simpa using h4)) h2
  exact ⟨(z,z'),⟨gz,gz'⟩,(ArgReps.one rz).app rz'⟩
 | [],.int _,_,_,_,h,_,_=>by simp [Cv] at h
 | [],.bool,_,_,_,h,_,_=>by simp [Cv] at h
 | [],.str,_,_,_,h,_,_=>by simp [Cv] at h
 | [],.slice _,_,_,_,h,_,_=>by simp [Cv] at h
 | [],.pair _ _,_,_,_,h,_,_=>by simp [Cv] at h
 | _::_,.int _,_,_,_,h,_,_=>by simp [Cv] at h
 | _::_,.bool,_,_,_,h,_,_=>by simp [Cv] at h
 | _::_,.str,_,_,_,h,_,_=>by simp [Cv] at h
 | _::_,.slice _,_,_,_,h,_,_=>by simp [Cv] at h
 | _::_,.unit,_,_,_,h,_,_=>by simp [Cv] at h

theorem law_calls {Γ:FuncId->Option Ent} {Λ:Nat->Option LoopEnt} (hG:Knows P Γ) {K:FuncId} {fn:Func} {c:Code} (hf:P.funcs[K]? = some fn) (hb:fn.body=some c) (hL:A6 P Γ Λ 0 c)
  {vs:List V} {us:List Value} (hr:ArgReps w vs us) (hk:Bv P Γ Λ fn vs []=some (.b true,[])) :
  Calls P K us.toArray w fun e w'=>e = .returned (.bool true)/\Below w.heap.size w w':=by
 have hC:=Fz hG hf hb (Λ:=Λ) (F:=fun vs bs=>match bs with | []=>Bv P Γ Λ fn vs [] | _=>none) (fun vs bs r h=>by
  cases bs with
  | nil=>exact ⟨hL,h⟩
  | cons=>cases h)
 refine (hC w (fun b=>b<w.heap.size) (fun _=>none) vs us [] (.b true) [] ⟨?_,?_,?_,fun _ h=>h⟩ (fun _ _=>rfl) hr hk).mono ?_
 ·intro id B h; simp at h
 ·intro id id' B B' rb rb' x h; simp at h
 ·intro id B rb x h; simp at h
 ·rintro e w' ⟨u,R',μ',rfl,hl⟩
  obtain rfl:u = .bool true:=by cases hl.val; rfl
  refine ⟨rfl,hl.os,hl.tape,hl.output,hl.grow,fun k hk=>hl.same k hk ?_⟩
  rintro ⟨j,B,rb,h,_⟩
  simp at h

theorem trodAll_stays {eh:TypeId×Value->H} {W W':World} (hl:laidOutB P=true) (hb:Below W.heap.size W W') : ∀ (ts:List TypeId) {vs:List Value} {ds:List (DataW H)} {ps:List MemPlace},(ts.all fun t=>P.readableRec t&&decide (t<P.types.size))=true->
  DataW.TrodAll eh P W 0 (fun _=>true) true ts vs ds ps->DataW.TrodAll eh P W' 0 (fun b=>decide (b<W.heap.size)) true ts vs ds ps
 | [],vs,ds,ps,_,h=>by
  obtain ⟨rfl,rfl,rfl⟩:=trodAll_nil h
  exact trodAll_mk0
 | t::ts,vs,ds,ps,hok,h=>by
  simp only [all_cons,and_eq_true] at hok
  obtain ⟨v,vs',d,ds',p,q,rfl,rfl,rfl,h1,h2⟩:=trodAll_cons h
  exact trodAll_cons_mk (Below.trod hl hok.1.1 (of_decide_eq_true hok.1.2) h1 hb (by obtain ⟨m,hm⟩:=h1; exact DataW.trod_lt m _ _ _ hm)) (trodAll_stays hl hb ts hok.2 h2)
end
end Go.Proofs.YthbecdipboideaaDoor.Den
/- What every call may lean on: slices are no longer than a number can say. Γ and Λ from lists. -/
namespace Go.Proofs.YthbecdipboideaaDoor.Den
set_option linter.unusedVariables false

inductive fitR {α:Type}:Rose α->Prop
 | mk (a:α) (ks:List (Rose α)) (h1:ks.length<=maxI) (h2 : ∀ z∈ks,fitR z):fitR (.node a ks)
def Li:(c:Cd)->c.den->Prop
 | .slice c=>fun l=>l.length<=maxI/\∀ z∈l,Li c z
 | .pair a b=>fun z=>Li a z.1/\Li b z.2
 | .rose _=>fun z=>fitR z
 | .tree _=>fun z=>fitR z
 | _=>fun _=>True
def OH:V->Prop
 | .sl c l=>l.length<=maxI/\∀ z∈l,Li c z
 | .ref _ _ n=>n<=maxI
 | .tp _ z _=>fitR z
 | _=>True
def H4:V->Prop
 | .agg cs=>∀ v∈cs,OH v
 | v=>OH v
def H5:Blk->Prop
 | .row _ _ c l=>l.length<=maxI/\∀ z∈l,Li c z
 | .box cs=>∀ v∈cs,OH v
 | .mp _ _ _=>True
 | .drow c l none=>l.length<=maxI/\∀ z∈l,Li c z
 | .drow _ _ (some _)=>True

theorem F1 : ∀ (c:Cd) (z:c.den),(∀ v∈enc c z,OH v)->Li c z
 | .int _,_,_=>trivial
 | .bool,_,_=>trivial
 | .str,_,_=>trivial
 | .unit,_,_=>trivial
 | .slice c,l,h=>h (.sl c l) (by simp [enc])
 | .pair a b,z,h=>⟨F1 a z.1 (fun v hv=>h v (by simp [enc,hv])),F1 b z.2 (fun v hv=>h v (by simp [enc,hv]))⟩
 | .rose c,.node a ks,h=>by
  have h1:ks.length<=maxI/\∀ z∈ks,fitR z:=h (.sl (.rose c) ks) (by simp [enc,Rose.kids])
  exact .mk a ks h1.1 h1.2
 | .tree c,z,h=>h (.tp c z 0) (by simp [enc])

theorem VRep.fit1 {w:World} {R:Nat->Prop} {μ:Nat->Option RB} {v:V} {u:Value} (h:VRep w R μ v u):OH v:=by
 induction h with
 | sl c l ao cap U h1 h2 h3 _ ih=>
  refine ⟨le_trans h1 h2,fun z hz=>F1 c z fun v hv=>?_⟩
  obtain ⟨i,hi,rfl⟩:=getElem_of_mem hz
  obtain ⟨j,hj,rfl⟩:=getElem_of_mem hv
  exact ih i l[i] j _ (by simp [hi]) (by simp [hj])
 | vac=>exact zero_le _
 | ref id lo n b off k cap len a h h0 h1 h2 h3=>show n<=maxI; omega
 | tp c z o b U h1 h3 _ ih=>
  cases z with
  | node x ks=>
  have h2:ks.length<=maxI/\∀ z∈ks,fitR z:=ih (IK c (.node x ks)).length.pred (.sl (.tree c) ks) (by simp [IK,Rose.kids])
  exact .mk x ks h2.1 h2.2
 | _=>trivial
theorem VRep.fit {w:World} {R:Nat->Prop} {μ:Nat->Option RB} {v:V} {u:Value} (h:VRep w R μ v u):H4 v:=by
 cases h with
 | agg cs us h1 h2=>
  intro v hv
  obtain ⟨j,hj,rfl⟩:=getElem_of_mem hv
  exact (h2 j cs[j] us[j] (by simp [hj]) (by simp [h1,hj])).fit1
 | sl c l ao cap U h1 h2 h3 h4=>exact VRep.fit1 (.sl c l ao cap U h1 h2 h3 h4)
 | vac=>exact zero_le _
 | ref id lo n b off k cap len a h h0 h1 h2 h3=>show n<=maxI; omega
 | tp c z o b U h1 h3 h4=>exact VRep.fit1 (.tp c z o b U h1 h3 h4)
 | _=>trivial

theorem BRep.fit {w:World} {R:Nat->Prop} {μ:Nat->Option RB} {rb:RB} {B:Blk} (h:BRep w R μ rb B):H5 B:=by
 cases h with
 | box b cs us e h h1 h2=>
  intro v hv
  obtain ⟨j,hj,rfl⟩:=getElem_of_mem hv
  exact (h2 j cs[j] us[j] (by simp [hj]) (by simp [h1,hj])).fit1
 | vac ao ro nl c=>exact ⟨zero_le _,by simp⟩
 | mp=>trivial
 | dvac ao c=>exact ⟨zero_le _,by simp⟩
 | drow b off k cap len c l op us e hk h h1 h2 h3 h4 h5 h6 h7=>
  cases op with
  | some p=>trivial
  | none=>
   refine ⟨by omega,fun z hz=>F1 c z fun v hv=>?_⟩
   obtain ⟨i,hi,rfl⟩:=getElem_of_mem hz
   obtain ⟨j,hj,rfl⟩:=getElem_of_mem hv
   obtain ⟨u,_,hu⟩:=h4 i _ j _ (BM (getElem?_eq_getElem hi)) (getElem?_eq_getElem hj)
   generalize (enc c l[i])[j]=v at hu
   cases v with
   | sl c1 l1=>
    have:=Nest.held (R:=fun _=>True) (μ:=fun _=>none) (show Nest w c1 l1 u from hu) (fun _ _ _ _=>trivial)
    exact this.fit1
   | _=>exact VRep.fit1 hu
 | row b off k cap len ro nl c l us e hk h h1 h2 h3 h4 h5=>
  refine ⟨by omega,fun z hz=>F1 c z fun v hv=>?_⟩
  obtain ⟨i,hi,rfl⟩:=getElem_of_mem hz
  obtain ⟨j,hj,rfl⟩:=getElem_of_mem hv
  obtain ⟨u,_,hu⟩:=h4 i l[i] j _ (getElem?_eq_getElem hi) (getElem?_eq_getElem hj)
  exact hu.fit1

theorem EC {P:Program} {Γ:FuncId->Option Ent} {Λ:Nat->Option LoopEnt} (hG:Knows P Γ) {K:FuncId} {fn:Func} {c:Code} (hf:P.funcs[K]? = some fn) (hb:fn.body=some c) {F:List V->List Blk->Option (V×List (Option Blk))}
  (hF : ∀ vs bs r,F vs bs=some r->(∀ v∈vs,H4 v)->(∀ b∈bs,H5 b)->A6 P Γ Λ bs.length c/\Bv P Γ Λ fn vs bs=some r):Ad P K F:=by
 classical
 have key:=Fz hG hf hb (Λ:=Λ) (F:=fun vs bs=>if (∀ v∈vs,H4 v)/\∀ b∈bs,H5 b then F vs bs else none) (fun vs bs r h=>by
  split at h
  ·rename_i hh; exact hF vs bs r h hh.1 hh.2
  ·cases h)
 intro w R μ vs us bs r outs hmem hnone hreps hFv
 refine key w R μ vs us bs r outs hmem hnone hreps ?_
 have h1 : ∀ v∈vs,H4 v:=fun v hv=>by
  obtain ⟨j,hj,rfl⟩:=getElem_of_mem hv
  have hj':j<us.length:=by rw [hreps.1]; exact hj
  exact (hreps.2 j vs[j] us[j] (by simp [hj]) (by simp [hj'])).fit
 have h2 : ∀ b∈bs,H5 b:=fun b hb=>by
  obtain ⟨j,hj,rfl⟩:=getElem_of_mem hb
  obtain ⟨rb,_,h⟩:=hmem.blk j bs[j] (by simp [hj])
  exact h.fit
 dsimp only
 rw [if_pos ⟨h1,h2⟩]
 exact hFv

theorem Hc {P:Program} {Γ:FuncId->Option Ent} {Λ:Nat->Option LoopEnt} (hG:Knows P Γ) {K:FuncId} {fn:Func} {c:Code} (hf:P.funcs[K]? = some fn) (hb:fn.body=some c) {F:List V->List Blk->Option (V×List (Option Blk))}
  (hF : ∀ vs bs r,F vs bs=some r->(∀ v∈vs,H4 v)->(∀ b∈bs,H5 b)->A6 P Γ Λ bs.length c/\Gu P Γ Λ fn vs bs=some r):Ad P K F:=by
 classical
 have key:=H1 hG hf hb (Λ:=Λ) (F:=fun vs bs=>if (∀ v∈vs,H4 v)/\∀ b∈bs,H5 b then F vs bs else none) (fun vs bs r h=>by
  split at h
  ·rename_i hh; exact hF vs bs r h hh.1 hh.2
  ·cases h)
 intro w R μ vs us bs r outs hmem hnone hreps hFv
 refine key w R μ vs us bs r outs hmem hnone hreps ?_
 have h1 : ∀ v∈vs,H4 v:=fun v hv=>by
  obtain ⟨j,hj,rfl⟩:=getElem_of_mem hv
  have hj':j<us.length:=by rw [hreps.1]; exact hj
  exact (hreps.2 j vs[j] us[j] (by simp [hj]) (by simp [hj'])).fit
 have h2 : ∀ b∈bs,H5 b:=fun b hb=>by
  obtain ⟨j,hj,rfl⟩:=getElem_of_mem hb
  obtain ⟨rb,_,h⟩:=hmem.blk j bs[j] (by simp [hj])
  exact h.fit
 dsimp only
 rw [if_pos ⟨h1,h2⟩]
 exact hFv

def Ab {α:Type}:List (Nat×α)->Nat->Option α
 | [],_=>none
 | (k,a)::l,j=>match beq k j with | true=>some a | false=>Ab l j
theorem GS {α:Type} : ∀ {l:List (Nat×α)} {j:Nat} {a:α},Ab l j=some a->(j,a)∈l
 | [],j,a,h=>by cases h
 | (k,b)::l,j,a,h=>by
  unfold Ab at h
  split at h
  ·rename_i e; have:=eq_of_beq_eq_true e; subst this; simp at h; simp [h]
  ·exact List.mem_cons_of_mem _ (GS h)
inductive KnowsL (P:Program):List (FuncId×Ent)->Prop
 | nil:KnowsL P []
 | cons {f:FuncId} {e:Ent} {l:List (FuncId×Ent)} (h1 : ∀ (args:Array Value) (W:World),(callFunc f args).run P W = .ok (.enter f args) W) (h2:Ad P f e.F) (h:KnowsL P l):KnowsL P ((f,e)::l)
theorem KnowsL.mem {P:Program} {l:List (FuncId×Ent)} (h:KnowsL P l) : ∀ f e,(f,e)∈l->(∀ (args:Array Value) (W:World),(callFunc f args).run P W = .ok (.enter f args) W)/\Ad P f e.F:=by
 induction h with
 | nil=>intro f e h; cases h
 | cons h1 h2 _ ih=>
  intro f e h
  rcases mem_cons.1 h with h | h
  ·cases h; exact ⟨h1,h2⟩
  ·exact ih f e h
theorem KnowsL.knows {P:Program} {l:List (FuncId×Ent)} (h:KnowsL P l):Knows P (Ab l):=
 ⟨fun f e hf=>(h.mem f e (GS hf)).1,fun f e hf=>(h.mem f e (GS hf)).2⟩
theorem GT {α:Type} : ∀ {l:List (Nat×α)},(l.all fun x=>blt x.1 1000000)=true->∀ j,1000000<=j->Ab l j=none
 | [],_,j,_=>rfl
 | (k,a)::l,h,j,hj=>by
  rw [all_cons,and_eq_true] at h
  have h1:k<1000000:=by have:=h.1; rwa [Nat.blt_eq] at this
  unfold Ab
  have:beq k j=false:=by
   cases e:beq k j with
   | false=>rfl
   | true=>have:=eq_of_beq_eq_true e; omega
  rw [this]
  exact GT h.2 j hj
theorem Ke : ∀ (c:Code) (x:Code×Nat),x∈Bc c->1000000<=x.2:=by
 intro c
 induction c with
 | seq a b iha ihb=>
  intro x hx
  simp only [Bc,mem_append,mem_cons] at hx
  rcases hx with h | rfl | h
  ·exact iha x h
  ·exact Nat.le_add_left QU _
  ·exact ihb x h
 | cond q a b iha ihb=>
  intro x hx
  simp only [Bc,mem_append,mem_cons] at hx
  rcases hx with rfl | rfl | h | h
  ·exact le_trans (show 1000000<=PT by decide) (Nat.le_add_left PT _)
  ·exact le_trans (show 1000000<=PS by decide) (Nat.le_add_left PS _)
  ·exact iha x h
  ·exact ihb x h
 | block n a ih=>intro x hx; exact ih x hx
 | scope a ih=>intro x hx; exact ih x hx
 | loop a ih=>intro x hx; exact ih x hx
 | _=>intro x hx; cases hx
theorem Ar {P:Program} {Γ:FuncId->Option Ent} {c:Code} (m:Nat):A6 P Γ (Ab []) m c:=⟨fun a _ ent h=>(by cases h),fun a _ ent h=>(by cases h)⟩
theorem Az {P:Program} {Γ:FuncId->Option Ent} {c a:Code} {n:Nat} {ent:LoopEnt} {m:Nat} (hc:AR c=[a]) (h : ∀ d e d',(ent.L d).run=some (e,d')->Runs P Γ (Ab [(n,ent)]) m a ent d e d') (hn:blt n 1000000=true:=by rfl):A6 P Γ (Ab [(n,ent)]) m c:=by
 refine ⟨?_,fun x hx ent he=>?_⟩
 ·intro a' ha ent' he d e d' hd
  rw [hc] at ha
  simp at ha
  subst ha
  unfold Ab at he
  split at he
  ·simp at he; subst he; exact h d e d' hd
  ·cases he
 ·rw [GT (by rw [all_cons,hn]; rfl) _ (Ke c x hx)] at he; cases he

theorem MS {P:Program} {K:FuncId} {fn:Func} (hf:P.funcs[K]? = some fn) (hn:(fn.name == "runtime.NumGoroutine")=false) (hb:fn.body.isNone=false) (args:Array Value) (W:World):(callFunc K args).run P W = .ok (.enter K args) W:=by
 have h1:fn.name ≠ "runtime.NumGoroutine" := by simpa using hn
 have h2:fn.body≠none:=by intro e; rw [e] at hb; cases hb
 simp [callFunc,go_sem,hf,h1,h2]
def body (f:Func) (i:Nat):Code:=(AR (f.body.getD .skip)).getD i .skip
@[simp] theorem A4 {β:Type} {a b:Option β}:ifB true a b=a:=rfl
@[simp] theorem A1 {β:Type} {a b:Option β}:ifB false a b=b:=rfl
@[simp] theorem HU {β:Type} {a:Option β}:ifT true a=a:=rfl
@[simp] theorem RY {β:Type} {a:Option β}:ifT false a=none:=rfl
@[simp] theorem Aq {α β:Type} {a:α} {k:α->Option β}:Ap (some a) k=k a:=rfl
@[simp] theorem RA {α β:Type} {k:α->Option β}:Ap none k=none:=rfl
theorem R7 {β:Type} {a b:Option β} (h:a=b):JW a b=b:=by unfold JW; rw [if_pos h,h]
theorem Ag {β:Type} {a b:Option β} {c:Bool} (h:c=true):ifB c a b=a:=by subst h; rfl
theorem Af {β:Type} {a b:Option β} {c:Bool} (h:c=false):ifB c a b=b:=by subst h; rfl
theorem Aa {β:Type} {a:Option β} {c:Bool} (h:c=true):ifT c a=a:=by subst h; rfl
@[simp] theorem PM {β:Type} {a b:Option β} {c:Bool}:ifB (!c) a b=ifB c b a:=by cases c<;>rfl
@[simp] theorem RP {β:Type} {a b:Option β} {c d:Bool}:ifB (c&&d) a b=ifB c (ifB d a b) b:=by cases c<;>rfl
@[simp] theorem RT {β:Type} {a b:Option β} {c d:Bool}:ifB (c||d) a b=ifB c a (ifB d a b):=by cases c<;>rfl
@[simp] theorem RM {β:Type} {a:Option β} {c d:Bool}:ifT (c&&d) a=ifT c (ifT d a):=by cases c<;>rfl
@[simp] theorem PN {α β:Type} [BEq α] [LawfulBEq α] [DecidableEq α] {a b:Option β} {x y:α}:ifB (x==y) a b=if x=y then a else b:=by
 by_cases h:x=y
 ·subst h; rw [beq_self_eq_true,if_pos rfl]; rfl
 ·rw [beq_false_of_ne h,if_neg h]; rfl
@[simp] theorem RO {α β:Type} [BEq α] [LawfulBEq α] [DecidableEq α] {a b:Option β} {x y:α}:ifB (x != y) a b=if x=y then b else a:=by
 rw [bne,PM,PN]
@[simp] theorem R9 {β:Type} {a:Option β} {p:Prop} [Decidable p]:ifT (decide p) a=if p then a else none:=by by_cases h:p<;>simp [h]
@[simp] theorem RC {β:Type} {a b:Option β} {p:Prop} [Decidable p]:ifB (decide p) a b=if p then a else b:=by by_cases h:p<;>simp [h]
@[simp] theorem Rc {a b:Nat}:((a:Int)=(b:Int))=(a=b):=propext Int.ofNat_inj
theorem RN {β:Type} {a b:Option β} {p:Prop} [Decidable p]:ifB (decide p) a b=if p then a else b:=by by_cases h:p<;>simp [ifB,h]
theorem Ae {α:Type} {c:Bool} {x:Br α} {r:α} (h:(Br.need c x).run=some r):c=true/\x.run=some r:=by
 cases c with
 | true=>exact ⟨rfl,h⟩
 | false=>cases h
theorem Lu {α:Type} {p:Prop} [Decidable p] {x y:Br α}:(Br.br (decide p) x y).run=if p then x.run else y.run:=by by_cases h:p<;>simp [Br.run,h]
theorem AD {α:Type} {a r:α} (h:(Br.leaf a).run=some r):a=r:=by cases h; rfl

abbrev Ent.rd1 (G:List V->List Blk->Br (V×List (Option Blk))):Ent:=⟨true,true,G⟩
abbrev Ent.own (G:List V->List Blk->Br (V×List (Option Blk))):Ent:=⟨false,false,G⟩
abbrev eqT (α:Type) (a b:α):Prop:=a=b

abbrev Al (α:Type):List α:=[]
@[simp] theorem Di (α:Type):Al α=[]:=rfl

/-! Numbers. -/
theorem Ax {n:Int} (h1 : -9223372036854775808<=n) (h2:n<=9223372036854775807):IntKind.i64.wrap n=n:=by
 unfold IntKind.wrap
 simp only [IntKind.bits,IntKind.signed]
 simp
 omega
theorem AM {n:Nat} (h:n<maxI):IntKind.i64.wrap ((n:Int)+1)=((n+1:Nat):Int):=by
 have:n<9223372036854775807:=h
 rw [Ax (by omega) (by omega)]; rfl
end Go.Proofs.YthbecdipboideaaDoor.Den
/- Loops over lists: each round cs the element says. -/
namespace Go.Proofs.YthbecdipboideaaDoor.Den

inductive LoopsI (P:Program) (Γ:FuncId->Option Ent) (Λ:Nat->Option LoopEnt) (m:Nat):List Code->Prop
 | nil:LoopsI P Γ Λ m []
 | cons {a:Code} {cs:List Code} {ent:LoopEnt} (h:Λ (Cc a)=some ent) (hr : ∀ d e d',(ent.L d).run=some (e,d')->Runs P Γ Λ m a ent d e d') (rest:LoopsI P Γ Λ m cs):LoopsI P Γ Λ m (a::cs)
theorem LoopsI.ok {P:Program} {Γ:FuncId->Option Ent} {Λ:Nat->Option LoopEnt} {m:Nat} {cs:List Code} (h:LoopsI P Γ Λ m cs) : ∀ a∈cs,∀ ent,Λ (Cc a)=some ent->∀ d e d',(ent.L d).run=some (e,d')->Runs P Γ Λ m a ent d e d':=by
 induction h with
 | nil=>intro a ha; cases ha
 | cons h hr _ ih=>
  intro a ha ent he
  rcases mem_cons.1 ha with rfl | ha
  ·rw [h] at he; cases he; exact hr
  ·exact ih a ha ent he
theorem LoopsI.loops {P:Program} {Γ:FuncId->Option Ent} {Λ:Nat->Option LoopEnt} {m:Nat} {c:Code} {cs:List Code} (h:LoopsI P Γ Λ m cs) (hc:AR c=cs) (hk : ∀ j,1000000<=j->Λ j=none:=by exact GT rfl):A6 P Γ Λ m c:=by
 refine ⟨?_,fun x hx ent he=>?_⟩
 ·intro a ha; rw [hc] at ha; exact h.ok a ha
 ·rw [hk _ (Ke c x hx)] at he; cases he
def Dh (f:Func) (k:Nat):Code:=match (Bc (f.body.getD .skip)).find? (fun x=>beq x.2 k) with | some x=>x.1 | none=>.skip
inductive CutsI (P:Program) (Γ:FuncId->Option Ent) (Λ:Nat->Option LoopEnt) (m:Nat):List (Code×LoopEnt)->Prop
 | nil:CutsI P Γ Λ m []
 | cons {a:Code} {ent:LoopEnt} {cs:List (Code×LoopEnt)} (hr : ∀ d e d',(ent.L d).run=some (e,d')->Dp P Γ Λ m a ent d=some (e,d')) (rest:CutsI P Γ Λ m cs):CutsI P Γ Λ m ((a,ent)::cs)
theorem CutsI.mem {P:Program} {Γ:FuncId->Option Ent} {Λ:Nat->Option LoopEnt} {m:Nat} {cs:List (Code×LoopEnt)} (h:CutsI P Γ Λ m cs) : ∀ x∈cs,∀ d e d',(x.2.L d).run=some (e,d')->Dp P Γ Λ m x.1 x.2 d=some (e,d'):=by
 induction h with
 | nil=>intro x hx; cases hx
 | cons hr _ ih=>
  intro x hx
  rcases mem_cons.1 hx with rfl | hx
  ·exact hr
  ·exact ih x hx
theorem CutsI.loops {P:Program} {Γ:FuncId->Option Ent} {Λ:Nat->Option LoopEnt} {m:Nat} {c:Code} {ls:List Code} {cs:List (Code×LoopEnt)} (h2:CutsI P Γ Λ m cs) (h1:LoopsI P Γ Λ m ls) (hl:AR c=ls) (hc:(Bc c).filterMap (fun x=>(Λ x.2).map fun e=>(x.1,e))=cs):A6 P Γ Λ m c:=by
 refine ⟨?_,fun x hx ent he=>?_⟩
 ·intro a ha; rw [hl] at ha; exact h1.ok a ha
 ·exact h2.mem (x.1,ent) (by rw [<-hc]; exact List.mem_filterMap.2 ⟨x,hx,by rw [he]; rfl⟩)

section
variable {P:Program} {Γ:FuncId->Option Ent} {Λ:Nat->Option LoopEnt} {m:Nat} {a:Code} {ent:LoopEnt}

theorem Ef {α:Type} {l:List α} (p:α->Bool) (H:Nat->Dt) {ex rt:Ex×Dt} (hex:ex.1≠.normal) (hrt:rt.1≠.normal)
  (hr : ∀ n (h:n<l.length),AG P Γ Λ m a ent (H n)=some (bif p l[n] then (.normal,H (n+1)) else rt))
  (he:AG P Γ Λ m a ent (H l.length)=some ex) : ∀ (j n:Nat),n+j=l.length->∀ e d',(Br.br ((l.drop n).all p) (.leaf ex) (.leaf rt)).run=some (e,d')->Runs P Γ Λ m a ent (H n) e d'
 | 0,n,hn,e,d',h=>by
  have e1:l.drop n=[]:=List.drop_eq_nil_of_le (by omega)
  rw [e1] at h
  have h2:ex=(e,d'):=AD h
  have h3:n=l.length:=by omega
  subst h2 h3
  exact .stop _ _ _ he hex
 | j+1,n,hn,e,d',h=>by
  have h1:n<l.length:=by omega
  have h2:=hr n h1
  rw [List.drop_eq_getElem_cons h1,all_cons] at h
  cases hp:p l[n] with
  | true=>
   rw [hp,cond_true] at h2
   exact .step _ _ _ _ h2 (Ef p H hex hrt hr he j (n+1) (by omega) e d' (by rw [hp,Bool.true_and] at h; exact h))
  | false=>
   rw [hp,cond_false] at h2
   rw [hp,Bool.false_and] at h
   have h3:rt=(e,d'):=AD h
   subst h3
   exact .stop _ _ _ h2 hrt

end

end Go.Proofs.YthbecdipboideaaDoor.Den
/- What a call gives back, numbered in one way: boxes that came along keep their numbers, rows are numbered anew in the order in which they are reached. -/
namespace Go.Proofs.YthbecdipboideaaDoor.Den

theorem KM {w w':World} {R R':Nat->Prop} {μ μ':Nat->Option RB} {bl:Nat->Option Blk} {r:V} {outs outs':List (Option Blk)} {u:Value} {m:Nat} {src:List Nat} {ρ:Nat->Option Nat} (h:Left w R μ bl r outs u w' R' μ')
  (hm : ∀ j,m<=j->μ j=none) (h1 : ∀ (j:Nat),j<m->src[j]? = some j) (hl:outs'.length=src.length)
  (hb : ∀ (j:Nat) (B:Blk),(outs'[j]?).join=some B->∃ (id:Nat) (B0:Blk),src[j]? = some id/\(outs[id]?).join=some B0/\B=noNl (BV ρ B0))
  (hinj : ∀ (j j' id:Nat) (B B':Blk),(outs'[j]?).join=some B->(outs'[j']?).join=some B'->src[j]? = some id->src[j']? = some id->j=j')
  (hρ : ∀ (id j:Nat),ρ id=some j->src[j]? = some id):Left w R μ bl (BU ρ 6 r) outs' u w' R' (fun j=>(src[j]?).bind μ'):=by
 have hρ' : ∀ id j rb,ρ id=some j->μ' id=some rb->(src[j]?).bind μ'=some rb:=fun id j rb e1 e2=>by rw [hρ id j e1]; exact e2
 have own : ∀ B0:Blk,(noNl (BV ρ B0)).own=B0.own:=fun B0=>by rw [Ek,B7]
 refine ⟨Cg hρ' 6 r u h.val,⟨?_,?_,?_,h.mem.rlt⟩,h.os,h.tape,h.output,h.grow,h.same,h.r0,h.rT,?_,?_,?_,?_⟩
 ·intro j B hB
  obtain ⟨id,B0,g1,g2,rfl⟩:=hb j B hB
  obtain ⟨rb,g4,g5⟩:=h.mem.blk id B0 g2
  exact ⟨rb,by rw [g1]; exact g4,(DC hρ' g5).noNl⟩
 ·intro j j' B B' rb rb' x b1 b2 o1 o2 m1 m2 e1 e2
  obtain ⟨id,B0,g1,g2,rfl⟩:=hb j B b1
  obtain ⟨id',B0',k1,k2,rfl⟩:=hb j' B' b2
  rw [g1] at m1; rw [k1] at m2
  rw [own] at o1 o2
  have:=h.mem.inj id id' B0 B0' rb rb' x g2 k2 o1 o2 m1 m2 (AF (Bn.1 e1)) (AF (Bn.1 e2))
  subst this
  exact hinj j j' id _ _ b1 b2 g1 k1
 ·intro j B rb x b1 o1 m1 e1
  obtain ⟨id,B0,g1,g2,rfl⟩:=hb j B b1
  rw [g1] at m1
  rw [own] at o1
  exact h.mem.sep id B0 rb x g2 o1 m1 (AF (Bn.1 e1))
 ·intro j B rb x b1 o1 m1 e1
  obtain ⟨id,B0,g1,g2,rfl⟩:=hb j B b1
  rw [g1] at m1
  rw [own] at o1
  exact h.ownT id B0 rb x g2 o1 m1 (AF (Bn.1 e1))
 ·intro j B rb x b1 m1 e1
  obtain ⟨id,B0,g1,g2,rfl⟩:=hb j B b1
  rw [g1] at m1
  exact h.allT id B0 rb x g2 m1 (AF (Bn.1 e1))
 ·intro j rb hj
  have hjm:j<m:=by
   rcases lt_or_ge j m with h2 | h2
   ·exact h2
   ·rw [hm j h2] at hj; cases hj
  rw [h1 j hjm]
  exact h.ext j rb hj
 ·intro j hj
  have:src[j]? = none:=getElem?_eq_none (by omega)
  rw [this]; rfl

theorem KN {w w':World} {R R':Nat->Prop} {μ μ':Nat->Option RB} {bl:Nat->Option Blk} {r:V} {outs:List (Option Blk)} {u:Value} {m:Nat} (h:Left w R μ bl r outs u w' R' μ') (hm : ∀ j,m<=j->μ j=none) :
  ∃ μ'',Left w R μ bl (Hl m (r,outs)).1 (Hl m (r,outs)).2 u w' R' μ'':=by
 unfold Hl
 dsimp only
 generalize hk:(range m).filter (fun j=>Qh ((outs[j]?).join))=keep
 have hkm : ∀ j,j∈keep->j<m:=fun j hj=>by
  rw [<-hk] at hj
  have:=(mem_filter.1 hj).1
  simpa using this
 have hkn:keep.Nodup:=by rw [<-hk]; exact nodup_range.filter _
 have hnd:(Ba (fun j=>(outs[j]?).join) 5 (A7 keep (BW 6 r)) (A7 keep (BW 6 r))).Nodup:=Ch _ _ _ _ (Bx _ _ hkn)
 generalize Ba (fun j=>(outs[j]?).join) 5 (A7 keep (BW 6 r)) (A7 keep (BW 6 r))=ids at hnd
 generalize hr:ids.filter (fun id=>!(keep.contains id))=rows
 have hrn:rows.Nodup:=by rw [<-hr]; exact hnd.filter _
 have hrk : ∀ id,id∈rows->keep.contains id=false:=fun id hi=>by
  rw [<-hr] at hi
  have:=(mem_filter.1 hi).2
  simpa using this
 generalize hρ:(fun id=>match keep.contains id with | true=>some id | false=>(Bd rows id).map (m + ·):Nat->Option Nat)=ρ
 have lo : ∀ j,j<m->(range m++rows)[j]? = some j:=fun j hj=>by
  rw [getElem?_append_left (by simpa using hj)]; simp [hj]
 have hi : ∀ j,m<=j->(range m++rows)[j]? = rows[j-m]?:=fun j hj=>by
  rw [getElem?_append_right (by simpa using hj)]; simp
 have at' : ∀ (f:Nat->Option Blk) (g:Nat->Option Blk) j B,((((range m).map f++rows.map g)[j]?).join=some B)->(j<m/\f j=some B)\/(m<=j/\∃ id,rows[j-m]? = some id/\g id=some B):=fun f g j B hB=>by
  rcases lt_or_ge j m with hj | hj
  ·left
   rw [getElem?_append_left (by simpa using hj)] at hB
   simp [hj] at hB
   exact ⟨hj,hB⟩
  ·right
   rw [getElem?_append_right (by simpa using hj)] at hB
   simp only [List.length_map,List.length_range,getElem?_map] at hB
   cases e:rows[j-m]? with
   | none=>rw [e] at hB; cases hB
   | some id=>rw [e] at hB; exact ⟨hj,id,rfl,by simpa using hB⟩
 refine ⟨_,KM (m:=m) (src:=range m++rows) (ρ:=ρ) h hm lo (by simp) ?_ ?_ ?_⟩
 ·intro j B hB
  rcases at' _ _ j B hB with ⟨hj,h2⟩ | ⟨hj,id,h2,h3⟩
  ·split at h2
   ·obtain ⟨B0,k1,k2⟩:=map_eq_some_iff.1 h2
    exact ⟨j,B0,lo j hj,k1,k2.symm⟩
   ·cases h2
  ·obtain ⟨B0,k1,k2⟩:=map_eq_some_iff.1 h3
   exact ⟨id,B0,by rw [hi j hj]; exact h2,k1,k2.symm⟩
 ·intro j j' id B B' b1 b2 s1 s2
  have kp : ∀ j B,j<m->((((range m).map fun j=>match keep.contains j with | true=>((outs[j]?).join).map fun b=>noNl (BV ρ b) | false=>none)++rows.map fun id=>((outs[id]?).join).map fun b=>noNl (BV ρ b))[j]?).join=some B->keep.contains j=true:=fun j B hj hB=>by
   rcases at' _ _ j B hB with ⟨_,h2⟩ | ⟨h2,_⟩
   ·split at h2
    ·assumption
    ·cases h2
   ·omega
  rcases lt_or_ge j m with hj | hj<;>rcases lt_or_ge j' m with hj' | hj'
  ·rw [lo j hj] at s1; rw [lo j' hj'] at s2
   simp at s1 s2; omega
  ·rw [lo j hj] at s1; rw [hi j' hj'] at s2
   simp at s1; subst s1
   have c1:=kp j B hj b1
   rw [hrk j (List.mem_of_getElem? s2)] at c1; cases c1
  ·rw [hi j hj] at s1; rw [lo j' hj'] at s2
   simp at s2; subst s2
   have c1:=kp j' B' hj' b2
   rw [hrk j' (List.mem_of_getElem? s1)] at c1; cases c1
  ·rw [hi j hj] at s1; rw [hi j' hj'] at s2
   obtain ⟨a1,a2⟩:=List.getElem?_eq_some_iff.1 s1
   obtain ⟨b1',b2'⟩:=List.getElem?_eq_some_iff.1 s2
   have:=(List.getElem_inj hrn).1 (a2.trans b2'.symm)
   omega
 ·intro id j e
  subst hρ
  dsimp only at e
  split at e
  ·rename_i hc
   simp at e; subst e
   exact lo _ (hkm _ (by simpa using hc))
  ·obtain ⟨k,k1,rfl⟩:=map_eq_some_iff.1 e
   rw [hi _ (by omega),show m+k-m=k by omega]
   exact Cw k1

section
variable {P:Program} {Γ:FuncId->Option Ent} {Λ:Nat->Option LoopEnt}
theorem H2 (ini:Func->List V->List Blk->St) (N:Nat->V×List (Option Blk)->V×List (Option Blk)) (hN : ∀ {m w R μ bl r outs u w' R' μ'},Left w R μ bl r outs u w' R' μ'->(∀ j,m<=j->μ j=none)->∃ μ'',Left w R μ bl (N m (r,outs)).1 (N m (r,outs)).2 u w' R' μ'') (hini : ∀ (fn:Func) (w:World) (R:Nat->Prop) (μ:Nat->Option RB) (vs:List V) (us:List Value) (bs:List Blk),Mem w R μ (fun j=>bs[j]?)->(∀ j,bs.length<=j->μ j=none)->Reps w R μ vs us->D6 ⟨w,ED w (fun j=>bs[j]?) μ,R,μ,Was w (fun j=>bs[j]?) μ⟩ (ini fn vs bs) { tmps:=us.toArray++Array.replicate (fn.ntmps-us.toArray.size) undef,defers:=[] } w) (hG:Knows P Γ) {K:FuncId} {fn:Func} {c:Code} (hf:P.funcs[K]? = some fn) (hb:fn.body=some c) {F:List V->List Blk->Option (V×List (Option Blk))}
  (hF : ∀ vs bs r,F vs bs=some r->A6 P Γ Λ bs.length c/\(BY P Γ Λ bs.length c (ini fn vs bs) fun e σ=>
  match e with
  | .exit _=>none
  | _=>DZ P σ.sl σ.bl fn.results.toList fun rs=>some (N bs.length (Eo bs.length σ.bl (one rs))))=some r):Ad P K F:=by
 intro w R μ vs us bs r outs hmem hnone hreps hFv
 obtain ⟨hL,hk⟩:=hF vs bs (r,outs) hFv
 refine calls_of_wp hf hb ?_
 let E:Env:=⟨w,ED w (fun j=>bs[j]?) μ,R,μ,Was w (fun j=>bs[j]?) μ⟩
 have hsim:=hini fn w R μ vs us bs hmem hnone hreps
 refine Hi hG (E:=E) (m:=bs.length) hnone c hL _ _ (r,outs) _ w _ hk hsim fun e σ' a' w' hk' hs=>?_
 have fin:DZ P σ'.sl σ'.bl fn.results.toList (fun rs=>some (N bs.length (Eo bs.length σ'.bl (one rs))))=some (r,outs)->(∃ v,(results fn a'.tmps).run P w' = .ok v w'/\∃ u R' μ',Ending.returned v = .returned u/\Left w R μ (fun j=>bs[j]?) r outs u w' R' μ')/\a'.defers=[]:=by
  intro hres
  obtain ⟨R',μ',g⟩:=hs
  obtain ⟨rs,h1,h2⟩:=FE _ _ hres
  obtain ⟨u,g1,g2⟩:=E8 (P:=P) (fn:=fn) g (h1 some)
  refine ⟨⟨u,g1,u,?_⟩,g.dfr⟩
  simp only [Option.some.injEq] at h2
  generalize one rs=v at g2 h2
  unfold Eo at h2
  dsimp only at h2
  obtain ⟨rfl,rfl⟩:(N bs.length _).1=r/\(N bs.length _).2=outs:=by rw [h2]; exact ⟨rfl,rfl⟩
  have hfirst : ∀ j,j<bs.length->(Ba σ'.bl 5 (A7 (range bs.length) (BW 6 v)) (A7 (range bs.length) (BW 6 v)))[j]? = some j:=fun j hj=>FV hj
  have hnd:(Ba σ'.bl 5 (A7 (range bs.length) (BW 6 v)) (A7 (range bs.length) (BW 6 v))).Nodup:=Ch _ _ _ _ (Bx _ _ nodup_range)
  generalize Ba σ'.bl 5 (A7 (range bs.length) (BW 6 v)) (A7 (range bs.length) (BW 6 v))=ids at hfirst hnd
  have hρ : ∀ id j rb,Bd ids id=some j->μ' id=some rb->(ids[j]?).bind μ'=some rb:=fun id j rb e1 e2=>by rw [Cw e1]; exact e2
  have outAt : ∀ j B,((ids.map fun id=>(σ'.bl id).map (BV (Bd ids)))[j]?).join=some B->∃ id B0,ids[j]? = some id/\σ'.bl id=some B0/\B=BV (Bd ids) B0:=fun j B h=>by
   rw [getElem?_map] at h
   cases e:ids[j]? with
   | none=>rw [e] at h; cases h
   | some id=>
    rw [e] at h
    simp only [map_some,join_some] at h
    obtain ⟨B0,k1,k2⟩:=map_eq_some_iff.1 h
    exact ⟨id,B0,e,k1,k2.symm⟩
  suffices hh:Left w R μ (fun j=>bs[j]?) (BU (Bd ids) 6 v) (ids.map fun id=>(σ'.bl id).map (BV (Bd ids))) u w' R' (fun j=>(ids[j]?).bind μ') by
   obtain ⟨μ'',hh'⟩:=hN hh hnone
   exact ⟨R',μ'',rfl,hh'⟩
  refine ⟨Cg hρ 6 v u g2,?_,g.os,g.tape,g.output,g.grow,fun k hk hn=>g.same k hk hn,g.r0,fun x hx=>g.rT x hx,?_,?_,?_,?_⟩
  ·exact g.mem.renum (ρ:=Bd ids) hnd (fun j B hB=>by
    obtain ⟨id,B0,k1,k2,k3⟩:=outAt j B hB
    exact ⟨id,B0,k1,k2,by rw [k3,B7],fun rb hr=>by rw [k3]; exact hr,fun rb x hx=>by rw [k3] at hx; exact AF hx⟩) hρ
  ·intro j B rb x hB ho hmu hx
   obtain ⟨id,B0,k1,k2,k3⟩:=outAt j B hB
   rw [k1] at hmu
   exact g.ownT id B0 rb x k2 (by rw [k3,B7] at ho; exact ho) hmu (by rw [k3] at hx; exact AF hx)
  ·intro j B rb x hB hmu hx
   obtain ⟨id,B0,k1,k2,k3⟩:=outAt j B hB
   rw [k1] at hmu
   exact g.allT id B0 rb x k2 hmu (by rw [k3] at hx; exact AF hx)
  ·intro j rb hj
   have hjm:j<bs.length:=by
    rcases lt_or_ge j bs.length with h1 | h1
    ·exact h1
    ·rw [hnone j h1] at hj; cases hj
   rw [hfirst j hjm]
   exact g.ext j rb hj
  ·intro j hj
   have:ids[j]? = none:=getElem?_eq_none (by simpa using hj)
   rw [this]; rfl
 cases e with
 | normal=>
  obtain ⟨⟨v,h1,h2⟩,h3⟩:=fin hk'
  exact ⟨h3,v,h1,h2⟩
 | ret=>
  obtain ⟨⟨v,h1,h2⟩,h3⟩:=fin hk'
  exact ⟨h3,v,h1,h2⟩
 | exit n=>cases hk'

theorem Ju (fn:Func) (w:World) (R:Nat->Prop) (μ:Nat->Option RB) (vs:List V) (us:List Value) (bs:List Blk) (hm:Mem w R μ (fun j=>bs[j]?)) (hn : ∀ j,bs.length<=j->μ j=none) (hr:Reps w R μ vs us) :
  D6 ⟨w,ED w (fun j=>bs[j]?) μ,R,μ,Was w (fun j=>bs[j]?) μ⟩ ⟨vs++replicate (fn.ntmps-vs.length) .unk,fun j=>bs[j]?,bs.length⟩ { tmps:=us.toArray++Array.replicate (fn.ntmps-us.toArray.size) undef,defers:=[] } w:=by
 refine ⟨R,μ,hm,?_,?_,rfl,hn,rfl,rfl,rfl,le_refl _,fun _ _ _=>rfl,fun id B rb x h1 h2 h3 h4=>.inl ⟨id,B,rb,h1,h2,h3,h4⟩,fun id B rb x h1 h3 h4=>.inl ⟨id,B,rb,h1,h3,h4⟩,fun _ h=>h,fun _ h=>.inl h,fun _ _ h=>h⟩
 ·simp [hr.1]
 ·intro t v u hv hu
  dsimp only at hv hu
  rw [List.getElem?_append] at hv
  rw [Array.getElem?_append] at hu
  simp only [List.size_toArray,hr.1] at hu
  split at hv
  ·rename_i ht
   rw [if_pos ht] at hu
   exact hr.2 t v u hv (by simpa using hu)
  ·have:v = .unk:=by
    rw [List.getElem?_replicate] at hv
    split at hv
    ·simp at hv; exact hv.symm
    ·cases hv
   subst this
   exact .unk u
theorem H3 (hG:Knows P Γ) {K:FuncId} {fn:Func} {c:Code} (hf:P.funcs[K]? = some fn) (hb:fn.body=some c) {F:List V->List Blk->Option (V×List (Option Blk))}
  (hF : ∀ vs bs r,F vs bs=some r->A6 P Γ Λ bs.length c/\BA P Γ Λ fn vs bs=some r):Ad P K F:=
 H2 (fun fn vs bs=>⟨vs++replicate (fn.ntmps-vs.length) .unk,fun j=>bs[j]?,bs.length⟩) Hl (fun h hn=>KN h hn) Ju hG hf hb (fun vs bs r h=>by
  obtain ⟨h1,h2⟩:=hF vs bs r h
  refine ⟨h1,?_⟩
  unfold BA at h2
  rw [hb] at h2
  exact h2)
end

theorem Cq {P:Program} {Γ:FuncId->Option Ent} {Λ:Nat->Option LoopEnt} (hG:Knows P Γ) {K:FuncId} {fn:Func} {c:Code} (hf:P.funcs[K]? = some fn) (hb:fn.body=some c) {F:List V->List Blk->Option (V×List (Option Blk))}
  (hF : ∀ vs bs r,F vs bs=some r->(∀ v∈vs,H4 v)->(∀ b∈bs,H5 b)->A6 P Γ Λ bs.length c/\BA P Γ Λ fn vs bs=some r):Ad P K F:=by
 classical
 have key:=H3 hG hf hb (Λ:=Λ) (F:=fun vs bs=>if (∀ v∈vs,H4 v)/\∀ b∈bs,H5 b then F vs bs else none) (fun vs bs r h=>by
  split at h
  ·rename_i hh; exact hF vs bs r h hh.1 hh.2
  ·cases h)
 intro w R μ vs us bs r outs hmem hnone hreps hFv
 refine key w R μ vs us bs r outs hmem hnone hreps ?_
 have h1 : ∀ v∈vs,H4 v:=fun v hv=>by
  obtain ⟨j,hj,rfl⟩:=getElem_of_mem hv
  have hj':j<us.length:=by rw [hreps.1]; exact hj
  exact (hreps.2 j vs[j] us[j] (by simp [hj]) (by simp [hj'])).fit
 have h2 : ∀ b∈bs,H5 b:=fun b hb=>by
  obtain ⟨j,hj,rfl⟩:=getElem_of_mem hb
  obtain ⟨rb,_,h⟩:=hmem.blk j bs[j] (by simp [hj])
  exact h.fit
 dsimp only
 rw [if_pos ⟨h1,h2⟩]
 exact hFv

/-! A function that calls itself: what it does with less is known. -/
theorem BS {P:Program} {K:FuncId} {F:Nat->List V->List Blk->Option (V×List (Option Blk))} {G:List V->List Blk->Option (V×List (Option Blk))} (h : ∀ n,(∀ m,m<n->Ad P K (F m))->Ad P K (F n)) (hG : ∀ vs bs r,G vs bs=some r->∃ n,F n vs bs=some r):Ad P K G:=by
 have all : ∀ n,Ad P K (F n):=fun n=>Nat.strongRecOn n h
 intro w R μ vs us bs r outs hm hn hr hG1
 obtain ⟨n,hF⟩:=hG vs bs _ hG1
 exact all n w R μ vs us bs r outs hm hn hr hF
theorem AN {P:Program} {K:FuncId} {F:List V->List Blk->Option (V×List (Option Blk))} (h : ∀ vs bs,F vs bs=none):Ad P K F:=by
 intro w R μ vs us bs r outs hm hn hr hF
 rw [h] at hF; cases hF

/-! Trees, branch by branch. -/
section
variable {α β:Type} {f:α->β} {R:Option β} {c:Bool} {x y:Br α}
theorem RI (h:c=true):(Br.br c x y).run=x.run:=by subst h; rfl
theorem RJ (h:c=false):(Br.br c x y).run=y.run:=by subst h; rfl
end
end Go.Proofs.YthbecdipboideaaDoor.Den
