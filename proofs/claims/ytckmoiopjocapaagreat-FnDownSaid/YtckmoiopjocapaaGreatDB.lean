/- What functions of the program do, by the machine: Dr2 Val1 Val2 Val3 Val4 Val5 Val6 Val7 Val8 Val9 Val10 Val11 Val12 Val13 Val14 Val15 Val16 Val17 Val18 Val19 Val20 Val21 Val22 Val23. -/
import Derived.Test.YtckmoiopjocapaaGreatDA
import Derived.KernelRfl
import Derived.Test.YtckmoiopjocapaaGreatRows
open Go.IntKind (i64)
open Go.Proofs.Tryz
open List (Pairwise all_eq_true any_cons any_eq_true append_assoc append_nil drop drop_eq_getElem_cons drop_eq_nil_of_le drop_zero getElem_mem length_append length_cons length_drop mem_cons mem_range nil_append pairwise_cons range take take_length)
open Int (eq_ofNat_of_zero_le toNat)
open Nat (lt_succ_self zero_add)
open Option (map_some)
namespace Go.Proofs.YtckmoiopjocapaaGreat.Den
open Go.Proofs
set_option maxRecDepth 100000
def XH (g:Int->Cur->Rose Lab×Cur):Gm
 | [.ptr 0 0,.j x],[.box [.sl (.int .u8) l,.j a,.i .u64 s]]=>.need (decide (0<=x/\x<=3/\(Cur.mk l a s).good 83000000)) (.leaf (.agg [.j (g x (Cur.mk l a s)).1.lab.1,.s (g x (Cur.mk l a s)).1.lab.2.1,.j (g x (Cur.mk l a s)).1.lab.2.2.1,.b (g x (Cur.mk l a s)).1.lab.2.2.2.1,.j (g x (Cur.mk l a s)).1.lab.2.2.2.2.1,.ref 1 0 (g x (Cur.mk l a s)).1.kids.length],[some (cB (g x (Cur.mk l a s)).2),R0 (.rose LCd) (g x (Cur.mk l a s)).1.kids]))
 | _,_=>.no
def TyEx (d m K:Int) (N:Nat):Prop:=∃ f:Cur->Rose Lab×Cur,Ac prog 155 (Ent.own (Jp d m f)).F/\(0<=d->∀ c n,c.good n->n<=m->(f c).2.good (n+K)/\drT N (f c).1)
def MsEx (d m K:Int) (N:Nat):Prop:=∃ f:Cur->Rose Lab×Cur,Ac prog 111 (Ent.own (I8 d m f)).F/\(0<=d->∀ c n,c.good n->n<=m->(f c).2.good (n+K)/\drT N (f c).1)
theorem TyEx.weak {d m K m2 K2:Int} {N N2:Nat} (h:TyEx d m K N) (h1:m2<=m) (h2:K<=K2) (h3:N<=N2):TyEx d m2 K2 N2:=by
 obtain ⟨f,hf,pf⟩:=h;refine ⟨f,Hs hf fun vs bs r hq=>?_,fun hd c n hc hn=>?_⟩
 ·unfold Ent.F Jp at hq ⊢;dsimp only at hq ⊢;split at hq
  ·rename_i x l a s;obtain ⟨hc,hx⟩:=Ad hq;obtain ⟨q1,q2,q3⟩:=of_decide_eq_true hc;have:decide (x=d/\0<=d/\(Cur.mk l a s).good m)=true:=dcT ⟨q1,q2,Cur.good_mono q3 h1⟩;rw [this];exact hx
  ·cases hq
 ·have:=pf hd c n hc (by omega);exact ⟨Cur.good_mono this.1 (by omega),LW this.2 h3⟩
theorem TyEx.none (m K:Int) (N:Nat):TyEx (-1) m K N:=by
 refine ⟨fun c=>(.node (0,[],0,false,0,()) [],c),AP fun vs bs=>?_,fun h=>by omega⟩;unfold Ent.F Jp;dsimp only;split
 ·rename_i x l a s;have:decide (x=(-1:Int)/\(0:Int)<=-1/\(Cur.mk l a s).good m)=false:=dcF (by omega);rw [this]; rfl
 ·rfl
theorem MsEx.weak {d m K m2 K2:Int} {N N2:Nat} (h:MsEx d m K N) (h1:m2<=m) (h2:K<=K2) (h3:N<=N2):MsEx d m2 K2 N2:=by
 obtain ⟨f,hf,pf⟩:=h;refine ⟨f,Hs hf fun vs bs r hq=>?_,fun hd c n hc hn=>?_⟩
 ·unfold Ent.F I8 at hq ⊢;dsimp only at hq ⊢;split at hq
  ·rename_i x l a s;obtain ⟨hc,hx⟩:=Ad hq;obtain ⟨q1,q2,q3⟩:=of_decide_eq_true hc;have:decide (x=d/\0<=d/\(Cur.mk l a s).good m)=true:=dcT ⟨q1,q2,Cur.good_mono q3 h1⟩;rw [this];exact hx
  ·cases hq
 ·have:=pf hd c n hc (by omega);exact ⟨Cur.good_mono this.1 (by omega),LW this.2 h3⟩
theorem MsEx.none (m K:Int) (N:Nat):MsEx (-1) m K N:=by
 refine ⟨fun c=>(.node (0,[],0,false,0,()) [],c),AP fun vs bs=>?_,fun h=>by omega⟩;unfold Ent.F I8;dsimp only;split
 ·rename_i x l a s;have:decide (x=(-1:Int)/\(0:Int)<=-1/\(Cur.mk l a s).good m)=false:=dcF (by omega);rw [this]; rfl
 ·rfl
theorem Kj {d d' m m' K:Int} {N:Nat} (h1:TyEx d' m' K N) (h2:MsEx d' m' K N) (hd:d'=d-1) (hd2:0<=d/\d<=100) (h0:m+2<=m') (hm:m'<=800000000) (hK:0<=K):TyEx d m (K+4) (N+1):=by
 subst hd;obtain ⟨f,hf,pf⟩:=h1;obtain ⟨g,hg,pg⟩:=h2;obtain ⟨h,hh,ph⟩:=ZG d m m' K N h0 hm hK hd2 f g hf hg (fun h=>pf (by omega)) (fun h=>pg (by omega));exact ⟨h,hh,fun _=>ph⟩
theorem Ku {d m m' K:Int} {N:Nat} (h1:TyEx d m' K N) (hd2:0<=d/\d<=100) (h0:m+5*(K+4)<=m') (hm:m'<=100000000) (hK:0<=K):MsEx d m (5*(K+4)) (5*N+1):=by
 obtain ⟨f,hf,pf⟩:=h1;obtain ⟨h,hh,ph⟩:=XF d m m' K N h0 hm hK hd2 f hf (pf hd2.1);exact ⟨h,hh,fun _=>ph⟩
theorem Af1:TyEx 0 90000000 4 1:=Kj (m':=90000002) (K:=0) (N:=0) (TyEx.none _ _ _) (MsEx.none _ _ _) (by omega) (by omega) (by omega) (by omega) (by omega)
theorem Af5:MsEx 0 89000000 40 6:=Ku Af1 (by omega) (by omega) (by omega) (by omega)
theorem Af0:TyEx 1 88000000 44 7:=Kj (Af1.weak (m2:=89000000) (K2:=40) (N2:=6) (by omega) (by omega) (by omega)) Af5 (by omega) (by omega) (by omega) (by omega) (by omega)
theorem Af4:MsEx 1 87000000 240 36:=Ku Af0 (by omega) (by omega) (by omega) (by omega)
theorem Afz:TyEx 2 86000000 244 37:=Kj (Af0.weak (m2:=87000000) (K2:=240) (N2:=36) (by omega) (by omega) (by omega)) Af4 (by omega) (by omega) (by omega) (by omega) (by omega)
theorem Af3:MsEx 2 85000000 1240 186:=Ku Afz (by omega) (by omega) (by omega) (by omega)
theorem Agv:TyEx 3 84000000 1244 187:=Kj (Afz.weak (m2:=85000000) (K2:=1240) (N2:=186) (by omega) (by omega) (by omega)) Af3 (by omega) (by omega) (by omega) (by omega) (by omega)
theorem Agw:MsEx 3 83000000 6240 936:=Ku Agv (by omega) (by omega) (by omega) (by omega)
theorem ZR (x:Int) (h:0<=x/\x<=3):MsEx x 83000000 6240 936:=by
 have:x=0\/x=1\/x=2\/x=3:=by omega
 rcases this with rfl | rfl | rfl | rfl
 ·exact Af5.weak (by omega) (by omega) (by omega)
 ·exact Af4.weak (by omega) (by omega) (by omega)
 ·exact Af3.weak (by omega) (by omega) (by omega)
 ·exact Agw
theorem Sp : ∃ g:Int->Cur->Rose Lab×Cur,Ac prog 111 (Ent.own (XH g)).F/\∀ x c n,0<=x->x<=3->c.good n->n<=83000000->(g x c).2.good (n+6240)/\drT 936 (g x c).1:=by
 obtain ⟨g,hg⟩:=DF (Y:=Cur->Rose Lab×Cur) (fun c=>(.node (0,[],0,false,0,()) [],c)) ZR;refine ⟨g,?_,fun x c n h0 h3 hc hn=>(hg x ⟨h0,h3⟩).2 h0 c n hc hn⟩;refine Bb (F:=fun n=>(Ent.own (bif decide (n<=3) then I8 (n:Int) 83000000 (g n) else fun _ _=>.no)).F) (fun n _=>?_) fun vs bs r hq=>?_
 ·by_cases h:n<=3
  ·rw [dcT h];exact (hg n (by omega)).1
  ·rw [dcF h];exact AP fun vs bs=>rfl
 ·unfold Ent.F XH at hq;dsimp only at hq;split at hq
  ·rename_i x l a s;obtain ⟨hc,hx⟩:=Ad hq;obtain ⟨q1,q2,q3⟩:=of_decide_eq_true hc;obtain ⟨x,rfl⟩:=eq_ofNat_of_zero_le q1;refine ⟨x,?_⟩;rw [dcT (show x<=3 by omega)];show (Br.need (decide ((x:Int)=(x:Int)/\0<=(x:Int)/\(Cur.mk l a s).good 83000000)) (.leaf (.agg [.j (g (x:Int) (Cur.mk l a s)).1.lab.1,.s (g (x:Int) (Cur.mk l a s)).1.lab.2.1,.j (g (x:Int) (Cur.mk l a s)).1.lab.2.2.1,.b (g (x:Int) (Cur.mk l a s)).1.lab.2.2.2.1,.j (g (x:Int) (Cur.mk l a s)).1.lab.2.2.2.2.1,.ref 1 0 (g (x:Int) (Cur.mk l a s)).1.kids.length],[some (cB (g (x:Int) (Cur.mk l a s)).2),R0 (.rose LCd) (g (x:Int) (Cur.mk l a s)).1.kids]))).run=some r;rw [dcT ⟨rfl,q1,q3⟩];exact hx
  ·cases hq
noncomputable def JO:Int->Cur->Rose Lab×Cur:=Sp.choose
theorem ZQ:Ac prog 111 (Ent.own (XH JO)).F:=Sp.choose_spec.1
theorem XG : ∀ x c n,0<=x->x<=3->c.good n->n<=83000000->(JO x c).2.good (n+6240)/\drT 936 (JO x c).1:=Sp.choose_spec.2
abbrev Nd:=Int×By×Int×Int×Bool×Unit
def BX (n:Int):Bool:=decide (-1000000000<=n)&&decide (n<=1000000000)
def CH (x:Lab) (n:Int) (s:By) (many:Bool):Bool:=
 if many=true then false else if x.1=2 then n==0&&decide (s.length<=30)
 else if x.1=3 then (decide (0<=n/\n<=x.2.2.2.2.1))&&s==[] else BX n&&s==[]
def upN (l:List Nd) (e:Nat):Option Int:=(l[e]?).map fun x=>x.2.2.2.1
def noN (l:List Nd) (e:Nat):Option Int:=(l[e]?).map fun x=>x.2.2.1
def CV (l:List Nd) (a e:Nat):Bool:=upN l e==some (a:Int)
def vfI (l:List Nd) (a:Nat) (g:Nat->Int):Nat->Nat->Int
 | 0,e=>e
 | f+1,e=>if CV l a e=true then (if noN l e=some 0 then (if g e<0 then -1 else vfI l a g f (g e).toNat) else -1) else e
mutual
def vfR (l:List Nd):Rose Lab->Nat->Int
 | .node x ks,a=>
  match l[a]? with
  | none=>-1
  | some y=>
   if Ar x.1=false then (if CH x y.1 y.2.1 y.2.2.2.2.1=true then (a:Int)+1 else -1)
   else if (!y.2.2.2.2.1||y.1 != 0||y.2.1 != [])=true then -1
   else if x.1=4 then vfI l a (vfH l ks) l.length (a+1) else (if vfP l ks a (a+1)<0 then -1 else if CV l a (vfP l ks a (a+1)).toNat=true then -1 else vfP l ks a (a+1))
def vfH (l:List Nd):RL->Nat->Int
 | [],_=>-1
 | z::_,e=>vfR l z e
def vfP (l:List Nd):RL->Nat->Nat->Int
 | [],_,e=>e
 | z::ks,a,e=>
  if CV l a e=true/\noN l e=some z.lab.2.2.1 then (if vfR l z e<0 then -1 else vfP l ks a (vfR l z e).toNat)
  else if z.lab.2.2.2.1=true then -1 else vfP l ks a e
end
def Gu:Gm
 | [.j n],[]=>.leaf (.b (BX n),[])
 | _,_=>.no
def Oy:Gm
 | [.tp LCd z 0,.agg [.j y0,.s y1,.j _,.j _,.b y4]],[]=>.leaf (.b (CH z.lab y0 y1 y4),[])
 | _,_=>.no
def O6:Gm
 | [.bx [.j e] 0,.bx [.sl NCd l] 0,.bx [.j a] 0],[]=>.need (decide (0<=e/\0<=a)) (.leaf (.b (CV l a.toNat e.toNat),[]))
 | _,_=>.no
theorem Um (n:Int):AT prog (Aa [(69,.rd1 AC)]) (Aa []) f167 [.j n] []=(.leaf (.b (BX n),[]):Br (V×List (Option Blk))).run:=by
 have e:AT prog (Aa [(69,.rd1 AC)]) (Aa []) f167 [.j n] []=((some (V.b (decide ((-1000000000:Int)<=n/\n<=1000000000)),[])):_):=by kernel_rfl
 rw [e];clear e;unfold BX;rw [Bool.decide_and];rfl
theorem WI:Ac prog 167 (Ent.rd1 Gu).F:=by
 refine fcK (kc func69 Fr KnowsL.nil).knows (Λ:=Aa []) func167 fun vs bs r' hq=>?_
 unfold Ent.F Gu at hq;dsimp only at hq;split at hq
 ·rename_i n;exact ⟨Ao _,(Um n).trans hq⟩
 ·cases hq
theorem U4 (n:Int):AT prog (Aa [(100,.rd1 AC)]) (Aa []) f135 [.j n] []=(.leaf (.b (BX n),[]):Br (V×List (Option Blk))).run:=by
 have e:AT prog (Aa [(100,.rd1 AC)]) (Aa []) f135 [.j n] []=((some (V.b (decide ((-1000000000:Int)<=n/\n<=1000000000)),[])):_):=by kernel_rfl
 rw [e];clear e;unfold BX;rw [Bool.decide_and];rfl
theorem Th:Ac prog 135 (Ent.rd1 Gu).F:=by
 refine fcK (kc func100 Qj KnowsL.nil).knows (Λ:=Aa []) func135 fun vs bs r' hq=>?_
 unfold Ent.F Gu at hq;dsimp only at hq;split at hq
 ·rename_i n;exact ⟨Ao _,(U4 n).trans hq⟩
 ·cases hq
theorem RJ (z:Rose Lab) (y0:Int) (y1:By) (y2 y3:Int) (y4:Bool):AT prog (Aa [(69,.rd1 AC),(167,.rd1 Gu)]) (Aa []) f129 [.tp LCd z 0,.agg [.j y0,.s y1,.j y2,.j y3,.b y4]] []=(.leaf (.b (CH z.lab y0 y1 y4),[]):Br (V×List (Option Blk))).run:=by
 have e:AT prog (Aa [(69,.rd1 AC),(167,.rd1 Gu)]) (Aa []) f129 [.tp LCd z 0,.agg [.j y0,.s y1,.j y2,.j y3,.b y4]] []=((ifB y4 nF (ifB (z.lab.1==(2:Int)) (ifB (y0==0) (some (V.b (decide ((↑y1.length:Int)<=(30:Int))),[])) nF) (ifB
 (z.lab.1==(3:Int)) (ifB (decide (0<=y0/\y0<=z.lab.2.2.2.2.1)) (some (V.b (y1==Ag UInt8),[])) nF) (ifB (BX y0) (some (V.b (y1
 == Ag UInt8),[])) nF)))):_):=by kernel_rfl
 rw [e];clear e;unfold CH
 cases y4 with
 | true=>rfl
 | false=>
  rw [if_neg (by simp)]
  by_cases a2:z.lab.1=2
  ·rw [if_pos a2,a2];cases h:y0==0
   ·rfl
   ·have:decide ((y1.length:Int)<=30)=decide (y1.length<=30):=decide_eq_decide.2 (by omega);simp [Br.run,this]
  ·rw [if_neg a2,AR,Ae (beq_false_of_ne a2)]
   by_cases a3:z.lab.1=3
   ·rw [if_pos a3,a3]
    by_cases q:0<=y0/\y0<=z.lab.2.2.2.2.1
    ·rw [dcT q]; cases y1==[]<;>rfl
    ·rw [dcF q]; rfl
   ·rw [if_neg a3,Ae (beq_false_of_ne a3)];cases BX y0<;>cases y1==[]<;>rfl
theorem Acv:Ac prog 129 (Ent.rd1 Oy).F:=by
 refine fcK (kc func69 Fr (kc func167 WI KnowsL.nil)).knows (Λ:=Aa []) func129 fun vs bs r' hq=>?_
 unfold Ent.F Oy at hq;dsimp only at hq;split at hq
 ·rename_i z y0 y1 y2 y3 y4;exact ⟨Ao _,(RJ z y0 y1 y2 y3 y4).trans hq⟩
 ·cases hq
theorem Q0 (l:List Nd) (a e:Int):AT prog (Aa []) (Aa []) f130 [.bx [.j e] 0,.bx [.sl NCd l] 0,.bx [.j a] 0] [] =
 ((ifB (decide (e<(↑l.length:Int))) (ifT (decide (0<=e)&&decide (e<(↑l.length:Int))) (An l[e.toNat]? fun z=>some (V.b (z.2.2.2.1==a),[]))) nF):_):=by kernel_rfl
theorem Zi {l:List Nd} {a e:Nat} (h:e<l.length):CV l a e=(l[e].2.2.2.1==(a:Int)):=by
 unfold CV upN;rw [gtE h,map_some]
 by_cases q:l[e].2.2.2.1=(a:Int)
 ·rw [q]; simp
 ·rw [beq_false_of_ne q,beq_false_of_ne (fun h=>q (Option.some.inj h))]
theorem Ks {l:List Nd} {a e:Nat} (h:l.length<=e):CV l a e=false:=by
 unfold CV upN;rw [List.getElem?_eq_none h]; rfl
theorem DY {l:List Nd} {a e:Nat} (h:CV l a e=true):e<l.length:=by
 by_cases q:e<l.length
 ·exact q
 ·rw [Ks (by omega)] at h; cases h
theorem Adp:Ac prog 130 (Ent.rd1 O6).F:=by
 refine fcK KnowsL.nil.knows (Λ:=Aa []) func130 fun vs bs r hq=>?_
 unfold Ent.F O6 at hq;dsimp only at hq;split at hq
 ·rename_i e l a;obtain ⟨hc,hx⟩:=Ad hq;obtain ⟨h0,h1⟩:=of_decide_eq_true hc;obtain ⟨e,rfl⟩:=eq_ofNat_of_zero_le h0;obtain ⟨a,rfl⟩:=eq_ofNat_of_zero_le h1;refine ⟨Ao _,Eq.trans ?_ hx⟩;rw [Q0];simp only [ntN]
  by_cases q:e<l.length
  ·rw [Af (dcT (by omega)),T2 (by omega),gtE q,Zi q];rfl
  ·rw [Ae (dcF (by omega)),Ks (by omega)];rfl
 ·cases hq
def MM (n:Nat):Gm
 | [.tp LCd z 0,.sl NCd l,.j a],[]=>.need (decide (Aj z<=n/\Aj z<=1000000/\Ah z=true/\0<=a/\a.toNat<l.length/\l.length<=4000000000)) (.leaf (.j (vfR l z a.toNat),[]))
 | _,_=>.no
def S8:Gm
 | [.tp LCd z 0,.sl NCd l,.j a],[]=>.need (decide (Aj z<=1000000/\Ah z=true/\0<=a/\a.toNat<l.length/\l.length<=4000000000)) (.leaf (.j (vfR l z a.toNat),[]))
 | _,_=>.no
def Gg (n:Nat):LoopEnt:=⟨105,[0,4,5,8,9],[8],[6],fun
 | ([.tp LCd z 0,.ptr 0 0,.ptr 1 0,.ptr 2 0,.fn 130 [] [.ptr 2 0,.ptr 0 0,.ptr 1 0]],[some (.box [.sl NCd l]),some (.box [.j a]),some (.box [.j e])])=>.need (decide (Ak z.kids<=n/\Ak z.kids<=1000000/\z.kids.length=1/\A6 z.lab.1 z.kids=true/\0<=a/\a<e/\e.toNat<=l.length/\l.length<=4000000000)) (.br (decide (vfI l a.toNat (vfH l z.kids) (l.length-e.toNat) e.toNat<0)) (.leaf (.ret,([.j (-1)],[]))) (.leaf (.exit 0,([.ptr 0 0],[some (.box [.j (vfI l a.toNat (vfH l z.kids) (l.length-e.toNat) e.toNat)])]))))
 | _=>.no⟩
def Ft (n:Nat):LoopEnt:=⟨105,[4,5,8,9,69,70,71],[4,5,8,9],[6],fun
 | ([.ptr 0 0,.ptr 1 0,.ptr 2 0,.fn 130 [] [.ptr 2 0,.ptr 0 0,.ptr 1 0],.sl (.tree LCd) ks,.j k,.j i],[some (.box [.sl NCd l]),some (.box [.j a]),some (.box [.j e])])=>.need (decide (Ak ks<=n/\Ak ks<=1000000/\A6 5 ks=true/\0<=i/\i.toNat<=ks.length/\k=ks.length/\0<=a/\a<e/\e.toNat<=l.length/\l.length<=4000000000)) (.br (decide (vfP l (ks.drop i.toNat) a.toNat e.toNat<0)) (.leaf (.ret,([.j (-1)],[]))) (.leaf (.exit 2,([.ptr 0 0,.ptr 1 0,.ptr 2 0,.fn 130 [] [.ptr 2 0,.ptr 0 0,.ptr 1 0]],[some (.box [.sl NCd l]),some (.box [.j a]),some (.box [.j (vfP l (ks.drop i.toNat) a.toNat e.toNat)])]))))
 | _=>.no⟩
def Y3 (l:List Nd) (g:Nat->Int):Prop:=∀ e,e<l.length->g e = -1\/((e:Int)<g e/\g e<=l.length)
theorem NS {l:List Nd} {a:Nat} {g:Nat->Int} (hg:Y3 l g) : ∀ f e,e<=l.length->vfI l a g f e = -1\/((e:Int)<=vfI l a g f e/\vfI l a g f e<=l.length)
 | 0,e,h=>.inr ⟨Int.le_refl _,by rw [vfI]; omega⟩
 | f+1,e,h=>by
  rw [vfI];split
  ·rename_i ho;have hl:=DY ho;split
   ·split
    ·exact .inl rfl
    ·rename_i hn;rcases hg e hl with h1 | ⟨h1,h2⟩
     ·omega
     ·rcases NS (a:=a) hg f (g e).toNat (by omega) with h3 | ⟨h3,h4⟩
      ·exact .inl h3
      ·exact .inr ⟨by omega,h4⟩
   ·exact .inl rfl
  ·exact .inr ⟨Int.le_refl _,by omega⟩
theorem K9 {l:List Nd} {a:Nat} {g:Nat->Int} (hg:Y3 l g) : ∀ f m e,l.length-e<=f->l.length-e<=m->vfI l a g f e=vfI l a g m e
 | 0,0,e,_,_=>rfl
 | 0,m+1,e,h,_=>by rw [vfI,vfI,if_neg (by rw [Ks (by omega)]; simp)]
 | f+1,0,e,_,h=>by rw [vfI,vfI,if_neg (by rw [Ks (by omega)]; simp)]
 | f+1,m+1,e,h1,h2=>by
  rw [vfI,vfI];split
  ·rename_i ho;have hl:=DY ho;split
   ·split
    ·rfl
    ·rename_i hn;rcases hg e hl with h1 | ⟨h1,h2⟩
     ·omega
     ·exact K9 hg f m _ (by omega) (by omega)
   ·rfl
  ·rfl
mutual
theorem Kd (l:List Nd) : ∀ z:Rose Lab,Y3 l (vfR l z)
 | .node x ks=>fun a h=>by
  rw [vfR,gtE h];dsimp only;split
  ·split
   ·exact .inr ⟨by omega,by omega⟩
   ·exact .inl rfl
  ·split
   ·exact .inl rfl
   ·split
    ·rcases NS (a:=a) (Kg l ks) l.length (a+1) h with h3 | ⟨h3,h4⟩
     ·exact .inl h3
     ·exact .inr ⟨by omega,h4⟩
    ·split
     ·exact .inl rfl
     ·split
      ·exact .inl rfl
      ·rcases Ke l ks a (a+1) h with h3 | ⟨h3,h4⟩
       ·exact .inl h3
       ·exact .inr ⟨by omega,h4⟩
theorem Kg (l:List Nd) : ∀ ks:RL,Y3 l (vfH l ks)
 | []=>fun a h=>.inl (by rw [vfH])
 | z::_=>fun a h=>by rw [vfH]; exact Kd l z a h
theorem Ke (l:List Nd) : ∀ (ks:RL) (a e:Nat),e<=l.length->vfP l ks a e = -1\/((e:Int)<=vfP l ks a e/\vfP l ks a e<=l.length)
 | [],a,e,h=>.inr (by rw [vfP]; omega)
 | z::ks,a,e,h=>by
  rw [vfP];split
  ·rename_i ho;have hl:=DY ho.1;split
   ·exact .inl rfl
   ·rcases Kd l z e hl with h1 | ⟨h1,h2⟩
    ·omega
    ·rcases Ke l ks a (vfR l z e).toNat (by omega) with h3 | ⟨h3,h4⟩
     ·exact .inl h3
     ·exact .inr ⟨by omega,h4⟩
  ·split
   ·exact .inl rfl
   ·exact Ke l ks a e h
end
theorem BO {k:Int} {z:Rose Lab} : ∀ {l:RL},A6 k l=true->z∈l->Ah z=true
 | [],_,h=>by cases h
 | y::l,hn,h=>by
  rw [A6,anE,anE] at hn;rcases mem_cons.1 h with rfl | h
  ·exact hn.1.2
  ·exact BO hn.2 h
theorem Gw {l:List Nd} {e:Nat} (h:e<l.length):noN l e=some l[e].2.2.1:=by
 unfold noN;rw [gtE h]; rfl
abbrev Mz (n:Nat):FuncId->Option Ent:=Aa [(87,.rd1 (MM n)),(86,.rd1 F8),(129,.rd1 Oy),(130,.rd1 O6)]
theorem TB (n:Nat) (z:Rose Lab) (l:List Nd) (a e:Int):Au prog (Mz n) (Aa [(11,Gg n),(19,Ft n)]) 0 (body f87 0) (Gg n) ([.tp LCd z 0,.ptr 0 0,.ptr 1 0,.ptr 2 0,.fn 130 [] [.ptr 2 0,.ptr 0 0,.ptr 1 0]],[some (.box [.sl NCd l]),some (.box [.j a]),some (.box [.j e])]) =
 ((ifT (decide (0<=e/\0<=a)) (ifB (CV l a.toNat e.toNat) (ifT (decide (0<=e)&&decide (e<(↑l.length:Int))) (An l[e.toNat]? fun z_1=>ifB (z_1.2.2.1 !=
 (0:Int)) (some (Ex.ret,[V.j (-1)],[])) (ifT (decide ((0:Int)<=(0:Int))&&decide (0<(↑z.kids.length:Int))) (An z.kids[0]? fun z_2=>ifT
 (decide (Aj z_2<=n/\Aj z_2<=1000000/\Ah z_2=true/\0<=e/\e.toNat<l.length/\l.length<=4000000000)) (ifB (decide (vfR l z_2 e.toNat<(0
 : Int))) (some (Ex.ret,[V.j (-1)],[])) (some (Ex.normal,[V.tp LCd z 0,V.ptr 0 0,V.ptr 1 0,V.ptr 2 0,V.fn 130 [] [V.ptr 2 0,V.ptr
 0 0,V.ptr 1 0]],[some (Blk.box [V.sl NCd l]),some (Blk.box [V.j a]),some (Blk.box [V.j (vfR l z_2 e.toNat)])]))))))) (some (Ex.exit 0,[V.ptr 0 0],[some
 (Blk.box [V.j e])])))):_):=by kernel_rfl
theorem MN (n:Nat) (ks:RL) (l:List Nd) (k i a e:Int):Au prog (Mz n) (Aa [(11,Gg n),(19,Ft n)]) 0 (body f87 1) (Ft n) ([.ptr 0 0,.ptr 1 0,.ptr 2 0,.fn 130 [] [.ptr 2 0,.ptr 0 0,.ptr 1 0],.sl (.tree LCd) ks,.j k,.j i],[some (.box [.sl NCd l]),some (.box [.j a]),some (.box [.j e])]) =
 ((ifB (decide (i<k)) (ifT (decide (0<=i)&&decide (i<(↑ks.length:Int))) (An ks[i.toNat]? fun z=>ifT (decide (0<=e/\0<=a)) (ifB (CV l a.toNat e.toNat) (ifT
 (decide (0<=e)&&decide (e<(↑l.length:Int))) (An l[e.toNat]? fun z_1=>ifB (z_1.2.2.1==(Rose.lab z).2.2.1) (ifT (decide (Aj z<=n/\Aj z<=
 1000000/\Ah z=true/\0<=e/\e.toNat<l.length/\l.length<=4000000000)) (ifB (decide (vfR l z e.toNat<(0:Int))) (some (Ex.ret,[V.i .i64
 (-1)],[])) (some (Ex.normal,[V.ptr 0 0,V.ptr 1 0,V.ptr 2 0,V.fn 130 [] [V.ptr 2 0,V.ptr 0 0,V.ptr 1 0],V.sl LCd.tree ks,V.j k,V.i .i64
 (i64.wrap (i+1))],[some (Blk.box [V.sl NCd l]),some (Blk.box [V.j a]),some (Blk.box [V.j (vfR l z e.toNat)])])))) (ifB (Rose.lab z).2.2.2.1
 (some (Ex.ret,[V.j (-1)],[])) (some (Ex.normal,[V.ptr 0 0,V.ptr 1 0,V.ptr 2 0,V.fn 130 [] [V.ptr 2 0,V.ptr 0 0,V.ptr 1 0],V.sl LCd.tree
 ks,V.j k,V.j (i64.wrap (i+1))],[some (Blk.box [V.sl NCd l]),some (Blk.box [V.j a]),some (Blk.box [V.j e])]))))) (ifB (Rose.lab
 z).2.2.2.1 (some (Ex.ret,[V.j (-1)],[])) (some (Ex.normal,[V.ptr 0 0,V.ptr 1 0,V.ptr 2 0,V.fn 130 [] [V.ptr 2 0,V.ptr 0 0,V.ptr 1
 0],V.sl LCd.tree ks,V.j k,V.j (i64.wrap (i+1))],[some (Blk.box [V.sl NCd l]),some (Blk.box [V.j a]),some (Blk.box [V.j e])]))))))
 (some (Ex.exit 2,[V.ptr 0 0,V.ptr 1 0,V.ptr 2 0,V.fn 130 [] [V.ptr 2 0,V.ptr 0 0,V.ptr 1 0]],[some (Blk.box [V.sl NCd l]),some (Blk.box [V.i
 .i64 a]),some (Blk.box [V.j e])]))):_):=by kernel_rfl
theorem Y2 (n:Nat) (z:Rose Lab) (l:List Nd) (a:Int):AT prog (Mz n) (Aa [(11,Gg n),(19,Ft n)]) f87 [.tp LCd z 0,.sl NCd l,.j a] [] =
 ((ifT (decide (0<=a)&&decide (a<(↑l.length:Int))) (An l[a.toNat]? fun z_1=>ifB (!Ar z.lab.1) (ifB (!CH z.lab z_1.1 z_1.2.1
 z_1.2.2.2.2.1) (some (V.j (-1),[])) (some (V.j (i64.wrap (a+1)),[]))) (ifB (!z_1.2.2.2.2.1) (some (V.j (-1),[])) (ifB
 (z_1.1 != (0:Int)) (some (V.j (-1),[])) (ifB (!z_1.2.1==Ag UInt8) (some (V.j (-1),[])) (ifB (z.lab.1==(4:Int)) (ifT (decide (Ak z.kids<=n
 /\ Ak z.kids<=1000000/\z.kids.length=1/\A6 z.lab.1 z.kids=true/\0<=a/\a<i64.wrap (a+1)/\(i64.wrap (a+1)).toNat<=
 l.length/\l.length<=4000000000)) (ifB (decide (vfI l a.toNat (vfH l z.kids) (l.length-(i64.wrap (a+1)).toNat) (i64.wrap (a+1)).toNat<(0
 : Int))) (some (V.j (-1),[])) (some (V.j (vfI l a.toNat (vfH l z.kids) (l.length-(i64.wrap (a+1)).toNat) (i64.wrap (a+1)).toNat),[]))))
 (ifT (decide (Ak z.kids<=n/\Ak z.kids<=1000000/\A6 (5:Int) z.kids=true/\(0:Int)<=(0:Int)/\0<=z.kids.length/\(↑z.kids.length :
 Int)=(↑z.kids.length:Int)/\0<=a/\a<i64.wrap (a+1)/\(i64.wrap (a+1)).toNat<=l.length/\l.length<=4000000000)) (ifB (decide (vfP l
 (drop 0 z.kids) a.toNat (i64.wrap (a+1)).toNat<(0:Int))) (some (V.j (-1),[])) (ifT (decide ((0:Int)<=vfP l (drop 0
 z.kids) a.toNat (i64.wrap (a+1)).toNat/\0<=a)) (ifB (CV l a.toNat (vfP l (drop 0 z.kids) a.toNat (i64.wrap (a+1)).toNat).toNat) (some
 (V.j (-1),[])) (some (V.j (vfP l (drop 0 z.kids) a.toNat (i64.wrap (a+1)).toNat),[])))))))))))):_):=by kernel_rfl
theorem Vy (n:Nat) (z y:Rose Lab) (l:List Nd) (a:Nat) (hk:z.kids=[y]) (g1:Aj y<=n) (g2:Aj y<=1000000) (g3:Ah y=true) (hl:l.length<=4000000000) : ∀ (j e:Nat),e+j=l.length->a<e->∀ ex d,(.br (decide (vfI l a (vfH l z.kids) (l.length-e) e<0)) (.leaf (.ret,([.j (-1)],[]))) (.leaf (.exit 0,([.ptr 0 0],[some (.box [.j (vfI l a (vfH l z.kids) (l.length-e) e)])]))):Br (Ex×Dt)).run=some (ex,d)->
  Runs prog (Mz n) (Aa [(11,Gg n),(19,Ft n)]) 0 (body f87 0) (Gg n) ([.tp LCd z 0,.ptr 0 0,.ptr 1 0,.ptr 2 0,.fn 130 [] [.ptr 2 0,.ptr 0 0,.ptr 1 0]],[some (.box [.sl NCd l]),some (.box [.j (a:Int)]),some (.box [.j (e:Int)])]) ex d:=by
 intro j
 induction j using Nat.strongRecOn with
 | ind j ih=>
  intro e he hae ex d h;have hr:=TB n z l a e;rw [Dy] at h;rw [Ab (dcT (by omega))] at hr;simp only [ntN] at hr
  cases ho:CV l a e with
  | false=>
   have hv : ∀ f,vfI l a (vfH l z.kids) f e=e:=fun f=>by cases f<;>rw [vfI]; rw [if_neg (by rw [ho]; simp)]
   rw [hv,if_neg (by omega)] at h;obtain ⟨rfl,rfl⟩:=lfP h;rw [ho,AR] at hr;exact stp hr
  | true=>
   have h1:=DY ho;obtain ⟨f,hf⟩ : ∃ f,l.length-e=f+1:=⟨l.length-e-1,by omega⟩
   rw [hf,vfI,if_pos ho,Gw h1,hk,vfH] at h;rw [ho,Bg,T2 (by omega),gtE h1,Ap] at hr
   by_cases q:l[e].2.2.1=0
   ·have hk0:z.kids[(0:Nat)]? = some y:=by rw [hk]; rfl
    have hk1:z.kids.length=1:=by rw [hk]; rfl
    rw [Ae (by simp [q]),Ab (by rw [hk1]; rfl),hk0,Ap,Ab (dcT ⟨g1,g2,g3,by omega,h1,hl⟩)] at hr;rw [q,if_pos rfl] at h
    by_cases q2:vfR l y e<0
    ·rw [if_pos q2,if_pos (by omega)] at h;obtain ⟨rfl,rfl⟩:=lfP h;rw [Af (dcT q2)] at hr;exact stp hr
    ·rw [if_neg q2] at h;rw [Ae (dcF q2)] at hr;rcases Kd l y e h1 with b1 | ⟨b1,b2⟩
     ·omega
     obtain ⟨e',he'⟩:=eq_ofNat_of_zero_le (by omega:0<=vfR l y e);rw [he'] at hr h b1 b2;rw [ntN,K9 (Kg l [y]) f (l.length-e') e' (by omega) (by omega),<-hk] at h;exact sts hr (ih (l.length-e') (by omega) e' (by omega) (by omega) ex d (by rw [Dy]; exact h))
   ·have hv:(if some l[e].2.2.1=some (0:Int) then (if vfR l y e<0 then (-1:Int) else vfI l a (vfH l [y]) f (vfR l y e).toNat) else -1) = -1:=if_neg (by simpa using q);rw [hv,if_pos (by omega)] at h;obtain ⟨rfl,rfl⟩:=lfP h;rw [Af (by simpa using q)] at hr;exact stp hr
theorem Abi (n:Nat) : ∀ d e d',((Gg n).L d).run=some (e,d')->Runs prog (Mz n) (Aa [(11,Gg n),(19,Ft n)]) 0 (body f87 0) (Gg n) d e d':=fun d ex d' h=>by
 unfold Gg at h;dsimp only at h;split at h
 ·rename_i z l a e;obtain ⟨hc,hx⟩:=Ad h;clear h;obtain ⟨g1,g2,g3,g4,h0,h1,h2,h3⟩:=of_decide_eq_true hc;obtain ⟨a,rfl⟩:=eq_ofNat_of_zero_le h0;obtain ⟨e,rfl⟩:=eq_ofNat_of_zero_le (by omega:0<=e);obtain ⟨y,hy⟩:=List.length_eq_one_iff.1 g3;rw [hy] at g1 g2 g4;rw [Ak,Ak] at g1 g2;rw [A6,anE,anE] at g4;simp only [ntN] at h2 hx;exact Vy n z y l a hy (by omega) (by omega) g4.1.2 h3 (l.length-e) e (by omega) (by omega) ex d' hx
 ·cases h
theorem KA (n:Nat) (ks:RL) (l:List Nd) (a:Nat) (g1:Ak ks<=n) (g2:Ak ks<=1000000) (g3:A6 5 ks=true) (hl:l.length<=4000000000) : ∀ (j i e:Nat),i+j=ks.length->a<e->e<=l.length->∀ ex d,(.br (decide (vfP l (ks.drop i) a e<0)) (.leaf (.ret,([.j (-1)],[]))) (.leaf (.exit 2,([.ptr 0 0,.ptr 1 0,.ptr 2 0,.fn 130 [] [.ptr 2 0,.ptr 0 0,.ptr 1 0]],[some (.box [.sl NCd l]),some (.box [.j (a:Int)]),some (.box [.j (vfP l (ks.drop i) a e)])]))):Br (Ex×Dt)).run=some (ex,d)->
  Runs prog (Mz n) (Aa [(11,Gg n),(19,Ft n)]) 0 (body f87 1) (Ft n) ([.ptr 0 0,.ptr 1 0,.ptr 2 0,.fn 130 [] [.ptr 2 0,.ptr 0 0,.ptr 1 0],.sl (.tree LCd) ks,.j (ks.length:Int),.j (i:Int)],[some (.box [.sl NCd l]),some (.box [.j (a:Int)]),some (.box [.j (e:Int)])]) ex d
 | 0,i,e,hi,hae,he,ex,d,h=>by
  have hr:=MN n ks l ks.length i a e;rw [drop_eq_nil_of_le (by omega),vfP,Dy,if_neg (by omega)] at h;obtain ⟨rfl,rfl⟩:=lfP h;rw [Ae (dcF (by omega))] at hr;exact stp hr
 | j+1,i,e,hi,hae,he,ex,d,h=>by
  have hil:i<ks.length:=by omega
  have hlen:=Bc ks;have hmem:=Bo (getElem_mem hil);have hM:=mxI;have hri:Ah ks[i]=true:=BO g3 (getElem_mem hil);have hr:=MN n ks l ks.length i a e;rw [Af (dcT (by omega)),T2 (by omega)] at hr;simp only [ntN,gtE hil,Ap,Az (n:=i) (by omega)] at hr;rw [Ab (dcT (by omega))] at hr;rw [drop_eq_getElem_cons hil,vfP] at h
  have must : ∀ {x:Option (Ex×Dt)},x=(bif ks[i].lab.2.2.2.1 then some (Ex.ret,[V.j (-1)],[]) else some (Ex.normal,[.ptr 0 0,.ptr 1 0,.ptr 2 0,.fn 130 [] [.ptr 2 0,.ptr 0 0,.ptr 1 0],.sl (.tree LCd) ks,.j (ks.length:Int),.j ((i+1:Nat):Int)],[some (.box [.sl NCd l]),some (.box [.j (a:Int)]),some (.box [.j (e:Int)])]))->
    (Br.br (decide ((if ks[i].lab.2.2.2.1=true then -1 else vfP l (ks.drop (i+1)) a e)<0)) (.leaf (.ret,([.j (-1)],[]))) (.leaf (.exit 2,([.ptr 0 0,.ptr 1 0,.ptr 2 0,.fn 130 [] [.ptr 2 0,.ptr 0 0,.ptr 1 0]],[some (.box [.sl NCd l]),some (.box [.j (a:Int)]),some (.box [.j (if ks[i].lab.2.2.2.1=true then -1 else vfP l (ks.drop (i+1)) a e)])]))):Br (Ex×Dt)).run=some (ex,d)->
    Au prog (Mz n) (Aa [(11,Gg n),(19,Ft n)]) 0 (body f87 1) (Ft n) ([.ptr 0 0,.ptr 1 0,.ptr 2 0,.fn 130 [] [.ptr 2 0,.ptr 0 0,.ptr 1 0],.sl (.tree LCd) ks,.j (ks.length:Int),.j (i:Int)],[some (.box [.sl NCd l]),some (.box [.j (a:Int)]),some (.box [.j (e:Int)])])=x->Runs prog (Mz n) (Aa [(11,Gg n),(19,Ft n)]) 0 (body f87 1) (Ft n) ([.ptr 0 0,.ptr 1 0,.ptr 2 0,.fn 130 [] [.ptr 2 0,.ptr 0 0,.ptr 1 0],.sl (.tree LCd) ks,.j (ks.length:Int),.j (i:Int)],[some (.box [.sl NCd l]),some (.box [.j (a:Int)]),some (.box [.j (e:Int)])]) ex d:=fun hx h hr=>by
   cases hm:ks[i].lab.2.2.2.1 with
   | true=>
    rw [hm,if_pos rfl,Dy,if_pos (by omega)] at h;obtain ⟨rfl,rfl⟩:=lfP h;rw [hm,cond_true] at hx;exact .stop _ _ _ (hr.trans hx) (by simp)
   | false=>
    rw [hm,if_neg (by simp)] at h;rw [hm,cond_false] at hx;exact sts (hr.trans hx) (KA n ks l a g1 g2 g3 hl j (i+1) e (by omega) hae he ex d h)
  cases ho:CV l a e with
  | false=>
   rw [ho,if_neg (by simp)] at h;rw [ho,AR] at hr;exact must rfl h (hr.trans (by cases ks[i].lab.2.2.2.1<;>rfl))
  | true=>
   have h1:=DY ho;rw [ho,Bg,T2 (by omega),gtE h1,Ap] at hr;rw [ho,Gw h1] at h
   by_cases q:l[e].2.2.1=ks[i].lab.2.2.1
   ·rw [Af (by rw [q]; exact beq_self_eq_true _),Ab (dcT ⟨by omega,by omega,hri,by omega,h1,hl⟩)] at hr;rw [q,if_pos ⟨rfl,rfl⟩] at h
    by_cases q2:vfR l ks[i] e<0
    ·rw [if_pos q2,Dy,if_pos (by omega)] at h;obtain ⟨rfl,rfl⟩:=lfP h;rw [Af (dcT q2)] at hr;exact stp hr
    ·rw [if_neg q2] at h;rw [Ae (dcF q2)] at hr;rcases Kd l ks[i] e h1 with b1 | ⟨b1,b2⟩
     ·omega
     obtain ⟨e',he'⟩:=eq_ofNat_of_zero_le (by omega:0<=vfR l ks[i] e);rw [he'] at hr h b1 b2;rw [ntN] at h;exact sts hr (KA n ks l a g1 g2 g3 hl j (i+1) e' (by omega) (by omega) (by omega) ex d h)
   ·rw [if_neg (fun hh=>q (Option.some.inj hh.2))] at h;rw [Ae (beq_false_of_ne q)] at hr;exact must rfl h (hr.trans (by cases ks[i].lab.2.2.2.1<;>rfl))
theorem Abh (n:Nat) : ∀ d e d',((Ft n).L d).run=some (e,d')->Runs prog (Mz n) (Aa [(11,Gg n),(19,Ft n)]) 0 (body f87 1) (Ft n) d e d':=fun d ex d' h=>by
 unfold Ft at h;dsimp only at h;split at h
 ·rename_i ks k i l a e;obtain ⟨hc,hx⟩:=Ad h;clear h;obtain ⟨g1,g2,g3,h0,h1,rfl,h2,h3,h4,h5⟩:=of_decide_eq_true hc;obtain ⟨a,rfl⟩:=eq_ofNat_of_zero_le h2;obtain ⟨e,rfl⟩:=eq_ofNat_of_zero_le (by omega:0<=e);obtain ⟨i,rfl⟩:=eq_ofNat_of_zero_le h0;simp only [ntN] at h1 h4 hx;exact KA n ks l a g1 g2 g3 h5 (ks.length-i) i e (by omega) (by omega) h4 ex d' hx
 ·cases h
theorem Aes (n:Nat):Aw prog (Mz n) (Aa [(11,Gg n),(19,Ft n)]) 0 (f87.body.getD .skip):=
 LoopsI.loops (.cons (a:=body f87 0) (by kernel_rfl) (Abi n) (.cons (a:=body f87 1) (by kernel_rfl) (Abh n) .nil)) (by kernel_rfl)
theorem Rh {l:List Nd} {a:Nat} (z:Rose Lab) (h:a<l.length):vfR l z a=(if Ar z.lab.1=false then (if CH z.lab l[a].1 l[a].2.1 l[a].2.2.2.2.1=true then (a:Int)+1 else -1)
   else if (!l[a].2.2.2.2.1||l[a].1 != 0||l[a].2.1 != [])=true then -1
   else if z.lab.1=4 then vfI l a (vfH l z.kids) l.length (a+1) else (if vfP l z.kids a (a+1)<0 then -1 else if CV l a (vfP l z.kids a (a+1)).toNat=true then -1 else vfP l z.kids a (a+1))):=by
 cases z;rw [vfR,gtE h];rfl
theorem Cr {z:Rose Lab} (h:Ah z=true):B5 z.lab z.kids=true/\A6 z.lab.1 z.kids=true:=by
 cases z;rw [Ah,anE] at h;exact h
theorem Abf (n:Nat) (z:Rose Lab) (l:List Nd) (a:Int) (hc:Aj z<=n+1/\Aj z<=1000000/\Ah z=true/\0<=a/\a.toNat<l.length/\l.length<=4000000000):AT prog (Mz n) (Aa [(11,Gg n),(19,Ft n)]) f87 [.tp LCd z 0,.sl NCd l,.j a] []=some (.j (vfR l z a.toNat),[]):=by
 rw [Y2];obtain ⟨g1,g2,g3,h0,h1,h2⟩:=hc;obtain ⟨a,rfl⟩:=eq_ofNat_of_zero_le h0;rw [ntN] at h1;obtain ⟨hp,hrr⟩:=Cr g3;have hM:=mxI;have hw:i64.wrap ((a:Int)+1)=((a+1:Nat):Int):=Az (by omega);rw [T2 (by omega),hw,ntN,ntN,gtE h1,Ap,Rh z h1];have hlen:=Bc z.kids;have hck:=AE z
 cases hh:Ar z.lab.1 with
 | false=>
  cases CH z.lab l[a].1 l[a].2.1 l[a].2.2.2.2.1<;>rfl
 | true=>
  rw [Bool.not_true,AR,if_neg (by simp)]
  cases l[a].2.2.2.2.1 with
  | false=>rfl
  | true=>
   cases q1:l[a].1 != 0 with
   | true=>rfl
   | false=>
    have e2:(l[a].2.1 != ([]:By)) = !(l[a].2.1==Ag UInt8):=rfl;rw [e2]
    cases q2:l[a].2.1==Ag UInt8 with
    | false=>rfl
    | true=>
     rw [Bool.not_true,AR,AR,AR,if_neg (by simp)]
     by_cases q4:z.lab.1=4
     ·have hk1:z.kids.length=1:=by
       unfold B5 at hp;rw [if_neg (by omega),if_neg (by omega),if_pos q4,anE] at hp
       simpa using hp.2
      rw [if_pos q4,Af (by rw [q4]; rfl),Ab (dcT ⟨by omega,by omega,hk1,hrr,by omega,by omega,by omega,h2⟩)];rw [K9 (Kg l z.kids) l.length (l.length-(a+1)) (a+1) (by omega) (by omega)]
      by_cases q5:vfI l a (vfH l z.kids) (l.length-(a+1)) (a+1)<0
      ·rw [Af (dcT q5)];rcases NS (a:=a) (Kg l z.kids) (l.length-(a+1)) (a+1) (by omega) with b | b
       ·rw [b]
       ·omega
      ·rw [Ae (dcF q5)]
     ·have h5:z.lab.1=5:=by
       unfold Ar at hh;simp only [Bool.or_eq_true,beq_iff_eq] at hh;omega
      rw [h5] at hrr;rw [if_neg q4,Ae (beq_false_of_ne q4),Ab (dcT ⟨by omega,by omega,hrr,by omega,by omega,rfl,by omega,by omega,by omega,h2⟩),drop_zero];rcases Ke l z.kids a (a+1) (by omega) with b | ⟨b1,b2⟩
      ·rw [b]; rfl
      ·rw [Ae (dcF (by omega)),if_neg (by omega),Ab (dcT ⟨by omega,by omega⟩)];cases CV l a (vfP l z.kids a (a+1)).toNat<;>rfl
theorem Abg : ∀ n,(∀ m,m<n->Ac prog 87 (Ent.rd1 (MM m)).F)->Ac prog 87 (Ent.rd1 (MM n)).F
 | 0,_=>AP fun vs bs=>by
  unfold Ent.F MM;dsimp only;split
  ·rename_i z l a;have:decide (Aj z<=0/\Aj z<=1000000/\Ah z=true/\0<=a/\a.toNat<l.length/\l.length<=4000000000)=false:=dcF (by have:=BN z; omega);rw [this]; rfl
  ·rfl
 | n+1,ih=>by
  refine fcK (kc func87 (ih n (lt_succ_self n)) (kc func86 L4 (kc func129 Acv (kc func130 Adp KnowsL.nil)))).knows (Λ:=(Aa [(11,Gg n),(19,Ft n)])) func87 fun vs bs r hq=>?_
  unfold Ent.F MM at hq;dsimp only at hq;split at hq
  ·rename_i z l a;obtain ⟨hc,hx⟩:=Ad hq;exact ⟨Aes n,(Abf n z l a (of_decide_eq_true hc)).trans hx⟩
  ·cases hq
theorem Agh:Ac prog 87 (Ent.rd1 S8).F:=by
 refine Bb (F:=fun n=>(Ent.rd1 (MM n)).F) Abg fun vs bs r h=>?_
 unfold Ent.F S8 at h;dsimp only at h;split at h
 ·rename_i z l a;obtain ⟨hc,hx⟩:=Ad h;refine ⟨Aj z,?_⟩;show (Br.need (decide (Aj z<=Aj z/\Aj z<=1000000/\Ah z=true/\0<=a/\a.toNat<l.length/\l.length<=4000000000)) (.leaf (.j (vfR l z a.toNat),[]))).run=some r;have:decide (Aj z<=Aj z/\Aj z<=1000000/\Ah z=true/\0<=a/\a.toNat<l.length/\l.length<=4000000000)=true:=dcT ⟨Nat.le_refl _,of_decide_eq_true hc⟩;rw [this];exact hx
 ·cases h
def Fs (z:Rose Lab) (v:List Nd):Bool:=decide (1<=v.length/\v.length<=40)&&(upN v 0==some (-1)&&(noN v 0==some 0&&decide (vfR v z 0=v.length)))
def LH (v:List Nd) (l:List Ty):Bool:=Ay l&&Fs (kf l 0).1 v
def RZ:Gm
 | [.tp LCd z 0,.agg [.sl NCd v]],[]=>.need (decide (Aj z<=1000000/\Ah z=true)) (.leaf (.b (Fs z v),[]))
 | _,_=>.no
theorem U6 (z:Rose Lab) (v:List Nd) (hc:Aj z<=1000000/\Ah z=true):AT prog (Aa [(69,.rd1 AC),(87,.rd1 S8)]) (Aa []) f44 [.tp LCd z 0,.agg [.sl NCd v]] []=some (.b (Fs z v),[]):=by
 have e:AT prog (Aa [(69,.rd1 AC),(87,.rd1 S8)]) (Aa []) f44 [.tp LCd z 0,.agg [.sl NCd v]] []=((ifB (decide (1<=(↑v.length:Int)/\(↑v.length:Int)<=(40:Int))) (ifT (decide ((0:Int)<=(0:Int))&&decide (0<(↑v.length:Int))) (An v[0]? fun z_1
 => ifB (z_1.2.2.2.1==(-1:Int)) (ifT (decide ((0:Int)<=(0:Int))&&decide (0<(↑v.length:Int))) (An v[0]? fun z_2=>ifB (z_2.2.2.1
 == (0:Int)) (ifT (decide (Aj z<=1000000/\Ah z=true/\(0:Int)<=(0:Int)/\0<v.length/\v.length<=4000000000)) (some (V.b (vfR v
 z 0==(↑v.length:Int)),[]))) nF)) nF)) nF):_):=by kernel_rfl
 rw [e];clear e;unfold Fs;have d1:decide ((1:Int)<=(v.length:Int)/\(v.length:Int)<=40)=decide (1<=v.length/\v.length<=40):=decide_eq_decide.2 (by omega);rw [d1]
 by_cases a1:1<=v.length/\v.length<=40
 ·have h0:0<v.length:=by omega
  rw [dcT a1];have hz:decide ((0:Int)<(v.length:Int))=true:=dcT (by omega);have hn:decide (Aj z<=1000000/\Ah z=true/\(0:Int)<=0/\0<v.length/\v.length<=4000000000)=true:=dcT ⟨hc.1,hc.2,by omega,h0,by omega⟩;have hu:upN v 0=some v[0].2.2.2.1:=by unfold upN; rw [gtE h0]; rfl
  have he:(vfR v z 0==(v.length:Int))=decide (vfR v z 0=v.length):=Bool.eq_iff_iff.2 (by simp);have h1 : ∀ a b:Int,(some a==some b)=(a==b):=fun a b=>rfl
  rw [hz,hn,gtE h0,hu,Gw h0,he,h1,h1];simp only [Bg,Ap,Bool.true_and];cases v[0].2.2.2.1==-1<;>cases v[0].2.2.1==0<;>rfl
 ·rw [dcF a1]; rfl
theorem Afj:Ac prog 44 (Ent.rd1 RZ).F:=by
 refine fcK (kc func69 Fr (kc func87 Agh KnowsL.nil)).knows (Λ:=Aa []) func44 fun vs bs r hq=>?_
 unfold Ent.F RZ at hq;dsimp only at hq;split at hq
 ·rename_i z v;obtain ⟨hc,hx⟩:=Ad hq;exact ⟨Ao _,(U6 z v (of_decide_eq_true hc)).trans hx⟩
 ·cases hq
theorem Qo {l:List Ty} (h:Ay l=true):Aj (kf l 0).1<=1000000/\Ah (kf l 0).1=true:=by
 unfold Ay at h;simp only [anE,dcE] at h;obtain ⟨⟨⟨h1,_⟩,h3⟩,h4⟩:=h;have hl:0<l.length:=by omega
 have hc:=L6 hl;have hb:=CI l 0 hl;refine ⟨by omega,?_⟩;unfold CJ at h4;simp only [anE] at h4;exact h4.1.1.2
abbrev A4:=Int×By×Int×Bool×Unit
def IZ (l:List Nd) (i:Nat):A4:=match l[i]? with | some x=>(x.1,x.2.1,x.2.2.1,x.2.2.2.2.1,()) | none=>(0,[],0,false,())
def nkL (k:Int):Nat->List Nd->List Int
 | _,[]=>[]
 | i,x::l=>if x.2.2.2.1=k then (i:Int)::nkL k (i+1) l else nkL k (i+1) l
def EW (l:List Nd) (k:Nat):List Int:=nkL k (k+1) (l.drop (k+1))
def v4t (l:List Nd):Nat->Nat->Rose A4
 | 0,k=>.node (IZ l k) []
 | f+1,k=>.node (IZ l k) ((EW l k).map fun i=>v4t l f i.toNat)
def v4L (l:List Nd) (k:Nat):Rose A4:=v4t l l.length k
def Ec:LoopEnt:=⟨29,[1,2,5,6],[5],[],fun
 | ([.j k,.ptr 0 0,.ref 1 0 n,.j i],[some (.box [.sl NCd l]),R0 (.int .i64) o])=>.need (decide (0<=i/\i.toNat<=l.length/\l.length<=4000000000/\n=o.length/\o.length<=i.toNat)) (.leaf (.exit 0,([.ref 0 0 (o++nkL k i.toNat (l.drop i.toNat)).length],[R0 (.int .i64) (o++nkL k i.toNat (l.drop i.toNat))])))
 | _=>.no⟩
def Oz:Gm
 | [.agg [.sl NCd l],.j k],[]=>.need (decide (0<=k/\k.toNat<l.length/\l.length<=4000000000)) (.leaf (.ref 0 0 (EW l k.toNat).length,[R0 (.int .i64) (EW l k.toNat)]))
 | _,_=>.no
def F3 (n:Nat):Gm
 | [.agg [.sl NCd l],.j k],[]=>.need (decide (0<=k/\k.toNat<l.length/\l.length<=4000000000/\l.length-k.toNat<=n)) (.leaf (.agg [.j (v4L l k.toNat).lab.1,.s (v4L l k.toNat).lab.2.1,.j (v4L l k.toNat).lab.2.2.1,.b (v4L l k.toNat).lab.2.2.2.1,.ref 0 0 (v4L l k.toNat).kids.length],[R0 (.rose VCd) (v4L l k.toNat).kids]))
 | _,_=>.no
def Ir:Gm
 | [.agg [.sl NCd l],.j k],[]=>.need (decide (0<=k/\k.toNat<l.length/\l.length<=4000000000)) (.leaf (.agg [.j (v4L l k.toNat).lab.1,.s (v4L l k.toNat).lab.2.1,.j (v4L l k.toNat).lab.2.2.1,.b (v4L l k.toNat).lab.2.2.2.1,.ref 0 0 (v4L l k.toNat).kids.length],[R0 (.rose VCd) (v4L l k.toNat).kids]))
 | _,_=>.no
def Eb (n:Nat):LoopEnt:=⟨41,[2,4,6,25,26,27],[4,6],[],fun
 | ([.ptr 0 0,.ptr 1 0,.ptr 2 0,.ref 3 0 p,.j m,.j i],[some (.box [.sl NCd l]),some (.box [.j 0,.s [],.j 0,.b false,.ref 4 0 0]),some (.box [.j x0,.s x1,.j x2,.b x3,.ref 5 0 k]),R0 (.int .i64) q,R0 (.rose VCd) [],R0 (.rose VCd) ks])=>.need (decide (0<=i/\i.toNat<=q.length/\m=q.length/\p=q.length/\k=ks.length/\ks.length<=i.toNat/\q.length<=4000000000/\l.length<=4000000000)&&(q.all fun i:Int=>decide (0<=i/\i.toNat<l.length/\l.length-i.toNat<=n))) (.leaf (.exit 0,([.ptr 0 0,.ptr 1 0],[some (.box [.j 0,.s [],.j 0,.b false,.ref 2 0 0]),some (.box [.j x0,.s x1,.j x2,.b x3,.ref 3 0 (ks++(q.drop i.toNat).map fun i=>v4L l i.toNat).length]),R0 (.rose VCd) [],R0 (.rose VCd) (ks++(q.drop i.toNat).map fun i=>v4L l i.toNat)])))
 | _=>.no⟩
theorem IL (z:Rose A4):Rose.node (z.lab.1,z.lab.2.1,z.lab.2.2.1,z.lab.2.2.2.1,()) (take z.kids.length (drop 0 z.kids))=z:=by
 obtain ⟨⟨_,_,_,_,⟨⟩⟩,ks⟩:=z;simp [Rose.lab,Rose.kids]
theorem SY {k:Int} : ∀ {l:List Nd} {i:Nat} {x:Int},x∈nkL k i l->∃ j:Nat,x=(j:Int)/\i<=j/\j<i+l.length
 | [],i,x,h=>by simp [nkL] at h
 | y::l,i,x,h=>by
  rw [nkL] at h
  have rest:x∈nkL k (i+1) l->∃ j:Nat,x=(j:Int)/\i<=j/\j<i+(y::l).length:=fun h=>by
   obtain ⟨j,h1,h2,h3⟩:=SY h;exact ⟨j,h1,by omega,by simp; omega⟩
  split at h
  ·rcases mem_cons.1 h with rfl | h
   ·exact ⟨i,rfl,Nat.le_refl _,by simp⟩
   ·exact rest h
  ·exact rest h
theorem Li {l:List Nd} {k:Nat} {x:Int} (h:x∈EW l k) : ∃ j:Nat,x=(j:Int)/\k<j/\j<l.length:=by
 obtain ⟨j,h1,h2,h3⟩:=SY h;rw [length_drop] at h3;exact ⟨j,h1,by omega,by omega⟩
theorem Ou (k:Int) : ∀ (l:List Nd) (i:Nat),(nkL k i l).length<=l.length
 | [],i=>Nat.le_refl _
 | y::l,i=>by
  rw [nkL];have:=Ou k l (i+1);split<;>simp<;>omega
theorem SB (l:List Nd) : ∀ (f f' k:Nat),l.length-k<=f->l.length-k<=f'->k<l.length->v4t l f k=v4t l f' k
 | 0,f',k,h1,_,h=>by omega
 | f+1,0,k,_,h1,h=>by omega
 | f+1,f'+1,k,h1,h2,h=>by
  unfold v4t;congr 1;refine List.map_congr_left fun x hx=>?_
  obtain ⟨j,rfl,h3,h4⟩:=Li hx;exact SB l f f' _ (by simp; omega) (by simp; omega) (by simpa using h4)
theorem Aa6 {l:List Nd} {k:Nat} (h:k<l.length):v4L l k = .node (IZ l k) ((EW l k).map fun i=>v4L l i.toNat):=by
 obtain ⟨m,hm⟩ : ∃ m,l.length=m+1:=⟨l.length-1,by omega⟩
 unfold v4L
 conv=>lhs; rw [hm]
 rw [v4t];congr 1;refine List.map_congr_left fun x hx=>?_
 obtain ⟨j,rfl,h3,h4⟩:=Li hx;exact SB l m l.length _ (by simp; omega) (by simp) (by simpa using h4)
theorem Is (l:List Nd) (k:Int) (n:Nat) (i:Int) (o:List Int):Au prog (Aa []) (Aa [(3,Ec)]) 0 (body f123 0) Ec ([.j k,.ptr 0 0,.ref 1 0 n,.j i],[some (.box [.sl NCd l]),R0 (.int .i64) o]) =
 ((ifB (decide (i<(↑l.length:Int))) (ifT (decide (0<=i)&&decide (i<(↑l.length:Int))) (An l[i.toNat]? fun z=>ifB (z.2.2.2.1==k) (ifT (decide ((n +
 1)*8<=140737488355328)&&decide (n+1<=maxI)) (some (Ex.normal,[V.j k,V.ptr 0 0,V.ref 1 0 (n+1),V.i .i64
 (i64.wrap (i+1))],[some (Blk.box [V.sl NCd l]),R0 (Cd.int .i64) (take n (drop 0 o)++i::Ag (Cd.int
 .i64).den)]))) (some (Ex.normal,[V.j k,V.ptr 0 0,V.ref 1 0 n,V.j (i64.wrap (i+1))],[some (Blk.box [V.sl NCd l]),R0 (Cd.int .i64) o])))) (some (Ex.exit 0,[V.ref 0 0 n],[R0 (Cd.int .i64) o]))):_):=by kernel_rfl
theorem G2 (l:List Nd) (k:Int) (hl:l.length<=4000000000) : ∀ (j i:Nat) (o:List Int),i+j=l.length->o.length<=i->
  Runs prog (Aa []) (Aa [(3,Ec)]) 0 (body f123 0) Ec ([.j k,.ptr 0 0,.ref 1 0 o.length,.j (i:Int)],[some (.box [.sl NCd l]),R0 (.int .i64) o]) (.exit 0) ([.ref 0 0 (o++nkL k i (l.drop i)).length],[R0 (.int .i64) (o++nkL k i (l.drop i))])
 | 0,i,o,hi,ho=>by
  have hr:=Is l k o.length i o;rw [Ae (dcF (by omega))] at hr;rw [drop_eq_nil_of_le (by omega),nkL,append_nil];exact stp hr
 | j+1,i,o,hi,ho=>by
  have h1:i<l.length:=by omega
  have hM:=mxI;have hr:=Is l k o.length i o;rw [Af (dcT (by omega)),T2 (by omega)] at hr;simp only [ntN,gtE h1,Ap,Az (n:=i) (by omega),drop_zero,take_length] at hr;rw [drop_eq_getElem_cons h1,nkL]
  by_cases h2:l[i].2.2.2.1=k
  ·rw [Af (by rw [h2]; exact beq_self_eq_true _),T2 (by omega)] at hr;rw [if_pos h2];have ih:=G2 l k hl j (i+1) (o++[(i:Int)]) (by omega) (by simp; omega);rw [append_assoc] at ih;exact sts (hr.trans (by simp)) ih
  ·rw [Ae (beq_false_of_ne h2)] at hr;rw [if_neg h2];exact sts hr (G2 l k hl j (i+1) o (by omega) (by omega))
theorem Uz:Aw prog (Aa []) (Aa [(3,Ec)]) 0 (f123.body.getD .skip):=by
 refine As (a:=body f123 0) (by kernel_rfl) fun d ex d' h=>?_
 unfold Ec at h;dsimp only at h;split at h
 ·rename_i k n i l o;obtain ⟨hc,hx⟩:=Ad h;clear h;obtain ⟨h0,h1,h2,rfl,h4⟩:=of_decide_eq_true hc;obtain ⟨i,rfl⟩:=eq_ofNat_of_zero_le h0;simp only [ntN] at h1 h4 hx;obtain ⟨rfl,rfl⟩:=lfP hx;exact G2 l k h2 (l.length-i) i o (by omega) h4
 ·cases h
theorem RN (l:List Nd) (k:Int) (hc:0<=k/\k.toNat<l.length/\l.length<=4000000000):Cx prog (Aa []) (Aa [(3,Ec)]) f123 [.agg [.sl NCd l],.j k] []=some (.ref 0 0 (EW l k.toNat).length,[R0 (.int .i64) (EW l k.toNat)]):=by
 have e:Cx prog (Aa []) (Aa [(3,Ec)]) f123 [.agg [.sl NCd l],.j k] []=((ifT (decide (0<=i64.wrap (k+1)/\(i64.wrap (k+1)).toNat<=l.length/\l.length<=4000000000/\0=0/\0<=
 (i64.wrap (k+1)).toNat)) (some (V.ref 0 0 (Ag (Cd.int .i64).den++nkL k (i64.wrap (k+1)).toNat (drop (i64.wrap (k+1)).toNat
 l)).length,[R0 (Cd.int .i64) (Ag (Cd.int .i64).den++nkL k (i64.wrap (k+1)).toNat (drop (i64.wrap (k+1)).toNat l))]))):_):=by kernel_rfl
 rw [e];clear e;obtain ⟨h0,h1,h2⟩:=hc;obtain ⟨k,rfl⟩:=eq_ofNat_of_zero_le h0;rw [ntN] at h1;have hM:=mxI;rw [Az (n:=k) (by omega),Ab (dcT ⟨by omega,by omega,h2,by simp,by simp⟩)];simp only [ntN,A7,nil_append];rfl
theorem Ac0:Ac prog 123 (Ent.rd1 Oz).F:=by
 refine fcN KnowsL.nil.knows (Λ:=(Aa [(3,Ec)])) func123 fun vs bs r hq=>?_
 unfold Ent.F Oz at hq;dsimp only at hq;split at hq
 ·rename_i l k;obtain ⟨hc,hx⟩:=Ad hq;exact ⟨Uz,(RN l k (of_decide_eq_true hc)).trans hx⟩
 ·cases hq
abbrev Yv (n:Nat):FuncId->Option Ent:=Aa [(123,.rd1 Oz),(77,.rd1 (F3 n))]
theorem Iq (n:Nat) (l:List Nd) (x0:Int) (x1:By) (x2:Int) (x3:Bool) (p:Nat) (m i:Int) (k:Nat) (q:List Int) (ks:RVL):Au prog (Yv n) (Aa [(4,Eb n)]) 0 (body f77 0) (Eb n) ([.ptr 0 0,.ptr 1 0,.ptr 2 0,.ref 3 0 p,.j m,.j i],[some (.box [.sl NCd l]),some (.box [.j 0,.s [],.j 0,.b false,.ref 4 0 0]),some (.box [.j x0,.s x1,.j x2,.b x3,.ref 5 0 k]),R0 (.int .i64) q,R0 (.rose VCd) [],R0 (.rose VCd) ks]) =
 ((ifB (decide (i<m)) (ifT (decide (0<=i)&&decide (i<(↑p:Int))) (An q[0+i.toNat]? fun z=>ifT (decide ((0:Int)<=z/\toNat z<l.length/\
 l.length<=4000000000/\l.length-toNat z<=n)) (ifT (decide ((k+1)*64<=140737488355328)&&decide (k+1<=maxI)) (some
 (Ex.normal,[V.ptr 0 0,V.ptr 1 0,V.ptr 2 0,V.ref 3 0 p,V.j m,V.j (i64.wrap (i+1))],[some (Blk.box [V.sl NCd l]),some (Blk.box [V.j 0,V.s
 (Ag UInt8),V.j 0,V.b false,V.ref 4 0 0]),some (Blk.box [V.j x0,V.s x1,V.j x2,V.b x3,V.ref 5 0 (k+1)]),R0 (Cd.int
 .i64) q,R0 VCd.rose (Ag VCd.rose.den),R0 VCd.rose (take k (drop 0 ks)++Rose.node ((v4L l (toNat
 z)).lab.1,(v4L l (toNat z)).lab.2.1,(v4L l (toNat z)).lab.2.2.1,(v4L l (toNat z)).lab.2.2.2.1,()) (take (v4L l (toNat
 z)).kids.length (drop 0 (v4L l (toNat z)).kids))::Ag VCd.rose.den)]))))) (some (Ex.exit 0,[V.ptr 0 0,V.ptr 1 0],[some (Blk.box [V.j 0,V.s
 (Ag UInt8),V.j 0,V.b false,V.ref 2 0 0]),some (Blk.box [V.j x0,V.s x1,V.j x2,V.b x3,V.ref 3 0 k]),R0 VCd.rose (Ag
 VCd.rose.den),R0 VCd.rose ks]))):_):=by kernel_rfl
theorem Qe (n:Nat) (l:List Nd) (k:Int):Cx prog (Yv n) (Aa [(4,Eb n)]) f77 [.agg [.sl NCd l],.j k] [] =
 ((ifT (decide (0<=k)&&decide (k<(↑l.length:Int))) (An l[k.toNat]? fun z=>ifT (decide (0<=k/\k.toNat<l.length/\l.length<=4000000000)) (ifT (decide
 ((0:Int)<=(0:Int)/\0<=(EW l k.toNat).length/\(↑(EW l k.toNat).length:Int)=(↑(EW l k.toNat).length:Int)/\(EW l k.toNat).length=(EW l
 k.toNat).length/\0=0/\0<=0/\(EW l k.toNat).length<=4000000000/\l.length<=4000000000)&&(EW l k.toNat).all
 fun i=>decide ((0:Int)<=i/\i.toNat<l.length/\l.length-i.toNat<=n)) (some (V.agg [V.j z.1,V.s z.2.1,V.j z.2.2.1,V.b
 z.2.2.2.2.1,V.ref 0 0 (Ag VCd.rose.den++List.map (fun i=>v4L l (toNat i)) (drop 0 (EW l k.toNat))).length],[R0 VCd.rose (Ag VCd.rose.den++List.map (fun i=>v4L l (toNat i)) (drop 0 (EW l k.toNat)))]))))):_):=by kernel_rfl
theorem JI (n:Nat) (l:List Nd) (x0:Int) (x1:By) (x2:Int) (x3:Bool) (q:List Int) (hl:l.length<=4000000000) (hq:q.length<=4000000000) (hs:(q.all fun i:Int=>decide (0<=i/\i.toNat<l.length/\l.length-i.toNat<=n))=true) : ∀ (j i:Nat) (ks:RVL),i+j=q.length->ks.length<=i->
  Runs prog (Yv n) (Aa [(4,Eb n)]) 0 (body f77 0) (Eb n) ([.ptr 0 0,.ptr 1 0,.ptr 2 0,.ref 3 0 q.length,.j (q.length:Int),.j (i:Int)],[some (.box [.sl NCd l]),some (.box [.j 0,.s [],.j 0,.b false,.ref 4 0 0]),some (.box [.j x0,.s x1,.j x2,.b x3,.ref 5 0 ks.length]),R0 (.int .i64) q,R0 (.rose VCd) [],R0 (.rose VCd) ks]) (.exit 0) ([.ptr 0 0,.ptr 1 0],[some (.box [.j 0,.s [],.j 0,.b false,.ref 2 0 0]),some (.box [.j x0,.s x1,.j x2,.b x3,.ref 3 0 (ks++(q.drop i).map fun i=>v4L l i.toNat).length]),R0 (.rose VCd) [],R0 (.rose VCd) (ks++(q.drop i).map fun i=>v4L l i.toNat)])
 | 0,i,ks,hi,hk=>by
  have hr:=Iq n l x0 x1 x2 x3 q.length q.length i ks.length q ks;rw [Ae (dcF (by omega))] at hr;rw [drop_eq_nil_of_le (by omega),List.map_nil,append_nil];exact stp hr
 | j+1,i,ks,hi,hk=>by
  have h1:i<q.length:=by omega
  have hM:=mxI;have hr:=Iq n l x0 x1 x2 x3 q.length q.length i ks.length q ks;have hz:=of_decide_eq_true (all_eq_true.1 hs _ (getElem_mem h1));rw [Af (dcT (by omega)),T2 (by omega)] at hr;simp only [ntN,zero_add,gtE h1,Ap,Az (n:=i) (by omega),drop_zero,take_length] at hr;rw [Ab (dcT ⟨hz.1,hz.2.1,hl,hz.2.2⟩),T2 (by omega)] at hr;have ht:=IL (v4L l q[i].toNat);rw [drop_zero,take_length] at ht;rw [ht] at hr;rw [drop_eq_getElem_cons h1,List.map_cons];have ih:=JI n l x0 x1 x2 x3 q hl hq hs j (i+1) (ks++[v4L l q[i].toNat]) (by omega) (by simp; omega);rw [append_assoc] at ih;exact sts (hr.trans (by simp)) ih
theorem Uy (n:Nat):Aw prog (Yv n) (Aa [(4,Eb n)]) 0 (f77.body.getD .skip):=by
 refine As (a:=body f77 0) (by kernel_rfl) fun d ex d' h=>?_
 unfold Eb at h;dsimp only at h;split at h
 ·rename_i p m i l x0 x1 x2 x3 k q ks;obtain ⟨hc,hx⟩:=Ad h;clear h;rw [anE] at hc;obtain ⟨hc,hs⟩:=hc;obtain ⟨h0,h1,rfl,rfl,rfl,h5,h6,h7⟩:=of_decide_eq_true hc;obtain ⟨i,rfl⟩:=eq_ofNat_of_zero_le h0;simp only [ntN] at h1 h5 hx;obtain ⟨rfl,rfl⟩:=lfP hx;exact JI n l x0 x1 x2 x3 q h7 h6 hs (q.length-i) i ks (by omega) h5
 ·cases h
theorem RK (n:Nat) (l:List Nd) (k:Int) (hc:0<=k/\k.toNat<l.length/\l.length<=4000000000/\l.length-k.toNat<=n+1):Cx prog (Yv n) (Aa [(4,Eb n)]) f77 [.agg [.sl NCd l],.j k] []=some (.agg [.j (v4L l k.toNat).lab.1,.s (v4L l k.toNat).lab.2.1,.j (v4L l k.toNat).lab.2.2.1,.b (v4L l k.toNat).lab.2.2.2.1,.ref 0 0 (v4L l k.toNat).kids.length],[R0 (.rose VCd) (v4L l k.toNat).kids]):=by
 rw [Qe];obtain ⟨h0,h1,h2,h3⟩:=hc;obtain ⟨k,rfl⟩:=eq_ofNat_of_zero_le h0;rw [ntN] at h1 h3;have hkl:=Ou (k:Int) (l.drop (k+1)) (k+1);rw [length_drop] at hkl;have hkl2:(EW l k).length<=l.length-(k+1):=hkl;rw [T2 (by omega)];simp only [ntN,gtE h1,Ap];rw [Ab (dcT ⟨by omega,h1,h2⟩)]
 have hall:((EW l k).all fun i:Int=>decide (0<=i/\i.toNat<l.length/\l.length-i.toNat<=n))=true:=all_eq_true.2 fun x hx=>by
  obtain ⟨j,rfl,h5,h6⟩:=Li hx;exact dcT ⟨by omega,by simpa using h6,by simp; omega⟩
 rw [Ab (by rw [anE]; exact ⟨dcT ⟨by omega,by simp,by simp,by simp,by simp,by simp,by omega,h2⟩,hall⟩)];have hlab:IZ l k=(l[k].1,l[k].2.1,l[k].2.2.1,l[k].2.2.2.2.1,()):=by unfold IZ; rw [gtE h1]
 rw [Aa6 h1,hlab];simp [Rose.lab,Rose.kids]
theorem RM : ∀ n,(∀ m,m<n->Ac prog 77 (Ent.rd1 (F3 m)).F)->Ac prog 77 (Ent.rd1 (F3 n)).F
 | 0,_=>AP fun vs bs=>by
  unfold Ent.F F3;dsimp only;split
  ·rename_i l a;have:decide (0<=a/\a.toNat<l.length/\l.length<=4000000000/\l.length-a.toNat<=0)=false:=dcF (by omega);rw [this]; rfl
  ·rfl
 | n+1,ih=>by
  refine fcN (kc func123 Ac0 (kc func77 (ih n (lt_succ_self n)) KnowsL.nil)).knows (Λ:=(Aa [(4,Eb n)])) func77 fun vs bs r hq=>?_
  unfold Ent.F F3 at hq;dsimp only at hq;split at hq
  ·rename_i l a;obtain ⟨hc,hx⟩:=Ad hq;exact ⟨Uy n,(RK n l a (of_decide_eq_true hc)).trans hx⟩
  ·cases hq
theorem WS:Ac prog 77 (Ent.rd1 Ir).F:=by
 refine Bb (F:=fun n=>(Ent.rd1 (F3 n)).F) RM fun vs bs r h=>?_
 unfold Ent.F Ir at h;dsimp only at h;split at h
 ·rename_i l a;obtain ⟨hc,hx⟩:=Ad h;obtain ⟨h0,h1,h2⟩:=of_decide_eq_true hc;refine ⟨l.length,?_⟩;unfold Ent.F F3;dsimp only;have:decide (0<=a/\a.toNat<l.length/\l.length<=4000000000/\l.length-a.toNat<=l.length)=true:=dcT ⟨h0,h1,h2,by omega⟩;rw [this];exact hx
 ·cases h
def byR (n:Int):RL->Rose Lab
 | []=>.node (0,[],0,false,0,()) []
 | z::l=>if z.lab.2.2.1=n then z else byR n l
def AN (n:Int) (l:RL):Bool:=l.any fun z=>z.lab.2.2.1==n
def Ds (n:Int) (l:RVL):Bool:=l.any fun x=>x.lab.2.2.1==n
def B9 (vs:RVL) (ks:RL):Bool:=ks.all fun y=>!y.lab.2.2.2.1||Ds y.lab.2.2.1 vs
def byG:Gm
 | [.agg (Lt _ _ _ _ _ ys),.j n],[]=>.need (decide (ys.length<=maxI)) (.br (AN n ys) (.leaf (.tup [.agg (Lt ((byR n ys).lab.1) ((byR n ys).lab.2.1) ((byR n ys).lab.2.2.1) ((byR n ys).lab.2.2.2.1) ((byR n ys).lab.2.2.2.2.1) ((byR n ys).kids)),.b true],[])) (.leaf (.tup [.agg [.j 0,.s [],.j 0,.b false,.j 0,.ref 0 0 0],.b false],[R0 (.rose LCd) []])))
 | _,_=>.no
def byE:LoopEnt:=⟨22,[1,4,9,10,11],[4],[4,5],fun
 | ([.j n,.ptr 0 0,.sl (.rose LCd) ks,.j k,.j i],[some (.box [.j 0,.s [],.j 0,.b false,.j 0,.ref 1 0 0]),R0 (.rose LCd) []])=>.need (decide (0<=i/\i.toNat<=ks.length/\k=ks.length/\ks.length<=maxI)) (.br (AN n (ks.drop i.toNat)) (.leaf (.ret,([.ptr 0 0,.b true],[some (.box (Lt ((byR n (ks.drop i.toNat)).lab.1) ((byR n (ks.drop i.toNat)).lab.2.1) ((byR n (ks.drop i.toNat)).lab.2.2.1) ((byR n (ks.drop i.toNat)).lab.2.2.2.1) ((byR n (ks.drop i.toNat)).lab.2.2.2.2.1) ((byR n (ks.drop i.toNat)).kids)))]))) (.leaf (.exit 0,([.ptr 0 0],[some (.box [.j 0,.s [],.j 0,.b false,.j 0,.ref 1 0 0]),R0 (.rose LCd) []]))))
 | _=>.no⟩
def Ox:Gm
 | [.agg (Lv _ _ _ _ xs),.agg (Lt _ _ _ _ _ ys)],[]=>.need (decide (ys.length<=maxI/\xs.length<=maxI)) (.leaf (.b (B9 xs ys),[]))
 | _,_=>.no
def Ln:LoopEnt:=⟨39,[2,11,12,13],[],[4],fun
 | ([.ptr 0 0,.sl (.rose LCd) ks,.j k,.j i],[some (.box (Lv _ _ _ _ xs))])=>.need (decide (0<=i/\i.toNat<=ks.length/\k=ks.length/\ks.length<=maxI/\xs.length<=maxI)) (.br (B9 xs (ks.drop i.toNat)) (.leaf (.exit 0,([],[]))) (.leaf (.ret,([.b false],[]))))
 | _=>.no⟩
def JW:LoopEnt:=⟨39,[2,6,7,11,12,13,21,22,23],[2,7,11,12,13],[],fun
 | ([.ptr 0 0,.ptr 1 0,.b f,.sl (.rose LCd) ks,.j k,.j i,.sl (.rose VCd) us,.j m,.j j],[some (.box (Lv x0 x1 x2 x3 xs)),some (.box (Lt _ _ y2 _ _ _))])=>.need (decide (0<=j/\j.toNat<=us.length/\m=us.length/\us.length<=maxI)) (.leaf (.exit 2,([.ptr 0 0,.b (f||Ds y2 (us.drop j.toNat)),.sl (.rose LCd) ks,.j k,.j i],[some (.box (Lv x0 x1 x2 x3 xs))])))
 | _=>.no⟩
theorem QT (n:Int) (ks:RL) (k i:Int):Au prog (Aa []) (Aa [(2,byE)]) 0 (body f38 0) byE ([.j n,.ptr 0 0,.sl (.rose LCd) ks,.j k,.j i],[some (.box [.j 0,.s [],.j 0,.b false,.j 0,.ref 1 0 0]),R0 (.rose LCd) []]) =
 ((ifB (decide (i<k)) (ifT (decide (0<=i)&&decide (i<(↑ks.length:Int))) (An ks[i.toNat]? fun z=>ifB ((Rose.lab z).2.2.1==n) (some (Ex.ret,[V.ptr 0 0,
 V.b true],[some (Blk.box (Lt ((Rose.lab z).1) ((Rose.lab z).2.1) ((Rose.lab z).2.2.1) ((Rose.lab z).2.2.2.1) ((Rose.lab
 z).2.2.2.2.1) (Rose.kids z)))])) (some (Ex.normal,[V.j n,V.ptr 0 0,V.sl LCd.rose ks,V.j k,V.j (i64.wrap (i+1))],
 [some (Blk.box [V.j 0,V.s (Ag UInt8),V.j 0,V.b false,V.j 0,V.ref 1 0 0]),R0 LCd.rose (Ag LCd.rose.den)])))) (some (Ex.exit
 0,[V.ptr 0 0],[some (Blk.box [V.j 0,V.s (Ag UInt8),V.j 0,V.b false,V.j 0,V.ref 1 0 0]),R0 LCd.rose (Ag LCd.rose.den)]))):_):=by kernel_rfl
theorem Aaw (y0:Int) (y1:By) (y2:Int) (y3:Bool) (y4:Int) (ys:RL) (n:Int):Cx prog (Aa []) (Aa [(2,byE)]) f38 [.agg (Lt y0 y1 y2 y3 y4 ys),.j n] [] =
 ((ifT (decide ((0:Int)<=(0:Int)/\0<=ys.length/\(↑ys.length:Int)=(↑ys.length:Int)/\ys.length<=maxI)) (ifB (AN n (drop 0 ys)) (some
 (V.tup [V.agg (Lt ((byR n (drop 0 ys)).lab.1) ((byR n (drop 0 ys)).lab.2.1) ((byR n (drop 0
 ys)).lab.2.2.1) ((byR n (drop 0 ys)).lab.2.2.2.1) ((byR n (drop 0 ys)).lab.2.2.2.2.1) ((byR n
 (drop 0 ys)).kids)),V.b true],[])) (some (V.tup [V.agg [V.j 0,V.s (Ag UInt8),V.j 0,V.b false,V.j 0,V.ref 0 0 0],V.b false],[R0 LCd.rose (Ag LCd.rose.den)])))):_):=by kernel_rfl
theorem T8 (n:Int) (ks:RL) (hm:ks.length<=maxI) : ∀ (j i:Nat),i+j=ks.length->∀ ex d,(Br.br (AN n (ks.drop i)) (.leaf (.ret,([.ptr 0 0,.b true],[some (.box (Lt ((byR n (ks.drop i)).lab.1) ((byR n (ks.drop i)).lab.2.1) ((byR n (ks.drop i)).lab.2.2.1) ((byR n (ks.drop i)).lab.2.2.2.1) ((byR n (ks.drop i)).lab.2.2.2.2.1) ((byR n (ks.drop i)).kids)))]))) (.leaf (.exit 0,([.ptr 0 0],[some (.box [.j 0,.s [],.j 0,.b false,.j 0,.ref 1 0 0]),R0 (.rose LCd) []]))):Br (Ex×Dt)).run=some (ex,d)->
  Runs prog (Aa []) (Aa [(2,byE)]) 0 (body f38 0) byE ([.j n,.ptr 0 0,.sl (.rose LCd) ks,.j (ks.length:Int),.j (i:Int)],[some (.box [.j 0,.s [],.j 0,.b false,.j 0,.ref 1 0 0]),R0 (.rose LCd) []]) ex d
 | 0,i,hi,ex,d,h=>by
  have hr:=QT n ks ks.length i;rw [Ae (dcF (by omega))] at hr;rw [drop_eq_nil_of_le (by omega)] at h;obtain ⟨rfl,rfl⟩:=lfP h;exact stp hr
 | j+1,i,hi,ex,d,h=>by
  have hl:i<ks.length:=by omega
  have hM:=mxI;have hr:=QT n ks ks.length i;rw [Af (dcT (by omega)),T2 (by omega)] at hr;simp only [ntN,gtE hl,Ap,Az (n:=i) (by omega)] at hr;rw [drop_eq_getElem_cons hl] at h;unfold AN at h;rw [any_cons,byR] at h
  by_cases q:ks[i].lab.2.2.1=n
  ·have qb:(ks[i].lab.2.2.1==n)=true:=by rw [q]; exact beq_self_eq_true _
   rw [qb,Bool.true_or,if_pos q] at h;rw [qb,Bg] at hr;obtain ⟨rfl,rfl⟩:=lfP h;exact stp hr
  ·rw [beq_false_of_ne q,Bool.false_or,if_neg q] at h;rw [beq_false_of_ne q,AR] at hr;exact sts hr (T8 n ks hm j (i+1) (by omega) ex d h)
theorem Agc:Aw prog (Aa []) (Aa [(2,byE)]) 0 (f38.body.getD .skip):=by
 refine As (a:=body f38 0) (by kernel_rfl) fun d ex d' h=>?_
 unfold byE at h;dsimp only at h;split at h
 ·rename_i n ks k i;obtain ⟨hc,hx⟩:=Ad h;clear h;obtain ⟨h0,h1,rfl,h3⟩:=of_decide_eq_true hc;obtain ⟨i,rfl⟩:=eq_ofNat_of_zero_le h0;simp only [ntN] at h1 hx;exact T8 n ks h3 (ks.length-i) i (by omega) ex d' hx
 ·cases h
theorem WU:Ac prog 38 (Ent.rd1 byG).F:=by
 refine fcN KnowsL.nil.knows (Λ:=(Aa [(2,byE)])) func38 fun vs bs r hq=>?_
 unfold Ent.F byG at hq;dsimp only at hq;split at hq
 ·rename_i y0 y1 y2 y3 y4 ys n;obtain ⟨hc,hx⟩:=Ad hq;refine ⟨Agc,Eq.trans ?_ hx⟩;rw [Aaw,Ab (dcT ⟨by omega,by omega,rfl,of_decide_eq_true hc⟩),drop_zero];cases AN n ys<;>rfl
 ·cases hq
theorem Np (x0:Int) (x1:By) (x2:Int) (x3:Bool) (xs:RVL) (ks:RL) (k i:Int):Au prog (Aa []) (Aa [(2,Ln),(6,JW)]) 0 (body f119 0) Ln ([.ptr 0 0,.sl (.rose LCd) ks,.j k,.j i],[some (.box (Lv x0 x1 x2 x3 xs))]) =
 ((ifB (decide (i<k)) (ifT (decide (0<=i)&&decide (i<(↑ks.length:Int))) (An ks[i.toNat]? fun z=>ifT (decide ((0:Int)<=(0:Int)/\0<=xs.length/\
 (↑xs.length:Int)=(↑xs.length:Int)/\xs.length<=maxI)) (ifB (!(!(Rose.lab z).2.2.2.1||Ds (Rose.lab z).2.2.1 (drop 0 xs))) rF (some (Ex.normal,[V.ptr 0 0,V.sl LCd.rose ks,V.j k,V.j (i64.wrap (i+1))],[some (Blk.box (Lv x0 x1 x2 x3 xs))]))))) (some (Ex.exit 0,[],[]))):_):=by kernel_rfl
theorem No (x0:Int) (x1:By) (x2:Int) (x3:Bool) (xs:RVL) (y0:Int) (y1:By) (y2:Int) (y3:Bool) (y4:Int) (ys:RL) (f:Bool) (ks:RL) (k i:Int) (us:RVL) (m j:Int):Au prog (Aa []) (Aa [(2,Ln),(6,JW)]) 0 (body f119 1) JW ([.ptr 0 0,.ptr 1 0,.b f,.sl (.rose LCd) ks,.j k,.j i,.sl (.rose VCd) us,.j m,.j j],[some (.box (Lv x0 x1 x2 x3 xs)),some (.box (Lt y0 y1 y2 y3 y4 ys))]) =
 ((ifB (decide (j<m)) (ifT (decide (0<=j)&&decide (j<(↑us.length:Int))) (An us[j.toNat]? fun z=>ifB f (some (Ex.normal,[V.ptr 0 0,V.ptr 1 0,V.b true,V.sl
 LCd.rose ks,V.j k,V.j i,V.sl VCd.rose us,V.j m,V.j (i64.wrap (j+1))],[some (Blk.box (Lv x0 x1 x2 x3 xs)),some (Blk.box (Lt y0 y1 y2 y3 y4 ys))])) (some (Ex.normal,[V.ptr 0 0,V.ptr 1 0,V.b ((Rose.lab
 z).2.2.1==y2),V.sl LCd.rose ks,V.j k,V.j i,V.sl VCd.rose us,V.j m,V.j (i64.wrap (j+1))],[some (Blk.box (Lv x0 x1 x2 x3 xs)),some (Blk.box (Lt y0 y1 y2 y3 y4 ys))])))) (some (Ex.exit 2,[V.ptr 0 0,V.b
 f,V.sl LCd.rose ks,V.j k,V.j i],[some (Blk.box (Lv x0 x1 x2 x3 xs))]))):_):=by kernel_rfl
theorem Zp (x0:Int) (x1:By) (x2:Int) (x3:Bool) (xs:RVL) (y0:Int) (y1:By) (y2:Int) (y3:Bool) (y4:Int) (ys:RL):AT prog (Aa []) (Aa [(2,Ln),(6,JW)]) f119 [.agg (Lv x0 x1 x2 x3 xs),.agg (Lt y0 y1 y2 y3 y4 ys)] [] =
 ((ifT (decide ((0:Int)<=(0:Int)/\0<=ys.length/\(↑ys.length:Int)=(↑ys.length:Int)/\ys.length<=maxI/\xs.length<=maxI)) (ifB (B9 xs (drop (0
 : Nat) ys)) (some (V.b true,[])) nF)):_):=by kernel_rfl
theorem Acr : ∀ d e d',(Ln.L d).run=some (e,d')->Runs prog (Aa []) (Aa [(2,Ln),(6,JW)]) 0 (body f119 0) Ln d e d':=fun d ex d' h=>by
 unfold Ln at h;dsimp only at h;split at h
 ·rename_i ks k i x0 x1 x2 x3 xs;obtain ⟨hc,hx⟩:=Ad h;clear h;obtain ⟨h0,h1,rfl,h3,h4⟩:=of_decide_eq_true hc;obtain ⟨i,rfl⟩:=eq_ofNat_of_zero_le h0;simp only [ntN] at h1 hx;have hM:=mxI;refine E1 (l:=ks) (fun y:Rose Lab=>!y.lab.2.2.2.1||Ds y.lab.2.2.1 xs) (fun i=>([.ptr 0 0,.sl (.rose LCd) ks,.j (ks.length:Int),.j (i:Int)],[some (.box (Lv x0 x1 x2 x3 xs))])) (ex:=(.exit 0,([],[]))) (rt:=(.ret,([.b false],[]))) (by simp) (by simp) (fun n hn=>?_) ?_ (ks.length-i) i (by omega) ex d' hx
  ·have hr:=Np x0 x1 x2 x3 xs ks ks.length n;rw [Af (dcT (by omega)),T2 (by omega)] at hr;rw [ntN,gtE hn,Ap,Az (n:=n) (by omega),Ab (dcT ⟨by omega,by omega,rfl,h4⟩),drop_zero] at hr;refine hr.trans ?_;cases ks[n].lab.2.2.2.1<;>cases Ds ks[n].lab.2.2.1 xs<;>rfl
  ·have hr:=Np x0 x1 x2 x3 xs ks ks.length ks.length;rw [Ae (dcF (by omega))] at hr;exact hr
 ·cases h
theorem PQ (x0:Int) (x1:By) (x2:Int) (x3:Bool) (xs:RVL) (y0:Int) (y1:By) (y2:Int) (y3:Bool) (y4:Int) (ys:RL) (ks:RL) (k i:Int) (us:RVL) (hm:us.length<=maxI) : ∀ (c j:Nat) (f:Bool),j+c=us.length->
  Runs prog (Aa []) (Aa [(2,Ln),(6,JW)]) 0 (body f119 1) JW ([.ptr 0 0,.ptr 1 0,.b f,.sl (.rose LCd) ks,.j k,.j i,.sl (.rose VCd) us,.j (us.length:Int),.j (j:Int)],[some (.box (Lv x0 x1 x2 x3 xs)),some (.box (Lt y0 y1 y2 y3 y4 ys))]) (.exit 2) ([.ptr 0 0,.b (f||Ds y2 (us.drop j)),.sl (.rose LCd) ks,.j k,.j i],[some (.box (Lv x0 x1 x2 x3 xs))])
 | 0,j,f,hj=>by
  have hr:=No x0 x1 x2 x3 xs y0 y1 y2 y3 y4 ys f ks k i us us.length j;rw [Ae (dcF (by omega))] at hr;rw [drop_eq_nil_of_le (by omega),show Ds y2 []=false from rfl,Bool.or_false];exact stp hr
 | c+1,j,f,hj=>by
  have hl:j<us.length:=by omega
  have hM:=mxI;have hr:=No x0 x1 x2 x3 xs y0 y1 y2 y3 y4 ys f ks k i us us.length j;rw [Af (dcT (by omega)),T2 (by omega)] at hr;simp only [ntN,gtE hl,Ap,Az (n:=j) (by omega)] at hr;have ih:=PQ x0 x1 x2 x3 xs y0 y1 y2 y3 y4 ys ks k i us hm c (j+1) (f||us[j].lab.2.2.1==y2) (by omega);rw [drop_eq_getElem_cons hl,show Ds y2 (us[j]::us.drop (j+1))=(us[j].lab.2.2.1==y2||Ds y2 (us.drop (j+1))) from rfl,<-Bool.or_assoc];refine sts (hr.trans ?_) ih;cases f<;>rfl
theorem Acq : ∀ d e d',(JW.L d).run=some (e,d')->Runs prog (Aa []) (Aa [(2,Ln),(6,JW)]) 0 (body f119 1) JW d e d':=fun d ex d' h=>by
 unfold JW at h;dsimp only at h;split at h
 ·rename_i f ks k i us m j x0 x1 x2 x3 xs y0 y1 y2 y3 y4 ys;obtain ⟨hc,hx⟩:=Ad h;clear h;obtain ⟨h0,h1,rfl,h3⟩:=of_decide_eq_true hc;obtain ⟨j,rfl⟩:=eq_ofNat_of_zero_le h0;simp only [ntN] at h1 hx;obtain ⟨rfl,rfl⟩:=lfP hx;exact PQ x0 x1 x2 x3 xs y0 y1 y2 y3 y4 ys ks k i us h3 (us.length-j) j f (by omega)
 ·cases h
theorem Tg:Ac prog 119 (Ent.rd1 Ox).F:=by
 refine fcK KnowsL.nil.knows (Λ:=(Aa [(2,Ln),(6,JW)])) func119 fun vs bs r hq=>?_
 unfold Ent.F Ox at hq;dsimp only at hq;split at hq
 ·rename_i x0 x1 x2 x3 xs y0 y1 y2 y3 y4 ys;obtain ⟨hc,hx⟩:=Ad hq;obtain ⟨h1,h2⟩:=of_decide_eq_true hc;refine ⟨LoopsI.loops (.cons (a:=body f119 0) (by kernel_rfl) Acr (.cons (a:=body f119 1) (by kernel_rfl) Acq .nil)) (by kernel_rfl),Eq.trans ?_ hx⟩;rw [Zp,Ab (dcT ⟨by omega,by omega,rfl,h1,h2⟩),drop_zero];cases B9 xs ys<;>rfl
 ·cases hq
mutual
def Gf:Rose A4->Bool
 | .node _ ks=>decide (ks.length<=4000000000)&&IK ks
def IK:RVL->Bool
 | []=>true
 | z::l=>Gf z&&IK l
end
def J8 (zk:RVL) (i:Nat) (n:Int):Bool:=match i with
 | 0=>false
 | i+1=>match zk[i]? with | some y=>decide (y.lab.2.2.1>=n) | none=>false
def hd0:RL->Rose Lab
 | []=>.node (0,[],0,false,0,()) []
 | z::_=>z
def Dq (x0:Int) (x1:By) (x3:Bool) (k:Int):Bool:=(x3 != Ar k)||((k != 2&&x1 != [])||((k==2||x3)&&x0 != 0))
mutual
def sfR:Rose A4->Rose Lab->Bool
 | .node x vs,t=>
  if Dq x.1 x.2.1 x.2.2.2.1 t.lab.1=true then false
  else if t.lab.1=1 then BX x.1
  else if t.lab.1=3 then decide (0<=x.1/\x.1<=t.lab.2.2.2.2.1)
  else if t.lab.1=2 then decide (x.2.1.length<=30)
  else if t.lab.1=4 then sfL (hd0 t.kids) vs
  else sfM t.kids vs 0 vs&&B9 vs t.kids
def sfL (t:Rose Lab):RVL->Bool
 | []=>true
 | v::vs=>(v.lab.2.2.1==0&&sfR v t)&&sfL t vs
def sfM (ks:RL) (zk:RVL) (i:Nat):RVL->Bool
 | []=>true
 | v::vs=>(AN v.lab.2.2.1 ks&&(sfR v (byR v.lab.2.2.1 ks)&&!J8 zk i v.lab.2.2.1))&&sfM ks zk (i+1) vs
end
def sfN (n:Nat):Gm
 | [.agg (Lv x0 x1 x2 x3 xs),.agg (Lt y0 y1 y2 y3 y4 ys)],[]=>.need (decide (Ak ys+1<=n/\Ak ys+1<=1000000/\Ah (.node (y0,y1,y2,y3,y4,()) ys)=true/\Gf (.node (x0,x1,x2,x3,()) xs)=true)) (.leaf (.b (sfR (.node (x0,x1,x2,x3,()) xs) (.node (y0,y1,y2,y3,y4,()) ys)),[]))
 | _,_=>.no
def sfG:Gm
 | [.agg (Lv x0 x1 x2 x3 xs),.agg (Lt y0 y1 y2 y3 y4 ys)],[]=>.need (decide (Ak ys+1<=1000000/\Ah (.node (y0,y1,y2,y3,y4,()) ys)=true/\Gf (.node (x0,x1,x2,x3,()) xs)=true)) (.leaf (.b (sfR (.node (x0,x1,x2,x3,()) xs) (.node (y0,y1,y2,y3,y4,()) ys)),[]))
 | _,_=>.no
def JS (n:Nat):LoopEnt:=⟨126,[3,64,65,66],[],[4],fun
 | ([.ptr 0 0,.sl (.rose VCd) us,.j k,.j i],[some (.box (Lt y0 _ _ _ _ ys))])=>.need (decide (0<=i/\i.toNat<=us.length/\k=us.length/\us.length<=4000000000/\Ak ys<=n/\Ak ys<=1000000/\ys.length=1/\A6 y0 ys=true/\IK us=true)) (.br (sfL (hd0 ys) (us.drop i.toNat)) (.leaf (.exit 1,([],[]))) (.leaf (.ret,([.b false],[]))))
 | _=>.no⟩
def IS (n:Nat):LoopEnt:=⟨126,[2,3,84,85,86],[2,3],[4],fun
 | ([.ptr 0 0,.ptr 1 0,.sl (.rose VCd) us,.j k,.j i],[some (.box (Lv x0 x1 x2 x3 xs)),some (.box (Lt y0 y1 y2 y3 y4 ys))])=>.need (decide (0<=i/\i.toNat<=us.length/\k=us.length/\us.length<=4000000000/\xs.length=us.length/\Ak ys<=n/\Ak ys<=1000000/\A6 y0 ys=true/\IK us=true)) (.br (sfM ys xs i.toNat (us.drop i.toNat)) (.leaf (.exit 3,([.ptr 0 0,.ptr 1 0],[some (.box (Lv x0 x1 x2 x3 xs)),some (.box (Lt y0 y1 y2 y3 y4 ys))]))) (.leaf (.ret,([.b false],[]))))
 | _=>.no⟩
theorem AG (z:Rose Lab):Rose.node (z.lab.1,z.lab.2.1,z.lab.2.2.1,z.lab.2.2.2.1,z.lab.2.2.2.2.1,()) z.kids=z:=by
 obtain ⟨⟨_,_,_,_,_,⟨⟩⟩,ks⟩:=z; rfl
theorem BD (z:Rose A4):Rose.node (z.lab.1,z.lab.2.1,z.lab.2.2.1,z.lab.2.2.2.1,()) z.kids=z:=by
 obtain ⟨⟨_,_,_,_,⟨⟩⟩,ks⟩:=z; rfl
theorem K8 {z:Rose A4} : ∀ {l:RVL},IK l=true->z∈l->Gf z=true
 | [],_,h=>by cases h
 | y::l,hn,h=>by
  rw [IK,anE] at hn;rcases mem_cons.1 h with rfl | h
  ·exact hn.1
  ·exact K8 hn.2 h
theorem GL (t:Rose Lab) : ∀ l,sfL t l=l.all fun v=>v.lab.2.2.1==0&&sfR v t
 | []=>by rw [sfL]; rfl
 | v::l=>by rw [sfL,GL t l]; rfl
theorem FO {n:Int} : ∀ {l:RL},AN n l=true->byR n l∈l
 | [],h=>by cases h
 | z::l,h=>by
  rw [byR]
  by_cases q:z.lab.2.2.1=n
  ·rw [if_pos q]; exact List.mem_cons_self
  ·rw [if_neg q];unfold AN at h;rw [any_cons,beq_false_of_ne q,Bool.false_or] at h;exact List.mem_cons_of_mem _ (FO h)
theorem Abz (x0:Int) (x1:By) (x2:Int) (x3:Bool) (xs:RVL) (y0:Int) (y1:By) (y2:Int) (y3:Bool) (y4:Int) (ys:RL):sfR (.node (x0,x1,x2,x3,()) xs) (.node (y0,y1,y2,y3,y4,()) ys)=(if Dq x0 x1 x3 y0=true then false
  else if y0=1 then BX x0 else if y0=3 then decide (0<=x0/\x0<=y4) else if y0=2 then decide (x1.length<=30)
  else if y0=4 then sfL (hd0 ys) xs else sfM ys xs 0 xs&&B9 xs ys):=by rw [sfR]; rfl
theorem Dl {x:Lab} {ks:RL} (h:B5 x ks=true):x.1=1\/x.1=2\/x.1=3\/(x.1=4/\ks.length=1)\/x.1=5:=by
 unfold B5 at h;split at h
 ·rename_i q; omega
 ·split at h
  ·rename_i q; omega
  ·split at h
   ·rename_i q;rw [anE] at h;exact .inr (.inr (.inr (.inl ⟨q,by simpa using h.2⟩)))
   ·split at h
    ·cases h
    ·rename_i q; omega
abbrev S5 (n:Nat):FuncId->Option Ent:=Aa [(122,.rd1 (sfN n)),(151,.rd1 Fk),(135,.rd1 Gu),(100,.rd1 AC),(38,.rd1 byG),(119,.rd1 Ox)]
theorem MZ (n:Nat) (y0:Int) (y1:By) (y2:Int) (y3:Bool) (y4:Int) (ys:RL) (us:RVL) (k i:Int):Au prog (S5 n) (Aa [(12,JS n),(19,IS n)]) 0 (body f122 0) (JS n) ([.ptr 0 0,.sl (.rose VCd) us,.j k,.j i],[some (.box (Lt y0 y1 y2 y3 y4 ys))]) =
 ((ifB (decide (i<k)) (ifT (decide (0<=i)&&decide (i<(↑us.length:Int))) (An us[i.toNat]? fun z=>ifB ((Rose.lab z).2.2.1 != (0:Int)) rF (ifT (decide ((0:Int)<=(0:Int))&&decide (0<(↑ys.length:Int))) (An ys[0]? fun z_1=>ifT (decide (Ak (Rose.kids z_1)+1<=n
 /\ Ak (Rose.kids z_1)+1<=1000000/\Ah (Rose.node ((Rose.lab z_1).1,(Rose.lab z_1).2.1,(Rose.lab z_1).2.2.1,(Rose.lab
 z_1).2.2.2.1,(Rose.lab z_1).2.2.2.2.1,()) (Rose.kids z_1))=true/\Gf (Rose.node ((Rose.lab z).1,(Rose.lab z).2.1,(Rose.lab z).2.2.1,
 (Rose.lab z).2.2.2.1,()) (Rose.kids z))=true)) (ifB (!sfR (Rose.node ((Rose.lab z).1,(Rose.lab z).2.1,(Rose.lab z).2.2.1,(Rose.lab
 z).2.2.2.1,()) (Rose.kids z)) (Rose.node ((Rose.lab z_1).1,(Rose.lab z_1).2.1,(Rose.lab z_1).2.2.1,(Rose.lab z_1).2.2.2.1,(Rose.lab
 z_1).2.2.2.2.1,()) (Rose.kids z_1))) rF (some (Ex.normal,[V.ptr 0 0,V.sl VCd.rose us,V.j k,V.j (i64.wrap (i
 + 1))],[some (Blk.box (Lt y0 y1 y2 y3 y4 ys))]))))))) (some (Ex.exit 1,[],[]))):_):=by kernel_rfl
theorem MY (n:Nat) (x0:Int) (x1:By) (x2:Int) (x3:Bool) (xs:RVL) (y0:Int) (y1:By) (y2:Int) (y3:Bool) (y4:Int) (ys:RL) (us:RVL) (k i:Int):Au prog (S5 n) (Aa [(12,JS n),(19,IS n)]) 0 (body f122 1) (IS n) ([.ptr 0 0,.ptr 1 0,.sl (.rose VCd) us,.j k,.j i],[some (.box (Lv x0 x1 x2 x3 xs)),some (.box (Lt y0 y1 y2 y3 y4 ys))]) =
 ((ifB (decide (i<k)) (ifT (decide (0<=i)&&decide (i<(↑us.length:Int))) (An us[i.toNat]? fun z=>shr (Rose.lab z).2.2 fun sh3=>shr (Rose.node ((Rose.lab
 z).1,(Rose.lab z).2.1,sh3.1,sh3.2.1,()) (Rose.kids z)) fun sh2=>shr (Rose.node ((byR sh3.1 ys).lab.1,(byR sh3.1 ys).lab.2.1,(byR sh3.1
 ys).lab.2.2.1,(byR sh3.1 ys).lab.2.2.2.1,(byR sh3.1 ys).lab.2.2.2.2.1,()) (byR sh3.1 ys).kids) fun sh1=>ifT (decide (ys.length<=maxI))
 (ifB (AN sh3.1 ys) (ifT (decide (Ak (byR sh3.1 ys).kids+1<=n/\Ak (byR sh3.1 ys).kids+1<=1000000/\Ah sh1=true/\Gf sh2
 = true)) (ifB (!sfR sh2 sh1) rF (ifB (decide (i>0)) (ifT (decide (0<=i64.wrap (i-1))&&decide (i64.wrap (i-1) <
 (↑xs.length:Int))) (An xs[(i64.wrap (i-1)).toNat]? fun z=>shr sh3 fun sh2=>shr (Rose.lab z).2.2 fun sh1=>ifB (decide (sh1.1>=sh2.1)) rF (some (Ex.normal,[V.ptr 0 0,V.ptr 1 0,V.sl VCd.rose us,V.j k,V.j (i64.wrap (i+1))],[some (Blk.box (Lv x0 x1 x2 x3 xs)),some (Blk.box (Lt y0 y1 y2 y3 y4 ys))])))) (some (Ex.normal,[V.ptr 0 0,
 V.ptr 1 0,V.sl VCd.rose us,V.j k,V.j (i64.wrap (i+1))],[some (Blk.box (Lv x0 x1 x2 x3 xs)),some (Blk.box
 (Lt y0 y1 y2 y3 y4 ys))]))))) rF))) (some (Ex.exit 3,[V.ptr 0 0,V.ptr 1 0],[some
 (Blk.box (Lv x0 x1 x2 x3 xs)),some (Blk.box (Lt y0 y1 y2 y3 y4 ys))]))):_):=by kernel_rfl
theorem YP (n:Nat) (x0:Int) (x1:By) (x2:Int) (x3:Bool) (xs:RVL) (y0:Int) (y1:By) (y2:Int) (y3:Bool) (y4:Int) (ys:RL):Cx prog (S5 n) (Aa [(12,JS n),(19,IS n)]) f122 [.agg (Lv x0 x1 x2 x3 xs),.agg (Lt y0 y1 y2 y3 y4 ys)] [] =
 ((shr (ifB (y0==4) (ifT (decide ((0:Int)<=(0:Int)/\0<=xs.length/\(↑xs.length:Int)=(↑xs.length:Int)/\xs.length<=4000000000/\Ak ys<=n/\
 Ak ys<=1000000/\ys.length=1/\A6 y0 ys=true/\IK xs=true)) (ifB (sfL (hd0 ys) (drop 0 xs)) (some (V.b true,[])) nF)) (ifT (decide ((0:Int)<=(0:Int)/\0<=xs.length/\(↑xs.length:Int)=(↑xs.length:Int)/\xs.length<=4000000000/\xs.length =
 xs.length/\Ak ys<=n/\Ak ys<=1000000/\A6 y0 ys=true/\IK xs=true)) (ifB (sfM ys xs 0 (drop 0 xs)) (ifT (decide (ys.length<=
 maxI/\xs.length<=maxI)) (some (V.b (B9 xs ys),[]))) nF))) fun sh1=>ifB (!x3==Ar y0) nF (ifB (y0 != 2) (ifB (!x1==
 Ag UInt8) nF (ifB (y0==2) (ifB (x0 != 0) nF (ifB (y0==1) (some (V.b (BX x0),[])) (ifB (y0==3) (some (V.b (decide (0<=
 x0/\x0<=y4)),[])) (ifB (y0==2) (some (V.b (decide ((↑x1.length:Int)<=(30:Int))),[])) sh1)))) (ifB x3 (ifB (x0 != 0) nF (ifB (y0==1) (some
 (V.b (BX x0),[])) (ifB (y0==3) (some (V.b (decide (0<=x0/\x0<=y4)),[])) (ifB (y0==2) (some (V.b (decide ((↑x1.length:Int)<=(30:Int))),[])) sh1)))) (ifB
 (y0==1) (some (V.b (BX x0),[])) (ifB (y0==3) (some (V.b (decide (0<=x0/\x0<=y4)),[])) (ifB (y0==2) (some (V.b (decide ((↑x1.length:Int)<=(30:Int))),
 [])) sh1)))))) (ifB (y0==2) (ifB (x0 != 0) nF (ifB (y0==1) (some (V.b (BX x0),[])) (ifB (y0==3) (some (V.b (decide (0<=x0/\x0<=y4)),[]))
 (ifB (y0==2) (some (V.b (decide ((↑x1.length:Int)<=(30:Int))),[])) sh1)))) (ifB x3 (ifB (x0 != 0) nF (ifB (y0==1) (some (V.b (BX x0),[]))
 (ifB (y0==3) (some (V.b (decide (0<=x0/\x0<=y4)),[])) (ifB (y0==2) (some (V.b (decide ((↑x1.length:Int)<=(30:Int))),[])) sh1)))) (ifB (y0==1) (some (V.b
 (BX x0),[])) (ifB (y0==3) (some (V.b (decide (0<=x0/\x0<=y4)),[])) (ifB (y0==2) (some (V.b (decide ((↑x1.length:Int)<=(30:Int))),[])) sh1))))))):_):=by kernel_rfl
theorem Ab2 (n:Nat) : ∀ d e d',((JS n).L d).run=some (e,d')->Runs prog (S5 n) (Aa [(12,JS n),(19,IS n)]) 0 (body f122 0) (JS n) d e d':=fun d ex d' h=>by
 unfold JS at h;dsimp only at h;split at h
 ·rename_i us k i y0 y1 y2 y3 y4 ys;obtain ⟨hc,hx⟩:=Ad h;clear h;obtain ⟨h0,h1,rfl,h3,h4,h5,h6,h7,h8⟩:=of_decide_eq_true hc;obtain ⟨i,rfl⟩:=eq_ofNat_of_zero_le h0;simp only [ntN] at h1 hx;have hM:=mxI;obtain ⟨y,rfl⟩:=List.length_eq_one_iff.1 h6;rw [Ak,Ak] at h4 h5;rw [A6,anE,anE] at h7;have hk:=AE y;rw [GL] at hx;refine E1 (l:=us) (fun v=>v.lab.2.2.1==0&&sfR v (hd0 [y])) (fun i=>([.ptr 0 0,.sl (.rose VCd) us,.j (us.length:Int),.j (i:Int)],[some (.box (Lt y0 y1 y2 y3 y4 [y]))])) (ex:=(.exit 1,([],[]))) (rt:=(.ret,([.b false],[]))) (by simp) (by simp) (fun m hn=>?_) ?_ (us.length-i) i (by omega) ex d' hx
  ·have hr:=MZ n y0 y1 y2 y3 y4 [y] us us.length m;have hw:=K8 h8 (getElem_mem hn);have hy0:([y]:RL)[(0:Nat)]? = some y:=rfl;rw [Af (dcT (by omega)),T2 (by omega)] at hr;rw [ntN,gtE hn,Ap,hy0,Ap,Ab (by simp),Az (n:=m) (by omega),AG,BD,Ab (dcT ⟨by omega,by omega,h7.1.2,hw⟩)] at hr;refine hr.trans ?_;show _=some (bif us[m].lab.2.2.1==0&&sfR us[m] y then _ else _)
   by_cases q:us[m].lab.2.2.1=0
   ·rw [q];cases sfR us[m] y<;>rfl
   ·have q1:(us[m].lab.2.2.1 != (0:Int))=true:=by simpa using q
    rw [q1,beq_false_of_ne q]; rfl
  ·have hr:=MZ n y0 y1 y2 y3 y4 [y] us us.length us.length;rw [Ae (dcF (by omega))] at hr;exact hr
 ·cases h
theorem KM (n:Nat) (x0:Int) (x1:By) (x2:Int) (x3:Bool) (xs:RVL) (y0:Int) (y1:By) (y2:Int) (y3:Bool) (y4:Int) (ys:RL) (us:RVL) (h3:us.length<=4000000000) (h4:xs.length=us.length) (h5:Ak ys<=n) (h6:Ak ys<=1000000) (h7:A6 y0 ys=true) (h8:IK us=true) : ∀ (j i:Nat),i+j=us.length->∀ ex d,(Br.br (sfM ys xs i (us.drop i)) (.leaf (.exit 3,([.ptr 0 0,.ptr 1 0],[some (.box (Lv x0 x1 x2 x3 xs)),some (.box (Lt y0 y1 y2 y3 y4 ys))]))) (.leaf (.ret,([.b false],[]))):Br (Ex×Dt)).run=some (ex,d)->
  Runs prog (S5 n) (Aa [(12,JS n),(19,IS n)]) 0 (body f122 1) (IS n) ([.ptr 0 0,.ptr 1 0,.sl (.rose VCd) us,.j (us.length:Int),.j (i:Int)],[some (.box (Lv x0 x1 x2 x3 xs)),some (.box (Lt y0 y1 y2 y3 y4 ys))]) ex d
 | 0,i,hi,ex,d,h=>by
  have hr:=MY n x0 x1 x2 x3 xs y0 y1 y2 y3 y4 ys us us.length i;dsimp only [shr] at hr;rw [Ae (dcF (by omega))] at hr;rw [drop_eq_nil_of_le (by omega),sfM] at h;obtain ⟨rfl,rfl⟩:=lfP h;exact stp hr
 | j+1,i,hi,ex,d,h=>by
  have hl:i<us.length:=by omega
  have hM:=mxI;have hr:=MY n x0 x1 x2 x3 xs y0 y1 y2 y3 y4 ys us us.length i;dsimp only [shr] at hr;have hw:=K8 h8 (getElem_mem hl);have hlen:=Bc ys;rw [Af (dcT (by omega)),T2 (by omega)] at hr;rw [ntN,gtE hl,Ap,Az (n:=i) (by omega),Ab (dcT (by omega)),AG,BD] at hr;rw [drop_eq_getElem_cons hl,sfM] at h
  have stop : ∀ {x:Option (Ex×Dt)},x=some (.ret,([.b false],[]))->(Br.br false (.leaf (.exit 3,([.ptr 0 0,.ptr 1 0],[some (.box (Lv x0 x1 x2 x3 xs)),some (.box (Lt y0 y1 y2 y3 y4 ys))]))) (.leaf (.ret,([.b false],[]))):Br (Ex×Dt)).run=some (ex,d)->x=some (ex,d)/\ex≠.normal:=fun hx h=>by
   obtain ⟨rfl,rfl⟩:=lfP h;exact ⟨hx,by simp⟩
  cases q1:AN us[i].lab.2.2.1 ys with
  | false=>
   rw [q1,Bool.false_and,Bool.false_and] at h;rw [q1,AR] at hr;obtain ⟨g1,g2⟩:=stop hr h;exact .stop _ _ _ g1 g2
  | true=>
   have hb:=FO q1;have hcm:=Bo hb;have hck:=AE (byR us[i].lab.2.2.1 ys);rw [q1,Bool.true_and] at h;rw [q1,Bg,Ab (dcT ⟨by omega,by omega,BO h7 hb,hw⟩)] at hr
   cases q2:sfR us[i] (byR us[i].lab.2.2.1 ys) with
   | false=>
    rw [q2,Bool.false_and,Bool.false_and] at h;rw [q2,Bool.not_false,Bg] at hr;obtain ⟨g1,g2⟩:=stop hr h;exact .stop _ _ _ g1 g2
   | true=>
    rw [q2,Bool.true_and] at h;rw [q2,Bool.not_true,AR] at hr
    cases i with
    | zero=>
     rw [Ae (dcF (by omega))] at hr;rw [J8,Bool.not_false,Bool.true_and] at h;exact sts hr (KM n x0 x1 x2 x3 xs y0 y1 y2 y3 y4 ys us h3 h4 h5 h6 h7 h8 j 1 (by omega) ex d h)
    | succ i=>
     have hl':i<xs.length:=by omega
     have hw2:i64.wrap (((i+1:Nat):Int)-1)=(i:Int):=by rw [Av (by omega) (by omega)]; omega
     rw [Af (dcT (by omega)),hw2,T2 (by omega),ntN,gtE hl',Ap] at hr;have hp:J8 xs (i+1) us[i+1].lab.2.2.1=decide (xs[i].lab.2.2.1>=us[i+1].lab.2.2.1):=by unfold J8; simp only [gtE hl']
     rw [hp] at h
     cases h2:decide (xs[i].lab.2.2.1>=us[i+1].lab.2.2.1) with
     | true=>
      rw [h2,Bool.not_true,Bool.false_and] at h;rw [h2,Bg] at hr;obtain ⟨g1,g2⟩:=stop hr h;exact .stop _ _ _ g1 g2
     | false=>
      rw [h2,Bool.not_false,Bool.true_and] at h;rw [h2,AR] at hr;exact sts hr (KM n x0 x1 x2 x3 xs y0 y1 y2 y3 y4 ys us h3 h4 h5 h6 h7 h8 j (i+1+1) (by omega) ex d h)
theorem Ab1 (n:Nat) : ∀ d e d',((IS n).L d).run=some (e,d')->Runs prog (S5 n) (Aa [(12,JS n),(19,IS n)]) 0 (body f122 1) (IS n) d e d':=fun d ex d' h=>by
 unfold IS at h;dsimp only at h;split at h
 ·rename_i us k i x0 x1 x2 x3 xs y0 y1 y2 y3 y4 ys;obtain ⟨hc,hx⟩:=Ad h;clear h;obtain ⟨h0,h1,rfl,h3,h4,h5,h6,h7,h8⟩:=of_decide_eq_true hc;obtain ⟨i,rfl⟩:=eq_ofNat_of_zero_le h0;simp only [ntN] at h1 hx;exact KM n x0 x1 x2 x3 xs y0 y1 y2 y3 y4 ys us h3 h4 h5 h6 h7 h8 (us.length-i) i (by omega) ex d' hx
 ·cases h
theorem Abx (n:Nat) (x0:Int) (x1:By) (x2:Int) (x3:Bool) (xs:RVL) (y0:Int) (y1:By) (y2:Int) (y3:Bool) (y4:Int) (ys:RL) (hc:Ak ys+1<=n+1/\Ak ys+1<=1000000/\Ah (.node (y0,y1,y2,y3,y4,()) ys)=true/\Gf (.node (x0,x1,x2,x3,()) xs)=true):Cx prog (S5 n) (Aa [(12,JS n),(19,IS n)]) f122 [.agg (Lv x0 x1 x2 x3 xs),.agg (Lt y0 y1 y2 y3 y4 ys)] []=some (.b (sfR (.node (x0,x1,x2,x3,()) xs) (.node (y0,y1,y2,y3,y4,()) ys)),[]):=by
 rw [YP,Abz];dsimp only [shr];obtain ⟨h1,h2,h3,h4⟩:=hc;obtain ⟨hp,hrr⟩:=Cr h3;rw [Gf,anE,dcE] at h4;obtain ⟨h4,h5⟩:=h4;have hk:=Dl hp;simp only [Rose.lab,Rose.kids] at hp hrr hk;have hM:=mxI;have hlen:=Bc ys;have e1:(x1 != []) = !(x1==Ag UInt8):=rfl;unfold Dq;rw [e1];rcases hk with rfl | rfl | rfl | ⟨rfl,h6⟩ | rfl
 ·cases x3<;>cases x1==Ag UInt8<;>cases x0 != 0<;>rfl
 ·have hd:decide ((x1.length:Int)<=30)=decide (x1.length<=30):=decide_eq_decide.2 (by omega);rw [hd];cases x3<;>cases x1==Ag UInt8<;>cases x0 != 0<;>rfl
 ·cases x3<;>cases x1==Ag UInt8<;>cases x0 != 0<;>rfl
 ·rw [drop_zero];have d1:decide ((0:Int)<=0/\0<=xs.length/\(xs.length:Int)=(xs.length:Int)/\xs.length<=4000000000/\Ak ys<=n/\Ak ys<=1000000/\ys.length=1/\A6 4 ys=true/\IK xs=true)=true:=dcT ⟨by omega,by omega,rfl,h4,by omega,by omega,h6,hrr,h5⟩;rw [d1];cases x3<;>cases x1==Ag UInt8<;>cases x0 != 0<;>cases sfL (hd0 ys) xs<;>rfl
 ·rw [drop_zero];have d1:decide ((0:Int)<=0/\0<=xs.length/\(xs.length:Int)=(xs.length:Int)/\xs.length<=4000000000/\xs.length=xs.length/\Ak ys<=n/\Ak ys<=1000000/\A6 5 ys=true/\IK xs=true)=true:=dcT ⟨by omega,by omega,rfl,h4,rfl,by omega,by omega,hrr,h5⟩;have d2:decide (ys.length<=maxI/\xs.length<=maxI)=true:=dcT ⟨by omega,by omega⟩;rw [d1,d2];cases x3<;>cases x1==Ag UInt8<;>cases x0 != 0<;>cases sfM ys xs 0 xs<;>cases B9 xs ys<;>rfl
theorem Aby : ∀ n,(∀ m,m<n->Ac prog 122 (Ent.rd1 (sfN m)).F)->Ac prog 122 (Ent.rd1 (sfN n)).F
 | 0,_=>AP fun vs bs=>by
  unfold Ent.F sfN;dsimp only;split
  ·rename_i x0 x1 x2 x3 xs y0 y1 y2 y3 y4 ys;have:decide (Ak ys+1<=0/\Ak ys+1<=1000000/\Ah (.node (y0,y1,y2,y3,y4,()) ys)=true/\Gf (.node (x0,x1,x2,x3,()) xs)=true)=false:=dcF (by omega);rw [this]; rfl
  ·rfl
 | n+1,ih=>by
  refine fcN (kc func122 (ih n (lt_succ_self n)) (kc func151 Ky (kc func135 Th (kc func100 Qj (kc func38 WU (kc func119 Tg KnowsL.nil)))))).knows (Λ:=(Aa [(12,JS n),(19,IS n)])) func122 fun vs bs r hq=>?_
  unfold Ent.F sfN at hq;dsimp only at hq;split at hq
  ·rename_i x0 x1 x2 x3 xs y0 y1 y2 y3 y4 ys;obtain ⟨hc,hx⟩:=Ad hq;exact ⟨LoopsI.loops (.cons (a:=body f122 0) (by kernel_rfl) (Ab2 n) (.cons (a:=body f122 1) (by kernel_rfl) (Ab1 n) .nil)) (by kernel_rfl),(Abx n x0 x1 x2 x3 xs y0 y1 y2 y3 y4 ys (of_decide_eq_true hc)).trans hx⟩
  ·cases hq
theorem Ac2:Ac prog 122 (Ent.rd1 sfG).F:=by
 refine Bb (F:=fun n=>(Ent.rd1 (sfN n)).F) Aby fun vs bs r h=>?_
 unfold Ent.F sfG at h;dsimp only at h;split at h
 ·rename_i x0 x1 x2 x3 xs y0 y1 y2 y3 y4 ys;obtain ⟨hc,hx⟩:=Ad h;refine ⟨Ak ys+1,?_⟩;show (Br.need (decide (Ak ys+1<=Ak ys+1/\Ak ys+1<=1000000/\Ah (.node (y0,y1,y2,y3,y4,()) ys)=true/\Gf (.node (x0,x1,x2,x3,()) xs)=true)) (.leaf (.b (sfR (.node (x0,x1,x2,x3,()) xs) (.node (y0,y1,y2,y3,y4,()) ys)),[]))).run=some r;have:decide (Ak ys+1<=Ak ys+1/\Ak ys+1<=1000000/\Ah (.node (y0,y1,y2,y3,y4,()) ys)=true/\Gf (.node (x0,x1,x2,x3,()) xs)=true)=true:=dcT ⟨Nat.le_refl _,of_decide_eq_true hc⟩;rw [this];exact hx
 ·cases h
instance decNd0:DecidableEq (Int×Bool×Unit):=inferInstance
instance decNd:DecidableEq Nd:=inferInstance
def Nr (l:List Nd) (e:Nat):Option Bool:=(l[e]?).map fun x=>x.2.2.2.2.1
def D1 (v:List Nd) (u:Int):Nat->Int->Bool
 | 0,_=>false
 | f+1,x=>if x<0 then false else (x==u||match upN v x.toNat with | some w=>D1 v u f w | none=>false)
def D4 (l:List Nd) (i:Nat):Bool:=(range i).all fun j=>match upN l j with | some v=>decide (v<(j:Int)) | none=>false
def okN (v:List Nd) (i:Nat):Bool:=match v[i]? with
 | none=>false
 | some x=>if i=0 then x.2.2.2.1==-1&&x.2.2.1==0
  else decide (0<=x.2.2.2.1/\x.2.2.2.1<(i:Int))&&((Nr v x.2.2.2.1.toNat).getD false&&D1 v x.2.2.2.1 i ((i:Int)-1))
def EV (v:List Nd):Bool:=(range v.length).all (okN v)&&decide (1<=v.length/\v.length<=40)
def Oo:Gm
 | [.agg [.sl NCd v]],[]=>.need (decide (v.length<=4000000000)) (.leaf (.b (EV v),[]))
 | _,_=>.no
def H7:LoopEnt:=⟨68,[1,8,9,10],[1],[2],fun
 | ([.ptr 0 0,.sl NCd q,.j m,.j i],[some (.box [.sl NCd v])])=>.need (decide (0<=i/\i.toNat<=v.length/\m=v.length/\eqT (List Nd) q v/\v.length<=4000000000)&&D4 v i.toNat) (.br (((range v.length).drop i.toNat).all (okN v)) (.leaf (.exit 0,([.ptr 0 0],[some (.box [.sl NCd v])]))) (.leaf (.ret,([.b false],[]))))
 | _=>.no⟩
def Ii:LoopEnt:=⟨68,[1,4,5,6,8,9,10],[1,5,8,9,10],[],fun
 | ([.ptr 0 0,.ptr 1 0,.b ar,.j x,.sl NCd q,.j m,.j i],[some (.box [.sl NCd v]),some (.box [.j _,.s _,.j _,.j y3,.b _])])=>.need (decide (0<=i/\i.toNat<=v.length/\x<i/\v.length<=4000000000)&&D4 v i.toNat) (.leaf (.exit 2,([.ptr 0 0,.b (ar||D1 v y3 (x+1).toNat x),.sl NCd q,.j m,.j i],[some (.box [.sl NCd v])])))
 | _=>.no⟩
theorem Nl (v q:List Nd) (m i:Int):Au prog (Aa [(100,.rd1 AC)]) (Aa [(2,H7),(11,Ii)]) 0 (body f121 0) H7 ([.ptr 0 0,.sl NCd q,.j m,.j i],[some (.box [.sl NCd v])]) =
 ((ifB (decide (i<m)) (ifT (decide (0<=i)&&decide (i<(↑q.length:Int))) (An q[i.toNat]? fun z=>ifB (i==0) (ifB (z.2.2.2.1 != (-1:Int)) rF (ifB (z.2.2.1 != (0:Int)) rF (some (Ex.normal,[V.ptr 0 0,V.sl NCd q,V.j m,V.i .i64
 (i64.wrap (i+1))],[some (Blk.box [V.sl NCd v])])))) (ifB (decide (z.2.2.2.1<(0:Int))) rF (ifB (decide
 (z.2.2.2.1>=i)) rF (ifT (decide ((0:Int)<=z.2.2.2.1)&&decide (z.2.2.2.1<(↑v.length:Int))) (An
 v[toNat z.2.2.2.1]? fun z_1=>ifB (!z_1.2.2.2.2.1) rF (ifT (decide (0<=i/\i.toNat<=v.length/\i64.wrap (i
 - 1)<i/\v.length<=4000000000)&&D4 v i.toNat) (ifB (!(false||D1 v z.2.2.2.1 (i64.wrap (i-1)+(1:Int)).toNat (i64.wrap
 (i-1)))) rF (some (Ex.normal,[V.ptr 0 0,V.sl NCd q,V.j m,V.j (i64.wrap (i+1))],[some (Blk.box [V.sl NCd
 v])])))))))))) (some (Ex.exit 0,[V.ptr 0 0],[some (Blk.box [V.sl NCd v])]))):_):=by kernel_rfl
theorem Un (v q:List Nd) (y0:Int) (y1:By) (y2 y3:Int) (y4:Bool) (ar:Bool) (m i x:Int):Au prog (Aa [(100,.rd1 AC)]) (Aa [(2,H7),(11,Ii)]) 0 (body f121 1) Ii ([.ptr 0 0,.ptr 1 0,.b ar,.j x,.sl NCd q,.j m,.j i],[some (.box [.sl NCd v]),some (.box [.j y0,.s y1,.j y2,.j y3,.b y4])]) =
 ((ifB (decide (x>=0)) (ifB ar (ifT (decide (0<=x)&&decide (x<(↑v.length:Int))) (An v[x.toNat]? fun z=>some (Ex.normal,[V.ptr 0 0,V.ptr 1 0,V.b true,V.i
 .i64 z.2.2.2.1,V.sl NCd q,V.j m,V.j i],[some (Blk.box [V.sl NCd v]),some (Blk.box [V.j y0,V.s y1,V.j y2,V.j y3,V.b y4])]))) (ifT
 (decide (0<=x)&&decide (x<(↑v.length:Int))) (An v[x.toNat]? fun z=>some (Ex.normal,[V.ptr 0 0,V.ptr 1 0,V.b (x==y3),V.j z.2.2.2.1,V.sl
 NCd q,V.j m,V.j i],[some (Blk.box [V.sl NCd v]),some (Blk.box [V.j y0,V.s y1,V.j y2,V.j y3,V.b y4])])))) (some (Ex.exit 2,[V.ptr 0 0,
 V.b ar,V.sl NCd q,V.j m,V.j i],[some (Blk.box [V.sl NCd v])]))):_):=by kernel_rfl
theorem Zn (v:List Nd):AT prog (Aa [(100,.rd1 AC)]) (Aa [(2,H7),(11,Ii)]) f121 [.agg [.sl NCd v]] [] =
 ((ifT (decide ((0:Int)<=(0:Int)/\0<=v.length/\(↑v.length:Int)=(↑v.length:Int)/\eqT (List Nd) v v/\v.length<=4000000000)&&D4 v (0 :
 Nat)) (ifB ((drop 0 (range v.length)).all (okN v)) (some (V.b (decide (1<=(↑v.length:Int)/\(↑v.length:Int)<=(40:Int))),[])) nF)):_):=by kernel_rfl
theorem S6 {l:List Nd} {i j:Nat} (h:D4 l i=true) (hj:j<i) : ∃ v,upN l j=some v/\v<(j:Int):=by
 have:=all_eq_true.1 h j (mem_range.2 hj)
 cases hu:upN l j with
 | none=>rw [hu] at this; cases this
 | some v=>rw [hu] at this; exact ⟨v,rfl,of_decide_eq_true this⟩
theorem Pb {l:List Nd} {i:Nat} (h:D4 l i=true) {u:Int} (hu:upN l i=some u) (hlt:u<(i:Int)):D4 l (i+1)=true:=by
 unfold D4 at h ⊢;rw [List.range_succ,List.all_append,h,Bool.true_and,List.all_cons,List.all_nil,Bool.and_true,hu];exact dcT hlt
theorem Hw {l:List Nd} {i:Nat} (h:D4 l i=true) (u:Int) : ∀ (f f':Nat) (x:Int),x<(i:Int)->(x+1).toNat<=f->(x+1).toNat<=f'->D1 l u f x=D1 l u f' x
 | 0,0,x,_,_,_=>rfl
 | 0,f'+1,x,hx,h1,h2=>by rw [D1,D1,if_pos (by omega)]
 | f+1,0,x,hx,h1,h2=>by rw [D1,D1,if_pos (by omega)]
 | f+1,f'+1,x,hx,h1,h2=>by
  rw [D1,D1]
  by_cases a:x<0
  ·rw [if_pos a,if_pos a]
  ·rw [if_neg a,if_neg a];obtain ⟨v,hv,hv2⟩:=S6 h (j:=x.toNat) (by omega);rw [hv];dsimp only;rw [Hw h u f f' v (by omega) (by omega) (by omega)]
theorem IO {l:List Nd} {e:Nat} (h:e<l.length):upN l e=some l[e].2.2.2.1:=by
 unfold upN;rw [gtE h]; rfl
theorem WK (v q:List Nd) (y0:Int) (y1:By) (y2 y3:Int) (y4:Bool) (m:Int) (i:Nat) (hi:i<=v.length) (_:v.length<=4000000000) (hs:D4 v i=true) : ∀ (j:Nat) (x:Int) (ar:Bool),(x+1).toNat=j->x<(i:Int)->
  Runs prog (Aa [(100,.rd1 AC)]) (Aa [(2,H7),(11,Ii)]) 0 (body f121 1) Ii ([.ptr 0 0,.ptr 1 0,.b ar,.j x,.sl NCd q,.j m,.j (i:Int)],[some (.box [.sl NCd v]),some (.box [.j y0,.s y1,.j y2,.j y3,.b y4])]) (.exit 2) ([.ptr 0 0,.b (ar||D1 v y3 (x+1).toNat x),.sl NCd q,.j m,.j (i:Int)],[some (.box [.sl NCd v])]):=by
 intro j
 induction j using Nat.strongRecOn with
 | ind j ih=>
  intro x ar hj hx;have hr:=Un v q y0 y1 y2 y3 y4 ar m i x
  by_cases a:x<0
  ·rw [Ae (dcF (by omega))] at hr;have e0:(x+1).toNat=0:=by omega
   rw [e0,D1,Bool.or_false];exact stp hr
  ·obtain ⟨x,rfl⟩:=eq_ofNat_of_zero_le (by omega:0<=x);have hxl:x<v.length:=by omega
   have hd:(decide ((0:Int)<=(x:Int))&&decide ((x:Int)<(v.length:Int)))=true:=by simp only [anE,dcE]; omega
   rw [Af (dcT (by omega)),hd,ntN,gtE hxl,Cw,Ap,Cw,Ap] at hr;obtain ⟨w,hw,hw2⟩:=S6 hs (j:=x) (by omega);have hw3:v[x].2.2.2.1=w:=by rw [IO hxl] at hw; exact Option.some.inj hw
   rw [hw3] at hr;have e0:((x:Int)+1).toNat=x+1:=by omega
   rw [e0,D1,if_neg (by omega),ntN,hw];dsimp only;rw [Hw hs y3 x (w+1).toNat w (by omega) (by omega) (Nat.le_refl _),<-Bool.or_assoc];refine sts (hr.trans ?_) (ih (w+1).toNat (by omega) w (ar||(x:Int)==y3) rfl (by omega));cases ar<;>rfl
theorem Aco : ∀ d e d',(Ii.L d).run=some (e,d')->Runs prog (Aa [(100,.rd1 AC)]) (Aa [(2,H7),(11,Ii)]) 0 (body f121 1) Ii d e d':=fun d ex d' h=>by
 unfold Ii at h;dsimp only at h;split at h
 ·rename_i ar x q m i v y0 y1 y2 y3 y4;obtain ⟨hc,hx⟩:=Ad h;clear h;rw [anE] at hc;obtain ⟨hc,hs⟩:=hc;obtain ⟨h0,h1,h2,h3⟩:=of_decide_eq_true hc;obtain ⟨i,rfl⟩:=eq_ofNat_of_zero_le h0;simp only [ntN] at h1 hs;obtain ⟨rfl,rfl⟩:=lfP hx;exact WK v q y0 y1 y2 y3 y4 m i h1 h3 hs _ x ar rfl h2
 ·cases h
theorem Acm {v:List Nd} {i:Nat} (h:okN v i=true) : ∃ u,upN v i=some u/\u<(i:Int):=by
 unfold okN at h
 cases hx:v[i]? with
 | none=>rw [hx] at h; cases h
 | some x=>
  rw [hx] at h;dsimp only at h;refine ⟨x.2.2.2.1,by unfold upN; rw [hx]; rfl,?_⟩;split at h
  ·rw [anE,beq_iff_eq] at h; omega
  ·rw [anE,dcE] at h; exact h.1.2
theorem WL (v:List Nd) (hl:v.length<=4000000000) (i:Nat) (hi:i<v.length) (hs:D4 v i=true) :
  Au prog (Aa [(100,.rd1 AC)]) (Aa [(2,H7),(11,Ii)]) 0 (body f121 0) H7 ([.ptr 0 0,.sl NCd v,.j (v.length:Int),.j (i:Int)],[some (.box [.sl NCd v])])=some (bif okN v i then (.normal,([.ptr 0 0,.sl NCd v,.j (v.length:Int),.j ((i+1:Nat):Int)],[some (.box [.sl NCd v])])) else (.ret,([.b false],[]))):=by
 have hM:=mxI;have hr:=Nl v v v.length i;rw [Af (dcT (by omega)),T2 (by omega),ntN,gtE hi,Ap,Az (n:=i) (by omega)] at hr;refine hr.trans ?_;clear hr;unfold okN;rw [gtE hi];dsimp only
 by_cases hz:i=0
 ·subst hz;rw [if_pos rfl,show (((0:Nat):Int)==0)=true from rfl];unfold bne;cases v[0].2.2.2.1==-1<;>cases v[0].2.2.1==0<;>rfl
 ·rw [if_neg hz,show ((i:Int)==0)=false from beq_false_of_ne (by omega),AR];have hw:i64.wrap ((i:Int)-1)=(i:Int)-1:=Av (by omega) (by omega);rw [hw]
  by_cases c:0<=v[i].2.2.2.1/\v[i].2.2.2.1<(i:Int)
  ·obtain ⟨u,hu⟩:=eq_ofNat_of_zero_le c.1;rw [hu] at c ⊢;have hul:u<v.length:=by omega
   rw [dcT c,Ae (dcF (by omega)),Ae (dcF (by omega)),T2 (by omega),ntN,gtE hul,Ap];have hm:Nr v u=some v[u].2.2.2.2.1:=by unfold Nr; rw [gtE hul]; rfl
   rw [hm,Ab (by rw [anE]; exact ⟨dcT ⟨by omega,by omega,by omega,hl⟩,hs⟩)];rw [Hw hs u ((i:Int)-1+1).toNat i ((i:Int)-1) (by omega) (Nat.le_refl _) (by omega)];show _=some (bif true&&(v[u].2.2.2.2.1&&_) then _ else _);cases v[u].2.2.2.2.1<;>cases D1 v u i ((i:Int)-1)<;>rfl
  ·rw [dcF c]
   by_cases c1:v[i].2.2.2.1<0
   ·rw [Af (dcT c1)]; rfl
   ·rw [Ae (dcF c1),Af (dcT (by omega))]; rfl
theorem PN (v:List Nd) (hl:v.length<=4000000000) : ∀ (j i:Nat),i+j=v.length->D4 v i=true->∀ ex d,(Br.br (((range v.length).drop i).all (okN v)) (.leaf (.exit 0,([.ptr 0 0],[some (.box [.sl NCd v])]))) (.leaf (.ret,([.b false],[]))):Br (Ex×Dt)).run=some (ex,d)->
  Runs prog (Aa [(100,.rd1 AC)]) (Aa [(2,H7),(11,Ii)]) 0 (body f121 0) H7 ([.ptr 0 0,.sl NCd v,.j (v.length:Int),.j (i:Int)],[some (.box [.sl NCd v])]) ex d
 | 0,i,hi,hs,ex,d,h=>by
  have hr:=Nl v v v.length i;rw [Ae (dcF (by omega))] at hr;have e1:(range v.length).drop i=[]:=drop_eq_nil_of_le (by simp; omega);rw [e1] at h;obtain ⟨rfl,rfl⟩:=lfP h;exact stp hr
 | j+1,i,hi,hs,ex,d,h=>by
  have hr:=WL v hl i (by omega) hs;rw [Lc (by omega),List.all_cons] at h
  cases hk:okN v i with
  | true=>
   rw [hk,cond_true] at hr;rw [hk,Bool.true_and] at h;obtain ⟨u,hu,hlt⟩:=Acm hk;exact sts hr (PN v hl j (i+1) (by omega) (Pb hs hu hlt) ex d h)
  | false=>
   rw [hk,cond_false] at hr;rw [hk,Bool.false_and] at h;obtain ⟨rfl,rfl⟩:=lfP h;exact stp hr
theorem Acp : ∀ d e d',(H7.L d).run=some (e,d')->Runs prog (Aa [(100,.rd1 AC)]) (Aa [(2,H7),(11,Ii)]) 0 (body f121 0) H7 d e d':=fun d ex d' h=>by
 unfold H7 at h;dsimp only at h;split at h
 ·rename_i q m i v;obtain ⟨hc,hx⟩:=Ad h;clear h;rw [anE] at hc;obtain ⟨hc,hs⟩:=hc;obtain ⟨h0,h1,rfl,h3,h4⟩:=of_decide_eq_true hc;have h3:q=v:=h3;subst h3;obtain ⟨i,rfl⟩:=eq_ofNat_of_zero_le h0;simp only [ntN] at h1 hs hx;exact PN _ h4 _ i (Nat.add_sub_of_le h1) hs ex d' hx
 ·cases h
theorem Zu:Ac prog 121 (Ent.rd1 Oo).F:=by
 refine fcK (kc func100 Qj KnowsL.nil).knows (Λ:=(Aa [(2,H7),(11,Ii)])) func121 fun vs bs r hq=>?_
 unfold Ent.F Oo at hq;dsimp only at hq;split at hq
 ·rename_i v;obtain ⟨hc,hx⟩:=Ad hq;have h1:=of_decide_eq_true hc;refine ⟨LoopsI.loops (.cons (a:=body f121 0) (by kernel_rfl) Acp (.cons (a:=body f121 1) (by kernel_rfl) Aco .nil)) (by kernel_rfl),Eq.trans ?_ hx⟩;have hu0:D4 v 0=true:=rfl;have d0:decide ((0:Int)<=0/\0<=v.length/\(v.length:Int)=(v.length:Int)/\eqT (List Nd) v v/\v.length<=4000000000)=true:=dcT ⟨by omega,by omega,rfl,rfl,h1⟩;have hle:decide (1<=(v.length:Int)/\(v.length:Int)<=40)=decide (1<=v.length/\v.length<=40):=decide_eq_decide.2 (by omega);rw [Zn,d0,hu0,drop_zero,hle];unfold EV;cases (range v.length).all (okN v)<;>rfl
 ·cases hq
def D2 (v:List Nd) (l:List Ty):Bool:=Ay l&&(EV v&&sfR (v4L v 0) (t2L l 0))
def Rv:Gm
 | [.agg [.sl NCd v],.agg [.sl TCd l]],[]=>.need (decide (l.length<=4000000000)&&nmL l&&decide (v.length<=4000000000)) (.leaf (.b (D2 v l),[]))
 | _,_=>.no
theorem Ru (v:List Nd) (l:List Ty):AT prog (Aa [(63,.rd1 FX),(121,.rd1 Oo),(77,.rd1 Ir),(39,.rd1 C7),(122,.rd1 sfG)]) (Aa []) f75 [.agg [.sl NCd v],.agg [.sl TCd l]] [] =
 ((ifT (decide (l.length<=4000000000)&&nmL l) (ifB (Ay l) (ifT (decide (v.length<=4000000000)) (ifB (EV v) (ifT (decide ((0:Int)<=(0:Int)/\(0
 : Nat)<v.length/\v.length<=4000000000)) (ifT (decide ((0:Int)<=(0:Int)/\0<l.length/\l.length<=4000000000)) (ifT (decide (Ak
 (take (t2L l 0).kids.length (drop 0 (t2L l 0).kids))+1<=1000000/\Ah (Rose.node ((t2L l 0).lab.1,(t2L
 l 0).lab.2.1,(t2L l 0).lab.2.2.1,(t2L l 0).lab.2.2.2.1,(t2L l 0).lab.2.2.2.2.1,()) (take (t2L l (0 :
 Nat)).kids.length (drop 0 (t2L l 0).kids)))=true/\Gf (Rose.node ((v4L v 0).lab.1,(v4L v 0).lab.2.1,(v4L v (0 :
 Nat)).lab.2.2.1,(v4L v 0).lab.2.2.2.1,()) (take (v4L v 0).kids.length (drop 0 (v4L v 0).kids)))=true)) (some
 (V.b (sfR (Rose.node ((v4L v 0).lab.1,(v4L v 0).lab.2.1,(v4L v 0).lab.2.2.1,(v4L v 0).lab.2.2.2.1,()) (take
 (v4L v 0).kids.length (drop 0 (v4L v 0).kids))) (Rose.node ((t2L l 0).lab.1,(t2L l 0).lab.2.1,(t2L l (0 :
 Nat)).lab.2.2.1,(t2L l 0).lab.2.2.2.1,(t2L l 0).lab.2.2.2.2.1,()) (take (t2L l 0).kids.length (drop 0
 (t2L l 0).kids)))),[]))))) nF)) nF)):_):=by kernel_rfl
theorem Abk {v:List Nd} (hl:v.length<=4000000000) : ∀ (f k:Nat),Gf (v4t v f k)=true:=by
 have all : ∀ l:RVL,(∀ z∈l,Gf z=true)->IK l=true:=fun l=>by
  induction l with
  | nil=>intro _; rfl
  | cons z l ih=>intro h; rw [IK,h z (by simp),ih fun w hw=>h w (by simp [hw])]; rfl
 intro f
 induction f with
 | zero=>intro k; rw [v4t,Gf]; rfl
 | succ f ih=>
  intro k;have h1:=Ou (k:Int) (v.drop (k+1)) (k+1);rw [length_drop] at h1;have h2:(EW v k).length<=v.length-(k+1):=h1
  rw [v4t,Gf,all _ (fun z hz=>by
   obtain ⟨x,_,rfl⟩:=List.mem_map.1 hz
   exact ih _),List.length_map,dcT (by omega)]
  rfl
theorem DT {l:List Ty} (h:Ay l=true):0<l.length/\Aj (t2L l 0)<=1000000/\Ah (t2L l 0)=true/\(kf l 0).1=t2L l 0:=by
 have e:=(K1 l).2 h;have f:=Qo h;rw [e] at f;refine ⟨?_,f.1,f.2,e⟩;unfold Ay at h;simp only [anE,dcE] at h;omega
theorem TT (v:List Nd) (l:List Ty) (h1:(decide (l.length<=4000000000)&&nmL l)=true) (h2:v.length<=4000000000):AT prog (Aa [(63,.rd1 FX),(121,.rd1 Oo),(77,.rd1 Ir),(39,.rd1 C7),(122,.rd1 sfG)]) (Aa []) f75 [.agg [.sl NCd v],.agg [.sl TCd l]] []=some (.b (D2 v l),[]):=by
 rw [Ru,h1,Cw];unfold D2
 cases hk:Ay l with
 | false=>rfl
 | true=>
  obtain ⟨k1,k2,k3,k4⟩:=DT hk;rw [Bg,Ab (dcT h2)]
  cases hn:EV v with
  | false=>rfl
  | true=>
   have hv:0<v.length:=by
    unfold EV at hn;simp only [anE,dcE] at hn;omega
   rw [anE,dcE] at h1;have hck:=AE (t2L l 0);have hw:Gf (v4L v 0)=true:=Abk h2 _ _;rw [Bg,Ab (dcT ⟨by omega,hv,h2⟩),Ab (dcT ⟨by omega,k1,h1.1⟩),C9,IL,drop_zero,take_length,Ab (dcT ⟨by omega,k3,hw⟩)];rfl
theorem Abv:Ac prog 75 (Ent.rd1 Rv).F:=by
 refine fcK (kc func63 KL (kc func121 Zu (kc func77 WS (kc func39 F5 (kc func122 Ac2 KnowsL.nil))))).knows (Λ:=Aa []) func75 fun vs bs r hq=>?_
 unfold Ent.F Rv at hq;dsimp only at hq;split at hq
 ·rename_i v l;obtain ⟨hc,hx⟩:=Ad hq;rw [anE,dcE] at hc;exact ⟨Ao _,(TT v l hc.1 hc.2).trans hx⟩
 ·cases hq
def asT (x:Nd):Ty:=(bif x.2.2.2.2.1 then 5 else 1,x.2.1,x.2.2.1,x.2.2.2.2.1,x.2.2.2.1,x.1,())
def tys (v:List Nd):List Ty:=v.map asT
def cvL (x:Lab):A4:=(x.2.2.2.2.1,x.2.1,x.2.2.1,x.2.2.2.1,())
mutual
def cv:Rose Lab->Rose A4
 | .node x ks=>.node (cvL x) (cvs ks)
def cvs:RL->RVL
 | []=>[]
 | z::l=>cv z::cvs l
end
def BA:RL->RVL->Bool
 | [],us=>us.isEmpty
 | z::ks,[]=>!z.lab.2.2.2.1&&BA ks []
 | z::ks,u::us=>if u.lab.2.2.1=z.lab.2.2.1 then sfR u z&&BA ks us else !z.lab.2.2.2.1&&BA ks (u::us)
theorem Bn (v:List Nd):(tys v).length=v.length:=by unfold tys; rw [List.length_map]
theorem Eu (v:List Nd) (i:Nat):Ba (tys v) i=upN v i:=by
 unfold Ba upN tys;rw [List.getElem?_map];cases v[i]?<;>rfl
theorem GO {v:List Nd} {i:Nat} (h:i<v.length):A5 (tys v) i=(bif v[i].2.2.2.2.1 then 5 else 1,v[i].2.1,v[i].2.2.1,v[i].2.2.2.2.1,v[i].1,()):=by
 unfold A5 tys;rw [List.getElem?_map,gtE h];rfl
theorem Jl {v:List Nd} {i:Nat} (h:i<v.length):Ar (A5 (tys v) i).1=v[i].2.2.2.2.1:=by
 rw [GO h];cases v[i].2.2.2.2.1<;>rfl
theorem T5 : ∀ l:RL,cvs l=l.map cv
 | []=>by rw [cvs]; rfl
 | z::l=>by rw [cvs,T5 l]; rfl
theorem Aeh (z:Rose Lab):(cv z).lab=cvL z.lab:=by cases z; rw [cv]; rfl
theorem SX (k:Int) : ∀ (l:List Nd) (i:Nat),nkL k i l=CS k i (l.map asT)
 | [],i=>rfl
 | x::l,i=>by
  rw [nkL,List.map_cons,CS,SX k l];rfl
theorem WM (v:List Nd) (k:Nat):EW v k=BB (tys v) k:=by
 unfold EW BB tys;rw [SX,List.map_drop]
theorem VA {v:List Nd} : ∀ (n k:Nat),v.length-k<=n->k<v.length->v4L v k=cv (t2L (tys v) k)
 | 0,k,h1,h2=>by omega
 | n+1,k,h1,h2=>by
  have hl:=Bn v;rw [Aa6 h2,VM (by omega),cv,T5,List.map_map,WM];congr 1
  ·rw [GO h2];unfold IZ;rw [gtE h2];rfl
  ·refine List.map_congr_left fun x hx=>?_
   obtain ⟨j,rfl,h3,h4⟩:=F7 hx;exact VA n _ (by simp; omega) (by simp; omega)
theorem D9 {l:List Ty} {g:Nat->Rose Lab×Nat} {a:Nat} : ∀ (n e:Nat) (ks:RL),AB g l a n e ks=(ks++(AB g l a n e []).1,(AB g l a n e []).2)
 | 0,e,ks=>by simp [AB]
 | n+1,e,ks=>by
  rw [AB,AB];split
  ·rw [D9 n _ (ks++[(g e).1]),D9 n _ ([]++[(g e).1])];simp
  ·simp
theorem H6 {v:List Nd} {a e:Nat}:CV v a e=true↔Ba (tys v) e=some (a:Int):=by
 rw [Eu];unfold CV;exact beq_iff_eq
def LI (v:List Nd) (z:Rose Lab):Prop:=∀ e,e<v.length->vfR v z e=if sfR (cv (kf (tys v) e).1) z=true then ((kf (tys v) e).2:Int) else -1
theorem L5 {v:List Nd} {e:Nat} (h:e<v.length):(cv (kf (tys v) e).1).lab=(v[e].1,v[e].2.1,v[e].2.2.1,v[e].2.2.2.2.1,()):=by
 rw [Aeh,N3 (by rw [Bn]; exact h)];show cvL (A5 (tys v) e)=_;rw [GO h];rfl
theorem Vx {v:List Nd} {a:Nat} {y:Rose Lab} (hg:LI v y) : ∀ n e,vfI v a (vfR v y) n e=if sfL y (cvs (AB (kf (tys v)) (tys v) a n e []).1)=true then ((AB (kf (tys v)) (tys v) a n e []).2:Int) else -1
 | 0,e=>by rw [vfI,AB,cvs,sfL,if_pos rfl]
 | n+1,e=>by
  rw [vfI,AB]
  by_cases ho:CV v a e=true
  ·have hl:=DY ho;rw [if_pos ho,if_pos (H6.1 ho),D9 n _ ([]++[(kf (tys v) e).1]),Gw hl];dsimp only;rw [nil_append,List.singleton_append,cvs,sfL,L5 hl];have hv:=hg e hl;dsimp only
   by_cases q:v[e].2.2.1=0
   ·rw [q,if_pos rfl,beq_self_eq_true,Bool.true_and]
    cases hs:sfR (cv (kf (tys v) e).1) y with
    | false=>
     rw [hs,if_neg (by simp)] at hv;rw [hv,if_pos (by omega),Bool.false_and,if_neg (by simp)]
    | true=>
     rw [hs,if_pos rfl] at hv;rw [hv,if_neg (by omega),ntN,Bool.true_and,Vx hg n]
   ·rw [if_neg (by simpa using q),beq_false_of_ne q,Bool.false_and,Bool.false_and,if_neg (by simp)]
  ·rw [if_neg ho,if_neg (fun h=>ho (H6.2 h)),cvs,sfL,if_pos rfl]
theorem NR {v:List Nd} {a:Nat} : ∀ ks:RL,(∀ z∈ks,LI v z)->∀ n e,v.length-e<=n->
  (if vfP v ks a e<0 then (-1:Int) else if CV v a (vfP v ks a e).toNat=true then -1 else vfP v ks a e)=if BA ks (cvs (AB (kf (tys v)) (tys v) a n e []).1)=true then ((AB (kf (tys v)) (tys v) a n e []).2:Int) else -1
 | [],_,n,e,hn=>by
  rw [vfP,if_neg (by omega),ntN]
  by_cases ho:CV v a e=true
  ·have hl:=DY ho;obtain ⟨n,rfl⟩ : ∃ m,n=m+1:=⟨n-1,by omega⟩
   rw [if_pos ho,AB,if_pos (H6.1 ho),D9];dsimp only;rw [nil_append,List.singleton_append,cvs,BA];rfl
  ·rw [if_neg ho,D8 (fun h=>ho (H6.2 h)),cvs,BA];rfl
 | z::ks,hg,n,e,hn=>by
  have hg2 : ∀ z∈ks,LI v z:=fun w hw=>hg w (List.mem_cons_of_mem _ hw)
  by_cases ho:CV v a e=true
  ·have hl:=DY ho;obtain ⟨n,rfl⟩ : ∃ m,n=m+1:=⟨n-1,by omega⟩
   have hk:AB (kf (tys v)) (tys v) a (n+1) e []=((kf (tys v) e).1::(AB (kf (tys v)) (tys v) a n (kf (tys v) e).2 []).1,(AB (kf (tys v)) (tys v) a n (kf (tys v) e).2 []).2):=by
    rw [AB,if_pos (H6.1 ho),D9];rfl
   have ih:=NR (a:=a) ks hg2 (n+1) e hn;rw [hk] at ih ⊢;dsimp only at ih ⊢;rw [cvs] at ih ⊢;rw [BA,L5 hl];dsimp only
   by_cases q:v[e].2.2.1=z.lab.2.2.1
   ·have hv:=hg z List.mem_cons_self e hl;have hc:CV v a e=true/\noN v e=some z.lab.2.2.1:=⟨ho,by rw [Gw hl,q]⟩
    rw [if_pos q]
    cases hs:sfR (cv (kf (tys v) e).1) z with
    | false=>
     rw [hs,if_neg (by simp)] at hv;have hV:vfP v (z::ks) a e = -1:=by rw [vfP,if_pos hc,hv,if_pos (by omega)]
     rw [hV,if_pos (by omega),Bool.false_and,if_neg (by simp)]
    | true=>
     have hb:=(CI (tys v) e (by rw [Bn]; exact hl)).1;rw [hs,if_pos rfl] at hv;have hV:vfP v (z::ks) a e=vfP v ks a (kf (tys v) e).2:=by rw [vfP,if_pos hc,hv,if_neg (by omega),ntN]
     rw [hV,Bool.true_and];exact NR ks hg2 n _ (by omega)
   ·have hc : ¬(CV v a e=true/\noN v e=some z.lab.2.2.1):=fun h=>q (Option.some.inj ((Gw hl).symm.trans h.2))
    rw [if_neg q]
    cases hm:z.lab.2.2.2.1 with
    | true=>
     have hV:vfP v (z::ks) a e = -1:=by rw [vfP,if_neg hc,if_pos hm]
     rw [hV,if_pos (by omega),Bool.not_true,Bool.false_and,if_neg (by simp)]
    | false=>
     have hV:vfP v (z::ks) a e=vfP v ks a e:=by rw [vfP,if_neg hc,if_neg (by rw [hm]; simp)]
     rw [hV,Bool.not_false,Bool.true_and];exact ih
  ·have hk:AB (kf (tys v)) (tys v) a n e []=([],e):=D8 (fun h=>ho (H6.2 h));have ih:=NR (a:=a) ks hg2 n e hn;have hc : ¬(CV v a e=true/\noN v e=some z.lab.2.2.1):=fun h=>ho h.1
   rw [hk] at ih ⊢;dsimp only at ih ⊢;rw [cvs] at ih ⊢;rw [BA]
   cases hm:z.lab.2.2.2.1 with
   | true=>
    have hV:vfP v (z::ks) a e = -1:=by rw [vfP,if_neg hc,if_pos hm]
    rw [hV,if_pos (by omega),Bool.not_true,Bool.false_and,if_neg (by simp)]
   | false=>
    have hV:vfP v (z::ks) a e=vfP v ks a e:=by rw [vfP,if_neg hc,if_neg (by rw [hm]; simp)]
    rw [hV,Bool.not_false,Bool.true_and];exact ih
def VR (y z:Rose A4):Prop:=y.lab.2.2.1<z.lab.2.2.1
def KR (y z:Rose Lab):Prop:=y.lab.2.2.1<z.lab.2.2.1
theorem VY (ks:RL) : ∀ (us pre:RVL),pre.Pairwise VR->
  (sfM ks (pre++us) pre.length us=true↔(∀ u∈us,AN u.lab.2.2.1 ks=true/\sfR u (byR u.lab.2.2.1 ks)=true)/\(pre++us).Pairwise VR)
 | [],pre,hp=>by rw [sfM,append_nil]; exact ⟨fun _=>⟨fun _ h=>(by cases h),hp⟩,fun _=>rfl⟩
 | z::l,pre,hp=>by
  have hpg:J8 (pre++z::l) pre.length z.lab.2.2.1=true↔∃ y,pre.getLast? = some y/\y.lab.2.2.1>=z.lab.2.2.1:=by
   cases hl:pre.getLast? with
   | none=>
    have:pre=[]:=by simpa using hl
    subst this;simp [J8]
   | some y=>
    have hne:pre≠[]:=by intro e; subst e; cases hl
    obtain ⟨m,hm⟩ : ∃ m,pre.length=m+1:=⟨pre.length-1,by have:=List.length_pos_iff.2 hne; omega⟩
    have hy:(pre++z::l)[m]? = some y:=by
     rw [List.getElem?_append_left (by omega),<-hl,List.getLast?_eq_getElem?,hm]; rfl
    rw [hm];unfold J8;dsimp only;rw [hy];simp
  have hR:(∀ y∈pre,VR y z)↔J8 (pre++z::l) pre.length z.lab.2.2.1=false:=by
   rw [<-Bool.not_eq_true,hpg];constructor
   ·rintro h ⟨y,g1,g2⟩
    have:y.lab.2.2.1<z.lab.2.2.1:=h y (List.mem_of_getLast? g1);omega
   ·intro h y hy;show y.lab.2.2.1<z.lab.2.2.1
    cases hl:pre.getLast? with
    | none=>
     have:pre=[]:=by simpa using hl
     subst this; cases hy
    | some w=>
     have h1 : ¬w.lab.2.2.1>=z.lab.2.2.1:=fun g=>h ⟨w,hl,g⟩
     have hne:pre≠[]:=by intro e; subst e; cases hl
     have e:pre=pre.dropLast++[w]:=by
      rw [List.getLast?_eq_some_getLast hne] at hl;have:=(List.dropLast_concat_getLast hne).symm;rw [Option.some.inj hl] at this;exact this
     rw [e] at hy hp;rcases List.mem_append.1 hy with hy | hy
     ·have:y.lab.2.2.1<w.lab.2.2.1:=(List.pairwise_append.1 hp).2.2 y hy w (by simp);omega
     ·simp at hy; subst hy; omega
  rw [sfM,anE,anE,anE,Bool.not_eq_true',<-hR]
  have hstep:(∀ y∈pre,VR y z)->(sfM ks (pre++z::l) (pre.length+1) l=true↔(∀ u∈l,AN u.lab.2.2.1 ks=true/\sfR u (byR u.lab.2.2.1 ks)=true)/\(pre++z::l).Pairwise VR):=fun hall=>by
   have hp2:(pre++[z]).Pairwise VR:=List.pairwise_append.2 ⟨hp,List.pairwise_singleton _ _,fun y hy w hw=>by simp at hw; subst hw; exact hall y hy⟩;have ih:=VY ks l (pre++[z]) hp2;rw [append_assoc] at ih
   simpa using ih
  constructor
  ·rintro ⟨⟨h1,h2,h3⟩,h4⟩
   have:=(hstep h3).1 h4;refine ⟨fun u hu=>?_,this.2⟩;rcases mem_cons.1 hu with e | hu
   ·rw [e]; exact ⟨h1,h2⟩
   ·exact this.1 u hu
  ·rintro ⟨h1,h2⟩
   have hall : ∀ y∈pre,VR y z:=fun y hy=>(List.pairwise_append.1 h2).2.2 y hy z (by simp)
   exact ⟨⟨(h1 z (by simp)).1,(h1 z (by simp)).2,hall⟩,(hstep hall).2 ⟨fun u hu=>h1 u (by simp [hu]),h2⟩⟩
theorem Er {n:Int} {ks:RL}:AN n ks=true↔∃ y∈ks,y.lab.2.2.1=n:=by
 unfold AN;rw [any_eq_true];constructor
 ·rintro ⟨y,h1,h2⟩; exact ⟨y,h1,by simpa using h2⟩
 ·rintro ⟨y,h1,h2⟩; exact ⟨y,h1,by simpa using h2⟩
theorem Ep {us:RVL} {ks:RL}:B9 us ks=true↔∀ y∈ks,y.lab.2.2.2.1=true->∃ u∈us,u.lab.2.2.1=y.lab.2.2.1:=by
 unfold B9 Ds;rw [all_eq_true];constructor
 ·intro h y hy hm;have:=h y hy;rw [hm,Bool.not_true,Bool.false_or,any_eq_true] at this;obtain ⟨u,h1,h2⟩:=this;exact ⟨u,h1,by simpa using h2⟩
 ·intro h y hy
  cases hm:y.lab.2.2.2.1 with
  | false=>rfl
  | true=>
   obtain ⟨u,h1,h2⟩:=h y hy hm;rw [Bool.not_true,Bool.false_or,any_eq_true];exact ⟨u,h1,by simpa using h2⟩
theorem E8 {n:Int} {z:Rose Lab} {ks:RL} (h:n≠z.lab.2.2.1):AN n (z::ks)=AN n ks/\byR n (z::ks)=byR n ks:=by
 constructor
 ·unfold AN;rw [any_cons,beq_false_of_ne (Ne.symm h),Bool.false_or]
 ·rw [byR,if_neg (Ne.symm h)]
theorem CF : ∀ (ks:RL),ks.Pairwise KR->∀ us:RVL,(BA ks us=true↔((∀ u∈us,AN u.lab.2.2.1 ks=true/\sfR u (byR u.lab.2.2.1 ks)=true)/\us.Pairwise VR)/\B9 us ks=true)
 | [],_,us=>by
  rw [BA,List.isEmpty_iff];constructor
  ·rintro rfl; exact ⟨⟨fun u h=>(by cases h),Pairwise.nil⟩,rfl⟩
  ·rintro ⟨⟨h,_⟩,_⟩
   cases us with
   | nil=>rfl
   | cons u us=>
    have:=(h u (by simp)).1;cases this
 | z::ks,hp,[]=>by
  rw [pairwise_cons] at hp;rw [BA,anE,CF ks hp.2 [],Ep,Ep];constructor
  ·rintro ⟨h1,h2,h3⟩
   refine ⟨h2.imp_left fun _ u h=>(by cases h),fun y hy hm=>?_⟩;rcases mem_cons.1 hy with e | hy
   ·rw [e] at hm; rw [hm] at h1; cases h1
   ·exact h3 y hy hm
  ·rintro ⟨h2,h3⟩
   refine ⟨?_,⟨fun u h=>(by cases h),Pairwise.nil⟩,fun y hy hm=>h3 y (by simp [hy]) hm⟩
   cases hm:z.lab.2.2.2.1 with
   | false=>rfl
   | true=>obtain ⟨u,g,_⟩:=h3 z (by simp) hm; cases g
 | z::ks,hp,u::us=>by
  rw [pairwise_cons] at hp
  have hz : ∀ n,AN n ks=true->z.lab.2.2.1<n:=fun n h=>by
   obtain ⟨y,h1,h2⟩:=Er.1 h;have:z.lab.2.2.1<y.lab.2.2.1:=hp.1 y h1;omega
  rw [BA]
  by_cases q:u.lab.2.2.1=z.lab.2.2.1
  ·have hb:byR u.lab.2.2.1 (z::ks)=z:=by rw [byR,if_pos q.symm]
   rw [if_pos q,anE,CF ks hp.2 us,Ep,Ep];constructor
   ·rintro ⟨h1,⟨h2,h3⟩,h4⟩
    refine ⟨⟨fun w hw=>?_,pairwise_cons.2 ⟨fun w hw=>?_,h3⟩⟩,fun y hy hm=>?_⟩
    ·rcases mem_cons.1 hw with e | hw
     ·rw [e,hb]; exact ⟨Er.2 ⟨z,by simp,q.symm⟩,h1⟩
     ·have:=h2 w hw;have hne:=E8 (ks:=ks) (z:=z) (n:=w.lab.2.2.1) (by have:=hz _ this.1; omega);rw [hne.1,hne.2]; exact this
    ·show u.lab.2.2.1<w.lab.2.2.1;have:=hz _ (h2 w hw).1; omega
    ·rcases mem_cons.1 hy with e | hy
     ·exact ⟨u,by simp,by rw [e,q]⟩
     ·obtain ⟨w,g1,g2⟩:=h4 y hy hm;exact ⟨w,by simp [g1],g2⟩
   ·rintro ⟨⟨h1,h2⟩,h3⟩
    rw [pairwise_cons] at h2;refine ⟨by have:=(h1 u (by simp)).2; rw [hb] at this; exact this,⟨fun w hw=>?_,h2.2⟩,fun y hy hm=>?_⟩
    ·have hlt:u.lab.2.2.1<w.lab.2.2.1:=h2.1 w hw;have:=h1 w (by simp [hw]);have hne:=E8 (ks:=ks) (z:=z) (n:=w.lab.2.2.1) (by omega);rw [hne.1,hne.2] at this; exact this
    ·obtain ⟨w,g1,g2⟩:=h3 y (by simp [hy]) hm;rcases mem_cons.1 g1 with e | g1
     ·have:z.lab.2.2.1<y.lab.2.2.1:=hp.1 y hy;rw [e] at g2; omega
     ·exact ⟨w,g1,g2⟩
  ·rw [if_neg q,anE,CF ks hp.2 (u::us),Ep,Ep];constructor
   ·rintro ⟨h1,⟨h2,h3⟩,h4⟩
    refine ⟨⟨fun w hw=>?_,h3⟩,fun y hy hm=>?_⟩
    ·have:=h2 w hw;have hne:=E8 (ks:=ks) (z:=z) (n:=w.lab.2.2.1) (by have:=hz _ this.1; omega);rw [hne.1,hne.2]; exact this
    ·rcases mem_cons.1 hy with e | hy
     ·rw [e] at hm; rw [hm] at h1; cases h1
     ·exact h4 y hy hm
   ·rintro ⟨⟨h1,h2⟩,h3⟩
    have hu:z.lab.2.2.1<u.lab.2.2.1:=by
     have:=(h1 u (by simp)).1;rw [(E8 (ks:=ks) q).1] at this;exact hz _ this
    have hall : ∀ w∈u::us,z.lab.2.2.1<w.lab.2.2.1:=fun w hw=>by
     rcases mem_cons.1 hw with e | hw
     ·rw [e]; exact hu
     ·have:u.lab.2.2.1<w.lab.2.2.1:=(pairwise_cons.1 h2).1 w hw;omega
    refine ⟨?_,⟨fun w hw=>?_,h2⟩,fun y hy hm=>h3 y (by simp [hy]) hm⟩
    ·cases hm:z.lab.2.2.2.1 with
     | false=>rfl
     | true=>
      obtain ⟨w,g1,g2⟩:=h3 z (by simp) hm;have:=hall w g1; omega
    ·have:=h1 w hw;have hne:=E8 (ks:=ks) (z:=z) (n:=w.lab.2.2.1) (by have:=hall w hw; omega);rw [hne.1,hne.2] at this; exact this
theorem Fi {ks:RL} (h:ks.Pairwise KR) (us:RVL):BA ks us=(sfM ks us 0 us&&B9 us ks):=by
 have h1:=VY ks us [] Pairwise.nil;rw [nil_append,List.length_nil] at h1;rw [Bool.eq_iff_iff,anE,h1];exact CF ks h us
def C6 (v:List Nd) (e:Nat) (m:Bool):RL×Nat:=bif m then AB (kf (tys v)) (tys v) e (tys v).length (e+1) [] else ([],e+1)
theorem Tm {v:List Nd} {e:Nat} (h:e<v.length):kf (tys v) e=(.node (A5 (tys v) e) (C6 v e v[e].2.2.2.2.1).1,(C6 v e v[e].2.2.2.2.1).2):=by
 have:=N3 (l:=tys v) (a:=e) (by rw [Bn]; exact h);rw [Jl h] at this;exact this
theorem Ab0 {v:List Nd} {e:Nat} (h:e<v.length) (z:Rose Lab):sfR (cv (kf (tys v) e).1) z=(if Dq v[e].1 v[e].2.1 v[e].2.2.2.2.1 z.lab.1=true then false
  else if z.lab.1=1 then BX v[e].1 else if z.lab.1=3 then decide (0<=v[e].1/\v[e].1<=z.lab.2.2.2.2.1) else if z.lab.1=2 then decide (v[e].2.1.length<=30)
  else if z.lab.1=4 then sfL (hd0 z.kids) (cvs (C6 v e v[e].2.2.2.2.1).1) else sfM z.kids (cvs (C6 v e v[e].2.2.2.2.1).1) 0 (cvs (C6 v e v[e].2.2.2.2.1).1)&&B9 (cvs (C6 v e v[e].2.2.2.2.1).1) z.kids):=by
 rw [Tm h,cv,sfR,GO h];rfl
theorem Qz (v:List Nd) : ∀ (n:Nat) (z:Rose Lab),Aj z<=n->Ah z=true->LI v z
 | 0,z,hn,_=>by have:=BN z; omega
 | n+1,z,hn,hr=>fun e h=>by
  obtain ⟨hp,hrr⟩:=Cr hr;have hk:=Dl hp;have hc:=AE z;have IH : ∀ y∈z.kids,LI v y:=fun y hy=>Qz v n y (by have:=Bo hy; omega) (BO hrr hy)
  have he:(kf (tys v) e).2=(C6 v e v[e].2.2.2.2.1).2:=by rw [Tm h]
  rw [Rh z h,Ab0 h,he];have ht : ∀ s:By,(s != []) = !(s==[]):=fun s=>rfl
  have hw:(((e+1:Nat)):Int)=(e:Int)+1:=by omega
  have hif : ∀ X:Bool,(if false=true then false else X)=X:=fun X=>if_neg (by simp)
  rcases hk with h1 | h1 | h1 | ⟨h1,h6⟩ | h1
  ·rw [h1,if_pos (by rfl),if_pos rfl]
   cases hm:v[e].2.2.2.2.1 with
   | true=>rw [show CH z.lab v[e].1 v[e].2.1 true=false from rfl,if_neg (by simp),show Dq v[e].1 v[e].2.1 true 1=true from rfl,if_pos rfl,if_neg (by simp)]
   | false=>
    have hl:CH z.lab v[e].1 v[e].2.1 false=(BX v[e].1&&v[e].2.1==[]):=by unfold CH; rw [if_neg (by simp),if_neg (by omega),if_neg (by omega)]
    have hb:Dq v[e].1 v[e].2.1 false 1 = !(v[e].2.1==[]):=by unfold Dq; rw [ht]; cases v[e].2.1==[]<;>rfl
    rw [hl,hb,show (C6 v e false).2=e+1 from rfl,hw];cases v[e].2.1==[]<;>cases BX v[e].1<;>simp
  ·rw [h1,if_pos (by rfl),if_neg (show ¬(2:Int)=1 by omega),if_neg (show ¬(2:Int)=3 by omega),if_pos rfl]
   cases hm:v[e].2.2.2.2.1 with
   | true=>rw [show CH z.lab v[e].1 v[e].2.1 true=false from rfl,if_neg (by simp),show Dq v[e].1 v[e].2.1 true 2=true from rfl,if_pos rfl,if_neg (by simp)]
   | false=>
    have hl:CH z.lab v[e].1 v[e].2.1 false=(v[e].1==0&&decide (v[e].2.1.length<=30)):=by unfold CH; rw [if_neg (by simp),if_pos h1]
    have hb:Dq v[e].1 v[e].2.1 false 2 = !(v[e].1==0):=by unfold Dq bne; cases v[e].1==0<;>rfl
    rw [hl,hb,show (C6 v e false).2=e+1 from rfl,hw];cases v[e].1==0<;>cases decide (v[e].2.1.length<=30)<;>simp
  ·rw [h1,if_pos (by rfl),if_neg (show ¬(3:Int)=1 by omega),if_pos rfl]
   cases hm:v[e].2.2.2.2.1 with
   | true=>rw [show CH z.lab v[e].1 v[e].2.1 true=false from rfl,if_neg (by simp),show Dq v[e].1 v[e].2.1 true 3=true from rfl,if_pos rfl,if_neg (by simp)]
   | false=>
    have hl:CH z.lab v[e].1 v[e].2.1 false=(decide (0<=v[e].1/\v[e].1<=z.lab.2.2.2.2.1)&&v[e].2.1==[]):=by unfold CH; rw [if_neg (by simp),if_neg (by omega),if_pos h1]
    have hb:Dq v[e].1 v[e].2.1 false 3 = !(v[e].2.1==[]):=by unfold Dq; rw [ht]; cases v[e].2.1==[]<;>rfl
    rw [hl,hb,show (C6 v e false).2=e+1 from rfl,hw];cases v[e].2.1==[]<;>cases decide (0<=v[e].1/\v[e].1<=z.lab.2.2.2.2.1)<;>simp
  ·obtain ⟨y,hy⟩:=List.length_eq_one_iff.1 h6
   have hb:Dq v[e].1 v[e].2.1 v[e].2.2.2.2.1 4=(!v[e].2.2.2.2.1||v[e].1 != 0||v[e].2.1 != []):=by
    unfold Dq;cases v[e].2.2.2.2.1<;>cases v[e].1 != 0<;>cases v[e].2.1 != []<;>rfl
   have hf:vfH v z.kids=vfR v y:=by funext i; rw [hy,vfH]
   rw [h1,if_neg (show ¬Ar 4=false by decide),hb,if_neg (show ¬(4:Int)=1 by omega),if_neg (show ¬(4:Int)=3 by omega),if_neg (show ¬(4:Int)=2 by omega),if_pos rfl,if_pos rfl,hf]
   cases hbad:(!v[e].2.2.2.2.1||v[e].1 != 0||v[e].2.1 != []) with
   | true=>rw [if_pos rfl,if_pos rfl,if_neg (by simp)]
   | false=>
    have hm:v[e].2.2.2.2.1=true:=by cases hm:v[e].2.2.2.2.1; rw [hm] at hbad; cases hbad; rfl
    have:=Vx (a:=e) (IH y (by rw [hy]; simp)) v.length (e+1);rw [if_neg (by simp),hif,this,hm,hy];unfold C6;rw [Bn];rfl
  ·have hb:Dq v[e].1 v[e].2.1 v[e].2.2.2.2.1 5=(!v[e].2.2.2.2.1||v[e].1 != 0||v[e].2.1 != []):=by
    unfold Dq;cases v[e].2.2.2.2.1<;>cases v[e].1 != 0<;>cases v[e].2.1 != []<;>rfl
   have hpw:z.kids.Pairwise KR:=by
    unfold B5 at hp;rw [if_neg (by omega),if_neg (by omega),if_neg (by omega)] at hp;split at hp
    ·cases hp
    ·exact ((Ik _).1 hp).imp fun h=>h.1
   rw [<-Fi hpw,h1,if_neg (show ¬Ar 5=false by decide),hb,if_neg (show ¬(5:Int)=1 by omega),if_neg (show ¬(5:Int)=3 by omega),if_neg (show ¬(5:Int)=2 by omega),if_neg (show ¬(5:Int)=4 by omega),if_neg (show ¬(5:Int)=4 by omega)]
   cases hbad:(!v[e].2.2.2.2.1||v[e].1 != 0||v[e].2.1 != []) with
   | true=>rw [if_pos rfl,if_pos rfl,if_neg (by simp)]
   | false=>
    have hm:v[e].2.2.2.2.1=true:=by cases hm:v[e].2.2.2.2.1; rw [hm] at hbad; cases hbad; rfl
    have:=NR (a:=e) z.kids IH v.length (e+1) (by omega);rw [if_neg (by simp),hif,this,hm];unfold C6;rw [Bn];rfl
theorem Hx (v:List Nd) (u:Int) : ∀ (f:Nat) (x:Int),D1 v u f x=Dz (tys v) u f x
 | 0,x=>rfl
 | f+1,x=>by
  rw [D1,Dz,Eu]
  by_cases a:x<0
  ·rw [if_pos a,if_pos a]
  ·rw [if_neg a,if_neg a]
   by_cases b:x=u
   ·rw [if_pos b,b,beq_self_eq_true,Bool.true_or]
   ·rw [if_neg b,beq_false_of_ne b,Bool.false_or]
    cases upN v x.toNat with
    | none=>rfl
    | some w=>exact Hx v u f w
theorem GN {v:List Nd} (h0:0<v.length):((range v.length).all (okN v)=true)↔(Ord (tys v)/\noN v 0=some 0):=by
 have hn0:=Gw h0;have hl:=Bn v;constructor
 ·intro h;have ok : ∀ i,i<v.length->okN v i=true:=fun i hi=>all_eq_true.1 h i (mem_range.2 hi)
  have z:=ok 0 h0;unfold okN at z;rw [gtE h0] at z;dsimp only at z;rw [if_pos rfl,anE,beq_iff_eq,beq_iff_eq] at z;refine ⟨⟨by rw [Eu,IO h0,z.1],fun i hp hi=>?_⟩,by rw [hn0,z.2]⟩;rw [hl] at hi;have o:=ok i hi;unfold okN at o;rw [gtE hi] at o;dsimp only at o;rw [if_neg (by omega),anE,anE,dcE] at o;obtain ⟨⟨o1,o2⟩,o3,o4⟩:=o;obtain ⟨u,hu⟩:=eq_ofNat_of_zero_le o1;rw [hu] at o2 o3 o4;have hul:u<v.length:=by omega
  refine ⟨u,by rw [Eu,IO hi,hu],by omega,?_,?_⟩
  ·rw [Jl hul];unfold Nr at o3;rw [ntN,gtE hul] at o3;exact o3
  ·rw [Hx,show (i:Int)-1=((i-1:Nat):Int) by omega] at o4;obtain ⟨y,e,ho⟩:=Mt _ _ _ _ o4;have:u=y:=by omega
   subst this;exact ho
 ·rintro ⟨H,hz⟩
  refine all_eq_true.2 fun i hi=>?_
  have hi:=mem_range.1 hi;unfold okN;rw [gtE hi];dsimp only;rcases Nat.eq_zero_or_pos i with rfl | hp
  ·have h1:=H.zero;rw [Eu,IO h0] at h1;rw [hn0] at hz;rw [if_pos rfl,Option.some.inj h1,Option.some.inj hz]; rfl
  ·obtain ⟨u,k1,k2,k3,k4⟩:=H.up i hp (by omega);have hul:u<v.length:=by omega
   rw [Eu,IO hi] at k1;have hm:Nr v u=some v[u].2.2.2.2.1:=by unfold Nr; rw [gtE hul]; rfl
   rw [Jl hul] at k3;rw [if_neg (by omega),Option.some.inj k1,ntN,hm,k3,Hx,show (i:Int)-1=((i-1:Nat):Int) by omega,PJ (i:=i) (fun j hj=>H.lt j (by omega)) k4 (by omega) i (by omega),dcT (show (0:Int)<=(u:Int)/\(u:Int)<(i:Int) by omega)];rfl
theorem K3 (v:List Nd) (l:List Ty):LH v l=D2 v l:=by
 unfold LH D2
 cases hk:Ay l with
 | false=>rfl
 | true=>
  obtain ⟨k1,k2,k3,k4⟩:=DT hk;rw [k4,Bool.true_and,Bool.true_and];unfold Fs EV
  by_cases hl:1<=v.length/\v.length<=40
  ·have h0:0<v.length:=by omega
   have hv:=Qz v _ (t2L l 0) (Nat.le_refl _) k3 0 h0;have ho:=GN h0;have ht:v4L v 0=cv (t2L (tys v) 0):=VA _ 0 (Nat.le_refl _) h0;rw [dcT hl,Bool.true_and,Bool.and_true,Bool.eq_iff_iff];simp only [anE,beq_iff_eq,dcE];rw [ho];constructor
   ·rintro ⟨h1,h2,h3⟩
    cases hs:sfR (cv (kf (tys v) 0).1) (t2L l 0) with
    | false=>rw [hs,if_neg (by simp)] at hv; omega
    | true=>
     rw [hs,if_pos rfl] at hv;have H:Ord (tys v):=DZ (by rw [Bn]; exact h0) (by rw [Eu]; exact h1) (by rw [Bn]; omega);have e:=H.end' (by rw [Bn]; exact h0);refine ⟨⟨H,h2⟩,?_⟩;rw [ht,<-e.2,hs]
   ·rintro ⟨⟨H,h2⟩,h3⟩
    have e:=H.end' (by rw [Bn]; exact h0);have hz:=H.zero;rw [Eu] at hz;refine ⟨hz,h2,?_⟩;rw [hv,e.2,<-ht,h3,if_pos rfl,e.1,Bn]
  ·rw [dcF hl,Bool.false_and,Bool.and_false,Bool.false_and]
mutual
def AY:Rose Lab->Int->Int->Nat->List Nd
 | .node x ks,no,up,s=>(0,[],no,up,Ar x.1,())::(bif x.1==5 then AM ks s (s+1) else [])
def AM:RL->Nat->Nat->List Nd
 | [],_,_=>[]
 | z::ks,s,p=>if z.lab.2.2.2.1=true then AY z z.lab.2.2.1 s p++AM ks s (p+(AY z z.lab.2.2.1 s p).length) else AM ks s p
end
def Je (n:Nat):Gm
 | [.tp LCd z 0,.ref 0 0 m,.j no,.j up],[.row false _ NCd o]=>.need (decide (m=o.length/\o.length+Aj z<=2000000/\Aj z<=n)) (.leaf (.ref 1 0 (o++AY z no up o.length).length,[none,R0 NCd (o++AY z no up o.length)]))
 | _,_=>.no
def RH:Gm
 | [.tp LCd z 0,.ref 0 0 m,.j no,.j up],[.row false _ NCd o]=>.need (decide (m=o.length/\o.length+Aj z<=2000000)) (.leaf (.ref 1 0 (o++AY z no up o.length).length,[none,R0 NCd (o++AY z no up o.length)]))
 | _,_=>.no
def F2 (n:Nat):LoopEnt:=⟨50,[1,9,30,31,32],[1],[],fun
 | ([.ref 1 0 m,.j s,.sl (.tree LCd) ks,.j k,.j i],[none,R0 NCd o])=>.need (decide (m=o.length/\0<=i/\i.toNat<=ks.length/\k=ks.length/\0<=s/\o.length+Ak (ks.drop i.toNat)<=2000000/\Ak ks<=n/\Ak ks<=2000000)) (.leaf (.exit 0,([.ref 1 0 (o++AM (ks.drop i.toNat) s.toNat o.length).length],[none,R0 NCd (o++AM (ks.drop i.toNat) s.toNat o.length)])))
 | _=>.no⟩
mutual
theorem E6 : ∀ (z:Rose Lab) (no up:Int) (s:Nat),(AY z no up s).length<=Aj z
 | .node x ks,no,up,s=>by
  rw [AY,Aj];have:=HB ks s (s+1);cases x.1==5
  ·simp
  ·simpa using this
theorem HB : ∀ (ks:RL) (s p:Nat),(AM ks s p).length<=Ak ks
 | [],_,_=>by rw [AM]; exact Nat.zero_le _
 | z::ks,s,p=>by
  rw [AM,Ak];split
  ·have:=E6 z z.lab.2.2.1 s p;have:=HB ks s (p+(AY z z.lab.2.2.1 s p).length);rw [length_append]; omega
  ·have:=HB ks s p;omega
end
abbrev Yu (n:Nat):FuncId->Option Ent:=Aa [(43,.own (Je n)),(86,.rd1 F8)]
theorem JH (n m:Nat) (s:Int) (ks:RL) (k i:Int) (o:List Nd):Au prog (Yu n) (Aa [(5,F2 n)]) 1 (body f43 0) (F2 n) ([.ref 1 0 m,.j s,.sl (.tree LCd) ks,.j k,.j i],[none,R0 NCd o]) =
 ((ifB (decide (i<k)) (ifT (decide (0<=i)&&decide (i<(↑ks.length:Int))) (An ks[i.toNat]? fun z=>ifB (Rose.lab z).2.2.2.1 (ifT (decide (m=o.length/\
 o.length+Aj z<=2000000/\Aj z<=n)) (some (Ex.normal,[V.ref 1 0 (o++AY z (Rose.lab z).2.2.1 s o.length).length,V.j s,V.sl LCd.tree ks,
 V.j k,V.j (i64.wrap (i+1))],[none,R0 NCd (o++AY z (Rose.lab z).2.2.1 s o.length)]))) (some (Ex.normal,[V.ref 1
 0 m,V.j s,V.sl LCd.tree ks,V.j k,V.j (i64.wrap (i+1))],[none,R0 NCd o])))) (some (Ex.exit 0,[V.ref 1 0 m],[none,
 R0 NCd o]))):_):=by kernel_rfl
theorem RG (n:Nat) (z:Rose Lab) (m:Nat) (no up:Int) (nl:Option Bool) (o:List Nd):Cx prog (Yu n) (Aa [(5,F2 n)]) f43 [.tp LCd z 0,.ref 0 0 m,.j no,.j up] [.row false nl NCd o] =
 ((ifT (decide ((m+1)*48<=140737488355328)&&decide (m+1<=maxI)) (ifB (z.lab.1==(5:Int)) (ifT (decide (m+1 =
 (take m (drop 0 o)++((0:Int),Ag UInt8,no,up,Ar z.lab.1,())::Ag NCd.den).length/\(0:Int)<=(0:Int)/\0<=z.kids.length
 /\ (↑z.kids.length:Int)=(↑z.kids.length:Int)/\0<=(↑m:Int)/\(take m (drop 0 o)++((0:Int),Ag UInt8,no,up,Ar z.lab.1,())::Ag
 NCd.den).length+Ak (drop 0 z.kids)<=2000000/\Ak z.kids<=n/\Ak z.kids<=2000000)) (some (V.ref 1 0 (take m (drop (0 :
 Nat) o)++((0:Int),Ag UInt8,no,up,Ar z.lab.1,())::Ag NCd.den++AM (drop 0 z.kids) (↑m:Int).toNat (take m (drop 0
 o)++((0:Int),Ag UInt8,no,up,Ar z.lab.1,())::Ag NCd.den).length).length,[none,R0 NCd (take m (drop 0 o)++
 ((0:Int),Ag UInt8,no,up,Ar z.lab.1,())::Ag NCd.den++AM (drop 0 z.kids) (↑m:Int).toNat (take m (drop 0 o)++((0
 : Int),Ag UInt8,no,up,Ar z.lab.1,())::Ag NCd.den).length)]))) (some (V.ref 1 0 (m+1),[none,R0 NCd (take m
 (drop 0 o)++((0:Int),Ag UInt8,no,up,Ar z.lab.1,())::Ag NCd.den)])))):_):=by kernel_rfl
theorem Fj (z:Rose Lab) (no up:Int) (s:Nat):AY z no up s=(0,[],no,up,Ar z.lab.1,())::(bif z.lab.1==5 then AM z.kids s (s+1) else []):=by cases z; rw [AY]; rfl
theorem HA (n s:Nat) (ks:RL) (h1:Ak ks<=n) (h2:Ak ks<=2000000) : ∀ (j i:Nat) (o:List Nd),i+j=ks.length->o.length+Ak (ks.drop i)<=2000000->
  Runs prog (Yu n) (Aa [(5,F2 n)]) 1 (body f43 0) (F2 n) ([.ref 1 0 o.length,.j (s:Int),.sl (.tree LCd) ks,.j (ks.length:Int),.j (i:Int)],[none,R0 NCd o]) (.exit 0) ([.ref 1 0 (o++AM (ks.drop i) s o.length).length],[none,R0 NCd (o++AM (ks.drop i) s o.length)])
 | 0,i,o,hi,ho=>by
  have hr:=JH n o.length s ks ks.length i o;rw [Ae (dcF (by omega))] at hr;rw [drop_eq_nil_of_le (by omega),AM,append_nil];exact stp hr
 | j+1,i,o,hi,ho=>by
  have hl:i<ks.length:=by omega
  have hM:=mxI;have hlen:=Bc ks;have hmem:=Bo (getElem_mem hl);have hr:=JH n o.length s ks ks.length i o;rw [drop_eq_getElem_cons hl,Ak] at ho;rw [Af (dcT (by omega)),T2 (by omega),ntN,gtE hl,Ap,Az (n:=i) (by omega)] at hr;rw [drop_eq_getElem_cons hl,AM]
  cases hm:ks[i].lab.2.2.2.1 with
  | true=>
   rw [hm,Bg,Ab (dcT ⟨rfl,by omega,by omega⟩)] at hr;have hk:=E6 ks[i] ks[i].lab.2.2.1 s o.length;have ih:=HA n s ks h1 h2 j (i+1) (o++AY ks[i] ks[i].lab.2.2.1 s o.length) (by omega) (by rw [length_append]; omega);rw [length_append,append_assoc] at ih;rw [if_pos rfl];rw [length_append] at hr;exact sts hr ih
  | false=>
   rw [hm,AR] at hr;rw [if_neg (by simp)];exact sts hr (HA n s ks h1 h2 j (i+1) o (by omega) (by omega))
theorem WQ (n:Nat):Aw prog (Yu n) (Aa [(5,F2 n)]) 1 (f43.body.getD .skip):=by
 refine As (a:=body f43 0) (by kernel_rfl) fun d ex d' h=>?_
 unfold F2 at h;dsimp only at h;split at h
 ·rename_i m s ks k i o;obtain ⟨hc,hx⟩:=Ad h;clear h;obtain ⟨rfl,h0,h1,rfl,h3,h4,h5,h6⟩:=of_decide_eq_true hc;obtain ⟨i,rfl⟩:=eq_ofNat_of_zero_le h0;obtain ⟨s,rfl⟩:=eq_ofNat_of_zero_le h3;simp only [ntN] at h1 h4 hx;obtain ⟨rfl,rfl⟩:=lfP hx;exact HA n s ks h5 h6 (ks.length-i) i o (by omega) h4
 ·cases h
theorem Ut (n:Nat) (z:Rose Lab) (m:Nat) (no up:Int) (nl:Option Bool) (o:List Nd) (hc:m=o.length/\o.length+Aj z<=2000000/\Aj z<=n+1):Cx prog (Yu n) (Aa [(5,F2 n)]) f43 [.tp LCd z 0,.ref 0 0 m,.j no,.j up] [.row false nl NCd o]=some (.ref 1 0 (o++AY z no up o.length).length,[none,R0 NCd (o++AY z no up o.length)]):=by
 rw [RG];obtain ⟨rfl,h2,h3⟩:=hc;have hM:=mxI;have hck:=AE z;have hlen:=Bc z.kids;rw [show drop 0 o=o from rfl,show drop 0 z.kids=z.kids from rfl,take_length,ntN,Fj];rw [T2 (by omega)]
 cases h5:z.lab.1==5 with
 | false=>rw [AR,cond_false]; simp [A7]
 | true=>
  rw [Bg,cond_true,Ab (dcT ⟨by simp [A7],by omega,by omega,rfl,by omega,by simp [A7]; omega,by omega,by omega⟩)];simp [A7]
theorem Uu : ∀ n,(∀ m,m<n->Ac prog 43 (Ent.own (Je m)).F)->Ac prog 43 (Ent.own (Je n)).F
 | 0,_=>AP fun vs bs=>by
  unfold Ent.F Je;dsimp only;split
  ·rename_i z m no up x o;have:decide (m=o.length/\o.length+Aj z<=2000000/\Aj z<=0)=false:=dcF (by have:=BN z; omega);rw [this]; rfl
  ·rfl
 | n+1,ih=>by
  refine fcN (kc func43 (ih n (lt_succ_self n)) (kc func86 L4 KnowsL.nil)).knows (Λ:=(Aa [(5,F2 n)])) func43 fun vs bs r hq=>?_
  unfold Ent.F Je at hq;dsimp only at hq;split at hq
  ·rename_i z m no up nl o;obtain ⟨hc,hx⟩:=Ad hq;exact ⟨WQ n,(Ut n z m no up nl o (of_decide_eq_true hc)).trans hx⟩
  ·cases hq
theorem Afe:Ac prog 43 (Ent.own RH).F:=by
 refine Bb (F:=fun n=>(Ent.own (Je n)).F) Uu fun vs bs r h=>?_
 unfold Ent.F RH at h;dsimp only at h;split at h
 ·rename_i z m no up nl o;obtain ⟨hc,hx⟩:=Ad h;refine ⟨Aj z,?_⟩;show (Br.need (decide (m=o.length/\o.length+Aj z<=2000000/\Aj z<=Aj z)) (.leaf (.ref 1 0 (o++AY z no up o.length).length,[none,R0 NCd (o++AY z no up o.length)]))).run=some r;obtain ⟨h1,h2⟩:=of_decide_eq_true hc;have:decide (m=o.length/\o.length+Aj z<=2000000/\Aj z<=Aj z)=true:=dcT ⟨h1,h2,Nat.le_refl _⟩;rw [this];exact hx
 ·cases h
mutual
def Bl:Rose Lab->Int->Rose A4
 | .node x ks,no=>.node (0,[],no,Ar x.1,()) (bif x.1==5 then EG ks else [])
def EG:RL->RVL
 | []=>[]
 | z::ks=>if z.lab.2.2.2.1=true then Bl z z.lab.2.2.1::EG ks else EG ks
end
def Va (n:Nat):Gm
 | [.agg (Lt y0 y1 y2 y3 y4 ys)],[]=>.need (decide (Ak ys+1<=1000000/\Ak ys+1<=n)) (.leaf (.agg [.j (Bl (.node (y0,y1,y2,y3,y4,()) ys) 0).lab.1,.s (Bl (.node (y0,y1,y2,y3,y4,()) ys) 0).lab.2.1,.j (Bl (.node (y0,y1,y2,y3,y4,()) ys) 0).lab.2.2.1,.b (Bl (.node (y0,y1,y2,y3,y4,()) ys) 0).lab.2.2.2.1,.ref 0 0 (Bl (.node (y0,y1,y2,y3,y4,()) ys) 0).kids.length],[R0 (.rose VCd) (Bl (.node (y0,y1,y2,y3,y4,()) ys) 0).kids]))
 | _,_=>.no
def Aae:Gm
 | [.agg (Lt y0 y1 y2 y3 y4 ys)],[]=>.need (decide (Ak ys+1<=1000000)) (.leaf (.agg [.j (Bl (.node (y0,y1,y2,y3,y4,()) ys) 0).lab.1,.s (Bl (.node (y0,y1,y2,y3,y4,()) ys) 0).lab.2.1,.j (Bl (.node (y0,y1,y2,y3,y4,()) ys) 0).lab.2.2.1,.b (Bl (.node (y0,y1,y2,y3,y4,()) ys) 0).lab.2.2.2.1,.ref 0 0 (Bl (.node (y0,y1,y2,y3,y4,()) ys) 0).kids.length],[R0 (.rose VCd) (Bl (.node (y0,y1,y2,y3,y4,()) ys) 0).kids]))
 | _,_=>.no
def OI (n:Nat):LoopEnt:=⟨36,[2,3,15,16,17],[2,3],[],fun
 | ([.ptr 0 0,.ptr 1 0,.sl (.rose LCd) ks,.j k,.j i],[some (.box [.j 0,.s [],.j 0,.b false,.ref 2 0 0]),some (.box [.j x0,.s x1,.j x2,.b x3,.ref 3 0 m]),R0 (.rose VCd) [],R0 (.rose VCd) o])=>.need (decide (m=o.length/\0<=i/\i.toNat<=ks.length/\k=ks.length/\o.length<=i.toNat/\Ak ks<=n/\Ak ks<=1000000)) (.leaf (.exit 0,([.ptr 0 0,.ptr 1 0],[some (.box [.j 0,.s [],.j 0,.b false,.ref 2 0 0]),some (.box [.j x0,.s x1,.j x2,.b x3,.ref 3 0 (o++EG (ks.drop i.toNat)).length]),R0 (.rose VCd) [],R0 (.rose VCd) (o++EG (ks.drop i.toNat))])))
 | _=>.no⟩
abbrev Yt (n:Nat):FuncId->Option Ent:=Aa [(176,.rd1 (Va n)),(151,.rd1 Fk)]
theorem NH (n:Nat) (x0:Int) (x1:By) (x2:Int) (x3:Bool) (ks:RL) (m:Nat) (k i:Int) (o:RVL):Au prog (Yt n) (Aa [(4,OI n)]) 0 (body f176 0) (OI n) ([.ptr 0 0,.ptr 1 0,.sl (.rose LCd) ks,.j k,.j i],[some (.box [.j 0,.s [],.j 0,.b false,.ref 2 0 0]),some (.box [.j x0,.s x1,.j x2,.b x3,.ref 3 0 m]),R0 (.rose VCd) [],R0 (.rose VCd) o]) =
 ((ifB (decide (i<k)) (ifT (decide (0<=i)&&decide (i<(↑ks.length:Int))) (An ks[i.toNat]? fun z=>ifB (Rose.lab z).2.2.2.1 (ifT (decide (Ak (Rose.kids
 z)+1<=1000000/\Ak (Rose.kids z)+1<=n)) (ifT (decide ((m+1)*64<=140737488355328)&&decide (m+1<=
 maxI)) (some (Ex.normal,[V.ptr 0 0,V.ptr 1 0,V.sl LCd.rose ks,V.j k,V.j (i64.wrap (i+1))],[some (Blk.box [V.j 0,V.s (Ag UInt8),V.i .i64
 0,V.b false,V.ref 2 0 0]),some (Blk.box [V.j x0,V.s x1,V.j x2,V.b x3,V.ref 3 0 (m+1)]),R0 VCd.rose (Ag VCd.rose.den),
 R0 VCd.rose (take m (drop 0 o)++Rose.node ((Bl (Rose.node ((Rose.lab z).1,(Rose.lab z).2.1,(Rose.lab z).2.2.1,
 (Rose.lab z).2.2.2.1,(Rose.lab z).2.2.2.2.1,()) (Rose.kids z)) (0:Int)).lab.1,(Bl (Rose.node ((Rose.lab z).1,(Rose.lab z).2.1,(Rose.lab
 z).2.2.1,(Rose.lab z).2.2.2.1,(Rose.lab z).2.2.2.2.1,()) (Rose.kids z)) (0:Int)).lab.2.1,(Rose.lab z).2.2.1,(Bl (Rose.node
 ((Rose.lab z).1,(Rose.lab z).2.1,(Rose.lab z).2.2.1,(Rose.lab z).2.2.2.1,(Rose.lab z).2.2.2.2.1,()) (Rose.kids z)) (0 :
 Int)).lab.2.2.2.1,()) (take (Bl (Rose.node ((Rose.lab z).1,(Rose.lab z).2.1,(Rose.lab z).2.2.1,(Rose.lab z).2.2.2.1,(Rose.lab
 z).2.2.2.2.1,()) (Rose.kids z)) (0:Int)).kids.length (drop 0 (Bl (Rose.node ((Rose.lab z).1,(Rose.lab z).2.1,(Rose.lab z).2.2.1,
 (Rose.lab z).2.2.2.1,(Rose.lab z).2.2.2.2.1,()) (Rose.kids z)) (0:Int)).kids))::Ag VCd.rose.den)])))) (some (Ex.normal,[V.ptr 0 0,V.ptr 1 0,
 V.sl LCd.rose ks,V.j k,V.j (i64.wrap (i+1))],[some (Blk.box [V.j 0,V.s (Ag UInt8),V.j 0,V.b false,V.ref 2 0 0]),some (Blk.box [V.i
 .i64 x0,V.s x1,V.j x2,V.b x3,V.ref 3 0 m]),R0 VCd.rose (Ag VCd.rose.den),R0 VCd.rose o])))) (some (Ex.exit 0,
 [V.ptr 0 0,V.ptr 1 0],[some (Blk.box [V.j 0,V.s (Ag UInt8),V.j 0,V.b false,V.ref 2 0 0]),some (Blk.box [V.j x0,V.s x1,V.j x2,V.b x3,V.ref
 3 0 m]),R0 VCd.rose (Ag VCd.rose.den),R0 VCd.rose o]))):_):=by kernel_rfl
theorem XR (n:Nat) (y0:Int) (y1:By) (y2:Int) (y3:Bool) (y4:Int) (ys:RL):Cx prog (Yt n) (Aa [(4,OI n)]) f176 [.agg (Lt y0 y1 y2 y3 y4 ys)] [] =
 ((ifB (y0==5) (ifT (decide (0=0/\(0:Int)<=(0:Int)/\0<=ys.length/\(↑ys.length:Int)=(↑ys.length:Int)/\0<=0/\Ak
 ys<=n/\Ak ys<=1000000)) (some (V.agg [V.j 0,V.s (Ag UInt8),V.j 0,V.b (Ar y0),V.ref 0 0 (Ag VCd.rose.den++EG (drop 0
 ys)).length],[R0 VCd.rose (Ag VCd.rose.den++EG (drop 0 ys))]))) (some (V.agg [V.j 0,V.s (Ag UInt8),V.j 0,V.b
 (Ar y0),V.ref 0 0 0],[R0 VCd.rose (Ag VCd.rose.den)]))):_):=by kernel_rfl
theorem Aad (z:Rose Lab) (no:Int):Rose.node ((Bl z 0).lab.1,(Bl z 0).lab.2.1,no,(Bl z 0).lab.2.2.2.1,()) (take (Bl z 0).kids.length (drop 0 (Bl z 0).kids))=Bl z no:=by
 rw [drop_zero,take_length];obtain ⟨x,ks⟩:=z;rw [Bl,Bl];rfl
theorem XT (z:Rose Lab) (no:Int):(Rose.node ((Bl (Rose.node (z.lab.1,z.lab.2.1,z.lab.2.2.1,z.lab.2.2.2.1,z.lab.2.2.2.2.1,()) z.kids) 0).lab.1,(Bl (Rose.node (z.lab.1,z.lab.2.1,z.lab.2.2.1,z.lab.2.2.2.1,z.lab.2.2.2.2.1,()) z.kids) 0).lab.2.1,no,(Bl (Rose.node (z.lab.1,z.lab.2.1,z.lab.2.2.1,z.lab.2.2.2.1,z.lab.2.2.2.2.1,()) z.kids) 0).lab.2.2.2.1,()) (take (Bl (Rose.node (z.lab.1,z.lab.2.1,z.lab.2.2.1,z.lab.2.2.2.1,z.lab.2.2.2.2.1,()) z.kids) 0).kids.length (drop 0 (Bl (Rose.node (z.lab.1,z.lab.2.1,z.lab.2.2.1,z.lab.2.2.2.1,z.lab.2.2.2.2.1,()) z.kids) 0).kids)):Rose A4)=Bl z no:=by
 rw [AG,Aad]
theorem T3 (z:Rose Lab) (no:Int):Bl z no = .node (0,[],no,Ar z.lab.1,()) (bif z.lab.1==5 then EG z.kids else []):=by cases z; rw [Bl]; rfl
theorem Md (n:Nat) (x0:Int) (x1:By) (x2:Int) (x3:Bool) (ks:RL) (h1:Ak ks<=n) (h2:Ak ks<=1000000) : ∀ (j i:Nat) (o:RVL),i+j=ks.length->o.length<=i->
  Runs prog (Yt n) (Aa [(4,OI n)]) 0 (body f176 0) (OI n) ([.ptr 0 0,.ptr 1 0,.sl (.rose LCd) ks,.j (ks.length:Int),.j (i:Int)],[some (.box [.j 0,.s [],.j 0,.b false,.ref 2 0 0]),some (.box [.j x0,.s x1,.j x2,.b x3,.ref 3 0 o.length]),R0 (.rose VCd) [],R0 (.rose VCd) o]) (.exit 0) ([.ptr 0 0,.ptr 1 0],[some (.box [.j 0,.s [],.j 0,.b false,.ref 2 0 0]),some (.box [.j x0,.s x1,.j x2,.b x3,.ref 3 0 (o++EG (ks.drop i)).length]),R0 (.rose VCd) [],R0 (.rose VCd) (o++EG (ks.drop i))])
 | 0,i,o,hi,ho=>by
  have hr:=NH n x0 x1 x2 x3 ks o.length ks.length i o;rw [Ae (dcF (by omega))] at hr;rw [drop_eq_nil_of_le (by omega),EG,append_nil];exact stp hr
 | j+1,i,o,hi,ho=>by
  have hl:i<ks.length:=by omega
  have hM:=mxI;have hlen:=Bc ks;have hmem:=Bo (getElem_mem hl);have hck:=AE ks[i];have hr:=NH n x0 x1 x2 x3 ks o.length ks.length i o;rw [Af (dcT (by omega)),T2 (by omega),ntN,gtE hl,Ap,Az (n:=i) (by omega)] at hr;rw [drop_eq_getElem_cons hl,EG]
  cases hm:ks[i].lab.2.2.2.1 with
  | true=>
   rw [Af hm,Ab (dcT ⟨by omega,by omega⟩),T2 (by omega),XT,show drop 0 o=o from rfl,take_length] at hr;have ih:=Md n x0 x1 x2 x3 ks h1 h2 j (i+1) (o++[Bl ks[i] ks[i].lab.2.2.1]) (by omega) (by simp; omega);rw [append_assoc] at ih;rw [if_pos rfl];exact sts (hr.trans (by simp [A7])) ih
  | false=>
   rw [hm,AR] at hr;rw [if_neg (by simp)];exact sts hr (Md n x0 x1 x2 x3 ks h1 h2 j (i+1) o (by omega) (by omega))
theorem Ad8 (n:Nat):Aw prog (Yt n) (Aa [(4,OI n)]) 0 (f176.body.getD .skip):=by
 refine As (a:=body f176 0) (by kernel_rfl) fun d ex d' h=>?_
 unfold OI at h;dsimp only at h;split at h
 ·rename_i ks k i x0 x1 x2 x3 m o;obtain ⟨hc,hx⟩:=Ad h;clear h;obtain ⟨rfl,h0,h1,rfl,h3,h4,h5⟩:=of_decide_eq_true hc;obtain ⟨i,rfl⟩:=eq_ofNat_of_zero_le h0;simp only [ntN] at h1 h3 hx;obtain ⟨rfl,rfl⟩:=lfP hx;exact Md n x0 x1 x2 x3 ks h4 h5 (ks.length-i) i o (by omega) h3
 ·cases h
theorem Aaa (n:Nat) (y0:Int) (y1:By) (y2:Int) (y3:Bool) (y4:Int) (ys:RL) (hc:Ak ys+1<=1000000/\Ak ys+1<=n+1):Cx prog (Yt n) (Aa [(4,OI n)]) f176 [.agg (Lt y0 y1 y2 y3 y4 ys)] []=some (.agg [.j (Bl (.node (y0,y1,y2,y3,y4,()) ys) 0).lab.1,.s (Bl (.node (y0,y1,y2,y3,y4,()) ys) 0).lab.2.1,.j (Bl (.node (y0,y1,y2,y3,y4,()) ys) 0).lab.2.2.1,.b (Bl (.node (y0,y1,y2,y3,y4,()) ys) 0).lab.2.2.2.1,.ref 0 0 (Bl (.node (y0,y1,y2,y3,y4,()) ys) 0).kids.length],[R0 (.rose VCd) (Bl (.node (y0,y1,y2,y3,y4,()) ys) 0).kids]):=by
 rw [XR,T3];simp only [Rose.lab,Rose.kids]
 cases h5:y0==5 with
 | false=>rfl
 | true=>
  rw [Bg,Ab (dcT (by refine ⟨by trivial,by omega,by omega,by trivial,by omega,by omega,by omega⟩))];rfl
theorem Aab : ∀ n,(∀ m,m<n->Ac prog 176 (Ent.rd1 (Va m)).F)->Ac prog 176 (Ent.rd1 (Va n)).F
 | 0,_=>AP fun vs bs=>by
  unfold Ent.F Va;dsimp only;split
  ·rename_i y0 y1 y2 y3 y4 ys;have:decide (Ak ys+1<=1000000/\Ak ys+1<=0)=false:=dcF (by omega);rw [this]; rfl
  ·rfl
 | n+1,ih=>by
  refine fcN (kc func176 (ih n (lt_succ_self n)) (kc func151 Ky KnowsL.nil)).knows (Λ:=(Aa [(4,OI n)])) func176 fun vs bs r hq=>?_
  unfold Ent.F Va at hq;dsimp only at hq;split at hq
  ·rename_i y0 y1 y2 y3 y4 ys;obtain ⟨hc,hx⟩:=Ad hq;exact ⟨Ad8 n,(Aaa n y0 y1 y2 y3 y4 ys (of_decide_eq_true hc)).trans hx⟩
  ·cases hq
theorem U0:Ac prog 176 (Ent.rd1 Aae).F:=by
 refine Bb (F:=fun n=>(Ent.rd1 (Va n)).F) Aab fun vs bs r h=>?_
 unfold Ent.F Aae at h;dsimp only at h;split at h
 ·rename_i y0 y1 y2 y3 y4 ys;obtain ⟨hc,hx⟩:=Ad h;refine ⟨Ak ys+1,?_⟩;show (Br.need (decide (Ak ys+1<=1000000/\Ak ys+1<=Ak ys+1)) (.leaf (.agg [.j (Bl (.node (y0,y1,y2,y3,y4,()) ys) 0).lab.1,.s (Bl (.node (y0,y1,y2,y3,y4,()) ys) 0).lab.2.1,.j (Bl (.node (y0,y1,y2,y3,y4,()) ys) 0).lab.2.2.1,.b (Bl (.node (y0,y1,y2,y3,y4,()) ys) 0).lab.2.2.2.1,.ref 0 0 (Bl (.node (y0,y1,y2,y3,y4,()) ys) 0).kids.length],[R0 (.rose VCd) (Bl (.node (y0,y1,y2,y3,y4,()) ys) 0).kids]))).run=some r;have:decide (Ak ys+1<=1000000/\Ak ys+1<=Ak ys+1)=true:=dcT ⟨of_decide_eq_true hc,Nat.le_refl _⟩;rw [this];exact hx
 ·cases h
mutual
def Am:Rose A4->Int->Nat->List Nd
 | .node x ks,up,s=>(x.1,x.2.1,x.2.2.1,up,x.2.2.2.1,())::AA ks s (s+1)
def AA:RVL->Nat->Nat->List Nd
 | [],_,_=>[]
 | z::ks,s,p=>Am z s p++AA ks s (p+(Am z s p).length)
end
mutual
def vcR:Rose A4->Nat
 | .node _ ks=>vcL ks+1
def vcL:RVL->Nat
 | []=>0
 | z::l=>vcR z+vcL l
end
def Ho (n:Nat):Gm
 | [.agg (Lv x0 x1 x2 x3 xs),.j up,.ref 0 0 m],[.row false _ NCd o]=>.need (decide (m=o.length/\o.length+vcL xs+1<=2000000/\vcL xs+1<=n)) (.leaf (.ref 1 0 (o++Am (.node (x0,x1,x2,x3,()) xs) up o.length).length,[none,R0 NCd (o++Am (.node (x0,x1,x2,x3,()) xs) up o.length)]))
 | _,_=>.no
def LF:Gm
 | [.agg (Lv x0 x1 x2 x3 xs),.j up,.ref 0 0 m],[.row false _ NCd o]=>.need (decide (m=o.length/\o.length+vcL xs+1<=2000000)) (.leaf (.ref 1 0 (o++Am (.node (x0,x1,x2,x3,()) xs) up o.length).length,[none,R0 NCd (o++Am (.node (x0,x1,x2,x3,()) xs) up o.length)]))
 | _,_=>.no
def I0 (n:Nat):LoopEnt:=⟨38,[2,7,26,27,28],[2],[],fun
 | ([.ref 1 0 m,.j s,.sl (.rose VCd) ks,.j k,.j i],[none,R0 NCd o])=>.need (decide (m=o.length/\0<=i/\i.toNat<=ks.length/\k=ks.length/\0<=s/\o.length+vcL (ks.drop i.toNat)<=2000000/\vcL ks<=n/\vcL ks<=2000000)) (.leaf (.exit 0,([.ref 1 0 (o++AA (ks.drop i.toNat) s.toNat o.length).length],[none,R0 NCd (o++AA (ks.drop i.toNat) s.toNat o.length)])))
 | _=>.no⟩
def Sl:Gm
 | [.agg (Lv x0 x1 x2 x3 xs),.j up,.nl],[]=>.need (decide (vcL xs+1<=2000000)) (.leaf (.ref 0 0 (Am (.node (x0,x1,x2,x3,()) xs) up 0).length,[R0 NCd (Am (.node (x0,x1,x2,x3,()) xs) up 0)]))
 | _,_=>.no
def FD:LoopEnt:=⟨38,[2,7,26,27,28],[2],[],fun
 | ([.ref 0 0 m,.j s,.sl (.rose VCd) ks,.j k,.j i],[R0 NCd o])=>.need (decide (m=o.length/\0<=i/\i.toNat<=ks.length/\k=ks.length/\0<=s/\o.length+vcL (ks.drop i.toNat)<=2000000/\vcL ks<=2000000)) (.leaf (.exit 0,([.ref 0 0 (o++AA (ks.drop i.toNat) s.toNat o.length).length],[R0 NCd (o++AA (ks.drop i.toNat) s.toNat o.length)])))
 | _=>.no⟩
def ofG:Gm
 | [.agg (Lv x0 x1 x2 x3 xs)],[]=>.need (decide (vcL xs+1<=2000000)) (.leaf (.agg [.ref 0 0 (Am (.node (x0,x1,x2,x3,()) xs) (-1) 0).length],[R0 NCd (Am (.node (x0,x1,x2,x3,()) xs) (-1) 0)]))
 | _,_=>.no
theorem LC (n m:Nat) (s:Int) (ks:RVL) (k i:Int) (o:List Nd):Au prog (Aa [(120,.own (Ho n))]) (Aa [(4,I0 n)]) 1 (body f120 0) (I0 n) ([.ref 1 0 m,.j s,.sl (.rose VCd) ks,.j k,.j i],[none,R0 NCd o]) =
 ((ifB (decide (i<k)) (ifT (decide (0<=i)&&decide (i<(↑ks.length:Int))) (An ks[i.toNat]? fun z=>ifT (decide (m=o.length/\o.length+vcL (Rose.kids z)+(1 :
 Nat)<=2000000/\vcL (Rose.kids z)+1<=n)) (some (Ex.normal,[V.ref 1 0 (o++Am (Rose.node ((Rose.lab z).1,(Rose.lab z).2.1,(Rose.lab
 z).2.2.1,(Rose.lab z).2.2.2.1,()) (Rose.kids z)) s o.length).length,V.j s,V.sl VCd.rose ks,V.j k,V.j (i64.wrap (i+1))],
 [none,R0 NCd (o++Am (Rose.node ((Rose.lab z).1,(Rose.lab z).2.1,(Rose.lab z).2.2.1,(Rose.lab z).2.2.2.1,()) (Rose.kids
 z)) s o.length)])))) (some (Ex.exit 0,[V.ref 1 0 m],[none,R0 NCd o]))):_):=by kernel_rfl
theorem UH (n:Nat) (x0:Int) (x1:By) (x2:Int) (x3:Bool) (xs:RVL) (m:Nat) (up:Int) (nl:Option Bool) (o:List Nd):Cx prog (Aa [(120,.own (Ho n))]) (Aa [(4,I0 n)]) f120 [.agg (Lv x0 x1 x2 x3 xs),.j up,.ref 0 0 m] [.row false nl NCd o] =
 ((ifT (decide ((m+1)*48<=140737488355328)&&decide (m+1<=maxI)) (ifT (decide (m+1=(take m (drop 0 o)
 ++ (x0,x1,x2,up,x3,())::Ag NCd.den).length/\(0:Int)<=(0:Int)/\0<=xs.length/\(↑xs.length:Int)=(↑xs.length:Int)/\0<=(↑m:Int)/\
 (take m (drop 0 o)++(x0,x1,x2,up,x3,())::Ag NCd.den).length+vcL (drop 0 xs)<=2000000/\vcL xs<=n/\vcL xs<=(2000000
 : Nat))) (some (V.ref 1 0 (take m (drop 0 o)++(x0,x1,x2,up,x3,())::Ag NCd.den++AA (drop 0 xs) (↑m:Int).toNat (take m
 (drop 0 o)++(x0,x1,x2,up,x3,())::Ag NCd.den).length).length,[none,R0 NCd (take m (drop 0 o)++(x0,x1,
 x2,up,x3,())::Ag NCd.den++AA (drop 0 xs) (↑m:Int).toNat (take m (drop 0 o)++(x0,x1,x2,up,x3,())::Ag
 NCd.den).length)])))):_):=by kernel_rfl
mutual
theorem Cn : ∀ (z:Rose A4) (up:Int) (s:Nat),(Am z up s).length=vcR z
 | .node x ks,up,s=>by
  rw [Am,vcR,length_cons,NA ks s (s+1)]
theorem NA : ∀ (ks:RVL) (s p:Nat),(AA ks s p).length=vcL ks
 | [],_,_=>by rw [AA,vcL]; rfl
 | z::ks,s,p=>by rw [AA,vcL,length_append,Cn z s p,NA ks s]
end
theorem Gi : ∀ (l:RVL),l.length<=vcL l
 | []=>Nat.le_refl _
 | z::l=>by
  have:=Gi l;have:1<=vcR z:=by cases z; rw [vcR]; omega
  rw [vcL,length_cons]; omega
theorem Gh {z:Rose A4} : ∀ {l:RVL},z∈l->vcR z<=vcL l
 | [],h=>by cases h
 | y::l,h=>by
  rw [vcL];rcases mem_cons.1 h with rfl | h
  ·omega
  ·have:=Gh h; omega
theorem DE (z:Rose A4):vcR z=vcL z.kids+1:=by cases z; rw [vcR]; rfl
theorem N9 (n s:Nat) (ks:RVL) (h1:vcL ks<=n) (h2:vcL ks<=2000000) : ∀ (j i:Nat) (o:List Nd),i+j=ks.length->o.length+vcL (ks.drop i)<=2000000->
  Runs prog (Aa [(120,.own (Ho n))]) (Aa [(4,I0 n)]) 1 (body f120 0) (I0 n) ([.ref 1 0 o.length,.j (s:Int),.sl (.rose VCd) ks,.j (ks.length:Int),.j (i:Int)],[none,R0 NCd o]) (.exit 0) ([.ref 1 0 (o++AA (ks.drop i) s o.length).length],[none,R0 NCd (o++AA (ks.drop i) s o.length)])
 | 0,i,o,hi,ho=>by
  have hr:=LC n o.length s ks ks.length i o;rw [Ae (dcF (by omega))] at hr;rw [drop_eq_nil_of_le (by omega),AA,append_nil];exact stp hr
 | j+1,i,o,hi,ho=>by
  have hl:i<ks.length:=by omega
  have hM:=mxI;have hlen:=Gi ks;have hmem:=Gh (getElem_mem hl);have hck:=DE ks[i];have hr:=LC n o.length s ks ks.length i o;rw [drop_eq_getElem_cons hl,vcL] at ho;rw [Af (dcT (by omega)),T2 (by omega),ntN,gtE hl,Ap,Az (n:=i) (by omega),BD,Ab (dcT ⟨rfl,by omega,by omega⟩)] at hr;rw [drop_eq_getElem_cons hl,AA];have hk:=Cn ks[i] s o.length;have ih:=N9 n s ks h1 h2 j (i+1) (o++Am ks[i] s o.length) (by omega) (by rw [length_append]; omega);rw [length_append,append_assoc] at ih;rw [length_append] at hr;exact sts hr ih
theorem Z9 (n:Nat):Aw prog (Aa [(120,.own (Ho n))]) (Aa [(4,I0 n)]) 1 (f120.body.getD .skip):=by
 refine As (a:=body f120 0) (by kernel_rfl) fun d ex d' h=>?_
 unfold I0 at h;dsimp only at h;split at h
 ·rename_i m s ks k i o;obtain ⟨hc,hx⟩:=Ad h;clear h;obtain ⟨rfl,h0,h1,rfl,h3,h4,h5,h6⟩:=of_decide_eq_true hc;obtain ⟨i,rfl⟩:=eq_ofNat_of_zero_le h0;obtain ⟨s,rfl⟩:=eq_ofNat_of_zero_le h3;simp only [ntN] at h1 h4 hx;obtain ⟨rfl,rfl⟩:=lfP hx;exact N9 n s ks h5 h6 (ks.length-i) i o (by omega) h4
 ·cases h
theorem LE (x0:Int) (x1:By) (x2:Int) (x3:Bool) (xs:RVL) (up:Int) (s:Nat):Am (.node (x0,x1,x2,x3,()) xs) up s=(x0,x1,x2,up,x3,())::AA xs s (s+1):=by rw [Am]
theorem Xv (n:Nat) (x0:Int) (x1:By) (x2:Int) (x3:Bool) (xs:RVL) (m:Nat) (up:Int) (nl:Option Bool) (o:List Nd) (hc:m=o.length/\o.length+vcL xs+1<=2000000/\vcL xs+1<=n+1):Cx prog (Aa [(120,.own (Ho n))]) (Aa [(4,I0 n)]) f120 [.agg (Lv x0 x1 x2 x3 xs),.j up,.ref 0 0 m] [.row false nl NCd o]=some (.ref 1 0 (o++Am (.node (x0,x1,x2,x3,()) xs) up o.length).length,[none,R0 NCd (o++Am (.node (x0,x1,x2,x3,()) xs) up o.length)]):=by
 rw [UH];obtain ⟨rfl,h2,h3⟩:=hc;have hM:=mxI;have hlen:=Gi xs;rw [show drop 0 o=o from rfl,show drop 0 xs=xs from rfl,take_length,ntN,LE];rw [T2 (by omega)];rw [Ab (dcT ⟨by simp [A7],by omega,by omega,rfl,by omega,by simp [A7]; omega,by omega,by omega⟩)];simp [A7]
theorem Xw : ∀ n,(∀ m,m<n->Ac prog 120 (Ent.own (Ho m)).F)->Ac prog 120 (Ent.own (Ho n)).F
 | 0,_=>AP fun vs bs=>by
  unfold Ent.F Ho;dsimp only;split
  ·rename_i x0 x1 x2 x3 xs up m x o;have:decide (m=o.length/\o.length+vcL xs+1<=2000000/\vcL xs+1<=0)=false:=dcF (by omega);rw [this]; rfl
  ·rfl
 | n+1,ih=>by
  refine fcN (kc func120 (ih n (lt_succ_self n)) KnowsL.nil).knows (Λ:=(Aa [(4,I0 n)])) func120 fun vs bs r hq=>?_
  unfold Ent.F Ho at hq;dsimp only at hq;split at hq
  ·rename_i x0 x1 x2 x3 xs up m nl o;obtain ⟨hc,hx⟩:=Ad hq;exact ⟨Z9 n,(Xv n x0 x1 x2 x3 xs m up nl o (of_decide_eq_true hc)).trans hx⟩
  ·cases hq
theorem Ac1:Ac prog 120 (Ent.own LF).F:=by
 refine Bb (F:=fun n=>(Ent.own (Ho n)).F) Xw fun vs bs r h=>?_
 unfold Ent.F LF at h;dsimp only at h;split at h
 ·rename_i x0 x1 x2 x3 xs up m nl o;obtain ⟨hc,hx⟩:=Ad h;refine ⟨vcL xs+1,?_⟩;show (Br.need (decide (m=o.length/\o.length+vcL xs+1<=2000000/\vcL xs+1<=vcL xs+1)) (.leaf (.ref 1 0 (o++Am (.node (x0,x1,x2,x3,()) xs) up o.length).length,[none,R0 NCd (o++Am (.node (x0,x1,x2,x3,()) xs) up o.length)]))).run=some r;obtain ⟨h1,h2⟩:=of_decide_eq_true hc;have:decide (m=o.length/\o.length+vcL xs+1<=2000000/\vcL xs+1<=vcL xs+1)=true:=dcT ⟨h1,h2,Nat.le_refl _⟩;rw [this];exact hx
 ·cases h
theorem JN (m:Nat) (s:Int) (ks:RVL) (k i:Int) (o:List Nd):Au prog (Aa [(120,.own LF)]) (Aa [(4,FD)]) 0 (body f120 0) FD ([.ref 0 0 m,.j s,.sl (.rose VCd) ks,.j k,.j i],[R0 NCd o]) =
 ((ifB (decide (i<k)) (ifT (decide (0<=i)&&decide (i<(↑ks.length:Int))) (An ks[i.toNat]? fun z=>ifT (decide (m=o.length/\o.length+vcL (Rose.kids z)+(1 :
 Nat)<=2000000)) (some (Ex.normal,[V.ref 0 0 (o++Am (Rose.node ((Rose.lab z).1,(Rose.lab z).2.1,(Rose.lab z).2.2.1,(Rose.lab
 z).2.2.2.1,()) (Rose.kids z)) s o.length).length,V.j s,V.sl VCd.rose ks,V.j k,V.j (i64.wrap (i+1))],[R0 NCd
 (o++Am (Rose.node ((Rose.lab z).1,(Rose.lab z).2.1,(Rose.lab z).2.2.1,(Rose.lab z).2.2.2.1,()) (Rose.kids z)) s o.length)])))) (some
 (Ex.exit 0,[V.ref 0 0 m],[R0 NCd o]))):_):=by kernel_rfl
theorem Sk (x0:Int) (x1:By) (x2:Int) (x3:Bool) (xs:RVL) (up:Int):Cx prog (Aa [(120,.own LF)]) (Aa [(4,FD)]) f120 [.agg (Lv x0 x1 x2 x3 xs),.j up,.nl] [] =
 ((ifT (decide (1=1/\(0:Int)<=(0:Int)/\0<=xs.length/\(↑xs.length:Int)=(↑xs.length:Int)/\(0:Int)<=(0:Int)/\1+vcL
 (drop 0 xs)<=2000000/\vcL xs<=2000000)) (some (V.ref 0 0 ((x0,x1,x2,up,x3,())::Ag NCd.den++AA (drop 0 xs) (0 :
 Nat) 1).length,[R0 NCd ((x0,x1,x2,up,x3,())::Ag NCd.den++AA (drop 0 xs) 0 1)]))):_):=by kernel_rfl
theorem LG (s:Nat) (ks:RVL) (h2:vcL ks<=2000000) : ∀ (j i:Nat) (o:List Nd),i+j=ks.length->o.length+vcL (ks.drop i)<=2000000->
  Runs prog (Aa [(120,.own LF)]) (Aa [(4,FD)]) 0 (body f120 0) FD ([.ref 0 0 o.length,.j (s:Int),.sl (.rose VCd) ks,.j (ks.length:Int),.j (i:Int)],[R0 NCd o]) (.exit 0) ([.ref 0 0 (o++AA (ks.drop i) s o.length).length],[R0 NCd (o++AA (ks.drop i) s o.length)])
 | 0,i,o,hi,ho=>by
  have hr:=JN o.length s ks ks.length i o;rw [Ae (dcF (by omega))] at hr;rw [drop_eq_nil_of_le (by omega),AA,append_nil];exact stp hr
 | j+1,i,o,hi,ho=>by
  have hl:i<ks.length:=by omega
  have hM:=mxI;have hlen:=Gi ks;have hmem:=Gh (getElem_mem hl);have hck:=DE ks[i];have hr:=JN o.length s ks ks.length i o;rw [drop_eq_getElem_cons hl,vcL] at ho;rw [Af (dcT (by omega)),T2 (by omega),ntN,gtE hl,Ap,Az (n:=i) (by omega),BD,Ab (dcT ⟨rfl,by omega⟩)] at hr;rw [drop_eq_getElem_cons hl,AA];have hk:=Cn ks[i] s o.length;have ih:=LG s ks h2 j (i+1) (o++Am ks[i] s o.length) (by omega) (by rw [length_append]; omega);rw [length_append,append_assoc] at ih;rw [length_append] at hr;exact sts hr ih
theorem Xx:Aw prog (Aa [(120,.own LF)]) (Aa [(4,FD)]) 0 (f120.body.getD .skip):=by
 refine As (a:=body f120 0) (by kernel_rfl) fun d ex d' h=>?_
 unfold FD at h;dsimp only at h;split at h
 ·rename_i m s ks k i o;obtain ⟨hc,hx⟩:=Ad h;clear h;obtain ⟨rfl,h0,h1,rfl,h3,h4,h6⟩:=of_decide_eq_true hc;obtain ⟨i,rfl⟩:=eq_ofNat_of_zero_le h0;obtain ⟨s,rfl⟩:=eq_ofNat_of_zero_le h3;simp only [ntN] at h1 h4 hx;obtain ⟨rfl,rfl⟩:=lfP hx;exact LG s ks h6 (ks.length-i) i o (by omega) h4
 ·cases h
theorem Zm (x0:Int) (x1:By) (x2:Int) (x3:Bool) (xs:RVL):Cx prog (Aa [(120,.own Sl)]) (Aa []) f74 [.agg (Lv x0 x1 x2 x3 xs)] [] =
 ((ifT (decide (vcL xs+1<=2000000)) (some (V.agg [V.ref 0 0 (Am (Rose.node (x0,x1,x2,x3,()) xs) (-1:Int) 0).length],[R0 NCd (Am (Rose.node (x0,x1,x2,x3,()) xs) (-1:Int) 0)]))):_):=by kernel_rfl
def Kw:Gm
 | [.tp LCd z 0,.nl,.j no,.j up],[]=>.need (decide (Aj z<=2000000)) (.leaf (.ref 0 0 (AY z no up 0).length,[R0 NCd (AY z no up 0)]))
 | _,_=>.no
def Ea:LoopEnt:=⟨50,[1,9,30,31,32],[1],[],fun
 | ([.ref 0 0 m,.j s,.sl (.tree LCd) ks,.j k,.j i],[R0 NCd o])=>.need (decide (m=o.length/\0<=i/\i.toNat<=ks.length/\k=ks.length/\0<=s/\o.length+Ak (ks.drop i.toNat)<=2000000/\Ak ks<=2000000)) (.leaf (.exit 0,([.ref 0 0 (o++AM (ks.drop i.toNat) s.toNat o.length).length],[R0 NCd (o++AM (ks.drop i.toNat) s.toNat o.length)])))
 | _=>.no⟩
theorem UI (x0:Int) (x1:By) (x2:Int) (x3:Bool) (xs:RVL) (up:Int) (hc:vcL xs+1<=2000000):Cx prog (Aa [(120,.own LF)]) (Aa [(4,FD)]) f120 [.agg (Lv x0 x1 x2 x3 xs),.j up,.nl] []=some (.ref 0 0 (Am (.node (x0,x1,x2,x3,()) xs) up 0).length,[R0 NCd (Am (.node (x0,x1,x2,x3,()) xs) up 0)]):=by
 rw [Sk];have hM:=mxI;have hlen:=Gi xs;rw [show drop 0 xs=xs from rfl,LE];rw [Ab (dcT (by refine ⟨by trivial,by omega,by omega,by trivial,by omega,by omega,by omega⟩))];simp [A7]
theorem Afy:Ac prog 120 (Ent.own Sl).F:=by
 refine fcN (kc func120 Ac1 KnowsL.nil).knows (Λ:=(Aa [(4,FD)])) func120 fun vs bs r hq=>?_
 unfold Ent.F Sl at hq;dsimp only at hq;split at hq
 ·rename_i x0 x1 x2 x3 xs up;obtain ⟨hc,hx⟩:=Ad hq;exact ⟨Xx,(UI x0 x1 x2 x3 xs up (of_decide_eq_true hc)).trans hx⟩
 ·cases hq
theorem Acz:Ac prog 74 (Ent.rd1 ofG).F:=by
 refine fcN (kc func120 Afy KnowsL.nil).knows (Λ:=Aa []) func74 fun vs bs r hq=>?_
 unfold Ent.F ofG at hq;dsimp only at hq;split at hq
 ·rename_i x0 x1 x2 x3 xs;obtain ⟨hc,hx⟩:=Ad hq;refine ⟨Ao _,Eq.trans ?_ hx⟩;rw [Zm,Ab hc];rfl
 ·cases hq
abbrev Ys:FuncId->Option Ent:=Aa [(43,.own RH),(86,.rd1 F8)]
theorem In (m:Nat) (s:Int) (ks:RL) (k i:Int) (o:List Nd):Au prog Ys (Aa [(5,Ea)]) 0 (body f43 0) Ea ([.ref 0 0 m,.j s,.sl (.tree LCd) ks,.j k,.j i],[R0 NCd o]) =
 ((ifB (decide (i<k)) (ifT (decide (0<=i)&&decide (i<(↑ks.length:Int))) (An ks[i.toNat]? fun z=>ifB (Rose.lab z).2.2.2.1 (ifT (decide (m=o.length/\
 o.length+Aj z<=2000000)) (some (Ex.normal,[V.ref 0 0 (o++AY z (Rose.lab z).2.2.1 s o.length).length,V.j s,V.sl LCd.tree ks,V.j k,
 V.j (i64.wrap (i+1))],[R0 NCd (o++AY z (Rose.lab z).2.2.1 s o.length)]))) (some (Ex.normal,[V.ref 0 0 m,V.j s,
 V.sl LCd.tree ks,V.j k,V.j (i64.wrap (i+1))],[R0 NCd o])))) (some (Ex.exit 0,[V.ref 0 0 m],[R0 NCd
 o]))):_):=by kernel_rfl
theorem PZ (z:Rose Lab) (no up:Int):Cx prog Ys (Aa [(5,Ea)]) f43 [.tp LCd z 0,.nl,.j no,.j up] [] =
 ((ifB (z.lab.1==(5:Int)) (ifT (decide (1=1/\(0:Int)<=(0:Int)/\0<=z.kids.length/\(↑z.kids.length:Int)=(↑z.kids.length:Int)/\(0
 : Int)<=(0:Int)/\1+Ak (drop 0 z.kids)<=2000000/\Ak z.kids<=2000000)) (some (V.ref 0 0 (((0:Int),Ag UInt8,no,up,
 Ar z.lab.1,())::Ag NCd.den++AM (drop 0 z.kids) 0 1).length,[R0 NCd (((0:Int),Ag UInt8,no,up,
 Ar z.lab.1,())::Ag NCd.den++AM (drop 0 z.kids) 0 1)]))) (some (V.ref 0 0 1,[R0 NCd (((0:Int),Ag
 UInt8,no,up,Ar z.lab.1,())::Ag NCd.den)]))):_):=by kernel_rfl
theorem G1 (s:Nat) (ks:RL) (h2:Ak ks<=2000000) : ∀ (j i:Nat) (o:List Nd),i+j=ks.length->o.length+Ak (ks.drop i)<=2000000->
  Runs prog Ys (Aa [(5,Ea)]) 0 (body f43 0) Ea ([.ref 0 0 o.length,.j (s:Int),.sl (.tree LCd) ks,.j (ks.length:Int),.j (i:Int)],[R0 NCd o]) (.exit 0) ([.ref 0 0 (o++AM (ks.drop i) s o.length).length],[R0 NCd (o++AM (ks.drop i) s o.length)])
 | 0,i,o,hi,ho=>by
  have hr:=In o.length s ks ks.length i o;rw [Ae (dcF (by omega))] at hr;rw [drop_eq_nil_of_le (by omega),AM,append_nil];exact stp hr
 | j+1,i,o,hi,ho=>by
  have hl:i<ks.length:=by omega
  have hM:=mxI;have hlen:=Bc ks;have hmem:=Bo (getElem_mem hl);have hr:=In o.length s ks ks.length i o;rw [drop_eq_getElem_cons hl,Ak] at ho;rw [Af (dcT (by omega)),T2 (by omega),ntN,gtE hl,Ap,Az (n:=i) (by omega)] at hr;rw [drop_eq_getElem_cons hl,AM]
  cases hm:ks[i].lab.2.2.2.1 with
  | true=>
   rw [hm,Bg,Ab (dcT ⟨rfl,by omega⟩)] at hr;have hk:=E6 ks[i] ks[i].lab.2.2.1 s o.length;have ih:=G1 s ks h2 j (i+1) (o++AY ks[i] ks[i].lab.2.2.1 s o.length) (by omega) (by rw [length_append]; omega);rw [length_append,append_assoc] at ih;rw [if_pos rfl];rw [length_append] at hr;exact sts hr ih
  | false=>
   rw [hm,AR] at hr;rw [if_neg (by simp)];exact sts hr (G1 s ks h2 j (i+1) o (by omega) (by omega))
theorem Uv:Aw prog Ys (Aa [(5,Ea)]) 0 (f43.body.getD .skip):=by
 refine As (a:=body f43 0) (by kernel_rfl) fun d ex d' h=>?_
 unfold Ea at h;dsimp only at h;split at h
 ·rename_i m s ks k i o;obtain ⟨hc,hx⟩:=Ad h;clear h;obtain ⟨rfl,h0,h1,rfl,h3,h4,h6⟩:=of_decide_eq_true hc;obtain ⟨i,rfl⟩:=eq_ofNat_of_zero_le h0;obtain ⟨s,rfl⟩:=eq_ofNat_of_zero_le h3;simp only [ntN] at h1 h4 hx;obtain ⟨rfl,rfl⟩:=lfP hx;exact G1 s ks h6 (ks.length-i) i o (by omega) h4
 ·cases h
theorem RI (z:Rose Lab) (no up:Int) (hc:Aj z<=2000000):Cx prog Ys (Aa [(5,Ea)]) f43 [.tp LCd z 0,.nl,.j no,.j up] []=some (.ref 0 0 (AY z no up 0).length,[R0 NCd (AY z no up 0)]):=by
 rw [PZ];have hck:=AE z;have hlen:=Bc z.kids;rw [show drop 0 z.kids=z.kids from rfl,Fj]
 cases h5:z.lab.1==5 with
 | false=>rfl
 | true=>
  rw [Bg,cond_true,Ab (dcT (by refine ⟨by trivial,by omega,by omega,by trivial,by omega,by omega,by omega⟩))];simp [A7]
theorem Acu:Ac prog 43 (Ent.rd1 Kw).F:=by
 refine fcN (kc func43 Afe (kc func86 L4 KnowsL.nil)).knows (Λ:=(Aa [(5,Ea)])) func43 fun vs bs r hq=>?_
 unfold Ent.F Kw at hq;dsimp only at hq;split at hq
 ·rename_i z no up;obtain ⟨hc,hx⟩:=Ad hq;exact ⟨Uv,(RI z no up (of_decide_eq_true hc)).trans hx⟩
 ·cases hq
def dfL (l:List Ty):List Nd:=AY (t2L l 0) 0 (-1) 0
def FJ:Gm
 | [.agg [.sl TCd l]],[]=>.need (decide (l.length<=4000000000)&&nmL l) (.br (Ay l) (.leaf (.tup [.agg [.ref 0 0 (dfL l).length],.b true],[R0 NCd (dfL l)])) (.leaf (.tup [.agg [.ref 0 0 0],.b false],[R0 NCd []])))
 | _,_=>.no
mutual
theorem EK : ∀ (z:Rose Lab) (no up:Int) (s:Nat),AY z no up s=Am (Bl z no) up s
 | .node x ks,no,up,s=>by
  rw [AY,Bl,Am]
  cases x.1==5 with
  | false=>rw [cond_false,cond_false,AA]
  | true=>rw [cond_true,cond_true,G0 ks s (s+1)]
theorem G0 : ∀ (ks:RL) (s p:Nat),AM ks s p=AA (EG ks) s p
 | [],s,p=>by rw [AM,EG,AA]
 | z::ks,s,p=>by
  rw [AM,EG];split
  ·rw [AA,EK z,G0 ks s]
  ·exact G0 ks s p
end
theorem Aac (z:Rose Lab) (no:Int):vcR (Bl z no)<=Aj z:=by
 rw [<-Cn (Bl z no) 0 0,<-EK];exact E6 z no 0 0
theorem Qu (l:List Ty):Cx prog (Aa [(29,.rd1 Eg),(43,.rd1 Kw)]) (Aa []) f14 [.agg [.sl TCd l]] [] =
 ((ifT (decide (l.length<=4000000000)&&nmL l) (ifB (Ay l) (ifT (decide (Aj (Rose.node ((kf l 0).1.lab.1,(kf l 0).1.lab.2.1,(kf l
 0).1.lab.2.2.1,(kf l 0).1.lab.2.2.2.1,(kf l 0).1.lab.2.2.2.2.1,()) (take (kf l 0).1.kids.length
 (drop 0 (kf l 0).1.kids)))<=2000000)) (some (V.tup [V.agg [V.ref 0 0 (AY (Rose.node ((kf l 0).1.lab.1,(kf l (0 :
 Nat)).1.lab.2.1,(kf l 0).1.lab.2.2.1,(kf l 0).1.lab.2.2.2.1,(kf l 0).1.lab.2.2.2.2.1,()) (take (kf l
 0).1.kids.length (drop 0 (kf l 0).1.kids))) (0:Int) (-1:Int) 0).length],V.b true],[R0 NCd (AY
 (Rose.node ((kf l 0).1.lab.1,(kf l 0).1.lab.2.1,(kf l 0).1.lab.2.2.1,(kf l 0).1.lab.2.2.2.1,(kf l (0 :
 Nat)).1.lab.2.2.2.2.1,()) (take (kf l 0).1.kids.length (drop 0 (kf l 0).1.kids))) (0:Int) (-1:Int) 0)])))
 (some (V.tup [V.agg [V.ref 0 0 0],V.b false],[R0 NCd (Ag NCd.den)])))):_):=by kernel_rfl
theorem P6 (l:List Ty):Cx prog (Aa [(63,.rd1 FX),(39,.rd1 C7),(176,.rd1 Aae),(74,.rd1 ofG)]) (Aa []) f157 [.agg [.sl TCd l]] [] =
 ((ifT (decide (l.length<=4000000000)&&nmL l) (ifB (!Ay l) (some (V.tup [V.agg [V.ref 0 0 0],V.b false],[R0 NCd (Ag NCd.den)])) (ifT
 (decide ((0:Int)<=(0:Int)/\0<l.length/\l.length<=4000000000)) (ifT (decide (Ak (take (t2L l 0).kids.length (drop 0
 (t2L l 0).kids))+1<=1000000)) (ifT (decide (vcL (take (Bl (Rose.node ((t2L l 0).lab.1,(t2L l 0).lab.2.1,(t2L l
 0).lab.2.2.1,(t2L l 0).lab.2.2.2.1,(t2L l 0).lab.2.2.2.2.1,()) (take (t2L l 0).kids.length (drop (0 :
 Nat) (t2L l 0).kids))) (0:Int)).kids.length (drop 0 (Bl (Rose.node ((t2L l 0).lab.1,(t2L l 0).lab.2.1,(t2L l (0 :
 Nat)).lab.2.2.1,(t2L l 0).lab.2.2.2.1,(t2L l 0).lab.2.2.2.2.1,()) (take (t2L l 0).kids.length (drop 0
 (t2L l 0).kids))) (0:Int)).kids))+1<=2000000)) (some (V.tup [V.agg [V.ref 0 0 (Am (Rose.node ((Bl (Rose.node ((t2L l 0).lab.1,
 (t2L l 0).lab.2.1,(t2L l 0).lab.2.2.1,(t2L l 0).lab.2.2.2.1,(t2L l 0).lab.2.2.2.2.1,()) (take (t2L l
 0).kids.length (drop 0 (t2L l 0).kids))) (0:Int)).lab.1,(Bl (Rose.node ((t2L l 0).lab.1,(t2L l 0).lab.2.1,(t2L
 l 0).lab.2.2.1,(t2L l 0).lab.2.2.2.1,(t2L l 0).lab.2.2.2.2.1,()) (take (t2L l 0).kids.length (drop (0
 : Nat) (t2L l 0).kids))) (0:Int)).lab.2.1,(Bl (Rose.node ((t2L l 0).lab.1,(t2L l 0).lab.2.1,(t2L l 0).lab.2.2.1,
 (t2L l 0).lab.2.2.2.1,(t2L l 0).lab.2.2.2.2.1,()) (take (t2L l 0).kids.length (drop 0 (t2L l (0 :
 Nat)).kids))) (0:Int)).lab.2.2.1,(Bl (Rose.node ((t2L l 0).lab.1,(t2L l 0).lab.2.1,(t2L l 0).lab.2.2.1,(t2L l (0 :
 Nat)).lab.2.2.2.1,(t2L l 0).lab.2.2.2.2.1,()) (take (t2L l 0).kids.length (drop 0 (t2L l 0).kids))) (0 :
 Int)).lab.2.2.2.1,()) (take (Bl (Rose.node ((t2L l 0).lab.1,(t2L l 0).lab.2.1,(t2L l 0).lab.2.2.1,(t2L l (0 :
 Nat)).lab.2.2.2.1,(t2L l 0).lab.2.2.2.2.1,()) (take (t2L l 0).kids.length (drop 0 (t2L l 0).kids))) (0 :
 Int)).kids.length (drop 0 (Bl (Rose.node ((t2L l 0).lab.1,(t2L l 0).lab.2.1,(t2L l 0).lab.2.2.1,(t2L l (0 :
 Nat)).lab.2.2.2.1,(t2L l 0).lab.2.2.2.2.1,()) (take (t2L l 0).kids.length (drop 0 (t2L l 0).kids))) (0 :
 Int)).kids))) (-1:Int) 0).length],V.b true],[R0 NCd (Am (Rose.node ((Bl (Rose.node ((t2L l 0).lab.1,(t2L l (0 :
 Nat)).lab.2.1,(t2L l 0).lab.2.2.1,(t2L l 0).lab.2.2.2.1,(t2L l 0).lab.2.2.2.2.1,()) (take (t2L l (0 :
 Nat)).kids.length (drop 0 (t2L l 0).kids))) (0:Int)).lab.1,(Bl (Rose.node ((t2L l 0).lab.1,(t2L l 0).lab.2.1,(t2L l (0
 : Nat)).lab.2.2.1,(t2L l 0).lab.2.2.2.1,(t2L l 0).lab.2.2.2.2.1,()) (take (t2L l 0).kids.length (drop (0 :
 Nat) (t2L l 0).kids))) (0:Int)).lab.2.1,(Bl (Rose.node ((t2L l 0).lab.1,(t2L l 0).lab.2.1,(t2L l 0).lab.2.2.1,(t2L
 l 0).lab.2.2.2.1,(t2L l 0).lab.2.2.2.2.1,()) (take (t2L l 0).kids.length (drop 0 (t2L l 0).kids)))
 (0:Int)).lab.2.2.1,(Bl (Rose.node ((t2L l 0).lab.1,(t2L l 0).lab.2.1,(t2L l 0).lab.2.2.1,(t2L l (0 :
 Nat)).lab.2.2.2.1,(t2L l 0).lab.2.2.2.2.1,()) (take (t2L l 0).kids.length (drop 0 (t2L l 0).kids))) (0 :
 Int)).lab.2.2.2.1,()) (take (Bl (Rose.node ((t2L l 0).lab.1,(t2L l 0).lab.2.1,(t2L l 0).lab.2.2.1,(t2L l (0 :
 Nat)).lab.2.2.2.1,(t2L l 0).lab.2.2.2.2.1,()) (take (t2L l 0).kids.length (drop 0 (t2L l 0).kids))) (0 :
 Int)).kids.length (drop 0 (Bl (Rose.node ((t2L l 0).lab.1,(t2L l 0).lab.2.1,(t2L l 0).lab.2.2.1,(t2L l (0 :
 Nat)).lab.2.2.2.1,(t2L l 0).lab.2.2.2.2.1,()) (take (t2L l 0).kids.length (drop 0 (t2L l 0).kids))) (0 :
 Int)).kids))) (-1:Int) 0)]))))))):_):=by kernel_rfl
theorem Si (l:List Ty) (hc:(decide (l.length<=4000000000)&&nmL l)=true):Cx prog (Aa [(29,.rd1 Eg),(43,.rd1 Kw)]) (Aa []) f14 [.agg [.sl TCd l]] []=(.br (Ay l) (.leaf (.tup [.agg [.ref 0 0 (dfL l).length],.b true],[R0 NCd (dfL l)])) (.leaf (.tup [.agg [.ref 0 0 0],.b false],[R0 NCd []])):Br (V×List (Option Blk))).run:=by
 rw [Qu,hc,Cw];unfold dfL
 cases hk:Ay l with
 | false=>rfl
 | true=>
  obtain ⟨k1,k2,k3,k4⟩:=DT hk;rw [Bg,C9,k4,Ab (dcT (by omega))];rfl
theorem Adl:Ac prog 14 (Ent.rd1 FJ).F:=by
 refine fcN (kc func29 Jg (kc func43 Acu KnowsL.nil)).knows (Λ:=Aa []) func14 fun vs bs r hq=>?_
 unfold Ent.F FJ at hq;dsimp only at hq;split at hq
 ·rename_i l;obtain ⟨hc,hx⟩:=Ad hq;exact ⟨Ao _,(Si l hc).trans hx⟩
 ·cases hq
theorem Ry (l:List Ty) (hc:(decide (l.length<=4000000000)&&nmL l)=true):Cx prog (Aa [(63,.rd1 FX),(39,.rd1 C7),(176,.rd1 Aae),(74,.rd1 ofG)]) (Aa []) f157 [.agg [.sl TCd l]] []=(.br (Ay l) (.leaf (.tup [.agg [.ref 0 0 (dfL l).length],.b true],[R0 NCd (dfL l)])) (.leaf (.tup [.agg [.ref 0 0 0],.b false],[R0 NCd []])):Br (V×List (Option Blk))).run:=by
 rw [P6,hc,Cw];unfold dfL
 cases hk:Ay l with
 | false=>rfl
 | true=>
  obtain ⟨k1,k2,k3,k4⟩:=DT hk;rw [anE,dcE] at hc;have hck:=AE (t2L l 0);have hv:=Aac (t2L l 0) 0;have hvk:=DE (Bl (t2L l 0) 0);rw [Bool.not_true,AR,Ab (dcT ⟨by omega,k1,hc.1⟩),C9,show drop 0 (t2L l 0).kids=(t2L l 0).kids from rfl,take_length,IL,show drop 0 (Bl (t2L l 0) 0).kids=(Bl (t2L l 0) 0).kids from rfl,take_length,Ab (dcT (by omega)),Ab (dcT (by omega)),EK];rfl
theorem Ab6:Ac prog 157 (Ent.rd1 FJ).F:=by
 refine fcN (kc func63 KL (kc func39 F5 (kc func176 U0 (kc func74 Acz KnowsL.nil)))).knows (Λ:=Aa []) func157 fun vs bs r hq=>?_
 unfold Ent.F FJ at hq;dsimp only at hq;split at hq
 ·rename_i l;obtain ⟨hc,hx⟩:=Ad hq;exact ⟨Ao _,(Ry l hc).trans hx⟩
 ·cases hq
def Gd (v:List Nd):Nat->List Nd->Prop
 | _,[]=>True
 | s,x::w=>v[s]? = some x/\Gd v (s+1) w
def On (v:List Nd) (s e:Nat):Prop:=∀ j:Nat,s<=j->upN v e≠some (j:Int)
theorem Qd {v:List Nd} : ∀ {a:List Nd} {s:Nat} {b:List Nd},Gd v s (a++b)↔Gd v s a/\Gd v (s+a.length) b
 | [],s,b=>by simp [Gd]
 | x::a,s,b=>by
  rw [List.cons_append,Gd,Gd,Qd,length_cons,and_assoc,show s+1+a.length=s+(a.length+1) by omega]
theorem Oh {v:List Nd} {s e:Nat} (h:On v s e):CV v s e=false:=by
 unfold CV;exact beq_false_of_ne (h s (Nat.le_refl _))
theorem Acn {v:List Nd} {s t e:Nat} (h:On v s e) (hs:s<=t):On v t e:=fun j hj=>h j (by omega)
theorem Gz (s:Nat) : ∀ (ks:RL) (p:Nat),AM ks s p=[]\/∃ y∈ks,∃ m rest,AM ks s p=((0,[],y.lab.2.2.1,(s:Int),m,()):Nd)::rest
 | [],p=>.inl (by rw [AM])
 | z::ks,p=>by
  rw [AM];split
  ·rw [Fj];exact .inr ⟨z,by simp,_,_,rfl⟩
  ·rcases Gz s ks p with h | ⟨y,h1,h2⟩
   ·exact .inl h
   ·exact .inr ⟨y,by simp [h1],h2⟩
theorem WF {v:List Nd} {s p t:Nat} {ks:RL} (hl:Gd v p (AM ks s p)) (he:On v s (p+(AM ks s p).length)) (hst:s<t):On v t p:=by
 rcases Gz s ks p with h | ⟨y,_,m,rest,h⟩
 ·rw [h] at he; exact Acn he (by omega)
 ·rw [h,Gd] at hl;intro j hj hu;unfold upN at hu;rw [hl.1,map_some] at hu;have:=Option.some.inj hu;dsimp only at this;omega
mutual
theorem Lu (v:List Nd) : ∀ (z:Rose Lab),Ah z=true->∀ (no up:Int) (s:Nat),Gd v s (AY z no up s)->On v s (s+(AY z no up s).length)->vfR v z s=((s+(AY z no up s).length:Nat):Int)
 | .node x ks,hr,no,up,s,hl,he=>by
  obtain ⟨hp,hrr⟩:=Cr hr;have hp:B5 x ks=true:=hp;have hrr:A6 x.1 ks=true:=hrr;have hk:=Dl hp;rw [AY,Gd] at hl
  have hs:s<v.length:=by
   by_cases h:s<v.length
   ·exact h
   ·rw [List.getElem?_eq_none (by omega)] at hl; cases hl.1
  have hv:v[s]=((0,[],no,up,Ar x.1,()):Nd):=by
   have:=hl.1;rw [gtE hs] at this;exact Option.some.inj this
  rw [Rh _ hs,hv]
  show (if Ar x.1=false then (if CH x 0 [] (Ar x.1)=true then (s:Int)+1 else -1)
   else if (!Ar x.1||(0:Int) != 0||([]:By) != [])=true then -1
   else if x.1=4 then vfI v s (vfH v ks) v.length (s+1) else (if vfP v ks s (s+1)<0 then -1 else if CV v s (vfP v ks s (s+1)).toNat=true then -1 else vfP v ks s (s+1)))=_
  have hlen:(AY (.node x ks) no up s).length=(bif x.1==5 then AM ks s (s+1) else []).length+1:=by rw [AY,length_cons]
  rw [hlen] at he ⊢;have leaf:x.1≠5->(bif x.1==5 then AM ks s (s+1) else []).length=0:=fun h=>by rw [beq_false_of_ne h]; rfl
  rcases hk with h1 | h1 | h1 | ⟨h1,h6⟩ | h1
  ·have h5:=leaf (by omega);have hb:CH x 0 [] false=true:=by unfold CH; rw [if_neg (by simp),if_neg (by omega),if_neg (by omega)]; rfl
   have hh:Ar x.1=false:=by rw [h1]; rfl
   rw [hh,if_pos rfl,hb,if_pos rfl,h5]; omega
  ·have h5:=leaf (by omega);have hb:CH x 0 [] false=true:=by unfold CH; rw [if_neg (by simp),if_pos h1]; rfl
   have hh:Ar x.1=false:=by rw [h1]; rfl
   rw [hh,if_pos rfl,hb,if_pos rfl,h5]; omega
  ·have h5:=leaf (by omega)
   have hm:0<=x.2.2.2.2.1:=by
    unfold B5 at hp;rw [if_neg (by omega),if_pos h1,anE,dcE] at hp;exact hp.1.1
   have hb:CH x 0 [] false=true:=by unfold CH; rw [if_neg (by simp),if_neg (by omega),if_pos h1,dcT (show (0:Int)<=0/\0<=x.2.2.2.2.1 from ⟨by omega,hm⟩)]; rfl
   have hh:Ar x.1=false:=by rw [h1]; rfl
   rw [hh,if_pos rfl,hb,if_pos rfl,h5]; omega
  ·have h5:=leaf (by omega);have hh:Ar x.1=true:=by rw [h1]; rfl
   rw [h5] at he ⊢;have ho:CV v s (s+1)=false:=Oh he
   have hI : ∀ n,vfI v s (vfH v ks) n (s+1)=((s+1:Nat):Int):=fun n=>by
    cases n with
    | zero=>rw [vfI]
    | succ n=>rw [vfI,if_neg (by rw [ho]; simp)]
   rw [hh,if_neg (by simp),if_neg (by simp),if_pos h1,hI]
  ·have hh:Ar x.1=true:=by rw [h1]; rfl
   have hpw:ks.Pairwise KR:=by
    unfold B5 at hp;rw [if_neg (by omega),if_neg (by omega),if_neg (by omega)] at hp;split at hp
    ·cases hp
    ·exact ((Ik _).1 hp).imp fun h=>h.1
   have hb5:(bif x.1==5 then AM ks s (s+1) else [])=AM ks s (s+1):=by rw [h1]; rfl
   rw [hb5] at hl he ⊢;have hK:=HC v ks (fun z hz=>BO hrr hz) hpw s (s+1) (by omega) hl.2 (by rw [show s+1+(AM ks s (s+1)).length=s+((AM ks s (s+1)).length+1) by omega]; exact he);rw [hh,if_neg (by simp),if_neg (by simp),if_neg (by omega),hK,if_neg (by omega),ntN];have ho:CV v s (s+1+(AM ks s (s+1)).length)=false:=Oh (by rw [show s+1+(AM ks s (s+1)).length=s+((AM ks s (s+1)).length+1) by omega]; exact he);rw [ho,if_neg (by simp)];omega
theorem HC (v:List Nd) : ∀ (ks:RL),(∀ z∈ks,Ah z=true)->ks.Pairwise KR->∀ (s p:Nat),s<p->Gd v p (AM ks s p)->On v s (p+(AM ks s p).length)->vfP v ks s p=((p+(AM ks s p).length:Nat):Int)
 | [],_,_,s,p,_,_,_=>by rw [vfP,AM]; rfl
 | z::ks,hr,hpw,s,p,hsp,hl,he=>by
  rw [pairwise_cons] at hpw;have hr2 : ∀ z∈ks,Ah z=true:=fun w hw=>hr w (List.mem_cons_of_mem _ hw)
  cases hm:z.lab.2.2.2.1 with
  | true=>
   have hk:AM (z::ks) s p=AY z z.lab.2.2.1 s p++AM ks s (p+(AY z z.lab.2.2.1 s p).length):=by rw [AM,if_pos hm]
   rw [hk] at hl he ⊢;rw [Qd] at hl;rw [length_append] at he ⊢;have e1:p+((AY z z.lab.2.2.1 s p).length+(AM ks s (p+(AY z z.lab.2.2.1 s p).length)).length)=p+(AY z z.lab.2.2.1 s p).length+(AM ks s (p+(AY z z.lab.2.2.1 s p).length)).length:=by omega
   rw [e1] at he ⊢;have hfit:=Lu v z (hr z List.mem_cons_self) z.lab.2.2.1 s p hl.1 (WF hl.2 he hsp)
   have hv:v[p]? = some ((0,[],z.lab.2.2.1,(s:Int),Ar z.lab.1,()):Nd):=by
    have:=hl.1;rw [Fj,Gd] at this;exact this.1
   have hc:CV v s p=true/\noN v p=some z.lab.2.2.1:=by
    constructor
    ·unfold CV upN; rw [hv,map_some]; exact beq_self_eq_true _
    ·unfold noN; rw [hv]; rfl
   rw [vfP,if_pos hc,hfit,if_neg (by omega),ntN];exact HC v ks hr2 hpw.2 s _ (by omega) hl.2 he
  | false=>
   have hk:AM (z::ks) s p=AM ks s p:=by rw [AM,if_neg (by rw [hm]; simp)]
   rw [hk] at hl he ⊢
   have hc : ¬(CV v s p=true/\noN v p=some z.lab.2.2.1):=fun ⟨h1,h2⟩=>by
    rcases Gz s ks p with h | ⟨y,hy,m,rest,h⟩
    ·rw [h] at he;have he2:On v s p:=he;rw [Oh he2] at h1; cases h1
    ·rw [h,Gd] at hl;unfold noN at h2;rw [hl.1,map_some] at h2;have h2:=Option.some.inj h2;dsimp only at h2;have:z.lab.2.2.1<y.lab.2.2.1:=hpw.1 y hy;omega
   rw [vfP,if_neg hc,if_neg (by rw [hm]; simp)];exact HC v ks hr2 hpw.2 s p hsp hl he
end
theorem Nv (v:List Nd) : ∀ (w pre:List Nd),v=pre++w->Gd v pre.length w
 | [],pre,h=>by rw [Gd]; trivial
 | x::w,pre,h=>by
  rw [Gd];refine ⟨by rw [h,List.getElem?_append_right (Nat.le_refl _)]; simp,?_⟩;have:=Nv v w (pre++[x]) (by rw [h]; simp);rw [length_append] at this;exact this
theorem OG {l:List Ty} (h:Ay l=true):LH (dfL l) l=true:=by
 obtain ⟨k1,k2,k3,k4⟩:=DT h
 have h30:l.length<=30:=by
  unfold Ay at h;simp only [anE,dcE] at h;omega
 have hc:=L6 k1;have hb:=CI l 0 k1;rw [k4] at hc;have hlen:(dfL l).length<=Aj (t2L l 0):=E6 _ _ _ _;have hl:Gd (dfL l) 0 (AY (t2L l 0) 0 (-1) 0):=Nv (dfL l) (dfL l) [] rfl
 have hoff:On (dfL l) 0 (0+(AY (t2L l 0) 0 (-1) 0).length):=fun j _ hu=>by
  have:upN (dfL l) (0+(AY (t2L l 0) 0 (-1) 0).length)=none:=by
   unfold upN;rw [List.getElem?_eq_none (by rw [zero_add]; exact Nat.le_refl _)]; rfl
  rw [this] at hu; cases hu
 have hfit:=Lu (dfL l) _ k3 0 (-1) 0 hl hoff;have hd:dfL l=((0,[],0,-1,Ar (t2L l 0).lab.1,()):Nd)::(bif (t2L l 0).lab.1==5 then AM (t2L l 0).kids 0 1 else []):=by unfold dfL; rw [Fj]
 have h1:1<=(dfL l).length:=by rw [hd]; simp
 have hu:upN (dfL l) 0=some (-1):=by rw [hd]; rfl
 have hn:noN (dfL l) 0=some 0:=by rw [hd]; rfl
 unfold LH Fs;rw [h,k4,hfit,hu,hn,dcT (show 1<=(dfL l).length/\(dfL l).length<=40 by omega)];simp [dfL]
def kpC:Gm
 | [.tp LCd z 0,.bx [.j x] 0],[]=>.leaf (.b (z.lab.2.2.1==x),[])
 | _,_=>.no
def kpE  : LoopEnt:=⟨19,[0,1,4,7,8],[],[4],fun
 | ([.sl (.tree LCd) l,.fn 81 [] [.ptr 0 0],.j _,.j k,.j i],[some (.box [.j x])])=>
  .need (decide (0<=i/\i.toNat<=l.length/\l.length<=maxI/\k=l.length)) (.br (decide (A9 (fun z:Rose Lab=>z.lab.2.2.1==x) i.toNat (l.drop i.toNat)<0)) (.leaf (.exit 0,([],[some (.box [.j x])]))) (.leaf (.ret,([.j (A9 (fun z:Rose Lab=>z.lab.2.2.1==x) i.toNat (l.drop i.toNat))],[some (.box [.j x])]))))
 | _=>.no⟩
def Ac8  : Gm
 | [.sl (.tree LCd) l,.fn 81 [] [.ptr 0 0]],[.box [.j x]]=>.leaf (.j (A9 (fun z:Rose Lab=>z.lab.2.2.1==x) 0 l),[some (.box [.j x])])
 | _,_=>.no
def L3:Gm
 | [.tp LCd z 0,.j x],[]=>.need (decide (z.kids.length<=maxI)) (.br (AN x z.kids) (.leaf (.tp LCd (byR x z.kids) 0,[])) (.leaf (.np,[])))
 | _,_=>.no
theorem Zx:Ac prog 81 (Ent.rd1 kpC).F:=by
 refine fcK KnowsL.nil.knows (Λ:=Aa []) func81 fun vs bs r hq=>?_
 unfold Ent.F kpC at hq;dsimp only at hq;split at hq
 ·rename_i z x;refine ⟨Ao _,Eq.trans ?_ hq⟩;have e:AT prog (Aa []) (Aa []) f81 [.tp LCd z 0,.bx [.j x] 0] []=((some (V.b (z.lab.2.2.1==x),[])):_):=by kernel_rfl
  rw [e];rfl
 ·cases hq
theorem Qm  (x:Int) (l:RL) (r k i:Int):Au prog (Aa [(81,.rd1 kpC)]) (Aa [(2,kpE)]) 1 (body f80 0) kpE ([.sl (.tree LCd) l,.fn 81 [] [.ptr 0 0],.j r,.j k,.j i],[some (.box [.j x])]) =
 ((ifB (decide (i<k)) (ifT (decide (0<=i)&&decide (i<(↑l.length:Int))) (An l[i.toNat]? fun z=>ifB ((Rose.lab z).2.2.1==x) (some (Ex.ret,[V.j i],
 [some (Blk.box [V.j x])])) (some (Ex.normal,[V.sl LCd.tree l,V.fn 81 [] [V.ptr 0 0],V.j r,V.j k,V.j (i64.wrap (i +
 1))],[some (Blk.box [V.j x])])))) (some (Ex.exit 0,[],[some (Blk.box [V.j x])]))):_):=by kernel_rfl
theorem Tj  (x:Int) {l:RL} {r:Int} (hx:l.length<=maxI) : ∀ (j i:Nat),i+j=l.length->∀ e d',(.br (decide (A9 (fun z:Rose Lab=>z.lab.2.2.1==x) i (l.drop i)<0)) (.leaf (.exit 0,([],[some (.box [.j x])]))) (.leaf (.ret,([.j (A9 (fun z:Rose Lab=>z.lab.2.2.1==x) i (l.drop i))],[some (.box [.j x])]))):Br (Ex×Dt)).run=some (e,d')->
  Runs prog (Aa [(81,.rd1 kpC)]) (Aa [(2,kpE)]) 1 (body f80 0) kpE ([.sl (.tree LCd) l,.fn 81 [] [.ptr 0 0],.j r,.j (l.length:Int),.j (i:Int)],[some (.box [.j x])]) e d'
 | 0,i,hi,e,d',h=>by
  have e1:l.drop i=[]:=drop_eq_nil_of_le (by omega);rw [e1,Dy,A9,if_pos (by omega)] at h;cases h;have hr:=Qm x l r l.length i;rw [Ae (dcF (by omega))] at hr;exact stp hr
 | j+1,i,hi,e,d',h=>by
  have h1:i<l.length:=by omega
  have hr:=Qm x l r l.length i;rw [Af (dcT (by omega)),T2 (by omega)] at hr;simp only [ntN,gtE h1,Ap,Az (n:=i) (by omega)] at hr;rw [drop_eq_getElem_cons h1,Dy,A9] at h
  by_cases he:(fun z:Rose Lab=>z.lab.2.2.1==x) l[i]=true
  ·rw [if_pos he,if_neg (by omega)] at h;cases h;rw [Af he] at hr;exact stp hr
  ·rw [if_neg he] at h;rw [Ae (by simpa using he)] at hr;exact sts hr (Tj x hx j (i+1) (by omega) e d' (by rw [Dy]; exact h))
theorem Afg  : Aw prog (Aa [(81,.rd1 kpC)]) (Aa [(2,kpE)]) 1 (f80.body.getD .skip):=by
 refine As (a:=body f80 0) (by kernel_rfl) fun d e d' h=>?_
 unfold kpE at h;dsimp only at h;split at h
 ·obtain ⟨hc,h'⟩:=Ad h;obtain ⟨h0,h1,h2,rfl⟩:=of_decide_eq_true hc;obtain ⟨i,rfl⟩:=eq_ofNat_of_zero_le h0;exact Tj _  h2 _ i (Nat.add_sub_of_le h1) e d' h'
 ·cases h
theorem Ada  (x:Int) (l:RL) (hx:l.length<=maxI):AT prog (Aa [(81,.rd1 kpC)]) (Aa [(2,kpE)]) f80 [.sl (.tree LCd) l,.fn 81 [] [.ptr 0 0]] [.box [.j x]]=some (.j (A9 (fun z:Rose Lab=>z.lab.2.2.1==x) 0 l),[some (.box [.j x])]):=by
 have e:AT prog (Aa [(81,.rd1 kpC)]) (Aa [(2,kpE)]) f80 [.sl (.tree LCd) l,.fn 81 [] [.ptr 0 0]] [.box [.j x]] =
  ((ifT (decide ((0:Int)<=(0:Int)/\0<=l.length/\l.length<=maxI/\(↑l.length:Int)=(↑l.length:Int))) (ifB (decide (A9 (fun z=>z.lab.2.2.1==
 x) 0 (drop 0 l)<(0:Int))) (some (V.j (-1),[some (Blk.box [V.j x])])) (some (V.j (A9 (fun z=>z.lab.2.2.1==x) (0 :
 Nat) (drop 0 l)),[some (Blk.box [V.j x])])))):_):=by kernel_rfl
 rw [e,Ab (dcT ⟨by omega,by omega,hx,rfl⟩)];simp only [drop_zero]
 by_cases q:A9 (fun z:Rose Lab=>z.lab.2.2.1==x) 0 l<0
 ·rw [Af (dcT q),HJ _ _ _ q]
 ·rw [Ae (dcF q)]
theorem Ac9  : Ac prog 80 (Ent.own Ac8).F:=by
 refine Da (kc func81 Zx KnowsL.nil).knows (Λ:=(Aa [(2,kpE)])) func80 (c:=f80.body.getD .skip) (by kernel_rfl) fun vs bs r h hv hb=>?_
 unfold Ent.F Ac8 at h;dsimp only at h;split at h
 ·rename_i l x;have h':=h;exact ⟨Afg ,(Ada x l (hv (.sl (.tree LCd) l) (by simp)).1).trans (by cases h'; rfl)⟩
 ·cases h
theorem RT (z:Rose Lab) (x:Int):AT prog (Aa [(80,.own Ac8)]) (Aa []) f35 [.tp LCd z 0,.j x] [] =
 ((ifB (decide (A9 (fun z=>z.lab.2.2.1==x) 0 z.kids<(0:Int))) (some (V.np,[])) (ifT (decide ((0:Int)<=A9 (fun z=>z.lab.2.2.1==x)
 0 z.kids)&&decide (A9 (fun z=>z.lab.2.2.1==x) 0 z.kids<(↑z.kids.length:Int))) (An z.kids[(A9 (fun z=>z.lab.2.2.1==x)
 0 z.kids).toNat]? fun z=>some (V.tp LCd z 0,[])))):_):=by kernel_rfl
theorem QU {x:Int} : ∀ {l:RL} {y:Rose Lab},l.find? (fun z=>z.lab.2.2.1==x)=some y->AN x l=true/\byR x l=y
 | [],y,h=>by cases h
 | z::l,y,h=>by
  by_cases q:z.lab.2.2.1=x
  ·have hb:(z.lab.2.2.1==x)=true:=by rw [q]; exact beq_self_eq_true _
   rw [List.find?_cons_of_pos (p:=fun z:Rose Lab=>z.lab.2.2.1==x) hb] at h;refine ⟨Er.2 ⟨z,by simp,q⟩,?_⟩;rw [byR,if_pos q];exact Option.some.inj h
  ·have hb : ¬(z.lab.2.2.1==x)=true:=by rw [beq_false_of_ne q]; simp
   rw [List.find?_cons_of_neg (p:=fun z:Rose Lab=>z.lab.2.2.1==x) hb] at h;obtain ⟨h1,h2⟩:=QU h;have hne:=E8 (ks:=l) (z:=z) (n:=x) (Ne.symm q);rw [hne.1,hne.2];exact ⟨h1,h2⟩
theorem WY:Ac prog 35 (Ent.rd1 L3).F:=by
 refine fcK (kc func80 Ac9 KnowsL.nil).knows (Λ:=Aa []) func35 fun vs bs r hq=>?_
 unfold Ent.F L3 at hq;dsimp only at hq;split at hq
 ·rename_i z x;obtain ⟨hc,hx⟩:=Ad hq;refine ⟨Ao _,Eq.trans ?_ hx⟩;rw [RT];have ha:=LJ (fun z:Rose Lab=>z.lab.2.2.1==x) z.kids 0;have hhas:AN x z.kids=z.kids.any (fun z:Rose Lab=>z.lab.2.2.1==x):=rfl
  by_cases q:A9 (fun z:Rose Lab=>z.lab.2.2.1==x) 0 z.kids<0
  ·rw [Af (dcT q),hhas,<-ha,dcF (by omega)];rfl
  ·obtain ⟨i,h1,h2,h3,h4⟩:=GU (fun z:Rose Lab=>z.lab.2.2.1==x) z.kids 0 (by omega);obtain ⟨h5,h6⟩:=QU h4;rw [Ae (dcF q),h2,zero_add,T2 (by omega),ntN,gtE h1,Ap,h5,h6];rfl
 ·cases hq



mutual
theorem V0 : ∀ z:Rose Lab,vcR (cv z)=Aj z
 | .node x ks=>by rw [cv,vcR,Aj,Vz ks]
theorem Vz : ∀ l:RL,vcL (cvs l)=Ak l
 | []=>by rw [cvs,vcL,Ak]
 | z::l=>by rw [cvs,vcL,Ak,V0 z,Vz l]
end
def FN (v:List Nd) (s t:Nat):List Nd:=(v.drop s).take (t-s)
theorem T7 {v:List Nd} {s t u:Nat} (h1:s<=t) (h2:t<=u):FN v s t++FN v t u=FN v s u:=by
 unfold FN;have e:v.drop t=(v.drop s).drop (t-s):=by rw [List.drop_drop]; congr 1; omega
 rw [e,show u-s=(t-s)+(u-t) by omega,List.take_add]
theorem Aap {v:List Nd} {a:Nat} (h:a<v.length):FN v a (a+1)=[v[a]]:=by
 unfold FN;rw [drop_eq_getElem_cons h,show a+1-a=1 by omega]; rfl
theorem QN {v:List Nd} {s t:Nat} (h:t<=v.length):(FN v s t).length=t-s:=by
 unfold FN;rw [List.length_take,length_drop]; omega
theorem LD {v:List Nd} {a:Nat} (IH : ∀ e,a<e->∀ h:e<v.length,Am (cv (kf (tys v) e).1) v[e].2.2.2.1 e=FN v e (kf (tys v) e).2) : ∀ n e,a<e->e<=v.length->AA (cvs (AB (kf (tys v)) (tys v) a n e []).1) a e=FN v e (AB (kf (tys v)) (tys v) a n e []).2
 | 0,e,_,_=>by
  rw [AB,cvs,AA];unfold FN;simp
 | n+1,e,he,hl=>by
  rw [AB]
  by_cases hu:Ba (tys v) e=some (a:Int)
  ·have h1:=DY (H6.2 hu);have hb:=CI (tys v) e (by rw [Bn]; exact h1);rw [Bn] at hb;have hup:v[e].2.2.2.1=(a:Int):=by rw [Eu,IO h1] at hu; exact Option.some.inj hu
   have ih:=IH e he h1;rw [hup] at ih;have ih2:=LD IH n (kf (tys v) e).2 (by omega) hb.2;have hk:=GP (a:=a) (CI (tys v)) n (kf (tys v) e).2 [] (by rw [Bn]; exact hb.2);rw [if_pos hu,D9];dsimp only;rw [nil_append,List.singleton_append,cvs,AA,ih,QN hb.2,show e+((kf (tys v) e).2-e)=(kf (tys v) e).2 by omega,ih2];exact T7 (by omega) hk.1
  ·rw [if_neg hu,cvs,AA];unfold FN;simp
theorem O4 {v:List Nd} : ∀ n a,v.length-a<=n->∀ h:a<v.length,Am (cv (kf (tys v) a).1) v[a].2.2.2.1 a=FN v a (kf (tys v) a).2
 | 0,a,h1,h2=>by omega
 | n+1,a,h1,h2=>by
  have IH : ∀ e,a<e->∀ h:e<v.length,Am (cv (kf (tys v) e).1) v[e].2.2.2.1 e=FN v e (kf (tys v) e).2:=fun e he h=>O4 n e (by omega) h
  have hb:=CI (tys v) a (by rw [Bn]; exact h2);rw [Tm h2] at hb ⊢;dsimp only at hb ⊢;rw [<-T7 (Nat.le_succ a) hb.1,Aap h2,cv,Am,GO h2];unfold C6;have hx : ∀ m,v[a].2.2.2.2.1=m->((v[a].1,v[a].2.1,v[a].2.2.1,v[a].2.2.2.1,m,()):Nd)=v[a]:=fun m hm=>by subst hm; rfl
  cases hm:v[a].2.2.2.2.1 with
  | false=>
   simp only [cond_false];rw [cvs,AA];have:FN v (a+1) (a+1)=[]:=by unfold FN; simp
   show _=_++FN v (a+1) (a+1);rw [this];exact congrArg (fun y:Nd=>[y]) (hx false hm)
  | true=>
   simp only [cond_true];rw [LD IH _ (a+1) (by omega) h2];exact congrArg (fun y:Nd=>y::FN v (a+1) (AB (kf (tys v)) (tys v) a (tys v).length (a+1) []).2) (hx true hm)
mutual
def AK:Rose Lab->Int->Nat->List Ty
 | .node x ks,up,s=>(x.1,x.2.1,x.2.2.1,x.2.2.2.1,up,x.2.2.2.2.1,())::Bt ks s (s+1)
def Bt:RL->Nat->Nat->List Ty
 | [],_,_=>[]
 | z::ks,s,p=>AK z s p++Bt ks s (p+(AK z s p).length)
end
mutual
theorem Dc : ∀ (z:Rose Lab) (up:Int) (s:Nat),(AK z up s).length=Aj z
 | .node x ks,up,s=>by rw [AK,Aj,length_cons,KE ks s (s+1)]
theorem KE : ∀ (ks:RL) (s p:Nat),(Bt ks s p).length=Ak ks
 | [],_,_=>by rw [Bt,Ak]; rfl
 | z::ks,s,p=>by rw [Bt,Ak,length_append,Dc z s p,KE ks s]
end
theorem MS (z:Rose Lab) (up:Int) (s:Nat):AK z up s=(z.lab.1,z.lab.2.1,z.lab.2.2.1,z.lab.2.2.2.1,up,z.lab.2.2.2.2.1,())::Bt z.kids s (s+1):=by cases z; rw [AK]; rfl


end Go.Proofs.YtckmoiopjocapaaGreat.Den
