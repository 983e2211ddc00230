/- What functions of the program do, by the machine: Ts7 Ts8 Ts9 Ts10 Ts11 Srk Srq Td9 Td10 Tr1 Tr2 Tr3 Tr4 Tr5 Tx1 Tx2 Tx3. -/
import Derived.Test.YthbecdipboideaaDoorDB
import Derived.KernelRfl
import Derived.Test.YthbecdipboideaaDoorRows
import Derived.Shelf.SlSortCmp.Whole1
import Derived.Shelf.SlSortCmp.NoneTotal
import Derived.Shelf.SlicesG.Cmp
import Derived.WalkKit
import Derived.Deep.QuietTactic
import Derived.BigQuiet
import Derived.Lib.Small
import Derived.Lib.BitFns
open Go.IntKind (i64)
open Go.Proofs.Tryd
open List (append_assoc append_nil drop drop_zero getD_eq_getElem?_getD length_append length_cons length_nil nil_append range take take_length)
open Nat (le_refl zero_le)
open Option (map_some)
open Bool (false_eq_true)
namespace Go.Proofs.YthbecdipboideaaDoor.Den
open Go.Proofs
set_option maxRecDepth 100000

theorem QJ (s:By) {a:Nat} (h:a<=s.length):a+kqL s a 0<=s.length:=by
 unfold kqL
 by_cases c1:AQ CS s a=true
 ·rw [if_pos ⟨by decide,c1⟩]; exact FH (w:=CS) (by decide) h c1
 ·rw [if_neg (fun h=>c1 h.2)]
  by_cases c2:AQ BH s a=true
  ·rw [if_pos ⟨by decide,c2⟩]; exact FH (w:=BH) (by decide) h c2
  ·rw [if_neg (fun h=>c2 h.2)]
   by_cases c3:AQ AA s a=true
   ·rw [if_pos ⟨by decide,c3⟩]; exact FH (w:=AA) (by decide) h c3
   ·rw [if_neg (fun h=>c3 h.2)]; exact h
theorem O5 (s:By) {a:Nat} (h:a<=s.length):(kdF s a).2.1<=s.length:=by
 unfold kdF
 by_cases q:kqN s a 0=0
 ·rw [if_pos q]; exact O1 s h
 ·rw [if_neg q]; exact QJ s h
def BdQ (f:By->Nat->Int->Rose Lab×Nat×Int):Prop:=∀ s a b,a<=s.length->s.length<=400->-1<=b->b<=1000->a<=(f s a b).2.1/\(f s a b).2.1<=s.length/\-1<=(f s a b).2.2/\(f s a b).2.2<=1000/\((f s a b).2.2<0->b<0)
theorem Hd {p:Nat} {b:Int} (hp:p<=400) (h4:b<=1000):0<=flB p b/\flB p b<=1000:=by
 unfold flB
 by_cases q:b<0
 ·rw [if_pos q]; omega
 ·rw [if_neg q]; omega
theorem BD {m:UInt8} {s:By} {a:Nat} {b:Int} (hm:m≠0) (h1:a<=s.length) (h2:s.length<=400) (h3 : -1<=b) (h4:b<=1000):a<=(mkP m s a b).1/\(mkP m s a b).1<=s.length/\-1<=(mkP m s a b).2/\(mkP m s a b).2<=1000/\((mkP m s a b).2<0->a+1<=(mkP m s a b).1/\b<0):=by
 unfold mkP mrQ
 dsimp only
 obtain ⟨g1,g2,g3⟩:=BC hm (bdI b) h1
 have g4:=Hd (p:=mrA m s a (bdI b)) (b:=b) (by omega) h4
 cases q:mrB m s a (bdI b) with
 | true=>rw [cond_true]; refine ⟨g1,g2,by omega,by omega,fun h=>by omega⟩
 | false=>rw [cond_false]; exact ⟨g1,g2,h3,h4,fun h=>⟨(g3 q).1,h⟩⟩
theorem GN {s:By} {a:Nat} {b:Int} (h1:a<=s.length) (h2:s.length<=400) (h3 : -1<=b) (h4:b<=1000):a<=(nrP s a b).2.1/\(nrP s a b).2.1<=s.length/\-1<=(nrP s a b).2.2/\(nrP s a b).2.2<=1000/\((nrP s a b).2.2<0->b<0):=by
 unfold nrP
 dsimp only
 obtain ⟨p1,p2⟩:=BG (bdI b) h1
 generalize blA s a (bdI b)=p at *
 obtain ⟨q1,q2⟩:=FL (bdI b) p2
 have g4:=Hd (p:=nbA s p (bdI b)) (b:=b) (by omega) h4
 cases q:nqF s a b with
 | true=>rw [cond_true]; exact ⟨by omega,q2,by omega,by omega,fun h=>by omega⟩
 | false=>rw [cond_false]; exact ⟨by omega,q2,h3,h4,fun h=>h⟩
theorem Kt {s:By} {a:Nat} {b:Int} (h1:a<=s.length) (h2:s.length<=400) (h3 : -1<=b) (h4:b<=1000):a<=(wdP s a b).2.1/\(wdP s a b).2.1<=s.length/\-1<=(wdP s a b).2.2/\(wdP s a b).2.2<=1000/\((wdP s a b).2.2<0->a+1<=(wdP s a b).2.1/\b<0):=by
 unfold wdP
 dsimp only
 obtain ⟨p1,p2⟩:=BG (bdI b) h1
 have e:wqF s a b=((bdI b||(nmK s (blA s a (bdI b))==0))||Be (nxt s (nmA s (blA s a (bdI b)) (bdI b)))):=rfl
 generalize blA s a (bdI b)=p at *
 obtain ⟨q1,q2⟩:=I1 (bdI b) p2
 have g4:=Hd (p:=nmA s p (bdI b)) (b:=b) (by omega) h4
 cases q:wqF s a b with
 | true=>rw [cond_true]; exact ⟨by omega,q2,by omega,by omega,fun h=>by omega⟩
 | false=>
  rw [cond_false]
  refine ⟨by omega,q2,h3,h4,fun h=>⟨?_,h⟩⟩
  rw [q] at e
  rw [Cm.2 h,Bool.false_or] at e
  have e2:=(Bool.or_eq_false_iff.1 e.symm).1
  have:=beq_eq_false_iff_ne.1 e2
  rw [Cm.2 h]
  show a+1<=p+nmK s p
  omega
theorem Ph (n:Nat) (f g:By->Nat->Int->Rose Lab×Nat×Int) (hf:BdQ f) (s:By) (a b d:Int) (hc:(0<=a/\a.toNat<=s.length/\s.length<=400/\-1<=b/\b<=1000)/\1<=n+1/\0<=d/\d<=1000/\(0<=b\/(s.length-a.toNat+3<=n+1/\d+(s.length-a.toNat:Nat)<=450))):BA prog (Ab [(26,.own qbG),(23,.rd1 qnG),(22,.own qmP),(25,.own quP),(46,.own kdG),(27,.own (Ea n f)),(10,.own (Jq n g))]) (Ab []) f27 [.ptr 0 0,.j d] [(.box [.s s,.j (a),.j (b)])]=some (.agg [.j (tyQ f g s a.toNat b).1.lab.1,.s (tyQ f g s a.toNat b).1.lab.2.1,.j (tyQ f g s a.toNat b).1.lab.2.2.1,.b (tyQ f g s a.toNat b).1.lab.2.2.2.1,.j (tyQ f g s a.toNat b).1.lab.2.2.2.2.1,.ref 1 0 (tyQ f g s a.toNat b).1.kids.length],[some (.box [.s s,.j (((tyQ f g s a.toNat b).2.1:Nat)),.j ((tyQ f g s a.toNat b).2.2)]),R0 (.rose LCd) (tyQ f g s a.toNat b).1.kids]):=by
 rw [NC]
 dsimp only [shr]
 obtain ⟨⟨h0,h1,h2,h3,h4⟩,h5,h6,h7,h8⟩:=hc
 obtain ⟨a,rfl⟩:=Int.eq_ofNat_of_zero_le h0
 rw [ntN] at h1 h8
 have W1:i64.wrap (d+1)=d+1:=Ax (by omega) (by omega)
 rw [W1]
 repeat rw [ntN]
 obtain ⟨p1,p2⟩:=BG (bdI b) h1
 unfold tyQ
 generalize blA s a (bdI b)=p at *
 rw [Aa (dcT ⟨by omega,h1,h2,h3,h4⟩)]
 repeat rw [ntN]
 rw [Aa (dcT ⟨by omega,p2,h2,h3,h4⟩)]
 by_cases hb:b<0
 ·have h8:s.length-a+3<=n+1/\d+((s.length-a:Nat):Int)<=450:=by
   rcases h8 with h8 | h8
   ·omega
   ·exact h8
  have e1 : ∀ k:UInt8,(cB' s p false==k)=(nxt s p==k):=fun _=>rfl
  rw [Cm.2 hb,Af (dcF (by omega)),Qj,OO,e1,e1,cond_false]
  have hdl:decide (d<500)=true:=dcT (by omega)
  rw [hdl]
  cases q4:nxt s p==91 with
  | true=>
   obtain ⟨m1,m2,m3,m4,m5⟩:=BD (m:=91) (by decide) p2 h2 h3 h4
   have hy:=hf s (mkP 91 s p b).1 (mkP 91 s p b).2 m2 h2 m3 m4
   rw [A4,A4,Aa (dcT ⟨by omega,p2,h2,h3,h4,by decide,by decide⟩),cond_true]
   generalize mkP 91 s p b=x at *
   repeat rw [ntN]
   rw [Aa (dcT ⟨⟨by omega,m2,h2,m3,m4⟩,by omega,by omega,by omega,by omega⟩)]
   dsimp only
   generalize f s x.1 x.2=y at *
   repeat rw [ntN]
   rw [Aa (dcT ⟨by omega,hy.2.1,h2,hy.2.2.1,hy.2.2.2.1,by decide,by decide⟩)]
   rw [drop_zero,take_length]
   obtain ⟨⟨⟨x0,x1,x2,x3,x4,⟨⟩⟩,ks⟩,y1,y2⟩:=y
   rfl
  | false=>
   rw [A1,cond_false]
   cases q5:nxt s p==123 with
   | true=>
    rw [A4,A4,cond_true,Aa (dcT ⟨⟨by omega,p2,h2,h3,h4⟩,by omega,by omega,by omega,.inr ⟨by omega,by omega⟩⟩)]
   | false=>
    rw [A1,cond_false,Aa (dcT ⟨by omega,p2,h2,h3,h4,hb⟩)]
    have k1:(kdF s p).2.1<=s.length:=O5 s p2
    generalize kdF s p=k at *
    dsimp only
    have k2 : -1<=(bif k.2.2 then ((k.2.1:Nat):Int) else b)/\(bif k.2.2 then ((k.2.1:Nat):Int) else b)<=1000:=by
     cases k.2.2 with
     | true=>rw [cond_true]; omega
     | false=>rw [cond_false]; omega
    generalize (bif k.2.2 then ((k.2.1:Nat):Int) else b)=b1 at *
    repeat rw [ntN]
    have ek:(((k.1:Nat):Int)==3)=(k.1==3):=by
     by_cases q:k.1=3
     ·rw [q]; rfl
     ·rw [beq_eq_false_iff_ne.2 q,beq_eq_false_iff_ne.2 (by omega)]
    rw [ek]
    cases q6:k.1==3 with
    | true=>
     have q7:k.1=3:=beq_iff_eq.1 q6
     rw [A4,cond_true,Aa (dcT ⟨by omega,k1,h2,k2.1,k2.2,by decide,by decide⟩),q7]
     unfold enQ
     dsimp only
     obtain ⟨m1,m2,m3,m4,m5⟩:=BD (m:=40) (by decide) k1 h2 k2.1 k2.2
     generalize mkP 40 s k.2.1 b1=x at *
     repeat rw [ntN]
     rw [Aa (dcT ⟨by omega,m2,h2,m3,m4⟩)]
     obtain ⟨r1,r2,r3,r4,r5⟩:=GN m2 h2 m3 m4
     generalize nrP s x.1 x.2=y at *
     repeat rw [ntN]
     rw [Aa (dcT ⟨by omega,r2,h2,r3,r4,by decide,by decide⟩)]
     rfl
    | false=>rw [A1,cond_false]; rfl
 ·rw [DY.2 (by omega),Ag (dcT (by omega)),cond_true]; rfl
theorem Pi (n:Nat) (f g:By->Nat->Int->Rose Lab×Nat×Int) (bf:BdQ f) (hf:Ad prog 27 (Ent.own (Ea n f)).F) (hg:Ad prog 10 (Ent.own (Jq n g)).F):Ad prog 27 (Ent.own (Ea (n+1) (tyQ f g))).F:=by
 refine fcC (kc func26 qbl (kc func23 qnx (kc func22 Rn (kc func25 Rm (kc func46 qkd (kc func27 hf (kc func10 hg KnowsL.nil))))))).knows (Λ:=Ab []) func27 fun vs bs r hq=>?_
 unfold Ent.F Ea at hq
 dsimp only at hq
 split at hq
 ·rename_i d s a b
  obtain ⟨hc,hx⟩:=Ae hq
  exact ⟨Ar _,(Ph n f g bf s a b d (of_decide_eq_true hc)).trans hx⟩
 ·cases hq
def flW (s:By) (a:Nat) (b:Int) (ap:Bool):Int:=bif !ap&&(!bdI b&&Be (nxt s a)) then flB a b else b
def qmE (n:Nat) (q:By×RL×Nat×Int->RL×Nat×Int):LoopEnt:=⟨114,[0,1,4,5],[0,4,5],[],fun
 | ([.ptr 0 0,.j d,.ptr 1 0,.ptr 2 0],[some (.box [.s s,.j (a),.j (b)]),some (.box [.j 0,.s [],.j 0,.b false,.j 0,.ref 3 0 0]),some (.box [.j 5,.s [],.j 0,.b false,.j 0,.ref 4 0 m]),R0 (.rose LCd) [],R0 (.rose LCd) o])=>.need (decide ((0<=a/\a.toNat<=s.length/\s.length<=400/\-1<=b/\b<=1000)/\0<=d/\d<=1000/\(0<=b\/(s.length-a.toNat+2<=n/\d+(s.length-a.toNat:Nat)<=450))/\m=o.length/\o.length<=1000)) (.leaf (.exit 0,([.ptr 0 0,.ptr 1 0,.ptr 2 0],[some (.box [.s s,.j (((q (s,o,a.toNat,b)).2.1:Nat)),.j ((q (s,o,a.toNat,b)).2.2)]),some (.box [.j 0,.s [],.j 0,.b false,.j 0,.ref 3 0 0]),some (.box [.j 5,.s [],.j 0,.b false,.j 0,.ref 4 0 (q (s,o,a.toNat,b)).1.length]),R0 (.rose LCd) [],R0 (.rose LCd) (q (s,o,a.toNat,b)).1])))
 | _=>.no⟩
def pcE (n:Nat) (f:By->Nat->Int->Rose Lab×Nat×Int):LoopEnt:=⟨114,[0,1,4,5,6,7,8],[0,1,4,5],[],fun
 | ([.ptr 0 0,.j d,.ptr 1 0,.ptr 2 0,.s nm,.j no,.b mu],[some (.box [.s s,.j (a),.j (b)]),some (.box [.j 0,.s [],.j 0,.b false,.j 0,.ref 3 0 0]),some (.box [.j 5,.s [],.j 0,.b false,.j 0,.ref 4 0 m]),R0 (.rose LCd) [],R0 (.rose LCd) o])=>.need (decide ((0<=a/\a.toNat<=s.length/\s.length<=400/\-1<=b/\b<=1000)/\1<=n/\0<=d/\d<=1000/\(0<=b\/(s.length-a.toNat+3<=n/\d+(s.length-a.toNat:Nat)<=450))/\m=o.length/\o.length<=3000))
  (.br (!bdI (f s a.toNat b).2.2&&(nxt s (blA s (f s a.toNat b).2.1 (bdI (f s a.toNat b).2.2))==44)) (.leaf (.normal,([.ptr 0 0,.j d,.ptr 1 0,.ptr 2 0],[some (.box [.s s,.j (((mkP 44 s (blA s (f s a.toNat b).2.1 (bdI (f s a.toNat b).2.2)) (f s a.toNat b).2.2).1:Nat)),.j ((mkP 44 s (blA s (f s a.toNat b).2.1 (bdI (f s a.toNat b).2.2)) (f s a.toNat b).2.2).2)]),some (.box [.j 0,.s [],.j 0,.b false,.j 0,.ref 3 0 0]),some (.box [.j 5,.s [],.j 0,.b false,.j 0,.ref 4 0 (AE o (.node ((f s a.toNat b).1.lab.1,nm,no,mu,(f s a.toNat b).1.lab.2.2.2.2.1,()) (f s a.toNat b).1.kids)).length]),R0 (.rose LCd) [],R0 (.rose LCd) (AE o (.node ((f s a.toNat b).1.lab.1,nm,no,mu,(f s a.toNat b).1.lab.2.2.2.2.1,()) (f s a.toNat b).1.kids))]))) (.leaf (.exit 0,([.ptr 0 0,.j d,.ptr 1 0,.ptr 2 0],[some (.box [.s s,.j (((blA s (f s a.toNat b).2.1 (bdI (f s a.toNat b).2.2)):Nat)),.j ((f s a.toNat b).2.2)]),some (.box [.j 0,.s [],.j 0,.b false,.j 0,.ref 3 0 0]),some (.box [.j 5,.s [],.j 0,.b false,.j 0,.ref 4 0 (AE o (.node ((f s a.toNat b).1.lab.1,nm,no,mu,(f s a.toNat b).1.lab.2.2.2.2.1,()) (f s a.toNat b).1.kids)).length]),R0 (.rose LCd) [],R0 (.rose LCd) (AE o (.node ((f s a.toNat b).1.lab.1,nm,no,mu,(f s a.toNat b).1.lab.2.2.2.2.1,()) (f s a.toNat b).1.kids))]))))
 | _=>.no⟩
def pdE (n:Nat) (f:By->Nat->Int->Rose Lab×Nat×Int):LoopEnt:=⟨114,[0,1,4,5,6,7,8,9],[0,1,4,5],[],fun
 | ([.ptr 0 0,.j d,.ptr 1 0,.ptr 2 0,.s nm,.j no,.b mu,.b ap],[some (.box [.s s,.j (a),.j (b)]),some (.box [.j 0,.s [],.j 0,.b false,.j 0,.ref 3 0 0]),some (.box [.j 5,.s [],.j 0,.b false,.j 0,.ref 4 0 m]),R0 (.rose LCd) [],R0 (.rose LCd) o])=>.need (decide ((0<=a/\a.toNat<=s.length/\s.length<=400/\-1<=b/\b<=1000)/\1<=n/\0<=d/\d<=1000/\(0<=b\/(s.length-a.toNat+3<=n/\d+(s.length-a.toNat:Nat)<=450))/\m=o.length/\o.length<=3000))
  (.br (!bdI (f s a.toNat (flW s a.toNat b ap)).2.2&&(nxt s (blA s (f s a.toNat (flW s a.toNat b ap)).2.1 (bdI (f s a.toNat (flW s a.toNat b ap)).2.2))==44)) (.leaf (.normal,([.ptr 0 0,.j d,.ptr 1 0,.ptr 2 0],[some (.box [.s s,.j (((mkP 44 s (blA s (f s a.toNat (flW s a.toNat b ap)).2.1 (bdI (f s a.toNat (flW s a.toNat b ap)).2.2)) (f s a.toNat (flW s a.toNat b ap)).2.2).1:Nat)),.j ((mkP 44 s (blA s (f s a.toNat (flW s a.toNat b ap)).2.1 (bdI (f s a.toNat (flW s a.toNat b ap)).2.2)) (f s a.toNat (flW s a.toNat b ap)).2.2).2)]),some (.box [.j 0,.s [],.j 0,.b false,.j 0,.ref 3 0 0]),some (.box [.j 5,.s [],.j 0,.b false,.j 0,.ref 4 0 (AE o (.node ((f s a.toNat (flW s a.toNat b ap)).1.lab.1,nm,no,mu,(f s a.toNat (flW s a.toNat b ap)).1.lab.2.2.2.2.1,()) (f s a.toNat (flW s a.toNat b ap)).1.kids)).length]),R0 (.rose LCd) [],R0 (.rose LCd) (AE o (.node ((f s a.toNat (flW s a.toNat b ap)).1.lab.1,nm,no,mu,(f s a.toNat (flW s a.toNat b ap)).1.lab.2.2.2.2.1,()) (f s a.toNat (flW s a.toNat b ap)).1.kids))]))) (.leaf (.exit 0,([.ptr 0 0,.j d,.ptr 1 0,.ptr 2 0],[some (.box [.s s,.j (((blA s (f s a.toNat (flW s a.toNat b ap)).2.1 (bdI (f s a.toNat (flW s a.toNat b ap)).2.2)):Nat)),.j ((f s a.toNat (flW s a.toNat b ap)).2.2)]),some (.box [.j 0,.s [],.j 0,.b false,.j 0,.ref 3 0 0]),some (.box [.j 5,.s [],.j 0,.b false,.j 0,.ref 4 0 (AE o (.node ((f s a.toNat (flW s a.toNat b ap)).1.lab.1,nm,no,mu,(f s a.toNat (flW s a.toNat b ap)).1.lab.2.2.2.2.1,()) (f s a.toNat (flW s a.toNat b ap)).1.kids)).length]),R0 (.rose LCd) [],R0 (.rose LCd) (AE o (.node ((f s a.toNat (flW s a.toNat b ap)).1.lab.1,nm,no,mu,(f s a.toNat (flW s a.toNat b ap)).1.lab.2.2.2.2.1,()) (f s a.toNat (flW s a.toNat b ap)).1.kids))]))))
 | _=>.no⟩
theorem ND (n:Nat) (f:By->Nat->Int->Rose Lab×Nat×Int) (q:By×RL×Nat×Int->RL×Nat×Int) (s:By) (a b d:Int) (nm:By) (no:Int) (mu ap:Bool) (m:Nat) (o:RL):Dp prog (Ab [(26,.own qbG),(23,.rd1 qnG),(11,.own qfG),(22,.own qmP),(24,.own qwP),(25,.own quP),(27,.own (Ea n f)),(28,.rd1 pkG)]) (Ab [(6,qmE n q),(1000020,pcE n f),(1000017,pdE n f)]) 1 (Dh f10 1000017) (pdE n f) ([.ptr 0 0,.j d,.ptr 1 0,.ptr 2 0,.s nm,.j no,.b mu,.b ap],[some (.box [.s s,.j (a),.j (b)]),some (.box [.j 0,.s [],.j 0,.b false,.j 0,.ref 3 0 0]),some (.box [.j 5,.s [],.j 0,.b false,.j 0,.ref 4 0 m]),R0 (.rose LCd) [],R0 (.rose LCd) o]) =
 ((shr (Al LCd.rose.den) fun sh6=>shr (f s a.toNat b).2 fun sh5=>shr (f s a.toNat (flB a.toNat b)).2 fun sh4=>shr (AE o (Rose.node ((f s a.toNat b).1.lab.1,
 nm,no,mu,(f s a.toNat b).1.lab.2.2.2.2.1,()) (f s a.toNat b).1.kids)) fun sh3=>shr (AE o (Rose.node ((f s a.toNat (flB a.toNat b)).1.lab.1,nm,
 no,mu,(f s a.toNat (flB a.toNat b)).1.lab.2.2.2.2.1,()) (f s a.toNat (flB a.toNat b)).1.kids)) fun sh2=>shr (ifT (decide ((0<=a/\a.toNat<=s.length/\
 s.length<=400/\(-1:Int)<=b/\b<=1000)/\1<=n/\0<=d/\d<=1000/\(0<=b\/s.length-a.toNat+3<=n/\d+(↑(s.length-a.toNat):Int)<=
 (450:Int))/\m=o.length/\o.length<=3000)) (ifB (!bdI sh5.2&&nxt s (blA s sh5.1 (bdI sh5.2))==(44:UInt8)) (some (Ex.normal,[V.ptr 0 0,V.i .i64
 d,V.ptr 1 0,V.ptr 2 0],[some (Blk.box [V.s s,V.j (↑(mkP (44:UInt8) s (blA s sh5.1 (bdI sh5.2)) sh5.2).1:Int),V.j (mkP (44:UInt8) s (blA s
 sh5.1 (bdI sh5.2)) sh5.2).2]),some (Blk.box [V.j 0,V.s (Al UInt8),V.j 0,V.b false,V.j 0,V.ref 3 0 0]),some (Blk.box [V.j 5,V.s (Al
 UInt8),V.j 0,V.b false,V.j 0,V.ref 4 0 sh3.length]),R0 LCd.rose sh6,R0 LCd.rose sh3])) (some (Ex.exit 0,
 [V.ptr 0 0,V.j d,V.ptr 1 0,V.ptr 2 0],[some (Blk.box [V.s s,V.j (↑(blA s sh5.1 (bdI sh5.2)):Int),V.j sh5.2]),some (Blk.box [V.j 0,V.s
 (Al UInt8),V.j 0,V.b false,V.j 0,V.ref 3 0 0]),some (Blk.box [V.j 5,V.s (Al UInt8),V.j 0,V.b false,V.j 0,V.ref 4 0 sh3.length]),
 R0 LCd.rose sh6,R0 LCd.rose sh3])))) fun sh1=>ifT (decide (0<=a/\a.toNat<=s.length/\s.length<=400/\(-1 :
 Int)<=b/\b<=1000)) (ifB (!ap) (ifB (decide ((bif bdI b then (0:Int) else (↑(nxt s a.toNat).toNat:Int))>=(97:Int))) (ifB (decide ((bif bdI b then (0:Int) else
 (↑(nxt s a.toNat).toNat:Int))<=(122:Int))) (ifT (decide (0<=a/\a.toNat<=s.length/\s.length<=400/\(-1:Int)<=b/\b<=1000)) (ifT (decide ((0<=a/\
 a.toNat<=s.length/\s.length<=400/\(-1:Int)<=flB a.toNat b/\flB a.toNat b<=1000)/\1<=n/\0<=d/\d<=1000/\((0:Int)<=flB a.toNat b\/
 s.length-a.toNat+3<=n/\d+(↑(s.length-a.toNat):Int)<=(450:Int))/\m=o.length/\o.length<=3000)) (ifB (!bdI sh4.2&&nxt s (blA s
 sh4.1 (bdI sh4.2))==(44:UInt8)) (some (Ex.normal,[V.ptr 0 0,V.j d,V.ptr 1 0,V.ptr 2 0],[some (Blk.box [V.s s,V.j (↑(mkP (44:UInt8) s (blA s
 sh4.1 (bdI sh4.2)) sh4.2).1:Int),V.j (mkP (44:UInt8) s (blA s sh4.1 (bdI sh4.2)) sh4.2).2]),some (Blk.box [V.j 0,V.s (Al UInt8),V.i
 .i64 0,V.b false,V.j 0,V.ref 3 0 0]),some (Blk.box [V.j 5,V.s (Al UInt8),V.j 0,V.b false,V.j 0,V.ref 4 0 sh2.length]),R0 LCd.rose sh6,R0 LCd.rose sh2])) (some (Ex.exit 0,[V.ptr 0 0,V.j d,V.ptr 1 0,V.ptr 2 0],[some (Blk.box [V.s s,V.j (↑(blA s
 sh4.1 (bdI sh4.2)):Int),V.j sh4.2]),some (Blk.box [V.j 0,V.s (Al UInt8),V.j 0,V.b false,V.j 0,V.ref 3 0 0]),some (Blk.box [V.i .i64
 5,V.s (Al UInt8),V.j 0,V.b false,V.j 0,V.ref 4 0 sh2.length]),R0 LCd.rose sh6,R0 LCd.rose sh2]))))) sh1)
 sh1) sh1)):_):=by kernel_rfl
theorem NE (n:Nat) (f:By->Nat->Int->Rose Lab×Nat×Int) (q:By×RL×Nat×Int->RL×Nat×Int) (s:By) (a b d:Int) (nm:By) (no:Int) (mu:Bool) (m:Nat) (o:RL):Dp prog (Ab [(26,.own qbG),(23,.rd1 qnG),(11,.own qfG),(22,.own qmP),(24,.own qwP),(25,.own quP),(27,.own (Ea n f)),(28,.rd1 pkG)]) (Ab [(6,qmE n q),(1000020,pcE n f),(1000017,pdE n f)]) 1 (Dh f10 1000020) (pcE n f) ([.ptr 0 0,.j d,.ptr 1 0,.ptr 2 0,.s nm,.j no,.b mu],[some (.box [.s s,.j (a),.j (b)]),some (.box [.j 0,.s [],.j 0,.b false,.j 0,.ref 3 0 0]),some (.box [.j 5,.s [],.j 0,.b false,.j 0,.ref 4 0 m]),R0 (.rose LCd) [],R0 (.rose LCd) o]) =
 ((shr (f s a.toNat b).1 fun sh4=>shr (take m (drop 0 o)) fun sh3=>shr (AE sh3 (Rose.node (sh4.lab.1,nm,no,mu,sh4.lab.2.2.2.2.1,())
 (take sh4.kids.length (drop 0 sh4.kids)))) fun sh2=>shr (f s a.toNat b).2 fun sh1=>ifT (decide ((0<=a/\a.toNat<=s.length/\s.length<=(400 :
 Nat)/\(-1:Int)<=b/\b<=1000)/\1<=n/\0<=d/\d<=1000/\(0<=b\/s.length-a.toNat+3<=n/\d+(↑(s.length-a.toNat):Int)<=(450:Int))))
 (ifT (decide (sh3.length<=1000000)) (ifT (decide (0<=(↑sh1.1:Int)/\(↑sh1.1:Int).toNat<=s.length/\s.length<=400/\(-1:Int)<=sh1.2/\
 sh1.2<=(1000:Int))) (ifT (decide (0<=(↑(blA s (↑sh1.1:Int).toNat (bdI sh1.2)):Int)/\(↑(blA s (↑sh1.1:Int).toNat (bdI sh1.2)):Int).toNat<=s.length
 /\ s.length<=400/\(-1:Int)<=sh1.2/\sh1.2<=(1000:Int))) (ifB ((bif bdI sh1.2 then (0:Int) else (↑(nxt s (↑(blA s (↑sh1.1:Int).toNat (bdI
 sh1.2)):Int).toNat).toNat:Int)) != (44:Int)) (some (Ex.exit 0,[V.ptr 0 0,V.j d,V.ptr 1 0,V.ptr 2 0],[some (Blk.box [V.s s,V.j (↑(blA s (↑sh1.1 :
 Int).toNat (bdI sh1.2)):Int),V.j sh1.2]),some (Blk.box [V.j 0,V.s (Al UInt8),V.j 0,V.b false,V.j 0,V.ref 3 0 0]),some (Blk.box [V.i
 .i64 5,V.s (Al UInt8),V.j 0,V.b false,V.j 0,V.ref 4 0 sh2.length]),R0 LCd.rose (Al LCd.rose.den),R0 LCd.rose sh2])) (ifT (decide (0<=(↑(blA s (↑sh1.1:Int).toNat (bdI sh1.2)):Int)/\(↑(blA s (↑sh1.1:Int).toNat (bdI sh1.2)):Int).toNat<=s.length/\
 s.length<=400/\(-1:Int)<=sh1.2/\sh1.2<=(1000:Int)/\(0:Int)<(44:Int)/\(44:Int)<(256:Int))) (some (Ex.normal,[V.ptr 0 0,V.j d,
 V.ptr 1 0,V.ptr 2 0],[some (Blk.box [V.s s,V.j (↑(mkP (UInt8.ofNat 44) s (↑(blA s (↑sh1.1:Int).toNat (bdI sh1.2)):Int).toNat sh1.2).1:Int),
 V.j (mkP (UInt8.ofNat 44) s (↑(blA s (↑sh1.1:Int).toNat (bdI sh1.2)):Int).toNat sh1.2).2]),some (Blk.box [V.j 0,V.s (Al UInt8),V.i .i64
 0,V.b false,V.j 0,V.ref 3 0 0]),some (Blk.box [V.j 5,V.s (Al UInt8),V.j 0,V.b false,V.j 0,V.ref 4 0 sh2.length]),R0 LCd.rose (Al LCd.rose.den),R0 LCd.rose sh2])))))))):_):=by kernel_rfl
theorem HI (n:Nat) (f:By->Nat->Int->Rose Lab×Nat×Int) (q:By×RL×Nat×Int->RL×Nat×Int) (s:By) (a b d:Int) (m:Nat) (o:RL):AG prog (Ab [(26,.own qbG),(23,.rd1 qnG),(11,.own qfG),(22,.own qmP),(24,.own qwP),(25,.own quP),(27,.own (Ea n f)),(28,.rd1 pkG)]) (Ab [(6,qmE n q),(1000020,pcE n f),(1000017,pdE n f)]) 1 (body f10 0) (qmE n q) ([.ptr 0 0,.j d,.ptr 1 0,.ptr 2 0],[some (.box [.s s,.j (a),.j (b)]),some (.box [.j 0,.s [],.j 0,.b false,.j 0,.ref 3 0 0]),some (.box [.j 5,.s [],.j 0,.b false,.j 0,.ref 4 0 m]),R0 (.rose LCd) [],R0 (.rose LCd) o]) =
 ((shr (Al LCd.rose.den) fun sh5=>shr (wdP s a.toNat b).1 fun sh4=>shr (wdP s a.toNat b).2 fun sh3=>shr (mkP (UInt8.ofNat 58) s (↑sh3.1:Int).toNat
 sh3.2) fun sh2=>shr (nrP s (↑sh2.1:Int).toNat sh2.2).2 fun sh1=>ifB (decide (b<0)) (ifT (decide (0<=a/\a.toNat<=s.length/\s.length<=400/\(-1
 : Int)<=b/\b<=1000/\(10:Int)=(10:Int))) (ifT (decide (0<=(↑sh3.1:Int)/\(↑sh3.1:Int).toNat<=s.length/\s.length<=400/\(-1:Int)<=sh3.2/\
 sh3.2<=(1000:Int)/\(0:Int)<(58:Int)/\(58:Int)<(256:Int))) (ifT (decide (0<=(↑sh2.1:Int)/\(↑sh2.1:Int).toNat<=s.length/\s.length<=(400 :
 Nat)/\(-1:Int)<=sh2.2/\sh2.2<=(1000:Int))) (ifT (decide (0<=(↑sh1.1:Int)/\(↑sh1.1:Int).toNat<=s.length/\s.length<=400/\(-1:Int)<=
 sh1.2/\sh1.2<=(1000:Int))) (ifB ((bif bdI sh1.2 then (0:Int) else (↑(nxt s (↑sh1.1:Int).toNat).toNat:Int))==(32:Int)) (ifT (decide (0<=(↑sh1.1 :
 Int)/\(↑sh1.1:Int).toNat<=s.length/\s.length<=400/\(-1:Int)<=sh1.2/\sh1.2<=(1000:Int))) (ifT (decide (0<=(↑(blA s (↑sh1.1:Int).toNat (bdI
 sh1.2)):Int)/\(↑(blA s (↑sh1.1:Int).toNat (bdI sh1.2)):Int).toNat<=s.length/\s.length<=400/\(-1:Int)<=sh1.2/\sh1.2<=(1000:Int))) (ifB
 ((bif bdI sh1.2 then (0:Int) else (↑(nxt s (↑(blA s (↑sh1.1:Int).toNat (bdI sh1.2)):Int).toNat).toNat:Int))==(33:Int)) (ifT (decide (0<=(↑(blA s
 (↑sh1.1:Int).toNat (bdI sh1.2)):Int)/\(↑(blA s (↑sh1.1:Int).toNat (bdI sh1.2)):Int).toNat<=s.length/\s.length<=400/\(-1:Int)<=sh1.2/\
 sh1.2<=(1000:Int)/\(0:Int)<(33:Int)/\(33:Int)<(256:Int))) (ifB (decide ((mkP (UInt8.ofNat 33) s (↑(blA s (↑sh1.1:Int).toNat (bdI sh1.2))
 : Int).toNat sh1.2).2<(0:Int))) (ifT (decide (0<=i64.wrap ((↑(mkP (UInt8.ofNat 33) s (↑(blA s (↑sh1.1:Int).toNat (bdI sh1.2)):Int).toNat
 sh1.2).1:Int)-(1:Int)))) (Ap s[(i64.wrap ((↑(mkP (UInt8.ofNat 33) s (↑(blA s (↑sh1.1:Int).toNat (bdI sh1.2)):Int).toNat sh1.2).1
 : Int)-(1:Int))).toNat]? fun z=>shr sh4 fun sh4=>shr sh5 fun sh3=>shr sh2 fun sh2=>shr (mkP (UInt8.ofNat 33) s (↑(blA s (↑(nrP s (↑sh2.1 :
 Int).toNat sh2.2).2.1:Int).toNat (bdI (nrP s (↑sh2.1:Int).toNat sh2.2).2.2)):Int).toNat (nrP s (↑sh2.1:Int).toNat sh2.2).2.2) fun sh1=>ifB
 ((↑z.toNat:Int)==(32:Int)) (ifT (decide ((0<=(↑sh1.1:Int)/\(↑sh1.1:Int).toNat<=s.length/\s.length<=400/\(-1:Int)<=sh1.2/\sh1.2<=(1000
 : Int))/\1<=n/\0<=d/\d<=1000/\((0:Int)<=sh1.2\/s.length-(↑sh1.1:Int).toNat+3<=n/\d+(↑(s.length-(↑sh1.1:Int).toNat):Int)<=
 (450:Int))/\m=o.length/\o.length<=3000)) (ifB (!bdI (f s (↑sh1.1:Int).toNat (flW s (↑sh1.1:Int).toNat sh1.2 true)).2.2&&nxt s (blA s (f s
 (↑sh1.1:Int).toNat (flW s (↑sh1.1:Int).toNat sh1.2 true)).2.1 (bdI (f s (↑sh1.1:Int).toNat (flW s (↑sh1.1:Int).toNat sh1.2 true)).2.2))==(44
 : UInt8)) (some (Ex.normal,[V.ptr 0 0,V.j d,V.ptr 1 0,V.ptr 2 0],[some (Blk.box [V.s s,V.j (↑(mkP (44:UInt8) s (blA s (f s (↑sh1.1:Int).toNat (flW s
 (↑sh1.1:Int).toNat sh1.2 true)).2.1 (bdI (f s (↑sh1.1:Int).toNat (flW s (↑sh1.1:Int).toNat sh1.2 true)).2.2)) (f s (↑sh1.1:Int).toNat (flW s
 (↑sh1.1:Int).toNat sh1.2 true)).2.2).1:Int),V.j (mkP (44:UInt8) s (blA s (f s (↑sh1.1:Int).toNat (flW s (↑sh1.1:Int).toNat sh1.2
 true)).2.1 (bdI (f s (↑sh1.1:Int).toNat (flW s (↑sh1.1:Int).toNat sh1.2 true)).2.2)) (f s (↑sh1.1:Int).toNat (flW s (↑sh1.1:Int).toNat sh1.2
 true)).2.2).2]),some (Blk.box [V.j 0,V.s (Al UInt8),V.j 0,V.b false,V.j 0,V.ref 3 0 0]),some (Blk.box [V.j 5,V.s (Al UInt8),V.i
 .i64 0,V.b false,V.j 0,V.ref 4 0 (AE o (Rose.node ((f s (↑sh1.1:Int).toNat (flW s (↑sh1.1:Int).toNat sh1.2 true)).1.lab.1,sh4,(↑(nrP s (↑sh2.1
 : Int).toNat sh2.2).1:Int),true,(f s (↑sh1.1:Int).toNat (flW s (↑sh1.1:Int).toNat sh1.2 true)).1.lab.2.2.2.2.1,()) (f s (↑sh1.1 :
 Int).toNat (flW s (↑sh1.1:Int).toNat sh1.2 true)).1.kids)).length]),R0 LCd.rose sh3,R0 LCd.rose (AE o (Rose.node
 ((f s (↑sh1.1:Int).toNat (flW s (↑sh1.1:Int).toNat sh1.2 true)).1.lab.1,sh4,(↑(nrP s (↑sh2.1:Int).toNat sh2.2).1:Int),true,(f s (↑sh1.1 :
 Int).toNat (flW s (↑sh1.1:Int).toNat sh1.2 true)).1.lab.2.2.2.2.1,()) (f s (↑sh1.1:Int).toNat (flW s (↑sh1.1:Int).toNat sh1.2
 true)).1.kids))])) (some (Ex.exit 0,[V.ptr 0 0,V.ptr 1 0,V.ptr 2 0],[some (Blk.box [V.s s,V.j (↑(blA s (f s (↑sh1.1:Int).toNat (flW s (↑sh1.1 :
 Int).toNat sh1.2 true)).2.1 (bdI (f s (↑sh1.1:Int).toNat (flW s (↑sh1.1:Int).toNat sh1.2 true)).2.2)):Int),V.j (f s (↑sh1.1:Int).toNat
 (flW s (↑sh1.1:Int).toNat sh1.2 true)).2.2]),some (Blk.box [V.j 0,V.s (Al UInt8),V.j 0,V.b false,V.j 0,V.ref 3 0 0]),some (Blk.box [V.i
 .i64 5,V.s (Al UInt8),V.j 0,V.b false,V.j 0,V.ref 4 0 (AE o (Rose.node ((f s (↑sh1.1:Int).toNat (flW s (↑sh1.1:Int).toNat sh1.2
 true)).1.lab.1,sh4,(↑(nrP s (↑sh2.1:Int).toNat sh2.2).1:Int),true,(f s (↑sh1.1:Int).toNat (flW s (↑sh1.1:Int).toNat sh1.2
 true)).1.lab.2.2.2.2.1,()) (f s (↑sh1.1:Int).toNat (flW s (↑sh1.1:Int).toNat sh1.2 true)).1.kids)).length]),R0 LCd.rose
 sh3,R0 LCd.rose (AE o (Rose.node ((f s (↑sh1.1:Int).toNat (flW s (↑sh1.1:Int).toNat sh1.2 true)).1.lab.1,sh4,(↑(nrP s (↑sh2.1
 : Int).toNat sh2.2).1:Int),true,(f s (↑sh1.1:Int).toNat (flW s (↑sh1.1:Int).toNat sh1.2 true)).1.lab.2.2.2.2.1,()) (f s (↑sh1.1 :
 Int).toNat (flW s (↑sh1.1:Int).toNat sh1.2 true)).1.kids))])))) (ifT (decide (0<=i64.wrap ((↑sh1.1:Int)-(1:Int)))) (Ap s[(i64.wrap
 ((↑sh1.1:Int)-(1:Int))).toNat]? fun z=>shr sh4 fun sh4=>shr sh2 fun sh3_1=>shr (nrP s (↑sh3_1.1:Int).toNat sh3_1.2) fun sh2=>shr (mkP (UInt8.ofNat
 33) s (↑(blA s (↑sh2.2.1:Int).toNat (bdI sh2.2.2)):Int).toNat sh2.2.2) fun sh1=>ifT (decide ((0<=(↑sh1.1:Int)/\(↑sh1.1:Int).toNat<=
 s.length/\s.length<=400/\(-1:Int)<=sh1.2/\sh1.2<=(1000:Int))/\1<=n/\0<=d/\d<=1000/\((0:Int)<=sh1.2\/s.length-(↑sh1.1 :
 Int).toNat+3<=n/\d+(↑(s.length-(↑sh1.1:Int).toNat):Int)<=(450:Int))/\m=o.length/\o.length<=3000)) (ifB (!bdI (f s (↑sh1.1 :
 Int).toNat (flW s (↑sh1.1:Int).toNat sh1.2 ((↑z.toNat:Int)==(10:Int)))).2.2&&nxt s (blA s (f s (↑sh1.1:Int).toNat (flW s (↑sh1.1:Int).toNat
 sh1.2 ((↑z.toNat:Int)==(10:Int)))).2.1 (bdI (f s (↑sh1.1:Int).toNat (flW s (↑sh1.1:Int).toNat sh1.2 ((↑z.toNat:Int)==(10:Int)))).2.2))==
 (44:UInt8)) (some (Ex.normal,[V.ptr 0 0,V.j d,V.ptr 1 0,V.ptr 2 0],[some (Blk.box [V.s s,V.j (↑(mkP (44:UInt8) s (blA s (f s (↑sh1.1:Int).toNat
 (flW s (↑sh1.1:Int).toNat sh1.2 ((↑z.toNat:Int)==(10:Int)))).2.1 (bdI (f s (↑sh1.1:Int).toNat (flW s (↑sh1.1:Int).toNat sh1.2 ((↑z.toNat:Int)
 == (10:Int)))).2.2)) (f s (↑sh1.1:Int).toNat (flW s (↑sh1.1:Int).toNat sh1.2 ((↑z.toNat:Int)==(10:Int)))).2.2).1:Int),V.j (mkP (44 :
 UInt8) s (blA s (f s (↑sh1.1:Int).toNat (flW s (↑sh1.1:Int).toNat sh1.2 ((↑z.toNat:Int)==(10:Int)))).2.1 (bdI (f s (↑sh1.1:Int).toNat (flW s
 (↑sh1.1:Int).toNat sh1.2 ((↑z.toNat:Int)==(10:Int)))).2.2)) (f s (↑sh1.1:Int).toNat (flW s (↑sh1.1:Int).toNat sh1.2 ((↑z.toNat:Int)==(10 :
 Int)))).2.2).2]),some (Blk.box [V.j 0,V.s (Al UInt8),V.j 0,V.b false,V.j 0,V.ref 3 0 0]),some (Blk.box [V.j 5,V.s (Al UInt8),V.i
 .i64 0,V.b false,V.j 0,V.ref 4 0 (AE o (Rose.node ((f s (↑sh1.1:Int).toNat (flW s (↑sh1.1:Int).toNat sh1.2 ((↑z.toNat:Int)==(10 :
 Int)))).1.lab.1,sh4,(↑sh2.1:Int),true,(f s (↑sh1.1:Int).toNat (flW s (↑sh1.1:Int).toNat sh1.2 ((↑z.toNat:Int)==(10 :
 Int)))).1.lab.2.2.2.2.1,()) (f s (↑sh1.1:Int).toNat (flW s (↑sh1.1:Int).toNat sh1.2 ((↑z.toNat:Int)==(10:Int)))).1.kids)).length]),R0 LCd.rose sh3,R0 LCd.rose (AE o (Rose.node ((f s (↑sh1.1:Int).toNat (flW s (↑sh1.1:Int).toNat sh1.2 ((↑z.toNat :
 Int)==(10:Int)))).1.lab.1,sh4,(↑sh2.1:Int),true,(f s (↑sh1.1:Int).toNat (flW s (↑sh1.1:Int).toNat sh1.2 ((↑z.toNat:Int)==(10 :
 Int)))).1.lab.2.2.2.2.1,()) (f s (↑sh1.1:Int).toNat (flW s (↑sh1.1:Int).toNat sh1.2 ((↑z.toNat:Int)==(10:Int)))).1.kids))])) (some
 (Ex.exit 0,[V.ptr 0 0,V.ptr 1 0,V.ptr 2 0],[some (Blk.box [V.s s,V.j (↑(blA s (f s (↑sh1.1:Int).toNat (flW s (↑sh1.1:Int).toNat sh1.2 ((↑z.toNat :
 Int)==(10:Int)))).2.1 (bdI (f s (↑sh1.1:Int).toNat (flW s (↑sh1.1:Int).toNat sh1.2 ((↑z.toNat:Int)==(10:Int)))).2.2)):Int),V.j (f s
 (↑sh1.1:Int).toNat (flW s (↑sh1.1:Int).toNat sh1.2 ((↑z.toNat:Int)==(10:Int)))).2.2]),some (Blk.box [V.j 0,V.s (Al UInt8),V.j 0,V.b
 false,V.j 0,V.ref 3 0 0]),some (Blk.box [V.j 5,V.s (Al UInt8),V.j 0,V.b false,V.j 0,V.ref 4 0 (AE o (Rose.node ((f s (↑sh1.1 :
 Int).toNat (flW s (↑sh1.1:Int).toNat sh1.2 ((↑z.toNat:Int)==(10:Int)))).1.lab.1,sh4,(↑sh2.1:Int),true,(f s (↑sh1.1:Int).toNat (flW s (↑sh1.1
 : Int).toNat sh1.2 ((↑z.toNat:Int)==(10:Int)))).1.lab.2.2.2.2.1,()) (f s (↑sh1.1:Int).toNat (flW s (↑sh1.1:Int).toNat sh1.2 ((↑z.toNat :
 Int)==(10:Int)))).1.kids)).length]),R0 LCd.rose sh3,R0 LCd.rose (AE o (Rose.node ((f s (↑sh1.1:Int).toNat (flW
 s (↑sh1.1:Int).toNat sh1.2 ((↑z.toNat:Int)==(10:Int)))).1.lab.1,sh4,(↑sh2.1:Int),true,(f s (↑sh1.1:Int).toNat (flW s (↑sh1.1:Int).toNat
 sh1.2 ((↑z.toNat:Int)==(10:Int)))).1.lab.2.2.2.2.1,()) (f s (↑sh1.1:Int).toNat (flW s (↑sh1.1:Int).toNat sh1.2 ((↑z.toNat:Int)==(10 :
 Int)))).1.kids))]))))))) (ifT (decide ((0<=(↑(mkP (UInt8.ofNat 33) s (↑(blA s (↑sh1.1:Int).toNat (bdI sh1.2)):Int).toNat sh1.2).1:Int)/\(↑(mkP
 (UInt8.ofNat 33) s (↑(blA s (↑sh1.1:Int).toNat (bdI sh1.2)):Int).toNat sh1.2).1:Int).toNat<=s.length/\s.length<=400/\(-1:Int)<=(mkP
 (UInt8.ofNat 33) s (↑(blA s (↑sh1.1:Int).toNat (bdI sh1.2)):Int).toNat sh1.2).2/\(mkP (UInt8.ofNat 33) s (↑(blA s (↑sh1.1:Int).toNat (bdI
 sh1.2)):Int).toNat sh1.2).2<=(1000:Int))/\1<=n/\0<=d/\d<=1000/\((0:Int)<=(mkP (UInt8.ofNat 33) s (↑(blA s (↑sh1.1:Int).toNat (bdI
 sh1.2)):Int).toNat sh1.2).2\/s.length-(↑(mkP (UInt8.ofNat 33) s (↑(blA s (↑sh1.1:Int).toNat (bdI sh1.2)):Int).toNat sh1.2).1:Int).toNat +
 3<=n/\d+(↑(s.length-(↑(mkP (UInt8.ofNat 33) s (↑(blA s (↑sh1.1:Int).toNat (bdI sh1.2)):Int).toNat sh1.2).1:Int).toNat):Int)<=(450 :
 Int))/\m=o.length/\o.length<=3000)) (ifB (!bdI (f s (↑(mkP (UInt8.ofNat 33) s (↑(blA s (↑sh1.1:Int).toNat (bdI sh1.2)):Int).toNat
 sh1.2).1:Int).toNat (flW s (↑(mkP (UInt8.ofNat 33) s (↑(blA s (↑sh1.1:Int).toNat (bdI sh1.2)):Int).toNat sh1.2).1:Int).toNat (mkP (UInt8.ofNat
 33) s (↑(blA s (↑sh1.1:Int).toNat (bdI sh1.2)):Int).toNat sh1.2).2 false)).2.2&&nxt s (blA s (f s (↑(mkP (UInt8.ofNat 33) s (↑(blA s
 (↑sh1.1:Int).toNat (bdI sh1.2)):Int).toNat sh1.2).1:Int).toNat (flW s (↑(mkP (UInt8.ofNat 33) s (↑(blA s (↑sh1.1:Int).toNat (bdI sh1.2)) :
 Int).toNat sh1.2).1:Int).toNat (mkP (UInt8.ofNat 33) s (↑(blA s (↑sh1.1:Int).toNat (bdI sh1.2)):Int).toNat sh1.2).2 false)).2.1 (bdI (f s
 (↑(mkP (UInt8.ofNat 33) s (↑(blA s (↑sh1.1:Int).toNat (bdI sh1.2)):Int).toNat sh1.2).1:Int).toNat (flW s (↑(mkP (UInt8.ofNat 33) s (↑(blA s
 (↑sh1.1:Int).toNat (bdI sh1.2)):Int).toNat sh1.2).1:Int).toNat (mkP (UInt8.ofNat 33) s (↑(blA s (↑sh1.1:Int).toNat (bdI sh1.2)):Int).toNat
 sh1.2).2 false)).2.2))==(44:UInt8)) (some (Ex.normal,[V.ptr 0 0,V.j d,V.ptr 1 0,V.ptr 2 0],[some (Blk.box [V.s s,V.j (↑(mkP (44:UInt8) s
 (blA s (f s (↑(mkP (UInt8.ofNat 33) s (↑(blA s (↑sh1.1:Int).toNat (bdI sh1.2)):Int).toNat sh1.2).1:Int).toNat (flW s (↑(mkP (UInt8.ofNat 33)
 s (↑(blA s (↑sh1.1:Int).toNat (bdI sh1.2)):Int).toNat sh1.2).1:Int).toNat (mkP (UInt8.ofNat 33) s (↑(blA s (↑sh1.1:Int).toNat (bdI sh1.2)) :
 Int).toNat sh1.2).2 false)).2.1 (bdI (f s (↑(mkP (UInt8.ofNat 33) s (↑(blA s (↑sh1.1:Int).toNat (bdI sh1.2)):Int).toNat sh1.2).1:Int).toNat
 (flW s (↑(mkP (UInt8.ofNat 33) s (↑(blA s (↑sh1.1:Int).toNat (bdI sh1.2)):Int).toNat sh1.2).1:Int).toNat (mkP (UInt8.ofNat 33) s (↑(blA s
 (↑sh1.1:Int).toNat (bdI sh1.2)):Int).toNat sh1.2).2 false)).2.2)) (f s (↑(mkP (UInt8.ofNat 33) s (↑(blA s (↑sh1.1:Int).toNat (bdI sh1.2)) :
 Int).toNat sh1.2).1:Int).toNat (flW s (↑(mkP (UInt8.ofNat 33) s (↑(blA s (↑sh1.1:Int).toNat (bdI sh1.2)):Int).toNat sh1.2).1:Int).toNat (mkP
 (UInt8.ofNat 33) s (↑(blA s (↑sh1.1:Int).toNat (bdI sh1.2)):Int).toNat sh1.2).2 false)).2.2).1:Int),V.j (mkP (44:UInt8) s (blA s (f s
 (↑(mkP (UInt8.ofNat 33) s (↑(blA s (↑sh1.1:Int).toNat (bdI sh1.2)):Int).toNat sh1.2).1:Int).toNat (flW s (↑(mkP (UInt8.ofNat 33) s (↑(blA s
 (↑sh1.1:Int).toNat (bdI sh1.2)):Int).toNat sh1.2).1:Int).toNat (mkP (UInt8.ofNat 33) s (↑(blA s (↑sh1.1:Int).toNat (bdI sh1.2)):Int).toNat
 sh1.2).2 false)).2.1 (bdI (f s (↑(mkP (UInt8.ofNat 33) s (↑(blA s (↑sh1.1:Int).toNat (bdI sh1.2)):Int).toNat sh1.2).1:Int).toNat (flW s
 (↑(mkP (UInt8.ofNat 33) s (↑(blA s (↑sh1.1:Int).toNat (bdI sh1.2)):Int).toNat sh1.2).1:Int).toNat (mkP (UInt8.ofNat 33) s (↑(blA s (↑sh1.1
 : Int).toNat (bdI sh1.2)):Int).toNat sh1.2).2 false)).2.2)) (f s (↑(mkP (UInt8.ofNat 33) s (↑(blA s (↑sh1.1:Int).toNat (bdI sh1.2)):Int).toNat
 sh1.2).1:Int).toNat (flW s (↑(mkP (UInt8.ofNat 33) s (↑(blA s (↑sh1.1:Int).toNat (bdI sh1.2)):Int).toNat sh1.2).1:Int).toNat (mkP (UInt8.ofNat
 33) s (↑(blA s (↑sh1.1:Int).toNat (bdI sh1.2)):Int).toNat sh1.2).2 false)).2.2).2]),some (Blk.box [V.j 0,V.s (Al UInt8),V.j 0,
 V.b false,V.j 0,V.ref 3 0 0]),some (Blk.box [V.j 5,V.s (Al UInt8),V.j 0,V.b false,V.j 0,V.ref 4 0 (AE o (Rose.node ((f s (↑(mkP
 (UInt8.ofNat 33) s (↑(blA s (↑sh1.1:Int).toNat (bdI sh1.2)):Int).toNat sh1.2).1:Int).toNat (flW s (↑(mkP (UInt8.ofNat 33) s (↑(blA s
 (↑sh1.1:Int).toNat (bdI sh1.2)):Int).toNat sh1.2).1:Int).toNat (mkP (UInt8.ofNat 33) s (↑(blA s (↑sh1.1:Int).toNat (bdI sh1.2)):Int).toNat
 sh1.2).2 false)).1.lab.1,sh4,(↑(nrP s (↑sh2.1:Int).toNat sh2.2).1:Int),true,(f s (↑(mkP (UInt8.ofNat 33) s (↑(blA s (↑sh1.1:Int).toNat
 (bdI sh1.2)):Int).toNat sh1.2).1:Int).toNat (flW s (↑(mkP (UInt8.ofNat 33) s (↑(blA s (↑sh1.1:Int).toNat (bdI sh1.2)):Int).toNat sh1.2).1 :
 Int).toNat (mkP (UInt8.ofNat 33) s (↑(blA s (↑sh1.1:Int).toNat (bdI sh1.2)):Int).toNat sh1.2).2 false)).1.lab.2.2.2.2.1,()) (f s (↑(mkP
 (UInt8.ofNat 33) s (↑(blA s (↑sh1.1:Int).toNat (bdI sh1.2)):Int).toNat sh1.2).1:Int).toNat (flW s (↑(mkP (UInt8.ofNat 33) s (↑(blA s
 (↑sh1.1:Int).toNat (bdI sh1.2)):Int).toNat sh1.2).1:Int).toNat (mkP (UInt8.ofNat 33) s (↑(blA s (↑sh1.1:Int).toNat (bdI sh1.2)):Int).toNat
 sh1.2).2 false)).1.kids)).length]),R0 LCd.rose sh5,R0 LCd.rose (AE o (Rose.node ((f s (↑(mkP (UInt8.ofNat (33 :
 Nat)) s (↑(blA s (↑sh1.1:Int).toNat (bdI sh1.2)):Int).toNat sh1.2).1:Int).toNat (flW s (↑(mkP (UInt8.ofNat 33) s (↑(blA s (↑sh1.1:Int).toNat
 (bdI sh1.2)):Int).toNat sh1.2).1:Int).toNat (mkP (UInt8.ofNat 33) s (↑(blA s (↑sh1.1:Int).toNat (bdI sh1.2)):Int).toNat sh1.2).2
 false)).1.lab.1,sh4,(↑(nrP s (↑sh2.1:Int).toNat sh2.2).1:Int),true,(f s (↑(mkP (UInt8.ofNat 33) s (↑(blA s (↑sh1.1:Int).toNat (bdI sh1.2))
 : Int).toNat sh1.2).1:Int).toNat (flW s (↑(mkP (UInt8.ofNat 33) s (↑(blA s (↑sh1.1:Int).toNat (bdI sh1.2)):Int).toNat sh1.2).1:Int).toNat (mkP
 (UInt8.ofNat 33) s (↑(blA s (↑sh1.1:Int).toNat (bdI sh1.2)):Int).toNat sh1.2).2 false)).1.lab.2.2.2.2.1,()) (f s (↑(mkP (UInt8.ofNat (33
 : Nat)) s (↑(blA s (↑sh1.1:Int).toNat (bdI sh1.2)):Int).toNat sh1.2).1:Int).toNat (flW s (↑(mkP (UInt8.ofNat 33) s (↑(blA s (↑sh1.1:Int).toNat
 (bdI sh1.2)):Int).toNat sh1.2).1:Int).toNat (mkP (UInt8.ofNat 33) s (↑(blA s (↑sh1.1:Int).toNat (bdI sh1.2)):Int).toNat sh1.2).2
 false)).1.kids))])) (some (Ex.exit 0,[V.ptr 0 0,V.ptr 1 0,V.ptr 2 0],[some (Blk.box [V.s s,V.j (↑(blA s (f s (↑(mkP (UInt8.ofNat 33) s (↑(blA s
 (↑sh1.1:Int).toNat (bdI sh1.2)):Int).toNat sh1.2).1:Int).toNat (flW s (↑(mkP (UInt8.ofNat 33) s (↑(blA s (↑sh1.1:Int).toNat (bdI sh1.2)) :
 Int).toNat sh1.2).1:Int).toNat (mkP (UInt8.ofNat 33) s (↑(blA s (↑sh1.1:Int).toNat (bdI sh1.2)):Int).toNat sh1.2).2 false)).2.1 (bdI (f s
 (↑(mkP (UInt8.ofNat 33) s (↑(blA s (↑sh1.1:Int).toNat (bdI sh1.2)):Int).toNat sh1.2).1:Int).toNat (flW s (↑(mkP (UInt8.ofNat 33) s (↑(blA s
 (↑sh1.1:Int).toNat (bdI sh1.2)):Int).toNat sh1.2).1:Int).toNat (mkP (UInt8.ofNat 33) s (↑(blA s (↑sh1.1:Int).toNat (bdI sh1.2)):Int).toNat
 sh1.2).2 false)).2.2)):Int),V.j (f s (↑(mkP (UInt8.ofNat 33) s (↑(blA s (↑sh1.1:Int).toNat (bdI sh1.2)):Int).toNat sh1.2).1 :
 Int).toNat (flW s (↑(mkP (UInt8.ofNat 33) s (↑(blA s (↑sh1.1:Int).toNat (bdI sh1.2)):Int).toNat sh1.2).1:Int).toNat (mkP (UInt8.ofNat 33) s
 (↑(blA s (↑sh1.1:Int).toNat (bdI sh1.2)):Int).toNat sh1.2).2 false)).2.2]),some (Blk.box [V.j 0,V.s (Al UInt8),V.j 0,V.b false,V.i .i64
 0,V.ref 3 0 0]),some (Blk.box [V.j 5,V.s (Al UInt8),V.j 0,V.b false,V.j 0,V.ref 4 0 (AE o (Rose.node ((f s (↑(mkP (UInt8.ofNat 33) s
 (↑(blA s (↑sh1.1:Int).toNat (bdI sh1.2)):Int).toNat sh1.2).1:Int).toNat (flW s (↑(mkP (UInt8.ofNat 33) s (↑(blA s (↑sh1.1:Int).toNat (bdI
 sh1.2)):Int).toNat sh1.2).1:Int).toNat (mkP (UInt8.ofNat 33) s (↑(blA s (↑sh1.1:Int).toNat (bdI sh1.2)):Int).toNat sh1.2).2
 false)).1.lab.1,sh4,(↑(nrP s (↑sh2.1:Int).toNat sh2.2).1:Int),true,(f s (↑(mkP (UInt8.ofNat 33) s (↑(blA s (↑sh1.1:Int).toNat (bdI sh1.2))
 : Int).toNat sh1.2).1:Int).toNat (flW s (↑(mkP (UInt8.ofNat 33) s (↑(blA s (↑sh1.1:Int).toNat (bdI sh1.2)):Int).toNat sh1.2).1:Int).toNat (mkP
 (UInt8.ofNat 33) s (↑(blA s (↑sh1.1:Int).toNat (bdI sh1.2)):Int).toNat sh1.2).2 false)).1.lab.2.2.2.2.1,()) (f s (↑(mkP (UInt8.ofNat (33
 : Nat)) s (↑(blA s (↑sh1.1:Int).toNat (bdI sh1.2)):Int).toNat sh1.2).1:Int).toNat (flW s (↑(mkP (UInt8.ofNat 33) s (↑(blA s (↑sh1.1:Int).toNat
 (bdI sh1.2)):Int).toNat sh1.2).1:Int).toNat (mkP (UInt8.ofNat 33) s (↑(blA s (↑sh1.1:Int).toNat (bdI sh1.2)):Int).toNat sh1.2).2
 false)).1.kids)).length]),R0 LCd.rose sh5,R0 LCd.rose (AE o (Rose.node ((f s (↑(mkP (UInt8.ofNat 33) s (↑(blA s
 (↑sh1.1:Int).toNat (bdI sh1.2)):Int).toNat sh1.2).1:Int).toNat (flW s (↑(mkP (UInt8.ofNat 33) s (↑(blA s (↑sh1.1:Int).toNat (bdI sh1.2)) :
 Int).toNat sh1.2).1:Int).toNat (mkP (UInt8.ofNat 33) s (↑(blA s (↑sh1.1:Int).toNat (bdI sh1.2)):Int).toNat sh1.2).2 false)).1.lab.1,sh4,
 (↑(nrP s (↑sh2.1:Int).toNat sh2.2).1:Int),true,(f s (↑(mkP (UInt8.ofNat 33) s (↑(blA s (↑sh1.1:Int).toNat (bdI sh1.2)):Int).toNat sh1.2).1
 : Int).toNat (flW s (↑(mkP (UInt8.ofNat 33) s (↑(blA s (↑sh1.1:Int).toNat (bdI sh1.2)):Int).toNat sh1.2).1:Int).toNat (mkP (UInt8.ofNat 33)
 s (↑(blA s (↑sh1.1:Int).toNat (bdI sh1.2)):Int).toNat sh1.2).2 false)).1.lab.2.2.2.2.1,()) (f s (↑(mkP (UInt8.ofNat 33) s (↑(blA s
 (↑sh1.1:Int).toNat (bdI sh1.2)):Int).toNat sh1.2).1:Int).toNat (flW s (↑(mkP (UInt8.ofNat 33) s (↑(blA s (↑sh1.1:Int).toNat (bdI sh1.2)) :
 Int).toNat sh1.2).1:Int).toNat (mkP (UInt8.ofNat 33) s (↑(blA s (↑sh1.1:Int).toNat (bdI sh1.2)):Int).toNat sh1.2).2 false)).1.kids))]))))))
 (ifT (decide ((0<=(↑(blA s (↑sh1.1:Int).toNat (bdI sh1.2)):Int)/\(↑(blA s (↑sh1.1:Int).toNat (bdI sh1.2)):Int).toNat<=s.length/\s.length<=400
 /\ (-1:Int)<=sh1.2/\sh1.2<=(1000:Int))/\1<=n/\0<=d/\d<=1000/\((0:Int)<=sh1.2\/s.length-(↑(blA s (↑sh1.1:Int).toNat (bdI sh1.2)) :
 Int).toNat+3<=n/\d+(↑(s.length-(↑(blA s (↑sh1.1:Int).toNat (bdI sh1.2)):Int).toNat):Int)<=(450:Int))/\m=o.length/\o.length<=(3000 :
 Nat))) (ifB (!bdI (f s (↑(blA s (↑sh1.1:Int).toNat (bdI sh1.2)):Int).toNat (flW s (↑(blA s (↑sh1.1:Int).toNat (bdI sh1.2)):Int).toNat sh1.2
 true)).2.2&&nxt s (blA s (f s (↑(blA s (↑sh1.1:Int).toNat (bdI sh1.2)):Int).toNat (flW s (↑(blA s (↑sh1.1:Int).toNat (bdI sh1.2)):Int).toNat sh1.2
 true)).2.1 (bdI (f s (↑(blA s (↑sh1.1:Int).toNat (bdI sh1.2)):Int).toNat (flW s (↑(blA s (↑sh1.1:Int).toNat (bdI sh1.2)):Int).toNat sh1.2
 true)).2.2))==(44:UInt8)) (some (Ex.normal,[V.ptr 0 0,V.j d,V.ptr 1 0,V.ptr 2 0],[some (Blk.box [V.s s,V.j (↑(mkP (44:UInt8) s (blA s (f s
 (↑(blA s (↑sh1.1:Int).toNat (bdI sh1.2)):Int).toNat (flW s (↑(blA s (↑sh1.1:Int).toNat (bdI sh1.2)):Int).toNat sh1.2 true)).2.1 (bdI (f s (↑(blA s
 (↑sh1.1:Int).toNat (bdI sh1.2)):Int).toNat (flW s (↑(blA s (↑sh1.1:Int).toNat (bdI sh1.2)):Int).toNat sh1.2 true)).2.2)) (f s (↑(blA s (↑sh1.1 :
 Int).toNat (bdI sh1.2)):Int).toNat (flW s (↑(blA s (↑sh1.1:Int).toNat (bdI sh1.2)):Int).toNat sh1.2 true)).2.2).1:Int),V.j (mkP (44:UInt8) s
 (blA s (f s (↑(blA s (↑sh1.1:Int).toNat (bdI sh1.2)):Int).toNat (flW s (↑(blA s (↑sh1.1:Int).toNat (bdI sh1.2)):Int).toNat sh1.2 true)).2.1 (bdI (f
 s (↑(blA s (↑sh1.1:Int).toNat (bdI sh1.2)):Int).toNat (flW s (↑(blA s (↑sh1.1:Int).toNat (bdI sh1.2)):Int).toNat sh1.2 true)).2.2)) (f s (↑(blA s
 (↑sh1.1:Int).toNat (bdI sh1.2)):Int).toNat (flW s (↑(blA s (↑sh1.1:Int).toNat (bdI sh1.2)):Int).toNat sh1.2 true)).2.2).2]),some (Blk.box [V.i
 .i64 0,V.s (Al UInt8),V.j 0,V.b false,V.j 0,V.ref 3 0 0]),some (Blk.box [V.j 5,V.s (Al UInt8),V.j 0,V.b false,V.j 0,V.ref 4 0
 (AE o (Rose.node ((f s (↑(blA s (↑sh1.1:Int).toNat (bdI sh1.2)):Int).toNat (flW s (↑(blA s (↑sh1.1:Int).toNat (bdI sh1.2)):Int).toNat sh1.2
 true)).1.lab.1,sh4,(↑(nrP s (↑sh2.1:Int).toNat sh2.2).1:Int),false,(f s (↑(blA s (↑sh1.1:Int).toNat (bdI sh1.2)):Int).toNat (flW s (↑(blA s
 (↑sh1.1:Int).toNat (bdI sh1.2)):Int).toNat sh1.2 true)).1.lab.2.2.2.2.1,()) (f s (↑(blA s (↑sh1.1:Int).toNat (bdI sh1.2)):Int).toNat (flW s
 (↑(blA s (↑sh1.1:Int).toNat (bdI sh1.2)):Int).toNat sh1.2 true)).1.kids)).length]),R0 LCd.rose sh5,R0 LCd.rose
 (AE o (Rose.node ((f s (↑(blA s (↑sh1.1:Int).toNat (bdI sh1.2)):Int).toNat (flW s (↑(blA s (↑sh1.1:Int).toNat (bdI sh1.2)):Int).toNat sh1.2
 true)).1.lab.1,sh4,(↑(nrP s (↑sh2.1:Int).toNat sh2.2).1:Int),false,(f s (↑(blA s (↑sh1.1:Int).toNat (bdI sh1.2)):Int).toNat (flW s (↑(blA s
 (↑sh1.1:Int).toNat (bdI sh1.2)):Int).toNat sh1.2 true)).1.lab.2.2.2.2.1,()) (f s (↑(blA s (↑sh1.1:Int).toNat (bdI sh1.2)):Int).toNat (flW s
 (↑(blA s (↑sh1.1:Int).toNat (bdI sh1.2)):Int).toNat sh1.2 true)).1.kids))])) (some (Ex.exit 0,[V.ptr 0 0,V.ptr 1 0,V.ptr 2 0],[some (Blk.box [V.s s,V.i
 .i64 (↑(blA s (f s (↑(blA s (↑sh1.1:Int).toNat (bdI sh1.2)):Int).toNat (flW s (↑(blA s (↑sh1.1:Int).toNat (bdI sh1.2)):Int).toNat sh1.2 true)).2.1
 (bdI (f s (↑(blA s (↑sh1.1:Int).toNat (bdI sh1.2)):Int).toNat (flW s (↑(blA s (↑sh1.1:Int).toNat (bdI sh1.2)):Int).toNat sh1.2 true)).2.2)):Int),
 V.j (f s (↑(blA s (↑sh1.1:Int).toNat (bdI sh1.2)):Int).toNat (flW s (↑(blA s (↑sh1.1:Int).toNat (bdI sh1.2)):Int).toNat sh1.2 true)).2.2]),
 some (Blk.box [V.j 0,V.s (Al UInt8),V.j 0,V.b false,V.j 0,V.ref 3 0 0]),some (Blk.box [V.j 5,V.s (Al UInt8),V.j 0,V.b false,V.i
 .i64 0,V.ref 4 0 (AE o (Rose.node ((f s (↑(blA s (↑sh1.1:Int).toNat (bdI sh1.2)):Int).toNat (flW s (↑(blA s (↑sh1.1:Int).toNat (bdI sh1.2)):Int).toNat
 sh1.2 true)).1.lab.1,sh4,(↑(nrP s (↑sh2.1:Int).toNat sh2.2).1:Int),false,(f s (↑(blA s (↑sh1.1:Int).toNat (bdI sh1.2)):Int).toNat (flW s
 (↑(blA s (↑sh1.1:Int).toNat (bdI sh1.2)):Int).toNat sh1.2 true)).1.lab.2.2.2.2.1,()) (f s (↑(blA s (↑sh1.1:Int).toNat (bdI sh1.2)) :
 Int).toNat (flW s (↑(blA s (↑sh1.1:Int).toNat (bdI sh1.2)):Int).toNat sh1.2 true)).1.kids)).length]),R0 LCd.rose sh5,R0 LCd.rose (AE o (Rose.node ((f s (↑(blA s (↑sh1.1:Int).toNat (bdI sh1.2)):Int).toNat (flW s (↑(blA s (↑sh1.1:Int).toNat (bdI sh1.2)) :
 Int).toNat sh1.2 true)).1.lab.1,sh4,(↑(nrP s (↑sh2.1:Int).toNat sh2.2).1:Int),false,(f s (↑(blA s (↑sh1.1:Int).toNat (bdI sh1.2)):Int).toNat
 (flW s (↑(blA s (↑sh1.1:Int).toNat (bdI sh1.2)):Int).toNat sh1.2 true)).1.lab.2.2.2.2.1,()) (f s (↑(blA s (↑sh1.1:Int).toNat (bdI sh1.2)) :
 Int).toNat (flW s (↑(blA s (↑sh1.1:Int).toNat (bdI sh1.2)):Int).toNat sh1.2 true)).1.kids))]))))))) (ifT (decide (0<=(↑sh1.1:Int)/\(↑sh1.1 :
 Int).toNat<=s.length/\s.length<=400/\(-1:Int)<=sh1.2/\sh1.2<=(1000:Int))) (ifT (decide (0<=(↑sh1.1:Int)/\(↑sh1.1:Int).toNat<=s.length/\
 s.length<=400/\(-1:Int)<=sh1.2/\sh1.2<=(1000:Int))) (ifT (decide (0<=(↑(blA s (↑sh1.1:Int).toNat (bdI sh1.2)):Int)/\(↑(blA s (↑sh1.1 :
 Int).toNat (bdI sh1.2)):Int).toNat<=s.length/\s.length<=400/\(-1:Int)<=sh1.2/\sh1.2<=(1000:Int))) (ifB ((bif bdI sh1.2 then (0:Int) else
 (↑(nxt s (↑(blA s (↑sh1.1:Int).toNat (bdI sh1.2)):Int).toNat).toNat:Int))==(33:Int)) (ifT (decide (0<=(↑(blA s (↑sh1.1:Int).toNat (bdI sh1.2)):Int)
 /\ (↑(blA s (↑sh1.1:Int).toNat (bdI sh1.2)):Int).toNat<=s.length/\s.length<=400/\(-1:Int)<=sh1.2/\sh1.2<=(1000:Int)/\(0:Int)<(33:Int)
 /\ (33:Int)<(256:Int))) (ifB (decide ((mkP (UInt8.ofNat 33) s (↑(blA s (↑sh1.1:Int).toNat (bdI sh1.2)):Int).toNat sh1.2).2<(0:Int))) (ifT
 (decide (0<=i64.wrap ((↑(mkP (UInt8.ofNat 33) s (↑(blA s (↑sh1.1:Int).toNat (bdI sh1.2)):Int).toNat sh1.2).1:Int)-(1:Int)))) (Ap
 s[(i64.wrap ((↑(mkP (UInt8.ofNat 33) s (↑(blA s (↑sh1.1:Int).toNat (bdI sh1.2)):Int).toNat sh1.2).1:Int)-(1:Int))).toNat]? fun z=>shr
 sh4 fun sh4=>shr sh5 fun sh3=>shr sh2 fun sh2=>shr (mkP (UInt8.ofNat 33) s (↑(blA s (↑(nrP s (↑sh2.1:Int).toNat sh2.2).2.1:Int).toNat (bdI (nrP
 s (↑sh2.1:Int).toNat sh2.2).2.2)):Int).toNat (nrP s (↑sh2.1:Int).toNat sh2.2).2.2) fun sh1=>ifB ((↑z.toNat:Int)==(32:Int)) (ifT (decide ((0
 <= (↑sh1.1:Int)/\(↑sh1.1:Int).toNat<=s.length/\s.length<=400/\(-1:Int)<=sh1.2/\sh1.2<=(1000:Int))/\1<=n/\0<=d/\d<=1000/\((0
 : Int)<=sh1.2\/s.length-(↑sh1.1:Int).toNat+3<=n/\d+(↑(s.length-(↑sh1.1:Int).toNat):Int)<=(450:Int))/\m=o.length/\o.length<=(3000 :
 Nat))) (ifB (!bdI (f s (↑sh1.1:Int).toNat (flW s (↑sh1.1:Int).toNat sh1.2 true)).2.2&&nxt s (blA s (f s (↑sh1.1:Int).toNat (flW s (↑sh1.1 :
 Int).toNat sh1.2 true)).2.1 (bdI (f s (↑sh1.1:Int).toNat (flW s (↑sh1.1:Int).toNat sh1.2 true)).2.2))==(44:UInt8)) (some (Ex.normal,[V.ptr 0 0,
 V.j d,V.ptr 1 0,V.ptr 2 0],[some (Blk.box [V.s s,V.j (↑(mkP (44:UInt8) s (blA s (f s (↑sh1.1:Int).toNat (flW s (↑sh1.1:Int).toNat sh1.2
 true)).2.1 (bdI (f s (↑sh1.1:Int).toNat (flW s (↑sh1.1:Int).toNat sh1.2 true)).2.2)) (f s (↑sh1.1:Int).toNat (flW s (↑sh1.1:Int).toNat sh1.2
 true)).2.2).1:Int),V.j (mkP (44:UInt8) s (blA s (f s (↑sh1.1:Int).toNat (flW s (↑sh1.1:Int).toNat sh1.2 true)).2.1 (bdI (f s (↑sh1.1 :
 Int).toNat (flW s (↑sh1.1:Int).toNat sh1.2 true)).2.2)) (f s (↑sh1.1:Int).toNat (flW s (↑sh1.1:Int).toNat sh1.2 true)).2.2).2]),some (Blk.box
 [V.j 0,V.s (Al UInt8),V.j 0,V.b false,V.j 0,V.ref 3 0 0]),some (Blk.box [V.j 5,V.s (Al UInt8),V.j 0,V.b false,V.j 0,V.ref 4 0
 (AE o (Rose.node ((f s (↑sh1.1:Int).toNat (flW s (↑sh1.1:Int).toNat sh1.2 true)).1.lab.1,sh4,(↑(nrP s (↑sh2.1:Int).toNat sh2.2).1:Int),true,
 (f s (↑sh1.1:Int).toNat (flW s (↑sh1.1:Int).toNat sh1.2 true)).1.lab.2.2.2.2.1,()) (f s (↑sh1.1:Int).toNat (flW s (↑sh1.1:Int).toNat
 sh1.2 true)).1.kids)).length]),R0 LCd.rose sh3,R0 LCd.rose (AE o (Rose.node ((f s (↑sh1.1:Int).toNat (flW s
 (↑sh1.1:Int).toNat sh1.2 true)).1.lab.1,sh4,(↑(nrP s (↑sh2.1:Int).toNat sh2.2).1:Int),true,(f s (↑sh1.1:Int).toNat (flW s (↑sh1.1 :
 Int).toNat sh1.2 true)).1.lab.2.2.2.2.1,()) (f s (↑sh1.1:Int).toNat (flW s (↑sh1.1:Int).toNat sh1.2 true)).1.kids))])) (some (Ex.exit 0,
 [V.ptr 0 0,V.ptr 1 0,V.ptr 2 0],[some (Blk.box [V.s s,V.j (↑(blA s (f s (↑sh1.1:Int).toNat (flW s (↑sh1.1:Int).toNat sh1.2 true)).2.1 (bdI (f s
 (↑sh1.1:Int).toNat (flW s (↑sh1.1:Int).toNat sh1.2 true)).2.2)):Int),V.j (f s (↑sh1.1:Int).toNat (flW s (↑sh1.1:Int).toNat sh1.2
 true)).2.2]),some (Blk.box [V.j 0,V.s (Al UInt8),V.j 0,V.b false,V.j 0,V.ref 3 0 0]),some (Blk.box [V.j 5,V.s (Al UInt8),V.j 0,
 V.b false,V.j 0,V.ref 4 0 (AE o (Rose.node ((f s (↑sh1.1:Int).toNat (flW s (↑sh1.1:Int).toNat sh1.2 true)).1.lab.1,sh4,(↑(nrP s (↑sh2.1 :
 Int).toNat sh2.2).1:Int),true,(f s (↑sh1.1:Int).toNat (flW s (↑sh1.1:Int).toNat sh1.2 true)).1.lab.2.2.2.2.1,()) (f s (↑sh1.1 :
 Int).toNat (flW s (↑sh1.1:Int).toNat sh1.2 true)).1.kids)).length]),R0 LCd.rose sh3,R0 LCd.rose (AE o (Rose.node
 ((f s (↑sh1.1:Int).toNat (flW s (↑sh1.1:Int).toNat sh1.2 true)).1.lab.1,sh4,(↑(nrP s (↑sh2.1:Int).toNat sh2.2).1:Int),true,(f s (↑sh1.1 :
 Int).toNat (flW s (↑sh1.1:Int).toNat sh1.2 true)).1.lab.2.2.2.2.1,()) (f s (↑sh1.1:Int).toNat (flW s (↑sh1.1:Int).toNat sh1.2
 true)).1.kids))])))) (ifT (decide (0<=i64.wrap ((↑sh1.1:Int)-(1:Int)))) (Ap s[(i64.wrap ((↑sh1.1:Int)-(1:Int))).toNat]? fun z=>
 shr sh4 fun sh4=>shr sh2 fun sh3_1=>shr (nrP s (↑sh3_1.1:Int).toNat sh3_1.2) fun sh2=>shr (mkP (UInt8.ofNat 33) s (↑(blA s (↑sh2.2.1:Int).toNat
 (bdI sh2.2.2)):Int).toNat sh2.2.2) fun sh1=>ifT (decide ((0<=(↑sh1.1:Int)/\(↑sh1.1:Int).toNat<=s.length/\s.length<=400/\(-1:Int)<=
 sh1.2/\sh1.2<=(1000:Int))/\1<=n/\0<=d/\d<=1000/\((0:Int)<=sh1.2\/s.length-(↑sh1.1:Int).toNat+3<=n/\d+(↑(s.length -
 (↑sh1.1:Int).toNat):Int)<=(450:Int))/\m=o.length/\o.length<=3000)) (ifB (!bdI (f s (↑sh1.1:Int).toNat (flW s (↑sh1.1:Int).toNat sh1.2
 ((↑z.toNat:Int)==(10:Int)))).2.2&&nxt s (blA s (f s (↑sh1.1:Int).toNat (flW s (↑sh1.1:Int).toNat sh1.2 ((↑z.toNat:Int)==(10:Int)))).2.1
 (bdI (f s (↑sh1.1:Int).toNat (flW s (↑sh1.1:Int).toNat sh1.2 ((↑z.toNat:Int)==(10:Int)))).2.2))==(44:UInt8)) (some (Ex.normal,[V.ptr 0 0,V.i
 .i64 d,V.ptr 1 0,V.ptr 2 0],[some (Blk.box [V.s s,V.j (↑(mkP (44:UInt8) s (blA s (f s (↑sh1.1:Int).toNat (flW s (↑sh1.1:Int).toNat sh1.2 ((↑z.toNat :
 Int)==(10:Int)))).2.1 (bdI (f s (↑sh1.1:Int).toNat (flW s (↑sh1.1:Int).toNat sh1.2 ((↑z.toNat:Int)==(10:Int)))).2.2)) (f s (↑sh1.1 :
 Int).toNat (flW s (↑sh1.1:Int).toNat sh1.2 ((↑z.toNat:Int)==(10:Int)))).2.2).1:Int),V.j (mkP (44:UInt8) s (blA s (f s (↑sh1.1:Int).toNat
 (flW s (↑sh1.1:Int).toNat sh1.2 ((↑z.toNat:Int)==(10:Int)))).2.1 (bdI (f s (↑sh1.1:Int).toNat (flW s (↑sh1.1:Int).toNat sh1.2 ((↑z.toNat:Int)
 == (10:Int)))).2.2)) (f s (↑sh1.1:Int).toNat (flW s (↑sh1.1:Int).toNat sh1.2 ((↑z.toNat:Int)==(10:Int)))).2.2).2]),some (Blk.box [V.j 0,
 V.s (Al UInt8),V.j 0,V.b false,V.j 0,V.ref 3 0 0]),some (Blk.box [V.j 5,V.s (Al UInt8),V.j 0,V.b false,V.j 0,V.ref 4 0 (AE o
 (Rose.node ((f s (↑sh1.1:Int).toNat (flW s (↑sh1.1:Int).toNat sh1.2 ((↑z.toNat:Int)==(10:Int)))).1.lab.1,sh4,(↑sh2.1:Int),true,(f s (↑sh1.1
 : Int).toNat (flW s (↑sh1.1:Int).toNat sh1.2 ((↑z.toNat:Int)==(10:Int)))).1.lab.2.2.2.2.1,()) (f s (↑sh1.1:Int).toNat (flW s (↑sh1.1 :
 Int).toNat sh1.2 ((↑z.toNat:Int)==(10:Int)))).1.kids)).length]),R0 LCd.rose sh3,R0 LCd.rose (AE o (Rose.node
 ((f s (↑sh1.1:Int).toNat (flW s (↑sh1.1:Int).toNat sh1.2 ((↑z.toNat:Int)==(10:Int)))).1.lab.1,sh4,(↑sh2.1:Int),true,(f s (↑sh1.1 :
 Int).toNat (flW s (↑sh1.1:Int).toNat sh1.2 ((↑z.toNat:Int)==(10:Int)))).1.lab.2.2.2.2.1,()) (f s (↑sh1.1:Int).toNat (flW s (↑sh1.1 :
 Int).toNat sh1.2 ((↑z.toNat:Int)==(10:Int)))).1.kids))])) (some (Ex.exit 0,[V.ptr 0 0,V.ptr 1 0,V.ptr 2 0],[some (Blk.box [V.s s,V.j (↑(blA s (f s
 (↑sh1.1:Int).toNat (flW s (↑sh1.1:Int).toNat sh1.2 ((↑z.toNat:Int)==(10:Int)))).2.1 (bdI (f s (↑sh1.1:Int).toNat (flW s (↑sh1.1:Int).toNat
 sh1.2 ((↑z.toNat:Int)==(10:Int)))).2.2)):Int),V.j (f s (↑sh1.1:Int).toNat (flW s (↑sh1.1:Int).toNat sh1.2 ((↑z.toNat:Int)==(10 :
 Int)))).2.2]),some (Blk.box [V.j 0,V.s (Al UInt8),V.j 0,V.b false,V.j 0,V.ref 3 0 0]),some (Blk.box [V.j 5,V.s (Al UInt8),V.j 0,
 V.b false,V.j 0,V.ref 4 0 (AE o (Rose.node ((f s (↑sh1.1:Int).toNat (flW s (↑sh1.1:Int).toNat sh1.2 ((↑z.toNat:Int)==(10:Int)))).1.lab.1,
 sh4,(↑sh2.1:Int),true,(f s (↑sh1.1:Int).toNat (flW s (↑sh1.1:Int).toNat sh1.2 ((↑z.toNat:Int)==(10:Int)))).1.lab.2.2.2.2.1,()) (f s
 (↑sh1.1:Int).toNat (flW s (↑sh1.1:Int).toNat sh1.2 ((↑z.toNat:Int)==(10:Int)))).1.kids)).length]),R0 LCd.rose sh3,R0 LCd.rose (AE o (Rose.node ((f s (↑sh1.1:Int).toNat (flW s (↑sh1.1:Int).toNat sh1.2 ((↑z.toNat:Int)==(10:Int)))).1.lab.1,sh4,(↑sh2.1 :
 Int),true,(f s (↑sh1.1:Int).toNat (flW s (↑sh1.1:Int).toNat sh1.2 ((↑z.toNat:Int)==(10:Int)))).1.lab.2.2.2.2.1,()) (f s (↑sh1.1 :
 Int).toNat (flW s (↑sh1.1:Int).toNat sh1.2 ((↑z.toNat:Int)==(10:Int)))).1.kids))]))))))) (ifT (decide ((0<=(↑(mkP (UInt8.ofNat 33) s (↑(blA s
 (↑sh1.1:Int).toNat (bdI sh1.2)):Int).toNat sh1.2).1:Int)/\(↑(mkP (UInt8.ofNat 33) s (↑(blA s (↑sh1.1:Int).toNat (bdI sh1.2)):Int).toNat
 sh1.2).1:Int).toNat<=s.length/\s.length<=400/\(-1:Int)<=(mkP (UInt8.ofNat 33) s (↑(blA s (↑sh1.1:Int).toNat (bdI sh1.2)):Int).toNat
 sh1.2).2/\(mkP (UInt8.ofNat 33) s (↑(blA s (↑sh1.1:Int).toNat (bdI sh1.2)):Int).toNat sh1.2).2<=(1000:Int))/\1<=n/\0<=d/\d<=1000
 /\ ((0:Int)<=(mkP (UInt8.ofNat 33) s (↑(blA s (↑sh1.1:Int).toNat (bdI sh1.2)):Int).toNat sh1.2).2\/s.length-(↑(mkP (UInt8.ofNat 33) s
 (↑(blA s (↑sh1.1:Int).toNat (bdI sh1.2)):Int).toNat sh1.2).1:Int).toNat+3<=n/\d+(↑(s.length-(↑(mkP (UInt8.ofNat 33) s (↑(blA s
 (↑sh1.1:Int).toNat (bdI sh1.2)):Int).toNat sh1.2).1:Int).toNat):Int)<=(450:Int))/\m=o.length/\o.length<=3000)) (ifB (!bdI (f s (↑(mkP
 (UInt8.ofNat 33) s (↑(blA s (↑sh1.1:Int).toNat (bdI sh1.2)):Int).toNat sh1.2).1:Int).toNat (flW s (↑(mkP (UInt8.ofNat 33) s (↑(blA s
 (↑sh1.1:Int).toNat (bdI sh1.2)):Int).toNat sh1.2).1:Int).toNat (mkP (UInt8.ofNat 33) s (↑(blA s (↑sh1.1:Int).toNat (bdI sh1.2)):Int).toNat
 sh1.2).2 false)).2.2&&nxt s (blA s (f s (↑(mkP (UInt8.ofNat 33) s (↑(blA s (↑sh1.1:Int).toNat (bdI sh1.2)):Int).toNat sh1.2).1:Int).toNat
 (flW s (↑(mkP (UInt8.ofNat 33) s (↑(blA s (↑sh1.1:Int).toNat (bdI sh1.2)):Int).toNat sh1.2).1:Int).toNat (mkP (UInt8.ofNat 33) s (↑(blA s
 (↑sh1.1:Int).toNat (bdI sh1.2)):Int).toNat sh1.2).2 false)).2.1 (bdI (f s (↑(mkP (UInt8.ofNat 33) s (↑(blA s (↑sh1.1:Int).toNat (bdI sh1.2))
 : Int).toNat sh1.2).1:Int).toNat (flW s (↑(mkP (UInt8.ofNat 33) s (↑(blA s (↑sh1.1:Int).toNat (bdI sh1.2)):Int).toNat sh1.2).1:Int).toNat (mkP
 (UInt8.ofNat 33) s (↑(blA s (↑sh1.1:Int).toNat (bdI sh1.2)):Int).toNat sh1.2).2 false)).2.2))==(44:UInt8)) (some (Ex.normal,[V.ptr 0 0,V.i
 .i64 d,V.ptr 1 0,V.ptr 2 0],[some (Blk.box [V.s s,V.j (↑(mkP (44:UInt8) s (blA s (f s (↑(mkP (UInt8.ofNat 33) s (↑(blA s (↑sh1.1:Int).toNat (bdI
 sh1.2)):Int).toNat sh1.2).1:Int).toNat (flW s (↑(mkP (UInt8.ofNat 33) s (↑(blA s (↑sh1.1:Int).toNat (bdI sh1.2)):Int).toNat sh1.2).1 :
 Int).toNat (mkP (UInt8.ofNat 33) s (↑(blA s (↑sh1.1:Int).toNat (bdI sh1.2)):Int).toNat sh1.2).2 false)).2.1 (bdI (f s (↑(mkP (UInt8.ofNat (33 :
 Nat)) s (↑(blA s (↑sh1.1:Int).toNat (bdI sh1.2)):Int).toNat sh1.2).1:Int).toNat (flW s (↑(mkP (UInt8.ofNat 33) s (↑(blA s (↑sh1.1:Int).toNat
 (bdI sh1.2)):Int).toNat sh1.2).1:Int).toNat (mkP (UInt8.ofNat 33) s (↑(blA s (↑sh1.1:Int).toNat (bdI sh1.2)):Int).toNat sh1.2).2
 false)).2.2)) (f s (↑(mkP (UInt8.ofNat 33) s (↑(blA s (↑sh1.1:Int).toNat (bdI sh1.2)):Int).toNat sh1.2).1:Int).toNat (flW s (↑(mkP (UInt8.ofNat
 33) s (↑(blA s (↑sh1.1:Int).toNat (bdI sh1.2)):Int).toNat sh1.2).1:Int).toNat (mkP (UInt8.ofNat 33) s (↑(blA s (↑sh1.1:Int).toNat (bdI
 sh1.2)):Int).toNat sh1.2).2 false)).2.2).1:Int),V.j (mkP (44:UInt8) s (blA s (f s (↑(mkP (UInt8.ofNat 33) s (↑(blA s (↑sh1.1 :
 Int).toNat (bdI sh1.2)):Int).toNat sh1.2).1:Int).toNat (flW s (↑(mkP (UInt8.ofNat 33) s (↑(blA s (↑sh1.1:Int).toNat (bdI sh1.2)):Int).toNat
 sh1.2).1:Int).toNat (mkP (UInt8.ofNat 33) s (↑(blA s (↑sh1.1:Int).toNat (bdI sh1.2)):Int).toNat sh1.2).2 false)).2.1 (bdI (f s (↑(mkP
 (UInt8.ofNat 33) s (↑(blA s (↑sh1.1:Int).toNat (bdI sh1.2)):Int).toNat sh1.2).1:Int).toNat (flW s (↑(mkP (UInt8.ofNat 33) s (↑(blA s
 (↑sh1.1:Int).toNat (bdI sh1.2)):Int).toNat sh1.2).1:Int).toNat (mkP (UInt8.ofNat 33) s (↑(blA s (↑sh1.1:Int).toNat (bdI sh1.2)):Int).toNat
 sh1.2).2 false)).2.2)) (f s (↑(mkP (UInt8.ofNat 33) s (↑(blA s (↑sh1.1:Int).toNat (bdI sh1.2)):Int).toNat sh1.2).1:Int).toNat (flW s (↑(mkP
 (UInt8.ofNat 33) s (↑(blA s (↑sh1.1:Int).toNat (bdI sh1.2)):Int).toNat sh1.2).1:Int).toNat (mkP (UInt8.ofNat 33) s (↑(blA s (↑sh1.1 :
 Int).toNat (bdI sh1.2)):Int).toNat sh1.2).2 false)).2.2).2]),some (Blk.box [V.j 0,V.s (Al UInt8),V.j 0,V.b false,V.j 0,V.ref 3 0 0]),
 some (Blk.box [V.j 5,V.s (Al UInt8),V.j 0,V.b false,V.j 0,V.ref 4 0 (AE o (Rose.node ((f s (↑(mkP (UInt8.ofNat 33) s (↑(blA s (↑sh1.1 :
 Int).toNat (bdI sh1.2)):Int).toNat sh1.2).1:Int).toNat (flW s (↑(mkP (UInt8.ofNat 33) s (↑(blA s (↑sh1.1:Int).toNat (bdI sh1.2)):Int).toNat
 sh1.2).1:Int).toNat (mkP (UInt8.ofNat 33) s (↑(blA s (↑sh1.1:Int).toNat (bdI sh1.2)):Int).toNat sh1.2).2 false)).1.lab.1,sh4,(↑(nrP s
 (↑sh2.1:Int).toNat sh2.2).1:Int),true,(f s (↑(mkP (UInt8.ofNat 33) s (↑(blA s (↑sh1.1:Int).toNat (bdI sh1.2)):Int).toNat sh1.2).1 :
 Int).toNat (flW s (↑(mkP (UInt8.ofNat 33) s (↑(blA s (↑sh1.1:Int).toNat (bdI sh1.2)):Int).toNat sh1.2).1:Int).toNat (mkP (UInt8.ofNat 33) s
 (↑(blA s (↑sh1.1:Int).toNat (bdI sh1.2)):Int).toNat sh1.2).2 false)).1.lab.2.2.2.2.1,()) (f s (↑(mkP (UInt8.ofNat 33) s (↑(blA s
 (↑sh1.1:Int).toNat (bdI sh1.2)):Int).toNat sh1.2).1:Int).toNat (flW s (↑(mkP (UInt8.ofNat 33) s (↑(blA s (↑sh1.1:Int).toNat (bdI sh1.2)) :
 Int).toNat sh1.2).1:Int).toNat (mkP (UInt8.ofNat 33) s (↑(blA s (↑sh1.1:Int).toNat (bdI sh1.2)):Int).toNat sh1.2).2 false)).1.kids)).length]),
 R0 LCd.rose sh5,R0 LCd.rose (AE o (Rose.node ((f s (↑(mkP (UInt8.ofNat 33) s (↑(blA s (↑sh1.1:Int).toNat (bdI
 sh1.2)):Int).toNat sh1.2).1:Int).toNat (flW s (↑(mkP (UInt8.ofNat 33) s (↑(blA s (↑sh1.1:Int).toNat (bdI sh1.2)):Int).toNat sh1.2).1 :
 Int).toNat (mkP (UInt8.ofNat 33) s (↑(blA s (↑sh1.1:Int).toNat (bdI sh1.2)):Int).toNat sh1.2).2 false)).1.lab.1,sh4,(↑(nrP s (↑sh2.1 :
 Int).toNat sh2.2).1:Int),true,(f s (↑(mkP (UInt8.ofNat 33) s (↑(blA s (↑sh1.1:Int).toNat (bdI sh1.2)):Int).toNat sh1.2).1:Int).toNat (flW s
 (↑(mkP (UInt8.ofNat 33) s (↑(blA s (↑sh1.1:Int).toNat (bdI sh1.2)):Int).toNat sh1.2).1:Int).toNat (mkP (UInt8.ofNat 33) s (↑(blA s (↑sh1.1
 : Int).toNat (bdI sh1.2)):Int).toNat sh1.2).2 false)).1.lab.2.2.2.2.1,()) (f s (↑(mkP (UInt8.ofNat 33) s (↑(blA s (↑sh1.1:Int).toNat (bdI
 sh1.2)):Int).toNat sh1.2).1:Int).toNat (flW s (↑(mkP (UInt8.ofNat 33) s (↑(blA s (↑sh1.1:Int).toNat (bdI sh1.2)):Int).toNat sh1.2).1 :
 Int).toNat (mkP (UInt8.ofNat 33) s (↑(blA s (↑sh1.1:Int).toNat (bdI sh1.2)):Int).toNat sh1.2).2 false)).1.kids))])) (some (Ex.exit 0,[V.ptr 0 0,
 V.ptr 1 0,V.ptr 2 0],[some (Blk.box [V.s s,V.j (↑(blA s (f s (↑(mkP (UInt8.ofNat 33) s (↑(blA s (↑sh1.1:Int).toNat (bdI sh1.2)):Int).toNat
 sh1.2).1:Int).toNat (flW s (↑(mkP (UInt8.ofNat 33) s (↑(blA s (↑sh1.1:Int).toNat (bdI sh1.2)):Int).toNat sh1.2).1:Int).toNat (mkP (UInt8.ofNat
 33) s (↑(blA s (↑sh1.1:Int).toNat (bdI sh1.2)):Int).toNat sh1.2).2 false)).2.1 (bdI (f s (↑(mkP (UInt8.ofNat 33) s (↑(blA s (↑sh1.1 :
 Int).toNat (bdI sh1.2)):Int).toNat sh1.2).1:Int).toNat (flW s (↑(mkP (UInt8.ofNat 33) s (↑(blA s (↑sh1.1:Int).toNat (bdI sh1.2)):Int).toNat
 sh1.2).1:Int).toNat (mkP (UInt8.ofNat 33) s (↑(blA s (↑sh1.1:Int).toNat (bdI sh1.2)):Int).toNat sh1.2).2 false)).2.2)):Int),V.j (f s
 (↑(mkP (UInt8.ofNat 33) s (↑(blA s (↑sh1.1:Int).toNat (bdI sh1.2)):Int).toNat sh1.2).1:Int).toNat (flW s (↑(mkP (UInt8.ofNat 33) s (↑(blA s
 (↑sh1.1:Int).toNat (bdI sh1.2)):Int).toNat sh1.2).1:Int).toNat (mkP (UInt8.ofNat 33) s (↑(blA s (↑sh1.1:Int).toNat (bdI sh1.2)):Int).toNat
 sh1.2).2 false)).2.2]),some (Blk.box [V.j 0,V.s (Al UInt8),V.j 0,V.b false,V.j 0,V.ref 3 0 0]),some (Blk.box [V.j 5,V.s (Al
 UInt8),V.j 0,V.b false,V.j 0,V.ref 4 0 (AE o (Rose.node ((f s (↑(mkP (UInt8.ofNat 33) s (↑(blA s (↑sh1.1:Int).toNat (bdI sh1.2)) :
 Int).toNat sh1.2).1:Int).toNat (flW s (↑(mkP (UInt8.ofNat 33) s (↑(blA s (↑sh1.1:Int).toNat (bdI sh1.2)):Int).toNat sh1.2).1:Int).toNat (mkP
 (UInt8.ofNat 33) s (↑(blA s (↑sh1.1:Int).toNat (bdI sh1.2)):Int).toNat sh1.2).2 false)).1.lab.1,sh4,(↑(nrP s (↑sh2.1:Int).toNat sh2.2).1
 : Int),true,(f s (↑(mkP (UInt8.ofNat 33) s (↑(blA s (↑sh1.1:Int).toNat (bdI sh1.2)):Int).toNat sh1.2).1:Int).toNat (flW s (↑(mkP (UInt8.ofNat (33
 : Nat)) s (↑(blA s (↑sh1.1:Int).toNat (bdI sh1.2)):Int).toNat sh1.2).1:Int).toNat (mkP (UInt8.ofNat 33) s (↑(blA s (↑sh1.1:Int).toNat (bdI
 sh1.2)):Int).toNat sh1.2).2 false)).1.lab.2.2.2.2.1,()) (f s (↑(mkP (UInt8.ofNat 33) s (↑(blA s (↑sh1.1:Int).toNat (bdI sh1.2)) :
 Int).toNat sh1.2).1:Int).toNat (flW s (↑(mkP (UInt8.ofNat 33) s (↑(blA s (↑sh1.1:Int).toNat (bdI sh1.2)):Int).toNat sh1.2).1:Int).toNat (mkP
 (UInt8.ofNat 33) s (↑(blA s (↑sh1.1:Int).toNat (bdI sh1.2)):Int).toNat sh1.2).2 false)).1.kids)).length]),R0 LCd.rose sh5,
 R0 LCd.rose (AE o (Rose.node ((f s (↑(mkP (UInt8.ofNat 33) s (↑(blA s (↑sh1.1:Int).toNat (bdI sh1.2)):Int).toNat sh1.2).1 :
 Int).toNat (flW s (↑(mkP (UInt8.ofNat 33) s (↑(blA s (↑sh1.1:Int).toNat (bdI sh1.2)):Int).toNat sh1.2).1:Int).toNat (mkP (UInt8.ofNat 33) s
 (↑(blA s (↑sh1.1:Int).toNat (bdI sh1.2)):Int).toNat sh1.2).2 false)).1.lab.1,sh4,(↑(nrP s (↑sh2.1:Int).toNat sh2.2).1:Int),true,(f s (↑(mkP
 (UInt8.ofNat 33) s (↑(blA s (↑sh1.1:Int).toNat (bdI sh1.2)):Int).toNat sh1.2).1:Int).toNat (flW s (↑(mkP (UInt8.ofNat 33) s (↑(blA s
 (↑sh1.1:Int).toNat (bdI sh1.2)):Int).toNat sh1.2).1:Int).toNat (mkP (UInt8.ofNat 33) s (↑(blA s (↑sh1.1:Int).toNat (bdI sh1.2)):Int).toNat
 sh1.2).2 false)).1.lab.2.2.2.2.1,()) (f s (↑(mkP (UInt8.ofNat 33) s (↑(blA s (↑sh1.1:Int).toNat (bdI sh1.2)):Int).toNat sh1.2).1 :
 Int).toNat (flW s (↑(mkP (UInt8.ofNat 33) s (↑(blA s (↑sh1.1:Int).toNat (bdI sh1.2)):Int).toNat sh1.2).1:Int).toNat (mkP (UInt8.ofNat 33) s
 (↑(blA s (↑sh1.1:Int).toNat (bdI sh1.2)):Int).toNat sh1.2).2 false)).1.kids))])))))) (ifT (decide ((0<=(↑(blA s (↑sh1.1:Int).toNat (bdI sh1.2)) :
 Int)/\(↑(blA s (↑sh1.1:Int).toNat (bdI sh1.2)):Int).toNat<=s.length/\s.length<=400/\(-1:Int)<=sh1.2/\sh1.2<=(1000:Int))/\1<=n/\
 0<=d/\d<=1000/\((0:Int)<=sh1.2\/s.length-(↑(blA s (↑sh1.1:Int).toNat (bdI sh1.2)):Int).toNat+3<=n/\d+(↑(s.length-(↑(blA s (↑sh1.1 :
 Int).toNat (bdI sh1.2)):Int).toNat):Int)<=(450:Int))/\m=o.length/\o.length<=3000)) (ifB (!bdI (f s (↑(blA s (↑sh1.1:Int).toNat (bdI sh1.2)) :
 Int).toNat (flW s (↑(blA s (↑sh1.1:Int).toNat (bdI sh1.2)):Int).toNat sh1.2 ((bif bdI sh1.2 then (0:Int) else (↑(nxt s (↑sh1.1:Int).toNat).toNat:Int))
 == (10:Int)))).2.2&&nxt s (blA s (f s (↑(blA s (↑sh1.1:Int).toNat (bdI sh1.2)):Int).toNat (flW s (↑(blA s (↑sh1.1:Int).toNat (bdI sh1.2)) :
 Int).toNat sh1.2 ((bif bdI sh1.2 then (0:Int) else (↑(nxt s (↑sh1.1:Int).toNat).toNat:Int))==(10:Int)))).2.1 (bdI (f s (↑(blA s (↑sh1.1:Int).toNat
 (bdI sh1.2)):Int).toNat (flW s (↑(blA s (↑sh1.1:Int).toNat (bdI sh1.2)):Int).toNat sh1.2 ((bif bdI sh1.2 then (0:Int) else (↑(nxt s (↑sh1.1 :
 Int).toNat).toNat:Int))==(10:Int)))).2.2))==(44:UInt8)) (some (Ex.normal,[V.ptr 0 0,V.j d,V.ptr 1 0,V.ptr 2 0],[some (Blk.box [V.s s,V.i .i64
 (↑(mkP (44:UInt8) s (blA s (f s (↑(blA s (↑sh1.1:Int).toNat (bdI sh1.2)):Int).toNat (flW s (↑(blA s (↑sh1.1:Int).toNat (bdI sh1.2)):Int).toNat sh1.2
 ((bif bdI sh1.2 then (0:Int) else (↑(nxt s (↑sh1.1:Int).toNat).toNat:Int))==(10:Int)))).2.1 (bdI (f s (↑(blA s (↑sh1.1:Int).toNat (bdI sh1.2)) :
 Int).toNat (flW s (↑(blA s (↑sh1.1:Int).toNat (bdI sh1.2)):Int).toNat sh1.2 ((bif bdI sh1.2 then (0:Int) else (↑(nxt s (↑sh1.1:Int).toNat).toNat:Int))
 == (10:Int)))).2.2)) (f s (↑(blA s (↑sh1.1:Int).toNat (bdI sh1.2)):Int).toNat (flW s (↑(blA s (↑sh1.1:Int).toNat (bdI sh1.2)):Int).toNat sh1.2
 ((bif bdI sh1.2 then (0:Int) else (↑(nxt s (↑sh1.1:Int).toNat).toNat:Int))==(10:Int)))).2.2).1:Int),V.j (mkP (44:UInt8) s (blA s (f s (↑(blA
 s (↑sh1.1:Int).toNat (bdI sh1.2)):Int).toNat (flW s (↑(blA s (↑sh1.1:Int).toNat (bdI sh1.2)):Int).toNat sh1.2 ((bif bdI sh1.2 then (0:Int) else
 (↑(nxt s (↑sh1.1:Int).toNat).toNat:Int))==(10:Int)))).2.1 (bdI (f s (↑(blA s (↑sh1.1:Int).toNat (bdI sh1.2)):Int).toNat (flW s (↑(blA s (↑sh1.1 :
 Int).toNat (bdI sh1.2)):Int).toNat sh1.2 ((bif bdI sh1.2 then (0:Int) else (↑(nxt s (↑sh1.1:Int).toNat).toNat:Int))==(10:Int)))).2.2)) (f s (↑(blA
 s (↑sh1.1:Int).toNat (bdI sh1.2)):Int).toNat (flW s (↑(blA s (↑sh1.1:Int).toNat (bdI sh1.2)):Int).toNat sh1.2 ((bif bdI sh1.2 then (0:Int) else
 (↑(nxt s (↑sh1.1:Int).toNat).toNat:Int))==(10:Int)))).2.2).2]),some (Blk.box [V.j 0,V.s (Al UInt8),V.j 0,V.b false,V.j 0,V.ref 3 0
 0]),some (Blk.box [V.j 5,V.s (Al UInt8),V.j 0,V.b false,V.j 0,V.ref 4 0 (AE o (Rose.node ((f s (↑(blA s (↑sh1.1:Int).toNat (bdI sh1.2)) :
 Int).toNat (flW s (↑(blA s (↑sh1.1:Int).toNat (bdI sh1.2)):Int).toNat sh1.2 ((bif bdI sh1.2 then (0:Int) else (↑(nxt s (↑sh1.1:Int).toNat).toNat:Int))
 == (10:Int)))).1.lab.1,sh4,(↑(nrP s (↑sh2.1:Int).toNat sh2.2).1:Int),false,(f s (↑(blA s (↑sh1.1:Int).toNat (bdI sh1.2)):Int).toNat (flW s
 (↑(blA s (↑sh1.1:Int).toNat (bdI sh1.2)):Int).toNat sh1.2 ((bif bdI sh1.2 then (0:Int) else (↑(nxt s (↑sh1.1:Int).toNat).toNat:Int))==(10 :
 Int)))).1.lab.2.2.2.2.1,()) (f s (↑(blA s (↑sh1.1:Int).toNat (bdI sh1.2)):Int).toNat (flW s (↑(blA s (↑sh1.1:Int).toNat (bdI sh1.2)) :
 Int).toNat sh1.2 ((bif bdI sh1.2 then (0:Int) else (↑(nxt s (↑sh1.1:Int).toNat).toNat:Int))==(10:Int)))).1.kids)).length]),R0 LCd.rose sh5,R0 LCd.rose (AE o (Rose.node ((f s (↑(blA s (↑sh1.1:Int).toNat (bdI sh1.2)):Int).toNat (flW s (↑(blA s (↑sh1.1 :
 Int).toNat (bdI sh1.2)):Int).toNat sh1.2 ((bif bdI sh1.2 then (0:Int) else (↑(nxt s (↑sh1.1:Int).toNat).toNat:Int))==(10:Int)))).1.lab.1,sh4,
 (↑(nrP s (↑sh2.1:Int).toNat sh2.2).1:Int),false,(f s (↑(blA s (↑sh1.1:Int).toNat (bdI sh1.2)):Int).toNat (flW s (↑(blA s (↑sh1.1:Int).toNat (bdI
 sh1.2)):Int).toNat sh1.2 ((bif bdI sh1.2 then (0:Int) else (↑(nxt s (↑sh1.1:Int).toNat).toNat:Int))==(10:Int)))).1.lab.2.2.2.2.1,()) (f s
 (↑(blA s (↑sh1.1:Int).toNat (bdI sh1.2)):Int).toNat (flW s (↑(blA s (↑sh1.1:Int).toNat (bdI sh1.2)):Int).toNat sh1.2 ((bif bdI sh1.2 then (0:Int)
 else (↑(nxt s (↑sh1.1:Int).toNat).toNat:Int))==(10:Int)))).1.kids))])) (some (Ex.exit 0,[V.ptr 0 0,V.ptr 1 0,V.ptr 2 0],[some (Blk.box [V.s s,V.i .i64
 (↑(blA s (f s (↑(blA s (↑sh1.1:Int).toNat (bdI sh1.2)):Int).toNat (flW s (↑(blA s (↑sh1.1:Int).toNat (bdI sh1.2)):Int).toNat sh1.2 ((bif bdI sh1.2
 then (0:Int) else (↑(nxt s (↑sh1.1:Int).toNat).toNat:Int))==(10:Int)))).2.1 (bdI (f s (↑(blA s (↑sh1.1:Int).toNat (bdI sh1.2)):Int).toNat (flW s
 (↑(blA s (↑sh1.1:Int).toNat (bdI sh1.2)):Int).toNat sh1.2 ((bif bdI sh1.2 then (0:Int) else (↑(nxt s (↑sh1.1:Int).toNat).toNat:Int))==(10 :
 Int)))).2.2)):Int),V.j (f s (↑(blA s (↑sh1.1:Int).toNat (bdI sh1.2)):Int).toNat (flW s (↑(blA s (↑sh1.1:Int).toNat (bdI sh1.2)):Int).toNat
 sh1.2 ((bif bdI sh1.2 then (0:Int) else (↑(nxt s (↑sh1.1:Int).toNat).toNat:Int))==(10:Int)))).2.2]),some (Blk.box [V.j 0,V.s (Al UInt8),V.i
 .i64 0,V.b false,V.j 0,V.ref 3 0 0]),some (Blk.box [V.j 5,V.s (Al UInt8),V.j 0,V.b false,V.j 0,V.ref 4 0 (AE o (Rose.node ((f s (↑(blA s
 (↑sh1.1:Int).toNat (bdI sh1.2)):Int).toNat (flW s (↑(blA s (↑sh1.1:Int).toNat (bdI sh1.2)):Int).toNat sh1.2 ((bif bdI sh1.2 then (0:Int) else (↑(nxt
 s (↑sh1.1:Int).toNat).toNat:Int))==(10:Int)))).1.lab.1,sh4,(↑(nrP s (↑sh2.1:Int).toNat sh2.2).1:Int),false,(f s (↑(blA s (↑sh1.1 :
 Int).toNat (bdI sh1.2)):Int).toNat (flW s (↑(blA s (↑sh1.1:Int).toNat (bdI sh1.2)):Int).toNat sh1.2 ((bif bdI sh1.2 then (0:Int) else (↑(nxt s (↑sh1.1
 : Int).toNat).toNat:Int))==(10:Int)))).1.lab.2.2.2.2.1,()) (f s (↑(blA s (↑sh1.1:Int).toNat (bdI sh1.2)):Int).toNat (flW s (↑(blA s (↑sh1.1 :
 Int).toNat (bdI sh1.2)):Int).toNat sh1.2 ((bif bdI sh1.2 then (0:Int) else (↑(nxt s (↑sh1.1:Int).toNat).toNat:Int))==(10:Int)))).1.kids)).length]),
 R0 LCd.rose sh5,R0 LCd.rose (AE o (Rose.node ((f s (↑(blA s (↑sh1.1:Int).toNat (bdI sh1.2)):Int).toNat (flW s
 (↑(blA s (↑sh1.1:Int).toNat (bdI sh1.2)):Int).toNat sh1.2 ((bif bdI sh1.2 then (0:Int) else (↑(nxt s (↑sh1.1:Int).toNat).toNat:Int))==(10 :
 Int)))).1.lab.1,sh4,(↑(nrP s (↑sh2.1:Int).toNat sh2.2).1:Int),false,(f s (↑(blA s (↑sh1.1:Int).toNat (bdI sh1.2)):Int).toNat (flW s (↑(blA s
 (↑sh1.1:Int).toNat (bdI sh1.2)):Int).toNat sh1.2 ((bif bdI sh1.2 then (0:Int) else (↑(nxt s (↑sh1.1:Int).toNat).toNat:Int))==(10 :
 Int)))).1.lab.2.2.2.2.1,()) (f s (↑(blA s (↑sh1.1:Int).toNat (bdI sh1.2)):Int).toNat (flW s (↑(blA s (↑sh1.1:Int).toNat (bdI sh1.2)) :
 Int).toNat sh1.2 ((bif bdI sh1.2 then (0:Int) else (↑(nxt s (↑sh1.1:Int).toNat).toNat:Int))==(10:Int)))).1.kids))]))))))))))))) (some (Ex.exit 0,
 [V.ptr 0 0,V.ptr 1 0,V.ptr 2 0],[some (Blk.box [V.s s,V.j a,V.j b]),some (Blk.box [V.j 0,V.s (Al UInt8),V.j 0,V.b false,V.j 0,V.ref
 3 0 0]),some (Blk.box [V.j 5,V.s (Al UInt8),V.j 0,V.b false,V.j 0,V.ref 4 0 m]),R0 LCd.rose sh5,R0 LCd.rose o]))):_):=by kernel_rfl
theorem NH (n:Nat) (f:By->Nat->Int->Rose Lab×Nat×Int) (q:By×RL×Nat×Int->RL×Nat×Int) (s:By) (a b d:Int):BA prog (Ab [(26,.own qbG),(23,.rd1 qnG),(11,.own qfG),(22,.own qmP),(24,.own qwP),(25,.own quP),(27,.own (Ea n f)),(28,.rd1 pkG)]) (Ab [(6,qmE n q),(1000020,pcE n f),(1000017,pdE n f)]) f10 [.ptr 0 0,.j d] [(.box [.s s,.j (a),.j (b)])] =
 ((shr (Al LCd.rose.den) fun sh3=>shr (mkP (UInt8.ofNat 123) s a.toNat b) fun sh2=>shr (q (s,sh3,(↑sh2.1:Int).toNat,sh2.2)).2 fun sh1=>ifT (decide
 (0<=a/\a.toNat<=s.length/\s.length<=400/\(-1:Int)<=b/\b<=1000/\(0:Int)<(123:Int)/\(123:Int)<(256:Int))) (ifT (decide (0<=(↑sh2.1 :
 Int)/\(↑sh2.1:Int).toNat<=s.length/\s.length<=400/\(-1:Int)<=sh2.2/\sh2.2<=(1000:Int))) (ifB ((bif bdI sh2.2 then (0:Int) else (↑(nxt s
 (↑sh2.1:Int).toNat).toNat:Int))==(125:Int)) (ifT (decide (0<=(↑sh2.1:Int)/\(↑sh2.1:Int).toNat<=s.length/\s.length<=400/\(-1:Int)<=
 sh2.2/\sh2.2<=(1000:Int)/\(0:Int)<(125:Int)/\(125:Int)<(256:Int))) (some (V.agg [V.j 5,V.s (Al UInt8),V.j 0,V.b false,V.j 0,
 V.ref 1 0 0],[some (Blk.box [V.s s,V.j (↑(mkP (UInt8.ofNat 125) s (↑sh2.1:Int).toNat sh2.2).1:Int),V.j (mkP (UInt8.ofNat 125) s
 (↑sh2.1:Int).toNat sh2.2).2]),R0 LCd.rose sh3]))) (ifT (decide ((0<=(↑sh2.1:Int)/\(↑sh2.1:Int).toNat<=s.length/\s.length<=
 400/\(-1:Int)<=sh2.2/\sh2.2<=(1000:Int))/\0<=d/\d<=1000/\((0:Int)<=sh2.2\/s.length-(↑sh2.1:Int).toNat+2<=n/\d +
 (↑(s.length-(↑sh2.1:Int).toNat):Int)<=(450:Int))/\0=0/\0<=1000)) (ifT (decide (0<=(↑sh1.1:Int)/\(↑sh1.1 :
 Int).toNat<=s.length/\s.length<=400/\(-1:Int)<=sh1.2/\sh1.2<=(1000:Int)/\(0:Int)<(125:Int)/\(125:Int)<(256:Int))) (some (V.agg [V.i
 .i64 5,V.s (Al UInt8),V.j 0,V.b false,V.j 0,V.ref 1 0 (q (s,sh3,(↑sh2.1:Int).toNat,sh2.2)).1.length],[some (Blk.box [V.s s,V.j (↑(mkP
 (UInt8.ofNat 125) s (↑sh1.1:Int).toNat sh1.2).1:Int),V.j (mkP (UInt8.ofNat 125) s (↑sh1.1:Int).toNat sh1.2).2]),R0 LCd.rose (q (s,sh3,(↑sh2.1:Int).toNat,sh2.2)).1]))))))):_):=by kernel_rfl

theorem NP (o:RL) (z:Rose Lab):(AE o z).length=o.length+1:=by
 have:=O6 (noR z) o
 unfold AE
 rw [length_append,length_cons,List.length_take,List.length_drop]
 omega
theorem Pk (n:Nat) (f:By->Nat->Int->Rose Lab×Nat×Int) (hf:BdQ f) (q:By×RL×Nat×Int->RL×Nat×Int) (s:By) (a:Nat) (b d:Int) (nm:By) (no:Int) (mu:Bool) (o:RL) (h1:a<=s.length) (h2:s.length<=400) (h3 : -1<=b) (h4:b<=1000) (h5:1<=n) (h6:0<=d) (h7:d<=1000) (h8:0<=b\/(s.length-a+3<=n/\d+(s.length-a:Nat)<=450)) (h9:o.length<=3000):Dp prog (Ab [(26,.own qbG),(23,.rd1 qnG),(11,.own qfG),(22,.own qmP),(24,.own qwP),(25,.own quP),(27,.own (Ea n f)),(28,.rd1 pkG)]) (Ab [(6,qmE n q),(1000020,pcE n f),(1000017,pdE n f)]) 1 (Dh f10 1000020) (pcE n f) ([.ptr 0 0,.j d,.ptr 1 0,.ptr 2 0,.s nm,.j no,.b mu],[some (.box [.s s,.j ((a:Nat)),.j (b)]),some (.box [.j 0,.s [],.j 0,.b false,.j 0,.ref 3 0 0]),some (.box [.j 5,.s [],.j 0,.b false,.j 0,.ref 4 0 o.length]),R0 (.rose LCd) [],R0 (.rose LCd) o])=(ifB (!bdI (f s a b).2.2&&(nxt s (blA s (f s a b).2.1 (bdI (f s a b).2.2))==44)) (some ((.normal:Ex),([.ptr 0 0,.j d,.ptr 1 0,.ptr 2 0],[some (.box [.s s,.j (((mkP 44 s (blA s (f s a b).2.1 (bdI (f s a b).2.2)) (f s a b).2.2).1:Nat)),.j ((mkP 44 s (blA s (f s a b).2.1 (bdI (f s a b).2.2)) (f s a b).2.2).2)]),some (.box [.j 0,.s [],.j 0,.b false,.j 0,.ref 3 0 0]),some (.box [.j 5,.s [],.j 0,.b false,.j 0,.ref 4 0 (AE o (.node ((f s a b).1.lab.1,nm,no,mu,(f s a b).1.lab.2.2.2.2.1,()) (f s a b).1.kids)).length]),R0 (.rose LCd) [],R0 (.rose LCd) (AE o (.node ((f s a b).1.lab.1,nm,no,mu,(f s a b).1.lab.2.2.2.2.1,()) (f s a b).1.kids))]))) (some ((.exit 0:Ex),([.ptr 0 0,.j d,.ptr 1 0,.ptr 2 0],[some (.box [.s s,.j (((blA s (f s a b).2.1 (bdI (f s a b).2.2)):Nat)),.j ((f s a b).2.2)]),some (.box [.j 0,.s [],.j 0,.b false,.j 0,.ref 3 0 0]),some (.box [.j 5,.s [],.j 0,.b false,.j 0,.ref 4 0 (AE o (.node ((f s a b).1.lab.1,nm,no,mu,(f s a b).1.lab.2.2.2.2.1,()) (f s a b).1.kids)).length]),R0 (.rose LCd) [],R0 (.rose LCd) (AE o (.node ((f s a b).1.lab.1,nm,no,mu,(f s a b).1.lab.2.2.2.2.1,()) (f s a b).1.kids))])))):=by
 rw [NE]
 dsimp only [shr]
 rw [ntN,Aa (dcT ⟨⟨by omega,h1,h2,h3,h4⟩,h5,h6,h7,h8⟩)]
 have hy:=hf s a b h1 h2 h3 h4
 rw [drop_zero,take_length,drop_zero,take_length]
 generalize f s a b=y at *
 rw [Aa (dcT (by omega))]
 repeat rw [ntN]
 rw [Aa (dcT ⟨by omega,hy.2.1,h2,hy.2.2.1,hy.2.2.2.1⟩)]
 obtain ⟨p1,p2⟩:=BG (bdI y.2.2) hy.2.1
 generalize blA s y.2.1 (bdI y.2.2)=p at *
 repeat rw [ntN]
 rw [Aa (dcT ⟨by omega,p2,h2,hy.2.2.1,hy.2.2.2.1⟩)]
 have e44:((bif bdI y.2.2 then (0:Int) else (((nxt s p).toNat:Nat):Int)) != 44) = !(!bdI y.2.2&&(nxt s p==44)):=by
  cases bdI y.2.2 with
  | true=>rfl
  | false=>exact congrArg (fun x=>!x) (u8n (nxt s p) (k:=44) (by decide))
 rw [e44]
 cases q : !bdI y.2.2&&(nxt s p==44) with
 | true=>
  rw [Bool.not_true,A1,A4,Aa (dcT ⟨by omega,p2,h2,hy.2.2.1,hy.2.2.2.1,by decide,by decide⟩)]
  rfl
 | false=>rw [Bool.not_false,A4,A1]
theorem Pj (n:Nat) (f:By->Nat->Int->Rose Lab×Nat×Int) (q:By×RL×Nat×Int->RL×Nat×Int) (s:By) (a:Nat) (b d:Int) (nm:By) (no:Int) (mu:Bool) (ap:Bool) (o:RL) (h1:a<=s.length) (h2:s.length<=400) (h3 : -1<=b) (h4:b<=1000) (h5:1<=n) (h6:0<=d) (h7:d<=1000) (h8:0<=b\/(s.length-a+3<=n/\d+(s.length-a:Nat)<=450)) (h9:o.length<=3000):Dp prog (Ab [(26,.own qbG),(23,.rd1 qnG),(11,.own qfG),(22,.own qmP),(24,.own qwP),(25,.own quP),(27,.own (Ea n f)),(28,.rd1 pkG)]) (Ab [(6,qmE n q),(1000020,pcE n f),(1000017,pdE n f)]) 1 (Dh f10 1000017) (pdE n f) ([.ptr 0 0,.j d,.ptr 1 0,.ptr 2 0,.s nm,.j no,.b mu,.b ap],[some (.box [.s s,.j ((a:Nat)),.j (b)]),some (.box [.j 0,.s [],.j 0,.b false,.j 0,.ref 3 0 0]),some (.box [.j 5,.s [],.j 0,.b false,.j 0,.ref 4 0 o.length]),R0 (.rose LCd) [],R0 (.rose LCd) o])=(ifB (!bdI (f s a (flW s a b ap)).2.2&&(nxt s (blA s (f s a (flW s a b ap)).2.1 (bdI (f s a (flW s a b ap)).2.2))==44)) (some ((.normal:Ex),([.ptr 0 0,.j d,.ptr 1 0,.ptr 2 0],[some (.box [.s s,.j (((mkP 44 s (blA s (f s a (flW s a b ap)).2.1 (bdI (f s a (flW s a b ap)).2.2)) (f s a (flW s a b ap)).2.2).1:Nat)),.j ((mkP 44 s (blA s (f s a (flW s a b ap)).2.1 (bdI (f s a (flW s a b ap)).2.2)) (f s a (flW s a b ap)).2.2).2)]),some (.box [.j 0,.s [],.j 0,.b false,.j 0,.ref 3 0 0]),some (.box [.j 5,.s [],.j 0,.b false,.j 0,.ref 4 0 (AE o (.node ((f s a (flW s a b ap)).1.lab.1,nm,no,mu,(f s a (flW s a b ap)).1.lab.2.2.2.2.1,()) (f s a (flW s a b ap)).1.kids)).length]),R0 (.rose LCd) [],R0 (.rose LCd) (AE o (.node ((f s a (flW s a b ap)).1.lab.1,nm,no,mu,(f s a (flW s a b ap)).1.lab.2.2.2.2.1,()) (f s a (flW s a b ap)).1.kids))]))) (some ((.exit 0:Ex),([.ptr 0 0,.j d,.ptr 1 0,.ptr 2 0],[some (.box [.s s,.j (((blA s (f s a (flW s a b ap)).2.1 (bdI (f s a (flW s a b ap)).2.2)):Nat)),.j ((f s a (flW s a b ap)).2.2)]),some (.box [.j 0,.s [],.j 0,.b false,.j 0,.ref 3 0 0]),some (.box [.j 5,.s [],.j 0,.b false,.j 0,.ref 4 0 (AE o (.node ((f s a (flW s a b ap)).1.lab.1,nm,no,mu,(f s a (flW s a b ap)).1.lab.2.2.2.2.1,()) (f s a (flW s a b ap)).1.kids)).length]),R0 (.rose LCd) [],R0 (.rose LCd) (AE o (.node ((f s a (flW s a b ap)).1.lab.1,nm,no,mu,(f s a (flW s a b ap)).1.lab.2.2.2.2.1,()) (f s a (flW s a b ap)).1.kids))])))):=by
 rw [ND]
 dsimp only [shr]
 repeat rw [ntN]
 have g4:=Hd (p:=a) (b:=b) (by omega) h4
 rw [Aa (dcT ⟨by omega,h1,h2,h3,h4⟩)]
 have hlo:=IQ (nxt s a) (bdI b)
 unfold flW
 cases ap with
 | true=>rw [Bool.not_true,A1,Bool.false_and,cond_false,Aa (dcT ⟨⟨by omega,h1,h2,h3,h4⟩,h5,h6,h7,h8,rfl,h9⟩)]
 | false=>
  rw [Bool.not_false,A4,Bool.true_and]
  cases q : !bdI b&&Be (nxt s a) with
  | true=>
   rw [q,anE] at hlo
   rw [Ag hlo.1,Ag hlo.2,Aa (dcT ⟨by omega,h1,h2,h3,h4⟩),Aa (dcT ⟨⟨by omega,h1,h2,by omega,g4.2⟩,h5,h6,h7,.inl g4.1,rfl,h9⟩),cond_true]
  | false=>
   rw [q] at hlo
   cases z1:decide ((bif bdI b then (0:Int) else ((nxt s a).toNat:Int))>=97) with
   | false=>rw [A1,cond_false,Aa (dcT ⟨⟨by omega,h1,h2,h3,h4⟩,h5,h6,h7,h8,rfl,h9⟩)]
   | true=>
    rw [z1,Bool.true_and] at hlo
    rw [hlo,A4,A1,cond_false,Aa (dcT ⟨⟨by omega,h1,h2,h3,h4⟩,h5,h6,h7,h8,rfl,h9⟩)]
theorem Qx (n:Nat) (f:By->Nat->Int->Rose Lab×Nat×Int) (hf:BdQ f) (q:By×RL×Nat×Int->RL×Nat×Int) : ∀ d e d',((pcE n f).L d).run=some (e,d')->Dp prog (Ab [(26,.own qbG),(23,.rd1 qnG),(11,.own qfG),(22,.own qmP),(24,.own qwP),(25,.own quP),(27,.own (Ea n f)),(28,.rd1 pkG)]) (Ab [(6,qmE n q),(1000020,pcE n f),(1000017,pdE n f)]) 1 (Dh f10 1000020) (pcE n f) d=some (e,d'):=fun dd e d' h=>by
 unfold pcE at h
 dsimp only at h
 split at h
 ·rename_i d nm no mu s a b m o
  obtain ⟨hc,hx⟩:=Ae h
  obtain ⟨⟨h0,h1,h2,h3,h4⟩,h5,h6,h7,h8,rfl,h9⟩:=of_decide_eq_true hc
  obtain ⟨a,rfl⟩:=Int.eq_ofNat_of_zero_le h0
  simp only [ntN] at h1 h8 hx
  exact (Pk n f hf q s a b d nm no mu o h1 h2 h3 h4 h5 h6 h7 h8 h9).trans hx
 ·cases h
theorem Qw (n:Nat) (f:By->Nat->Int->Rose Lab×Nat×Int) (q:By×RL×Nat×Int->RL×Nat×Int) : ∀ d e d',((pdE n f).L d).run=some (e,d')->Dp prog (Ab [(26,.own qbG),(23,.rd1 qnG),(11,.own qfG),(22,.own qmP),(24,.own qwP),(25,.own quP),(27,.own (Ea n f)),(28,.rd1 pkG)]) (Ab [(6,qmE n q),(1000020,pcE n f),(1000017,pdE n f)]) 1 (Dh f10 1000017) (pdE n f) d=some (e,d'):=fun dd e d' h=>by
 unfold pdE at h
 dsimp only at h
 split at h
 ·rename_i d nm no mu ap s a b m o
  obtain ⟨hc,hx⟩:=Ae h
  obtain ⟨⟨h0,h1,h2,h3,h4⟩,h5,h6,h7,h8,rfl,h9⟩:=of_decide_eq_true hc
  obtain ⟨a,rfl⟩:=Int.eq_ofNat_of_zero_le h0
  simp only [ntN] at h1 h8 hx
  exact (Pj n f q s a b d nm no mu ap o h1 h2 h3 h4 h5 h6 h7 h8 h9).trans hx
 ·cases h

theorem IE (s:By) (a:Nat) (b:Int):hdQ s a b=(
 let w:=wdP s a b
 let m:=mkP 58 s w.2.1 w.2.2
 let nn:=nrP s m.1 m.2
 let p:=blA s nn.2.1 (bdI nn.2.2)
 bif !bdI nn.2.2&&(nxt s p==33) then
  let x:=mkP 33 s p nn.2.2
  (w.1,nn.1,true,x.1,flW s x.1 x.2 (!bdI x.2&&BZ (nxt s (x.1-1))))
 else (w.1,nn.1,false,p,flW s p nn.2.2 (!bdI nn.2.2&&BZ (nxt s nn.2.1)))):=rfl
theorem Qz (n:Nat) (f:By->Nat->Int->Rose Lab×Nat×Int) (q:By×RL×Nat×Int->RL×Nat×Int) (s:By) (a:Nat) (b d:Int) (o:RL) (h1:a<=s.length) (h2:s.length<=400) (h3 : -1<=b) (h4:b<=1000) (h5:1<=n) (h6:0<=d) (h7:d<=1000) (h8:s.length-a+2<=n/\d+(s.length-a:Nat)<=450) (h9:o.length<=3000) (hb:b<0) :
  AG prog (Ab [(26,.own qbG),(23,.rd1 qnG),(11,.own qfG),(22,.own qmP),(24,.own qwP),(25,.own quP),(27,.own (Ea n f)),(28,.rd1 pkG)]) (Ab [(6,qmE n q),(1000020,pcE n f),(1000017,pdE n f)]) 1 (body f10 0) (qmE n q) ([.ptr 0 0,.j d,.ptr 1 0,.ptr 2 0],[some (.box [.s s,.j ((a:Nat)),.j (b)]),some (.box [.j 0,.s [],.j 0,.b false,.j 0,.ref 3 0 0]),some (.box [.j 5,.s [],.j 0,.b false,.j 0,.ref 4 0 o.length]),R0 (.rose LCd) [],R0 (.rose LCd) o])=(ifB (!bdI (f s (hdQ s a b).2.2.2.1 (hdQ s a b).2.2.2.2).2.2&&(nxt s (blA s (f s (hdQ s a b).2.2.2.1 (hdQ s a b).2.2.2.2).2.1 (bdI (f s (hdQ s a b).2.2.2.1 (hdQ s a b).2.2.2.2).2.2))==44)) (some ((.normal:Ex),([.ptr 0 0,.j d,.ptr 1 0,.ptr 2 0],[some (.box [.s s,.j (((mkP 44 s (blA s (f s (hdQ s a b).2.2.2.1 (hdQ s a b).2.2.2.2).2.1 (bdI (f s (hdQ s a b).2.2.2.1 (hdQ s a b).2.2.2.2).2.2)) (f s (hdQ s a b).2.2.2.1 (hdQ s a b).2.2.2.2).2.2).1:Nat)),.j ((mkP 44 s (blA s (f s (hdQ s a b).2.2.2.1 (hdQ s a b).2.2.2.2).2.1 (bdI (f s (hdQ s a b).2.2.2.1 (hdQ s a b).2.2.2.2).2.2)) (f s (hdQ s a b).2.2.2.1 (hdQ s a b).2.2.2.2).2.2).2)]),some (.box [.j 0,.s [],.j 0,.b false,.j 0,.ref 3 0 0]),some (.box [.j 5,.s [],.j 0,.b false,.j 0,.ref 4 0 (AE o (.node ((f s (hdQ s a b).2.2.2.1 (hdQ s a b).2.2.2.2).1.lab.1,(hdQ s a b).1,((hdQ s a b).2.1:Int),(hdQ s a b).2.2.1,(f s (hdQ s a b).2.2.2.1 (hdQ s a b).2.2.2.2).1.lab.2.2.2.2.1,()) (f s (hdQ s a b).2.2.2.1 (hdQ s a b).2.2.2.2).1.kids)).length]),R0 (.rose LCd) [],R0 (.rose LCd) (AE o (.node ((f s (hdQ s a b).2.2.2.1 (hdQ s a b).2.2.2.2).1.lab.1,(hdQ s a b).1,((hdQ s a b).2.1:Int),(hdQ s a b).2.2.1,(f s (hdQ s a b).2.2.2.1 (hdQ s a b).2.2.2.2).1.lab.2.2.2.2.1,()) (f s (hdQ s a b).2.2.2.1 (hdQ s a b).2.2.2.2).1.kids))]))) (some ((.exit 0:Ex),([.ptr 0 0,.ptr 1 0,.ptr 2 0],[some (.box [.s s,.j (((blA s (f s (hdQ s a b).2.2.2.1 (hdQ s a b).2.2.2.2).2.1 (bdI (f s (hdQ s a b).2.2.2.1 (hdQ s a b).2.2.2.2).2.2)):Nat)),.j ((f s (hdQ s a b).2.2.2.1 (hdQ s a b).2.2.2.2).2.2)]),some (.box [.j 0,.s [],.j 0,.b false,.j 0,.ref 3 0 0]),some (.box [.j 5,.s [],.j 0,.b false,.j 0,.ref 4 0 (AE o (.node ((f s (hdQ s a b).2.2.2.1 (hdQ s a b).2.2.2.2).1.lab.1,(hdQ s a b).1,((hdQ s a b).2.1:Int),(hdQ s a b).2.2.1,(f s (hdQ s a b).2.2.2.1 (hdQ s a b).2.2.2.2).1.lab.2.2.2.2.1,()) (f s (hdQ s a b).2.2.2.1 (hdQ s a b).2.2.2.2).1.kids)).length]),R0 (.rose LCd) [],R0 (.rose LCd) (AE o (.node ((f s (hdQ s a b).2.2.2.1 (hdQ s a b).2.2.2.2).1.lab.1,(hdQ s a b).1,((hdQ s a b).2.1:Int),(hdQ s a b).2.2.1,(f s (hdQ s a b).2.2.2.1 (hdQ s a b).2.2.2.2).1.lab.2.2.2.2.1,()) (f s (hdQ s a b).2.2.2.1 (hdQ s a b).2.2.2.2).1.kids))])))):=by
 rw [HI,IE]
 dsimp only [shr]
 rw [Ag (dcT hb)]
 repeat rw [ntN]
 rw [Aa (dcT ⟨by omega,h1,h2,h3,h4,rfl⟩)]
 obtain ⟨w1,w2,w3,w4,w5⟩:=Kt h1 h2 h3 h4
 generalize wdP s a b=w at *
 repeat rw [ntN]
 rw [Aa (dcT ⟨by omega,w2,h2,w3,w4,by decide,by decide⟩)]
 obtain ⟨m1,m2,m3,m4,m5⟩:=BD (m:=58) (by decide) w2 h2 w3 w4
 generalize mkP 58 s w.2.1 w.2.2=m at *
 repeat rw [ntN]
 rw [Aa (dcT ⟨by omega,m2,h2,m3,m4⟩)]
 obtain ⟨n1,n2,n3,n4,n5⟩:=GN m2 h2 m3 m4
 generalize nrP s m.1 m.2=nn at *
 repeat rw [ntN]
 rw [Aa (dcT ⟨by omega,n2,h2,n3,n4⟩)]
 obtain ⟨p1,p2⟩:=BG (bdI nn.2.2) n2
 rw [LE,LF,Qk]
 generalize blA s nn.2.1 (bdI nn.2.2)=p at *
 repeat rw [ntN]
 have gp:0<=nn.2.2\/(s.length-p+3<=n/\d+((s.length-p:Nat):Int)<=450):=by
  by_cases c:nn.2.2<0
  ·have c2:=n5 c; have c3:=m5 c2; have c4:=w5 c3.2; exact .inr (by omega)
  ·exact .inl (by omega)
 have eb:BZ (nxt s nn.2.1)=(nxt s nn.2.1==32||nxt s nn.2.1==10):=rfl
 rw [eb]
 cases q32 : !bdI nn.2.2&&(nxt s nn.2.1==32) with
 | true=>
  have q32':(!bdI nn.2.2&&(nxt s nn.2.1==32||nxt s nn.2.1==10))=true:=by rw [anE] at q32 ⊢; exact ⟨q32.1,by rw [q32.2]; rfl⟩
  rw [q32',A4,Aa (dcT ⟨by omega,n2,h2,n3,n4⟩),Aa (dcT ⟨by omega,p2,h2,n3,n4⟩)]
  cases q33 : !bdI nn.2.2&&(nxt s p==33) with
  | true=>
   obtain ⟨x1,x2,x3,x4,x5⟩:=BD (m:=33) (by decide) p2 h2 n3 n4
   have gx:0<=(mkP 33 s p nn.2.2).2\/(s.length-(mkP 33 s p nn.2.2).1+3<=n/\d+((s.length-(mkP 33 s p nn.2.2).1:Nat):Int)<=450):=by
    by_cases c:(mkP 33 s p nn.2.2).2<0
    ·have c1:=x5 c; have c2:=n5 c1.2; have c3:=m5 c2; have c4:=w5 c3.2; exact .inr (by omega)
    ·exact .inl (by omega)
   rw [A4,cond_true,Aa (dcT ⟨by omega,p2,h2,n3,n4,by decide,by decide⟩)]
   generalize mkP 33 s p nn.2.2=x at *
   by_cases c:x.2<0
   ·have c1:=x5 c
    have W1:i64.wrap ((x.1:Int)-1)=((x.1-1:Nat):Int):=by rw [Ax (by omega) (by omega)]; omega
    have hl:x.1-1<s.length:=by omega
    rw [Ag (dcT c),W1]
    repeat rw [ntN]
    rw [Aa (dcT (by omega)),gtE hl,Aq,Cm.2 c,Bool.not_false,Bool.true_and,Ej hl]
    have e32:(((s[x.1-1].toNat:Nat):Int)==32)=(s[x.1-1]==32):=u8n _ (k:=32) (by decide)
    have e10:(((s[x.1-1].toNat:Nat):Int)==10)=(s[x.1-1]==10):=u8n _ (k:=10) (by decide)
    have eb:BZ s[x.1-1]=(s[x.1-1]==32||s[x.1-1]==10):=rfl
    rw [e32,eb]
    cases z32:s[x.1-1]==32 with
    | true=>rw [A4,Bool.true_or,Aa (dcT ⟨⟨by omega,x2,h2,x3,x4⟩,h5,h6,h7,gx,rfl,h9⟩)]; try rfl
    | false=>
     rw [A1,Bool.false_or,Aa (dcT (by omega)),Aq,e10]
     rw [Aa (dcT ⟨⟨by omega,x2,h2,x3,x4⟩,h5,h6,h7,gx,rfl,h9⟩)]; try rfl
   ·rw [Af (dcF c),(DY (b:=x.2)).2 (by omega),Bool.not_true,Bool.false_and]
    repeat rw [ntN]
    rw [Aa (dcT ⟨⟨by omega,x2,h2,x3,x4⟩,h5,h6,h7,gx,rfl,h9⟩)]; try rfl
  | false=>
   rw [A1,cond_false,Aa (dcT ⟨⟨by omega,p2,h2,n3,n4⟩,h5,h6,h7,gp,rfl,h9⟩)]; try rfl
 | false=>
  have q32':(!bdI nn.2.2&&(nxt s nn.2.1==32||nxt s nn.2.1==10))=(!bdI nn.2.2&&(nxt s nn.2.1==10)):=by
   revert q32
   cases bdI nn.2.2<;>cases nxt s nn.2.1==32<;>simp
  rw [q32',A1,Aa (dcT ⟨by omega,n2,h2,n3,n4⟩),Aa (dcT ⟨by omega,n2,h2,n3,n4⟩),Aa (dcT ⟨by omega,p2,h2,n3,n4⟩)]
  generalize (!bdI nn.2.2&&(nxt s nn.2.1==10))=ap at *
  cases q33 : !bdI nn.2.2&&(nxt s p==33) with
  | true=>
   obtain ⟨x1,x2,x3,x4,x5⟩:=BD (m:=33) (by decide) p2 h2 n3 n4
   have gx:0<=(mkP 33 s p nn.2.2).2\/(s.length-(mkP 33 s p nn.2.2).1+3<=n/\d+((s.length-(mkP 33 s p nn.2.2).1:Nat):Int)<=450):=by
    by_cases c:(mkP 33 s p nn.2.2).2<0
    ·have c1:=x5 c; have c2:=n5 c1.2; have c3:=m5 c2; have c4:=w5 c3.2; exact .inr (by omega)
    ·exact .inl (by omega)
   rw [A4,cond_true,Aa (dcT ⟨by omega,p2,h2,n3,n4,by decide,by decide⟩)]
   generalize mkP 33 s p nn.2.2=x at *
   by_cases c:x.2<0
   ·have c1:=x5 c
    have W1:i64.wrap ((x.1:Int)-1)=((x.1-1:Nat):Int):=by rw [Ax (by omega) (by omega)]; omega
    have hl:x.1-1<s.length:=by omega
    rw [Ag (dcT c),W1]
    repeat rw [ntN]
    rw [Aa (dcT (by omega)),gtE hl,Aq,Cm.2 c,Bool.not_false,Bool.true_and,Ej hl]
    have e32:(((s[x.1-1].toNat:Nat):Int)==32)=(s[x.1-1]==32):=u8n _ (k:=32) (by decide)
    have e10:(((s[x.1-1].toNat:Nat):Int)==10)=(s[x.1-1]==10):=u8n _ (k:=10) (by decide)
    have eb:BZ s[x.1-1]=(s[x.1-1]==32||s[x.1-1]==10):=rfl
    rw [e32,eb]
    cases z32:s[x.1-1]==32 with
    | true=>rw [A4,Bool.true_or,Aa (dcT ⟨⟨by omega,x2,h2,x3,x4⟩,h5,h6,h7,gx,rfl,h9⟩)]; try rfl
    | false=>
     rw [A1,Bool.false_or,Aa (dcT (by omega)),Aq,e10]
     rw [Aa (dcT ⟨⟨by omega,x2,h2,x3,x4⟩,h5,h6,h7,gx,rfl,h9⟩)]; try rfl
   ·rw [Af (dcF c),(DY (b:=x.2)).2 (by omega),Bool.not_true,Bool.false_and]
    repeat rw [ntN]
    rw [Aa (dcT ⟨⟨by omega,x2,h2,x3,x4⟩,h5,h6,h7,gx,rfl,h9⟩)]; try rfl
  | false=>
   rw [A1,cond_false,Aa (dcT ⟨⟨by omega,p2,h2,n3,n4⟩,h5,h6,h7,gp,rfl,h9⟩)]; try rfl

theorem II {s:By} {a:Nat} {b:Int} (ap:Bool) (h1:a<=400) (h3 : -1<=b) (h4:b<=1000) : -1<=flW s a b ap/\flW s a b ap<=1000/\(flW s a b ap<0->b<0):=by
 have g:=Hd h1 h4
 unfold flW
 cases (!ap&&(!bdI b&&Be (nxt s a))) with
 | true=>rw [cond_true]; exact ⟨by omega,g.2,fun h=>by omega⟩
 | false=>rw [cond_false]; exact ⟨h3,h4,fun h=>h⟩
theorem Le {s:By} {a:Nat} {b:Int} (h1:a<=s.length) (h2:s.length<=400) (h3 : -1<=b) (h4:b<=1000):a<=(hdQ s a b).2.2.2.1/\(hdQ s a b).2.2.2.1<=s.length/\-1<=(hdQ s a b).2.2.2.2/\(hdQ s a b).2.2.2.2<=1000/\((hdQ s a b).2.2.2.2<0->b<0/\a+2<=(hdQ s a b).2.2.2.1):=by
 rw [IE]
 dsimp only
 obtain ⟨w1,w2,w3,w4,w5⟩:=Kt h1 h2 h3 h4
 generalize wdP s a b=w at *
 obtain ⟨m1,m2,m3,m4,m5⟩:=BD (m:=58) (by decide) w2 h2 w3 w4
 generalize mkP 58 s w.2.1 w.2.2=m at *
 obtain ⟨n1,n2,n3,n4,n5⟩:=GN m2 h2 m3 m4
 generalize nrP s m.1 m.2=nn at *
 obtain ⟨p1,p2⟩:=BG (bdI nn.2.2) n2
 generalize blA s nn.2.1 (bdI nn.2.2)=p at *
 have hc:nn.2.2<0->b<0/\a+2<=p:=fun c=>by
  have c2:=n5 c; have c3:=m5 c2; have c4:=w5 c3.2; omega
 cases !bdI nn.2.2&&(nxt s p==33) with
 | true=>
  rw [cond_true]
  dsimp only
  obtain ⟨x1,x2,x3,x4,x5⟩:=BD (m:=33) (by decide) p2 h2 n3 n4
  generalize mkP 33 s p nn.2.2=x at *
  obtain ⟨g1,g2,g3⟩:=II (s:=s) (a:=x.1) (!bdI x.2&&BZ (nxt s (x.1-1))) (by omega) x3 x4
  exact ⟨by omega,x2,g1,g2,fun h=>by have c1:=x5 (g3 h); have:=hc c1.2; omega⟩
 | false=>
  rw [cond_false]
  obtain ⟨g1,g2,g3⟩:=II (s:=s) (a:=p) (!bdI nn.2.2&&BZ (nxt s nn.2.1)) (by omega) n3 n4
  exact ⟨by show a<=p; omega,p2,g1,g2,fun h=>hc (g3 h)⟩
theorem KJ (f:By->Nat->Int->Rose Lab×Nat×Int) (hf:BdQ f) : ∀ (k:Nat) (s:By) (o:RL) (a:Nat) (b:Int),a<=s.length->s.length<=400->-1<=b->b<=1000->a<=(lpQ f k s o a b).2.1/\(lpQ f k s o a b).2.1<=s.length/\-1<=(lpQ f k s o a b).2.2/\(lpQ f k s o a b).2.2<=1000/\((lpQ f k s o a b).2.2<0->b<0)
 | 0,s,o,a,b,h1,h2,h3,h4=>⟨le_refl _,h1,h3,h4,fun h=>h⟩
 | k+1,s,o,a,b,h1,h2,h3,h4=>by
  rw [lpQ]
  cases q0:bdI b with
  | true=>exact ⟨le_refl _,h1,h3,h4,fun h=>h⟩
  | false=>
   rw [cond_false]
   dsimp only
   obtain ⟨d1,d2,d3,d4,d5⟩:=Le h1 h2 h3 h4
   generalize hdQ s a b=h at *
   obtain ⟨y1,y2,y3,y4,y5⟩:=hf s h.2.2.2.1 h.2.2.2.2 d2 h2 d3 d4
   generalize f s h.2.2.2.1 h.2.2.2.2=y at *
   obtain ⟨p1,p2⟩:=BG (bdI y.2.2) y2
   generalize blA s y.2.1 (bdI y.2.2)=p at *
   cases !bdI y.2.2&&(nxt s p==44) with
   | true=>
    rw [cond_true]
    obtain ⟨x1,x2,x3,x4,x5⟩:=BD (m:=44) (by decide) p2 h2 y3 y4
    generalize mkP 44 s p y.2.2=x at *
    obtain ⟨r1,r2,r3,r4,r5⟩:=KJ f hf k s (AE o (.node (y.1.lab.1,h.1,(h.2.1:Int),h.2.2.1,y.1.lab.2.2.2.2.1,()) y.1.kids)) x.1 x.2 x2 h2 x3 x4
    exact ⟨by omega,r2,r3,r4,fun c=>(d5 (y5 (x5 (r5 c)).2)).1⟩
   | false=>rw [cond_false]; exact ⟨by show a<=p; omega,p2,y3,y4,fun c=>(d5 (y5 c)).1⟩
theorem Jp (n:Nat) (f:By->Nat->Int->Rose Lab×Nat×Int) (hf:BdQ f) (q:By×RL×Nat×Int->RL×Nat×Int) (d:Int) (h6:0<=d) (h7:d<=1000) {s:By} (h2:s.length<=400) : ∀ (k:Nat) (o:RL) (a:Nat) (b:Int),a<=s.length->-1<=b->b<=1000->(0<=b\/(s.length-a+2<=n/\d+((s.length-a:Nat):Int)<=450))->1<=k->(0<=b\/s.length-a+2<=k)->o.length+k<=3000->
  Runs prog (Ab [(26,.own qbG),(23,.rd1 qnG),(11,.own qfG),(22,.own qmP),(24,.own qwP),(25,.own quP),(27,.own (Ea n f)),(28,.rd1 pkG)]) (Ab [(6,qmE n q),(1000020,pcE n f),(1000017,pdE n f)]) 1 (body f10 0) (qmE n q) ([.ptr 0 0,.j d,.ptr 1 0,.ptr 2 0],[some (.box [.s s,.j ((a:Nat)),.j (b)]),some (.box [.j 0,.s [],.j 0,.b false,.j 0,.ref 3 0 0]),some (.box [.j 5,.s [],.j 0,.b false,.j 0,.ref 4 0 o.length]),R0 (.rose LCd) [],R0 (.rose LCd) o]) (.exit 0) ([.ptr 0 0,.ptr 1 0,.ptr 2 0],[some (.box [.s s,.j (((lpQ f k s o a b).2.1:Nat)),.j ((lpQ f k s o a b).2.2)]),some (.box [.j 0,.s [],.j 0,.b false,.j 0,.ref 3 0 0]),some (.box [.j 5,.s [],.j 0,.b false,.j 0,.ref 4 0 (lpQ f k s o a b).1.length]),R0 (.rose LCd) [],R0 (.rose LCd) (lpQ f k s o a b).1])
 | 0,o,a,b,_,_,_,_,hk,_,_=>by omega
 | k+1,o,a,b,h1,h3,h4,h8,hk,hk2,ho=>by
  rw [lpQ]
  by_cases hb:b<0
  ·have h8:s.length-a+2<=n/\d+((s.length-a:Nat):Int)<=450:=by
    rcases h8 with h8 | h8
    ·omega
    ·exact h8
   have hr:=Qz n f q s a b d o h1 h2 h3 h4 (by omega) h6 h7 h8 (by omega) hb
   rw [Cm.2 hb,cond_false]
   dsimp only
   obtain ⟨d1,d2,d3,d4,d5⟩:=Le h1 h2 h3 h4
   generalize hdQ s a b=h at *
   obtain ⟨y1,y2,y3,y4,y5⟩:=hf s h.2.2.2.1 h.2.2.2.2 d2 h2 d3 d4
   generalize f s h.2.2.2.1 h.2.2.2.2=y at *
   obtain ⟨p1,p2⟩:=BG (bdI y.2.2) y2
   generalize blA s y.2.1 (bdI y.2.2)=p at *
   have el:=NP o (.node (y.1.lab.1,h.1,(h.2.1:Int),h.2.2.1,y.1.lab.2.2.2.2.1,()) y.1.kids)
   generalize AE o (.node (y.1.lab.1,h.1,(h.2.1:Int),h.2.2.1,y.1.lab.2.2.2.2.1,()) y.1.kids)=o2 at *
   cases q1 : !bdI y.2.2&&(nxt s p==44) with
   | true=>
    rw [q1,A4] at hr
    rw [cond_true]
    obtain ⟨x1,x2,x3,x4,x5⟩:=BD (m:=44) (by decide) p2 h2 y3 y4
    generalize mkP 44 s p y.2.2=x at *
    have ih:=Jp n f hf q d h6 h7 h2 k o2 x.1 x.2 x2 x3 x4 (by
     by_cases c:x.2<0
     ·have:=x5 c; exact .inr (by omega)
     ·exact .inl (by omega)) (by omega) (by
     by_cases c:x.2<0
     ·have:=x5 c; exact .inr (by omega)
     ·exact .inl (by omega)) (by omega)
    exact sts hr ih
   | false=>
    rw [q1,A1] at hr
    rw [cond_false]
    exact stp hr
  ·have hr:=HI n f q s a b d o.length o
   dsimp only [shr] at hr
   rw [Af (dcF hb)] at hr
   rw [DY.2 (by omega),cond_true]
   exact stp hr
theorem Pm (n:Nat) (f:By->Nat->Int->Rose Lab×Nat×Int) (bf:BdQ f) (hf:Ad prog 27 (Ent.own (Ea n f)).F):Ad prog 10 (Ent.own (Jq (n+1) (msQ f))).F:=by
 refine fcC (kc func26 qbl (kc func23 qnx (kc func11 qfl (kc func22 Rn (kc func24 RS (kc func25 Rm (kc func27 hf (kc func28 pkC KnowsL.nil)))))))).knows (Λ:=(Ab [(6,qmE n (fun x=>lpQ f 1000 x.1 x.2.1 x.2.2.1 x.2.2.2)),(1000020,pcE n f),(1000017,pdE n f)])) func10 fun vs bs r hq=>?_
 unfold Ent.F Jq at hq
 dsimp only at hq
 split at hq
 ·rename_i d s a b
  obtain ⟨hc,hx⟩:=Ae hq
  refine ⟨CutsI.loops (cs:=[(Dh f10 1000017,pdE n f),(Dh f10 1000020,pcE n f)]) (.cons (Qw n f (fun x=>lpQ f 1000 x.1 x.2.1 x.2.2.1 x.2.2.2)) (.cons (Qx n f bf (fun x=>lpQ f 1000 x.1 x.2.1 x.2.2.1 x.2.2.2)) .nil)) (.cons (a:=body f10 0) (ent:=qmE n (fun x=>lpQ f 1000 x.1 x.2.1 x.2.2.1 x.2.2.2)) (by rfl) (fun d ex d' hd=>?_) .nil) (by kernel_rfl) (by kernel_rfl),(NH n f (fun x=>lpQ f 1000 x.1 x.2.1 x.2.2.1 x.2.2.2) s a b d).trans (Eq.trans ?_ hx)⟩
  ·unfold qmE at hd
   dsimp only at hd
   split at hd
   ·rename_i d s a b m o
    obtain ⟨hc,hx⟩:=Ae hd
    obtain ⟨⟨h0,h1,h2,h3,h4⟩,h6,h7,h8,rfl,h5⟩:=of_decide_eq_true hc
    obtain ⟨a,rfl⟩:=Int.eq_ofNat_of_zero_le h0
    simp only [ntN] at h1 h8 hx
    obtain ⟨rfl,rfl⟩:=Prod.mk.inj (AD hx)
    exact Jp n f bf _ d h6 h7 h2 1000 o a b h1 h3 h4 h8 (by omega) (.inr (by omega)) (by omega)
   ·cases hd
  ·dsimp only [shr]
   obtain ⟨⟨h0,h1,h2,h3,h4⟩,h5,h6,h7,h8⟩:=of_decide_eq_true hc
   obtain ⟨a,rfl⟩:=Int.eq_ofNat_of_zero_le h0
   rw [ntN] at h1 h8
   repeat rw [ntN]
   rw [Aa (dcT ⟨by omega,h1,h2,h3,h4,by decide,by decide⟩)]
   unfold msQ
   dsimp only
   obtain ⟨x1,x2,x3,x4,x5⟩:=BD (m:=123) (by decide) h1 h2 h3 h4
   generalize mkP 123 s a b=x at *
   repeat rw [ntN]
   have e125:((bif bdI x.2 then (0:Int) else (((nxt s x.1).toNat:Nat):Int))==125)=(!bdI x.2&&(nxt s x.1==125)):=by
    cases bdI x.2 with
    | true=>rfl
    | false=>exact u8n (nxt s x.1) (k:=125) (by decide)
   rw [Aa (dcT ⟨by omega,x2,h2,x3,x4⟩),e125]
   cases q1 : !bdI x.2&&(nxt s x.1==125) with
   | true=>rw [A4,cond_true,Aa (dcT ⟨by omega,x2,h2,x3,x4,by decide,by decide⟩)]; rfl
   | false=>
    obtain ⟨g1,g2,g3,g4,g5⟩:=KJ f bf 1000 s [] x.1 x.2 x2 h2 x3 x4
    have hlv:0<=x.2\/(s.length-x.1+2<=n/\d+((s.length-x.1:Nat):Int)<=450):=by
     by_cases c:x.2<0
     ·have:=x5 c; exact .inr (by omega)
     ·exact .inl (by omega)
    rw [A1,cond_false,Aa (dcT ⟨⟨by omega,x2,h2,x3,x4⟩,h6,h7,hlv,rfl,by omega⟩),Di]
    generalize lpQ f 1000 s [] x.1 x.2=y at *
    repeat rw [ntN]
    rw [Aa (dcT ⟨by omega,g2,h2,g3,g4,by decide,by decide⟩)]
    rfl
 ·cases hq
theorem BdQ.ms (f:By->Nat->Int->Rose Lab×Nat×Int) (hf:BdQ f):BdQ (msQ f):=fun s a b h1 h2 h3 h4=>by
 unfold msQ
 dsimp only
 obtain ⟨x1,x2,x3,x4,x5⟩:=BD (m:=123) (by decide) h1 h2 h3 h4
 generalize mkP 123 s a b=x at *
 cases !bdI x.2&&(nxt s x.1==125) with
 | true=>
  rw [cond_true]
  obtain ⟨z1,z2,z3,z4,z5⟩:=BD (m:=125) (by decide) x2 h2 x3 x4
  exact ⟨by show a<=(mkP 125 s x.1 x.2).1; omega,z2,z3,z4,fun c=>(x5 (z5 c).2).2⟩
 | false=>
  rw [cond_false]
  obtain ⟨g1,g2,g3,g4,g5⟩:=KJ f hf 1000 s [] x.1 x.2 x2 h2 x3 x4
  generalize lpQ f 1000 s [] x.1 x.2=y at *
  obtain ⟨z1,z2,z3,z4,z5⟩:=BD (m:=125) (by decide) g2 h2 g3 g4
  exact ⟨by show a<=(mkP 125 s y.2.1 y.2.2).1; omega,z2,z3,z4,fun c=>(x5 (g5 (z5 c).2)).2⟩
theorem BdQ.ty (f g:By->Nat->Int->Rose Lab×Nat×Int) (hf:BdQ f) (hg:BdQ g):BdQ (tyQ f g):=fun s a b h1 h2 h3 h4=>by
 unfold tyQ
 obtain ⟨p1,p2⟩:=BG (bdI b) h1
 generalize blA s a (bdI b)=p at *
 cases q0:bdI b with
 | true=>rw [cond_true]; exact ⟨p1,p2,h3,h4,fun h=>h⟩
 | false=>
  rw [cond_false]
  have hb:=Cm.1 q0
  cases nxt s p==91 with
  | true=>
   rw [cond_true]
   dsimp only
   obtain ⟨x1,x2,x3,x4,x5⟩:=BD (m:=91) (by decide) p2 h2 h3 h4
   generalize mkP 91 s p b=x at *
   obtain ⟨y1,y2,y3,y4,y5⟩:=hf s x.1 x.2 x2 h2 x3 x4
   generalize f s x.1 x.2=y at *
   obtain ⟨z1,z2,z3,z4,z5⟩:=BD (m:=93) (by decide) y2 h2 y3 y4
   exact ⟨by omega,z2,z3,z4,fun _=>hb⟩
  | false=>
   rw [cond_false]
   cases nxt s p==123 with
   | true=>
    rw [cond_true]
    obtain ⟨y1,y2,y3,y4,y5⟩:=hg s p b p2 h2 h3 h4
    exact ⟨by omega,y2,y3,y4,y5⟩
   | false=>
    rw [cond_false]
    have k1:=O5 s p2
    have k0:p<=(kdF s p).2.1:=by
     unfold kdF
     by_cases q:kqN s p 0=0
     ·rw [if_pos q]; exact Nat.le_add_right _ _
     ·rw [if_neg q]; exact Nat.le_add_right _ _
    generalize kdF s p=k at *
    dsimp only
    have k2 : -1<=(bif k.2.2 then ((k.2.1:Nat):Int) else b)/\(bif k.2.2 then ((k.2.1:Nat):Int) else b)<=1000:=by
     cases k.2.2 with
     | true=>rw [cond_true]; omega
     | false=>rw [cond_false]; omega
    generalize (bif k.2.2 then ((k.2.1:Nat):Int) else b)=b1 at *
    cases k.1==3 with
    | true=>
     rw [cond_true]
     unfold enQ
     dsimp only
     obtain ⟨m1,m2,m3,m4,m5⟩:=BD (m:=40) (by decide) k1 h2 k2.1 k2.2
     generalize mkP 40 s k.2.1 b1=x at *
     obtain ⟨r1,r2,r3,r4,r5⟩:=GN m2 h2 m3 m4
     generalize nrP s x.1 x.2=y at *
     obtain ⟨z1,z2,z3,z4,z5⟩:=BD (m:=41) (by decide) r2 h2 r3 r4
     exact ⟨by omega,z2,z3,z4,fun _=>hb⟩
    | false=>rw [cond_false]; exact ⟨by show a<=k.2.1; omega,k1,k2.1,k2.2,fun _=>hb⟩

open Go.Shelf in
def Qp:Ren:=⟨fun k=>match k with | 6=>54 | 14=>65 | 15=>66 | 20=>77 | 21=>78 | 22=>79 | 23=>80 | 24=>81 | 25=>82 | 26=>83 | 27=>84 | 28=>85 | 29=>86 | 46=>91 | 47=>92 | 48=>93 | 49=>94 | 50=>95 | 57=>98 | k=>k,
 fun k=>match k with | 0=>0 | 3=>3 | 4=>4 | 5=>5 | 9=>9 | 22=>52 | 25=>85 | 39=>92 | 45=>105 | 46=>106 | 50=>110 | 53=>113 | 55=>96 | 66=>118 | 70=>122 | 76=>124 | 77=>125 | 24=>31 | k=>k,fun k=>k⟩
open Go.Shelf in
theorem L3:SlLaysF.n6 prog Qp:=⟨by kernel_rfl,⟨f54.name,by kernel_rfl,by kernel_rfl⟩,⟨f65.name,by kernel_rfl,by kernel_rfl⟩,by kernel_rfl,⟨f77.name,by kernel_rfl,by kernel_rfl⟩,⟨f78.name,by kernel_rfl,by kernel_rfl⟩,⟨f79.name,by kernel_rfl,by kernel_rfl⟩,⟨f80.name,by kernel_rfl,by kernel_rfl⟩,⟨f81.name,by kernel_rfl,by kernel_rfl⟩,⟨f82.name,by kernel_rfl,by kernel_rfl⟩,⟨f83.name,by kernel_rfl,by kernel_rfl⟩,⟨f84.name,by kernel_rfl,by kernel_rfl⟩,by kernel_rfl,by kernel_rfl,⟨f91.name,by kernel_rfl,by kernel_rfl⟩,by kernel_rfl,by kernel_rfl,⟨f94.name,by kernel_rfl,by kernel_rfl⟩,⟨f95.name,by kernel_rfl,by kernel_rfl⟩,⟨f98.name,by kernel_rfl,by kernel_rfl⟩,by kernel_rfl,fun w=>by kernel_rfl,fun w=>by kernel_rfl,fun w=>by kernel_rfl,by kernel_rfl,fun w=>by kernel_rfl,fun w=>by kernel_rfl,fun w=>by kernel_rfl,by kernel_rfl,fun w=>by kernel_rfl,fun w=>by kernel_rfl,fun w=>by kernel_rfl,by kernel_rfl,fun w=>by kernel_rfl,fun w=>by kernel_rfl,fun w=>by kernel_rfl,by kernel_rfl,fun w=>by kernel_rfl,fun w=>by kernel_rfl,fun w=>by kernel_rfl,by kernel_rfl,fun w=>by kernel_rfl,fun w=>by kernel_rfl,fun w=>by kernel_rfl,fun w=>by kernel_rfl,fun w=>by kernel_rfl,by kernel_rfl,fun w=>by kernel_rfl,fun w=>by kernel_rfl,fun w=>by kernel_rfl,by kernel_rfl,fun w=>by kernel_rfl,fun w=>by kernel_rfl,fun w=>by kernel_rfl,by kernel_rfl,fun w=>by kernel_rfl,fun w=>by kernel_rfl,fun w=>by kernel_rfl,by kernel_rfl,fun w=>by kernel_rfl,fun w=>by kernel_rfl,fun w=>by kernel_rfl,by kernel_rfl,fun w=>by kernel_rfl,fun w=>by kernel_rfl,fun w=>by kernel_rfl,by kernel_rfl,fun w=>by kernel_rfl,fun w=>by kernel_rfl,fun w=>by kernel_rfl,by kernel_rfl,fun w=>by kernel_rfl,fun w=>by kernel_rfl,fun w=>by kernel_rfl,by kernel_rfl,fun w=>by kernel_rfl,fun w=>by kernel_rfl,fun w=>by kernel_rfl,by kernel_rfl,fun w=>by kernel_rfl,fun w=>by kernel_rfl,fun w=>by kernel_rfl,by kernel_rfl,fun w=>by kernel_rfl,fun w=>by kernel_rfl,fun w=>by kernel_rfl,by kernel_rfl,fun w=>by kernel_rfl,fun w=>by kernel_rfl,fun w=>by kernel_rfl⟩
open Go.Shelf in
def QV:Ren:=⟨fun k=>match k with | 5=>56 | 7=>67 | k=>k,
 fun k=>match k with | 3=>3 | 4=>4 | 22=>3 | k=>k,fun k=>k⟩
open Go.Shelf in
theorem PU:SlLaysC2.n5 prog QV:=⟨by kernel_rfl,⟨f56.name,by kernel_rfl,by kernel_rfl⟩,⟨f67.name,by kernel_rfl,by kernel_rfl⟩,by kernel_rfl,fun w=>by kernel_rfl,fun w=>by kernel_rfl,fun w=>by kernel_rfl,by kernel_rfl,fun w=>by kernel_rfl,fun w=>by kernel_rfl,fun w=>by kernel_rfl,by kernel_rfl,fun w=>by kernel_rfl,fun w=>by kernel_rfl,fun w=>by kernel_rfl⟩
abbrev Kw (w:World) (R:Nat->Prop) (μ:Nat->Option RB):Type:={p:Rose Lab×Value // VRep w R μ (.tp LCd p.1 0) p.2}
def Du {w:World} {R:Nat->Prop} {μ:Nat->Option RB} (x:Kw w R μ):Value:=x.1.2
section
open Go.Shelf Go.RowKit Go.Lib Go.Sort
set_option maxHeartbeats 1000000 in
theorem OM (b1 b2:Nat) (n1 n2:Int) (W:World) (h1:W.cell? ⟨b1,2,none⟩=some (.int .i64 n1)) (h2:W.cell? ⟨b2,2,none⟩=some (.int .i64 n2)):Calls prog 55 #[.pointer (some ⟨b1,0,none⟩),.pointer (some ⟨b2,0,none⟩)] W fun r w'=>r = .returned (.int .i64 (Go.Lib.compareInt n1 n2))/\∃ q os',w'=grow (W.drewN q) os':=by
 have hcon:=fun W'=>AnyG.cmp_Compare_int PU n1 n2 W'
 change ∀ W',Calls prog 56 _ _ _ at hcon
 generalize Go.Lib.compareInt n1 n2=r at hcon ⊢
 go_enter func55,Tryd.ntmps55
 have c1 : ∀ n,(W.drewN n).cell? ⟨b1,2,none⟩=some (.int .i64 n1):=fun n=>h1
 have c2 : ∀ n,(W.drewN n).cell? ⟨b2,2,none⟩=some (.int .i64 n2):=fun n=>h2
 go_wp2
 go_quiet (first | (go_at_call 56; exact Calls.quiet_of_same (hcon _)))
 go_wp2
 go_ret
 exact ⟨rfl,nq,#[],by rw [grow_empty]⟩
variable {w:World} {R:Nat->Prop} {μ:Nat->Option RB}
theorem Oy (x:Kw w R μ) : ∃ b,Du x = .pointer (some ⟨b,0,none⟩)/\R b/\w.cell? ⟨b,2,none⟩=some (.int .i64 (noR x.1.1)):=by
 obtain ⟨⟨z,u⟩,h⟩:=x
 dsimp only at h
 cases h with
 | tp _ _ _ b U h1 h3 h4=>
  refine ⟨b,rfl,h1,?_⟩
  obtain ⟨⟨a0,a1,a2,a3,a4,⟨⟩⟩,ks⟩:=z
  have e:=h3 2 (.j a2) (by rfl)
  have v:=h4 2 (.j a2) (by rfl)
  generalize U 2=u at e v
  cases v
  exact e
theorem Oe:OneCell (Du (w:=w) (R:=R) (μ:=μ)):=fun x=>by
 obtain ⟨b,e,_⟩:=Oy x
 rw [e]; rfl
theorem Gy [Inhabited (Kw w R μ)] {b off m k:Nat} {d:Array (Kw w R μ)} {os:Array Obj} (hk:k<w.heap.size) (hb:k≠b):(sortWorld Du w b off m d os).heap[k]? = w.heap[k]?:=by
 unfold sortWorld
 rw [heap_grow_old _ _ (by simp [Go.Sort.ahead]; exact hk)]
 unfold putRow mapBlock Go.Sort.ahead
 simp [Array.getElem?_modify,Ne.symm hb]
theorem N1 {us:Array Value} : ∀ {l:RL} {off:Nat},(∀ i z,l[i]? = some z->∃ u,us[off+i]? = some u/\VRep w R μ (.tp LCd z 0) u)->∃ d:List (Kw w R μ),d.map (fun x=>x.1.1)=l/\∀ i x,d[i]? = some x->us[off+i]? = some (Du x)
 | [],off,_=>⟨[],rfl,fun i x h=>by simp at h⟩
 | z::l,off,h=>by
  obtain ⟨u,h1,h2⟩:=h 0 z rfl
  obtain ⟨d,e1,e2⟩:=N1 (l:=l) (off:=off+1) fun i y hy=>by
   rw [show off+1+i=off+(i+1) by omega]
   exact h (i+1) y hy
  refine ⟨⟨(z,u),h2⟩::d,by rw [List.map_cons,e1],fun i x hx=>?_⟩
  match i with
  | 0=>cases hx; exact h1
  | i+1=>rw [show off+(i+1)=off+1+i by omega]; exact e2 i x hx
theorem NS {l:RL} {nl:Option Bool} {u0:Value} (hmem:Mem w R μ (fun j=>([.row false nl (.tree LCd) l]:List Blk)[j]?)) (hv:VRep w R μ (.ref 0 0 l.length) u0) (hl:0<l.length) :
  ∃ b off cap us e,u0 = .slice (some ⟨b,off,none⟩) l.length cap/\μ 0=some (.at b off 1 cap l.length)/\w.heap[b]? = some (.cells us e (0,0))/\l.length<=cap/\cap<=maxI/\off+cap*1<=us.size/\∀ i z,l[i]? = some z->∃ u,us[off+i]? = some u/\VRep w R μ (.tp LCd z 0) u:=by
 obtain ⟨rb,hm0,hB⟩:=hmem.blk 0 _ rfl
 generalize hn:l.length=n at hv
 cases hv with
 | vac _ ao hv0=>omega
 | ref _ _ _ b off k cap len a hv0 q0 q1 q2 q3=>
  rw [hm0] at hv0; simp at hv0; subst hv0
  cases hB with
  | row _ _ _ _ _ _ _ _ _ us e hk hh p1 p2 p3 p4 p5=>
  simp [Cd.size] at hk; subst hk
  have ha:a=⟨b,off,none⟩:=by
   rcases q3 with h | h
   ·omega
   ·simpa using h
  subst ha
  refine ⟨b,off,cap,us,e,?_,?_,hh,by omega,p2,p3,fun i z hz=>?_⟩
  ·rw [Nat.sub_zero]
  ·rw [hm0,<-p1.1,hn]
  ·obtain ⟨u,g1,g2⟩:=p4 i z 0 (.tp LCd z 0) hz rfl
   exact ⟨u,by rw [<-g1]; congr 1; omega,g2⟩
theorem GV {w':World} {l l':RL} {nl:Option Bool} {rb:RB} {r:V} {u:Value} (hmem:Mem w R μ (fun j=>([.row false nl (.tree LCd) l]:List Blk)[j]?)) (hnone : ∀ j,1<=j->μ j=none) (hm0:μ 0=some rb)
  (ho:w'.os=w.os) (ht:w'.tape=w.tape) (hp:w'.output=w.output) (hg:w.heap.size<=w'.heap.size) (hs : ∀ k,k<w.heap.size->rb.real≠some k->w'.heap[k]? = w.heap[k]?) (hB:BRep w' R μ rb (.row false none (.tree LCd) l')) (hval:VRep w' R μ r u) :
  Left w R μ (fun j=>([.row false nl (.tree LCd) l]:List Blk)[j]?) r [R0 (.tree LCd) l'] u w' R μ:=by
 have at0 : ∀ j B,(([R0 (.tree LCd) l']:List (Option Blk))[j]?).join=some B->j=0/\B = .row false none (.tree LCd) l':=fun j B hB=>by
  match j with
  | 0=>simp at hB; exact ⟨rfl,hB.symm⟩
  | j+1=>simp at hB
 refine ⟨hval,⟨fun id B h=>?_,fun id id' B B' rb1 rb2 x h1 h2 _ _ _ _ _ _=>?_,fun id B rb1 x h1 _ m1 e1=>?_,fun x hx=>Nat.lt_of_lt_of_le (hmem.rlt x hx) hg⟩,ho,ht,hp,hg,fun k hk hn=>?_,fun x h=>h,fun x h=>.inl h,fun j B rb1 x h1 _ m1 e1=>?_,fun j B rb1 x h1 m1 e1=>?_,fun _ _ h=>h,hnone⟩
 ·obtain ⟨rfl,rfl⟩:=at0 id B h
  exact ⟨rb,hm0,hB⟩
 ·rw [(at0 id B h1).1,(at0 id' B' h2).1]
 ·obtain ⟨rfl,rfl⟩:=at0 id B h1
  rw [hm0] at m1; simp at m1; subst m1
  exact hmem.sep 0 (.row false nl (.tree LCd) l) rb x rfl rfl hm0 e1
 ·exact hs k hk (fun e=>hn ⟨0,.row false nl (.tree LCd) l,rb,rfl,rfl,hm0,e⟩)
 ·obtain ⟨rfl,rfl⟩:=at0 j B h1
  rw [hm0] at m1; simp at m1; subst m1
  exact .inl ⟨0,.row false nl (.tree LCd) l,rb,rfl,rfl,hm0,e1⟩
 ·obtain ⟨rfl,rfl⟩:=at0 j B h1
  rw [hm0] at m1; simp at m1; subst m1
  exact .inl ⟨0,.row false nl (.tree LCd) l,rb,rfl,hm0,e1⟩
theorem ME [Inhabited (Kw w R μ)] {l l':RL} {nl:Option Bool} {b off cap q:Nat} {os:Array Obj} {us:Array Value} {e:TypeId} {r:V} {u:Value} {d:Array (Kw w R μ)} (hmem:Mem w R μ (fun j=>([.row false nl (.tree LCd) l]:List Blk)[j]?)) (hnone : ∀ j,1<=j->μ j=none) (hm0:μ 0=some (.at b off 1 cap l.length)) (hnR : ¬R b)
  (hh:w.heap[b]? = some (.cells us e (0,0))) (hd:d.toList.map (fun x=>x.1.1)=l') (hl:l'.length=l.length) (hc:l.length<=cap) (hc2:cap<=maxI) (hz:off+cap*1<=us.size) (hval : ∀ w':World,VRep w' R μ r u) :
  Left w R μ (fun j=>([.row false nl (.tree LCd) l]:List Blk)[j]?) r [R0 (.tree LCd) l'] u (sortWorld Du w b off q d os) R μ:=by
 have hb:b<w.heap.size:=(Array.getElem?_eq_some_iff.1 hh).1
 have hds:d.size=l'.length:=by rw [<-hd]; simp
 have hsz:(putRow Du (Go.Sort.ahead w q) b off d).heap.size=w.heap.size:=by simp [Go.Sort.ahead]
 have here:(sortWorld Du w b off q d os).heap[b]? = some (.cells (putCells Du off d us) e (0,0)):=by
  unfold sortWorld
  rw [heap_grow_old _ _ (by rw [hsz]; exact hb)]
  unfold putRow mapBlock Go.Sort.ahead
  simp only [Array.getElem?_modify,if_true,hh,map_some,onCells]
 refine GV hmem hnone hm0 rfl rfl rfl (by unfold sortWorld; rw [size_grow,hsz]; omega) (fun k hk hne=>Gy hk (fun e=>hne (by rw [e]; rfl))) ?_ (hval _)
 refine .row b off 1 cap l.length false none (.tree LCd) l' _ e rfl here ⟨hl,hc⟩ hc2 ?_ ?_ (by simp)
 ·unfold putCells; simp; omega
 ·intro i z j v hi hv
  have hil:i<l'.length:=(List.getElem?_eq_some_iff.1 hi).1
  match j,hv with
  | 0,hv=>
   cases hv
   have hid:i<d.size:=by omega
   have e3:d[i].1.1=z:=by
    have h3:=(List.getElem?_eq_some_iff.1 hi).2
    rw [<-h3]
    simp only [<-hd]
    simp
   refine ⟨Du d[i],?_,?_⟩
   ·unfold putCells
    rw [Array.getElem?_mapIdx]
    have h1:off+(i*1+0)<us.size:=by omega
    rw [Array.getElem?_eq_getElem h1,map_some,if_pos (by omega)]
    rw [show off+(i*1+0)-off=i by omega]
    simp [hid]
   ·have:=d[i].2.mono (w':=sortWorld Du w b off q d os) (R':=R) (μ':=μ) (fun k hk=>Gy (hmem.rlt k hk) (fun e=>hnR (e ▸ hk))) (fun _ h=>h) (fun _ _ h=>h)
    rw [e3] at this
    exact this
  | j+1,hv=>simp [enc] at hv
end

section
open Go.Shelf Go.RowKit Go.Lib Go.Sort
def CW (l:RL) (i:Nat):Rose Lab:=l.getD i (l.getD 0 zR)
def Es (l:RL) (i j:Nat):Int:=Go.Lib.compareInt (noR (CW l i)) (noR (CW l j))
def Ps (l:RL):List Nat:=(pdq (ltOf (Es l)) (Array.range l.length) 0 l.length (Go.Lib.bitLen l.length) true true).toList
def AC (l:RL):RL:=(Ps l).map (CW l)
theorem P1 (l:RL) (i j:Nat):ltOf (Es l) i j=decide (noR (CW l i)<noR (CW l j)):=by
 unfold ltOf Es Go.Lib.compareInt
 by_cases h1:noR (CW l i)<noR (CW l j)
 ·simp [h1]
 ·by_cases h2:noR (CW l j)<noR (CW l i)<;>simp [h1,h2]
theorem Nq (l:RL):SWO (ltOf (Es l)) where
 irrefl x:=by rw [P1]; simp
 trans x y z h1 h2:=by rw [P1] at *; simp only [dcE] at *; omega
 ntrans x y z h1 h2:=by rw [P1] at *; simp only [decide_eq_false_iff_not] at *; omega
theorem N9 (n:Nat):(Array.range n).toList=range n:=by simp
theorem NV (l:RL):(Ps l).Perm (range l.length):=by
 have h:=(pdq_sorts (ltOf (Es l)) (Nq l) (Array.range l.length) 0 l.length (Go.Lib.bitLen l.length) true true (zero_le _) (by simp) (Or.inl rfl)).1
 obtain ⟨p1,_,p3⟩:=h
 have e2 : ∀ d:Array Nat,d.size=l.length->(d.extract 0 l.length).toList=d.toList:=fun d hd=>by rw [<-hd,Array.extract_size]
 rw [e2 _ (by rw [p1]; simp),e2 _ (by simp),N9] at p3
 exact p3
theorem MA (l:RL):(range l.length).map (CW l)=l:=by
 refine List.ext_getElem (by simp) fun i h1 h2=>?_
 rw [List.getElem_map,List.getElem_range]
 unfold CW
 rw [getD_eq_getElem?_getD,gtE h2]; rfl
theorem CV (l:RL):(AC l).Perm l:=by
 have:=(NV l).map (CW l)
 rw [MA] at this
 exact this
theorem Qq (l:RL):(AC l).Pairwise fun a b=>noR a<=noR b:=by
 have h:=pdq_sorts (ltOf (Es l)) (Nq l) (Array.range l.length) 0 l.length (Go.Lib.bitLen l.length) true true (zero_le _) (by simp) (Or.inl rfl)
 have hsz:(pdq (ltOf (Es l)) (Array.range l.length) 0 l.length (Go.Lib.bitLen l.length) true true).size=l.length:=by rw [h.1.1]; simp
 have hs:=h.2
 unfold AC Ps
 generalize pdq (ltOf (Es l)) (Array.range l.length) 0 l.length (Go.Lib.bitLen l.length) true true=d at hs hsz ⊢
 rw [List.pairwise_map]
 refine List.pairwise_iff_getElem.2 fun i j hi hj hij=>?_
 have hi':i<d.size:=by simpa using hi
 have hj':j<d.size:=by simpa using hj
 have:=hs i j (zero_le _) hij (by omega)
 rw [P1] at this
 have e3:d[i]! = d.toList[i]:=by simp [hi']
 have e4:d[j]! = d.toList[j]:=by simp [hj']
 rw [e3,e4] at this
 have:=of_decide_eq_false this
 omega
theorem Qr {l:RL} (h:J1 l=true):AC l=C4 [] l:=by
 have hd:l.Pairwise fun a b=>noR a≠noR b:=of_decide_eq_true h
 have hd':(AC l).Pairwise fun a b=>noR a≠noR b:=((CV l).pairwise_iff (fun hab=>Ne.symm hab)).2 hd
 refine O0 _ _ (((Qq l).and hd').imp fun h=>by unfold KR; unfold noR at h; omega) (L5 .nil hd (fun _ _ _ h=>by cases h)) fun x=>by rw [(CV l).mem_iff,Eg]; simp
theorem Pa {l:RL} (h:J1 l=false) : ¬(AC l).Pairwise KR:=fun hp=>by
 have hd:(AC l).Pairwise fun a b=>noR a≠noR b:=hp.imp fun h=>by unfold KR at h; unfold noR; omega
 have:l.Pairwise fun a b=>noR a≠noR b:=((CV l).pairwise_iff (fun hab=>Ne.symm hab)).1 hd
 rw [show J1 l=true from dcT this] at h
 cases h
theorem Ik (l:RL):(AC l).length=l.length:=(CV l).length_eq
variable {w:World} {R:Nat->Prop} {μ:Nat->Option RB}
theorem Po [Inhabited (Kw w R μ)] (g:Nat->Kw w R μ) (off:Nat) (d:Array Nat) (us:Array Value):putCells (fun i=>Du (g i)) off d us=putCells Du off (d.map g) us:=by
 unfold putCells
 rw [Array.size_map]
 refine Array.ext (by simp) fun k h1 h2=>?_
 simp only [Array.getElem_mapIdx]
 split
 ·rename_i hk
  have h3:k-off<d.size:=by omega
  simp [h3]
 ·rfl
theorem E7 [Inhabited (Kw w R μ)] (g:Nat->Kw w R μ) (b off q:Nat) (d:Array Nat) (os:Array Obj):sortWorld (fun i=>Du (g i)) w b off q d os=sortWorld Du w b off q (d.map g) os:=by
 unfold sortWorld putRow
 rw [show putCells (fun i=>Du (g i)) off d=putCells Du off (d.map g) from funext fun us=>Po g off d us]
theorem MW [Inhabited (Kw w R μ)] (g:Nat->Kw w R μ) {l:RL} (hg : ∀ i,(g i).1.1=CW l i) {b off size:Nat} (hb : ¬R b) (hR : ∀ x,R x->x<w.heap.size):CmpLays1 prog 55 #[] (fun i=>Du (g i)) (Es l) b off size w:=fun m os dk _ x y=>by
 obtain ⟨b1,e1,r1,c1⟩:=Oy (g x)
 obtain ⟨b2,e2,r2,c2⟩:=Oy (g y)
 unfold Es
 rw [E7 g,<-hg,<-hg]
 dsimp only
 rw [e1,e2]
 refine OM b1 b2 _ _ _ ?_ ?_
 ·have o1:(sortWorld Du w b off m (dk.map g) os).heap[b1]? = w.heap[b1]?:=Gy (hR _ r1) (fun e=>hb (e ▸ r1))
  rw [World.cell?_of_block (w:=w) o1]; exact c1
 ·have o2:(sortWorld Du w b off m (dk.map g) os).heap[b2]? = w.heap[b2]?:=Gy (hR _ r2) (fun e=>hb (e ▸ r2))
  rw [World.cell?_of_block (w:=w) o2]; exact c2
end
theorem srq:Ad prog 54 (Ent.own (Qo AC)).F:=by
 intro w R μ vs us bs r outs hmem hnone hreps hF
 unfold Ent.F Qo at hF
 dsimp only at hF
 split at hF
 rotate_left
 ·cases hF
 rename_i n nl l
 obtain ⟨hc,h⟩:=Ae hF
 obtain ⟨rfl,hn⟩:=of_decide_eq_true hc
 obtain ⟨rfl,rfl⟩:=Prod.mk.inj (AD h)
 clear h hF hc
 match us,hreps with
 | [u0,u1],hreps=>
 have v0:=hreps.2 0 _ u0 rfl rfl
 have v1:=hreps.2 1 _ u1 rfl rfl
 have ht : ∀ w':World,VRep w' R μ (.tup []) (.tuple #[]):=fun w'=>.tup [] #[] rfl (by simp)
 cases v1 with
 | fn _ _ _ ua uc h1 h2 h3 h4=>
 have e1:ua = #[]:=by apply Array.ext'; exact List.eq_nil_of_length_eq_zero (by simpa using h1)
 have e2:uc = #[]:=by apply Array.ext'; exact List.eq_nil_of_length_eq_zero (by simpa using h2)
 subst e1 e2
 have hlen:=Ik l
 by_cases h0:0<l.length
 ·obtain ⟨b,off,cap,us,e,rfl,hm0,hh,g1,g2,g3,g4⟩:=NS hmem v0 h0
  obtain ⟨d,d1,d2⟩:=N1 g4
  have hdl:d.length=l.length:=by rw [<-d1,List.length_map]
  have hnR : ¬R b:=hmem.sep 0 (.row false nl (.tree LCd) l) _ b rfl rfl hm0 rfl
  have x0:Kw w R μ:=d[0]'(by omega)
  haveI:Inhabited (Kw w R μ):=⟨d[0]'(by omega)⟩
  let g:Nat->Kw w R μ:=fun i=>d.getD i (d[0]'(by omega))
  have hgd : ∀ i (hi:i<d.length),g i=d[i]:=fun i hi=>by
   show d.getD i _=_
   rw [getD_eq_getElem?_getD,gtE hi]; rfl
  have hg : ∀ i,(g i).1.1=CW l i:=fun i=>by
   show (d.getD i _).1.1=_
   unfold CW
   have hl0:l.getD 0 zR=(d[0]'(by omega)).1.1:=by
    rw [getD_eq_getElem?_getD,gtE h0]
    simp only [<-d1]
    simp
   rw [hl0,getD_eq_getElem?_getD,getD_eq_getElem?_getD]
   by_cases hi:i<d.length
   ·rw [gtE hi,gtE (by omega)]
    simp only [<-d1]
    simp
   ·rw [List.getElem?_eq_none (by omega),List.getElem?_eq_none (by omega)]; rfl
  have eg : ∀ args w,(callFunc 55 args).run prog w = .ok (.enter 55 args) w:=Go.Proofs.enters_of func55 (by kernel_rfl) rfl
  have hH:Go.Sort.Holds (fun i=>Du (g i)) w b off (Array.range l.length):=fun j hj=>by
   have hj:j<l.length:=by simpa using hj
   have h1:=d2 j d[j] (by rw [gtE (by omega)])
   refine ⟨?_,by simp [World.frozen?,hh]⟩
   simp only [World.cell?,hh,h1]
   have e3:(Array.range l.length)[j]! = j:=by simp [hj]
   rw [e3,hgd j (by omega)]; rfl
  have hcon:=Go.Proofs.Any.slices_SortFunc_eq L3 (fun i=>Du (g i)) (fun i=>Oe (g i)) (Es l) (Nq l) 55 #[] b off cap (Array.range l.length) w eg (MW g hg hnR hmem.rlt) hH (Array.getElem?_eq_some_iff.1 hh).1 (by simp; omega)
  have hs:(Array.range l.length).size=l.length:=by simp
  rw [hs] at hcon
  refine hcon.mono ?_
  rintro e' w' ⟨rfl,q,os,rfl⟩
  rw [E7 g]
  refine ⟨_,R,μ,rfl,ME hmem hnone hm0 hnR hh ?_ hlen g1 g2 g3 ht⟩
  unfold AC Ps
  rw [Array.toList_map,List.map_map]
  exact List.map_congr_left (f:=(fun x:Kw w R μ=>x.1.1) ∘ g) fun i _=>hg i
 ·have hl:l=[]:=List.eq_nil_of_length_eq_zero (by omega)
  subst hl
  obtain ⟨rb,hm0,hB⟩:=hmem.blk 0 _ rfl
  have hB2:BRep w R μ rb (.row false none (.tree LCd) (AC [])):=by
   rw [show AC []=[] from List.eq_nil_of_length_eq_zero (Ik [])]; exact hB.noNl
  have hslice : ∃ p cap,u0 = .slice p 0 cap:=by
   generalize hz:([]:RL).length=z at v0
   cases v0 with
   | vac _ ao h=>exact ⟨_,_,rfl⟩
   | ref _ _ _ b off k cap len a h q0 q1 q2 q3=>exact ⟨some a,cap-0,by subst hz; rfl⟩
  obtain ⟨p,cap,rfl⟩:=hslice
  refine (Go.Proofs.AnyF.slices_SortFunc_none { L3 with } p cap _ w).mono ?_
  rintro e w' ⟨rfl,rfl⟩
  exact ⟨_,R,μ,rfl,GV (l':=AC []) hmem hnone hm0 rfl rfl rfl (le_refl _) (fun _ _ _=>rfl) hB2 (ht _)⟩
def rdN (h:RL->RL):Nat->(By->Nat->Bool->Rose Lab×Nat×Bool)×(By->Nat->Bool->Rose Lab×Nat×Bool)
 | 0=>(fun _ a _=>(zR,a,true),fun _ a _=>(zR,a,true))
 | n+1=>(tyF (rdN h n).1 (rdN h n).2,msF h (paF (rdN h n).1))
def Kp (r:Option (Rose Lab×Nat×Bool)) (y:Rose Lab×Nat×Bool):Prop:=match r with
 | none=>y.2.2=true
 | some (z,e,ok)=>y.2.2=false/\y.2.1=e/\(ok=true->y.1=z)/\(ok=false->Ao y.1=false)/\Ak y.1=Ak z/\Bu y.1=true/\y.1.lab.1=z.lab.1/\y.1.lab.2.2.2.2.1=z.lab.2.2.2.2.1
def RX (o:RL) (r:Option (RL×Nat×Bool)) (y:RL×Nat×Bool):Prop:=match r with
 | none=>y.2.2=true
 | some (l,e,ok)=>y.2.2=false/\y.2.1=e/\∃ w,y.1=o++w/\(ok=true->w=l)/\(ok=false->∃ z∈w,Ao z=false)/\Aj w=Aj l/\De w=true
def pP (k:Nat) (s:By) (a:Nat):Option (Rose Lab×Nat×Bool):=match hdP s a with
 | none=>none
 | some (nm,no,mu,b)=>match pT k s b with
  | none=>none
  | some (z,q,ok)=>some (.node (z.lab.1,nm,(no:Int),mu,z.lab.2.2.2.2.1,()) z.kids,q,ok)
theorem E9 (b:UInt8) (s:By) (a:Nat):mk b s a=bif mrB b s a false then none else some (mrA b s a false):=by
 unfold mk mrB mrA
 by_cases q:nxt s (skp s a)=b
 ·rw [if_pos q,q,beq_self_eq_true]; rfl
 ·rw [if_neg q,beq_eq_false_iff_ne.2 q]; rfl
theorem Qe {b:UInt8} {s:By} {a:Nat} (hb:BZ b=false) (h:nxt s a=b):mrA b s a false=skp s (a+1)/\mrB b s a false=false:=by
 have e:skp s a=a:=Cp (by rw [h]; exact hb)
 unfold mrA mrB
 rw [e,h,beq_self_eq_true]
 exact ⟨rfl,rfl⟩
theorem F4 {b c:UInt8} (h:An b=true) (hc:An c=false):b≠c:=by
 rintro rfl; rw [h] at hc; cases hc
theorem Md {b:UInt8} (h:An b=true):BZ b=false:=by
 unfold BZ
 rw [Bool.or_eq_false_iff]
 exact ⟨beq_eq_false_iff_ne.2 (F4 h (by decide)),beq_eq_false_iff_ne.2 (F4 h (by decide))⟩
theorem P2 {b:UInt8} (h:Be b=true):BZ b=false/\b≠58/\b≠33:=by
 have hn : ∀ c:UInt8,Be c=false->b≠c:=fun c hc=>by rintro rfl; rw [h] at hc; cases hc
 unfold BZ
 rw [Bool.or_eq_false_iff]
 exact ⟨⟨beq_eq_false_iff_ne.2 (hn _ (by decide)),beq_eq_false_iff_ne.2 (hn _ (by decide))⟩,hn _ (by decide),hn _ (by decide)⟩
theorem I4 {s:By} : ∀ (j a:Nat),j<AZ s a->Be (nxt s (a+j))=true
 | 0,a,h=>by
  cases q:Be (nxt s a) with
  | true=>exact rfl
  | false=>rw [FQ q] at h; omega
 | j+1,a,h=>by
  cases q:Be (nxt s a) with
  | true=>
   rw [(El q).2] at h
   have:=I4 (s:=s) j (a+1) (by omega)
   rwa [show a+1+j=a+(j+1) by omega] at this
  | false=>rw [FQ q] at h; omega
theorem QO (s:By) (a:Nat):match hdP s a with
  | some (nm,no,mu,b)=>hdS s a false=(nm,no,mu,b,false)
  | none=>(hdS s a false).2.2.2.2=true\/An (nxt s (hdS s a false).2.2.2.1)=true:=by
 have eS:hdS s a false=hdS s a false:=rfl
 unfold hdP
 dsimp only
 have ep:blA s a false=skp s a:=rfl
 generalize hp:skp s a=p at *
 have unf:hdS s a false=(let q:=nmA s p false
  let b2:=(nmK s p==0)
  let r:=mrA 58 s q b2
  let b3:=mrB 58 s q b2
  let t:=nbA s r b3
  let b4:=b3||!An (nxt s r)
  let u:=blA s t b4
  bif !b4&&(nxt s u==33) then (nmV s p false,nbV s r b3,true,blA s (u+1) b4,b4||(!decide (u+1<skp s (u+1))&&Be (nxt s (blA s (u+1) b4))))
  else (nmV s p false,nbV s r b3,false,u,b4||(!decide (t<skp s t)&&Be (nxt s u)))):=by
  unfold hdS; rw [ep]; rfl
 have badb : ∀ (x:Bool×Nat),mrB 58 s (nmA s p false) (nmK s p==0)=true->(hdS s a false).2.2.2.2=true:=fun _ hb=>by
  rw [unf]
  dsimp only
  rw [hb,Bool.true_or,Bool.not_true,Bool.false_and,cond_false]
  rfl
 by_cases hk:AZ s p=0\/10<AZ s p
 ·rw [if_pos hk]
  dsimp only
  refine .inl (badb (true,0) ?_)
  rcases hk with hk | hk
  ·have:nmK s p=0:=by unfold nmK; omega
   rw [this]; rfl
  ·have e10:nmK s p=10:=by unfold nmK; omega
   have hl:=P2 (I4 10 p hk)
   have eq:nmA s p false=p+10:=by show p+nmK s p=_; rw [e10]
   rw [eq,e10]
   show mrB 58 s (p+10) false=true
   unfold mrB
   rw [Cp hl.1,beq_eq_false_iff_ne.2 hl.2.1]; rfl
 ·rw [if_neg hk]
  have ek:nmK s p=AZ s p:=by unfold nmK; omega
  have eq:nmA s p false=p+AZ s p:=by show p+nmK s p=_; rw [ek]
  have e2:(nmK s p==0)=false:=beq_eq_false_iff_ne.2 (by omega)
  have ev:nmV s p false=(s.drop p).take (AZ s p):=by show (s.drop p).take (nmK s p)=_; rw [ek]
  rw [eq,e2,ev] at unf
  rw [eq,e2] at badb
  rw [E9]
  cases hb3:mrB 58 s (p+AZ s p) false with
  | true=>
   rw [cond_true]
   exact .inl (badb (true,0) hb3)
  | false=>
   rw [cond_false]
   dsimp only at unf ⊢
   rw [hb3,Bool.false_or] at unf
   generalize mrA 58 s (p+AZ s p) false=r at *
   cases hd:An (nxt s r) with
   | false=>
    have en:Cn s r=none:=by unfold Cn; rw [if_neg (by rw [hd]; simp)]
    rw [en]
    try dsimp only
    left
    rw [unf,hd]
    rfl
   | true=>
    have et:nbA s r false=AV s r:=by unfold nbA; rw [hd]; rfl
    have eno:nbV s r false=DF s r:=by unfold nbV; rw [hd]; rfl
    rw [hd,et,eno] at unf
    have eu:blA s (AV s r) false=skp s (AV s r):=rfl
    have ew : ∀ u,blA s u false=skp s u:=fun _=>rfl
    simp only [Bool.not_true,Bool.not_false,Bool.true_and,Bool.false_or,ew] at unf
    cases hd2:An (nxt s (AV s r)) with
    | true=>
     have en:Cn s r=none:=by unfold Cn; rw [if_neg (by rw [hd2]; simp)]
     rw [en]
     try dsimp only
     right
     have e9:skp s (AV s r)=AV s r:=Cp (Md hd2)
     rw [unf,e9,beq_eq_false_iff_ne.2 (F4 hd2 (by decide)),cond_false]
     exact hd2
    | false=>
     have en:Cn s r=some (DF s r,AV s r):=by unfold Cn; rw [if_pos ⟨hd,hd2⟩]
     rw [en]
     try dsimp only
     by_cases h33:nxt s (skp s (AV s r))=33
     ·rw [if_pos h33]
      rw [h33,beq_self_eq_true,cond_true] at unf
      have g:=AT s (skp s (AV s r)+1)
      by_cases hx:skp s (skp s (AV s r)+1)=skp s (AV s r)+1/\Be (nxt s (skp s (AV s r)+1))=true
      ·rw [if_pos hx]
       dsimp only
       left
       rw [unf]
       dsimp only
       rw [hx.1,hx.2,dcF (by omega)]; rfl
      ·rw [if_neg hx]
       dsimp only
       rw [unf]
       congr 4
       by_cases h1:skp s (skp s (AV s r)+1)=skp s (AV s r)+1
       ·rw [h1]
        have:Be (nxt s (skp s (AV s r)+1))=false:=by
         cases q:Be (nxt s (skp s (AV s r)+1)) with
         | true=>exact absurd ⟨h1,q⟩ hx
         | false=>rfl
        rw [this,Bool.and_false]
       ·rw [dcT (by omega)]; rfl
     ·rw [if_neg h33]
      rw [beq_eq_false_iff_ne.2 h33,cond_false] at unf
      have g:=AT s (AV s r)
      by_cases hx:skp s (AV s r)=AV s r/\Be (nxt s (skp s (AV s r)))=true
      ·rw [if_pos hx]
       dsimp only
       left
       rw [unf]
       dsimp only
       rw [hx.2,hx.1,dcF (by omega)]; rfl
      ·rw [if_neg hx]
       dsimp only
       rw [unf]
       congr 4
       by_cases h1:skp s (AV s r)=AV s r
       ·have:Be (nxt s (skp s (AV s r)))=false:=by
         cases q:Be (nxt s (skp s (AV s r))) with
         | true=>exact absurd ⟨h1,q⟩ hx
         | false=>rfl
        rw [this,Bool.and_false]
       ·rw [dcT (by omega)]; rfl

theorem Qu (h:RL->RL) (n:Nat) (s:By) (a:Nat):((rdN h n).1 s a true).2.2=true:=by
 cases n with
 | zero=>rfl
 | succ n=>rfl
theorem Qt (h:RL->RL) (n:Nat) (s:By) (a:Nat) (hd:An (nxt s a)=true):((rdN h n).1 s a false).2.2=true:=by
 cases n with
 | zero=>rfl
 | succ n=>
  have hn : ∀ c:UInt8,An c=false->(cB' s a false==c)=false:=fun c hc=>beq_eq_false_iff_ne.2 (F4 hd hc)
  show (tyF _ _ s a false).2.2=true
  unfold tyF
  rw [hn 110 (by decide),hn 116 (by decide),hn 101 (by decide),hn 91 (by decide),hn 123 (by decide)]
  rfl
theorem BdF.rd (h:RL->RL) : ∀ n,BdF (rdN h n).1/\BdF (rdN h n).2
 | 0=>⟨fun _ _ _ ha=>⟨le_refl _,ha⟩,fun _ _ _ ha=>⟨le_refl _,ha⟩⟩
 | n+1=>⟨BdF.ty (BdF.rd h n).1 (BdF.rd h n).2,BdF.ms (BdF.pa (BdF.rd h n).1)⟩
theorem NQ {b:UInt8} {w s:By} {a:Nat} (h:AQ (b::w) s a=true):nxt s a=b:=by
 have:=of_decide_eq_true h
 rw [B6] at this
 split at this
 ·assumption
 ·rw [length_cons] at this; omega
theorem Jn (z:Rose Lab) (x:Lab) (h1:x.1=z.lab.1) (h2:x.2.2.2.2.1=z.lab.2.2.2.2.1):Ao (.node x z.kids)=Ao z:=by
 obtain ⟨y,ks⟩:=z
 have h1:x.1=y.1:=h1
 have h2:x.2.2.2.2.1=y.2.2.2.2.1:=h2
 rw [Ao,Ao]
 show (Bo x ks&&Bz x.1 ks)=(Bo y ks&&Bz y.1 ks)
 unfold Bo
 rw [h1,h2]
theorem OL {l m:RL} (h:l.Perm m):Aj l=Aj m:=by
 induction h with
 | nil=>rfl
 | cons x _ ih=>rw [Aj,Aj,ih]
 | swap x y l=>rw [Aj,Aj,Aj,Aj]; omega
 | trans _ _ h1 h2=>rw [h1,h2]
theorem Ez {x:Lab} {ks:RL} {z:Rose Lab} (hz:z∈ks) (h:Ao z=false):Ao (.node x ks)=false:=by
 cases q:Ao (.node x ks) with
 | false=>rfl
 | true=>
  rw [Ao,anE] at q
  rw [EK q.2 hz] at h; cases h
theorem J4 {ks:RL} (h : ¬ks.Pairwise KR):Ao (.node (5,[],0,false,0,()) ks)=false:=by
 cases q:Ao (.node (5,[],0,false,0,()) ks:Rose Lab) with
 | false=>rfl
 | true=>exact absurd (LQ (z:=.node (5,[],0,false,0,()) ks) q rfl) h
theorem Q2 {n k:Nat} {s:By} {a:Nat} (ha:a<=s.length) (iT : ∀ b,b<=s.length->a+2<=b->Kp (pT k s b) ((rdN AC n).1 s b false)):Kp (pP k s a) (paF (rdN AC n).1 s a false):=by
 have h:=QO s a
 unfold pP
 unfold paF
 dsimp only
 cases hh:hdP s a with
 | none=>
  rw [hh] at h
  dsimp only at h
  show _=true
  cases q:(hdS s a false).2.2.2.2 with
  | true=>exact Qu AC n s _
  | false=>
   rw [q] at h
   rcases h with h | h
   ·cases h
   ·exact Qt AC n s _ h
 | some x=>
  obtain ⟨nm,no,mu,b⟩:=x
  rw [hh] at h
  dsimp only at h
  rw [h]
  obtain ⟨b1,b2,b3,_⟩:=ID ha hh
  have:=iT b b2 b1
  dsimp only
  cases ht:pT k s b with
  | none=>rw [ht] at this; exact this
  | some y=>
   obtain ⟨z,e,ok⟩:=y
   rw [ht] at this
   obtain ⟨r1,r2,r3,r4,r5,r6,r7,r8⟩:=this
   generalize (rdN AC n).1 s b false=w at *
   refine ⟨r1,r2,fun ho=>?_,fun ho=>?_,?_,KH r6 b3,r7,r8⟩
   ·have:=r3 ho
    dsimp only
    rw [this]
   ·dsimp only
    exact (Jn w.1 (w.1.lab.1,nm,(no:Int),mu,w.1.lab.2.2.2.2.1,()) rfl rfl).trans (r4 ho)
   ·dsimp only
    rw [IO,IO]; exact r5
theorem LA (k:Nat) (s:By) (a:Nat):pL (k+1) s a=match pP k s a with
  | none=>none
  | some (z,q,ok)=>if nxt s (skp s q)=125 then some ([z],skp s (skp s q+1),ok) else if nxt s (skp s q)=44 then (match pL k s (skp s (skp s q+1)) with
   | none=>none
   | some (l,e,ok2)=>some (z::l,e,ok&&ok2)) else none:=by
 rw [pL]
 unfold pP
 cases hdP s a with
 | none=>rfl
 | some x=>
  obtain ⟨nm,no,mu,b⟩:=x
  dsimp only
  cases pT k s b with
  | none=>rfl
  | some y=>rfl
theorem Ok {n:Nat} {s:By} (iT : ∀ k b,b<=s.length->s.length-b+3<=n->s.length-b+3<=k->Kp (pT k s b) ((rdN AC n).1 s b false)) : ∀ (kf k a:Nat) (o:RL),a<=s.length->s.length-a+2<=n->s.length-a+2<=k->s.length-a+2<=kf->RX o (pL k s a) (lpF (paF (rdN AC n).1) kf s o a false)
 | 0,k,a,o,_,_,_,h=>by omega
 | kf+1,k,a,o,ha,hn,hk,hf=>by
  obtain ⟨k,rfl⟩ : ∃ j,k=j+1:=⟨k-1,by omega⟩
  have hp:=Q2 (n:=n) (k:=k) ha fun b hb hab=>iT k b hb (by omega) (by omega)
  have hb:=(BdF.pa (BdF.rd AC n).1) s a false ha
  rw [LA,lpF]
  dsimp only [cond_false]
  generalize paF (rdN AC n).1 s a false=y at *
  have badb:y.2.2=true->(lpF (paF (rdN AC n).1) kf s (o++[y.1]) (mrA 44 s (mrA 125 s y.2.1 y.2.2) y.2.2) (mrB 44 s (mrA 125 s y.2.1 y.2.2) y.2.2)).2.2=true:=fun e=>by
   rw [e]
   obtain ⟨kf,rfl⟩ : ∃ j,kf=j+1:=⟨kf-1,by omega⟩
   rfl
  cases hP:pP k s a with
  | none=>
   rw [hP] at hp
   have hp:y.2.2=true:=hp
   have e:(!y.2.2&&(nxt s (skp s y.2.1)==125))=false:=by rw [hp]; rfl
   rw [e]
   exact badb hp
  | some x=>
   obtain ⟨z,e,ok⟩:=x
   rw [hP] at hp
   obtain ⟨r1,r2,r3,r4,r5,r6,r7,r8⟩:=hp
   obtain ⟨y1,y2,y3⟩:=y
   dsimp only at *
   subst r1 r2
   by_cases q1:nxt s (skp s y2)=125
   ·rw [if_pos q1]
    have e:(!false&&(nxt s (skp s y2)==125))=true:=by rw [q1]; rfl
    rw [e,cond_true]
    have e2:mrA 125 s y2 false=skp s (skp s y2+1):=by unfold mrA; rw [q1]; rfl
    refine ⟨rfl,e2,[y1],rfl,fun ho=>by rw [r3 ho],fun ho=>⟨y1,List.mem_cons_self,r4 ho⟩,by rw [Aj,Aj,Aj,Aj,r5],by rw [De,De,r6]; rfl⟩
   ·rw [if_neg q1]
    have e:(!false&&(nxt s (skp s y2)==125))=false:=by rw [beq_eq_false_iff_ne.2 q1]; rfl
    rw [e,cond_false]
    have e2:mrA 125 s y2 false=skp s y2:=by unfold mrA; rw [beq_eq_false_iff_ne.2 q1]; rfl
    rw [e2]
    by_cases q2:nxt s (skp s y2)=44
    ·rw [if_pos q2]
     have q3:nxt s (skp s (skp s y2))=44:=by rw [AJ]; exact q2
     have e3:mrA 44 s (skp s y2) false=skp s (skp s y2+1):=by unfold mrA; rw [q3,AJ]; rfl
     have e4:mrB 44 s (skp s y2) false=false:=by unfold mrB; rw [q3]; rfl
     rw [e3,e4]
     have hlt:=AU (s:=s) (a:=skp s y2) (by rw [q2]; decide)
     have g1:=AT s y2
     have g2:=AT s (skp s y2+1)
     have g3:=Bh (s:=s) (a:=skp s y2+1) (by omega)
     have ih:=Ok iT kf k (skp s (skp s y2+1)) (o++[y1]) g3 (by omega) (by omega) (by omega)
     cases hl:pL k s (skp s (skp s y2+1)) with
     | none=>rw [hl] at ih; exact ih
     | some x=>
      obtain ⟨l,e',ok2⟩:=x
      rw [hl] at ih
      obtain ⟨i1,i2,w,i3,i4,i5,i6,i7⟩:=ih
      refine ⟨i1,i2,y1::w,by rw [i3,append_assoc]; rfl,fun ho=>?_,fun ho=>?_,by rw [Aj,Aj,r5,i6],by rw [De,r6,i7]; rfl⟩
      ·rw [anE] at ho
       rw [r3 ho.1,i4 ho.2]
      ·cases ok with
       | false=>exact ⟨y1,List.mem_cons_self,r4 rfl⟩
       | true=>
        have ho:ok2=false:=ho
        obtain ⟨x,hx,hr⟩:=i5 ho
        exact ⟨x,List.mem_cons_of_mem _ hx,hr⟩
    ·rw [if_neg q2]
     have e4:mrB 44 s (skp s y2) false=true:=by unfold mrB; rw [AJ,beq_eq_false_iff_ne.2 q2]; rfl
     rw [e4]
     obtain ⟨kf,rfl⟩ : ∃ j,kf=j+1:=⟨kf-1,by omega⟩
     rfl
theorem N8 {s:By} (hs:s.length<=400) : ∀ n:Nat,(∀ k a,a<=s.length->s.length-a+3<=n->s.length-a+3<=k->Kp (pT k s a) ((rdN AC n).1 s a false))/\(∀ k a,a<=s.length->skp s a=a->s.length-a+3<=n->s.length-a+3<=k->Kp (pM k s a) ((rdN AC n).2 s a false))
 | 0=>⟨fun k a _ h=>by omega,fun k a _ _ h=>by omega⟩
 | n+1=>by
  obtain ⟨iT,iM⟩:=N8 hs n
  refine ⟨fun k a ha hn hk=>?_,fun k a ha hsk hn hk=>?_⟩
  ·obtain ⟨k,rfl⟩ : ∃ j,k=j+1:=⟨k-1,by omega⟩
   show Kp _ (tyF (rdN AC n).1 (rdN AC n).2 s a false)
   have hc:cB' s a false=nxt s a:=rfl
   have nopre : ∀ (b:UInt8) (w:By),nxt s a≠b->AQ (b::w) s a=false:=fun b w h=>by
    cases q:AQ (b::w) s a with
    | false=>rfl
    | true=>exact absurd (NQ q) h
   rw [pT]
   unfold tyF
   rw [hc]
   have wd : ∀ w:By,wdA w s a false=a+B6 w s a/\wdB w s a false=decide (B6 w s a<w.length):=fun w=>⟨rfl,rfl⟩
   have wd_t : ∀ w:By,AQ w s a=true->wdA w s a false=a+w.length/\wdB w s a false=false:=fun w h=>by
    have:=of_decide_eq_true h
    rw [(wd w).1,(wd w).2,this]; exact ⟨rfl,dcF (by omega)⟩
   have wd_f : ∀ w:By,AQ w s a=false->wdB w s a false=true:=fun w h=>by
    have:=of_decide_eq_false h
    have:=G0 w s a
    rw [(wd w).2]; exact dcT (by omega)
   by_cases c1:nxt s a=110
   ·have e1:(nxt s a==110)=true:=beq_iff_eq.2 c1
    rw [e1,cond_true]
    cases hp:AQ CS s a with
    | true=>
     rw [if_pos rfl]
     obtain ⟨w1,w2⟩:=wd_t CS hp
     exact ⟨w2,w1,fun _=>rfl,fun h=>(by cases h),rfl,rfl,rfl,rfl⟩
    | false=>
     rw [if_neg (by simp),if_neg (by rw [show AQ BH s a=false from nopre 116 _ (by rw [c1]; decide)]; simp),if_neg (by rw [show AQ AA s a=false from nopre 101 _ (by rw [c1]; decide)]; simp),if_neg (by rw [c1]; decide),if_neg (by rw [c1]; decide)]
     exact wd_f CS hp
   ·have e1:(nxt s a==110)=false:=beq_eq_false_iff_ne.2 c1
    rw [e1,cond_false,if_neg (by rw [show AQ CS s a=false from nopre 110 _ c1]; simp)]
    by_cases c2:nxt s a=116
    ·have e2:(nxt s a==116)=true:=beq_iff_eq.2 c2
     rw [e2,cond_true]
     cases hp:AQ BH s a with
     | true=>
      rw [if_pos rfl]
      obtain ⟨w1,w2⟩:=wd_t BH hp
      exact ⟨w2,w1,fun _=>rfl,fun h=>(by cases h),rfl,rfl,rfl,rfl⟩
     | false=>
      rw [if_neg (by simp),if_neg (by rw [show AQ AA s a=false from nopre 101 _ (by rw [c2]; decide)]; simp),if_neg (by rw [c2]; decide),if_neg (by rw [c2]; decide)]
      exact wd_f BH hp
    ·have e2:(nxt s a==116)=false:=beq_eq_false_iff_ne.2 c2
     rw [e2,cond_false,if_neg (by rw [show AQ BH s a=false from nopre 116 _ c2]; simp)]
     by_cases c3:nxt s a=101
     ·have e3:(nxt s a==101)=true:=beq_iff_eq.2 c3
      rw [e3,cond_true]
      unfold enF
      dsimp only
      cases hp:AQ AA s a with
      | false=>
       rw [if_neg (by simp),if_neg (by rw [c3]; decide),if_neg (by rw [c3]; decide)]
       have:=wd_f AA hp
       rw [this]
       rfl
      | true=>
       rw [if_pos rfl]
       obtain ⟨w1,w2⟩:=wd_t AA hp
       have w1:wdA AA s a false=a+4:=w1
       rw [w1,w2,E9]
       cases hb2:mrB 40 s (a+4) false with
       | true=>rfl
       | false=>
        rw [cond_false]
        dsimp only
        generalize mrA 40 s (a+4) false=a2
        cases hd:An (nxt s a2) with
        | false=>
         have en:Cn s a2=none:=by unfold Cn; rw [if_neg (by rw [hd]; simp)]
         rw [en]
         rfl
        | true=>
         have ea:nbA s a2 false=AV s a2:=by unfold nbA; rw [hd]; rfl
         have ev:nbV s a2 false=DF s a2:=by unfold nbV; rw [hd]; rfl
         rw [ea,ev]
         cases hd2:An (nxt s (AV s a2)) with
         | true=>
          have en:Cn s a2=none:=by unfold Cn; rw [if_neg (by rw [hd2]; simp)]
          rw [en]
          show mrB 41 s (AV s a2) false=true
          unfold mrB
          rw [Cp (Md hd2),beq_eq_false_iff_ne.2 (F4 hd2 (by decide))]; rfl
         | false=>
          have en:Cn s a2=some (DF s a2,AV s a2):=by unfold Cn; rw [if_pos ⟨hd,hd2⟩]
          rw [en]
          dsimp only
          rw [E9]
          have eb:(false||!true)=false:=rfl
          rw [eb]
          cases hb4:mrB 41 s (AV s a2) false with
          | true=>rfl
          | false=>exact ⟨rfl,rfl,fun _=>rfl,fun h=>(by cases h),rfl,rfl,rfl,rfl⟩
     ·have e3:(nxt s a==101)=false:=beq_eq_false_iff_ne.2 c3
      rw [e3,cond_false,if_neg (by rw [show AQ AA s a=false from nopre 101 _ c3]; simp)]
      by_cases c4:nxt s a=91
      ·have e4:(nxt s a==91)=true:=beq_iff_eq.2 c4
       obtain ⟨m1,m2⟩:=Qe (b:=91) (by decide) c4
       have hlt:=AU (s:=s) (a:=a) (by rw [c4]; decide)
       have g1:=AT s (a+1)
       have g2:=Bh (s:=s) (a:=a+1) (by omega)
       rw [e4,cond_true,if_pos c4,m1,m2]
       have ih:=iT k (skp s (a+1)) g2 (by omega) (by omega)
       dsimp only
       generalize (rdN AC n).1 s (skp s (a+1)) false=y at *
       cases ht:pT k s (skp s (a+1)) with
       | none=>
        rw [ht] at ih
        have ih:y.2.2=true:=ih
        dsimp only
        rw [ih]
        rfl
       | some x=>
        obtain ⟨z,e,ok⟩:=x
        rw [ht] at ih
        obtain ⟨r1,r2,r3,r4,r5,r6,r7,r8⟩:=ih
        dsimp only
        rw [r1,r2,E9]
        cases hb:mrB 93 s e false with
        | true=>rfl
        | false=>
         rw [cond_false]
         refine ⟨rfl,rfl,fun ho=>by dsimp only; rw [r3 ho],fun ho=>Ez List.mem_cons_self (r4 ho),by dsimp only; rw [Ak,Ak,Aj,Aj,Aj,Aj,r5],by dsimp only; rw [Bu,De,De,r6]; rfl,rfl,rfl⟩
      ·have e4:(nxt s a==91)=false:=beq_eq_false_iff_ne.2 c4
       rw [e4,cond_false,if_neg c4]
       by_cases c5:nxt s a=123
       ·have e5:(nxt s a==123)=true:=beq_iff_eq.2 c5
        obtain ⟨m1,m2⟩:=Qe (b:=123) (by decide) c5
        have hlt:=AU (s:=s) (a:=a) (by rw [c5]; decide)
        have g1:=AT s (a+1)
        have g2:=Bh (s:=s) (a:=a+1) (by omega)
        rw [e5,cond_true,if_pos c5,m1,m2]
        exact iM k (skp s (a+1)) g2 (AJ _ _) (by omega) (by omega)
       ·have e5:(nxt s a==123)=false:=beq_eq_false_iff_ne.2 c5
        rw [e5,cond_false,if_neg c5]
        rfl
  ·obtain ⟨k,rfl⟩ : ∃ j,k=j+1:=⟨k-1,by omega⟩
   show Kp _ (msF AC (paF (rdN AC n).1) s a false)
   rw [pM]
   unfold msF
   rw [hsk]
   by_cases c1:nxt s a=125
   ·have e1:(!false&&(nxt s a==125))=true:=by rw [c1]; rfl
    have e2:mrA 125 s a false=skp s (a+1):=by unfold mrA; rw [hsk,c1]; rfl
    rw [e1,cond_true,if_pos c1,e2]
    exact ⟨rfl,rfl,fun _=>rfl,fun h=>(by cases h),rfl,rfl,rfl,rfl⟩
   ·have e1:(!false&&(nxt s a==125))=false:=by rw [beq_eq_false_iff_ne.2 c1]; rfl
    have e2:mrA 125 s a false=a:=by unfold mrA; rw [hsk,beq_eq_false_iff_ne.2 c1]; rfl
    rw [e1,cond_false,if_neg c1,e2]
    have hl:=Ok iT 1000 k a [] ha (by omega) (by omega) (by omega)
    generalize lpF (paF (rdN AC n).1) 1000 s [] a false=y at *
    cases hp:pL k s a with
    | none=>rw [hp] at hl; exact hl
    | some x=>
     obtain ⟨l,e,ok⟩:=x
     rw [hp] at hl
     obtain ⟨i1,i2,w,i3,i4,i5,i6,i7⟩:=hl
     rw [nil_append] at i3
     dsimp only
     have hpe:Aj (AC w)=Aj w:=OL (CV w)
     refine ⟨i1,i2,fun ho=>?_,fun ho=>?_,?_,?_,rfl,rfl⟩
     ·rw [anE] at ho
      dsimp only
      rw [i3,i4 ho.1,Qr ho.2]
     ·dsimp only
      rw [i3]
      cases ok with
      | false=>
       obtain ⟨x,hx,hr⟩:=i5 rfl
       exact Ez ((CV w).mem_iff.2 hx) hr
      | true=>
       have ho:J1 l=false:=ho
       rw [i4 rfl]
       exact J4 (Pa ho)
     ·dsimp only
      rw [Ak,Ak,i3,hpe,i6,Hj]
      rw [Aj]; omega
     ·dsimp only
      rw [Bu,i3,anE]
      exact ⟨rfl,G2.2 fun x hx=>G2.1 i7 x ((CV w).mem_iff.1 hx)⟩
def rdQ:Nat->(By->Nat->Int->Rose Lab×Nat×Int)×(By->Nat->Int->Rose Lab×Nat×Int)
 | 0=>(fun _ a b=>(zR,a,b),fun _ a b=>(zR,a,b))
 | n+1=>(tyQ (rdQ n).1 (rdQ n).2,msQ (rdQ n).1)
def OQ (r:Option (Rose Lab×Nat×Bool)) (y:Rose Lab×Nat×Int):Prop:=match r with
 | none=>0<=y.2.2
 | some (z,e,_)=>y.2.2<0/\y.2.1=e/\y.1=z
def RK (s:By) (o:RL) (r:Option (RL×Nat×Bool)) (y:RL×Nat×Int):Prop:=match r with
 | none=>0<=(mkP 125 s y.2.1 y.2.2).2
 | some (l,e,_)=>(mkP 125 s y.2.1 y.2.2).2<0/\(mkP 125 s y.2.1 y.2.2).1=e/\y.1=C4 o l
theorem LM (s:By) : ∀ (n p:Nat),s.length-p<=n->Be (nxt s (p+AZ s p))=false
 | 0,p,h=>by
  cases q:Be (nxt s p) with
  | true=>have:=(El q).1; omega
  | false=>rw [FQ q]; exact q
 | n+1,p,h=>by
  cases q:Be (nxt s p) with
  | false=>rw [FQ q]; exact q
  | true=>
   obtain ⟨h1,h2⟩:=El q
   rw [h2,show p+(AZ s (p+1)+1)=p+1+AZ s (p+1) by omega]
   exact LM s n (p+1) (by omega)
theorem PP {s:By} {a:Nat} {b:Int} (h1:a<=s.length) (h2:s.length<=400) (h3 : -1<=b) (h4:b<=1000) (h:0<=(wdP s a b).2.2\/0<=(mkP 58 s (wdP s a b).2.1 (wdP s a b).2.2).2\/0<=(nrP s (mkP 58 s (wdP s a b).2.1 (wdP s a b).2.2).1 (mkP 58 s (wdP s a b).2.1 (wdP s a b).2.2).2).2.2):0<=(hdQ s a b).2.2.2.2:=by
 refine Classical.byContradiction fun hn=>?_
 have hn:(hdQ s a b).2.2.2.2<0:=by omega
 rw [IE] at hn
 dsimp only at hn
 obtain ⟨w1,w2,w3,w4,w5⟩:=Kt h1 h2 h3 h4
 generalize wdP s a b=w at *
 obtain ⟨m1,m2,m3,m4,m5⟩:=BD (m:=58) (by decide) w2 h2 w3 w4
 generalize mkP 58 s w.2.1 w.2.2=m at *
 obtain ⟨n1,n2,n3,n4,n5⟩:=GN m2 h2 m3 m4
 generalize nrP s m.1 m.2=nn at *
 obtain ⟨p1,p2⟩:=BG (bdI nn.2.2) n2
 generalize blA s nn.2.1 (bdI nn.2.2)=p at *
 have hc:nn.2.2<0:=by
  revert hn
  cases !bdI nn.2.2&&(nxt s p==33) with
  | true=>
   rw [cond_true]
   dsimp only
   obtain ⟨x1,x2,x3,x4,x5⟩:=BD (m:=33) (by decide) p2 h2 n3 n4
   generalize mkP 33 s p nn.2.2=x at *
   obtain ⟨g1,g2,g3⟩:=II (s:=s) (a:=x.1) (!bdI x.2&&BZ (nxt s (x.1-1))) (by omega) x3 x4
   exact fun h=>(x5 (g3 h)).2
  | false=>
   rw [cond_false]
   obtain ⟨g1,g2,g3⟩:=II (s:=s) (a:=p) (!bdI nn.2.2&&BZ (nxt s nn.2.1)) (by omega) n3 n4
   exact fun h=>g3 h
 have c2:=n5 hc
 have c3:=m5 c2
 omega
theorem Ds {m:UInt8} {s:By} {a:Nat} {b:Int} (hb:b<0) (e:mrB m s a false=false):mkP m s a b=(mrA m s a false,b):=by
 unfold mkP mrQ
 rw [Cm.2 hb,e]; rfl
theorem FM {m:UInt8} {s:By} {a:Nat} {b:Int} (hb:b<0) (e:mrB m s a false=true):0<=(mkP m s a b).2:=by
 unfold mkP mrQ
 rw [Cm.2 hb,e,cond_true]
 unfold flB
 rw [if_pos hb]; omega
theorem KI {m:UInt8} {s:By} {a:Nat} (e:mrB m s a false=false):skp s (mrA m s a false)=mrA m s a false/\mrA m s a false=skp s (skp s a+1)/\nxt s (skp s a)=m:=by
 unfold mrB at e
 have q:(nxt s (skp s a)==m)=true:=by
  cases q:nxt s (skp s a)==m with
  | true=>exact rfl
  | false=>rw [q] at e; cases e
 unfold mrA
 rw [q]
 exact ⟨AJ _ _,rfl,beq_iff_eq.1 q⟩
theorem Qs {s:By} {a:Nat} (h:BZ (nxt s a)=true):a<skp s a:=by
 rw [(Co h).2]
 have:=AT s (a+1)
 omega
theorem Ji (s:By) : ∀ (n a:Nat),s.length-a<=n->a<skp s a->BZ (nxt s (skp s a-1))=true
 | 0,a,h,hg=>by
  cases hb:BZ (nxt s a) with
  | true=>have:=(Co hb).1; omega
  | false=>rw [Cp hb] at hg; omega
 | n+1,a,h,hg=>by
  cases hb:BZ (nxt s a) with
  | false=>rw [Cp hb] at hg; omega
  | true=>
   obtain ⟨h1,h2⟩:=Co hb
   rw [h2]
   by_cases c:a+1<skp s (a+1)
   ·exact Ji s n (a+1) (by omega) c
   ·have:=AT s (a+1)
    rw [show skp s (a+1)-1=a by omega]
    exact hb
theorem OG {s:By} {a:Nat} {b:Int} {ap:Bool} (h:ap=true\/Be (nxt s a)=false):flW s a b ap=b:=by
 unfold flW
 rcases h with h | h
 ·rw [h]; rfl
 ·rw [h,Bool.and_false,Bool.and_false]; rfl
theorem Ma {s:By} {a:Nat} {b:Int} {ap:Bool} (hb:b<0) (h1:ap=false) (h2:Be (nxt s a)=true):0<=flW s a b ap:=by
 unfold flW
 rw [h1,h2,Cm.2 hb]
 show 0<=flB a b
 unfold flB
 rw [if_pos hb]; omega
theorem PO {s:By} {a:Nat} {b:Int} (h1:a<=s.length) (h2:s.length<=400) (h3 : -1<=b) (hb:b<0):match hdP s a with
  | some (nm,no,mu,c)=>hdQ s a b=(nm,no,mu,c,b)
  | none=>0<=(hdQ s a b).2.2.2.2:=by
 have h4:b<=1000:=by omega
 have bad:=PP h1 h2 h3 h4
 have eq:=IE s a b
 unfold hdP
 dsimp only at eq ⊢
 have ep:blA s a false=skp s a:=rfl
 have hbd:=Cm.2 hb
 have ew:wdP s a b=(bif wqF s a b then [] else nmV s (skp s a) false,nmA s (skp s a) false,bif wqF s a b then flB (nmA s (skp s a) false) b else b):=by unfold wdP; rw [hbd,ep]
 have eq1:wqF s a b=((nmK s (skp s a)==0)||Be (nxt s (nmA s (skp s a) false))):=by unfold wqF; rw [hbd,ep]; rfl
 generalize skp s a=p at *
 have fl0 : ∀ x,0<=flB x b:=fun x=>by unfold flB; rw [if_pos hb]; omega
 by_cases hk:AZ s p=0\/10<AZ s p
 ·rw [if_pos hk]
  dsimp only
  refine bad (.inl ?_)
  have e1:wqF s a b=true:=by
   rw [eq1]
   rcases hk with hk | hk
   ·have:nmK s p=0:=by unfold nmK; omega
    rw [this]; rfl
   ·have e10:nmK s p=10:=by unfold nmK; omega
    have eqA:nmA s p false=p+10:=by show p+nmK s p=_; rw [e10]
    rw [eqA,I4 10 p hk,Bool.or_true]
  rw [ew,e1]
  exact fl0 _
 ·rw [if_neg hk]
  have ek:nmK s p=AZ s p:=by unfold nmK; omega
  have eqA:nmA s p false=p+AZ s p:=by show p+nmK s p=_; rw [ek]
  have ev:nmV s p false=(s.drop p).take (AZ s p):=by show (s.drop p).take (nmK s p)=_; rw [ek]
  have e1:wqF s a b=false:=by
   rw [eq1,eqA,LM s _ p (le_refl _),beq_eq_false_iff_ne.2 (by omega)]; rfl
  rw [eqA,ev,e1,cond_false,cond_false] at ew
  rw [ew] at bad eq
  dsimp only at bad eq
  rw [E9]
  cases hb3:mrB 58 s (p+AZ s p) false with
  | true=>
   rw [cond_true]
   exact bad (.inr (.inl (FM hb hb3)))
  | false=>
   rw [cond_false]
   rw [Ds hb hb3] at bad eq
   obtain ⟨r1,_,_⟩:=KI hb3
   generalize mrA 58 s (p+AZ s p) false=r at *
   dsimp only at bad eq ⊢
   have er:blA s r false=r:=r1
   have en:nrP s r b=(nbV s r false,nbA s r false,bif nqF s r b then flB (nbA s r false) b else b):=by unfold nrP; rw [hbd,er]
   have eq2:nqF s r b=(!An (nxt s r)||An (nxt s (nbA s r false))):=by unfold nqF; rw [hbd,er]; rfl
   cases hd:An (nxt s r) with
   | false=>
    have e5:Cn s r=none:=by unfold Cn; rw [if_neg (by rw [hd]; simp)]
    rw [e5]
    refine bad (.inr (.inr ?_))
    rw [en,eq2,hd]
    exact fl0 _
   | true=>
    have et:nbA s r false=AV s r:=by unfold nbA; rw [hd]; rfl
    have eno:nbV s r false=DF s r:=by unfold nbV; rw [hd]; rfl
    rw [hd,et] at eq2
    cases hd2:An (nxt s (AV s r)) with
    | true=>
     have e5:Cn s r=none:=by unfold Cn; rw [if_neg (by rw [hd2]; simp)]
     rw [e5]
     refine bad (.inr (.inr ?_))
     rw [en,eq2,hd2]
     exact fl0 _
    | false=>
     have e5:Cn s r=some (DF s r,AV s r):=by unfold Cn; rw [if_pos ⟨hd,hd2⟩]
     rw [e5]
     rw [hd2] at eq2
     have eq2:nqF s r b=false:=eq2
     rw [eq2,et,eno,cond_false] at en
     rw [en] at eq
     dsimp only at eq ⊢
     rw [hbd] at eq
     have eu:blA s (AV s r) false=skp s (AV s r):=rfl
     rw [eu,Bool.not_false,Bool.true_and,Bool.true_and] at eq
     clear bad en eq2 e5 et eno
     generalize AV s r=q at *
     by_cases h33:nxt s (skp s q)=33
     ·rw [if_pos h33]
      rw [h33,beq_self_eq_true,cond_true] at eq
      have e6:mrB 33 s (skp s q) false=false:=by unfold mrB; rw [AJ,h33]; rfl
      have e7:mrA 33 s (skp s q) false=skp s (skp s q+1):=by unfold mrA; rw [AJ,h33]; rfl
      rw [Ds hb e6,e7] at eq
      dsimp only at eq
      rw [hbd,Bool.not_false,Bool.true_and] at eq
      have g:=AT s (skp s q+1)
      by_cases hx:skp s (skp s q+1)=skp s q+1/\Be (nxt s (skp s q+1))=true
      ·rw [if_pos hx]
       dsimp only
       rw [eq,hx.1,Nat.add_sub_cancel,h33]
       exact Ma hb (by rfl) hx.2
      ·rw [if_neg hx]
       dsimp only
       rw [eq,OG]
       by_cases c:skp s (skp s q+1)=skp s q+1
       ·right
        cases q9:Be (nxt s (skp s (skp s q+1))) with
        | false=>rfl
        | true=>rw [c] at q9; exact absurd ⟨c,q9⟩ hx
       ·exact .inl (Ji s _ _ (le_refl _) (by omega))
     ·rw [if_neg h33]
      rw [beq_eq_false_iff_ne.2 h33,cond_false] at eq
      have g:=AT s q
      by_cases hx:skp s q=q/\Be (nxt s (skp s q))=true
      ·rw [if_pos hx]
       dsimp only
       rw [eq]
       refine Ma hb ?_ hx.2
       cases q9:BZ (nxt s q) with
       | false=>rfl
       | true=>have:=Qs q9; omega
      ·rw [if_neg hx]
       dsimp only
       rw [eq,OG]
       by_cases c:skp s q=q
       ·right
        cases q9:Be (nxt s (skp s q)) with
        | false=>rfl
        | true=>exact absurd ⟨c,q9⟩ hx
       ·left
        cases q9:BZ (nxt s q) with
        | true=>rfl
        | false=>exact absurd (Cp q9) c

theorem Px {s:By} {r:Nat} {b:Int} (hb:b<0) (r1:skp s r=r):match Cn s r with
  | none=>0<=(nrP s r b).2.2
  | some (v,q)=>nrP s r b=(v,q,b):=by
 have hbd:=Cm.2 hb
 have fl0 : ∀ x,0<=flB x b:=fun x=>by unfold flB; rw [if_pos hb]; omega
 have er:blA s r false=r:=r1
 have en:nrP s r b=(nbV s r false,nbA s r false,bif nqF s r b then flB (nbA s r false) b else b):=by unfold nrP; rw [hbd,er]
 have eq2:nqF s r b=(!An (nxt s r)||An (nxt s (nbA s r false))):=by unfold nqF; rw [hbd,er]; rfl
 cases hd:An (nxt s r) with
 | false=>
  have e5:Cn s r=none:=by unfold Cn; rw [if_neg (by rw [hd]; simp)]
  rw [e5]
  dsimp only
  rw [en,eq2,hd]
  exact fl0 _
 | true=>
  have et:nbA s r false=AV s r:=by unfold nbA; rw [hd]; rfl
  have eno:nbV s r false=DF s r:=by unfold nbV; rw [hd]; rfl
  rw [hd,et] at eq2
  cases hd2:An (nxt s (AV s r)) with
  | true=>
   have e5:Cn s r=none:=by unfold Cn; rw [if_neg (by rw [hd2]; simp)]
   rw [e5]
   dsimp only
   rw [en,eq2,hd2]
   exact fl0 _
  | false=>
   have e5:Cn s r=some (DF s r,AV s r):=by unfold Cn; rw [if_pos ⟨hd,hd2⟩]
   rw [e5]
   dsimp only
   rw [hd2] at eq2
   have eq2:nqF s r b=false:=eq2
   rw [en,eq2,et,eno,cond_false]
theorem Fq {m:UInt8} {s:By} {a:Nat} {b:Int} (hb:0<=b):0<=(mkP m s a b).2:=by
 unfold mkP mrQ
 rw [DY.2 hb]
 show 0<=flB _ b
 unfold flB
 rw [if_neg (by omega)]; exact hb
theorem Py {s:By} {a:Nat} {b:Int} (hb:0<=b):0<=(nrP s a b).2.2:=by
 unfold nrP
 dsimp only
 cases nqF s a b with
 | true=>rw [cond_true]; unfold flB; rw [if_neg (by omega)]; exact hb
 | false=>rw [cond_false]; exact hb
theorem QS {f:By->Nat->Int->Rose Lab×Nat×Int} (bf:BdQ f) {s:By} {a:Nat} {b:Int} (h1:a<=s.length) (h2:s.length<=400) (hb:0<=b) (h4:b<=1000):0<=(f s a b).2.2:=by
 obtain ⟨_,_,_,_,y5⟩:=bf s a b h1 h2 (by omega) h4
 refine Classical.byContradiction fun hn=>?_
 have:=y5 (by omega)
 omega
theorem Oj {n:Nat} (f:By->Nat->Int->Rose Lab×Nat×Int) (bf:BdQ f) {s:By} (hs:s.length<=400) (iT : ∀ k c,c<=s.length->skp s c=c->s.length-c+3<=n->s.length-c+3<=k->OQ (pT k s c) (f s c (-1))) : ∀ (kf k a:Nat) (o:RL),a<=s.length->s.length-a+2<=n->s.length-a+2<=k->s.length-a+2<=kf->RK s o (pL k s a) (lpQ f kf s o a (-1))
 | 0,k,a,o,ha,hn,hk,hf=>by omega
 | kf+1,k,a,o,ha,hn,hk,hf=>by
  obtain ⟨k,rfl⟩ : ∃ j,k=j+1:=⟨k-1,by omega⟩
  have hh:=PO ha hs (b:=-1) (by omega) (by omega)
  obtain ⟨d1,d2,d3,d4,d5⟩:=Le ha hs (b:=-1) (by omega) (by omega)
  have e0:bdI (-1)=false:=rfl
  rw [LA,lpQ,e0,cond_false]
  dsimp only
  have badc : ∀ (o2:RL) (y:Rose Lab×Nat×Int),0<=y.2.2->0<=(mkP 125 s (bif !bdI y.2.2&&(nxt s (blA s y.2.1 (bdI y.2.2))==44) then lpQ f kf s o2 (mkP 44 s (blA s y.2.1 (bdI y.2.2)) y.2.2).1 (mkP 44 s (blA s y.2.1 (bdI y.2.2)) y.2.2).2 else (o2,blA s y.2.1 (bdI y.2.2),y.2.2)).2.1 (bif !bdI y.2.2&&(nxt s (blA s y.2.1 (bdI y.2.2))==44) then lpQ f kf s o2 (mkP 44 s (blA s y.2.1 (bdI y.2.2)) y.2.2).1 (mkP 44 s (blA s y.2.1 (bdI y.2.2)) y.2.2).2 else (o2,blA s y.2.1 (bdI y.2.2),y.2.2)).2.2).2:=fun o2 y h=>by
   rw [DY.2 h,Bool.not_true,Bool.false_and,cond_false]
   exact Fq h
  unfold pP
  cases hP:hdP s a with
  | none=>
   rw [hP] at hh
   exact badc _ _ (QS bf d2 hs hh d4)
  | some x=>
   obtain ⟨nm,no,mu,c⟩:=x
   rw [hP] at hh
   dsimp only at hh
   rw [hh]
   obtain ⟨c1,c2,c3,c4⟩:=ID ha hP
   have hy:=iT k c c2 c4 (by omega) (by omega)
   obtain ⟨y1,y2,y3,y4,y5⟩:=bf s c (-1) c2 hs (by omega) (by omega)
   dsimp only
   generalize f s c (-1)=y at *
   cases ht:pT k s c with
   | none=>
    rw [ht] at hy
    exact badc _ _ hy
   | some w=>
    obtain ⟨z,q,ok⟩:=w
    rw [ht] at hy
    obtain ⟨r1,r2,r3⟩:=hy
    obtain ⟨u1,u2,u3⟩:=y
    dsimp only at *
    subst r2 r3
    have eu:u3 = -1:=by omega
    subst eu
    rw [e0]
    have eb:blA s u2 false=skp s u2:=rfl
    rw [eb,Bool.not_false,Bool.true_and]
    have g1:=AT s u2
    have g2:=Bh y2
    by_cases q1:nxt s (skp s u2)=125
    ·rw [if_pos q1,q1]
     have e6:mrB 125 s (skp s u2) false=false:=by unfold mrB; rw [AJ,q1]; rfl
     have e7:mrA 125 s (skp s u2) false=skp s (skp s u2+1):=by unfold mrA; rw [AJ,q1]; rfl
     show (mkP 125 s (skp s u2) (-1)).2<0/\(mkP 125 s (skp s u2) (-1)).1=_/\_
     rw [Ds (by omega) e6,e7]
     exact ⟨by show (-1:Int)<0; omega,rfl,rfl⟩
    ·rw [if_neg q1]
     by_cases q2:nxt s (skp s u2)=44
     ·rw [if_pos q2,q2,beq_self_eq_true,cond_true]
      have e6:mrB 44 s (skp s u2) false=false:=by unfold mrB; rw [AJ,q2]; rfl
      have e7:mrA 44 s (skp s u2) false=skp s (skp s u2+1):=by unfold mrA; rw [AJ,q2]; rfl
      rw [Ds (by omega) e6,e7]
      have hlt:=AU (s:=s) (a:=skp s u2) (by rw [q2]; decide)
      have g3:=AT s (skp s u2+1)
      have g4:=Bh (s:=s) (a:=skp s u2+1) (by omega)
      have ih:=Oj f bf hs iT kf k (skp s (skp s u2+1)) (AE o (.node (u1.lab.1,nm,(no:Int),mu,u1.lab.2.2.2.2.1,()) u1.kids)) g4 (by omega) (by omega) (by omega)
      dsimp only
      generalize lpQ f kf s (AE o (.node (u1.lab.1,nm,(no:Int),mu,u1.lab.2.2.2.2.1,()) u1.kids)) (skp s (skp s u2+1)) (-1)=v at *
      cases hl:pL k s (skp s (skp s u2+1)) with
      | none=>rw [hl] at ih; exact ih
      | some w=>
       obtain ⟨l,e',ok2⟩:=w
       rw [hl] at ih
       obtain ⟨i1,i2,i3⟩:=ih
       exact ⟨i1,i2,i3⟩
     ·rw [if_neg q2,beq_eq_false_iff_ne.2 q2,cond_false]
      have e6:mrB 125 s (skp s u2) false=true:=by unfold mrB; rw [AJ,beq_eq_false_iff_ne.2 q1]; rfl
      exact FM (by omega) e6
theorem BdQ.rd : ∀ n,BdQ (rdQ n).1/\BdQ (rdQ n).2
 | 0=>⟨fun _ _ _ h1 _ h3 h4=>⟨le_refl _,h1,h3,h4,fun h=>h⟩,fun _ _ _ h1 _ h3 h4=>⟨le_refl _,h1,h3,h4,fun h=>h⟩⟩
 | n+1=>⟨BdQ.ty _ _ (BdQ.rd n).1 (BdQ.rd n).2,BdQ.ms _ (BdQ.rd n).1⟩
theorem R4 {s:By} {a:Nat} (h:AQ CS s a=true):kdF s a=(1,a+3,false):=by
 have e1:kqN s a 0=1:=by unfold kqN; rw [if_pos ⟨by decide,h⟩]
 have e2:kqL s a 0=3:=by unfold kqL; rw [if_pos ⟨by decide,h⟩]
 unfold kdF
 rw [e1,e2]; rfl
theorem R3 {s:By} {a:Nat} (h1:AQ CS s a=false) (h:AQ BH s a=true):kdF s a=(2,a+4,false):=by
 have e1:kqN s a 0=2:=by unfold kqN; rw [if_neg (fun h=>by rw [h1] at h; cases h.2),if_pos ⟨by decide,h⟩]
 have e2:kqL s a 0=4:=by unfold kqL; rw [if_neg (fun h=>by rw [h1] at h; cases h.2),if_pos ⟨by decide,h⟩]
 unfold kdF
 rw [e1,e2]; rfl
theorem R5 {s:By} {a:Nat} (h1:AQ CS s a=false) (h2:AQ BH s a=false) (h:AQ AA s a=true):kdF s a=(3,a+4,false):=by
 have e1:kqN s a 0=3:=by unfold kqN; rw [if_neg (fun h=>by rw [h1] at h; cases h.2),if_neg (fun h=>by rw [h2] at h; cases h.2),if_pos ⟨by decide,h⟩]
 have e2:kqL s a 0=4:=by unfold kqL; rw [if_neg (fun h=>by rw [h1] at h; cases h.2),if_neg (fun h=>by rw [h2] at h; cases h.2),if_pos ⟨by decide,h⟩]
 unfold kdF
 rw [e1,e2]; rfl
theorem R2 {s:By} {a:Nat} (h1:AQ CS s a=false) (h2:AQ BH s a=false) (h3:AQ AA s a=false):(kdF s a).1=0/\(kdF s a).2.2=true:=by
 have e1:kqN s a 0=0:=by unfold kqN; rw [if_neg (fun h=>by rw [h1] at h; cases h.2),if_neg (fun h=>by rw [h2] at h; cases h.2),if_neg (fun h=>by rw [h3] at h; cases h.2)]
 unfold kdF
 rw [if_pos e1]; exact ⟨rfl,rfl⟩
theorem N0 {s:By} (hs:s.length<=400) : ∀ n:Nat,(∀ k a,a<=s.length->skp s a=a->s.length-a+3<=n->s.length-a+3<=k->OQ (pT k s a) ((rdQ n).1 s a (-1)))/\(∀ k a,a<=s.length->skp s a=a->nxt s a=123->s.length-a+2<=n->s.length-a+2<=k->OQ (pM k s (skp s (a+1))) ((rdQ n).2 s a (-1)))
 | 0=>⟨fun k a _ _ h=>by omega,fun k a _ _ _ h=>by omega⟩
 | n+1=>by
  obtain ⟨iT,iM⟩:=N0 hs n
  have e0:bdI (-1)=false:=rfl
  refine ⟨fun k a ha hsk hn hk=>?_,fun k a ha hsk h123 hn hk=>?_⟩
  ·obtain ⟨k,rfl⟩ : ∃ j,k=j+1:=⟨k-1,by omega⟩
   show OQ _ (tyQ (rdQ n).1 (rdQ n).2 s a (-1))
   have nopre : ∀ (b:UInt8) (w:By),nxt s a≠b->AQ (b::w) s a=false:=fun b w h=>by
    cases q:AQ (b::w) s a with
    | false=>rfl
    | true=>exact absurd (NQ q) h
   have eb:blA s a false=a:=hsk
   rw [pT]
   unfold tyQ
   rw [e0,cond_false,eb]
   by_cases c4:nxt s a=91
   ·rw [if_neg (by rw [show AQ CS s a=false from nopre 110 _ (by rw [c4]; decide)]; simp),if_neg (by rw [show AQ BH s a=false from nopre 116 _ (by rw [c4]; decide)]; simp),if_neg (by rw [show AQ AA s a=false from nopre 101 _ (by rw [c4]; decide)]; simp),if_pos c4]
    rw [c4,beq_self_eq_true,cond_true]
    dsimp only
    have e6:mrB 91 s a false=false:=by unfold mrB; rw [hsk,c4]; rfl
    have e7:mrA 91 s a false=skp s (a+1):=by unfold mrA; rw [hsk,c4]; rfl
    rw [Ds (by omega) e6,e7]
    have hlt:=AU (s:=s) (a:=a) (by rw [c4]; decide)
    have g1:=AT s (a+1)
    have g2:=Bh (s:=s) (a:=a+1) (by omega)
    have ih:=iT k (skp s (a+1)) g2 (AJ _ _) (by omega) (by omega)
    obtain ⟨y1,y2,y3,y4,y5⟩:=(BdQ.rd n).1 s (skp s (a+1)) (-1) g2 hs (by omega) (by omega)
    dsimp only
    generalize (rdQ n).1 s (skp s (a+1)) (-1)=y at *
    cases ht:pT k s (skp s (a+1)) with
    | none=>
     rw [ht] at ih
     exact Fq ih
    | some x=>
     obtain ⟨z,e,ok⟩:=x
     rw [ht] at ih
     obtain ⟨r1,r2,r3⟩:=ih
     obtain ⟨u1,u2,u3⟩:=y
     dsimp only at *
     subst r2 r3
     have eu:u3 = -1:=by omega
     subst eu
     rw [E9]
     cases hb:mrB 93 s u2 false with
     | true=>exact FM (by omega) hb
     | false=>rw [Ds (by omega) hb]; exact ⟨by show (-1:Int)<0; omega,rfl,rfl⟩
   ·by_cases c5:nxt s a=123
    ·rw [if_neg (by rw [show AQ CS s a=false from nopre 110 _ (by rw [c5]; decide)]; simp),if_neg (by rw [show AQ BH s a=false from nopre 116 _ (by rw [c5]; decide)]; simp),if_neg (by rw [show AQ AA s a=false from nopre 101 _ (by rw [c5]; decide)]; simp),if_neg c4,if_pos c5]
     rw [beq_eq_false_iff_ne.2 c4,cond_false,c5,beq_self_eq_true,cond_true]
     exact iM k a ha hsk c5 (by omega) (by omega)
    ·rw [beq_eq_false_iff_ne.2 c4,beq_eq_false_iff_ne.2 c5,cond_false,cond_false]
     dsimp only
     cases p1:AQ CS s a with
     | true=>rw [R4 p1,if_pos rfl]; exact ⟨by show (-1:Int)<0; omega,rfl,rfl⟩
     | false=>
      rw [if_neg (by simp)]
      cases p2:AQ BH s a with
      | true=>rw [R3 p1 p2,if_pos rfl]; exact ⟨by show (-1:Int)<0; omega,rfl,rfl⟩
      | false=>
       rw [if_neg (by simp)]
       cases p3:AQ AA s a with
       | false=>
        rw [if_neg (by simp),if_neg c4,if_neg c5]
        obtain ⟨k1,k2⟩:=R2 p1 p2 p3
        rw [k1,k2]
        show (0:Int)<=(((kdF s a).2.1:Nat):Int)
        omega
       | true=>
        rw [R5 p1 p2 p3,if_pos rfl]
        dsimp only
        rw [cond_false]
        have e33:((3:Nat)==3)=true:=rfl
        rw [e33,cond_true]
        unfold enQ
        dsimp only
        rw [E9]
        cases hb2:mrB 40 s (a+4) false with
        | true=>
         have x1:=FM (b:=-1) (by omega) hb2
         exact Fq (Py x1)
        | false=>
         rw [cond_false,Ds (by omega) hb2]
         obtain ⟨s1,_,_⟩:=KI hb2
         dsimp only
         generalize mrA 40 s (a+4) false=r at *
         have hr:=Px (b:=-1) (by omega) s1
         cases hN:Cn s r with
         | none=>
          rw [hN] at hr
          exact Fq hr
         | some x=>
          obtain ⟨v,q⟩:=x
          rw [hN] at hr
          dsimp only at hr ⊢
          rw [hr,E9]
          dsimp only
          cases hb:mrB 41 s q false with
          | true=>exact FM (by omega) hb
          | false=>rw [Ds (by omega) hb]; exact ⟨by show (-1:Int)<0; omega,rfl,rfl⟩
  ·obtain ⟨k,rfl⟩ : ∃ j,k=j+1:=⟨k-1,by omega⟩
   show OQ _ (msQ (rdQ n).1 s a (-1))
   have e6:mrB 123 s a false=false:=by unfold mrB; rw [hsk,h123]; rfl
   have e7:mrA 123 s a false=skp s (a+1):=by unfold mrA; rw [hsk,h123]; rfl
   have hlt:=AU (s:=s) (a:=a) (by rw [h123]; decide)
   have g1:=AT s (a+1)
   have g2:=Bh (s:=s) (a:=a+1) (by omega)
   rw [pM]
   unfold msQ
   dsimp only
   rw [Ds (by omega) e6,e7]
   dsimp only
   rw [e0,Bool.not_false,Bool.true_and]
   by_cases c1:nxt s (skp s (a+1))=125
   ·rw [if_pos c1,c1,beq_self_eq_true,cond_true]
    have f6:mrB 125 s (skp s (a+1)) false=false:=by unfold mrB; rw [AJ,c1]; rfl
    have f7:mrA 125 s (skp s (a+1)) false=skp s (skp s (a+1)+1):=by unfold mrA; rw [AJ,c1]; rfl
    rw [Ds (by omega) f6,f7]
    exact ⟨by show (-1:Int)<0; omega,rfl,rfl⟩
   ·rw [if_neg c1,beq_eq_false_iff_ne.2 c1,cond_false]
    have hl:=Oj _ (BdQ.rd n).1 hs iT 1000 k (skp s (a+1)) [] g2 (by omega) (by omega) (by omega)
    generalize lpQ (rdQ n).1 1000 s [] (skp s (a+1)) (-1)=y at *
    cases hp:pL k s (skp s (a+1)) with
    | none=>rw [hp] at hl; exact hl
    | some x=>
     obtain ⟨l,e,ok⟩:=x
     rw [hp] at hl
     obtain ⟨i1,i2,i3⟩:=hl
     exact ⟨i1,i2,by show Rose.node _ y.1=_; rw [i3]⟩

theorem byq:Ad prog 38 (Ent.own (MY AC)).F:=by
 refine fcC (kc func54 srq KnowsL.nil).knows (Λ:=Ab []) func38 fun vs bs r hq=>?_
 unfold Ent.F MY at hq
 dsimp only at hq
 split at hq
 ·rename_i z0 z1 z2 z3 z4 m nl o
  obtain ⟨hc,hx⟩:=Ae hq
  refine ⟨Ar _,(OP AC z0 z1 z2 z3 z4 m nl o).trans (Eq.trans ?_ hx)⟩
  rw [Aa hc]
  rfl
 ·cases hq
theorem R6 : ∀ n,Ad prog 53 (Ent.own (H0 n (rdN AC n).1)).F/\Ad prog 17 (Ent.own (JP n (rdN AC n).2)).F
 | 0=>⟨AN fun vs bs=>by
   unfold Ent.F H0
   dsimp only
   split
   ·rw [dcF (by omega)]; rfl
   ·rfl,AN fun vs bs=>by
   unfold Ent.F JP
   dsimp only
   split
   ·rw [dcF (by omega)]; rfl
   ·rfl⟩
 | n+1=>by
  obtain ⟨h1,h2⟩:=R6 n
  have b:=BdF.rd AC n
  exact ⟨P8 n _ _ b.1 h1 h2,PE n _ (BdF.pa b.1) AC Ik (PD n _ h1) byq⟩
theorem Ro : ∀ n,Ad prog 27 (Ent.own (Ea n (rdQ n).1)).F/\Ad prog 10 (Ent.own (Jq n (rdQ n).2)).F
 | 0=>⟨AN fun vs bs=>by
   unfold Ent.F Ea
   dsimp only
   split
   ·rw [dcF (by omega)]; rfl
   ·rfl,AN fun vs bs=>by
   unfold Ent.F Jq
   dsimp only
   split
   ·rw [dcF (by omega)]; rfl
   ·rfl⟩
 | n+1=>by
  obtain ⟨h1,h2⟩:=Ro n
  have b:=BdQ.rd n
  exact ⟨Pi n _ _ b.1 h1 h2,Pm n _ b.1 h1⟩
def q3 (s:By):Rose Lab×Nat×Int:=(rdQ 500).2 s 0 (-1)
def q3b (s:By):Int:=if (q3 s).2.2<0/\(q3 s).2.1<s.length then (((q3 s).2.1:Nat):Int) else (q3 s).2.2
def tyS (s:By):List Ty:=At (q3 s).1 (-1) 0
def l3G:Gm
 | [.s s],[]=>.br (decide (400<s.length)) (.leaf (.tup [.agg [.ref 0 0 0],.j 0,.b false],[R0 TCd []])) (.br (decide (0<=q3b s)) (.leaf (.tup [.agg [.ref 0 0 0],.j (q3b s),.b false],[R0 TCd []])) (.br (AX (tyS s)) (.leaf (.tup [.agg [.ref 0 0 (tyS s).length],.j 0,.b true],[R0 TCd (tyS s)])) (.leaf (.tup [.agg [.ref 0 0 0],.j (s.length:Int),.b false],[R0 TCd []]))))
 | _,_=>.no
theorem Pn (f:By->Nat->Int->Rose Lab×Nat×Int) (s:By):BA prog (Ab [(10,.own (Jq 500 f)),(11,.own qfG),(12,.rd1 Np)]) (Ab []) Tryd.f6 [.s s] [] =
 ((shr (Al TCd.den) fun sh3=>shr (f s 0 (-1:Int)) fun sh2=>shr (At (Rose.node (sh2.1.lab.1,sh2.1.lab.2.1,sh2.1.lab.2.2.1,
 sh2.1.lab.2.2.2.1,sh2.1.lab.2.2.2.2.1,()) (take sh2.1.kids.length (drop 0 sh2.1.kids))) (-1:Int) 0) fun sh1=>ifB
 (decide ((↑s.length:Int)>(400:Int))) (some (V.tup [V.agg [V.ref 0 0 0],V.j 0,V.b false],[R0 TCd sh3])) (ifT (decide (((0:Int)<=(0
 : Int)/\0<=s.length/\s.length<=400/\(-1:Int)<=(-1:Int)/\(-1:Int)<=(1000:Int))/\1<=500/\(0:Int)<=(1:Int)/\(1 :
 Int)<=(1000:Int)/\((0:Int)<=(-1:Int)\/s.length-0+2<=500/\1+(↑(s.length-0):Int)<=(451:Int)))) (ifB (decide
 (sh2.2.2<(0:Int))) (ifB (decide ((↑sh2.2.1:Int)<(↑s.length:Int))) (ifT (decide (0<=(↑sh2.2.1:Int)/\(↑sh2.2.1:Int).toNat<=s.length/\
 s.length<=400/\(-1:Int)<=sh2.2.2/\sh2.2.2<=(1000:Int))) (ifB (decide (flB (↑sh2.2.1:Int).toNat sh2.2.2>=(0:Int))) (some (V.tup
 [V.agg [V.ref 0 0 0],V.j (flB (↑sh2.2.1:Int).toNat sh2.2.2),V.b false],[R0 TCd sh3])) (ifT (decide (Aj (take
 sh2.1.kids.length (drop 0 sh2.1.kids))+1<=2000000)&&nmL sh1) (ifB (AX sh1) (some (V.tup [V.agg [V.ref 0 0 sh1.length],V.i .i64
 0,V.b true],[R0 TCd sh1])) (some (V.tup [V.agg [V.ref 0 0 0],V.j (↑s.length:Int),V.b false],[R0 TCd sh3]))))))
 (ifB (decide (sh2.2.2>=(0:Int))) (some (V.tup [V.agg [V.ref 0 0 0],V.j sh2.2.2,V.b false],[R0 TCd sh3])) (ifT (decide (Aj
 (take sh2.1.kids.length (drop 0 sh2.1.kids))+1<=2000000)&&nmL sh1) (ifB (AX sh1) (some (V.tup [V.agg [V.ref 0 0 sh1.length],
 V.j 0,V.b true],[R0 TCd sh1])) (some (V.tup [V.agg [V.ref 0 0 0],V.j (↑s.length:Int),V.b false],[R0 TCd
 sh3])))))) (ifB (decide (sh2.2.2>=(0:Int))) (some (V.tup [V.agg [V.ref 0 0 0],V.j sh2.2.2,V.b false],[R0 TCd sh3])) (ifT
 (decide (Aj (take sh2.1.kids.length (drop 0 sh2.1.kids))+1<=2000000)&&nmL sh1) (ifB (AX sh1) (some (V.tup [V.agg [V.ref 0
 0 sh1.length],V.j 0,V.b true],[R0 TCd sh1])) (some (V.tup [V.agg [V.ref 0 0 0],V.j (↑s.length:Int),V.b false],[R0 TCd sh3])))))))):_):=by kernel_rfl
theorem P0 (f:By->Nat->Int->Rose Lab×Nat×Int) (s:By) (a:Nat):msQ f s (skp s a) (-1)=msQ f s a (-1):=by
 have e:mkP 123 s (skp s a) (-1)=mkP 123 s a (-1):=by
  unfold mkP mrQ mrA mrB
  rw [AJ]; rfl
 unfold msQ
 rw [e]
theorem Q9 (f:By->Nat->Int->Rose Lab×Nat×Int) {s:By} {a:Nat} (h:nxt s (skp s a)≠123):0<=(msQ f s a (-1)).2.2:=by
 have e:mrB 123 s a false=true:=by unfold mrB; rw [beq_eq_false_iff_ne.2 h]; rfl
 have hx:=FM (b:=-1) (by omega) e
 unfold msQ
 dsimp only
 generalize mkP 123 s a (-1)=x at *
 rw [DY.2 hx,Bool.not_true,Bool.false_and,cond_false]
 refine Fq ?_
 rw [lpQ,DY.2 hx,cond_true]
 exact hx
theorem K7 {s:By} (hs:s.length<=400):match pS s with
  | none=>0<=q3b s
  | some (z,_)=>q3b s<0/\(q3 s).1=z/\Ak z<=400/\Bu z=true/\hoR z=true:=by
 have e3:q3 s=msQ (rdQ 499).1 s 0 (-1):=rfl
 have bd:=(BdQ.rd 500).2 s 0 (-1) (zero_le _) hs (by omega) (by omega)
 have e4:(rdQ 500).2 s 0 (-1)=q3 s:=rfl
 rw [e4] at bd
 unfold pS q3b
 rw [E9]
 by_cases h:nxt s (skp s 0)=123
 ·have e6:mrB 123 s 0 false=false:=by unfold mrB; rw [h]; rfl
  have e7:mrA 123 s 0 false=skp s (skp s 0+1):=by unfold mrA; rw [h]; rfl
  rw [e6,e7,cond_false]
  dsimp only
  have g0:=Bh (zero_le s.length)
  have hr:=(N0 hs 500).2 1000 (skp s 0) g0 (AJ _ _) h (by omega) (by omega)
  have e8:(rdQ 500).2 s (skp s 0) (-1)=q3 s:=P0 _ s 0
  rw [e8] at hr
  have hlt:=AU (s:=s) (a:=skp s 0) (by rw [h]; decide)
  have g2:=Bh (s:=s) (a:=skp s 0+1) (by omega)
  have hf:=(It 1000).2.1 s (skp s (skp s 0+1))
  cases hp:pM 1000 s (skp s (skp s 0+1)) with
  | none=>
   rw [hp] at hr
   have hr:0<=(q3 s).2.2:=hr
   dsimp only
   rw [if_neg (by omega)]
   exact hr
  | some w=>
   obtain ⟨z,e,ok⟩:=w
   rw [hp] at hr
   obtain ⟨r1,r2,r3⟩:=hr
   obtain ⟨f1,f2,f3,f4,f5⟩:=hf z e ok g2 hp
   dsimp only
   by_cases c:e=s.length
   ·rw [if_pos c]
    dsimp only
    rw [if_neg (by omega)]
    exact ⟨r1,r3,by omega,f4,f5⟩
   ·rw [if_neg c]
    dsimp only
    rw [if_pos ⟨r1,by omega⟩]
    omega
 ·have e6:mrB 123 s 0 false=true:=by unfold mrB; rw [beq_eq_false_iff_ne.2 h]; rfl
  rw [e6,cond_true]
  dsimp only
  have:=Q9 (rdQ 499).1 h
  rw [<-e3] at this
  rw [if_neg (by omega)]
  exact this
theorem l3c:Ad prog 6 (Ent.own l3G).F:=by
 refine Cq (kc func10 (Ro 500).2 (kc func11 qfl (kc func12 RQ KnowsL.nil))).knows (Λ:=Ab []) func6 (c:=Tryd.f6.body.getD .skip) (by kernel_rfl) fun vs bs r hq hv hb=>?_
 unfold Ent.F l3G at hq
 dsimp only at hq
 split at hq
 ·rename_i s
  refine ⟨Ar _,(Pn (rdQ 500).2 s).trans (Eq.trans ?_ hq)⟩
  dsimp only [shr]
  have hM:=mxI
  by_cases h:400<s.length
  ·rw [Ag (dcT (by omega)),dcT h]; rfl
  ·have hs:s.length<=400:=by omega
   have hr:=K7 hs
   have bd:=(BdQ.rd 500).2 s 0 (-1) (zero_le _) hs (by omega) (by omega)
   have e4:(rdQ 500).2 s 0 (-1)=q3 s:=rfl
   rw [Af (dcF (by omega)),Aa (dcT ⟨⟨by omega,by omega,hs,by omega,by omega⟩,by omega,by omega,by omega,.inr ⟨by omega,by omega⟩⟩),dcF h,e4]
   rw [e4] at bd
   have hfin:q3b s<0->(decide (Aj (q3 s).1.kids+1<=2000000)&&nmL (tyS s))=true:=fun hb=>by
    cases hp:pS s with
    | none=>rw [hp] at hr; have hr:0<=q3b s:=hr; omega
    | some w=>
     obtain ⟨z,ok⟩:=w
     rw [hp] at hr
     obtain ⟨_,r2,r3,r4,_⟩:=hr
     have e9:Ak (q3 s).1<=400:=by rw [r2]; exact r3
     have e10:nmL (tyS s)=true:=FJ _ _ _ (by rw [r2]; exact r4)
     rw [e10,Bool.and_true]
     generalize (q3 s).1=t at *
     obtain ⟨x,ks⟩:=t
     rw [Ak] at e9
     exact dcT (by show Aj ks+1<=_; omega)
   have et:tyS s=At (q3 s).1 (-1) 0:=rfl
   have eb:q3b s=if (q3 s).2.2<0/\(q3 s).2.1<s.length then (((q3 s).2.1:Nat):Int) else (q3 s).2.2:=rfl
   generalize q3b s=qb at *
   generalize tyS s=ty at *
   generalize q3 s=y at *
   have ey:Rose.node (y.1.lab.1,y.1.lab.2.1,y.1.lab.2.2.1,y.1.lab.2.2.2.1,y.1.lab.2.2.2.2.1,()) y.1.kids=y.1:=by
    obtain ⟨⟨⟨x0,x1,x2,x3,x4,⟨⟩⟩,ks⟩,y1,y2⟩:=y
    rfl
   rw [drop_zero,take_length,ey,<-et]
   obtain ⟨b1,b2,b3,b4,b5⟩:=bd
   by_cases c1:y.2.2<0
   ·rw [Ag (dcT c1)]
    by_cases c2:y.2.1<s.length
    ·rw [if_pos ⟨c1,c2⟩] at eb
     have ef:flB y.2.1 y.2.2=((y.2.1:Nat):Int):=by unfold flB; rw [if_pos c1]
     repeat rw [ntN]
     rw [Ag (dcT (by omega)),Aa (dcT ⟨by omega,b2,hs,b3,b4⟩),ef,Ag (dcT (by omega)),dcT (show 0<=qb by omega),eb]
     rfl
    ·rw [if_neg (by omega)] at eb
     rw [Af (dcF (by omega)),Af (dcF (by omega)),Aa (hfin (by omega)),dcF (show ¬0<=qb by omega)]
     cases AX ty with
     | true=>rw [A4]; rfl
     | false=>rw [A1]; rfl
   ·rw [if_neg (by omega)] at eb
    rw [Af (dcF c1),Ag (dcT (by omega)),dcT (show 0<=qb by omega),eb]
    rfl
 ·cases hq
def k3 (h:RL->RL) (s:By):Rose Lab×Nat×Bool:=(rdN h 500).2 s (mrA 123 s 0 false) (mrB 123 s 0 false)
def Fx (h:RL->RL) (s:By):Bool:=!(mrB 123 s 0 false)&&(!(k3 h s).2.2&&(!decide (blA s (k3 h s).2.1 false<s.length)&&B5 (k3 h s).1))
def k3p (h:RL->RL) (s:By):Nat:=bif mrB 123 s 0 false then mrA 123 s 0 false else bif (k3 h s).2.2 then (k3 h s).2.1 else blA s (k3 h s).2.1 false
def rkG (h:RL->RL):Gm
 | [.s s],[]=>.br (decide (400<s.length)) (.leaf (.tup [.np,.j 0],[])) (.br (Fx h s) (.leaf (.tup [.ptr 0 0,.j 0],[some (.box [.j (k3 h s).1.lab.1,.s (k3 h s).1.lab.2.1,.j (k3 h s).1.lab.2.2.1,.b (k3 h s).1.lab.2.2.2.1,.j (k3 h s).1.lab.2.2.2.2.1,.ref 1 0 (k3 h s).1.kids.length]),R0 (.tree LCd) (k3 h s).1.kids])) (.leaf (.tup [.np,.j (k3p h s:Nat)],[])))
 | _,_=>.no
theorem Pe (f:By->Nat->Bool->Rose Lab×Nat×Bool) (s:By):BA prog (Ab [(16,.own Hy),(17,.own (JP 500 f)),(18,.own Lx),(19,.rd1 KW)]) (Ab []) f8 [.s s] [] =
 ((shr (f s (↑(mrA (123:UInt8) s 0 false):Int).toNat (mrB (123:UInt8) s 0 false)) fun sh2=>shr (Rose.node (sh2.1.lab.1,sh2.1.lab.2.1,
 sh2.1.lab.2.2.1,sh2.1.lab.2.2.2.1,sh2.1.lab.2.2.2.2.1,()) (take sh2.1.kids.length (drop 0 sh2.1.kids))) fun sh1=>
 ifB (decide ((↑s.length:Int)>(400:Int))) (some (V.tup [V.np,V.j 0],[])) (ifT (decide ((0:Int)<=(0:Int)/\0<=s.length/\s.length<=400/\
 (123:UInt8)≠(0:UInt8))) (ifB (mrB (123:UInt8) s 0 false) (some (V.tup [V.np,V.j (↑(mrA (123:UInt8) s 0 false):Int)],[])) (ifT (decide
 (0<=(↑(mrA (123:UInt8) s 0 false):Int)/\(↑(mrA (123:UInt8) s 0 false):Int).toNat<=s.length/\s.length<=400/\1<=500/\
 (mrB (123:UInt8) s 0 false=true\/s.length-(↑(mrA (123:UInt8) s 0 false):Int).toNat+3<=500))) (ifB sh2.2.2 (some (V.tup
 [V.np,V.j (↑sh2.2.1:Int)],[])) (ifT (decide (0<=(↑sh2.2.1:Int)/\(↑sh2.2.1:Int).toNat<=s.length/\s.length<=400)) (ifB (decide ((↑(blA
 s (↑sh2.2.1:Int).toNat sh2.2.2):Int)<(↑s.length:Int))) (some (V.tup [V.np,V.j (↑(blA s (↑sh2.2.1:Int).toNat sh2.2.2):Int)],[])) (ifT
 (decide (Ak sh1<=1000000/\Bu sh1=true)) (ifB (!B5 sh1) (some (V.tup [V.np,V.j (↑(blA s (↑sh2.2.1:Int).toNat sh2.2.2):Int)],[]))
 (some (V.tup [V.ptr 0 0,V.j 0],[some (Blk.box [V.j sh2.1.lab.1,V.s sh2.1.lab.2.1,V.j sh2.1.lab.2.2.1,V.b
 sh2.1.lab.2.2.2.1,V.j sh2.1.lab.2.2.2.2.1,V.ref 1 0 sh2.1.kids.length]),R0 LCd.tree sh2.1.kids]))))))))))):_):=by kernel_rfl
theorem O7 {s:By} (hs:s.length<=400) (hm:mrB 123 s 0 false=false):Kp (pM 1000 s (mrA 123 s 0 false)) (k3 AC s)/\(k3 AC s).2.1<=s.length/\((k3 AC s).2.2=false->Ak (k3 AC s).1<=1000000/\Bu (k3 AC s).1=true):=by
 obtain ⟨m1,m2,m3⟩:=BC (b:=123) (by decide) false (zero_le s.length)
 obtain ⟨q1,_,_⟩:=KI hm
 have hr:=(N8 hs 500).2 1000 (mrA 123 s 0 false) m2 q1 (by omega) (by omega)
 have hb:=(BdF.rd AC 500).2 s (mrA 123 s 0 false) false m2
 have hf:=(It 1000).2.1 s (mrA 123 s 0 false)
 have ek:k3 AC s=(rdN AC 500).2 s (mrA 123 s 0 false) false:=by unfold k3; rw [hm]
 rw [<-ek] at hr hb
 refine ⟨hr,hb.2,fun hbad=>?_⟩
 cases hp:pM 1000 s (mrA 123 s 0 false) with
 | none=>rw [hp] at hr; have hr:(k3 AC s).2.2=true:=hr; rw [hr] at hbad; cases hbad
 | some w=>
  obtain ⟨z,e,ok⟩:=w
  rw [hp] at hr
  obtain ⟨_,_,_,_,r5,r6,_,_⟩:=hr
  obtain ⟨f1,f2,f3,_⟩:=hf z e ok m2 hp
  exact ⟨by omega,r6⟩
theorem rkc:Ad prog 8 (Ent.own (rkG AC)).F:=by
 refine Cq (kc func16 Pd (kc func17 (R6 500).2 (kc func18 Pg (kc func19 Rv KnowsL.nil)))).knows (Λ:=Ab []) func8 (c:=f8.body.getD .skip) (by kernel_rfl) fun vs bs r hq hv hb=>?_
 unfold Ent.F rkG at hq
 dsimp only at hq
 split at hq
 ·rename_i s
  refine ⟨Ar _,(Pe (rdN AC 500).2 s).trans (Eq.trans ?_ hq)⟩
  dsimp only [shr]
  by_cases h:400<s.length
  ·rw [Ag (dcT (by omega)),dcT h]; rfl
  ·have hs:s.length<=400:=by omega
   obtain ⟨m1,m2,m3⟩:=BC (b:=123) (by decide) false (zero_le s.length)
   rw [Af (dcF (by omega)),Aa (dcT ⟨by omega,by omega,hs,by decide⟩),dcF h]
   have eq : ∀ x,Br.run (.br false x (.br (Fx AC s) (.leaf (.tup [.ptr 0 0,.j 0],[some (.box [.j (k3 AC s).1.lab.1,.s (k3 AC s).1.lab.2.1,.j (k3 AC s).1.lab.2.2.1,.b (k3 AC s).1.lab.2.2.2.1,.j (k3 AC s).1.lab.2.2.2.2.1,.ref 1 0 (k3 AC s).1.kids.length]),R0 (.tree LCd) (k3 AC s).1.kids])) (.leaf (.tup [.np,.j (k3p AC s:Nat)],[]))):Br (V×List (Option Blk)))=Br.run (.br (Fx AC s) (.leaf (.tup [.ptr 0 0,.j 0],[some (.box [.j (k3 AC s).1.lab.1,.s (k3 AC s).1.lab.2.1,.j (k3 AC s).1.lab.2.2.1,.b (k3 AC s).1.lab.2.2.2.1,.j (k3 AC s).1.lab.2.2.2.2.1,.ref 1 0 (k3 AC s).1.kids.length]),R0 (.tree LCd) (k3 AC s).1.kids])) (.leaf (.tup [.np,.j (k3p AC s:Nat)],[])):Br (V×List (Option Blk))):=fun _=>rfl
   rw [eq]
   have hk:=@O7 s hs
   have ek:k3 AC s=(rdN AC 500).2 s (mrA 123 s 0 false) (mrB 123 s 0 false):=rfl
   repeat rw [ntN]
   rw [<-ek]
   unfold Fx k3p
   cases hm:mrB 123 s 0 false with
   | true=>rw [A4]; rfl
   | false=>
    obtain ⟨_,k2,k4⟩:=hk hm
    rw [A1,Aa (dcT ⟨by omega,m2,hs,by omega,.inr (by omega)⟩)]
    generalize k3 AC s=y at *
    have ey:Rose.node (y.1.lab.1,y.1.lab.2.1,y.1.lab.2.2.1,y.1.lab.2.2.2.1,y.1.lab.2.2.2.2.1,()) y.1.kids=y.1:=by
     obtain ⟨⟨⟨x0,x1,x2,x3,x4,⟨⟩⟩,ks⟩,y1,y2⟩:=y
     rfl
    rw [drop_zero,take_length,ey]
    cases hb:y.2.2 with
    | true=>rw [A4]; rfl
    | false=>
     rw [A1]
     repeat rw [ntN]
     rw [Aa (dcT ⟨by omega,k2,hs⟩)]
     by_cases c:blA s y.2.1 false<s.length
     ·rw [Ag (dcT (by omega)),dcT c]; rfl
     ·rw [Af (dcF (by omega)),dcF c,Aa (dcT (k4 hb))]
      cases B5 y.1 with
      | true=>rw [Bool.not_true,A1]; rfl
      | false=>rw [Bool.not_false,A4]; rfl
 ·cases hq
def nuG (k:Int):Gm
 | [.j n],[]=>.need (decide (0<=n/\n<k)) (.leaf (.s (B4 n),[]))
 | _,_=>.no
theorem Pw (k n:Int):BA prog (Ab [(34,.rd1 (nuG k))]) (Ab []) f34 [.j n] [] =
 ((shr (B4 (i64.wrap (0-n))) fun sh1=>ifB (decide (n<0)) (ifT (decide (0<=i64.wrap (0-n)/\i64.wrap (0-n)<k)) (ifT (decide (1 +
 sh1.length<=9223372036854775807)) (some (V.s ([(45:UInt8)]++sh1),[])))) (ifB (decide (n<10)) (some (V.s (List.map (fun n=>UInt8.ofNat n.toNat)
 (IntKind.u8.wrap (i64.wrap (48+n))::Al (Cd.int .u8).den)),[])) (ifT (decide (0<=i64.wrap (n.tdiv (10:Int))/\i64.wrap (n.tdiv (10 :
 Int))<k)) (ifT (decide ((B4 (i64.wrap (n.tdiv (10:Int)))).length+1<=9223372036854775807)) (some (V.s (B4 (i64.wrap (n.tdiv (10
 : Int)))++List.map (fun n=>UInt8.ofNat n.toNat) (IntKind.u8.wrap (i64.wrap ((48:Int)+n.tmod (10:Int)))::Al (Cd.int .u8).den)),[])))))):_):=by kernel_rfl
theorem RF {n:Int} (h0:0<=n) (h1:n<=9):List.map (fun n=>UInt8.ofNat n.toNat) (IntKind.u8.wrap (i64.wrap (48+n))::Al Int)=[UInt8.ofNat (48+n.toNat)]:=by
 have w:IntKind.u8.wrap (48+n)=48+n:=by simp [IntKind.wrap,IntKind.bits,IntKind.signed]; omega
 rw [Ax (by omega) (by omega),w]
 show [UInt8.ofNat (48+n).toNat]=_
 rw [show (48+n).toNat=48+n.toNat by omega]
theorem Og {k n:Int} (h0:0<=n) (h1:n<100) (hk:10<=n->10<=k):BA prog (Ab [(34,.rd1 (nuG k))]) (Ab []) f34 [.j n] []=some (.s (B4 n),[]):=by
 rw [Pw]
 dsimp only [shr]
 rw [Af (dcF (by omega))]
 by_cases c:n<10
 ·rw [Ag (dcT c)]
  have e:=RF h0 (by omega)
  have e2:B4 n=[UInt8.ofNat (48+n.toNat)]:=by unfold B4; rw [if_pos c]
  rw [e2,<-e]
 ·have hk:=hk (by omega)
  have q1:n.tdiv 10=n / 10:=Int.tdiv_eq_ediv_of_nonneg h0
  have q2:n.tmod 10=n % 10:=Int.tmod_eq_emod_of_nonneg h0
  have W1:i64.wrap (n / 10)=n / 10:=Ax (by omega) (by omega)
  have e3:B4 (n / 10)=[UInt8.ofNat (48+(n / 10).toNat)]:=by unfold B4; rw [if_pos (by omega)]
  rw [Af (dcF c),q1,q2,W1,Aa (dcT ⟨by omega,by omega⟩),e3,Aa (dcT (by show 1+1<=9223372036854775807; omega))]
  have e:=RF (n:=n % 10) (by omega) (by omega)
  have e2:B4 n=[UInt8.ofNat (48+n.toNat / 10),UInt8.ofNat (48+n.toNat % 10)]:=by unfold B4; rw [if_neg c]
  have e4:(n / 10).toNat=n.toNat / 10:=by omega
  have e5:(n % 10).toNat=n.toNat % 10:=by omega
  rw [e2,<-e4,<-e5]
  show some (V.s ([UInt8.ofNat (48+(n / 10).toNat)]++List.map (fun n=>UInt8.ofNat n.toNat) (IntKind.u8.wrap (i64.wrap (48+n % 10))::Al Int)),([]:List (Option Blk)))=_
  rw [e]
  rfl
theorem Rt (vs:List V) (bs:List Blk):(Ent.rd1 (nuG 0)).F vs bs=none:=by
 unfold Ent.F nuG
 dsimp only
 split
 ·rw [dcF (by omega)]; rfl
 ·rfl
theorem nu0:Ad prog 34 (Ent.rd1 (nuG 10)).F:=by
 refine fcC (kc func34 (show Ad prog 34 (Ent.rd1 (nuG 0)).F from AN fun vs bs=>Rt vs bs) KnowsL.nil).knows (Λ:=Ab []) func34 fun vs bs r hq=>?_
 unfold Ent.F nuG at hq
 dsimp only at hq
 split at hq
 ·rename_i n
  obtain ⟨hc,hx⟩:=Ae hq
  have hc:=of_decide_eq_true hc
  exact ⟨Ar _,(Og (k:=0) hc.1 (by omega) (by omega)).trans hx⟩
 ·cases hq
theorem nu1:Ad prog 34 (Ent.rd1 (nuG 100)).F:=by
 refine fcC (kc func34 nu0 KnowsL.nil).knows (Λ:=Ab []) func34 fun vs bs r hq=>?_
 unfold Ent.F nuG at hq
 dsimp only at hq
 split at hq
 ·rename_i n
  obtain ⟨hc,hx⟩:=Ae hq
  have hc:=of_decide_eq_true hc
  exact ⟨Ar _,(Og (k:=10) hc.1 hc.2 (by omega)).trans hx⟩
 ·cases hq
mutual
def okW:Rose Lab->Bool
 | .node x ks=>(x.1 != 3||decide (0<=x.2.2.2.2.1/\x.2.2.2.2.1<100))&&((x.1 != 4||!ks.isEmpty)&&Hx ks)
def Hx:RL->Bool
 | []=>true
 | z::l=>decide (0<=z.lab.2.2.1/\z.lab.2.2.1<100)&&(okW z&&Hx l)
end
def C8:Bool->List (By)->By
 | _,[]=>[]
 | b,x::l=>(bif b then [44] else [])++x++C8 true l
def MG (n:Nat):Gm
 | [.agg (Lt y0 y1 y2 y3 y4 ys)],[]=>.need (decide (Ak ((.node (y0,y1,y2,y3,y4,()) ys):Rose Lab)<=n)&&(okW (.node (y0,y1,y2,y3,y4,()) ys)&&decide ((txR (.node (y0,y1,y2,y3,y4,()) ys)).length<=1000000))) (.leaf (.s (txR (.node (y0,y1,y2,y3,y4,()) ys)),[]))
 | _,_=>.no
def JG (n:Nat):LoopEnt:=⟨61,[3,29,30,31],[3],[],fun
 | ([.s s,.sl (.rose LCd) ks,.j k,.j i],[])=>.need (decide (0<=i/\i.toNat<=ks.length/\k=ks.length/\Aj ks<=n)&&(Hx ks&&decide (s.length+(C8 (decide (0<i)) (txP (ks.drop i.toNat))).length<=1000000))) (.leaf (.exit 1,([.s (s++C8 (decide (0<i)) (txP (ks.drop i.toNat)))],[])))
 | _=>.no⟩
abbrev Rb (n:Nat):FuncId->Option Ent:=Ab [(34,.rd1 (nuG 100)),(14,.rd1 (MG n))]
theorem HO (n:Nat) (s:By) (ks:RL) (k i:Int):AG prog (Rb n) (Ab [(12,JG n)]) 0 (body f14 0) (JG n) ([.s s,.sl (.rose LCd) ks,.j k,.j i],[]) =
 ((ifB (decide (i<k)) (ifT (decide (0<=i)&&decide (i<(↑ks.length:Int))) (Ap ks[i.toNat]? fun z=>shr (s++[(44:UInt8)]) fun sh4=>shr (Rose.lab z).2 fun
 sh3=>shr (sh3.1++[(58:UInt8)]++B4 sh3.2.1) fun sh2=>shr (Rose.node ((Rose.lab z).1,sh3.1,sh3.2.1,sh3.2.2.1,sh3.2.2.2.1,())
 (Rose.kids z)) fun sh1=>ifB (decide (i>0)) (ifT (decide (s.length+1<=9223372036854775807)) (ifT (decide (List.length sh3.1+1<=
 9223372036854775807)) (ifT (decide ((0:Int)<=sh3.2.1/\sh3.2.1<(100:Int))) (ifT (decide ((sh3.1++[(58:UInt8)]).length+(B4
 sh3.2.1).length<=9223372036854775807)) (ifT (decide (sh4.length+sh2.length<=9223372036854775807)) (ifB sh3.2.2.1 (ifT (decide ((sh4++
 sh2).length+1<=9223372036854775807)) (ifT (decide (Ak sh1<=n)&&(okW sh1&&decide ((txR sh1).length<=1000000))) (ifT (decide (1 +
 (txR sh1).length<=9223372036854775807)) (ifT (decide ((sh4++sh2++[(33:UInt8)]).length+([(32:UInt8)]++txR sh1).length<=9223372036854775807))
 (some (Ex.normal,[V.s (sh4++sh2++[(33:UInt8)]++([(32:UInt8)]++txR sh1)),V.sl LCd.rose ks,V.j k,V.j (i64.wrap (i+1))],[])))))) (ifT
 (decide (Ak sh1<=n)&&(okW sh1&&decide ((txR sh1).length<=1000000))) (ifT (decide (1+(txR sh1).length<=9223372036854775807)) (ifT
 (decide ((sh4++sh2).length+([(32:UInt8)]++txR sh1).length<=9223372036854775807)) (some (Ex.normal,[V.s (sh4++sh2++([(32:UInt8)]++txR sh1)),V.sl
 LCd.rose ks,V.j k,V.j (i64.wrap (i+1))],[]))))))))))) (ifT (decide (List.length sh3.1+1<=9223372036854775807)) (ifT (decide
 ((0:Int)<=sh3.2.1/\sh3.2.1<(100:Int))) (ifT (decide ((sh3.1++[(58:UInt8)]).length+(B4 sh3.2.1).length<=9223372036854775807)) (ifT
 (decide (s.length+sh2.length<=9223372036854775807)) (ifB sh3.2.2.1 (ifT (decide ((s++sh2).length+1<=9223372036854775807)) (ifT
 (decide (Ak sh1<=n)&&(okW sh1&&decide ((txR sh1).length<=1000000))) (ifT (decide (1+(txR sh1).length<=9223372036854775807)) (ifT
 (decide ((s++sh2++[(33:UInt8)]).length+([(32:UInt8)]++txR sh1).length<=9223372036854775807)) (some (Ex.normal,[V.s (s++sh2++[(33:UInt8)]++
 ([(32:UInt8)]++txR sh1)),V.sl LCd.rose ks,V.j k,V.j (i64.wrap (i+1))],[])))))) (ifT (decide (Ak sh1<=n)&&(okW sh1&&decide ((txR
 sh1).length<=1000000))) (ifT (decide (1+(txR sh1).length<=9223372036854775807)) (ifT (decide ((s++sh2).length+([(32:UInt8)]++txR
 sh1).length<=9223372036854775807)) (some (Ex.normal,[V.s (s++sh2++([(32:UInt8)]++txR sh1)),V.sl LCd.rose ks,V.j k,V.j (i64.wrap (i
 + 1))],[])))))))))))) (some (Ex.exit 1,[V.s s],[]))):_):=by kernel_rfl
theorem Oo (n:Nat) (y0:Int) (y1:By) (y2:Int) (y3:Bool) (y4:Int) (ys:RL):BA prog (Rb n) (Ab [(12,JG n)]) f14 [.agg (Lt y0 y1 y2 y3 y4 ys)] [] =
 ((shr ([(101:UInt8),(110:UInt8),(117:UInt8),(109:UInt8),(40:UInt8)]++B4 y4) fun sh2=>shr (C8 (decide ((0:Int)<(0:Int))) (txP (drop (0 :
 Nat) ys))) fun sh1=>ifB (y0==1) (some (V.s [(110:UInt8),(117:UInt8),(109:UInt8)],[])) (ifB (y0==2) (some (V.s [(116:UInt8),(101:UInt8),(120:UInt8),
 (116:UInt8)],[])) (ifB (y0==3) (ifT (decide (0<=y4/\y4<100)) (ifT (decide (5+(B4 y4).length<=9223372036854775807)) (ifT (decide (sh2.length
 + 1<=9223372036854775807)) (some (V.s (sh2++[(41:UInt8)]),[]))))) (ifB (y0==4) (ifT (decide ((0:Int)<=(0:Int))&&decide (0<(↑ys.length :
 Int))) (Ap ys[0]? fun z=>shr (Rose.lab z).2 fun sh2=>shr (Rose.node ((Rose.lab z).1,sh2.1,sh2.2.1,sh2.2.2.1,sh2.2.2.2.1,())
 (Rose.kids z)) fun sh1=>ifT (decide (Ak sh1<=n)&&(okW sh1&&decide ((txR sh1).length<=1000000))) (ifT (decide (1+(txR sh1).length<=
 9223372036854775807)) (ifT (decide (([(91:UInt8)]++txR sh1).length+1<=9223372036854775807)) (some (V.s ([(91:UInt8)]++txR sh1++[(93 :
 UInt8)]),[])))))) (ifT (decide ((0:Int)<=(0:Int)/\0<=ys.length/\(↑ys.length:Int)=(↑ys.length:Int)/\Aj ys<=n)&&(Hx ys&&decide (1 +
 sh1.length<=1000000))) (ifT (decide (([(123:UInt8)]++sh1).length+1<=9223372036854775807)) (some (V.s ([(123:UInt8)]++sh1++[(125 :
 UInt8)]),[])))))))):_):=by kernel_rfl

theorem LD {l:RL} (h:Hx l=true) {z:Rose Lab} (hz:z∈l):(0<=z.lab.2.2.1/\z.lab.2.2.1<100)/\okW z=true:=by
 induction l with
 | nil=>cases hz
 | cons y l ih=>
  rw [Hx,anE,anE] at h
  rcases List.mem_cons.1 hz with rfl | hz
  ·exact ⟨of_decide_eq_true h.1,h.2.1⟩
  ·exact ih h.2.2 hz
theorem I6 (l:RL):l.length<=Aj l:=by
 induction l with
 | nil=>exact zero_le _
 | cons y l ih=>
  have:=CL y
  rw [Aj,length_cons]; omega
theorem Oq (n:Nat) {ks:RL} (hN:n<=1000000) (hn:Aj ks<=n) (hk:Hx ks=true) : ∀ (j i:Nat) (s:By),i+j=ks.length->s.length+(C8 (decide (0<((i:Nat):Int))) (txP (ks.drop i))).length<=1000000->Runs prog (Rb n) (Ab [(12,JG n)]) 0 (body f14 0) (JG n) ([.s s,.sl (.rose LCd) ks,.j (ks.length:Int),.j ((i:Nat):Int)],[]) (.exit 1) ([.s (s++C8 (decide (0<((i:Nat):Int))) (txP (ks.drop i)))],[]):=fun j=>by
 induction j with
 | zero=>
  intro i s hi hs
  have hr:=HO n s ks (ks.length:Int) i
  dsimp only [shr] at hr
  rw [Af (dcF (by omega))] at hr
  rw [List.drop_eq_nil_of_le (by omega),txP,C8,append_nil]
  exact stp hr
 | succ j ih=>
  intro i s hi hs
  have hl:i<ks.length:=by omega
  have hr:=HO n s ks (ks.length:Int) i
  dsimp only [shr] at hr
  have W1:i64.wrap ((i:Int)+1)=((i+1:Nat):Int):=by
   have:=I6 ks
   rw [Ax (by omega) (by omega)]; omega
  rw [Ag (dcT (by omega)),Aa (by rw [anE]; exact ⟨dcT (by omega),dcT (by omega)⟩),ntN,gtE hl,Aq,W1] at hr
  have ih:=ih (i+1)
  have hm:=LD hk (List.getElem_mem hl)
  have hc:=Cs (List.getElem_mem hl)
  rw [List.drop_eq_getElem_cons hl] at hs ⊢
  rw [show decide (0<((i+1:Nat):Int))=true from dcT (by omega)] at ih
  generalize ks[i]=z at *
  have ez:Rose.node (z.lab.1,z.lab.2.1,z.lab.2.2.1,z.lab.2.2.2.1,z.lab.2.2.2.2.1,()) z.kids=z:=by
   obtain ⟨⟨x0,x1,x2,x3,x4,⟨⟩⟩,zs⟩:=z
   rfl
  rw [ez] at hr
  rw [txP,C8] at hs ⊢
  cases hi0:decide (0<((i:Nat):Int)) with
  | true=>
   have hgt:=of_decide_eq_true hi0
   rw [hi0,cond_true] at hs
   rw [cond_true]
   rw [Ag (dcT (by omega))] at hr
   cases hb:z.lab.2.2.2.1 with
   | true=>
    rw [hb] at hs hr
    simp only [if_true,length_append,length_cons,length_nil] at hs
    repeat rw [Aa (by first | exact dcT hm.1 | exact dcT (by (try simp only [length_append,length_cons,length_nil]); omega) | (rw [anE,anE]; exact ⟨dcT (by omega),hm.2,dcT (by omega)⟩))] at hr
    rw [A4] at hr
    repeat rw [Aa (by first | exact dcT hm.1 | exact dcT (by (try simp only [length_append,length_cons,length_nil]); omega) | (rw [anE,anE]; exact ⟨dcT (by omega),hm.2,dcT (by omega)⟩))] at hr
    have h:=ih (s++[44]++(z.lab.2.1++[58]++B4 z.lab.2.2.1)++[33]++([32]++txR z)) (by omega) (by simp only [length_append,length_cons,length_nil]; omega)
    refine sts hr ?_
    simp only [if_true,append_assoc] at h ⊢
    exact h
   | false=>
    rw [hb] at hs hr
    simp only [false_eq_true,if_false,length_append,length_cons,length_nil] at hs
    repeat rw [Aa (by first | exact dcT hm.1 | exact dcT (by (try simp only [length_append,length_cons,length_nil]); omega) | (rw [anE,anE]; exact ⟨dcT (by omega),hm.2,dcT (by omega)⟩))] at hr
    rw [A1] at hr
    repeat rw [Aa (by first | exact dcT hm.1 | exact dcT (by (try simp only [length_append,length_cons,length_nil]); omega) | (rw [anE,anE]; exact ⟨dcT (by omega),hm.2,dcT (by omega)⟩))] at hr
    have h:=ih (s++[44]++(z.lab.2.1++[58]++B4 z.lab.2.2.1)++([32]++txR z)) (by omega) (by simp only [length_append,length_cons,length_nil]; omega)
    refine sts hr ?_
    simp only [false_eq_true,if_false,append_assoc,append_nil] at h ⊢
    exact h
  | false=>
   have hgt:=of_decide_eq_false hi0
   rw [hi0,cond_false] at hs
   rw [cond_false]
   rw [Af (dcF (by omega))] at hr
   cases hb:z.lab.2.2.2.1 with
   | true=>
    rw [hb] at hs hr
    simp only [if_true,length_append,length_cons,length_nil] at hs
    repeat rw [Aa (by first | exact dcT hm.1 | exact dcT (by (try simp only [length_append,length_cons,length_nil]); omega) | (rw [anE,anE]; exact ⟨dcT (by omega),hm.2,dcT (by omega)⟩))] at hr
    rw [A4] at hr
    repeat rw [Aa (by first | exact dcT hm.1 | exact dcT (by (try simp only [length_append,length_cons,length_nil]); omega) | (rw [anE,anE]; exact ⟨dcT (by omega),hm.2,dcT (by omega)⟩))] at hr
    have h:=ih (s++(z.lab.2.1++[58]++B4 z.lab.2.2.1)++[33]++([32]++txR z)) (by omega) (by simp only [length_append,length_cons,length_nil]; omega)
    refine sts hr ?_
    simp only [if_true,append_assoc,nil_append] at h ⊢
    exact h
   | false=>
    rw [hb] at hs hr
    simp only [false_eq_true,if_false,length_append,length_cons,length_nil] at hs
    repeat rw [Aa (by first | exact dcT hm.1 | exact dcT (by (try simp only [length_append,length_cons,length_nil]); omega) | (rw [anE,anE]; exact ⟨dcT (by omega),hm.2,dcT (by omega)⟩))] at hr
    rw [A1] at hr
    repeat rw [Aa (by first | exact dcT hm.1 | exact dcT (by (try simp only [length_append,length_cons,length_nil]); omega) | (rw [anE,anE]; exact ⟨dcT (by omega),hm.2,dcT (by omega)⟩))] at hr
    have h:=ih (s++(z.lab.2.1++[58]++B4 z.lab.2.2.1)++([32]++txR z)) (by omega) (by simp only [length_append,length_cons,length_nil]; omega)
    refine sts hr ?_
    simp only [false_eq_true,if_false,append_assoc,append_nil,nil_append] at h ⊢
    exact h
end Go.Proofs.YthbecdipboideaaDoor.Den
