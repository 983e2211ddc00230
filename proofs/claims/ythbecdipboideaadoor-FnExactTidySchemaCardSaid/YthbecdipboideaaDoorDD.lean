/- What functions of the program do, by the machine: Tx4 Tr6 Tx5 Tx6 Tx7 Tx8 Tx9 Tx10 Tx11 Tx12 Tx13 Tx14 LTi. -/
import Derived.Test.YthbecdipboideaaDoorDC
import Derived.KernelRfl
import Derived.Test.YthbecdipboideaaDoorRows
import Derived.Shelf.Strconv.Itoa3
import Derived.Shelf.Strings.OnBuilder
open Go.Proofs.Tryd
open List (append_assoc append_nil drop drop_zero length_append length_cons length_map length_nil mem_cons_self set_set take take_length)
open Nat (zero_le)
open Bool (or_eq_true)
namespace Go.Proofs.YthbecdipboideaaDoor.Den
open Go.Proofs
set_option maxRecDepth 100000

theorem LV : ∀ (l:List (By)),C8 true l=(l.map fun x=>[44]++x).flatten
 | []=>rfl
 | x::l=>by rw [C8,LV l]; rfl
theorem O8 (l:List (By)):Go.Lib.join l [44]=C8 false l:=by
 cases l with
 | nil=>rfl
 | cons x l=>
  rw [Go.Lib.join_cons,C8,LV]
  rfl
theorem P4 (n:Nat) (_:n<=1000000) (y0:Int) (y1:By) (y2:Int) (y3:Bool) (y4:Int) (ys:RL) (hc:Ak ((.node (y0,y1,y2,y3,y4,()) ys):Rose Lab)<=n+1) (hk:okW (.node (y0,y1,y2,y3,y4,()) ys)=true) (hl:(txR (.node (y0,y1,y2,y3,y4,()) ys)).length<=1000000) (hj : ∀ l:List (By),Go.Lib.join l [44]=C8 false l):BA prog (Ab [(34,.rd1 (nuG 100)),(14,.rd1 (MG n))]) (Ab [(12,JG n)]) f14 [.agg (Lt y0 y1 y2 y3 y4 ys)] []=some (.s (txR (.node (y0,y1,y2,y3,y4,()) ys)),[]):=by
 rw [Oo]
 dsimp only [shr]
 have hd:=F7 y4
 rw [Ak] at hc
 rw [okW,anE,anE,or_eq_true,or_eq_true] at hk
 obtain ⟨k1,k2,k3⟩:=hk
 rw [txR] at hl ⊢
 dsimp only at k1 k2 hl ⊢
 by_cases c1:y0=1
 ·rw [if_pos c1,beq_iff_eq.2 c1,A4]; rfl
 ·rw [if_neg c1,beq_eq_false_iff_ne.2 c1,A1]
  rw [if_neg c1] at hl
  by_cases c2:y0=2
  ·rw [if_pos c2,beq_iff_eq.2 c2,A4]; rfl
  ·rw [if_neg c2,beq_eq_false_iff_ne.2 c2,A1]
   rw [if_neg c2] at hl
   by_cases c3:y0=3
   ·have k1:0<=y4/\y4<100:=by
     rcases k1 with k1 | k1
     ·rw [c3] at k1; cases k1
     ·exact of_decide_eq_true k1
    rw [if_pos c3,beq_iff_eq.2 c3,A4,Aa (dcT k1),Aa (dcT (by omega)),Aa (dcT (by simp only [length_append,length_cons,length_nil]; omega))]
    rfl
   ·rw [if_neg c3,beq_eq_false_iff_ne.2 c3,A1]
    rw [if_neg c3] at hl
    by_cases c4:y0=4
    ·rw [if_pos c4,beq_iff_eq.2 c4,A4]
     rw [if_pos c4] at hl
     cases ys with
     | nil=>
      rcases k2 with k2 | k2
      ·rw [c4] at k2; cases k2
      ·cases k2
     | cons z l=>
      have hm:=LD k3 mem_cons_self
      have ez:Rose.node (z.lab.1,z.lab.2.1,z.lab.2.2.1,z.lab.2.2.2.1,z.lab.2.2.2.2.1,()) z.kids=z:=by
       obtain ⟨⟨x0,x1,x2,x3,x4,⟨⟩⟩,zs⟩:=z
       rfl
      rw [Aj] at hc
      rw [txH] at hl ⊢
      simp only [length_append,length_cons,length_nil] at hl
      rw [Aa (by rw [anE]; exact ⟨by rfl,dcT (by rw [length_cons]; omega)⟩),List.getElem?_cons_zero,Aq,ez]
      rw [Aa (by rw [anE,anE]; exact ⟨dcT (by omega),hm.2,dcT (by omega)⟩),Aa (dcT (by omega)),Aa (dcT (by simp only [length_append,length_cons,length_nil]; omega))]
    ·rw [if_neg c4,beq_eq_false_iff_ne.2 c4,A1]
     rw [if_neg c4,hj] at hl
     rw [hj]
     simp only [length_append,length_cons,length_nil] at hl
     have e0:decide ((0:Int)<0)=false:=by rfl
     rw [e0,drop_zero]
     rw [Aa (by rw [anE,anE]; exact ⟨dcT ⟨by omega,by omega,by trivial,by omega⟩,k3,dcT (by omega)⟩)]
     rw [Aa (dcT (by simp only [length_append,length_cons,length_nil]; omega))]
theorem LN (hj : ∀ l:List (By),Go.Lib.join l [44]=C8 false l) : ∀ n,n<=1000000->Ad prog 14 (Ent.rd1 (MG n)).F
 | 0,_=>AN fun vs bs=>by
  unfold Ent.F MG
  dsimp only
  split
  ·rename_i y0 y1 y2 y3 y4 ys
   rw [dcF (by have:=CL ((.node (y0,y1,y2,y3,y4,()) ys):Rose Lab); omega)]; rfl
  ·rfl
 | n+1,hN=>by
  have ih:=LN hj n (by omega)
  refine fcC (kc func34 nu1 (kc func14 ih KnowsL.nil)).knows (Λ:=(Ab [(12,JG n)])) func14 fun vs bs r hq=>?_
  unfold Ent.F MG at hq
  dsimp only at hq
  split at hq
  ·rename_i y0 y1 y2 y3 y4 ys
   obtain ⟨hc,hx⟩:=Ae hq
   rw [anE,anE] at hc
   refine ⟨Az (a:=body f14 0) (by kernel_rfl) fun d ex d' hd=>?_,(P4 n (by omega) y0 y1 y2 y3 y4 ys (of_decide_eq_true hc.1) hc.2.1 (of_decide_eq_true hc.2.2) hj).trans hx⟩
   unfold JG at hd
   dsimp only at hd
   split at hd
   ·rename_i s ks k i
    obtain ⟨hc,hx⟩:=Ae hd
    rw [anE,anE] at hc
    obtain ⟨hc,h5,h6⟩:=hc
    obtain ⟨h0,h1,rfl,h3⟩:=of_decide_eq_true hc
    obtain ⟨i,rfl⟩:=Int.eq_ofNat_of_zero_le h0
    have h6:=of_decide_eq_true h6
    simp only [ntN] at h1 hx h6
    obtain ⟨rfl,rfl⟩:=Prod.mk.inj (AD hx)
    exact Oq n (by omega) h3 h5 (ks.length-i) i s (by omega) h6
   ·cases hd
  ·cases hq

theorem Q3 {n:Nat} {s:By} {a e:Nat} {z:Rose Lab} {ok:Bool} (h:pM n s a=some (z,e,ok)):skp s e=e:=by
 have pl : ∀ (n a e:Nat) (l:RL) (ok:Bool),pL n s a=some (l,e,ok)->skp s e=e:=fun n=>by
  induction n with
  | zero=>intro a e l ok h; rw [pL] at h; cases h
  | succ n ih=>
   intro a e l ok h
   rw [LA] at h
   cases hp:pP n s a with
   | none=>rw [hp] at h; cases h
   | some w=>
    obtain ⟨z,q,ok1⟩:=w
    rw [hp] at h
    dsimp only at h
    split at h
    ·have:skp s (skp s q+1)=e:=congrArg (·.2.1) (Option.some.inj h)
     rw [<-this]; exact AJ _ _
    ·split at h
     ·cases hl:pL n s (skp s (skp s q+1)) with
      | none=>rw [hl] at h; cases h
      | some w=>
       obtain ⟨l',e',ok2⟩:=w
       rw [hl] at h
       have:e'=e:=congrArg (·.2.1) (Option.some.inj h)
       rw [<-this]
       exact ih _ _ _ _ hl
     ·cases h
 cases n with
 | zero=>rw [pM] at h; cases h
 | succ n=>
  rw [pM] at h
  split at h
  ·have:skp s (a+1)=e:=congrArg (·.2.1) (Option.some.inj h)
   rw [<-this]; exact AJ _ _
  ·split at h
   ·cases h
   ·rename_i l e' ok' hl
    have:e'=e:=congrArg (·.2.1) (Option.some.inj h)
    rw [<-this]
    exact pl _ _ _ _ _ hl
theorem NO (o:RL) (z:Rose Lab):(AE o z).Perm (z::o):=by
 unfold AE
 refine List.perm_middle.trans ?_
 rw [List.take_append_drop]
theorem HJ : ∀ (l o:RL),(C4 o l).Perm (l++o)
 | [],o=>List.Perm.refl _
 | z::l,o=>by
  show (C4 (AE o z) l).Perm _
  refine (HJ l (AE o z)).trans ?_
  refine ((NO o z).append_left l).trans ?_
  exact List.perm_middle
theorem NM {l:RL} (h:J1 l=false) : ¬(C4 [] l).Pairwise KR:=fun hp=>by
 have hd:(C4 [] l).Pairwise fun a b=>noR a≠noR b:=hp.imp fun h=>by unfold KR at h; unfold noR; omega
 have hpm:=HJ l []
 rw [append_nil] at hpm
 have:l.Pairwise fun a b=>noR a≠noR b:=(hpm.pairwise_iff (fun hab=>Ne.symm hab)).1 hd
 rw [show J1 l=true from dcT this] at h
 cases h
theorem Qd : ∀ n:Nat,(∀ s a z e,pT n s a=some (z,e,false)->Ao z=false)/\(∀ s a z e,pM n s a=some (z,e,false)->Ao z=false)/\(∀ s a l e,pL n s a=some (l,e,false)->∃ x∈l,Ao x=false)
 | 0=>⟨fun s a z e h=>(by rw [pT] at h; cases h),fun s a z e h=>(by rw [pM] at h; cases h),fun s a l e h=>(by rw [pL] at h; cases h)⟩
 | n+1=>by
  obtain ⟨iT,iM,iL⟩:=Qd n
  refine ⟨fun s a z e h=>?_,fun s a z e h=>?_,fun s a l e h=>?_⟩
  ·rw [pT] at h
   split at h
   ·cases h
   ·split at h
    ·cases h
    ·split at h
     ·split at h
      ·cases h
      ·split at h
       ·cases h
       ·split at h
        ·cases h
        ·cases h
     ·split at h
      ·split at h
       ·cases h
       ·rename_i z' q ok' ht
        split at h
        ·cases h
        ·cases h
         exact Ez mem_cons_self (iT _ _ _ _ ht)
      ·split at h
       ·exact iM _ _ _ _ h
       ·cases h
  ·rw [pM] at h
   split at h
   ·cases h
   ·split at h
    ·cases h
    ·rename_i l e' ok' hl
     have hz:z = .node (5,[],0,false,0,()) (C4 [] l)/\(ok'&&J1 l)=false:=by
      have:=Option.some.inj h
      exact ⟨(congrArg (·.1) this).symm,congrArg (·.2.2) this⟩
     rw [hz.1]
     cases ok' with
     | false=>
      obtain ⟨x,hx,hr⟩:=iL _ _ _ _ hl
      exact Ez (Eg.2 (.inr hx)) hr
     | true=>exact J4 (NM hz.2)
  ·rw [LA] at h
   unfold pP at h
   cases hh:hdP s a with
   | none=>rw [hh] at h; cases h
   | some w=>
    obtain ⟨nm,no,mu,b⟩:=w
    rw [hh] at h
    dsimp only at h
    cases ht:pT n s b with
    | none=>rw [ht] at h; cases h
    | some w=>
     obtain ⟨z,q,ok⟩:=w
     rw [ht] at h
     dsimp only at h
     have rr:Ao (.node (z.lab.1,nm,(no:Int),mu,z.lab.2.2.2.2.1,()) z.kids)=Ao z:=Jn z _ rfl rfl
     split at h
     ·cases h
      exact ⟨_,mem_cons_self,rr.trans (iT _ _ _ _ ht)⟩
     ·split at h
      ·cases hl:pL n s (skp s (skp s q+1)) with
       | none=>rw [hl] at h; cases h
       | some w=>
        obtain ⟨l',e',ok2⟩:=w
        rw [hl] at h
        dsimp only at h
        have hq:=Option.some.inj h
        have h1:(.node (z.lab.1,nm,(no:Int),mu,z.lab.2.2.2.2.1,()) z.kids:Rose Lab)::l'=l:=congrArg (·.1) hq
        have h2:(ok&&ok2)=false:=congrArg (·.2.2) hq
        rw [<-h1]
        cases ok with
        | false=>exact ⟨_,mem_cons_self,rr.trans (iT _ _ _ _ ht)⟩
        | true=>
         have h2:ok2=false:=h2
         rw [h2] at hl
         obtain ⟨x,hx,hr⟩:=iL _ _ _ _ hl
         exact ⟨x,List.mem_cons_of_mem _ hx,hr⟩
      ·cases h
theorem Hb {z:Rose Lab} (h:B5 z=true):Ao z=true:=by
 unfold B5 at h
 simp only [anE] at h
 exact h.1.1.2
theorem Ip {s:By} (hs:s.length<=400):Fx AC s=(decide (q3b s<0)&&AX (tyS s))/\(Fx AC s=true->(k3 AC s).1=(q3 s).1/\B5 (q3 s).1=true/\t2L (tyS s) 0=(q3 s).1):=by
 have hq:=K7 hs
 have key:(Fx AC s=(decide (q3b s<0)&&AX (tyS s)))/\(Fx AC s=true->(k3 AC s).1=(q3 s).1/\B5 (q3 s).1=true):=by
  unfold pS at hq
  rw [E9] at hq
  cases hm:mrB 123 s 0 false with
  | true=>
   rw [hm,cond_true] at hq
   have hq:0<=q3b s:=hq
   have e1:Fx AC s=false:=by unfold Fx; rw [hm]; rfl
   rw [e1,dcF (show ¬q3b s<0 by omega)]
   exact ⟨rfl,fun h=>(by cases h)⟩
  | false=>
   rw [hm,cond_false] at hq
   dsimp only at hq
   obtain ⟨hr,hl,_⟩:=O7 hs hm
   have ek:Fx AC s=(!(k3 AC s).2.2&&(!decide (blA s (k3 AC s).2.1 false<s.length)&&B5 (k3 AC s).1)):=by unfold Fx; rw [hm]; rfl
   have hbad:=(Qd 1000).2.1 s (mrA 123 s 0 false)
   have hfine:=(It 1000).2.1 s (mrA 123 s 0 false)
   cases hp:pM 1000 s (mrA 123 s 0 false) with
   | none=>
    rw [hp] at hq hr
    have hq:0<=q3b s:=hq
    have hr:(k3 AC s).2.2=true:=hr
    rw [ek,hr,dcF (show ¬q3b s<0 by omega)]
    exact ⟨rfl,fun h=>(by cases h)⟩
   | some w=>
    obtain ⟨z,e,ok⟩:=w
    rw [hp] at hq hr hbad
    obtain ⟨r1,r2,r3,r4,_⟩:=hr
    dsimp only at hq
    have he:skp s e=e:=by
     exact Q3 hp
    have eb:blA s (k3 AC s).2.1 false=e:=by rw [r2]; exact he
    rw [ek,r1,eb]
    by_cases c:e=s.length
    ·rw [if_pos c] at hq
     obtain ⟨q1,q2,_,_,q5⟩:=hq
     have et:tyS s=At z (-1) 0:=by unfold tyS; rw [q2]
     rw [dcT q1,et,Mm q5,q2,c,dcF (by omega)]
     cases ok with
     | true=>
      rw [r3 rfl]
      refine ⟨by cases B5 z<;>rfl,fun h=>⟨rfl,?_⟩⟩
      revert h
      cases B5 z<;>simp
     | false=>
      have g1:B5 (k3 AC s).1=false:=by
       cases g:B5 (k3 AC s).1 with
       | false=>rfl
       | true=>have:=Hb g; rw [r4 rfl] at this; cases this
      have g2:B5 z=false:=by
       cases g:B5 z with
       | false=>rfl
       | true=>have:=Hb g; rw [hbad z e rfl] at this; cases this
      rw [g1,g2]
      exact ⟨rfl,fun h=>(by cases h)⟩
    ·rw [if_neg c] at hq
     have hq:0<=q3b s:=hq
     have hlt:e<s.length:=by rw [r2] at hl; omega
     rw [dcT hlt,dcF (show ¬q3b s<0 by omega)]
     exact ⟨rfl,fun h=>(by cases h)⟩
 refine ⟨key.1,fun h=>?_⟩
 obtain ⟨h1,h2⟩:=key.2 h
 exact ⟨h1,h2,(MR h2).2⟩
def stG:Gm
 | [.agg [.sl TCd l]],[]=>.need (AX l&&(decide (l.length<=4000000000/\1<=l.length)&&(nmL l&&(decide (Ak (t2L l 0)<=1000000)&&(okW (t2L l 0)&&decide ((txR (t2L l 0)).length<=1000000)))))) (.br (decide (400<(txR (t2L l 0)).length)) (.leaf (.tup [.s [],.b false],[])) (.leaf (.tup [.s (txR (t2L l 0)),.b true],[])))
 | _,_=>.no
theorem OZ (l:List Ty):BA prog (Ab [(13,.rd1 LY),(15,.rd1 G5),(14,.rd1 (MG 1000000))]) (Ab []) f7 [.agg [.sl TCd l]] [] =
 ((shr (t2L l 0).lab.2 fun sh2=>shr (Rose.node ((t2L l 0).lab.1,sh2.1,sh2.2.1,sh2.2.2.1,sh2.2.2.2.1,()) (take (t2L l (0 :
 Nat)).kids.length (drop 0 (t2L l 0).kids))) fun sh1=>ifT (decide (l.length<=4000000000)&&nmL l) (ifB (!AX l) (some (V.tup [V.s (Al
 UInt8),V.b false],[])) (ifT (decide ((0:Int)<=(0:Int)/\0<l.length/\l.length<=4000000000)) (ifT (decide (Ak sh1<=1000000)&&(okW
 sh1&&decide ((txR sh1).length<=1000000))) (ifB (decide ((↑(txR sh1).length:Int)>(400:Int))) (some (V.tup [V.s (Al UInt8),V.b false],[])) (some (V.tup
 [V.s (txR sh1),V.b true],[]))))))):_):=by kernel_rfl
theorem OX (s:By):BA prog (Ab [(6,.own l3G),(7,.rd1 stG)]) (Ab []) f4 [.s s] [] =
 ((shr (take (tyS s).length (drop 0 (tyS s))) fun sh1=>ifB (decide (400<s.length)) (some (V.tup [V.s (Al UInt8),V.b false],[])) (ifB (decide
 ((0:Int)<=q3b s)) (some (V.tup [V.s (Al UInt8),V.b false],[])) (ifB (AX (tyS s)) (ifT (AX sh1&&(decide (sh1.length<=4000000000/\1<=
 sh1.length)&&(nmL sh1&&(decide (Ak (t2L sh1 0)<=1000000)&&(okW (t2L sh1 0)&&decide ((txR (t2L sh1 0)).length<=(1000000 :
 Nat))))))) (ifB (decide (400<(txR (t2L sh1 0)).length)) (some (V.tup [V.s (Al UInt8),V.b false],[])) (some (V.tup [V.s (txR (t2L sh1 0)),
 V.b true],[])))) (some (V.tup [V.s (Al UInt8),V.b false],[]))))):_):=by kernel_rfl
theorem stc:Ad prog 7 (Ent.rd1 stG).F:=by
 refine fcC (kc func13 Qc (kc func15 Ot (kc func14 (LN O8 1000000 (Nat.le_refl _)) KnowsL.nil))).knows (Λ:=Ab []) func7 fun vs bs r hq=>?_
 unfold Ent.F stG at hq
 dsimp only at hq
 split at hq
 ·rename_i l
  obtain ⟨hc,hx⟩:=Ae hq
  refine ⟨Ar _,(OZ l).trans (Eq.trans ?_ hx)⟩
  simp only [anE] at hc
  obtain ⟨c1,c2,c3,c4,c5,c6⟩:=hc
  have c2:=of_decide_eq_true c2
  dsimp only [shr]
  rw [drop_zero,take_length]
  have ez : ∀ z:Rose Lab,Rose.node (z.lab.1,z.lab.2.1,z.lab.2.2.1,z.lab.2.2.2.1,z.lab.2.2.2.2.1,()) z.kids=z:=fun z=>by
   obtain ⟨⟨x0,x1,x2,x3,x4,⟨⟩⟩,zs⟩:=z
   rfl
  rw [ez,Aa (by rw [anE]; exact ⟨dcT c2.1,c3⟩),c1,Bool.not_true,A1,Aa (dcT ⟨by omega,by omega,c2.1⟩),Aa (by rw [anE,anE]; exact ⟨c4,c5,c6⟩)]
  by_cases h:400<(txR (t2L l 0)).length
  ·rw [Ag (dcT (by omega)),dcT h]; rfl
  ·rw [Af (dcF (by omega)),dcF h]; rfl
 ·cases hq
def tsB (s:By):Bool:=!decide (400<s.length)&&(decide (q3b s<0)&&(AX (tyS s)&&!decide (400<(txR (t2L (tyS s) 0)).length)))
def tsG:Gm
 | [.s s],[]=>.br (tsB s) (.leaf (.tup [.s (txR (t2L (tyS s) 0)),.b true],[])) (.leaf (.tup [.s [],.b false],[]))
 | _,_=>.no
theorem L9 {k:Int} {x:Lab} (h:C6 k x=true):(0<=x.2.2.1/\x.2.2.1<100)/\x.2.1.length<=10:=by
 unfold C6 at h
 split at h
 ·unfold DW at h
  simp only [anE,dcE] at h
  obtain ⟨⟨_,_,h1⟩,h2,h3⟩:=h
  exact ⟨⟨by omega,by omega⟩,h1⟩
 ·simp only [anE,beq_iff_eq] at h
  obtain ⟨⟨h1,h2⟩,_⟩:=h
  rw [h1,h2]
  exact ⟨⟨by omega,by omega⟩,zero_le _⟩
mutual
theorem Dx : ∀ (z:Rose Lab),Ao z=true->okW z=true/\(txR z).length+16<=30*Ak z
 | .node x ks,h=>by
  rw [Ao,anE] at h
  obtain ⟨hp,hr⟩:=h
  obtain ⟨k1,k2,k3⟩:=HF x.1 ks hr
  have hd:=F7 x.2.2.2.2.1
  have hk:=C5 hp
  refine ⟨?_,?_⟩
  ·rw [okW,k1,Bool.and_true,anE,or_eq_true,or_eq_true]
   unfold Bo at hp
   refine ⟨?_,?_⟩
   ·by_cases c:x.1=3
    ·right
     rw [if_neg (by omega),if_pos c,anE] at hp
     have:=of_decide_eq_true hp.1
     exact dcT (by omega)
    ·exact .inl (bne_iff_ne.2 c)
   ·by_cases c:x.1=4
    ·right
     rw [if_neg (by omega),if_neg (by omega),if_pos c,anE,beq_iff_eq,beq_iff_eq] at hp
     cases ks with
     | nil=>cases hp.2
     | cons _ _=>rfl
    ·exact .inl (bne_iff_ne.2 c)
  ·rw [txR,Ak]
   have k2:=k2 false
   rw [<-O8] at k2
   split
   ·show 3+16<=_; omega
   ·split
    ·show 4+16<=_; omega
    ·split
     ·have e:AA.length=4:=rfl
      simp only [length_append,length_cons,length_nil]; omega
     ·split
      ·simp only [length_append,length_cons,length_nil]; omega
      ·simp only [length_append,length_cons,length_nil]; omega
theorem HF : ∀ (k:Int) (ks:RL),Bz k ks=true->Hx ks=true/\(∀ b,(C8 b (txP ks)).length<=30*Aj ks)/\(txH ks).length<=30*Aj ks
 | k,[],h=>⟨by rw [Hx],fun b=>by rw [txP,C8]; exact zero_le _,by rw [txH]; exact zero_le _⟩
 | k,z::l,h=>by
  rw [Bz,anE,anE] at h
  obtain ⟨⟨h1,h2⟩,h3⟩:=h
  obtain ⟨z1,z2⟩:=Dx z h2
  obtain ⟨l1,l2,l3⟩:=HF k l h3
  obtain ⟨p1,p2⟩:=L9 h1
  have hd:=F7 z.lab.2.2.1
  refine ⟨?_,fun b=>?_,?_⟩
  ·rw [Hx,z1,l1,dcT p1]; rfl
  ·have l2:=l2 true
   have e33:(if z.lab.2.2.2.1=true then [(33:UInt8)] else []).length<=1:=by split<;>simp
   have e44:(bif b then [(44:UInt8)] else []).length<=1:=by cases b<;>simp
   rw [txP,C8,Aj]
   simp only [length_append,length_cons,length_nil] at *
   omega
  ·rw [txH,Aj]; omega
end
theorem Gp {z:Rose Lab} (h:B5 z=true):Ao z=true/\Ak z<=30:=by
 unfold B5 at h
 simp only [anE,dcE] at h
 exact ⟨h.1.1.2,h.2⟩
theorem tsc:Ad prog 4 (Ent.rd1 tsG).F:=by
 refine Cq (kc func6 l3c (kc func7 stc KnowsL.nil)).knows (Λ:=Ab []) func4 (c:=f4.body.getD .skip) (by kernel_rfl) fun vs bs r hq hv hb=>?_
 unfold Ent.F tsG at hq
 dsimp only at hq
 split at hq
 ·rename_i s
  refine ⟨Ar _,(OX s).trans (Eq.trans ?_ hq)⟩
  dsimp only [shr]
  unfold tsB
  rw [drop_zero,take_length]
  by_cases h:400<s.length
  ·rw [dcT h,A4]; rfl
  ·have hs:s.length<=400:=by omega
   have hr:=K7 hs
   obtain ⟨_,hrd⟩:=Ip hs
   rw [dcF h,A1]
   by_cases hb:0<=q3b s
   ·rw [dcT hb,A4,dcF (show ¬q3b s<0 by omega)]; rfl
   ·rw [dcF hb,A1,dcT (show q3b s<0 by omega)]
    cases hk:AX (tyS s) with
    | false=>rw [A1]; rfl
    | true=>
     have e1:=(Ip hs).1
     rw [hk,dcT (show q3b s<0 by omega)] at e1
     obtain ⟨_,g1,g2⟩:=hrd e1
     obtain ⟨g3,g4⟩:=Gp g1
     obtain ⟨o1,o2⟩:=Dx _ g3
     have hkl:1<=(tyS s).length/\(tyS s).length<=30:=by
      unfold AX at hk
      simp only [anE,dcE] at hk
      exact hk.1.1.1
     have hnm:nmL (tyS s)=true:=by
      cases hp:pS s with
      | none=>rw [hp] at hr; have hr:0<=q3b s:=hr; omega
      | some w=>
       obtain ⟨z,ok⟩:=w
       rw [hp] at hr
       obtain ⟨_,r2,r3,r4,_⟩:=hr
       exact FJ _ _ _ (by rw [r2]; exact r4)
     rw [g2,hnm,o1,dcT (show (tyS s).length<=4000000000/\1<=(tyS s).length from ⟨by omega,hkl.1⟩),dcT (show Ak (q3 s).1<=1000000 by omega),dcT (show (txR (q3 s).1).length<=1000000 by omega),A4]
     rw [Aa (by rfl)]
     by_cases hx:400<(txR (q3 s).1).length
     ·rw [dcT hx,A4]; rfl
     ·rw [dcF hx,A1]; rfl
 ·cases hq
def P9:Gm
 | [.tp LCd z 0],[]=>.need (decide (Ak z<=30)&&Ao z) (.leaf (.s (txR z),[]))
 | _,_=>.no
theorem PL (h:RL->RL) (s:By):BA prog (Ab [(8,.own (rkG h)),(9,.rd1 P9)]) (Ab []) f5 [.s s] [] =
 ((shr (k3 h s).1.lab.2 fun sh2=>shr (Rose.node ((k3 h s).1.lab.1,sh2.1,sh2.2.1,sh2.2.2.1,sh2.2.2.2.1,()) (take (k3 h
 s).1.kids.length (drop 0 (k3 h s).1.kids))) fun sh1=>ifB (decide (400<s.length)) (some (V.tup [V.s (Al UInt8),V.b false],[])) (ifB (Fx
 h s) (ifT (decide (Ak sh1<=30)&&Ao sh1) (ifB (decide ((↑(txR sh1).length:Int)>(400:Int))) (some (V.tup [V.s (Al UInt8),V.b false],[])) (some
 (V.tup [V.s (txR sh1),V.b true],[])))) (some (V.tup [V.s (Al UInt8),V.b false],[])))):_):=by kernel_rfl
theorem itc (ktx:Ad prog 9 (Ent.rd1 P9).F):Ad prog 5 (Ent.rd1 tsG).F:=by
 refine fcC (kc func8 rkc (kc func9 ktx KnowsL.nil)).knows (Λ:=Ab []) func5 fun vs bs r hq=>?_
 unfold Ent.F tsG at hq
 dsimp only at hq
 split at hq
 ·rename_i s
  refine ⟨Ar _,(PL AC s).trans (Eq.trans ?_ hq)⟩
  dsimp only [shr]
  unfold tsB
  by_cases h:400<s.length
  ·rw [dcT h,A4]; rfl
  ·have hs:s.length<=400:=by omega
   obtain ⟨e1,hrd⟩:=Ip hs
   rw [dcF h,A1]
   have ez : ∀ z:Rose Lab,Rose.node (z.lab.1,z.lab.2.1,z.lab.2.2.1,z.lab.2.2.2.1,z.lab.2.2.2.2.1,()) z.kids=z:=fun z=>by
    obtain ⟨⟨x0,x1,x2,x3,x4,⟨⟩⟩,zs⟩:=z
    rfl
   rw [drop_zero,take_length,ez]
   cases hk:Fx AC s with
   | true=>
    obtain ⟨q1,q2,qq3⟩:=hrd hk
    rw [hk] at e1
    have e1:=e1.symm
    rw [anE] at e1
    obtain ⟨g3,g4⟩:=Gp q2
    rw [A4,q1,qq3,e1.1,e1.2,Aa (by rw [anE]; exact ⟨dcT g4,g3⟩)]
    by_cases hx:400<(txR (q3 s).1).length
    ·rw [Ag (dcT (by omega)),dcT hx]; rfl
    ·rw [Af (dcF (by omega)),dcF hx]; rfl
   | false=>
    rw [hk] at e1
    rw [A1]
    have e2:(decide (q3b s<0)&&(AX (tyS s)&&!decide (400<(txR (t2L (tyS s) 0)).length)))=false:=by
     rw [<-Bool.and_assoc,<-e1]; rfl
    rw [e2]; rfl
 ·cases hq

theorem MF (s:By):Bv prog (Ab [(5,.rd1 tsG),(4,.rd1 tsG)]) (Ab []) f3 [.s s] [] =
 ((ifB (decide ((↑s.length:Int)>(1048576:Int))) (some (V.b true,[])) (ifB (tsB s) (ifB (tsB s) (ifB (!txR (t2L (tyS s) 0)==txR (t2L (tyS s) 0)) nF (some (V.b true,[]))) (ifB (!Al UInt8==txR (t2L (tyS s) 0)) nF nF)) (ifB (tsB s) (ifB (!txR (t2L
 (tyS s) 0)==Al UInt8) nF nF) (some (V.b true,[]))))):_):=by kernel_rfl
theorem On (s:By):Bv prog (Ab [(5,.rd1 tsG),(4,.rd1 tsG)]) (Ab []) f3 [.s s] []=some (.b true,[]):=by
 rw [MF]
 by_cases h:(s.length:Int)>1048576
 ·rw [Ag (dcT h)]
 ·rw [Af (dcF h)]
  cases tsB s with
  | true=>rw [A4,A4]; simp only [beq_self_eq_true,Bool.not_true,A1]
  | false=>rw [A1,A1]

open Go.Shelf in
noncomputable def OB:Ren:=⟨fun k=>match k with | 129=>86 | 171=>20 | 243=>42 | 246=>62 | 283=>71 | 284=>72 | 285=>73 | 286=>74 | 317=>87 | 318=>88 | 319=>89 | 320=>90 | 337=>96 | 338=>97 | k=>k,
 fun k=>match k with | 0=>0 | 2=>2 | 3=>3 | 4=>4 | 5=>5 | 9=>9 | 37=>73 | 46=>92 | 51=>113 | 53=>96 | 171=>95 | 173=>99 | 212=>116 | 213=>117 | 232=>127 | 233=>128 | k=>k,
 fun k=>match k with | 17=>0 | 18=>2 | 19=>3 | k=>k⟩
open Go.Shelf in
theorem PK:Lays.n171 prog OB:=by
 constructor
 all_goals first | kernel_rfl | (intro w; kernel_rfl)
theorem RU {n:Nat} (h:n<100):Go.Lib.decDigits n=B4 (n:Int):=by
 unfold B4
 rw [Go.Lib.decDigits]
 by_cases c:n<10
 ·rw [dif_pos c,if_pos (by omega),ntN]
 ·rw [dif_neg c,if_neg (by omega),ntN,Go.Lib.decDigits,dif_pos (by omega)]; rfl
theorem nuC:Ad prog 20 (Ent.rd1 (nuG 100)).F:=by
 intro w R μ vs us bs r outs hmem hnone hreps hF
 unfold Ent.F nuG at hF
 dsimp only at hF
 split at hF
 rotate_left
 ·cases hF
 rename_i n
 obtain ⟨hc,h⟩:=Ae hF
 have hc:=of_decide_eq_true hc
 obtain ⟨rfl,rfl⟩:=Prod.mk.inj (AD h)
 clear h hF
 obtain ⟨n,rfl⟩:=Int.eq_ofNat_of_zero_le hc.1
 match us,hreps with
 | [u0],hreps=>
 have v0:=hreps.2 0 _ u0 rfl rfl
 cases v0
 refine (Go.Proofs.Any.strconv_Itoa_small (ρ:=OB) PK n (by omega) w).mono ?_
 rintro e w' ⟨rfl,rfl⟩
 rw [RU (by omega)]
 exact ⟨_,R,μ,rfl,{ val:=.s _,mem:=by simpa using hmem,os:=rfl,tape:=rfl,output:=rfl,grow:=Nat.le_refl _,same:=fun _ _ _=>rfl,r0:=fun _ h=>h,rT:=fun _ h=>.inl h,ownT:=fun j B rb x h=>by simp at h,allT:=fun j B rb x h=>by simp at h,ext:=fun _ _ h=>h,none:=fun j _=>hnone j (by simp) }⟩
def joG:Gm
 | [.sl .str l,.s c],[]=>.need (decide (l.length<=4000000000/\(Go.Lib.join l c).length<=4000000000)) (.leaf (.s (Go.Lib.join l c),[]))
 | _,_=>.no
def kxG (n:Nat):Gm
 | [.tp LCd z 0],[]=>.need (decide (Ak z<=n/\n<=1000)&&Ao z) (.leaf (.s (txR z),[]))
 | _,_=>.no
def kxE (n:Nat):LoopEnt:=⟨88,[3,43,44,45],[3],[],fun
 | ([.ref 0 0 m,.sl (.tree LCd) ks,.j k,.j i],[R0 .str w])=>.need (decide (0<=i/\i.toNat<=ks.length/\k=ks.length/\m=w.length/\w.length=ks.length/\Aj ks<=n/\n<=1000)&&Bz 5 ks) (.leaf (.exit 1,([.ref 0 0 m],[R0 .str (w.take i.toNat++txP (ks.drop i.toNat))])))
 | _=>.no⟩
abbrev PW (n:Nat):FuncId->Option Ent:=Ab [(20,.rd1 (nuG 100)),(21,.rd1 joG),(9,.rd1 (kxG n))]
theorem JL (n m:Nat) (ks:RL) (k i:Int) (w:List (By)):AG prog (PW n) (Ab [(12,kxE n)]) 0 (body f9 0) (kxE n) ([.ref 0 0 m,.sl (.tree LCd) ks,.j k,.j i],[R0 .str w]) =
 ((ifB (decide (i<k)) (ifT (decide (0<=i)&&decide (i<(↑ks.length:Int))) (Ap ks[i.toNat]? fun z=>shr (Rose.lab z).2 fun sh1=>ifT (decide (List.length
 sh1.1+1<=9223372036854775807)) (ifT (decide ((0:Int)<=sh1.2.1/\sh1.2.1<(100:Int))) (ifT (decide ((sh1.1++[(58:UInt8)]).length +
 (B4 sh1.2.1).length<=9223372036854775807)) (ifT (decide (0<=i)&&decide (i<(↑m:Int))) (Ap w[0+i.toNat]? fun _=>shr sh1 fun sh1=>
 ifB sh1.2.2.1 (ifT (decide (0<=i)&&decide (i<(↑m:Int))) (Ap (w.set (0+i.toNat) (sh1.1++[(58:UInt8)]++B4 sh1.2.1))[0 +
 i.toNat]? fun z_2=>shr sh1 fun sh1=>ifT (decide (List.length z_2+1<=9223372036854775807)) (ifT (decide (0<=i)&&decide (i<(↑m:Int))) (Ap
 (w.set (0+i.toNat) (sh1.1++[(58:UInt8)]++B4 sh1.2.1))[0+i.toNat]? fun _=>shr (z_2++[(33:UInt8)]) fun sh2=>shr sh1 fun sh1=>
 ifT (decide (0<=i)&&decide (i<(↑m:Int))) (Ap ((w.set (0+i.toNat) (sh1.1++[(58:UInt8)]++B4 sh1.2.1)).set (0+i.toNat) sh2)[(0 :
 Nat)+i.toNat]? fun z_4=>shr ([(32:UInt8)]++txR z) fun sh2_1=>shr sh1 fun sh1=>ifT (decide (Ak z<=n/\n<=1000)&&Ao z) (ifT (decide (1
 + (txR z).length<=9223372036854775807)) (ifT (decide (List.length z_4+sh2_1.length<=9223372036854775807)) (ifT (decide (0<=i)&&decide (i<(↑m :
 Int))) (Ap ((w.set (0+i.toNat) (sh1.1++[(58:UInt8)]++B4 sh1.2.1)).set (0+i.toNat) sh2)[0+i.toNat]? fun _=>shr sh1 fun
 sh1=>some (Ex.normal,[V.ref 0 0 m,V.sl LCd.tree ks,V.j k,V.j (IntKind.i64.wrap (i+1))],[R0 Cd.str (((w.set (0+i.toNat)
 (sh1.1++[(58:UInt8)]++B4 sh1.2.1)).set (0+i.toNat) sh2).set (0+i.toNat) (z_4++sh2_1))])))))))))) (ifT (decide (0<=i)&&decide (i <
 (↑m:Int))) (Ap (w.set (0+i.toNat) (sh1.1++[(58:UInt8)]++B4 sh1.2.1))[0+i.toNat]? fun z_2=>shr ([(32:UInt8)]++txR z) fun sh2
 => shr sh1 fun sh1=>ifT (decide (Ak z<=n/\n<=1000)&&Ao z) (ifT (decide (1+(txR z).length<=9223372036854775807)) (ifT (decide
 (List.length z_2+sh2.length<=9223372036854775807)) (ifT (decide (0<=i)&&decide (i<(↑m:Int))) (Ap (w.set (0+i.toNat) (sh1.1++[(58 :
 UInt8)]++B4 sh1.2.1))[0+i.toNat]? fun _=>shr sh1 fun sh1=>some (Ex.normal,[V.ref 0 0 m,V.sl LCd.tree ks,V.j k,V.j (IntKind.i64.wrap (i
 + 1))],[R0 Cd.str ((w.set (0+i.toNat) (sh1.1++[(58:UInt8)]++B4 sh1.2.1)).set (0+i.toNat) (z_2++
 sh2))]))))))))))))) (some (Ex.exit 1,[V.ref 0 0 m],[R0 Cd.str w]))):_):=by kernel_rfl
theorem P5 (n:Nat) (z:Rose Lab):BA prog (PW n) (Ab [(12,kxE n)]) f9 [.tp LCd z 0] [] =
 ((shr z.lab fun sh3=>shr sh3.2.2.2.2 fun sh2=>shr z.kids fun sh1=>ifB (sh3.1==(1:Int)) (some (V.s [(110:UInt8),(117:UInt8),(109:UInt8)],[]))
 (ifB (sh3.1==(2:Int)) (some (V.s [(116:UInt8),(101:UInt8),(120:UInt8),(116:UInt8)],[])) (ifB (sh3.1==(3:Int)) (ifT (decide ((0:Int)<=sh2.1/\
 sh2.1<(100:Int))) (ifT (decide (5+(B4 sh2.1).length<=9223372036854775807)) (ifT (decide (([(101:UInt8),(110:UInt8),(117:UInt8),(109
 : UInt8),(40:UInt8)]++B4 sh2.1).length+1<=9223372036854775807)) (some (V.s ([(101:UInt8),(110:UInt8),(117:UInt8),(109:UInt8),(40 :
 UInt8)]++B4 sh2.1++[(41:UInt8)]),[]))))) (ifB (sh3.1==(4:Int)) (ifT (decide ((0:Int)<=(0:Int))&&decide (0<(↑sh1.length:Int))) (Ap sh1[(0 :
 Nat)]? fun z=>shr ([(91:UInt8)]++txR z) fun sh1=>ifT (decide (Ak z<=n/\n<=1000)&&Ao z) (ifT (decide (1+(txR z).length<=
 9223372036854775807)) (ifT (decide (sh1.length+1<=9223372036854775807)) (some (V.s (sh1++[(93:UInt8)]),[])))))) (ifT (decide (0<=
 (↑sh1.length:Int))&&decide ((↑sh1.length:Int)<=(↑sh1.length:Int))&&decide ((↑sh1.length:Int)*(↑(16:Nat):Int)<=(140737488355328:Int))&&decide
 ((↑sh1.length:Int)<=(9223372036854775807:Int))) (ifT (decide ((0:Int)<=(0:Int)/\0<=sh1.length/\(↑sh1.length:Int)=(↑sh1.length:Int)/\
 (↑sh1.length:Int).toNat=(List.replicate (↑sh1.length:Int).toNat (Al UInt8)).length/\(List.replicate (↑sh1.length:Int).toNat (Al UInt8)).length=sh1.length/\
 Aj sh1<=n/\n<=1000)&&Bz (5:Int) sh1) (ifT (decide ((take (↑sh1.length:Int).toNat (drop 0 (Al Cd.str.den++txP (drop (0 :
 Nat) sh1)))).length<=4000000000/\(Lib.join (take (↑sh1.length:Int).toNat (drop 0 (Al Cd.str.den++txP (drop 0 sh1)))) [(44 :
 UInt8)]).length<=4000000000)) (ifT (decide (1+(Lib.join (take (↑sh1.length:Int).toNat (drop 0 (Al Cd.str.den++txP (drop (0
 : Nat) sh1)))) [(44:UInt8)]).length<=9223372036854775807)) (ifT (decide (([(123:UInt8)]++Lib.join (take (↑sh1.length:Int).toNat (drop 0
 (Al Cd.str.den++txP (drop 0 sh1)))) [(44:UInt8)]).length+1<=9223372036854775807)) (some (V.s ([(123:UInt8)]++Lib.join (take
 (↑sh1.length:Int).toNat (drop 0 (Al Cd.str.den++txP (drop 0 sh1)))) [(44:UInt8)]++[(125:UInt8)]),[]))))))))))):_):=by kernel_rfl

theorem FB {α:Type} : ∀ (w:List α) (i:Nat) (c:α),i<w.length->(w.set i c).take (i+1)=w.take i++[c]
 | [],i,c,h=>absurd h (Nat.not_lt_zero _)
 | x::w,0,c,_=>rfl
 | x::w,i+1,c,h=>by
  show x::(w.set i c).take (i+1)=x::(w.take i++[c])
  rw [FB w i c (Nat.lt_of_succ_lt_succ h)]
theorem P6 (n:Nat) {ks:RL} (hN:n<=1000) (hn:Aj ks<=n) (hk:Bz 5 ks=true) : ∀ (j i:Nat) (w:List (By)),i+j=ks.length->w.length=ks.length->Runs prog (PW n) (Ab [(12,kxE n)]) 0 (body f9 0) (kxE n) ([.ref 0 0 ks.length,.sl (.tree LCd) ks,.j (ks.length:Int),.j ((i:Nat):Int)],[R0 .str w]) (.exit 1) ([.ref 0 0 ks.length],[R0 .str (w.take i++txP (ks.drop i))]):=fun j=>by
 induction j with
 | zero=>
  intro i w hi hw
  have hr:=JL n ks.length ks (ks.length:Int) i w
  rw [Af (dcF (by omega))] at hr
  rw [List.drop_eq_nil_of_le (by omega),txP,append_nil,List.take_of_length_le (by omega)]
  exact stp hr
 | succ j ih=>
  intro i w hi hw
  have hl:i<ks.length:=by omega
  have hlc:=I6 ks
  have hr:=JL n ks.length ks (ks.length:Int) i w
  dsimp only [shr] at hr
  have W1:IntKind.i64.wrap ((i:Int)+1)=((i+1:Nat):Int):=by rw [Ax (by omega) (by omega)]; omega
  rw [Ag (dcT (by omega)),Aa (by rw [anE]; exact ⟨dcT (by omega),dcT (by omega)⟩),ntN,gtE hl,Aq,W1,Nat.zero_add] at hr
  obtain ⟨hp,hr1⟩:=Dg hk _ (List.getElem_mem hl)
  have hm:=L9 hp
  have hc:=Cs (List.getElem_mem hl)
  have hx:=(Dx _ hr1).2
  rw [List.drop_eq_getElem_cons hl,txP]
  have hd:=F7 ks[i].lab.2.2.1
  generalize ks[i]=z at *
  repeat rw [Aa (by first | exact dcT hm.1 | exact dcT (by omega) | exact dcT (by (try simp only [length_append,length_cons,length_nil]); omega) | (rw [anE]; exact ⟨dcT (by omega),dcT (by omega)⟩) | (rw [anE]; exact ⟨dcT ⟨by omega,by omega⟩,hr1⟩))] at hr
  rw [gtE (show i<w.length by omega),Aq] at hr
  cases hb:z.lab.2.2.2.1 with
  | true=>
   rw [hb,A4] at hr
   repeat (first | rw [Aa (by first | exact dcT hm.1 | exact dcT (by omega) | exact dcT (by (try simp only [length_append,length_cons,length_nil]); omega) | (rw [anE]; exact ⟨dcT (by omega),dcT (by omega)⟩) | (rw [anE]; exact ⟨dcT ⟨by omega,by omega⟩,hr1⟩))] at hr | rw [List.getElem?_set_self (by simpa using (show i<w.length by omega)),Aq] at hr | rw [Aq] at hr | rw [set_set] at hr)
   have h:=ih (i+1) (w.set i (z.lab.2.1++[58]++B4 z.lab.2.2.1++[33]++([32]++txR z))) (by omega) (by rw [List.length_set]; exact hw)
   rw [FB _ _ _ (by omega),append_assoc] at h
   refine sts hr ?_
   simp only [if_true,append_assoc,List.cons_append,List.nil_append] at h ⊢
   exact h
  | false=>
   rw [hb,A1] at hr
   repeat (first | rw [Aa (by first | exact dcT hm.1 | exact dcT (by omega) | exact dcT (by (try simp only [length_append,length_cons,length_nil]); omega) | (rw [anE]; exact ⟨dcT (by omega),dcT (by omega)⟩) | (rw [anE]; exact ⟨dcT ⟨by omega,by omega⟩,hr1⟩))] at hr | rw [List.getElem?_set_self (by simpa using (show i<w.length by omega)),Aq] at hr | rw [Aq] at hr | rw [set_set] at hr)
   have h:=ih (i+1) (w.set i (z.lab.2.1++[58]++B4 z.lab.2.2.1++([32]++txR z))) (by omega) (by rw [List.length_set]; exact hw)
   rw [FB _ _ _ (by omega),append_assoc] at h
   refine sts hr ?_
   simp only [Bool.false_eq_true,if_false,append_assoc,append_nil,List.cons_append,List.nil_append] at h ⊢
   exact h

theorem QE (n:Nat) (hN:n+1<=1000) (z:Rose Lab) (hc:Ak z<=n+1) (hr:Ao z=true):BA prog (PW n) (Ab [(12,kxE n)]) f9 [.tp LCd z 0] []=some (.s (txR z),[]):=by
 have hL:=(Dx z hr).2
 have hK:=(Dx z hr).1
 rw [P5]
 dsimp only [shr]
 obtain ⟨x,ks⟩:=z
 rw [Ao,anE] at hr
 obtain ⟨hp,hr1⟩:=hr
 rw [Ak] at hc hL
 rw [okW,anE,anE,or_eq_true,or_eq_true] at hK
 obtain ⟨k1,k2,k3⟩:=hK
 have hk:=C5 hp
 have hd:=F7 x.2.2.2.2.1
 have hlc:=I6 ks
 rw [txR] at hL ⊢
 by_cases c1:x.1=1
 ·rw [if_pos c1]
  show ifB (x.1==1) _ _=_
  rw [beq_iff_eq.2 c1,A4]; rfl
 ·rw [if_neg c1] at hL ⊢
  show ifB (x.1==1) _ (ifB (x.1==2) _ _)=_
  rw [beq_eq_false_iff_ne.2 c1,A1]
  by_cases c2:x.1=2
  ·rw [if_pos c2,beq_iff_eq.2 c2,A4]; rfl
  ·rw [if_neg c2,beq_eq_false_iff_ne.2 c2,A1]
   rw [if_neg c2] at hL
   show ifB (x.1==3) _ (ifB (x.1==4) _ _)=_
   by_cases c3:x.1=3
   ·have k1:0<=x.2.2.2.2.1/\x.2.2.2.2.1<100:=by
     rcases k1 with k1 | k1
     ·rw [c3] at k1; cases k1
     ·exact of_decide_eq_true k1
    rw [if_pos c3,beq_iff_eq.2 c3,A4]
    show ifT (decide (0<=x.2.2.2.2.1/\x.2.2.2.2.1<100)) (ifT (decide (5+(B4 x.2.2.2.2.1).length<=9223372036854775807)) (ifT (decide (([101,110,117,109,40]++B4 x.2.2.2.2.1).length+1<=9223372036854775807)) _))=_
    rw [Aa (dcT k1),Aa (dcT (by omega)),Aa (dcT (by simp only [length_append,length_cons,length_nil]; omega))]
    rfl
   ·rw [if_neg c3,beq_eq_false_iff_ne.2 c3,A1]
    rw [if_neg c3] at hL
    by_cases c4:x.1=4
    ·rw [if_pos c4,beq_iff_eq.2 c4,A4]
     rw [if_pos c4] at hL
     cases ks with
     | nil=>
      rcases k2 with k2 | k2
      ·rw [c4] at k2; cases k2
      ·cases k2
     | cons z l=>
      have hrz:=(Dg hr1 z mem_cons_self).2
      rw [Aj] at hc
      rw [txH] at hL ⊢
      simp only [length_append,length_cons,length_nil] at hL
      show ifT (decide ((0:Int)<=0)&&decide ((0:Int)<(((z::l).length:Nat):Int))) (Ap (z::l)[0]? fun z=>ifT (decide (Ak z<=n/\n<=1000)&&Ao z) (ifT (decide (1+(txR z).length<=9223372036854775807)) (ifT (decide (([91]++txR z).length+1<=9223372036854775807)) _)))=_
      have hzl:=(Dx z hrz).2
      rw [Aa (by rw [anE]; exact ⟨by rfl,dcT (by rw [length_cons]; omega)⟩),List.getElem?_cons_zero,Aq]
      rw [Aa (by rw [anE]; exact ⟨dcT ⟨by omega,by omega⟩,hrz⟩),Aa (dcT (by omega)),Aa (dcT (by simp only [length_append,length_cons,length_nil]; omega))]
    ·rw [if_neg c4,beq_eq_false_iff_ne.2 c4,A1]
     rw [if_neg c4] at hL
     simp only [length_append,length_cons,length_nil] at hL
     have h5:x.1=5:=by omega
     rw [h5] at hr1
     have htl:(txP ks).length=ks.length:=by rw [Lz,length_map]
     have et:take ((ks.length:Nat):Int).toNat (drop 0 (Al Cd.str.den++txP (drop 0 ks)))=txP ks:=by
      rw [ntN,drop_zero,drop_zero]
      show take ks.length (txP ks)=_
      rw [List.take_of_length_le (by omega)]
     show ifT _ (ifT _ (ifT (decide ((take ((ks.length:Nat):Int).toNat (drop 0 (Al Cd.str.den++txP (drop 0 ks)))).length<=4000000000/\(Go.Lib.join (take ((ks.length:Nat):Int).toNat (drop 0 (Al Cd.str.den++txP (drop 0 ks)))) [44]).length<=4000000000)) (ifT (decide (1+(Go.Lib.join (take ((ks.length:Nat):Int).toNat (drop 0 (Al Cd.str.den++txP (drop 0 ks)))) [44]).length<=9223372036854775807)) (ifT (decide (([123]++Go.Lib.join (take ((ks.length:Nat):Int).toNat (drop 0 (Al Cd.str.den++txP (drop 0 ks)))) [44]).length+1<=9223372036854775807)) (some (V.s ([123]++Go.Lib.join (take ((ks.length:Nat):Int).toNat (drop 0 (Al Cd.str.den++txP (drop 0 ks)))) [44]++[125]),[]))))))=_
     rw [et]
     rw [Aa (by simp only [anE,dcE]; show (((0:Int)<=ks.length/\(ks.length:Int)<=ks.length)/\(ks.length:Int)*16<=140737488355328)/\(ks.length:Int)<=9223372036854775807; omega)]
     rw [Aa (by rw [anE]; exact ⟨dcT ⟨by omega,by show 0<=ks.length; omega,by trivial,by rw [List.length_replicate],by rw [List.length_replicate,ntN],by show Aj ks<=n; omega,by omega⟩,hr1⟩)]
     rw [Aa (dcT ⟨by omega,by omega⟩),Aa (dcT (by omega)),Aa (dcT (by simp only [length_append,length_cons,length_nil]; omega))]
theorem Ox (joC:Ad prog 21 (Ent.rd1 joG).F) : ∀ n,n<=1000->Ad prog 9 (Ent.rd1 (kxG n)).F
 | 0,_=>AN fun vs bs=>by
  unfold Ent.F kxG
  dsimp only
  split
  ·rename_i z
   rw [dcF (by have:=CL z; omega)]; rfl
  ·rfl
 | n+1,hN=>by
  have ih:=Ox joC n (by omega)
  refine fcC (kc func20 nuC (kc func21 joC (kc func9 ih KnowsL.nil))).knows (Λ:=(Ab [(12,kxE n)])) func9 fun vs bs r hq=>?_
  unfold Ent.F kxG at hq
  dsimp only at hq
  split at hq
  ·rename_i z
   obtain ⟨hc,hx⟩:=Ae hq
   rw [anE] at hc
   refine ⟨Az (a:=body f9 0) (by kernel_rfl) fun d ex d' hd=>?_,(QE n hN z (of_decide_eq_true hc.1).1 hc.2).trans hx⟩
   unfold kxE at hd
   dsimp only at hd
   split at hd
   ·rename_i m ks k i w
    obtain ⟨hc,hx⟩:=Ae hd
    rw [anE] at hc
    obtain ⟨hc,h5⟩:=hc
    obtain ⟨h0,h1,rfl,h2,h3,h4,h6⟩:=of_decide_eq_true hc
    obtain ⟨i,rfl⟩:=Int.eq_ofNat_of_zero_le h0
    rw [h3] at h2
    subst h2
    simp only [ntN] at h1 hx
    obtain ⟨rfl,rfl⟩:=Prod.mk.inj (AD hx)
    exact P6 n h6 h4 h5 (ks.length-i) i w (by omega) h3
   ·cases hd
  ·cases hq
theorem Lo {P:Program} {K:FuncId} {F F2:List V->List Blk->Option (V×List (Option Blk))} (h:Ad P K F) (hle : ∀ vs bs r,F2 vs bs=some r->F vs bs=some r):Ad P K F2:=by
 intro w R μ vs us bs r outs hm hn hr hF
 exact h w R μ vs us bs r outs hm hn hr (hle _ _ _ hF)
theorem ktx (joC:Ad prog 21 (Ent.rd1 joG).F):Ad prog 9 (Ent.rd1 P9).F:=by
 have h:=Ox joC 30 (by omega)
 refine Lo h fun vs bs r hr=>?_
 unfold Ent.F P9 at hr
 unfold Ent.F kxG
 dsimp only at hr ⊢
 split at hr
 ·rename_i z
  obtain ⟨hc,hx⟩:=Ae hr
  rw [anE] at hc
  have:=of_decide_eq_true hc.1
  show Br.run (Br.need (decide (Ak z<=30/\30<=1000)&&Ao z) (Br.leaf (V.s (txR z),[])))=_
  rw [dcT (show Ak z<=30/\30<=1000 from ⟨this,by omega⟩),hc.2]
  exact hx
 ·cases hr

open Go.Shelf in
noncomputable def LW:Ren:=⟨fun k=>match k with | 156=>21 | 165=>43 | 166=>44 | 169=>45 | 240=>63 | 241=>64 | 276=>75 | 277=>76 | k=>k,
 fun k=>match k with | 0=>0 | 3=>3 | 4=>4 | 9=>9 | 31=>56 | 37=>73 | 70=>72 | 72=>75 | 75=>78 | 76=>79 | 127=>89 | 164=>101 | 5=>5 | 80=>34 | k=>k,
 fun k=>match k with  | k=>k⟩
open Go.Shelf in
theorem OA:Lays.n156 prog LW:=by
 constructor
 all_goals first | kernel_rfl | (intro w; kernel_rfl)
open Go.Shelf in
theorem LX:Go.Proofs.Builder.Extra prog LW:=by
 constructor
 all_goals first | kernel_rfl | (intro w; kernel_rfl) | (intro h; cases h) | decide | (constructor<;>first | kernel_rfl | (intro w; kernel_rfl) | (intro h; cases h) | decide)

theorem O9 {w w':World} {R:Nat->Prop} {μ:Nat->Option RB} {t:By} (hmem:Mem w R μ (fun j=>([]:List Blk)[j]?)) (hnone : ∀ j,0<=j->μ j=none) (hb:Go.RowKit.Below w.heap.size w w') :
  Left w R μ (fun j=>([]:List Blk)[j]?) (.s t) [] (.string ⟨t.toArray⟩) w' R μ:=
 { val:=.s _,mem:=⟨fun id B h=>by simp at h,fun id id' B B' rb rb' x h=>by simp at h,fun id B rb x h=>by simp at h,fun x hx=>Nat.lt_of_lt_of_le (hmem.rlt x hx) hb.size⟩,os:=hb.os,tape:=hb.tape,output:=hb.output,grow:=hb.size,same:=fun k hk _=>hb.block k hk,r0:=fun _ h=>h,rT:=fun _ h=>.inl h,ownT:=fun j B rb x h=>by simp at h,allT:=fun j B rb x h=>by simp at h,ext:=fun _ _ h=>h,none:=fun j _=>hnone j (zero_le _) }
theorem joC:Ad prog 21 (Ent.rd1 joG).F:=by
 intro w R μ vs us bs r outs hmem hnone hreps hF
 unfold Ent.F joG at hF
 dsimp only at hF
 split at hF
 rotate_left
 ·cases hF
 rename_i l c
 obtain ⟨hc,h⟩:=Ae hF
 obtain ⟨hc1,hc2⟩:=of_decide_eq_true hc
 obtain ⟨rfl,rfl⟩:=Prod.mk.inj (AD h)
 clear h hF hc
 match us,hreps with
 | [u0,u1],hreps=>
 have v0:=hreps.2 0 _ u0 rfl rfl
 have v1:=hreps.2 1 _ u1 rfl rfl
 clear hreps
 cases v1
 have hmap : ∀ l:List (By),(l.map fun s=>(⟨s.toArray⟩:ByteArray)).map (·.data.toList)=l:=fun l=>by
  rw [List.map_map]
  exact (List.map_congr_left (fun _ _=>rfl)).trans (List.map_id _)
 cases v0 with
 | sl _ _ ao cap U h1 h2 h3 h4=>
  rcases h3 with h3 | ⟨b,off,rfl,hR,h3⟩
  ·have hl:l=[]:=List.length_eq_zero_iff.1 h3
   subst hl
   refine (Go.Proofs.Any.strings_Join_none (ρ:=LW) OA LX ao cap ⟨c.toArray⟩ w).mono ?_
   rintro e w' ⟨rfl,rfl⟩
   exact ⟨_,R,μ,rfl,O9 (t:=[]) hmem hnone (Go.RowKit.Below.refl _ _)⟩
  ·have hj:=Go.Proofs.Any.strings_Join (ρ:=LW) OA LX b off cap (l.map fun s=>(⟨s.toArray⟩:ByteArray)) ⟨c.toArray⟩ w
    (fun j x hx=>by
     rw [List.getElem?_map] at hx
     cases hz:(l:List (By))[j]? with
     | none=>rw [hz] at hx; cases hx
     | some z=>
      rw [hz] at hx
      cases hx
      have hv:=h4 j z 0 (.s z) hz rfl
      have hw:=h3 j z 0 (.s z) hz rfl
      generalize U j 0=y at hv hw
      cases hv
      simpa [Cd.size] using hw)
    (hmem.rlt b hR) (by rw [length_map]; omega) (by rw [length_map]; exact h1) (by rw [hmap]; show (Go.Lib.join l c).length<=_; omega)
   rw [length_map,hmap] at hj
   refine hj.mono ?_
   rintro e w' ⟨rfl,hb⟩
   exact ⟨_,R,μ,rfl,O9 (t:=Go.Lib.join l c) hmem hnone hb⟩

theorem law_knows:Knows prog (Ab [(5,.rd1 tsG),(4,.rd1 tsG)]):=KnowsL.knows (kc func5 (itc (ktx joC)) (kc func4 tsc KnowsL.nil))
theorem law_loops:A6 prog (Ab [(5,.rd1 tsG),(4,.rd1 tsG)]) (Ab []) 0 (f3.body.getD .skip):=Ar _
theorem law_fun (s:By):Bv prog (Ab [(5,.rd1 tsG),(4,.rd1 tsG)]) (Ab []) f3 [.s s] []=some (.b true,[]):=On s
end Go.Proofs.YthbecdipboideaaDoor.Den
