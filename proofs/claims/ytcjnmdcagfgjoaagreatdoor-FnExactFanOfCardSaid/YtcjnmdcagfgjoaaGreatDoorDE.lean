/- What functions of the program do, by the machine: Brk6 Brk7 Brk8 Brk9 Sz3 Sz4 Eq5 Eq6 To5 To7 Own2 Own3 Nb1 Hd2 Nb2 Mf Fo1. -/
import Derived.Test.YtcjnmdcagfgjoaaGreatDoorDD
import Derived.KernelRfl
import Derived.Test.YtcjnmdcagfgjoaaGreatDoorRows
namespace Go.Proofs.YtcjnmdcagfgjoaaGreatDoor.Den
open IntKind (i64)
open Go.Proofs.Tryz
open List (all_cons all_eq_true append_assoc append_nil drop drop_eq_getElem_cons drop_eq_nil_of_le drop_length drop_zero getElem_mem getElem_range length_range map_cons mem_append nil_append range replicate singleton_append sum_cons take take_length take_of_length_le take_zero)
open Int (eq_ofNat_of_zero_le)
open Nat (add_sub_of_le le_trans zero_add)
open Go.Proofs
set_option maxRecDepth 100000
def PW (ts:List Tp) (w:Int) (p:List UInt8) (ws:List Wt) (v:List Ty) (b:List Nt) (t:Int):Bool:=decide (0<=w/\w<=100)&&(lvB (cut 47 p)&&(DS ws&&(Bd v&&(decide (0<=t/\t<=100000)&&(ts.all (DZ p (t2L v 0))&&(Is ts v b 0&&decide (b.length<=10)))))))
def X9:Gm
 | [.agg [.sl TPd ts,.sl FNd fs],.agg [.i .i64 w,.s p,.sl WCd ws,.sl TCd v,.sl NTd b,.i .i64 t]],[]=>.need (GE ts p v b) (.leaf (.b (PW ts w p ws v b t),[]))
 | _,_=>.no
def sfE:LoopEnt:=⟨61,[2,3,36,37,38],[2,3],[4],fun
 | ([.ptr 0 0,.ptr 1 0,.sl TPd l,.i .i64 k,.i .i64 i],[bb,bf])=>(match bb with
  | some (.box [.sl TPd ts,.sl FNd fs])=>(match bf with
   | some (.box [.i .i64 w,.s p,.sl WCd ws,.sl TCd v,.sl NTd b,.i .i64 t])=>.need (decide (0<=i/\i.toNat<=l.length/\k=l.length/\eqT (List Tp) l ts/\Bd v=true/\p.length<=4000000000/\v.length<=4000000000)&&E9 l) (.br ((l.drop i.toNat).all (DZ p (t2L v 0))) (.leaf ((.exit 0:Ex),([.ptr 0 0,.ptr 1 0],[some (.box [.sl TPd ts,.sl FNd fs]),some (.box [.i .i64 w,.s p,.sl WCd ws,.sl TCd v,.sl NTd b,.i .i64 t])]))) (.leaf (.ret,([.b false],[]))))
   | _=>.no)
  | _=>.no)
 | _=>.no⟩
abbrev ZF:FuncId->Option Ent:=Ab [(78,.rd1 A4),(79,.rd1 MR),(80,.rd1 Iz),(77,.rd1 Jk),(81,.rd1 Xb),(83,.rd1 H5),(82,.rd1 (Rc 1000000)),(84,.rd1 Abp)]
theorem Kj (ts:List Tp) (fs:List Fa) (w:Int) (p:List UInt8) (ws:List Wt) (v:List Ty) (b:List Nt) (t:Int) (l:List Tp) (k i:Int):Av prog ZF (Ab [(4,sfE)]) 0 (body f39 0) sfE ([.ptr 0 0,.ptr 1 0,.sl TPd l,.j k,.j i],[some (.box [.sl TPd ts,.sl FNd fs]),some (.box [.j w,.s p,.sl WCd ws,.sl TCd v,.sl NTd b,.j t])]) =
 ((ifB (decide (i<k)) (ifT (decide ((0:Int)<=i)&&decide (i<(↑l.length:Int))) (Ak l[i.toNat]? fun z=>ifT (decide (p.length<=4000000000/\List.length
 z.fst<=4000000000)) (ifB (tk EV (cut (47:UInt8) p) (cut (47:UInt8) z.fst)) (ifT (decide ((0:Int)<=(0:Int)/\0<List.length z.snd.fst.fst/\
 List.length z.snd.fst.fst<=4000000000)) (ifT (decide ((0:Int)<=(0:Int)/\0<v.length/\v.length<=4000000000)) (ifT (decide (Au
 (Rose.node ((t2L z.snd.fst.fst 0).lab.fst,(t2L z.snd.fst.fst 0).lab.snd.fst,(t2L z.snd.fst.fst 0).lab.snd.snd.fst,(t2L z.snd.fst.fst (0 :
 Nat)).lab.snd.snd.snd.fst,(t2L z.snd.fst.fst 0).lab.snd.snd.snd.snd.fst,()) (take (t2L z.snd.fst.fst 0).kids.length (drop 0 (t2L
 z.snd.fst.fst 0).kids)))=true/\Au (Rose.node ((t2L v 0).lab.fst,(t2L v 0).lab.snd.fst,(t2L v 0).lab.snd.snd.fst,(t2L v (0 :
 Nat)).lab.snd.snd.snd.fst,(t2L v 0).lab.snd.snd.snd.snd.fst,()) (take (t2L v 0).kids.length (drop 0 (t2L v 0).kids)))=true/\
 Ar (Rose.node ((t2L v 0).lab.fst,(t2L v 0).lab.snd.fst,(t2L v 0).lab.snd.snd.fst,(t2L v 0).lab.snd.snd.snd.fst,(t2L v (0 :
 Nat)).lab.snd.snd.snd.snd.fst,()) (take (t2L v 0).kids.length (drop 0 (t2L v 0).kids)))<=1000000/\Ar (Rose.node ((t2L v (0
 : Nat)).lab.fst,(t2L v 0).lab.snd.fst,(t2L v 0).lab.snd.snd.fst,(t2L v 0).lab.snd.snd.snd.fst,(t2L v 0).lab.snd.snd.snd.snd.fst,())
 (take (t2L v 0).kids.length (drop 0 (t2L v 0).kids)))<=1000000/\Ar (Rose.node ((t2L z.snd.fst.fst 0).lab.fst,(t2L
 z.snd.fst.fst 0).lab.snd.fst,(t2L z.snd.fst.fst 0).lab.snd.snd.fst,(t2L z.snd.fst.fst 0).lab.snd.snd.snd.fst,(t2L z.snd.fst.fst (0 :
 Nat)).lab.snd.snd.snd.snd.fst,()) (take (t2L z.snd.fst.fst 0).kids.length (drop 0 (t2L z.snd.fst.fst 0).kids)))<=1000000))
 (ifB (!CF (Rose.node ((t2L v 0).lab.fst,(t2L v 0).lab.snd.fst,(t2L v 0).lab.snd.snd.fst,(t2L v 0).lab.snd.snd.snd.fst,(t2L v (0 :
 Nat)).lab.snd.snd.snd.snd.fst,()) (take (t2L v 0).kids.length (drop 0 (t2L v 0).kids))) (Rose.node ((t2L z.snd.fst.fst (0 :
 Nat)).lab.fst,(t2L z.snd.fst.fst 0).lab.snd.fst,(t2L z.snd.fst.fst 0).lab.snd.snd.fst,(t2L z.snd.fst.fst 0).lab.snd.snd.snd.fst,(t2L
 z.snd.fst.fst 0).lab.snd.snd.snd.snd.fst,()) (take (t2L z.snd.fst.fst 0).kids.length (drop 0 (t2L z.snd.fst.fst 0).kids))))
 (some (Ex.ret,[V.b false],[])) (some (Ex.normal,[V.ptr 0 0,V.ptr 1 0,V.sl TPd l,V.j k,V.j (i64.wrap (i+(1:Int)))],[some (Blk.box [V.sl TPd
 ts,V.sl FNd fs]),some (Blk.box [V.j w,V.s p,V.sl WCd ws,V.sl TCd v,V.sl NTd b,V.j t])])))))) (some (Ex.normal,[V.ptr 0 0,V.ptr 1 0,V.sl TPd l,V.i
 .i64 k,V.j (i64.wrap (i+(1:Int)))],[some (Blk.box [V.sl TPd ts,V.sl FNd fs]),some (Blk.box [V.j w,V.s p,V.sl WCd ws,V.sl TCd v,V.sl NTd b,
 V.j t])]))))) (some (Ex.exit 0,[V.ptr 0 0,V.ptr 1 0],[some (Blk.box [V.sl TPd ts,V.sl FNd fs]),some (Blk.box [V.j w,V.s p,V.sl WCd ws,V.sl TCd v,V.sl
 NTd b,V.j t])]))):_):=by kernel_rfl
theorem TR (ts:List Tp) (fs:List Fa) (w:Int) (p:List UInt8) (ws:List Wt) (v:List Ty) (b:List Nt) (t:Int):Aw prog ZF (Ab [(4,sfE)]) f39 [.agg [.sl TPd ts,.sl FNd fs],.agg [.j w,.s p,.sl WCd ws,.sl TCd v,.sl NTd b,.j t]] [] =
 ((ifB (!decide ((0:Int)<=w/\w<=(100:Int))) (some (V.b false,[])) (ifT (decide (p.length<=4000000000)) (ifB (!lvB (cut (47:UInt8) p)) (some (V.b false,
 [])) (ifB (!DS ws) (some (V.b false,[])) (ifT (decide (v.length<=4000000000)&&nmL v) (ifB (!Bd v) (some (V.b false,[])) (ifB (!decide ((0:Int)<=t/\
 t<=(100000:Int))) (some (V.b false,[])) (ifT (decide ((0:Int)<=(0:Int)/\0<=ts.length/\(↑ts.length:Int)=(↑ts.length:Int)/\eqT (List Tp) ts ts/\
 Bd v=true/\p.length<=4000000000/\v.length<=4000000000)&&E9 ts) (ifB ((drop 0 ts).all (DZ p (t2L v 0))) (ifT (decide
 (v.length<=4000000000)&&(nmL v&&Hy b)) (some (V.b (Is ts v b 0&&decide (b.length<=10)),[]))) (some (V.b false,[]))))))))))):_):=by kernel_rfl
theorem TS (l:List Tp) (fs:List Fa) (w:Int) (p:List UInt8) (ws:List Wt) (v:List Ty) (b:List Nt) (t:Int) (hk:Bd v=true) (hp:p.length<=4000000000) (hv:v.length<=4000000000) (ht:E9 l=true) (i:Nat) (h1:i<=l.length) (ex:Ex) (d':Dt)
  (hx:(Br.br ((l.drop i).all (DZ p (t2L v 0))) (.leaf ((.exit 0:Ex),([.ptr 0 0,.ptr 1 0],[some (.box [.sl TPd l,.sl FNd fs]),some (.box [.j w,.s p,.sl WCd ws,.sl TCd v,.sl NTd b,.j t])]))) (.leaf ((.ret:Ex),([.b false],[]))):Br (Ex×Dt)).run=some (ex,d')):Runs prog ZF (Ab [(4,sfE)]) 0 (body f39 0) sfE ([.ptr 0 0,.ptr 1 0,.sl TPd l,.j (l.length:Int),.j (i:Int)],[some (.box [.sl TPd l,.sl FNd fs]),some (.box [.j w,.s p,.sl WCd ws,.sl TCd v,.sl NTd b,.j t])]) ex d':=by
 have hM:maxI=9223372036854775807:=rfl
 obtain ⟨hl,_,hall⟩:=SB ht
 refine B5 (l:=l) (DZ p (t2L v 0)) (fun i=>([.ptr 0 0,.ptr 1 0,.sl TPd l,.j (l.length:Int),.j (i:Int)],[some (.box [.sl TPd l,.sl FNd fs]),some (.box [.j w,.s p,.sl WCd ws,.sl TCd v,.sl NTd b,.j t])])) (ex:=((.exit 0:Ex),([.ptr 0 0,.ptr 1 0],[some (.box [.sl TPd l,.sl FNd fs]),some (.box [.j w,.s p,.sl WCd ws,.sl TCd v,.sl NTd b,.j t])]))) (rt:=((.ret:Ex),([.b false],[]))) (by simp) (by simp) (fun n hlt=>?_) ?_ (l.length-i) i (by omega) ex d' hx
 ·have hr:=Kj l fs w p ws v b t l l.length n
  try dsimp only [shr] at hr
  obtain ⟨⟨s1,s2,s3⟩,g1,g2,_⟩:=hall _ (getElem_mem hlt)
  obtain ⟨z1,z2,z3⟩:=Hn hk
  obtain ⟨q1,q2,q3⟩:=Dh z1
  rw [Ag (dcT (by omega)),Aa (by simp only [anE,dcE]; omega),ntN,gtE hlt,Am,Ap (n:=n) (by omega),Aa (dcT ⟨hp,s1⟩),Aad g1] at hr
  refine hr.trans ?_
  clear hr hall hx
  obtain ⟨m1,m2,m3⟩:=Hn g2
  obtain ⟨r1,r2,r3⟩:=Dh m1
  rw [Aa (dcT ⟨by omega,by omega,s2⟩),Aa (dcT ⟨by omega,by omega,hv⟩)]
  simp only [drop_zero,take_length,BR]
  unfold DZ
  cases h3:tk inL (cut 47 p) (cut 47 l[n].1) with
  | false=>rfl
  | true=>
   rw [Bc,Aa (dcT ⟨r2,q2,by omega,by omega,by omega⟩)]
   cases CF (t2L v 0) (t2L l[n].2.1.1 0)<;>rfl
 ·have hr:=Kj l fs w p ws v b t l l.length l.length
  try dsimp only [shr] at hr
  rw [Ac (dcF (by omega))] at hr
  exact hr
theorem Yz:As prog ZF (Ab [(4,sfE)]) 0 (f39.body.getD .skip):=by
 refine An (a:=body f39 0) (by kernel_rfl) fun d ex d' h=>?_
 unfold sfE at h
 dsimp only at h
 split at h
 ·rename_i l k i bb bf
  split at h
  ·rename_i ts fs
   split at h
   ·rename_i w p ws v b t
    obtain ⟨hc,hx⟩:=Ad h
    clear h
    rw [anE] at hc
    obtain ⟨hc,ht⟩:=hc
    obtain ⟨h0,h1,h2,h3,h4,h5,h6⟩:=of_decide_eq_true hc
    have h3:l=ts:=h3
    subst h3
    subst h2
    obtain ⟨i,rfl⟩:=eq_ofNat_of_zero_le h0
    simp only [ntN] at h1 hx
    exact TS l fs w p ws v b t h4 h5 h6 ht i h1 ex d' hx
   ·cases h
  ·cases h
 ·cases h
theorem Aan:Af prog 39 (Ent.rd1 X9).F:=by
 refine Ae (kc func78 J0 (kc func79 Acx (kc func80 Aal (kc func77 VY (kc func81 Aej (kc func83 RH (kc func82 (Ys 1000000) (kc func84 Aak KnowsL.nil)))))))).knows (Λ:=(Ab [(4,sfE)])) func39 (c:=f39.body.getD .skip) (by kernel_rfl) fun vs bs r hq hv hb=>?_
 unfold Ent.F X9 at hq
 dsimp only at hq
 split at hq
 ·rename_i ts fs w p ws v b t
  obtain ⟨hc,hx⟩:=Ad hq
  unfold GE at hc
  simp only [anE,dcE] at hc
  obtain ⟨ht,⟨hp,hv⟩,hn,hb⟩:=hc
  refine ⟨Yz,(TR ts fs w p ws v b t).trans (Eq.trans ?_ hx)⟩
  try dsimp only [shr]
  show _=some _
  unfold PW
  rw [drop_zero]
  generalize hw:decide (0<=w/\w<=100)=c1
  generalize decide (0<=t/\t<=100000)=c2
  cases c1 with
  | false=>rfl
  | true=>
   rw [Bool.not_true,AQ,Aa (dcT hp)]
   cases hl:lvB (cut 47 p) with
   | false=>rfl
   | true=>
    cases DS ws with
    | false=>rfl
    | true=>
     rw [Bool.not_true,AQ,AQ,Aa (by rw [anE]; exact ⟨dcT hv,hn⟩)]
     cases hk:Bd v with
     | false=>rfl
     | true=>
      cases c2 with
      | false=>rfl
      | true=>
       rw [Bool.not_true,AQ,AQ,Aa (by rw [anE]; exact ⟨dcT (by refine ⟨by omega,by omega,?_,?_,?_,hp,hv⟩<;>first | rfl | trivial),ht⟩)]
       cases ts.all (DZ p (t2L v 0)) with
       | false=>rfl
       | true=>
        rw [Bc,Aa (by rw [anE,anE]; exact ⟨dcT hv,hn,hb⟩)]
        rfl
 ·cases hq
set_option synthInstance.maxSize 2000
set_option synthInstance.maxHeartbeats 400000
instance decWt7:DecidableEq Wt:=inferInstance
instance decNt7:DecidableEq Nt:=inferInstance
instance decFa70:DecidableEq (List Nt×Int×Unit):=inferInstance
instance decFa71:DecidableEq ((List Ty×Unit)×List Nt×Int×Unit):=inferInstance
instance decFa7:DecidableEq Fa:=inferInstance
def UF (ts:List Tp) (fs:List Fa) (i:Nat):Bool:=match fs[i]? with | some f=>atW fs f.1==(i:Int)&&PX ts f.1 f.2.1 f.2.2.1.1 f.2.2.2.1.1 f.2.2.2.2.1 f.2.2.2.2.2.1 | none=>true
def Ll (ts:List Tp) (fs:List Fa) (i:Nat):Bool:=((range fs.length).drop i).all (UF ts fs)
def Jv (f:Fa):Bool:=decide (f.2.1.length<=4000000000/\f.2.2.2.1.1.length<=4000000000)&&(nmL f.2.2.2.1.1&&Hy f.2.2.2.2.1)
def N8 (ts:List Tp) (fs:List Fa):Bool:=decide (ts.length<=4000000000/\fs.length<=4000000000)&&(ts.all EE&&fs.all Jv)
def FJ (ts:List Tp) (fs:List Fa):Bool:=C5 ts 0&&(decide (ts.length<=4)&&(decide (fs.length<=4)&&Ll ts fs 0))
def Ab3:Gm
 | [.agg [.sl TPd ts,.sl FNd fs]],[]=>.need (N8 ts fs) (.leaf (.b (FJ ts fs),[]))
 | _,_=>.no
def gbE:LoopEnt:=⟨32,[1,14,15,16],[],[2],fun
 | ([.ptr 0 0,.sl FNd l,.i .i64 k,.i .i64 i],[bb])=>(match bb with
  | some (.box [.sl TPd ts,.sl FNd fs])=>.need (decide (0<=i/\i.toNat<=l.length/\k=l.length/\eqT (List Fa) l fs/\l.length<=4000000000)&&(E9 ts&&l.all Jv)) (.br (Ll ts fs i.toNat) (.leaf (.exit 0,([],[]))) (.leaf (.ret,([.b false],[]))))
  | _=>.no)
 | _=>.no⟩
abbrev ZE:FuncId->Option Ent:=Ab [(41,.rd1 V6),(42,.rd1 Zt),(43,.rd1 XA)]
theorem PT (ts:List Tp) (fs:List Fa) (l:List Fa) (k i:Int):Av prog ZE (Ab [(4,gbE)]) 0 (body f12 0) gbE ([.ptr 0 0,.sl FNd l,.j k,.j i],[some (.box [.sl TPd ts,.sl FNd fs])]) =
 ((ifB (decide (i<k)) (ifT (decide ((0:Int)<=i)&&decide (i<(↑l.length:Int))) (Ak l[i.toNat]? fun z=>ifB (atW fs z.fst != i) (some (Ex.ret,[V.b false],[]))
 (ifT (GE ts z.snd.fst z.snd.snd.snd.fst.fst z.snd.snd.snd.snd.fst) (ifB (!PX ts z.fst z.snd.fst z.snd.snd.fst.fst z.snd.snd.snd.fst.fst z.snd.snd.snd.snd.fst
 z.snd.snd.snd.snd.snd.fst) (some (Ex.ret,[V.b false],[])) (some (Ex.normal,[V.ptr 0 0,V.sl FNd l,V.j k,V.j (i64.wrap (i+(1:Int)))],[some
 (Blk.box [V.sl TPd ts,V.sl FNd fs])])))))) (some (Ex.exit 0,[],[]))):_):=by kernel_rfl
theorem Zn (ts:List Tp) (fs:List Fa):Aw prog ZE (Ab [(4,gbE)]) f12 [.agg [.sl TPd ts,.sl FNd fs]] [] =
 ((ifT (decide (ts.length<=4000000000)&&ts.all EE) (ifB (!(C5 ts 0&&decide (ts.length<=4))) (some (V.b false,[])) (ifB (decide
 ((↑fs.length:Int)>(4:Int))) (some (V.b false,[])) (ifT (decide ((0:Int)<=(0:Int)/\0<=fs.length/\(↑fs.length:Int)=(↑fs.length:Int)/\eqT (List
 Fa) fs fs/\fs.length<=4000000000)&&(E9 ts&&fs.all Jv)) (ifB (Ll ts fs 0) (some (V.b true,[])) (some (V.b false,[]))))))):_):=by kernel_rfl
theorem Zo (ts:List Tp) (l:List Fa) (hl:l.length<=4000000000) (ht:E9 ts=true) (hs:l.all Jv=true) (i:Nat) (h1:i<=l.length) (ex:Ex) (d':Dt)
  (hx:(Br.br (Ll ts l i) (.leaf ((.exit 0:Ex),([],[]))) (.leaf ((.ret:Ex),([.b false],[]))):Br (Ex×Dt)).run=some (ex,d')):Runs prog ZE (Ab [(4,gbE)]) 0 (body f12 0) gbE ([.ptr 0 0,.sl FNd l,.j (l.length:Int),.j (i:Int)],[some (.box [.sl TPd ts,.sl FNd l])]) ex d':=by
 have hM:maxI=9223372036854775807:=rfl
 refine B5 (l:=range l.length) (UF ts l) (fun i=>([.ptr 0 0,.sl FNd l,.j (l.length:Int),.j (i:Int)],[some (.box [.sl TPd ts,.sl FNd l])])) (ex:=((.exit 0:Ex),([],[]))) (rt:=((.ret:Ex),([.b false],[]))) (by simp) (by simp) (fun n hn'=>?_) ?_ (l.length-i) i (by simp; omega) ex d' hx
 ·have hlt:n<l.length:=by simpa using hn'
  have hr:=PT ts l l l.length n
  try dsimp only [shr] at hr
  have s1:=all_eq_true.1 hs _ (getElem_mem hlt)
  unfold Jv at s1
  rw [Ag (dcT (by omega)),Aa (by simp only [anE,dcE]; omega),ntN,gtE hlt,Am,Ap (n:=n) (by omega)] at hr
  refine hr.trans ?_
  clear hr hx hs
  rw [getElem_range]
  have e:UF ts l n=(atW l l[n].1==(n:Int)&&PX ts l[n].1 l[n].2.1 l[n].2.2.1.1 l[n].2.2.2.1.1 l[n].2.2.2.2.1 l[n].2.2.2.2.2.1):=by
   unfold UF
   rw [gtE hlt]
  rw [e]
  generalize l[n]=f at s1 ⊢
  have s2:GE ts f.2.1 f.2.2.2.1.1 f.2.2.2.2.1=true:=by
   unfold GE
   rw [ht,Bool.true_and]
   exact s1
  by_cases q:atW l f.1=(n:Int)
  ·have h5:(atW l f.1==(n:Int))=true:=beq_iff_eq.2 q
   have h6:(atW l f.1 != (n:Int))=false:=bne_eq_false_iff_eq.2 q
   rw [h5,h6,AQ,Aa s2]
   cases PX ts f.1 f.2.1 f.2.2.1.1 f.2.2.2.1.1 f.2.2.2.2.1 f.2.2.2.2.2.1<;>rfl
  ·have h5:(atW l f.1==(n:Int))=false:=beq_eq_false_iff_ne.2 q
   have h6:(atW l f.1 != (n:Int))=true:=bne_iff_ne.2 q
   rw [h5,h6]
   rfl
 ·have hr:=PT ts l l l.length l.length
  try dsimp only [shr] at hr
  rw [Ac (dcF (by omega))] at hr
  simp only [length_range]
  exact hr
theorem Ad0:As prog ZE (Ab [(4,gbE)]) 0 (f12.body.getD .skip):=by
 refine An (a:=body f12 0) (by kernel_rfl) fun d ex d' h=>?_
 unfold gbE at h
 dsimp only at h
 split at h
 ·rename_i l k i bb
  split at h
  ·rename_i ts fs
   obtain ⟨hc,hx⟩:=Ad h
   clear h
   rw [anE,anE] at hc
   obtain ⟨hc,ht,hs⟩:=hc
   obtain ⟨h0,h1,h2,h3,h4⟩:=of_decide_eq_true hc
   have h3:l=fs:=h3
   subst h3
   subst h2
   obtain ⟨i,rfl⟩:=eq_ofNat_of_zero_le h0
   simp only [ntN] at h1 hx
   exact Zo ts l h4 ht hs i h1 ex d' hx
  ·cases h
 ·cases h
theorem Fp {ts:List Tp} (h:C5 ts 0=true):ts.all tOK=true:=by
 unfold C5 at h
 rw [drop_zero,all_eq_true] at h
 rw [all_eq_true]
 intro t ht
 obtain ⟨n,hn,rfl⟩:=List.mem_iff_getElem.1 ht
 have:=h n (by simpa using hn)
 unfold Tx at this
 rw [gtE hn] at this
 exact ((anE _ _).mp this).1
theorem Zh:Af prog 12 (Ent.rd1 Ab3).F:=by
 refine Ae (kc func41 Ado (kc func42 Adt (kc func43 Abv KnowsL.nil))).knows (Λ:=(Ab [(4,gbE)])) func12 (c:=f12.body.getD .skip) (by kernel_rfl) fun vs bs r hq hv hb=>?_
 unfold Ent.F Ab3 at hq
 dsimp only at hq
 split at hq
 ·rename_i ts fs
  obtain ⟨hc,hx⟩:=Ad hq
  unfold N8 at hc
  rw [anE,anE] at hc
  obtain ⟨hc,h2,h3⟩:=hc
  obtain ⟨h0,h1⟩:=of_decide_eq_true hc
  refine ⟨Ad0,(Zn ts fs).trans (Eq.trans ?_ hx)⟩
  try dsimp only [shr]
  show _=some _
  unfold FJ
  rw [Aa (by rw [anE]; exact ⟨dcT h0,h2⟩)]
  cases h4:C5 ts 0 with
  | false=>rfl
  | true=>
   by_cases h5:ts.length<=4
   ·rw [dcT h5]
    by_cases h6:fs.length<=4
    ·have h7:E9 ts=true:=by unfold E9; rw [dcT h0,h2,Fp h4]; rfl
     rw [dcT h6]
     rw [Bool.true_and,Bool.not_true,AQ,Ac (dcF (by omega)),Aa (by rw [anE,anE]; exact ⟨dcT (by refine ⟨by omega,by omega,?_,?_,h1⟩<;>first | rfl | trivial),h7,h3⟩)]
     cases Ll ts fs 0<;>rfl
    ·rw [dcF h6]
     rw [Bool.true_and,Bool.not_true,AQ,Ag (dcT (by omega))]
     rfl
   ·rw [dcF h5]
    rfl
 ·cases hq
def noW (w:Int) (o:Fa):Bool:=!(o.1==w)
def fnS (ts:List Tp) (fs:List Fa) (i:Nat):Bool:=match fs[i]? with | some f=>PW ts f.1 f.2.1 f.2.2.1.1 f.2.2.2.1.1 f.2.2.2.2.1 f.2.2.2.2.2.1&&(fs.take i).all (noW f.1) | none=>true
def Lk (ts:List Tp) (fs:List Fa) (i:Nat):Bool:=((range fs.length).drop i).all (fnS ts fs)
def HM (ts:List Tp) (fs:List Fa):Bool:=C5 ts 0&&(decide (ts.length<=4)&&(decide (fs.length<=4)&&Lk ts fs 0))
def X3:Gm
 | [.agg [.sl TPd ts,.sl FNd fs]],[]=>.need (N8 ts fs) (.leaf (.b (HM ts fs),[]))
 | _,_=>.no
def Wi:LoopEnt:=⟨67,[1,10,11,12],[1],[2],fun
 | ([.ptr 0 0,.sl TPd l,.i .i64 k,.i .i64 i],[bb])=>(match bb with
  | some (.box [.sl TPd ts,.sl FNd fs])=>.need (decide (0<=i/\i.toNat<=l.length/\k=l.length/\eqT (List Tp) l ts/\l.length<=4000000000)&&l.all EE) (.br (C5 ts i.toNat) (.leaf ((.exit 0:Ex),([.ptr 0 0],[some (.box [.sl TPd ts,.sl FNd fs])]))) (.leaf (.ret,([.b false],[]))))
  | _=>.no)
 | _=>.no⟩
def Wg:LoopEnt:=⟨67,[1,40,41,42],[],[2],fun
 | ([.ptr 0 0,.sl FNd l,.i .i64 k,.i .i64 i],[bb])=>(match bb with
  | some (.box [.sl TPd ts,.sl FNd fs])=>.need (decide (0<=i/\i.toNat<=l.length/\k=l.length/\eqT (List Fa) l fs/\l.length<=4000000000)&&(E9 ts&&l.all Jv)) (.br (Lk ts fs i.toNat) (.leaf (.exit 2,([],[]))) (.leaf (.ret,([.b false],[]))))
  | _=>.no)
 | _=>.no⟩
def We:LoopEnt:=⟨67,[1,6,40,41,42,54,55,56],[1,40,41,42],[2],fun
 | (.ptr 0 0::.ptr 1 0::.sl FNd l::.i .i64 k0::.i .i64 i0::vs,[bb,bf])=>(match vs with
  | [.sl FNd q,.i .i64 k,.i .i64 i]=>(match bb with
   | some (.box [.sl TPd ts,.sl FNd fs])=>(match bf with
    | some (.box [.i .i64 w,.s p,.sl WCd ws,.sl TCd v,.sl NTd b,.i .i64 t])=>.need (decide (0<=i/\i.toNat<=q.length/\k=q.length/\q.length<=4000000000)) (.br ((q.drop i.toNat).all (noW w)) (.leaf ((.exit 4:Ex),([.ptr 0 0,.sl FNd l,.i .i64 k0,.i .i64 i0],[some (.box [.sl TPd ts,.sl FNd fs])]))) (.leaf (.ret,([.b false],[]))))
    | _=>.no)
   | _=>.no)
  | _=>.no)
 | _=>.no⟩
abbrev Qt:FuncId->Option Ent:=Ab [(37,.rd1 Xa),(38,.rd1 Y1),(39,.rd1 X9)]
abbrev O3:Nat->Option LoopEnt:=Ab [(2,Wi),(10,Wg),(15,We)]
theorem Ms (ts:List Tp) (fs:List Fa) (l:List Tp) (k i:Int):Av prog Qt O3 0 (body f10 0) Wi ([.ptr 0 0,.sl TPd l,.j k,.j i],[some (.box [.sl TPd ts,.sl FNd fs])]) =
 ((ifB (decide (i<k)) (ifT (decide ((0:Int)<=i)&&decide (i<(↑l.length:Int))) (Ak l[i.toNat]? fun z=>ifT (EE (z.fst,(z.snd.fst.fst,()),z.snd.snd.fst,
 ())) (ifB (!tOK (z.fst,(z.snd.fst.fst,()),z.snd.snd.fst,())) (some (Ex.ret,[V.b false],[])) (ifB (atT ts z.fst != i) (some (Ex.ret,[V.b false],[])) (some
 (Ex.normal,[V.ptr 0 0,V.sl TPd l,V.j k,V.j (i64.wrap (i+(1:Int)))],[some (Blk.box [V.sl TPd ts,V.sl FNd fs])])))))) (some (Ex.exit 0,[V.ptr 0
 0],[some (Blk.box [V.sl TPd ts,V.sl FNd fs])]))):_):=by kernel_rfl
theorem Mr (ts:List Tp) (fs:List Fa) (l:List Fa) (k i:Int):Av prog Qt O3 0 (body f10 1) Wg ([.ptr 0 0,.sl FNd l,.j k,.j i],[some (.box [.sl TPd ts,.sl FNd fs])]) =
 ((ifB (decide (i<k)) (ifT (decide ((0:Int)<=i)&&decide (i<(↑l.length:Int))) (Ak l[i.toNat]? fun z=>ifT (GE ts z.snd.fst z.snd.snd.snd.fst.fst
 z.snd.snd.snd.snd.fst) (ifB (!PW ts z.fst z.snd.fst z.snd.snd.fst.fst z.snd.snd.snd.fst.fst z.snd.snd.snd.snd.fst z.snd.snd.snd.snd.snd.fst) (some (Ex.ret,[V.b false],
 [])) (ifT (decide ((0:Int)<=i)&&decide (i<=(↑fs.length:Int))) (ifT (decide ((0:Int)<=(0:Int)/\0<=(take (i.toNat-0) (drop (0 :
 Nat) fs)).length/\(↑(take (i.toNat-0) (drop 0 fs)).length:Int)=(↑(take (i.toNat-0) (drop 0 fs)).length:Int)
 /\ (take (i.toNat-0) (drop 0 fs)).length<=4000000000)) (ifB ((drop 0 (take (i.toNat-0) (drop (0 :
 Nat) fs))).all (noW z.fst)) (some (Ex.normal,[V.ptr 0 0,V.sl FNd l,V.j k,V.j (i64.wrap (i+(1:Int)))],[some (Blk.box [V.sl TPd ts,V.sl FNd
 fs])])) (some (Ex.ret,[V.b false],[])))))))) (some (Ex.exit 2,[],[]))):_):=by kernel_rfl
theorem Mq (ts:List Tp) (fs:List Fa) (w:Int) (p:List UInt8) (ws:List Wt) (v:List Ty) (b:List Nt) (t:Int) (l:List Fa) (k0 i0:Int) (q:List Fa) (k i:Int):Av prog Qt O3 0 (body f10 2) We ([.ptr 0 0,.ptr 1 0,.sl FNd l,.j k0,.j i0,.sl FNd q,.j k,.j i],[some (.box [.sl TPd ts,.sl FNd fs]),some (.box [.j w,.s p,.sl WCd ws,.sl TCd v,.sl NTd b,.j t])]) =
 ((ifB (decide (i<k)) (ifT (decide ((0:Int)<=i)&&decide (i<(↑q.length:Int))) (Ak q[i.toNat]? fun z=>ifB (z.fst==w) (some (Ex.ret,[V.b false],[])) (some
 (Ex.normal,[V.ptr 0 0,V.ptr 1 0,V.sl FNd l,V.j k0,V.j i0,V.sl FNd q,V.j k,V.j (i64.wrap (i+(1:Int)))],[some (Blk.box [V.sl TPd
 ts,V.sl FNd fs]),some (Blk.box [V.j w,V.s p,V.sl WCd ws,V.sl TCd v,V.sl NTd b,V.j t])])))) (some (Ex.exit 4,[V.ptr 0 0,V.sl FNd l,V.j k0,V.i
 .i64 i0],[some (Blk.box [V.sl TPd ts,V.sl FNd fs])]))):_):=by kernel_rfl
theorem Y0 (ts:List Tp) (fs:List Fa):Aw prog Qt O3 f10 [.agg [.sl TPd ts,.sl FNd fs]] [] =
 ((ifT (decide ((0:Int)<=(0:Int)/\0<=ts.length/\(↑ts.length:Int)=(↑ts.length:Int)/\eqT (List Tp) ts ts/\ts.length<=4000000000)&&ts.all
 EE) (ifB (C5 ts 0) (ifB (decide ((↑ts.length:Int)>(4:Int))) (some (V.b false,[])) (ifB (decide ((↑fs.length:Int)>(4:Int))) (some (V.b false,
 [])) (ifT (decide ((0:Int)<=(0:Int)/\0<=fs.length/\(↑fs.length:Int)=(↑fs.length:Int)/\eqT (List Fa) fs fs/\fs.length<=4000000000)&&
 (E9 ts&&fs.all Jv)) (ifB (Lk ts fs 0) (some (V.b true,[])) (some (V.b false,[])))))) (some (V.b false,[])))):_):=by kernel_rfl
theorem Wh (l:List Tp) (fs:List Fa) (hl:l.length<=4000000000) (hs:l.all EE=true) (i:Nat) (h1:i<=l.length) (ex:Ex) (d':Dt)
  (hx:(Br.br (C5 l i) (.leaf ((.exit 0:Ex),([.ptr 0 0],[some (.box [.sl TPd l,.sl FNd fs])]))) (.leaf ((.ret:Ex),([.b false],[]))):Br (Ex×Dt)).run=some (ex,d')):Runs prog Qt O3 0 (body f10 0) Wi ([.ptr 0 0,.sl TPd l,.j (l.length:Int),.j (i:Int)],[some (.box [.sl TPd l,.sl FNd fs])]) ex d':=by
 have hM:maxI=9223372036854775807:=rfl
 refine B5 (l:=range l.length) (Tx l) (fun i=>([.ptr 0 0,.sl TPd l,.j (l.length:Int),.j (i:Int)],[some (.box [.sl TPd l,.sl FNd fs])])) (ex:=((.exit 0:Ex),([.ptr 0 0],[some (.box [.sl TPd l,.sl FNd fs])]))) (rt:=((.ret:Ex),([.b false],[]))) (by simp) (by simp) (fun n hn'=>?_) ?_ (l.length-i) i (by simp; omega) ex d' hx
 ·have hlt:n<l.length:=by simpa using hn'
  have hr:=Ms l fs l l.length n
  try dsimp only [shr] at hr
  have s1:=all_eq_true.1 hs _ (getElem_mem hlt)
  rw [Ag (dcT (by omega)),Aa (by simp only [anE,dcE]; omega),ntN,gtE hlt,Am,Ap (n:=n) (by omega)] at hr
  refine hr.trans ?_
  clear hr hx hs
  rw [getElem_range]
  have e:Tx l n=(tOK l[n]&&atT l l[n].1==(n:Int)):=by
   unfold Tx
   rw [gtE hlt]
  rw [e]
  generalize l[n]=f at s1 ⊢
  obtain ⟨f1,⟨f2,⟨⟩⟩,f3,⟨⟩⟩:=f
  dsimp only
  rw [Aa s1]
  cases tOK (f1,(f2,()),f3,()) with
  | false=>rfl
  | true=>
   by_cases q:atT l f1=(n:Int)
   ·rw [show (atT l f1==(n:Int))=true from beq_iff_eq.2 q,show (atT l f1 != (n:Int))=false from bne_eq_false_iff_eq.2 q]
    rfl
   ·rw [show (atT l f1==(n:Int))=false from beq_eq_false_iff_ne.2 q,show (atT l f1 != (n:Int))=true from bne_iff_ne.2 q]
    rfl
 ·have hr:=Ms l fs l l.length l.length
  try dsimp only [shr] at hr
  rw [Ac (dcF (by omega))] at hr
  simp only [length_range]
  exact hr
theorem Wf (ts:List Tp) (l:List Fa) (hl:l.length<=4000000000) (ht:E9 ts=true) (hs:l.all Jv=true) (i:Nat) (h1:i<=l.length) (ex:Ex) (d':Dt)
  (hx:(Br.br (Lk ts l i) (.leaf ((.exit 2:Ex),([],[]))) (.leaf ((.ret:Ex),([.b false],[]))):Br (Ex×Dt)).run=some (ex,d')):Runs prog Qt O3 0 (body f10 1) Wg ([.ptr 0 0,.sl FNd l,.j (l.length:Int),.j (i:Int)],[some (.box [.sl TPd ts,.sl FNd l])]) ex d':=by
 have hM:maxI=9223372036854775807:=rfl
 refine B5 (l:=range l.length) (fnS ts l) (fun i=>([.ptr 0 0,.sl FNd l,.j (l.length:Int),.j (i:Int)],[some (.box [.sl TPd ts,.sl FNd l])])) (ex:=((.exit 2:Ex),([],[]))) (rt:=((.ret:Ex),([.b false],[]))) (by simp) (by simp) (fun n hn'=>?_) ?_ (l.length-i) i (by simp; omega) ex d' hx
 ·have hlt:n<l.length:=by simpa using hn'
  have hr:=Mr ts l l l.length n
  try dsimp only [shr] at hr
  have s1:=all_eq_true.1 hs _ (getElem_mem hlt)
  unfold Jv at s1
  rw [Ag (dcT (by omega)),Aa (by simp only [anE,dcE]; omega),ntN,gtE hlt,Am,Ap (n:=n) (by omega),Nat.sub_zero,drop_zero,drop_zero] at hr
  refine hr.trans ?_
  clear hr hx hs
  rw [getElem_range]
  have e:fnS ts l n=(PW ts l[n].1 l[n].2.1 l[n].2.2.1.1 l[n].2.2.2.1.1 l[n].2.2.2.2.1 l[n].2.2.2.2.2.1&&(l.take n).all (noW l[n].1)):=by
   unfold fnS
   rw [gtE hlt]
  rw [e]
  generalize l[n]=f at s1 ⊢
  have s2:GE ts f.2.1 f.2.2.2.1.1 f.2.2.2.2.1=true:=by
   unfold GE
   rw [ht,Bool.true_and]
   exact s1
  rw [Aa s2]
  cases PW ts f.1 f.2.1 f.2.2.1.1 f.2.2.2.1.1 f.2.2.2.2.1 f.2.2.2.2.2.1 with
  | false=>rfl
  | true=>
   have h9:(l.take n).length<=4000000000:=by simp; omega
   rw [Bool.not_true,AQ,Aa (show (decide (0<=(n:Int))&&decide ((n:Int)<=(l.length:Int)))=true by simp only [anE,dcE]; omega),Aa (dcT ⟨by omega,by omega,rfl,h9⟩)]
   cases (l.take n).all (noW f.1)<;>rfl
 ·have hr:=Mr ts l l l.length l.length
  try dsimp only [shr] at hr
  rw [Ac (dcF (by omega))] at hr
  simp only [length_range]
  exact hr
theorem Wd (ts:List Tp) (fs:List Fa) (w:Int) (p:List UInt8) (ws:List Wt) (v:List Ty) (b:List Nt) (t:Int) (l:List Fa) (k0 i0:Int) (q:List Fa) (hq:q.length<=4000000000) (i:Nat) (h1:i<=q.length) (ex:Ex) (d':Dt)
  (hx:(Br.br ((q.drop i).all (noW w)) (.leaf ((.exit 4:Ex),([.ptr 0 0,.sl FNd l,.j k0,.j i0],[some (.box [.sl TPd ts,.sl FNd fs])]))) (.leaf ((.ret:Ex),([.b false],[]))):Br (Ex×Dt)).run=some (ex,d')):Runs prog Qt O3 0 (body f10 2) We ([.ptr 0 0,.ptr 1 0,.sl FNd l,.j k0,.j i0,.sl FNd q,.j (q.length:Int),.j (i:Int)],[some (.box [.sl TPd ts,.sl FNd fs]),some (.box [.j w,.s p,.sl WCd ws,.sl TCd v,.sl NTd b,.j t])]) ex d':=by
 have hM:maxI=9223372036854775807:=rfl
 refine B5 (l:=q) (noW w) (fun i=>([.ptr 0 0,.ptr 1 0,.sl FNd l,.j k0,.j i0,.sl FNd q,.j (q.length:Int),.j (i:Int)],[some (.box [.sl TPd ts,.sl FNd fs]),some (.box [.j w,.s p,.sl WCd ws,.sl TCd v,.sl NTd b,.j t])])) (ex:=((.exit 4:Ex),([.ptr 0 0,.sl FNd l,.j k0,.j i0],[some (.box [.sl TPd ts,.sl FNd fs])]))) (rt:=((.ret:Ex),([.b false],[]))) (by simp) (by simp) (fun n hlt=>?_) ?_ (q.length-i) i (by omega) ex d' hx
 ·have hr:=Mq ts fs w p ws v b t l k0 i0 q q.length n
  try dsimp only [shr] at hr
  rw [Ag (dcT (by omega)),Aa (by simp only [anE,dcE]; omega),ntN,gtE hlt,Am,Ap (n:=n) (by omega)] at hr
  refine hr.trans ?_
  unfold noW
  cases q[n].1==w<;>rfl
 ·have hr:=Mq ts fs w p ws v b t l k0 i0 q q.length q.length
  try dsimp only [shr] at hr
  rw [Ac (dcF (by omega))] at hr
  exact hr
theorem Acz:As prog Qt O3 0 (f10.body.getD .skip):=by
 refine LoopsI.loops (cs:=[body f10 0,body f10 1,body f10 2]) ?_ (by kernel_rfl)
 refine .cons (ent:=Wi) (by rfl) (fun d ex d' h=>?_) (.cons (ent:=Wg) (by rfl) (fun d ex d' h=>?_) (.cons (ent:=We) (by rfl) (fun d ex d' h=>?_) .nil))
 ·unfold Wi at h
  dsimp only at h
  split at h
  ·rename_i l k i bb
   split at h
   ·rename_i ts fs
    obtain ⟨hc,hx⟩:=Ad h
    clear h
    rw [anE] at hc
    obtain ⟨hc,hs⟩:=hc
    obtain ⟨h0,h1,h2,h3,h4⟩:=of_decide_eq_true hc
    have h3:l=ts:=h3
    subst h3
    subst h2
    obtain ⟨i,rfl⟩:=eq_ofNat_of_zero_le h0
    simp only [ntN] at h1 hx
    exact Wh l fs h4 hs i h1 ex d' hx
   ·cases h
  ·cases h
 ·unfold Wg at h
  dsimp only at h
  split at h
  ·rename_i l k i bb
   split at h
   ·rename_i ts fs
    obtain ⟨hc,hx⟩:=Ad h
    clear h
    rw [anE,anE] at hc
    obtain ⟨hc,ht,hs⟩:=hc
    obtain ⟨h0,h1,h2,h3,h4⟩:=of_decide_eq_true hc
    have h3:l=fs:=h3
    subst h3
    subst h2
    obtain ⟨i,rfl⟩:=eq_ofNat_of_zero_le h0
    simp only [ntN] at h1 hx
    exact Wf ts l h4 ht hs i h1 ex d' hx
   ·cases h
  ·cases h
 ·unfold We at h
  dsimp only at h
  split at h
  ·rename_i l k0 i0 vs bb bf
   split at h
   ·rename_i q k i
    split at h
    ·rename_i ts fs
     split at h
     ·rename_i w p ws v b t
      obtain ⟨hc,hx⟩:=Ad h
      clear h
      obtain ⟨h0,h1,h2,h3⟩:=of_decide_eq_true hc
      subst h2
      obtain ⟨i,rfl⟩:=eq_ofNat_of_zero_le h0
      simp only [ntN] at h1 hx
      exact Wd ts fs w p ws v b t l k0 i0 q h3 i h1 ex d' hx
     ·cases h
    ·cases h
   ·cases h
  ·cases h
theorem Yx:Af prog 10 (Ent.rd1 X3).F:=by
 refine Ae (kc func37 Aei (kc func38 sat (kc func39 Aan KnowsL.nil))).knows (Λ:=O3) func10 (c:=f10.body.getD .skip) (by kernel_rfl) fun vs bs r hq hv hb=>?_
 unfold Ent.F X3 at hq
 dsimp only at hq
 split at hq
 ·rename_i ts fs
  obtain ⟨hc,hx⟩:=Ad hq
  unfold N8 at hc
  rw [anE,anE] at hc
  obtain ⟨hc,h2,h3⟩:=hc
  obtain ⟨h0,h1⟩:=of_decide_eq_true hc
  refine ⟨Acz,(Y0 ts fs).trans (Eq.trans ?_ hx)⟩
  try dsimp only [shr]
  show _=some _
  unfold HM
  rw [Aa (by rw [anE]; exact ⟨dcT (by refine ⟨by omega,by omega,?_,?_,h0⟩<;>first | rfl | trivial),h2⟩)]
  cases h4:C5 ts 0 with
  | false=>rfl
  | true=>
   by_cases h5:ts.length<=4
   ·rw [dcT h5,Bc,Ac (dcF (by omega))]
    by_cases h6:fs.length<=4
    ·have h7:E9 ts=true:=by unfold E9; rw [dcT h0,h2,Fp h4]; rfl
     rw [dcT h6]
     rw [Ac (dcF (by omega)),Aa (by rw [anE,anE]; exact ⟨dcT (by refine ⟨by omega,by omega,?_,?_,h1⟩<;>first | rfl | trivial),h7,h3⟩)]
     cases Lk ts fs 0<;>rfl
    ·rw [dcF h6,Ag (dcT (by omega))]
     rfl
   ·rw [dcF h5,Bc,Ag (dcT (by omega))]
    rfl
 ·cases hq

theorem MZ {α:Type} (p:α->Bool) : ∀ (l:List α) (n i:Nat) (h:i<l.length),p l[i]=true->(Aq p n l==((n+i:Nat):Int))=(l.take i).all (fun x=>!p x)
 | [],n,i,h,_=>by simp at h
 | x::l,n,0,h,hp=>by
  simp only [List.getElem_cons_zero] at hp
  rw [Aq]
  simp [hp]
 | x::l,n,i+1,h,hp=>by
  simp only [List.getElem_cons_succ] at hp
  have hl:i<l.length:=by simpa using h
  rw [Aq,List.take_succ_cons,all_cons]
  cases hx:p x with
  | true=>
   have : ¬((n:Int)=((n+(i+1):Nat):Int)):=by omega
   simp only [if_true,all_cons,Bool.not_true,Bool.false_and]
   exact beq_eq_false_iff_ne.2 this
  | false=>
   have:=MZ p l (n+1) i hl hp
   rw [show n+(i+1)=n+1+i by omega]
   simpa using this
theorem Uj (m:List (List UInt8×Int)) (x y:List UInt8) (v:Int):Cs .str (Dx .str m x v) y=if y=x then some v else Cs .str m y:=by
 induction m with
 | nil=>
  show (match (y==x) with | true=>some v | false=>none)=_
  by_cases h:y=x
  ·subst h; simp
  ·rw [beq_false_of_ne h,if_neg h]; rfl
 | cons e m ih=>
  show Cs .str (match (x==e.1) with | true=>(x,v)::m | false=>e::Dx .str m x v) y=_
  by_cases h:x=e.1
  ·rw [h,beq_self_eq_true]
   show (match (y==e.1) with | true=>some v | false=>Cs .str m y)=if y=e.1 then some v else (match (y==e.1) with | true=>some e.2 | false=>Cs .str m y)
   by_cases h2:y=e.1
   ·rw [if_pos h2,h2,beq_self_eq_true]
   ·rw [if_neg h2,beq_false_of_ne h2]
  ·rw [beq_false_of_ne h]
   show (match (y==e.1) with | true=>some e.2 | false=>Cs .str (Dx .str m x v) y)=if y=x then some v else (match (y==e.1) with | true=>some e.2 | false=>Cs .str m y)
   by_cases h2:y=e.1
   ·have hn : ¬y=x:=fun q=>h (q.symm.trans h2)
    rw [if_neg hn,h2,beq_self_eq_true]
   ·rw [beq_false_of_ne h2]
    exact ih
def gm (m:List (List UInt8×Int)) (x:List UInt8):Int:=(Cs .str m x).getD 0
theorem Ab2 (m:List (List UInt8×Int)) (x y:List UInt8) (v:Int):gm (Dx .str m x v) y=if y=x then v else gm m y:=by
 unfold gm
 rw [Uj]
 split<;>rfl
def ZL (m:List (List UInt8×Int)) (q:List Nt):Prop:=∀ x,(∀ o∈q,o.1=x->o.2.1<=gm m x)/\(gm m x=0\/∃ o∈q,o.1=x/\o.2.1=gm m x)/\0<=gm m x/\gm m x<=1000
theorem Acd {ts:List Tp} (h:ts.all tOK=true) (x:List UInt8) (ha:0<=atT ts x):Fm ts x<=1000:=by
 rcases S8 ts x with h1 | ⟨h1,h2,h3⟩
 ·omega
 ·unfold Fm
  rw [gtE h2]
  have:=all_eq_true.1 h _ (getElem_mem h2)
  unfold tOK at this
  simp only [anE,dcE] at this
  exact this.2.2.2
theorem Zf {v:List Ty} (hk:Bd v=true) (s:List UInt8):LJ v s=N0 (t2L v 0) s:=by
 unfold LJ U1 N0
 rw [hk,Bool.and_true]
theorem Ac7 {ts:List Tp} {v:List Ty} (hk:Bd v=true) {m:List (List UInt8×Int)} {b:List Nt} {i:Nat} (hi:i<b.length) (hm:ZL m (b.take i)):ntI ts (t2L v 0) m b[i]=ntS ts v b i:=by
 obtain ⟨h1,h2,h3,h4⟩:=hm b[i].1
 have hw:i64.wrap (gm m b[i].1+1)=gm m b[i].1+1:=Ay (by omega) (by omega)
 unfold ntI ntS
 rw [gtE hi]
 dsimp only
 rw [Zf hk,show (Cs .str m b[i].1).getD 0=gm m b[i].1 from rfl,hw,Bool.eq_iff_iff]
 simp only [anE,dcE,all_eq_true]
 constructor
 ·rintro ⟨a,⟨c,d⟩,e⟩
  refine ⟨a,⟨by omega,d⟩,e,fun o ho=>?_⟩
  unfold ltB
  by_cases q:o.1=b[i].1
  ·have:=h1 o ho q
   rw [dcF (by omega),Bool.and_false]; rfl
  ·rw [beq_false_of_ne q]; rfl
 ·rintro ⟨a,⟨c,d⟩,e,f⟩
  refine ⟨a,⟨?_,d⟩,e⟩
  rcases h2 with h2 | ⟨o,ho,h5,h6⟩
  ·omega
  ·have:=f o ho
   unfold ltB at this
   rw [h5,beq_self_eq_true,Bool.true_and] at this
   by_cases q:o.2.1>=b[i].2.1
   ·rw [dcT q] at this; cases this
   ·omega
theorem Xp {ts:List Tp} {v:List Ty} (ht:ts.all tOK=true) {m:List (List UInt8×Int)} {b:List Nt} {i:Nat} (hi:i<b.length) (hm:ZL m (b.take i)) (h:ntI ts (t2L v 0) m b[i]=true):ZL (Dx .str m b[i].1 b[i].2.1) (b.take (i+1)):=by
 obtain ⟨h1,h2,h3,h4⟩:=hm b[i].1
 have hw:i64.wrap (gm m b[i].1+1)=gm m b[i].1+1:=Ay (by omega) (by omega)
 unfold ntI at h
 rw [show (Cs .str m b[i].1).getD 0=gm m b[i].1 from rfl,hw] at h
 simp only [anE,dcE] at h
 obtain ⟨a,⟨c,d⟩,e⟩:=h
 have hc:=Acd ht _ a
 intro x
 rw [Ab2,List.take_succ_eq_append_getElem hi]
 by_cases q:x=b[i].1
 ·rw [if_pos q]
  refine ⟨fun o ho hx=>?_,.inr ⟨b[i],mem_append.2 (.inr (List.mem_singleton.2 rfl)),q.symm,rfl⟩,by omega,by omega⟩
  rcases mem_append.1 ho with ho | ho
  ·have:=h1 o ho (hx.trans q); omega
  ·rw [List.mem_singleton.1 ho]; exact Int.le_refl _
 ·rw [if_neg q]
  obtain ⟨g1,g2,g3,g4⟩:=hm x
  refine ⟨fun o ho hx=>?_,?_,g3,g4⟩
  ·rcases mem_append.1 ho with ho | ho
   ·exact g1 o ho hx
   ·rw [List.mem_singleton.1 ho] at hx; exact absurd hx.symm q
  ·rcases g2 with g2 | ⟨o,ho,h5,h6⟩
   ·exact .inl g2
   ·exact .inr ⟨o,mem_append.2 (.inl ho),h5,h6⟩
theorem Xs {ts:List Tp} {v:List Ty} (hk:Bd v=true) (ht:ts.all tOK=true) (b:List Nt) : ∀ (j i:Nat) (m:List (List UInt8×Int)),i+j=b.length->ZL m (b.take i)->HC ts (t2L v 0) m (b.drop i)=Is ts v b i
 | 0,i,m,hi,hm=>by
  unfold Is
  rw [drop_eq_nil_of_le (by omega),drop_eq_nil_of_le (by simp; omega),HC]
  rfl
 | j+1,i,m,hi,hm=>by
  have hlt:i<b.length:=by omega
  have e:Is ts v b i=(ntS ts v b i&&Is ts v b (i+1)):=by
   unfold Is
   rw [drop_eq_getElem_cons (by simpa using hlt),all_cons,getElem_range]
  rw [e,drop_eq_getElem_cons hlt,HC,<-Ac7 hk hlt hm]
  cases h:ntI ts (t2L v 0) m b[i] with
  | false=>rfl
  | true=>
   rw [Bool.true_and,Bool.true_and]
   exact Xs hk ht b j (i+1) _ (by omega) (Xp ht hlt hm h)
theorem Zg {ts:List Tp} {v:List Ty} (hk:Bd v=true) (ht:ts.all tOK=true) (b:List Nt):HC ts (t2L v 0) [] b=Is ts v b 0:=
 Xs hk ht b b.length 0 [] (by omega) (fun x=>⟨fun o ho=>(by simp at ho),.inl rfl,Int.le_refl _,by show (0:Int)<=1000; decide⟩)
theorem Ab5 {ts:List Tp} (ht:ts.all tOK=true) (w:Int) (p:List UInt8) (ws:List Wt) (v:List Ty) (b:List Nt) (t:Int):PX ts w p ws v b t=PW ts w p ws v b t:=by
 unfold PX PW
 cases hk:Bd v with
 | false=>rfl
 | true=>rw [Zg hk ht]
theorem ZX {ts:List Tp} (ht:ts.all tOK=true) {fs:List Fa} {i:Nat} (hi:i<fs.length):UF ts fs i=fnS ts fs i:=by
 unfold UF fnS
 rw [gtE hi]
 dsimp only
 rw [Ab5 ht,Bool.and_comm]
 congr 1
 have:=MZ (fun f:Fa=>f.1==fs[i].1) fs 0 i hi (by simp)
 rw [zero_add] at this
 exact this
theorem UD (ts:List Tp) (fs:List Fa):FJ ts fs=HM ts fs:=by
 unfold FJ HM
 cases h:C5 ts 0 with
 | false=>rfl
 | true=>
  have ht:=Fp h
  have e:Ll ts fs 0=Lk ts fs 0:=by
   unfold Ll Lk
   rw [drop_zero,Bool.eq_iff_iff,all_eq_true,all_eq_true]
   constructor
   ·intro h i hi; rw [<-ZX ht (by simpa using hi)]; exact h i hi
   ·intro h i hi; rw [ZX ht (by simpa using hi)]; exact h i hi
  rw [e]
def szA (k:Int) (w:Nat):Br (V×List (Option Blk)):=.br (decide (k-(w:Int)<0)) (.leaf (.i .i64 (-1),[])) (.leaf (.i .i64 (k-(w:Int)),[]))
def wNt (z:Nt):Nat:=z.1.length+z.2.2.1.length
def Rt (z:Nt):Bool:=decide (z.1.length<=maxI/\z.2.2.1.length<=maxI)
def Mm:Gm
 | [.agg [.s a,.i .i64 c,.s b],.i .i64 k],[]=>.need (decide (0<=k/\k<=1048576)&&Rt (a,c,b,())) (szA k (wNt (a,c,b,())))
 | _,_=>.no
def wTy (z:Ty):Nat:=z.2.1.length
def Pe (z:Ty):Bool:=decide (z.2.1.length<=maxI)
def Mj:Gm
 | [.agg [.i .i64 a,.s b,.i .i64 c,.b d,.i .i64 e,.i .i64 f],.i .i64 k],[]=>.need (decide (0<=k/\k<=1048576)&&Pe (a,b,c,d,e,f,())) (szA k (wTy (a,b,c,d,e,f,())))
 | _,_=>.no
def wWt (z:Wt):Nat:=z.2.2.2.1.length
def Rs (z:Wt):Bool:=decide (z.2.2.2.1.length<=maxI)
def Mi:Gm
 | [.agg [.i .i64 a,.i .i64 c,.i .i64 d,.s b,.i .i64 e,.i .i64 f],.i .i64 k],[]=>.need (decide (0<=k/\k<=1048576)&&Rs (a,c,d,b,e,f,())) (szA k (wWt (a,c,d,b,e,f,())))
 | _,_=>.no
def Dn (l:List Nt):Nat:=(l.map wNt).sum
def HZ (l:List Nt):Nat:=l.length+Dn l
def Hw (l:List Nt):Bool:=decide (l.length<=maxI)&&l.all Rt
def Fv:LoopEnt:=⟨27,[0,1,5],[1],[4],fun
 | ([.sl NTd l,.i .i64 k,.i .i64 i],[])=>.need (decide (0<=i/\i.toNat<=l.length/\0<=k/\k<=1048576)&&Hw l) (.br (decide (k-(Dn (l.drop i.toNat):Int)<0)) (.leaf (.ret,([.i .i64 (-1)],[]))) (.leaf (.exit 0,([.i .i64 (k-(Dn (l.drop i.toNat):Int))],[]))))
 | _=>.no⟩
def QV:Gm
 | [.sl NTd l,.i .i64 k],[]=>.need (decide (0<=k/\k<=1048576)&&Hw l) (szA k (HZ l))
 | _,_=>.no
def D2 (l:List Ty):Nat:=(l.map wTy).sum
def Hj (l:List Ty):Nat:=l.length+D2 l
def G0 (l:List Ty):Bool:=decide (l.length<=maxI)&&l.all Pe
def Ft:LoopEnt:=⟨27,[0,1,5],[1],[4],fun
 | ([.sl TCd l,.i .i64 k,.i .i64 i],[])=>.need (decide (0<=i/\i.toNat<=l.length/\0<=k/\k<=1048576)&&G0 l) (.br (decide (k-(D2 (l.drop i.toNat):Int)<0)) (.leaf (.ret,([.i .i64 (-1)],[]))) (.leaf (.exit 0,([.i .i64 (k-(D2 (l.drop i.toNat):Int))],[]))))
 | _=>.no⟩
def QP:Gm
 | [.sl TCd l,.i .i64 k],[]=>.need (decide (0<=k/\k<=1048576)&&G0 l) (szA k (Hj l))
 | _,_=>.no
def D1 (l:List Wt):Nat:=(l.map wWt).sum
def Jt (l:List Wt):Nat:=l.length+D1 l
def Hv (l:List Wt):Bool:=decide (l.length<=maxI)&&l.all Rs
def Fs:LoopEnt:=⟨27,[0,1,5],[1],[4],fun
 | ([.sl WCd l,.i .i64 k,.i .i64 i],[])=>.need (decide (0<=i/\i.toNat<=l.length/\0<=k/\k<=1048576)&&Hv l) (.br (decide (k-(D1 (l.drop i.toNat):Int)<0)) (.leaf (.ret,([.i .i64 (-1)],[]))) (.leaf (.exit 0,([.i .i64 (k-(D1 (l.drop i.toNat):Int))],[]))))
 | _=>.no⟩
def QN:Gm
 | [.sl WCd l,.i .i64 k],[]=>.need (decide (0<=k/\k<=1048576)&&Hv l) (szA k (Jt l))
 | _,_=>.no
theorem CB {k:Int} {w:Nat} (h:k-(w:Int)<0):(szA k w).run=some (.j (-1),[]):=by
 unfold szA; rw [HW (dcT h)]; rfl
theorem Ep {k:Int} {w:Nat} (h : ¬k-(w:Int)<0):(szA k w).run=some (.j (k-(w:Int)),[]):=by
 unfold szA; rw [IC (dcF h)]; rfl
theorem TD (a:List UInt8) (c:Int) (b:List UInt8) (k:Int):Aw prog (Ab []) (Ab []) f161 [.agg [.s a,.j c,.s b],.j k] [] =
 ((ifB (decide (i64.wrap (k-(↑a.length:Int))<(0:Int))) (some (V.j (-1),[])) (ifB (decide (i64.wrap (i64.wrap (k-(↑a.length:Int)) -
 (↑b.length:Int))<(0:Int))) (some (V.j (-1),[])) (some (V.j (i64.wrap (i64.wrap (k-(↑a.length:Int))-(↑b.length:Int))),[])))):_):=by kernel_rfl
theorem VL:Af prog 161 (Ent.rd1 Mm).F:=by
 refine Ae KnowsL.nil.knows (Λ:=Ab []) func161 (c:=f161.body.getD .skip) (by kernel_rfl) fun vs_ bs_ r_ hq_ hv_ hb_=>?_
 unfold Ent.F Mm at hq_
 dsimp only at hq_
 split at hq_
 ·rename_i a c b k
  obtain ⟨hc,hx⟩:=Ad hq_
  rw [anE,dcE] at hc
  obtain ⟨⟨h0,h1⟩,h2⟩:=hc
  unfold Rt at h2
  dsimp only at h2
  have hM:maxI=9223372036854775807:=rfl
  refine ⟨Ai _,(TD a c b k).trans (Eq.trans ?_ hx)⟩
  show _=(szA k (wNt (a,c,b,()))).run
  unfold wNt
  dsimp only
  obtain ⟨h3,h4⟩:=of_decide_eq_true h2
  have hw:i64.wrap (k-(a.length:Int))=k-(a.length:Int):=Ay (by omega) (by omega)
  rw [hw]
  by_cases q:k-(a.length:Int)<0
  ·rw [Ag (dcT q),CB (by push_cast; omega)]
  ·have hw2:i64.wrap (k-(a.length:Int)-(b.length:Int))=k-(a.length:Int)-(b.length:Int):=Ay (by omega) (by omega)
   rw [Ac (dcF q),hw2]
   have e:k-(a.length:Int)-(b.length:Int)=k-((a.length+b.length:Nat):Int):=by push_cast; omega
   rw [e]
   by_cases q2:k-((a.length+b.length:Nat):Int)<0
   ·rw [Ag (dcT q2),CB q2]
   ·rw [Ac (dcF q2),Ep q2]
 ·cases hq_
theorem T9 (a:Int) (b:List UInt8) (c:Int) (d:Bool) (e f:Int) (k:Int):Aw prog (Ab []) (Ab []) f198 [.agg [.j a,.s b,.j c,.b d,.j e,.j f],.j k] [] =
 ((ifB (decide (i64.wrap (k-(↑b.length:Int))<(0:Int))) (some (V.j (-1),[])) (some (V.j (i64.wrap (k-(↑b.length:Int))),[]))):_):=by kernel_rfl
theorem VJ:Af prog 198 (Ent.rd1 Mj).F:=by
 refine Ae KnowsL.nil.knows (Λ:=Ab []) func198 (c:=f198.body.getD .skip) (by kernel_rfl) fun vs_ bs_ r_ hq_ hv_ hb_=>?_
 unfold Ent.F Mj at hq_
 dsimp only at hq_
 split at hq_
 ·rename_i a b c d e f k
  obtain ⟨hc,hx⟩:=Ad hq_
  rw [anE,dcE] at hc
  obtain ⟨⟨h0,h1⟩,h2⟩:=hc
  unfold Pe at h2
  dsimp only at h2
  have hM:maxI=9223372036854775807:=rfl
  refine ⟨Ai _,(T9 a b c d e f k).trans (Eq.trans ?_ hx)⟩
  show _=(szA k (wTy (a,b,c,d,e,f,()))).run
  unfold wTy
  dsimp only
  have h3:=of_decide_eq_true h2
  have hw:i64.wrap (k-(b.length:Int))=k-(b.length:Int):=Ay (by omega) (by omega)
  rw [hw]
  by_cases q:k-(b.length:Int)<0
  ·rw [Ag (dcT q),CB q]
  ·rw [Ac (dcF q),Ep q]
 ·cases hq_
theorem T7 (a c d:Int) (b:List UInt8) (e f:Int) (k:Int):Aw prog (Ab []) (Ab []) f200 [.agg [.j a,.j c,.j d,.s b,.j e,.j f],.j k] [] =
 ((ifB (decide (i64.wrap (k-(↑b.length:Int))<(0:Int))) (some (V.j (-1),[])) (some (V.j (i64.wrap (k-(↑b.length:Int))),[]))):_):=by kernel_rfl
theorem VI:Af prog 200 (Ent.rd1 Mi).F:=by
 refine Ae KnowsL.nil.knows (Λ:=Ab []) func200 (c:=f200.body.getD .skip) (by kernel_rfl) fun vs_ bs_ r_ hq_ hv_ hb_=>?_
 unfold Ent.F Mi at hq_
 dsimp only at hq_
 split at hq_
 ·rename_i a c d b e f k
  obtain ⟨hc,hx⟩:=Ad hq_
  rw [anE,dcE] at hc
  obtain ⟨⟨h0,h1⟩,h2⟩:=hc
  unfold Rs at h2
  dsimp only at h2
  have hM:maxI=9223372036854775807:=rfl
  refine ⟨Ai _,(T7 a c d b e f k).trans (Eq.trans ?_ hx)⟩
  show _=(szA k (wWt (a,c,d,b,e,f,()))).run
  unfold wWt
  dsimp only
  have h3:=of_decide_eq_true h2
  have hw:i64.wrap (k-(b.length:Int))=k-(b.length:Int):=Ay (by omega) (by omega)
  rw [hw]
  by_cases q:k-(b.length:Int)<0
  ·rw [Ag (dcT q),CB q]
  ·rw [Ac (dcF q),Ep q]
 ·cases hq_
theorem IP (l:List Nt) (k i:Int):Av prog (Ab [(161,.rd1 Mm)]) (Ab [(5,Fv)]) 0 (body f119 0) Fv ([.sl NTd l,.j k,.j i],[]) =
 ((ifB (decide (i<(↑l.length:Int))) (ifT (decide ((0:Int)<=i)&&decide (i<(↑l.length:Int))) (Ak l[i.toNat]? fun z=>ifT (decide ((0:Int)<=k/\k<=(1048576
 : Int))&&Rt (z.fst,z.snd.fst,z.snd.snd.fst,())) (ifB (decide (k-(↑(wNt (z.fst,z.snd.fst,z.snd.snd.fst,())):Int)<(0:Int))) (some (Ex.ret,[V.i .i64
 (-1)],[])) (ifB (decide (k-(↑(wNt (z.fst,z.snd.fst,z.snd.snd.fst,())):Int)<(0:Int))) (some (Ex.ret,[V.j (-1)],[])) (some (Ex.normal,[V.sl NTd l,V.i
 .i64 (k-(↑(wNt (z.fst,z.snd.fst,z.snd.snd.fst,())):Int)),V.j (i64.wrap (i+(1:Int)))],[])))))) (some (Ex.exit 0,[V.j k],[]))):_):=by kernel_rfl
theorem QU (l:List Nt) (k:Int):Aw prog (Ab [(161,.rd1 Mm)]) (Ab [(5,Fv)]) f119 [.sl NTd l,.j k] [] =
 ((ifB (decide (i64.wrap (k-(↑l.length:Int))<(0:Int))) (some (V.j (-1),[])) (ifT (decide ((0:Int)<=(0:Int)/\0<=l.length/\(0:Int)<=
 i64.wrap (k-(↑l.length:Int))/\i64.wrap (k-(↑l.length:Int))<=(1048576:Int))&&Hw l) (ifB (decide (i64.wrap (k-(↑l.length:Int))
 - (↑(Dn (drop 0 l)):Int)<(0:Int))) (some (V.j (-1),[])) (some (V.j (i64.wrap (k-(↑l.length:Int))-(↑(Dn (drop (0 :
 Nat) l)):Int)),[]))))):_):=by kernel_rfl
theorem Kb (l:List Nt) (hl:l.length<=maxI) (ho : ∀ z∈l,Rt z=true) : ∀ (j i:Nat) (k:Int),i+j=l.length->0<=k->k<=1048576->∀ ex d,(Br.br (decide (k-(Dn (l.drop i):Int)<0)) (.leaf (.ret,([.j (-1)],[]))) (.leaf (.exit 0,([.j (k-(Dn (l.drop i):Int))],[]))):Br (Ex×Dt)).run=some (ex,d)->Runs prog (Ab [(161,.rd1 Mm)]) (Ab [(5,Fv)]) 0 (body f119 0) Fv ([.sl NTd l,.j k,.j (i:Int)],[]) ex d
 | 0,i,k,hi,h0,h1,ex,d,h=>by
  have hr:=IP l k i
  rw [Ac (dcF (by omega))] at hr
  have e0:(Dn (l.drop i):Int)=0:=by rw [drop_eq_nil_of_le (by omega)]; rfl
  rw [e0,Int.sub_zero,IC (dcF (by omega))] at h
  have h8:=Ao h
  obtain ⟨rfl,rfl⟩:=Prod.mk.inj h8
  exact .stop _ _ _ hr (by simp)
 | j+1,i,k,hi,h0,h1,ex,d,h=>by
  have hM:maxI=9223372036854775807:=rfl
  have hlt:i<l.length:=by omega
  have hr:=IP l k i
  rw [Ag (dcT (by omega)),Aa (by simp only [anE,dcE]; omega),ntN,gtE hlt,Am,Ap (n:=i) (by omega)] at hr
  have ho1:=ho _ (getElem_mem hlt)
  have e:Dn (l.drop i)=wNt l[i]+Dn (l.drop (i+1)):=by
   unfold Dn
   rw [drop_eq_getElem_cons hlt,map_cons,sum_cons]
  generalize l[i]=z at hr ho1 e
  obtain ⟨a,c,b,⟨⟩⟩:=z
  dsimp only at hr
  rw [Aa (by rw [anE]; exact ⟨dcT ⟨h0,h1⟩,ho1⟩)] at hr
  generalize wNt _=w at hr e
  by_cases q:k-(w:Int)<0
  ·rw [Ag (dcT q)] at hr
   rw [HW (dcT (by rw [e]; push_cast; omega))] at h
   have h8:=Ao h
   obtain ⟨rfl,rfl⟩:=Prod.mk.inj h8
   exact .stop _ _ _ hr (by simp)
  ·rw [Ac (dcF q),Ac (dcF q)] at hr
   have e2:k-(Dn (l.drop i):Int)=k-(w:Int)-(Dn (l.drop (i+1)):Int):=by rw [e]; push_cast; omega
   rw [e2] at h
   exact .step _ _ _ _ hr (Kb l hl ho j (i+1) (k-(w:Int)) (by omega) (by omega) (by omega) ex d h)
theorem M1 {l:List Nt} (h:Hw l=true):l.length<=maxI/\∀ z∈l,Rt z=true:=by
 unfold Hw at h
 rw [anE,dcE] at h
 exact ⟨h.1,all_eq_true.1 h.2⟩
theorem TC:Af prog 119 (Ent.rd1 QV).F:=by
 refine Ae (kc func161 VL KnowsL.nil).knows (Λ:=(Ab [(5,Fv)])) func119 (c:=f119.body.getD .skip) (by kernel_rfl) fun vs bs r hq hv hb=>?_
 unfold Ent.F QV at hq
 dsimp only at hq
 split at hq
 ·rename_i l k
  obtain ⟨hc,hx⟩:=Ad hq
  rw [anE,dcE] at hc
  obtain ⟨⟨h0,h1⟩,h2⟩:=hc
  obtain ⟨h3,h4⟩:=M1 h2
  have hM:maxI=9223372036854775807:=rfl
  have hok:As prog (Ab [(161,.rd1 Mm)]) (Ab [(5,Fv)]) 0 (f119.body.getD .skip):=by
   refine An (a:=body f119 0) (by kernel_rfl) fun d ex d' h=>?_
   unfold Fv at h
   dsimp only at h
   split at h
   ·rename_i l k i
    obtain ⟨hc,hx⟩:=Ad h
    rw [anE,dcE] at hc
    obtain ⟨⟨a0,a1,a2,a3⟩,a4⟩:=hc
    obtain ⟨b1,b2⟩:=M1 a4
    obtain ⟨i,rfl⟩:=eq_ofNat_of_zero_le a0
    simp only [ntN] at a1 hx
    exact Kb l b1 b2 (l.length-i) i k (by omega) a2 a3 ex d' hx
   ·cases h
  refine ⟨hok,(QU l k).trans (Eq.trans ?_ hx)⟩
  show _=(szA k (HZ l)).run
  have hw:i64.wrap (k-(l.length:Int))=k-(l.length:Int):=Ay (by omega) (by omega)
  unfold HZ
  rw [hw,drop_zero]
  by_cases q:k-(l.length:Int)<0
  ·rw [Ag (dcT q),CB (by push_cast; omega)]
  ·rw [Ac (dcF q),Aa (by rw [anE]; exact ⟨dcT (by omega),h2⟩)]
   have e:k-(l.length:Int)-(Dn l:Int)=k-((l.length+Dn l:Nat):Int):=by push_cast; omega
   rw [e]
   by_cases q2:k-((l.length+Dn l:Nat):Int)<0
   ·rw [Ag (dcT q2),CB q2]
   ·rw [Ac (dcF q2),Ep q2]
 ·cases hq
theorem IN (l:List Ty) (k i:Int):Av prog (Ab [(198,.rd1 Mj)]) (Ab [(5,Ft)]) 0 (body f155 0) Ft ([.sl TCd l,.j k,.j i],[]) =
 ((ifB (decide (i<(↑l.length:Int))) (ifT (decide ((0:Int)<=i)&&decide (i<(↑l.length:Int))) (Ak l[i.toNat]? fun z=>ifT (decide ((0:Int)<=k/\k<=(1048576
 : Int))&&Pe (z.fst,z.snd.fst,z.snd.snd.fst,z.snd.snd.snd.fst,z.snd.snd.snd.snd.fst,z.snd.snd.snd.snd.snd.fst,())) (ifB (decide (k-(↑(wTy (z.fst,z.snd.fst,
 z.snd.snd.fst,z.snd.snd.snd.fst,z.snd.snd.snd.snd.fst,z.snd.snd.snd.snd.snd.fst,())):Int)<(0:Int))) (some (Ex.ret,[V.j (-1)],[])) (ifB (decide (k -
 (↑(wTy (z.fst,z.snd.fst,z.snd.snd.fst,z.snd.snd.snd.fst,z.snd.snd.snd.snd.fst,z.snd.snd.snd.snd.snd.fst,())):Int)<(0:Int))) (some (Ex.ret,[V.j (-1)],
 [])) (some (Ex.normal,[V.sl TCd l,V.j (k-(↑(wTy (z.fst,z.snd.fst,z.snd.snd.fst,z.snd.snd.snd.fst,z.snd.snd.snd.snd.fst,z.snd.snd.snd.snd.snd.fst,())) :
 Int)),V.j (i64.wrap (i+(1:Int)))],[])))))) (some (Ex.exit 0,[V.j k],[]))):_):=by kernel_rfl
theorem QO (l:List Ty) (k:Int):Aw prog (Ab [(198,.rd1 Mj)]) (Ab [(5,Ft)]) f155 [.sl TCd l,.j k] [] =
 ((ifB (decide (i64.wrap (k-(↑l.length:Int))<(0:Int))) (some (V.j (-1),[])) (ifT (decide ((0:Int)<=(0:Int)/\0<=l.length/\(0:Int)<=
 i64.wrap (k-(↑l.length:Int))/\i64.wrap (k-(↑l.length:Int))<=(1048576:Int))&&G0 l) (ifB (decide (i64.wrap (k-(↑l.length:Int))
 - (↑(D2 (drop 0 l)):Int)<(0:Int))) (some (V.j (-1),[])) (some (V.j (i64.wrap (k-(↑l.length:Int))-(↑(D2 (drop (0 :
 Nat) l)):Int)),[]))))):_):=by kernel_rfl
theorem JZ (l:List Ty) (hl:l.length<=maxI) (ho : ∀ z∈l,Pe z=true) : ∀ (j i:Nat) (k:Int),i+j=l.length->0<=k->k<=1048576->∀ ex d,(Br.br (decide (k-(D2 (l.drop i):Int)<0)) (.leaf (.ret,([.j (-1)],[]))) (.leaf (.exit 0,([.j (k-(D2 (l.drop i):Int))],[]))):Br (Ex×Dt)).run=some (ex,d)->Runs prog (Ab [(198,.rd1 Mj)]) (Ab [(5,Ft)]) 0 (body f155 0) Ft ([.sl TCd l,.j k,.j (i:Int)],[]) ex d
 | 0,i,k,hi,h0,h1,ex,d,h=>by
  have hr:=IN l k i
  rw [Ac (dcF (by omega))] at hr
  have e0:(D2 (l.drop i):Int)=0:=by rw [drop_eq_nil_of_le (by omega)]; rfl
  rw [e0,Int.sub_zero,IC (dcF (by omega))] at h
  have h8:=Ao h
  obtain ⟨rfl,rfl⟩:=Prod.mk.inj h8
  exact .stop _ _ _ hr (by simp)
 | j+1,i,k,hi,h0,h1,ex,d,h=>by
  have hM:maxI=9223372036854775807:=rfl
  have hlt:i<l.length:=by omega
  have hr:=IN l k i
  rw [Ag (dcT (by omega)),Aa (by simp only [anE,dcE]; omega),ntN,gtE hlt,Am,Ap (n:=i) (by omega)] at hr
  have ho1:=ho _ (getElem_mem hlt)
  have e:D2 (l.drop i)=wTy l[i]+D2 (l.drop (i+1)):=by
   unfold D2
   rw [drop_eq_getElem_cons hlt,map_cons,sum_cons]
  generalize l[i]=z at hr ho1 e
  obtain ⟨a,b,c,d_,e_,f,⟨⟩⟩:=z
  dsimp only at hr
  rw [Aa (by rw [anE]; exact ⟨dcT ⟨h0,h1⟩,ho1⟩)] at hr
  generalize wTy _=w at hr e
  by_cases q:k-(w:Int)<0
  ·rw [Ag (dcT q)] at hr
   rw [HW (dcT (by rw [e]; push_cast; omega))] at h
   have h8:=Ao h
   obtain ⟨rfl,rfl⟩:=Prod.mk.inj h8
   exact .stop _ _ _ hr (by simp)
  ·rw [Ac (dcF q),Ac (dcF q)] at hr
   have e2:k-(D2 (l.drop i):Int)=k-(w:Int)-(D2 (l.drop (i+1)):Int):=by rw [e]; push_cast; omega
   rw [e2] at h
   exact .step _ _ _ _ hr (JZ l hl ho j (i+1) (k-(w:Int)) (by omega) (by omega) (by omega) ex d h)
theorem Ig {l:List Ty} (h:G0 l=true):l.length<=maxI/\∀ z∈l,Pe z=true:=by
 unfold G0 at h
 rw [anE,dcE] at h
 exact ⟨h.1,all_eq_true.1 h.2⟩
theorem T8:Af prog 155 (Ent.rd1 QP).F:=by
 refine Ae (kc func198 VJ KnowsL.nil).knows (Λ:=(Ab [(5,Ft)])) func155 (c:=f155.body.getD .skip) (by kernel_rfl) fun vs bs r hq hv hb=>?_
 unfold Ent.F QP at hq
 dsimp only at hq
 split at hq
 ·rename_i l k
  obtain ⟨hc,hx⟩:=Ad hq
  rw [anE,dcE] at hc
  obtain ⟨⟨h0,h1⟩,h2⟩:=hc
  obtain ⟨h3,h4⟩:=Ig h2
  have hM:maxI=9223372036854775807:=rfl
  have hok:As prog (Ab [(198,.rd1 Mj)]) (Ab [(5,Ft)]) 0 (f155.body.getD .skip):=by
   refine An (a:=body f155 0) (by kernel_rfl) fun d ex d' h=>?_
   unfold Ft at h
   dsimp only at h
   split at h
   ·rename_i l k i
    obtain ⟨hc,hx⟩:=Ad h
    rw [anE,dcE] at hc
    obtain ⟨⟨a0,a1,a2,a3⟩,a4⟩:=hc
    obtain ⟨b1,b2⟩:=Ig a4
    obtain ⟨i,rfl⟩:=eq_ofNat_of_zero_le a0
    simp only [ntN] at a1 hx
    exact JZ l b1 b2 (l.length-i) i k (by omega) a2 a3 ex d' hx
   ·cases h
  refine ⟨hok,(QO l k).trans (Eq.trans ?_ hx)⟩
  show _=(szA k (Hj l)).run
  have hw:i64.wrap (k-(l.length:Int))=k-(l.length:Int):=Ay (by omega) (by omega)
  unfold Hj
  rw [hw,drop_zero]
  by_cases q:k-(l.length:Int)<0
  ·rw [Ag (dcT q),CB (by push_cast; omega)]
  ·rw [Ac (dcF q),Aa (by rw [anE]; exact ⟨dcT (by omega),h2⟩)]
   have e:k-(l.length:Int)-(D2 l:Int)=k-((l.length+D2 l:Nat):Int):=by push_cast; omega
   rw [e]
   by_cases q2:k-((l.length+D2 l:Nat):Int)<0
   ·rw [Ag (dcT q2),CB q2]
   ·rw [Ac (dcF q2),Ep q2]
 ·cases hq
theorem IM (l:List Wt) (k i:Int):Av prog (Ab [(200,.rd1 Mi)]) (Ab [(5,Fs)]) 0 (body f160 0) Fs ([.sl WCd l,.j k,.j i],[]) =
 ((ifB (decide (i<(↑l.length:Int))) (ifT (decide ((0:Int)<=i)&&decide (i<(↑l.length:Int))) (Ak l[i.toNat]? fun z=>ifT (decide ((0:Int)<=k/\k<=(1048576
 : Int))&&Rs (z.fst,z.snd.fst,z.snd.snd.fst,z.snd.snd.snd.fst,z.snd.snd.snd.snd.fst,z.snd.snd.snd.snd.snd.fst,())) (ifB (decide (k-(↑(wWt (z.fst,z.snd.fst,
 z.snd.snd.fst,z.snd.snd.snd.fst,z.snd.snd.snd.snd.fst,z.snd.snd.snd.snd.snd.fst,())):Int)<(0:Int))) (some (Ex.ret,[V.j (-1)],[])) (ifB (decide (k -
 (↑(wWt (z.fst,z.snd.fst,z.snd.snd.fst,z.snd.snd.snd.fst,z.snd.snd.snd.snd.fst,z.snd.snd.snd.snd.snd.fst,())):Int)<(0:Int))) (some (Ex.ret,[V.j (-1)],
 [])) (some (Ex.normal,[V.sl WCd l,V.j (k-(↑(wWt (z.fst,z.snd.fst,z.snd.snd.fst,z.snd.snd.snd.fst,z.snd.snd.snd.snd.fst,z.snd.snd.snd.snd.snd.fst,())) :
 Int)),V.j (i64.wrap (i+(1:Int)))],[])))))) (some (Ex.exit 0,[V.j k],[]))):_):=by kernel_rfl
theorem QM (l:List Wt) (k:Int):Aw prog (Ab [(200,.rd1 Mi)]) (Ab [(5,Fs)]) f160 [.sl WCd l,.j k] [] =
 ((ifB (decide (i64.wrap (k-(↑l.length:Int))<(0:Int))) (some (V.j (-1),[])) (ifT (decide ((0:Int)<=(0:Int)/\0<=l.length/\(0:Int)<=
 i64.wrap (k-(↑l.length:Int))/\i64.wrap (k-(↑l.length:Int))<=(1048576:Int))&&Hv l) (ifB (decide (i64.wrap (k-(↑l.length:Int))
 - (↑(D1 (drop 0 l)):Int)<(0:Int))) (some (V.j (-1),[])) (some (V.j (i64.wrap (k-(↑l.length:Int))-(↑(D1 (drop (0 :
 Nat) l)):Int)),[]))))):_):=by kernel_rfl
theorem JY (l:List Wt) (hl:l.length<=maxI) (ho : ∀ z∈l,Rs z=true) : ∀ (j i:Nat) (k:Int),i+j=l.length->0<=k->k<=1048576->∀ ex d,(Br.br (decide (k-(D1 (l.drop i):Int)<0)) (.leaf (.ret,([.j (-1)],[]))) (.leaf (.exit 0,([.j (k-(D1 (l.drop i):Int))],[]))):Br (Ex×Dt)).run=some (ex,d)->Runs prog (Ab [(200,.rd1 Mi)]) (Ab [(5,Fs)]) 0 (body f160 0) Fs ([.sl WCd l,.j k,.j (i:Int)],[]) ex d
 | 0,i,k,hi,h0,h1,ex,d,h=>by
  have hr:=IM l k i
  rw [Ac (dcF (by omega))] at hr
  have e0:(D1 (l.drop i):Int)=0:=by rw [drop_eq_nil_of_le (by omega)]; rfl
  rw [e0,Int.sub_zero,IC (dcF (by omega))] at h
  have h8:=Ao h
  obtain ⟨rfl,rfl⟩:=Prod.mk.inj h8
  exact .stop _ _ _ hr (by simp)
 | j+1,i,k,hi,h0,h1,ex,d,h=>by
  have hM:maxI=9223372036854775807:=rfl
  have hlt:i<l.length:=by omega
  have hr:=IM l k i
  rw [Ag (dcT (by omega)),Aa (by simp only [anE,dcE]; omega),ntN,gtE hlt,Am,Ap (n:=i) (by omega)] at hr
  have ho1:=ho _ (getElem_mem hlt)
  have e:D1 (l.drop i)=wWt l[i]+D1 (l.drop (i+1)):=by
   unfold D1
   rw [drop_eq_getElem_cons hlt,map_cons,sum_cons]
  generalize l[i]=z at hr ho1 e
  obtain ⟨a,c,d_,b,e_,f,⟨⟩⟩:=z
  dsimp only at hr
  rw [Aa (by rw [anE]; exact ⟨dcT ⟨h0,h1⟩,ho1⟩)] at hr
  generalize wWt _=w at hr e
  by_cases q:k-(w:Int)<0
  ·rw [Ag (dcT q)] at hr
   rw [HW (dcT (by rw [e]; push_cast; omega))] at h
   have h8:=Ao h
   obtain ⟨rfl,rfl⟩:=Prod.mk.inj h8
   exact .stop _ _ _ hr (by simp)
  ·rw [Ac (dcF q),Ac (dcF q)] at hr
   have e2:k-(D1 (l.drop i):Int)=k-(w:Int)-(D1 (l.drop (i+1)):Int):=by rw [e]; push_cast; omega
   rw [e2] at h
   exact .step _ _ _ _ hr (JY l hl ho j (i+1) (k-(w:Int)) (by omega) (by omega) (by omega) ex d h)
theorem M0 {l:List Wt} (h:Hv l=true):l.length<=maxI/\∀ z∈l,Rs z=true:=by
 unfold Hv at h
 rw [anE,dcE] at h
 exact ⟨h.1,all_eq_true.1 h.2⟩
theorem T6:Af prog 160 (Ent.rd1 QN).F:=by
 refine Ae (kc func200 VI KnowsL.nil).knows (Λ:=(Ab [(5,Fs)])) func160 (c:=f160.body.getD .skip) (by kernel_rfl) fun vs bs r hq hv hb=>?_
 unfold Ent.F QN at hq
 dsimp only at hq
 split at hq
 ·rename_i l k
  obtain ⟨hc,hx⟩:=Ad hq
  rw [anE,dcE] at hc
  obtain ⟨⟨h0,h1⟩,h2⟩:=hc
  obtain ⟨h3,h4⟩:=M0 h2
  have hM:maxI=9223372036854775807:=rfl
  have hok:As prog (Ab [(200,.rd1 Mi)]) (Ab [(5,Fs)]) 0 (f160.body.getD .skip):=by
   refine An (a:=body f160 0) (by kernel_rfl) fun d ex d' h=>?_
   unfold Fs at h
   dsimp only at h
   split at h
   ·rename_i l k i
    obtain ⟨hc,hx⟩:=Ad h
    rw [anE,dcE] at hc
    obtain ⟨⟨a0,a1,a2,a3⟩,a4⟩:=hc
    obtain ⟨b1,b2⟩:=M0 a4
    obtain ⟨i,rfl⟩:=eq_ofNat_of_zero_le a0
    simp only [ntN] at a1 hx
    exact JY l b1 b2 (l.length-i) i k (by omega) a2 a3 ex d' hx
   ·cases h
  refine ⟨hok,(QM l k).trans (Eq.trans ?_ hx)⟩
  show _=(szA k (Jt l)).run
  have hw:i64.wrap (k-(l.length:Int))=k-(l.length:Int):=Ay (by omega) (by omega)
  unfold Jt
  rw [hw,drop_zero]
  by_cases q:k-(l.length:Int)<0
  ·rw [Ag (dcT q),CB (by push_cast; omega)]
  ·rw [Ac (dcF q),Aa (by rw [anE]; exact ⟨dcT (by omega),h2⟩)]
   have e:k-(l.length:Int)-(D1 l:Int)=k-((l.length+D1 l:Nat):Int):=by push_cast; omega
   rw [e]
   by_cases q2:k-((l.length+D1 l:Nat):Int)<0
   ·rw [Ag (dcT q2),CB q2]
   ·rw [Ac (dcF q2),Ep q2]
 ·cases hq
def Ef (z:List Ty×Unit):Nat:=Hj z.1
def G1 (z:List Ty×Unit):Bool:=G0 z.1
def N7:Gm
 | [.agg [.sl TCd l],.i .i64 k],[]=>.need (decide (0<=k/\k<=1048576)&&G1 (l,())) (szA k (Ef (l,())))
 | _,_=>.no
def E7 (z:List Wt×Unit):Nat:=Jt z.1
def M2 (z:List Wt×Unit):Bool:=Hv z.1
def QY:Gm
 | [.agg [.sl WCd l],.i .i64 k],[]=>.need (decide (0<=k/\k<=1048576)&&M2 (l,())) (szA k (E7 (l,())))
 | _,_=>.no
def wTp (z:Tp):Nat:=z.1.length+Ef z.2.1
def NV (z:Tp):Bool:=decide (z.1.length<=maxI)&&G1 z.2.1
def Mk:Gm
 | [.agg [.s a,.sl TCd l,.i .i64 c],.i .i64 k],[]=>.need (decide (0<=k/\k<=1048576)&&NV (a,(l,()),c,())) (szA k (wTp (a,(l,()),c,())))
 | _,_=>.no
def wFa (z:Fa):Nat:=z.2.1.length+(E7 z.2.2.1+(Ef z.2.2.2.1+HZ z.2.2.2.2.1))
def NW (z:Fa):Bool:=decide (z.2.1.length<=maxI)&&(M2 z.2.2.1&&(G1 z.2.2.2.1&&Hw z.2.2.2.2.1))
def Mn:Gm
 | [.agg [.i .i64 w,.s p,.sl WCd ws,.sl TCd v,.sl NTd b,.i .i64 c],.i .i64 k],[]=>.need (decide (0<=k/\k<=1048576)&&NW (w,p,(ws,()),(v,()),b,c,())) (szA k (wFa (w,p,(ws,()),(v,()),b,c,())))
 | _,_=>.no
def C7 (l:List Tp):Nat:=(l.map wTp).sum
def Hk (l:List Tp):Nat:=l.length+C7 l
def IW (l:List Tp):Bool:=decide (l.length<=maxI)&&l.all NV
def Fu:LoopEnt:=⟨27,[0,1,5],[1],[4],fun
 | ([.sl TPd l,.i .i64 k,.i .i64 i],[])=>.need (decide (0<=i/\i.toNat<=l.length/\0<=k/\k<=1048576)&&IW l) (.br (decide (k-(C7 (l.drop i.toNat):Int)<0)) (.leaf (.ret,([.i .i64 (-1)],[]))) (.leaf (.exit 0,([.i .i64 (k-(C7 (l.drop i.toNat):Int))],[]))))
 | _=>.no⟩
def QR:Gm
 | [.sl TPd l,.i .i64 k],[]=>.need (decide (0<=k/\k<=1048576)&&IW l) (szA k (Hk l))
 | _,_=>.no
def Cj (l:List Fa):Nat:=(l.map wFa).sum
def JL (l:List Fa):Nat:=l.length+Cj l
def IX (l:List Fa):Bool:=decide (l.length<=maxI)&&l.all NW
def Fw:LoopEnt:=⟨27,[0,1,5],[1],[4],fun
 | ([.sl FNd l,.i .i64 k,.i .i64 i],[])=>.need (decide (0<=i/\i.toNat<=l.length/\0<=k/\k<=1048576)&&IX l) (.br (decide (k-(Cj (l.drop i.toNat):Int)<0)) (.leaf (.ret,([.i .i64 (-1)],[]))) (.leaf (.exit 0,([.i .i64 (k-(Cj (l.drop i.toNat):Int))],[]))))
 | _=>.no⟩
def Ra:Gm
 | [.sl FNd l,.i .i64 k],[]=>.need (decide (0<=k/\k<=1048576)&&IX l) (szA k (JL l))
 | _,_=>.no
def wBk (z:List Tp×List Fa×Unit):Nat:=Hk z.1+JL z.2.1
def NX (z:List Tp×List Fa×Unit):Bool:=IW z.1&&IX z.2.1
def VO:Gm
 | [.agg [.sl TPd ts,.sl FNd fs],.i .i64 k],[]=>.need (decide (0<=k/\k<=1048576)&&NX (ts,fs,())) (szA k (wBk (ts,fs,())))
 | _,_=>.no
theorem QW {k:Int} {w:Nat} {ok:Bool} (hok:ok=true) (h0:0<=k) (h1:k<=1048576):ifT (decide (0<=k/\k<=1048576)&&ok) (ifB (decide (k-(w:Int)<0)) (some (V.j (-1),([]:List (Option Blk)))) (ifB (decide (k-(w:Int)<0)) (some (V.j (-1),[])) (some (V.j (k-(w:Int)),[]))))=(szA k w).run:=by
 rw [Aa (by rw [anE]; exact ⟨dcT ⟨h0,h1⟩,hok⟩)]
 by_cases q:k-(w:Int)<0
 ·rw [Ag (dcT q),CB q]
 ·rw [Ac (dcF q),Ac (dcF q),Ep q]
theorem SF {k:Int} {w r:Nat} (q : ¬k-(w:Int)<0):(szA (k-(w:Int)) r).run=(szA k (w+r)).run:=by
 have e:k-(w:Int)-(r:Int)=k-((w+r:Nat):Int):=by push_cast; omega
 by_cases q2:k-(w:Int)-(r:Int)<0
 ·rw [CB q2,CB (by omega)]
 ·rw [Ep q2,Ep (by omega),e]
theorem QS {k:Int} {w r:Nat} {ok:Bool} {X:Option (V×List (Option Blk))} (hok:ok=true) (h0:0<=k) (h1:k<=1048576) (hX : ¬k-(w:Int)<0->X=(szA (k-(w:Int)) r).run):ifT (decide (0<=k/\k<=1048576)&&ok) (ifB (decide (k-(w:Int)<0)) (some (V.j (-1),([]:List (Option Blk)))) (ifB (decide (k-(w:Int)<0)) (some (V.j (-1),[])) X))=(szA k (w+r)).run:=by
 rw [Aa (by rw [anE]; exact ⟨dcT ⟨h0,h1⟩,hok⟩)]
 by_cases q:k-(w:Int)<0
 ·rw [Ag (dcT q),CB (by push_cast; omega)]
 ·rw [Ac (dcF q),Ac (dcF q),hX q,SF q]
theorem ZP {k:Int} {w r:Nat} {X:Option (V×List (Option Blk))} (hX : ¬k-(w:Int)<0->X=(szA (k-(w:Int)) r).run):ifB (decide (k-(w:Int)<0)) (some (V.j (-1),([]:List (Option Blk)))) X=(szA k (w+r)).run:=by
 by_cases q:k-(w:Int)<0
 ·rw [Ag (dcT q),CB (by push_cast; omega)]
 ·rw [Ac (dcF q),hX q,SF q]
theorem QT (l:List Ty) (k:Int):Aw prog (Ab [(155,.rd1 QP)]) (Ab []) f106 [.agg [.sl TCd l],.j k] [] =
 ((ifT (decide ((0:Int)<=k/\k<=(1048576:Int))&&G0 l) (ifB (decide (k-(↑(Hj l):Int)<(0:Int))) (some (V.j (-1),[])) (ifB (decide (k-(↑(Hj l) :
 Int)<(0:Int))) (some (V.j (-1),[])) (some (V.j (k-(↑(Hj l):Int)),[]))))):_):=by kernel_rfl
theorem Ml:Af prog 106 (Ent.rd1 N7).F:=by
 refine Ae (kc func155 T8 KnowsL.nil).knows (Λ:=Ab []) func106 (c:=f106.body.getD .skip) (by kernel_rfl) fun vs_ bs_ r_ hq_ hv_ hb_=>?_
 unfold Ent.F N7 at hq_
 dsimp only at hq_
 split at hq_
 ·rename_i l k
  obtain ⟨hc,hx⟩:=Ad hq_
  rw [anE,dcE] at hc
  obtain ⟨⟨h0,h1⟩,h2⟩:=hc
  unfold G1 at h2
  dsimp only at h2
  have hM:maxI=9223372036854775807:=rfl
  refine ⟨Ai _,(QT l k).trans (Eq.trans ?_ hx)⟩
  show _=(szA k (Ef (l,()))).run
  unfold Ef
  dsimp only
  rw [Aa (by rw [anE]; exact ⟨dcT ⟨h0,h1⟩,h2⟩)]
  by_cases q:k-(Hj l:Int)<0
  ·rw [Ag (dcT q),CB q]
  ·rw [Ac (dcF q),Ac (dcF q),Ep q]
 ·cases hq_
theorem QX (l:List Wt) (k:Int):Aw prog (Ab [(160,.rd1 QN)]) (Ab []) f118 [.agg [.sl WCd l],.j k] [] =
 ((ifT (decide ((0:Int)<=k/\k<=(1048576:Int))&&Hv l) (ifB (decide (k-(↑(Jt l):Int)<(0:Int))) (some (V.j (-1),[])) (ifB (decide (k-(↑(Jt l) :
 Int)<(0:Int))) (some (V.j (-1),[])) (some (V.j (k-(↑(Jt l):Int)),[]))))):_):=by kernel_rfl
theorem TE:Af prog 118 (Ent.rd1 QY).F:=by
 refine Ae (kc func160 T6 KnowsL.nil).knows (Λ:=Ab []) func118 (c:=f118.body.getD .skip) (by kernel_rfl) fun vs_ bs_ r_ hq_ hv_ hb_=>?_
 unfold Ent.F QY at hq_
 dsimp only at hq_
 split at hq_
 ·rename_i l k
  obtain ⟨hc,hx⟩:=Ad hq_
  rw [anE,dcE] at hc
  obtain ⟨⟨h0,h1⟩,h2⟩:=hc
  unfold M2 at h2
  dsimp only at h2
  have hM:maxI=9223372036854775807:=rfl
  refine ⟨Ai _,(QX l k).trans (Eq.trans ?_ hx)⟩
  show _=(szA k (E7 (l,()))).run
  unfold E7
  dsimp only
  rw [Aa (by rw [anE]; exact ⟨dcT ⟨h0,h1⟩,h2⟩)]
  by_cases q:k-(Jt l:Int)<0
  ·rw [Ag (dcT q),CB q]
  ·rw [Ac (dcF q),Ac (dcF q),Ep q]
 ·cases hq_
theorem TB (a:List UInt8) (l:List Ty) (c:Int) (k:Int):Aw prog (Ab [(106,.rd1 N7)]) (Ab []) f50 [.agg [.s a,.sl TCd l,.j c],.j k] [] =
 ((ifB (decide (i64.wrap (k-(↑a.length:Int))<(0:Int))) (some (V.j (-1),[])) (ifT (decide ((0:Int)<=i64.wrap (k-(↑a.length:Int))/\
 i64.wrap (k-(↑a.length:Int))<=(1048576:Int))&&G1 (l,())) (ifB (decide (i64.wrap (k-(↑a.length:Int))-(↑(Ef (l,())):Int)<(0 :
 Int))) (some (V.j (-1),[])) (ifB (decide (i64.wrap (k-(↑a.length:Int))-(↑(Ef (l,())):Int)<(0:Int))) (some (V.j (-1),[])) (some (V.i
 .i64 (i64.wrap (k-(↑a.length:Int))-(↑(Ef (l,())):Int)),[])))))):_):=by kernel_rfl
theorem VK:Af prog 50 (Ent.rd1 Mk).F:=by
 refine Ae (kc func106 Ml KnowsL.nil).knows (Λ:=Ab []) func50 (c:=f50.body.getD .skip) (by kernel_rfl) fun vs_ bs_ r_ hq_ hv_ hb_=>?_
 unfold Ent.F Mk at hq_
 dsimp only at hq_
 split at hq_
 ·rename_i a l c k
  obtain ⟨hc,hx⟩:=Ad hq_
  rw [anE,dcE] at hc
  obtain ⟨⟨h0,h1⟩,h2⟩:=hc
  unfold NV at h2
  dsimp only at h2
  have hM:maxI=9223372036854775807:=rfl
  refine ⟨Ai _,(TB a l c k).trans (Eq.trans ?_ hx)⟩
  show _=(szA k (wTp (a,(l,()),c,()))).run
  unfold wTp
  dsimp only
  rw [anE,dcE] at h2
  obtain ⟨h3,h4⟩:=h2
  have hw:i64.wrap (k-(a.length:Int))=k-(a.length:Int):=Ay (by omega) (by omega)
  rw [hw]
  exact ZP fun q=>QW h4 (by omega) (by omega)
 ·cases hq_
theorem TG (w:Int) (p:List UInt8) (ws:List Wt) (v:List Ty) (b:List Nt) (c:Int) (k:Int):Aw prog (Ab [(118,.rd1 QY),(106,.rd1 N7),(119,.rd1 QV)]) (Ab []) f75 [.agg [.j w,.s p,.sl WCd ws,.sl TCd v,.sl NTd b,.j c],.j k] [] =
 ((ifB (decide (i64.wrap (k-(↑p.length:Int))<(0:Int))) (some (V.j (-1),[])) (ifT (decide ((0:Int)<=i64.wrap (k-(↑p.length:Int))/\
 i64.wrap (k-(↑p.length:Int))<=(1048576:Int))&&M2 (ws,())) (ifB (decide (i64.wrap (k-(↑p.length:Int))-(↑(E7 (ws,())):Int)<(0 :
 Int))) (some (V.j (-1),[])) (ifB (decide (i64.wrap (k-(↑p.length:Int))-(↑(E7 (ws,())):Int)<(0:Int))) (some (V.j (-1),[])) (ifT (decide
 ((0:Int)<=i64.wrap (k-(↑p.length:Int))-(↑(E7 (ws,())):Int)/\i64.wrap (k-(↑p.length:Int))-(↑(E7 (ws,())):Int)<=(1048576:Int))
 && G1 (v,())) (ifB (decide (i64.wrap (k-(↑p.length:Int))-(↑(E7 (ws,())):Int)-(↑(Ef (v,())):Int)<(0:Int))) (some (V.j (-1),[]))
 (ifB (decide (i64.wrap (k-(↑p.length:Int))-(↑(E7 (ws,())):Int)-(↑(Ef (v,())):Int)<(0:Int))) (some (V.j (-1),[])) (ifT (decide ((0 :
 Int)<=i64.wrap (k-(↑p.length:Int))-(↑(E7 (ws,())):Int)-(↑(Ef (v,())):Int)/\i64.wrap (k-(↑p.length:Int))-(↑(E7 (ws,())):Int)
 - (↑(Ef (v,())):Int)<=(1048576:Int))&&Hw b) (ifB (decide (i64.wrap (k-(↑p.length:Int))-(↑(E7 (ws,())):Int)-(↑(Ef (v,())):Int) -
 (↑(HZ b):Int)<(0:Int))) (some (V.j (-1),[])) (ifB (decide (i64.wrap (k-(↑p.length:Int))-(↑(E7 (ws,())):Int)-(↑(Ef (v,())):Int) -
 (↑(HZ b):Int)<(0:Int))) (some (V.j (-1),[])) (some (V.j (i64.wrap (k-(↑p.length:Int))-(↑(E7 (ws,())):Int)-(↑(Ef (v,())):Int)
 - (↑(HZ b):Int)),[])))))))))))):_):=by kernel_rfl
theorem VM:Af prog 75 (Ent.rd1 Mn).F:=by
 refine Ae (kc func118 TE (kc func106 Ml (kc func119 TC KnowsL.nil))).knows (Λ:=Ab []) func75 (c:=f75.body.getD .skip) (by kernel_rfl) fun vs_ bs_ r_ hq_ hv_ hb_=>?_
 unfold Ent.F Mn at hq_
 dsimp only at hq_
 split at hq_
 ·rename_i w p ws v b c k
  obtain ⟨hc,hx⟩:=Ad hq_
  rw [anE,dcE] at hc
  obtain ⟨⟨h0,h1⟩,h2⟩:=hc
  unfold NW at h2
  dsimp only at h2
  have hM:maxI=9223372036854775807:=rfl
  refine ⟨Ai _,(TG w p ws v b c k).trans (Eq.trans ?_ hx)⟩
  show _=(szA k (wFa (w,p,(ws,()),(v,()),b,c,()))).run
  unfold wFa
  dsimp only
  simp only [anE,dcE] at h2
  obtain ⟨h3,h4,h5,h6⟩:=h2
  have hw:i64.wrap (k-(p.length:Int))=k-(p.length:Int):=Ay (by omega) (by omega)
  rw [hw]
  exact ZP fun q=>QS h4 (by omega) (by omega) fun q2=>QS h5 (by omega) (by omega) fun q3=>QW h6 (by omega) (by omega)
 ·cases hq_
theorem IO (l:List Tp) (k i:Int):Av prog (Ab [(50,.rd1 Mk)]) (Ab [(5,Fu)]) 0 (body f19 0) Fu ([.sl TPd l,.j k,.j i],[]) =
 ((ifB (decide (i<(↑l.length:Int))) (ifT (decide ((0:Int)<=i)&&decide (i<(↑l.length:Int))) (Ak l[i.toNat]? fun z=>ifT (decide ((0:Int)<=k/\k<=(1048576
 : Int))&&NV (z.fst,(z.snd.fst.fst,()),z.snd.snd.fst,())) (ifB (decide (k-(↑(wTp (z.fst,(z.snd.fst.fst,()),z.snd.snd.fst,())):Int)<(0:Int))) (some
 (Ex.ret,[V.j (-1)],[])) (ifB (decide (k-(↑(wTp (z.fst,(z.snd.fst.fst,()),z.snd.snd.fst,())):Int)<(0:Int))) (some (Ex.ret,[V.j (-1)],[])) (some
 (Ex.normal,[V.sl TPd l,V.j (k-(↑(wTp (z.fst,(z.snd.fst.fst,()),z.snd.snd.fst,())):Int)),V.j (i64.wrap (i+(1:Int)))],[])))))) (some
 (Ex.exit 0,[V.j k],[]))):_):=by kernel_rfl
theorem QQ (l:List Tp) (k:Int):Aw prog (Ab [(50,.rd1 Mk)]) (Ab [(5,Fu)]) f19 [.sl TPd l,.j k] [] =
 ((ifB (decide (i64.wrap (k-(↑l.length:Int))<(0:Int))) (some (V.j (-1),[])) (ifT (decide ((0:Int)<=(0:Int)/\0<=l.length/\(0:Int)<=
 i64.wrap (k-(↑l.length:Int))/\i64.wrap (k-(↑l.length:Int))<=(1048576:Int))&&IW l) (ifB (decide (i64.wrap (k-(↑l.length:Int))
 - (↑(C7 (drop 0 l)):Int)<(0:Int))) (some (V.j (-1),[])) (some (V.j (i64.wrap (k-(↑l.length:Int))-(↑(C7 (drop (0 :
 Nat) l)):Int)),[]))))):_):=by kernel_rfl
theorem Ka (l:List Tp) (hl:l.length<=maxI) (ho : ∀ z∈l,NV z=true) : ∀ (j i:Nat) (k:Int),i+j=l.length->0<=k->k<=1048576->∀ ex d,(Br.br (decide (k-(C7 (l.drop i):Int)<0)) (.leaf (.ret,([.j (-1)],[]))) (.leaf (.exit 0,([.j (k-(C7 (l.drop i):Int))],[]))):Br (Ex×Dt)).run=some (ex,d)->Runs prog (Ab [(50,.rd1 Mk)]) (Ab [(5,Fu)]) 0 (body f19 0) Fu ([.sl TPd l,.j k,.j (i:Int)],[]) ex d
 | 0,i,k,hi,h0,h1,ex,d,h=>by
  have hr:=IO l k i
  rw [Ac (dcF (by omega))] at hr
  have e0:(C7 (l.drop i):Int)=0:=by rw [drop_eq_nil_of_le (by omega)]; rfl
  rw [e0,Int.sub_zero,IC (dcF (by omega))] at h
  have h8:=Ao h
  obtain ⟨rfl,rfl⟩:=Prod.mk.inj h8
  exact .stop _ _ _ hr (by simp)
 | j+1,i,k,hi,h0,h1,ex,d,h=>by
  have hM:maxI=9223372036854775807:=rfl
  have hlt:i<l.length:=by omega
  have hr:=IO l k i
  rw [Ag (dcT (by omega)),Aa (by simp only [anE,dcE]; omega),ntN,gtE hlt,Am,Ap (n:=i) (by omega)] at hr
  have ho1:=ho _ (getElem_mem hlt)
  have e:C7 (l.drop i)=wTp l[i]+C7 (l.drop (i+1)):=by
   unfold C7
   rw [drop_eq_getElem_cons hlt,map_cons,sum_cons]
  generalize l[i]=z at hr ho1 e
  obtain ⟨a,⟨l_,⟨⟩⟩,c,⟨⟩⟩:=z
  dsimp only at hr
  rw [Aa (by rw [anE]; exact ⟨dcT ⟨h0,h1⟩,ho1⟩)] at hr
  generalize wTp _=w at hr e
  by_cases q:k-(w:Int)<0
  ·rw [Ag (dcT q)] at hr
   rw [HW (dcT (by rw [e]; push_cast; omega))] at h
   have h8:=Ao h
   obtain ⟨rfl,rfl⟩:=Prod.mk.inj h8
   exact .stop _ _ _ hr (by simp)
  ·rw [Ac (dcF q),Ac (dcF q)] at hr
   have e2:k-(C7 (l.drop i):Int)=k-(w:Int)-(C7 (l.drop (i+1)):Int):=by rw [e]; push_cast; omega
   rw [e2] at h
   exact .step _ _ _ _ hr (Ka l hl ho j (i+1) (k-(w:Int)) (by omega) (by omega) (by omega) ex d h)
theorem Ih {l:List Tp} (h:IW l=true):l.length<=maxI/\∀ z∈l,NV z=true:=by
 unfold IW at h
 rw [anE,dcE] at h
 exact ⟨h.1,all_eq_true.1 h.2⟩
theorem TA:Af prog 19 (Ent.rd1 QR).F:=by
 refine Ae (kc func50 VK KnowsL.nil).knows (Λ:=(Ab [(5,Fu)])) func19 (c:=f19.body.getD .skip) (by kernel_rfl) fun vs bs r hq hv hb=>?_
 unfold Ent.F QR at hq
 dsimp only at hq
 split at hq
 ·rename_i l k
  obtain ⟨hc,hx⟩:=Ad hq
  rw [anE,dcE] at hc
  obtain ⟨⟨h0,h1⟩,h2⟩:=hc
  obtain ⟨h3,h4⟩:=Ih h2
  have hM:maxI=9223372036854775807:=rfl
  have hok:As prog (Ab [(50,.rd1 Mk)]) (Ab [(5,Fu)]) 0 (f19.body.getD .skip):=by
   refine An (a:=body f19 0) (by kernel_rfl) fun d ex d' h=>?_
   unfold Fu at h
   dsimp only at h
   split at h
   ·rename_i l k i
    obtain ⟨hc,hx⟩:=Ad h
    rw [anE,dcE] at hc
    obtain ⟨⟨a0,a1,a2,a3⟩,a4⟩:=hc
    obtain ⟨b1,b2⟩:=Ih a4
    obtain ⟨i,rfl⟩:=eq_ofNat_of_zero_le a0
    simp only [ntN] at a1 hx
    exact Ka l b1 b2 (l.length-i) i k (by omega) a2 a3 ex d' hx
   ·cases h
  refine ⟨hok,(QQ l k).trans (Eq.trans ?_ hx)⟩
  show _=(szA k (Hk l)).run
  have hw:i64.wrap (k-(l.length:Int))=k-(l.length:Int):=Ay (by omega) (by omega)
  unfold Hk
  rw [hw,drop_zero]
  by_cases q:k-(l.length:Int)<0
  ·rw [Ag (dcT q),CB (by push_cast; omega)]
  ·rw [Ac (dcF q),Aa (by rw [anE]; exact ⟨dcT (by omega),h2⟩)]
   have e:k-(l.length:Int)-(C7 l:Int)=k-((l.length+C7 l:Nat):Int):=by push_cast; omega
   rw [e]
   by_cases q2:k-((l.length+C7 l:Nat):Int)<0
   ·rw [Ag (dcT q2),CB q2]
   ·rw [Ac (dcF q2),Ep q2]
 ·cases hq
theorem IQ (l:List Fa) (k i:Int):Av prog (Ab [(75,.rd1 Mn)]) (Ab [(5,Fw)]) 0 (body f36 0) Fw ([.sl FNd l,.j k,.j i],[]) =
 ((ifB (decide (i<(↑l.length:Int))) (ifT (decide ((0:Int)<=i)&&decide (i<(↑l.length:Int))) (Ak l[i.toNat]? fun z=>ifT (decide ((0:Int)<=k/\k<=(1048576
 : Int))&&NW (z.fst,z.snd.fst,(z.snd.snd.fst.fst,()),(z.snd.snd.snd.fst.fst,()),z.snd.snd.snd.snd.fst,z.snd.snd.snd.snd.snd.fst,())) (ifB (decide (k-(↑(wFa
 (z.fst,z.snd.fst,(z.snd.snd.fst.fst,()),(z.snd.snd.snd.fst.fst,()),z.snd.snd.snd.snd.fst,z.snd.snd.snd.snd.snd.fst,())):Int)<(0:Int))) (some (Ex.ret,[V.i
 .i64 (-1)],[])) (ifB (decide (k-(↑(wFa (z.fst,z.snd.fst,(z.snd.snd.fst.fst,()),(z.snd.snd.snd.fst.fst,()),z.snd.snd.snd.snd.fst,z.snd.snd.snd.snd.snd.fst,()))
 : Int)<(0:Int))) (some (Ex.ret,[V.j (-1)],[])) (some (Ex.normal,[V.sl FNd l,V.j (k-(↑(wFa (z.fst,z.snd.fst,(z.snd.snd.fst.fst,()),
 (z.snd.snd.snd.fst.fst,()),z.snd.snd.snd.snd.fst,z.snd.snd.snd.snd.snd.fst,())):Int)),V.j (i64.wrap (i+(1:Int)))],[])))))) (some (Ex.exit 0,[V.i
 .i64 k],[]))):_):=by kernel_rfl
theorem QZ (l:List Fa) (k:Int):Aw prog (Ab [(75,.rd1 Mn)]) (Ab [(5,Fw)]) f36 [.sl FNd l,.j k] [] =
 ((ifB (decide (i64.wrap (k-(↑l.length:Int))<(0:Int))) (some (V.j (-1),[])) (ifT (decide ((0:Int)<=(0:Int)/\0<=l.length/\(0:Int)<=
 i64.wrap (k-(↑l.length:Int))/\i64.wrap (k-(↑l.length:Int))<=(1048576:Int))&&IX l) (ifB (decide (i64.wrap (k-(↑l.length:Int))
 - (↑(Cj (drop 0 l)):Int)<(0:Int))) (some (V.j (-1),[])) (some (V.j (i64.wrap (k-(↑l.length:Int))-(↑(Cj (drop (0 :
 Nat) l)):Int)),[]))))):_):=by kernel_rfl
theorem Kc (l:List Fa) (hl:l.length<=maxI) (ho : ∀ z∈l,NW z=true) : ∀ (j i:Nat) (k:Int),i+j=l.length->0<=k->k<=1048576->∀ ex d,(Br.br (decide (k-(Cj (l.drop i):Int)<0)) (.leaf (.ret,([.j (-1)],[]))) (.leaf (.exit 0,([.j (k-(Cj (l.drop i):Int))],[]))):Br (Ex×Dt)).run=some (ex,d)->Runs prog (Ab [(75,.rd1 Mn)]) (Ab [(5,Fw)]) 0 (body f36 0) Fw ([.sl FNd l,.j k,.j (i:Int)],[]) ex d
 | 0,i,k,hi,h0,h1,ex,d,h=>by
  have hr:=IQ l k i
  rw [Ac (dcF (by omega))] at hr
  have e0:(Cj (l.drop i):Int)=0:=by rw [drop_eq_nil_of_le (by omega)]; rfl
  rw [e0,Int.sub_zero,IC (dcF (by omega))] at h
  have h8:=Ao h
  obtain ⟨rfl,rfl⟩:=Prod.mk.inj h8
  exact .stop _ _ _ hr (by simp)
 | j+1,i,k,hi,h0,h1,ex,d,h=>by
  have hM:maxI=9223372036854775807:=rfl
  have hlt:i<l.length:=by omega
  have hr:=IQ l k i
  rw [Ag (dcT (by omega)),Aa (by simp only [anE,dcE]; omega),ntN,gtE hlt,Am,Ap (n:=i) (by omega)] at hr
  have ho1:=ho _ (getElem_mem hlt)
  have e:Cj (l.drop i)=wFa l[i]+Cj (l.drop (i+1)):=by
   unfold Cj
   rw [drop_eq_getElem_cons hlt,map_cons,sum_cons]
  generalize l[i]=z at hr ho1 e
  obtain ⟨w_,p,⟨ws,⟨⟩⟩,⟨v,⟨⟩⟩,b,c,⟨⟩⟩:=z
  dsimp only at hr
  rw [Aa (by rw [anE]; exact ⟨dcT ⟨h0,h1⟩,ho1⟩)] at hr
  generalize wFa _=w at hr e
  by_cases q:k-(w:Int)<0
  ·rw [Ag (dcT q)] at hr
   rw [HW (dcT (by rw [e]; push_cast; omega))] at h
   have h8:=Ao h
   obtain ⟨rfl,rfl⟩:=Prod.mk.inj h8
   exact .stop _ _ _ hr (by simp)
  ·rw [Ac (dcF q),Ac (dcF q)] at hr
   have e2:k-(Cj (l.drop i):Int)=k-(w:Int)-(Cj (l.drop (i+1)):Int):=by rw [e]; push_cast; omega
   rw [e2] at h
   exact .step _ _ _ _ hr (Kc l hl ho j (i+1) (k-(w:Int)) (by omega) (by omega) (by omega) ex d h)
theorem Ii {l:List Fa} (h:IX l=true):l.length<=maxI/\∀ z∈l,NW z=true:=by
 unfold IX at h
 rw [anE,dcE] at h
 exact ⟨h.1,all_eq_true.1 h.2⟩
theorem TF:Af prog 36 (Ent.rd1 Ra).F:=by
 refine Ae (kc func75 VM KnowsL.nil).knows (Λ:=(Ab [(5,Fw)])) func36 (c:=f36.body.getD .skip) (by kernel_rfl) fun vs bs r hq hv hb=>?_
 unfold Ent.F Ra at hq
 dsimp only at hq
 split at hq
 ·rename_i l k
  obtain ⟨hc,hx⟩:=Ad hq
  rw [anE,dcE] at hc
  obtain ⟨⟨h0,h1⟩,h2⟩:=hc
  obtain ⟨h3,h4⟩:=Ii h2
  have hM:maxI=9223372036854775807:=rfl
  have hok:As prog (Ab [(75,.rd1 Mn)]) (Ab [(5,Fw)]) 0 (f36.body.getD .skip):=by
   refine An (a:=body f36 0) (by kernel_rfl) fun d ex d' h=>?_
   unfold Fw at h
   dsimp only at h
   split at h
   ·rename_i l k i
    obtain ⟨hc,hx⟩:=Ad h
    rw [anE,dcE] at hc
    obtain ⟨⟨a0,a1,a2,a3⟩,a4⟩:=hc
    obtain ⟨b1,b2⟩:=Ii a4
    obtain ⟨i,rfl⟩:=eq_ofNat_of_zero_le a0
    simp only [ntN] at a1 hx
    exact Kc l b1 b2 (l.length-i) i k (by omega) a2 a3 ex d' hx
   ·cases h
  refine ⟨hok,(QZ l k).trans (Eq.trans ?_ hx)⟩
  show _=(szA k (JL l)).run
  have hw:i64.wrap (k-(l.length:Int))=k-(l.length:Int):=Ay (by omega) (by omega)
  unfold JL
  rw [hw,drop_zero]
  by_cases q:k-(l.length:Int)<0
  ·rw [Ag (dcT q),CB (by push_cast; omega)]
  ·rw [Ac (dcF q),Aa (by rw [anE]; exact ⟨dcT (by omega),h2⟩)]
   have e:k-(l.length:Int)-(Cj l:Int)=k-((l.length+Cj l:Nat):Int):=by push_cast; omega
   rw [e]
   by_cases q2:k-((l.length+Cj l:Nat):Int)<0
   ·rw [Ag (dcT q2),CB q2]
   ·rw [Ac (dcF q2),Ep q2]
 ·cases hq
theorem TH (ts:List Tp) (fs:List Fa) (k:Int):Aw prog (Ab [(19,.rd1 QR),(36,.rd1 Ra)]) (Ab []) f9 [.agg [.sl TPd ts,.sl FNd fs],.j k] [] =
 ((ifT (decide ((0:Int)<=k/\k<=(1048576:Int))&&IW ts) (ifB (decide (k-(↑(Hk ts):Int)<(0:Int))) (some (V.j (-1),[])) (ifB (decide (k-(↑(Hk ts)
 : Int)<(0:Int))) (some (V.j (-1),[])) (ifT (decide ((0:Int)<=k-(↑(Hk ts):Int)/\k-(↑(Hk ts):Int)<=(1048576:Int))&&IX fs) (ifB (decide (k
 - (↑(Hk ts):Int)-(↑(JL fs):Int)<(0:Int))) (some (V.j (-1),[])) (ifB (decide (k-(↑(Hk ts):Int)-(↑(JL fs):Int)<(0:Int))) (some (V.i .i64
 (-1),[])) (some (V.j (k-(↑(Hk ts):Int)-(↑(JL fs):Int)),[])))))))):_):=by kernel_rfl
theorem VN:Af prog 9 (Ent.rd1 VO).F:=by
 refine Ae (kc func19 TA (kc func36 TF KnowsL.nil)).knows (Λ:=Ab []) func9 (c:=f9.body.getD .skip) (by kernel_rfl) fun vs_ bs_ r_ hq_ hv_ hb_=>?_
 unfold Ent.F VO at hq_
 dsimp only at hq_
 split at hq_
 ·rename_i ts fs k
  obtain ⟨hc,hx⟩:=Ad hq_
  rw [anE,dcE] at hc
  obtain ⟨⟨h0,h1⟩,h2⟩:=hc
  unfold NX at h2
  dsimp only at h2
  have hM:maxI=9223372036854775807:=rfl
  refine ⟨Ai _,(TH ts fs k).trans (Eq.trans ?_ hx)⟩
  show _=(szA k (wBk (ts,fs,()))).run
  unfold wBk
  dsimp only
  rw [anE] at h2
  exact QS h2.1 h0 h1 fun q2=>QW h2.2 (by omega) (by omega)
 ·cases hq_
def eqL {α:Type} (f:α->α->Bool):List α->List α->Bool
 | [],[]=>true
 | x::l,y::q=>f x y&&eqL f l q
 | _,_=>false
def Gx (x y:Nt):Bool:=x.1==y.1&&(x.2.1==y.2.1&&x.2.2.1==y.2.2.1)
def Ni:Gm
 | [.agg [.s a0,.i .i64 a1,.s a2],.agg [.s b0,.i .i64 b1,.s b2]],[]=>.leaf (.b (Gx (a0,a1,a2,()) (b0,b1,b2,())),[])
 | _,_=>.no
def Gv (x y:Ty):Bool:=x.1==y.1&&(x.2.1==y.2.1&&(x.2.2.1==y.2.2.1&&(x.2.2.2.1==y.2.2.2.1&&(x.2.2.2.2.1==y.2.2.2.2.1&&x.2.2.2.2.2.1==y.2.2.2.2.2.1))))
def Nf:Gm
 | [.agg [.i .i64 a0,.s a1,.i .i64 a2,.b a3,.i .i64 a4,.i .i64 a5],.agg [.i .i64 b0,.s b1,.i .i64 b2,.b b3,.i .i64 b4,.i .i64 b5]],[]=>.leaf (.b (Gv (a0,a1,a2,a3,a4,a5,()) (b0,b1,b2,b3,b4,b5,())),[])
 | _,_=>.no
def Gu (x y:Wt):Bool:=x.1==y.1&&(x.2.1==y.2.1&&(x.2.2.1==y.2.2.1&&(x.2.2.2.1==y.2.2.2.1&&(x.2.2.2.2.1==y.2.2.2.2.1&&x.2.2.2.2.2.1==y.2.2.2.2.2.1))))
def Nb:Gm
 | [.agg [.i .i64 a0,.i .i64 a1,.i .i64 a2,.s a3,.i .i64 a4,.i .i64 a5],.agg [.i .i64 b0,.i .i64 b1,.i .i64 b2,.s b3,.i .i64 b4,.i .i64 b5]],[]=>.leaf (.b (Gu (a0,a1,a2,a3,a4,a5,()) (b0,b1,b2,b3,b4,b5,())),[])
 | _,_=>.no
def FO:LoopEnt:=⟨27,[0,1,5],[],[4],fun
 | ([.sl NTd l,.sl NTd q,.i .i64 i],[])=>.need (decide (0<=i/\i.toNat<=l.length/\l.length=q.length/\l.length<=maxI)) (.br (eqL Gx (l.drop i.toNat) (q.drop i.toNat)) (.leaf (.exit 0,([],[]))) (.leaf (.ret,([.b false],[]))))
 | _=>.no⟩
def Sr:Gm
 | [.sl NTd l,.sl NTd q],[]=>.need (decide (l.length<=maxI)) (.leaf (.b (eqL Gx l q),[]))
 | _,_=>.no
def FM:LoopEnt:=⟨27,[0,1,5],[],[4],fun
 | ([.sl TCd l,.sl TCd q,.i .i64 i],[])=>.need (decide (0<=i/\i.toNat<=l.length/\l.length=q.length/\l.length<=maxI)) (.br (eqL Gv (l.drop i.toNat) (q.drop i.toNat)) (.leaf (.exit 0,([],[]))) (.leaf (.ret,([.b false],[]))))
 | _=>.no⟩
def Sm:Gm
 | [.sl TCd l,.sl TCd q],[]=>.need (decide (l.length<=maxI)) (.leaf (.b (eqL Gv l q),[]))
 | _,_=>.no
def FL:LoopEnt:=⟨27,[0,1,5],[],[4],fun
 | ([.sl WCd l,.sl WCd q,.i .i64 i],[])=>.need (decide (0<=i/\i.toNat<=l.length/\l.length=q.length/\l.length<=maxI)) (.br (eqL Gu (l.drop i.toNat) (q.drop i.toNat)) (.leaf (.exit 0,([],[]))) (.leaf (.ret,([.b false],[]))))
 | _=>.no⟩
def Sk:Gm
 | [.sl WCd l,.sl WCd q],[]=>.need (decide (l.length<=maxI)) (.leaf (.b (eqL Gu l q),[]))
 | _,_=>.no
theorem I2 {α:Type} {f:α->α->Bool} : ∀ {l q:List α},l.length≠q.length->eqL f l q=false
 | [],[],h=>absurd rfl h
 | [],_::_,_=>rfl
 | _::_,[],_=>rfl
 | x::l,y::q,h=>by
  have:l.length≠q.length:=fun e=>h (by simp [e])
  rw [eqL,I2 this,Bool.and_false]
theorem DU {α:Type} {f:α->α->Bool} : ∀ {l:List α},(∀ x∈l,f x x=true)->eqL f l l=true
 | [],_=>rfl
 | x::l,h=>by rw [eqL,h x (by simp),DU (fun y hy=>h y (by simp [hy]))]; rfl
theorem UQ (a0:List UInt8) (a1:Int) (a2:List UInt8) (b0:List UInt8) (b1:Int) (b2:List UInt8):Aw prog (Ab []) (Ab []) f18 [.agg [.s a0,.j a1,.s a2],.agg [.s b0,.j b1,.s b2]] [] =
 ((ifB (!a0==b0) (some (V.b false,[])) (ifB (a1 != b1) (some (V.b false,[])) (ifB (!a2==b2) (some (V.b false,[])) (some (V.b true,[]))))):_):=by kernel_rfl
theorem XF:Af prog 18 (Ent.rd1 Ni).F:=by
 refine Ae KnowsL.nil.knows (Λ:=Ab []) func18 (c:=f18.body.getD .skip) (by kernel_rfl) fun vs bs r hq hv hb=>?_
 unfold Ent.F Ni at hq
 dsimp only at hq
 split at hq
 ·rename_i a0 a1 a2 b0 b1 b2
  refine ⟨Ai _,(UQ a0 a1 a2 b0 b1 b2).trans (Eq.trans ?_ hq)⟩
  show _=some _
  unfold Gx bne
  dsimp only
  cases a0==b0<;>cases a1==b1<;>cases a2==b2<;>rfl
 ·cases hq
theorem UL (a0:Int) (a1:List UInt8) (a2:Int) (a3:Bool) (a4 a5:Int) (b0:Int) (b1:List UInt8) (b2:Int) (b3:Bool) (b4 b5:Int):Aw prog (Ab []) (Ab []) f159 [.agg [.j a0,.s a1,.j a2,.b a3,.j a4,.j a5],.agg [.j b0,.s b1,.j b2,.b b3,.j b4,.j b5]] [] =
 ((ifB (a0 != b0) (some (V.b false,[])) (ifB (!a1==b1) (some (V.b false,[])) (ifB (a2 != b2) (some (V.b false,[])) (ifB (!a3==b3) (some (V.b false,[])) (ifB (a4 !=
 b4) (some (V.b false,[])) (ifB (a5 != b5) (some (V.b false,[])) (some (V.b true,[])))))))):_):=by kernel_rfl
theorem XD:Af prog 159 (Ent.rd1 Nf).F:=by
 refine Ae KnowsL.nil.knows (Λ:=Ab []) func159 (c:=f159.body.getD .skip) (by kernel_rfl) fun vs bs r hq hv hb=>?_
 unfold Ent.F Nf at hq
 dsimp only at hq
 split at hq
 ·rename_i a0 a1 a2 a3 a4 a5 b0 b1 b2 b3 b4 b5
  refine ⟨Ai _,(UL a0 a1 a2 a3 a4 a5 b0 b1 b2 b3 b4 b5).trans (Eq.trans ?_ hq)⟩
  show _=some _
  unfold Gv bne
  dsimp only
  cases a0==b0<;>cases a1==b1<;>cases a2==b2<;>cases a3==b3<;>cases a4==b4<;>cases a5==b5<;>rfl
 ·cases hq
theorem UI (a0 a1 a2:Int) (a3:List UInt8) (a4 a5:Int) (b0 b1 b2:Int) (b3:List UInt8) (b4 b5:Int):Aw prog (Ab []) (Ab []) f158 [.agg [.j a0,.j a1,.j a2,.s a3,.j a4,.j a5],.agg [.j b0,.j b1,.j b2,.s b3,.j b4,.j b5]] [] =
 ((ifB (a0 != b0) (some (V.b false,[])) (ifB (a1 != b1) (some (V.b false,[])) (ifB (a2 != b2) (some (V.b false,[])) (ifB (!a3==b3) (some (V.b false,[])) (ifB (a4 != b4)
 (some (V.b false,[])) (ifB (a5 != b5) (some (V.b false,[])) (some (V.b true,[])))))))):_):=by kernel_rfl
theorem XC:Af prog 158 (Ent.rd1 Nb).F:=by
 refine Ae KnowsL.nil.knows (Λ:=Ab []) func158 (c:=f158.body.getD .skip) (by kernel_rfl) fun vs bs r hq hv hb=>?_
 unfold Ent.F Nb at hq
 dsimp only at hq
 split at hq
 ·rename_i a0 a1 a2 a3 a4 a5 b0 b1 b2 b3 b4 b5
  refine ⟨Ai _,(UI a0 a1 a2 a3 a4 a5 b0 b1 b2 b3 b4 b5).trans (Eq.trans ?_ hq)⟩
  show _=some _
  unfold Gu bne
  dsimp only
  cases a0==b0<;>cases a1==b1<;>cases a2==b2<;>cases a3==b3<;>cases a4==b4<;>cases a5==b5<;>rfl
 ·cases hq
theorem Jp (l q:List Nt) (i:Int):Av prog (Ab [(18,.rd1 Ni)]) (Ab [(4,FO)]) 0 (body f66 0) FO ([.sl NTd l,.sl NTd q,.j i],[]) =
 ((ifB (decide (i<(↑l.length:Int))) (ifT (decide ((0:Int)<=i)&&decide (i<(↑l.length:Int))) (Ak l[i.toNat]? fun z=>ifT (decide ((0:Int)<=i)&&decide (i
 < (↑q.length:Int))) (Ak q[i.toNat]? fun z_1=>ifB (!Gx (z.fst,z.snd.fst,z.snd.snd.fst,()) (z_1.fst,z_1.snd.fst,z_1.snd.snd.fst,())) (some (Ex.ret,[V.b
 false],[])) (some (Ex.normal,[V.sl NTd l,V.sl NTd q,V.j (i64.wrap (i+(1:Int)))],[]))))) (some (Ex.exit 0,[],[]))):_):=by kernel_rfl
theorem Sq (l q:List Nt):Aw prog (Ab [(18,.rd1 Ni)]) (Ab [(4,FO)]) f66 [.sl NTd l,.sl NTd q] [] =
 ((ifB ((↑l.length:Int) != (↑q.length:Int)) (some (V.b false,[])) (ifT (decide ((0:Int)<=(0:Int)/\0<=l.length/\l.length=q.length/\l.length<=maxI))
 (ifB (eqL Gx (drop 0 l) (drop 0 q)) (some (V.b true,[])) (some (V.b false,[]))))):_):=by kernel_rfl
theorem Lr (l q:List Nt) (hl:l.length<=maxI) (hq:l.length=q.length) : ∀ (j i:Nat),i+j=l.length->∀ ex d,(Br.br (eqL Gx (l.drop i) (q.drop i)) (.leaf (.exit 0,([],[]))) (.leaf (.ret,([.b false],[]))):Br (Ex×Dt)).run=some (ex,d)->Runs prog (Ab [(18,.rd1 Ni)]) (Ab [(4,FO)]) 0 (body f66 0) FO ([.sl NTd l,.sl NTd q,.j (i:Int)],[]) ex d
 | 0,i,hi,ex,d,h=>by
  have hr:=Jp l q i
  rw [Ac (dcF (by omega))] at hr
  rw [drop_eq_nil_of_le (by omega),drop_eq_nil_of_le (by omega),eqL] at h
  have h8:=Ao h
  obtain ⟨rfl,rfl⟩:=Prod.mk.inj h8
  exact .stop _ _ _ hr (by simp)
 | j+1,i,hi,ex,d,h=>by
  have hM:maxI=9223372036854775807:=rfl
  have hlt:i<l.length:=by omega
  have hlq:i<q.length:=by omega
  have hr:=Jp l q i
  rw [Ag (dcT (by omega)),Aa (by simp only [anE,dcE]; omega),ntN,gtE hlt,Am,Aa (by simp only [anE,dcE]; omega),gtE hlq,Am,Ap (n:=i) (by omega)] at hr
  rw [drop_eq_getElem_cons hlt,drop_eq_getElem_cons hlq,eqL] at h
  have e : ∀ x y:Nt,Gx (x.1,x.2.1,x.2.2.1,()) (y.1,y.2.1,y.2.2.1,())=Gx x y:=fun x y=>rfl
  rw [e] at hr
  cases h1:Gx l[i] q[i] with
  | false=>
   rw [h1] at hr h
   have h8:=Ao h
   obtain ⟨rfl,rfl⟩:=Prod.mk.inj h8
   exact .stop _ _ _ hr (by simp)
  | true=>
   rw [h1] at hr h
   exact .step _ _ _ _ hr (Lr l q hl hq j (i+1) (by omega) ex d h)
theorem UP:Af prog 66 (Ent.rd1 Sr).F:=by
 refine Ae (kc func18 XF KnowsL.nil).knows (Λ:=(Ab [(4,FO)])) func66 (c:=f66.body.getD .skip) (by kernel_rfl) fun vs bs r hq hv hb=>?_
 unfold Ent.F Sr at hq
 dsimp only at hq
 split at hq
 ·rename_i l q
  obtain ⟨hc,hx⟩:=Ad hq
  have hc:=of_decide_eq_true hc
  have hok:As prog (Ab [(18,.rd1 Ni)]) (Ab [(4,FO)]) 0 (f66.body.getD .skip):=by
   refine An (a:=body f66 0) (by kernel_rfl) fun d ex d' h=>?_
   unfold FO at h
   dsimp only at h
   split at h
   ·rename_i l q i
    obtain ⟨hc,hx⟩:=Ad h
    obtain ⟨a0,a1,a2,a3⟩:=of_decide_eq_true hc
    obtain ⟨i,rfl⟩:=eq_ofNat_of_zero_le a0
    simp only [ntN] at a1 hx
    exact Lr l q a3 a2 (l.length-i) i (by omega) ex d' hx
   ·cases h
  refine ⟨hok,(Sq l q).trans (Eq.trans ?_ hx)⟩
  show _=some _
  by_cases h:l.length=q.length
  ·have h2:((l.length:Int) != (q.length:Int))=false:=bne_eq_false_iff_eq.2 (by omega)
   rw [h2,AQ,Aa (dcT ⟨by omega,by omega,h,hc⟩),drop_zero,drop_zero]
   cases eqL Gx l q<;>rfl
  ·have h2:((l.length:Int) != (q.length:Int))=true:=bne_iff_ne.2 (by omega)
   rw [h2,I2 h]
   rfl
 ·cases hq
theorem Jn (l q:List Ty) (i:Int):Av prog (Ab [(159,.rd1 Nf)]) (Ab [(4,FM)]) 0 (body f117 0) FM ([.sl TCd l,.sl TCd q,.j i],[]) =
 ((ifB (decide (i<(↑l.length:Int))) (ifT (decide ((0:Int)<=i)&&decide (i<(↑l.length:Int))) (Ak l[i.toNat]? fun z=>ifT (decide ((0:Int)<=i)&&decide (i
 < (↑q.length:Int))) (Ak q[i.toNat]? fun z_1=>ifB (!Gv (z.fst,z.snd.fst,z.snd.snd.fst,z.snd.snd.snd.fst,z.snd.snd.snd.snd.fst,z.snd.snd.snd.snd.snd.fst,())
 (z_1.fst,z_1.snd.fst,z_1.snd.snd.fst,z_1.snd.snd.snd.fst,z_1.snd.snd.snd.snd.fst,z_1.snd.snd.snd.snd.snd.fst,())) (some (Ex.ret,[V.b false],[])) (some (Ex.normal,
 [V.sl TCd l,V.sl TCd q,V.j (i64.wrap (i+(1:Int)))],[]))))) (some (Ex.exit 0,[],[]))):_):=by kernel_rfl
theorem Sl (l q:List Ty):Aw prog (Ab [(159,.rd1 Nf)]) (Ab [(4,FM)]) f117 [.sl TCd l,.sl TCd q] [] =
 ((ifB ((↑l.length:Int) != (↑q.length:Int)) (some (V.b false,[])) (ifT (decide ((0:Int)<=(0:Int)/\0<=l.length/\l.length=q.length/\l.length<=maxI))
 (ifB (eqL Gv (drop 0 l) (drop 0 q)) (some (V.b true,[])) (some (V.b false,[]))))):_):=by kernel_rfl
theorem Lp (l q:List Ty) (hl:l.length<=maxI) (hq:l.length=q.length) : ∀ (j i:Nat),i+j=l.length->∀ ex d,(Br.br (eqL Gv (l.drop i) (q.drop i)) (.leaf (.exit 0,([],[]))) (.leaf (.ret,([.b false],[]))):Br (Ex×Dt)).run=some (ex,d)->Runs prog (Ab [(159,.rd1 Nf)]) (Ab [(4,FM)]) 0 (body f117 0) FM ([.sl TCd l,.sl TCd q,.j (i:Int)],[]) ex d
 | 0,i,hi,ex,d,h=>by
  have hr:=Jn l q i
  rw [Ac (dcF (by omega))] at hr
  rw [drop_eq_nil_of_le (by omega),drop_eq_nil_of_le (by omega),eqL] at h
  have h8:=Ao h
  obtain ⟨rfl,rfl⟩:=Prod.mk.inj h8
  exact .stop _ _ _ hr (by simp)
 | j+1,i,hi,ex,d,h=>by
  have hM:maxI=9223372036854775807:=rfl
  have hlt:i<l.length:=by omega
  have hlq:i<q.length:=by omega
  have hr:=Jn l q i
  rw [Ag (dcT (by omega)),Aa (by simp only [anE,dcE]; omega),ntN,gtE hlt,Am,Aa (by simp only [anE,dcE]; omega),gtE hlq,Am,Ap (n:=i) (by omega)] at hr
  rw [drop_eq_getElem_cons hlt,drop_eq_getElem_cons hlq,eqL] at h
  have e : ∀ x y:Ty,Gv (x.1,x.2.1,x.2.2.1,x.2.2.2.1,x.2.2.2.2.1,x.2.2.2.2.2.1,()) (y.1,y.2.1,y.2.2.1,y.2.2.2.1,y.2.2.2.2.1,y.2.2.2.2.2.1,())=Gv x y:=fun x y=>rfl
  rw [e] at hr
  cases h1:Gv l[i] q[i] with
  | false=>
   rw [h1] at hr h
   have h8:=Ao h
   obtain ⟨rfl,rfl⟩:=Prod.mk.inj h8
   exact .stop _ _ _ hr (by simp)
  | true=>
   rw [h1] at hr h
   exact .step _ _ _ _ hr (Lp l q hl hq j (i+1) (by omega) ex d h)
theorem UK:Af prog 117 (Ent.rd1 Sm).F:=by
 refine Ae (kc func159 XD KnowsL.nil).knows (Λ:=(Ab [(4,FM)])) func117 (c:=f117.body.getD .skip) (by kernel_rfl) fun vs bs r hq hv hb=>?_
 unfold Ent.F Sm at hq
 dsimp only at hq
 split at hq
 ·rename_i l q
  obtain ⟨hc,hx⟩:=Ad hq
  have hc:=of_decide_eq_true hc
  have hok:As prog (Ab [(159,.rd1 Nf)]) (Ab [(4,FM)]) 0 (f117.body.getD .skip):=by
   refine An (a:=body f117 0) (by kernel_rfl) fun d ex d' h=>?_
   unfold FM at h
   dsimp only at h
   split at h
   ·rename_i l q i
    obtain ⟨hc,hx⟩:=Ad h
    obtain ⟨a0,a1,a2,a3⟩:=of_decide_eq_true hc
    obtain ⟨i,rfl⟩:=eq_ofNat_of_zero_le a0
    simp only [ntN] at a1 hx
    exact Lp l q a3 a2 (l.length-i) i (by omega) ex d' hx
   ·cases h
  refine ⟨hok,(Sl l q).trans (Eq.trans ?_ hx)⟩
  show _=some _
  by_cases h:l.length=q.length
  ·have h2:((l.length:Int) != (q.length:Int))=false:=bne_eq_false_iff_eq.2 (by omega)
   rw [h2,AQ,Aa (dcT ⟨by omega,by omega,h,hc⟩),drop_zero,drop_zero]
   cases eqL Gv l q<;>rfl
  ·have h2:((l.length:Int) != (q.length:Int))=true:=bne_iff_ne.2 (by omega)
   rw [h2,I2 h]
   rfl
 ·cases hq
theorem Jm (l q:List Wt) (i:Int):Av prog (Ab [(158,.rd1 Nb)]) (Ab [(4,FL)]) 0 (body f116 0) FL ([.sl WCd l,.sl WCd q,.j i],[]) =
 ((ifB (decide (i<(↑l.length:Int))) (ifT (decide ((0:Int)<=i)&&decide (i<(↑l.length:Int))) (Ak l[i.toNat]? fun z=>ifT (decide ((0:Int)<=i)&&decide (i
 < (↑q.length:Int))) (Ak q[i.toNat]? fun z_1=>ifB (!Gu (z.fst,z.snd.fst,z.snd.snd.fst,z.snd.snd.snd.fst,z.snd.snd.snd.snd.fst,z.snd.snd.snd.snd.snd.fst,())
 (z_1.fst,z_1.snd.fst,z_1.snd.snd.fst,z_1.snd.snd.snd.fst,z_1.snd.snd.snd.snd.fst,z_1.snd.snd.snd.snd.snd.fst,())) (some (Ex.ret,[V.b false],[])) (some (Ex.normal,
 [V.sl WCd l,V.sl WCd q,V.j (i64.wrap (i+(1:Int)))],[]))))) (some (Ex.exit 0,[],[]))):_):=by kernel_rfl
theorem Sj (l q:List Wt):Aw prog (Ab [(158,.rd1 Nb)]) (Ab [(4,FL)]) f116 [.sl WCd l,.sl WCd q] [] =
 ((ifB ((↑l.length:Int) != (↑q.length:Int)) (some (V.b false,[])) (ifT (decide ((0:Int)<=(0:Int)/\0<=l.length/\l.length=q.length/\l.length<=maxI))
 (ifB (eqL Gu (drop 0 l) (drop 0 q)) (some (V.b true,[])) (some (V.b false,[]))))):_):=by kernel_rfl
theorem Lo (l q:List Wt) (hl:l.length<=maxI) (hq:l.length=q.length) : ∀ (j i:Nat),i+j=l.length->∀ ex d,(Br.br (eqL Gu (l.drop i) (q.drop i)) (.leaf (.exit 0,([],[]))) (.leaf (.ret,([.b false],[]))):Br (Ex×Dt)).run=some (ex,d)->Runs prog (Ab [(158,.rd1 Nb)]) (Ab [(4,FL)]) 0 (body f116 0) FL ([.sl WCd l,.sl WCd q,.j (i:Int)],[]) ex d
 | 0,i,hi,ex,d,h=>by
  have hr:=Jm l q i
  rw [Ac (dcF (by omega))] at hr
  rw [drop_eq_nil_of_le (by omega),drop_eq_nil_of_le (by omega),eqL] at h
  have h8:=Ao h
  obtain ⟨rfl,rfl⟩:=Prod.mk.inj h8
  exact .stop _ _ _ hr (by simp)
 | j+1,i,hi,ex,d,h=>by
  have hM:maxI=9223372036854775807:=rfl
  have hlt:i<l.length:=by omega
  have hlq:i<q.length:=by omega
  have hr:=Jm l q i
  rw [Ag (dcT (by omega)),Aa (by simp only [anE,dcE]; omega),ntN,gtE hlt,Am,Aa (by simp only [anE,dcE]; omega),gtE hlq,Am,Ap (n:=i) (by omega)] at hr
  rw [drop_eq_getElem_cons hlt,drop_eq_getElem_cons hlq,eqL] at h
  have e : ∀ x y:Wt,Gu (x.1,x.2.1,x.2.2.1,x.2.2.2.1,x.2.2.2.2.1,x.2.2.2.2.2.1,()) (y.1,y.2.1,y.2.2.1,y.2.2.2.1,y.2.2.2.2.1,y.2.2.2.2.2.1,())=Gu x y:=fun x y=>rfl
  rw [e] at hr
  cases h1:Gu l[i] q[i] with
  | false=>
   rw [h1] at hr h
   have h8:=Ao h
   obtain ⟨rfl,rfl⟩:=Prod.mk.inj h8
   exact .stop _ _ _ hr (by simp)
  | true=>
   rw [h1] at hr h
   exact .step _ _ _ _ hr (Lo l q hl hq j (i+1) (by omega) ex d h)
theorem UH:Af prog 116 (Ent.rd1 Sk).F:=by
 refine Ae (kc func158 XC KnowsL.nil).knows (Λ:=(Ab [(4,FL)])) func116 (c:=f116.body.getD .skip) (by kernel_rfl) fun vs bs r hq hv hb=>?_
 unfold Ent.F Sk at hq
 dsimp only at hq
 split at hq
 ·rename_i l q
  obtain ⟨hc,hx⟩:=Ad hq
  have hc:=of_decide_eq_true hc
  have hok:As prog (Ab [(158,.rd1 Nb)]) (Ab [(4,FL)]) 0 (f116.body.getD .skip):=by
   refine An (a:=body f116 0) (by kernel_rfl) fun d ex d' h=>?_
   unfold FL at h
   dsimp only at h
   split at h
   ·rename_i l q i
    obtain ⟨hc,hx⟩:=Ad h
    obtain ⟨a0,a1,a2,a3⟩:=of_decide_eq_true hc
    obtain ⟨i,rfl⟩:=eq_ofNat_of_zero_le a0
    simp only [ntN] at a1 hx
    exact Lo l q a3 a2 (l.length-i) i (by omega) ex d' hx
   ·cases h
  refine ⟨hok,(Sj l q).trans (Eq.trans ?_ hx)⟩
  show _=some _
  by_cases h:l.length=q.length
  ·have h2:((l.length:Int) != (q.length:Int))=false:=bne_eq_false_iff_eq.2 (by omega)
   rw [h2,AQ,Aa (dcT ⟨by omega,by omega,h,hc⟩),drop_zero,drop_zero]
   cases eqL Gu l q<;>rfl
  ·have h2:((l.length:Int) != (q.length:Int))=true:=bne_iff_ne.2 (by omega)
   rw [h2,I2 h]
   rfl
 ·cases hq
def GF (x y:List Ty×Unit):Bool:=eqL Gv x.1 y.1
def FK (x:List Ty×Unit):Bool:=decide (x.1.length<=maxI)
def Ot:Gm
 | [.agg [.sl TCd a0],.agg [.sl TCd b0]],[]=>.need (FK (a0,())) (.leaf (.b (GF (a0,()) (b0,())),[]))
 | _,_=>.no
def Nj (x y:List Wt×Unit):Bool:=eqL Gu x.1 y.1
def Ln (x:List Wt×Unit):Bool:=decide (x.1.length<=maxI)
def Su:Gm
 | [.agg [.sl WCd a0],.agg [.sl WCd b0]],[]=>.need (Ln (a0,())) (.leaf (.b (Nj (a0,()) (b0,())),[]))
 | _,_=>.no
def Gw (x y:Tp):Bool:=x.1==y.1&&(GF x.2.1 y.2.1&&x.2.2.1==y.2.2.1)
def Ez (x:Tp):Bool:=FK x.2.1
def Ng:Gm
 | [.agg [.s a0,.sl TCd a1,.i .i64 a2],.agg [.s b0,.sl TCd b1,.i .i64 b2]],[]=>.need (Ez (a0,(a1,()),a2,())) (.leaf (.b (Gw (a0,(a1,()),a2,()) (b0,(b1,()),b2,())),[]))
 | _,_=>.no
def EX (x y:Fa):Bool:=x.1==y.1&&(x.2.1==y.2.1&&(Nj x.2.2.1 y.2.2.1&&(GF x.2.2.2.1 y.2.2.2.1&&(eqL Gx x.2.2.2.2.1 y.2.2.2.2.1&&x.2.2.2.2.2.1==y.2.2.2.2.2.1))))
def Dv (x:Fa):Bool:=Ln x.2.2.1&&(FK x.2.2.2.1&&decide (x.2.2.2.2.1.length<=maxI))
def Lt:Gm
 | [.agg [.i .i64 a0,.s a1,.sl WCd a2,.sl TCd a3,.sl NTd a4,.i .i64 a5],.agg [.i .i64 b0,.s b1,.sl WCd b2,.sl TCd b3,.sl NTd b4,.i .i64 b5]],[]=>.need (Dv (a0,a1,(a2,()),(a3,()),a4,a5,())) (.leaf (.b (EX (a0,a1,(a2,()),(a3,()),a4,a5,()) (b0,b1,(b2,()),(b3,()),b4,b5,())),[]))
 | _,_=>.no
def FN:LoopEnt:=⟨27,[0,1,5],[],[4],fun
 | ([.sl TPd l,.sl TPd q,.i .i64 i],[])=>.need (decide (0<=i/\i.toNat<=l.length/\l.length=q.length/\l.length<=maxI)&&l.all Ez) (.br (eqL Gw (l.drop i.toNat) (q.drop i.toNat)) (.leaf (.exit 0,([],[]))) (.leaf (.ret,([.b false],[]))))
 | _=>.no⟩
def So:Gm
 | [.sl TPd l,.sl TPd q],[]=>.need (decide (l.length<=maxI)&&l.all Ez) (.leaf (.b (eqL Gw l q),[]))
 | _,_=>.no
def FP:LoopEnt:=⟨27,[0,1,5],[],[4],fun
 | ([.sl FNd l,.sl FNd q,.i .i64 i],[])=>.need (decide (0<=i/\i.toNat<=l.length/\l.length=q.length/\l.length<=maxI)&&l.all Dv) (.br (eqL EX (l.drop i.toNat) (q.drop i.toNat)) (.leaf (.exit 0,([],[]))) (.leaf (.ret,([.b false],[]))))
 | _=>.no⟩
def Sw:Gm
 | [.sl FNd l,.sl FNd q],[]=>.need (decide (l.length<=maxI)&&l.all Dv) (.leaf (.b (eqL EX l q),[]))
 | _,_=>.no
def XJ (x y:List Tp×List Fa×Unit):Bool:=eqL Gw x.1 y.1&&eqL EX x.2.1 y.2.1
def Na (x:List Tp×List Fa×Unit):Bool:=(decide (x.1.length<=maxI)&&x.1.all Ez)&&(decide (x.2.1.length<=maxI)&&x.2.1.all Dv)
def XI:Gm
 | [.agg l,.agg q],[]=>(match l with
  | [.sl TPd a0,.sl FNd a1]=>(match q with
   | [.sl TPd b0,.sl FNd b1]=>.need (Na (a0,a1,())) (.leaf (.b (XJ (a0,a1,()) (b0,b1,())),[]))
   | _=>.no)
  | _=>.no)
 | _,_=>.no
theorem Sp (a0:List Ty) (b0:List Ty):Aw prog (Ab [(117,.rd1 Sm)]) (Ab []) f65 [.agg [.sl TCd a0],.agg [.sl TCd b0]] [] =
 ((ifT (decide (a0.length<=maxI)) (ifB (!eqL Gv a0 b0) (some (V.b false,[])) (some (V.b true,[])))):_):=by kernel_rfl
theorem Nh:Af prog 65 (Ent.rd1 Ot).F:=by
 refine Ae (kc func117 UK KnowsL.nil).knows (Λ:=Ab []) func65 (c:=f65.body.getD .skip) (by kernel_rfl) fun vs bs r hq hv hb=>?_
 unfold Ent.F Ot at hq
 dsimp only at hq
 split at hq
 ·rename_i a0 b0
  obtain ⟨hc,hx⟩:=Ad hq
  unfold FK at hc
  dsimp only at hc
  refine ⟨Ai _,(Sp a0 b0).trans (Eq.trans ?_ hx)⟩
  show _=some _
  unfold GF
  dsimp only
  rw [Aa hc]
  cases eqL Gv a0 b0<;>rfl
 ·cases hq
theorem Ss (a0:List Wt) (b0:List Wt):Aw prog (Ab [(116,.rd1 Sk)]) (Ab []) f64 [.agg [.sl WCd a0],.agg [.sl WCd b0]] [] =
 ((ifT (decide (a0.length<=maxI)) (ifB (!eqL Gu a0 b0) (some (V.b false,[])) (some (V.b true,[])))):_):=by kernel_rfl
theorem US:Af prog 64 (Ent.rd1 Su).F:=by
 refine Ae (kc func116 UH KnowsL.nil).knows (Λ:=Ab []) func64 (c:=f64.body.getD .skip) (by kernel_rfl) fun vs bs r hq hv hb=>?_
 unfold Ent.F Su at hq
 dsimp only at hq
 split at hq
 ·rename_i a0 b0
  obtain ⟨hc,hx⟩:=Ad hq
  unfold Ln at hc
  dsimp only at hc
  refine ⟨Ai _,(Ss a0 b0).trans (Eq.trans ?_ hx)⟩
  show _=some _
  unfold Nj
  dsimp only
  rw [Aa hc]
  cases eqL Gu a0 b0<;>rfl
 ·cases hq
theorem UN (a0:List UInt8) (a1:List Ty) (a2:Int) (b0:List UInt8) (b1:List Ty) (b2:Int):Aw prog (Ab [(65,.rd1 Ot)]) (Ab []) f56 [.agg [.s a0,.sl TCd a1,.j a2],.agg [.s b0,.sl TCd b1,.j b2]] [] =
 ((ifB (!a0==b0) (some (V.b false,[])) (ifT (FK (a1,())) (ifB (!GF (a1,()) (b1,())) (some (V.b false,[])) (ifB (a2 != b2) (some (V.b false,[])) (some (V.b
 true,[])))))):_):=by kernel_rfl
theorem XE:Af prog 56 (Ent.rd1 Ng).F:=by
 refine Ae (kc func65 Nh KnowsL.nil).knows (Λ:=Ab []) func56 (c:=f56.body.getD .skip) (by kernel_rfl) fun vs bs r hq hv hb=>?_
 unfold Ent.F Ng at hq
 dsimp only at hq
 split at hq
 ·rename_i a0 a1 a2 b0 b1 b2
  obtain ⟨hc,hx⟩:=Ad hq
  unfold Ez at hc
  dsimp only at hc
  refine ⟨Ai _,(UN a0 a1 a2 b0 b1 b2).trans (Eq.trans ?_ hx)⟩
  show _=some _
  unfold Gw
  dsimp only
  rw [Aa hc]
  unfold bne
  cases a0==b0<;>cases GF (a1,()) (b1,())<;>cases a2==b2<;>rfl
 ·cases hq
theorem UU (a0:Int) (a1:List UInt8) (a2:List Wt) (a3:List Ty) (a4:List Nt) (a5:Int) (b0:Int) (b1:List UInt8) (b2:List Wt) (b3:List Ty) (b4:List Nt) (b5:Int):Aw prog (Ab [(64,.rd1 Su),(65,.rd1 Ot),(66,.rd1 Sr)]) (Ab []) f29 [.agg [.j a0,.s a1,.sl WCd a2,.sl TCd a3,.sl NTd a4,.j a5],.agg [.j b0,.s b1,.sl WCd b2,.sl TCd b3,.sl NTd b4,.j b5]] [] =
 ((ifB (a0 != b0) (some (V.b false,[])) (ifB (!a1==b1) (some (V.b false,[])) (ifT (Ln (a2,())) (ifB (!Nj (a2,()) (b2,())) (some (V.b false,[])) (ifT (FK
 (a3,())) (ifB (!GF (a3,()) (b3,())) (some (V.b false,[])) (ifT (decide (a4.length<=maxI)) (ifB (!eqL Gx a4 b4) (some (V.b false,[])) (ifB (a5 != b5) (some (V.b
 false,[])) (some (V.b true,[]))))))))))):_):=by kernel_rfl
theorem PY:Af prog 29 (Ent.rd1 Lt).F:=by
 refine Ae (kc func64 US (kc func65 Nh (kc func66 UP KnowsL.nil))).knows (Λ:=Ab []) func29 (c:=f29.body.getD .skip) (by kernel_rfl) fun vs bs r hq hv hb=>?_
 unfold Ent.F Lt at hq
 dsimp only at hq
 split at hq
 ·rename_i a0 a1 a2 a3 a4 a5 b0 b1 b2 b3 b4 b5
  obtain ⟨hc,hx⟩:=Ad hq
  unfold Dv at hc
  dsimp only at hc
  refine ⟨Ai _,(UU a0 a1 a2 a3 a4 a5 b0 b1 b2 b3 b4 b5).trans (Eq.trans ?_ hx)⟩
  show _=some _
  unfold EX
  dsimp only
  rw [anE,anE] at hc
  rw [Aa hc.1,Aa hc.2.1,Aa hc.2.2]
  unfold bne
  cases a0==b0<;>cases a1==b1<;>cases Nj (a2,()) (b2,())<;>cases GF (a3,()) (b3,())<;>cases eqL Gx a4 b4<;>cases a5==b5<;>rfl
 ·cases hq
theorem Jo (l q:List Tp) (i:Int):Av prog (Ab [(56,.rd1 Ng)]) (Ab [(4,FN)]) 0 (body f23 0) FN ([.sl TPd l,.sl TPd q,.j i],[]) =
 ((ifB (decide (i<(↑l.length:Int))) (ifT (decide ((0:Int)<=i)&&decide (i<(↑l.length:Int))) (Ak l[i.toNat]? fun z=>ifT (decide ((0:Int)<=i)&&decide (i
 < (↑q.length:Int))) (Ak q[i.toNat]? fun z_1=>ifT (Ez (z.fst,(z.snd.fst.fst,()),z.snd.snd.fst,())) (ifB (!Gw (z.fst,(z.snd.fst.fst,()),z.snd.snd.fst,
 ()) (z_1.fst,(z_1.snd.fst.fst,()),z_1.snd.snd.fst,())) (some (Ex.ret,[V.b false],[])) (some (Ex.normal,[V.sl TPd l,V.sl TPd q,V.j (i64.wrap (i+(1
 : Int)))],[])))))) (some (Ex.exit 0,[],[]))):_):=by kernel_rfl
theorem Sn (l q:List Tp):Aw prog (Ab [(56,.rd1 Ng)]) (Ab [(4,FN)]) f23 [.sl TPd l,.sl TPd q] [] =
 ((ifB ((↑l.length:Int) != (↑q.length:Int)) (some (V.b false,[])) (ifT (decide ((0:Int)<=(0:Int)/\0<=l.length/\l.length=q.length/\l.length<=maxI)&&
 l.all Ez) (ifB (eqL Gw (drop 0 l) (drop 0 q)) (some (V.b true,[])) (some (V.b false,[]))))):_):=by kernel_rfl
theorem Lq (l q:List Tp) (hl:l.length<=maxI) (hq:l.length=q.length) (hn:l.all Ez=true) : ∀ (j i:Nat),i+j=l.length->∀ ex d,(Br.br (eqL Gw (l.drop i) (q.drop i)) (.leaf (.exit 0,([],[]))) (.leaf (.ret,([.b false],[]))):Br (Ex×Dt)).run=some (ex,d)->Runs prog (Ab [(56,.rd1 Ng)]) (Ab [(4,FN)]) 0 (body f23 0) FN ([.sl TPd l,.sl TPd q,.j (i:Int)],[]) ex d
 | 0,i,hi,ex,d,h=>by
  have hr:=Jo l q i
  rw [Ac (dcF (by omega))] at hr
  rw [drop_eq_nil_of_le (by omega),drop_eq_nil_of_le (by omega),eqL] at h
  have h8:=Ao h
  obtain ⟨rfl,rfl⟩:=Prod.mk.inj h8
  exact .stop _ _ _ hr (by simp)
 | j+1,i,hi,ex,d,h=>by
  have hM:maxI=9223372036854775807:=rfl
  have hlt:i<l.length:=by omega
  have hlq:i<q.length:=by omega
  have hr:=Jo l q i
  rw [Ag (dcT (by omega)),Aa (by simp only [anE,dcE]; omega),ntN,gtE hlt,Am,Aa (by simp only [anE,dcE]; omega),gtE hlq,Am,Ap (n:=i) (by omega)] at hr
  rw [drop_eq_getElem_cons hlt,drop_eq_getElem_cons hlq,eqL] at h
  have e : ∀ x y:Tp,Gw (x.1,(x.2.1.1,()),x.2.2.1,()) (y.1,(y.2.1.1,()),y.2.2.1,())=Gw x y:=fun x y=>rfl
  rw [e,show Ez (l[i].1,(l[i].2.1.1,()),l[i].2.2.1,())=true from all_eq_true.1 hn _ (getElem_mem hlt),Du] at hr
  cases h1:Gw l[i] q[i] with
  | false=>
   rw [h1] at hr h
   have h8:=Ao h
   obtain ⟨rfl,rfl⟩:=Prod.mk.inj h8
   exact .stop _ _ _ hr (by simp)
  | true=>
   rw [h1] at hr h
   exact .step _ _ _ _ hr (Lq l q hl hq hn j (i+1) (by omega) ex d h)
theorem UM:Af prog 23 (Ent.rd1 So).F:=by
 refine Ae (kc func56 XE KnowsL.nil).knows (Λ:=(Ab [(4,FN)])) func23 (c:=f23.body.getD .skip) (by kernel_rfl) fun vs bs r hq hv hb=>?_
 unfold Ent.F So at hq
 dsimp only at hq
 split at hq
 ·rename_i l q
  obtain ⟨hc,hx⟩:=Ad hq
  rw [anE,dcE] at hc
  obtain ⟨hc,hn⟩:=hc
  have hok:As prog (Ab [(56,.rd1 Ng)]) (Ab [(4,FN)]) 0 (f23.body.getD .skip):=by
   refine An (a:=body f23 0) (by kernel_rfl) fun d ex d' h=>?_
   unfold FN at h
   dsimp only at h
   split at h
   ·rename_i l q i
    obtain ⟨hc,hx⟩:=Ad h
    rw [anE,dcE] at hc
    obtain ⟨⟨a0,a1,a2,a3⟩,a4⟩:=hc
    obtain ⟨i,rfl⟩:=eq_ofNat_of_zero_le a0
    simp only [ntN] at a1 hx
    exact Lq l q a3 a2 a4 (l.length-i) i (by omega) ex d' hx
   ·cases h
  refine ⟨hok,(Sn l q).trans (Eq.trans ?_ hx)⟩
  show _=some _
  by_cases h:l.length=q.length
  ·have h2:((l.length:Int) != (q.length:Int))=false:=bne_eq_false_iff_eq.2 (by omega)
   rw [h2,AQ,Aa (by rw [anE]; exact ⟨dcT ⟨by omega,by omega,h,hc⟩,hn⟩),drop_zero,drop_zero]
   cases eqL Gw l q<;>rfl
  ·have h2:((l.length:Int) != (q.length:Int))=true:=bne_iff_ne.2 (by omega)
   rw [h2,I2 h]
   rfl
 ·cases hq
theorem Jq (l q:List Fa) (i:Int):Av prog (Ab [(29,.rd1 Lt)]) (Ab [(4,FP)]) 0 (body f44 0) FP ([.sl FNd l,.sl FNd q,.j i],[]) =
 ((ifB (decide (i<(↑l.length:Int))) (ifT (decide ((0:Int)<=i)&&decide (i<(↑l.length:Int))) (Ak l[i.toNat]? fun z=>ifT (decide ((0:Int)<=i)&&decide (i
 < (↑q.length:Int))) (Ak q[i.toNat]? fun z_1=>ifT (Dv (z.fst,z.snd.fst,(z.snd.snd.fst.fst,()),(z.snd.snd.snd.fst.fst,()),z.snd.snd.snd.snd.fst,
 z.snd.snd.snd.snd.snd.fst,())) (ifB (!EX (z.fst,z.snd.fst,(z.snd.snd.fst.fst,()),(z.snd.snd.snd.fst.fst,()),z.snd.snd.snd.snd.fst,z.snd.snd.snd.snd.snd.fst,())
 (z_1.fst,z_1.snd.fst,(z_1.snd.snd.fst.fst,()),(z_1.snd.snd.snd.fst.fst,()),z_1.snd.snd.snd.snd.fst,z_1.snd.snd.snd.snd.snd.fst,())) (some (Ex.ret,[V.b false],
 [])) (some (Ex.normal,[V.sl FNd l,V.sl FNd q,V.j (i64.wrap (i+(1:Int)))],[])))))) (some (Ex.exit 0,[],[]))):_):=by kernel_rfl
theorem Sv (l q:List Fa):Aw prog (Ab [(29,.rd1 Lt)]) (Ab [(4,FP)]) f44 [.sl FNd l,.sl FNd q] [] =
 ((ifB ((↑l.length:Int) != (↑q.length:Int)) (some (V.b false,[])) (ifT (decide ((0:Int)<=(0:Int)/\0<=l.length/\l.length=q.length/\l.length<=maxI)&&
 l.all Dv) (ifB (eqL EX (drop 0 l) (drop 0 q)) (some (V.b true,[])) (some (V.b false,[]))))):_):=by kernel_rfl
theorem Ls (l q:List Fa) (hl:l.length<=maxI) (hq:l.length=q.length) (hn:l.all Dv=true) : ∀ (j i:Nat),i+j=l.length->∀ ex d,(Br.br (eqL EX (l.drop i) (q.drop i)) (.leaf (.exit 0,([],[]))) (.leaf (.ret,([.b false],[]))):Br (Ex×Dt)).run=some (ex,d)->Runs prog (Ab [(29,.rd1 Lt)]) (Ab [(4,FP)]) 0 (body f44 0) FP ([.sl FNd l,.sl FNd q,.j (i:Int)],[]) ex d
 | 0,i,hi,ex,d,h=>by
  have hr:=Jq l q i
  rw [Ac (dcF (by omega))] at hr
  rw [drop_eq_nil_of_le (by omega),drop_eq_nil_of_le (by omega),eqL] at h
  have h8:=Ao h
  obtain ⟨rfl,rfl⟩:=Prod.mk.inj h8
  exact .stop _ _ _ hr (by simp)
 | j+1,i,hi,ex,d,h=>by
  have hM:maxI=9223372036854775807:=rfl
  have hlt:i<l.length:=by omega
  have hlq:i<q.length:=by omega
  have hr:=Jq l q i
  rw [Ag (dcT (by omega)),Aa (by simp only [anE,dcE]; omega),ntN,gtE hlt,Am,Aa (by simp only [anE,dcE]; omega),gtE hlq,Am,Ap (n:=i) (by omega)] at hr
  rw [drop_eq_getElem_cons hlt,drop_eq_getElem_cons hlq,eqL] at h
  have e : ∀ x y:Fa,EX (x.1,x.2.1,(x.2.2.1.1,()),(x.2.2.2.1.1,()),x.2.2.2.2.1,x.2.2.2.2.2.1,()) (y.1,y.2.1,(y.2.2.1.1,()),(y.2.2.2.1.1,()),y.2.2.2.2.1,y.2.2.2.2.2.1,())=EX x y:=fun x y=>rfl
  rw [e,show Dv (l[i].1,l[i].2.1,(l[i].2.2.1.1,()),(l[i].2.2.2.1.1,()),l[i].2.2.2.2.1,l[i].2.2.2.2.2.1,())=true from all_eq_true.1 hn _ (getElem_mem hlt),Du] at hr
  cases h1:EX l[i] q[i] with
  | false=>
   rw [h1] at hr h
   have h8:=Ao h
   obtain ⟨rfl,rfl⟩:=Prod.mk.inj h8
   exact .stop _ _ _ hr (by simp)
  | true=>
   rw [h1] at hr h
   exact .step _ _ _ _ hr (Ls l q hl hq hn j (i+1) (by omega) ex d h)
theorem UT:Af prog 44 (Ent.rd1 Sw).F:=by
 refine Ae (kc func29 PY KnowsL.nil).knows (Λ:=(Ab [(4,FP)])) func44 (c:=f44.body.getD .skip) (by kernel_rfl) fun vs bs r hq hv hb=>?_
 unfold Ent.F Sw at hq
 dsimp only at hq
 split at hq
 ·rename_i l q
  obtain ⟨hc,hx⟩:=Ad hq
  rw [anE,dcE] at hc
  obtain ⟨hc,hn⟩:=hc
  have hok:As prog (Ab [(29,.rd1 Lt)]) (Ab [(4,FP)]) 0 (f44.body.getD .skip):=by
   refine An (a:=body f44 0) (by kernel_rfl) fun d ex d' h=>?_
   unfold FP at h
   dsimp only at h
   split at h
   ·rename_i l q i
    obtain ⟨hc,hx⟩:=Ad h
    rw [anE,dcE] at hc
    obtain ⟨⟨a0,a1,a2,a3⟩,a4⟩:=hc
    obtain ⟨i,rfl⟩:=eq_ofNat_of_zero_le a0
    simp only [ntN] at a1 hx
    exact Ls l q a3 a2 a4 (l.length-i) i (by omega) ex d' hx
   ·cases h
  refine ⟨hok,(Sv l q).trans (Eq.trans ?_ hx)⟩
  show _=some _
  by_cases h:l.length=q.length
  ·have h2:((l.length:Int) != (q.length:Int))=false:=bne_eq_false_iff_eq.2 (by omega)
   rw [h2,AQ,Aa (by rw [anE]; exact ⟨dcT ⟨by omega,by omega,h,hc⟩,hn⟩),drop_zero,drop_zero]
   cases eqL EX l q<;>rfl
  ·have h2:((l.length:Int) != (q.length:Int))=true:=bne_iff_ne.2 (by omega)
   rw [h2,I2 h]
   rfl
 ·cases hq
theorem UV (a0:List Tp) (a1:List Fa) (b0:List Tp) (b1:List Fa):Aw prog (Ab [(23,.rd1 So),(44,.rd1 Sw)]) (Ab []) f13 [.agg [.sl TPd a0,.sl FNd a1],.agg [.sl TPd b0,.sl FNd b1]] [] =
 ((ifT (decide (a0.length<=maxI)&&a0.all Ez) (ifB (!eqL Gw a0 b0) (some (V.b false,[])) (ifT (decide (a1.length<=maxI)&&a1.all Dv) (ifB (!eqL EX a1 b1) (some
 (V.b false,[])) (some (V.b true,[])))))):_):=by kernel_rfl
theorem XH:Af prog 13 (Ent.rd1 XI).F:=by
 refine Ae (kc func23 UM (kc func44 UT KnowsL.nil)).knows (Λ:=Ab []) func13 (c:=f13.body.getD .skip) (by kernel_rfl) fun vs bs r hq hv hb=>?_
 unfold Ent.F XI at hq
 dsimp only at hq
 split at hq
 rotate_left
 ·cases hq
 split at hq
 rotate_left
 ·cases hq
 rename_i a0 a1
 split at hq
 ·rename_i b0 b1
  obtain ⟨hc,hx⟩:=Ad hq
  unfold Na at hc
  dsimp only at hc
  refine ⟨Ai _,(UV a0 a1 b0 b1).trans (Eq.trans ?_ hx)⟩
  show _=some _
  unfold XJ
  dsimp only
  rw [anE] at hc
  rw [Aa hc.1,Aa hc.2]
  cases eqL Gw a0 b0<;>cases eqL EX a1 b1<;>rfl
 ·cases hq
def JW:Gm
 | [.agg [.s a0,.i .i64 a1,.s a2]],[]=>.leaf (.agg [.s a0,.i .i64 a1,.s a2],[])
 | _,_=>.no
def EC:LoopEnt:=⟨23,[0,3,4],[3],[],fun
 | ([.sl NTd l,.ref 0 0 m,.i .i64 n],[some (.row false none NTd r)])=>
  .need (decide (0<=n/\m=l.length/\r.length=l.length/\n.toNat<=l.length/\l.length<=maxI)) (.leaf (.exit 0,([.ref 0 0 m],[some (.row false none NTd (r.take n.toNat++l.drop n.toNat))])))
 | _=>.no⟩
def QH:Gm
 | [.sl NTd l],[]=>.need (decide (l.length<=1000000000)) (.leaf (.ref 0 0 l.length,[some (.row false none NTd l)]))
 | _,_=>.no

def JT:Gm
 | [.agg [.i .i64 a0,.s a1,.i .i64 a2,.b a3,.i .i64 a4,.i .i64 a5]],[]=>.leaf (.agg [.i .i64 a0,.s a1,.i .i64 a2,.b a3,.i .i64 a4,.i .i64 a5],[])
 | _,_=>.no
def EB:LoopEnt:=⟨23,[0,3,4],[3],[],fun
 | ([.sl TCd l,.ref 0 0 m,.i .i64 n],[some (.row false none TCd r)])=>
  .need (decide (0<=n/\m=l.length/\r.length=l.length/\n.toNat<=l.length/\l.length<=maxI)) (.leaf (.exit 0,([.ref 0 0 m],[some (.row false none TCd (r.take n.toNat++l.drop n.toNat))])))
 | _=>.no⟩
def QD:Gm
 | [.sl TCd l],[]=>.need (decide (l.length<=1000000000)) (.leaf (.ref 0 0 l.length,[some (.row false none TCd l)]))
 | _,_=>.no

def JR:Gm
 | [.agg [.i .i64 a0,.i .i64 a1,.i .i64 a2,.s a3,.i .i64 a4,.i .i64 a5]],[]=>.leaf (.agg [.i .i64 a0,.i .i64 a1,.i .i64 a2,.s a3,.i .i64 a4,.i .i64 a5],[])
 | _,_=>.no
def EA:LoopEnt:=⟨23,[0,3,4],[3],[],fun
 | ([.sl WCd l,.ref 0 0 m,.i .i64 n],[some (.row false none WCd r)])=>
  .need (decide (0<=n/\m=l.length/\r.length=l.length/\n.toNat<=l.length/\l.length<=maxI)) (.leaf (.exit 0,([.ref 0 0 m],[some (.row false none WCd (r.take n.toNat++l.drop n.toNat))])))
 | _=>.no⟩
def QC:Gm
 | [.sl WCd l],[]=>.need (decide (l.length<=1000000000)) (.leaf (.ref 0 0 l.length,[some (.row false none WCd l)]))
 | _,_=>.no
theorem VD (a0:List UInt8) (a1:Int) (a2:List UInt8):Aw prog (Ab []) (Ab []) f167 [.agg [.s a0,.j a1,.s a2]] []=some (.agg [.s a0,.j a1,.s a2],[]):=by kernel_rfl
theorem Aed:Af prog 167 (Ent.rd1 JW).F:=by
 refine Ae (KnowsL.nil).knows (Λ:=Ab []) func167 (c:=f167.body.getD .skip) (by kernel_rfl) fun vs bs r h _ _=>?_
 unfold Ent.F JW at h
 dsimp only at h
 split at h
 ·exact ⟨Ai _,(VD _ _ _ ).trans (by cases h; rfl)⟩
 ·cases h
theorem IK (l r:List Nt) (m n:Nat):Av prog (Ab [(167,.rd1 JW)]) (Ab [(3,EC)]) 0 (body f129 0) EC ([.sl NTd l,.ref 0 0 m,.j n],[some (.row false none NTd r)]) =
 ((ifB (decide ((↑n:Int)<(↑l.length:Int))) (ifT (decide ((0:Int)<=(↑n:Int))&&decide ((↑n:Int)<(↑l.length:Int))) (Ak l[((↑n:Int)).toNat]? fun z=>ifT
 (decide ((0:Int)<=(↑n:Int))&&decide ((↑n:Int)<(↑m:Int))) (Ak r[0+((↑n:Int)).toNat]? fun z_1=>some (Ex.normal,[V.sl NTd l,V.ref 0 0 m,V.i
 .i64 (i64.wrap ((↑n:Int)+(1:Int)))],[some (Blk.row false none NTd (r.set (0+((↑n:Int)).toNat) (z.fst,z.snd.fst,z.snd.snd.fst,())))]))))
 (some (Ex.exit 0,[V.ref 0 0 m],[some (Blk.row false none NTd r)]))):_):=by kernel_rfl
theorem JV {l:List Nt} {m:Nat} (hm:m=l.length) (hx:l.length<=maxI) : ∀ (k n:Nat) (r:List Nt),n+k=l.length->r.length=l.length->
  Runs prog (Ab [(167,.rd1 JW)]) (Ab [(3,EC)]) 0 (body f129 0) EC ([.sl NTd l,.ref 0 0 m,.j n],[some (.row false none NTd r)]) (.exit 0) ([.ref 0 0 m],[some (.row false none NTd (r.take n++l.drop n))])
 | 0,n,r,hn,hr=>by
  refine .stop _ _ _ ((IK l r m n).trans ?_) (by simp)
  simp [show ¬n<l.length by omega,show r.take n=r from take_of_length_le (by omega),show l.drop n=[] from drop_eq_nil_of_le (by omega)]
 | k+1,n,r,hn,hr=>by
  have h1:n<l.length:=by omega
  have h2:n<r.length:=by omega
  have h3:n<m:=by omega
  have hq:=IK l r m n
  simp only [ntN,gtE h1,zero_add,gtE h2,Ap (n:=n) (by omega)] at hq
  refine .step _ _ _ (d1:=([.sl NTd l,.ref 0 0 m,.j ((n+1:Nat):Int)],[some (.row false none NTd (r.set n l[n]))])) (hq.trans ?_) ?_
  ·simp [h1,h2,h3]
  ·have:=JV hm hx k (n+1) (r.set n l[n]) (by omega) (by simp; omega)
   rw [CC h2,append_assoc,singleton_append,<-drop_eq_getElem_cons h1] at this
   exact this
theorem VC:As prog (Ab [(167,.rd1 JW)]) (Ab [(3,EC)]) 0 (f129.body.getD .skip):=by
 refine An (a:=body f129 0) (by kernel_rfl) fun d e d' h=>?_
 unfold EC at h
 dsimp only at h
 split at h
 ·obtain ⟨hc,h⟩:=Ad h
  have hc:=of_decide_eq_true hc
  obtain ⟨n,rfl⟩:=eq_ofNat_of_zero_le hc.1
  cases h
  exact JV hc.2.1 hc.2.2.2.2 _ n _ (add_sub_of_le hc.2.2.2.1) hc.2.2.1
 ·cases h
theorem T2 (l:List Nt) (hx:l.length<=1000000000):Aw prog (Ab [(167,.rd1 JW)]) (Ab [(3,EC)]) f129 [.sl NTd l] []=some (.ref 0 0 l.length,[some (.row false none NTd l)]):=by
 have e:Aw prog (Ab [(167,.rd1 JW)]) (Ab [(3,EC)]) f129 [.sl NTd l] [] =
  ((ifT (decide ((0:Int)<=(↑l.length:Int))&&decide ((↑l.length:Int)<=(↑l.length:Int))&&decide ((↑l.length:Int)*(↑(40:Nat):Int)<=(140737488355328:Int))
 && decide ((↑l.length:Int)<=(9223372036854775807:Int))) (ifT (decide ((0:Int)<=(0:Int)/\(↑l.length:Int).toNat=l.length/\(replicate (↑l.length :
 Int).toNat (Aj UInt8,(0:Int),Aj UInt8,())).length=l.length/\0<=l.length/\l.length<=maxI)) (some (V.ref 0 0 (↑l.length:Int).toNat,[some (Blk.row
 false none NTd (Aj NTd.den++drop 0 l))])))):_):=by kernel_rfl
 rw [e]
 have hx':l.length<=maxI:=le_trans hx (by decide)
 simp [hx']
 omega
theorem Aco:Af prog 129 (Ent.rd1 QH).F:=by
 refine Ae (kc func167 Aed KnowsL.nil).knows (Λ:=(Ab [(3,EC)])) func129 (c:=f129.body.getD .skip) (by kernel_rfl) fun vs bs r h hv hb=>?_
 unfold Ent.F QH at h
 dsimp only at h
 split at h
 ·rename_i l
  obtain ⟨hc,h⟩:=Ad h
  exact ⟨VC,(T2 l (of_decide_eq_true hc)).trans (by cases h; rfl)⟩
 ·cases h
theorem VA (a0:Int) (a1:List UInt8) (a2:Int) (a3:Bool) (a4 a5:Int):Aw prog (Ab []) (Ab []) f199 [.agg [.j a0,.s a1,.j a2,.b a3,.j a4,.j a5]] []=some (.agg [.j a0,.s a1,.j a2,.b a3,.j a4,.j a5],[]):=by kernel_rfl
theorem Aec:Af prog 199 (Ent.rd1 JT).F:=by
 refine Ae (KnowsL.nil).knows (Λ:=Ab []) func199 (c:=f199.body.getD .skip) (by kernel_rfl) fun vs bs r h _ _=>?_
 unfold Ent.F JT at h
 dsimp only at h
 split at h
 ·exact ⟨Ai _,(VA _ _ _ _ _ _ ).trans (by cases h; rfl)⟩
 ·cases h
theorem II (l r:List Ty) (m n:Nat):Av prog (Ab [(199,.rd1 JT)]) (Ab [(3,EB)]) 0 (body f156 0) EB ([.sl TCd l,.ref 0 0 m,.j n],[some (.row false none TCd r)]) =
 ((ifB (decide ((↑n:Int)<(↑l.length:Int))) (ifT (decide ((0:Int)<=(↑n:Int))&&decide ((↑n:Int)<(↑l.length:Int))) (Ak l[((↑n:Int)).toNat]? fun z=>ifT
 (decide ((0:Int)<=(↑n:Int))&&decide ((↑n:Int)<(↑m:Int))) (Ak r[0+((↑n:Int)).toNat]? fun z_1=>some (Ex.normal,[V.sl TCd l,V.ref 0 0 m,V.i
 .i64 (i64.wrap ((↑n:Int)+(1:Int)))],[some (Blk.row false none TCd (r.set (0+((↑n:Int)).toNat) (z.fst,z.snd.fst,z.snd.snd.fst,
 z.snd.snd.snd.fst,z.snd.snd.snd.snd.fst,z.snd.snd.snd.snd.snd.fst,())))])))) (some (Ex.exit 0,[V.ref 0 0 m],[some (Blk.row false none TCd r)]))):_):=by kernel_rfl
theorem JS {l:List Ty} {m:Nat} (hm:m=l.length) (hx:l.length<=maxI) : ∀ (k n:Nat) (r:List Ty),n+k=l.length->r.length=l.length->
  Runs prog (Ab [(199,.rd1 JT)]) (Ab [(3,EB)]) 0 (body f156 0) EB ([.sl TCd l,.ref 0 0 m,.j n],[some (.row false none TCd r)]) (.exit 0) ([.ref 0 0 m],[some (.row false none TCd (r.take n++l.drop n))])
 | 0,n,r,hn,hr=>by
  refine .stop _ _ _ ((II l r m n).trans ?_) (by simp)
  simp [show ¬n<l.length by omega,show r.take n=r from take_of_length_le (by omega),show l.drop n=[] from drop_eq_nil_of_le (by omega)]
 | k+1,n,r,hn,hr=>by
  have h1:n<l.length:=by omega
  have h2:n<r.length:=by omega
  have h3:n<m:=by omega
  have hq:=II l r m n
  simp only [ntN,gtE h1,zero_add,gtE h2,Ap (n:=n) (by omega)] at hq
  refine .step _ _ _ (d1:=([.sl TCd l,.ref 0 0 m,.j ((n+1:Nat):Int)],[some (.row false none TCd (r.set n l[n]))])) (hq.trans ?_) ?_
  ·simp [h1,h2,h3]
  ·have:=JS hm hx k (n+1) (r.set n l[n]) (by omega) (by simp; omega)
   rw [CC h2,append_assoc,singleton_append,<-drop_eq_getElem_cons h1] at this
   exact this
theorem V9:As prog (Ab [(199,.rd1 JT)]) (Ab [(3,EB)]) 0 (f156.body.getD .skip):=by
 refine An (a:=body f156 0) (by kernel_rfl) fun d e d' h=>?_
 unfold EB at h
 dsimp only at h
 split at h
 ·obtain ⟨hc,h⟩:=Ad h
  have hc:=of_decide_eq_true hc
  obtain ⟨n,rfl⟩:=eq_ofNat_of_zero_le hc.1
  cases h
  exact JS hc.2.1 hc.2.2.2.2 _ n _ (add_sub_of_le hc.2.2.2.1) hc.2.2.1
 ·cases h
theorem T0 (l:List Ty) (hx:l.length<=1000000000):Aw prog (Ab [(199,.rd1 JT)]) (Ab [(3,EB)]) f156 [.sl TCd l] []=some (.ref 0 0 l.length,[some (.row false none TCd l)]):=by
 have e:Aw prog (Ab [(199,.rd1 JT)]) (Ab [(3,EB)]) f156 [.sl TCd l] [] =
  ((ifT (decide ((0:Int)<=(↑l.length:Int))&&decide ((↑l.length:Int)<=(↑l.length:Int))&&decide ((↑l.length:Int)*(↑(56:Nat):Int)<=(140737488355328:Int))
 && decide ((↑l.length:Int)<=(9223372036854775807:Int))) (ifT (decide ((0:Int)<=(0:Int)/\(↑l.length:Int).toNat=l.length/\(replicate (↑l.length :
 Int).toNat ((0:Int),Aj UInt8,(0:Int),false,(0:Int),(0:Int),())).length=l.length/\0<=l.length/\l.length<=maxI)) (some (V.ref 0 0 (↑l.length :
 Int).toNat,[some (Blk.row false none TCd (Aj TCd.den++drop 0 l))])))):_):=by kernel_rfl
 rw [e]
 have hx':l.length<=maxI:=le_trans hx (by decide)
 simp [hx']
 omega
theorem Acm:Af prog 156 (Ent.rd1 QD).F:=by
 refine Ae (kc func199 Aec KnowsL.nil).knows (Λ:=(Ab [(3,EB)])) func156 (c:=f156.body.getD .skip) (by kernel_rfl) fun vs bs r h hv hb=>?_
 unfold Ent.F QD at h
 dsimp only at h
 split at h
 ·rename_i l
  obtain ⟨hc,h⟩:=Ad h
  exact ⟨V9,(T0 l (of_decide_eq_true hc)).trans (by cases h; rfl)⟩
 ·cases h
theorem V8 (a0 a1 a2:Int) (a3:List UInt8) (a4 a5:Int):Aw prog (Ab []) (Ab []) f201 [.agg [.j a0,.j a1,.j a2,.s a3,.j a4,.j a5]] []=some (.agg [.j a0,.j a1,.j a2,.s a3,.j a4,.j a5],[]):=by kernel_rfl
theorem Aeb:Af prog 201 (Ent.rd1 JR).F:=by
 refine Ae (KnowsL.nil).knows (Λ:=Ab []) func201 (c:=f201.body.getD .skip) (by kernel_rfl) fun vs bs r h _ _=>?_
 unfold Ent.F JR at h
 dsimp only at h
 split at h
 ·exact ⟨Ai _,(V8 _ _ _ _ _ _ ).trans (by cases h; rfl)⟩
 ·cases h
theorem IG (l r:List Wt) (m n:Nat):Av prog (Ab [(201,.rd1 JR)]) (Ab [(3,EA)]) 0 (body f166 0) EA ([.sl WCd l,.ref 0 0 m,.j n],[some (.row false none WCd r)]) =
 ((ifB (decide ((↑n:Int)<(↑l.length:Int))) (ifT (decide ((0:Int)<=(↑n:Int))&&decide ((↑n:Int)<(↑l.length:Int))) (Ak l[((↑n:Int)).toNat]? fun z=>ifT
 (decide ((0:Int)<=(↑n:Int))&&decide ((↑n:Int)<(↑m:Int))) (Ak r[0+((↑n:Int)).toNat]? fun z_1=>some (Ex.normal,[V.sl WCd l,V.ref 0 0 m,V.i
 .i64 (i64.wrap ((↑n:Int)+(1:Int)))],[some (Blk.row false none WCd (r.set (0+((↑n:Int)).toNat) (z.fst,z.snd.fst,z.snd.snd.fst,
 z.snd.snd.snd.fst,z.snd.snd.snd.snd.fst,z.snd.snd.snd.snd.snd.fst,())))])))) (some (Ex.exit 0,[V.ref 0 0 m],[some (Blk.row false none WCd r)]))):_):=by kernel_rfl
theorem JQ {l:List Wt} {m:Nat} (hm:m=l.length) (hx:l.length<=maxI) : ∀ (k n:Nat) (r:List Wt),n+k=l.length->r.length=l.length->
  Runs prog (Ab [(201,.rd1 JR)]) (Ab [(3,EA)]) 0 (body f166 0) EA ([.sl WCd l,.ref 0 0 m,.j n],[some (.row false none WCd r)]) (.exit 0) ([.ref 0 0 m],[some (.row false none WCd (r.take n++l.drop n))])
 | 0,n,r,hn,hr=>by
  refine .stop _ _ _ ((IG l r m n).trans ?_) (by simp)
  simp [show ¬n<l.length by omega,show r.take n=r from take_of_length_le (by omega),show l.drop n=[] from drop_eq_nil_of_le (by omega)]
 | k+1,n,r,hn,hr=>by
  have h1:n<l.length:=by omega
  have h2:n<r.length:=by omega
  have h3:n<m:=by omega
  have hq:=IG l r m n
  simp only [ntN,gtE h1,zero_add,gtE h2,Ap (n:=n) (by omega)] at hq
  refine .step _ _ _ (d1:=([.sl WCd l,.ref 0 0 m,.j ((n+1:Nat):Int)],[some (.row false none WCd (r.set n l[n]))])) (hq.trans ?_) ?_
  ·simp [h1,h2,h3]
  ·have:=JQ hm hx k (n+1) (r.set n l[n]) (by omega) (by simp; omega)
   rw [CC h2,append_assoc,singleton_append,<-drop_eq_getElem_cons h1] at this
   exact this
theorem V7:As prog (Ab [(201,.rd1 JR)]) (Ab [(3,EA)]) 0 (f166.body.getD .skip):=by
 refine An (a:=body f166 0) (by kernel_rfl) fun d e d' h=>?_
 unfold EA at h
 dsimp only at h
 split at h
 ·obtain ⟨hc,h⟩:=Ad h
  have hc:=of_decide_eq_true hc
  obtain ⟨n,rfl⟩:=eq_ofNat_of_zero_le hc.1
  cases h
  exact JQ hc.2.1 hc.2.2.2.2 _ n _ (add_sub_of_le hc.2.2.2.1) hc.2.2.1
 ·cases h
theorem Tz (l:List Wt) (hx:l.length<=1000000000):Aw prog (Ab [(201,.rd1 JR)]) (Ab [(3,EA)]) f166 [.sl WCd l] []=some (.ref 0 0 l.length,[some (.row false none WCd l)]):=by
 have e:Aw prog (Ab [(201,.rd1 JR)]) (Ab [(3,EA)]) f166 [.sl WCd l] [] =
  ((ifT (decide ((0:Int)<=(↑l.length:Int))&&decide ((↑l.length:Int)<=(↑l.length:Int))&&decide ((↑l.length:Int)*(↑(56:Nat):Int)<=(140737488355328:Int))
 && decide ((↑l.length:Int)<=(9223372036854775807:Int))) (ifT (decide ((0:Int)<=(0:Int)/\(↑l.length:Int).toNat=l.length/\(replicate (↑l.length :
 Int).toNat ((0:Int),(0:Int),(0:Int),Aj UInt8,(0:Int),(0:Int),())).length=l.length/\0<=l.length/\l.length<=maxI)) (some (V.ref 0 0
 (↑l.length:Int).toNat,[some (Blk.row false none WCd (Aj WCd.den++drop 0 l))])))):_):=by kernel_rfl
 rw [e]
 have hx':l.length<=maxI:=le_trans hx (by decide)
 simp [hx']
 omega
theorem Acl:Af prog 166 (Ent.rd1 QC).F:=by
 refine Ae (kc func201 Aeb KnowsL.nil).knows (Λ:=(Ab [(3,EA)])) func166 (c:=f166.body.getD .skip) (by kernel_rfl) fun vs bs r h hv hb=>?_
 unfold Ent.F QC at h
 dsimp only at h
 split at h
 ·rename_i l
  obtain ⟨hc,h⟩:=Ad h
  exact ⟨V7,(Tz l (of_decide_eq_true hc)).trans (by cases h; rfl)⟩
 ·cases h
def N3:Gm
 | [.agg [.sl TCd l]],[]=>.need (decide (l.length<=1000000000)) (.leaf (.agg [.ref 0 0 l.length],[some (.row false none TCd l)]))
 | _,_=>.no
def QJ:Gm
 | [.agg [.sl WCd l]],[]=>.need (decide (l.length<=1000000000)) (.leaf (.agg [.ref 0 0 l.length],[some (.row false none WCd l)]))
 | _,_=>.no
def Mb:Gm
 | [.agg [.s a,.sl TCd l,.i .i64 c]],[]=>.need (decide (l.length<=1000000000)) (.leaf (.agg [.s a,.ref 0 0 l.length,.i .i64 c],[some (.row false none TCd l)]))
 | _,_=>.no
def Md:Gm
 | [.agg [.i .i64 w,.s p,.sl WCd ws,.sl TCd v,.sl NTd b,.i .i64 c]],[]=>.need (decide (ws.length<=1000000000)&&(decide (v.length<=1000000000)&&decide (b.length<=1000000000))) (.leaf (.agg [.i .i64 w,.s p,.ref 0 0 ws.length,.ref 1 0 v.length,.ref 2 0 b.length,.i .i64 c],[some (.row false none WCd ws),some (.row false none TCd v),some (.row false none NTd b)]))
 | _,_=>.no
def DL (t:Tp):Bool:=decide (t.2.1.1.length<=1000000000)
def Fq:LoopEnt:=⟨23,[0,3,4],[3],[],fun
 | ([.sl TPd l,.ref 0 0 m,.i .i64 n],[some (.drow TPd r none)])=>.need (decide (0<=n/\m=l.length/\r.length=l.length/\n.toNat<=l.length/\l.length<=maxI)&&l.all DL) (.leaf (.exit 0,([.ref 0 0 m],[some (.drow TPd (r.take n.toNat++l.drop n.toNat) none)])))
 | _=>.no⟩
def QF:Gm
 | [.sl TPd l],[]=>.need (decide (l.length<=1000000000)&&l.all DL) (.leaf (.ref 0 0 l.length,[some (.drow TPd l none)]))
 | _,_=>.no
def D0 (t:Fa):Bool:=decide (t.2.2.1.1.length<=1000000000)&&(decide (t.2.2.2.1.1.length<=1000000000)&&decide (t.2.2.2.2.1.length<=1000000000))
def Fr:LoopEnt:=⟨23,[0,3,4],[3],[],fun
 | ([.sl FNd l,.ref 0 0 m,.i .i64 n],[some (.drow FNd r none)])=>.need (decide (0<=n/\m=l.length/\r.length=l.length/\n.toNat<=l.length/\l.length<=maxI)&&l.all D0) (.leaf (.exit 0,([.ref 0 0 m],[some (.drow FNd (r.take n.toNat++l.drop n.toNat) none)])))
 | _=>.no⟩
def QL:Gm
 | [.sl FNd l],[]=>.need (decide (l.length<=1000000000)&&l.all D0) (.leaf (.ref 0 0 l.length,[some (.drow FNd l none)]))
 | _,_=>.no
def VG:Gm
 | [.agg [.sl TPd ts,.sl FNd fs]],[]=>.need ((decide (ts.length<=1000000000)&&ts.all DL)&&(decide (fs.length<=1000000000)&&fs.all D0)) (.leaf (.agg [.ref 0 0 ts.length,.ref 1 0 fs.length],[some (.drow TPd ts none),some (.drow FNd fs none)]))
 | _,_=>.no
theorem QG (l:List Ty):Aw prog (Ab [(156,.rd1 QD)]) (Ab []) f108 [.agg [.sl TCd l]] [] =
 ((ifT (decide (l.length<=1000000000)) (some (V.agg [V.ref 0 0 l.length],[some (Blk.row false none TCd l)]))):_):=by kernel_rfl
theorem Mc:Af prog 108 (Ent.rd1 N3).F:=by
 refine Ae (kc func156 Acm KnowsL.nil).knows (Λ:=Ab []) func108 (c:=f108.body.getD .skip) (by kernel_rfl) fun vs bs r hq hv hb=>?_
 unfold Ent.F N3 at hq
 dsimp only at hq
 split at hq
 ·rename_i l
  obtain ⟨hc,hx⟩:=Ad hq
  refine ⟨Ai _,(QG l).trans (Eq.trans ?_ hx)⟩
  show _=some _
  rw [Aa hc]
 ·cases hq
theorem QI (l:List Wt):Aw prog (Ab [(166,.rd1 QC)]) (Ab []) f128 [.agg [.sl WCd l]] [] =
 ((ifT (decide (l.length<=1000000000)) (some (V.agg [V.ref 0 0 l.length],[some (Blk.row false none WCd l)]))):_):=by kernel_rfl
theorem T3:Af prog 128 (Ent.rd1 QJ).F:=by
 refine Ae (kc func166 Acl KnowsL.nil).knows (Λ:=Ab []) func128 (c:=f128.body.getD .skip) (by kernel_rfl) fun vs bs r hq hv hb=>?_
 unfold Ent.F QJ at hq
 dsimp only at hq
 split at hq
 ·rename_i l
  obtain ⟨hc,hx⟩:=Ad hq
  refine ⟨Ai _,(QI l).trans (Eq.trans ?_ hx)⟩
  show _=some _
  rw [Aa hc]
 ·cases hq
theorem T1 (a:List UInt8) (l:List Ty) (c:Int):Aw prog (Ab [(108,.rd1 N3)]) (Ab []) f52 [.agg [.s a,.sl TCd l,.j c]] [] =
 ((ifT (decide (l.length<=1000000000)) (some (V.agg [V.s a,V.ref 0 0 l.length,V.j c],[some (Blk.row false none TCd l)]))):_):=by kernel_rfl
theorem VB:Af prog 52 (Ent.rd1 Mb).F:=by
 refine Ae (kc func108 Mc KnowsL.nil).knows (Λ:=Ab []) func52 (c:=f52.body.getD .skip) (by kernel_rfl) fun vs bs r hq hv hb=>?_
 unfold Ent.F Mb at hq
 dsimp only at hq
 split at hq
 ·rename_i a l c
  obtain ⟨hc,hx⟩:=Ad hq
  refine ⟨Ai _,(T1 a l c).trans (Eq.trans ?_ hx)⟩
  show _=some _
  rw [Aa hc]
 ·cases hq
theorem T4 (w:Int) (p:List UInt8) (ws:List Wt) (v:List Ty) (b:List Nt) (c:Int):Aw prog (Ab [(128,.rd1 QJ),(108,.rd1 N3),(129,.rd1 QH)]) (Ab []) f85 [.agg [.j w,.s p,.sl WCd ws,.sl TCd v,.sl NTd b,.j c]] [] =
 ((ifT (decide (ws.length<=1000000000)) (ifT (decide (v.length<=1000000000)) (ifT (decide (b.length<=1000000000)) (some (V.agg [V.j w,V.s p,
 V.ref 0 0 ws.length,V.ref 1 0 v.length,V.ref 2 0 b.length,V.j c],[some (Blk.row false none WCd ws),some (Blk.row false none TCd v),some (Blk.row false none NTd
 b)]))))):_):=by kernel_rfl
theorem VE:Af prog 85 (Ent.rd1 Md).F:=by
 refine Ae (kc func128 T3 (kc func108 Mc (kc func129 Aco KnowsL.nil))).knows (Λ:=Ab []) func85 (c:=f85.body.getD .skip) (by kernel_rfl) fun vs bs r hq hv hb=>?_
 unfold Ent.F Md at hq
 dsimp only at hq
 split at hq
 ·rename_i w p ws v b c
  obtain ⟨hc,hx⟩:=Ad hq
  refine ⟨Ai _,(T4 w p ws v b c).trans (Eq.trans ?_ hx)⟩
  show _=some _
  rw [anE,anE] at hc
  rw [Aa hc.1,Aa hc.2.1,Aa hc.2.2]
 ·cases hq
theorem IJ (l r:List Tp) (m:Nat) (n:Int):Av prog (Ab [(52,.rd1 Mb)]) (Ab [(3,Fq)]) 0 (body f21 0) Fq ([.sl TPd l,.ref 0 0 m,.j n],[some (.drow TPd r none)]) =
 ((ifB (decide (n<(↑l.length:Int))) (ifT (decide ((0:Int)<=n)&&decide (n<(↑l.length:Int))) (Ak l[n.toNat]? fun z=>ifT (decide (List.length z.snd.fst.fst<=
 1000000000)) (ifT (decide ((0:Int)<=n)&&decide (n<(↑m:Int))) (Ak r[0+n.toNat]? fun z_1=>some (Ex.normal,[V.sl TPd l,V.ref 0 0 m,V.i
 .i64 (i64.wrap (n+(1:Int)))],[some (Blk.drow TPd (r.set (0+n.toNat) (z.fst,(take (List.length z.snd.fst.fst) (drop 0
 z.snd.fst.fst),()),z.snd.snd.fst,())) none)]))))) (some (Ex.exit 0,[V.ref 0 0 m],[some (Blk.drow TPd r none)]))):_):=by kernel_rfl
theorem QE (l:List Tp):Aw prog (Ab [(52,.rd1 Mb)]) (Ab [(3,Fq)]) f21 [.sl TPd l] [] =
 ((ifT (decide ((0:Int)<=(↑l.length:Int))&&decide ((↑l.length:Int)<=(↑l.length:Int))&&decide ((↑l.length:Int)*(↑(48:Nat):Int)<=(140737488355328:Int))
 && decide ((↑l.length:Int)<=(9223372036854775807:Int))) (ifT (decide ((0:Int)<=(0:Int)/\(↑l.length:Int).toNat=l.length/\(replicate (↑l.length :
 Int).toNat (Aj UInt8,(Aj TCd.den,()),(0:Int),())).length=l.length/\0<=l.length/\l.length<=maxI)&&l.all DL) (some (V.ref 0 0 (↑l.length :
 Int).toNat,[some (Blk.drow TPd (Aj TPd.den++drop 0 l) none)])))):_):=by kernel_rfl
theorem JU {l:List Tp} (hx:l.length<=maxI) (ho : ∀ z∈l,DL z=true) : ∀ (k n:Nat) (r:List Tp),n+k=l.length->r.length=l.length->
  Runs prog (Ab [(52,.rd1 Mb)]) (Ab [(3,Fq)]) 0 (body f21 0) Fq ([.sl TPd l,.ref 0 0 l.length,.j (n:Int)],[some (.drow TPd r none)]) (.exit 0) ([.ref 0 0 l.length],[some (.drow TPd (r.take n++l.drop n) none)])
 | 0,n,r,hn,hr=>by
  have hq:=IJ l r l.length n
  rw [Ac (dcF (by omega))] at hq
  rw [take_of_length_le (by omega),drop_eq_nil_of_le (by omega),append_nil]
  exact .stop _ _ _ hq (by simp)
 | k+1,n,r,hn,hr=>by
  have hM:maxI=9223372036854775807:=rfl
  have h1:n<l.length:=by omega
  have h2:n<r.length:=by omega
  have hq:=IJ l r l.length n
  have ho1:=ho _ (getElem_mem h1)
  have hs:=JU hx ho k (n+1) (r.set n l[n]) (by omega) (by simp; omega)
  rw [CC h2,append_assoc,singleton_append,<-drop_eq_getElem_cons h1] at hs
  rw [Ag (dcT (by omega)),Aa (by simp only [anE,dcE]; omega),ntN,gtE h1,Am,Ap (n:=n) (by omega)] at hq
  unfold DL at ho1
  generalize l[n]=z at hq ho1 hs
  obtain ⟨a,⟨l_,⟨⟩⟩,c,⟨⟩⟩:=z
  dsimp only at hq ho1
  rw [Aa ho1] at hq
  rw [Aa (by simp only [anE,dcE]; omega),zero_add,gtE h2,Am] at hq
  simp only [drop_zero,take_length] at hq
  exact .step _ _ _ _ hq hs
theorem Acn:Af prog 21 (Ent.rd1 QF).F:=by
 refine Ae (kc func52 VB KnowsL.nil).knows (Λ:=(Ab [(3,Fq)])) func21 (c:=f21.body.getD .skip) (by kernel_rfl) fun vs bs r hq hv hb=>?_
 unfold Ent.F QF at hq
 dsimp only at hq
 split at hq
 ·rename_i l
  obtain ⟨hc,hx⟩:=Ad hq
  rw [anE,dcE] at hc
  obtain ⟨h1,h2⟩:=hc
  have hM:maxI=9223372036854775807:=rfl
  have hok:As prog (Ab [(52,.rd1 Mb)]) (Ab [(3,Fq)]) 0 (f21.body.getD .skip):=by
   refine An (a:=body f21 0) (by kernel_rfl) fun d e d' h=>?_
   unfold Fq at h
   dsimp only at h
   split at h
   ·rename_i l m n r
    obtain ⟨hc,h⟩:=Ad h
    rw [anE,dcE] at hc
    obtain ⟨⟨a0,a1,a2,a3,a4⟩,a5⟩:=hc
    obtain ⟨n,rfl⟩:=eq_ofNat_of_zero_le a0
    subst a1
    cases h
    exact JU a4 (all_eq_true.1 a5) _ n _ (add_sub_of_le a3) a2
   ·cases h
  refine ⟨hok,(QE l).trans (Eq.trans ?_ hx)⟩
  show _=some _
  rw [Aa (by simp only [anE,dcE]; omega),Aa (by rw [anE]; exact ⟨dcT ⟨by omega,by simp,by simp,by omega,by omega⟩,h2⟩)]
  rfl
 ·cases hq
theorem IL (l r:List Fa) (m:Nat) (n:Int):Av prog (Ab [(85,.rd1 Md)]) (Ab [(3,Fr)]) 0 (body f40 0) Fr ([.sl FNd l,.ref 0 0 m,.j n],[some (.drow FNd r none)]) =
 ((ifB (decide (n<(↑l.length:Int))) (ifT (decide ((0:Int)<=n)&&decide (n<(↑l.length:Int))) (Ak l[n.toNat]? fun z=>ifT (decide (List.length
 z.snd.snd.fst.fst<=1000000000)&&(decide (List.length z.snd.snd.snd.fst.fst<=1000000000)&&decide (List.length z.snd.snd.snd.snd.fst<=(1000000000 :
 Nat)))) (ifT (decide ((0:Int)<=n)&&decide (n<(↑m:Int))) (Ak r[0+n.toNat]? fun z_1=>some (Ex.normal,[V.sl FNd l,V.ref 0 0 m,V.i .i64
 (i64.wrap (n+(1:Int)))],[some (Blk.drow FNd (r.set (0+n.toNat) (z.fst,z.snd.fst,(take (List.length z.snd.snd.fst.fst) (drop 0
 z.snd.snd.fst.fst),()),(take (List.length z.snd.snd.snd.fst.fst) (drop 0 z.snd.snd.snd.fst.fst),()),take (List.length z.snd.snd.snd.snd.fst)
 (drop 0 z.snd.snd.snd.snd.fst),z.snd.snd.snd.snd.snd.fst,())) none)]))))) (some (Ex.exit 0,[V.ref 0 0 m],[some (Blk.drow FNd r none)]))):_):=by kernel_rfl
theorem QK (l:List Fa):Aw prog (Ab [(85,.rd1 Md)]) (Ab [(3,Fr)]) f40 [.sl FNd l] [] =
 ((ifT (decide ((0:Int)<=(↑l.length:Int))&&decide ((↑l.length:Int)<=(↑l.length:Int))&&decide ((↑l.length:Int)*(↑(104:Nat):Int)<=(140737488355328 :
 Int))&&decide ((↑l.length:Int)<=(9223372036854775807:Int))) (ifT (decide ((0:Int)<=(0:Int)/\(↑l.length:Int).toNat=l.length/\(replicate (↑l.length :
 Int).toNat ((0:Int),Aj UInt8,(Aj WCd.den,()),(Aj TCd.den,()),Aj NTd.den,(0:Int),())).length=l.length/\0<=l.length/\l.length<=maxI)&&
 l.all D0) (some (V.ref 0 0 (↑l.length:Int).toNat,[some (Blk.drow FNd (Aj FNd.den++drop 0 l) none)])))):_):=by kernel_rfl
theorem JX {l:List Fa} (hx:l.length<=maxI) (ho : ∀ z∈l,D0 z=true) : ∀ (k n:Nat) (r:List Fa),n+k=l.length->r.length=l.length->
  Runs prog (Ab [(85,.rd1 Md)]) (Ab [(3,Fr)]) 0 (body f40 0) Fr ([.sl FNd l,.ref 0 0 l.length,.j (n:Int)],[some (.drow FNd r none)]) (.exit 0) ([.ref 0 0 l.length],[some (.drow FNd (r.take n++l.drop n) none)])
 | 0,n,r,hn,hr=>by
  have hq:=IL l r l.length n
  rw [Ac (dcF (by omega))] at hq
  rw [take_of_length_le (by omega),drop_eq_nil_of_le (by omega),append_nil]
  exact .stop _ _ _ hq (by simp)
 | k+1,n,r,hn,hr=>by
  have hM:maxI=9223372036854775807:=rfl
  have h1:n<l.length:=by omega
  have h2:n<r.length:=by omega
  have hq:=IL l r l.length n
  have ho1:=ho _ (getElem_mem h1)
  have hs:=JX hx ho k (n+1) (r.set n l[n]) (by omega) (by simp; omega)
  rw [CC h2,append_assoc,singleton_append,<-drop_eq_getElem_cons h1] at hs
  rw [Ag (dcT (by omega)),Aa (by simp only [anE,dcE]; omega),ntN,gtE h1,Am,Ap (n:=n) (by omega)] at hq
  unfold D0 at ho1
  generalize l[n]=z at hq ho1 hs
  obtain ⟨w_,p,⟨ws,⟨⟩⟩,⟨v,⟨⟩⟩,b,c,⟨⟩⟩:=z
  dsimp only at hq ho1
  rw [Aa ho1] at hq
  rw [Aa (by simp only [anE,dcE]; omega),zero_add,gtE h2,Am] at hq
  simp only [drop_zero,take_length] at hq
  exact .step _ _ _ _ hq hs
theorem Acp:Af prog 40 (Ent.rd1 QL).F:=by
 refine Ae (kc func85 VE KnowsL.nil).knows (Λ:=(Ab [(3,Fr)])) func40 (c:=f40.body.getD .skip) (by kernel_rfl) fun vs bs r hq hv hb=>?_
 unfold Ent.F QL at hq
 dsimp only at hq
 split at hq
 ·rename_i l
  obtain ⟨hc,hx⟩:=Ad hq
  rw [anE,dcE] at hc
  obtain ⟨h1,h2⟩:=hc
  have hM:maxI=9223372036854775807:=rfl
  have hok:As prog (Ab [(85,.rd1 Md)]) (Ab [(3,Fr)]) 0 (f40.body.getD .skip):=by
   refine An (a:=body f40 0) (by kernel_rfl) fun d e d' h=>?_
   unfold Fr at h
   dsimp only at h
   split at h
   ·rename_i l m n r
    obtain ⟨hc,h⟩:=Ad h
    rw [anE,dcE] at hc
    obtain ⟨⟨a0,a1,a2,a3,a4⟩,a5⟩:=hc
    obtain ⟨n,rfl⟩:=eq_ofNat_of_zero_le a0
    subst a1
    cases h
    exact JX a4 (all_eq_true.1 a5) _ n _ (add_sub_of_le a3) a2
   ·cases h
  refine ⟨hok,(QK l).trans (Eq.trans ?_ hx)⟩
  show _=some _
  rw [Aa (by simp only [anE,dcE]; omega),Aa (by rw [anE]; exact ⟨dcT ⟨by omega,by simp,by simp,by omega,by omega⟩,h2⟩)]
  rfl
 ·cases hq
theorem T5 (ts:List Tp) (fs:List Fa):Aw prog (Ab [(21,.rd1 QF),(40,.rd1 QL)]) (Ab []) f11 [.agg [.sl TPd ts,.sl FNd fs]] [] =
 ((ifT (decide (ts.length<=1000000000)&&ts.all DL) (ifT (decide (fs.length<=1000000000)&&fs.all D0) (some (V.agg [V.ref 0 0 ts.length,V.ref 1 0
 fs.length],[some (Blk.drow TPd ts none),some (Blk.drow FNd fs none)])))):_):=by kernel_rfl
theorem VF:Af prog 11 (Ent.rd1 VG).F:=by
 refine Ae (kc func21 Acn (kc func40 Acp KnowsL.nil)).knows (Λ:=Ab []) func11 (c:=f11.body.getD .skip) (by kernel_rfl) fun vs bs r hq hv hb=>?_
 unfold Ent.F VG at hq
 dsimp only at hq
 split at hq
 ·rename_i ts fs
  obtain ⟨hc,hx⟩:=Ad hq
  refine ⟨Ai _,(T5 ts fs).trans (Eq.trans ?_ hx)⟩
  show _=some _
  rw [anE] at hc
  rw [Aa hc.1,Aa hc.2]
 ·cases hq








def LG (ts:List Tp) (fs:List Fa):Int:=BT CY ts+BT D5 fs
def WR:Gm
 | [.agg [.ref 0 0 m,.ref 1 0 n],.i .i64 k],[.drow TPd ts none,.drow FNd fs none]=>.need (decide (m=ts.length/\n=fs.length/\0<=k/\k+LG ts fs<=lim)) (.leaf (.i .i64 (k+LG ts fs),[some (.drow TPd (mkL Rz CY k ts) none),some (.drow FNd (mkL R8 D5 (k+BT CY ts) fs) none)]))
 | _,_=>.no
theorem Ho {α:Type} (w:α->Nat) : ∀ {l:List α} {x:α},x∈l->w x<=(l.map w).sum
 | y::l,x,h=>by
  rw [map_cons,sum_cons]
  rcases List.mem_cons.1 h with rfl | h
  ·omega
  ·have:=Ho w h; omega
theorem ZS {l:List Ty} (h:G0 l=true):nmL l=true:=by
 unfold nmL
 rw [all_eq_true]
 intro x hx
 have:=(Ig h).2 x hx
 unfold Pe at this
 exact this
theorem V4 {t:Tp} (ho:NV t=true) (hw:wTp t<=1048576):EE t=true/\Ez t=true/\DL t=true:=by
 have hM:maxI=9223372036854775807:=rfl
 unfold wTp Ef Hj at hw
 unfold NV G1 at ho
 rw [anE,dcE] at ho
 have hn:=ZS ho.2
 unfold EE Ez FK DL
 simp only [anE,dcE]
 refine ⟨⟨by omega,by omega,hn⟩,by omega,by omega⟩
theorem Aa4 {b:List Nt} (hw:HZ b<=1048576):Hy b=true:=by
 unfold HZ Dn at hw
 unfold Hy
 rw [anE,dcE,all_eq_true]
 refine ⟨by omega,fun n hn=>?_⟩
 have:=Ho wNt hn
 unfold wNt at this hw
 exact dcT (by omega)
theorem XB {f:Fa} (ho:NW f=true) (hw:wFa f<=1048576):Jv f=true/\Dv f=true/\D0 f=true:=by
 have hM:maxI=9223372036854775807:=rfl
 unfold wFa Ef E7 at hw
 unfold NW M2 G1 at ho
 simp only [anE,dcE] at ho
 have hn:=ZS ho.2.2.1
 have hb:=Aa4 (b:=f.2.2.2.2.1) (by omega)
 unfold Jt Hj HZ at hw
 unfold Jv Dv FK Ln D0
 simp only [anE,dcE]
 refine ⟨⟨⟨by omega,by omega⟩,hn,hb⟩,⟨by omega,by omega,by omega⟩,by omega,by omega,by omega⟩
theorem Qm {ts:List Tp} {fs:List Fa} (ho:NX (ts,fs,())=true) (hw:wBk (ts,fs,())<=1048576):N8 ts fs=true/\Na (ts,fs,())=true/\((decide (ts.length<=1000000000)&&ts.all DL)&&(decide (fs.length<=1000000000)&&fs.all D0))=true:=by
 have hM:maxI=9223372036854775807:=rfl
 unfold NX at ho
 rw [anE] at ho
 obtain ⟨h1,h2⟩:=Ih ho.1
 obtain ⟨h3,h4⟩:=Ii ho.2
 unfold wBk Hk JL at hw
 dsimp only at hw
 have a : ∀ t∈ts,EE t=true/\Ez t=true/\DL t=true:=fun t ht=>by
  have:=Ho wTp ht
  unfold C7 at hw
  exact V4 (h2 t ht) (by omega)
 have b : ∀ f∈fs,Jv f=true/\Dv f=true/\D0 f=true:=fun f hf=>by
  have:=Ho wFa hf
  unfold Cj at hw
  exact XB (h4 f hf) (by omega)
 unfold N8 Na
 simp only [anE,dcE,all_eq_true]
 exact ⟨⟨⟨by omega,by omega⟩,fun t ht=>(a t ht).1,fun f hf=>(b f hf).1⟩,⟨⟨by omega,fun t ht=>(a t ht).2.1⟩,by omega,fun f hf=>(b f hf).2.1⟩,⟨by omega,fun t ht=>(a t ht).2.2⟩,by omega,fun f hf=>(b f hf).2.2⟩
theorem UR (x:Nt):Gx x x=true:=by unfold Gx; simp
theorem Nc (x:Ty):Gv x x=true:=by unfold Gv; simp
theorem UJ (x:Wt):Gu x x=true:=by unfold Gu; simp
theorem UO (x:Tp):Gw x x=true:=by
 unfold Gw GF
 rw [DU fun y _=>Nc y]; simp
theorem Nk (x:Fa):EX x x=true:=by
 unfold EX Nj GF
 rw [DU fun y _=>Nc y,DU fun y _=>UJ y,DU fun y _=>UR y]; simp
theorem UW (ts:List Tp) (fs:List Fa):XJ (ts,fs,()) (ts,fs,())=true:=by
 unfold XJ
 rw [DU fun y _=>UO y,DU fun y _=>Nk y]; rfl
theorem Ui (ts:List Tp) (fs:List Fa) (m n:Nat) (k:Int):Aw prog (Ab [(24,.own Ry),(59,.own R7)]) (Ab []) f25 [.agg [.ref 0 0 m,.ref 1 0 n],.j k] [.drow TPd ts none,.drow FNd fs none] =
 ((ifT (decide (m=ts.length/\(0:Int)<=k/\k+BT CY ts<=lim)) (ifT (decide (n=fs.length/\(0:Int)<=k+BT CY ts/\k+BT CY ts+BT D5 fs<=lim))
 (some (V.j (k+BT CY ts+BT D5 fs),[some (Blk.drow TPd (mkL Rz CY k ts) none),some (Blk.drow FNd (mkL R8 D5 (k+BT CY ts) fs) none)])))):_):=by kernel_rfl
theorem M3 (l:List Tp):0<=BT CY l:=F3 K5 l
theorem M4 (l:List Fa):0<=BT D5 l:=F3 K6 l
theorem WQ:Af prog 25 (Ent.own WR).F:=by
 refine Ae (kc func24 Ac8 (kc func59 Adb KnowsL.nil)).knows (Λ:=Ab []) func25 (c:=f25.body.getD .skip) (by kernel_rfl) fun vs bs r hq hv hb=>?_
 unfold Ent.F WR at hq
 dsimp only at hq
 split at hq
 ·rename_i m n k ts fs
  obtain ⟨hc,hx⟩:=Ad hq
  obtain ⟨rfl,rfl,h0,hk⟩:=of_decide_eq_true hc
  refine ⟨Ai _,(Ui ts fs _ _ k).trans (Eq.trans ?_ hx)⟩
  have:=M3 ts
  have:=M4 fs
  unfold LG at hk ⊢
  try dsimp only [shr]
  rw [Aa (dcT ⟨by first | rfl | trivial,by omega,by omega⟩),Aa (dcT ⟨by first | rfl | trivial,by omega,by omega⟩),Int.add_assoc]
  rfl
 ·cases hq
theorem Pg : ∀ l:List Tp,BT CY l<=2*(l.length:Int)+6*(C7 l:Int)
 | []=>by simp [BT,C7]
 | x::l=>by
  have h:=Pg l
  have hx:(x.2.1.1.length:Int)<=(wTp x:Int):=by unfold wTp Ef Hj; omega
  have hs:C7 (x::l)=wTp x+C7 l:=by unfold C7; rw [map_cons,sum_cons]
  rw [BT,hs,List.length_cons]
  unfold CY at h ⊢
  push_cast
  omega
theorem Ph : ∀ l:List Fa,BT D5 l<=3*(l.length:Int)+6*(Cj l:Int)
 | []=>by simp [BT,Cj]
 | x::l=>by
  have h:=Ph l
  have hx:(x.2.2.1.1.length:Int)+(x.2.2.2.1.1.length:Int)+(x.2.2.2.2.1.length:Int)<=(wFa x:Int):=by unfold wFa Ef E7 Hj Jt HZ; push_cast; omega
  have hs:Cj (x::l)=wFa x+Cj l:=by unfold Cj; rw [map_cons,sum_cons]
  rw [BT,hs,List.length_cons]
  unfold D5 at h ⊢
  push_cast
  omega
def R5:Gm
 | [.agg [.ref 0 0 m],.i .i64 k],[.row false _ WCd l]=>.need (decide (m=l.length/\0<=k/\k+6*(l.length:Int)<=lim)) (.leaf (.i .i64 (k+6*(l.length:Int)),[some (.row false none WCd (A3 A8 6 k l.length))]))
 | _,_=>.no
def R3:Gm
 | [.agg [.ref 0 0 m],.i .i64 k],[.row false _ TCd l]=>.need (decide (m=l.length/\0<=k/\k+6*(l.length:Int)<=lim)) (.leaf (.i .i64 (k+6*(l.length:Int)),[some (.row false none TCd (A3 A6 6 k l.length))]))
 | _,_=>.no
def Sh:Gm
 | [.agg [.sl WCd l],.i .i64 k],[]=>.need (decide (0<=k/\k+6*(l.length:Int)<=lim)) (.br (Em l (A3 A8 6 k l.length)) (.leaf (.i .i64 (k+6*(l.length:Int)),[])) (.leaf (.i .i64 (-1),[])))
 | _,_=>.no
def Sf:Gm
 | [.agg [.sl TCd l],.i .i64 k],[]=>.need (decide (0<=k/\k+6*(l.length:Int)<=lim)) (.br (En l (A3 A6 6 k l.length)) (.leaf (.i .i64 (k+6*(l.length:Int)),[])) (.leaf (.i .i64 (-1),[])))
 | _,_=>.no
def Es (ws:List Wt) (v:List Ty) (b:List Nt):Int:=6*(ws.length:Int)+6*(v.length:Int)+3*(b.length:Int)
def mfW (k:Int) (ws:List Wt):List Wt:=A3 A8 6 k ws.length
def mfT (k:Int) (ws:List Wt) (v:List Ty):List Ty:=A3 A6 6 (k+6*(ws.length:Int)) v.length
def mfN (k:Int) (ws:List Wt) (v:List Ty) (b:List Nt):List Nt:=A3 AO 3 (k+6*(ws.length:Int)+6*(v.length:Int)) b.length
def WO:Gm
 | [.agg [.i .i64 _w,.s _p,.ref 0 0 m0,.ref 1 0 m1,.ref 2 0 m2,.i .i64 _t],.i .i64 k],[.row false _ WCd ws,.row false _ TCd v,.row false _ NTd b]=>.need (decide (m0=ws.length/\m1=v.length/\m2=b.length/\0<=k/\k+Es ws v b<=lim)) (.leaf (.i .i64 (k+Es ws v b),[some (.row false none WCd (mfW k ws)),some (.row false none TCd (mfT k ws v)),some (.row false none NTd (mfN k ws v b))]))
 | _,_=>.no
def hfB (k:Int) (ws:List Wt) (v:List Ty) (b:List Nt):Bool:=Em ws (mfW k ws)&&(En v (mfT k ws v)&&decide (b=mfN k ws v b))
def X0:Gm
 | [.agg [.i .i64 _w,.s _p,.sl WCd ws,.sl TCd v,.sl NTd b,.i .i64 _t],.i .i64 k],[]=>.need (decide (0<=k/\k+Es ws v b<=lim)) (.br (hfB k ws v b) (.leaf (.i .i64 (k+Es ws v b),[])) (.leaf (.i .i64 (-1),[])))
 | _,_=>.no
theorem R4 (m:Nat) (k:Int) (o:Option Bool) (l:List Wt):Aw prog (Ab [(111,.own Ge)]) (Ab []) f67 [.agg [.ref 0 0 m],.j k] [.row false o WCd l] =
 ((ifT (decide (0+m<=l.length/\(0:Int)<=k/\k+(6:Int)*(↑m:Int)<=lim)) (some (V.j (k+(6:Int)*(↑m:Int)),[some (Blk.row false none WCd
 (Aj WCd.den++A3 A8 (6:Int) k m++drop (0+m) l))]))):_):=by kernel_rfl
theorem Ada:Af prog 67 (Ent.own R5).F:=by
 refine Ae (kc func111 Pt KnowsL.nil).knows (Λ:=Ab []) func67 (c:=f67.body.getD .skip) (by kernel_rfl) fun vs bs r hq hv hb=>?_
 unfold Ent.F R5 at hq
 dsimp only at hq
 split at hq
 ·rename_i m k o l
  obtain ⟨hc,hx⟩:=Ad hq
  obtain ⟨rfl,h0,hk⟩:=of_decide_eq_true hc
  refine ⟨Ai _,(R4 _ k o l).trans (Eq.trans ?_ hx)⟩
  try dsimp only [shr]
  rw [Aa (dcT ⟨by omega,by omega,by omega⟩)]
  simp only [zero_add,take_zero,nil_append,drop_length,append_nil,AW]
  try rfl
 ·cases hq
theorem R2 (m:Nat) (k:Int) (o:Option Bool) (l:List Ty):Aw prog (Ab [(58,.own Et)]) (Ab []) f68 [.agg [.ref 0 0 m],.j k] [.row false o TCd l] =
 ((ifT (decide (0+m<=l.length/\(0:Int)<=k/\k+(6:Int)*(↑m:Int)<=lim)) (some (V.j (k+(6:Int)*(↑m:Int)),[some (Blk.row false none TCd
 (Aj TCd.den++A3 A6 (6:Int) k m++drop (0+m) l))]))):_):=by kernel_rfl
theorem Ac9:Af prog 68 (Ent.own R3).F:=by
 refine Ae (kc func58 KE KnowsL.nil).knows (Λ:=Ab []) func68 (c:=f68.body.getD .skip) (by kernel_rfl) fun vs bs r hq hv hb=>?_
 unfold Ent.F R3 at hq
 dsimp only at hq
 split at hq
 ·rename_i m k o l
  obtain ⟨hc,hx⟩:=Ad hq
  obtain ⟨rfl,h0,hk⟩:=of_decide_eq_true hc
  refine ⟨Ai _,(R2 _ k o l).trans (Eq.trans ?_ hx)⟩
  try dsimp only [shr]
  rw [Aa (dcT ⟨by omega,by omega,by omega⟩)]
  simp only [zero_add,take_zero,nil_append,drop_length,append_nil,AW]
  try rfl
 ·cases hq
theorem Sg (k:Int) (l:List Wt):Aw prog (Ab [(113,.rd1 Iu)]) (Ab []) f70 [.agg [.sl WCd l],.j k] [] =
 ((ifT (decide ((0:Int)<=k/\k+(6:Int)*(↑l.length:Int)<=lim)) (ifB (Em l (A3 A8 (6:Int) k l.length)) (ifB (decide (k+(6:Int)*(↑l.length :
 Int)<(0:Int))) (some (V.j (-1),[])) (some (V.j (k+(6:Int)*(↑l.length:Int)),[]))) (some (V.j (-1),[])))):_):=by kernel_rfl
theorem Adx:Af prog 70 (Ent.rd1 Sh).F:=by
 refine Ae (kc func113 Xw KnowsL.nil).knows (Λ:=Ab []) func70 (c:=f70.body.getD .skip) (by kernel_rfl) fun vs bs r hq hv hb=>?_
 unfold Ent.F Sh at hq
 dsimp only at hq
 split at hq
 ·rename_i l k
  obtain ⟨hc,hx⟩:=Ad hq
  obtain ⟨h0,hk⟩:=of_decide_eq_true hc
  refine ⟨Ai _,(Sg k l).trans (Eq.trans ?_ hx)⟩
  try dsimp only [shr]
  rw [Aa (dcT ⟨by omega,by omega⟩),Ac (dcF (show ¬k+6*(l.length:Int)<0 by omega))]
  cases Em l (A3 A8 6 k l.length)<;>rfl
 ·cases hq
theorem Se (k:Int) (l:List Ty):Aw prog (Ab [(112,.rd1 Iv)]) (Ab []) f71 [.agg [.sl TCd l],.j k] [] =
 ((ifT (decide ((0:Int)<=k/\k+(6:Int)*(↑l.length:Int)<=lim)) (ifB (En l (A3 A6 (6:Int) k l.length)) (ifB (decide (k+(6:Int)*(↑l.length :
 Int)<(0:Int))) (some (V.j (-1),[])) (some (V.j (k+(6:Int)*(↑l.length:Int)),[]))) (some (V.j (-1),[])))):_):=by kernel_rfl
theorem Adw:Af prog 71 (Ent.rd1 Sf).F:=by
 refine Ae (kc func112 Xx KnowsL.nil).knows (Λ:=Ab []) func71 (c:=f71.body.getD .skip) (by kernel_rfl) fun vs bs r hq hv hb=>?_
 unfold Ent.F Sf at hq
 dsimp only at hq
 split at hq
 ·rename_i l k
  obtain ⟨hc,hx⟩:=Ad hq
  obtain ⟨h0,hk⟩:=of_decide_eq_true hc
  refine ⟨Ai _,(Se k l).trans (Eq.trans ?_ hx)⟩
  try dsimp only [shr]
  rw [Aa (dcT ⟨by omega,by omega⟩),Ac (dcF (show ¬k+6*(l.length:Int)<0 by omega))]
  cases En l (A3 A6 6 k l.length)<;>rfl
 ·cases hq
theorem Uh (w:Int) (p:List UInt8) (m0 m1 m2:Nat) (t k:Int) (o0 o1 o2:Option Bool) (ws:List Wt) (v:List Ty) (b:List Nt):Aw prog (Ab [(67,.own R5),(68,.own R3),(69,.own Gf)]) (Ab []) f30 [.agg [.j w,.s p,.ref 0 0 m0,.ref 1 0 m1,.ref 2 0 m2,.j t],.j k] [.row false o0 WCd ws,.row false o1 TCd v,.row false o2 NTd b] =
 ((ifT (decide (m0=ws.length/\(0:Int)<=k/\k+(6:Int)*(↑ws.length:Int)<=lim)) (ifT (decide (m1=v.length/\(0:Int)<=k+(6:Int)*(↑ws.length:Int)/\k +
 (6:Int)*(↑ws.length:Int)+(6:Int)*(↑v.length:Int)<=lim)) (ifT (decide (0+m2<=b.length/\(0:Int)<=k+(6:Int)*(↑ws.length:Int)+(6 :
 Int)*(↑v.length:Int)/\k+(6:Int)*(↑ws.length:Int)+(6:Int)*(↑v.length:Int)+(3:Int)*(↑m2:Int)<=lim)) (some (V.j (k+(6:Int) *
 (↑ws.length:Int)+(6:Int)*(↑v.length:Int)+(3:Int)*(↑m2:Int)),[some (Blk.row false none WCd (A3 A8 (6:Int) k ws.length)),some (Blk.row false
 none TCd (A3 A6 (6:Int) (k+(6:Int)*(↑ws.length:Int)) v.length)),some (Blk.row false none NTd (Aj NTd.den++A3 AO (3:Int) (k+(6 :
 Int)*(↑ws.length:Int)+(6:Int)*(↑v.length:Int)) m2++drop (0+m2) b))]))))):_):=by kernel_rfl
theorem UB (w:Int) (p:List UInt8) (ws:List Wt) (v:List Ty) (b:List Nt) (t k:Int):Aw prog (Ab [(70,.rd1 Sh),(71,.rd1 Sf),(72,.rd1 Iw)]) (Ab []) f31 [.agg [.j w,.s p,.sl WCd ws,.sl TCd v,.sl NTd b,.j t],.j k] [] =
 ((ifT (decide ((0:Int)<=k/\k+(6:Int)*(↑ws.length:Int)<=lim)) (ifB (Em ws (A3 A8 (6:Int) k ws.length)) (ifB (decide (k+(6:Int)*(↑ws.length
 : Int)<(0:Int))) (some (V.j (-1),[])) (ifT (decide ((0:Int)<=k+(6:Int)*(↑ws.length:Int)/\k+(6:Int)*(↑ws.length:Int)+(6:Int)*(↑v.length
 : Int)<=lim)) (ifB (En v (A3 A6 (6:Int) (k+(6:Int)*(↑ws.length:Int)) v.length)) (ifB (decide (k+(6:Int)*(↑ws.length:Int)+(6:Int) *
 (↑v.length:Int)<(0:Int))) (some (V.j (-1),[])) (ifT (decide ((0:Int)<=k+(6:Int)*(↑ws.length:Int)+(6:Int)*(↑v.length:Int)/\k+(6:Int) *
 (↑ws.length:Int)+(6:Int)*(↑v.length:Int)+(3:Int)*(↑b.length:Int)<=lim)) (ifB (decide (b=A3 AO (3:Int) (k+(6:Int)*(↑ws.length:Int)
 + (6:Int)*(↑v.length:Int)) b.length)) (ifB (decide (k+(6:Int)*(↑ws.length:Int)+(6:Int)*(↑v.length:Int)+(3:Int)*(↑b.length:Int)<(0:Int)))
 (some (V.j (-1),[])) (some (V.j (k+(6:Int)*(↑ws.length:Int)+(6:Int)*(↑v.length:Int)+(3:Int)*(↑b.length:Int)),[]))) (some (V.i .i64
 (-1),[]))))) (some (V.j (-1),[]))))) (some (V.j (-1),[])))):_):=by kernel_rfl
theorem WN:Af prog 30 (Ent.own WO).F:=by
 refine Ae (kc func67 Ada (kc func68 Ac9 (kc func69 Px KnowsL.nil))).knows (Λ:=Ab []) func30 (c:=f30.body.getD .skip) (by kernel_rfl) fun vs bs r hq hv hb=>?_
 unfold Ent.F WO at hq
 dsimp only at hq
 split at hq
 ·rename_i w p m0 m1 m2 t k o0 ws o1 v o2 b
  obtain ⟨hc,hx⟩:=Ad hq
  obtain ⟨rfl,rfl,rfl,h0,hk⟩:=of_decide_eq_true hc
  refine ⟨Ai _,(Uh w p _ _ _ t k o0 o1 o2 ws v b).trans (Eq.trans ?_ hx)⟩
  try dsimp only [shr]
  unfold Es at hk ⊢
  unfold mfW mfT mfN
  rw [Aa (dcT ⟨by first | rfl | trivial,by omega,by omega⟩),Aa (dcT ⟨by first | rfl | trivial,by omega,by omega⟩),Aa (dcT ⟨by omega,by omega,by omega⟩)]
  simp only [zero_add,take_zero,nil_append,drop_length,append_nil,AW,Int.add_assoc]
  try rfl
 ·cases hq
theorem Xz:Af prog 31 (Ent.rd1 X0).F:=by
 refine Ae (kc func70 Adx (kc func71 Adw (kc func72 Xy KnowsL.nil))).knows (Λ:=Ab []) func31 (c:=f31.body.getD .skip) (by kernel_rfl) fun vs bs r hq hv hb=>?_
 unfold Ent.F X0 at hq
 dsimp only at hq
 split at hq
 ·rename_i w p ws v b t k
  obtain ⟨hc,hx⟩:=Ad hq
  obtain ⟨h0,hk⟩:=of_decide_eq_true hc
  refine ⟨Ai _,(UB w p ws v b t k).trans (Eq.trans ?_ hx)⟩
  try dsimp only [shr]
  unfold Es at hk ⊢
  unfold hfB mfW mfT mfN
  rw [Aa (dcT ⟨by omega,by omega⟩),Ac (dcF (show ¬k+6*(ws.length:Int)<0 by omega)),Aa (dcT ⟨by omega,by omega⟩),Ac (dcF (show ¬k+6*(ws.length:Int)+6*(v.length:Int)<0 by omega)),Aa (dcT ⟨by omega,by omega⟩),Ac (dcF (show ¬k+6*(ws.length:Int)+6*(v.length:Int)+3*(b.length:Int)<0 by omega))]
  rw [show k+(6*(ws.length:Int)+6*(v.length:Int)+3*(b.length:Int))=k+6*(ws.length:Int)+6*(v.length:Int)+3*(b.length:Int) by omega]
  cases Em ws (A3 A8 6 k ws.length)<;>cases En v (A3 A6 6 (k+6*(ws.length:Int)) v.length)<;>cases decide (b=A3 AO 3 (k+6*(ws.length:Int)+6*(v.length:Int)) b.length)<;>rfl
 ·cases hq
def DD (ts:List Tp) (fs:List Fa) (w:Int):Bool:=FJ ts fs&&!decide (atW fs w<0)
def faZ:Fa:=(0,[],([],()),([],()),[],0,())
def foF (ts:List Tp) (fs:List Fa) (w:Int):Fa:=bif DD ts fs w then fs[(atW fs w).toNat]?.getD faZ else faZ
def PU (ts:List Tp) (fs:List Fa):Bool:=decide (fs.length<=maxI)&&(N8 ts fs&&fs.all D0)
def foG:Gm
 | [.agg [.sl TPd ts,.sl FNd fs],.i .i64 w],[]=>.need (PU ts fs) (.leaf (.tup [.agg [.i .i64 (foF ts fs w).1,.s (foF ts fs w).2.1,.ref 0 0 (foF ts fs w).2.2.1.1.length,.ref 1 0 (foF ts fs w).2.2.2.1.1.length,.ref 2 0 (foF ts fs w).2.2.2.2.1.length,.i .i64 (foF ts fs w).2.2.2.2.2.1],.b (DD ts fs w)],[some (.row false none WCd (foF ts fs w).2.2.1.1),some (.row false none TCd (foF ts fs w).2.2.2.1.1),some (.row false none NTd (foF ts fs w).2.2.2.2.1)]))
 | _,_=>.no
theorem X5 (ts:List Tp) (fs:List Fa) (w:Int):Di prog (Ab [(42,.rd1 Zt),(12,.rd1 Ab3),(63,.rd1 Gd)]) (Ab []) f28 [.agg [.sl TPd ts,.sl FNd fs],.j w] [] =
 ((ifT (N8 ts fs) (ifB (!FJ ts fs) (some (V.tup [V.agg [V.j 0,V.s (Aj UInt8),V.ref 0 0 0,V.ref 1 0 0,V.ref 2 0 0,V.j 0],V.b false],[some (Blk.row
 false none WCd (Aj WCd.den)),some (Blk.row false none TCd (Aj TCd.den)),some (Blk.row false none NTd (Aj NTd.den))])) (ifB (decide (atW fs w<(0:Int))) (some
 (V.tup [V.agg [V.j 0,V.s (Aj UInt8),V.ref 0 0 0,V.ref 1 0 0,V.ref 2 0 0,V.j 0],V.b false],[some (Blk.row false none WCd (Aj WCd.den)),some (Blk.row
 false none TCd (Aj TCd.den)),some (Blk.row false none NTd (Aj NTd.den))])) (ifT (decide ((0:Int)<=atW fs w)&&decide (atW fs w<(↑fs.length:Int))) (Ak
 fs[(atW fs w).toNat]? fun z=>ifT (EM z.snd.snd.fst.fst z.snd.snd.snd.fst.fst z.snd.snd.snd.snd.fst) (some (V.tup [V.agg [V.j z.fst,V.s z.snd.fst,V.ref 0 0
 (List.length z.snd.snd.fst.fst),V.ref 1 0 (List.length z.snd.snd.snd.fst.fst),V.ref 2 0 (List.length z.snd.snd.snd.snd.fst),V.j z.snd.snd.snd.snd.snd.fst],V.b
 true],[some (Blk.row false none WCd z.snd.snd.fst.fst),some (Blk.row false none TCd z.snd.snd.snd.fst.fst),some (Blk.row false none NTd z.snd.snd.snd.snd.fst)]))))))):_):=by kernel_rfl
theorem X4 (ts:List Tp) (fs:List Fa) (w:Int):Di prog (Ab [(45,.rd1 VP),(10,.rd1 X3),(62,.rd1 Gd)]) (Ab []) f27 [.agg [.sl TPd ts,.sl FNd fs],.j w] [] =
 ((ifT (N8 ts fs) (ifB (!HM ts fs) (some (V.tup [V.agg [V.j 0,V.s (Aj UInt8),V.ref 0 0 0,V.ref 1 0 0,V.ref 2 0 0,V.j 0],V.b false],[some (Blk.row
 false none WCd (Aj WCd.den)),some (Blk.row false none TCd (Aj TCd.den)),some (Blk.row false none NTd (Aj NTd.den))])) (ifB (decide (atW fs w<(0:Int))) (some
 (V.tup [V.agg [V.j 0,V.s (Aj UInt8),V.ref 0 0 0,V.ref 1 0 0,V.ref 2 0 0,V.j 0],V.b false],[some (Blk.row false none WCd (Aj WCd.den)),some (Blk.row
 false none TCd (Aj TCd.den)),some (Blk.row false none NTd (Aj NTd.den))])) (ifT (decide ((0:Int)<=atW fs w)&&decide (atW fs w<(↑fs.length:Int))) (Ak
 fs[(atW fs w).toNat]? fun z=>ifT (EM z.snd.snd.fst.fst z.snd.snd.snd.fst.fst z.snd.snd.snd.snd.fst) (some (V.tup [V.agg [V.j z.fst,V.s z.snd.fst,V.ref 0 0
 (List.length z.snd.snd.fst.fst),V.ref 1 0 (List.length z.snd.snd.snd.fst.fst),V.ref 2 0 (List.length z.snd.snd.snd.snd.fst),V.j z.snd.snd.snd.snd.snd.fst],V.b
 true],[some (Blk.row false none WCd z.snd.snd.fst.fst),some (Blk.row false none TCd z.snd.snd.snd.fst.fst),some (Blk.row false none NTd z.snd.snd.snd.snd.fst)]))))))):_):=by kernel_rfl
theorem S7 {fs:List Fa} {w:Int} (h : ¬atW fs w<0) : ∃ i,∃ h:i<fs.length,atW fs w=(i:Int):=by
 obtain ⟨i,h1,h2,_⟩:=Ey (fun f:Fa=>f.1==w) fs 0 (by unfold atW at h; omega)
 exact ⟨i,h1,by unfold atW; rw [h2,zero_add]⟩
theorem foi:Af prog 28 (Ent.rd1 foG).F:=by
 refine AE (kc func42 Adt (kc func12 Zh (kc func63 UA KnowsL.nil))).knows (Λ:=Ab []) func28 (c:=f28.body.getD .skip) (by kernel_rfl) fun vs bs r hq hv hb=>?_
 unfold Ent.F foG at hq
 dsimp only at hq
 split at hq
 ·rename_i ts fs w
  obtain ⟨hc,hx⟩:=Ad hq
  unfold PU at hc
  rw [anE,anE,dcE] at hc
  obtain ⟨h1,h2,h3⟩:=hc
  refine ⟨Ai _,(X5 ts fs w).trans (Eq.trans ?_ hx)⟩
  try dsimp only [shr]
  rw [Aa h2]
  cases hg:FJ ts fs
  ·have e:foF ts fs w=faZ:=by unfold foF DD; rw [hg]; rfl
   have e2:DD ts fs w=false:=by unfold DD; rw [hg]; rfl
   rw [e,e2]; rfl
  ·by_cases hw:atW fs w<0
   ·have e2:DD ts fs w=false:=by unfold DD; rw [hg,dcT hw]; rfl
    have e:foF ts fs w=faZ:=by unfold foF; rw [e2]; rfl
    rw [e,e2,Bool.not_true,AQ,Ag (dcT hw)]; rfl
   ·obtain ⟨i,hi,e0⟩:=S7 hw
    have e2:DD ts fs w=true:=by unfold DD; rw [hg,dcF hw]; rfl
    have e:foF ts fs w=fs[i]:=by unfold foF; rw [e2,e0,ntN,gtE hi]; rfl
    have h4:=all_eq_true.1 h3 _ (getElem_mem hi)
    rw [e,e2,Bool.not_true,AQ,Ac (dcF hw),e0,Aa (by simp only [anE,dcE]; omega),ntN,gtE hi,Am,Aa (show EM _ _ _=true from h4)]
    rfl
 ·cases hq
theorem fos:Af prog 27 (Ent.rd1 foG).F:=by
 refine AE (kc func45 Aee (kc func10 Yx (kc func62 Yv KnowsL.nil))).knows (Λ:=Ab []) func27 (c:=f27.body.getD .skip) (by kernel_rfl) fun vs bs r hq hv hb=>?_
 unfold Ent.F foG at hq
 dsimp only at hq
 split at hq
 ·rename_i ts fs w
  obtain ⟨hc,hx⟩:=Ad hq
  unfold PU at hc
  rw [anE,anE,dcE] at hc
  obtain ⟨h1,h2,h3⟩:=hc
  refine ⟨Ai _,(X4 ts fs w).trans (Eq.trans ?_ hx)⟩
  try dsimp only [shr]
  rw [Aa h2,<-UD]
  cases hg:FJ ts fs
  ·have e:foF ts fs w=faZ:=by unfold foF DD; rw [hg]; rfl
   have e2:DD ts fs w=false:=by unfold DD; rw [hg]; rfl
   rw [e,e2]; rfl
  ·by_cases hw:atW fs w<0
   ·have e2:DD ts fs w=false:=by unfold DD; rw [hg,dcT hw]; rfl
    have e:foF ts fs w=faZ:=by unfold foF; rw [e2]; rfl
    rw [e,e2,Bool.not_true,AQ,Ag (dcT hw)]; rfl
   ·obtain ⟨i,hi,e0⟩:=S7 hw
    have e2:DD ts fs w=true:=by unfold DD; rw [hg,dcF hw]; rfl
    have e:foF ts fs w=fs[i]:=by unfold foF; rw [e2,e0,ntN,gtE hi]; rfl
    have h4:=all_eq_true.1 h3 _ (getElem_mem hi)
    rw [e,e2,Bool.not_true,AQ,Ac (dcF hw),e0,Aa (by simp only [anE,dcE]; omega),ntN,gtE hi,Am,Aa (show EM _ _ _=true from h4)]
    rfl
 ·cases hq
end Go.Proofs.YtcjnmdcagfgjoaaGreatDoor.Den
