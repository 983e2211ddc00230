/- What functions of the program do, by the machine: Brk6 Brk7 Brk8 Brk9 Sz3 Sz4 Eq5 Eq6 To5 To7 Own2 Own3 Nb1 Hd2. -/
import Derived.Test.YtcjnmdcagfgjoaaGreatDoorDD
import Derived.KernelRfl
import Derived.Test.YtcjnmdcagfgjoaaGreatDoorRows
namespace Go.Proofs.YtcjnmdcagfgjoaaGreatDoor.Den
open IntKind (i64)
open Go.Proofs.Tryz
open List (all_cons all_eq_true append_assoc append_nil drop drop_eq_getElem_cons drop_eq_nil_of_le drop_zero getElem_mem getElem_range length_append length_range length_singleton map_cons mem_append range replicate singleton_append sum_cons take take_length take_of_length_le)
open Int (add_assoc eq_ofNat_of_zero_le le_refl)
open Nat (add_sub_of_le le_trans zero_add)
open Go.Proofs
set_option maxRecDepth 100000
def Qr (ts:List Tp) (w:Int) (p:List UInt8) (ws:List Wt) (v:List Ty) (b:List Nt) (t:Int):Bool:=decide (0<=w/\w<=100)&&(lvB (cut 47 p)&&(DW ws&&(Bf v&&(decide (0<=t/\t<=100000)&&(ts.all (Ed p (t2L v 0))&&(I1 ts v b 0&&decide (b.length<=10)))))))
def XV:Gm
 | [.agg [.sl TPd ts,.sl FNd fs],.agg [.i .i64 w,.s p,.sl WCd ws,.sl TCd v,.sl NTd b,.i .i64 t]],[]=>.need (GK ts p v b) (.leaf (.b (Qr ts w p ws v b t),[]))
 | _,_=>.no
def sfE:LoopEnt:=⟨61,[2,3,36,37,38],[2,3],[4],fun
 | ([.ptr 0 0,.ptr 1 0,.sl TPd l,.i .i64 k,.i .i64 i],[bb,bf])=>(match bb with
  | some (.box [.sl TPd ts,.sl FNd fs])=>(match bf with
   | some (.box [.i .i64 w,.s p,.sl WCd ws,.sl TCd v,.sl NTd b,.i .i64 t])=>.need (decide (0<=i/\i.toNat<=l.length/\k=l.length/\eqT (List Tp) l ts/\Bf v=true/\p.length<=4000000000/\v.length<=4000000000)&&EA l) (.br ((l.drop i.toNat).all (Ed p (t2L v 0))) (.leaf ((.exit 0:Ex),([.ptr 0 0,.ptr 1 0],[some (.box [.sl TPd ts,.sl FNd fs]),some (.box [.i .i64 w,.s p,.sl WCd ws,.sl TCd v,.sl NTd b,.i .i64 t])]))) (.leaf (.ret,([.b false],[]))))
   | _=>.no)
  | _=>.no)
 | _=>.no⟩
abbrev Aaf:FuncId->Option Ent:=Ab [(78,.rd1 A3),(79,.rd1 Nm),(80,.rd1 I8),(77,.rd1 Jv),(81,.rd1 Xw),(83,.rd1 HA),(82,.rd1 (Ry 1000000)),(84,.rd1 Acq)]
theorem Kz (ts:List Tp) (fs:List Fa) (w:Int) (p:List UInt8) (ws:List Wt) (v:List Ty) (b:List Nt) (t:Int) (l:List Tp) (k i:Int):Av prog Aaf (Ab [(4,sfE)]) 0 (body f39 0) sfE ([.ptr 0 0,.ptr 1 0,.sl TPd l,.j k,.j i],[some (.box [.sl TPd ts,.sl FNd fs]),some (.box [.j w,.s p,.sl WCd ws,.sl TCd v,.sl NTd b,.j t])]) =
 ((ifB (decide (i<k)) (ifT (decide ((0:Int)<=i)&&decide (i<(↑l.length:Int))) (Ah l[i.toNat]? fun z=>ifT (decide (p.length<=4000000000/\List.length
 z.fst<=4000000000)) (ifB (tk EX (cut (47:UInt8) p) (cut (47:UInt8) z.fst)) (ifT (decide ((0:Int)<=(0:Int)/\0<List.length z.snd.fst.fst/\
 List.length z.snd.fst.fst<=4000000000)) (ifT (decide ((0:Int)<=(0:Int)/\0<v.length/\v.length<=4000000000)) (ifT (decide (Au
 (Rose.node ((t2L z.snd.fst.fst 0).lab.fst,(t2L z.snd.fst.fst 0).lab.snd.fst,(t2L z.snd.fst.fst 0).lab.snd.snd.fst,(t2L z.snd.fst.fst (0 :
 Nat)).lab.snd.snd.snd.fst,(t2L z.snd.fst.fst 0).lab.snd.snd.snd.snd.fst,()) (take (t2L z.snd.fst.fst 0).kids.length (drop 0 (t2L
 z.snd.fst.fst 0).kids)))=true/\Au (Rose.node ((t2L v 0).lab.fst,(t2L v 0).lab.snd.fst,(t2L v 0).lab.snd.snd.fst,(t2L v (0 :
 Nat)).lab.snd.snd.snd.fst,(t2L v 0).lab.snd.snd.snd.snd.fst,()) (take (t2L v 0).kids.length (drop 0 (t2L v 0).kids)))=true/\
 As (Rose.node ((t2L v 0).lab.fst,(t2L v 0).lab.snd.fst,(t2L v 0).lab.snd.snd.fst,(t2L v 0).lab.snd.snd.snd.fst,(t2L v (0 :
 Nat)).lab.snd.snd.snd.snd.fst,()) (take (t2L v 0).kids.length (drop 0 (t2L v 0).kids)))<=1000000/\As (Rose.node ((t2L v (0
 : Nat)).lab.fst,(t2L v 0).lab.snd.fst,(t2L v 0).lab.snd.snd.fst,(t2L v 0).lab.snd.snd.snd.fst,(t2L v 0).lab.snd.snd.snd.snd.fst,())
 (take (t2L v 0).kids.length (drop 0 (t2L v 0).kids)))<=1000000/\As (Rose.node ((t2L z.snd.fst.fst 0).lab.fst,(t2L
 z.snd.fst.fst 0).lab.snd.fst,(t2L z.snd.fst.fst 0).lab.snd.snd.fst,(t2L z.snd.fst.fst 0).lab.snd.snd.snd.fst,(t2L z.snd.fst.fst (0 :
 Nat)).lab.snd.snd.snd.snd.fst,()) (take (t2L z.snd.fst.fst 0).kids.length (drop 0 (t2L z.snd.fst.fst 0).kids)))<=1000000))
 (ifB (!CK (Rose.node ((t2L v 0).lab.fst,(t2L v 0).lab.snd.fst,(t2L v 0).lab.snd.snd.fst,(t2L v 0).lab.snd.snd.snd.fst,(t2L v (0 :
 Nat)).lab.snd.snd.snd.snd.fst,()) (take (t2L v 0).kids.length (drop 0 (t2L v 0).kids))) (Rose.node ((t2L z.snd.fst.fst (0 :
 Nat)).lab.fst,(t2L z.snd.fst.fst 0).lab.snd.fst,(t2L z.snd.fst.fst 0).lab.snd.snd.fst,(t2L z.snd.fst.fst 0).lab.snd.snd.snd.fst,(t2L
 z.snd.fst.fst 0).lab.snd.snd.snd.snd.fst,()) (take (t2L z.snd.fst.fst 0).kids.length (drop 0 (t2L z.snd.fst.fst 0).kids))))
 (some (Ex.ret,[V.b false],[])) (some (Ex.normal,[V.ptr 0 0,V.ptr 1 0,V.sl TPd l,V.j k,V.j (i64.wrap (i+(1:Int)))],[some (Blk.box [V.sl TPd
 ts,V.sl FNd fs]),some (Blk.box [V.j w,V.s p,V.sl WCd ws,V.sl TCd v,V.sl NTd b,V.j t])])))))) (some (Ex.normal,[V.ptr 0 0,V.ptr 1 0,V.sl TPd l,V.i
 .i64 k,V.j (i64.wrap (i+(1:Int)))],[some (Blk.box [V.sl TPd ts,V.sl FNd fs]),some (Blk.box [V.j w,V.s p,V.sl WCd ws,V.sl TCd v,V.sl NTd b,
 V.j t])]))))) (some (Ex.exit 0,[V.ptr 0 0,V.ptr 1 0],[some (Blk.box [V.sl TPd ts,V.sl FNd fs]),some (Blk.box [V.j w,V.s p,V.sl WCd ws,V.sl TCd v,V.sl
 NTd b,V.j t])]))):_):=by kernel_rfl
theorem Ui (ts:List Tp) (fs:List Fa) (w:Int) (p:List UInt8) (ws:List Wt) (v:List Ty) (b:List Nt) (t:Int):Ax prog Aaf (Ab [(4,sfE)]) f39 [.agg [.sl TPd ts,.sl FNd fs],.agg [.j w,.s p,.sl WCd ws,.sl TCd v,.sl NTd b,.j t]] [] =
 ((ifB (!decide ((0:Int)<=w/\w<=(100:Int))) (some (V.b false,[])) (ifT (decide (p.length<=4000000000)) (ifB (!lvB (cut (47:UInt8) p)) (some (V.b false,
 [])) (ifB (!DW ws) (some (V.b false,[])) (ifT (decide (v.length<=4000000000)&&nmL v) (ifB (!Bf v) (some (V.b false,[])) (ifB (!decide ((0:Int)<=t/\
 t<=(100000:Int))) (some (V.b false,[])) (ifT (decide ((0:Int)<=(0:Int)/\0<=ts.length/\(↑ts.length:Int)=(↑ts.length:Int)/\eqT (List Tp) ts ts/\
 Bf v=true/\p.length<=4000000000/\v.length<=4000000000)&&EA ts) (ifB ((drop 0 ts).all (Ed p (t2L v 0))) (ifT (decide
 (v.length<=4000000000)&&(nmL v&&H3 b)) (some (V.b (I1 ts v b 0&&decide (b.length<=10)),[]))) (some (V.b false,[]))))))))))):_):=by kernel_rfl
theorem Uj (l:List Tp) (fs:List Fa) (w:Int) (p:List UInt8) (ws:List Wt) (v:List Ty) (b:List Nt) (t:Int) (hk:Bf v=true) (hp:p.length<=4000000000) (hv:v.length<=4000000000) (ht:EA l=true) (i:Nat) (h1:i<=l.length) (ex:Ex) (d':Dt)
  (hx:(Br.br ((l.drop i).all (Ed p (t2L v 0))) (.leaf ((.exit 0:Ex),([.ptr 0 0,.ptr 1 0],[some (.box [.sl TPd l,.sl FNd fs]),some (.box [.j w,.s p,.sl WCd ws,.sl TCd v,.sl NTd b,.j t])]))) (.leaf ((.ret:Ex),([.b false],[]))):Br (Ex×Dt)).run=some (ex,d')):Runs prog Aaf (Ab [(4,sfE)]) 0 (body f39 0) sfE ([.ptr 0 0,.ptr 1 0,.sl TPd l,.j (l.length:Int),.j (i:Int)],[some (.box [.sl TPd l,.sl FNd fs]),some (.box [.j w,.s p,.sl WCd ws,.sl TCd v,.sl NTd b,.j t])]) ex d':=by
 have hM:maxI=9223372036854775807:=rfl
 obtain ⟨hl,_,hall⟩:=SS ht
 refine B7 (l:=l) (Ed p (t2L v 0)) (fun i=>([.ptr 0 0,.ptr 1 0,.sl TPd l,.j (l.length:Int),.j (i:Int)],[some (.box [.sl TPd l,.sl FNd fs]),some (.box [.j w,.s p,.sl WCd ws,.sl TCd v,.sl NTd b,.j t])])) (ex:=((.exit 0:Ex),([.ptr 0 0,.ptr 1 0],[some (.box [.sl TPd l,.sl FNd fs]),some (.box [.j w,.s p,.sl WCd ws,.sl TCd v,.sl NTd b,.j t])]))) (rt:=((.ret:Ex),([.b false],[]))) (by simp) (by simp) (fun n hlt=>?_) ?_ (l.length-i) i (by omega) ex d' hx
 ·have hr:=Kz l fs w p ws v b t l l.length n
  try dsimp only [shr] at hr
  obtain ⟨⟨s1,s2,s3⟩,g1,g2,_⟩:=hall _ (getElem_mem hlt)
  obtain ⟨z1,z2,z3⟩:=Ht hk
  obtain ⟨q1,q2,q3⟩:=Do z1
  rw [Af (dcT (by omega)),Aa (by simp only [anE,dcE]; omega),ntN,gtE hlt,Am,Ap (n:=n) (by omega),Aa (dcT ⟨hp,s1⟩),Abc g1] at hr
  refine hr.trans ?_
  clear hr hall hx
  obtain ⟨m1,m2,m3⟩:=Ht g2
  obtain ⟨r1,r2,r3⟩:=Do m1
  rw [Aa (dcT ⟨by omega,by omega,s2⟩),Aa (dcT ⟨by omega,by omega,hv⟩)]
  simp only [drop_zero,take_length,BV]
  unfold Ed
  cases h3:tk inL (cut 47 p) (cut 47 l[n].1) with
  | false=>rfl
  | true=>
   rw [Be,Aa (dcT ⟨r2,q2,by omega,by omega,by omega⟩)]
   cases CK (t2L v 0) (t2L l[n].2.1.1 0)<;>rfl
 ·have hr:=Kz l fs w p ws v b t l l.length l.length
  try dsimp only [shr] at hr
  rw [Ac (dcF (by omega))] at hr
  exact hr
theorem YJ:Ar prog Aaf (Ab [(4,sfE)]) 0 (f39.body.getD .skip):=by
 refine An (a:=body f39 0) (by kernel_rfl) fun d ex d' h=>?_
 unfold sfE at h
 dsimp only at h
 split at h
 ·rename_i l k i bb bf
  split at h
  ·rename_i ts fs
   split at h
   ·rename_i w p ws v b t
    obtain ⟨hc,hx⟩:=Ad h
    clear h
    rw [anE] at hc
    obtain ⟨hc,ht⟩:=hc
    obtain ⟨h0,h1,h2,h3,h4,h5,h6⟩:=of_decide_eq_true hc
    have h3:l=ts:=h3
    subst h3
    subst h2
    obtain ⟨i,rfl⟩:=eq_ofNat_of_zero_le h0
    simp only [ntN] at h1 hx
    exact Uj l fs w p ws v b t h4 h5 h6 ht i h1 ex d' hx
   ·cases h
  ·cases h
 ·cases h
theorem Abm:Ag prog 39 (Ent.rd1 XV).F:=by
 refine Ae (kc func78 JB (kc func79 Adx (kc func80 Abk (kc func77 Wu (kc func81 Afj (kc func83 RX (kc func82 (YD 1000000) (kc func84 Abj KnowsL.nil)))))))).knows (Λ:=(Ab [(4,sfE)])) func39 (c:=f39.body.getD .skip) (by kernel_rfl) fun vs bs r hq hv hb=>?_
 unfold Ent.F XV at hq
 dsimp only at hq
 split at hq
 ·rename_i ts fs w p ws v b t
  obtain ⟨hc,hx⟩:=Ad hq
  unfold GK at hc
  simp only [anE,dcE] at hc
  obtain ⟨ht,⟨hp,hv⟩,hn,hb⟩:=hc
  refine ⟨YJ,(Ui ts fs w p ws v b t).trans (Eq.trans ?_ hx)⟩
  try dsimp only [shr]
  show _=some _
  unfold Qr
  rw [drop_zero]
  generalize hw:decide (0<=w/\w<=100)=c1
  generalize decide (0<=t/\t<=100000)=c2
  cases c1 with
  | false=>rfl
  | true=>
   rw [Bool.not_true,AS,Aa (dcT hp)]
   cases hl:lvB (cut 47 p) with
   | false=>rfl
   | true=>
    cases DW ws with
    | false=>rfl
    | true=>
     rw [Bool.not_true,AS,AS,Aa (by rw [anE]; exact ⟨dcT hv,hn⟩)]
     cases hk:Bf v with
     | false=>rfl
     | true=>
      cases c2 with
      | false=>rfl
      | true=>
       rw [Bool.not_true,AS,AS,Aa (by rw [anE]; exact ⟨dcT (by refine ⟨by omega,by omega,?_,?_,?_,hp,hv⟩<;>first | rfl | trivial),ht⟩)]
       cases ts.all (Ed p (t2L v 0)) with
       | false=>rfl
       | true=>
        rw [Be,Aa (by rw [anE,anE]; exact ⟨dcT hv,hn,hb⟩)]
        rfl
 ·cases hq
set_option synthInstance.maxSize 2000
set_option synthInstance.maxHeartbeats 400000
instance decWt7:DecidableEq Wt:=inferInstance
instance decNt7:DecidableEq Nt:=inferInstance
instance decFa70:DecidableEq (List Nt×Int×Unit):=inferInstance
instance decFa71:DecidableEq ((List Ty×Unit)×List Nt×Int×Unit):=inferInstance
instance decFa7:DecidableEq Fa:=inferInstance
def UV (ts:List Tp) (fs:List Fa) (i:Nat):Bool:=match fs[i]? with | some f=>atW fs f.1==(i:Int)&&Qs ts f.1 f.2.1 f.2.2.1.1 f.2.2.2.1.1 f.2.2.2.2.1 f.2.2.2.2.2.1 | none=>true
def L4 (ts:List Tp) (fs:List Fa) (i:Nat):Bool:=((range fs.length).drop i).all (UV ts fs)
def J6 (f:Fa):Bool:=decide (f.2.1.length<=4000000000/\f.2.2.2.1.1.length<=4000000000)&&(nmL f.2.2.2.1.1&&H3 f.2.2.2.2.1)
def NQ (ts:List Tp) (fs:List Fa):Bool:=decide (ts.length<=4000000000/\fs.length<=4000000000)&&(ts.all EF&&fs.all J6)
def FO (ts:List Tp) (fs:List Fa):Bool:=C8 ts 0&&(decide (ts.length<=4)&&(decide (fs.length<=4)&&L4 ts fs 0))
def Ac4:Gm
 | [.agg [.sl TPd ts,.sl FNd fs]],[]=>.need (NQ ts fs) (.leaf (.b (FO ts fs),[]))
 | _,_=>.no
def gbE:LoopEnt:=⟨32,[1,14,15,16],[],[2],fun
 | ([.ptr 0 0,.sl FNd l,.i .i64 k,.i .i64 i],[bb])=>(match bb with
  | some (.box [.sl TPd ts,.sl FNd fs])=>.need (decide (0<=i/\i.toNat<=l.length/\k=l.length/\eqT (List Fa) l fs/\l.length<=4000000000)&&(EA ts&&l.all J6)) (.br (L4 ts fs i.toNat) (.leaf (.exit 0,([],[]))) (.leaf (.ret,([.b false],[]))))
  | _=>.no)
 | _=>.no⟩
abbrev Aae:FuncId->Option Ent:=Ab [(41,.rd1 VO),(42,.rd1 ZH),(43,.rd1 XW)]
theorem Qp (ts:List Tp) (fs:List Fa) (l:List Fa) (k i:Int):Av prog Aae (Ab [(4,gbE)]) 0 (body f12 0) gbE ([.ptr 0 0,.sl FNd l,.j k,.j i],[some (.box [.sl TPd ts,.sl FNd fs])]) =
 ((ifB (decide (i<k)) (ifT (decide ((0:Int)<=i)&&decide (i<(↑l.length:Int))) (Ah l[i.toNat]? fun z=>ifB (atW fs z.fst != i) (some (Ex.ret,[V.b false],[]))
 (ifT (GK ts z.snd.fst z.snd.snd.snd.fst.fst z.snd.snd.snd.snd.fst) (ifB (!Qs ts z.fst z.snd.fst z.snd.snd.fst.fst z.snd.snd.snd.fst.fst z.snd.snd.snd.snd.fst
 z.snd.snd.snd.snd.snd.fst) (some (Ex.ret,[V.b false],[])) (some (Ex.normal,[V.ptr 0 0,V.sl FNd l,V.j k,V.j (i64.wrap (i+(1:Int)))],[some
 (Blk.box [V.sl TPd ts,V.sl FNd fs])])))))) (some (Ex.exit 0,[],[]))):_):=by kernel_rfl
theorem ZB (ts:List Tp) (fs:List Fa):Ax prog Aae (Ab [(4,gbE)]) f12 [.agg [.sl TPd ts,.sl FNd fs]] [] =
 ((ifT (decide (ts.length<=4000000000)&&ts.all EF) (ifB (!(C8 ts 0&&decide (ts.length<=4))) (some (V.b false,[])) (ifB (decide
 ((↑fs.length:Int)>(4:Int))) (some (V.b false,[])) (ifT (decide ((0:Int)<=(0:Int)/\0<=fs.length/\(↑fs.length:Int)=(↑fs.length:Int)/\eqT (List
 Fa) fs fs/\fs.length<=4000000000)&&(EA ts&&fs.all J6)) (ifB (L4 ts fs 0) (some (V.b true,[])) (some (V.b false,[]))))))):_):=by kernel_rfl
theorem ZC (ts:List Tp) (l:List Fa) (hl:l.length<=4000000000) (ht:EA ts=true) (hs:l.all J6=true) (i:Nat) (h1:i<=l.length) (ex:Ex) (d':Dt)
  (hx:(Br.br (L4 ts l i) (.leaf ((.exit 0:Ex),([],[]))) (.leaf ((.ret:Ex),([.b false],[]))):Br (Ex×Dt)).run=some (ex,d')):Runs prog Aae (Ab [(4,gbE)]) 0 (body f12 0) gbE ([.ptr 0 0,.sl FNd l,.j (l.length:Int),.j (i:Int)],[some (.box [.sl TPd ts,.sl FNd l])]) ex d':=by
 have hM:maxI=9223372036854775807:=rfl
 refine B7 (l:=range l.length) (UV ts l) (fun i=>([.ptr 0 0,.sl FNd l,.j (l.length:Int),.j (i:Int)],[some (.box [.sl TPd ts,.sl FNd l])])) (ex:=((.exit 0:Ex),([],[]))) (rt:=((.ret:Ex),([.b false],[]))) (by simp) (by simp) (fun n hn'=>?_) ?_ (l.length-i) i (by simp; omega) ex d' hx
 ·have hlt:n<l.length:=by simpa using hn'
  have hr:=Qp ts l l l.length n
  try dsimp only [shr] at hr
  have s1:=all_eq_true.1 hs _ (getElem_mem hlt)
  unfold J6 at s1
  rw [Af (dcT (by omega)),Aa (by simp only [anE,dcE]; omega),ntN,gtE hlt,Am,Ap (n:=n) (by omega)] at hr
  refine hr.trans ?_
  clear hr hx hs
  rw [getElem_range]
  have e:UV ts l n=(atW l l[n].1==(n:Int)&&Qs ts l[n].1 l[n].2.1 l[n].2.2.1.1 l[n].2.2.2.1.1 l[n].2.2.2.2.1 l[n].2.2.2.2.2.1):=by
   unfold UV
   rw [gtE hlt]
  rw [e]
  generalize l[n]=f at s1 ⊢
  have s2:GK ts f.2.1 f.2.2.2.1.1 f.2.2.2.2.1=true:=by
   unfold GK
   rw [ht,Bool.true_and]
   exact s1
  by_cases q:atW l f.1=(n:Int)
  ·have h5:(atW l f.1==(n:Int))=true:=beq_iff_eq.2 q
   have h6:(atW l f.1 != (n:Int))=false:=bne_eq_false_iff_eq.2 q
   rw [h5,h6,AS,Aa s2]
   cases Qs ts f.1 f.2.1 f.2.2.1.1 f.2.2.2.1.1 f.2.2.2.2.1 f.2.2.2.2.2.1<;>rfl
  ·have h5:(atW l f.1==(n:Int))=false:=beq_eq_false_iff_ne.2 q
   have h6:(atW l f.1 != (n:Int))=true:=bne_iff_ne.2 q
   rw [h5,h6]
   rfl
 ·have hr:=Qp ts l l l.length l.length
  try dsimp only [shr] at hr
  rw [Ac (dcF (by omega))] at hr
  simp only [length_range]
  exact hr
theorem Ae0:Ar prog Aae (Ab [(4,gbE)]) 0 (f12.body.getD .skip):=by
 refine An (a:=body f12 0) (by kernel_rfl) fun d ex d' h=>?_
 unfold gbE at h
 dsimp only at h
 split at h
 ·rename_i l k i bb
  split at h
  ·rename_i ts fs
   obtain ⟨hc,hx⟩:=Ad h
   clear h
   rw [anE,anE] at hc
   obtain ⟨hc,ht,hs⟩:=hc
   obtain ⟨h0,h1,h2,h3,h4⟩:=of_decide_eq_true hc
   have h3:l=fs:=h3
   subst h3
   subst h2
   obtain ⟨i,rfl⟩:=eq_ofNat_of_zero_le h0
   simp only [ntN] at h1 hx
   exact ZC ts l h4 ht hs i h1 ex d' hx
  ·cases h
 ·cases h
theorem Fr {ts:List Tp} (h:C8 ts 0=true):ts.all tOK=true:=by
 unfold C8 at h
 rw [drop_zero,all_eq_true] at h
 rw [all_eq_true]
 intro t ht
 obtain ⟨n,hn,rfl⟩:=List.mem_iff_getElem.1 ht
 have:=h n (by simpa using hn)
 unfold TF at this
 rw [gtE hn] at this
 exact ((anE _ _).mp this).1
theorem Z2:Ag prog 12 (Ent.rd1 Ac4).F:=by
 refine Ae (kc func41 Aeo (kc func42 Aet (kc func43 Acx KnowsL.nil))).knows (Λ:=(Ab [(4,gbE)])) func12 (c:=f12.body.getD .skip) (by kernel_rfl) fun vs bs r hq hv hb=>?_
 unfold Ent.F Ac4 at hq
 dsimp only at hq
 split at hq
 ·rename_i ts fs
  obtain ⟨hc,hx⟩:=Ad hq
  unfold NQ at hc
  rw [anE,anE] at hc
  obtain ⟨hc,h2,h3⟩:=hc
  obtain ⟨h0,h1⟩:=of_decide_eq_true hc
  refine ⟨Ae0,(ZB ts fs).trans (Eq.trans ?_ hx)⟩
  try dsimp only [shr]
  show _=some _
  unfold FO
  rw [Aa (by rw [anE]; exact ⟨dcT h0,h2⟩)]
  cases h4:C8 ts 0 with
  | false=>rfl
  | true=>
   by_cases h5:ts.length<=4
   ·rw [dcT h5]
    by_cases h6:fs.length<=4
    ·have h7:EA ts=true:=by unfold EA; rw [dcT h0,h2,Fr h4]; rfl
     rw [dcT h6]
     rw [Bool.true_and,Bool.not_true,AS,Ac (dcF (by omega)),Aa (by rw [anE,anE]; exact ⟨dcT (by refine ⟨by omega,by omega,?_,?_,h1⟩<;>first | rfl | trivial),h7,h3⟩)]
     cases L4 ts fs 0<;>rfl
    ·rw [dcF h6]
     rw [Bool.true_and,Bool.not_true,AS,Af (dcT (by omega))]
     rfl
   ·rw [dcF h5]
    rfl
 ·cases hq
def noW (w:Int) (o:Fa):Bool:=!(o.1==w)
def fnS (ts:List Tp) (fs:List Fa) (i:Nat):Bool:=match fs[i]? with | some f=>Qr ts f.1 f.2.1 f.2.2.1.1 f.2.2.2.1.1 f.2.2.2.2.1 f.2.2.2.2.2.1&&(fs.take i).all (noW f.1) | none=>true
def L3 (ts:List Tp) (fs:List Fa) (i:Nat):Bool:=((range fs.length).drop i).all (fnS ts fs)
def HT (ts:List Tp) (fs:List Fa):Bool:=C8 ts 0&&(decide (ts.length<=4)&&(decide (fs.length<=4)&&L3 ts fs 0))
def XS:Gm
 | [.agg [.sl TPd ts,.sl FNd fs]],[]=>.need (NQ ts fs) (.leaf (.b (HT ts fs),[]))
 | _,_=>.no
def W6:LoopEnt:=⟨67,[1,10,11,12],[1],[2],fun
 | ([.ptr 0 0,.sl TPd l,.i .i64 k,.i .i64 i],[bb])=>(match bb with
  | some (.box [.sl TPd ts,.sl FNd fs])=>.need (decide (0<=i/\i.toNat<=l.length/\k=l.length/\eqT (List Tp) l ts/\l.length<=4000000000)&&l.all EF) (.br (C8 ts i.toNat) (.leaf ((.exit 0:Ex),([.ptr 0 0],[some (.box [.sl TPd ts,.sl FNd fs])]))) (.leaf (.ret,([.b false],[]))))
  | _=>.no)
 | _=>.no⟩
def W4:LoopEnt:=⟨67,[1,40,41,42],[],[2],fun
 | ([.ptr 0 0,.sl FNd l,.i .i64 k,.i .i64 i],[bb])=>(match bb with
  | some (.box [.sl TPd ts,.sl FNd fs])=>.need (decide (0<=i/\i.toNat<=l.length/\k=l.length/\eqT (List Fa) l fs/\l.length<=4000000000)&&(EA ts&&l.all J6)) (.br (L3 ts fs i.toNat) (.leaf (.exit 2,([],[]))) (.leaf (.ret,([.b false],[]))))
  | _=>.no)
 | _=>.no⟩
def W0:LoopEnt:=⟨67,[1,6,40,41,42,54,55,56],[1,40,41,42],[2],fun
 | (.ptr 0 0::.ptr 1 0::.sl FNd l::.i .i64 k0::.i .i64 i0::vs,[bb,bf])=>(match vs with
  | [.sl FNd q,.i .i64 k,.i .i64 i]=>(match bb with
   | some (.box [.sl TPd ts,.sl FNd fs])=>(match bf with
    | some (.box [.i .i64 w,.s p,.sl WCd ws,.sl TCd v,.sl NTd b,.i .i64 t])=>.need (decide (0<=i/\i.toNat<=q.length/\k=q.length/\q.length<=4000000000)) (.br ((q.drop i.toNat).all (noW w)) (.leaf ((.exit 4:Ex),([.ptr 0 0,.sl FNd l,.i .i64 k0,.i .i64 i0],[some (.box [.sl TPd ts,.sl FNd fs])]))) (.leaf (.ret,([.b false],[]))))
    | _=>.no)
   | _=>.no)
  | _=>.no)
 | _=>.no⟩
abbrev QF:FuncId->Option Ent:=Ab [(37,.rd1 Xv),(38,.rd1 YL),(39,.rd1 XV)]
abbrev OM:Nat->Option LoopEnt:=Ab [(2,W6),(10,W4),(15,W0)]
theorem MC (ts:List Tp) (fs:List Fa) (l:List Tp) (k i:Int):Av prog QF OM 0 (body f10 0) W6 ([.ptr 0 0,.sl TPd l,.j k,.j i],[some (.box [.sl TPd ts,.sl FNd fs])]) =
 ((ifB (decide (i<k)) (ifT (decide ((0:Int)<=i)&&decide (i<(↑l.length:Int))) (Ah l[i.toNat]? fun z=>ifT (EF (z.fst,(z.snd.fst.fst,()),z.snd.snd.fst,
 ())) (ifB (!tOK (z.fst,(z.snd.fst.fst,()),z.snd.snd.fst,())) (some (Ex.ret,[V.b false],[])) (ifB (atT ts z.fst != i) (some (Ex.ret,[V.b false],[])) (some
 (Ex.normal,[V.ptr 0 0,V.sl TPd l,V.j k,V.j (i64.wrap (i+(1:Int)))],[some (Blk.box [V.sl TPd ts,V.sl FNd fs])])))))) (some (Ex.exit 0,[V.ptr 0
 0],[some (Blk.box [V.sl TPd ts,V.sl FNd fs])]))):_):=by kernel_rfl
theorem MB (ts:List Tp) (fs:List Fa) (l:List Fa) (k i:Int):Av prog QF OM 0 (body f10 1) W4 ([.ptr 0 0,.sl FNd l,.j k,.j i],[some (.box [.sl TPd ts,.sl FNd fs])]) =
 ((ifB (decide (i<k)) (ifT (decide ((0:Int)<=i)&&decide (i<(↑l.length:Int))) (Ah l[i.toNat]? fun z=>ifT (GK ts z.snd.fst z.snd.snd.snd.fst.fst
 z.snd.snd.snd.snd.fst) (ifB (!Qr ts z.fst z.snd.fst z.snd.snd.fst.fst z.snd.snd.snd.fst.fst z.snd.snd.snd.snd.fst z.snd.snd.snd.snd.snd.fst) (some (Ex.ret,[V.b false],
 [])) (ifT (decide ((0:Int)<=i)&&decide (i<=(↑fs.length:Int))) (ifT (decide ((0:Int)<=(0:Int)/\0<=(take (i.toNat-0) (drop (0 :
 Nat) fs)).length/\(↑(take (i.toNat-0) (drop 0 fs)).length:Int)=(↑(take (i.toNat-0) (drop 0 fs)).length:Int)
 /\ (take (i.toNat-0) (drop 0 fs)).length<=4000000000)) (ifB ((drop 0 (take (i.toNat-0) (drop (0 :
 Nat) fs))).all (noW z.fst)) (some (Ex.normal,[V.ptr 0 0,V.sl FNd l,V.j k,V.j (i64.wrap (i+(1:Int)))],[some (Blk.box [V.sl TPd ts,V.sl FNd
 fs])])) (some (Ex.ret,[V.b false],[])))))))) (some (Ex.exit 2,[],[]))):_):=by kernel_rfl
theorem MA (ts:List Tp) (fs:List Fa) (w:Int) (p:List UInt8) (ws:List Wt) (v:List Ty) (b:List Nt) (t:Int) (l:List Fa) (k0 i0:Int) (q:List Fa) (k i:Int):Av prog QF OM 0 (body f10 2) W0 ([.ptr 0 0,.ptr 1 0,.sl FNd l,.j k0,.j i0,.sl FNd q,.j k,.j i],[some (.box [.sl TPd ts,.sl FNd fs]),some (.box [.j w,.s p,.sl WCd ws,.sl TCd v,.sl NTd b,.j t])]) =
 ((ifB (decide (i<k)) (ifT (decide ((0:Int)<=i)&&decide (i<(↑q.length:Int))) (Ah q[i.toNat]? fun z=>ifB (z.fst==w) (some (Ex.ret,[V.b false],[])) (some
 (Ex.normal,[V.ptr 0 0,V.ptr 1 0,V.sl FNd l,V.j k0,V.j i0,V.sl FNd q,V.j k,V.j (i64.wrap (i+(1:Int)))],[some (Blk.box [V.sl TPd
 ts,V.sl FNd fs]),some (Blk.box [V.j w,V.s p,V.sl WCd ws,V.sl TCd v,V.sl NTd b,V.j t])])))) (some (Ex.exit 4,[V.ptr 0 0,V.sl FNd l,V.j k0,V.i
 .i64 i0],[some (Blk.box [V.sl TPd ts,V.sl FNd fs])]))):_):=by kernel_rfl
theorem YK (ts:List Tp) (fs:List Fa):Ax prog QF OM f10 [.agg [.sl TPd ts,.sl FNd fs]] [] =
 ((ifT (decide ((0:Int)<=(0:Int)/\0<=ts.length/\(↑ts.length:Int)=(↑ts.length:Int)/\eqT (List Tp) ts ts/\ts.length<=4000000000)&&ts.all
 EF) (ifB (C8 ts 0) (ifB (decide ((↑ts.length:Int)>(4:Int))) (some (V.b false,[])) (ifB (decide ((↑fs.length:Int)>(4:Int))) (some (V.b false,
 [])) (ifT (decide ((0:Int)<=(0:Int)/\0<=fs.length/\(↑fs.length:Int)=(↑fs.length:Int)/\eqT (List Fa) fs fs/\fs.length<=4000000000)&&
 (EA ts&&fs.all J6)) (ifB (L3 ts fs 0) (some (V.b true,[])) (some (V.b false,[])))))) (some (V.b false,[])))):_):=by kernel_rfl
theorem W5 (l:List Tp) (fs:List Fa) (hl:l.length<=4000000000) (hs:l.all EF=true) (i:Nat) (h1:i<=l.length) (ex:Ex) (d':Dt)
  (hx:(Br.br (C8 l i) (.leaf ((.exit 0:Ex),([.ptr 0 0],[some (.box [.sl TPd l,.sl FNd fs])]))) (.leaf ((.ret:Ex),([.b false],[]))):Br (Ex×Dt)).run=some (ex,d')):Runs prog QF OM 0 (body f10 0) W6 ([.ptr 0 0,.sl TPd l,.j (l.length:Int),.j (i:Int)],[some (.box [.sl TPd l,.sl FNd fs])]) ex d':=by
 have hM:maxI=9223372036854775807:=rfl
 refine B7 (l:=range l.length) (TF l) (fun i=>([.ptr 0 0,.sl TPd l,.j (l.length:Int),.j (i:Int)],[some (.box [.sl TPd l,.sl FNd fs])])) (ex:=((.exit 0:Ex),([.ptr 0 0],[some (.box [.sl TPd l,.sl FNd fs])]))) (rt:=((.ret:Ex),([.b false],[]))) (by simp) (by simp) (fun n hn'=>?_) ?_ (l.length-i) i (by simp; omega) ex d' hx
 ·have hlt:n<l.length:=by simpa using hn'
  have hr:=MC l fs l l.length n
  try dsimp only [shr] at hr
  have s1:=all_eq_true.1 hs _ (getElem_mem hlt)
  rw [Af (dcT (by omega)),Aa (by simp only [anE,dcE]; omega),ntN,gtE hlt,Am,Ap (n:=n) (by omega)] at hr
  refine hr.trans ?_
  clear hr hx hs
  rw [getElem_range]
  have e:TF l n=(tOK l[n]&&atT l l[n].1==(n:Int)):=by
   unfold TF
   rw [gtE hlt]
  rw [e]
  generalize l[n]=f at s1 ⊢
  obtain ⟨f1,⟨f2,⟨⟩⟩,f3,⟨⟩⟩:=f
  dsimp only
  rw [Aa s1]
  cases tOK (f1,(f2,()),f3,()) with
  | false=>rfl
  | true=>
   by_cases q:atT l f1=(n:Int)
   ·rw [show (atT l f1==(n:Int))=true from beq_iff_eq.2 q,show (atT l f1 != (n:Int))=false from bne_eq_false_iff_eq.2 q]
    rfl
   ·rw [show (atT l f1==(n:Int))=false from beq_eq_false_iff_ne.2 q,show (atT l f1 != (n:Int))=true from bne_iff_ne.2 q]
    rfl
 ·have hr:=MC l fs l l.length l.length
  try dsimp only [shr] at hr
  rw [Ac (dcF (by omega))] at hr
  simp only [length_range]
  exact hr
theorem W3 (ts:List Tp) (l:List Fa) (hl:l.length<=4000000000) (ht:EA ts=true) (hs:l.all J6=true) (i:Nat) (h1:i<=l.length) (ex:Ex) (d':Dt)
  (hx:(Br.br (L3 ts l i) (.leaf ((.exit 2:Ex),([],[]))) (.leaf ((.ret:Ex),([.b false],[]))):Br (Ex×Dt)).run=some (ex,d')):Runs prog QF OM 0 (body f10 1) W4 ([.ptr 0 0,.sl FNd l,.j (l.length:Int),.j (i:Int)],[some (.box [.sl TPd ts,.sl FNd l])]) ex d':=by
 have hM:maxI=9223372036854775807:=rfl
 refine B7 (l:=range l.length) (fnS ts l) (fun i=>([.ptr 0 0,.sl FNd l,.j (l.length:Int),.j (i:Int)],[some (.box [.sl TPd ts,.sl FNd l])])) (ex:=((.exit 2:Ex),([],[]))) (rt:=((.ret:Ex),([.b false],[]))) (by simp) (by simp) (fun n hn'=>?_) ?_ (l.length-i) i (by simp; omega) ex d' hx
 ·have hlt:n<l.length:=by simpa using hn'
  have hr:=MB ts l l l.length n
  try dsimp only [shr] at hr
  have s1:=all_eq_true.1 hs _ (getElem_mem hlt)
  unfold J6 at s1
  rw [Af (dcT (by omega)),Aa (by simp only [anE,dcE]; omega),ntN,gtE hlt,Am,Ap (n:=n) (by omega),Nat.sub_zero,drop_zero,drop_zero] at hr
  refine hr.trans ?_
  clear hr hx hs
  rw [getElem_range]
  have e:fnS ts l n=(Qr ts l[n].1 l[n].2.1 l[n].2.2.1.1 l[n].2.2.2.1.1 l[n].2.2.2.2.1 l[n].2.2.2.2.2.1&&(l.take n).all (noW l[n].1)):=by
   unfold fnS
   rw [gtE hlt]
  rw [e]
  generalize l[n]=f at s1 ⊢
  have s2:GK ts f.2.1 f.2.2.2.1.1 f.2.2.2.2.1=true:=by
   unfold GK
   rw [ht,Bool.true_and]
   exact s1
  rw [Aa s2]
  cases Qr ts f.1 f.2.1 f.2.2.1.1 f.2.2.2.1.1 f.2.2.2.2.1 f.2.2.2.2.2.1 with
  | false=>rfl
  | true=>
   have h9:(l.take n).length<=4000000000:=by simp; omega
   rw [Bool.not_true,AS,Aa (show (decide (0<=(n:Int))&&decide ((n:Int)<=(l.length:Int)))=true by simp only [anE,dcE]; omega),Aa (dcT ⟨by omega,by omega,rfl,h9⟩)]
   cases (l.take n).all (noW f.1)<;>rfl
 ·have hr:=MB ts l l l.length l.length
  try dsimp only [shr] at hr
  rw [Ac (dcF (by omega))] at hr
  simp only [length_range]
  exact hr
theorem Wz (ts:List Tp) (fs:List Fa) (w:Int) (p:List UInt8) (ws:List Wt) (v:List Ty) (b:List Nt) (t:Int) (l:List Fa) (k0 i0:Int) (q:List Fa) (hq:q.length<=4000000000) (i:Nat) (h1:i<=q.length) (ex:Ex) (d':Dt)
  (hx:(Br.br ((q.drop i).all (noW w)) (.leaf ((.exit 4:Ex),([.ptr 0 0,.sl FNd l,.j k0,.j i0],[some (.box [.sl TPd ts,.sl FNd fs])]))) (.leaf ((.ret:Ex),([.b false],[]))):Br (Ex×Dt)).run=some (ex,d')):Runs prog QF OM 0 (body f10 2) W0 ([.ptr 0 0,.ptr 1 0,.sl FNd l,.j k0,.j i0,.sl FNd q,.j (q.length:Int),.j (i:Int)],[some (.box [.sl TPd ts,.sl FNd fs]),some (.box [.j w,.s p,.sl WCd ws,.sl TCd v,.sl NTd b,.j t])]) ex d':=by
 have hM:maxI=9223372036854775807:=rfl
 refine B7 (l:=q) (noW w) (fun i=>([.ptr 0 0,.ptr 1 0,.sl FNd l,.j k0,.j i0,.sl FNd q,.j (q.length:Int),.j (i:Int)],[some (.box [.sl TPd ts,.sl FNd fs]),some (.box [.j w,.s p,.sl WCd ws,.sl TCd v,.sl NTd b,.j t])])) (ex:=((.exit 4:Ex),([.ptr 0 0,.sl FNd l,.j k0,.j i0],[some (.box [.sl TPd ts,.sl FNd fs])]))) (rt:=((.ret:Ex),([.b false],[]))) (by simp) (by simp) (fun n hlt=>?_) ?_ (q.length-i) i (by omega) ex d' hx
 ·have hr:=MA ts fs w p ws v b t l k0 i0 q q.length n
  try dsimp only [shr] at hr
  rw [Af (dcT (by omega)),Aa (by simp only [anE,dcE]; omega),ntN,gtE hlt,Am,Ap (n:=n) (by omega)] at hr
  refine hr.trans ?_
  unfold noW
  cases q[n].1==w<;>rfl
 ·have hr:=MA ts fs w p ws v b t l k0 i0 q q.length q.length
  try dsimp only [shr] at hr
  rw [Ac (dcF (by omega))] at hr
  exact hr
theorem Adz:Ar prog QF OM 0 (f10.body.getD .skip):=by
 refine LoopsI.loops (cs:=[body f10 0,body f10 1,body f10 2]) ?_ (by kernel_rfl)
 refine .cons (ent:=W6) (by rfl) (fun d ex d' h=>?_) (.cons (ent:=W4) (by rfl) (fun d ex d' h=>?_) (.cons (ent:=W0) (by rfl) (fun d ex d' h=>?_) .nil))
 ·unfold W6 at h
  dsimp only at h
  split at h
  ·rename_i l k i bb
   split at h
   ·rename_i ts fs
    obtain ⟨hc,hx⟩:=Ad h
    clear h
    rw [anE] at hc
    obtain ⟨hc,hs⟩:=hc
    obtain ⟨h0,h1,h2,h3,h4⟩:=of_decide_eq_true hc
    have h3:l=ts:=h3
    subst h3
    subst h2
    obtain ⟨i,rfl⟩:=eq_ofNat_of_zero_le h0
    simp only [ntN] at h1 hx
    exact W5 l fs h4 hs i h1 ex d' hx
   ·cases h
  ·cases h
 ·unfold W4 at h
  dsimp only at h
  split at h
  ·rename_i l k i bb
   split at h
   ·rename_i ts fs
    obtain ⟨hc,hx⟩:=Ad h
    clear h
    rw [anE,anE] at hc
    obtain ⟨hc,ht,hs⟩:=hc
    obtain ⟨h0,h1,h2,h3,h4⟩:=of_decide_eq_true hc
    have h3:l=fs:=h3
    subst h3
    subst h2
    obtain ⟨i,rfl⟩:=eq_ofNat_of_zero_le h0
    simp only [ntN] at h1 hx
    exact W3 ts l h4 ht hs i h1 ex d' hx
   ·cases h
  ·cases h
 ·unfold W0 at h
  dsimp only at h
  split at h
  ·rename_i l k0 i0 vs bb bf
   split at h
   ·rename_i q k i
    split at h
    ·rename_i ts fs
     split at h
     ·rename_i w p ws v b t
      obtain ⟨hc,hx⟩:=Ad h
      clear h
      obtain ⟨h0,h1,h2,h3⟩:=of_decide_eq_true hc
      subst h2
      obtain ⟨i,rfl⟩:=eq_ofNat_of_zero_le h0
      simp only [ntN] at h1 hx
      exact Wz ts fs w p ws v b t l k0 i0 q h3 i h1 ex d' hx
     ·cases h
    ·cases h
   ·cases h
  ·cases h
theorem YH:Ag prog 10 (Ent.rd1 XS).F:=by
 refine Ae (kc func37 Afi (kc func38 sat (kc func39 Abm KnowsL.nil))).knows (Λ:=OM) func10 (c:=f10.body.getD .skip) (by kernel_rfl) fun vs bs r hq hv hb=>?_
 unfold Ent.F XS at hq
 dsimp only at hq
 split at hq
 ·rename_i ts fs
  obtain ⟨hc,hx⟩:=Ad hq
  unfold NQ at hc
  rw [anE,anE] at hc
  obtain ⟨hc,h2,h3⟩:=hc
  obtain ⟨h0,h1⟩:=of_decide_eq_true hc
  refine ⟨Adz,(YK ts fs).trans (Eq.trans ?_ hx)⟩
  try dsimp only [shr]
  show _=some _
  unfold HT
  rw [Aa (by rw [anE]; exact ⟨dcT (by refine ⟨by omega,by omega,?_,?_,h0⟩<;>first | rfl | trivial),h2⟩)]
  cases h4:C8 ts 0 with
  | false=>rfl
  | true=>
   by_cases h5:ts.length<=4
   ·rw [dcT h5,Be,Ac (dcF (by omega))]
    by_cases h6:fs.length<=4
    ·have h7:EA ts=true:=by unfold EA; rw [dcT h0,h2,Fr h4]; rfl
     rw [dcT h6]
     rw [Ac (dcF (by omega)),Aa (by rw [anE,anE]; exact ⟨dcT (by refine ⟨by omega,by omega,?_,?_,h1⟩<;>first | rfl | trivial),h7,h3⟩)]
     cases L3 ts fs 0<;>rfl
    ·rw [dcF h6,Af (dcT (by omega))]
     rfl
   ·rw [dcF h5,Be,Af (dcT (by omega))]
    rfl
 ·cases hq

theorem Nw {α:Type} (p:α->Bool) : ∀ (l:List α) (n i:Nat) (h:i<l.length),p l[i]=true->(Aq p n l==((n+i:Nat):Int))=(l.take i).all (fun x=>!p x)
 | [],n,i,h,_=>by simp at h
 | x::l,n,0,h,hp=>by
  simp only [List.getElem_cons_zero] at hp
  rw [Aq]
  simp [hp]
 | x::l,n,i+1,h,hp=>by
  simp only [List.getElem_cons_succ] at hp
  have hl:i<l.length:=by simpa using h
  rw [Aq,List.take_succ_cons,all_cons]
  cases hx:p x with
  | true=>
   have : ¬((n:Int)=((n+(i+1):Nat):Int)):=by omega
   simp only [if_true,all_cons,Bool.not_true,Bool.false_and]
   exact beq_eq_false_iff_ne.2 this
  | false=>
   have:=Nw p l (n+1) i hl hp
   rw [show n+(i+1)=n+1+i by omega]
   simpa using this
theorem Uz (m:List (List UInt8×Int)) (x y:List UInt8) (v:Int):Cu .str (D1 .str m x v) y=if y=x then some v else Cu .str m y:=by
 induction m with
 | nil=>
  show (match (y==x) with | true=>some v | false=>none)=_
  by_cases h:y=x
  ·subst h; simp
  ·rw [beq_false_of_ne h,if_neg h]; rfl
 | cons e m ih=>
  show Cu .str (match (x==e.1) with | true=>(x,v)::m | false=>e::D1 .str m x v) y=_
  by_cases h:x=e.1
  ·rw [h,beq_self_eq_true]
   show (match (y==e.1) with | true=>some v | false=>Cu .str m y)=if y=e.1 then some v else (match (y==e.1) with | true=>some e.2 | false=>Cu .str m y)
   by_cases h2:y=e.1
   ·rw [if_pos h2,h2,beq_self_eq_true]
   ·rw [if_neg h2,beq_false_of_ne h2]
  ·rw [beq_false_of_ne h]
   show (match (y==e.1) with | true=>some e.2 | false=>Cu .str (D1 .str m x v) y)=if y=x then some v else (match (y==e.1) with | true=>some e.2 | false=>Cu .str m y)
   by_cases h2:y=e.1
   ·have hn : ¬y=x:=fun q=>h (q.symm.trans h2)
    rw [if_neg hn,h2,beq_self_eq_true]
   ·rw [beq_false_of_ne h2]
    exact ih
def gm (m:List (List UInt8×Int)) (x:List UInt8):Int:=(Cu .str m x).getD 0
theorem Ac3 (m:List (List UInt8×Int)) (x y:List UInt8) (v:Int):gm (D1 .str m x v) y=if y=x then v else gm m y:=by
 unfold gm
 rw [Uz]
 split<;>rfl
def Aal (m:List (List UInt8×Int)) (q:List Nt):Prop:=∀ x,(∀ o∈q,o.1=x->o.2.1<=gm m x)/\(gm m x=0\/∃ o∈q,o.1=x/\o.2.1=gm m x)/\0<=gm m x/\gm m x<=1000
theorem Ade {ts:List Tp} (h:ts.all tOK=true) (x:List UInt8) (ha:0<=atT ts x):Fn ts x<=1000:=by
 rcases SP ts x with h1 | ⟨h1,h2,h3⟩
 ·omega
 ·unfold Fn
  rw [gtE h2]
  have:=all_eq_true.1 h _ (getElem_mem h2)
  unfold tOK at this
  simp only [anE,dcE] at this
  exact this.2.2.2
theorem Z0 {v:List Ty} (hk:Bf v=true) (s:List UInt8):Md v s=NI (t2L v 0) s:=by
 unfold Md UH NI
 rw [hk,Bool.and_true]
theorem Ad9 {ts:List Tp} {v:List Ty} (hk:Bf v=true) {m:List (List UInt8×Int)} {b:List Nt} {i:Nat} (hi:i<b.length) (hm:Aal m (b.take i)):ntI ts (t2L v 0) m b[i]=ntS ts v b i:=by
 obtain ⟨h1,h2,h3,h4⟩:=hm b[i].1
 have hw:i64.wrap (gm m b[i].1+1)=gm m b[i].1+1:=Aw (by omega) (by omega)
 unfold ntI ntS
 rw [gtE hi]
 dsimp only
 rw [Z0 hk,show (Cu .str m b[i].1).getD 0=gm m b[i].1 from rfl,hw,Bool.eq_iff_iff]
 simp only [anE,dcE,all_eq_true]
 constructor
 ·rintro ⟨a,⟨c,d⟩,e⟩
  refine ⟨a,⟨by omega,d⟩,e,fun o ho=>?_⟩
  unfold ltB
  by_cases q:o.1=b[i].1
  ·have:=h1 o ho q
   rw [dcF (by omega),Bool.and_false]; rfl
  ·rw [beq_false_of_ne q]; rfl
 ·rintro ⟨a,⟨c,d⟩,e,f⟩
  refine ⟨a,⟨?_,d⟩,e⟩
  rcases h2 with h2 | ⟨o,ho,h5,h6⟩
  ·omega
  ·have:=f o ho
   unfold ltB at this
   rw [h5,beq_self_eq_true,Bool.true_and] at this
   by_cases q:o.2.1>=b[i].2.1
   ·rw [dcT q] at this; cases this
   ·omega
theorem XA {ts:List Tp} {v:List Ty} (ht:ts.all tOK=true) {m:List (List UInt8×Int)} {b:List Nt} {i:Nat} (hi:i<b.length) (hm:Aal m (b.take i)) (h:ntI ts (t2L v 0) m b[i]=true):Aal (D1 .str m b[i].1 b[i].2.1) (b.take (i+1)):=by
 obtain ⟨h1,h2,h3,h4⟩:=hm b[i].1
 have hw:i64.wrap (gm m b[i].1+1)=gm m b[i].1+1:=Aw (by omega) (by omega)
 unfold ntI at h
 rw [show (Cu .str m b[i].1).getD 0=gm m b[i].1 from rfl,hw] at h
 simp only [anE,dcE] at h
 obtain ⟨a,⟨c,d⟩,e⟩:=h
 have hc:=Ade ht _ a
 intro x
 rw [Ac3,List.take_succ_eq_append_getElem hi]
 by_cases q:x=b[i].1
 ·rw [if_pos q]
  refine ⟨fun o ho hx=>?_,.inr ⟨b[i],mem_append.2 (.inr (List.mem_singleton.2 rfl)),q.symm,rfl⟩,by omega,by omega⟩
  rcases mem_append.1 ho with ho | ho
  ·have:=h1 o ho (hx.trans q); omega
  ·rw [List.mem_singleton.1 ho]; exact le_refl _
 ·rw [if_neg q]
  obtain ⟨g1,g2,g3,g4⟩:=hm x
  refine ⟨fun o ho hx=>?_,?_,g3,g4⟩
  ·rcases mem_append.1 ho with ho | ho
   ·exact g1 o ho hx
   ·rw [List.mem_singleton.1 ho] at hx; exact absurd hx.symm q
  ·rcases g2 with g2 | ⟨o,ho,h5,h6⟩
   ·exact .inl g2
   ·exact .inr ⟨o,mem_append.2 (.inl ho),h5,h6⟩
theorem XD {ts:List Tp} {v:List Ty} (hk:Bf v=true) (ht:ts.all tOK=true) (b:List Nt) : ∀ (j i:Nat) (m:List (List UInt8×Int)),i+j=b.length->Aal m (b.take i)->HH ts (t2L v 0) m (b.drop i)=I1 ts v b i
 | 0,i,m,hi,hm=>by
  unfold I1
  rw [drop_eq_nil_of_le (by omega),drop_eq_nil_of_le (by simp; omega),HH]
  rfl
 | j+1,i,m,hi,hm=>by
  have hlt:i<b.length:=by omega
  have e:I1 ts v b i=(ntS ts v b i&&I1 ts v b (i+1)):=by
   unfold I1
   rw [drop_eq_getElem_cons (by simpa using hlt),all_cons,getElem_range]
  rw [e,drop_eq_getElem_cons hlt,HH,<-Ad9 hk hlt hm]
  cases h:ntI ts (t2L v 0) m b[i] with
  | false=>rfl
  | true=>
   rw [Bool.true_and,Bool.true_and]
   exact XD hk ht b j (i+1) _ (by omega) (XA ht hlt hm h)
theorem Z1 {ts:List Tp} {v:List Ty} (hk:Bf v=true) (ht:ts.all tOK=true) (b:List Nt):HH ts (t2L v 0) [] b=I1 ts v b 0:=
 XD hk ht b b.length 0 [] (by omega) (fun x=>⟨fun o ho=>(by simp at ho),.inl rfl,le_refl _,by show (0:Int)<=1000; decide⟩)
theorem Ac6 {ts:List Tp} (ht:ts.all tOK=true) (w:Int) (p:List UInt8) (ws:List Wt) (v:List Ty) (b:List Nt) (t:Int):Qs ts w p ws v b t=Qr ts w p ws v b t:=by
 unfold Qs Qr
 cases hk:Bf v with
 | false=>rfl
 | true=>rw [Z1 hk ht]
theorem Aa6 {ts:List Tp} (ht:ts.all tOK=true) {fs:List Fa} {i:Nat} (hi:i<fs.length):UV ts fs i=fnS ts fs i:=by
 unfold UV fnS
 rw [gtE hi]
 dsimp only
 rw [Ac6 ht,Bool.and_comm]
 congr 1
 have:=Nw (fun f:Fa=>f.1==fs[i].1) fs 0 i hi (by simp)
 rw [zero_add] at this
 exact this
theorem UT (ts:List Tp) (fs:List Fa):FO ts fs=HT ts fs:=by
 unfold FO HT
 cases h:C8 ts 0 with
 | false=>rfl
 | true=>
  have ht:=Fr h
  have e:L4 ts fs 0=L3 ts fs 0:=by
   unfold L4 L3
   rw [drop_zero,Bool.eq_iff_iff,all_eq_true,all_eq_true]
   constructor
   ·intro h i hi; rw [<-Aa6 ht (by simpa using hi)]; exact h i hi
   ·intro h i hi; rw [Aa6 ht (by simpa using hi)]; exact h i hi
  rw [e]
def szA (k:Int) (w:Nat):Br (V×List (Option Blk)):=.br (decide (k-(w:Int)<0)) (.leaf (.i .i64 (-1),[])) (.leaf (.i .i64 (k-(w:Int)),[]))
def wNt (z:Nt):Nat:=z.1.length+z.2.2.1.length
def RI (z:Nt):Bool:=decide (z.1.length<=maxI/\z.2.2.1.length<=maxI)
def M6:Gm
 | [.agg [.s a,.i .i64 c,.s b],.i .i64 k],[]=>.need (decide (0<=k/\k<=1048576)&&RI (a,c,b,())) (szA k (wNt (a,c,b,())))
 | _,_=>.no
def wTy (z:Ty):Nat:=z.2.1.length
def Pz (z:Ty):Bool:=decide (z.2.1.length<=maxI)
def M3:Gm
 | [.agg [.i .i64 a,.s b,.i .i64 c,.b d,.i .i64 e,.i .i64 f],.i .i64 k],[]=>.need (decide (0<=k/\k<=1048576)&&Pz (a,b,c,d,e,f,())) (szA k (wTy (a,b,c,d,e,f,())))
 | _,_=>.no
def wWt (z:Wt):Nat:=z.2.2.2.1.length
def RH (z:Wt):Bool:=decide (z.2.2.2.1.length<=maxI)
def M2:Gm
 | [.agg [.i .i64 a,.i .i64 c,.i .i64 d,.s b,.i .i64 e,.i .i64 f],.i .i64 k],[]=>.need (decide (0<=k/\k<=1048576)&&RH (a,c,d,b,e,f,())) (szA k (wWt (a,c,d,b,e,f,())))
 | _,_=>.no
def Du (l:List Nt):Nat:=(l.map wNt).sum
def Kb (l:List Nt):Nat:=l.length+Du l
def H1 (l:List Nt):Bool:=decide (l.length<=maxI)&&l.all RI
def Fx:LoopEnt:=⟨27,[0,1,5],[1],[4],fun
 | ([.sl NTd l,.i .i64 k,.i .i64 i],[])=>.need (decide (0<=i/\i.toNat<=l.length/\0<=k/\k<=1048576)&&H1 l) (.br (decide (k-(Du (l.drop i.toNat):Int)<0)) (.leaf (.ret,([.i .i64 (-1)],[]))) (.leaf (.exit 0,([.i .i64 (k-(Du (l.drop i.toNat):Int))],[]))))
 | _=>.no⟩
def Rr:Gm
 | [.sl NTd l,.i .i64 k],[]=>.need (decide (0<=k/\k<=1048576)&&H1 l) (szA k (Kb l))
 | _,_=>.no
def D7 (l:List Ty):Nat:=(l.map wTy).sum
def J4 (l:List Ty):Nat:=l.length+D7 l
def G6 (l:List Ty):Bool:=decide (l.length<=maxI)&&l.all Pz
def Fv:LoopEnt:=⟨27,[0,1,5],[1],[4],fun
 | ([.sl TCd l,.i .i64 k,.i .i64 i],[])=>.need (decide (0<=i/\i.toNat<=l.length/\0<=k/\k<=1048576)&&G6 l) (.br (decide (k-(D7 (l.drop i.toNat):Int)<0)) (.leaf (.ret,([.i .i64 (-1)],[]))) (.leaf (.exit 0,([.i .i64 (k-(D7 (l.drop i.toNat):Int))],[]))))
 | _=>.no⟩
def Rl:Gm
 | [.sl TCd l,.i .i64 k],[]=>.need (decide (0<=k/\k<=1048576)&&G6 l) (szA k (J4 l))
 | _,_=>.no
def D6 (l:List Wt):Nat:=(l.map wWt).sum
def LV (l:List Wt):Nat:=l.length+D6 l
def H0 (l:List Wt):Bool:=decide (l.length<=maxI)&&l.all RH
def Fu:LoopEnt:=⟨27,[0,1,5],[1],[4],fun
 | ([.sl WCd l,.i .i64 k,.i .i64 i],[])=>.need (decide (0<=i/\i.toNat<=l.length/\0<=k/\k<=1048576)&&H0 l) (.br (decide (k-(D6 (l.drop i.toNat):Int)<0)) (.leaf (.ret,([.i .i64 (-1)],[]))) (.leaf (.exit 0,([.i .i64 (k-(D6 (l.drop i.toNat):Int))],[]))))
 | _=>.no⟩
def Rj:Gm
 | [.sl WCd l,.i .i64 k],[]=>.need (decide (0<=k/\k<=1048576)&&H0 l) (szA k (LV l))
 | _,_=>.no
theorem CG {k:Int} {w:Nat} (h:k-(w:Int)<0):(szA k w).run=some (.j (-1),[]):=by
 unfold szA; rw [Id (dcT h)]; rfl
theorem Et {k:Int} {w:Nat} (h : ¬k-(w:Int)<0):(szA k w).run=some (.j (k-(w:Int)),[]):=by
 unfold szA; rw [IM (dcF h)]; rfl
theorem TU (a:List UInt8) (c:Int) (b:List UInt8) (k:Int):Ax prog (Ab []) (Ab []) f161 [.agg [.s a,.j c,.s b],.j k] [] =
 ((ifB (decide (i64.wrap (k-(↑a.length:Int))<(0:Int))) (some (V.j (-1),[])) (ifB (decide (i64.wrap (i64.wrap (k-(↑a.length:Int)) -
 (↑b.length:Int))<(0:Int))) (some (V.j (-1),[])) (some (V.j (i64.wrap (i64.wrap (k-(↑a.length:Int))-(↑b.length:Int))),[])))):_):=by kernel_rfl
theorem Wg:Ag prog 161 (Ent.rd1 M6).F:=by
 refine Ae KnowsL.nil.knows (Λ:=Ab []) func161 (c:=f161.body.getD .skip) (by kernel_rfl) fun vs_ bs_ r_ hq_ hv_ hb_=>?_
 unfold Ent.F M6 at hq_
 dsimp only at hq_
 split at hq_
 ·rename_i a c b k
  obtain ⟨hc,hx⟩:=Ad hq_
  rw [anE,dcE] at hc
  obtain ⟨⟨h0,h1⟩,h2⟩:=hc
  unfold RI at h2
  dsimp only at h2
  have hM:maxI=9223372036854775807:=rfl
  refine ⟨Ak _,(TU a c b k).trans (Eq.trans ?_ hx)⟩
  show _=(szA k (wNt (a,c,b,()))).run
  unfold wNt
  dsimp only
  obtain ⟨h3,h4⟩:=of_decide_eq_true h2
  have hw:i64.wrap (k-(a.length:Int))=k-(a.length:Int):=Aw (by omega) (by omega)
  rw [hw]
  by_cases q:k-(a.length:Int)<0
  ·rw [Af (dcT q),CG (by push_cast; omega)]
  ·have hw2:i64.wrap (k-(a.length:Int)-(b.length:Int))=k-(a.length:Int)-(b.length:Int):=Aw (by omega) (by omega)
   rw [Ac (dcF q),hw2]
   have e:k-(a.length:Int)-(b.length:Int)=k-((a.length+b.length:Nat):Int):=by push_cast; omega
   rw [e]
   by_cases q2:k-((a.length+b.length:Nat):Int)<0
   ·rw [Af (dcT q2),CG q2]
   ·rw [Ac (dcF q2),Et q2]
 ·cases hq_
theorem TQ (a:Int) (b:List UInt8) (c:Int) (d:Bool) (e f:Int) (k:Int):Ax prog (Ab []) (Ab []) f198 [.agg [.j a,.s b,.j c,.b d,.j e,.j f],.j k] [] =
 ((ifB (decide (i64.wrap (k-(↑b.length:Int))<(0:Int))) (some (V.j (-1),[])) (some (V.j (i64.wrap (k-(↑b.length:Int))),[]))):_):=by kernel_rfl
theorem We:Ag prog 198 (Ent.rd1 M3).F:=by
 refine Ae KnowsL.nil.knows (Λ:=Ab []) func198 (c:=f198.body.getD .skip) (by kernel_rfl) fun vs_ bs_ r_ hq_ hv_ hb_=>?_
 unfold Ent.F M3 at hq_
 dsimp only at hq_
 split at hq_
 ·rename_i a b c d e f k
  obtain ⟨hc,hx⟩:=Ad hq_
  rw [anE,dcE] at hc
  obtain ⟨⟨h0,h1⟩,h2⟩:=hc
  unfold Pz at h2
  dsimp only at h2
  have hM:maxI=9223372036854775807:=rfl
  refine ⟨Ak _,(TQ a b c d e f k).trans (Eq.trans ?_ hx)⟩
  show _=(szA k (wTy (a,b,c,d,e,f,()))).run
  unfold wTy
  dsimp only
  have h3:=of_decide_eq_true h2
  have hw:i64.wrap (k-(b.length:Int))=k-(b.length:Int):=Aw (by omega) (by omega)
  rw [hw]
  by_cases q:k-(b.length:Int)<0
  ·rw [Af (dcT q),CG q]
  ·rw [Ac (dcF q),Et q]
 ·cases hq_
theorem TO (a c d:Int) (b:List UInt8) (e f:Int) (k:Int):Ax prog (Ab []) (Ab []) f200 [.agg [.j a,.j c,.j d,.s b,.j e,.j f],.j k] [] =
 ((ifB (decide (i64.wrap (k-(↑b.length:Int))<(0:Int))) (some (V.j (-1),[])) (some (V.j (i64.wrap (k-(↑b.length:Int))),[]))):_):=by kernel_rfl
theorem Wd:Ag prog 200 (Ent.rd1 M2).F:=by
 refine Ae KnowsL.nil.knows (Λ:=Ab []) func200 (c:=f200.body.getD .skip) (by kernel_rfl) fun vs_ bs_ r_ hq_ hv_ hb_=>?_
 unfold Ent.F M2 at hq_
 dsimp only at hq_
 split at hq_
 ·rename_i a c d b e f k
  obtain ⟨hc,hx⟩:=Ad hq_
  rw [anE,dcE] at hc
  obtain ⟨⟨h0,h1⟩,h2⟩:=hc
  unfold RH at h2
  dsimp only at h2
  have hM:maxI=9223372036854775807:=rfl
  refine ⟨Ak _,(TO a c d b e f k).trans (Eq.trans ?_ hx)⟩
  show _=(szA k (wWt (a,c,d,b,e,f,()))).run
  unfold wWt
  dsimp only
  have h3:=of_decide_eq_true h2
  have hw:i64.wrap (k-(b.length:Int))=k-(b.length:Int):=Aw (by omega) (by omega)
  rw [hw]
  by_cases q:k-(b.length:Int)<0
  ·rw [Af (dcT q),CG q]
  ·rw [Ac (dcF q),Et q]
 ·cases hq_
theorem IY (l:List Nt) (k i:Int):Av prog (Ab [(161,.rd1 M6)]) (Ab [(5,Fx)]) 0 (body f119 0) Fx ([.sl NTd l,.j k,.j i],[]) =
 ((ifB (decide (i<(↑l.length:Int))) (ifT (decide ((0:Int)<=i)&&decide (i<(↑l.length:Int))) (Ah l[i.toNat]? fun z=>ifT (decide ((0:Int)<=k/\k<=(1048576
 : Int))&&RI (z.fst,z.snd.fst,z.snd.snd.fst,())) (ifB (decide (k-(↑(wNt (z.fst,z.snd.fst,z.snd.snd.fst,())):Int)<(0:Int))) (some (Ex.ret,[V.i .i64
 (-1)],[])) (ifB (decide (k-(↑(wNt (z.fst,z.snd.fst,z.snd.snd.fst,())):Int)<(0:Int))) (some (Ex.ret,[V.j (-1)],[])) (some (Ex.normal,[V.sl NTd l,V.i
 .i64 (k-(↑(wNt (z.fst,z.snd.fst,z.snd.snd.fst,())):Int)),V.j (i64.wrap (i+(1:Int)))],[])))))) (some (Ex.exit 0,[V.j k],[]))):_):=by kernel_rfl
theorem Rq (l:List Nt) (k:Int):Ax prog (Ab [(161,.rd1 M6)]) (Ab [(5,Fx)]) f119 [.sl NTd l,.j k] [] =
 ((ifB (decide (i64.wrap (k-(↑l.length:Int))<(0:Int))) (some (V.j (-1),[])) (ifT (decide ((0:Int)<=(0:Int)/\0<=l.length/\(0:Int)<=
 i64.wrap (k-(↑l.length:Int))/\i64.wrap (k-(↑l.length:Int))<=(1048576:Int))&&H1 l) (ifB (decide (i64.wrap (k-(↑l.length:Int))
 - (↑(Du (drop 0 l)):Int)<(0:Int))) (some (V.j (-1),[])) (some (V.j (i64.wrap (k-(↑l.length:Int))-(↑(Du (drop (0 :
 Nat) l)):Int)),[]))))):_):=by kernel_rfl
theorem Kr (l:List Nt) (hl:l.length<=maxI) (ho : ∀ z∈l,RI z=true) : ∀ (j i:Nat) (k:Int),i+j=l.length->0<=k->k<=1048576->∀ ex d,(Br.br (decide (k-(Du (l.drop i):Int)<0)) (.leaf (.ret,([.j (-1)],[]))) (.leaf (.exit 0,([.j (k-(Du (l.drop i):Int))],[]))):Br (Ex×Dt)).run=some (ex,d)->Runs prog (Ab [(161,.rd1 M6)]) (Ab [(5,Fx)]) 0 (body f119 0) Fx ([.sl NTd l,.j k,.j (i:Int)],[]) ex d
 | 0,i,k,hi,h0,h1,ex,d,h=>by
  have hr:=IY l k i
  rw [Ac (dcF (by omega))] at hr
  have e0:(Du (l.drop i):Int)=0:=by rw [drop_eq_nil_of_le (by omega)]; rfl
  rw [e0,Int.sub_zero,IM (dcF (by omega))] at h
  have h8:=Ao h
  obtain ⟨rfl,rfl⟩:=Prod.mk.inj h8
  exact .stop _ _ _ hr (by simp)
 | j+1,i,k,hi,h0,h1,ex,d,h=>by
  have hM:maxI=9223372036854775807:=rfl
  have hlt:i<l.length:=by omega
  have hr:=IY l k i
  rw [Af (dcT (by omega)),Aa (by simp only [anE,dcE]; omega),ntN,gtE hlt,Am,Ap (n:=i) (by omega)] at hr
  have ho1:=ho _ (getElem_mem hlt)
  have e:Du (l.drop i)=wNt l[i]+Du (l.drop (i+1)):=by
   unfold Du
   rw [drop_eq_getElem_cons hlt,map_cons,sum_cons]
  generalize l[i]=z at hr ho1 e
  obtain ⟨a,c,b,⟨⟩⟩:=z
  dsimp only at hr
  rw [Aa (by rw [anE]; exact ⟨dcT ⟨h0,h1⟩,ho1⟩)] at hr
  generalize wNt _=w at hr e
  by_cases q:k-(w:Int)<0
  ·rw [Af (dcT q)] at hr
   rw [Id (dcT (by rw [e]; push_cast; omega))] at h
   have h8:=Ao h
   obtain ⟨rfl,rfl⟩:=Prod.mk.inj h8
   exact .stop _ _ _ hr (by simp)
  ·rw [Ac (dcF q),Ac (dcF q)] at hr
   have e2:k-(Du (l.drop i):Int)=k-(w:Int)-(Du (l.drop (i+1)):Int):=by rw [e]; push_cast; omega
   rw [e2] at h
   exact .step _ _ _ _ hr (Kr l hl ho j (i+1) (k-(w:Int)) (by omega) (by omega) (by omega) ex d h)
theorem ML {l:List Nt} (h:H1 l=true):l.length<=maxI/\∀ z∈l,RI z=true:=by
 unfold H1 at h
 rw [anE,dcE] at h
 exact ⟨h.1,all_eq_true.1 h.2⟩
theorem TT:Ag prog 119 (Ent.rd1 Rr).F:=by
 refine Ae (kc func161 Wg KnowsL.nil).knows (Λ:=(Ab [(5,Fx)])) func119 (c:=f119.body.getD .skip) (by kernel_rfl) fun vs bs r hq hv hb=>?_
 unfold Ent.F Rr at hq
 dsimp only at hq
 split at hq
 ·rename_i l k
  obtain ⟨hc,hx⟩:=Ad hq
  rw [anE,dcE] at hc
  obtain ⟨⟨h0,h1⟩,h2⟩:=hc
  obtain ⟨h3,h4⟩:=ML h2
  have hM:maxI=9223372036854775807:=rfl
  have hok:Ar prog (Ab [(161,.rd1 M6)]) (Ab [(5,Fx)]) 0 (f119.body.getD .skip):=by
   refine An (a:=body f119 0) (by kernel_rfl) fun d ex d' h=>?_
   unfold Fx at h
   dsimp only at h
   split at h
   ·rename_i l k i
    obtain ⟨hc,hx⟩:=Ad h
    rw [anE,dcE] at hc
    obtain ⟨⟨a0,a1,a2,a3⟩,a4⟩:=hc
    obtain ⟨b1,b2⟩:=ML a4
    obtain ⟨i,rfl⟩:=eq_ofNat_of_zero_le a0
    simp only [ntN] at a1 hx
    exact Kr l b1 b2 (l.length-i) i k (by omega) a2 a3 ex d' hx
   ·cases h
  refine ⟨hok,(Rq l k).trans (Eq.trans ?_ hx)⟩
  show _=(szA k (Kb l)).run
  have hw:i64.wrap (k-(l.length:Int))=k-(l.length:Int):=Aw (by omega) (by omega)
  unfold Kb
  rw [hw,drop_zero]
  by_cases q:k-(l.length:Int)<0
  ·rw [Af (dcT q),CG (by push_cast; omega)]
  ·rw [Ac (dcF q),Aa (by rw [anE]; exact ⟨dcT (by omega),h2⟩)]
   have e:k-(l.length:Int)-(Du l:Int)=k-((l.length+Du l:Nat):Int):=by push_cast; omega
   rw [e]
   by_cases q2:k-((l.length+Du l:Nat):Int)<0
   ·rw [Af (dcT q2),CG q2]
   ·rw [Ac (dcF q2),Et q2]
 ·cases hq
theorem IW (l:List Ty) (k i:Int):Av prog (Ab [(198,.rd1 M3)]) (Ab [(5,Fv)]) 0 (body f155 0) Fv ([.sl TCd l,.j k,.j i],[]) =
 ((ifB (decide (i<(↑l.length:Int))) (ifT (decide ((0:Int)<=i)&&decide (i<(↑l.length:Int))) (Ah l[i.toNat]? fun z=>ifT (decide ((0:Int)<=k/\k<=(1048576
 : Int))&&Pz (z.fst,z.snd.fst,z.snd.snd.fst,z.snd.snd.snd.fst,z.snd.snd.snd.snd.fst,z.snd.snd.snd.snd.snd.fst,())) (ifB (decide (k-(↑(wTy (z.fst,z.snd.fst,
 z.snd.snd.fst,z.snd.snd.snd.fst,z.snd.snd.snd.snd.fst,z.snd.snd.snd.snd.snd.fst,())):Int)<(0:Int))) (some (Ex.ret,[V.j (-1)],[])) (ifB (decide (k -
 (↑(wTy (z.fst,z.snd.fst,z.snd.snd.fst,z.snd.snd.snd.fst,z.snd.snd.snd.snd.fst,z.snd.snd.snd.snd.snd.fst,())):Int)<(0:Int))) (some (Ex.ret,[V.j (-1)],
 [])) (some (Ex.normal,[V.sl TCd l,V.j (k-(↑(wTy (z.fst,z.snd.fst,z.snd.snd.fst,z.snd.snd.snd.fst,z.snd.snd.snd.snd.fst,z.snd.snd.snd.snd.snd.fst,())) :
 Int)),V.j (i64.wrap (i+(1:Int)))],[])))))) (some (Ex.exit 0,[V.j k],[]))):_):=by kernel_rfl
theorem Rk (l:List Ty) (k:Int):Ax prog (Ab [(198,.rd1 M3)]) (Ab [(5,Fv)]) f155 [.sl TCd l,.j k] [] =
 ((ifB (decide (i64.wrap (k-(↑l.length:Int))<(0:Int))) (some (V.j (-1),[])) (ifT (decide ((0:Int)<=(0:Int)/\0<=l.length/\(0:Int)<=
 i64.wrap (k-(↑l.length:Int))/\i64.wrap (k-(↑l.length:Int))<=(1048576:Int))&&G6 l) (ifB (decide (i64.wrap (k-(↑l.length:Int))
 - (↑(D7 (drop 0 l)):Int)<(0:Int))) (some (V.j (-1),[])) (some (V.j (i64.wrap (k-(↑l.length:Int))-(↑(D7 (drop (0 :
 Nat) l)):Int)),[]))))):_):=by kernel_rfl
theorem Kp (l:List Ty) (hl:l.length<=maxI) (ho : ∀ z∈l,Pz z=true) : ∀ (j i:Nat) (k:Int),i+j=l.length->0<=k->k<=1048576->∀ ex d,(Br.br (decide (k-(D7 (l.drop i):Int)<0)) (.leaf (.ret,([.j (-1)],[]))) (.leaf (.exit 0,([.j (k-(D7 (l.drop i):Int))],[]))):Br (Ex×Dt)).run=some (ex,d)->Runs prog (Ab [(198,.rd1 M3)]) (Ab [(5,Fv)]) 0 (body f155 0) Fv ([.sl TCd l,.j k,.j (i:Int)],[]) ex d
 | 0,i,k,hi,h0,h1,ex,d,h=>by
  have hr:=IW l k i
  rw [Ac (dcF (by omega))] at hr
  have e0:(D7 (l.drop i):Int)=0:=by rw [drop_eq_nil_of_le (by omega)]; rfl
  rw [e0,Int.sub_zero,IM (dcF (by omega))] at h
  have h8:=Ao h
  obtain ⟨rfl,rfl⟩:=Prod.mk.inj h8
  exact .stop _ _ _ hr (by simp)
 | j+1,i,k,hi,h0,h1,ex,d,h=>by
  have hM:maxI=9223372036854775807:=rfl
  have hlt:i<l.length:=by omega
  have hr:=IW l k i
  rw [Af (dcT (by omega)),Aa (by simp only [anE,dcE]; omega),ntN,gtE hlt,Am,Ap (n:=i) (by omega)] at hr
  have ho1:=ho _ (getElem_mem hlt)
  have e:D7 (l.drop i)=wTy l[i]+D7 (l.drop (i+1)):=by
   unfold D7
   rw [drop_eq_getElem_cons hlt,map_cons,sum_cons]
  generalize l[i]=z at hr ho1 e
  obtain ⟨a,b,c,d_,e_,f,⟨⟩⟩:=z
  dsimp only at hr
  rw [Aa (by rw [anE]; exact ⟨dcT ⟨h0,h1⟩,ho1⟩)] at hr
  generalize wTy _=w at hr e
  by_cases q:k-(w:Int)<0
  ·rw [Af (dcT q)] at hr
   rw [Id (dcT (by rw [e]; push_cast; omega))] at h
   have h8:=Ao h
   obtain ⟨rfl,rfl⟩:=Prod.mk.inj h8
   exact .stop _ _ _ hr (by simp)
  ·rw [Ac (dcF q),Ac (dcF q)] at hr
   have e2:k-(D7 (l.drop i):Int)=k-(w:Int)-(D7 (l.drop (i+1)):Int):=by rw [e]; push_cast; omega
   rw [e2] at h
   exact .step _ _ _ _ hr (Kp l hl ho j (i+1) (k-(w:Int)) (by omega) (by omega) (by omega) ex d h)
theorem In {l:List Ty} (h:G6 l=true):l.length<=maxI/\∀ z∈l,Pz z=true:=by
 unfold G6 at h
 rw [anE,dcE] at h
 exact ⟨h.1,all_eq_true.1 h.2⟩
theorem TP:Ag prog 155 (Ent.rd1 Rl).F:=by
 refine Ae (kc func198 We KnowsL.nil).knows (Λ:=(Ab [(5,Fv)])) func155 (c:=f155.body.getD .skip) (by kernel_rfl) fun vs bs r hq hv hb=>?_
 unfold Ent.F Rl at hq
 dsimp only at hq
 split at hq
 ·rename_i l k
  obtain ⟨hc,hx⟩:=Ad hq
  rw [anE,dcE] at hc
  obtain ⟨⟨h0,h1⟩,h2⟩:=hc
  obtain ⟨h3,h4⟩:=In h2
  have hM:maxI=9223372036854775807:=rfl
  have hok:Ar prog (Ab [(198,.rd1 M3)]) (Ab [(5,Fv)]) 0 (f155.body.getD .skip):=by
   refine An (a:=body f155 0) (by kernel_rfl) fun d ex d' h=>?_
   unfold Fv at h
   dsimp only at h
   split at h
   ·rename_i l k i
    obtain ⟨hc,hx⟩:=Ad h
    rw [anE,dcE] at hc
    obtain ⟨⟨a0,a1,a2,a3⟩,a4⟩:=hc
    obtain ⟨b1,b2⟩:=In a4
    obtain ⟨i,rfl⟩:=eq_ofNat_of_zero_le a0
    simp only [ntN] at a1 hx
    exact Kp l b1 b2 (l.length-i) i k (by omega) a2 a3 ex d' hx
   ·cases h
  refine ⟨hok,(Rk l k).trans (Eq.trans ?_ hx)⟩
  show _=(szA k (J4 l)).run
  have hw:i64.wrap (k-(l.length:Int))=k-(l.length:Int):=Aw (by omega) (by omega)
  unfold J4
  rw [hw,drop_zero]
  by_cases q:k-(l.length:Int)<0
  ·rw [Af (dcT q),CG (by push_cast; omega)]
  ·rw [Ac (dcF q),Aa (by rw [anE]; exact ⟨dcT (by omega),h2⟩)]
   have e:k-(l.length:Int)-(D7 l:Int)=k-((l.length+D7 l:Nat):Int):=by push_cast; omega
   rw [e]
   by_cases q2:k-((l.length+D7 l:Nat):Int)<0
   ·rw [Af (dcT q2),CG q2]
   ·rw [Ac (dcF q2),Et q2]
 ·cases hq
theorem IV (l:List Wt) (k i:Int):Av prog (Ab [(200,.rd1 M2)]) (Ab [(5,Fu)]) 0 (body f160 0) Fu ([.sl WCd l,.j k,.j i],[]) =
 ((ifB (decide (i<(↑l.length:Int))) (ifT (decide ((0:Int)<=i)&&decide (i<(↑l.length:Int))) (Ah l[i.toNat]? fun z=>ifT (decide ((0:Int)<=k/\k<=(1048576
 : Int))&&RH (z.fst,z.snd.fst,z.snd.snd.fst,z.snd.snd.snd.fst,z.snd.snd.snd.snd.fst,z.snd.snd.snd.snd.snd.fst,())) (ifB (decide (k-(↑(wWt (z.fst,z.snd.fst,
 z.snd.snd.fst,z.snd.snd.snd.fst,z.snd.snd.snd.snd.fst,z.snd.snd.snd.snd.snd.fst,())):Int)<(0:Int))) (some (Ex.ret,[V.j (-1)],[])) (ifB (decide (k -
 (↑(wWt (z.fst,z.snd.fst,z.snd.snd.fst,z.snd.snd.snd.fst,z.snd.snd.snd.snd.fst,z.snd.snd.snd.snd.snd.fst,())):Int)<(0:Int))) (some (Ex.ret,[V.j (-1)],
 [])) (some (Ex.normal,[V.sl WCd l,V.j (k-(↑(wWt (z.fst,z.snd.fst,z.snd.snd.fst,z.snd.snd.snd.fst,z.snd.snd.snd.snd.fst,z.snd.snd.snd.snd.snd.fst,())) :
 Int)),V.j (i64.wrap (i+(1:Int)))],[])))))) (some (Ex.exit 0,[V.j k],[]))):_):=by kernel_rfl
theorem Ri (l:List Wt) (k:Int):Ax prog (Ab [(200,.rd1 M2)]) (Ab [(5,Fu)]) f160 [.sl WCd l,.j k] [] =
 ((ifB (decide (i64.wrap (k-(↑l.length:Int))<(0:Int))) (some (V.j (-1),[])) (ifT (decide ((0:Int)<=(0:Int)/\0<=l.length/\(0:Int)<=
 i64.wrap (k-(↑l.length:Int))/\i64.wrap (k-(↑l.length:Int))<=(1048576:Int))&&H0 l) (ifB (decide (i64.wrap (k-(↑l.length:Int))
 - (↑(D6 (drop 0 l)):Int)<(0:Int))) (some (V.j (-1),[])) (some (V.j (i64.wrap (k-(↑l.length:Int))-(↑(D6 (drop (0 :
 Nat) l)):Int)),[]))))):_):=by kernel_rfl
theorem Ko (l:List Wt) (hl:l.length<=maxI) (ho : ∀ z∈l,RH z=true) : ∀ (j i:Nat) (k:Int),i+j=l.length->0<=k->k<=1048576->∀ ex d,(Br.br (decide (k-(D6 (l.drop i):Int)<0)) (.leaf (.ret,([.j (-1)],[]))) (.leaf (.exit 0,([.j (k-(D6 (l.drop i):Int))],[]))):Br (Ex×Dt)).run=some (ex,d)->Runs prog (Ab [(200,.rd1 M2)]) (Ab [(5,Fu)]) 0 (body f160 0) Fu ([.sl WCd l,.j k,.j (i:Int)],[]) ex d
 | 0,i,k,hi,h0,h1,ex,d,h=>by
  have hr:=IV l k i
  rw [Ac (dcF (by omega))] at hr
  have e0:(D6 (l.drop i):Int)=0:=by rw [drop_eq_nil_of_le (by omega)]; rfl
  rw [e0,Int.sub_zero,IM (dcF (by omega))] at h
  have h8:=Ao h
  obtain ⟨rfl,rfl⟩:=Prod.mk.inj h8
  exact .stop _ _ _ hr (by simp)
 | j+1,i,k,hi,h0,h1,ex,d,h=>by
  have hM:maxI=9223372036854775807:=rfl
  have hlt:i<l.length:=by omega
  have hr:=IV l k i
  rw [Af (dcT (by omega)),Aa (by simp only [anE,dcE]; omega),ntN,gtE hlt,Am,Ap (n:=i) (by omega)] at hr
  have ho1:=ho _ (getElem_mem hlt)
  have e:D6 (l.drop i)=wWt l[i]+D6 (l.drop (i+1)):=by
   unfold D6
   rw [drop_eq_getElem_cons hlt,map_cons,sum_cons]
  generalize l[i]=z at hr ho1 e
  obtain ⟨a,c,d_,b,e_,f,⟨⟩⟩:=z
  dsimp only at hr
  rw [Aa (by rw [anE]; exact ⟨dcT ⟨h0,h1⟩,ho1⟩)] at hr
  generalize wWt _=w at hr e
  by_cases q:k-(w:Int)<0
  ·rw [Af (dcT q)] at hr
   rw [Id (dcT (by rw [e]; push_cast; omega))] at h
   have h8:=Ao h
   obtain ⟨rfl,rfl⟩:=Prod.mk.inj h8
   exact .stop _ _ _ hr (by simp)
  ·rw [Ac (dcF q),Ac (dcF q)] at hr
   have e2:k-(D6 (l.drop i):Int)=k-(w:Int)-(D6 (l.drop (i+1)):Int):=by rw [e]; push_cast; omega
   rw [e2] at h
   exact .step _ _ _ _ hr (Ko l hl ho j (i+1) (k-(w:Int)) (by omega) (by omega) (by omega) ex d h)
theorem MK {l:List Wt} (h:H0 l=true):l.length<=maxI/\∀ z∈l,RH z=true:=by
 unfold H0 at h
 rw [anE,dcE] at h
 exact ⟨h.1,all_eq_true.1 h.2⟩
theorem TN:Ag prog 160 (Ent.rd1 Rj).F:=by
 refine Ae (kc func200 Wd KnowsL.nil).knows (Λ:=(Ab [(5,Fu)])) func160 (c:=f160.body.getD .skip) (by kernel_rfl) fun vs bs r hq hv hb=>?_
 unfold Ent.F Rj at hq
 dsimp only at hq
 split at hq
 ·rename_i l k
  obtain ⟨hc,hx⟩:=Ad hq
  rw [anE,dcE] at hc
  obtain ⟨⟨h0,h1⟩,h2⟩:=hc
  obtain ⟨h3,h4⟩:=MK h2
  have hM:maxI=9223372036854775807:=rfl
  have hok:Ar prog (Ab [(200,.rd1 M2)]) (Ab [(5,Fu)]) 0 (f160.body.getD .skip):=by
   refine An (a:=body f160 0) (by kernel_rfl) fun d ex d' h=>?_
   unfold Fu at h
   dsimp only at h
   split at h
   ·rename_i l k i
    obtain ⟨hc,hx⟩:=Ad h
    rw [anE,dcE] at hc
    obtain ⟨⟨a0,a1,a2,a3⟩,a4⟩:=hc
    obtain ⟨b1,b2⟩:=MK a4
    obtain ⟨i,rfl⟩:=eq_ofNat_of_zero_le a0
    simp only [ntN] at a1 hx
    exact Ko l b1 b2 (l.length-i) i k (by omega) a2 a3 ex d' hx
   ·cases h
  refine ⟨hok,(Ri l k).trans (Eq.trans ?_ hx)⟩
  show _=(szA k (LV l)).run
  have hw:i64.wrap (k-(l.length:Int))=k-(l.length:Int):=Aw (by omega) (by omega)
  unfold LV
  rw [hw,drop_zero]
  by_cases q:k-(l.length:Int)<0
  ·rw [Af (dcT q),CG (by push_cast; omega)]
  ·rw [Ac (dcF q),Aa (by rw [anE]; exact ⟨dcT (by omega),h2⟩)]
   have e:k-(l.length:Int)-(D6 l:Int)=k-((l.length+D6 l:Nat):Int):=by push_cast; omega
   rw [e]
   by_cases q2:k-((l.length+D6 l:Nat):Int)<0
   ·rw [Af (dcT q2),CG q2]
   ·rw [Ac (dcF q2),Et q2]
 ·cases hq
def E8 (z:List Ty×Unit):Nat:=J4 z.1
def G7 (z:List Ty×Unit):Bool:=G6 z.1
def NP:Gm
 | [.agg [.sl TCd l],.i .i64 k],[]=>.need (decide (0<=k/\k<=1048576)&&G7 (l,())) (szA k (E8 (l,())))
 | _,_=>.no
def Fq (z:List Wt×Unit):Nat:=LV z.1
def MM (z:List Wt×Unit):Bool:=H0 z.1
def Ru:Gm
 | [.agg [.sl WCd l],.i .i64 k],[]=>.need (decide (0<=k/\k<=1048576)&&MM (l,())) (szA k (Fq (l,())))
 | _,_=>.no
def wTp (z:Tp):Nat:=z.1.length+E8 z.2.1
def On (z:Tp):Bool:=decide (z.1.length<=maxI)&&G7 z.2.1
def M4:Gm
 | [.agg [.s a,.sl TCd l,.i .i64 c],.i .i64 k],[]=>.need (decide (0<=k/\k<=1048576)&&On (a,(l,()),c,())) (szA k (wTp (a,(l,()),c,())))
 | _,_=>.no
def wFa (z:Fa):Nat:=z.2.1.length+(Fq z.2.2.1+(E8 z.2.2.2.1+Kb z.2.2.2.2.1))
def Oo (z:Fa):Bool:=decide (z.2.1.length<=maxI)&&(MM z.2.2.1&&(G7 z.2.2.2.1&&H1 z.2.2.2.2.1))
def M7:Gm
 | [.agg [.i .i64 w,.s p,.sl WCd ws,.sl TCd v,.sl NTd b,.i .i64 c],.i .i64 k],[]=>.need (decide (0<=k/\k<=1048576)&&Oo (w,p,(ws,()),(v,()),b,c,())) (szA k (wFa (w,p,(ws,()),(v,()),b,c,())))
 | _,_=>.no
def CA (l:List Tp):Nat:=(l.map wTp).sum
def Hq (l:List Tp):Nat:=l.length+CA l
def Jf (l:List Tp):Bool:=decide (l.length<=maxI)&&l.all On
def Fw:LoopEnt:=⟨27,[0,1,5],[1],[4],fun
 | ([.sl TPd l,.i .i64 k,.i .i64 i],[])=>.need (decide (0<=i/\i.toNat<=l.length/\0<=k/\k<=1048576)&&Jf l) (.br (decide (k-(CA (l.drop i.toNat):Int)<0)) (.leaf (.ret,([.i .i64 (-1)],[]))) (.leaf (.exit 0,([.i .i64 (k-(CA (l.drop i.toNat):Int))],[]))))
 | _=>.no⟩
def Rn:Gm
 | [.sl TPd l,.i .i64 k],[]=>.need (decide (0<=k/\k<=1048576)&&Jf l) (szA k (Hq l))
 | _,_=>.no
def CB (l:List Fa):Nat:=(l.map wFa).sum
def LW (l:List Fa):Nat:=l.length+CB l
def Jg (l:List Fa):Bool:=decide (l.length<=maxI)&&l.all Oo
def Fy:LoopEnt:=⟨27,[0,1,5],[1],[4],fun
 | ([.sl FNd l,.i .i64 k,.i .i64 i],[])=>.need (decide (0<=i/\i.toNat<=l.length/\0<=k/\k<=1048576)&&Jg l) (.br (decide (k-(CB (l.drop i.toNat):Int)<0)) (.leaf (.ret,([.i .i64 (-1)],[]))) (.leaf (.exit 0,([.i .i64 (k-(CB (l.drop i.toNat):Int))],[]))))
 | _=>.no⟩
def Rw:Gm
 | [.sl FNd l,.i .i64 k],[]=>.need (decide (0<=k/\k<=1048576)&&Jg l) (szA k (LW l))
 | _,_=>.no
def wBk (z:List Tp×List Fa×Unit):Nat:=Hq z.1+LW z.2.1
def Oq (z:List Tp×List Fa×Unit):Bool:=Jf z.1&&Jg z.2.1
def Wj:Gm
 | [.agg [.sl TPd ts,.sl FNd fs],.i .i64 k],[]=>.need (decide (0<=k/\k<=1048576)&&Oq (ts,fs,())) (szA k (wBk (ts,fs,())))
 | _,_=>.no
theorem Rs {k:Int} {w:Nat} {ok:Bool} (hok:ok=true) (h0:0<=k) (h1:k<=1048576):ifT (decide (0<=k/\k<=1048576)&&ok) (ifB (decide (k-(w:Int)<0)) (some (V.j (-1),([]:List (Option Blk)))) (ifB (decide (k-(w:Int)<0)) (some (V.j (-1),[])) (some (V.j (k-(w:Int)),[]))))=(szA k w).run:=by
 rw [Aa (by rw [anE]; exact ⟨dcT ⟨h0,h1⟩,hok⟩)]
 by_cases q:k-(w:Int)<0
 ·rw [Af (dcT q),CG q]
 ·rw [Ac (dcF q),Ac (dcF q),Et q]
theorem SW {k:Int} {w r:Nat} (q : ¬k-(w:Int)<0):(szA (k-(w:Int)) r).run=(szA k (w+r)).run:=by
 have e:k-(w:Int)-(r:Int)=k-((w+r:Nat):Int):=by push_cast; omega
 by_cases q2:k-(w:Int)-(r:Int)<0
 ·rw [CG q2,CG (by omega)]
 ·rw [Et q2,Et (by omega),e]
theorem Ro {k:Int} {w r:Nat} {ok:Bool} {X:Option (V×List (Option Blk))} (hok:ok=true) (h0:0<=k) (h1:k<=1048576) (hX : ¬k-(w:Int)<0->X=(szA (k-(w:Int)) r).run):ifT (decide (0<=k/\k<=1048576)&&ok) (ifB (decide (k-(w:Int)<0)) (some (V.j (-1),([]:List (Option Blk)))) (ifB (decide (k-(w:Int)<0)) (some (V.j (-1),[])) X))=(szA k (w+r)).run:=by
 rw [Aa (by rw [anE]; exact ⟨dcT ⟨h0,h1⟩,hok⟩)]
 by_cases q:k-(w:Int)<0
 ·rw [Af (dcT q),CG (by push_cast; omega)]
 ·rw [Ac (dcF q),Ac (dcF q),hX q,SW q]
theorem Aaq {k:Int} {w r:Nat} {X:Option (V×List (Option Blk))} (hX : ¬k-(w:Int)<0->X=(szA (k-(w:Int)) r).run):ifB (decide (k-(w:Int)<0)) (some (V.j (-1),([]:List (Option Blk)))) X=(szA k (w+r)).run:=by
 by_cases q:k-(w:Int)<0
 ·rw [Af (dcT q),CG (by push_cast; omega)]
 ·rw [Ac (dcF q),hX q,SW q]
theorem Rp (l:List Ty) (k:Int):Ax prog (Ab [(155,.rd1 Rl)]) (Ab []) f106 [.agg [.sl TCd l],.j k] [] =
 ((ifT (decide ((0:Int)<=k/\k<=(1048576:Int))&&G6 l) (ifB (decide (k-(↑(J4 l):Int)<(0:Int))) (some (V.j (-1),[])) (ifB (decide (k-(↑(J4 l) :
 Int)<(0:Int))) (some (V.j (-1),[])) (some (V.j (k-(↑(J4 l):Int)),[]))))):_):=by kernel_rfl
theorem M5:Ag prog 106 (Ent.rd1 NP).F:=by
 refine Ae (kc func155 TP KnowsL.nil).knows (Λ:=Ab []) func106 (c:=f106.body.getD .skip) (by kernel_rfl) fun vs_ bs_ r_ hq_ hv_ hb_=>?_
 unfold Ent.F NP at hq_
 dsimp only at hq_
 split at hq_
 ·rename_i l k
  obtain ⟨hc,hx⟩:=Ad hq_
  rw [anE,dcE] at hc
  obtain ⟨⟨h0,h1⟩,h2⟩:=hc
  unfold G7 at h2
  dsimp only at h2
  have hM:maxI=9223372036854775807:=rfl
  refine ⟨Ak _,(Rp l k).trans (Eq.trans ?_ hx)⟩
  show _=(szA k (E8 (l,()))).run
  unfold E8
  dsimp only
  rw [Aa (by rw [anE]; exact ⟨dcT ⟨h0,h1⟩,h2⟩)]
  by_cases q:k-(J4 l:Int)<0
  ·rw [Af (dcT q),CG q]
  ·rw [Ac (dcF q),Ac (dcF q),Et q]
 ·cases hq_
theorem Rt (l:List Wt) (k:Int):Ax prog (Ab [(160,.rd1 Rj)]) (Ab []) f118 [.agg [.sl WCd l],.j k] [] =
 ((ifT (decide ((0:Int)<=k/\k<=(1048576:Int))&&H0 l) (ifB (decide (k-(↑(LV l):Int)<(0:Int))) (some (V.j (-1),[])) (ifB (decide (k-(↑(LV l) :
 Int)<(0:Int))) (some (V.j (-1),[])) (some (V.j (k-(↑(LV l):Int)),[]))))):_):=by kernel_rfl
theorem TV:Ag prog 118 (Ent.rd1 Ru).F:=by
 refine Ae (kc func160 TN KnowsL.nil).knows (Λ:=Ab []) func118 (c:=f118.body.getD .skip) (by kernel_rfl) fun vs_ bs_ r_ hq_ hv_ hb_=>?_
 unfold Ent.F Ru at hq_
 dsimp only at hq_
 split at hq_
 ·rename_i l k
  obtain ⟨hc,hx⟩:=Ad hq_
  rw [anE,dcE] at hc
  obtain ⟨⟨h0,h1⟩,h2⟩:=hc
  unfold MM at h2
  dsimp only at h2
  have hM:maxI=9223372036854775807:=rfl
  refine ⟨Ak _,(Rt l k).trans (Eq.trans ?_ hx)⟩
  show _=(szA k (Fq (l,()))).run
  unfold Fq
  dsimp only
  rw [Aa (by rw [anE]; exact ⟨dcT ⟨h0,h1⟩,h2⟩)]
  by_cases q:k-(LV l:Int)<0
  ·rw [Af (dcT q),CG q]
  ·rw [Ac (dcF q),Ac (dcF q),Et q]
 ·cases hq_
theorem TS (a:List UInt8) (l:List Ty) (c:Int) (k:Int):Ax prog (Ab [(106,.rd1 NP)]) (Ab []) f50 [.agg [.s a,.sl TCd l,.j c],.j k] [] =
 ((ifB (decide (i64.wrap (k-(↑a.length:Int))<(0:Int))) (some (V.j (-1),[])) (ifT (decide ((0:Int)<=i64.wrap (k-(↑a.length:Int))/\
 i64.wrap (k-(↑a.length:Int))<=(1048576:Int))&&G7 (l,())) (ifB (decide (i64.wrap (k-(↑a.length:Int))-(↑(E8 (l,())):Int)<(0 :
 Int))) (some (V.j (-1),[])) (ifB (decide (i64.wrap (k-(↑a.length:Int))-(↑(E8 (l,())):Int)<(0:Int))) (some (V.j (-1),[])) (some (V.i
 .i64 (i64.wrap (k-(↑a.length:Int))-(↑(E8 (l,())):Int)),[])))))):_):=by kernel_rfl
theorem Wf:Ag prog 50 (Ent.rd1 M4).F:=by
 refine Ae (kc func106 M5 KnowsL.nil).knows (Λ:=Ab []) func50 (c:=f50.body.getD .skip) (by kernel_rfl) fun vs_ bs_ r_ hq_ hv_ hb_=>?_
 unfold Ent.F M4 at hq_
 dsimp only at hq_
 split at hq_
 ·rename_i a l c k
  obtain ⟨hc,hx⟩:=Ad hq_
  rw [anE,dcE] at hc
  obtain ⟨⟨h0,h1⟩,h2⟩:=hc
  unfold On at h2
  dsimp only at h2
  have hM:maxI=9223372036854775807:=rfl
  refine ⟨Ak _,(TS a l c k).trans (Eq.trans ?_ hx)⟩
  show _=(szA k (wTp (a,(l,()),c,()))).run
  unfold wTp
  dsimp only
  rw [anE,dcE] at h2
  obtain ⟨h3,h4⟩:=h2
  have hw:i64.wrap (k-(a.length:Int))=k-(a.length:Int):=Aw (by omega) (by omega)
  rw [hw]
  exact Aaq fun q=>Rs h4 (by omega) (by omega)
 ·cases hq_
theorem TX (w:Int) (p:List UInt8) (ws:List Wt) (v:List Ty) (b:List Nt) (c:Int) (k:Int):Ax prog (Ab [(118,.rd1 Ru),(106,.rd1 NP),(119,.rd1 Rr)]) (Ab []) f75 [.agg [.j w,.s p,.sl WCd ws,.sl TCd v,.sl NTd b,.j c],.j k] [] =
 ((ifB (decide (i64.wrap (k-(↑p.length:Int))<(0:Int))) (some (V.j (-1),[])) (ifT (decide ((0:Int)<=i64.wrap (k-(↑p.length:Int))/\
 i64.wrap (k-(↑p.length:Int))<=(1048576:Int))&&MM (ws,())) (ifB (decide (i64.wrap (k-(↑p.length:Int))-(↑(Fq (ws,())):Int)<(0 :
 Int))) (some (V.j (-1),[])) (ifB (decide (i64.wrap (k-(↑p.length:Int))-(↑(Fq (ws,())):Int)<(0:Int))) (some (V.j (-1),[])) (ifT (decide
 ((0:Int)<=i64.wrap (k-(↑p.length:Int))-(↑(Fq (ws,())):Int)/\i64.wrap (k-(↑p.length:Int))-(↑(Fq (ws,())):Int)<=(1048576:Int))
 && G7 (v,())) (ifB (decide (i64.wrap (k-(↑p.length:Int))-(↑(Fq (ws,())):Int)-(↑(E8 (v,())):Int)<(0:Int))) (some (V.j (-1),[]))
 (ifB (decide (i64.wrap (k-(↑p.length:Int))-(↑(Fq (ws,())):Int)-(↑(E8 (v,())):Int)<(0:Int))) (some (V.j (-1),[])) (ifT (decide ((0 :
 Int)<=i64.wrap (k-(↑p.length:Int))-(↑(Fq (ws,())):Int)-(↑(E8 (v,())):Int)/\i64.wrap (k-(↑p.length:Int))-(↑(Fq (ws,())):Int)
 - (↑(E8 (v,())):Int)<=(1048576:Int))&&H1 b) (ifB (decide (i64.wrap (k-(↑p.length:Int))-(↑(Fq (ws,())):Int)-(↑(E8 (v,())):Int) -
 (↑(Kb b):Int)<(0:Int))) (some (V.j (-1),[])) (ifB (decide (i64.wrap (k-(↑p.length:Int))-(↑(Fq (ws,())):Int)-(↑(E8 (v,())):Int) -
 (↑(Kb b):Int)<(0:Int))) (some (V.j (-1),[])) (some (V.j (i64.wrap (k-(↑p.length:Int))-(↑(Fq (ws,())):Int)-(↑(E8 (v,())):Int)
 - (↑(Kb b):Int)),[])))))))))))):_):=by kernel_rfl
theorem Wh:Ag prog 75 (Ent.rd1 M7).F:=by
 refine Ae (kc func118 TV (kc func106 M5 (kc func119 TT KnowsL.nil))).knows (Λ:=Ab []) func75 (c:=f75.body.getD .skip) (by kernel_rfl) fun vs_ bs_ r_ hq_ hv_ hb_=>?_
 unfold Ent.F M7 at hq_
 dsimp only at hq_
 split at hq_
 ·rename_i w p ws v b c k
  obtain ⟨hc,hx⟩:=Ad hq_
  rw [anE,dcE] at hc
  obtain ⟨⟨h0,h1⟩,h2⟩:=hc
  unfold Oo at h2
  dsimp only at h2
  have hM:maxI=9223372036854775807:=rfl
  refine ⟨Ak _,(TX w p ws v b c k).trans (Eq.trans ?_ hx)⟩
  show _=(szA k (wFa (w,p,(ws,()),(v,()),b,c,()))).run
  unfold wFa
  dsimp only
  simp only [anE,dcE] at h2
  obtain ⟨h3,h4,h5,h6⟩:=h2
  have hw:i64.wrap (k-(p.length:Int))=k-(p.length:Int):=Aw (by omega) (by omega)
  rw [hw]
  exact Aaq fun q=>Ro h4 (by omega) (by omega) fun q2=>Ro h5 (by omega) (by omega) fun q3=>Rs h6 (by omega) (by omega)
 ·cases hq_
theorem IX (l:List Tp) (k i:Int):Av prog (Ab [(50,.rd1 M4)]) (Ab [(5,Fw)]) 0 (body f19 0) Fw ([.sl TPd l,.j k,.j i],[]) =
 ((ifB (decide (i<(↑l.length:Int))) (ifT (decide ((0:Int)<=i)&&decide (i<(↑l.length:Int))) (Ah l[i.toNat]? fun z=>ifT (decide ((0:Int)<=k/\k<=(1048576
 : Int))&&On (z.fst,(z.snd.fst.fst,()),z.snd.snd.fst,())) (ifB (decide (k-(↑(wTp (z.fst,(z.snd.fst.fst,()),z.snd.snd.fst,())):Int)<(0:Int))) (some
 (Ex.ret,[V.j (-1)],[])) (ifB (decide (k-(↑(wTp (z.fst,(z.snd.fst.fst,()),z.snd.snd.fst,())):Int)<(0:Int))) (some (Ex.ret,[V.j (-1)],[])) (some
 (Ex.normal,[V.sl TPd l,V.j (k-(↑(wTp (z.fst,(z.snd.fst.fst,()),z.snd.snd.fst,())):Int)),V.j (i64.wrap (i+(1:Int)))],[])))))) (some
 (Ex.exit 0,[V.j k],[]))):_):=by kernel_rfl
theorem Rm (l:List Tp) (k:Int):Ax prog (Ab [(50,.rd1 M4)]) (Ab [(5,Fw)]) f19 [.sl TPd l,.j k] [] =
 ((ifB (decide (i64.wrap (k-(↑l.length:Int))<(0:Int))) (some (V.j (-1),[])) (ifT (decide ((0:Int)<=(0:Int)/\0<=l.length/\(0:Int)<=
 i64.wrap (k-(↑l.length:Int))/\i64.wrap (k-(↑l.length:Int))<=(1048576:Int))&&Jf l) (ifB (decide (i64.wrap (k-(↑l.length:Int))
 - (↑(CA (drop 0 l)):Int)<(0:Int))) (some (V.j (-1),[])) (some (V.j (i64.wrap (k-(↑l.length:Int))-(↑(CA (drop (0 :
 Nat) l)):Int)),[]))))):_):=by kernel_rfl
theorem Kq (l:List Tp) (hl:l.length<=maxI) (ho : ∀ z∈l,On z=true) : ∀ (j i:Nat) (k:Int),i+j=l.length->0<=k->k<=1048576->∀ ex d,(Br.br (decide (k-(CA (l.drop i):Int)<0)) (.leaf (.ret,([.j (-1)],[]))) (.leaf (.exit 0,([.j (k-(CA (l.drop i):Int))],[]))):Br (Ex×Dt)).run=some (ex,d)->Runs prog (Ab [(50,.rd1 M4)]) (Ab [(5,Fw)]) 0 (body f19 0) Fw ([.sl TPd l,.j k,.j (i:Int)],[]) ex d
 | 0,i,k,hi,h0,h1,ex,d,h=>by
  have hr:=IX l k i
  rw [Ac (dcF (by omega))] at hr
  have e0:(CA (l.drop i):Int)=0:=by rw [drop_eq_nil_of_le (by omega)]; rfl
  rw [e0,Int.sub_zero,IM (dcF (by omega))] at h
  have h8:=Ao h
  obtain ⟨rfl,rfl⟩:=Prod.mk.inj h8
  exact .stop _ _ _ hr (by simp)
 | j+1,i,k,hi,h0,h1,ex,d,h=>by
  have hM:maxI=9223372036854775807:=rfl
  have hlt:i<l.length:=by omega
  have hr:=IX l k i
  rw [Af (dcT (by omega)),Aa (by simp only [anE,dcE]; omega),ntN,gtE hlt,Am,Ap (n:=i) (by omega)] at hr
  have ho1:=ho _ (getElem_mem hlt)
  have e:CA (l.drop i)=wTp l[i]+CA (l.drop (i+1)):=by
   unfold CA
   rw [drop_eq_getElem_cons hlt,map_cons,sum_cons]
  generalize l[i]=z at hr ho1 e
  obtain ⟨a,⟨l_,⟨⟩⟩,c,⟨⟩⟩:=z
  dsimp only at hr
  rw [Aa (by rw [anE]; exact ⟨dcT ⟨h0,h1⟩,ho1⟩)] at hr
  generalize wTp _=w at hr e
  by_cases q:k-(w:Int)<0
  ·rw [Af (dcT q)] at hr
   rw [Id (dcT (by rw [e]; push_cast; omega))] at h
   have h8:=Ao h
   obtain ⟨rfl,rfl⟩:=Prod.mk.inj h8
   exact .stop _ _ _ hr (by simp)
  ·rw [Ac (dcF q),Ac (dcF q)] at hr
   have e2:k-(CA (l.drop i):Int)=k-(w:Int)-(CA (l.drop (i+1)):Int):=by rw [e]; push_cast; omega
   rw [e2] at h
   exact .step _ _ _ _ hr (Kq l hl ho j (i+1) (k-(w:Int)) (by omega) (by omega) (by omega) ex d h)
theorem Io {l:List Tp} (h:Jf l=true):l.length<=maxI/\∀ z∈l,On z=true:=by
 unfold Jf at h
 rw [anE,dcE] at h
 exact ⟨h.1,all_eq_true.1 h.2⟩
theorem TR:Ag prog 19 (Ent.rd1 Rn).F:=by
 refine Ae (kc func50 Wf KnowsL.nil).knows (Λ:=(Ab [(5,Fw)])) func19 (c:=f19.body.getD .skip) (by kernel_rfl) fun vs bs r hq hv hb=>?_
 unfold Ent.F Rn at hq
 dsimp only at hq
 split at hq
 ·rename_i l k
  obtain ⟨hc,hx⟩:=Ad hq
  rw [anE,dcE] at hc
  obtain ⟨⟨h0,h1⟩,h2⟩:=hc
  obtain ⟨h3,h4⟩:=Io h2
  have hM:maxI=9223372036854775807:=rfl
  have hok:Ar prog (Ab [(50,.rd1 M4)]) (Ab [(5,Fw)]) 0 (f19.body.getD .skip):=by
   refine An (a:=body f19 0) (by kernel_rfl) fun d ex d' h=>?_
   unfold Fw at h
   dsimp only at h
   split at h
   ·rename_i l k i
    obtain ⟨hc,hx⟩:=Ad h
    rw [anE,dcE] at hc
    obtain ⟨⟨a0,a1,a2,a3⟩,a4⟩:=hc
    obtain ⟨b1,b2⟩:=Io a4
    obtain ⟨i,rfl⟩:=eq_ofNat_of_zero_le a0
    simp only [ntN] at a1 hx
    exact Kq l b1 b2 (l.length-i) i k (by omega) a2 a3 ex d' hx
   ·cases h
  refine ⟨hok,(Rm l k).trans (Eq.trans ?_ hx)⟩
  show _=(szA k (Hq l)).run
  have hw:i64.wrap (k-(l.length:Int))=k-(l.length:Int):=Aw (by omega) (by omega)
  unfold Hq
  rw [hw,drop_zero]
  by_cases q:k-(l.length:Int)<0
  ·rw [Af (dcT q),CG (by push_cast; omega)]
  ·rw [Ac (dcF q),Aa (by rw [anE]; exact ⟨dcT (by omega),h2⟩)]
   have e:k-(l.length:Int)-(CA l:Int)=k-((l.length+CA l:Nat):Int):=by push_cast; omega
   rw [e]
   by_cases q2:k-((l.length+CA l:Nat):Int)<0
   ·rw [Af (dcT q2),CG q2]
   ·rw [Ac (dcF q2),Et q2]
 ·cases hq
theorem IZ (l:List Fa) (k i:Int):Av prog (Ab [(75,.rd1 M7)]) (Ab [(5,Fy)]) 0 (body f36 0) Fy ([.sl FNd l,.j k,.j i],[]) =
 ((ifB (decide (i<(↑l.length:Int))) (ifT (decide ((0:Int)<=i)&&decide (i<(↑l.length:Int))) (Ah l[i.toNat]? fun z=>ifT (decide ((0:Int)<=k/\k<=(1048576
 : Int))&&Oo (z.fst,z.snd.fst,(z.snd.snd.fst.fst,()),(z.snd.snd.snd.fst.fst,()),z.snd.snd.snd.snd.fst,z.snd.snd.snd.snd.snd.fst,())) (ifB (decide (k-(↑(wFa
 (z.fst,z.snd.fst,(z.snd.snd.fst.fst,()),(z.snd.snd.snd.fst.fst,()),z.snd.snd.snd.snd.fst,z.snd.snd.snd.snd.snd.fst,())):Int)<(0:Int))) (some (Ex.ret,[V.i
 .i64 (-1)],[])) (ifB (decide (k-(↑(wFa (z.fst,z.snd.fst,(z.snd.snd.fst.fst,()),(z.snd.snd.snd.fst.fst,()),z.snd.snd.snd.snd.fst,z.snd.snd.snd.snd.snd.fst,()))
 : Int)<(0:Int))) (some (Ex.ret,[V.j (-1)],[])) (some (Ex.normal,[V.sl FNd l,V.j (k-(↑(wFa (z.fst,z.snd.fst,(z.snd.snd.fst.fst,()),
 (z.snd.snd.snd.fst.fst,()),z.snd.snd.snd.snd.fst,z.snd.snd.snd.snd.snd.fst,())):Int)),V.j (i64.wrap (i+(1:Int)))],[])))))) (some (Ex.exit 0,[V.i
 .i64 k],[]))):_):=by kernel_rfl
theorem Rv (l:List Fa) (k:Int):Ax prog (Ab [(75,.rd1 M7)]) (Ab [(5,Fy)]) f36 [.sl FNd l,.j k] [] =
 ((ifB (decide (i64.wrap (k-(↑l.length:Int))<(0:Int))) (some (V.j (-1),[])) (ifT (decide ((0:Int)<=(0:Int)/\0<=l.length/\(0:Int)<=
 i64.wrap (k-(↑l.length:Int))/\i64.wrap (k-(↑l.length:Int))<=(1048576:Int))&&Jg l) (ifB (decide (i64.wrap (k-(↑l.length:Int))
 - (↑(CB (drop 0 l)):Int)<(0:Int))) (some (V.j (-1),[])) (some (V.j (i64.wrap (k-(↑l.length:Int))-(↑(CB (drop (0 :
 Nat) l)):Int)),[]))))):_):=by kernel_rfl
theorem Ks (l:List Fa) (hl:l.length<=maxI) (ho : ∀ z∈l,Oo z=true) : ∀ (j i:Nat) (k:Int),i+j=l.length->0<=k->k<=1048576->∀ ex d,(Br.br (decide (k-(CB (l.drop i):Int)<0)) (.leaf (.ret,([.j (-1)],[]))) (.leaf (.exit 0,([.j (k-(CB (l.drop i):Int))],[]))):Br (Ex×Dt)).run=some (ex,d)->Runs prog (Ab [(75,.rd1 M7)]) (Ab [(5,Fy)]) 0 (body f36 0) Fy ([.sl FNd l,.j k,.j (i:Int)],[]) ex d
 | 0,i,k,hi,h0,h1,ex,d,h=>by
  have hr:=IZ l k i
  rw [Ac (dcF (by omega))] at hr
  have e0:(CB (l.drop i):Int)=0:=by rw [drop_eq_nil_of_le (by omega)]; rfl
  rw [e0,Int.sub_zero,IM (dcF (by omega))] at h
  have h8:=Ao h
  obtain ⟨rfl,rfl⟩:=Prod.mk.inj h8
  exact .stop _ _ _ hr (by simp)
 | j+1,i,k,hi,h0,h1,ex,d,h=>by
  have hM:maxI=9223372036854775807:=rfl
  have hlt:i<l.length:=by omega
  have hr:=IZ l k i
  rw [Af (dcT (by omega)),Aa (by simp only [anE,dcE]; omega),ntN,gtE hlt,Am,Ap (n:=i) (by omega)] at hr
  have ho1:=ho _ (getElem_mem hlt)
  have e:CB (l.drop i)=wFa l[i]+CB (l.drop (i+1)):=by
   unfold CB
   rw [drop_eq_getElem_cons hlt,map_cons,sum_cons]
  generalize l[i]=z at hr ho1 e
  obtain ⟨w_,p,⟨ws,⟨⟩⟩,⟨v,⟨⟩⟩,b,c,⟨⟩⟩:=z
  dsimp only at hr
  rw [Aa (by rw [anE]; exact ⟨dcT ⟨h0,h1⟩,ho1⟩)] at hr
  generalize wFa _=w at hr e
  by_cases q:k-(w:Int)<0
  ·rw [Af (dcT q)] at hr
   rw [Id (dcT (by rw [e]; push_cast; omega))] at h
   have h8:=Ao h
   obtain ⟨rfl,rfl⟩:=Prod.mk.inj h8
   exact .stop _ _ _ hr (by simp)
  ·rw [Ac (dcF q),Ac (dcF q)] at hr
   have e2:k-(CB (l.drop i):Int)=k-(w:Int)-(CB (l.drop (i+1)):Int):=by rw [e]; push_cast; omega
   rw [e2] at h
   exact .step _ _ _ _ hr (Ks l hl ho j (i+1) (k-(w:Int)) (by omega) (by omega) (by omega) ex d h)
theorem Ip {l:List Fa} (h:Jg l=true):l.length<=maxI/\∀ z∈l,Oo z=true:=by
 unfold Jg at h
 rw [anE,dcE] at h
 exact ⟨h.1,all_eq_true.1 h.2⟩
theorem TW:Ag prog 36 (Ent.rd1 Rw).F:=by
 refine Ae (kc func75 Wh KnowsL.nil).knows (Λ:=(Ab [(5,Fy)])) func36 (c:=f36.body.getD .skip) (by kernel_rfl) fun vs bs r hq hv hb=>?_
 unfold Ent.F Rw at hq
 dsimp only at hq
 split at hq
 ·rename_i l k
  obtain ⟨hc,hx⟩:=Ad hq
  rw [anE,dcE] at hc
  obtain ⟨⟨h0,h1⟩,h2⟩:=hc
  obtain ⟨h3,h4⟩:=Ip h2
  have hM:maxI=9223372036854775807:=rfl
  have hok:Ar prog (Ab [(75,.rd1 M7)]) (Ab [(5,Fy)]) 0 (f36.body.getD .skip):=by
   refine An (a:=body f36 0) (by kernel_rfl) fun d ex d' h=>?_
   unfold Fy at h
   dsimp only at h
   split at h
   ·rename_i l k i
    obtain ⟨hc,hx⟩:=Ad h
    rw [anE,dcE] at hc
    obtain ⟨⟨a0,a1,a2,a3⟩,a4⟩:=hc
    obtain ⟨b1,b2⟩:=Ip a4
    obtain ⟨i,rfl⟩:=eq_ofNat_of_zero_le a0
    simp only [ntN] at a1 hx
    exact Ks l b1 b2 (l.length-i) i k (by omega) a2 a3 ex d' hx
   ·cases h
  refine ⟨hok,(Rv l k).trans (Eq.trans ?_ hx)⟩
  show _=(szA k (LW l)).run
  have hw:i64.wrap (k-(l.length:Int))=k-(l.length:Int):=Aw (by omega) (by omega)
  unfold LW
  rw [hw,drop_zero]
  by_cases q:k-(l.length:Int)<0
  ·rw [Af (dcT q),CG (by push_cast; omega)]
  ·rw [Ac (dcF q),Aa (by rw [anE]; exact ⟨dcT (by omega),h2⟩)]
   have e:k-(l.length:Int)-(CB l:Int)=k-((l.length+CB l:Nat):Int):=by push_cast; omega
   rw [e]
   by_cases q2:k-((l.length+CB l:Nat):Int)<0
   ·rw [Af (dcT q2),CG q2]
   ·rw [Ac (dcF q2),Et q2]
 ·cases hq
theorem TY (ts:List Tp) (fs:List Fa) (k:Int):Ax prog (Ab [(19,.rd1 Rn),(36,.rd1 Rw)]) (Ab []) f9 [.agg [.sl TPd ts,.sl FNd fs],.j k] [] =
 ((ifT (decide ((0:Int)<=k/\k<=(1048576:Int))&&Jf ts) (ifB (decide (k-(↑(Hq ts):Int)<(0:Int))) (some (V.j (-1),[])) (ifB (decide (k-(↑(Hq ts)
 : Int)<(0:Int))) (some (V.j (-1),[])) (ifT (decide ((0:Int)<=k-(↑(Hq ts):Int)/\k-(↑(Hq ts):Int)<=(1048576:Int))&&Jg fs) (ifB (decide (k
 - (↑(Hq ts):Int)-(↑(LW fs):Int)<(0:Int))) (some (V.j (-1),[])) (ifB (decide (k-(↑(Hq ts):Int)-(↑(LW fs):Int)<(0:Int))) (some (V.i .i64
 (-1),[])) (some (V.j (k-(↑(Hq ts):Int)-(↑(LW fs):Int)),[])))))))):_):=by kernel_rfl
theorem Wi:Ag prog 9 (Ent.rd1 Wj).F:=by
 refine Ae (kc func19 TR (kc func36 TW KnowsL.nil)).knows (Λ:=Ab []) func9 (c:=f9.body.getD .skip) (by kernel_rfl) fun vs_ bs_ r_ hq_ hv_ hb_=>?_
 unfold Ent.F Wj at hq_
 dsimp only at hq_
 split at hq_
 ·rename_i ts fs k
  obtain ⟨hc,hx⟩:=Ad hq_
  rw [anE,dcE] at hc
  obtain ⟨⟨h0,h1⟩,h2⟩:=hc
  unfold Oq at h2
  dsimp only at h2
  have hM:maxI=9223372036854775807:=rfl
  refine ⟨Ak _,(TY ts fs k).trans (Eq.trans ?_ hx)⟩
  show _=(szA k (wBk (ts,fs,()))).run
  unfold wBk
  dsimp only
  rw [anE] at h2
  exact Ro h2.1 h0 h1 fun q2=>Rs h2.2 (by omega) (by omega)
 ·cases hq_
def eqL {α:Type} (f:α->α->Bool):List α->List α->Bool
 | [],[]=>true
 | x::l,y::q=>f x y&&eqL f l q
 | _,_=>false
def EY (x y:Nt):Bool:=x.1==y.1&&(x.2.1==y.2.1&&x.2.2.1==y.2.2.1)
def LB:Gm
 | [.agg [.s a0,.i .i64 a1,.s a2],.agg [.s b0,.i .i64 b1,.s b2]],[]=>.leaf (.b (EY (a0,a1,a2,()) (b0,b1,b2,())),[])
 | _,_=>.no
def G1 (x y:Ty):Bool:=x.1==y.1&&(x.2.1==y.2.1&&(x.2.2.1==y.2.2.1&&(x.2.2.2.1==y.2.2.2.1&&(x.2.2.2.2.1==y.2.2.2.2.1&&x.2.2.2.2.2.1==y.2.2.2.2.2.1))))
def Nz:Gm
 | [.agg [.i .i64 a0,.s a1,.i .i64 a2,.b a3,.i .i64 a4,.i .i64 a5],.agg [.i .i64 b0,.s b1,.i .i64 b2,.b b3,.i .i64 b4,.i .i64 b5]],[]=>.leaf (.b (G1 (a0,a1,a2,a3,a4,a5,()) (b0,b1,b2,b3,b4,b5,())),[])
 | _,_=>.no
def G0 (x y:Wt):Bool:=x.1==y.1&&(x.2.1==y.2.1&&(x.2.2.1==y.2.2.1&&(x.2.2.2.1==y.2.2.2.1&&(x.2.2.2.2.1==y.2.2.2.2.1&&x.2.2.2.2.2.1==y.2.2.2.2.2.1))))
def Nx:Gm
 | [.agg [.i .i64 a0,.i .i64 a1,.i .i64 a2,.s a3,.i .i64 a4,.i .i64 a5],.agg [.i .i64 b0,.i .i64 b1,.i .i64 b2,.s b3,.i .i64 b4,.i .i64 b5]],[]=>.leaf (.b (G0 (a0,a1,a2,a3,a4,a5,()) (b0,b1,b2,b3,b4,b5,())),[])
 | _,_=>.no
def FT:LoopEnt:=⟨27,[0,1,5],[],[4],fun
 | ([.sl NTd l,.sl NTd q,.i .i64 i],[])=>.need (decide (0<=i/\i.toNat<=l.length/\l.length=q.length/\l.length<=maxI)) (.br (eqL EY (l.drop i.toNat) (q.drop i.toNat)) (.leaf (.exit 0,([],[]))) (.leaf (.ret,([.b false],[]))))
 | _=>.no⟩
def S9:Gm
 | [.sl NTd l,.sl NTd q],[]=>.need (decide (l.length<=maxI)) (.leaf (.b (eqL EY l q),[]))
 | _,_=>.no
def FR:LoopEnt:=⟨27,[0,1,5],[],[4],fun
 | ([.sl TCd l,.sl TCd q,.i .i64 i],[])=>.need (decide (0<=i/\i.toNat<=l.length/\l.length=q.length/\l.length<=maxI)) (.br (eqL G1 (l.drop i.toNat) (q.drop i.toNat)) (.leaf (.exit 0,([],[]))) (.leaf (.ret,([.b false],[]))))
 | _=>.no⟩
def S4:Gm
 | [.sl TCd l,.sl TCd q],[]=>.need (decide (l.length<=maxI)) (.leaf (.b (eqL G1 l q),[]))
 | _,_=>.no
def FQ:LoopEnt:=⟨27,[0,1,5],[],[4],fun
 | ([.sl WCd l,.sl WCd q,.i .i64 i],[])=>.need (decide (0<=i/\i.toNat<=l.length/\l.length=q.length/\l.length<=maxI)) (.br (eqL G0 (l.drop i.toNat) (q.drop i.toNat)) (.leaf (.exit 0,([],[]))) (.leaf (.ret,([.b false],[]))))
 | _=>.no⟩
def S2:Gm
 | [.sl WCd l,.sl WCd q],[]=>.need (decide (l.length<=maxI)) (.leaf (.b (eqL G0 l q),[]))
 | _,_=>.no
theorem IB {α:Type} {f:α->α->Bool} : ∀ {l q:List α},l.length≠q.length->eqL f l q=false
 | [],[],h=>absurd rfl h
 | [],_::_,_=>rfl
 | _::_,[],_=>rfl
 | x::l,y::q,h=>by
  have:l.length≠q.length:=fun e=>h (by simp [e])
  rw [eqL,IB this,Bool.and_false]
theorem DY {α:Type} {f:α->α->Bool} : ∀ {l:List α},(∀ x∈l,f x x=true)->eqL f l l=true
 | [],_=>rfl
 | x::l,h=>by rw [eqL,h x (by simp),DY (fun y hy=>h y (by simp [hy]))]; rfl
theorem Vg (a0:List UInt8) (a1:Int) (a2:List UInt8) (b0:List UInt8) (b1:Int) (b2:List UInt8):Ax prog (Ab []) (Ab []) f18 [.agg [.s a0,.j a1,.s a2],.agg [.s b0,.j b1,.s b2]] [] =
 ((ifB (!a0==b0) (some (V.b false,[])) (ifB (a1 != b1) (some (V.b false,[])) (ifB (!a2==b2) (some (V.b false,[])) (some (V.b true,[]))))):_):=by kernel_rfl
theorem Qt:Ag prog 18 (Ent.rd1 LB).F:=by
 refine Ae KnowsL.nil.knows (Λ:=Ab []) func18 (c:=f18.body.getD .skip) (by kernel_rfl) fun vs bs r hq hv hb=>?_
 unfold Ent.F LB at hq
 dsimp only at hq
 split at hq
 ·rename_i a0 a1 a2 b0 b1 b2
  refine ⟨Ak _,(Vg a0 a1 a2 b0 b1 b2).trans (Eq.trans ?_ hq)⟩
  show _=some _
  unfold EY bne
  dsimp only
  cases a0==b0<;>cases a1==b1<;>cases a2==b2<;>rfl
 ·cases hq
theorem Vb (a0:Int) (a1:List UInt8) (a2:Int) (a3:Bool) (a4 a5:Int) (b0:Int) (b1:List UInt8) (b2:Int) (b3:Bool) (b4 b5:Int):Ax prog (Ab []) (Ab []) f159 [.agg [.j a0,.s a1,.j a2,.b a3,.j a4,.j a5],.agg [.j b0,.s b1,.j b2,.b b3,.j b4,.j b5]] [] =
 ((ifB (a0 != b0) (some (V.b false,[])) (ifB (!a1==b1) (some (V.b false,[])) (ifB (a2 != b2) (some (V.b false,[])) (ifB (!a3==b3) (some (V.b false,[])) (ifB (a4 !=
 b4) (some (V.b false,[])) (ifB (a5 != b5) (some (V.b false,[])) (some (V.b true,[])))))))):_):=by kernel_rfl
theorem XZ:Ag prog 159 (Ent.rd1 Nz).F:=by
 refine Ae KnowsL.nil.knows (Λ:=Ab []) func159 (c:=f159.body.getD .skip) (by kernel_rfl) fun vs bs r hq hv hb=>?_
 unfold Ent.F Nz at hq
 dsimp only at hq
 split at hq
 ·rename_i a0 a1 a2 a3 a4 a5 b0 b1 b2 b3 b4 b5
  refine ⟨Ak _,(Vb a0 a1 a2 a3 a4 a5 b0 b1 b2 b3 b4 b5).trans (Eq.trans ?_ hq)⟩
  show _=some _
  unfold G1 bne
  dsimp only
  cases a0==b0<;>cases a1==b1<;>cases a2==b2<;>cases a3==b3<;>cases a4==b4<;>cases a5==b5<;>rfl
 ·cases hq
theorem UY (a0 a1 a2:Int) (a3:List UInt8) (a4 a5:Int) (b0 b1 b2:Int) (b3:List UInt8) (b4 b5:Int):Ax prog (Ab []) (Ab []) f158 [.agg [.j a0,.j a1,.j a2,.s a3,.j a4,.j a5],.agg [.j b0,.j b1,.j b2,.s b3,.j b4,.j b5]] [] =
 ((ifB (a0 != b0) (some (V.b false,[])) (ifB (a1 != b1) (some (V.b false,[])) (ifB (a2 != b2) (some (V.b false,[])) (ifB (!a3==b3) (some (V.b false,[])) (ifB (a4 != b4)
 (some (V.b false,[])) (ifB (a5 != b5) (some (V.b false,[])) (some (V.b true,[])))))))):_):=by kernel_rfl
theorem XY:Ag prog 158 (Ent.rd1 Nx).F:=by
 refine Ae KnowsL.nil.knows (Λ:=Ab []) func158 (c:=f158.body.getD .skip) (by kernel_rfl) fun vs bs r hq hv hb=>?_
 unfold Ent.F Nx at hq
 dsimp only at hq
 split at hq
 ·rename_i a0 a1 a2 a3 a4 a5 b0 b1 b2 b3 b4 b5
  refine ⟨Ak _,(UY a0 a1 a2 a3 a4 a5 b0 b1 b2 b3 b4 b5).trans (Eq.trans ?_ hq)⟩
  show _=some _
  unfold G0 bne
  dsimp only
  cases a0==b0<;>cases a1==b1<;>cases a2==b2<;>cases a3==b3<;>cases a4==b4<;>cases a5==b5<;>rfl
 ·cases hq
theorem J0 (l q:List Nt) (i:Int):Av prog (Ab [(18,.rd1 LB)]) (Ab [(4,FT)]) 0 (body f66 0) FT ([.sl NTd l,.sl NTd q,.j i],[]) =
 ((ifB (decide (i<(↑l.length:Int))) (ifT (decide ((0:Int)<=i)&&decide (i<(↑l.length:Int))) (Ah l[i.toNat]? fun z=>ifT (decide ((0:Int)<=i)&&decide (i
 < (↑q.length:Int))) (Ah q[i.toNat]? fun z_1=>ifB (!EY (z.fst,z.snd.fst,z.snd.snd.fst,()) (z_1.fst,z_1.snd.fst,z_1.snd.snd.fst,())) (some (Ex.ret,[V.b
 false],[])) (some (Ex.normal,[V.sl NTd l,V.sl NTd q,V.j (i64.wrap (i+(1:Int)))],[]))))) (some (Ex.exit 0,[],[]))):_):=by kernel_rfl
theorem S8 (l q:List Nt):Ax prog (Ab [(18,.rd1 LB)]) (Ab [(4,FT)]) f66 [.sl NTd l,.sl NTd q] [] =
 ((ifB ((↑l.length:Int) != (↑q.length:Int)) (some (V.b false,[])) (ifT (decide ((0:Int)<=(0:Int)/\0<=l.length/\l.length=q.length/\l.length<=maxI))
 (ifB (eqL EY (drop 0 l) (drop 0 q)) (some (V.b true,[])) (some (V.b false,[]))))):_):=by kernel_rfl
theorem LA (l q:List Nt) (hl:l.length<=maxI) (hq:l.length=q.length) : ∀ (j i:Nat),i+j=l.length->∀ ex d,(Br.br (eqL EY (l.drop i) (q.drop i)) (.leaf (.exit 0,([],[]))) (.leaf (.ret,([.b false],[]))):Br (Ex×Dt)).run=some (ex,d)->Runs prog (Ab [(18,.rd1 LB)]) (Ab [(4,FT)]) 0 (body f66 0) FT ([.sl NTd l,.sl NTd q,.j (i:Int)],[]) ex d
 | 0,i,hi,ex,d,h=>by
  have hr:=J0 l q i
  rw [Ac (dcF (by omega))] at hr
  rw [drop_eq_nil_of_le (by omega),drop_eq_nil_of_le (by omega),eqL] at h
  have h8:=Ao h
  obtain ⟨rfl,rfl⟩:=Prod.mk.inj h8
  exact .stop _ _ _ hr (by simp)
 | j+1,i,hi,ex,d,h=>by
  have hM:maxI=9223372036854775807:=rfl
  have hlt:i<l.length:=by omega
  have hlq:i<q.length:=by omega
  have hr:=J0 l q i
  rw [Af (dcT (by omega)),Aa (by simp only [anE,dcE]; omega),ntN,gtE hlt,Am,Aa (by simp only [anE,dcE]; omega),gtE hlq,Am,Ap (n:=i) (by omega)] at hr
  rw [drop_eq_getElem_cons hlt,drop_eq_getElem_cons hlq,eqL] at h
  have e : ∀ x y:Nt,EY (x.1,x.2.1,x.2.2.1,()) (y.1,y.2.1,y.2.2.1,())=EY x y:=fun x y=>rfl
  rw [e] at hr
  cases h1:EY l[i] q[i] with
  | false=>
   rw [h1] at hr h
   have h8:=Ao h
   obtain ⟨rfl,rfl⟩:=Prod.mk.inj h8
   exact .stop _ _ _ hr (by simp)
  | true=>
   rw [h1] at hr h
   exact .step _ _ _ _ hr (LA l q hl hq j (i+1) (by omega) ex d h)
theorem Vf:Ag prog 66 (Ent.rd1 S9).F:=by
 refine Ae (kc func18 Qt KnowsL.nil).knows (Λ:=(Ab [(4,FT)])) func66 (c:=f66.body.getD .skip) (by kernel_rfl) fun vs bs r hq hv hb=>?_
 unfold Ent.F S9 at hq
 dsimp only at hq
 split at hq
 ·rename_i l q
  obtain ⟨hc,hx⟩:=Ad hq
  have hc:=of_decide_eq_true hc
  have hok:Ar prog (Ab [(18,.rd1 LB)]) (Ab [(4,FT)]) 0 (f66.body.getD .skip):=by
   refine An (a:=body f66 0) (by kernel_rfl) fun d ex d' h=>?_
   unfold FT at h
   dsimp only at h
   split at h
   ·rename_i l q i
    obtain ⟨hc,hx⟩:=Ad h
    obtain ⟨a0,a1,a2,a3⟩:=of_decide_eq_true hc
    obtain ⟨i,rfl⟩:=eq_ofNat_of_zero_le a0
    simp only [ntN] at a1 hx
    exact LA l q a3 a2 (l.length-i) i (by omega) ex d' hx
   ·cases h
  refine ⟨hok,(S8 l q).trans (Eq.trans ?_ hx)⟩
  show _=some _
  by_cases h:l.length=q.length
  ·have h2:((l.length:Int) != (q.length:Int))=false:=bne_eq_false_iff_eq.2 (by omega)
   rw [h2,AS,Aa (dcT ⟨by omega,by omega,h,hc⟩),drop_zero,drop_zero]
   cases eqL EY l q<;>rfl
  ·have h2:((l.length:Int) != (q.length:Int))=true:=bne_iff_ne.2 (by omega)
   rw [h2,IB h]
   rfl
 ·cases hq
theorem Jy (l q:List Ty) (i:Int):Av prog (Ab [(159,.rd1 Nz)]) (Ab [(4,FR)]) 0 (body f117 0) FR ([.sl TCd l,.sl TCd q,.j i],[]) =
 ((ifB (decide (i<(↑l.length:Int))) (ifT (decide ((0:Int)<=i)&&decide (i<(↑l.length:Int))) (Ah l[i.toNat]? fun z=>ifT (decide ((0:Int)<=i)&&decide (i
 < (↑q.length:Int))) (Ah q[i.toNat]? fun z_1=>ifB (!G1 (z.fst,z.snd.fst,z.snd.snd.fst,z.snd.snd.snd.fst,z.snd.snd.snd.snd.fst,z.snd.snd.snd.snd.snd.fst,())
 (z_1.fst,z_1.snd.fst,z_1.snd.snd.fst,z_1.snd.snd.snd.fst,z_1.snd.snd.snd.snd.fst,z_1.snd.snd.snd.snd.snd.fst,())) (some (Ex.ret,[V.b false],[])) (some (Ex.normal,
 [V.sl TCd l,V.sl TCd q,V.j (i64.wrap (i+(1:Int)))],[]))))) (some (Ex.exit 0,[],[]))):_):=by kernel_rfl
theorem S3 (l q:List Ty):Ax prog (Ab [(159,.rd1 Nz)]) (Ab [(4,FR)]) f117 [.sl TCd l,.sl TCd q] [] =
 ((ifB ((↑l.length:Int) != (↑q.length:Int)) (some (V.b false,[])) (ifT (decide ((0:Int)<=(0:Int)/\0<=l.length/\l.length=q.length/\l.length<=maxI))
 (ifB (eqL G1 (drop 0 l) (drop 0 q)) (some (V.b true,[])) (some (V.b false,[]))))):_):=by kernel_rfl
theorem L8 (l q:List Ty) (hl:l.length<=maxI) (hq:l.length=q.length) : ∀ (j i:Nat),i+j=l.length->∀ ex d,(Br.br (eqL G1 (l.drop i) (q.drop i)) (.leaf (.exit 0,([],[]))) (.leaf (.ret,([.b false],[]))):Br (Ex×Dt)).run=some (ex,d)->Runs prog (Ab [(159,.rd1 Nz)]) (Ab [(4,FR)]) 0 (body f117 0) FR ([.sl TCd l,.sl TCd q,.j (i:Int)],[]) ex d
 | 0,i,hi,ex,d,h=>by
  have hr:=Jy l q i
  rw [Ac (dcF (by omega))] at hr
  rw [drop_eq_nil_of_le (by omega),drop_eq_nil_of_le (by omega),eqL] at h
  have h8:=Ao h
  obtain ⟨rfl,rfl⟩:=Prod.mk.inj h8
  exact .stop _ _ _ hr (by simp)
 | j+1,i,hi,ex,d,h=>by
  have hM:maxI=9223372036854775807:=rfl
  have hlt:i<l.length:=by omega
  have hlq:i<q.length:=by omega
  have hr:=Jy l q i
  rw [Af (dcT (by omega)),Aa (by simp only [anE,dcE]; omega),ntN,gtE hlt,Am,Aa (by simp only [anE,dcE]; omega),gtE hlq,Am,Ap (n:=i) (by omega)] at hr
  rw [drop_eq_getElem_cons hlt,drop_eq_getElem_cons hlq,eqL] at h
  have e : ∀ x y:Ty,G1 (x.1,x.2.1,x.2.2.1,x.2.2.2.1,x.2.2.2.2.1,x.2.2.2.2.2.1,()) (y.1,y.2.1,y.2.2.1,y.2.2.2.1,y.2.2.2.2.1,y.2.2.2.2.2.1,())=G1 x y:=fun x y=>rfl
  rw [e] at hr
  cases h1:G1 l[i] q[i] with
  | false=>
   rw [h1] at hr h
   have h8:=Ao h
   obtain ⟨rfl,rfl⟩:=Prod.mk.inj h8
   exact .stop _ _ _ hr (by simp)
  | true=>
   rw [h1] at hr h
   exact .step _ _ _ _ hr (L8 l q hl hq j (i+1) (by omega) ex d h)
theorem Va:Ag prog 117 (Ent.rd1 S4).F:=by
 refine Ae (kc func159 XZ KnowsL.nil).knows (Λ:=(Ab [(4,FR)])) func117 (c:=f117.body.getD .skip) (by kernel_rfl) fun vs bs r hq hv hb=>?_
 unfold Ent.F S4 at hq
 dsimp only at hq
 split at hq
 ·rename_i l q
  obtain ⟨hc,hx⟩:=Ad hq
  have hc:=of_decide_eq_true hc
  have hok:Ar prog (Ab [(159,.rd1 Nz)]) (Ab [(4,FR)]) 0 (f117.body.getD .skip):=by
   refine An (a:=body f117 0) (by kernel_rfl) fun d ex d' h=>?_
   unfold FR at h
   dsimp only at h
   split at h
   ·rename_i l q i
    obtain ⟨hc,hx⟩:=Ad h
    obtain ⟨a0,a1,a2,a3⟩:=of_decide_eq_true hc
    obtain ⟨i,rfl⟩:=eq_ofNat_of_zero_le a0
    simp only [ntN] at a1 hx
    exact L8 l q a3 a2 (l.length-i) i (by omega) ex d' hx
   ·cases h
  refine ⟨hok,(S3 l q).trans (Eq.trans ?_ hx)⟩
  show _=some _
  by_cases h:l.length=q.length
  ·have h2:((l.length:Int) != (q.length:Int))=false:=bne_eq_false_iff_eq.2 (by omega)
   rw [h2,AS,Aa (dcT ⟨by omega,by omega,h,hc⟩),drop_zero,drop_zero]
   cases eqL G1 l q<;>rfl
  ·have h2:((l.length:Int) != (q.length:Int))=true:=bne_iff_ne.2 (by omega)
   rw [h2,IB h]
   rfl
 ·cases hq
theorem Jx (l q:List Wt) (i:Int):Av prog (Ab [(158,.rd1 Nx)]) (Ab [(4,FQ)]) 0 (body f116 0) FQ ([.sl WCd l,.sl WCd q,.j i],[]) =
 ((ifB (decide (i<(↑l.length:Int))) (ifT (decide ((0:Int)<=i)&&decide (i<(↑l.length:Int))) (Ah l[i.toNat]? fun z=>ifT (decide ((0:Int)<=i)&&decide (i
 < (↑q.length:Int))) (Ah q[i.toNat]? fun z_1=>ifB (!G0 (z.fst,z.snd.fst,z.snd.snd.fst,z.snd.snd.snd.fst,z.snd.snd.snd.snd.fst,z.snd.snd.snd.snd.snd.fst,())
 (z_1.fst,z_1.snd.fst,z_1.snd.snd.fst,z_1.snd.snd.snd.fst,z_1.snd.snd.snd.snd.fst,z_1.snd.snd.snd.snd.snd.fst,())) (some (Ex.ret,[V.b false],[])) (some (Ex.normal,
 [V.sl WCd l,V.sl WCd q,V.j (i64.wrap (i+(1:Int)))],[]))))) (some (Ex.exit 0,[],[]))):_):=by kernel_rfl
theorem S1 (l q:List Wt):Ax prog (Ab [(158,.rd1 Nx)]) (Ab [(4,FQ)]) f116 [.sl WCd l,.sl WCd q] [] =
 ((ifB ((↑l.length:Int) != (↑q.length:Int)) (some (V.b false,[])) (ifT (decide ((0:Int)<=(0:Int)/\0<=l.length/\l.length=q.length/\l.length<=maxI))
 (ifB (eqL G0 (drop 0 l) (drop 0 q)) (some (V.b true,[])) (some (V.b false,[]))))):_):=by kernel_rfl
theorem L7 (l q:List Wt) (hl:l.length<=maxI) (hq:l.length=q.length) : ∀ (j i:Nat),i+j=l.length->∀ ex d,(Br.br (eqL G0 (l.drop i) (q.drop i)) (.leaf (.exit 0,([],[]))) (.leaf (.ret,([.b false],[]))):Br (Ex×Dt)).run=some (ex,d)->Runs prog (Ab [(158,.rd1 Nx)]) (Ab [(4,FQ)]) 0 (body f116 0) FQ ([.sl WCd l,.sl WCd q,.j (i:Int)],[]) ex d
 | 0,i,hi,ex,d,h=>by
  have hr:=Jx l q i
  rw [Ac (dcF (by omega))] at hr
  rw [drop_eq_nil_of_le (by omega),drop_eq_nil_of_le (by omega),eqL] at h
  have h8:=Ao h
  obtain ⟨rfl,rfl⟩:=Prod.mk.inj h8
  exact .stop _ _ _ hr (by simp)
 | j+1,i,hi,ex,d,h=>by
  have hM:maxI=9223372036854775807:=rfl
  have hlt:i<l.length:=by omega
  have hlq:i<q.length:=by omega
  have hr:=Jx l q i
  rw [Af (dcT (by omega)),Aa (by simp only [anE,dcE]; omega),ntN,gtE hlt,Am,Aa (by simp only [anE,dcE]; omega),gtE hlq,Am,Ap (n:=i) (by omega)] at hr
  rw [drop_eq_getElem_cons hlt,drop_eq_getElem_cons hlq,eqL] at h
  have e : ∀ x y:Wt,G0 (x.1,x.2.1,x.2.2.1,x.2.2.2.1,x.2.2.2.2.1,x.2.2.2.2.2.1,()) (y.1,y.2.1,y.2.2.1,y.2.2.2.1,y.2.2.2.2.1,y.2.2.2.2.2.1,())=G0 x y:=fun x y=>rfl
  rw [e] at hr
  cases h1:G0 l[i] q[i] with
  | false=>
   rw [h1] at hr h
   have h8:=Ao h
   obtain ⟨rfl,rfl⟩:=Prod.mk.inj h8
   exact .stop _ _ _ hr (by simp)
  | true=>
   rw [h1] at hr h
   exact .step _ _ _ _ hr (L7 l q hl hq j (i+1) (by omega) ex d h)
theorem UX:Ag prog 116 (Ent.rd1 S2).F:=by
 refine Ae (kc func158 XY KnowsL.nil).knows (Λ:=(Ab [(4,FQ)])) func116 (c:=f116.body.getD .skip) (by kernel_rfl) fun vs bs r hq hv hb=>?_
 unfold Ent.F S2 at hq
 dsimp only at hq
 split at hq
 ·rename_i l q
  obtain ⟨hc,hx⟩:=Ad hq
  have hc:=of_decide_eq_true hc
  have hok:Ar prog (Ab [(158,.rd1 Nx)]) (Ab [(4,FQ)]) 0 (f116.body.getD .skip):=by
   refine An (a:=body f116 0) (by kernel_rfl) fun d ex d' h=>?_
   unfold FQ at h
   dsimp only at h
   split at h
   ·rename_i l q i
    obtain ⟨hc,hx⟩:=Ad h
    obtain ⟨a0,a1,a2,a3⟩:=of_decide_eq_true hc
    obtain ⟨i,rfl⟩:=eq_ofNat_of_zero_le a0
    simp only [ntN] at a1 hx
    exact L7 l q a3 a2 (l.length-i) i (by omega) ex d' hx
   ·cases h
  refine ⟨hok,(S1 l q).trans (Eq.trans ?_ hx)⟩
  show _=some _
  by_cases h:l.length=q.length
  ·have h2:((l.length:Int) != (q.length:Int))=false:=bne_eq_false_iff_eq.2 (by omega)
   rw [h2,AS,Aa (dcT ⟨by omega,by omega,h,hc⟩),drop_zero,drop_zero]
   cases eqL G0 l q<;>rfl
  ·have h2:((l.length:Int) != (q.length:Int))=true:=bne_iff_ne.2 (by omega)
   rw [h2,IB h]
   rfl
 ·cases hq
def GM (x y:List Ty×Unit):Bool:=eqL G1 x.1 y.1
def FP (x:List Ty×Unit):Bool:=decide (x.1.length<=maxI)
def OC:Gm
 | [.agg [.sl TCd a0],.agg [.sl TCd b0]],[]=>.need (FP (a0,())) (.leaf (.b (GM (a0,()) (b0,())),[]))
 | _,_=>.no
def N3 (x y:List Wt×Unit):Bool:=eqL G0 x.1 y.1
def L6 (x:List Wt×Unit):Bool:=decide (x.1.length<=maxI)
def SB:Gm
 | [.agg [.sl WCd a0],.agg [.sl WCd b0]],[]=>.need (L6 (a0,())) (.leaf (.b (N3 (a0,()) (b0,())),[]))
 | _,_=>.no
def G2 (x y:Tp):Bool:=x.1==y.1&&(GM x.2.1 y.2.1&&x.2.2.1==y.2.2.1)
def E0 (x:Tp):Bool:=FP x.2.1
def N0:Gm
 | [.agg [.s a0,.sl TCd a1,.i .i64 a2],.agg [.s b0,.sl TCd b1,.i .i64 b2]],[]=>.need (E0 (a0,(a1,()),a2,())) (.leaf (.b (G2 (a0,(a1,()),a2,()) (b0,(b1,()),b2,())),[]))
 | _,_=>.no
def G3 (x y:Fa):Bool:=x.1==y.1&&(x.2.1==y.2.1&&(N3 x.2.2.1 y.2.2.1&&(GM x.2.2.2.1 y.2.2.2.1&&(eqL EY x.2.2.2.2.1 y.2.2.2.2.1&&x.2.2.2.2.2.1==y.2.2.2.2.2.1))))
def Eh (x:Fa):Bool:=L6 x.2.2.1&&(FP x.2.2.2.1&&decide (x.2.2.2.2.1.length<=maxI))
def N4:Gm
 | [.agg [.i .i64 a0,.s a1,.sl WCd a2,.sl TCd a3,.sl NTd a4,.i .i64 a5],.agg [.i .i64 b0,.s b1,.sl WCd b2,.sl TCd b3,.sl NTd b4,.i .i64 b5]],[]=>.need (Eh (a0,a1,(a2,()),(a3,()),a4,a5,())) (.leaf (.b (G3 (a0,a1,(a2,()),(a3,()),a4,a5,()) (b0,b1,(b2,()),(b3,()),b4,b5,())),[]))
 | _,_=>.no
def FS:LoopEnt:=⟨27,[0,1,5],[],[4],fun
 | ([.sl TPd l,.sl TPd q,.i .i64 i],[])=>.need (decide (0<=i/\i.toNat<=l.length/\l.length=q.length/\l.length<=maxI)&&l.all E0) (.br (eqL G2 (l.drop i.toNat) (q.drop i.toNat)) (.leaf (.exit 0,([],[]))) (.leaf (.ret,([.b false],[]))))
 | _=>.no⟩
def S6:Gm
 | [.sl TPd l,.sl TPd q],[]=>.need (decide (l.length<=maxI)&&l.all E0) (.leaf (.b (eqL G2 l q),[]))
 | _,_=>.no
def FU:LoopEnt:=⟨27,[0,1,5],[],[4],fun
 | ([.sl FNd l,.sl FNd q,.i .i64 i],[])=>.need (decide (0<=i/\i.toNat<=l.length/\l.length=q.length/\l.length<=maxI)&&l.all Eh) (.br (eqL G3 (l.drop i.toNat) (q.drop i.toNat)) (.leaf (.exit 0,([],[]))) (.leaf (.ret,([.b false],[]))))
 | _=>.no⟩
def SD:Gm
 | [.sl FNd l,.sl FNd q],[]=>.need (decide (l.length<=maxI)&&l.all Eh) (.leaf (.b (eqL G3 l q),[]))
 | _,_=>.no
def Qu (x y:List Tp×List Fa×Unit):Bool:=eqL G2 x.1 y.1&&eqL G3 x.2.1 y.2.1
def GL (x:List Tp×List Fa×Unit):Bool:=(decide (x.1.length<=maxI)&&x.1.all E0)&&(decide (x.2.1.length<=maxI)&&x.2.1.all Eh)
def Ye:Gm
 | [.agg l,.agg q],[]=>(match l with
  | [.sl TPd a0,.sl FNd a1]=>(match q with
   | [.sl TPd b0,.sl FNd b1]=>.need (GL (a0,a1,())) (.leaf (.b (Qu (a0,a1,()) (b0,b1,())),[]))
   | _=>.no)
  | _=>.no)
 | _,_=>.no
theorem S7 (a0:List Ty) (b0:List Ty):Ax prog (Ab [(117,.rd1 S4)]) (Ab []) f65 [.agg [.sl TCd a0],.agg [.sl TCd b0]] [] =
 ((ifT (decide (a0.length<=maxI)) (ifB (!eqL G1 a0 b0) (some (V.b false,[])) (some (V.b true,[])))):_):=by kernel_rfl
theorem N1:Ag prog 65 (Ent.rd1 OC).F:=by
 refine Ae (kc func117 Va KnowsL.nil).knows (Λ:=Ab []) func65 (c:=f65.body.getD .skip) (by kernel_rfl) fun vs bs r hq hv hb=>?_
 unfold Ent.F OC at hq
 dsimp only at hq
 split at hq
 ·rename_i a0 b0
  obtain ⟨hc,hx⟩:=Ad hq
  unfold FP at hc
  dsimp only at hc
  refine ⟨Ak _,(S7 a0 b0).trans (Eq.trans ?_ hx)⟩
  show _=some _
  unfold GM
  dsimp only
  rw [Aa hc]
  cases eqL G1 a0 b0<;>rfl
 ·cases hq
theorem SA (a0:List Wt) (b0:List Wt):Ax prog (Ab [(116,.rd1 S2)]) (Ab []) f64 [.agg [.sl WCd a0],.agg [.sl WCd b0]] [] =
 ((ifT (decide (a0.length<=maxI)) (ifB (!eqL G0 a0 b0) (some (V.b false,[])) (some (V.b true,[])))):_):=by kernel_rfl
theorem Vh:Ag prog 64 (Ent.rd1 SB).F:=by
 refine Ae (kc func116 UX KnowsL.nil).knows (Λ:=Ab []) func64 (c:=f64.body.getD .skip) (by kernel_rfl) fun vs bs r hq hv hb=>?_
 unfold Ent.F SB at hq
 dsimp only at hq
 split at hq
 ·rename_i a0 b0
  obtain ⟨hc,hx⟩:=Ad hq
  unfold L6 at hc
  dsimp only at hc
  refine ⟨Ak _,(SA a0 b0).trans (Eq.trans ?_ hx)⟩
  show _=some _
  unfold N3
  dsimp only
  rw [Aa hc]
  cases eqL G0 a0 b0<;>rfl
 ·cases hq
theorem Vd (a0:List UInt8) (a1:List Ty) (a2:Int) (b0:List UInt8) (b1:List Ty) (b2:Int):Ax prog (Ab [(65,.rd1 OC)]) (Ab []) f56 [.agg [.s a0,.sl TCd a1,.j a2],.agg [.s b0,.sl TCd b1,.j b2]] [] =
 ((ifB (!a0==b0) (some (V.b false,[])) (ifT (FP (a1,())) (ifB (!GM (a1,()) (b1,())) (some (V.b false,[])) (ifB (a2 != b2) (some (V.b false,[])) (some (V.b
 true,[])))))):_):=by kernel_rfl
theorem Ya:Ag prog 56 (Ent.rd1 N0).F:=by
 refine Ae (kc func65 N1 KnowsL.nil).knows (Λ:=Ab []) func56 (c:=f56.body.getD .skip) (by kernel_rfl) fun vs bs r hq hv hb=>?_
 unfold Ent.F N0 at hq
 dsimp only at hq
 split at hq
 ·rename_i a0 a1 a2 b0 b1 b2
  obtain ⟨hc,hx⟩:=Ad hq
  unfold E0 at hc
  dsimp only at hc
  refine ⟨Ak _,(Vd a0 a1 a2 b0 b1 b2).trans (Eq.trans ?_ hx)⟩
  show _=some _
  unfold G2
  dsimp only
  rw [Aa hc]
  unfold bne
  cases a0==b0<;>cases GM (a1,()) (b1,())<;>cases a2==b2<;>rfl
 ·cases hq
theorem Vj (a0:Int) (a1:List UInt8) (a2:List Wt) (a3:List Ty) (a4:List Nt) (a5:Int) (b0:Int) (b1:List UInt8) (b2:List Wt) (b3:List Ty) (b4:List Nt) (b5:Int):Ax prog (Ab [(64,.rd1 SB),(65,.rd1 OC),(66,.rd1 S9)]) (Ab []) f29 [.agg [.j a0,.s a1,.sl WCd a2,.sl TCd a3,.sl NTd a4,.j a5],.agg [.j b0,.s b1,.sl WCd b2,.sl TCd b3,.sl NTd b4,.j b5]] [] =
 ((ifB (a0 != b0) (some (V.b false,[])) (ifB (!a1==b1) (some (V.b false,[])) (ifT (L6 (a2,())) (ifB (!N3 (a2,()) (b2,())) (some (V.b false,[])) (ifT (FP
 (a3,())) (ifB (!GM (a3,()) (b3,())) (some (V.b false,[])) (ifT (decide (a4.length<=maxI)) (ifB (!eqL EY a4 b4) (some (V.b false,[])) (ifB (a5 != b5) (some (V.b
 false,[])) (some (V.b true,[]))))))))))):_):=by kernel_rfl
theorem Yc:Ag prog 29 (Ent.rd1 N4).F:=by
 refine Ae (kc func64 Vh (kc func65 N1 (kc func66 Vf KnowsL.nil))).knows (Λ:=Ab []) func29 (c:=f29.body.getD .skip) (by kernel_rfl) fun vs bs r hq hv hb=>?_
 unfold Ent.F N4 at hq
 dsimp only at hq
 split at hq
 ·rename_i a0 a1 a2 a3 a4 a5 b0 b1 b2 b3 b4 b5
  obtain ⟨hc,hx⟩:=Ad hq
  unfold Eh at hc
  dsimp only at hc
  refine ⟨Ak _,(Vj a0 a1 a2 a3 a4 a5 b0 b1 b2 b3 b4 b5).trans (Eq.trans ?_ hx)⟩
  show _=some _
  unfold G3
  dsimp only
  rw [anE,anE] at hc
  rw [Aa hc.1,Aa hc.2.1,Aa hc.2.2]
  unfold bne
  cases a0==b0<;>cases a1==b1<;>cases N3 (a2,()) (b2,())<;>cases GM (a3,()) (b3,())<;>cases eqL EY a4 b4<;>cases a5==b5<;>rfl
 ·cases hq
theorem Jz (l q:List Tp) (i:Int):Av prog (Ab [(56,.rd1 N0)]) (Ab [(4,FS)]) 0 (body f23 0) FS ([.sl TPd l,.sl TPd q,.j i],[]) =
 ((ifB (decide (i<(↑l.length:Int))) (ifT (decide ((0:Int)<=i)&&decide (i<(↑l.length:Int))) (Ah l[i.toNat]? fun z=>ifT (decide ((0:Int)<=i)&&decide (i
 < (↑q.length:Int))) (Ah q[i.toNat]? fun z_1=>ifT (E0 (z.fst,(z.snd.fst.fst,()),z.snd.snd.fst,())) (ifB (!G2 (z.fst,(z.snd.fst.fst,()),z.snd.snd.fst,
 ()) (z_1.fst,(z_1.snd.fst.fst,()),z_1.snd.snd.fst,())) (some (Ex.ret,[V.b false],[])) (some (Ex.normal,[V.sl TPd l,V.sl TPd q,V.j (i64.wrap (i+(1
 : Int)))],[])))))) (some (Ex.exit 0,[],[]))):_):=by kernel_rfl
theorem S5 (l q:List Tp):Ax prog (Ab [(56,.rd1 N0)]) (Ab [(4,FS)]) f23 [.sl TPd l,.sl TPd q] [] =
 ((ifB ((↑l.length:Int) != (↑q.length:Int)) (some (V.b false,[])) (ifT (decide ((0:Int)<=(0:Int)/\0<=l.length/\l.length=q.length/\l.length<=maxI)&&
 l.all E0) (ifB (eqL G2 (drop 0 l) (drop 0 q)) (some (V.b true,[])) (some (V.b false,[]))))):_):=by kernel_rfl
theorem L9 (l q:List Tp) (hl:l.length<=maxI) (hq:l.length=q.length) (hn:l.all E0=true) : ∀ (j i:Nat),i+j=l.length->∀ ex d,(Br.br (eqL G2 (l.drop i) (q.drop i)) (.leaf (.exit 0,([],[]))) (.leaf (.ret,([.b false],[]))):Br (Ex×Dt)).run=some (ex,d)->Runs prog (Ab [(56,.rd1 N0)]) (Ab [(4,FS)]) 0 (body f23 0) FS ([.sl TPd l,.sl TPd q,.j (i:Int)],[]) ex d
 | 0,i,hi,ex,d,h=>by
  have hr:=Jz l q i
  rw [Ac (dcF (by omega))] at hr
  rw [drop_eq_nil_of_le (by omega),drop_eq_nil_of_le (by omega),eqL] at h
  have h8:=Ao h
  obtain ⟨rfl,rfl⟩:=Prod.mk.inj h8
  exact .stop _ _ _ hr (by simp)
 | j+1,i,hi,ex,d,h=>by
  have hM:maxI=9223372036854775807:=rfl
  have hlt:i<l.length:=by omega
  have hlq:i<q.length:=by omega
  have hr:=Jz l q i
  rw [Af (dcT (by omega)),Aa (by simp only [anE,dcE]; omega),ntN,gtE hlt,Am,Aa (by simp only [anE,dcE]; omega),gtE hlq,Am,Ap (n:=i) (by omega)] at hr
  rw [drop_eq_getElem_cons hlt,drop_eq_getElem_cons hlq,eqL] at h
  have e : ∀ x y:Tp,G2 (x.1,(x.2.1.1,()),x.2.2.1,()) (y.1,(y.2.1.1,()),y.2.2.1,())=G2 x y:=fun x y=>rfl
  rw [e,show E0 (l[i].1,(l[i].2.1.1,()),l[i].2.2.1,())=true from all_eq_true.1 hn _ (getElem_mem hlt),Cn] at hr
  cases h1:G2 l[i] q[i] with
  | false=>
   rw [h1] at hr h
   have h8:=Ao h
   obtain ⟨rfl,rfl⟩:=Prod.mk.inj h8
   exact .stop _ _ _ hr (by simp)
  | true=>
   rw [h1] at hr h
   exact .step _ _ _ _ hr (L9 l q hl hq hn j (i+1) (by omega) ex d h)
theorem Vc:Ag prog 23 (Ent.rd1 S6).F:=by
 refine Ae (kc func56 Ya KnowsL.nil).knows (Λ:=(Ab [(4,FS)])) func23 (c:=f23.body.getD .skip) (by kernel_rfl) fun vs bs r hq hv hb=>?_
 unfold Ent.F S6 at hq
 dsimp only at hq
 split at hq
 ·rename_i l q
  obtain ⟨hc,hx⟩:=Ad hq
  rw [anE,dcE] at hc
  obtain ⟨hc,hn⟩:=hc
  have hok:Ar prog (Ab [(56,.rd1 N0)]) (Ab [(4,FS)]) 0 (f23.body.getD .skip):=by
   refine An (a:=body f23 0) (by kernel_rfl) fun d ex d' h=>?_
   unfold FS at h
   dsimp only at h
   split at h
   ·rename_i l q i
    obtain ⟨hc,hx⟩:=Ad h
    rw [anE,dcE] at hc
    obtain ⟨⟨a0,a1,a2,a3⟩,a4⟩:=hc
    obtain ⟨i,rfl⟩:=eq_ofNat_of_zero_le a0
    simp only [ntN] at a1 hx
    exact L9 l q a3 a2 a4 (l.length-i) i (by omega) ex d' hx
   ·cases h
  refine ⟨hok,(S5 l q).trans (Eq.trans ?_ hx)⟩
  show _=some _
  by_cases h:l.length=q.length
  ·have h2:((l.length:Int) != (q.length:Int))=false:=bne_eq_false_iff_eq.2 (by omega)
   rw [h2,AS,Aa (by rw [anE]; exact ⟨dcT ⟨by omega,by omega,h,hc⟩,hn⟩),drop_zero,drop_zero]
   cases eqL G2 l q<;>rfl
  ·have h2:((l.length:Int) != (q.length:Int))=true:=bne_iff_ne.2 (by omega)
   rw [h2,IB h]
   rfl
 ·cases hq
theorem J1 (l q:List Fa) (i:Int):Av prog (Ab [(29,.rd1 N4)]) (Ab [(4,FU)]) 0 (body f44 0) FU ([.sl FNd l,.sl FNd q,.j i],[]) =
 ((ifB (decide (i<(↑l.length:Int))) (ifT (decide ((0:Int)<=i)&&decide (i<(↑l.length:Int))) (Ah l[i.toNat]? fun z=>ifT (decide ((0:Int)<=i)&&decide (i
 < (↑q.length:Int))) (Ah q[i.toNat]? fun z_1=>ifT (Eh (z.fst,z.snd.fst,(z.snd.snd.fst.fst,()),(z.snd.snd.snd.fst.fst,()),z.snd.snd.snd.snd.fst,
 z.snd.snd.snd.snd.snd.fst,())) (ifB (!G3 (z.fst,z.snd.fst,(z.snd.snd.fst.fst,()),(z.snd.snd.snd.fst.fst,()),z.snd.snd.snd.snd.fst,z.snd.snd.snd.snd.snd.fst,())
 (z_1.fst,z_1.snd.fst,(z_1.snd.snd.fst.fst,()),(z_1.snd.snd.snd.fst.fst,()),z_1.snd.snd.snd.snd.fst,z_1.snd.snd.snd.snd.snd.fst,())) (some (Ex.ret,[V.b false],
 [])) (some (Ex.normal,[V.sl FNd l,V.sl FNd q,V.j (i64.wrap (i+(1:Int)))],[])))))) (some (Ex.exit 0,[],[]))):_):=by kernel_rfl
theorem SC (l q:List Fa):Ax prog (Ab [(29,.rd1 N4)]) (Ab [(4,FU)]) f44 [.sl FNd l,.sl FNd q] [] =
 ((ifB ((↑l.length:Int) != (↑q.length:Int)) (some (V.b false,[])) (ifT (decide ((0:Int)<=(0:Int)/\0<=l.length/\l.length=q.length/\l.length<=maxI)&&
 l.all Eh) (ifB (eqL G3 (drop 0 l) (drop 0 q)) (some (V.b true,[])) (some (V.b false,[]))))):_):=by kernel_rfl
theorem LC (l q:List Fa) (hl:l.length<=maxI) (hq:l.length=q.length) (hn:l.all Eh=true) : ∀ (j i:Nat),i+j=l.length->∀ ex d,(Br.br (eqL G3 (l.drop i) (q.drop i)) (.leaf (.exit 0,([],[]))) (.leaf (.ret,([.b false],[]))):Br (Ex×Dt)).run=some (ex,d)->Runs prog (Ab [(29,.rd1 N4)]) (Ab [(4,FU)]) 0 (body f44 0) FU ([.sl FNd l,.sl FNd q,.j (i:Int)],[]) ex d
 | 0,i,hi,ex,d,h=>by
  have hr:=J1 l q i
  rw [Ac (dcF (by omega))] at hr
  rw [drop_eq_nil_of_le (by omega),drop_eq_nil_of_le (by omega),eqL] at h
  have h8:=Ao h
  obtain ⟨rfl,rfl⟩:=Prod.mk.inj h8
  exact .stop _ _ _ hr (by simp)
 | j+1,i,hi,ex,d,h=>by
  have hM:maxI=9223372036854775807:=rfl
  have hlt:i<l.length:=by omega
  have hlq:i<q.length:=by omega
  have hr:=J1 l q i
  rw [Af (dcT (by omega)),Aa (by simp only [anE,dcE]; omega),ntN,gtE hlt,Am,Aa (by simp only [anE,dcE]; omega),gtE hlq,Am,Ap (n:=i) (by omega)] at hr
  rw [drop_eq_getElem_cons hlt,drop_eq_getElem_cons hlq,eqL] at h
  have e : ∀ x y:Fa,G3 (x.1,x.2.1,(x.2.2.1.1,()),(x.2.2.2.1.1,()),x.2.2.2.2.1,x.2.2.2.2.2.1,()) (y.1,y.2.1,(y.2.2.1.1,()),(y.2.2.2.1.1,()),y.2.2.2.2.1,y.2.2.2.2.2.1,())=G3 x y:=fun x y=>rfl
  rw [e,show Eh (l[i].1,l[i].2.1,(l[i].2.2.1.1,()),(l[i].2.2.2.1.1,()),l[i].2.2.2.2.1,l[i].2.2.2.2.2.1,())=true from all_eq_true.1 hn _ (getElem_mem hlt),Cn] at hr
  cases h1:G3 l[i] q[i] with
  | false=>
   rw [h1] at hr h
   have h8:=Ao h
   obtain ⟨rfl,rfl⟩:=Prod.mk.inj h8
   exact .stop _ _ _ hr (by simp)
  | true=>
   rw [h1] at hr h
   exact .step _ _ _ _ hr (LC l q hl hq hn j (i+1) (by omega) ex d h)
theorem Vi:Ag prog 44 (Ent.rd1 SD).F:=by
 refine Ae (kc func29 Yc KnowsL.nil).knows (Λ:=(Ab [(4,FU)])) func44 (c:=f44.body.getD .skip) (by kernel_rfl) fun vs bs r hq hv hb=>?_
 unfold Ent.F SD at hq
 dsimp only at hq
 split at hq
 ·rename_i l q
  obtain ⟨hc,hx⟩:=Ad hq
  rw [anE,dcE] at hc
  obtain ⟨hc,hn⟩:=hc
  have hok:Ar prog (Ab [(29,.rd1 N4)]) (Ab [(4,FU)]) 0 (f44.body.getD .skip):=by
   refine An (a:=body f44 0) (by kernel_rfl) fun d ex d' h=>?_
   unfold FU at h
   dsimp only at h
   split at h
   ·rename_i l q i
    obtain ⟨hc,hx⟩:=Ad h
    rw [anE,dcE] at hc
    obtain ⟨⟨a0,a1,a2,a3⟩,a4⟩:=hc
    obtain ⟨i,rfl⟩:=eq_ofNat_of_zero_le a0
    simp only [ntN] at a1 hx
    exact LC l q a3 a2 a4 (l.length-i) i (by omega) ex d' hx
   ·cases h
  refine ⟨hok,(SC l q).trans (Eq.trans ?_ hx)⟩
  show _=some _
  by_cases h:l.length=q.length
  ·have h2:((l.length:Int) != (q.length:Int))=false:=bne_eq_false_iff_eq.2 (by omega)
   rw [h2,AS,Aa (by rw [anE]; exact ⟨dcT ⟨by omega,by omega,h,hc⟩,hn⟩),drop_zero,drop_zero]
   cases eqL G3 l q<;>rfl
  ·have h2:((l.length:Int) != (q.length:Int))=true:=bne_iff_ne.2 (by omega)
   rw [h2,IB h]
   rfl
 ·cases hq
theorem Vl (a0:List Tp) (a1:List Fa) (b0:List Tp) (b1:List Fa):Ax prog (Ab [(23,.rd1 S6),(44,.rd1 SD)]) (Ab []) f13 [.agg [.sl TPd a0,.sl FNd a1],.agg [.sl TPd b0,.sl FNd b1]] [] =
 ((ifT (decide (a0.length<=maxI)&&a0.all E0) (ifB (!eqL G2 a0 b0) (some (V.b false,[])) (ifT (decide (a1.length<=maxI)&&a1.all Eh) (ifB (!eqL G3 a1 b1) (some
 (V.b false,[])) (some (V.b true,[])))))):_):=by kernel_rfl
theorem Yd:Ag prog 13 (Ent.rd1 Ye).F:=by
 refine Ae (kc func23 Vc (kc func44 Vi KnowsL.nil)).knows (Λ:=Ab []) func13 (c:=f13.body.getD .skip) (by kernel_rfl) fun vs bs r hq hv hb=>?_
 unfold Ent.F Ye at hq
 dsimp only at hq
 split at hq
 rotate_left
 ·cases hq
 split at hq
 rotate_left
 ·cases hq
 rename_i a0 a1
 split at hq
 ·rename_i b0 b1
  obtain ⟨hc,hx⟩:=Ad hq
  unfold GL at hc
  dsimp only at hc
  refine ⟨Ak _,(Vl a0 a1 b0 b1).trans (Eq.trans ?_ hx)⟩
  show _=some _
  unfold Qu
  dsimp only
  rw [anE] at hc
  rw [Aa hc.1,Aa hc.2]
  cases eqL G2 a0 b0<;>cases eqL G3 a1 b1<;>rfl
 ·cases hq
def Km:Gm
 | [.agg [.s a0,.i .i64 a1,.s a2]],[]=>.leaf (.agg [.s a0,.i .i64 a1,.s a2],[])
 | _,_=>.no
def ED:LoopEnt:=⟨23,[0,3,4],[3],[],fun
 | ([.sl NTd l,.ref 0 0 m,.i .i64 n],[some (.row false none NTd r)])=>
  .need (decide (0<=n/\m=l.length/\r.length=l.length/\n.toNat<=l.length/\l.length<=maxI)) (.leaf (.exit 0,([.ref 0 0 m],[some (.row false none NTd (r.take n.toNat++l.drop n.toNat))])))
 | _=>.no⟩
def Rd:Gm
 | [.sl NTd l],[]=>.need (decide (l.length<=1000000000)) (.leaf (.ref 0 0 l.length,[some (.row false none NTd l)]))
 | _,_=>.no

def Kj:Gm
 | [.agg [.i .i64 a0,.s a1,.i .i64 a2,.b a3,.i .i64 a4,.i .i64 a5]],[]=>.leaf (.agg [.i .i64 a0,.s a1,.i .i64 a2,.b a3,.i .i64 a4,.i .i64 a5],[])
 | _,_=>.no
def EC:LoopEnt:=⟨23,[0,3,4],[3],[],fun
 | ([.sl TCd l,.ref 0 0 m,.i .i64 n],[some (.row false none TCd r)])=>
  .need (decide (0<=n/\m=l.length/\r.length=l.length/\n.toNat<=l.length/\l.length<=maxI)) (.leaf (.exit 0,([.ref 0 0 m],[some (.row false none TCd (r.take n.toNat++l.drop n.toNat))])))
 | _=>.no⟩
def QZ:Gm
 | [.sl TCd l],[]=>.need (decide (l.length<=1000000000)) (.leaf (.ref 0 0 l.length,[some (.row false none TCd l)]))
 | _,_=>.no

def Kh:Gm
 | [.agg [.i .i64 a0,.i .i64 a1,.i .i64 a2,.s a3,.i .i64 a4,.i .i64 a5]],[]=>.leaf (.agg [.i .i64 a0,.i .i64 a1,.i .i64 a2,.s a3,.i .i64 a4,.i .i64 a5],[])
 | _,_=>.no
def EB:LoopEnt:=⟨23,[0,3,4],[3],[],fun
 | ([.sl WCd l,.ref 0 0 m,.i .i64 n],[some (.row false none WCd r)])=>
  .need (decide (0<=n/\m=l.length/\r.length=l.length/\n.toNat<=l.length/\l.length<=maxI)) (.leaf (.exit 0,([.ref 0 0 m],[some (.row false none WCd (r.take n.toNat++l.drop n.toNat))])))
 | _=>.no⟩
def QY:Gm
 | [.sl WCd l],[]=>.need (decide (l.length<=1000000000)) (.leaf (.ref 0 0 l.length,[some (.row false none WCd l)]))
 | _,_=>.no
theorem VV (a0:List UInt8) (a1:Int) (a2:List UInt8):Ax prog (Ab []) (Ab []) f167 [.agg [.s a0,.j a1,.s a2]] []=some (.agg [.s a0,.j a1,.s a2],[]):=by kernel_rfl
theorem Afd:Ag prog 167 (Ent.rd1 Km).F:=by
 refine Ae (KnowsL.nil).knows (Λ:=Ab []) func167 (c:=f167.body.getD .skip) (by kernel_rfl) fun vs bs r h _ _=>?_
 unfold Ent.F Km at h
 dsimp only at h
 split at h
 ·exact ⟨Ak _,(VV _ _ _ ).trans (by cases h; rfl)⟩
 ·cases h
theorem IT (l r:List Nt) (m n:Nat):Av prog (Ab [(167,.rd1 Km)]) (Ab [(3,ED)]) 0 (body f129 0) ED ([.sl NTd l,.ref 0 0 m,.j n],[some (.row false none NTd r)]) =
 ((ifB (decide ((↑n:Int)<(↑l.length:Int))) (ifT (decide ((0:Int)<=(↑n:Int))&&decide ((↑n:Int)<(↑l.length:Int))) (Ah l[((↑n:Int)).toNat]? fun z=>ifT
 (decide ((0:Int)<=(↑n:Int))&&decide ((↑n:Int)<(↑m:Int))) (Ah r[0+((↑n:Int)).toNat]? fun z_1=>some (Ex.normal,[V.sl NTd l,V.ref 0 0 m,V.i
 .i64 (i64.wrap ((↑n:Int)+(1:Int)))],[some (Blk.row false none NTd (r.set (0+((↑n:Int)).toNat) (z.fst,z.snd.fst,z.snd.snd.fst,())))]))))
 (some (Ex.exit 0,[V.ref 0 0 m],[some (Blk.row false none NTd r)]))):_):=by kernel_rfl
theorem Kl {l:List Nt} {m:Nat} (hm:m=l.length) (hx:l.length<=maxI) : ∀ (k n:Nat) (r:List Nt),n+k=l.length->r.length=l.length->
  Runs prog (Ab [(167,.rd1 Km)]) (Ab [(3,ED)]) 0 (body f129 0) ED ([.sl NTd l,.ref 0 0 m,.j n],[some (.row false none NTd r)]) (.exit 0) ([.ref 0 0 m],[some (.row false none NTd (r.take n++l.drop n))])
 | 0,n,r,hn,hr=>by
  refine .stop _ _ _ ((IT l r m n).trans ?_) (by simp)
  simp [show ¬n<l.length by omega,show r.take n=r from take_of_length_le (by omega),show l.drop n=[] from drop_eq_nil_of_le (by omega)]
 | k+1,n,r,hn,hr=>by
  have h1:n<l.length:=by omega
  have h2:n<r.length:=by omega
  have h3:n<m:=by omega
  have hq:=IT l r m n
  simp only [ntN,gtE h1,zero_add,gtE h2,Ap (n:=n) (by omega)] at hq
  refine .step _ _ _ (d1:=([.sl NTd l,.ref 0 0 m,.j ((n+1:Nat):Int)],[some (.row false none NTd (r.set n l[n]))])) (hq.trans ?_) ?_
  ·simp [h1,h2,h3]
  ·have:=Kl hm hx k (n+1) (r.set n l[n]) (by omega) (by simp; omega)
   rw [CH h2,append_assoc,singleton_append,<-drop_eq_getElem_cons h1] at this
   exact this
theorem VU:Ar prog (Ab [(167,.rd1 Km)]) (Ab [(3,ED)]) 0 (f129.body.getD .skip):=by
 refine An (a:=body f129 0) (by kernel_rfl) fun d e d' h=>?_
 unfold ED at h
 dsimp only at h
 split at h
 ·obtain ⟨hc,h⟩:=Ad h
  have hc:=of_decide_eq_true hc
  obtain ⟨n,rfl⟩:=eq_ofNat_of_zero_le hc.1
  cases h
  exact Kl hc.2.1 hc.2.2.2.2 _ n _ (add_sub_of_le hc.2.2.2.1) hc.2.2.1
 ·cases h
theorem TJ (l:List Nt) (hx:l.length<=1000000000):Ax prog (Ab [(167,.rd1 Km)]) (Ab [(3,ED)]) f129 [.sl NTd l] []=some (.ref 0 0 l.length,[some (.row false none NTd l)]):=by
 have e:Ax prog (Ab [(167,.rd1 Km)]) (Ab [(3,ED)]) f129 [.sl NTd l] [] =
  ((ifT (decide ((0:Int)<=(↑l.length:Int))&&decide ((↑l.length:Int)<=(↑l.length:Int))&&decide ((↑l.length:Int)*(↑(40:Nat):Int)<=(140737488355328:Int))
 && decide ((↑l.length:Int)<=(9223372036854775807:Int))) (ifT (decide ((0:Int)<=(0:Int)/\(↑l.length:Int).toNat=l.length/\(replicate (↑l.length :
 Int).toNat (Aj UInt8,(0:Int),Aj UInt8,())).length=l.length/\0<=l.length/\l.length<=maxI)) (some (V.ref 0 0 (↑l.length:Int).toNat,[some (Blk.row
 false none NTd (Aj NTd.den++drop 0 l))])))):_):=by kernel_rfl
 rw [e]
 have hx':l.length<=maxI:=le_trans hx (by decide)
 simp [hx']
 omega
theorem Adp:Ag prog 129 (Ent.rd1 Rd).F:=by
 refine Ae (kc func167 Afd KnowsL.nil).knows (Λ:=(Ab [(3,ED)])) func129 (c:=f129.body.getD .skip) (by kernel_rfl) fun vs bs r h hv hb=>?_
 unfold Ent.F Rd at h
 dsimp only at h
 split at h
 ·rename_i l
  obtain ⟨hc,h⟩:=Ad h
  exact ⟨VU,(TJ l (of_decide_eq_true hc)).trans (by cases h; rfl)⟩
 ·cases h
theorem VS (a0:Int) (a1:List UInt8) (a2:Int) (a3:Bool) (a4 a5:Int):Ax prog (Ab []) (Ab []) f199 [.agg [.j a0,.s a1,.j a2,.b a3,.j a4,.j a5]] []=some (.agg [.j a0,.s a1,.j a2,.b a3,.j a4,.j a5],[]):=by kernel_rfl
theorem Afc:Ag prog 199 (Ent.rd1 Kj).F:=by
 refine Ae (KnowsL.nil).knows (Λ:=Ab []) func199 (c:=f199.body.getD .skip) (by kernel_rfl) fun vs bs r h _ _=>?_
 unfold Ent.F Kj at h
 dsimp only at h
 split at h
 ·exact ⟨Ak _,(VS _ _ _ _ _ _ ).trans (by cases h; rfl)⟩
 ·cases h
theorem IR (l r:List Ty) (m n:Nat):Av prog (Ab [(199,.rd1 Kj)]) (Ab [(3,EC)]) 0 (body f156 0) EC ([.sl TCd l,.ref 0 0 m,.j n],[some (.row false none TCd r)]) =
 ((ifB (decide ((↑n:Int)<(↑l.length:Int))) (ifT (decide ((0:Int)<=(↑n:Int))&&decide ((↑n:Int)<(↑l.length:Int))) (Ah l[((↑n:Int)).toNat]? fun z=>ifT
 (decide ((0:Int)<=(↑n:Int))&&decide ((↑n:Int)<(↑m:Int))) (Ah r[0+((↑n:Int)).toNat]? fun z_1=>some (Ex.normal,[V.sl TCd l,V.ref 0 0 m,V.i
 .i64 (i64.wrap ((↑n:Int)+(1:Int)))],[some (Blk.row false none TCd (r.set (0+((↑n:Int)).toNat) (z.fst,z.snd.fst,z.snd.snd.fst,
 z.snd.snd.snd.fst,z.snd.snd.snd.snd.fst,z.snd.snd.snd.snd.snd.fst,())))])))) (some (Ex.exit 0,[V.ref 0 0 m],[some (Blk.row false none TCd r)]))):_):=by kernel_rfl
theorem Ki {l:List Ty} {m:Nat} (hm:m=l.length) (hx:l.length<=maxI) : ∀ (k n:Nat) (r:List Ty),n+k=l.length->r.length=l.length->
  Runs prog (Ab [(199,.rd1 Kj)]) (Ab [(3,EC)]) 0 (body f156 0) EC ([.sl TCd l,.ref 0 0 m,.j n],[some (.row false none TCd r)]) (.exit 0) ([.ref 0 0 m],[some (.row false none TCd (r.take n++l.drop n))])
 | 0,n,r,hn,hr=>by
  refine .stop _ _ _ ((IR l r m n).trans ?_) (by simp)
  simp [show ¬n<l.length by omega,show r.take n=r from take_of_length_le (by omega),show l.drop n=[] from drop_eq_nil_of_le (by omega)]
 | k+1,n,r,hn,hr=>by
  have h1:n<l.length:=by omega
  have h2:n<r.length:=by omega
  have h3:n<m:=by omega
  have hq:=IR l r m n
  simp only [ntN,gtE h1,zero_add,gtE h2,Ap (n:=n) (by omega)] at hq
  refine .step _ _ _ (d1:=([.sl TCd l,.ref 0 0 m,.j ((n+1:Nat):Int)],[some (.row false none TCd (r.set n l[n]))])) (hq.trans ?_) ?_
  ·simp [h1,h2,h3]
  ·have:=Ki hm hx k (n+1) (r.set n l[n]) (by omega) (by simp; omega)
   rw [CH h2,append_assoc,singleton_append,<-drop_eq_getElem_cons h1] at this
   exact this
theorem VR:Ar prog (Ab [(199,.rd1 Kj)]) (Ab [(3,EC)]) 0 (f156.body.getD .skip):=by
 refine An (a:=body f156 0) (by kernel_rfl) fun d e d' h=>?_
 unfold EC at h
 dsimp only at h
 split at h
 ·obtain ⟨hc,h⟩:=Ad h
  have hc:=of_decide_eq_true hc
  obtain ⟨n,rfl⟩:=eq_ofNat_of_zero_le hc.1
  cases h
  exact Ki hc.2.1 hc.2.2.2.2 _ n _ (add_sub_of_le hc.2.2.2.1) hc.2.2.1
 ·cases h
theorem TH (l:List Ty) (hx:l.length<=1000000000):Ax prog (Ab [(199,.rd1 Kj)]) (Ab [(3,EC)]) f156 [.sl TCd l] []=some (.ref 0 0 l.length,[some (.row false none TCd l)]):=by
 have e:Ax prog (Ab [(199,.rd1 Kj)]) (Ab [(3,EC)]) f156 [.sl TCd l] [] =
  ((ifT (decide ((0:Int)<=(↑l.length:Int))&&decide ((↑l.length:Int)<=(↑l.length:Int))&&decide ((↑l.length:Int)*(↑(56:Nat):Int)<=(140737488355328:Int))
 && decide ((↑l.length:Int)<=(9223372036854775807:Int))) (ifT (decide ((0:Int)<=(0:Int)/\(↑l.length:Int).toNat=l.length/\(replicate (↑l.length :
 Int).toNat ((0:Int),Aj UInt8,(0:Int),false,(0:Int),(0:Int),())).length=l.length/\0<=l.length/\l.length<=maxI)) (some (V.ref 0 0 (↑l.length :
 Int).toNat,[some (Blk.row false none TCd (Aj TCd.den++drop 0 l))])))):_):=by kernel_rfl
 rw [e]
 have hx':l.length<=maxI:=le_trans hx (by decide)
 simp [hx']
 omega
theorem Adn:Ag prog 156 (Ent.rd1 QZ).F:=by
 refine Ae (kc func199 Afc KnowsL.nil).knows (Λ:=(Ab [(3,EC)])) func156 (c:=f156.body.getD .skip) (by kernel_rfl) fun vs bs r h hv hb=>?_
 unfold Ent.F QZ at h
 dsimp only at h
 split at h
 ·rename_i l
  obtain ⟨hc,h⟩:=Ad h
  exact ⟨VR,(TH l (of_decide_eq_true hc)).trans (by cases h; rfl)⟩
 ·cases h
theorem VQ (a0 a1 a2:Int) (a3:List UInt8) (a4 a5:Int):Ax prog (Ab []) (Ab []) f201 [.agg [.j a0,.j a1,.j a2,.s a3,.j a4,.j a5]] []=some (.agg [.j a0,.j a1,.j a2,.s a3,.j a4,.j a5],[]):=by kernel_rfl
theorem Afb:Ag prog 201 (Ent.rd1 Kh).F:=by
 refine Ae (KnowsL.nil).knows (Λ:=Ab []) func201 (c:=f201.body.getD .skip) (by kernel_rfl) fun vs bs r h _ _=>?_
 unfold Ent.F Kh at h
 dsimp only at h
 split at h
 ·exact ⟨Ak _,(VQ _ _ _ _ _ _ ).trans (by cases h; rfl)⟩
 ·cases h
theorem IQ (l r:List Wt) (m n:Nat):Av prog (Ab [(201,.rd1 Kh)]) (Ab [(3,EB)]) 0 (body f166 0) EB ([.sl WCd l,.ref 0 0 m,.j n],[some (.row false none WCd r)]) =
 ((ifB (decide ((↑n:Int)<(↑l.length:Int))) (ifT (decide ((0:Int)<=(↑n:Int))&&decide ((↑n:Int)<(↑l.length:Int))) (Ah l[((↑n:Int)).toNat]? fun z=>ifT
 (decide ((0:Int)<=(↑n:Int))&&decide ((↑n:Int)<(↑m:Int))) (Ah r[0+((↑n:Int)).toNat]? fun z_1=>some (Ex.normal,[V.sl WCd l,V.ref 0 0 m,V.i
 .i64 (i64.wrap ((↑n:Int)+(1:Int)))],[some (Blk.row false none WCd (r.set (0+((↑n:Int)).toNat) (z.fst,z.snd.fst,z.snd.snd.fst,
 z.snd.snd.snd.fst,z.snd.snd.snd.snd.fst,z.snd.snd.snd.snd.snd.fst,())))])))) (some (Ex.exit 0,[V.ref 0 0 m],[some (Blk.row false none WCd r)]))):_):=by kernel_rfl
theorem Kg {l:List Wt} {m:Nat} (hm:m=l.length) (hx:l.length<=maxI) : ∀ (k n:Nat) (r:List Wt),n+k=l.length->r.length=l.length->
  Runs prog (Ab [(201,.rd1 Kh)]) (Ab [(3,EB)]) 0 (body f166 0) EB ([.sl WCd l,.ref 0 0 m,.j n],[some (.row false none WCd r)]) (.exit 0) ([.ref 0 0 m],[some (.row false none WCd (r.take n++l.drop n))])
 | 0,n,r,hn,hr=>by
  refine .stop _ _ _ ((IQ l r m n).trans ?_) (by simp)
  simp [show ¬n<l.length by omega,show r.take n=r from take_of_length_le (by omega),show l.drop n=[] from drop_eq_nil_of_le (by omega)]
 | k+1,n,r,hn,hr=>by
  have h1:n<l.length:=by omega
  have h2:n<r.length:=by omega
  have h3:n<m:=by omega
  have hq:=IQ l r m n
  simp only [ntN,gtE h1,zero_add,gtE h2,Ap (n:=n) (by omega)] at hq
  refine .step _ _ _ (d1:=([.sl WCd l,.ref 0 0 m,.j ((n+1:Nat):Int)],[some (.row false none WCd (r.set n l[n]))])) (hq.trans ?_) ?_
  ·simp [h1,h2,h3]
  ·have:=Kg hm hx k (n+1) (r.set n l[n]) (by omega) (by simp; omega)
   rw [CH h2,append_assoc,singleton_append,<-drop_eq_getElem_cons h1] at this
   exact this
theorem VP:Ar prog (Ab [(201,.rd1 Kh)]) (Ab [(3,EB)]) 0 (f166.body.getD .skip):=by
 refine An (a:=body f166 0) (by kernel_rfl) fun d e d' h=>?_
 unfold EB at h
 dsimp only at h
 split at h
 ·obtain ⟨hc,h⟩:=Ad h
  have hc:=of_decide_eq_true hc
  obtain ⟨n,rfl⟩:=eq_ofNat_of_zero_le hc.1
  cases h
  exact Kg hc.2.1 hc.2.2.2.2 _ n _ (add_sub_of_le hc.2.2.2.1) hc.2.2.1
 ·cases h
theorem TG (l:List Wt) (hx:l.length<=1000000000):Ax prog (Ab [(201,.rd1 Kh)]) (Ab [(3,EB)]) f166 [.sl WCd l] []=some (.ref 0 0 l.length,[some (.row false none WCd l)]):=by
 have e:Ax prog (Ab [(201,.rd1 Kh)]) (Ab [(3,EB)]) f166 [.sl WCd l] [] =
  ((ifT (decide ((0:Int)<=(↑l.length:Int))&&decide ((↑l.length:Int)<=(↑l.length:Int))&&decide ((↑l.length:Int)*(↑(56:Nat):Int)<=(140737488355328:Int))
 && decide ((↑l.length:Int)<=(9223372036854775807:Int))) (ifT (decide ((0:Int)<=(0:Int)/\(↑l.length:Int).toNat=l.length/\(replicate (↑l.length :
 Int).toNat ((0:Int),(0:Int),(0:Int),Aj UInt8,(0:Int),(0:Int),())).length=l.length/\0<=l.length/\l.length<=maxI)) (some (V.ref 0 0
 (↑l.length:Int).toNat,[some (Blk.row false none WCd (Aj WCd.den++drop 0 l))])))):_):=by kernel_rfl
 rw [e]
 have hx':l.length<=maxI:=le_trans hx (by decide)
 simp [hx']
 omega
theorem Adm:Ag prog 166 (Ent.rd1 QY).F:=by
 refine Ae (kc func201 Afb KnowsL.nil).knows (Λ:=(Ab [(3,EB)])) func166 (c:=f166.body.getD .skip) (by kernel_rfl) fun vs bs r h hv hb=>?_
 unfold Ent.F QY at h
 dsimp only at h
 split at h
 ·rename_i l
  obtain ⟨hc,h⟩:=Ad h
  exact ⟨VP,(TG l (of_decide_eq_true hc)).trans (by cases h; rfl)⟩
 ·cases h
def NL:Gm
 | [.agg [.sl TCd l]],[]=>.need (decide (l.length<=1000000000)) (.leaf (.agg [.ref 0 0 l.length],[some (.row false none TCd l)]))
 | _,_=>.no
def Rf:Gm
 | [.agg [.sl WCd l]],[]=>.need (decide (l.length<=1000000000)) (.leaf (.agg [.ref 0 0 l.length],[some (.row false none WCd l)]))
 | _,_=>.no
def Mv:Gm
 | [.agg [.s a,.sl TCd l,.i .i64 c]],[]=>.need (decide (l.length<=1000000000)) (.leaf (.agg [.s a,.ref 0 0 l.length,.i .i64 c],[some (.row false none TCd l)]))
 | _,_=>.no
def Mx:Gm
 | [.agg [.i .i64 w,.s p,.sl WCd ws,.sl TCd v,.sl NTd b,.i .i64 c]],[]=>.need (decide (ws.length<=1000000000)&&(decide (v.length<=1000000000)&&decide (b.length<=1000000000))) (.leaf (.agg [.i .i64 w,.s p,.ref 0 0 ws.length,.ref 1 0 v.length,.ref 2 0 b.length,.i .i64 c],[some (.row false none WCd ws),some (.row false none TCd v),some (.row false none NTd b)]))
 | _,_=>.no
def BU (t:Tp):Bool:=decide (t.2.1.1.length<=1000000000)
def Fs:LoopEnt:=⟨23,[0,3,4],[3],[],fun
 | ([.sl TPd l,.ref 0 0 m,.i .i64 n],[some (.drow TPd r none)])=>.need (decide (0<=n/\m=l.length/\r.length=l.length/\n.toNat<=l.length/\l.length<=maxI)&&l.all BU) (.leaf (.exit 0,([.ref 0 0 m],[some (.drow TPd (r.take n.toNat++l.drop n.toNat) none)])))
 | _=>.no⟩
def Rb:Gm
 | [.sl TPd l],[]=>.need (decide (l.length<=1000000000)&&l.all BU) (.leaf (.ref 0 0 l.length,[some (.drow TPd l none)]))
 | _,_=>.no
def BM (t:Fa):Bool:=decide (t.2.2.1.1.length<=1000000000)&&(decide (t.2.2.2.1.1.length<=1000000000)&&decide (t.2.2.2.2.1.length<=1000000000))
def Ft:LoopEnt:=⟨23,[0,3,4],[3],[],fun
 | ([.sl FNd l,.ref 0 0 m,.i .i64 n],[some (.drow FNd r none)])=>.need (decide (0<=n/\m=l.length/\r.length=l.length/\n.toNat<=l.length/\l.length<=maxI)&&l.all BM) (.leaf (.exit 0,([.ref 0 0 m],[some (.drow FNd (r.take n.toNat++l.drop n.toNat) none)])))
 | _=>.no⟩
def Rh:Gm
 | [.sl FNd l],[]=>.need (decide (l.length<=1000000000)&&l.all BM) (.leaf (.ref 0 0 l.length,[some (.drow FNd l none)]))
 | _,_=>.no
def VY:Gm
 | [.agg [.sl TPd ts,.sl FNd fs]],[]=>.need ((decide (ts.length<=1000000000)&&ts.all BU)&&(decide (fs.length<=1000000000)&&fs.all BM)) (.leaf (.agg [.ref 0 0 ts.length,.ref 1 0 fs.length],[some (.drow TPd ts none),some (.drow FNd fs none)]))
 | _,_=>.no
theorem Rc (l:List Ty):Ax prog (Ab [(156,.rd1 QZ)]) (Ab []) f108 [.agg [.sl TCd l]] [] =
 ((ifT (decide (l.length<=1000000000)) (some (V.agg [V.ref 0 0 l.length],[some (Blk.row false none TCd l)]))):_):=by kernel_rfl
theorem Mw:Ag prog 108 (Ent.rd1 NL).F:=by
 refine Ae (kc func156 Adn KnowsL.nil).knows (Λ:=Ab []) func108 (c:=f108.body.getD .skip) (by kernel_rfl) fun vs bs r hq hv hb=>?_
 unfold Ent.F NL at hq
 dsimp only at hq
 split at hq
 ·rename_i l
  obtain ⟨hc,hx⟩:=Ad hq
  refine ⟨Ak _,(Rc l).trans (Eq.trans ?_ hx)⟩
  show _=some _
  rw [Aa hc]
 ·cases hq
theorem Re (l:List Wt):Ax prog (Ab [(166,.rd1 QY)]) (Ab []) f128 [.agg [.sl WCd l]] [] =
 ((ifT (decide (l.length<=1000000000)) (some (V.agg [V.ref 0 0 l.length],[some (Blk.row false none WCd l)]))):_):=by kernel_rfl
theorem TK:Ag prog 128 (Ent.rd1 Rf).F:=by
 refine Ae (kc func166 Adm KnowsL.nil).knows (Λ:=Ab []) func128 (c:=f128.body.getD .skip) (by kernel_rfl) fun vs bs r hq hv hb=>?_
 unfold Ent.F Rf at hq
 dsimp only at hq
 split at hq
 ·rename_i l
  obtain ⟨hc,hx⟩:=Ad hq
  refine ⟨Ak _,(Re l).trans (Eq.trans ?_ hx)⟩
  show _=some _
  rw [Aa hc]
 ·cases hq
theorem TI (a:List UInt8) (l:List Ty) (c:Int):Ax prog (Ab [(108,.rd1 NL)]) (Ab []) f52 [.agg [.s a,.sl TCd l,.j c]] [] =
 ((ifT (decide (l.length<=1000000000)) (some (V.agg [V.s a,V.ref 0 0 l.length,V.j c],[some (Blk.row false none TCd l)]))):_):=by kernel_rfl
theorem VT:Ag prog 52 (Ent.rd1 Mv).F:=by
 refine Ae (kc func108 Mw KnowsL.nil).knows (Λ:=Ab []) func52 (c:=f52.body.getD .skip) (by kernel_rfl) fun vs bs r hq hv hb=>?_
 unfold Ent.F Mv at hq
 dsimp only at hq
 split at hq
 ·rename_i a l c
  obtain ⟨hc,hx⟩:=Ad hq
  refine ⟨Ak _,(TI a l c).trans (Eq.trans ?_ hx)⟩
  show _=some _
  rw [Aa hc]
 ·cases hq
theorem TL (w:Int) (p:List UInt8) (ws:List Wt) (v:List Ty) (b:List Nt) (c:Int):Ax prog (Ab [(128,.rd1 Rf),(108,.rd1 NL),(129,.rd1 Rd)]) (Ab []) f85 [.agg [.j w,.s p,.sl WCd ws,.sl TCd v,.sl NTd b,.j c]] [] =
 ((ifT (decide (ws.length<=1000000000)) (ifT (decide (v.length<=1000000000)) (ifT (decide (b.length<=1000000000)) (some (V.agg [V.j w,V.s p,
 V.ref 0 0 ws.length,V.ref 1 0 v.length,V.ref 2 0 b.length,V.j c],[some (Blk.row false none WCd ws),some (Blk.row false none TCd v),some (Blk.row false none NTd
 b)]))))):_):=by kernel_rfl
theorem VW:Ag prog 85 (Ent.rd1 Mx).F:=by
 refine Ae (kc func128 TK (kc func108 Mw (kc func129 Adp KnowsL.nil))).knows (Λ:=Ab []) func85 (c:=f85.body.getD .skip) (by kernel_rfl) fun vs bs r hq hv hb=>?_
 unfold Ent.F Mx at hq
 dsimp only at hq
 split at hq
 ·rename_i w p ws v b c
  obtain ⟨hc,hx⟩:=Ad hq
  refine ⟨Ak _,(TL w p ws v b c).trans (Eq.trans ?_ hx)⟩
  show _=some _
  rw [anE,anE] at hc
  rw [Aa hc.1,Aa hc.2.1,Aa hc.2.2]
 ·cases hq
theorem IS (l r:List Tp) (m:Nat) (n:Int):Av prog (Ab [(52,.rd1 Mv)]) (Ab [(3,Fs)]) 0 (body f21 0) Fs ([.sl TPd l,.ref 0 0 m,.j n],[some (.drow TPd r none)]) =
 ((ifB (decide (n<(↑l.length:Int))) (ifT (decide ((0:Int)<=n)&&decide (n<(↑l.length:Int))) (Ah l[n.toNat]? fun z=>ifT (decide (List.length z.snd.fst.fst<=
 1000000000)) (ifT (decide ((0:Int)<=n)&&decide (n<(↑m:Int))) (Ah r[0+n.toNat]? fun z_1=>some (Ex.normal,[V.sl TPd l,V.ref 0 0 m,V.i
 .i64 (i64.wrap (n+(1:Int)))],[some (Blk.drow TPd (r.set (0+n.toNat) (z.fst,(take (List.length z.snd.fst.fst) (drop 0
 z.snd.fst.fst),()),z.snd.snd.fst,())) none)]))))) (some (Ex.exit 0,[V.ref 0 0 m],[some (Blk.drow TPd r none)]))):_):=by kernel_rfl
theorem Ra (l:List Tp):Ax prog (Ab [(52,.rd1 Mv)]) (Ab [(3,Fs)]) f21 [.sl TPd l] [] =
 ((ifT (decide ((0:Int)<=(↑l.length:Int))&&decide ((↑l.length:Int)<=(↑l.length:Int))&&decide ((↑l.length:Int)*(↑(48:Nat):Int)<=(140737488355328:Int))
 && decide ((↑l.length:Int)<=(9223372036854775807:Int))) (ifT (decide ((0:Int)<=(0:Int)/\(↑l.length:Int).toNat=l.length/\(replicate (↑l.length :
 Int).toNat (Aj UInt8,(Aj TCd.den,()),(0:Int),())).length=l.length/\0<=l.length/\l.length<=maxI)&&l.all BU) (some (V.ref 0 0 (↑l.length :
 Int).toNat,[some (Blk.drow TPd (Aj TPd.den++drop 0 l) none)])))):_):=by kernel_rfl
theorem Kk {l:List Tp} (hx:l.length<=maxI) (ho : ∀ z∈l,BU z=true) : ∀ (k n:Nat) (r:List Tp),n+k=l.length->r.length=l.length->
  Runs prog (Ab [(52,.rd1 Mv)]) (Ab [(3,Fs)]) 0 (body f21 0) Fs ([.sl TPd l,.ref 0 0 l.length,.j (n:Int)],[some (.drow TPd r none)]) (.exit 0) ([.ref 0 0 l.length],[some (.drow TPd (r.take n++l.drop n) none)])
 | 0,n,r,hn,hr=>by
  have hq:=IS l r l.length n
  rw [Ac (dcF (by omega))] at hq
  rw [take_of_length_le (by omega),drop_eq_nil_of_le (by omega),append_nil]
  exact .stop _ _ _ hq (by simp)
 | k+1,n,r,hn,hr=>by
  have hM:maxI=9223372036854775807:=rfl
  have h1:n<l.length:=by omega
  have h2:n<r.length:=by omega
  have hq:=IS l r l.length n
  have ho1:=ho _ (getElem_mem h1)
  have hs:=Kk hx ho k (n+1) (r.set n l[n]) (by omega) (by simp; omega)
  rw [CH h2,append_assoc,singleton_append,<-drop_eq_getElem_cons h1] at hs
  rw [Af (dcT (by omega)),Aa (by simp only [anE,dcE]; omega),ntN,gtE h1,Am,Ap (n:=n) (by omega)] at hq
  unfold BU at ho1
  generalize l[n]=z at hq ho1 hs
  obtain ⟨a,⟨l_,⟨⟩⟩,c,⟨⟩⟩:=z
  dsimp only at hq ho1
  rw [Aa ho1] at hq
  rw [Aa (by simp only [anE,dcE]; omega),zero_add,gtE h2,Am] at hq
  simp only [drop_zero,take_length] at hq
  exact .step _ _ _ _ hq hs
theorem Ado:Ag prog 21 (Ent.rd1 Rb).F:=by
 refine Ae (kc func52 VT KnowsL.nil).knows (Λ:=(Ab [(3,Fs)])) func21 (c:=f21.body.getD .skip) (by kernel_rfl) fun vs bs r hq hv hb=>?_
 unfold Ent.F Rb at hq
 dsimp only at hq
 split at hq
 ·rename_i l
  obtain ⟨hc,hx⟩:=Ad hq
  rw [anE,dcE] at hc
  obtain ⟨h1,h2⟩:=hc
  have hM:maxI=9223372036854775807:=rfl
  have hok:Ar prog (Ab [(52,.rd1 Mv)]) (Ab [(3,Fs)]) 0 (f21.body.getD .skip):=by
   refine An (a:=body f21 0) (by kernel_rfl) fun d e d' h=>?_
   unfold Fs at h
   dsimp only at h
   split at h
   ·rename_i l m n r
    obtain ⟨hc,h⟩:=Ad h
    rw [anE,dcE] at hc
    obtain ⟨⟨a0,a1,a2,a3,a4⟩,a5⟩:=hc
    obtain ⟨n,rfl⟩:=eq_ofNat_of_zero_le a0
    subst a1
    cases h
    exact Kk a4 (all_eq_true.1 a5) _ n _ (add_sub_of_le a3) a2
   ·cases h
  refine ⟨hok,(Ra l).trans (Eq.trans ?_ hx)⟩
  show _=some _
  rw [Aa (by simp only [anE,dcE]; omega),Aa (by rw [anE]; exact ⟨dcT ⟨by omega,by simp,by simp,by omega,by omega⟩,h2⟩)]
  rfl
 ·cases hq
theorem IU (l r:List Fa) (m:Nat) (n:Int):Av prog (Ab [(85,.rd1 Mx)]) (Ab [(3,Ft)]) 0 (body f40 0) Ft ([.sl FNd l,.ref 0 0 m,.j n],[some (.drow FNd r none)]) =
 ((ifB (decide (n<(↑l.length:Int))) (ifT (decide ((0:Int)<=n)&&decide (n<(↑l.length:Int))) (Ah l[n.toNat]? fun z=>ifT (decide (List.length
 z.snd.snd.fst.fst<=1000000000)&&(decide (List.length z.snd.snd.snd.fst.fst<=1000000000)&&decide (List.length z.snd.snd.snd.snd.fst<=(1000000000 :
 Nat)))) (ifT (decide ((0:Int)<=n)&&decide (n<(↑m:Int))) (Ah r[0+n.toNat]? fun z_1=>some (Ex.normal,[V.sl FNd l,V.ref 0 0 m,V.i .i64
 (i64.wrap (n+(1:Int)))],[some (Blk.drow FNd (r.set (0+n.toNat) (z.fst,z.snd.fst,(take (List.length z.snd.snd.fst.fst) (drop 0
 z.snd.snd.fst.fst),()),(take (List.length z.snd.snd.snd.fst.fst) (drop 0 z.snd.snd.snd.fst.fst),()),take (List.length z.snd.snd.snd.snd.fst)
 (drop 0 z.snd.snd.snd.snd.fst),z.snd.snd.snd.snd.snd.fst,())) none)]))))) (some (Ex.exit 0,[V.ref 0 0 m],[some (Blk.drow FNd r none)]))):_):=by kernel_rfl
theorem Rg (l:List Fa):Ax prog (Ab [(85,.rd1 Mx)]) (Ab [(3,Ft)]) f40 [.sl FNd l] [] =
 ((ifT (decide ((0:Int)<=(↑l.length:Int))&&decide ((↑l.length:Int)<=(↑l.length:Int))&&decide ((↑l.length:Int)*(↑(104:Nat):Int)<=(140737488355328 :
 Int))&&decide ((↑l.length:Int)<=(9223372036854775807:Int))) (ifT (decide ((0:Int)<=(0:Int)/\(↑l.length:Int).toNat=l.length/\(replicate (↑l.length :
 Int).toNat ((0:Int),Aj UInt8,(Aj WCd.den,()),(Aj TCd.den,()),Aj NTd.den,(0:Int),())).length=l.length/\0<=l.length/\l.length<=maxI)&&
 l.all BM) (some (V.ref 0 0 (↑l.length:Int).toNat,[some (Blk.drow FNd (Aj FNd.den++drop 0 l) none)])))):_):=by kernel_rfl
theorem Kn {l:List Fa} (hx:l.length<=maxI) (ho : ∀ z∈l,BM z=true) : ∀ (k n:Nat) (r:List Fa),n+k=l.length->r.length=l.length->
  Runs prog (Ab [(85,.rd1 Mx)]) (Ab [(3,Ft)]) 0 (body f40 0) Ft ([.sl FNd l,.ref 0 0 l.length,.j (n:Int)],[some (.drow FNd r none)]) (.exit 0) ([.ref 0 0 l.length],[some (.drow FNd (r.take n++l.drop n) none)])
 | 0,n,r,hn,hr=>by
  have hq:=IU l r l.length n
  rw [Ac (dcF (by omega))] at hq
  rw [take_of_length_le (by omega),drop_eq_nil_of_le (by omega),append_nil]
  exact .stop _ _ _ hq (by simp)
 | k+1,n,r,hn,hr=>by
  have hM:maxI=9223372036854775807:=rfl
  have h1:n<l.length:=by omega
  have h2:n<r.length:=by omega
  have hq:=IU l r l.length n
  have ho1:=ho _ (getElem_mem h1)
  have hs:=Kn hx ho k (n+1) (r.set n l[n]) (by omega) (by simp; omega)
  rw [CH h2,append_assoc,singleton_append,<-drop_eq_getElem_cons h1] at hs
  rw [Af (dcT (by omega)),Aa (by simp only [anE,dcE]; omega),ntN,gtE h1,Am,Ap (n:=n) (by omega)] at hq
  unfold BM at ho1
  generalize l[n]=z at hq ho1 hs
  obtain ⟨w_,p,⟨ws,⟨⟩⟩,⟨v,⟨⟩⟩,b,c,⟨⟩⟩:=z
  dsimp only at hq ho1
  rw [Aa ho1] at hq
  rw [Aa (by simp only [anE,dcE]; omega),zero_add,gtE h2,Am] at hq
  simp only [drop_zero,take_length] at hq
  exact .step _ _ _ _ hq hs
theorem Adq:Ag prog 40 (Ent.rd1 Rh).F:=by
 refine Ae (kc func85 VW KnowsL.nil).knows (Λ:=(Ab [(3,Ft)])) func40 (c:=f40.body.getD .skip) (by kernel_rfl) fun vs bs r hq hv hb=>?_
 unfold Ent.F Rh at hq
 dsimp only at hq
 split at hq
 ·rename_i l
  obtain ⟨hc,hx⟩:=Ad hq
  rw [anE,dcE] at hc
  obtain ⟨h1,h2⟩:=hc
  have hM:maxI=9223372036854775807:=rfl
  have hok:Ar prog (Ab [(85,.rd1 Mx)]) (Ab [(3,Ft)]) 0 (f40.body.getD .skip):=by
   refine An (a:=body f40 0) (by kernel_rfl) fun d e d' h=>?_
   unfold Ft at h
   dsimp only at h
   split at h
   ·rename_i l m n r
    obtain ⟨hc,h⟩:=Ad h
    rw [anE,dcE] at hc
    obtain ⟨⟨a0,a1,a2,a3,a4⟩,a5⟩:=hc
    obtain ⟨n,rfl⟩:=eq_ofNat_of_zero_le a0
    subst a1
    cases h
    exact Kn a4 (all_eq_true.1 a5) _ n _ (add_sub_of_le a3) a2
   ·cases h
  refine ⟨hok,(Rg l).trans (Eq.trans ?_ hx)⟩
  show _=some _
  rw [Aa (by simp only [anE,dcE]; omega),Aa (by rw [anE]; exact ⟨dcT ⟨by omega,by simp,by simp,by omega,by omega⟩,h2⟩)]
  rfl
 ·cases hq
theorem TM (ts:List Tp) (fs:List Fa):Ax prog (Ab [(21,.rd1 Rb),(40,.rd1 Rh)]) (Ab []) f11 [.agg [.sl TPd ts,.sl FNd fs]] [] =
 ((ifT (decide (ts.length<=1000000000)&&ts.all BU) (ifT (decide (fs.length<=1000000000)&&fs.all BM) (some (V.agg [V.ref 0 0 ts.length,V.ref 1 0
 fs.length],[some (Blk.drow TPd ts none),some (Blk.drow FNd fs none)])))):_):=by kernel_rfl
theorem VX:Ag prog 11 (Ent.rd1 VY).F:=by
 refine Ae (kc func21 Ado (kc func40 Adq KnowsL.nil)).knows (Λ:=Ab []) func11 (c:=f11.body.getD .skip) (by kernel_rfl) fun vs bs r hq hv hb=>?_
 unfold Ent.F VY at hq
 dsimp only at hq
 split at hq
 ·rename_i ts fs
  obtain ⟨hc,hx⟩:=Ad hq
  refine ⟨Ak _,(TM ts fs).trans (Eq.trans ?_ hx)⟩
  show _=some _
  rw [anE] at hc
  rw [Aa hc.1,Aa hc.2]
 ·cases hq
def Im:Gm
 | [.agg [.sl TPd ts,.sl FNd fs]],[]=>.need ((decide (ts.length<=1000000000)&&ts.all BU)&&(decide (fs.length<=1000000000)&&fs.all BM)) (.leaf (.agg [.ref 0 0 ts.length,.ref 1 0 fs.length],[some (.drow TPd ts none),some (.drow FNd fs none)]))
 | _,_=>.no
def KP:LoopEnt:=⟨46,[1,2,3,10,11,12],[1,2,3],[],fun
 | ([.ptr 0 0,.ptr 1 0,.ptr 2 0,.sl TPd l,.i .i64 m,.i .i64 i],[bp,br,bo,r0,r1,r2,r3])=>(match bp with | some (.box [.sl TPd ts,.sl FNd fs])=>(match br with | some (.box [.ref 3 0 0,.ref 4 0 0])=>(match bo with | some (.box [.ref 5 0 n,.ref 6 0 0])=>(match r0 with | some (.drow TPd z0 none)=>(match r1 with | some (.drow FNd z1 none)=>(match r2 with | some (.drow TPd os none)=>(match r3 with | some (.drow FNd z3 none)=>.need (decide (0<=i/\i.toNat<=l.length/\m=l.length/\n=os.length/\n+(l.length-i.toNat)<=2000000000/\l.length<=2000000000)&&l.all BU) (.leaf (.exit 0,([.ptr 0 0,.ptr 1 0,.ptr 2 0],[some (.box [.sl TPd ts,.sl FNd fs]),some (.box [.ref 3 0 0,.ref 4 0 0]),some (.box [.ref 5 0 (n+(l.length-i.toNat)),.ref 6 0 0]),some (.drow TPd z0 none),some (.drow FNd z1 none),some (.drow TPd (os++l.drop i.toNat) none),some (.drow FNd z3 none)]))) | _=>.no) | _=>.no) | _=>.no) | _=>.no) | _=>.no) | _=>.no) | _=>.no)
 | _=>.no⟩
def KO:LoopEnt:=⟨46,[2,3,31,32,33],[2,3],[],fun
 | ([.ptr 0 0,.ptr 1 0,.sl FNd l,.i .i64 m,.i .i64 i],[br,bo,r0,r1,r2,r3])=>(match br with | some (.box [.ref 2 0 0,.ref 3 0 0])=>(match bo with | some (.box [.ref 4 0 k,.ref 5 0 n])=>(match r0 with | some (.drow TPd z0 none)=>(match r1 with | some (.drow FNd z1 none)=>(match r2 with | some (.drow TPd z2 none)=>(match r3 with | some (.drow FNd os none)=>.need (decide (0<=i/\i.toNat<=l.length/\m=l.length/\n=os.length/\n+(l.length-i.toNat)<=2000000000/\l.length<=2000000000)&&l.all BM) (.leaf (.exit 2,([.ptr 0 0,.ptr 1 0],[some (.box [.ref 2 0 0,.ref 3 0 0]),some (.box [.ref 4 0 k,.ref 5 0 (n+(l.length-i.toNat))]),some (.drow TPd z0 none),some (.drow FNd z1 none),some (.drow TPd z2 none),some (.drow FNd (os++l.drop i.toNat) none)]))) | _=>.no) | _=>.no) | _=>.no) | _=>.no) | _=>.no) | _=>.no)
 | _=>.no⟩
def KN:LoopEnt:=⟨43,[1,2,3,10,11,12],[1,2,3],[],fun
 | ([.ptr 0 0,.ptr 1 0,.ptr 2 0,.sl TPd l,.i .i64 m,.i .i64 i],[bp,br,bo,r0,r1,r2,r3])=>(match bp with | some (.box [.sl TPd ts,.sl FNd fs])=>(match br with | some (.box [.ref 3 0 0,.ref 4 0 0])=>(match bo with | some (.box [.ref 5 0 n,.ref 6 0 0])=>(match r0 with | some (.drow TPd z0 none)=>(match r1 with | some (.drow FNd z1 none)=>(match r2 with | some (.drow TPd os none)=>(match r3 with | some (.drow FNd z3 none)=>.need (decide (0<=i/\i.toNat<=l.length/\m=l.length/\n=os.length/\n+(l.length-i.toNat)<=2000000000/\l.length<=2000000000)&&l.all BU) (.leaf (.exit 0,([.ptr 0 0,.ptr 1 0,.ptr 2 0],[some (.box [.sl TPd ts,.sl FNd fs]),some (.box [.ref 3 0 0,.ref 4 0 0]),some (.box [.ref 5 0 (n+(l.length-i.toNat)),.ref 6 0 0]),some (.drow TPd z0 none),some (.drow FNd z1 none),some (.drow TPd (os++l.drop i.toNat) none),some (.drow FNd z3 none)]))) | _=>.no) | _=>.no) | _=>.no) | _=>.no) | _=>.no) | _=>.no) | _=>.no)
 | _=>.no⟩
def KM:LoopEnt:=⟨43,[2,3,28,29,30],[2,3],[],fun
 | ([.ptr 0 0,.ptr 1 0,.sl FNd l,.i .i64 m,.i .i64 i],[br,bo,r0,r1,r2,r3])=>(match br with | some (.box [.ref 2 0 0,.ref 3 0 0])=>(match bo with | some (.box [.ref 4 0 k,.ref 5 0 n])=>(match r0 with | some (.drow TPd z0 none)=>(match r1 with | some (.drow FNd z1 none)=>(match r2 with | some (.drow TPd z2 none)=>(match r3 with | some (.drow FNd os none)=>.need (decide (0<=i/\i.toNat<=l.length/\m=l.length/\n=os.length/\n+(l.length-i.toNat)<=2000000000/\l.length<=2000000000)&&l.all BM) (.leaf (.exit 2,([.ptr 0 0,.ptr 1 0],[some (.box [.ref 2 0 0,.ref 3 0 0]),some (.box [.ref 4 0 k,.ref 5 0 (n+(l.length-i.toNat))]),some (.drow TPd z0 none),some (.drow FNd z1 none),some (.drow TPd z2 none),some (.drow FNd (os++l.drop i.toNat) none)]))) | _=>.no) | _=>.no) | _=>.no) | _=>.no) | _=>.no) | _=>.no)
 | _=>.no⟩
theorem JL {α:Type} {os:List α} {a b:α}:(os++[a]).set os.length b=os++[b]:=by simp
abbrev V8:FuncId->Option Ent:=Ab [(110,.rd1 Ee),(63,.rd1 Gh)]
theorem Aay (ts l os z0:List Tp) (fs z1 z3:List Fa) (m i:Int) (n:Nat):Av prog V8 (Ab [(3,KP),(8,KO)]) 0 (body f55 0) KP ([.ptr 0 0,.ptr 1 0,.ptr 2 0,.sl TPd l,.j m,.j i],[some (.box [.sl TPd ts,.sl FNd fs]),some (.box [.ref 3 0 0,.ref 4 0 0]),some (.box [.ref 5 0 n,.ref 6 0 0]),some (.drow TPd z0 none),some (.drow FNd z1 none),some (.drow TPd os none),some (.drow FNd z3 none)]) =
 ((ifB (decide (i<m)) (ifT (decide ((0:Int)<=i)&&decide (i<(↑l.length:Int))) (Ah l[i.toNat]? fun z=>ifT (decide (List.length z.snd.fst.fst<=(1000000000 :
 Nat))) (ifT (decide (0=0/\n=os.length/\0=0/\1=1/\1=1/\0=0)&&
 (TPd.size.beq TPd.size&&[V.s z.fst,V.ref 183 0 (List.length z.snd.fst.fst),V.j z.snd.snd.fst].all V.single&&(decide ((n+1)*48<=
 140737488355328)&&decide (n+1<=maxI)))) (some (Ex.normal,[V.ptr 0 0,V.ptr 1 0,V.ptr 2 0,V.sl TPd l,V.j m,V.j (i64.wrap (i +
 (1:Int)))],[some (Blk.box [V.sl TPd ts,V.sl FNd fs]),some (Blk.box [V.ref 3 0 0,V.ref 4 0 0]),some (Blk.box [V.ref 5 0 (n+1),V.ref 6 0 0]),some
 (Blk.drow TPd z0 none),some (Blk.drow FNd z1 none),some (Blk.drow TPd ((os++TPd.dflt::Aj TPd.den).set os.length (z.fst,(take (List.length z.snd.fst.fst)
 (drop 0 z.snd.fst.fst),()),z.snd.snd.fst,())) none),some (Blk.drow FNd z3 none)]))))) (some (Ex.exit 0,[V.ptr 0 0,V.ptr 1 0,V.ptr 2 0],[some (Blk.box
 [V.sl TPd ts,V.sl FNd fs]),some (Blk.box [V.ref 3 0 0,V.ref 4 0 0]),some (Blk.box [V.ref 5 0 n,V.ref 6 0 0]),some (Blk.drow TPd z0 none),some (Blk.drow FNd z1
 none),some (Blk.drow TPd os none),some (Blk.drow FNd z3 none)]))):_):=by kernel_rfl
theorem Aax (z0 z2:List Tp) (l os z1:List Fa) (m i:Int) (n k:Nat):Av prog V8 (Ab [(3,KP),(8,KO)]) 0 (body f55 1) KO ([.ptr 0 0,.ptr 1 0,.sl FNd l,.j m,.j i],[some (.box [.ref 2 0 0,.ref 3 0 0]),some (.box [.ref 4 0 k,.ref 5 0 n]),some (.drow TPd z0 none),some (.drow FNd z1 none),some (.drow TPd z2 none),some (.drow FNd os none)]) =
 ((ifB (decide (i<m)) (ifT (decide ((0:Int)<=i)&&decide (i<(↑l.length:Int))) (Ah l[i.toNat]? fun z=>ifT (EN z.snd.snd.fst.fst z.snd.snd.snd.fst.fst
 z.snd.snd.snd.snd.fst) (ifT (decide (0=0/\n=os.length/\0=0/\1=1/\1=1/\0=(0 :
 Nat))&&(FNd.size.beq FNd.size&&[V.j z.fst,V.s z.snd.fst,V.ref 134 0 (List.length z.snd.snd.fst.fst),V.ref 135 0 (List.length z.snd.snd.snd.fst.fst),V.ref 136
 0 (List.length z.snd.snd.snd.snd.fst),V.j z.snd.snd.snd.snd.snd.fst].all V.single&&(decide ((n+1)*104<=140737488355328)&&decide (n
 + 1<=maxI)))) (some (Ex.normal,[V.ptr 0 0,V.ptr 1 0,V.sl FNd l,V.j m,V.j (i64.wrap (i+(1:Int)))],[some (Blk.box [V.ref 2 0 0,V.ref 3
 0 0]),some (Blk.box [V.ref 4 0 k,V.ref 5 0 (n+1)]),some (Blk.drow TPd z0 none),some (Blk.drow FNd z1 none),some (Blk.drow TPd z2 none),some (Blk.drow FNd
 ((os++FNd.dflt::Aj FNd.den).set os.length (z.fst,z.snd.fst,(take (List.length z.snd.snd.fst.fst) (drop 0 z.snd.snd.fst.fst),()),(take
 (List.length z.snd.snd.snd.fst.fst) (drop 0 z.snd.snd.snd.fst.fst),()),take (List.length z.snd.snd.snd.snd.fst) (drop 0
 z.snd.snd.snd.snd.fst),z.snd.snd.snd.snd.snd.fst,())) none)]))))) (some (Ex.exit 2,[V.ptr 0 0,V.ptr 1 0],[some (Blk.box [V.ref 2 0 0,V.ref 3 0 0]),some (Blk.box
 [V.ref 4 0 k,V.ref 5 0 n]),some (Blk.drow TPd z0 none),some (Blk.drow FNd z1 none),some (Blk.drow TPd z2 none),some (Blk.drow FNd os none)]))):_):=by kernel_rfl
theorem Zd (ts:List Tp) (fs:List Fa):De prog V8 (Ab [(3,KP),(8,KO)]) f55 [.agg [.sl TPd ts,.sl FNd fs]] [] =
 ((ifT (decide ((0:Int)<=(0:Int)/\0<=ts.length/\(↑ts.length:Int)=(↑ts.length:Int)/\0=0/\0+(ts.length-0)<=
 2000000000/\ts.length<=2000000000)&&ts.all BU) (ifT (decide ((0:Int)<=(0:Int)/\0<=fs.length/\(↑fs.length:Int)=(↑fs.length :
 Int)/\0=0/\0+(fs.length-0)<=2000000000/\fs.length<=2000000000)&&fs.all BM) (some (V.agg [V.ref 0 0 ((0 :
 Nat)+(ts.length-0)),V.ref 1 0 (0+(fs.length-0))],[some (Blk.drow TPd (Aj TPd.den++drop 0 ts) none),some (Blk.drow FNd
 (Aj FNd.den++drop 0 fs) none)])))):_):=by kernel_rfl
theorem Aa0 {l:List Tp} {ts z0:List Tp} {fs z1 z3:List Fa} (hx:l.length<=2000000000) (ho : ∀ z∈l,BU z=true) : ∀ (j i:Nat) (os:List Tp),i+j=l.length->os.length+j<=2000000000->
  Runs prog V8 (Ab [(3,KP),(8,KO)]) 0 (body f55 0) KP ([.ptr 0 0,.ptr 1 0,.ptr 2 0,.sl TPd l,.j l.length,.j (i:Int)],[some (.box [.sl TPd ts,.sl FNd fs]),some (.box [.ref 3 0 0,.ref 4 0 0]),some (.box [.ref 5 0 os.length,.ref 6 0 0]),some (.drow TPd z0 none),some (.drow FNd z1 none),some (.drow TPd os none),some (.drow FNd z3 none)]) (.exit 0) ([.ptr 0 0,.ptr 1 0,.ptr 2 0],[some (.box [.sl TPd ts,.sl FNd fs]),some (.box [.ref 3 0 0,.ref 4 0 0]),some (.box [.ref 5 0 (os.length+(l.length-i)),.ref 6 0 0]),some (.drow TPd z0 none),some (.drow FNd z1 none),some (.drow TPd (os++l.drop i) none),some (.drow FNd z3 none)])
 | 0,i,os,hi,hl=>by
  have hq:=Aay ts l os z0 fs z1 z3 l.length (i:Int) os.length
  try dsimp only [shr] at hq
  rw [Ac (dcF (by omega))] at hq
  rw [drop_eq_nil_of_le (by omega),append_nil,show l.length-i=0 by omega,Nat.add_zero]
  exact .stop _ _ _ hq (by simp)
 | j+1,i,os,hi,hl=>by
  have hM:maxI=9223372036854775807:=rfl
  have h1:i<l.length:=by omega
  have hq:=Aay ts l os z0 fs z1 z3 l.length (i:Int) os.length
  try dsimp only [shr] at hq
  have ho1:=ho _ (getElem_mem h1)
  have ih:=Aa0 (ts:=ts) (fs:=fs) (z0:=z0) (z1:=z1) (z3:=z3) hx ho j (i+1) (os++[l[i]]) (by omega) (by simp; omega)
  rw [append_assoc,singleton_append,<-drop_eq_getElem_cons h1,length_append,length_singleton,show os.length+1+(l.length-(i+1))=os.length+(l.length-i) by omega] at ih
  rw [Af (dcT (by omega)),Aa (by simp only [anE,dcE]; omega),ntN,gtE h1,Am,Ap (n:=i) (by omega)] at hq
  generalize l[i]=z at hq ho1 ih
  obtain ⟨a,⟨l_,⟨⟩⟩,c,⟨⟩⟩:=z
  dsimp only at hq ho1
  unfold BU at ho1
  rw [Aa (by first | exact ho1 | (rw [dcE] at ho1 ⊢; omega))] at hq
  rw [Aa (by simp only [anE,dcE]; refine ⟨⟨by first | trivial | rfl,by first | trivial | rfl,by first | trivial | rfl,by first | trivial | rfl,by first | trivial | rfl,by first | trivial | rfl⟩,⟨by first | trivial | rfl,by first | trivial | rfl⟩,by omega,by omega⟩)] at hq
  simp only [AQ,drop_zero,take_length,JL] at hq
  exact .step _ _ _ _ hq ih
theorem Aaz {l:List Fa} {z0 z2:List Tp} {z1:List Fa} {k:Nat} (hx:l.length<=2000000000) (ho : ∀ z∈l,BM z=true) : ∀ (j i:Nat) (os:List Fa),i+j=l.length->os.length+j<=2000000000->
  Runs prog V8 (Ab [(3,KP),(8,KO)]) 0 (body f55 1) KO ([.ptr 0 0,.ptr 1 0,.sl FNd l,.j l.length,.j (i:Int)],[some (.box [.ref 2 0 0,.ref 3 0 0]),some (.box [.ref 4 0 k,.ref 5 0 os.length]),some (.drow TPd z0 none),some (.drow FNd z1 none),some (.drow TPd z2 none),some (.drow FNd os none)]) (.exit 2) ([.ptr 0 0,.ptr 1 0],[some (.box [.ref 2 0 0,.ref 3 0 0]),some (.box [.ref 4 0 k,.ref 5 0 (os.length+(l.length-i))]),some (.drow TPd z0 none),some (.drow FNd z1 none),some (.drow TPd z2 none),some (.drow FNd (os++l.drop i) none)])
 | 0,i,os,hi,hl=>by
  have hq:=Aax z0 z2 l os z1 l.length (i:Int) os.length k
  try dsimp only [shr] at hq
  rw [Ac (dcF (by omega))] at hq
  rw [drop_eq_nil_of_le (by omega),append_nil,show l.length-i=0 by omega,Nat.add_zero]
  exact .stop _ _ _ hq (by simp)
 | j+1,i,os,hi,hl=>by
  have hM:maxI=9223372036854775807:=rfl
  have h1:i<l.length:=by omega
  have hq:=Aax z0 z2 l os z1 l.length (i:Int) os.length k
  try dsimp only [shr] at hq
  have ho1:=ho _ (getElem_mem h1)
  have ih:=Aaz (z0:=z0) (z1:=z1) (z2:=z2) (k:=k) hx ho j (i+1) (os++[l[i]]) (by omega) (by simp; omega)
  rw [append_assoc,singleton_append,<-drop_eq_getElem_cons h1,length_append,length_singleton,show os.length+1+(l.length-(i+1))=os.length+(l.length-i) by omega] at ih
  rw [Af (dcT (by omega)),Aa (by simp only [anE,dcE]; omega),ntN,gtE h1,Am,Ap (n:=i) (by omega)] at hq
  generalize l[i]=z at hq ho1 ih
  obtain ⟨w_,p,⟨ws,⟨⟩⟩,⟨v,⟨⟩⟩,b,c,⟨⟩⟩:=z
  dsimp only at hq ho1
  unfold BM at ho1
  rw [Aa (show EN ws v b=true from ho1)] at hq
  rw [Aa (by simp only [anE,dcE]; refine ⟨⟨by first | trivial | rfl,by first | trivial | rfl,by first | trivial | rfl,by first | trivial | rfl,by first | trivial | rfl,by first | trivial | rfl⟩,⟨by first | trivial | rfl,by first | trivial | rfl⟩,by omega,by omega⟩)] at hq
  simp only [AQ,drop_zero,take_length,JL] at hq
  exact .step _ _ _ _ hq ih
theorem Ad8:Ar prog V8 (Ab [(3,KP),(8,KO)]) 0 (f55.body.getD .skip):=by
 refine LoopsI.loops (cs:=[body f55 0,body f55 1]) (.cons (ent:=KP) (by kernel_rfl) (fun d e d' h=>?_) (.cons (ent:=KO) (by kernel_rfl) (fun d e d' h=>?_) .nil)) (by kernel_rfl)
 ·unfold KP at h
  dsimp only at h
  repeat' split at h
  all_goals first | contradiction | skip
  obtain ⟨hc,hx⟩:=Ad h
  rw [anE,dcE] at hc
  obtain ⟨⟨a0,a1,a2,a3,a4,a6⟩,a5⟩:=hc
  obtain ⟨i,rfl⟩:=eq_ofNat_of_zero_le a0
  subst a2
  subst a3
  cases hx
  exact Aa0 a6 (all_eq_true.1 a5) _ i _ (add_sub_of_le a1) a4
 ·unfold KO at h
  dsimp only at h
  repeat' split at h
  all_goals first | contradiction | skip
  obtain ⟨hc,hx⟩:=Ad h
  rw [anE,dcE] at hc
  obtain ⟨⟨a0,a1,a2,a3,a4,a6⟩,a5⟩:=hc
  obtain ⟨i,rfl⟩:=eq_ofNat_of_zero_le a0
  subst a2
  subst a3
  cases hx
  exact Aaz a6 (all_eq_true.1 a5) _ i _ (add_sub_of_le a1) a4
theorem Ab4:Ag prog 55 (Ent.rd1 Im).F:=by
 refine A6 (kc func110 Ni (kc func63 UP KnowsL.nil)).knows (Λ:=(Ab [(3,KP),(8,KO)])) func55 (c:=f55.body.getD .skip) (by kernel_rfl) fun vs bs r hq hv hb=>?_
 unfold Ent.F Im at hq
 dsimp only at hq
 split at hq
 ·rename_i ts fs
  obtain ⟨hc,hx⟩:=Ad hq
  rw [anE,anE,anE,dcE,dcE] at hc
  obtain ⟨⟨h1,h2⟩,h3,h4⟩:=hc
  refine ⟨Ad8,(Zd ts fs).trans (Eq.trans ?_ hx)⟩
  try dsimp only [shr]
  rw [h2,h4,Bool.and_true,Bool.and_true,Aa (dcT ⟨by omega,by simp,by simp,by simp,by omega,by omega⟩),Aa (dcT ⟨by omega,by simp,by simp,by simp,by omega,by omega⟩)]
  try simp only [zero_add,Nat.sub_zero,AQ,List.nil_append,drop_zero]
  try rfl
 ·cases hq
abbrev V7:FuncId->Option Ent:=Ab [(107,.rd1 Ee),(62,.rd1 Gh)]
theorem Aau (ts l os z0:List Tp) (fs z1 z3:List Fa) (m i:Int) (n:Nat):Av prog V7 (Ab [(3,KN),(9,KM)]) 0 (body f51 0) KN ([.ptr 0 0,.ptr 1 0,.ptr 2 0,.sl TPd l,.j m,.j i],[some (.box [.sl TPd ts,.sl FNd fs]),some (.box [.ref 3 0 0,.ref 4 0 0]),some (.box [.ref 5 0 n,.ref 6 0 0]),some (.drow TPd z0 none),some (.drow FNd z1 none),some (.drow TPd os none),some (.drow FNd z3 none)]) =
 ((ifB (decide (i<m)) (ifT (decide ((0:Int)<=i)&&decide (i<(↑l.length:Int))) (Ah l[i.toNat]? fun z=>ifT (decide (List.length z.snd.fst.fst<=(1000000000 :
 Nat))) (ifT (decide (0=0/\n=os.length/\0=0/\1=1/\1=1/\0=0)&&
 (TPd.size.beq TPd.size&&[V.s z.fst,V.ref 119 0 (List.length z.snd.fst.fst),V.j z.snd.snd.fst].all V.single&&(decide ((n+1)*48<=
 140737488355328)&&decide (n+1<=maxI)))) (some (Ex.normal,[V.ptr 0 0,V.ptr 1 0,V.ptr 2 0,V.sl TPd l,V.j m,V.j (i64.wrap (i +
 (1:Int)))],[some (Blk.box [V.sl TPd ts,V.sl FNd fs]),some (Blk.box [V.ref 3 0 0,V.ref 4 0 0]),some (Blk.box [V.ref 5 0 (n+1),V.ref 6 0 0]),some
 (Blk.drow TPd z0 none),some (Blk.drow FNd z1 none),some (Blk.drow TPd ((os++TPd.dflt::Aj TPd.den).set os.length (z.fst,(take (List.length z.snd.fst.fst)
 (drop 0 z.snd.fst.fst),()),z.snd.snd.fst,())) none),some (Blk.drow FNd z3 none)]))))) (some (Ex.exit 0,[V.ptr 0 0,V.ptr 1 0,V.ptr 2 0],[some (Blk.box
 [V.sl TPd ts,V.sl FNd fs]),some (Blk.box [V.ref 3 0 0,V.ref 4 0 0]),some (Blk.box [V.ref 5 0 n,V.ref 6 0 0]),some (Blk.drow TPd z0 none),some (Blk.drow FNd z1
 none),some (Blk.drow TPd os none),some (Blk.drow FNd z3 none)]))):_):=by kernel_rfl
theorem Aat (z0 z2:List Tp) (l os z1:List Fa) (m i:Int) (n k:Nat):Av prog V7 (Ab [(3,KN),(9,KM)]) 0 (body f51 1) KM ([.ptr 0 0,.ptr 1 0,.sl FNd l,.j m,.j i],[some (.box [.ref 2 0 0,.ref 3 0 0]),some (.box [.ref 4 0 k,.ref 5 0 n]),some (.drow TPd z0 none),some (.drow FNd z1 none),some (.drow TPd z2 none),some (.drow FNd os none)]) =
 ((ifB (decide (i<m)) (ifT (decide ((0:Int)<=i)&&decide (i<(↑l.length:Int))) (Ah l[i.toNat]? fun z=>ifT (EN z.snd.snd.fst.fst z.snd.snd.snd.fst.fst
 z.snd.snd.snd.snd.fst) (ifT (decide (0=0/\n=os.length/\0=0/\1=1/\1=1/\0=(0 :
 Nat))&&(FNd.size.beq FNd.size&&[V.j z.fst,V.s z.snd.fst,V.ref 134 0 (List.length z.snd.snd.fst.fst),V.ref 135 0 (List.length z.snd.snd.snd.fst.fst),V.ref 136
 0 (List.length z.snd.snd.snd.snd.fst),V.j z.snd.snd.snd.snd.snd.fst].all V.single&&(decide ((n+1)*104<=140737488355328)&&decide (n
 + 1<=maxI)))) (some (Ex.normal,[V.ptr 0 0,V.ptr 1 0,V.sl FNd l,V.j m,V.j (i64.wrap (i+(1:Int)))],[some (Blk.box [V.ref 2 0 0,V.ref 3
 0 0]),some (Blk.box [V.ref 4 0 k,V.ref 5 0 (n+1)]),some (Blk.drow TPd z0 none),some (Blk.drow FNd z1 none),some (Blk.drow TPd z2 none),some (Blk.drow FNd
 ((os++FNd.dflt::Aj FNd.den).set os.length (z.fst,z.snd.fst,(take (List.length z.snd.snd.fst.fst) (drop 0 z.snd.snd.fst.fst),()),(take
 (List.length z.snd.snd.snd.fst.fst) (drop 0 z.snd.snd.snd.fst.fst),()),take (List.length z.snd.snd.snd.snd.fst) (drop 0
 z.snd.snd.snd.snd.fst),z.snd.snd.snd.snd.snd.fst,())) none)]))))) (some (Ex.exit 2,[V.ptr 0 0,V.ptr 1 0],[some (Blk.box [V.ref 2 0 0,V.ref 3 0 0]),some (Blk.box
 [V.ref 4 0 k,V.ref 5 0 n]),some (Blk.drow TPd z0 none),some (Blk.drow FNd z1 none),some (Blk.drow TPd z2 none),some (Blk.drow FNd os none)]))):_):=by kernel_rfl
theorem YZ (ts:List Tp) (fs:List Fa):De prog V7 (Ab [(3,KN),(9,KM)]) f51 [.agg [.sl TPd ts,.sl FNd fs]] [] =
 ((ifT (decide ((0:Int)<=(0:Int)/\0<=ts.length/\(↑ts.length:Int)=(↑ts.length:Int)/\0=0/\0+(ts.length-0)<=
 2000000000/\ts.length<=2000000000)&&ts.all BU) (ifT (decide ((0:Int)<=(0:Int)/\0<=fs.length/\(↑fs.length:Int)=(↑fs.length :
 Int)/\0=0/\0+(fs.length-0)<=2000000000/\fs.length<=2000000000)&&fs.all BM) (some (V.agg [V.ref 0 0 ((0 :
 Nat)+(ts.length-0)),V.ref 1 0 (0+(fs.length-0))],[some (Blk.drow TPd (Aj TPd.den++drop 0 ts) none),some (Blk.drow FNd
 (Aj FNd.den++drop 0 fs) none)])))):_):=by kernel_rfl
theorem Aaw {l:List Tp} {ts z0:List Tp} {fs z1 z3:List Fa} (hx:l.length<=2000000000) (ho : ∀ z∈l,BU z=true) : ∀ (j i:Nat) (os:List Tp),i+j=l.length->os.length+j<=2000000000->
  Runs prog V7 (Ab [(3,KN),(9,KM)]) 0 (body f51 0) KN ([.ptr 0 0,.ptr 1 0,.ptr 2 0,.sl TPd l,.j l.length,.j (i:Int)],[some (.box [.sl TPd ts,.sl FNd fs]),some (.box [.ref 3 0 0,.ref 4 0 0]),some (.box [.ref 5 0 os.length,.ref 6 0 0]),some (.drow TPd z0 none),some (.drow FNd z1 none),some (.drow TPd os none),some (.drow FNd z3 none)]) (.exit 0) ([.ptr 0 0,.ptr 1 0,.ptr 2 0],[some (.box [.sl TPd ts,.sl FNd fs]),some (.box [.ref 3 0 0,.ref 4 0 0]),some (.box [.ref 5 0 (os.length+(l.length-i)),.ref 6 0 0]),some (.drow TPd z0 none),some (.drow FNd z1 none),some (.drow TPd (os++l.drop i) none),some (.drow FNd z3 none)])
 | 0,i,os,hi,hl=>by
  have hq:=Aau ts l os z0 fs z1 z3 l.length (i:Int) os.length
  try dsimp only [shr] at hq
  rw [Ac (dcF (by omega))] at hq
  rw [drop_eq_nil_of_le (by omega),append_nil,show l.length-i=0 by omega,Nat.add_zero]
  exact .stop _ _ _ hq (by simp)
 | j+1,i,os,hi,hl=>by
  have hM:maxI=9223372036854775807:=rfl
  have h1:i<l.length:=by omega
  have hq:=Aau ts l os z0 fs z1 z3 l.length (i:Int) os.length
  try dsimp only [shr] at hq
  have ho1:=ho _ (getElem_mem h1)
  have ih:=Aaw (ts:=ts) (fs:=fs) (z0:=z0) (z1:=z1) (z3:=z3) hx ho j (i+1) (os++[l[i]]) (by omega) (by simp; omega)
  rw [append_assoc,singleton_append,<-drop_eq_getElem_cons h1,length_append,length_singleton,show os.length+1+(l.length-(i+1))=os.length+(l.length-i) by omega] at ih
  rw [Af (dcT (by omega)),Aa (by simp only [anE,dcE]; omega),ntN,gtE h1,Am,Ap (n:=i) (by omega)] at hq
  generalize l[i]=z at hq ho1 ih
  obtain ⟨a,⟨l_,⟨⟩⟩,c,⟨⟩⟩:=z
  dsimp only at hq ho1
  unfold BU at ho1
  rw [Aa (by first | exact ho1 | (rw [dcE] at ho1 ⊢; omega))] at hq
  rw [Aa (by simp only [anE,dcE]; refine ⟨⟨by first | trivial | rfl,by first | trivial | rfl,by first | trivial | rfl,by first | trivial | rfl,by first | trivial | rfl,by first | trivial | rfl⟩,⟨by first | trivial | rfl,by first | trivial | rfl⟩,by omega,by omega⟩)] at hq
  simp only [AQ,drop_zero,take_length,JL] at hq
  exact .step _ _ _ _ hq ih
theorem Aav {l:List Fa} {z0 z2:List Tp} {z1:List Fa} {k:Nat} (hx:l.length<=2000000000) (ho : ∀ z∈l,BM z=true) : ∀ (j i:Nat) (os:List Fa),i+j=l.length->os.length+j<=2000000000->
  Runs prog V7 (Ab [(3,KN),(9,KM)]) 0 (body f51 1) KM ([.ptr 0 0,.ptr 1 0,.sl FNd l,.j l.length,.j (i:Int)],[some (.box [.ref 2 0 0,.ref 3 0 0]),some (.box [.ref 4 0 k,.ref 5 0 os.length]),some (.drow TPd z0 none),some (.drow FNd z1 none),some (.drow TPd z2 none),some (.drow FNd os none)]) (.exit 2) ([.ptr 0 0,.ptr 1 0],[some (.box [.ref 2 0 0,.ref 3 0 0]),some (.box [.ref 4 0 k,.ref 5 0 (os.length+(l.length-i))]),some (.drow TPd z0 none),some (.drow FNd z1 none),some (.drow TPd z2 none),some (.drow FNd (os++l.drop i) none)])
 | 0,i,os,hi,hl=>by
  have hq:=Aat z0 z2 l os z1 l.length (i:Int) os.length k
  try dsimp only [shr] at hq
  rw [Ac (dcF (by omega))] at hq
  rw [drop_eq_nil_of_le (by omega),append_nil,show l.length-i=0 by omega,Nat.add_zero]
  exact .stop _ _ _ hq (by simp)
 | j+1,i,os,hi,hl=>by
  have hM:maxI=9223372036854775807:=rfl
  have h1:i<l.length:=by omega
  have hq:=Aat z0 z2 l os z1 l.length (i:Int) os.length k
  try dsimp only [shr] at hq
  have ho1:=ho _ (getElem_mem h1)
  have ih:=Aav (z0:=z0) (z1:=z1) (z2:=z2) (k:=k) hx ho j (i+1) (os++[l[i]]) (by omega) (by simp; omega)
  rw [append_assoc,singleton_append,<-drop_eq_getElem_cons h1,length_append,length_singleton,show os.length+1+(l.length-(i+1))=os.length+(l.length-i) by omega] at ih
  rw [Af (dcT (by omega)),Aa (by simp only [anE,dcE]; omega),ntN,gtE h1,Am,Ap (n:=i) (by omega)] at hq
  generalize l[i]=z at hq ho1 ih
  obtain ⟨w_,p,⟨ws,⟨⟩⟩,⟨v,⟨⟩⟩,b,c,⟨⟩⟩:=z
  dsimp only at hq ho1
  unfold BM at ho1
  rw [Aa (show EN ws v b=true from ho1)] at hq
  rw [Aa (by simp only [anE,dcE]; refine ⟨⟨by first | trivial | rfl,by first | trivial | rfl,by first | trivial | rfl,by first | trivial | rfl,by first | trivial | rfl,by first | trivial | rfl⟩,⟨by first | trivial | rfl,by first | trivial | rfl⟩,by omega,by omega⟩)] at hq
  simp only [AQ,drop_zero,take_length,JL] at hq
  exact .step _ _ _ _ hq ih
theorem Ad5:Ar prog V7 (Ab [(3,KN),(9,KM)]) 0 (f51.body.getD .skip):=by
 refine LoopsI.loops (cs:=[body f51 0,body f51 1]) (.cons (ent:=KN) (by kernel_rfl) (fun d e d' h=>?_) (.cons (ent:=KM) (by kernel_rfl) (fun d e d' h=>?_) .nil)) (by kernel_rfl)
 ·unfold KN at h
  dsimp only at h
  repeat' split at h
  all_goals first | contradiction | skip
  obtain ⟨hc,hx⟩:=Ad h
  rw [anE,dcE] at hc
  obtain ⟨⟨a0,a1,a2,a3,a4,a6⟩,a5⟩:=hc
  obtain ⟨i,rfl⟩:=eq_ofNat_of_zero_le a0
  subst a2
  subst a3
  cases hx
  exact Aaw a6 (all_eq_true.1 a5) _ i _ (add_sub_of_le a1) a4
 ·unfold KM at h
  dsimp only at h
  repeat' split at h
  all_goals first | contradiction | skip
  obtain ⟨hc,hx⟩:=Ad h
  rw [anE,dcE] at hc
  obtain ⟨⟨a0,a1,a2,a3,a4,a6⟩,a5⟩:=hc
  obtain ⟨i,rfl⟩:=eq_ofNat_of_zero_le a0
  subst a2
  subst a3
  cases hx
  exact Aav a6 (all_eq_true.1 a5) _ i _ (add_sub_of_le a1) a4
theorem Aby:Ag prog 51 (Ent.rd1 Im).F:=by
 refine A6 (kc func107 SX (kc func62 YF KnowsL.nil)).knows (Λ:=(Ab [(3,KN),(9,KM)])) func51 (c:=f51.body.getD .skip) (by kernel_rfl) fun vs bs r hq hv hb=>?_
 unfold Ent.F Im at hq
 dsimp only at hq
 split at hq
 ·rename_i ts fs
  obtain ⟨hc,hx⟩:=Ad hq
  rw [anE,anE,anE,dcE,dcE] at hc
  obtain ⟨⟨h1,h2⟩,h3,h4⟩:=hc
  refine ⟨Ad5,(YZ ts fs).trans (Eq.trans ?_ hx)⟩
  try dsimp only [shr]
  rw [h2,h4,Bool.and_true,Bool.and_true,Aa (dcT ⟨by omega,by simp,by simp,by simp,by omega,by omega⟩),Aa (dcT ⟨by omega,by simp,by simp,by simp,by omega,by omega⟩)]
  try simp only [zero_add,Nat.sub_zero,AQ,List.nil_append,drop_zero]
  try rfl
 ·cases hq




def hdL {α:Type} (p:Int->α->Bool) (w:α->Int):Int->List α->Bool
 | _,[]=>true
 | k,x::l=>p k x&&hdL p w (k+w x) l
def HN (k:Int) (t:Tp):Bool:=(t.1==Bn k)&&(EU t.2.1.1 (A7 AD 6 (k+1) t.2.1.1.length)&&(t.2.2.1==k+1+6*(t.2.1.1.length:Int)))
def HO (k:Int) (f:Fa):Bool:=(f.1==k)&&((f.2.1==Bn (k+1))&&(I3 f.2.2.1.1 (A7 AL 6 (k+2) f.2.2.1.1.length)&&(EU f.2.2.2.1.1 (A7 AD 6 (k+2+6*(f.2.2.1.1.length:Int)) f.2.2.2.1.1.length)&&(decide (f.2.2.2.2.1=A7 AR 3 (k+2+6*(f.2.2.1.1.length:Int)+6*(f.2.2.2.1.1.length:Int)) f.2.2.2.2.1.length)&&(f.2.2.2.2.2.1==k+2+6*(f.2.2.1.1.length:Int)+6*(f.2.2.2.1.1.length:Int)+3*(f.2.2.2.2.1.length:Int))))))
def FM:LoopEnt:=⟨42,[0,1,4,5],[1,4],[4],fun
 | ([.sl TPd l,.i .i64 k,.i .i64 r,.i .i64 n],[])=>.need (decide (0<=n/\n.toNat<=l.length/\l.length<=maxI/\0<=k/\k+AM AP (l.drop n.toNat)<=lim)) (.br (hdL HN AP k (l.drop n.toNat)) (.leaf (.exit 0,([.i .i64 (k+AM AP (l.drop n.toNat)),.i .i64 r],[]))) (.leaf (.ret,([.i .i64 (-1)],[]))))
 | _=>.no⟩
def Sw:Gm
 | [.sl TPd l,.i .i64 k],[]=>.need (decide (l.length<=maxI/\0<=k/\k+AM AP l<=lim)) (.br (hdL HN AP k l) (.leaf (.i .i64 (k+AM AP l),[])) (.leaf (.i .i64 (-1),[])))
 | _,_=>.no
def FN:LoopEnt:=⟨70,[0,1,4,5],[1,4],[4],fun
 | ([.sl FNd l,.i .i64 k,.i .i64 r,.i .i64 n],[])=>.need (decide (0<=n/\n.toNat<=l.length/\l.length<=maxI/\0<=k/\k+AM Bg (l.drop n.toNat)<=lim)) (.br (hdL HO Bg k (l.drop n.toNat)) (.leaf (.exit 0,([.i .i64 (k+AM Bg (l.drop n.toNat)),.i .i64 r],[]))) (.leaf (.ret,([.i .i64 (-1)],[]))))
 | _=>.no⟩
def Sz:Gm
 | [.sl FNd l,.i .i64 k],[]=>.need (decide (l.length<=maxI/\0<=k/\k+AM Bg l<=lim)) (.br (hdL HO Bg k l) (.leaf (.i .i64 (k+AM Bg l),[])) (.leaf (.i .i64 (-1),[])))
 | _,_=>.no
abbrev Aad:FuncId->Option Ent:=Ab [(57,.rd1 A5),(112,.rd1 Gn)]
theorem Jt (k r n:Int) (l:List Tp):Av prog Aad (Ab [(2,FM)]) 0 (body f60 0) FM ([.sl TPd l,.j k,.j r,.j n],[]) =
 ((ifB (decide (n<(↑l.length:Int))) (ifT (decide ((0:Int)<=n)&&decide (n<(↑l.length:Int))) (Ah l[n.toNat]? fun z=>ifT (decide (k<=lim)) (ifB (!z.fst==
 Bn k) (some (Ex.ret,[V.j (-1)],[])) (ifT (decide ((0:Int)<=n)&&decide (n<(↑l.length:Int))) (Ah l[n.toNat]? fun z=>ifT (decide ((0:Int)<=
 i64.wrap (k+(1:Int))/\i64.wrap (k+(1:Int))+(6:Int)*(↑(List.length z.snd.fst.fst):Int)<=lim)) (ifB (EU z.snd.fst.fst (A7 AD
 (6:Int) (i64.wrap (k+(1:Int))) (List.length z.snd.fst.fst))) (ifB (decide (i64.wrap (k+(1:Int))+(6:Int)*(↑(List.length z.snd.fst.fst) :
 Int)<(0:Int))) (some (Ex.ret,[V.j (-1)],[])) (ifT (decide ((0:Int)<=n)&&decide (n<(↑l.length:Int))) (Ah l[n.toNat]? fun z_1=>ifB
 (z_1.snd.snd.fst != i64.wrap (k+(1:Int))+(6:Int)*(↑(List.length z.snd.fst.fst):Int)) (some (Ex.ret,[V.j (-1)],[])) (some (Ex.normal,[V.sl TPd
 l,V.j (i64.wrap (i64.wrap (k+(1:Int))+(6:Int)*(↑(List.length z.snd.fst.fst):Int)+(1:Int))),V.j r,V.j (i64.wrap
 (n+(1:Int)))],[]))))) (some (Ex.ret,[V.j (-1)],[])))))))) (some (Ex.exit 0,[V.j k,V.j r],[]))):_):=by kernel_rfl
theorem Sv (k:Int) (l:List Tp):Ax prog Aad (Ab [(2,FM)]) f60 [.sl TPd l,.j k] [] =
 ((ifT (decide ((0:Int)<=(0:Int)/\0<=l.length/\l.length<=maxI/\(0:Int)<=k/\k+AM AP (drop 0 l)<=lim)) (ifB (hdL HN AP k
 (drop 0 l)) (some (V.j (k+AM AP (drop 0 l)),[])) (some (V.j (-1),[])))):_):=by kernel_rfl
abbrev Aac:FuncId->Option Ent:=Ab [(57,.rd1 A5),(113,.rd1 I4),(112,.rd1 Gn),(72,.rd1 I5)]
theorem Ju (k r n:Int) (l:List Fa):Av prog Aac (Ab [(2,FN)]) 0 (body f61 0) FN ([.sl FNd l,.j k,.j r,.j n],[]) =
 ((ifB (decide (n<(↑l.length:Int))) (ifT (decide ((0:Int)<=n)&&decide (n<(↑l.length:Int))) (Ah l[n.toNat]? fun z=>ifB (z.fst != k) (some (Ex.ret,[V.i .i64
 (-1)],[])) (ifT (decide ((0:Int)<=n)&&decide (n<(↑l.length:Int))) (Ah l[n.toNat]? fun z=>ifT (decide (i64.wrap (k+(1:Int))<=lim)) (ifB
 (!z.snd.fst==Bn (i64.wrap (k+(1:Int)))) (some (Ex.ret,[V.j (-1)],[])) (ifT (decide ((0:Int)<=n)&&decide (n<(↑l.length:Int))) (Ah
 l[n.toNat]? fun z=>ifT (decide ((0:Int)<=i64.wrap (i64.wrap (k+(1:Int))+(1:Int))/\i64.wrap (i64.wrap (k+(1:Int))+(1 :
 Int))+(6:Int)*(↑(List.length z.snd.snd.fst.fst):Int)<=lim)) (ifB (I3 z.snd.snd.fst.fst (A7 AL (6:Int) (i64.wrap (i64.wrap (k+(1
 : Int))+(1:Int))) (List.length z.snd.snd.fst.fst))) (ifB (decide (i64.wrap (i64.wrap (k+(1:Int))+(1:Int))+(6:Int)*(↑(List.length
 z.snd.snd.fst.fst):Int)<(0:Int))) (some (Ex.ret,[V.j (-1)],[])) (ifT (decide ((0:Int)<=n)&&decide (n<(↑l.length:Int))) (Ah l[n.toNat]? fun z_1
 => ifT (decide ((0:Int)<=i64.wrap (i64.wrap (k+(1:Int))+(1:Int))+(6:Int)*(↑(List.length z.snd.snd.fst.fst):Int)/\i64.wrap
 (i64.wrap (k+(1:Int))+(1:Int))+(6:Int)*(↑(List.length z.snd.snd.fst.fst):Int)+(6:Int)*(↑(List.length z_1.snd.snd.snd.fst.fst):Int)<=lim))
 (ifB (EU z_1.snd.snd.snd.fst.fst (A7 AD (6:Int) (i64.wrap (i64.wrap (k+(1:Int))+(1:Int))+(6:Int)*(↑(List.length
 z.snd.snd.fst.fst):Int)) (List.length z_1.snd.snd.snd.fst.fst))) (ifB (decide (i64.wrap (i64.wrap (k+(1:Int))+(1:Int))+(6:Int) *
 (↑(List.length z.snd.snd.fst.fst):Int)+(6:Int)*(↑(List.length z_1.snd.snd.snd.fst.fst):Int)<(0:Int))) (some (Ex.ret,[V.j (-1)],[])) (ifT (decide ((0
 : Int)<=n)&&decide (n<(↑l.length:Int))) (Ah l[n.toNat]? fun z_2=>ifT (decide ((0:Int)<=i64.wrap (i64.wrap (k+(1:Int))+(1:Int)) +
 (6:Int)*(↑(List.length z.snd.snd.fst.fst):Int)+(6:Int)*(↑(List.length z_1.snd.snd.snd.fst.fst):Int)/\i64.wrap (i64.wrap (k+(1:Int)) +
 (1:Int))+(6:Int)*(↑(List.length z.snd.snd.fst.fst):Int)+(6:Int)*(↑(List.length z_1.snd.snd.snd.fst.fst):Int)+(3:Int)*(↑(List.length
 z_2.snd.snd.snd.snd.fst):Int)<=lim)) (ifB (decide (z_2.snd.snd.snd.snd.fst=A7 AR (3:Int) (i64.wrap (i64.wrap (k+(1:Int))+(1:Int))
 + (6:Int)*(↑(List.length z.snd.snd.fst.fst):Int)+(6:Int)*(↑(List.length z_1.snd.snd.snd.fst.fst):Int)) (List.length z_2.snd.snd.snd.snd.fst))) (ifB (decide
 (i64.wrap (i64.wrap (k+(1:Int))+(1:Int))+(6:Int)*(↑(List.length z.snd.snd.fst.fst):Int)+(6:Int)*(↑(List.length
 z_1.snd.snd.snd.fst.fst):Int)+(3:Int)*(↑(List.length z_2.snd.snd.snd.snd.fst):Int)<(0:Int))) (some (Ex.ret,[V.j (-1)],[])) (ifT (decide ((0:Int)<=
 n)&&decide (n<(↑l.length:Int))) (Ah l[n.toNat]? fun z_3=>ifB (z_3.snd.snd.snd.snd.snd.fst != i64.wrap (i64.wrap (k+(1:Int))+(1:Int)) +
 (6:Int)*(↑(List.length z.snd.snd.fst.fst):Int)+(6:Int)*(↑(List.length z_1.snd.snd.snd.fst.fst):Int)+(3:Int)*(↑(List.length z_2.snd.snd.snd.snd.fst) :
 Int)) (some (Ex.ret,[V.j (-1)],[])) (some (Ex.normal,[V.sl FNd l,V.j (i64.wrap (i64.wrap (i64.wrap (k+(1:Int))+(1:Int))+(6
 : Int)*(↑(List.length z.snd.snd.fst.fst):Int)+(6:Int)*(↑(List.length z_1.snd.snd.snd.fst.fst):Int)+(3:Int)*(↑(List.length z_2.snd.snd.snd.snd.fst) :
 Int)+(1:Int))),V.j r,V.j (i64.wrap (n+(1:Int)))],[]))))) (some (Ex.ret,[V.j (-1)],[])))))) (some (Ex.ret,[V.j (-1)],[]))))))
 (some (Ex.ret,[V.j (-1)],[])))))))))) (some (Ex.exit 0,[V.j k,V.j r],[]))):_):=by kernel_rfl
theorem Sy (k:Int) (l:List Fa):Ax prog Aac (Ab [(2,FN)]) f61 [.sl FNd l,.j k] [] =
 ((ifT (decide ((0:Int)<=(0:Int)/\0<=l.length/\l.length<=maxI/\(0:Int)<=k/\k+AM Bg (drop 0 l)<=lim)) (ifB (hdL HO Bg k
 (drop 0 l)) (some (V.j (k+AM Bg (drop 0 l)),[])) (some (V.j (-1),[])))):_):=by kernel_rfl
theorem XI {α β:Type} [BEq α] {a b:α} {x y:Option β}:ifB (a != b) x y=ifB (a==b) y x:=by unfold bne; cases a==b<;>rfl
theorem XH {β:Type} {c:Bool} {x y:Option β}:ifB (!c) x y=ifB c y x:=by cases c<;>rfl
theorem XJ {β:Type} {a b:Bool} {x y:Option β}:ifB a (ifB b x y) y=ifB (a&&b) x y:=by cases a<;>rfl
theorem Qh {α:Type} {p:Int->α->Bool} {w:α->Int} {k:Int} {l:List α} {n:Nat} (h:n<l.length):hdL p w k (l.drop n)=(p k l[n]&&hdL p w (k+w l[n]) (l.drop (n+1))):=by rw [drop_eq_getElem_cons h]; rfl
theorem Lw {l:List Tp} {r:Int} (hm:l.length<=maxI) : ∀ (j n:Nat) (k:Int),n+j=l.length->0<=k->k+AM AP (l.drop n)<=lim->Runs prog Aad (Ab [(2,FM)]) 0 (body f60 0) FM ([.sl TPd l,.j k,.j r,.j (n:Int)],[]) (bif hdL HN AP k (l.drop n) then .exit 0 else .ret) (bif hdL HN AP k (l.drop n) then [.j (k+AM AP (l.drop n)),.j r] else [.j (-1)],[])
 | 0,n,k,hn,h0,hk=>by
  have hr:=Jt k r n l
  try dsimp only [shr] at hr
  rw [Ac (dcF (by omega))] at hr
  rw [drop_eq_nil_of_le (by omega),AM,hdL,Int.add_zero]
  exact .stop _ _ _ hr (by simp)
 | j+1,n,k,hn,h0,hk=>by
  have h1:n<l.length:=by omega
  have hM:maxI=9223372036854775807:=rfl
  have hr:=Jt k r n l
  try dsimp only [shr] at hr
  have hp:=DU F5 (l.drop (n+1))
  have ih:=Lw (r:=r) hm j (n+1) (k+AP l[n]) (by omega) (by have:=F5 l[n]; omega) (by rw [add_assoc,<-BK h1]; exact hk)
  rw [add_assoc,<-BK h1] at ih
  rw [Qh h1]
  have hk':=hk
  rw [BK h1] at hk'
  rw [Af (dcT (by omega))] at hr
  simp only [ntN,gtE h1,Am] at hr
  generalize l[n]=z at hr hk' ih ⊢
  obtain ⟨a,⟨ts,⟨⟩⟩,c,⟨⟩⟩:=z
  dsimp only at hr
  have en:AP (a,(ts,()),c,())=2+6*(ts.length:Int):=rfl
  rw [en] at hk' ih ⊢
  unfold lim at hk'
  have hb:(decide ((0:Int)<=(n:Int))&&decide ((n:Int)<(l.length:Int)))=true:=by simp only [anE,dcE]; omega
  have hn1:i64.wrap ((n:Int)+1)=((n+1:Nat):Int):=by rw [Aw (by omega) (by omega)]; omega
  have w1:i64.wrap (k+1)=k+1:=Aw (by omega) (by omega)
  have w3:i64.wrap (k+1+6*(ts.length:Int)+1)=k+(2+6*(ts.length:Int)):=by rw [Aw (by omega) (by omega)]; omega
  simp only [hb,Cn,hn1,w1] at hr
  try simp only [w2] at hr
  rw [Aa (dcT (by unfold lim; omega)),Aa (dcT ⟨by omega,by unfold lim; omega⟩),w3] at hr
  rw [Ac (dcF (show ¬k+1+6*(ts.length:Int)<0 by omega))] at hr
  simp only [XI,XH,XJ] at hr
  cases hq:HN _ _
  ·unfold HN at hq
   dsimp only at hq
   rw [hq] at hr
   exact .stop _ _ _ hr (by simp)
  ·unfold HN at hq
   dsimp only at hq
   rw [hq] at hr
   rw [Bool.true_and]
   exact .step _ _ _ _ hr ih
theorem XM:Ar prog Aad (Ab [(2,FM)]) 0 (f60.body.getD .skip):=by
 refine An (a:=body f60 0) (by kernel_rfl) fun d e d' h=>?_
 unfold FM at h
 dsimp only at h
 split at h
 ·rename_i l k r n
  obtain ⟨hc,hx⟩:=Ad h
  obtain ⟨a0,a1,a2,a3,a4⟩:=of_decide_eq_true hc
  obtain ⟨n,rfl⟩:=eq_ofNat_of_zero_le a0
  simp only [ntN] at a1 a4 hx
  have hl:=Lw (r:=r) a2 (l.length-n) n k (by omega) a3 a4
  rcases DI hx with ⟨h1,hx⟩ | ⟨h1,hx⟩
  ·cases hx
   rw [h1] at hl; exact hl
  ·cases hx
   rw [h1] at hl; exact hl
 ·cases h
theorem Aew:Ag prog 60 (Ent.rd1 Sw).F:=by
 refine Ae (kc func57 CJ (kc func112 Qf KnowsL.nil)).knows (Λ:=(Ab [(2,FM)])) func60 (c:=f60.body.getD .skip) (by kernel_rfl) fun vs bs r hq hv hb=>?_
 unfold Ent.F Sw at hq
 dsimp only at hq
 split at hq
 ·rename_i l k
  obtain ⟨hc,hx⟩:=Ad hq
  obtain ⟨a1,a2,a3⟩:=of_decide_eq_true hc
  refine ⟨XM,(Sv k l).trans (Eq.trans ?_ hx)⟩
  try dsimp only [shr]
  rw [drop_zero,Aa (dcT ⟨le_refl 0,Nat.zero_le _,a1,a2,a3⟩)]
  cases hdL HN AP k l<;>rfl
 ·cases hq
theorem Lx {l:List Fa} {r:Int} (hm:l.length<=maxI) : ∀ (j n:Nat) (k:Int),n+j=l.length->0<=k->k+AM Bg (l.drop n)<=lim->Runs prog Aac (Ab [(2,FN)]) 0 (body f61 0) FN ([.sl FNd l,.j k,.j r,.j (n:Int)],[]) (bif hdL HO Bg k (l.drop n) then .exit 0 else .ret) (bif hdL HO Bg k (l.drop n) then [.j (k+AM Bg (l.drop n)),.j r] else [.j (-1)],[])
 | 0,n,k,hn,h0,hk=>by
  have hr:=Ju k r n l
  try dsimp only [shr] at hr
  rw [Ac (dcF (by omega))] at hr
  rw [drop_eq_nil_of_le (by omega),AM,hdL,Int.add_zero]
  exact .stop _ _ _ hr (by simp)
 | j+1,n,k,hn,h0,hk=>by
  have h1:n<l.length:=by omega
  have hM:maxI=9223372036854775807:=rfl
  have hr:=Ju k r n l
  try dsimp only [shr] at hr
  have hp:=DU F6 (l.drop (n+1))
  have ih:=Lx (r:=r) hm j (n+1) (k+Bg l[n]) (by omega) (by have:=F6 l[n]; omega) (by rw [add_assoc,<-BK h1]; exact hk)
  rw [add_assoc,<-BK h1] at ih
  rw [Qh h1]
  have hk':=hk
  rw [BK h1] at hk'
  rw [Af (dcT (by omega))] at hr
  simp only [ntN,gtE h1,Am] at hr
  generalize l[n]=z at hr hk' ih ⊢
  obtain ⟨w0,p,⟨ws,⟨⟩⟩,⟨v,⟨⟩⟩,b,c,⟨⟩⟩:=z
  dsimp only at hr
  have en:Bg (w0,p,(ws,()),(v,()),b,c,())=3+6*(ws.length:Int)+6*(v.length:Int)+3*(b.length:Int):=rfl
  rw [en] at hk' ih ⊢
  unfold lim at hk'
  have hb:(decide ((0:Int)<=(n:Int))&&decide ((n:Int)<(l.length:Int)))=true:=by simp only [anE,dcE]; omega
  have hn1:i64.wrap ((n:Int)+1)=((n+1:Nat):Int):=by rw [Aw (by omega) (by omega)]; omega
  have w1:i64.wrap (k+1)=k+1:=Aw (by omega) (by omega)
  have w2:i64.wrap (k+1+1)=k+2:=by rw [Aw (by omega) (by omega)]; omega
  have w3:i64.wrap (k+2+6*(ws.length:Int)+6*(v.length:Int)+3*(b.length:Int)+1)=k+(3+6*(ws.length:Int)+6*(v.length:Int)+3*(b.length:Int)):=by rw [Aw (by omega) (by omega)]; omega
  simp only [hb,Cn,hn1,w1] at hr
  try simp only [w2] at hr
  rw [Aa (dcT (by unfold lim; omega)),Aa (dcT ⟨by omega,by unfold lim; omega⟩),Aa (dcT ⟨by omega,by unfold lim; omega⟩),Aa (dcT ⟨by omega,by unfold lim; omega⟩),w3] at hr
  rw [Ac (dcF (show ¬k+2+6*(ws.length:Int)<0 by omega)),Ac (dcF (show ¬k+2+6*(ws.length:Int)+6*(v.length:Int)<0 by omega)),Ac (dcF (show ¬k+2+6*(ws.length:Int)+6*(v.length:Int)+3*(b.length:Int)<0 by omega))] at hr
  simp only [XI,XH,XJ] at hr
  cases hq:HO _ _
  ·unfold HO at hq
   dsimp only at hq
   rw [hq] at hr
   exact .stop _ _ _ hr (by simp)
  ·unfold HO at hq
   dsimp only at hq
   rw [hq] at hr
   rw [Bool.true_and]
   exact .step _ _ _ _ hr ih
theorem XN:Ar prog Aac (Ab [(2,FN)]) 0 (f61.body.getD .skip):=by
 refine An (a:=body f61 0) (by kernel_rfl) fun d e d' h=>?_
 unfold FN at h
 dsimp only at h
 split at h
 ·rename_i l k r n
  obtain ⟨hc,hx⟩:=Ad h
  obtain ⟨a0,a1,a2,a3,a4⟩:=of_decide_eq_true hc
  obtain ⟨n,rfl⟩:=eq_ofNat_of_zero_le a0
  simp only [ntN] at a1 a4 hx
  have hl:=Lx (r:=r) a2 (l.length-n) n k (by omega) a3 a4
  rcases DI hx with ⟨h1,hx⟩ | ⟨h1,hx⟩
  ·cases hx
   rw [h1] at hl; exact hl
  ·cases hx
   rw [h1] at hl; exact hl
 ·cases h
theorem Aex:Ag prog 61 (Ent.rd1 Sz).F:=by
 refine Ae (kc func57 CJ (kc func113 XK (kc func112 Qf (kc func72 XL KnowsL.nil)))).knows (Λ:=(Ab [(2,FN)])) func61 (c:=f61.body.getD .skip) (by kernel_rfl) fun vs bs r hq hv hb=>?_
 unfold Ent.F Sz at hq
 dsimp only at hq
 split at hq
 ·rename_i l k
  obtain ⟨hc,hx⟩:=Ad hq
  obtain ⟨a1,a2,a3⟩:=of_decide_eq_true hc
  refine ⟨XN,(Sy k l).trans (Eq.trans ?_ hx)⟩
  try dsimp only [shr]
  rw [drop_zero,Aa (dcT ⟨le_refl 0,Nat.zero_le _,a1,a2,a3⟩)]
  cases hdL HO Bg k l<;>rfl
 ·cases hq
end Go.Proofs.YtcjnmdcagfgjoaaGreatDoor.Den
