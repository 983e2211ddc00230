/- What functions of the program do, by the machine: Brk7 Brk8 Brk9 Sz3 Sz4 Eq5 Eq6 To5 To7 Own2 Own3 Nb1 Hd2 Nb2 LNb. -/
import Derived.Test.YtcjnmdcagfgjoaaGreatDoorDD
import Derived.KernelRfl
import Derived.Test.YtcjnmdcagfgjoaaGreatDoorRows
namespace Go.Proofs.YtcjnmdcagfgjoaaGreatDoor.Den
open IntKind (i64)
open Go.Proofs.Tryz
open List (all_cons all_eq_true append_assoc append_nil drop drop_eq_getElem_cons drop_eq_nil_of_le drop_zero getElem_mem getElem_range length_range map_cons mem_append range singleton_append sum_cons take take_length)
open Int (add_assoc eq_ofNat_of_zero_le)
open Nat (add_sub_of_le zero_add zero_le)
open Go.Proofs
set_option maxRecDepth 100000
set_option synthInstance.maxSize 2000
set_option synthInstance.maxHeartbeats 400000
instance decWt7:DecidableEq Wt:=inferInstance
instance decNt7:DecidableEq Nt:=inferInstance
instance decFa70:DecidableEq (List Nt×Int×Unit):=inferInstance
instance decFa71:DecidableEq ((List Ty×Unit)×List Nt×Int×Unit):=inferInstance
instance decFa7:DecidableEq Fa:=inferInstance
def TJ (ts:List Tp) (fs:List Fa) (i:Nat):Bool:=match fs[i]? with | some f=>atW fs f.1==(i:Int)&&P8 ts f.1 f.2.1 f.2.2.1.1 f.2.2.2.1.1 f.2.2.2.2.1 f.2.2.2.2.2.1 | none=>true
def KG (ts:List Tp) (fs:List Fa) (i:Nat):Bool:=((range fs.length).drop i).all (TJ ts fs)
def MW (f:Fa):Bool:=decide (f.2.1.length<=4000000000/\f.2.2.2.1.1.length<=4000000000)&&(nmL f.2.2.2.1.1&&IZ f.2.2.2.2.1)
def Lk (ts:List Tp) (fs:List Fa):Bool:=decide (ts.length<=4000000000/\fs.length<=4000000000)&&(ts.all Ef&&fs.all MW)
def F5 (ts:List Tp) (fs:List Fa):Bool:=C9 ts 0&&(decide (ts.length<=4)&&(decide (fs.length<=4)&&KG ts fs 0))
def Aar:Gm
 | [.agg [.sl TPd ts,.sl FNd fs]],[]=>.need (Lk ts fs) (.leaf (.b (F5 ts fs),[]))
 | _,_=>.no
def gbE:LoopEnt:=⟨32,[1,14,15,16],[],[2],fun
 | ([.ptr 0 0,.sl FNd l,.i .i64 k,.i .i64 i],[bb])=>(match bb with
  | some (.box [.sl TPd ts,.sl FNd fs])=>.need (decide (0<=i/\i.toNat<=l.length/\k=l.length/\eqT (List Fa) l fs/\l.length<=4000000000)&&(E0 ts&&l.all MW)) (.br (KG ts fs i.toNat) (.leaf (.exit 0,([],[]))) (.leaf (.ret,([.b false],[]))))
  | _=>.no)
 | _=>.no⟩

abbrev YK:FuncId->Option Ent:=Ab [(41,.rd1 UA),(42,.rd1 Aau),(43,.rd1 W7)]
theorem P5 (ts:List Tp) (fs:List Fa) (l:List Fa) (k i:Int):Av prog YK (Ab [(4,gbE)]) 0 (body f12 0) gbE ([.ptr 0 0,.sl FNd l,.j k,.j i],[some (.box [.sl TPd ts,.sl FNd fs])]) =
 ((ifB (decide (i<k)) (ifT (decide ((0:Int)<=i)&&decide (i<(↑l.length:Int))) (Aj l[i.toNat]? fun z=>ifB (atW fs z.fst != i) (some (Ex.ret,[V.b false],[]))
 (ifT (G1 ts z.snd.fst z.snd.snd.snd.fst.fst z.snd.snd.snd.snd.fst) (ifB (!P8 ts z.fst z.snd.fst z.snd.snd.fst.fst z.snd.snd.snd.fst.fst z.snd.snd.snd.snd.fst
 z.snd.snd.snd.snd.snd.fst) (some (Ex.ret,[V.b false],[])) (some (Ex.normal,[V.ptr 0 0,V.sl FNd l,V.j k,V.j (i64.wrap (i+(1:Int)))],[some
 (Blk.box [V.sl TPd ts,V.sl FNd fs])])))))) (some (Ex.exit 0,[],[]))):_):=by kernel_rfl
theorem Yr (ts:List Tp) (fs:List Fa):Ay prog YK (Ab [(4,gbE)]) f12 [.agg [.sl TPd ts,.sl FNd fs]] [] =
 ((ifT (decide (ts.length<=4000000000)&&ts.all Ef) (ifB (!(C9 ts 0&&decide (ts.length<=4))) (some (V.b false,[])) (ifB (decide
 ((↑fs.length:Int)>(4:Int))) (some (V.b false,[])) (ifT (decide ((0:Int)<=(0:Int)/\0<=fs.length/\(↑fs.length:Int)=(↑fs.length:Int)/\eqT (List
 Fa) fs fs/\fs.length<=4000000000)&&(E0 ts&&fs.all MW)) (ifB (KG ts fs 0) (some (V.b true,[])) (some (V.b false,[]))))))):_):=by kernel_rfl
theorem Ys (ts:List Tp) (l:List Fa) (hl:l.length<=4000000000) (ht:E0 ts=true) (hs:l.all MW=true) (i:Nat) (h1:i<=l.length) (ex:Ex) (d':Dt)
  (hx:(Br.br (KG ts l i) (.leaf ((.exit 0:Ex),([],[]))) (.leaf ((.ret:Ex),([.b false],[]))):Br (Ex×Dt)).run=some (ex,d')):Runs prog YK (Ab [(4,gbE)]) 0 (body f12 0) gbE ([.ptr 0 0,.sl FNd l,.j (l.length:Int),.j (i:Int)],[some (.box [.sl TPd ts,.sl FNd l])]) ex d':=by
 have hM:maxI=9223372036854775807:=rfl
 refine B8 (l:=range l.length) (TJ ts l) (fun i=>([.ptr 0 0,.sl FNd l,.j (l.length:Int),.j (i:Int)],[some (.box [.sl TPd ts,.sl FNd l])])) (ex:=((.exit 0:Ex),([],[]))) (rt:=((.ret:Ex),([.b false],[]))) (by simp) (by simp) (fun n hn'=>?_) ?_ (l.length-i) i (by simp; omega) ex d' hx
 ·have hlt:n<l.length:=by simpa using hn'
  have hr:=P5 ts l l l.length n
  try dsimp only [shr] at hr
  have s1:=all_eq_true.1 hs _ (getElem_mem hlt)
  unfold MW at s1
  rw [Ag (dcT (by omega)),Aa (by simp only [anE,dcE]; omega),ntN,gtE hlt,Am,Aq (n:=n) (by omega)] at hr
  refine hr.trans ?_
  clear hr hx hs
  rw [getElem_range]
  have e:TJ ts l n=(atW l l[n].1==(n:Int)&&P8 ts l[n].1 l[n].2.1 l[n].2.2.1.1 l[n].2.2.2.1.1 l[n].2.2.2.2.1 l[n].2.2.2.2.2.1):=by
   unfold TJ
   rw [gtE hlt]
  rw [e]
  generalize l[n]=f at s1 ⊢
  have s2:G1 ts f.2.1 f.2.2.2.1.1 f.2.2.2.2.1=true:=by
   unfold G1
   rw [ht,Bool.true_and]
   exact s1
  by_cases q:atW l f.1=(n:Int)
  ·have h5:(atW l f.1==(n:Int))=true:=beq_iff_eq.2 q
   have h6:(atW l f.1 != (n:Int))=false:=bne_eq_false_iff_eq.2 q
   rw [h5,h6,AV,Aa s2]
   cases P8 ts f.1 f.2.1 f.2.2.1.1 f.2.2.2.1.1 f.2.2.2.2.1 f.2.2.2.2.2.1<;>rfl
  ·have h5:(atW l f.1==(n:Int))=false:=beq_eq_false_iff_ne.2 q
   have h6:(atW l f.1 != (n:Int))=true:=bne_iff_ne.2 q
   rw [h5,h6]
   rfl
 ·have hr:=P5 ts l l l.length l.length
  try dsimp only [shr] at hr
  rw [Ac (dcF (by omega))] at hr
  simp only [length_range]
  exact hr
theorem Acm:At prog YK (Ab [(4,gbE)]) 0 (f12.body.getD .skip):=by
 refine An (a:=body f12 0) (by kernel_rfl) fun d ex d' h=>?_
 unfold gbE at h
 dsimp only at h
 split at h
 ·rename_i l k i bb
  split at h
  ·rename_i ts fs
   obtain ⟨hc,hx⟩:=Ad h
   clear h
   rw [anE,anE] at hc
   obtain ⟨hc,ht,hs⟩:=hc
   obtain ⟨h0,h1,h2,h3,h4⟩:=of_decide_eq_true hc
   have h3:l=fs:=h3
   subst h3
   subst h2
   obtain ⟨i,rfl⟩:=eq_ofNat_of_zero_le h0
   simp only [ntN] at h1 hx
   exact Ys ts l h4 ht hs i h1 ex d' hx
  ·cases h
 ·cases h
theorem Fc {ts:List Tp} (h:C9 ts 0=true):ts.all tOK=true:=by
 unfold C9 at h
 rw [drop_zero,all_eq_true] at h
 rw [all_eq_true]
 intro t ht
 obtain ⟨n,hn,rfl⟩:=List.mem_iff_getElem.1 ht
 have:=h n (by simpa using hn)
 unfold SD at this
 rw [gtE hn] at this
 exact ((anE _ _).mp this).1
theorem Yi:Af prog 12 (Ent.rd1 Aar).F:=by
 refine Ae (kc func41 Acb (kc func42 Ac5 (kc func43 Aak KnowsL.nil))).knows (Λ:=(Ab [(4,gbE)])) func12 (c:=f12.body.getD .skip) (by kernel_rfl) fun vs bs r hq hv hb=>?_
 unfold Ent.F Aar at hq
 dsimp only at hq
 split at hq
 ·rename_i ts fs
  obtain ⟨hc,hx⟩:=Ad hq
  unfold Lk at hc
  rw [anE,anE] at hc
  obtain ⟨hc,h2,h3⟩:=hc
  obtain ⟨h0,h1⟩:=of_decide_eq_true hc
  refine ⟨Acm,(Yr ts fs).trans (Eq.trans ?_ hx)⟩
  try dsimp only [shr]
  show _=some _
  unfold F5
  rw [Aa (by rw [anE]; exact ⟨dcT h0,h2⟩)]
  cases h4:C9 ts 0 with
  | false=>rfl
  | true=>
   by_cases h5:ts.length<=4
   ·rw [dcT h5]
    by_cases h6:fs.length<=4
    ·have h7:E0 ts=true:=by unfold E0; rw [dcT h0,h2,Fc h4]; rfl
     rw [dcT h6]
     rw [Bool.true_and,Bool.not_true,AV,Ac (dcF (by omega)),Aa (by rw [anE,anE]; exact ⟨dcT (by refine ⟨by omega,by omega,?_,?_,h1⟩<;>first | rfl | trivial),h7,h3⟩)]
     cases KG ts fs 0<;>rfl
    ·rw [dcF h6]
     rw [Bool.true_and,Bool.not_true,AV,Ag (dcT (by omega))]
     rfl
   ·rw [dcF h5]
    rfl
 ·cases hq

def noW (w:Int) (o:Fa):Bool:=!(o.1==w)
def fnS (ts:List Tp) (fs:List Fa) (i:Nat):Bool:=match fs[i]? with | some f=>P7 ts f.1 f.2.1 f.2.2.1.1 f.2.2.2.1.1 f.2.2.2.2.1 f.2.2.2.2.2.1&&(fs.take i).all (noW f.1) | none=>true
def KF (ts:List Tp) (fs:List Fa) (i:Nat):Bool:=((range fs.length).drop i).all (fnS ts fs)
def H8 (ts:List Tp) (fs:List Fa):Bool:=C9 ts 0&&(decide (ts.length<=4)&&(decide (fs.length<=4)&&KF ts fs 0))
def W3:Gm
 | [.agg [.sl TPd ts,.sl FNd fs]],[]=>.need (Lk ts fs) (.leaf (.b (H8 ts fs),[]))
 | _,_=>.no
def UZ:LoopEnt:=⟨67,[1,10,11,12],[1],[2],fun
 | ([.ptr 0 0,.sl TPd l,.i .i64 k,.i .i64 i],[bb])=>(match bb with
  | some (.box [.sl TPd ts,.sl FNd fs])=>.need (decide (0<=i/\i.toNat<=l.length/\k=l.length/\eqT (List Tp) l ts/\l.length<=4000000000)&&l.all Ef) (.br (C9 ts i.toNat) (.leaf ((.exit 0:Ex),([.ptr 0 0],[some (.box [.sl TPd ts,.sl FNd fs])]))) (.leaf (.ret,([.b false],[]))))
  | _=>.no)
 | _=>.no⟩
def UX:LoopEnt:=⟨67,[1,40,41,42],[],[2],fun
 | ([.ptr 0 0,.sl FNd l,.i .i64 k,.i .i64 i],[bb])=>(match bb with
  | some (.box [.sl TPd ts,.sl FNd fs])=>.need (decide (0<=i/\i.toNat<=l.length/\k=l.length/\eqT (List Fa) l fs/\l.length<=4000000000)&&(E0 ts&&l.all MW)) (.br (KF ts fs i.toNat) (.leaf (.exit 2,([],[]))) (.leaf (.ret,([.b false],[]))))
  | _=>.no)
 | _=>.no⟩
def UV:LoopEnt:=⟨67,[1,6,40,41,42,54,55,56],[1,40,41,42],[2],fun
 | (.ptr 0 0::.ptr 1 0::.sl FNd l::.i .i64 k0::.i .i64 i0::vs,[bb,bf])=>(match vs with
  | [.sl FNd q,.i .i64 k,.i .i64 i]=>(match bb with
   | some (.box [.sl TPd ts,.sl FNd fs])=>(match bf with
    | some (.box [.i .i64 w,.s _,.sl WCd _,.sl TCd _,.sl NTd _,.i .i64 _])=>.need (decide (0<=i/\i.toNat<=q.length/\k=q.length/\q.length<=4000000000)) (.br ((q.drop i.toNat).all (noW w)) (.leaf ((.exit 4:Ex),([.ptr 0 0,.sl FNd l,.i .i64 k0,.i .i64 i0],[some (.box [.sl TPd ts,.sl FNd fs])]))) (.leaf (.ret,([.b false],[]))))
    | _=>.no)
   | _=>.no)
  | _=>.no)
 | _=>.no⟩

abbrev PS:FuncId->Option Ent:=Ab [(37,.rd1 VT),(38,.rd1 Xx),(39,.rd1 W6)]
abbrev Oa:Nat->Option LoopEnt:=Ab [(2,UZ),(10,UX),(15,UV)]
theorem LK (ts:List Tp) (fs:List Fa) (l:List Tp) (k i:Int):Av prog PS Oa 0 (body f10 0) UZ ([.ptr 0 0,.sl TPd l,.j k,.j i],[some (.box [.sl TPd ts,.sl FNd fs])]) =
 ((ifB (decide (i<k)) (ifT (decide ((0:Int)<=i)&&decide (i<(↑l.length:Int))) (Aj l[i.toNat]? fun z=>ifT (Ef (z.fst,(z.snd.fst.fst,()),z.snd.snd.fst,
 ())) (ifB (!tOK (z.fst,(z.snd.fst.fst,()),z.snd.snd.fst,())) (some (Ex.ret,[V.b false],[])) (ifB (atT ts z.fst != i) (some (Ex.ret,[V.b false],[])) (some
 (Ex.normal,[V.ptr 0 0,V.sl TPd l,V.j k,V.j (i64.wrap (i+(1:Int)))],[some (Blk.box [V.sl TPd ts,V.sl FNd fs])])))))) (some (Ex.exit 0,[V.ptr 0
 0],[some (Blk.box [V.sl TPd ts,V.sl FNd fs])]))):_):=by kernel_rfl
theorem LJ (ts:List Tp) (fs:List Fa) (l:List Fa) (k i:Int):Av prog PS Oa 0 (body f10 1) UX ([.ptr 0 0,.sl FNd l,.j k,.j i],[some (.box [.sl TPd ts,.sl FNd fs])]) =
 ((ifB (decide (i<k)) (ifT (decide ((0:Int)<=i)&&decide (i<(↑l.length:Int))) (Aj l[i.toNat]? fun z=>ifT (G1 ts z.snd.fst z.snd.snd.snd.fst.fst
 z.snd.snd.snd.snd.fst) (ifB (!P7 ts z.fst z.snd.fst z.snd.snd.fst.fst z.snd.snd.snd.fst.fst z.snd.snd.snd.snd.fst z.snd.snd.snd.snd.snd.fst) (some (Ex.ret,[V.b false],
 [])) (ifT (decide ((0:Int)<=i)&&decide (i<=(↑fs.length:Int))) (ifT (decide ((0:Int)<=(0:Int)/\0<=(take (i.toNat-0) (drop (0 :
 Nat) fs)).length/\(↑(take (i.toNat-0) (drop 0 fs)).length:Int)=(↑(take (i.toNat-0) (drop 0 fs)).length:Int)
 /\ (take (i.toNat-0) (drop 0 fs)).length<=4000000000)) (ifB ((drop 0 (take (i.toNat-0) (drop (0 :
 Nat) fs))).all (noW z.fst)) (some (Ex.normal,[V.ptr 0 0,V.sl FNd l,V.j k,V.j (i64.wrap (i+(1:Int)))],[some (Blk.box [V.sl TPd ts,V.sl FNd
 fs])])) (some (Ex.ret,[V.b false],[])))))))) (some (Ex.exit 2,[],[]))):_):=by kernel_rfl
theorem LI (ts:List Tp) (fs:List Fa) (w:Int) (p:List UInt8) (ws:List Wt) (v:List Ty) (b:List Nt) (t:Int) (l:List Fa) (k0 i0:Int) (q:List Fa) (k i:Int):Av prog PS Oa 0 (body f10 2) UV ([.ptr 0 0,.ptr 1 0,.sl FNd l,.j k0,.j i0,.sl FNd q,.j k,.j i],[some (.box [.sl TPd ts,.sl FNd fs]),some (.box [.j w,.s p,.sl WCd ws,.sl TCd v,.sl NTd b,.j t])]) =
 ((ifB (decide (i<k)) (ifT (decide ((0:Int)<=i)&&decide (i<(↑q.length:Int))) (Aj q[i.toNat]? fun z=>ifB (z.fst==w) (some (Ex.ret,[V.b false],[])) (some
 (Ex.normal,[V.ptr 0 0,V.ptr 1 0,V.sl FNd l,V.j k0,V.j i0,V.sl FNd q,V.j k,V.j (i64.wrap (i+(1:Int)))],[some (Blk.box [V.sl TPd
 ts,V.sl FNd fs]),some (Blk.box [V.j w,V.s p,V.sl WCd ws,V.sl TCd v,V.sl NTd b,V.j t])])))) (some (Ex.exit 4,[V.ptr 0 0,V.sl FNd l,V.j k0,V.i
 .i64 i0],[some (Blk.box [V.sl TPd ts,V.sl FNd fs])]))):_):=by kernel_rfl
theorem Xw (ts:List Tp) (fs:List Fa):Ay prog PS Oa f10 [.agg [.sl TPd ts,.sl FNd fs]] [] =
 ((ifT (decide ((0:Int)<=(0:Int)/\0<=ts.length/\(↑ts.length:Int)=(↑ts.length:Int)/\eqT (List Tp) ts ts/\ts.length<=4000000000)&&ts.all
 Ef) (ifB (C9 ts 0) (ifB (decide ((↑ts.length:Int)>(4:Int))) (some (V.b false,[])) (ifB (decide ((↑fs.length:Int)>(4:Int))) (some (V.b false,
 [])) (ifT (decide ((0:Int)<=(0:Int)/\0<=fs.length/\(↑fs.length:Int)=(↑fs.length:Int)/\eqT (List Fa) fs fs/\fs.length<=4000000000)&&
 (E0 ts&&fs.all MW)) (ifB (KF ts fs 0) (some (V.b true,[])) (some (V.b false,[])))))) (some (V.b false,[])))):_):=by kernel_rfl
theorem UY (l:List Tp) (fs:List Fa) (hl:l.length<=4000000000) (hs:l.all Ef=true) (i:Nat) (h1:i<=l.length) (ex:Ex) (d':Dt)
  (hx:(Br.br (C9 l i) (.leaf ((.exit 0:Ex),([.ptr 0 0],[some (.box [.sl TPd l,.sl FNd fs])]))) (.leaf ((.ret:Ex),([.b false],[]))):Br (Ex×Dt)).run=some (ex,d')):Runs prog PS Oa 0 (body f10 0) UZ ([.ptr 0 0,.sl TPd l,.j (l.length:Int),.j (i:Int)],[some (.box [.sl TPd l,.sl FNd fs])]) ex d':=by
 have hM:maxI=9223372036854775807:=rfl
 refine B8 (l:=range l.length) (SD l) (fun i=>([.ptr 0 0,.sl TPd l,.j (l.length:Int),.j (i:Int)],[some (.box [.sl TPd l,.sl FNd fs])])) (ex:=((.exit 0:Ex),([.ptr 0 0],[some (.box [.sl TPd l,.sl FNd fs])]))) (rt:=((.ret:Ex),([.b false],[]))) (by simp) (by simp) (fun n hn'=>?_) ?_ (l.length-i) i (by simp; omega) ex d' hx
 ·have hlt:n<l.length:=by simpa using hn'
  have hr:=LK l fs l l.length n
  try dsimp only [shr] at hr
  have s1:=all_eq_true.1 hs _ (getElem_mem hlt)
  rw [Ag (dcT (by omega)),Aa (by simp only [anE,dcE]; omega),ntN,gtE hlt,Am,Aq (n:=n) (by omega)] at hr
  refine hr.trans ?_
  clear hr hx hs
  rw [getElem_range]
  have e:SD l n=(tOK l[n]&&atT l l[n].1==(n:Int)):=by
   unfold SD
   rw [gtE hlt]
  rw [e]
  generalize l[n]=f at s1 ⊢
  obtain ⟨f1,⟨f2,⟨⟩⟩,f3,⟨⟩⟩:=f
  dsimp only
  rw [Aa s1]
  cases tOK (f1,(f2,()),f3,()) with
  | false=>rfl
  | true=>
   by_cases q:atT l f1=(n:Int)
   ·rw [show (atT l f1==(n:Int))=true from beq_iff_eq.2 q,show (atT l f1 != (n:Int))=false from bne_eq_false_iff_eq.2 q]
    rfl
   ·rw [show (atT l f1==(n:Int))=false from beq_eq_false_iff_ne.2 q,show (atT l f1 != (n:Int))=true from bne_iff_ne.2 q]
    rfl
 ·have hr:=LK l fs l l.length l.length
  try dsimp only [shr] at hr
  rw [Ac (dcF (by omega))] at hr
  simp only [length_range]
  exact hr
theorem UW (ts:List Tp) (l:List Fa) (hl:l.length<=4000000000) (ht:E0 ts=true) (hs:l.all MW=true) (i:Nat) (h1:i<=l.length) (ex:Ex) (d':Dt)
  (hx:(Br.br (KF ts l i) (.leaf ((.exit 2:Ex),([],[]))) (.leaf ((.ret:Ex),([.b false],[]))):Br (Ex×Dt)).run=some (ex,d')):Runs prog PS Oa 0 (body f10 1) UX ([.ptr 0 0,.sl FNd l,.j (l.length:Int),.j (i:Int)],[some (.box [.sl TPd ts,.sl FNd l])]) ex d':=by
 have hM:maxI=9223372036854775807:=rfl
 refine B8 (l:=range l.length) (fnS ts l) (fun i=>([.ptr 0 0,.sl FNd l,.j (l.length:Int),.j (i:Int)],[some (.box [.sl TPd ts,.sl FNd l])])) (ex:=((.exit 2:Ex),([],[]))) (rt:=((.ret:Ex),([.b false],[]))) (by simp) (by simp) (fun n hn'=>?_) ?_ (l.length-i) i (by simp; omega) ex d' hx
 ·have hlt:n<l.length:=by simpa using hn'
  have hr:=LJ ts l l l.length n
  try dsimp only [shr] at hr
  have s1:=all_eq_true.1 hs _ (getElem_mem hlt)
  unfold MW at s1
  rw [Ag (dcT (by omega)),Aa (by simp only [anE,dcE]; omega),ntN,gtE hlt,Am,Aq (n:=n) (by omega),Nat.sub_zero,drop_zero,drop_zero] at hr
  refine hr.trans ?_
  clear hr hx hs
  rw [getElem_range]
  have e:fnS ts l n=(P7 ts l[n].1 l[n].2.1 l[n].2.2.1.1 l[n].2.2.2.1.1 l[n].2.2.2.2.1 l[n].2.2.2.2.2.1&&(l.take n).all (noW l[n].1)):=by
   unfold fnS
   rw [gtE hlt]
  rw [e]
  generalize l[n]=f at s1 ⊢
  have s2:G1 ts f.2.1 f.2.2.2.1.1 f.2.2.2.2.1=true:=by
   unfold G1
   rw [ht,Bool.true_and]
   exact s1
  rw [Aa s2]
  cases P7 ts f.1 f.2.1 f.2.2.1.1 f.2.2.2.1.1 f.2.2.2.2.1 f.2.2.2.2.2.1 with
  | false=>rfl
  | true=>
   have h9:(l.take n).length<=4000000000:=by simp; omega
   rw [Bool.not_true,AV,Aa (show (decide (0<=(n:Int))&&decide ((n:Int)<=(l.length:Int)))=true by simp only [anE,dcE]; omega),Aa (dcT ⟨by omega,by omega,rfl,h9⟩)]
   cases (l.take n).all (noW f.1)<;>rfl
 ·have hr:=LJ ts l l l.length l.length
  try dsimp only [shr] at hr
  rw [Ac (dcF (by omega))] at hr
  simp only [length_range]
  exact hr
theorem UU (ts:List Tp) (fs:List Fa) (w:Int) (p:List UInt8) (ws:List Wt) (v:List Ty) (b:List Nt) (t:Int) (l:List Fa) (k0 i0:Int) (q:List Fa) (hq:q.length<=4000000000) (i:Nat) (h1:i<=q.length) (ex:Ex) (d':Dt)
  (hx:(Br.br ((q.drop i).all (noW w)) (.leaf ((.exit 4:Ex),([.ptr 0 0,.sl FNd l,.j k0,.j i0],[some (.box [.sl TPd ts,.sl FNd fs])]))) (.leaf ((.ret:Ex),([.b false],[]))):Br (Ex×Dt)).run=some (ex,d')):Runs prog PS Oa 0 (body f10 2) UV ([.ptr 0 0,.ptr 1 0,.sl FNd l,.j k0,.j i0,.sl FNd q,.j (q.length:Int),.j (i:Int)],[some (.box [.sl TPd ts,.sl FNd fs]),some (.box [.j w,.s p,.sl WCd ws,.sl TCd v,.sl NTd b,.j t])]) ex d':=by
 have hM:maxI=9223372036854775807:=rfl
 refine B8 (l:=q) (noW w) (fun i=>([.ptr 0 0,.ptr 1 0,.sl FNd l,.j k0,.j i0,.sl FNd q,.j (q.length:Int),.j (i:Int)],[some (.box [.sl TPd ts,.sl FNd fs]),some (.box [.j w,.s p,.sl WCd ws,.sl TCd v,.sl NTd b,.j t])])) (ex:=((.exit 4:Ex),([.ptr 0 0,.sl FNd l,.j k0,.j i0],[some (.box [.sl TPd ts,.sl FNd fs])]))) (rt:=((.ret:Ex),([.b false],[]))) (by simp) (by simp) (fun n hlt=>?_) ?_ (q.length-i) i (by omega) ex d' hx
 ·have hr:=LI ts fs w p ws v b t l k0 i0 q q.length n
  try dsimp only [shr] at hr
  rw [Ag (dcT (by omega)),Aa (by simp only [anE,dcE]; omega),ntN,gtE hlt,Am,Aq (n:=n) (by omega)] at hr
  refine hr.trans ?_
  unfold noW
  cases q[n].1==w<;>rfl
 ·have hr:=LI ts fs w p ws v b t l k0 i0 q q.length q.length
  try dsimp only [shr] at hr
  rw [Ac (dcF (by omega))] at hr
  exact hr
theorem Abl:At prog PS Oa 0 (f10.body.getD .skip):=by
 refine LoopsI.loops (cs:=[body f10 0,body f10 1,body f10 2]) ?_ (by kernel_rfl)
 refine .cons (ent:=UZ) (by rfl) (fun d ex d' h=>?_) (.cons (ent:=UX) (by rfl) (fun d ex d' h=>?_) (.cons (ent:=UV) (by rfl) (fun d ex d' h=>?_) .nil))
 ·unfold UZ at h
  dsimp only at h
  split at h
  ·rename_i l k i bb
   split at h
   ·rename_i ts fs
    obtain ⟨hc,hx⟩:=Ad h
    clear h
    rw [anE] at hc
    obtain ⟨hc,hs⟩:=hc
    obtain ⟨h0,h1,h2,h3,h4⟩:=of_decide_eq_true hc
    have h3:l=ts:=h3
    subst h3
    subst h2
    obtain ⟨i,rfl⟩:=eq_ofNat_of_zero_le h0
    simp only [ntN] at h1 hx
    exact UY l fs h4 hs i h1 ex d' hx
   ·cases h
  ·cases h
 ·unfold UX at h
  dsimp only at h
  split at h
  ·rename_i l k i bb
   split at h
   ·rename_i ts fs
    obtain ⟨hc,hx⟩:=Ad h
    clear h
    rw [anE,anE] at hc
    obtain ⟨hc,ht,hs⟩:=hc
    obtain ⟨h0,h1,h2,h3,h4⟩:=of_decide_eq_true hc
    have h3:l=fs:=h3
    subst h3
    subst h2
    obtain ⟨i,rfl⟩:=eq_ofNat_of_zero_le h0
    simp only [ntN] at h1 hx
    exact UW ts l h4 ht hs i h1 ex d' hx
   ·cases h
  ·cases h
 ·unfold UV at h
  dsimp only at h
  split at h
  ·rename_i l k0 i0 vs bb bf
   split at h
   ·rename_i q k i
    split at h
    ·rename_i ts fs
     split at h
     ·rename_i w p ws v b t
      obtain ⟨hc,hx⟩:=Ad h
      clear h
      obtain ⟨h0,h1,h2,h3⟩:=of_decide_eq_true hc
      subst h2
      obtain ⟨i,rfl⟩:=eq_ofNat_of_zero_le h0
      simp only [ntN] at h1 hx
      exact UU ts fs w p ws v b t l k0 i0 q h3 i h1 ex d' hx
     ·cases h
    ·cases h
   ·cases h
  ·cases h
theorem Xt:Af prog 10 (Ent.rd1 W3).F:=by
 refine Ae (kc func37 Ac2 (kc func38 sat (kc func39 Zz KnowsL.nil))).knows (Λ:=Oa) func10 (c:=f10.body.getD .skip) (by kernel_rfl) fun vs bs r hq hv hb=>?_
 unfold Ent.F W3 at hq
 dsimp only at hq
 split at hq
 ·rename_i ts fs
  obtain ⟨hc,hx⟩:=Ad hq
  unfold Lk at hc
  rw [anE,anE] at hc
  obtain ⟨hc,h2,h3⟩:=hc
  obtain ⟨h0,h1⟩:=of_decide_eq_true hc
  refine ⟨Abl,(Xw ts fs).trans (Eq.trans ?_ hx)⟩
  try dsimp only [shr]
  show _=some _
  unfold H8
  rw [Aa (by rw [anE]; exact ⟨dcT (by refine ⟨by omega,by omega,?_,?_,h0⟩<;>first | rfl | trivial),h2⟩)]
  cases h4:C9 ts 0 with
  | false=>rfl
  | true=>
   by_cases h5:ts.length<=4
   ·rw [dcT h5,Be,Ac (dcF (by omega))]
    by_cases h6:fs.length<=4
    ·have h7:E0 ts=true:=by unfold E0; rw [dcT h0,h2,Fc h4]; rfl
     rw [dcT h6]
     rw [Ac (dcF (by omega)),Aa (by rw [anE,anE]; exact ⟨dcT (by refine ⟨by omega,by omega,?_,?_,h1⟩<;>first | rfl | trivial),h7,h3⟩)]
     cases KF ts fs 0<;>rfl
    ·rw [dcF h6,Ag (dcT (by omega))]
     rfl
   ·rw [dcF h5,Be,Ag (dcT (by omega))]
    rfl
 ·cases hq


theorem M1 {α:Type} (p:α->Bool) : ∀ (l:List α) (n i:Nat) (h:i<l.length),p l[i]=true->(Ap p n l==((n+i:Nat):Int))=(l.take i).all (fun x=>!p x)
 | [],n,i,h,_=>by simp at h
 | x::l,n,0,h,hp=>by
  simp only [List.getElem_cons_zero] at hp
  rw [Ap]
  simp [hp]
 | x::l,n,i+1,h,hp=>by
  simp only [List.getElem_cons_succ] at hp
  have hl:i<l.length:=by simpa using h
  rw [Ap,List.take_succ_cons,all_cons]
  cases hx:p x with
  | true=>
   have : ¬((n:Int)=((n+(i+1):Nat):Int)):=by omega
   simp only [if_true,Bool.not_true,Bool.false_and]
   exact beq_eq_false_iff_ne.2 this
  | false=>
   have:=M1 p l (n+1) i hl hp
   rw [show n+(i+1)=n+1+i by omega]
   simpa using this
theorem Tl (m:List (List UInt8×Int)) (x y:List UInt8) (v:Int):Cv .str (Dy .str m x v) y=if y=x then some v else Cv .str m y:=by
 induction m with
 | nil=>
  show (match (y==x) with | true=>some v | false=>none)=_
  by_cases h:y=x
  ·subst h; simp
  ·rw [beq_false_of_ne h,if_neg h]; rfl
 | cons e m ih=>
  show Cv .str (match (x==e.1) with | true=>(x,v)::m | false=>e::Dy .str m x v) y=_
  by_cases h:x=e.1
  ·rw [h,beq_self_eq_true]
   show (match (y==e.1) with | true=>some v | false=>Cv .str m y)=if y=e.1 then some v else (match (y==e.1) with | true=>some e.2 | false=>Cv .str m y)
   by_cases h2:y=e.1
   ·rw [if_pos h2,h2,beq_self_eq_true]
   ·rw [if_neg h2,beq_false_of_ne h2]
  ·rw [beq_false_of_ne h]
   show (match (y==e.1) with | true=>some e.2 | false=>Cv .str (Dy .str m x v) y)=if y=x then some v else (match (y==e.1) with | true=>some e.2 | false=>Cv .str m y)
   by_cases h2:y=e.1
   ·have hn : ¬y=x:=fun q=>h (q.symm.trans h2)
    rw [if_neg hn,h2,beq_self_eq_true]
   ·rw [beq_false_of_ne h2]
    exact ih
def gm (m:List (List UInt8×Int)) (x:List UInt8):Int:=(Cv .str m x).getD 0
theorem Aaq (m:List (List UInt8×Int)) (x y:List UInt8) (v:Int):gm (Dy .str m x v) y=if y=x then v else gm m y:=by
 unfold gm
 rw [Tl]
 split<;>rfl
def YR (m:List (List UInt8×Int)) (q:List Nt):Prop:=∀ x,(∀ o∈q,o.1=x->o.2.1<=gm m x)/\(gm m x=0\/∃ o∈q,o.1=x/\o.2.1=gm m x)/\0<=gm m x/\gm m x<=1000
theorem Aa2 {ts:List Tp} (h:ts.all tOK=true) (x:List UInt8) (ha:0<=atT ts x):EY ts x<=1000:=by
 rcases RP ts x with h1 | ⟨h1,h2,h3⟩
 ·omega
 ·unfold EY
  rw [gtE h2]
  have:=all_eq_true.1 h _ (getElem_mem h2)
  unfold tOK at this
  simp only [anE,dcE] at this
  exact this.2.2.2
theorem Yg {v:List Ty} (hk:Bf v=true) (s:List UInt8):Ls v s=MQ (t2L v 0) s:=by
 unfold Ls T6 MQ
 rw [hk,Bool.and_true]
theorem Abw {ts:List Tp} {v:List Ty} (hk:Bf v=true) {m:List (List UInt8×Int)} {b:List Nt} {i:Nat} (hi:i<b.length) (hm:YR m (b.take i)):ntI ts (t2L v 0) m b[i]=ntS ts v b i:=by
 obtain ⟨h1,h2,h3,h4⟩:=hm b[i].1
 have hw:i64.wrap (gm m b[i].1+1)=gm m b[i].1+1:=Ax (by omega) (by omega)
 unfold ntI ntS
 rw [gtE hi]
 dsimp only
 rw [Yg hk,show (Cv .str m b[i].1).getD 0=gm m b[i].1 from rfl,hw,Bool.eq_iff_iff]
 simp only [anE,dcE,all_eq_true]
 constructor
 ·rintro ⟨a,⟨c,d⟩,e⟩
  refine ⟨a,⟨by omega,d⟩,e,fun o ho=>?_⟩
  unfold ltB
  by_cases q:o.1=b[i].1
  ·have:=h1 o ho q
   rw [dcF (by omega),Bool.and_false]; rfl
  ·rw [beq_false_of_ne q]; rfl
 ·rintro ⟨a,⟨c,d⟩,e,f⟩
  refine ⟨a,⟨?_,d⟩,e⟩
  rcases h2 with h2 | ⟨o,ho,h5,h6⟩
  ·omega
  ·have:=f o ho
   unfold ltB at this
   rw [h5,beq_self_eq_true,Bool.true_and] at this
   by_cases q:o.2.1>=b[i].2.1
   ·rw [dcT q] at this; cases this
   ·omega
theorem Wi {ts:List Tp} {v:List Ty} (ht:ts.all tOK=true) {m:List (List UInt8×Int)} {b:List Nt} {i:Nat} (hi:i<b.length) (hm:YR m (b.take i)) (h:ntI ts (t2L v 0) m b[i]=true):YR (Dy .str m b[i].1 b[i].2.1) (b.take (i+1)):=by
 obtain ⟨h1,h2,h3,h4⟩:=hm b[i].1
 have hw:i64.wrap (gm m b[i].1+1)=gm m b[i].1+1:=Ax (by omega) (by omega)
 unfold ntI at h
 rw [show (Cv .str m b[i].1).getD 0=gm m b[i].1 from rfl,hw] at h
 simp only [anE,dcE] at h
 obtain ⟨a,⟨c,d⟩,e⟩:=h
 have hc:=Aa2 ht _ a
 intro x
 rw [Aaq,List.take_succ_eq_append_getElem hi]
 by_cases q:x=b[i].1
 ·rw [if_pos q]
  refine ⟨fun o ho hx=>?_,.inr ⟨b[i],mem_append.2 (.inr (List.mem_singleton.2 rfl)),q.symm,rfl⟩,by omega,by omega⟩
  rcases mem_append.1 ho with ho | ho
  ·have:=h1 o ho (hx.trans q); omega
  ·rw [List.mem_singleton.1 ho]; exact Int.le_refl _
 ·rw [if_neg q]
  obtain ⟨g1,g2,g3,g4⟩:=hm x
  refine ⟨fun o ho hx=>?_,?_,g3,g4⟩
  ·rcases mem_append.1 ho with ho | ho
   ·exact g1 o ho hx
   ·rw [List.mem_singleton.1 ho] at hx; exact absurd hx.symm q
  ·rcases g2 with g2 | ⟨o,ho,h5,h6⟩
   ·exact .inl g2
   ·exact .inr ⟨o,mem_append.2 (.inl ho),h5,h6⟩
theorem Wl {ts:List Tp} {v:List Ty} (hk:Bf v=true) (ht:ts.all tOK=true) (b:List Nt) : ∀ (j i:Nat) (m:List (List UInt8×Int)),i+j=b.length->YR m (b.take i)->Hw ts (t2L v 0) m (b.drop i)=Ie ts v b i
 | 0,i,m,hi,hm=>by
  unfold Ie
  rw [drop_eq_nil_of_le (by omega),drop_eq_nil_of_le (by simp; omega),Hw]
  rfl
 | j+1,i,m,hi,hm=>by
  have hlt:i<b.length:=by omega
  have e:Ie ts v b i=(ntS ts v b i&&Ie ts v b (i+1)):=by
   unfold Ie
   rw [drop_eq_getElem_cons (by simpa using hlt),all_cons,getElem_range]
  rw [e,drop_eq_getElem_cons hlt,Hw,<-Abw hk hlt hm]
  cases h:ntI ts (t2L v 0) m b[i] with
  | false=>rfl
  | true=>
   rw [Bool.true_and,Bool.true_and]
   exact Wl hk ht b j (i+1) _ (by omega) (Wi ht hlt hm h)
theorem Yh {ts:List Tp} {v:List Ty} (hk:Bf v=true) (ht:ts.all tOK=true) (b:List Nt):Hw ts (t2L v 0) [] b=Ie ts v b 0:=
 Wl hk ht b b.length 0 [] (by omega) (fun x=>⟨fun o ho=>(by simp at ho),.inl rfl,Int.le_refl _,by show (0:Int)<=1000; decide⟩)
theorem Aat {ts:List Tp} (ht:ts.all tOK=true) (w:Int) (p:List UInt8) (ws:List Wt) (v:List Ty) (b:List Nt) (t:Int):P8 ts w p ws v b t=P7 ts w p ws v b t:=by
 unfold P8 P7
 cases hk:Bf v with
 | false=>rfl
 | true=>rw [Yh hk ht]
theorem Zi {ts:List Tp} (ht:ts.all tOK=true) {fs:List Fa} {i:Nat} (hi:i<fs.length):TJ ts fs i=fnS ts fs i:=by
 unfold TJ fnS
 rw [gtE hi]
 dsimp only
 rw [Aat ht,Bool.and_comm]
 congr 1
 have:=M1 (fun f:Fa=>f.1==fs[i].1) fs 0 i hi (by simp)
 rw [zero_add] at this
 exact this
theorem TH (ts:List Tp) (fs:List Fa):F5 ts fs=H8 ts fs:=by
 unfold F5 H8
 cases h:C9 ts 0 with
 | false=>rfl
 | true=>
  have ht:=Fc h
  have e:KG ts fs 0=KF ts fs 0:=by
   unfold KG KF
   rw [drop_zero,Bool.eq_iff_iff,all_eq_true,all_eq_true]
   constructor
   ·intro h i hi; rw [<-Zi ht (by simpa using hi)]; exact h i hi
   ·intro h i hi; rw [Zi ht (by simpa using hi)]; exact h i hi
  rw [e]

def szA (k:Int) (w:Nat):Br (V×List (Option Blk)):=.br (decide (k-(w:Int)<0)) (.leaf (.i .i64 (-1),[])) (.leaf (.i .i64 (k-(w:Int)),[]))
def wTy (z:Ty):Nat:=z.2.1.length
def OD (z:Ty):Bool:=decide (z.2.1.length<=maxI)
def LF:Gm
 | [.agg [.i .i64 a,.s b,.i .i64 c,.b d,.i .i64 e,.i .i64 f],.i .i64 k],[]=>.need (decide (0<=k/\k<=1048576)&&OD (a,b,c,d,e,f,())) (szA k (wTy (a,b,c,d,e,f,())))
 | _,_=>.no
def D1 (l:List Ty):Nat:=(l.map wTy).sum
def Lj (l:List Ty):Nat:=l.length+D1 l
def Gn (l:List Ty):Bool:=decide (l.length<=maxI)&&l.all OD
def Fe:LoopEnt:=⟨27,[0,1,5],[1],[4],fun
 | ([.sl TCd l,.i .i64 k,.i .i64 i],[])=>.need (decide (0<=i/\i.toNat<=l.length/\0<=k/\k<=1048576)&&Gn l) (.br (decide (k-(D1 (l.drop i.toNat):Int)<0)) (.leaf (.ret,([.i .i64 (-1)],[]))) (.leaf (.exit 0,([.i .i64 (k-(D1 (l.drop i.toNat):Int))],[]))))
 | _=>.no⟩
def Qs:Gm
 | [.sl TCd l,.i .i64 k],[]=>.need (decide (0<=k/\k<=1048576)&&Gn l) (szA k (Lj l))
 | _,_=>.no
theorem Gk {k:Int} {w:Nat} (h:k-(w:Int)<0):(szA k w).run=some (.j (-1),[]):=by
 unfold szA; rw [L3 (dcT h)]; rfl
theorem J8 {k:Int} {w:Nat} (h : ¬k-(w:Int)<0):(szA k w).run=some (.j (k-(w:Int)),[]):=by
 unfold szA; rw [NW (dcF h)]; rfl
theorem SI (a:Int) (b:List UInt8) (c:Int) (d:Bool) (e f:Int) (k:Int):Ay prog (Ab []) (Ab []) f198 [.agg [.j a,.s b,.j c,.b d,.j e,.j f],.j k] [] =
 ((ifB (decide (i64.wrap (k-(↑b.length:Int))<(0:Int))) (some (V.j (-1),[])) (some (V.j (i64.wrap (k-(↑b.length:Int))),[]))):_):=by kernel_rfl
theorem UF:Af prog 198 (Ent.rd1 LF).F:=by
 refine Ae KnowsL.nil.knows (Λ:=Ab []) func198 (c:=f198.body.getD .skip) (by kernel_rfl) fun vs_ bs_ r_ hq_ hv_ hb_=>?_
 unfold Ent.F LF at hq_
 dsimp only at hq_
 split at hq_
 ·rename_i a b c d e f k
  obtain ⟨hc,hx⟩:=Ad hq_
  rw [anE,dcE] at hc
  obtain ⟨⟨h0,h1⟩,h2⟩:=hc
  unfold OD at h2
  dsimp only at h2
  have hM:maxI=9223372036854775807:=rfl
  refine ⟨Al _,(SI a b c d e f k).trans (Eq.trans ?_ hx)⟩
  show _=(szA k (wTy (a,b,c,d,e,f,()))).run
  unfold wTy
  dsimp only
  have h3:=of_decide_eq_true h2
  have hw:i64.wrap (k-(b.length:Int))=k-(b.length:Int):=Ax (by omega) (by omega)
  rw [hw]
  by_cases q:k-(b.length:Int)<0
  ·rw [Ag (dcT q),Gk q]
  ·rw [Ac (dcF q),J8 q]
 ·cases hq_
theorem I2 (l:List Ty) (k i:Int):Av prog (Ab [(198,.rd1 LF)]) (Ab [(5,Fe)]) 0 (body f155 0) Fe ([.sl TCd l,.j k,.j i],[]) =
 ((ifB (decide (i<(↑l.length:Int))) (ifT (decide ((0:Int)<=i)&&decide (i<(↑l.length:Int))) (Aj l[i.toNat]? fun z=>ifT (decide ((0:Int)<=k/\k<=(1048576
 : Int))&&OD (z.fst,z.snd.fst,z.snd.snd.fst,z.snd.snd.snd.fst,z.snd.snd.snd.snd.fst,z.snd.snd.snd.snd.snd.fst,())) (ifB (decide (k-(↑(wTy (z.fst,z.snd.fst,
 z.snd.snd.fst,z.snd.snd.snd.fst,z.snd.snd.snd.snd.fst,z.snd.snd.snd.snd.snd.fst,())):Int)<(0:Int))) (some (Ex.ret,[V.j (-1)],[])) (ifB (decide (k -
 (↑(wTy (z.fst,z.snd.fst,z.snd.snd.fst,z.snd.snd.snd.fst,z.snd.snd.snd.snd.fst,z.snd.snd.snd.snd.snd.fst,())):Int)<(0:Int))) (some (Ex.ret,[V.j (-1)],
 [])) (some (Ex.normal,[V.sl TCd l,V.j (k-(↑(wTy (z.fst,z.snd.fst,z.snd.snd.fst,z.snd.snd.snd.fst,z.snd.snd.snd.snd.fst,z.snd.snd.snd.snd.snd.fst,())) :
 Int)),V.j (i64.wrap (i+(1:Int)))],[])))))) (some (Ex.exit 0,[V.j k],[]))):_):=by kernel_rfl
theorem Qr (l:List Ty) (k:Int):Ay prog (Ab [(198,.rd1 LF)]) (Ab [(5,Fe)]) f155 [.sl TCd l,.j k] [] =
 ((ifB (decide (i64.wrap (k-(↑l.length:Int))<(0:Int))) (some (V.j (-1),[])) (ifT (decide ((0:Int)<=(0:Int)/\0<=l.length/\(0:Int)<=
 i64.wrap (k-(↑l.length:Int))/\i64.wrap (k-(↑l.length:Int))<=(1048576:Int))&&Gn l) (ifB (decide (i64.wrap (k-(↑l.length:Int))
 - (↑(D1 (drop 0 l)):Int)<(0:Int))) (some (V.j (-1),[])) (some (V.j (i64.wrap (k-(↑l.length:Int))-(↑(D1 (drop (0 :
 Nat) l)):Int)),[]))))):_):=by kernel_rfl
theorem J6 (l:List Ty) (hl:l.length<=maxI) (ho : ∀ z∈l,OD z=true) : ∀ (j i:Nat) (k:Int),i+j=l.length->0<=k->k<=1048576->∀ ex d,(Br.br (decide (k-(D1 (l.drop i):Int)<0)) (.leaf (.ret,([.j (-1)],[]))) (.leaf (.exit 0,([.j (k-(D1 (l.drop i):Int))],[]))):Br (Ex×Dt)).run=some (ex,d)->Runs prog (Ab [(198,.rd1 LF)]) (Ab [(5,Fe)]) 0 (body f155 0) Fe ([.sl TCd l,.j k,.j (i:Int)],[]) ex d
 | 0,i,k,hi,h0,h1,ex,d,h=>by
  have hr:=I2 l k i
  rw [Ac (dcF (by omega))] at hr
  have e0:(D1 (l.drop i):Int)=0:=by rw [drop_eq_nil_of_le (by omega)]; rfl
  rw [e0,Int.sub_zero,NW (dcF (by omega))] at h
  have h8:=Ao h
  obtain ⟨rfl,rfl⟩:=Prod.mk.inj h8
  exact .stop _ _ _ hr (by simp)
 | j+1,i,k,hi,h0,h1,ex,d,h=>by
  have hM:maxI=9223372036854775807:=rfl
  have hlt:i<l.length:=by omega
  have hr:=I2 l k i
  rw [Ag (dcT (by omega)),Aa (by simp only [anE,dcE]; omega),ntN,gtE hlt,Am,Aq (n:=i) (by omega)] at hr
  have ho1:=ho _ (getElem_mem hlt)
  have e:D1 (l.drop i)=wTy l[i]+D1 (l.drop (i+1)):=by
   unfold D1
   rw [drop_eq_getElem_cons hlt,map_cons,sum_cons]
  generalize l[i]=z at hr ho1 e
  obtain ⟨a,b,c,d_,e_,f,⟨⟩⟩:=z
  dsimp only at hr
  rw [Aa (by rw [anE]; exact ⟨dcT ⟨h0,h1⟩,ho1⟩)] at hr
  generalize wTy _=w at hr e
  by_cases q:k-(w:Int)<0
  ·rw [Ag (dcT q)] at hr
   rw [L3 (dcT (by rw [e]; push_cast; omega))] at h
   have h8:=Ao h
   obtain ⟨rfl,rfl⟩:=Prod.mk.inj h8
   exact .stop _ _ _ hr (by simp)
  ·rw [Ac (dcF q),Ac (dcF q)] at hr
   have e2:k-(D1 (l.drop i):Int)=k-(w:Int)-(D1 (l.drop (i+1)):Int):=by rw [e]; push_cast; omega
   rw [e2] at h
   exact .step _ _ _ _ hr (J6 l hl ho j (i+1) (k-(w:Int)) (by omega) (by omega) (by omega) ex d h)
theorem HQ {l:List Ty} (h:Gn l=true):l.length<=maxI/\∀ z∈l,OD z=true:=by
 unfold Gn at h
 rw [anE,dcE] at h
 exact ⟨h.1,all_eq_true.1 h.2⟩
theorem SH:Af prog 155 (Ent.rd1 Qs).F:=by
 refine Ae (kc func198 UF KnowsL.nil).knows (Λ:=(Ab [(5,Fe)])) func155 (c:=f155.body.getD .skip) (by kernel_rfl) fun vs bs r hq hv hb=>?_
 unfold Ent.F Qs at hq
 dsimp only at hq
 split at hq
 ·rename_i l k
  obtain ⟨hc,hx⟩:=Ad hq
  rw [anE,dcE] at hc
  obtain ⟨⟨h0,h1⟩,h2⟩:=hc
  obtain ⟨h3,h4⟩:=HQ h2
  have hM:maxI=9223372036854775807:=rfl
  have hok:At prog (Ab [(198,.rd1 LF)]) (Ab [(5,Fe)]) 0 (f155.body.getD .skip):=by
   refine An (a:=body f155 0) (by kernel_rfl) fun d ex d' h=>?_
   unfold Fe at h
   dsimp only at h
   split at h
   ·rename_i l k i
    obtain ⟨hc,hx⟩:=Ad h
    rw [anE,dcE] at hc
    obtain ⟨⟨a0,a1,a2,a3⟩,a4⟩:=hc
    obtain ⟨b1,b2⟩:=HQ a4
    obtain ⟨i,rfl⟩:=eq_ofNat_of_zero_le a0
    simp only [ntN] at a1 hx
    exact J6 l b1 b2 (l.length-i) i k (by omega) a2 a3 ex d' hx
   ·cases h
  refine ⟨hok,(Qr l k).trans (Eq.trans ?_ hx)⟩
  show _=(szA k (Lj l)).run
  have hw:i64.wrap (k-(l.length:Int))=k-(l.length:Int):=Ax (by omega) (by omega)
  unfold Lj
  rw [hw,drop_zero]
  by_cases q:k-(l.length:Int)<0
  ·rw [Ag (dcT q),Gk (by push_cast; omega)]
  ·rw [Ac (dcF q),Aa (by rw [anE]; exact ⟨dcT (by omega),h2⟩)]
   have e:k-(l.length:Int)-(D1 l:Int)=k-((l.length+D1 l:Nat):Int):=by push_cast; omega
   rw [e]
   by_cases q2:k-((l.length+D1 l:Nat):Int)<0
   ·rw [Ag (dcT q2),Gk q2]
   ·rw [Ac (dcF q2),J8 q2]
 ·cases hq
def MP (z:List Ty×Unit):Nat:=Lj z.1
def LS (z:List Ty×Unit):Bool:=Gn z.1
def Qw:Gm
 | [.agg [.sl TCd l],.i .i64 k],[]=>.need (decide (0<=k/\k<=1048576)&&LS (l,())) (szA k (MP (l,())))
 | _,_=>.no
def wTp (z:Tp):Nat:=z.1.length+MP z.2.1
def Nz (z:Tp):Bool:=decide (z.1.length<=maxI)&&LS z.2.1
def LG:Gm
 | [.agg [.s a,.sl TCd l,.i .i64 c],.i .i64 k],[]=>.need (decide (0<=k/\k<=1048576)&&Nz (a,(l,()),c,())) (szA k (wTp (a,(l,()),c,())))
 | _,_=>.no
def Cm (l:List Tp):Nat:=(l.map wTp).sum
def Qc (l:List Tp):Nat:=l.length+Cm l
def Hh (l:List Tp):Bool:=decide (l.length<=maxI)&&l.all Nz
def Ff:LoopEnt:=⟨27,[0,1,5],[1],[4],fun
 | ([.sl TPd l,.i .i64 k,.i .i64 i],[])=>.need (decide (0<=i/\i.toNat<=l.length/\0<=k/\k<=1048576)&&Hh l) (.br (decide (k-(Cm (l.drop i.toNat):Int)<0)) (.leaf (.ret,([.i .i64 (-1)],[]))) (.leaf (.exit 0,([.i .i64 (k-(Cm (l.drop i.toNat):Int))],[]))))
 | _=>.no⟩
def Qu:Gm
 | [.sl TPd l,.i .i64 k],[]=>.need (decide (0<=k/\k<=1048576)&&Hh l) (szA k (Qc l))
 | _,_=>.no
theorem Zt {k:Int} {w:Nat} {ok:Bool} (hok:ok=true) (h0:0<=k) (h1:k<=1048576):ifT (decide (0<=k/\k<=1048576)&&ok) (ifB (decide (k-(w:Int)<0)) (some (V.j (-1),([]:List (Option Blk)))) (ifB (decide (k-(w:Int)<0)) (some (V.j (-1),[])) (some (V.j (k-(w:Int)),[]))))=(szA k w).run:=by
 rw [Aa (by rw [anE]; exact ⟨dcT ⟨h0,h1⟩,hok⟩)]
 by_cases q:k-(w:Int)<0
 ·rw [Ag (dcT q),Gk q]
 ·rw [Ac (dcF q),Ac (dcF q),J8 q]
theorem Xm {k:Int} {w r:Nat} (_ : ¬k-(w:Int)<0):(szA (k-(w:Int)) r).run=(szA k (w+r)).run:=by
 have e:k-(w:Int)-(r:Int)=k-((w+r:Nat):Int):=by push_cast; omega
 by_cases q2:k-(w:Int)-(r:Int)<0
 ·rw [Gk q2,Gk (by omega)]
 ·rw [J8 q2,J8 (by omega),e]
theorem Abc {k:Int} {w r:Nat} {X:Option (V×List (Option Blk))} (hX : ¬k-(w:Int)<0->X=(szA (k-(w:Int)) r).run):ifB (decide (k-(w:Int)<0)) (some (V.j (-1),([]:List (Option Blk)))) X=(szA k (w+r)).run:=by
 by_cases q:k-(w:Int)<0
 ·rw [Ag (dcT q),Gk (by push_cast; omega)]
 ·rw [Ac (dcF q),hX q,Xm q]
theorem Qv (l:List Ty) (k:Int):Ay prog (Ab [(155,.rd1 Qs)]) (Ab []) f106 [.agg [.sl TCd l],.j k] [] =
 ((ifT (decide ((0:Int)<=k/\k<=(1048576:Int))&&Gn l) (ifB (decide (k-(↑(Lj l):Int)<(0:Int))) (some (V.j (-1),[])) (ifB (decide (k-(↑(Lj l) :
 Int)<(0:Int))) (some (V.j (-1),[])) (some (V.j (k-(↑(Lj l):Int)),[]))))):_):=by kernel_rfl
theorem SL:Af prog 106 (Ent.rd1 Qw).F:=by
 refine Ae (kc func155 SH KnowsL.nil).knows (Λ:=Ab []) func106 (c:=f106.body.getD .skip) (by kernel_rfl) fun vs_ bs_ r_ hq_ hv_ hb_=>?_
 unfold Ent.F Qw at hq_
 dsimp only at hq_
 split at hq_
 ·rename_i l k
  obtain ⟨hc,hx⟩:=Ad hq_
  rw [anE,dcE] at hc
  obtain ⟨⟨h0,h1⟩,h2⟩:=hc
  unfold LS at h2
  dsimp only at h2
  have hM:maxI=9223372036854775807:=rfl
  refine ⟨Al _,(Qv l k).trans (Eq.trans ?_ hx)⟩
  show _=(szA k (MP (l,()))).run
  unfold MP
  dsimp only
  rw [Aa (by rw [anE]; exact ⟨dcT ⟨h0,h1⟩,h2⟩)]
  by_cases q:k-(Lj l:Int)<0
  ·rw [Ag (dcT q),Gk q]
  ·rw [Ac (dcF q),Ac (dcF q),J8 q]
 ·cases hq_
theorem SK (a:List UInt8) (l:List Ty) (c:Int) (k:Int):Ay prog (Ab [(106,.rd1 Qw)]) (Ab []) f50 [.agg [.s a,.sl TCd l,.j c],.j k] [] =
 ((ifB (decide (i64.wrap (k-(↑a.length:Int))<(0:Int))) (some (V.j (-1),[])) (ifT (decide ((0:Int)<=i64.wrap (k-(↑a.length:Int))/\
 i64.wrap (k-(↑a.length:Int))<=(1048576:Int))&&LS (l,())) (ifB (decide (i64.wrap (k-(↑a.length:Int))-(↑(MP (l,())):Int)<(0 :
 Int))) (some (V.j (-1),[])) (ifB (decide (i64.wrap (k-(↑a.length:Int))-(↑(MP (l,())):Int)<(0:Int))) (some (V.j (-1),[])) (some (V.i
 .i64 (i64.wrap (k-(↑a.length:Int))-(↑(MP (l,())):Int)),[])))))):_):=by kernel_rfl
theorem UG:Af prog 50 (Ent.rd1 LG).F:=by
 refine Ae (kc func106 SL KnowsL.nil).knows (Λ:=Ab []) func50 (c:=f50.body.getD .skip) (by kernel_rfl) fun vs_ bs_ r_ hq_ hv_ hb_=>?_
 unfold Ent.F LG at hq_
 dsimp only at hq_
 split at hq_
 ·rename_i a l c k
  obtain ⟨hc,hx⟩:=Ad hq_
  rw [anE,dcE] at hc
  obtain ⟨⟨h0,h1⟩,h2⟩:=hc
  unfold Nz at h2
  dsimp only at h2
  have hM:maxI=9223372036854775807:=rfl
  refine ⟨Al _,(SK a l c k).trans (Eq.trans ?_ hx)⟩
  show _=(szA k (wTp (a,(l,()),c,()))).run
  unfold wTp
  dsimp only
  rw [anE,dcE] at h2
  obtain ⟨h3,h4⟩:=h2
  have hw:i64.wrap (k-(a.length:Int))=k-(a.length:Int):=Ax (by omega) (by omega)
  rw [hw]
  exact Abc fun q=>Zt h4 (by omega) (by omega)
 ·cases hq_
theorem I3 (l:List Tp) (k i:Int):Av prog (Ab [(50,.rd1 LG)]) (Ab [(5,Ff)]) 0 (body f19 0) Ff ([.sl TPd l,.j k,.j i],[]) =
 ((ifB (decide (i<(↑l.length:Int))) (ifT (decide ((0:Int)<=i)&&decide (i<(↑l.length:Int))) (Aj l[i.toNat]? fun z=>ifT (decide ((0:Int)<=k/\k<=(1048576
 : Int))&&Nz (z.fst,(z.snd.fst.fst,()),z.snd.snd.fst,())) (ifB (decide (k-(↑(wTp (z.fst,(z.snd.fst.fst,()),z.snd.snd.fst,())):Int)<(0:Int))) (some
 (Ex.ret,[V.j (-1)],[])) (ifB (decide (k-(↑(wTp (z.fst,(z.snd.fst.fst,()),z.snd.snd.fst,())):Int)<(0:Int))) (some (Ex.ret,[V.j (-1)],[])) (some
 (Ex.normal,[V.sl TPd l,V.j (k-(↑(wTp (z.fst,(z.snd.fst.fst,()),z.snd.snd.fst,())):Int)),V.j (i64.wrap (i+(1:Int)))],[])))))) (some
 (Ex.exit 0,[V.j k],[]))):_):=by kernel_rfl
theorem Qt (l:List Tp) (k:Int):Ay prog (Ab [(50,.rd1 LG)]) (Ab [(5,Ff)]) f19 [.sl TPd l,.j k] [] =
 ((ifB (decide (i64.wrap (k-(↑l.length:Int))<(0:Int))) (some (V.j (-1),[])) (ifT (decide ((0:Int)<=(0:Int)/\0<=l.length/\(0:Int)<=
 i64.wrap (k-(↑l.length:Int))/\i64.wrap (k-(↑l.length:Int))<=(1048576:Int))&&Hh l) (ifB (decide (i64.wrap (k-(↑l.length:Int))
 - (↑(Cm (drop 0 l)):Int)<(0:Int))) (some (V.j (-1),[])) (some (V.j (i64.wrap (k-(↑l.length:Int))-(↑(Cm (drop (0 :
 Nat) l)):Int)),[]))))):_):=by kernel_rfl
theorem J7 (l:List Tp) (hl:l.length<=maxI) (ho : ∀ z∈l,Nz z=true) : ∀ (j i:Nat) (k:Int),i+j=l.length->0<=k->k<=1048576->∀ ex d,(Br.br (decide (k-(Cm (l.drop i):Int)<0)) (.leaf (.ret,([.j (-1)],[]))) (.leaf (.exit 0,([.j (k-(Cm (l.drop i):Int))],[]))):Br (Ex×Dt)).run=some (ex,d)->Runs prog (Ab [(50,.rd1 LG)]) (Ab [(5,Ff)]) 0 (body f19 0) Ff ([.sl TPd l,.j k,.j (i:Int)],[]) ex d
 | 0,i,k,hi,h0,h1,ex,d,h=>by
  have hr:=I3 l k i
  rw [Ac (dcF (by omega))] at hr
  have e0:(Cm (l.drop i):Int)=0:=by rw [drop_eq_nil_of_le (by omega)]; rfl
  rw [e0,Int.sub_zero,NW (dcF (by omega))] at h
  have h8:=Ao h
  obtain ⟨rfl,rfl⟩:=Prod.mk.inj h8
  exact .stop _ _ _ hr (by simp)
 | j+1,i,k,hi,h0,h1,ex,d,h=>by
  have hM:maxI=9223372036854775807:=rfl
  have hlt:i<l.length:=by omega
  have hr:=I3 l k i
  rw [Ag (dcT (by omega)),Aa (by simp only [anE,dcE]; omega),ntN,gtE hlt,Am,Aq (n:=i) (by omega)] at hr
  have ho1:=ho _ (getElem_mem hlt)
  have e:Cm (l.drop i)=wTp l[i]+Cm (l.drop (i+1)):=by
   unfold Cm
   rw [drop_eq_getElem_cons hlt,map_cons,sum_cons]
  generalize l[i]=z at hr ho1 e
  obtain ⟨a,⟨l_,⟨⟩⟩,c,⟨⟩⟩:=z
  dsimp only at hr
  rw [Aa (by rw [anE]; exact ⟨dcT ⟨h0,h1⟩,ho1⟩)] at hr
  generalize wTp _=w at hr e
  by_cases q:k-(w:Int)<0
  ·rw [Ag (dcT q)] at hr
   rw [L3 (dcT (by rw [e]; push_cast; omega))] at h
   have h8:=Ao h
   obtain ⟨rfl,rfl⟩:=Prod.mk.inj h8
   exact .stop _ _ _ hr (by simp)
  ·rw [Ac (dcF q),Ac (dcF q)] at hr
   have e2:k-(Cm (l.drop i):Int)=k-(w:Int)-(Cm (l.drop (i+1)):Int):=by rw [e]; push_cast; omega
   rw [e2] at h
   exact .step _ _ _ _ hr (J7 l hl ho j (i+1) (k-(w:Int)) (by omega) (by omega) (by omega) ex d h)
theorem HR {l:List Tp} (h:Hh l=true):l.length<=maxI/\∀ z∈l,Nz z=true:=by
 unfold Hh at h
 rw [anE,dcE] at h
 exact ⟨h.1,all_eq_true.1 h.2⟩
theorem SJ:Af prog 19 (Ent.rd1 Qu).F:=by
 refine Ae (kc func50 UG KnowsL.nil).knows (Λ:=(Ab [(5,Ff)])) func19 (c:=f19.body.getD .skip) (by kernel_rfl) fun vs bs r hq hv hb=>?_
 unfold Ent.F Qu at hq
 dsimp only at hq
 split at hq
 ·rename_i l k
  obtain ⟨hc,hx⟩:=Ad hq
  rw [anE,dcE] at hc
  obtain ⟨⟨h0,h1⟩,h2⟩:=hc
  obtain ⟨h3,h4⟩:=HR h2
  have hM:maxI=9223372036854775807:=rfl
  have hok:At prog (Ab [(50,.rd1 LG)]) (Ab [(5,Ff)]) 0 (f19.body.getD .skip):=by
   refine An (a:=body f19 0) (by kernel_rfl) fun d ex d' h=>?_
   unfold Ff at h
   dsimp only at h
   split at h
   ·rename_i l k i
    obtain ⟨hc,hx⟩:=Ad h
    rw [anE,dcE] at hc
    obtain ⟨⟨a0,a1,a2,a3⟩,a4⟩:=hc
    obtain ⟨b1,b2⟩:=HR a4
    obtain ⟨i,rfl⟩:=eq_ofNat_of_zero_le a0
    simp only [ntN] at a1 hx
    exact J7 l b1 b2 (l.length-i) i k (by omega) a2 a3 ex d' hx
   ·cases h
  refine ⟨hok,(Qt l k).trans (Eq.trans ?_ hx)⟩
  show _=(szA k (Qc l)).run
  have hw:i64.wrap (k-(l.length:Int))=k-(l.length:Int):=Ax (by omega) (by omega)
  unfold Qc
  rw [hw,drop_zero]
  by_cases q:k-(l.length:Int)<0
  ·rw [Ag (dcT q),Gk (by push_cast; omega)]
  ·rw [Ac (dcF q),Aa (by rw [anE]; exact ⟨dcT (by omega),h2⟩)]
   have e:k-(l.length:Int)-(Cm l:Int)=k-((l.length+Cm l:Nat):Int):=by push_cast; omega
   rw [e]
   by_cases q2:k-((l.length+Cm l:Nat):Int)<0
   ·rw [Ag (dcT q2),Gk q2]
   ·rw [Ac (dcF q2),J8 q2]
 ·cases hq
def eqL {α:Type} (f:α->α->Bool):List α->List α->Bool
 | [],[]=>true
 | x::l,y::q=>f x y&&eqL f l q
 | _,_=>false
def Gh (x y:Nt):Bool:=x.1==y.1&&(x.2.1==y.2.1&&x.2.2.1==y.2.2.1)
def M9:Gm
 | [.agg [.s a0,.i .i64 a1,.s a2],.agg [.s b0,.i .i64 b1,.s b2]],[]=>.leaf (.b (Gh (a0,a1,a2,()) (b0,b1,b2,())),[])
 | _,_=>.no
def Gg (x y:Ty):Bool:=x.1==y.1&&(x.2.1==y.2.1&&(x.2.2.1==y.2.2.1&&(x.2.2.2.1==y.2.2.2.1&&(x.2.2.2.2.1==y.2.2.2.2.1&&x.2.2.2.2.2.1==y.2.2.2.2.2.1))))
def M4:Gm
 | [.agg [.i .i64 a0,.s a1,.i .i64 a2,.b a3,.i .i64 a4,.i .i64 a5],.agg [.i .i64 b0,.s b1,.i .i64 b2,.b b3,.i .i64 b4,.i .i64 b5]],[]=>.leaf (.b (Gg (a0,a1,a2,a3,a4,a5,()) (b0,b1,b2,b3,b4,b5,())),[])
 | _,_=>.no
def Gf (x y:Wt):Bool:=x.1==y.1&&(x.2.1==y.2.1&&(x.2.2.1==y.2.2.1&&(x.2.2.2.1==y.2.2.2.1&&(x.2.2.2.2.1==y.2.2.2.2.1&&x.2.2.2.2.2.1==y.2.2.2.2.2.1))))
def M2:Gm
 | [.agg [.i .i64 a0,.i .i64 a1,.i .i64 a2,.s a3,.i .i64 a4,.i .i64 a5],.agg [.i .i64 b0,.i .i64 b1,.i .i64 b2,.s b3,.i .i64 b4,.i .i64 b5]],[]=>.leaf (.b (Gf (a0,a1,a2,a3,a4,a5,()) (b0,b1,b2,b3,b4,b5,())),[])
 | _,_=>.no
def FA:LoopEnt:=⟨27,[0,1,5],[],[4],fun
 | ([.sl NTd l,.sl NTd q,.i .i64 i],[])=>.need (decide (0<=i/\i.toNat<=l.length/\l.length=q.length/\l.length<=maxI)) (.br (eqL Gh (l.drop i.toNat) (q.drop i.toNat)) (.leaf (.exit 0,([],[]))) (.leaf (.ret,([.b false],[]))))
 | _=>.no⟩
def R7:Gm
 | [.sl NTd l,.sl NTd q],[]=>.need (decide (l.length<=maxI)) (.leaf (.b (eqL Gh l q),[]))
 | _,_=>.no
def F7:LoopEnt:=⟨27,[0,1,5],[],[4],fun
 | ([.sl TCd l,.sl TCd q,.i .i64 i],[])=>.need (decide (0<=i/\i.toNat<=l.length/\l.length=q.length/\l.length<=maxI)) (.br (eqL Gg (l.drop i.toNat) (q.drop i.toNat)) (.leaf (.exit 0,([],[]))) (.leaf (.ret,([.b false],[]))))
 | _=>.no⟩
def R3:Gm
 | [.sl TCd l,.sl TCd q],[]=>.need (decide (l.length<=maxI)) (.leaf (.b (eqL Gg l q),[]))
 | _,_=>.no
def F6:LoopEnt:=⟨27,[0,1,5],[],[4],fun
 | ([.sl WCd l,.sl WCd q,.i .i64 i],[])=>.need (decide (0<=i/\i.toNat<=l.length/\l.length=q.length/\l.length<=maxI)) (.br (eqL Gf (l.drop i.toNat) (q.drop i.toNat)) (.leaf (.exit 0,([],[]))) (.leaf (.ret,([.b false],[]))))
 | _=>.no⟩
def Rz:Gm
 | [.sl WCd l,.sl WCd q],[]=>.need (decide (l.length<=maxI)) (.leaf (.b (eqL Gf l q),[]))
 | _,_=>.no

theorem Io {α:Type} {f:α->α->Bool} : ∀ {l q:List α},l.length≠q.length->eqL f l q=false
 | [],[],h=>absurd rfl h
 | [],_::_,_=>rfl
 | _::_,[],_=>rfl
 | x::l,y::q,h=>by
  have:l.length≠q.length:=fun e=>h (by simp [e])
  rw [eqL,Io this,Bool.and_false]
theorem Dw {α:Type} {f:α->α->Bool} : ∀ {l:List α},(∀ x∈l,f x x=true)->eqL f l l=true
 | [],_=>rfl
 | x::l,h=>by rw [eqL,h x (by simp),Dw (fun y hy=>h y (by simp [hy]))]; rfl
theorem TS (a0:List UInt8) (a1:Int) (a2:List UInt8) (b0:List UInt8) (b1:Int) (b2:List UInt8):Ay prog (Ab []) (Ab []) f18 [.agg [.s a0,.j a1,.s a2],.agg [.s b0,.j b1,.s b2]] [] =
 ((ifB (!a0==b0) (some (V.b false,[])) (ifB (a1 != b1) (some (V.b false,[])) (ifB (!a2==b2) (some (V.b false,[])) (some (V.b true,[]))))):_):=by kernel_rfl
theorem WB:Af prog 18 (Ent.rd1 M9).F:=by
 refine Ae KnowsL.nil.knows (Λ:=Ab []) func18 (c:=f18.body.getD .skip) (by kernel_rfl) fun vs bs r hq hv hb=>?_
 unfold Ent.F M9 at hq
 dsimp only at hq
 split at hq
 ·rename_i a0 a1 a2 b0 b1 b2
  refine ⟨Al _,(TS a0 a1 a2 b0 b1 b2).trans (Eq.trans ?_ hq)⟩
  show _=some _
  unfold Gh bne
  dsimp only
  cases a0==b0<;>cases a1==b1<;>cases a2==b2<;>rfl
 ·cases hq
theorem TP (a0:Int) (a1:List UInt8) (a2:Int) (a3:Bool) (a4 a5:Int) (b0:Int) (b1:List UInt8) (b2:Int) (b3:Bool) (b4 b5:Int):Ay prog (Ab []) (Ab []) f159 [.agg [.j a0,.s a1,.j a2,.b a3,.j a4,.j a5],.agg [.j b0,.s b1,.j b2,.b b3,.j b4,.j b5]] [] =
 ((ifB (a0 != b0) (some (V.b false,[])) (ifB (!a1==b1) (some (V.b false,[])) (ifB (a2 != b2) (some (V.b false,[])) (ifB (!a3==b3) (some (V.b false,[])) (ifB (a4 !=
 b4) (some (V.b false,[])) (ifB (a5 != b5) (some (V.b false,[])) (some (V.b true,[])))))))):_):=by kernel_rfl
theorem W9:Af prog 159 (Ent.rd1 M4).F:=by
 refine Ae KnowsL.nil.knows (Λ:=Ab []) func159 (c:=f159.body.getD .skip) (by kernel_rfl) fun vs bs r hq hv hb=>?_
 unfold Ent.F M4 at hq
 dsimp only at hq
 split at hq
 ·rename_i a0 a1 a2 a3 a4 a5 b0 b1 b2 b3 b4 b5
  refine ⟨Al _,(TP a0 a1 a2 a3 a4 a5 b0 b1 b2 b3 b4 b5).trans (Eq.trans ?_ hq)⟩
  show _=some _
  unfold Gg bne
  dsimp only
  cases a0==b0<;>cases a1==b1<;>cases a2==b2<;>cases a3==b3<;>cases a4==b4<;>cases a5==b5<;>rfl
 ·cases hq
theorem TM (a0 a1 a2:Int) (a3:List UInt8) (a4 a5:Int) (b0 b1 b2:Int) (b3:List UInt8) (b4 b5:Int):Ay prog (Ab []) (Ab []) f158 [.agg [.j a0,.j a1,.j a2,.s a3,.j a4,.j a5],.agg [.j b0,.j b1,.j b2,.s b3,.j b4,.j b5]] [] =
 ((ifB (a0 != b0) (some (V.b false,[])) (ifB (a1 != b1) (some (V.b false,[])) (ifB (a2 != b2) (some (V.b false,[])) (ifB (!a3==b3) (some (V.b false,[])) (ifB (a4 != b4)
 (some (V.b false,[])) (ifB (a5 != b5) (some (V.b false,[])) (some (V.b true,[])))))))):_):=by kernel_rfl
theorem W8:Af prog 158 (Ent.rd1 M2).F:=by
 refine Ae KnowsL.nil.knows (Λ:=Ab []) func158 (c:=f158.body.getD .skip) (by kernel_rfl) fun vs bs r hq hv hb=>?_
 unfold Ent.F M2 at hq
 dsimp only at hq
 split at hq
 ·rename_i a0 a1 a2 a3 a4 a5 b0 b1 b2 b3 b4 b5
  refine ⟨Al _,(TM a0 a1 a2 a3 a4 a5 b0 b1 b2 b3 b4 b5).trans (Eq.trans ?_ hq)⟩
  show _=some _
  unfold Gf bne
  dsimp only
  cases a0==b0<;>cases a1==b1<;>cases a2==b2<;>cases a3==b3<;>cases a4==b4<;>cases a5==b5<;>rfl
 ·cases hq
theorem IS (l q:List Nt) (i:Int):Av prog (Ab [(18,.rd1 M9)]) (Ab [(4,FA)]) 0 (body f66 0) FA ([.sl NTd l,.sl NTd q,.j i],[]) =
 ((ifB (decide (i<(↑l.length:Int))) (ifT (decide ((0:Int)<=i)&&decide (i<(↑l.length:Int))) (Aj l[i.toNat]? fun z=>ifT (decide ((0:Int)<=i)&&decide (i
 < (↑q.length:Int))) (Aj q[i.toNat]? fun z_1=>ifB (!Gh (z.fst,z.snd.fst,z.snd.snd.fst,()) (z_1.fst,z_1.snd.fst,z_1.snd.snd.fst,())) (some (Ex.ret,[V.b
 false],[])) (some (Ex.normal,[V.sl NTd l,V.sl NTd q,V.j (i64.wrap (i+(1:Int)))],[]))))) (some (Ex.exit 0,[],[]))):_):=by kernel_rfl
theorem R6 (l q:List Nt):Ay prog (Ab [(18,.rd1 M9)]) (Ab [(4,FA)]) f66 [.sl NTd l,.sl NTd q] [] =
 ((ifB ((↑l.length:Int) != (↑q.length:Int)) (some (V.b false,[])) (ifT (decide ((0:Int)<=(0:Int)/\0<=l.length/\l.length=q.length/\l.length<=maxI))
 (ifB (eqL Gh (drop 0 l) (drop 0 q)) (some (V.b true,[])) (some (V.b false,[]))))):_):=by kernel_rfl
theorem KN (l q:List Nt) (hl:l.length<=maxI) (hq:l.length=q.length) : ∀ (j i:Nat),i+j=l.length->∀ ex d,(Br.br (eqL Gh (l.drop i) (q.drop i)) (.leaf (.exit 0,([],[]))) (.leaf (.ret,([.b false],[]))):Br (Ex×Dt)).run=some (ex,d)->Runs prog (Ab [(18,.rd1 M9)]) (Ab [(4,FA)]) 0 (body f66 0) FA ([.sl NTd l,.sl NTd q,.j (i:Int)],[]) ex d
 | 0,i,hi,ex,d,h=>by
  have hr:=IS l q i
  rw [Ac (dcF (by omega))] at hr
  rw [drop_eq_nil_of_le (by omega),drop_eq_nil_of_le (by omega),eqL] at h
  have h8:=Ao h
  obtain ⟨rfl,rfl⟩:=Prod.mk.inj h8
  exact .stop _ _ _ hr (by simp)
 | j+1,i,hi,ex,d,h=>by
  have hM:maxI=9223372036854775807:=rfl
  have hlt:i<l.length:=by omega
  have hlq:i<q.length:=by omega
  have hr:=IS l q i
  rw [Ag (dcT (by omega)),Aa (by simp only [anE,dcE]; omega),ntN,gtE hlt,Am,Aa (by simp only [anE,dcE]; omega),gtE hlq,Am,Aq (n:=i) (by omega)] at hr
  rw [drop_eq_getElem_cons hlt,drop_eq_getElem_cons hlq,eqL] at h
  have e : ∀ x y:Nt,Gh (x.1,x.2.1,x.2.2.1,()) (y.1,y.2.1,y.2.2.1,())=Gh x y:=fun x y=>rfl
  rw [e] at hr
  cases h1:Gh l[i] q[i] with
  | false=>
   rw [h1] at hr h
   have h8:=Ao h
   obtain ⟨rfl,rfl⟩:=Prod.mk.inj h8
   exact .stop _ _ _ hr (by simp)
  | true=>
   rw [h1] at hr h
   exact .step _ _ _ _ hr (KN l q hl hq j (i+1) (by omega) ex d h)
theorem TR:Af prog 66 (Ent.rd1 R7).F:=by
 refine Ae (kc func18 WB KnowsL.nil).knows (Λ:=(Ab [(4,FA)])) func66 (c:=f66.body.getD .skip) (by kernel_rfl) fun vs bs r hq hv hb=>?_
 unfold Ent.F R7 at hq
 dsimp only at hq
 split at hq
 ·rename_i l q
  obtain ⟨hc,hx⟩:=Ad hq
  have hc:=of_decide_eq_true hc
  have hok:At prog (Ab [(18,.rd1 M9)]) (Ab [(4,FA)]) 0 (f66.body.getD .skip):=by
   refine An (a:=body f66 0) (by kernel_rfl) fun d ex d' h=>?_
   unfold FA at h
   dsimp only at h
   split at h
   ·rename_i l q i
    obtain ⟨hc,hx⟩:=Ad h
    obtain ⟨a0,a1,a2,a3⟩:=of_decide_eq_true hc
    obtain ⟨i,rfl⟩:=eq_ofNat_of_zero_le a0
    simp only [ntN] at a1 hx
    exact KN l q a3 a2 (l.length-i) i (by omega) ex d' hx
   ·cases h
  refine ⟨hok,(R6 l q).trans (Eq.trans ?_ hx)⟩
  show _=some _
  by_cases h:l.length=q.length
  ·have h2:((l.length:Int) != (q.length:Int))=false:=bne_eq_false_iff_eq.2 (by omega)
   rw [h2,AV,Aa (dcT ⟨by omega,by omega,h,hc⟩),drop_zero,drop_zero]
   cases eqL Gh l q<;>rfl
  ·have h2:((l.length:Int) != (q.length:Int))=true:=bne_iff_ne.2 (by omega)
   rw [h2,Io h]
   rfl
 ·cases hq
theorem IQ (l q:List Ty) (i:Int):Av prog (Ab [(159,.rd1 M4)]) (Ab [(4,F7)]) 0 (body f117 0) F7 ([.sl TCd l,.sl TCd q,.j i],[]) =
 ((ifB (decide (i<(↑l.length:Int))) (ifT (decide ((0:Int)<=i)&&decide (i<(↑l.length:Int))) (Aj l[i.toNat]? fun z=>ifT (decide ((0:Int)<=i)&&decide (i
 < (↑q.length:Int))) (Aj q[i.toNat]? fun z_1=>ifB (!Gg (z.fst,z.snd.fst,z.snd.snd.fst,z.snd.snd.snd.fst,z.snd.snd.snd.snd.fst,z.snd.snd.snd.snd.snd.fst,())
 (z_1.fst,z_1.snd.fst,z_1.snd.snd.fst,z_1.snd.snd.snd.fst,z_1.snd.snd.snd.snd.fst,z_1.snd.snd.snd.snd.snd.fst,())) (some (Ex.ret,[V.b false],[])) (some (Ex.normal,
 [V.sl TCd l,V.sl TCd q,V.j (i64.wrap (i+(1:Int)))],[]))))) (some (Ex.exit 0,[],[]))):_):=by kernel_rfl
theorem R2 (l q:List Ty):Ay prog (Ab [(159,.rd1 M4)]) (Ab [(4,F7)]) f117 [.sl TCd l,.sl TCd q] [] =
 ((ifB ((↑l.length:Int) != (↑q.length:Int)) (some (V.b false,[])) (ifT (decide ((0:Int)<=(0:Int)/\0<=l.length/\l.length=q.length/\l.length<=maxI))
 (ifB (eqL Gg (drop 0 l) (drop 0 q)) (some (V.b true,[])) (some (V.b false,[]))))):_):=by kernel_rfl
theorem KL (l q:List Ty) (hl:l.length<=maxI) (hq:l.length=q.length) : ∀ (j i:Nat),i+j=l.length->∀ ex d,(Br.br (eqL Gg (l.drop i) (q.drop i)) (.leaf (.exit 0,([],[]))) (.leaf (.ret,([.b false],[]))):Br (Ex×Dt)).run=some (ex,d)->Runs prog (Ab [(159,.rd1 M4)]) (Ab [(4,F7)]) 0 (body f117 0) F7 ([.sl TCd l,.sl TCd q,.j (i:Int)],[]) ex d
 | 0,i,hi,ex,d,h=>by
  have hr:=IQ l q i
  rw [Ac (dcF (by omega))] at hr
  rw [drop_eq_nil_of_le (by omega),drop_eq_nil_of_le (by omega),eqL] at h
  have h8:=Ao h
  obtain ⟨rfl,rfl⟩:=Prod.mk.inj h8
  exact .stop _ _ _ hr (by simp)
 | j+1,i,hi,ex,d,h=>by
  have hM:maxI=9223372036854775807:=rfl
  have hlt:i<l.length:=by omega
  have hlq:i<q.length:=by omega
  have hr:=IQ l q i
  rw [Ag (dcT (by omega)),Aa (by simp only [anE,dcE]; omega),ntN,gtE hlt,Am,Aa (by simp only [anE,dcE]; omega),gtE hlq,Am,Aq (n:=i) (by omega)] at hr
  rw [drop_eq_getElem_cons hlt,drop_eq_getElem_cons hlq,eqL] at h
  have e : ∀ x y:Ty,Gg (x.1,x.2.1,x.2.2.1,x.2.2.2.1,x.2.2.2.2.1,x.2.2.2.2.2.1,()) (y.1,y.2.1,y.2.2.1,y.2.2.2.1,y.2.2.2.2.1,y.2.2.2.2.2.1,())=Gg x y:=fun x y=>rfl
  rw [e] at hr
  cases h1:Gg l[i] q[i] with
  | false=>
   rw [h1] at hr h
   have h8:=Ao h
   obtain ⟨rfl,rfl⟩:=Prod.mk.inj h8
   exact .stop _ _ _ hr (by simp)
  | true=>
   rw [h1] at hr h
   exact .step _ _ _ _ hr (KL l q hl hq j (i+1) (by omega) ex d h)
theorem TO:Af prog 117 (Ent.rd1 R3).F:=by
 refine Ae (kc func159 W9 KnowsL.nil).knows (Λ:=(Ab [(4,F7)])) func117 (c:=f117.body.getD .skip) (by kernel_rfl) fun vs bs r hq hv hb=>?_
 unfold Ent.F R3 at hq
 dsimp only at hq
 split at hq
 ·rename_i l q
  obtain ⟨hc,hx⟩:=Ad hq
  have hc:=of_decide_eq_true hc
  have hok:At prog (Ab [(159,.rd1 M4)]) (Ab [(4,F7)]) 0 (f117.body.getD .skip):=by
   refine An (a:=body f117 0) (by kernel_rfl) fun d ex d' h=>?_
   unfold F7 at h
   dsimp only at h
   split at h
   ·rename_i l q i
    obtain ⟨hc,hx⟩:=Ad h
    obtain ⟨a0,a1,a2,a3⟩:=of_decide_eq_true hc
    obtain ⟨i,rfl⟩:=eq_ofNat_of_zero_le a0
    simp only [ntN] at a1 hx
    exact KL l q a3 a2 (l.length-i) i (by omega) ex d' hx
   ·cases h
  refine ⟨hok,(R2 l q).trans (Eq.trans ?_ hx)⟩
  show _=some _
  by_cases h:l.length=q.length
  ·have h2:((l.length:Int) != (q.length:Int))=false:=bne_eq_false_iff_eq.2 (by omega)
   rw [h2,AV,Aa (dcT ⟨by omega,by omega,h,hc⟩),drop_zero,drop_zero]
   cases eqL Gg l q<;>rfl
  ·have h2:((l.length:Int) != (q.length:Int))=true:=bne_iff_ne.2 (by omega)
   rw [h2,Io h]
   rfl
 ·cases hq
theorem IP (l q:List Wt) (i:Int):Av prog (Ab [(158,.rd1 M2)]) (Ab [(4,F6)]) 0 (body f116 0) F6 ([.sl WCd l,.sl WCd q,.j i],[]) =
 ((ifB (decide (i<(↑l.length:Int))) (ifT (decide ((0:Int)<=i)&&decide (i<(↑l.length:Int))) (Aj l[i.toNat]? fun z=>ifT (decide ((0:Int)<=i)&&decide (i
 < (↑q.length:Int))) (Aj q[i.toNat]? fun z_1=>ifB (!Gf (z.fst,z.snd.fst,z.snd.snd.fst,z.snd.snd.snd.fst,z.snd.snd.snd.snd.fst,z.snd.snd.snd.snd.snd.fst,())
 (z_1.fst,z_1.snd.fst,z_1.snd.snd.fst,z_1.snd.snd.snd.fst,z_1.snd.snd.snd.snd.fst,z_1.snd.snd.snd.snd.snd.fst,())) (some (Ex.ret,[V.b false],[])) (some (Ex.normal,
 [V.sl WCd l,V.sl WCd q,V.j (i64.wrap (i+(1:Int)))],[]))))) (some (Ex.exit 0,[],[]))):_):=by kernel_rfl
theorem Ry (l q:List Wt):Ay prog (Ab [(158,.rd1 M2)]) (Ab [(4,F6)]) f116 [.sl WCd l,.sl WCd q] [] =
 ((ifB ((↑l.length:Int) != (↑q.length:Int)) (some (V.b false,[])) (ifT (decide ((0:Int)<=(0:Int)/\0<=l.length/\l.length=q.length/\l.length<=maxI))
 (ifB (eqL Gf (drop 0 l) (drop 0 q)) (some (V.b true,[])) (some (V.b false,[]))))):_):=by kernel_rfl
theorem KJ (l q:List Wt) (hl:l.length<=maxI) (hq:l.length=q.length) : ∀ (j i:Nat),i+j=l.length->∀ ex d,(Br.br (eqL Gf (l.drop i) (q.drop i)) (.leaf (.exit 0,([],[]))) (.leaf (.ret,([.b false],[]))):Br (Ex×Dt)).run=some (ex,d)->Runs prog (Ab [(158,.rd1 M2)]) (Ab [(4,F6)]) 0 (body f116 0) F6 ([.sl WCd l,.sl WCd q,.j (i:Int)],[]) ex d
 | 0,i,hi,ex,d,h=>by
  have hr:=IP l q i
  rw [Ac (dcF (by omega))] at hr
  rw [drop_eq_nil_of_le (by omega),drop_eq_nil_of_le (by omega),eqL] at h
  have h8:=Ao h
  obtain ⟨rfl,rfl⟩:=Prod.mk.inj h8
  exact .stop _ _ _ hr (by simp)
 | j+1,i,hi,ex,d,h=>by
  have hM:maxI=9223372036854775807:=rfl
  have hlt:i<l.length:=by omega
  have hlq:i<q.length:=by omega
  have hr:=IP l q i
  rw [Ag (dcT (by omega)),Aa (by simp only [anE,dcE]; omega),ntN,gtE hlt,Am,Aa (by simp only [anE,dcE]; omega),gtE hlq,Am,Aq (n:=i) (by omega)] at hr
  rw [drop_eq_getElem_cons hlt,drop_eq_getElem_cons hlq,eqL] at h
  have e : ∀ x y:Wt,Gf (x.1,x.2.1,x.2.2.1,x.2.2.2.1,x.2.2.2.2.1,x.2.2.2.2.2.1,()) (y.1,y.2.1,y.2.2.1,y.2.2.2.1,y.2.2.2.2.1,y.2.2.2.2.2.1,())=Gf x y:=fun x y=>rfl
  rw [e] at hr
  cases h1:Gf l[i] q[i] with
  | false=>
   rw [h1] at hr h
   have h8:=Ao h
   obtain ⟨rfl,rfl⟩:=Prod.mk.inj h8
   exact .stop _ _ _ hr (by simp)
  | true=>
   rw [h1] at hr h
   exact .step _ _ _ _ hr (KJ l q hl hq j (i+1) (by omega) ex d h)
theorem TL:Af prog 116 (Ent.rd1 Rz).F:=by
 refine Ae (kc func158 W8 KnowsL.nil).knows (Λ:=(Ab [(4,F6)])) func116 (c:=f116.body.getD .skip) (by kernel_rfl) fun vs bs r hq hv hb=>?_
 unfold Ent.F Rz at hq
 dsimp only at hq
 split at hq
 ·rename_i l q
  obtain ⟨hc,hx⟩:=Ad hq
  have hc:=of_decide_eq_true hc
  have hok:At prog (Ab [(158,.rd1 M2)]) (Ab [(4,F6)]) 0 (f116.body.getD .skip):=by
   refine An (a:=body f116 0) (by kernel_rfl) fun d ex d' h=>?_
   unfold F6 at h
   dsimp only at h
   split at h
   ·rename_i l q i
    obtain ⟨hc,hx⟩:=Ad h
    obtain ⟨a0,a1,a2,a3⟩:=of_decide_eq_true hc
    obtain ⟨i,rfl⟩:=eq_ofNat_of_zero_le a0
    simp only [ntN] at a1 hx
    exact KJ l q a3 a2 (l.length-i) i (by omega) ex d' hx
   ·cases h
  refine ⟨hok,(Ry l q).trans (Eq.trans ?_ hx)⟩
  show _=some _
  by_cases h:l.length=q.length
  ·have h2:((l.length:Int) != (q.length:Int))=false:=bne_eq_false_iff_eq.2 (by omega)
   rw [h2,AV,Aa (dcT ⟨by omega,by omega,h,hc⟩),drop_zero,drop_zero]
   cases eqL Gf l q<;>rfl
  ·have h2:((l.length:Int) != (q.length:Int))=true:=bne_iff_ne.2 (by omega)
   rw [h2,Io h]
   rfl
 ·cases hq

def G3 (x y:List Ty×Unit):Bool:=eqL Gg x.1 y.1
def GM (x:List Ty×Unit):Bool:=decide (x.1.length<=maxI)
def NP:Gm
 | [.agg [.sl TCd a0],.agg [.sl TCd b0]],[]=>.need (GM (a0,())) (.leaf (.b (G3 (a0,()) (b0,())),[]))
 | _,_=>.no
def MA (x y:List Wt×Unit):Bool:=eqL Gf x.1 y.1
def NM (x:List Wt×Unit):Bool:=decide (x.1.length<=maxI)
def R9:Gm
 | [.agg [.sl WCd a0],.agg [.sl WCd b0]],[]=>.need (NM (a0,())) (.leaf (.b (MA (a0,()) (b0,())),[]))
 | _,_=>.no
def F9 (x y:Tp):Bool:=x.1==y.1&&(G3 x.2.1 y.2.1&&x.2.2.1==y.2.2.1)
def D4 (x:Tp):Bool:=GM x.2.1
def M7:Gm
 | [.agg [.s a0,.sl TCd a1,.i .i64 a2],.agg [.s b0,.sl TCd b1,.i .i64 b2]],[]=>.need (D4 (a0,(a1,()),a2,())) (.leaf (.b (F9 (a0,(a1,()),a2,()) (b0,(b1,()),b2,())),[]))
 | _,_=>.no
def Gi (x y:Fa):Bool:=x.1==y.1&&(x.2.1==y.2.1&&(MA x.2.2.1 y.2.2.1&&(G3 x.2.2.2.1 y.2.2.2.1&&(eqL Gh x.2.2.2.2.1 y.2.2.2.2.1&&x.2.2.2.2.2.1==y.2.2.2.2.2.1))))
def G2 (x:Fa):Bool:=NM x.2.2.1&&(GM x.2.2.2.1&&decide (x.2.2.2.2.1.length<=maxI))
def MB:Gm
 | [.agg [.i .i64 a0,.s a1,.sl WCd a2,.sl TCd a3,.sl NTd a4,.i .i64 a5],.agg [.i .i64 b0,.s b1,.sl WCd b2,.sl TCd b3,.sl NTd b4,.i .i64 b5]],[]=>.need (G2 (a0,a1,(a2,()),(a3,()),a4,a5,())) (.leaf (.b (Gi (a0,a1,(a2,()),(a3,()),a4,a5,()) (b0,b1,(b2,()),(b3,()),b4,b5,())),[]))
 | _,_=>.no
def F8:LoopEnt:=⟨27,[0,1,5],[],[4],fun
 | ([.sl TPd l,.sl TPd q,.i .i64 i],[])=>.need (decide (0<=i/\i.toNat<=l.length/\l.length=q.length/\l.length<=maxI)&&l.all D4) (.br (eqL F9 (l.drop i.toNat) (q.drop i.toNat)) (.leaf (.exit 0,([],[]))) (.leaf (.ret,([.b false],[]))))
 | _=>.no⟩
def NO:Gm
 | [.sl TPd l,.sl TPd q],[]=>.need (decide (l.length<=maxI)&&l.all D4) (.leaf (.b (eqL F9 l q),[]))
 | _,_=>.no
def FB:LoopEnt:=⟨27,[0,1,5],[],[4],fun
 | ([.sl FNd l,.sl FNd q,.i .i64 i],[])=>.need (decide (0<=i/\i.toNat<=l.length/\l.length=q.length/\l.length<=maxI)&&l.all G2) (.br (eqL Gi (l.drop i.toNat) (q.drop i.toNat)) (.leaf (.exit 0,([],[]))) (.leaf (.ret,([.b false],[]))))
 | _=>.no⟩
def RC:Gm
 | [.sl FNd l,.sl FNd q],[]=>.need (decide (l.length<=maxI)&&l.all G2) (.leaf (.b (eqL Gi l q),[]))
 | _,_=>.no
def RD (x y:List Tp×List Fa×Unit):Bool:=eqL F9 x.1 y.1&&eqL Gi x.2.1 y.2.1
def KI (x:List Tp×List Fa×Unit):Bool:=(decide (x.1.length<=maxI)&&x.1.all D4)&&(decide (x.2.1.length<=maxI)&&x.2.1.all G2)
def WF:Gm
 | [.agg l,.agg q],[]=>(match l with
  | [.sl TPd a0,.sl FNd a1]=>(match q with
   | [.sl TPd b0,.sl FNd b1]=>.need (KI (a0,a1,())) (.leaf (.b (RD (a0,a1,()) (b0,b1,())),[]))
   | _=>.no)
  | _=>.no)
 | _,_=>.no

theorem R5 (a0:List Ty) (b0:List Ty):Ay prog (Ab [(117,.rd1 R3)]) (Ab []) f65 [.agg [.sl TCd a0],.agg [.sl TCd b0]] [] =
 ((ifT (decide (a0.length<=maxI)) (ifB (!eqL Gg a0 b0) (some (V.b false,[])) (some (V.b true,[])))):_):=by kernel_rfl
theorem M8:Af prog 65 (Ent.rd1 NP).F:=by
 refine Ae (kc func117 TO KnowsL.nil).knows (Λ:=Ab []) func65 (c:=f65.body.getD .skip) (by kernel_rfl) fun vs bs r hq hv hb=>?_
 unfold Ent.F NP at hq
 dsimp only at hq
 split at hq
 ·rename_i a0 b0
  obtain ⟨hc,hx⟩:=Ad hq
  unfold GM at hc
  dsimp only at hc
  refine ⟨Al _,(R5 a0 b0).trans (Eq.trans ?_ hx)⟩
  show _=some _
  unfold G3
  dsimp only
  rw [Aa hc]
  cases eqL Gg a0 b0<;>rfl
 ·cases hq
theorem R8 (a0:List Wt) (b0:List Wt):Ay prog (Ab [(116,.rd1 Rz)]) (Ab []) f64 [.agg [.sl WCd a0],.agg [.sl WCd b0]] [] =
 ((ifT (decide (a0.length<=maxI)) (ifB (!eqL Gf a0 b0) (some (V.b false,[])) (some (V.b true,[])))):_):=by kernel_rfl
theorem TU:Af prog 64 (Ent.rd1 R9).F:=by
 refine Ae (kc func116 TL KnowsL.nil).knows (Λ:=Ab []) func64 (c:=f64.body.getD .skip) (by kernel_rfl) fun vs bs r hq hv hb=>?_
 unfold Ent.F R9 at hq
 dsimp only at hq
 split at hq
 ·rename_i a0 b0
  obtain ⟨hc,hx⟩:=Ad hq
  unfold NM at hc
  dsimp only at hc
  refine ⟨Al _,(R8 a0 b0).trans (Eq.trans ?_ hx)⟩
  show _=some _
  unfold MA
  dsimp only
  rw [Aa hc]
  cases eqL Gf a0 b0<;>rfl
 ·cases hq
theorem TQ (a0:List UInt8) (a1:List Ty) (a2:Int) (b0:List UInt8) (b1:List Ty) (b2:Int):Ay prog (Ab [(65,.rd1 NP)]) (Ab []) f56 [.agg [.s a0,.sl TCd a1,.j a2],.agg [.s b0,.sl TCd b1,.j b2]] [] =
 ((ifB (!a0==b0) (some (V.b false,[])) (ifT (GM (a1,())) (ifB (!G3 (a1,()) (b1,())) (some (V.b false,[])) (ifB (a2 != b2) (some (V.b false,[])) (some (V.b
 true,[])))))):_):=by kernel_rfl
theorem WA:Af prog 56 (Ent.rd1 M7).F:=by
 refine Ae (kc func65 M8 KnowsL.nil).knows (Λ:=Ab []) func56 (c:=f56.body.getD .skip) (by kernel_rfl) fun vs bs r hq hv hb=>?_
 unfold Ent.F M7 at hq
 dsimp only at hq
 split at hq
 ·rename_i a0 a1 a2 b0 b1 b2
  obtain ⟨hc,hx⟩:=Ad hq
  unfold D4 at hc
  dsimp only at hc
  refine ⟨Al _,(TQ a0 a1 a2 b0 b1 b2).trans (Eq.trans ?_ hx)⟩
  show _=some _
  unfold F9
  dsimp only
  rw [Aa hc]
  unfold bne
  cases a0==b0<;>cases G3 (a1,()) (b1,())<;>cases a2==b2<;>rfl
 ·cases hq
theorem TW (a0:Int) (a1:List UInt8) (a2:List Wt) (a3:List Ty) (a4:List Nt) (a5:Int) (b0:Int) (b1:List UInt8) (b2:List Wt) (b3:List Ty) (b4:List Nt) (b5:Int):Ay prog (Ab [(64,.rd1 R9),(65,.rd1 NP),(66,.rd1 R7)]) (Ab []) f29 [.agg [.j a0,.s a1,.sl WCd a2,.sl TCd a3,.sl NTd a4,.j a5],.agg [.j b0,.s b1,.sl WCd b2,.sl TCd b3,.sl NTd b4,.j b5]] [] =
 ((ifB (a0 != b0) (some (V.b false,[])) (ifB (!a1==b1) (some (V.b false,[])) (ifT (NM (a2,())) (ifB (!MA (a2,()) (b2,())) (some (V.b false,[])) (ifT (GM
 (a3,())) (ifB (!G3 (a3,()) (b3,())) (some (V.b false,[])) (ifT (decide (a4.length<=maxI)) (ifB (!eqL Gh a4 b4) (some (V.b false,[])) (ifB (a5 != b5) (some (V.b
 false,[])) (some (V.b true,[]))))))))))):_):=by kernel_rfl
theorem WD:Af prog 29 (Ent.rd1 MB).F:=by
 refine Ae (kc func64 TU (kc func65 M8 (kc func66 TR KnowsL.nil))).knows (Λ:=Ab []) func29 (c:=f29.body.getD .skip) (by kernel_rfl) fun vs bs r hq hv hb=>?_
 unfold Ent.F MB at hq
 dsimp only at hq
 split at hq
 ·rename_i a0 a1 a2 a3 a4 a5 b0 b1 b2 b3 b4 b5
  obtain ⟨hc,hx⟩:=Ad hq
  unfold G2 at hc
  dsimp only at hc
  refine ⟨Al _,(TW a0 a1 a2 a3 a4 a5 b0 b1 b2 b3 b4 b5).trans (Eq.trans ?_ hx)⟩
  show _=some _
  unfold Gi
  dsimp only
  rw [anE,anE] at hc
  rw [Aa hc.1,Aa hc.2.1,Aa hc.2.2]
  unfold bne
  cases a0==b0<;>cases a1==b1<;>cases MA (a2,()) (b2,())<;>cases G3 (a3,()) (b3,())<;>cases eqL Gh a4 b4<;>cases a5==b5<;>rfl
 ·cases hq
theorem IR (l q:List Tp) (i:Int):Av prog (Ab [(56,.rd1 M7)]) (Ab [(4,F8)]) 0 (body f23 0) F8 ([.sl TPd l,.sl TPd q,.j i],[]) =
 ((ifB (decide (i<(↑l.length:Int))) (ifT (decide ((0:Int)<=i)&&decide (i<(↑l.length:Int))) (Aj l[i.toNat]? fun z=>ifT (decide ((0:Int)<=i)&&decide (i
 < (↑q.length:Int))) (Aj q[i.toNat]? fun z_1=>ifT (D4 (z.fst,(z.snd.fst.fst,()),z.snd.snd.fst,())) (ifB (!F9 (z.fst,(z.snd.fst.fst,()),z.snd.snd.fst,
 ()) (z_1.fst,(z_1.snd.fst.fst,()),z_1.snd.snd.fst,())) (some (Ex.ret,[V.b false],[])) (some (Ex.normal,[V.sl TPd l,V.sl TPd q,V.j (i64.wrap (i+(1
 : Int)))],[])))))) (some (Ex.exit 0,[],[]))):_):=by kernel_rfl
theorem R4 (l q:List Tp):Ay prog (Ab [(56,.rd1 M7)]) (Ab [(4,F8)]) f23 [.sl TPd l,.sl TPd q] [] =
 ((ifB ((↑l.length:Int) != (↑q.length:Int)) (some (V.b false,[])) (ifT (decide ((0:Int)<=(0:Int)/\0<=l.length/\l.length=q.length/\l.length<=maxI)&&
 l.all D4) (ifB (eqL F9 (drop 0 l) (drop 0 q)) (some (V.b true,[])) (some (V.b false,[]))))):_):=by kernel_rfl
theorem KM (l q:List Tp) (hl:l.length<=maxI) (hq:l.length=q.length) (hn:l.all D4=true) : ∀ (j i:Nat),i+j=l.length->∀ ex d,(Br.br (eqL F9 (l.drop i) (q.drop i)) (.leaf (.exit 0,([],[]))) (.leaf (.ret,([.b false],[]))):Br (Ex×Dt)).run=some (ex,d)->Runs prog (Ab [(56,.rd1 M7)]) (Ab [(4,F8)]) 0 (body f23 0) F8 ([.sl TPd l,.sl TPd q,.j (i:Int)],[]) ex d
 | 0,i,hi,ex,d,h=>by
  have hr:=IR l q i
  rw [Ac (dcF (by omega))] at hr
  rw [drop_eq_nil_of_le (by omega),drop_eq_nil_of_le (by omega),eqL] at h
  have h8:=Ao h
  obtain ⟨rfl,rfl⟩:=Prod.mk.inj h8
  exact .stop _ _ _ hr (by simp)
 | j+1,i,hi,ex,d,h=>by
  have hM:maxI=9223372036854775807:=rfl
  have hlt:i<l.length:=by omega
  have hlq:i<q.length:=by omega
  have hr:=IR l q i
  rw [Ag (dcT (by omega)),Aa (by simp only [anE,dcE]; omega),ntN,gtE hlt,Am,Aa (by simp only [anE,dcE]; omega),gtE hlq,Am,Aq (n:=i) (by omega)] at hr
  rw [drop_eq_getElem_cons hlt,drop_eq_getElem_cons hlq,eqL] at h
  have e : ∀ x y:Tp,F9 (x.1,(x.2.1.1,()),x.2.2.1,()) (y.1,(y.2.1.1,()),y.2.2.1,())=F9 x y:=fun x y=>rfl
  rw [e,show D4 (l[i].1,(l[i].2.1.1,()),l[i].2.2.1,())=true from all_eq_true.1 hn _ (getElem_mem hlt),CX] at hr
  cases h1:F9 l[i] q[i] with
  | false=>
   rw [h1] at hr h
   have h8:=Ao h
   obtain ⟨rfl,rfl⟩:=Prod.mk.inj h8
   exact .stop _ _ _ hr (by simp)
  | true=>
   rw [h1] at hr h
   exact .step _ _ _ _ hr (KM l q hl hq hn j (i+1) (by omega) ex d h)
theorem M5:Af prog 23 (Ent.rd1 NO).F:=by
 refine Ae (kc func56 WA KnowsL.nil).knows (Λ:=(Ab [(4,F8)])) func23 (c:=f23.body.getD .skip) (by kernel_rfl) fun vs bs r hq hv hb=>?_
 unfold Ent.F NO at hq
 dsimp only at hq
 split at hq
 ·rename_i l q
  obtain ⟨hc,hx⟩:=Ad hq
  rw [anE,dcE] at hc
  obtain ⟨hc,hn⟩:=hc
  have hok:At prog (Ab [(56,.rd1 M7)]) (Ab [(4,F8)]) 0 (f23.body.getD .skip):=by
   refine An (a:=body f23 0) (by kernel_rfl) fun d ex d' h=>?_
   unfold F8 at h
   dsimp only at h
   split at h
   ·rename_i l q i
    obtain ⟨hc,hx⟩:=Ad h
    rw [anE,dcE] at hc
    obtain ⟨⟨a0,a1,a2,a3⟩,a4⟩:=hc
    obtain ⟨i,rfl⟩:=eq_ofNat_of_zero_le a0
    simp only [ntN] at a1 hx
    exact KM l q a3 a2 a4 (l.length-i) i (by omega) ex d' hx
   ·cases h
  refine ⟨hok,(R4 l q).trans (Eq.trans ?_ hx)⟩
  show _=some _
  by_cases h:l.length=q.length
  ·have h2:((l.length:Int) != (q.length:Int))=false:=bne_eq_false_iff_eq.2 (by omega)
   rw [h2,AV,Aa (by rw [anE]; exact ⟨dcT ⟨by omega,by omega,h,hc⟩,hn⟩),drop_zero,drop_zero]
   cases eqL F9 l q<;>rfl
  ·have h2:((l.length:Int) != (q.length:Int))=true:=bne_iff_ne.2 (by omega)
   rw [h2,Io h]
   rfl
 ·cases hq
theorem IT (l q:List Fa) (i:Int):Av prog (Ab [(29,.rd1 MB)]) (Ab [(4,FB)]) 0 (body f44 0) FB ([.sl FNd l,.sl FNd q,.j i],[]) =
 ((ifB (decide (i<(↑l.length:Int))) (ifT (decide ((0:Int)<=i)&&decide (i<(↑l.length:Int))) (Aj l[i.toNat]? fun z=>ifT (decide ((0:Int)<=i)&&decide (i
 < (↑q.length:Int))) (Aj q[i.toNat]? fun z_1=>ifT (G2 (z.fst,z.snd.fst,(z.snd.snd.fst.fst,()),(z.snd.snd.snd.fst.fst,()),z.snd.snd.snd.snd.fst,
 z.snd.snd.snd.snd.snd.fst,())) (ifB (!Gi (z.fst,z.snd.fst,(z.snd.snd.fst.fst,()),(z.snd.snd.snd.fst.fst,()),z.snd.snd.snd.snd.fst,z.snd.snd.snd.snd.snd.fst,())
 (z_1.fst,z_1.snd.fst,(z_1.snd.snd.fst.fst,()),(z_1.snd.snd.snd.fst.fst,()),z_1.snd.snd.snd.snd.fst,z_1.snd.snd.snd.snd.snd.fst,())) (some (Ex.ret,[V.b false],
 [])) (some (Ex.normal,[V.sl FNd l,V.sl FNd q,V.j (i64.wrap (i+(1:Int)))],[])))))) (some (Ex.exit 0,[],[]))):_):=by kernel_rfl
theorem RA (l q:List Fa):Ay prog (Ab [(29,.rd1 MB)]) (Ab [(4,FB)]) f44 [.sl FNd l,.sl FNd q] [] =
 ((ifB ((↑l.length:Int) != (↑q.length:Int)) (some (V.b false,[])) (ifT (decide ((0:Int)<=(0:Int)/\0<=l.length/\l.length=q.length/\l.length<=maxI)&&
 l.all G2) (ifB (eqL Gi (drop 0 l) (drop 0 q)) (some (V.b true,[])) (some (V.b false,[]))))):_):=by kernel_rfl
theorem KO (l q:List Fa) (hl:l.length<=maxI) (hq:l.length=q.length) (hn:l.all G2=true) : ∀ (j i:Nat),i+j=l.length->∀ ex d,(Br.br (eqL Gi (l.drop i) (q.drop i)) (.leaf (.exit 0,([],[]))) (.leaf (.ret,([.b false],[]))):Br (Ex×Dt)).run=some (ex,d)->Runs prog (Ab [(29,.rd1 MB)]) (Ab [(4,FB)]) 0 (body f44 0) FB ([.sl FNd l,.sl FNd q,.j (i:Int)],[]) ex d
 | 0,i,hi,ex,d,h=>by
  have hr:=IT l q i
  rw [Ac (dcF (by omega))] at hr
  rw [drop_eq_nil_of_le (by omega),drop_eq_nil_of_le (by omega),eqL] at h
  have h8:=Ao h
  obtain ⟨rfl,rfl⟩:=Prod.mk.inj h8
  exact .stop _ _ _ hr (by simp)
 | j+1,i,hi,ex,d,h=>by
  have hM:maxI=9223372036854775807:=rfl
  have hlt:i<l.length:=by omega
  have hlq:i<q.length:=by omega
  have hr:=IT l q i
  rw [Ag (dcT (by omega)),Aa (by simp only [anE,dcE]; omega),ntN,gtE hlt,Am,Aa (by simp only [anE,dcE]; omega),gtE hlq,Am,Aq (n:=i) (by omega)] at hr
  rw [drop_eq_getElem_cons hlt,drop_eq_getElem_cons hlq,eqL] at h
  have e : ∀ x y:Fa,Gi (x.1,x.2.1,(x.2.2.1.1,()),(x.2.2.2.1.1,()),x.2.2.2.2.1,x.2.2.2.2.2.1,()) (y.1,y.2.1,(y.2.2.1.1,()),(y.2.2.2.1.1,()),y.2.2.2.2.1,y.2.2.2.2.2.1,())=Gi x y:=fun x y=>rfl
  rw [e,show G2 (l[i].1,l[i].2.1,(l[i].2.2.1.1,()),(l[i].2.2.2.1.1,()),l[i].2.2.2.2.1,l[i].2.2.2.2.2.1,())=true from all_eq_true.1 hn _ (getElem_mem hlt),CX] at hr
  cases h1:Gi l[i] q[i] with
  | false=>
   rw [h1] at hr h
   have h8:=Ao h
   obtain ⟨rfl,rfl⟩:=Prod.mk.inj h8
   exact .stop _ _ _ hr (by simp)
  | true=>
   rw [h1] at hr h
   exact .step _ _ _ _ hr (KO l q hl hq hn j (i+1) (by omega) ex d h)
theorem TV:Af prog 44 (Ent.rd1 RC).F:=by
 refine Ae (kc func29 WD KnowsL.nil).knows (Λ:=(Ab [(4,FB)])) func44 (c:=f44.body.getD .skip) (by kernel_rfl) fun vs bs r hq hv hb=>?_
 unfold Ent.F RC at hq
 dsimp only at hq
 split at hq
 ·rename_i l q
  obtain ⟨hc,hx⟩:=Ad hq
  rw [anE,dcE] at hc
  obtain ⟨hc,hn⟩:=hc
  have hok:At prog (Ab [(29,.rd1 MB)]) (Ab [(4,FB)]) 0 (f44.body.getD .skip):=by
   refine An (a:=body f44 0) (by kernel_rfl) fun d ex d' h=>?_
   unfold FB at h
   dsimp only at h
   split at h
   ·rename_i l q i
    obtain ⟨hc,hx⟩:=Ad h
    rw [anE,dcE] at hc
    obtain ⟨⟨a0,a1,a2,a3⟩,a4⟩:=hc
    obtain ⟨i,rfl⟩:=eq_ofNat_of_zero_le a0
    simp only [ntN] at a1 hx
    exact KO l q a3 a2 a4 (l.length-i) i (by omega) ex d' hx
   ·cases h
  refine ⟨hok,(RA l q).trans (Eq.trans ?_ hx)⟩
  show _=some _
  by_cases h:l.length=q.length
  ·have h2:((l.length:Int) != (q.length:Int))=false:=bne_eq_false_iff_eq.2 (by omega)
   rw [h2,AV,Aa (by rw [anE]; exact ⟨dcT ⟨by omega,by omega,h,hc⟩,hn⟩),drop_zero,drop_zero]
   cases eqL Gi l q<;>rfl
  ·have h2:((l.length:Int) != (q.length:Int))=true:=bne_iff_ne.2 (by omega)
   rw [h2,Io h]
   rfl
 ·cases hq
theorem TY (a0:List Tp) (a1:List Fa) (b0:List Tp) (b1:List Fa):Ay prog (Ab [(23,.rd1 NO),(44,.rd1 RC)]) (Ab []) f13 [.agg [.sl TPd a0,.sl FNd a1],.agg [.sl TPd b0,.sl FNd b1]] [] =
 ((ifT (decide (a0.length<=maxI)&&a0.all D4) (ifB (!eqL F9 a0 b0) (some (V.b false,[])) (ifT (decide (a1.length<=maxI)&&a1.all G2) (ifB (!eqL Gi a1 b1) (some
 (V.b false,[])) (some (V.b true,[])))))):_):=by kernel_rfl
theorem WE:Af prog 13 (Ent.rd1 WF).F:=by
 refine Ae (kc func23 M5 (kc func44 TV KnowsL.nil)).knows (Λ:=Ab []) func13 (c:=f13.body.getD .skip) (by kernel_rfl) fun vs bs r hq hv hb=>?_
 unfold Ent.F WF at hq
 dsimp only at hq
 split at hq
 rotate_left
 ·cases hq
 split at hq
 rotate_left
 ·cases hq
 rename_i a0 a1
 split at hq
 ·rename_i b0 b1
  obtain ⟨hc,hx⟩:=Ad hq
  unfold KI at hc
  dsimp only at hc
  refine ⟨Al _,(TY a0 a1 b0 b1).trans (Eq.trans ?_ hx)⟩
  show _=some _
  unfold RD
  dsimp only
  rw [anE] at hc
  rw [Aa hc.1,Aa hc.2]
  cases eqL F9 a0 b0<;>cases eqL Gi a1 b1<;>rfl
 ·cases hq

def J4:Gm
 | [.agg [.i .i64 a0,.s a1,.i .i64 a2,.b a3,.i .i64 a4,.i .i64 a5]],[]=>.leaf (.agg [.i .i64 a0,.s a1,.i .i64 a2,.b a3,.i .i64 a4,.i .i64 a5],[])
 | _,_=>.no
def E1:LoopEnt:=⟨23,[0,3,4],[3],[],fun
 | ([.sl TCd l,.ref 0 0 m,.i .i64 n],[some (.row false none TCd r)])=>
  .need (decide (0<=n/\m=l.length/\r.length=l.length/\n.toNat<=l.length/\l.length<=maxI)) (.leaf (.exit 0,([.ref 0 0 m],[some (.row false none TCd (r.take n.toNat++l.drop n.toNat))])))
 | _=>.no⟩
def Qm:Gm
 | [.sl TCd l],[]=>.need (decide (l.length<=1000000000)) (.leaf (.ref 0 0 l.length,[some (.row false none TCd l)]))
 | _,_=>.no

theorem UC (a0:Int) (a1:List UInt8) (a2:Int) (a3:Bool) (a4 a5:Int):Ay prog (Ab []) (Ab []) f199 [.agg [.j a0,.s a1,.j a2,.b a3,.j a4,.j a5]] []=some (.agg [.j a0,.s a1,.j a2,.b a3,.j a4,.j a5],[]):=by kernel_rfl
theorem Acy:Af prog 199 (Ent.rd1 J4).F:=by
 refine Ae (KnowsL.nil).knows (Λ:=Ab []) func199 (c:=f199.body.getD .skip) (by kernel_rfl) fun vs bs r h _ _=>?_
 unfold Ent.F J4 at h
 dsimp only at h
 split at h
 ·exact ⟨Al _,(UC _ _ _ _ _ _ ).trans (by cases h; rfl)⟩
 ·cases h
theorem I0 (l r:List Ty) (m n:Nat):Av prog (Ab [(199,.rd1 J4)]) (Ab [(3,E1)]) 0 (body f156 0) E1 ([.sl TCd l,.ref 0 0 m,.j n],[some (.row false none TCd r)]) =
 ((ifB (decide ((↑n:Int)<(↑l.length:Int))) (ifT (decide ((0:Int)<=(↑n:Int))&&decide ((↑n:Int)<(↑l.length:Int))) (Aj l[((↑n:Int)).toNat]? fun z=>ifT
 (decide ((0:Int)<=(↑n:Int))&&decide ((↑n:Int)<(↑m:Int))) (Aj r[0+((↑n:Int)).toNat]? fun _=>some (Ex.normal,[V.sl TCd l,V.ref 0 0 m,V.i
 .i64 (i64.wrap ((↑n:Int)+(1:Int)))],[some (Blk.row false none TCd (r.set (0+((↑n:Int)).toNat) (z.fst,z.snd.fst,z.snd.snd.fst,
 z.snd.snd.snd.fst,z.snd.snd.snd.snd.fst,z.snd.snd.snd.snd.snd.fst,())))])))) (some (Ex.exit 0,[V.ref 0 0 m],[some (Blk.row false none TCd r)]))):_):=by kernel_rfl
theorem J3 {l:List Ty} {m:Nat} (hm:m=l.length) (hx:l.length<=maxI) : ∀ (k n:Nat) (r:List Ty),n+k=l.length->r.length=l.length->
  Runs prog (Ab [(199,.rd1 J4)]) (Ab [(3,E1)]) 0 (body f156 0) E1 ([.sl TCd l,.ref 0 0 m,.j n],[some (.row false none TCd r)]) (.exit 0) ([.ref 0 0 m],[some (.row false none TCd (r.take n++l.drop n))])
 | 0,n,r,hn,hr=>by
  refine .stop _ _ _ ((I0 l r m n).trans ?_) (by simp)
  simp [show ¬n<l.length by omega,show r.take n=r from List.take_of_length_le (by omega),show l.drop n=[] from drop_eq_nil_of_le (by omega)]
 | k+1,n,r,hn,hr=>by
  have h1:n<l.length:=by omega
  have h2:n<r.length:=by omega
  have h3:n<m:=by omega
  have hq:=I0 l r m n
  simp only [ntN,gtE h1,zero_add,gtE h2,Aq (n:=n) (by omega)] at hq
  refine .step _ _ _ (d1:=([.sl TCd l,.ref 0 0 m,.j ((n+1:Nat):Int)],[some (.row false none TCd (r.set n l[n]))])) (hq.trans ?_) ?_
  ·simp [h1,h3]
  ·have:=J3 hm hx k (n+1) (r.set n l[n]) (by omega) (by simp; omega)
   rw [Dq h2,append_assoc,singleton_append,<-drop_eq_getElem_cons h1] at this
   exact this
theorem UB:At prog (Ab [(199,.rd1 J4)]) (Ab [(3,E1)]) 0 (f156.body.getD .skip):=by
 refine An (a:=body f156 0) (by kernel_rfl) fun d e d' h=>?_
 unfold E1 at h
 dsimp only at h
 split at h
 ·obtain ⟨hc,h⟩:=Ad h
  have hc:=of_decide_eq_true hc
  obtain ⟨n,rfl⟩:=eq_ofNat_of_zero_le hc.1
  cases h
  exact J3 hc.2.1 hc.2.2.2.2 _ n _ (add_sub_of_le hc.2.2.2.1) hc.2.2.1
 ·cases h
theorem SE (l:List Ty) (hx:l.length<=1000000000):Ay prog (Ab [(199,.rd1 J4)]) (Ab [(3,E1)]) f156 [.sl TCd l] []=some (.ref 0 0 l.length,[some (.row false none TCd l)]):=by
 have e:Ay prog (Ab [(199,.rd1 J4)]) (Ab [(3,E1)]) f156 [.sl TCd l] [] =
  ((ifT (decide ((0:Int)<=(↑l.length:Int))&&decide ((↑l.length:Int)<=(↑l.length:Int))&&decide ((↑l.length:Int)*(↑(56:Nat):Int)<=(140737488355328:Int))
 && decide ((↑l.length:Int)<=(9223372036854775807:Int))) (ifT (decide ((0:Int)<=(0:Int)/\(↑l.length:Int).toNat=l.length/\(List.replicate (↑l.length :
 Int).toNat ((0:Int),Ai UInt8,(0:Int),false,(0:Int),(0:Int),())).length=l.length/\0<=l.length/\l.length<=maxI)) (some (V.ref 0 0 (↑l.length :
 Int).toNat,[some (Blk.row false none TCd (Ai TCd.den++drop 0 l))])))):_):=by kernel_rfl
 rw [e]
 have hx':l.length<=maxI:=Nat.le_trans hx (by decide)
 simp [hx']
 omega
theorem Aba:Af prog 156 (Ent.rd1 Qm).F:=by
 refine Ae (kc func199 Acy KnowsL.nil).knows (Λ:=(Ab [(3,E1)])) func156 (c:=f156.body.getD .skip) (by kernel_rfl) fun vs bs r h hv hb=>?_
 unfold Ent.F Qm at h
 dsimp only at h
 split at h
 ·rename_i l
  obtain ⟨hc,h⟩:=Ad h
  exact ⟨UB,(SE l (of_decide_eq_true hc)).trans (by cases h; rfl)⟩
 ·cases h
def Qq:Gm
 | [.agg [.sl TCd l]],[]=>.need (decide (l.length<=1000000000)) (.leaf (.agg [.ref 0 0 l.length],[some (.row false none TCd l)]))
 | _,_=>.no
def LB:Gm
 | [.agg [.s a,.sl TCd l,.i .i64 c]],[]=>.need (decide (l.length<=1000000000)) (.leaf (.agg [.s a,.ref 0 0 l.length,.i .i64 c],[some (.row false none TCd l)]))
 | _,_=>.no
def BM (t:Tp):Bool:=decide (t.2.1.1.length<=1000000000)
def Fd:LoopEnt:=⟨23,[0,3,4],[3],[],fun
 | ([.sl TPd l,.ref 0 0 m,.i .i64 n],[some (.drow TPd r none)])=>.need (decide (0<=n/\m=l.length/\r.length=l.length/\n.toNat<=l.length/\l.length<=maxI)&&l.all BM) (.leaf (.exit 0,([.ref 0 0 m],[some (.drow TPd (r.take n.toNat++l.drop n.toNat) none)])))
 | _=>.no⟩
def Qo:Gm
 | [.sl TPd l],[]=>.need (decide (l.length<=1000000000)&&l.all BM) (.leaf (.ref 0 0 l.length,[some (.drow TPd l none)]))
 | _,_=>.no
def J2 (t:Fa):Bool:=decide (t.2.2.1.1.length<=1000000000)&&(decide (t.2.2.2.1.1.length<=1000000000)&&decide (t.2.2.2.2.1.length<=1000000000))
theorem Qp (l:List Ty):Ay prog (Ab [(156,.rd1 Qm)]) (Ab []) f108 [.agg [.sl TCd l]] [] =
 ((ifT (decide (l.length<=1000000000)) (some (V.agg [V.ref 0 0 l.length],[some (Blk.row false none TCd l)]))):_):=by kernel_rfl
theorem SG:Af prog 108 (Ent.rd1 Qq).F:=by
 refine Ae (kc func156 Aba KnowsL.nil).knows (Λ:=Ab []) func108 (c:=f108.body.getD .skip) (by kernel_rfl) fun vs bs r hq hv hb=>?_
 unfold Ent.F Qq at hq
 dsimp only at hq
 split at hq
 ·rename_i l
  obtain ⟨hc,hx⟩:=Ad hq
  refine ⟨Al _,(Qp l).trans (Eq.trans ?_ hx)⟩
  show _=some _
  rw [Aa hc]
 ·cases hq
theorem SF (a:List UInt8) (l:List Ty) (c:Int):Ay prog (Ab [(108,.rd1 Qq)]) (Ab []) f52 [.agg [.s a,.sl TCd l,.j c]] [] =
 ((ifT (decide (l.length<=1000000000)) (some (V.agg [V.s a,V.ref 0 0 l.length,V.j c],[some (Blk.row false none TCd l)]))):_):=by kernel_rfl
theorem UD:Af prog 52 (Ent.rd1 LB).F:=by
 refine Ae (kc func108 SG KnowsL.nil).knows (Λ:=Ab []) func52 (c:=f52.body.getD .skip) (by kernel_rfl) fun vs bs r hq hv hb=>?_
 unfold Ent.F LB at hq
 dsimp only at hq
 split at hq
 ·rename_i a l c
  obtain ⟨hc,hx⟩:=Ad hq
  refine ⟨Al _,(SF a l c).trans (Eq.trans ?_ hx)⟩
  show _=some _
  rw [Aa hc]
 ·cases hq
theorem I1 (l r:List Tp) (m:Nat) (n:Int):Av prog (Ab [(52,.rd1 LB)]) (Ab [(3,Fd)]) 0 (body f21 0) Fd ([.sl TPd l,.ref 0 0 m,.j n],[some (.drow TPd r none)]) =
 ((ifB (decide (n<(↑l.length:Int))) (ifT (decide ((0:Int)<=n)&&decide (n<(↑l.length:Int))) (Aj l[n.toNat]? fun z=>ifT (decide (List.length z.snd.fst.fst<=
 1000000000)) (ifT (decide ((0:Int)<=n)&&decide (n<(↑m:Int))) (Aj r[0+n.toNat]? fun _=>some (Ex.normal,[V.sl TPd l,V.ref 0 0 m,V.i
 .i64 (i64.wrap (n+(1:Int)))],[some (Blk.drow TPd (r.set (0+n.toNat) (z.fst,(take (List.length z.snd.fst.fst) (drop 0
 z.snd.fst.fst),()),z.snd.snd.fst,())) none)]))))) (some (Ex.exit 0,[V.ref 0 0 m],[some (Blk.drow TPd r none)]))):_):=by kernel_rfl
theorem Qn (l:List Tp):Ay prog (Ab [(52,.rd1 LB)]) (Ab [(3,Fd)]) f21 [.sl TPd l] [] =
 ((ifT (decide ((0:Int)<=(↑l.length:Int))&&decide ((↑l.length:Int)<=(↑l.length:Int))&&decide ((↑l.length:Int)*(↑(48:Nat):Int)<=(140737488355328:Int))
 && decide ((↑l.length:Int)<=(9223372036854775807:Int))) (ifT (decide ((0:Int)<=(0:Int)/\(↑l.length:Int).toNat=l.length/\(List.replicate (↑l.length :
 Int).toNat (Ai UInt8,(Ai TCd.den,()),(0:Int),())).length=l.length/\0<=l.length/\l.length<=maxI)&&l.all BM) (some (V.ref 0 0 (↑l.length :
 Int).toNat,[some (Blk.drow TPd (Ai TPd.den++drop 0 l) none)])))):_):=by kernel_rfl
theorem J5 {l:List Tp} (hx:l.length<=maxI) (ho : ∀ z∈l,BM z=true) : ∀ (k n:Nat) (r:List Tp),n+k=l.length->r.length=l.length->
  Runs prog (Ab [(52,.rd1 LB)]) (Ab [(3,Fd)]) 0 (body f21 0) Fd ([.sl TPd l,.ref 0 0 l.length,.j (n:Int)],[some (.drow TPd r none)]) (.exit 0) ([.ref 0 0 l.length],[some (.drow TPd (r.take n++l.drop n) none)])
 | 0,n,r,hn,hr=>by
  have hq:=I1 l r l.length n
  rw [Ac (dcF (by omega))] at hq
  rw [List.take_of_length_le (by omega),drop_eq_nil_of_le (by omega),append_nil]
  exact .stop _ _ _ hq (by simp)
 | k+1,n,r,hn,hr=>by
  have hM:maxI=9223372036854775807:=rfl
  have h1:n<l.length:=by omega
  have h2:n<r.length:=by omega
  have hq:=I1 l r l.length n
  have ho1:=ho _ (getElem_mem h1)
  have hs:=J5 hx ho k (n+1) (r.set n l[n]) (by omega) (by simp; omega)
  rw [Dq h2,append_assoc,singleton_append,<-drop_eq_getElem_cons h1] at hs
  rw [Ag (dcT (by omega)),Aa (by simp only [anE,dcE]; omega),ntN,gtE h1,Am,Aq (n:=n) (by omega)] at hq
  unfold BM at ho1
  generalize l[n]=z at hq ho1 hs
  obtain ⟨a,⟨l_,⟨⟩⟩,c,⟨⟩⟩:=z
  dsimp only at hq ho1
  rw [Aa ho1] at hq
  rw [Aa (by simp only [anE,dcE]; omega),zero_add,gtE h2,Am] at hq
  simp only [drop_zero,take_length] at hq
  exact .step _ _ _ _ hq hs
theorem Abb:Af prog 21 (Ent.rd1 Qo).F:=by
 refine Ae (kc func52 UD KnowsL.nil).knows (Λ:=(Ab [(3,Fd)])) func21 (c:=f21.body.getD .skip) (by kernel_rfl) fun vs bs r hq hv hb=>?_
 unfold Ent.F Qo at hq
 dsimp only at hq
 split at hq
 ·rename_i l
  obtain ⟨hc,hx⟩:=Ad hq
  rw [anE,dcE] at hc
  obtain ⟨h1,h2⟩:=hc
  have hM:maxI=9223372036854775807:=rfl
  have hok:At prog (Ab [(52,.rd1 LB)]) (Ab [(3,Fd)]) 0 (f21.body.getD .skip):=by
   refine An (a:=body f21 0) (by kernel_rfl) fun d e d' h=>?_
   unfold Fd at h
   dsimp only at h
   split at h
   ·rename_i l m n r
    obtain ⟨hc,h⟩:=Ad h
    rw [anE,dcE] at hc
    obtain ⟨⟨a0,a1,a2,a3,a4⟩,a5⟩:=hc
    obtain ⟨n,rfl⟩:=eq_ofNat_of_zero_le a0
    subst a1
    cases h
    exact J5 a4 (all_eq_true.1 a5) _ n _ (add_sub_of_le a3) a2
   ·cases h
  refine ⟨hok,(Qn l).trans (Eq.trans ?_ hx)⟩
  show _=some _
  rw [Aa (by simp only [anE,dcE]; omega),Aa (by rw [anE]; exact ⟨dcT ⟨by omega,by simp,by simp,by omega,by omega⟩,h2⟩)]
  rfl
 ·cases hq
def QA:Gm
 | [.agg [.sl TPd ts,.sl FNd fs]],[]=>.need ((decide (ts.length<=1000000000)&&ts.all BM)&&(decide (fs.length<=1000000000)&&fs.all J2)) (.leaf (.agg [.ref 0 0 ts.length,.ref 1 0 fs.length],[some (.drow TPd ts none),some (.drow FNd fs none)]))
 | _,_=>.no
def Kb:LoopEnt:=⟨46,[1,2,3,10,11,12],[1,2,3],[],fun
 | ([.ptr 0 0,.ptr 1 0,.ptr 2 0,.sl TPd l,.i .i64 m,.i .i64 i],[bp,br,bo,r0,r1,r2,r3])=>(match bp with | some (.box [.sl TPd ts,.sl FNd fs])=>(match br with | some (.box [.ref 3 0 0,.ref 4 0 0])=>(match bo with | some (.box [.ref 5 0 n,.ref 6 0 0])=>(match r0 with | some (.drow TPd z0 none)=>(match r1 with | some (.drow FNd z1 none)=>(match r2 with | some (.drow TPd os none)=>(match r3 with | some (.drow FNd z3 none)=>.need (decide (0<=i/\i.toNat<=l.length/\m=l.length/\n=os.length/\n+(l.length-i.toNat)<=2000000000/\l.length<=2000000000)&&l.all BM) (.leaf (.exit 0,([.ptr 0 0,.ptr 1 0,.ptr 2 0],[some (.box [.sl TPd ts,.sl FNd fs]),some (.box [.ref 3 0 0,.ref 4 0 0]),some (.box [.ref 5 0 (n+(l.length-i.toNat)),.ref 6 0 0]),some (.drow TPd z0 none),some (.drow FNd z1 none),some (.drow TPd (os++l.drop i.toNat) none),some (.drow FNd z3 none)]))) | _=>.no) | _=>.no) | _=>.no) | _=>.no) | _=>.no) | _=>.no) | _=>.no)
 | _=>.no⟩
def Ka:LoopEnt:=⟨46,[2,3,31,32,33],[2,3],[],fun
 | ([.ptr 0 0,.ptr 1 0,.sl FNd l,.i .i64 m,.i .i64 i],[br,bo,r0,r1,r2,r3])=>(match br with | some (.box [.ref 2 0 0,.ref 3 0 0])=>(match bo with | some (.box [.ref 4 0 k,.ref 5 0 n])=>(match r0 with | some (.drow TPd z0 none)=>(match r1 with | some (.drow FNd z1 none)=>(match r2 with | some (.drow TPd z2 none)=>(match r3 with | some (.drow FNd os none)=>.need (decide (0<=i/\i.toNat<=l.length/\m=l.length/\n=os.length/\n+(l.length-i.toNat)<=2000000000/\l.length<=2000000000)&&l.all J2) (.leaf (.exit 2,([.ptr 0 0,.ptr 1 0],[some (.box [.ref 2 0 0,.ref 3 0 0]),some (.box [.ref 4 0 k,.ref 5 0 (n+(l.length-i.toNat))]),some (.drow TPd z0 none),some (.drow FNd z1 none),some (.drow TPd z2 none),some (.drow FNd (os++l.drop i.toNat) none)]))) | _=>.no) | _=>.no) | _=>.no) | _=>.no) | _=>.no) | _=>.no)
 | _=>.no⟩
theorem Nc {α:Type} {os:List α} {a b:α}:(os++[a]).set os.length b=os++[b]:=by simp
abbrev Uu:FuncId->Option Ent:=Ab [(110,.rd1 DY),(63,.rd1 FO)]
theorem Za (ts l os z0:List Tp) (fs z1 z3:List Fa) (m i:Int) (n:Nat):Av prog Uu (Ab [(3,Kb),(8,Ka)]) 0 (body f55 0) Kb ([.ptr 0 0,.ptr 1 0,.ptr 2 0,.sl TPd l,.j m,.j i],[some (.box [.sl TPd ts,.sl FNd fs]),some (.box [.ref 3 0 0,.ref 4 0 0]),some (.box [.ref 5 0 n,.ref 6 0 0]),some (.drow TPd z0 none),some (.drow FNd z1 none),some (.drow TPd os none),some (.drow FNd z3 none)]) =
 ((ifB (decide (i<m)) (ifT (decide ((0:Int)<=i)&&decide (i<(↑l.length:Int))) (Aj l[i.toNat]? fun z=>ifT (decide (List.length z.snd.fst.fst<=(1000000000 :
 Nat))) (ifT (decide (0=0/\n=os.length/\0=0/\1=1/\1=1/\0=0)&&
 (TPd.size.beq TPd.size&&[V.s z.fst,V.ref 183 0 (List.length z.snd.fst.fst),V.j z.snd.snd.fst].all V.single&&(decide ((n+1)*48<=
 140737488355328)&&decide (n+1<=maxI)))) (some (Ex.normal,[V.ptr 0 0,V.ptr 1 0,V.ptr 2 0,V.sl TPd l,V.j m,V.j (i64.wrap (i +
 (1:Int)))],[some (Blk.box [V.sl TPd ts,V.sl FNd fs]),some (Blk.box [V.ref 3 0 0,V.ref 4 0 0]),some (Blk.box [V.ref 5 0 (n+1),V.ref 6 0 0]),some
 (Blk.drow TPd z0 none),some (Blk.drow FNd z1 none),some (Blk.drow TPd ((os++TPd.dflt::Ai TPd.den).set os.length (z.fst,(take (List.length z.snd.fst.fst)
 (drop 0 z.snd.fst.fst),()),z.snd.snd.fst,())) none),some (Blk.drow FNd z3 none)]))))) (some (Ex.exit 0,[V.ptr 0 0,V.ptr 1 0,V.ptr 2 0],[some (Blk.box
 [V.sl TPd ts,V.sl FNd fs]),some (Blk.box [V.ref 3 0 0,V.ref 4 0 0]),some (Blk.box [V.ref 5 0 n,V.ref 6 0 0]),some (Blk.drow TPd z0 none),some (Blk.drow FNd z1
 none),some (Blk.drow TPd os none),some (Blk.drow FNd z3 none)]))):_):=by kernel_rfl
theorem YZ (z0 z2:List Tp) (l os z1:List Fa) (m i:Int) (n k:Nat):Av prog Uu (Ab [(3,Kb),(8,Ka)]) 0 (body f55 1) Ka ([.ptr 0 0,.ptr 1 0,.sl FNd l,.j m,.j i],[some (.box [.ref 2 0 0,.ref 3 0 0]),some (.box [.ref 4 0 k,.ref 5 0 n]),some (.drow TPd z0 none),some (.drow FNd z1 none),some (.drow TPd z2 none),some (.drow FNd os none)]) =
 ((ifB (decide (i<m)) (ifT (decide ((0:Int)<=i)&&decide (i<(↑l.length:Int))) (Aj l[i.toNat]? fun z=>ifT (He z.snd.snd.fst.fst z.snd.snd.snd.fst.fst
 z.snd.snd.snd.snd.fst) (ifT (decide (0=0/\n=os.length/\0=0/\1=1/\1=1/\0=(0 :
 Nat))&&(FNd.size.beq FNd.size&&[V.j z.fst,V.s z.snd.fst,V.ref 134 0 (List.length z.snd.snd.fst.fst),V.ref 135 0 (List.length z.snd.snd.snd.fst.fst),V.ref 136
 0 (List.length z.snd.snd.snd.snd.fst),V.j z.snd.snd.snd.snd.snd.fst].all V.single&&(decide ((n+1)*104<=140737488355328)&&decide (n
 + 1<=maxI)))) (some (Ex.normal,[V.ptr 0 0,V.ptr 1 0,V.sl FNd l,V.j m,V.j (i64.wrap (i+(1:Int)))],[some (Blk.box [V.ref 2 0 0,V.ref 3
 0 0]),some (Blk.box [V.ref 4 0 k,V.ref 5 0 (n+1)]),some (Blk.drow TPd z0 none),some (Blk.drow FNd z1 none),some (Blk.drow TPd z2 none),some (Blk.drow FNd
 ((os++FNd.dflt::Ai FNd.den).set os.length (z.fst,z.snd.fst,(take (List.length z.snd.snd.fst.fst) (drop 0 z.snd.snd.fst.fst),()),(take
 (List.length z.snd.snd.snd.fst.fst) (drop 0 z.snd.snd.snd.fst.fst),()),take (List.length z.snd.snd.snd.snd.fst) (drop 0
 z.snd.snd.snd.snd.fst),z.snd.snd.snd.snd.snd.fst,())) none)]))))) (some (Ex.exit 2,[V.ptr 0 0,V.ptr 1 0],[some (Blk.box [V.ref 2 0 0,V.ref 3 0 0]),some (Blk.box
 [V.ref 4 0 k,V.ref 5 0 n]),some (Blk.drow TPd z0 none),some (Blk.drow FNd z1 none),some (Blk.drow TPd z2 none),some (Blk.drow FNd os none)]))):_):=by kernel_rfl
theorem XF (ts:List Tp) (fs:List Fa):Da prog Uu (Ab [(3,Kb),(8,Ka)]) f55 [.agg [.sl TPd ts,.sl FNd fs]] [] =
 ((ifT (decide ((0:Int)<=(0:Int)/\0<=ts.length/\(↑ts.length:Int)=(↑ts.length:Int)/\0=0/\0+(ts.length-0)<=
 2000000000/\ts.length<=2000000000)&&ts.all BM) (ifT (decide ((0:Int)<=(0:Int)/\0<=fs.length/\(↑fs.length:Int)=(↑fs.length :
 Int)/\0=0/\0+(fs.length-0)<=2000000000/\fs.length<=2000000000)&&fs.all J2) (some (V.agg [V.ref 0 0 ((0 :
 Nat)+(ts.length-0)),V.ref 1 0 (0+(fs.length-0))],[some (Blk.drow TPd (Ai TPd.den++drop 0 ts) none),some (Blk.drow FNd
 (Ai FNd.den++drop 0 fs) none)])))):_):=by kernel_rfl
theorem Zc {l:List Tp} {ts z0:List Tp} {fs z1 z3:List Fa} (hx:l.length<=2000000000) (ho : ∀ z∈l,BM z=true) : ∀ (j i:Nat) (os:List Tp),i+j=l.length->os.length+j<=2000000000->
  Runs prog Uu (Ab [(3,Kb),(8,Ka)]) 0 (body f55 0) Kb ([.ptr 0 0,.ptr 1 0,.ptr 2 0,.sl TPd l,.j l.length,.j (i:Int)],[some (.box [.sl TPd ts,.sl FNd fs]),some (.box [.ref 3 0 0,.ref 4 0 0]),some (.box [.ref 5 0 os.length,.ref 6 0 0]),some (.drow TPd z0 none),some (.drow FNd z1 none),some (.drow TPd os none),some (.drow FNd z3 none)]) (.exit 0) ([.ptr 0 0,.ptr 1 0,.ptr 2 0],[some (.box [.sl TPd ts,.sl FNd fs]),some (.box [.ref 3 0 0,.ref 4 0 0]),some (.box [.ref 5 0 (os.length+(l.length-i)),.ref 6 0 0]),some (.drow TPd z0 none),some (.drow FNd z1 none),some (.drow TPd (os++l.drop i) none),some (.drow FNd z3 none)])
 | 0,i,os,hi,hl=>by
  have hq:=Za ts l os z0 fs z1 z3 l.length (i:Int) os.length
  try dsimp only [shr] at hq
  rw [Ac (dcF (by omega))] at hq
  rw [drop_eq_nil_of_le (by omega),append_nil,show l.length-i=0 by omega,Nat.add_zero]
  exact .stop _ _ _ hq (by simp)
 | j+1,i,os,hi,hl=>by
  have hM:maxI=9223372036854775807:=rfl
  have h1:i<l.length:=by omega
  have hq:=Za ts l os z0 fs z1 z3 l.length (i:Int) os.length
  try dsimp only [shr] at hq
  have ho1:=ho _ (getElem_mem h1)
  have ih:=Zc (ts:=ts) (fs:=fs) (z0:=z0) (z1:=z1) (z3:=z3) hx ho j (i+1) (os++[l[i]]) (by omega) (by simp; omega)
  rw [append_assoc,singleton_append,<-drop_eq_getElem_cons h1,List.length_append,List.length_singleton,show os.length+1+(l.length-(i+1))=os.length+(l.length-i) by omega] at ih
  rw [Ag (dcT (by omega)),Aa (by simp only [anE,dcE]; omega),ntN,gtE h1,Am,Aq (n:=i) (by omega)] at hq
  generalize l[i]=z at hq ho1 ih
  obtain ⟨a,⟨l_,⟨⟩⟩,c,⟨⟩⟩:=z
  dsimp only at hq ho1
  unfold BM at ho1
  rw [Aa (by first | exact ho1 | (rw [dcE] at ho1 ⊢; omega))] at hq
  rw [Aa (by simp only [anE,dcE]; refine ⟨⟨by first | trivial | rfl,by first | trivial | rfl,by first | trivial | rfl,by first | trivial | rfl,by first | trivial | rfl,by first | trivial | rfl⟩,⟨by first | trivial | rfl,by first | trivial | rfl⟩,by omega,by omega⟩)] at hq
  simp only [AM,drop_zero,take_length,Nc] at hq
  exact .step _ _ _ _ hq ih
theorem Zb {l:List Fa} {z0 z2:List Tp} {z1:List Fa} {k:Nat} (hx:l.length<=2000000000) (ho : ∀ z∈l,J2 z=true) : ∀ (j i:Nat) (os:List Fa),i+j=l.length->os.length+j<=2000000000->
  Runs prog Uu (Ab [(3,Kb),(8,Ka)]) 0 (body f55 1) Ka ([.ptr 0 0,.ptr 1 0,.sl FNd l,.j l.length,.j (i:Int)],[some (.box [.ref 2 0 0,.ref 3 0 0]),some (.box [.ref 4 0 k,.ref 5 0 os.length]),some (.drow TPd z0 none),some (.drow FNd z1 none),some (.drow TPd z2 none),some (.drow FNd os none)]) (.exit 2) ([.ptr 0 0,.ptr 1 0],[some (.box [.ref 2 0 0,.ref 3 0 0]),some (.box [.ref 4 0 k,.ref 5 0 (os.length+(l.length-i))]),some (.drow TPd z0 none),some (.drow FNd z1 none),some (.drow TPd z2 none),some (.drow FNd (os++l.drop i) none)])
 | 0,i,os,hi,hl=>by
  have hq:=YZ z0 z2 l os z1 l.length (i:Int) os.length k
  try dsimp only [shr] at hq
  rw [Ac (dcF (by omega))] at hq
  rw [drop_eq_nil_of_le (by omega),append_nil,show l.length-i=0 by omega,Nat.add_zero]
  exact .stop _ _ _ hq (by simp)
 | j+1,i,os,hi,hl=>by
  have hM:maxI=9223372036854775807:=rfl
  have h1:i<l.length:=by omega
  have hq:=YZ z0 z2 l os z1 l.length (i:Int) os.length k
  try dsimp only [shr] at hq
  have ho1:=ho _ (getElem_mem h1)
  have ih:=Zb (z0:=z0) (z1:=z1) (z2:=z2) (k:=k) hx ho j (i+1) (os++[l[i]]) (by omega) (by simp; omega)
  rw [append_assoc,singleton_append,<-drop_eq_getElem_cons h1,List.length_append,List.length_singleton,show os.length+1+(l.length-(i+1))=os.length+(l.length-i) by omega] at ih
  rw [Ag (dcT (by omega)),Aa (by simp only [anE,dcE]; omega),ntN,gtE h1,Am,Aq (n:=i) (by omega)] at hq
  generalize l[i]=z at hq ho1 ih
  obtain ⟨w_,p,⟨ws,⟨⟩⟩,⟨v,⟨⟩⟩,b,c,⟨⟩⟩:=z
  dsimp only at hq ho1
  unfold J2 at ho1
  rw [Aa (show He ws v b=true from ho1)] at hq
  rw [Aa (by simp only [anE,dcE]; refine ⟨⟨by first | trivial | rfl,by first | trivial | rfl,by first | trivial | rfl,by first | trivial | rfl,by first | trivial | rfl,by first | trivial | rfl⟩,⟨by first | trivial | rfl,by first | trivial | rfl⟩,by omega,by omega⟩)] at hq
  simp only [AM,drop_zero,take_length,Nc] at hq
  exact .step _ _ _ _ hq ih
theorem Abv:At prog Uu (Ab [(3,Kb),(8,Ka)]) 0 (f55.body.getD .skip):=by
 refine LoopsI.loops (cs:=[body f55 0,body f55 1]) (.cons (ent:=Kb) (by kernel_rfl) (fun d e d' h=>?_) (.cons (ent:=Ka) (by kernel_rfl) (fun d e d' h=>?_) .nil)) (by kernel_rfl)
 ·unfold Kb at h
  dsimp only at h
  repeat' split at h
  all_goals first | contradiction | skip
  obtain ⟨hc,hx⟩:=Ad h
  rw [anE,dcE] at hc
  obtain ⟨⟨a0,a1,a2,a3,a4,a6⟩,a5⟩:=hc
  obtain ⟨i,rfl⟩:=eq_ofNat_of_zero_le a0
  subst a2
  subst a3
  cases hx
  exact Zc a6 (all_eq_true.1 a5) _ i _ (add_sub_of_le a1) a4
 ·unfold Ka at h
  dsimp only at h
  repeat' split at h
  all_goals first | contradiction | skip
  obtain ⟨hc,hx⟩:=Ad h
  rw [anE,dcE] at hc
  obtain ⟨⟨a0,a1,a2,a3,a4,a6⟩,a5⟩:=hc
  obtain ⟨i,rfl⟩:=eq_ofNat_of_zero_le a0
  subst a2
  subst a3
  cases hx
  exact Zb a6 (all_eq_true.1 a5) _ i _ (add_sub_of_le a1) a4
theorem ZH:Af prog 55 (Ent.rd1 QA).F:=by
 refine A6 (kc func110 Mp (kc func63 TE KnowsL.nil)).knows (Λ:=(Ab [(3,Kb),(8,Ka)])) func55 (c:=f55.body.getD .skip) (by kernel_rfl) fun vs bs r hq hv hb=>?_
 unfold Ent.F QA at hq
 dsimp only at hq
 split at hq
 ·rename_i ts fs
  obtain ⟨hc,hx⟩:=Ad hq
  rw [anE,anE,anE,dcE,dcE] at hc
  obtain ⟨⟨h1,h2⟩,h3,h4⟩:=hc
  refine ⟨Abv,(XF ts fs).trans (Eq.trans ?_ hx)⟩
  try dsimp only [shr]
  rw [h2,h4,Bool.and_true,Bool.and_true,Aa (dcT ⟨by omega,by simp,by simp,by simp,by omega,by omega⟩),Aa (dcT ⟨by omega,by simp,by simp,by simp,by omega,by omega⟩)]
  try simp only [zero_add,Nat.sub_zero,AM,List.nil_append,drop_zero]
  try rfl
 ·cases hq
def Lm:LoopEnt:=⟨43,[1,2,3,10,11,12],[1,2,3],[],fun
 | ([.ptr 0 0,.ptr 1 0,.ptr 2 0,.sl TPd l,.i .i64 m,.i .i64 i],[bp,br,bo,rp,r0,r1,r2,r3])=>(match bp with | some (.box [.sl TPd ts,.ref 3 0 0])=>(match br with | some (.box [.ref 4 0 0,.ref 5 0 0])=>(match bo with | some (.box [.ref 6 0 n,.ref 7 0 0])=>(match rp with | some (.drow FNd zp none)=>(match r0 with | some (.drow TPd z0 none)=>(match r1 with | some (.drow FNd z1 none)=>(match r2 with | some (.drow TPd os none)=>(match r3 with | some (.drow FNd z3 none)=>.need (decide (0<=i/\i.toNat<=l.length/\m=l.length/\n=os.length/\n+(l.length-i.toNat)<=2000000000/\l.length<=2000000000)&&l.all BM) (.leaf (.exit 0,([.ptr 0 0,.ptr 1 0,.ptr 2 0],[some (.box [.sl TPd ts,.ref 3 0 0]),some (.box [.ref 4 0 0,.ref 5 0 0]),some (.box [.ref 6 0 (n+(l.length-i.toNat)),.ref 7 0 0]),some (.drow FNd zp none),some (.drow TPd z0 none),some (.drow FNd z1 none),some (.drow TPd (os++l.drop i.toNat) none),some (.drow FNd z3 none)]))) | _=>.no) | _=>.no) | _=>.no) | _=>.no) | _=>.no) | _=>.no) | _=>.no) | _=>.no)
 | _=>.no⟩
def Ns:LoopEnt:=⟨43,[2,3,28,29,30],[2,3],[],fun
 | ([.ptr 0 0,.ptr 1 0,.ref 2 0 0,.i .i64 m,.i .i64 i],[br,bo,rp,r0,r1,r2,r3])=>(match br with | some (.box [.ref 3 0 0,.ref 4 0 0])=>(match bo with | some (.box [.ref 5 0 k,.ref 6 0 0])=>(match rp with | some (.drow FNd _ none)=>(match r0 with | some (.drow TPd z0 none)=>(match r1 with | some (.drow FNd z1 none)=>(match r2 with | some (.drow TPd z2 none)=>(match r3 with | some (.drow FNd z3 none)=>.need (decide (m<=i)) (.leaf (.exit 2,([.ptr 0 0,.ptr 1 0],[some (.box [.ref 2 0 0,.ref 3 0 0]),some (.box [.ref 4 0 k,.ref 5 0 0]),some (.drow TPd z0 none),some (.drow FNd z1 none),some (.drow TPd z2 none),some (.drow FNd z3 none)]))) | _=>.no) | _=>.no) | _=>.no) | _=>.no) | _=>.no) | _=>.no) | _=>.no)
 | _=>.no⟩
def QB:Gm
 | [.agg [.sl TPd ts,.nl]],[]=>.need (decide (ts.length<=1000000000)&&ts.all BM) (.leaf (.agg [.ref 0 0 ts.length,.ref 1 0 0],[some (.drow TPd ts none),some (.drow FNd [] none)]))
 | _,_=>.no

abbrev WT:FuncId->Option Ent:=Ab [(107,.rd1 DY),(62,.rd1 FO)]
theorem YX (ts l os z0:List Tp) (zp z1 z3:List Fa) (m i:Int) (n:Nat):Av prog WT (Ab [(3,Lm),(9,Ns)]) 0 (body f51 0) Lm ([.ptr 0 0,.ptr 1 0,.ptr 2 0,.sl TPd l,.j m,.j i],[some (.box [.sl TPd ts,.ref 3 0 0]),some (.box [.ref 4 0 0,.ref 5 0 0]),some (.box [.ref 6 0 n,.ref 7 0 0]),some (.drow FNd zp none),some (.drow TPd z0 none),some (.drow FNd z1 none),some (.drow TPd os none),some (.drow FNd z3 none)]) =
 ((ifB (decide (i<m)) (ifT (decide ((0:Int)<=i)&&decide (i<(↑l.length:Int))) (Aj l[i.toNat]? fun z=>ifT (decide (List.length z.snd.fst.fst<=(1000000000 :
 Nat))) (ifT (decide (0=0/\n=os.length/\0=0/\1=1/\1=1/\0=0)&&
 (TPd.size.beq TPd.size&&[V.s z.fst,V.ref 120 0 (List.length z.snd.fst.fst),V.j z.snd.snd.fst].all V.single&&(decide ((n+1)*48<=
 140737488355328)&&decide (n+1<=maxI)))) (some (Ex.normal,[V.ptr 0 0,V.ptr 1 0,V.ptr 2 0,V.sl TPd l,V.j m,V.j (i64.wrap (i +
 (1:Int)))],[some (Blk.box [V.sl TPd ts,V.ref 3 0 0]),some (Blk.box [V.ref 4 0 0,V.ref 5 0 0]),some (Blk.box [V.ref 6 0 (n+1),V.ref 7 0 0]),some
 (Blk.drow FNd zp none),some (Blk.drow TPd z0 none),some (Blk.drow FNd z1 none),some (Blk.drow TPd ((os++TPd.dflt::Ai TPd.den).set os.length (z.fst,(take
 (List.length z.snd.fst.fst) (drop 0 z.snd.fst.fst),()),z.snd.snd.fst,())) none),some (Blk.drow FNd z3 none)]))))) (some (Ex.exit 0,[V.ptr 0 0,V.ptr 1
 0,V.ptr 2 0],[some (Blk.box [V.sl TPd ts,V.ref 3 0 0]),some (Blk.box [V.ref 4 0 0,V.ref 5 0 0]),some (Blk.box [V.ref 6 0 n,V.ref 7 0 0]),some (Blk.drow FNd zp
 none),some (Blk.drow TPd z0 none),some (Blk.drow FNd z1 none),some (Blk.drow TPd os none),some (Blk.drow FNd z3 none)]))):_):=by kernel_rfl
theorem Abr (z0 z2:List Tp) (zp z1 z3:List Fa) (m i:Int) (k:Nat):Av prog WT (Ab [(3,Lm),(9,Ns)]) 0 (body f51 1) Ns ([.ptr 0 0,.ptr 1 0,.ref 2 0 0,.j m,.j i],[some (.box [.ref 3 0 0,.ref 4 0 0]),some (.box [.ref 5 0 k,.ref 6 0 0]),some (.drow FNd zp none),some (.drow TPd z0 none),some (.drow FNd z1 none),some (.drow TPd z2 none),some (.drow FNd z3 none)]) =
 ((ifB (decide (i<m)) (ifT (decide ((0:Int)<=i)&&decide (i<(↑(0:Nat):Int))) (Aj zp[0+i.toNat]? fun _=>none)) (some (Ex.exit 2,[V.ptr 0 0,V.ptr
 1 0],[some (Blk.box [V.ref 2 0 0,V.ref 3 0 0]),some (Blk.box [V.ref 4 0 k,V.ref 5 0 0]),some (Blk.drow TPd z0 none),some (Blk.drow FNd z1 none),some (Blk.drow TPd
 z2 none),some (Blk.drow FNd z3 none)]))):_):=by kernel_rfl
theorem XB (ts:List Tp):Da prog WT (Ab [(3,Lm),(9,Ns)]) f51 [.agg [.sl TPd ts,.nl]] [] =
 ((ifT (decide ((0:Int)<=(0:Int)/\0<=ts.length/\(↑ts.length:Int)=(↑ts.length:Int)/\0=0/\0+(ts.length-0)<=
 2000000000/\ts.length<=2000000000)&&ts.all BM) (some (V.agg [V.ref 0 0 (0+(ts.length-0)),V.ref 1 0 0],[some (Blk.drow TPd
 (Ai TPd.den++drop 0 ts) none),some (Blk.drow FNd (Ai FNd.den) none)]))):_):=by kernel_rfl
theorem YY {l:List Tp} {ts z0:List Tp} {zp z1 z3:List Fa} (hx:l.length<=2000000000) (ho : ∀ z∈l,BM z=true) : ∀ (j i:Nat) (os:List Tp),i+j=l.length->os.length+j<=2000000000->
  Runs prog WT (Ab [(3,Lm),(9,Ns)]) 0 (body f51 0) Lm ([.ptr 0 0,.ptr 1 0,.ptr 2 0,.sl TPd l,.j l.length,.j (i:Int)],[some (.box [.sl TPd ts,.ref 3 0 0]),some (.box [.ref 4 0 0,.ref 5 0 0]),some (.box [.ref 6 0 os.length,.ref 7 0 0]),some (.drow FNd zp none),some (.drow TPd z0 none),some (.drow FNd z1 none),some (.drow TPd os none),some (.drow FNd z3 none)]) (.exit 0) ([.ptr 0 0,.ptr 1 0,.ptr 2 0],[some (.box [.sl TPd ts,.ref 3 0 0]),some (.box [.ref 4 0 0,.ref 5 0 0]),some (.box [.ref 6 0 (os.length+(l.length-i)),.ref 7 0 0]),some (.drow FNd zp none),some (.drow TPd z0 none),some (.drow FNd z1 none),some (.drow TPd (os++l.drop i) none),some (.drow FNd z3 none)])
 | 0,i,os,hi,hl=>by
  have hq:=YX ts l os z0 zp z1 z3 l.length (i:Int) os.length
  try dsimp only [shr] at hq
  rw [Ac (dcF (by omega))] at hq
  rw [drop_eq_nil_of_le (by omega),append_nil,show l.length-i=0 by omega,Nat.add_zero]
  exact .stop _ _ _ hq (by simp)
 | j+1,i,os,hi,hl=>by
  have hM:maxI=9223372036854775807:=rfl
  have h1:i<l.length:=by omega
  have hq:=YX ts l os z0 zp z1 z3 l.length (i:Int) os.length
  try dsimp only [shr] at hq
  have ho1:=ho _ (getElem_mem h1)
  have ih:=YY (ts:=ts) (zp:=zp) (z0:=z0) (z1:=z1) (z3:=z3) hx ho j (i+1) (os++[l[i]]) (by omega) (by simp; omega)
  rw [append_assoc,singleton_append,<-drop_eq_getElem_cons h1,List.length_append,List.length_singleton,show os.length+1+(l.length-(i+1))=os.length+(l.length-i) by omega] at ih
  rw [Ag (dcT (by omega)),Aa (by simp only [anE,dcE]; omega),ntN,gtE h1,Am,Aq (n:=i) (by omega)] at hq
  generalize l[i]=z at hq ho1 ih
  obtain ⟨a,⟨l_,⟨⟩⟩,c,⟨⟩⟩:=z
  dsimp only at hq ho1
  unfold BM at ho1
  rw [Aa (by first | exact ho1 | (rw [dcE] at ho1 ⊢; omega))] at hq
  rw [Aa (by simp only [anE,dcE]; refine ⟨⟨by first | trivial | rfl,by first | trivial | rfl,by first | trivial | rfl,by first | trivial | rfl,by first | trivial | rfl,by first | trivial | rfl⟩,⟨by first | trivial | rfl,by first | trivial | rfl⟩,by omega,by omega⟩)] at hq
  simp only [AM,drop_zero,take_length,Nc] at hq
  exact .step _ _ _ _ hq ih
theorem Abs:At prog WT (Ab [(3,Lm),(9,Ns)]) 0 (f51.body.getD .skip):=by
 refine LoopsI.loops (cs:=[body f51 0,body f51 1]) (.cons (ent:=Lm) (by kernel_rfl) (fun d e d' h=>?_) (.cons (ent:=Ns) (by kernel_rfl) (fun d e d' h=>?_) .nil)) (by kernel_rfl)
 ·unfold Lm at h
  dsimp only at h
  repeat' split at h
  all_goals first | contradiction | skip
  obtain ⟨hc,hx⟩:=Ad h
  rw [anE,dcE] at hc
  obtain ⟨⟨a0,a1,a2,a3,a4,a6⟩,a5⟩:=hc
  obtain ⟨i,rfl⟩:=eq_ofNat_of_zero_le a0
  subst a2
  subst a3
  cases hx
  exact YY a6 (all_eq_true.1 a5) _ i _ (add_sub_of_le a1) a4
 ·unfold Ns at h
  dsimp only at h
  repeat' split at h
  all_goals first | contradiction | skip
  obtain ⟨hc,hx⟩:=Ad h
  have hc:=of_decide_eq_true hc
  cases hx
  refine .stop _ _ _ ((Abr _ _ _ _ _ _ _ _).trans ?_) (by simp)
  try dsimp only [shr]
  rw [Ac (dcF (by omega))]
theorem ZB:Af prog 51 (Ent.rd1 QB).F:=by
 refine A6 (kc func107 RX (kc func62 Xr KnowsL.nil)).knows (Λ:=(Ab [(3,Lm),(9,Ns)])) func51 (c:=f51.body.getD .skip) (by kernel_rfl) fun vs bs r hq hv hb=>?_
 unfold Ent.F QB at hq
 dsimp only at hq
 split at hq
 ·rename_i ts
  obtain ⟨hc,hx⟩:=Ad hq
  rw [anE,dcE] at hc
  obtain ⟨h1,h2⟩:=hc
  refine ⟨Abs,(XB ts).trans (Eq.trans ?_ hx)⟩
  try dsimp only [shr]
  rw [h2,Bool.and_true,Aa (dcT ⟨by omega,by simp,by simp,by simp,by omega,by omega⟩)]
  try simp only [zero_add,Nat.sub_zero,AM,List.nil_append,drop_zero]
  try rfl
 ·cases hq

def QJ:Gm
 | [.agg [.s _a,.sl TCd _l,.i .i64 c]],[]=>.leaf (.b (c != 0),[])
 | _,_=>.no
def N5  : LoopEnt:=⟨19,[0,1,4,7,8],[],[4],fun
 | ([.sl TPd l,.fn 54 [] [],.i .i64 _,.i .i64 k,.i .i64 i],[])=>
  .need (decide (0<=i/\i.toNat<=l.length/\l.length<=maxI/\k=l.length)) (.br (decide (Ap (fun z:Tp=>z.2.2.1 != 0) i.toNat (l.drop i.toNat)<0)) (.leaf (.exit 0,([],[]))) (.leaf (.ret,([.i .i64 (Ap (fun z:Tp=>z.2.2.1 != 0) i.toNat (l.drop i.toNat))],[]))))
 | _=>.no⟩
def Si  : Gm
 | [.sl TPd l,.fn 54 [] []],[]=>.leaf (.i .i64 (Ap (fun z:Tp=>z.2.2.1 != 0) 0 l),[])
 | _,_=>.no
def VB  : Gm
 | [.sl TPd l,.fn 54 [] []],[]=>.leaf (.b (l.any (fun z:Tp=>z.2.2.1 != 0)),[])
 | _,_=>.no
def RK (l:List Tp):Bool:=l.any (fun z:Tp=>z.2.2.1 != 0)
def Kd (l:List Tp):Bool:=!RK l&&F5 l []
def nbL (l:List Tp):List Tp:=bif Kd l then l else []
def OJ (l:List Tp):Bool:=(decide (l.length<=1000000000)&&l.all BM)&&(decide (l.length<=4000000000)&&l.all Ef)
def nbG:Gm
 | [.sl TPd l],[]=>.need (OJ l) (.leaf (.tup [.agg [.ref 0 0 (nbL l).length,.ref 1 0 0],.b (Kd l)],[some (.drow TPd (nbL l) none),some (.drow FNd [] none)]))
 | _,_=>.no
def nbE:LoopEnt:=⟨26,[0,2,7,8,9],[0,2],[2,3],fun
 | ([.sl TPd ts,.ptr 0 0,.sl TPd l,.i .i64 m,.i .i64 i],[br,r0,r1])=>(match br with | some (.box [.ref 1 0 0,.ref 2 0 0])=>(match r0 with | some (.drow TPd z0 none)=>(match r1 with | some (.drow FNd z1 none)=>.need (decide (0<=i/\i.toNat<=l.length/\m=l.length/\l.length<=maxI/\z0.length=0/\z1.length=0)) (.br (RK (l.drop i.toNat)) (.leaf (.ret,([.ptr 0 0,.b false],[some (.box [.ref 1 0 0,.ref 2 0 0]),some (.drow TPd [] none),some (.drow FNd [] none)]))) (.leaf (.exit 0,([.sl TPd ts,.ptr 0 0],[some (.box [.ref 1 0 0,.ref 2 0 0]),some (.drow TPd z0 none),some (.drow FNd z1 none)])))) | _=>.no) | _=>.no) | _=>.no)
 | _=>.no⟩

theorem XP:Af prog 54 (Ent.rd1 QJ).F:=by
 refine Ae KnowsL.nil.knows (Λ:=Ab []) func54 (c:=f54.body.getD .skip) (by kernel_rfl) fun vs bs r hq hv hb=>?_
 unfold Ent.F QJ at hq
 dsimp only at hq
 split at hq
 ·rename_i a l c
  have e:Ay prog (Ab []) (Ab []) f54 [.agg [.s a,.sl TCd l,.j c]] []=some (.b (c != 0),[]):=by kernel_rfl
  exact ⟨Al _,e.trans hq⟩
 ·cases hq
theorem LW   (l:List (Tp)) (r k i:Int):Av prog (Ab [(54,.rd1 QJ)]) (Ab [(2,N5)]) 0 (body f109 0) N5 ([.sl TPd l,.fn 54 [] [],.j r,.j k,.j i],[]) =
 ((ifB (decide (i<k)) (ifT (decide ((0:Int)<=i)&&decide (i<(↑l.length:Int))) (Aj l[i.toNat]? fun z=>ifB (z.snd.snd.fst != (0:Int)) (some (Ex.ret,[V.i .i64
 i],[])) (some (Ex.normal,[V.sl TPd l,V.fn 54 [] [],V.j r,V.j k,V.j (i64.wrap (i+(1:Int)))],[])))) (some (Ex.exit 0,
 [],[]))):_):=by kernel_rfl
theorem OI   {l:List (Tp)} {r:Int} (hx:l.length<=maxI) : ∀ (j i:Nat),i+j=l.length->∀ e d',(.br (decide (Ap (fun z:Tp=>z.2.2.1 != 0) i (l.drop i)<0)) (.leaf (.exit 0,([],[]))) (.leaf (.ret,([.j (Ap (fun z:Tp=>z.2.2.1 != 0) i (l.drop i))],[]))):Br (Ex×Dt)).run=some (e,d')->
  Runs prog (Ab [(54,.rd1 QJ)]) (Ab [(2,N5)]) 0 (body f109 0) N5 ([.sl TPd l,.fn 54 [] [],.j r,.j (l.length:Int),.j (i:Int)],[]) e d'
 | 0,i,hi,e,d',h=>by
  have e1:l.drop i=[]:=drop_eq_nil_of_le (by omega)
  rw [e1,Bv,Ap,if_pos (by omega)] at h
  cases h
  have hr:=LW  l r l.length i
  rw [Ac (dcF (by omega))] at hr
  exact .stop _ _ _ hr (by simp)
 | j+1,i,hi,e,d',h=>by
  have h1:i<l.length:=by omega
  have hr:=LW  l r l.length i
  rw [Ag (dcT (by omega)),Aa (by simp only [anE,dcE]; omega)] at hr
  simp only [ntN,gtE h1,Am,Aq (n:=i) (by omega)] at hr
  rw [drop_eq_getElem_cons h1,Bv,Ap] at h
  by_cases he:(fun z:Tp=>z.2.2.1 != 0) l[i]=true
  ·rw [if_pos he,if_neg (by omega)] at h
   cases h
   rw [Ag he] at hr
   exact .stop _ _ _ hr (by simp)
  ·rw [if_neg he] at h
   rw [Ac (by simpa using he)] at hr
   exact .step _ _ _ _ hr (OI  hx j (i+1) (by omega) e d' (by rw [Bv]; exact h))
theorem ZK  : At prog (Ab [(54,.rd1 QJ)]) (Ab [(2,N5)]) 0 (f109.body.getD .skip):=by
 refine An (a:=body f109 0) (by kernel_rfl) fun d e d' h=>?_
 unfold N5 at h
 dsimp only at h
 split at h
 ·obtain ⟨hc,h'⟩:=Ad h
  obtain ⟨h0,h1,h2,rfl⟩:=of_decide_eq_true hc
  obtain ⟨i,rfl⟩:=eq_ofNat_of_zero_le h0
  exact OI  h2 _ i (add_sub_of_le h1) e d' h'
 ·cases h
theorem XO   (l:List (Tp)) (hx:l.length<=maxI):Ay prog (Ab [(54,.rd1 QJ)]) (Ab [(2,N5)]) f109 [.sl TPd l,.fn 54 [] []] []=some (.j (Ap (fun z:Tp=>z.2.2.1 != 0) 0 l),[]):=by
 have e:Ay prog (Ab [(54,.rd1 QJ)]) (Ab [(2,N5)]) f109 [.sl TPd l,.fn 54 [] []] [] =
  ((ifT (decide ((0:Int)<=(0:Int)/\0<=l.length/\l.length<=maxI/\(↑l.length:Int)=(↑l.length:Int))) (ifB (decide (Ap (fun z=>z.snd.snd.fst != (0 :
 Int)) 0 (drop 0 l)<(0:Int))) (some (V.j (-1),[])) (some (V.j (Ap (fun z=>z.snd.snd.fst != (0:Int)) 0 (drop (0 :
 Nat) l)),[])))):_):=by kernel_rfl
 rw [e,Aa (dcT ⟨by omega,by omega,hx,rfl⟩)]
 simp only [drop_zero]
 by_cases q:Ap (fun z:Tp=>z.2.2.1 != 0) 0 l<0
 ·rw [Ag (dcT q),Cq _ _ _ q]
 ·rw [Ac (dcF q)]
theorem XM  : Af prog 109 (Ent.rd1 Si).F:=by
 refine Ae (kc func54 XP KnowsL.nil).knows (Λ:=(Ab [(2,N5)])) func109 (c:=f109.body.getD .skip) (by kernel_rfl) fun vs bs r h hv hb=>?_
 unfold Ent.F Si at h
 dsimp only at h
 split at h
 ·rename_i l 
  have h':=h
  exact ⟨ZK ,(XO  l (hv (.sl TPd l) (by simp)).1).trans (by cases h'; rfl)⟩
 ·cases h
theorem VC   (l:List (Tp)):Ay prog (Ab [(109,.rd1 Si)]) (Ab []) f53 [.sl TPd l,.fn 54 [] []] []=some (.b (l.any (fun z:Tp=>z.2.2.1 != 0)),[]):=by
 have e:Ay prog (Ab [(109,.rd1 Si)]) (Ab []) f53 [.sl TPd l,.fn 54 [] []] [] =
  ((some (V.b (decide (Ap (fun z=>z.snd.snd.fst != (0:Int)) 0 l>=(0:Int))),[])):_):=by kernel_rfl
 rw [e]
 skip
 rw [EK]
theorem XN  : Af prog 53 (Ent.rd1 VB).F:=by
 refine Ae (kc func109 (XM ) KnowsL.nil).knows (Λ:=Ab []) func53 (c:=f53.body.getD .skip) (by kernel_rfl) fun vs bs r h hv hb=>?_
 unfold Ent.F VB at h
 dsimp only at h
 split at h
 ·rename_i l 
  have h':=h
  exact ⟨Al _,(VC  l).trans (by cases h'; rfl)⟩
 ·cases h
theorem VA (l:List Tp):Da prog (Ab [(12,.rd1 Aar),(53,.rd1 VB),(55,.rd1 QA)]) (Ab []) f22 [.sl TPd l] [] =
 ((ifT (Lk l (Ai FNd.den)) (ifB (!F5 l (Ai FNd.den)) (some (V.tup [V.agg [V.ref 0 0 0,V.ref 1 0 0],V.b false],[some (Blk.drow TPd (Ai TPd.den) none),some
 (Blk.drow FNd (Ai FNd.den) none)])) (ifB (l.any fun z=>z.snd.snd.fst != (0:Int)) (some (V.tup [V.agg [V.ref 0 0 0,V.ref 1 0 0],V.b false],[some (Blk.drow TPd
 (Ai TPd.den) none),some (Blk.drow FNd (Ai FNd.den) none)])) (ifT (decide (l.length<=1000000000)&&l.all BM&&(decide (0<=1000000000)
 && (Ai FNd.den).all J2)) (some (V.tup [V.agg [V.ref 0 0 l.length,V.ref 1 0 0],V.b true],[some (Blk.drow TPd l none),some (Blk.drow FNd (Ai FNd.den) none)])))))):_):=by kernel_rfl
abbrev YJ:FuncId->Option Ent:=Ab [(51,.rd1 QB),(10,.rd1 W3)]
theorem LV (ts l z0:List Tp) (z1:List Fa) (m i:Int):Av prog YJ (Ab [(2,nbE)]) 0 (body f20 0) nbE ([.sl TPd ts,.ptr 0 0,.sl TPd l,.j m,.j i],[some (.box [.ref 1 0 0,.ref 2 0 0]),some (.drow TPd z0 none),some (.drow FNd z1 none)]) =
 ((ifB (decide (i<m)) (ifT (decide ((0:Int)<=i)&&decide (i<(↑l.length:Int))) (Aj l[i.toNat]? fun z=>ifB (z.snd.snd.fst != (0:Int)) (some (Ex.ret,[V.ptr 0
 0,V.b false],[some (Blk.box [V.ref 1 0 0,V.ref 2 0 0]),some (Blk.drow TPd (Ai TPd.den) none),some (Blk.drow FNd (Ai FNd.den) none)])) (some (Ex.normal,[V.sl TPd
 ts,V.ptr 0 0,V.sl TPd l,V.j m,V.j (i64.wrap (i+(1:Int)))],[some (Blk.box [V.ref 1 0 0,V.ref 2 0 0]),some (Blk.drow TPd z0 none),some
 (Blk.drow FNd z1 none)])))) (some (Ex.exit 0,[V.sl TPd ts,V.ptr 0 0],[some (Blk.box [V.ref 1 0 0,V.ref 2 0 0]),some (Blk.drow TPd z0 none),some (Blk.drow FNd z1
 none)]))):_):=by kernel_rfl
theorem V9 (l:List Tp):Da prog YJ (Ab [(2,nbE)]) f20 [.sl TPd l] [] =
 ((ifT (decide ((0:Int)<=(0:Int)/\0<=l.length/\(↑l.length:Int)=(↑l.length:Int)/\l.length<=maxI/\0=0/\0=0)) (ifB
 (RK (drop 0 l)) (some (V.tup [V.agg [V.ref 0 0 0,V.ref 1 0 0],V.b false],[some (Blk.drow TPd (Ai TPd.den) none),some (Blk.drow FNd (Ai FNd.den)
 none)])) (ifT (decide (l.length<=1000000000)&&l.all BM) (ifT (Lk (take l.length (drop 0 l)) (Ai FNd.den)) (ifB (!H8 (take
 l.length (drop 0 l)) (Ai FNd.den)) (some (V.tup [V.agg [V.ref 0 0 0,V.ref 1 0 0],V.b false],[some (Blk.drow TPd (Ai TPd.den) none),some (Blk.drow FNd
 (Ai FNd.den) none)])) (some (V.tup [V.agg [V.ref 0 0 l.length,V.ref 1 0 0],V.b true],[some (Blk.drow TPd l none),some (Blk.drow FNd (Ai FNd.den) none)]))))))):_):=by kernel_rfl
theorem nbi:Af prog 22 (Ent.rd1 nbG).F:=by
 refine A6 (kc func12 Yi (kc func53 XN (kc func55 ZH KnowsL.nil))).knows (Λ:=Ab []) func22 (c:=f22.body.getD .skip) (by kernel_rfl) fun vs bs r hq hv hb=>?_
 unfold Ent.F nbG at hq
 dsimp only at hq
 split at hq
 ·rename_i l
  obtain ⟨hc,hx⟩:=Ad hq
  unfold OJ at hc
  simp only [anE,dcE] at hc
  obtain ⟨⟨h1,h2⟩,h3,h4⟩:=hc
  refine ⟨Al _,(VA l).trans (Eq.trans ?_ hx)⟩
  try dsimp only [shr]
  rw [Aa (show Lk l (Ai _)=true by unfold Lk; rw [h4,AM]; simp; omega),Aa (show (decide (l.length<=1000000000)&&l.all BM&&(decide ((0:Nat)<=1000000000)&&(Ai _).all J2))=true by rw [h2,AM,dcT h1]; rfl)]
  unfold nbL Kd RK
  simp only [AM]
  cases F5 l []<;>cases l.any (fun z=>z.2.2.1 != 0)<;>rfl
 ·cases hq
theorem OH {ts l z0:List Tp} {z1:List Fa} (hx:l.length<=maxI) (hz:z0.length=0) (hz1:z1.length=0) : ∀ (j i:Nat),i+j=l.length->∀ e d',(Br.br (RK (l.drop i)) (.leaf (.ret,([.ptr 0 0,.b false],[some (.box [.ref 1 0 0,.ref 2 0 0]),some (.drow TPd [] none),some (.drow FNd [] none)]))) (.leaf (.exit 0,([.sl TPd ts,.ptr 0 0],[some (.box [.ref 1 0 0,.ref 2 0 0]),some (.drow TPd z0 none),some (.drow FNd z1 none)]))):Br (Ex×Dt)).run=some (e,d')->
  Runs prog YJ (Ab [(2,nbE)]) 0 (body f20 0) nbE ([.sl TPd ts,.ptr 0 0,.sl TPd l,.j (l.length:Int),.j (i:Int)],[some (.box [.ref 1 0 0,.ref 2 0 0]),some (.drow TPd z0 none),some (.drow FNd z1 none)]) e d'
 | 0,i,hi,e,d',h=>by
  have hq:=LV ts l z0 z1 l.length i
  try dsimp only [shr] at hq
  rw [Ac (dcF (by omega))] at hq
  rw [drop_eq_nil_of_le (by omega)] at h
  cases h
  exact .stop _ _ _ hq (by simp)
 | j+1,i,hi,e,d',h=>by
  have h1:i<l.length:=by omega
  have hq:=LV ts l z0 z1 l.length i
  try dsimp only [shr] at hq
  have ih:=OH (ts:=ts) (z0:=z0) (z1:=z1) hx hz hz1 j (i+1) (by omega) e d'
  rw [drop_eq_getElem_cons h1] at h
  rw [Ag (dcT (by omega)),Aa (by simp only [anE,dcE]; omega),ntN,gtE h1,Am,Aq (n:=i) (by omega)] at hq
  unfold RK at h ih
  rw [List.any_cons] at h
  cases hc:(l[i].2.2.1 != 0)
  ·rw [hc] at hq h
   rw [Bool.false_or] at h
   exact .step _ _ _ _ hq (ih h)
  ·rw [hc] at hq h
   rw [Bool.true_or] at h
   simp only [AM] at hq
   cases h
   exact .stop _ _ _ hq (by simp)
theorem ZJ:At prog YJ (Ab [(2,nbE)]) 0 (f20.body.getD .skip):=by
 refine An (a:=body f20 0) (by kernel_rfl) fun d e d' h=>?_
 unfold nbE at h
 dsimp only at h
 repeat' split at h
 all_goals first | contradiction | skip
 obtain ⟨hc,hx⟩:=Ad h
 obtain ⟨a0,a1,a2,a3,a4,a5⟩:=of_decide_eq_true hc
 obtain ⟨i,rfl⟩:=eq_ofNat_of_zero_le a0
 subst a2
 exact OH a3 a4 a5 _ i (add_sub_of_le a1) e d' hx
theorem nbs:Af prog 20 (Ent.rd1 nbG).F:=by
 refine A6 (kc func51 ZB (kc func10 Xt KnowsL.nil)).knows (Λ:=(Ab [(2,nbE)])) func20 (c:=f20.body.getD .skip) (by kernel_rfl) fun vs bs r hq hv hb=>?_
 unfold Ent.F nbG at hq
 dsimp only at hq
 split at hq
 ·rename_i l
  obtain ⟨hc,hx⟩:=Ad hq
  unfold OJ at hc
  simp only [anE,dcE] at hc
  obtain ⟨⟨h1,h2⟩,h3,h4⟩:=hc
  have hM:maxI=9223372036854775807:=rfl
  refine ⟨ZJ,(V9 l).trans (Eq.trans ?_ hx)⟩
  try dsimp only [shr]
  rw [Aa (dcT ⟨by omega,by simp,by simp,by omega,by simp,by simp⟩),Aa (show (decide (l.length<=1000000000)&&l.all BM)=true by rw [h2,dcT h1]; rfl),Aa (show Lk _ (Ai _)=true by unfold Lk; simp only [drop_zero,take_length]; rw [h4,AM]; simp; omega)]
  unfold nbL Kd
  simp only [drop_zero,take_length,AM,<-TH]
  cases F5 l []<;>cases RK l<;>rfl
 ·cases hq

def hdL {α:Type} (p:Int->α->Bool) (w:α->Int):Int->List α->Bool
 | _,[]=>true
 | k,x::l=>p k x&&hdL p w (k+w x) l
def H2 (k:Int) (t:Tp):Bool:=(t.1==Bm k)&&(EG t.2.1.1 (A7 AD 6 (k+1) t.2.1.1.length)&&(t.2.2.1==k+1+6*(t.2.1.1.length:Int)))
def H3 (k:Int) (f:Fa):Bool:=(f.1==k)&&((f.2.1==Bm (k+1))&&(Ig f.2.2.1.1 (A7 AL 6 (k+2) f.2.2.1.1.length)&&(EG f.2.2.2.1.1 (A7 AD 6 (k+2+6*(f.2.2.1.1.length:Int)) f.2.2.2.1.1.length)&&(decide (f.2.2.2.2.1=A7 AQ 3 (k+2+6*(f.2.2.1.1.length:Int)+6*(f.2.2.2.1.1.length:Int)) f.2.2.2.2.1.length)&&(f.2.2.2.2.2.1==k+2+6*(f.2.2.1.1.length:Int)+6*(f.2.2.2.1.1.length:Int)+3*(f.2.2.2.2.1.length:Int))))))
def F3:LoopEnt:=⟨42,[0,1,4,5],[1,4],[4],fun
 | ([.sl TPd l,.i .i64 k,.i .i64 r,.i .i64 n],[])=>.need (decide (0<=n/\n.toNat<=l.length/\l.length<=maxI/\0<=k/\k+AS AR (l.drop n.toNat)<=lim)) (.br (hdL H2 AR k (l.drop n.toNat)) (.leaf (.exit 0,([.i .i64 (k+AS AR (l.drop n.toNat)),.i .i64 r],[]))) (.leaf (.ret,([.i .i64 (-1)],[]))))
 | _=>.no⟩
def Rs:Gm
 | [.sl TPd l,.i .i64 k],[]=>.need (decide (l.length<=maxI/\0<=k/\k+AS AR l<=lim)) (.br (hdL H2 AR k l) (.leaf (.i .i64 (k+AS AR l),[])) (.leaf (.i .i64 (-1),[])))
 | _,_=>.no
def F4:LoopEnt:=⟨70,[0,1,4,5],[1,4],[4],fun
 | ([.sl FNd l,.i .i64 k,.i .i64 r,.i .i64 n],[])=>.need (decide (0<=n/\n.toNat<=l.length/\l.length<=maxI/\0<=k/\k+AS B6 (l.drop n.toNat)<=lim)) (.br (hdL H3 B6 k (l.drop n.toNat)) (.leaf (.exit 0,([.i .i64 (k+AS B6 (l.drop n.toNat)),.i .i64 r],[]))) (.leaf (.ret,([.i .i64 (-1)],[]))))
 | _=>.no⟩
def Rv:Gm
 | [.sl FNd l,.i .i64 k],[]=>.need (decide (l.length<=maxI/\0<=k/\k+AS B6 l<=lim)) (.br (hdL H3 B6 k l) (.leaf (.i .i64 (k+AS B6 l),[])) (.leaf (.i .i64 (-1),[])))
 | _,_=>.no

abbrev YI:FuncId->Option Ent:=Ab [(57,.rd1 A5),(112,.rd1 FS)]
theorem IL (k r n:Int) (l:List Tp):Av prog YI (Ab [(2,F3)]) 0 (body f60 0) F3 ([.sl TPd l,.j k,.j r,.j n],[]) =
 ((ifB (decide (n<(↑l.length:Int))) (ifT (decide ((0:Int)<=n)&&decide (n<(↑l.length:Int))) (Aj l[n.toNat]? fun z=>ifT (decide (k<=lim)) (ifB (!z.fst==
 Bm k) (some (Ex.ret,[V.j (-1)],[])) (ifT (decide ((0:Int)<=n)&&decide (n<(↑l.length:Int))) (Aj l[n.toNat]? fun z=>ifT (decide ((0:Int)<=
 i64.wrap (k+(1:Int))/\i64.wrap (k+(1:Int))+(6:Int)*(↑(List.length z.snd.fst.fst):Int)<=lim)) (ifB (EG z.snd.fst.fst (A7 AD
 (6:Int) (i64.wrap (k+(1:Int))) (List.length z.snd.fst.fst))) (ifB (decide (i64.wrap (k+(1:Int))+(6:Int)*(↑(List.length z.snd.fst.fst) :
 Int)<(0:Int))) (some (Ex.ret,[V.j (-1)],[])) (ifT (decide ((0:Int)<=n)&&decide (n<(↑l.length:Int))) (Aj l[n.toNat]? fun z_1=>ifB
 (z_1.snd.snd.fst != i64.wrap (k+(1:Int))+(6:Int)*(↑(List.length z.snd.fst.fst):Int)) (some (Ex.ret,[V.j (-1)],[])) (some (Ex.normal,[V.sl TPd
 l,V.j (i64.wrap (i64.wrap (k+(1:Int))+(6:Int)*(↑(List.length z.snd.fst.fst):Int)+(1:Int))),V.j r,V.j (i64.wrap
 (n+(1:Int)))],[]))))) (some (Ex.ret,[V.j (-1)],[])))))))) (some (Ex.exit 0,[V.j k,V.j r],[]))):_):=by kernel_rfl
theorem Rr (k:Int) (l:List Tp):Ay prog YI (Ab [(2,F3)]) f60 [.sl TPd l,.j k] [] =
 ((ifT (decide ((0:Int)<=(0:Int)/\0<=l.length/\l.length<=maxI/\(0:Int)<=k/\k+AS AR (drop 0 l)<=lim)) (ifB (hdL H2 AR k
 (drop 0 l)) (some (V.j (k+AS AR (drop 0 l)),[])) (some (V.j (-1),[])))):_):=by kernel_rfl
abbrev YH:FuncId->Option Ent:=Ab [(57,.rd1 A5),(113,.rd1 Ih),(112,.rd1 FS),(72,.rd1 Ii)]
theorem IM (k r n:Int) (l:List Fa):Av prog YH (Ab [(2,F4)]) 0 (body f61 0) F4 ([.sl FNd l,.j k,.j r,.j n],[]) =
 ((ifB (decide (n<(↑l.length:Int))) (ifT (decide ((0:Int)<=n)&&decide (n<(↑l.length:Int))) (Aj l[n.toNat]? fun z=>ifB (z.fst != k) (some (Ex.ret,[V.i .i64
 (-1)],[])) (ifT (decide ((0:Int)<=n)&&decide (n<(↑l.length:Int))) (Aj l[n.toNat]? fun z=>ifT (decide (i64.wrap (k+(1:Int))<=lim)) (ifB
 (!z.snd.fst==Bm (i64.wrap (k+(1:Int)))) (some (Ex.ret,[V.j (-1)],[])) (ifT (decide ((0:Int)<=n)&&decide (n<(↑l.length:Int))) (Aj
 l[n.toNat]? fun z=>ifT (decide ((0:Int)<=i64.wrap (i64.wrap (k+(1:Int))+(1:Int))/\i64.wrap (i64.wrap (k+(1:Int))+(1 :
 Int))+(6:Int)*(↑(List.length z.snd.snd.fst.fst):Int)<=lim)) (ifB (Ig z.snd.snd.fst.fst (A7 AL (6:Int) (i64.wrap (i64.wrap (k+(1
 : Int))+(1:Int))) (List.length z.snd.snd.fst.fst))) (ifB (decide (i64.wrap (i64.wrap (k+(1:Int))+(1:Int))+(6:Int)*(↑(List.length
 z.snd.snd.fst.fst):Int)<(0:Int))) (some (Ex.ret,[V.j (-1)],[])) (ifT (decide ((0:Int)<=n)&&decide (n<(↑l.length:Int))) (Aj l[n.toNat]? fun z_1
 => ifT (decide ((0:Int)<=i64.wrap (i64.wrap (k+(1:Int))+(1:Int))+(6:Int)*(↑(List.length z.snd.snd.fst.fst):Int)/\i64.wrap
 (i64.wrap (k+(1:Int))+(1:Int))+(6:Int)*(↑(List.length z.snd.snd.fst.fst):Int)+(6:Int)*(↑(List.length z_1.snd.snd.snd.fst.fst):Int)<=lim))
 (ifB (EG z_1.snd.snd.snd.fst.fst (A7 AD (6:Int) (i64.wrap (i64.wrap (k+(1:Int))+(1:Int))+(6:Int)*(↑(List.length
 z.snd.snd.fst.fst):Int)) (List.length z_1.snd.snd.snd.fst.fst))) (ifB (decide (i64.wrap (i64.wrap (k+(1:Int))+(1:Int))+(6:Int) *
 (↑(List.length z.snd.snd.fst.fst):Int)+(6:Int)*(↑(List.length z_1.snd.snd.snd.fst.fst):Int)<(0:Int))) (some (Ex.ret,[V.j (-1)],[])) (ifT (decide ((0
 : Int)<=n)&&decide (n<(↑l.length:Int))) (Aj l[n.toNat]? fun z_2=>ifT (decide ((0:Int)<=i64.wrap (i64.wrap (k+(1:Int))+(1:Int)) +
 (6:Int)*(↑(List.length z.snd.snd.fst.fst):Int)+(6:Int)*(↑(List.length z_1.snd.snd.snd.fst.fst):Int)/\i64.wrap (i64.wrap (k+(1:Int)) +
 (1:Int))+(6:Int)*(↑(List.length z.snd.snd.fst.fst):Int)+(6:Int)*(↑(List.length z_1.snd.snd.snd.fst.fst):Int)+(3:Int)*(↑(List.length
 z_2.snd.snd.snd.snd.fst):Int)<=lim)) (ifB (decide (z_2.snd.snd.snd.snd.fst=A7 AQ (3:Int) (i64.wrap (i64.wrap (k+(1:Int))+(1:Int))
 + (6:Int)*(↑(List.length z.snd.snd.fst.fst):Int)+(6:Int)*(↑(List.length z_1.snd.snd.snd.fst.fst):Int)) (List.length z_2.snd.snd.snd.snd.fst))) (ifB (decide
 (i64.wrap (i64.wrap (k+(1:Int))+(1:Int))+(6:Int)*(↑(List.length z.snd.snd.fst.fst):Int)+(6:Int)*(↑(List.length
 z_1.snd.snd.snd.fst.fst):Int)+(3:Int)*(↑(List.length z_2.snd.snd.snd.snd.fst):Int)<(0:Int))) (some (Ex.ret,[V.j (-1)],[])) (ifT (decide ((0:Int)<=
 n)&&decide (n<(↑l.length:Int))) (Aj l[n.toNat]? fun z_3=>ifB (z_3.snd.snd.snd.snd.snd.fst != i64.wrap (i64.wrap (k+(1:Int))+(1:Int)) +
 (6:Int)*(↑(List.length z.snd.snd.fst.fst):Int)+(6:Int)*(↑(List.length z_1.snd.snd.snd.fst.fst):Int)+(3:Int)*(↑(List.length z_2.snd.snd.snd.snd.fst) :
 Int)) (some (Ex.ret,[V.j (-1)],[])) (some (Ex.normal,[V.sl FNd l,V.j (i64.wrap (i64.wrap (i64.wrap (k+(1:Int))+(1:Int))+(6
 : Int)*(↑(List.length z.snd.snd.fst.fst):Int)+(6:Int)*(↑(List.length z_1.snd.snd.snd.fst.fst):Int)+(3:Int)*(↑(List.length z_2.snd.snd.snd.snd.fst) :
 Int)+(1:Int))),V.j r,V.j (i64.wrap (n+(1:Int)))],[]))))) (some (Ex.ret,[V.j (-1)],[])))))) (some (Ex.ret,[V.j (-1)],[]))))))
 (some (Ex.ret,[V.j (-1)],[])))))))))) (some (Ex.exit 0,[V.j k,V.j r],[]))):_):=by kernel_rfl
theorem Ru (k:Int) (l:List Fa):Ay prog YH (Ab [(2,F4)]) f61 [.sl FNd l,.j k] [] =
 ((ifT (decide ((0:Int)<=(0:Int)/\0<=l.length/\l.length<=maxI/\(0:Int)<=k/\k+AS B6 (drop 0 l)<=lim)) (ifB (hdL H3 B6 k
 (drop 0 l)) (some (V.j (k+AS B6 (drop 0 l)),[])) (some (V.j (-1),[])))):_):=by kernel_rfl
theorem Wq {α β:Type} [BEq α] {a b:α} {x y:Option β}:ifB (a != b) x y=ifB (a==b) y x:=by unfold bne; cases a==b<;>rfl
theorem Wp {β:Type} {c:Bool} {x y:Option β}:ifB (!c) x y=ifB c y x:=by cases c<;>rfl
theorem Wr {β:Type} {a b:Bool} {x y:Option β}:ifB a (ifB b x y) y=ifB (a&&b) x y:=by cases a<;>rfl
theorem Px {α:Type} {p:Int->α->Bool} {w:α->Int} {k:Int} {l:List α} {n:Nat} (h:n<l.length):hdL p w k (l.drop n)=(p k l[n]&&hdL p w (k+w l[n]) (l.drop (n+1))):=by rw [drop_eq_getElem_cons h]; rfl
theorem K8 {l:List Tp} {r:Int} (hm:l.length<=maxI) : ∀ (j n:Nat) (k:Int),n+j=l.length->0<=k->k+AS AR (l.drop n)<=lim->Runs prog YI (Ab [(2,F3)]) 0 (body f60 0) F3 ([.sl TPd l,.j k,.j r,.j (n:Int)],[]) (bif hdL H2 AR k (l.drop n) then .exit 0 else .ret) (bif hdL H2 AR k (l.drop n) then [.j (k+AS AR (l.drop n)),.j r] else [.j (-1)],[])
 | 0,n,k,hn,h0,hk=>by
  have hr:=IL k r n l
  try dsimp only [shr] at hr
  rw [Ac (dcF (by omega))] at hr
  rw [drop_eq_nil_of_le (by omega),AS,hdL,Int.add_zero]
  exact .stop _ _ _ hr (by simp)
 | j+1,n,k,hn,h0,hk=>by
  have h1:n<l.length:=by omega
  have hM:maxI=9223372036854775807:=rfl
  have hr:=IL k r n l
  try dsimp only [shr] at hr
  have hp:=DO Fm (l.drop (n+1))
  have ih:=K8 (r:=r) hm j (n+1) (k+AR l[n]) (by omega) (by have:=Fm l[n]; omega) (by rw [add_assoc,<-BK h1]; exact hk)
  rw [add_assoc,<-BK h1] at ih
  rw [Px h1]
  have hk':=hk
  rw [BK h1] at hk'
  rw [Ag (dcT (by omega))] at hr
  simp only [ntN,gtE h1,Am] at hr
  generalize l[n]=z at hr hk' ih ⊢
  obtain ⟨a,⟨ts,⟨⟩⟩,c,⟨⟩⟩:=z
  dsimp only at hr
  have en:AR (a,(ts,()),c,())=2+6*(ts.length:Int):=rfl
  rw [en] at hk' ih ⊢
  unfold lim at hk'
  have hb:(decide ((0:Int)<=(n:Int))&&decide ((n:Int)<(l.length:Int)))=true:=by simp only [anE,dcE]; omega
  have hn1:i64.wrap ((n:Int)+1)=((n+1:Nat):Int):=by rw [Ax (by omega) (by omega)]; omega
  have w1:i64.wrap (k+1)=k+1:=Ax (by omega) (by omega)
  have w3:i64.wrap (k+1+6*(ts.length:Int)+1)=k+(2+6*(ts.length:Int)):=by rw [Ax (by omega) (by omega)]; omega
  simp only [hb,CX,hn1,w1] at hr
  try simp only [w2] at hr
  rw [Aa (dcT (by unfold lim; omega)),Aa (dcT ⟨by omega,by unfold lim; omega⟩),w3] at hr
  rw [Ac (dcF (show ¬k+1+6*(ts.length:Int)<0 by omega))] at hr
  simp only [Wq,Wp,Wr] at hr
  cases hq:H2 _ _
  ·unfold H2 at hq
   dsimp only at hq
   rw [hq] at hr
   exact .stop _ _ _ hr (by simp)
  ·unfold H2 at hq
   dsimp only at hq
   rw [hq] at hr
   rw [Bool.true_and]
   exact .step _ _ _ _ hr ih
theorem Wv:At prog YI (Ab [(2,F3)]) 0 (f60.body.getD .skip):=by
 refine An (a:=body f60 0) (by kernel_rfl) fun d e d' h=>?_
 unfold F3 at h
 dsimp only at h
 split at h
 ·rename_i l k r n
  obtain ⟨hc,hx⟩:=Ad h
  obtain ⟨a0,a1,a2,a3,a4⟩:=of_decide_eq_true hc
  obtain ⟨n,rfl⟩:=eq_ofNat_of_zero_le a0
  simp only [ntN] at a1 a4 hx
  have hl:=K8 (r:=r) a2 (l.length-n) n k (by omega) a3 a4
  rcases DD hx with ⟨h1,hx⟩ | ⟨h1,hx⟩
  ·cases hx
   rw [h1] at hl; exact hl
  ·cases hx
   rw [h1] at hl; exact hl
 ·cases h
theorem Aci:Af prog 60 (Ent.rd1 Rs).F:=by
 refine Ae (kc func57 CG (kc func112 Pv KnowsL.nil)).knows (Λ:=(Ab [(2,F3)])) func60 (c:=f60.body.getD .skip) (by kernel_rfl) fun vs bs r hq hv hb=>?_
 unfold Ent.F Rs at hq
 dsimp only at hq
 split at hq
 ·rename_i l k
  obtain ⟨hc,hx⟩:=Ad hq
  obtain ⟨a1,a2,a3⟩:=of_decide_eq_true hc
  refine ⟨Wv,(Rr k l).trans (Eq.trans ?_ hx)⟩
  try dsimp only [shr]
  rw [drop_zero,Aa (dcT ⟨Int.le_refl 0,zero_le _,a1,a2,a3⟩)]
  cases hdL H2 AR k l<;>rfl
 ·cases hq
theorem K9 {l:List Fa} {r:Int} (hm:l.length<=maxI) : ∀ (j n:Nat) (k:Int),n+j=l.length->0<=k->k+AS B6 (l.drop n)<=lim->Runs prog YH (Ab [(2,F4)]) 0 (body f61 0) F4 ([.sl FNd l,.j k,.j r,.j (n:Int)],[]) (bif hdL H3 B6 k (l.drop n) then .exit 0 else .ret) (bif hdL H3 B6 k (l.drop n) then [.j (k+AS B6 (l.drop n)),.j r] else [.j (-1)],[])
 | 0,n,k,hn,h0,hk=>by
  have hr:=IM k r n l
  try dsimp only [shr] at hr
  rw [Ac (dcF (by omega))] at hr
  rw [drop_eq_nil_of_le (by omega),AS,hdL,Int.add_zero]
  exact .stop _ _ _ hr (by simp)
 | j+1,n,k,hn,h0,hk=>by
  have h1:n<l.length:=by omega
  have hM:maxI=9223372036854775807:=rfl
  have hr:=IM k r n l
  try dsimp only [shr] at hr
  have hp:=DO Fn (l.drop (n+1))
  have ih:=K9 (r:=r) hm j (n+1) (k+B6 l[n]) (by omega) (by have:=Fn l[n]; omega) (by rw [add_assoc,<-BK h1]; exact hk)
  rw [add_assoc,<-BK h1] at ih
  rw [Px h1]
  have hk':=hk
  rw [BK h1] at hk'
  rw [Ag (dcT (by omega))] at hr
  simp only [ntN,gtE h1,Am] at hr
  generalize l[n]=z at hr hk' ih ⊢
  obtain ⟨w0,p,⟨ws,⟨⟩⟩,⟨v,⟨⟩⟩,b,c,⟨⟩⟩:=z
  dsimp only at hr
  have en:B6 (w0,p,(ws,()),(v,()),b,c,())=3+6*(ws.length:Int)+6*(v.length:Int)+3*(b.length:Int):=rfl
  rw [en] at hk' ih ⊢
  unfold lim at hk'
  have hb:(decide ((0:Int)<=(n:Int))&&decide ((n:Int)<(l.length:Int)))=true:=by simp only [anE,dcE]; omega
  have hn1:i64.wrap ((n:Int)+1)=((n+1:Nat):Int):=by rw [Ax (by omega) (by omega)]; omega
  have w1:i64.wrap (k+1)=k+1:=Ax (by omega) (by omega)
  have w2:i64.wrap (k+1+1)=k+2:=by rw [Ax (by omega) (by omega)]; omega
  have w3:i64.wrap (k+2+6*(ws.length:Int)+6*(v.length:Int)+3*(b.length:Int)+1)=k+(3+6*(ws.length:Int)+6*(v.length:Int)+3*(b.length:Int)):=by rw [Ax (by omega) (by omega)]; omega
  simp only [hb,CX,hn1,w1] at hr
  try simp only [w2] at hr
  rw [Aa (dcT (by unfold lim; omega)),Aa (dcT ⟨by omega,by unfold lim; omega⟩),Aa (dcT ⟨by omega,by unfold lim; omega⟩),Aa (dcT ⟨by omega,by unfold lim; omega⟩),w3] at hr
  rw [Ac (dcF (show ¬k+2+6*(ws.length:Int)<0 by omega)),Ac (dcF (show ¬k+2+6*(ws.length:Int)+6*(v.length:Int)<0 by omega)),Ac (dcF (show ¬k+2+6*(ws.length:Int)+6*(v.length:Int)+3*(b.length:Int)<0 by omega))] at hr
  simp only [Wq,Wp,Wr] at hr
  cases hq:H3 _ _
  ·unfold H3 at hq
   dsimp only at hq
   rw [hq] at hr
   exact .stop _ _ _ hr (by simp)
  ·unfold H3 at hq
   dsimp only at hq
   rw [hq] at hr
   rw [Bool.true_and]
   exact .step _ _ _ _ hr ih
theorem Ww:At prog YH (Ab [(2,F4)]) 0 (f61.body.getD .skip):=by
 refine An (a:=body f61 0) (by kernel_rfl) fun d e d' h=>?_
 unfold F4 at h
 dsimp only at h
 split at h
 ·rename_i l k r n
  obtain ⟨hc,hx⟩:=Ad h
  obtain ⟨a0,a1,a2,a3,a4⟩:=of_decide_eq_true hc
  obtain ⟨n,rfl⟩:=eq_ofNat_of_zero_le a0
  simp only [ntN] at a1 a4 hx
  have hl:=K9 (r:=r) a2 (l.length-n) n k (by omega) a3 a4
  rcases DD hx with ⟨h1,hx⟩ | ⟨h1,hx⟩
  ·cases hx
   rw [h1] at hl; exact hl
  ·cases hx
   rw [h1] at hl; exact hl
 ·cases h
theorem Acj:Af prog 61 (Ent.rd1 Rv).F:=by
 refine Ae (kc func57 CG (kc func113 Ws (kc func112 Pv (kc func72 Wu KnowsL.nil)))).knows (Λ:=(Ab [(2,F4)])) func61 (c:=f61.body.getD .skip) (by kernel_rfl) fun vs bs r hq hv hb=>?_
 unfold Ent.F Rv at hq
 dsimp only at hq
 split at hq
 ·rename_i l k
  obtain ⟨hc,hx⟩:=Ad hq
  obtain ⟨a1,a2,a3⟩:=of_decide_eq_true hc
  refine ⟨Ww,(Ru k l).trans (Eq.trans ?_ hx)⟩
  try dsimp only [shr]
  rw [drop_zero,Aa (dcT ⟨Int.le_refl 0,zero_le _,a1,a2,a3⟩)]
  cases hdL H3 B6 k l<;>rfl
 ·cases hq

def DV (ts:List Tp) (fs:List Fa):Int:=AS AR ts+AS B6 fs
def VI:Gm
 | [.agg [.ref 0 0 m,.ref 1 0 n],.i .i64 k],[.drow TPd ts none,.drow FNd fs none]=>.need (decide (m=ts.length/\n=fs.length/\0<=k/\k+DV ts fs<=lim)) (.leaf (.i .i64 (k+DV ts fs),[some (.drow TPd (mkL Dj AR k ts) none),some (.drow FNd (mkL HV B6 (k+AS AR ts) fs) none)]))
 | _,_=>.no
def Rw (k:Int) (ts:List Tp) (fs:List Fa):Bool:=hdL H2 AR k ts&&hdL H3 B6 (k+AS AR ts) fs
def Wy:Gm
 | [.agg [.sl TPd ts,.sl FNd fs],.i .i64 k],[]=>.need (decide (ts.length<=maxI/\fs.length<=maxI/\0<=k/\k+DV ts fs<=lim)) (.br (Rw k ts fs) (.leaf (.i .i64 (k+DV ts fs),[])) (.leaf (.i .i64 (-1),[])))
 | _,_=>.no

theorem RW {α:Type} (w:α->Nat) : ∀ {l:List α} {x:α},x∈l->w x<=(l.map w).sum
 | y::l,x,h=>by
  rw [map_cons,sum_cons]
  rcases List.mem_cons.1 h with rfl | h
  ·omega
  ·have:=RW w h; omega
theorem Abx {l:List Ty} (h:Gn l=true):nmL l=true:=by
 unfold nmL
 rw [all_eq_true]
 intro x hx
 have:=(HQ h).2 x hx
 unfold OD at this
 exact this
theorem U8 {t:Tp} (ho:Nz t=true) (hw:wTp t<=1048576):Ef t=true/\D4 t=true/\BM t=true:=by
 have hM:maxI=9223372036854775807:=rfl
 unfold wTp MP Lj at hw
 unfold Nz LS at ho
 rw [anE,dcE] at ho
 have hn:=Abx ho.2
 unfold Ef D4 GM BM
 simp only [anE,dcE]
 refine ⟨⟨by omega,by omega,hn⟩,by omega,by omega⟩
theorem TT (x:Nt):Gh x x=true:=by unfold Gh; simp
theorem M3 (x:Ty):Gg x x=true:=by unfold Gg; simp
theorem TN (x:Wt):Gf x x=true:=by unfold Gf; simp
theorem M6 (x:Tp):F9 x x=true:=by
 unfold F9 G3
 rw [Dw fun y _=>M3 y]; simp
theorem TX (x:Fa):Gi x x=true:=by
 unfold Gi MA G3
 rw [Dw fun y _=>M3 y,Dw fun y _=>TN y,Dw fun y _=>TT y]; simp
theorem TZ (ts:List Tp) (fs:List Fa):RD (ts,fs,()) (ts,fs,())=true:=by
 unfold RD
 rw [Dw fun y _=>M6 y,Dw fun y _=>TX y]; rfl
theorem Tk (ts:List Tp) (fs:List Fa) (m n:Nat) (k:Int):Ay prog (Ab [(24,.own N6),(59,.own QM)]) (Ab []) f25 [.agg [.ref 0 0 m,.ref 1 0 n],.j k] [.drow TPd ts none,.drow FNd fs none] =
 ((ifT (decide (m=ts.length/\(0:Int)<=k/\k+AS AR ts<=lim)) (ifT (decide (n=fs.length/\(0:Int)<=k+AS AR ts/\k+AS AR ts+AS B6 fs<=lim))
 (some (V.j (k+AS AR ts+AS B6 fs),[some (Blk.drow TPd (mkL Dj AR k ts) none),some (Blk.drow FNd (mkL HV B6 (k+AS AR ts) fs) none)])))):_):=by kernel_rfl
theorem TF (ts:List Tp) (fs:List Fa) (k:Int):Ay prog (Ab [(60,.rd1 Rs),(61,.rd1 Rv)]) (Ab []) f26 [.agg [.sl TPd ts,.sl FNd fs],.j k] [] =
 ((ifT (decide (ts.length<=maxI/\(0:Int)<=k/\k+AS AR ts<=lim)) (ifB (hdL H2 AR k ts) (ifB (decide (k+AS AR ts<(0:Int))) (some (V.j (-1),[]))
 (ifT (decide (fs.length<=maxI/\(0:Int)<=k+AS AR ts/\k+AS AR ts+AS B6 fs<=lim)) (ifB (hdL H3 B6 (k+AS AR ts) fs) (ifB (decide (k+AS
 AR ts+AS B6 fs<(0:Int))) (some (V.j (-1),[])) (some (V.j (k+AS AR ts+AS B6 fs),[]))) (some (V.j (-1),[]))))) (some (V.i .i64
 (-1),[])))):_):=by kernel_rfl
theorem FP (l:List Tp):0<=AS AR l:=DO Fm l
theorem LT (l:List Fa):0<=AS B6 l:=DO Fn l
theorem VH:Af prog 25 (Ent.own VI).F:=by
 refine Ae (kc func24 Zd (kc func59 Aby KnowsL.nil)).knows (Λ:=Ab []) func25 (c:=f25.body.getD .skip) (by kernel_rfl) fun vs bs r hq hv hb=>?_
 unfold Ent.F VI at hq
 dsimp only at hq
 split at hq
 ·rename_i m n k ts fs
  obtain ⟨hc,hx⟩:=Ad hq
  obtain ⟨rfl,rfl,h0,hk⟩:=of_decide_eq_true hc
  refine ⟨Al _,(Tk ts fs _ _ k).trans (Eq.trans ?_ hx)⟩
  have:=FP ts
  have:=LT fs
  unfold DV at hk ⊢
  try dsimp only [shr]
  rw [Aa (dcT ⟨by first | rfl | trivial,by omega,by omega⟩),Aa (dcT ⟨by first | rfl | trivial,by omega,by omega⟩),add_assoc]
  rfl
 ·cases hq
theorem Wx:Af prog 26 (Ent.rd1 Wy).F:=by
 refine Ae (kc func60 Aci (kc func61 Acj KnowsL.nil)).knows (Λ:=Ab []) func26 (c:=f26.body.getD .skip) (by kernel_rfl) fun vs bs r hq hv hb=>?_
 unfold Ent.F Wy at hq
 dsimp only at hq
 split at hq
 ·rename_i ts fs k
  obtain ⟨hc,hx⟩:=Ad hq
  obtain ⟨h1,h2,h0,hk⟩:=of_decide_eq_true hc
  refine ⟨Al _,(TF ts fs k).trans (Eq.trans ?_ hx)⟩
  have:=FP ts
  have:=LT fs
  unfold DV at hk ⊢
  unfold Rw
  try dsimp only [shr]
  rw [Aa (dcT ⟨by omega,by omega,by omega⟩),Ac (dcF (show ¬k+AS AR ts<0 by omega)),Aa (dcT ⟨by omega,by omega,by omega⟩),Ac (dcF (show ¬k+AS AR ts+AS B6 fs<0 by omega)),add_assoc]
  cases hdL H2 AR k ts<;>cases hdL H3 B6 (k+AS AR ts) fs<;>rfl
 ·cases hq
theorem N1 (k:Int) (t:Tp):AR (Dj k t)=AR t:=by unfold AR Dj; rw [Cw]
theorem Yl (k:Int) (t:Tp):H2 k (Dj k t)=true:=by
 unfold H2 Dj EG
 simp only [Cw,beq_self_eq_true,decide_true,Bool.and_true]
theorem Sf (k:Int) (t:Fa):B6 (HV k t)=B6 t:=by unfold B6 HV; simp only [Cw]
theorem Ym (k:Int) (t:Fa):H3 k (HV k t)=true:=by
 unfold H3 HV EG Ig
 simp only [Cw,beq_self_eq_true,decide_true,Bool.and_true]
theorem Jm {α:Type} {g:Int->α->α} {w:α->Int} (hw : ∀ k x,w (g k x)=w x) : ∀ (k:Int) (l:List α),AS w (mkL g w k l)=AS w l
 | _,[]=>rfl
 | k,x::l=>by simp only [mkL,AS,hw,Jm hw]
theorem Rt {α:Type} {p:Int->α->Bool} {g:Int->α->α} {w:α->Int} (hp : ∀ k x,p k (g k x)=true) (hw : ∀ k x,w (g k x)=w x) : ∀ (k:Int) (l:List α),hdL p w k (mkL g w k l)=true
 | _,[]=>rfl
 | k,x::l=>by simp only [mkL,hdL,hp,hw,Rt hp hw,Bool.and_self]
theorem Yn (k:Int) (ts:List Tp) (fs:List Fa):Rw k (mkL Dj AR k ts) (mkL HV B6 (k+AS AR ts) fs)=true:=by
 unfold Rw
 rw [Jm N1,Rt Yl N1,Rt Ym Sf]; rfl
theorem XH (k j:Int) (ts:List Tp) (fs:List Fa):DV (mkL Dj AR k ts) (mkL HV B6 j fs)=DV ts fs:=by
 unfold DV
 rw [Jm N1,Jm Sf]
theorem OF : ∀ l:List Tp,AS AR l<=2*(l.length:Int)+6*(Cm l:Int)
 | []=>by simp [AS,Cm]
 | x::l=>by
  have h:=OF l
  have hx:(x.2.1.1.length:Int)<=(wTp x:Int):=by unfold wTp MP Lj; omega
  have hs:Cm (x::l)=wTp x+Cm l:=by unfold Cm; rw [map_cons,sum_cons]
  rw [AS,hs,List.length_cons]
  unfold AR at h ⊢
  push_cast
  omega

abbrev YG:FuncId->Option Ent:=Ab [(19,.rd1 Qu),(21,.rd1 Qo),(20,.rd1 nbG),(22,.rd1 nbG),(13,.rd1 WF),(23,.rd1 NO),(24,.own N6),(25,.own VI),(26,.rd1 Wy)]
theorem Ts (l:List Tp):Ay prog YG (Ab []) f5 [.sl TPd l] [] =
 ((ifT (decide ((0:Int)<=(1048576:Int)/\(1048576:Int)<=(1048576:Int))&&Hh l) (ifB (decide ((1048576:Int)-(↑(Qc l):Int)<(0:Int))) (some (V.b true,
 [])) (ifB (decide ((1048576:Int)-(↑(Qc l):Int)<(0:Int))) (some (V.b true,[])) (ifT (decide (l.length<=1000000000)&&l.all BM) (ifT (OJ
 (take l.length (drop 0 l))) (ifT (decide (l.length<=1000000000)&&l.all BM) (ifT (OJ (take l.length (drop 0 l))) (ifT
 (KI (take (nbL (take l.length (drop 0 l))).length (drop 0 (nbL (take l.length (drop 0 l)))),Ai FNd.den,()))
 (ifB (!RD (take (nbL (take l.length (drop 0 l))).length (drop 0 (nbL (take l.length (drop 0 l)))),Ai FNd.den,
 ()) (take (nbL (take l.length (drop 0 l))).length (drop 0 (nbL (take l.length (drop 0 l)))),Ai FNd.den,()))
 (some (V.b false,[])) (ifB (!Kd (take l.length (drop 0 l))==Kd (take l.length (drop 0 l))) (some (V.b false,[])) (ifT (decide
 (l.length<=1000000000)&&l.all BM) (ifT (decide ((take l.length (drop 0 l)).length<=maxI)&&(take l.length (drop 0
 l)).all D4) (ifB (!eqL F9 (take l.length (drop 0 l)) (take l.length (drop 0 l))) (some (V.b false,[])) (ifT (decide (l.length =
 l.length/\(0:Int)<=(1:Int)/\(1:Int)+AS AR l<=lim)) (ifB (decide ((1:Int)+AS AR l<(0:Int))) (some (V.b false,[])) (ifT (KI (take (nbL
 (take l.length (drop 0 l))).length (drop 0 (nbL (take l.length (drop 0 l)))),Ai FNd.den,())) (ifB (!RD (take
 (nbL (take l.length (drop 0 l))).length (drop 0 (nbL (take l.length (drop 0 l)))),Ai FNd.den,()) (take (nbL
 (take l.length (drop 0 l))).length (drop 0 (nbL (take l.length (drop 0 l)))),Ai FNd.den,())) (some (V.b false,[]))
 (ifB (!Kd (take l.length (drop 0 l))==Kd (take l.length (drop 0 l))) (some (V.b false,[])) (ifT (decide ((nbL (take
 l.length (drop 0 l))).length=(nbL (take l.length (drop 0 l))).length/\0=0/\(0:Int)<=(1:Int)/\(1:Int)+DV
 (nbL (take l.length (drop 0 l))) (Ai FNd.den)<=lim)) (ifT (decide ((take (nbL (take l.length (drop 0 l))).length (drop (0
 : Nat) (mkL Dj AR (1:Int) (nbL (take l.length (drop 0 l)))))).length<=maxI/\0<=maxI/\(0:Int)<=(1:Int)/\(1:Int)+DV
 (take (nbL (take l.length (drop 0 l))).length (drop 0 (mkL Dj AR (1:Int) (nbL (take l.length (drop 0 l))))))
 (Ai FNd.den)<=lim)) (ifB (Rw (1:Int) (take (nbL (take l.length (drop 0 l))).length (drop 0 (mkL Dj AR (1:Int) (nbL
 (take l.length (drop 0 l)))))) (Ai FNd.den)) (ifB (decide ((1:Int)+DV (take (nbL (take l.length (drop 0 l))).length
 (drop 0 (mkL Dj AR (1:Int) (nbL (take l.length (drop 0 l)))))) (Ai FNd.den)<(0:Int))) (some (V.b false,[])) (ifB ((1:Int) +
 DV (take (nbL (take l.length (drop 0 l))).length (drop 0 (mkL Dj AR (1:Int) (nbL (take l.length (drop 0
 l)))))) (Ai FNd.den) != (1:Int)+DV (nbL (take l.length (drop 0 l))) (Ai FNd.den)) (some (V.b false,[])) (ifT (decide (l.length<=(1000000000
 : Nat))&&l.all BM) (ifT (OJ (take l.length (drop 0 l))) (ifT (KI (take (nbL (take l.length (drop 0 l))).length
 (drop 0 (nbL (take l.length (drop 0 l)))),Ai FNd.den,())) (ifB (!RD (take (nbL (take l.length (drop 0
 l))).length (drop 0 (nbL (take l.length (drop 0 l)))),Ai FNd.den,()) (take (nbL (take l.length (drop 0
 l))).length (drop 0 (nbL (take l.length (drop 0 l)))),Ai FNd.den,())) (some (V.b false,[])) (ifB (!Kd (take l.length (drop
 0 l))==Kd (take l.length (drop 0 l))) (some (V.b false,[])) (ifT (decide ((take (nbL (take l.length (drop 0
 l))).length (drop 0 (mkL Dj AR (1:Int) (nbL (take l.length (drop 0 l)))))).length<=maxI/\0<=maxI/\(0:Int)<=(1:Int)/\
 (1:Int)+DV (take (nbL (take l.length (drop 0 l))).length (drop 0 (mkL Dj AR (1:Int) (nbL (take l.length (drop (0
 : Nat) l)))))) (Ai FNd.den)<=lim)) (ifB (Rw (1:Int) (take (nbL (take l.length (drop 0 l))).length (drop 0 (mkL Dj AR (1 :
 Int) (nbL (take l.length (drop 0 l)))))) (Ai FNd.den)) (ifB (decide ((1:Int)+DV (take (nbL (take l.length (drop 0
 l))).length (drop 0 (mkL Dj AR (1:Int) (nbL (take l.length (drop 0 l)))))) (Ai FNd.den)<(0:Int))) (some (V.b false,[])) (ifB
 ((1:Int)+DV (take (nbL (take l.length (drop 0 l))).length (drop 0 (mkL Dj AR (1:Int) (nbL (take l.length (drop
 0 l)))))) (Ai FNd.den) != (1:Int)+DV (nbL (take l.length (drop 0 l))) (Ai FNd.den)) (some (V.b false,[])) (some (V.b true,[]))))
 (some (V.b false,[]))))))))))) (some (V.b false,[]))))))))))))))))))))))):_):=by kernel_rfl
theorem VD (l:List Tp):nbL l=l\/nbL l=[]:=by
 unfold nbL
 cases Kd l
 ·exact .inr rfl
 ·exact .inl rfl
theorem law_knows:Knows prog YG:=(kc func19 SJ (kc func21 Abb (kc func20 nbs (kc func22 nbi (kc func13 WE (kc func23 M5 (kc func24 Zd (kc func25 VH (kc func26 Wx KnowsL.nil))))))))).knows
theorem law_fun (l:List Tp) (ho:Hh l=true):Ay prog YG (Ab []) f5 [.sl TPd l] []=some (.b true,[]):=by
 rw [Ts,Aa (by rw [anE]; exact ⟨dcT ⟨by omega,by omega⟩,ho⟩)]
 try dsimp only [shr]
 by_cases q:1048576-(Qc l:Int)<0
 ·rw [Ag (dcT q)]
 ·have hM:maxI=9223372036854775807:=rfl
  have hw:l.length+Cm l<=1048576:=by unfold Qc at q; omega
  obtain ⟨g1,g2⟩:=HR ho
  have a : ∀ t∈l,Ef t=true/\D4 t=true/\BM t=true:=fun t ht=>by
   have:=RW wTp ht
   unfold Cm at hw
   exact U8 (g2 t ht) (by omega)
  have a1:l.all Ef=true:=all_eq_true.2 fun t ht=>(a t ht).1
  have a2:l.all D4=true:=all_eq_true.2 fun t ht=>(a t ht).2.1
  have a3:l.all BM=true:=all_eq_true.2 fun t ht=>(a t ht).2.2
  have h3:(decide (l.length<=1000000000)&&l.all BM)=true:=by rw [a3,dcT (by omega)]; rfl
  have hnd:OJ l=true:=by unfold OJ; rw [h3,a1,dcT (by omega)]; rfl
  have hq:(decide (l.length<=maxI)&&l.all D4)=true:=by rw [a2,dcT (by omega)]; rfl
  have he:KI (nbL l,[],())=true:=by
   unfold KI
   rcases VD l with e | e
   ·rw [e]; dsimp only; rw [hq]; simp
   ·rw [e]; simp
  have n0:=FP (nbL l)
  have n1:=FP l
  have n2:=OF l
  have n3:AS AR (nbL l)<=AS AR l/\(nbL l).length<=l.length:=by
   rcases VD l with e | e
   ·rw [e]; exact ⟨Int.le_refl _,Nat.le_refl _⟩
   ·rw [e]; exact ⟨n1,zero_le _⟩
  have hT:take (nbL l).length (mkL Dj AR 1 (nbL l))=mkL Dj AR 1 (nbL l):=List.take_of_length_le (by rw [N7]; exact Nat.le_refl _)
  have hK:DV (mkL Dj AR 1 (nbL l)) []=DV (nbL l) []:=XH 1 1 (nbL l) []
  have hH:Rw 1 (mkL Dj AR 1 (nbL l)) []=true:=Yn 1 (nbL l) []
  have hn:DV (nbL l) []=AS AR (nbL l):=by unfold DV; rw [show AS B6 []=0 from rfl,Int.add_zero]
  have hl:lim=1000000000000:=rfl
  rw [Ac (dcF q),Ac (dcF q)]
  simp only [drop_zero,take_length,AM,hT,hK,hH,hn,N7,TZ,Dw (fun (y:Tp) _=>M6 y),beq_self_eq_true,Bool.not_true,AV,Be,bne_self_eq_false]
  rw [Aa h3,Aa hnd,Aa h3,Aa hnd,Aa he,Aa h3,Aa hq,Aa (dcT ⟨by first | rfl | trivial,by first | omega | trivial,by omega⟩),Ac (dcF (show ¬1+AS AR l<0 by omega)),Aa he,Aa (dcT ⟨by first | rfl | trivial,by first | rfl | trivial,by first | omega | trivial,by omega⟩),Aa (dcT ⟨by omega,by first | omega | trivial,by first | omega | trivial,by omega⟩),Ac (dcF (show ¬1+AS AR (nbL l)<0 by omega)),Aa h3,Aa hnd,Aa he,Aa (dcT ⟨by omega,by first | omega | trivial,by first | omega | trivial,by omega⟩),Ac (dcF (show ¬1+AS AR (nbL l)<0 by omega))]
theorem law_loops:At prog YG (Ab []) 0 (f5.body.getD .skip):=Al _
theorem ok_of {l:List Tp} (g:Li (.slice TPd) l):Hh l=true:=by
 have hT : ∀ l:List Ty,Li (.slice TCd) l->Gn l=true:=fun l h=>by
  unfold Gn
  rw [anE,dcE,all_eq_true]
  refine ⟨h.1,fun x hx=>?_⟩
  unfold OD
  exact dcT (h.2 x hx).2.1
 unfold Hh
 rw [anE,dcE,all_eq_true]
 refine ⟨g.1,fun t ht=>?_⟩
 have h:=g.2 t ht
 unfold Nz LS
 rw [anE,dcE]
 exact ⟨h.1,hT _ h.2.1.1⟩

end Go.Proofs.YtcjnmdcagfgjoaaGreatDoor.Den
