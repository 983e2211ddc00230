/- What functions of the program do, by the machine: Brk7 Brk8 Brk9 Sz3 Sz4 Eq5 Eq6 To5 To7 Own2 Own3 Nb1 Hd2 Nb2. -/
import Derived.Test.YtdocpdfkeohkiaaGreatDoorDD
import Derived.KernelRfl
import Derived.Test.YtdocpdfkeohkiaaGreatDoorRows
namespace Go.Proofs.YtdocpdfkeohkiaaGreatDoor.Den
open IntKind (i64)
open Go.Proofs.Tryz
open List (all_cons all_eq_true append_assoc append_nil drop drop_eq_getElem_cons drop_eq_nil_of_le drop_zero getElem_mem getElem_range length_append length_range length_singleton map_cons mem_append range replicate singleton_append sum_cons take take_length take_of_length_le)
open Int (add_assoc eq_ofNat_of_zero_le le_refl)
open Nat (add_sub_of_le le_trans zero_add)
open Go.Proofs
set_option maxRecDepth 100000
set_option synthInstance.maxSize 2000
set_option synthInstance.maxHeartbeats 400000
instance decWt7:DecidableEq Wt:=inferInstance
instance decNt7:DecidableEq Nt:=inferInstance
instance decFa70:DecidableEq (List Nt×Int×Unit):=inferInstance
instance decFa71:DecidableEq ((List Ty×Unit)×List Nt×Int×Unit):=inferInstance
instance decFa7:DecidableEq Fa:=inferInstance
def Vd (ts:List Tp) (fs:List Fa) (i:Nat):Bool:=match fs[i]? with | some f=>atW fs f.1==(i:Int)&&Qy ts f.1 f.2.1 f.2.2.1.1 f.2.2.2.1.1 f.2.2.2.2.1 f.2.2.2.2.2.1 | none=>true
def L9 (ts:List Tp) (fs:List Fa) (i:Nat):Bool:=((range fs.length).drop i).all (Vd ts fs)
def J8 (f:Fa):Bool:=decide (f.2.1.length<=4000000000/\f.2.2.2.1.1.length<=4000000000)&&(nmL f.2.2.2.1.1&&H9 f.2.2.2.2.1)
def H0 (ts:List Tp) (fs:List Fa):Bool:=decide (ts.length<=4000000000/\fs.length<=4000000000)&&(ts.all EI&&fs.all J8)
def D5 (ts:List Tp) (fs:List Fa):Bool:=C7 ts 0&&(decide (ts.length<=4)&&(decide (fs.length<=4)&&L9 ts fs 0))
def Ac4:Gm
 | [.agg [.sl TPd ts,.sl FNd fs]],[]=>.need (H0 ts fs) (.leaf (.b (D5 ts fs),[]))
 | _,_=>.no
def gbE:LoopEnt:=⟨32,[1,14,15,16],[],[2],fun
 | ([.ptr 0 0,.sl FNd l,.i .i64 k,.i .i64 i],[bb])=>(match bb with
  | some (.box [.sl TPd ts,.sl FNd fs])=>.need (decide (0<=i/\i.toNat<=l.length/\k=l.length/\eqT (List Fa) l fs/\l.length<=4000000000)&&(ED ts&&l.all J8)) (.br (L9 ts fs i.toNat) (.leaf (.exit 0,([],[]))) (.leaf (.ret,([.b false],[]))))
  | _=>.no)
 | _=>.no⟩
abbrev Aaf:FuncId->Option Ent:=Ab [(84,.rd1 VW),(65,.rd1 Ac7),(85,.rd1 XY)]
theorem Qv (ts:List Tp) (fs:List Fa) (l:List Fa) (k i:Int):Av prog Aaf (Ab [(4,gbE)]) 0 (body f47 0) gbE ([.ptr 0 0,.sl FNd l,.j k,.j i],[some (.box [.sl TPd ts,.sl FNd fs])]) =
 ((ifB (decide (i<k)) (ifT (decide ((0:Int)<=i)&&decide (i<(↑l.length:Int))) (Ai l[i.toNat]? fun z=>ifB (atW fs z.fst != i) (some (Ex.ret,[V.b false],[]))
 (ifT (GQ ts z.snd.fst z.snd.snd.snd.fst.fst z.snd.snd.snd.snd.fst) (ifB (!Qy ts z.fst z.snd.fst z.snd.snd.fst.fst z.snd.snd.snd.fst.fst z.snd.snd.snd.snd.fst
 z.snd.snd.snd.snd.snd.fst) (some (Ex.ret,[V.b false],[])) (some (Ex.normal,[V.ptr 0 0,V.sl FNd l,V.j k,V.j (i64.wrap (i+(1:Int)))],[some
 (Blk.box [V.sl TPd ts,V.sl FNd fs])])))))) (some (Ex.exit 0,[],[]))):_):=by kernel_rfl
theorem ZD (ts:List Tp) (fs:List Fa):Ax prog Aaf (Ab [(4,gbE)]) f47 [.agg [.sl TPd ts,.sl FNd fs]] [] =
 ((ifT (decide (ts.length<=4000000000)&&ts.all EI) (ifB (!(C7 ts 0&&decide (ts.length<=4))) (some (V.b false,[])) (ifB (decide
 ((↑fs.length:Int)>(4:Int))) (some (V.b false,[])) (ifT (decide ((0:Int)<=(0:Int)/\0<=fs.length/\(↑fs.length:Int)=(↑fs.length:Int)/\eqT (List
 Fa) fs fs/\fs.length<=4000000000)&&(ED ts&&fs.all J8)) (ifB (L9 ts fs 0) (some (V.b true,[])) (some (V.b false,[]))))))):_):=by kernel_rfl
theorem ZE (ts:List Tp) (l:List Fa) (hl:l.length<=4000000000) (ht:ED ts=true) (hs:l.all J8=true) (i:Nat) (h1:i<=l.length) (ex:Ex) (d':Dt)
  (hx:(Br.br (L9 ts l i) (.leaf ((.exit 0:Ex),([],[]))) (.leaf ((.ret:Ex),([.b false],[]))):Br (Ex×Dt)).run=some (ex,d')):Runs prog Aaf (Ab [(4,gbE)]) 0 (body f47 0) gbE ([.ptr 0 0,.sl FNd l,.j (l.length:Int),.j (i:Int)],[some (.box [.sl TPd ts,.sl FNd l])]) ex d':=by
 have hM:maxI=9223372036854775807:=rfl
 refine B7 (l:=range l.length) (Vd ts l) (fun i=>([.ptr 0 0,.sl FNd l,.j (l.length:Int),.j (i:Int)],[some (.box [.sl TPd ts,.sl FNd l])])) (ex:=((.exit 0:Ex),([],[]))) (rt:=((.ret:Ex),([.b false],[]))) (by simp) (by simp) (fun n hn'=>?_) ?_ (l.length-i) i (by simp; omega) ex d' hx
 ·have hlt:n<l.length:=by simpa using hn'
  have hr:=Qv ts l l l.length n
  try dsimp only [shr] at hr
  have s1:=all_eq_true.1 hs _ (getElem_mem hlt)
  unfold J8 at s1
  rw [Ag (dcT (by omega)),Aa (by simp only [anE,dcE]; omega),ntN,gtE hlt,Am,Ap (n:=n) (by omega)] at hr
  refine hr.trans ?_
  clear hr hx hs
  rw [getElem_range]
  have e:Vd ts l n=(atW l l[n].1==(n:Int)&&Qy ts l[n].1 l[n].2.1 l[n].2.2.1.1 l[n].2.2.2.1.1 l[n].2.2.2.2.1 l[n].2.2.2.2.2.1):=by
   unfold Vd
   rw [gtE hlt]
  rw [e]
  generalize l[n]=f at s1 ⊢
  have s2:GQ ts f.2.1 f.2.2.2.1.1 f.2.2.2.2.1=true:=by
   unfold GQ
   rw [ht,Bool.true_and]
   exact s1
  by_cases q:atW l f.1=(n:Int)
  ·have h5:(atW l f.1==(n:Int))=true:=beq_iff_eq.2 q
   have h6:(atW l f.1 != (n:Int))=false:=bne_eq_false_iff_eq.2 q
   rw [h5,h6,AS,Aa s2]
   cases Qy ts f.1 f.2.1 f.2.2.1.1 f.2.2.2.1.1 f.2.2.2.2.1 f.2.2.2.2.2.1<;>rfl
  ·have h5:(atW l f.1==(n:Int))=false:=beq_eq_false_iff_ne.2 q
   have h6:(atW l f.1 != (n:Int))=true:=bne_iff_ne.2 q
   rw [h5,h6]
   rfl
 ·have hr:=Qv ts l l l.length l.length
  try dsimp only [shr] at hr
  rw [Ac (dcF (by omega))] at hr
  simp only [length_range]
  exact hr
theorem Ae2:Ar prog Aaf (Ab [(4,gbE)]) 0 (f47.body.getD .skip):=by
 refine An (a:=body f47 0) (by kernel_rfl) fun d ex d' h=>?_
 unfold gbE at h
 dsimp only at h
 split at h
 ·rename_i l k i bb
  split at h
  ·rename_i ts fs
   obtain ⟨hc,hx⟩:=Ad h
   clear h
   rw [anE,anE] at hc
   obtain ⟨hc,ht,hs⟩:=hc
   obtain ⟨h0,h1,h2,h3,h4⟩:=of_decide_eq_true hc
   have h3:l=fs:=h3
   subst h3
   subst h2
   obtain ⟨i,rfl⟩:=eq_ofNat_of_zero_le h0
   simp only [ntN] at h1 hx
   exact ZE ts l h4 ht hs i h1 ex d' hx
  ·cases h
 ·cases h
theorem Fs {ts:List Tp} (h:C7 ts 0=true):ts.all tOK=true:=by
 unfold C7 at h
 rw [drop_zero,all_eq_true] at h
 rw [all_eq_true]
 intro t ht
 obtain ⟨n,hn,rfl⟩:=List.mem_iff_getElem.1 ht
 have:=h n (by simpa using hn)
 unfold TP at this
 rw [gtE hn] at this
 exact ((anE _ _).mp this).1
theorem Z4:Af prog 47 (Ent.rd1 Ac4).F:=by
 refine Ae (kc func84 Aer (kc func65 Afm (kc func85 Acx KnowsL.nil))).knows (Λ:=(Ab [(4,gbE)])) func47 (c:=f47.body.getD .skip) (by kernel_rfl) fun vs bs r hq hv hb=>?_
 unfold Ent.F Ac4 at hq
 dsimp only at hq
 split at hq
 ·rename_i ts fs
  obtain ⟨hc,hx⟩:=Ad hq
  unfold H0 at hc
  rw [anE,anE] at hc
  obtain ⟨hc,h2,h3⟩:=hc
  obtain ⟨h0,h1⟩:=of_decide_eq_true hc
  refine ⟨Ae2,(ZD ts fs).trans (Eq.trans ?_ hx)⟩
  try dsimp only [shr]
  show _=some _
  unfold D5
  rw [Aa (by rw [anE]; exact ⟨dcT h0,h2⟩)]
  cases h4:C7 ts 0 with
  | false=>rfl
  | true=>
   by_cases h5:ts.length<=4
   ·rw [dcT h5]
    by_cases h6:fs.length<=4
    ·have h7:ED ts=true:=by unfold ED; rw [dcT h0,h2,Fs h4]; rfl
     rw [dcT h6]
     rw [Bool.true_and,Bool.not_true,AS,Ac (dcF (by omega)),Aa (by rw [anE,anE]; exact ⟨dcT (by refine ⟨by omega,by omega,?_,?_,h1⟩<;>first | rfl | trivial),h7,h3⟩)]
     cases L9 ts fs 0<;>rfl
    ·rw [dcF h6]
     rw [Bool.true_and,Bool.not_true,AS,Ag (dcT (by omega))]
     rfl
   ·rw [dcF h5]
    rfl
 ·cases hq
def noW (w:Int) (o:Fa):Bool:=!(o.1==w)
def fnS (ts:List Tp) (fs:List Fa) (i:Nat):Bool:=match fs[i]? with | some f=>Qx ts f.1 f.2.1 f.2.2.1.1 f.2.2.2.1.1 f.2.2.2.2.1 f.2.2.2.2.2.1&&(fs.take i).all (noW f.1) | none=>true
def L8 (ts:List Tp) (fs:List Fa) (i:Nat):Bool:=((range fs.length).drop i).all (fnS ts fs)
def Gt (ts:List Tp) (fs:List Fa):Bool:=C7 ts 0&&(decide (ts.length<=4)&&(decide (fs.length<=4)&&L8 ts fs 0))
def XU:Gm
 | [.agg [.sl TPd ts,.sl FNd fs]],[]=>.need (H0 ts fs) (.leaf (.b (Gt ts fs),[]))
 | _,_=>.no
def W8:LoopEnt:=⟨67,[1,10,11,12],[1],[2],fun
 | ([.ptr 0 0,.sl TPd l,.i .i64 k,.i .i64 i],[bb])=>(match bb with
  | some (.box [.sl TPd ts,.sl FNd fs])=>.need (decide (0<=i/\i.toNat<=l.length/\k=l.length/\eqT (List Tp) l ts/\l.length<=4000000000)&&l.all EI) (.br (C7 ts i.toNat) (.leaf ((.exit 0:Ex),([.ptr 0 0],[some (.box [.sl TPd ts,.sl FNd fs])]))) (.leaf (.ret,([.b false],[]))))
  | _=>.no)
 | _=>.no⟩
def W6:LoopEnt:=⟨67,[1,40,41,42],[],[2],fun
 | ([.ptr 0 0,.sl FNd l,.i .i64 k,.i .i64 i],[bb])=>(match bb with
  | some (.box [.sl TPd ts,.sl FNd fs])=>.need (decide (0<=i/\i.toNat<=l.length/\k=l.length/\eqT (List Fa) l fs/\l.length<=4000000000)&&(ED ts&&l.all J8)) (.br (L8 ts fs i.toNat) (.leaf (.exit 2,([],[]))) (.leaf (.ret,([.b false],[]))))
  | _=>.no)
 | _=>.no⟩
def W4:LoopEnt:=⟨67,[1,6,40,41,42,54,55,56],[1,40,41,42],[2],fun
 | (.ptr 0 0::.ptr 1 0::.sl FNd l::.i .i64 k0::.i .i64 i0::vs,[bb,bf])=>(match vs with
  | [.sl FNd q,.i .i64 k,.i .i64 i]=>(match bb with
   | some (.box [.sl TPd ts,.sl FNd fs])=>(match bf with
    | some (.box [.i .i64 w,.s _,.sl WCd _,.sl TCd _,.sl NTd _,.i .i64 _])=>.need (decide (0<=i/\i.toNat<=q.length/\k=q.length/\q.length<=4000000000)) (.br ((q.drop i.toNat).all (noW w)) (.leaf ((.exit 4:Ex),([.ptr 0 0,.sl FNd l,.i .i64 k0,.i .i64 i0],[some (.box [.sl TPd ts,.sl FNd fs])]))) (.leaf (.ret,([.b false],[]))))
    | _=>.no)
   | _=>.no)
  | _=>.no)
 | _=>.no⟩
abbrev QN:FuncId->Option Ent:=Ab [(76,.rd1 Xx),(77,.rd1 YN),(78,.rd1 XX)]
abbrev OQ:Nat->Option LoopEnt:=Ab [(2,W8),(10,W6),(15,W4)]
theorem MF (ts:List Tp) (fs:List Fa) (l:List Tp) (k i:Int):Av prog QN OQ 0 (body f39 0) W8 ([.ptr 0 0,.sl TPd l,.j k,.j i],[some (.box [.sl TPd ts,.sl FNd fs])]) =
 ((ifB (decide (i<k)) (ifT (decide ((0:Int)<=i)&&decide (i<(↑l.length:Int))) (Ai l[i.toNat]? fun z=>ifT (EI (z.fst,(z.snd.fst.fst,()),z.snd.snd.fst,
 ())) (ifB (!tOK (z.fst,(z.snd.fst.fst,()),z.snd.snd.fst,())) (some (Ex.ret,[V.b false],[])) (ifB (atT ts z.fst != i) (some (Ex.ret,[V.b false],[])) (some
 (Ex.normal,[V.ptr 0 0,V.sl TPd l,V.j k,V.j (i64.wrap (i+(1:Int)))],[some (Blk.box [V.sl TPd ts,V.sl FNd fs])])))))) (some (Ex.exit 0,[V.ptr 0
 0],[some (Blk.box [V.sl TPd ts,V.sl FNd fs])]))):_):=by kernel_rfl
theorem ME (ts:List Tp) (fs:List Fa) (l:List Fa) (k i:Int):Av prog QN OQ 0 (body f39 1) W6 ([.ptr 0 0,.sl FNd l,.j k,.j i],[some (.box [.sl TPd ts,.sl FNd fs])]) =
 ((ifB (decide (i<k)) (ifT (decide ((0:Int)<=i)&&decide (i<(↑l.length:Int))) (Ai l[i.toNat]? fun z=>ifT (GQ ts z.snd.fst z.snd.snd.snd.fst.fst
 z.snd.snd.snd.snd.fst) (ifB (!Qx ts z.fst z.snd.fst z.snd.snd.fst.fst z.snd.snd.snd.fst.fst z.snd.snd.snd.snd.fst z.snd.snd.snd.snd.snd.fst) (some (Ex.ret,[V.b false],
 [])) (ifT (decide ((0:Int)<=i)&&decide (i<=(↑fs.length:Int))) (ifT (decide ((0:Int)<=(0:Int)/\0<=(take (i.toNat-0) (drop (0 :
 Nat) fs)).length/\(↑(take (i.toNat-0) (drop 0 fs)).length:Int)=(↑(take (i.toNat-0) (drop 0 fs)).length:Int)
 /\ (take (i.toNat-0) (drop 0 fs)).length<=4000000000)) (ifB ((drop 0 (take (i.toNat-0) (drop (0 :
 Nat) fs))).all (noW z.fst)) (some (Ex.normal,[V.ptr 0 0,V.sl FNd l,V.j k,V.j (i64.wrap (i+(1:Int)))],[some (Blk.box [V.sl TPd ts,V.sl FNd
 fs])])) (some (Ex.ret,[V.b false],[])))))))) (some (Ex.exit 2,[],[]))):_):=by kernel_rfl
theorem MD (ts:List Tp) (fs:List Fa) (w:Int) (p:List UInt8) (ws:List Wt) (v:List Ty) (b:List Nt) (t:Int) (l:List Fa) (k0 i0:Int) (q:List Fa) (k i:Int):Av prog QN OQ 0 (body f39 2) W4 ([.ptr 0 0,.ptr 1 0,.sl FNd l,.j k0,.j i0,.sl FNd q,.j k,.j i],[some (.box [.sl TPd ts,.sl FNd fs]),some (.box [.j w,.s p,.sl WCd ws,.sl TCd v,.sl NTd b,.j t])]) =
 ((ifB (decide (i<k)) (ifT (decide ((0:Int)<=i)&&decide (i<(↑q.length:Int))) (Ai q[i.toNat]? fun z=>ifB (z.fst==w) (some (Ex.ret,[V.b false],[])) (some
 (Ex.normal,[V.ptr 0 0,V.ptr 1 0,V.sl FNd l,V.j k0,V.j i0,V.sl FNd q,V.j k,V.j (i64.wrap (i+(1:Int)))],[some (Blk.box [V.sl TPd
 ts,V.sl FNd fs]),some (Blk.box [V.j w,V.s p,V.sl WCd ws,V.sl TCd v,V.sl NTd b,V.j t])])))) (some (Ex.exit 4,[V.ptr 0 0,V.sl FNd l,V.j k0,V.i
 .i64 i0],[some (Blk.box [V.sl TPd ts,V.sl FNd fs])]))):_):=by kernel_rfl
theorem YM (ts:List Tp) (fs:List Fa):Ax prog QN OQ f39 [.agg [.sl TPd ts,.sl FNd fs]] [] =
 ((ifT (decide ((0:Int)<=(0:Int)/\0<=ts.length/\(↑ts.length:Int)=(↑ts.length:Int)/\eqT (List Tp) ts ts/\ts.length<=4000000000)&&ts.all
 EI) (ifB (C7 ts 0) (ifB (decide ((↑ts.length:Int)>(4:Int))) (some (V.b false,[])) (ifB (decide ((↑fs.length:Int)>(4:Int))) (some (V.b false,
 [])) (ifT (decide ((0:Int)<=(0:Int)/\0<=fs.length/\(↑fs.length:Int)=(↑fs.length:Int)/\eqT (List Fa) fs fs/\fs.length<=4000000000)&&
 (ED ts&&fs.all J8)) (ifB (L8 ts fs 0) (some (V.b true,[])) (some (V.b false,[])))))) (some (V.b false,[])))):_):=by kernel_rfl
theorem W7 (l:List Tp) (fs:List Fa) (hl:l.length<=4000000000) (hs:l.all EI=true) (i:Nat) (h1:i<=l.length) (ex:Ex) (d':Dt)
  (hx:(Br.br (C7 l i) (.leaf ((.exit 0:Ex),([.ptr 0 0],[some (.box [.sl TPd l,.sl FNd fs])]))) (.leaf ((.ret:Ex),([.b false],[]))):Br (Ex×Dt)).run=some (ex,d')):Runs prog QN OQ 0 (body f39 0) W8 ([.ptr 0 0,.sl TPd l,.j (l.length:Int),.j (i:Int)],[some (.box [.sl TPd l,.sl FNd fs])]) ex d':=by
 have hM:maxI=9223372036854775807:=rfl
 refine B7 (l:=range l.length) (TP l) (fun i=>([.ptr 0 0,.sl TPd l,.j (l.length:Int),.j (i:Int)],[some (.box [.sl TPd l,.sl FNd fs])])) (ex:=((.exit 0:Ex),([.ptr 0 0],[some (.box [.sl TPd l,.sl FNd fs])]))) (rt:=((.ret:Ex),([.b false],[]))) (by simp) (by simp) (fun n hn'=>?_) ?_ (l.length-i) i (by simp; omega) ex d' hx
 ·have hlt:n<l.length:=by simpa using hn'
  have hr:=MF l fs l l.length n
  try dsimp only [shr] at hr
  have s1:=all_eq_true.1 hs _ (getElem_mem hlt)
  rw [Ag (dcT (by omega)),Aa (by simp only [anE,dcE]; omega),ntN,gtE hlt,Am,Ap (n:=n) (by omega)] at hr
  refine hr.trans ?_
  clear hr hx hs
  rw [getElem_range]
  have e:TP l n=(tOK l[n]&&atT l l[n].1==(n:Int)):=by
   unfold TP
   rw [gtE hlt]
  rw [e]
  generalize l[n]=f at s1 ⊢
  obtain ⟨f1,⟨f2,⟨⟩⟩,f3,⟨⟩⟩:=f
  dsimp only
  rw [Aa s1]
  cases tOK (f1,(f2,()),f3,()) with
  | false=>rfl
  | true=>
   by_cases q:atT l f1=(n:Int)
   ·rw [show (atT l f1==(n:Int))=true from beq_iff_eq.2 q,show (atT l f1 != (n:Int))=false from bne_eq_false_iff_eq.2 q]
    rfl
   ·rw [show (atT l f1==(n:Int))=false from beq_eq_false_iff_ne.2 q,show (atT l f1 != (n:Int))=true from bne_iff_ne.2 q]
    rfl
 ·have hr:=MF l fs l l.length l.length
  try dsimp only [shr] at hr
  rw [Ac (dcF (by omega))] at hr
  simp only [length_range]
  exact hr
theorem W5 (ts:List Tp) (l:List Fa) (hl:l.length<=4000000000) (ht:ED ts=true) (hs:l.all J8=true) (i:Nat) (h1:i<=l.length) (ex:Ex) (d':Dt)
  (hx:(Br.br (L8 ts l i) (.leaf ((.exit 2:Ex),([],[]))) (.leaf ((.ret:Ex),([.b false],[]))):Br (Ex×Dt)).run=some (ex,d')):Runs prog QN OQ 0 (body f39 1) W6 ([.ptr 0 0,.sl FNd l,.j (l.length:Int),.j (i:Int)],[some (.box [.sl TPd ts,.sl FNd l])]) ex d':=by
 have hM:maxI=9223372036854775807:=rfl
 refine B7 (l:=range l.length) (fnS ts l) (fun i=>([.ptr 0 0,.sl FNd l,.j (l.length:Int),.j (i:Int)],[some (.box [.sl TPd ts,.sl FNd l])])) (ex:=((.exit 2:Ex),([],[]))) (rt:=((.ret:Ex),([.b false],[]))) (by simp) (by simp) (fun n hn'=>?_) ?_ (l.length-i) i (by simp; omega) ex d' hx
 ·have hlt:n<l.length:=by simpa using hn'
  have hr:=ME ts l l l.length n
  try dsimp only [shr] at hr
  have s1:=all_eq_true.1 hs _ (getElem_mem hlt)
  unfold J8 at s1
  rw [Ag (dcT (by omega)),Aa (by simp only [anE,dcE]; omega),ntN,gtE hlt,Am,Ap (n:=n) (by omega),Nat.sub_zero,drop_zero,drop_zero] at hr
  refine hr.trans ?_
  clear hr hx hs
  rw [getElem_range]
  have e:fnS ts l n=(Qx ts l[n].1 l[n].2.1 l[n].2.2.1.1 l[n].2.2.2.1.1 l[n].2.2.2.2.1 l[n].2.2.2.2.2.1&&(l.take n).all (noW l[n].1)):=by
   unfold fnS
   rw [gtE hlt]
  rw [e]
  generalize l[n]=f at s1 ⊢
  have s2:GQ ts f.2.1 f.2.2.2.1.1 f.2.2.2.2.1=true:=by
   unfold GQ
   rw [ht,Bool.true_and]
   exact s1
  rw [Aa s2]
  cases Qx ts f.1 f.2.1 f.2.2.1.1 f.2.2.2.1.1 f.2.2.2.2.1 f.2.2.2.2.2.1 with
  | false=>rfl
  | true=>
   have h9:(l.take n).length<=4000000000:=by simp; omega
   rw [Bool.not_true,AS,Aa (show (decide (0<=(n:Int))&&decide ((n:Int)<=(l.length:Int)))=true by simp only [anE,dcE]; omega),Aa (dcT ⟨by omega,by omega,rfl,h9⟩)]
   cases (l.take n).all (noW f.1)<;>rfl
 ·have hr:=ME ts l l l.length l.length
  try dsimp only [shr] at hr
  rw [Ac (dcF (by omega))] at hr
  simp only [length_range]
  exact hr
theorem W3 (ts:List Tp) (fs:List Fa) (w:Int) (p:List UInt8) (ws:List Wt) (v:List Ty) (b:List Nt) (t:Int) (l:List Fa) (k0 i0:Int) (q:List Fa) (hq:q.length<=4000000000) (i:Nat) (h1:i<=q.length) (ex:Ex) (d':Dt)
  (hx:(Br.br ((q.drop i).all (noW w)) (.leaf ((.exit 4:Ex),([.ptr 0 0,.sl FNd l,.j k0,.j i0],[some (.box [.sl TPd ts,.sl FNd fs])]))) (.leaf ((.ret:Ex),([.b false],[]))):Br (Ex×Dt)).run=some (ex,d')):Runs prog QN OQ 0 (body f39 2) W4 ([.ptr 0 0,.ptr 1 0,.sl FNd l,.j k0,.j i0,.sl FNd q,.j (q.length:Int),.j (i:Int)],[some (.box [.sl TPd ts,.sl FNd fs]),some (.box [.j w,.s p,.sl WCd ws,.sl TCd v,.sl NTd b,.j t])]) ex d':=by
 have hM:maxI=9223372036854775807:=rfl
 refine B7 (l:=q) (noW w) (fun i=>([.ptr 0 0,.ptr 1 0,.sl FNd l,.j k0,.j i0,.sl FNd q,.j (q.length:Int),.j (i:Int)],[some (.box [.sl TPd ts,.sl FNd fs]),some (.box [.j w,.s p,.sl WCd ws,.sl TCd v,.sl NTd b,.j t])])) (ex:=((.exit 4:Ex),([.ptr 0 0,.sl FNd l,.j k0,.j i0],[some (.box [.sl TPd ts,.sl FNd fs])]))) (rt:=((.ret:Ex),([.b false],[]))) (by simp) (by simp) (fun n hlt=>?_) ?_ (q.length-i) i (by omega) ex d' hx
 ·have hr:=MD ts fs w p ws v b t l k0 i0 q q.length n
  try dsimp only [shr] at hr
  rw [Ag (dcT (by omega)),Aa (by simp only [anE,dcE]; omega),ntN,gtE hlt,Am,Ap (n:=n) (by omega)] at hr
  refine hr.trans ?_
  unfold noW
  cases q[n].1==w<;>rfl
 ·have hr:=MD ts fs w p ws v b t l k0 i0 q q.length q.length
  try dsimp only [shr] at hr
  rw [Ac (dcF (by omega))] at hr
  exact hr
theorem Ad0:Ar prog QN OQ 0 (f39.body.getD .skip):=by
 refine LoopsI.loops (cs:=[body f39 0,body f39 1,body f39 2]) ?_ (by kernel_rfl)
 refine .cons (ent:=W8) (by rfl) (fun d ex d' h=>?_) (.cons (ent:=W6) (by rfl) (fun d ex d' h=>?_) (.cons (ent:=W4) (by rfl) (fun d ex d' h=>?_) .nil))
 ·unfold W8 at h
  dsimp only at h
  split at h
  ·rename_i l k i bb
   split at h
   ·rename_i ts fs
    obtain ⟨hc,hx⟩:=Ad h
    clear h
    rw [anE] at hc
    obtain ⟨hc,hs⟩:=hc
    obtain ⟨h0,h1,h2,h3,h4⟩:=of_decide_eq_true hc
    have h3:l=ts:=h3
    subst h3
    subst h2
    obtain ⟨i,rfl⟩:=eq_ofNat_of_zero_le h0
    simp only [ntN] at h1 hx
    exact W7 l fs h4 hs i h1 ex d' hx
   ·cases h
  ·cases h
 ·unfold W6 at h
  dsimp only at h
  split at h
  ·rename_i l k i bb
   split at h
   ·rename_i ts fs
    obtain ⟨hc,hx⟩:=Ad h
    clear h
    rw [anE,anE] at hc
    obtain ⟨hc,ht,hs⟩:=hc
    obtain ⟨h0,h1,h2,h3,h4⟩:=of_decide_eq_true hc
    have h3:l=fs:=h3
    subst h3
    subst h2
    obtain ⟨i,rfl⟩:=eq_ofNat_of_zero_le h0
    simp only [ntN] at h1 hx
    exact W5 ts l h4 ht hs i h1 ex d' hx
   ·cases h
  ·cases h
 ·unfold W4 at h
  dsimp only at h
  split at h
  ·rename_i l k0 i0 vs bb bf
   split at h
   ·rename_i q k i
    split at h
    ·rename_i ts fs
     split at h
     ·rename_i w p ws v b t
      obtain ⟨hc,hx⟩:=Ad h
      clear h
      obtain ⟨h0,h1,h2,h3⟩:=of_decide_eq_true hc
      subst h2
      obtain ⟨i,rfl⟩:=eq_ofNat_of_zero_le h0
      simp only [ntN] at h1 hx
      exact W3 ts fs w p ws v b t l k0 i0 q h3 i h1 ex d' hx
     ·cases h
    ·cases h
   ·cases h
  ·cases h
theorem YJ:Af prog 39 (Ent.rd1 XU).F:=by
 refine Ae (kc func76 Afj (kc func77 sat (kc func78 Abm KnowsL.nil))).knows (Λ:=OQ) func39 (c:=f39.body.getD .skip) (by kernel_rfl) fun vs bs r hq hv hb=>?_
 unfold Ent.F XU at hq
 dsimp only at hq
 split at hq
 ·rename_i ts fs
  obtain ⟨hc,hx⟩:=Ad hq
  unfold H0 at hc
  rw [anE,anE] at hc
  obtain ⟨hc,h2,h3⟩:=hc
  obtain ⟨h0,h1⟩:=of_decide_eq_true hc
  refine ⟨Ad0,(YM ts fs).trans (Eq.trans ?_ hx)⟩
  try dsimp only [shr]
  show _=some _
  unfold Gt
  rw [Aa (by rw [anE]; exact ⟨dcT (by refine ⟨by omega,by omega,?_,?_,h0⟩<;>first | rfl | trivial),h2⟩)]
  cases h4:C7 ts 0 with
  | false=>rfl
  | true=>
   by_cases h5:ts.length<=4
   ·rw [dcT h5,Be,Ac (dcF (by omega))]
    by_cases h6:fs.length<=4
    ·have h7:ED ts=true:=by unfold ED; rw [dcT h0,h2,Fs h4]; rfl
     rw [dcT h6]
     rw [Ac (dcF (by omega)),Aa (by rw [anE,anE]; exact ⟨dcT (by refine ⟨by omega,by omega,?_,?_,h1⟩<;>first | rfl | trivial),h7,h3⟩)]
     cases L8 ts fs 0<;>rfl
    ·rw [dcF h6,Ag (dcT (by omega))]
     rfl
   ·rw [dcF h5,Be,Ag (dcT (by omega))]
    rfl
 ·cases hq

theorem N0 {α:Type} (p:α->Bool) : ∀ (l:List α) (n i:Nat) (h:i<l.length),p l[i]=true->(Au p n l==((n+i:Nat):Int))=(l.take i).all (fun x=>!p x)
 | [],n,i,h,_=>by simp at h
 | x::l,n,0,h,hp=>by
  simp only [List.getElem_cons_zero] at hp
  rw [Au]
  simp [hp]
 | x::l,n,i+1,h,hp=>by
  simp only [List.getElem_cons_succ] at hp
  have hl:i<l.length:=by simpa using h
  rw [Au,List.take_succ_cons,all_cons]
  cases hx:p x with
  | true=>
   have : ¬((n:Int)=((n+(i+1):Nat):Int)):=by omega
   simp only [if_true,Bool.not_true,Bool.false_and]
   exact beq_eq_false_iff_ne.2 this
  | false=>
   have:=N0 p l (n+1) i hl hp
   rw [show n+(i+1)=n+1+i by omega]
   simpa using this
theorem U9 (m:List (List UInt8×Int)) (x y:List UInt8) (v:Int):Ct .str (D2 .str m x v) y=if y=x then some v else Ct .str m y:=by
 induction m with
 | nil=>
  show (match (y==x) with | true=>some v | false=>none)=_
  by_cases h:y=x
  ·subst h; simp
  ·rw [beq_false_of_ne h,if_neg h]; rfl
 | cons e m ih=>
  show Ct .str (match (x==e.1) with | true=>(x,v)::m | false=>e::D2 .str m x v) y=_
  by_cases h:x=e.1
  ·rw [h,beq_self_eq_true]
   show (match (y==e.1) with | true=>some v | false=>Ct .str m y)=if y=e.1 then some v else (match (y==e.1) with | true=>some e.2 | false=>Ct .str m y)
   by_cases h2:y=e.1
   ·rw [if_pos h2,h2,beq_self_eq_true]
   ·rw [if_neg h2,beq_false_of_ne h2]
  ·rw [beq_false_of_ne h]
   show (match (y==e.1) with | true=>some e.2 | false=>Ct .str (D2 .str m x v) y)=if y=x then some v else (match (y==e.1) with | true=>some e.2 | false=>Ct .str m y)
   by_cases h2:y=e.1
   ·have hn : ¬y=x:=fun q=>h (q.symm.trans h2)
    rw [if_neg hn,h2,beq_self_eq_true]
   ·rw [beq_false_of_ne h2]
    exact ih
def gm (m:List (List UInt8×Int)) (x:List UInt8):Int:=(Ct .str m x).getD 0
theorem Ac3 (m:List (List UInt8×Int)) (x y:List UInt8) (v:Int):gm (D2 .str m x v) y=if y=x then v else gm m y:=by
 unfold gm
 rw [U9]
 split<;>rfl
def Aam (m:List (List UInt8×Int)) (q:List Nt):Prop:=∀ x,(∀ o∈q,o.1=x->o.2.1<=gm m x)/\(gm m x=0\/∃ o∈q,o.1=x/\o.2.1=gm m x)/\0<=gm m x/\gm m x<=1000
theorem Adf {ts:List Tp} (h:ts.all tOK=true) (x:List UInt8) (ha:0<=atT ts x):Fo ts x<=1000:=by
 rcases SY ts x with h1 | ⟨h1,h2,h3⟩
 ·omega
 ·unfold Fo
  rw [gtE h2]
  have:=all_eq_true.1 h _ (getElem_mem h2)
  unfold tOK at this
  simp only [anE,dcE] at this
  exact this.2.2.2
theorem Z2 {v:List Ty} (hk:Bf v=true) (s:List UInt8):Mk v s=NM (t2L v 0) s:=by
 unfold Mk UR NM
 rw [hk,Bool.and_true]
theorem Aea {ts:List Tp} {v:List Ty} (hk:Bf v=true) {m:List (List UInt8×Int)} {b:List Nt} {i:Nat} (hi:i<b.length) (hm:Aam m (b.take i)):ntI ts (t2L v 0) m b[i]=ntS ts v b i:=by
 obtain ⟨h1,h2,h3,h4⟩:=hm b[i].1
 have hw:i64.wrap (gm m b[i].1+1)=gm m b[i].1+1:=Aw (by omega) (by omega)
 unfold ntI ntS
 rw [gtE hi]
 dsimp only
 rw [Z2 hk,show (Ct .str m b[i].1).getD 0=gm m b[i].1 from rfl,hw,Bool.eq_iff_iff]
 simp only [anE,dcE,all_eq_true]
 constructor
 ·rintro ⟨a,⟨c,d⟩,e⟩
  refine ⟨a,⟨by omega,d⟩,e,fun o ho=>?_⟩
  unfold ltB
  by_cases q:o.1=b[i].1
  ·have:=h1 o ho q
   rw [dcF (by omega),Bool.and_false]; rfl
  ·rw [beq_false_of_ne q]; rfl
 ·rintro ⟨a,⟨c,d⟩,e,f⟩
  refine ⟨a,⟨?_,d⟩,e⟩
  rcases h2 with h2 | ⟨o,ho,h5,h6⟩
  ·omega
  ·have:=f o ho
   unfold ltB at this
   rw [h5,beq_self_eq_true,Bool.true_and] at this
   by_cases q:o.2.1>=b[i].2.1
   ·rw [dcT q] at this; cases this
   ·omega
theorem XC {ts:List Tp} {v:List Ty} (ht:ts.all tOK=true) {m:List (List UInt8×Int)} {b:List Nt} {i:Nat} (hi:i<b.length) (hm:Aam m (b.take i)) (h:ntI ts (t2L v 0) m b[i]=true):Aam (D2 .str m b[i].1 b[i].2.1) (b.take (i+1)):=by
 obtain ⟨h1,h2,h3,h4⟩:=hm b[i].1
 have hw:i64.wrap (gm m b[i].1+1)=gm m b[i].1+1:=Aw (by omega) (by omega)
 unfold ntI at h
 rw [show (Ct .str m b[i].1).getD 0=gm m b[i].1 from rfl,hw] at h
 simp only [anE,dcE] at h
 obtain ⟨a,⟨c,d⟩,e⟩:=h
 have hc:=Adf ht _ a
 intro x
 rw [Ac3,List.take_succ_eq_append_getElem hi]
 by_cases q:x=b[i].1
 ·rw [if_pos q]
  refine ⟨fun o ho hx=>?_,.inr ⟨b[i],mem_append.2 (.inr (List.mem_singleton.2 rfl)),q.symm,rfl⟩,by omega,by omega⟩
  rcases mem_append.1 ho with ho | ho
  ·have:=h1 o ho (hx.trans q); omega
  ·rw [List.mem_singleton.1 ho]; exact le_refl _
 ·rw [if_neg q]
  obtain ⟨g1,g2,g3,g4⟩:=hm x
  refine ⟨fun o ho hx=>?_,?_,g3,g4⟩
  ·rcases mem_append.1 ho with ho | ho
   ·exact g1 o ho hx
   ·rw [List.mem_singleton.1 ho] at hx; exact absurd hx.symm q
  ·rcases g2 with g2 | ⟨o,ho,h5,h6⟩
   ·exact .inl g2
   ·exact .inr ⟨o,mem_append.2 (.inl ho),h5,h6⟩
theorem XF {ts:List Tp} {v:List Ty} (hk:Bf v=true) (ht:ts.all tOK=true) (b:List Nt) : ∀ (j i:Nat) (m:List (List UInt8×Int)),i+j=b.length->Aam m (b.take i)->HN ts (t2L v 0) m (b.drop i)=I5 ts v b i
 | 0,i,m,hi,hm=>by
  unfold I5
  rw [drop_eq_nil_of_le (by omega),drop_eq_nil_of_le (by simp; omega),HN]
  rfl
 | j+1,i,m,hi,hm=>by
  have hlt:i<b.length:=by omega
  have e:I5 ts v b i=(ntS ts v b i&&I5 ts v b (i+1)):=by
   unfold I5
   rw [drop_eq_getElem_cons (by simpa using hlt),all_cons,getElem_range]
  rw [e,drop_eq_getElem_cons hlt,HN,<-Aea hk hlt hm]
  cases h:ntI ts (t2L v 0) m b[i] with
  | false=>rfl
  | true=>
   rw [Bool.true_and,Bool.true_and]
   exact XF hk ht b j (i+1) _ (by omega) (XC ht hlt hm h)
theorem Z3 {ts:List Tp} {v:List Ty} (hk:Bf v=true) (ht:ts.all tOK=true) (b:List Nt):HN ts (t2L v 0) [] b=I5 ts v b 0:=
 XF hk ht b b.length 0 [] (by omega) (fun x=>⟨fun o ho=>(by simp at ho),.inl rfl,le_refl _,by show (0:Int)<=1000; decide⟩)
theorem Ac6 {ts:List Tp} (ht:ts.all tOK=true) (w:Int) (p:List UInt8) (ws:List Wt) (v:List Ty) (b:List Nt) (t:Int):Qy ts w p ws v b t=Qx ts w p ws v b t:=by
 unfold Qy Qx
 cases hk:Bf v with
 | false=>rfl
 | true=>rw [Z3 hk ht]
theorem Aa6 {ts:List Tp} (ht:ts.all tOK=true) {fs:List Fa} {i:Nat} (hi:i<fs.length):Vd ts fs i=fnS ts fs i:=by
 unfold Vd fnS
 rw [gtE hi]
 dsimp only
 rw [Ac6 ht,Bool.and_comm]
 congr 1
 have:=N0 (fun f:Fa=>f.1==fs[i].1) fs 0 i hi (by simp)
 rw [zero_add] at this
 exact this
theorem Nr (ts:List Tp) (fs:List Fa):D5 ts fs=Gt ts fs:=by
 unfold D5 Gt
 cases h:C7 ts 0 with
 | false=>rfl
 | true=>
  have ht:=Fs h
  have e:L9 ts fs 0=L8 ts fs 0:=by
   unfold L9 L8
   rw [drop_zero,Bool.eq_iff_iff,all_eq_true,all_eq_true]
   constructor
   ·intro h i hi; rw [<-Aa6 ht (by simpa using hi)]; exact h i hi
   ·intro h i hi; rw [Aa6 ht (by simpa using hi)]; exact h i hi
  rw [e]
def szA (k:Int) (w:Nat):Br (V×List (Option Blk)):=.br (decide (k-(w:Int)<0)) (.leaf (.i .i64 (-1),[])) (.leaf (.i .i64 (k-(w:Int)),[]))
def wNt (z:Nt):Nat:=z.1.length+z.2.2.1.length
def P5 (z:Nt):Bool:=decide (z.1.length<=maxI/\z.2.2.1.length<=maxI)
def MB:Gm
 | [.agg [.s a,.i .i64 c,.s b],.i .i64 k],[]=>.need (decide (0<=k/\k<=1048576)&&P5 (a,c,b,())) (szA k (wNt (a,c,b,())))
 | _,_=>.no
def wTy (z:Ty):Nat:=z.2.1.length
def Or (z:Ty):Bool:=decide (z.2.1.length<=maxI)
def M8:Gm
 | [.agg [.i .i64 a,.s b,.i .i64 c,.b d,.i .i64 e,.i .i64 f],.i .i64 k],[]=>.need (decide (0<=k/\k<=1048576)&&Or (a,b,c,d,e,f,())) (szA k (wTy (a,b,c,d,e,f,())))
 | _,_=>.no
def wWt (z:Wt):Nat:=z.2.2.2.1.length
def P4 (z:Wt):Bool:=decide (z.2.2.2.1.length<=maxI)
def M7:Gm
 | [.agg [.i .i64 a,.i .i64 c,.i .i64 d,.s b,.i .i64 e,.i .i64 f],.i .i64 k],[]=>.need (decide (0<=k/\k<=1048576)&&P4 (a,c,d,b,e,f,())) (szA k (wWt (a,c,d,b,e,f,())))
 | _,_=>.no
def Dw (l:List Nt):Nat:=(l.map wNt).sum
def J6 (l:List Nt):Nat:=l.length+Dw l
def GD (l:List Nt):Bool:=decide (l.length<=maxI)&&l.all P5
def Fy:LoopEnt:=⟨27,[0,1,5],[1],[4],fun
 | ([.sl NTd l,.i .i64 k,.i .i64 i],[])=>.need (decide (0<=i/\i.toNat<=l.length/\0<=k/\k<=1048576)&&GD l) (.br (decide (k-(Dw (l.drop i.toNat):Int)<0)) (.leaf (.ret,([.i .i64 (-1)],[]))) (.leaf (.exit 0,([.i .i64 (k-(Dw (l.drop i.toNat):Int))],[]))))
 | _=>.no⟩
def Rz:Gm
 | [.sl NTd l,.i .i64 k],[]=>.need (decide (0<=k/\k<=1048576)&&GD l) (szA k (J6 l))
 | _,_=>.no
def D9 (l:List Ty):Nat:=(l.map wTy).sum
def Il (l:List Ty):Nat:=l.length+D9 l
def F5 (l:List Ty):Bool:=decide (l.length<=maxI)&&l.all Or
def Fw:LoopEnt:=⟨27,[0,1,5],[1],[4],fun
 | ([.sl TCd l,.i .i64 k,.i .i64 i],[])=>.need (decide (0<=i/\i.toNat<=l.length/\0<=k/\k<=1048576)&&F5 l) (.br (decide (k-(D9 (l.drop i.toNat):Int)<0)) (.leaf (.ret,([.i .i64 (-1)],[]))) (.leaf (.exit 0,([.i .i64 (k-(D9 (l.drop i.toNat):Int))],[]))))
 | _=>.no⟩
def Rt:Gm
 | [.sl TCd l,.i .i64 k],[]=>.need (decide (0<=k/\k<=1048576)&&F5 l) (szA k (Il l))
 | _,_=>.no
def D8 (l:List Wt):Nat:=(l.map wWt).sum
def Kc (l:List Wt):Nat:=l.length+D8 l
def GC (l:List Wt):Bool:=decide (l.length<=maxI)&&l.all P4
def Fv:LoopEnt:=⟨27,[0,1,5],[1],[4],fun
 | ([.sl WCd l,.i .i64 k,.i .i64 i],[])=>.need (decide (0<=i/\i.toNat<=l.length/\0<=k/\k<=1048576)&&GC l) (.br (decide (k-(D8 (l.drop i.toNat):Int)<0)) (.leaf (.ret,([.i .i64 (-1)],[]))) (.leaf (.exit 0,([.i .i64 (k-(D8 (l.drop i.toNat):Int))],[]))))
 | _=>.no⟩
def Rr:Gm
 | [.sl WCd l,.i .i64 k],[]=>.need (decide (0<=k/\k<=1048576)&&GC l) (szA k (Kc l))
 | _,_=>.no
theorem CF {k:Int} {w:Nat} (h:k-(w:Int)<0):(szA k w).run=some (.j (-1),[]):=by
 unfold szA; rw [IQ (dcT h)]; rfl
theorem Ey {k:Int} {w:Nat} (h : ¬k-(w:Int)<0):(szA k w).run=some (.j (k-(w:Int)),[]):=by
 unfold szA; rw [JH (dcF h)]; rfl
theorem Ue (a:List UInt8) (c:Int) (b:List UInt8) (k:Int):Ax prog (Ab []) (Ab []) f75 [.agg [.s a,.j c,.s b],.j k] [] =
 ((ifB (decide (i64.wrap (k-(↑a.length:Int))<(0:Int))) (some (V.j (-1),[])) (ifB (decide (i64.wrap (i64.wrap (k-(↑a.length:Int)) -
 (↑b.length:Int))<(0:Int))) (some (V.j (-1),[])) (some (V.j (i64.wrap (i64.wrap (k-(↑a.length:Int))-(↑b.length:Int))),[])))):_):=by kernel_rfl
theorem Wk:Af prog 75 (Ent.rd1 MB).F:=by
 refine Ae KnowsL.nil.knows (Λ:=Ab []) func75 (c:=f75.body.getD .skip) (by kernel_rfl) fun vs_ bs_ r_ hq_ hv_ hb_=>?_
 unfold Ent.F MB at hq_
 dsimp only at hq_
 split at hq_
 ·rename_i a c b k
  obtain ⟨hc,hx⟩:=Ad hq_
  rw [anE,dcE] at hc
  obtain ⟨⟨h0,h1⟩,h2⟩:=hc
  unfold P5 at h2
  dsimp only at h2
  have hM:maxI=9223372036854775807:=rfl
  refine ⟨Ak _,(Ue a c b k).trans (Eq.trans ?_ hx)⟩
  show _=(szA k (wNt (a,c,b,()))).run
  unfold wNt
  dsimp only
  obtain ⟨h3,h4⟩:=of_decide_eq_true h2
  have hw:i64.wrap (k-(a.length:Int))=k-(a.length:Int):=Aw (by omega) (by omega)
  rw [hw]
  by_cases q:k-(a.length:Int)<0
  ·rw [Ag (dcT q),CF (by push_cast; omega)]
  ·have hw2:i64.wrap (k-(a.length:Int)-(b.length:Int))=k-(a.length:Int)-(b.length:Int):=Aw (by omega) (by omega)
   rw [Ac (dcF q),hw2]
   have e:k-(a.length:Int)-(b.length:Int)=k-((a.length+b.length:Nat):Int):=by push_cast; omega
   rw [e]
   by_cases q2:k-((a.length+b.length:Nat):Int)<0
   ·rw [Ag (dcT q2),CF q2]
   ·rw [Ac (dcF q2),Ey q2]
 ·cases hq_
theorem Ua (a:Int) (b:List UInt8) (c:Int) (d:Bool) (e f:Int) (k:Int):Ax prog (Ab []) (Ab []) f112 [.agg [.j a,.s b,.j c,.b d,.j e,.j f],.j k] [] =
 ((ifB (decide (i64.wrap (k-(↑b.length:Int))<(0:Int))) (some (V.j (-1),[])) (some (V.j (i64.wrap (k-(↑b.length:Int))),[]))):_):=by kernel_rfl
theorem Wi:Af prog 112 (Ent.rd1 M8).F:=by
 refine Ae KnowsL.nil.knows (Λ:=Ab []) func112 (c:=f112.body.getD .skip) (by kernel_rfl) fun vs_ bs_ r_ hq_ hv_ hb_=>?_
 unfold Ent.F M8 at hq_
 dsimp only at hq_
 split at hq_
 ·rename_i a b c d e f k
  obtain ⟨hc,hx⟩:=Ad hq_
  rw [anE,dcE] at hc
  obtain ⟨⟨h0,h1⟩,h2⟩:=hc
  unfold Or at h2
  dsimp only at h2
  have hM:maxI=9223372036854775807:=rfl
  refine ⟨Ak _,(Ua a b c d e f k).trans (Eq.trans ?_ hx)⟩
  show _=(szA k (wTy (a,b,c,d,e,f,()))).run
  unfold wTy
  dsimp only
  have h3:=of_decide_eq_true h2
  have hw:i64.wrap (k-(b.length:Int))=k-(b.length:Int):=Aw (by omega) (by omega)
  rw [hw]
  by_cases q:k-(b.length:Int)<0
  ·rw [Ag (dcT q),CF q]
  ·rw [Ac (dcF q),Ey q]
 ·cases hq_
theorem TY (a c d:Int) (b:List UInt8) (e f:Int) (k:Int):Ax prog (Ab []) (Ab []) f111 [.agg [.j a,.j c,.j d,.s b,.j e,.j f],.j k] [] =
 ((ifB (decide (i64.wrap (k-(↑b.length:Int))<(0:Int))) (some (V.j (-1),[])) (some (V.j (i64.wrap (k-(↑b.length:Int))),[]))):_):=by kernel_rfl
theorem Wh:Af prog 111 (Ent.rd1 M7).F:=by
 refine Ae KnowsL.nil.knows (Λ:=Ab []) func111 (c:=f111.body.getD .skip) (by kernel_rfl) fun vs_ bs_ r_ hq_ hv_ hb_=>?_
 unfold Ent.F M7 at hq_
 dsimp only at hq_
 split at hq_
 ·rename_i a c d b e f k
  obtain ⟨hc,hx⟩:=Ad hq_
  rw [anE,dcE] at hc
  obtain ⟨⟨h0,h1⟩,h2⟩:=hc
  unfold P4 at h2
  dsimp only at h2
  have hM:maxI=9223372036854775807:=rfl
  refine ⟨Ak _,(TY a c d b e f k).trans (Eq.trans ?_ hx)⟩
  show _=(szA k (wWt (a,c,d,b,e,f,()))).run
  unfold wWt
  dsimp only
  have h3:=of_decide_eq_true h2
  have hw:i64.wrap (k-(b.length:Int))=k-(b.length:Int):=Aw (by omega) (by omega)
  rw [hw]
  by_cases q:k-(b.length:Int)<0
  ·rw [Ag (dcT q),CF q]
  ·rw [Ac (dcF q),Ey q]
 ·cases hq_
theorem Jb (l:List Nt) (k i:Int):Av prog (Ab [(75,.rd1 MB)]) (Ab [(5,Fy)]) 0 (body f38 0) Fy ([.sl NTd l,.j k,.j i],[]) =
 ((ifB (decide (i<(↑l.length:Int))) (ifT (decide ((0:Int)<=i)&&decide (i<(↑l.length:Int))) (Ai l[i.toNat]? fun z=>ifT (decide ((0:Int)<=k/\k<=(1048576
 : Int))&&P5 (z.fst,z.snd.fst,z.snd.snd.fst,())) (ifB (decide (k-(↑(wNt (z.fst,z.snd.fst,z.snd.snd.fst,())):Int)<(0:Int))) (some (Ex.ret,[V.i .i64
 (-1)],[])) (ifB (decide (k-(↑(wNt (z.fst,z.snd.fst,z.snd.snd.fst,())):Int)<(0:Int))) (some (Ex.ret,[V.j (-1)],[])) (some (Ex.normal,[V.sl NTd l,V.i
 .i64 (k-(↑(wNt (z.fst,z.snd.fst,z.snd.snd.fst,())):Int)),V.j (i64.wrap (i+(1:Int)))],[])))))) (some (Ex.exit 0,[V.j k],[]))):_):=by kernel_rfl
theorem Ry (l:List Nt) (k:Int):Ax prog (Ab [(75,.rd1 MB)]) (Ab [(5,Fy)]) f38 [.sl NTd l,.j k] [] =
 ((ifB (decide (i64.wrap (k-(↑l.length:Int))<(0:Int))) (some (V.j (-1),[])) (ifT (decide ((0:Int)<=(0:Int)/\0<=l.length/\(0:Int)<=
 i64.wrap (k-(↑l.length:Int))/\i64.wrap (k-(↑l.length:Int))<=(1048576:Int))&&GD l) (ifB (decide (i64.wrap (k-(↑l.length:Int))
 - (↑(Dw (drop 0 l)):Int)<(0:Int))) (some (V.j (-1),[])) (some (V.j (i64.wrap (k-(↑l.length:Int))-(↑(Dw (drop (0 :
 Nat) l)):Int)),[]))))):_):=by kernel_rfl
theorem Kt (l:List Nt) (hl:l.length<=maxI) (ho : ∀ z∈l,P5 z=true) : ∀ (j i:Nat) (k:Int),i+j=l.length->0<=k->k<=1048576->∀ ex d,(Br.br (decide (k-(Dw (l.drop i):Int)<0)) (.leaf (.ret,([.j (-1)],[]))) (.leaf (.exit 0,([.j (k-(Dw (l.drop i):Int))],[]))):Br (Ex×Dt)).run=some (ex,d)->Runs prog (Ab [(75,.rd1 MB)]) (Ab [(5,Fy)]) 0 (body f38 0) Fy ([.sl NTd l,.j k,.j (i:Int)],[]) ex d
 | 0,i,k,hi,h0,h1,ex,d,h=>by
  have hr:=Jb l k i
  rw [Ac (dcF (by omega))] at hr
  have e0:(Dw (l.drop i):Int)=0:=by rw [drop_eq_nil_of_le (by omega)]; rfl
  rw [e0,Int.sub_zero,JH (dcF (by omega))] at h
  have h8:=Ao h
  obtain ⟨rfl,rfl⟩:=Prod.mk.inj h8
  exact .stop _ _ _ hr (by simp)
 | j+1,i,k,hi,h0,h1,ex,d,h=>by
  have hM:maxI=9223372036854775807:=rfl
  have hlt:i<l.length:=by omega
  have hr:=Jb l k i
  rw [Ag (dcT (by omega)),Aa (by simp only [anE,dcE]; omega),ntN,gtE hlt,Am,Ap (n:=i) (by omega)] at hr
  have ho1:=ho _ (getElem_mem hlt)
  have e:Dw (l.drop i)=wNt l[i]+Dw (l.drop (i+1)):=by
   unfold Dw
   rw [drop_eq_getElem_cons hlt,map_cons,sum_cons]
  generalize l[i]=z at hr ho1 e
  obtain ⟨a,c,b,⟨⟩⟩:=z
  dsimp only at hr
  rw [Aa (by rw [anE]; exact ⟨dcT ⟨h0,h1⟩,ho1⟩)] at hr
  generalize wNt _=w at hr e
  by_cases q:k-(w:Int)<0
  ·rw [Ag (dcT q)] at hr
   rw [IQ (dcT (by rw [e]; push_cast; omega))] at h
   have h8:=Ao h
   obtain ⟨rfl,rfl⟩:=Prod.mk.inj h8
   exact .stop _ _ _ hr (by simp)
  ·rw [Ac (dcF q),Ac (dcF q)] at hr
   have e2:k-(Dw (l.drop i):Int)=k-(w:Int)-(Dw (l.drop (i+1)):Int):=by rw [e]; push_cast; omega
   rw [e2] at h
   exact .step _ _ _ _ hr (Kt l hl ho j (i+1) (k-(w:Int)) (by omega) (by omega) (by omega) ex d h)
theorem MO {l:List Nt} (h:GD l=true):l.length<=maxI/\∀ z∈l,P5 z=true:=by
 unfold GD at h
 rw [anE,dcE] at h
 exact ⟨h.1,all_eq_true.1 h.2⟩
theorem Ud:Af prog 38 (Ent.rd1 Rz).F:=by
 refine Ae (kc func75 Wk KnowsL.nil).knows (Λ:=(Ab [(5,Fy)])) func38 (c:=f38.body.getD .skip) (by kernel_rfl) fun vs bs r hq hv hb=>?_
 unfold Ent.F Rz at hq
 dsimp only at hq
 split at hq
 ·rename_i l k
  obtain ⟨hc,hx⟩:=Ad hq
  rw [anE,dcE] at hc
  obtain ⟨⟨h0,h1⟩,h2⟩:=hc
  obtain ⟨h3,h4⟩:=MO h2
  have hM:maxI=9223372036854775807:=rfl
  have hok:Ar prog (Ab [(75,.rd1 MB)]) (Ab [(5,Fy)]) 0 (f38.body.getD .skip):=by
   refine An (a:=body f38 0) (by kernel_rfl) fun d ex d' h=>?_
   unfold Fy at h
   dsimp only at h
   split at h
   ·rename_i l k i
    obtain ⟨hc,hx⟩:=Ad h
    rw [anE,dcE] at hc
    obtain ⟨⟨a0,a1,a2,a3⟩,a4⟩:=hc
    obtain ⟨b1,b2⟩:=MO a4
    obtain ⟨i,rfl⟩:=eq_ofNat_of_zero_le a0
    simp only [ntN] at a1 hx
    exact Kt l b1 b2 (l.length-i) i k (by omega) a2 a3 ex d' hx
   ·cases h
  refine ⟨hok,(Ry l k).trans (Eq.trans ?_ hx)⟩
  show _=(szA k (J6 l)).run
  have hw:i64.wrap (k-(l.length:Int))=k-(l.length:Int):=Aw (by omega) (by omega)
  unfold J6
  rw [hw,drop_zero]
  by_cases q:k-(l.length:Int)<0
  ·rw [Ag (dcT q),CF (by push_cast; omega)]
  ·rw [Ac (dcF q),Aa (by rw [anE]; exact ⟨dcT (by omega),h2⟩)]
   have e:k-(l.length:Int)-(Dw l:Int)=k-((l.length+Dw l:Nat):Int):=by push_cast; omega
   rw [e]
   by_cases q2:k-((l.length+Dw l:Nat):Int)<0
   ·rw [Ag (dcT q2),CF q2]
   ·rw [Ac (dcF q2),Ey q2]
 ·cases hq
theorem IZ (l:List Ty) (k i:Int):Av prog (Ab [(112,.rd1 M8)]) (Ab [(5,Fw)]) 0 (body f74 0) Fw ([.sl TCd l,.j k,.j i],[]) =
 ((ifB (decide (i<(↑l.length:Int))) (ifT (decide ((0:Int)<=i)&&decide (i<(↑l.length:Int))) (Ai l[i.toNat]? fun z=>ifT (decide ((0:Int)<=k/\k<=(1048576
 : Int))&&Or (z.fst,z.snd.fst,z.snd.snd.fst,z.snd.snd.snd.fst,z.snd.snd.snd.snd.fst,z.snd.snd.snd.snd.snd.fst,())) (ifB (decide (k-(↑(wTy (z.fst,z.snd.fst,
 z.snd.snd.fst,z.snd.snd.snd.fst,z.snd.snd.snd.snd.fst,z.snd.snd.snd.snd.snd.fst,())):Int)<(0:Int))) (some (Ex.ret,[V.j (-1)],[])) (ifB (decide (k -
 (↑(wTy (z.fst,z.snd.fst,z.snd.snd.fst,z.snd.snd.snd.fst,z.snd.snd.snd.snd.fst,z.snd.snd.snd.snd.snd.fst,())):Int)<(0:Int))) (some (Ex.ret,[V.j (-1)],
 [])) (some (Ex.normal,[V.sl TCd l,V.j (k-(↑(wTy (z.fst,z.snd.fst,z.snd.snd.fst,z.snd.snd.snd.fst,z.snd.snd.snd.snd.fst,z.snd.snd.snd.snd.snd.fst,())) :
 Int)),V.j (i64.wrap (i+(1:Int)))],[])))))) (some (Ex.exit 0,[V.j k],[]))):_):=by kernel_rfl
theorem Rs (l:List Ty) (k:Int):Ax prog (Ab [(112,.rd1 M8)]) (Ab [(5,Fw)]) f74 [.sl TCd l,.j k] [] =
 ((ifB (decide (i64.wrap (k-(↑l.length:Int))<(0:Int))) (some (V.j (-1),[])) (ifT (decide ((0:Int)<=(0:Int)/\0<=l.length/\(0:Int)<=
 i64.wrap (k-(↑l.length:Int))/\i64.wrap (k-(↑l.length:Int))<=(1048576:Int))&&F5 l) (ifB (decide (i64.wrap (k-(↑l.length:Int))
 - (↑(D9 (drop 0 l)):Int)<(0:Int))) (some (V.j (-1),[])) (some (V.j (i64.wrap (k-(↑l.length:Int))-(↑(D9 (drop (0 :
 Nat) l)):Int)),[]))))):_):=by kernel_rfl
theorem Kr (l:List Ty) (hl:l.length<=maxI) (ho : ∀ z∈l,Or z=true) : ∀ (j i:Nat) (k:Int),i+j=l.length->0<=k->k<=1048576->∀ ex d,(Br.br (decide (k-(D9 (l.drop i):Int)<0)) (.leaf (.ret,([.j (-1)],[]))) (.leaf (.exit 0,([.j (k-(D9 (l.drop i):Int))],[]))):Br (Ex×Dt)).run=some (ex,d)->Runs prog (Ab [(112,.rd1 M8)]) (Ab [(5,Fw)]) 0 (body f74 0) Fw ([.sl TCd l,.j k,.j (i:Int)],[]) ex d
 | 0,i,k,hi,h0,h1,ex,d,h=>by
  have hr:=IZ l k i
  rw [Ac (dcF (by omega))] at hr
  have e0:(D9 (l.drop i):Int)=0:=by rw [drop_eq_nil_of_le (by omega)]; rfl
  rw [e0,Int.sub_zero,JH (dcF (by omega))] at h
  have h8:=Ao h
  obtain ⟨rfl,rfl⟩:=Prod.mk.inj h8
  exact .stop _ _ _ hr (by simp)
 | j+1,i,k,hi,h0,h1,ex,d,h=>by
  have hM:maxI=9223372036854775807:=rfl
  have hlt:i<l.length:=by omega
  have hr:=IZ l k i
  rw [Ag (dcT (by omega)),Aa (by simp only [anE,dcE]; omega),ntN,gtE hlt,Am,Ap (n:=i) (by omega)] at hr
  have ho1:=ho _ (getElem_mem hlt)
  have e:D9 (l.drop i)=wTy l[i]+D9 (l.drop (i+1)):=by
   unfold D9
   rw [drop_eq_getElem_cons hlt,map_cons,sum_cons]
  generalize l[i]=z at hr ho1 e
  obtain ⟨a,b,c,d_,e_,f,⟨⟩⟩:=z
  dsimp only at hr
  rw [Aa (by rw [anE]; exact ⟨dcT ⟨h0,h1⟩,ho1⟩)] at hr
  generalize wTy _=w at hr e
  by_cases q:k-(w:Int)<0
  ·rw [Ag (dcT q)] at hr
   rw [IQ (dcT (by rw [e]; push_cast; omega))] at h
   have h8:=Ao h
   obtain ⟨rfl,rfl⟩:=Prod.mk.inj h8
   exact .stop _ _ _ hr (by simp)
  ·rw [Ac (dcF q),Ac (dcF q)] at hr
   have e2:k-(D9 (l.drop i):Int)=k-(w:Int)-(D9 (l.drop (i+1)):Int):=by rw [e]; push_cast; omega
   rw [e2] at h
   exact .step _ _ _ _ hr (Kr l hl ho j (i+1) (k-(w:Int)) (by omega) (by omega) (by omega) ex d h)
theorem It {l:List Ty} (h:F5 l=true):l.length<=maxI/\∀ z∈l,Or z=true:=by
 unfold F5 at h
 rw [anE,dcE] at h
 exact ⟨h.1,all_eq_true.1 h.2⟩
theorem TZ:Af prog 74 (Ent.rd1 Rt).F:=by
 refine Ae (kc func112 Wi KnowsL.nil).knows (Λ:=(Ab [(5,Fw)])) func74 (c:=f74.body.getD .skip) (by kernel_rfl) fun vs bs r hq hv hb=>?_
 unfold Ent.F Rt at hq
 dsimp only at hq
 split at hq
 ·rename_i l k
  obtain ⟨hc,hx⟩:=Ad hq
  rw [anE,dcE] at hc
  obtain ⟨⟨h0,h1⟩,h2⟩:=hc
  obtain ⟨h3,h4⟩:=It h2
  have hM:maxI=9223372036854775807:=rfl
  have hok:Ar prog (Ab [(112,.rd1 M8)]) (Ab [(5,Fw)]) 0 (f74.body.getD .skip):=by
   refine An (a:=body f74 0) (by kernel_rfl) fun d ex d' h=>?_
   unfold Fw at h
   dsimp only at h
   split at h
   ·rename_i l k i
    obtain ⟨hc,hx⟩:=Ad h
    rw [anE,dcE] at hc
    obtain ⟨⟨a0,a1,a2,a3⟩,a4⟩:=hc
    obtain ⟨b1,b2⟩:=It a4
    obtain ⟨i,rfl⟩:=eq_ofNat_of_zero_le a0
    simp only [ntN] at a1 hx
    exact Kr l b1 b2 (l.length-i) i k (by omega) a2 a3 ex d' hx
   ·cases h
  refine ⟨hok,(Rs l k).trans (Eq.trans ?_ hx)⟩
  show _=(szA k (Il l)).run
  have hw:i64.wrap (k-(l.length:Int))=k-(l.length:Int):=Aw (by omega) (by omega)
  unfold Il
  rw [hw,drop_zero]
  by_cases q:k-(l.length:Int)<0
  ·rw [Ag (dcT q),CF (by push_cast; omega)]
  ·rw [Ac (dcF q),Aa (by rw [anE]; exact ⟨dcT (by omega),h2⟩)]
   have e:k-(l.length:Int)-(D9 l:Int)=k-((l.length+D9 l:Nat):Int):=by push_cast; omega
   rw [e]
   by_cases q2:k-((l.length+D9 l:Nat):Int)<0
   ·rw [Ag (dcT q2),CF q2]
   ·rw [Ac (dcF q2),Ey q2]
 ·cases hq
theorem IY (l:List Wt) (k i:Int):Av prog (Ab [(111,.rd1 M7)]) (Ab [(5,Fv)]) 0 (body f73 0) Fv ([.sl WCd l,.j k,.j i],[]) =
 ((ifB (decide (i<(↑l.length:Int))) (ifT (decide ((0:Int)<=i)&&decide (i<(↑l.length:Int))) (Ai l[i.toNat]? fun z=>ifT (decide ((0:Int)<=k/\k<=(1048576
 : Int))&&P4 (z.fst,z.snd.fst,z.snd.snd.fst,z.snd.snd.snd.fst,z.snd.snd.snd.snd.fst,z.snd.snd.snd.snd.snd.fst,())) (ifB (decide (k-(↑(wWt (z.fst,z.snd.fst,
 z.snd.snd.fst,z.snd.snd.snd.fst,z.snd.snd.snd.snd.fst,z.snd.snd.snd.snd.snd.fst,())):Int)<(0:Int))) (some (Ex.ret,[V.j (-1)],[])) (ifB (decide (k -
 (↑(wWt (z.fst,z.snd.fst,z.snd.snd.fst,z.snd.snd.snd.fst,z.snd.snd.snd.snd.fst,z.snd.snd.snd.snd.snd.fst,())):Int)<(0:Int))) (some (Ex.ret,[V.j (-1)],
 [])) (some (Ex.normal,[V.sl WCd l,V.j (k-(↑(wWt (z.fst,z.snd.fst,z.snd.snd.fst,z.snd.snd.snd.fst,z.snd.snd.snd.snd.fst,z.snd.snd.snd.snd.snd.fst,())) :
 Int)),V.j (i64.wrap (i+(1:Int)))],[])))))) (some (Ex.exit 0,[V.j k],[]))):_):=by kernel_rfl
theorem Rq (l:List Wt) (k:Int):Ax prog (Ab [(111,.rd1 M7)]) (Ab [(5,Fv)]) f73 [.sl WCd l,.j k] [] =
 ((ifB (decide (i64.wrap (k-(↑l.length:Int))<(0:Int))) (some (V.j (-1),[])) (ifT (decide ((0:Int)<=(0:Int)/\0<=l.length/\(0:Int)<=
 i64.wrap (k-(↑l.length:Int))/\i64.wrap (k-(↑l.length:Int))<=(1048576:Int))&&GC l) (ifB (decide (i64.wrap (k-(↑l.length:Int))
 - (↑(D8 (drop 0 l)):Int)<(0:Int))) (some (V.j (-1),[])) (some (V.j (i64.wrap (k-(↑l.length:Int))-(↑(D8 (drop (0 :
 Nat) l)):Int)),[]))))):_):=by kernel_rfl
theorem Kq (l:List Wt) (hl:l.length<=maxI) (ho : ∀ z∈l,P4 z=true) : ∀ (j i:Nat) (k:Int),i+j=l.length->0<=k->k<=1048576->∀ ex d,(Br.br (decide (k-(D8 (l.drop i):Int)<0)) (.leaf (.ret,([.j (-1)],[]))) (.leaf (.exit 0,([.j (k-(D8 (l.drop i):Int))],[]))):Br (Ex×Dt)).run=some (ex,d)->Runs prog (Ab [(111,.rd1 M7)]) (Ab [(5,Fv)]) 0 (body f73 0) Fv ([.sl WCd l,.j k,.j (i:Int)],[]) ex d
 | 0,i,k,hi,h0,h1,ex,d,h=>by
  have hr:=IY l k i
  rw [Ac (dcF (by omega))] at hr
  have e0:(D8 (l.drop i):Int)=0:=by rw [drop_eq_nil_of_le (by omega)]; rfl
  rw [e0,Int.sub_zero,JH (dcF (by omega))] at h
  have h8:=Ao h
  obtain ⟨rfl,rfl⟩:=Prod.mk.inj h8
  exact .stop _ _ _ hr (by simp)
 | j+1,i,k,hi,h0,h1,ex,d,h=>by
  have hM:maxI=9223372036854775807:=rfl
  have hlt:i<l.length:=by omega
  have hr:=IY l k i
  rw [Ag (dcT (by omega)),Aa (by simp only [anE,dcE]; omega),ntN,gtE hlt,Am,Ap (n:=i) (by omega)] at hr
  have ho1:=ho _ (getElem_mem hlt)
  have e:D8 (l.drop i)=wWt l[i]+D8 (l.drop (i+1)):=by
   unfold D8
   rw [drop_eq_getElem_cons hlt,map_cons,sum_cons]
  generalize l[i]=z at hr ho1 e
  obtain ⟨a,c,d_,b,e_,f,⟨⟩⟩:=z
  dsimp only at hr
  rw [Aa (by rw [anE]; exact ⟨dcT ⟨h0,h1⟩,ho1⟩)] at hr
  generalize wWt _=w at hr e
  by_cases q:k-(w:Int)<0
  ·rw [Ag (dcT q)] at hr
   rw [IQ (dcT (by rw [e]; push_cast; omega))] at h
   have h8:=Ao h
   obtain ⟨rfl,rfl⟩:=Prod.mk.inj h8
   exact .stop _ _ _ hr (by simp)
  ·rw [Ac (dcF q),Ac (dcF q)] at hr
   have e2:k-(D8 (l.drop i):Int)=k-(w:Int)-(D8 (l.drop (i+1)):Int):=by rw [e]; push_cast; omega
   rw [e2] at h
   exact .step _ _ _ _ hr (Kq l hl ho j (i+1) (k-(w:Int)) (by omega) (by omega) (by omega) ex d h)
theorem MN {l:List Wt} (h:GC l=true):l.length<=maxI/\∀ z∈l,P4 z=true:=by
 unfold GC at h
 rw [anE,dcE] at h
 exact ⟨h.1,all_eq_true.1 h.2⟩
theorem TX:Af prog 73 (Ent.rd1 Rr).F:=by
 refine Ae (kc func111 Wh KnowsL.nil).knows (Λ:=(Ab [(5,Fv)])) func73 (c:=f73.body.getD .skip) (by kernel_rfl) fun vs bs r hq hv hb=>?_
 unfold Ent.F Rr at hq
 dsimp only at hq
 split at hq
 ·rename_i l k
  obtain ⟨hc,hx⟩:=Ad hq
  rw [anE,dcE] at hc
  obtain ⟨⟨h0,h1⟩,h2⟩:=hc
  obtain ⟨h3,h4⟩:=MN h2
  have hM:maxI=9223372036854775807:=rfl
  have hok:Ar prog (Ab [(111,.rd1 M7)]) (Ab [(5,Fv)]) 0 (f73.body.getD .skip):=by
   refine An (a:=body f73 0) (by kernel_rfl) fun d ex d' h=>?_
   unfold Fv at h
   dsimp only at h
   split at h
   ·rename_i l k i
    obtain ⟨hc,hx⟩:=Ad h
    rw [anE,dcE] at hc
    obtain ⟨⟨a0,a1,a2,a3⟩,a4⟩:=hc
    obtain ⟨b1,b2⟩:=MN a4
    obtain ⟨i,rfl⟩:=eq_ofNat_of_zero_le a0
    simp only [ntN] at a1 hx
    exact Kq l b1 b2 (l.length-i) i k (by omega) a2 a3 ex d' hx
   ·cases h
  refine ⟨hok,(Rq l k).trans (Eq.trans ?_ hx)⟩
  show _=(szA k (Kc l)).run
  have hw:i64.wrap (k-(l.length:Int))=k-(l.length:Int):=Aw (by omega) (by omega)
  unfold Kc
  rw [hw,drop_zero]
  by_cases q:k-(l.length:Int)<0
  ·rw [Ag (dcT q),CF (by push_cast; omega)]
  ·rw [Ac (dcF q),Aa (by rw [anE]; exact ⟨dcT (by omega),h2⟩)]
   have e:k-(l.length:Int)-(D8 l:Int)=k-((l.length+D8 l:Nat):Int):=by push_cast; omega
   rw [e]
   by_cases q2:k-((l.length+D8 l:Nat):Int)<0
   ·rw [Ag (dcT q2),CF q2]
   ·rw [Ac (dcF q2),Ey q2]
 ·cases hq
def Ew (z:List Ty×Unit):Nat:=Il z.1
def F6 (z:List Ty×Unit):Bool:=F5 z.1
def NT:Gm
 | [.agg [.sl TCd l],.i .i64 k],[]=>.need (decide (0<=k/\k<=1048576)&&F6 (l,())) (szA k (Ew (l,())))
 | _,_=>.no
def Fp (z:List Wt×Unit):Nat:=Kc z.1
def KQ (z:List Wt×Unit):Bool:=GC z.1
def R4:Gm
 | [.agg [.sl WCd l],.i .i64 k],[]=>.need (decide (0<=k/\k<=1048576)&&KQ (l,())) (szA k (Fp (l,())))
 | _,_=>.no
def wTp (z:Tp):Nat:=z.1.length+Ew z.2.1
def Ot (z:Tp):Bool:=decide (z.1.length<=maxI)&&F6 z.2.1
def M9:Gm
 | [.agg [.s a,.sl TCd l,.i .i64 c],.i .i64 k],[]=>.need (decide (0<=k/\k<=1048576)&&Ot (a,(l,()),c,())) (szA k (wTp (a,(l,()),c,())))
 | _,_=>.no
def wFa (z:Fa):Nat:=z.2.1.length+(Fp z.2.2.1+(Ew z.2.2.2.1+J6 z.2.2.2.2.1))
def H8 (z:Fa):Bool:=decide (z.2.1.length<=maxI)&&(KQ z.2.2.1&&(F6 z.2.2.2.1&&GD z.2.2.2.2.1))
def Kv:Gm
 | [.agg [.i .i64 w,.s p,.sl WCd ws,.sl TCd v,.sl NTd b,.i .i64 c],.i .i64 k],[]=>.need (decide (0<=k/\k<=1048576)&&H8 (w,p,(ws,()),(v,()),b,c,())) (szA k (wFa (w,p,(ws,()),(v,()),b,c,())))
 | _,_=>.no
def C9 (l:List Tp):Nat:=(l.map wTp).sum
def Hw (l:List Tp):Nat:=l.length+C9 l
def Jh (l:List Tp):Bool:=decide (l.length<=maxI)&&l.all Ot
def Fx:LoopEnt:=⟨27,[0,1,5],[1],[4],fun
 | ([.sl TPd l,.i .i64 k,.i .i64 i],[])=>.need (decide (0<=i/\i.toNat<=l.length/\0<=k/\k<=1048576)&&Jh l) (.br (decide (k-(C9 (l.drop i.toNat):Int)<0)) (.leaf (.ret,([.i .i64 (-1)],[]))) (.leaf (.exit 0,([.i .i64 (k-(C9 (l.drop i.toNat):Int))],[]))))
 | _=>.no⟩
def Rv:Gm
 | [.sl TPd l,.i .i64 k],[]=>.need (decide (0<=k/\k<=1048576)&&Jh l) (szA k (Hw l))
 | _,_=>.no
def Cj (l:List Fa):Nat:=(l.map wFa).sum
def Mc (l:List Fa):Nat:=l.length+Cj l
def Ji (l:List Fa):Bool:=decide (l.length<=maxI)&&l.all H8
def Fz:LoopEnt:=⟨27,[0,1,5],[1],[4],fun
 | ([.sl FNd l,.i .i64 k,.i .i64 i],[])=>.need (decide (0<=i/\i.toNat<=l.length/\0<=k/\k<=1048576)&&Ji l) (.br (decide (k-(Cj (l.drop i.toNat):Int)<0)) (.leaf (.ret,([.i .i64 (-1)],[]))) (.leaf (.exit 0,([.i .i64 (k-(Cj (l.drop i.toNat):Int))],[]))))
 | _=>.no⟩
def R6:Gm
 | [.sl FNd l,.i .i64 k],[]=>.need (decide (0<=k/\k<=1048576)&&Ji l) (szA k (Mc l))
 | _,_=>.no
def wBk (z:List Tp×List Fa×Unit):Nat:=Hw z.1+Mc z.2.1
def Ou (z:List Tp×List Fa×Unit):Bool:=Jh z.1&&Ji z.2.1
def Wm:Gm
 | [.agg [.sl TPd ts,.sl FNd fs],.i .i64 k],[]=>.need (decide (0<=k/\k<=1048576)&&Ou (ts,fs,())) (szA k (wBk (ts,fs,())))
 | _,_=>.no
theorem R2 {k:Int} {w:Nat} {ok:Bool} (hok:ok=true) (h0:0<=k) (h1:k<=1048576):ifT (decide (0<=k/\k<=1048576)&&ok) (ifB (decide (k-(w:Int)<0)) (some (V.j (-1),([]:List (Option Blk)))) (ifB (decide (k-(w:Int)<0)) (some (V.j (-1),[])) (some (V.j (k-(w:Int)),[]))))=(szA k w).run:=by
 rw [Aa (by rw [anE]; exact ⟨dcT ⟨h0,h1⟩,hok⟩)]
 by_cases q:k-(w:Int)<0
 ·rw [Ag (dcT q),CF q]
 ·rw [Ac (dcF q),Ac (dcF q),Ey q]
theorem Tf {k:Int} {w r:Nat} (_ : ¬k-(w:Int)<0):(szA (k-(w:Int)) r).run=(szA k (w+r)).run:=by
 have e:k-(w:Int)-(r:Int)=k-((w+r:Nat):Int):=by push_cast; omega
 by_cases q2:k-(w:Int)-(r:Int)<0
 ·rw [CF q2,CF (by omega)]
 ·rw [Ey q2,Ey (by omega),e]
theorem Rw {k:Int} {w r:Nat} {ok:Bool} {X:Option (V×List (Option Blk))} (hok:ok=true) (h0:0<=k) (h1:k<=1048576) (hX : ¬k-(w:Int)<0->X=(szA (k-(w:Int)) r).run):ifT (decide (0<=k/\k<=1048576)&&ok) (ifB (decide (k-(w:Int)<0)) (some (V.j (-1),([]:List (Option Blk)))) (ifB (decide (k-(w:Int)<0)) (some (V.j (-1),[])) X))=(szA k (w+r)).run:=by
 rw [Aa (by rw [anE]; exact ⟨dcT ⟨h0,h1⟩,hok⟩)]
 by_cases q:k-(w:Int)<0
 ·rw [Ag (dcT q),CF (by push_cast; omega)]
 ·rw [Ac (dcF q),Ac (dcF q),hX q,Tf q]
theorem Aaq {k:Int} {w r:Nat} {X:Option (V×List (Option Blk))} (hX : ¬k-(w:Int)<0->X=(szA (k-(w:Int)) r).run):ifB (decide (k-(w:Int)<0)) (some (V.j (-1),([]:List (Option Blk)))) X=(szA k (w+r)).run:=by
 by_cases q:k-(w:Int)<0
 ·rw [Ag (dcT q),CF (by push_cast; omega)]
 ·rw [Ac (dcF q),hX q,Tf q]
theorem Rx (l:List Ty) (k:Int):Ax prog (Ab [(74,.rd1 Rt)]) (Ab []) f37 [.agg [.sl TCd l],.j k] [] =
 ((ifT (decide ((0:Int)<=k/\k<=(1048576:Int))&&F5 l) (ifB (decide (k-(↑(Il l):Int)<(0:Int))) (some (V.j (-1),[])) (ifB (decide (k-(↑(Il l) :
 Int)<(0:Int))) (some (V.j (-1),[])) (some (V.j (k-(↑(Il l):Int)),[]))))):_):=by kernel_rfl
theorem MA:Af prog 37 (Ent.rd1 NT).F:=by
 refine Ae (kc func74 TZ KnowsL.nil).knows (Λ:=Ab []) func37 (c:=f37.body.getD .skip) (by kernel_rfl) fun vs_ bs_ r_ hq_ hv_ hb_=>?_
 unfold Ent.F NT at hq_
 dsimp only at hq_
 split at hq_
 ·rename_i l k
  obtain ⟨hc,hx⟩:=Ad hq_
  rw [anE,dcE] at hc
  obtain ⟨⟨h0,h1⟩,h2⟩:=hc
  unfold F6 at h2
  dsimp only at h2
  have hM:maxI=9223372036854775807:=rfl
  refine ⟨Ak _,(Rx l k).trans (Eq.trans ?_ hx)⟩
  show _=(szA k (Ew (l,()))).run
  unfold Ew
  dsimp only
  rw [Aa (by rw [anE]; exact ⟨dcT ⟨h0,h1⟩,h2⟩)]
  by_cases q:k-(Il l:Int)<0
  ·rw [Ag (dcT q),CF q]
  ·rw [Ac (dcF q),Ac (dcF q),Ey q]
 ·cases hq_
theorem R3 (l:List Wt) (k:Int):Ax prog (Ab [(73,.rd1 Rr)]) (Ab []) f36 [.agg [.sl WCd l],.j k] [] =
 ((ifT (decide ((0:Int)<=k/\k<=(1048576:Int))&&GC l) (ifB (decide (k-(↑(Kc l):Int)<(0:Int))) (some (V.j (-1),[])) (ifB (decide (k-(↑(Kc l) :
 Int)<(0:Int))) (some (V.j (-1),[])) (some (V.j (k-(↑(Kc l):Int)),[]))))):_):=by kernel_rfl
theorem Uf:Af prog 36 (Ent.rd1 R4).F:=by
 refine Ae (kc func73 TX KnowsL.nil).knows (Λ:=Ab []) func36 (c:=f36.body.getD .skip) (by kernel_rfl) fun vs_ bs_ r_ hq_ hv_ hb_=>?_
 unfold Ent.F R4 at hq_
 dsimp only at hq_
 split at hq_
 ·rename_i l k
  obtain ⟨hc,hx⟩:=Ad hq_
  rw [anE,dcE] at hc
  obtain ⟨⟨h0,h1⟩,h2⟩:=hc
  unfold KQ at h2
  dsimp only at h2
  have hM:maxI=9223372036854775807:=rfl
  refine ⟨Ak _,(R3 l k).trans (Eq.trans ?_ hx)⟩
  show _=(szA k (Fp (l,()))).run
  unfold Fp
  dsimp only
  rw [Aa (by rw [anE]; exact ⟨dcT ⟨h0,h1⟩,h2⟩)]
  by_cases q:k-(Kc l:Int)<0
  ·rw [Ag (dcT q),CF q]
  ·rw [Ac (dcF q),Ac (dcF q),Ey q]
 ·cases hq_
theorem Uc (a:List UInt8) (l:List Ty) (c:Int) (k:Int):Ax prog (Ab [(37,.rd1 NT)]) (Ab []) f72 [.agg [.s a,.sl TCd l,.j c],.j k] [] =
 ((ifB (decide (i64.wrap (k-(↑a.length:Int))<(0:Int))) (some (V.j (-1),[])) (ifT (decide ((0:Int)<=i64.wrap (k-(↑a.length:Int))/\
 i64.wrap (k-(↑a.length:Int))<=(1048576:Int))&&F6 (l,())) (ifB (decide (i64.wrap (k-(↑a.length:Int))-(↑(Ew (l,())):Int)<(0 :
 Int))) (some (V.j (-1),[])) (ifB (decide (i64.wrap (k-(↑a.length:Int))-(↑(Ew (l,())):Int)<(0:Int))) (some (V.j (-1),[])) (some (V.i
 .i64 (i64.wrap (k-(↑a.length:Int))-(↑(Ew (l,())):Int)),[])))))):_):=by kernel_rfl
theorem Wj:Af prog 72 (Ent.rd1 M9).F:=by
 refine Ae (kc func37 MA KnowsL.nil).knows (Λ:=Ab []) func72 (c:=f72.body.getD .skip) (by kernel_rfl) fun vs_ bs_ r_ hq_ hv_ hb_=>?_
 unfold Ent.F M9 at hq_
 dsimp only at hq_
 split at hq_
 ·rename_i a l c k
  obtain ⟨hc,hx⟩:=Ad hq_
  rw [anE,dcE] at hc
  obtain ⟨⟨h0,h1⟩,h2⟩:=hc
  unfold Ot at h2
  dsimp only at h2
  have hM:maxI=9223372036854775807:=rfl
  refine ⟨Ak _,(Uc a l c k).trans (Eq.trans ?_ hx)⟩
  show _=(szA k (wTp (a,(l,()),c,()))).run
  unfold wTp
  dsimp only
  rw [anE,dcE] at h2
  obtain ⟨h3,h4⟩:=h2
  have hw:i64.wrap (k-(a.length:Int))=k-(a.length:Int):=Aw (by omega) (by omega)
  rw [hw]
  exact Aaq fun q=>R2 h4 (by omega) (by omega)
 ·cases hq_
theorem Uh (w:Int) (p:List UInt8) (ws:List Wt) (v:List Ty) (b:List Nt) (c:Int) (k:Int):Ax prog (Ab [(36,.rd1 R4),(37,.rd1 NT),(38,.rd1 Rz)]) (Ab []) f8 [.agg [.j w,.s p,.sl WCd ws,.sl TCd v,.sl NTd b,.j c],.j k] [] =
 ((ifB (decide (i64.wrap (k-(↑p.length:Int))<(0:Int))) (some (V.j (-1),[])) (ifT (decide ((0:Int)<=i64.wrap (k-(↑p.length:Int))/\
 i64.wrap (k-(↑p.length:Int))<=(1048576:Int))&&KQ (ws,())) (ifB (decide (i64.wrap (k-(↑p.length:Int))-(↑(Fp (ws,())):Int)<(0 :
 Int))) (some (V.j (-1),[])) (ifB (decide (i64.wrap (k-(↑p.length:Int))-(↑(Fp (ws,())):Int)<(0:Int))) (some (V.j (-1),[])) (ifT (decide
 ((0:Int)<=i64.wrap (k-(↑p.length:Int))-(↑(Fp (ws,())):Int)/\i64.wrap (k-(↑p.length:Int))-(↑(Fp (ws,())):Int)<=(1048576:Int))
 && F6 (v,())) (ifB (decide (i64.wrap (k-(↑p.length:Int))-(↑(Fp (ws,())):Int)-(↑(Ew (v,())):Int)<(0:Int))) (some (V.j (-1),[]))
 (ifB (decide (i64.wrap (k-(↑p.length:Int))-(↑(Fp (ws,())):Int)-(↑(Ew (v,())):Int)<(0:Int))) (some (V.j (-1),[])) (ifT (decide ((0 :
 Int)<=i64.wrap (k-(↑p.length:Int))-(↑(Fp (ws,())):Int)-(↑(Ew (v,())):Int)/\i64.wrap (k-(↑p.length:Int))-(↑(Fp (ws,())):Int)
 - (↑(Ew (v,())):Int)<=(1048576:Int))&&GD b) (ifB (decide (i64.wrap (k-(↑p.length:Int))-(↑(Fp (ws,())):Int)-(↑(Ew (v,())):Int) -
 (↑(J6 b):Int)<(0:Int))) (some (V.j (-1),[])) (ifB (decide (i64.wrap (k-(↑p.length:Int))-(↑(Fp (ws,())):Int)-(↑(Ew (v,())):Int) -
 (↑(J6 b):Int)<(0:Int))) (some (V.j (-1),[])) (some (V.j (i64.wrap (k-(↑p.length:Int))-(↑(Fp (ws,())):Int)-(↑(Ew (v,())):Int)
 - (↑(J6 b):Int)),[])))))))))))):_):=by kernel_rfl
theorem Pg:Af prog 8 (Ent.rd1 Kv).F:=by
 refine Ae (kc func36 Uf (kc func37 MA (kc func38 Ud KnowsL.nil))).knows (Λ:=Ab []) func8 (c:=f8.body.getD .skip) (by kernel_rfl) fun vs_ bs_ r_ hq_ hv_ hb_=>?_
 unfold Ent.F Kv at hq_
 dsimp only at hq_
 split at hq_
 ·rename_i w p ws v b c k
  obtain ⟨hc,hx⟩:=Ad hq_
  rw [anE,dcE] at hc
  obtain ⟨⟨h0,h1⟩,h2⟩:=hc
  unfold H8 at h2
  dsimp only at h2
  have hM:maxI=9223372036854775807:=rfl
  refine ⟨Ak _,(Uh w p ws v b c k).trans (Eq.trans ?_ hx)⟩
  show _=(szA k (wFa (w,p,(ws,()),(v,()),b,c,()))).run
  unfold wFa
  dsimp only
  simp only [anE,dcE] at h2
  obtain ⟨h3,h4,h5,h6⟩:=h2
  have hw:i64.wrap (k-(p.length:Int))=k-(p.length:Int):=Aw (by omega) (by omega)
  rw [hw]
  exact Aaq fun q=>Rw h4 (by omega) (by omega) fun q2=>Rw h5 (by omega) (by omega) fun q3=>R2 h6 (by omega) (by omega)
 ·cases hq_
theorem Ja (l:List Tp) (k i:Int):Av prog (Ab [(72,.rd1 M9)]) (Ab [(5,Fx)]) 0 (body f34 0) Fx ([.sl TPd l,.j k,.j i],[]) =
 ((ifB (decide (i<(↑l.length:Int))) (ifT (decide ((0:Int)<=i)&&decide (i<(↑l.length:Int))) (Ai l[i.toNat]? fun z=>ifT (decide ((0:Int)<=k/\k<=(1048576
 : Int))&&Ot (z.fst,(z.snd.fst.fst,()),z.snd.snd.fst,())) (ifB (decide (k-(↑(wTp (z.fst,(z.snd.fst.fst,()),z.snd.snd.fst,())):Int)<(0:Int))) (some
 (Ex.ret,[V.j (-1)],[])) (ifB (decide (k-(↑(wTp (z.fst,(z.snd.fst.fst,()),z.snd.snd.fst,())):Int)<(0:Int))) (some (Ex.ret,[V.j (-1)],[])) (some
 (Ex.normal,[V.sl TPd l,V.j (k-(↑(wTp (z.fst,(z.snd.fst.fst,()),z.snd.snd.fst,())):Int)),V.j (i64.wrap (i+(1:Int)))],[])))))) (some
 (Ex.exit 0,[V.j k],[]))):_):=by kernel_rfl
theorem Ru (l:List Tp) (k:Int):Ax prog (Ab [(72,.rd1 M9)]) (Ab [(5,Fx)]) f34 [.sl TPd l,.j k] [] =
 ((ifB (decide (i64.wrap (k-(↑l.length:Int))<(0:Int))) (some (V.j (-1),[])) (ifT (decide ((0:Int)<=(0:Int)/\0<=l.length/\(0:Int)<=
 i64.wrap (k-(↑l.length:Int))/\i64.wrap (k-(↑l.length:Int))<=(1048576:Int))&&Jh l) (ifB (decide (i64.wrap (k-(↑l.length:Int))
 - (↑(C9 (drop 0 l)):Int)<(0:Int))) (some (V.j (-1),[])) (some (V.j (i64.wrap (k-(↑l.length:Int))-(↑(C9 (drop (0 :
 Nat) l)):Int)),[]))))):_):=by kernel_rfl
theorem Ks (l:List Tp) (hl:l.length<=maxI) (ho : ∀ z∈l,Ot z=true) : ∀ (j i:Nat) (k:Int),i+j=l.length->0<=k->k<=1048576->∀ ex d,(Br.br (decide (k-(C9 (l.drop i):Int)<0)) (.leaf (.ret,([.j (-1)],[]))) (.leaf (.exit 0,([.j (k-(C9 (l.drop i):Int))],[]))):Br (Ex×Dt)).run=some (ex,d)->Runs prog (Ab [(72,.rd1 M9)]) (Ab [(5,Fx)]) 0 (body f34 0) Fx ([.sl TPd l,.j k,.j (i:Int)],[]) ex d
 | 0,i,k,hi,h0,h1,ex,d,h=>by
  have hr:=Ja l k i
  rw [Ac (dcF (by omega))] at hr
  have e0:(C9 (l.drop i):Int)=0:=by rw [drop_eq_nil_of_le (by omega)]; rfl
  rw [e0,Int.sub_zero,JH (dcF (by omega))] at h
  have h8:=Ao h
  obtain ⟨rfl,rfl⟩:=Prod.mk.inj h8
  exact .stop _ _ _ hr (by simp)
 | j+1,i,k,hi,h0,h1,ex,d,h=>by
  have hM:maxI=9223372036854775807:=rfl
  have hlt:i<l.length:=by omega
  have hr:=Ja l k i
  rw [Ag (dcT (by omega)),Aa (by simp only [anE,dcE]; omega),ntN,gtE hlt,Am,Ap (n:=i) (by omega)] at hr
  have ho1:=ho _ (getElem_mem hlt)
  have e:C9 (l.drop i)=wTp l[i]+C9 (l.drop (i+1)):=by
   unfold C9
   rw [drop_eq_getElem_cons hlt,map_cons,sum_cons]
  generalize l[i]=z at hr ho1 e
  obtain ⟨a,⟨l_,⟨⟩⟩,c,⟨⟩⟩:=z
  dsimp only at hr
  rw [Aa (by rw [anE]; exact ⟨dcT ⟨h0,h1⟩,ho1⟩)] at hr
  generalize wTp _=w at hr e
  by_cases q:k-(w:Int)<0
  ·rw [Ag (dcT q)] at hr
   rw [IQ (dcT (by rw [e]; push_cast; omega))] at h
   have h8:=Ao h
   obtain ⟨rfl,rfl⟩:=Prod.mk.inj h8
   exact .stop _ _ _ hr (by simp)
  ·rw [Ac (dcF q),Ac (dcF q)] at hr
   have e2:k-(C9 (l.drop i):Int)=k-(w:Int)-(C9 (l.drop (i+1)):Int):=by rw [e]; push_cast; omega
   rw [e2] at h
   exact .step _ _ _ _ hr (Ks l hl ho j (i+1) (k-(w:Int)) (by omega) (by omega) (by omega) ex d h)
theorem Iu {l:List Tp} (h:Jh l=true):l.length<=maxI/\∀ z∈l,Ot z=true:=by
 unfold Jh at h
 rw [anE,dcE] at h
 exact ⟨h.1,all_eq_true.1 h.2⟩
theorem Ub:Af prog 34 (Ent.rd1 Rv).F:=by
 refine Ae (kc func72 Wj KnowsL.nil).knows (Λ:=(Ab [(5,Fx)])) func34 (c:=f34.body.getD .skip) (by kernel_rfl) fun vs bs r hq hv hb=>?_
 unfold Ent.F Rv at hq
 dsimp only at hq
 split at hq
 ·rename_i l k
  obtain ⟨hc,hx⟩:=Ad hq
  rw [anE,dcE] at hc
  obtain ⟨⟨h0,h1⟩,h2⟩:=hc
  obtain ⟨h3,h4⟩:=Iu h2
  have hM:maxI=9223372036854775807:=rfl
  have hok:Ar prog (Ab [(72,.rd1 M9)]) (Ab [(5,Fx)]) 0 (f34.body.getD .skip):=by
   refine An (a:=body f34 0) (by kernel_rfl) fun d ex d' h=>?_
   unfold Fx at h
   dsimp only at h
   split at h
   ·rename_i l k i
    obtain ⟨hc,hx⟩:=Ad h
    rw [anE,dcE] at hc
    obtain ⟨⟨a0,a1,a2,a3⟩,a4⟩:=hc
    obtain ⟨b1,b2⟩:=Iu a4
    obtain ⟨i,rfl⟩:=eq_ofNat_of_zero_le a0
    simp only [ntN] at a1 hx
    exact Ks l b1 b2 (l.length-i) i k (by omega) a2 a3 ex d' hx
   ·cases h
  refine ⟨hok,(Ru l k).trans (Eq.trans ?_ hx)⟩
  show _=(szA k (Hw l)).run
  have hw:i64.wrap (k-(l.length:Int))=k-(l.length:Int):=Aw (by omega) (by omega)
  unfold Hw
  rw [hw,drop_zero]
  by_cases q:k-(l.length:Int)<0
  ·rw [Ag (dcT q),CF (by push_cast; omega)]
  ·rw [Ac (dcF q),Aa (by rw [anE]; exact ⟨dcT (by omega),h2⟩)]
   have e:k-(l.length:Int)-(C9 l:Int)=k-((l.length+C9 l:Nat):Int):=by push_cast; omega
   rw [e]
   by_cases q2:k-((l.length+C9 l:Nat):Int)<0
   ·rw [Ag (dcT q2),CF q2]
   ·rw [Ac (dcF q2),Ey q2]
 ·cases hq
theorem Jc (l:List Fa) (k i:Int):Av prog (Ab [(8,.rd1 Kv)]) (Ab [(5,Fz)]) 0 (body f35 0) Fz ([.sl FNd l,.j k,.j i],[]) =
 ((ifB (decide (i<(↑l.length:Int))) (ifT (decide ((0:Int)<=i)&&decide (i<(↑l.length:Int))) (Ai l[i.toNat]? fun z=>ifT (decide ((0:Int)<=k/\k<=(1048576
 : Int))&&H8 (z.fst,z.snd.fst,(z.snd.snd.fst.fst,()),(z.snd.snd.snd.fst.fst,()),z.snd.snd.snd.snd.fst,z.snd.snd.snd.snd.snd.fst,())) (ifB (decide (k-(↑(wFa
 (z.fst,z.snd.fst,(z.snd.snd.fst.fst,()),(z.snd.snd.snd.fst.fst,()),z.snd.snd.snd.snd.fst,z.snd.snd.snd.snd.snd.fst,())):Int)<(0:Int))) (some (Ex.ret,[V.i
 .i64 (-1)],[])) (ifB (decide (k-(↑(wFa (z.fst,z.snd.fst,(z.snd.snd.fst.fst,()),(z.snd.snd.snd.fst.fst,()),z.snd.snd.snd.snd.fst,z.snd.snd.snd.snd.snd.fst,()))
 : Int)<(0:Int))) (some (Ex.ret,[V.j (-1)],[])) (some (Ex.normal,[V.sl FNd l,V.j (k-(↑(wFa (z.fst,z.snd.fst,(z.snd.snd.fst.fst,()),
 (z.snd.snd.snd.fst.fst,()),z.snd.snd.snd.snd.fst,z.snd.snd.snd.snd.snd.fst,())):Int)),V.j (i64.wrap (i+(1:Int)))],[])))))) (some (Ex.exit 0,[V.i
 .i64 k],[]))):_):=by kernel_rfl
theorem R5 (l:List Fa) (k:Int):Ax prog (Ab [(8,.rd1 Kv)]) (Ab [(5,Fz)]) f35 [.sl FNd l,.j k] [] =
 ((ifB (decide (i64.wrap (k-(↑l.length:Int))<(0:Int))) (some (V.j (-1),[])) (ifT (decide ((0:Int)<=(0:Int)/\0<=l.length/\(0:Int)<=
 i64.wrap (k-(↑l.length:Int))/\i64.wrap (k-(↑l.length:Int))<=(1048576:Int))&&Ji l) (ifB (decide (i64.wrap (k-(↑l.length:Int))
 - (↑(Cj (drop 0 l)):Int)<(0:Int))) (some (V.j (-1),[])) (some (V.j (i64.wrap (k-(↑l.length:Int))-(↑(Cj (drop (0 :
 Nat) l)):Int)),[]))))):_):=by kernel_rfl
theorem Ku (l:List Fa) (hl:l.length<=maxI) (ho : ∀ z∈l,H8 z=true) : ∀ (j i:Nat) (k:Int),i+j=l.length->0<=k->k<=1048576->∀ ex d,(Br.br (decide (k-(Cj (l.drop i):Int)<0)) (.leaf (.ret,([.j (-1)],[]))) (.leaf (.exit 0,([.j (k-(Cj (l.drop i):Int))],[]))):Br (Ex×Dt)).run=some (ex,d)->Runs prog (Ab [(8,.rd1 Kv)]) (Ab [(5,Fz)]) 0 (body f35 0) Fz ([.sl FNd l,.j k,.j (i:Int)],[]) ex d
 | 0,i,k,hi,h0,h1,ex,d,h=>by
  have hr:=Jc l k i
  rw [Ac (dcF (by omega))] at hr
  have e0:(Cj (l.drop i):Int)=0:=by rw [drop_eq_nil_of_le (by omega)]; rfl
  rw [e0,Int.sub_zero,JH (dcF (by omega))] at h
  have h8:=Ao h
  obtain ⟨rfl,rfl⟩:=Prod.mk.inj h8
  exact .stop _ _ _ hr (by simp)
 | j+1,i,k,hi,h0,h1,ex,d,h=>by
  have hM:maxI=9223372036854775807:=rfl
  have hlt:i<l.length:=by omega
  have hr:=Jc l k i
  rw [Ag (dcT (by omega)),Aa (by simp only [anE,dcE]; omega),ntN,gtE hlt,Am,Ap (n:=i) (by omega)] at hr
  have ho1:=ho _ (getElem_mem hlt)
  have e:Cj (l.drop i)=wFa l[i]+Cj (l.drop (i+1)):=by
   unfold Cj
   rw [drop_eq_getElem_cons hlt,map_cons,sum_cons]
  generalize l[i]=z at hr ho1 e
  obtain ⟨w_,p,⟨ws,⟨⟩⟩,⟨v,⟨⟩⟩,b,c,⟨⟩⟩:=z
  dsimp only at hr
  rw [Aa (by rw [anE]; exact ⟨dcT ⟨h0,h1⟩,ho1⟩)] at hr
  generalize wFa _=w at hr e
  by_cases q:k-(w:Int)<0
  ·rw [Ag (dcT q)] at hr
   rw [IQ (dcT (by rw [e]; push_cast; omega))] at h
   have h8:=Ao h
   obtain ⟨rfl,rfl⟩:=Prod.mk.inj h8
   exact .stop _ _ _ hr (by simp)
  ·rw [Ac (dcF q),Ac (dcF q)] at hr
   have e2:k-(Cj (l.drop i):Int)=k-(w:Int)-(Cj (l.drop (i+1)):Int):=by rw [e]; push_cast; omega
   rw [e2] at h
   exact .step _ _ _ _ hr (Ku l hl ho j (i+1) (k-(w:Int)) (by omega) (by omega) (by omega) ex d h)
theorem Iv {l:List Fa} (h:Ji l=true):l.length<=maxI/\∀ z∈l,H8 z=true:=by
 unfold Ji at h
 rw [anE,dcE] at h
 exact ⟨h.1,all_eq_true.1 h.2⟩
theorem Ug:Af prog 35 (Ent.rd1 R6).F:=by
 refine Ae (kc func8 Pg KnowsL.nil).knows (Λ:=(Ab [(5,Fz)])) func35 (c:=f35.body.getD .skip) (by kernel_rfl) fun vs bs r hq hv hb=>?_
 unfold Ent.F R6 at hq
 dsimp only at hq
 split at hq
 ·rename_i l k
  obtain ⟨hc,hx⟩:=Ad hq
  rw [anE,dcE] at hc
  obtain ⟨⟨h0,h1⟩,h2⟩:=hc
  obtain ⟨h3,h4⟩:=Iv h2
  have hM:maxI=9223372036854775807:=rfl
  have hok:Ar prog (Ab [(8,.rd1 Kv)]) (Ab [(5,Fz)]) 0 (f35.body.getD .skip):=by
   refine An (a:=body f35 0) (by kernel_rfl) fun d ex d' h=>?_
   unfold Fz at h
   dsimp only at h
   split at h
   ·rename_i l k i
    obtain ⟨hc,hx⟩:=Ad h
    rw [anE,dcE] at hc
    obtain ⟨⟨a0,a1,a2,a3⟩,a4⟩:=hc
    obtain ⟨b1,b2⟩:=Iv a4
    obtain ⟨i,rfl⟩:=eq_ofNat_of_zero_le a0
    simp only [ntN] at a1 hx
    exact Ku l b1 b2 (l.length-i) i k (by omega) a2 a3 ex d' hx
   ·cases h
  refine ⟨hok,(R5 l k).trans (Eq.trans ?_ hx)⟩
  show _=(szA k (Mc l)).run
  have hw:i64.wrap (k-(l.length:Int))=k-(l.length:Int):=Aw (by omega) (by omega)
  unfold Mc
  rw [hw,drop_zero]
  by_cases q:k-(l.length:Int)<0
  ·rw [Ag (dcT q),CF (by push_cast; omega)]
  ·rw [Ac (dcF q),Aa (by rw [anE]; exact ⟨dcT (by omega),h2⟩)]
   have e:k-(l.length:Int)-(Cj l:Int)=k-((l.length+Cj l:Nat):Int):=by push_cast; omega
   rw [e]
   by_cases q2:k-((l.length+Cj l:Nat):Int)<0
   ·rw [Ag (dcT q2),CF q2]
   ·rw [Ac (dcF q2),Ey q2]
 ·cases hq
theorem Ui (ts:List Tp) (fs:List Fa) (k:Int):Ax prog (Ab [(34,.rd1 Rv),(35,.rd1 R6)]) (Ab []) f7 [.agg [.sl TPd ts,.sl FNd fs],.j k] [] =
 ((ifT (decide ((0:Int)<=k/\k<=(1048576:Int))&&Jh ts) (ifB (decide (k-(↑(Hw ts):Int)<(0:Int))) (some (V.j (-1),[])) (ifB (decide (k-(↑(Hw ts)
 : Int)<(0:Int))) (some (V.j (-1),[])) (ifT (decide ((0:Int)<=k-(↑(Hw ts):Int)/\k-(↑(Hw ts):Int)<=(1048576:Int))&&Ji fs) (ifB (decide (k
 - (↑(Hw ts):Int)-(↑(Mc fs):Int)<(0:Int))) (some (V.j (-1),[])) (ifB (decide (k-(↑(Hw ts):Int)-(↑(Mc fs):Int)<(0:Int))) (some (V.i .i64
 (-1),[])) (some (V.j (k-(↑(Hw ts):Int)-(↑(Mc fs):Int)),[])))))))):_):=by kernel_rfl
theorem Wl:Af prog 7 (Ent.rd1 Wm).F:=by
 refine Ae (kc func34 Ub (kc func35 Ug KnowsL.nil)).knows (Λ:=Ab []) func7 (c:=f7.body.getD .skip) (by kernel_rfl) fun vs_ bs_ r_ hq_ hv_ hb_=>?_
 unfold Ent.F Wm at hq_
 dsimp only at hq_
 split at hq_
 ·rename_i ts fs k
  obtain ⟨hc,hx⟩:=Ad hq_
  rw [anE,dcE] at hc
  obtain ⟨⟨h0,h1⟩,h2⟩:=hc
  unfold Ou at h2
  dsimp only at h2
  have hM:maxI=9223372036854775807:=rfl
  refine ⟨Ak _,(Ui ts fs k).trans (Eq.trans ?_ hx)⟩
  show _=(szA k (wBk (ts,fs,()))).run
  unfold wBk
  dsimp only
  rw [anE] at h2
  exact Rw h2.1 h0 h1 fun q2=>R2 h2.2 (by omega) (by omega)
 ·cases hq_
def eqL {α:Type} (f:α->α->Bool):List α->List α->Bool
 | [],[]=>true
 | x::l,y::q=>f x y&&eqL f l q
 | _,_=>false
def G9 (x y:Nt):Bool:=x.1==y.1&&(x.2.1==y.2.1&&x.2.2.1==y.2.2.1)
def N6:Gm
 | [.agg [.s a0,.i .i64 a1,.s a2],.agg [.s b0,.i .i64 b1,.s b2]],[]=>.leaf (.b (G9 (a0,a1,a2,()) (b0,b1,b2,())),[])
 | _,_=>.no
def G7 (x y:Ty):Bool:=x.1==y.1&&(x.2.1==y.2.1&&(x.2.2.1==y.2.2.1&&(x.2.2.2.1==y.2.2.2.1&&(x.2.2.2.2.1==y.2.2.2.2.1&&x.2.2.2.2.2.1==y.2.2.2.2.2.1))))
def N3:Gm
 | [.agg [.i .i64 a0,.s a1,.i .i64 a2,.b a3,.i .i64 a4,.i .i64 a5],.agg [.i .i64 b0,.s b1,.i .i64 b2,.b b3,.i .i64 b4,.i .i64 b5]],[]=>.leaf (.b (G7 (a0,a1,a2,a3,a4,a5,()) (b0,b1,b2,b3,b4,b5,())),[])
 | _,_=>.no
def G6 (x y:Wt):Bool:=x.1==y.1&&(x.2.1==y.2.1&&(x.2.2.1==y.2.2.1&&(x.2.2.2.1==y.2.2.2.1&&(x.2.2.2.2.1==y.2.2.2.2.1&&x.2.2.2.2.2.1==y.2.2.2.2.2.1))))
def N1:Gm
 | [.agg [.i .i64 a0,.i .i64 a1,.i .i64 a2,.s a3,.i .i64 a4,.i .i64 a5],.agg [.i .i64 b0,.i .i64 b1,.i .i64 b2,.s b3,.i .i64 b4,.i .i64 b5]],[]=>.leaf (.b (G6 (a0,a1,a2,a3,a4,a5,()) (b0,b1,b2,b3,b4,b5,())),[])
 | _,_=>.no
def FV:LoopEnt:=⟨27,[0,1,5],[],[4],fun
 | ([.sl NTd l,.sl NTd q,.i .i64 i],[])=>.need (decide (0<=i/\i.toNat<=l.length/\l.length=q.length/\l.length<=maxI)) (.br (eqL G9 (l.drop i.toNat) (q.drop i.toNat)) (.leaf (.exit 0,([],[]))) (.leaf (.ret,([.b false],[]))))
 | _=>.no⟩
def SJ:Gm
 | [.sl NTd l,.sl NTd q],[]=>.need (decide (l.length<=maxI)) (.leaf (.b (eqL G9 l q),[]))
 | _,_=>.no
def FT:LoopEnt:=⟨27,[0,1,5],[],[4],fun
 | ([.sl TCd l,.sl TCd q,.i .i64 i],[])=>.need (decide (0<=i/\i.toNat<=l.length/\l.length=q.length/\l.length<=maxI)) (.br (eqL G7 (l.drop i.toNat) (q.drop i.toNat)) (.leaf (.exit 0,([],[]))) (.leaf (.ret,([.b false],[]))))
 | _=>.no⟩
def SE:Gm
 | [.sl TCd l,.sl TCd q],[]=>.need (decide (l.length<=maxI)) (.leaf (.b (eqL G7 l q),[]))
 | _,_=>.no
def FS:LoopEnt:=⟨27,[0,1,5],[],[4],fun
 | ([.sl WCd l,.sl WCd q,.i .i64 i],[])=>.need (decide (0<=i/\i.toNat<=l.length/\l.length=q.length/\l.length<=maxI)) (.br (eqL G6 (l.drop i.toNat) (q.drop i.toNat)) (.leaf (.exit 0,([],[]))) (.leaf (.ret,([.b false],[]))))
 | _=>.no⟩
def SC:Gm
 | [.sl WCd l,.sl WCd q],[]=>.need (decide (l.length<=maxI)) (.leaf (.b (eqL G6 l q),[]))
 | _,_=>.no
theorem IF {α:Type} {f:α->α->Bool} : ∀ {l q:List α},l.length≠q.length->eqL f l q=false
 | [],[],h=>absurd rfl h
 | [],_::_,_=>rfl
 | _::_,[],_=>rfl
 | x::l,y::q,h=>by
  have:l.length≠q.length:=fun e=>h (by simp [e])
  rw [eqL,IF this,Bool.and_false]
theorem Ea {α:Type} {f:α->α->Bool} : ∀ {l:List α},(∀ x∈l,f x x=true)->eqL f l l=true
 | [],_=>rfl
 | x::l,h=>by rw [eqL,h x (by simp),Ea (fun y hy=>h y (by simp [hy]))]; rfl
theorem Vo (a0:List UInt8) (a1:Int) (a2:List UInt8) (b0:List UInt8) (b1:Int) (b2:List UInt8):Ax prog (Ab []) (Ab []) f22 [.agg [.s a0,.j a1,.s a2],.agg [.s b0,.j b1,.s b2]] [] =
 ((ifB (!a0==b0) (some (V.b false,[])) (ifB (a1 != b1) (some (V.b false,[])) (ifB (!a2==b2) (some (V.b false,[])) (some (V.b true,[]))))):_):=by kernel_rfl
theorem Yc:Af prog 22 (Ent.rd1 N6).F:=by
 refine Ae KnowsL.nil.knows (Λ:=Ab []) func22 (c:=f22.body.getD .skip) (by kernel_rfl) fun vs bs r hq hv hb=>?_
 unfold Ent.F N6 at hq
 dsimp only at hq
 split at hq
 ·rename_i a0 a1 a2 b0 b1 b2
  refine ⟨Ak _,(Vo a0 a1 a2 b0 b1 b2).trans (Eq.trans ?_ hq)⟩
  show _=some _
  unfold G9 bne
  dsimp only
  cases a0==b0<;>cases a1==b1<;>cases a2==b2<;>rfl
 ·cases hq
theorem Vj (a0:Int) (a1:List UInt8) (a2:Int) (a3:Bool) (a4 a5:Int) (b0:Int) (b1:List UInt8) (b2:Int) (b3:Bool) (b4 b5:Int):Ax prog (Ab []) (Ab []) f132 [.agg [.j a0,.s a1,.j a2,.b a3,.j a4,.j a5],.agg [.j b0,.s b1,.j b2,.b b3,.j b4,.j b5]] [] =
 ((ifB (a0 != b0) (some (V.b false,[])) (ifB (!a1==b1) (some (V.b false,[])) (ifB (a2 != b2) (some (V.b false,[])) (ifB (!a3==b3) (some (V.b false,[])) (ifB (a4 !=
 b4) (some (V.b false,[])) (ifB (a5 != b5) (some (V.b false,[])) (some (V.b true,[])))))))):_):=by kernel_rfl
theorem Ya:Af prog 132 (Ent.rd1 N3).F:=by
 refine Ae KnowsL.nil.knows (Λ:=Ab []) func132 (c:=f132.body.getD .skip) (by kernel_rfl) fun vs bs r hq hv hb=>?_
 unfold Ent.F N3 at hq
 dsimp only at hq
 split at hq
 ·rename_i a0 a1 a2 a3 a4 a5 b0 b1 b2 b3 b4 b5
  refine ⟨Ak _,(Vj a0 a1 a2 a3 a4 a5 b0 b1 b2 b3 b4 b5).trans (Eq.trans ?_ hq)⟩
  show _=some _
  unfold G7 bne
  dsimp only
  cases a0==b0<;>cases a1==b1<;>cases a2==b2<;>cases a3==b3<;>cases a4==b4<;>cases a5==b5<;>rfl
 ·cases hq
theorem Vg (a0 a1 a2:Int) (a3:List UInt8) (a4 a5:Int) (b0 b1 b2:Int) (b3:List UInt8) (b4 b5:Int):Ax prog (Ab []) (Ab []) f131 [.agg [.j a0,.j a1,.j a2,.s a3,.j a4,.j a5],.agg [.j b0,.j b1,.j b2,.s b3,.j b4,.j b5]] [] =
 ((ifB (a0 != b0) (some (V.b false,[])) (ifB (a1 != b1) (some (V.b false,[])) (ifB (a2 != b2) (some (V.b false,[])) (ifB (!a3==b3) (some (V.b false,[])) (ifB (a4 != b4)
 (some (V.b false,[])) (ifB (a5 != b5) (some (V.b false,[])) (some (V.b true,[])))))))):_):=by kernel_rfl
theorem XZ:Af prog 131 (Ent.rd1 N1).F:=by
 refine Ae KnowsL.nil.knows (Λ:=Ab []) func131 (c:=f131.body.getD .skip) (by kernel_rfl) fun vs bs r hq hv hb=>?_
 unfold Ent.F N1 at hq
 dsimp only at hq
 split at hq
 ·rename_i a0 a1 a2 a3 a4 a5 b0 b1 b2 b3 b4 b5
  refine ⟨Ak _,(Vg a0 a1 a2 a3 a4 a5 b0 b1 b2 b3 b4 b5).trans (Eq.trans ?_ hq)⟩
  show _=some _
  unfold G6 bne
  dsimp only
  cases a0==b0<;>cases a1==b1<;>cases a2==b2<;>cases a3==b3<;>cases a4==b4<;>cases a5==b5<;>rfl
 ·cases hq
theorem J2 (l q:List Nt) (i:Int):Av prog (Ab [(22,.rd1 N6)]) (Ab [(4,FV)]) 0 (body f54 0) FV ([.sl NTd l,.sl NTd q,.j i],[]) =
 ((ifB (decide (i<(↑l.length:Int))) (ifT (decide ((0:Int)<=i)&&decide (i<(↑l.length:Int))) (Ai l[i.toNat]? fun z=>ifT (decide ((0:Int)<=i)&&decide (i
 < (↑q.length:Int))) (Ai q[i.toNat]? fun z_1=>ifB (!G9 (z.fst,z.snd.fst,z.snd.snd.fst,()) (z_1.fst,z_1.snd.fst,z_1.snd.snd.fst,())) (some (Ex.ret,[V.b
 false],[])) (some (Ex.normal,[V.sl NTd l,V.sl NTd q,V.j (i64.wrap (i+(1:Int)))],[]))))) (some (Ex.exit 0,[],[]))):_):=by kernel_rfl
theorem SI (l q:List Nt):Ax prog (Ab [(22,.rd1 N6)]) (Ab [(4,FV)]) f54 [.sl NTd l,.sl NTd q] [] =
 ((ifB ((↑l.length:Int) != (↑q.length:Int)) (some (V.b false,[])) (ifT (decide ((0:Int)<=(0:Int)/\0<=l.length/\l.length=q.length/\l.length<=maxI))
 (ifB (eqL G9 (drop 0 l) (drop 0 q)) (some (V.b true,[])) (some (V.b false,[]))))):_):=by kernel_rfl
theorem LG (l q:List Nt) (hl:l.length<=maxI) (hq:l.length=q.length) : ∀ (j i:Nat),i+j=l.length->∀ ex d,(Br.br (eqL G9 (l.drop i) (q.drop i)) (.leaf (.exit 0,([],[]))) (.leaf (.ret,([.b false],[]))):Br (Ex×Dt)).run=some (ex,d)->Runs prog (Ab [(22,.rd1 N6)]) (Ab [(4,FV)]) 0 (body f54 0) FV ([.sl NTd l,.sl NTd q,.j (i:Int)],[]) ex d
 | 0,i,hi,ex,d,h=>by
  have hr:=J2 l q i
  rw [Ac (dcF (by omega))] at hr
  rw [drop_eq_nil_of_le (by omega),drop_eq_nil_of_le (by omega),eqL] at h
  have h8:=Ao h
  obtain ⟨rfl,rfl⟩:=Prod.mk.inj h8
  exact .stop _ _ _ hr (by simp)
 | j+1,i,hi,ex,d,h=>by
  have hM:maxI=9223372036854775807:=rfl
  have hlt:i<l.length:=by omega
  have hlq:i<q.length:=by omega
  have hr:=J2 l q i
  rw [Ag (dcT (by omega)),Aa (by simp only [anE,dcE]; omega),ntN,gtE hlt,Am,Aa (by simp only [anE,dcE]; omega),gtE hlq,Am,Ap (n:=i) (by omega)] at hr
  rw [drop_eq_getElem_cons hlt,drop_eq_getElem_cons hlq,eqL] at h
  have e : ∀ x y:Nt,G9 (x.1,x.2.1,x.2.2.1,()) (y.1,y.2.1,y.2.2.1,())=G9 x y:=fun x y=>rfl
  rw [e] at hr
  cases h1:G9 l[i] q[i] with
  | false=>
   rw [h1] at hr h
   have h8:=Ao h
   obtain ⟨rfl,rfl⟩:=Prod.mk.inj h8
   exact .stop _ _ _ hr (by simp)
  | true=>
   rw [h1] at hr h
   exact .step _ _ _ _ hr (LG l q hl hq j (i+1) (by omega) ex d h)
theorem Vn:Af prog 54 (Ent.rd1 SJ).F:=by
 refine Ae (kc func22 Yc KnowsL.nil).knows (Λ:=(Ab [(4,FV)])) func54 (c:=f54.body.getD .skip) (by kernel_rfl) fun vs bs r hq hv hb=>?_
 unfold Ent.F SJ at hq
 dsimp only at hq
 split at hq
 ·rename_i l q
  obtain ⟨hc,hx⟩:=Ad hq
  have hc:=of_decide_eq_true hc
  have hok:Ar prog (Ab [(22,.rd1 N6)]) (Ab [(4,FV)]) 0 (f54.body.getD .skip):=by
   refine An (a:=body f54 0) (by kernel_rfl) fun d ex d' h=>?_
   unfold FV at h
   dsimp only at h
   split at h
   ·rename_i l q i
    obtain ⟨hc,hx⟩:=Ad h
    obtain ⟨a0,a1,a2,a3⟩:=of_decide_eq_true hc
    obtain ⟨i,rfl⟩:=eq_ofNat_of_zero_le a0
    simp only [ntN] at a1 hx
    exact LG l q a3 a2 (l.length-i) i (by omega) ex d' hx
   ·cases h
  refine ⟨hok,(SI l q).trans (Eq.trans ?_ hx)⟩
  show _=some _
  by_cases h:l.length=q.length
  ·have h2:((l.length:Int) != (q.length:Int))=false:=bne_eq_false_iff_eq.2 (by omega)
   rw [h2,AS,Aa (dcT ⟨by omega,by omega,h,hc⟩),drop_zero,drop_zero]
   cases eqL G9 l q<;>rfl
  ·have h2:((l.length:Int) != (q.length:Int))=true:=bne_iff_ne.2 (by omega)
   rw [h2,IF h]
   rfl
 ·cases hq
theorem J0 (l q:List Ty) (i:Int):Av prog (Ab [(132,.rd1 N3)]) (Ab [(4,FT)]) 0 (body f91 0) FT ([.sl TCd l,.sl TCd q,.j i],[]) =
 ((ifB (decide (i<(↑l.length:Int))) (ifT (decide ((0:Int)<=i)&&decide (i<(↑l.length:Int))) (Ai l[i.toNat]? fun z=>ifT (decide ((0:Int)<=i)&&decide (i
 < (↑q.length:Int))) (Ai q[i.toNat]? fun z_1=>ifB (!G7 (z.fst,z.snd.fst,z.snd.snd.fst,z.snd.snd.snd.fst,z.snd.snd.snd.snd.fst,z.snd.snd.snd.snd.snd.fst,())
 (z_1.fst,z_1.snd.fst,z_1.snd.snd.fst,z_1.snd.snd.snd.fst,z_1.snd.snd.snd.snd.fst,z_1.snd.snd.snd.snd.snd.fst,())) (some (Ex.ret,[V.b false],[])) (some (Ex.normal,
 [V.sl TCd l,V.sl TCd q,V.j (i64.wrap (i+(1:Int)))],[]))))) (some (Ex.exit 0,[],[]))):_):=by kernel_rfl
theorem SD (l q:List Ty):Ax prog (Ab [(132,.rd1 N3)]) (Ab [(4,FT)]) f91 [.sl TCd l,.sl TCd q] [] =
 ((ifB ((↑l.length:Int) != (↑q.length:Int)) (some (V.b false,[])) (ifT (decide ((0:Int)<=(0:Int)/\0<=l.length/\l.length=q.length/\l.length<=maxI))
 (ifB (eqL G7 (drop 0 l) (drop 0 q)) (some (V.b true,[])) (some (V.b false,[]))))):_):=by kernel_rfl
theorem LE (l q:List Ty) (hl:l.length<=maxI) (hq:l.length=q.length) : ∀ (j i:Nat),i+j=l.length->∀ ex d,(Br.br (eqL G7 (l.drop i) (q.drop i)) (.leaf (.exit 0,([],[]))) (.leaf (.ret,([.b false],[]))):Br (Ex×Dt)).run=some (ex,d)->Runs prog (Ab [(132,.rd1 N3)]) (Ab [(4,FT)]) 0 (body f91 0) FT ([.sl TCd l,.sl TCd q,.j (i:Int)],[]) ex d
 | 0,i,hi,ex,d,h=>by
  have hr:=J0 l q i
  rw [Ac (dcF (by omega))] at hr
  rw [drop_eq_nil_of_le (by omega),drop_eq_nil_of_le (by omega),eqL] at h
  have h8:=Ao h
  obtain ⟨rfl,rfl⟩:=Prod.mk.inj h8
  exact .stop _ _ _ hr (by simp)
 | j+1,i,hi,ex,d,h=>by
  have hM:maxI=9223372036854775807:=rfl
  have hlt:i<l.length:=by omega
  have hlq:i<q.length:=by omega
  have hr:=J0 l q i
  rw [Ag (dcT (by omega)),Aa (by simp only [anE,dcE]; omega),ntN,gtE hlt,Am,Aa (by simp only [anE,dcE]; omega),gtE hlq,Am,Ap (n:=i) (by omega)] at hr
  rw [drop_eq_getElem_cons hlt,drop_eq_getElem_cons hlq,eqL] at h
  have e : ∀ x y:Ty,G7 (x.1,x.2.1,x.2.2.1,x.2.2.2.1,x.2.2.2.2.1,x.2.2.2.2.2.1,()) (y.1,y.2.1,y.2.2.1,y.2.2.2.1,y.2.2.2.2.1,y.2.2.2.2.2.1,())=G7 x y:=fun x y=>rfl
  rw [e] at hr
  cases h1:G7 l[i] q[i] with
  | false=>
   rw [h1] at hr h
   have h8:=Ao h
   obtain ⟨rfl,rfl⟩:=Prod.mk.inj h8
   exact .stop _ _ _ hr (by simp)
  | true=>
   rw [h1] at hr h
   exact .step _ _ _ _ hr (LE l q hl hq j (i+1) (by omega) ex d h)
theorem Vi:Af prog 91 (Ent.rd1 SE).F:=by
 refine Ae (kc func132 Ya KnowsL.nil).knows (Λ:=(Ab [(4,FT)])) func91 (c:=f91.body.getD .skip) (by kernel_rfl) fun vs bs r hq hv hb=>?_
 unfold Ent.F SE at hq
 dsimp only at hq
 split at hq
 ·rename_i l q
  obtain ⟨hc,hx⟩:=Ad hq
  have hc:=of_decide_eq_true hc
  have hok:Ar prog (Ab [(132,.rd1 N3)]) (Ab [(4,FT)]) 0 (f91.body.getD .skip):=by
   refine An (a:=body f91 0) (by kernel_rfl) fun d ex d' h=>?_
   unfold FT at h
   dsimp only at h
   split at h
   ·rename_i l q i
    obtain ⟨hc,hx⟩:=Ad h
    obtain ⟨a0,a1,a2,a3⟩:=of_decide_eq_true hc
    obtain ⟨i,rfl⟩:=eq_ofNat_of_zero_le a0
    simp only [ntN] at a1 hx
    exact LE l q a3 a2 (l.length-i) i (by omega) ex d' hx
   ·cases h
  refine ⟨hok,(SD l q).trans (Eq.trans ?_ hx)⟩
  show _=some _
  by_cases h:l.length=q.length
  ·have h2:((l.length:Int) != (q.length:Int))=false:=bne_eq_false_iff_eq.2 (by omega)
   rw [h2,AS,Aa (dcT ⟨by omega,by omega,h,hc⟩),drop_zero,drop_zero]
   cases eqL G7 l q<;>rfl
  ·have h2:((l.length:Int) != (q.length:Int))=true:=bne_iff_ne.2 (by omega)
   rw [h2,IF h]
   rfl
 ·cases hq
theorem Jz (l q:List Wt) (i:Int):Av prog (Ab [(131,.rd1 N1)]) (Ab [(4,FS)]) 0 (body f90 0) FS ([.sl WCd l,.sl WCd q,.j i],[]) =
 ((ifB (decide (i<(↑l.length:Int))) (ifT (decide ((0:Int)<=i)&&decide (i<(↑l.length:Int))) (Ai l[i.toNat]? fun z=>ifT (decide ((0:Int)<=i)&&decide (i
 < (↑q.length:Int))) (Ai q[i.toNat]? fun z_1=>ifB (!G6 (z.fst,z.snd.fst,z.snd.snd.fst,z.snd.snd.snd.fst,z.snd.snd.snd.snd.fst,z.snd.snd.snd.snd.snd.fst,())
 (z_1.fst,z_1.snd.fst,z_1.snd.snd.fst,z_1.snd.snd.snd.fst,z_1.snd.snd.snd.snd.fst,z_1.snd.snd.snd.snd.snd.fst,())) (some (Ex.ret,[V.b false],[])) (some (Ex.normal,
 [V.sl WCd l,V.sl WCd q,V.j (i64.wrap (i+(1:Int)))],[]))))) (some (Ex.exit 0,[],[]))):_):=by kernel_rfl
theorem SB (l q:List Wt):Ax prog (Ab [(131,.rd1 N1)]) (Ab [(4,FS)]) f90 [.sl WCd l,.sl WCd q] [] =
 ((ifB ((↑l.length:Int) != (↑q.length:Int)) (some (V.b false,[])) (ifT (decide ((0:Int)<=(0:Int)/\0<=l.length/\l.length=q.length/\l.length<=maxI))
 (ifB (eqL G6 (drop 0 l) (drop 0 q)) (some (V.b true,[])) (some (V.b false,[]))))):_):=by kernel_rfl
theorem LD (l q:List Wt) (hl:l.length<=maxI) (hq:l.length=q.length) : ∀ (j i:Nat),i+j=l.length->∀ ex d,(Br.br (eqL G6 (l.drop i) (q.drop i)) (.leaf (.exit 0,([],[]))) (.leaf (.ret,([.b false],[]))):Br (Ex×Dt)).run=some (ex,d)->Runs prog (Ab [(131,.rd1 N1)]) (Ab [(4,FS)]) 0 (body f90 0) FS ([.sl WCd l,.sl WCd q,.j (i:Int)],[]) ex d
 | 0,i,hi,ex,d,h=>by
  have hr:=Jz l q i
  rw [Ac (dcF (by omega))] at hr
  rw [drop_eq_nil_of_le (by omega),drop_eq_nil_of_le (by omega),eqL] at h
  have h8:=Ao h
  obtain ⟨rfl,rfl⟩:=Prod.mk.inj h8
  exact .stop _ _ _ hr (by simp)
 | j+1,i,hi,ex,d,h=>by
  have hM:maxI=9223372036854775807:=rfl
  have hlt:i<l.length:=by omega
  have hlq:i<q.length:=by omega
  have hr:=Jz l q i
  rw [Ag (dcT (by omega)),Aa (by simp only [anE,dcE]; omega),ntN,gtE hlt,Am,Aa (by simp only [anE,dcE]; omega),gtE hlq,Am,Ap (n:=i) (by omega)] at hr
  rw [drop_eq_getElem_cons hlt,drop_eq_getElem_cons hlq,eqL] at h
  have e : ∀ x y:Wt,G6 (x.1,x.2.1,x.2.2.1,x.2.2.2.1,x.2.2.2.2.1,x.2.2.2.2.2.1,()) (y.1,y.2.1,y.2.2.1,y.2.2.2.1,y.2.2.2.2.1,y.2.2.2.2.2.1,())=G6 x y:=fun x y=>rfl
  rw [e] at hr
  cases h1:G6 l[i] q[i] with
  | false=>
   rw [h1] at hr h
   have h8:=Ao h
   obtain ⟨rfl,rfl⟩:=Prod.mk.inj h8
   exact .stop _ _ _ hr (by simp)
  | true=>
   rw [h1] at hr h
   exact .step _ _ _ _ hr (LD l q hl hq j (i+1) (by omega) ex d h)
theorem Vf:Af prog 90 (Ent.rd1 SC).F:=by
 refine Ae (kc func131 XZ KnowsL.nil).knows (Λ:=(Ab [(4,FS)])) func90 (c:=f90.body.getD .skip) (by kernel_rfl) fun vs bs r hq hv hb=>?_
 unfold Ent.F SC at hq
 dsimp only at hq
 split at hq
 ·rename_i l q
  obtain ⟨hc,hx⟩:=Ad hq
  have hc:=of_decide_eq_true hc
  have hok:Ar prog (Ab [(131,.rd1 N1)]) (Ab [(4,FS)]) 0 (f90.body.getD .skip):=by
   refine An (a:=body f90 0) (by kernel_rfl) fun d ex d' h=>?_
   unfold FS at h
   dsimp only at h
   split at h
   ·rename_i l q i
    obtain ⟨hc,hx⟩:=Ad h
    obtain ⟨a0,a1,a2,a3⟩:=of_decide_eq_true hc
    obtain ⟨i,rfl⟩:=eq_ofNat_of_zero_le a0
    simp only [ntN] at a1 hx
    exact LD l q a3 a2 (l.length-i) i (by omega) ex d' hx
   ·cases h
  refine ⟨hok,(SB l q).trans (Eq.trans ?_ hx)⟩
  show _=some _
  by_cases h:l.length=q.length
  ·have h2:((l.length:Int) != (q.length:Int))=false:=bne_eq_false_iff_eq.2 (by omega)
   rw [h2,AS,Aa (dcT ⟨by omega,by omega,h,hc⟩),drop_zero,drop_zero]
   cases eqL G6 l q<;>rfl
  ·have h2:((l.length:Int) != (q.length:Int))=true:=bne_iff_ne.2 (by omega)
   rw [h2,IF h]
   rfl
 ·cases hq
def GS (x y:List Ty×Unit):Bool:=eqL G7 x.1 y.1
def FR (x:List Ty×Unit):Bool:=decide (x.1.length<=maxI)
def OG:Gm
 | [.agg [.sl TCd a0],.agg [.sl TCd b0]],[]=>.need (FR (a0,())) (.leaf (.b (GS (a0,()) (b0,())),[]))
 | _,_=>.no
def N7 (x y:List Wt×Unit):Bool:=eqL G6 x.1 y.1
def LC (x:List Wt×Unit):Bool:=decide (x.1.length<=maxI)
def SL:Gm
 | [.agg [.sl WCd a0],.agg [.sl WCd b0]],[]=>.need (LC (a0,())) (.leaf (.b (N7 (a0,()) (b0,())),[]))
 | _,_=>.no
def G8 (x y:Tp):Bool:=x.1==y.1&&(GS x.2.1 y.2.1&&x.2.2.1==y.2.2.1)
def E4 (x:Tp):Bool:=FR x.2.1
def N4:Gm
 | [.agg [.s a0,.sl TCd a1,.i .i64 a2],.agg [.s b0,.sl TCd b1,.i .i64 b2]],[]=>.need (E4 (a0,(a1,()),a2,())) (.leaf (.b (G8 (a0,(a1,()),a2,()) (b0,(b1,()),b2,())),[]))
 | _,_=>.no
def FX (x y:Fa):Bool:=x.1==y.1&&(x.2.1==y.2.1&&(N7 x.2.2.1 y.2.2.1&&(GS x.2.2.2.1 y.2.2.2.1&&(eqL G9 x.2.2.2.2.1 y.2.2.2.2.1&&x.2.2.2.2.2.1==y.2.2.2.2.2.1))))
def Ek (x:Fa):Bool:=LC x.2.2.1&&(FR x.2.2.2.1&&decide (x.2.2.2.2.1.length<=maxI))
def LI:Gm
 | [.agg [.i .i64 a0,.s a1,.sl WCd a2,.sl TCd a3,.sl NTd a4,.i .i64 a5],.agg [.i .i64 b0,.s b1,.sl WCd b2,.sl TCd b3,.sl NTd b4,.i .i64 b5]],[]=>.need (Ek (a0,a1,(a2,()),(a3,()),a4,a5,())) (.leaf (.b (FX (a0,a1,(a2,()),(a3,()),a4,a5,()) (b0,b1,(b2,()),(b3,()),b4,b5,())),[]))
 | _,_=>.no
def FU:LoopEnt:=⟨27,[0,1,5],[],[4],fun
 | ([.sl TPd l,.sl TPd q,.i .i64 i],[])=>.need (decide (0<=i/\i.toNat<=l.length/\l.length=q.length/\l.length<=maxI)&&l.all E4) (.br (eqL G8 (l.drop i.toNat) (q.drop i.toNat)) (.leaf (.exit 0,([],[]))) (.leaf (.ret,([.b false],[]))))
 | _=>.no⟩
def SG:Gm
 | [.sl TPd l,.sl TPd q],[]=>.need (decide (l.length<=maxI)&&l.all E4) (.leaf (.b (eqL G8 l q),[]))
 | _,_=>.no
def FW:LoopEnt:=⟨27,[0,1,5],[],[4],fun
 | ([.sl FNd l,.sl FNd q,.i .i64 i],[])=>.need (decide (0<=i/\i.toNat<=l.length/\l.length=q.length/\l.length<=maxI)&&l.all Ek) (.br (eqL FX (l.drop i.toNat) (q.drop i.toNat)) (.leaf (.exit 0,([],[]))) (.leaf (.ret,([.b false],[]))))
 | _=>.no⟩
def SN:Gm
 | [.sl FNd l,.sl FNd q],[]=>.need (decide (l.length<=maxI)&&l.all Ek) (.leaf (.b (eqL FX l q),[]))
 | _,_=>.no
def Q0 (x y:List Tp×List Fa×Unit):Bool:=eqL G8 x.1 y.1&&eqL FX x.2.1 y.2.1
def GR (x:List Tp×List Fa×Unit):Bool:=(decide (x.1.length<=maxI)&&x.1.all E4)&&(decide (x.2.1.length<=maxI)&&x.2.1.all Ek)
def Yf:Gm
 | [.agg l,.agg q],[]=>(match l with
  | [.sl TPd a0,.sl FNd a1]=>(match q with
   | [.sl TPd b0,.sl FNd b1]=>.need (GR (a0,a1,())) (.leaf (.b (Q0 (a0,a1,()) (b0,b1,())),[]))
   | _=>.no)
  | _=>.no)
 | _,_=>.no
theorem SH (a0:List Ty) (b0:List Ty):Ax prog (Ab [(91,.rd1 SE)]) (Ab []) f53 [.agg [.sl TCd a0],.agg [.sl TCd b0]] [] =
 ((ifT (decide (a0.length<=maxI)) (ifB (!eqL G7 a0 b0) (some (V.b false,[])) (some (V.b true,[])))):_):=by kernel_rfl
theorem N5:Af prog 53 (Ent.rd1 OG).F:=by
 refine Ae (kc func91 Vi KnowsL.nil).knows (Λ:=Ab []) func53 (c:=f53.body.getD .skip) (by kernel_rfl) fun vs bs r hq hv hb=>?_
 unfold Ent.F OG at hq
 dsimp only at hq
 split at hq
 ·rename_i a0 b0
  obtain ⟨hc,hx⟩:=Ad hq
  unfold FR at hc
  dsimp only at hc
  refine ⟨Ak _,(SH a0 b0).trans (Eq.trans ?_ hx)⟩
  show _=some _
  unfold GS
  dsimp only
  rw [Aa hc]
  cases eqL G7 a0 b0<;>rfl
 ·cases hq
theorem SK (a0:List Wt) (b0:List Wt):Ax prog (Ab [(90,.rd1 SC)]) (Ab []) f52 [.agg [.sl WCd a0],.agg [.sl WCd b0]] [] =
 ((ifT (decide (a0.length<=maxI)) (ifB (!eqL G6 a0 b0) (some (V.b false,[])) (some (V.b true,[])))):_):=by kernel_rfl
theorem Vq:Af prog 52 (Ent.rd1 SL).F:=by
 refine Ae (kc func90 Vf KnowsL.nil).knows (Λ:=Ab []) func52 (c:=f52.body.getD .skip) (by kernel_rfl) fun vs bs r hq hv hb=>?_
 unfold Ent.F SL at hq
 dsimp only at hq
 split at hq
 ·rename_i a0 b0
  obtain ⟨hc,hx⟩:=Ad hq
  unfold LC at hc
  dsimp only at hc
  refine ⟨Ak _,(SK a0 b0).trans (Eq.trans ?_ hx)⟩
  show _=some _
  unfold N7
  dsimp only
  rw [Aa hc]
  cases eqL G6 a0 b0<;>rfl
 ·cases hq
theorem Vl (a0:List UInt8) (a1:List Ty) (a2:Int) (b0:List UInt8) (b1:List Ty) (b2:Int):Ax prog (Ab [(53,.rd1 OG)]) (Ab []) f89 [.agg [.s a0,.sl TCd a1,.j a2],.agg [.s b0,.sl TCd b1,.j b2]] [] =
 ((ifB (!a0==b0) (some (V.b false,[])) (ifT (FR (a1,())) (ifB (!GS (a1,()) (b1,())) (some (V.b false,[])) (ifB (a2 != b2) (some (V.b false,[])) (some (V.b
 true,[])))))):_):=by kernel_rfl
theorem Yb:Af prog 89 (Ent.rd1 N4).F:=by
 refine Ae (kc func53 N5 KnowsL.nil).knows (Λ:=Ab []) func89 (c:=f89.body.getD .skip) (by kernel_rfl) fun vs bs r hq hv hb=>?_
 unfold Ent.F N4 at hq
 dsimp only at hq
 split at hq
 ·rename_i a0 a1 a2 b0 b1 b2
  obtain ⟨hc,hx⟩:=Ad hq
  unfold E4 at hc
  dsimp only at hc
  refine ⟨Ak _,(Vl a0 a1 a2 b0 b1 b2).trans (Eq.trans ?_ hx)⟩
  show _=some _
  unfold G8
  dsimp only
  rw [Aa hc]
  unfold bne
  cases a0==b0<;>cases GS (a1,()) (b1,())<;>cases a2==b2<;>rfl
 ·cases hq
theorem Vs (a0:Int) (a1:List UInt8) (a2:List Wt) (a3:List Ty) (a4:List Nt) (a5:Int) (b0:Int) (b1:List UInt8) (b2:List Wt) (b3:List Ty) (b4:List Nt) (b5:Int):Ax prog (Ab [(52,.rd1 SL),(53,.rd1 OG),(54,.rd1 SJ)]) (Ab []) f14 [.agg [.j a0,.s a1,.sl WCd a2,.sl TCd a3,.sl NTd a4,.j a5],.agg [.j b0,.s b1,.sl WCd b2,.sl TCd b3,.sl NTd b4,.j b5]] [] =
 ((ifB (a0 != b0) (some (V.b false,[])) (ifB (!a1==b1) (some (V.b false,[])) (ifT (LC (a2,())) (ifB (!N7 (a2,()) (b2,())) (some (V.b false,[])) (ifT (FR
 (a3,())) (ifB (!GS (a3,()) (b3,())) (some (V.b false,[])) (ifT (decide (a4.length<=maxI)) (ifB (!eqL G9 a4 b4) (some (V.b false,[])) (ifB (a5 != b5) (some (V.b
 false,[])) (some (V.b true,[]))))))))))):_):=by kernel_rfl
theorem Qz:Af prog 14 (Ent.rd1 LI).F:=by
 refine Ae (kc func52 Vq (kc func53 N5 (kc func54 Vn KnowsL.nil))).knows (Λ:=Ab []) func14 (c:=f14.body.getD .skip) (by kernel_rfl) fun vs bs r hq hv hb=>?_
 unfold Ent.F LI at hq
 dsimp only at hq
 split at hq
 ·rename_i a0 a1 a2 a3 a4 a5 b0 b1 b2 b3 b4 b5
  obtain ⟨hc,hx⟩:=Ad hq
  unfold Ek at hc
  dsimp only at hc
  refine ⟨Ak _,(Vs a0 a1 a2 a3 a4 a5 b0 b1 b2 b3 b4 b5).trans (Eq.trans ?_ hx)⟩
  show _=some _
  unfold FX
  dsimp only
  rw [anE,anE] at hc
  rw [Aa hc.1,Aa hc.2.1,Aa hc.2.2]
  unfold bne
  cases a0==b0<;>cases a1==b1<;>cases N7 (a2,()) (b2,())<;>cases GS (a3,()) (b3,())<;>cases eqL G9 a4 b4<;>cases a5==b5<;>rfl
 ·cases hq
theorem J1 (l q:List Tp) (i:Int):Av prog (Ab [(89,.rd1 N4)]) (Ab [(4,FU)]) 0 (body f50 0) FU ([.sl TPd l,.sl TPd q,.j i],[]) =
 ((ifB (decide (i<(↑l.length:Int))) (ifT (decide ((0:Int)<=i)&&decide (i<(↑l.length:Int))) (Ai l[i.toNat]? fun z=>ifT (decide ((0:Int)<=i)&&decide (i
 < (↑q.length:Int))) (Ai q[i.toNat]? fun z_1=>ifT (E4 (z.fst,(z.snd.fst.fst,()),z.snd.snd.fst,())) (ifB (!G8 (z.fst,(z.snd.fst.fst,()),z.snd.snd.fst,
 ()) (z_1.fst,(z_1.snd.fst.fst,()),z_1.snd.snd.fst,())) (some (Ex.ret,[V.b false],[])) (some (Ex.normal,[V.sl TPd l,V.sl TPd q,V.j (i64.wrap (i+(1
 : Int)))],[])))))) (some (Ex.exit 0,[],[]))):_):=by kernel_rfl
theorem SF (l q:List Tp):Ax prog (Ab [(89,.rd1 N4)]) (Ab [(4,FU)]) f50 [.sl TPd l,.sl TPd q] [] =
 ((ifB ((↑l.length:Int) != (↑q.length:Int)) (some (V.b false,[])) (ifT (decide ((0:Int)<=(0:Int)/\0<=l.length/\l.length=q.length/\l.length<=maxI)&&
 l.all E4) (ifB (eqL G8 (drop 0 l) (drop 0 q)) (some (V.b true,[])) (some (V.b false,[]))))):_):=by kernel_rfl
theorem LF (l q:List Tp) (hl:l.length<=maxI) (hq:l.length=q.length) (hn:l.all E4=true) : ∀ (j i:Nat),i+j=l.length->∀ ex d,(Br.br (eqL G8 (l.drop i) (q.drop i)) (.leaf (.exit 0,([],[]))) (.leaf (.ret,([.b false],[]))):Br (Ex×Dt)).run=some (ex,d)->Runs prog (Ab [(89,.rd1 N4)]) (Ab [(4,FU)]) 0 (body f50 0) FU ([.sl TPd l,.sl TPd q,.j (i:Int)],[]) ex d
 | 0,i,hi,ex,d,h=>by
  have hr:=J1 l q i
  rw [Ac (dcF (by omega))] at hr
  rw [drop_eq_nil_of_le (by omega),drop_eq_nil_of_le (by omega),eqL] at h
  have h8:=Ao h
  obtain ⟨rfl,rfl⟩:=Prod.mk.inj h8
  exact .stop _ _ _ hr (by simp)
 | j+1,i,hi,ex,d,h=>by
  have hM:maxI=9223372036854775807:=rfl
  have hlt:i<l.length:=by omega
  have hlq:i<q.length:=by omega
  have hr:=J1 l q i
  rw [Ag (dcT (by omega)),Aa (by simp only [anE,dcE]; omega),ntN,gtE hlt,Am,Aa (by simp only [anE,dcE]; omega),gtE hlq,Am,Ap (n:=i) (by omega)] at hr
  rw [drop_eq_getElem_cons hlt,drop_eq_getElem_cons hlq,eqL] at h
  have e : ∀ x y:Tp,G8 (x.1,(x.2.1.1,()),x.2.2.1,()) (y.1,(y.2.1.1,()),y.2.2.1,())=G8 x y:=fun x y=>rfl
  rw [e,show E4 (l[i].1,(l[i].2.1.1,()),l[i].2.2.1,())=true from all_eq_true.1 hn _ (getElem_mem hlt),Dc] at hr
  cases h1:G8 l[i] q[i] with
  | false=>
   rw [h1] at hr h
   have h8:=Ao h
   obtain ⟨rfl,rfl⟩:=Prod.mk.inj h8
   exact .stop _ _ _ hr (by simp)
  | true=>
   rw [h1] at hr h
   exact .step _ _ _ _ hr (LF l q hl hq hn j (i+1) (by omega) ex d h)
theorem Vk:Af prog 50 (Ent.rd1 SG).F:=by
 refine Ae (kc func89 Yb KnowsL.nil).knows (Λ:=(Ab [(4,FU)])) func50 (c:=f50.body.getD .skip) (by kernel_rfl) fun vs bs r hq hv hb=>?_
 unfold Ent.F SG at hq
 dsimp only at hq
 split at hq
 ·rename_i l q
  obtain ⟨hc,hx⟩:=Ad hq
  rw [anE,dcE] at hc
  obtain ⟨hc,hn⟩:=hc
  have hok:Ar prog (Ab [(89,.rd1 N4)]) (Ab [(4,FU)]) 0 (f50.body.getD .skip):=by
   refine An (a:=body f50 0) (by kernel_rfl) fun d ex d' h=>?_
   unfold FU at h
   dsimp only at h
   split at h
   ·rename_i l q i
    obtain ⟨hc,hx⟩:=Ad h
    rw [anE,dcE] at hc
    obtain ⟨⟨a0,a1,a2,a3⟩,a4⟩:=hc
    obtain ⟨i,rfl⟩:=eq_ofNat_of_zero_le a0
    simp only [ntN] at a1 hx
    exact LF l q a3 a2 a4 (l.length-i) i (by omega) ex d' hx
   ·cases h
  refine ⟨hok,(SF l q).trans (Eq.trans ?_ hx)⟩
  show _=some _
  by_cases h:l.length=q.length
  ·have h2:((l.length:Int) != (q.length:Int))=false:=bne_eq_false_iff_eq.2 (by omega)
   rw [h2,AS,Aa (by rw [anE]; exact ⟨dcT ⟨by omega,by omega,h,hc⟩,hn⟩),drop_zero,drop_zero]
   cases eqL G8 l q<;>rfl
  ·have h2:((l.length:Int) != (q.length:Int))=true:=bne_iff_ne.2 (by omega)
   rw [h2,IF h]
   rfl
 ·cases hq
theorem J3 (l q:List Fa) (i:Int):Av prog (Ab [(14,.rd1 LI)]) (Ab [(4,FW)]) 0 (body f51 0) FW ([.sl FNd l,.sl FNd q,.j i],[]) =
 ((ifB (decide (i<(↑l.length:Int))) (ifT (decide ((0:Int)<=i)&&decide (i<(↑l.length:Int))) (Ai l[i.toNat]? fun z=>ifT (decide ((0:Int)<=i)&&decide (i
 < (↑q.length:Int))) (Ai q[i.toNat]? fun z_1=>ifT (Ek (z.fst,z.snd.fst,(z.snd.snd.fst.fst,()),(z.snd.snd.snd.fst.fst,()),z.snd.snd.snd.snd.fst,
 z.snd.snd.snd.snd.snd.fst,())) (ifB (!FX (z.fst,z.snd.fst,(z.snd.snd.fst.fst,()),(z.snd.snd.snd.fst.fst,()),z.snd.snd.snd.snd.fst,z.snd.snd.snd.snd.snd.fst,())
 (z_1.fst,z_1.snd.fst,(z_1.snd.snd.fst.fst,()),(z_1.snd.snd.snd.fst.fst,()),z_1.snd.snd.snd.snd.fst,z_1.snd.snd.snd.snd.snd.fst,())) (some (Ex.ret,[V.b false],
 [])) (some (Ex.normal,[V.sl FNd l,V.sl FNd q,V.j (i64.wrap (i+(1:Int)))],[])))))) (some (Ex.exit 0,[],[]))):_):=by kernel_rfl
theorem SM (l q:List Fa):Ax prog (Ab [(14,.rd1 LI)]) (Ab [(4,FW)]) f51 [.sl FNd l,.sl FNd q] [] =
 ((ifB ((↑l.length:Int) != (↑q.length:Int)) (some (V.b false,[])) (ifT (decide ((0:Int)<=(0:Int)/\0<=l.length/\l.length=q.length/\l.length<=maxI)&&
 l.all Ek) (ifB (eqL FX (drop 0 l) (drop 0 q)) (some (V.b true,[])) (some (V.b false,[]))))):_):=by kernel_rfl
theorem LH (l q:List Fa) (hl:l.length<=maxI) (hq:l.length=q.length) (hn:l.all Ek=true) : ∀ (j i:Nat),i+j=l.length->∀ ex d,(Br.br (eqL FX (l.drop i) (q.drop i)) (.leaf (.exit 0,([],[]))) (.leaf (.ret,([.b false],[]))):Br (Ex×Dt)).run=some (ex,d)->Runs prog (Ab [(14,.rd1 LI)]) (Ab [(4,FW)]) 0 (body f51 0) FW ([.sl FNd l,.sl FNd q,.j (i:Int)],[]) ex d
 | 0,i,hi,ex,d,h=>by
  have hr:=J3 l q i
  rw [Ac (dcF (by omega))] at hr
  rw [drop_eq_nil_of_le (by omega),drop_eq_nil_of_le (by omega),eqL] at h
  have h8:=Ao h
  obtain ⟨rfl,rfl⟩:=Prod.mk.inj h8
  exact .stop _ _ _ hr (by simp)
 | j+1,i,hi,ex,d,h=>by
  have hM:maxI=9223372036854775807:=rfl
  have hlt:i<l.length:=by omega
  have hlq:i<q.length:=by omega
  have hr:=J3 l q i
  rw [Ag (dcT (by omega)),Aa (by simp only [anE,dcE]; omega),ntN,gtE hlt,Am,Aa (by simp only [anE,dcE]; omega),gtE hlq,Am,Ap (n:=i) (by omega)] at hr
  rw [drop_eq_getElem_cons hlt,drop_eq_getElem_cons hlq,eqL] at h
  have e : ∀ x y:Fa,FX (x.1,x.2.1,(x.2.2.1.1,()),(x.2.2.2.1.1,()),x.2.2.2.2.1,x.2.2.2.2.2.1,()) (y.1,y.2.1,(y.2.2.1.1,()),(y.2.2.2.1.1,()),y.2.2.2.2.1,y.2.2.2.2.2.1,())=FX x y:=fun x y=>rfl
  rw [e,show Ek (l[i].1,l[i].2.1,(l[i].2.2.1.1,()),(l[i].2.2.2.1.1,()),l[i].2.2.2.2.1,l[i].2.2.2.2.2.1,())=true from all_eq_true.1 hn _ (getElem_mem hlt),Dc] at hr
  cases h1:FX l[i] q[i] with
  | false=>
   rw [h1] at hr h
   have h8:=Ao h
   obtain ⟨rfl,rfl⟩:=Prod.mk.inj h8
   exact .stop _ _ _ hr (by simp)
  | true=>
   rw [h1] at hr h
   exact .step _ _ _ _ hr (LH l q hl hq hn j (i+1) (by omega) ex d h)
theorem Vr:Af prog 51 (Ent.rd1 SN).F:=by
 refine Ae (kc func14 Qz KnowsL.nil).knows (Λ:=(Ab [(4,FW)])) func51 (c:=f51.body.getD .skip) (by kernel_rfl) fun vs bs r hq hv hb=>?_
 unfold Ent.F SN at hq
 dsimp only at hq
 split at hq
 ·rename_i l q
  obtain ⟨hc,hx⟩:=Ad hq
  rw [anE,dcE] at hc
  obtain ⟨hc,hn⟩:=hc
  have hok:Ar prog (Ab [(14,.rd1 LI)]) (Ab [(4,FW)]) 0 (f51.body.getD .skip):=by
   refine An (a:=body f51 0) (by kernel_rfl) fun d ex d' h=>?_
   unfold FW at h
   dsimp only at h
   split at h
   ·rename_i l q i
    obtain ⟨hc,hx⟩:=Ad h
    rw [anE,dcE] at hc
    obtain ⟨⟨a0,a1,a2,a3⟩,a4⟩:=hc
    obtain ⟨i,rfl⟩:=eq_ofNat_of_zero_le a0
    simp only [ntN] at a1 hx
    exact LH l q a3 a2 a4 (l.length-i) i (by omega) ex d' hx
   ·cases h
  refine ⟨hok,(SM l q).trans (Eq.trans ?_ hx)⟩
  show _=some _
  by_cases h:l.length=q.length
  ·have h2:((l.length:Int) != (q.length:Int))=false:=bne_eq_false_iff_eq.2 (by omega)
   rw [h2,AS,Aa (by rw [anE]; exact ⟨dcT ⟨by omega,by omega,h,hc⟩,hn⟩),drop_zero,drop_zero]
   cases eqL FX l q<;>rfl
  ·have h2:((l.length:Int) != (q.length:Int))=true:=bne_iff_ne.2 (by omega)
   rw [h2,IF h]
   rfl
 ·cases hq
theorem Vt (a0:List Tp) (a1:List Fa) (b0:List Tp) (b1:List Fa):Ax prog (Ab [(50,.rd1 SG),(51,.rd1 SN)]) (Ab []) f13 [.agg [.sl TPd a0,.sl FNd a1],.agg [.sl TPd b0,.sl FNd b1]] [] =
 ((ifT (decide (a0.length<=maxI)&&a0.all E4) (ifB (!eqL G8 a0 b0) (some (V.b false,[])) (ifT (decide (a1.length<=maxI)&&a1.all Ek) (ifB (!eqL FX a1 b1) (some
 (V.b false,[])) (some (V.b true,[])))))):_):=by kernel_rfl
theorem Ye:Af prog 13 (Ent.rd1 Yf).F:=by
 refine Ae (kc func50 Vk (kc func51 Vr KnowsL.nil)).knows (Λ:=Ab []) func13 (c:=f13.body.getD .skip) (by kernel_rfl) fun vs bs r hq hv hb=>?_
 unfold Ent.F Yf at hq
 dsimp only at hq
 split at hq
 rotate_left
 ·cases hq
 split at hq
 rotate_left
 ·cases hq
 rename_i a0 a1
 split at hq
 ·rename_i b0 b1
  obtain ⟨hc,hx⟩:=Ad hq
  unfold GR at hc
  dsimp only at hc
  refine ⟨Ak _,(Vt a0 a1 b0 b1).trans (Eq.trans ?_ hx)⟩
  show _=some _
  unfold Q0
  dsimp only
  rw [anE] at hc
  rw [Aa hc.1,Aa hc.2]
  cases eqL G8 a0 b0<;>cases eqL FX a1 b1<;>rfl
 ·cases hq
def Kn:Gm
 | [.agg [.s a0,.i .i64 a1,.s a2]],[]=>.leaf (.agg [.s a0,.i .i64 a1,.s a2],[])
 | _,_=>.no
def EG:LoopEnt:=⟨23,[0,3,4],[3],[],fun
 | ([.sl NTd l,.ref 0 0 m,.i .i64 n],[some (.row false none NTd r)])=>
  .need (decide (0<=n/\m=l.length/\r.length=l.length/\n.toNat<=l.length/\l.length<=maxI)) (.leaf (.exit 0,([.ref 0 0 m],[some (.row false none NTd (r.take n.toNat++l.drop n.toNat))])))
 | _=>.no⟩
def Rl:Gm
 | [.sl NTd l],[]=>.need (decide (l.length<=1000000000)) (.leaf (.ref 0 0 l.length,[some (.row false none NTd l)]))
 | _,_=>.no

def Kk:Gm
 | [.agg [.i .i64 a0,.s a1,.i .i64 a2,.b a3,.i .i64 a4,.i .i64 a5]],[]=>.leaf (.agg [.i .i64 a0,.s a1,.i .i64 a2,.b a3,.i .i64 a4,.i .i64 a5],[])
 | _,_=>.no
def EF:LoopEnt:=⟨23,[0,3,4],[3],[],fun
 | ([.sl TCd l,.ref 0 0 m,.i .i64 n],[some (.row false none TCd r)])=>
  .need (decide (0<=n/\m=l.length/\r.length=l.length/\n.toNat<=l.length/\l.length<=maxI)) (.leaf (.exit 0,([.ref 0 0 m],[some (.row false none TCd (r.take n.toNat++l.drop n.toNat))])))
 | _=>.no⟩
def Rh:Gm
 | [.sl TCd l],[]=>.need (decide (l.length<=1000000000)) (.leaf (.ref 0 0 l.length,[some (.row false none TCd l)]))
 | _,_=>.no

def Ki:Gm
 | [.agg [.i .i64 a0,.i .i64 a1,.i .i64 a2,.s a3,.i .i64 a4,.i .i64 a5]],[]=>.leaf (.agg [.i .i64 a0,.i .i64 a1,.i .i64 a2,.s a3,.i .i64 a4,.i .i64 a5],[])
 | _,_=>.no
def EE:LoopEnt:=⟨23,[0,3,4],[3],[],fun
 | ([.sl WCd l,.ref 0 0 m,.i .i64 n],[some (.row false none WCd r)])=>
  .need (decide (0<=n/\m=l.length/\r.length=l.length/\n.toNat<=l.length/\l.length<=maxI)) (.leaf (.exit 0,([.ref 0 0 m],[some (.row false none WCd (r.take n.toNat++l.drop n.toNat))])))
 | _=>.no⟩
def Rg:Gm
 | [.sl WCd l],[]=>.need (decide (l.length<=1000000000)) (.leaf (.ref 0 0 l.length,[some (.row false none WCd l)]))
 | _,_=>.no
theorem Wd (a0:List UInt8) (a1:Int) (a2:List UInt8):Ax prog (Ab []) (Ab []) f83 [.agg [.s a0,.j a1,.s a2]] []=some (.agg [.s a0,.j a1,.s a2],[]):=by kernel_rfl
theorem Aff:Af prog 83 (Ent.rd1 Kn).F:=by
 refine Ae (KnowsL.nil).knows (Λ:=Ab []) func83 (c:=f83.body.getD .skip) (by kernel_rfl) fun vs bs r h _ _=>?_
 unfold Ent.F Kn at h
 dsimp only at h
 split at h
 ·exact ⟨Ak _,(Wd _ _ _ ).trans (by cases h; rfl)⟩
 ·cases h
theorem IW (l r:List Nt) (m n:Nat):Av prog (Ab [(83,.rd1 Kn)]) (Ab [(3,EG)]) 0 (body f46 0) EG ([.sl NTd l,.ref 0 0 m,.j n],[some (.row false none NTd r)]) =
 ((ifB (decide ((↑n:Int)<(↑l.length:Int))) (ifT (decide ((0:Int)<=(↑n:Int))&&decide ((↑n:Int)<(↑l.length:Int))) (Ai l[((↑n:Int)).toNat]? fun z=>ifT
 (decide ((0:Int)<=(↑n:Int))&&decide ((↑n:Int)<(↑m:Int))) (Ai r[0+((↑n:Int)).toNat]? fun _=>some (Ex.normal,[V.sl NTd l,V.ref 0 0 m,V.i
 .i64 (i64.wrap ((↑n:Int)+(1:Int)))],[some (Blk.row false none NTd (r.set (0+((↑n:Int)).toNat) (z.fst,z.snd.fst,z.snd.snd.fst,())))]))))
 (some (Ex.exit 0,[V.ref 0 0 m],[some (Blk.row false none NTd r)]))):_):=by kernel_rfl
theorem Km {l:List Nt} {m:Nat} (hm:m=l.length) (hx:l.length<=maxI) : ∀ (k n:Nat) (r:List Nt),n+k=l.length->r.length=l.length->
  Runs prog (Ab [(83,.rd1 Kn)]) (Ab [(3,EG)]) 0 (body f46 0) EG ([.sl NTd l,.ref 0 0 m,.j n],[some (.row false none NTd r)]) (.exit 0) ([.ref 0 0 m],[some (.row false none NTd (r.take n++l.drop n))])
 | 0,n,r,hn,hr=>by
  refine .stop _ _ _ ((IW l r m n).trans ?_) (by simp)
  simp [show ¬n<l.length by omega,show r.take n=r from take_of_length_le (by omega),show l.drop n=[] from drop_eq_nil_of_le (by omega)]
 | k+1,n,r,hn,hr=>by
  have h1:n<l.length:=by omega
  have h2:n<r.length:=by omega
  have h3:n<m:=by omega
  have hq:=IW l r m n
  simp only [ntN,gtE h1,zero_add,gtE h2,Ap (n:=n) (by omega)] at hq
  refine .step _ _ _ (d1:=([.sl NTd l,.ref 0 0 m,.j ((n+1:Nat):Int)],[some (.row false none NTd (r.set n l[n]))])) (hq.trans ?_) ?_
  ·simp [h1,h3]
  ·have:=Km hm hx k (n+1) (r.set n l[n]) (by omega) (by simp; omega)
   rw [CG h2,append_assoc,singleton_append,<-drop_eq_getElem_cons h1] at this
   exact this
theorem Wc:Ar prog (Ab [(83,.rd1 Kn)]) (Ab [(3,EG)]) 0 (f46.body.getD .skip):=by
 refine An (a:=body f46 0) (by kernel_rfl) fun d e d' h=>?_
 unfold EG at h
 dsimp only at h
 split at h
 ·obtain ⟨hc,h⟩:=Ad h
  have hc:=of_decide_eq_true hc
  obtain ⟨n,rfl⟩:=eq_ofNat_of_zero_le hc.1
  cases h
  exact Km hc.2.1 hc.2.2.2.2 _ n _ (add_sub_of_le hc.2.2.2.1) hc.2.2.1
 ·cases h
theorem TT (l:List Nt) (hx:l.length<=1000000000):Ax prog (Ab [(83,.rd1 Kn)]) (Ab [(3,EG)]) f46 [.sl NTd l] []=some (.ref 0 0 l.length,[some (.row false none NTd l)]):=by
 have e:Ax prog (Ab [(83,.rd1 Kn)]) (Ab [(3,EG)]) f46 [.sl NTd l] [] =
  ((ifT (decide ((0:Int)<=(↑l.length:Int))&&decide ((↑l.length:Int)<=(↑l.length:Int))&&decide ((↑l.length:Int)*(↑(40:Nat):Int)<=(140737488355328:Int))
 && decide ((↑l.length:Int)<=(9223372036854775807:Int))) (ifT (decide ((0:Int)<=(0:Int)/\(↑l.length:Int).toNat=l.length/\(replicate (↑l.length :
 Int).toNat (Aj UInt8,(0:Int),Aj UInt8,())).length=l.length/\0<=l.length/\l.length<=maxI)) (some (V.ref 0 0 (↑l.length:Int).toNat,[some (Blk.row
 false none NTd (Aj NTd.den++drop 0 l))])))):_):=by kernel_rfl
 rw [e]
 have hx':l.length<=maxI:=le_trans hx (by decide)
 simp [hx']
 omega
theorem Adq:Af prog 46 (Ent.rd1 Rl).F:=by
 refine Ae (kc func83 Aff KnowsL.nil).knows (Λ:=(Ab [(3,EG)])) func46 (c:=f46.body.getD .skip) (by kernel_rfl) fun vs bs r h hv hb=>?_
 unfold Ent.F Rl at h
 dsimp only at h
 split at h
 ·rename_i l
  obtain ⟨hc,h⟩:=Ad h
  exact ⟨Wc,(TT l (of_decide_eq_true hc)).trans (by cases h; rfl)⟩
 ·cases h
theorem Wa (a0:Int) (a1:List UInt8) (a2:Int) (a3:Bool) (a4 a5:Int):Ax prog (Ab []) (Ab []) f122 [.agg [.j a0,.s a1,.j a2,.b a3,.j a4,.j a5]] []=some (.agg [.j a0,.s a1,.j a2,.b a3,.j a4,.j a5],[]):=by kernel_rfl
theorem Afe:Af prog 122 (Ent.rd1 Kk).F:=by
 refine Ae (KnowsL.nil).knows (Λ:=Ab []) func122 (c:=f122.body.getD .skip) (by kernel_rfl) fun vs bs r h _ _=>?_
 unfold Ent.F Kk at h
 dsimp only at h
 split at h
 ·exact ⟨Ak _,(Wa _ _ _ _ _ _ ).trans (by cases h; rfl)⟩
 ·cases h
theorem IU (l r:List Ty) (m n:Nat):Av prog (Ab [(122,.rd1 Kk)]) (Ab [(3,EF)]) 0 (body f82 0) EF ([.sl TCd l,.ref 0 0 m,.j n],[some (.row false none TCd r)]) =
 ((ifB (decide ((↑n:Int)<(↑l.length:Int))) (ifT (decide ((0:Int)<=(↑n:Int))&&decide ((↑n:Int)<(↑l.length:Int))) (Ai l[((↑n:Int)).toNat]? fun z=>ifT
 (decide ((0:Int)<=(↑n:Int))&&decide ((↑n:Int)<(↑m:Int))) (Ai r[0+((↑n:Int)).toNat]? fun _=>some (Ex.normal,[V.sl TCd l,V.ref 0 0 m,V.i
 .i64 (i64.wrap ((↑n:Int)+(1:Int)))],[some (Blk.row false none TCd (r.set (0+((↑n:Int)).toNat) (z.fst,z.snd.fst,z.snd.snd.fst,
 z.snd.snd.snd.fst,z.snd.snd.snd.snd.fst,z.snd.snd.snd.snd.snd.fst,())))])))) (some (Ex.exit 0,[V.ref 0 0 m],[some (Blk.row false none TCd r)]))):_):=by kernel_rfl
theorem Kj {l:List Ty} {m:Nat} (hm:m=l.length) (hx:l.length<=maxI) : ∀ (k n:Nat) (r:List Ty),n+k=l.length->r.length=l.length->
  Runs prog (Ab [(122,.rd1 Kk)]) (Ab [(3,EF)]) 0 (body f82 0) EF ([.sl TCd l,.ref 0 0 m,.j n],[some (.row false none TCd r)]) (.exit 0) ([.ref 0 0 m],[some (.row false none TCd (r.take n++l.drop n))])
 | 0,n,r,hn,hr=>by
  refine .stop _ _ _ ((IU l r m n).trans ?_) (by simp)
  simp [show ¬n<l.length by omega,show r.take n=r from take_of_length_le (by omega),show l.drop n=[] from drop_eq_nil_of_le (by omega)]
 | k+1,n,r,hn,hr=>by
  have h1:n<l.length:=by omega
  have h2:n<r.length:=by omega
  have h3:n<m:=by omega
  have hq:=IU l r m n
  simp only [ntN,gtE h1,zero_add,gtE h2,Ap (n:=n) (by omega)] at hq
  refine .step _ _ _ (d1:=([.sl TCd l,.ref 0 0 m,.j ((n+1:Nat):Int)],[some (.row false none TCd (r.set n l[n]))])) (hq.trans ?_) ?_
  ·simp [h1,h3]
  ·have:=Kj hm hx k (n+1) (r.set n l[n]) (by omega) (by simp; omega)
   rw [CG h2,append_assoc,singleton_append,<-drop_eq_getElem_cons h1] at this
   exact this
theorem VZ:Ar prog (Ab [(122,.rd1 Kk)]) (Ab [(3,EF)]) 0 (f82.body.getD .skip):=by
 refine An (a:=body f82 0) (by kernel_rfl) fun d e d' h=>?_
 unfold EF at h
 dsimp only at h
 split at h
 ·obtain ⟨hc,h⟩:=Ad h
  have hc:=of_decide_eq_true hc
  obtain ⟨n,rfl⟩:=eq_ofNat_of_zero_le hc.1
  cases h
  exact Kj hc.2.1 hc.2.2.2.2 _ n _ (add_sub_of_le hc.2.2.2.1) hc.2.2.1
 ·cases h
theorem TR (l:List Ty) (hx:l.length<=1000000000):Ax prog (Ab [(122,.rd1 Kk)]) (Ab [(3,EF)]) f82 [.sl TCd l] []=some (.ref 0 0 l.length,[some (.row false none TCd l)]):=by
 have e:Ax prog (Ab [(122,.rd1 Kk)]) (Ab [(3,EF)]) f82 [.sl TCd l] [] =
  ((ifT (decide ((0:Int)<=(↑l.length:Int))&&decide ((↑l.length:Int)<=(↑l.length:Int))&&decide ((↑l.length:Int)*(↑(56:Nat):Int)<=(140737488355328:Int))
 && decide ((↑l.length:Int)<=(9223372036854775807:Int))) (ifT (decide ((0:Int)<=(0:Int)/\(↑l.length:Int).toNat=l.length/\(replicate (↑l.length :
 Int).toNat ((0:Int),Aj UInt8,(0:Int),false,(0:Int),(0:Int),())).length=l.length/\0<=l.length/\l.length<=maxI)) (some (V.ref 0 0 (↑l.length :
 Int).toNat,[some (Blk.row false none TCd (Aj TCd.den++drop 0 l))])))):_):=by kernel_rfl
 rw [e]
 have hx':l.length<=maxI:=le_trans hx (by decide)
 simp [hx']
 omega
theorem Ado:Af prog 82 (Ent.rd1 Rh).F:=by
 refine Ae (kc func122 Afe KnowsL.nil).knows (Λ:=(Ab [(3,EF)])) func82 (c:=f82.body.getD .skip) (by kernel_rfl) fun vs bs r h hv hb=>?_
 unfold Ent.F Rh at h
 dsimp only at h
 split at h
 ·rename_i l
  obtain ⟨hc,h⟩:=Ad h
  exact ⟨VZ,(TR l (of_decide_eq_true hc)).trans (by cases h; rfl)⟩
 ·cases h
theorem VY (a0 a1 a2:Int) (a3:List UInt8) (a4 a5:Int):Ax prog (Ab []) (Ab []) f121 [.agg [.j a0,.j a1,.j a2,.s a3,.j a4,.j a5]] []=some (.agg [.j a0,.j a1,.j a2,.s a3,.j a4,.j a5],[]):=by kernel_rfl
theorem Afd:Af prog 121 (Ent.rd1 Ki).F:=by
 refine Ae (KnowsL.nil).knows (Λ:=Ab []) func121 (c:=f121.body.getD .skip) (by kernel_rfl) fun vs bs r h _ _=>?_
 unfold Ent.F Ki at h
 dsimp only at h
 split at h
 ·exact ⟨Ak _,(VY _ _ _ _ _ _ ).trans (by cases h; rfl)⟩
 ·cases h
theorem IT (l r:List Wt) (m n:Nat):Av prog (Ab [(121,.rd1 Ki)]) (Ab [(3,EE)]) 0 (body f81 0) EE ([.sl WCd l,.ref 0 0 m,.j n],[some (.row false none WCd r)]) =
 ((ifB (decide ((↑n:Int)<(↑l.length:Int))) (ifT (decide ((0:Int)<=(↑n:Int))&&decide ((↑n:Int)<(↑l.length:Int))) (Ai l[((↑n:Int)).toNat]? fun z=>ifT
 (decide ((0:Int)<=(↑n:Int))&&decide ((↑n:Int)<(↑m:Int))) (Ai r[0+((↑n:Int)).toNat]? fun _=>some (Ex.normal,[V.sl WCd l,V.ref 0 0 m,V.i
 .i64 (i64.wrap ((↑n:Int)+(1:Int)))],[some (Blk.row false none WCd (r.set (0+((↑n:Int)).toNat) (z.fst,z.snd.fst,z.snd.snd.fst,
 z.snd.snd.snd.fst,z.snd.snd.snd.snd.fst,z.snd.snd.snd.snd.snd.fst,())))])))) (some (Ex.exit 0,[V.ref 0 0 m],[some (Blk.row false none WCd r)]))):_):=by kernel_rfl
theorem Kh {l:List Wt} {m:Nat} (hm:m=l.length) (hx:l.length<=maxI) : ∀ (k n:Nat) (r:List Wt),n+k=l.length->r.length=l.length->
  Runs prog (Ab [(121,.rd1 Ki)]) (Ab [(3,EE)]) 0 (body f81 0) EE ([.sl WCd l,.ref 0 0 m,.j n],[some (.row false none WCd r)]) (.exit 0) ([.ref 0 0 m],[some (.row false none WCd (r.take n++l.drop n))])
 | 0,n,r,hn,hr=>by
  refine .stop _ _ _ ((IT l r m n).trans ?_) (by simp)
  simp [show ¬n<l.length by omega,show r.take n=r from take_of_length_le (by omega),show l.drop n=[] from drop_eq_nil_of_le (by omega)]
 | k+1,n,r,hn,hr=>by
  have h1:n<l.length:=by omega
  have h2:n<r.length:=by omega
  have h3:n<m:=by omega
  have hq:=IT l r m n
  simp only [ntN,gtE h1,zero_add,gtE h2,Ap (n:=n) (by omega)] at hq
  refine .step _ _ _ (d1:=([.sl WCd l,.ref 0 0 m,.j ((n+1:Nat):Int)],[some (.row false none WCd (r.set n l[n]))])) (hq.trans ?_) ?_
  ·simp [h1,h3]
  ·have:=Kh hm hx k (n+1) (r.set n l[n]) (by omega) (by simp; omega)
   rw [CG h2,append_assoc,singleton_append,<-drop_eq_getElem_cons h1] at this
   exact this
theorem VX:Ar prog (Ab [(121,.rd1 Ki)]) (Ab [(3,EE)]) 0 (f81.body.getD .skip):=by
 refine An (a:=body f81 0) (by kernel_rfl) fun d e d' h=>?_
 unfold EE at h
 dsimp only at h
 split at h
 ·obtain ⟨hc,h⟩:=Ad h
  have hc:=of_decide_eq_true hc
  obtain ⟨n,rfl⟩:=eq_ofNat_of_zero_le hc.1
  cases h
  exact Kh hc.2.1 hc.2.2.2.2 _ n _ (add_sub_of_le hc.2.2.2.1) hc.2.2.1
 ·cases h
theorem TQ (l:List Wt) (hx:l.length<=1000000000):Ax prog (Ab [(121,.rd1 Ki)]) (Ab [(3,EE)]) f81 [.sl WCd l] []=some (.ref 0 0 l.length,[some (.row false none WCd l)]):=by
 have e:Ax prog (Ab [(121,.rd1 Ki)]) (Ab [(3,EE)]) f81 [.sl WCd l] [] =
  ((ifT (decide ((0:Int)<=(↑l.length:Int))&&decide ((↑l.length:Int)<=(↑l.length:Int))&&decide ((↑l.length:Int)*(↑(56:Nat):Int)<=(140737488355328:Int))
 && decide ((↑l.length:Int)<=(9223372036854775807:Int))) (ifT (decide ((0:Int)<=(0:Int)/\(↑l.length:Int).toNat=l.length/\(replicate (↑l.length :
 Int).toNat ((0:Int),(0:Int),(0:Int),Aj UInt8,(0:Int),(0:Int),())).length=l.length/\0<=l.length/\l.length<=maxI)) (some (V.ref 0 0
 (↑l.length:Int).toNat,[some (Blk.row false none WCd (Aj WCd.den++drop 0 l))])))):_):=by kernel_rfl
 rw [e]
 have hx':l.length<=maxI:=le_trans hx (by decide)
 simp [hx']
 omega
theorem Adn:Af prog 81 (Ent.rd1 Rg).F:=by
 refine Ae (kc func121 Afd KnowsL.nil).knows (Λ:=(Ab [(3,EE)])) func81 (c:=f81.body.getD .skip) (by kernel_rfl) fun vs bs r h hv hb=>?_
 unfold Ent.F Rg at h
 dsimp only at h
 split at h
 ·rename_i l
  obtain ⟨hc,h⟩:=Ad h
  exact ⟨VX,(TQ l (of_decide_eq_true hc)).trans (by cases h; rfl)⟩
 ·cases h
def NP:Gm
 | [.agg [.sl TCd l]],[]=>.need (decide (l.length<=1000000000)) (.leaf (.agg [.ref 0 0 l.length],[some (.row false none TCd l)]))
 | _,_=>.no
def Rn:Gm
 | [.agg [.sl WCd l]],[]=>.need (decide (l.length<=1000000000)) (.leaf (.agg [.ref 0 0 l.length],[some (.row false none WCd l)]))
 | _,_=>.no
def M2:Gm
 | [.agg [.s a,.sl TCd l,.i .i64 c]],[]=>.need (decide (l.length<=1000000000)) (.leaf (.agg [.s a,.ref 0 0 l.length,.i .i64 c],[some (.row false none TCd l)]))
 | _,_=>.no
def Kp:Gm
 | [.agg [.i .i64 w,.s p,.sl WCd ws,.sl TCd v,.sl NTd b,.i .i64 c]],[]=>.need (decide (ws.length<=1000000000)&&(decide (v.length<=1000000000)&&decide (b.length<=1000000000))) (.leaf (.agg [.i .i64 w,.s p,.ref 0 0 ws.length,.ref 1 0 v.length,.ref 2 0 b.length,.i .i64 c],[some (.row false none WCd ws),some (.row false none TCd v),some (.row false none NTd b)]))
 | _,_=>.no
def BU (t:Tp):Bool:=decide (t.2.1.1.length<=1000000000)
def Ft:LoopEnt:=⟨23,[0,3,4],[3],[],fun
 | ([.sl TPd l,.ref 0 0 m,.i .i64 n],[some (.drow TPd r none)])=>.need (decide (0<=n/\m=l.length/\r.length=l.length/\n.toNat<=l.length/\l.length<=maxI)&&l.all BU) (.leaf (.exit 0,([.ref 0 0 m],[some (.drow TPd (r.take n.toNat++l.drop n.toNat) none)])))
 | _=>.no⟩
def Rj:Gm
 | [.sl TPd l],[]=>.need (decide (l.length<=1000000000)&&l.all BU) (.leaf (.ref 0 0 l.length,[some (.drow TPd l none)]))
 | _,_=>.no
def BS (t:Fa):Bool:=decide (t.2.2.1.1.length<=1000000000)&&(decide (t.2.2.2.1.1.length<=1000000000)&&decide (t.2.2.2.2.1.length<=1000000000))
def Fu:LoopEnt:=⟨23,[0,3,4],[3],[],fun
 | ([.sl FNd l,.ref 0 0 m,.i .i64 n],[some (.drow FNd r none)])=>.need (decide (0<=n/\m=l.length/\r.length=l.length/\n.toNat<=l.length/\l.length<=maxI)&&l.all BS) (.leaf (.exit 0,([.ref 0 0 m],[some (.drow FNd (r.take n.toNat++l.drop n.toNat) none)])))
 | _=>.no⟩
def Rp:Gm
 | [.sl FNd l],[]=>.need (decide (l.length<=1000000000)&&l.all BS) (.leaf (.ref 0 0 l.length,[some (.drow FNd l none)]))
 | _,_=>.no
def Wf:Gm
 | [.agg [.sl TPd ts,.sl FNd fs]],[]=>.need ((decide (ts.length<=1000000000)&&ts.all BU)&&(decide (fs.length<=1000000000)&&fs.all BS)) (.leaf (.agg [.ref 0 0 ts.length,.ref 1 0 fs.length],[some (.drow TPd ts none),some (.drow FNd fs none)]))
 | _,_=>.no
theorem Rk (l:List Ty):Ax prog (Ab [(82,.rd1 Rh)]) (Ab []) f45 [.agg [.sl TCd l]] [] =
 ((ifT (decide (l.length<=1000000000)) (some (V.agg [V.ref 0 0 l.length],[some (Blk.row false none TCd l)]))):_):=by kernel_rfl
theorem M3:Af prog 45 (Ent.rd1 NP).F:=by
 refine Ae (kc func82 Ado KnowsL.nil).knows (Λ:=Ab []) func45 (c:=f45.body.getD .skip) (by kernel_rfl) fun vs bs r hq hv hb=>?_
 unfold Ent.F NP at hq
 dsimp only at hq
 split at hq
 ·rename_i l
  obtain ⟨hc,hx⟩:=Ad hq
  refine ⟨Ak _,(Rk l).trans (Eq.trans ?_ hx)⟩
  show _=some _
  rw [Aa hc]
 ·cases hq
theorem Rm (l:List Wt):Ax prog (Ab [(81,.rd1 Rg)]) (Ab []) f44 [.agg [.sl WCd l]] [] =
 ((ifT (decide (l.length<=1000000000)) (some (V.agg [V.ref 0 0 l.length],[some (Blk.row false none WCd l)]))):_):=by kernel_rfl
theorem TU:Af prog 44 (Ent.rd1 Rn).F:=by
 refine Ae (kc func81 Adn KnowsL.nil).knows (Λ:=Ab []) func44 (c:=f44.body.getD .skip) (by kernel_rfl) fun vs bs r hq hv hb=>?_
 unfold Ent.F Rn at hq
 dsimp only at hq
 split at hq
 ·rename_i l
  obtain ⟨hc,hx⟩:=Ad hq
  refine ⟨Ak _,(Rm l).trans (Eq.trans ?_ hx)⟩
  show _=some _
  rw [Aa hc]
 ·cases hq
theorem TS (a:List UInt8) (l:List Ty) (c:Int):Ax prog (Ab [(45,.rd1 NP)]) (Ab []) f80 [.agg [.s a,.sl TCd l,.j c]] [] =
 ((ifT (decide (l.length<=1000000000)) (some (V.agg [V.s a,V.ref 0 0 l.length,V.j c],[some (Blk.row false none TCd l)]))):_):=by kernel_rfl
theorem Wb:Af prog 80 (Ent.rd1 M2).F:=by
 refine Ae (kc func45 M3 KnowsL.nil).knows (Λ:=Ab []) func80 (c:=f80.body.getD .skip) (by kernel_rfl) fun vs bs r hq hv hb=>?_
 unfold Ent.F M2 at hq
 dsimp only at hq
 split at hq
 ·rename_i a l c
  obtain ⟨hc,hx⟩:=Ad hq
  refine ⟨Ak _,(TS a l c).trans (Eq.trans ?_ hx)⟩
  show _=some _
  rw [Aa hc]
 ·cases hq
theorem TV (w:Int) (p:List UInt8) (ws:List Wt) (v:List Ty) (b:List Nt) (c:Int):Ax prog (Ab [(44,.rd1 Rn),(45,.rd1 NP),(46,.rd1 Rl)]) (Ab []) f11 [.agg [.j w,.s p,.sl WCd ws,.sl TCd v,.sl NTd b,.j c]] [] =
 ((ifT (decide (ws.length<=1000000000)) (ifT (decide (v.length<=1000000000)) (ifT (decide (b.length<=1000000000)) (some (V.agg [V.j w,V.s p,
 V.ref 0 0 ws.length,V.ref 1 0 v.length,V.ref 2 0 b.length,V.j c],[some (Blk.row false none WCd ws),some (Blk.row false none TCd v),some (Blk.row false none NTd
 b)]))))):_):=by kernel_rfl
theorem Pe:Af prog 11 (Ent.rd1 Kp).F:=by
 refine Ae (kc func44 TU (kc func45 M3 (kc func46 Adq KnowsL.nil))).knows (Λ:=Ab []) func11 (c:=f11.body.getD .skip) (by kernel_rfl) fun vs bs r hq hv hb=>?_
 unfold Ent.F Kp at hq
 dsimp only at hq
 split at hq
 ·rename_i w p ws v b c
  obtain ⟨hc,hx⟩:=Ad hq
  refine ⟨Ak _,(TV w p ws v b c).trans (Eq.trans ?_ hx)⟩
  show _=some _
  rw [anE,anE] at hc
  rw [Aa hc.1,Aa hc.2.1,Aa hc.2.2]
 ·cases hq
theorem IV (l r:List Tp) (m:Nat) (n:Int):Av prog (Ab [(80,.rd1 M2)]) (Ab [(3,Ft)]) 0 (body f42 0) Ft ([.sl TPd l,.ref 0 0 m,.j n],[some (.drow TPd r none)]) =
 ((ifB (decide (n<(↑l.length:Int))) (ifT (decide ((0:Int)<=n)&&decide (n<(↑l.length:Int))) (Ai l[n.toNat]? fun z=>ifT (decide (List.length z.snd.fst.fst<=
 1000000000)) (ifT (decide ((0:Int)<=n)&&decide (n<(↑m:Int))) (Ai r[0+n.toNat]? fun _=>some (Ex.normal,[V.sl TPd l,V.ref 0 0 m,V.i
 .i64 (i64.wrap (n+(1:Int)))],[some (Blk.drow TPd (r.set (0+n.toNat) (z.fst,(take (List.length z.snd.fst.fst) (drop 0
 z.snd.fst.fst),()),z.snd.snd.fst,())) none)]))))) (some (Ex.exit 0,[V.ref 0 0 m],[some (Blk.drow TPd r none)]))):_):=by kernel_rfl
theorem Ri (l:List Tp):Ax prog (Ab [(80,.rd1 M2)]) (Ab [(3,Ft)]) f42 [.sl TPd l] [] =
 ((ifT (decide ((0:Int)<=(↑l.length:Int))&&decide ((↑l.length:Int)<=(↑l.length:Int))&&decide ((↑l.length:Int)*(↑(48:Nat):Int)<=(140737488355328:Int))
 && decide ((↑l.length:Int)<=(9223372036854775807:Int))) (ifT (decide ((0:Int)<=(0:Int)/\(↑l.length:Int).toNat=l.length/\(replicate (↑l.length :
 Int).toNat (Aj UInt8,(Aj TCd.den,()),(0:Int),())).length=l.length/\0<=l.length/\l.length<=maxI)&&l.all BU) (some (V.ref 0 0 (↑l.length :
 Int).toNat,[some (Blk.drow TPd (Aj TPd.den++drop 0 l) none)])))):_):=by kernel_rfl
theorem Kl {l:List Tp} (hx:l.length<=maxI) (ho : ∀ z∈l,BU z=true) : ∀ (k n:Nat) (r:List Tp),n+k=l.length->r.length=l.length->
  Runs prog (Ab [(80,.rd1 M2)]) (Ab [(3,Ft)]) 0 (body f42 0) Ft ([.sl TPd l,.ref 0 0 l.length,.j (n:Int)],[some (.drow TPd r none)]) (.exit 0) ([.ref 0 0 l.length],[some (.drow TPd (r.take n++l.drop n) none)])
 | 0,n,r,hn,hr=>by
  have hq:=IV l r l.length n
  rw [Ac (dcF (by omega))] at hq
  rw [take_of_length_le (by omega),drop_eq_nil_of_le (by omega),append_nil]
  exact .stop _ _ _ hq (by simp)
 | k+1,n,r,hn,hr=>by
  have hM:maxI=9223372036854775807:=rfl
  have h1:n<l.length:=by omega
  have h2:n<r.length:=by omega
  have hq:=IV l r l.length n
  have ho1:=ho _ (getElem_mem h1)
  have hs:=Kl hx ho k (n+1) (r.set n l[n]) (by omega) (by simp; omega)
  rw [CG h2,append_assoc,singleton_append,<-drop_eq_getElem_cons h1] at hs
  rw [Ag (dcT (by omega)),Aa (by simp only [anE,dcE]; omega),ntN,gtE h1,Am,Ap (n:=n) (by omega)] at hq
  unfold BU at ho1
  generalize l[n]=z at hq ho1 hs
  obtain ⟨a,⟨l_,⟨⟩⟩,c,⟨⟩⟩:=z
  dsimp only at hq ho1
  rw [Aa ho1] at hq
  rw [Aa (by simp only [anE,dcE]; omega),zero_add,gtE h2,Am] at hq
  simp only [drop_zero,take_length] at hq
  exact .step _ _ _ _ hq hs
theorem Adp:Af prog 42 (Ent.rd1 Rj).F:=by
 refine Ae (kc func80 Wb KnowsL.nil).knows (Λ:=(Ab [(3,Ft)])) func42 (c:=f42.body.getD .skip) (by kernel_rfl) fun vs bs r hq hv hb=>?_
 unfold Ent.F Rj at hq
 dsimp only at hq
 split at hq
 ·rename_i l
  obtain ⟨hc,hx⟩:=Ad hq
  rw [anE,dcE] at hc
  obtain ⟨h1,h2⟩:=hc
  have hM:maxI=9223372036854775807:=rfl
  have hok:Ar prog (Ab [(80,.rd1 M2)]) (Ab [(3,Ft)]) 0 (f42.body.getD .skip):=by
   refine An (a:=body f42 0) (by kernel_rfl) fun d e d' h=>?_
   unfold Ft at h
   dsimp only at h
   split at h
   ·rename_i l m n r
    obtain ⟨hc,h⟩:=Ad h
    rw [anE,dcE] at hc
    obtain ⟨⟨a0,a1,a2,a3,a4⟩,a5⟩:=hc
    obtain ⟨n,rfl⟩:=eq_ofNat_of_zero_le a0
    subst a1
    cases h
    exact Kl a4 (all_eq_true.1 a5) _ n _ (add_sub_of_le a3) a2
   ·cases h
  refine ⟨hok,(Ri l).trans (Eq.trans ?_ hx)⟩
  show _=some _
  rw [Aa (by simp only [anE,dcE]; omega),Aa (by rw [anE]; exact ⟨dcT ⟨by omega,by simp,by simp,by omega,by omega⟩,h2⟩)]
  rfl
 ·cases hq
theorem IX (l r:List Fa) (m:Nat) (n:Int):Av prog (Ab [(11,.rd1 Kp)]) (Ab [(3,Fu)]) 0 (body f43 0) Fu ([.sl FNd l,.ref 0 0 m,.j n],[some (.drow FNd r none)]) =
 ((ifB (decide (n<(↑l.length:Int))) (ifT (decide ((0:Int)<=n)&&decide (n<(↑l.length:Int))) (Ai l[n.toNat]? fun z=>ifT (decide (List.length
 z.snd.snd.fst.fst<=1000000000)&&(decide (List.length z.snd.snd.snd.fst.fst<=1000000000)&&decide (List.length z.snd.snd.snd.snd.fst<=(1000000000 :
 Nat)))) (ifT (decide ((0:Int)<=n)&&decide (n<(↑m:Int))) (Ai r[0+n.toNat]? fun _=>some (Ex.normal,[V.sl FNd l,V.ref 0 0 m,V.i .i64
 (i64.wrap (n+(1:Int)))],[some (Blk.drow FNd (r.set (0+n.toNat) (z.fst,z.snd.fst,(take (List.length z.snd.snd.fst.fst) (drop 0
 z.snd.snd.fst.fst),()),(take (List.length z.snd.snd.snd.fst.fst) (drop 0 z.snd.snd.snd.fst.fst),()),take (List.length z.snd.snd.snd.snd.fst)
 (drop 0 z.snd.snd.snd.snd.fst),z.snd.snd.snd.snd.snd.fst,())) none)]))))) (some (Ex.exit 0,[V.ref 0 0 m],[some (Blk.drow FNd r none)]))):_):=by kernel_rfl
theorem Ro (l:List Fa):Ax prog (Ab [(11,.rd1 Kp)]) (Ab [(3,Fu)]) f43 [.sl FNd l] [] =
 ((ifT (decide ((0:Int)<=(↑l.length:Int))&&decide ((↑l.length:Int)<=(↑l.length:Int))&&decide ((↑l.length:Int)*(↑(104:Nat):Int)<=(140737488355328 :
 Int))&&decide ((↑l.length:Int)<=(9223372036854775807:Int))) (ifT (decide ((0:Int)<=(0:Int)/\(↑l.length:Int).toNat=l.length/\(replicate (↑l.length :
 Int).toNat ((0:Int),Aj UInt8,(Aj WCd.den,()),(Aj TCd.den,()),Aj NTd.den,(0:Int),())).length=l.length/\0<=l.length/\l.length<=maxI)&&
 l.all BS) (some (V.ref 0 0 (↑l.length:Int).toNat,[some (Blk.drow FNd (Aj FNd.den++drop 0 l) none)])))):_):=by kernel_rfl
theorem Ko {l:List Fa} (hx:l.length<=maxI) (ho : ∀ z∈l,BS z=true) : ∀ (k n:Nat) (r:List Fa),n+k=l.length->r.length=l.length->
  Runs prog (Ab [(11,.rd1 Kp)]) (Ab [(3,Fu)]) 0 (body f43 0) Fu ([.sl FNd l,.ref 0 0 l.length,.j (n:Int)],[some (.drow FNd r none)]) (.exit 0) ([.ref 0 0 l.length],[some (.drow FNd (r.take n++l.drop n) none)])
 | 0,n,r,hn,hr=>by
  have hq:=IX l r l.length n
  rw [Ac (dcF (by omega))] at hq
  rw [take_of_length_le (by omega),drop_eq_nil_of_le (by omega),append_nil]
  exact .stop _ _ _ hq (by simp)
 | k+1,n,r,hn,hr=>by
  have hM:maxI=9223372036854775807:=rfl
  have h1:n<l.length:=by omega
  have h2:n<r.length:=by omega
  have hq:=IX l r l.length n
  have ho1:=ho _ (getElem_mem h1)
  have hs:=Ko hx ho k (n+1) (r.set n l[n]) (by omega) (by simp; omega)
  rw [CG h2,append_assoc,singleton_append,<-drop_eq_getElem_cons h1] at hs
  rw [Ag (dcT (by omega)),Aa (by simp only [anE,dcE]; omega),ntN,gtE h1,Am,Ap (n:=n) (by omega)] at hq
  unfold BS at ho1
  generalize l[n]=z at hq ho1 hs
  obtain ⟨w_,p,⟨ws,⟨⟩⟩,⟨v,⟨⟩⟩,b,c,⟨⟩⟩:=z
  dsimp only at hq ho1
  rw [Aa ho1] at hq
  rw [Aa (by simp only [anE,dcE]; omega),zero_add,gtE h2,Am] at hq
  simp only [drop_zero,take_length] at hq
  exact .step _ _ _ _ hq hs
theorem Adr:Af prog 43 (Ent.rd1 Rp).F:=by
 refine Ae (kc func11 Pe KnowsL.nil).knows (Λ:=(Ab [(3,Fu)])) func43 (c:=f43.body.getD .skip) (by kernel_rfl) fun vs bs r hq hv hb=>?_
 unfold Ent.F Rp at hq
 dsimp only at hq
 split at hq
 ·rename_i l
  obtain ⟨hc,hx⟩:=Ad hq
  rw [anE,dcE] at hc
  obtain ⟨h1,h2⟩:=hc
  have hM:maxI=9223372036854775807:=rfl
  have hok:Ar prog (Ab [(11,.rd1 Kp)]) (Ab [(3,Fu)]) 0 (f43.body.getD .skip):=by
   refine An (a:=body f43 0) (by kernel_rfl) fun d e d' h=>?_
   unfold Fu at h
   dsimp only at h
   split at h
   ·rename_i l m n r
    obtain ⟨hc,h⟩:=Ad h
    rw [anE,dcE] at hc
    obtain ⟨⟨a0,a1,a2,a3,a4⟩,a5⟩:=hc
    obtain ⟨n,rfl⟩:=eq_ofNat_of_zero_le a0
    subst a1
    cases h
    exact Ko a4 (all_eq_true.1 a5) _ n _ (add_sub_of_le a3) a2
   ·cases h
  refine ⟨hok,(Ro l).trans (Eq.trans ?_ hx)⟩
  show _=some _
  rw [Aa (by simp only [anE,dcE]; omega),Aa (by rw [anE]; exact ⟨dcT ⟨by omega,by simp,by simp,by omega,by omega⟩,h2⟩)]
  rfl
 ·cases hq
theorem TW (ts:List Tp) (fs:List Fa):Ax prog (Ab [(42,.rd1 Rj),(43,.rd1 Rp)]) (Ab []) f10 [.agg [.sl TPd ts,.sl FNd fs]] [] =
 ((ifT (decide (ts.length<=1000000000)&&ts.all BU) (ifT (decide (fs.length<=1000000000)&&fs.all BS) (some (V.agg [V.ref 0 0 ts.length,V.ref 1 0
 fs.length],[some (Blk.drow TPd ts none),some (Blk.drow FNd fs none)])))):_):=by kernel_rfl
theorem We:Af prog 10 (Ent.rd1 Wf).F:=by
 refine Ae (kc func42 Adp (kc func43 Adr KnowsL.nil)).knows (Λ:=Ab []) func10 (c:=f10.body.getD .skip) (by kernel_rfl) fun vs bs r hq hv hb=>?_
 unfold Ent.F Wf at hq
 dsimp only at hq
 split at hq
 ·rename_i ts fs
  obtain ⟨hc,hx⟩:=Ad hq
  refine ⟨Ak _,(TW ts fs).trans (Eq.trans ?_ hx)⟩
  show _=some _
  rw [anE] at hc
  rw [Aa hc.1,Aa hc.2]
 ·cases hq
def Is:Gm
 | [.agg [.sl TPd ts,.sl FNd fs]],[]=>.need ((decide (ts.length<=1000000000)&&ts.all BU)&&(decide (fs.length<=1000000000)&&fs.all BS)) (.leaf (.agg [.ref 0 0 ts.length,.ref 1 0 fs.length],[some (.drow TPd ts none),some (.drow FNd fs none)]))
 | _,_=>.no
def KT:LoopEnt:=⟨46,[1,2,3,10,11,12],[1,2,3],[],fun
 | ([.ptr 0 0,.ptr 1 0,.ptr 2 0,.sl TPd l,.i .i64 m,.i .i64 i],[bp,br,bo,r0,r1,r2,r3])=>(match bp with | some (.box [.sl TPd ts,.sl FNd fs])=>(match br with | some (.box [.ref 3 0 0,.ref 4 0 0])=>(match bo with | some (.box [.ref 5 0 n,.ref 6 0 0])=>(match r0 with | some (.drow TPd z0 none)=>(match r1 with | some (.drow FNd z1 none)=>(match r2 with | some (.drow TPd os none)=>(match r3 with | some (.drow FNd z3 none)=>.need (decide (0<=i/\i.toNat<=l.length/\m=l.length/\n=os.length/\n+(l.length-i.toNat)<=2000000000/\l.length<=2000000000)&&l.all BU) (.leaf (.exit 0,([.ptr 0 0,.ptr 1 0,.ptr 2 0],[some (.box [.sl TPd ts,.sl FNd fs]),some (.box [.ref 3 0 0,.ref 4 0 0]),some (.box [.ref 5 0 (n+(l.length-i.toNat)),.ref 6 0 0]),some (.drow TPd z0 none),some (.drow FNd z1 none),some (.drow TPd (os++l.drop i.toNat) none),some (.drow FNd z3 none)]))) | _=>.no) | _=>.no) | _=>.no) | _=>.no) | _=>.no) | _=>.no) | _=>.no)
 | _=>.no⟩
def KS:LoopEnt:=⟨46,[2,3,31,32,33],[2,3],[],fun
 | ([.ptr 0 0,.ptr 1 0,.sl FNd l,.i .i64 m,.i .i64 i],[br,bo,r0,r1,r2,r3])=>(match br with | some (.box [.ref 2 0 0,.ref 3 0 0])=>(match bo with | some (.box [.ref 4 0 k,.ref 5 0 n])=>(match r0 with | some (.drow TPd z0 none)=>(match r1 with | some (.drow FNd z1 none)=>(match r2 with | some (.drow TPd z2 none)=>(match r3 with | some (.drow FNd os none)=>.need (decide (0<=i/\i.toNat<=l.length/\m=l.length/\n=os.length/\n+(l.length-i.toNat)<=2000000000/\l.length<=2000000000)&&l.all BS) (.leaf (.exit 2,([.ptr 0 0,.ptr 1 0],[some (.box [.ref 2 0 0,.ref 3 0 0]),some (.box [.ref 4 0 k,.ref 5 0 (n+(l.length-i.toNat))]),some (.drow TPd z0 none),some (.drow FNd z1 none),some (.drow TPd z2 none),some (.drow FNd (os++l.drop i.toNat) none)]))) | _=>.no) | _=>.no) | _=>.no) | _=>.no) | _=>.no) | _=>.no)
 | _=>.no⟩
def KP:LoopEnt:=⟨43,[1,2,3,10,11,12],[1,2,3],[],fun
 | ([.ptr 0 0,.ptr 1 0,.ptr 2 0,.sl TPd l,.i .i64 m,.i .i64 i],[bp,br,bo,r0,r1,r2,r3])=>(match bp with | some (.box [.sl TPd ts,.sl FNd fs])=>(match br with | some (.box [.ref 3 0 0,.ref 4 0 0])=>(match bo with | some (.box [.ref 5 0 n,.ref 6 0 0])=>(match r0 with | some (.drow TPd z0 none)=>(match r1 with | some (.drow FNd z1 none)=>(match r2 with | some (.drow TPd os none)=>(match r3 with | some (.drow FNd z3 none)=>.need (decide (0<=i/\i.toNat<=l.length/\m=l.length/\n=os.length/\n+(l.length-i.toNat)<=2000000000/\l.length<=2000000000)&&l.all BU) (.leaf (.exit 0,([.ptr 0 0,.ptr 1 0,.ptr 2 0],[some (.box [.sl TPd ts,.sl FNd fs]),some (.box [.ref 3 0 0,.ref 4 0 0]),some (.box [.ref 5 0 (n+(l.length-i.toNat)),.ref 6 0 0]),some (.drow TPd z0 none),some (.drow FNd z1 none),some (.drow TPd (os++l.drop i.toNat) none),some (.drow FNd z3 none)]))) | _=>.no) | _=>.no) | _=>.no) | _=>.no) | _=>.no) | _=>.no) | _=>.no)
 | _=>.no⟩
def KO:LoopEnt:=⟨43,[2,3,28,29,30],[2,3],[],fun
 | ([.ptr 0 0,.ptr 1 0,.sl FNd l,.i .i64 m,.i .i64 i],[br,bo,r0,r1,r2,r3])=>(match br with | some (.box [.ref 2 0 0,.ref 3 0 0])=>(match bo with | some (.box [.ref 4 0 k,.ref 5 0 n])=>(match r0 with | some (.drow TPd z0 none)=>(match r1 with | some (.drow FNd z1 none)=>(match r2 with | some (.drow TPd z2 none)=>(match r3 with | some (.drow FNd os none)=>.need (decide (0<=i/\i.toNat<=l.length/\m=l.length/\n=os.length/\n+(l.length-i.toNat)<=2000000000/\l.length<=2000000000)&&l.all BS) (.leaf (.exit 2,([.ptr 0 0,.ptr 1 0],[some (.box [.ref 2 0 0,.ref 3 0 0]),some (.box [.ref 4 0 k,.ref 5 0 (n+(l.length-i.toNat))]),some (.drow TPd z0 none),some (.drow FNd z1 none),some (.drow TPd z2 none),some (.drow FNd (os++l.drop i.toNat) none)]))) | _=>.no) | _=>.no) | _=>.no) | _=>.no) | _=>.no) | _=>.no)
 | _=>.no⟩
theorem Gj {α:Type} {os:List α} {a b:α}:(os++[a]).set os.length b=os++[b]:=by simp
abbrev VG:FuncId->Option Ent:=Ab [(86,.rd1 Eg),(49,.rd1 Eh)]
theorem Aay (ts l os z0:List Tp) (fs z1 z3:List Fa) (m i:Int) (n:Nat):Av prog VG (Ab [(3,KT),(8,KS)]) 0 (body f48 0) KT ([.ptr 0 0,.ptr 1 0,.ptr 2 0,.sl TPd l,.j m,.j i],[some (.box [.sl TPd ts,.sl FNd fs]),some (.box [.ref 3 0 0,.ref 4 0 0]),some (.box [.ref 5 0 n,.ref 6 0 0]),some (.drow TPd z0 none),some (.drow FNd z1 none),some (.drow TPd os none),some (.drow FNd z3 none)]) =
 ((ifB (decide (i<m)) (ifT (decide ((0:Int)<=i)&&decide (i<(↑l.length:Int))) (Ai l[i.toNat]? fun z=>ifT (decide (List.length z.snd.fst.fst<=(1000000000 :
 Nat))) (ifT (decide (0=0/\n=os.length/\0=0/\1=1/\1=1/\0=0)&&
 (TPd.size.beq TPd.size&&[V.s z.fst,V.ref 183 0 (List.length z.snd.fst.fst),V.j z.snd.snd.fst].all V.single&&(decide ((n+1)*48<=
 140737488355328)&&decide (n+1<=maxI)))) (some (Ex.normal,[V.ptr 0 0,V.ptr 1 0,V.ptr 2 0,V.sl TPd l,V.j m,V.j (i64.wrap (i +
 (1:Int)))],[some (Blk.box [V.sl TPd ts,V.sl FNd fs]),some (Blk.box [V.ref 3 0 0,V.ref 4 0 0]),some (Blk.box [V.ref 5 0 (n+1),V.ref 6 0 0]),some
 (Blk.drow TPd z0 none),some (Blk.drow FNd z1 none),some (Blk.drow TPd ((os++TPd.dflt::Aj TPd.den).set os.length (z.fst,(take (List.length z.snd.fst.fst)
 (drop 0 z.snd.fst.fst),()),z.snd.snd.fst,())) none),some (Blk.drow FNd z3 none)]))))) (some (Ex.exit 0,[V.ptr 0 0,V.ptr 1 0,V.ptr 2 0],[some (Blk.box
 [V.sl TPd ts,V.sl FNd fs]),some (Blk.box [V.ref 3 0 0,V.ref 4 0 0]),some (Blk.box [V.ref 5 0 n,V.ref 6 0 0]),some (Blk.drow TPd z0 none),some (Blk.drow FNd z1
 none),some (Blk.drow TPd os none),some (Blk.drow FNd z3 none)]))):_):=by kernel_rfl
theorem Aax (z0 z2:List Tp) (l os z1:List Fa) (m i:Int) (n k:Nat):Av prog VG (Ab [(3,KT),(8,KS)]) 0 (body f48 1) KS ([.ptr 0 0,.ptr 1 0,.sl FNd l,.j m,.j i],[some (.box [.ref 2 0 0,.ref 3 0 0]),some (.box [.ref 4 0 k,.ref 5 0 n]),some (.drow TPd z0 none),some (.drow FNd z1 none),some (.drow TPd z2 none),some (.drow FNd os none)]) =
 ((ifB (decide (i<m)) (ifT (decide ((0:Int)<=i)&&decide (i<(↑l.length:Int))) (Ai l[i.toNat]? fun z=>ifT (Db z.snd.snd.fst.fst z.snd.snd.snd.fst.fst
 z.snd.snd.snd.snd.fst) (ifT (decide (0=0/\n=os.length/\0=0/\1=1/\1=1/\0=(0 :
 Nat))&&(FNd.size.beq FNd.size&&[V.j z.fst,V.s z.snd.fst,V.ref 134 0 (List.length z.snd.snd.fst.fst),V.ref 135 0 (List.length z.snd.snd.snd.fst.fst),V.ref 136
 0 (List.length z.snd.snd.snd.snd.fst),V.j z.snd.snd.snd.snd.snd.fst].all V.single&&(decide ((n+1)*104<=140737488355328)&&decide (n
 + 1<=maxI)))) (some (Ex.normal,[V.ptr 0 0,V.ptr 1 0,V.sl FNd l,V.j m,V.j (i64.wrap (i+(1:Int)))],[some (Blk.box [V.ref 2 0 0,V.ref 3
 0 0]),some (Blk.box [V.ref 4 0 k,V.ref 5 0 (n+1)]),some (Blk.drow TPd z0 none),some (Blk.drow FNd z1 none),some (Blk.drow TPd z2 none),some (Blk.drow FNd
 ((os++FNd.dflt::Aj FNd.den).set os.length (z.fst,z.snd.fst,(take (List.length z.snd.snd.fst.fst) (drop 0 z.snd.snd.fst.fst),()),(take
 (List.length z.snd.snd.snd.fst.fst) (drop 0 z.snd.snd.snd.fst.fst),()),take (List.length z.snd.snd.snd.snd.fst) (drop 0
 z.snd.snd.snd.snd.fst),z.snd.snd.snd.snd.snd.fst,())) none)]))))) (some (Ex.exit 2,[V.ptr 0 0,V.ptr 1 0],[some (Blk.box [V.ref 2 0 0,V.ref 3 0 0]),some (Blk.box
 [V.ref 4 0 k,V.ref 5 0 n]),some (Blk.drow TPd z0 none),some (Blk.drow FNd z1 none),some (Blk.drow TPd z2 none),some (Blk.drow FNd os none)]))):_):=by kernel_rfl
theorem Zf (ts:List Tp) (fs:List Fa):Df prog VG (Ab [(3,KT),(8,KS)]) f48 [.agg [.sl TPd ts,.sl FNd fs]] [] =
 ((ifT (decide ((0:Int)<=(0:Int)/\0<=ts.length/\(↑ts.length:Int)=(↑ts.length:Int)/\0=0/\0+(ts.length-0)<=
 2000000000/\ts.length<=2000000000)&&ts.all BU) (ifT (decide ((0:Int)<=(0:Int)/\0<=fs.length/\(↑fs.length:Int)=(↑fs.length :
 Int)/\0=0/\0+(fs.length-0)<=2000000000/\fs.length<=2000000000)&&fs.all BS) (some (V.agg [V.ref 0 0 ((0 :
 Nat)+(ts.length-0)),V.ref 1 0 (0+(fs.length-0))],[some (Blk.drow TPd (Aj TPd.den++drop 0 ts) none),some (Blk.drow FNd
 (Aj FNd.den++drop 0 fs) none)])))):_):=by kernel_rfl
theorem Aa0 {l:List Tp} {ts z0:List Tp} {fs z1 z3:List Fa} (hx:l.length<=2000000000) (ho : ∀ z∈l,BU z=true) : ∀ (j i:Nat) (os:List Tp),i+j=l.length->os.length+j<=2000000000->
  Runs prog VG (Ab [(3,KT),(8,KS)]) 0 (body f48 0) KT ([.ptr 0 0,.ptr 1 0,.ptr 2 0,.sl TPd l,.j l.length,.j (i:Int)],[some (.box [.sl TPd ts,.sl FNd fs]),some (.box [.ref 3 0 0,.ref 4 0 0]),some (.box [.ref 5 0 os.length,.ref 6 0 0]),some (.drow TPd z0 none),some (.drow FNd z1 none),some (.drow TPd os none),some (.drow FNd z3 none)]) (.exit 0) ([.ptr 0 0,.ptr 1 0,.ptr 2 0],[some (.box [.sl TPd ts,.sl FNd fs]),some (.box [.ref 3 0 0,.ref 4 0 0]),some (.box [.ref 5 0 (os.length+(l.length-i)),.ref 6 0 0]),some (.drow TPd z0 none),some (.drow FNd z1 none),some (.drow TPd (os++l.drop i) none),some (.drow FNd z3 none)])
 | 0,i,os,hi,hl=>by
  have hq:=Aay ts l os z0 fs z1 z3 l.length (i:Int) os.length
  try dsimp only [shr] at hq
  rw [Ac (dcF (by omega))] at hq
  rw [drop_eq_nil_of_le (by omega),append_nil,show l.length-i=0 by omega,Nat.add_zero]
  exact .stop _ _ _ hq (by simp)
 | j+1,i,os,hi,hl=>by
  have hM:maxI=9223372036854775807:=rfl
  have h1:i<l.length:=by omega
  have hq:=Aay ts l os z0 fs z1 z3 l.length (i:Int) os.length
  try dsimp only [shr] at hq
  have ho1:=ho _ (getElem_mem h1)
  have ih:=Aa0 (ts:=ts) (fs:=fs) (z0:=z0) (z1:=z1) (z3:=z3) hx ho j (i+1) (os++[l[i]]) (by omega) (by simp; omega)
  rw [append_assoc,singleton_append,<-drop_eq_getElem_cons h1,length_append,length_singleton,show os.length+1+(l.length-(i+1))=os.length+(l.length-i) by omega] at ih
  rw [Ag (dcT (by omega)),Aa (by simp only [anE,dcE]; omega),ntN,gtE h1,Am,Ap (n:=i) (by omega)] at hq
  generalize l[i]=z at hq ho1 ih
  obtain ⟨a,⟨l_,⟨⟩⟩,c,⟨⟩⟩:=z
  dsimp only at hq ho1
  unfold BU at ho1
  rw [Aa (by first | exact ho1 | (rw [dcE] at ho1 ⊢; omega))] at hq
  rw [Aa (by simp only [anE,dcE]; refine ⟨⟨by first | trivial | rfl,by first | trivial | rfl,by first | trivial | rfl,by first | trivial | rfl,by first | trivial | rfl,by first | trivial | rfl⟩,⟨by first | trivial | rfl,by first | trivial | rfl⟩,by omega,by omega⟩)] at hq
  simp only [AN,drop_zero,take_length,Gj] at hq
  exact .step _ _ _ _ hq ih
theorem Aaz {l:List Fa} {z0 z2:List Tp} {z1:List Fa} {k:Nat} (hx:l.length<=2000000000) (ho : ∀ z∈l,BS z=true) : ∀ (j i:Nat) (os:List Fa),i+j=l.length->os.length+j<=2000000000->
  Runs prog VG (Ab [(3,KT),(8,KS)]) 0 (body f48 1) KS ([.ptr 0 0,.ptr 1 0,.sl FNd l,.j l.length,.j (i:Int)],[some (.box [.ref 2 0 0,.ref 3 0 0]),some (.box [.ref 4 0 k,.ref 5 0 os.length]),some (.drow TPd z0 none),some (.drow FNd z1 none),some (.drow TPd z2 none),some (.drow FNd os none)]) (.exit 2) ([.ptr 0 0,.ptr 1 0],[some (.box [.ref 2 0 0,.ref 3 0 0]),some (.box [.ref 4 0 k,.ref 5 0 (os.length+(l.length-i))]),some (.drow TPd z0 none),some (.drow FNd z1 none),some (.drow TPd z2 none),some (.drow FNd (os++l.drop i) none)])
 | 0,i,os,hi,hl=>by
  have hq:=Aax z0 z2 l os z1 l.length (i:Int) os.length k
  try dsimp only [shr] at hq
  rw [Ac (dcF (by omega))] at hq
  rw [drop_eq_nil_of_le (by omega),append_nil,show l.length-i=0 by omega,Nat.add_zero]
  exact .stop _ _ _ hq (by simp)
 | j+1,i,os,hi,hl=>by
  have hM:maxI=9223372036854775807:=rfl
  have h1:i<l.length:=by omega
  have hq:=Aax z0 z2 l os z1 l.length (i:Int) os.length k
  try dsimp only [shr] at hq
  have ho1:=ho _ (getElem_mem h1)
  have ih:=Aaz (z0:=z0) (z1:=z1) (z2:=z2) (k:=k) hx ho j (i+1) (os++[l[i]]) (by omega) (by simp; omega)
  rw [append_assoc,singleton_append,<-drop_eq_getElem_cons h1,length_append,length_singleton,show os.length+1+(l.length-(i+1))=os.length+(l.length-i) by omega] at ih
  rw [Ag (dcT (by omega)),Aa (by simp only [anE,dcE]; omega),ntN,gtE h1,Am,Ap (n:=i) (by omega)] at hq
  generalize l[i]=z at hq ho1 ih
  obtain ⟨w_,p,⟨ws,⟨⟩⟩,⟨v,⟨⟩⟩,b,c,⟨⟩⟩:=z
  dsimp only at hq ho1
  unfold BS at ho1
  rw [Aa (show Db ws v b=true from ho1)] at hq
  rw [Aa (by simp only [anE,dcE]; refine ⟨⟨by first | trivial | rfl,by first | trivial | rfl,by first | trivial | rfl,by first | trivial | rfl,by first | trivial | rfl,by first | trivial | rfl⟩,⟨by first | trivial | rfl,by first | trivial | rfl⟩,by omega,by omega⟩)] at hq
  simp only [AN,drop_zero,take_length,Gj] at hq
  exact .step _ _ _ _ hq ih
theorem Ad9:Ar prog VG (Ab [(3,KT),(8,KS)]) 0 (f48.body.getD .skip):=by
 refine LoopsI.loops (cs:=[body f48 0,body f48 1]) (.cons (ent:=KT) (by kernel_rfl) (fun d e d' h=>?_) (.cons (ent:=KS) (by kernel_rfl) (fun d e d' h=>?_) .nil)) (by kernel_rfl)
 ·unfold KT at h
  dsimp only at h
  repeat' split at h
  all_goals first | contradiction | skip
  obtain ⟨hc,hx⟩:=Ad h
  rw [anE,dcE] at hc
  obtain ⟨⟨a0,a1,a2,a3,a4,a6⟩,a5⟩:=hc
  obtain ⟨i,rfl⟩:=eq_ofNat_of_zero_le a0
  subst a2
  subst a3
  cases hx
  exact Aa0 a6 (all_eq_true.1 a5) _ i _ (add_sub_of_le a1) a4
 ·unfold KS at h
  dsimp only at h
  repeat' split at h
  all_goals first | contradiction | skip
  obtain ⟨hc,hx⟩:=Ad h
  rw [anE,dcE] at hc
  obtain ⟨⟨a0,a1,a2,a3,a4,a6⟩,a5⟩:=hc
  obtain ⟨i,rfl⟩:=eq_ofNat_of_zero_le a0
  subst a2
  subst a3
  cases hx
  exact Aaz a6 (all_eq_true.1 a5) _ i _ (add_sub_of_le a1) a4
theorem Ab4:Af prog 48 (Ent.rd1 Is).F:=by
 refine A8 (kc func86 Nk (kc func49 Nl KnowsL.nil)).knows (Λ:=(Ab [(3,KT),(8,KS)])) func48 (c:=f48.body.getD .skip) (by kernel_rfl) fun vs bs r hq hv hb=>?_
 unfold Ent.F Is at hq
 dsimp only at hq
 split at hq
 ·rename_i ts fs
  obtain ⟨hc,hx⟩:=Ad hq
  rw [anE,anE,anE,dcE,dcE] at hc
  obtain ⟨⟨h1,h2⟩,h3,h4⟩:=hc
  refine ⟨Ad9,(Zf ts fs).trans (Eq.trans ?_ hx)⟩
  try dsimp only [shr]
  rw [h2,h4,Bool.and_true,Bool.and_true,Aa (dcT ⟨by omega,by simp,by simp,by simp,by omega,by omega⟩),Aa (dcT ⟨by omega,by simp,by simp,by simp,by omega,by omega⟩)]
  try simp only [zero_add,Nat.sub_zero,AN,List.nil_append,drop_zero]
  try rfl
 ·cases hq
abbrev VF:FuncId->Option Ent:=Ab [(79,.rd1 Eg),(41,.rd1 Eh)]
theorem Aau (ts l os z0:List Tp) (fs z1 z3:List Fa) (m i:Int) (n:Nat):Av prog VF (Ab [(3,KP),(9,KO)]) 0 (body f40 0) KP ([.ptr 0 0,.ptr 1 0,.ptr 2 0,.sl TPd l,.j m,.j i],[some (.box [.sl TPd ts,.sl FNd fs]),some (.box [.ref 3 0 0,.ref 4 0 0]),some (.box [.ref 5 0 n,.ref 6 0 0]),some (.drow TPd z0 none),some (.drow FNd z1 none),some (.drow TPd os none),some (.drow FNd z3 none)]) =
 ((ifB (decide (i<m)) (ifT (decide ((0:Int)<=i)&&decide (i<(↑l.length:Int))) (Ai l[i.toNat]? fun z=>ifT (decide (List.length z.snd.fst.fst<=(1000000000 :
 Nat))) (ifT (decide (0=0/\n=os.length/\0=0/\1=1/\1=1/\0=0)&&
 (TPd.size.beq TPd.size&&[V.s z.fst,V.ref 119 0 (List.length z.snd.fst.fst),V.j z.snd.snd.fst].all V.single&&(decide ((n+1)*48<=
 140737488355328)&&decide (n+1<=maxI)))) (some (Ex.normal,[V.ptr 0 0,V.ptr 1 0,V.ptr 2 0,V.sl TPd l,V.j m,V.j (i64.wrap (i +
 (1:Int)))],[some (Blk.box [V.sl TPd ts,V.sl FNd fs]),some (Blk.box [V.ref 3 0 0,V.ref 4 0 0]),some (Blk.box [V.ref 5 0 (n+1),V.ref 6 0 0]),some
 (Blk.drow TPd z0 none),some (Blk.drow FNd z1 none),some (Blk.drow TPd ((os++TPd.dflt::Aj TPd.den).set os.length (z.fst,(take (List.length z.snd.fst.fst)
 (drop 0 z.snd.fst.fst),()),z.snd.snd.fst,())) none),some (Blk.drow FNd z3 none)]))))) (some (Ex.exit 0,[V.ptr 0 0,V.ptr 1 0,V.ptr 2 0],[some (Blk.box
 [V.sl TPd ts,V.sl FNd fs]),some (Blk.box [V.ref 3 0 0,V.ref 4 0 0]),some (Blk.box [V.ref 5 0 n,V.ref 6 0 0]),some (Blk.drow TPd z0 none),some (Blk.drow FNd z1
 none),some (Blk.drow TPd os none),some (Blk.drow FNd z3 none)]))):_):=by kernel_rfl
theorem Aat (z0 z2:List Tp) (l os z1:List Fa) (m i:Int) (n k:Nat):Av prog VF (Ab [(3,KP),(9,KO)]) 0 (body f40 1) KO ([.ptr 0 0,.ptr 1 0,.sl FNd l,.j m,.j i],[some (.box [.ref 2 0 0,.ref 3 0 0]),some (.box [.ref 4 0 k,.ref 5 0 n]),some (.drow TPd z0 none),some (.drow FNd z1 none),some (.drow TPd z2 none),some (.drow FNd os none)]) =
 ((ifB (decide (i<m)) (ifT (decide ((0:Int)<=i)&&decide (i<(↑l.length:Int))) (Ai l[i.toNat]? fun z=>ifT (Db z.snd.snd.fst.fst z.snd.snd.snd.fst.fst
 z.snd.snd.snd.snd.fst) (ifT (decide (0=0/\n=os.length/\0=0/\1=1/\1=1/\0=(0 :
 Nat))&&(FNd.size.beq FNd.size&&[V.j z.fst,V.s z.snd.fst,V.ref 134 0 (List.length z.snd.snd.fst.fst),V.ref 135 0 (List.length z.snd.snd.snd.fst.fst),V.ref 136
 0 (List.length z.snd.snd.snd.snd.fst),V.j z.snd.snd.snd.snd.snd.fst].all V.single&&(decide ((n+1)*104<=140737488355328)&&decide (n
 + 1<=maxI)))) (some (Ex.normal,[V.ptr 0 0,V.ptr 1 0,V.sl FNd l,V.j m,V.j (i64.wrap (i+(1:Int)))],[some (Blk.box [V.ref 2 0 0,V.ref 3
 0 0]),some (Blk.box [V.ref 4 0 k,V.ref 5 0 (n+1)]),some (Blk.drow TPd z0 none),some (Blk.drow FNd z1 none),some (Blk.drow TPd z2 none),some (Blk.drow FNd
 ((os++FNd.dflt::Aj FNd.den).set os.length (z.fst,z.snd.fst,(take (List.length z.snd.snd.fst.fst) (drop 0 z.snd.snd.fst.fst),()),(take
 (List.length z.snd.snd.snd.fst.fst) (drop 0 z.snd.snd.snd.fst.fst),()),take (List.length z.snd.snd.snd.snd.fst) (drop 0
 z.snd.snd.snd.snd.fst),z.snd.snd.snd.snd.snd.fst,())) none)]))))) (some (Ex.exit 2,[V.ptr 0 0,V.ptr 1 0],[some (Blk.box [V.ref 2 0 0,V.ref 3 0 0]),some (Blk.box
 [V.ref 4 0 k,V.ref 5 0 n]),some (Blk.drow TPd z0 none),some (Blk.drow FNd z1 none),some (Blk.drow TPd z2 none),some (Blk.drow FNd os none)]))):_):=by kernel_rfl
theorem Zb (ts:List Tp) (fs:List Fa):Df prog VF (Ab [(3,KP),(9,KO)]) f40 [.agg [.sl TPd ts,.sl FNd fs]] [] =
 ((ifT (decide ((0:Int)<=(0:Int)/\0<=ts.length/\(↑ts.length:Int)=(↑ts.length:Int)/\0=0/\0+(ts.length-0)<=
 2000000000/\ts.length<=2000000000)&&ts.all BU) (ifT (decide ((0:Int)<=(0:Int)/\0<=fs.length/\(↑fs.length:Int)=(↑fs.length :
 Int)/\0=0/\0+(fs.length-0)<=2000000000/\fs.length<=2000000000)&&fs.all BS) (some (V.agg [V.ref 0 0 ((0 :
 Nat)+(ts.length-0)),V.ref 1 0 (0+(fs.length-0))],[some (Blk.drow TPd (Aj TPd.den++drop 0 ts) none),some (Blk.drow FNd
 (Aj FNd.den++drop 0 fs) none)])))):_):=by kernel_rfl
theorem Aaw {l:List Tp} {ts z0:List Tp} {fs z1 z3:List Fa} (hx:l.length<=2000000000) (ho : ∀ z∈l,BU z=true) : ∀ (j i:Nat) (os:List Tp),i+j=l.length->os.length+j<=2000000000->
  Runs prog VF (Ab [(3,KP),(9,KO)]) 0 (body f40 0) KP ([.ptr 0 0,.ptr 1 0,.ptr 2 0,.sl TPd l,.j l.length,.j (i:Int)],[some (.box [.sl TPd ts,.sl FNd fs]),some (.box [.ref 3 0 0,.ref 4 0 0]),some (.box [.ref 5 0 os.length,.ref 6 0 0]),some (.drow TPd z0 none),some (.drow FNd z1 none),some (.drow TPd os none),some (.drow FNd z3 none)]) (.exit 0) ([.ptr 0 0,.ptr 1 0,.ptr 2 0],[some (.box [.sl TPd ts,.sl FNd fs]),some (.box [.ref 3 0 0,.ref 4 0 0]),some (.box [.ref 5 0 (os.length+(l.length-i)),.ref 6 0 0]),some (.drow TPd z0 none),some (.drow FNd z1 none),some (.drow TPd (os++l.drop i) none),some (.drow FNd z3 none)])
 | 0,i,os,hi,hl=>by
  have hq:=Aau ts l os z0 fs z1 z3 l.length (i:Int) os.length
  try dsimp only [shr] at hq
  rw [Ac (dcF (by omega))] at hq
  rw [drop_eq_nil_of_le (by omega),append_nil,show l.length-i=0 by omega,Nat.add_zero]
  exact .stop _ _ _ hq (by simp)
 | j+1,i,os,hi,hl=>by
  have hM:maxI=9223372036854775807:=rfl
  have h1:i<l.length:=by omega
  have hq:=Aau ts l os z0 fs z1 z3 l.length (i:Int) os.length
  try dsimp only [shr] at hq
  have ho1:=ho _ (getElem_mem h1)
  have ih:=Aaw (ts:=ts) (fs:=fs) (z0:=z0) (z1:=z1) (z3:=z3) hx ho j (i+1) (os++[l[i]]) (by omega) (by simp; omega)
  rw [append_assoc,singleton_append,<-drop_eq_getElem_cons h1,length_append,length_singleton,show os.length+1+(l.length-(i+1))=os.length+(l.length-i) by omega] at ih
  rw [Ag (dcT (by omega)),Aa (by simp only [anE,dcE]; omega),ntN,gtE h1,Am,Ap (n:=i) (by omega)] at hq
  generalize l[i]=z at hq ho1 ih
  obtain ⟨a,⟨l_,⟨⟩⟩,c,⟨⟩⟩:=z
  dsimp only at hq ho1
  unfold BU at ho1
  rw [Aa (by first | exact ho1 | (rw [dcE] at ho1 ⊢; omega))] at hq
  rw [Aa (by simp only [anE,dcE]; refine ⟨⟨by first | trivial | rfl,by first | trivial | rfl,by first | trivial | rfl,by first | trivial | rfl,by first | trivial | rfl,by first | trivial | rfl⟩,⟨by first | trivial | rfl,by first | trivial | rfl⟩,by omega,by omega⟩)] at hq
  simp only [AN,drop_zero,take_length,Gj] at hq
  exact .step _ _ _ _ hq ih
theorem Aav {l:List Fa} {z0 z2:List Tp} {z1:List Fa} {k:Nat} (hx:l.length<=2000000000) (ho : ∀ z∈l,BS z=true) : ∀ (j i:Nat) (os:List Fa),i+j=l.length->os.length+j<=2000000000->
  Runs prog VF (Ab [(3,KP),(9,KO)]) 0 (body f40 1) KO ([.ptr 0 0,.ptr 1 0,.sl FNd l,.j l.length,.j (i:Int)],[some (.box [.ref 2 0 0,.ref 3 0 0]),some (.box [.ref 4 0 k,.ref 5 0 os.length]),some (.drow TPd z0 none),some (.drow FNd z1 none),some (.drow TPd z2 none),some (.drow FNd os none)]) (.exit 2) ([.ptr 0 0,.ptr 1 0],[some (.box [.ref 2 0 0,.ref 3 0 0]),some (.box [.ref 4 0 k,.ref 5 0 (os.length+(l.length-i))]),some (.drow TPd z0 none),some (.drow FNd z1 none),some (.drow TPd z2 none),some (.drow FNd (os++l.drop i) none)])
 | 0,i,os,hi,hl=>by
  have hq:=Aat z0 z2 l os z1 l.length (i:Int) os.length k
  try dsimp only [shr] at hq
  rw [Ac (dcF (by omega))] at hq
  rw [drop_eq_nil_of_le (by omega),append_nil,show l.length-i=0 by omega,Nat.add_zero]
  exact .stop _ _ _ hq (by simp)
 | j+1,i,os,hi,hl=>by
  have hM:maxI=9223372036854775807:=rfl
  have h1:i<l.length:=by omega
  have hq:=Aat z0 z2 l os z1 l.length (i:Int) os.length k
  try dsimp only [shr] at hq
  have ho1:=ho _ (getElem_mem h1)
  have ih:=Aav (z0:=z0) (z1:=z1) (z2:=z2) (k:=k) hx ho j (i+1) (os++[l[i]]) (by omega) (by simp; omega)
  rw [append_assoc,singleton_append,<-drop_eq_getElem_cons h1,length_append,length_singleton,show os.length+1+(l.length-(i+1))=os.length+(l.length-i) by omega] at ih
  rw [Ag (dcT (by omega)),Aa (by simp only [anE,dcE]; omega),ntN,gtE h1,Am,Ap (n:=i) (by omega)] at hq
  generalize l[i]=z at hq ho1 ih
  obtain ⟨w_,p,⟨ws,⟨⟩⟩,⟨v,⟨⟩⟩,b,c,⟨⟩⟩:=z
  dsimp only at hq ho1
  unfold BS at ho1
  rw [Aa (show Db ws v b=true from ho1)] at hq
  rw [Aa (by simp only [anE,dcE]; refine ⟨⟨by first | trivial | rfl,by first | trivial | rfl,by first | trivial | rfl,by first | trivial | rfl,by first | trivial | rfl,by first | trivial | rfl⟩,⟨by first | trivial | rfl,by first | trivial | rfl⟩,by omega,by omega⟩)] at hq
  simp only [AN,drop_zero,take_length,Gj] at hq
  exact .step _ _ _ _ hq ih
theorem Ad6:Ar prog VF (Ab [(3,KP),(9,KO)]) 0 (f40.body.getD .skip):=by
 refine LoopsI.loops (cs:=[body f40 0,body f40 1]) (.cons (ent:=KP) (by kernel_rfl) (fun d e d' h=>?_) (.cons (ent:=KO) (by kernel_rfl) (fun d e d' h=>?_) .nil)) (by kernel_rfl)
 ·unfold KP at h
  dsimp only at h
  repeat' split at h
  all_goals first | contradiction | skip
  obtain ⟨hc,hx⟩:=Ad h
  rw [anE,dcE] at hc
  obtain ⟨⟨a0,a1,a2,a3,a4,a6⟩,a5⟩:=hc
  obtain ⟨i,rfl⟩:=eq_ofNat_of_zero_le a0
  subst a2
  subst a3
  cases hx
  exact Aaw a6 (all_eq_true.1 a5) _ i _ (add_sub_of_le a1) a4
 ·unfold KO at h
  dsimp only at h
  repeat' split at h
  all_goals first | contradiction | skip
  obtain ⟨hc,hx⟩:=Ad h
  rw [anE,dcE] at hc
  obtain ⟨⟨a0,a1,a2,a3,a4,a6⟩,a5⟩:=hc
  obtain ⟨i,rfl⟩:=eq_ofNat_of_zero_le a0
  subst a2
  subst a3
  cases hx
  exact Aav a6 (all_eq_true.1 a5) _ i _ (add_sub_of_le a1) a4
theorem Aby:Af prog 40 (Ent.rd1 Is).F:=by
 refine A8 (kc func79 Tg (kc func41 Th KnowsL.nil)).knows (Λ:=(Ab [(3,KP),(9,KO)])) func40 (c:=f40.body.getD .skip) (by kernel_rfl) fun vs bs r hq hv hb=>?_
 unfold Ent.F Is at hq
 dsimp only at hq
 split at hq
 ·rename_i ts fs
  obtain ⟨hc,hx⟩:=Ad hq
  rw [anE,anE,anE,dcE,dcE] at hc
  obtain ⟨⟨h1,h2⟩,h3,h4⟩:=hc
  refine ⟨Ad6,(Zb ts fs).trans (Eq.trans ?_ hx)⟩
  try dsimp only [shr]
  rw [h2,h4,Bool.and_true,Bool.and_true,Aa (dcT ⟨by omega,by simp,by simp,by simp,by omega,by omega⟩),Aa (dcT ⟨by omega,by simp,by simp,by simp,by omega,by omega⟩)]
  try simp only [zero_add,Nat.sub_zero,AN,List.nil_append,drop_zero]
  try rfl
 ·cases hq




def hdL {α:Type} (p:Int->α->Bool) (w:α->Int):Int->List α->Bool
 | _,[]=>true
 | k,x::l=>p k x&&hdL p w (k+w x) l
def HT (k:Int) (t:Tp):Bool:=(t.1==Bn k)&&(EW t.2.1.1 (A4 A7 6 (k+1) t.2.1.1.length)&&(t.2.2.1==k+1+6*(t.2.1.1.length:Int)))
def HU (k:Int) (f:Fa):Bool:=(f.1==k)&&((f.2.1==Bn (k+1))&&(I7 f.2.2.1.1 (A4 AE 6 (k+2) f.2.2.1.1.length)&&(EW f.2.2.2.1.1 (A4 A7 6 (k+2+6*(f.2.2.1.1.length:Int)) f.2.2.2.1.1.length)&&(decide (f.2.2.2.2.1=A4 AQ 3 (k+2+6*(f.2.2.1.1.length:Int)+6*(f.2.2.2.1.1.length:Int)) f.2.2.2.2.1.length)&&(f.2.2.2.2.2.1==k+2+6*(f.2.2.1.1.length:Int)+6*(f.2.2.2.1.1.length:Int)+3*(f.2.2.2.2.1.length:Int))))))
def FP:LoopEnt:=⟨42,[0,1,4,5],[1,4],[4],fun
 | ([.sl TPd l,.i .i64 k,.i .i64 r,.i .i64 n],[])=>.need (decide (0<=n/\n.toNat<=l.length/\l.length<=maxI/\0<=k/\k+AM AR (l.drop n.toNat)<=lim)) (.br (hdL HT AR k (l.drop n.toNat)) (.leaf (.exit 0,([.i .i64 (k+AM AR (l.drop n.toNat)),.i .i64 r],[]))) (.leaf (.ret,([.i .i64 (-1)],[]))))
 | _=>.no⟩
def S6:Gm
 | [.sl TPd l,.i .i64 k],[]=>.need (decide (l.length<=maxI/\0<=k/\k+AM AR l<=lim)) (.br (hdL HT AR k l) (.leaf (.i .i64 (k+AM AR l),[])) (.leaf (.i .i64 (-1),[])))
 | _,_=>.no
def FQ:LoopEnt:=⟨70,[0,1,4,5],[1,4],[4],fun
 | ([.sl FNd l,.i .i64 k,.i .i64 r,.i .i64 n],[])=>.need (decide (0<=n/\n.toNat<=l.length/\l.length<=maxI/\0<=k/\k+AM Bl (l.drop n.toNat)<=lim)) (.br (hdL HU Bl k (l.drop n.toNat)) (.leaf (.exit 0,([.i .i64 (k+AM Bl (l.drop n.toNat)),.i .i64 r],[]))) (.leaf (.ret,([.i .i64 (-1)],[]))))
 | _=>.no⟩
def S9:Gm
 | [.sl FNd l,.i .i64 k],[]=>.need (decide (l.length<=maxI/\0<=k/\k+AM Bl l<=lim)) (.br (hdL HU Bl k l) (.leaf (.i .i64 (k+AM Bl l),[])) (.leaf (.i .i64 (-1),[])))
 | _,_=>.no
abbrev Aae:FuncId->Option Ent:=Ab [(71,.rd1 A6),(94,.rd1 Gs)]
theorem Jv (k r n:Int) (l:List Tp):Av prog Aae (Ab [(2,FP)]) 0 (body f60 0) FP ([.sl TPd l,.j k,.j r,.j n],[]) =
 ((ifB (decide (n<(↑l.length:Int))) (ifT (decide ((0:Int)<=n)&&decide (n<(↑l.length:Int))) (Ai l[n.toNat]? fun z=>ifT (decide (k<=lim)) (ifB (!z.fst==
 Bn k) (some (Ex.ret,[V.j (-1)],[])) (ifT (decide ((0:Int)<=n)&&decide (n<(↑l.length:Int))) (Ai l[n.toNat]? fun z=>ifT (decide ((0:Int)<=
 i64.wrap (k+(1:Int))/\i64.wrap (k+(1:Int))+(6:Int)*(↑(List.length z.snd.fst.fst):Int)<=lim)) (ifB (EW z.snd.fst.fst (A4 A7
 (6:Int) (i64.wrap (k+(1:Int))) (List.length z.snd.fst.fst))) (ifB (decide (i64.wrap (k+(1:Int))+(6:Int)*(↑(List.length z.snd.fst.fst) :
 Int)<(0:Int))) (some (Ex.ret,[V.j (-1)],[])) (ifT (decide ((0:Int)<=n)&&decide (n<(↑l.length:Int))) (Ai l[n.toNat]? fun z_1=>ifB
 (z_1.snd.snd.fst != i64.wrap (k+(1:Int))+(6:Int)*(↑(List.length z.snd.fst.fst):Int)) (some (Ex.ret,[V.j (-1)],[])) (some (Ex.normal,[V.sl TPd
 l,V.j (i64.wrap (i64.wrap (k+(1:Int))+(6:Int)*(↑(List.length z.snd.fst.fst):Int)+(1:Int))),V.j r,V.j (i64.wrap
 (n+(1:Int)))],[]))))) (some (Ex.ret,[V.j (-1)],[])))))))) (some (Ex.exit 0,[V.j k,V.j r],[]))):_):=by kernel_rfl
theorem S5 (k:Int) (l:List Tp):Ax prog Aae (Ab [(2,FP)]) f60 [.sl TPd l,.j k] [] =
 ((ifT (decide ((0:Int)<=(0:Int)/\0<=l.length/\l.length<=maxI/\(0:Int)<=k/\k+AM AR (drop 0 l)<=lim)) (ifB (hdL HT AR k
 (drop 0 l)) (some (V.j (k+AM AR (drop 0 l)),[])) (some (V.j (-1),[])))):_):=by kernel_rfl
abbrev Aad:FuncId->Option Ent:=Ab [(71,.rd1 A6),(95,.rd1 I8),(94,.rd1 Gs),(96,.rd1 I9)]
theorem Jw (k r n:Int) (l:List Fa):Av prog Aad (Ab [(2,FQ)]) 0 (body f61 0) FQ ([.sl FNd l,.j k,.j r,.j n],[]) =
 ((ifB (decide (n<(↑l.length:Int))) (ifT (decide ((0:Int)<=n)&&decide (n<(↑l.length:Int))) (Ai l[n.toNat]? fun z=>ifB (z.fst != k) (some (Ex.ret,[V.i .i64
 (-1)],[])) (ifT (decide ((0:Int)<=n)&&decide (n<(↑l.length:Int))) (Ai l[n.toNat]? fun z=>ifT (decide (i64.wrap (k+(1:Int))<=lim)) (ifB
 (!z.snd.fst==Bn (i64.wrap (k+(1:Int)))) (some (Ex.ret,[V.j (-1)],[])) (ifT (decide ((0:Int)<=n)&&decide (n<(↑l.length:Int))) (Ai
 l[n.toNat]? fun z=>ifT (decide ((0:Int)<=i64.wrap (i64.wrap (k+(1:Int))+(1:Int))/\i64.wrap (i64.wrap (k+(1:Int))+(1 :
 Int))+(6:Int)*(↑(List.length z.snd.snd.fst.fst):Int)<=lim)) (ifB (I7 z.snd.snd.fst.fst (A4 AE (6:Int) (i64.wrap (i64.wrap (k+(1
 : Int))+(1:Int))) (List.length z.snd.snd.fst.fst))) (ifB (decide (i64.wrap (i64.wrap (k+(1:Int))+(1:Int))+(6:Int)*(↑(List.length
 z.snd.snd.fst.fst):Int)<(0:Int))) (some (Ex.ret,[V.j (-1)],[])) (ifT (decide ((0:Int)<=n)&&decide (n<(↑l.length:Int))) (Ai l[n.toNat]? fun z_1
 => ifT (decide ((0:Int)<=i64.wrap (i64.wrap (k+(1:Int))+(1:Int))+(6:Int)*(↑(List.length z.snd.snd.fst.fst):Int)/\i64.wrap
 (i64.wrap (k+(1:Int))+(1:Int))+(6:Int)*(↑(List.length z.snd.snd.fst.fst):Int)+(6:Int)*(↑(List.length z_1.snd.snd.snd.fst.fst):Int)<=lim))
 (ifB (EW z_1.snd.snd.snd.fst.fst (A4 A7 (6:Int) (i64.wrap (i64.wrap (k+(1:Int))+(1:Int))+(6:Int)*(↑(List.length
 z.snd.snd.fst.fst):Int)) (List.length z_1.snd.snd.snd.fst.fst))) (ifB (decide (i64.wrap (i64.wrap (k+(1:Int))+(1:Int))+(6:Int) *
 (↑(List.length z.snd.snd.fst.fst):Int)+(6:Int)*(↑(List.length z_1.snd.snd.snd.fst.fst):Int)<(0:Int))) (some (Ex.ret,[V.j (-1)],[])) (ifT (decide ((0
 : Int)<=n)&&decide (n<(↑l.length:Int))) (Ai l[n.toNat]? fun z_2=>ifT (decide ((0:Int)<=i64.wrap (i64.wrap (k+(1:Int))+(1:Int)) +
 (6:Int)*(↑(List.length z.snd.snd.fst.fst):Int)+(6:Int)*(↑(List.length z_1.snd.snd.snd.fst.fst):Int)/\i64.wrap (i64.wrap (k+(1:Int)) +
 (1:Int))+(6:Int)*(↑(List.length z.snd.snd.fst.fst):Int)+(6:Int)*(↑(List.length z_1.snd.snd.snd.fst.fst):Int)+(3:Int)*(↑(List.length
 z_2.snd.snd.snd.snd.fst):Int)<=lim)) (ifB (decide (z_2.snd.snd.snd.snd.fst=A4 AQ (3:Int) (i64.wrap (i64.wrap (k+(1:Int))+(1:Int))
 + (6:Int)*(↑(List.length z.snd.snd.fst.fst):Int)+(6:Int)*(↑(List.length z_1.snd.snd.snd.fst.fst):Int)) (List.length z_2.snd.snd.snd.snd.fst))) (ifB (decide
 (i64.wrap (i64.wrap (k+(1:Int))+(1:Int))+(6:Int)*(↑(List.length z.snd.snd.fst.fst):Int)+(6:Int)*(↑(List.length
 z_1.snd.snd.snd.fst.fst):Int)+(3:Int)*(↑(List.length z_2.snd.snd.snd.snd.fst):Int)<(0:Int))) (some (Ex.ret,[V.j (-1)],[])) (ifT (decide ((0:Int)<=
 n)&&decide (n<(↑l.length:Int))) (Ai l[n.toNat]? fun z_3=>ifB (z_3.snd.snd.snd.snd.snd.fst != i64.wrap (i64.wrap (k+(1:Int))+(1:Int)) +
 (6:Int)*(↑(List.length z.snd.snd.fst.fst):Int)+(6:Int)*(↑(List.length z_1.snd.snd.snd.fst.fst):Int)+(3:Int)*(↑(List.length z_2.snd.snd.snd.snd.fst) :
 Int)) (some (Ex.ret,[V.j (-1)],[])) (some (Ex.normal,[V.sl FNd l,V.j (i64.wrap (i64.wrap (i64.wrap (k+(1:Int))+(1:Int))+(6
 : Int)*(↑(List.length z.snd.snd.fst.fst):Int)+(6:Int)*(↑(List.length z_1.snd.snd.snd.fst.fst):Int)+(3:Int)*(↑(List.length z_2.snd.snd.snd.snd.fst) :
 Int)+(1:Int))),V.j r,V.j (i64.wrap (n+(1:Int)))],[]))))) (some (Ex.ret,[V.j (-1)],[])))))) (some (Ex.ret,[V.j (-1)],[]))))))
 (some (Ex.ret,[V.j (-1)],[])))))))))) (some (Ex.exit 0,[V.j k,V.j r],[]))):_):=by kernel_rfl
theorem S8 (k:Int) (l:List Fa):Ax prog Aad (Ab [(2,FQ)]) f61 [.sl FNd l,.j k] [] =
 ((ifT (decide ((0:Int)<=(0:Int)/\0<=l.length/\l.length<=maxI/\(0:Int)<=k/\k+AM Bl (drop 0 l)<=lim)) (ifB (hdL HU Bl k
 (drop 0 l)) (some (V.j (k+AM Bl (drop 0 l)),[])) (some (V.j (-1),[])))):_):=by kernel_rfl
theorem XK {α β:Type} [BEq α] {a b:α} {x y:Option β}:ifB (a != b) x y=ifB (a==b) y x:=by unfold bne; cases a==b<;>rfl
theorem XJ {β:Type} {c:Bool} {x y:Option β}:ifB (!c) x y=ifB c y x:=by cases c<;>rfl
theorem XL {β:Type} {a b:Bool} {x y:Option β}:ifB a (ifB b x y) y=ifB (a&&b) x y:=by cases a<;>rfl
theorem Qn {α:Type} {p:Int->α->Bool} {w:α->Int} {k:Int} {l:List α} {n:Nat} (h:n<l.length):hdL p w k (l.drop n)=(p k l[n]&&hdL p w (k+w l[n]) (l.drop (n+1))):=by rw [drop_eq_getElem_cons h]; rfl
theorem L1 {l:List Tp} {r:Int} (hm:l.length<=maxI) : ∀ (j n:Nat) (k:Int),n+j=l.length->0<=k->k+AM AR (l.drop n)<=lim->Runs prog Aae (Ab [(2,FP)]) 0 (body f60 0) FP ([.sl TPd l,.j k,.j r,.j (n:Int)],[]) (bif hdL HT AR k (l.drop n) then .exit 0 else .ret) (bif hdL HT AR k (l.drop n) then [.j (k+AM AR (l.drop n)),.j r] else [.j (-1)],[])
 | 0,n,k,hn,h0,hk=>by
  have hr:=Jv k r n l
  try dsimp only [shr] at hr
  rw [Ac (dcF (by omega))] at hr
  rw [drop_eq_nil_of_le (by omega),AM,hdL,Int.add_zero]
  exact .stop _ _ _ hr (by simp)
 | j+1,n,k,hn,h0,hk=>by
  have h1:n<l.length:=by omega
  have hM:maxI=9223372036854775807:=rfl
  have hr:=Jv k r n l
  try dsimp only [shr] at hr
  have hp:=DW F8 (l.drop (n+1))
  have ih:=L1 (r:=r) hm j (n+1) (k+AR l[n]) (by omega) (by have:=F8 l[n]; omega) (by rw [add_assoc,<-BK h1]; exact hk)
  rw [add_assoc,<-BK h1] at ih
  rw [Qn h1]
  have hk':=hk
  rw [BK h1] at hk'
  rw [Ag (dcT (by omega))] at hr
  simp only [ntN,gtE h1,Am] at hr
  generalize l[n]=z at hr hk' ih ⊢
  obtain ⟨a,⟨ts,⟨⟩⟩,c,⟨⟩⟩:=z
  dsimp only at hr
  have en:AR (a,(ts,()),c,())=2+6*(ts.length:Int):=rfl
  rw [en] at hk' ih ⊢
  unfold lim at hk'
  have hb:(decide ((0:Int)<=(n:Int))&&decide ((n:Int)<(l.length:Int)))=true:=by simp only [anE,dcE]; omega
  have hn1:i64.wrap ((n:Int)+1)=((n+1:Nat):Int):=by rw [Aw (by omega) (by omega)]; omega
  have w1:i64.wrap (k+1)=k+1:=Aw (by omega) (by omega)
  have w3:i64.wrap (k+1+6*(ts.length:Int)+1)=k+(2+6*(ts.length:Int)):=by rw [Aw (by omega) (by omega)]; omega
  simp only [hb,Dc,hn1,w1] at hr
  try simp only [w2] at hr
  rw [Aa (dcT (by unfold lim; omega)),Aa (dcT ⟨by omega,by unfold lim; omega⟩),w3] at hr
  rw [Ac (dcF (show ¬k+1+6*(ts.length:Int)<0 by omega))] at hr
  simp only [XK,XJ,XL] at hr
  cases hq:HT _ _
  ·unfold HT at hq
   dsimp only at hq
   rw [hq] at hr
   exact .stop _ _ _ hr (by simp)
  ·unfold HT at hq
   dsimp only at hq
   rw [hq] at hr
   rw [Bool.true_and]
   exact .step _ _ _ _ hr ih
theorem XO:Ar prog Aae (Ab [(2,FP)]) 0 (f60.body.getD .skip):=by
 refine An (a:=body f60 0) (by kernel_rfl) fun d e d' h=>?_
 unfold FP at h
 dsimp only at h
 split at h
 ·rename_i l k r n
  obtain ⟨hc,hx⟩:=Ad h
  obtain ⟨a0,a1,a2,a3,a4⟩:=of_decide_eq_true hc
  obtain ⟨n,rfl⟩:=eq_ofNat_of_zero_le a0
  simp only [ntN] at a1 a4 hx
  have hl:=L1 (r:=r) a2 (l.length-n) n k (by omega) a3 a4
  rcases DK hx with ⟨h1,hx⟩ | ⟨h1,hx⟩
  ·cases hx
   rw [h1] at hl; exact hl
  ·cases hx
   rw [h1] at hl; exact hl
 ·cases h
theorem Aey:Af prog 60 (Ent.rd1 S6).F:=by
 refine Ae (kc func71 CI (kc func94 Ql KnowsL.nil)).knows (Λ:=(Ab [(2,FP)])) func60 (c:=f60.body.getD .skip) (by kernel_rfl) fun vs bs r hq hv hb=>?_
 unfold Ent.F S6 at hq
 dsimp only at hq
 split at hq
 ·rename_i l k
  obtain ⟨hc,hx⟩:=Ad hq
  obtain ⟨a1,a2,a3⟩:=of_decide_eq_true hc
  refine ⟨XO,(S5 k l).trans (Eq.trans ?_ hx)⟩
  try dsimp only [shr]
  rw [drop_zero,Aa (dcT ⟨le_refl 0,Nat.zero_le _,a1,a2,a3⟩)]
  cases hdL HT AR k l<;>rfl
 ·cases hq
theorem L2 {l:List Fa} {r:Int} (hm:l.length<=maxI) : ∀ (j n:Nat) (k:Int),n+j=l.length->0<=k->k+AM Bl (l.drop n)<=lim->Runs prog Aad (Ab [(2,FQ)]) 0 (body f61 0) FQ ([.sl FNd l,.j k,.j r,.j (n:Int)],[]) (bif hdL HU Bl k (l.drop n) then .exit 0 else .ret) (bif hdL HU Bl k (l.drop n) then [.j (k+AM Bl (l.drop n)),.j r] else [.j (-1)],[])
 | 0,n,k,hn,h0,hk=>by
  have hr:=Jw k r n l
  try dsimp only [shr] at hr
  rw [Ac (dcF (by omega))] at hr
  rw [drop_eq_nil_of_le (by omega),AM,hdL,Int.add_zero]
  exact .stop _ _ _ hr (by simp)
 | j+1,n,k,hn,h0,hk=>by
  have h1:n<l.length:=by omega
  have hM:maxI=9223372036854775807:=rfl
  have hr:=Jw k r n l
  try dsimp only [shr] at hr
  have hp:=DW F9 (l.drop (n+1))
  have ih:=L2 (r:=r) hm j (n+1) (k+Bl l[n]) (by omega) (by have:=F9 l[n]; omega) (by rw [add_assoc,<-BK h1]; exact hk)
  rw [add_assoc,<-BK h1] at ih
  rw [Qn h1]
  have hk':=hk
  rw [BK h1] at hk'
  rw [Ag (dcT (by omega))] at hr
  simp only [ntN,gtE h1,Am] at hr
  generalize l[n]=z at hr hk' ih ⊢
  obtain ⟨w0,p,⟨ws,⟨⟩⟩,⟨v,⟨⟩⟩,b,c,⟨⟩⟩:=z
  dsimp only at hr
  have en:Bl (w0,p,(ws,()),(v,()),b,c,())=3+6*(ws.length:Int)+6*(v.length:Int)+3*(b.length:Int):=rfl
  rw [en] at hk' ih ⊢
  unfold lim at hk'
  have hb:(decide ((0:Int)<=(n:Int))&&decide ((n:Int)<(l.length:Int)))=true:=by simp only [anE,dcE]; omega
  have hn1:i64.wrap ((n:Int)+1)=((n+1:Nat):Int):=by rw [Aw (by omega) (by omega)]; omega
  have w1:i64.wrap (k+1)=k+1:=Aw (by omega) (by omega)
  have w2:i64.wrap (k+1+1)=k+2:=by rw [Aw (by omega) (by omega)]; omega
  have w3:i64.wrap (k+2+6*(ws.length:Int)+6*(v.length:Int)+3*(b.length:Int)+1)=k+(3+6*(ws.length:Int)+6*(v.length:Int)+3*(b.length:Int)):=by rw [Aw (by omega) (by omega)]; omega
  simp only [hb,Dc,hn1,w1] at hr
  try simp only [w2] at hr
  rw [Aa (dcT (by unfold lim; omega)),Aa (dcT ⟨by omega,by unfold lim; omega⟩),Aa (dcT ⟨by omega,by unfold lim; omega⟩),Aa (dcT ⟨by omega,by unfold lim; omega⟩),w3] at hr
  rw [Ac (dcF (show ¬k+2+6*(ws.length:Int)<0 by omega)),Ac (dcF (show ¬k+2+6*(ws.length:Int)+6*(v.length:Int)<0 by omega)),Ac (dcF (show ¬k+2+6*(ws.length:Int)+6*(v.length:Int)+3*(b.length:Int)<0 by omega))] at hr
  simp only [XK,XJ,XL] at hr
  cases hq:HU _ _
  ·unfold HU at hq
   dsimp only at hq
   rw [hq] at hr
   exact .stop _ _ _ hr (by simp)
  ·unfold HU at hq
   dsimp only at hq
   rw [hq] at hr
   rw [Bool.true_and]
   exact .step _ _ _ _ hr ih
theorem XP:Ar prog Aad (Ab [(2,FQ)]) 0 (f61.body.getD .skip):=by
 refine An (a:=body f61 0) (by kernel_rfl) fun d e d' h=>?_
 unfold FQ at h
 dsimp only at h
 split at h
 ·rename_i l k r n
  obtain ⟨hc,hx⟩:=Ad h
  obtain ⟨a0,a1,a2,a3,a4⟩:=of_decide_eq_true hc
  obtain ⟨n,rfl⟩:=eq_ofNat_of_zero_le a0
  simp only [ntN] at a1 a4 hx
  have hl:=L2 (r:=r) a2 (l.length-n) n k (by omega) a3 a4
  rcases DK hx with ⟨h1,hx⟩ | ⟨h1,hx⟩
  ·cases hx
   rw [h1] at hl; exact hl
  ·cases hx
   rw [h1] at hl; exact hl
 ·cases h
theorem Aez:Af prog 61 (Ent.rd1 S9).F:=by
 refine Ae (kc func71 CI (kc func95 XM (kc func94 Ql (kc func96 XN KnowsL.nil)))).knows (Λ:=(Ab [(2,FQ)])) func61 (c:=f61.body.getD .skip) (by kernel_rfl) fun vs bs r hq hv hb=>?_
 unfold Ent.F S9 at hq
 dsimp only at hq
 split at hq
 ·rename_i l k
  obtain ⟨hc,hx⟩:=Ad hq
  obtain ⟨a1,a2,a3⟩:=of_decide_eq_true hc
  refine ⟨XP,(S8 k l).trans (Eq.trans ?_ hx)⟩
  try dsimp only [shr]
  rw [drop_zero,Aa (dcT ⟨le_refl 0,Nat.zero_le _,a1,a2,a3⟩)]
  cases hdL HU Bl k l<;>rfl
 ·cases hq
def CC (ts:List Tp) (fs:List Fa):Int:=AM AR ts+AM Bl fs
def Xo:Gm
 | [.agg [.ref 0 0 m,.ref 1 0 n],.i .i64 k],[.drow TPd ts none,.drow FNd fs none]=>.need (decide (m=ts.length/\n=fs.length/\0<=k/\k+CC ts fs<=lim)) (.leaf (.i .i64 (k+CC ts fs),[some (.drow TPd (mkL D3 AR k ts) none),some (.drow FNd (mkL D4 Bl (k+AM AR ts) fs) none)]))
 | _,_=>.no
def Va (k:Int) (ts:List Tp) (fs:List Fa):Bool:=hdL HT AR k ts&&hdL HU Bl (k+AM AR ts) fs
def XR:Gm
 | [.agg [.sl TPd ts,.sl FNd fs],.i .i64 k],[]=>.need (decide (ts.length<=maxI/\fs.length<=maxI/\0<=k/\k+CC ts fs<=lim)) (.br (Va k ts fs) (.leaf (.i .i64 (k+CC ts fs),[])) (.leaf (.i .i64 (-1),[])))
 | _,_=>.no
theorem JL {α:Type} (w:α->Nat) : ∀ {l:List α} {x:α},x∈l->w x<=(l.map w).sum
 | y::l,x,h=>by
  rw [map_cons,sum_cons]
  rcases List.mem_cons.1 h with rfl | h
  ·omega
  ·have:=JL w h; omega
theorem Aa1 {l:List Ty} (h:F5 l=true):nmL l=true:=by
 unfold nmL
 rw [all_eq_true]
 intro x hx
 have:=(It h).2 x hx
 unfold Or at this
 exact this
theorem VU {t:Tp} (ho:Ot t=true) (hw:wTp t<=1048576):EI t=true/\E4 t=true/\BU t=true:=by
 have hM:maxI=9223372036854775807:=rfl
 unfold wTp Ew Il at hw
 unfold Ot F6 at ho
 rw [anE,dcE] at ho
 have hn:=Aa1 ho.2
 unfold EI E4 FR BU
 simp only [anE,dcE]
 refine ⟨⟨by omega,by omega,hn⟩,by omega,by omega⟩
theorem Ab5 {b:List Nt} (hw:J6 b<=1048576):H9 b=true:=by
 unfold J6 Dw at hw
 unfold H9
 rw [anE,dcE,all_eq_true]
 refine ⟨by omega,fun n hn=>?_⟩
 have:=JL wNt hn
 unfold wNt at this hw
 exact dcT (by omega)
theorem LB {f:Fa} (ho:H8 f=true) (hw:wFa f<=1048576):J8 f=true/\Ek f=true/\BS f=true:=by
 have hM:maxI=9223372036854775807:=rfl
 unfold wFa Ew Fp at hw
 unfold H8 KQ F6 at ho
 simp only [anE,dcE] at ho
 have hn:=Aa1 ho.2.2.1
 have hb:=Ab5 (b:=f.2.2.2.2.1) (by omega)
 unfold Kc Il J6 at hw
 unfold J8 Ek FR LC BS
 simp only [anE,dcE]
 refine ⟨⟨⟨by omega,by omega⟩,hn,hb⟩,⟨by omega,by omega,by omega⟩,by omega,by omega,by omega⟩
theorem QE {ts:List Tp} {fs:List Fa} (ho:Ou (ts,fs,())=true) (hw:wBk (ts,fs,())<=1048576):H0 ts fs=true/\GR (ts,fs,())=true/\((decide (ts.length<=1000000000)&&ts.all BU)&&(decide (fs.length<=1000000000)&&fs.all BS))=true:=by
 have hM:maxI=9223372036854775807:=rfl
 unfold Ou at ho
 rw [anE] at ho
 obtain ⟨h1,h2⟩:=Iu ho.1
 obtain ⟨h3,h4⟩:=Iv ho.2
 unfold wBk Hw Mc at hw
 dsimp only at hw
 have a : ∀ t∈ts,EI t=true/\E4 t=true/\BU t=true:=fun t ht=>by
  have:=JL wTp ht
  unfold C9 at hw
  exact VU (h2 t ht) (by omega)
 have b : ∀ f∈fs,J8 f=true/\Ek f=true/\BS f=true:=fun f hf=>by
  have:=JL wFa hf
  unfold Cj at hw
  exact LB (h4 f hf) (by omega)
 unfold H0 GR
 simp only [anE,dcE,all_eq_true]
 exact ⟨⟨⟨by omega,by omega⟩,fun t ht=>(a t ht).1,fun f hf=>(b f hf).1⟩,⟨⟨by omega,fun t ht=>(a t ht).2.1⟩,by omega,fun f hf=>(b f hf).2.1⟩,⟨by omega,fun t ht=>(a t ht).2.2⟩,by omega,fun f hf=>(b f hf).2.2⟩
theorem Vp (x:Nt):G9 x x=true:=by unfold G9; simp
theorem N2 (x:Ty):G7 x x=true:=by unfold G7; simp
theorem Vh (x:Wt):G6 x x=true:=by unfold G6; simp
theorem Vm (x:Tp):G8 x x=true:=by
 unfold G8 GS
 rw [Ea fun y _=>N2 y]; simp
theorem N8 (x:Fa):FX x x=true:=by
 unfold FX N7 GS
 rw [Ea fun y _=>N2 y,Ea fun y _=>Vh y,Ea fun y _=>Vp y]; simp
theorem Vu (ts:List Tp) (fs:List Fa):Q0 (ts,fs,()) (ts,fs,())=true:=by
 unfold Q0
 rw [Ea fun y _=>Vm y,Ea fun y _=>N8 y]; rfl
theorem U8 (ts:List Tp) (fs:List Fa) (m n:Nat) (k:Int):Ax prog (Ab [(55,.own RT),(56,.own RZ)]) (Ab []) f15 [.agg [.ref 0 0 m,.ref 1 0 n],.j k] [.drow TPd ts none,.drow FNd fs none] =
 ((ifT (decide (m=ts.length/\(0:Int)<=k/\k+AM AR ts<=lim)) (ifT (decide (n=fs.length/\(0:Int)<=k+AM AR ts/\k+AM AR ts+AM Bl fs<=lim))
 (some (V.j (k+AM AR ts+AM Bl fs),[some (Blk.drow TPd (mkL D3 AR k ts) none),some (Blk.drow FNd (mkL D4 Bl (k+AM AR ts) fs) none)])))):_):=by kernel_rfl
theorem UZ (ts:List Tp) (fs:List Fa) (k:Int):Ax prog (Ab [(60,.rd1 S6),(61,.rd1 S9)]) (Ab []) f17 [.agg [.sl TPd ts,.sl FNd fs],.j k] [] =
 ((ifT (decide (ts.length<=maxI/\(0:Int)<=k/\k+AM AR ts<=lim)) (ifB (hdL HT AR k ts) (ifB (decide (k+AM AR ts<(0:Int))) (some (V.j (-1),[]))
 (ifT (decide (fs.length<=maxI/\(0:Int)<=k+AM AR ts/\k+AM AR ts+AM Bl fs<=lim)) (ifB (hdL HU Bl (k+AM AR ts) fs) (ifB (decide (k+AM
 AR ts+AM Bl fs<(0:Int))) (some (V.j (-1),[])) (some (V.j (k+AM AR ts+AM Bl fs),[]))) (some (V.j (-1),[]))))) (some (V.i .i64
 (-1),[])))):_):=by kernel_rfl
theorem Gl (l:List Tp):0<=AM AR l:=DW F8 l
theorem Gn (l:List Fa):0<=AM Bl l:=DW F9 l
theorem Xn:Af prog 15 (Ent.own Xo).F:=by
 refine Ae (kc func55 Aeb (kc func56 Aee KnowsL.nil)).knows (Λ:=Ab []) func15 (c:=f15.body.getD .skip) (by kernel_rfl) fun vs bs r hq hv hb=>?_
 unfold Ent.F Xo at hq
 dsimp only at hq
 split at hq
 ·rename_i m n k ts fs
  obtain ⟨hc,hx⟩:=Ad hq
  obtain ⟨rfl,rfl,h0,hk⟩:=of_decide_eq_true hc
  refine ⟨Ak _,(U8 ts fs _ _ k).trans (Eq.trans ?_ hx)⟩
  have:=Gl ts
  have:=Gn fs
  unfold CC at hk ⊢
  try dsimp only [shr]
  rw [Aa (dcT ⟨by first | rfl | trivial,by omega,by omega⟩),Aa (dcT ⟨by first | rfl | trivial,by omega,by omega⟩),add_assoc]
  rfl
 ·cases hq
theorem XQ:Af prog 17 (Ent.rd1 XR).F:=by
 refine Ae (kc func60 Aey (kc func61 Aez KnowsL.nil)).knows (Λ:=Ab []) func17 (c:=f17.body.getD .skip) (by kernel_rfl) fun vs bs r hq hv hb=>?_
 unfold Ent.F XR at hq
 dsimp only at hq
 split at hq
 ·rename_i ts fs k
  obtain ⟨hc,hx⟩:=Ad hq
  obtain ⟨h1,h2,h0,hk⟩:=of_decide_eq_true hc
  refine ⟨Ak _,(UZ ts fs k).trans (Eq.trans ?_ hx)⟩
  have:=Gl ts
  have:=Gn fs
  unfold CC at hk ⊢
  unfold Va
  try dsimp only [shr]
  rw [Aa (dcT ⟨by omega,by omega,by omega⟩),Ac (dcF (show ¬k+AM AR ts<0 by omega)),Aa (dcT ⟨by omega,by omega,by omega⟩),Ac (dcF (show ¬k+AM AR ts+AM Bl fs<0 by omega)),add_assoc]
  cases hdL HT AR k ts<;>cases hdL HU Bl (k+AM AR ts) fs<;>rfl
 ·cases hq
theorem Ow (k:Int) (t:Tp):AR (D3 k t)=AR t:=by unfold AR D3; rw [Cu]
theorem Z7 (k:Int) (t:Tp):HT k (D3 k t)=true:=by
 unfold HT D3 EW
 simp only [Cu,beq_self_eq_true,decide_true,Bool.and_true]
theorem Tq (k:Int) (t:Fa):Bl (D4 k t)=Bl t:=by unfold Bl D4; simp only [Cu]
theorem Z8 (k:Int) (t:Fa):HU k (D4 k t)=true:=by
 unfold HU D4 EW I7
 simp only [Cu,beq_self_eq_true,decide_true,Bool.and_true]
theorem JP {α:Type} {g:Int->α->α} {w:α->Int} (hw : ∀ k x,w (g k x)=w x) : ∀ (k:Int) (l:List α),AM w (mkL g w k l)=AM w l
 | _,[]=>rfl
 | k,x::l=>by simp only [mkL,AM,hw,JP hw]
theorem S7 {α:Type} {p:Int->α->Bool} {g:Int->α->α} {w:α->Int} (hp : ∀ k x,p k (g k x)=true) (hw : ∀ k x,w (g k x)=w x) : ∀ (k:Int) (l:List α),hdL p w k (mkL g w k l)=true
 | _,[]=>rfl
 | k,x::l=>by simp only [mkL,hdL,hp,hw,S7 hp hw,Bool.and_self]
theorem Z9 (k:Int) (ts:List Tp) (fs:List Fa):Va k (mkL D3 AR k ts) (mkL D4 Bl (k+AM AR ts) fs)=true:=by
 unfold Va
 rw [JP Ow,S7 Z7 Ow,S7 Z8 Tq]; rfl
theorem Zh (k j:Int) (ts:List Tp) (fs:List Fa):CC (mkL D3 AR k ts) (mkL D4 Bl j fs)=CC ts fs:=by
 unfold CC
 rw [JP Ow,JP Tq]
theorem P8 : ∀ l:List Tp,AM AR l<=2*(l.length:Int)+6*(C9 l:Int)
 | []=>by simp [AM,C9]
 | x::l=>by
  have h:=P8 l
  have hx:(x.2.1.1.length:Int)<=(wTp x:Int):=by unfold wTp Ew Il; omega
  have hs:C9 (x::l)=wTp x+C9 l:=by unfold C9; rw [map_cons,sum_cons]
  rw [AM,hs,List.length_cons]
  unfold AR at h ⊢
  push_cast
  omega
theorem KU : ∀ l:List Fa,AM Bl l<=3*(l.length:Int)+6*(Cj l:Int)
 | []=>by simp [AM,Cj]
 | x::l=>by
  have h:=KU l
  have hx:(x.2.2.1.1.length:Int)+(x.2.2.2.1.1.length:Int)+(x.2.2.2.2.1.length:Int)<=(wFa x:Int):=by unfold wFa Ew Fp Il Kc J6; push_cast; omega
  have hs:Cj (x::l)=wFa x+Cj l:=by unfold Cj; rw [map_cons,sum_cons]
  rw [AM,hs,List.length_cons]
  unfold Bl at h ⊢
  push_cast
  omega
end Go.Proofs.YtdocpdfkeohkiaaGreatDoor.Den
