/- What functions of the program do, by the machine: Mf Fo1 Tn1 Af1 LAf. -/
import Derived.Test.YtdocpdfkeohkiaaGreatDoorDE
import Derived.KernelRfl
import Derived.Test.YtdocpdfkeohkiaaGreatDoorRows
namespace Go.Proofs.YtdocpdfkeohkiaaGreatDoor.Den
open Go.Proofs.Tryz
open List (all_eq_true append_nil drop drop_length drop_zero length_append length_singleton nil_append take take_length take_of_length_le take_zero)
open Nat (zero_add)
open Go.Proofs
set_option maxRecDepth 100000
def RX:Gm
 | [.agg [.ref 0 0 m],.i .i64 k],[.row false _ WCd l]=>.need (decide (m=l.length/\0<=k/\k+6*(l.length:Int)<=lim)) (.leaf (.i .i64 (k+6*(l.length:Int)),[some (.row false none WCd (A4 AE 6 k l.length))]))
 | _,_=>.no
def RV:Gm
 | [.agg [.ref 0 0 m],.i .i64 k],[.row false _ TCd l]=>.need (decide (m=l.length/\0<=k/\k+6*(l.length:Int)<=lim)) (.leaf (.i .i64 (k+6*(l.length:Int)),[some (.row false none TCd (A4 A7 6 k l.length))]))
 | _,_=>.no
def Oz (ws:List Wt) (v:List Ty) (b:List Nt):Int:=6*(ws.length:Int)+6*(v.length:Int)+3*(b.length:Int)
def mfW (k:Int) (ws:List Wt):List Wt:=A4 AE 6 k ws.length
def mfT (k:Int) (ws:List Wt) (v:List Ty):List Ty:=A4 A7 6 (k+6*(ws.length:Int)) v.length
def mfN (k:Int) (ws:List Wt) (v:List Ty) (b:List Nt):List Nt:=A4 AQ 3 (k+6*(ws.length:Int)+6*(v.length:Int)) b.length
def Xl:Gm
 | [.agg [.i .i64 _w,.s _p,.ref 0 0 m0,.ref 1 0 m1,.ref 2 0 m2,.i .i64 _t],.i .i64 k],[.row false _ WCd ws,.row false _ TCd v,.row false _ NTd b]=>.need (decide (m0=ws.length/\m1=v.length/\m2=b.length/\0<=k/\k+Oz ws v b<=lim)) (.leaf (.i .i64 (k+Oz ws v b),[some (.row false none WCd (mfW k ws)),some (.row false none TCd (mfT k ws v)),some (.row false none NTd (mfN k ws v b))]))
 | _,_=>.no
theorem RW (m:Nat) (k:Int) (o:Option Bool) (l:List Wt):Ax prog (Ab [(93,.own Gp)]) (Ab []) f57 [.agg [.ref 0 0 m],.j k] [.row false o WCd l] =
 ((ifT (decide (0+m<=l.length/\(0:Int)<=k/\k+(6:Int)*(↑m:Int)<=lim)) (some (V.j (k+(6:Int)*(↑m:Int)),[some (Blk.row false none WCd
 (Aj WCd.den++A4 AE (6:Int) k m++drop (0+m) l))]))):_):=by kernel_rfl
theorem Aed:Af prog 57 (Ent.own RX).F:=by
 refine Ae (kc func93 PJ KnowsL.nil).knows (Λ:=Ab []) func57 (c:=f57.body.getD .skip) (by kernel_rfl) fun vs bs r hq hv hb=>?_
 unfold Ent.F RX at hq
 dsimp only at hq
 split at hq
 ·rename_i m k o l
  obtain ⟨hc,hx⟩:=Ad hq
  obtain ⟨rfl,h0,hk⟩:=of_decide_eq_true hc
  refine ⟨Ak _,(RW _ k o l).trans (Eq.trans ?_ hx)⟩
  try dsimp only [shr]
  rw [Aa (dcT ⟨by omega,by omega,by omega⟩)]
  simp only [zero_add,nil_append,drop_length,append_nil,AN]
  try rfl
 ·cases hq
theorem RU (m:Nat) (k:Int) (o:Option Bool) (l:List Ty):Ax prog (Ab [(92,.own E0)]) (Ab []) f58 [.agg [.ref 0 0 m],.j k] [.row false o TCd l] =
 ((ifT (decide (0+m<=l.length/\(0:Int)<=k/\k+(6:Int)*(↑m:Int)<=lim)) (some (V.j (k+(6:Int)*(↑m:Int)),[some (Blk.row false none TCd
 (Aj TCd.den++A4 A7 (6:Int) k m++drop (0+m) l))]))):_):=by kernel_rfl
theorem Aec:Af prog 58 (Ent.own RV).F:=by
 refine Ae (kc func92 Lc KnowsL.nil).knows (Λ:=Ab []) func58 (c:=f58.body.getD .skip) (by kernel_rfl) fun vs bs r hq hv hb=>?_
 unfold Ent.F RV at hq
 dsimp only at hq
 split at hq
 ·rename_i m k o l
  obtain ⟨hc,hx⟩:=Ad hq
  obtain ⟨rfl,h0,hk⟩:=of_decide_eq_true hc
  refine ⟨Ak _,(RU _ k o l).trans (Eq.trans ?_ hx)⟩
  try dsimp only [shr]
  rw [Aa (dcT ⟨by omega,by omega,by omega⟩)]
  simp only [zero_add,nil_append,drop_length,append_nil,AN]
  try rfl
 ·cases hq
theorem U7 (w:Int) (p:List UInt8) (m0 m1 m2:Nat) (t k:Int) (o0 o1 o2:Option Bool) (ws:List Wt) (v:List Ty) (b:List Nt):Ax prog (Ab [(57,.own RX),(58,.own RV),(59,.own Gq)]) (Ab []) f16 [.agg [.j w,.s p,.ref 0 0 m0,.ref 1 0 m1,.ref 2 0 m2,.j t],.j k] [.row false o0 WCd ws,.row false o1 TCd v,.row false o2 NTd b] =
 ((ifT (decide (m0=ws.length/\(0:Int)<=k/\k+(6:Int)*(↑ws.length:Int)<=lim)) (ifT (decide (m1=v.length/\(0:Int)<=k+(6:Int)*(↑ws.length:Int)/\k +
 (6:Int)*(↑ws.length:Int)+(6:Int)*(↑v.length:Int)<=lim)) (ifT (decide (0+m2<=b.length/\(0:Int)<=k+(6:Int)*(↑ws.length:Int)+(6 :
 Int)*(↑v.length:Int)/\k+(6:Int)*(↑ws.length:Int)+(6:Int)*(↑v.length:Int)+(3:Int)*(↑m2:Int)<=lim)) (some (V.j (k+(6:Int) *
 (↑ws.length:Int)+(6:Int)*(↑v.length:Int)+(3:Int)*(↑m2:Int)),[some (Blk.row false none WCd (A4 AE (6:Int) k ws.length)),some (Blk.row false
 none TCd (A4 A7 (6:Int) (k+(6:Int)*(↑ws.length:Int)) v.length)),some (Blk.row false none NTd (Aj NTd.den++A4 AQ (3:Int) (k+(6 :
 Int)*(↑ws.length:Int)+(6:Int)*(↑v.length:Int)) m2++drop (0+m2) b))]))))):_):=by kernel_rfl
theorem Xk:Af prog 16 (Ent.own Xl).F:=by
 refine Ae (kc func57 Aed (kc func58 Aec (kc func59 PN KnowsL.nil))).knows (Λ:=Ab []) func16 (c:=f16.body.getD .skip) (by kernel_rfl) fun vs bs r hq hv hb=>?_
 unfold Ent.F Xl at hq
 dsimp only at hq
 split at hq
 ·rename_i w p m0 m1 m2 t k o0 ws o1 v o2 b
  obtain ⟨hc,hx⟩:=Ad hq
  obtain ⟨rfl,rfl,rfl,h0,hk⟩:=of_decide_eq_true hc
  refine ⟨Ak _,(U7 w p _ _ _ t k o0 o1 o2 ws v b).trans (Eq.trans ?_ hx)⟩
  try dsimp only [shr]
  unfold Oz at hk ⊢
  unfold mfW mfT mfN
  rw [Aa (dcT ⟨by first | rfl | trivial,by omega,by omega⟩),Aa (dcT ⟨by first | rfl | trivial,by omega,by omega⟩),Aa (dcT ⟨by omega,by omega,by omega⟩)]
  simp only [zero_add,nil_append,drop_length,append_nil,AN,Int.add_assoc]
  try rfl
 ·cases hq




def Dh (ts:List Tp) (fs:List Fa) (f:Fa):Bool:=D5 ts fs&&(f.2.2.2.2.1.isEmpty&&(f.2.2.2.2.2.1==0&&D5 ts (fs++[f])))
def afT (ts:List Tp) (fs:List Fa) (f:Fa):List Tp:=bif Dh ts fs f then ts else []
def afF (ts:List Tp) (fs:List Fa) (f:Fa):List Fa:=bif Dh ts fs f then fs++[f] else []
def QM (ts:List Tp) (fs:List Fa) (f:Fa):Bool:=(H0 ts fs&&H0 ts (fs++[f]))&&(BS f&&((decide (ts.length<=1000000000)&&ts.all BU)&&(decide (fs.length<=1000000000)&&fs.all BS)))
def afG:Gm
 | [.agg [.sl TPd ts,.sl FNd fs],.agg [.i .i64 w,.s p,.sl WCd ws,.sl TCd v,.sl NTd b,.i .i64 c]],[]=>.need (QM ts fs (w,p,(ws,()),(v,()),b,c,())) (.leaf (.tup [.agg [.ref 0 0 (afT ts fs (w,p,(ws,()),(v,()),b,c,())).length,.ref 1 0 (afF ts fs (w,p,(ws,()),(v,()),b,c,())).length],.b (Dh ts fs (w,p,(ws,()),(v,()),b,c,()))],[some (.drow TPd (afT ts fs (w,p,(ws,()),(v,()),b,c,())) none),some (.drow FNd (afF ts fs (w,p,(ws,()),(v,()),b,c,())) none)]))
 | _,_=>.no
theorem Yu (ts:List Tp) (fs:List Fa) (w:Int) (p:List UInt8) (ws:List Wt) (v:List Ty) (b:List Nt) (c:Int):Df prog (Ab [(47,.rd1 Ac4),(48,.rd1 Is),(49,.rd1 Eh)]) (Ab []) f12 [.agg [.sl TPd ts,.sl FNd fs],.agg [.j w,.s p,.sl WCd ws,.sl TCd v,.sl NTd b,.j c]] [] =
 ((ifT (H0 ts fs) (ifB (!D5 ts fs) (some (V.tup [V.agg [V.ref 0 0 0,V.ref 1 0 0],V.b false],[some (Blk.drow TPd (Aj TPd.den) none),some (Blk.drow FNd (Aj
 FNd.den) none)])) (ifB (decide ((↑b.length:Int)>(0:Int))) (some (V.tup [V.agg [V.ref 0 0 0,V.ref 1 0 0],V.b false],[some (Blk.drow TPd (Aj TPd.den) none),some
 (Blk.drow FNd (Aj FNd.den) none)])) (ifB (c != (0:Int)) (some (V.tup [V.agg [V.ref 0 0 0,V.ref 1 0 0],V.b false],[some (Blk.drow TPd (Aj TPd.den) none),some
 (Blk.drow FNd (Aj FNd.den) none)])) (ifT (decide (ts.length<=1000000000)&&ts.all BU&&(decide (fs.length<=1000000000)&&fs.all BS)) (ifT
 (Db ws v b) (ifT (decide (0=0/\fs.length=fs.length/\0=0/\1=1/\1=1/\0=(0 :
 Nat))&&(FNd.size.beq FNd.size&&[V.j w,V.s p,V.ref 400 0 ws.length,V.ref 401 0 v.length,V.ref 402 0 b.length,V.j c].all V.single&&(decide ((fs.length
 + 1)*104<=140737488355328)&&decide (fs.length+1<=maxI)))) (ifT (H0 (take ts.length (drop 0 ts)) (take
 (fs.length+1) (drop 0 ((fs++FNd.dflt::Aj FNd.den).set fs.length (w,p,(take ws.length (drop 0 ws),()),(take
 v.length (drop 0 v),()),take b.length (drop 0 b),c,()))))) (ifB (!D5 (take ts.length (drop 0 ts)) (take
 (fs.length+1) (drop 0 ((fs++FNd.dflt::Aj FNd.den).set fs.length (w,p,(take ws.length (drop 0 ws),()),(take
 v.length (drop 0 v),()),take b.length (drop 0 b),c,()))))) (some (V.tup [V.agg [V.ref 0 0 0,V.ref 1 0 0],V.b false],[some (Blk.drow
 TPd (Aj TPd.den) none),some (Blk.drow FNd (Aj FNd.den) none)])) (some (V.tup [V.agg [V.ref 0 0 ts.length,V.ref 1 0 (fs.length+1)],V.b true],[some
 (Blk.drow TPd ts none),some (Blk.drow FNd ((fs++FNd.dflt::Aj FNd.den).set fs.length (w,p,(take ws.length (drop 0 ws),()),(take v.length
 (drop 0 v),()),take b.length (drop 0 b),c,())) none)]))))))))))):_):=by kernel_rfl
theorem Yt (ts:List Tp) (fs:List Fa) (w:Int) (p:List UInt8) (ws:List Wt) (v:List Ty) (b:List Nt) (c:Int):Df prog (Ab [(39,.rd1 XU),(40,.rd1 Is),(41,.rd1 Eh)]) (Ab []) f9 [.agg [.sl TPd ts,.sl FNd fs],.agg [.j w,.s p,.sl WCd ws,.sl TCd v,.sl NTd b,.j c]] [] =
 ((ifT (H0 ts fs) (ifB (!Gt ts fs) (some (V.tup [V.agg [V.ref 0 0 0,V.ref 1 0 0],V.b false],[some (Blk.drow TPd (Aj TPd.den) none),some (Blk.drow FNd (Aj
 FNd.den) none)])) (ifB (decide ((↑b.length:Int)>(0:Int))) (some (V.tup [V.agg [V.ref 0 0 0,V.ref 1 0 0],V.b false],[some (Blk.drow TPd (Aj TPd.den) none),some
 (Blk.drow FNd (Aj FNd.den) none)])) (ifB (c != (0:Int)) (some (V.tup [V.agg [V.ref 0 0 0,V.ref 1 0 0],V.b false],[some (Blk.drow TPd (Aj TPd.den) none),some
 (Blk.drow FNd (Aj FNd.den) none)])) (ifT (decide (ts.length<=1000000000)&&ts.all BU&&(decide (fs.length<=1000000000)&&fs.all BS)) (ifT
 (Db ws v b) (ifT (decide (0=0/\fs.length=fs.length/\0=0/\1=1/\1=1/\0=(0 :
 Nat))&&(FNd.size.beq FNd.size&&[V.j w,V.s p,V.ref 400 0 ws.length,V.ref 401 0 v.length,V.ref 402 0 b.length,V.j c].all V.single&&(decide ((fs.length
 + 1)*104<=140737488355328)&&decide (fs.length+1<=maxI)))) (ifT (H0 (take ts.length (drop 0 ts)) (take
 (fs.length+1) (drop 0 ((fs++FNd.dflt::Aj FNd.den).set fs.length (w,p,(take ws.length (drop 0 ws),()),(take
 v.length (drop 0 v),()),take b.length (drop 0 b),c,()))))) (ifB (!Gt (take ts.length (drop 0 ts)) (take
 (fs.length+1) (drop 0 ((fs++FNd.dflt::Aj FNd.den).set fs.length (w,p,(take ws.length (drop 0 ws),()),(take
 v.length (drop 0 v),()),take b.length (drop 0 b),c,()))))) (some (V.tup [V.agg [V.ref 0 0 0,V.ref 1 0 0],V.b false],[some (Blk.drow
 TPd (Aj TPd.den) none),some (Blk.drow FNd (Aj FNd.den) none)])) (some (V.tup [V.agg [V.ref 0 0 ts.length,V.ref 1 0 (fs.length+1)],V.b true],[some
 (Blk.drow TPd ts none),some (Blk.drow FNd ((fs++FNd.dflt::Aj FNd.den).set fs.length (w,p,(take ws.length (drop 0 ws),()),(take v.length
 (drop 0 v),()),take b.length (drop 0 b),c,())) none)]))))))))))):_):=by kernel_rfl
theorem QL {ts:List Tp} {fs:List Fa} {f:Fa} (h:Dh ts fs f=false):afT ts fs f=[]/\afF ts fs f=[]:=by
 unfold afT afF
 rw [h]; exact ⟨rfl,rfl⟩
theorem Ma {ts:List Tp} {fs:List Fa} {f:Fa} (h:Dh ts fs f=true):afT ts fs f=ts/\afF ts fs f=fs++[f]:=by
 unfold afT afF
 rw [h]; exact ⟨rfl,rfl⟩
theorem afi:Af prog 12 (Ent.rd1 afG).F:=by
 refine A8 (kc func47 Z4 (kc func48 Ab4 (kc func49 Nl KnowsL.nil))).knows (Λ:=Ab []) func12 (c:=f12.body.getD .skip) (by kernel_rfl) fun vs bs r hq hv hb=>?_
 unfold Ent.F afG at hq
 dsimp only at hq
 split at hq
 ·rename_i ts fs w p ws v b c
  obtain ⟨hc,hx⟩:=Ad hq
  unfold QM at hc
  rw [anE,anE,anE] at hc
  obtain ⟨⟨h1,h2⟩,h3,h4⟩:=hc
  have hM:maxI=9223372036854775807:=rfl
  have hl:fs.length<=1000000000:=by rw [anE,anE,anE] at h4; exact of_decide_eq_true h4.2.1
  have ht:take (fs.length+1) (fs++[((w,p,(ws,()),(v,()),b,c,()):Fa)])=fs++[(w,p,(ws,()),(v,()),b,c,())]:=take_of_length_le (by simp)
  have no : ∀ h:Dh ts fs (w,p,(ws,()),(v,()),b,c,())=false,some (V.tup [.agg [.ref 0 0 0,.ref 1 0 0],.b false],[some (.drow TPd (Aj _) none),some (.drow FNd (Aj _) none)])=some r:=fun h=>by
   obtain ⟨q1,q2⟩:=QL h
   rw [q1,q2,h] at hx
   exact hx
  refine ⟨Ak _,(Yu ts fs w p ws v b c).trans ?_⟩
  try dsimp only [shr]
  rw [Aa h1]
  cases hg:D5 ts fs
  ·exact no (by unfold Dh; rw [hg]; rfl)
  ·by_cases hb0:b=[]
   ·subst hb0
    by_cases hc0:c=0
    ·subst hc0
     rw [Bool.not_true,AS,Ac (by rfl),Ac (by rfl),Aa h4,Aa (show Db ws v []=true from h3),Aa (by
      simp only [anE,dcE]
      refine ⟨⟨by first | trivial | rfl,by first | trivial | rfl,by first | trivial | rfl,by first | trivial | rfl,by first | trivial | rfl,by first | trivial | rfl⟩,⟨by first | trivial | rfl,by first | trivial | rfl⟩,by omega,by omega⟩)]
     simp only [AN,drop_zero,take_length,Gj,ht]
     rw [Aa h2]
     cases hg2:D5 ts (fs++[(w,p,(ws,()),(v,()),[],0,())])
     ·exact no (by unfold Dh; rw [hg,hg2]; rfl)
     ·have e2:Dh ts fs (w,p,(ws,()),(v,()),[],0,())=true:=by unfold Dh; rw [hg,hg2]; rfl
      obtain ⟨q1,q2⟩:=Ma e2
      rw [q1,q2,e2,length_append,length_singleton] at hx
      exact hx
    ·rw [Bool.not_true,AS,Ac (by rfl),Ag (by simpa using hc0)]
     exact no (by unfold Dh; rw [hg,beq_eq_false_iff_ne.2 hc0]; simp)
   ·have hp:(b.length:Int)>0:=by have:=List.length_pos_iff.2 hb0; omega
    rw [Bool.not_true,AS,Ag (dcT hp)]
    exact no (by unfold Dh; rw [hg,show (((w,p,(ws,()),(v,()),b,c,()):Fa).2.2.2.2.1).isEmpty=false from by simpa using hb0]; rfl)
 ·cases hq
theorem afs:Af prog 9 (Ent.rd1 afG).F:=by
 refine A8 (kc func39 YJ (kc func40 Aby (kc func41 Th KnowsL.nil))).knows (Λ:=Ab []) func9 (c:=f9.body.getD .skip) (by kernel_rfl) fun vs bs r hq hv hb=>?_
 unfold Ent.F afG at hq
 dsimp only at hq
 split at hq
 ·rename_i ts fs w p ws v b c
  obtain ⟨hc,hx⟩:=Ad hq
  unfold QM at hc
  rw [anE,anE,anE] at hc
  obtain ⟨⟨h1,h2⟩,h3,h4⟩:=hc
  have hM:maxI=9223372036854775807:=rfl
  have hl:fs.length<=1000000000:=by rw [anE,anE,anE] at h4; exact of_decide_eq_true h4.2.1
  have ht:take (fs.length+1) (fs++[((w,p,(ws,()),(v,()),b,c,()):Fa)])=fs++[(w,p,(ws,()),(v,()),b,c,())]:=take_of_length_le (by simp)
  have no : ∀ h:Dh ts fs (w,p,(ws,()),(v,()),b,c,())=false,some (V.tup [.agg [.ref 0 0 0,.ref 1 0 0],.b false],[some (.drow TPd (Aj _) none),some (.drow FNd (Aj _) none)])=some r:=fun h=>by
   obtain ⟨q1,q2⟩:=QL h
   rw [q1,q2,h] at hx
   exact hx
  refine ⟨Ak _,(Yt ts fs w p ws v b c).trans ?_⟩
  try dsimp only [shr]
  rw [Aa h1,<-Nr]
  cases hg:D5 ts fs
  ·exact no (by unfold Dh; rw [hg]; rfl)
  ·by_cases hb0:b=[]
   ·subst hb0
    by_cases hc0:c=0
    ·subst hc0
     rw [Bool.not_true,AS,Ac (by rfl),Ac (by rfl),Aa h4,Aa (show Db ws v []=true from h3),Aa (by
      simp only [anE,dcE]
      refine ⟨⟨by first | trivial | rfl,by first | trivial | rfl,by first | trivial | rfl,by first | trivial | rfl,by first | trivial | rfl,by first | trivial | rfl⟩,⟨by first | trivial | rfl,by first | trivial | rfl⟩,by omega,by omega⟩)]
     simp only [AN,drop_zero,take_length,Gj,ht]
     rw [Aa h2,<-Nr]
     cases hg2:D5 ts (fs++[(w,p,(ws,()),(v,()),[],0,())])
     ·exact no (by unfold Dh; rw [hg,hg2]; rfl)
     ·have e2:Dh ts fs (w,p,(ws,()),(v,()),[],0,())=true:=by unfold Dh; rw [hg,hg2]; rfl
      obtain ⟨q1,q2⟩:=Ma e2
      rw [q1,q2,e2,length_append,length_singleton] at hx
      exact hx
    ·rw [Bool.not_true,AS,Ac (by rfl),Ag (by simpa using hc0)]
     exact no (by unfold Dh; rw [hg,beq_eq_false_iff_ne.2 hc0]; simp)
   ·have hp:(b.length:Int)>0:=by have:=List.length_pos_iff.2 hb0; omega
    rw [Bool.not_true,AS,Ag (dcT hp)]
    exact no (by unfold Dh; rw [hg,show (((w,p,(ws,()),(v,()),b,c,()):Fa).2.2.2.2.1).isEmpty=false from by simpa using hb0]; rfl)
 ·cases hq

abbrev Aac:FuncId->Option Ent:=Ab [(7,.rd1 Wm),(8,.rd1 Kv),(10,.rd1 Wf),(11,.rd1 Kp),(9,.rd1 afG),(12,.rd1 afG),(13,.rd1 Yf),(14,.rd1 LI),(15,.own Xo),(16,.own Xl),(17,.rd1 XR)]
theorem UE (ts:List Tp) (fs:List Fa) (w:Int) (p:List UInt8) (ws:List Wt) (v:List Ty) (b:List Nt) (c:Int):Ax prog Aac (Ab []) Tryz.f3 [.agg [.sl TPd ts,.sl FNd fs],.agg [.j w,.s p,.sl WCd ws,.sl TCd v,.sl NTd b,.j c]] [] =
 ((ifT (decide ((0:Int)<=(1048576:Int)/\(1048576:Int)<=(1048576:Int))&&Ou (ts,fs,())) (ifB (decide ((1048576:Int)-(↑(wBk (ts,fs,())):Int)<(0 :
 Int))) (some (V.b true,[])) (ifB (decide ((1048576:Int)-(↑(wBk (ts,fs,())):Int)<(0:Int))) (some (V.b true,[])) (ifT (decide ((0:Int)<=(1048576:Int) -
 (↑(wBk (ts,fs,())):Int)/\(1048576:Int)-(↑(wBk (ts,fs,())):Int)<=(1048576:Int))&&H8 (w,p,(ws,()),(v,()),b,c,())) (ifB (decide ((1048576:Int)
 - (↑(wBk (ts,fs,())):Int)-(↑(wFa (w,p,(ws,()),(v,()),b,c,())):Int)<(0:Int))) (some (V.b true,[])) (ifB (decide ((1048576:Int)-(↑(wBk (ts,fs,
 ())):Int)-(↑(wFa (w,p,(ws,()),(v,()),b,c,())):Int)<(0:Int))) (some (V.b true,[])) (ifT (decide (ts.length<=1000000000)&&ts.all BU&&
 (decide (fs.length<=1000000000)&&fs.all BS)) (ifT (decide (ws.length<=1000000000)&&(decide (v.length<=1000000000)&&decide (b.length<=
 1000000000))) (ifT (QM (take ts.length (drop 0 ts)) (take fs.length (drop 0 fs)) (w,p,(take ws.length (drop (0 :
 Nat) ws),()),(take v.length (drop 0 v),()),take b.length (drop 0 b),c,())) (ifT (decide (ts.length<=1000000000)&&
 ts.all BU&&(decide (fs.length<=1000000000)&&fs.all BS)) (ifT (decide (ws.length<=1000000000)&&(decide (v.length<=1000000000)&&
 decide (b.length<=1000000000))) (ifT (QM (take ts.length (drop 0 ts)) (take fs.length (drop 0 fs)) (w,p,(take
 ws.length (drop 0 ws),()),(take v.length (drop 0 v),()),take b.length (drop 0 b),c,())) (ifT (GR (take (afT
 (take ts.length (drop 0 ts)) (take fs.length (drop 0 fs)) (w,p,(take ws.length (drop 0 ws),()),(take
 v.length (drop 0 v),()),take b.length (drop 0 b),c,())).length (drop 0 (afT (take ts.length (drop 0 ts))
 (take fs.length (drop 0 fs)) (w,p,(take ws.length (drop 0 ws),()),(take v.length (drop 0 v),()),take
 b.length (drop 0 b),c,()))),take (afF (take ts.length (drop 0 ts)) (take fs.length (drop 0 fs)) (w,p,(take
 ws.length (drop 0 ws),()),(take v.length (drop 0 v),()),take b.length (drop 0 b),c,())).length (drop 0
 (afF (take ts.length (drop 0 ts)) (take fs.length (drop 0 fs)) (w,p,(take ws.length (drop 0 ws),()),(take
 v.length (drop 0 v),()),take b.length (drop 0 b),c,()))),())) (ifB (!Q0 (take (afT (take ts.length (drop 0
 ts)) (take fs.length (drop 0 fs)) (w,p,(take ws.length (drop 0 ws),()),(take v.length (drop 0 v),()),take
 b.length (drop 0 b),c,())).length (drop 0 (afT (take ts.length (drop 0 ts)) (take fs.length (drop 0 fs))
 (w,p,(take ws.length (drop 0 ws),()),(take v.length (drop 0 v),()),take b.length (drop 0 b),c,()))),
 take (afF (take ts.length (drop 0 ts)) (take fs.length (drop 0 fs)) (w,p,(take ws.length (drop 0 ws),()),
 (take v.length (drop 0 v),()),take b.length (drop 0 b),c,())).length (drop 0 (afF (take ts.length (drop (0
 : Nat) ts)) (take fs.length (drop 0 fs)) (w,p,(take ws.length (drop 0 ws),()),(take v.length (drop 0 v),()),
 take b.length (drop 0 b),c,()))),()) (take (afT (take ts.length (drop 0 ts)) (take fs.length (drop 0 fs))
 (w,p,(take ws.length (drop 0 ws),()),(take v.length (drop 0 v),()),take b.length (drop 0 b),c,())).length
 (drop 0 (afT (take ts.length (drop 0 ts)) (take fs.length (drop 0 fs)) (w,p,(take ws.length (drop 0
 ws),()),(take v.length (drop 0 v),()),take b.length (drop 0 b),c,()))),take (afF (take ts.length (drop 0
 ts)) (take fs.length (drop 0 fs)) (w,p,(take ws.length (drop 0 ws),()),(take v.length (drop 0 v),()),take
 b.length (drop 0 b),c,())).length (drop 0 (afF (take ts.length (drop 0 ts)) (take fs.length (drop 0 fs))
 (w,p,(take ws.length (drop 0 ws),()),(take v.length (drop 0 v),()),take b.length (drop 0 b),c,()))),()))
 (some (V.b false,[])) (ifB (!Dh (take ts.length (drop 0 ts)) (take fs.length (drop 0 fs)) (w,p,(take ws.length (drop (0
 : Nat) ws),()),(take v.length (drop 0 v),()),take b.length (drop 0 b),c,())==Dh (take ts.length (drop 0
 ts)) (take fs.length (drop 0 fs)) (w,p,(take ws.length (drop 0 ws),()),(take v.length (drop 0 v),()),take
 b.length (drop 0 b),c,())) (some (V.b false,[])) (ifT (decide (ts.length<=1000000000)&&ts.all BU&&(decide (fs.length<=1000000000)
 && fs.all BS)) (ifT (GR (take ts.length (drop 0 ts),take fs.length (drop 0 fs),())) (ifB (!Q0 (take ts.length
 (drop 0 ts),take fs.length (drop 0 fs),()) (take ts.length (drop 0 ts),take fs.length (drop 0 fs),
 ())) (some (V.b false,[])) (ifT (decide (ws.length<=1000000000)&&(decide (v.length<=1000000000)&&decide (b.length<=1000000000))) (ifT
 (Ek (w,p,(take ws.length (drop 0 ws),()),(take v.length (drop 0 v),()),take b.length (drop 0 b),c,()))
 (ifB (!FX (w,p,(take ws.length (drop 0 ws),()),(take v.length (drop 0 v),()),take b.length (drop 0 b),c,
 ()) (w,p,(take ws.length (drop 0 ws),()),(take v.length (drop 0 v),()),take b.length (drop 0 b),c,())) (some
 (V.b false,[])) (ifT (decide (ts.length=ts.length/\fs.length=fs.length/\(0:Int)<=(1:Int)/\(1:Int)+CC ts fs<=lim)) (ifT (decide (ws.length=ws.length
 /\ v.length=v.length/\b.length=b.length/\(0:Int)<=(1:Int)+CC ts fs/\(1:Int)+CC ts fs+Oz ws v b<=lim)) (ifB (decide ((1:Int)+CC ts fs +
 Oz ws v b<(0:Int))) (some (V.b false,[])) (ifT (GR (take (afT (take ts.length (drop 0 ts)) (take fs.length (drop 0 fs))
 (w,p,(take ws.length (drop 0 ws),()),(take v.length (drop 0 v),()),take b.length (drop 0 b),c,())).length
 (drop 0 (afT (take ts.length (drop 0 ts)) (take fs.length (drop 0 fs)) (w,p,(take ws.length (drop 0
 ws),()),(take v.length (drop 0 v),()),take b.length (drop 0 b),c,()))),take (afF (take ts.length (drop 0
 ts)) (take fs.length (drop 0 fs)) (w,p,(take ws.length (drop 0 ws),()),(take v.length (drop 0 v),()),take
 b.length (drop 0 b),c,())).length (drop 0 (afF (take ts.length (drop 0 ts)) (take fs.length (drop 0 fs))
 (w,p,(take ws.length (drop 0 ws),()),(take v.length (drop 0 v),()),take b.length (drop 0 b),c,()))),()))
 (ifB (!Q0 (take (afT (take ts.length (drop 0 ts)) (take fs.length (drop 0 fs)) (w,p,(take ws.length (drop 0
 ws),()),(take v.length (drop 0 v),()),take b.length (drop 0 b),c,())).length (drop 0 (afT (take ts.length
 (drop 0 ts)) (take fs.length (drop 0 fs)) (w,p,(take ws.length (drop 0 ws),()),(take v.length (drop (0 :
 Nat) v),()),take b.length (drop 0 b),c,()))),take (afF (take ts.length (drop 0 ts)) (take fs.length (drop (0 :
 Nat) fs)) (w,p,(take ws.length (drop 0 ws),()),(take v.length (drop 0 v),()),take b.length (drop 0 b),c,
 ())).length (drop 0 (afF (take ts.length (drop 0 ts)) (take fs.length (drop 0 fs)) (w,p,(take ws.length (drop
 0 ws),()),(take v.length (drop 0 v),()),take b.length (drop 0 b),c,()))),()) (take (afT (take ts.length
 (drop 0 ts)) (take fs.length (drop 0 fs)) (w,p,(take ws.length (drop 0 ws),()),(take v.length (drop (0 :
 Nat) v),()),take b.length (drop 0 b),c,())).length (drop 0 (afT (take ts.length (drop 0 ts)) (take fs.length
 (drop 0 fs)) (w,p,(take ws.length (drop 0 ws),()),(take v.length (drop 0 v),()),take b.length (drop (0 :
 Nat) b),c,()))),take (afF (take ts.length (drop 0 ts)) (take fs.length (drop 0 fs)) (w,p,(take ws.length (drop (0
 : Nat) ws),()),(take v.length (drop 0 v),()),take b.length (drop 0 b),c,())).length (drop 0 (afF (take
 ts.length (drop 0 ts)) (take fs.length (drop 0 fs)) (w,p,(take ws.length (drop 0 ws),()),(take v.length
 (drop 0 v),()),take b.length (drop 0 b),c,()))),())) (some (V.b false,[])) (ifB (!Dh (take ts.length (drop 0 ts))
 (take fs.length (drop 0 fs)) (w,p,(take ws.length (drop 0 ws),()),(take v.length (drop 0 v),()),take
 b.length (drop 0 b),c,())==Dh (take ts.length (drop 0 ts)) (take fs.length (drop 0 fs)) (w,p,(take ws.length
 (drop 0 ws),()),(take v.length (drop 0 v),()),take b.length (drop 0 b),c,())) (some (V.b false,[])) (ifT (decide
 ((afT (take ts.length (drop 0 ts)) (take fs.length (drop 0 fs)) (w,p,(take ws.length (drop 0 ws),()),(take
 v.length (drop 0 v),()),take b.length (drop 0 b),c,())).length=(afT (take ts.length (drop 0 ts)) (take
 fs.length (drop 0 fs)) (w,p,(take ws.length (drop 0 ws),()),(take v.length (drop 0 v),()),take b.length
 (drop 0 b),c,())).length/\(afF (take ts.length (drop 0 ts)) (take fs.length (drop 0 fs)) (w,p,(take ws.length
 (drop 0 ws),()),(take v.length (drop 0 v),()),take b.length (drop 0 b),c,())).length=(afF (take ts.length
 (drop 0 ts)) (take fs.length (drop 0 fs)) (w,p,(take ws.length (drop 0 ws),()),(take v.length (drop (0 :
 Nat) v),()),take b.length (drop 0 b),c,())).length/\(0:Int)<=(1:Int)/\(1:Int)+CC (afT (take ts.length (drop 0 ts))
 (take fs.length (drop 0 fs)) (w,p,(take ws.length (drop 0 ws),()),(take v.length (drop 0 v),()),take
 b.length (drop 0 b),c,())) (afF (take ts.length (drop 0 ts)) (take fs.length (drop 0 fs)) (w,p,(take ws.length
 (drop 0 ws),()),(take v.length (drop 0 v),()),take b.length (drop 0 b),c,()))<=lim)) (ifT (decide ((take (afT
 (take ts.length (drop 0 ts)) (take fs.length (drop 0 fs)) (w,p,(take ws.length (drop 0 ws),()),(take
 v.length (drop 0 v),()),take b.length (drop 0 b),c,())).length (drop 0 (mkL D3 AR (1:Int) (afT (take ts.length
 (drop 0 ts)) (take fs.length (drop 0 fs)) (w,p,(take ws.length (drop 0 ws),()),(take v.length (drop (0 :
 Nat) v),()),take b.length (drop 0 b),c,()))))).length<=maxI/\(take (afF (take ts.length (drop 0 ts)) (take fs.length
 (drop 0 fs)) (w,p,(take ws.length (drop 0 ws),()),(take v.length (drop 0 v),()),take b.length (drop (0 :
 Nat) b),c,())).length (drop 0 (mkL D4 Bl ((1:Int)+AM AR (afT (take ts.length (drop 0 ts)) (take fs.length (drop (0
 : Nat) fs)) (w,p,(take ws.length (drop 0 ws),()),(take v.length (drop 0 v),()),take b.length (drop 0 b),c,
 ()))) (afF (take ts.length (drop 0 ts)) (take fs.length (drop 0 fs)) (w,p,(take ws.length (drop 0 ws),()),
 (take v.length (drop 0 v),()),take b.length (drop 0 b),c,()))))).length<=maxI/\(0:Int)<=(1:Int)/\(1:Int)+CC
 (take (afT (take ts.length (drop 0 ts)) (take fs.length (drop 0 fs)) (w,p,(take ws.length (drop 0 ws),()),
 (take v.length (drop 0 v),()),take b.length (drop 0 b),c,())).length (drop 0 (mkL D3 AR (1:Int) (afT (take
 ts.length (drop 0 ts)) (take fs.length (drop 0 fs)) (w,p,(take ws.length (drop 0 ws),()),(take v.length
 (drop 0 v),()),take b.length (drop 0 b),c,()))))) (take (afF (take ts.length (drop 0 ts)) (take fs.length
 (drop 0 fs)) (w,p,(take ws.length (drop 0 ws),()),(take v.length (drop 0 v),()),take b.length (drop (0 :
 Nat) b),c,())).length (drop 0 (mkL D4 Bl ((1:Int)+AM AR (afT (take ts.length (drop 0 ts)) (take fs.length (drop (0
 : Nat) fs)) (w,p,(take ws.length (drop 0 ws),()),(take v.length (drop 0 v),()),take b.length (drop 0 b),c,
 ()))) (afF (take ts.length (drop 0 ts)) (take fs.length (drop 0 fs)) (w,p,(take ws.length (drop 0 ws),()),
 (take v.length (drop 0 v),()),take b.length (drop 0 b),c,())))))<=lim)) (ifB (Va (1:Int) (take (afT (take ts.length
 (drop 0 ts)) (take fs.length (drop 0 fs)) (w,p,(take ws.length (drop 0 ws),()),(take v.length (drop (0 :
 Nat) v),()),take b.length (drop 0 b),c,())).length (drop 0 (mkL D3 AR (1:Int) (afT (take ts.length (drop 0 ts))
 (take fs.length (drop 0 fs)) (w,p,(take ws.length (drop 0 ws),()),(take v.length (drop 0 v),()),take
 b.length (drop 0 b),c,()))))) (take (afF (take ts.length (drop 0 ts)) (take fs.length (drop 0 fs)) (w,p,
 (take ws.length (drop 0 ws),()),(take v.length (drop 0 v),()),take b.length (drop 0 b),c,())).length
 (drop 0 (mkL D4 Bl ((1:Int)+AM AR (afT (take ts.length (drop 0 ts)) (take fs.length (drop 0 fs)) (w,p,
 (take ws.length (drop 0 ws),()),(take v.length (drop 0 v),()),take b.length (drop 0 b),c,()))) (afF (take
 ts.length (drop 0 ts)) (take fs.length (drop 0 fs)) (w,p,(take ws.length (drop 0 ws),()),(take v.length
 (drop 0 v),()),take b.length (drop 0 b),c,())))))) (ifB (decide ((1:Int)+CC (take (afT (take ts.length (drop (0 :
 Nat) ts)) (take fs.length (drop 0 fs)) (w,p,(take ws.length (drop 0 ws),()),(take v.length (drop 0 v),()),
 take b.length (drop 0 b),c,())).length (drop 0 (mkL D3 AR (1:Int) (afT (take ts.length (drop 0 ts)) (take
 fs.length (drop 0 fs)) (w,p,(take ws.length (drop 0 ws),()),(take v.length (drop 0 v),()),take b.length
 (drop 0 b),c,()))))) (take (afF (take ts.length (drop 0 ts)) (take fs.length (drop 0 fs)) (w,p,(take
 ws.length (drop 0 ws),()),(take v.length (drop 0 v),()),take b.length (drop 0 b),c,())).length (drop 0
 (mkL D4 Bl ((1:Int)+AM AR (afT (take ts.length (drop 0 ts)) (take fs.length (drop 0 fs)) (w,p,(take ws.length
 (drop 0 ws),()),(take v.length (drop 0 v),()),take b.length (drop 0 b),c,()))) (afF (take ts.length (drop
 0 ts)) (take fs.length (drop 0 fs)) (w,p,(take ws.length (drop 0 ws),()),(take v.length (drop 0 v),()),
 take b.length (drop 0 b),c,())))))<(0:Int))) (some (V.b false,[])) (ifB ((1:Int)+CC (take (afT (take ts.length (drop (0 :
 Nat) ts)) (take fs.length (drop 0 fs)) (w,p,(take ws.length (drop 0 ws),()),(take v.length (drop 0 v),()),
 take b.length (drop 0 b),c,())).length (drop 0 (mkL D3 AR (1:Int) (afT (take ts.length (drop 0 ts)) (take
 fs.length (drop 0 fs)) (w,p,(take ws.length (drop 0 ws),()),(take v.length (drop 0 v),()),take b.length
 (drop 0 b),c,()))))) (take (afF (take ts.length (drop 0 ts)) (take fs.length (drop 0 fs)) (w,p,(take
 ws.length (drop 0 ws),()),(take v.length (drop 0 v),()),take b.length (drop 0 b),c,())).length (drop 0
 (mkL D4 Bl ((1:Int)+AM AR (afT (take ts.length (drop 0 ts)) (take fs.length (drop 0 fs)) (w,p,(take ws.length
 (drop 0 ws),()),(take v.length (drop 0 v),()),take b.length (drop 0 b),c,()))) (afF (take ts.length (drop
 0 ts)) (take fs.length (drop 0 fs)) (w,p,(take ws.length (drop 0 ws),()),(take v.length (drop 0 v),()),
 take b.length (drop 0 b),c,()))))) != (1:Int)+CC (afT (take ts.length (drop 0 ts)) (take fs.length (drop 0
 fs)) (w,p,(take ws.length (drop 0 ws),()),(take v.length (drop 0 v),()),take b.length (drop 0 b),c,())) (afF
 (take ts.length (drop 0 ts)) (take fs.length (drop 0 fs)) (w,p,(take ws.length (drop 0 ws),()),(take
 v.length (drop 0 v),()),take b.length (drop 0 b),c,()))) (some (V.b false,[])) (ifT (decide (ts.length<=1000000000)&&ts.all
 BU&&(decide (fs.length<=1000000000)&&fs.all BS)) (ifT (decide (ws.length<=1000000000)&&(decide (v.length<=1000000000)&&decide
 (b.length<=1000000000))) (ifT (QM (take ts.length (drop 0 ts)) (take fs.length (drop 0 fs)) (w,p,(take ws.length
 (drop 0 ws),()),(take v.length (drop 0 v),()),take b.length (drop 0 b),c,())) (ifT (GR (take (afT
 (take ts.length (drop 0 ts)) (take fs.length (drop 0 fs)) (w,p,(take ws.length (drop 0 ws),()),(take
 v.length (drop 0 v),()),take b.length (drop 0 b),c,())).length (drop 0 (afT (take ts.length (drop 0 ts))
 (take fs.length (drop 0 fs)) (w,p,(take ws.length (drop 0 ws),()),(take v.length (drop 0 v),()),take
 b.length (drop 0 b),c,()))),take (afF (take ts.length (drop 0 ts)) (take fs.length (drop 0 fs)) (w,p,(take
 ws.length (drop 0 ws),()),(take v.length (drop 0 v),()),take b.length (drop 0 b),c,())).length (drop 0
 (afF (take ts.length (drop 0 ts)) (take fs.length (drop 0 fs)) (w,p,(take ws.length (drop 0 ws),()),(take
 v.length (drop 0 v),()),take b.length (drop 0 b),c,()))),())) (ifB (!Q0 (take (afT (take ts.length (drop 0
 ts)) (take fs.length (drop 0 fs)) (w,p,(take ws.length (drop 0 ws),()),(take v.length (drop 0 v),()),take
 b.length (drop 0 b),c,())).length (drop 0 (afT (take ts.length (drop 0 ts)) (take fs.length (drop 0 fs))
 (w,p,(take ws.length (drop 0 ws),()),(take v.length (drop 0 v),()),take b.length (drop 0 b),c,()))),
 take (afF (take ts.length (drop 0 ts)) (take fs.length (drop 0 fs)) (w,p,(take ws.length (drop 0 ws),()),
 (take v.length (drop 0 v),()),take b.length (drop 0 b),c,())).length (drop 0 (afF (take ts.length (drop (0
 : Nat) ts)) (take fs.length (drop 0 fs)) (w,p,(take ws.length (drop 0 ws),()),(take v.length (drop 0 v),()),
 take b.length (drop 0 b),c,()))),()) (take (afT (take ts.length (drop 0 ts)) (take fs.length (drop 0 fs))
 (w,p,(take ws.length (drop 0 ws),()),(take v.length (drop 0 v),()),take b.length (drop 0 b),c,())).length
 (drop 0 (afT (take ts.length (drop 0 ts)) (take fs.length (drop 0 fs)) (w,p,(take ws.length (drop 0
 ws),()),(take v.length (drop 0 v),()),take b.length (drop 0 b),c,()))),take (afF (take ts.length (drop 0
 ts)) (take fs.length (drop 0 fs)) (w,p,(take ws.length (drop 0 ws),()),(take v.length (drop 0 v),()),take
 b.length (drop 0 b),c,())).length (drop 0 (afF (take ts.length (drop 0 ts)) (take fs.length (drop 0 fs))
 (w,p,(take ws.length (drop 0 ws),()),(take v.length (drop 0 v),()),take b.length (drop 0 b),c,()))),()))
 (some (V.b false,[])) (ifB (!Dh (take ts.length (drop 0 ts)) (take fs.length (drop 0 fs)) (w,p,(take ws.length (drop (0
 : Nat) ws),()),(take v.length (drop 0 v),()),take b.length (drop 0 b),c,())==Dh (take ts.length (drop 0
 ts)) (take fs.length (drop 0 fs)) (w,p,(take ws.length (drop 0 ws),()),(take v.length (drop 0 v),()),take
 b.length (drop 0 b),c,())) (some (V.b false,[])) (ifT (decide ((take (afT (take ts.length (drop 0 ts)) (take fs.length
 (drop 0 fs)) (w,p,(take ws.length (drop 0 ws),()),(take v.length (drop 0 v),()),take b.length (drop (0 :
 Nat) b),c,())).length (drop 0 (mkL D3 AR (1:Int) (afT (take ts.length (drop 0 ts)) (take fs.length (drop 0 fs))
 (w,p,(take ws.length (drop 0 ws),()),(take v.length (drop 0 v),()),take b.length (drop 0 b),c,()))))).length
 <= maxI/\(take (afF (take ts.length (drop 0 ts)) (take fs.length (drop 0 fs)) (w,p,(take ws.length (drop 0
 ws),()),(take v.length (drop 0 v),()),take b.length (drop 0 b),c,())).length (drop 0 (mkL D4 Bl ((1:Int) +
 AM AR (afT (take ts.length (drop 0 ts)) (take fs.length (drop 0 fs)) (w,p,(take ws.length (drop 0 ws),()),
 (take v.length (drop 0 v),()),take b.length (drop 0 b),c,()))) (afF (take ts.length (drop 0 ts)) (take
 fs.length (drop 0 fs)) (w,p,(take ws.length (drop 0 ws),()),(take v.length (drop 0 v),()),take b.length
 (drop 0 b),c,()))))).length<=maxI/\(0:Int)<=(1:Int)/\(1:Int)+CC (take (afT (take ts.length (drop 0 ts)) (take
 fs.length (drop 0 fs)) (w,p,(take ws.length (drop 0 ws),()),(take v.length (drop 0 v),()),take b.length
 (drop 0 b),c,())).length (drop 0 (mkL D3 AR (1:Int) (afT (take ts.length (drop 0 ts)) (take fs.length (drop
 0 fs)) (w,p,(take ws.length (drop 0 ws),()),(take v.length (drop 0 v),()),take b.length (drop 0 b),c,
 ()))))) (take (afF (take ts.length (drop 0 ts)) (take fs.length (drop 0 fs)) (w,p,(take ws.length (drop 0
 ws),()),(take v.length (drop 0 v),()),take b.length (drop 0 b),c,())).length (drop 0 (mkL D4 Bl ((1:Int) +
 AM AR (afT (take ts.length (drop 0 ts)) (take fs.length (drop 0 fs)) (w,p,(take ws.length (drop 0 ws),()),
 (take v.length (drop 0 v),()),take b.length (drop 0 b),c,()))) (afF (take ts.length (drop 0 ts)) (take
 fs.length (drop 0 fs)) (w,p,(take ws.length (drop 0 ws),()),(take v.length (drop 0 v),()),take b.length
 (drop 0 b),c,())))))<=lim)) (ifB (Va (1:Int) (take (afT (take ts.length (drop 0 ts)) (take fs.length (drop 0
 fs)) (w,p,(take ws.length (drop 0 ws),()),(take v.length (drop 0 v),()),take b.length (drop 0 b),c,
 ())).length (drop 0 (mkL D3 AR (1:Int) (afT (take ts.length (drop 0 ts)) (take fs.length (drop 0 fs)) (w,p,
 (take ws.length (drop 0 ws),()),(take v.length (drop 0 v),()),take b.length (drop 0 b),c,()))))) (take
 (afF (take ts.length (drop 0 ts)) (take fs.length (drop 0 fs)) (w,p,(take ws.length (drop 0 ws),()),(take
 v.length (drop 0 v),()),take b.length (drop 0 b),c,())).length (drop 0 (mkL D4 Bl ((1:Int)+AM AR (afT
 (take ts.length (drop 0 ts)) (take fs.length (drop 0 fs)) (w,p,(take ws.length (drop 0 ws),()),(take
 v.length (drop 0 v),()),take b.length (drop 0 b),c,()))) (afF (take ts.length (drop 0 ts)) (take fs.length
 (drop 0 fs)) (w,p,(take ws.length (drop 0 ws),()),(take v.length (drop 0 v),()),take b.length (drop (0 :
 Nat) b),c,())))))) (ifB (decide ((1:Int)+CC (take (afT (take ts.length (drop 0 ts)) (take fs.length (drop 0 fs)) (w,p,
 (take ws.length (drop 0 ws),()),(take v.length (drop 0 v),()),take b.length (drop 0 b),c,())).length
 (drop 0 (mkL D3 AR (1:Int) (afT (take ts.length (drop 0 ts)) (take fs.length (drop 0 fs)) (w,p,(take
 ws.length (drop 0 ws),()),(take v.length (drop 0 v),()),take b.length (drop 0 b),c,()))))) (take (afF
 (take ts.length (drop 0 ts)) (take fs.length (drop 0 fs)) (w,p,(take ws.length (drop 0 ws),()),(take
 v.length (drop 0 v),()),take b.length (drop 0 b),c,())).length (drop 0 (mkL D4 Bl ((1:Int)+AM AR (afT
 (take ts.length (drop 0 ts)) (take fs.length (drop 0 fs)) (w,p,(take ws.length (drop 0 ws),()),(take
 v.length (drop 0 v),()),take b.length (drop 0 b),c,()))) (afF (take ts.length (drop 0 ts)) (take fs.length
 (drop 0 fs)) (w,p,(take ws.length (drop 0 ws),()),(take v.length (drop 0 v),()),take b.length (drop (0 :
 Nat) b),c,())))))<(0:Int))) (some (V.b false,[])) (ifB ((1:Int)+CC (take (afT (take ts.length (drop 0 ts)) (take fs.length
 (drop 0 fs)) (w,p,(take ws.length (drop 0 ws),()),(take v.length (drop 0 v),()),take b.length (drop (0 :
 Nat) b),c,())).length (drop 0 (mkL D3 AR (1:Int) (afT (take ts.length (drop 0 ts)) (take fs.length (drop 0 fs))
 (w,p,(take ws.length (drop 0 ws),()),(take v.length (drop 0 v),()),take b.length (drop 0 b),c,())))))
 (take (afF (take ts.length (drop 0 ts)) (take fs.length (drop 0 fs)) (w,p,(take ws.length (drop 0 ws),()),
 (take v.length (drop 0 v),()),take b.length (drop 0 b),c,())).length (drop 0 (mkL D4 Bl ((1:Int)+AM AR
 (afT (take ts.length (drop 0 ts)) (take fs.length (drop 0 fs)) (w,p,(take ws.length (drop 0 ws),()),(take
 v.length (drop 0 v),()),take b.length (drop 0 b),c,()))) (afF (take ts.length (drop 0 ts)) (take fs.length
 (drop 0 fs)) (w,p,(take ws.length (drop 0 ws),()),(take v.length (drop 0 v),()),take b.length (drop (0 :
 Nat) b),c,()))))) != (1:Int)+CC (afT (take ts.length (drop 0 ts)) (take fs.length (drop 0 fs)) (w,p,(take ws.length
 (drop 0 ws),()),(take v.length (drop 0 v),()),take b.length (drop 0 b),c,())) (afF (take ts.length (drop
 0 ts)) (take fs.length (drop 0 fs)) (w,p,(take ws.length (drop 0 ws),()),(take v.length (drop 0 v),()),
 take b.length (drop 0 b),c,()))) (some (V.b false,[])) (some (V.b true,[])))) (some (V.b false,[])))))))))))) (some (V.b false,
 [])))))))))))))))))))))))))))))))):_):=by kernel_rfl
theorem Ts {ts:List Tp} {fs:List Fa} (hw:wBk (ts,fs,())<=1048576):CC ts fs<=20000000:=by
 have n1:=P8 ts
 have n2:=KU fs
 unfold wBk Hw Mc at hw
 dsimp only at hw
 unfold CC
 omega
theorem P7 {α:Type} {w:α->Int} {y:α} : ∀ l:List α,AM w (l++[y])=AM w l+AM w [y]
 | []=>by simp [AM]
 | x::l=>by
  have:=P7 (w:=w) (y:=y) l
  rw [List.cons_append,AM,AM,this]; omega
theorem Yv {ts:List Tp} {fs:List Fa} {f:Fa} (ho:Ou (ts,fs,())=true) (hf:H8 f=true) (hw:wBk (ts,fs,())+wFa f<=1048576):QM ts fs f=true/\GR (afT ts fs f,afF ts fs f,())=true/\(0<=CC (afT ts fs f) (afF ts fs f)/\CC (afT ts fs f) (afF ts fs f)<=100000000)/\(afT ts fs f).length<=1048576/\(afF ts fs f).length<=1048577:=by
 have hM:maxI=9223372036854775807:=rfl
 obtain ⟨b1,b2,h3⟩:=QE ho (by omega)
 obtain ⟨f1,f2,f3⟩:=LB hf (by omega)
 have l1:ts.length<=1048576/\fs.length<=1048576:=by unfold wBk Hw Mc at hw; dsimp only at hw; omega
 have p1:=Gl (afT ts fs f)
 have p2:=Gn (afF ts fs f)
 refine ⟨?_,?_,⟨by unfold CC; omega,?_⟩,?_⟩
 ·unfold QM
  rw [b1,h3,f3]
  have:H0 ts (fs++[f])=true:=by
   unfold H0 at b1 ⊢
   simp only [anE,dcE,List.all_append,length_append,length_singleton] at b1 ⊢
   exact ⟨⟨by omega,by omega⟩,b1.2.1,b1.2.2,by simp [f1]⟩
  rw [this]; rfl
 ·cases e:Dh ts fs f
  ·obtain ⟨q1,q2⟩:=QL e
   rw [q1,q2]; decide
  ·obtain ⟨q1,q2⟩:=Ma e
   rw [q1,q2]
   unfold GR at b2 ⊢
   simp only [anE,dcE,List.all_append,length_append,length_singleton] at b2 ⊢
   exact ⟨b2.1,by omega,b2.2.2,by simp [f2]⟩
 ·cases e:Dh ts fs f
  ·obtain ⟨q1,q2⟩:=QL e
   rw [q1,q2]; decide
  ·obtain ⟨q1,q2⟩:=Ma e
   have n1:=Ts (ts:=ts) (fs:=fs) (by omega)
   have n2:=KU [f]
   have n3:Cj [f]=wFa f:=by unfold Cj; simp
   rw [q1,q2]
   unfold CC at n1 ⊢
   rw [P7]
   rw [n3,length_singleton] at n2
   omega
 ·cases e:Dh ts fs f
  ·obtain ⟨q1,q2⟩:=QL e
   rw [q1,q2]; decide
  ·obtain ⟨q1,q2⟩:=Ma e
   rw [q1,q2,length_append,length_singleton]; omega
theorem law_knows:Knows prog Aac:=(kc func7 Wl (kc func8 Pg (kc func10 We (kc func11 Pe (kc func9 afs (kc func12 afi (kc func13 Ye (kc func14 Qz (kc func15 Xn (kc func16 Xk (kc func17 XQ KnowsL.nil))))))))))).knows
theorem law_fun (ts:List Tp) (fs:List Fa) (w:Int) (p:List UInt8) (ws:List Wt) (v:List Ty) (b:List Nt) (c:Int) (ho:Ou (ts,fs,())=true) (hf:H8 (w,p,(ws,()),(v,()),b,c,())=true):Ax prog Aac (Ab []) Tryz.f3 [.agg [.sl TPd ts,.sl FNd fs],.agg [.j w,.s p,.sl WCd ws,.sl TCd v,.sl NTd b,.j c]] []=some (.b true,[]):=by
 rw [UE,Aa (by rw [anE]; exact ⟨dcT ⟨by omega,by omega⟩,ho⟩)]
 try dsimp only [shr]
 by_cases q:1048576-(wBk (ts,fs,()):Int)<0
 ·rw [Ag (dcT q)]
 ·rw [Ac (dcF q),Ac (dcF q),Aa (by rw [anE]; exact ⟨dcT ⟨by omega,by omega⟩,hf⟩)]
  by_cases q2:1048576-(wBk (ts,fs,()):Int)-(wFa (w,p,(ws,()),(v,()),b,c,()):Int)<0
  ·rw [Ag (dcT q2)]
  ·have hM:maxI=9223372036854775807:=rfl
   have hw:wBk (ts,fs,())+wFa (w,p,(ws,()),(v,()),b,c,())<=1048576:=by omega
   obtain ⟨b1,b2,h3⟩:=QE ho (by omega)
   obtain ⟨f1,f2,f3⟩:=LB hf (by omega)
   have hf3:(decide (ws.length<=1000000000)&&(decide (v.length<=1000000000)&&decide (b.length<=1000000000)))=true:=f3
   obtain ⟨hnd,he,⟨k0,k1⟩,l1,l2⟩:=Yv ho hf hw
   have hk:=Ts (ts:=ts) (fs:=fs) (by omega)
   have k2:0<=CC ts fs:=by have:=Gl ts; have:=Gn fs; unfold CC; omega
   have k3:0<=Oz ws v b/\Oz ws v b<=100000000:=by
    unfold wFa Ew Fp Il Kc J6 at hw
    unfold Oz
    dsimp only at hw
    omega
   rw [Ac (dcF q2),Ac (dcF q2)]
   simp only [drop_zero,take_length]
   generalize hF0:((w,p,(ws,()),(v,()),b,c,()):Fa)=f at *
   have hT:take (afT ts fs f).length (mkL D3 AR 1 (afT ts fs f))=mkL D3 AR 1 (afT ts fs f):=take_of_length_le (by rw [JQ]; exact Nat.le_refl _)
   have hF:take (afF ts fs f).length (mkL D4 Bl (1+AM AR (afT ts fs f)) (afF ts fs f))=mkL D4 Bl (1+AM AR (afT ts fs f)) (afF ts fs f):=take_of_length_le (by rw [JQ]; exact Nat.le_refl _)
   have hK:=Zh 1 (1+AM AR (afT ts fs f)) (afT ts fs f) (afF ts fs f)
   have hH:=Z9 1 (afT ts fs f) (afF ts fs f)
   have hl:lim=1000000000000:=rfl
   simp only [hT,hF,hK,hH,JQ,Vu,N8,beq_self_eq_true,Bool.not_true,AS,Be,bne_self_eq_false]
   rw [Aa h3,Aa hf3,Aa hnd,Aa h3,Aa hf3,Aa hnd,Aa he,Aa h3,Aa b2,Aa hf3,Aa f2,Aa (dcT ⟨by first | rfl | trivial,by first | rfl | trivial,by first | omega | trivial,by omega⟩),Aa (dcT ⟨by first | rfl | trivial,by first | rfl | trivial,by first | rfl | trivial,by first | omega | trivial,by omega⟩),Ac (dcF (show ¬1+CC ts fs+Oz ws v b<0 by omega)),Aa he,Aa (dcT ⟨by first | rfl | trivial,by first | rfl | trivial,by first | omega | trivial,by omega⟩),Aa (dcT ⟨by omega,by first | omega | trivial,by first | omega | trivial,by omega⟩),Ac (dcF (show ¬1+CC (afT ts fs f) (afF ts fs f)<0 by omega)),Aa h3,Aa hf3,Aa hnd,Aa he,Aa (dcT ⟨by omega,by first | omega | trivial,by first | omega | trivial,by omega⟩),Ac (dcF (show ¬1+CC (afT ts fs f) (afF ts fs f)<0 by omega))]
theorem law_loops:Ar prog Aac (Ab []) 0 (Tryz.f3.body.getD .skip):=Ak _
theorem ok_of {z:(Cd.den (.pair (.slice TPd) (.pair (.slice FNd) .unit)))} (g:Ik (.pair (.slice TPd) (.pair (.slice FNd) .unit)) z):Ou (z.1,z.2.1,())=true:=by
 have hT : ∀ l:List Ty,Ik (.slice TCd) l->F5 l=true:=fun l h=>by
  unfold F5
  rw [anE,dcE,all_eq_true]
  refine ⟨h.1,fun x hx=>?_⟩
  unfold Or
  exact dcT (h.2 x hx).2.1
 have hW : ∀ l:List Wt,Ik (.slice WCd) l->GC l=true:=fun l h=>by
  unfold GC
  rw [anE,dcE,all_eq_true]
  refine ⟨h.1,fun x hx=>?_⟩
  unfold P4
  exact dcT (h.2 x hx).2.2.2.1
 have hN : ∀ l:List Nt,Ik (.slice NTd) l->GD l=true:=fun l h=>by
  unfold GD
  rw [anE,dcE,all_eq_true]
  refine ⟨h.1,fun x hx=>?_⟩
  unfold P5
  exact dcT ⟨(h.2 x hx).1,(h.2 x hx).2.2.1⟩
 unfold Ou Jh Ji
 simp only [anE,dcE,all_eq_true]
 refine ⟨⟨g.1.1,fun t ht=>?_⟩,g.2.1.1,fun f hf=>?_⟩
 ·have h:=g.1.2 t ht
  unfold Ot F6
  rw [anE,dcE]
  exact ⟨h.1,hT _ h.2.1.1⟩
 ·have h:=g.2.1.2 f hf
  unfold H8 KQ F6
  simp only [anE,dcE]
  exact ⟨h.2.1,hW _ h.2.2.1.1,hT _ h.2.2.2.1.1,hN _ h.2.2.2.2.1⟩
theorem ok_fa {z:(Cd.den FNd)} (g:Ik FNd z):H8 (z.1,z.2.1,(z.2.2.1.1,()),(z.2.2.2.1.1,()),z.2.2.2.2.1,z.2.2.2.2.2.1,())=true:=by
 unfold H8 KQ F6 GC F5 GD
 simp only [anE,dcE,all_eq_true]
 refine ⟨g.2.1,⟨g.2.2.1.1.1,fun x hx=>?_⟩,⟨g.2.2.2.1.1.1,fun x hx=>?_⟩,g.2.2.2.2.1.1,fun x hx=>?_⟩
 ·unfold P4; exact dcT (g.2.2.1.1.2 x hx).2.2.2.1
 ·unfold Or; exact dcT (g.2.2.2.1.1.2 x hx).2.1
 ·unfold P5; exact dcT ⟨(g.2.2.2.2.1.2 x hx).1,(g.2.2.2.2.1.2 x hx).2.2.1⟩
end Go.Proofs.YtdocpdfkeohkiaaGreatDoor.Den
