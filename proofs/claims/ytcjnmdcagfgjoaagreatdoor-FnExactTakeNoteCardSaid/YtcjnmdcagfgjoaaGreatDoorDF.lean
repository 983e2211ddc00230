/- What functions of the program do, by the machine: Nb2 Fo1 Tn1 LTn. -/
import Derived.Test.YtcjnmdcagfgjoaaGreatDoorDE
import Derived.KernelRfl
import Derived.Test.YtcjnmdcagfgjoaaGreatDoorRows
namespace Go.Proofs.YtcjnmdcagfgjoaaGreatDoor.Den
open Go.Proofs.Tryz
open List (all_eq_true drop drop_zero getElem_mem length_cons map_cons set_set sum_cons take take_length)
open Nat (zero_add)
open Go.Proofs
set_option maxRecDepth 100000
def CO (ts:List Tp) (fs:List Fa):Int:=AM AP ts+AM Bg fs
def Xk:Gm
 | [.agg [.ref 0 0 m,.ref 1 0 n],.i .i64 k],[.drow TPd ts none,.drow FNd fs none]=>.need (decide (m=ts.length/\n=fs.length/\0<=k/\k+CO ts fs<=lim)) (.leaf (.i .i64 (k+CO ts fs),[some (.drow TPd (mkL D2 AP k ts) none),some (.drow FNd (mkL D3 Bg (k+AM AP ts) fs) none)]))
 | _,_=>.no
def UR (k:Int) (ts:List Tp) (fs:List Fa):Bool:=hdL HN AP k ts&&hdL HO Bg (k+AM AP ts) fs
def XP:Gm
 | [.agg [.sl TPd ts,.sl FNd fs],.i .i64 k],[]=>.need (decide (ts.length<=maxI/\fs.length<=maxI/\0<=k/\k+CO ts fs<=lim)) (.br (UR k ts fs) (.leaf (.i .i64 (k+CO ts fs),[])) (.leaf (.i .i64 (-1),[])))
 | _,_=>.no
theorem JJ {α:Type} (w:α->Nat) : ∀ {l:List α} {x:α},x∈l->w x<=(l.map w).sum
 | y::l,x,h=>by
  rw [map_cons,sum_cons]
  rcases List.mem_cons.1 h with rfl | h
  ·omega
  ·have:=JJ w h; omega
theorem Aa1 {l:List Ty} (h:G6 l=true):nmL l=true:=by
 unfold nmL
 rw [all_eq_true]
 intro x hx
 have:=(In h).2 x hx
 unfold Pz at this
 exact this
theorem VM {t:Tp} (ho:On t=true) (hw:wTp t<=1048576):EF t=true/\E0 t=true/\BU t=true:=by
 have hM:maxI=9223372036854775807:=rfl
 unfold wTp E8 J4 at hw
 unfold On G7 at ho
 rw [anE,dcE] at ho
 have hn:=Aa1 ho.2
 unfold EF E0 FP BU
 simp only [anE,dcE]
 refine ⟨⟨by omega,by omega,hn⟩,by omega,by omega⟩
theorem Ab5 {b:List Nt} (hw:Kb b<=1048576):H3 b=true:=by
 unfold Kb Du at hw
 unfold H3
 rw [anE,dcE,all_eq_true]
 refine ⟨by omega,fun n hn=>?_⟩
 have:=JJ wNt hn
 unfold wNt at this hw
 exact dcT (by omega)
theorem XX {f:Fa} (ho:Oo f=true) (hw:wFa f<=1048576):J6 f=true/\Eh f=true/\BM f=true:=by
 have hM:maxI=9223372036854775807:=rfl
 unfold wFa E8 Fq at hw
 unfold Oo MM G7 at ho
 simp only [anE,dcE] at ho
 have hn:=Aa1 ho.2.2.1
 have hb:=Ab5 (b:=f.2.2.2.2.1) (by omega)
 unfold LV J4 Kb at hw
 unfold J6 Eh FP L6 BM
 simp only [anE,dcE]
 refine ⟨⟨⟨by omega,by omega⟩,hn,hb⟩,⟨by omega,by omega,by omega⟩,by omega,by omega,by omega⟩
theorem Q8 {ts:List Tp} {fs:List Fa} (ho:Oq (ts,fs,())=true) (hw:wBk (ts,fs,())<=1048576):NQ ts fs=true/\GL (ts,fs,())=true/\((decide (ts.length<=1000000000)&&ts.all BU)&&(decide (fs.length<=1000000000)&&fs.all BM))=true:=by
 have hM:maxI=9223372036854775807:=rfl
 unfold Oq at ho
 rw [anE] at ho
 obtain ⟨h1,h2⟩:=Io ho.1
 obtain ⟨h3,h4⟩:=Ip ho.2
 unfold wBk Hq LW at hw
 dsimp only at hw
 have a : ∀ t∈ts,EF t=true/\E0 t=true/\BU t=true:=fun t ht=>by
  have:=JJ wTp ht
  unfold CA at hw
  exact VM (h2 t ht) (by omega)
 have b : ∀ f∈fs,J6 f=true/\Eh f=true/\BM f=true:=fun f hf=>by
  have:=JJ wFa hf
  unfold CB at hw
  exact XX (h4 f hf) (by omega)
 unfold NQ GL
 simp only [anE,dcE,all_eq_true]
 exact ⟨⟨⟨by omega,by omega⟩,fun t ht=>(a t ht).1,fun f hf=>(b f hf).1⟩,⟨⟨by omega,fun t ht=>(a t ht).2.1⟩,by omega,fun f hf=>(b f hf).2.1⟩,⟨by omega,fun t ht=>(a t ht).2.2⟩,by omega,fun f hf=>(b f hf).2.2⟩
theorem N2 (x:Nt):EY x x=true:=by unfold EY; simp
theorem Ny (x:Ty):G1 x x=true:=by unfold G1; simp
theorem UZ (x:Wt):G0 x x=true:=by unfold G0; simp
theorem Ve (x:Tp):G2 x x=true:=by
 unfold G2 GM
 rw [DY fun y _=>Ny y]; simp
theorem Vk (x:Fa):G3 x x=true:=by
 unfold G3 N3 GM
 rw [DY fun y _=>Ny y,DY fun y _=>UZ y,DY fun y _=>N2 y]; simp
theorem Vm (ts:List Tp) (fs:List Fa):Qu (ts,fs,()) (ts,fs,())=true:=by
 unfold Qu
 rw [DY fun y _=>Ve y,DY fun y _=>Vk y]; rfl
theorem Uy (ts:List Tp) (fs:List Fa) (m n:Nat) (k:Int):Ax prog (Ab [(24,.own RN),(59,.own RP)]) (Ab []) f25 [.agg [.ref 0 0 m,.ref 1 0 n],.j k] [.drow TPd ts none,.drow FNd fs none] =
 ((ifT (decide (m=ts.length/\(0:Int)<=k/\k+AM AP ts<=lim)) (ifT (decide (n=fs.length/\(0:Int)<=k+AM AP ts/\k+AM AP ts+AM Bg fs<=lim))
 (some (V.j (k+AM AP ts+AM Bg fs),[some (Blk.drow TPd (mkL D2 AP k ts) none),some (Blk.drow FNd (mkL D3 Bg (k+AM AP ts) fs) none)])))):_):=by kernel_rfl
theorem UQ (ts:List Tp) (fs:List Fa) (k:Int):Ax prog (Ab [(60,.rd1 Sw),(61,.rd1 Sz)]) (Ab []) f26 [.agg [.sl TPd ts,.sl FNd fs],.j k] [] =
 ((ifT (decide (ts.length<=maxI/\(0:Int)<=k/\k+AM AP ts<=lim)) (ifB (hdL HN AP k ts) (ifB (decide (k+AM AP ts<(0:Int))) (some (V.j (-1),[]))
 (ifT (decide (fs.length<=maxI/\(0:Int)<=k+AM AP ts/\k+AM AP ts+AM Bg fs<=lim)) (ifB (hdL HO Bg (k+AM AP ts) fs) (ifB (decide (k+AM
 AP ts+AM Bg fs<(0:Int))) (some (V.j (-1),[])) (some (V.j (k+AM AP ts+AM Bg fs),[]))) (some (V.j (-1),[]))))) (some (V.i .i64
 (-1),[])))):_):=by kernel_rfl
theorem Gi (l:List Tp):0<=AM AP l:=DU F5 l
theorem Gj (l:List Fa):0<=AM Bg l:=DU F6 l
theorem Xj:Ag prog 25 (Ent.own Xk).F:=by
 refine Ae (kc func24 Aea (kc func59 Aeb KnowsL.nil)).knows (Λ:=Ab []) func25 (c:=f25.body.getD .skip) (by kernel_rfl) fun vs bs r hq hv hb=>?_
 unfold Ent.F Xk at hq
 dsimp only at hq
 split at hq
 ·rename_i m n k ts fs
  obtain ⟨hc,hx⟩:=Ad hq
  obtain ⟨rfl,rfl,h0,hk⟩:=of_decide_eq_true hc
  refine ⟨Ak _,(Uy ts fs _ _ k).trans (Eq.trans ?_ hx)⟩
  have:=Gi ts
  have:=Gj fs
  unfold CO at hk ⊢
  try dsimp only [shr]
  rw [Aa (dcT ⟨by first | rfl | trivial,by omega,by omega⟩),Aa (dcT ⟨by first | rfl | trivial,by omega,by omega⟩),Int.add_assoc]
  rfl
 ·cases hq
theorem XO:Ag prog 26 (Ent.rd1 XP).F:=by
 refine Ae (kc func60 Aew (kc func61 Aex KnowsL.nil)).knows (Λ:=Ab []) func26 (c:=f26.body.getD .skip) (by kernel_rfl) fun vs bs r hq hv hb=>?_
 unfold Ent.F XP at hq
 dsimp only at hq
 split at hq
 ·rename_i ts fs k
  obtain ⟨hc,hx⟩:=Ad hq
  obtain ⟨h1,h2,h0,hk⟩:=of_decide_eq_true hc
  refine ⟨Ak _,(UQ ts fs k).trans (Eq.trans ?_ hx)⟩
  have:=Gi ts
  have:=Gj fs
  unfold CO at hk ⊢
  unfold UR
  try dsimp only [shr]
  rw [Aa (dcT ⟨by omega,by omega,by omega⟩),Ac (dcF (show ¬k+AM AP ts<0 by omega)),Aa (dcT ⟨by omega,by omega,by omega⟩),Ac (dcF (show ¬k+AM AP ts+AM Bg fs<0 by omega)),Int.add_assoc]
  cases hdL HN AP k ts<;>cases hdL HO Bg (k+AM AP ts) fs<;>rfl
 ·cases hq
theorem Ot (k:Int) (t:Tp):AP (D2 k t)=AP t:=by unfold AP D2; rw [Cv]
theorem Z5 (k:Int) (t:Tp):HN k (D2 k t)=true:=by
 unfold HN D2 EU
 simp only [Cv,beq_self_eq_true,decide_true,Bool.and_true,Bool.true_and]
theorem Tf (k:Int) (t:Fa):Bg (D3 k t)=Bg t:=by unfold Bg D3; simp only [Cv]
theorem Z6 (k:Int) (t:Fa):HO k (D3 k t)=true:=by
 unfold HO D3 EU I3
 simp only [Cv,beq_self_eq_true,decide_true,Bool.and_true,Bool.true_and]
theorem JO {α:Type} {g:Int->α->α} {w:α->Int} (hw : ∀ k x,w (g k x)=w x) : ∀ (k:Int) (l:List α),AM w (mkL g w k l)=AM w l
 | _,[]=>rfl
 | k,x::l=>by simp only [mkL,AM,hw,JO hw]
theorem Sx {α:Type} {p:Int->α->Bool} {g:Int->α->α} {w:α->Int} (hp : ∀ k x,p k (g k x)=true) (hw : ∀ k x,w (g k x)=w x) : ∀ (k:Int) (l:List α),hdL p w k (mkL g w k l)=true
 | _,[]=>rfl
 | k,x::l=>by simp only [mkL,hdL,hp,hw,Sx hp hw,Bool.and_self]
theorem Z7 (k:Int) (ts:List Tp) (fs:List Fa):UR k (mkL D2 AP k ts) (mkL D3 Bg (k+AM AP ts) fs)=true:=by
 unfold UR
 rw [JO Ot,Sx Z5 Ot,Sx Z6 Tf]; rfl
theorem Zf (k j:Int) (ts:List Tp) (fs:List Fa):CO (mkL D2 AP k ts) (mkL D3 Bg j fs)=CO ts fs:=by
 unfold CO
 rw [JO Ot,JO Tf]
theorem P2 : ∀ l:List Tp,AM AP l<=2*(l.length:Int)+6*(CA l:Int)
 | []=>by simp [AM,CA]
 | x::l=>by
  have h:=P2 l
  have hx:(x.2.1.1.length:Int)<=(wTp x:Int):=by unfold wTp E8 J4; omega
  have hs:CA (x::l)=wTp x+CA l:=by unfold CA; rw [map_cons,sum_cons]
  rw [AM,hs,length_cons]
  unfold AP at h ⊢
  push_cast
  omega
theorem P3 : ∀ l:List Fa,AM Bg l<=3*(l.length:Int)+6*(CB l:Int)
 | []=>by simp [AM,CB]
 | x::l=>by
  have h:=P3 l
  have hx:(x.2.2.1.1.length:Int)+(x.2.2.2.1.1.length:Int)+(x.2.2.2.2.1.length:Int)<=(wFa x:Int):=by unfold wFa E8 Fq J4 LV Kb; push_cast; omega
  have hs:CB (x::l)=wFa x+CB l:=by unfold CB; rw [map_cons,sum_cons]
  rw [AM,hs,length_cons]
  unfold Bg at h ⊢
  push_cast
  omega
def JE (ts:List Tp) (fs:List Fa) (w:Int):Bool:=FO ts fs&&!decide (atW fs w<0)
def faZ:Fa:=(0,[],([],()),([],()),[],0,())
def foF (ts:List Tp) (fs:List Fa) (w:Int):Fa:=bif JE ts fs w then fs[(atW fs w).toNat]?.getD faZ else faZ
theorem SO {fs:List Fa} {w:Int} (h : ¬atW fs w<0) : ∃ i,∃ h:i<fs.length,atW fs w=(i:Int):=by
 obtain ⟨i,h1,h2,_⟩:=Ez (fun f:Fa=>f.1==w) fs 0 (by unfold atW at h; omega)
 exact ⟨i,h1,by unfold atW; rw [h2,zero_add]⟩
def ntZ:Nt:=([],0,[],())
def tlF (f:Fa):Fa:=(f.1,f.2.1,f.2.2.1,f.2.2.2.1,f.2.2.2.2.1.drop 1,f.2.2.2.2.2.1,())
def D0 (ts:List Tp) (fs:List Fa) (w:Int):Bool:=JE ts fs w&&!(foF ts fs w).2.2.2.2.1.isEmpty
def tnT (ts:List Tp) (fs:List Fa) (w:Int):List Tp:=bif D0 ts fs w then ts else []
def tnF (ts:List Tp) (fs:List Fa) (w:Int):List Fa:=bif D0 ts fs w then fs.set (atW fs w).toNat (tlF (foF ts fs w)) else []
def tnN (ts:List Tp) (fs:List Fa) (w:Int):Nt:=bif D0 ts fs w then (foF ts fs w).2.2.2.2.1[0]?.getD ntZ else ntZ
def Pa (ts:List Tp) (fs:List Fa):Bool:=NQ ts fs&&((decide (ts.length<=1000000000)&&ts.all BU)&&(decide (fs.length<=1000000000)&&fs.all BM))
def tnG:Gm
 | [.agg [.sl TPd ts,.sl FNd fs],.i .i64 w],[]=>.need (Pa ts fs) (.leaf (.tup [.agg [.ref 0 0 (tnT ts fs w).length,.ref 1 0 (tnF ts fs w).length],.agg [.s (tnN ts fs w).1,.i .i64 (tnN ts fs w).2.1,.s (tnN ts fs w).2.2.1],.b (D0 ts fs w)],[some (.drow TPd (tnT ts fs w) none),some (.drow FNd (tnF ts fs w) none)]))
 | _,_=>.no
theorem Wa (ts:List Tp) (fs:List Fa) (w:Int):De prog (Ab [(42,.rd1 ZH),(12,.rd1 Ac4),(55,.rd1 Im)]) (Ab []) f33 [.agg [.sl TPd ts,.sl FNd fs],.j w] [] =
 ((ifT (NQ ts fs) (ifB (!FO ts fs) (some (V.tup [V.agg [V.ref 0 0 0,V.ref 1 0 0],V.agg [V.s (Aj UInt8),V.j 0,V.s (Aj UInt8)],V.b false],[some (Blk.drow
 TPd (Aj TPd.den) none),some (Blk.drow FNd (Aj FNd.den) none)])) (ifB (decide (atW fs w<(0:Int))) (some (V.tup [V.agg [V.ref 0 0 0,V.ref 1 0 0],V.agg [V.s (Aj
 UInt8),V.j 0,V.s (Aj UInt8)],V.b false],[some (Blk.drow TPd (Aj TPd.den) none),some (Blk.drow FNd (Aj FNd.den) none)])) (ifT (decide ((0:Int)<=atW fs
 w)&&decide (atW fs w<(↑fs.length:Int))) (Ah fs[(atW fs w).toNat]? fun z=>ifB ((↑(List.length z.snd.snd.snd.snd.fst):Int)==(0:Int)) (some (V.tup [V.agg
 [V.ref 0 0 0,V.ref 1 0 0],V.agg [V.s (Aj UInt8),V.j 0,V.s (Aj UInt8)],V.b false],[some (Blk.drow TPd (Aj TPd.den) none),some (Blk.drow FNd (Aj
 FNd.den) none)])) (ifT (decide (ts.length<=1000000000)&&ts.all BU&&(decide (fs.length<=1000000000)&&fs.all BM)) (ifT (decide ((0:Int)<=
 atW fs w)&&decide (atW fs w<(↑fs.length:Int))) (Ah fs[0+(atW fs w).toNat]? fun z=>ifT (decide ((0:Int)<=(0:Int))&&decide ((0:Int) <
 (↑(List.length z.snd.snd.snd.snd.fst):Int))) (Ah z.snd.snd.snd.snd.fst[0]? fun z_1=>Ah (fs.set (0+(atW fs w).toNat) (z.fst,z.snd.fst,
 (z.snd.snd.fst.fst,()),(z.snd.snd.snd.fst.fst,()),take (List.length z.snd.snd.snd.snd.fst) (drop 0 z.snd.snd.snd.snd.fst),
 z.snd.snd.snd.snd.snd.fst,()))[0+(atW fs w).toNat]? fun z_2=>ifT (decide ((0:Int)<=(1:Int))&&decide ((1:Int)<=(↑(List.length
 z_2.snd.snd.snd.snd.fst):Int))) (ifT ((0+(atW fs w).toNat).beq (0+(atW fs w).toNat)) (some (V.tup [V.agg [V.ref 0 0 ts.length,V.ref 1 0 fs.length],
 V.agg [V.s z_1.fst,V.j z_1.snd.fst,V.s z_1.snd.snd.fst],V.b true],[some (Blk.drow TPd ts none),some (Blk.drow FNd ((fs.set (0+(atW fs w).toNat)
 (z.fst,z.snd.fst,(z.snd.snd.fst.fst,()),(z.snd.snd.snd.fst.fst,()),take (List.length z.snd.snd.snd.snd.fst) (drop 0 z.snd.snd.snd.snd.fst),
 z.snd.snd.snd.snd.snd.fst,())).set (0+(atW fs w).toNat) (z_2.fst,z_2.snd.fst,(z_2.snd.snd.fst.fst,()),(z_2.snd.snd.snd.fst.fst,()),take (List.length
 z_2.snd.snd.snd.snd.fst-1) (drop 1 z_2.snd.snd.snd.snd.fst),z_2.snd.snd.snd.snd.snd.fst,())) none)])))))))))))):_):=by kernel_rfl
theorem VZ (ts:List Tp) (fs:List Fa) (w:Int):De prog (Ab [(45,.rd1 Wk),(10,.rd1 XS),(51,.rd1 Im)]) (Ab []) f32 [.agg [.sl TPd ts,.sl FNd fs],.j w] [] =
 ((ifT (NQ ts fs) (ifB (!HT ts fs) (some (V.tup [V.agg [V.ref 0 0 0,V.ref 1 0 0],V.agg [V.s (Aj UInt8),V.j 0,V.s (Aj UInt8)],V.b false],[some (Blk.drow
 TPd (Aj TPd.den) none),some (Blk.drow FNd (Aj FNd.den) none)])) (ifB (decide (atW fs w<(0:Int))) (some (V.tup [V.agg [V.ref 0 0 0,V.ref 1 0 0],V.agg [V.s (Aj
 UInt8),V.j 0,V.s (Aj UInt8)],V.b false],[some (Blk.drow TPd (Aj TPd.den) none),some (Blk.drow FNd (Aj FNd.den) none)])) (ifT (decide ((0:Int)<=atW fs
 w)&&decide (atW fs w<(↑fs.length:Int))) (Ah fs[(atW fs w).toNat]? fun z=>ifB ((↑(List.length z.snd.snd.snd.snd.fst):Int)==(0:Int)) (some (V.tup [V.agg
 [V.ref 0 0 0,V.ref 1 0 0],V.agg [V.s (Aj UInt8),V.j 0,V.s (Aj UInt8)],V.b false],[some (Blk.drow TPd (Aj TPd.den) none),some (Blk.drow FNd (Aj
 FNd.den) none)])) (ifT (decide (ts.length<=1000000000)&&ts.all BU&&(decide (fs.length<=1000000000)&&fs.all BM)) (ifT (decide ((0:Int)<=
 atW fs w)&&decide (atW fs w<(↑fs.length:Int))) (Ah fs[0+(atW fs w).toNat]? fun z=>ifT (decide ((0:Int)<=(0:Int))&&decide ((0:Int) <
 (↑(List.length z.snd.snd.snd.snd.fst):Int))) (Ah z.snd.snd.snd.snd.fst[0]? fun z_1=>ifT (decide ((0:Int)<=atW fs w)&&decide (atW fs w<(↑fs.length :
 Int))) (Ah (fs.set (0+(atW fs w).toNat) (z.fst,z.snd.fst,(z.snd.snd.fst.fst,()),(z.snd.snd.snd.fst.fst,()),take (List.length
 z.snd.snd.snd.snd.fst) (drop 0 z.snd.snd.snd.snd.fst),z.snd.snd.snd.snd.snd.fst,()))[0+(atW fs w).toNat]? fun z_2=>ifT (decide ((0:Int)<=(1
 : Int))&&decide ((1:Int)<=(↑(List.length z_2.snd.snd.snd.snd.fst):Int))) (ifT (decide ((0+(take (List.length z_2.snd.snd.snd.snd.fst-1)
 (drop 1 z_2.snd.snd.snd.snd.fst)).length)*40<=140737488355328)&&decide (0+(take (List.length z_2.snd.snd.snd.snd.fst-(1
 : Nat)) (drop 1 z_2.snd.snd.snd.snd.fst)).length<=maxI)) (ifT (decide ((0:Int)<=atW fs w)&&decide (atW fs w<(↑fs.length:Int))) (ifT ((0 +
 (atW fs w).toNat).beq (0+(atW fs w).toNat)) (some (V.tup [V.agg [V.ref 0 0 ts.length,V.ref 1 0 fs.length],V.agg [V.s z_1.fst,V.j z_1.snd.fst,V.s
 z_1.snd.snd.fst],V.b true],[some (Blk.drow TPd ts none),some (Blk.drow FNd ((fs.set (0+(atW fs w).toNat) (z.fst,z.snd.fst,(z.snd.snd.fst.fst,()),
 (z.snd.snd.snd.fst.fst,()),take (List.length z.snd.snd.snd.snd.fst) (drop 0 z.snd.snd.snd.snd.fst),z.snd.snd.snd.snd.snd.fst,())).set (0 +
 (atW fs w).toNat) (z_2.fst,z_2.snd.fst,(z_2.snd.snd.fst.fst,()),(z_2.snd.snd.snd.fst.fst,()),take (0+(take (List.length z_2.snd.snd.snd.snd.fst
 - 1) (drop 1 z_2.snd.snd.snd.snd.fst)).length) (drop 0 (Aj NTd.den++take (List.length z_2.snd.snd.snd.snd.fst-1)
 (drop 1 z_2.snd.snd.snd.snd.fst))),z_2.snd.snd.snd.snd.snd.fst,())) none)]))))))))))))))):_):=by kernel_rfl
theorem My {ts:List Tp} {fs:List Fa} {w:Int} (h:D0 ts fs w=false):tnT ts fs w=[]/\tnF ts fs w=[]/\tnN ts fs w=ntZ:=by
 unfold tnT tnF tnN
 rw [h]; exact ⟨rfl,rfl,rfl⟩
theorem tni:Ag prog 33 (Ent.rd1 tnG).F:=by
 refine A6 (kc func42 Aet (kc func12 Z2 (kc func55 Ab4 KnowsL.nil))).knows (Λ:=Ab []) func33 (c:=f33.body.getD .skip) (by kernel_rfl) fun vs bs r hq hv hb=>?_
 unfold Ent.F tnG at hq
 dsimp only at hq
 split at hq
 ·rename_i ts fs w
  obtain ⟨hc,hx⟩:=Ad hq
  have hc':=hc
  unfold Pa at hc'
  rw [anE] at hc'
  obtain ⟨h2,h5⟩:=hc'
  have h6:=h5
  rw [anE,anE,anE] at h6
  have h3:=h6.2.2
  refine ⟨Ak _,(Wa ts fs w).trans (Eq.trans ?_ hx)⟩
  try dsimp only [shr]
  rw [Aa h2]
  cases hg:FO ts fs
  ·have e2:D0 ts fs w=false:=by unfold D0 JE; rw [hg]; rfl
   obtain ⟨q1,q2,q3⟩:=My e2
   rw [q1,q2,q3,e2]; rfl
  ·by_cases hw:atW fs w<0
   ·have e2:D0 ts fs w=false:=by unfold D0 JE; rw [hg,dcT hw]; rfl
    obtain ⟨q1,q2,q3⟩:=My e2
    rw [q1,q2,q3,e2,Bool.not_true,AS,Af (dcT hw)]; rfl
   ·obtain ⟨i,hi,e0⟩:=SO hw
    have e1:JE ts fs w=true:=by unfold JE; rw [hg,dcF hw]; rfl
    have ef:foF ts fs w=fs[i]:=by unfold foF; rw [e1,e0,ntN,gtE hi]; rfl
    have h4:=all_eq_true.1 h3 _ (getElem_mem hi)
    have hb:(decide ((0:Int)<=(i:Int))&&decide ((i:Int)<(fs.length:Int)))=true:=by simp only [anE,dcE]; omega
    rw [Bool.not_true,AS,Ac (dcF hw),e0]
    simp only [hb,Cn,zero_add,ntN,gtE hi,Am]
    unfold D0 tnT tnF tnN
    unfold D0
    rw [e1,ef,e0,ntN,Aa h5]
    generalize fs[i]=z at h4 ⊢
    obtain ⟨w0,p,⟨ws,⟨⟩⟩,⟨v,⟨⟩⟩,b,c,⟨⟩⟩:=z
    cases b with
    | nil=>rfl
    | cons n b=>
     unfold BM at h4
     simp only [anE,dcE,length_cons] at h4
     have hM:maxI=9223372036854775807:=rfl
     dsimp only
     simp only [drop_zero,take_length,List.getElem?_set_self hi,set_set,Am,hb,Cn]
     rw [Ac (by first | (simp; done) | (simp; omega))]
     rw [Aa (by first | (simp; done) | (simp; omega)),List.getElem?_cons_zero,Am,Aa (by first | (simp; done) | (simp; omega)),Aa (by simp)]
     simp only [length_cons,Nat.add_sub_cancel,List.drop_succ_cons,drop_zero,take_length,set_set,AQ,List.nil_append]
     first | rfl | (simp [tlF]; rfl) | simp [tlF]
 ·cases hq
theorem tns:Ag prog 32 (Ent.rd1 tnG).F:=by
 refine A6 (kc func45 Afe (kc func10 YH (kc func51 Aby KnowsL.nil))).knows (Λ:=Ab []) func32 (c:=f32.body.getD .skip) (by kernel_rfl) fun vs bs r hq hv hb=>?_
 unfold Ent.F tnG at hq
 dsimp only at hq
 split at hq
 ·rename_i ts fs w
  obtain ⟨hc,hx⟩:=Ad hq
  have hc':=hc
  unfold Pa at hc'
  rw [anE] at hc'
  obtain ⟨h2,h5⟩:=hc'
  have h6:=h5
  rw [anE,anE,anE] at h6
  have h3:=h6.2.2
  refine ⟨Ak _,(VZ ts fs w).trans (Eq.trans ?_ hx)⟩
  try dsimp only [shr]
  rw [Aa h2,<-UT]
  cases hg:FO ts fs
  ·have e2:D0 ts fs w=false:=by unfold D0 JE; rw [hg]; rfl
   obtain ⟨q1,q2,q3⟩:=My e2
   rw [q1,q2,q3,e2]; rfl
  ·by_cases hw:atW fs w<0
   ·have e2:D0 ts fs w=false:=by unfold D0 JE; rw [hg,dcT hw]; rfl
    obtain ⟨q1,q2,q3⟩:=My e2
    rw [q1,q2,q3,e2,Bool.not_true,AS,Af (dcT hw)]; rfl
   ·obtain ⟨i,hi,e0⟩:=SO hw
    have e1:JE ts fs w=true:=by unfold JE; rw [hg,dcF hw]; rfl
    have ef:foF ts fs w=fs[i]:=by unfold foF; rw [e1,e0,ntN,gtE hi]; rfl
    have h4:=all_eq_true.1 h3 _ (getElem_mem hi)
    have hb:(decide ((0:Int)<=(i:Int))&&decide ((i:Int)<(fs.length:Int)))=true:=by simp only [anE,dcE]; omega
    rw [Bool.not_true,AS,Ac (dcF hw),e0]
    simp only [hb,Cn,zero_add,ntN,gtE hi,Am]
    unfold D0 tnT tnF tnN
    unfold D0
    rw [e1,ef,e0,ntN,Aa h5]
    generalize fs[i]=z at h4 ⊢
    obtain ⟨w0,p,⟨ws,⟨⟩⟩,⟨v,⟨⟩⟩,b,c,⟨⟩⟩:=z
    cases b with
    | nil=>rfl
    | cons n b=>
     unfold BM at h4
     simp only [anE,dcE,length_cons] at h4
     have hM:maxI=9223372036854775807:=rfl
     dsimp only
     simp only [drop_zero,take_length,List.getElem?_set_self hi,set_set,Am,hb,Cn]
     rw [Ac (by first | (simp; done) | (simp; omega))]
     rw [Aa (by first | (simp; done) | (simp; omega)),List.getElem?_cons_zero,Am,Aa (by first | (simp; done) | (simp; omega)),Aa (by first | (simp; done) | (simp; omega)),Aa (by simp)]
     simp only [length_cons,Nat.add_sub_cancel,List.drop_succ_cons,drop_zero,take_length,set_set,AQ,List.nil_append]
     first | rfl | (simp [tlF]; rfl) | simp [tlF]
 ·cases hq

abbrev Aab:FuncId->Option Ent:=Ab [(9,.rd1 Wj),(11,.rd1 VY),(32,.rd1 tnG),(33,.rd1 tnG),(13,.rd1 Ye),(18,.rd1 LB),(25,.own Xk),(26,.rd1 XP)]
theorem U4 (ts:List Tp) (fs:List Fa) (w:Int):Ax prog Aab (Ab []) f7 [.agg [.sl TPd ts,.sl FNd fs],.j w] [] =
 ((ifT (decide ((0:Int)<=(1048576:Int)/\(1048576:Int)<=(1048576:Int))&&Oq (ts,fs,())) (ifB (decide ((1048576:Int)-(↑(wBk (ts,fs,())):Int)<(0 :
 Int))) (some (V.b true,[])) (ifB (decide ((1048576:Int)-(↑(wBk (ts,fs,())):Int)<(0:Int))) (some (V.b true,[])) (ifT (decide (ts.length<=1000000000)
 && ts.all BU&&(decide (fs.length<=1000000000)&&fs.all BM)) (ifT (Pa (take ts.length (drop 0 ts)) (take fs.length (drop (0
 : Nat) fs))) (ifT (decide (ts.length<=1000000000)&&ts.all BU&&(decide (fs.length<=1000000000)&&fs.all BM)) (ifT (Pa (take ts.length
 (drop 0 ts)) (take fs.length (drop 0 fs))) (ifT (GL (take (tnT (take ts.length (drop 0 ts)) (take fs.length
 (drop 0 fs)) w).length (drop 0 (tnT (take ts.length (drop 0 ts)) (take fs.length (drop 0 fs)) w)),take
 (tnF (take ts.length (drop 0 ts)) (take fs.length (drop 0 fs)) w).length (drop 0 (tnF (take ts.length (drop (0
 : Nat) ts)) (take fs.length (drop 0 fs)) w)),())) (ifB (!Qu (take (tnT (take ts.length (drop 0 ts)) (take fs.length
 (drop 0 fs)) w).length (drop 0 (tnT (take ts.length (drop 0 ts)) (take fs.length (drop 0 fs)) w)),take
 (tnF (take ts.length (drop 0 ts)) (take fs.length (drop 0 fs)) w).length (drop 0 (tnF (take ts.length (drop (0
 : Nat) ts)) (take fs.length (drop 0 fs)) w)),()) (take (tnT (take ts.length (drop 0 ts)) (take fs.length (drop (0 :
 Nat) fs)) w).length (drop 0 (tnT (take ts.length (drop 0 ts)) (take fs.length (drop 0 fs)) w)),take (tnF (take
 ts.length (drop 0 ts)) (take fs.length (drop 0 fs)) w).length (drop 0 (tnF (take ts.length (drop 0 ts))
 (take fs.length (drop 0 fs)) w)),())) (some (V.b false,[])) (ifB (!EY ((tnN (take ts.length (drop 0 ts)) (take fs.length
 (drop 0 fs)) w).fst,(tnN (take ts.length (drop 0 ts)) (take fs.length (drop 0 fs)) w).snd.fst,(tnN (take ts.length
 (drop 0 ts)) (take fs.length (drop 0 fs)) w).snd.snd.fst,()) ((tnN (take ts.length (drop 0 ts)) (take fs.length
 (drop 0 fs)) w).fst,(tnN (take ts.length (drop 0 ts)) (take fs.length (drop 0 fs)) w).snd.fst,(tnN (take ts.length
 (drop 0 ts)) (take fs.length (drop 0 fs)) w).snd.snd.fst,())) (some (V.b false,[])) (ifB (!D0 (take ts.length (drop 0
 ts)) (take fs.length (drop 0 fs)) w==D0 (take ts.length (drop 0 ts)) (take fs.length (drop 0 fs)) w) (some (V.b
 false,[])) (ifT (decide (ts.length<=1000000000)&&ts.all BU&&(decide (fs.length<=1000000000)&&fs.all BM)) (ifT (GL (take ts.length
 (drop 0 ts),take fs.length (drop 0 fs),())) (ifB (!Qu (take ts.length (drop 0 ts),take fs.length (drop (0
 : Nat) fs),()) (take ts.length (drop 0 ts),take fs.length (drop 0 fs),())) (some (V.b false,[])) (ifT (decide (ts.length =
 ts.length/\fs.length=fs.length/\(0:Int)<=(1:Int)/\(1:Int)+CO ts fs<=lim)) (ifB (decide ((1:Int)+CO ts fs<(0:Int))) (some (V.b false,[])) (ifT
 (GL (take (tnT (take ts.length (drop 0 ts)) (take fs.length (drop 0 fs)) w).length (drop 0 (tnT (take
 ts.length (drop 0 ts)) (take fs.length (drop 0 fs)) w)),take (tnF (take ts.length (drop 0 ts)) (take fs.length
 (drop 0 fs)) w).length (drop 0 (tnF (take ts.length (drop 0 ts)) (take fs.length (drop 0 fs)) w)),())) (ifB
 (!Qu (take (tnT (take ts.length (drop 0 ts)) (take fs.length (drop 0 fs)) w).length (drop 0 (tnT (take
 ts.length (drop 0 ts)) (take fs.length (drop 0 fs)) w)),take (tnF (take ts.length (drop 0 ts)) (take fs.length
 (drop 0 fs)) w).length (drop 0 (tnF (take ts.length (drop 0 ts)) (take fs.length (drop 0 fs)) w)),())
 (take (tnT (take ts.length (drop 0 ts)) (take fs.length (drop 0 fs)) w).length (drop 0 (tnT (take ts.length
 (drop 0 ts)) (take fs.length (drop 0 fs)) w)),take (tnF (take ts.length (drop 0 ts)) (take fs.length
 (drop 0 fs)) w).length (drop 0 (tnF (take ts.length (drop 0 ts)) (take fs.length (drop 0 fs)) w)),()))
 (some (V.b false,[])) (ifB (!EY ((tnN (take ts.length (drop 0 ts)) (take fs.length (drop 0 fs)) w).fst,(tnN (take ts.length
 (drop 0 ts)) (take fs.length (drop 0 fs)) w).snd.fst,(tnN (take ts.length (drop 0 ts)) (take fs.length (drop
 0 fs)) w).snd.snd.fst,()) ((tnN (take ts.length (drop 0 ts)) (take fs.length (drop 0 fs)) w).fst,(tnN (take ts.length
 (drop 0 ts)) (take fs.length (drop 0 fs)) w).snd.fst,(tnN (take ts.length (drop 0 ts)) (take fs.length (drop
 0 fs)) w).snd.snd.fst,())) (some (V.b false,[])) (ifB (!D0 (take ts.length (drop 0 ts)) (take fs.length (drop 0 fs)) w==
 D0 (take ts.length (drop 0 ts)) (take fs.length (drop 0 fs)) w) (some (V.b false,[])) (ifT (decide ((tnT (take ts.length
 (drop 0 ts)) (take fs.length (drop 0 fs)) w).length=(tnT (take ts.length (drop 0 ts)) (take fs.length (drop
 0 fs)) w).length/\(tnF (take ts.length (drop 0 ts)) (take fs.length (drop 0 fs)) w).length=(tnF (take ts.length
 (drop 0 ts)) (take fs.length (drop 0 fs)) w).length/\(0:Int)<=(1:Int)/\(1:Int)+CO (tnT (take ts.length (drop (0 :
 Nat) ts)) (take fs.length (drop 0 fs)) w) (tnF (take ts.length (drop 0 ts)) (take fs.length (drop 0 fs)) w)<=lim))
 (ifT (decide ((take (tnT (take ts.length (drop 0 ts)) (take fs.length (drop 0 fs)) w).length (drop 0 (mkL D2 AP
 (1:Int) (tnT (take ts.length (drop 0 ts)) (take fs.length (drop 0 fs)) w)))).length<=maxI/\(take (tnF (take ts.length
 (drop 0 ts)) (take fs.length (drop 0 fs)) w).length (drop 0 (mkL D3 Bg ((1:Int)+AM AP (tnT (take ts.length
 (drop 0 ts)) (take fs.length (drop 0 fs)) w)) (tnF (take ts.length (drop 0 ts)) (take fs.length (drop 0
 fs)) w)))).length<=maxI/\(0:Int)<=(1:Int)/\(1:Int)+CO (take (tnT (take ts.length (drop 0 ts)) (take fs.length (drop (0 :
 Nat) fs)) w).length (drop 0 (mkL D2 AP (1:Int) (tnT (take ts.length (drop 0 ts)) (take fs.length (drop 0 fs)) w))))
 (take (tnF (take ts.length (drop 0 ts)) (take fs.length (drop 0 fs)) w).length (drop 0 (mkL D3 Bg ((1:Int) +
 AM AP (tnT (take ts.length (drop 0 ts)) (take fs.length (drop 0 fs)) w)) (tnF (take ts.length (drop 0 ts))
 (take fs.length (drop 0 fs)) w))))<=lim)) (ifB (UR (1:Int) (take (tnT (take ts.length (drop 0 ts)) (take fs.length
 (drop 0 fs)) w).length (drop 0 (mkL D2 AP (1:Int) (tnT (take ts.length (drop 0 ts)) (take fs.length (drop (0 :
 Nat) fs)) w)))) (take (tnF (take ts.length (drop 0 ts)) (take fs.length (drop 0 fs)) w).length (drop 0 (mkL D3
 Bg ((1:Int)+AM AP (tnT (take ts.length (drop 0 ts)) (take fs.length (drop 0 fs)) w)) (tnF (take ts.length (drop (0
 : Nat) ts)) (take fs.length (drop 0 fs)) w))))) (ifB (decide ((1:Int)+CO (take (tnT (take ts.length (drop 0 ts)) (take
 fs.length (drop 0 fs)) w).length (drop 0 (mkL D2 AP (1:Int) (tnT (take ts.length (drop 0 ts)) (take fs.length
 (drop 0 fs)) w)))) (take (tnF (take ts.length (drop 0 ts)) (take fs.length (drop 0 fs)) w).length (drop (0 :
 Nat) (mkL D3 Bg ((1:Int)+AM AP (tnT (take ts.length (drop 0 ts)) (take fs.length (drop 0 fs)) w)) (tnF (take
 ts.length (drop 0 ts)) (take fs.length (drop 0 fs)) w))))<(0:Int))) (some (V.b false,[])) (ifB ((1:Int)+CO (take (tnT
 (take ts.length (drop 0 ts)) (take fs.length (drop 0 fs)) w).length (drop 0 (mkL D2 AP (1:Int) (tnT (take
 ts.length (drop 0 ts)) (take fs.length (drop 0 fs)) w)))) (take (tnF (take ts.length (drop 0 ts)) (take
 fs.length (drop 0 fs)) w).length (drop 0 (mkL D3 Bg ((1:Int)+AM AP (tnT (take ts.length (drop 0 ts)) (take
 fs.length (drop 0 fs)) w)) (tnF (take ts.length (drop 0 ts)) (take fs.length (drop 0 fs)) w)))) != (1:Int)+CO (tnT
 (take ts.length (drop 0 ts)) (take fs.length (drop 0 fs)) w) (tnF (take ts.length (drop 0 ts)) (take fs.length
 (drop 0 fs)) w)) (some (V.b false,[])) (ifT (decide (ts.length<=1000000000)&&ts.all BU&&(decide (fs.length<=1000000000)&&fs.all
 BM)) (ifT (Pa (take ts.length (drop 0 ts)) (take fs.length (drop 0 fs))) (ifT (GL (take (tnT (take ts.length
 (drop 0 ts)) (take fs.length (drop 0 fs)) w).length (drop 0 (tnT (take ts.length (drop 0 ts)) (take
 fs.length (drop 0 fs)) w)),take (tnF (take ts.length (drop 0 ts)) (take fs.length (drop 0 fs)) w).length (drop
 0 (tnF (take ts.length (drop 0 ts)) (take fs.length (drop 0 fs)) w)),())) (ifB (!Qu (take (tnT (take ts.length
 (drop 0 ts)) (take fs.length (drop 0 fs)) w).length (drop 0 (tnT (take ts.length (drop 0 ts)) (take
 fs.length (drop 0 fs)) w)),take (tnF (take ts.length (drop 0 ts)) (take fs.length (drop 0 fs)) w).length (drop
 0 (tnF (take ts.length (drop 0 ts)) (take fs.length (drop 0 fs)) w)),()) (take (tnT (take ts.length (drop (0 :
 Nat) ts)) (take fs.length (drop 0 fs)) w).length (drop 0 (tnT (take ts.length (drop 0 ts)) (take fs.length
 (drop 0 fs)) w)),take (tnF (take ts.length (drop 0 ts)) (take fs.length (drop 0 fs)) w).length (drop 0
 (tnF (take ts.length (drop 0 ts)) (take fs.length (drop 0 fs)) w)),())) (some (V.b false,[])) (ifB (!EY ((tnN (take ts.length
 (drop 0 ts)) (take fs.length (drop 0 fs)) w).fst,(tnN (take ts.length (drop 0 ts)) (take fs.length (drop (0 :
 Nat) fs)) w).snd.fst,(tnN (take ts.length (drop 0 ts)) (take fs.length (drop 0 fs)) w).snd.snd.fst,()) ((tnN (take ts.length
 (drop 0 ts)) (take fs.length (drop 0 fs)) w).fst,(tnN (take ts.length (drop 0 ts)) (take fs.length (drop (0 :
 Nat) fs)) w).snd.fst,(tnN (take ts.length (drop 0 ts)) (take fs.length (drop 0 fs)) w).snd.snd.fst,())) (some (V.b false,[])) (ifB
 (!D0 (take ts.length (drop 0 ts)) (take fs.length (drop 0 fs)) w==D0 (take ts.length (drop 0 ts)) (take
 fs.length (drop 0 fs)) w) (some (V.b false,[])) (ifT (decide ((take (tnT (take ts.length (drop 0 ts)) (take fs.length (drop
 0 fs)) w).length (drop 0 (mkL D2 AP (1:Int) (tnT (take ts.length (drop 0 ts)) (take fs.length (drop 0 fs))
 w)))).length<=maxI/\(take (tnF (take ts.length (drop 0 ts)) (take fs.length (drop 0 fs)) w).length (drop 0 (mkL
 D3 Bg ((1:Int)+AM AP (tnT (take ts.length (drop 0 ts)) (take fs.length (drop 0 fs)) w)) (tnF (take ts.length
 (drop 0 ts)) (take fs.length (drop 0 fs)) w)))).length<=maxI/\(0:Int)<=(1:Int)/\(1:Int)+CO (take (tnT (take
 ts.length (drop 0 ts)) (take fs.length (drop 0 fs)) w).length (drop 0 (mkL D2 AP (1:Int) (tnT (take ts.length
 (drop 0 ts)) (take fs.length (drop 0 fs)) w)))) (take (tnF (take ts.length (drop 0 ts)) (take fs.length
 (drop 0 fs)) w).length (drop 0 (mkL D3 Bg ((1:Int)+AM AP (tnT (take ts.length (drop 0 ts)) (take fs.length
 (drop 0 fs)) w)) (tnF (take ts.length (drop 0 ts)) (take fs.length (drop 0 fs)) w))))<=lim)) (ifB (UR (1:Int)
 (take (tnT (take ts.length (drop 0 ts)) (take fs.length (drop 0 fs)) w).length (drop 0 (mkL D2 AP (1:Int) (tnT
 (take ts.length (drop 0 ts)) (take fs.length (drop 0 fs)) w)))) (take (tnF (take ts.length (drop 0 ts))
 (take fs.length (drop 0 fs)) w).length (drop 0 (mkL D3 Bg ((1:Int)+AM AP (tnT (take ts.length (drop 0 ts))
 (take fs.length (drop 0 fs)) w)) (tnF (take ts.length (drop 0 ts)) (take fs.length (drop 0 fs)) w))))) (ifB (decide
 ((1:Int)+CO (take (tnT (take ts.length (drop 0 ts)) (take fs.length (drop 0 fs)) w).length (drop 0 (mkL D2
 AP (1:Int) (tnT (take ts.length (drop 0 ts)) (take fs.length (drop 0 fs)) w)))) (take (tnF (take ts.length (drop (0
 : Nat) ts)) (take fs.length (drop 0 fs)) w).length (drop 0 (mkL D3 Bg ((1:Int)+AM AP (tnT (take ts.length (drop (0 :
 Nat) ts)) (take fs.length (drop 0 fs)) w)) (tnF (take ts.length (drop 0 ts)) (take fs.length (drop 0 fs)) w))))<(0
 : Int))) (some (V.b false,[])) (ifB ((1:Int)+CO (take (tnT (take ts.length (drop 0 ts)) (take fs.length (drop 0 fs))
 w).length (drop 0 (mkL D2 AP (1:Int) (tnT (take ts.length (drop 0 ts)) (take fs.length (drop 0 fs)) w))))
 (take (tnF (take ts.length (drop 0 ts)) (take fs.length (drop 0 fs)) w).length (drop 0 (mkL D3 Bg ((1:Int) +
 AM AP (tnT (take ts.length (drop 0 ts)) (take fs.length (drop 0 fs)) w)) (tnF (take ts.length (drop 0 ts))
 (take fs.length (drop 0 fs)) w)))) != (1:Int)+CO (tnT (take ts.length (drop 0 ts)) (take fs.length (drop 0
 fs)) w) (tnF (take ts.length (drop 0 ts)) (take fs.length (drop 0 fs)) w)) (some (V.b false,[])) (some (V.b true,[])))) (some (V.b
 false,[])))))))))))) (some (V.b false,[]))))))))))))))))))))))))):_):=by kernel_rfl
theorem P1 {α:Type} {w:α->Int} {y:α} : ∀ (l:List α) (i:Nat) (h:i<l.length),w y<=w l[i]->AM w (l.set i y)<=AM w l
 | x::l,0,_,hy=>by rw [List.getElem_cons_zero] at hy; simp only [List.set_cons_zero,AM]; omega
 | x::l,i+1,h,hy=>by
  have:=P1 l i (by simpa using h) (by simpa using hy)
  simp only [List.set_cons_succ,AM]; omega
theorem Tg {ts:List Tp} {fs:List Fa} (hw:wBk (ts,fs,())<=1048576):CO ts fs<=20000000:=by
 have n1:=P2 ts
 have n2:=P3 fs
 unfold wBk Hq LW at hw
 dsimp only at hw
 unfold CO
 omega
theorem Aao (ts:List Tp) (fs:List Fa) (w:Int):(tnT ts fs w=[]/\tnF ts fs w=[])\/(tnT ts fs w=ts/\∃ i,∃ h:i<fs.length,tnF ts fs w=fs.set i (tlF fs[i])):=by
 cases e:D0 ts fs w
 ·exact .inl ⟨(My e).1,(My e).2.1⟩
 ·have e1:JE ts fs w=true:=by unfold D0 at e; rw [anE] at e; exact e.1
  have e3:=e1
  unfold JE at e3
  rw [anE] at e3
  have hw : ¬atW fs w<0:=of_decide_eq_false (by simpa using e3.2)
  obtain ⟨i,hi,e0⟩:=SO hw
  refine .inr ⟨by unfold tnT; rw [e]; rfl,i,hi,?_⟩
  unfold tnF foF
  rw [e,e1,e0,ntN,gtE hi]; rfl
theorem Wb {ts:List Tp} {fs:List Fa} (w:Int) (ho:Oq (ts,fs,())=true) (hw:wBk (ts,fs,())<=1048576):GL (tnT ts fs w,tnF ts fs w,())=true/\0<=CO (tnT ts fs w) (tnF ts fs w)/\CO (tnT ts fs w) (tnF ts fs w)<=20000000/\(tnT ts fs w).length<=1048576/\(tnF ts fs w).length<=1048576:=by
 have hM:maxI=9223372036854775807:=rfl
 obtain ⟨h1,h2,h3⟩:=Q8 ho hw
 have hk:=Tg hw
 have l1:ts.length<=1048576/\fs.length<=1048576:=by unfold wBk Hq LW at hw; dsimp only at hw; omega
 have p1:=Gi (tnT ts fs w)
 have p2:=Gj (tnF ts fs w)
 refine ⟨?_,by unfold CO; omega,?_⟩
 ·rcases Aao ts fs w with ⟨e1,e2⟩ | ⟨e1,i,hi,e2⟩
  ·rw [e1,e2]; decide
  ·rw [e1,e2]
   unfold GL at h2 ⊢
   simp only [anE,dcE,all_eq_true,List.length_set] at h2 ⊢
   refine ⟨h2.1,h2.2.1,fun x hx=>?_⟩
   rcases List.mem_or_eq_of_mem_set hx with hx | rfl
   ·exact h2.2.2 x hx
   ·have:=h2.2.2 _ (getElem_mem hi)
    unfold Eh at this ⊢
    unfold tlF
    simp only [anE,dcE,List.length_drop] at this ⊢
    exact ⟨this.1,this.2.1,by omega⟩
 ·rcases Aao ts fs w with ⟨e1,e2⟩ | ⟨e1,i,hi,e2⟩
  ·rw [e1,e2]
   exact ⟨by decide,by decide,by decide⟩
  ·rw [e1,e2,List.length_set]
   refine ⟨?_,l1⟩
   have:=P1 (w:=Bg) (y:=tlF fs[i]) fs i hi (by unfold Bg tlF; simp only [List.length_drop]; omega)
   unfold CO at hk ⊢
   omega
theorem law_knows:Knows prog Aab:=(kc func9 Wi (kc func11 VX (kc func32 tns (kc func33 tni (kc func13 Yd (kc func18 Qt (kc func25 Xj (kc func26 XO KnowsL.nil)))))))).knows
theorem law_fun (ts:List Tp) (fs:List Fa) (w:Int) (ho:Oq (ts,fs,())=true):Ax prog Aab (Ab []) f7 [.agg [.sl TPd ts,.sl FNd fs],.j w] []=some (.b true,[]):=by
 rw [U4,Aa (by rw [anE]; exact ⟨dcT ⟨by omega,by omega⟩,ho⟩)]
 try dsimp only [shr]
 by_cases q:1048576-(wBk (ts,fs,()):Int)<0
 ·rw [Af (dcT q)]
 ·have hM:maxI=9223372036854775807:=rfl
  have hw:wBk (ts,fs,())<=1048576:=by omega
  obtain ⟨b1,b2,h3⟩:=Q8 ho hw
  obtain ⟨he,k0,k1,l1,l2⟩:=Wb w ho hw
  have hk:=Tg hw
  have k2:0<=CO ts fs:=by have:=Gi ts; have:=Gj fs; unfold CO; omega
  have hnd:Pa ts fs=true:=by unfold Pa; rw [b1,h3]; rfl
  have hT:take (tnT ts fs w).length (mkL D2 AP 1 (tnT ts fs w))=mkL D2 AP 1 (tnT ts fs w):=List.take_of_length_le (by rw [JP]; exact Nat.le_refl _)
  have hF:take (tnF ts fs w).length (mkL D3 Bg (1+AM AP (tnT ts fs w)) (tnF ts fs w))=mkL D3 Bg (1+AM AP (tnT ts fs w)) (tnF ts fs w):=List.take_of_length_le (by rw [JP]; exact Nat.le_refl _)
  have hK:=Zf 1 (1+AM AP (tnT ts fs w)) (tnT ts fs w) (tnF ts fs w)
  have hH:=Z7 1 (tnT ts fs w) (tnF ts fs w)
  have hl:lim=1000000000000:=rfl
  rw [Ac (dcF q),Ac (dcF q)]
  simp only [drop_zero,take_length,AQ,hT,hF,hK,hH,JP,Vm,N2,beq_self_eq_true,Bool.not_true,AS,Be,bne_self_eq_false]
  rw [Aa h3,Aa hnd,Aa h3,Aa hnd,Aa he,Aa h3,Aa b2,Aa (dcT ⟨by first | rfl | trivial,by first | rfl | trivial,by first | omega | trivial,by omega⟩),Ac (dcF (show ¬1+CO ts fs<0 by omega)),Aa he,Aa (dcT ⟨by first | rfl | trivial,by first | rfl | trivial,by first | omega | trivial,by omega⟩),Aa (dcT ⟨by omega,by first | omega | trivial,by first | omega | trivial,by omega⟩),Ac (dcF (show ¬1+CO (tnT ts fs w) (tnF ts fs w)<0 by omega)),Aa h3,Aa hnd,Aa he,Aa (dcT ⟨by omega,by first | omega | trivial,by first | omega | trivial,by omega⟩),Ac (dcF (show ¬1+CO (tnT ts fs w) (tnF ts fs w)<0 by omega))]
theorem law_loops:Ar prog Aab (Ab []) 0 (f7.body.getD .skip):=Ak _
theorem ok_of {z:(Cd.den (.pair (.slice TPd) (.pair (.slice FNd) .unit)))} (g:IP (.pair (.slice TPd) (.pair (.slice FNd) .unit)) z):Oq (z.1,z.2.1,())=true:=by
 have hT : ∀ l:List Ty,IP (.slice TCd) l->G6 l=true:=fun l h=>by
  unfold G6
  rw [anE,dcE,all_eq_true]
  refine ⟨h.1,fun x hx=>?_⟩
  unfold Pz
  exact dcT (h.2 x hx).2.1
 have hW : ∀ l:List Wt,IP (.slice WCd) l->H0 l=true:=fun l h=>by
  unfold H0
  rw [anE,dcE,all_eq_true]
  refine ⟨h.1,fun x hx=>?_⟩
  unfold RH
  exact dcT (h.2 x hx).2.2.2.1
 have hN : ∀ l:List Nt,IP (.slice NTd) l->H1 l=true:=fun l h=>by
  unfold H1
  rw [anE,dcE,all_eq_true]
  refine ⟨h.1,fun x hx=>?_⟩
  unfold RI
  exact dcT ⟨(h.2 x hx).1,(h.2 x hx).2.2.1⟩
 unfold Oq Jf Jg
 simp only [anE,dcE,all_eq_true]
 refine ⟨⟨g.1.1,fun t ht=>?_⟩,g.2.1.1,fun f hf=>?_⟩
 ·have h:=g.1.2 t ht
  unfold On G7
  rw [anE,dcE]
  exact ⟨h.1,hT _ h.2.1.1⟩
 ·have h:=g.2.1.2 f hf
  unfold Oo MM G7
  simp only [anE,dcE]
  exact ⟨h.2.1,hW _ h.2.2.1.1,hT _ h.2.2.2.1.1,hN _ h.2.2.2.2.1⟩
end Go.Proofs.YtcjnmdcagfgjoaaGreatDoor.Den
