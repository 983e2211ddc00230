/- What functions of the program do, by the machine: En2 Wi8 Dc5 En3 Val24 Val25 Val26 Dc6 Dc7 En4 En5 Dc8 En6 Dw1 Dw3. -/
import Derived.Test.YteninfkgajnfcaaGreatDD
import Derived.KernelRfl
import Derived.Test.YteninfkgajnfcaaGreatRows
namespace Go.Proofs.YteninfkgajnfcaaGreat.Den
open IntKind (i64)
open Go.Proofs.Tryz
open List (all_cons all_eq_true append_assoc append_nil cons_append drop drop_eq_getElem_cons drop_eq_nil_of_le drop_zero flatMap flatMap_cons getElem?_map getElem_mem length_append length_cons length_eq_one_iff length_map length_singleton map_cons mem_cons mem_cons_of_mem nil_append pairwise_cons take take_length)
open Int (eq_ofNat_of_zero_le)
open Nat (add_assoc le_refl zero_add zero_le)
open Option (map_eq_some_iff map_some)
open Bool (or_eq_true)
open Go.Proofs
set_option maxRecDepth 100000
def itm (t:Rose Lab) (b:List UInt8):List UInt8:=if fkB t=true then b else vbs b.length++b
mutual
def A7:Rose An->Rose Lab->List UInt8
 | .node x vs,t=>if t.lab.1=2 then x.2.1 else if fkB t=true then vbs (fol x.1).toNat else if t.lab.1=5 then FS t.kids vs else CB (hd0 t.kids) vs
def CB (t:Rose Lab):List (Rose An)->List UInt8
 | []=>[]
 | v::vs=>itm t (A7 v t)++CB t vs
def FS (ks:List (Rose Lab)):List (Rose An)->List UInt8
 | []=>[]
 | v::vs=>(vbs (8*v.lab.2.2.1+(if fkB (byR v.lab.2.2.1 ks)=true then 0 else 2)).toNat++itm (byR v.lab.2.2.1 ks) (A7 v (byR v.lab.2.2.1 ks)))++FS ks vs
end
def chI (z:Rose Lab) (u:Rose An):List UInt8:=if z.lab.1=5 then vbs (8*u.lab.2.2.1+(if fkB (byR u.lab.2.2.1 z.kids)=true then 0 else 2)).toNat++itm (byR u.lab.2.2.1 z.kids) (A7 u (byR u.lab.2.2.1 z.kids)) else itm (hd0 z.kids) (A7 u (hd0 z.kids))
def NK (z:Rose Lab) (u:Rose An):Bool:=if z.lab.1=5 then Bu u.lab.2.2.1 z.kids&&sfR u (byR u.lab.2.2.1 z.kids) else sfR u (hd0 z.kids)
def vtr (l:List Nd) (a:Nat):Rose An:=cv (kf (tys l) a).1
def ven (l:List Nd) (a:Nat):Nat:=(kf (tys l) a).2
def vks (l:List Nd) (a e:Nat):List (Rose Lab)×Nat:=AD (kf (tys l)) (tys l) a l.length e []
def T4 (n:Nat):Gm
 | [.tp LCd z 0,.sl NCd l,.i .i64 a],[]=>.need (decide (Ao z<=n/\Ao z<=1000000/\Aj z=true/\0<=a/\a.toNat<l.length/\l.length<=40)&&sfR (vtr l a.toNat) z) (.leaf (.tup [.s (A7 (vtr l a.toNat) z),.i .i64 (ven l a.toNat:Int)],[]))
 | _,_=>.no
def Aal:Gm
 | [.tp LCd z 0,.sl NCd l,.i .i64 a],[]=>.need (decide (Ao z<=1000000/\Aj z=true/\0<=a/\a.toNat<l.length/\l.length<=40)&&sfR (vtr l a.toNat) z) (.leaf (.tup [.s (A7 (vtr l a.toNat) z),.i .i64 (ven l a.toNat:Int)],[]))
 | _,_=>.no
def Ln (n:Nat):LoopEnt:=⟨111,[0,1,2,9,10],[9,10],[],fun
 | ([.tp LCd z 0,.sl NCd l,.i .i64 a,.ref 0 0 m,.i .i64 e],[some (.row false none (.int .u8) o)])=>.need (decide (m=o.length/\0<=a/\a<e/\e.toNat<=l.length/\l.length<=40/\Ak z.kids<=n/\Ao z<=1000000/\Aj z=true/\Aw z.lab.1=true/\o.length<=52*e.toNat)&&(cvs (vks l a.toNat e.toNat).1).all (NK z)) (.leaf (.exit 1,([.ref 0 0 (o++u8 ((cvs (vks l a.toNat e.toNat).1).flatMap (chI z))).length,.i .i64 ((vks l a.toNat e.toNat).2:Int)],[some (.row false none (.int .u8) (o++u8 ((cvs (vks l a.toNat e.toNat).1).flatMap (chI z))))])))
 | _=>.no⟩
theorem F6 (n:Nat):(vbs n).length<=11:=by
 have:=Hu 10 n
 unfold vbs
 rw [length_append,length_singleton]; omega
theorem J7 (t:Rose Lab) (b:List UInt8):(itm t b).length<=b.length+11:=by
 unfold itm
 have:=F6 b.length
 split
 ·omega
 ·rw [length_append]; omega
theorem Ul {x:An} {vs:List (Rose An)} {t:Rose Lab} (hr:Aj t=true) (hf:fkB t=true) (h:sfR (.node x vs) t=true) : -1000000000<=x.1/\x.1<=1000000000:=by
 rw [sfR] at h
 obtain ⟨hp,_⟩:=Dm hr
 unfold B5 at hp
 unfold fkB at hf
 rw [or_eq_true,beq_iff_eq,beq_iff_eq] at hf
 split at h
 ·cases h
 ·rcases hf with hf | hf
  ·rw [if_pos hf] at h
   exact Gg h
  ·rw [if_neg (by omega),if_pos hf] at h
   have:=of_decide_eq_true h
   rw [if_neg (by omega),if_pos hf,anE] at hp
   have:=of_decide_eq_true hp.1
   omega
theorem Rl {x:An} {vs:List (Rose An)} {t:Rose Lab} (h2:t.lab.1=2) (h:sfR (.node x vs) t=true):x.2.1.length<=30:=by
 rw [sfR] at h
 by_cases hb:Da x.1 x.2.1 x.2.2.2.1 t.lab.1=true
 ·rw [if_pos hb] at h; cases h
 ·rw [if_neg hb,if_neg (by omega),if_neg (by omega),if_pos h2] at h
  exact of_decide_eq_true h
theorem Jw {x:An} {vs:List (Rose An)} {t:Rose Lab} (h4:t.lab.1=4) (h:sfR (.node x vs) t=true):sfL (hd0 t.kids) vs=true:=by
 rw [sfR] at h
 by_cases hb:Da x.1 x.2.1 x.2.2.2.1 t.lab.1=true
 ·rw [if_pos hb] at h; cases h
 ·rw [if_neg hb,if_neg (by omega),if_neg (by omega),if_neg (by omega),if_pos h4] at h
  exact h
theorem JO {x:An} {vs:List (Rose An)} {t:Rose Lab} (h5:t.lab.1=5) (h:sfR (.node x vs) t=true):sfM t.kids vs 0 vs=true/\B6 vs t.kids=true:=by
 rw [sfR] at h
 by_cases hb:Da x.1 x.2.1 x.2.2.2.1 t.lab.1=true
 ·rw [if_pos hb] at h; cases h
 ·rw [if_neg hb,if_neg (by omega),if_neg (by omega),if_neg (by omega),if_neg (by omega),anE] at h
  exact h
theorem JA {t:Rose Lab} (hr:Aj t=true) (h2:t.lab.1≠2) (hf:fkB t≠true):t.lab.1=4\/t.lab.1=5:=by
 obtain ⟨hp,_⟩:=Dm hr
 have:=CW hp
 have hf' : ¬(t.lab.1=1\/t.lab.1=3):=fun hh=>hf (by unfold fkB; simpa using hh)
 omega
theorem X0 {ks:List (Rose Lab)} (h:ks.length=1):ks=[hd0 ks]:=by
 obtain ⟨y,rfl⟩:=length_eq_one_iff.1 h
 rfl
mutual
theorem EH : ∀ (u:Rose An) (t:Rose Lab),Aj t=true->sfR u t=true->(A7 u t).length+22<=52*vcR u
 | .node x vs,t,hr,hs=>by
  rw [A7,vcR]
  by_cases h2:t.lab.1=2
  ·rw [if_pos h2]
   have:=Rl h2 hs
   omega
  ·rw [if_neg h2]
   by_cases hf:fkB t=true
   ·rw [if_pos hf]
    have:=F6 (fol x.1).toNat
    omega
   ·rw [if_neg hf]
    rcases JA hr h2 hf with h4 | h5
    ·rw [if_neg (by omega)]
     have hl:=CN hr h4
     have hy:Aj (hd0 t.kids)=true:=all_eq_true.1 hl.2 _ (by rw [X0 hl.1]; exact List.mem_singleton.2 rfl)
     have:=Pr vs (hd0 t.kids) hy (Jw h4 hs)
     omega
    ·rw [if_pos h5]
     have:=Pp vs t.kids (C0 hr (by omega)) vs 0 (JO h5 hs).1
     omega
theorem Pr : ∀ (vs:List (Rose An)) (t:Rose Lab),Aj t=true->sfL t vs=true->(CB t vs).length<=52*vcL vs
 | [],t,_,_=>by rw [CB]; exact zero_le _
 | v::vs,t,hr,hs=>by
  rw [sfL,anE,anE] at hs
  have h1:=EH v t hr hs.1.2
  have h2:=Pr vs t hr hs.2
  have h3:=J7 t (A7 v t)
  rw [CB,vcL,length_append]
  omega
theorem Pp : ∀ (vs:List (Rose An)) (ks:List (Rose Lab)),A8 5 ks=true->∀ (zk:List (Rose An)) (i:Nat),sfM ks zk i vs=true->(FS ks vs).length<=52*vcL vs
 | [],ks,_,zk,i,_=>by rw [FS]; exact zero_le _
 | v::vs,ks,hr,zk,i,hs=>by
  rw [sfM,anE,anE,anE] at hs
  have h1:=EH v _ (Ca hr (Fo hs.1.1)) hs.1.2.1
  have h2:=Pp vs ks hr zk (i+1) hs.2
  have h3:=J7 (byR v.lab.2.2.1 ks) (A7 v (byR v.lab.2.2.1 ks))
  have h4:=F6 (8*v.lab.2.2.1+(if fkB (byR v.lab.2.2.1 ks)=true then 0 else 2)).toNat
  rw [FS,vcL,length_append,length_append]
  omega
end
theorem M3 {z:Rose Lab} (h:z.lab.1=4) : ∀ vs:List (Rose An),CB (hd0 z.kids) vs=vs.flatMap (chI z)
 | []=>by rw [CB]; rfl
 | v::vs=>by
  rw [CB,flatMap_cons,M3 h vs]
  congr 1
  unfold chI; rw [if_neg (by omega)]
theorem M2 {z:Rose Lab} (h:z.lab.1=5) : ∀ vs:List (Rose An),FS z.kids vs=vs.flatMap (chI z)
 | []=>by rw [FS]; rfl
 | v::vs=>by
  rw [FS,flatMap_cons,M2 h vs]
  congr 1
  unfold chI; rw [if_pos h]
theorem QI {t:Rose Lab} (h:t.lab.1=4\/t.lab.1=5):t.lab.1≠2/\¬fkB t=true:=by
 refine ⟨by omega,fun hf=>?_⟩
 unfold fkB at hf
 rw [or_eq_true,beq_iff_eq,beq_iff_eq] at hf
 omega
theorem Pn {x:An} {vs:List (Rose An)} {z:Rose Lab} (h:z.lab.1=4\/z.lab.1=5):A7 (.node x vs) z=vs.flatMap (chI z):=by
 obtain ⟨h2,hf⟩:=QI h
 rw [A7,if_neg h2,if_neg hf]
 rcases h with h4 | h5
 ·rw [if_neg (by omega),M3 h4]
 ·rw [if_pos h5,M2 h5]
theorem Jx {ks:List (Rose Lab)} {zk:List (Rose An)} : ∀ {vs:List (Rose An)} {i:Nat},sfM ks zk i vs=true->∀ v∈vs,Bu v.lab.2.2.1 ks=true/\sfR v (byR v.lab.2.2.1 ks)=true
 | [],_,_,v,hv=>by cases hv
 | u::vs,i,h,v,hv=>by
  rw [sfM,anE,anE,anE] at h
  rcases mem_cons.1 hv with rfl | hv
  ·exact ⟨h.1.1,h.1.2.1⟩
  ·exact Jx h.2 v hv
theorem Aai {x:An} {vs:List (Rose An)} {z:Rose Lab} (h:z.lab.1=4\/z.lab.1=5) (hs:sfR (.node x vs) z=true):vs.all (NK z)=true:=by
 rw [all_eq_true]
 intro v hv
 unfold NK
 rcases h with h4 | h5
 ·rw [if_neg (by omega)]
  have:=Jw h4 hs
  rw [Gf,all_eq_true] at this
  have:=this v hv
  rw [anE] at this
  exact this.2
 ·rw [if_pos h5,anE]
  exact Jx (JO h5 hs).1 v hv
theorem QW {n:Int} : ∀ {l:List (Rose Lab)},Bu n l=true->(byR n l).lab.2.2.1=n
 | [],h=>by cases h
 | z::l,h=>by
  rw [byR]
  by_cases q:z.lab.2.2.1=n
  ·rw [if_pos q]; exact q
  ·rw [if_neg q]
   unfold Bu at h
   rw [List.any_cons,beq_false_of_ne q,Bool.false_or] at h
   exact QW h
theorem Hm {l:List Nd} {e:Nat} (h:e<l.length):e<ven l e/\ven l e<=l.length:=by
 have:=Cx (tys l) e (by rw [Bh]; exact h)
 rw [Bh] at this
 exact this
theorem Rc {l:List Nd} {e:Nat} (h:e<l.length):vcR (vtr l e)=ven l e-e:=by
 have h1:=Nz (l.length-e) e (le_refl _) h
 have h2:=Ch (cv (kf (tys l) e).1) l[e].2.2.2.1 e
 rw [h1] at h2
 exact h2.symm.trans (P6 (Hm h).2)
theorem NU {l:List Nd} {a e:Nat} (h:AY (tys l) e≠some (a:Int)):vks l a e=([],e):=Dp h
theorem NV {l:List Nd} {a e:Nat} (h:AY (tys l) e=some (a:Int)):vks l a e=((kf (tys l) e).1::(vks l a (ven l e)).1,(vks l a (ven l e)).2):=by
 have hl:=DX h
 rw [Bh] at hl
 have hb:=Hm hl
 unfold vks
 obtain ⟨n,hn⟩ : ∃ m,l.length=m+1:=⟨l.length-1,by omega⟩
 have e1:AD (kf (tys l)) (tys l) a l.length e []=AD (kf (tys l)) (tys l) a (n+1) e []:=by rw [hn]
 rw [e1,AD,if_pos h,nil_append,Dq]
 have e2:AD (kf (tys l)) (tys l) a n (kf (tys l) e).2 []=AD (kf (tys l)) (tys l) a l.length (ven l e) []:=GX (Cx (tys l)) _ _ _ _ (by rw [Bh]; show l.length-ven l e<=n; omega) (by rw [Bh]; omega)
 rw [e2]; rfl
theorem UR {z y:Rose Lab} (hr:Aj z=true) (h5:z.lab.1=5) (hy:y∈z.kids):1<=y.lab.2.2.1/\y.lab.2.2.1<=30:=by
 have:=(Cj (C0 hr (by omega)) y hy).1
 unfold D1 at this
 rw [if_pos rfl] at this
 simp only [anE,dcE] at this
 exact this.2
abbrev TA (n:Nat):FuncId->Option Ent:=Ab [(89,.rd1 (T4 n)),(139,.rd1 QE),(138,.own YE),(60,.rd1 Q1),(82,.rd1 Q6)]
theorem IF (n:Nat) (z:Rose Lab) (l:List Nd) (a:Int) (m:Nat) (e:Int) (o:List Int):A0 prog (TA n) (Ab [(9,Ln n)]) 0 (body f89 0) (Ln n) ([.tp LCd z 0,.sl NCd l,.j a,.ref 0 0 m,.j e],[some (.row false none (.int .u8) o)]) =
 ((ifB (decide (e<(↑l.length:Int))) (ifT (decide ((0:Int)<=e)&&decide (e<(↑l.length:Int))) (Ap l[e.toNat]? fun z_1=>shr z.kids fun sh1=>ifB
 (z_1.snd.snd.snd.fst==a) (ifT (decide ((0:Int)<=(0:Int))&&decide ((0:Int)<(↑sh1.length:Int))) (Ap sh1[0]? fun z_2=>shr z.lab fun sh1_1=>ifB
 (sh1_1.fst==(5:Int)) (ifT (decide ((0:Int)<=e)&&decide (e<(↑l.length:Int))) (Ap l[e.toNat]? fun z_3=>shr sh1 fun sh1=>ifT (decide (sh1.length<=
 maxI)) (ifB (Bu z_3.snd.snd.fst sh1) (ifT (decide ((0:Int)<=e)&&decide (e<(↑l.length:Int))) (Ap l[e.toNat]? fun z_4=>shr z_4.snd.snd fun sh2=>shr (byR
 z_3.snd.snd.fst sh1) fun sh1=>ifT (decide (Ao sh1<=n/\Ao sh1<=1000000/\Aj sh1=true/\(0:Int)<=e/\e.toNat<l.length/\l.length<=40)
 && sfR (vtr l e.toNat) sh1) (ifB (sh1_1.fst==(5:Int)) (ifT (decide (m=o.length/\(0:Int)<=i64.wrap (i64.wrap ((8:Int)*sh2.fst)+if fkB sh1 =
 true then (0:Int) else (2:Int))/\i64.wrap (i64.wrap ((8:Int)*sh2.fst)+if fkB sh1=true then (0:Int) else (2:Int))<=(1000000000000:Int)
 /\ o.length<=1000000)) (ifB ((if fkB sh1=true then (0:Int) else (2:Int))==(2:Int)) (ifT (decide ((o++u8 (vbs (i64.wrap (i64.wrap ((8 :
 Int)*sh2.fst)+if fkB sh1=true then (0:Int) else (2:Int))).toNat)).length=(o++u8 (vbs (i64.wrap (i64.wrap ((8:Int)*sh2.fst)+if fkB sh1
 = true then (0:Int) else (2:Int))).toNat)).length/\(0:Int)<=(↑(A7 (vtr l e.toNat) sh1).length:Int)/\(↑(A7 (vtr l e.toNat) sh1).length:Int)<=
 (1000000000000:Int)/\(o++u8 (vbs (i64.wrap (i64.wrap ((8:Int)*sh2.fst)+if fkB sh1=true then (0:Int) else (2:Int))).toNat)).length<=
 1000000)) (ifT (decide (((o++u8 (vbs (i64.wrap (i64.wrap ((8:Int)*sh2.fst)+if fkB sh1=true then (0:Int) else (2:Int))).toNat)++u8
 (vbs (↑(A7 (vtr l e.toNat) sh1).length:Int).toNat)).length+(List.map (fun z=>(↑z.toNat:Int)) (A7 (vtr l e.toNat) sh1)).length)*1<=(140737488355328
 : Nat))&&decide ((o++u8 (vbs (i64.wrap (i64.wrap ((8:Int)*sh2.fst)+if fkB sh1=true then (0:Int) else (2:Int))).toNat)++u8 (vbs (↑(A7
 (vtr l e.toNat) sh1).length:Int).toNat)).length+(List.map (fun z=>(↑z.toNat:Int)) (A7 (vtr l e.toNat) sh1)).length<=maxI)) (some (Ex.normal,[V.tp LCd z (0 :
 Nat),V.sl NCd l,V.j a,V.ref 0 0 ((o++u8 (vbs (i64.wrap (i64.wrap ((8:Int)*sh2.fst)+if fkB sh1=true then (0:Int) else (2 :
 Int))).toNat)++u8 (vbs (↑(A7 (vtr l e.toNat) sh1).length:Int).toNat)).length+(List.map (fun z=>(↑z.toNat:Int)) (A7 (vtr l e.toNat) sh1)).length),V.i .i64
 (↑(ven l e.toNat):Int)],[some (Blk.row false none (Cd.int .u8) (take (o++u8 (vbs (i64.wrap (i64.wrap ((8:Int)*sh2.fst)+if fkB sh1=true
 then (0:Int) else (2:Int))).toNat)++u8 (vbs (↑(A7 (vtr l e.toNat) sh1).length:Int).toNat)).length (drop 0 (o++u8 (vbs (i64.wrap
 (i64.wrap ((8:Int)*sh2.fst)+if fkB sh1=true then (0:Int) else (2:Int))).toNat)++u8 (vbs (↑(A7 (vtr l e.toNat) sh1).length:Int).toNat)))++
 List.map (fun z=>(↑z.toNat:Int)) (A7 (vtr l e.toNat) sh1)))])))) (ifT (decide (((o++u8 (vbs (i64.wrap (i64.wrap ((8:Int)*sh2.fst)+if fkB sh1
 = true then (0:Int) else (2:Int))).toNat)).length+(List.map (fun z=>(↑z.toNat:Int)) (A7 (vtr l e.toNat) sh1)).length)*1<=140737488355328)
 && decide ((o++u8 (vbs (i64.wrap (i64.wrap ((8:Int)*sh2.fst)+if fkB sh1=true then (0:Int) else (2:Int))).toNat)).length+(List.map (fun z
 => (↑z.toNat:Int)) (A7 (vtr l e.toNat) sh1)).length<=maxI)) (some (Ex.normal,[V.tp LCd z 0,V.sl NCd l,V.j a,V.ref 0 0 ((o++u8 (vbs
 (i64.wrap (i64.wrap ((8:Int)*sh2.fst)+if fkB sh1=true then (0:Int) else (2:Int))).toNat)).length+(List.map (fun z=>(↑z.toNat:Int)) (A7
 (vtr l e.toNat) sh1)).length),V.j (↑(ven l e.toNat):Int)],[some (Blk.row false none (Cd.int .u8) (take (o++u8 (vbs (i64.wrap (i64.wrap ((8
 : Int)*sh2.fst)+if fkB sh1=true then (0:Int) else (2:Int))).toNat)).length (drop 0 (o++u8 (vbs (i64.wrap (i64.wrap ((8:Int) *
 sh2.fst)+if fkB sh1=true then (0:Int) else (2:Int))).toNat)))++List.map (fun z=>(↑z.toNat:Int)) (A7 (vtr l e.toNat) sh1)))]))))) (ifB ((if fkB sh1=true
 then (0:Int) else (2:Int))==(2:Int)) (ifT (decide (m=o.length/\(0:Int)<=(↑(A7 (vtr l e.toNat) sh1).length:Int)/\(↑(A7 (vtr l e.toNat) sh1).length :
 Int)<=(1000000000000:Int)/\o.length<=1000000)) (ifT (decide (((o++u8 (vbs (↑(A7 (vtr l e.toNat) sh1).length:Int).toNat)).length+(List.map (fun z=>
 (↑z.toNat:Int)) (A7 (vtr l e.toNat) sh1)).length)*1<=140737488355328)&&decide ((o++u8 (vbs (↑(A7 (vtr l e.toNat) sh1).length :
 Int).toNat)).length+(List.map (fun z=>(↑z.toNat:Int)) (A7 (vtr l e.toNat) sh1)).length<=maxI)) (some (Ex.normal,[V.tp LCd z 0,V.sl NCd l,V.j a,
 V.ref 0 0 ((o++u8 (vbs (↑(A7 (vtr l e.toNat) sh1).length:Int).toNat)).length+(List.map (fun z=>(↑z.toNat:Int)) (A7 (vtr l e.toNat) sh1)).length),V.i .i64
 (↑(ven l e.toNat):Int)],[some (Blk.row false none (Cd.int .u8) (take (o++u8 (vbs (↑(A7 (vtr l e.toNat) sh1).length:Int).toNat)).length (drop 0
 (o++u8 (vbs (↑(A7 (vtr l e.toNat) sh1).length:Int).toNat)))++List.map (fun z=>(↑z.toNat:Int)) (A7 (vtr l e.toNat) sh1)))])))) (ifT (decide ((m+(List.map
 (fun z=>(↑z.toNat:Int)) (A7 (vtr l e.toNat) sh1)).length)*1<=140737488355328)&&decide (m+(List.map (fun z=>(↑z.toNat:Int)) (A7 (vtr l
 e.toNat) sh1)).length<=maxI)) (some (Ex.normal,[V.tp LCd z 0,V.sl NCd l,V.j a,V.ref 0 0 (m+(List.map (fun z=>(↑z.toNat:Int)) (A7 (vtr l e.toNat)
 sh1)).length),V.j (↑(ven l e.toNat):Int)],[some (Blk.row false none (Cd.int .u8) (take m (drop 0 o)++List.map (fun z=>(↑z.toNat:Int))
 (A7 (vtr l e.toNat) sh1)))]))))))) (ifT (decide ((0:Int)<=e)&&decide (e<(↑l.length:Int))) (Ap l[e.toNat]? fun _=>none))))) (ifT (decide ((0:Int)<=e)
 && decide (e<(↑l.length:Int))) (Ap l[e.toNat]? fun z_3=>shr (u8 (vbs (↑(A7 (vtr l e.toNat) z_2).length:Int).toNat)) fun sh5=>shr (o++sh5) fun sh4=>shr
 z_3.snd.snd fun sh3=>shr (List.map (fun z=>(↑z.toNat:Int)) (A7 (vtr l e.toNat) z_2)) fun sh2=>shr (o++u8 (vbs (i64.wrap (i64.wrap ((8:Int) *
 sh3.fst)+if fkB z_2=true then (0:Int) else (2:Int))).toNat)) fun sh1=>ifT (decide (Ao z_2<=n/\Ao z_2<=1000000/\Aj z_2=true/\(0:Int)<=e
 /\ e.toNat<l.length/\l.length<=40)&&sfR (vtr l e.toNat) z_2) (ifB (sh1_1.fst==(5:Int)) (ifT (decide (m=o.length/\(0:Int)<=i64.wrap
 (i64.wrap ((8:Int)*sh3.fst)+if fkB z_2=true then (0:Int) else (2:Int))/\i64.wrap (i64.wrap ((8:Int)*sh3.fst)+if fkB z_2=true
 then (0:Int) else (2:Int))<=(1000000000000:Int)/\o.length<=1000000)) (ifB ((if fkB z_2=true then (0:Int) else (2:Int))==(2:Int)) (ifT (decide
 (sh1.length=sh1.length/\(0:Int)<=(↑(A7 (vtr l e.toNat) z_2).length:Int)/\(↑(A7 (vtr l e.toNat) z_2).length:Int)<=(1000000000000:Int)/\sh1.length<=
 1000000)) (ifT (decide (((sh1++sh5).length+sh2.length)*1<=140737488355328)&&decide ((sh1++sh5).length+sh2.length<=maxI)) (some
 (Ex.normal,[V.tp LCd z 0,V.sl NCd l,V.j a,V.ref 0 0 ((sh1++sh5).length+sh2.length),V.j (↑(ven l e.toNat):Int)],[some (Blk.row false none
 (Cd.int .u8) (take (sh1++sh5).length (drop 0 (sh1++sh5))++sh2))])))) (ifT (decide ((sh1.length+sh2.length)*1<=(140737488355328 :
 Nat))&&decide (sh1.length+sh2.length<=maxI)) (some (Ex.normal,[V.tp LCd z 0,V.sl NCd l,V.j a,V.ref 0 0 (sh1.length+sh2.length),V.j (↑(ven l
 e.toNat):Int)],[some (Blk.row false none (Cd.int .u8) (take sh1.length (drop 0 sh1)++sh2))]))))) (ifB ((if fkB z_2=true then (0:Int) else (2 :
 Int))==(2:Int)) (ifT (decide (m=o.length/\(0:Int)<=(↑(A7 (vtr l e.toNat) z_2).length:Int)/\(↑(A7 (vtr l e.toNat) z_2).length:Int)<=(1000000000000 :
 Int)/\o.length<=1000000)) (ifT (decide ((sh4.length+sh2.length)*1<=140737488355328)&&decide (sh4.length+sh2.length<=maxI)) (some
 (Ex.normal,[V.tp LCd z 0,V.sl NCd l,V.j a,V.ref 0 0 (sh4.length+sh2.length),V.j (↑(ven l e.toNat):Int)],[some (Blk.row false none (Cd.int .u8)
 (take sh4.length (drop 0 sh4)++sh2))])))) (ifT (decide ((m+sh2.length)*1<=140737488355328)&&decide (m+sh2.length<=maxI))
 (some (Ex.normal,[V.tp LCd z 0,V.sl NCd l,V.j a,V.ref 0 0 (m+sh2.length),V.j (↑(ven l e.toNat):Int)],[some (Blk.row false none (Cd.int .u8)
 (take m (drop 0 o)++sh2))]))))))))) (some (Ex.exit 1,[V.ref 0 0 m,V.j e],[some (Blk.row false none (Cd.int .u8) o)])))) (some (Ex.exit 1,
 [V.ref 0 0 m,V.j e],[some (Blk.row false none (Cd.int .u8) o)]))):_):=by kernel_rfl
theorem Wo (n:Nat) (z:Rose Lab) (l:List Nd) (a:Int):Bt prog (TA n) (Ab [(9,Ln n)]) f89 [.tp LCd z 0,.sl NCd l,.j a] [] =
 ((ifT (decide ((0:Int)<=a)&&decide (a<(↑l.length:Int))) (Ap l[a.toNat]? fun z_1=>shr (vks l a.toNat (i64.wrap (a+(1:Int))).toNat) fun sh5=>shr
 z.kids fun sh4=>shr z.lab fun sh3=>shr (ifT (decide ((-1000000000000:Int)<=z_1.fst/\z_1.fst<=(1000000000000:Int))) (ifT (decide ((0:Int)<=fol z_1.fst/\fol
 z_1.fst<=(1000000000000:Int))) (some (V.tup [V.s (List.map (fun n=>UInt8.ofNat n.toNat) (take (u8 (vbs (fol z_1.fst).toNat)).length (drop 0 (u8
 (vbs (fol z_1.fst).toNat))))),V.j (i64.wrap (a+(1:Int)))],[])))) fun sh2=>shr (ifT (decide (0=0/\(0:Int)<=a/\a <
 i64.wrap (a+(1:Int))/\(i64.wrap (a+(1:Int))).toNat<=l.length/\l.length<=40/\Ak sh4<=n/\Ao z<=1000000/\Aj z=true
 /\ Aw sh3.fst=true/\0<=52*(i64.wrap (a+(1:Int))).toNat)&&(cvs sh5.fst).all (NK z)) (some (V.tup [V.s (List.map (fun n=>
 UInt8.ofNat n.toNat) (take (Ag (Cd.int .u8).den++u8 (flatMap (chI z) (cvs sh5.fst))).length (drop 0 (Ag (Cd.int .u8).den++u8 (flatMap
 (chI z) (cvs sh5.fst)))))),V.j (↑sh5.snd:Int)],[]))) fun sh1=>ifB (sh3.fst==(2:Int)) (some (V.tup [V.s z_1.snd.fst,V.j (i64.wrap (a+(1 :
 Int)))],[])) (ifB (sh3.fst==(1:Int)) (ifB (sh3.fst==(1:Int)) sh2 sh1) (ifB (sh3.fst==(3:Int)) sh2 sh1)))):_):=by kernel_rfl
theorem Wp (n:Nat) (z:Rose Lab) (l:List Nd) (a:Int) (e:Nat) (o:List Int) (he:e<l.length) (hup:l[e].2.2.2.1=a) (hl:l.length<=40) (hn:Ak z.kids<=n) (hn2:Ao z<=1000000) (hr:Aj z=true) (hh:z.lab.1=4\/z.lab.1=5) (ho:o.length<=52*e) (hc:NK z (vtr l e)=true) :
  A0 prog (TA n) (Ab [(9,Ln n)]) 0 (body f89 0) (Ln n) ([.tp LCd z 0,.sl NCd l,.j a,.ref 0 0 o.length,.j (e:Int)],[some (.row false none (.int .u8) o)])=some (.normal,([.tp LCd z 0,.sl NCd l,.j a,.ref 0 0 (o++u8 (chI z (vtr l e))).length,.j (ven l e:Int)],[some (.row false none (.int .u8) (o++u8 (chI z (vtr l e))))]))/\(chI z (vtr l e)).length<=52*(ven l e-e):=by
 have hM:maxI=9223372036854775807:=rfl
 have hno:(vtr l e).lab.2.2.1=l[e].2.2.1:=by unfold vtr; rw [Kz he]
 have hcnt:=Rc he
 have hvb:=Hm he
 have hE:(decide ((0:Int)<=(e:Int))&&decide ((e:Int)<(l.length:Int)))=true:=by simp only [anE,dcE]; omega
 have hown:(l[e].2.2.2.1==a)=true:=by rw [hup]; exact beq_self_eq_true _
 have hlen:=Bz z.kids
 have hck:=Be z
 have hr0:=IF n z l a o.length (e:Int) o
 dsimp only [shr] at hr0
 rcases hh with h4 | h5
 ·obtain ⟨h1,h2⟩:=CN hr h4
  obtain ⟨y,hy⟩:=length_eq_one_iff.1 h1
  unfold NK at hc
  rw [if_neg (by omega),hy] at hc
  have hc:sfR (vtr l e) y=true:=hc
  rw [hy] at h2 hn hlen
  have hry:Aj y=true:=by simpa using h2
  rw [Ak,Ak] at hn
  have hcy:Ao y<=1000000:=by rw [hy,Ak,Ak] at hck; omega
  have hL:=EH _ _ hry hc
  have hq:(z.lab.1==(5:Int))=false:=by rw [h4]; rfl
  have hI:chI z (vtr l e)=itm y (A7 (vtr l e) y):=by unfold chI; rw [if_neg (by omega),hy]; rfl
  have hIl:=J7 y (A7 (vtr l e) y)
  refine ⟨?_,by rw [hI,<-hcnt]; omega⟩
  rw [Af (dcT (show (e:Int)<(l.length:Int) by omega)),Aa hE,ntN,gtE he,As,Af hown,hy,Aa (by simp),show ([y]:List (Rose Lab))[(0:Nat)]? = some y from rfl,As,Ac hq,Aa hE,As,Aa (by rw [hc,Bool.and_true]; exact dcT ⟨by omega,by omega,hry,by omega,he,hl⟩),Ac hq] at hr0
  rw [hI]
  simp only [show List.map (fun z:UInt8=>((z.toNat:Nat):Int)) (A7 (vtr l e) y)=u8 (A7 (vtr l e) y) from rfl,drop_zero,take_length] at hr0
  rcases Bool.eq_false_or_eq_true (fkB y) with hf | hf
  rotate_left
  ·have hk:(if fkB y=true then (0:Int) else 2)=2:=by rw [hf]; rfl
   have hi:itm y (A7 (vtr l e) y)=vbs (A7 (vtr l e) y).length++A7 (vtr l e) y:=by unfold itm; rw [hf]; rfl
   rw [hk,Af (by rfl),Aa (dcT ⟨by first | rfl | trivial,by omega,by omega,by omega⟩),ntN,Aa (by simp only [anE,dcE,length_append,F9]; have:=F6 (A7 (vtr l e) y).length; omega)] at hr0
   rw [hr0,hi,Ic,append_assoc]
   simp only [length_append,add_assoc]
  ·have hk:(if fkB y=true then (0:Int) else 2)=0:=by rw [hf]; rfl
   have hi:itm y (A7 (vtr l e) y)=A7 (vtr l e) y:=by unfold itm; rw [hf]; rfl
   rw [hk,Ac (by rfl),Aa (by simp only [anE,dcE,F9]; omega)] at hr0
   rw [hr0,hi]
   simp only [length_append]
 ·unfold NK at hc
  rw [if_pos h5,anE,hno] at hc
  obtain ⟨hh,hc⟩:=hc
  have hb:=Fo hh
  have hbn:=QW hh
  have hrng:=UR hr h5 hb
  rw [hbn] at hrng
  have hry:=Ca (C0 hr (by omega)) hb
  have hL:=EH _ _ hry hc
  have hcm:=BB hb
  have hq:(z.lab.1==(5:Int))=true:=by rw [h5]; rfl
  have hk0:0<z.kids.length:=List.length_pos_of_mem hb
  have hI:chI z (vtr l e)=vbs (8*l[e].2.2.1+(if fkB (byR l[e].2.2.1 z.kids)=true then 0 else 2)).toNat++itm (byR l[e].2.2.1 z.kids) (A7 (vtr l e) (byR l[e].2.2.1 z.kids)):=by unfold chI; rw [if_pos h5,hno]
  have hIl:=J7 (byR l[e].2.2.1 z.kids) (A7 (vtr l e) (byR l[e].2.2.1 z.kids))
  have hv:=F6 (8*l[e].2.2.1+(if fkB (byR l[e].2.2.1 z.kids)=true then 0 else 2)).toNat
  refine ⟨?_,by rw [hI,<-hcnt,length_append]; omega⟩
  rw [Af (dcT (show (e:Int)<(l.length:Int) by omega)),Aa hE,ntN,gtE he,As,Af hown,Aa (by simp only [anE,dcE]; omega),gtE hk0,As,Af hq,Aa hE,As,Aa (dcT (by omega)),Af hh,Aa hE,As,Aa (by rw [hc,Bool.and_true]; exact dcT ⟨by omega,by omega,hry,by omega,he,hl⟩),Af hq] at hr0
  rw [hI]
  generalize hY:byR l[e].2.2.1 z.kids=y at hr0 hL hIl hv ⊢
  have hw : ∀ k:Int,0<=k->k<=2->i64.wrap (i64.wrap (8*l[e].2.2.1)+k)=8*l[e].2.2.1+k:=fun k h1 h2=>by rw [Ay (n:=8*l[e].2.2.1) (by omega) (by omega),Ay (by omega) (by omega)]
  simp only [show List.map (fun z:UInt8=>((z.toNat:Nat):Int)) (A7 (vtr l e) y)=u8 (A7 (vtr l e) y) from rfl,drop_zero,take_length] at hr0
  rcases Bool.eq_false_or_eq_true (fkB y) with hf | hf
  rotate_left
  ·have hk:(if fkB y=true then (0:Int) else 2)=2:=by rw [hf]; rfl
   have hi:itm y (A7 (vtr l e) y)=vbs (A7 (vtr l e) y).length++A7 (vtr l e) y:=by unfold itm; rw [hf]; rfl
   rw [hk] at hr0 hv
   rw [hw 2 (by omega) (by omega),Aa (dcT ⟨by first | rfl | trivial,by omega,by omega,by omega⟩),Af (by rfl),Aa (dcT ⟨by first | rfl | trivial,by omega,by omega,by rw [length_append,F9]; omega⟩),ntN,Aa (by simp only [anE,dcE,length_append,F9]; have:=F6 (A7 (vtr l e) y).length; omega)] at hr0
   rw [hr0,hi,hk,Ic,Ic]
   simp only [length_append,add_assoc,append_assoc]
  ·have hk:(if fkB y=true then (0:Int) else 2)=0:=by rw [hf]; rfl
   have hi:itm y (A7 (vtr l e) y)=A7 (vtr l e) y:=by unfold itm; rw [hf]; rfl
   rw [hk] at hr0 hv
   rw [hw 0 (by omega) (by omega),Aa (dcT ⟨by first | rfl | trivial,by omega,by omega,by omega⟩),Ac (by rfl),Aa (by simp only [anE,dcE,length_append,F9]; omega)] at hr0
   rw [hr0,hi,hk,Ic]
   simp only [length_append,add_assoc,append_assoc]
theorem PB (n:Nat) (z:Rose Lab) (l:List Nd) (a:Nat) (hl:l.length<=40) (hn:Ak z.kids<=n) (hn2:Ao z<=1000000) (hr:Aj z=true) (hh:z.lab.1=4\/z.lab.1=5) : ∀ (j e:Nat) (o:List Int),l.length-e<=j->e<=l.length->o.length<=52*e->(cvs (vks l a e).1).all (NK z)=true->
  Runs prog (TA n) (Ab [(9,Ln n)]) 0 (body f89 0) (Ln n) ([.tp LCd z 0,.sl NCd l,.j (a:Int),.ref 0 0 o.length,.j (e:Int)],[some (.row false none (.int .u8) o)]) (.exit 1) ([.ref 0 0 (o++u8 ((cvs (vks l a e).1).flatMap (chI z))).length,.j ((vks l a e).2:Int)],[some (.row false none (.int .u8) (o++u8 ((cvs (vks l a e).1).flatMap (chI z))))])
 | j,e,o,hj,he,ho,hc=>by
  have hM:maxI=9223372036854775807:=rfl
  by_cases h1:e<l.length
  ·by_cases hup:l[e].2.2.2.1=(a:Int)
   ·have hup2:AY (tys l) e=some (a:Int):=by rw [DW]; unfold upN; rw [gtE h1,<-hup]; rfl
    have hb:=Hm h1
    rw [NV hup2,cvs,all_cons,anE] at hc
    obtain ⟨hs,hs2⟩:=Wp n z l (a:Int) e o h1 hup hl hn hn2 hr hh ho hc.1
    obtain ⟨j,rfl⟩ : ∃ i,j=i+1:=⟨j-1,by omega⟩
    have ih:=PB n z l a hl hn hn2 hr hh j (ven l e) (o++u8 (chI z (vtr l e))) (by omega) hb.2 (by rw [length_append,F9]; omega) hc.2
    rw [NV hup2]
    dsimp only
    rw [cvs,flatMap_cons,Ic,<-append_assoc]
    exact .step _ _ _ _ hs ih
   ·have hup2:AY (tys l) e≠some (a:Int):=by rw [DW]; unfold upN; rw [gtE h1]; simpa using hup
    have hr0:=IF n z l (a:Int) o.length (e:Int) o
    dsimp only [shr] at hr0
    rw [Af (dcT (show (e:Int)<(l.length:Int) by omega)),Aa (by simp only [anE,dcE]; omega),ntN,gtE h1,As,Ac (beq_eq_false_iff_ne.2 hup)] at hr0
    rw [NU hup2,show cvs []=[] from by rw [cvs],List.flatMap_nil,show u8 []=[] from rfl,append_nil]
    exact .stop _ _ _ hr0 (by simp)
  ·have hup2:AY (tys l) e≠some (a:Int):=fun h=>by
    have:=DX h
    rw [Bh] at this; omega
   have hr0:=IF n z l (a:Int) o.length (e:Int) o
   dsimp only [shr] at hr0
   rw [Ac (dcF (show ¬(e:Int)<(l.length:Int) by omega))] at hr0
   rw [NU hup2,show cvs []=[] from by rw [cvs],List.flatMap_nil,show u8 []=[] from rfl,append_nil]
   exact .stop _ _ _ hr0 (by simp)
 termination_by j=>j
theorem Aak (n:Nat):A4 prog (TA n) (Ab [(9,Ln n)]) 0 (f89.body.getD .skip):=by
 refine Ax (a:=body f89 0) (by kernel_rfl) fun d ex d' h=>?_
 unfold Ln at h
 dsimp only at h
 split at h
 ·rename_i z l a m e o
  obtain ⟨hc,hx⟩:=Ae h
  clear h
  rw [anE,dcE] at hc
  obtain ⟨⟨rfl,h0,h1,h2,h3,h4,h5,h6,h7,h8⟩,h9⟩:=hc
  obtain ⟨a,rfl⟩:=eq_ofNat_of_zero_le h0
  obtain ⟨e,rfl⟩:=eq_ofNat_of_zero_le (a:=e) (by omega)
  rw [ntN] at h2 h8 h9 hx
  rw [ntN] at h9 hx
  have q:=Ar hx
  obtain ⟨rfl,rfl⟩:=Prod.mk.inj q
  have hh:z.lab.1=4\/z.lab.1=5:=by unfold Aw at h7; simpa using h7
  exact PB n z l a h3 h4 h5 h6 hh _ e o (le_refl _) h2 h8 h9
 ·cases h
theorem TF {l:List Nd} {a:Nat} (h:a<l.length):vtr l a = .node (l[a].1,l[a].2.1,l[a].2.2.1,l[a].2.2.2.2.1,()) (cvs (bif l[a].2.2.2.2.1 then vks l a (a+1) else ([],a+1)).1)/\ven l a=(bif l[a].2.2.2.2.1 then vks l a (a+1) else ([],a+1)).2:=by
 have e:=RH h
 unfold Ct at e
 rw [Bh] at e
 have hl:=Kz h
 unfold vtr ven
 rw [e] at hl ⊢
 rw [cv] at hl ⊢
 refine ⟨?_,rfl⟩
 have hl:cvL (A5 (tys l) a)=_:=hl
 rw [hl]; rfl
theorem Yo (n:Nat) (z:Rose Lab) (l:List Nd) (a:Int) (hc:(decide (Ao z<=n+1/\Ao z<=1000000/\Aj z=true/\0<=a/\a.toNat<l.length/\l.length<=40)&&sfR (vtr l a.toNat) z)=true):Bt prog (TA n) (Ab [(9,Ln n)]) f89 [.tp LCd z 0,.sl NCd l,.j a] []=some (.tup [.s (A7 (vtr l a.toNat) z),.j (ven l a.toNat:Int)],[]):=by
 rw [anE,dcE] at hc
 obtain ⟨⟨h1,h2,h3,h4,h5,h6⟩,h7⟩:=hc
 obtain ⟨a,rfl⟩:=eq_ofNat_of_zero_le h4
 rw [ntN] at h5 h7 ⊢
 have hM:maxI=9223372036854775807:=rfl
 have hck:=Be z
 obtain ⟨e1,e2⟩:=TF h5
 have hk:=CW (Ck h3).1
 have hw:i64.wrap ((a:Int)+1)=((a+1:Nat):Int):=A3 (by omega)
 rw [Wo]
 dsimp only [shr]
 rw [Aa (by simp only [anE,dcE]; omega),ntN,gtE h5,As,hw]
 rw [e1] at h7 ⊢
 rw [e2]
 have hmany:l[a].2.2.2.2.1=Aw z.lab.1:=by
  rw [sfR] at h7
  by_cases hb:Da l[a].1 l[a].2.1 l[a].2.2.2.2.1 z.lab.1=true
  ·rw [if_pos hb] at h7; cases h7
  ·unfold Da at hb
   rw [or_eq_true] at hb
   have:=fun h=>hb (.inl h)
   simpa using this
 have num:fkB z=true->(ifT (decide ((-1000000000000:Int)<=l[a].1/\l[a].1<=1000000000000)) (ifT (decide (0<=fol l[a].1/\fol l[a].1<=1000000000000)) (some (V.tup [.s (List.map (fun n:Int=>UInt8.ofNat n.toNat) (take (u8 (vbs (fol l[a].1).toNat)).length (drop 0 (u8 (vbs (fol l[a].1).toNat))))),.j ((a+1:Nat):Int)],([]:List (Option Blk))))))=some (V.tup [.s (vbs (fol l[a].1).toNat),.j ((a+1:Nat):Int)],[]):=fun hf=>by
  have hr:=Ul h3 hf h7
  have hr : -1000000000<=l[a].1/\l[a].1<=1000000000:=hr
  have:=DS hr
  rw [Aa (dcT ⟨by omega,by omega⟩),Aa (dcT ⟨by omega,by omega⟩),drop_zero,take_length,Rg]
 have hold:z.lab.1=4\/z.lab.1=5->ifT (decide ((0:Nat)=0/\(0:Int)<=(a:Int)/\(a:Int)<((a+1:Nat):Int)/\(((a+1:Nat):Int)).toNat<=l.length/\l.length<=40/\Ak z.kids<=n/\Ao z<=1000000/\Aj z=true/\Aw z.lab.1=true/\0<=52*(((a+1:Nat):Int)).toNat)&&(cvs (vks l a (((a+1:Nat):Int)).toNat).1).all (NK z)) (some (V.tup [.s (List.map (fun n:Int=>UInt8.ofNat n.toNat) (take (Ag (Cd.int .u8).den++u8 (flatMap (chI z) (cvs (vks l a (((a+1:Nat):Int)).toNat).1))).length (drop 0 (Ag (Cd.int .u8).den++u8 (flatMap (chI z) (cvs (vks l a (((a+1:Nat):Int)).toNat).1)))))),.j ((vks l a (((a+1:Nat):Int)).toNat).2:Int)],([]:List (Option Blk))))=some (.tup [.s ((cvs (vks l a (a+1)).1).flatMap (chI z)),.j ((vks l a (a+1)).2:Int)],[]):=fun hh=>by
  have hx:Aw z.lab.1=true:=by unfold Aw; rcases hh with h | h<;>rw [h]<;>rfl
  rw [hmany,hx,cond_true] at h7
  rw [ntN,Aa (by rw [Aai hh h7,Bool.and_true]; exact dcT ⟨rfl,by omega,by omega,by omega,h6,by omega,h2,h3,hx,by omega⟩),AI,nil_append,drop_zero,take_length,Rg]
 rw [hmany]
 rcases hk with q | q | q | ⟨q,_⟩ | q
 ·have hf:fkB z=true:=by unfold fkB; rw [q]; rfl
  rw [num hf,q,A7,if_neg (by omega),if_pos hf]; rfl
 ·rw [q,A7,if_pos q]; rfl
 ·have hf:fkB z=true:=by unfold fkB; rw [q]; rfl
  rw [num hf,q,A7,if_neg (by omega),if_pos hf]; rfl
 ·rw [hold (.inl q),Pn (.inl q),q]; rfl
 ·rw [hold (.inr q),Pn (.inr q),q]; rfl
theorem Yp : ∀ n,(∀ m,m<n->Ad prog 89 (Ent.rd1 (T4 m)).F)->Ad prog 89 (Ent.rd1 (T4 n)).F
 | 0,_=>AX fun vs bs=>by
  unfold Ent.F T4
  dsimp only
  split
  ·rename_i z l a
   have hk:=Be z
   have:(decide (Ao z<=0/\Ao z<=1000000/\Aj z=true/\0<=a/\a.toNat<l.length/\l.length<=40)&&sfR (vtr l a.toNat) z)=false:=by rw [dcF (by omega)]; rfl
   rw [this]; rfl
  ·rfl
 | n+1,ih=>by
  refine Au (kc func89 (ih n (Nat.lt_succ_self n)) (kc func139 Acm (kc func138 Acl (kc func60 Abf (kc func82 kfk KnowsL.nil))))).knows (Λ:=(Ab [(9,Ln n)])) func89 (c:=f89.body.getD .skip) (by kernel_rfl) fun vs bs r hq hv hb=>?_
  unfold Ent.F T4 at hq
  dsimp only at hq
  split at hq
  ·rename_i z l a
   obtain ⟨hc,hx⟩:=Ae hq
   exact ⟨Aak n,(Yo n z l a hc).trans hx⟩
  ·cases hq
theorem ZF:Ad prog 89 (Ent.rd1 Aal).F:=by
 refine Bb (F:=fun n=>(Ent.rd1 (T4 n)).F) Yp fun vs bs r h=>?_
 unfold Ent.F Aal at h
 dsimp only at h
 split at h
 ·rename_i z l a
  obtain ⟨hc,hx⟩:=Ae h
  refine ⟨Ao z,?_⟩
  show (Br.need (decide (Ao z<=Ao z/\Ao z<=1000000/\Aj z=true/\0<=a/\a.toNat<l.length/\l.length<=40)&&sfR (vtr l a.toNat) z) (.leaf (.tup [.s (A7 (vtr l a.toNat) z),.j (ven l a.toNat:Int)],[]))).run=some r
  have:(decide (Ao z<=Ao z/\Ao z<=1000000/\Aj z=true/\0<=a/\a.toNat<l.length/\l.length<=40)&&sfR (vtr l a.toNat) z)=true:=by
   rw [anE,dcE] at hc ⊢
   exact ⟨⟨le_refl _,hc.1⟩,hc.2⟩
  rw [this]
  exact hx
 ·cases h
def D3 (f:WFd):Bool:=AJ f&&decide (f.2.2.2.1.length<=100000)
def ZM:Gm
 | [.sl FCd l],[]=>.need (decide (l.length<=100000)&&l.all D3) (.leaf (.s (fbs l),[]))
 | _,_=>.no
def LA:LoopEnt:=⟨41,[3,6,7,8],[3],[],fun
 | ([.s s,.sl FCd l,.i .i64 k,.i .i64 i],[])=>.need (decide (0<=i/\i.toNat<=l.length/\k=l.length/\l.length<=100000/\s.length<=200000*i.toNat)&&l.all D3) (.leaf (.exit 0,([.s (s++fbs (l.drop i.toNat))],[])))
 | _=>.no⟩
abbrev Wt:FuncId->Option Ent:=Ab [(90,.rd1 W6),(91,.rd1 QE)]
theorem M1 (s:List UInt8) (l:List WFd) (k i:Int):A0 prog Wt (Ab [(3,LA)]) 0 (body f78 0) LA ([.s s,.sl FCd l,.j k,.j i],[]) =
 ((ifB (decide (i<k)) (ifT (decide ((0:Int)<=i)&&decide (i<(↑l.length:Int))) (Ap l[i.toNat]? fun z=>ifT (decide ((0:Int)<=i64.wrap
 (i64.wrap ((8:Int)*z.fst)+z.snd.fst)/\i64.wrap (i64.wrap ((8:Int)*z.fst)+z.snd.fst)<=(1000000000000:Int))) (ifT (decide (s.length
 + (vbs (i64.wrap (i64.wrap ((8:Int)*z.fst)+z.snd.fst)).toNat).length<=9223372036854775807)) (ifB (z.snd.fst==(0:Int)) (ifT (decide
 ((-1000000000000:Int)<=z.snd.snd.fst/\z.snd.snd.fst<=(1000000000000:Int))) (ifT (decide ((0:Int)<=fol z.snd.snd.fst/\fol z.snd.snd.fst<=(1000000000000 :
 Int))) (ifT (decide ((s++vbs (i64.wrap (i64.wrap ((8:Int)*z.fst)+z.snd.fst)).toNat).length+(vbs (fol z.snd.snd.fst).toNat).length<=
 9223372036854775807)) (some (Ex.normal,[V.s (s++vbs (i64.wrap (i64.wrap ((8:Int)*z.fst)+z.snd.fst)).toNat++vbs (fol
 z.snd.snd.fst).toNat),V.sl FCd l,V.j k,V.j (i64.wrap (i+(1:Int)))],[]))))) (ifT (decide ((0:Int)<=(↑(List.length z.snd.snd.snd.fst):Int)/\
 (↑(List.length z.snd.snd.snd.fst):Int)<=(1000000000000:Int))) (ifT (decide ((vbs (↑(List.length z.snd.snd.snd.fst):Int).toNat).length+List.length
 z.snd.snd.snd.fst<=9223372036854775807)) (ifT (decide ((s++vbs (i64.wrap (i64.wrap ((8:Int)*z.fst)+z.snd.fst)).toNat).length+(vbs
 (↑(List.length z.snd.snd.snd.fst):Int).toNat++z.snd.snd.snd.fst).length<=9223372036854775807)) (some (Ex.normal,[V.s (s++vbs (i64.wrap
 (i64.wrap ((8:Int)*z.fst)+z.snd.fst)).toNat++(vbs (↑(List.length z.snd.snd.snd.fst):Int).toNat++z.snd.snd.snd.fst)),V.sl FCd l,V.j k,V.i .i64
 (i64.wrap (i+(1:Int)))],[]))))))))) (some (Ex.exit 0,[V.s s],[]))):_):=by kernel_rfl
theorem V2 (l:List WFd):AQ prog Wt (Ab [(3,LA)]) f78 [.sl FCd l] [] =
 ((ifT (decide ((0:Int)<=(0:Int)/\0<=l.length/\(↑l.length:Int)=(↑l.length:Int)/\l.length<=100000/\0<=0)&&l.all D3)
 (some (V.s (Ag UInt8++fbs (drop 0 l)),[]))):_):=by kernel_rfl
theorem RL {f:WFd} (h:D3 f=true):(fb1 f).length<=100100:=by
 unfold D3 at h
 rw [anE,dcE] at h
 obtain ⟨h1,h2⟩:=h
 obtain ⟨⟨a1,a2⟩,a3⟩:=D4 h1
 have b1:=Ge (n:=(8*f.1+f.2.1).toNat) (by omega)
 unfold fb1
 rw [length_append]
 split
 ·rename_i q
  rcases a3 with ⟨_,c2,_⟩ | ⟨c1,_⟩
  ·have c3:=DS (Gg c2)
   have b2:=Ge (n:=(fol f.2.2.1).toNat) (by omega)
   omega
  ·omega
 ·have b2:=Ge (n:=f.2.2.2.1.length) (by omega)
  rw [length_append]; omega
theorem X4 (s:List UInt8) (l:List WFd) (i:Nat) (hi:i<l.length) (hl:l.length<=100000) (hs:s.length<=200000*i) (hf:D3 l[i]=true) :
  A0 prog Wt (Ab [(3,LA)]) 0 (body f78 0) LA ([.s s,.sl FCd l,.j (l.length:Int),.j (i:Int)],[])=some (.normal,([.s (s++fb1 l[i]),.sl FCd l,.j (l.length:Int),.j ((i+1:Nat):Int)],[])):=by
 have hb:=RL hf
 rw [M1]
 have hM:maxI=9223372036854775807:=rfl
 rw [Af (dcT (by omega)),Aa (by simp only [anE,dcE]; omega),ntN,gtE hi,As,A3 (n:=i) (by omega)]
 generalize l[i]=z at *
 have hf0:=hf
 unfold D3 at hf
 rw [anE,dcE] at hf
 obtain ⟨h1,h2⟩:=hf
 obtain ⟨⟨a1,a2⟩,a3⟩:=D4 h1
 have e:i64.wrap (i64.wrap (8*z.1)+z.2.1)=8*z.1+z.2.1:=by
  rw [Ay (n:=8*z.1) (by omega) (by omega),Ay (by omega) (by omega)]
 have b1:=Ge (n:=(8*z.1+z.2.1).toNat) (by omega)
 rw [e,Aa (dcT ⟨by omega,by omega⟩),Aa (dcT (by omega))]
 unfold fb1 at hb ⊢
 rcases a3 with ⟨c1,c2,c3⟩ | ⟨c1,c2⟩
 ·have c4:=Gg c2
  have c5:=DS c4
  have b2:=Ge (n:=(fol z.2.2.1).toNat) (by omega)
  rw [Af (by rw [c1]; rfl),Aa (dcT ⟨by omega,by omega⟩),Aa (dcT ⟨by omega,by omega⟩),Aa (dcT (by rw [length_append]; omega)),if_pos c1,append_assoc]
 ·have b2:=Ge (n:=z.2.2.2.1.length) (by omega)
  rw [Ac (by rw [c1]; rfl),ntN,Aa (dcT ⟨by omega,by omega⟩),Aa (dcT (by omega)),Aa (dcT (by rw [length_append,length_append]; omega)),if_neg (by omega),append_assoc]
theorem Pm (l:List WFd) (hl:l.length<=100000) (hf:l.all D3=true) : ∀ (j i:Nat) (s:List UInt8),i+j=l.length->s.length<=200000*i->
  Runs prog Wt (Ab [(3,LA)]) 0 (body f78 0) LA ([.s s,.sl FCd l,.j (l.length:Int),.j (i:Int)],[]) (.exit 0) ([.s (s++fbs (l.drop i))],[])
 | 0,i,s,hi,hs=>by
  have hr:=M1 s l l.length i
  rw [Ac (dcF (by omega))] at hr
  rw [drop_eq_nil_of_le (by omega),show fbs []=[] from rfl,append_nil]
  exact .stop _ _ _ hr (by simp)
 | j+1,i,s,hi,hs=>by
  have hlt:i<l.length:=by omega
  have hfi:=all_eq_true.1 hf _ (getElem_mem hlt)
  have hr:=X4 s l i hlt hl hs hfi
  have hb:=RL hfi
  have ih:=Pm l hl hf j (i+1) (s++fb1 l[i]) (by omega) (by rw [length_append]; omega)
  rw [drop_eq_getElem_cons hlt,CI]
  rw [append_assoc] at ih
  exact .step _ _ _ _ hr ih
theorem ZL:A4 prog Wt (Ab [(3,LA)]) 0 (f78.body.getD .skip):=by
 refine Ax (a:=body f78 0) (by kernel_rfl) fun d ex d' h=>?_
 unfold LA at h
 dsimp only at h
 split at h
 ·rename_i s l k i
  obtain ⟨hc,hx⟩:=Ae h
  clear h
  rw [anE] at hc
  obtain ⟨hc,hf⟩:=hc
  obtain ⟨h0,h1,rfl,h3,h4⟩:=of_decide_eq_true hc
  obtain ⟨i,rfl⟩:=eq_ofNat_of_zero_le h0
  simp only [ntN] at h1 h4 hx
  have h8:=Ar hx
  obtain ⟨rfl,rfl⟩:=Prod.mk.inj h8
  exact Pm l h3 hf (l.length-i) i s (by omega) h4
 ·cases h
theorem Acq:Ad prog 78 (Ent.rd1 ZM).F:=by
 refine Am (kc func90 sv (kc func91 Aa0 KnowsL.nil)).knows (Λ:=(Ab [(3,LA)])) func78 (c:=f78.body.getD .skip) (by kernel_rfl) fun vs bs r hq hv hb=>?_
 unfold Ent.F ZM at hq
 dsimp only at hq
 split at hq
 ·rename_i l
  obtain ⟨hc,hx⟩:=Ae hq
  rw [anE] at hc
  obtain ⟨h1,h2⟩:=hc
  have h1:=of_decide_eq_true h1
  refine ⟨ZL,Eq.trans ?_ hx⟩
  rw [V2,Aa (by rw [h2,Bool.and_true]; exact dcT ⟨by omega,by omega,rfl,h1,by omega⟩)]
  rfl
 ·cases hq
def PM:Rose An:=.node (0,[],0,false,()) []
def Eg (n:Int) (z:Rose Lab):Bool:=z.lab.1 != 3||(decide (0<=n/\n<=z.lab.2.2.2.2.1))
def Bp (z:Rose Lab) (s:List UInt8):Rose An:=match EA s with
 | some fs=>(match B3 z.kids fs with | some vs=>.node (0,[],0,true,()) vs | none=>PM)
 | none=>PM
def BG (z:Rose Lab) (s:List UInt8):Rose An:=if z.lab.1=2 then .node (0,s,0,false,()) [] else if z.lab.1=5 then Bp z s else (match Em z.kids s with
 | some vs=>.node (0,[],0,true,()) vs
 | none=>PM)
def rsN (n:Nat):Gm
 | [.s s,.agg [.i .i64 y0,.s y1,.i .i64 y2,.b y3,.i .i64 y4,.sl (.rose LCd) ys]],[]=>.need (decide (s.length<=400/\y0=5/\Aj (.node (y0,y1,y2,y3,y4,()) ys:Rose Lab)=true/\Ao (.node (y0,y1,y2,y3,y4,()) ys:Rose Lab)<=n/\Ao (.node (y0,y1,y2,y3,y4,()) ys:Rose Lab)<=1000000)) (.leaf (.tup [.agg [.i .i64 (Bp (.node (y0,y1,y2,y3,y4,()) ys:Rose Lab) s).lab.1,.s (Bp (.node (y0,y1,y2,y3,y4,()) ys:Rose Lab) s).lab.2.1,.i .i64 (Bp (.node (y0,y1,y2,y3,y4,()) ys:Rose Lab) s).lab.2.2.1,.b (Bp (.node (y0,y1,y2,y3,y4,()) ys:Rose Lab) s).lab.2.2.2.1,.ref 0 0 (Bp (.node (y0,y1,y2,y3,y4,()) ys:Rose Lab) s).kids.length],.b (AO (.node (y0,y1,y2,y3,y4,()) ys:Rose Lab) s 0).isSome],[some (.row false none (.rose VCd) (Bp (.node (y0,y1,y2,y3,y4,()) ys:Rose Lab) s).kids)]))
 | _,_=>.no
def ptN (n:Nat):Gm
 | [.s s,.agg [.i .i64 y0,.s y1,.i .i64 y2,.b y3,.i .i64 y4,.sl (.rose LCd) ys]],[]=>.need (decide (s.length<=400/\fkB (.node (y0,y1,y2,y3,y4,()) ys:Rose Lab)=false/\Aj (.node (y0,y1,y2,y3,y4,()) ys:Rose Lab)=true/\Ao (.node (y0,y1,y2,y3,y4,()) ys:Rose Lab)<=n/\Ao (.node (y0,y1,y2,y3,y4,()) ys:Rose Lab)<=1000000)) (.leaf (.tup [.agg [.i .i64 (BG (.node (y0,y1,y2,y3,y4,()) ys:Rose Lab) s).lab.1,.s (BG (.node (y0,y1,y2,y3,y4,()) ys:Rose Lab) s).lab.2.1,.i .i64 (BG (.node (y0,y1,y2,y3,y4,()) ys:Rose Lab) s).lab.2.2.1,.b (BG (.node (y0,y1,y2,y3,y4,()) ys:Rose Lab) s).lab.2.2.2.1,.ref 0 0 (BG (.node (y0,y1,y2,y3,y4,()) ys:Rose Lab) s).kids.length],.b (AO (.node (y0,y1,y2,y3,y4,()) ys:Rose Lab) s 0).isSome],[some (.row false none (.rose VCd) (BG (.node (y0,y1,y2,y3,y4,()) ys:Rose Lab) s).kids)]))
 | _,_=>.no
def So:Gm
 | [.agg [.i .i64 y0,.s y1,.i .i64 y2,.b y3,.i .i64 y4,.sl (.rose LCd) ys]],[]=>.leaf (.b (fkB (.node (y0,y1,y2,y3,y4,()) ys:Rose Lab)),[])
 | _,_=>.no
def Kw:Gm
 | [.agg [.i .i64 v0,.s _,.i .i64 _,.b _,.sl (.rose VCd) _],.agg [.i .i64 y0,.s y1,.i .i64 y2,.b y3,.i .i64 y4,.sl (.rose LCd) ys]],[]=>.leaf (.b (Eg v0 (.node (y0,y1,y2,y3,y4,()) ys:Rose Lab)),[])
 | _,_=>.no
def E9 (l:List WFd) (i:Nat):Bool:=(List.range l.length).drop i |>.all (CG (DD l))
def rsE (n:Nat):LoopEnt:=⟨95,[3,4,6,8,23,24,25],[3,4,8],[4,5],fun
 | ([.ptr 0 0,.ptr 1 0,.ref 2 0 w,.ptr 3 0,.ref 2 0 w2,.i .i64 c,.i .i64 i],[some (.box [.i .i64 y0,.s y1,.i .i64 y2,.b y3,.i .i64 y4,.sl (.rose LCd) ys]),some (.box [.i .i64 0,.s [],.i .i64 0,.b false,.ref 4 0 0]),some (.row false none FCd fs),some (.box [.i .i64 0,.s [],.i .i64 0,.b true,.ref 5 0 m]),some (.row false none (.rose VCd) []),some (.row false none (.rose VCd) vs)])=>.need (decide (w=fs.length/\w2=fs.length/\c=fs.length/\0<=i/\i.toNat<=fs.length/\fs.length<=40/\m=vs.length/\m<=i/\(fs.all fun x=>AJ x)=true/\mxD fs<=400/\A8 5 ys=true/\Ak ys<=n/\Ak ys<=1000000)) (.br ((E9 fs i.toNat)&&(B3 ys (fs.drop i.toNat)).isSome) (.leaf (.exit 0,([.ptr 0 0,.ptr 1 0,.ptr 2 0],[some (.box [.i .i64 y0,.s y1,.i .i64 y2,.b y3,.i .i64 y4,.sl (.rose LCd) ys]),some (.box [.i .i64 0,.s [],.i .i64 0,.b false,.ref 3 0 0]),some (.box [.i .i64 0,.s [],.i .i64 0,.b true,.ref 4 0 (vs++(B3 ys (fs.drop i.toNat)).getD []).length]),some (.row false none (.rose VCd) []),some (.row false none (.rose VCd) (vs++(B3 ys (fs.drop i.toNat)).getD []))]))) (.leaf (.ret,([.ptr 0 0,.b false],[some (.box [.i .i64 0,.s [],.i .i64 0,.b false,.ref 1 0 0]),some (.row false none (.rose VCd) [])]))))
 | _=>.no⟩
def ptE (n:Nat):LoopEnt:=⟨100,[0,3,4,6,7],[4,6],[4,5],fun
 | ([.s s,.ptr 0 0,.ptr 1 0,.ptr 2 0,.i .i64 a],[some (.box [.i .i64 _,.s _,.i .i64 _,.b _,.i .i64 _,.sl (.rose LCd) ys]),some (.box [.i .i64 0,.s [],.i .i64 0,.b false,.ref 3 0 0]),some (.box [.i .i64 0,.s [],.i .i64 0,.b true,.ref 4 0 m]),some (.row false none (.rose VCd) []),some (.row false none (.rose VCd) vs)])=>.need (decide (0<=a/\a.toNat<=s.length/\s.length<=400/\m=vs.length/\m<=a/\ys.length=1/\ys.all Aj=true/\Ak ys<=n/\Ak ys<=1000000)) (.br (BE (fkB (hd0 ys)) (fun n=>A6 (hd0 ys) n 0) (fun d=>AO (hd0 ys) d 0) s (s.length-a.toNat) a.toNat).isSome (.leaf (.exit 1,([.ptr 0 0,.ptr 1 0],[some (.box [.i .i64 0,.s [],.i .i64 0,.b false,.ref 2 0 0]),some (.box [.i .i64 0,.s [],.i .i64 0,.b true,.ref 3 0 (vs++(BE (fkB (hd0 ys)) (fun n=>A6 (hd0 ys) n 0) (fun d=>AO (hd0 ys) d 0) s (s.length-a.toNat) a.toNat).getD []).length]),some (.row false none (.rose VCd) []),some (.row false none (.rose VCd) (vs++(BE (fkB (hd0 ys)) (fun n=>A6 (hd0 ys) n 0) (fun d=>AO (hd0 ys) d 0) s (s.length-a.toNat) a.toNat).getD []))]))) (.leaf (.ret,([.ptr 0 0,.b false],[some (.box [.i .i64 0,.s [],.i .i64 0,.b false,.ref 1 0 0]),some (.row false none (.rose VCd) [])]))))
 | _=>.no⟩
theorem WL (y0:Int) (y1:List UInt8) (y2:Int) (y3:Bool) (y4:Int) (ys:List (Rose Lab)):AQ prog (Ab []) (Ab []) f83 [.agg [.j y0,.s y1,.j y2,.b y3,.j y4,.sl (.rose LCd) ys]] []=some (.b (fkB (.node (y0,y1,y2,y3,y4,()) ys:Rose Lab)),[]):=by
 have e:AQ prog (Ab []) (Ab []) f83 [.agg [.j y0,.s y1,.j y2,.b y3,.j y4,.sl (.rose LCd) ys]] []=((ifB (y0==(1:Int)) (some (V.b true,[])) (some (V.b (y0==(3:Int)),[]))):_):=by kernel_rfl
 rw [e]
 clear e
 show _=some (V.b (y0==1||y0==3),[])
 cases y0==1<;>rfl
theorem sfk:Ad prog 83 (Ent.rd1 So).F:=by
 refine Am KnowsL.nil.knows (Λ:=Ab []) func83 (c:=f83.body.getD .skip) (by kernel_rfl) fun vs bs r' hq hv hb=>?_
 unfold Ent.F So at hq
 dsimp only at hq
 split at hq
 ·exact ⟨Aq _,(WL _ _ _ _ _ _ ).trans hq⟩
 ·cases hq
theorem ON (v0:Int) (v1:List UInt8) (v2:Int) (v3:Bool) (vs:List (Rose An)) (y0:Int) (y1:List UInt8) (y2:Int) (y3:Bool) (y4:Int) (ys:List (Rose Lab)):AQ prog (Ab [(94,.rd1 AE)]) (Ab []) f109 [.agg [.j v0,.s v1,.j v2,.b v3,.sl (.rose VCd) vs],.agg [.j y0,.s y1,.j y2,.b y3,.j y4,.sl (.rose LCd) ys]] []=some (.b (Eg v0 (.node (y0,y1,y2,y3,y4,()) ys:Rose Lab)),[]):=by
 have e:AQ prog (Ab [(94,.rd1 AE)]) (Ab []) f109 [.agg [.j v0,.s v1,.j v2,.b v3,.sl (.rose VCd) vs],.agg [.j y0,.s y1,.j y2,.b y3,.j y4,.sl (.rose LCd) ys]] []=((ifB (y0 != (3:Int)) (some (V.b true,[])) (some (V.b (decide ((0:Int)<=v0/\v0<=y4)),[]))):_):=by kernel_rfl
 rw [e]
 clear e
 show _=some (V.b (y0 != 3||decide (0<=v0/\v0<=y4)),[])
 cases y0 != 3<;>rfl
theorem R9:Ad prog 109 (Ent.rd1 Kw).F:=by
 refine Am (kc func94 OW KnowsL.nil).knows (Λ:=Ab []) func109 (c:=f109.body.getD .skip) (by kernel_rfl) fun vs bs r' hq hv hb=>?_
 unfold Ent.F Kw at hq
 dsimp only at hq
 split at hq
 ·exact ⟨Aq _,(ON _ _ _ _ _ _ _ _ _ _ _ ).trans hq⟩
 ·cases hq
abbrev LG (n:Nat):FuncId->Option Ent:=Ab [(107,.rd1 Zb),(62,.rd1 byG),(83,.rd1 So),(108,.rd1 (ptN n)),(109,.rd1 Kw),(99,.rd1 Nq)]
theorem Oz (n:Nat) (y0:Int) (y1:List UInt8) (y2:Int) (y3:Bool) (y4:Int) (ys:List (Rose Lab)) (w w2 m:Nat) (c i:Int) (fs:List WFd) (vs:List (Rose An)):A0 prog (LG n) (Ab [(6,rsE n)]) 0 (body f56 0) (rsE n) ([.ptr 0 0,.ptr 1 0,.ref 2 0 w,.ptr 3 0,.ref 2 0 w2,.j c,.j i],[some (.box [.j y0,.s y1,.j y2,.b y3,.j y4,.sl (.rose LCd) ys]),some (.box [.j 0,.s [],.j 0,.b false,.ref 4 0 0]),some (.row false none FCd fs),some (.box [.j 0,.s [],.j 0,.b true,.ref 5 0 m]),some (.row false none (.rose VCd) []),some (.row false none (.rose VCd) vs)]) =
 ((ifB (decide (i<c)) (ifT (decide ((0:Int)<=i)&&decide (i<(↑w2:Int))) (Ap fs[0+i.toNat]? fun z=>ifB (decide (i>(0:Int))) (ifT (decide ((0 :
 Int)<=i64.wrap (i-(1:Int)))&&decide (i64.wrap (i-(1:Int))<(↑w:Int))) (Ap fs[0+(i64.wrap (i-(1:Int))).toNat]? fun
 z_1=>ifB (decide (z_1.fst>=z.fst)) (some (Ex.ret,[V.ptr 0 0,V.b false],[some (Blk.box [V.j 0,V.s (Ag UInt8),V.j 0,V.b false,V.ref 1 0 0]),some
 (Blk.row false none VCd.rose (Ag VCd.rose.den))])) (ifT (decide (ys.length<=maxI)) (ifB (Bu z.fst ys) (ifB (!fkB (Rose.node ((byR z.fst ys).lab.fst,(byR z.fst
 ys).lab.snd.fst,(byR z.fst ys).lab.snd.snd.fst,(byR z.fst ys).lab.snd.snd.snd.fst,(byR z.fst ys).lab.snd.snd.snd.snd.fst,()) (byR z.fst ys).kids)==(z.snd.fst==(0
 : Int))) (some (Ex.ret,[V.ptr 0 0,V.b false],[some (Blk.box [V.j 0,V.s (Ag UInt8),V.j 0,V.b false,V.ref 1 0 0]),some (Blk.row false none VCd.rose
 (Ag VCd.rose.den))])) (ifB (z.snd.fst==(2:Int)) (ifT (decide (List.length z.snd.snd.snd.fst<=400/\fkB (Rose.node ((byR z.fst ys).lab.fst,(byR z.fst
 ys).lab.snd.fst,(byR z.fst ys).lab.snd.snd.fst,(byR z.fst ys).lab.snd.snd.snd.fst,(byR z.fst ys).lab.snd.snd.snd.snd.fst,()) (byR z.fst ys).kids)=false/\Aj
 (Rose.node ((byR z.fst ys).lab.fst,(byR z.fst ys).lab.snd.fst,(byR z.fst ys).lab.snd.snd.fst,(byR z.fst ys).lab.snd.snd.snd.fst,(byR z.fst
 ys).lab.snd.snd.snd.snd.fst,()) (byR z.fst ys).kids)=true/\Ao (Rose.node ((byR z.fst ys).lab.fst,(byR z.fst ys).lab.snd.fst,(byR z.fst ys).lab.snd.snd.fst,(byR
 z.fst ys).lab.snd.snd.snd.fst,(byR z.fst ys).lab.snd.snd.snd.snd.fst,()) (byR z.fst ys).kids)<=n/\Ao (Rose.node ((byR z.fst ys).lab.fst,(byR z.fst ys).lab.snd.fst,
 (byR z.fst ys).lab.snd.snd.fst,(byR z.fst ys).lab.snd.snd.snd.fst,(byR z.fst ys).lab.snd.snd.snd.snd.fst,()) (byR z.fst ys).kids)<=1000000)) (ifB (!(AO
 (Rose.node ((byR z.fst ys).lab.fst,(byR z.fst ys).lab.snd.fst,(byR z.fst ys).lab.snd.snd.fst,(byR z.fst ys).lab.snd.snd.snd.fst,(byR z.fst
 ys).lab.snd.snd.snd.snd.fst,()) (byR z.fst ys).kids) z.snd.snd.snd.fst (0:Int)).isSome) (some (Ex.ret,[V.ptr 0 0,V.b false],[some (Blk.box [V.j 0,V.s (Ag
 UInt8),V.j 0,V.b false,V.ref 1 0 0]),some (Blk.row false none VCd.rose (Ag VCd.rose.den))])) (ifB (!Eg (BG (Rose.node ((byR z.fst ys).lab.fst,(byR z.fst
 ys).lab.snd.fst,(byR z.fst ys).lab.snd.snd.fst,(byR z.fst ys).lab.snd.snd.snd.fst,(byR z.fst ys).lab.snd.snd.snd.snd.fst,()) (byR z.fst ys).kids)
 z.snd.snd.snd.fst).lab.fst (Rose.node ((byR z.fst ys).lab.fst,(byR z.fst ys).lab.snd.fst,(byR z.fst ys).lab.snd.snd.fst,(byR z.fst ys).lab.snd.snd.snd.fst,(byR z.fst
 ys).lab.snd.snd.snd.snd.fst,()) (byR z.fst ys).kids)) (some (Ex.ret,[V.ptr 0 0,V.b false],[some (Blk.box [V.j 0,V.s (Ag UInt8),V.j 0,V.b false,V.ref 1
 0 0]),some (Blk.row false none VCd.rose (Ag VCd.rose.den))])) (ifT (decide ((m+1)*64<=140737488355328)&&decide (m+1<=maxI))
 (some (Ex.normal,[V.ptr 0 0,V.ptr 1 0,V.ref 2 0 w,V.ptr 3 0,V.ref 2 0 w2,V.j c,V.j (i64.wrap (i+(1:Int)))],[some (Blk.box [V.j y0,V.s
 y1,V.j y2,V.b y3,V.j y4,V.sl LCd.rose ys]),some (Blk.box [V.j 0,V.s (Ag UInt8),V.j 0,V.b false,V.ref 4 0 0]),some (Blk.row false none FCd
 fs),some (Blk.box [V.j 0,V.s (Ag UInt8),V.j 0,V.b true,V.ref 5 0 (m+1)]),some (Blk.row false none VCd.rose (Ag VCd.rose.den)),some (Blk.row
 false none VCd.rose (take m (drop 0 vs)++Rose.node ((BG (Rose.node ((byR z.fst ys).lab.fst,(byR z.fst ys).lab.snd.fst,(byR z.fst
 ys).lab.snd.snd.fst,(byR z.fst ys).lab.snd.snd.snd.fst,(byR z.fst ys).lab.snd.snd.snd.snd.fst,()) (byR z.fst ys).kids) z.snd.snd.snd.fst).lab.fst,(BG (Rose.node
 ((byR z.fst ys).lab.fst,(byR z.fst ys).lab.snd.fst,(byR z.fst ys).lab.snd.snd.fst,(byR z.fst ys).lab.snd.snd.snd.fst,(byR z.fst ys).lab.snd.snd.snd.snd.fst,()) (byR
 z.fst ys).kids) z.snd.snd.snd.fst).lab.snd.fst,z.fst,(BG (Rose.node ((byR z.fst ys).lab.fst,(byR z.fst ys).lab.snd.fst,(byR z.fst ys).lab.snd.snd.fst,(byR z.fst
 ys).lab.snd.snd.snd.fst,(byR z.fst ys).lab.snd.snd.snd.snd.fst,()) (byR z.fst ys).kids) z.snd.snd.snd.fst).lab.snd.snd.snd.fst,()) (take (BG (Rose.node ((byR
 z.fst ys).lab.fst,(byR z.fst ys).lab.snd.fst,(byR z.fst ys).lab.snd.snd.fst,(byR z.fst ys).lab.snd.snd.snd.fst,(byR z.fst ys).lab.snd.snd.snd.snd.fst,()) (byR z.fst
 ys).kids) z.snd.snd.snd.fst).kids.length (drop 0 (BG (Rose.node ((byR z.fst ys).lab.fst,(byR z.fst ys).lab.snd.fst,(byR z.fst ys).lab.snd.snd.fst,(byR
 z.fst ys).lab.snd.snd.snd.fst,(byR z.fst ys).lab.snd.snd.snd.snd.fst,()) (byR z.fst ys).kids) z.snd.snd.snd.fst).kids))::Ag VCd.rose.den))])))))) (ifB (!Eg
 z.snd.snd.fst (Rose.node ((byR z.fst ys).lab.fst,(byR z.fst ys).lab.snd.fst,(byR z.fst ys).lab.snd.snd.fst,(byR z.fst ys).lab.snd.snd.snd.fst,(byR z.fst
 ys).lab.snd.snd.snd.snd.fst,()) (byR z.fst ys).kids)) (some (Ex.ret,[V.ptr 0 0,V.b false],[some (Blk.box [V.j 0,V.s (Ag UInt8),V.j 0,V.b false,V.ref 1
 0 0]),some (Blk.row false none VCd.rose (Ag VCd.rose.den))])) (ifT (decide ((m+1)*64<=140737488355328)&&decide (m+1<=maxI))
 (some (Ex.normal,[V.ptr 0 0,V.ptr 1 0,V.ref 2 0 w,V.ptr 3 0,V.ref 2 0 w2,V.j c,V.j (i64.wrap (i+(1:Int)))],[some (Blk.box [V.j y0,V.s
 y1,V.j y2,V.b y3,V.j y4,V.sl LCd.rose ys]),some (Blk.box [V.j 0,V.s (Ag UInt8),V.j 0,V.b false,V.ref 4 0 0]),some (Blk.row false none FCd
 fs),some (Blk.box [V.j 0,V.s (Ag UInt8),V.j 0,V.b true,V.ref 5 0 (m+1)]),some (Blk.row false none VCd.rose (Ag VCd.rose.den)),some (Blk.row
 false none VCd.rose (take m (drop 0 vs)++Rose.node (z.snd.snd.fst,Ag UInt8,z.fst,false,()) (Ag VCd.rose.den)::Ag VCd.rose.den))]))))))
 (some (Ex.normal,[V.ptr 0 0,V.ptr 1 0,V.ref 2 0 w,V.ptr 3 0,V.ref 2 0 w2,V.j c,V.j (i64.wrap (i+(1:Int)))],[some (Blk.box [V.j y0,V.s
 y1,V.j y2,V.b y3,V.j y4,V.sl LCd.rose ys]),some (Blk.box [V.j 0,V.s (Ag UInt8),V.j 0,V.b false,V.ref 4 0 0]),some (Blk.row false none FCd
 fs),some (Blk.box [V.j 0,V.s (Ag UInt8),V.j 0,V.b true,V.ref 5 0 m]),some (Blk.row false none VCd.rose (Ag VCd.rose.den)),some (Blk.row false none
 VCd.rose vs)])))))) (ifT (decide (ys.length<=maxI)) (ifB (Bu z.fst ys) (ifB (!fkB (Rose.node ((byR z.fst ys).lab.fst,(byR z.fst ys).lab.snd.fst,(byR z.fst
 ys).lab.snd.snd.fst,(byR z.fst ys).lab.snd.snd.snd.fst,(byR z.fst ys).lab.snd.snd.snd.snd.fst,()) (byR z.fst ys).kids)==(z.snd.fst==(0:Int))) (some (Ex.ret,
 [V.ptr 0 0,V.b false],[some (Blk.box [V.j 0,V.s (Ag UInt8),V.j 0,V.b false,V.ref 1 0 0]),some (Blk.row false none VCd.rose (Ag VCd.rose.den))])) (ifB
 (z.snd.fst==(2:Int)) (ifT (decide (List.length z.snd.snd.snd.fst<=400/\fkB (Rose.node ((byR z.fst ys).lab.fst,(byR z.fst ys).lab.snd.fst,(byR z.fst
 ys).lab.snd.snd.fst,(byR z.fst ys).lab.snd.snd.snd.fst,(byR z.fst ys).lab.snd.snd.snd.snd.fst,()) (byR z.fst ys).kids)=false/\Aj (Rose.node ((byR z.fst
 ys).lab.fst,(byR z.fst ys).lab.snd.fst,(byR z.fst ys).lab.snd.snd.fst,(byR z.fst ys).lab.snd.snd.snd.fst,(byR z.fst ys).lab.snd.snd.snd.snd.fst,()) (byR z.fst
 ys).kids)=true/\Ao (Rose.node ((byR z.fst ys).lab.fst,(byR z.fst ys).lab.snd.fst,(byR z.fst ys).lab.snd.snd.fst,(byR z.fst ys).lab.snd.snd.snd.fst,(byR z.fst
 ys).lab.snd.snd.snd.snd.fst,()) (byR z.fst ys).kids)<=n/\Ao (Rose.node ((byR z.fst ys).lab.fst,(byR z.fst ys).lab.snd.fst,(byR z.fst ys).lab.snd.snd.fst,(byR
 z.fst ys).lab.snd.snd.snd.fst,(byR z.fst ys).lab.snd.snd.snd.snd.fst,()) (byR z.fst ys).kids)<=1000000)) (ifB (!(AO (Rose.node ((byR z.fst ys).lab.fst,(byR
 z.fst ys).lab.snd.fst,(byR z.fst ys).lab.snd.snd.fst,(byR z.fst ys).lab.snd.snd.snd.fst,(byR z.fst ys).lab.snd.snd.snd.snd.fst,()) (byR z.fst ys).kids)
 z.snd.snd.snd.fst (0:Int)).isSome) (some (Ex.ret,[V.ptr 0 0,V.b false],[some (Blk.box [V.j 0,V.s (Ag UInt8),V.j 0,V.b false,V.ref 1 0 0]),some
 (Blk.row false none VCd.rose (Ag VCd.rose.den))])) (ifB (!Eg (BG (Rose.node ((byR z.fst ys).lab.fst,(byR z.fst ys).lab.snd.fst,(byR z.fst ys).lab.snd.snd.fst,
 (byR z.fst ys).lab.snd.snd.snd.fst,(byR z.fst ys).lab.snd.snd.snd.snd.fst,()) (byR z.fst ys).kids) z.snd.snd.snd.fst).lab.fst (Rose.node ((byR z.fst ys).lab.fst,(byR
 z.fst ys).lab.snd.fst,(byR z.fst ys).lab.snd.snd.fst,(byR z.fst ys).lab.snd.snd.snd.fst,(byR z.fst ys).lab.snd.snd.snd.snd.fst,()) (byR z.fst ys).kids)) (some
 (Ex.ret,[V.ptr 0 0,V.b false],[some (Blk.box [V.j 0,V.s (Ag UInt8),V.j 0,V.b false,V.ref 1 0 0]),some (Blk.row false none VCd.rose (Ag
 VCd.rose.den))])) (ifT (decide ((m+1)*64<=140737488355328)&&decide (m+1<=maxI)) (some (Ex.normal,[V.ptr 0 0,V.ptr 1 0,V.ref 2
 0 w,V.ptr 3 0,V.ref 2 0 w2,V.j c,V.j (i64.wrap (i+(1:Int)))],[some (Blk.box [V.j y0,V.s y1,V.j y2,V.b y3,V.j y4,V.sl
 LCd.rose ys]),some (Blk.box [V.j 0,V.s (Ag UInt8),V.j 0,V.b false,V.ref 4 0 0]),some (Blk.row false none FCd fs),some (Blk.box [V.j 0,V.s (Ag
 UInt8),V.j 0,V.b true,V.ref 5 0 (m+1)]),some (Blk.row false none VCd.rose (Ag VCd.rose.den)),some (Blk.row false none VCd.rose (take m
 (drop 0 vs)++Rose.node ((BG (Rose.node ((byR z.fst ys).lab.fst,(byR z.fst ys).lab.snd.fst,(byR z.fst ys).lab.snd.snd.fst,(byR z.fst
 ys).lab.snd.snd.snd.fst,(byR z.fst ys).lab.snd.snd.snd.snd.fst,()) (byR z.fst ys).kids) z.snd.snd.snd.fst).lab.fst,(BG (Rose.node ((byR z.fst ys).lab.fst,(byR
 z.fst ys).lab.snd.fst,(byR z.fst ys).lab.snd.snd.fst,(byR z.fst ys).lab.snd.snd.snd.fst,(byR z.fst ys).lab.snd.snd.snd.snd.fst,()) (byR z.fst ys).kids)
 z.snd.snd.snd.fst).lab.snd.fst,z.fst,(BG (Rose.node ((byR z.fst ys).lab.fst,(byR z.fst ys).lab.snd.fst,(byR z.fst ys).lab.snd.snd.fst,(byR z.fst
 ys).lab.snd.snd.snd.fst,(byR z.fst ys).lab.snd.snd.snd.snd.fst,()) (byR z.fst ys).kids) z.snd.snd.snd.fst).lab.snd.snd.snd.fst,()) (take (BG (Rose.node ((byR
 z.fst ys).lab.fst,(byR z.fst ys).lab.snd.fst,(byR z.fst ys).lab.snd.snd.fst,(byR z.fst ys).lab.snd.snd.snd.fst,(byR z.fst ys).lab.snd.snd.snd.snd.fst,()) (byR z.fst
 ys).kids) z.snd.snd.snd.fst).kids.length (drop 0 (BG (Rose.node ((byR z.fst ys).lab.fst,(byR z.fst ys).lab.snd.fst,(byR z.fst ys).lab.snd.snd.fst,(byR
 z.fst ys).lab.snd.snd.snd.fst,(byR z.fst ys).lab.snd.snd.snd.snd.fst,()) (byR z.fst ys).kids) z.snd.snd.snd.fst).kids))::Ag VCd.rose.den))])))))) (ifB (!Eg
 z.snd.snd.fst (Rose.node ((byR z.fst ys).lab.fst,(byR z.fst ys).lab.snd.fst,(byR z.fst ys).lab.snd.snd.fst,(byR z.fst ys).lab.snd.snd.snd.fst,(byR z.fst
 ys).lab.snd.snd.snd.snd.fst,()) (byR z.fst ys).kids)) (some (Ex.ret,[V.ptr 0 0,V.b false],[some (Blk.box [V.j 0,V.s (Ag UInt8),V.j 0,V.b false,V.ref 1
 0 0]),some (Blk.row false none VCd.rose (Ag VCd.rose.den))])) (ifT (decide ((m+1)*64<=140737488355328)&&decide (m+1<=maxI))
 (some (Ex.normal,[V.ptr 0 0,V.ptr 1 0,V.ref 2 0 w,V.ptr 3 0,V.ref 2 0 w2,V.j c,V.j (i64.wrap (i+(1:Int)))],[some (Blk.box [V.j y0,V.s
 y1,V.j y2,V.b y3,V.j y4,V.sl LCd.rose ys]),some (Blk.box [V.j 0,V.s (Ag UInt8),V.j 0,V.b false,V.ref 4 0 0]),some (Blk.row false none FCd
 fs),some (Blk.box [V.j 0,V.s (Ag UInt8),V.j 0,V.b true,V.ref 5 0 (m+1)]),some (Blk.row false none VCd.rose (Ag VCd.rose.den)),some (Blk.row
 false none VCd.rose (take m (drop 0 vs)++Rose.node (z.snd.snd.fst,Ag UInt8,z.fst,false,()) (Ag VCd.rose.den)::Ag VCd.rose.den))]))))))
 (some (Ex.normal,[V.ptr 0 0,V.ptr 1 0,V.ref 2 0 w,V.ptr 3 0,V.ref 2 0 w2,V.j c,V.j (i64.wrap (i+(1:Int)))],[some (Blk.box [V.j y0,V.s
 y1,V.j y2,V.b y3,V.j y4,V.sl LCd.rose ys]),some (Blk.box [V.j 0,V.s (Ag UInt8),V.j 0,V.b false,V.ref 4 0 0]),some (Blk.row false none FCd
 fs),some (Blk.box [V.j 0,V.s (Ag UInt8),V.j 0,V.b true,V.ref 5 0 m]),some (Blk.row false none VCd.rose (Ag VCd.rose.den)),some (Blk.row false none
 VCd.rose vs)])))))) (some (Ex.exit 0,[V.ptr 0 0,V.ptr 1 0,V.ptr 2 0],[some (Blk.box [V.j y0,V.s y1,V.j y2,V.b y3,V.j y4,V.sl LCd.rose ys]),some
 (Blk.box [V.j 0,V.s (Ag UInt8),V.j 0,V.b false,V.ref 3 0 0]),some (Blk.box [V.j 0,V.s (Ag UInt8),V.j 0,V.b true,V.ref 4 0 m]),some
 (Blk.row false none VCd.rose (Ag VCd.rose.den)),some (Blk.row false none VCd.rose vs)]))):_):=by kernel_rfl
theorem WN (n:Nat) (s:List UInt8) (y0:Int) (y1:List UInt8) (y2:Int) (y3:Bool) (y4:Int) (ys:List (Rose Lab)):Bt prog (LG n) (Ab [(6,rsE n)]) f56 [.s s,.agg [.j y0,.s y1,.j y2,.b y3,.j y4,.sl (.rose LCd) ys]] [] =
 ((ifT (decide (s.length<=4000000000)) (ifB (!(CO s).isSome) (some (V.tup [V.agg [V.j 0,V.s (Ag UInt8),V.j 0,V.b false,V.ref 0 0 0],V.b false],
 [some (Blk.row false none VCd.rose (Ag VCd.rose.den))])) (ifT (decide (((CO s).getD (Ag WFd)).length=((CO s).getD (Ag WFd)).length/\((CO s).getD (Ag
 WFd)).length=((CO s).getD (Ag WFd)).length/\(↑((CO s).getD (Ag WFd)).length:Int)=(↑((CO s).getD (Ag WFd)).length:Int)/\(0:Int)<=(0:Int)/\(0 :
 Nat)<=((CO s).getD (Ag WFd)).length/\((CO s).getD (Ag WFd)).length<=40/\0=0/\(↑(0:Nat):Int)<=(0:Int)/\(((CO s).getD (Ag
 WFd)).all fun x=>AJ x)=true/\mxD ((CO s).getD (Ag WFd))<=400/\A8 (5:Int) ys=true/\Ak ys<=n/\Ak ys<=1000000)) (ifB (E9
 ((CO s).getD (Ag WFd)) 0&&(B3 ys (drop 0 ((CO s).getD (Ag WFd)))).isSome) (ifT (decide (ys.length<=maxI/\(take (Ag VCd.rose.den
 ++ (B3 ys (drop 0 ((CO s).getD (Ag WFd)))).getD (Ag (Rose An))).length (drop 0 (Ag VCd.rose.den++(B3 ys (drop 0
 ((CO s).getD (Ag WFd)))).getD (Ag (Rose An))))).length<=maxI)) (some (V.tup [V.agg [V.j 0,V.s (Ag UInt8),V.j 0,V.b true,V.ref 0 0 (Ag
 VCd.rose.den++(B3 ys (drop 0 ((CO s).getD (Ag WFd)))).getD (Ag (Rose An))).length],V.b (B6 (take (Ag VCd.rose.den++(B3 ys
 (drop 0 ((CO s).getD (Ag WFd)))).getD (Ag (Rose An))).length (drop 0 (Ag VCd.rose.den++(B3 ys (drop 0 ((CO s).getD
 (Ag WFd)))).getD (Ag (Rose An))))) ys)],[some (Blk.row false none VCd.rose (Ag VCd.rose.den++(B3 ys (drop 0 ((CO s).getD (Ag WFd)))).getD
 (Ag (Rose An))))]))) (some (V.tup [V.agg [V.j 0,V.s (Ag UInt8),V.j 0,V.b false,V.ref 0 0 0],V.b false],[some (Blk.row false none VCd.rose (Ag
 VCd.rose.den))])))))):_):=by kernel_rfl
abbrev PK (k n:Nat):FuncId->Option Ent:=Ab [(56,.rd1 (rsN k)),(149,.rd1 TW),(150,.rd1 Ly),(83,.rd1 So),(108,.rd1 (ptN n)),(98,.rd1 FG),(109,.rd1 Kw)]
theorem Kf (n k:Nat) (s:List UInt8) (y0:Int) (y1:List UInt8) (y2:Int) (y3:Bool) (y4:Int) (ys:List (Rose Lab)) (m:Nat) (a:Int) (vs:List (Rose An)):A0 prog (PK k n) (Ab [(8,ptE n)]) 0 (body f108 0) (ptE n) ([.s s,.ptr 0 0,.ptr 1 0,.ptr 2 0,.j a],[some (.box [.j y0,.s y1,.j y2,.b y3,.j y4,.sl (.rose LCd) ys]),some (.box [.j 0,.s [],.j 0,.b false,.ref 3 0 0]),some (.box [.j 0,.s [],.j 0,.b true,.ref 4 0 m]),some (.row false none (.rose VCd) []),some (.row false none (.rose VCd) vs)]) =
 ((ifB (decide (a<(↑s.length:Int))) (ifT (decide ((0:Int)<=a/\s.length<=4000000000/\a<=(4000000000:Int))) (ifB (!BK (Ah s a.toNat)) (some (Ex.ret,
 [V.ptr 0 0,V.b false],[some (Blk.box [V.j 0,V.s (Ag UInt8),V.j 0,V.b false,V.ref 1 0 0]),some (Blk.row false none VCd.rose (Ag VCd.rose.den))])) (ifT
 (decide ((0:Int)<=Cc (Ah s a.toNat)/\Cc (Ah s a.toNat)<=(1000000000000:Int))) (ifT (decide ((0:Int)<=(0:Int))&&decide ((0:Int)<(↑ys.length :
 Int))) (Ap ys[0]? fun z=>ifB (!fkB (Rose.node ((Rose.lab z).fst,(Rose.lab z).snd.fst,(Rose.lab z).snd.snd.fst,(Rose.lab z).snd.snd.snd.fst,(Rose.lab
 z).snd.snd.snd.snd.fst,()) (Rose.kids z))) (ifB (decide (Cc (Ah s a.toNat)>i64.wrap ((↑s.length:Int)-Bc a.toNat (Ah s a.toNat)))) (some (Ex.ret,
 [V.ptr 0 0,V.b false],[some (Blk.box [V.j 0,V.s (Ag UInt8),V.j 0,V.b false,V.ref 1 0 0]),some (Blk.row false none VCd.rose (Ag VCd.rose.den))])) (ifT
 (decide ((0:Int)<=Bc a.toNat (Ah s a.toNat))&&decide (Bc a.toNat (Ah s a.toNat)<=i64.wrap (Bc a.toNat (Ah s a.toNat)+Cc (Ah s a.toNat)))
 && decide (i64.wrap (Bc a.toNat (Ah s a.toNat)+Cc (Ah s a.toNat))<=(↑s.length:Int))) (ifT (decide ((0:Int)<=(0:Int))&&decide ((0:Int) <
 (↑ys.length:Int))) (Ap ys[0]? fun z=>ifT (decide ((take ((i64.wrap (Bc a.toNat (Ah s a.toNat)+Cc (Ah s a.toNat))).toNat-(Bc
 a.toNat (Ah s a.toNat)).toNat) (drop (Bc a.toNat (Ah s a.toNat)).toNat s)).length<=400/\fkB (Rose.node ((Rose.lab z).fst,(Rose.lab z).snd.fst,
 (Rose.lab z).snd.snd.fst,(Rose.lab z).snd.snd.snd.fst,(Rose.lab z).snd.snd.snd.snd.fst,()) (Rose.kids z))=false/\Aj (Rose.node ((Rose.lab z).fst,(Rose.lab
 z).snd.fst,(Rose.lab z).snd.snd.fst,(Rose.lab z).snd.snd.snd.fst,(Rose.lab z).snd.snd.snd.snd.fst,()) (Rose.kids z))=true/\Ao (Rose.node ((Rose.lab z).fst,
 (Rose.lab z).snd.fst,(Rose.lab z).snd.snd.fst,(Rose.lab z).snd.snd.snd.fst,(Rose.lab z).snd.snd.snd.snd.fst,()) (Rose.kids z))<=n/\Ao (Rose.node ((Rose.lab
 z).fst,(Rose.lab z).snd.fst,(Rose.lab z).snd.snd.fst,(Rose.lab z).snd.snd.snd.fst,(Rose.lab z).snd.snd.snd.snd.fst,()) (Rose.kids z))<=1000000)) (ifB
 (!(AO (Rose.node ((Rose.lab z).fst,(Rose.lab z).snd.fst,(Rose.lab z).snd.snd.fst,(Rose.lab z).snd.snd.snd.fst,(Rose.lab z).snd.snd.snd.snd.fst,()) (Rose.kids z))
 (take ((i64.wrap (Bc a.toNat (Ah s a.toNat)+Cc (Ah s a.toNat))).toNat-(Bc a.toNat (Ah s a.toNat)).toNat) (drop (Bc a.toNat (Ah s
 a.toNat)).toNat s)) (0:Int)).isSome) (some (Ex.ret,[V.ptr 0 0,V.b false],[some (Blk.box [V.j 0,V.s (Ag UInt8),V.j 0,V.b false,V.ref 1 0 0]),some
 (Blk.row false none VCd.rose (Ag VCd.rose.den))])) (ifT (decide ((0:Int)<=(0:Int))&&decide ((0:Int)<(↑ys.length:Int))) (Ap ys[0]? fun z_1=>
 ifB (!Eg (BG (Rose.node ((Rose.lab z).fst,(Rose.lab z).snd.fst,(Rose.lab z).snd.snd.fst,(Rose.lab z).snd.snd.snd.fst,(Rose.lab z).snd.snd.snd.snd.fst,())
 (Rose.kids z)) (take ((i64.wrap (Bc a.toNat (Ah s a.toNat)+Cc (Ah s a.toNat))).toNat-(Bc a.toNat (Ah s a.toNat)).toNat) (drop (Bc
 a.toNat (Ah s a.toNat)).toNat s))).lab.fst (Rose.node ((Rose.lab z_1).fst,(Rose.lab z_1).snd.fst,(Rose.lab z_1).snd.snd.fst,(Rose.lab z_1).snd.snd.snd.fst,(Rose.lab
 z_1).snd.snd.snd.snd.fst,()) (Rose.kids z_1))) (some (Ex.ret,[V.ptr 0 0,V.b false],[some (Blk.box [V.j 0,V.s (Ag UInt8),V.j 0,V.b false,V.ref 1 0 0]),
 some (Blk.row false none VCd.rose (Ag VCd.rose.den))])) (ifT (decide ((m+1)*64<=140737488355328)&&decide (m+1<=maxI)) (some
 (Ex.normal,[V.s s,V.ptr 0 0,V.ptr 1 0,V.ptr 2 0,V.j (i64.wrap (Bc a.toNat (Ah s a.toNat)+Cc (Ah s a.toNat)))],[some (Blk.box [V.j y0,
 V.s y1,V.j y2,V.b y3,V.j y4,V.sl LCd.rose ys]),some (Blk.box [V.j 0,V.s (Ag UInt8),V.j 0,V.b false,V.ref 3 0 0]),some (Blk.box [V.i .i64
 0,V.s (Ag UInt8),V.j 0,V.b true,V.ref 4 0 (m+1)]),some (Blk.row false none VCd.rose (Ag VCd.rose.den)),some (Blk.row false none VCd.rose
 (take m (drop 0 vs)++Rose.node ((BG (Rose.node ((Rose.lab z).fst,(Rose.lab z).snd.fst,(Rose.lab z).snd.snd.fst,(Rose.lab z).snd.snd.snd.fst,
 (Rose.lab z).snd.snd.snd.snd.fst,()) (Rose.kids z)) (take ((i64.wrap (Bc a.toNat (Ah s a.toNat)+Cc (Ah s a.toNat))).toNat-(Bc a.toNat (Ah s
 a.toNat)).toNat) (drop (Bc a.toNat (Ah s a.toNat)).toNat s))).lab.fst,(BG (Rose.node ((Rose.lab z).fst,(Rose.lab z).snd.fst,(Rose.lab z).snd.snd.fst,
 (Rose.lab z).snd.snd.snd.fst,(Rose.lab z).snd.snd.snd.snd.fst,()) (Rose.kids z)) (take ((i64.wrap (Bc a.toNat (Ah s a.toNat)+Cc (Ah s
 a.toNat))).toNat-(Bc a.toNat (Ah s a.toNat)).toNat) (drop (Bc a.toNat (Ah s a.toNat)).toNat s))).lab.snd.fst,(BG (Rose.node ((Rose.lab z).fst,
 (Rose.lab z).snd.fst,(Rose.lab z).snd.snd.fst,(Rose.lab z).snd.snd.snd.fst,(Rose.lab z).snd.snd.snd.snd.fst,()) (Rose.kids z)) (take ((i64.wrap (Bc
 a.toNat (Ah s a.toNat)+Cc (Ah s a.toNat))).toNat-(Bc a.toNat (Ah s a.toNat)).toNat) (drop (Bc a.toNat (Ah s a.toNat)).toNat s))).lab.snd.snd.fst,
 (BG (Rose.node ((Rose.lab z).fst,(Rose.lab z).snd.fst,(Rose.lab z).snd.snd.fst,(Rose.lab z).snd.snd.snd.fst,(Rose.lab z).snd.snd.snd.snd.fst,()) (Rose.kids z))
 (take ((i64.wrap (Bc a.toNat (Ah s a.toNat)+Cc (Ah s a.toNat))).toNat-(Bc a.toNat (Ah s a.toNat)).toNat) (drop (Bc a.toNat (Ah s
 a.toNat)).toNat s))).lab.snd.snd.snd.fst,()) (take (BG (Rose.node ((Rose.lab z).fst,(Rose.lab z).snd.fst,(Rose.lab z).snd.snd.fst,(Rose.lab
 z).snd.snd.snd.fst,(Rose.lab z).snd.snd.snd.snd.fst,()) (Rose.kids z)) (take ((i64.wrap (Bc a.toNat (Ah s a.toNat)+Cc (Ah s a.toNat))).toNat -
 (Bc a.toNat (Ah s a.toNat)).toNat) (drop (Bc a.toNat (Ah s a.toNat)).toNat s))).kids.length (drop 0 (BG (Rose.node ((Rose.lab z).fst,
 (Rose.lab z).snd.fst,(Rose.lab z).snd.snd.fst,(Rose.lab z).snd.snd.snd.fst,(Rose.lab z).snd.snd.snd.snd.fst,()) (Rose.kids z)) (take ((i64.wrap (Bc
 a.toNat (Ah s a.toNat)+Cc (Ah s a.toNat))).toNat-(Bc a.toNat (Ah s a.toNat)).toNat) (drop (Bc a.toNat (Ah s a.toNat)).toNat s))).kids))::Ag
 VCd.rose.den))])))))))))) (ifB (!BT (unf (Cc (Ah s a.toNat)))) (some (Ex.ret,[V.ptr 0 0,V.b false],[some (Blk.box [V.j 0,V.s (Ag UInt8),V.j 0,V.b
 false,V.ref 1 0 0]),some (Blk.row false none VCd.rose (Ag VCd.rose.den))])) (ifT (decide ((0:Int)<=(0:Int))&&decide ((0:Int)<(↑ys.length:Int))) (Ap
 ys[0]? fun z=>ifB (!Eg (unf (Cc (Ah s a.toNat))) (Rose.node ((Rose.lab z).fst,(Rose.lab z).snd.fst,(Rose.lab z).snd.snd.fst,(Rose.lab
 z).snd.snd.snd.fst,(Rose.lab z).snd.snd.snd.snd.fst,()) (Rose.kids z))) (some (Ex.ret,[V.ptr 0 0,V.b false],[some (Blk.box [V.j 0,V.s (Ag UInt8),V.j 0,
 V.b false,V.ref 1 0 0]),some (Blk.row false none VCd.rose (Ag VCd.rose.den))])) (ifT (decide ((m+1)*64<=140737488355328)&&decide (m +
 1<=maxI)) (some (Ex.normal,[V.s s,V.ptr 0 0,V.ptr 1 0,V.ptr 2 0,V.j (Bc a.toNat (Ah s a.toNat))],[some (Blk.box [V.j y0,V.s y1,V.j y2,
 V.b y3,V.j y4,V.sl LCd.rose ys]),some (Blk.box [V.j 0,V.s (Ag UInt8),V.j 0,V.b false,V.ref 3 0 0]),some (Blk.box [V.j 0,V.s (Ag UInt8),
 V.j 0,V.b true,V.ref 4 0 (m+1)]),some (Blk.row false none VCd.rose (Ag VCd.rose.den)),some (Blk.row false none VCd.rose (take m (drop (0 :
 Nat) vs)++Rose.node (unf (Cc (Ah s a.toNat)),Ag UInt8,(0:Int),false,()) (Ag VCd.rose.den)::Ag VCd.rose.den))]))))))))))) (some (Ex.exit 1,[V.ptr 0 0,
 V.ptr 1 0],[some (Blk.box [V.j 0,V.s (Ag UInt8),V.j 0,V.b false,V.ref 2 0 0]),some (Blk.box [V.j 0,V.s (Ag UInt8),V.j 0,V.b true,V.ref 3
 0 m]),some (Blk.row false none VCd.rose (Ag VCd.rose.den)),some (Blk.row false none VCd.rose vs)]))):_):=by kernel_rfl
theorem WW (n k:Nat) (s:List UInt8) (y0:Int) (y1:List UInt8) (y2:Int) (y3:Bool) (y4:Int) (ys:List (Rose Lab)):Bt prog (PK k n) (Ab [(8,ptE n)]) f108 [.s s,.agg [.j y0,.s y1,.j y2,.b y3,.j y4,.sl (.rose LCd) ys]] [] =
 ((ifB (y0==(2:Int)) (some (V.tup [V.agg [V.j 0,V.s s,V.j 0,V.b false,V.ref 0 0 0],V.b (decide ((↑s.length:Int)<=(30:Int)))],[some (Blk.row false
 none VCd.rose (Ag VCd.rose.den))])) (ifB (y0==(5:Int)) (ifT (decide (s.length<=400/\y0=(5:Int)/\Aj (Rose.node (y0,y1,y2,y3,y4,()) ys)=true
 /\ Ao (Rose.node (y0,y1,y2,y3,y4,()) ys)<=k/\Ao (Rose.node (y0,y1,y2,y3,y4,()) ys)<=1000000)) (some (V.tup [V.agg [V.j (Bp (Rose.node (y0,
 y1,y2,y3,y4,()) ys) s).lab.fst,V.s (Bp (Rose.node (y0,y1,y2,y3,y4,()) ys) s).lab.snd.fst,V.j (Bp (Rose.node (y0,y1,y2,y3,y4,()) ys)
 s).lab.snd.snd.fst,V.b (Bp (Rose.node (y0,y1,y2,y3,y4,()) ys) s).lab.snd.snd.snd.fst,V.ref 0 0 (Bp (Rose.node (y0,y1,y2,y3,y4,()) ys) s).kids.length],
 V.b (AO (Rose.node (y0,y1,y2,y3,y4,()) ys) s (0:Int)).isSome],[some (Blk.row false none VCd.rose (Bp (Rose.node (y0,y1,y2,y3,y4,()) ys) s).kids)])))
 (ifT (decide ((0:Int)<=(0:Int)/\0<=s.length/\s.length<=400/\0=0/\(↑(0:Nat):Int)<=(0:Int)/\ys.length=1/\
 ys.all Aj=true/\Ak ys<=n/\Ak ys<=1000000)) (ifB (BE (fkB (hd0 ys)) (fun n=>A6 (hd0 ys) n (0:Int)) (fun d=>AO (hd0 ys) d (0:Int)) s
 (s.length-0) 0).isSome (some (V.tup [V.agg [V.j 0,V.s (Ag UInt8),V.j 0,V.b true,V.ref 0 0 (Ag VCd.rose.den++(BE (fkB (hd0 ys))
 (fun n=>A6 (hd0 ys) n (0:Int)) (fun d=>AO (hd0 ys) d (0:Int)) s (s.length-0) 0).getD (Ag (Rose An))).length],V.b true],[some
 (Blk.row false none VCd.rose (Ag VCd.rose.den++(BE (fkB (hd0 ys)) (fun n=>A6 (hd0 ys) n (0:Int)) (fun d=>AO (hd0 ys) d (0:Int)) s (s.length-(0 :
 Nat)) 0).getD (Ag (Rose An))))])) (some (V.tup [V.agg [V.j 0,V.s (Ag UInt8),V.j 0,V.b false,V.ref 0 0 0],V.b false],[some (Blk.row false
 none VCd.rose (Ag VCd.rose.den))])))))):_):=by kernel_rfl
def Di (ys:List (Rose Lab)) (u:Rose An):WFd:=if fkB (byR u.lab.2.2.1 ys)=true then (u.lab.2.2.1,0,u.lab.1,[],()) else (u.lab.2.2.1,2,0,A7 u (byR u.lab.2.2.1 ys),())
def chM (ys:List (Rose Lab)) (u:Rose An):Bool:=Bu u.lab.2.2.1 ys&&sfR u (byR u.lab.2.2.1 ys)
def SF (n:Nat):Gm
 | [.agg [.i .i64 x0,.s x1,.i .i64 x2,.b x3,.sl (.rose VCd) xs],.agg [.i .i64 y0,.s y1,.i .i64 y2,.b y3,.i .i64 y4,.sl (.rose LCd) ys]],[]=>.need (decide (Ak ys+1<=n/\Ak ys+1<=1000000/\Aj (.node (y0,y1,y2,y3,y4,()) ys:Rose Lab)=true/\fkB (.node (y0,y1,y2,y3,y4,()) ys:Rose Lab)=false/\vcL xs<=1000/\sfR (.node (x0,x1,x2,x3,()) xs:Rose An) (.node (y0,y1,y2,y3,y4,()) ys:Rose Lab)=true)) (.leaf (.s (A7 (.node (x0,x1,x2,x3,()) xs:Rose An) (.node (y0,y1,y2,y3,y4,()) ys:Rose Lab)),[]))
 | _,_=>.no
def Zx:Gm
 | [.agg [.i .i64 x0,.s x1,.i .i64 x2,.b x3,.sl (.rose VCd) xs],.agg [.i .i64 y0,.s y1,.i .i64 y2,.b y3,.i .i64 y4,.sl (.rose LCd) ys]],[]=>.need (decide (Ak ys+1<=1000000/\Aj (.node (y0,y1,y2,y3,y4,()) ys:Rose Lab)=true/\fkB (.node (y0,y1,y2,y3,y4,()) ys:Rose Lab)=false/\vcL xs<=1000/\sfR (.node (x0,x1,x2,x3,()) xs:Rose An) (.node (y0,y1,y2,y3,y4,()) ys:Rose Lab)=true)) (.leaf (.s (A7 (.node (x0,x1,x2,x3,()) xs:Rose An) (.node (y0,y1,y2,y3,y4,()) ys:Rose Lab)),[]))
 | _,_=>.no
def H4 (n:Nat):LoopEnt:=⟨91,[3,5,23,24,25],[5],[],fun
 | ([.ptr 0 0,.s s,.sl (.rose VCd) us,.i .i64 k,.i .i64 i],[some (.box [.i .i64 y0,.s _,.i .i64 _,.b _,.i .i64 _,.sl (.rose LCd) ys])])=>.need (decide (0<=i/\i.toNat<=us.length/\k=us.length/\Ak ys<=n/\Ak ys<=1000000/\ys.length=1/\A8 y0 ys=true/\vcL us<=1000/\s.length<=100000*i.toNat/\sfL (hd0 ys) us=true)) (.leaf (.exit 1,([.s (s++CB (hd0 ys) (us.drop i.toNat))],[])))
 | _=>.no⟩
def H3 (n:Nat):LoopEnt:=⟨91,[3,9,56,57,58],[9],[],fun
 | ([.ptr 0 0,.ref 1 0 m,.sl (.rose VCd) us,.i .i64 k,.i .i64 i],[some (.box [.i .i64 _,.s _,.i .i64 _,.b _,.i .i64 _,.sl (.rose LCd) ys]),some (.row false none FCd o)])=>.need (decide (0<=i/\i.toNat<=us.length/\k=us.length/\m=o.length/\Ak ys<=n/\Ak ys<=1000000/\A8 5 ys=true/\vcL us<=1000/\o.length<=i.toNat/\us.all (chM ys)=true)) (.leaf (.exit 3,([.ref 0 0 (o++(us.drop i.toNat).map (Di ys)).length],[some (.row false none FCd (o++(us.drop i.toNat).map (Di ys)))])))
 | _=>.no⟩
theorem KH {x:An} {vs:List (Rose An)} {z:Rose Lab} (h:z.lab.1=2):A7 (.node x vs) z=x.2.1:=by rw [A7,if_pos h]
theorem KI {x:An} {vs:List (Rose An)} {z:Rose Lab} (h:z.lab.1=4):A7 (.node x vs) z=CB (hd0 z.kids) vs:=by
 obtain ⟨h2,hf⟩:=QI (.inl h)
 rw [A7,if_neg h2,if_neg hf,if_neg (by omega)]
theorem N4 {x:An} {vs:List (Rose An)} {z:Rose Lab} (h:z.lab.1=5):A7 (.node x vs) z=FS z.kids vs:=by
 obtain ⟨h2,hf⟩:=QI (.inr h)
 rw [A7,if_neg h2,if_neg hf,if_pos h]
theorem Jv {u:Rose An} {t:Rose Lab} (hr:Aj t=true) (hf:fkB t=true) (h:sfR u t=true) : -1000000000<=u.lab.1/\u.lab.1<=1000000000:=by
 obtain ⟨x,vs⟩:=u
 exact Ul hr hf h
theorem RO {u:Rose An} {t:Rose Lab} (hf:fkB t=true):A7 u t=vbs (fol u.lab.1).toNat:=by
 obtain ⟨x,vs⟩:=u
 have h2:t.lab.1≠2:=fun h=>by unfold fkB at hf; rw [h] at hf; cases hf
 rw [A7,if_neg h2,if_pos hf]; rfl
theorem HE {u:Rose An} {t:Rose Lab} (hf:fkB t=true):itm t (A7 u t)=vbs (fol u.lab.1).toNat:=by unfold itm; rw [if_pos hf,RO hf]
theorem HF {u:Rose An} {t:Rose Lab} (hf:fkB t=false):itm t (A7 u t)=vbs (A7 u t).length++A7 u t:=by unfold itm; rw [hf]; rfl
theorem S8 {ks:List (Rose Lab)} {y:Rose Lab} (hr:A8 5 ks=true) (hy:y∈ks):1<=y.lab.2.2.1/\y.lab.2.2.1<=30:=by
 have:=(Cj hr y hy).1
 unfold D1 at this
 rw [if_pos rfl] at this
 simp only [anE,dcE] at this
 exact this.2
theorem Vx {ys:List (Rose Lab)} {u:Rose An} (hr:A8 5 ys=true) (hv:vcR u<=1000) (hc:chM ys u=true):D3 (Di ys u)=true/\fb1 (Di ys u)=vbs (8*u.lab.2.2.1+(if fkB (byR u.lab.2.2.1 ys)=true then 0 else 2)).toNat++itm (byR u.lab.2.2.1 ys) (A7 u (byR u.lab.2.2.1 ys)):=by
 unfold chM at hc
 rw [anE] at hc
 obtain ⟨h1,h2⟩:=hc
 have hb:=Fo h1
 have hn:=S8 hr hb
 rw [QW h1] at hn
 have hry:=Ca hr hb
 have hL:=EH u _ hry h2
 unfold Di
 generalize byR u.lab.2.2.1 ys=y at *
 by_cases hf:fkB y=true
 ·have hnum:=Jv hry hf h2
  rw [if_pos hf,if_pos hf]
  constructor
  ·unfold D3 AJ BT
   simp; omega
  ·unfold fb1
   rw [HE hf]; rfl
 ·have hf':fkB y=false:=by simpa using hf
  rw [if_neg hf,if_neg hf]
  constructor
  ·unfold D3 AJ
   simp; omega
  ·unfold fb1
   rw [HF hf']; rfl
theorem N1 {ys:List (Rose Lab)} (hr:A8 5 ys=true) : ∀ us:List (Rose An),vcL us<=1000->us.all (chM ys)=true->(us.map (Di ys)).all D3=true/\fbs (us.map (Di ys))=FS ys us
 | [],_,_=>⟨rfl,by rw [FS]; rfl⟩
 | u::us,hv,hc=>by
  rw [vcL] at hv
  rw [all_cons,anE] at hc
  obtain ⟨a1,a2⟩:=Vx hr (by omega) hc.1
  obtain ⟨b1,b2⟩:=N1 hr us (by omega) hc.2
  rw [map_cons,all_cons,a1,b1,CI,a2,b2,FS]
  exact ⟨rfl,rfl⟩
theorem Aaj {vs:List (Rose An)} {ks:List (Rose Lab)} {zk:List (Rose An)} {i:Nat} (h:sfM ks zk i vs=true):vs.all (chM ks)=true:=by
 rw [all_eq_true]
 intro v hv
 unfold chM
 rw [anE]
 exact Jx h v hv
abbrev PJ (n:Nat):FuncId->Option Ent:=Ab [(43,.rd1 (SF n)),(83,.rd1 So),(91,.rd1 QE),(90,.rd1 W6),(62,.rd1 byG),(78,.rd1 ZM)]
theorem Ml (n:Nat) (y0:Int) (y1:List UInt8) (y2:Int) (y3:Bool) (y4:Int) (ys:List (Rose Lab)) (s:List UInt8) (us:List (Rose An)) (k i:Int):A0 prog (PJ n) (Ab [(7,H4 n),(17,H3 n)]) 0 (body f43 0) (H4 n) ([.ptr 0 0,.s s,.sl (.rose VCd) us,.j k,.j i],[some (.box [.j y0,.s y1,.j y2,.b y3,.j y4,.sl (.rose LCd) ys])]) =
 ((ifB (decide (i<k)) (ifT (decide ((0:Int)<=i)&&decide (i<(↑us.length:Int))) (Ap us[i.toNat]? fun z=>ifT (decide ((0:Int)<=(0:Int))&&decide ((0 :
 Int)<(↑ys.length:Int))) (Ap ys[0]? fun z_1=>shr (Rose.lab z_1).snd fun sh2=>shr (Rose.lab z) fun sh1=>ifB (fkB (Rose.node ((Rose.lab z_1).fst,
 sh2.fst,sh2.snd.fst,sh2.snd.snd.fst,sh2.snd.snd.snd.fst,()) (Rose.kids z_1))) (ifT (decide ((-1000000000000:Int)<=sh1.fst/\sh1.fst<=(1000000000000:Int))) (ifT
 (decide ((0:Int)<=fol sh1.fst/\fol sh1.fst<=(1000000000000:Int))) (ifT (decide (s.length+(vbs (fol sh1.fst).toNat).length<=9223372036854775807)) (some
 (Ex.normal,[V.ptr 0 0,V.s (s++vbs (fol sh1.fst).toNat),V.sl VCd.rose us,V.j k,V.j (i64.wrap (i+(1:Int)))],[some (Blk.box [V.j y0,V.s
 y1,V.j y2,V.b y3,V.j y4,V.sl LCd.rose ys])]))))) (ifT (decide ((0:Int)<=(0:Int))&&decide ((0:Int)<(↑ys.length:Int))) (Ap ys[0]? fun
 z_2=>shr sh1.snd fun sh6=>shr (Rose.kids z) fun sh5=>shr (Rose.lab z_2).snd fun sh4=>shr (Rose.kids z_2) fun sh3=>shr (Rose.node (sh1.fst,sh6.fst,sh6.snd.fst,
 sh6.snd.snd.fst,()) sh5) fun sh2=>shr (Rose.node ((Rose.lab z_2).fst,sh4.fst,sh4.snd.fst,sh4.snd.snd.fst,sh4.snd.snd.snd.fst,()) sh3) fun sh1=>ifT (decide (Ak
 sh3+1<=n/\Ak sh3+1<=1000000/\Aj sh1=true/\fkB sh1=false/\vcL sh5<=1000/\sfR sh2 sh1=true)) (ifT (decide ((0:Int)
 <= (↑(A7 sh2 sh1).length:Int)/\(↑(A7 sh2 sh1).length:Int)<=(1000000000000:Int))) (ifT (decide ((vbs (↑(A7 sh2 sh1).length:Int).toNat).length+(A7 sh2
 sh1).length<=9223372036854775807)) (ifT (decide (s.length+(vbs (↑(A7 sh2 sh1).length:Int).toNat++A7 sh2 sh1).length<=9223372036854775807))
 (some (Ex.normal,[V.ptr 0 0,V.s (s++(vbs (↑(A7 sh2 sh1).length:Int).toNat++A7 sh2 sh1)),V.sl VCd.rose us,V.j k,V.j (i64.wrap (i+(1 :
 Int)))],[some (Blk.box [V.j y0,V.s y1,V.j y2,V.b y3,V.j y4,V.sl LCd.rose ys])])))))))))) (some (Ex.exit 1,[V.s s],[]))):_):=by kernel_rfl
theorem Mk (n:Nat) (y0:Int) (y1:List UInt8) (y2:Int) (y3:Bool) (y4:Int) (ys:List (Rose Lab)) (m:Nat) (us:List (Rose An)) (k i:Int) (o:List WFd):A0 prog (PJ n) (Ab [(7,H4 n),(17,H3 n)]) 0 (body f43 1) (H3 n) ([.ptr 0 0,.ref 1 0 m,.sl (.rose VCd) us,.j k,.j i],[some (.box [.j y0,.s y1,.j y2,.b y3,.j y4,.sl (.rose LCd) ys]),some (.row false none FCd o)]) =
 ((ifB (decide (i<k)) (ifT (decide ((0:Int)<=i)&&decide (i<(↑us.length:Int))) (Ap us[i.toNat]? fun z=>shr (Rose.lab z) fun sh7=>shr (take m (drop
 0 o)) fun sh6=>shr (Rose.kids z) fun sh5=>shr sh7.snd.snd fun sh4=>shr (Rose.node ((0:Int),Ag UInt8,(0:Int),false,(0:Int),()) (Ag
 LCd.rose.den)) fun sh3=>shr (Rose.node (sh7.fst,sh7.snd.fst,sh4.fst,sh4.snd.fst,()) sh5) fun sh2=>shr (Rose.node ((byR sh4.fst ys).lab.fst,(byR sh4.fst
 ys).lab.snd.fst,(byR sh4.fst ys).lab.snd.snd.fst,(byR sh4.fst ys).lab.snd.snd.snd.fst,(byR sh4.fst ys).lab.snd.snd.snd.snd.fst,()) (byR sh4.fst ys).kids) fun sh1=>
 ifT (decide (ys.length<=maxI)) (ifB (Bu sh4.fst ys) (ifB (fkB sh1) (ifT (decide ((m+1)*40<=140737488355328)&&decide (m+1<=
 maxI)) (some (Ex.normal,[V.ptr 0 0,V.ref 1 0 (m+1),V.sl VCd.rose us,V.j k,V.j (i64.wrap (i+(1:Int)))],[some (Blk.box [V.j y0,
 V.s y1,V.j y2,V.b y3,V.j y4,V.sl LCd.rose ys]),some (Blk.row false none FCd (sh6++(sh4.fst,(0:Int),sh7.fst,Ag UInt8,())::Ag FCd.den))])))
 (ifT (decide (Ak (byR sh4.fst ys).kids+1<=n/\Ak (byR sh4.fst ys).kids+1<=1000000/\Aj sh1=true/\fkB sh1=false/\vcL sh5<=
 1000/\sfR sh2 sh1=true)) (ifT (decide ((m+1)*40<=140737488355328)&&decide (m+1<=maxI)) (some (Ex.normal,[V.ptr 0 0,
 V.ref 1 0 (m+1),V.sl VCd.rose us,V.j k,V.j (i64.wrap (i+(1:Int)))],[some (Blk.box [V.j y0,V.s y1,V.j y2,V.b y3,V.i .i64
 y4,V.sl LCd.rose ys]),some (Blk.row false none FCd (sh6++(sh4.fst,(2:Int),(0:Int),A7 sh2 sh1,())::Ag FCd.den))]))))) (ifT (decide (1<=n/\(1 :
 Nat)<=1000000/\Aj sh3=true/\fkB sh3=false/\vcL sh5<=1000/\sfR sh2 sh3=true)) (ifT (decide ((m+1)*40<=(140737488355328
 : Nat))&&decide (m+1<=maxI)) (some (Ex.normal,[V.ptr 0 0,V.ref 1 0 (m+1),V.sl VCd.rose us,V.j k,V.j (i64.wrap (i+(1 :
 Int)))],[some (Blk.box [V.j y0,V.s y1,V.j y2,V.b y3,V.j y4,V.sl LCd.rose ys]),some (Blk.row false none FCd (sh6++(sh4.fst,(2:Int),(0:Int),
 A7 sh2 sh3,())::Ag FCd.den))]))))))) (some (Ex.exit 3,[V.ref 0 0 m],[some (Blk.row false none FCd o)]))):_):=by kernel_rfl
theorem UY (n:Nat) (x0:Int) (x1:List UInt8) (x2:Int) (x3:Bool) (xs:List (Rose An)) (y0:Int) (y1:List UInt8) (y2:Int) (y3:Bool) (y4:Int) (ys:List (Rose Lab)):Bt prog (PJ n) (Ab [(7,H4 n),(17,H3 n)]) f43 [.agg [.j x0,.s x1,.j x2,.b x3,.sl (.rose VCd) xs],.agg [.j y0,.s y1,.j y2,.b y3,.j y4,.sl (.rose LCd) ys]] [] =
 ((shr (Ag FCd.den++List.map (Di ys) (drop 0 xs)) fun sh2=>shr (take sh2.length (drop 0 sh2)) fun sh1=>ifB (y0==(2:Int)) (some
 (V.s x1,[])) (ifB (y0==(4:Int)) (ifT (decide ((0:Int)<=(0:Int)/\0<=xs.length/\(↑xs.length:Int)=(↑xs.length:Int)/\Ak ys<=n/\Ak ys<=
 1000000/\ys.length=1/\A8 y0 ys=true/\vcL xs<=1000/\0<=0/\sfL (hd0 ys) xs=true)) (some (V.s (Ag UInt8++CB
 (hd0 ys) (drop 0 xs)),[]))) (ifT (decide ((0:Int)<=(0:Int)/\0<=xs.length/\(↑xs.length:Int)=(↑xs.length:Int)/\0=0/\
 Ak ys<=n/\Ak ys<=1000000/\A8 (5:Int) ys=true/\vcL xs<=1000/\0<=0/\xs.all (chM ys)=true)) (ifT (decide (sh1.length<=
 100000)&&sh1.all D3) (some (V.s (fbs sh1),[])))))):_):=by kernel_rfl
theorem OP (n:Nat) (y0:Int) (y1:List UInt8) (y2:Int) (y3:Bool) (y4:Int) (ys:List (Rose Lab)) (us:List (Rose An)) (h1:Ak ys<=n) (h2:Ak ys<=1000000) (h3:ys.length=1) (h4:A8 y0 ys=true) (h5:vcL us<=1000) (h6:sfL (hd0 ys) us=true) : ∀ (j i:Nat) (s:List UInt8),i+j=us.length->s.length<=100000*i->
  Runs prog (PJ n) (Ab [(7,H4 n),(17,H3 n)]) 0 (body f43 0) (H4 n) ([.ptr 0 0,.s s,.sl (.rose VCd) us,.j (us.length:Int),.j (i:Int)],[some (.box [.j y0,.s y1,.j y2,.b y3,.j y4,.sl (.rose LCd) ys])]) (.exit 1) ([.s (s++CB (hd0 ys) (us.drop i))],[])
 | 0,i,s,hi,hs=>by
  have hr:=Ml n y0 y1 y2 y3 y4 ys s us us.length i
  rw [Ac (dcF (by omega))] at hr
  rw [drop_eq_nil_of_le (by omega),CB,append_nil]
  exact .stop _ _ _ hr (by simp)
 | j+1,i,s,hi,hs=>by
  have hl:i<us.length:=by omega
  have hM:maxI=9223372036854775807:=rfl
  have hlen:=F5 us
  have hmem:=GD (getElem_mem hl)
  have hr:=Ml n y0 y1 y2 y3 y4 ys s us us.length i
  dsimp only [shr] at hr
  obtain ⟨y,rfl⟩:=length_eq_one_iff.1 h3
  have h6':=h6
  rw [Gf,all_eq_true] at h6'
  have hc:=h6' _ (getElem_mem hl)
  rw [anE] at hc
  have hc:sfR us[i] y=true:=hc.2
  rw [Ak,Ak] at h1 h2
  rw [A8,anE,anE] at h4
  have hry:=h4.1.2
  have hk:=Be y
  have hL:=EH us[i] y hry hc
  have hy0:([y]:List (Rose Lab))[(0:Nat)]? = some y:=rfl
  rw [Af (dcT (by omega)),Aa (by simp only [anE,dcE]; omega),ntN,gtE hl,As,Aa (by simp),hy0,As,AT,A3 (n:=i) (by omega)] at hr
  have ih:=OP n y0 y1 y2 y3 y4 [y] us (by rw [Ak,Ak]; omega) (by rw [Ak,Ak]; omega) h3 (by rw [A8,anE,anE]; exact h4) h5 h6 j (i+1)
  rw [drop_eq_getElem_cons hl,CB]
  have e0:hd0 [y]=y:=rfl
  rw [e0] at ih ⊢
  rcases Bool.eq_false_or_eq_true (fkB y) with hf | hf
  ·have hnum:=Jv hry hf hc
   have hfo:=DS hnum
   have hv:=F6 (fol us[i].lab.1).toNat
   rw [Af hf,Aa (dcT ⟨by omega,by omega⟩),Aa (dcT ⟨by omega,by omega⟩),Aa (dcT (by omega))] at hr
   rw [HE hf,<-append_assoc]
   exact .step _ _ _ _ hr (ih (s++vbs (fol us[i].lab.1).toNat) (by omega) (by rw [length_append]; omega))
  ·have hv:=F6 (A7 us[i] y).length
   have hvk:=Du us[i]
   rw [Ac hf,Aa (by simp),As,AT,B8,Aa (dcT ⟨by omega,by omega,hry,hf,by omega,hc⟩),Aa (dcT ⟨by omega,by omega⟩),ntN,Aa (dcT (by omega)),Aa (dcT (by rw [length_append]; omega))] at hr
   rw [HF hf,<-append_assoc]
   exact .step _ _ _ _ hr (ih (s++(vbs (A7 us[i] y).length++A7 us[i] y)) (by omega) (by rw [length_append,length_append]; omega))
theorem OO (n:Nat) (y0:Int) (y1:List UInt8) (y2:Int) (y3:Bool) (y4:Int) (ys:List (Rose Lab)) (us:List (Rose An)) (h1:Ak ys<=n) (h2:Ak ys<=1000000) (h4:A8 5 ys=true) (h5:vcL us<=1000) (h6:us.all (chM ys)=true) : ∀ (j i:Nat) (o:List WFd),i+j=us.length->o.length<=i->
  Runs prog (PJ n) (Ab [(7,H4 n),(17,H3 n)]) 0 (body f43 1) (H3 n) ([.ptr 0 0,.ref 1 0 o.length,.sl (.rose VCd) us,.j (us.length:Int),.j (i:Int)],[some (.box [.j y0,.s y1,.j y2,.b y3,.j y4,.sl (.rose LCd) ys]),some (.row false none FCd o)]) (.exit 3) ([.ref 0 0 (o++(us.drop i).map (Di ys)).length],[some (.row false none FCd (o++(us.drop i).map (Di ys)))])
 | 0,i,o,hi,ho=>by
  have hr:=Mk n y0 y1 y2 y3 y4 ys o.length us us.length i o
  try dsimp only [shr] at hr
  rw [Ac (dcF (by omega))] at hr
  rw [drop_eq_nil_of_le (by omega),List.map_nil,append_nil]
  exact .stop _ _ _ hr (by simp)
 | j+1,i,o,hi,ho=>by
  have hl:i<us.length:=by omega
  have hM:maxI=9223372036854775807:=rfl
  have hlen:=F5 us
  have hmem:=GD (getElem_mem hl)
  have hvk:=Du us[i]
  have hyl:=Bz ys
  have hr:=Mk n y0 y1 y2 y3 y4 ys o.length us us.length i o
  try dsimp only [shr] at hr
  have hc:=all_eq_true.1 h6 _ (getElem_mem hl)
  unfold chM at hc
  rw [anE] at hc
  obtain ⟨c1,c2⟩:=hc
  have hb:=Fo c1
  have hry:=Ca h4 hb
  have hcm:=BB hb
  have hk:=Be (byR us[i].lab.2.2.1 ys)
  rw [Af (dcT (by omega)),Aa (by simp only [anE,dcE]; omega),ntN,gtE hl,As,Aa (dcT (by omega)),Af c1,AT,B8,A3 (n:=i) (by omega),drop_zero,take_length] at hr
  have ih:=OO n y0 y1 y2 y3 y4 ys us h1 h2 h4 h5 h6 j (i+1) (o++[Di ys us[i]]) (by omega) (by rw [length_append,length_singleton]; omega)
  rw [length_append,length_singleton,append_assoc,List.singleton_append] at ih
  rw [drop_eq_getElem_cons hl,map_cons]
  refine .step _ _ _ _ (hr.trans ?_) ih
  unfold Di
  rcases Bool.eq_false_or_eq_true (fkB (byR us[i].lab.2.2.1 ys)) with hf | hf
  ·rw [Af hf,Aa (by simp only [anE,dcE]; omega),if_pos hf,AI]
  ·rw [Ac hf,Aa (dcT ⟨by omega,by omega,hry,hf,by omega,c2⟩),Aa (by simp only [anE,dcE]; omega),if_neg (by rw [hf]; simp),AI]
theorem Zw (n:Nat) : ∀ d e d',((H4 n).L d).run=some (e,d')->Runs prog (PJ n) (Ab [(7,H4 n),(17,H3 n)]) 0 (body f43 0) (H4 n) d e d':=fun d ex d' h=>by
 unfold H4 at h
 dsimp only at h
 split at h
 ·rename_i s us k i y0 y1 y2 y3 y4 ys
  obtain ⟨hc,hx⟩:=Ae h
  clear h
  obtain ⟨h0,h1,rfl,h3,h4,h5,h6,h7,h8,h9⟩:=of_decide_eq_true hc
  obtain ⟨i,rfl⟩:=eq_ofNat_of_zero_le h0
  rw [ntN] at h1 h8 hx
  have q:=Ar hx
  obtain ⟨rfl,rfl⟩:=Prod.mk.inj q
  exact OP n y0 y1 y2 y3 y4 ys us h3 h4 h5 h6 h7 h9 (us.length-i) i s (by omega) h8
 ·cases h
theorem Zv (n:Nat) : ∀ d e d',((H3 n).L d).run=some (e,d')->Runs prog (PJ n) (Ab [(7,H4 n),(17,H3 n)]) 0 (body f43 1) (H3 n) d e d':=fun d ex d' h=>by
 unfold H3 at h
 dsimp only at h
 split at h
 ·rename_i m us k i y0 y1 y2 y3 y4 ys o
  obtain ⟨hc,hx⟩:=Ae h
  clear h
  obtain ⟨h0,h1,rfl,rfl,h3,h4,h5,h6,h7,h8⟩:=of_decide_eq_true hc
  obtain ⟨i,rfl⟩:=eq_ofNat_of_zero_le h0
  rw [ntN] at h1 h7 hx
  have q:=Ar hx
  obtain ⟨rfl,rfl⟩:=Prod.mk.inj q
  exact OO n y0 y1 y2 y3 y4 ys us h3 h4 h5 h6 h8 (us.length-i) i o (by omega) h7
 ·cases h
theorem Xm (n:Nat) (x0:Int) (x1:List UInt8) (x2:Int) (x3:Bool) (xs:List (Rose An)) (y0:Int) (y1:List UInt8) (y2:Int) (y3:Bool) (y4:Int) (ys:List (Rose Lab)) (hc:Ak ys+1<=n+1/\Ak ys+1<=1000000/\Aj (.node (y0,y1,y2,y3,y4,()) ys:Rose Lab)=true/\fkB (.node (y0,y1,y2,y3,y4,()) ys:Rose Lab)=false/\vcL xs<=1000/\sfR (.node (x0,x1,x2,x3,()) xs:Rose An) (.node (y0,y1,y2,y3,y4,()) ys:Rose Lab)=true):Bt prog (PJ n) (Ab [(7,H4 n),(17,H3 n)]) f43 [.agg [.j x0,.s x1,.j x2,.b x3,.sl (.rose VCd) xs],.agg [.j y0,.s y1,.j y2,.b y3,.j y4,.sl (.rose LCd) ys]] []=some (.s (A7 (.node (x0,x1,x2,x3,()) xs:Rose An) (.node (y0,y1,y2,y3,y4,()) ys:Rose Lab)),[]):=by
 obtain ⟨h1,h2,h3,h4,h5,h6⟩:=hc
 have hrp:=Ck h3
 have hk:=CW hrp.1
 have hM:maxI=9223372036854775807:=rfl
 have hlen:=F5 xs
 rw [UY]
 try dsimp only [shr]
 have hfk : ¬fkB (.node (y0,y1,y2,y3,y4,()) ys:Rose Lab)=true:=by rw [h4]; simp
 simp only [AI,drop_zero,take_length,nil_append]
 simp only [Rose.lab,Rose.kids] at hk hrp
 rcases hk with rfl | rfl | rfl | ⟨rfl,h7⟩ | rfl
 ·cases h4
 ·rw [KH (z:=(.node (2,y1,y2,y3,y4,()) ys:Rose Lab)) rfl]; rfl
 ·cases h4
 ·rw [Ac (by rfl),Af (by rfl),Aa (dcT ⟨by omega,by omega,by first | rfl | trivial,by omega,by omega,h7,hrp.2,h5,by omega,Jw rfl h6⟩),KI (z:=(.node (4,y1,y2,y3,y4,()) ys:Rose Lab)) rfl]; rfl
 ·obtain ⟨b1,b2⟩:=N1 hrp.2 xs h5 (Aaj (JO rfl h6).1)
  rw [Ac (by rfl),Ac (by rfl),Aa (dcT ⟨by omega,by omega,by first | rfl | trivial,by first | rfl | trivial,by omega,by omega,hrp.2,h5,by omega,Aaj (JO rfl h6).1⟩),Aa (by rw [b1,Bool.and_true]; exact dcT (by rw [length_map]; omega)),b2,N4 (z:=(.node (5,y1,y2,y3,y4,()) ys:Rose Lab)) rfl]; rfl
theorem Xn : ∀ n,(∀ m,m<n->Ad prog 43 (Ent.rd1 (SF m)).F)->Ad prog 43 (Ent.rd1 (SF n)).F
 | 0,_=>AX fun vs bs=>by
  unfold Ent.F SF
  dsimp only
  split
  ·rename_i x0 x1 x2 x3 xs y0 y1 y2 y3 y4 ys
   have:decide (Ak ys+1<=0/\Ak ys+1<=1000000/\Aj (.node (y0,y1,y2,y3,y4,()) ys:Rose Lab)=true/\fkB (.node (y0,y1,y2,y3,y4,()) ys:Rose Lab)=false/\vcL xs<=1000/\sfR (.node (x0,x1,x2,x3,()) xs:Rose An) (.node (y0,y1,y2,y3,y4,()) ys:Rose Lab)=true)=false:=dcF (by omega)
   rw [this]; rfl
  ·rfl
 | n+1,ih=>by
  refine Au (kc func43 (ih n (Nat.lt_succ_self n)) (kc func83 sfk (kc func91 Aa0 (kc func90 sv (kc func62 Z3 (kc func78 Acq KnowsL.nil)))))).knows (Λ:=(Ab [(7,H4 n),(17,H3 n)])) func43 (c:=f43.body.getD .skip) (by kernel_rfl) fun vs bs r hq hv hb=>?_
  unfold Ent.F SF at hq
  dsimp only at hq
  split at hq
  ·rename_i x0 x1 x2 x3 xs y0 y1 y2 y3 y4 ys
   obtain ⟨hc,hx⟩:=Ae hq
   exact ⟨LoopsI.loops (.cons (a:=body f43 0) (by kernel_rfl) (Zw n) (.cons (a:=body f43 1) (by kernel_rfl) (Zv n) .nil)) (by kernel_rfl),(Xm n x0 x1 x2 x3 xs y0 y1 y2 y3 y4 ys (of_decide_eq_true hc)).trans hx⟩
  ·cases hq
theorem Xl:Ad prog 43 (Ent.rd1 Zx).F:=by
 refine Bb (F:=fun n=>(Ent.rd1 (SF n)).F) Xn fun vs bs r h=>?_
 unfold Ent.F Zx at h
 dsimp only at h
 split at h
 ·rename_i x0 x1 x2 x3 xs y0 y1 y2 y3 y4 ys
  obtain ⟨hc,hx⟩:=Ae h
  refine ⟨Ak ys+1,?_⟩
  show (Br.need (decide (Ak ys+1<=Ak ys+1/\Ak ys+1<=1000000/\Aj (.node (y0,y1,y2,y3,y4,()) ys:Rose Lab)=true/\fkB (.node (y0,y1,y2,y3,y4,()) ys:Rose Lab)=false/\vcL xs<=1000/\sfR (.node (x0,x1,x2,x3,()) xs:Rose An) (.node (y0,y1,y2,y3,y4,()) ys:Rose Lab)=true)) (.leaf (.s (A7 (.node (x0,x1,x2,x3,()) xs:Rose An) (.node (y0,y1,y2,y3,y4,()) ys:Rose Lab)),[]))).run=some r
  have:decide (Ak ys+1<=Ak ys+1/\Ak ys+1<=1000000/\Aj (.node (y0,y1,y2,y3,y4,()) ys:Rose Lab)=true/\fkB (.node (y0,y1,y2,y3,y4,()) ys:Rose Lab)=false/\vcL xs<=1000/\sfR (.node (x0,x1,x2,x3,()) xs:Rose An) (.node (y0,y1,y2,y3,y4,()) ys:Rose Lab)=true)=true:=dcT ⟨le_refl _,of_decide_eq_true hc⟩
  rw [this]
  exact hx
 ·cases h
def D6 (l:List Ty):Nat->List Ty->Prop
 | _,[]=>True
 | s,x::w=>l[s]? = some x/\D6 l (s+1) w
def UO (l:List Ty) (s e:Nat):Prop:=∀ j:Nat,s<=j->AY l e≠some (j:Int)
theorem Mn {l:List Ty} : ∀ {a:List Ty} {s:Nat} {b:List Ty},D6 l s (a++b)↔D6 l s a/\D6 l (s+a.length) b
 | [],s,b=>by simp [D6]
 | x::a,s,b=>by
  rw [cons_append,D6,D6,Mn,length_cons,and_assoc,show s+1+a.length=s+(a.length+1) by omega]
theorem S6 {l:List Ty} {s p t:Nat} {ks:List (Rose Lab)} (hl:D6 l p (Bo ks s p)) (he:UO l s (p+Ak ks)) (hst:s<t):UO l t p:=by
 cases ks with
 | nil=>intro j hj; rw [Ak] at he; exact he j (by omega)
 | cons z ks=>
  rw [Bo,LO,cons_append,D6] at hl
  intro j hj hu
  unfold AY at hu
  rw [hl.1,map_some] at hu
  have:=Option.some.inj hu
  dsimp only at this
  omega
theorem Kx (v:List Ty) : ∀ (w pre:List Ty),v=pre++w->D6 v pre.length w
 | [],pre,h=>by rw [D6]; trivial
 | x::w,pre,h=>by
  rw [D6]
  refine ⟨by rw [h,List.getElem?_append_right (le_refl _)]; simp,?_⟩
  have:=Kx v w (pre++[x]) (by rw [h]; simp)
  rw [length_append] at this
  exact this

theorem Lo {n:Int} {u:Rose Lab} : ∀ {us:List (Rose Lab)},us.Pairwise KR->u∈us->u.lab.2.2.1=n->byR n us=u
 | [],_,h,_=>by cases h
 | w::us,hp,h,hn=>by
  rw [pairwise_cons] at hp
  rw [byR]
  rcases mem_cons.1 h with e | h
  ·subst e; rw [if_pos hn]
  ·have:w.lab.2.2.1<u.lab.2.2.1:=hp.1 u h
   rw [if_neg (by omega)]
   exact Lo hp.2 h hn
mutual
def lfR:Rose Lab->Bool
 | .node x ks=>((Aw x.1||ks.isEmpty)&&x.1==(bif x.2.2.2.1 then 5 else 1))&&lfL ks
def lfL:List (Rose Lab)->Bool
 | []=>true
 | z::l=>lfR z&&lfL l
end
mutual
theorem LN (l:List Ty) : ∀ (z:Rose Lab),lfR z=true->∀ (up:Int) (s:Nat),D6 l s (AK z up s)->UO l s (s+Ao z)->kf l s=(z,s+Ao z)
 | .node x ks,hr,up,s,hl,he=>by
  rw [lfR,anE,anE] at hr
  obtain ⟨⟨hp,_⟩,hrr⟩:=hr
  rw [AK,D6] at hl
  have hs:s<l.length:=by
   by_cases h:s<l.length
   ·exact h
   ·rw [List.getElem?_eq_none (by omega)] at hl; cases hl.1
  have hlab:A5 l s=x:=by unfold A5; rw [hl.1]
  rw [Ao] at he ⊢
  rw [Mt hs,hlab]
  cases hh:Aw x.1 with
  | true=>
   have:=Hn l ks hrr s (s+1) (by omega) hl.2 (by rw [show s+1+Ak ks=s+(Ak ks+1) by omega]; exact he) l.length [] (by omega)
   rw [cond_true,this,nil_append,show s+1+Ak ks=s+(Ak ks+1) by omega]
  | false=>
   rw [hh,Bool.false_or,List.isEmpty_iff] at hp
   subst hp
   rw [cond_false,Ak]
theorem Hn (l:List Ty) : ∀ (ks:List (Rose Lab)),lfL ks=true->∀ (s p:Nat),s<p->D6 l p (Bo ks s p)->UO l s (p+Ak ks)->∀ (n:Nat) (acc:List (Rose Lab)),l.length-p<=n->AD (kf l) l s n p acc=(acc++ks,p+Ak ks)
 | [],_,s,p,_,_,he,n,acc,_=>by
  rw [Ak] at he ⊢
  rw [Nat.add_zero] at he ⊢
  rw [Dp (he s (le_refl _)),append_nil]
 | z::ks,hr,s,p,hsp,hl,he,n,acc,hn=>by
  rw [lfL,anE] at hr
  rw [Bo,Mn,CK] at hl
  rw [Ak,<-add_assoc] at he ⊢
  have hk:=LN l z hr.1 s p hl.1 (S6 hl.2 he hsp)
  have hu:AY l p=some (s:Int):=by
   have:=hl.1
   rw [LO,D6] at this
   unfold AY
   rw [this.1]; rfl
  have hpl:=DX hu
  have hb:=Cx l p hpl
  obtain ⟨n,rfl⟩ : ∃ m,n=m+1:=⟨n-1,by omega⟩
  rw [hk] at hb
  dsimp only at hb
  rw [AD,if_pos hu,hk]
  dsimp only
  rw [Hn l ks hr.2 s (p+Ao z) (by omega) hl.2 he n _ (by omega),append_assoc]
  rfl
end
mutual
theorem JI : ∀ (z:Rose Lab),lfR z=true->∀ (up:Int) (s:Nat),AK z up s=tys (Al (cv z) up s)
 | .node x ks,hr,up,s=>by
  rw [lfR,anE,anE,beq_iff_eq] at hr
  obtain ⟨⟨_,hx⟩,hrr⟩:=hr
  have:=IL ks hrr s (s+1)
  unfold tys at this ⊢
  rw [AK,cv,Al,map_cons,<-this]
  congr 1
  unfold asT cvL
  dsimp only
  rw [<-hx]
theorem IL : ∀ (ks:List (Rose Lab)),lfL ks=true->∀ (s p:Nat),Bo ks s p=tys (AB (cvs ks) s p)
 | [],_,s,p=>by rw [Bo,cvs,AB]; rfl
 | z::ks,hr,s,p=>by
  rw [lfL,anE] at hr
  have h1:=JI z hr.1 s p
  have h2:=IL ks hr.2 s (p+Ao z)
  have h3:=Ch (cv z) s p
  rw [TJ] at h3
  rw [Bo,cvs,AB,CK,h3]
  unfold tys at *
  rw [List.map_append,<-h1,<-h2]
end
theorem R8 : ∀ (ks:List (Rose Lab)) (z:Rose Lab),lfL ks=true->lfR z=true->lfL (ks++[z])=true
 | [],z,_,h=>by rw [nil_append,lfL,h]; rfl
 | y::ks,z,h1,h2=>by
  rw [lfL,anE] at h1
  rw [cons_append,lfL,h1.1,R8 ks z h1.2 h2]; rfl
theorem Pa {l:List Ty} {g:Nat->Rose Lab×Nat} {a:Nat} (hg : ∀ e,e<l.length->lfR (g e).1=true) : ∀ (n e:Nat) (ks:List (Rose Lab)),lfL ks=true->lfL (AD g l a n e ks).1=true
 | 0,e,ks,h=>h
 | n+1,e,ks,h=>by
  unfold AD
  split
  ·rename_i hu
   exact Pa hg n _ _ (R8 _ _ h (hg e (DX hu)))
  ·exact h
theorem ZB (v:List Nd) : ∀ f a,a<v.length->lfR (kfr (tys v) f a).1=true:=by
 have hlb : ∀ a,a<v.length->((A5 (tys v) a).1==(bif (A5 (tys v) a).2.2.2.1 then 5 else 1))=true:=fun a ha=>by
  rw [Gi ha]; exact beq_self_eq_true _
 intro f
 induction f with
 | zero=>intro a ha; rw [kfr,lfR,hlb a ha,lfL]; simp
 | succ f ih=>
  intro a ha
  unfold kfr
  dsimp only
  have hl:=hlb a ha
  cases hh:Aw (A5 (tys v) a).1 with
  | true=>
   rw [cond_true,lfR,hh,hl,Pa (fun e he=>ih e (by rw [Bh] at he; exact he)) _ _ _ (by rw [lfL])]; rfl
  | false=>rw [cond_false,lfR,hh,hl,lfL]; rfl

theorem HB {z:Rose Lab} (h:Aj z=true) (h5:z.lab.1=5):z.kids.Pairwise KR:=by
 obtain ⟨hp,_⟩:=Dm h
 unfold B5 at hp
 rw [if_neg (by omega),if_neg (by omega),if_neg (by omega)] at hp
 split at hp
 ·cases hp
 ·exact ((H0 _).1 hp).imp fun h=>h.1
theorem Sv {ns:List Int} (h : ∀ i,i<ns.length->CG ns i=true):ns.Pairwise (· < ·):=by
 induction ns with
 | nil=>exact .nil
 | cons x ns ih=>
  have ih:=ih fun i hi=>by
   have:=h (i+1) (by simp; omega)
   unfold CG at this ⊢
   cases i with
   | zero=>rfl
   | succ i=>simpa using this
  refine pairwise_cons.2 ⟨fun y hy=>?_,ih⟩
  cases ns with
  | nil=>cases hy
  | cons w ns=>
   have h1:=h 1 (by simp)
   unfold CG at h1
   have h1:x<w:=by simpa using h1
   rcases mem_cons.1 hy with rfl | hy
   ·exact h1
   ·have:=(pairwise_cons.1 ih).1 y hy
    omega
theorem WO {l:List WFd} (h:L0 (DD l)=true):l.Pairwise Y0:=by
 have h2:=Sv (ns:=DD l) fun i hi=>all_eq_true.1 h i (List.mem_range.2 hi)
 unfold DD at h2
 have h3:l.Pairwise (fun a b=>a.1<b.1):=List.pairwise_map.1 h2
 exact h3
def Uo (no:Int) (v:Rose An):Rose An:=.node (v.lab.1,v.lab.2.1,no,v.lab.2.2.2.1,()) v.kids
theorem Ld (z:Rose Lab) (s:List UInt8) (no:Int):AO z s no=(AO z s 0).map (Uo no):=by
 by_cases h2:z.lab.1=2
 ·rw [DT h2,DT h2]; split<;>rfl
 ·by_cases h4:z.lab.1=4
  ·rw [DV h4,DV h4]; cases Em z.kids s<;>rfl
  ·rw [EJ h2 h4,EJ h2 h4]
   cases EA s with
   | none=>rfl
   | some fs=>dsimp only; cases Bg z.kids fs<;>rfl
theorem P0 {z:Rose Lab} (hr:Aj z=true) (h5:z.lab.1=5) (s:List UInt8) (no:Int):AO z s no=(match EA s with
   | some fs=>(match B3 z.kids fs with | some vs=>if B6 vs z.kids=true then some (.node (0,[],no,true,()) vs) else none | none=>none)
   | none=>none):=by
 rw [EJ (by omega) (by omega)]
 cases hf:EA s with
 | none=>rfl
 | some fs=>
  have hp:=WO (MS hf).2.1
  dsimp only
  rw [Wa _ z.kids fs (le_refl _) (HB hr h5) hp]
  cases B3 z.kids fs with
  | none=>rfl
  | some vs=>dsimp only; split<;>rfl
theorem Ro {z:Rose Lab} (hr:Aj z=true) (h5:z.lab.1=5) {s:List UInt8} {v:Rose An} (h:AO z s 0=some v):Bp z s=v:=by
 rw [P0 hr h5] at h
 unfold Bp
 cases hf:EA s with
 | none=>rw [hf] at h; cases h
 | some fs=>
  rw [hf] at h
  dsimp only at h ⊢
  cases hd:B3 z.kids fs with
  | none=>rw [hd] at h; cases h
  | some vs=>
   rw [hd] at h
   dsimp only at h ⊢
   split at h
   ·exact Option.some.inj h
   ·cases h
theorem JY {z:Rose Lab} (hr:Aj z=true) (hf:fkB z=false):z.lab.1=2\/z.lab.1=4\/z.lab.1=5:=by
 obtain ⟨h1,_⟩:=Dm hr
 unfold fkB at hf
 simp only [Bool.or_eq_false_iff,beq_eq_false_iff_ne] at hf
 unfold B5 at h1
 by_cases a2:z.lab.1=2
 ·exact .inl a2
 ·by_cases a4:z.lab.1=4
  ·exact .inr (.inl a4)
  ·by_cases a5:z.lab.1=5
   ·exact .inr (.inr a5)
   ·rw [if_neg (by omega),if_neg hf.2,if_neg a4,if_pos (.inl a5)] at h1; cases h1
theorem MY {z:Rose Lab} (hr:Aj z=true) (hf:fkB z=false) {s:List UInt8} {v:Rose An} (h:AO z s 0=some v):BG z s=v:=by
 unfold BG
 rcases JY hr hf with q | q | q
 ·rw [if_pos q]
  rw [DT q] at h
  split at h
  ·exact Option.some.inj h
  ·cases h
 ·rw [if_neg (by omega),if_neg (by omega)]
  rw [DV q] at h
  obtain ⟨vs,h1,rfl⟩:=map_eq_some_iff.1 h
  rw [h1]
 ·rw [if_neg (by omega),if_pos q]
  exact Ro hr q h
theorem Ku {z:Rose Lab} (hf:fkB z=true) {n:Int} (hn:BT n=true) (no:Int):A6 z n no=if Eg n z=true then some (.node (n,[],no,false,()) []) else none:=by
 unfold A6 Eg
 unfold fkB at hf
 simp only [or_eq_true,beq_iff_eq] at hf
 rcases hf with h | h
 ·rw [if_pos ⟨hn,.inl h⟩,h]; rfl
 ·rw [h]
  by_cases q:0<=n/\n<=z.lab.2.2.2.2.1
  ·rw [if_pos ⟨hn,.inr q⟩,if_pos (by simp [q])]
  ·rw [if_neg (fun hh=>hh.2.elim (fun e=>by omega) q),if_neg (by simp [q])]
theorem Kv {z:Rose Lab} (hf:fkB z=false) (n:Int):Eg n z=true:=by
 unfold Eg
 unfold fkB at hf
 simp only [Bool.or_eq_false_iff,beq_eq_false_iff_ne] at hf
 rw [bne_iff_ne.2 hf.2]; rfl
theorem KE {f:WFd} (h:AJ f=true) (h0:f.2.1=0):BT f.2.2.1=true:=by
 unfold AJ at h
 rw [anE] at h
 have h:=h.2
 rw [if_pos h0,anE] at h
 exact h.1
theorem Sw {l:List WFd} {i:Nat} (h:l.length<=i):E9 l i=true:=by
 unfold E9; rw [drop_eq_nil_of_le (by simpa using h)]; rfl
theorem JV {l:List WFd} {i:Nat} (h:i<l.length):E9 l i=(CG (DD l) i&&E9 l (i+1)):=by
 unfold E9
 rw [drop_eq_getElem_cons (by simpa using h),all_cons,List.getElem_range]
theorem Lp {n:Int} : ∀ {l:List (Rose Lab)},Bu n l=true->byR n l∈l/\(byR n l).lab.2.2.1=n
 | [],h=>by cases h
 | z::l,h=>by
  rw [byR]
  by_cases q:z.lab.2.2.1=n
  ·rw [if_pos q]; exact ⟨by simp,q⟩
  ·rw [if_neg q]
   have h2:Bu n l=true:=by
    unfold Bu at h ⊢
    rw [List.any_cons,beq_eq_false_iff_ne.2 q,Bool.false_or] at h
    exact h
   have:=Lp h2
   exact ⟨mem_cons_of_mem _ this.1,this.2⟩
theorem Rn (n:Nat) (y0:Int) (y1:List UInt8) (y2:Int) (y3:Bool) (y4:Int) (ys:List (Rose Lab)) (hks:A8 5 ys=true) (hcn:Ak ys<=n) (hc6:Ak ys<=1000000) (fs:List WFd) (hfs:fs.length<=40) (hfb:(fs.all fun x=>AJ x)=true) (hmx:mxD fs<=400) : ∀ (j i:Nat) (vs:List (Rose An)),i+j=fs.length->vs.length<=i->∀ ex d,(Br.br (E9 fs i&&(B3 ys (fs.drop i)).isSome) (.leaf (.exit 0,([.ptr 0 0,.ptr 1 0,.ptr 2 0],[some (.box [.j y0,.s y1,.j y2,.b y3,.j y4,.sl (.rose LCd) ys]),some (.box [.j 0,.s [],.j 0,.b false,.ref 3 0 0]),some (.box [.j 0,.s [],.j 0,.b true,.ref 4 0 (vs++(B3 ys (fs.drop i)).getD []).length]),some (.row false none (.rose VCd) []),some (.row false none (.rose VCd) (vs++(B3 ys (fs.drop i)).getD []))]))) (.leaf (.ret,([.ptr 0 0,.b false],[some (.box [.j 0,.s [],.j 0,.b false,.ref 1 0 0]),some (.row false none (.rose VCd) [])]))):Br (Ex×Dt)).run=some (ex,d)->Runs prog (LG n) (Ab [(6,rsE n)]) 0 (body f56 0) (rsE n) ([.ptr 0 0,.ptr 1 0,.ref 2 0 fs.length,.ptr 3 0,.ref 2 0 fs.length,.j (fs.length:Int),.j (i:Int)],[some (.box [.j y0,.s y1,.j y2,.b y3,.j y4,.sl (.rose LCd) ys]),some (.box [.j 0,.s [],.j 0,.b false,.ref 4 0 0]),some (.row false none FCd fs),some (.box [.j 0,.s [],.j 0,.b true,.ref 5 0 vs.length]),some (.row false none (.rose VCd) []),some (.row false none (.rose VCd) vs)]) ex d
 | 0,i,vs,hi,hv,ex,d,h=>by
  have hr:=Oz n y0 y1 y2 y3 y4 ys fs.length fs.length vs.length fs.length i fs vs
  try dsimp only [shr] at hr
  rw [Ac (dcF (by omega))] at hr
  rw [Sw (by omega),drop_eq_nil_of_le (by omega),B3] at h
  rw [Wq (by rfl),show (some ([]:List (Rose An))).getD []=[] from rfl,append_nil] at h
  have h8:=Ar h
  obtain ⟨rfl,rfl⟩:=Prod.mk.inj h8
  exact .stop _ _ _ hr (by simp)
 | j+1,i,vs,hi,hv,ex,d,h=>by
  have hl:i<fs.length:=by omega
  have hM:maxI=9223372036854775807:=rfl
  have hr:=Oz n y0 y1 y2 y3 y4 ys fs.length fs.length vs.length fs.length i fs vs
  try dsimp only [shr] at hr
  have W1:i64.wrap ((i:Int)+1)=((i+1:Nat):Int):=by rw [Ay (by omega) (by omega)]; omega
  have hlen:=Bz ys
  have eln : ∀ x:Option (Ex×Dt),ifT (decide ((vs.length+1)*64<=140737488355328)&&decide (vs.length+1<=maxI)) x=x:=fun x=>Aa (by simp only [anE,dcE]; omega)
  have hd:=drop_eq_getElem_cons hl
  have hm:=getElem_mem hl
  have hfbz:=all_eq_true.1 hfb _ hm
  have hmz:=Km hm
  rw [Af (dcT (by omega)),Aa (by simp only [anE,dcE]; omega),ntN,zero_add,gtE hl,As] at hr
  simp only [W1,Aa (dcT (show ys.length<=maxI by omega)),AT,AI,drop_zero,take_length] at hr
  have bad : ∀ {w},A0 prog (LG n) (Ab [(6,rsE n)]) 0 (body f56 0) (rsE n) ([.ptr 0 0,.ptr 1 0,.ref 2 0 fs.length,.ptr 3 0,.ref 2 0 fs.length,.j (fs.length:Int),.j (i:Int)],[some (.box [.j y0,.s y1,.j y2,.b y3,.j y4,.sl (.rose LCd) ys]),some (.box [.j 0,.s [],.j 0,.b false,.ref 4 0 0]),some (.row false none FCd fs),some (.box [.j 0,.s [],.j 0,.b true,.ref 5 0 vs.length]),some (.row false none (.rose VCd) []),some (.row false none (.rose VCd) vs)])=w->w=some ((.ret:Ex),(([.ptr 0 0,.b false]:List V),[some (.box [.j 0,.s [],.j 0,.b false,.ref 1 0 0]),some (.row false none (.rose VCd) [])]))->(E9 fs i&&(B3 ys (fs.drop i)).isSome)=false->Runs prog (LG n) (Ab [(6,rsE n)]) 0 (body f56 0) (rsE n) ([.ptr 0 0,.ptr 1 0,.ref 2 0 fs.length,.ptr 3 0,.ref 2 0 fs.length,.j (fs.length:Int),.j (i:Int)],[some (.box [.j y0,.s y1,.j y2,.b y3,.j y4,.sl (.rose LCd) ys]),some (.box [.j 0,.s [],.j 0,.b false,.ref 4 0 0]),some (.row false none FCd fs),some (.box [.j 0,.s [],.j 0,.b true,.ref 5 0 vs.length]),some (.row false none (.rose VCd) []),some (.row false none (.rose VCd) vs)]) ex d:=fun e1 e2 e3=>by
   rw [Yr e3] at h
   have h8:=Ar h
   obtain ⟨rfl,rfl⟩:=Prod.mk.inj h8
   exact .stop _ _ _ (e1.trans e2) (by simp)
  have good : ∀ {w} (v:List (Rose An)),v.length<=1->A0 prog (LG n) (Ab [(6,rsE n)]) 0 (body f56 0) (rsE n) ([.ptr 0 0,.ptr 1 0,.ref 2 0 fs.length,.ptr 3 0,.ref 2 0 fs.length,.j (fs.length:Int),.j (i:Int)],[some (.box [.j y0,.s y1,.j y2,.b y3,.j y4,.sl (.rose LCd) ys]),some (.box [.j 0,.s [],.j 0,.b false,.ref 4 0 0]),some (.row false none FCd fs),some (.box [.j 0,.s [],.j 0,.b true,.ref 5 0 vs.length]),some (.row false none (.rose VCd) []),some (.row false none (.rose VCd) vs)])=w->w=some ((.normal:Ex),(([.ptr 0 0,.ptr 1 0,.ref 2 0 fs.length,.ptr 3 0,.ref 2 0 fs.length,.j (fs.length:Int),.j ((i+1:Nat):Int)],[some (.box [.j y0,.s y1,.j y2,.b y3,.j y4,.sl (.rose LCd) ys]),some (.box [.j 0,.s [],.j 0,.b false,.ref 4 0 0]),some (.row false none FCd fs),some (.box [.j 0,.s [],.j 0,.b true,.ref 5 0 (vs++v).length]),some (.row false none (.rose VCd) []),some (.row false none (.rose VCd) (vs++v))]):Dt))->CG (DD fs) i=true->(B3 ys (fs.drop i))=(B3 ys (fs.drop (i+1))).map (v++·)->Runs prog (LG n) (Ab [(6,rsE n)]) 0 (body f56 0) (rsE n) ([.ptr 0 0,.ptr 1 0,.ref 2 0 fs.length,.ptr 3 0,.ref 2 0 fs.length,.j (fs.length:Int),.j (i:Int)],[some (.box [.j y0,.s y1,.j y2,.b y3,.j y4,.sl (.rose LCd) ys]),some (.box [.j 0,.s [],.j 0,.b false,.ref 4 0 0]),some (.row false none FCd fs),some (.box [.j 0,.s [],.j 0,.b true,.ref 5 0 vs.length]),some (.row false none (.rose VCd) []),some (.row false none (.rose VCd) vs)]) ex d:=fun v hv1 e1 e2 e3 e4=>by
   refine .step _ _ _ _ (e1.trans e2) (Rn n y0 y1 y2 y3 y4 ys hks hcn hc6 fs hfs hfb hmx j (i+1) (vs++v) (by omega) (by rw [length_append]; omega) ex d ?_)
   rw [JV hl,e3,Bool.true_and,e4] at h
   refine Eq.trans ?_ h
   cases (B3 ys (fs.drop (i+1))) with
   | none=>cases E9 fs (i+1)<;>rfl
   | some us=>
    cases E9 fs (i+1) with
    | false=>rfl
    | true=>
     show some _=some _
     rw [show (Option.map (v++·) (some us)).getD []=v++us from rfl,show (some us).getD []=us from rfl,append_assoc]
  have hnos:(DD fs)[i]? = some fs[i].1:=by unfold DD; rw [getElem?_map,gtE hl]; rfl
  have tail:CG (DD fs) i=true->(∃ w,A0 prog (LG n) (Ab [(6,rsE n)]) 0 (body f56 0) (rsE n) ([.ptr 0 0,.ptr 1 0,.ref 2 0 fs.length,.ptr 3 0,.ref 2 0 fs.length,.j (fs.length:Int),.j (i:Int)],[some (.box [.j y0,.s y1,.j y2,.b y3,.j y4,.sl (.rose LCd) ys]),some (.box [.j 0,.s [],.j 0,.b false,.ref 4 0 0]),some (.row false none FCd fs),some (.box [.j 0,.s [],.j 0,.b true,.ref 5 0 vs.length]),some (.row false none (.rose VCd) []),some (.row false none (.rose VCd) vs)])=w):=fun _=>⟨_,rfl⟩
  by_cases hrise:CG (DD fs) i=true
  ·have hst:(B3 ys (fs.drop i))=(if Bu fs[i].1 ys=true then (match Fk (byR fs[i].1 ys) fs[i] with
    | some v=>(B3 ys (fs.drop (i+1))).map (v::·)
    | none=>none) else (B3 ys (fs.drop (i+1)))):=by rw [hd,B3]; all_goals rfl
   clear tail
   have hi0:i=0\/(0<i/\∃ h1:i-1<fs.length,fs[i-1].1<fs[i].1):=by
    rcases Nat.eq_zero_or_pos i with e | e
    ·exact .inl e
    ·refine .inr ⟨e,by omega,?_⟩
     unfold CG at hrise
     have h1:(DD fs)[i-1]? = some (fs[i-1]'(by omega)).1:=by unfold DD; rw [getElem?_map,gtE (by omega)]; rfl
     have e0:(i==0)=false:=beq_eq_false_iff_ne.2 (by omega)
     rw [e0,Bool.false_or,List.getD_eq_getElem?_getD,List.getD_eq_getElem?_getD,h1,hnos] at hrise
     exact of_decide_eq_true hrise
   have hr2:=hr
   clear hr
   rcases hi0 with h0 | ⟨h0,h1,h2⟩
   rotate_left
   ·have W2:i64.wrap ((i:Int)-1)=((i-1:Nat):Int):=by rw [Ay (by omega) (by omega)]; omega
    rw [Af (dcT (by omega)),W2,Aa (by simp only [anE,dcE]; omega),ntN,zero_add,gtE h1,As,Ac (dcF (by omega))] at hr2
    generalize fs[i]=f at hr2 hst hfbz hmz hnos
    cases hn:Bu f.1 ys with
    | false=>
     rw [hn] at hr2 hst
     refine good [] (by simp) hr2 ?_ hrise (hst.trans ?_)
     ·rw [append_nil]; rfl
     ·rw [if_neg (by simp)]
      cases (B3 ys (fs.drop (i+1)))<;>rfl
    | true=>
     rw [hn] at hr2 hst
     rw [if_pos rfl] at hst
     obtain ⟨bm,bn⟩:=Lp hn
     obtain ⟨hp,hrz⟩:=Cj hks _ bm
     have hcz:=BB bm
     generalize byR f.1 ys=p at hr2 hst bm bn hp hrz hcz
     unfold Fk at hst
     rw [Bq] at hr2
     by_cases hk0:f.2.1=0
     ·have hb0:(f.2.1==0)=true:=by rw [hk0]; rfl
      have hb2:(f.2.1==2)=false:=by rw [hk0]; rfl
      have hnb:=KE hfbz hk0
      cases hfk:fkB p with
      | false=>
       rw [hfk] at hr2 hst
       rw [if_neg (by rw [hb0]; simp)] at hst
       rw [hb0] at hr2
       exact bad hr2 rfl (by rw [hst]; simp)
      | true=>
       rw [hfk] at hr2 hst
       rw [if_pos hb0,if_pos hb0,Ku hfk hnb] at hst
       rw [hb0,hb2] at hr2
       cases hlf:Eg f.2.2.1 p with
       | false=>
        rw [hlf] at hr2 hst
        rw [if_neg (by simp)] at hst
        exact bad hr2 rfl (by rw [hst]; simp)
       | true=>
        rw [hlf] at hr2 hst
        rw [if_pos rfl] at hst
        dsimp only at hst
        simp only [eln] at hr2
        exact good [.node (f.2.2.1,[],f.1,false,()) []] (by simp) hr2 (by rw [length_append,length_singleton]; rfl) hrise hst
     ·have hk2:f.2.1=2:=by rcases Ep hfbz with e | e; exact absurd e hk0; exact e
      have hb0:(f.2.1==0)=false:=beq_eq_false_iff_ne.2 hk0
      have hb2:(f.2.1==2)=true:=by rw [hk2]; rfl
      cases hfk:fkB p with
      | true=>
       rw [hfk] at hr2 hst
       rw [if_neg (by rw [hb0]; simp)] at hst
       rw [hb0] at hr2
       exact bad hr2 rfl (by rw [hst]; simp)
      | false=>
       rw [hfk] at hr2 hst
       rw [if_pos hb0,if_neg (by rw [hb0]; simp),Ld] at hst
       rw [hb0,hb2] at hr2
       rw [show (!false==false)=false from rfl,Bd,Bq,Aa (dcT ⟨by omega,rfl,hrz,by omega,by omega⟩)] at hr2
       cases hdr:AO p f.2.2.2.1 0 with
       | none=>
        rw [hdr] at hr2 hst
        exact bad hr2 rfl (by rw [hst]; simp)
       | some v=>
        have hpt:=MY hrz hfk hdr
        rw [hdr] at hr2 hst
        rw [hpt,Kv hfk] at hr2
        dsimp only [map_some] at hst
        simp only [eln] at hr2
        exact good [Uo f.1 v] (by simp) hr2 (by rw [length_append,length_singleton]; rfl) hrise hst
   ·rw [Ac (dcF (by omega))] at hr2
    generalize fs[i]=f at hr2 hst hfbz hmz hnos
    cases hn:Bu f.1 ys with
    | false=>
     rw [hn] at hr2 hst
     refine good [] (by simp) hr2 ?_ hrise (hst.trans ?_)
     ·rw [append_nil]; rfl
     ·rw [if_neg (by simp)]
      cases (B3 ys (fs.drop (i+1)))<;>rfl
    | true=>
     rw [hn] at hr2 hst
     rw [if_pos rfl] at hst
     obtain ⟨bm,bn⟩:=Lp hn
     obtain ⟨hp,hrz⟩:=Cj hks _ bm
     have hcz:=BB bm
     generalize byR f.1 ys=p at hr2 hst bm bn hp hrz hcz
     unfold Fk at hst
     rw [Bq] at hr2
     by_cases hk0:f.2.1=0
     ·have hb0:(f.2.1==0)=true:=by rw [hk0]; rfl
      have hb2:(f.2.1==2)=false:=by rw [hk0]; rfl
      have hnb:=KE hfbz hk0
      cases hfk:fkB p with
      | false=>
       rw [hfk] at hr2 hst
       rw [if_neg (by rw [hb0]; simp)] at hst
       rw [hb0] at hr2
       exact bad hr2 rfl (by rw [hst]; simp)
      | true=>
       rw [hfk] at hr2 hst
       rw [if_pos hb0,if_pos hb0,Ku hfk hnb] at hst
       rw [hb0,hb2] at hr2
       cases hlf:Eg f.2.2.1 p with
       | false=>
        rw [hlf] at hr2 hst
        rw [if_neg (by simp)] at hst
        exact bad hr2 rfl (by rw [hst]; simp)
       | true=>
        rw [hlf] at hr2 hst
        rw [if_pos rfl] at hst
        dsimp only at hst
        simp only [eln] at hr2
        exact good [.node (f.2.2.1,[],f.1,false,()) []] (by simp) hr2 (by rw [length_append,length_singleton]; rfl) hrise hst
     ·have hk2:f.2.1=2:=by rcases Ep hfbz with e | e; exact absurd e hk0; exact e
      have hb0:(f.2.1==0)=false:=beq_eq_false_iff_ne.2 hk0
      have hb2:(f.2.1==2)=true:=by rw [hk2]; rfl
      cases hfk:fkB p with
      | true=>
       rw [hfk] at hr2 hst
       rw [if_neg (by rw [hb0]; simp)] at hst
       rw [hb0] at hr2
       exact bad hr2 rfl (by rw [hst]; simp)
      | false=>
       rw [hfk] at hr2 hst
       rw [if_pos hb0,if_neg (by rw [hb0]; simp),Ld] at hst
       rw [hb0,hb2] at hr2
       rw [show (!false==false)=false from rfl,Bd,Bq,Aa (dcT ⟨by omega,rfl,hrz,by omega,by omega⟩)] at hr2
       cases hdr:AO p f.2.2.2.1 0 with
       | none=>
        rw [hdr] at hr2 hst
        exact bad hr2 rfl (by rw [hst]; simp)
       | some v=>
        have hpt:=MY hrz hfk hdr
        rw [hdr] at hr2 hst
        rw [hpt,Kv hfk] at hr2
        dsimp only [map_some] at hst
        simp only [eln] at hr2
        exact good [Uo f.1 v] (by simp) hr2 (by rw [length_append,length_singleton]; rfl) hrise hst
  ·have hrise:CG (DD fs) i=false:=by simpa using hrise
   have h0:0<i:=by
    rcases Nat.eq_zero_or_pos i with e | e
    ·unfold CG at hrise; rw [e] at hrise; simp at hrise
    ·exact e
   have h1:i-1<fs.length:=by omega
   have h2 : ¬fs[i-1].1<fs[i].1:=by
    unfold CG at hrise
    have h1:(DD fs)[i-1]? = some (fs[i-1]'(by omega)).1:=by unfold DD; rw [getElem?_map,gtE (by omega)]; rfl
    have e0:(i==0)=false:=beq_eq_false_iff_ne.2 (by omega)
    rw [e0,Bool.false_or,List.getD_eq_getElem?_getD,List.getD_eq_getElem?_getD,h1,hnos] at hrise
    exact of_decide_eq_false hrise
   have W2:i64.wrap ((i:Int)-1)=((i-1:Nat):Int):=by rw [Ay (by omega) (by omega)]; omega
   rw [Af (dcT (by omega)),W2,Aa (by simp only [anE,dcE]; omega),ntN,zero_add,gtE h1,As,Af (dcT (by omega))] at hr
   exact bad hr rfl (by rw [JV hl,hrise]; rfl)

theorem Aa5 (n:Nat):A4 prog (LG n) (Ab [(6,rsE n)]) 0 (f56.body.getD .skip):=by
 refine Ax (a:=body f56 0) (by kernel_rfl) fun d ex d' h=>?_
 unfold rsE at h
 dsimp only at h
 split at h
 ·rename_i w w2 c i y0 y1 y2 y3 y4 ys fs m vs
  obtain ⟨hc,hx⟩:=Ae h
  obtain ⟨rfl,rfl,rfl,h0,h1,h2,rfl,h3,h4,h5,h6,h7,h8⟩:=of_decide_eq_true hc
  obtain ⟨i,rfl⟩:=eq_ofNat_of_zero_le h0
  simp only [ntN] at h1 hx
  exact Rn n y0 y1 y2 y3 y4 ys h6 h7 h8 fs h2 h4 h5 (fs.length-i) i vs (by omega) (by omega) ex d' hx
 ·cases h
theorem WS {s:List UInt8} (h:s.length<=400):CO s=Ii s:=by unfold Ii; rw [if_pos h]
theorem WQ (l:List WFd):E9 l 0=L0 (DD l):=by
 unfold E9 L0 DD
 rw [drop_zero,length_map]
theorem O2 {s:List UInt8} {l:List WFd} (h:Ii s=some l):(∀ x∈l,AJ x=true/\x.2.2.2.1.length<=s.length)/\l.length<=40:=by
 have e:Ii s=(rdP s).map fun l=>l.map (·.1):=by
  unfold Ii rdP CO
  split
  ·exact Hs s _ _ []
  ·rfl
 have h2:=h
 rw [e] at h2
 obtain ⟨l',h3,rfl⟩:=map_eq_some_iff.1 h2
 refine ⟨?_,by rw [length_map]; exact (MW h3).1⟩
 unfold Ii CO at h
 split at h
 ·exact MX s _ _ [] _ (by simp) h
 ·cases h
theorem Yd {z:Rose Lab} (hr:Aj z=true) (h5:z.lab.1=5) (s:List UInt8):(AO z s 0).isSome=(match EA s with
   | some fs=>(match B3 z.kids fs with | some vs=>B6 vs z.kids | none=>false)
   | none=>false):=by
 rw [P0 hr h5]
 cases EA s with
 | none=>rfl
 | some fs=>
  dsimp only
  cases B3 z.kids fs with
  | none=>rfl
  | some vs=>
   dsimp only
   cases B6 vs z.kids<;>rfl
theorem YW (n:Nat) (s:List UInt8) (y0:Int) (y1:List UInt8) (y2:Int) (y3:Bool) (y4:Int) (ys:List (Rose Lab)) (hc:s.length<=400/\y0=5/\Aj (.node (y0,y1,y2,y3,y4,()) ys:Rose Lab)=true/\Ao (.node (y0,y1,y2,y3,y4,()) ys:Rose Lab)<=(n+1)/\Ao (.node (y0,y1,y2,y3,y4,()) ys:Rose Lab)<=1000000):Bt prog (LG n) (Ab [(6,rsE n)]) f56 [.s s,.agg [.j y0,.s y1,.j y2,.b y3,.j y4,.sl (.rose LCd) ys]] []=some (.tup [.agg [.j (Bp (.node (y0,y1,y2,y3,y4,()) ys:Rose Lab) s).lab.1,.s (Bp (.node (y0,y1,y2,y3,y4,()) ys:Rose Lab) s).lab.2.1,.j (Bp (.node (y0,y1,y2,y3,y4,()) ys:Rose Lab) s).lab.2.2.1,.b (Bp (.node (y0,y1,y2,y3,y4,()) ys:Rose Lab) s).lab.2.2.2.1,.ref 0 0 (Bp (.node (y0,y1,y2,y3,y4,()) ys:Rose Lab) s).kids.length],.b (AO (.node (y0,y1,y2,y3,y4,()) ys:Rose Lab) s 0).isSome],[some (.row false none (.rose VCd) (Bp (.node (y0,y1,y2,y3,y4,()) ys:Rose Lab) s).kids)]):=by
 obtain ⟨h1,h2,h3,h4,h5⟩:=hc
 rw [WN]
 have hck:Ao (.node (y0,y1,y2,y3,y4,()) ys:Rose Lab)=Ak ys+1:=Be _
 have hM:maxI=9223372036854775807:=rfl
 have hlen:=Bz ys
 try dsimp only [shr]
 dsimp only [Ag,nil_append]
 repeat rw [drop_zero]
 rw [Aa (dcT (by omega)),WS h1,Yd h3 h2]
 unfold Bp EA
 cases hq:Ii s with
 | none=>rfl
 | some fs=>
  obtain ⟨f1,f2⟩:=O2 hq
  have hmx:mxD fs<=400:=R3 fun f hf=>by have:=(f1 f hf).2; omega
  rw [show (some fs).isSome=true from rfl,show (some fs).getD []=fs from rfl]
  rw [Bool.not_true,Bd,Aa (dcT ⟨by first | trivial | rfl,by first | trivial | rfl,by first | trivial | rfl,by omega,by omega,f2,by first | trivial | rfl,by omega,all_eq_true.2 fun x hx=>(f1 x hx).1,hmx,C0 h3 (show y0≠4 by omega),by omega,by omega⟩),WQ]
  dsimp only
  cases hr:L0 (DD fs) with
  | false=>rw [if_neg (show ¬(false=true) by simp)]; rfl
  | true=>
   rw [if_pos (rfl:true=true)]
   dsimp only [Rose.kids]
   have hds : ∀ vs,B3 ys fs=some vs->vs.length<=fs.length:=by
    intro vs
    clear hq f1 f2 hmx hr
    induction fs generalizing vs with
    | nil=>intro h; rw [B3] at h; cases h; simp
    | cons f fs ih=>
     intro h
     rw [B3] at h
     split at h
     ·split at h
      ·obtain ⟨us,h8,rfl⟩:=map_eq_some_iff.1 h
       have:=ih us h8
       simp only [length_cons]; omega
      ·cases h
     ·have:=ih vs h
      simp only [length_cons]; omega
   cases hd:B3 ys fs with
   | none=>rfl
   | some vs=>
    have hvl:=hds vs hd
    rw [show (true&&(some vs).isSome)=true from rfl,Bq]
    rw [show (some vs).getD []=vs from rfl]
    rw [Aa (dcT ⟨by omega,by rw [drop_zero,take_length]; omega⟩),drop_zero,take_length]
    rfl
theorem Ut (n:Nat) (ih:Ad prog 108 (Ent.rd1 (ptN n)).F):Ad prog 56 (Ent.rd1 (rsN (n+1))).F:=by
 refine Au (kc func107 rdf (kc func62 Z3 (kc func83 sfk (kc func108 ih (kc func109 R9 (kc func99 RA KnowsL.nil)))))).knows (Λ:=(Ab [(6,rsE n)])) func56 (c:=f56.body.getD .skip) (by kernel_rfl) fun vs bs r hq hv hb=>?_
 unfold Ent.F rsN at hq
 dsimp only at hq
 split at hq
 ·rename_i s y0 y1 y2 y3 y4 ys
  obtain ⟨hc,hx⟩:=Ae hq
  exact ⟨Aa5 n,(YW n s y0 y1 y2 y3 y4 ys (of_decide_eq_true hc)).trans hx⟩
 ·cases hq
theorem WX (n k:Nat) (s:List UInt8) (y0:Int) (y1:List UInt8) (y2:Int) (y3:Bool) (y4:Int) (y:Rose Lab) (hy:Aj y=true) (hcn:Ao y<=n) (hc6:Ao y<=1000000) (hs:s.length<=400) : ∀ (j a:Nat) (vs:List (Rose An)),s.length-a<=j->a<=s.length->vs.length<=a->∀ ex d,(Br.br (BE (fkB y) (fun n=>A6 y n 0) (fun d=>AO y d 0) s (s.length-a) a).isSome (.leaf (.exit 1,([.ptr 0 0,.ptr 1 0],[some (.box [.j 0,.s [],.j 0,.b false,.ref 2 0 0]),some (.box [.j 0,.s [],.j 0,.b true,.ref 3 0 (vs++(BE (fkB y) (fun n=>A6 y n 0) (fun d=>AO y d 0) s (s.length-a) a).getD []).length]),some (.row false none (.rose VCd) []),some (.row false none (.rose VCd) (vs++(BE (fkB y) (fun n=>A6 y n 0) (fun d=>AO y d 0) s (s.length-a) a).getD []))]))) (.leaf (.ret,([.ptr 0 0,.b false],[some (.box [.j 0,.s [],.j 0,.b false,.ref 1 0 0]),some (.row false none (.rose VCd) [])]))):Br (Ex×Dt)).run=some (ex,d)->Runs prog (PK k n) (Ab [(8,ptE n)]) 0 (body f108 0) (ptE n) ([.s s,.ptr 0 0,.ptr 1 0,.ptr 2 0,.j (a:Int)],[some (.box [.j y0,.s y1,.j y2,.b y3,.j y4,.sl (.rose LCd) [y]]),some (.box [.j 0,.s [],.j 0,.b false,.ref 3 0 0]),some (.box [.j 0,.s [],.j 0,.b true,.ref 4 0 vs.length]),some (.row false none (.rose VCd) []),some (.row false none (.rose VCd) vs)]) ex d:=by
 intro j
 induction j with
 | zero=>
  intro a vs hj ha hv ex d h
  have hr:=Kf n k s y0 y1 y2 y3 y4 [y] vs.length a vs
  try dsimp only [shr] at hr
  rw [Ac (dcF (by omega))] at hr
  rw [FV (by omega),Wq (by rfl),show (some ([]:List (Rose An))).getD []=[] from rfl,append_nil] at h
  have h8:=Ar h
  obtain ⟨rfl,rfl⟩:=Prod.mk.inj h8
  exact .stop _ _ _ hr (by simp)
 | succ j ih=>
  intro a vs hj ha hv ex d h
  by_cases hlt:a<s.length
  ·have hr:=Kf n k s y0 y1 y2 y3 y4 [y] vs.length a vs
   try dsimp only [shr] at hr
   have hM:maxI=9223372036854775807:=rfl
   have ⟨⟨u1,u2⟩,u3,u4⟩:=Ey s a
   have hst:=IB (num:=fkB y) (N:=fun n=>A6 y n 0) (D:=fun d=>AO y d 0) hlt
   have eln : ∀ x:Option (Ex×Dt),ifT (decide ((vs.length+1)*64<=140737488355328)&&decide (vs.length+1<=maxI)) x=x:=fun x=>Aa (by simp only [anE,dcE]; omega)
   have bad : ∀ {w},A0 prog (PK k n) (Ab [(8,ptE n)]) 0 (body f108 0) (ptE n) ([.s s,.ptr 0 0,.ptr 1 0,.ptr 2 0,.j (a:Int)],[some (.box [.j y0,.s y1,.j y2,.b y3,.j y4,.sl (.rose LCd) [y]]),some (.box [.j 0,.s [],.j 0,.b false,.ref 3 0 0]),some (.box [.j 0,.s [],.j 0,.b true,.ref 4 0 vs.length]),some (.row false none (.rose VCd) []),some (.row false none (.rose VCd) vs)])=w->w=some ((.ret:Ex),(([.ptr 0 0,.b false]:List V),[some (.box [.j 0,.s [],.j 0,.b false,.ref 1 0 0]),some (.row false none (.rose VCd) [])]))->(BE (fkB y) (fun n=>A6 y n 0) (fun d=>AO y d 0) s (s.length-a) a)=none->Runs prog (PK k n) (Ab [(8,ptE n)]) 0 (body f108 0) (ptE n) ([.s s,.ptr 0 0,.ptr 1 0,.ptr 2 0,.j (a:Int)],[some (.box [.j y0,.s y1,.j y2,.b y3,.j y4,.sl (.rose LCd) [y]]),some (.box [.j 0,.s [],.j 0,.b false,.ref 3 0 0]),some (.box [.j 0,.s [],.j 0,.b true,.ref 4 0 vs.length]),some (.row false none (.rose VCd) []),some (.row false none (.rose VCd) vs)]) ex d:=fun e1 e2 e3=>by
    rw [e3,Yr (by rfl)] at h
    have h8:=Ar h
    obtain ⟨rfl,rfl⟩:=Prod.mk.inj h8
    exact .stop _ _ _ (e1.trans e2) (by simp)
   have good : ∀ {w} (b:Nat) (v:Rose An),a<b->b<=s.length->A0 prog (PK k n) (Ab [(8,ptE n)]) 0 (body f108 0) (ptE n) ([.s s,.ptr 0 0,.ptr 1 0,.ptr 2 0,.j (a:Int)],[some (.box [.j y0,.s y1,.j y2,.b y3,.j y4,.sl (.rose LCd) [y]]),some (.box [.j 0,.s [],.j 0,.b false,.ref 3 0 0]),some (.box [.j 0,.s [],.j 0,.b true,.ref 4 0 vs.length]),some (.row false none (.rose VCd) []),some (.row false none (.rose VCd) vs)])=w->w=some ((.normal:Ex),(([.s s,.ptr 0 0,.ptr 1 0,.ptr 2 0,.j (b:Int)],[some (.box [.j y0,.s y1,.j y2,.b y3,.j y4,.sl (.rose LCd) [y]]),some (.box [.j 0,.s [],.j 0,.b false,.ref 3 0 0]),some (.box [.j 0,.s [],.j 0,.b true,.ref 4 0 (vs++[v]).length]),some (.row false none (.rose VCd) []),some (.row false none (.rose VCd) (vs++[v]))]):Dt))->(BE (fkB y) (fun n=>A6 y n 0) (fun d=>AO y d 0) s (s.length-a) a)=(BE (fkB y) (fun n=>A6 y n 0) (fun d=>AO y d 0) s (s.length-b) b).map (v::·)->Runs prog (PK k n) (Ab [(8,ptE n)]) 0 (body f108 0) (ptE n) ([.s s,.ptr 0 0,.ptr 1 0,.ptr 2 0,.j (a:Int)],[some (.box [.j y0,.s y1,.j y2,.b y3,.j y4,.sl (.rose LCd) [y]]),some (.box [.j 0,.s [],.j 0,.b false,.ref 3 0 0]),some (.box [.j 0,.s [],.j 0,.b true,.ref 4 0 vs.length]),some (.row false none (.rose VCd) []),some (.row false none (.rose VCd) vs)]) ex d:=fun b v k1 k2 e1 e2 e4=>by
    refine .step _ _ _ _ (e1.trans e2) (ih b (vs++[v]) (by omega) k2 (by rw [length_append,length_singleton]; omega) ex d ?_)
    rw [e4] at h
    refine Eq.trans ?_ h
    cases (BE (fkB y) (fun n=>A6 y n 0) (fun d=>AO y d 0) s (s.length-b) b) with
    | none=>rfl
    | some us=>
     show some _=some _
     rw [show (Option.map (v::·) (some us)).getD []=v::us from rfl,show (some us).getD []=us from rfl,append_assoc]
     rfl
   rw [Af (dcT (by omega)),Aa (dcT (by omega)),ntN] at hr
   simp only [AI,drop_zero,take_length,AT] at hr
   cases h3:BK (Ah s a) with
   | false=>
    rw [h3] at hr
    refine bad hr rfl (hst.trans ?_)
    have hb:(AZ s a).2.2=false:=by unfold AZ; dsimp only; rw [if_neg (fun hh=>by rw [h3] at hh; cases hh.1)]
    cases fkB y with
    | true=>
     dsimp only
     cases A6 y (unf (A9 (Ah s a))) 0 with
     | none=>rfl
     | some v=>dsimp only; rw [h3,if_neg (by simp)]
    | false=>dsimp only; rw [hb]
   | true=>
    have e:=EN h3
    obtain ⟨s1,s2⟩:=PU (a:=a) h3
    rw [h3,Bool.not_true,Bd] at hr
    simp only [s1,s2] at hr
    rw [Aa (dcT (by omega)),Aa (by rfl),show [y][0]? = some y from rfl,As] at hr
    cases hf:fkB y with
    | true=>
     rw [hf] at hr hst
     dsimp only at hst
     rw [Bool.not_true,Bd] at hr
     cases hnb:BT (unf (A9 (Ah s a))) with
     | false=>
      rw [hnb] at hr
      have hn:A6 y (unf (A9 (Ah s a))) 0=none:=by unfold A6; rw [if_neg (fun hh=>by rw [hnb] at hh; cases hh.1)]
      rw [hn] at hst
      exact bad hr rfl (by rw [hf]; exact hst)
     | true=>
      rw [hnb] at hr
      rw [Ku hf hnb,h3] at hst
      simp only [Aa (show (decide ((0:Int)<=0)&&decide ((0:Int)<(([y]:List (Rose Lab)).length:Int)))=true from rfl),As,eln] at hr
      cases hlf:Eg (unf (A9 (Ah s a))) y with
      | false=>
       rw [hlf] at hr hst
       exact bad hr rfl (by rw [hf]; exact hst)
      | true=>
       rw [hlf] at hr hst
       refine good (Az a (Ah s a)).toNat (.node (unf (A9 (Ah s a)),[],0,false,()) []) (by omega) (by omega) hr ?_ (by rw [hf]; exact hst)
       rw [show (((Az a (Ah s a)).toNat:Nat):Int)=Az a (Ah s a) by omega,length_append,length_singleton]
       rfl
    | false=>
     rw [hf] at hr hst
     dsimp only at hst
     have W1:i64.wrap ((s.length:Int)-Az a (Ah s a))=(s.length:Int)-Az a (Ah s a):=Ay (by omega) (by omega)
     have W2:i64.wrap (Az a (Ah s a)+A9 (Ah s a))=Az a (Ah s a)+A9 (Ah s a):=Ay (by omega) (by omega)
     simp only [W1,W2] at hr
     rw [Bool.not_false,Bq] at hr
     by_cases hn:A9 (Ah s a)<=s.length-Az a (Ah s a)
     ·have hb:AZ s a=((s.drop (Az a (Ah s a)).toNat).take (A9 (Ah s a)).toNat,Az a (Ah s a)+A9 (Ah s a),true):=by unfold AZ; dsimp only; rw [if_pos ⟨h3,hn⟩]
      have hd8:(Az a (Ah s a)+A9 (Ah s a)).toNat-(Az a (Ah s a)).toNat=(A9 (Ah s a)).toNat:=by omega
      have htl:=Uc s a
      rw [hb] at hst htl
      dsimp only at hst htl
      rw [Ac (dcF (by omega)),Aa (by simp only [anE,dcE]; omega),hd8] at hr
      generalize (s.drop (Az a (Ah s a)).toNat).take (A9 (Ah s a)).toNat=dta at hr hst htl
      simp only [Aa (show (decide ((0:Int)<=0)&&decide ((0:Int)<(([y]:List (Rose Lab)).length:Int)))=true from rfl),As,eln] at hr
      rw [Aa (dcT ⟨by omega,hf,hy,hcn,hc6⟩)] at hr
      cases hdr:AO y dta 0 with
      | none=>
       rw [hdr] at hr hst
       exact bad hr rfl (by rw [hf]; exact hst)
      | some v=>
       have hpt:=MY hy hf hdr
       rw [hdr] at hr hst
       rw [hpt,Kv hf] at hr
       refine good (Az a (Ah s a)+A9 (Ah s a)).toNat v (by omega) (by omega) hr ?_ (by rw [hf]; exact hst)
       rw [show (((Az a (Ah s a)+A9 (Ah s a)).toNat:Nat):Int)=Az a (Ah s a)+A9 (Ah s a) by omega,length_append,length_singleton]
       simp only [B8]
       rfl
     ·have hb:(AZ s a).2.2=false:=by unfold AZ; dsimp only; rw [if_neg (fun hh=>hn hh.2)]
      rw [hb] at hst
      rw [Af (dcT (by omega))] at hr
      exact bad hr rfl (by rw [hf]; exact hst)
  ·have hr:=Kf n k s y0 y1 y2 y3 y4 [y] vs.length a vs
   try dsimp only [shr] at hr
   rw [Ac (dcF (by omega))] at hr
   rw [FV (by omega),Wq (by rfl),show (some ([]:List (Rose An))).getD []=[] from rfl,append_nil] at h
   have h8:=Ar h
   obtain ⟨rfl,rfl⟩:=Prod.mk.inj h8
   exact .stop _ _ _ hr (by simp)
theorem Aa6 (n k:Nat):A4 prog (PK k n) (Ab [(8,ptE n)]) 0 (f108.body.getD .skip):=by
 refine Ax (a:=body f108 0) (by kernel_rfl) fun d ex d' h=>?_
 unfold ptE at h
 dsimp only at h
 split at h
 ·rename_i s a y0 y1 y2 y3 y4 ys m vs
  obtain ⟨hc,hx⟩:=Ae h
  obtain ⟨h0,h1,h2,rfl,h3,h4,h5,h6,h7⟩:=of_decide_eq_true hc
  obtain ⟨a,rfl⟩:=eq_ofNat_of_zero_le h0
  match ys,h4 with
  | [y],_=>
   have e:Ak [y]=Ao y:=by rw [Ak,Ak]; rfl
   simp only [ntN] at h1 hx
   exact WX n k s y0 y1 y2 y3 y4 y (by simpa using h5) (by omega) (by omega) h2 _ a vs (le_refl _) h1 (by omega) ex d' hx
 ·cases h
theorem Zc (n:Nat) (s:List UInt8) (y0:Int) (y1:List UInt8) (y2:Int) (y3:Bool) (y4:Int) (ys:List (Rose Lab)) (hc:s.length<=400/\fkB (.node (y0,y1,y2,y3,y4,()) ys:Rose Lab)=false/\Aj (.node (y0,y1,y2,y3,y4,()) ys:Rose Lab)=true/\Ao (.node (y0,y1,y2,y3,y4,()) ys:Rose Lab)<=(n+1)/\Ao (.node (y0,y1,y2,y3,y4,()) ys:Rose Lab)<=1000000):Bt prog (Ab [(56,.rd1 (rsN (n+1))),(149,.rd1 TW),(150,.rd1 Ly),(83,.rd1 So),(108,.rd1 (ptN n)),(98,.rd1 FG),(109,.rd1 Kw)]) (Ab [(8,ptE n)]) f108 [.s s,.agg [.j y0,.s y1,.j y2,.b y3,.j y4,.sl (.rose LCd) ys]] []=some (.tup [.agg [.j (BG (.node (y0,y1,y2,y3,y4,()) ys:Rose Lab) s).lab.1,.s (BG (.node (y0,y1,y2,y3,y4,()) ys:Rose Lab) s).lab.2.1,.j (BG (.node (y0,y1,y2,y3,y4,()) ys:Rose Lab) s).lab.2.2.1,.b (BG (.node (y0,y1,y2,y3,y4,()) ys:Rose Lab) s).lab.2.2.2.1,.ref 0 0 (BG (.node (y0,y1,y2,y3,y4,()) ys:Rose Lab) s).kids.length],.b (AO (.node (y0,y1,y2,y3,y4,()) ys:Rose Lab) s 0).isSome],[some (.row false none (.rose VCd) (BG (.node (y0,y1,y2,y3,y4,()) ys:Rose Lab) s).kids)]):=by
 obtain ⟨h1,h2,h3,h4,h5⟩:=hc
 rw [WW]
 have hck:Ao (.node (y0,y1,y2,y3,y4,()) ys:Rose Lab)=Ak ys+1:=Be _
 try dsimp only [shr]
 simp only [AI,nil_append]
 unfold BG
 rcases JY h3 h2 with q | q | q
 ·have q:y0=2:=q
  rw [Af (beq_iff_eq.2 q),DT (show ((.node (y0,y1,y2,y3,y4,()) ys:Rose Lab)).lab.1=2 from q),if_pos (show ((.node (y0,y1,y2,y3,y4,()) ys:Rose Lab)).lab.1=2 from q)]
  by_cases q3:s.length<=30
  ·rw [if_pos q3,dcT (by omega)]; rfl
  ·rw [if_neg q3,dcF (by omega)]; rfl
 ·obtain ⟨k1,k2⟩:=CN h3 q
  have k1:ys.length=1:=k1
  have k2:ys.all Aj=true:=k2
  have hq:y0=4:=q
  rw [Ac (beq_eq_false_iff_ne.2 (by omega)),Ac (beq_eq_false_iff_ne.2 (by omega)),DV q,if_neg (show ¬((.node (y0,y1,y2,y3,y4,()) ys:Rose Lab)).lab.1=2 by rw [q]; decide),if_neg (show ¬((.node (y0,y1,y2,y3,y4,()) ys:Rose Lab)).lab.1=5 by rw [q]; decide),Aa (dcT ⟨by omega,by omega,h1,by first | trivial | rfl,by omega,k1,k2,by omega,by omega⟩)]
  dsimp only [Rose.kids]
  match ys,k1 with
  | [y],_=>
   rw [Em]
   show ifB (BE (fkB y) (fun n=>A6 y n 0) (fun d=>AO y d 0) s (s.length-0) 0).isSome _ _=_
   dsimp only [hd0]
   rw [Nat.sub_zero]
   cases BE (fkB y) (fun n=>A6 y n 0) (fun d=>AO y d 0) s s.length 0<;>rfl
 ·have hq:y0=5:=q
  rw [Ac (beq_eq_false_iff_ne.2 (by omega)),Af (beq_iff_eq.2 hq),if_neg (show ¬((.node (y0,y1,y2,y3,y4,()) ys:Rose Lab)).lab.1=2 by rw [q]; decide),if_pos q,Aa (dcT ⟨h1,hq,h3,h4,h5⟩)]
theorem Zd : ∀ n,(∀ m,m<n->Ad prog 108 (Ent.rd1 (ptN m)).F)->Ad prog 108 (Ent.rd1 (ptN n)).F
 | 0,_=>AX fun vs bs=>by
  unfold Ent.F ptN
  dsimp only
  split
  ·rename_i s y0 y1 y2 y3 y4 ys
   have hz:=BX (.node (y0,y1,y2,y3,y4,()) ys:Rose Lab)
   have:decide (s.length<=400/\fkB (.node (y0,y1,y2,y3,y4,()) ys:Rose Lab)=false/\Aj (.node (y0,y1,y2,y3,y4,()) ys:Rose Lab)=true/\Ao (.node (y0,y1,y2,y3,y4,()) ys:Rose Lab)<=0/\Ao (.node (y0,y1,y2,y3,y4,()) ys:Rose Lab)<=1000000)=false:=dcF (by omega)
   rw [this]; rfl
  ·rfl
 | n+1,ihs=>by
  have ih:=ihs n (Nat.lt_succ_self n)
  have hr:=Ut n ih
  refine Au (kc func56 hr (kc func149 tvs (kc func150 Aax (kc func83 sfk (kc func108 ih (kc func98 RC (kc func109 R9 KnowsL.nil))))))).knows (Λ:=(Ab [(8,ptE n)])) func108 (c:=f108.body.getD .skip) (by kernel_rfl) fun vs bs r hq hv hb=>?_
  unfold Ent.F ptN at hq
  dsimp only at hq
  split at hq
  ·rename_i s y0 y1 y2 y3 y4 ys
   obtain ⟨hc,hx⟩:=Ae hq
   exact ⟨Aa6 n (n+1),(Zc n s y0 y1 y2 y3 y4 ys (of_decide_eq_true hc)).trans hx⟩
  ·cases hq
theorem Ze (n:Nat):Ad prog 108 (Ent.rd1 (ptN n)).F:=Nat.strongRecOn n fun n h=>Zd n h
theorem Uu (n:Nat):Ad prog 56 (Ent.rd1 (rsN (n+1))).F:=Ut n (Ze n)
mutual
def wfR:Rose An->Bool
 | .node x vs=>(x.2.2.2.1||vs.isEmpty)&&wfL vs
def wfL:List (Rose An)->Bool
 | []=>true
 | v::vs=>wfR v&&wfL vs
end
mutual
def unR:Rose An->Rose Lab
 | .node x vs=>.node (bif x.2.2.2.1 then 5 else 1,x.2.1,x.2.2.1,x.2.2.2.1,x.1,()) (unL vs)
def unL:List (Rose An)->List (Rose Lab)
 | []=>[]
 | v::vs=>unR v::unL vs
end
theorem MJ : ∀ vs:List (Rose An),wfL vs=vs.all wfR
 | []=>by rw [wfL]; rfl
 | v::vs=>by rw [wfL,MJ vs]; rfl
mutual
theorem RX : ∀ v:Rose An,cv (unR v)=v
 | .node x vs=>by
  rw [unR,cv,Wl vs]
  rfl
theorem Wl : ∀ vs:List (Rose An),cvs (unL vs)=vs
 | []=>by rw [unL,cvs]
 | v::vs=>by rw [unL,cvs,RX v,Wl vs]
end
theorem WB {vs:List (Rose An)}:(unL vs).isEmpty=vs.isEmpty:=by cases vs<;>rw [unL]<;>rfl
mutual
theorem Yz : ∀ v:Rose An,wfR v=true->lfR (unR v)=true
 | .node x vs,h=>by
  rw [wfR,anE] at h
  rw [unR,lfR,TV vs h.2,WB]
  obtain ⟨a,b,c,m,⟨⟩⟩:=x
  have h1:(m||vs.isEmpty)=true:=h.1
  cases m
  ·rw [Bool.false_or] at h1; rw [h1]; rfl
  ·rfl
theorem TV : ∀ vs:List (Rose An),wfL vs=true->lfL (unL vs)=true
 | [],_=>by rw [unL,lfL]
 | v::vs,h=>by
  rw [wfL,anE] at h
  rw [unL,lfL,Yz v h.1,TV vs h.2]; rfl
end
theorem YG (v:Rose An):Ao (unR v)=vcR v:=by
 have:=TJ (unR v)
 rw [RX] at this
 exact this.symm
theorem I0 {v:Rose An} (h:wfR v=true):vtr (Al v (-1) 0) 0=v/\ven (Al v (-1) 0) 0=(Al v (-1) 0).length/\(Al v (-1) 0).length=vcR v:=by
 have hlf:=Yz v h
 have ht:=JI (unR v) hlf (-1) 0
 rw [RX] at ht
 have hlen:=CK (unR v) (-1) 0
 have hoff:UO (AK (unR v) (-1) 0) 0 (0+Ao (unR v)):=fun j _ hu=>by
  have:=DX hu
  omega
 have hk:=LN (AK (unR v) (-1) 0) (unR v) hlf (-1) 0 (Kx _ _ [] rfl) hoff
 have hl:=Ch v (-1) 0
 unfold vtr ven
 rw [<-ht,hk,hl,YG,zero_add]
 exact ⟨RX v,rfl,rfl⟩
theorem Lf : ∀ (ks:List (Rose Lab)) (fs:List WFd) (vs:List (Rose An)),Bg ks fs=some vs->∀ v∈vs,∃ p∈ks,v.lab.2.2.1=p.lab.2.2.1
 | [],fs,vs,h,v,hv=>by rw [Bg] at h; cases h; cases hv
 | p::ks,fs,vs,h,v,hv=>by
  rw [BI] at h
  split at h
  ·split at h
   ·cases h
   ·obtain ⟨q,hq,e⟩:=Lf ks fs vs h v hv
    exact ⟨q,mem_cons_of_mem _ hq,e⟩
  ·rename_i f hf
   have hfn:=List.find?_some hf
   have hfn:f.1=p.lab.2.2.1:=by simpa using hfn
   split at h
   ·rename_i w hw
    obtain ⟨us,hu,rfl⟩:=map_eq_some_iff.1 h
    rcases mem_cons.1 hv with rfl | hv
    ·exact ⟨p,List.mem_cons_self,(Gt hw).trans hfn⟩
    ·obtain ⟨q,hq,e⟩:=Lf ks fs us hu v hv
     exact ⟨q,mem_cons_of_mem _ hq,e⟩
   ·cases h
theorem UP {z:Rose Lab} {n no:Int} {v:Rose An} (_:Aj z=true) (hf:fkB z=true) (h:A6 z n no=some v):sfR v z=true/\wfR v=true:=by
 unfold A6 at h
 split at h
 ·rename_i hc
  cases h
  refine ⟨?_,by rw [wfR,wfL]; rfl⟩
  unfold fkB at hf
  rw [or_eq_true,beq_iff_eq,beq_iff_eq] at hf
  rw [sfR]
  rcases hf with hf | hf
  ·rw [if_neg (by rw [hf]; simp [Da,Aw]),if_pos hf]
   exact hc.1
  ·rw [if_neg (by rw [hf]; simp [Da,Aw]),if_neg (by omega),if_pos hf]
   rcases hc.2 with h1 | h1
   ·omega
   ·exact dcT h1
 ·cases h
theorem Lh {num:Bool} {N:Int->Option (Rose An)} {D:List UInt8->Option (Rose An)} {s:List UInt8} (Q:Rose An->Prop) (hN:num=true->∀ n v,N n=some v->Q v) (hD:num=false->∀ d v,D d=some v->Q v) : ∀ (f a:Nat) (vs:List (Rose An)),BE num N D s f a=some vs->∀ v∈vs,Q v
 | 0,a,vs,h,v,hv=>by
  rw [IA] at h
  split at h
  ·cases h
  ·cases h; cases hv
 | f+1,a,vs,h,v,hv=>by
  rw [E7] at h
  split at h
  ·cases num with
   | true=>
    dsimp only at h
    split at h
    ·rename_i w hw
     split at h
     ·obtain ⟨us,hu,rfl⟩:=map_eq_some_iff.1 h
      rcases mem_cons.1 hv with rfl | hv
      ·exact hN rfl _ _ hw
      ·exact Lh Q hN hD f _ us hu v hv
     ·cases h
    ·cases h
   | false=>
    dsimp only at h
    split at h
    ·split at h
     ·rename_i w hw
      obtain ⟨us,hu,rfl⟩:=map_eq_some_iff.1 h
      rcases mem_cons.1 hv with rfl | hv
      ·exact hD rfl _ _ hw
      ·exact Lh Q hN hD f _ us hu v hv
     ·cases h
    ·cases h
  ·cases h; cases hv
mutual
theorem QN : ∀ (z:Rose Lab),Aj z=true->fkB z=false->∀ (s:List UInt8) (no:Int) (v:Rose An),AO z s no=some v->sfR v z=true/\wfR v=true
 | .node x ks,hr,hf,s,no,v,h=>by
  have hp:=Ck hr
  simp only [Rose.lab,Rose.kids] at hp
  have hkd:=JA (t:=.node x ks) hr
  have hbad : ∀ k:Int,k=4\/k=5->¬Da 0 [] true k=true:=fun k hk=>by rcases hk with rfl | rfl<;>simp [Da,Aw]
  by_cases h2:x.1=2
  ·rw [AO,if_pos h2] at h
   split at h
   ·rename_i hl
    cases h
    refine ⟨?_,by rw [wfR,wfL]; rfl⟩
    have h2':(Rose.node x ks:Rose Lab).lab.1=2:=h2
    rw [sfR,h2',if_neg (by simp [Da,Aw]),if_neg (by omega),if_neg (by omega),if_pos rfl]
    exact dcT hl
   ·cases h
  ·have hk:=hkd h2 (by rw [hf]; simp)
   have hk:x.1=4\/x.1=5:=hk
   by_cases h4:x.1=4
   ·rw [AO,if_neg h2,if_pos h4] at h
    obtain ⟨vs,hv,rfl⟩:=map_eq_some_iff.1 h
    have hl:=CN hr h4
    obtain ⟨y,hy⟩:=length_eq_one_iff.1 hl.1
    have hy:ks=[y]:=hy
    have hall:=Ya ks hl.2 s vs hv
    have h4':(Rose.node x ks:Rose Lab).lab.1=4:=h4
    refine ⟨?_,by rw [wfR,MJ]; simp only [Bool.true_or,Bool.true_and,all_eq_true]; exact fun v hv=>(hall v hv).2.2⟩
    rw [sfR,h4',if_neg (hbad 4 (.inl rfl)),if_neg (by omega),if_neg (by omega),if_neg (by omega),if_pos rfl,Gf,all_eq_true]
    intro v hv
    obtain ⟨a1,a2,_⟩:=hall v hv
    rw [anE,beq_iff_eq]
    exact ⟨a1,a2⟩
   ·have h5:x.1=5:=by omega
    rw [AO,if_neg h2,if_neg h4] at h
    split at h
    ·rename_i fs _
     obtain ⟨vs,hv,rfl⟩:=map_eq_some_iff.1 h
     have h5':(Rose.node x ks:Rose Lab).lab.1=5:=h5
     have hpw:ks.Pairwise KR:=HB (z:=.node x ks) hr h5'
     obtain ⟨a1,a2⟩:=ND ks (C0 (z:=.node x ks) hr (by omega)) hpw fs vs hv
     refine ⟨?_,by rw [wfR,a2]; rfl⟩
     rw [Ip hpw] at a1
     rw [sfR,h5',if_neg (hbad 5 (.inr rfl)),if_neg (by omega),if_neg (by omega),if_neg (by omega),if_neg (by omega)]
     exact a1
    ·cases h
theorem Ya : ∀ (ks:List (Rose Lab)),ks.all Aj=true->∀ (s:List UInt8) (vs:List (Rose An)),Em ks s=some vs->∀ v∈vs,v.lab.2.2.1=0/\sfR v (hd0 ks)=true/\wfR v=true
 | [],_,s,vs,h=>by rw [Em] at h; cases h
 | z::ks,hr,s,vs,h=>by
  rw [all_cons,anE] at hr
  rw [Em] at h
  exact Lh (fun v=>v.lab.2.2.1=0/\sfR v (hd0 (z::ks))=true/\wfR v=true) (fun hf n v hv=>⟨MA hv,UP hr.1 hf hv⟩) (fun hf d v hv=>⟨NF hv,QN z hr.1 hf d 0 v hv⟩) _ _ vs h
theorem ND : ∀ (ks:List (Rose Lab)),A8 5 ks=true->ks.Pairwise KR->∀ (fs:List WFd) (vs:List (Rose An)),Bg ks fs=some vs->BD ks vs=true/\wfL vs=true
 | [],_,_,fs,vs,h=>by
  rw [Bg] at h; cases h
  exact ⟨by rw [BD]; rfl,by rw [wfL]⟩
 | p::ks,hr,hpw,fs,vs,h=>by
  rw [A8,anE,anE] at hr
  rw [pairwise_cons] at hpw
  rw [BI] at h
  split at h
  ·split at h
   ·cases h
   ·rename_i hm
    have ih:=ND ks hr.2 hpw.2 fs vs h
    refine ⟨?_,ih.2⟩
    have hm:p.lab.2.2.2.1=false:=by simpa using hm
    cases vs with
    | nil=>rw [BD,hm,ih.1]; rfl
    | cons u us=>
     obtain ⟨q,hq,e⟩:=Lf ks fs (u::us) h u List.mem_cons_self
     have:=hpw.1 q hq
     unfold KR at this
     rw [BD,if_neg (by omega),hm,ih.1]; rfl
  ·rename_i f hf
   have hfn:=List.find?_some hf
   have hfn:f.1=p.lab.2.2.1:=by simpa using hfn
   split at h
   ·rename_i w hw
    obtain ⟨us,hu,rfl⟩:=map_eq_some_iff.1 h
    have ih:=ND ks hr.2 hpw.2 fs us hu
    have key:sfR w p=true/\wfR w=true:=by
     unfold Fk at hw
     split at hw
     ·rename_i hk
      split at hw
      ·rename_i hn
       exact UP hr.1.2 (by rw [<-hk]; exact hn) hw
      ·rename_i hn
       exact QN p hr.1.2 (by rw [<-hk]; simpa using hn) _ _ w hw
     ·cases hw
    rw [BD,if_pos ((Gt hw).trans hfn),key.1,ih.1,wfL,key.2,ih.2]
    exact ⟨rfl,rfl⟩
   ·cases h
end
def dvB (z:Rose Lab) (s:List UInt8):Bool:=Fz z s&&decide ((Ia z s).length<=40)
def dvL (z:Rose Lab) (s:List UInt8):List Nd:=bif dvB z s then Ia z s else []
def ecL (z:Rose Lab) (l:List Nd):List UInt8:=A7 (vtr l 0) z
def ecB (z:Rose Lab) (l:List Nd):Bool:=decide ((ecL z l).length<=400)
def Vd:Gm
 | [.tp LCd z 0,.s s],[]=>.need (decide (CY z=true/\s.length<=4000000000)) (.leaf (.tup [.agg [.ref 0 0 (dvL z s).length],.b (dvB z s)],[some (.row false none NCd (dvL z s))]))
 | _,_=>.no
def Vh:Gm
 | [.tp LCd z 0,.agg [.sl NCd l]],[]=>.need (decide (Ao z<=1000000/\Aj z=true/\0<l.length/\l.length<=40)&&sfR (vtr l 0) z) (.leaf (.tup [.s (bif ecB z l then ecL z l else []),.b (ecB z l)],[]))
 | _,_=>.no
theorem SN (z:Rose Lab) (s:List UInt8):Bt prog (Ab [(50,.rd1 MM)]) (Ab []) f49 [.tp LCd z 0,.s s] [] =
 ((ifT (decide (CY z=true/\s.length<=4000000000)) (ifB (!Fz z s) (some (V.tup [V.agg [V.ref 0 0 0],V.b false],[some (Blk.row false none NCd (Ag
 NCd.den))])) (ifB (decide ((↑(Ia z s).length:Int)>(40:Int))) (some (V.tup [V.agg [V.ref 0 0 0],V.b false],[some (Blk.row false none NCd (Ag NCd.den))])) (some
 (V.tup [V.agg [V.ref 0 0 (Ia z s).length],V.b true],[some (Blk.row false none NCd (Ia z s))]))))):_):=by kernel_rfl
theorem SP (z:Rose Lab) (l:List Nd):Bt prog (Ab [(89,.rd1 Aal)]) (Ab []) f42 [.tp LCd z 0,.agg [.sl NCd l]] [] =
 ((ifT (decide (Ao z<=1000000/\Aj z=true/\(0:Int)<=(0:Int)/\0<l.length/\l.length<=40)&&sfR (vtr l 0) z) (ifB (decide
 ((↑(A7 (vtr l 0) z).length:Int)>(400:Int))) (some (V.tup [V.s (Ag UInt8),V.b false],[])) (some (V.tup [V.s (A7 (vtr l 0) z),V.b true],
 [])))):_):=by kernel_rfl
theorem J9 {z:Rose Lab} (h:CY z=true):fkB z=false:=by
 unfold fkB; rw [(Cl h).1]; rfl
theorem VB {z:Rose Lab} {s:List UInt8}:(dvL z s).length<=40:=by
 unfold dvL dvB
 cases h:Fz z s&&decide ((Ia z s).length<=40)
 ·exact zero_le _
 ·rw [anE] at h
  exact of_decide_eq_true h.2
theorem VC {z:Rose Lab} {s:List UInt8} (hg:CY z=true) (h:dvB z s=true):0<(dvL z s).length/\sfR (vtr (dvL z s) 0) z=true/\∃ v,AO z s 0=some v/\wfR v=true/\dvL z s=Al v (-1) 0/\vtr (dvL z s) 0=v:=by
 have h':=h
 unfold dvB Fz at h'
 rw [anE,anE] at h'
 obtain ⟨⟨h1,h2⟩,h3⟩:=h'
 obtain ⟨g1,g2,g3⟩:=Cl hg
 cases hd:AO z s 0 with
 | none=>rw [hd] at h2; cases h2
 | some v=>
  obtain ⟨a1,a2⟩:=QN z g2 (J9 hg) s 0 v hd
  obtain ⟨b1,b2,b3⟩:=I0 a2
  have e:dvL z s=Al v (-1) 0:=by
   unfold dvL Ia
   rw [h]
   have hv:Fz z s=true:=by unfold Fz; rw [h1,hd]; rfl
   rw [hv]
   unfold Bv
   rw [hd]; rfl
  have hk:=Du v
  rw [e,b1,b3]
  exact ⟨by omega,a1,v,rfl,a2,rfl,rfl⟩
theorem Acj:Ad prog 49 (Ent.rd1 Vd).F:=by
 refine Au (kc func50 LM KnowsL.nil).knows (Λ:=Ab []) func49 (c:=f49.body.getD .skip) (by kernel_rfl) fun vs bs r hq hv hb=>?_
 unfold Ent.F Vd at hq
 dsimp only at hq
 split at hq
 ·rename_i z s
  obtain ⟨hc,hx⟩:=Ae hq
  refine ⟨Aq _,(SN z s).trans (Eq.trans ?_ hx)⟩
  try dsimp only [shr]
  show _=some _
  rw [Aa hc]
  unfold dvL dvB
  cases hv:Fz z s
  ·rfl
  ·by_cases q:(Ia z s).length<=40
   ·rw [Bool.not_true,Bd,Ac (dcF (by omega)),dcT q]; rfl
   ·rw [Bool.not_true,Bd,Af (dcT (by omega)),dcF q]; rfl
 ·cases hq
theorem Ack:Ad prog 42 (Ent.rd1 Vh).F:=by
 refine Au (kc func89 ZF KnowsL.nil).knows (Λ:=Ab []) func42 (c:=f42.body.getD .skip) (by kernel_rfl) fun vs bs r hq hv hb=>?_
 unfold Ent.F Vh at hq
 dsimp only at hq
 split at hq
 ·rename_i z l
  obtain ⟨hc,hx⟩:=Ae hq
  refine ⟨Aq _,(SP z l).trans (Eq.trans ?_ hx)⟩
  try dsimp only [shr]
  show _=some _
  rw [anE,dcE] at hc
  obtain ⟨⟨h1,h2,h3,h4⟩,h5⟩:=hc
  rw [Aa (by rw [h5,Bool.and_true]; exact dcT ⟨h1,h2,by omega,h3,h4⟩)]
  unfold ecB ecL
  by_cases q:(A7 (vtr l 0) z).length<=400
  ·rw [Ac (dcF (by omega)),dcT q]; rfl
  ·rw [Af (dcT (by omega)),dcF q]; rfl
 ·cases hq
def Iv (l:List Ty) (s:List UInt8):Bool:=decide (s.length<=400)&&AC l
def Iw (l:List Ty) (s:List UInt8):Bool:=Iv l s&&(AO (t2L l 0) s 0).isSome
def Vn:Gm
 | [.s s,.agg [.sl TCd l]],[]=>.need (decide (l.length<=4000000000)&&nmL l) (.leaf (.tup [.b (Iw l s),.b (Iv l s)],[]))
 | _,_=>.no
theorem Dv {l:List Ty} (h:AC l=true):CY (t2L l 0)=true/\0<l.length/\l.length<=30:=by
 have e:=((J8 l).2 h)
 unfold AC at h
 simp only [anE,dcE,beq_iff_eq] at h
 rw [<-e]
 exact ⟨h.2,by omega,by omega⟩
theorem Vm (s:List UInt8) (l:List Ty):AQ prog (Ab [(46,.rd1 HG),(45,.rd1 CJ),(56,.rd1 (rsN 1000001))]) (Ab []) f17 [.s s,.agg [.sl TCd l]] [] =
 ((ifB (decide ((↑s.length:Int)>(400:Int))) (some (V.tup [V.b false,V.b false],[])) (ifT (decide (l.length<=4000000000)&&nmL l) (ifB (!AC l) (some
 (V.tup [V.b false,V.b false],[])) (ifT (decide ((0:Int)<=(0:Int)/\0<l.length/\l.length<=4000000000)) (ifT (decide (s.length<=400/\
 (t2L l 0).lab.fst=(5:Int)/\Aj (Rose.node ((t2L l 0).lab.fst,(t2L l 0).lab.snd.fst,(t2L l 0).lab.snd.snd.fst,(t2L l (0 :
 Nat)).lab.snd.snd.snd.fst,(t2L l 0).lab.snd.snd.snd.snd.fst,()) (take (t2L l 0).kids.length (drop 0 (t2L l 0).kids)))=true/\
 Ao (Rose.node ((t2L l 0).lab.fst,(t2L l 0).lab.snd.fst,(t2L l 0).lab.snd.snd.fst,(t2L l 0).lab.snd.snd.snd.fst,(t2L l (0 :
 Nat)).lab.snd.snd.snd.snd.fst,()) (take (t2L l 0).kids.length (drop 0 (t2L l 0).kids)))<=1000001/\Ao (Rose.node ((t2L l (0
 : Nat)).lab.fst,(t2L l 0).lab.snd.fst,(t2L l 0).lab.snd.snd.fst,(t2L l 0).lab.snd.snd.snd.fst,(t2L l 0).lab.snd.snd.snd.snd.fst,())
 (take (t2L l 0).kids.length (drop 0 (t2L l 0).kids)))<=1000000)) (some (V.tup [V.b (AO (Rose.node ((t2L l 0).lab.fst,
 (t2L l 0).lab.snd.fst,(t2L l 0).lab.snd.snd.fst,(t2L l 0).lab.snd.snd.snd.fst,(t2L l 0).lab.snd.snd.snd.snd.fst,()) (take (t2L l
 0).kids.length (drop 0 (t2L l 0).kids))) s (0:Int)).isSome,V.b true],[]))))))):_):=by kernel_rfl
theorem Acg:Ad prog 17 (Ent.rd1 Vn).F:=by
 refine Am (kc func46 Ou (kc func45 GV (kc func56 (Uu 1000000) KnowsL.nil))).knows (Λ:=Ab []) func17 (c:=f17.body.getD .skip) (by kernel_rfl) fun vs bs r hq hv hb=>?_
 unfold Ent.F Vn at hq
 dsimp only at hq
 split at hq
 ·rename_i s l
  obtain ⟨hc,hx⟩:=Ae hq
  rw [anE,dcE] at hc
  refine ⟨Aq _,(Vm s l).trans (Eq.trans ?_ hx)⟩
  try dsimp only [shr]
  show _=some _
  unfold Iw Iv
  have hn:(decide (l.length<=4000000000)&&nmL l)=true:=by rw [hc.2,dcT hc.1]; rfl
  by_cases q:s.length<=400
  ·rw [Ac (dcF (by omega)),dcT q,Bool.true_and,hn,Dc]
   cases hk:AC l with
   | false=>rfl
   | true=>
    obtain ⟨h1,h2,h3⟩:=Dv hk
    obtain ⟨g1,g2,g3⟩:=Cl h1
    rw [Bool.not_true,Bd,Aa (dcT ⟨by omega,by omega,hc.1⟩)]
    simp only [drop_zero,take_length,AT]
    rw [Aa (dcT ⟨q,g1,g2,by omega,by omega⟩)]
    rfl
  ·rw [Af (dcT (by omega)),dcF q]
   rfl
 ·cases hq
def sdB (l:List Ty) (s:List UInt8):Bool:=AC l&&dvB (t2L l 0) s
def sdL (l:List Ty) (s:List UInt8):List Nd:=bif sdB l s then dvL (t2L l 0) s else []
def sdG:Gm
 | [.s s,.agg [.sl TCd l]],[]=>.need (decide (l.length<=4000000000)&&nmL l) (.leaf (.tup [.agg [.ref 0 0 (sdL l s).length],.b (sdB l s)],[some (.row false none NCd (sdL l s))]))
 | _,_=>.no
def seB (v:List Nd) (l:List Ty):Bool:=Df v l&&ecB (t2L l 0) v
def seL (v:List Nd) (l:List Ty):List UInt8:=bif seB v l then ecL (t2L l 0) v else []
def seG:Gm
 | [.agg [.sl NCd v],.agg [.sl TCd l]],[]=>.need (decide (l.length<=4000000000)&&nmL l&&decide (v.length<=4000000000)) (.leaf (.tup [.s (seL v l),.b (seB v l)],[]))
 | _,_=>.no
theorem Su (s:List UInt8) (l:List Ty):Bt prog (Ab [(46,.rd1 HG),(45,.rd1 CJ),(56,.rd1 (rsN 1000001)),(57,.rd1 ofG)]) (Ab []) f16 [.s s,.agg [.sl TCd l]] [] =
 ((shr (Ag NCd.den) fun sh3=>shr (t2L l 0).lab fun sh2=>shr (Rose.node (sh2.fst,sh2.snd.fst,sh2.snd.snd.fst,sh2.snd.snd.snd.fst,sh2.snd.snd.snd.snd.fst,())
 (take (t2L l 0).kids.length (drop 0 (t2L l 0).kids))) fun sh1=>ifB (decide ((↑s.length:Int)>(400:Int))) (some (V.tup [V.agg
 [V.ref 0 0 0],V.b false],[some (Blk.row false none NCd sh3)])) (ifT (decide (l.length<=4000000000)&&nmL l) (ifB (!AC l) (some (V.tup [V.agg [V.ref 0 0 0],
 V.b false],[some (Blk.row false none NCd sh3)])) (ifT (decide ((0:Int)<=(0:Int)/\0<l.length/\l.length<=4000000000)) (ifT (decide (s.length<=
 400/\sh2.fst=(5:Int)/\Aj sh1=true/\Ao sh1<=1000001/\Ao sh1<=1000000)) (ifT (decide (vcL (take (Bp sh1 s).kids.length
 (drop 0 (Bp sh1 s).kids))+1<=2000000)) (ifB (!(AO sh1 s (0:Int)).isSome) (some (V.tup [V.agg [V.ref 0 0 0],V.b false],[some
 (Blk.row false none NCd sh3)])) (ifB (decide ((↑(Al (Rose.node ((Bp sh1 s).lab.fst,(Bp sh1 s).lab.snd.fst,(Bp sh1 s).lab.snd.snd.fst,(Bp sh1
 s).lab.snd.snd.snd.fst,()) (take (Bp sh1 s).kids.length (drop 0 (Bp sh1 s).kids))) (-1:Int) 0).length:Int)>(40:Int))) (some
 (V.tup [V.agg [V.ref 0 0 0],V.b false],[some (Blk.row false none NCd sh3)])) (some (V.tup [V.agg [V.ref 0 0 (Al (Rose.node ((Bp sh1 s).lab.fst,(Bp sh1
 s).lab.snd.fst,(Bp sh1 s).lab.snd.snd.fst,(Bp sh1 s).lab.snd.snd.snd.fst,()) (take (Bp sh1 s).kids.length (drop 0 (Bp sh1 s).kids))) (-1
 : Int) 0).length],V.b true],[some (Blk.row false none NCd (Al (Rose.node ((Bp sh1 s).lab.fst,(Bp sh1 s).lab.snd.fst,(Bp sh1 s).lab.snd.snd.fst,
 (Bp sh1 s).lab.snd.snd.snd.fst,()) (take (Bp sh1 s).kids.length (drop 0 (Bp sh1 s).kids))) (-1:Int) 0))])))))))))):_):=by kernel_rfl
theorem Sq (v:List Nd) (l:List Ty):Bt prog (Ab [(11,.rd1 Id),(44,.rd1 H6),(45,.rd1 CJ),(43,.rd1 Zx)]) (Ab []) f8 [.agg [.sl NCd v],.agg [.sl TCd l]] [] =
 ((shr (v4L v 0).lab.snd fun sh6=>shr (t2L l 0).lab.snd fun sh5=>shr (take (t2L l 0).kids.length (drop 0 (t2L l (0 :
 Nat)).kids)) fun sh4=>shr (take (v4L v 0).kids.length (drop 0 (v4L v 0).kids)) fun sh3=>shr (Rose.node ((v4L v 0).lab.fst,
 sh6.fst,sh6.snd.fst,sh6.snd.snd.fst,()) sh3) fun sh2=>shr (Rose.node ((t2L l 0).lab.fst,sh5.fst,sh5.snd.fst,sh5.snd.snd.fst,sh5.snd.snd.snd.fst,()) sh4)
 fun sh1=>ifT (decide (l.length<=4000000000)&&nmL l&&decide (v.length<=4000000000)) (ifB (!Df v l) (some (V.tup [V.s (Ag UInt8),V.b false],
 [])) (ifT (decide ((0:Int)<=(0:Int)/\0<v.length/\v.length<=4000000000)) (ifT (decide ((0:Int)<=(0:Int)/\0<l.length/\l.length<=
 4000000000)) (ifT (decide (Ak sh4+1<=1000000/\Aj sh1=true/\fkB sh1=false/\vcL sh3<=1000/\sfR sh2 sh1=true)) (ifB
 (decide ((↑(A7 sh2 sh1).length:Int)>(400:Int))) (some (V.tup [V.s (Ag UInt8),V.b false],[])) (some (V.tup [V.s (A7 sh2 sh1),V.b true],[])))))))):_):=by kernel_rfl
theorem Tz {p:Rose Lab} {f:WFd} {v:Rose An} {C:Nat} (hC:1<=C) (hp:Ao p*401<=C) (hf:f.2.2.2.1.length<=400) (h:Fk p f=some v):vcR v<=C:=by
 unfold Fk at h
 split at h
 ·split at h
  ·unfold A6 at h
   split at h
   ·cases h; rw [vcR,vcL]; omega
   ·cases h
  ·have:=DU _ _ _ _ h
   have h2:Ao p*(f.2.2.2.1.length+1)<=Ao p*401:=Nat.mul_le_mul_left _ (by omega)
   omega
 ·cases h
theorem I7 {ks:List (Rose Lab)} {C:Nat} (hC:1<=C) (hk : ∀ p∈ks,Ao p*401<=C) : ∀ (fs:List WFd) (vs:List (Rose An)),(∀ f∈fs,f.2.2.2.1.length<=400)->B3 ks fs=some vs->vcL vs<=fs.length*C
 | [],vs,_,h=>by rw [B3] at h; cases h; rw [vcL]; exact zero_le _
 | f::fs,vs,hf,h=>by
  rw [B3] at h
  rw [length_cons,Nat.succ_mul]
  split at h
  ·rename_i hn
   split at h
   ·rename_i v hv
    obtain ⟨us,hu,rfl⟩:=map_eq_some_iff.1 h
    have h1:=Tz hC (hk _ (Fo hn)) (hf f List.mem_cons_self) hv
    have h2:=I7 hC hk fs us (fun g hg=>hf g (mem_cons_of_mem _ hg)) hu
    rw [vcL]; omega
   ·cases h
  ·have h2:=I7 hC hk fs vs (fun g hg=>hf g (mem_cons_of_mem _ hg)) h
   omega
theorem WT {z:Rose Lab} (hg:CY z=true) {s:List UInt8} (hs:s.length<=400):vcL (Bp z s).kids+1<=2000000:=by
 obtain ⟨g1,g2,g3⟩:=Cl hg
 have hck:=Be z
 unfold Bp
 split
 ·rename_i fs hf
  split
  ·rename_i vs hv
   show vcL vs+1<=2000000
   unfold EA at hf
   split at hf
   ·rename_i l hl
    split at hf
    ·cases hf
     obtain ⟨a1,a2⟩:=O2 hl
     have:=I7 (C:=12030) (by omega) (fun p hp=>by have:=BB hp; omega) _ vs (fun f hf=>by have:=(a1 f hf).2; omega) hv
     omega
    ·cases hf
   ·cases hf
  ·show vcL []+1<=2000000
   rw [vcL]; omega
 ·show vcL []+1<=2000000
  rw [vcL]; omega
theorem NX {z:Rose Lab} {s:List UInt8} {v:Rose An} (q:s.length<=400) (hd:AO z s 0=some v):Fz z s=true/\Ia z s=Al v (-1) 0:=by
 have hv:Fz z s=true:=by unfold Fz; rw [hd,dcT q]; rfl
 refine ⟨hv,?_⟩
 unfold Ia Bv
 rw [hv,hd]; rfl
theorem EF {v:List Nd} {l:List Ty} (h:Df v l=true):AC l=true/\0<v.length/\v.length<=40/\Ord (tys v)/\sfR (v4L v 0) (t2L l 0)=true:=by
 unfold Df E3 at h
 simp only [anE,dcE] at h
 obtain ⟨h1,⟨h2,h3⟩,h4⟩:=h
 exact ⟨h1,by omega,h3.2,((Gh (by omega)).1 h2).1,h4⟩
theorem TR {v:List Nd} (h0:0<v.length) (H:Ord (tys v)):v4L v 0=vtr v 0:=by
 have e:=H.end' (by rw [Bh]; exact h0)
 unfold vtr
 rw [TS _ 0 (le_refl _) h0,e.2]
theorem PR {v:List Nd} {l:List Ty} (h:Df v l=true):v4L v 0=vtr v 0:=by
 obtain ⟨_,h0,_,H,_⟩:=EF h
 exact TR h0 H
theorem Rm {l:List Ty} {s:List UInt8} (h:sdB l s=true):Df (sdL l s) l=true:=by
 have h':=h
 unfold sdB at h'
 rw [anE] at h'
 obtain ⟨hk,hd⟩:=h'
 have e:sdL l s=dvL (t2L l 0) s:=by unfold sdL; rw [h]; rfl
 have hg:=(Dv hk).1
 obtain ⟨d1,d2,v,d3,d4,d5,d6⟩:=VC hg hd
 have d7:=VB (z:=t2L l 0) (s:=s)
 obtain ⟨b1,b2,b3⟩:=I0 d4
 have hno:=NF d3
 rw [e,d5]
 rw [d5] at d1 d2 d7
 have key:AY (tys (Al v (-1) 0)) 0=some (-1)/\noN (Al v (-1) 0) 0=some 0:=by
  obtain ⟨⟨x0,x1,x2,x3,⟨⟩⟩,xs⟩:=v
  have hno:x2=0:=hno
  subst hno
  rw [K8]; exact ⟨rfl,rfl⟩
 have H:Ord (tys (Al v (-1) 0)):=DC (by rw [Bh]; exact d1) key.1 (by rw [Bh]; exact b2)
 unfold Df E3
 rw [hk,TR d1 H,d2,(Gh d1).2 ⟨H,key.2⟩,dcT (show 1<=(Al v (-1) 0).length/\(Al v (-1) 0).length<=40 from ⟨d1,d7⟩)]
 rfl
theorem Ach:Ad prog 16 (Ent.rd1 sdG).F:=by
 refine Au (kc func46 Ou (kc func45 GV (kc func56 (Uu 1000000) (kc func57 Zy KnowsL.nil)))).knows (Λ:=Ab []) func16 (c:=f16.body.getD .skip) (by kernel_rfl) fun vs bs r hq hv hb=>?_
 unfold Ent.F sdG at hq
 dsimp only at hq
 split at hq
 ·rename_i s l
  obtain ⟨hc,hx⟩:=Ae hq
  refine ⟨Aq _,(Su s l).trans (Eq.trans ?_ hx)⟩
  try dsimp only [shr]
  show _=some _
  have hc':=hc
  rw [anE,dcE] at hc'
  have no:sdB l s=false->some (V.tup [.agg [.ref 0 0 0],.b false],[some (Blk.row false none NCd (Ag _))])=some (V.tup [.agg [.ref 0 0 (sdL l s).length],.b (sdB l s)],[some (.row false none NCd (sdL l s))]):=fun h=>by
   unfold sdL; rw [h]; rfl
  by_cases q:s.length<=400
  ·rw [Ac (dcF (by omega)),Aa hc]
   cases hk:AC l
   ·exact no (by unfold sdB; rw [hk]; rfl)
   ·obtain ⟨h1,h2,h3⟩:=Dv hk
    obtain ⟨g1,g2,g3⟩:=Cl h1
    rw [Bool.not_true,Bd,Aa (dcT ⟨by omega,by omega,hc'.1⟩)]
    simp only [drop_zero,take_length,AT,B8]
    rw [Aa (dcT ⟨q,g1,g2,by omega,by omega⟩),Aa (dcT (WT h1 q))]
    cases hd:AO (t2L l 0) s 0 with
    | none=>exact no (by unfold sdB dvB Fz; rw [hd]; simp)
    | some v=>
     obtain ⟨a1,a2⟩:=NX q hd
     rw [Ro g2 g1 hd]
     have hb:sdB l s=decide ((Al v (-1) 0).length<=40):=by unfold sdB dvB; rw [hk,a1,a2]; rfl
     by_cases q2:(Al v (-1) 0).length<=40
     ·rw [dcT q2] at hb
      have hl:sdL l s=Al v (-1) 0:=by
       unfold sdL dvL
       have:dvB (t2L l 0) s=true:=by unfold dvB; rw [a1,a2,dcT q2]; rfl
       rw [hb,this,a2]; rfl
      rw [hl,hb]
      show ifB (decide (((Al v (-1) 0).length:Int)>40)) _ _=_
      rw [Ac (dcF (by omega))]
     ·rw [dcF q2] at hb
      show ifB (decide (((Al v (-1) 0).length:Int)>40)) _ _=_
      rw [Af (dcT (by omega))]
      exact no hb
  ·rw [Af (dcT (by omega))]
   exact no (by unfold sdB dvB Fz; rw [dcF q]; simp)
 ·cases hq
theorem Aa1:Ad prog 8 (Ent.rd1 seG).F:=by
 refine Au (kc func11 Uk (kc func44 UZ (kc func45 GV (kc func43 Xl KnowsL.nil)))).knows (Λ:=Ab []) func8 (c:=f8.body.getD .skip) (by kernel_rfl) fun vs bs r hq hv hb=>?_
 unfold Ent.F seG at hq
 dsimp only at hq
 split at hq
 ·rename_i v l
  obtain ⟨hc,hx⟩:=Ae hq
  refine ⟨Aq _,(Sq v l).trans (Eq.trans ?_ hx)⟩
  try dsimp only [shr]
  show _=some _
  have hc':=hc
  rw [anE,anE,dcE,dcE] at hc'
  rw [Aa hc]
  unfold seL seB
  cases hv:Df v l
  ·rfl
  ·obtain ⟨hk,h0,h40,H,hsf⟩:=EF hv
   obtain ⟨k1,k2,k3,k4⟩:=G1 hk
   have hg:=J9 (Dv hk).1
   have h4:=PR hv
   have hcn:=Rc h0
   have hvb:=Hm h0
   have hvk:=Du (vtr v 0)
   have hck:=Be (t2L l 0)
   have hg3:=(Cl (Dv hk).1).2.2
   rw [Bool.not_true,Bd,Aa (dcT ⟨by omega,h0,hc'.2⟩),Aa (dcT ⟨by omega,k1,hc'.1.1⟩)]
   simp only [drop_zero,take_length,AT,B8]
   rw [h4] at hsf
   rw [h4,Aa (dcT ⟨by omega,k3,hg,by omega,hsf⟩)]
   unfold ecB ecL
   by_cases q:(A7 (vtr v 0) (t2L l 0)).length<=400
   ·rw [Ac (dcF (by omega)),dcT q]; rfl
   ·rw [Af (dcT (by omega)),dcF q]; rfl
 ·cases hq
def I4 (o:Cur×List UInt8×List UInt8×Nat->List UInt8×Cur):LoopEnt:=⟨67,[0,1,2,7],[1],[],fun
 | ([.ptr 0 0,.s t,.s w,.i .i64 n],[some (.box [.sl (.int .u8) l,.i .i64 a,.i .u64 s])])=>.need (decide (0<=n/\n<=3/\(t.length:Int)+n<=2000000/\1<=w.length/\w.length<=100/\(Cur.mk l a s).good (80000000-8*n))) (.leaf (.exit 0,([.s (o (Cur.mk l a s,t,w,n.toNat)).1],[some (cB (o (Cur.mk l a s,t,w,n.toNat)).2)])))
 | _=>.no⟩
def VG (f:(List UInt8)->(List UInt8)->Cur->(List UInt8)×Cur):Gm
 | [.ptr 0 0,.s t,.s w],[.box [.sl (.int .u8) l,.i .i64 a,.i .u64 s]]=>.need (decide (t.length<=1000000/\1<=w.length/\w.length<=100/\(Cur.mk l a s).good 70000000)) (.leaf (.s (f t w (Cur.mk l a s)).1,[some (cB (f t w (Cur.mk l a s)).2)]))
 | _,_=>.no
theorem Fh (o:Cur×List UInt8×List UInt8×Nat->List UInt8×Cur) (l:List Int) (a s:Int) (t w:List UInt8) (n:Int):A0 prog (Ab [(103,.own Bk)]) (Ab [(2,I4 o)]) 1 (body f104 0) (I4 o) ([.ptr 0 0,.s t,.s w,.j n],[some (.box [.sl (.int .u8) l,.j a,.i .u64 s])]) =
 ((shr ((Cur.mk l a s).pickC (↑t.length:Int)) fun sh1=>ifB (decide (n>(0:Int))) (ifB (decide ((↑t.length:Int)>(0:Int))) (ifT (decide ((Cur.mk l a s).good
 (900000000:Int))) (ifT (decide (sh1.good (900000000:Int))) (ifT (decide ((0:Int)<=sh1.pickV (↑w.length:Int))) (Ap w[(sh1.pickV (↑w.length:Int)).toNat]? fun
 z=>shr (take (t.length-((Cur.mk l a s).pickV (↑t.length:Int)).toNat) (drop ((Cur.mk l a s).pickV (↑t.length:Int)).toNat t)) fun sh5=>shr (List.map
 (fun n=>UInt8.ofNat n.toNat) ((↑z.toNat:Int)::Ag (Cd.int .u8).den)) fun sh4=>shr (sh1.pickC (↑w.length:Int)) fun sh3=>shr (take (t.length -
 (i64.wrap ((Cur.mk l a s).pickV (↑t.length:Int)+(1:Int))).toNat) (drop (i64.wrap ((Cur.mk l a s).pickV (↑t.length:Int)+(1:Int))).toNat
 t)) fun sh2=>shr (take (((Cur.mk l a s).pickV (↑t.length:Int)).toNat-0) (drop 0 t)) fun sh1=>ifT (decide (sh3.good (900000000:Int)))
 (ifB (sh3.pickV (3:Int)==(0:Int)) (ifT (decide ((0:Int)<=(Cur.mk l a s).pickV (↑t.length:Int))&&decide ((Cur.mk l a s).pickV (↑t.length:Int)<=(↑t.length :
 Int))) (ifT (decide (sh1.length+1<=9223372036854775807)) (ifT (decide ((0:Int)<=(Cur.mk l a s).pickV (↑t.length:Int))&&decide ((Cur.mk l a
 s).pickV (↑t.length:Int)<=(↑t.length:Int))) (ifT (decide ((sh1++sh4).length+sh5.length<=9223372036854775807)) (some (Ex.normal,[V.ptr 0 0,V.s (sh1++
 sh4++sh5),V.s w,V.j (i64.wrap (n-(1:Int)))],[some (Blk.box [V.sl (Cd.int .u8) (sh3.pickC (3:Int)).l,V.j (sh3.pickC (3:Int)).a,V.i .u64
 (sh3.pickC (3:Int)).s])])))))) (ifB (sh3.pickV (3:Int)==(1:Int)) (ifT (decide ((0:Int)<=(Cur.mk l a s).pickV (↑t.length:Int))&&decide ((Cur.mk l a s).pickV
 (↑t.length:Int)<=(↑t.length:Int))) (ifT (decide (sh1.length+1<=9223372036854775807)) (ifT (decide ((0:Int)<=i64.wrap ((Cur.mk l a
 s).pickV (↑t.length:Int)+(1:Int)))&&decide (i64.wrap ((Cur.mk l a s).pickV (↑t.length:Int)+(1:Int))<=(↑t.length:Int))) (ifT (decide ((sh1++
 sh4).length+sh2.length<=9223372036854775807)) (some (Ex.normal,[V.ptr 0 0,V.s (sh1++sh4++sh2),V.s w,V.j (i64.wrap (n-(1:Int)))],[some
 (Blk.box [V.sl (Cd.int .u8) (sh3.pickC (3:Int)).l,V.j (sh3.pickC (3:Int)).a,V.i .u64 (sh3.pickC (3:Int)).s])])))))) (ifT (decide ((0:Int)<=(Cur.mk l a
 s).pickV (↑t.length:Int))&&decide ((Cur.mk l a s).pickV (↑t.length:Int)<=(↑t.length:Int))) (ifT (decide ((0:Int)<=i64.wrap ((Cur.mk l a s).pickV
 (↑t.length:Int)+(1:Int)))&&decide (i64.wrap ((Cur.mk l a s).pickV (↑t.length:Int)+(1:Int))<=(↑t.length:Int))) (ifT (decide (sh1.length +
 sh2.length<=9223372036854775807)) (some (Ex.normal,[V.ptr 0 0,V.s (sh1++sh2),V.s w,V.j (i64.wrap (n-(1:Int)))],[some (Blk.box [V.sl
 (Cd.int .u8) (sh3.pickC (3:Int)).l,V.j (sh3.pickC (3:Int)).a,V.i .u64 (sh3.pickC (3:Int)).s])]))))))))))) (some (Ex.exit 0,[V.s t],[some (Blk.box [V.sl
 (Cd.int .u8) l,V.j a,V.i .u64 s])]))) (some (Ex.exit 0,[V.s t],[some (Blk.box [V.sl (Cd.int .u8) l,V.j a,V.i .u64 s])]))):_):=by kernel_rfl
theorem Pu : ∀ x:Cur×List UInt8×List UInt8×Nat,(x.2.2.2<=3/\x.2.1.length+x.2.2.2<=2000000/\1<=x.2.2.1.length/\x.2.2.1.length<=100/\x.1.good (80000000-8*(x.2.2.2:Int)))->∃ y:List UInt8×Cur,(∀ o,Runs prog (Ab [(103,.own Bk)]) (Ab [(2,I4 o)]) 1 (body f104 0) (I4 o) ((fun x:Cur×List UInt8×List UInt8×Nat=>(([.ptr 0 0,.s x.2.1,.s x.2.2.1,.j (x.2.2.2:Int)],[some (cB x.1)]):Dt)) x) ((fun y:List UInt8×Cur=>(((.exit 0:Ex),([.s y.1],[some (cB y.2)])):Ex×Dt)) y).1 ((fun y:List UInt8×Cur=>(((.exit 0:Ex),([.s y.1],[some (cB y.2)])):Ex×Dt)) y).2)/\((∀ m,x.1.good m->m<=80000000-8*(x.2.2.2:Int)->y.2.good (m+8*(x.2.2.2:Int)))/\y.1.length<=x.2.1.length+x.2.2.2):=by
  refine FK (ι:=Cur×List UInt8×List UInt8×Nat->List UInt8×Cur) (fun _=>([],Cur.mk [] 0 0)) (Λ:=fun o=>(Ab [(2,I4 o)])) (ent:=fun o=>I4 o) (fun x:Cur×List UInt8×List UInt8×Nat=>(([.ptr 0 0,.s x.2.1,.s x.2.2.1,.j (x.2.2.2:Int)],[some (cB x.1)]):Dt)) (fun y:List UInt8×Cur=>(((.exit 0:Ex),([.s y.1],[some (cB y.2)])):Ex×Dt)) (fun y=>by simp) _ _ (fun x=>x.2.2.2) (fun o x _=>(Fh o x.1.l x.1.a x.1.s x.2.1 x.2.2.1 (x.2.2.2:Int)).trans (Fh _ x.1.l x.1.a x.1.s x.2.1 x.2.2.1 (x.2.2.2:Int)).symm) ?_
  rintro ⟨c,t,w,n⟩ ⟨h1,h2,h3,h4,hc⟩
  dsimp only at h1 h2 h3 h4 hc ⊢
  have hM:maxI=9223372036854775807:=rfl
  by_cases h:0<n/\0<t.length
  · right
    refine Ex1.of (Fh _ c.l c.a c.s t w (n:Int)) ?_
    try dsimp only [shr]
    rw [Af (dcT (by omega)),Af (dcT (by omega))]
    have g1:(c.pickC (t.length:Int)).good (80000000-8*(n:Int)+2):=Cur.pickC_good hc
    have g2:((c.pickC (t.length:Int)).pickC (w.length:Int)).good (80000000-8*(n:Int)+4):=Cur.good_mono (Cur.pickC_good g1) (by omega)
    have g3:(((c.pickC (t.length:Int)).pickC (w.length:Int)).pickC 3).good (80000000-8*(n:Int)+6):=Cur.good_mono (Cur.pickC_good g2) (by omega)
    have r1:=Cur.pickV_range (k:=(t.length:Int)) hc (by omega)
    have r2:=Cur.pickV_range (k:=(w.length:Int)) g1 (by omega)
    have w1:i64.wrap ((n:Int)-1)=((n-1:Nat):Int):=by rw [Ay (by omega) (by omega)]; omega
    have w2:i64.wrap (c.pickV (t.length:Int)+1)=c.pickV (t.length:Int)+1:=Ay (by omega) (by omega)
    have gm : ∀ m,c.good m->m<=80000000-8*(n:Int)->(((c.pickC (t.length:Int)).pickC (w.length:Int)).pickC 3).good (m+6):=fun m hm _=>Cur.good_mono (Cur.pickC_good (Cur.pickC_good (Cur.pickC_good hm))) (by omega)
    simp only [BN,show Cur.mk c.l c.a c.s=c from rfl,AI,w1,w2]
    refine Ex1.T (dcT (Cur.good_mono hc (by omega))) (Ex1.T (dcT (Cur.good_mono g1 (by omega))) (Ex1.T (by first | exact dcT r2.1 | (simp only [anE,dcE]; exact r2)) (Ex1.S (Y7 (by omega)) fun z hz=>?_)))
    generalize c.pickV (t.length:Int)=k at *
    generalize ((c.pickC (t.length:Int)).pickC (w.length:Int))=c2 at *
    have fin : ∀ u:List UInt8,u.length<=t.length+1->(u.length+(n-1)<=2000000/\n-1<=3/\(c2.pickC 3).good (80000000-8*((n-1:Nat):Int))/\(∀ y:List UInt8×Cur,((∀ m,(c2.pickC 3).good m->m<=80000000-8*((n-1:Nat):Int)->y.2.good (m+8*((n-1:Nat):Int)))/\y.1.length<=u.length+(n-1))->((∀ m,c.good m->m<=80000000-8*(n:Int)->y.2.good (m+8*(n:Int)))/\y.1.length<=t.length+n))):=fun u hu=>by
      refine ⟨by omega,by omega,Cur.good_mono g3 (by omega),fun y hy=>⟨fun m hm hl=>Cur.good_mono (hy.1 (m+6) (gm m hm hl) (by omega)) (by omega),by have:=hy.2; omega⟩⟩
    refine Ex1.T (dcT (Cur.good_mono g2 (by omega))) (Ex1.B (fun _=>?_) (fun _=>Ex1.B (fun _=>?_) (fun _=>?_)))
    all_goals repeat' with_reducible refine Ex1.T ?_ ?_
    all_goals first
      | (simp only [anE,dcE,length_append,List.length_take,List.length_drop,length_map,length_cons,List.length_nil]; omega)
      | (refine Ex1.P3 (c2.pickC 3,_,w,n-1) rfl rfl rfl ?_
         refine (fun q=>⟨⟨q.2.1,q.1,h3,h4,q.2.2.1⟩,by dsimp only; omega,q.2.2.2⟩) (fin _ ?_)
         simp only [length_append,List.length_take,List.length_drop,length_map,length_cons,List.length_nil]; omega)
  · left
    refine Ex1.of (Fh _ c.l c.a c.s t w (n:Int)) ?_
    try dsimp only [shr]
    have hq:(∀ m,c.good m->m<=80000000-8*(n:Int)->c.good (m+8*(n:Int)))/\t.length<=t.length+n:=⟨fun m hm _=>Cur.good_mono hm (by omega),by omega⟩
    by_cases h0:0<n
    · rw [Af (dcT (by omega)),Ac (dcF (by omega))]
      exact Ex1.L (t,c) rfl hq
    · rw [Ac (dcF (by omega))]
      exact Ex1.L (t,c) rfl hq
noncomputable def G6:Cur×List UInt8×List UInt8×Nat->List UInt8×Cur:=(Dw (Y:=List UInt8×Cur) ([],Cur.mk [] 0 0) Pu).choose
theorem VF : ∀ x:Cur×List UInt8×List UInt8×Nat,(x.2.2.2<=3/\x.2.1.length+x.2.2.2<=2000000/\1<=x.2.2.1.length/\x.2.2.1.length<=100/\x.1.good (80000000-8*(x.2.2.2:Int)))->(∀ o,Runs prog (Ab [(103,.own Bk)]) (Ab [(2,I4 o)]) 1 (body f104 0) (I4 o) ((fun x:Cur×List UInt8×List UInt8×Nat=>(([.ptr 0 0,.s x.2.1,.s x.2.2.1,.j (x.2.2.2:Int)],[some (cB x.1)]):Dt)) x) ((fun y:List UInt8×Cur=>(((.exit 0:Ex),([.s y.1],[some (cB y.2)])):Ex×Dt)) (G6 x)).1 ((fun y:List UInt8×Cur=>(((.exit 0:Ex),([.s y.1],[some (cB y.2)])):Ex×Dt)) (G6 x)).2)/\((∀ m,x.1.good m->m<=80000000-8*(x.2.2.2:Int)->(G6 x).2.good (m+8*(x.2.2.2:Int)))/\(G6 x).1.length<=x.2.1.length+x.2.2.2):=(Dw (Y:=List UInt8×Cur) ([],Cur.mk [] 0 0) Pu).choose_spec
theorem ZQ:A4 prog (Ab [(103,.own Bk)]) (Ab [(2,I4 G6)]) 1 (f104.body.getD .skip):=by
 refine Ax (a:=body f104 0) (by kernel_rfl) fun d ex d' h=>?_
 unfold I4 at h
 dsimp only at h
 split at h
 ·rename_i t w n l a s
  obtain ⟨hc,hx⟩:=Ae h
  obtain ⟨q1,q2,q3,q4,q5,q6⟩:=of_decide_eq_true hc
  obtain ⟨n,rfl⟩:=eq_ofNat_of_zero_le q1
  have h8:=Ar hx
  obtain ⟨rfl,rfl⟩:=Prod.mk.inj h8
  exact (VF (Cur.mk l a s,t,w,n) ⟨by dsimp only; omega,by dsimp only; omega,q4,q5,q6⟩).1 G6
 ·cases h
theorem VE (o:Cur×List UInt8×List UInt8×Nat->List UInt8×Cur) (t w:List UInt8) (l:List Int) (a s:Int):Bt prog (Ab [(103,.own Bk)]) (Ab [(2,I4 o)]) f104 [.ptr 0 0,.s t,.s w] [.box [.sl (.int .u8) l,.j a,.i .u64 s]] =
 ((shr ((Cur.mk l a s).pickC (3:Int)) fun sh2=>shr (o (sh2,t,w,((Cur.mk l a s).pickV (3:Int)).toNat)) fun sh1=>ifT (decide ((Cur.mk l a s).good (900000000:Int)))
 (ifT (decide ((0:Int)<=(Cur.mk l a s).pickV (3:Int)/\(Cur.mk l a s).pickV (3:Int)<=(3:Int)/\(↑t.length:Int)+(Cur.mk l a s).pickV (3:Int)<=(2000000 :
 Int)/\1<=w.length/\w.length<=100/\sh2.good ((80000000:Int)-(8:Int)*(Cur.mk l a s).pickV (3:Int)))) (some (V.s sh1.fst,[some (Blk.box [V.sl
 (Cd.int .u8) sh1.snd.l,V.j sh1.snd.a,V.i .u64 sh1.snd.s])])))):_):=by kernel_rfl
theorem ZR (t w:List UInt8) (l:List Int) (a s:Int) (hc:t.length<=1000000/\1<=w.length/\w.length<=100/\(Cur.mk l a s).good 70000000):Ex1 (Bt prog (Ab [(103,.own Bk)]) (Ab [(2,I4 G6)]) f104 [.ptr 0 0,.s t,.s w] [.box [.sl (.int .u8) l,.j a,.i .u64 s]]) (fun y:(List UInt8)×Cur=>((.s y.1,[some (cB y.2)]):V×List (Option Blk))) (fun y=>(∀ m,(Cur.mk l a s).good m->m<=70000000->y.2.good (m+26))/\y.1.length<=t.length+3):=by
 refine Ex1.of (VE G6 t w l a s) ?_
 obtain ⟨h1,h2,h3,hc⟩:=hc
 have hp:=Cur.pickV_range (k:=3) hc (by omega)
 have g1:((Cur.mk l a s).pickC 3).good (70000000+2):=Cur.pickC_good hc
 have ho:=(VF ((Cur.mk l a s).pickC 3,t,w,((Cur.mk l a s).pickV 3).toNat) ⟨by dsimp only; omega,by dsimp only; omega,h2,h3,Cur.good_mono g1 (by dsimp only; omega)⟩).2
 dsimp only at ho
 try dsimp only [shr]
 simp only [BN]
 refine Ex1.T (dcT (Cur.good_mono hc (by omega))) (Ex1.T (dcT ⟨by omega,by omega,by omega,h2,h3,Cur.good_mono g1 (by omega)⟩) ?_)
 have hp2:=hp.2
 generalize G6 ((Cur.mk l a s).pickC 3,t,w,((Cur.mk l a s).pickV 3).toNat)=D at *
 exact Ex1.c D.1 rfl rfl ⟨fun m hm hl=>Cur.good_mono (ho.1 (m+2) (Cur.pickC_good hm) (by omega)) (by omega),show D.1.length<=t.length+3 by have:=ho.2; omega⟩
theorem N8 : ∃ f:(List UInt8)->(List UInt8)->Cur->(List UInt8)×Cur,Ad prog 104 (Ent.own (VG f)).F/\∀ (t w:List UInt8) (c:Cur),(t.length<=1000000/\1<=w.length/\w.length<=100/\c.good 70000000)->(∀ m,c.good m->m<=70000000->(f t w c).2.good (m+26))/\(f t w c).1.length<=t.length+3:=by
 have ex:=fun (t w:List UInt8) (c:Cur) (hc:t.length<=1000000/\1<=w.length/\w.length<=100/\c.good 70000000)=>ZR t w c.l c.a c.s hc
 classical
 refine ⟨fun t w c=>if h:t.length<=1000000/\1<=w.length/\w.length<=100/\c.good 70000000 then (ex t w c h).choose else ([],c),?_,fun t w c hc=>?_⟩
 rotate_left
 ·simp only [dif_pos hc]
  exact (ex t w c hc).choose_spec.2
 refine Au (kc func103 FX KnowsL.nil).knows (Λ:=(Ab [(2,I4 G6)])) func104 (c:=f104.body.getD .skip) (by kernel_rfl) fun vs bs r hq hv hb=>?_
 unfold Ent.F VG at hq
 dsimp only at hq
 split at hq
 ·rename_i t w l a s
  obtain ⟨hc,hx⟩:=Ae hq
  have hc:=of_decide_eq_true hc
  refine ⟨ZQ,((ex t w (Cur.mk l a s) hc).choose_spec.1).trans ?_⟩
  rw [dif_pos hc] at hx
  exact hx
 ·cases hq
noncomputable def M4:(List UInt8)->(List UInt8)->Cur->(List UInt8)×Cur:=N8.choose
theorem XA:Ad prog 104 (Ent.own (VG M4)).F:=N8.choose_spec.1
theorem ZP : ∀ (t w:List UInt8) (c:Cur),(t.length<=1000000/\1<=w.length/\w.length<=100/\c.good 70000000)->(∀ m,c.good m->m<=70000000->(M4 t w c).2.good (m+26))/\(M4 t w c).1.length<=t.length+3:=N8.choose_spec.2
def Wh (f:(List Ty)->Cur->(List UInt8)×Cur):Gm
 | [.ptr 0 0,.agg [.sl TCd v]],[.box [.sl (.int .u8) l,.i .i64 a,.i .u64 s]]=>.need (decide (AC v=true/\nmL v=true/\v.length<=30/\(Cur.mk l a s).good 40000000)) (.leaf (.s (f v (Cur.mk l a s)).1,[some (cB (f v (Cur.mk l a s)).2)]))
 | _,_=>.no
theorem Up (v:List Nd) (l:List Ty):(seL v l).length<=400:=by
 unfold seL
 cases h:seB v l
 ·exact zero_le _
 ·unfold seB ecB at h
  rw [anE] at h
  exact of_decide_eq_true h.2
theorem Wg (g:List Ty->Cur->(List Nd)×Cur) (h:List UInt8->List UInt8->Cur->List UInt8×Cur) (v:List Ty) (l:List Int) (a s:Int):Bt prog (Ab [(84,.mix (QL g)),(8,.rd1 seG),(53,.own C7),(104,.own (VG h))]) (Ab []) f52 [.ptr 0 0,.agg [.sl TCd v]] [.box [.sl (.int .u8) l,.j a,.i .u64 s]] =
 ((shr ((g v (Cur.mk l a s)).snd.pickC (4:Int)) fun sh2=>shr (take (g v (Cur.mk l a s)).fst.length (drop 0 (g v (Cur.mk l a s)).fst)) fun sh1=>ifT
 (decide (AC v=true/\nmL v=true/\(Cur.mk l a s).good (50000000:Int))) (ifT (decide (v.length<=4000000000)&&nmL v&&decide (sh1.length<=(4000000000
 : Nat))) (ifT (decide ((g v (Cur.mk l a s)).snd.good (900000000:Int))) (ifB ((g v (Cur.mk l a s)).snd.pickV (4:Int)==(0:Int)) (ifT (decide ((seL sh1 v).length<=
 1000000/\1<=4/\4<=100/\sh2.good (70000000:Int))) (some (V.s (h (seL sh1 v) [(0:UInt8),(8:UInt8),(18:UInt8),(1 :
 UInt8)] sh2).fst,[some (Blk.box [V.sl (Cd.int .u8) (h (seL sh1 v) [(0:UInt8),(8:UInt8),(18:UInt8),(1:UInt8)] sh2).snd.l,V.j (h (seL sh1 v) [(0:UInt8),
 (8:UInt8),(18:UInt8),(1:UInt8)] sh2).snd.a,V.i .u64 (h (seL sh1 v) [(0:UInt8),(8:UInt8),(18:UInt8),(1:UInt8)] sh2).snd.s])]))) (some (V.s (seL sh1 v),
 [some (Blk.box [V.sl (Cd.int .u8) sh2.l,V.j sh2.a,V.i .u64 sh2.s])])))))):_):=by kernel_rfl
theorem Aab (v:List Ty) (l:List Int) (a s:Int) (hc:AC v=true/\nmL v=true/\v.length<=30/\(Cur.mk l a s).good 40000000):Ex1 (Bt prog (Ab [(84,.mix (QL Et)),(8,.rd1 seG),(53,.own C7),(104,.own (VG M4))]) (Ab []) f52 [.ptr 0 0,.agg [.sl TCd v]] [.box [.sl (.int .u8) l,.j a,.i .u64 s]]) (fun y:(List UInt8)×Cur=>((.s y.1,[some (cB y.2)]):V×List (Option Blk))) (fun y=>(∀ g,(Cur.mk l a s).good g->g<=40000000->y.2.good (g+61000))/\y.1.length<=403):=by
 refine Ex1.of (Wg Et M4 v l a s) ?_
 obtain ⟨h1,h2,h3,hc⟩:=hc
 obtain ⟨c1,c2,c3⟩:=V7 v (Cur.mk l a s) ⟨h1,h2,Cur.good_mono hc (by omega)⟩
 have d1:=c1 _ hc (by omega)
 have e1:=Cur.pickC_good (k:=4) d1
 have hs:=Up (Et v (Cur.mk l a s)).1 v
 obtain ⟨f1,f2⟩:=ZP (seL (Et v (Cur.mk l a s)).1 v) [0,8,18,1] ((Et v (Cur.mk l a s)).2.pickC 4) ⟨by omega,by decide,by decide,Cur.good_mono e1 (by omega)⟩
 repeat with_reducible refine Ex1.sh ?_
 try dsimp only [shr]
 simp only [BN,drop_zero,take_length]
 generalize seL (Et v (Cur.mk l a s)).1 v=E at *
 generalize M4 E [0,8,18,1] ((Et v (Cur.mk l a s)).2.pickC 4)=D at *
 repeat' first
  | with_reducible refine Ex1.B (fun h=>?_) (fun h=>?_)
  | with_reducible refine Ex1.T ?_ ?_
 all_goals try simp only [BN]
 all_goals first
  | exact dcT ⟨h1,h2,Cur.good_mono hc (by omega)⟩
  | (rw [h2,dcT (by omega),dcT (by omega)]; rfl)
  | exact dcT (Cur.good_mono d1 (by omega))
  | exact dcT ⟨by omega,by decide,by decide,Cur.good_mono e1 (by omega)⟩
  | exact dcT ⟨by omega,Cur.good_mono e1 (by omega)⟩
  | exact Ex1.c E rfl rfl ⟨fun g hg hl=>Cur.good_mono (Cur.pickC_good (c1 g hg (by omega))) (by omega),by dsimp only; omega⟩
  | exact Ex1.c D.1 rfl rfl ⟨fun g hg hl=>Cur.good_mono (f1 (g+60002) (Cur.good_mono (Cur.pickC_good (c1 g hg (by omega))) (by omega)) (by omega)) (by omega),by dsimp only; omega⟩
theorem NG : ∃ f:(List Ty)->Cur->(List UInt8)×Cur,Ad prog 52 (Ent.mix (Wh f)).F/\∀ (v:List Ty) (c:Cur),(AC v=true/\nmL v=true/\v.length<=30/\c.good 40000000)->(∀ g,c.good g->g<=40000000->(f v c).2.good (g+61000))/\(f v c).1.length<=403:=by
 have ex:=fun (v:List Ty) (c:Cur) (hc:AC v=true/\nmL v=true/\v.length<=30/\c.good 40000000)=>Aab v c.l c.a c.s hc
 classical
 refine ⟨fun v c=>if h:AC v=true/\nmL v=true/\v.length<=30/\c.good 40000000 then (ex v c h).choose else ([],c),?_,fun v c hc=>?_⟩
 rotate_left
 ·simp only [dif_pos hc]
  exact (ex v c hc).choose_spec.2
 refine Au (kc func84 RP (kc func8 Aa1 (kc func53 QR (kc func104 XA KnowsL.nil)))).knows (Λ:=(Ab [])) func52 (c:=f52.body.getD .skip) (by kernel_rfl) fun vs bs r hq hv hb=>?_
 unfold Ent.F Wh at hq
 dsimp only at hq
 split at hq
 ·rename_i v l a s
  obtain ⟨hc,hx⟩:=Ae hq
  have hc:=of_decide_eq_true hc
  refine ⟨Aq _,((ex v (Cur.mk l a s) hc).choose_spec.1).trans ?_⟩
  rw [dif_pos hc] at hx
  exact hx
 ·cases hq
noncomputable def ME:(List Ty)->Cur->(List UInt8)×Cur:=NG.choose
theorem Yg:Ad prog 52 (Ent.mix (Wh ME)).F:=NG.choose_spec.1
theorem Aaa : ∀ (v:List Ty) (c:Cur),(AC v=true/\nmL v=true/\v.length<=30/\c.good 40000000)->(∀ g,c.good g->g<=40000000->(ME v c).2.good (g+61000))/\(ME v c).1.length<=403:=NG.choose_spec.2
end Go.Proofs.YteninfkgajnfcaaGreat.Den
