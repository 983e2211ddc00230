/- What functions of the program do, by the machine: Cur Cur2 Ex Base Sch1 Sch2 Sch3 Sch4 Sch5 Sch6 Sch7 Sch8 Sch9 Sch10 Sch11 Sch12 Sch13 Val1 Val2 Val3 Val4 Val5 Val6 Val7 Val8 Val9 Val10. -/
import Derived.Test.YtdocpdfkeohkiaaGreatDoorDen4
import Derived.KernelRfl
import Derived.Test.YtdocpdfkeohkiaaGreatDoorRows
namespace Go.Proofs.YtdocpdfkeohkiaaGreatDoor.Den
open IntKind (i64)
open Go.Proofs.Tryz
open List (all_eq_true any_cons append_assoc append_nil drop drop_eq_getElem_cons drop_eq_nil_of_le drop_zero getElem_mem mem_cons mem_map mem_range range take take_length)
open Int (eq_ofNat_of_zero_le ofNat toNat toNat_zero)
open Nat (lt_succ_self strongRecOn)
open Option (map_some)
open Bool (decide_and)
open Go.Proofs
set_option maxRecDepth 100000
@[match_pattern] abbrev LCd:Cd:=.pair (.int .i64) (.pair .str (.pair (.int .i64) (.pair .bool (.pair (.int .i64) .unit))))
@[match_pattern] abbrev TCd:Cd:=.pair (.int .i64) (.pair .str (.pair (.int .i64) (.pair .bool (.pair (.int .i64) (.pair (.int .i64) .unit)))))
@[match_pattern] abbrev NCd:Cd:=.pair (.int .i64) (.pair .str (.pair (.int .i64) (.pair (.int .i64) (.pair .bool .unit))))
@[match_pattern] abbrev VCd:Cd:=.pair (.int .i64) (.pair .str (.pair (.int .i64) (.pair .bool .unit)))
@[match_pattern] abbrev WCd:Cd:=.pair (.int .i64) (.pair (.int .i64) (.pair (.int .i64) (.pair .str (.pair (.int .i64) (.pair (.int .i64) .unit)))))
@[match_pattern] abbrev NTd:Cd:=.pair .str (.pair (.int .i64) (.pair .str .unit))
@[match_pattern] abbrev FCd:Cd:=.pair (.int .i64) (.pair (.int .i64) (.pair (.int .i64) (.pair .str .unit)))
@[match_pattern] abbrev PCd:Cd:=.pair FCd (.pair (.int .i64) .unit)
@[match_pattern] abbrev TPd:Cd:=.pair .str (.pair (.pair (.slice TCd) .unit) (.pair (.int .i64) .unit))
@[match_pattern] abbrev FNd:Cd:=.pair (.int .i64) (.pair .str (.pair (.pair (.slice WCd) .unit) (.pair (.pair (.slice TCd) .unit) (.pair (.slice NTd) (.pair (.int .i64) .unit)))))
abbrev V.j (n:Int):V:=.i .i64 n
abbrev Gm:=List V->List Blk->Br (V×List (Option Blk))
theorem dcT {p:Prop} [Decidable p] (h:p):decide p=true:=decide_eq_true h
theorem dcF {p:Prop} [Decidable p] (h : ¬p):decide p=false:=decide_eq_false h
theorem dcE {p:Prop} [Decidable p]:(decide p=true)=p:=decide_eq_true_eq
theorem anE (a b:Bool):((a&&b)=true)=(a=true/\b=true):=Bool.and_eq_true a b
theorem ntN (n:Nat):(n:Int).toNat=n:=Int.toNat_natCast n
theorem gtE {α:Type _} {l:List α} {i:Nat} (h:i<l.length):l[i]? = some l[i]:=List.getElem?_eq_getElem h
theorem kc {P:Program} {K:FuncId} {fn:Func} (hf:P.funcs[K]? = some fn) {e:Ent} {l:List (FuncId×Ent)} (h2:Af P K e.F) (h:KnowsL P l) (hn:(fn.name == "runtime.NumGoroutine")=false:=by kernel_rfl) (hb:fn.body.isNone=false:=by kernel_rfl):KnowsL P ((K,e)::l):=.cons (Vv hf hn hb) h2 h
structure Cur where
 l:List Int
 a:Int
 s:Int
def Cur.good (c:Cur) (n:Int):Prop:=(∀ z∈c.l,0<=z/\z<=255)/\0<=c.a/\c.a<=n
instance (c:Cur) (n:Int):Decidable (c.good n):=by unfold Cur.good; exact inferInstance



def shr {α β:Type} (a:α) (k:α->β):β:=k a
def Ex1 {β Y:Type} (t:Option β) (sh:Y->β) (Q:Y->Prop):Prop:=∃ y,t=some (sh y)/\Q y
theorem Ex1.L {β Y:Type} {b:β} {sh:Y->β} {Q:Y->Prop} (y:Y) (h:b=sh y) (q:Q y):Ex1 (some b) sh Q:=⟨y,by rw [h],q⟩
theorem Ex1.mono {β Y:Type} {t:Option β} {sh:Y->β} {Q Q':Y->Prop} (k:Ex1 t sh Q) (h : ∀ y,Q y->Q' y):Ex1 t sh Q':=by obtain ⟨y,h1,h2⟩:=k; exact ⟨y,h1,h y h2⟩
def A3:Gm
 | [.i .i64 a,.i .i64 b,.i .i64 c],[]=>.leaf (.b (decide (b<=a/\a<=c)),[])
 | _,_=>.no
theorem QW (a b c:Int):Ax prog (Ab []) (Ab []) f125 [.j a,.j b,.j c] []=(.leaf (.b (decide (b<=a/\a<=c)),[]):Br (V×List (Option Blk))).run:=by
 have e:Ax prog (Ab []) (Ab []) f125 [.j a,.j b,.j c] []=((ifB (decide (a>=b)) (some (V.b (decide (a<=c)),[])) (some (V.b false,[]))):_):=by kernel_rfl
 rw [e]
 clear e
 by_cases q1:a>=b<;>by_cases q2:a<=c<;>simp [q1,q2,Br.run]<;>omega
theorem Dl:Af prog 125 (Ent.rd1 A3).F:=by
 refine Ae KnowsL.nil.knows (Λ:=Ab []) func125 (c:=f125.body.getD .skip) (by kernel_rfl) fun vs bs r' hq hv hb=>?_
 unfold Ent.F A3 at hq
 dsimp only at hq
 split at hq
 ·rename_i a b c
  exact ⟨Ak _,(QW a b c).trans hq⟩
 ·cases hq
theorem Xw (a b c:Int):Ax prog (Ab []) (Ab []) f115 [.j a,.j b,.j c] []=(.leaf (.b (decide (b<=a/\a<=c)),[]):Br (V×List (Option Blk))).run:=by
 have e:Ax prog (Ab []) (Ab []) f115 [.j a,.j b,.j c] []=((ifB (decide (a>=b)) (some (V.b (decide (a<=c)),[])) (some (V.b false,[]))):_):=by kernel_rfl
 rw [e]
 clear e
 by_cases q1:a>=b<;>by_cases q2:a<=c<;>simp [q1,q2,Br.run]<;>omega
theorem JD:Af prog 115 (Ent.rd1 A3).F:=by
 refine Ae KnowsL.nil.knows (Λ:=Ab []) func115 (c:=f115.body.getD .skip) (by kernel_rfl) fun vs bs r' hq hv hb=>?_
 unfold Ent.F A3 at hq
 dsimp only at hq
 split at hq
 ·rename_i a b c
  exact ⟨Ak _,(Xw a b c).trans hq⟩
 ·cases hq
abbrev Lab:=Int×List UInt8×Int×Bool×Int×Unit
abbrev Ty:=Int×List UInt8×Int×Bool×Int×Int×Unit
def Lg (b:UInt8):Bool:=decide (97<=b.toNat)&&decide (b.toNat<=122)
def FA (s:List UInt8):Bool:=s.all Lg&&(decide (1<=s.length)&&decide (s.length<=10))
def AH (k:Int):Bool:=k==4||k==5
def DT (k:Int) (x:Lab):Bool:=if k=5 then FA x.2.1&&(decide (1<=x.2.2.1)&&decide (x.2.2.1<=30)) else x.2.1==[]&&x.2.2.1==0&&!x.2.2.2.1
def KW:Gm
 | [.s s],[]=>.need (decide (s.length<=maxI)) (.leaf (.b (FA s),[]))
 | _,_=>.no
def JU:Gm
 | [.tp LCd z 0],[]=>.leaf (.b (AH z.lab.1),[])
 | _,_=>.no
def HJ:Gm
 | [.i .i64 k],[]=>.leaf (.b (AH k),[])
 | _,_=>.no
def Ok:Gm
 | [.tp LCd z 0,.i .i64 k],[]=>.need (decide (z.lab.2.1.length<=maxI)) (.leaf (.b (DT k z.lab),[]))
 | _,_=>.no
def Hg:LoopEnt:=⟨23,[0,5,6],[0],[2],fun
 | ([.s s,.i .i64 m,.i .i64 i],[])=>.need (decide (0<=i/\i.toNat<=s.length/\s.length<=maxI/\m=s.length)) (.br ((s.drop i.toNat).all Lg) (.leaf (.exit 0,([.s s],[]))) (.leaf (.ret,([.b false],[]))))
 | _=>.no⟩
def GW:LoopEnt:=⟨23,[0,3],[0],[2],fun
 | ([.s s,.i .i64 i],[])=>.need (decide (0<=i/\i.toNat<=s.length/\s.length<=maxI)) (.br ((s.drop i.toNat).all Lg) (.leaf (.exit 0,([.s s],[]))) (.leaf (.ret,([.b false],[]))))
 | _=>.no⟩
theorem Jr (s:List UInt8) (m i:Int):Av prog (Ab [(125,.rd1 A3)]) (Ab [(2,Hg)]) 0 (body f226 0) Hg ([.s s,.j m,.j i],[]) =
 ((ifB (decide (i<m)) (ifT (decide ((0:Int)<=i)) (Ai s[i.toNat]? fun z=>ifB (decide ((↑z.toNat:Int)<(97:Int))) (some (Ex.ret,[V.b false],[])) (ifT (decide
 ((0:Int)<=i)) (Ai s[i.toNat]? fun z=>ifB (decide ((↑z.toNat:Int)>(122:Int))) (some (Ex.ret,[V.b false],[])) (some (Ex.normal,[V.s s,V.j m,V.i
 .i64 (i64.wrap (i+(1:Int)))],[])))))) (some (Ex.exit 0,[V.s s],[]))):_):=by kernel_rfl
theorem XG:Ar prog (Ab [(125,.rd1 A3)]) (Ab [(2,Hg)]) 0 (f226.body.getD .skip):=by
 refine An (a:=body f226 0) (by kernel_rfl) fun d e d' h=>?_
 unfold Hg at h
 dsimp only at h
 split at h
 ·rename_i s m i
  obtain ⟨hc,hx⟩:=Ad h
  clear h
  obtain ⟨h0,h1,h2,rfl⟩:=of_decide_eq_true hc
  obtain ⟨i,rfl⟩:=eq_ofNat_of_zero_le h0
  rw [ntN] at h1 hx
  refine B7 (l:=s) Lg (fun i=>([.s s,.j (↑s.length:Int),.j (i:Int)],[])) (ex:=(.exit 0,([.s s],[]))) (rt:=(.ret,([.b false],[]))) (by simp) (by simp) (fun i hi=>?_) ?_ (s.length-i) i (by omega) e d' hx
  ·have hr:=Jr s s.length i
   rw [Ag (dcT (by omega))] at hr
   simp only [ntN,gtE hi,Am,Ap (n:=i) (by omega)] at hr
   refine hr.trans ?_
   have hb:=s[i].toNat_lt
   have hz:(0:Int)<=(i:Int):=by omega
   simp only [hz,decide_true,Dc]
   unfold Lg
   generalize s[i].toNat=b at *
   have c1:decide ((b:Int)<97) = !decide (97<=b):=by rw [<-decide_not]; exact decide_eq_decide.2 (by omega)
   have c2:decide ((b:Int)>122) = !decide (b<=122):=by rw [<-decide_not]; exact decide_eq_decide.2 (by omega)
   simp only [c1,c2]
   cases decide (97<=b)<;>cases decide (b<=122)<;>rfl
  ·have hr:=Jr s s.length s.length
   rw [Ac (dcF (by omega))] at hr
   exact hr
 ·cases h
theorem UU (s:List UInt8) (hc:s.length<=maxI):Ax prog (Ab [(125,.rd1 A3)]) (Ab [(2,Hg)]) f226 [.s s] []=some (.b (FA s),[]):=by
 have e:Ax prog (Ab [(125,.rd1 A3)]) (Ab [(2,Hg)]) f226 [.s s] []=((ifT (decide ((0:Int)<=(0:Int)/\0<=s.length/\s.length<=maxI/\(↑s.length:Int)=(↑s.length:Int))) (ifB ((drop 0 s).all Lg) (some (V.b
 (decide ((1:Int)<=(↑s.length:Int)/\(↑s.length:Int)<=(10:Int))),[])) (some (V.b false,[])))):_):=by kernel_rfl
 rw [e]
 clear e
 have hM:maxI=9223372036854775807:=rfl
 rw [Aa (dcT (by simp; try omega))]
 simp only [drop_zero]
 unfold FA
 have d1:decide (1<=(s.length:Int)/\(s.length:Int)<=10)=(decide (1<=s.length)&&decide (s.length<=10)):=by
  rw [<-decide_and]; exact decide_eq_decide.2 (by omega)
 cases s.all Lg
 ·rfl
 ·rw [Be,d1]; rfl
theorem Aes:Af prog 226 (Ent.rd1 KW).F:=by
 refine Ae (kc func125 Dl KnowsL.nil).knows (Λ:=(Ab [(2,Hg)])) func226 (c:=f226.body.getD .skip) (by kernel_rfl) fun vs bs r hq hv hb=>?_
 unfold Ent.F KW at hq
 dsimp only at hq
 split at hq
 ·rename_i s
  obtain ⟨hc,hx⟩:=Ad hq
  exact ⟨XG,(UU s (of_decide_eq_true hc)).trans hx⟩
 ·cases hq
theorem Jd (s:List UInt8) (i:Int):Av prog (Ab [(115,.rd1 A3)]) (Ab [(2,GW)]) 0 (body f195 0) GW ([.s s,.j i],[]) =
 ((ifB (decide (i<(↑s.length:Int))) (ifT (decide ((0:Int)<=i)) (Ai s[i.toNat]? fun z=>ifB (decide ((↑z.toNat:Int)<(97:Int))) (some (Ex.ret,[V.b false],
 [])) (ifT (decide ((0:Int)<=i)) (Ai s[i.toNat]? fun z=>ifB (decide ((↑z.toNat:Int)>(122:Int))) (some (Ex.ret,[V.b false],[])) (some (Ex.normal,[V.s s,
 V.j (i64.wrap (i+(1:Int)))],[])))))) (some (Ex.exit 0,[V.s s],[]))):_):=by kernel_rfl
theorem Wq:Ar prog (Ab [(115,.rd1 A3)]) (Ab [(2,GW)]) 0 (f195.body.getD .skip):=by
 refine An (a:=body f195 0) (by kernel_rfl) fun d e d' h=>?_
 unfold GW at h
 dsimp only at h
 split at h
 ·rename_i s i
  obtain ⟨hc,hx⟩:=Ad h
  clear h
  obtain ⟨h0,h1,h2⟩:=of_decide_eq_true hc
  obtain ⟨i,rfl⟩:=eq_ofNat_of_zero_le h0
  rw [ntN] at h1 hx
  refine B7 (l:=s) Lg (fun i=>([.s s,.j (i:Int)],[])) (ex:=(.exit 0,([.s s],[]))) (rt:=(.ret,([.b false],[]))) (by simp) (by simp) (fun i hi=>?_) ?_ (s.length-i) i (by omega) e d' hx
  ·have hr:=Jd s i
   rw [Ag (dcT (by omega))] at hr
   simp only [ntN,gtE hi,Am,Ap (n:=i) (by omega)] at hr
   refine hr.trans ?_
   have hb:=s[i].toNat_lt
   have hz:(0:Int)<=(i:Int):=by omega
   simp only [hz,decide_true,Dc]
   unfold Lg
   generalize s[i].toNat=b at *
   have c1:decide ((b:Int)<97) = !decide (97<=b):=by rw [<-decide_not]; exact decide_eq_decide.2 (by omega)
   have c2:decide ((b:Int)>122) = !decide (b<=122):=by rw [<-decide_not]; exact decide_eq_decide.2 (by omega)
   simp only [c1,c2]
   cases decide (97<=b)<;>cases decide (b<=122)<;>rfl
  ·have hr:=Jd s s.length
   rw [Ac (dcF (by omega))] at hr
   exact hr
 ·cases h
theorem Un (s:List UInt8) (hc:s.length<=maxI):Ax prog (Ab [(115,.rd1 A3)]) (Ab [(2,GW)]) f195 [.s s] []=some (.b (FA s),[]):=by
 have e:Ax prog (Ab [(115,.rd1 A3)]) (Ab [(2,GW)]) f195 [.s s] []=((ifT (decide ((0:Int)<=(0:Int)/\0<=s.length/\s.length<=maxI)) (ifB ((drop 0 s).all Lg) (some (V.b (decide ((1:Int)<=(↑s.length:Int)/\
 (↑s.length:Int)<=(10:Int))),[])) (some (V.b false,[])))):_):=by kernel_rfl
 rw [e]
 clear e
 have hM:maxI=9223372036854775807:=rfl
 rw [Aa (dcT (by simp; try omega))]
 simp only [drop_zero]
 unfold FA
 have d1:decide (1<=(s.length:Int)/\(s.length:Int)<=10)=(decide (1<=s.length)&&decide (s.length<=10)):=by
  rw [<-decide_and]; exact decide_eq_decide.2 (by omega)
 cases s.all Lg
 ·rfl
 ·rw [Be,d1]; rfl
theorem Adu:Af prog 195 (Ent.rd1 KW).F:=by
 refine Ae (kc func115 JD KnowsL.nil).knows (Λ:=(Ab [(2,GW)])) func195 (c:=f195.body.getD .skip) (by kernel_rfl) fun vs bs r hq hv hb=>?_
 unfold Ent.F KW at hq
 dsimp only at hq
 split at hq
 ·rename_i s
  obtain ⟨hc,hx⟩:=Ad hq
  exact ⟨Wq,(Un s (of_decide_eq_true hc)).trans hx⟩
 ·cases hq
theorem Sp (z:Rose Lab):Ax prog (Ab []) (Ab []) f176 [.tp LCd z 0] []=(.leaf (.b (AH z.lab.1),[]):Br (V×List (Option Blk))).run:=by
 have e:Ax prog (Ab []) (Ab []) f176 [.tp LCd z 0] []=((ifB (z.lab.fst==(4:Int)) (some (V.b true,[])) (some (V.b (z.lab.fst==(5:Int)),[]))):_):=by kernel_rfl
 rw [e]
 clear e
 unfold AH
 cases z.lab.1==4<;>rfl
theorem X2:Af prog 176 (Ent.rd1 JU).F:=by
 refine Ae KnowsL.nil.knows (Λ:=Ab []) func176 (c:=f176.body.getD .skip) (by kernel_rfl) fun vs bs r' hq hv hb=>?_
 unfold Ent.F JU at hq
 dsimp only at hq
 split at hq
 ·rename_i z
  exact ⟨Ak _,(Sp z).trans hq⟩
 ·cases hq
theorem PX (k:Int):Ax prog (Ab []) (Ab []) f193 [.j k] []=(.leaf (.b (AH k),[]):Br (V×List (Option Blk))).run:=by
 have e:Ax prog (Ab []) (Ab []) f193 [.j k] []=((ifB (k==(4:Int)) (some (V.b true,[])) (some (V.b (k==(5:Int)),[]))):_):=by kernel_rfl
 rw [e]
 clear e
 unfold AH
 cases k==4<;>rfl
theorem T4:Af prog 193 (Ent.rd1 HJ).F:=by
 refine Ae KnowsL.nil.knows (Λ:=Ab []) func193 (c:=f193.body.getD .skip) (by kernel_rfl) fun vs bs r' hq hv hb=>?_
 unfold Ent.F HJ at hq
 dsimp only at hq
 split at hq
 ·rename_i k
  exact ⟨Ak _,(PX k).trans hq⟩
 ·cases hq
theorem RK (z:Rose Lab) (k:Int) (hc:z.lab.2.1.length<=maxI):Ax prog (Ab [(226,.rd1 KW),(125,.rd1 A3)]) (Ab []) f214 [.tp LCd z 0,.j k] []=some (.b (DT k z.lab),[]):=by
 have e:Ax prog (Ab [(226,.rd1 KW),(125,.rd1 A3)]) (Ab []) f214 [.tp LCd z 0,.j k] []=((ifB (k==(5:Int)) (ifT (decide (List.length z.lab.snd.fst<=maxI)) (ifB (FA z.lab.snd.fst) (some (V.b (decide ((1:Int)<=z.lab.snd.snd.fst/\z.lab.snd.snd.fst<=
 (30:Int))),[])) (some (V.b false,[])))) (ifB (z.lab.snd.fst==Aj UInt8) (ifB (z.lab.snd.snd.fst==(0:Int)) (some (V.b !z.lab.snd.snd.snd.fst,[])) (some (V.b
 false,[]))) (some (V.b false,[])))):_):=by kernel_rfl
 rw [e]
 clear e
 rw [dcT hc]
 unfold DT
 have d1:decide (1<=z.lab.2.2.1/\z.lab.2.2.1<=30)=(decide (1<=z.lab.2.2.1)&&decide (z.lab.2.2.1<=30)):=decide_and ..
 by_cases q:k=5
 ·subst q
  rw [Ag (by rfl),if_pos rfl,d1]
  cases FA z.lab.2.1<;>rfl
 ·rw [Ac (beq_false_of_ne q),if_neg q]
  cases z.lab.2.1==[]<;>cases z.lab.2.2.1==0<;>rfl
theorem Abx:Af prog 214 (Ent.rd1 Ok).F:=by
 refine Ae (kc func226 Aes (kc func125 Dl KnowsL.nil)).knows (Λ:=Ab []) func214 (c:=f214.body.getD .skip) (by kernel_rfl) fun vs bs r hq hv hb=>?_
 unfold Ent.F Ok at hq
 dsimp only at hq
 split at hq
 ·rename_i z k
  obtain ⟨hc,hx⟩:=Ad hq
  exact ⟨Ak _,(RK z k (of_decide_eq_true hc)).trans hx⟩
 ·cases hq
def AY (l:List Ty) (i:Nat):Option Int:=(l[i]?).map fun x=>x.2.2.2.2.1
def A5 (l:List Ty) (i:Nat):Lab:=match l[i]? with | some x=>(x.1,x.2.1,x.2.2.1,x.2.2.2.1,x.2.2.2.2.2.1,()) | none=>(0,[],0,false,0,())
def Ba (g:Nat->Rose Lab×Nat) (l:List Ty) (a:Nat):Nat->Nat->List (Rose Lab)->List (Rose Lab)×Nat
 | 0,e,ks=>(ks,e)
 | n+1,e,ks=>if AY l e=some (a:Int) then Ba g l a n (g e).2 (ks++[(g e).1]) else (ks,e)
def kfr (l:List Ty):Nat->Nat->Rose Lab×Nat
 | 0,a=>(.node (A5 l a) [],a+1)
 | f+1,a=>
  let r:=bif AH (A5 l a).1 then Ba (kfr l f) l a l.length (a+1) [] else ([],a+1)
  (.node (A5 l a) r.1,r.2)
def kf (l:List Ty) (a:Nat):Rose Lab×Nat:=kfr l l.length a
def kfG (n:Nat):Gm
 | [.sl TCd l,.i .i64 a],[]=>.need (decide (0<=a/\a.toNat<l.length/\l.length<=4000000000/\l.length-a.toNat<=n)) (.leaf (.tup [.ptr 0 0,.i .i64 ((kf l a.toNat).2:Int)],[some (.box [.i .i64 (kf l a.toNat).1.lab.1,.s (kf l a.toNat).1.lab.2.1,.i .i64 (kf l a.toNat).1.lab.2.2.1,.b (kf l a.toNat).1.lab.2.2.2.1,.i .i64 (kf l a.toNat).1.lab.2.2.2.2.1,.ref 1 0 (kf l a.toNat).1.kids.length]),some (.row false none (.tree LCd) (kf l a.toNat).1.kids)]))
 | _,_=>.no
def Gr:Gm
 | [.sl TCd l,.i .i64 a],[]=>.need (decide (0<=a/\a.toNat<l.length/\l.length<=4000000000)) (.leaf (.tup [.ptr 0 0,.i .i64 ((kf l a.toNat).2:Int)],[some (.box [.i .i64 (kf l a.toNat).1.lab.1,.s (kf l a.toNat).1.lab.2.1,.i .i64 (kf l a.toNat).1.lab.2.2.1,.b (kf l a.toNat).1.lab.2.2.2.1,.i .i64 (kf l a.toNat).1.lab.2.2.2.2.1,.ref 1 0 (kf l a.toNat).1.kids.length]),some (.row false none (.tree LCd) (kf l a.toNat).1.kids)]))
 | _,_=>.no
def kfE (n:Nat):LoopEnt:=⟨65,[0,1,7,8],[7,8],[],fun
 | ([.sl TCd l,.i .i64 a,.ptr 0 0,.i .i64 e],[some (.box [.i .i64 x0,.s x1,.i .i64 x2,.b x3,.i .i64 x4,.ref 1 0 k]),some (.row false none (.tree LCd) ks)])=>.need (decide (0<=a/\a<e/\a.toNat<l.length/\e.toNat<=l.length/\l.length<=4000000000/\k=ks.length/\ks.length<=e.toNat/\l.length-a.toNat<=n+1)) (.leaf (.exit 0,([.ptr 0 0,.i .i64 ((bif AH x0 then Ba (kf l) l a.toNat l.length e.toNat ks else (ks,e.toNat)).2:Int)],[some (.box [.i .i64 x0,.s x1,.i .i64 x2,.b x3,.i .i64 x4,.ref 1 0 (bif AH x0 then Ba (kf l) l a.toNat l.length e.toNat ks else (ks,e.toNat)).1.length]),some (.row false none (.tree LCd) (bif AH x0 then Ba (kf l) l a.toNat l.length e.toNat ks else (ks,e.toNat)).1)])))
 | _=>.no⟩
abbrev Yz (n:Nat):FuncId->Option Ent:=Ab [(142,.rd1 (kfG n)),(176,.rd1 JU)]
theorem X3 (n:Nat) (l:List Ty) (a e:Int) (x0:Int) (x1:List UInt8) (x2:Int) (x3:Bool) (x4:Int) (k:Nat) (ks:List (Rose Lab)):Av prog (Yz n) (Ab [(4,kfE n)]) 0 (body f142 0) (kfE n) ([.sl TCd l,.j a,.ptr 0 0,.j e],[some (.box [.j x0,.s x1,.j x2,.b x3,.j x4,.ref 1 0 k]),some (.row false none (.tree LCd) ks)]) =
 ((ifB (AH (Rose.node (x0,x1,x2,x3,x4,()) (take k (drop 0 ks))).lab.fst) (ifB (decide (e<(↑l.length:Int))) (ifT (decide ((0:Int)<=e)&&
 decide (e<(↑l.length:Int))) (Ai l[e.toNat]? fun z=>ifB (z.snd.snd.snd.snd.fst==a) (ifT (decide ((0:Int)<=e/\e.toNat<l.length/\l.length<=(4000000000 :
 Nat)/\l.length-e.toNat<=n)) (ifT (decide ((k+1)*8<=140737488355328)&&decide (k+1<=maxI)) (some (Ex.normal,[V.sl TCd l,V.i
 .i64 a,V.ptr 0 0,V.j (↑(kf l e.toNat).snd:Int)],[some (Blk.box [V.j x0,V.s x1,V.j x2,V.b x3,V.j x4,V.ref 1 0 (k+1)]),some
 (Blk.row false none LCd.tree (take k (drop 0 ks)++Rose.node ((kf l e.toNat).fst.lab.fst,(kf l e.toNat).fst.lab.snd.fst,(kf l
 e.toNat).fst.lab.snd.snd.fst,(kf l e.toNat).fst.lab.snd.snd.snd.fst,(kf l e.toNat).fst.lab.snd.snd.snd.snd.fst,()) (take (kf l e.toNat).fst.kids.length (drop
 0 (kf l e.toNat).fst.kids))::Aj LCd.tree.den))])))) (some (Ex.exit 0,[V.ptr 0 0,V.j e],[some (Blk.box [V.j x0,V.s x1,V.j x2,V.b x3,V.i
 .i64 x4,V.ref 1 0 k]),some (Blk.row false none LCd.tree ks)])))) (some (Ex.exit 0,[V.ptr 0 0,V.j e],[some (Blk.box [V.j x0,V.s x1,V.j x2,V.b x3,
 V.j x4,V.ref 1 0 k]),some (Blk.row false none LCd.tree ks)]))) (some (Ex.exit 0,[V.ptr 0 0,V.j e],[some (Blk.box [V.j x0,V.s x1,V.j x2,V.b x3,
 V.j x4,V.ref 1 0 k]),some (Blk.row false none LCd.tree ks)]))):_):=by kernel_rfl
theorem Zy (n:Nat) (l:List Ty) (a:Int):DH prog (Yz n) (Ab [(4,kfE n)]) f142 [.sl TCd l,.j a] [] =
 ((ifT (decide ((0:Int)<=a)&&decide (a<(↑l.length:Int))) (Ai l[a.toNat]? fun z=>ifT (decide ((0:Int)<=a/\a<i64.wrap (a+(1:Int))/\a.toNat <
 l.length/\(i64.wrap (a+(1:Int))).toNat<=l.length/\l.length<=4000000000/\0=0/\0<=(i64.wrap (a+(1 :
 Int))).toNat/\l.length-a.toNat<=n+1)) (some (V.tup [V.ptr 0 0,V.j (↑(bif AH z.fst then Ba (kf l) l a.toNat l.length (i64.wrap (a+(1 :
 Int))).toNat (Aj LCd.tree.den) else (Aj LCd.tree.den,(i64.wrap (a+(1:Int))).toNat)).snd:Int)],[some (Blk.box [V.j z.fst,V.s z.snd.fst,V.i .i64
 z.snd.snd.fst,V.b z.snd.snd.snd.fst,V.j z.snd.snd.snd.snd.snd.fst,V.ref 1 0 (bif AH z.fst then Ba (kf l) l a.toNat l.length (i64.wrap (a+(1 :
 Int))).toNat (Aj LCd.tree.den) else (Aj LCd.tree.den,(i64.wrap (a+(1:Int))).toNat)).fst.length]),some (Blk.row false none LCd.tree (bif AH z.fst
 then Ba (kf l) l a.toNat l.length (i64.wrap (a+(1:Int))).toNat (Aj LCd.tree.den) else (Aj LCd.tree.den,(i64.wrap (a+(1 :
 Int))).toNat)).fst)])))):_):=by kernel_rfl
theorem GA {l:List Ty} {e:Nat} {a:Int} (h:AY l e=some a):e<l.length:=by
 unfold AY at h
 obtain ⟨x,h1,_⟩:=Option.map_eq_some_iff.1 h
 exact (List.getElem?_eq_some_iff.1 h1).1
theorem K6 (z:Rose Lab):Rose.node (z.lab.1,z.lab.2.1,z.lab.2.2.1,z.lab.2.2.2.1,z.lab.2.2.2.2.1,()) (take z.kids.length (drop 0 z.kids))=z:=by
 obtain ⟨⟨_,_,_,_,_,⟨⟩⟩,ks⟩:=z
 simp [Rose.lab,Rose.kids]
def L4 (l:List Ty) (g:Nat->Rose Lab×Nat):Prop:=∀ e,e<l.length->e<(g e).2/\(g e).2<=l.length
theorem I3 {l:List Ty} {g:Nat->Rose Lab×Nat} {a:Nat} (hg:L4 l g) : ∀ (n e:Nat) (ks:List (Rose Lab)),e<=l.length->e<=(Ba g l a n e ks).2/\(Ba g l a n e ks).2<=l.length
 | 0,e,ks,h=>⟨Nat.le_refl _,h⟩
 | n+1,e,ks,h=>by
  unfold Ba
  split
  ·rename_i hu
   obtain ⟨h1,h2⟩:=hg e (GA hu)
   obtain ⟨h3,h4⟩:=I3 hg n (g e).2 (ks++[(g e).1]) h2
   exact ⟨by omega,h4⟩
  ·exact ⟨Nat.le_refl _,h⟩
theorem JV (l:List Ty) : ∀ f,L4 l (kfr l f)
 | 0,a,h=>⟨lt_succ_self _,h⟩
 | f+1,a,h=>by
  unfold kfr
  dsimp only
  cases AH (A5 l a).1 with
  | true=>
   obtain ⟨h3,h4⟩:=I3 (a:=a) (JV l f) l.length (a+1) [] h
   exact ⟨by rw [cond_true]; omega,by rw [cond_true]; exact h4⟩
  | false=>exact ⟨lt_succ_self _,h⟩
theorem FH {l:List Ty} {g g':Nat->Rose Lab×Nat} {a e0:Nat} (hg:L4 l g) (h : ∀ e,e0<=e->e<l.length->g e=g' e) : ∀ (n e:Nat) (ks:List (Rose Lab)),e0<=e->Ba g l a n e ks=Ba g' l a n e ks
 | 0,e,ks,_=>rfl
 | n+1,e,ks,he=>by
  unfold Ba
  split
  ·rename_i hu
   have hl:=GA hu
   rw [<-h e he hl]
   exact FH hg h n _ _ (by have:=(hg e hl).1; omega)
  ·rfl
theorem Lp {l:List Ty} {g:Nat->Rose Lab×Nat} {a:Nat} (hg:L4 l g) : ∀ (n m e:Nat) (ks:List (Rose Lab)),l.length-e<=n->l.length-e<=m->Ba g l a n e ks=Ba g l a m e ks
 | 0,0,e,ks,_,_=>rfl
 | 0,m+1,e,ks,h,_=>by
  unfold Ba
  split
  ·rename_i hu; have:=GA hu; omega
  ·rfl
 | n+1,0,e,ks,_,h=>by
  unfold Ba
  split
  ·rename_i hu; have:=GA hu; omega
  ·rfl
 | n+1,m+1,e,ks,h1,h2=>by
  unfold Ba
  split
  ·rename_i hu
   have hl:=GA hu
   have:=(hg e hl).1
   exact Lp hg n m _ _ (by omega) (by omega)
  ·rfl
theorem Qc (l:List Ty) : ∀ (f f' a:Nat),l.length-a<=f->l.length-a<=f'->a<l.length->kfr l f a=kfr l f' a
 | 0,f',a,h1,_,h=>by omega
 | f+1,0,a,_,h1,h=>by omega
 | f+1,f'+1,a,h1,h2,h=>by
  unfold kfr
  dsimp only
  rw [FH (JV l f) (fun e he hl=>Qc l f f' e (by omega) (by omega) hl) l.length (a+1) [] (Nat.le_refl _)]
theorem FI (l:List Ty):L4 l (kf l):=JV l l.length
theorem X4 {l:List Ty} {a:Nat} (h:a<l.length):kf l a=(.node (A5 l a) (bif AH (A5 l a).1 then Ba (kf l) l a l.length (a+1) [] else ([],a+1)).1,(bif AH (A5 l a).1 then Ba (kf l) l a l.length (a+1) [] else ([],a+1)).2):=by
 obtain ⟨m,hm⟩ : ∃ m,l.length=m+1:=⟨l.length-1,by omega⟩
 have e1:Ba (kfr l m) l a l.length (a+1) []=Ba (kf l) l a l.length (a+1) []:=FH (JV l m) (fun e he hl=>Qc l m l.length e (by omega) (by omega) hl) l.length (a+1) [] (Nat.le_refl _)
 rw [<-e1]
 unfold kf
 conv=>lhs; rw [hm]
 rfl
theorem Sn {l:List Ty} {a e:Nat} {ks:List (Rose Lab)} (h:AY l e=some (a:Int)):Ba (kf l) l a l.length e ks=Ba (kf l) l a l.length (kf l e).2 (ks++[(kf l e).1]):=by
 have hl:=GA h
 obtain ⟨m,hm⟩ : ∃ m,l.length=m+1:=⟨l.length-1,by omega⟩
 conv=>lhs; rw [hm]
 show (if AY l e=some (a:Int) then Ba (kf l) l a m (kf l e).2 (ks++[(kf l e).1]) else (ks,e))=_
 rw [if_pos h]
 have:=(FI l e hl).1
 exact Lp (FI l) m l.length _ _ (by omega) (by omega)
theorem Lo {l:List Ty} {a e n:Nat} {ks:List (Rose Lab)} (h:AY l e≠some (a:Int)):Ba (kf l) l a n e ks=(ks,e):=by
 cases n with
 | zero=>rfl
 | succ n=>unfold Ba; rw [if_neg h]
theorem Zz (n:Nat) (l:List Ty) (a:Nat) (x0:Int) (x1:List UInt8) (x2:Int) (x3:Bool) (x4:Int) (hal:a<l.length) (hl:l.length<=4000000000) (hn:l.length-a<=n+1) : ∀ (j e:Nat) (ks:List (Rose Lab)),e+j=l.length->a<e->ks.length<=e->
  Runs prog (Yz n) (Ab [(4,kfE n)]) 0 (body f142 0) (kfE n) ([.sl TCd l,.j (a:Int),.ptr 0 0,.j (e:Int)],[some (.box [.j x0,.s x1,.j x2,.b x3,.j x4,.ref 1 0 ks.length]),some (.row false none (.tree LCd) ks)]) (.exit 0) ([.ptr 0 0,.j ((bif AH x0 then Ba (kf l) l a l.length e ks else (ks,e)).2:Int)],[some (.box [.j x0,.s x1,.j x2,.b x3,.j x4,.ref 1 0 (bif AH x0 then Ba (kf l) l a l.length e ks else (ks,e)).1.length]),some (.row false none (.tree LCd) (bif AH x0 then Ba (kf l) l a l.length e ks else (ks,e)).1)]):=by
 intro j
 induction j using strongRecOn with
 | ind j ih=>
  intro e ks he hae hk
  have hM:maxI=9223372036854775807:=rfl
  have hr:=X3 n l a e x0 x1 x2 x3 x4 ks.length ks
  have hlab:(Rose.node (x0,x1,x2,x3,x4,()) (take ks.length (drop 0 ks)):Rose Lab).lab.1=x0:=rfl
  simp only [hlab] at hr
  cases hx:AH x0 with
  | false=>
   rw [hx,AS] at hr
   rw [cond_false]
   exact .stop _ _ _ hr (by simp)
  | true=>
   rw [hx,Be] at hr
   rw [cond_true]
   by_cases h1:e<l.length
   ·rw [Ag (dcT (by omega)),Aa (by simp only [anE,dcE]; omega)] at hr
    simp only [ntN,gtE h1,Am,drop_zero,take_length] at hr
    by_cases h2:l[e].2.2.2.2.1=(a:Int)
    ·have hu:AY l e=some (a:Int):=by unfold AY; rw [gtE h1,map_some,h2]
     rw [Ag (by rw [h2]; exact beq_self_eq_true _),Aa (dcT ⟨by omega,h1,hl,by omega⟩),Aa (by simp only [anE,dcE]; omega)] at hr
     obtain ⟨b1,b2⟩:=FI l e h1
     rw [Sn hu]
     have ht:=K6 (kf l e).1
     rw [drop_zero,take_length] at ht
     rw [ht] at hr
     have hlen:(ks++[(kf l e).1]).length=ks.length+1:=by simp
     have ih2:=ih (l.length-(kf l e).2) (by omega) (kf l e).2 (ks++[(kf l e).1]) (by omega) (by omega) (by rw [hlen]; omega)
     simp only [hx,cond_true] at ih2
     refine .step _ _ _ _ (hr.trans ?_) ih2
     rw [hlen]
    ·have hu:AY l e≠some (a:Int):=by unfold AY; rw [gtE h1,map_some]; exact fun h=>h2 (Option.some.inj h)
     rw [Ac (beq_false_of_ne h2)] at hr
     rw [Lo hu]
     exact .stop _ _ _ hr (by simp)
   ·rw [Ac (dcF (by omega))] at hr
    rw [Lo (fun h=>h1 (GA h))]
    exact .stop _ _ _ hr (by simp)
theorem Aem (n:Nat):Ar prog (Yz n) (Ab [(4,kfE n)]) 0 (f142.body.getD .skip):=by
 refine An (a:=body f142 0) (by kernel_rfl) fun d ex d' h=>?_
 unfold kfE at h
 dsimp only at h
 split at h
 ·rename_i l a e x0 x1 x2 x3 x4 k ks
  obtain ⟨hc,hx⟩:=Ad h
  clear h
  obtain ⟨h0,h1,h2,h3,h4,rfl,h6,h7⟩:=of_decide_eq_true hc
  obtain ⟨a,rfl⟩:=eq_ofNat_of_zero_le h0
  obtain ⟨e,rfl⟩:=eq_ofNat_of_zero_le (by omega:0<=e)
  simp only [ntN] at h2 h3 h6 h7 hx
  have h8:=Ao hx
  obtain ⟨rfl,rfl⟩:=Prod.mk.inj h8
  exact Zz n l a x0 x1 x2 x3 x4 h2 h4 h7 (l.length-e) e ks (by omega) (by omega) h6
 ·cases h
theorem Ack (n:Nat) (l:List Ty) (a:Int) (hc:0<=a/\a.toNat<l.length/\l.length<=4000000000/\l.length-a.toNat<=n+1):DH prog (Yz n) (Ab [(4,kfE n)]) f142 [.sl TCd l,.j a] []=some (.tup [.ptr 0 0,.j ((kf l a.toNat).2:Int)],[some (.box [.j (kf l a.toNat).1.lab.1,.s (kf l a.toNat).1.lab.2.1,.j (kf l a.toNat).1.lab.2.2.1,.b (kf l a.toNat).1.lab.2.2.2.1,.j (kf l a.toNat).1.lab.2.2.2.2.1,.ref 1 0 (kf l a.toNat).1.kids.length]),some (.row false none (.tree LCd) (kf l a.toNat).1.kids)]):=by
 rw [Zy]
 obtain ⟨h0,h1,h2,h3⟩:=hc
 obtain ⟨a,rfl⟩:=eq_ofNat_of_zero_le h0
 rw [ntN] at h1 h3
 have hM:maxI=9223372036854775807:=rfl
 have hw:i64.wrap ((a:Int)+1)=((a+1:Nat):Int):=Ap (by omega)
 rw [Aa (by simp only [anE,dcE]; omega)]
 simp only [ntN,gtE h1,Am,hw]
 rw [Aa (dcT ⟨by omega,by omega,h1,by omega,h2,trivial,by omega,by omega⟩)]
 have hk:=X4 h1
 have hlab:A5 l a=(l[a].1,l[a].2.1,l[a].2.2.1,l[a].2.2.2.1,l[a].2.2.2.2.2.1,()):=by unfold A5; rw [gtE h1]
 rw [hk,hlab]
 rfl
theorem Acl : ∀ n,(∀ m,m<n->Af prog 142 (Ent.rd1 (kfG m)).F)->Af prog 142 (Ent.rd1 (kfG n)).F
 | 0,_=>BD fun vs bs=>by
  unfold Ent.F kfG
  dsimp only
  split
  ·rename_i l a
   have:decide (0<=a/\a.toNat<l.length/\l.length<=4000000000/\l.length-a.toNat<=0)=false:=dcF (by omega)
   rw [this]; rfl
  ·rfl
 | n+1,ih=>by
  refine Bc (kc func142 (ih n (lt_succ_self n)) (kc func176 X2 KnowsL.nil)).knows (Λ:=(Ab [(4,kfE n)])) func142 (c:=f142.body.getD .skip) (by kernel_rfl) fun vs bs r hq hv hb=>?_
  unfold Ent.F kfG at hq
  dsimp only at hq
  split at hq
  ·rename_i l a
   obtain ⟨hc,hx⟩:=Ad hq
   exact ⟨Aem n,(Ack n l a (of_decide_eq_true hc)).trans hx⟩
  ·cases hq
theorem X0:Af prog 142 (Ent.rd1 Gr).F:=by
 refine C5 (F:=fun n=>(Ent.rd1 (kfG n)).F) Acl fun vs bs r h=>?_
 unfold Ent.F Gr at h
 dsimp only at h
 split at h
 ·rename_i l a
  obtain ⟨hc,hx⟩:=Ad h
  obtain ⟨h0,h1,h2⟩:=of_decide_eq_true hc
  refine ⟨l.length,?_⟩
  unfold Ent.F kfG
  dsimp only
  have:decide (0<=a/\a.toNat<l.length/\l.length<=4000000000/\l.length-a.toNat<=l.length)=true:=dcT ⟨h0,h1,h2,by omega⟩
  rw [this]
  exact hx
 ·cases h
mutual
def Aq:Rose Lab->Nat
 | .node _ ks=>A1 ks+1
def A1:List (Rose Lab)->Nat
 | []=>0
 | z::l=>Aq z+A1 l
end
mutual
def BH:Rose Lab->Nat
 | .node x ks=>Cg ks+(bif AH x.1 then 1 else 0)
def Cg:List (Rose Lab)->Nat
 | []=>0
 | z::l=>max (BH z) (Cg l)
end
def Du (n:Nat):Gm
 | [.tp LCd z 0],[]=>.need (decide (Aq z<=n/\Aq z<=1000000)) (.leaf (.i .i64 (Aq z:Int),[]))
 | _,_=>.no
def OA:Gm
 | [.tp LCd z 0],[]=>.need (decide (Aq z<=1000000)) (.leaf (.i .i64 (Aq z:Int),[]))
 | _,_=>.no
def DF (n:Nat):LoopEnt:=⟨21,[3,9,10,11],[3],[],fun
 | ([.i .i64 m,.sl (.tree LCd) ks,.i .i64 k,.i .i64 i],[])=>.need (decide (0<=m/\m<=1000001/\0<=i/\i.toNat<=ks.length/\k=ks.length/\A1 ks<=n/\A1 ks<=1000000/\m.toNat+A1 (ks.drop i.toNat)<=1000001)) (.leaf (.exit 0,([.i .i64 ((m.toNat+A1 (ks.drop i.toNat):Nat):Int)],[])))
 | _=>.no⟩
def I4 (n:Nat):Gm
 | [.tp LCd z 0],[]=>.need (decide (Aq z<=n/\Aq z<=1000000)) (.leaf (.i .i64 (BH z:Int),[]))
 | _,_=>.no
def Ss:Gm
 | [.tp LCd z 0],[]=>.need (decide (Aq z<=1000000)) (.leaf (.i .i64 (BH z:Int),[]))
 | _,_=>.no
def EV (n:Nat):LoopEnt:=⟨25,[0,3,9,10,11],[0,3],[],fun
 | ([.tp LCd y 0,.i .i64 m,.sl (.tree LCd) ks,.i .i64 k,.i .i64 i],[])=>.need (decide (0<=m/\m<=1000001/\0<=i/\i.toNat<=ks.length/\k=ks.length/\A1 ks<=n/\A1 ks<=1000000)) (.leaf (.exit 0,([.tp LCd y 0,.i .i64 ((max m.toNat (Cg (ks.drop i.toNat)):Nat):Int)],[])))
 | _=>.no⟩
theorem Cb {z:Rose Lab} : ∀ {l:List (Rose Lab)},z∈l->Aq z<=A1 l
 | [],h=>by cases h
 | y::l,h=>by
  rw [A1]
  rcases mem_cons.1 h with rfl | h
  ·omega
  ·have:=Cb h; omega
theorem Ck (z:Rose Lab):1<=Aq z:=by cases z; rw [Aq]; omega
theorem C6 : ∀ (l:List (Rose Lab)),l.length<=A1 l
 | []=>Nat.le_refl _
 | z::l=>by have:=C6 l; have:=Ck z; rw [A1,List.length_cons]; omega
theorem Cp (z:Rose Lab):Aq z=A1 z.kids+1:=by cases z; rw [Aq]; rfl
mutual
theorem If : ∀ z:Rose Lab,BH z<=Aq z
 | .node x ks=>by rw [BH,Aq]; have:=Gx ks; cases AH x.1<;>simp<;>omega
theorem Gx : ∀ l:List (Rose Lab),Cg l<=A1 l
 | []=>Nat.le_refl _
 | z::l=>by rw [Cg,A1]; have:=If z; have:=Gx l; omega
end
theorem HK (n:Nat) (m:Int) (ks:List (Rose Lab)) (k i:Int):Av prog (Ab [(179,.rd1 (Du n))]) (Ab [(3,DF n)]) 0 (body f179 0) (DF n) ([.j m,.sl (.tree LCd) ks,.j k,.j i],[]) =
 ((ifB (decide (i<k)) (ifT (decide ((0:Int)<=i)&&decide (i<(↑ks.length:Int))) (Ai ks[i.toNat]? fun z=>ifT (decide (Aq z<=n/\Aq z<=1000000))
 (some (Ex.normal,[V.j (i64.wrap (m+(↑(Aq z):Int))),V.sl LCd.tree ks,V.j k,V.j (i64.wrap (i+(1:Int)))],[])))) (some (Ex.exit
 0,[V.j m],[]))):_):=by kernel_rfl
theorem Qd (n:Nat) (z:Rose Lab):Ax prog (Ab [(179,.rd1 (Du n))]) (Ab [(3,DF n)]) f179 [.tp LCd z 0] [] =
 ((ifT (decide ((0:Int)<=(1:Int)/\(1:Int)<=(1000001:Int)/\(0:Int)<=(0:Int)/\0<=z.kids.length/\(↑z.kids.length:Int)=(↑z.kids.length:Int)/\
 A1 z.kids<=n/\A1 z.kids<=1000000/\1+A1 (drop 0 z.kids)<=1000001)) (some (V.j (↑(1+A1 (drop (0 :
 Nat) z.kids)):Int),[]))):_):=by kernel_rfl
theorem Jp (n:Nat) (ks:List (Rose Lab)) (h1:A1 ks<=n) (h2:A1 ks<=1000000) : ∀ (j i m:Nat),i+j=ks.length->m<=1000001->m+A1 (ks.drop i)<=1000001->
  Runs prog (Ab [(179,.rd1 (Du n))]) (Ab [(3,DF n)]) 0 (body f179 0) (DF n) ([.j (m:Int),.sl (.tree LCd) ks,.j (ks.length:Int),.j (i:Int)],[]) (.exit 0) ([.j ((m+A1 (ks.drop i):Nat):Int)],[])
 | 0,i,m,hi,hm,hs=>by
  have hr:=HK n m ks ks.length i
  rw [Ac (dcF (by omega))] at hr
  have e1:ks.drop i=[]:=drop_eq_nil_of_le (by omega)
  rw [e1,A1]
  exact .stop _ _ _ (hr.trans (by simp)) (by simp)
 | j+1,i,m,hi,hm,hs=>by
  have hl:i<ks.length:=by omega
  have hM:maxI=9223372036854775807:=rfl
  have hr:=HK n m ks ks.length i
  have hmem:=Cb (getElem_mem hl)
  have hlen:=C6 ks
  have hdm:=If ks[i]
  rw [Ag (dcT (by omega)),Aa (by simp only [anE,dcE]; omega)] at hr
  simp only [ntN,gtE hl,Am,Ap (n:=i) (by omega)] at hr
  rw [Aa (dcT ⟨by omega,by omega⟩)] at hr
  rw [drop_eq_getElem_cons hl,A1]
  rw [drop_eq_getElem_cons hl,A1] at hs
  have hx:i64.wrap ((m:Int)+(Aq ks[i]:Int))=((m+Aq ks[i]:Nat):Int):=by rw [Aw (by omega) (by omega)]; omega
  have ih:=Jp n ks h1 h2 j (i+1) (m+Aq ks[i]) (by omega) (by omega) (by omega)
  rw [<-Nat.add_assoc]
  exact .step _ _ _ _ (hr.trans (by rw [hx])) ih
theorem UO (n:Nat):Ar prog (Ab [(179,.rd1 (Du n))]) (Ab [(3,DF n)]) 0 (f179.body.getD .skip):=by
 refine An (a:=body f179 0) (by kernel_rfl) fun d ex d' h=>?_
 unfold DF at h
 dsimp only at h
 split at h
 ·rename_i m ks k i
  obtain ⟨hc,hx⟩:=Ad h
  clear h
  obtain ⟨h0,h1,h2,h3,rfl,h5,h6,h7⟩:=of_decide_eq_true hc
  obtain ⟨m,rfl⟩:=eq_ofNat_of_zero_le h0
  obtain ⟨i,rfl⟩:=eq_ofNat_of_zero_le h2
  simp only [ntN] at h3 hx h7
  have h8:=Ao hx
  obtain ⟨rfl,rfl⟩:=Prod.mk.inj h8
  exact Jp n ks h5 h6 (ks.length-i) i m (by omega) (by omega) h7
 ·cases h
theorem Su (n:Nat) (z:Rose Lab) (hc:Aq z<=n+1/\Aq z<=1000000):Ax prog (Ab [(179,.rd1 (Du n))]) (Ab [(3,DF n)]) f179 [.tp LCd z 0] []=some (.j (Aq z:Int),[]):=by
 rw [Qd]
 obtain ⟨x,ks⟩:=z
 obtain ⟨h1,h2⟩:=hc
 rw [Aq] at h1 h2
 have hd:drop (toNat 0) ks=ks:=rfl
 simp only [Rose.kids] at *
 rw [Aa (dcT (by refine ⟨by omega,by omega,by omega,by simp,by trivial,by omega,by omega,?_⟩; simp; omega))]
 rw [Aq]
 simp only [drop_zero]
 rw [Nat.add_comm]
theorem Sv : ∀ n,(∀ m,m<n->Af prog 179 (Ent.rd1 (Du m)).F)->Af prog 179 (Ent.rd1 (Du n)).F
 | 0,_=>BD fun vs bs=>by
  unfold Ent.F Du
  dsimp only
  split
  ·rename_i z
   have:=Ck z
   have:decide (Aq z<=0/\Aq z<=1000000)=false:=dcF (by omega)
   rw [this]; rfl
  ·rfl
 | n+1,ih=>by
  refine Ae (kc func179 (ih n (lt_succ_self n)) KnowsL.nil).knows (Λ:=(Ab [(3,DF n)])) func179 (c:=f179.body.getD .skip) (by kernel_rfl) fun vs bs r hq hv hb=>?_
  unfold Ent.F Du at hq
  dsimp only at hq
  split at hq
  ·rename_i z
   obtain ⟨hc,hx⟩:=Ad hq
   exact ⟨UO n,(Su n z (of_decide_eq_true hc)).trans hx⟩
  ·cases hq
theorem Acm:Af prog 179 (Ent.rd1 OA).F:=by
 refine C5 (F:=fun n=>(Ent.rd1 (Du n)).F) Sv fun vs bs r h=>?_
 unfold Ent.F OA at h
 dsimp only at h
 split at h
 ·rename_i z
  obtain ⟨hc,hx⟩:=Ad h
  have hc:=of_decide_eq_true hc
  refine ⟨1000000,?_⟩
  show (Br.need (decide (Aq z<=1000000/\Aq z<=1000000)) (.leaf (.j (Aq z:Int),[]))).run=some r
  rw [dcT (show Aq z<=1000000/\Aq z<=1000000 from ⟨hc,hc⟩)]
  exact hx
 ·cases h
abbrev Yy (n:Nat):FuncId->Option Ent:=Ab [(178,.rd1 (I4 n)),(176,.rd1 JU)]
theorem Jo (n:Nat) (y:Rose Lab) (m:Int) (ks:List (Rose Lab)) (k i:Int):Av prog (Yy n) (Ab [(3,EV n)]) 0 (body f178 0) (EV n) ([.tp LCd y 0,.j m,.sl (.tree LCd) ks,.j k,.j i],[]) =
 ((ifB (decide (i<k)) (ifT (decide ((0:Int)<=i)&&decide (i<(↑ks.length:Int))) (Ai ks[i.toNat]? fun z=>ifT (decide (Aq z<=n/\Aq z<=1000000))
 (some (Ex.normal,[V.tp LCd y 0,V.j (if (↑(BH z):Int)>m then (↑(BH z):Int) else m),V.sl LCd.tree ks,V.j k,V.j (i64.wrap (i
 + (1:Int)))],[])))) (some (Ex.exit 0,[V.tp LCd y 0,V.j m],[]))):_):=by kernel_rfl
theorem Sr (n:Nat) (z:Rose Lab):Ax prog (Yy n) (Ab [(3,EV n)]) f178 [.tp LCd z 0] [] =
 ((ifT (decide ((0:Int)<=(0:Int)/\(0:Int)<=(1000001:Int)/\(0:Int)<=(0:Int)/\0<=z.kids.length/\(↑z.kids.length:Int)=(↑z.kids.length:Int)/\
 A1 z.kids<=n/\A1 z.kids<=1000000)) (ifB (AH z.lab.fst) (some (V.j (i64.wrap ((↑(max 0 (Cg (drop 0 z.kids))):Int)
 + (1:Int))),[])) (some (V.j (↑(max 0 (Cg (drop 0 z.kids))):Int),[])))):_):=by kernel_rfl
theorem Lr (n:Nat) (y:Rose Lab) (ks:List (Rose Lab)) (h1:A1 ks<=n) (h2:A1 ks<=1000000) : ∀ (j i m:Nat),i+j=ks.length->m<=1000001->
  Runs prog (Yy n) (Ab [(3,EV n)]) 0 (body f178 0) (EV n) ([.tp LCd y 0,.j (m:Int),.sl (.tree LCd) ks,.j (ks.length:Int),.j (i:Int)],[]) (.exit 0) ([.tp LCd y 0,.j ((max m (Cg (ks.drop i)):Nat):Int)],[])
 | 0,i,m,hi,hm=>by
  have hr:=Jo n y m ks ks.length i
  rw [Ac (dcF (by omega))] at hr
  have e1:ks.drop i=[]:=drop_eq_nil_of_le (by omega)
  rw [e1,Cg]
  exact .stop _ _ _ (hr.trans (by simp)) (by simp)
 | j+1,i,m,hi,hm=>by
  have hl:i<ks.length:=by omega
  have hM:maxI=9223372036854775807:=rfl
  have hr:=Jo n y m ks ks.length i
  have hmem:=Cb (getElem_mem hl)
  have hlen:=C6 ks
  have hdm:=If ks[i]
  rw [Ag (dcT (by omega)),Aa (by simp only [anE,dcE]; omega)] at hr
  simp only [ntN,gtE hl,Am,Ap (n:=i) (by omega)] at hr
  rw [Aa (dcT ⟨by omega,by omega⟩)] at hr
  rw [drop_eq_getElem_cons hl,Cg]
  have hx:(if (BH ks[i]:Int)>(m:Int) then (BH ks[i]:Int) else (m:Int))=((max m (BH ks[i]):Nat):Int):=by split<;>omega
  have ih:=Lr n y ks h1 h2 j (i+1) (max m (BH ks[i])) (by omega) (by omega)
  rw [<-Nat.max_assoc]
  exact .step _ _ _ _ (hr.trans (by rw [hx])) ih
theorem X5 (n:Nat):Ar prog (Yy n) (Ab [(3,EV n)]) 0 (f178.body.getD .skip):=by
 refine An (a:=body f178 0) (by kernel_rfl) fun d ex d' h=>?_
 unfold EV at h
 dsimp only at h
 split at h
 ·rename_i y m ks k i
  obtain ⟨hc,hx⟩:=Ad h
  clear h
  obtain ⟨h0,h1,h2,h3,rfl,h5,h6⟩:=of_decide_eq_true hc
  obtain ⟨m,rfl⟩:=eq_ofNat_of_zero_le h0
  obtain ⟨i,rfl⟩:=eq_ofNat_of_zero_le h2
  simp only [ntN] at h3 hx
  have h8:=Ao hx
  obtain ⟨rfl,rfl⟩:=Prod.mk.inj h8
  exact Lr n y ks h5 h6 (ks.length-i) i m (by omega) (by omega)
 ·cases h
theorem UM (n:Nat) (z:Rose Lab) (hc:Aq z<=n+1/\Aq z<=1000000):Ax prog (Yy n) (Ab [(3,EV n)]) f178 [.tp LCd z 0] []=some (.j (BH z:Int),[]):=by
 rw [Sr]
 obtain ⟨x,ks⟩:=z
 obtain ⟨h1,h2⟩:=hc
 rw [Aq] at h1 h2
 have hd:drop (toNat 0) ks=ks:=rfl
 simp only [Rose.kids,Rose.lab] at *
 rw [Aa (dcT (by refine ⟨by omega,by omega,by omega,by simp,by trivial,by omega,by omega⟩))]
 have hdp:=Gx ks
 rw [BH]
 simp only [drop_zero,Nat.zero_max]
 cases hx:AH x.1 with
 | true=>rw [Be,Aw (by omega) (by omega)]; simp
 | false=>rw [AS]; simp
theorem UN : ∀ n,(∀ m,m<n->Af prog 178 (Ent.rd1 (I4 m)).F)->Af prog 178 (Ent.rd1 (I4 n)).F
 | 0,_=>BD fun vs bs=>by
  unfold Ent.F I4
  dsimp only
  split
  ·rename_i z
   have:=Ck z
   have:decide (Aq z<=0/\Aq z<=1000000)=false:=dcF (by omega)
   rw [this]; rfl
  ·rfl
 | n+1,ih=>by
  refine Ae (kc func178 (ih n (lt_succ_self n)) (kc func176 X2 KnowsL.nil)).knows (Λ:=(Ab [(3,EV n)])) func178 (c:=f178.body.getD .skip) (by kernel_rfl) fun vs bs r hq hv hb=>?_
  unfold Ent.F I4 at hq
  dsimp only at hq
  split at hq
  ·rename_i z
   obtain ⟨hc,hx⟩:=Ad hq
   exact ⟨X5 n,(UM n z (of_decide_eq_true hc)).trans hx⟩
  ·cases hq
theorem Aeo:Af prog 178 (Ent.rd1 Ss).F:=by
 refine C5 (F:=fun n=>(Ent.rd1 (I4 n)).F) UN fun vs bs r h=>?_
 unfold Ent.F Ss at h
 dsimp only at h
 split at h
 ·rename_i z
  obtain ⟨hc,hx⟩:=Ad h
  have hc:=of_decide_eq_true hc
  refine ⟨1000000,?_⟩
  show (Br.need (decide (Aq z<=1000000/\Aq z<=1000000)) (.leaf (.j (BH z:Int),[]))).run=some r
  rw [dcT (show Aq z<=1000000/\Aq z<=1000000 from ⟨hc,hc⟩)]
  exact hx
 ·cases h
def EP (zk:List (Rose Lab)) (i:Nat) (n:Int):Bool:=match i with
 | 0=>false
 | i+1=>match zk[i]? with | some y=>decide (y.lab.2.2.1>=n) | none=>false
def HD (zk:List (Rose Lab)):Nat->List (List UInt8×Bool)->List (Rose Lab)->Bool
 | _,_,[]=>true
 | i,seen,z::l=>if ((Ct .str seen z.lab.2.1).getD false||EP zk i z.lab.2.2.1)=true then false else HD zk (i+1) (D2 .str seen z.lab.2.1 true) l
def Cm (x:Lab) (ks:List (Rose Lab)):Bool:=
 if x.1=1\/x.1=2 then x.2.2.2.2.1==0&&ks.length==0
 else if x.1=3 then decide (0<=x.2.2.2.2.1/\x.2.2.2.2.1<=20)&&ks.length==0
 else if x.1=4 then x.2.2.2.2.1==0&&ks.length==1
 else if x.1≠5\/x.2.2.2.2.1≠0 then false
 else HD ks 0 [] ks
def KM:Gm
 | [.tp LCd z 0],[]=>.need (decide (z.kids.length<=maxI)) (.leaf (.b (Cm z.lab z.kids),[]))
 | _,_=>.no
def poE:LoopEnt:=⟨113,[0,3,72,73,74],[],[2],fun
 | ([.tp LCd z 0,.mref 0,.sl (.tree LCd) ks,.i .i64 k,.i .i64 i],[some (.mp .str .bool seen)])=>.need (decide (0<=i/\i.toNat<=ks.length/\k=ks.length/\ks.length<=maxI/\z.kids.length=ks.length)) (.br (HD z.kids i.toNat seen (ks.drop i.toNat)) (.leaf (.exit 1,([],[]))) (.leaf (.ret,([.b false],[]))))
 | _=>.no⟩
theorem Px (z:Rose Lab) (ks:List (Rose Lab)) (seen:List (List UInt8×Bool)) (k i:Int):Av prog (Ab [(125,.rd1 A3)]) (Ab [(13,poE)]) 0 (body f211 0) poE ([.tp LCd z 0,.mref 0,.sl (.tree LCd) ks,.j k,.j i],[some (.mp .str .bool seen)]) =
 ((ifB (decide (i<k)) (ifT (decide ((0:Int)<=i)&&decide (i<(↑ks.length:Int))) (Ai ks[i.toNat]? fun z_1=>ifB ((Ct Cd.str seen (Rose.lab z_1).snd.fst).getD
 false) (some (Ex.ret,[V.b false],[])) (ifB (decide (i>(0:Int))) (ifT (decide ((0:Int)<=i64.wrap (i-(1:Int)))&&decide (i64.wrap (i-(1 :
 Int))<(↑z.kids.length:Int))) (Ai z.kids[(i64.wrap (i-(1:Int))).toNat]? fun z_2=>ifB (decide ((Rose.lab z_2).snd.snd.fst>=(Rose.lab
 z_1).snd.snd.fst)) (some (Ex.ret,[V.b false],[])) (some (Ex.normal,[V.tp LCd z 0,V.mref 0,V.sl LCd.tree ks,V.j k,V.j (i64.wrap (i
 + (1:Int)))],[some (Blk.mp Cd.str Cd.bool (D2 Cd.str seen (Rose.lab z_1).snd.fst true))])))) (some (Ex.normal,[V.tp LCd z 0,V.mref 0,V.sl LCd.tree
 ks,V.j k,V.j (i64.wrap (i+(1:Int)))],[some (Blk.mp Cd.str Cd.bool (D2 Cd.str seen (Rose.lab z_1).snd.fst true))]))))) (some (Ex.exit 1,[],
 []))):_):=by kernel_rfl
theorem YY (z:Rose Lab):Ax prog (Ab [(125,.rd1 A3)]) (Ab [(13,poE)]) f211 [.tp LCd z 0] [] =
 ((ifB (z.lab.fst==(1:Int)) (ifB (z.lab.fst==(1:Int)) (ifB (z.lab.snd.snd.snd.snd.fst==(0:Int)) (some (V.b ((↑z.kids.length:Int)==(0:Int)),[])) (some (V.b
 false,[]))) (ifB (z.lab.fst==(3:Int)) (ifB (decide ((0:Int)<=z.lab.snd.snd.snd.snd.fst/\z.lab.snd.snd.snd.snd.fst<=(20:Int))) (some (V.b ((↑z.kids.length :
 Int)==(0:Int)),[])) (some (V.b false,[]))) (ifB (z.lab.fst==(4:Int)) (ifB (z.lab.snd.snd.snd.snd.fst==(0:Int)) (some (V.b ((↑z.kids.length:Int)==(1 :
 Int)),[])) (some (V.b false,[]))) (ifB (z.lab.fst != (5:Int)) (some (V.b false,[])) (ifB (z.lab.snd.snd.snd.snd.fst != (0:Int)) (some (V.b false,[])) (ifT (decide
 ((0:Int)<=(0:Int)/\0<=z.kids.length/\(↑z.kids.length:Int)=(↑z.kids.length:Int)/\z.kids.length<=maxI/\z.kids.length=z.kids.length)) (ifB (HD
 z.kids 0 (Aj (Cd.str.den×Cd.bool.den)) (drop 0 z.kids)) (some (V.b true,[])) (some (V.b false,[]))))))))) (ifB (z.lab.fst==(2:Int)) (ifB
 (z.lab.snd.snd.snd.snd.fst==(0:Int)) (some (V.b ((↑z.kids.length:Int)==(0:Int)),[])) (some (V.b false,[]))) (ifB (z.lab.fst==(3:Int)) (ifB (decide ((0 :
 Int)<=z.lab.snd.snd.snd.snd.fst/\z.lab.snd.snd.snd.snd.fst<=(20:Int))) (some (V.b ((↑z.kids.length:Int)==(0:Int)),[])) (some (V.b false,[]))) (ifB (z.lab.fst
 == (4:Int)) (ifB (z.lab.snd.snd.snd.snd.fst==(0:Int)) (some (V.b ((↑z.kids.length:Int)==(1:Int)),[])) (some (V.b false,[]))) (ifB (z.lab.fst != (5:Int))
 (some (V.b false,[])) (ifB (z.lab.snd.snd.snd.snd.fst != (0:Int)) (some (V.b false,[])) (ifT (decide ((0:Int)<=(0:Int)/\0<=z.kids.length/\
 (↑z.kids.length:Int)=(↑z.kids.length:Int)/\z.kids.length<=maxI/\z.kids.length=z.kids.length)) (ifB (HD z.kids 0 (Aj (Cd.str.den×Cd.bool.den))
 (drop 0 z.kids)) (some (V.b true,[])) (some (V.b false,[])))))))))):_):=by kernel_rfl
theorem Oi (z:Rose Lab) (ks:List (Rose Lab)) (hz:z.kids.length=ks.length) (hm:ks.length<=maxI) : ∀ (j i:Nat) (seen:List (List UInt8×Bool)),i+j=ks.length->∀ ex d,(Br.br (HD z.kids i seen (ks.drop i)) (.leaf (.exit 1,([],[]))) (.leaf (.ret,([.b false],[]))):Br (Ex×Dt)).run=some (ex,d)->
  Runs prog (Ab [(125,.rd1 A3)]) (Ab [(13,poE)]) 0 (body f211 0) poE ([.tp LCd z 0,.mref 0,.sl (.tree LCd) ks,.j (ks.length:Int),.j (i:Int)],[some (.mp .str .bool seen)]) ex d
 | 0,i,seen,hi,ex,d,h=>by
  have hr:=Px z ks seen ks.length i
  rw [Ac (dcF (by omega))] at hr
  have e1:ks.drop i=[]:=drop_eq_nil_of_le (by omega)
  rw [e1,HD] at h
  have h8:=Ao h
  obtain ⟨rfl,rfl⟩:=Prod.mk.inj h8
  exact .stop _ _ _ hr (by simp)
 | j+1,i,seen,hi,ex,d,h=>by
  have hl:i<ks.length:=by omega
  have hM:maxI=9223372036854775807:=rfl
  have hr:=Px z ks seen ks.length i
  rw [Ag (dcT (by omega)),Aa (by simp only [anE,dcE]; omega)] at hr
  simp only [ntN,gtE hl,Am,Ap (n:=i) (by omega)] at hr
  rw [drop_eq_getElem_cons hl,HD] at h
  have stop : ∀ {x:Option (Ex×Dt)},x=some (.ret,([.b false],[]))->(Br.br false (.leaf (.exit 1,([],[]))) (.leaf (.ret,([.b false],[]))):Br (Ex×Dt)).run=some (ex,d)->x=some (ex,d)/\ex≠.normal:=fun hx h=>by
   have h8:=Ao h
   obtain ⟨rfl,rfl⟩:=Prod.mk.inj h8
   exact ⟨hx,by simp⟩
  cases h1:(Ct .str seen ks[i].lab.2.1).getD false with
  | true=>
   rw [h1,Bool.true_or,if_pos rfl] at h
   rw [h1,Be] at hr
   obtain ⟨g1,g2⟩:=stop hr h
   exact .stop _ _ _ g1 g2
  | false=>
   rw [h1,Bool.false_or] at h
   rw [h1,AS] at hr
   cases i with
   | zero=>
    rw [Ac (dcF (by omega))] at hr
    rw [EP,if_neg (by simp)] at h
    exact .step _ _ _ _ hr (Oi z ks hz hm j 1 _ (by omega) ex d h)
   | succ i=>
    have hl':i<z.kids.length:=by omega
    have hw:i64.wrap (((i+1:Nat):Int)-1)=(i:Int):=by rw [Aw (by omega) (by omega)]; omega
    rw [Ag (dcT (by omega)),hw,Aa (by simp only [anE,dcE]; omega)] at hr
    simp only [ntN,gtE hl',Am] at hr
    have hp:EP z.kids (i+1) ks[i+1].lab.2.2.1=decide (z.kids[i].lab.2.2.1>=ks[i+1].lab.2.2.1):=by unfold EP; simp only [gtE hl']
    rw [hp] at h
    cases h2:decide (z.kids[i].lab.2.2.1>=ks[i+1].lab.2.2.1) with
    | true=>
     rw [h2,if_pos rfl] at h
     rw [h2,Be] at hr
     obtain ⟨g1,g2⟩:=stop hr h
     exact .stop _ _ _ g1 g2
    | false=>
     rw [h2,if_neg (by simp)] at h
     rw [h2,AS] at hr
     exact .step _ _ _ _ hr (Oi z ks hz hm j (i+1+1) _ (by omega) ex d h)
theorem Ad4:Ar prog (Ab [(125,.rd1 A3)]) (Ab [(13,poE)]) 0 (f211.body.getD .skip):=by
 refine An (a:=body f211 0) (by kernel_rfl) fun d ex d' h=>?_
 unfold poE at h
 dsimp only at h
 split at h
 ·rename_i z ks k i seen
  obtain ⟨hc,hx⟩:=Ad h
  clear h
  obtain ⟨h0,h1,rfl,h3,h4⟩:=of_decide_eq_true hc
  obtain ⟨i,rfl⟩:=eq_ofNat_of_zero_le h0
  simp only [ntN] at h1 hx
  exact Oi z ks h4 h3 (ks.length-i) i seen (by omega) ex d' hx
 ·cases h
theorem Pz (z:Rose Lab) (hc:z.kids.length<=maxI):Ax prog (Ab [(125,.rd1 A3)]) (Ab [(13,poE)]) f211 [.tp LCd z 0] []=some (.b (Cm z.lab z.kids),[]):=by
 rw [YY]
 have hl : ∀ n:Nat,((z.kids.length:Int)==(n:Int))=(z.kids.length==n):=fun n=>by
  by_cases h:z.kids.length=n
  ·subst h; simp
  ·rw [beq_false_of_ne h,beq_false_of_ne (by omega)]
 have hl0:((z.kids.length:Int)==0)=(z.kids.length==0):=hl 0
 have hl1:((z.kids.length:Int)==1)=(z.kids.length==1):=hl 1
 have hd:decide ((0:Int)<=0/\0<=z.kids.length/\(z.kids.length:Int)=(z.kids.length:Int)/\z.kids.length<=maxI/\z.kids.length=z.kids.length)=true:=dcT ⟨by omega,by omega,rfl,hc,rfl⟩
 unfold Cm
 rw [drop_zero,hl0,hl1]
 by_cases a1:z.lab.1=1
 ·rw [if_pos (.inl a1),a1]
  cases z.lab.2.2.2.2.1==0<;>rfl
 by_cases a2:z.lab.1=2
 ·rw [if_pos (.inr a2),a2]
  cases z.lab.2.2.2.2.1==0<;>rfl
 rw [Ac (beq_false_of_ne a1),Ac (beq_false_of_ne a2),if_neg (by rintro (h | h); exact a1 h; exact a2 h)]
 by_cases a3:z.lab.1=3
 ·rw [if_pos a3,a3,Ag (by rfl)]
  by_cases a5:0<=z.lab.2.2.2.2.1/\z.lab.2.2.2.2.1<=20
  ·rw [dcT a5]; rfl
  ·rw [dcF a5]; rfl
 rw [Ac (beq_false_of_ne a3),if_neg a3]
 by_cases a4:z.lab.1=4
 ·rw [if_pos a4,a4,Ag (by rfl)]
  cases z.lab.2.2.2.2.1==0<;>rfl
 rw [Ac (beq_false_of_ne a4),if_neg a4]
 by_cases a5:z.lab.1=5
 ·rw [Ac (by rw [a5]; rfl)]
  by_cases a6:z.lab.2.2.2.2.1=0
  ·rw [Ac (by rw [a6]; rfl),if_neg (by rintro (h | h); exact h a5; exact h a6),hd,Dc]
   cases HD z.kids 0 [] z.kids<;>rfl
  ·rw [Ag (by simpa using a6),if_pos (.inr a6)]
 ·rw [Ag (by simpa using a5),if_pos (.inl a5)]
theorem Za:Af prog 211 (Ent.rd1 KM).F:=by
 refine Ae (kc func125 Dl KnowsL.nil).knows (Λ:=(Ab [(13,poE)])) func211 (c:=f211.body.getD .skip) (by kernel_rfl) fun vs bs r hq hv hb=>?_
 unfold Ent.F KM at hq
 dsimp only at hq
 split at hq
 ·rename_i z
  obtain ⟨hc,hx⟩:=Ad hq
  exact ⟨Ad4,(Pz z (of_decide_eq_true hc)).trans hx⟩
 ·cases hq
def Au {α:Type} (p:α->Bool):Nat->List α->Int
 | _,[]=>-1
 | n,z::l=>if p z=true then (n:Int) else Au p (n+1) l
mutual
def At:Rose Lab->Bool
 | .node x ks=>Cm x ks&&B9 x.1 ks
def B9 (k:Int):List (Rose Lab)->Bool
 | []=>true
 | z::l=>(DT k z.lab&&At z)&&B9 k l
end
mutual
def Cs:Rose Lab->Bool
 | .node x ks=>decide (x.2.1.length<=maxI)&&Iy ks
def Iy:List (Rose Lab)->Bool
 | []=>true
 | z::l=>Cs z&&Iy l
end
def CX (z:Rose Lab):Bool:=z.lab.1==5&&z.lab.2.1==[]&&z.lab.2.2.1==0&&!z.lab.2.2.2.1&&At z&&decide (BH z<=5)&&decide (Aq z<=30)
def EB (k:Int) (z:Rose Lab):Bool:=!(DT k z.lab&&At z)
def He (n:Nat):Gm
 | [.tp LCd z 0],[]=>.need (decide (Aq z<=n/\Aq z<=1000000/\Cs z=true)) (.leaf (.b (At z),[]))
 | _,_=>.no
def DE (n:Nat):Gm
 | [.tp LCd z 0,.bx [.tp LCd y 0] 0],[]=>.need (decide (Aq z<=n/\Aq z<=1000000/\Cs z=true)) (.leaf (.b (EB y.lab.1 z),[]))
 | _,_=>.no
def RG:Gm
 | [.tp LCd z 0],[]=>.need (decide (Aq z<=1000000/\Cs z=true)) (.leaf (.b (At z),[]))
 | _,_=>.no
def O9:Gm
 | [.tp LCd z 0],[]=>.need (decide (Aq z<=1000000/\Cs z=true)) (.leaf (.b (CX z),[]))
 | _,_=>.no
def krE (n:Nat):LoopEnt:=⟨19,[0,1,4,7,8],[],[4],fun
 | ([.sl (.tree LCd) l,.fn 213 [] [.ptr 0 0],.i .i64 _,.i .i64 k,.i .i64 i],[some (.box [.tp LCd y 0])])=>
  .need (decide (0<=i/\i.toNat<=l.length/\l.length<=maxI/\k=l.length)&&l.all (fun z:Rose Lab=>decide (Aq z<=n/\Aq z<=1000000/\Cs z=true))) (.br (decide (Au (fun z:Rose Lab=>EB y.lab.1 z) i.toNat (l.drop i.toNat)<0)) (.leaf (.exit 0,([],[some (.box [.tp LCd y 0])]))) (.leaf (.ret,([.i .i64 (Au (fun z:Rose Lab=>EB y.lab.1 z) i.toNat (l.drop i.toNat))],[some (.box [.tp LCd y 0])]))))
 | _=>.no⟩
def Zt (n:Nat):Gm
 | [.sl (.tree LCd) l,.fn 213 [] [.ptr 0 0]],[.box [.tp LCd y 0]]=>.need (l.all (fun z:Rose Lab=>decide (Aq z<=n/\Aq z<=1000000/\Cs z=true))) (.leaf (.i .i64 (Au (fun z:Rose Lab=>EB y.lab.1 z) 0 l),[some (.box [.tp LCd y 0])]))
 | _,_=>.no
def Acd (n:Nat):Gm
 | [.sl (.tree LCd) l,.fn 213 [] [.ptr 0 0]],[.box [.tp LCd y 0]]=>.need (l.all (fun z:Rose Lab=>decide (Aq z<=n/\Aq z<=1000000/\Cs z=true))) (.leaf (.b (l.any (fun z:Rose Lab=>EB y.lab.1 z)),[some (.box [.tp LCd y 0])]))
 | _,_=>.no
theorem Gv {α:Type} (p:α->Bool) : ∀ (l:List α) (n:Nat),(Au p n l = -1/\l.any p=false)\/((n:Int)<=Au p n l/\Au p n l<n+l.length/\l.any p=true)
 | [],n=>.inl ⟨rfl,rfl⟩
 | z::l,n=>by
  rw [Au,any_cons]
  by_cases h:p z=true
  ·rw [if_pos h,h]; exact .inr ⟨Int.le_refl _,by simp; omega,rfl⟩
  ·rw [if_neg h,show p z=false by simpa using h,Bool.false_or]
   rcases Gv p l (n+1) with ⟨h1,h2⟩ | ⟨h1,h2,h3⟩
   ·exact .inl ⟨h1,h2⟩
   ·exact .inr ⟨by omega,by simp; omega,h3⟩
theorem Hj {α:Type} (p:α->Bool) (l:List α) (n:Nat):decide (Au p n l>=0)=l.any p:=by
 rcases Gv p l n with ⟨h1,h2⟩ | ⟨h1,h2,h3⟩
 ·rw [h2]; exact dcF (by omega)
 ·rw [h3]; exact dcT (by omega)
theorem CP {α:Type} (p:α->Bool) (l:List α) (n:Nat) (h:Au p n l<0):Au p n l = -1:=by
 rcases Gv p l n with ⟨h1,h2⟩ | ⟨h1,h2⟩
 ·exact h1
 ·omega
theorem Gw {α:Type} (p:α->Bool) : ∀ (l:List α) (n:Nat),0<=Au p n l->∃ i,∃ h:i<l.length,Au p n l=((n+i:Nat):Int)/\p l[i]=true/\l.find? p=some l[i]
 | [],n,h=>by rw [Au] at h; omega
 | z::l,n,h=>by
  rw [Au] at h ⊢
  by_cases hp:p z=true
  ·rw [if_pos hp]; exact ⟨0,by simp,by simp,hp,by simp [hp]⟩
  ·rw [if_neg hp] at h ⊢
   obtain ⟨i,h1,h2,h3,h4⟩:=Gw p l (n+1) h
   exact ⟨i+1,by simp; omega,by rw [h2]; congr 1; omega,by simpa using h3,by simp [hp,h4]⟩
theorem IE {α:Type} (p:α->Bool) : ∀ (l:List α) (n:Nat),Au p n l<0->l.find? p=none
 | [],n,_=>rfl
 | z::l,n,h=>by
  rw [Au] at h
  by_cases hp:p z=true
  ·rw [if_pos hp] at h; omega
  ·rw [if_neg hp] at h
   simp [hp,IE p l (n+1) h]
theorem PA {z:Rose Lab} : ∀ {l:List (Rose Lab)},Iy l=true->z∈l->Cs z=true
 | [],_,h=>by cases h
 | y::l,hn,h=>by
  rw [Iy,anE] at hn
  rcases mem_cons.1 h with rfl | h
  ·exact hn.1
  ·exact PA hn.2 h
theorem Xi {z:Rose Lab} (h:Cs z=true):z.lab.2.1.length<=maxI:=by
 cases z
 rw [Cs,anE] at h
 exact of_decide_eq_true h.1
theorem U6 {z:Rose Lab} (h:Cs z=true):Iy z.kids=true:=by
 cases z
 rw [Cs,anE] at h
 exact h.2
theorem KC (k:Int) : ∀ l:List (Rose Lab),B9 k l = !(l.any fun z=>EB k z)
 | []=>rfl
 | z::l=>by rw [B9,KC k l,any_cons,EB]; cases DT k z.lab<;>cases At z<;>simp
theorem PZ (n:Nat) (hf:Af prog 177 (Ent.rd1 (He n)).F):Af prog 213 (Ent.rd1 (DE n)).F:=by
 refine Ae (kc func214 Abx (kc func177 hf KnowsL.nil)).knows (Λ:=Ab []) func213 (c:=f213.body.getD .skip) (by kernel_rfl) fun vs bs r hq hv hb=>?_
 unfold Ent.F DE at hq
 dsimp only at hq
 split at hq
 ·rename_i z y
  obtain ⟨hc,hx⟩:=Ad hq
  refine ⟨Ak _,Eq.trans ?_ hx⟩
  have e:Ax prog (Ab [(214,.rd1 Ok),(177,.rd1 (He n))]) (Ab []) f213 [.tp LCd z 0,.bx [.tp LCd y 0] 0] []=((ifT (decide (List.length z.lab.snd.fst<=maxI)) (ifB (!DT y.lab.fst z.lab) (some (V.b true,[])) (ifT (decide (Aq z<=n/\Aq z<=1000000/\Cs z=true))
 (some (V.b !At z,[]))))):_):=by kernel_rfl
  have hn:=of_decide_eq_true hc
  rw [e,Aa (dcT (Xi hn.2.2))]
  unfold EB
  cases DT y.lab.1 z.lab with
  | true=>rw [Aa hc]; rfl
  | false=>rfl
 ·cases hq
theorem Qa (n:Nat) (y:Rose Lab) (l:List (Rose Lab)) (r k i:Int):Av prog (Ab [(213,.rd1 (DE n))]) (Ab [(2,(krE n))]) 1 (body f199 0) (krE n) ([.sl (.tree LCd) l,.fn 213 [] [.ptr 0 0],.j r,.j k,.j i],[some (.box [.tp LCd y 0])]) =
 ((ifB (decide (i<k)) (ifT (decide ((0:Int)<=i)&&decide (i<(↑l.length:Int))) (Ai l[i.toNat]? fun z=>ifT (decide (Aq z<=n/\Aq z<=1000000/\Cs
 z=true)) (ifB (EB y.lab.fst z) (some (Ex.ret,[V.j i],[some (Blk.box [V.tp LCd y 0])])) (some (Ex.normal,[V.sl LCd.tree l,V.fn
 213 [] [V.ptr 0 0],V.j r,V.j k,V.j (i64.wrap (i+(1:Int)))],[some (Blk.box [V.tp LCd y 0])]))))) (some
 (Ex.exit 0,[],[some (Blk.box [V.tp LCd y 0])]))):_):=by kernel_rfl
theorem T5 (n:Nat) (y:Rose Lab) {l:List (Rose Lab)} {r:Int} (hx:l.length<=maxI) (hs:(l.all (fun z:Rose Lab=>decide (Aq z<=n/\Aq z<=1000000/\Cs z=true)))=true) : ∀ (j i:Nat),i+j=l.length->∀ e d',(.br (decide (Au (fun z:Rose Lab=>EB y.lab.1 z) i (l.drop i)<0)) (.leaf (.exit 0,([],[some (.box [.tp LCd y 0])]))) (.leaf (.ret,([.j (Au (fun z:Rose Lab=>EB y.lab.1 z) i (l.drop i))],[some (.box [.tp LCd y 0])]))):Br (Ex×Dt)).run=some (e,d')->
  Runs prog (Ab [(213,.rd1 (DE n))]) (Ab [(2,(krE n))]) 1 (body f199 0) (krE n) ([.sl (.tree LCd) l,.fn 213 [] [.ptr 0 0],.j r,.j (l.length:Int),.j (i:Int)],[some (.box [.tp LCd y 0])]) e d'
 | 0,i,hi,e,d',h=>by
  have e1:l.drop i=[]:=drop_eq_nil_of_le (by omega)
  rw [e1,BB,Au,if_pos (by omega)] at h
  cases h
  have hr:=Qa n y l r l.length i
  rw [Ac (dcF (by omega))] at hr
  exact .stop _ _ _ hr (by simp)
 | j+1,i,hi,e,d',h=>by
  have h1:i<l.length:=by omega
  have hr:=Qa n y l r l.length i
  rw [Ag (dcT (by omega)),Aa (by simp only [anE,dcE]; omega)] at hr
  simp only [ntN,gtE h1,Am,Ap (n:=i) (by omega)] at hr
  have hz:=of_decide_eq_true (all_eq_true.1 hs _ (getElem_mem h1))
  rw [Aa (by simpa only [anE,dcE] using hz)] at hr
  rw [drop_eq_getElem_cons h1,BB,Au] at h
  by_cases he:(fun z:Rose Lab=>EB y.lab.1 z) l[i]=true
  ·rw [if_pos he,if_neg (by omega)] at h
   cases h
   rw [Ag he] at hr
   exact .stop _ _ _ hr (by simp)
  ·rw [if_neg he] at h
   rw [Ac (by simpa using he)] at hr
   exact .step _ _ _ _ hr (T5 n y hx hs j (i+1) (by omega) e d' (by rw [BB]; exact h))
theorem Aei (n:Nat):Ar prog (Ab [(213,.rd1 (DE n))]) (Ab [(2,(krE n))]) 1 (f199.body.getD .skip):=by
 refine An (a:=body f199 0) (by kernel_rfl) fun d e d' h=>?_
 unfold krE at h
 dsimp only at h
 split at h
 ·obtain ⟨hc,h'⟩:=Ad h
  rw [anE] at hc
  obtain ⟨hc,hs⟩:=hc
  obtain ⟨h0,h1,h2,rfl⟩:=of_decide_eq_true hc
  obtain ⟨i,rfl⟩:=eq_ofNat_of_zero_le h0
  exact T5 n _  h2 hs _ i (Nat.add_sub_of_le h1) e d' h'
 ·cases h
theorem Acg (n:Nat) (y:Rose Lab) (l:List (Rose Lab)) (hx:l.length<=maxI) (hs:(l.all (fun z:Rose Lab=>decide (Aq z<=n/\Aq z<=1000000/\Cs z=true)))=true):Ax prog (Ab [(213,.rd1 (DE n))]) (Ab [(2,(krE n))]) f199 [.sl (.tree LCd) l,.fn 213 [] [.ptr 0 0]] [.box [.tp LCd y 0]]=some (.j (Au (fun z:Rose Lab=>EB y.lab.1 z) 0 l),[some (.box [.tp LCd y 0])]):=by
 have e:Ax prog (Ab [(213,.rd1 (DE n))]) (Ab [(2,(krE n))]) f199 [.sl (.tree LCd) l,.fn 213 [] [.ptr 0 0]] [.box [.tp LCd y 0]] =
  ((ifT (decide ((0:Int)<=(0:Int)/\0<=l.length/\l.length<=maxI/\(↑l.length:Int)=(↑l.length:Int))&&l.all fun z=>decide (Aq z<=n/\Aq z<=
 1000000/\Cs z=true)) (ifB (decide (Au (fun z=>EB y.lab.fst z) 0 (drop 0 l)<(0:Int))) (some (V.j (-1),[some (Blk.box
 [V.tp LCd y 0])])) (some (V.j (Au (fun z=>EB y.lab.fst z) 0 (drop 0 l)),[some (Blk.box [V.tp LCd y 0])])))):_):=by kernel_rfl
 rw [e,Aa (by rw [anE]; exact ⟨dcT ⟨by omega,by omega,hx,rfl⟩,hs⟩)]
 simp only [drop_zero]
 by_cases q:Au (fun z:Rose Lab=>EB y.lab.1 z) 0 l<0
 ·rw [Ag (dcT q),CP _ _ _ q]
 ·rw [Ac (dcF q)]
theorem Ace (n:Nat) (hf:Af prog 213 (Ent.rd1 (DE n)).F):Af prog 199 (Ent.own (Zt n)).F:=by
 refine Ae (kc func213 hf KnowsL.nil).knows (Λ:=(Ab [(2,(krE n))])) func199 (c:=f199.body.getD .skip) (by kernel_rfl) fun vs bs r h hv hb=>?_
 unfold Ent.F Zt at h
 dsimp only at h
 split at h
 ·rename_i l y
  obtain ⟨hc,h'⟩:=Ad h
  exact ⟨Aei n,(Acg n y l (hv (.sl (.tree LCd) l) (by simp)).1 hc).trans (by cases h'; rfl)⟩
 ·cases h
theorem Zu (n:Nat) (y:Rose Lab) (l:List (Rose Lab)) (hs:(l.all (fun z:Rose Lab=>decide (Aq z<=n/\Aq z<=1000000/\Cs z=true)))=true):Ax prog (Ab [(199,.own (Zt n))]) (Ab []) f212 [.sl (.tree LCd) l,.fn 213 [] [.ptr 0 0]] [.box [.tp LCd y 0]]=some (.b (l.any (fun z:Rose Lab=>EB y.lab.1 z)),[some (.box [.tp LCd y 0])]):=by
 have e:Ax prog (Ab [(199,.own (Zt n))]) (Ab []) f212 [.sl (.tree LCd) l,.fn 213 [] [.ptr 0 0]] [.box [.tp LCd y 0]] =
  ((ifT (l.all fun z=>decide (Aq z<=n/\Aq z<=1000000/\Cs z=true)) (some (V.b (decide (Au (fun z=>EB y.lab.fst z) 0 l>=(0:Int))),[some
 (Blk.box [V.tp LCd y 0])]))):_):=by kernel_rfl
 rw [e]
 rw [Aa hs]
 rw [Hj]
theorem Acf (n:Nat) (hf:Af prog 213 (Ent.rd1 (DE n)).F):Af prog 212 (Ent.own (Acd n)).F:=by
 refine Ae (kc func199 (Ace n hf) KnowsL.nil).knows (Λ:=Ab []) func212 (c:=f212.body.getD .skip) (by kernel_rfl) fun vs bs r h hv hb=>?_
 unfold Ent.F Acd at h
 dsimp only at h
 split at h
 ·rename_i l y
  obtain ⟨hc,h'⟩:=Ad h
  exact ⟨Ak _,(Zu n y l hc).trans (by cases h'; rfl)⟩
 ·cases h
theorem Sk : ∀ n,(∀ m,m<n->Af prog 177 (Ent.rd1 (He m)).F)->Af prog 177 (Ent.rd1 (He n)).F
 | 0,_=>BD fun vs bs=>by
  unfold Ent.F He
  dsimp only
  split
  ·rename_i z
   have:=Ck z
   rw [dcF (show ¬(Aq z<=0/\Aq z<=1000000/\Cs z=true) by omega)]; rfl
  ·rfl
 | n+1,ih=>by
  have hC:=Acf n (PZ n (ih n (lt_succ_self n)))
  refine Ae (kc func211 Za (kc func212 hC KnowsL.nil)).knows (Λ:=Ab []) func177 (c:=f177.body.getD .skip) (by kernel_rfl) fun vs bs r hq hv hb=>?_
  unfold Ent.F He at hq
  dsimp only at hq
  split at hq
  ·rename_i z
   obtain ⟨hc,hx⟩:=Ad hq
   obtain ⟨h1,h2,h3⟩:=of_decide_eq_true hc
   refine ⟨Ak _,Eq.trans ?_ hx⟩
   have e:Ax prog (Ab [(211,.rd1 KM),(212,.own (Acd n))]) (Ab []) f177 [.tp LCd z 0] []=((ifT (decide (z.kids.length<=maxI)) (ifB (Cm z.lab z.kids) (ifT (z.kids.all fun z=>decide (Aq z<=n/\Aq z<=1000000/\Cs z=true)) (some (V.b
 !z.kids.any fun z_1=>EB z.lab.fst z_1,[]))) (some (V.b false,[])))):_):=by kernel_rfl
   rw [Cp] at h1 h2
   have hl:=C6 z.kids
   have hM:maxI=9223372036854775807:=rfl
   have hall:(z.kids.all fun z:Rose Lab=>decide (Aq z<=n/\Aq z<=1000000/\Cs z=true))=true:=all_eq_true.2 fun w hw=>dcT ⟨by have:=Cb hw; omega,by have:=Cb hw; omega,PA (U6 h3) hw⟩
   rw [e,Aa (dcT (by omega))]
   have hr:At z=(Cm z.lab z.kids&&!(z.kids.any fun w=>EB z.lab.1 w)):=by cases z; rw [At,KC]; rfl
   rw [hr]
   cases Cm z.lab z.kids with
   | true=>rw [Be,Aa hall]; rfl
   | false=>rfl
  ·cases hq
theorem right:Af prog 177 (Ent.rd1 RG).F:=by
 refine C5 (F:=fun n=>(Ent.rd1 (He n)).F) Sk fun vs bs r h=>?_
 unfold Ent.F RG at h
 dsimp only at h
 split at h
 ·rename_i z
  obtain ⟨hc,hx⟩:=Ad h
  obtain ⟨h1,h2⟩:=of_decide_eq_true hc
  refine ⟨1000000,?_⟩
  show (Br.need (decide (Aq z<=1000000/\Aq z<=1000000/\Cs z=true)) (.leaf (.b (At z),[]))).run=some r
  rw [dcT (show Aq z<=1000000/\Aq z<=1000000/\Cs z=true from ⟨h1,h1,h2⟩)]
  exact hx
 ·cases h
theorem Ael:Af prog 143 (Ent.rd1 O9).F:=by
 refine Ae (kc func177 right (kc func178 Aeo (kc func179 Acm KnowsL.nil))).knows (Λ:=Ab []) func143 (c:=f143.body.getD .skip) (by kernel_rfl) fun vs bs r hq hv hb=>?_
 unfold Ent.F O9 at hq
 dsimp only at hq
 split at hq
 ·rename_i z
  obtain ⟨hc,hx⟩:=Ad hq
  obtain ⟨h1,h2⟩:=of_decide_eq_true hc
  refine ⟨Ak _,Eq.trans ?_ hx⟩
  have e:Ax prog (Ab [(177,.rd1 RG),(178,.rd1 Ss),(179,.rd1 OA)]) (Ab []) f143 [.tp LCd z 0] []=((ifB (z.lab.fst==(5:Int)) (ifB (z.lab.snd.fst==Aj UInt8) (ifB (z.lab.snd.snd.fst==(0:Int)) (ifB (!z.lab.snd.snd.snd.fst) (ifT (decide (Aq z<=1000000
 /\ Cs z=true)) (ifB (At z) (ifT (decide (Aq z<=1000000)) (ifB (decide ((↑(BH z):Int)<=(5:Int))) (ifT (decide (Aq z<=1000000)) (some
 (V.b (decide ((↑(Aq z):Int)<=(30:Int))),[]))) (some (V.b false,[])))) (some (V.b false,[])))) (some (V.b false,[]))) (some (V.b false,[]))) (some (V.b false,
 []))) (some (V.b false,[]))):_):=by kernel_rfl
  rw [e,dcT h1,hc]
  have d1:decide ((BH z:Int)<=5)=decide (BH z<=5):=decide_eq_decide.2 (by omega)
  have d2:decide ((Aq z:Int)<=30)=decide (Aq z<=30):=decide_eq_decide.2 (by omega)
  rw [d1,d2]
  unfold CX
  cases z.lab.1==5<;>cases z.lab.2.1==[]<;>cases z.lab.2.2.1==0<;>cases z.lab.2.2.2.1<;>cases At z<;>cases decide (BH z<=5)<;>rfl
 ·cases hq
def Bf (l:List Ty):Bool:=decide (1<=l.length/\l.length<=30)&&decide (AY l 0=some (-1))&&(kf l 0).2==l.length&&CX (kf l 0).1
def nmL (l:List Ty):Bool:=l.all fun x=>decide (x.2.1.length<=maxI)
def JT:Gm
 | [.agg [.sl TCd l]],[]=>.need (decide (l.length<=4000000000)&&nmL l) (.br (Bf l) (.leaf (.ptr 0 0,[some (.box [.i .i64 (kf l 0).1.lab.1,.s (kf l 0).1.lab.2.1,.i .i64 (kf l 0).1.lab.2.2.1,.b (kf l 0).1.lab.2.2.2.1,.i .i64 (kf l 0).1.lab.2.2.2.2.1,.ref 1 0 (kf l 0).1.kids.length]),some (.row false none (.tree LCd) (kf l 0).1.kids)])) (.leaf (.np,[])))
 | _,_=>.no
def Jx:Gm
 | [.agg [.sl TCd l]],[]=>.need (decide (l.length<=4000000000)&&nmL l) (.leaf (.b (Bf l),[]))
 | _,_=>.no
theorem MX {l:List Ty} {g:Nat->Rose Lab×Nat} {a:Nat} (hg : ∀ e,e<l.length->e+Aq (g e).1=(g e).2) : ∀ (n e:Nat) (ks:List (Rose Lab)),(Ba g l a n e ks).2+A1 ks=e+A1 (Ba g l a n e ks).1
 | 0,e,ks=>rfl
 | n+1,e,ks=>by
  unfold Ba
  split
  ·rename_i hu
   have h1:=hg e (GA hu)
   have h2:=MX (a:=a) hg n (g e).2 (ks++[(g e).1])
   have h3 : ∀ (ks:List (Rose Lab)) (z:Rose Lab),A1 (ks++[z])=A1 ks+Aq z:=fun ks z=>by
    induction ks with
    | nil=>simp [A1]
    | cons y ks ih=>rw [List.cons_append,A1,A1,ih]; omega
   rw [h3] at h2
   omega
  ·rfl
theorem T8 (l:List Ty) : ∀ f a,a<l.length->a+Aq (kfr l f a).1=(kfr l f a).2
 | 0,a,h=>by simp [kfr,Aq,A1]
 | f+1,a,h=>by
  unfold kfr
  dsimp only
  cases AH (A5 l a).1 with
  | true=>
   have:=MX (a:=a) (T8 l f) l.length (a+1) []
   rw [A1] at this
   rw [cond_true,Aq]; omega
  | false=>rw [cond_false,Aq,A1]
theorem Sq {l:List Ty} {a:Nat} (h:a<l.length):a+Aq (kf l a).1=(kf l a).2:=T8 l l.length a h
theorem PB : ∀ (ks:List (Rose Lab)) (z:Rose Lab),Iy ks=true->Cs z=true->Iy (ks++[z])=true
 | [],z,_,h=>by simp [Iy,h]
 | y::ks,z,h1,h2=>by
  rw [Iy,anE] at h1
  rw [List.cons_append,Iy,h1.1,PB ks z h1.2 h2]; rfl
theorem MW {l:List Ty} {g:Nat->Rose Lab×Nat} {a:Nat} (hg : ∀ e,Cs (g e).1=true) : ∀ (n e:Nat) (ks:List (Rose Lab)),Iy ks=true->Iy (Ba g l a n e ks).1=true
 | 0,e,ks,h=>h
 | n+1,e,ks,h=>by
  unfold Ba
  split
  ·exact MW hg n _ _ (PB _ _ h (hg e))
  ·exact h
theorem Zw {l:List Ty} (hn:nmL l=true) : ∀ f a,Cs (kfr l f a).1=true:=by
 have lab : ∀ a,(A5 l a).2.1.length<=maxI:=fun a=>by
  unfold A5
  cases h:l[a]? with
  | none=>exact Nat.zero_le _
  | some x=>exact of_decide_eq_true (all_eq_true.1 hn x (List.mem_of_getElem? h))
 intro f
 induction f with
 | zero=>intro a; simp [kfr,Cs,Iy,lab a]
 | succ f ih=>
  intro a
  unfold kfr
  dsimp only
  cases AH (A5 l a).1 with
  | true=>rw [cond_true,Cs,dcT (lab a),MW ih _ _ _ rfl]; rfl
  | false=>rw [cond_false,Cs,dcT (lab a)]; rfl
theorem So (l:List Ty) (h1:l.length<=4000000000) (h2:nmL l=true):DH prog (Ab [(125,.rd1 A3),(142,.rd1 Gr),(143,.rd1 O9)]) (Ab []) f105 [.agg [.sl TCd l]] []=(.br (Bf l) (.leaf (.ptr 0 0,[some (.box [.j (kf l 0).1.lab.1,.s (kf l 0).1.lab.2.1,.j (kf l 0).1.lab.2.2.1,.b (kf l 0).1.lab.2.2.2.1,.j (kf l 0).1.lab.2.2.2.2.1,.ref 1 0 (kf l 0).1.kids.length]),some (.row false none (.tree LCd) (kf l 0).1.kids)])) (.leaf (.np,[])):Br (V×List (Option Blk))).run:=by
 have e:DH prog (Ab [(125,.rd1 A3),(142,.rd1 Gr),(143,.rd1 O9)]) (Ab []) f105 [.agg [.sl TCd l]] []=((ifB (!decide ((1:Int)<=(↑l.length:Int)/\(↑l.length:Int)<=(30:Int))) (some (V.np,[])) (ifT (decide ((0:Int)<=(0:Int))&&decide ((0:Int)<(↑l.length :
 Int))) (Ai l[0]? fun z=>ifB (z.snd.snd.snd.snd.fst != (-1:Int)) (some (V.np,[])) (ifT (decide ((0:Int)<=(0:Int)/\0<l.length/\l.length<=
 4000000000)) (ifB ((↑(kf l 0).snd:Int) != (↑l.length:Int)) (some (V.np,[])) (ifT (decide (Aq (Rose.node ((kf l 0).fst.lab.fst,(kf l (0 :
 Nat)).fst.lab.snd.fst,(kf l 0).fst.lab.snd.snd.fst,(kf l 0).fst.lab.snd.snd.snd.fst,(kf l 0).fst.lab.snd.snd.snd.snd.fst,()) (take (kf l
 0).fst.kids.length (drop 0 (kf l 0).fst.kids)))<=1000000/\Cs (Rose.node ((kf l 0).fst.lab.fst,(kf l (0 :
 Nat)).fst.lab.snd.fst,(kf l 0).fst.lab.snd.snd.fst,(kf l 0).fst.lab.snd.snd.snd.fst,(kf l 0).fst.lab.snd.snd.snd.snd.fst,()) (take (kf l
 0).fst.kids.length (drop 0 (kf l 0).fst.kids)))=true)) (ifB (!CX (Rose.node ((kf l 0).fst.lab.fst,(kf l (0 :
 Nat)).fst.lab.snd.fst,(kf l 0).fst.lab.snd.snd.fst,(kf l 0).fst.lab.snd.snd.snd.fst,(kf l 0).fst.lab.snd.snd.snd.snd.fst,()) (take (kf l
 0).fst.kids.length (drop 0 (kf l 0).fst.kids)))) (some (V.np,[])) (some (V.ptr 0 0,[some (Blk.box [V.j (kf l 0).fst.lab.fst,
 V.s (kf l 0).fst.lab.snd.fst,V.j (kf l 0).fst.lab.snd.snd.fst,V.b (kf l 0).fst.lab.snd.snd.snd.fst,V.j (kf l (0 :
 Nat)).fst.lab.snd.snd.snd.snd.fst,V.ref 1 0 (kf l 0).fst.kids.length]),some (Blk.row false none LCd.tree (kf l 0).fst.kids)]))))))))):_):=by kernel_rfl
 rw [e]
 clear e
 unfold Bf
 by_cases a1:1<=l.length/\l.length<=30
 ·have hl:0<l.length:=by omega
  have d1:decide ((1:Int)<=(l.length:Int)/\(l.length:Int)<=30)=true:=dcT (by omega)
  have d2:(decide ((0:Int)<=0)&&decide ((0:Int)<(l.length:Int)))=true:=by simp only [anE,dcE]; omega
  have d3:decide ((0:Int)<=0/\0<l.length/\l.length<=4000000000)=true:=dcT ⟨by omega,hl,h1⟩
  have hc:=Sq hl
  have hb:=FI l 0 hl
  have d4:decide (Aq (kf l 0).1<=1000000/\Cs (kf l 0).1=true)=true:=dcT ⟨by omega,Zw h2 _ _⟩
  have ht:=K6 (kf l 0).1
  rw [drop_zero,take_length] at ht
  rw [d1,dcT a1]
  simp only [Bool.not_true,AS,d2,Dc,gtE hl,Am,d3,drop_zero,take_length,ht,d4,Bool.true_and]
  have hu:AY l 0=some (l[0].2.2.2.2.1):=by unfold AY; rw [gtE hl]; rfl
  rw [hu]
  by_cases a2:l[0].2.2.2.2.1 = -1
  ·rw [a2]
   by_cases a3:(kf l 0).2=l.length
   ·rw [a3]
    cases CX (kf l 0).1<;>simp [Br.run]
   ·rw [beq_false_of_ne a3]
    have:(((kf l 0).2:Int) != (l.length:Int))=true:=by simpa using a3
    simp [this,Br.run]
  ·have:(l[0].2.2.2.2.1 != (-1:Int))=true:=by simpa using a2
   simp [a2,this,Br.run]
 ·have d1:decide ((1:Int)<=(l.length:Int)/\(l.length:Int)<=30)=false:=dcF (by omega)
  rw [d1,dcF a1]
  rfl
theorem Xz:Af prog 105 (Ent.rd1 JT).F:=by
 refine Bc (kc func125 Dl (kc func142 X0 (kc func143 Ael KnowsL.nil))).knows (Λ:=Ab []) func105 (c:=f105.body.getD .skip) (by kernel_rfl) fun vs bs r hq hv hb=>?_
 unfold Ent.F JT at hq
 dsimp only at hq
 split at hq
 ·rename_i l
  obtain ⟨hc,hx⟩:=Ad hq
  rw [anE] at hc
  exact ⟨Ak _,(So l (of_decide_eq_true hc.1) hc.2).trans hx⟩
 ·cases hq
theorem Aeu:Af prog 124 (Ent.rd1 Jx).F:=by
 refine Ae (kc func105 Xz KnowsL.nil).knows (Λ:=Ab []) func124 (c:=f124.body.getD .skip) (by kernel_rfl) fun vs bs r hq hv hb=>?_
 unfold Ent.F Jx at hq
 dsimp only at hq
 split at hq
 ·rename_i l
  obtain ⟨hc,hx⟩:=Ad hq
  refine ⟨Ak _,Eq.trans ?_ hx⟩
  have e:Ax prog (Ab [(105,.rd1 JT)]) (Ab []) f124 [.agg [.sl TCd l]] []=((ifT (decide (l.length<=4000000000)&&nmL l) (ifB (Bf l) (some (V.b true,[])) (some (V.b false,[])))):_):=by kernel_rfl
  rw [e,Aa hc]
  cases Bf l<;>rfl
 ·cases hq
def CV (k:Int):Nat->List Ty->List Int
 | _,[]=>[]
 | i,x::l=>if x.2.2.2.2.1=k then (i:Int)::CV k (i+1) l else CV k (i+1) l
def By (l:List Ty) (k:Nat):List Int:=CV k (k+1) (l.drop (k+1))
def t2 (l:List Ty):Nat->Nat->Rose Lab
 | 0,k=>.node (A5 l k) []
 | f+1,k=>.node (A5 l k) ((By l k).map fun i=>t2 l f i.toNat)
def t2L (l:List Ty) (k:Nat):Rose Lab:=t2 l l.length k
def DD:LoopEnt:=⟨29,[1,2,5,6],[5],[],fun
 | ([.i .i64 k,.ptr 0 0,.ref 1 0 n,.i .i64 i],[some (.box [.sl TCd l]),some (.row false none (.int .i64) o)])=>.need (decide (0<=i/\i.toNat<=l.length/\l.length<=4000000000/\n=o.length/\o.length<=i.toNat)) (.leaf (.exit 0,([.ref 0 0 (o++CV k i.toNat (l.drop i.toNat)).length],[some (.row false none (.int .i64) (o++CV k i.toNat (l.drop i.toNat)))])))
 | _=>.no⟩
def JS:Gm
 | [.agg [.sl TCd l],.i .i64 k],[]=>.need (decide (0<=k/\k.toNat<l.length/\l.length<=4000000000)) (.leaf (.ref 0 0 (By l k.toNat).length,[some (.row false none (.int .i64) (By l k.toNat))]))
 | _,_=>.no
def ET (n:Nat):Gm
 | [.agg [.sl TCd l],.i .i64 k],[]=>.need (decide (0<=k/\k.toNat<l.length/\l.length<=4000000000/\l.length-k.toNat<=n)) (.leaf (.agg [.i .i64 (t2L l k.toNat).lab.1,.s (t2L l k.toNat).lab.2.1,.i .i64 (t2L l k.toNat).lab.2.2.1,.b (t2L l k.toNat).lab.2.2.2.1,.i .i64 (t2L l k.toNat).lab.2.2.2.2.1,.ref 0 0 (t2L l k.toNat).kids.length],[some (.row false none (.rose LCd) (t2L l k.toNat).kids)]))
 | _,_=>.no
def HG:Gm
 | [.agg [.sl TCd l],.i .i64 k],[]=>.need (decide (0<=k/\k.toNat<l.length/\l.length<=4000000000)) (.leaf (.agg [.i .i64 (t2L l k.toNat).lab.1,.s (t2L l k.toNat).lab.2.1,.i .i64 (t2L l k.toNat).lab.2.2.1,.b (t2L l k.toNat).lab.2.2.2.1,.i .i64 (t2L l k.toNat).lab.2.2.2.2.1,.ref 0 0 (t2L l k.toNat).kids.length],[some (.row false none (.rose LCd) (t2L l k.toNat).kids)]))
 | _,_=>.no
def DC (n:Nat):LoopEnt:=⟨43,[2,4,6,27,28,29],[4,6],[],fun
 | ([.ptr 0 0,.ptr 1 0,.ptr 2 0,.ref 3 0 p,.i .i64 m,.i .i64 i],[some (.box [.sl TCd l]),some (.box [.i .i64 0,.s [],.i .i64 0,.b false,.i .i64 0,.ref 4 0 0]),some (.box [.i .i64 x0,.s x1,.i .i64 x2,.b x3,.i .i64 x4,.ref 5 0 k]),some (.row false none (.int .i64) q),some (.row false none (.rose LCd) []),some (.row false none (.rose LCd) ks)])=>.need (decide (0<=i/\i.toNat<=q.length/\m=q.length/\p=q.length/\k=ks.length/\ks.length<=i.toNat/\q.length<=4000000000/\l.length<=4000000000)&&(q.all fun i:Int=>decide (0<=i/\i.toNat<l.length/\l.length-i.toNat<=n))) (.leaf (.exit 0,([.ptr 0 0,.ptr 1 0],[some (.box [.i .i64 0,.s [],.i .i64 0,.b false,.i .i64 0,.ref 2 0 0]),some (.box [.i .i64 x0,.s x1,.i .i64 x2,.b x3,.i .i64 x4,.ref 3 0 (ks++(q.drop i.toNat).map fun i=>t2L l i.toNat).length]),some (.row false none (.rose LCd) []),some (.row false none (.rose LCd) (ks++(q.drop i.toNat).map fun i=>t2L l i.toNat))])))
 | _=>.no⟩
theorem MY {k:Int} : ∀ {l:List Ty} {i:Nat} {x:Int},x∈CV k i l->∃ j:Nat,x=(j:Int)/\i<=j/\j<i+l.length
 | [],i,x,h=>by simp [CV] at h
 | y::l,i,x,h=>by
  rw [CV] at h
  have rest:x∈CV k (i+1) l->∃ j:Nat,x=(j:Int)/\i<=j/\j<i+(y::l).length:=fun h=>by
   obtain ⟨j,h1,h2,h3⟩:=MY h
   exact ⟨j,h1,by omega,by simp; omega⟩
  split at h
  ·rcases mem_cons.1 h with rfl | h
   ·exact ⟨i,rfl,Nat.le_refl _,by simp⟩
   ·exact rest h
  ·exact rest h
theorem Hf {l:List Ty} {k:Nat} {x:Int} (h:x∈By l k) : ∃ j:Nat,x=(j:Int)/\k<j/\j<l.length:=by
 obtain ⟨j,h1,h2,h3⟩:=MY h
 rw [List.length_drop] at h3
 exact ⟨j,h1,by omega,by omega⟩
theorem MZ (k:Int) : ∀ (l:List Ty) (i:Nat),(CV k i l).length<=l.length
 | [],i=>Nat.le_refl _
 | y::l,i=>by
  rw [CV]
  have:=MZ k l (i+1)
  split<;>simp<;>omega
theorem Td (l:List Ty) : ∀ (f f' k:Nat),l.length-k<=f->l.length-k<=f'->k<l.length->t2 l f k=t2 l f' k
 | 0,f',k,h1,_,h=>by omega
 | f+1,0,k,_,h1,h=>by omega
 | f+1,f'+1,k,h1,h2,h=>by
  unfold t2
  congr 1
  refine List.map_congr_left fun x hx=>?_
  obtain ⟨j,rfl,h3,h4⟩:=Hf hx
  exact Td l f f' _ (by simp; omega) (by simp; omega) (by simpa using h4)
theorem Aap {l:List Ty} {k:Nat} (h:k<l.length):t2L l k = .node (A5 l k) ((By l k).map fun i=>t2L l i.toNat):=by
 obtain ⟨m,hm⟩ : ∃ m,l.length=m+1:=⟨l.length-1,by omega⟩
 unfold t2L
 conv=>lhs; rw [hm]
 rw [t2]
 congr 1
 refine List.map_congr_left fun x hx=>?_
 obtain ⟨j,rfl,h3,h4⟩:=Hf hx
 exact Td l m l.length _ (by simp; omega) (by simp) (by simpa using h4)
theorem HI (l:List Ty) (k:Int) (n:Nat) (i:Int) (o:List Int):Av prog (Ab []) (Ab [(3,DD)]) 0 (body f156 0) DD ([.j k,.ptr 0 0,.ref 1 0 n,.j i],[some (.box [.sl TCd l]),some (.row false none (.int .i64) o)]) =
 ((ifB (decide (i<(↑l.length:Int))) (ifT (decide ((0:Int)<=i)&&decide (i<(↑l.length:Int))) (Ai l[i.toNat]? fun z=>ifB (z.snd.snd.snd.snd.fst==k) (ifT
 (decide ((n+1)*8<=140737488355328)&&decide (n+1<=maxI)) (some (Ex.normal,[V.j k,V.ptr 0 0,V.ref 1 0 (n+1),V.i
 .i64 (i64.wrap (i+(1:Int)))],[some (Blk.box [V.sl TCd l]),some (Blk.row false none (Cd.int .i64) (take n (drop 0 o)++i::Aj (Cd.int
 .i64).den))]))) (some (Ex.normal,[V.j k,V.ptr 0 0,V.ref 1 0 n,V.j (i64.wrap (i+(1:Int)))],[some (Blk.box [V.sl TCd l]),some (Blk.row false
 none (Cd.int .i64) o)])))) (some (Ex.exit 0,[V.ref 0 0 n],[some (Blk.row false none (Cd.int .i64) o)]))):_):=by kernel_rfl
theorem FG (l:List Ty) (k:Int) (hl:l.length<=4000000000) : ∀ (j i:Nat) (o:List Int),i+j=l.length->o.length<=i->
  Runs prog (Ab []) (Ab [(3,DD)]) 0 (body f156 0) DD ([.j k,.ptr 0 0,.ref 1 0 o.length,.j (i:Int)],[some (.box [.sl TCd l]),some (.row false none (.int .i64) o)]) (.exit 0) ([.ref 0 0 (o++CV k i (l.drop i)).length],[some (.row false none (.int .i64) (o++CV k i (l.drop i)))])
 | 0,i,o,hi,ho=>by
  have hr:=HI l k o.length i o
  rw [Ac (dcF (by omega))] at hr
  rw [drop_eq_nil_of_le (by omega),CV,append_nil]
  exact .stop _ _ _ hr (by simp)
 | j+1,i,o,hi,ho=>by
  have h1:i<l.length:=by omega
  have hM:maxI=9223372036854775807:=rfl
  have hr:=HI l k o.length i o
  rw [Ag (dcT (by omega)),Aa (by simp only [anE,dcE]; omega)] at hr
  simp only [ntN,gtE h1,Am,Ap (n:=i) (by omega),drop_zero,take_length] at hr
  rw [drop_eq_getElem_cons h1,CV]
  by_cases h2:l[i].2.2.2.2.1=k
  ·rw [Ag (by rw [h2]; exact beq_self_eq_true _),Aa (by simp only [anE,dcE]; omega)] at hr
   rw [if_pos h2]
   have ih:=FG l k hl j (i+1) (o++[(i:Int)]) (by omega) (by simp; omega)
   rw [append_assoc] at ih
   exact .step _ _ _ _ (hr.trans (by simp)) ih
  ·rw [Ac (beq_false_of_ne h2)] at hr
   rw [if_neg h2]
   exact .step _ _ _ _ hr (FG l k hl j (i+1) o (by omega) (by omega))
theorem UH:Ar prog (Ab []) (Ab [(3,DD)]) 0 (f156.body.getD .skip):=by
 refine An (a:=body f156 0) (by kernel_rfl) fun d ex d' h=>?_
 unfold DD at h
 dsimp only at h
 split at h
 ·rename_i k n i l o
  obtain ⟨hc,hx⟩:=Ad h
  clear h
  obtain ⟨h0,h1,h2,rfl,h4⟩:=of_decide_eq_true hc
  obtain ⟨i,rfl⟩:=eq_ofNat_of_zero_le h0
  simp only [ntN] at h1 h4 hx
  have h8:=Ao hx
  obtain ⟨rfl,rfl⟩:=Prod.mk.inj h8
  exact FG l k h2 (l.length-i) i o (by omega) h4
 ·cases h
theorem Sj (l:List Ty) (k:Int) (hc:0<=k/\k.toNat<l.length/\l.length<=4000000000):DH prog (Ab []) (Ab [(3,DD)]) f156 [.agg [.sl TCd l],.j k] []=some (.ref 0 0 (By l k.toNat).length,[some (.row false none (.int .i64) (By l k.toNat))]):=by
 have e:DH prog (Ab []) (Ab [(3,DD)]) f156 [.agg [.sl TCd l],.j k] []=((ifT (decide ((0:Int)<=i64.wrap (k+(1:Int))/\(i64.wrap (k+(1:Int))).toNat<=l.length/\l.length<=4000000000/\0=0/\
 0<=(i64.wrap (k+(1:Int))).toNat)) (some (V.ref 0 0 (Aj (Cd.int .i64).den++CV k (i64.wrap (k+(1:Int))).toNat (drop
 (i64.wrap (k+(1:Int))).toNat l)).length,[some (Blk.row false none (Cd.int .i64) (Aj (Cd.int .i64).den++CV k (i64.wrap (k+(1:Int))).toNat
 (drop (i64.wrap (k+(1:Int))).toNat l)))]))):_):=by kernel_rfl
 rw [e]
 clear e
 obtain ⟨h0,h1,h2⟩:=hc
 obtain ⟨k,rfl⟩:=eq_ofNat_of_zero_le h0
 rw [ntN] at h1
 have hM:maxI=9223372036854775807:=rfl
 rw [Ap (n:=k) (by omega),Aa (dcT ⟨by omega,by omega,h2,by simp,by simp⟩)]
 simp only [ntN,AN,List.nil_append]
 rfl
theorem Xt:Af prog 156 (Ent.rd1 JS).F:=by
 refine Bc KnowsL.nil.knows (Λ:=(Ab [(3,DD)])) func156 (c:=f156.body.getD .skip) (by kernel_rfl) fun vs bs r hq hv hb=>?_
 unfold Ent.F JS at hq
 dsimp only at hq
 split at hq
 ·rename_i l k
  obtain ⟨hc,hx⟩:=Ad hq
  exact ⟨UH,(Sj l k (of_decide_eq_true hc)).trans hx⟩
 ·cases hq
abbrev Yx (n:Nat):FuncId->Option Ent:=Ab [(156,.rd1 JS),(119,.rd1 (ET n))]
theorem HF (n:Nat) (l:List Ty) (x0:Int) (x1:List UInt8) (x2:Int) (x3:Bool) (x4:Int) (p:Nat) (m i:Int) (k:Nat) (q:List Int) (ks:List (Rose Lab)):Av prog (Yx n) (Ab [(4,DC n)]) 0 (body f119 0) (DC n) ([.ptr 0 0,.ptr 1 0,.ptr 2 0,.ref 3 0 p,.j m,.j i],[some (.box [.sl TCd l]),some (.box [.j 0,.s [],.j 0,.b false,.j 0,.ref 4 0 0]),some (.box [.j x0,.s x1,.j x2,.b x3,.j x4,.ref 5 0 k]),some (.row false none (.int .i64) q),some (.row false none (.rose LCd) []),some (.row false none (.rose LCd) ks)]) =
 ((shr (Aj LCd.rose.den) fun sh1=>ifB (decide (i<m)) (ifT (decide ((0:Int)<=i)&&decide (i<(↑p:Int))) (Ai q[0+i.toNat]? fun z=>ifT (decide ((0 :
 Int)<=z/\toNat z<l.length/\l.length<=4000000000/\l.length-toNat z<=n)) (ifT (decide ((k+1)*72<=140737488355328)&&
 decide (k+1<=maxI)) (some (Ex.normal,[V.ptr 0 0,V.ptr 1 0,V.ptr 2 0,V.ref 3 0 p,V.j m,V.j (i64.wrap (i+(1:Int)))],[some (Blk.box
 [V.sl TCd l]),some (Blk.box [V.j 0,V.s (Aj UInt8),V.j 0,V.b false,V.j 0,V.ref 4 0 0]),some (Blk.box [V.j x0,V.s x1,V.j x2,V.b x3,V.i
 .i64 x4,V.ref 5 0 (k+1)]),some (Blk.row false none (Cd.int .i64) q),some (Blk.row false none LCd.rose sh1),some (Blk.row false none LCd.rose (take k
 (drop 0 ks)++Rose.node ((t2L l (toNat z)).lab.fst,(t2L l (toNat z)).lab.snd.fst,(t2L l (toNat z)).lab.snd.snd.fst,(t2L l (toNat
 z)).lab.snd.snd.snd.fst,(t2L l (toNat z)).lab.snd.snd.snd.snd.fst,()) (take (t2L l (toNat z)).kids.length (drop 0 (t2L l (toNat z)).kids))
 :: sh1))]))))) (some (Ex.exit 0,[V.ptr 0 0,V.ptr 1 0],[some (Blk.box [V.j 0,V.s (Aj UInt8),V.j 0,V.b false,V.j 0,V.ref 2 0 0]),some (Blk.box
 [V.j x0,V.s x1,V.j x2,V.b x3,V.j x4,V.ref 3 0 k]),some (Blk.row false none LCd.rose sh1),some (Blk.row false none LCd.rose ks)]))):_):=by kernel_rfl
theorem PV (n:Nat) (l:List Ty) (k:Int):DH prog (Yx n) (Ab [(4,DC n)]) f119 [.agg [.sl TCd l],.j k] [] =
 ((ifT (decide ((0:Int)<=k)&&decide (k<(↑l.length:Int))) (Ai l[k.toNat]? fun z=>ifT (decide ((0:Int)<=k/\k.toNat<l.length/\l.length<=(4000000000 :
 Nat))) (ifT (decide ((0:Int)<=(0:Int)/\0<=(By l k.toNat).length/\(↑(By l k.toNat).length:Int)=(↑(By l k.toNat).length:Int)/\(By l
 k.toNat).length=(By l k.toNat).length/\0=0/\0<=0/\(By l k.toNat).length<=4000000000/\l.length<=(4000000000 :
 Nat))&&(By l k.toNat).all fun i=>decide ((0:Int)<=i/\i.toNat<l.length/\l.length-i.toNat<=n)) (some (V.agg [V.j z.fst,V.s z.snd.fst,V.i .i64
 z.snd.snd.fst,V.b z.snd.snd.snd.fst,V.j z.snd.snd.snd.snd.snd.fst,V.ref 0 0 (Aj LCd.rose.den++List.map (fun i=>t2L l (toNat i)) (drop 0
 (By l k.toNat))).length],[some (Blk.row false none LCd.rose (Aj LCd.rose.den++List.map (fun i=>t2L l (toNat i)) (drop 0 (By l
 k.toNat))))]))))):_):=by kernel_rfl
theorem Jn (n:Nat) (l:List Ty) (x0:Int) (x1:List UInt8) (x2:Int) (x3:Bool) (x4:Int) (q:List Int) (hl:l.length<=4000000000) (hq:q.length<=4000000000) (hs:(q.all fun i:Int=>decide (0<=i/\i.toNat<l.length/\l.length-i.toNat<=n))=true) : ∀ (j i:Nat) (ks:List (Rose Lab)),i+j=q.length->ks.length<=i->
  Runs prog (Yx n) (Ab [(4,DC n)]) 0 (body f119 0) (DC n) ([.ptr 0 0,.ptr 1 0,.ptr 2 0,.ref 3 0 q.length,.j (q.length:Int),.j (i:Int)],[some (.box [.sl TCd l]),some (.box [.j 0,.s [],.j 0,.b false,.j 0,.ref 4 0 0]),some (.box [.j x0,.s x1,.j x2,.b x3,.j x4,.ref 5 0 ks.length]),some (.row false none (.int .i64) q),some (.row false none (.rose LCd) []),some (.row false none (.rose LCd) ks)]) (.exit 0) ([.ptr 0 0,.ptr 1 0],[some (.box [.j 0,.s [],.j 0,.b false,.j 0,.ref 2 0 0]),some (.box [.j x0,.s x1,.j x2,.b x3,.j x4,.ref 3 0 (ks++(q.drop i).map fun i=>t2L l i.toNat).length]),some (.row false none (.rose LCd) []),some (.row false none (.rose LCd) (ks++(q.drop i).map fun i=>t2L l i.toNat))])
 | 0,i,ks,hi,hk=>by
  have hr:=HF n l x0 x1 x2 x3 x4 q.length q.length i ks.length q ks
  dsimp only [shr] at hr
  rw [Ac (dcF (by omega))] at hr
  rw [drop_eq_nil_of_le (by omega),List.map_nil,append_nil]
  exact .stop _ _ _ hr (by simp)
 | j+1,i,ks,hi,hk=>by
  have h1:i<q.length:=by omega
  have hM:maxI=9223372036854775807:=rfl
  have hr:=HF n l x0 x1 x2 x3 x4 q.length q.length i ks.length q ks
  dsimp only [shr] at hr
  have hz:=of_decide_eq_true (all_eq_true.1 hs _ (getElem_mem h1))
  rw [Ag (dcT (by omega)),Aa (by simp only [anE,dcE]; omega)] at hr
  simp only [ntN,Nat.zero_add,gtE h1,Am,Ap (n:=i) (by omega),drop_zero,take_length] at hr
  rw [Aa (dcT ⟨hz.1,hz.2.1,hl,hz.2.2⟩),Aa (by simp only [anE,dcE]; omega)] at hr
  have ht:=K6 (t2L l q[i].toNat)
  rw [drop_zero,take_length] at ht
  rw [ht] at hr
  rw [drop_eq_getElem_cons h1,List.map_cons]
  have ih:=Jn n l x0 x1 x2 x3 x4 q hl hq hs j (i+1) (ks++[t2L l q[i].toNat]) (by omega) (by simp; omega)
  rw [append_assoc] at ih
  exact .step _ _ _ _ (hr.trans (by simp)) ih
theorem UF (n:Nat):Ar prog (Yx n) (Ab [(4,DC n)]) 0 (f119.body.getD .skip):=by
 refine An (a:=body f119 0) (by kernel_rfl) fun d ex d' h=>?_
 unfold DC at h
 dsimp only at h
 split at h
 ·rename_i p m i l x0 x1 x2 x3 x4 k q ks
  obtain ⟨hc,hx⟩:=Ad h
  clear h
  rw [anE] at hc
  obtain ⟨hc,hs⟩:=hc
  obtain ⟨h0,h1,rfl,rfl,rfl,h5,h6,h7⟩:=of_decide_eq_true hc
  obtain ⟨i,rfl⟩:=eq_ofNat_of_zero_le h0
  simp only [ntN] at h1 h5 hx
  have h8:=Ao hx
  obtain ⟨rfl,rfl⟩:=Prod.mk.inj h8
  exact Jn n l x0 x1 x2 x3 x4 q h7 h6 hs (q.length-i) i ks (by omega) h5
 ·cases h
theorem Sf (n:Nat) (l:List Ty) (k:Int) (hc:0<=k/\k.toNat<l.length/\l.length<=4000000000/\l.length-k.toNat<=n+1):DH prog (Yx n) (Ab [(4,DC n)]) f119 [.agg [.sl TCd l],.j k] []=some (.agg [.j (t2L l k.toNat).lab.1,.s (t2L l k.toNat).lab.2.1,.j (t2L l k.toNat).lab.2.2.1,.b (t2L l k.toNat).lab.2.2.2.1,.j (t2L l k.toNat).lab.2.2.2.2.1,.ref 0 0 (t2L l k.toNat).kids.length],[some (.row false none (.rose LCd) (t2L l k.toNat).kids)]):=by
 rw [PV]
 obtain ⟨h0,h1,h2,h3⟩:=hc
 obtain ⟨k,rfl⟩:=eq_ofNat_of_zero_le h0
 rw [ntN] at h1 h3
 have hkl:=MZ (k:Int) (l.drop (k+1)) (k+1)
 rw [List.length_drop] at hkl
 have hkl2:(By l k).length<=l.length-(k+1):=hkl
 rw [Aa (by simp only [anE,dcE]; omega)]
 simp only [ntN,gtE h1,Am]
 rw [Aa (dcT ⟨by omega,h1,h2⟩)]
 have hall:((By l k).all fun i:Int=>decide (0<=i/\i.toNat<l.length/\l.length-i.toNat<=n))=true:=all_eq_true.2 fun x hx=>by
  obtain ⟨j,rfl,h5,h6⟩:=Hf hx
  exact dcT ⟨by omega,by simpa using h6,by simp; omega⟩
 rw [Aa (by rw [anE]; exact ⟨dcT ⟨by omega,by simp,by simp,by simp,by simp,by simp,by omega,h2⟩,hall⟩)]
 have hlab:A5 l k=(l[k].1,l[k].2.1,l[k].2.2.1,l[k].2.2.2.1,l[k].2.2.2.2.2.1,()):=by unfold A5; rw [gtE h1]
 rw [Aap h1,hlab]
 simp [Rose.lab,Rose.kids]
theorem Sg : ∀ n,(∀ m,m<n->Af prog 119 (Ent.rd1 (ET m)).F)->Af prog 119 (Ent.rd1 (ET n)).F
 | 0,_=>BD fun vs bs=>by
  unfold Ent.F ET
  dsimp only
  split
  ·rename_i l a
   have:decide (0<=a/\a.toNat<l.length/\l.length<=4000000000/\l.length-a.toNat<=0)=false:=dcF (by omega)
   rw [this]; rfl
  ·rfl
 | n+1,ih=>by
  refine Bc (kc func156 Xt (kc func119 (ih n (lt_succ_self n)) KnowsL.nil)).knows (Λ:=(Ab [(4,DC n)])) func119 (c:=f119.body.getD .skip) (by kernel_rfl) fun vs bs r hq hv hb=>?_
  unfold Ent.F ET at hq
  dsimp only at hq
  split at hq
  ·rename_i l a
   obtain ⟨hc,hx⟩:=Ad hq
   exact ⟨UF n,(Sf n l a (of_decide_eq_true hc)).trans hx⟩
  ·cases hq
theorem Sh:Af prog 119 (Ent.rd1 HG).F:=by
 refine C5 (F:=fun n=>(Ent.rd1 (ET n)).F) Sg fun vs bs r h=>?_
 unfold Ent.F HG at h
 dsimp only at h
 split at h
 ·rename_i l a
  obtain ⟨hc,hx⟩:=Ad h
  obtain ⟨h0,h1,h2⟩:=of_decide_eq_true hc
  refine ⟨l.length,?_⟩
  unfold Ent.F ET
  dsimp only
  have:decide (0<=a/\a.toNat<l.length/\l.length<=4000000000/\l.length-a.toNat<=l.length)=true:=dcT ⟨h0,h1,h2,by omega⟩
  rw [this]
  exact hx
 ·cases h
def In (n:Nat):Gm
 | [.agg [.i .i64 z0,.s _,.i .i64 _,.b _,.i .i64 _,.sl (.rose LCd) zs]],[]=>.need (decide (A1 zs+1<=n/\A1 zs+1<=1000000)) (.leaf (.i .i64 ((Cg zs+(bif AH z0 then 1 else 0):Nat):Int),[]))
 | _,_=>.no
def RF:Gm
 | [.agg [.i .i64 z0,.s _,.i .i64 _,.b _,.i .i64 _,.sl (.rose LCd) zs]],[]=>.need (decide (A1 zs+1<=1000000)) (.leaf (.i .i64 ((Cg zs+(bif AH z0 then 1 else 0):Nat):Int),[]))
 | _,_=>.no
def EN (n:Nat):LoopEnt:=⟨27,[1,3,8,9,10],[1,3],[],fun
 | ([.ptr 0 0,.i .i64 m,.sl (.rose LCd) ks,.i .i64 k,.i .i64 i],[some (.box [.i .i64 y0,.s y1,.i .i64 y2,.b y3,.i .i64 y4,.sl (.rose LCd) ys])])=>.need (decide (0<=m/\m<=1000001/\0<=i/\i.toNat<=ks.length/\k=ks.length/\A1 ks<=n/\A1 ks<=1000000)) (.leaf (.exit 0,([.ptr 0 0,.i .i64 ((max m.toNat (Cg (ks.drop i.toNat)):Nat):Int)],[some (.box [.i .i64 y0,.s y1,.i .i64 y2,.b y3,.i .i64 y4,.sl (.rose LCd) ys])])))
 | _=>.no⟩
def D1 (l:List Ty) (u:Int):Nat->Int->Bool
 | 0,_=>false
 | f+1,x=>if x<0 then false else if x=u then true else match AY l x.toNat with | some v=>D1 l u f v | none=>false
def CR (l:List Ty) (i:Nat):Bool:=(range i).all fun j=>match AY l j with | some v=>decide (v<(j:Int)) | none=>false
def DM (l:List Ty) (i:Nat):Bool:=match AY l i with | some u=>D1 l u (i+1) ((i:Int)-1) | none=>false
def I2:Gm
 | [.sl TCd l,.i .i64 i],[]=>.need (decide (0<=i/\i.toNat<l.length/\l.length<=4000000000)&&CR l i.toNat) (.leaf (.b (DM l i.toNat),[]))
 | _,_=>.no
def Cz:LoopEnt:=⟨22,[0,1,5],[],[4],fun
 | ([.sl TCd l,.i .i64 i,.i .i64 x],[])=>.need (decide (0<=i/\i.toNat<l.length/\l.length<=4000000000/\x<i)&&CR l i.toNat) (.opt (.int .i64) (AY l i.toNat) fun u=>.br (D1 l u (x+1).toNat x) (.leaf (.ret,([.b true],[]))) (.leaf (.exit 0,([],[]))))
 | _=>.no⟩
theorem MH (z:Rose Lab):Cg z.kids+(bif AH z.lab.1 then 1 else 0)=BH z:=by cases z; rw [BH]; rfl
abbrev Yw (n:Nat):FuncId->Option Ent:=Ab [(157,.rd1 (In n)),(193,.rd1 HJ)]
theorem Jg (n:Nat) (y0:Int) (y1:List UInt8) (y2:Int) (y3:Bool) (y4:Int) (ys:List (Rose Lab)) (m:Int) (ks:List (Rose Lab)) (k i:Int):Av prog (Yw n) (Ab [(3,EN n)]) 0 (body f157 0) (EN n) ([.ptr 0 0,.j m,.sl (.rose LCd) ks,.j k,.j i],[some (.box [.j y0,.s y1,.j y2,.b y3,.j y4,.sl (.rose LCd) ys])]) =
 ((ifB (decide (i<k)) (ifT (decide ((0:Int)<=i)&&decide (i<(↑ks.length:Int))) (Ai ks[i.toNat]? fun z=>ifT (decide (A1 (Rose.kids z)+1<=n/\A1
 (Rose.kids z)+1<=1000000)) (ifB (decide ((↑(Cg (Rose.kids z)+bif AH (Rose.lab z).fst then 1 else 0):Int)>m)) (some
 (Ex.normal,[V.ptr 0 0,V.j (↑(Cg (Rose.kids z)+bif AH (Rose.lab z).fst then 1 else 0):Int),V.sl LCd.rose ks,V.j k,V.i .i64
 (i64.wrap (i+(1:Int)))],[some (Blk.box [V.j y0,V.s y1,V.j y2,V.b y3,V.j y4,V.sl LCd.rose ys])])) (some (Ex.normal,[V.ptr 0 0,V.i .i64
 m,V.sl LCd.rose ks,V.j k,V.j (i64.wrap (i+(1:Int)))],[some (Blk.box [V.j y0,V.s y1,V.j y2,V.b y3,V.j y4,V.sl LCd.rose
 ys])]))))) (some (Ex.exit 0,[V.ptr 0 0,V.j m],[some (Blk.box [V.j y0,V.s y1,V.j y2,V.b y3,V.j y4,V.sl LCd.rose ys])]))):_):=by kernel_rfl
theorem RE (n:Nat) (z0:Int) (z1:List UInt8) (z2:Int) (z3:Bool) (z4:Int) (zs:List (Rose Lab)):Ax prog (Yw n) (Ab [(3,EN n)]) f157 [.agg [.j z0,.s z1,.j z2,.b z3,.j z4,.sl (.rose LCd) zs]] [] =
 ((ifT (decide ((0:Int)<=(0:Int)/\(0:Int)<=(1000001:Int)/\(0:Int)<=(0:Int)/\0<=zs.length/\(↑zs.length:Int)=(↑zs.length:Int)/\A1 zs<=n/\
 A1 zs<=1000000)) (ifB (AH z0) (some (V.j (i64.wrap ((↑(max 0 (Cg (drop 0 zs))):Int)+(1:Int))),[])) (some (V.i
 .i64 (↑(max 0 (Cg (drop 0 zs))):Int),[])))):_):=by kernel_rfl
theorem K3 (n:Nat) (y0:Int) (y1:List UInt8) (y2:Int) (y3:Bool) (y4:Int) (ys:List (Rose Lab)) (ks:List (Rose Lab)) (h1:A1 ks<=n) (h2:A1 ks<=1000000) : ∀ (j i m:Nat),i+j=ks.length->m<=1000001->
  Runs prog (Yw n) (Ab [(3,EN n)]) 0 (body f157 0) (EN n) ([.ptr 0 0,.j (m:Int),.sl (.rose LCd) ks,.j (ks.length:Int),.j (i:Int)],[some (.box [.j y0,.s y1,.j y2,.b y3,.j y4,.sl (.rose LCd) ys])]) (.exit 0) ([.ptr 0 0,.j ((max m (Cg (ks.drop i)):Nat):Int)],[some (.box [.j y0,.s y1,.j y2,.b y3,.j y4,.sl (.rose LCd) ys])])
 | 0,i,m,hi,hm=>by
  have hr:=Jg n y0 y1 y2 y3 y4 ys m ks ks.length i
  rw [Ac (dcF (by omega))] at hr
  have e1:ks.drop i=[]:=drop_eq_nil_of_le (by omega)
  rw [e1,Cg]
  exact .stop _ _ _ (hr.trans (by simp)) (by simp)
 | j+1,i,m,hi,hm=>by
  have hl:i<ks.length:=by omega
  have hM:maxI=9223372036854775807:=rfl
  have hr:=Jg n y0 y1 y2 y3 y4 ys m ks ks.length i
  have hmem:=Cb (getElem_mem hl)
  have hlen:=C6 ks
  have hdm:=If ks[i]
  have hck:=Cp ks[i]
  rw [Ag (dcT (by omega)),Aa (by simp only [anE,dcE]; omega)] at hr
  simp only [ntN,gtE hl,Am,Ap (n:=i) (by omega)] at hr
  rw [Aa (dcT ⟨by omega,by omega⟩)] at hr
  simp only [MH] at hr
  rw [drop_eq_getElem_cons hl,Cg]
  have ih:=K3 n y0 y1 y2 y3 y4 ys ks h1 h2 j (i+1) (max m (BH ks[i])) (by omega) (by omega)
  rw [<-Nat.max_assoc]
  by_cases hx:(BH ks[i]:Int)>(m:Int)
  ·rw [Ag (dcT hx)] at hr
   have hmx:max m (BH ks[i])=BH ks[i]:=by omega
   exact .step _ _ _ _ (hr.trans (by rw [hmx])) ih
  ·rw [Ac (dcF hx)] at hr
   have hmx:max m (BH ks[i])=m:=by omega
   exact .step _ _ _ _ (hr.trans (by rw [hmx])) ih
theorem W0 (n:Nat):Ar prog (Yw n) (Ab [(3,EN n)]) 0 (f157.body.getD .skip):=by
 refine An (a:=body f157 0) (by kernel_rfl) fun d ex d' h=>?_
 unfold EN at h
 dsimp only at h
 split at h
 ·rename_i m ks k i y0 y1 y2 y3 y4 ys
  obtain ⟨hc,hx⟩:=Ad h
  clear h
  obtain ⟨h0,h1,h2,h3,rfl,h5,h6⟩:=of_decide_eq_true hc
  obtain ⟨m,rfl⟩:=eq_ofNat_of_zero_le h0
  obtain ⟨i,rfl⟩:=eq_ofNat_of_zero_le h2
  simp only [ntN] at h3 hx
  have h8:=Ao hx
  obtain ⟨rfl,rfl⟩:=Prod.mk.inj h8
  exact K3 n y0 y1 y2 y3 y4 ys ks h5 h6 (ks.length-i) i m (by omega) (by omega)
 ·cases h
theorem Ut (n:Nat) (z0:Int) (z1:List UInt8) (z2:Int) (z3:Bool) (z4:Int) (zs:List (Rose Lab)) (hc:A1 zs+1<=n+1/\A1 zs+1<=1000000):Ax prog (Yw n) (Ab [(3,EN n)]) f157 [.agg [.j z0,.s z1,.j z2,.b z3,.j z4,.sl (.rose LCd) zs]] []=some (.j ((Cg zs+(bif AH z0 then 1 else 0):Nat):Int),[]):=by
 rw [RE]
 obtain ⟨h1,h2⟩:=hc
 have hdp:=Gx zs
 rw [Aa (dcT (by refine ⟨by omega,by omega,by omega,by simp,by trivial,by omega,by omega⟩))]
 simp only [drop_zero,Nat.zero_max]
 cases hx:AH z0 with
 | true=>rw [Be,Aw (by omega) (by omega)]; simp
 | false=>rw [AS]; simp
theorem Uu : ∀ n,(∀ m,m<n->Af prog 157 (Ent.rd1 (In m)).F)->Af prog 157 (Ent.rd1 (In n)).F
 | 0,_=>BD fun vs bs=>by
  unfold Ent.F In
  dsimp only
  split
  ·rename_i z0 z1 z2 z3 z4 zs
   rw [dcF (show ¬(A1 zs+1<=0/\A1 zs+1<=1000000) by omega)]; rfl
  ·rfl
 | n+1,ih=>by
  refine Ae (kc func157 (ih n (lt_succ_self n)) (kc func193 T4 KnowsL.nil)).knows (Λ:=(Ab [(3,EN n)])) func157 (c:=f157.body.getD .skip) (by kernel_rfl) fun vs bs r hq hv hb=>?_
  unfold Ent.F In at hq
  dsimp only at hq
  split at hq
  ·rename_i z0 z1 z2 z3 z4 zs
   obtain ⟨hc,hx⟩:=Ad hq
   exact ⟨W0 n,(Ut n z0 z1 z2 z3 z4 zs (of_decide_eq_true hc)).trans hx⟩
  ·cases hq
theorem Adz:Af prog 157 (Ent.rd1 RF).F:=by
 refine C5 (F:=fun n=>(Ent.rd1 (In n)).F) Uu fun vs bs r h=>?_
 unfold Ent.F RF at h
 dsimp only at h
 split at h
 ·rename_i z0 z1 z2 z3 z4 zs
  obtain ⟨hc,hx⟩:=Ad h
  have hc:=of_decide_eq_true hc
  refine ⟨1000000,?_⟩
  show (Br.need (decide (A1 zs+1<=1000000/\A1 zs+1<=1000000)) (.leaf (.j ((Cg zs+(bif AH z0 then 1 else 0):Nat):Int),[]))).run=some r
  rw [dcT (show A1 zs+1<=1000000/\A1 zs+1<=1000000 from ⟨hc,hc⟩)]
  exact hx
 ·cases h
theorem Ln (l:List Ty) (i x:Int):Av prog (Ab []) (Ab [(2,Cz)]) 0 (body f194 0) Cz ([.sl TCd l,.j i,.j x],[]) =
 ((ifB (decide (x>=(0:Int))) (ifT (decide ((0:Int)<=i)&&decide (i<(↑l.length:Int))) (Ai l[i.toNat]? fun z=>ifB (x==z.snd.snd.snd.snd.fst) (some (Ex.ret,
 [V.b true],[])) (ifT (decide ((0:Int)<=x)&&decide (x<(↑l.length:Int))) (Ai l[x.toNat]? fun z=>some (Ex.normal,[V.sl TCd l,V.j i,V.i .i64
 z.snd.snd.snd.snd.fst],[]))))) (some (Ex.exit 0,[],[]))):_):=by kernel_rfl
theorem VQ {l:List Ty} {i j:Nat} (h:CR l i=true) (hj:j<i) : ∃ v,AY l j=some v/\v<(j:Int):=by
 have:=all_eq_true.1 h j (mem_range.2 hj)
 cases hu:AY l j with
 | none=>rw [hu] at this; cases this
 | some v=>rw [hu] at this; exact ⟨v,rfl,of_decide_eq_true this⟩
theorem IR {l:List Ty} {i:Nat} (h:CR l i=true) (u:Int) : ∀ (f f':Nat) (x:Int),x<(i:Int)->(x+1).toNat<=f->(x+1).toNat<=f'->D1 l u f x=D1 l u f' x
 | 0,0,x,_,_,_=>rfl
 | 0,f'+1,x,hx,h1,h2=>by rw [D1,D1,if_pos (by omega)]
 | f+1,0,x,hx,h1,h2=>by rw [D1,D1,if_pos (by omega)]
 | f+1,f'+1,x,hx,h1,h2=>by
  rw [D1,D1]
  by_cases a:x<0
  ·rw [if_pos a,if_pos a]
  ·rw [if_neg a,if_neg a]
   by_cases b:x=u
   ·rw [if_pos b,if_pos b]
   ·rw [if_neg b,if_neg b]
    obtain ⟨v,hv,hv2⟩:=VQ h (j:=x.toNat) (by omega)
    rw [hv]
    exact IR h u f f' v (by omega) (by omega) (by omega)
theorem Mj (l:List Ty) (i:Nat) (u:Int) (hi:i<l.length) (_:l.length<=4000000000) (hu:AY l i=some u) (hs:CR l i=true) : ∀ (j:Nat) (x:Int),(x+1).toNat=j->x<(i:Int)->∀ ex d,(Br.br (D1 l u (x+1).toNat x) (.leaf (.ret,([.b true],[]))) (.leaf (.exit 0,([],[]))):Br (Ex×Dt)).run=some (ex,d)->
  Runs prog (Ab []) (Ab [(2,Cz)]) 0 (body f194 0) Cz ([.sl TCd l,.j (i:Int),.j x],[]) ex d:=by
 intro j
 induction j using strongRecOn with
 | ind j ih=>
  intro x hj hx ex d h
  have hr:=Ln l i x
  have h0:l[i].2.2.2.2.1=u:=by unfold AY at hu; rw [gtE hi] at hu; exact Option.some.inj hu
  by_cases a:x<0
  ·rw [Ac (dcF (by omega))] at hr
   have e0:(x+1).toNat=0:=by omega
   rw [e0,D1] at h
   have h8:=Ao h
   obtain ⟨rfl,rfl⟩:=Prod.mk.inj h8
   exact .stop _ _ _ hr (by simp)
  ·rw [Ag (dcT (by omega)),Aa (by simp only [anE,dcE]; omega)] at hr
   simp only [ntN,gtE hi,Am,h0] at hr
   obtain ⟨x,rfl⟩:=eq_ofNat_of_zero_le (by omega:0<=x)
   have e0:((x:Int)+1).toNat=x+1:=by omega
   rw [e0,D1,if_neg (by omega)] at h
   by_cases b:(x:Int)=u
   ·rw [if_pos b] at h
    rw [Ag (by rw [b]; exact beq_self_eq_true _)] at hr
    have h8:=Ao h
    obtain ⟨rfl,rfl⟩:=Prod.mk.inj h8
    exact .stop _ _ _ hr (by simp)
   ·rw [if_neg b] at h
    have hxl:x<l.length:=by omega
    rw [Ac (beq_false_of_ne b),Aa (by simp only [anE,dcE]; omega)] at hr
    simp only [ntN,gtE hxl,Am] at hr
    obtain ⟨v,hv,hv2⟩:=VQ hs (j:=x) (by omega)
    have hv3:l[x].2.2.2.2.1=v:=by unfold AY at hv; rw [gtE hxl] at hv; exact Option.some.inj hv
    rw [ntN,hv] at h
    dsimp only at h
    rw [IR hs u x (v+1).toNat v (by omega) (by omega) (Nat.le_refl _)] at h
    rw [hv3] at hr
    exact .step _ _ _ _ hr (ih (v+1).toNat (by omega) v rfl (by omega) ex d h)
theorem PY:Ar prog (Ab []) (Ab [(2,Cz)]) 0 (f194.body.getD .skip):=by
 refine An (a:=body f194 0) (by kernel_rfl) fun d ex d' h=>?_
 unfold Cz at h
 dsimp only at h
 split at h
 ·rename_i l i x
  obtain ⟨hc,hx⟩:=Ad h
  clear h
  rw [anE] at hc
  obtain ⟨hc,hs⟩:=hc
  obtain ⟨h0,h1,h2,h3⟩:=of_decide_eq_true hc
  obtain ⟨i,rfl⟩:=eq_ofNat_of_zero_le h0
  simp only [ntN] at h1 hs hx
  cases hu:AY l i with
  | some u=>rw [hu] at hx; exact Mj l i u h1 h2 hu hs _ x rfl h3 ex d' hx
  | none=>rw [hu] at hx; cases hx
 ·cases h
theorem O8 (l:List Ty) (i:Int) (hc:0<=i/\i.toNat<l.length/\l.length<=4000000000) (hs:CR l i.toNat=true):Ax prog (Ab []) (Ab [(2,Cz)]) f194 [.sl TCd l,.j i] []=some (.b (DM l i.toNat),[]):=by
 have e:Ax prog (Ab []) (Ab [(2,Cz)]) f194 [.sl TCd l,.j i] []=((ifT (decide ((0:Int)<=i/\i.toNat<l.length/\l.length<=4000000000/\i64.wrap (i-(1:Int))<i)&&CR l i.toNat) (Ai (AY l i.toNat) fun z
 => ifB (D1 l z (i64.wrap (i-(1:Int))+(1:Int)).toNat (i64.wrap (i-(1:Int)))) (some (V.b true,[])) (some (V.b false,[])))):_):=by kernel_rfl
 obtain ⟨h0,h1,h2⟩:=hc
 obtain ⟨i,rfl⟩:=eq_ofNat_of_zero_le h0
 simp only [ntN] at h1 hs
 have hw:i64.wrap ((i:Int)-1)=(i:Int)-1:=Aw (by omega) (by omega)
 obtain ⟨u,hu⟩ : ∃ u,AY l i=some u:=⟨_,by unfold AY; rw [gtE h1]; rfl⟩
 rw [e]
 clear e
 rw [hw]
 simp only [ntN]
 rw [Aa (by rw [anE]; exact ⟨dcT ⟨by omega,h1,h2,by omega⟩,hs⟩)]
 unfold DM
 rw [hu,Am]
 have e2:D1 l u (i+1) ((i:Int)-1)=D1 l u ((i:Int)-1+1).toNat ((i:Int)-1):=IR hs u _ _ _ (by omega) (by omega) (Nat.le_refl _)
 dsimp only
 rw [e2]
 cases D1 l u ((i:Int)-1+1).toNat ((i:Int)-1)<;>rfl
theorem Xu:Af prog 194 (Ent.rd1 I2).F:=by
 refine Ae KnowsL.nil.knows (Λ:=(Ab [(2,Cz)])) func194 (c:=f194.body.getD .skip) (by kernel_rfl) fun vs bs r hq hv hb=>?_
 unfold Ent.F I2 at hq
 dsimp only at hq
 split at hq
 ·rename_i l i
  obtain ⟨hc,hx⟩:=Ad hq
  rw [anE] at hc
  exact ⟨PY,(O8 l i (of_decide_eq_true hc.1) hc.2).trans hx⟩
 ·cases hq
def Uo (u no:Int) (nm:List UInt8) (l:List Ty):Bool:=l.all fun o=>!(o.2.2.2.2.1==u&&(decide (o.2.2.1>=no)||o.2.1==nm))
def DS (l:List Ty) (i:Nat):Bool:=match AY l i with
 | none=>false
 | some u=>decide (0<=u/\u<(i:Int))&&AH (A5 l u.toNat).1&&DM l i&&(if (A5 l u.toNat).1=4 then (A5 l i).2.1==[]&&(A5 l i).2.2.1==0&&!(A5 l i).2.2.2.1
  else FA (A5 l i).2.1&&(decide (1<=(A5 l i).2.2.1)&&decide ((A5 l i).2.2.1<=30))&&Uo u (A5 l i).2.2.1 (A5 l i).2.1 ((l.take i).drop (u.toNat+1)))
def kmB (x:Lab):Bool:=decide (1<=x.1/\x.1<=5)&&(if x.1=3 then decide (0<=x.2.2.2.2.1/\x.2.2.2.2.1<=20) else x.2.2.2.2.1==0)
def okT (l:List Ty) (i:Nat):Bool:=kmB (A5 l i)&&(if i=0 then (A5 l 0).1==5&&decide (AY l 0=some (-1))&&(A5 l 0).2.1==[]&&(A5 l 0).2.2.1==0&&!(A5 l 0).2.2.2.1 else DS l i)
def Et (l:List Ty) (i:Nat):Bool:=!((A5 l i).1==4&&(By l i).length != 1)
def L3 (l:List Ty):Bool:=decide (1<=l.length/\l.length<=30)&&(range l.length).all (okT l)&&(range l.length).all (Et l)&&decide (BH (t2L l 0)<=5)
inductive Out (l:List Ty):Nat->Nat->Prop
 | refl (x:Nat):Out l x x
 | step (x v y:Nat) (h:AY l x=some (v:Int)) (h2:Out l v y):Out l x y
structure Ord (l:List Ty):Prop where
 zero:AY l 0=some (-1)
 up : ∀ i,0<i->i<l.length->∃ u:Nat,AY l i=some (u:Int)/\u<i/\AH (A5 l u).1=true/\Out l (i-1) u
def KK (l:List Ty) (a s t:Nat):List Nat:=(List.range' s (t-s)).filter fun j=>decide (AY l j=some (a:Int))
theorem Out.trans {l:List Ty} {x y z:Nat} (h:Out l x y) (h2:Out l y z):Out l x z:=by
 induction h with
 | refl=>exact h2
 | step x v y h _ ih=>exact .step x v z h (ih h2)
theorem QJ (l:List Ty) (u:Int) : ∀ (f:Nat) (x:Nat),D1 l u f (x:Int)=true->∃ y:Nat,u=(y:Int)/\Out l x y
 | 0,x,h=>by rw [D1] at h; cases h
 | f+1,x,h=>by
  rw [D1,if_neg (by omega)] at h
  split at h
  ·rename_i e; exact ⟨x,e.symm,.refl x⟩
  ·rw [ntN] at h
   cases hu:AY l x with
   | none=>rw [hu] at h; cases h
   | some v=>
    rw [hu] at h
    dsimp only at h
    by_cases hv:v<0
    ·cases f with
     | zero=>rw [D1] at h; cases h
     | succ f=>rw [D1,if_pos hv] at h; cases h
    ·obtain ⟨v,rfl⟩:=eq_ofNat_of_zero_le (by omega:0<=v)
     obtain ⟨y,h1,h2⟩:=QJ l u f v h
     exact ⟨y,h1,.step x v y hu h2⟩
theorem WS {l:List Ty} {i x y:Nat} (hs : ∀ j,j<i->∀ v:Nat,AY l j=some (v:Int)->v<j) (h:Out l x y):x<i->y<=x:=by
 induction h with
 | refl=>intro _; exact Nat.le_refl _
 | step x v y h _ ih=>intro hx; have:=hs x hx v h; have:=ih (by omega); omega
theorem WT {l:List Ty} {i x y:Nat} (hs : ∀ j,j<i->∀ v:Nat,AY l j=some (v:Int)->v<j) (h:Out l x y):x<i->∀ f,x+1<=f->D1 l (y:Int) f (x:Int)=true:=by
 induction h with
 | refl x=>
  intro hx f hf
  obtain ⟨f,rfl⟩ : ∃ g,f=g+1:=⟨f-1,by omega⟩
  rw [D1,if_neg (by omega),if_pos rfl]
 | step x v y h _ ih=>
  intro hx f hf
  obtain ⟨f,rfl⟩ : ∃ g,f=g+1:=⟨f-1,by omega⟩
  rw [D1,if_neg (by omega)]
  split
  ·rfl
  ·rw [ntN,h]
   have:=hs x hx v h
   exact ih (by omega) f (by omega)
theorem Ord.lt {l:List Ty} (H:Ord l) : ∀ j,j<l.length->∀ v:Nat,AY l j=some (v:Int)->v<j:=fun j hj v hv=>by
 rcases Nat.eq_zero_or_pos j with rfl | hp
 ·rw [H.zero] at hv; injection hv with hv; omega
 ·obtain ⟨u,h1,h2,_⟩:=H.up j hp hj
  rw [h1] at hv; injection hv with hv; omega
theorem Abz {l:List Ty} {c e x y:Nat} (hs : ∀ j,j<e->∀ v:Nat,AY l j=some (v:Int)->v<j) (hb : ∀ j,c<j->j<e->∃ u:Nat,AY l j=some (u:Int)/\c<=u) (h:Out l x y):c<=x->x<e->c<=y\/∃ v:Nat,AY l c=some (v:Int)/\Out l v y:=by
 induction h with
 | refl x=>intro h1 _; exact .inl h1
 | step x v y h h2 ih=>
  intro h1 h3
  by_cases e1:x=c
  ·subst e1; exact .inr ⟨v,h,h2⟩
  ·obtain ⟨u,g1,g2⟩:=hb x (by omega) h3
   rw [h] at g1; injection g1 with g1
   have:=hs x h3 v h
   exact ih (by omega) (by omega)
theorem Ab0 {l:List Ty} {a e i x y:Nat} (hs : ∀ j,j<i->∀ v:Nat,AY l j=some (v:Int)->v<j) (ha:a<=i) (hn : ∀ j,e<=j->j<i->∀ u:Nat,AY l j=some (u:Int)->u<a\/e<=u) (h:Out l x y):e<=x->x<i->y<a\/e<=y:=by
 induction h with
 | refl x=>intro h1 _; exact .inr h1
 | step x v y h h2 ih=>
  intro h1 h3
  have:=hs x h3 v h
  rcases hn x h1 h3 v h with h4 | h4
  ·have:=WS hs h2 (by omega)
   exact .inl (by omega)
  ·exact ih h4 (by omega)
theorem OT {l:List Ty} {a s t u:Nat} (h1:s<=t) (h2:t<=u):KK l a s t++KK l a t u=KK l a s u:=by
 unfold KK
 rw [<-List.filter_append]
 congr 1
 have e:t=s+(t-s):=by omega
 conv=>lhs; rhs; rw [e]
 rw [show s+(t-s)=s+1*(t-s) by omega,List.range'_append]
 congr 1; omega
theorem Hv {l:List Ty} {a s t:Nat} (h : ∀ j,s<=j->j<t->AY l j≠some (a:Int)):KK l a s t=[]:=by
 unfold KK
 rw [List.filter_eq_nil_iff]
 intro j hj
 have:=List.mem_range'_1.1 hj
 simpa using h j (by omega) (by omega)
theorem Y0 {l:List Ty} {a e t:Nat} (h0:e<t) (h:AY l e=some (a:Int)) (h2 : ∀ j,e<j->j<t->AY l j≠some (a:Int)):KK l a e t=[e]:=by
 have e1:KK l a e (e+1)=[e]:=by
  unfold KK
  rw [show e+1-e=1 by omega,List.range'_one]
  simp [h]
 rw [<-OT (Nat.le_succ e) h0,e1,Hv (fun j hj hj2=>h2 j (by omega) hj2)]
 rfl
theorem T7 (l:List Ty) (a:Nat) : ∀ (n i:Nat),l.length-i=n->CV (a:Int) i (l.drop i)=(KK l a i l.length).map ofNat
 | 0,i,h=>by
  rw [drop_eq_nil_of_le (by omega),CV,Hv (fun j h1 h2=>by omega)]; rfl
 | n+1,i,h=>by
  have hl:i<l.length:=by omega
  rw [drop_eq_getElem_cons hl,CV,T7 l a n (i+1) (by omega),<-OT (Nat.le_succ i) hl (l:=l) (a:=a)]
  have hu:AY l i=some (l[i].2.2.2.2.1):=by unfold AY; rw [gtE hl]; rfl
  by_cases hk:l[i].2.2.2.2.1=(a:Int)
  ·rw [if_pos hk,Y0 (lt_succ_self i) (by rw [hu,hk]) (fun j h1 h2=>by omega)]; rfl
  ·rw [if_neg hk,Hv (s:=i) (fun j h1 h2=>by
    have:j=i:=by omega
    subst this; rw [hu]; exact fun h=>hk (Option.some.inj h))]; rfl
theorem Na (l:List Ty) (a:Nat):By l a=(KK l a (a+1) l.length).map ofNat:=T7 l a _ (a+1) rfl
theorem Te {l:List Ty} {a:Nat} (h:a<l.length):t2L l a = .node (A5 l a) ((KK l a (a+1) l.length).map (t2L l)):=by
 rw [Aap h,Na,List.map_map]
 rfl
structure Blk2 (l:List Ty) (a:Nat):Prop where
 inn : ∀ j,a<j->j<(kf l a).2->∃ u:Nat,AY l j=some (u:Int)/\a<=u
 out:(kf l a).2<l.length->∀ u:Nat,AY l (kf l a).2=some (u:Int)->u<a
 tree:(kf l a).1=t2L l a
theorem PQ {l:List Ty} (H:Ord l) {a:Nat} (ha:a<l.length) (IH : ∀ b,a<b->b<l.length->Blk2 l b) : ∀ (n e:Nat) (ks:List (Rose Lab)),l.length-e<=n->a<e->e<=l.length->
  (∀ j,a<j->j<e->∃ u:Nat,AY l j=some (u:Int)/\a<=u)->(e<l.length->∀ u:Nat,AY l e=some (u:Int)->u<=a)->ks=(KK l a (a+1) e).map (t2L l)->
  (∀ j,a<j->j<(Ba (kf l) l a n e ks).2->∃ u:Nat,AY l j=some (u:Int)/\a<=u)/\((Ba (kf l) l a n e ks).2<l.length->∀ u:Nat,AY l (Ba (kf l) l a n e ks).2=some (u:Int)->u<a)/\(Ba (kf l) l a n e ks).1=(KK l a (a+1) (Ba (kf l) l a n e ks).2).map (t2L l)/\a<(Ba (kf l) l a n e ks).2
 | 0,e,ks,h1,h2,h3,h4,h5,h6=>⟨h4,fun h=>by simp only [Ba] at h; omega,h6,h2⟩
 | n+1,e,ks,h1,h2,h3,h4,h5,h6=>by
  unfold Ba
  split
  ·rename_i hu
   have hl:=GA hu
   obtain ⟨b1,b2⟩:=FI l e hl
   have B:=IH e h2 hl
   have inn' : ∀ j,a<j->j<(kf l e).2->∃ u:Nat,AY l j=some (u:Int)/\a<=u:=fun j g1 g2=>by
    rcases Nat.lt_trichotomy j e with g3 | g3 | g3
    ·exact h4 j g1 g3
    ·subst g3; exact ⟨a,hu,Nat.le_refl _⟩
    ·obtain ⟨u,k1,k2⟩:=B.inn j g3 g2; exact ⟨u,k1,by omega⟩
   refine PQ H ha IH n (kf l e).2 _ (by omega) (by omega) b2 inn' (fun g1 u g2=>?_) ?_
   ·have g3:=B.out g1 u g2
    obtain ⟨u',k1,k2,k3,k4⟩:=H.up (kf l e).2 (by omega) g1
    rw [g2] at k1; injection k1 with k1
    have:u=u':=by omega
    subst this
    rcases Abz (fun j hj=>H.lt j (by omega)) B.inn k4 (by omega) (by omega) with k5 | ⟨v,k5,k6⟩
    ·omega
    ·rw [hu] at k5; injection k5 with k5
     have:a=v:=by omega
     subst this
     exact WS H.lt k6 ha
   ·rw [h6,B.tree,<-OT (l:=l) (a:=a) (show a+1<=e by omega) (Nat.le_of_lt b1),List.map_append,Y0 b1 hu (fun j g1 g2 g3=>by
     obtain ⟨u,k1,k2⟩:=B.inn j g1 g2
     rw [g3] at k1; injection k1 with k1; omega)]
    rfl
  ·rename_i hu
   refine ⟨h4,fun g1 u g2=>?_,h6,h2⟩
   have:=h5 g1 u g2
   have:u≠a:=fun e=>by subst e; exact hu g2
   omega
theorem TI {l:List Ty} (H:Ord l) : ∀ (n a:Nat),l.length-a<=n->a<l.length->Blk2 l a
 | 0,a,h1,h2=>by omega
 | n+1,a,h1,h2=>by
  have IH : ∀ b,a<b->b<l.length->Blk2 l b:=fun b g1 g2=>TI H n b (by omega) g2
  have hq:a+1<l.length->∀ u:Nat,AY l (a+1)=some (u:Int)->u<=a:=fun g1 u g2=>by
   have:=H.lt (a+1) g1 u g2; omega
  have hk:=X4 h2
  cases hh:AH (A5 l a).1 with
  | true=>
   rw [hh,cond_true] at hk
   obtain ⟨r1,r2,r3,r4⟩:=PQ H h2 IH l.length (a+1) [] (by omega) (by omega) (by omega) (fun j g1 g2=>by omega) hq (by rw [Hv (fun j g1 g2=>by omega)]; rfl)
   have hb:=I3 (a:=a) (FI l) l.length (a+1) [] h2
   generalize Ba (kf l) l a l.length (a+1) []=r at *
   have hN : ∀ j,r.2<=j->j<l.length->∀ u:Nat,AY l j=some (u:Int)->u<a\/r.2<=u:=by
    intro j
    induction j using strongRecOn with
    | ind j ih=>
     intro g1 g2 u g3
     by_cases e:j=r.2
     ·subst e; exact .inl (r2 g2 u g3)
     ·obtain ⟨u',k1,k2,k3,k4⟩:=H.up j (by omega) g2
      rw [g3] at k1; injection k1 with k1
      have:u=u':=by omega
      subst this
      exact Ab0 (i:=j) (fun x hx=>H.lt x (by omega)) (by omega) (fun x q1 q2=>ih x q2 q1 (by omega)) k4 (by omega) (by omega)
   refine ⟨by rw [hk]; exact r1,by rw [hk]; exact r2,?_⟩
   rw [hk,Te h2,r3,<-OT (l:=l) (a:=a) (show a+1<=r.2 by omega) hb.2,Hv (s:=r.2) (fun j g1 g2 g3=>by
    rcases hN j g1 g2 a g3 with k | k<;>omega),append_nil]
  | false=>
   rw [hh,cond_false] at hk
   have none : ∀ j,a<j->j<l.length->AY l j≠some (a:Int):=fun j g1 g2 g3=>by
    obtain ⟨u,k1,k2,k3,k4⟩:=H.up j (by omega) g2
    rw [g3] at k1; injection k1 with k1
    have:a=u:=by omega
    subst this
    rw [hh] at k3; cases k3
   refine ⟨?_,?_,?_⟩
   ·rw [hk]; intro j g1 g2
    have g2:j<a+1:=g2
    omega
   ·rw [hk]; intro g1 u g2
    have g1:a+1<l.length:=g1
    have:=hq g1 u g2
    have:u≠a:=fun e=>by subst e; exact none _ (by omega) g1 g2
    omega
   rw [hk,Te h2,Hv (fun j g1 g2=>none j (by omega) g2)]
   rfl
theorem Ord.end' {l:List Ty} (H:Ord l) (h:0<l.length):(kf l 0).2=l.length/\(kf l 0).1=t2L l 0:=by
 have B:=TI H l.length 0 (by omega) h
 have hb:=FI l 0 h
 refine ⟨?_,B.tree⟩
 by_cases e:(kf l 0).2<l.length
 ·obtain ⟨u,k1,_⟩:=H.up _ hb.1 e
  have:=B.out e u k1; omega
 ·omega
def GU (y z:Lab):Prop:=y.2.2.1<z.2.2.1/\y.2.1≠z.2.1
structure Prs (l:List Ty) (a:Nat):Prop where
 inn : ∀ j,a<j->j<(kf l a).2->∃ u:Nat,AY l j=some (u:Int)/\a<=u/\u<j/\AH (A5 l u).1=true/\Out l (j-1) u
 out : ∀ j,a<=j->j<(kf l a).2->Out l j a
theorem PP {l:List Ty} {a:Nat} (ha:a<l.length) (hh:AH (A5 l a).1=true) (IH : ∀ b,a<b->b<l.length->Prs l b) : ∀ (n e:Nat) (ks:List (Rose Lab)),a<e->e<=l.length->
  (∀ j,a<j->j<e->∃ u:Nat,AY l j=some (u:Int)/\a<=u/\u<j/\AH (A5 l u).1=true/\Out l (j-1) u)->(∀ j,a<=j->j<e->Out l j a)->
  (∀ j,a<j->j<(Ba (kf l) l a n e ks).2->∃ u:Nat,AY l j=some (u:Int)/\a<=u/\u<j/\AH (A5 l u).1=true/\Out l (j-1) u)/\(∀ j,a<=j->j<(Ba (kf l) l a n e ks).2->Out l j a)
 | 0,e,ks,h1,h2,h3,h4=>⟨h3,h4⟩
 | n+1,e,ks,h1,h2,h3,h4=>by
  unfold Ba
  split
  ·rename_i hu
   have hl:=GA hu
   obtain ⟨b1,b2⟩:=FI l e hl
   have B:=IH e h1 hl
   refine PP ha hh IH n (kf l e).2 _ (by omega) b2 (fun j g1 g2=>?_) (fun j g1 g2=>?_)
   ·rcases Nat.lt_trichotomy j e with g3 | g3 | g3
    ·exact h3 j g1 g3
    ·subst g3; exact ⟨a,hu,Nat.le_refl _,h1,hh,h4 (j-1) (by omega) (by omega)⟩
    ·obtain ⟨u,k1,k2,k3⟩:=B.inn j g3 g2; exact ⟨u,k1,by omega,k3⟩
   ·by_cases g3:j<e
    ·exact h4 j g1 g3
    ·exact (B.out j (by omega) g2).trans (.step e a a hu (.refl a))
  ·exact ⟨h3,h4⟩
theorem Tm {l:List Ty} : ∀ (n a:Nat),l.length-a<=n->a<l.length->Prs l a
 | 0,a,h1,h2=>by omega
 | n+1,a,h1,h2=>by
  have IH : ∀ b,a<b->b<l.length->Prs l b:=fun b g1 g2=>Tm n b (by omega) g2
  have hk:=X4 h2
  have base : ∀ j,a<=j->j<a+1->Out l j a:=fun j g1 g2=>by
   have:j=a:=by omega
   subst this; exact .refl j
  cases hh:AH (A5 l a).1 with
  | true=>
   rw [hh,cond_true] at hk
   obtain ⟨r1,r2⟩:=PP h2 hh IH l.length (a+1) [] (by omega) (by omega) (fun j g1 g2=>by omega) base
   exact ⟨by rw [hk]; exact r1,by rw [hk]; exact r2⟩
  | false=>
   rw [hh,cond_false] at hk
   refine ⟨?_,by rw [hk]; exact base⟩
   rw [hk]; intro j g1 g2
   have g2:j<a+1:=g2
   omega
theorem Ol {l:List Ty} (h:0<l.length) (h0:AY l 0=some (-1)) (he:(kf l 0).2=l.length):Ord l:=by
 have B:=Tm l.length 0 (by omega) h
 refine ⟨h0,fun i g1 g2=>?_⟩
 obtain ⟨u,k1,k2,k3,k4,k5⟩:=B.inn i g1 (by omega)
 exact ⟨u,k1,k3,k4,k5⟩
theorem P1 {l:List Ty} (h:0<l.length) (ho:(range l.length).all (okT l)=true):Ord l:=by
 have at' : ∀ i,i<l.length->okT l i=true:=fun i hi=>all_eq_true.1 ho i (mem_range.2 hi)
 refine ⟨?_,fun i g1 g2=>?_⟩
 ·have:=at' 0 h
  unfold okT at this
  rw [if_pos rfl] at this
  simp only [anE,dcE] at this
  exact this.2.1.1.1.2
 ·have:=at' i g2
  unfold okT DS at this
  rw [if_neg (by omega),anE] at this
  have this:=this.2
  cases hu:AY l i with
  | none=>rw [hu] at this; cases this
  | some u=>
   rw [hu] at this
   simp only [anE,dcE] at this
   obtain ⟨⟨⟨⟨c1,c2⟩,c3⟩,c4⟩,_⟩:=this
   obtain ⟨u,rfl⟩:=eq_ofNat_of_zero_le c1
   unfold DM at c4
   rw [hu] at c4
   dsimp only at c4
   have e:(i:Int)-1=((i-1:Nat):Int):=by omega
   rw [e] at c4
   obtain ⟨y,k1,k2⟩:=QJ l u (i+1) (i-1) c4
   have:u=y:=by omega
   subst this
   exact ⟨u,rfl,by omega,c3,k2⟩
theorem Ord.around {l:List Ty} (H:Ord l) {i:Nat} (h1:0<i) (h2:i<l.length):DM l i=true:=by
 obtain ⟨u,k1,k2,k3,k4⟩:=H.up i h1 h2
 unfold DM
 rw [k1]
 dsimp only
 have e:(i:Int)-1=((i-1:Nat):Int):=by omega
 rw [e]
 exact WT (i:=l.length) H.lt k4 (by omega) (i+1) (by omega)
/-! Maps. -/
theorem PG (x y:List UInt8) (v:Bool) : ∀ l:List (List UInt8×Bool),Ct .str (D2 .str l x v) y=if y=x then some v else Ct .str l y
 | []=>by
  show (match DB .str y x with | true=>some v | false=>Ct .str [] y)=_
  by_cases h:y=x
  ·subst h
   have:DB .str y y=true:=beq_self_eq_true y
   rw [this,if_pos rfl]
  ·have:DB .str y x=false:=beq_false_of_ne h
   rw [this,if_neg h]
 | e::l=>by
  unfold D2
  by_cases h:x=e.1
  ·subst h
   simp only [DB,beq_self_eq_true]
   unfold Ct
   by_cases h2:y=e.1
   ·subst h2; simp [DB]
   ·simp only [DB,beq_false_of_ne h2,if_neg h2]
  ·have:DB .str x e.1=false:=beq_false_of_ne h
   rw [this]
   dsimp only
   unfold Ct
   by_cases h2:y=e.1
   ·subst h2; simp [DB,Ne.symm h]
   ·have h3:DB .str y e.1=false:=beq_false_of_ne h2
    rw [h3]
    exact PG x y v l
theorem Tw : ∀ (l pre:List (Rose Lab)) (seen:List (List UInt8×Bool)),(∀ nm,(Ct .str seen nm).getD false=true↔∃ z∈pre,z.lab.2.1=nm)->pre.Pairwise (fun y z=>GU y.lab z.lab)->
  (HD (pre++l) pre.length seen l=true↔(pre++l).Pairwise (fun y z=>GU y.lab z.lab))
 | [],pre,seen,_,hp=>by rw [HD,append_nil]; exact ⟨fun _=>hp,fun _=>rfl⟩
 | z::l,pre,seen,hs,hp=>by
  have hpg:EP (pre++z::l) pre.length z.lab.2.2.1=true↔∃ y,pre.getLast? = some y/\y.lab.2.2.1>=z.lab.2.2.1:=by
   cases hl:pre.getLast? with
   | none=>
    have:pre=[]:=by simpa using hl
    subst this
    simp [EP]
   | some y=>
    have hne:pre≠[]:=by intro e; subst e; cases hl
    obtain ⟨m,hm⟩ : ∃ m,pre.length=m+1:=⟨pre.length-1,by have:=List.length_pos_iff.2 hne; omega⟩
    have hy:(pre++z::l)[m]? = some y:=by
     rw [List.getElem?_append_left (by omega),<-hl,List.getLast?_eq_getElem?,hm]; rfl
    rw [hm]
    unfold EP
    dsimp only
    rw [hy]
    simp
  have hR:(∀ y∈pre,GU y.lab z.lab)↔¬((Ct .str seen z.lab.2.1).getD false||EP (pre++z::l) pre.length z.lab.2.2.1)=true:=by
   rw [Bool.or_eq_true,hs,hpg]
   constructor
   ·rintro h (⟨y,g1,g2⟩ | ⟨y,g1,g2⟩)
    ·exact (h y g1).2 g2
    ·have:=(h y (List.mem_of_getLast? g1)).1; omega
   ·intro h y hy
    refine ⟨?_,fun e=>h (.inl ⟨y,hy,e⟩)⟩
    cases hl:pre.getLast? with
    | none=>
     have:pre=[]:=by simpa using hl
     subst this; cases hy
    | some w=>
     have h1 : ¬w.lab.2.2.1>=z.lab.2.2.1:=fun g=>h (.inr ⟨w,hl,g⟩)
     have hne:pre≠[]:=by intro e; subst e; cases hl
     have e:pre=pre.dropLast++[w]:=by
      rw [List.getLast?_eq_some_getLast hne] at hl
      have:=(List.dropLast_concat_getLast hne).symm
      rw [Option.some.inj hl] at this
      exact this
     rw [e] at hy hp
     rcases List.mem_append.1 hy with hy | hy
     ·have:=(List.pairwise_append.1 hp).2.2 y hy w (by simp)
      have:=this.1; omega
     ·simp at hy; subst hy; omega
  rw [HD]
  by_cases hc:((Ct .str seen z.lab.2.1).getD false||EP (pre++z::l) pre.length z.lab.2.2.1)=true
  ·rw [if_pos hc]
   refine ⟨fun h=>(by cases h),fun h=>?_⟩
   exact absurd hc (hR.1 fun y hy=>(List.pairwise_append.1 h).2.2 y hy z (by simp))
  ·rw [if_neg hc]
   have hall:=hR.2 hc
   have hp2:(pre++[z]).Pairwise (fun y z=>GU y.lab z.lab):=List.pairwise_append.2 ⟨hp,List.pairwise_singleton _ _,fun y hy w hw=>by simp at hw; subst hw; exact hall y hy⟩
   have ih:=Tw l (pre++[z]) (D2 .str seen z.lab.2.1 true) (fun nm=>by
    rw [PG]
    by_cases e:nm=z.lab.2.1
    ·rw [if_pos e]; simp [e]
    ·rw [if_neg e,hs]
     constructor
     ·rintro ⟨w,g1,g2⟩; exact ⟨w,by simp [g1],g2⟩
     ·rintro ⟨w,g1,g2⟩
      rcases List.mem_append.1 g1 with g1 | g1
      ·exact ⟨w,g1,g2⟩
      ·simp at g1; subst g1; exact absurd g2.symm e) hp2
   rw [append_assoc] at ih
   simpa using ih
theorem PE (zs:List (Rose Lab)):HD zs 0 [] zs=true↔zs.Pairwise (fun y z=>GU y.lab z.lab):=by
 have:=Tw zs [] [] (fun nm=>by simp [Ct]) List.Pairwise.nil
 simpa using this
theorem Fl {R:Nat->Nat->Prop} : ∀ {l:List Nat},l.Pairwise (· < ·)->(l.Pairwise R↔∀ a∈l,∀ b∈l,a<b->R a b)
 | [],_=>by simp
 | x::l,h=>by
  rw [List.pairwise_cons] at h
  rw [List.pairwise_cons,Fl h.2]
  constructor
  ·rintro ⟨h1,h2⟩ a ha b hb hab
   rcases mem_cons.1 ha with ea | ha'
   ·rcases mem_cons.1 hb with eb | hb'
    ·omega
    ·rw [ea]; exact h1 b hb'
   ·rcases mem_cons.1 hb with eb | hb'
    ·have:=h.1 a ha'; omega
    ·exact h2 a ha' b hb' hab
  ·intro g
   exact ⟨fun b hb=>g x (by simp) b (by simp [hb]) (h.1 b hb),fun a ha b hb hab=>g a (by simp [ha]) b (by simp [hb]) hab⟩
theorem D7 {l:List Ty} {a s t j:Nat}:j∈KK l a s t↔(s<=j/\j<t)/\AY l j=some (a:Int):=by
 unfold KK
 rw [List.mem_filter,List.mem_range'_1,dcE]
 constructor
 ·rintro ⟨h1,h2⟩; exact ⟨by omega,h2⟩
 ·rintro ⟨h1,h2⟩; exact ⟨by omega,h2⟩
theorem VN (l:List Ty) (a s t:Nat):(KK l a s t).Pairwise (· < ·):=(List.pairwise_lt_range').filter _
def CD (l:List Ty):Prop:=∀ j,j<l.length->Cm (A5 l j) ((KK l j (j+1) l.length).map (t2L l))=true/\∀ c∈KK l j (j+1) l.length,DT (A5 l j).1 (A5 l c)=true
theorem GV {l:List Ty} {a:Nat} (h:a<l.length):(t2L l a).lab=A5 l a:=by rw [Te h]; rfl
theorem KD (k:Int) : ∀ ks:List (Rose Lab),B9 k ks=true↔∀ z∈ks,DT k z.lab=true/\At z=true
 | []=>by simp [B9]
 | z::ks=>by
  rw [B9,anE,anE,KD k ks]
  constructor
  ·rintro ⟨h1,h2⟩ w hw
   rcases mem_cons.1 hw with e | hw'
   ·rw [e]; exact h1
   ·exact h2 w hw'
  ·intro h
   exact ⟨h z (by simp),fun w hw=>h w (by simp [hw])⟩
theorem K9 {l:List Ty} {a:Nat} (h:a<l.length):At (t2L l a)=true↔Cm (A5 l a) ((KK l a (a+1) l.length).map (t2L l))=true/\∀ c∈KK l a (a+1) l.length,DT (A5 l a).1 (A5 l c)=true/\At (t2L l c)=true:=by
 rw [Te h,At,anE,KD]
 constructor
 ·rintro ⟨h1,h2⟩
  refine ⟨h1,fun c hc=>?_⟩
  have hcl:=(D7.1 hc).1.2
  have:=h2 (t2L l c) (mem_map.2 ⟨c,hc,rfl⟩)
  rw [GV hcl] at this
  exact this
 ·rintro ⟨h1,h2⟩
  refine ⟨h1,fun z hz=>?_⟩
  obtain ⟨c,hc,rfl⟩:=mem_map.1 hz
  have hcl:=(D7.1 hc).1.2
  rw [GV hcl]
  exact h2 c hc
theorem Ux {l:List Ty} (H:Ord l) (h0:0<l.length):At (t2L l 0)=true↔CD l:=by
 constructor
 ·intro h
  have all : ∀ j,j<l.length->At (t2L l j)=true:=by
   intro j
   induction j using strongRecOn with
   | ind j ih=>
    intro hj
    rcases Nat.eq_zero_or_pos j with rfl | hp
    ·exact h
    ·obtain ⟨u,k1,k2,_⟩:=H.up j hp hj
     exact (((K9 (by omega)).1 (ih u k2 (by omega))).2 j (D7.2 ⟨⟨by omega,hj⟩,k1⟩)).2
  intro j hj
  have:=(K9 hj).1 (all j hj)
  exact ⟨this.1,fun c hc=>(this.2 c hc).1⟩
 ·intro h
  have all : ∀ n j,l.length-j<=n->j<l.length->At (t2L l j)=true:=by
   intro n
   induction n with
   | zero=>intro j g1 g2; omega
   | succ n ih=>
    intro j g1 g2
    refine (K9 g2).2 ⟨(h j g2).1,fun c hc=>⟨(h j g2).2 c hc,?_⟩⟩
    have:=(D7.1 hc).1
    exact ih c (by omega) (by omega)
  exact all l.length 0 (by omega) h0
theorem Hd {l:List Ty} {i:Nat} (h:i<l.length):A5 l i=(l[i].1,l[i].2.1,l[i].2.2.1,l[i].2.2.2.1,l[i].2.2.2.2.2.1,()):=by unfold A5; rw [gtE h]
theorem Wu {l:List Ty} {a c:Nat} (hc:c<=l.length) (no:Int) (nm:List UInt8):Uo (a:Int) no nm ((l.take c).drop (a+1))=true↔∀ k,a<k->k<c->AY l k=some (a:Int)->(A5 l k).2.2.1<no/\(A5 l k).2.1≠nm:=by
 have up : ∀ k (h:k<l.length),AY l k=some (l[k].2.2.2.2.1):=fun k h=>by unfold AY; rw [gtE h]; rfl
 unfold Uo
 rw [all_eq_true]
 constructor
 ·intro h k g1 g2 g3
  have hk:k<l.length:=by omega
  have hm:l[k]∈(l.take c).drop (a+1):=by
   refine List.mem_iff_getElem?.2 ⟨k-(a+1),?_⟩
   rw [List.getElem?_drop,show a+1+(k-(a+1))=k by omega,List.getElem?_take,if_pos g2,gtE hk]
  have:=h _ hm
  rw [up k hk] at g3
  rw [Option.some.inj g3,beq_self_eq_true,Bool.true_and] at this
  rw [Hd hk]
  simp only [Bool.not_eq_true',Bool.or_eq_false_iff,decide_eq_false_iff_not,beq_eq_false_iff_ne] at this
  show l[k].2.2.1<no/\l[k].2.1≠nm
  exact ⟨by have:=this.1; omega,this.2⟩
 ·intro h o ho
  obtain ⟨j,hj⟩:=List.mem_iff_getElem?.1 ho
  rw [List.getElem?_drop,List.getElem?_take] at hj
  split at hj
  ·rename_i hlt
   have hk:a+1+j<l.length:=by omega
   rw [gtE hk] at hj
   have e:=Option.some.inj hj
   by_cases hu:o.2.2.2.2.1=(a:Int)
   ·have:=h (a+1+j) (by omega) hlt (by rw [up _ hk,e,hu])
    rw [Hd hk,e] at this
    have this:o.2.2.1<no/\o.2.1≠nm:=this
    have h1:decide (o.2.2.1>=no)=false:=dcF (by have:=this.1; omega)
    have h2:(o.2.1==nm)=false:=beq_false_of_ne this.2
    rw [h1,h2]; simp
   ·rw [beq_false_of_ne hu]; rfl
  ·cases hj
theorem Qi {k:Int} (h:AH k=true):k=4\/k=5:=by
 unfold AH at h
 rw [Bool.or_eq_true] at h
 rcases h with h | h
 ·exact .inl (by simpa using h)
 ·exact .inr (by simpa using h)
theorem Aal {l:List Ty} (H:Ord l) {j:Nat} (h:AH (A5 l j).1=false):KK l j (j+1) l.length=[]:=Hv fun c g1 g2 g3=>by
 obtain ⟨u,k1,k2,k3,_⟩:=H.up c (by omega) g2
 rw [g3] at k1; injection k1 with k1
 have:j=u:=by omega
 subst this
 rw [h] at k3; cases k3
theorem Ir {l:List Ty} (H:Ord l) {j:Nat} (_:j<l.length):Cm (A5 l j) ((KK l j (j+1) l.length).map (t2L l))=true↔kmB (A5 l j)=true/\Et l j=true/\((A5 l j).1=5->∀ c∈KK l j (j+1) l.length,∀ k∈KK l j (j+1) l.length,k<c->GU (A5 l k) (A5 l c)):=by
 have hone:Et l j = !((A5 l j).1==4&&(KK l j (j+1) l.length).length != 1):=by unfold Et; rw [Na,List.length_map]
 have hmsg:HD ((KK l j (j+1) l.length).map (t2L l)) 0 [] ((KK l j (j+1) l.length).map (t2L l))=true↔∀ c∈KK l j (j+1) l.length,∀ k∈KK l j (j+1) l.length,k<c->GU (A5 l k) (A5 l c):=by
  rw [PE,List.pairwise_map,Fl (VN l j (j+1) l.length)]
  constructor
  ·intro h c hc k hk hkc
   have:=h k hk c hc hkc
   rw [GV (D7.1 hk).1.2,GV (D7.1 hc).1.2] at this
   exact this
  ·intro h k hk c hc hkc
   rw [GV (D7.1 hk).1.2,GV (D7.1 hc).1.2]
   exact h c hc k hk hkc
 rw [hone]
 have hk0:(A5 l j).1≠4->(A5 l j).1≠5->KK l j (j+1) l.length=[]:=fun h4 h5=>Aal H (by unfold AH; rw [beq_false_of_ne h4,beq_false_of_ne h5]; rfl)
 unfold Cm kmB
 rw [List.length_map]
 generalize A5 l j=x at hk0 ⊢
 by_cases a1:x.1=1\/x.1=2
 ·have h4:x.1≠4:=by rcases a1 with h | h<;>omega
  have h5:x.1≠5:=by rcases a1 with h | h<;>omega
  have h3:x.1≠3:=by rcases a1 with h | h<;>omega
  rw [if_pos a1,hk0 h4 h5,if_neg h3,dcT (show 1<=x.1/\x.1<=5 by rcases a1 with h | h<;>omega),beq_false_of_ne h4]
  simp [h5]
 by_cases a3:x.1=3
 ·have h4:x.1≠4:=by omega
  have h5:x.1≠5:=by omega
  rw [if_neg a1,if_pos a3,hk0 h4 h5,if_pos a3,dcT (show 1<=x.1/\x.1<=5 by omega),beq_false_of_ne h4]
  simp [h5]
 by_cases a4:x.1=4
 ·have h5:x.1≠5:=by omega
  rw [if_neg a1,if_neg a3,if_pos a4,if_neg a3,dcT (show 1<=x.1/\x.1<=5 by omega),a4]
  simp
 by_cases a5:x.1=5
 ·rw [if_neg a1,if_neg a3,if_neg a4,if_neg a3,dcT (show 1<=x.1/\x.1<=5 by omega),beq_false_of_ne a4]
  by_cases a6:x.2.2.2.2.1=0
  ·rw [if_neg (by rintro (h | h); exact h a5; exact h a6),hmsg]
   simp [a5,a6]
  ·rw [if_pos (.inr a6)]
   simp [a6]
 ·have a0 : ¬(1<=x.1/\x.1<=5):=by omega
  rw [if_neg a1,if_neg a3,if_neg a4,if_pos (.inl a5),dcF a0]
  simp
theorem P0 {l:List Ty} (H:Ord l) {i u:Nat} (hi:0<i) (hl:i<l.length) (hu:AY l i=some (u:Int)) (hlt:u<i) (hh:AH (A5 l u).1=true) :
  DS l i=true↔DT (A5 l u).1 (A5 l i)=true/\((A5 l u).1=5->∀ k∈KK l u (u+1) l.length,k<i->GU (A5 l k) (A5 l i)):=by
 have ha:=H.around hi hl
 have hs:=Wu (l:=l) (a:=u) (c:=i) (by omega) (A5 l i).2.2.1 (A5 l i).2.1
 have hk:(∀ k∈KK l u (u+1) l.length,k<i->GU (A5 l k) (A5 l i))↔∀ k,u<k->k<i->AY l k=some (u:Int)->(A5 l k).2.2.1<(A5 l i).2.2.1/\(A5 l k).2.1≠(A5 l i).2.1:=by
  constructor
  ·intro h k g1 g2 g3; exact h k (D7.2 ⟨⟨g1,by omega⟩,g3⟩) g2
  ·intro h k g1 g2
   have:=D7.1 g1
   exact h k this.1.1 g2 this.2
 rw [hk,<-hs]
 unfold DS DT
 rw [hu]
 dsimp only
 rw [ntN,dcT (show 0<=(u:Int)/\(u:Int)<(i:Int) by omega),hh,ha]
 rcases Qi hh with h4 | h5
 ·rw [if_pos h4,if_neg (by omega)]
  simp [h4]
 ·rw [if_neg (by omega),if_pos h5]
  simp [h5]
theorem HX (l:List Ty):L3 l=Bf l/\(Bf l=true->(kf l 0).1=t2L l 0):=by
 have main : ∀ (H:Ord l),1<=l.length/\l.length<=30->(L3 l=true↔Bf l=true):=fun H hl=>by
  have h0:0<l.length:=by omega
  obtain ⟨e1,e2⟩:=H.end' h0
  have hc:=Sq h0
  have hkm:CD l↔(∀ j,j<l.length->kmB (A5 l j)=true/\Et l j=true)/\∀ j,0<j->j<l.length->DS l j=true:=by
   constructor
   ·intro h
    refine ⟨fun j hj=>?_,fun j hp hj=>?_⟩
    ·have:=(Ir H hj).1 (h j hj).1
     exact ⟨this.1,this.2.1⟩
    ·obtain ⟨u,k1,k2,k3,_⟩:=H.up j hp hj
     have hm:j∈KK l u (u+1) l.length:=D7.2 ⟨⟨k2,hj⟩,k1⟩
     have hul:u<l.length:=by omega
     refine (P0 H hp hj k1 k2 k3).2 ⟨(h u hul).2 j hm,fun h5 k hk hkj=>?_⟩
     exact ((Ir H hul).1 (h u hul).1).2.2 h5 j hm k hk hkj
   ·rintro ⟨h1,h2⟩ j hj
    have hcc : ∀ c∈KK l j (j+1) l.length,DT (A5 l j).1 (A5 l c)=true/\((A5 l j).1=5->∀ k∈KK l j (j+1) l.length,k<c->GU (A5 l k) (A5 l c)):=fun c hc=>by
     obtain ⟨⟨g1,g2⟩,g3⟩:=D7.1 hc
     obtain ⟨u,k1,k2,k3,_⟩:=H.up c (by omega) g2
     rw [g3] at k1; injection k1 with k1
     have:j=u:=by omega
     subst this
     exact (P0 H (by omega) g2 g3 k2 k3).1 (h2 c (by omega) g2)
    exact ⟨(Ir H hj).2 ⟨(h1 j hj).1,(h1 j hj).2,fun h5 c hc k hk hkc=>(hcc c hc).2 h5 k hk hkc⟩,fun c hc=>(hcc c hc).1⟩
  unfold L3 Bf CX
  rw [dcT hl,dcT H.zero,e1,e2,GV h0]
  have hcnt:decide (Aq (t2L l 0)<=30)=true:=dcT (by rw [<-e2]; omega)
  rw [hcnt]
  simp only [Bool.true_and,Bool.and_true,anE,all_eq_true,mem_range,dcE,beq_self_eq_true,Ux H h0,hkm]
  constructor
  ·rintro ⟨⟨h1,h2⟩,h3⟩
   have r:=h1 0 h0
   unfold okT at r
   rw [if_pos rfl] at r
   simp only [anE,dcE] at r
   obtain ⟨r0,⟨⟨⟨r1,r2⟩,r3⟩,r4⟩,r5⟩:=r
   refine ⟨⟨⟨⟨⟨r1,r3⟩,r4⟩,r5⟩,⟨fun j hj=>⟨?_,h2 j hj⟩,fun j hp hj=>?_⟩⟩,h3⟩
   ·have:=h1 j hj
    unfold okT at this
    rw [anE] at this
    exact this.1
   ·have:=h1 j hj
    unfold okT at this
    rw [if_neg (by omega),anE] at this
    exact this.2
  ·rintro ⟨⟨⟨⟨⟨r1,r3⟩,r4⟩,r5⟩,⟨h1,h2⟩⟩,h3⟩
   refine ⟨⟨fun j hj=>?_,fun j hj=>(h1 j hj).2⟩,h3⟩
   unfold okT
   rw [(h1 j hj).1,Bool.true_and]
   by_cases hz:j=0
   ·rw [if_pos hz]
    simp only [anE,dcE]
    exact ⟨⟨⟨⟨r1,H.zero⟩,r3⟩,r4⟩,r5⟩
   ·rw [if_neg hz]; exact h2 j (by omega) hj
 have hS:L3 l=true->Ord l/\1<=l.length/\l.length<=30:=fun h=>by
  unfold L3 at h
  simp only [anE,dcE] at h
  exact ⟨P1 (by omega) h.1.1.2,h.1.1.1⟩
 have hK:Bf l=true->Ord l/\1<=l.length/\l.length<=30:=fun h=>by
  unfold Bf at h
  simp only [anE,dcE,beq_iff_eq] at h
  exact ⟨Ol (by omega) h.1.1.2 h.1.2,h.1.1.1⟩
 refine ⟨?_,fun h=>((hK h).1.end' (by have:=(hK h).2; omega)).2⟩
 cases h1:L3 l with
 | true=>obtain ⟨H,hl⟩:=hS h1; exact ((main H hl).1 h1).symm
 | false=>
  cases h2:Bf l with
  | false=>rfl
  | true=>obtain ⟨H,hl⟩:=hK h2; rw [(main H hl).2 h2] at h1; cases h1
def O7:Gm
 | [.agg [.sl TCd l],.i .i64 i],[]=>.need (decide (0<=i/\i.toNat<l.length/\l.length<=4000000000)&&CR l i.toNat&&nmL l) (.leaf (.b (DS l i.toNat),[]))
 | _,_=>.no
def EU:LoopEnt:=⟨103,[1,2,5,6],[],[4],fun
 | ([.i .i64 i,.ptr 0 0,.ptr 1 0,.i .i64 k],[some (.box [.sl TCd l]),some (.box [.i .i64 _,.s y1,.i .i64 y2,.b _,.i .i64 y4,.i .i64 _])])=>.need (decide (0<=k/\k<=i/\i.toNat<l.length/\l.length<=4000000000)) (.br (Uo y4 y2 y1 ((l.take i.toNat).drop k.toNat)) (.leaf (.exit 0,([],[]))) (.leaf (.ret,([.b false],[]))))
 | _=>.no⟩
abbrev Aak:FuncId->Option Ent:=Ab [(193,.rd1 HJ),(194,.rd1 I2),(195,.rd1 KW),(115,.rd1 A3)]
theorem HH (l:List Ty) (y0:Int) (y1:List UInt8) (y2:Int) (y3:Bool) (y4 y5:Int) (i k:Int):Av prog Aak (Ab [(9,EU)]) 0 (body f155 0) EU ([.j i,.ptr 0 0,.ptr 1 0,.j k],[some (.box [.sl TCd l]),some (.box [.j y0,.s y1,.j y2,.b y3,.j y4,.j y5])]) =
 ((ifB (decide (k<i)) (ifT (decide ((0:Int)<=k)&&decide (k<(↑l.length:Int))) (Ai l[k.toNat]? fun z=>ifB (z.snd.snd.snd.snd.fst==y4) (ifB (decide
 (z.snd.snd.fst>=y2)) (some (Ex.ret,[V.b false],[])) (ifB (z.snd.fst==y1) (some (Ex.ret,[V.b false],[])) (some (Ex.normal,[V.j i,V.ptr 0 0,V.ptr 1 0,V.i
 .i64 (i64.wrap (k+(1:Int)))],[some (Blk.box [V.sl TCd l]),some (Blk.box [V.j y0,V.s y1,V.j y2,V.b y3,V.j y4,V.j y5])])))) (some
 (Ex.normal,[V.j i,V.ptr 0 0,V.ptr 1 0,V.j (i64.wrap (k+(1:Int)))],[some (Blk.box [V.sl TCd l]),some (Blk.box [V.j y0,V.s y1,V.i .i64
 y2,V.b y3,V.j y4,V.j y5])])))) (some (Ex.exit 0,[],[]))):_):=by kernel_rfl
theorem PW (l:List Ty) (i:Int):Ax prog Aak (Ab [(9,EU)]) f155 [.agg [.sl TCd l],.j i] [] =
 ((ifT (decide ((0:Int)<=i)&&decide (i<(↑l.length:Int))) (Ai l[i.toNat]? fun z=>ifB (decide (z.snd.snd.snd.snd.fst<(0:Int))) (some (V.b false,[])) (ifB
 (decide (z.snd.snd.snd.snd.fst>=i)) (some (V.b false,[])) (ifT (decide ((0:Int)<=z.snd.snd.snd.snd.fst)&&decide (z.snd.snd.snd.snd.fst<(↑l.length:Int)))
 (Ai l[toNat z.snd.snd.snd.snd.fst]? fun z_1=>ifB (!AH z_1.fst) (some (V.b false,[])) (ifT (decide ((0:Int)<=i/\i.toNat<l.length/\l.length<=
 4000000000)&&CR l i.toNat) (ifB (!DM l i.toNat) (some (V.b false,[])) (ifT (decide ((0:Int)<=z.snd.snd.snd.snd.fst)&&decide (z.snd.snd.snd.snd.fst
 < (↑l.length:Int))) (Ai l[toNat z.snd.snd.snd.snd.fst]? fun z_2=>ifB (z_2.fst==(4:Int)) (ifB (z.snd.fst==Aj UInt8) (ifB (z.snd.snd.fst==(0:Int))
 (some (V.b !z.snd.snd.snd.fst,[])) (some (V.b false,[]))) (some (V.b false,[]))) (ifT (decide (List.length z.snd.fst<=maxI)) (ifB (!FA z.snd.fst) (some (V.b false,
 [])) (ifB (!decide ((1:Int)<=z.snd.snd.fst/\z.snd.snd.fst<=(30:Int))) (some (V.b false,[])) (ifT (decide ((0:Int)<=i64.wrap (z.snd.snd.snd.snd.fst+(1
 : Int))/\i64.wrap (z.snd.snd.snd.snd.fst+(1:Int))<=i/\i.toNat<l.length/\l.length<=4000000000)) (ifB (Uo z.snd.snd.snd.snd.fst z.snd.snd.fst
 z.snd.fst (drop (i64.wrap (z.snd.snd.snd.snd.fst+(1:Int))).toNat (take i.toNat l))) (some (V.b true,[])) (some (V.b false,[])))))))))))))))):_):=by kernel_rfl
theorem UG:Ar prog Aak (Ab [(9,EU)]) 0 (f155.body.getD .skip):=by
 refine An (a:=body f155 0) (by kernel_rfl) fun d ex d' h=>?_
 unfold EU at h
 dsimp only at h
 split at h
 ·rename_i i k l y0 y1 y2 y3 y4 y5
  obtain ⟨hc,hx⟩:=Ad h
  clear h
  obtain ⟨h0,h1,h2,h3⟩:=of_decide_eq_true hc
  obtain ⟨k,rfl⟩:=eq_ofNat_of_zero_le h0
  obtain ⟨i,rfl⟩:=eq_ofNat_of_zero_le (by omega:0<=i)
  simp only [ntN] at h2 hx
  have hM:maxI=9223372036854775807:=rfl
  have hlen:(l.take i).length=i:=by rw [List.length_take]; omega
  refine B7 (l:=l.take i) (fun o:Ty=>!(o.2.2.2.2.1==y4&&(decide (o.2.2.1>=y2)||o.2.1==y1))) (fun k=>([.j (i:Int),.ptr 0 0,.ptr 1 0,.j (k:Int)],[some (.box [.sl TCd l]),some (.box [.j y0,.s y1,.j y2,.b y3,.j y4,.j y5])])) (ex:=(.exit 0,([],[]))) (rt:=(.ret,([.b false],[]))) (by simp) (by simp) (fun n hn=>?_) ?_ ((l.take i).length-k) k (by rw [hlen]; omega) ex d' hx
  ·rw [hlen] at hn
   have hnl:n<l.length:=by omega
   have hr:=HH l y0 y1 y2 y3 y4 y5 i n
   rw [Ag (dcT (by omega)),Aa (by simp only [anE,dcE]; omega)] at hr
   simp only [ntN,gtE hnl,Am,Ap (n:=n) (by omega)] at hr
   refine hr.trans ?_
   rw [List.getElem_take]
   cases l[n].2.2.2.2.1==y4<;>cases decide (l[n].2.2.1>=y2)<;>cases l[n].2.1==y1<;>rfl
  ·have hr:=HH l y0 y1 y2 y3 y4 y5 i i
   rw [Ac (dcF (by omega))] at hr
   rw [hlen]
   exact hr
 ·cases h
theorem Si (l:List Ty) (i:Int) (hc:0<=i/\i.toNat<l.length/\l.length<=4000000000) (hs:CR l i.toNat=true) (hn:nmL l=true):Ax prog Aak (Ab [(9,EU)]) f155 [.agg [.sl TCd l],.j i] []=some (.b (DS l i.toNat),[]):=by
 rw [PW]
 obtain ⟨h0,h1,h2⟩:=hc
 obtain ⟨i,rfl⟩:=eq_ofNat_of_zero_le h0
 simp only [ntN] at h1 hs
 have hM:maxI=9223372036854775807:=rfl
 have hu:AY l i=some (l[i].2.2.2.2.1):=by unfold AY; rw [gtE h1]; rfl
 have hlb:=Hd h1
 have hnm:l[i].2.1.length<=maxI:=of_decide_eq_true (all_eq_true.1 hn _ (getElem_mem h1))
 rw [Aa (by simp only [anE,dcE]; omega)]
 simp only [ntN,gtE h1,Am]
 unfold DS
 rw [hu,hlb]
 dsimp only
 by_cases a1:l[i].2.2.2.2.1<0
 ·rw [Ag (dcT a1),dcF (by omega)]; rfl
 rw [Ac (dcF a1)]
 by_cases a2:l[i].2.2.2.2.1>=(i:Int)
 ·rw [Ag (dcT a2),dcF (by omega)]; rfl
 obtain ⟨u,hu2⟩:=eq_ofNat_of_zero_le (by omega:0<=l[i].2.2.2.2.1)
 rw [hu2] at a2 ⊢
 have hul:u<l.length:=by omega
 have hg:(decide ((0:Int)<=(u:Int))&&decide ((u:Int)<(l.length:Int)))=true:=by simp only [anE,dcE]; omega
 rw [Ac (dcF a2),dcT (show 0<=(u:Int)/\(u:Int)<(i:Int) by omega),hg]
 simp only [ntN,gtE hul,Am,Dc]
 rw [Hd hul]
 dsimp only
 cases AH l[u].1 with
 | false=>rfl
 | true=>
  rw [Bool.not_true,AS,Aa (by rw [anE]; exact ⟨dcT ⟨by omega,h1,h2⟩,hs⟩)]
  cases DM l i with
  | false=>rfl
  | true=>
   rw [Bool.not_true,AS]
   by_cases a4:l[u].1=4
   ·rw [Ag (by rw [a4]; rfl),if_pos a4]
    cases l[i].2.1==Aj UInt8<;>cases l[i].2.2.1==0<;>rfl
   ·rw [Ac (beq_false_of_ne a4),if_neg a4,Aa (dcT hnm),Ap (n:=u) (by omega)]
    have d1:decide (1<=l[i].2.2.1/\l[i].2.2.1<=30)=(decide (1<=l[i].2.2.1)&&decide (l[i].2.2.1<=30)):=decide_and ..
    rw [d1,Aa (dcT ⟨by omega,by omega,h1,h2⟩),ntN]
    cases FA l[i].2.1<;>cases (decide (1<=l[i].2.2.1)&&decide (l[i].2.2.1<=30))<;>cases Uo (u:Int) l[i].2.2.1 l[i].2.1 ((l.take i).drop (u+1))<;>rfl
theorem Acc:Af prog 155 (Ent.rd1 O7).F:=by
 refine Ae (kc func193 T4 (kc func194 Xu (kc func195 Adu (kc func115 JD KnowsL.nil)))).knows (Λ:=(Ab [(9,EU)])) func155 (c:=f155.body.getD .skip) (by kernel_rfl) fun vs bs r hq hv hb=>?_
 unfold Ent.F O7 at hq
 dsimp only at hq
 split at hq
 ·rename_i l i
  obtain ⟨hc,hx⟩:=Ad hq
  rw [anE,anE] at hc
  exact ⟨UG,(Si l i (of_decide_eq_true hc.1.1) hc.1.2 hc.2).trans hx⟩
 ·cases hq
instance decTy0:DecidableEq (Bool×Int×Int×Unit):=inferInstance
instance decTy:DecidableEq Ty:=inferInstance
def G5:LoopEnt:=⟨105,[1,13,14,15],[1],[2],fun
 | ([.ptr 0 0,.sl TCd q,.i .i64 m,.i .i64 i],[some (.box [.sl TCd l])])=>.need (decide (0<=i/\i.toNat<=l.length/\m=l.length/\eqT (List Ty) q l/\l.length<=4000000000)&&nmL l&&CR l i.toNat) (.br (((range l.length).drop i.toNat).all (okT l)) (.leaf (.exit 0,([.ptr 0 0],[some (.box [.sl TCd l])]))) (.leaf (.ret,([.b false],[]))))
 | _=>.no⟩
def HY:LoopEnt:=⟨105,[1,83,84,85],[1],[2],fun
 | ([.ptr 0 0,.sl TCd q,.i .i64 m,.i .i64 i],[some (.box [.sl TCd l])])=>.need (decide (0<=i/\i.toNat<=l.length/\m=l.length/\eqT (List Ty) q l/\l.length<=4000000000)) (.br (((range l.length).drop i.toNat).all (Et l)) (.leaf (.exit 2,([.ptr 0 0],[some (.box [.sl TCd l])]))) (.leaf (.ret,([.b false],[]))))
 | _=>.no⟩
abbrev OR:FuncId->Option Ent:=Ab [(115,.rd1 A3),(155,.rd1 O7),(156,.rd1 JS),(119,.rd1 HG),(157,.rd1 RF)]
theorem Np (l q:List Ty) (m i:Int):Av prog OR (Ab [(4,G5),(12,HY)]) 0 (body f114 0) G5 ([.ptr 0 0,.sl TCd q,.j m,.j i],[some (.box [.sl TCd l])]) =
 ((ifB (decide (i<m)) (ifT (decide ((0:Int)<=i)&&decide (i<(↑q.length:Int))) (Ai q[i.toNat]? fun z=>shr z.snd.snd fun sh4=>shr sh4.snd.snd.snd fun sh3=>
 shr (ifB (decide (i>(0:Int))) (ifT (decide ((0:Int)<=i/\i.toNat<l.length/\l.length<=4000000000)&&CR l i.toNat&&nmL l) (ifB (!DS l i.toNat)
 (some (Ex.ret,[V.b false],[])) (some (Ex.normal,[V.ptr 0 0,V.sl TCd q,V.j m,V.j (i64.wrap (i+(1:Int)))],[some (Blk.box [V.sl TCd l])]))))
 (some (Ex.normal,[V.ptr 0 0,V.sl TCd q,V.j m,V.j (i64.wrap (i+(1:Int)))],[some (Blk.box [V.sl TCd l])]))) fun sh2=>shr (ifB (i==(0:Int))
 (ifB (z.fst != (5:Int)) (some (Ex.ret,[V.b false],[])) (ifB (sh4.snd.snd.fst != (-1:Int)) (some (Ex.ret,[V.b false],[])) (ifB (!z.snd.fst==Aj UInt8) (some
 (Ex.ret,[V.b false],[])) (ifB (sh4.fst != (0:Int)) (some (Ex.ret,[V.b false],[])) (ifB sh4.snd.fst (some (Ex.ret,[V.b false],[])) sh2))))) sh2) fun sh1=>ifB
 (!decide ((1:Int)<=z.fst/\z.fst<=(5:Int))) (some (Ex.ret,[V.b false],[])) (ifB (z.fst==(3:Int)) (ifB (!decide ((0:Int)<=sh3.fst/\sh3.fst<=(20:Int)))
 (some (Ex.ret,[V.b false],[])) (ifB (z.fst != (3:Int)) (ifB (sh3.fst != (0:Int)) (some (Ex.ret,[V.b false],[])) sh1) sh1)) (ifB (z.fst != (3:Int)) (ifB (sh3.fst
 != (0:Int)) (some (Ex.ret,[V.b false],[])) sh1) sh1)))) (some (Ex.exit 0,[V.ptr 0 0],[some (Blk.box [V.sl TCd l])]))):_):=by kernel_rfl
theorem Nn (l q:List Ty) (m i:Int):Av prog OR (Ab [(4,G5),(12,HY)]) 0 (body f114 1) HY ([.ptr 0 0,.sl TCd q,.j m,.j i],[some (.box [.sl TCd l])]) =
 ((ifB (decide (i<m)) (ifT (decide ((0:Int)<=i)&&decide (i<(↑q.length:Int))) (Ai q[i.toNat]? fun z=>ifB (z.fst==(4:Int)) (ifT (decide ((0:Int)<=i/\
 i.toNat<l.length/\l.length<=4000000000)) (ifB ((↑(By l i.toNat).length:Int) != (1:Int)) (some (Ex.ret,[V.b false],[])) (some (Ex.normal,[V.ptr 0 0,
 V.sl TCd q,V.j m,V.j (i64.wrap (i+(1:Int)))],[some (Blk.box [V.sl TCd l])])))) (some (Ex.normal,[V.ptr 0 0,V.sl TCd q,V.j m,V.i .i64
 (i64.wrap (i+(1:Int)))],[some (Blk.box [V.sl TCd l])])))) (some (Ex.exit 2,[V.ptr 0 0],[some (Blk.box [V.sl TCd l])]))):_):=by kernel_rfl
theorem ZA (l:List Ty):Ax prog OR (Ab [(4,G5),(12,HY)]) f114 [.agg [.sl TCd l]] [] =
 ((ifB (!decide ((1:Int)<=(↑l.length:Int)/\(↑l.length:Int)<=(30:Int))) (some (V.b false,[])) (ifT (decide ((0:Int)<=(0:Int)/\0<=l.length/\
 (↑l.length:Int)=(↑l.length:Int)/\eqT (List Ty) l l/\l.length<=4000000000)&&nmL l&&CR l 0) (ifB ((drop 0 (range
 l.length)).all (okT l)) (ifT (decide ((0:Int)<=(0:Int)/\0<=l.length/\(↑l.length:Int)=(↑l.length:Int)/\eqT (List Ty) l l/\l.length<=(4000000000 :
 Nat))) (ifB ((drop 0 (range l.length)).all (Et l)) (ifT (decide ((0:Int)<=(0:Int)/\0<l.length/\l.length<=4000000000)) (ifT
 (decide (A1 (take (t2L l 0).kids.length (drop 0 (t2L l 0).kids))+1<=1000000)) (some (V.b (decide ((↑(Cg
 (take (t2L l 0).kids.length (drop 0 (t2L l 0).kids))+bif AH (t2L l 0).lab.fst then 1 else 0):Int)<=(5 :
 Int))),[])))) (some (V.b false,[])))) (some (V.b false,[]))))):_):=by kernel_rfl
theorem Ra {l:List Ty} {i:Nat} (h:CR l i=true) {u:Int} (hu:AY l i=some u) (hlt:u<(i:Int)):CR l (i+1)=true:=by
 unfold CR at h ⊢
 rw [List.range_succ,List.all_append,h,Bool.true_and,List.all_cons,List.all_nil,Bool.and_true,hu]
 exact dcT hlt
theorem Ab3 {l:List Ty} {i:Nat} (h:okT l i=true) : ∃ u,AY l i=some u/\u<(i:Int):=by
 unfold okT at h
 rw [anE] at h
 have h:=h.2
 by_cases hz:i=0
 ·subst hz
  rw [if_pos rfl] at h
  simp only [anE,dcE] at h
  exact ⟨-1,h.1.1.1.2,by omega⟩
 ·rw [if_neg hz] at h
  unfold DS at h
  cases hu:AY l i with
  | none=>rw [hu] at h; cases h
  | some u=>
   rw [hu] at h
   simp only [anE,dcE] at h
   exact ⟨u,rfl,h.1.1.1.2⟩
theorem XS (l:List Ty) (hl:l.length<=4000000000) (hn:nmL l=true) (i:Nat) (hi:i<l.length) (hs:CR l i=true) :
  Av prog OR (Ab [(4,G5),(12,HY)]) 0 (body f114 0) G5 ([.ptr 0 0,.sl TCd l,.j (l.length:Int),.j (i:Int)],[some (.box [.sl TCd l])])=some (bif okT l i then (.normal,([.ptr 0 0,.sl TCd l,.j (l.length:Int),.j ((i+1:Nat):Int)],[some (.box [.sl TCd l])])) else (.ret,([.b false],[]))):=by
 have hM:maxI=9223372036854775807:=rfl
 have hr:=Np l l l.length i
 dsimp only [shr] at hr
 rw [Ag (dcT (by omega)),Aa (by simp only [anE,dcE]; omega)] at hr
 simp only [ntN,gtE hi,Am,Ap (n:=i) (by omega)] at hr
 refine hr.trans ?_
 clear hr
 have hc:(decide ((0:Int)<=(i:Int)/\i<l.length/\l.length<=4000000000)&&CR l i&&nmL l)=true:=by
  rw [hs,hn,dcT (show (0:Int)<=(i:Int)/\i<l.length/\l.length<=4000000000 from ⟨by omega,hi,hl⟩)]; rfl
 rw [hc]
 have hkm:kmB (A5 l i)=(decide (1<=l[i].1/\l[i].1<=5)&&(bif l[i].1==3 then decide (0<=l[i].2.2.2.2.2.1/\l[i].2.2.2.2.2.1<=20) else l[i].2.2.2.2.2.1==0)):=by
  rw [Hd hi]
  unfold kmB
  dsimp only
  by_cases h3:l[i].1=3
  ·rw [if_pos h3,h3]; rfl
  ·rw [if_neg h3,beq_false_of_ne h3]; rfl
 unfold okT
 rw [hkm]
 unfold bne
 by_cases hz:i=0
 ·subst hz
  have hu:decide (AY l 0=some (-1))=(l[0].2.2.2.2.1==-1):=by
   unfold AY
   rw [gtE hi]
   by_cases h1:l[0].2.2.2.2.1 = -1
   ·rw [map_some,h1]; simp
   ·rw [beq_false_of_ne h1]; exact dcF (fun h=>h1 (Option.some.inj h))
  rw [if_pos rfl,Hd hi,hu]
  simp only [show (((0:Nat):Int)==0)=true from rfl,show decide (((0:Nat):Int)>0)=false from rfl]
  have hnil:(l[0].2.1==([]:List UInt8))=(l[0].2.1==Aj UInt8):=rfl
  rw [hnil]
  generalize decide (1<=l[0].1/\l[0].1<=5)=K
  generalize (l[0].1==3)=c3
  generalize (l[0].1==5)=c5
  generalize decide (0<=l[0].2.2.2.2.2.1/\l[0].2.2.2.2.2.1<=20)=M
  generalize (l[0].2.2.2.2.2.1==0)=m0
  generalize (l[0].2.2.2.2.1==-1)=u0
  generalize (l[0].2.1==Aj UInt8)=nm
  generalize (l[0].2.2.1==0)=no
  generalize l[0].2.2.2.1=mu
  cases K<;>cases c3<;>cases c5<;>cases M<;>cases m0<;>cases u0<;>cases nm<;>cases no<;>cases mu<;>rfl
 ·rw [if_neg hz]
  have h0:((i:Int)==0)=false:=beq_false_of_ne (by omega)
  have h1:decide ((i:Int)>0)=true:=dcT (by omega)
  rw [h0,h1]
  generalize decide (1<=l[i].1/\l[i].1<=5)=K
  generalize (l[i].1==3)=c3
  generalize decide (0<=l[i].2.2.2.2.2.1/\l[i].2.2.2.2.2.1<=20)=M
  generalize (l[i].2.2.2.2.2.1==0)=m0
  generalize DS l i=p
  cases K<;>cases c3<;>cases M<;>cases m0<;>cases p<;>rfl
theorem RH {n i:Nat} (h:i<n):(range n).drop i=i::(range n).drop (i+1):=by
 rw [drop_eq_getElem_cons (by simpa using h)]; simp
theorem Qs (l:List Ty) (hl:l.length<=4000000000) (hn:nmL l=true) : ∀ (j i:Nat),i+j=l.length->CR l i=true->∀ ex d,(Br.br (((range l.length).drop i).all (okT l)) (.leaf (.exit 0,([.ptr 0 0],[some (.box [.sl TCd l])]))) (.leaf (.ret,([.b false],[]))):Br (Ex×Dt)).run=some (ex,d)->
  Runs prog OR (Ab [(4,G5),(12,HY)]) 0 (body f114 0) G5 ([.ptr 0 0,.sl TCd l,.j (l.length:Int),.j (i:Int)],[some (.box [.sl TCd l])]) ex d
 | 0,i,hi,hs,ex,d,h=>by
  have hr:=Np l l l.length i
  dsimp only [shr] at hr
  rw [Ac (dcF (by omega))] at hr
  have e1:(range l.length).drop i=[]:=drop_eq_nil_of_le (by simp; omega)
  rw [e1] at h
  have h8:=Ao h
  obtain ⟨rfl,rfl⟩:=Prod.mk.inj h8
  exact .stop _ _ _ hr (by simp)
 | j+1,i,hi,hs,ex,d,h=>by
  have hr:=XS l hl hn i (by omega) hs
  rw [RH (by omega),List.all_cons] at h
  cases hk:okT l i with
  | true=>
   rw [hk,cond_true] at hr
   rw [hk,Bool.true_and] at h
   obtain ⟨u,hu,hlt⟩:=Ab3 hk
   exact .step _ _ _ _ hr (Qs l hl hn j (i+1) (by omega) (Ra hs hu hlt) ex d h)
  | false=>
   rw [hk,cond_false] at hr
   rw [hk,Bool.false_and] at h
   have h8:=Ao h
   obtain ⟨rfl,rfl⟩:=Prod.mk.inj h8
   exact .stop _ _ _ hr (by simp)
theorem Ac2 : ∀ d e d',(G5.L d).run=some (e,d')->Runs prog OR (Ab [(4,G5),(12,HY)]) 0 (body f114 0) G5 d e d':=fun d ex d' h=>by
 unfold G5 at h
 dsimp only at h
 split at h
 ·rename_i q m i l
  obtain ⟨hc,hx⟩:=Ad h
  clear h
  rw [anE,anE] at hc
  obtain ⟨⟨hc,hn⟩,hs⟩:=hc
  obtain ⟨h0,h1,rfl,h3,h4⟩:=of_decide_eq_true hc
  have h3:q=l:=h3
  subst h3
  obtain ⟨i,rfl⟩:=eq_ofNat_of_zero_le h0
  simp only [ntN] at h1 hs hx
  exact Qs _ h4 hn _ i (Nat.add_sub_of_le h1) hs ex d' hx
 ·cases h
theorem Ac1 : ∀ d e d',(HY.L d).run=some (e,d')->Runs prog OR (Ab [(4,G5),(12,HY)]) 0 (body f114 1) HY d e d':=fun d ex d' h=>by
 unfold HY at h
 dsimp only at h
 split at h
 ·rename_i q m i l
  obtain ⟨hc,hx⟩:=Ad h
  clear h
  obtain ⟨h0,h1,rfl,h3,h4⟩:=of_decide_eq_true hc
  have h3:q=l:=h3
  subst h3
  obtain ⟨i,rfl⟩:=eq_ofNat_of_zero_le h0
  simp only [ntN] at h1 hx
  have hM:maxI=9223372036854775807:=rfl
  refine B7 (l:=range q.length) (Et q) (fun i=>([.ptr 0 0,.sl TCd q,.j (q.length:Int),.j (i:Int)],[some (.box [.sl TCd q])])) (ex:=(.exit 2,([.ptr 0 0],[some (.box [.sl TCd q])]))) (rt:=(.ret,([.b false],[]))) (by simp) (by simp) (fun n hn=>?_) ?_ (q.length-i) i (by simp; omega) ex d' hx
  ·have hn:n<q.length:=by simpa using hn
   have hr:=Nn q q q.length n
   rw [Ag (dcT (by omega)),Aa (by simp only [anE,dcE]; omega)] at hr
   simp only [ntN,gtE hn,Am,Ap (n:=n) (by omega)] at hr
   refine hr.trans ?_
   rw [Aa (dcT ⟨by omega,hn,h4⟩),List.getElem_range]
   have e1:(((By q n).length:Int) != 1)=((By q n).length != 1):=by
    by_cases h:(By q n).length=1
    ·rw [h]; rfl
    ·have h2:((By q n).length:Int)≠1:=by omega
     unfold bne
     rw [beq_false_of_ne h,beq_false_of_ne h2]
   rw [e1]
   unfold Et
   rw [Hd hn]
   dsimp only
   cases q[n].1==4<;>cases (By q n).length != 1<;>rfl
  ·have hr:=Nn q q q.length q.length
   rw [Ac (dcF (by omega))] at hr
   simp only [List.length_range]
   exact hr
 ·cases h
theorem Ae0:Ar prog OR (Ab [(4,G5),(12,HY)]) 0 (f114.body.getD .skip):=
 LoopsI.loops (.cons (a:=body f114 0) (by kernel_rfl) Ac2 (.cons (a:=body f114 1) (by kernel_rfl) Ac1 .nil)) (by kernel_rfl)
theorem Ac0 (l:List Ty) (h1:l.length<=4000000000) (hn:nmL l=true):Ax prog OR (Ab [(4,G5),(12,HY)]) f114 [.agg [.sl TCd l]] []=some (.b (Bf l),[]):=by
 rw [ZA,<- (HX l).1]
 have hq:=HX l
 have hu0:CR l 0=true:=rfl
 have d0:decide ((0:Int)<=0/\0<=l.length/\(l.length:Int)=(l.length:Int)/\eqT (List Ty) l l/\l.length<=4000000000)=true:=dcT ⟨by omega,by omega,rfl,rfl,h1⟩
 rw [d0,hn,hu0,drop_zero,drop_zero,take_length]
 have hle:decide (1<=(l.length:Int)/\(l.length:Int)<=30)=decide (1<=l.length/\l.length<=30):=decide_eq_decide.2 (by omega)
 rw [hle]
 have hdp:Cg (t2L l 0).kids+(bif AH (t2L l 0).lab.1 then 1 else 0)=BH (t2L l 0):=MH _
 have hd5:decide ((BH (t2L l 0):Int)<=5)=decide (BH (t2L l 0)<=5):=decide_eq_decide.2 (by omega)
 rw [hdp,hd5]
 unfold L3
 cases a1:decide (1<=l.length/\l.length<=30) with
 | false=>rfl
 | true=>
  have a1:=of_decide_eq_true a1
  cases a2:(range l.length).all (okT l) with
  | false=>rfl
  | true=>
   have H:=P1 (by omega) a2
   have he:=H.end' (by omega)
   have hc:=Sq (l:=l) (a:=0) (by omega)
   have hk:=Cp (t2L l 0)
   rw [he.1,he.2] at hc
   have d1:decide ((0:Int)<=0/\0<l.length/\l.length<=4000000000)=true:=dcT ⟨by omega,by omega,h1⟩
   have d2:decide (A1 (t2L l 0).kids+1<=1000000)=true:=dcT (by omega)
   rw [d1,d2]
   cases (range l.length).all (Et l)<;>rfl
theorem Ww:Af prog 114 (Ent.rd1 Jx).F:=by
 refine Ae (kc func115 JD (kc func155 Acc (kc func156 Xt (kc func119 Sh (kc func157 Adz KnowsL.nil))))).knows (Λ:=(Ab [(4,G5),(12,HY)])) func114 (c:=f114.body.getD .skip) (by kernel_rfl) fun vs bs r hq hv hb=>?_
 unfold Ent.F Jx at hq
 dsimp only at hq
 split at hq
 ·rename_i l
  obtain ⟨hc,hx⟩:=Ad hq
  rw [anE] at hc
  exact ⟨Ae0,(Ac0 l (of_decide_eq_true hc.1) hc.2).trans hx⟩
 ·cases hq
abbrev Nd:=Int×List UInt8×Int×Int×Bool×Unit
def Dy (n:Int):Bool:=decide (-1000000000<=n)&&decide (n<=1000000000)
def Fq:Gm
 | [.i .i64 n],[]=>.leaf (.b (Dy n),[])
 | _,_=>.no
theorem U5 (n:Int):Ax prog (Ab [(125,.rd1 A3)]) (Ab []) f218 [.j n] []=(.leaf (.b (Dy n),[]):Br (V×List (Option Blk))).run:=by
 have e:Ax prog (Ab [(125,.rd1 A3)]) (Ab []) f218 [.j n] []=((some (V.b (decide ((-1000000000:Int)<=n/\n<=(1000000000:Int))),[])):_):=by kernel_rfl
 rw [e]
 clear e
 unfold Dy
 rw [decide_and]
 rfl
theorem Xe:Af prog 218 (Ent.rd1 Fq).F:=by
 refine Ae (kc func125 Dl KnowsL.nil).knows (Λ:=Ab []) func218 (c:=f218.body.getD .skip) (by kernel_rfl) fun vs bs r' hq hv hb=>?_
 unfold Ent.F Fq at hq
 dsimp only at hq
 split at hq
 ·rename_i n
  exact ⟨Ak _,(U5 n).trans hq⟩
 ·cases hq
theorem UI (n:Int):Ax prog (Ab [(115,.rd1 A3)]) (Ab []) f196 [.j n] []=(.leaf (.b (Dy n),[]):Br (V×List (Option Blk))).run:=by
 have e:Ax prog (Ab [(115,.rd1 A3)]) (Ab []) f196 [.j n] []=((some (V.b (decide ((-1000000000:Int)<=n/\n<=(1000000000:Int))),[])):_):=by kernel_rfl
 rw [e]
 clear e
 unfold Dy
 rw [decide_and]
 rfl
theorem Xv:Af prog 196 (Ent.rd1 Fq).F:=by
 refine Ae (kc func115 JD KnowsL.nil).knows (Λ:=Ab []) func196 (c:=f196.body.getD .skip) (by kernel_rfl) fun vs bs r' hq hv hb=>?_
 unfold Ent.F Fq at hq
 dsimp only at hq
 split at hq
 ·rename_i n
  exact ⟨Ak _,(UI n).trans hq⟩
 ·cases hq




abbrev AW:=Int×List UInt8×Int×Bool×Unit

def byR (n:Int):List (Rose Lab)->Rose Lab
 | []=>.node (0,[],0,false,0,()) []
 | z::l=>if z.lab.2.2.1=n then z else byR n l
def B8 (n:Int) (l:List (Rose Lab)):Bool:=l.any fun z=>z.lab.2.2.1==n
def Dj (n:Int) (l:List (Rose AW)):Bool:=l.any fun x=>x.lab.2.2.1==n
def Ci (vs:List (Rose AW)) (ks:List (Rose Lab)):Bool:=ks.all fun y=>!y.lab.2.2.2.1||Dj y.lab.2.2.1 vs
def byG:Gm
 | [.agg [.i .i64 _,.s _,.i .i64 _,.b _,.i .i64 _,.sl (.rose LCd) ys],.i .i64 n],[]=>.need (decide (ys.length<=maxI)) (.br (B8 n ys) (.leaf (.tup [.agg [.i .i64 (byR n ys).lab.1,.s (byR n ys).lab.2.1,.i .i64 (byR n ys).lab.2.2.1,.b (byR n ys).lab.2.2.2.1,.i .i64 (byR n ys).lab.2.2.2.2.1,.sl (.rose LCd) (byR n ys).kids],.b true],[])) (.leaf (.tup [.agg [.i .i64 0,.s [],.i .i64 0,.b false,.i .i64 0,.ref 0 0 0],.b false],[some (.row false none (.rose LCd) [])])))
 | _,_=>.no
def byE:LoopEnt:=⟨22,[1,4,9,10,11],[4],[4,5],fun
 | ([.i .i64 n,.ptr 0 0,.sl (.rose LCd) ks,.i .i64 k,.i .i64 i],[some (.box [.i .i64 0,.s [],.i .i64 0,.b false,.i .i64 0,.ref 1 0 0]),some (.row false none (.rose LCd) [])])=>.need (decide (0<=i/\i.toNat<=ks.length/\k=ks.length/\ks.length<=maxI)) (.br (B8 n (ks.drop i.toNat)) (.leaf (.ret,([.ptr 0 0,.b true],[some (.box [.i .i64 (byR n (ks.drop i.toNat)).lab.1,.s (byR n (ks.drop i.toNat)).lab.2.1,.i .i64 (byR n (ks.drop i.toNat)).lab.2.2.1,.b (byR n (ks.drop i.toNat)).lab.2.2.2.1,.i .i64 (byR n (ks.drop i.toNat)).lab.2.2.2.2.1,.sl (.rose LCd) (byR n (ks.drop i.toNat)).kids])]))) (.leaf (.exit 0,([.ptr 0 0],[some (.box [.i .i64 0,.s [],.i .i64 0,.b false,.i .i64 0,.ref 1 0 0]),some (.row false none (.rose LCd) [])]))))
 | _=>.no⟩
def KY:Gm
 | [.agg [.i .i64 _,.s _,.i .i64 _,.b _,.sl (.rose VCd) xs],.agg [.i .i64 _,.s _,.i .i64 _,.b _,.i .i64 _,.sl (.rose LCd) ys]],[]=>.need (decide (ys.length<=maxI/\xs.length<=maxI)) (.leaf (.b (Ci xs ys),[]))
 | _,_=>.no
def KZ:LoopEnt:=⟨39,[2,11,12,13],[],[4],fun
 | ([.ptr 0 0,.sl (.rose LCd) ks,.i .i64 k,.i .i64 i],[some (.box [.i .i64 _,.s _,.i .i64 _,.b _,.sl (.rose VCd) xs])])=>.need (decide (0<=i/\i.toNat<=ks.length/\k=ks.length/\ks.length<=maxI/\xs.length<=maxI)) (.br (Ci xs (ks.drop i.toNat)) (.leaf (.exit 0,([],[]))) (.leaf (.ret,([.b false],[]))))
 | _=>.no⟩
def JB:LoopEnt:=⟨39,[2,6,7,11,12,13,21,22,23],[2,7,11,12,13],[],fun
 | ([.ptr 0 0,.ptr 1 0,.b f,.sl (.rose LCd) ks,.i .i64 k,.i .i64 i,.sl (.rose VCd) us,.i .i64 m,.i .i64 j],[some (.box [.i .i64 x0,.s x1,.i .i64 x2,.b x3,.sl (.rose VCd) xs]),some (.box [.i .i64 _,.s _,.i .i64 y2,.b _,.i .i64 _,.sl (.rose LCd) _])])=>.need (decide (0<=j/\j.toNat<=us.length/\m=us.length/\us.length<=maxI)) (.leaf (.exit 2,([.ptr 0 0,.b (f||Dj y2 (us.drop j.toNat)),.sl (.rose LCd) ks,.i .i64 k,.i .i64 i],[some (.box [.i .i64 x0,.s x1,.i .i64 x2,.b x3,.sl (.rose VCd) xs])])))
 | _=>.no⟩
theorem QA (n:Int) (ks:List (Rose Lab)) (k i:Int):Av prog (Ab []) (Ab [(2,byE)]) 0 (body f159 0) byE ([.j n,.ptr 0 0,.sl (.rose LCd) ks,.j k,.j i],[some (.box [.j 0,.s [],.j 0,.b false,.j 0,.ref 1 0 0]),some (.row false none (.rose LCd) [])]) =
 ((ifB (decide (i<k)) (ifT (decide ((0:Int)<=i)&&decide (i<(↑ks.length:Int))) (Ai ks[i.toNat]? fun z=>ifB ((Rose.lab z).snd.snd.fst==n) (some (Ex.ret,
 [V.ptr 0 0,V.b true],[some (Blk.box [V.j (Rose.lab z).fst,V.s (Rose.lab z).snd.fst,V.j (Rose.lab z).snd.snd.fst,V.b (Rose.lab z).snd.snd.snd.fst,V.i .i64
 (Rose.lab z).snd.snd.snd.snd.fst,V.sl LCd.rose (Rose.kids z)])])) (some (Ex.normal,[V.j n,V.ptr 0 0,V.sl LCd.rose ks,V.j k,V.j (i64.wrap (i +
 (1:Int)))],[some (Blk.box [V.j 0,V.s (Aj UInt8),V.j 0,V.b false,V.j 0,V.ref 1 0 0]),some (Blk.row false none LCd.rose (Aj LCd.rose.den))]))))
 (some (Ex.exit 0,[V.ptr 0 0],[some (Blk.box [V.j 0,V.s (Aj UInt8),V.j 0,V.b false,V.j 0,V.ref 1 0 0]),some (Blk.row false none LCd.rose (Aj
 LCd.rose.den))]))):_):=by kernel_rfl
theorem ZX (y0:Int) (y1:List UInt8) (y2:Int) (y3:Bool) (y4:Int) (ys:List (Rose Lab)) (n:Int):DH prog (Ab []) (Ab [(2,byE)]) f159 [.agg [.j y0,.s y1,.j y2,.b y3,.j y4,.sl (.rose LCd) ys],.j n] [] =
 ((ifT (decide ((0:Int)<=(0:Int)/\0<=ys.length/\(↑ys.length:Int)=(↑ys.length:Int)/\ys.length<=maxI)) (ifB (B8 n (drop 0 ys)) (some
 (V.tup [V.agg [V.j (byR n (drop 0 ys)).lab.fst,V.s (byR n (drop 0 ys)).lab.snd.fst,V.j (byR n (drop 0
 ys)).lab.snd.snd.fst,V.b (byR n (drop 0 ys)).lab.snd.snd.snd.fst,V.j (byR n (drop 0 ys)).lab.snd.snd.snd.snd.fst,V.sl LCd.rose (byR n
 (drop 0 ys)).kids],V.b true],[])) (some (V.tup [V.agg [V.j 0,V.s (Aj UInt8),V.j 0,V.b false,V.j 0,V.ref 0 0 0],V.b false],[some
 (Blk.row false none LCd.rose (Aj LCd.rose.den))])))):_):=by kernel_rfl
theorem TG (n:Int) (ks:List (Rose Lab)) (hm:ks.length<=maxI) : ∀ (j i:Nat),i+j=ks.length->∀ ex d,(Br.br (B8 n (ks.drop i)) (.leaf (.ret,([.ptr 0 0,.b true],[some (.box [.j (byR n (ks.drop i)).lab.1,.s (byR n (ks.drop i)).lab.2.1,.j (byR n (ks.drop i)).lab.2.2.1,.b (byR n (ks.drop i)).lab.2.2.2.1,.j (byR n (ks.drop i)).lab.2.2.2.2.1,.sl (.rose LCd) (byR n (ks.drop i)).kids])]))) (.leaf (.exit 0,([.ptr 0 0],[some (.box [.j 0,.s [],.j 0,.b false,.j 0,.ref 1 0 0]),some (.row false none (.rose LCd) [])]))):Br (Ex×Dt)).run=some (ex,d)->
  Runs prog (Ab []) (Ab [(2,byE)]) 0 (body f159 0) byE ([.j n,.ptr 0 0,.sl (.rose LCd) ks,.j (ks.length:Int),.j (i:Int)],[some (.box [.j 0,.s [],.j 0,.b false,.j 0,.ref 1 0 0]),some (.row false none (.rose LCd) [])]) ex d
 | 0,i,hi,ex,d,h=>by
  have hr:=QA n ks ks.length i
  rw [Ac (dcF (by omega))] at hr
  rw [drop_eq_nil_of_le (by omega)] at h
  have h8:=Ao h
  obtain ⟨rfl,rfl⟩:=Prod.mk.inj h8
  exact .stop _ _ _ hr (by simp)
 | j+1,i,hi,ex,d,h=>by
  have hl:i<ks.length:=by omega
  have hM:maxI=9223372036854775807:=rfl
  have hr:=QA n ks ks.length i
  rw [Ag (dcT (by omega)),Aa (by simp only [anE,dcE]; omega)] at hr
  simp only [ntN,gtE hl,Am,Ap (n:=i) (by omega)] at hr
  rw [drop_eq_getElem_cons hl] at h
  unfold B8 at h
  rw [any_cons,byR] at h
  by_cases q:ks[i].lab.2.2.1=n
  ·have qb:(ks[i].lab.2.2.1==n)=true:=by rw [q]; exact beq_self_eq_true _
   rw [qb,Bool.true_or,if_pos q] at h
   rw [qb,Be] at hr
   have h8:=Ao h
   obtain ⟨rfl,rfl⟩:=Prod.mk.inj h8
   exact .stop _ _ _ hr (by simp)
  ·rw [beq_false_of_ne q,Bool.false_or,if_neg q] at h
   rw [beq_false_of_ne q,AS] at hr
   exact .step _ _ _ _ hr (TG n ks hm j (i+1) (by omega) ex d h)
theorem Ae8:Ar prog (Ab []) (Ab [(2,byE)]) 0 (f159.body.getD .skip):=by
 refine An (a:=body f159 0) (by kernel_rfl) fun d ex d' h=>?_
 unfold byE at h
 dsimp only at h
 split at h
 ·rename_i n ks k i
  obtain ⟨hc,hx⟩:=Ad h
  clear h
  obtain ⟨h0,h1,rfl,h3⟩:=of_decide_eq_true hc
  obtain ⟨i,rfl⟩:=eq_ofNat_of_zero_le h0
  simp only [ntN] at h1 hx
  exact TG n ks h3 (ks.length-i) i (by omega) ex d' hx
 ·cases h
theorem Aeh:Af prog 159 (Ent.rd1 byG).F:=by
 refine Bc KnowsL.nil.knows (Λ:=(Ab [(2,byE)])) func159 (c:=f159.body.getD .skip) (by kernel_rfl) fun vs bs r hq hv hb=>?_
 unfold Ent.F byG at hq
 dsimp only at hq
 split at hq
 ·rename_i y0 y1 y2 y3 y4 ys n
  obtain ⟨hc,hx⟩:=Ad hq
  refine ⟨Ae8,Eq.trans ?_ hx⟩
  rw [ZX,Aa (dcT ⟨by omega,by omega,rfl,of_decide_eq_true hc⟩),drop_zero]
  cases B8 n ys<;>rfl
 ·cases hq
theorem MR (x0:Int) (x1:List UInt8) (x2:Int) (x3:Bool) (xs:List (Rose AW)) (ks:List (Rose Lab)) (k i:Int):Av prog (Ab []) (Ab [(2,KZ),(6,JB)]) 0 (body f171 0) KZ ([.ptr 0 0,.sl (.rose LCd) ks,.j k,.j i],[some (.box [.j x0,.s x1,.j x2,.b x3,.sl (.rose VCd) xs])]) =
 ((ifB (decide (i<k)) (ifT (decide ((0:Int)<=i)&&decide (i<(↑ks.length:Int))) (Ai ks[i.toNat]? fun z=>ifT (decide ((0:Int)<=(0:Int)/\0<=
 xs.length/\(↑xs.length:Int)=(↑xs.length:Int)/\xs.length<=maxI)) (ifB (!(!(Rose.lab z).snd.snd.snd.fst||Dj (Rose.lab z).snd.snd.fst (drop 0
 xs))) (some (Ex.ret,[V.b false],[])) (some (Ex.normal,[V.ptr 0 0,V.sl LCd.rose ks,V.j k,V.j (i64.wrap (i+(1:Int)))],[some (Blk.box [V.i .i64
 x0,V.s x1,V.j x2,V.b x3,V.sl VCd.rose xs])]))))) (some (Ex.exit 0,[],[]))):_):=by kernel_rfl
theorem MQ (x0:Int) (x1:List UInt8) (x2:Int) (x3:Bool) (xs:List (Rose AW)) (y0:Int) (y1:List UInt8) (y2:Int) (y3:Bool) (y4:Int) (ys:List (Rose Lab)) (f:Bool) (ks:List (Rose Lab)) (k i:Int) (us:List (Rose AW)) (m j:Int):Av prog (Ab []) (Ab [(2,KZ),(6,JB)]) 0 (body f171 1) JB ([.ptr 0 0,.ptr 1 0,.b f,.sl (.rose LCd) ks,.j k,.j i,.sl (.rose VCd) us,.j m,.j j],[some (.box [.j x0,.s x1,.j x2,.b x3,.sl (.rose VCd) xs]),some (.box [.j y0,.s y1,.j y2,.b y3,.j y4,.sl (.rose LCd) ys])]) =
 ((ifB (decide (j<m)) (ifT (decide ((0:Int)<=j)&&decide (j<(↑us.length:Int))) (Ai us[j.toNat]? fun z=>ifB f (some (Ex.normal,[V.ptr 0 0,V.ptr 1 0,V.b
 true,V.sl LCd.rose ks,V.j k,V.j i,V.sl VCd.rose us,V.j m,V.j (i64.wrap (j+(1:Int)))],[some (Blk.box [V.j x0,V.s x1,V.i .i64
 x2,V.b x3,V.sl VCd.rose xs]),some (Blk.box [V.j y0,V.s y1,V.j y2,V.b y3,V.j y4,V.sl LCd.rose ys])])) (some (Ex.normal,[V.ptr 0 0,V.ptr 1 0,V.b
 ((Rose.lab z).snd.snd.fst==y2),V.sl LCd.rose ks,V.j k,V.j i,V.sl VCd.rose us,V.j m,V.j (i64.wrap (j+(1:Int)))],[some (Blk.box
 [V.j x0,V.s x1,V.j x2,V.b x3,V.sl VCd.rose xs]),some (Blk.box [V.j y0,V.s y1,V.j y2,V.b y3,V.j y4,V.sl LCd.rose ys])])))) (some
 (Ex.exit 2,[V.ptr 0 0,V.b f,V.sl LCd.rose ks,V.j k,V.j i],[some (Blk.box [V.j x0,V.s x1,V.j x2,V.b x3,V.sl VCd.rose xs])]))):_):=by kernel_rfl
theorem Zm (x0:Int) (x1:List UInt8) (x2:Int) (x3:Bool) (xs:List (Rose AW)) (y0:Int) (y1:List UInt8) (y2:Int) (y3:Bool) (y4:Int) (ys:List (Rose Lab)):Ax prog (Ab []) (Ab [(2,KZ),(6,JB)]) f171 [.agg [.j x0,.s x1,.j x2,.b x3,.sl (.rose VCd) xs],.agg [.j y0,.s y1,.j y2,.b y3,.j y4,.sl (.rose LCd) ys]] [] =
 ((ifT (decide ((0:Int)<=(0:Int)/\0<=ys.length/\(↑ys.length:Int)=(↑ys.length:Int)/\ys.length<=maxI/\xs.length<=maxI)) (ifB (Ci xs (drop (0
 : Nat) ys)) (some (V.b true,[])) (some (V.b false,[])))):_):=by kernel_rfl
theorem Ab8 : ∀ d e d',(KZ.L d).run=some (e,d')->Runs prog (Ab []) (Ab [(2,KZ),(6,JB)]) 0 (body f171 0) KZ d e d':=fun d ex d' h=>by
 unfold KZ at h
 dsimp only at h
 split at h
 ·rename_i ks k i x0 x1 x2 x3 xs
  obtain ⟨hc,hx⟩:=Ad h
  clear h
  obtain ⟨h0,h1,rfl,h3,h4⟩:=of_decide_eq_true hc
  obtain ⟨i,rfl⟩:=eq_ofNat_of_zero_le h0
  simp only [ntN] at h1 hx
  have hM:maxI=9223372036854775807:=rfl
  refine B7 (l:=ks) (fun y:Rose Lab=>!y.lab.2.2.2.1||Dj y.lab.2.2.1 xs) (fun i=>([.ptr 0 0,.sl (.rose LCd) ks,.j (ks.length:Int),.j (i:Int)],[some (.box [.j x0,.s x1,.j x2,.b x3,.sl (.rose VCd) xs])])) (ex:=(.exit 0,([],[]))) (rt:=(.ret,([.b false],[]))) (by simp) (by simp) (fun n hn=>?_) ?_ (ks.length-i) i (by omega) ex d' hx
  ·have hr:=MR x0 x1 x2 x3 xs ks ks.length n
   rw [Ag (dcT (by omega)),Aa (by simp only [anE,dcE]; omega)] at hr
   rw [ntN,gtE hn,Am,Ap (n:=n) (by omega),Aa (dcT ⟨by omega,by omega,rfl,h4⟩),drop_zero] at hr
   refine hr.trans ?_
   cases ks[n].lab.2.2.2.1<;>cases Dj ks[n].lab.2.2.1 xs<;>rfl
  ·have hr:=MR x0 x1 x2 x3 xs ks ks.length ks.length
   rw [Ac (dcF (by omega))] at hr
   exact hr
 ·cases h
theorem PC (x0:Int) (x1:List UInt8) (x2:Int) (x3:Bool) (xs:List (Rose AW)) (y0:Int) (y1:List UInt8) (y2:Int) (y3:Bool) (y4:Int) (ys:List (Rose Lab)) (ks:List (Rose Lab)) (k i:Int) (us:List (Rose AW)) (hm:us.length<=maxI) : ∀ (c j:Nat) (f:Bool),j+c=us.length->
  Runs prog (Ab []) (Ab [(2,KZ),(6,JB)]) 0 (body f171 1) JB ([.ptr 0 0,.ptr 1 0,.b f,.sl (.rose LCd) ks,.j k,.j i,.sl (.rose VCd) us,.j (us.length:Int),.j (j:Int)],[some (.box [.j x0,.s x1,.j x2,.b x3,.sl (.rose VCd) xs]),some (.box [.j y0,.s y1,.j y2,.b y3,.j y4,.sl (.rose LCd) ys])]) (.exit 2) ([.ptr 0 0,.b (f||Dj y2 (us.drop j)),.sl (.rose LCd) ks,.j k,.j i],[some (.box [.j x0,.s x1,.j x2,.b x3,.sl (.rose VCd) xs])])
 | 0,j,f,hj=>by
  have hr:=MQ x0 x1 x2 x3 xs y0 y1 y2 y3 y4 ys f ks k i us us.length j
  rw [Ac (dcF (by omega))] at hr
  rw [drop_eq_nil_of_le (by omega),show Dj y2 []=false from rfl,Bool.or_false]
  exact .stop _ _ _ hr (by simp)
 | c+1,j,f,hj=>by
  have hl:j<us.length:=by omega
  have hM:maxI=9223372036854775807:=rfl
  have hr:=MQ x0 x1 x2 x3 xs y0 y1 y2 y3 y4 ys f ks k i us us.length j
  rw [Ag (dcT (by omega)),Aa (by simp only [anE,dcE]; omega)] at hr
  simp only [ntN,gtE hl,Am,Ap (n:=j) (by omega)] at hr
  have ih:=PC x0 x1 x2 x3 xs y0 y1 y2 y3 y4 ys ks k i us hm c (j+1) (f||us[j].lab.2.2.1==y2) (by omega)
  rw [drop_eq_getElem_cons hl,show Dj y2 (us[j]::us.drop (j+1))=(us[j].lab.2.2.1==y2||Dj y2 (us.drop (j+1))) from rfl,<-Bool.or_assoc]
  refine .step _ _ _ _ (hr.trans ?_) ih
  cases f<;>rfl
theorem Ab7 : ∀ d e d',(JB.L d).run=some (e,d')->Runs prog (Ab []) (Ab [(2,KZ),(6,JB)]) 0 (body f171 1) JB d e d':=fun d ex d' h=>by
 unfold JB at h
 dsimp only at h
 split at h
 ·rename_i f ks k i us m j x0 x1 x2 x3 xs y0 y1 y2 y3 y4 ys
  obtain ⟨hc,hx⟩:=Ad h
  clear h
  obtain ⟨h0,h1,rfl,h3⟩:=of_decide_eq_true hc
  obtain ⟨j,rfl⟩:=eq_ofNat_of_zero_le h0
  simp only [ntN] at h1 hx
  have h8:=Ao hx
  obtain ⟨rfl,rfl⟩:=Prod.mk.inj h8
  exact PC x0 x1 x2 x3 xs y0 y1 y2 y3 y4 ys ks k i us h3 (us.length-j) j f (by omega)
 ·cases h
theorem Zs:Af prog 171 (Ent.rd1 KY).F:=by
 refine Ae KnowsL.nil.knows (Λ:=(Ab [(2,KZ),(6,JB)])) func171 (c:=f171.body.getD .skip) (by kernel_rfl) fun vs bs r hq hv hb=>?_
 unfold Ent.F KY at hq
 dsimp only at hq
 split at hq
 ·rename_i x0 x1 x2 x3 xs y0 y1 y2 y3 y4 ys
  obtain ⟨hc,hx⟩:=Ad hq
  obtain ⟨h1,h2⟩:=of_decide_eq_true hc
  refine ⟨LoopsI.loops (.cons (a:=body f171 0) (by kernel_rfl) Ab8 (.cons (a:=body f171 1) (by kernel_rfl) Ab7 .nil)) (by kernel_rfl),Eq.trans ?_ hx⟩
  rw [Zm,Aa (dcT ⟨by omega,by omega,rfl,h1,h2⟩),drop_zero]
  cases Ci xs ys<;>rfl
 ·cases hq
def hd0:List (Rose Lab)->Rose Lab
 | []=>.node (0,[],0,false,0,()) []
 | z::_=>z
theorem BV (z:Rose Lab):Rose.node (z.lab.1,z.lab.2.1,z.lab.2.2.1,z.lab.2.2.2.1,z.lab.2.2.2.2.1,()) z.kids=z:=by
 obtain ⟨⟨_,_,_,_,_,⟨⟩⟩,ks⟩:=z; rfl
theorem QX (z:Rose AW):Rose.node (z.lab.1,z.lab.2.1,z.lab.2.2.1,z.lab.2.2.2.1,()) z.kids=z:=by
 obtain ⟨⟨_,_,_,_,⟨⟩⟩,ks⟩:=z; rfl
instance decNd0:DecidableEq (Int×Bool×Unit):=inferInstance
instance decNd:DecidableEq Nd:=inferInstance





def KR (y z:Rose Lab):Prop:=y.lab.2.2.1<z.lab.2.2.1
theorem IA {n:Int} {ks:List (Rose Lab)}:B8 n ks=true↔∃ y∈ks,y.lab.2.2.1=n:=by
 unfold B8
 rw [List.any_eq_true]
 constructor
 ·rintro ⟨y,h1,h2⟩; exact ⟨y,h1,by simpa using h2⟩
 ·rintro ⟨y,h1,h2⟩; exact ⟨y,h1,by simpa using h2⟩
theorem Qq {n:Int} {z:Rose Lab} {ks:List (Rose Lab)} (h:n≠z.lab.2.2.1):B8 n (z::ks)=B8 n ks/\byR n (z::ks)=byR n ks:=by
 constructor
 ·unfold B8
  rw [any_cons,beq_false_of_ne (Ne.symm h),Bool.false_or]
 ·rw [byR,if_neg (Ne.symm h)]
end Go.Proofs.YtdocpdfkeohkiaaGreatDoor.Den
