/- What functions of the program do, by the machine: Cur Cur2 Ex Base Sch1 Sch2 Sch3 Sch4 Sch5 Sch6 Sch7 Sch8 Sch9 Sch10 Sch11 Sch12 Sch13 Val1 Val2 Val3 Val4 Val5 Val6 Val7 Val8 Val9 Val10 Val11 Val12 Val13 Val14 Val15 Val16 Val17 Val18 Val19 Val20 Val21 Val22 Val23 Val24 Val25 Wi1 Wi2 Wi3 Wi4 Wi5 Dc1 Dc2 Dc3 Dc4 Dc5 Dc6 Dc7 Dc8 Sub1 Sub2 Lat1 SrkS Wi6 En1 Wi7 En2 Wi8 En3 Val26 En4 En5 En6 Cd1 Is1 Lat2 Td1 Td2 Td3 Ts1 SrqS. -/
import Derived.Test.YthbecdipboideaaDoorDen4
import Derived.KernelRfl
import Derived.Test.YthbecdipboideaaDoorRows
import Derived.Lib.Join
open Go.IntKind (i64)
open Go.Proofs.Tryd
open List (all_cons all_eq_true append_assoc append_nil cons_append drop drop_eq_getElem_cons drop_eq_nil_of_le drop_zero getElem?_eq_none getElem_mem length_cons length_drop mem_append mem_cons mem_cons_of_mem mem_cons_self mem_map mem_range nil_append pairwise_cons range take take_length)
open Int (eq_ofNat_of_zero_le ofNat toNat toNat_zero)
open Nat (add_assoc lt_succ_self)
open Option (map_some)
open Bool (decide_and)
namespace Go.Proofs.YthbecdipboideaaDoor.Den
open Go.Proofs
set_option maxRecDepth 100000
@[match_pattern] abbrev LCd:Cd:=.pair (.int .i64) (.pair .str (.pair (.int .i64) (.pair .bool (.pair (.int .i64) .unit))))
@[match_pattern] abbrev TCd:Cd:=.pair (.int .i64) (.pair .str (.pair (.int .i64) (.pair .bool (.pair (.int .i64) (.pair (.int .i64) .unit)))))
@[match_pattern] abbrev NCd:Cd:=.pair (.int .i64) (.pair .str (.pair (.int .i64) (.pair (.int .i64) (.pair .bool .unit))))
@[match_pattern] abbrev VCd:Cd:=.pair (.int .i64) (.pair .str (.pair (.int .i64) (.pair .bool .unit)))
@[match_pattern] abbrev WCd:Cd:=.pair (.int .i64) (.pair (.int .i64) (.pair (.int .i64) (.pair .str (.pair (.int .i64) (.pair (.int .i64) .unit)))))
@[match_pattern] abbrev NTd:Cd:=.pair .str (.pair (.int .i64) (.pair .str .unit))
@[match_pattern] abbrev FCd:Cd:=.pair (.int .i64) (.pair (.int .i64) (.pair (.int .i64) (.pair .str .unit)))
@[match_pattern] abbrev PCd:Cd:=.pair FCd (.pair (.int .i64) .unit)
@[match_pattern] abbrev TPd:Cd:=.pair .str (.pair (.pair (.slice TCd) .unit) (.pair (.int .i64) .unit))
@[match_pattern] abbrev FNd:Cd:=.pair (.int .i64) (.pair .str (.pair (.pair (.slice WCd) .unit) (.pair (.pair (.slice TCd) .unit) (.pair (.slice NTd) (.pair (.int .i64) .unit)))))
@[match_pattern] abbrev V.j (n:Int):V:=.i .i64 n
@[match_pattern] abbrev R0 (c:Cd) (l:List c.den):Option Blk:=some (.row false none c l)
@[match_pattern] abbrev D0 (c:Cd) (l:List c.den):Option Blk:=some (.drow c l none)
abbrev nF:Option (V×List (Option Blk)):=some (V.b false,[])
abbrev rF:Option (Ex×Dt):=some (Ex.ret,[V.b false],[])
abbrev Gm:=List V->List Blk->Br (V×List (Option Blk))
theorem dcT {p:Prop} [Decidable p] (h:p):decide p=true:=decide_eq_true h
theorem dcF {p:Prop} [Decidable p] (h : ¬p):decide p=false:=decide_eq_false h
theorem dcE {p:Prop} [Decidable p]:(decide p=true)=p:=decide_eq_true_eq
theorem anE (a b:Bool):((a&&b)=true)=(a=true/\b=true):=Bool.and_eq_true a b
theorem ntN (n:Nat):(n:Int).toNat=n:=Int.toNat_natCast n
theorem gtE {α:Type _} {l:List α} {i:Nat} (h:i<l.length):l[i]? = some l[i]:=List.getElem?_eq_getElem h
theorem kc {P:Program} {K:FuncId} {fn:Func} (hf:P.funcs[K]? = some fn) {e:Ent} {l:List (FuncId×Ent)} (h2:Ad P K e.F) (h:KnowsL P l) (hn:(fn.name == "runtime.NumGoroutine")=false:=by kernel_rfl) (hb:fn.body.isNone=false:=by kernel_rfl):KnowsL P ((K,e)::l):=.cons (MS hf hn hb) h2 h
theorem mxI:maxI=9223372036854775807:=rfl
theorem lfP {α β:Type} {a c:α} {b d:β} (h:(Br.leaf (a,b)).run=some (c,d)):a=c/\b=d:=Prod.mk.inj (AD h)
section
variable {P:Program} {Γ:FuncId->Option Ent} {Λ:Nat->Option LoopEnt}
theorem stp {m:Nat} {a:Code} {ent:LoopEnt} {d:Dt} {e:Ex} {d':Dt} (h:AG P Γ Λ m a ent d=some (e,d')) (he:e≠.normal:=by simp):Runs P Γ Λ m a ent d e d':=.stop d e d' h he
theorem sts {m:Nat} {a:Code} {ent:LoopEnt} {d d1:Dt} {e:Ex} {d':Dt} (h:AG P Γ Λ m a ent d=some (.normal,d1)) (hr:Runs P Γ Λ m a ent d1 e d'):Runs P Γ Λ m a ent d e d':=.step d d1 e d' h hr
theorem fcC (hG:Knows P Γ) {K:FuncId} {fn:Func} (hf:P.funcs[K]? = some fn) {F:List V->List Blk->Option (V×List (Option Blk))} (hF : ∀ vs bs r,F vs bs=some r->A6 P Γ Λ bs.length (fn.body.getD .skip)/\BA P Γ Λ fn vs bs=some r) (hb:fn.body=some (fn.body.getD .skip):=by kernel_rfl):Ad P K F:=Cq hG hf hb fun vs bs r h _ _=>hF vs bs r h
theorem fcN (hG:Knows P Γ) {K:FuncId} {fn:Func} (hf:P.funcs[K]? = some fn) {F:List V->List Blk->Option (V×List (Option Blk))} (hF : ∀ vs bs r,F vs bs=some r->A6 P Γ Λ bs.length (fn.body.getD .skip)/\Gu P Γ Λ fn vs bs=some r) (hb:fn.body=some (fn.body.getD .skip):=by kernel_rfl):Ad P K F:=Hc hG hf hb fun vs bs r h _ _=>hF vs bs r h
theorem fcK (hG:Knows P Γ) {K:FuncId} {fn:Func} (hf:P.funcs[K]? = some fn) {F:List V->List Blk->Option (V×List (Option Blk))} (hF : ∀ vs bs r,F vs bs=some r->A6 P Γ Λ bs.length (fn.body.getD .skip)/\Bv P Γ Λ fn vs bs=some r) (hb:fn.body=some (fn.body.getD .skip):=by kernel_rfl):Ad P K F:=EC hG hf hb fun vs bs r h _ _=>hF vs bs r h
end
theorem T2 {β:Type} {A B:Prop} [Decidable A] [Decidable B] {k:Option β} (h:A/\B):ifT (decide A&&decide B) k=k:=Aa (by rw [decide_eq_true h.1,decide_eq_true h.2]; rfl)
@[match_pattern] abbrev Lt (a:Int) (b:List UInt8) (c:Int) (d:Bool) (e:Int) (f:List (Cd.rose LCd).den):List V:=[.i .i64 a,.s b,.i .i64 c,.b d,.i .i64 e,.sl (.rose LCd) f]
@[match_pattern] abbrev Lv (a:Int) (b:List UInt8) (c:Int) (d:Bool) (f:List (Cd.rose VCd).den):List V:=[.i .i64 a,.s b,.i .i64 c,.b d,.sl (.rose VCd) f]
@[match_pattern] abbrev Lf (a:Int) (b:List UInt8) (c:List WCd.den) (d:List TCd.den) (e:List NTd.den) (f:Int):List V:=[.i .i64 a,.s b,.sl WCd c,.sl TCd d,.sl NTd e,.i .i64 f]
@[match_pattern] abbrev Lw (a b c:Int) (d:List UInt8) (e f:Int):List V:=[.i .i64 a,.i .i64 b,.i .i64 c,.s d,.i .i64 e,.i .i64 f]
@[match_pattern] abbrev Ly (a:Int) (b:List UInt8) (c:Int) (d:Bool) (e f:Int):List V:=[.i .i64 a,.s b,.i .i64 c,.b d,.i .i64 e,.i .i64 f]
abbrev By:=List UInt8
abbrev RL:=List (Rose (Int×List UInt8×Int×Bool×Int×Unit))
abbrev RVL:=List (Rose (Int×List UInt8×Int×Bool×Unit))
structure Cur where
 l:List Int
 a:Int
 s:Int
def Cur.good (c:Cur) (n:Int):Prop:=(∀ z∈c.l,0<=z/\z<=255)/\0<=c.a/\c.a<=n
instance (c:Cur) (n:Int):Decidable (c.good n):=by unfold Cur.good; exact inferInstance



def shr {α β:Type} (a:α) (k:α->β):β:=k a
def Ex1 {β Y:Type} (t:Option β) (sh:Y->β) (Q:Y->Prop):Prop:=∃ y,t=some (sh y)/\Q y
theorem Ex1.L {β Y:Type} {b:β} {sh:Y->β} {Q:Y->Prop} (y:Y) (h:b=sh y) (q:Q y):Ex1 (some b) sh Q:=⟨y,by rw [h],q⟩
theorem Ex1.mono {β Y:Type} {t:Option β} {sh:Y->β} {Q Q':Y->Prop} (k:Ex1 t sh Q) (h : ∀ y,Q y->Q' y):Ex1 t sh Q':=by obtain ⟨y,h1,h2⟩:=k; exact ⟨y,h1,h y h2⟩
def AY:Gm
 | [.j a,.j b,.j c],[]=>.leaf (.b (decide (b<=a/\a<=c)),[])
 | _,_=>.no
theorem Kr (a b c:Int):Bv prog (Ab []) (Ab []) f68 [.j a,.j b,.j c] []=(.leaf (.b (decide (b<=a/\a<=c)),[]):Br (V×List (Option Blk))).run:=by
 have e:Bv prog (Ab []) (Ab []) f68 [.j a,.j b,.j c] []=((ifB (decide (a>=b)) (some (V.b (decide (a<=c)),[])) nF):_):=by kernel_rfl
 rw [e]
 clear e
 by_cases q1:a>=b<;>by_cases q2:a<=c<;>simp [q1,q2,Br.run]<;>omega
theorem Ks:Ad prog 68 (Ent.rd1 AY).F:=by
 refine fcK KnowsL.nil.knows (Λ:=Ab []) func68 fun vs bs r' hq=>?_
 unfold Ent.F AY at hq
 dsimp only at hq
 split at hq
 ·rename_i a b c
  exact ⟨Ar _,(Kr a b c).trans hq⟩
 ·cases hq
theorem Ow (a b c:Int):Bv prog (Ab []) (Ab []) f30 [.j a,.j b,.j c] []=(.leaf (.b (decide (b<=a/\a<=c)),[]):Br (V×List (Option Blk))).run:=by
 have e:Bv prog (Ab []) (Ab []) f30 [.j a,.j b,.j c] []=((ifB (decide (a>=b)) (some (V.b (decide (a<=c)),[])) nF):_):=by kernel_rfl
 rw [e]
 clear e
 by_cases q1:a>=b<;>by_cases q2:a<=c<;>simp [q1,q2,Br.run]<;>omega
theorem QD:Ad prog 30 (Ent.rd1 AY).F:=by
 refine fcK KnowsL.nil.knows (Λ:=Ab []) func30 fun vs bs r' hq=>?_
 unfold Ent.F AY at hq
 dsimp only at hq
 split at hq
 ·rename_i a b c
  exact ⟨Ar _,(Ow a b c).trans hq⟩
 ·cases hq
abbrev Lab:=Int×By×Int×Bool×Int×Unit
abbrev Ty:=Int×By×Int×Bool×Int×Int×Unit
def GR (b:UInt8):Bool:=decide (97<=b.toNat)&&decide (b.toNat<=122)
def DW (s:By):Bool:=s.all GR&&(decide (1<=s.length)&&decide (s.length<=10))
def AB (k:Int):Bool:=k==4||k==5
def C6 (k:Int) (x:Lab):Bool:=if k=5 then DW x.2.1&&(decide (1<=x.2.2.1)&&decide (x.2.2.1<=30)) else x.2.1==[]&&x.2.2.1==0&&!x.2.2.2.1
def GP:Gm
 | [.s s],[]=>.need (decide (s.length<=maxI)) (.leaf (.b (DW s),[]))
 | _,_=>.no
def I9:Gm
 | [.tp LCd z 0],[]=>.leaf (.b (AB z.lab.1),[])
 | _,_=>.no
def Fv:Gm
 | [.j k],[]=>.leaf (.b (AB k),[])
 | _,_=>.no
def Is:Gm
 | [.tp LCd z 0,.j k],[]=>.need (decide (z.lab.2.1.length<=maxI)) (.leaf (.b (C6 k z.lab),[]))
 | _,_=>.no
def EW:LoopEnt:=⟨23,[0,5,6],[0],[2],fun
 | ([.s s,.j m,.j i],[])=>.need (decide (0<=i/\i.toNat<=s.length/\s.length<=maxI/\m=s.length)) (.br ((s.drop i.toNat).all GR) (.leaf (.exit 0,([.s s],[]))) (.leaf (.ret,([.b false],[]))))
 | _=>.no⟩
def EH:LoopEnt:=⟨23,[0,3],[0],[2],fun
 | ([.s s,.j i],[])=>.need (decide (0<=i/\i.toNat<=s.length/\s.length<=maxI)) (.br ((s.drop i.toNat).all GR) (.leaf (.exit 0,([.s s],[]))) (.leaf (.ret,([.b false],[]))))
 | _=>.no⟩
theorem Gn (s:By) (m i:Int):AG prog (Ab [(68,.rd1 AY)]) (Ab [(2,EW)]) 0 (body f70 0) EW ([.s s,.j m,.j i],[]) =
 ((ifB (decide (i<m)) (ifT (decide (0<=i)) (Ap s[i.toNat]? fun z=>ifB (decide ((↑z.toNat:Int)<(97:Int))) rF (ifT (decide (0<=i))
 (Ap s[i.toNat]? fun z=>ifB (decide ((↑z.toNat:Int)>(122:Int))) rF (some (Ex.normal,[V.s s,V.j m,V.i .i64
 (i64.wrap (i+1))],[])))))) (some (Ex.exit 0,[V.s s],[]))):_):=by kernel_rfl
theorem OD:A6 prog (Ab [(68,.rd1 AY)]) (Ab [(2,EW)]) 0 (f70.body.getD .skip):=by
 refine Az (a:=body f70 0) (by kernel_rfl) fun d e d' h=>?_
 unfold EW at h
 dsimp only at h
 split at h
 ·rename_i s m i
  obtain ⟨hc,hx⟩:=Ae h
  clear h
  obtain ⟨h0,h1,h2,rfl⟩:=of_decide_eq_true hc
  obtain ⟨i,rfl⟩:=eq_ofNat_of_zero_le h0
  rw [ntN] at h1 hx
  refine Ef (l:=s) GR (fun i=>([.s s,.j (↑s.length:Int),.j (i:Int)],[])) (ex:=(.exit 0,([.s s],[]))) (rt:=(.ret,([.b false],[]))) (by simp) (by simp) (fun i hi=>?_) ?_ (s.length-i) i (by omega) e d' hx
  ·have hr:=Gn s s.length i
   rw [Ag (dcT (by omega))] at hr
   simp only [ntN,gtE hi,Aq,AM (n:=i) (by omega)] at hr
   refine hr.trans ?_
   have hb:=s[i].toNat_lt
   have hz:(0:Int)<=(i:Int):=by omega
   simp only [hz,decide_true,HU]
   unfold GR
   generalize s[i].toNat=b at *
   have c1:decide ((b:Int)<97) = !decide (97<=b):=by rw [<-decide_not]; exact decide_eq_decide.2 (by omega)
   have c2:decide ((b:Int)>122) = !decide (b<=122):=by rw [<-decide_not]; exact decide_eq_decide.2 (by omega)
   simp only [c1,c2]
   cases decide (97<=b)<;>cases decide (b<=122)<;>rfl
  ·have hr:=Gn s s.length s.length
   rw [Af (dcF (by omega))] at hr
   exact hr
 ·cases h
theorem MP (s:By) (hc:s.length<=maxI):Bv prog (Ab [(68,.rd1 AY)]) (Ab [(2,EW)]) f70 [.s s] []=some (.b (DW s),[]):=by
 have e:Bv prog (Ab [(68,.rd1 AY)]) (Ab [(2,EW)]) f70 [.s s] []=((ifT (decide ((0:Int)<=(0:Int)/\0<=s.length/\s.length<=maxI/\(↑s.length:Int)=(↑s.length:Int))) (ifB ((drop 0 s).all GR) (some (V.b
 (decide (1<=(↑s.length:Int)/\(↑s.length:Int)<=(10:Int))),[])) nF)):_):=by kernel_rfl
 rw [e]
 clear e
 have hM:=mxI
 rw [Aa (dcT (by simp; try omega))]
 simp only [drop_zero]
 unfold DW
 have d1:decide (1<=(s.length:Int)/\(s.length:Int)<=10)=(decide (1<=s.length)&&decide (s.length<=10)):=by
  rw [<-decide_and]; exact decide_eq_decide.2 (by omega)
 cases s.all GR
 ·rfl
 ·rw [A4,d1]; rfl
theorem R8:Ad prog 70 (Ent.rd1 GP).F:=by
 refine fcK (kc func68 Ks KnowsL.nil).knows (Λ:=(Ab [(2,EW)])) func70 fun vs bs r hq=>?_
 unfold Ent.F GP at hq
 dsimp only at hq
 split at hq
 ·rename_i s
  obtain ⟨hc,hx⟩:=Ae hq
  exact ⟨OD,(MP s (of_decide_eq_true hc)).trans hx⟩
 ·cases hq
theorem Gf (s:By) (i:Int):AG prog (Ab [(30,.rd1 AY)]) (Ab [(2,EH)]) 0 (body f49 0) EH ([.s s,.j i],[]) =
 ((ifB (decide (i<(↑s.length:Int))) (ifT (decide (0<=i)) (Ap s[i.toNat]? fun z=>ifB (decide ((↑z.toNat:Int)<(97:Int))) rF (ifT
 (decide (0<=i)) (Ap s[i.toNat]? fun z=>ifB (decide ((↑z.toNat:Int)>(122:Int))) rF (some (Ex.normal,[V.s s,V.i .i64
 (i64.wrap (i+1))],[])))))) (some (Ex.exit 0,[V.s s],[]))):_):=by kernel_rfl
theorem Nv:A6 prog (Ab [(30,.rd1 AY)]) (Ab [(2,EH)]) 0 (f49.body.getD .skip):=by
 refine Az (a:=body f49 0) (by kernel_rfl) fun d e d' h=>?_
 unfold EH at h
 dsimp only at h
 split at h
 ·rename_i s i
  obtain ⟨hc,hx⟩:=Ae h
  clear h
  obtain ⟨h0,h1,h2⟩:=of_decide_eq_true hc
  obtain ⟨i,rfl⟩:=eq_ofNat_of_zero_le h0
  rw [ntN] at h1 hx
  refine Ef (l:=s) GR (fun i=>([.s s,.j (i:Int)],[])) (ex:=(.exit 0,([.s s],[]))) (rt:=(.ret,([.b false],[]))) (by simp) (by simp) (fun i hi=>?_) ?_ (s.length-i) i (by omega) e d' hx
  ·have hr:=Gf s i
   rw [Ag (dcT (by omega))] at hr
   simp only [ntN,gtE hi,Aq,AM (n:=i) (by omega)] at hr
   refine hr.trans ?_
   have hb:=s[i].toNat_lt
   have hz:(0:Int)<=(i:Int):=by omega
   simp only [hz,decide_true,HU]
   unfold GR
   generalize s[i].toNat=b at *
   have c1:decide ((b:Int)<97) = !decide (97<=b):=by rw [<-decide_not]; exact decide_eq_decide.2 (by omega)
   have c2:decide ((b:Int)>122) = !decide (b<=122):=by rw [<-decide_not]; exact decide_eq_decide.2 (by omega)
   simp only [c1,c2]
   cases decide (97<=b)<;>cases decide (b<=122)<;>rfl
  ·have hr:=Gf s s.length
   rw [Af (dcF (by omega))] at hr
   exact hr
 ·cases h
theorem Mn (s:By) (hc:s.length<=maxI):Bv prog (Ab [(30,.rd1 AY)]) (Ab [(2,EH)]) f49 [.s s] []=some (.b (DW s),[]):=by
 have e:Bv prog (Ab [(30,.rd1 AY)]) (Ab [(2,EH)]) f49 [.s s] []=((ifT (decide ((0:Int)<=(0:Int)/\0<=s.length/\s.length<=maxI)) (ifB ((drop 0 s).all GR) (some (V.b (decide (1<=(↑s.length:Int)/\
 (↑s.length:Int)<=(10:Int))),[])) nF)):_):=by kernel_rfl
 rw [e]
 clear e
 have hM:=mxI
 rw [Aa (dcT (by simp; try omega))]
 simp only [drop_zero]
 unfold DW
 have d1:decide (1<=(s.length:Int)/\(s.length:Int)<=10)=(decide (1<=s.length)&&decide (s.length<=10)):=by
  rw [<-decide_and]; exact decide_eq_decide.2 (by omega)
 cases s.all GR
 ·rfl
 ·rw [A4,d1]; rfl
theorem Rh:Ad prog 49 (Ent.rd1 GP).F:=by
 refine fcK (kc func30 QD KnowsL.nil).knows (Λ:=(Ab [(2,EH)])) func49 fun vs bs r hq=>?_
 unfold Ent.F GP at hq
 dsimp only at hq
 split at hq
 ·rename_i s
  obtain ⟨hc,hx⟩:=Ae hq
  exact ⟨Nv,(Mn s (of_decide_eq_true hc)).trans hx⟩
 ·cases hq
theorem KV (z:Rose Lab):Bv prog (Ab []) (Ab []) f61 [.tp LCd z 0] []=(.leaf (.b (AB z.lab.1),[]):Br (V×List (Option Blk))).run:=by
 have e:Bv prog (Ab []) (Ab []) f61 [.tp LCd z 0] []=((ifB (z.lab.1==(4:Int)) (some (V.b true,[])) (some (V.b (z.lab.1==(5:Int)),[]))):_):=by kernel_rfl
 rw [e]
 clear e
 unfold AB
 cases z.lab.1==4<;>rfl
theorem QK:Ad prog 61 (Ent.rd1 I9).F:=by
 refine fcK KnowsL.nil.knows (Λ:=Ab []) func61 fun vs bs r' hq=>?_
 unfold Ent.F I9 at hq
 dsimp only at hq
 split at hq
 ·rename_i z
  exact ⟨Ar _,(KV z).trans hq⟩
 ·cases hq
theorem JJ (k:Int):Bv prog (Ab []) (Ab []) f47 [.j k] []=(.leaf (.b (AB k),[]):Br (V×List (Option Blk))).run:=by
 have e:Bv prog (Ab []) (Ab []) f47 [.j k] []=((ifB (k==4) (some (V.b true,[])) (some (V.b (k==5),[]))):_):=by kernel_rfl
 rw [e]
 clear e
 unfold AB
 cases k==4<;>rfl
theorem LO:Ad prog 47 (Ent.rd1 Fv).F:=by
 refine fcK KnowsL.nil.knows (Λ:=Ab []) func47 fun vs bs r' hq=>?_
 unfold Ent.F Fv at hq
 dsimp only at hq
 split at hq
 ·rename_i k
  exact ⟨Ar _,(JJ k).trans hq⟩
 ·cases hq
theorem KA (z:Rose Lab) (k:Int) (hc:z.lab.2.1.length<=maxI):Bv prog (Ab [(70,.rd1 GP),(68,.rd1 AY)]) (Ab []) f60 [.tp LCd z 0,.j k] []=some (.b (C6 k z.lab),[]):=by
 have e:Bv prog (Ab [(70,.rd1 GP),(68,.rd1 AY)]) (Ab []) f60 [.tp LCd z 0,.j k] []=((ifB (k==5) (ifT (decide (List.length z.lab.2.1<=maxI)) (ifB (DW z.lab.2.1) (some (V.b (decide ((1:Int)<=z.lab.2.2.1/\z.lab.2.2.1<=(30 :
 Int))),[])) nF)) (ifB (z.lab.2.1==Al UInt8) (ifB (z.lab.2.2.1==(0:Int)) (some (V.b !z.lab.2.2.2.1,[])) nF) nF)):_):=by kernel_rfl
 rw [e]
 clear e
 rw [dcT hc]
 unfold C6
 have d1:decide (1<=z.lab.2.2.1/\z.lab.2.2.1<=30)=(decide (1<=z.lab.2.2.1)&&decide (z.lab.2.2.1<=30)):=decide_and ..
 by_cases q:k=5
 ·subst q
  rw [Ag (by rfl),if_pos rfl,d1]
  cases DW z.lab.2.1<;>rfl
 ·rw [Af (beq_false_of_ne q),if_neg q]
  cases z.lab.2.1==[]<;>cases z.lab.2.2.1==0<;>rfl
theorem Q1:Ad prog 60 (Ent.rd1 Is).F:=by
 refine fcK (kc func70 R8 (kc func68 Ks KnowsL.nil)).knows (Λ:=Ab []) func60 fun vs bs r hq=>?_
 unfold Ent.F Is at hq
 dsimp only at hq
 split at hq
 ·rename_i z k
  obtain ⟨hc,hx⟩:=Ae hq
  exact ⟨Ar _,(KA z k (of_decide_eq_true hc)).trans hx⟩
 ·cases hq
def AH (l:List Ty) (i:Nat):Option Int:=(l[i]?).map fun x=>x.2.2.2.2.1
def As (l:List Ty) (i:Nat):Lab:=match l[i]? with | some x=>(x.1,x.2.1,x.2.2.1,x.2.2.2.1,x.2.2.2.2.2.1,()) | none=>(0,[],0,false,0,())
def Bf (g:Nat->Rose Lab×Nat) (l:List Ty) (a:Nat):Nat->Nat->RL->RL×Nat
 | 0,e,ks=>(ks,e)
 | n+1,e,ks=>if AH l e=some (a:Int) then Bf g l a n (g e).2 (ks++[(g e).1]) else (ks,e)
def kfr (l:List Ty):Nat->Nat->Rose Lab×Nat
 | 0,a=>(.node (As l a) [],a+1)
 | f+1,a=>
  let r:=bif AB (As l a).1 then Bf (kfr l f) l a l.length (a+1) [] else ([],a+1)
  (.node (As l a) r.1,r.2)
def kf (l:List Ty) (a:Nat):Rose Lab×Nat:=kfr l l.length a
theorem Ff {l:List Ty} {e:Nat} {a:Int} (h:AH l e=some a):e<l.length:=by
 unfold AH at h
 obtain ⟨x,h1,_⟩:=Option.map_eq_some_iff.1 h
 exact (List.getElem?_eq_some_iff.1 h1).1
theorem N2 (z:Rose Lab):Rose.node (z.lab.1,z.lab.2.1,z.lab.2.2.1,z.lab.2.2.2.1,z.lab.2.2.2.2.1,()) (take z.kids.length (drop 0 z.kids))=z:=by
 obtain ⟨⟨_,_,_,_,_,⟨⟩⟩,ks⟩:=z
 simp [Rose.lab,Rose.kids]
def IG (l:List Ty) (g:Nat->Rose Lab×Nat):Prop:=∀ e,e<l.length->e<(g e).2/\(g e).2<=l.length
theorem FT {l:List Ty} {g:Nat->Rose Lab×Nat} {a:Nat} (hg:IG l g) : ∀ (n e:Nat) (ks:RL),e<=l.length->e<=(Bf g l a n e ks).2/\(Bf g l a n e ks).2<=l.length
 | 0,e,ks,h=>⟨Nat.le_refl _,h⟩
 | n+1,e,ks,h=>by
  unfold Bf
  split
  ·rename_i hu
   obtain ⟨h1,h2⟩:=hg e (Ff hu)
   obtain ⟨h3,h4⟩:=FT hg n (g e).2 (ks++[(g e).1]) h2
   exact ⟨by omega,h4⟩
  ·exact ⟨Nat.le_refl _,h⟩
theorem G7 (l:List Ty) : ∀ f,IG l (kfr l f)
 | 0,a,h=>⟨lt_succ_self _,h⟩
 | f+1,a,h=>by
  unfold kfr
  dsimp only
  cases AB (As l a).1 with
  | true=>
   obtain ⟨h3,h4⟩:=FT (a:=a) (G7 l f) l.length (a+1) [] h
   exact ⟨by rw [cond_true]; omega,by rw [cond_true]; exact h4⟩
  | false=>exact ⟨lt_succ_self _,h⟩
theorem En {l:List Ty} {g g':Nat->Rose Lab×Nat} {a e0:Nat} (hg:IG l g) (h : ∀ e,e0<=e->e<l.length->g e=g' e) : ∀ (n e:Nat) (ks:RL),e0<=e->Bf g l a n e ks=Bf g' l a n e ks
 | 0,e,ks,_=>rfl
 | n+1,e,ks,he=>by
  unfold Bf
  split
  ·rename_i hu
   have hl:=Ff hu
   rw [<-h e he hl]
   exact En hg h n _ _ (by have:=(hg e hl).1; omega)
  ·rfl
theorem JR (l:List Ty) : ∀ (f f' a:Nat),l.length-a<=f->l.length-a<=f'->a<l.length->kfr l f a=kfr l f' a
 | 0,f',a,h1,_,h=>by omega
 | f+1,0,a,_,h1,h=>by omega
 | f+1,f'+1,a,h1,h2,h=>by
  unfold kfr
  dsimp only
  rw [En (G7 l f) (fun e he hl=>JR l f f' e (by omega) (by omega) hl) l.length (a+1) [] (Nat.le_refl _)]
theorem EV (l:List Ty):IG l (kf l):=G7 l l.length
theorem LT {l:List Ty} {a:Nat} (h:a<l.length):kf l a=(.node (As l a) (bif AB (As l a).1 then Bf (kf l) l a l.length (a+1) [] else ([],a+1)).1,(bif AB (As l a).1 then Bf (kf l) l a l.length (a+1) [] else ([],a+1)).2):=by
 obtain ⟨m,hm⟩ : ∃ m,l.length=m+1:=⟨l.length-1,by omega⟩
 have e1:Bf (kfr l m) l a l.length (a+1) []=Bf (kf l) l a l.length (a+1) []:=En (G7 l m) (fun e he hl=>JR l m l.length e (by omega) (by omega) hl) l.length (a+1) [] (Nat.le_refl _)
 rw [<-e1]
 unfold kf
 conv=>lhs; rw [hm]
 rfl
theorem GX {l:List Ty} {a e n:Nat} {ks:RL} (h:AH l e≠some (a:Int)):Bf (kf l) l a n e ks=(ks,e):=by
 cases n with
 | zero=>rfl
 | succ n=>unfold Bf; rw [if_neg h]
mutual
def Ak:Rose Lab->Nat
 | .node _ ks=>Aj ks+1
def Aj:RL->Nat
 | []=>0
 | z::l=>Ak z+Aj l
end
mutual
def Bp:Rose Lab->Nat
 | .node x ks=>BK ks+(bif AB x.1 then 1 else 0)
def BK:RL->Nat
 | []=>0
 | z::l=>max (Bp z) (BK l)
end
def Cy (n:Nat):Gm
 | [.tp LCd z 0],[]=>.need (decide (Ak z<=n/\Ak z<=1000000)) (.leaf (.j (Ak z:Int),[]))
 | _,_=>.no
def IA:Gm
 | [.tp LCd z 0],[]=>.need (decide (Ak z<=1000000)) (.leaf (.j (Ak z:Int),[]))
 | _,_=>.no
def CJ (n:Nat):LoopEnt:=⟨21,[3,9,10,11],[3],[],fun
 | ([.j m,.sl (.tree LCd) ks,.j k,.j i],[])=>.need (decide (0<=m/\m<=1000001/\0<=i/\i.toNat<=ks.length/\k=ks.length/\Aj ks<=n/\Aj ks<=1000000/\m.toNat+Aj (ks.drop i.toNat)<=1000001)) (.leaf (.exit 0,([.j ((m.toNat+Aj (ks.drop i.toNat):Nat):Int)],[])))
 | _=>.no⟩
def FU (n:Nat):Gm
 | [.tp LCd z 0],[]=>.need (decide (Ak z<=n/\Ak z<=1000000)) (.leaf (.j (Bp z:Int),[]))
 | _,_=>.no
def KZ:Gm
 | [.tp LCd z 0],[]=>.need (decide (Ak z<=1000000)) (.leaf (.j (Bp z:Int),[]))
 | _,_=>.no
def DJ (n:Nat):LoopEnt:=⟨25,[0,3,9,10,11],[0,3],[],fun
 | ([.tp LCd y 0,.j m,.sl (.tree LCd) ks,.j k,.j i],[])=>.need (decide (0<=m/\m<=1000001/\0<=i/\i.toNat<=ks.length/\k=ks.length/\Aj ks<=n/\Aj ks<=1000000)) (.leaf (.exit 0,([.tp LCd y 0,.j ((max m.toNat (BK (ks.drop i.toNat)):Nat):Int)],[])))
 | _=>.no⟩
theorem Cs {z:Rose Lab} : ∀ {l:RL},z∈l->Ak z<=Aj l
 | [],h=>by cases h
 | y::l,h=>by
  rw [Aj]
  rcases mem_cons.1 h with rfl | h
  ·omega
  ·have:=Cs h; omega
theorem CL (z:Rose Lab):1<=Ak z:=by cases z; rw [Ak]; omega
theorem CM : ∀ (l:RL),l.length<=Aj l
 | []=>Nat.le_refl _
 | z::l=>by have:=CM l; have:=CL z; rw [Aj,length_cons]; omega
theorem D4 (z:Rose Lab):Ak z=Aj z.kids+1:=by cases z; rw [Ak]; rfl
mutual
theorem F6 : ∀ z:Rose Lab,Bp z<=Ak z
 | .node x ks=>by rw [Bp,Ak]; have:=E0 ks; cases AB x.1<;>simp<;>omega
theorem E0 : ∀ l:RL,BK l<=Aj l
 | []=>Nat.le_refl _
 | z::l=>by rw [BK,Aj]; have:=F6 z; have:=E0 l; omega
end
theorem Fw (n:Nat) (m:Int) (ks:RL) (k i:Int):AG prog (Ab [(41,.rd1 (Cy n))]) (Ab [(3,CJ n)]) 0 (body f41 0) (CJ n) ([.j m,.sl (.tree LCd) ks,.j k,.j i],[]) =
 ((ifB (decide (i<k)) (ifT (decide (0<=i)&&decide (i<(↑ks.length:Int))) (Ap ks[i.toNat]? fun z=>ifT (decide (Ak z<=n/\Ak z<=1000000)) (some
 (Ex.normal,[V.j (i64.wrap (m+(↑(Ak z):Int))),V.sl LCd.tree ks,V.j k,V.j (i64.wrap (i+1))],[])))) (some (Ex.exit 0,[V.i .i64
 m],[]))):_):=by kernel_rfl
theorem JS (n:Nat) (z:Rose Lab):Bv prog (Ab [(41,.rd1 (Cy n))]) (Ab [(3,CJ n)]) f41 [.tp LCd z 0] [] =
 ((ifT (decide ((0:Int)<=(1:Int)/\(1:Int)<=(1000001:Int)/\(0:Int)<=(0:Int)/\0<=z.kids.length/\(↑z.kids.length:Int)=(↑z.kids.length:Int)/\
 Aj z.kids<=n/\Aj z.kids<=1000000/\1+Aj (drop 0 z.kids)<=1000001)) (some (V.j (↑(1+Aj (drop (0 :
 Nat) z.kids)):Int),[]))):_):=by kernel_rfl
theorem Gl (n:Nat) (ks:RL) (h1:Aj ks<=n) (h2:Aj ks<=1000000) : ∀ (j i m:Nat),i+j=ks.length->m<=1000001->m+Aj (ks.drop i)<=1000001->
  Runs prog (Ab [(41,.rd1 (Cy n))]) (Ab [(3,CJ n)]) 0 (body f41 0) (CJ n) ([.j (m:Int),.sl (.tree LCd) ks,.j (ks.length:Int),.j (i:Int)],[]) (.exit 0) ([.j ((m+Aj (ks.drop i):Nat):Int)],[])
 | 0,i,m,hi,hm,hs=>by
  have hr:=Fw n m ks ks.length i
  rw [Af (dcF (by omega))] at hr
  have e1:ks.drop i=[]:=drop_eq_nil_of_le (by omega)
  rw [e1,Aj]
  exact .stop _ _ _ (hr.trans (by simp)) (by simp)
 | j+1,i,m,hi,hm,hs=>by
  have hl:i<ks.length:=by omega
  have hM:=mxI
  have hr:=Fw n m ks ks.length i
  have hmem:=Cs (getElem_mem hl)
  have hlen:=CM ks
  have hdm:=F6 ks[i]
  rw [Ag (dcT (by omega)),T2 (by omega)] at hr
  simp only [ntN,gtE hl,Aq,AM (n:=i) (by omega)] at hr
  rw [Aa (dcT ⟨by omega,by omega⟩)] at hr
  rw [drop_eq_getElem_cons hl,Aj]
  rw [drop_eq_getElem_cons hl,Aj] at hs
  have hx:i64.wrap ((m:Int)+(Ak ks[i]:Int))=((m+Ak ks[i]:Nat):Int):=by rw [Ax (by omega) (by omega)]; omega
  have ih:=Gl n ks h1 h2 j (i+1) (m+Ak ks[i]) (by omega) (by omega) (by omega)
  rw [<-add_assoc]
  exact sts (hr.trans (by rw [hx])) ih
theorem MO (n:Nat):A6 prog (Ab [(41,.rd1 (Cy n))]) (Ab [(3,CJ n)]) 0 (f41.body.getD .skip):=by
 refine Az (a:=body f41 0) (by kernel_rfl) fun d ex d' h=>?_
 unfold CJ at h
 dsimp only at h
 split at h
 ·rename_i m ks k i
  obtain ⟨hc,hx⟩:=Ae h
  clear h
  obtain ⟨h0,h1,h2,h3,rfl,h5,h6,h7⟩:=of_decide_eq_true hc
  obtain ⟨m,rfl⟩:=eq_ofNat_of_zero_le h0
  obtain ⟨i,rfl⟩:=eq_ofNat_of_zero_le h2
  simp only [ntN] at h3 hx h7
  obtain ⟨rfl,rfl⟩:=lfP hx
  exact Gl n ks h5 h6 (ks.length-i) i m (by omega) (by omega) h7
 ·cases h
theorem La (n:Nat) (z:Rose Lab) (hc:Ak z<=n+1/\Ak z<=1000000):Bv prog (Ab [(41,.rd1 (Cy n))]) (Ab [(3,CJ n)]) f41 [.tp LCd z 0] []=some (.j (Ak z:Int),[]):=by
 rw [JS]
 obtain ⟨x,ks⟩:=z
 obtain ⟨h1,h2⟩:=hc
 rw [Ak] at h1 h2
 have hd:drop (toNat 0) ks=ks:=rfl
 simp only [Rose.kids] at *
 rw [Aa (dcT (by refine ⟨by omega,by omega,by omega,by simp,by trivial,by omega,by omega,?_⟩; simp; omega))]
 rw [Ak]
 simp only [drop_zero]
 rw [Nat.add_comm]
theorem Lb : ∀ n,(∀ m,m<n->Ad prog 41 (Ent.rd1 (Cy m)).F)->Ad prog 41 (Ent.rd1 (Cy n)).F
 | 0,_=>AN fun vs bs=>by
  unfold Ent.F Cy
  dsimp only
  split
  ·rename_i z
   have:=CL z
   have:decide (Ak z<=0/\Ak z<=1000000)=false:=dcF (by omega)
   rw [this]; rfl
  ·rfl
 | n+1,ih=>by
  refine fcK (kc func41 (ih n (lt_succ_self n)) KnowsL.nil).knows (Λ:=(Ab [(3,CJ n)])) func41 fun vs bs r hq=>?_
  unfold Ent.F Cy at hq
  dsimp only at hq
  split at hq
  ·rename_i z
   obtain ⟨hc,hx⟩:=Ae hq
   exact ⟨MO n,(La n z (of_decide_eq_true hc)).trans hx⟩
  ·cases hq
theorem QL:Ad prog 41 (Ent.rd1 IA).F:=by
 refine BS (F:=fun n=>(Ent.rd1 (Cy n)).F) Lb fun vs bs r h=>?_
 unfold Ent.F IA at h
 dsimp only at h
 split at h
 ·rename_i z
  obtain ⟨hc,hx⟩:=Ae h
  have hc:=of_decide_eq_true hc
  refine ⟨1000000,?_⟩
  show (Br.need (decide (Ak z<=1000000/\Ak z<=1000000)) (.leaf (.j (Ak z:Int),[]))).run=some r
  rw [dcT (show Ak z<=1000000/\Ak z<=1000000 from ⟨hc,hc⟩)]
  exact hx
 ·cases h
abbrev OU (n:Nat):FuncId->Option Ent:=Ab [(40,.rd1 (FU n)),(61,.rd1 I9)]
theorem Gk (n:Nat) (y:Rose Lab) (m:Int) (ks:RL) (k i:Int):AG prog (OU n) (Ab [(3,DJ n)]) 0 (body f40 0) (DJ n) ([.tp LCd y 0,.j m,.sl (.tree LCd) ks,.j k,.j i],[]) =
 ((ifB (decide (i<k)) (ifT (decide (0<=i)&&decide (i<(↑ks.length:Int))) (Ap ks[i.toNat]? fun z=>ifT (decide (Ak z<=n/\Ak z<=1000000)) (some
 (Ex.normal,[V.tp LCd y 0,V.j (if (↑(Bp z):Int)>m then (↑(Bp z):Int) else m),V.sl LCd.tree ks,V.j k,V.j (i64.wrap (i +
 1))],[])))) (some (Ex.exit 0,[V.tp LCd y 0,V.j m],[]))):_):=by kernel_rfl
theorem KY (n:Nat) (z:Rose Lab):Bv prog (OU n) (Ab [(3,DJ n)]) f40 [.tp LCd z 0] [] =
 ((ifT (decide ((0:Int)<=(0:Int)/\(0:Int)<=(1000001:Int)/\(0:Int)<=(0:Int)/\0<=z.kids.length/\(↑z.kids.length:Int)=(↑z.kids.length:Int)/\
 Aj z.kids<=n/\Aj z.kids<=1000000)) (ifB (AB z.lab.1) (some (V.j (i64.wrap ((↑(max 0 (BK (drop 0 z.kids))):Int)
 + (1:Int))),[])) (some (V.j (↑(max 0 (BK (drop 0 z.kids))):Int),[])))):_):=by kernel_rfl
theorem GZ (n:Nat) (y:Rose Lab) (ks:RL) (h1:Aj ks<=n) (h2:Aj ks<=1000000) : ∀ (j i m:Nat),i+j=ks.length->m<=1000001->
  Runs prog (OU n) (Ab [(3,DJ n)]) 0 (body f40 0) (DJ n) ([.tp LCd y 0,.j (m:Int),.sl (.tree LCd) ks,.j (ks.length:Int),.j (i:Int)],[]) (.exit 0) ([.tp LCd y 0,.j ((max m (BK (ks.drop i)):Nat):Int)],[])
 | 0,i,m,hi,hm=>by
  have hr:=Gk n y m ks ks.length i
  rw [Af (dcF (by omega))] at hr
  have e1:ks.drop i=[]:=drop_eq_nil_of_le (by omega)
  rw [e1,BK]
  exact .stop _ _ _ (hr.trans (by simp)) (by simp)
 | j+1,i,m,hi,hm=>by
  have hl:i<ks.length:=by omega
  have hM:=mxI
  have hr:=Gk n y m ks ks.length i
  have hmem:=Cs (getElem_mem hl)
  have hlen:=CM ks
  have hdm:=F6 ks[i]
  rw [Ag (dcT (by omega)),T2 (by omega)] at hr
  simp only [ntN,gtE hl,Aq,AM (n:=i) (by omega)] at hr
  rw [Aa (dcT ⟨by omega,by omega⟩)] at hr
  rw [drop_eq_getElem_cons hl,BK]
  have hx:(if (Bp ks[i]:Int)>(m:Int) then (Bp ks[i]:Int) else (m:Int))=((max m (Bp ks[i]):Nat):Int):=by split<;>omega
  have ih:=GZ n y ks h1 h2 j (i+1) (max m (Bp ks[i])) (by omega) (by omega)
  rw [<-Nat.max_assoc]
  exact sts (hr.trans (by rw [hx])) ih
theorem O4 (n:Nat):A6 prog (OU n) (Ab [(3,DJ n)]) 0 (f40.body.getD .skip):=by
 refine Az (a:=body f40 0) (by kernel_rfl) fun d ex d' h=>?_
 unfold DJ at h
 dsimp only at h
 split at h
 ·rename_i y m ks k i
  obtain ⟨hc,hx⟩:=Ae h
  clear h
  obtain ⟨h0,h1,h2,h3,rfl,h5,h6⟩:=of_decide_eq_true hc
  obtain ⟨m,rfl⟩:=eq_ofNat_of_zero_le h0
  obtain ⟨i,rfl⟩:=eq_ofNat_of_zero_le h2
  simp only [ntN] at h3 hx
  obtain ⟨rfl,rfl⟩:=lfP hx
  exact GZ n y ks h5 h6 (ks.length-i) i m (by omega) (by omega)
 ·cases h
theorem MM (n:Nat) (z:Rose Lab) (hc:Ak z<=n+1/\Ak z<=1000000):Bv prog (OU n) (Ab [(3,DJ n)]) f40 [.tp LCd z 0] []=some (.j (Bp z:Int),[]):=by
 rw [KY]
 obtain ⟨x,ks⟩:=z
 obtain ⟨h1,h2⟩:=hc
 rw [Ak] at h1 h2
 have hd:drop (toNat 0) ks=ks:=rfl
 simp only [Rose.kids,Rose.lab] at *
 rw [Aa (dcT (by refine ⟨by omega,by omega,by omega,by simp,by trivial,by omega,by omega⟩))]
 have hdp:=E0 ks
 rw [Bp]
 simp only [drop_zero,Nat.zero_max]
 cases hx:AB x.1 with
 | true=>rw [A4,Ax (by omega) (by omega)]; simp
 | false=>rw [A1]; simp
theorem MN : ∀ n,(∀ m,m<n->Ad prog 40 (Ent.rd1 (FU m)).F)->Ad prog 40 (Ent.rd1 (FU n)).F
 | 0,_=>AN fun vs bs=>by
  unfold Ent.F FU
  dsimp only
  split
  ·rename_i z
   have:=CL z
   have:decide (Ak z<=0/\Ak z<=1000000)=false:=dcF (by omega)
   rw [this]; rfl
  ·rfl
 | n+1,ih=>by
  refine fcK (kc func40 (ih n (lt_succ_self n)) (kc func61 QK KnowsL.nil)).knows (Λ:=(Ab [(3,DJ n)])) func40 fun vs bs r hq=>?_
  unfold Ent.F FU at hq
  dsimp only at hq
  split at hq
  ·rename_i z
   obtain ⟨hc,hx⟩:=Ae hq
   exact ⟨O4 n,(MM n z (of_decide_eq_true hc)).trans hx⟩
  ·cases hq
theorem Ry:Ad prog 40 (Ent.rd1 KZ).F:=by
 refine BS (F:=fun n=>(Ent.rd1 (FU n)).F) MN fun vs bs r h=>?_
 unfold Ent.F KZ at h
 dsimp only at h
 split at h
 ·rename_i z
  obtain ⟨hc,hx⟩:=Ae h
  have hc:=of_decide_eq_true hc
  refine ⟨1000000,?_⟩
  show (Br.need (decide (Ak z<=1000000/\Ak z<=1000000)) (.leaf (.j (Bp z:Int),[]))).run=some r
  rw [dcT (show Ak z<=1000000/\Ak z<=1000000 from ⟨hc,hc⟩)]
  exact hx
 ·cases h
def DD (zk:RL) (i:Nat) (n:Int):Bool:=match i with
 | 0=>false
 | i+1=>match zk[i]? with | some y=>decide (y.lab.2.2.1>=n) | none=>false
def Fp (zk:RL):Nat->List (By×Bool)->RL->Bool
 | _,_,[]=>true
 | i,seen,z::l=>if ((Dy .str seen z.lab.2.1).getD false||DD zk i z.lab.2.2.1)=true then false else Fp zk (i+1) (Eb .str seen z.lab.2.1 true) l
def Bo (x:Lab) (ks:RL):Bool:=
 if x.1=1\/x.1=2 then x.2.2.2.2.1==0&&ks.length==0
 else if x.1=3 then decide (0<=x.2.2.2.2.1/\x.2.2.2.2.1<=20)&&ks.length==0
 else if x.1=4 then x.2.2.2.2.1==0&&ks.length==1
 else if x.1≠5\/x.2.2.2.2.1≠0 then false
 else Fp ks 0 [] ks
def GL:Gm
 | [.tp LCd z 0],[]=>.need (decide (z.kids.length<=maxI)) (.leaf (.b (Bo z.lab z.kids),[]))
 | _,_=>.no
def poE:LoopEnt:=⟨113,[0,3,72,73,74],[],[2],fun
 | ([.tp LCd z 0,.mref 0,.sl (.tree LCd) ks,.j k,.j i],[some (.mp .str .bool seen)])=>.need (decide (0<=i/\i.toNat<=ks.length/\k=ks.length/\ks.length<=maxI/\z.kids.length=ks.length)) (.br (Fp z.kids i.toNat seen (ks.drop i.toNat)) (.leaf (.exit 1,([],[]))) (.leaf (.ret,([.b false],[]))))
 | _=>.no⟩
theorem Jt (z:Rose Lab) (ks:RL) (seen:List (By×Bool)) (k i:Int):AG prog (Ab [(68,.rd1 AY)]) (Ab [(13,poE)]) 0 (body f57 0) poE ([.tp LCd z 0,.mref 0,.sl (.tree LCd) ks,.j k,.j i],[some (.mp .str .bool seen)]) =
 ((ifB (decide (i<k)) (ifT (decide (0<=i)&&decide (i<(↑ks.length:Int))) (Ap ks[i.toNat]? fun z_1=>ifB ((Dy Cd.str seen (Rose.lab z_1).2.1).getD false)
 rF (ifB (decide (i>0)) (ifT (decide (0<=i64.wrap (i-1))&&decide (i64.wrap (i-1)<(↑z.kids.length:Int))) (Ap
 z.kids[(i64.wrap (i-1)).toNat]? fun z_2=>ifB (decide ((Rose.lab z_2).2.2.1>=(Rose.lab z_1).2.2.1)) rF (some
 (Ex.normal,[V.tp LCd z 0,V.mref 0,V.sl LCd.tree ks,V.j k,V.j (i64.wrap (i+1))],[some (Blk.mp Cd.str Cd.bool (Eb Cd.str seen
 (Rose.lab z_1).2.1 true))])))) (some (Ex.normal,[V.tp LCd z 0,V.mref 0,V.sl LCd.tree ks,V.j k,V.j (i64.wrap (i+1))],[some
 (Blk.mp Cd.str Cd.bool (Eb Cd.str seen (Rose.lab z_1).2.1 true))]))))) (some (Ex.exit 1,[],[]))):_):=by kernel_rfl
theorem Pp (z:Rose Lab):Bv prog (Ab [(68,.rd1 AY)]) (Ab [(13,poE)]) f57 [.tp LCd z 0] [] =
 ((ifB (z.lab.1==(1:Int)) (ifB (z.lab.1==(1:Int)) (ifB (z.lab.2.2.2.2.1==(0:Int)) (some (V.b ((↑z.kids.length:Int)==(0:Int)),[])) nF) (ifB (z.lab.1==(3:Int)) (ifB (decide ((0:Int)<=z.lab.2.2.2.2.1/\z.lab.2.2.2.2.1<=(20:Int))) (some (V.b ((↑z.kids.length :
 Int)==(0:Int)),[])) nF) (ifB (z.lab.1==(4:Int)) (ifB (z.lab.2.2.2.2.1==(0:Int)) (some (V.b ((↑z.kids.length:Int)==(1 :
 Int)),[])) nF) (ifB (z.lab.1 != (5:Int)) nF (ifB (z.lab.2.2.2.2.1 != (0:Int)) nF (ifT (decide
 ((0:Int)<=(0:Int)/\0<=z.kids.length/\(↑z.kids.length:Int)=(↑z.kids.length:Int)/\z.kids.length<=maxI/\z.kids.length=z.kids.length)) (ifB (Fp
 z.kids 0 (Al (Cd.str.den×Cd.bool.den)) (drop 0 z.kids)) (some (V.b true,[])) nF))))))) (ifB (z.lab.1==(2:Int)) (ifB
 (z.lab.2.2.2.2.1==(0:Int)) (some (V.b ((↑z.kids.length:Int)==(0:Int)),[])) nF) (ifB (z.lab.1==(3:Int)) (ifB (decide ((0 :
 Int)<=z.lab.2.2.2.2.1/\z.lab.2.2.2.2.1<=(20:Int))) (some (V.b ((↑z.kids.length:Int)==(0:Int)),[])) nF) (ifB (z.lab.1
 == (4:Int)) (ifB (z.lab.2.2.2.2.1==(0:Int)) (some (V.b ((↑z.kids.length:Int)==(1:Int)),[])) nF) (ifB (z.lab.1 != (5:Int))
 nF (ifB (z.lab.2.2.2.2.1 != (0:Int)) nF (ifT (decide ((0:Int)<=(0:Int)/\0<=z.kids.length/\
 (↑z.kids.length:Int)=(↑z.kids.length:Int)/\z.kids.length<=maxI/\z.kids.length=z.kids.length)) (ifB (Fp z.kids 0 (Al (Cd.str.den×Cd.bool.den))
 (drop 0 z.kids)) (some (V.b true,[])) nF)))))))):_):=by kernel_rfl
theorem Ir (z:Rose Lab) (ks:RL) (hz:z.kids.length=ks.length) (hm:ks.length<=maxI) : ∀ (j i:Nat) (seen:List (By×Bool)),i+j=ks.length->∀ ex d,(Br.br (Fp z.kids i seen (ks.drop i)) (.leaf (.exit 1,([],[]))) (.leaf (.ret,([.b false],[]))):Br (Ex×Dt)).run=some (ex,d)->
  Runs prog (Ab [(68,.rd1 AY)]) (Ab [(13,poE)]) 0 (body f57 0) poE ([.tp LCd z 0,.mref 0,.sl (.tree LCd) ks,.j (ks.length:Int),.j (i:Int)],[some (.mp .str .bool seen)]) ex d
 | 0,i,seen,hi,ex,d,h=>by
  have hr:=Jt z ks seen ks.length i
  rw [Af (dcF (by omega))] at hr
  have e1:ks.drop i=[]:=drop_eq_nil_of_le (by omega)
  rw [e1,Fp] at h
  obtain ⟨rfl,rfl⟩:=lfP h
  exact stp hr
 | j+1,i,seen,hi,ex,d,h=>by
  have hl:i<ks.length:=by omega
  have hM:=mxI
  have hr:=Jt z ks seen ks.length i
  rw [Ag (dcT (by omega)),T2 (by omega)] at hr
  simp only [ntN,gtE hl,Aq,AM (n:=i) (by omega)] at hr
  rw [drop_eq_getElem_cons hl,Fp] at h
  have stop : ∀ {x:Option (Ex×Dt)},x=some (.ret,([.b false],[]))->(Br.br false (.leaf (.exit 1,([],[]))) (.leaf (.ret,([.b false],[]))):Br (Ex×Dt)).run=some (ex,d)->x=some (ex,d)/\ex≠.normal:=fun hx h=>by
   obtain ⟨rfl,rfl⟩:=lfP h
   exact ⟨hx,by simp⟩
  cases h1:(Dy .str seen ks[i].lab.2.1).getD false with
  | true=>
   rw [h1,Bool.true_or,if_pos rfl] at h
   rw [h1,A4] at hr
   obtain ⟨g1,g2⟩:=stop hr h
   exact .stop _ _ _ g1 g2
  | false=>
   rw [h1,Bool.false_or] at h
   rw [h1,A1] at hr
   cases i with
   | zero=>
    rw [Af (dcF (by omega))] at hr
    rw [DD,if_neg (by simp)] at h
    exact sts hr (Ir z ks hz hm j 1 _ (by omega) ex d h)
   | succ i=>
    have hl':i<z.kids.length:=by omega
    have hw:i64.wrap (((i+1:Nat):Int)-1)=(i:Int):=by rw [Ax (by omega) (by omega)]; omega
    rw [Ag (dcT (by omega)),hw,T2 (by omega)] at hr
    simp only [ntN,gtE hl',Aq] at hr
    have hp:DD z.kids (i+1) ks[i+1].lab.2.2.1=decide (z.kids[i].lab.2.2.1>=ks[i+1].lab.2.2.1):=by unfold DD; simp only [gtE hl']
    rw [hp] at h
    cases h2:decide (z.kids[i].lab.2.2.1>=ks[i+1].lab.2.2.1) with
    | true=>
     rw [h2,if_pos rfl] at h
     rw [h2,A4] at hr
     obtain ⟨g1,g2⟩:=stop hr h
     exact .stop _ _ _ g1 g2
    | false=>
     rw [h2,if_neg (by simp)] at h
     rw [h2,A1] at hr
     exact sts hr (Ir z ks hz hm j (i+1+1) _ (by omega) ex d h)
theorem Rp:A6 prog (Ab [(68,.rd1 AY)]) (Ab [(13,poE)]) 0 (f57.body.getD .skip):=by
 refine Az (a:=body f57 0) (by kernel_rfl) fun d ex d' h=>?_
 unfold poE at h
 dsimp only at h
 split at h
 ·rename_i z ks k i seen
  obtain ⟨hc,hx⟩:=Ae h
  clear h
  obtain ⟨h0,h1,rfl,h3,h4⟩:=of_decide_eq_true hc
  obtain ⟨i,rfl⟩:=eq_ofNat_of_zero_le h0
  simp only [ntN] at h1 hx
  exact Ir z ks h4 h3 (ks.length-i) i seen (by omega) ex d' hx
 ·cases h
theorem Jw (z:Rose Lab) (hc:z.kids.length<=maxI):Bv prog (Ab [(68,.rd1 AY)]) (Ab [(13,poE)]) f57 [.tp LCd z 0] []=some (.b (Bo z.lab z.kids),[]):=by
 rw [Pp]
 have hl : ∀ n:Nat,((z.kids.length:Int)==(n:Int))=(z.kids.length==n):=fun n=>by
  by_cases h:z.kids.length=n
  ·subst h; simp
  ·rw [beq_false_of_ne h,beq_false_of_ne (by omega)]
 have hl0:((z.kids.length:Int)==0)=(z.kids.length==0):=hl 0
 have hl1:((z.kids.length:Int)==1)=(z.kids.length==1):=hl 1
 have hd:decide ((0:Int)<=0/\0<=z.kids.length/\(z.kids.length:Int)=(z.kids.length:Int)/\z.kids.length<=maxI/\z.kids.length=z.kids.length)=true:=dcT ⟨by omega,by omega,rfl,hc,rfl⟩
 unfold Bo
 rw [drop_zero,hl0,hl1]
 by_cases a1:z.lab.1=1
 ·rw [if_pos (.inl a1),a1]
  cases z.lab.2.2.2.2.1==0<;>rfl
 by_cases a2:z.lab.1=2
 ·rw [if_pos (.inr a2),a2]
  cases z.lab.2.2.2.2.1==0<;>rfl
 rw [Af (beq_false_of_ne a1),Af (beq_false_of_ne a2),if_neg (by rintro (h | h); exact a1 h; exact a2 h)]
 by_cases a3:z.lab.1=3
 ·rw [if_pos a3,a3,Ag (by rfl)]
  by_cases a5:0<=z.lab.2.2.2.2.1/\z.lab.2.2.2.2.1<=20
  ·rw [dcT a5]; rfl
  ·rw [dcF a5]; rfl
 rw [Af (beq_false_of_ne a3),if_neg a3]
 by_cases a4:z.lab.1=4
 ·rw [if_pos a4,a4,Ag (by rfl)]
  cases z.lab.2.2.2.2.1==0<;>rfl
 rw [Af (beq_false_of_ne a4),if_neg a4]
 by_cases a5:z.lab.1=5
 ·rw [Af (by rw [a5]; rfl)]
  by_cases a6:z.lab.2.2.2.2.1=0
  ·rw [Af (by rw [a6]; rfl),if_neg (by rintro (h | h); exact h a5; exact h a6),hd,HU]
   cases Fp z.kids 0 [] z.kids<;>rfl
  ·rw [Ag (by simpa using a6),if_pos (.inr a6)]
 ·rw [Ag (by simpa using a5),if_pos (.inl a5)]
theorem Pr:Ad prog 57 (Ent.rd1 GL).F:=by
 refine fcK (kc func68 Ks KnowsL.nil).knows (Λ:=(Ab [(13,poE)])) func57 fun vs bs r hq=>?_
 unfold Ent.F GL at hq
 dsimp only at hq
 split at hq
 ·rename_i z
  obtain ⟨hc,hx⟩:=Ae hq
  exact ⟨Rp,(Jw z (of_decide_eq_true hc)).trans hx⟩
 ·cases hq
def B9 {α:Type} (p:α->Bool):Nat->List α->Int
 | _,[]=>-1
 | n,z::l=>if p z=true then (n:Int) else B9 p (n+1) l
mutual
def Ao:Rose Lab->Bool
 | .node x ks=>Bo x ks&&Bz x.1 ks
def Bz (k:Int):RL->Bool
 | []=>true
 | z::l=>(C6 k z.lab&&Ao z)&&Bz k l
end
mutual
def Bu:Rose Lab->Bool
 | .node x ks=>decide (x.2.1.length<=maxI)&&De ks
def De:RL->Bool
 | []=>true
 | z::l=>Bu z&&De l
end
def B5 (z:Rose Lab):Bool:=z.lab.1==5&&z.lab.2.1==[]&&z.lab.2.2.1==0&&!z.lab.2.2.2.1&&Ao z&&decide (Bp z<=5)&&decide (Ak z<=30)
def D5 (k:Int) (z:Rose Lab):Bool:=!(C6 k z.lab&&Ao z)
def ET (n:Nat):Gm
 | [.tp LCd z 0],[]=>.need (decide (Ak z<=n/\Ak z<=1000000/\Bu z=true)) (.leaf (.b (Ao z),[]))
 | _,_=>.no
def CI (n:Nat):Gm
 | [.tp LCd z 0,.bx [.tp LCd y 0] 0],[]=>.need (decide (Ak z<=n/\Ak z<=1000000/\Bu z=true)) (.leaf (.b (D5 y.lab.1 z),[]))
 | _,_=>.no
def K4:Gm
 | [.tp LCd z 0],[]=>.need (decide (Ak z<=1000000/\Bu z=true)) (.leaf (.b (Ao z),[]))
 | _,_=>.no
def KW:Gm
 | [.tp LCd z 0],[]=>.need (decide (Ak z<=1000000/\Bu z=true)) (.leaf (.b (B5 z),[]))
 | _,_=>.no
def krE (n:Nat):LoopEnt:=⟨19,[0,1,4,7,8],[],[4],fun
 | ([.sl (.tree LCd) l,.fn 59 [] [.ptr 0 0],.j _,.j k,.j i],[some (.box [.tp LCd y 0])])=>
  .need (decide (0<=i/\i.toNat<=l.length/\l.length<=maxI/\k=l.length)&&l.all (fun z:Rose Lab=>decide (Ak z<=n/\Ak z<=1000000/\Bu z=true))) (.br (decide (B9 (fun z:Rose Lab=>D5 y.lab.1 z) i.toNat (l.drop i.toNat)<0)) (.leaf (.exit 0,([],[some (.box [.tp LCd y 0])]))) (.leaf (.ret,([.j (B9 (fun z:Rose Lab=>D5 y.lab.1 z) i.toNat (l.drop i.toNat))],[some (.box [.tp LCd y 0])]))))
 | _=>.no⟩
def PA (n:Nat):Gm
 | [.sl (.tree LCd) l,.fn 59 [] [.ptr 0 0]],[.box [.tp LCd y 0]]=>.need (l.all (fun z:Rose Lab=>decide (Ak z<=n/\Ak z<=1000000/\Bu z=true))) (.leaf (.j (B9 (fun z:Rose Lab=>D5 y.lab.1 z) 0 l),[some (.box [.tp LCd y 0])]))
 | _,_=>.no
def QF (n:Nat):Gm
 | [.sl (.tree LCd) l,.fn 59 [] [.ptr 0 0]],[.box [.tp LCd y 0]]=>.need (l.all (fun z:Rose Lab=>decide (Ak z<=n/\Ak z<=1000000/\Bu z=true))) (.leaf (.b (l.any (fun z:Rose Lab=>D5 y.lab.1 z)),[some (.box [.tp LCd y 0])]))
 | _,_=>.no
theorem FX {α:Type} (p:α->Bool) : ∀ (l:List α) (n:Nat),(B9 p n l = -1/\l.any p=false)\/((n:Int)<=B9 p n l/\B9 p n l<n+l.length/\l.any p=true)
 | [],n=>.inl ⟨rfl,rfl⟩
 | z::l,n=>by
  rw [B9,List.any_cons]
  by_cases h:p z=true
  ·rw [if_pos h,h]; exact .inr ⟨Int.le_refl _,by simp; omega,rfl⟩
  ·rw [if_neg h,show p z=false by simpa using h,Bool.false_or]
   rcases FX p l (n+1) with ⟨h1,h2⟩ | ⟨h1,h2,h3⟩
   ·exact .inl ⟨h1,h2⟩
   ·exact .inr ⟨by omega,by simp; omega,h3⟩
theorem Lk {α:Type} (p:α->Bool) (l:List α) (n:Nat):decide (B9 p n l>=0)=l.any p:=by
 rcases FX p l n with ⟨h1,h2⟩ | ⟨h1,h2,h3⟩
 ·rw [h2]; exact dcF (by omega)
 ·rw [h3]; exact dcT (by omega)
theorem Lj {α:Type} (p:α->Bool) (l:List α) (n:Nat) (h:B9 p n l<0):B9 p n l = -1:=by
 rcases FX p l n with ⟨h1,h2⟩ | ⟨h1,h2⟩
 ·exact h1
 ·omega
theorem J5 {z:Rose Lab} : ∀ {l:RL},De l=true->z∈l->Bu z=true
 | [],_,h=>by cases h
 | y::l,hn,h=>by
  rw [De,anE] at hn
  rcases mem_cons.1 h with rfl | h
  ·exact hn.1
  ·exact J5 hn.2 h
theorem Oi {z:Rose Lab} (h:Bu z=true):z.lab.2.1.length<=maxI:=by
 cases z
 rw [Bu,anE] at h
 exact of_decide_eq_true h.1
theorem M9 {z:Rose Lab} (h:Bu z=true):De z.kids=true:=by
 cases z
 rw [Bu,anE] at h
 exact h.2
theorem GH (k:Int) : ∀ l:RL,Bz k l = !(l.any fun z=>D5 k z)
 | []=>rfl
 | z::l=>by rw [Bz,GH k l,List.any_cons,D5]; cases C6 k z.lab<;>cases Ao z<;>simp
theorem JM (n:Nat) (hf:Ad prog 39 (Ent.rd1 (ET n)).F):Ad prog 59 (Ent.rd1 (CI n)).F:=by
 refine fcK (kc func60 Q1 (kc func39 hf KnowsL.nil)).knows (Λ:=Ab []) func59 fun vs bs r hq=>?_
 unfold Ent.F CI at hq
 dsimp only at hq
 split at hq
 ·rename_i z y
  obtain ⟨hc,hx⟩:=Ae hq
  refine ⟨Ar _,Eq.trans ?_ hx⟩
  have e:Bv prog (Ab [(60,.rd1 Is),(39,.rd1 (ET n))]) (Ab []) f59 [.tp LCd z 0,.bx [.tp LCd y 0] 0] []=((ifT (decide (List.length z.lab.2.1<=maxI)) (ifB (!C6 y.lab.1 z.lab) (some (V.b true,[])) (ifT (decide (Ak z<=n/\Ak z<=1000000/\Bu z=true))
 (some (V.b !Ao z,[]))))):_):=by kernel_rfl
  have hn:=of_decide_eq_true hc
  rw [e,Aa (dcT (Oi hn.2.2))]
  unfold D5
  cases C6 y.lab.1 z.lab with
  | true=>rw [Aa hc]; rfl
  | false=>rfl
 ·cases hq
theorem JN (n:Nat) (y:Rose Lab) (l:RL) (r k i:Int):AG prog (Ab [(59,.rd1 (CI n))]) (Ab [(2,(krE n))]) 1 (body f69 0) (krE n) ([.sl (.tree LCd) l,.fn 59 [] [.ptr 0 0],.j r,.j k,.j i],[some (.box [.tp LCd y 0])]) =
 ((ifB (decide (i<k)) (ifT (decide (0<=i)&&decide (i<(↑l.length:Int))) (Ap l[i.toNat]? fun z=>ifT (decide (Ak z<=n/\Ak z<=1000000/\Bu z =
 true)) (ifB (D5 y.lab.1 z) (some (Ex.ret,[V.j i],[some (Blk.box [V.tp LCd y 0])])) (some (Ex.normal,[V.sl LCd.tree l,V.fn 59
 [] [V.ptr 0 0],V.j r,V.j k,V.j (i64.wrap (i+1))],[some (Blk.box [V.tp LCd y 0])]))))) (some (Ex.exit 0,[],[some (Blk.box [V.tp LCd
 y 0])]))):_):=by kernel_rfl
theorem LP (n:Nat) (y:Rose Lab) {l:RL} {r:Int} (hx:l.length<=maxI) (hs:(l.all (fun z:Rose Lab=>decide (Ak z<=n/\Ak z<=1000000/\Bu z=true)))=true) : ∀ (j i:Nat),i+j=l.length->∀ e d',(.br (decide (B9 (fun z:Rose Lab=>D5 y.lab.1 z) i (l.drop i)<0)) (.leaf (.exit 0,([],[some (.box [.tp LCd y 0])]))) (.leaf (.ret,([.j (B9 (fun z:Rose Lab=>D5 y.lab.1 z) i (l.drop i))],[some (.box [.tp LCd y 0])]))):Br (Ex×Dt)).run=some (e,d')->
  Runs prog (Ab [(59,.rd1 (CI n))]) (Ab [(2,(krE n))]) 1 (body f69 0) (krE n) ([.sl (.tree LCd) l,.fn 59 [] [.ptr 0 0],.j r,.j (l.length:Int),.j (i:Int)],[some (.box [.tp LCd y 0])]) e d'
 | 0,i,hi,e,d',h=>by
  have e1:l.drop i=[]:=drop_eq_nil_of_le (by omega)
  rw [e1,Lu,B9,if_pos (by omega)] at h
  cases h
  have hr:=JN n y l r l.length i
  rw [Af (dcF (by omega))] at hr
  exact stp hr
 | j+1,i,hi,e,d',h=>by
  have h1:i<l.length:=by omega
  have hr:=JN n y l r l.length i
  rw [Ag (dcT (by omega)),T2 (by omega)] at hr
  simp only [ntN,gtE h1,Aq,AM (n:=i) (by omega)] at hr
  have hz:=of_decide_eq_true (all_eq_true.1 hs _ (getElem_mem h1))
  rw [Aa (by simpa only [anE,dcE] using hz)] at hr
  rw [drop_eq_getElem_cons h1,Lu,B9] at h
  by_cases he:(fun z:Rose Lab=>D5 y.lab.1 z) l[i]=true
  ·rw [if_pos he,if_neg (by omega)] at h
   cases h
   rw [Ag he] at hr
   exact stp hr
  ·rw [if_neg he] at h
   rw [Af (by simpa using he)] at hr
   exact sts hr (LP n y hx hs j (i+1) (by omega) e d' (by rw [Lu]; exact h))
theorem Ru (n:Nat):A6 prog (Ab [(59,.rd1 (CI n))]) (Ab [(2,(krE n))]) 1 (f69.body.getD .skip):=by
 refine Az (a:=body f69 0) (by kernel_rfl) fun d e d' h=>?_
 unfold krE at h
 dsimp only at h
 split at h
 ·obtain ⟨hc,h'⟩:=Ae h
  rw [anE] at hc
  obtain ⟨hc,hs⟩:=hc
  obtain ⟨h0,h1,h2,rfl⟩:=of_decide_eq_true hc
  obtain ⟨i,rfl⟩:=eq_ofNat_of_zero_le h0
  exact LP n _  h2 hs _ i (Nat.add_sub_of_le h1) e d' h'
 ·cases h
theorem QI (n:Nat) (y:Rose Lab) (l:RL) (hx:l.length<=maxI) (hs:(l.all (fun z:Rose Lab=>decide (Ak z<=n/\Ak z<=1000000/\Bu z=true)))=true):Bv prog (Ab [(59,.rd1 (CI n))]) (Ab [(2,(krE n))]) f69 [.sl (.tree LCd) l,.fn 59 [] [.ptr 0 0]] [.box [.tp LCd y 0]]=some (.j (B9 (fun z:Rose Lab=>D5 y.lab.1 z) 0 l),[some (.box [.tp LCd y 0])]):=by
 have e:Bv prog (Ab [(59,.rd1 (CI n))]) (Ab [(2,(krE n))]) f69 [.sl (.tree LCd) l,.fn 59 [] [.ptr 0 0]] [.box [.tp LCd y 0]] =
  ((ifT (decide ((0:Int)<=(0:Int)/\0<=l.length/\l.length<=maxI/\(↑l.length:Int)=(↑l.length:Int))&&l.all fun z=>decide (Ak z<=n/\Ak z<=
 1000000/\Bu z=true)) (ifB (decide (B9 (fun z=>D5 y.lab.1 z) 0 (drop 0 l)<(0:Int))) (some (V.j (-1),[some (Blk.box
 [V.tp LCd y 0])])) (some (V.j (B9 (fun z=>D5 y.lab.1 z) 0 (drop 0 l)),[some (Blk.box [V.tp LCd y 0])])))):_):=by kernel_rfl
 rw [e,Aa (by rw [anE]; exact ⟨dcT ⟨by omega,by omega,hx,rfl⟩,hs⟩)]
 simp only [drop_zero]
 by_cases q:B9 (fun z:Rose Lab=>D5 y.lab.1 z) 0 l<0
 ·rw [Ag (dcT q),Lj _ _ _ q]
 ·rw [Af (dcF q)]
theorem QG (n:Nat) (hf:Ad prog 59 (Ent.rd1 (CI n)).F):Ad prog 69 (Ent.own (PA n)).F:=by
 refine EC (kc func59 hf KnowsL.nil).knows (Λ:=(Ab [(2,(krE n))])) func69 (c:=f69.body.getD .skip) (by kernel_rfl) fun vs bs r h hv hb=>?_
 unfold Ent.F PA at h
 dsimp only at h
 split at h
 ·rename_i l y
  obtain ⟨hc,h'⟩:=Ae h
  exact ⟨Ru n,(QI n y l (hv (.sl (.tree LCd) l) (by simp)).1 hc).trans (by cases h'; rfl)⟩
 ·cases h
theorem PB (n:Nat) (y:Rose Lab) (l:RL) (hs:(l.all (fun z:Rose Lab=>decide (Ak z<=n/\Ak z<=1000000/\Bu z=true)))=true):Bv prog (Ab [(69,.own (PA n))]) (Ab []) f58 [.sl (.tree LCd) l,.fn 59 [] [.ptr 0 0]] [.box [.tp LCd y 0]]=some (.b (l.any (fun z:Rose Lab=>D5 y.lab.1 z)),[some (.box [.tp LCd y 0])]):=by
 have e:Bv prog (Ab [(69,.own (PA n))]) (Ab []) f58 [.sl (.tree LCd) l,.fn 59 [] [.ptr 0 0]] [.box [.tp LCd y 0]] =
  ((ifT (l.all fun z=>decide (Ak z<=n/\Ak z<=1000000/\Bu z=true)) (some (V.b (decide (B9 (fun z=>D5 y.lab.1 z) 0 l>=(0:Int))),[some
 (Blk.box [V.tp LCd y 0])]))):_):=by kernel_rfl
 rw [e]
 rw [Aa hs]
 rw [Lk]
theorem QH (n:Nat) (hf:Ad prog 59 (Ent.rd1 (CI n)).F):Ad prog 58 (Ent.own (QF n)).F:=by
 refine fcK (kc func69 (QG n hf) KnowsL.nil).knows (Λ:=Ab []) func58 fun vs bs r h=>?_
 unfold Ent.F QF at h
 dsimp only at h
 split at h
 ·rename_i l y
  obtain ⟨hc,h'⟩:=Ae h
  exact ⟨Ar _,(PB n y l hc).trans (by cases h'; rfl)⟩
 ·cases h
theorem KT : ∀ n,(∀ m,m<n->Ad prog 39 (Ent.rd1 (ET m)).F)->Ad prog 39 (Ent.rd1 (ET n)).F
 | 0,_=>AN fun vs bs=>by
  unfold Ent.F ET
  dsimp only
  split
  ·rename_i z
   have:=CL z
   rw [dcF (show ¬(Ak z<=0/\Ak z<=1000000/\Bu z=true) by omega)]; rfl
  ·rfl
 | n+1,ih=>by
  have hC:=QH n (JM n (ih n (lt_succ_self n)))
  refine fcK (kc func57 Pr (kc func58 hC KnowsL.nil)).knows (Λ:=Ab []) func39 fun vs bs r hq=>?_
  unfold Ent.F ET at hq
  dsimp only at hq
  split at hq
  ·rename_i z
   obtain ⟨hc,hx⟩:=Ae hq
   obtain ⟨h1,h2,h3⟩:=of_decide_eq_true hc
   refine ⟨Ar _,Eq.trans ?_ hx⟩
   have e:Bv prog (Ab [(57,.rd1 GL),(58,.own (QF n))]) (Ab []) f39 [.tp LCd z 0] []=((ifT (decide (z.kids.length<=maxI)) (ifB (Bo z.lab z.kids) (ifT (z.kids.all fun z=>decide (Ak z<=n/\Ak z<=1000000/\Bu z=true)) (some (V.b
 !z.kids.any fun z_1=>D5 z.lab.1 z_1,[]))) nF)):_):=by kernel_rfl
   rw [D4] at h1 h2
   have hl:=CM z.kids
   have hM:=mxI
   have hall:(z.kids.all fun z:Rose Lab=>decide (Ak z<=n/\Ak z<=1000000/\Bu z=true))=true:=all_eq_true.2 fun w hw=>dcT ⟨by have:=Cs hw; omega,by have:=Cs hw; omega,J5 (M9 h3) hw⟩
   rw [e,Aa (dcT (by omega))]
   have hr:Ao z=(Bo z.lab z.kids&&!(z.kids.any fun w=>D5 z.lab.1 w)):=by cases z; rw [Ao,GH]; rfl
   rw [hr]
   cases Bo z.lab z.kids with
   | true=>rw [A4,Aa hall]; rfl
   | false=>rfl
  ·cases hq
theorem right:Ad prog 39 (Ent.rd1 K4).F:=by
 refine BS (F:=fun n=>(Ent.rd1 (ET n)).F) KT fun vs bs r h=>?_
 unfold Ent.F K4 at h
 dsimp only at h
 split at h
 ·rename_i z
  obtain ⟨hc,hx⟩:=Ae h
  obtain ⟨h1,h2⟩:=of_decide_eq_true hc
  refine ⟨1000000,?_⟩
  show (Br.need (decide (Ak z<=1000000/\Ak z<=1000000/\Bu z=true)) (.leaf (.b (Ao z),[]))).run=some r
  rw [dcT (show Ak z<=1000000/\Ak z<=1000000/\Bu z=true from ⟨h1,h1,h2⟩)]
  exact hx
 ·cases h
theorem Rv:Ad prog 19 (Ent.rd1 KW).F:=by
 refine fcK (kc func39 right (kc func40 Ry (kc func41 QL KnowsL.nil))).knows (Λ:=Ab []) func19 fun vs bs r hq=>?_
 unfold Ent.F KW at hq
 dsimp only at hq
 split at hq
 ·rename_i z
  obtain ⟨hc,hx⟩:=Ae hq
  obtain ⟨h1,h2⟩:=of_decide_eq_true hc
  refine ⟨Ar _,Eq.trans ?_ hx⟩
  have e:Bv prog (Ab [(39,.rd1 K4),(40,.rd1 KZ),(41,.rd1 IA)]) (Ab []) f19 [.tp LCd z 0] []=((ifB (z.lab.1==(5:Int)) (ifB (z.lab.2.1==Al UInt8) (ifB (z.lab.2.2.1==(0:Int)) (ifB (!z.lab.2.2.2.1) (ifT (decide (Ak z<=1000000
 /\ Bu z=true)) (ifB (Ao z) (ifT (decide (Ak z<=1000000)) (ifB (decide ((↑(Bp z):Int)<=(5:Int))) (ifT (decide (Ak z<=1000000)) (some
 (V.b (decide ((↑(Ak z):Int)<=(30:Int))),[]))) nF)) nF)) nF) nF) nF) nF):_):=by kernel_rfl
  rw [e,dcT h1,hc]
  have d1:decide ((Bp z:Int)<=5)=decide (Bp z<=5):=decide_eq_decide.2 (by omega)
  have d2:decide ((Ak z:Int)<=30)=decide (Ak z<=30):=decide_eq_decide.2 (by omega)
  rw [d1,d2]
  unfold B5
  cases z.lab.1==5<;>cases z.lab.2.1==[]<;>cases z.lab.2.2.1==0<;>cases z.lab.2.2.2.1<;>cases Ao z<;>cases decide (Bp z<=5)<;>rfl
 ·cases hq
def AX (l:List Ty):Bool:=decide (1<=l.length/\l.length<=30)&&decide (AH l 0=some (-1))&&(kf l 0).2==l.length&&B5 (kf l 0).1
def nmL (l:List Ty):Bool:=l.all fun x=>decide (x.2.1.length<=maxI)
def LY:Gm
 | [.agg [.sl TCd l]],[]=>.need (decide (l.length<=4000000000)&&nmL l) (.leaf (.b (AX l),[]))
 | _,_=>.no
theorem HP {l:List Ty} {g:Nat->Rose Lab×Nat} {a:Nat} (hg : ∀ e,e<l.length->e+Ak (g e).1=(g e).2) : ∀ (n e:Nat) (ks:RL),(Bf g l a n e ks).2+Aj ks=e+Aj (Bf g l a n e ks).1
 | 0,e,ks=>rfl
 | n+1,e,ks=>by
  unfold Bf
  split
  ·rename_i hu
   have h1:=hg e (Ff hu)
   have h2:=HP (a:=a) hg n (g e).2 (ks++[(g e).1])
   have h3 : ∀ (ks:RL) (z:Rose Lab),Aj (ks++[z])=Aj ks+Ak z:=fun ks z=>by
    induction ks with
    | nil=>simp [Aj]
    | cons y ks ih=>rw [cons_append,Aj,Aj,ih]; omega
   rw [h3] at h2
   omega
  ·rfl
theorem LS (l:List Ty) : ∀ f a,a<l.length->a+Ak (kfr l f a).1=(kfr l f a).2
 | 0,a,h=>by simp [kfr,Ak,Aj]
 | f+1,a,h=>by
  unfold kfr
  dsimp only
  cases AB (As l a).1 with
  | true=>
   have:=HP (a:=a) (LS l f) l.length (a+1) []
   rw [Aj] at this
   rw [cond_true,Ak]; omega
  | false=>rw [cond_false,Ak,Aj]
theorem KX {l:List Ty} {a:Nat} (h:a<l.length):a+Ak (kf l a).1=(kf l a).2:=LS l l.length a h
def Cj (k:Int):Nat->List Ty->List Int
 | _,[]=>[]
 | i,x::l=>if x.2.2.2.2.1=k then (i:Int)::Cj k (i+1) l else Cj k (i+1) l
def Bb (l:List Ty) (k:Nat):List Int:=Cj k (k+1) (l.drop (k+1))
def t2 (l:List Ty):Nat->Nat->Rose Lab
 | 0,k=>.node (As l k) []
 | f+1,k=>.node (As l k) ((Bb l k).map fun i=>t2 l f i.toNat)
def t2L (l:List Ty) (k:Nat):Rose Lab:=t2 l l.length k
def CH:LoopEnt:=⟨29,[1,2,5,6],[5],[],fun
 | ([.j k,.ptr 0 0,.ref 1 0 n,.j i],[some (.box [.sl TCd l]),R0 (.int .i64) o])=>.need (decide (0<=i/\i.toNat<=l.length/\l.length<=4000000000/\n=o.length/\o.length<=i.toNat)) (.leaf (.exit 0,([.ref 0 0 (o++Cj k i.toNat (l.drop i.toNat)).length],[R0 (.int .i64) (o++Cj k i.toNat (l.drop i.toNat))])))
 | _=>.no⟩
def G6:Gm
 | [.agg [.sl TCd l],.j k],[]=>.need (decide (0<=k/\k.toNat<l.length/\l.length<=4000000000)) (.leaf (.ref 0 0 (Bb l k.toNat).length,[R0 (.int .i64) (Bb l k.toNat)]))
 | _,_=>.no
def DH (n:Nat):Gm
 | [.agg [.sl TCd l],.j k],[]=>.need (decide (0<=k/\k.toNat<l.length/\l.length<=4000000000/\l.length-k.toNat<=n)) (.leaf (.agg [.j (t2L l k.toNat).lab.1,.s (t2L l k.toNat).lab.2.1,.j (t2L l k.toNat).lab.2.2.1,.b (t2L l k.toNat).lab.2.2.2.1,.j (t2L l k.toNat).lab.2.2.2.2.1,.ref 0 0 (t2L l k.toNat).kids.length],[R0 (.rose LCd) (t2L l k.toNat).kids]))
 | _,_=>.no
def G5:Gm
 | [.agg [.sl TCd l],.j k],[]=>.need (decide (0<=k/\k.toNat<l.length/\l.length<=4000000000)) (.leaf (.agg [.j (t2L l k.toNat).lab.1,.s (t2L l k.toNat).lab.2.1,.j (t2L l k.toNat).lab.2.2.1,.b (t2L l k.toNat).lab.2.2.2.1,.j (t2L l k.toNat).lab.2.2.2.2.1,.ref 0 0 (t2L l k.toNat).kids.length],[R0 (.rose LCd) (t2L l k.toNat).kids]))
 | _,_=>.no
def CG (n:Nat):LoopEnt:=⟨43,[2,4,6,27,28,29],[4,6],[],fun
 | ([.ptr 0 0,.ptr 1 0,.ptr 2 0,.ref 3 0 p,.j m,.j i],[some (.box [.sl TCd l]),some (.box [.j 0,.s [],.j 0,.b false,.j 0,.ref 4 0 0]),some (.box [.j x0,.s x1,.j x2,.b x3,.j x4,.ref 5 0 k]),R0 (.int .i64) q,R0 (.rose LCd) [],R0 (.rose LCd) ks])=>.need (decide (0<=i/\i.toNat<=q.length/\m=q.length/\p=q.length/\k=ks.length/\ks.length<=i.toNat/\q.length<=4000000000/\l.length<=4000000000)&&(q.all fun i:Int=>decide (0<=i/\i.toNat<l.length/\l.length-i.toNat<=n))) (.leaf (.exit 0,([.ptr 0 0,.ptr 1 0],[some (.box [.j 0,.s [],.j 0,.b false,.j 0,.ref 2 0 0]),some (.box [.j x0,.s x1,.j x2,.b x3,.j x4,.ref 3 0 (ks++(q.drop i.toNat).map fun i=>t2L l i.toNat).length]),R0 (.rose LCd) [],R0 (.rose LCd) (ks++(q.drop i.toNat).map fun i=>t2L l i.toNat)])))
 | _=>.no⟩
theorem HQ {k:Int} : ∀ {l:List Ty} {i:Nat} {x:Int},x∈Cj k i l->∃ j:Nat,x=(j:Int)/\i<=j/\j<i+l.length
 | [],i,x,h=>by simp [Cj] at h
 | y::l,i,x,h=>by
  rw [Cj] at h
  have rest:x∈Cj k (i+1) l->∃ j:Nat,x=(j:Int)/\i<=j/\j<i+(y::l).length:=fun h=>by
   obtain ⟨j,h1,h2,h3⟩:=HQ h
   exact ⟨j,h1,by omega,by simp; omega⟩
  split at h
  ·rcases mem_cons.1 h with rfl | h
   ·exact ⟨i,rfl,Nat.le_refl _,by simp⟩
   ·exact rest h
  ·exact rest h
theorem EU {l:List Ty} {k:Nat} {x:Int} (h:x∈Bb l k) : ∃ j:Nat,x=(j:Int)/\k<j/\j<l.length:=by
 obtain ⟨j,h1,h2,h3⟩:=HQ h
 rw [length_drop] at h3
 exact ⟨j,h1,by omega,by omega⟩
theorem HR (k:Int) : ∀ (l:List Ty) (i:Nat),(Cj k i l).length<=l.length
 | [],i=>Nat.le_refl _
 | y::l,i=>by
  rw [Cj]
  have:=HR k l (i+1)
  split<;>simp<;>omega
theorem L1 (l:List Ty) : ∀ (f f' k:Nat),l.length-k<=f->l.length-k<=f'->k<l.length->t2 l f k=t2 l f' k
 | 0,f',k,h1,_,h=>by omega
 | f+1,0,k,_,h1,h=>by omega
 | f+1,f'+1,k,h1,h2,h=>by
  unfold t2
  congr 1
  refine List.map_congr_left fun x hx=>?_
  obtain ⟨j,rfl,h3,h4⟩:=EU hx
  exact L1 l f f' _ (by simp; omega) (by simp; omega) (by simpa using h4)
theorem Qb {l:List Ty} {k:Nat} (h:k<l.length):t2L l k = .node (As l k) ((Bb l k).map fun i=>t2L l i.toNat):=by
 obtain ⟨m,hm⟩ : ∃ m,l.length=m+1:=⟨l.length-1,by omega⟩
 unfold t2L
 conv=>lhs; rw [hm]
 rw [t2]
 congr 1
 refine List.map_congr_left fun x hx=>?_
 obtain ⟨j,rfl,h3,h4⟩:=EU hx
 exact L1 l m l.length _ (by simp; omega) (by simp) (by simpa using h4)
theorem Fu (l:List Ty) (k:Int) (n:Nat) (i:Int) (o:List Int):AG prog (Ab []) (Ab [(3,CH)]) 0 (body f32 0) CH ([.j k,.ptr 0 0,.ref 1 0 n,.j i],[some (.box [.sl TCd l]),R0 (.int .i64) o]) =
 ((ifB (decide (i<(↑l.length:Int))) (ifT (decide (0<=i)&&decide (i<(↑l.length:Int))) (Ap l[i.toNat]? fun z=>ifB (z.2.2.2.2.1==k) (ifT (decide ((n
 + 1)*8<=140737488355328)&&decide (n+1<=maxI)) (some (Ex.normal,[V.j k,V.ptr 0 0,V.ref 1 0 (n+1),V.i .i64
 (i64.wrap (i+1))],[some (Blk.box [V.sl TCd l]),R0 (Cd.int .i64) (take n (drop 0 o)++i::Al (Cd.int
 .i64).den)]))) (some (Ex.normal,[V.j k,V.ptr 0 0,V.ref 1 0 n,V.j (i64.wrap (i+1))],[some (Blk.box [V.sl TCd l]),R0 (Cd.int .i64) o])))) (some (Ex.exit 0,[V.ref 0 0 n],[R0 (Cd.int .i64) o]))):_):=by kernel_rfl
theorem Em (l:List Ty) (k:Int) (hl:l.length<=4000000000) : ∀ (j i:Nat) (o:List Int),i+j=l.length->o.length<=i->
  Runs prog (Ab []) (Ab [(3,CH)]) 0 (body f32 0) CH ([.j k,.ptr 0 0,.ref 1 0 o.length,.j (i:Int)],[some (.box [.sl TCd l]),R0 (.int .i64) o]) (.exit 0) ([.ref 0 0 (o++Cj k i (l.drop i)).length],[R0 (.int .i64) (o++Cj k i (l.drop i))])
 | 0,i,o,hi,ho=>by
  have hr:=Fu l k o.length i o
  rw [Af (dcF (by omega))] at hr
  rw [drop_eq_nil_of_le (by omega),Cj,append_nil]
  exact stp hr
 | j+1,i,o,hi,ho=>by
  have h1:i<l.length:=by omega
  have hM:=mxI
  have hr:=Fu l k o.length i o
  rw [Ag (dcT (by omega)),T2 (by omega)] at hr
  simp only [ntN,gtE h1,Aq,AM (n:=i) (by omega),drop_zero,take_length] at hr
  rw [drop_eq_getElem_cons h1,Cj]
  by_cases h2:l[i].2.2.2.2.1=k
  ·rw [Ag (by rw [h2]; exact beq_self_eq_true _),T2 (by omega)] at hr
   rw [if_pos h2]
   have ih:=Em l k hl j (i+1) (o++[(i:Int)]) (by omega) (by simp; omega)
   rw [append_assoc] at ih
   exact sts (hr.trans (by simp)) ih
  ·rw [Af (beq_false_of_ne h2)] at hr
   rw [if_neg h2]
   exact sts hr (Em l k hl j (i+1) o (by omega) (by omega))
theorem MJ:A6 prog (Ab []) (Ab [(3,CH)]) 0 (f32.body.getD .skip):=by
 refine Az (a:=body f32 0) (by kernel_rfl) fun d ex d' h=>?_
 unfold CH at h
 dsimp only at h
 split at h
 ·rename_i k n i l o
  obtain ⟨hc,hx⟩:=Ae h
  clear h
  obtain ⟨h0,h1,h2,rfl,h4⟩:=of_decide_eq_true hc
  obtain ⟨i,rfl⟩:=eq_ofNat_of_zero_le h0
  simp only [ntN] at h1 h4 hx
  obtain ⟨rfl,rfl⟩:=lfP hx
  exact Em l k h2 (l.length-i) i o (by omega) h4
 ·cases h
theorem KS (l:List Ty) (k:Int) (hc:0<=k/\k.toNat<l.length/\l.length<=4000000000):Gu prog (Ab []) (Ab [(3,CH)]) f32 [.agg [.sl TCd l],.j k] []=some (.ref 0 0 (Bb l k.toNat).length,[R0 (.int .i64) (Bb l k.toNat)]):=by
 have e:Gu prog (Ab []) (Ab [(3,CH)]) f32 [.agg [.sl TCd l],.j k] []=((ifT (decide (0<=i64.wrap (k+1)/\(i64.wrap (k+1)).toNat<=l.length/\l.length<=4000000000/\0=0/\0<=
 (i64.wrap (k+1)).toNat)) (some (V.ref 0 0 (Al (Cd.int .i64).den++Cj k (i64.wrap (k+1)).toNat (drop (i64.wrap (k+1)).toNat
 l)).length,[R0 (Cd.int .i64) (Al (Cd.int .i64).den++Cj k (i64.wrap (k+1)).toNat (drop (i64.wrap (k+1)).toNat
 l))]))):_):=by kernel_rfl
 rw [e]
 clear e
 obtain ⟨h0,h1,h2⟩:=hc
 obtain ⟨k,rfl⟩:=eq_ofNat_of_zero_le h0
 rw [ntN] at h1
 have hM:=mxI
 rw [AM (n:=k) (by omega),Aa (dcT ⟨by omega,by omega,h2,by simp,by simp⟩)]
 simp only [ntN,Di,nil_append]
 rfl
theorem Ou:Ad prog 32 (Ent.rd1 G6).F:=by
 refine fcN KnowsL.nil.knows (Λ:=(Ab [(3,CH)])) func32 fun vs bs r hq=>?_
 unfold Ent.F G6 at hq
 dsimp only at hq
 split at hq
 ·rename_i l k
  obtain ⟨hc,hx⟩:=Ae hq
  exact ⟨MJ,(KS l k (of_decide_eq_true hc)).trans hx⟩
 ·cases hq
abbrev OT (n:Nat):FuncId->Option Ent:=Ab [(32,.rd1 G6),(15,.rd1 (DH n))]
theorem Fs (n:Nat) (l:List Ty) (x0:Int) (x1:By) (x2:Int) (x3:Bool) (x4:Int) (p:Nat) (m i:Int) (k:Nat) (q:List Int) (ks:RL):AG prog (OT n) (Ab [(4,CG n)]) 0 (body f15 0) (CG n) ([.ptr 0 0,.ptr 1 0,.ptr 2 0,.ref 3 0 p,.j m,.j i],[some (.box [.sl TCd l]),some (.box [.j 0,.s [],.j 0,.b false,.j 0,.ref 4 0 0]),some (.box [.j x0,.s x1,.j x2,.b x3,.j x4,.ref 5 0 k]),R0 (.int .i64) q,R0 (.rose LCd) [],R0 (.rose LCd) ks]) =
 ((shr (Al LCd.rose.den) fun sh1=>ifB (decide (i<m)) (ifT (decide (0<=i)&&decide (i<(↑p:Int))) (Ap q[0+i.toNat]? fun z=>ifT (decide ((0:Int)<=
 z/\toNat z<l.length/\l.length<=4000000000/\l.length-toNat z<=n)) (ifT (decide ((k+1)*72<=140737488355328)&&decide
 (k+1<=maxI)) (some (Ex.normal,[V.ptr 0 0,V.ptr 1 0,V.ptr 2 0,V.ref 3 0 p,V.j m,V.j (i64.wrap (i+1))],[some (Blk.box [V.sl TCd l]),
 some (Blk.box [V.j 0,V.s (Al UInt8),V.j 0,V.b false,V.j 0,V.ref 4 0 0]),some (Blk.box [V.j x0,V.s x1,V.j x2,V.b x3,V.j x4,V.ref
 5 0 (k+1)]),R0 (Cd.int .i64) q,R0 LCd.rose sh1,R0 LCd.rose (take k (drop (0 :
 Nat) ks)++Rose.node ((t2L l (toNat z)).lab.1,(t2L l (toNat z)).lab.2.1,(t2L l (toNat z)).lab.2.2.1,(t2L l (toNat z)).lab.2.2.2.1,
 (t2L l (toNat z)).lab.2.2.2.2.1,()) (take (t2L l (toNat z)).kids.length (drop 0 (t2L l (toNat z)).kids))::sh1)]))))) (some
 (Ex.exit 0,[V.ptr 0 0,V.ptr 1 0],[some (Blk.box [V.j 0,V.s (Al UInt8),V.j 0,V.b false,V.j 0,V.ref 2 0 0]),some (Blk.box [V.j x0,V.s x1,
 V.j x2,V.b x3,V.j x4,V.ref 3 0 k]),R0 LCd.rose sh1,R0 LCd.rose ks]))):_):=by kernel_rfl
theorem JH (n:Nat) (l:List Ty) (k:Int):Gu prog (OT n) (Ab [(4,CG n)]) f15 [.agg [.sl TCd l],.j k] [] =
 ((ifT (decide (0<=k)&&decide (k<(↑l.length:Int))) (Ap l[k.toNat]? fun z=>ifT (decide (0<=k/\k.toNat<l.length/\l.length<=4000000000)) (ifT (decide
 ((0:Int)<=(0:Int)/\0<=(Bb l k.toNat).length/\(↑(Bb l k.toNat).length:Int)=(↑(Bb l k.toNat).length:Int)/\(Bb l k.toNat).length =
 (Bb l k.toNat).length/\0=0/\0<=0/\(Bb l k.toNat).length<=4000000000/\l.length<=4000000000)&&(Bb l
 k.toNat).all fun i=>decide ((0:Int)<=i/\i.toNat<l.length/\l.length-i.toNat<=n)) (some (V.agg [V.j z.1,V.s z.2.1,V.j z.2.2.1,V.b
 z.2.2.2.1,V.j z.2.2.2.2.2.1,V.ref 0 0 (Al LCd.rose.den++List.map (fun i=>t2L l (toNat i)) (drop 0 (Bb l
 k.toNat))).length],[R0 LCd.rose (Al LCd.rose.den++List.map (fun i=>t2L l (toNat i)) (drop 0 (Bb l k.toNat)))]))))):_):=by kernel_rfl
theorem Gj (n:Nat) (l:List Ty) (x0:Int) (x1:By) (x2:Int) (x3:Bool) (x4:Int) (q:List Int) (hl:l.length<=4000000000) (hq:q.length<=4000000000) (hs:(q.all fun i:Int=>decide (0<=i/\i.toNat<l.length/\l.length-i.toNat<=n))=true) : ∀ (j i:Nat) (ks:RL),i+j=q.length->ks.length<=i->
  Runs prog (OT n) (Ab [(4,CG n)]) 0 (body f15 0) (CG n) ([.ptr 0 0,.ptr 1 0,.ptr 2 0,.ref 3 0 q.length,.j (q.length:Int),.j (i:Int)],[some (.box [.sl TCd l]),some (.box [.j 0,.s [],.j 0,.b false,.j 0,.ref 4 0 0]),some (.box [.j x0,.s x1,.j x2,.b x3,.j x4,.ref 5 0 ks.length]),R0 (.int .i64) q,R0 (.rose LCd) [],R0 (.rose LCd) ks]) (.exit 0) ([.ptr 0 0,.ptr 1 0],[some (.box [.j 0,.s [],.j 0,.b false,.j 0,.ref 2 0 0]),some (.box [.j x0,.s x1,.j x2,.b x3,.j x4,.ref 3 0 (ks++(q.drop i).map fun i=>t2L l i.toNat).length]),R0 (.rose LCd) [],R0 (.rose LCd) (ks++(q.drop i).map fun i=>t2L l i.toNat)])
 | 0,i,ks,hi,hk=>by
  have hr:=Fs n l x0 x1 x2 x3 x4 q.length q.length i ks.length q ks
  dsimp only [shr] at hr
  rw [Af (dcF (by omega))] at hr
  rw [drop_eq_nil_of_le (by omega),List.map_nil,append_nil]
  exact stp hr
 | j+1,i,ks,hi,hk=>by
  have h1:i<q.length:=by omega
  have hM:=mxI
  have hr:=Fs n l x0 x1 x2 x3 x4 q.length q.length i ks.length q ks
  dsimp only [shr] at hr
  have hz:=of_decide_eq_true (all_eq_true.1 hs _ (getElem_mem h1))
  rw [Ag (dcT (by omega)),T2 (by omega)] at hr
  simp only [ntN,Nat.zero_add,gtE h1,Aq,AM (n:=i) (by omega),drop_zero,take_length] at hr
  rw [Aa (dcT ⟨hz.1,hz.2.1,hl,hz.2.2⟩),T2 (by omega)] at hr
  have ht:=N2 (t2L l q[i].toNat)
  rw [drop_zero,take_length] at ht
  rw [ht] at hr
  rw [drop_eq_getElem_cons h1,List.map_cons]
  have ih:=Gj n l x0 x1 x2 x3 x4 q hl hq hs j (i+1) (ks++[t2L l q[i].toNat]) (by omega) (by simp; omega)
  rw [append_assoc] at ih
  exact sts (hr.trans (by simp)) ih
theorem MH (n:Nat):A6 prog (OT n) (Ab [(4,CG n)]) 0 (f15.body.getD .skip):=by
 refine Az (a:=body f15 0) (by kernel_rfl) fun d ex d' h=>?_
 unfold CG at h
 dsimp only at h
 split at h
 ·rename_i p m i l x0 x1 x2 x3 x4 k q ks
  obtain ⟨hc,hx⟩:=Ae h
  clear h
  rw [anE] at hc
  obtain ⟨hc,hs⟩:=hc
  obtain ⟨h0,h1,rfl,rfl,rfl,h5,h6,h7⟩:=of_decide_eq_true hc
  obtain ⟨i,rfl⟩:=eq_ofNat_of_zero_le h0
  simp only [ntN] at h1 h5 hx
  obtain ⟨rfl,rfl⟩:=lfP hx
  exact Gj n l x0 x1 x2 x3 x4 q h7 h6 hs (q.length-i) i ks (by omega) h5
 ·cases h
theorem KO (n:Nat) (l:List Ty) (k:Int) (hc:0<=k/\k.toNat<l.length/\l.length<=4000000000/\l.length-k.toNat<=n+1):Gu prog (OT n) (Ab [(4,CG n)]) f15 [.agg [.sl TCd l],.j k] []=some (.agg [.j (t2L l k.toNat).lab.1,.s (t2L l k.toNat).lab.2.1,.j (t2L l k.toNat).lab.2.2.1,.b (t2L l k.toNat).lab.2.2.2.1,.j (t2L l k.toNat).lab.2.2.2.2.1,.ref 0 0 (t2L l k.toNat).kids.length],[R0 (.rose LCd) (t2L l k.toNat).kids]):=by
 rw [JH]
 obtain ⟨h0,h1,h2,h3⟩:=hc
 obtain ⟨k,rfl⟩:=eq_ofNat_of_zero_le h0
 rw [ntN] at h1 h3
 have hkl:=HR (k:Int) (l.drop (k+1)) (k+1)
 rw [length_drop] at hkl
 have hkl2:(Bb l k).length<=l.length-(k+1):=hkl
 rw [T2 (by omega)]
 simp only [ntN,gtE h1,Aq]
 rw [Aa (dcT ⟨by omega,h1,h2⟩)]
 have hall:((Bb l k).all fun i:Int=>decide (0<=i/\i.toNat<l.length/\l.length-i.toNat<=n))=true:=all_eq_true.2 fun x hx=>by
  obtain ⟨j,rfl,h5,h6⟩:=EU hx
  exact dcT ⟨by omega,by simpa using h6,by simp; omega⟩
 rw [Aa (by rw [anE]; exact ⟨dcT ⟨by omega,by simp,by simp,by simp,by simp,by simp,by omega,h2⟩,hall⟩)]
 have hlab:As l k=(l[k].1,l[k].2.1,l[k].2.2.1,l[k].2.2.2.1,l[k].2.2.2.2.2.1,()):=by unfold As; rw [gtE h1]
 rw [Qb h1,hlab]
 simp [Rose.lab,Rose.kids]
theorem KP : ∀ n,(∀ m,m<n->Ad prog 15 (Ent.rd1 (DH m)).F)->Ad prog 15 (Ent.rd1 (DH n)).F
 | 0,_=>AN fun vs bs=>by
  unfold Ent.F DH
  dsimp only
  split
  ·rename_i l a
   have:decide (0<=a/\a.toNat<l.length/\l.length<=4000000000/\l.length-a.toNat<=0)=false:=dcF (by omega)
   rw [this]; rfl
  ·rfl
 | n+1,ih=>by
  refine fcN (kc func32 Ou (kc func15 (ih n (lt_succ_self n)) KnowsL.nil)).knows (Λ:=(Ab [(4,CG n)])) func15 fun vs bs r hq=>?_
  unfold Ent.F DH at hq
  dsimp only at hq
  split at hq
  ·rename_i l a
   obtain ⟨hc,hx⟩:=Ae hq
   exact ⟨MH n,(KO n l a (of_decide_eq_true hc)).trans hx⟩
  ·cases hq
theorem Ot:Ad prog 15 (Ent.rd1 G5).F:=by
 refine BS (F:=fun n=>(Ent.rd1 (DH n)).F) KP fun vs bs r h=>?_
 unfold Ent.F G5 at h
 dsimp only at h
 split at h
 ·rename_i l a
  obtain ⟨hc,hx⟩:=Ae h
  obtain ⟨h0,h1,h2⟩:=of_decide_eq_true hc
  refine ⟨l.length,?_⟩
  unfold Ent.F DH
  dsimp only
  have:decide (0<=a/\a.toNat<l.length/\l.length<=4000000000/\l.length-a.toNat<=l.length)=true:=dcT ⟨h0,h1,h2,by omega⟩
  rw [this]
  exact hx
 ·cases h
def FC (n:Nat):Gm
 | [.agg (Lt z0 _ _ _ _ zs)],[]=>.need (decide (Aj zs+1<=n/\Aj zs+1<=1000000)) (.leaf (.j ((BK zs+(bif AB z0 then 1 else 0):Nat):Int),[]))
 | _,_=>.no
def K2:Gm
 | [.agg (Lt z0 _ _ _ _ zs)],[]=>.need (decide (Aj zs+1<=1000000)) (.leaf (.j ((BK zs+(bif AB z0 then 1 else 0):Nat):Int),[]))
 | _,_=>.no
def DB (n:Nat):LoopEnt:=⟨27,[1,3,8,9,10],[1,3],[],fun
 | ([.ptr 0 0,.j m,.sl (.rose LCd) ks,.j k,.j i],[some (.box (Lt y0 y1 y2 y3 y4 ys))])=>.need (decide (0<=m/\m<=1000001/\0<=i/\i.toNat<=ks.length/\k=ks.length/\Aj ks<=n/\Aj ks<=1000000)) (.leaf (.exit 0,([.ptr 0 0,.j ((max m.toNat (BK (ks.drop i.toNat)):Nat):Int)],[some (.box (Lt y0 y1 y2 y3 y4 ys))])))
 | _=>.no⟩
def C9 (l:List Ty) (u:Int):Nat->Int->Bool
 | 0,_=>false
 | f+1,x=>if x<0 then false else if x=u then true else match AH l x.toNat with | some v=>C9 l u f v | none=>false
def Cf (l:List Ty) (i:Nat):Bool:=(range i).all fun j=>match AH l j with | some v=>decide (v<(j:Int)) | none=>false
def CP (l:List Ty) (i:Nat):Bool:=match AH l i with | some u=>C9 l u (i+1) ((i:Int)-1) | none=>false
def FS:Gm
 | [.sl TCd l,.j i],[]=>.need (decide (0<=i/\i.toNat<l.length/\l.length<=4000000000)&&Cf l i.toNat) (.leaf (.b (CP l i.toNat),[]))
 | _,_=>.no
def BR:LoopEnt:=⟨22,[0,1,5],[],[4],fun
 | ([.sl TCd l,.j i,.j x],[])=>.need (decide (0<=i/\i.toNat<l.length/\l.length<=4000000000/\x<i)&&Cf l i.toNat) (.opt (.int .i64) (AH l i.toNat) fun u=>.br (C9 l u (x+1).toNat x) (.leaf (.ret,([.b true],[]))) (.leaf (.exit 0,([],[]))))
 | _=>.no⟩
theorem HE (z:Rose Lab):BK z.kids+(bif AB z.lab.1 then 1 else 0)=Bp z:=by cases z; rw [Bp]; rfl
abbrev OS (n:Nat):FuncId->Option Ent:=Ab [(33,.rd1 (FC n)),(47,.rd1 Fv)]
theorem Gg (n:Nat) (y0:Int) (y1:By) (y2:Int) (y3:Bool) (y4:Int) (ys:RL) (m:Int) (ks:RL) (k i:Int):AG prog (OS n) (Ab [(3,DB n)]) 0 (body f33 0) (DB n) ([.ptr 0 0,.j m,.sl (.rose LCd) ks,.j k,.j i],[some (.box (Lt y0 y1 y2 y3 y4 ys))]) =
 ((ifB (decide (i<k)) (ifT (decide (0<=i)&&decide (i<(↑ks.length:Int))) (Ap ks[i.toNat]? fun z=>ifT (decide (Aj (Rose.kids z)+1<=n/\Aj
 (Rose.kids z)+1<=1000000)) (ifB (decide ((↑(BK (Rose.kids z)+bif AB (Rose.lab z).1 then 1 else 0):Int)>m)) (some
 (Ex.normal,[V.ptr 0 0,V.j (↑(BK (Rose.kids z)+bif AB (Rose.lab z).1 then 1 else 0):Int),V.sl LCd.rose ks,V.j k,V.i .i64
 (i64.wrap (i+1))],[some (Blk.box (Lt y0 y1 y2 y3 y4 ys))])) (some (Ex.normal,[V.ptr 0 0,V.j m,V.sl
 LCd.rose ks,V.j k,V.j (i64.wrap (i+1))],[some (Blk.box (Lt y0 y1 y2 y3 y4 ys))]))))) (some
 (Ex.exit 0,[V.ptr 0 0,V.j m],[some (Blk.box (Lt y0 y1 y2 y3 y4 ys))]))):_):=by kernel_rfl
theorem K1 (n:Nat) (z0:Int) (z1:By) (z2:Int) (z3:Bool) (z4:Int) (zs:RL):Bv prog (OS n) (Ab [(3,DB n)]) f33 [.agg (Lt z0 z1 z2 z3 z4 zs)] [] =
 ((ifT (decide ((0:Int)<=(0:Int)/\(0:Int)<=(1000001:Int)/\(0:Int)<=(0:Int)/\0<=zs.length/\(↑zs.length:Int)=(↑zs.length:Int)/\Aj zs<=n/\
 Aj zs<=1000000)) (ifB (AB z0) (some (V.j (i64.wrap ((↑(max 0 (BK (drop 0 zs))):Int)+(1:Int))),[])) (some (V.i
 .i64 (↑(max 0 (BK (drop 0 zs))):Int),[])))):_):=by kernel_rfl
theorem GD (n:Nat) (y0:Int) (y1:By) (y2:Int) (y3:Bool) (y4:Int) (ys:RL) (ks:RL) (h1:Aj ks<=n) (h2:Aj ks<=1000000) : ∀ (j i m:Nat),i+j=ks.length->m<=1000001->
  Runs prog (OS n) (Ab [(3,DB n)]) 0 (body f33 0) (DB n) ([.ptr 0 0,.j (m:Int),.sl (.rose LCd) ks,.j (ks.length:Int),.j (i:Int)],[some (.box (Lt y0 y1 y2 y3 y4 ys))]) (.exit 0) ([.ptr 0 0,.j ((max m (BK (ks.drop i)):Nat):Int)],[some (.box (Lt y0 y1 y2 y3 y4 ys))])
 | 0,i,m,hi,hm=>by
  have hr:=Gg n y0 y1 y2 y3 y4 ys m ks ks.length i
  rw [Af (dcF (by omega))] at hr
  have e1:ks.drop i=[]:=drop_eq_nil_of_le (by omega)
  rw [e1,BK]
  exact .stop _ _ _ (hr.trans (by simp)) (by simp)
 | j+1,i,m,hi,hm=>by
  have hl:i<ks.length:=by omega
  have hM:=mxI
  have hr:=Gg n y0 y1 y2 y3 y4 ys m ks ks.length i
  have hmem:=Cs (getElem_mem hl)
  have hlen:=CM ks
  have hdm:=F6 ks[i]
  have hck:=D4 ks[i]
  rw [Ag (dcT (by omega)),T2 (by omega)] at hr
  simp only [ntN,gtE hl,Aq,AM (n:=i) (by omega)] at hr
  rw [Aa (dcT ⟨by omega,by omega⟩)] at hr
  simp only [HE] at hr
  rw [drop_eq_getElem_cons hl,BK]
  have ih:=GD n y0 y1 y2 y3 y4 ys ks h1 h2 j (i+1) (max m (Bp ks[i])) (by omega) (by omega)
  rw [<-Nat.max_assoc]
  by_cases hx:(Bp ks[i]:Int)>(m:Int)
  ·rw [Ag (dcT hx)] at hr
   have hmx:max m (Bp ks[i])=Bp ks[i]:=by omega
   exact sts (hr.trans (by rw [hmx])) ih
  ·rw [Af (dcF hx)] at hr
   have hmx:max m (Bp ks[i])=m:=by omega
   exact sts (hr.trans (by rw [hmx])) ih
theorem Nz (n:Nat):A6 prog (OS n) (Ab [(3,DB n)]) 0 (f33.body.getD .skip):=by
 refine Az (a:=body f33 0) (by kernel_rfl) fun d ex d' h=>?_
 unfold DB at h
 dsimp only at h
 split at h
 ·rename_i m ks k i y0 y1 y2 y3 y4 ys
  obtain ⟨hc,hx⟩:=Ae h
  clear h
  obtain ⟨h0,h1,h2,h3,rfl,h5,h6⟩:=of_decide_eq_true hc
  obtain ⟨m,rfl⟩:=eq_ofNat_of_zero_le h0
  obtain ⟨i,rfl⟩:=eq_ofNat_of_zero_le h2
  simp only [ntN] at h3 hx
  obtain ⟨rfl,rfl⟩:=lfP hx
  exact GD n y0 y1 y2 y3 y4 ys ks h5 h6 (ks.length-i) i m (by omega) (by omega)
 ·cases h
theorem Mp (n:Nat) (z0:Int) (z1:By) (z2:Int) (z3:Bool) (z4:Int) (zs:RL) (hc:Aj zs+1<=n+1/\Aj zs+1<=1000000):Bv prog (OS n) (Ab [(3,DB n)]) f33 [.agg (Lt z0 z1 z2 z3 z4 zs)] []=some (.j ((BK zs+(bif AB z0 then 1 else 0):Nat):Int),[]):=by
 rw [K1]
 obtain ⟨h1,h2⟩:=hc
 have hdp:=E0 zs
 rw [Aa (dcT (by refine ⟨by omega,by omega,by omega,by simp,by trivial,by omega,by omega⟩))]
 simp only [drop_zero,Nat.zero_max]
 cases hx:AB z0 with
 | true=>rw [A4,Ax (by omega) (by omega)]; simp
 | false=>rw [A1]; simp
theorem Mq : ∀ n,(∀ m,m<n->Ad prog 33 (Ent.rd1 (FC m)).F)->Ad prog 33 (Ent.rd1 (FC n)).F
 | 0,_=>AN fun vs bs=>by
  unfold Ent.F FC
  dsimp only
  split
  ·rename_i z0 z1 z2 z3 z4 zs
   rw [dcF (show ¬(Aj zs+1<=0/\Aj zs+1<=1000000) by omega)]; rfl
  ·rfl
 | n+1,ih=>by
  refine fcK (kc func33 (ih n (lt_succ_self n)) (kc func47 LO KnowsL.nil)).knows (Λ:=(Ab [(3,DB n)])) func33 fun vs bs r hq=>?_
  unfold Ent.F FC at hq
  dsimp only at hq
  split at hq
  ·rename_i z0 z1 z2 z3 z4 zs
   obtain ⟨hc,hx⟩:=Ae hq
   exact ⟨Nz n,(Mp n z0 z1 z2 z3 z4 zs (of_decide_eq_true hc)).trans hx⟩
  ·cases hq
theorem Ri:Ad prog 33 (Ent.rd1 K2).F:=by
 refine BS (F:=fun n=>(Ent.rd1 (FC n)).F) Mq fun vs bs r h=>?_
 unfold Ent.F K2 at h
 dsimp only at h
 split at h
 ·rename_i z0 z1 z2 z3 z4 zs
  obtain ⟨hc,hx⟩:=Ae h
  have hc:=of_decide_eq_true hc
  refine ⟨1000000,?_⟩
  show (Br.need (decide (Aj zs+1<=1000000/\Aj zs+1<=1000000)) (.leaf (.j ((BK zs+(bif AB z0 then 1 else 0):Nat):Int),[]))).run=some r
  rw [dcT (show Aj zs+1<=1000000/\Aj zs+1<=1000000 from ⟨hc,hc⟩)]
  exact hx
 ·cases h
theorem GW (l:List Ty) (i x:Int):AG prog (Ab []) (Ab [(2,BR)]) 0 (body f48 0) BR ([.sl TCd l,.j i,.j x],[]) =
 ((ifB (decide (x>=0)) (ifT (decide (0<=i)&&decide (i<(↑l.length:Int))) (Ap l[i.toNat]? fun z=>ifB (x==z.2.2.2.2.1) (some (Ex.ret,[V.b true],[]))
 (ifT (decide (0<=x)&&decide (x<(↑l.length:Int))) (Ap l[x.toNat]? fun z=>some (Ex.normal,[V.sl TCd l,V.j i,V.j z.2.2.2.2.1],[])))))
 (some (Ex.exit 0,[],[]))):_):=by kernel_rfl
theorem Nk {l:List Ty} {i j:Nat} (h:Cf l i=true) (hj:j<i) : ∃ v,AH l j=some v/\v<(j:Int):=by
 have:=all_eq_true.1 h j (mem_range.2 hj)
 cases hu:AH l j with
 | none=>rw [hu] at this; cases this
 | some v=>rw [hu] at this; exact ⟨v,rfl,of_decide_eq_true this⟩
theorem Ga {l:List Ty} {i:Nat} (h:Cf l i=true) (u:Int) : ∀ (f f':Nat) (x:Int),x<(i:Int)->(x+1).toNat<=f->(x+1).toNat<=f'->C9 l u f x=C9 l u f' x
 | 0,0,x,_,_,_=>rfl
 | 0,f'+1,x,hx,h1,h2=>by rw [C9,C9,if_pos (by omega)]
 | f+1,0,x,hx,h1,h2=>by rw [C9,C9,if_pos (by omega)]
 | f+1,f'+1,x,hx,h1,h2=>by
  rw [C9,C9]
  by_cases a:x<0
  ·rw [if_pos a,if_pos a]
  ·rw [if_neg a,if_neg a]
   by_cases b:x=u
   ·rw [if_pos b,if_pos b]
   ·rw [if_neg b,if_neg b]
    obtain ⟨v,hv,hv2⟩:=Nk h (j:=x.toNat) (by omega)
    rw [hv]
    exact Ga h u f f' v (by omega) (by omega) (by omega)
theorem Hz (l:List Ty) (i:Nat) (u:Int) (hi:i<l.length) (_:l.length<=4000000000) (hu:AH l i=some u) (hs:Cf l i=true) : ∀ (j:Nat) (x:Int),(x+1).toNat=j->x<(i:Int)->∀ ex d,(Br.br (C9 l u (x+1).toNat x) (.leaf (.ret,([.b true],[]))) (.leaf (.exit 0,([],[]))):Br (Ex×Dt)).run=some (ex,d)->
  Runs prog (Ab []) (Ab [(2,BR)]) 0 (body f48 0) BR ([.sl TCd l,.j (i:Int),.j x],[]) ex d:=by
 intro j
 induction j using Nat.strongRecOn with
 | ind j ih=>
  intro x hj hx ex d h
  have hr:=GW l i x
  have h0:l[i].2.2.2.2.1=u:=by unfold AH at hu; rw [gtE hi] at hu; exact Option.some.inj hu
  by_cases a:x<0
  ·rw [Af (dcF (by omega))] at hr
   have e0:(x+1).toNat=0:=by omega
   rw [e0,C9] at h
   obtain ⟨rfl,rfl⟩:=lfP h
   exact stp hr
  ·rw [Ag (dcT (by omega)),T2 (by omega)] at hr
   simp only [ntN,gtE hi,Aq,h0] at hr
   obtain ⟨x,rfl⟩:=eq_ofNat_of_zero_le (by omega:0<=x)
   have e0:((x:Int)+1).toNat=x+1:=by omega
   rw [e0,C9,if_neg (by omega)] at h
   by_cases b:(x:Int)=u
   ·rw [if_pos b] at h
    rw [Ag (by rw [b]; exact beq_self_eq_true _)] at hr
    obtain ⟨rfl,rfl⟩:=lfP h
    exact stp hr
   ·rw [if_neg b] at h
    have hxl:x<l.length:=by omega
    rw [Af (beq_false_of_ne b),T2 (by omega)] at hr
    simp only [ntN,gtE hxl,Aq] at hr
    obtain ⟨v,hv,hv2⟩:=Nk hs (j:=x) (by omega)
    have hv3:l[x].2.2.2.2.1=v:=by unfold AH at hv; rw [gtE hxl] at hv; exact Option.some.inj hv
    rw [ntN,hv] at h
    dsimp only at h
    rw [Ga hs u x (v+1).toNat v (by omega) (by omega) (Nat.le_refl _)] at h
    rw [hv3] at hr
    exact sts hr (ih (v+1).toNat (by omega) v rfl (by omega) ex d h)
theorem JK:A6 prog (Ab []) (Ab [(2,BR)]) 0 (f48.body.getD .skip):=by
 refine Az (a:=body f48 0) (by kernel_rfl) fun d ex d' h=>?_
 unfold BR at h
 dsimp only at h
 split at h
 ·rename_i l i x
  obtain ⟨hc,hx⟩:=Ae h
  clear h
  rw [anE] at hc
  obtain ⟨hc,hs⟩:=hc
  obtain ⟨h0,h1,h2,h3⟩:=of_decide_eq_true hc
  obtain ⟨i,rfl⟩:=eq_ofNat_of_zero_le h0
  simp only [ntN] at h1 hs hx
  cases hu:AH l i with
  | some u=>rw [hu] at hx; exact Hz l i u h1 h2 hu hs _ x rfl h3 ex d' hx
  | none=>rw [hu] at hx; cases hx
 ·cases h
theorem I8 (l:List Ty) (i:Int) (hc:0<=i/\i.toNat<l.length/\l.length<=4000000000) (hs:Cf l i.toNat=true):Bv prog (Ab []) (Ab [(2,BR)]) f48 [.sl TCd l,.j i] []=some (.b (CP l i.toNat),[]):=by
 have e:Bv prog (Ab []) (Ab [(2,BR)]) f48 [.sl TCd l,.j i] []=((ifT (decide (0<=i/\i.toNat<l.length/\l.length<=4000000000/\i64.wrap (i-1)<i)&&Cf l i.toNat) (Ap (AH l i.toNat) fun z=>ifB (C9 l z
 (i64.wrap (i-1)+(1:Int)).toNat (i64.wrap (i-1))) (some (V.b true,[])) nF)):_):=by kernel_rfl
 obtain ⟨h0,h1,h2⟩:=hc
 obtain ⟨i,rfl⟩:=eq_ofNat_of_zero_le h0
 simp only [ntN] at h1 hs
 have hw:i64.wrap ((i:Int)-1)=(i:Int)-1:=Ax (by omega) (by omega)
 obtain ⟨u,hu⟩ : ∃ u,AH l i=some u:=⟨_,by unfold AH; rw [gtE h1]; rfl⟩
 rw [e]
 clear e
 rw [hw]
 simp only [ntN]
 rw [Aa (by rw [anE]; exact ⟨dcT ⟨by omega,h1,h2,by omega⟩,hs⟩)]
 unfold CP
 rw [hu,Aq]
 have e2:C9 l u (i+1) ((i:Int)-1)=C9 l u ((i:Int)-1+1).toNat ((i:Int)-1):=Ga hs u _ _ _ (by omega) (by omega) (Nat.le_refl _)
 dsimp only
 rw [e2]
 cases C9 l u ((i:Int)-1+1).toNat ((i:Int)-1)<;>rfl
theorem Ov:Ad prog 48 (Ent.rd1 FS).F:=by
 refine fcK KnowsL.nil.knows (Λ:=(Ab [(2,BR)])) func48 fun vs bs r hq=>?_
 unfold Ent.F FS at hq
 dsimp only at hq
 split at hq
 ·rename_i l i
  obtain ⟨hc,hx⟩:=Ae hq
  rw [anE] at hc
  exact ⟨JK,(I8 l i (of_decide_eq_true hc.1) hc.2).trans hx⟩
 ·cases hq
def Mo (u no:Int) (nm:By) (l:List Ty):Bool:=l.all fun o=>!(o.2.2.2.2.1==u&&(decide (o.2.2.1>=no)||o.2.1==nm))
def CY (l:List Ty) (i:Nat):Bool:=match AH l i with
 | none=>false
 | some u=>decide (0<=u/\u<(i:Int))&&AB (As l u.toNat).1&&CP l i&&(if (As l u.toNat).1=4 then (As l i).2.1==[]&&(As l i).2.2.1==0&&!(As l i).2.2.2.1
  else DW (As l i).2.1&&(decide (1<=(As l i).2.2.1)&&decide ((As l i).2.2.1<=30))&&Mo u (As l i).2.2.1 (As l i).2.1 ((l.take i).drop (u.toNat+1)))
def kmB (x:Lab):Bool:=decide (1<=x.1/\x.1<=5)&&(if x.1=3 then decide (0<=x.2.2.2.2.1/\x.2.2.2.2.1<=20) else x.2.2.2.2.1==0)
def okT (l:List Ty) (i:Nat):Bool:=kmB (As l i)&&(if i=0 then (As l 0).1==5&&decide (AH l 0=some (-1))&&(As l 0).2.1==[]&&(As l 0).2.2.1==0&&!(As l 0).2.2.2.1 else CY l i)
def Dq (l:List Ty) (i:Nat):Bool:=!((As l i).1==4&&(Bb l i).length != 1)
def Ha (l:List Ty):Bool:=decide (1<=l.length/\l.length<=30)&&(range l.length).all (okT l)&&(range l.length).all (Dq l)&&decide (Bp (t2L l 0)<=5)
inductive Out (l:List Ty):Nat->Nat->Prop
 | refl (x:Nat):Out l x x
 | step (x v y:Nat) (h:AH l x=some (v:Int)) (h2:Out l v y):Out l x y
structure Ord (l:List Ty):Prop where
 zero:AH l 0=some (-1)
 up : ∀ i,0<i->i<l.length->∃ u:Nat,AH l i=some (u:Int)/\u<i/\AB (As l u).1=true/\Out l (i-1) u
def KK (l:List Ty) (a s t:Nat):List Nat:=(List.range' s (t-s)).filter fun j=>decide (AH l j=some (a:Int))
theorem Out.trans {l:List Ty} {x y z:Nat} (h:Out l x y) (h2:Out l y z):Out l x z:=by
 induction h with
 | refl=>exact h2
 | step x v y h _ ih=>exact .step x v z h (ih h2)
theorem Kn (l:List Ty) (u:Int) : ∀ (f:Nat) (x:Nat),C9 l u f (x:Int)=true->∃ y:Nat,u=(y:Int)/\Out l x y
 | 0,x,h=>by rw [C9] at h; cases h
 | f+1,x,h=>by
  rw [C9,if_neg (by omega)] at h
  split at h
  ·rename_i e; exact ⟨x,e.symm,.refl x⟩
  ·rw [ntN] at h
   cases hu:AH l x with
   | none=>rw [hu] at h; cases h
   | some v=>
    rw [hu] at h
    dsimp only at h
    by_cases hv:v<0
    ·cases f with
     | zero=>rw [C9] at h; cases h
     | succ f=>rw [C9,if_pos hv] at h; cases h
    ·obtain ⟨v,rfl⟩:=eq_ofNat_of_zero_le (by omega:0<=v)
     obtain ⟨y,h1,h2⟩:=Kn l u f v h
     exact ⟨y,h1,.step x v y hu h2⟩
theorem NT {l:List Ty} {i x y:Nat} (hs : ∀ j,j<i->∀ v:Nat,AH l j=some (v:Int)->v<j) (h:Out l x y):x<i->y<=x:=by
 induction h with
 | refl=>intro _; exact Nat.le_refl _
 | step x v y h _ ih=>intro hx; have:=hs x hx v h; have:=ih (by omega); omega
theorem NU {l:List Ty} {i x y:Nat} (hs : ∀ j,j<i->∀ v:Nat,AH l j=some (v:Int)->v<j) (h:Out l x y):x<i->∀ f,x+1<=f->C9 l (y:Int) f (x:Int)=true:=by
 induction h with
 | refl x=>
  intro hx f hf
  obtain ⟨f,rfl⟩ : ∃ g,f=g+1:=⟨f-1,by omega⟩
  rw [C9,if_neg (by omega),if_pos rfl]
 | step x v y h _ ih=>
  intro hx f hf
  obtain ⟨f,rfl⟩ : ∃ g,f=g+1:=⟨f-1,by omega⟩
  rw [C9,if_neg (by omega)]
  split
  ·rfl
  ·rw [ntN,h]
   have:=hs x hx v h
   exact ih (by omega) f (by omega)
theorem Ord.lt {l:List Ty} (H:Ord l) : ∀ j,j<l.length->∀ v:Nat,AH l j=some (v:Int)->v<j:=fun j hj v hv=>by
 rcases Nat.eq_zero_or_pos j with rfl | hp
 ·rw [H.zero] at hv; injection hv with hv; omega
 ·obtain ⟨u,h1,h2,_⟩:=H.up j hp hj
  rw [h1] at hv; injection hv with hv; omega
theorem Q4 {l:List Ty} {c e x y:Nat} (hs : ∀ j,j<e->∀ v:Nat,AH l j=some (v:Int)->v<j) (hb : ∀ j,c<j->j<e->∃ u:Nat,AH l j=some (u:Int)/\c<=u) (h:Out l x y):c<=x->x<e->c<=y\/∃ v:Nat,AH l c=some (v:Int)/\Out l v y:=by
 induction h with
 | refl x=>intro h1 _; exact .inl h1
 | step x v y h h2 ih=>
  intro h1 h3
  by_cases e1:x=c
  ·subst e1; exact .inr ⟨v,h,h2⟩
  ·obtain ⟨u,g1,g2⟩:=hb x (by omega) h3
   rw [h] at g1; injection g1 with g1
   have:=hs x h3 v h
   exact ih (by omega) (by omega)
theorem Q5 {l:List Ty} {a e i x y:Nat} (hs : ∀ j,j<i->∀ v:Nat,AH l j=some (v:Int)->v<j) (ha:a<=i) (hn : ∀ j,e<=j->j<i->∀ u:Nat,AH l j=some (u:Int)->u<a\/e<=u) (h:Out l x y):e<=x->x<i->y<a\/e<=y:=by
 induction h with
 | refl x=>intro h1 _; exact .inr h1
 | step x v y h h2 ih=>
  intro h1 h3
  have:=hs x h3 v h
  rcases hn x h1 h3 v h with h4 | h4
  ·have:=NT hs h2 (by omega)
   exact .inl (by omega)
  ·exact ih h4 (by omega)
theorem IV {l:List Ty} {a s t u:Nat} (h1:s<=t) (h2:t<=u):KK l a s t++KK l a t u=KK l a s u:=by
 unfold KK
 rw [<-List.filter_append]
 congr 1
 have e:t=s+(t-s):=by omega
 conv=>lhs; rhs; rw [e]
 rw [show s+(t-s)=s+1*(t-s) by omega,List.range'_append]
 congr 1; omega
theorem Fe {l:List Ty} {a s t:Nat} (h : ∀ j,s<=j->j<t->AH l j≠some (a:Int)):KK l a s t=[]:=by
 unfold KK
 rw [List.filter_eq_nil_iff]
 intro j hj
 have:=List.mem_range'_1.1 hj
 simpa using h j (by omega) (by omega)
theorem OV {l:List Ty} {a e t:Nat} (h0:e<t) (h:AH l e=some (a:Int)) (h2 : ∀ j,e<j->j<t->AH l j≠some (a:Int)):KK l a e t=[e]:=by
 have e1:KK l a e (e+1)=[e]:=by
  unfold KK
  rw [show e+1-e=1 by omega,List.range'_one]
  simp [h]
 rw [<-IV (Nat.le_succ e) h0,e1,Fe (fun j hj hj2=>h2 j (by omega) hj2)]
 rfl
theorem LR (l:List Ty) (a:Nat) : ∀ (n i:Nat),l.length-i=n->Cj (a:Int) i (l.drop i)=(KK l a i l.length).map ofNat
 | 0,i,h=>by
  rw [drop_eq_nil_of_le (by omega),Cj,Fe (fun j h1 h2=>by omega)]; rfl
 | n+1,i,h=>by
  have hl:i<l.length:=by omega
  rw [drop_eq_getElem_cons hl,Cj,LR l a n (i+1) (by omega),<-IV (Nat.le_succ i) hl (l:=l) (a:=a)]
  have hu:AH l i=some (l[i].2.2.2.2.1):=by unfold AH; rw [gtE hl]; rfl
  by_cases hk:l[i].2.2.2.2.1=(a:Int)
  ·rw [if_pos hk,OV (lt_succ_self i) (by rw [hu,hk]) (fun j h1 h2=>by omega)]; rfl
  ·rw [if_neg hk,Fe (s:=i) (fun j h1 h2=>by
    have:j=i:=by omega
    subst this; rw [hu]; exact fun h=>hk (Option.some.inj h))]; rfl
theorem HS (l:List Ty) (a:Nat):Bb l a=(KK l a (a+1) l.length).map ofNat:=LR l a _ (a+1) rfl
theorem L2 {l:List Ty} {a:Nat} (h:a<l.length):t2L l a = .node (As l a) ((KK l a (a+1) l.length).map (t2L l)):=by
 rw [Qb h,HS,List.map_map]
 rfl
structure Blk2 (l:List Ty) (a:Nat):Prop where
 inn : ∀ j,a<j->j<(kf l a).2->∃ u:Nat,AH l j=some (u:Int)/\a<=u
 out:(kf l a).2<l.length->∀ u:Nat,AH l (kf l a).2=some (u:Int)->u<a
 tree:(kf l a).1=t2L l a
theorem JC {l:List Ty} (H:Ord l) {a:Nat} (ha:a<l.length) (IH : ∀ b,a<b->b<l.length->Blk2 l b) : ∀ (n e:Nat) (ks:RL),l.length-e<=n->a<e->e<=l.length->
  (∀ j,a<j->j<e->∃ u:Nat,AH l j=some (u:Int)/\a<=u)->(e<l.length->∀ u:Nat,AH l e=some (u:Int)->u<=a)->ks=(KK l a (a+1) e).map (t2L l)->
  (∀ j,a<j->j<(Bf (kf l) l a n e ks).2->∃ u:Nat,AH l j=some (u:Int)/\a<=u)/\((Bf (kf l) l a n e ks).2<l.length->∀ u:Nat,AH l (Bf (kf l) l a n e ks).2=some (u:Int)->u<a)/\(Bf (kf l) l a n e ks).1=(KK l a (a+1) (Bf (kf l) l a n e ks).2).map (t2L l)/\a<(Bf (kf l) l a n e ks).2
 | 0,e,ks,h1,h2,h3,h4,h5,h6=>⟨h4,fun h=>by simp only [Bf] at h; omega,h6,h2⟩
 | n+1,e,ks,h1,h2,h3,h4,h5,h6=>by
  unfold Bf
  split
  ·rename_i hu
   have hl:=Ff hu
   obtain ⟨b1,b2⟩:=EV l e hl
   have B:=IH e h2 hl
   have inn' : ∀ j,a<j->j<(kf l e).2->∃ u:Nat,AH l j=some (u:Int)/\a<=u:=fun j g1 g2=>by
    rcases Nat.lt_trichotomy j e with g3 | g3 | g3
    ·exact h4 j g1 g3
    ·subst g3; exact ⟨a,hu,Nat.le_refl _⟩
    ·obtain ⟨u,k1,k2⟩:=B.inn j g3 g2; exact ⟨u,k1,by omega⟩
   refine JC H ha IH n (kf l e).2 _ (by omega) (by omega) b2 inn' (fun g1 u g2=>?_) ?_
   ·have g3:=B.out g1 u g2
    obtain ⟨u',k1,k2,k3,k4⟩:=H.up (kf l e).2 (by omega) g1
    rw [g2] at k1; injection k1 with k1
    have:u=u':=by omega
    subst this
    rcases Q4 (fun j hj=>H.lt j (by omega)) B.inn k4 (by omega) (by omega) with k5 | ⟨v,k5,k6⟩
    ·omega
    ·rw [hu] at k5; injection k5 with k5
     have:a=v:=by omega
     subst this
     exact NT H.lt k6 ha
   ·rw [h6,B.tree,<-IV (l:=l) (a:=a) (show a+1<=e by omega) (Nat.le_of_lt b1),List.map_append,OV b1 hu (fun j g1 g2 g3=>by
     obtain ⟨u,k1,k2⟩:=B.inn j g1 g2
     rw [g3] at k1; injection k1 with k1; omega)]
    rfl
  ·rename_i hu
   refine ⟨h4,fun g1 u g2=>?_,h6,h2⟩
   have:=h5 g1 u g2
   have:u≠a:=fun e=>by subst e; exact hu g2
   omega
theorem Mg {l:List Ty} (H:Ord l) : ∀ (n a:Nat),l.length-a<=n->a<l.length->Blk2 l a
 | 0,a,h1,h2=>by omega
 | n+1,a,h1,h2=>by
  have IH : ∀ b,a<b->b<l.length->Blk2 l b:=fun b g1 g2=>Mg H n b (by omega) g2
  have hq:a+1<l.length->∀ u:Nat,AH l (a+1)=some (u:Int)->u<=a:=fun g1 u g2=>by
   have:=H.lt (a+1) g1 u g2; omega
  have hk:=LT h2
  cases hh:AB (As l a).1 with
  | true=>
   rw [hh,cond_true] at hk
   obtain ⟨r1,r2,r3,r4⟩:=JC H h2 IH l.length (a+1) [] (by omega) (by omega) (by omega) (fun j g1 g2=>by omega) hq (by rw [Fe (fun j g1 g2=>by omega)]; rfl)
   have hb:=FT (a:=a) (EV l) l.length (a+1) [] h2
   generalize Bf (kf l) l a l.length (a+1) []=r at *
   have hN : ∀ j,r.2<=j->j<l.length->∀ u:Nat,AH l j=some (u:Int)->u<a\/r.2<=u:=by
    intro j
    induction j using Nat.strongRecOn with
    | ind j ih=>
     intro g1 g2 u g3
     by_cases e:j=r.2
     ·subst e; exact .inl (r2 g2 u g3)
     ·obtain ⟨u',k1,k2,k3,k4⟩:=H.up j (by omega) g2
      rw [g3] at k1; injection k1 with k1
      have:u=u':=by omega
      subst this
      exact Q5 (i:=j) (fun x hx=>H.lt x (by omega)) (by omega) (fun x q1 q2=>ih x q2 q1 (by omega)) k4 (by omega) (by omega)
   refine ⟨by rw [hk]; exact r1,by rw [hk]; exact r2,?_⟩
   rw [hk,L2 h2,r3,<-IV (l:=l) (a:=a) (show a+1<=r.2 by omega) hb.2,Fe (s:=r.2) (fun j g1 g2 g3=>by
    rcases hN j g1 g2 a g3 with k | k<;>omega),append_nil]
  | false=>
   rw [hh,cond_false] at hk
   have none : ∀ j,a<j->j<l.length->AH l j≠some (a:Int):=fun j g1 g2 g3=>by
    obtain ⟨u,k1,k2,k3,k4⟩:=H.up j (by omega) g2
    rw [g3] at k1; injection k1 with k1
    have:a=u:=by omega
    subst this
    rw [hh] at k3; cases k3
   refine ⟨?_,?_,?_⟩
   ·rw [hk]; intro j g1 g2
    have g2:j<a+1:=g2
    omega
   ·rw [hk]; intro g1 u g2
    have g1:a+1<l.length:=g1
    have:=hq g1 u g2
    have:u≠a:=fun e=>by subst e; exact none _ (by omega) g1 g2
    omega
   rw [hk,L2 h2,Fe (fun j g1 g2=>none j (by omega) g2)]
   rfl
theorem Ord.end' {l:List Ty} (H:Ord l) (h:0<l.length):(kf l 0).2=l.length/\(kf l 0).1=t2L l 0:=by
 have B:=Mg H l.length 0 (by omega) h
 have hb:=EV l 0 h
 refine ⟨?_,B.tree⟩
 by_cases e:(kf l 0).2<l.length
 ·obtain ⟨u,k1,_⟩:=H.up _ hb.1 e
  have:=B.out e u k1; omega
 ·omega
def EE (y z:Lab):Prop:=y.2.2.1<z.2.2.1/\y.2.1≠z.2.1
structure Prs (l:List Ty) (a:Nat):Prop where
 inn : ∀ j,a<j->j<(kf l a).2->∃ u:Nat,AH l j=some (u:Int)/\a<=u/\u<j/\AB (As l u).1=true/\Out l (j-1) u
 out : ∀ j,a<=j->j<(kf l a).2->Out l j a
theorem JB {l:List Ty} {a:Nat} (ha:a<l.length) (hh:AB (As l a).1=true) (IH : ∀ b,a<b->b<l.length->Prs l b) : ∀ (n e:Nat) (ks:RL),a<e->e<=l.length->
  (∀ j,a<j->j<e->∃ u:Nat,AH l j=some (u:Int)/\a<=u/\u<j/\AB (As l u).1=true/\Out l (j-1) u)->(∀ j,a<=j->j<e->Out l j a)->
  (∀ j,a<j->j<(Bf (kf l) l a n e ks).2->∃ u:Nat,AH l j=some (u:Int)/\a<=u/\u<j/\AB (As l u).1=true/\Out l (j-1) u)/\(∀ j,a<=j->j<(Bf (kf l) l a n e ks).2->Out l j a)
 | 0,e,ks,h1,h2,h3,h4=>⟨h3,h4⟩
 | n+1,e,ks,h1,h2,h3,h4=>by
  unfold Bf
  split
  ·rename_i hu
   have hl:=Ff hu
   obtain ⟨b1,b2⟩:=EV l e hl
   have B:=IH e h1 hl
   refine JB ha hh IH n (kf l e).2 _ (by omega) b2 (fun j g1 g2=>?_) (fun j g1 g2=>?_)
   ·rcases Nat.lt_trichotomy j e with g3 | g3 | g3
    ·exact h3 j g1 g3
    ·subst g3; exact ⟨a,hu,Nat.le_refl _,h1,hh,h4 (j-1) (by omega) (by omega)⟩
    ·obtain ⟨u,k1,k2,k3⟩:=B.inn j g3 g2; exact ⟨u,k1,by omega,k3⟩
   ·by_cases g3:j<e
    ·exact h4 j g1 g3
    ·exact (B.out j (by omega) g2).trans (.step e a a hu (.refl a))
  ·exact ⟨h3,h4⟩
theorem L7 {l:List Ty} : ∀ (n a:Nat),l.length-a<=n->a<l.length->Prs l a
 | 0,a,h1,h2=>by omega
 | n+1,a,h1,h2=>by
  have IH : ∀ b,a<b->b<l.length->Prs l b:=fun b g1 g2=>L7 n b (by omega) g2
  have hk:=LT h2
  have base : ∀ j,a<=j->j<a+1->Out l j a:=fun j g1 g2=>by
   have:j=a:=by omega
   subst this; exact .refl j
  cases hh:AB (As l a).1 with
  | true=>
   rw [hh,cond_true] at hk
   obtain ⟨r1,r2⟩:=JB h2 hh IH l.length (a+1) [] (by omega) (by omega) (fun j g1 g2=>by omega) base
   exact ⟨by rw [hk]; exact r1,by rw [hk]; exact r2⟩
  | false=>
   rw [hh,cond_false] at hk
   refine ⟨?_,by rw [hk]; exact base⟩
   rw [hk]; intro j g1 g2
   have g2:j<a+1:=g2
   omega
theorem Iu {l:List Ty} (h:0<l.length) (h0:AH l 0=some (-1)) (he:(kf l 0).2=l.length):Ord l:=by
 have B:=L7 l.length 0 (by omega) h
 refine ⟨h0,fun i g1 g2=>?_⟩
 obtain ⟨u,k1,k2,k3,k4,k5⟩:=B.inn i g1 (by omega)
 exact ⟨u,k1,k3,k4,k5⟩
theorem Jy {l:List Ty} (h:0<l.length) (ho:(range l.length).all (okT l)=true):Ord l:=by
 have at' : ∀ i,i<l.length->okT l i=true:=fun i hi=>all_eq_true.1 ho i (mem_range.2 hi)
 refine ⟨?_,fun i g1 g2=>?_⟩
 ·have:=at' 0 h
  unfold okT at this
  rw [if_pos rfl] at this
  simp only [anE,dcE] at this
  exact this.2.1.1.1.2
 ·have:=at' i g2
  unfold okT CY at this
  rw [if_neg (by omega),anE] at this
  have this:=this.2
  cases hu:AH l i with
  | none=>rw [hu] at this; cases this
  | some u=>
   rw [hu] at this
   simp only [anE,dcE] at this
   obtain ⟨⟨⟨⟨c1,c2⟩,c3⟩,c4⟩,_⟩:=this
   obtain ⟨u,rfl⟩:=eq_ofNat_of_zero_le c1
   unfold CP at c4
   rw [hu] at c4
   dsimp only at c4
   have e:(i:Int)-1=((i-1:Nat):Int):=by omega
   rw [e] at c4
   obtain ⟨y,k1,k2⟩:=Kn l u (i+1) (i-1) c4
   have:u=y:=by omega
   subst this
   exact ⟨u,rfl,by omega,c3,k2⟩
theorem Ord.around {l:List Ty} (H:Ord l) {i:Nat} (h1:0<i) (h2:i<l.length):CP l i=true:=by
 obtain ⟨u,k1,k2,k3,k4⟩:=H.up i h1 h2
 unfold CP
 rw [k1]
 dsimp only
 have e:(i:Int)-1=((i-1:Nat):Int):=by omega
 rw [e]
 exact NU (i:=l.length) H.lt k4 (by omega) (i+1) (by omega)
/-! Maps. -/
theorem J8 (x y:By) (v:Bool) : ∀ l:List (By×Bool),Dy .str (Eb .str l x v) y=if y=x then some v else Dy .str l y
 | []=>by
  show (match CC .str y x with | true=>some v | false=>Dy .str [] y)=_
  by_cases h:y=x
  ·subst h
   have:CC .str y y=true:=beq_self_eq_true y
   rw [this,if_pos rfl]
  ·have:CC .str y x=false:=beq_false_of_ne h
   rw [this,if_neg h]
 | e::l=>by
  unfold Eb
  by_cases h:x=e.1
  ·subst h
   simp only [CC,beq_self_eq_true]
   unfold Dy
   by_cases h2:y=e.1
   ·subst h2; simp [CC]
   ·simp only [CC,beq_false_of_ne h2,if_neg h2]
  ·have:CC .str x e.1=false:=beq_false_of_ne h
   rw [this]
   dsimp only
   unfold Dy
   by_cases h2:y=e.1
   ·subst h2; simp [CC,Ne.symm h]
   ·have h3:CC .str y e.1=false:=beq_false_of_ne h2
    rw [h3]
    exact J8 x y v l
theorem LH : ∀ (l pre:RL) (seen:List (By×Bool)),(∀ nm,(Dy .str seen nm).getD false=true↔∃ z∈pre,z.lab.2.1=nm)->pre.Pairwise (fun y z=>EE y.lab z.lab)->
  (Fp (pre++l) pre.length seen l=true↔(pre++l).Pairwise (fun y z=>EE y.lab z.lab))
 | [],pre,seen,_,hp=>by rw [Fp,append_nil]; exact ⟨fun _=>hp,fun _=>rfl⟩
 | z::l,pre,seen,hs,hp=>by
  have hpg:DD (pre++z::l) pre.length z.lab.2.2.1=true↔∃ y,pre.getLast? = some y/\y.lab.2.2.1>=z.lab.2.2.1:=by
   cases hl:pre.getLast? with
   | none=>
    have:pre=[]:=by simpa using hl
    subst this
    simp [DD]
   | some y=>
    have hne:pre≠[]:=by intro e; subst e; cases hl
    obtain ⟨m,hm⟩ : ∃ m,pre.length=m+1:=⟨pre.length-1,by have:=List.length_pos_iff.2 hne; omega⟩
    have hy:(pre++z::l)[m]? = some y:=by
     rw [List.getElem?_append_left (by omega),<-hl,List.getLast?_eq_getElem?,hm]; rfl
    rw [hm]
    unfold DD
    dsimp only
    rw [hy]
    simp
  have hR:(∀ y∈pre,EE y.lab z.lab)↔¬((Dy .str seen z.lab.2.1).getD false||DD (pre++z::l) pre.length z.lab.2.2.1)=true:=by
   rw [Bool.or_eq_true,hs,hpg]
   constructor
   ·rintro h (⟨y,g1,g2⟩ | ⟨y,g1,g2⟩)
    ·exact (h y g1).2 g2
    ·have:=(h y (List.mem_of_getLast? g1)).1; omega
   ·intro h y hy
    refine ⟨?_,fun e=>h (.inl ⟨y,hy,e⟩)⟩
    cases hl:pre.getLast? with
    | none=>
     have:pre=[]:=by simpa using hl
     subst this; cases hy
    | some w=>
     have h1 : ¬w.lab.2.2.1>=z.lab.2.2.1:=fun g=>h (.inr ⟨w,hl,g⟩)
     have hne:pre≠[]:=by intro e; subst e; cases hl
     have e:pre=pre.dropLast++[w]:=by
      rw [List.getLast?_eq_some_getLast hne] at hl
      have:=(List.dropLast_concat_getLast hne).symm
      rw [Option.some.inj hl] at this
      exact this
     rw [e] at hy hp
     rcases mem_append.1 hy with hy | hy
     ·have:=(List.pairwise_append.1 hp).2.2 y hy w (by simp)
      have:=this.1; omega
     ·simp at hy; subst hy; omega
  rw [Fp]
  by_cases hc:((Dy .str seen z.lab.2.1).getD false||DD (pre++z::l) pre.length z.lab.2.2.1)=true
  ·rw [if_pos hc]
   refine ⟨fun h=>(by cases h),fun h=>?_⟩
   exact absurd hc (hR.1 fun y hy=>(List.pairwise_append.1 h).2.2 y hy z (by simp))
  ·rw [if_neg hc]
   have hall:=hR.2 hc
   have hp2:(pre++[z]).Pairwise (fun y z=>EE y.lab z.lab):=List.pairwise_append.2 ⟨hp,List.pairwise_singleton _ _,fun y hy w hw=>by simp at hw; subst hw; exact hall y hy⟩
   have ih:=LH l (pre++[z]) (Eb .str seen z.lab.2.1 true) (fun nm=>by
    rw [J8]
    by_cases e:nm=z.lab.2.1
    ·rw [if_pos e]; simp [e]
    ·rw [if_neg e,hs]
     constructor
     ·rintro ⟨w,g1,g2⟩; exact ⟨w,by simp [g1],g2⟩
     ·rintro ⟨w,g1,g2⟩
      rcases mem_append.1 g1 with g1 | g1
      ·exact ⟨w,g1,g2⟩
      ·simp at g1; subst g1; exact absurd g2.symm e) hp2
   rw [append_assoc] at ih
   simpa using ih
theorem J7 (zs:RL):Fp zs 0 [] zs=true↔zs.Pairwise (fun y z=>EE y.lab z.lab):=by
 have:=LH zs [] [] (fun nm=>by simp [Dy]) List.Pairwise.nil
 simpa using this
theorem DV {R:Nat->Nat->Prop} : ∀ {l:List Nat},l.Pairwise (· < ·)->(l.Pairwise R↔∀ a∈l,∀ b∈l,a<b->R a b)
 | [],_=>by simp
 | x::l,h=>by
  rw [pairwise_cons] at h
  rw [pairwise_cons,DV h.2]
  constructor
  ·rintro ⟨h1,h2⟩ a ha b hb hab
   rcases mem_cons.1 ha with ea | ha'
   ·rcases mem_cons.1 hb with eb | hb'
    ·omega
    ·rw [ea]; exact h1 b hb'
   ·rcases mem_cons.1 hb with eb | hb'
    ·have:=h.1 a ha'; omega
    ·exact h2 a ha' b hb' hab
  ·intro g
   exact ⟨fun b hb=>g x (by simp) b (by simp [hb]) (h.1 b hb),fun a ha b hb hab=>g a (by simp [ha]) b (by simp [hb]) hab⟩
theorem CA {l:List Ty} {a s t j:Nat}:j∈KK l a s t↔(s<=j/\j<t)/\AH l j=some (a:Int):=by
 unfold KK
 rw [List.mem_filter,List.mem_range'_1,dcE]
 constructor
 ·rintro ⟨h1,h2⟩; exact ⟨by omega,h2⟩
 ·rintro ⟨h1,h2⟩; exact ⟨by omega,h2⟩
theorem Nh (l:List Ty) (a s t:Nat):(KK l a s t).Pairwise (· < ·):=(List.pairwise_lt_range').filter _
def CD (l:List Ty):Prop:=∀ j,j<l.length->Bo (As l j) ((KK l j (j+1) l.length).map (t2L l))=true/\∀ c∈KK l j (j+1) l.length,C6 (As l j).1 (As l c)=true
theorem EG {l:List Ty} {a:Nat} (h:a<l.length):(t2L l a).lab=As l a:=by rw [L2 h]; rfl
theorem GI (k:Int) : ∀ ks:RL,Bz k ks=true↔∀ z∈ks,C6 k z.lab=true/\Ao z=true
 | []=>by simp [Bz]
 | z::ks=>by
  rw [Bz,anE,anE,GI k ks]
  constructor
  ·rintro ⟨h1,h2⟩ w hw
   rcases mem_cons.1 hw with e | hw'
   ·rw [e]; exact h1
   ·exact h2 w hw'
  ·intro h
   exact ⟨h z (by simp),fun w hw=>h w (by simp [hw])⟩
theorem GG {l:List Ty} {a:Nat} (h:a<l.length):Ao (t2L l a)=true↔Bo (As l a) ((KK l a (a+1) l.length).map (t2L l))=true/\∀ c∈KK l a (a+1) l.length,C6 (As l a).1 (As l c)=true/\Ao (t2L l c)=true:=by
 rw [L2 h,Ao,anE,GI]
 constructor
 ·rintro ⟨h1,h2⟩
  refine ⟨h1,fun c hc=>?_⟩
  have hcl:=(CA.1 hc).1.2
  have:=h2 (t2L l c) (mem_map.2 ⟨c,hc,rfl⟩)
  rw [EG hcl] at this
  exact this
 ·rintro ⟨h1,h2⟩
  refine ⟨h1,fun z hz=>?_⟩
  obtain ⟨c,hc,rfl⟩:=mem_map.1 hz
  have hcl:=(CA.1 hc).1.2
  rw [EG hcl]
  exact h2 c hc
theorem My {l:List Ty} (H:Ord l) (h0:0<l.length):Ao (t2L l 0)=true↔CD l:=by
 constructor
 ·intro h
  have all : ∀ j,j<l.length->Ao (t2L l j)=true:=by
   intro j
   induction j using Nat.strongRecOn with
   | ind j ih=>
    intro hj
    rcases Nat.eq_zero_or_pos j with rfl | hp
    ·exact h
    ·obtain ⟨u,k1,k2,_⟩:=H.up j hp hj
     exact (((GG (by omega)).1 (ih u k2 (by omega))).2 j (CA.2 ⟨⟨by omega,hj⟩,k1⟩)).2
  intro j hj
  have:=(GG hj).1 (all j hj)
  exact ⟨this.1,fun c hc=>(this.2 c hc).1⟩
 ·intro h
  have all : ∀ n j,l.length-j<=n->j<l.length->Ao (t2L l j)=true:=by
   intro n
   induction n with
   | zero=>intro j g1 g2; omega
   | succ n ih=>
    intro j g1 g2
    refine (GG g2).2 ⟨(h j g2).1,fun c hc=>⟨(h j g2).2 c hc,?_⟩⟩
    have:=(CA.1 hc).1
    exact ih c (by omega) (by omega)
  exact all l.length 0 (by omega) h0
theorem ES {l:List Ty} {i:Nat} (h:i<l.length):As l i=(l[i].1,l[i].2.1,l[i].2.2.1,l[i].2.2.2.1,l[i].2.2.2.2.2.1,()):=by unfold As; rw [gtE h]
theorem Nx {l:List Ty} {a c:Nat} (hc:c<=l.length) (no:Int) (nm:By):Mo (a:Int) no nm ((l.take c).drop (a+1))=true↔∀ k,a<k->k<c->AH l k=some (a:Int)->(As l k).2.2.1<no/\(As l k).2.1≠nm:=by
 have up : ∀ k (h:k<l.length),AH l k=some (l[k].2.2.2.2.1):=fun k h=>by unfold AH; rw [gtE h]; rfl
 unfold Mo
 rw [all_eq_true]
 constructor
 ·intro h k g1 g2 g3
  have hk:k<l.length:=by omega
  have hm:l[k]∈(l.take c).drop (a+1):=by
   refine List.mem_iff_getElem?.2 ⟨k-(a+1),?_⟩
   rw [List.getElem?_drop,show a+1+(k-(a+1))=k by omega,List.getElem?_take,if_pos g2,gtE hk]
  have:=h _ hm
  rw [up k hk] at g3
  rw [Option.some.inj g3,beq_self_eq_true,Bool.true_and] at this
  rw [ES hk]
  simp only [Bool.not_eq_true',Bool.or_eq_false_iff,decide_eq_false_iff_not,beq_eq_false_iff_ne] at this
  show l[k].2.2.1<no/\l[k].2.1≠nm
  exact ⟨by have:=this.1; omega,this.2⟩
 ·intro h o ho
  obtain ⟨j,hj⟩:=List.mem_iff_getElem?.1 ho
  rw [List.getElem?_drop,List.getElem?_take] at hj
  split at hj
  ·rename_i hlt
   have hk:a+1+j<l.length:=by omega
   rw [gtE hk] at hj
   have e:=Option.some.inj hj
   by_cases hu:o.2.2.2.2.1=(a:Int)
   ·have:=h (a+1+j) (by omega) hlt (by rw [up _ hk,e,hu])
    rw [ES hk,e] at this
    have this:o.2.2.1<no/\o.2.1≠nm:=this
    have h1:decide (o.2.2.1>=no)=false:=dcF (by have:=this.1; omega)
    have h2:(o.2.1==nm)=false:=beq_false_of_ne this.2
    rw [h1,h2]; simp
   ·rw [beq_false_of_ne hu]; rfl
  ·cases hj
theorem JX {k:Int} (h:AB k=true):k=4\/k=5:=by
 unfold AB at h
 rw [Bool.or_eq_true] at h
 rcases h with h | h
 ·exact .inl (by simpa using h)
 ·exact .inr (by simpa using h)
theorem PY {l:List Ty} (H:Ord l) {j:Nat} (h:AB (As l j).1=false):KK l j (j+1) l.length=[]:=Fe fun c g1 g2 g3=>by
 obtain ⟨u,k1,k2,k3,_⟩:=H.up c (by omega) g2
 rw [g3] at k1; injection k1 with k1
 have:j=u:=by omega
 subst this
 rw [h] at k3; cases k3
theorem FI {l:List Ty} (H:Ord l) {j:Nat} (_:j<l.length):Bo (As l j) ((KK l j (j+1) l.length).map (t2L l))=true↔kmB (As l j)=true/\Dq l j=true/\((As l j).1=5->∀ c∈KK l j (j+1) l.length,∀ k∈KK l j (j+1) l.length,k<c->EE (As l k) (As l c)):=by
 have hone:Dq l j = !((As l j).1==4&&(KK l j (j+1) l.length).length != 1):=by unfold Dq; rw [HS,List.length_map]
 have hmsg:Fp ((KK l j (j+1) l.length).map (t2L l)) 0 [] ((KK l j (j+1) l.length).map (t2L l))=true↔∀ c∈KK l j (j+1) l.length,∀ k∈KK l j (j+1) l.length,k<c->EE (As l k) (As l c):=by
  rw [J7,List.pairwise_map,DV (Nh l j (j+1) l.length)]
  constructor
  ·intro h c hc k hk hkc
   have:=h k hk c hc hkc
   rw [EG (CA.1 hk).1.2,EG (CA.1 hc).1.2] at this
   exact this
  ·intro h k hk c hc hkc
   rw [EG (CA.1 hk).1.2,EG (CA.1 hc).1.2]
   exact h c hc k hk hkc
 rw [hone]
 have hk0:(As l j).1≠4->(As l j).1≠5->KK l j (j+1) l.length=[]:=fun h4 h5=>PY H (by unfold AB; rw [beq_false_of_ne h4,beq_false_of_ne h5]; rfl)
 unfold Bo kmB
 rw [List.length_map]
 generalize As l j=x at hk0 ⊢
 by_cases a1:x.1=1\/x.1=2
 ·have h4:x.1≠4:=by rcases a1 with h | h<;>omega
  have h5:x.1≠5:=by rcases a1 with h | h<;>omega
  have h3:x.1≠3:=by rcases a1 with h | h<;>omega
  rw [if_pos a1,hk0 h4 h5,if_neg h3,dcT (show 1<=x.1/\x.1<=5 by rcases a1 with h | h<;>omega),beq_false_of_ne h4]
  simp [h5]
 by_cases a3:x.1=3
 ·have h4:x.1≠4:=by omega
  have h5:x.1≠5:=by omega
  rw [if_neg a1,if_pos a3,hk0 h4 h5,if_pos a3,dcT (show 1<=x.1/\x.1<=5 by omega),beq_false_of_ne h4]
  simp [h5]
 by_cases a4:x.1=4
 ·have h5:x.1≠5:=by omega
  rw [if_neg a1,if_neg a3,if_pos a4,if_neg a3,dcT (show 1<=x.1/\x.1<=5 by omega),a4]
  simp
 by_cases a5:x.1=5
 ·rw [if_neg a1,if_neg a3,if_neg a4,if_neg a3,dcT (show 1<=x.1/\x.1<=5 by omega),beq_false_of_ne a4]
  by_cases a6:x.2.2.2.2.1=0
  ·rw [if_neg (by rintro (h | h); exact h a5; exact h a6),hmsg]
   simp [a5,a6]
  ·rw [if_pos (.inr a6)]
   simp [a6]
 ·have a0 : ¬(1<=x.1/\x.1<=5):=by omega
  rw [if_neg a1,if_neg a3,if_neg a4,if_pos (.inl a5),dcF a0]
  simp
theorem Jx {l:List Ty} (H:Ord l) {i u:Nat} (hi:0<i) (hl:i<l.length) (hu:AH l i=some (u:Int)) (hlt:u<i) (hh:AB (As l u).1=true) :
  CY l i=true↔C6 (As l u).1 (As l i)=true/\((As l u).1=5->∀ k∈KK l u (u+1) l.length,k<i->EE (As l k) (As l i)):=by
 have ha:=H.around hi hl
 have hs:=Nx (l:=l) (a:=u) (c:=i) (by omega) (As l i).2.2.1 (As l i).2.1
 have hk:(∀ k∈KK l u (u+1) l.length,k<i->EE (As l k) (As l i))↔∀ k,u<k->k<i->AH l k=some (u:Int)->(As l k).2.2.1<(As l i).2.2.1/\(As l k).2.1≠(As l i).2.1:=by
  constructor
  ·intro h k g1 g2 g3; exact h k (CA.2 ⟨⟨g1,by omega⟩,g3⟩) g2
  ·intro h k g1 g2
   have:=CA.1 g1
   exact h k this.1.1 g2 this.2
 rw [hk,<-hs]
 unfold CY C6
 rw [hu]
 dsimp only
 rw [ntN,dcT (show 0<=(u:Int)/\(u:Int)<(i:Int) by omega),hh,ha]
 rcases JX hh with h4 | h5
 ·rw [if_pos h4,if_neg (by omega)]
  simp [h4]
 ·rw [if_neg (by omega),if_pos h5]
  simp [h5]
theorem IF (l:List Ty):Ha l=AX l/\(AX l=true->(kf l 0).1=t2L l 0):=by
 have main : ∀ (H:Ord l),1<=l.length/\l.length<=30->(Ha l=true↔AX l=true):=fun H hl=>by
  have h0:0<l.length:=by omega
  obtain ⟨e1,e2⟩:=H.end' h0
  have hc:=KX h0
  have hkm:CD l↔(∀ j,j<l.length->kmB (As l j)=true/\Dq l j=true)/\∀ j,0<j->j<l.length->CY l j=true:=by
   constructor
   ·intro h
    refine ⟨fun j hj=>?_,fun j hp hj=>?_⟩
    ·have:=(FI H hj).1 (h j hj).1
     exact ⟨this.1,this.2.1⟩
    ·obtain ⟨u,k1,k2,k3,_⟩:=H.up j hp hj
     have hm:j∈KK l u (u+1) l.length:=CA.2 ⟨⟨k2,hj⟩,k1⟩
     have hul:u<l.length:=by omega
     refine (Jx H hp hj k1 k2 k3).2 ⟨(h u hul).2 j hm,fun h5 k hk hkj=>?_⟩
     exact ((FI H hul).1 (h u hul).1).2.2 h5 j hm k hk hkj
   ·rintro ⟨h1,h2⟩ j hj
    have hcc : ∀ c∈KK l j (j+1) l.length,C6 (As l j).1 (As l c)=true/\((As l j).1=5->∀ k∈KK l j (j+1) l.length,k<c->EE (As l k) (As l c)):=fun c hc=>by
     obtain ⟨⟨g1,g2⟩,g3⟩:=CA.1 hc
     obtain ⟨u,k1,k2,k3,_⟩:=H.up c (by omega) g2
     rw [g3] at k1; injection k1 with k1
     have:j=u:=by omega
     subst this
     exact (Jx H (by omega) g2 g3 k2 k3).1 (h2 c (by omega) g2)
    exact ⟨(FI H hj).2 ⟨(h1 j hj).1,(h1 j hj).2,fun h5 c hc k hk hkc=>(hcc c hc).2 h5 k hk hkc⟩,fun c hc=>(hcc c hc).1⟩
  unfold Ha AX B5
  rw [dcT hl,dcT H.zero,e1,e2,EG h0]
  have hcnt:decide (Ak (t2L l 0)<=30)=true:=dcT (by rw [<-e2]; omega)
  rw [hcnt]
  simp only [Bool.true_and,Bool.and_true,anE,all_eq_true,mem_range,dcE,beq_self_eq_true,My H h0,hkm]
  constructor
  ·rintro ⟨⟨h1,h2⟩,h3⟩
   have r:=h1 0 h0
   unfold okT at r
   rw [if_pos rfl] at r
   simp only [anE,dcE] at r
   obtain ⟨r0,⟨⟨⟨r1,r2⟩,r3⟩,r4⟩,r5⟩:=r
   refine ⟨⟨⟨⟨⟨r1,r3⟩,r4⟩,r5⟩,⟨fun j hj=>⟨?_,h2 j hj⟩,fun j hp hj=>?_⟩⟩,h3⟩
   ·have:=h1 j hj
    unfold okT at this
    rw [anE] at this
    exact this.1
   ·have:=h1 j hj
    unfold okT at this
    rw [if_neg (by omega),anE] at this
    exact this.2
  ·rintro ⟨⟨⟨⟨⟨r1,r3⟩,r4⟩,r5⟩,⟨h1,h2⟩⟩,h3⟩
   refine ⟨⟨fun j hj=>?_,fun j hj=>(h1 j hj).2⟩,h3⟩
   unfold okT
   rw [(h1 j hj).1,Bool.true_and]
   by_cases hz:j=0
   ·rw [if_pos hz]
    simp only [anE,dcE]
    exact ⟨⟨⟨⟨r1,H.zero⟩,r3⟩,r4⟩,r5⟩
   ·rw [if_neg hz]; exact h2 j (by omega) hj
 have hS:Ha l=true->Ord l/\1<=l.length/\l.length<=30:=fun h=>by
  unfold Ha at h
  simp only [anE,dcE] at h
  exact ⟨Jy (by omega) h.1.1.2,h.1.1.1⟩
 have hK:AX l=true->Ord l/\1<=l.length/\l.length<=30:=fun h=>by
  unfold AX at h
  simp only [anE,dcE,beq_iff_eq] at h
  exact ⟨Iu (by omega) h.1.1.2 h.1.2,h.1.1.1⟩
 refine ⟨?_,fun h=>((hK h).1.end' (by have:=(hK h).2; omega)).2⟩
 cases h1:Ha l with
 | true=>obtain ⟨H,hl⟩:=hS h1; exact ((main H hl).1 h1).symm
 | false=>
  cases h2:AX l with
  | false=>rfl
  | true=>obtain ⟨H,hl⟩:=hK h2; rw [(main H hl).2 h2] at h1; cases h1
def I7:Gm
 | [.agg [.sl TCd l],.j i],[]=>.need (decide (0<=i/\i.toNat<l.length/\l.length<=4000000000)&&Cf l i.toNat&&nmL l) (.leaf (.b (CY l i.toNat),[]))
 | _,_=>.no
def DI:LoopEnt:=⟨103,[1,2,5,6],[],[4],fun
 | ([.j i,.ptr 0 0,.ptr 1 0,.j k],[some (.box [.sl TCd l]),some (.box (Ly _ y1 y2 _ y4 _))])=>.need (decide (0<=k/\k<=i/\i.toNat<l.length/\l.length<=4000000000)) (.br (Mo y4 y2 y1 ((l.take i.toNat).drop k.toNat)) (.leaf (.exit 0,([],[]))) (.leaf (.ret,([.b false],[]))))
 | _=>.no⟩
abbrev PX:FuncId->Option Ent:=Ab [(47,.rd1 Fv),(48,.rd1 FS),(49,.rd1 GP),(30,.rd1 AY)]
theorem Ft (l:List Ty) (y0:Int) (y1:By) (y2:Int) (y3:Bool) (y4 y5:Int) (i k:Int):AG prog PX (Ab [(9,DI)]) 0 (body f31 0) DI ([.j i,.ptr 0 0,.ptr 1 0,.j k],[some (.box [.sl TCd l]),some (.box (Ly y0 y1 y2 y3 y4 y5))]) =
 ((ifB (decide (k<i)) (ifT (decide (0<=k)&&decide (k<(↑l.length:Int))) (Ap l[k.toNat]? fun z=>ifB (z.2.2.2.2.1==y4) (ifB (decide (z.2.2.1>=
 y2)) rF (ifB (z.2.1==y1) rF (some (Ex.normal,[V.j i,V.ptr 0 0,V.ptr 1 0,V.i .i64
 (i64.wrap (k+1))],[some (Blk.box [V.sl TCd l]),some (Blk.box (Ly y0 y1 y2 y3 y4 y5))])))) (some (Ex.normal,[V.i
 .i64 i,V.ptr 0 0,V.ptr 1 0,V.j (i64.wrap (k+1))],[some (Blk.box [V.sl TCd l]),some (Blk.box (Ly y0 y1 y2 y3 y4 y5))])))) (some (Ex.exit 0,[],[]))):_):=by kernel_rfl
theorem JI (l:List Ty) (i:Int):Bv prog PX (Ab [(9,DI)]) f31 [.agg [.sl TCd l],.j i] [] =
 ((ifT (decide (0<=i)&&decide (i<(↑l.length:Int))) (Ap l[i.toNat]? fun z=>ifB (decide (z.2.2.2.2.1<(0:Int))) nF (ifB (decide
 (z.2.2.2.2.1>=i)) nF (ifT (decide ((0:Int)<=z.2.2.2.2.1)&&decide (z.2.2.2.2.1<(↑l.length:Int))) (Ap
 l[toNat z.2.2.2.2.1]? fun z_1=>ifB (!AB z_1.1) nF (ifT (decide (0<=i/\i.toNat<l.length/\l.length<=4000000000)&&
 Cf l i.toNat) (ifB (!CP l i.toNat) nF (ifT (decide ((0:Int)<=z.2.2.2.2.1)&&decide (z.2.2.2.2.1<(↑l.length:Int)))
 (Ap l[toNat z.2.2.2.2.1]? fun z_2=>ifB (z_2.1==(4:Int)) (ifB (z.2.1==Al UInt8) (ifB (z.2.2.1==(0:Int)) (some (V.b
 !z.2.2.2.1,[])) nF) nF) (ifT (decide (List.length z.2.1<=maxI)) (ifB (!DW z.2.1) nF (ifB
 (!decide ((1:Int)<=z.2.2.1/\z.2.2.1<=(30:Int))) nF (ifT (decide (0<=i64.wrap (z.2.2.2.2.1+(1:Int))/\
 i64.wrap (z.2.2.2.2.1+(1:Int))<=i/\i.toNat<l.length/\l.length<=4000000000)) (ifB (Mo z.2.2.2.2.1 z.2.2.1 z.2.1
 (drop (i64.wrap (z.2.2.2.2.1+(1:Int))).toNat (take i.toNat l))) (some (V.b true,[])) nF)))))))))))))):_):=by kernel_rfl
theorem MI:A6 prog PX (Ab [(9,DI)]) 0 (f31.body.getD .skip):=by
 refine Az (a:=body f31 0) (by kernel_rfl) fun d ex d' h=>?_
 unfold DI at h
 dsimp only at h
 split at h
 ·rename_i i k l y0 y1 y2 y3 y4 y5
  obtain ⟨hc,hx⟩:=Ae h
  clear h
  obtain ⟨h0,h1,h2,h3⟩:=of_decide_eq_true hc
  obtain ⟨k,rfl⟩:=eq_ofNat_of_zero_le h0
  obtain ⟨i,rfl⟩:=eq_ofNat_of_zero_le (by omega:0<=i)
  simp only [ntN] at h2 hx
  have hM:=mxI
  have hlen:(l.take i).length=i:=by rw [List.length_take]; omega
  refine Ef (l:=l.take i) (fun o:Ty=>!(o.2.2.2.2.1==y4&&(decide (o.2.2.1>=y2)||o.2.1==y1))) (fun k=>([.j (i:Int),.ptr 0 0,.ptr 1 0,.j (k:Int)],[some (.box [.sl TCd l]),some (.box (Ly y0 y1 y2 y3 y4 y5))])) (ex:=(.exit 0,([],[]))) (rt:=(.ret,([.b false],[]))) (by simp) (by simp) (fun n hn=>?_) ?_ ((l.take i).length-k) k (by rw [hlen]; omega) ex d' hx
  ·rw [hlen] at hn
   have hnl:n<l.length:=by omega
   have hr:=Ft l y0 y1 y2 y3 y4 y5 i n
   rw [Ag (dcT (by omega)),T2 (by omega)] at hr
   simp only [ntN,gtE hnl,Aq,AM (n:=n) (by omega)] at hr
   refine hr.trans ?_
   rw [List.getElem_take]
   cases l[n].2.2.2.2.1==y4<;>cases decide (l[n].2.2.1>=y2)<;>cases l[n].2.1==y1<;>rfl
  ·have hr:=Ft l y0 y1 y2 y3 y4 y5 i i
   rw [Af (dcF (by omega))] at hr
   rw [hlen]
   exact hr
 ·cases h
theorem KQ (l:List Ty) (i:Int) (hc:0<=i/\i.toNat<l.length/\l.length<=4000000000) (hs:Cf l i.toNat=true) (hn:nmL l=true):Bv prog PX (Ab [(9,DI)]) f31 [.agg [.sl TCd l],.j i] []=some (.b (CY l i.toNat),[]):=by
 rw [JI]
 obtain ⟨h0,h1,h2⟩:=hc
 obtain ⟨i,rfl⟩:=eq_ofNat_of_zero_le h0
 simp only [ntN] at h1 hs
 have hM:=mxI
 have hu:AH l i=some (l[i].2.2.2.2.1):=by unfold AH; rw [gtE h1]; rfl
 have hlb:=ES h1
 have hnm:l[i].2.1.length<=maxI:=of_decide_eq_true (all_eq_true.1 hn _ (getElem_mem h1))
 rw [T2 (by omega)]
 simp only [ntN,gtE h1,Aq]
 unfold CY
 rw [hu,hlb]
 dsimp only
 by_cases a1:l[i].2.2.2.2.1<0
 ·rw [Ag (dcT a1),dcF (by omega)]; rfl
 rw [Af (dcF a1)]
 by_cases a2:l[i].2.2.2.2.1>=(i:Int)
 ·rw [Ag (dcT a2),dcF (by omega)]; rfl
 obtain ⟨u,hu2⟩:=eq_ofNat_of_zero_le (by omega:0<=l[i].2.2.2.2.1)
 rw [hu2] at a2 ⊢
 have hul:u<l.length:=by omega
 have hg:(decide ((0:Int)<=(u:Int))&&decide ((u:Int)<(l.length:Int)))=true:=by simp only [anE,dcE]; omega
 rw [Af (dcF a2),dcT (show 0<=(u:Int)/\(u:Int)<(i:Int) by omega),hg]
 simp only [ntN,gtE hul,Aq,HU]
 rw [ES hul]
 dsimp only
 cases AB l[u].1 with
 | false=>rfl
 | true=>
  rw [Bool.not_true,A1,Aa (by rw [anE]; exact ⟨dcT ⟨by omega,h1,h2⟩,hs⟩)]
  cases CP l i with
  | false=>rfl
  | true=>
   rw [Bool.not_true,A1]
   by_cases a4:l[u].1=4
   ·rw [Ag (by rw [a4]; rfl),if_pos a4]
    cases l[i].2.1==Al UInt8<;>cases l[i].2.2.1==0<;>rfl
   ·rw [Af (beq_false_of_ne a4),if_neg a4,Aa (dcT hnm),AM (n:=u) (by omega)]
    have d1:decide (1<=l[i].2.2.1/\l[i].2.2.1<=30)=(decide (1<=l[i].2.2.1)&&decide (l[i].2.2.1<=30)):=decide_and ..
    rw [d1,Aa (dcT ⟨by omega,by omega,h1,h2⟩),ntN]
    cases DW l[i].2.1<;>cases (decide (1<=l[i].2.2.1)&&decide (l[i].2.2.1<=30))<;>cases Mo (u:Int) l[i].2.2.1 l[i].2.1 ((l.take i).drop (u+1))<;>rfl
theorem QC:Ad prog 31 (Ent.rd1 I7).F:=by
 refine fcK (kc func47 LO (kc func48 Ov (kc func49 Rh (kc func30 QD KnowsL.nil)))).knows (Λ:=(Ab [(9,DI)])) func31 fun vs bs r hq=>?_
 unfold Ent.F I7 at hq
 dsimp only at hq
 split at hq
 ·rename_i l i
  obtain ⟨hc,hx⟩:=Ae hq
  rw [anE,anE] at hc
  exact ⟨MI,(KQ l i (of_decide_eq_true hc.1.1) hc.1.2 hc.2).trans hx⟩
 ·cases hq
instance decTy0:DecidableEq (Bool×Int×Int×Unit):=inferInstance
instance decTy:DecidableEq Ty:=inferInstance
def E6:LoopEnt:=⟨105,[1,13,14,15],[1],[2],fun
 | ([.ptr 0 0,.sl TCd q,.j m,.j i],[some (.box [.sl TCd l])])=>.need (decide (0<=i/\i.toNat<=l.length/\m=l.length/\eqT (List Ty) q l/\l.length<=4000000000)&&nmL l&&Cf l i.toNat) (.br (((range l.length).drop i.toNat).all (okT l)) (.leaf (.exit 0,([.ptr 0 0],[some (.box [.sl TCd l])]))) (.leaf (.ret,([.b false],[]))))
 | _=>.no⟩
def Fy:LoopEnt:=⟨105,[1,83,84,85],[1],[2],fun
 | ([.ptr 0 0,.sl TCd q,.j m,.j i],[some (.box [.sl TCd l])])=>.need (decide (0<=i/\i.toNat<=l.length/\m=l.length/\eqT (List Ty) q l/\l.length<=4000000000)) (.br (((range l.length).drop i.toNat).all (Dq l)) (.leaf (.exit 2,([.ptr 0 0],[some (.box [.sl TCd l])]))) (.leaf (.ret,([.b false],[]))))
 | _=>.no⟩
abbrev IT:FuncId->Option Ent:=Ab [(30,.rd1 AY),(31,.rd1 I7),(32,.rd1 G6),(15,.rd1 G5),(33,.rd1 K2)]
theorem HX (l q:List Ty) (m i:Int):AG prog IT (Ab [(4,E6),(12,Fy)]) 0 (body f13 0) E6 ([.ptr 0 0,.sl TCd q,.j m,.j i],[some (.box [.sl TCd l])]) =
 ((ifB (decide (i<m)) (ifT (decide (0<=i)&&decide (i<(↑q.length:Int))) (Ap q[i.toNat]? fun z=>shr z.2.2 fun sh4=>shr sh4.2.2.2 fun sh3=>shr (ifB
 (decide (i>0)) (ifT (decide (0<=i/\i.toNat<l.length/\l.length<=4000000000)&&Cf l i.toNat&&nmL l) (ifB (!CY l i.toNat) rF (some (Ex.normal,[V.ptr 0 0,V.sl TCd q,V.j m,V.j (i64.wrap (i+1))],[some (Blk.box [V.sl TCd l])])))) (some (Ex.normal,[V.ptr 0 0,
 V.sl TCd q,V.j m,V.j (i64.wrap (i+1))],[some (Blk.box [V.sl TCd l])]))) fun sh2=>shr (ifB (i==0) (ifB (z.1 != (5:Int)) rF (ifB (sh4.2.2.1 != (-1:Int)) rF (ifB (!z.2.1==Al UInt8) rF (ifB (sh4.1 != (0 :
 Int)) rF (ifB sh4.2.1 rF sh2))))) sh2) fun sh1=>ifB (!decide ((1:Int)<=z.1/\z.1<=(5:Int)))
 rF (ifB (z.1==(3:Int)) (ifB (!decide ((0:Int)<=sh3.1/\sh3.1<=(20:Int))) rF (ifB (z.1 != (3
 : Int)) (ifB (sh3.1 != (0:Int)) rF sh1) sh1)) (ifB (z.1 != (3:Int)) (ifB (sh3.1 != (0:Int)) rF
 sh1) sh1)))) (some (Ex.exit 0,[V.ptr 0 0],[some (Blk.box [V.sl TCd l])]))):_):=by kernel_rfl
theorem HW (l q:List Ty) (m i:Int):AG prog IT (Ab [(4,E6),(12,Fy)]) 0 (body f13 1) Fy ([.ptr 0 0,.sl TCd q,.j m,.j i],[some (.box [.sl TCd l])]) =
 ((ifB (decide (i<m)) (ifT (decide (0<=i)&&decide (i<(↑q.length:Int))) (Ap q[i.toNat]? fun z=>ifB (z.1==(4:Int)) (ifT (decide (0<=i/\i.toNat<l.length
 /\ l.length<=4000000000)) (ifB ((↑(Bb l i.toNat).length:Int) != (1:Int)) rF (some (Ex.normal,[V.ptr 0 0,V.sl TCd q,V.i
 .i64 m,V.j (i64.wrap (i+1))],[some (Blk.box [V.sl TCd l])])))) (some (Ex.normal,[V.ptr 0 0,V.sl TCd q,V.j m,V.j (i64.wrap (i +
 1))],[some (Blk.box [V.sl TCd l])])))) (some (Ex.exit 2,[V.ptr 0 0],[some (Blk.box [V.sl TCd l])]))):_):=by kernel_rfl
theorem PR (l:List Ty):Bv prog IT (Ab [(4,E6),(12,Fy)]) f13 [.agg [.sl TCd l]] [] =
 ((ifB (!decide (1<=(↑l.length:Int)/\(↑l.length:Int)<=(30:Int))) nF (ifT (decide ((0:Int)<=(0:Int)/\0<=l.length/\(↑l.length :
 Int)=(↑l.length:Int)/\eqT (List Ty) l l/\l.length<=4000000000)&&nmL l&&Cf l 0) (ifB ((drop 0 (range l.length)).all (okT
 l)) (ifT (decide ((0:Int)<=(0:Int)/\0<=l.length/\(↑l.length:Int)=(↑l.length:Int)/\eqT (List Ty) l l/\l.length<=4000000000)) (ifB
 ((drop 0 (range l.length)).all (Dq l)) (ifT (decide ((0:Int)<=(0:Int)/\0<l.length/\l.length<=4000000000)) (ifT (decide
 (Aj (take (t2L l 0).kids.length (drop 0 (t2L l 0).kids))+1<=1000000)) (some (V.b (decide ((↑(BK (take (t2L
 l 0).kids.length (drop 0 (t2L l 0).kids))+bif AB (t2L l 0).lab.1 then 1 else 0):Int)<=(5:Int))),[]))))
 nF)) nF))):_):=by kernel_rfl
theorem Ku {l:List Ty} {i:Nat} (h:Cf l i=true) {u:Int} (hu:AH l i=some u) (hlt:u<(i:Int)):Cf l (i+1)=true:=by
 unfold Cf at h ⊢
 rw [List.range_succ,List.all_append,h,Bool.true_and,all_cons,List.all_nil,Bool.and_true,hu]
 exact dcT hlt
theorem Q8 {l:List Ty} {i:Nat} (h:okT l i=true) : ∃ u,AH l i=some u/\u<(i:Int):=by
 unfold okT at h
 rw [anE] at h
 have h:=h.2
 by_cases hz:i=0
 ·subst hz
  rw [if_pos rfl] at h
  simp only [anE,dcE] at h
  exact ⟨-1,h.1.1.1.2,by omega⟩
 ·rw [if_neg hz] at h
  unfold CY at h
  cases hu:AH l i with
  | none=>rw [hu] at h; cases h
  | some u=>
   rw [hu] at h
   simp only [anE,dcE] at h
   exact ⟨u,rfl,h.1.1.1.2⟩
theorem OF (l:List Ty) (hl:l.length<=4000000000) (hn:nmL l=true) (i:Nat) (hi:i<l.length) (hs:Cf l i=true) :
  AG prog IT (Ab [(4,E6),(12,Fy)]) 0 (body f13 0) E6 ([.ptr 0 0,.sl TCd l,.j (l.length:Int),.j (i:Int)],[some (.box [.sl TCd l])])=some (bif okT l i then (.normal,([.ptr 0 0,.sl TCd l,.j (l.length:Int),.j ((i+1:Nat):Int)],[some (.box [.sl TCd l])])) else (.ret,([.b false],[]))):=by
 have hM:=mxI
 have hr:=HX l l l.length i
 dsimp only [shr] at hr
 rw [Ag (dcT (by omega)),T2 (by omega)] at hr
 simp only [ntN,gtE hi,Aq,AM (n:=i) (by omega)] at hr
 refine hr.trans ?_
 clear hr
 have hc:(decide ((0:Int)<=(i:Int)/\i<l.length/\l.length<=4000000000)&&Cf l i&&nmL l)=true:=by
  rw [hs,hn,dcT (show (0:Int)<=(i:Int)/\i<l.length/\l.length<=4000000000 from ⟨by omega,hi,hl⟩)]; rfl
 rw [hc]
 have hkm:kmB (As l i)=(decide (1<=l[i].1/\l[i].1<=5)&&(bif l[i].1==3 then decide (0<=l[i].2.2.2.2.2.1/\l[i].2.2.2.2.2.1<=20) else l[i].2.2.2.2.2.1==0)):=by
  rw [ES hi]
  unfold kmB
  dsimp only
  by_cases h3:l[i].1=3
  ·rw [if_pos h3,h3]; rfl
  ·rw [if_neg h3,beq_false_of_ne h3]; rfl
 unfold okT
 rw [hkm]
 unfold bne
 by_cases hz:i=0
 ·subst hz
  have hu:decide (AH l 0=some (-1))=(l[0].2.2.2.2.1==-1):=by
   unfold AH
   rw [gtE hi]
   by_cases h1:l[0].2.2.2.2.1 = -1
   ·rw [map_some,h1]; simp
   ·rw [beq_false_of_ne h1]; exact dcF (fun h=>h1 (Option.some.inj h))
  rw [if_pos rfl,ES hi,hu]
  simp only [show (((0:Nat):Int)==0)=true from rfl,show decide (((0:Nat):Int)>0)=false from rfl]
  have hnil:(l[0].2.1==([]:By))=(l[0].2.1==Al UInt8):=rfl
  rw [hnil]
  generalize decide (1<=l[0].1/\l[0].1<=5)=K
  generalize (l[0].1==3)=c3
  generalize (l[0].1==5)=c5
  generalize decide (0<=l[0].2.2.2.2.2.1/\l[0].2.2.2.2.2.1<=20)=M
  generalize (l[0].2.2.2.2.2.1==0)=m0
  generalize (l[0].2.2.2.2.1==-1)=u0
  generalize (l[0].2.1==Al UInt8)=nm
  generalize (l[0].2.2.1==0)=no
  generalize l[0].2.2.2.1=mu
  cases K<;>cases c3<;>cases c5<;>cases M<;>cases m0<;>cases u0<;>cases nm<;>cases no<;>cases mu<;>rfl
 ·rw [if_neg hz]
  have h0:((i:Int)==0)=false:=beq_false_of_ne (by omega)
  have h1:decide ((i:Int)>0)=true:=dcT (by omega)
  rw [h0,h1]
  generalize decide (1<=l[i].1/\l[i].1<=5)=K
  generalize (l[i].1==3)=c3
  generalize decide (0<=l[i].2.2.2.2.2.1/\l[i].2.2.2.2.2.1<=20)=M
  generalize (l[i].2.2.2.2.2.1==0)=m0
  generalize CY l i=p
  cases K<;>cases c3<;>cases M<;>cases m0<;>cases p<;>rfl
theorem K5 {n i:Nat} (h:i<n):(range n).drop i=i::(range n).drop (i+1):=by
 rw [drop_eq_getElem_cons (by simpa using h)]; simp
theorem Ka (l:List Ty) (hl:l.length<=4000000000) (hn:nmL l=true) : ∀ (j i:Nat),i+j=l.length->Cf l i=true->∀ ex d,(Br.br (((range l.length).drop i).all (okT l)) (.leaf (.exit 0,([.ptr 0 0],[some (.box [.sl TCd l])]))) (.leaf (.ret,([.b false],[]))):Br (Ex×Dt)).run=some (ex,d)->
  Runs prog IT (Ab [(4,E6),(12,Fy)]) 0 (body f13 0) E6 ([.ptr 0 0,.sl TCd l,.j (l.length:Int),.j (i:Int)],[some (.box [.sl TCd l])]) ex d
 | 0,i,hi,hs,ex,d,h=>by
  have hr:=HX l l l.length i
  dsimp only [shr] at hr
  rw [Af (dcF (by omega))] at hr
  have e1:(range l.length).drop i=[]:=drop_eq_nil_of_le (by simp; omega)
  rw [e1] at h
  obtain ⟨rfl,rfl⟩:=lfP h
  exact stp hr
 | j+1,i,hi,hs,ex,d,h=>by
  have hr:=OF l hl hn i (by omega) hs
  rw [K5 (by omega),all_cons] at h
  cases hk:okT l i with
  | true=>
   rw [hk,cond_true] at hr
   rw [hk,Bool.true_and] at h
   obtain ⟨u,hu,hlt⟩:=Q8 hk
   exact sts hr (Ka l hl hn j (i+1) (by omega) (Ku hs hu hlt) ex d h)
  | false=>
   rw [hk,cond_false] at hr
   rw [hk,Bool.false_and] at h
   obtain ⟨rfl,rfl⟩:=lfP h
   exact stp hr
theorem QR : ∀ d e d',(E6.L d).run=some (e,d')->Runs prog IT (Ab [(4,E6),(12,Fy)]) 0 (body f13 0) E6 d e d':=fun d ex d' h=>by
 unfold E6 at h
 dsimp only at h
 split at h
 ·rename_i q m i l
  obtain ⟨hc,hx⟩:=Ae h
  clear h
  rw [anE,anE] at hc
  obtain ⟨⟨hc,hn⟩,hs⟩:=hc
  obtain ⟨h0,h1,rfl,h3,h4⟩:=of_decide_eq_true hc
  have h3:q=l:=h3
  subst h3
  obtain ⟨i,rfl⟩:=eq_ofNat_of_zero_le h0
  simp only [ntN] at h1 hs hx
  exact Ka _ h4 hn _ i (Nat.add_sub_of_le h1) hs ex d' hx
 ·cases h
theorem QQ : ∀ d e d',(Fy.L d).run=some (e,d')->Runs prog IT (Ab [(4,E6),(12,Fy)]) 0 (body f13 1) Fy d e d':=fun d ex d' h=>by
 unfold Fy at h
 dsimp only at h
 split at h
 ·rename_i q m i l
  obtain ⟨hc,hx⟩:=Ae h
  clear h
  obtain ⟨h0,h1,rfl,h3,h4⟩:=of_decide_eq_true hc
  have h3:q=l:=h3
  subst h3
  obtain ⟨i,rfl⟩:=eq_ofNat_of_zero_le h0
  simp only [ntN] at h1 hx
  have hM:=mxI
  refine Ef (l:=range q.length) (Dq q) (fun i=>([.ptr 0 0,.sl TCd q,.j (q.length:Int),.j (i:Int)],[some (.box [.sl TCd q])])) (ex:=(.exit 2,([.ptr 0 0],[some (.box [.sl TCd q])]))) (rt:=(.ret,([.b false],[]))) (by simp) (by simp) (fun n hn=>?_) ?_ (q.length-i) i (by simp; omega) ex d' hx
  ·have hn:n<q.length:=by simpa using hn
   have hr:=HW q q q.length n
   rw [Ag (dcT (by omega)),T2 (by omega)] at hr
   simp only [ntN,gtE hn,Aq,AM (n:=n) (by omega)] at hr
   refine hr.trans ?_
   rw [Aa (dcT ⟨by omega,hn,h4⟩),List.getElem_range]
   have e1:(((Bb q n).length:Int) != 1)=((Bb q n).length != 1):=by
    by_cases h:(Bb q n).length=1
    ·rw [h]; rfl
    ·have h2:((Bb q n).length:Int)≠1:=by omega
     unfold bne
     rw [beq_false_of_ne h,beq_false_of_ne h2]
   rw [e1]
   unfold Dq
   rw [ES hn]
   dsimp only
   cases q[n].1==4<;>cases (Bb q n).length != 1<;>rfl
  ·have hr:=HW q q q.length q.length
   rw [Af (dcF (by omega))] at hr
   simp only [List.length_range]
   exact hr
 ·cases h
theorem RD:A6 prog IT (Ab [(4,E6),(12,Fy)]) 0 (f13.body.getD .skip):=
 LoopsI.loops (.cons (a:=body f13 0) (by kernel_rfl) QR (.cons (a:=body f13 1) (by kernel_rfl) QQ .nil)) (by kernel_rfl)
theorem QP (l:List Ty) (h1:l.length<=4000000000) (hn:nmL l=true):Bv prog IT (Ab [(4,E6),(12,Fy)]) f13 [.agg [.sl TCd l]] []=some (.b (AX l),[]):=by
 rw [PR,<- (IF l).1]
 have hq:=IF l
 have hu0:Cf l 0=true:=rfl
 have d0:decide ((0:Int)<=0/\0<=l.length/\(l.length:Int)=(l.length:Int)/\eqT (List Ty) l l/\l.length<=4000000000)=true:=dcT ⟨by omega,by omega,rfl,rfl,h1⟩
 rw [d0,hn,hu0,drop_zero,drop_zero,take_length]
 have hle:decide (1<=(l.length:Int)/\(l.length:Int)<=30)=decide (1<=l.length/\l.length<=30):=decide_eq_decide.2 (by omega)
 rw [hle]
 have hdp:BK (t2L l 0).kids+(bif AB (t2L l 0).lab.1 then 1 else 0)=Bp (t2L l 0):=HE _
 have hd5:decide ((Bp (t2L l 0):Int)<=5)=decide (Bp (t2L l 0)<=5):=decide_eq_decide.2 (by omega)
 rw [hdp,hd5]
 unfold Ha
 cases a1:decide (1<=l.length/\l.length<=30) with
 | false=>rfl
 | true=>
  have a1:=of_decide_eq_true a1
  cases a2:(range l.length).all (okT l) with
  | false=>rfl
  | true=>
   have H:=Jy (by omega) a2
   have he:=H.end' (by omega)
   have hc:=KX (l:=l) (a:=0) (by omega)
   have hk:=D4 (t2L l 0)
   rw [he.1,he.2] at hc
   have d1:decide ((0:Int)<=0/\0<l.length/\l.length<=4000000000)=true:=dcT ⟨by omega,by omega,h1⟩
   have d2:decide (Aj (t2L l 0).kids+1<=1000000)=true:=dcT (by omega)
   rw [d1,d2]
   cases (range l.length).all (Dq l)<;>rfl
theorem Qc:Ad prog 13 (Ent.rd1 LY).F:=by
 refine fcK (kc func30 QD (kc func31 QC (kc func32 Ou (kc func15 Ot (kc func33 Ri KnowsL.nil))))).knows (Λ:=(Ab [(4,E6),(12,Fy)])) func13 fun vs bs r hq=>?_
 unfold Ent.F LY at hq
 dsimp only at hq
 split at hq
 ·rename_i l
  obtain ⟨hc,hx⟩:=Ae hq
  rw [anE] at hc
  exact ⟨RD,(QP l (of_decide_eq_true hc.1) hc.2).trans hx⟩
 ·cases hq
abbrev Nd:=Int×By×Int×Int×Bool×Unit


theorem EK {k:Int} {z:Rose Lab} : ∀ {l:RL},Bz k l=true->z∈l->Ao z=true
 | [],_,h=>by cases h
 | y::l,hn,h=>by
  rw [Bz,anE,anE] at hn
  rcases mem_cons.1 h with rfl | h
  ·exact hn.1.2
  ·exact EK hn.2 h
theorem CF {z:Rose Lab} (h:Ao z=true):Bo z.lab z.kids=true/\Bz z.lab.1 z.kids=true:=by
 cases z
 rw [Ao,anE] at h
 exact h

theorem JQ {l:List Ty} (h:AX l=true):Ak (kf l 0).1<=1000000/\Ao (kf l 0).1=true:=by
 unfold AX at h
 simp only [anE,dcE] at h
 obtain ⟨⟨⟨h1,_⟩,h3⟩,h4⟩:=h
 have hl:0<l.length:=by omega
 have hc:=KX hl
 have hb:=EV l 0 hl
 refine ⟨by omega,?_⟩
 unfold B5 at h4
 simp only [anE] at h4
 exact h4.1.1.2


def byR (n:Int):RL->Rose Lab
 | []=>.node (0,[],0,false,0,()) []
 | z::l=>if z.lab.2.2.1=n then z else byR n l
def JY (n:Int) (l:RL):Bool:=l.any fun z=>z.lab.2.2.1==n

def hd0:RL->Rose Lab
 | []=>.node (0,[],0,false,0,()) []
 | z::_=>z
theorem HD (z:Rose Lab):Rose.node (z.lab.1,z.lab.2.1,z.lab.2.2.1,z.lab.2.2.2.1,z.lab.2.2.2.2.1,()) z.kids=z:=by
 obtain ⟨⟨_,_,_,_,_,⟨⟩⟩,ks⟩:=z; rfl
theorem C5 {x:Lab} {ks:RL} (h:Bo x ks=true):x.1=1\/x.1=2\/x.1=3\/(x.1=4/\ks.length=1)\/x.1=5:=by
 unfold Bo at h
 split at h
 ·rename_i q; omega
 ·split at h
  ·rename_i q; omega
  ·split at h
   ·rename_i q
    rw [anE] at h
    exact .inr (.inr (.inr (.inl ⟨q,by simpa using h.2⟩)))
   ·split at h
    ·cases h
    ·rename_i q; omega
instance decNd0:DecidableEq (Int×Bool×Unit):=inferInstance
instance decNd:DecidableEq Nd:=inferInstance


theorem Rw {l:List Ty} (h:AX l=true):0<l.length/\Ak (t2L l 0)<=1000000/\Ao (t2L l 0)=true/\(kf l 0).1=t2L l 0:=by
 have e:=(IF l).2 h
 have f:=JQ h
 rw [e] at f
 refine ⟨?_,f.1,f.2,e⟩
 unfold AX at h
 simp only [anE,dcE] at h
 omega


def KR (y z:Rose Lab):Prop:=y.lab.2.2.1<z.lab.2.2.1























mutual
def At:Rose Lab->Int->Nat->List Ty
 | .node x ks,up,s=>(x.1,x.2.1,x.2.2.1,x.2.2.2.1,up,x.2.2.2.2.1,())::AK ks s (s+1)
def AK:RL->Nat->Nat->List Ty
 | [],_,_=>[]
 | z::ks,s,p=>At z s p++AK ks s (p+(At z s p).length)
end
mutual
theorem BN : ∀ (z:Rose Lab) (up:Int) (s:Nat),(At z up s).length=Ak z
 | .node x ks,up,s=>by rw [At,Ak,length_cons,GA ks s (s+1)]
theorem GA : ∀ (ks:RL) (s p:Nat),(AK ks s p).length=Aj ks
 | [],_,_=>by rw [AK,Aj]; rfl
 | z::ks,s,p=>by rw [AK,Aj,List.length_append,BN z s p,GA ks s]
end
theorem Dw (z:Rose Lab) (up:Int) (s:Nat):At z up s=(z.lab.1,z.lab.2.1,z.lab.2.2.1,z.lab.2.2.2.1,up,z.lab.2.2.2.2.1,())::AK z.kids s (s+1):=by cases z; rw [At]; rfl


def Ci (l:List Ty):Nat->List Ty->Prop
 | _,[]=>True
 | s,x::w=>l[s]? = some x/\Ci l (s+1) w
def J2 (l:List Ty) (s e:Nat):Prop:=∀ j:Nat,s<=j->AH l e≠some (j:Int)
theorem FR {l:List Ty} : ∀ {a:List Ty} {s:Nat} {b:List Ty},Ci l s (a++b)↔Ci l s a/\Ci l (s+a.length) b
 | [],s,b=>by simp [Ci]
 | x::a,s,b=>by
  rw [cons_append,Ci,Ci,FR,length_cons,and_assoc,show s+1+a.length=s+(a.length+1) by omega]
theorem HK {l:List Ty} {s p t:Nat} {ks:RL} (hl:Ci l p (AK ks s p)) (he:J2 l s (p+Aj ks)) (hst:s<t):J2 l t p:=by
 cases ks with
 | nil=>intro j hj; rw [Aj] at he; exact he j (by omega)
 | cons z ks=>
  rw [AK,Dw,cons_append,Ci] at hl
  intro j hj hu
  unfold AH at hu
  rw [hl.1,map_some] at hu
  have:=Option.some.inj hu
  dsimp only at this
  omega
mutual
theorem IY (l:List Ty) : ∀ (z:Rose Lab),Ao z=true->∀ (up:Int) (s:Nat),Ci l s (At z up s)->J2 l s (s+Ak z)->kf l s=(z,s+Ak z)
 | .node x ks,hr,up,s,hl,he=>by
  obtain ⟨hp,hrr⟩:=CF hr
  have hp:Bo x ks=true:=hp
  have hrr:Bz x.1 ks=true:=hrr
  rw [At,Ci] at hl
  have hs:s<l.length:=by
   by_cases h:s<l.length
   ·exact h
   ·rw [getElem?_eq_none (by omega)] at hl; cases hl.1
  have hlab:As l s=x:=by unfold As; rw [hl.1]
  rw [Ak] at he ⊢
  rw [LT hs,hlab]
  cases hh:AB x.1 with
  | true=>
   have:=Gc l ks (fun z hz=>EK hrr hz) s (s+1) (by omega) hl.2 (by rw [show s+1+Aj ks=s+(Aj ks+1) by omega]; exact he) l.length [] (by omega)
   rw [cond_true,this,nil_append,show s+1+Aj ks=s+(Aj ks+1) by omega]
  | false=>
   have h0:ks=[]:=by
    have hk:=C5 hp
    unfold Bo at hp
    unfold AB at hh
    rw [Bool.or_eq_false_iff,beq_eq_false_iff_ne,beq_eq_false_iff_ne] at hh
    split at hp
    ·rw [anE] at hp; simpa using hp.2
    ·split at hp
     ·rw [anE] at hp; simpa using hp.2
     ·omega
   subst h0
   rw [cond_false,Aj]
theorem Gc (l:List Ty) : ∀ (ks:RL),(∀ z∈ks,Ao z=true)->∀ (s p:Nat),s<p->Ci l p (AK ks s p)->J2 l s (p+Aj ks)->∀ (n:Nat) (acc:RL),l.length-p<=n->Bf (kf l) l s n p acc=(acc++ks,p+Aj ks)
 | [],_,s,p,_,_,he,n,acc,_=>by
  rw [Aj] at he ⊢
  rw [Nat.add_zero] at he ⊢
  rw [GX (he s (Nat.le_refl _)),append_nil]
 | z::ks,hr,s,p,hsp,hl,he,n,acc,hn=>by
  rw [AK,FR,BN] at hl
  rw [Aj,<-add_assoc] at he ⊢
  have hz:=hr z mem_cons_self
  have hk:=IY l z hz s p hl.1 (HK hl.2 he hsp)
  have hu:AH l p=some (s:Int):=by
   have:=hl.1
   rw [Dw,Ci] at this
   unfold AH
   rw [this.1]; rfl
  have hpl:=Ff hu
  have hb:=EV l p hpl
  obtain ⟨n,rfl⟩ : ∃ m,n=m+1:=⟨n-1,by omega⟩
  rw [hk] at hb
  dsimp only at hb
  rw [Bf,if_pos hu,hk]
  dsimp only
  rw [Gc l ks (fun w hw=>hr w (mem_cons_of_mem _ hw)) s (p+Ak z) (by omega) hl.2 he n _ (by omega),append_assoc]
  rfl
end
theorem ER (v:List Ty) : ∀ (w pre:List Ty),v=pre++w->Ci v pre.length w
 | [],pre,h=>by rw [Ci]; trivial
 | x::w,pre,h=>by
  rw [Ci]
  refine ⟨by rw [h,List.getElem?_append_right (Nat.le_refl _)]; simp,?_⟩
  have:=ER v w (pre++[x]) (by rw [h]; simp)
  rw [List.length_append] at this
  exact this
theorem Lg {z:Rose Lab} (h:B5 z=true):AX (At z (-1) 0)=true/\(kf (At z (-1) 0) 0).1=z:=by
 have hg:=h
 unfold B5 at hg
 simp only [anE,dcE] at hg
 obtain ⟨⟨⟨_,hr⟩,_⟩,hc⟩:=hg
 have hlen:=BN z (-1) 0
 have hoff:J2 (At z (-1) 0) 0 (0+Ak z):=fun j _ hu=>by
  have:=Ff hu
  omega
 have hk:=IY (At z (-1) 0) z hr (-1) 0 (ER _ _ [] rfl) hoff
 have hp:=CL z
 have hu:AH (At z (-1) 0) 0=some (-1):=by rw [Dw]; rfl
 unfold AX
 rw [hk,h,hu,hlen,dcT (show 1<=Ak z/\Ak z<=30 from ⟨hp,hc⟩)]
 exact ⟨by simp,rfl⟩

theorem Kh {n:Int} {u:Rose Lab} : ∀ {us:RL},us.Pairwise KR->u∈us->u.lab.2.2.1=n->byR n us=u
 | [],_,h,_=>by cases h
 | w::us,hp,h,hn=>by
  rw [pairwise_cons] at hp
  rw [byR]
  rcases mem_cons.1 h with e | h
  ·subst e; rw [if_pos hn]
  ·have:w.lab.2.2.1<u.lab.2.2.1:=hp.1 u h
   rw [if_neg (by omega)]
   exact Kh hp.2 h hn
theorem LQ {z:Rose Lab} (h:Ao z=true) (h5:z.lab.1=5):z.kids.Pairwise KR:=by
 obtain ⟨hp,_⟩:=CF h
 unfold Bo at hp
 rw [if_neg (by omega),if_neg (by omega),if_neg (by omega)] at hp
 split at hp
 ·cases hp
 ·exact ((J7 _).1 hp).imp fun h=>h.1


def unf (n:Int):Int:=if n % 2=1 then -((n+1) / 2) else n / 2












theorem Dg {k:Int} : ∀ {ks:RL},Bz k ks=true->∀ z∈ks,C6 k z.lab=true/\Ao z=true
 | y::ks,h,z,hz=>by
  rw [Bz,anE,anE] at h
  rcases mem_cons.1 hz with rfl | hz
  ·exact h.1
  ·exact Dg h.2 z hz

theorem K3 {z:Rose Lab} (h:Ao z=true):Bo z.lab z.kids=true/\Bz z.lab.1 z.kids=true:=by
 obtain ⟨x,ks⟩:=z
 rw [Ao,anE] at h
 exact h
theorem Lh {z:Rose Lab} (h:B5 z=true):z.lab.1=5/\Ao z=true/\Ak z<=30:=by
 unfold B5 at h
 simp only [anE,dcE,beq_iff_eq] at h
 exact ⟨h.1.1.1.1.1.1,h.1.1.2,h.2⟩








mutual
def Jd:Rose Lab->Rose Lab->Bool
 | .node y ks,a=>if a.lab.1≠y.1\/y.2.2.2.2.1<a.lab.2.2.2.2.1 then false else if y.1=4 then Nt ks a.kids else Ky a.kids ks
def Nt:RL->RL->Bool
 | [],_=>true
 | p::_,zs=>Jd p (hd0 zs)
def Ky (zs:RL):RL->Bool
 | []=>true
 | p::ks=>(JY p.lab.2.2.1 zs&&((!p.lab.2.2.2.1||(byR p.lab.2.2.1 zs).lab.2.2.2.1)&&Jd p (byR p.lab.2.2.1 zs)))&&Ky zs ks
end


theorem OY (b a:Rose Lab):Jd b a=if a.lab.1≠b.lab.1\/b.lab.2.2.2.2.1<a.lab.2.2.2.2.1 then false else if b.lab.1=4 then Nt b.kids a.kids else Ky a.kids b.kids:=by
 obtain ⟨y,ks⟩:=b
 rw [Jd]; rfl
theorem Mz {z:Rose Lab} (h:Ao z=true):z.kids.all Ao=true:=all_eq_true.2 fun y hy=>(Dg (K3 h).2 y hy).2
def zR:Rose Lab:=.node (0,[],0,false,0,()) []
def noR (z:Rose Lab):Int:=z.lab.2.2.1
def kK (n:Int):RL->Nat
 | []=>0
 | y::o=>if noR y<n then kK n o+1 else 0
def AE (o:RL) (z:Rose Lab):RL:=o.take (kK (noR z) o)++z::o.drop (kK (noR z) o)
def C4 (o l:RL):RL:=l.foldl AE o
mutual
def hoR:Rose Lab->Bool
 | .node x ks=>(AB x.1||ks.isEmpty)&&hoL ks
def hoL:RL->Bool
 | []=>true
 | z::l=>hoR z&&hoL l
end
theorem Jr (z y:Rose Lab) (o:RL):AE (y::o) z=if noR y<noR z then y::AE o z else z::y::o:=by
 unfold AE
 rw [kK]
 split
 ·rw [List.take_succ_cons,List.drop_succ_cons,cons_append]
 ·rfl
theorem L6 (z:Rose Lab):AE [] z=[z]:=rfl
theorem O6 (n:Int) : ∀ o:RL,kK n o<=o.length
 | []=>Nat.le_refl _
 | y::o=>by
  have:=O6 n o
  rw [kK,length_cons]
  split<;>omega
theorem Iq {z x:Rose Lab} {o:RL}:x∈AE o z↔x=z\/x∈o:=by
 have h:x∈o↔x∈o.take (kK (noR z) o)\/x∈o.drop (kK (noR z) o):=by rw [<-mem_append,List.take_append_drop]
 unfold AE
 rw [mem_append,mem_cons,h]
 constructor
 ·rintro (h | h | h)
  ·exact .inr (.inl h)
  ·exact .inl h
  ·exact .inr (.inr h)
 ·rintro (h | h | h)
  ·exact .inr (.inl h)
  ·exact .inl h
  ·exact .inr (.inr h)
theorem NN {z:Rose Lab} : ∀ {o:RL},o.Pairwise KR->(∀ y∈o,noR y≠noR z)->(AE o z).Pairwise KR
 | [],_,_=>by rw [L6]; simp
 | y::o,hp,hn=>by
  rw [pairwise_cons] at hp
  rw [Jr]
  have hy:=hn y mem_cons_self
  split
  ·rename_i q
   rw [pairwise_cons]
   refine ⟨fun x hx=>?_,NN hp.2 fun x hx=>hn x (mem_cons_of_mem _ hx)⟩
   rcases Iq.1 hx with rfl | hx
   ·exact q
   ·exact hp.1 x hx
  ·rename_i q
   rw [pairwise_cons,pairwise_cons]
   refine ⟨fun x hx=>?_,hp.1,hp.2⟩
   have q2:noR z<noR y:=by omega
   rcases mem_cons.1 hx with rfl | hx
   ·exact q2
   ·have:=hp.1 x hx
    unfold KR noR at *
    omega
theorem Eg {x:Rose Lab} : ∀ {l o:RL},x∈C4 o l↔x∈o\/x∈l
 | [],o=>by unfold C4; simp
 | z::l,o=>by
  show x∈C4 (AE o z) l↔_
  rw [Eg,Iq,mem_cons]
  constructor
  ·rintro ((h | h) | h)
   ·exact .inr (.inl h)
   ·exact .inl h
   ·exact .inr (.inr h)
  ·rintro (h | h | h)
   ·exact .inl (.inr h)
   ·exact .inl (.inl h)
   ·exact .inr h
def NR (a b:Rose Lab):Prop:=noR a≠noR b
theorem L5 : ∀ {l o:RL},o.Pairwise KR->l.Pairwise NR->(∀ z∈l,∀ y∈o,noR y≠noR z)->(C4 o l).Pairwise KR
 | [],o,ho,_,_=>ho
 | z::l,o,ho,hl,hd=>by
  rw [pairwise_cons] at hl
  show (C4 (AE o z) l).Pairwise KR
  refine L5 (NN ho (hd z mem_cons_self)) hl.2 fun y hy x hx=>?_
  rcases Iq.1 hx with rfl | hx
  ·exact hl.1 y hy
  ·exact hd y (mem_cons_of_mem _ hy) x hx
theorem O0 : ∀ (a b:RL),a.Pairwise KR->b.Pairwise KR->(∀ x,x∈a↔x∈b)->a=b
 | [],[],_,_,_=>rfl
 | [],y::b,_,_,h=>absurd ((h y).2 mem_cons_self) (by simp)
 | x::a,[],_,_,h=>absurd ((h x).1 mem_cons_self) (by simp)
 | x::a,y::b,ha,hb,h=>by
  rw [pairwise_cons] at ha hb
  have e:x=y:=by
   rcases mem_cons.1 ((h x).1 mem_cons_self) with e | e
   ·exact e
   ·rcases mem_cons.1 ((h y).2 mem_cons_self) with e2 | e2
    ·exact e2.symm
    ·have h1:=hb.1 x e
     have h2:=ha.1 y e2
     unfold KR at h1 h2
     omega
  subst e
  rw [O0 a b ha.2 hb.2 fun z=>⟨fun hz=>?_,fun hz=>?_⟩]
  ·rcases mem_cons.1 ((h z).1 (mem_cons_of_mem _ hz)) with e | e
   ·have h1:=ha.1 z hz
    subst e
    unfold KR at h1
    omega
   ·exact e
  ·rcases mem_cons.1 ((h z).2 (mem_cons_of_mem _ hz)) with e | e
   ·have h1:=hb.1 z hz
    subst e
    unfold KR at h1
    omega
   ·exact e
theorem PQ {n:Int} {l:RL}:JY n l=true↔∃ z∈l,noR z=n:=by
 unfold JY
 rw [List.any_eq_true]
 constructor
 ·rintro ⟨z,h1,h2⟩; exact ⟨z,h1,of_decide_eq_true h2⟩
 ·rintro ⟨z,h1,h2⟩; exact ⟨z,h1,dcT h2⟩
theorem RH {z:Rose Lab} {l:RL} {n:Int} (hl:l.Pairwise KR) (h:z∈l) (hn:noR z=n):JY n l=true/\byR n l=z:=⟨PQ.2 ⟨z,h,hn⟩,Kh hl h hn⟩
theorem PF {z:Rose Lab} (h:Ao z=true) (h4:z.lab.1≠4):z.kids.Pairwise KR:=by
 by_cases h5:z.lab.1=5
 ·exact LQ h h5
 ·have hp:=(CF h).1
  have:z.kids=[]:=by
   have hk:=C5 hp
   unfold Bo at hp
   split at hp
   ·rw [anE] at hp; simpa using hp.2
   ·split at hp
    ·rw [anE] at hp; simpa using hp.2
    ·omega
  rw [this]; exact .nil
theorem HT {z p:Rose Lab} (h:Ao z=true) (hp:p∈z.kids):Ao p=true:=all_eq_true.1 (Mz h) p hp
theorem Om {z:Rose Lab} (h:Ao z=true) (h4:z.lab.1=4) : ∃ p,z.kids=[p]/\Ao p=true:=by
 have hp:=(CF h).1
 have hk:=C5 hp
 have hl:z.kids.length=1:=by omega
 obtain ⟨p,e⟩:=List.length_eq_one_iff.1 hl
 exact ⟨p,e,HT h (by rw [e]; exact mem_cons_self)⟩
theorem Je {zs:RL} : ∀ {ks:RL},Ky zs ks=true↔∀ p∈ks,JY (noR p) zs=true/\(p.lab.2.2.2.1=true->(byR (noR p) zs).lab.2.2.2.1=true)/\Jd p (byR (noR p) zs)=true
 | []=>by rw [Ky]; simp
 | p::ks=>by
  rw [Ky,anE,Je,List.forall_mem_cons,anE,anE]
  have e:noR p=p.lab.2.2.1:=rfl
  rw [e]
  cases p.lab.2.2.2.1<;>simp [and_assoc]
theorem Nr {b a:Rose Lab}:Jd b a=true↔a.lab.1=b.lab.1/\a.lab.2.2.2.2.1<=b.lab.2.2.2.2.1/\(if b.lab.1=4 then Nt b.kids a.kids else Ky a.kids b.kids)=true:=by
 rw [OY]
 by_cases h:a.lab.1≠b.lab.1\/b.lab.2.2.2.2.1<a.lab.2.2.2.2.1
 ·rw [if_pos h]
  constructor
  ·intro q; cases q
  ·rintro ⟨h1,h2,_⟩; omega
 ·rw [if_neg h]
  have h1:a.lab.1=b.lab.1:=by omega
  have h2:a.lab.2.2.2.2.1<=b.lab.2.2.2.2.1:=by omega
  exact ⟨fun q=>⟨h1,h2,q⟩,fun q=>q.2.2⟩
theorem Ns (p q:Rose Lab):Nt [p] [q]=Jd p q:=by rw [Nt]; rfl
theorem Jl {Q:Rose Lab->Prop} (h : ∀ z,(∀ p∈z.kids,Q p)->Q z) : ∀ z,Q z
 | .node x ks=>h _ fun p hp=>by
  have:Ak p<Ak (.node x ks:Rose Lab):=by have:=Cs hp; rw [Ak]; exact Nat.lt_succ_of_le this
  exact Jl h p
termination_by z=>Ak z
theorem Rg : ∀ z:Rose Lab,Ao z=true->Jd z z=true:=Jl fun z ih hr=>by
 refine Nr.2 ⟨rfl,Int.le_refl _,?_⟩
 by_cases h4:z.lab.1=4
 ·rw [if_pos h4]
  obtain ⟨p,e,hp⟩:=Om hr h4
  rw [e,Ns]
  exact ih p (by rw [e]; exact mem_cons_self) hp
 ·rw [if_neg h4]
  refine Je.2 fun p hp=>?_
  obtain ⟨h1,h2⟩:=RH (PF hr h4) hp rfl
  rw [h2]
  exact ⟨h1,id,ih p hp (HT hr hp)⟩
def J1 (l:RL):Bool:=decide (l.Pairwise fun a b=>noR a≠noR b)



def u8 (s:By):List Int:=s.map fun z=>((z.toNat:Nat):Int)






















theorem Me (z:Rose Lab) : ∀ o:RL,Aj (AE o z)=Ak z+Aj o
 | []=>by simp [L6,Aj]
 | y::o=>by
  rw [Jr]
  split
  ·rw [Aj,Me z o,Aj]; omega
  ·rw [Aj]
theorem Hj : ∀ l o:RL,Aj (C4 o l)=Aj o+Aj l
 | [],o=>by unfold C4; rw [Aj]; rfl
 | z::l,o=>by
  show Aj (C4 (AE o z) l)=_
  rw [Hj l,Me,Aj]; omega
mutual
theorem H9 (l:List Ty) : ∀ (z:Rose Lab),hoR z=true->∀ (up:Int) (s:Nat),Ci l s (At z up s)->J2 l s (s+Ak z)->kf l s=(z,s+Ak z)
 | .node x ks,hr,up,s,hl,he=>by
  rw [hoR,anE] at hr
  rw [At,Ci] at hl
  have hs:s<l.length:=by
   by_cases h:s<l.length
   ·exact h
   ·rw [getElem?_eq_none (by omega)] at hl; cases hl.1
  have hlab:As l s=x:=by unfold As; rw [hl.1]
  rw [Ak] at he ⊢
  rw [LT hs,hlab]
  cases hh:AB x.1 with
  | true=>
   have:=Fg l ks hr.2 s (s+1) (by omega) hl.2 (by rw [show s+1+Aj ks=s+(Aj ks+1) by omega]; exact he) l.length [] (by omega)
   rw [cond_true,this,nil_append,show s+1+Aj ks=s+(Aj ks+1) by omega]
  | false=>
   have h0:ks=[]:=by
    have h1:=hr.1
    rw [hh,Bool.false_or,List.isEmpty_iff] at h1
    exact h1
   subst h0
   rw [cond_false,Aj]
theorem Fg (l:List Ty) : ∀ (ks:RL),hoL ks=true->∀ (s p:Nat),s<p->Ci l p (AK ks s p)->J2 l s (p+Aj ks)->∀ (n:Nat) (acc:RL),l.length-p<=n->Bf (kf l) l s n p acc=(acc++ks,p+Aj ks)
 | [],_,s,p,_,_,he,n,acc,_=>by
  rw [Aj] at he ⊢
  rw [Nat.add_zero] at he ⊢
  rw [GX (he s (Nat.le_refl _)),append_nil]
 | z::ks,hr,s,p,hsp,hl,he,n,acc,hn=>by
  rw [hoL,anE] at hr
  rw [AK,FR,BN] at hl
  rw [Aj,<-add_assoc] at he ⊢
  have hk:=H9 l z hr.1 s p hl.1 (HK hl.2 he hsp)
  have hu:AH l p=some (s:Int):=by
   have:=hl.1
   rw [Dw,Ci] at this
   unfold AH
   rw [this.1]; rfl
  have hpl:=Ff hu
  have hb:=EV l p hpl
  obtain ⟨n,rfl⟩ : ∃ m,n=m+1:=⟨n-1,by omega⟩
  rw [hk] at hb
  dsimp only at hb
  rw [Bf,if_pos hu,hk]
  dsimp only
  rw [Fg l ks hr.2 s (p+Ak z) (by omega) hl.2 he n _ (by omega),append_assoc]
  rfl
end
theorem Mm {z:Rose Lab} (h:hoR z=true):AX (At z (-1) 0)=B5 z:=by
 have hlen:=BN z (-1) 0
 have hoff:J2 (At z (-1) 0) 0 (0+Ak z):=fun j _ hu=>by
  have:=Ff hu
  omega
 have hk:=H9 (At z (-1) 0) z h (-1) 0 (ER _ _ [] rfl) hoff
 have hp:=CL z
 have hu:AH (At z (-1) 0) 0=some (-1):=by rw [Dw]; rfl
 unfold AX
 rw [hk,hu,hlen]
 cases hg:B5 z with
 | false=>rw [Bool.and_false]
 | true=>
  have hc:=(Lh hg).2.2
  rw [dcT (show 1<=Ak z/\Ak z<=30 from ⟨hp,hc⟩)]; simp
theorem MR {z:Rose Lab} (h:B5 z=true):AX (At z (-1) 0)=true/\t2L (At z (-1) 0) 0=z:=by
 obtain ⟨h1,h2⟩:=Lg h
 exact ⟨h1,(Rw h1).2.2.2.symm.trans h2⟩
def BZ (b:UInt8):Bool:=b==32||b==10
def Be (b:UInt8):Bool:=decide (97<=b.toNat)&&decide (b.toNat<=122)
def An (b:UInt8):Bool:=decide (48<=b.toNat)&&decide (b.toNat<=57)
def skp (s:By) (a:Nat):Nat:=a+((s.drop a).takeWhile BZ).length
def nxt (s:By) (a:Nat):UInt8:=(s[a]?).getD 0
def mk (b:UInt8) (s:By) (a:Nat):Option Nat:=if nxt s (skp s a)=b then some (skp s (skp s a+1)) else none
def DF (s:By) (a:Nat):Nat:=if nxt s a≠48/\An (nxt s (a+1))=true then 10*((nxt s a).toNat-48)+((nxt s (a+1)).toNat-48) else (nxt s a).toNat-48
def AV (s:By) (a:Nat):Nat:=if nxt s a≠48/\An (nxt s (a+1))=true then a+2 else a+1
def Cn (s:By) (a:Nat):Option (Nat×Nat):=if An (nxt s a)=true/\An (nxt s (AV s a))=false then some (DF s a,AV s a) else none
def AZ (s:By) (a:Nat):Nat:=((s.drop a).takeWhile Be).length
def hdP (s:By) (a:Nat):Option (By×Nat×Bool×Nat):=
 let a:=skp s a
 if AZ s a=0\/10<AZ s a then none else
 match mk 58 s (a+AZ s a) with
 | none=>none
 | some b=>match Cn s b with
  | none=>none
  | some (n,q)=>
   let r:=skp s q
   if nxt s r=33 then (if skp s (r+1)=r+1/\Be (nxt s (r+1))=true then none else some ((s.drop a).take (AZ s a),n,true,skp s (r+1)))
   else if r=q/\Be (nxt s r)=true then none else some ((s.drop a).take (AZ s a),n,false,r)
def B6:By->By->Nat->Nat
 | [],_,_=>0
 | b::w,s,a=>if nxt s a=b then B6 w s (a+1)+1 else 0
def AQ (w s:By) (a:Nat):Bool:=decide (B6 w s a=w.length)
def CS:By:=[110,117,109]
def BH:By:=[116,101,120,116]
def AA:By:=[101,110,117,109]
mutual
def pT:Nat->By->Nat->Option (Rose Lab×Nat×Bool)
 | 0,_,_=>none
 | n+1,s,a=>
  if AQ CS s a=true then some (.node (1,[],0,false,0,()) [],a+3,true)
  else if AQ BH s a=true then some (.node (2,[],0,false,0,()) [],a+4,true)
  else if AQ AA s a=true then (match mk 40 s (a+4) with
   | none=>none
   | some b=>match Cn s b with
    | none=>none
    | some (v,q)=>match mk 41 s q with
     | none=>none
     | some e=>some (.node (3,[],0,false,(v:Int),()) [],e,true))
  else if nxt s a=91 then (match pT n s (skp s (a+1)) with
   | none=>none
   | some (z,q,ok)=>match mk 93 s q with
    | none=>none
    | some e=>some (.node (4,[],0,false,0,()) [z],e,ok))
  else if nxt s a=123 then pM n s (skp s (a+1))
  else none
def pM:Nat->By->Nat->Option (Rose Lab×Nat×Bool)
 | 0,_,_=>none
 | n+1,s,a=>if nxt s a=125 then some (.node (5,[],0,false,0,()) [],skp s (a+1),true)
  else match pL n s a with
   | none=>none
   | some (l,e,ok)=>some (.node (5,[],0,false,0,()) (C4 [] l),e,ok&&J1 l)
def pL:Nat->By->Nat->Option (RL×Nat×Bool)
 | 0,_,_=>none
 | n+1,s,a=>match hdP s a with
  | none=>none
  | some (nm,no,mu,b)=>match pT n s b with
   | none=>none
   | some (z,q,ok)=>
    if nxt s (skp s q)=125 then some ([.node (z.lab.1,nm,(no:Int),mu,z.lab.2.2.2.2.1,()) z.kids],skp s (skp s q+1),ok)
    else if nxt s (skp s q)=44 then (match pL n s (skp s (skp s q+1)) with
     | none=>none
     | some (l,e,ok2)=>some (.node (z.lab.1,nm,(no:Int),mu,z.lab.2.2.2.2.1,()) z.kids::l,e,ok&&ok2))
    else none
end
def pS (s:By):Option (Rose Lab×Bool):=match mk 123 s 0 with
 | none=>none
 | some a=>match pM 1000 s a with
  | none=>none
  | some (z,e,ok)=>if e=s.length then some (z,ok) else none
theorem AT (s:By) (a:Nat):a<=skp s a:=Nat.le_add_right _ _
theorem Bh {s:By} {a:Nat} (h:a<=s.length):skp s a<=s.length:=by
 have:=(List.takeWhile_sublist BZ (l:=s.drop a)).length_le
 rw [length_drop] at this
 unfold skp; omega
theorem Cp {s:By} {a:Nat} (h:BZ (nxt s a)=false):skp s a=a:=by
 unfold skp
 cases hs:s.drop a with
 | nil=>rfl
 | cons b l=>
  have:s[a]? = some b:=by rw [<-List.head?_drop,hs]; rfl
  unfold nxt at h
  rw [this] at h
  have h:BZ b=false:=h
  rw [List.takeWhile_cons,h]; rfl
theorem Co {s:By} {a:Nat} (h:BZ (nxt s a)=true):a<s.length/\skp s a=skp s (a+1):=by
 have hl:a<s.length:=by
  refine Classical.byContradiction fun hn=>?_
  unfold nxt at h
  rw [getElem?_eq_none (by omega)] at h
  cases h
 refine ⟨hl,?_⟩
 have hx:nxt s a=s[a]:=by unfold nxt; rw [gtE hl]; rfl
 rw [hx] at h
 unfold skp
 rw [drop_eq_getElem_cons hl,List.takeWhile_cons,h]
 simp only [if_true,length_cons]
 omega
theorem L4 (s:By) : ∀ (n a:Nat),s.length-a<=n->BZ (nxt s (skp s a))=false
 | 0,a,h=>by
  cases hb:BZ (nxt s a) with
  | true=>have:=(Co hb).1; omega
  | false=>rw [Cp hb,hb]
 | n+1,a,h=>by
  cases hb:BZ (nxt s a) with
  | true=>rw [(Co hb).2]; exact L4 s n (a+1) (by omega)
  | false=>rw [Cp hb,hb]
theorem AJ (s:By) (a:Nat):skp s (skp s a)=skp s a:=Cp (L4 s _ a (Nat.le_refl _))
theorem Ej {s:By} {a:Nat} (h:a<s.length):nxt s a=s[a]:=by unfold nxt; rw [gtE h]; rfl
theorem DE {s:By} {a:Nat} (h:s.length<=a):nxt s a=0:=by unfold nxt; rw [getElem?_eq_none h]; rfl
theorem AU {s:By} {a:Nat} (h:nxt s a≠0):a<s.length:=by
 refine Classical.byContradiction fun hn=>h (DE (by omega))
theorem G3 {b:UInt8} {s:By} {a e:Nat} (hb:b≠0) (_:a<=s.length) (h:mk b s a=some e):a<e/\e<=s.length/\skp s e=e/\nxt s (skp s a)=b/\e=skp s (skp s a+1):=by
 unfold mk at h
 split at h
 ·rename_i q
  have hl:=AU (s:=s) (a:=skp s a) (by rw [q]; exact hb)
  have h1:=AT s a
  have h2:=AT s (skp s a+1)
  have h3:=Bh (s:=s) (a:=skp s a+1) (by omega)
  cases h
  exact ⟨by omega,h3,AJ _ _,q,rfl⟩
 ·cases h
theorem IM {b:UInt8} (h:An b=true):b≠0:=by
 rintro rfl
 cases h
theorem QA {b:UInt8} (h:Be b=true):b≠0:=by
 rintro rfl
 cases h
theorem Iz {s:By} {a:Nat} (h:An (nxt s a)=true):a<s.length/\a<AV s a/\AV s a<=s.length:=by
 have h1:=AU (IM h)
 refine ⟨h1,?_,?_⟩
 ·unfold AV; split<;>omega
 ·unfold AV
  split
  ·rename_i q; have:=AU (IM q.2); omega
  ·omega
theorem J3 {s:By} {a n q:Nat} (h:Cn s a=some (n,q)):a<q/\q<=s.length/\n=DF s a/\q=AV s a/\An (nxt s a)=true/\An (nxt s q)=false:=by
 unfold Cn at h
 split at h
 ·rename_i c
  cases h
  have:=Iz c.1
  exact ⟨this.2.1,this.2.2,rfl,rfl,c.1,c.2⟩
 ·cases h
theorem I5 (s:By) (a:Nat) (h:a<=s.length):a+AZ s a<=s.length:=by
 have:=(List.takeWhile_sublist Be (l:=s.drop a)).length_le
 rw [length_drop] at this
 unfold AZ; omega
theorem ID {s:By} {a no b:Nat} {nm:By} {mu:Bool} (ha:a<=s.length) (h:hdP s a=some (nm,no,mu,b)):a+2<=b/\b<=s.length/\nm.length<=10/\skp s b=b:=by
 unfold hdP at h
 dsimp only at h
 have h1:=AT s a
 have h2:=Bh ha
 have h3:=I5 s (skp s a) h2
 split at h
 ·cases h
 ·rename_i hk
  split at h
  ·cases h
  ·rename_i p hm
   obtain ⟨m1,m2,m3,_⟩:=G3 (by decide) h3 hm
   split at h
   ·cases h
   ·rename_i n q hn
    obtain ⟨n1,n2,_⟩:=J3 hn
    have g1:=AT s q
    have g2:=Bh n2
    have hl:((s.drop (skp s a)).take (AZ s (skp s a))).length<=10:=by rw [List.length_take]; omega
    split at h
    ·rename_i e33
     have hlt:=AU (s:=s) (a:=skp s q) (by rw [e33]; decide)
     have g3:=AT s (skp s q+1)
     have g4:=Bh (s:=s) (a:=skp s q+1) (by omega)
     split at h
     ·cases h
     ·cases h
      exact ⟨by omega,g4,hl,AJ _ _⟩
    ·split at h
     ·cases h
     ·cases h
      exact ⟨by omega,g2,hl,AJ _ _⟩
theorem G0 : ∀ (w s:By) (a:Nat),B6 w s a<=w.length
 | [],_,_=>Nat.le_refl _
 | b::w,s,a=>by
  have:=G0 w s (a+1)
  rw [B6,length_cons]
  split<;>omega
theorem CX : ∀ {w s:By} {a:Nat},w.all (fun b=>b != 0)=true->a<=s.length->a+B6 w s a<=s.length
 | [],_,a,_,h=>h
 | b::w,s,a,hw,h=>by
  rw [all_cons,anE] at hw
  rw [B6]
  split
  ·rename_i q
   have h1:=AU (s:=s) (a:=a) (by rw [q]; simpa using hw.1)
   have:=CX (s:=s) (a:=a+1) hw.2 (by omega)
   omega
  ·omega
theorem FH {w s:By} {a:Nat} (hw:w.all (fun b=>b != 0)=true) (ha:a<=s.length) (h:AQ w s a=true):a+w.length<=s.length:=by
 have:=CX (s:=s) (a:=a) hw ha
 rw [of_decide_eq_true h] at this
 exact this
theorem KH {z:Rose Lab} (h:Bu z=true) {x:Lab} (hx:x.2.1.length<=10):Bu (.node x z.kids)=true:=by
 have hM:=mxI
 obtain ⟨y,ks⟩:=z
 rw [Bu,anE] at h ⊢
 exact ⟨dcT (by omega),h.2⟩
theorem Qi {z:Rose Lab} (h:hoR z=true) {x:Lab} (hx:x.1=z.lab.1):hoR (.node x z.kids)=true:=by
 obtain ⟨y,ks⟩:=z
 rw [hoR] at h ⊢
 rw [hx]; exact h
theorem IO (z:Rose Lab) (x:Lab):Ak (.node x z.kids)=Ak z:=by cases z; rw [Ak,Ak]; rfl
theorem OE {l:RL}:hoL l=true↔∀ z∈l,hoR z=true:=by
 induction l with
 | nil=>simp [hoL]
 | cons z l ih=>rw [hoL,anE,ih,List.forall_mem_cons]
theorem G2 {l:RL}:De l=true↔∀ z∈l,Bu z=true:=by
 induction l with
 | nil=>simp [De]
 | cons z l ih=>rw [De,anE,ih,List.forall_mem_cons]
theorem It : ∀ n:Nat,(∀ s a z e ok,a<=s.length->pT n s a=some (z,e,ok)->a<e/\e<=s.length/\Ak z<=e-a/\Bu z=true/\hoR z=true)/\(∀ s a z e ok,a<=s.length->pM n s a=some (z,e,ok)->a<e/\e<=s.length/\Ak z<=e-a/\Bu z=true/\hoR z=true)/\(∀ s a l e ok,a<=s.length->pL n s a=some (l,e,ok)->a<e/\e<=s.length/\Aj l+1<=e-a/\De l=true/\hoL l=true)
 | 0=>⟨fun s a z e ok _ h=>(by rw [pT] at h; cases h),fun s a z e ok _ h=>(by rw [pM] at h; cases h),fun s a z e ok _ h=>(by rw [pL] at h; cases h)⟩
 | n+1=>by
  obtain ⟨iT,iM,iL⟩:=It n
  have hM:=mxI
  have leaf : ∀ (x:Lab),x.2.1=[]->Ak (.node x []:Rose Lab)=1/\Bu (.node x []:Rose Lab)=true/\hoR (.node x []:Rose Lab)=true:=fun x hx=>by
   refine ⟨by rw [Ak,Aj],by rw [Bu,De,hx]; rfl,by rw [hoR,hoL]; simp⟩
  refine ⟨fun s a z e ok ha h=>?_,fun s a z e ok ha h=>?_,fun s a l e ok ha h=>?_⟩
  ·rw [pT] at h
   split at h
   ·rename_i hp
    have:a+3<=s.length:=FH (by rfl) ha hp
    cases h
    obtain ⟨l1,l2,l3⟩:=leaf (1,[],0,false,0,()) rfl
    exact ⟨by omega,by omega,by omega,l2,l3⟩
   ·split at h
    ·rename_i hp
     have:a+4<=s.length:=FH (by rfl) ha hp
     cases h
     obtain ⟨l1,l2,l3⟩:=leaf (2,[],0,false,0,()) rfl
     exact ⟨by omega,by omega,by omega,l2,l3⟩
    ·split at h
     ·rename_i hp
      have hl:a+4<=s.length:=FH (by rfl) ha hp
      split at h
      ·cases h
      ·rename_i b hb
       obtain ⟨b1,b2,_⟩:=G3 (by decide) hl hb
       split at h
       ·cases h
       ·rename_i v q hn
        obtain ⟨n1,n2,_⟩:=J3 hn
        split at h
        ·cases h
        ·rename_i e' he
         obtain ⟨e1,e2,_⟩:=G3 (by decide) n2 he
         cases h
         obtain ⟨l1,l2,l3⟩:=leaf (3,[],0,false,(v:Int),()) rfl
         exact ⟨by omega,e2,by omega,l2,l3⟩
     ·split at h
      ·rename_i h91
       have hlt:=AU (s:=s) (a:=a) (by rw [h91]; decide)
       have g1:=AT s (a+1)
       have g2:=Bh (s:=s) (a:=a+1) (by omega)
       split at h
       ·cases h
       ·rename_i z' q ok' ht
        obtain ⟨t1,t2,t3,t4,t5⟩:=iT s _ z' q ok' g2 ht
        split at h
        ·cases h
        ·rename_i e' he
         obtain ⟨e1,e2,_⟩:=G3 (by decide) t2 he
         cases h
         refine ⟨by omega,e2,by rw [Ak,Aj,Aj]; omega,by rw [Bu,De,De,t4]; rfl,by rw [hoR,hoL,hoL,t5]; rfl⟩
      ·split at h
       ·rename_i h123
        have hlt:=AU (s:=s) (a:=a) (by rw [h123]; decide)
        have g1:=AT s (a+1)
        have g2:=Bh (s:=s) (a:=a+1) (by omega)
        obtain ⟨t1,t2,t3,t4,t5⟩:=iM s _ z e ok g2 h
        exact ⟨by omega,t2,by omega,t4,t5⟩
       ·cases h
  ·rw [pM] at h
   split at h
   ·rename_i h125
    have hlt:=AU (s:=s) (a:=a) (by rw [h125]; decide)
    have g1:=AT s (a+1)
    have g2:=Bh (s:=s) (a:=a+1) (by omega)
    cases h
    obtain ⟨l1,l2,l3⟩:=leaf (5,[],0,false,0,()) rfl
    exact ⟨by omega,g2,by omega,l2,l3⟩
   ·split at h
    ·cases h
    ·rename_i l e' ok' hl
     obtain ⟨t1,t2,t3,t4,t5⟩:=iL s a l e' ok' ha hl
     cases h
     have hp:Aj (C4 [] l)=Aj l:=by rw [Hj]; rw [Aj]; omega
     refine ⟨t1,t2,by rw [Ak,hp]; omega,?_,?_⟩
     ·rw [Bu,anE]
      refine ⟨rfl,G2.2 fun x hx=>G2.1 t4 x ?_⟩
      rw [Eg] at hx
      rcases hx with hx | hx
      ·cases hx
      ·exact hx
     ·rw [hoR,anE]
      refine ⟨rfl,OE.2 fun x hx=>OE.1 t5 x ?_⟩
      rw [Eg] at hx
      rcases hx with hx | hx
      ·cases hx
      ·exact hx
  ·rw [pL] at h
   split at h
   ·cases h
   ·rename_i nm no mu b hh
    obtain ⟨h1,h2,h3,_⟩:=ID ha hh
    split at h
    ·cases h
    ·rename_i z q ok' ht
     obtain ⟨t1,t2,t3,t4,t5⟩:=iT s b z q ok' h2 ht
     have g1:=AT s q
     have g2:=Bh t2
     split at h
     ·rename_i h125
      have hlt:=AU (s:=s) (a:=skp s q) (by rw [h125]; decide)
      have g3:=AT s (skp s q+1)
      have g4:=Bh (s:=s) (a:=skp s q+1) (by omega)
      cases h
      refine ⟨by omega,g4,by rw [Aj,Aj,IO]; omega,?_,?_⟩
      ·rw [De,KH t4 h3]; rfl
      ·rw [hoL,Qi t5 (by rfl)]; rfl
     ·split at h
      ·rename_i h44
       have hlt:=AU (s:=s) (a:=skp s q) (by rw [h44]; decide)
       have g3:=AT s (skp s q+1)
       have g4:=Bh (s:=s) (a:=skp s q+1) (by omega)
       split at h
       ·cases h
       ·rename_i l' e' ok2 hl
        obtain ⟨u1,u2,u3,u4,u5⟩:=iL s _ l' e' ok2 g4 hl
        cases h
        refine ⟨by omega,u2,by rw [Aj,IO]; omega,?_,?_⟩
        ·rw [De,KH t4 h3,u4]; rfl
        ·rw [hoL,Qi t5 (by rfl),u5]; rfl
      ·cases h
def B4 (n:Int):By:=if n<10 then [UInt8.ofNat (48+n.toNat)] else [UInt8.ofNat (48+n.toNat / 10),UInt8.ofNat (48+n.toNat % 10)]
mutual
def txR:Rose Lab->By
 | .node x ks=>if x.1=1 then CS else if x.1=2 then BH else if x.1=3 then AA++[40]++B4 x.2.2.2.2.1++[41] else if x.1=4 then [91]++txH ks++[93] else [123]++Go.Lib.join (txP ks) [44]++[125]
def txH:RL->By
 | []=>[]
 | z::_=>txR z
def txP:RL->List (By)
 | []=>[]
 | z::l=>(z.lab.2.1++[58]++B4 z.lab.2.2.1++(if z.lab.2.2.2.1=true then [33] else [])++[32]++txR z)::txP l
end
theorem Lz : ∀ l:RL,txP l=l.map fun z=>z.lab.2.1++[58]++B4 z.lab.2.2.1++(if z.lab.2.2.2.1=true then [33] else [])++[32]++txR z
 | []=>rfl
 | z::l=>by rw [txP,Lz l]; rfl
theorem F7 (n:Int):(B4 n).length<=2:=by unfold B4; split<;>simp
def blA (s:By) (a:Nat) (bad:Bool):Nat:=bif bad then a else skp s a
def wdA (w s:By) (a:Nat) (bad:Bool):Nat:=bif bad then a else a+B6 w s a
def wdB (w s:By) (a:Nat) (bad:Bool):Bool:=bad||decide (B6 w s a<w.length)
def mrA (b:UInt8) (s:By) (a:Nat) (bad:Bool):Nat:=bif bad then a else bif nxt s (skp s a)==b then skp s (skp s a+1) else skp s a
def mrB (b:UInt8) (s:By) (a:Nat) (bad:Bool):Bool:=bad||!(nxt s (skp s a)==b)
def nmK (s:By) (a:Nat):Nat:=min (AZ s a) 10
def nmA (s:By) (a:Nat) (bad:Bool):Nat:=bif bad then a else a+nmK s a
def nmV (s:By) (a:Nat) (bad:Bool):By:=bif bad then [] else (s.drop a).take (nmK s a)
def nbA (s:By) (a:Nat) (bad:Bool):Nat:=bif bad||!An (nxt s a) then a else AV s a
def nbV (s:By) (a:Nat) (bad:Bool):Nat:=bif bad||!An (nxt s a) then 0 else DF s a
def Lx:Gm
 | [.ptr 0 0],[(.box [.s s,.j (a),.b (bad)])]=>.need (decide (0<=a/\a.toNat<=s.length/\s.length<=400)) (.leaf (.b (!bad&&decide (a.toNat<skp s a.toNat)),[some (.box [.s s,.j ((blA s a.toNat bad:Nat)),.b (bad)])]))
 | _,_=>.no
def E5:Gm
 | [.bx [.s s,.j a,.b bad] 0],[]=>.need (decide (0<=a/\a.toNat<=s.length/\s.length<=400)) (.leaf (.i .u8 (bif bad then 0 else ((nxt s a.toNat).toNat:Int)),[]))
 | _,_=>.no
def Ni:Gm
 | [.ptr 0 0,.s w],[(.box [.s s,.j (a),.b (bad)])]=>.need (decide (0<=a/\a.toNat<=s.length/\s.length<=400/\w.length<=400)&&w.all (fun b=>b != 0)) (.leaf (.tup [],[some (.box [.s s,.j ((wdA w s a.toNat bad:Nat)),.b (wdB w s a.toNat bad)])]))
 | _,_=>.no
def Hy:Gm
 | [.ptr 0 0,.s [b]],[(.box [.s s,.j (a),.b (bad)])]=>.need (decide (0<=a/\a.toNat<=s.length/\s.length<=400/\b≠0)) (.leaf (.tup [],[some (.box [.s s,.j ((mrA b s a.toNat bad:Nat)),.b (mrB b s a.toNat bad)])]))
 | _,_=>.no
def Jm:Gm
 | [.ptr 0 0,.i .u8 m],[(.box [.s s,.j (a),.b (bad)])]=>.need (decide (0<=a/\a.toNat<=s.length/\s.length<=400/\0<m/\m<256)) (.leaf (.b (!bad&&(nxt s (skp s a.toNat)).toNat==m.toNat),[some (.box [.s s,.j ((mrA (UInt8.ofNat m.toNat) s a.toNat bad:Nat)),.b (bad)])]))
 | _,_=>.no
def LG:Gm
 | [.ptr 0 0],[(.box [.s s,.j (a),.b (bad)])]=>.need (decide (0<=a/\a.toNat<=s.length/\s.length<=400)) (.leaf (.s (nmV s a.toNat bad),[some (.box [.s s,.j ((nmA s a.toNat bad:Nat)),.b (bad||(nmK s a.toNat==0))])]))
 | _,_=>.no
def M8:Gm
 | [.ptr 0 0],[(.box [.s s,.j (a),.b (bad)])]=>.need (decide (0<=a/\a.toNat<=s.length/\s.length<=400)) (.leaf (.j (nbV s a.toNat bad:Nat),[some (.box [.s s,.j ((nbA s a.toNat bad:Nat)),.b (bad||!An (nxt s a.toNat))])]))
 | _,_=>.no
def Kj:LoopEnt:=⟨62,[0,3],[0,3],[],fun
 | ([.ptr 0 0,.j f],[some (.box [.s s,.j (a),.b (bad)])])=>.need (decide (0<=a/\a.toNat<=s.length/\s.length<=400)) (.leaf (.exit 0,([.ptr 0 0,.j f],[some (.box [.s s,.j ((blA s a.toNat bad:Nat)),.b (bad)])])))
 | _=>.no⟩
def IX:LoopEnt:=⟨27,[0,1,6,7],[],[],fun
 | ([.ptr 0 0,.s w,.j c,.j i],[some (.box [.s s,.j (a),.b (bad)])])=>.need (decide (0<=a/\a.toNat<=s.length/\s.length<=400/\c=w.length/\0<=i/\i.toNat<=w.length/\w.length<=400)&&w.all (fun b=>b != 0)) (.br ((w.drop i.toNat).isEmpty||!wdB (w.drop i.toNat) s a.toNat bad) (.leaf (.exit 0,([],[some (.box [.s s,.j ((wdA (w.drop i.toNat) s a.toNat bad:Nat)),.b (bad)])]))) (.leaf (.ret,([],[some (.box [.s s,.j ((wdA (w.drop i.toNat) s a.toNat bad:Nat)),.b (true)])]))))
 | _=>.no⟩
def J6:LoopEnt:=⟨54,[0,3,4],[0,3],[],fun
 | ([.ptr 0 0,.j f,.i .u8 c],[some (.box [.s s,.j (a),.b (bad)])])=>.need (decide (0<=a/\a.toNat<=s.length/\s.length<=400/\0<=f/\f<=a/\a<=f+10/\c=(bif bad then 0 else ((nxt s a.toNat).toNat:Int)))) (.leaf (.exit 0,([.ptr 0 0,.j f],[some (.box [.s s,.j ((bif bad then a.toNat else a.toNat+min (AZ s a.toNat) (10-(a-f).toNat):Nat)),.b (bad)])])))
 | _=>.no⟩
theorem EM (s:By) (a:Int) (bad:Bool) (f:Int):AG prog (Ab []) (Ab [(2,Kj)]) 1 (body f18 0) Kj ([.ptr 0 0,.j f],[some (.box [.s s,.j (a),.b (bad)])]) =
 ((ifB (!bad) (ifB (decide (a<(↑s.length:Int))) (ifT (decide (0<=a)) (Ap s[a.toNat]? fun z=>ifB ((↑z.toNat:Int)==(32:Int)) (some (Ex.normal,[V.ptr 0 0,V.i
 .i64 f],[some (Blk.box [V.s s,V.j (i64.wrap (a+1)),V.b bad])])) (ifT (decide (0<=a)) (Ap s[a.toNat]? fun z=>ifB ((↑z.toNat:Int)==(10:Int))
 (some (Ex.normal,[V.ptr 0 0,V.j f],[some (Blk.box [V.s s,V.j (i64.wrap (a+1)),V.b bad])])) (some (Ex.exit 0,[V.ptr 0 0,V.j f],[some
 (Blk.box [V.s s,V.j a,V.b bad])])))))) (some (Ex.exit 0,[V.ptr 0 0,V.j f],[some (Blk.box [V.s s,V.j a,V.b bad])]))) (some (Ex.exit 0,[V.ptr 0 0,
 V.j f],[some (Blk.box [V.s s,V.j a,V.b bad])]))):_):=by kernel_rfl
theorem EI (s:By) (a:Int) (bad:Bool) (w:By) (c i:Int):AG prog (Ab [(50,.rd1 E5)]) (Ab [(1,IX)]) 1 (body f35 0) IX ([.ptr 0 0,.s w,.j c,.j i],[some (.box [.s s,.j (a),.b (bad)])]) =
 ((ifB (decide (i<c)) (ifT (decide (0<=a/\a.toNat<=s.length/\s.length<=400)) (ifT (decide (0<=i)) (Ap w[i.toNat]? fun z=>ifB ((bif bad then (0:Int)
 else (↑(nxt s a.toNat).toNat:Int)) != (↑z.toNat:Int)) (some (Ex.ret,[],[some (Blk.box [V.s s,V.j a,V.b true])])) (some (Ex.normal,[V.ptr 0 0,V.s w,V.i
 .i64 c,V.j (i64.wrap (i+1))],[some (Blk.box [V.s s,V.j (i64.wrap (a+1)),V.b bad])]))))) (some (Ex.exit 0,[],[some (Blk.box [V.s s,V.i
 .i64 a,V.b bad])]))):_):=by kernel_rfl
theorem EJ (s:By) (a:Int) (bad:Bool) (f c:Int):AG prog (Ab [(50,.rd1 E5)]) (Ab [(3,J6)]) 1 (body f51 0) J6 ([.ptr 0 0,.j f,.i .u8 c],[some (.box [.s s,.j (a),.b (bad)])]) =
 ((ifB (decide (c>=97)) (ifB (decide (c<=122)) (ifB (decide (i64.wrap (a-f)<(10:Int))) (ifT (decide (0<=i64.wrap (a+1)/\(i64.wrap (a +
 1)).toNat<=s.length/\s.length<=400)) (some (Ex.normal,[V.ptr 0 0,V.j f,V.i .u8 (bif bad then (0:Int) else (↑(nxt s (i64.wrap (a +
 1)).toNat).toNat:Int))],[some (Blk.box [V.s s,V.j (i64.wrap (a+1)),V.b bad])]))) (some (Ex.exit 0,[V.ptr 0 0,V.j f],[some (Blk.box [V.s s,V.i
 .i64 a,V.b bad])]))) (some (Ex.exit 0,[V.ptr 0 0,V.j f],[some (Blk.box [V.s s,V.j a,V.b bad])]))) (some (Ex.exit 0,[V.ptr 0 0,V.j f],[some
 (Blk.box [V.s s,V.j a,V.b bad])]))):_):=by kernel_rfl
theorem M2 (s:By) (a:Int) (bad:Bool)  : BA prog (Ab []) (Ab [(2,Kj)]) f18 [.ptr 0 0] [(.box [.s s,.j (a),.b (bad)])] =
 ((ifT (decide (0<=a/\a.toNat<=s.length/\s.length<=400)) (some (V.b (decide ((↑(blA s a.toNat bad):Int)>a)),[some (Blk.box [V.s s,V.j (↑(blA s a.toNat
 bad):Int),V.b bad])]))):_):=by kernel_rfl
theorem Ms (s:By) (a:Int) (bad:Bool)  : BA prog (Ab []) (Ab []) f50 [.bx [.s s,.j a,.b bad] 0] [] =
 ((ifB bad (some (V.i .u8 (0:Int),[])) (ifB (a==(↑s.length:Int)) (some (V.i .u8 (0:Int),[])) (ifT (decide (0<=a)) (Ap s[a.toNat]? fun z=>some (V.i .u8
 (↑z.toNat:Int),[]))))):_):=by kernel_rfl
theorem Mr (s:By) (a:Int) (bad:Bool) (w:By):BA prog (Ab [(50,.rd1 E5)]) (Ab [(1,IX)]) f35 [.ptr 0 0,.s w] [(.box [.s s,.j (a),.b (bad)])] =
 ((ifT (decide (0<=a/\a.toNat<=s.length/\s.length<=400/\(↑w.length:Int)=(↑w.length:Int)/\(0:Int)<=(0:Int)/\0<=w.length/\w.length<=(400 :
 Nat))&&w.all fun b=>b != (0:UInt8)) (ifB ((drop 0 w).isEmpty||!wdB (drop 0 w) s a.toNat bad) (some (V.tup [],[some (Blk.box [V.s s,V.i
 .i64 (↑(wdA (drop 0 w) s a.toNat bad):Int),V.b bad])])) (some (V.tup [],[some (Blk.box [V.s s,V.j (↑(wdA (drop 0 w) s a.toNat bad) :
 Int),V.b true])])))):_):=by kernel_rfl
theorem Mx (s:By) (a:Int) (bad:Bool) (b:UInt8):BA prog (Ab [(18,.own Lx),(35,.own Ni)]) (Ab []) f16 [.ptr 0 0,.s [b]] [(.box [.s s,.j (a),.b (bad)])] =
 ((ifB bad (some (V.tup [],[some (Blk.box [V.s s,V.j a,V.b bad])])) (ifT (decide (0<=a/\a.toNat<=s.length/\s.length<=400)) (ifT (decide (0<=(↑(blA s
 a.toNat bad):Int)/\(↑(blA s a.toNat bad):Int).toNat<=s.length/\s.length<=400/\1<=400)&&(b::Al UInt8).all fun b=>b != (0 :
 UInt8)) (ifB (!wdB (b::Al UInt8) s (↑(blA s a.toNat bad):Int).toNat bad) (ifT (decide (0<=(↑(wdA (b::Al UInt8) s (↑(blA s a.toNat bad):Int).toNat bad):Int)
 /\ (↑(wdA (b::Al UInt8) s (↑(blA s a.toNat bad):Int).toNat bad):Int).toNat<=s.length/\s.length<=400)) (some (V.tup [],[some (Blk.box [V.s s,V.i .i64
 (↑(blA s (↑(wdA (b::Al UInt8) s (↑(blA s a.toNat bad):Int).toNat bad):Int).toNat (wdB (b::Al UInt8) s (↑(blA s a.toNat bad):Int).toNat bad)):Int),V.b
 (wdB (b::Al UInt8) s (↑(blA s a.toNat bad):Int).toNat bad)])]))) (some (V.tup [],[some (Blk.box [V.s s,V.j (↑(wdA (b::Al UInt8) s (↑(blA s a.toNat bad) :
 Int).toNat bad):Int),V.b (wdB (b::Al UInt8) s (↑(blA s a.toNat bad):Int).toNat bad)])])))))):_):=by kernel_rfl
theorem N3 (s:By) (a:Int) (bad:Bool) (m:Int):BA prog (Ab [(18,.own Lx),(50,.rd1 E5)]) (Ab []) f36 [.ptr 0 0,.i .u8 m] [(.box [.s s,.j (a),.b (bad)])] =
 ((ifB bad (some (V.b false,[some (Blk.box [V.s s,V.j a,V.b bad])])) (ifT (decide (0<=a/\a.toNat<=s.length/\s.length<=400)) (ifT (decide (0<=(↑(blA s
 a.toNat bad):Int)/\(↑(blA s a.toNat bad):Int).toNat<=s.length/\s.length<=400)) (ifB ((bif bad then (0:Int) else (↑(nxt s (↑(blA s a.toNat bad) :
 Int).toNat).toNat:Int)) != m) (some (V.b false,[some (Blk.box [V.s s,V.j (↑(blA s a.toNat bad):Int),V.b bad])])) (ifT (decide (0<=i64.wrap ((↑(blA s
 a.toNat bad):Int)+(1:Int))/\(i64.wrap ((↑(blA s a.toNat bad):Int)+(1:Int))).toNat<=s.length/\s.length<=400)) (some (V.b true,[some
 (Blk.box [V.s s,V.j (↑(blA s (i64.wrap ((↑(blA s a.toNat bad):Int)+(1:Int))).toNat bad):Int),V.b bad])]))))))):_):=by kernel_rfl
theorem Mv (s:By) (a:Int) (bad:Bool)  : BA prog (Ab [(50,.rd1 E5)]) (Ab [(3,J6)]) f51 [.ptr 0 0] [(.box [.s s,.j (a),.b (bad)])] =
 ((shr (take ((↑(bif bad then a.toNat else a.toNat+min (AZ s a.toNat) (10-(a-a).toNat)):Int).toNat-a.toNat) (drop a.toNat s)) fun sh1=>ifT
 (decide (0<=a/\a.toNat<=s.length/\s.length<=400)) (ifT (decide (0<=a/\a.toNat<=s.length/\s.length<=400/\0<=a/\a<=a/\a<=a+10/\(bif bad
 then (0:Int) else (↑(nxt s a.toNat).toNat:Int))=bif bad then (0:Int) else (↑(nxt s a.toNat).toNat:Int))) (ifB ((↑(bif bad then a.toNat else a.toNat+min (AZ
 s a.toNat) (10-(a-a).toNat)):Int)==a) (ifT (decide (0<=a)&&decide (a<=(↑(bif bad then a.toNat else a.toNat+min (AZ s a.toNat) (10-(a -
 a).toNat)):Int))&&decide ((↑(bif bad then a.toNat else a.toNat+min (AZ s a.toNat) (10-(a-a).toNat)):Int)<=(↑s.length:Int))) (some (V.s sh1,[some
 (Blk.box [V.s s,V.j (↑(bif bad then a.toNat else a.toNat+min (AZ s a.toNat) (10-(a-a).toNat)):Int),V.b true])]))) (ifT (decide (0<=a)&&decide
 (a<=(↑(bif bad then a.toNat else a.toNat+min (AZ s a.toNat) (10-(a-a).toNat)):Int))&&decide ((↑(bif bad then a.toNat else a.toNat+min (AZ s
 a.toNat) (10-(a-a).toNat)):Int)<=(↑s.length:Int))) (some (V.s sh1,[some (Blk.box [V.s s,V.j (↑(bif bad then a.toNat else a.toNat+min (AZ s
 a.toNat) (10-(a-a).toNat)):Int),V.b bad])])))))):_):=by kernel_rfl
theorem Mu (s:By) (a:Int) (bad:Bool)  : BA prog (Ab [(50,.rd1 E5)]) (Ab []) f52 [.ptr 0 0] [(.box [.s s,.j (a),.b (bad)])] =
 ((ifT (decide (0<=a/\a.toNat<=s.length/\s.length<=400)) (ifB (decide ((bif bad then (0:Int) else (↑(nxt s a.toNat).toNat:Int))<(48:Int))) (some (V.i
 .i64 0,[some (Blk.box [V.s s,V.j a,V.b true])])) (ifB (decide ((bif bad then (0:Int) else (↑(nxt s a.toNat).toNat:Int))>(57:Int))) (some (V.j 0,
 [some (Blk.box [V.s s,V.j a,V.b true])])) (ifT (decide (0<=i64.wrap (a+1)/\(i64.wrap (a+1)).toNat<=s.length/\s.length<=400)) (ifB
 (decide (i64.wrap (IntKind.u8.wrap ((bif bad then (0:Int) else (↑(nxt s a.toNat).toNat:Int))-(48:Int)))>(0:Int))) (ifB (decide ((bif bad then (0 :
 Int) else (↑(nxt s (i64.wrap (a+1)).toNat).toNat:Int))>=(48:Int))) (ifB (decide ((bif bad then (0:Int) else (↑(nxt s (i64.wrap (a +
 1)).toNat).toNat:Int))<=(57:Int))) (some (V.j (i64.wrap (i64.wrap (10*i64.wrap (IntKind.u8.wrap ((bif bad then (0:Int) else (↑(nxt s
 a.toNat).toNat:Int))-(48:Int))))+i64.wrap (IntKind.u8.wrap ((bif bad then (0:Int) else (↑(nxt s (i64.wrap (a+1)).toNat).toNat:Int))-(48 :
 Int))))),[some (Blk.box [V.s s,V.j (i64.wrap (i64.wrap (a+1)+(1:Int))),V.b bad])])) (some (V.j (i64.wrap (IntKind.u8.wrap ((bif
 bad then (0:Int) else (↑(nxt s a.toNat).toNat:Int))-(48:Int)))),[some (Blk.box [V.s s,V.j (i64.wrap (a+1)),V.b bad])]))) (some (V.i .i64
 (i64.wrap (IntKind.u8.wrap ((bif bad then (0:Int) else (↑(nxt s a.toNat).toNat:Int))-(48:Int)))),[some (Blk.box [V.s s,V.j (i64.wrap (a +
 1)),V.b bad])]))) (some (V.j (i64.wrap (IntKind.u8.wrap ((bif bad then (0:Int) else (↑(nxt s a.toNat).toNat:Int))-(48:Int)))),[some (Blk.box [V.s
 s,V.j (i64.wrap (a+1)),V.b bad])]))))))):_):=by kernel_rfl
def bdI (b:Int):Bool:=!decide (b<0)
def flB (a:Nat) (b:Int):Int:=if b<0 then (a:Int) else b
def wqF (s:By) (a:Nat) (b:Int):Bool:=(bdI b||(nmK s (blA s a (bdI b))==0))||Be (nxt s (nmA s (blA s a (bdI b)) (bdI b)))
def nqF (s:By) (a:Nat) (b:Int):Bool:=(bdI b||!An (nxt s (blA s a (bdI b))))||An (nxt s (nbA s (blA s a (bdI b)) (bdI b)))
def mrQ (m:UInt8) (s:By) (a:Nat) (b:Int):Int:=bif mrB m s a (bdI b) then flB (mrA m s a (bdI b)) b else b
def qwA (s:By) (a f:Nat) (bad:Bool):Nat:=bif bad then a else a+min (AZ s a) (10-(a-f))
def quA (s:By) (a f:Nat) (v:Int) (bad:Bool):Nat:=if a=f then nbA s a bad else if a=f+1/\0<v/\(!bad&&An (nxt s a))=true then a+1 else a
def quV (s:By) (a f:Nat) (v:Int) (bad:Bool):Int:=if a=f then (nbV s a bad:Nat) else if a=f+1/\0<v/\(!bad&&An (nxt s a))=true then 10*v+(((nxt s a).toNat:Int)-48) else v
def qfG:Gm
 | [.ptr 0 0],[(.box [.s s,.j (a),.j (b)])]=>.need (decide (0<=a/\a.toNat<=s.length/\s.length<=400/\-1<=b/\b<=1000)) (.leaf (.tup [],[some (.box [.s s,.j (a),.j (flB a.toNat b)])]))
 | _,_=>.no
def qnG:Gm
 | [.bx [.s s,.j a,.j b] 0],[]=>.need (decide (0<=a/\a.toNat<=s.length/\s.length<=400/\-1<=b/\b<=1000)) (.leaf (.i .u8 (bif bdI b then 0 else ((nxt s a.toNat).toNat:Int)),[]))
 | _,_=>.no
def qbG:Gm
 | [.ptr 0 0],[(.box [.s s,.j (a),.j (b)])]=>.need (decide (0<=a/\a.toNat<=s.length/\s.length<=400/\-1<=b/\b<=1000)) (.leaf (.tup [],[some (.box [.s s,.j ((blA s a.toNat (bdI b):Nat)),.j (b)])]))
 | _,_=>.no
def qmG:Gm
 | [.ptr 0 0,.i .u8 m],[(.box [.s s,.j (a),.j (b)])]=>.need (decide (0<=a/\a.toNat<=s.length/\s.length<=400/\-1<=b/\b<=1000/\0<m/\m<256)) (.leaf (.tup [],[some (.box [.s s,.j ((mrA (UInt8.ofNat m.toNat) s a.toNat (bdI b):Nat)),.j (mrQ (UInt8.ofNat m.toNat) s a.toNat b)])]))
 | _,_=>.no
def qwG:Gm
 | [.ptr 0 0,.j x],[(.box [.s s,.j (a),.j (b)])]=>.need (decide (0<=a/\a.toNat<=s.length/\s.length<=400/\-1<=b/\b<=1000/\x=10)) (.leaf (.s (bif wqF s a.toNat b then [] else nmV s (blA s a.toNat (bdI b)) (bdI b)),[some (.box [.s s,.j ((nmA s (blA s a.toNat (bdI b)) (bdI b):Nat)),.j (bif wqF s a.toNat b then flB (nmA s (blA s a.toNat (bdI b)) (bdI b)) b else b)])]))
 | _,_=>.no
def quG:Gm
 | [.ptr 0 0],[(.box [.s s,.j (a),.j (b)])]=>.need (decide (0<=a/\a.toNat<=s.length/\s.length<=400/\-1<=b/\b<=1000)) (.leaf (.j (nbV s (blA s a.toNat (bdI b)) (bdI b):Nat),[some (.box [.s s,.j ((nbA s (blA s a.toNat (bdI b)) (bdI b):Nat)),.j (bif nqF s a.toNat b then flB (nbA s (blA s a.toNat (bdI b)) (bdI b)) b else b)])]))
 | _,_=>.no
def qbE:LoopEnt:=⟨17,[0],[],[],fun
 | ([.ptr 0 0],[some (.box [.s s,.j (a),.j (b)])])=>.need (decide (0<=a/\a.toNat<=s.length/\s.length<=400/\-1<=b/\b<=1000)) (.leaf (.exit 0,([],[some (.box [.s s,.j ((blA s a.toNat (bdI b):Nat)),.j (b)])])))
 | _=>.no⟩
def qwE:LoopEnt:=⟨65,[0,1,5],[0,5],[],fun
 | ([.ptr 0 0,.j x,.j f],[some (.box [.s s,.j (a),.j (b)])])=>.need (decide (0<=a/\a.toNat<=s.length/\s.length<=400/\-1<=b/\b<=1000/\0<=f/\f<=a/\a<=f+10/\x=10)) (.leaf (.exit 0,([.ptr 0 0,.j f],[some (.box [.s s,.j ((qwA s a.toNat f.toNat (bdI b):Nat)),.j (b)])])))
 | _=>.no⟩
def quE:LoopEnt:=⟨73,[0,3,4],[0,3,4],[],fun
 | ([.ptr 0 0,.j f,.j v],[some (.box [.s s,.j (a),.j (b)])])=>.need (decide (0<=a/\a.toNat<=s.length/\s.length<=400/\-1<=b/\b<=1000/\0<=f/\f<=a/\a<=f+2/\(a=f->v=0)/\0<=v/\v<=99/\(a=f+1->v<=9)))
  (.leaf (.exit 0,([.ptr 0 0,.j f,.j (quV s a.toNat f.toNat v (bdI b))],[some (.box [.s s,.j ((quA s a.toNat f.toNat v (bdI b):Nat)),.j (b)])])))
 | _=>.no⟩
theorem FG (s:By) (a b:Int):AG prog (Ab [(23,.rd1 qnG)]) (Ab [(0,qbE)]) 1 (body f26 0) qbE ([.ptr 0 0],[some (.box [.s s,.j (a),.j (b)])]) =
 ((ifT (decide (0<=a/\a.toNat<=s.length/\s.length<=400/\(-1:Int)<=b/\b<=1000)) (ifB ((bif bdI b then (0:Int) else (↑(nxt s a.toNat).toNat:Int))==(32
 : Int)) (some (Ex.normal,[V.ptr 0 0],[some (Blk.box [V.s s,V.j (i64.wrap (a+1)),V.j b])])) (ifT (decide (0<=a/\a.toNat<=s.length/\s.length<=
 400/\(-1:Int)<=b/\b<=1000)) (ifB ((bif bdI b then (0:Int) else (↑(nxt s a.toNat).toNat:Int))==(10:Int)) (some (Ex.normal,[V.ptr 0 0],[some
 (Blk.box [V.s s,V.j (i64.wrap (a+1)),V.j b])])) (some (Ex.exit 0,[],[some (Blk.box [V.s s,V.j a,V.j b])])))))):_):=by kernel_rfl
abbrev OR:FuncId->Option Ent:=Ab [(26,.own qbG),(23,.rd1 qnG),(11,.own qfG)]
theorem FF (s:By) (a b:Int) (x f:Int):AG prog OR (Ab [(3,qwE)]) 1 (body f24 0) qwE ([.ptr 0 0,.j x,.j f],[some (.box [.s s,.j (a),.j (b)])]) =
 ((ifT (decide (0<=a/\a.toNat<=s.length/\s.length<=400/\(-1:Int)<=b/\b<=1000)) (ifB (decide ((bif bdI b then (0:Int) else (↑(nxt s a.toNat).toNat:Int))
 >= (97:Int))) (ifT (decide (0<=a/\a.toNat<=s.length/\s.length<=400/\(-1:Int)<=b/\b<=1000)) (ifB (decide ((bif bdI b then (0:Int) else (↑(nxt s
 a.toNat).toNat:Int))<=(122:Int))) (ifB (decide (i64.wrap (a-f)<x)) (some (Ex.normal,[V.ptr 0 0,V.j x,V.j f],[some (Blk.box [V.s s,V.i .i64
 (i64.wrap (a+1)),V.j b])])) (some (Ex.exit 0,[V.ptr 0 0,V.j f],[some (Blk.box [V.s s,V.j a,V.j b])]))) (some (Ex.exit 0,[V.ptr 0 0,
 V.j f],[some (Blk.box [V.s s,V.j a,V.j b])])))) (some (Ex.exit 0,[V.ptr 0 0,V.j f],[some (Blk.box [V.s s,V.j a,V.j b])])))):_):=by kernel_rfl
theorem M3 (s:By) (a b:Int) (f v:Int):AG prog OR (Ab [(4,quE)]) 1 (body f25 0) quE ([.ptr 0 0,.j f,.j v],[some (.box [.s s,.j (a),.j (b)])]) =
 ((shr (ifT (decide (0<=a/\a.toNat<=s.length/\s.length<=400/\(-1:Int)<=b/\b<=1000)) (some (Ex.normal,[V.ptr 0 0,V.j f,V.j (i64.wrap
 (i64.wrap (10*v)+i64.wrap (IntKind.u8.wrap ((bif bdI b then (0:Int) else (↑(nxt s a.toNat).toNat:Int))-(48:Int)))))],[some (Blk.box [V.s s,
 V.j (i64.wrap (a+1)),V.j b])]))) fun sh1=>ifT (decide (0<=a/\a.toNat<=s.length/\s.length<=400/\(-1:Int)<=b/\b<=1000)) (ifB
 (decide ((bif bdI b then (0:Int) else (↑(nxt s a.toNat).toNat:Int))>=(48:Int))) (ifT (decide (0<=a/\a.toNat<=s.length/\s.length<=400/\(-1:Int)<=b
 /\ b<=1000)) (ifB (decide ((bif bdI b then (0:Int) else (↑(nxt s a.toNat).toNat:Int))<=(57:Int))) (ifB (decide (i64.wrap (a-f)<(2:Int))) (ifB (a==
 f) sh1 (ifB (decide (v>0)) sh1 (some (Ex.exit 0,[V.ptr 0 0,V.j f,V.j v],[some (Blk.box [V.s s,V.j a,V.j b])])))) (some (Ex.exit 0,[V.ptr 0 0,
 V.j f,V.j v],[some (Blk.box [V.s s,V.j a,V.j b])]))) (some (Ex.exit 0,[V.ptr 0 0,V.j f,V.j v],[some (Blk.box [V.s s,V.j a,V.i
 .i64 b])])))) (some (Ex.exit 0,[V.ptr 0 0,V.j f,V.j v],[some (Blk.box [V.s s,V.j a,V.j b])])))):_):=by kernel_rfl
theorem NJ (s:By) (a b:Int)  : BA prog (Ab []) (Ab []) f11 [.ptr 0 0] [(.box [.s s,.j (a),.j (b)])] =
 ((ifB (decide (b<0)) (some (V.tup [],[some (Blk.box [V.s s,V.j a,V.j a])])) (some (V.tup [],[some (Blk.box [V.s s,V.j a,V.j b])]))):_):=by kernel_rfl
theorem NF (s:By) (a b:Int)  : BA prog (Ab []) (Ab []) f23 [.bx [.s s,.j a,.j b] 0] [] =
 ((ifB (decide (b<0)) (ifB (decide (a<(↑s.length:Int))) (ifT (decide (0<=a)) (Ap s[a.toNat]? fun z=>some (V.i .u8 (↑z.toNat:Int),[]))) (some (V.i .u8 (0 :
 Int),[]))) (some (V.i .u8 (0:Int),[]))):_):=by kernel_rfl
theorem NK (s:By) (a b:Int)  : BA prog (Ab [(23,.rd1 qnG)]) (Ab [(0,qbE)]) f26 [.ptr 0 0] [(.box [.s s,.j (a),.j (b)])] =
 ((ifT (decide (0<=a/\a.toNat<=s.length/\s.length<=400/\(-1:Int)<=b/\b<=1000)) (some (V.tup [],[some (Blk.box [V.s s,V.j (↑(blA s a.toNat (bdI b)) :
 Int),V.j b])]))):_):=by kernel_rfl
theorem NI (s:By) (a b:Int) (m:Int):BA prog OR (Ab []) f22 [.ptr 0 0,.i .u8 m] [(.box [.s s,.j (a),.j (b)])] =
 ((shr (ifT (decide (0<=(↑(blA s a.toNat (bdI b)):Int)/\(↑(blA s a.toNat (bdI b)):Int).toNat<=s.length/\s.length<=400/\(-1:Int)<=b/\b<=1000)) (some
 (V.tup [],[some (Blk.box [V.s s,V.j (↑(blA s a.toNat (bdI b)):Int),V.j (flB (↑(blA s a.toNat (bdI b)):Int).toNat b)])]))) fun sh1=>ifT (decide (0<=a/\
 a.toNat<=s.length/\s.length<=400/\(-1:Int)<=b/\b<=1000)) (ifT (decide (0<=(↑(blA s a.toNat (bdI b)):Int)/\(↑(blA s a.toNat (bdI b)):Int).toNat<=
 s.length/\s.length<=400/\(-1:Int)<=b/\b<=1000)) (ifB ((bif bdI b then (0:Int) else (↑(nxt s (↑(blA s a.toNat (bdI b)):Int).toNat).toNat:Int)) != m)
 sh1 (ifB (decide (b>=0)) sh1 (ifT (decide (0<=i64.wrap ((↑(blA s a.toNat (bdI b)):Int)+(1:Int))/\(i64.wrap ((↑(blA s a.toNat (bdI b)):Int)+(1
 : Int))).toNat<=s.length/\s.length<=400/\(-1:Int)<=b/\b<=1000)) (some (V.tup [],[some (Blk.box [V.s s,V.j (↑(blA s (i64.wrap ((↑(blA s
 a.toNat (bdI b)):Int)+(1:Int))).toNat (bdI b)):Int),V.j b])]))))))):_):=by kernel_rfl
theorem NA (s:By) (a b:Int) (x:Int):BA prog OR (Ab [(3,qwE)]) f24 [.ptr 0 0,.j x] [(.box [.s s,.j (a),.j (b)])] =
 ((shr (ifT (decide (0<=(↑(blA s a.toNat (bdI b)):Int))&&decide ((↑(blA s a.toNat (bdI b)):Int)<=(↑(qwA s (↑(blA s a.toNat (bdI b)):Int).toNat (↑(blA s a.toNat (bdI
 b)):Int).toNat (bdI b)):Int))&&decide ((↑(qwA s (↑(blA s a.toNat (bdI b)):Int).toNat (↑(blA s a.toNat (bdI b)):Int).toNat (bdI b)):Int)<=(↑s.length:Int)))
 (some (V.s (take ((↑(qwA s (↑(blA s a.toNat (bdI b)):Int).toNat (↑(blA s a.toNat (bdI b)):Int).toNat (bdI b)):Int).toNat-(↑(blA s a.toNat (bdI b)) :
 Int).toNat) (drop (↑(blA s a.toNat (bdI b)):Int).toNat s)),[some (Blk.box [V.s s,V.j (↑(qwA s (↑(blA s a.toNat (bdI b)):Int).toNat (↑(blA s a.toNat (bdI
 b)):Int).toNat (bdI b)):Int),V.j b])]))) fun sh2=>shr (ifT (decide (0<=(↑(qwA s (↑(blA s a.toNat (bdI b)):Int).toNat (↑(blA s a.toNat (bdI b)):Int).toNat
 (bdI b)):Int)/\(↑(qwA s (↑(blA s a.toNat (bdI b)):Int).toNat (↑(blA s a.toNat (bdI b)):Int).toNat (bdI b)):Int).toNat<=s.length/\s.length<=400/\(-1 :
 Int)<=b/\b<=1000)) (some (V.s (Al UInt8),[some (Blk.box [V.s s,V.j (↑(qwA s (↑(blA s a.toNat (bdI b)):Int).toNat (↑(blA s a.toNat (bdI b)):Int).toNat (bdI
 b)):Int),V.j (flB (↑(qwA s (↑(blA s a.toNat (bdI b)):Int).toNat (↑(blA s a.toNat (bdI b)):Int).toNat (bdI b)):Int).toNat b)])]))) fun sh1=>ifT (decide (0
 <= a/\a.toNat<=s.length/\s.length<=400/\(-1:Int)<=b/\b<=1000)) (ifT (decide (0<=(↑(blA s a.toNat (bdI b)):Int)/\(↑(blA s a.toNat (bdI b)) :
 Int).toNat<=s.length/\s.length<=400/\(-1:Int)<=b/\b<=1000/\0<=(↑(blA s a.toNat (bdI b)):Int)/\(↑(blA s a.toNat (bdI b)):Int)<=(↑(blA s a.toNat
 (bdI b)):Int)/\(↑(blA s a.toNat (bdI b)):Int)<=(↑(blA s a.toNat (bdI b)):Int)+(10:Int)/\x=10)) (ifB ((↑(qwA s (↑(blA s a.toNat (bdI b)):Int).toNat (↑(blA
 s a.toNat (bdI b)):Int).toNat (bdI b)):Int)==(↑(blA s a.toNat (bdI b)):Int)) sh1 (ifT (decide (0<=(↑(qwA s (↑(blA s a.toNat (bdI b)):Int).toNat (↑(blA s
 a.toNat (bdI b)):Int).toNat (bdI b)):Int)/\(↑(qwA s (↑(blA s a.toNat (bdI b)):Int).toNat (↑(blA s a.toNat (bdI b)):Int).toNat (bdI b)):Int).toNat<=s.length/\
 s.length<=400/\(-1:Int)<=b/\b<=1000)) (ifB (decide ((bif bdI b then (0:Int) else (↑(nxt s (↑(qwA s (↑(blA s a.toNat (bdI b)):Int).toNat (↑(blA s
 a.toNat (bdI b)):Int).toNat (bdI b)):Int).toNat).toNat:Int))>=(97:Int))) (ifT (decide (0<=(↑(qwA s (↑(blA s a.toNat (bdI b)):Int).toNat (↑(blA s a.toNat (bdI
 b)):Int).toNat (bdI b)):Int)/\(↑(qwA s (↑(blA s a.toNat (bdI b)):Int).toNat (↑(blA s a.toNat (bdI b)):Int).toNat (bdI b)):Int).toNat<=s.length/\s.length<=
 400/\(-1:Int)<=b/\b<=1000)) (ifB (decide ((bif bdI b then (0:Int) else (↑(nxt s (↑(qwA s (↑(blA s a.toNat (bdI b)):Int).toNat (↑(blA s a.toNat (bdI b))
 : Int).toNat (bdI b)):Int).toNat).toNat:Int))<=(122:Int))) sh1 sh2)) sh2))))):_):=by kernel_rfl
theorem NG (s:By) (a b:Int)  : BA prog OR (Ab [(4,quE)]) f25 [.ptr 0 0] [(.box [.s s,.j (a),.j (b)])] =
 ((shr (ifT (decide (0<=(↑(quA s (↑(blA s a.toNat (bdI b)):Int).toNat (↑(blA s a.toNat (bdI b)):Int).toNat (0:Int) (bdI b)):Int)/\(↑(quA s (↑(blA s a.toNat (bdI b))
 : Int).toNat (↑(blA s a.toNat (bdI b)):Int).toNat (0:Int) (bdI b)):Int).toNat<=s.length/\s.length<=400/\(-1:Int)<=b/\b<=1000)) (some (V.j (quV
 s (↑(blA s a.toNat (bdI b)):Int).toNat (↑(blA s a.toNat (bdI b)):Int).toNat (0:Int) (bdI b)),[some (Blk.box [V.s s,V.j (↑(quA s (↑(blA s a.toNat (bdI b)) :
 Int).toNat (↑(blA s a.toNat (bdI b)):Int).toNat (0:Int) (bdI b)):Int),V.j (flB (↑(quA s (↑(blA s a.toNat (bdI b)):Int).toNat (↑(blA s a.toNat (bdI b)) :
 Int).toNat (0:Int) (bdI b)):Int).toNat b)])]))) fun sh1=>ifT (decide (0<=a/\a.toNat<=s.length/\s.length<=400/\(-1:Int)<=b/\b<=1000)) (ifT (decide
 (0<=(↑(blA s a.toNat (bdI b)):Int)/\(↑(blA s a.toNat (bdI b)):Int).toNat<=s.length/\s.length<=400/\(-1:Int)<=b/\b<=1000/\0<=(↑(blA s a.toNat (bdI
 b)):Int)/\(↑(blA s a.toNat (bdI b)):Int)<=(↑(blA s a.toNat (bdI b)):Int)/\(↑(blA s a.toNat (bdI b)):Int)<=(↑(blA s a.toNat (bdI b)):Int)+(2:Int)/\
 ((↑(blA s a.toNat (bdI b)):Int)=(↑(blA s a.toNat (bdI b)):Int)->(0:Int)=(0:Int))/\(0:Int)<=(0:Int)/\(0:Int)<=(99:Int)/\((↑(blA s a.toNat (bdI
 b)):Int)=(↑(blA s a.toNat (bdI b)):Int)+(1:Int)->(0:Int)<=(9:Int)))) (ifB ((↑(quA s (↑(blA s a.toNat (bdI b)):Int).toNat (↑(blA s a.toNat (bdI b)) :
 Int).toNat (0:Int) (bdI b)):Int)==(↑(blA s a.toNat (bdI b)):Int)) sh1 (ifT (decide (0<=(↑(quA s (↑(blA s a.toNat (bdI b)):Int).toNat (↑(blA s a.toNat (bdI b))
 : Int).toNat (0:Int) (bdI b)):Int)/\(↑(quA s (↑(blA s a.toNat (bdI b)):Int).toNat (↑(blA s a.toNat (bdI b)):Int).toNat (0:Int) (bdI b)):Int).toNat<=s.length
 /\ s.length<=400/\(-1:Int)<=b/\b<=1000)) (ifB (decide ((bif bdI b then (0:Int) else (↑(nxt s (↑(quA s (↑(blA s a.toNat (bdI b)):Int).toNat (↑(blA s
 a.toNat (bdI b)):Int).toNat (0:Int) (bdI b)):Int).toNat).toNat:Int))>=(48:Int))) (ifT (decide (0<=(↑(quA s (↑(blA s a.toNat (bdI b)):Int).toNat (↑(blA s
 a.toNat (bdI b)):Int).toNat (0:Int) (bdI b)):Int)/\(↑(quA s (↑(blA s a.toNat (bdI b)):Int).toNat (↑(blA s a.toNat (bdI b)):Int).toNat (0:Int) (bdI b)) :
 Int).toNat<=s.length/\s.length<=400/\(-1:Int)<=b/\b<=1000)) (ifB (decide ((bif bdI b then (0:Int) else (↑(nxt s (↑(quA s (↑(blA s a.toNat (bdI b)) :
 Int).toNat (↑(blA s a.toNat (bdI b)):Int).toNat (0:Int) (bdI b)):Int).toNat).toNat:Int))<=(57:Int))) sh1 (some (V.j (quV s (↑(blA s a.toNat (bdI b)) :
 Int).toNat (↑(blA s a.toNat (bdI b)):Int).toNat (0:Int) (bdI b)),[some (Blk.box [V.s s,V.j (↑(quA s (↑(blA s a.toNat (bdI b)):Int).toNat (↑(blA s a.toNat
 (bdI b)):Int).toNat (0:Int) (bdI b)):Int),V.j b])])))) (some (V.j (quV s (↑(blA s a.toNat (bdI b)):Int).toNat (↑(blA s a.toNat (bdI b)):Int).toNat (0
 : Int) (bdI b)),[some (Blk.box [V.s s,V.j (↑(quA s (↑(blA s a.toNat (bdI b)):Int).toNat (↑(blA s a.toNat (bdI b)):Int).toNat (0:Int) (bdI b)):Int),V.i
 .i64 b])]))))))):_):=by kernel_rfl
def Qo (f:RL->RL):Gm
 | [.ref 0 0 n,.fn 55 [] []],[.row false _ (.tree LCd) l]=>.need (decide (n=l.length/\n<=1000000)) (.leaf (.tup [],[R0 (.tree LCd) (f l)]))
 | _,_=>.no

end Go.Proofs.YthbecdipboideaaDoor.Den
