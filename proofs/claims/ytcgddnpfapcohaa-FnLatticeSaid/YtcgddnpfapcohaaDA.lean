/- What functions of the program do, by the machine: Cur Cur2 Ex Base Sch1 Sch2 Sch3 Sch4 Sch5 Sch6 Sch7 Sch8 Sch9 Sch10 Sch11 Sch12 Sch13 Dr1. -/
import Derived.Test.YtcgddnpfapcohaaDen4
import Derived.KernelRfl
import Derived.Test.YtcgddnpfapcohaaRows
open Go.IntKind (i64)
open Go.Proofs.Try
open List (all_eq_true append_assoc append_nil cons_append drop drop_eq_getElem_cons drop_eq_nil_of_le drop_zero getElem_mem mem_cons mem_map mem_range range take take_length)
open Int (eq_ofNat_of_zero_le ofNat toNat toNat_zero)
open Nat (le_trans lt_succ_self strongRecOn)
open Option (map_some)
open Bool (decide_and)
namespace Go.Proofs.Ytcgddnpfapcohaa.Den
open Go.Proofs
set_option maxRecDepth 100000
@[match_pattern] abbrev LCd:Cd:=.pair (.int .i64) (.pair .str (.pair (.int .i64) (.pair .bool (.pair (.int .i64) .unit))))
@[match_pattern] abbrev TCd:Cd:=.pair (.int .i64) (.pair .str (.pair (.int .i64) (.pair .bool (.pair (.int .i64) (.pair (.int .i64) .unit)))))
@[match_pattern] abbrev NCd:Cd:=.pair (.int .i64) (.pair .str (.pair (.int .i64) (.pair (.int .i64) (.pair .bool .unit))))
@[match_pattern] abbrev VCd:Cd:=.pair (.int .i64) (.pair .str (.pair (.int .i64) (.pair .bool .unit)))
@[match_pattern] abbrev WCd:Cd:=.pair (.int .i64) (.pair (.int .i64) (.pair (.int .i64) (.pair .str (.pair (.int .i64) (.pair (.int .i64) .unit)))))
@[match_pattern] abbrev NTd:Cd:=.pair .str (.pair (.int .i64) (.pair .str .unit))
@[match_pattern] abbrev FCd:Cd:=.pair (.int .i64) (.pair (.int .i64) (.pair (.int .i64) (.pair .str .unit)))
@[match_pattern] abbrev PCd:Cd:=.pair FCd (.pair (.int .i64) .unit)
@[match_pattern] abbrev TPd:Cd:=.pair .str (.pair (.pair (.slice TCd) .unit) (.pair (.int .i64) .unit))
@[match_pattern] abbrev FNd:Cd:=.pair (.int .i64) (.pair .str (.pair (.pair (.slice WCd) .unit) (.pair (.pair (.slice TCd) .unit) (.pair (.slice NTd) (.pair (.int .i64) .unit)))))
@[match_pattern] abbrev V.j (n:Int):V:=.i .i64 n
@[match_pattern] abbrev R0 (c:Cd) (l:List c.den):Option Blk:=some (.row false none c l)
@[match_pattern] abbrev D0 (c:Cd) (l:List c.den):Option Blk:=some (.drow c l none)
abbrev nF:Option (V×List (Option Blk)):=some (V.b false,[])
abbrev rF:Option (Ex×Dt):=some (Ex.ret,[V.b false],[])
abbrev Gm:=List V->List Blk->Br (V×List (Option Blk))
theorem dcT {p:Prop} [Decidable p] (h:p):decide p=true:=decide_eq_true h
theorem dcF {p:Prop} [Decidable p] (h : ¬p):decide p=false:=decide_eq_false h
theorem dcE {p:Prop} [Decidable p]:(decide p=true)=p:=decide_eq_true_eq
theorem anE (a b:Bool):((a&&b)=true)=(a=true/\b=true):=Bool.and_eq_true a b
theorem ntN (n:Nat):(n:Int).toNat=n:=Int.toNat_natCast n
theorem gtE {α:Type _} {l:List α} {i:Nat} (h:i<l.length):l[i]? = some l[i]:=List.getElem?_eq_getElem h
theorem kc {P:Program} {K:FuncId} {fn:Func} (hf:P.funcs[K]? = some fn) {e:Ent} {l:List (FuncId×Ent)} (h2:Ab P K e.F) (h:KnowsL P l) (hn:(fn.name == "runtime.NumGoroutine")=false:=by kernel_rfl) (hb:fn.body.isNone=false:=by kernel_rfl):KnowsL P ((K,e)::l):=.cons (NG hf hn hb) h2 h
theorem mxI:maxI=9223372036854775807:=rfl
theorem lfP {α β:Type} {a c:α} {b d:β} (h:(Br.leaf (a,b)).run=some (c,d)):a=c/\b=d:=Prod.mk.inj (BV h)
section
variable {P:Program} {Γ:FuncId->Option Ent} {Λ:Nat->Option LoopEnt}
theorem stp {m:Nat} {a:Code} {ent:LoopEnt} {d:Dt} {e:Ex} {d':Dt} (h:AD P Γ Λ m a ent d=some (e,d')) (he:e≠.normal:=by simp):Runs P Γ Λ m a ent d e d':=.stop d e d' h he
theorem sts {m:Nat} {a:Code} {ent:LoopEnt} {d d1:Dt} {e:Ex} {d':Dt} (h:AD P Γ Λ m a ent d=some (.normal,d1)) (hr:Runs P Γ Λ m a ent d1 e d'):Runs P Γ Λ m a ent d e d':=.step d d1 e d' h hr
theorem fcC (hG:Knows P Γ) {K:FuncId} {fn:Func} (hf:P.funcs[K]? = some fn) {F:List V->List Blk->Option (V×List (Option Blk))} (hF : ∀ vs bs r,F vs bs=some r->Az P Γ Λ bs.length (fn.body.getD .skip)/\BX P Γ Λ fn vs bs=some r) (hb:fn.body=some (fn.body.getD .skip):=by kernel_rfl):Ab P K F:=Dm hG hf hb fun vs bs r h _ _=>hF vs bs r h
theorem fcN (hG:Knows P Γ) {K:FuncId} {fn:Func} (hf:P.funcs[K]? = some fn) {F:List V->List Blk->Option (V×List (Option Blk))} (hF : ∀ vs bs r,F vs bs=some r->Az P Γ Λ bs.length (fn.body.getD .skip)/\Dq P Γ Λ fn vs bs=some r) (hb:fn.body=some (fn.body.getD .skip):=by kernel_rfl):Ab P K F:=HJ hG hf hb fun vs bs r h _ _=>hF vs bs r h
theorem fcK (hG:Knows P Γ) {K:FuncId} {fn:Func} (hf:P.funcs[K]? = some fn) {F:List V->List Blk->Option (V×List (Option Blk))} (hF : ∀ vs bs r,F vs bs=some r->Az P Γ Λ bs.length (fn.body.getD .skip)/\AV P Γ Λ fn vs bs=some r) (hb:fn.body=some (fn.body.getD .skip):=by kernel_rfl):Ab P K F:=C7 hG hf hb fun vs bs r h _ _=>hF vs bs r h
end
theorem T2 {β:Type} {A B:Prop} [Decidable A] [Decidable B] {k:Option β} (h:A/\B):ifT (decide A&&decide B) k=k:=Ag (by rw [decide_eq_true h.1,decide_eq_true h.2]; rfl)
@[match_pattern] abbrev Lt (a:Int) (b:List UInt8) (c:Int) (d:Bool) (e:Int) (f:List (Cd.rose LCd).den):List V:=[.i .i64 a,.s b,.i .i64 c,.b d,.i .i64 e,.sl (.rose LCd) f]
@[match_pattern] abbrev Lv (a:Int) (b:List UInt8) (c:Int) (d:Bool) (f:List (Cd.rose VCd).den):List V:=[.i .i64 a,.s b,.i .i64 c,.b d,.sl (.rose VCd) f]
@[match_pattern] abbrev Lf (a:Int) (b:List UInt8) (c:List WCd.den) (d:List TCd.den) (e:List NTd.den) (f:Int):List V:=[.i .i64 a,.s b,.sl WCd c,.sl TCd d,.sl NTd e,.i .i64 f]
@[match_pattern] abbrev Lw (a b c:Int) (d:List UInt8) (e f:Int):List V:=[.i .i64 a,.i .i64 b,.i .i64 c,.s d,.i .i64 e,.i .i64 f]
@[match_pattern] abbrev Ly (a:Int) (b:List UInt8) (c:Int) (d:Bool) (e f:Int):List V:=[.i .i64 a,.s b,.i .i64 c,.b d,.i .i64 e,.i .i64 f]
abbrev By:=List UInt8
abbrev RL:=List (Rose (Int×List UInt8×Int×Bool×Int×Unit))
abbrev RVL:=List (Rose (Int×List UInt8×Int×Bool×Unit))
structure Cur where
 l:List Int
 a:Int
 s:Int
def Cur.byte (c:Cur):Int:=if c.a<c.l.length then i64.wrap (c.l.getD c.a.toNat 0) else 0
def Cur.seed (c:Cur):Int:=IntKind.u64.wrap (IntKind.u64.wrap (IntKind.u64.wrap (c.s*6364136223846793005)+IntKind.u64.wrap c.byte)+1442695040888963407)
def Cur.val (c:Cur):Int:=if c.a+1<=c.l.length then c.byte else i64.wrap (IntKind.u64.wrap (((BitVec.ofInt IntKind.u64.bits (c.seed.fdiv ((2:Int) ^ min 40 IntKind.u64.bits)) &&& BitVec.ofInt IntKind.u64.bits 255).toNat:Nat):Int))
def Cur.adv (c:Cur):Cur:=⟨c.l,c.a+1,c.seed⟩
def Cur.good (c:Cur) (n:Int):Prop:=(∀ z∈c.l,0<=z/\z<=255)/\0<=c.a/\c.a<=n
instance (c:Cur) (n:Int):Decidable (c.good n):=by unfold Cur.good; exact inferInstance
def Cur.pickV (c:Cur) (n:Int):Int:=if n<=1 then 0 else if n>200 then (c.val*256+c.adv.val).tmod n else c.val.tmod n
def Cur.pickC (c:Cur) (n:Int):Cur:=if n<=1 then c else if n>200 then c.adv.adv else c.adv
def JC:Gm
 | [.ptr 0 0],[.box [.sl (.int .u8) l,.j a,.i .u64 s]]=>.need (decide ((Cur.mk l a s).good 1000000000)) (.leaf (.j (Cur.mk l a s).val,[some (.box [.sl (.int .u8) (Cur.mk l a s).adv.l,.j (Cur.mk l a s).adv.a,.i .u64 (Cur.mk l a s).adv.s])]))
 | _,_=>.no
theorem Cur.byte_range {c:Cur} {n:Int} (h:c.good n):0<=c.byte/\c.byte<=255:=by
 unfold Cur.byte;split
 ·rename_i ha;have h0:=h.2.1;have hi:c.a.toNat<c.l.length:=by omega
  have hz:=h.1 _ (getElem_mem hi);have eg:c.l.getD c.a.toNat 0=c.l[c.a.toNat]:=by simp [hi]
  rw [eg,Ba (by omega) (by omega)];exact hz
 ·omega
theorem Cur.val_range {c:Cur} {n:Int} (h:c.good n):0<=c.val/\c.val<=255:=by
 unfold Cur.val;split
 ·exact Cur.byte_range h
 ·generalize BitVec.ofInt IntKind.u64.bits (c.seed.fdiv ((2:Int) ^ min 40 IntKind.u64.bits))=x
  have hx:(x &&& BitVec.ofInt IntKind.u64.bits 255).toNat<=255:=by
   rw [BitVec.toNat_and];exact le_trans Nat.and_le_right (by decide)
  generalize (x &&& BitVec.ofInt IntKind.u64.bits 255).toNat=m at hx
  have e1:IntKind.u64.wrap (m:Int)=(m:Int):=by
   unfold IntKind.wrap;simp [IntKind.bits,IntKind.signed];omega
  rw [e1,Ba (by omega) (by omega)];omega
theorem Cur.adv_good {c:Cur} {n:Int} (h:c.good n):c.adv.good (n+1):=⟨h.1,by show 0<=c.a+1; have:=h.2.1; omega,by show c.a+1<=n+1; have:=h.2.2; omega⟩
theorem Cur.good_mono {c:Cur} {n m:Int} (h:c.good n) (hm:n<=m):c.good m:=⟨h.1,h.2.1,by have:=h.2.2; omega⟩
theorem Cur.pickC_good {c:Cur} {n k:Int} (h:c.good n):(c.pickC k).good (n+2):=by
 unfold Cur.pickC;split
 ·exact Cur.good_mono h (by omega)
 ·split
  ·have:=Cur.adv_good (Cur.adv_good h);exact Cur.good_mono this (by omega)
  ·exact Cur.good_mono (Cur.adv_good h) (by omega)
theorem Cur.pickV_range {c:Cur} {n k:Int} (h:c.good n) (hk:1<=k):0<=c.pickV k/\c.pickV k<k:=by
 have h1:=Cur.val_range h;have h2:=Cur.val_range (Cur.adv_good h);unfold Cur.pickV;split
 ·omega
 ·split
  ·rw [Int.tmod_eq_emod_of_nonneg (by omega)];exact ⟨Int.emod_nonneg _ (by omega),Int.emod_lt_of_pos _ (by omega)⟩
  ·rw [Int.tmod_eq_emod_of_nonneg (by omega)];exact ⟨Int.emod_nonneg _ (by omega),Int.emod_lt_of_pos _ (by omega)⟩
theorem NP (l:List Int) (a s:Int) (hc:(Cur.mk l a s).good 1000000000):AV prog (Aa []) (Aa []) f56 [.ptr 0 0] [.box [.sl (.int .u8) l,.j a,.i .u64 s]]=(.leaf (.j (Cur.mk l a s).val,[some (.box [.sl (.int .u8) (Cur.mk l a s).adv.l,.j (Cur.mk l a s).adv.a,.i .u64 (Cur.mk l a s).adv.s])]):Br (V×List (Option Blk))).run:=by
 have e:AV prog (Aa []) (Aa []) f56 [.ptr 0 0] [.box [.sl (.int .u8) l,.j a,.i .u64 s]] =
  ((ifB (decide (a<(↑l.length:Int))) (ifT (decide (0<=a)&&decide (a<(↑l.length:Int))) (Am l[a.toNat]? fun z=>ifB (decide (i64.wrap (a+1)<=
 (↑l.length:Int))) (some (V.j (i64.wrap z),[some (Blk.box [V.sl (Cd.int .u8) l,V.j (i64.wrap (a+1)),V.i .u64 (IntKind.u64.wrap
 (IntKind.u64.wrap (IntKind.u64.wrap (s*6364136223846793005)+IntKind.u64.wrap (i64.wrap z))+(1442695040888963407:Int)))])])) (some (V.i .i64
 (i64.wrap (IntKind.u64.wrap (↑(BitVec.ofInt IntKind.u64.bits ((IntKind.u64.wrap (IntKind.u64.wrap (IntKind.u64.wrap (s*6364136223846793005)+IntKind.u64.wrap
 (i64.wrap z))+(1442695040888963407:Int))).fdiv ((2:Int) ^ min 40 IntKind.u64.bits)) &&& BitVec.ofInt IntKind.u64.bits (255:Int)).toNat:Int))),
 [some (Blk.box [V.sl (Cd.int .u8) l,V.j (i64.wrap (a+1)),V.i .u64 (IntKind.u64.wrap (IntKind.u64.wrap (IntKind.u64.wrap (s*6364136223846793005) +
 IntKind.u64.wrap (i64.wrap z))+(1442695040888963407:Int)))])])))) (ifB (decide (i64.wrap (a+1)<=(↑l.length:Int))) (some (V.j 0,[some
 (Blk.box [V.sl (Cd.int .u8) l,V.j (i64.wrap (a+1)),V.i .u64 (IntKind.u64.wrap (IntKind.u64.wrap (IntKind.u64.wrap (s*6364136223846793005) +
 IntKind.u64.wrap (0:Int))+(1442695040888963407:Int)))])])) (some (V.j (i64.wrap (IntKind.u64.wrap (↑(BitVec.ofInt IntKind.u64.bits ((IntKind.u64.wrap
 (IntKind.u64.wrap (IntKind.u64.wrap (s*6364136223846793005)+IntKind.u64.wrap (0:Int))+(1442695040888963407:Int))).fdiv ((2:Int) ^ min 40
 IntKind.u64.bits)) &&& BitVec.ofInt IntKind.u64.bits (255:Int)).toNat:Int))),[some (Blk.box [V.sl (Cd.int .u8) l,V.j (i64.wrap (a+1)),V.i .u64
 (IntKind.u64.wrap (IntKind.u64.wrap (IntKind.u64.wrap (s*6364136223846793005)+IntKind.u64.wrap (0:Int))+(1442695040888963407:Int)))])])))):_):=by kernel_rfl
 rw [e];clear e;have h0:=hc.2.1;have h1:=hc.2.2;dsimp only at h0 h1;rw [Ba (n:=a+1) (by omega) (by omega)]
 by_cases q:a<(l.length:Int)
 ·have hi:a.toNat<l.length:=by omega
  have eb:(Cur.mk l a s).byte=i64.wrap l[a.toNat]:=by unfold Cur.byte; dsimp only; rw [if_pos q]; simp [hi]
  have q1:a+1<=(l.length:Int):=by omega
  rw [Aj (dcT q),T2 (by omega),gtE hi,Ao,Aj (dcT q1),<-eb];have ev:(Cur.mk l a s).val=(Cur.mk l a s).byte:=by unfold Cur.val; dsimp only; rw [if_pos q1]
  rw [ev];rfl
 ·have eb:(Cur.mk l a s).byte=0:=by unfold Cur.byte; dsimp only; rw [if_neg q]
  have q1 : ¬a+1<=(l.length:Int):=by omega
  rw [Ah (dcF q),Ah (dcF q1),<-eb];have ev:(Cur.mk l a s).val=i64.wrap (IntKind.u64.wrap (((BitVec.ofInt IntKind.u64.bits ((Cur.mk l a s).seed.fdiv ((2:Int) ^ min 40 IntKind.u64.bits)) &&& BitVec.ofInt IntKind.u64.bits 255).toNat:Nat):Int)):=by unfold Cur.val; dsimp only; rw [if_neg q1]
  rw [ev];rfl
theorem Sv:Ab prog 56 (Ent.own JC).F:=by
 refine fcK KnowsL.nil.knows (Λ:=Aa []) func56 fun vs bs r h=>?_
 unfold Ent.F JC at h;dsimp only at h;split at h
 ·rename_i l a s;obtain ⟨hc,h⟩:=Ae h;exact ⟨Aq _,(NP l a s (of_decide_eq_true hc)).trans h⟩
 ·cases h
def BD:Gm
 | [.ptr 0 0,.j n],[.box [.sl (.int .u8) l,.j a,.i .u64 s]]=>.need (decide ((Cur.mk l a s).good 900000000)) (.leaf (.j ((Cur.mk l a s).pickV n),[some (.box [.sl (.int .u8) ((Cur.mk l a s).pickC n).l,.j ((Cur.mk l a s).pickC n).a,.i .u64 ((Cur.mk l a s).pickC n).s])]))
 | _,_=>.no
def EY:Gm
 | [.ptr 0 0,.j n],[.box [.sl (.int .u8) l,.j a,.i .u64 s]]=>.need (decide ((Cur.mk l a s).good 900000000)) (.leaf (.b ((Cur.mk l a s).pickV n==0),[some (.box [.sl (.int .u8) ((Cur.mk l a s).pickC n).l,.j ((Cur.mk l a s).pickC n).a,.i .u64 ((Cur.mk l a s).pickC n).s])]))
 | _,_=>.no
def GZ:Gm
 | [.ptr 0 0,.ref 1 p m],[.box [.sl (.int .u8) l,.j a,.i .u64 s],.row false nl (.int .i64) r]=>.need (decide ((Cur.mk l a s).good 900000000/\1<=m/\p+m<=r.length)) (.leaf (.j (r.getD (p+((Cur.mk l a s).pickV m).toNat) 0),[some (.box [.sl (.int .u8) ((Cur.mk l a s).pickC m).l,.j ((Cur.mk l a s).pickC m).a,.i .u64 ((Cur.mk l a s).pickC m).s]),some (.row false nl (.int .i64) r)]))
 | _,_=>.no
def Q5:Gm
 | [.ptr 0 0,.ref 1 p m],[.box [.sl (.int .u8) l,.j a,.i .u64 s],.row false nl .str r]=>.need (decide ((Cur.mk l a s).good 900000000/\1<=m/\p+m<=r.length)) (.leaf (.s (r.getD (p+((Cur.mk l a s).pickV m).toNat) []),[some (.box [.sl (.int .u8) ((Cur.mk l a s).pickC m).l,.j ((Cur.mk l a s).pickC m).a,.i .u64 ((Cur.mk l a s).pickC m).s]),some (.row false nl .str r)]))
 | _,_=>.no
theorem NO (n:Int) (l:List Int) (a s:Int) (hc:(Cur.mk l a s).good 900000000):AV prog (Aa [(56,.own JC)]) (Aa []) f40 [.ptr 0 0,.j n] [.box [.sl (.int .u8) l,.j a,.i .u64 s]]=(.leaf (.j ((Cur.mk l a s).pickV n),[some (.box [.sl (.int .u8) ((Cur.mk l a s).pickC n).l,.j ((Cur.mk l a s).pickC n).a,.i .u64 ((Cur.mk l a s).pickC n).s])]):Br (V×List (Option Blk))).run:=by
 have e:AV prog (Aa [(56,.own JC)]) (Aa []) f40 [.ptr 0 0,.j n] [.box [.sl (.int .u8) l,.j a,.i .u64 s]] =
  ((ifB (decide (n<=1)) (some (V.j 0,[some (Blk.box [V.sl (Cd.int .u8) l,V.j a,V.i .u64 s])])) (ifT (decide ((Cur.mk l a s).good (1000000000:Int))) (ifB
 (decide (n>200)) (ifT (decide ((Cur.mk l a s).adv.good (1000000000:Int))) (ifT (!decide (n=0)) (some (V.j ((i64.wrap (i64.wrap ((Cur.mk l a
 s).val*(256:Int))+(Cur.mk l a s).adv.val)).tmod n),[some (Blk.box [V.sl (Cd.int .u8) (Cur.mk l a s).adv.adv.l,V.j (Cur.mk l a s).adv.adv.a,V.i .u64 (Cur.mk
 l a s).adv.adv.s])])))) (ifT (!decide (n=0)) (some (V.j ((Cur.mk l a s).val.tmod n),[some (Blk.box [V.sl (Cd.int .u8) (Cur.mk l a s).adv.l,V.j (Cur.mk l a
 s).adv.a,V.i .u64 (Cur.mk l a s).adv.s])])))))):_):=by kernel_rfl
 rw [e];clear e;have g0:(Cur.mk l a s).good 1000000000:=Cur.good_mono hc (by omega);have g1:(Cur.mk l a s).adv.good 1000000000:=Cur.good_mono (Cur.adv_good hc) (by omega);have r0:=Cur.val_range g0;have r1:=Cur.val_range g1;unfold Cur.pickV Cur.pickC
 try rw [show Cur.mk (Cur.mk l a s).adv.l (Cur.mk l a s).adv.a (Cur.mk l a s).adv.s=(Cur.mk l a s).adv from rfl]
 by_cases q:n<=1
 ·rw [Aj (dcT q),if_pos q,if_pos q]; rfl
 ·rw [Ah (dcF q),Ag (dcT g0),if_neg q,if_neg q]
  by_cases q2:n>200
  ·rw [Aj (dcT q2),Ag (dcT g1),Ag (by simp; omega),if_pos q2,if_pos q2,Ba (n:=(Cur.mk l a s).val*256) (by omega) (by omega),Ba (by omega) (by omega)]; rfl
  ·rw [Ah (dcF q2),Ag (by simp; omega),if_neg q2,if_neg q2]; rfl
theorem HU:Ab prog 40 (Ent.own BD).F:=by
 refine fcK (kc func56 Sv KnowsL.nil).knows (Λ:=Aa []) func40 fun vs bs r h=>?_
 unfold Ent.F BD at h;dsimp only at h;split at h
 ·rename_i n l a s;obtain ⟨hc,h⟩:=Ae h;exact ⟨Aq _,(NO n l a s (of_decide_eq_true hc)).trans h⟩
 ·cases h
theorem PB (n:Int) (l:List Int) (a s:Int) (hc:(Cur.mk l a s).good 900000000):AV prog (Aa [(40,.own BD)]) (Aa []) f23 [.ptr 0 0,.j n] [.box [.sl (.int .u8) l,.j a,.i .u64 s]]=(.leaf (.b ((Cur.mk l a s).pickV n==0),[some (.box [.sl (.int .u8) ((Cur.mk l a s).pickC n).l,.j ((Cur.mk l a s).pickC n).a,.i .u64 ((Cur.mk l a s).pickC n).s])]):Br (V×List (Option Blk))).run:=by
 have e:AV prog (Aa [(40,.own BD)]) (Aa []) f23 [.ptr 0 0,.j n] [.box [.sl (.int .u8) l,.j a,.i .u64 s]] =
  ((ifT (decide ((Cur.mk l a s).good (900000000:Int))) (some (V.b ((Cur.mk l a s).pickV n==0),[some (Blk.box [V.sl (Cd.int .u8) ((Cur.mk l a s).pickC n).l,V.i .i64
 ((Cur.mk l a s).pickC n).a,V.i .u64 ((Cur.mk l a s).pickC n).s])]))):_):=by kernel_rfl
 rw [e,Ag (dcT hc)];rfl
theorem RD:Ab prog 23 (Ent.own EY).F:=by
 refine fcK (kc func40 HU KnowsL.nil).knows (Λ:=Aa []) func23 fun vs bs r h=>?_
 unfold Ent.F EY at h;dsimp only at h;split at h
 ·rename_i n l a s;obtain ⟨hc,h⟩:=Ae h;exact ⟨Aq _,(PB n l a s (of_decide_eq_true hc)).trans h⟩
 ·cases h
theorem Mr (p m:Nat) (l:List Int) (a s:Int) (nl:Option Bool) (r:List Int) (hc:(Cur.mk l a s).good 900000000/\1<=m/\p+m<=r.length):AV prog (Aa [(40,.own BD)]) (Aa []) f41 [.ptr 0 0,.ref 1 p m] [.box [.sl (.int .u8) l,.j a,.i .u64 s],.row false nl (.int .i64) r]=(.leaf (.j (r.getD (p+((Cur.mk l a s).pickV m).toNat) 0),[some (.box [.sl (.int .u8) ((Cur.mk l a s).pickC m).l,.j ((Cur.mk l a s).pickC m).a,.i .u64 ((Cur.mk l a s).pickC m).s]),some (.row false nl (.int .i64) r)]):Br (V×List (Option Blk))).run:=by
 have e:AV prog (Aa [(40,.own BD)]) (Aa []) f41 [.ptr 0 0,.ref 1 p m] [.box [.sl (.int .u8) l,.j a,.i .u64 s],.row false nl (.int .i64) r] =
  ((ifT (decide ((Cur.mk l a s).good (900000000:Int))) (ifT (decide ((0:Int)<=(Cur.mk l a s).pickV (↑m:Int))&&decide ((Cur.mk l a s).pickV (↑m:Int)<(↑m:Int)))
 (Am r[p+((Cur.mk l a s).pickV (↑m:Int)).toNat]? fun z=>some (V.j z,[some (Blk.box [V.sl (Cd.int .u8) ((Cur.mk l a s).pickC (↑m:Int)).l,V.i .i64
 ((Cur.mk l a s).pickC (↑m:Int)).a,V.i .u64 ((Cur.mk l a s).pickC (↑m:Int)).s]),some (Blk.row false nl (Cd.int .i64) r)])))):_):=by kernel_rfl
 obtain ⟨h1,h2,h3⟩:=hc;have hr:=Cur.pickV_range (k:=(m:Int)) h1 (by omega);have hi:p+((Cur.mk l a s).pickV m).toNat<r.length:=by omega
 have eg:r.getD (p+((Cur.mk l a s).pickV m).toNat) 0=r[p+((Cur.mk l a s).pickV m).toNat]:=by simp [hi]
 rw [e,Ag (dcT h1),T2 (by omega),gtE hi,Ao,eg];rfl
theorem RF:Ab prog 41 (Ent.own GZ).F:=by
 refine fcK (kc func40 HU KnowsL.nil).knows (Λ:=Aa []) func41 fun vs bs r h=>?_
 unfold Ent.F GZ at h;dsimp only at h;split at h
 ·rename_i p m l a s nl r;obtain ⟨hc,h⟩:=Ae h;exact ⟨Aq _,(Mr p m l a s nl r (of_decide_eq_true hc)).trans h⟩
 ·cases h
theorem Q4 (p m:Nat) (l:List Int) (a s:Int) (nl:Option Bool) (r:List (By)) (hc:(Cur.mk l a s).good 900000000/\1<=m/\p+m<=r.length):AV prog (Aa [(40,.own BD)]) (Aa []) f42 [.ptr 0 0,.ref 1 p m] [.box [.sl (.int .u8) l,.j a,.i .u64 s],.row false nl .str r]=(.leaf (.s (r.getD (p+((Cur.mk l a s).pickV m).toNat) []),[some (.box [.sl (.int .u8) ((Cur.mk l a s).pickC m).l,.j ((Cur.mk l a s).pickC m).a,.i .u64 ((Cur.mk l a s).pickC m).s]),some (.row false nl .str r)]):Br (V×List (Option Blk))).run:=by
 have e:AV prog (Aa [(40,.own BD)]) (Aa []) f42 [.ptr 0 0,.ref 1 p m] [.box [.sl (.int .u8) l,.j a,.i .u64 s],.row false nl .str r] =
  ((ifT (decide ((Cur.mk l a s).good (900000000:Int))) (ifT (decide ((0:Int)<=(Cur.mk l a s).pickV (↑m:Int))&&decide ((Cur.mk l a s).pickV (↑m:Int)<(↑m:Int)))
 (Am r[p+((Cur.mk l a s).pickV (↑m:Int)).toNat]? fun z=>some (V.s z,[some (Blk.box [V.sl (Cd.int .u8) ((Cur.mk l a s).pickC (↑m:Int)).l,V.j ((Cur.mk l a
 s).pickC (↑m:Int)).a,V.i .u64 ((Cur.mk l a s).pickC (↑m:Int)).s]),some (Blk.row false nl Cd.str r)])))):_):=by kernel_rfl
 obtain ⟨h1,h2,h3⟩:=hc;have hr:=Cur.pickV_range (k:=(m:Int)) h1 (by omega);have hi:p+((Cur.mk l a s).pickV m).toNat<r.length:=by omega
 have eg:r.getD (p+((Cur.mk l a s).pickV m).toNat) []=r[p+((Cur.mk l a s).pickV m).toNat]:=by simp [hi]
 rw [e,Ag (dcT h1),T2 (by omega),gtE hi,Ao,eg];rfl
theorem cof:Ab prog 42 (Ent.own Q5).F:=by
 refine fcK (kc func40 HU KnowsL.nil).knows (Λ:=Aa []) func42 fun vs bs r h=>?_
 unfold Ent.F Q5 at h;dsimp only at h;split at h
 ·rename_i p m l a s nl r;obtain ⟨hc,h⟩:=Ae h;exact ⟨Aq _,(Q4 p m l a s nl r (of_decide_eq_true hc)).trans h⟩
 ·cases h
def shr {α β:Type} (a:α) (k:α->β):β:=k a
def Ex1 {β Y:Type} (t:Option β) (sh:Y->β) (Q:Y->Prop):Prop:=∃ y,t=some (sh y)/\Q y
def cB (c:Cur):Blk:=.box [.sl (.int .u8) c.l,.j c.a,.i .u64 c.s]
theorem D2 (c:Cur):Blk.box [V.sl (Cd.int IntKind.u8) c.l,V.i i64 c.a,V.i IntKind.u64 c.s]=cB c:=rfl
theorem SB (l:List Int) (a s:Int):Blk.box [V.sl (Cd.int IntKind.u8) l,V.i i64 a,V.i IntKind.u64 s]=cB (Cur.mk l a s):=rfl
theorem Cur.pk {c:Cur} {m k:Int} (h:c.good (m-2)):(c.pickC k).good m:=by
 have:=Cur.pickC_good (k:=k) h
 rwa [Int.sub_add_cancel] at this
theorem Ex1.sh {α β Y:Type} {a:α} {k:α->Option β} {sh:Y->β} {Q:Y->Prop} (h:Ex1 (k a) sh Q):Ex1 (shr a k) sh Q:=h
theorem Ex1.T {β Y:Type} {c:Bool} {x:Option β} {sh:Y->β} {Q:Y->Prop} (h:c=true) (k:Ex1 x sh Q):Ex1 (ifT c x) sh Q:=by subst h; exact k
theorem Ex1.B {β Y:Type} {c:Bool} {x y:Option β} {sh:Y->β} {Q:Y->Prop} (h1:c=true->Ex1 x sh Q) (h2:c=false->Ex1 y sh Q):Ex1 (ifB c x y) sh Q:=by
 cases c with
 | true=>exact h1 rfl
 | false=>exact h2 rfl
theorem Ex1.S {α β Y:Type} {o:Option α} {k:α->Option β} {sh:Y->β} {Q:Y->Prop} (h : ∃ z,o=some z) (hk : ∀ z,o=some z->Ex1 (k z) sh Q):Ex1 (Am o k) sh Q:=by
 obtain ⟨z,rfl⟩:=h;exact hk z rfl
theorem Ex1.L {β Y:Type} {b:β} {sh:Y->β} {Q:Y->Prop} (y:Y) (h:b=sh y) (q:Q y):Ex1 (some b) sh Q:=⟨y,by rw [h],q⟩
theorem Ex1.P {α β Y:Type} {a:α} {b:β} {sh:Y->α×β} {Q:Y->Prop} (y:Y) (h2:b=(sh y).2) (h1:a=(sh y).1) (q:Q y):Ex1 (some (a,b)) sh Q:=⟨y,by rw [h1,h2],q⟩
theorem Ex1.P3 {α β γ Y:Type} {a:α} {b:β} {c:γ} {sh:Y->α×β×γ} {Q:Y->Prop} (y:Y) (h3:c=(sh y).2.2) (h2:b=(sh y).2.1) (h1:a=(sh y).1) (q:Q y):Ex1 (some (a,b,c)) sh Q:=⟨y,by rw [h1,h2,h3],q⟩
theorem Ex1.c {Y:Type} {v:V} {c:Cur} {B:List (Option Blk)} {s1:Y×Cur->V} {s2:Y×Cur->List (Option Blk)} {Q:Y×Cur->Prop} (y:Y) (h2:B=s2 (y,c)) (h1:v=s1 (y,c)) (q:Q (y,c)):Ex1 (some (v,some (cB c)::B)) (fun y=>(s1 y,some (cB y.2)::s2 y)) Q:=⟨(y,c),by rw [h1,h2],q⟩
theorem Ex1.of {β Y:Type} {t t':Option β} {sh:Y->β} {Q:Y->Prop} (e:t=t') (k:Ex1 t' sh Q):Ex1 t sh Q:=by subst e; exact k
theorem Ex1.mono {β Y:Type} {t:Option β} {sh:Y->β} {Q Q':Y->Prop} (k:Ex1 t sh Q) (h : ∀ y,Q y->Q' y):Ex1 t sh Q':=by obtain ⟨y,h1,h2⟩:=k; exact ⟨y,h1,h y h2⟩
theorem EI {X Y:Type} (y0:Y) {I:X->Prop} {R:X->Y->Prop} (h : ∀ x,I x->∃ y,R x y) : ∃ f:X->Y,∀ x,I x->R x (f x):=by
 classical
 exact ⟨fun x=>if hx:I x then (h x hx).choose else y0,fun x hx=>by simp only [dif_pos hx]; exact (h x hx).choose_spec⟩
theorem Kv {ι:Type} (o0:ι) {P:Program} {Γ:FuncId->Option Ent} {Λ:ι->Nat->Option LoopEnt} {m:Nat} {a:Code} {ent:ι->LoopEnt} {X Y:Type} (H:X->Dt) (E:Y->Ex×Dt) (hE : ∀ y,(E y).1≠.normal) (I:X->Prop) (Q:X->Y->Prop) (μ:X->Nat)
  (hT : ∀ o x,I x->AD P Γ (Λ o) m a (ent o) (H x)=AD P Γ (Λ o0) m a (ent o0) (H x))
  (hr : ∀ x,I x->Ex1 (AD P Γ (Λ o0) m a (ent o0) (H x)) E (Q x)\/Ex1 (AD P Γ (Λ o0) m a (ent o0) (H x)) (fun x'=>(.normal,H x')) (fun x'=>I x'/\μ x'<μ x/\∀ y,Q x' y->Q x y)) :
  ∀ x,I x->∃ y,(∀ o,Runs P Γ (Λ o) m a (ent o) (H x) (E y).1 (E y).2)/\Q x y:=by
 have key : ∀ n x,μ x<=n->I x->∃ y,(∀ o,Runs P Γ (Λ o) m a (ent o) (H x) (E y).1 (E y).2)/\Q x y:=by
  intro n
  induction n with
  | zero=>
   intro x hx hI;rcases hr x hI with ⟨y,h1,h2⟩ | ⟨x',h1,h2,h3,h4⟩
   ·exact ⟨y,fun o=>.stop _ _ _ ((hT o x hI).trans h1) (hE y),h2⟩
   ·omega
  | succ n ih=>
   intro x hx hI;rcases hr x hI with ⟨y,h1,h2⟩ | ⟨x',h1,h2,h3,h4⟩
   ·exact ⟨y,fun o=>.stop _ _ _ ((hT o x hI).trans h1) (hE y),h2⟩
   ·obtain ⟨y,h5,h6⟩:=ih x' (by omega) h2;exact ⟨y,fun o=>sts ((hT o x hI).trans h1) (h5 o),h4 y h6⟩
 exact fun x hI=>key (μ x) x (Nat.le_refl _) hI
def AS:Gm
 | [.j a,.j b,.j c],[]=>.leaf (.b (decide (b<=a/\a<=c)),[])
 | _,_=>.no
theorem Lx (a b c:Int):AV prog (Aa []) (Aa []) f26 [.j a,.j b,.j c] []=(.leaf (.b (decide (b<=a/\a<=c)),[]):Br (V×List (Option Blk))).run:=by
 have e:AV prog (Aa []) (Aa []) f26 [.j a,.j b,.j c] []=((ifB (decide (a>=b)) (some (V.b (decide (a<=c)),[])) nF):_):=by kernel_rfl
 rw [e];clear e
 by_cases q1:a>=b<;>by_cases q2:a<=c<;>simp [q1,q2,Br.run]<;>omega
theorem IT:Ab prog 26 (Ent.rd1 AS).F:=by
 refine fcK KnowsL.nil.knows (Λ:=Aa []) func26 fun vs bs r' hq=>?_
 unfold Ent.F AS at hq;dsimp only at hq;split at hq
 ·rename_i a b c;exact ⟨Aq _,(Lx a b c).trans hq⟩
 ·cases hq
theorem OP (a b c:Int):AV prog (Aa []) (Aa []) f32 [.j a,.j b,.j c] []=(.leaf (.b (decide (b<=a/\a<=c)),[]):Br (V×List (Option Blk))).run:=by
 have e:AV prog (Aa []) (Aa []) f32 [.j a,.j b,.j c] []=((ifB (decide (a>=b)) (some (V.b (decide (a<=c)),[])) nF):_):=by kernel_rfl
 rw [e];clear e
 by_cases q1:a>=b<;>by_cases q2:a<=c<;>simp [q1,q2,Br.run]<;>omega
theorem Ri:Ab prog 32 (Ent.rd1 AS).F:=by
 refine fcK KnowsL.nil.knows (Λ:=Aa []) func32 fun vs bs r' hq=>?_
 unfold Ent.F AS at hq;dsimp only at hq;split at hq
 ·rename_i a b c;exact ⟨Aq _,(OP a b c).trans hq⟩
 ·cases hq
abbrev Lab:=Int×By×Int×Bool×Int×Unit
abbrev Ty:=Int×By×Int×Bool×Int×Int×Unit
def H2 (b:UInt8):Bool:=decide (97<=b.toNat)&&decide (b.toNat<=122)
def E2 (s:By):Bool:=s.all H2&&(decide (1<=s.length)&&decide (s.length<=10))
def Au (k:Int):Bool:=k==4||k==5
def Dh (k:Int) (x:Lab):Bool:=if k=5 then E2 x.2.1&&(decide (1<=x.2.2.1)&&decide (x.2.2.1<=30)) else x.2.1==[]&&x.2.2.1==0&&!x.2.2.2.1
def Hw:Gm
 | [.s s],[]=>.need (decide (s.length<=maxI)) (.leaf (.b (E2 s),[]))
 | _,_=>.no
def GV:Gm
 | [.tp LCd z 0],[]=>.leaf (.b (Au z.lab.1),[])
 | _,_=>.no
def FL:Gm
 | [.j k],[]=>.leaf (.b (Au k),[])
 | _,_=>.no
def Jk:Gm
 | [.tp LCd z 0,.j k],[]=>.need (decide (z.lab.2.1.length<=maxI)) (.leaf (.b (Dh k z.lab),[]))
 | _,_=>.no
def Ft:LoopEnt:=⟨23,[0,5,6],[0],[2],fun
 | ([.s s,.j m,.j i],[])=>.need (decide (0<=i/\i.toNat<=s.length/\s.length<=maxI/\m=s.length)) (.br ((s.drop i.toNat).all H2) (.leaf (.exit 0,([.s s],[]))) (.leaf (.ret,([.b false],[]))))
 | _=>.no⟩
def Fg:LoopEnt:=⟨23,[0,3],[0],[2],fun
 | ([.s s,.j i],[])=>.need (decide (0<=i/\i.toNat<=s.length/\s.length<=maxI)) (.br ((s.drop i.toNat).all H2) (.leaf (.exit 0,([.s s],[]))) (.leaf (.ret,([.b false],[]))))
 | _=>.no⟩
theorem GE (s:By) (m i:Int):AD prog (Aa [(26,.rd1 AS)]) (Aa [(2,Ft)]) 0 (body f65 0) Ft ([.s s,.j m,.j i],[]) =
 ((ifB (decide (i<m)) (ifT (decide (0<=i)) (Am s[i.toNat]? fun z=>ifB (decide ((↑z.toNat:Int)<(97:Int))) rF (ifT (decide (0<=i))
 (Am s[i.toNat]? fun z=>ifB (decide ((↑z.toNat:Int)>(122:Int))) rF (some (Ex.normal,[V.s s,V.j m,V.i .i64
 (i64.wrap (i+1))],[])))))) (some (Ex.exit 0,[V.s s],[]))):_):=by kernel_rfl
theorem Po:Az prog (Aa [(26,.rd1 AS)]) (Aa [(2,Ft)]) 0 (f65.body.getD .skip):=by
 refine Aw (a:=body f65 0) (by kernel_rfl) fun d e d' h=>?_
 unfold Ft at h;dsimp only at h;split at h
 ·rename_i s m i;obtain ⟨hc,hx⟩:=Ae h;clear h;obtain ⟨h0,h1,h2,rfl⟩:=of_decide_eq_true hc;obtain ⟨i,rfl⟩:=eq_ofNat_of_zero_le h0;rw [ntN] at h1 hx;refine Ey (l:=s) H2 (fun i=>([.s s,.j (↑s.length:Int),.j (i:Int)],[])) (ex:=(.exit 0,([.s s],[]))) (rt:=(.ret,([.b false],[]))) (by simp) (by simp) (fun i hi=>?_) ?_ (s.length-i) i (by omega) e d' hx
  ·have hr:=GE s s.length i;rw [Aj (dcT (by omega))] at hr;simp only [ntN,gtE hi,Ao,AE (n:=i) (by omega)] at hr;refine hr.trans ?_;have hb:=s[i].toNat_lt;have hz:(0:Int)<=(i:Int):=by omega
   simp only [hz,decide_true,Eo];unfold H2;generalize s[i].toNat=b at *;have c1:decide ((b:Int)<97) = !decide (97<=b):=by rw [<-decide_not]; exact decide_eq_decide.2 (by omega)
   have c2:decide ((b:Int)>122) = !decide (b<=122):=by rw [<-decide_not]; exact decide_eq_decide.2 (by omega)
   simp only [c1,c2];cases decide (97<=b)<;>cases decide (b<=122)<;>rfl
  ·have hr:=GE s s.length s.length;rw [Ah (dcF (by omega))] at hr;exact hr
 ·cases h
theorem NA (s:By) (hc:s.length<=maxI):AV prog (Aa [(26,.rd1 AS)]) (Aa [(2,Ft)]) f65 [.s s] []=some (.b (E2 s),[]):=by
 have e:AV prog (Aa [(26,.rd1 AS)]) (Aa [(2,Ft)]) f65 [.s s] []=((ifT (decide ((0:Int)<=(0:Int)/\0<=s.length/\s.length<=maxI/\(↑s.length:Int)=(↑s.length:Int))) (ifB ((drop 0 s).all H2) (some (V.b
 (decide (1<=(↑s.length:Int)/\(↑s.length:Int)<=(10:Int))),[])) nF)):_):=by kernel_rfl
 rw [e];clear e;have hM:=mxI;rw [Ag (dcT (by simp; try omega))];simp only [drop_zero];unfold E2
 have d1:decide (1<=(s.length:Int)/\(s.length:Int)<=10)=(decide (1<=s.length)&&decide (s.length<=10)):=by
  rw [<-decide_and]; exact decide_eq_decide.2 (by omega)
 cases s.all H2
 ·rfl
 ·rw [Bs,d1]; rfl
theorem Si:Ab prog 65 (Ent.rd1 Hw).F:=by
 refine fcK (kc func26 IT KnowsL.nil).knows (Λ:=(Aa [(2,Ft)])) func65 fun vs bs r hq=>?_
 unfold Ent.F Hw at hq;dsimp only at hq;split at hq
 ·rename_i s;obtain ⟨hc,hx⟩:=Ae hq;exact ⟨Po,(NA s (of_decide_eq_true hc)).trans hx⟩
 ·cases hq
theorem G5 (s:By) (i:Int):AD prog (Aa [(32,.rd1 AS)]) (Aa [(2,Fg)]) 0 (body f55 0) Fg ([.s s,.j i],[]) =
 ((ifB (decide (i<(↑s.length:Int))) (ifT (decide (0<=i)) (Am s[i.toNat]? fun z=>ifB (decide ((↑z.toNat:Int)<(97:Int))) rF (ifT
 (decide (0<=i)) (Am s[i.toNat]? fun z=>ifB (decide ((↑z.toNat:Int)>(122:Int))) rF (some (Ex.normal,[V.s s,V.i .i64
 (i64.wrap (i+1))],[])))))) (some (Ex.exit 0,[V.s s],[]))):_):=by kernel_rfl
theorem Oi:Az prog (Aa [(32,.rd1 AS)]) (Aa [(2,Fg)]) 0 (f55.body.getD .skip):=by
 refine Aw (a:=body f55 0) (by kernel_rfl) fun d e d' h=>?_
 unfold Fg at h;dsimp only at h;split at h
 ·rename_i s i;obtain ⟨hc,hx⟩:=Ae h;clear h;obtain ⟨h0,h1,h2⟩:=of_decide_eq_true hc;obtain ⟨i,rfl⟩:=eq_ofNat_of_zero_le h0;rw [ntN] at h1 hx;refine Ey (l:=s) H2 (fun i=>([.s s,.j (i:Int)],[])) (ex:=(.exit 0,([.s s],[]))) (rt:=(.ret,([.b false],[]))) (by simp) (by simp) (fun i hi=>?_) ?_ (s.length-i) i (by omega) e d' hx
  ·have hr:=G5 s i;rw [Aj (dcT (by omega))] at hr;simp only [ntN,gtE hi,Ao,AE (n:=i) (by omega)] at hr;refine hr.trans ?_;have hb:=s[i].toNat_lt;have hz:(0:Int)<=(i:Int):=by omega
   simp only [hz,decide_true,Eo];unfold H2;generalize s[i].toNat=b at *;have c1:decide ((b:Int)<97) = !decide (97<=b):=by rw [<-decide_not]; exact decide_eq_decide.2 (by omega)
   have c2:decide ((b:Int)>122) = !decide (b<=122):=by rw [<-decide_not]; exact decide_eq_decide.2 (by omega)
   simp only [c1,c2];cases decide (97<=b)<;>cases decide (b<=122)<;>rfl
  ·have hr:=G5 s s.length;rw [Ah (dcF (by omega))] at hr;exact hr
 ·cases h
theorem Ng (s:By) (hc:s.length<=maxI):AV prog (Aa [(32,.rd1 AS)]) (Aa [(2,Fg)]) f55 [.s s] []=some (.b (E2 s),[]):=by
 have e:AV prog (Aa [(32,.rd1 AS)]) (Aa [(2,Fg)]) f55 [.s s] []=((ifT (decide ((0:Int)<=(0:Int)/\0<=s.length/\s.length<=maxI)) (ifB ((drop 0 s).all H2) (some (V.b (decide (1<=(↑s.length:Int)/\
 (↑s.length:Int)<=(10:Int))),[])) nF)):_):=by kernel_rfl
 rw [e];clear e;have hM:=mxI;rw [Ag (dcT (by simp; try omega))];simp only [drop_zero];unfold E2
 have d1:decide (1<=(s.length:Int)/\(s.length:Int)<=10)=(decide (1<=s.length)&&decide (s.length<=10)):=by
  rw [<-decide_and]; exact decide_eq_decide.2 (by omega)
 cases s.all H2
 ·rfl
 ·rw [Bs,d1]; rfl
theorem RR:Ab prog 55 (Ent.rd1 Hw).F:=by
 refine fcK (kc func32 Ri KnowsL.nil).knows (Λ:=(Aa [(2,Fg)])) func55 fun vs bs r hq=>?_
 unfold Ent.F Hw at hq;dsimp only at hq;split at hq
 ·rename_i s;obtain ⟨hc,hx⟩:=Ae hq;exact ⟨Oi,(Ng s (of_decide_eq_true hc)).trans hx⟩
 ·cases hq
theorem Mc (z:Rose Lab):AV prog (Aa []) (Aa []) f44 [.tp LCd z 0] []=(.leaf (.b (Au z.lab.1),[]):Br (V×List (Option Blk))).run:=by
 have e:AV prog (Aa []) (Aa []) f44 [.tp LCd z 0] []=((ifB (z.lab.1==(4:Int)) (some (V.b true,[])) (some (V.b (z.lab.1==(5:Int)),[]))):_):=by kernel_rfl
 rw [e];clear e;unfold Au;cases z.lab.1==4<;>rfl
theorem Pe:Ab prog 44 (Ent.rd1 GV).F:=by
 refine fcK KnowsL.nil.knows (Λ:=Aa []) func44 fun vs bs r' hq=>?_
 unfold Ent.F GV at hq;dsimp only at hq;split at hq
 ·rename_i z;exact ⟨Aq _,(Mc z).trans hq⟩
 ·cases hq
theorem K4 (k:Int):AV prog (Aa []) (Aa []) f53 [.j k] []=(.leaf (.b (Au k),[]):Br (V×List (Option Blk))).run:=by
 have e:AV prog (Aa []) (Aa []) f53 [.j k] []=((ifB (k==4) (some (V.b true,[])) (some (V.b (k==5),[]))):_):=by kernel_rfl
 rw [e];clear e;unfold Au;cases k==4<;>rfl
theorem MD:Ab prog 53 (Ent.rd1 FL).F:=by
 refine fcK KnowsL.nil.knows (Λ:=Aa []) func53 fun vs bs r' hq=>?_
 unfold Ent.F FL at hq;dsimp only at hq;split at hq
 ·rename_i k;exact ⟨Aq _,(K4 k).trans hq⟩
 ·cases hq
theorem LF (z:Rose Lab) (k:Int) (hc:z.lab.2.1.length<=maxI):AV prog (Aa [(65,.rd1 Hw),(26,.rd1 AS)]) (Aa []) f61 [.tp LCd z 0,.j k] []=some (.b (Dh k z.lab),[]):=by
 have e:AV prog (Aa [(65,.rd1 Hw),(26,.rd1 AS)]) (Aa []) f61 [.tp LCd z 0,.j k] []=((ifB (k==5) (ifT (decide (List.length z.lab.2.1<=maxI)) (ifB (E2 z.lab.2.1) (some (V.b (decide ((1:Int)<=z.lab.2.2.1/\z.lab.2.2.1<=(30 :
 Int))),[])) nF)) (ifB (z.lab.2.1==Ar UInt8) (ifB (z.lab.2.2.1==(0:Int)) (some (V.b !z.lab.2.2.2.1,[])) nF) nF)):_):=by kernel_rfl
 rw [e];clear e;rw [dcT hc];unfold Dh;have d1:decide (1<=z.lab.2.2.1/\z.lab.2.2.1<=30)=(decide (1<=z.lab.2.2.1)&&decide (z.lab.2.2.1<=30)):=decide_and ..
 by_cases q:k=5
 ·subst q;rw [Aj (by rfl),if_pos rfl,d1];cases E2 z.lab.2.1<;>rfl
 ·rw [Ah (beq_false_of_ne q),if_neg q];cases z.lab.2.1==[]<;>cases z.lab.2.2.1==0<;>rfl
theorem QZ:Ab prog 61 (Ent.rd1 Jk).F:=by
 refine fcK (kc func65 Si (kc func26 IT KnowsL.nil)).knows (Λ:=Aa []) func61 fun vs bs r hq=>?_
 unfold Ent.F Jk at hq;dsimp only at hq;split at hq
 ·rename_i z k;obtain ⟨hc,hx⟩:=Ae hq;exact ⟨Aq _,(LF z k (of_decide_eq_true hc)).trans hx⟩
 ·cases hq
def AG (l:List Ty) (i:Nat):Option Int:=(l[i]?).map fun x=>x.2.2.2.2.1
def At (l:List Ty) (i:Nat):Lab:=match l[i]? with | some x=>(x.1,x.2.1,x.2.2.1,x.2.2.2.1,x.2.2.2.2.2.1,()) | none=>(0,[],0,false,0,())
def AL (g:Nat->Rose Lab×Nat) (l:List Ty) (a:Nat):Nat->Nat->RL->RL×Nat
 | 0,e,ks=>(ks,e)
 | n+1,e,ks=>if AG l e=some (a:Int) then AL g l a n (g e).2 (ks++[(g e).1]) else (ks,e)
def kfr (l:List Ty):Nat->Nat->Rose Lab×Nat
 | 0,a=>(.node (At l a) [],a+1)
 | f+1,a=>
  let r:=bif Au (At l a).1 then AL (kfr l f) l a l.length (a+1) [] else ([],a+1)
  (.node (At l a) r.1,r.2)
def kf (l:List Ty) (a:Nat):Rose Lab×Nat:=kfr l l.length a
def kfG (n:Nat):Gm
 | [.sl TCd l,.j a],[]=>.need (decide (0<=a/\a.toNat<l.length/\l.length<=4000000000/\l.length-a.toNat<=n)) (.leaf (.tup [.ptr 0 0,.j ((kf l a.toNat).2:Int)],[some (.box [.j (kf l a.toNat).1.lab.1,.s (kf l a.toNat).1.lab.2.1,.j (kf l a.toNat).1.lab.2.2.1,.b (kf l a.toNat).1.lab.2.2.2.1,.j (kf l a.toNat).1.lab.2.2.2.2.1,.ref 1 0 (kf l a.toNat).1.kids.length]),R0 (.tree LCd) (kf l a.toNat).1.kids]))
 | _,_=>.no
def EJ:Gm
 | [.sl TCd l,.j a],[]=>.need (decide (0<=a/\a.toNat<l.length/\l.length<=4000000000)) (.leaf (.tup [.ptr 0 0,.j ((kf l a.toNat).2:Int)],[some (.box [.j (kf l a.toNat).1.lab.1,.s (kf l a.toNat).1.lab.2.1,.j (kf l a.toNat).1.lab.2.2.1,.b (kf l a.toNat).1.lab.2.2.2.1,.j (kf l a.toNat).1.lab.2.2.2.2.1,.ref 1 0 (kf l a.toNat).1.kids.length]),R0 (.tree LCd) (kf l a.toNat).1.kids]))
 | _,_=>.no
def kfE (n:Nat):LoopEnt:=⟨65,[0,1,7,8],[7,8],[],fun
 | ([.sl TCd l,.j a,.ptr 0 0,.j e],[some (.box [.j x0,.s x1,.j x2,.b x3,.j x4,.ref 1 0 k]),R0 (.tree LCd) ks])=>.need (decide (0<=a/\a<e/\a.toNat<l.length/\e.toNat<=l.length/\l.length<=4000000000/\k=ks.length/\ks.length<=e.toNat/\l.length-a.toNat<=n+1)) (.leaf (.exit 0,([.ptr 0 0,.j ((bif Au x0 then AL (kf l) l a.toNat l.length e.toNat ks else (ks,e.toNat)).2:Int)],[some (.box [.j x0,.s x1,.j x2,.b x3,.j x4,.ref 1 0 (bif Au x0 then AL (kf l) l a.toNat l.length e.toNat ks else (ks,e.toNat)).1.length]),R0 (.tree LCd) (bif Au x0 then AL (kf l) l a.toNat l.length e.toNat ks else (ks,e.toNat)).1])))
 | _=>.no⟩
abbrev PI (n:Nat):FuncId->Option Ent:=Aa [(27,.rd1 (kfG n)),(44,.rd1 GV)]
theorem Pf (n:Nat) (l:List Ty) (a e:Int) (x0:Int) (x1:By) (x2:Int) (x3:Bool) (x4:Int) (k:Nat) (ks:RL):AD prog (PI n) (Aa [(4,kfE n)]) 0 (body f27 0) (kfE n) ([.sl TCd l,.j a,.ptr 0 0,.j e],[some (.box [.j x0,.s x1,.j x2,.b x3,.j x4,.ref 1 0 k]),R0 (.tree LCd) ks]) =
 ((ifB (Au (Rose.node (x0,x1,x2,x3,x4,()) (take k (drop 0 ks))).lab.1) (ifB (decide (e<(↑l.length:Int))) (ifT (decide (0<=e)&&decide (e <
 (↑l.length:Int))) (Am l[e.toNat]? fun z=>ifB (z.2.2.2.2.1==a) (ifT (decide (0<=e/\e.toNat<l.length/\l.length<=4000000000/\l.length -
 e.toNat<=n)) (ifT (decide ((k+1)*8<=140737488355328)&&decide (k+1<=maxI)) (some (Ex.normal,[V.sl TCd l,V.j a,V.ptr 0 0,
 V.j (↑(kf l e.toNat).2:Int)],[some (Blk.box [V.j x0,V.s x1,V.j x2,V.b x3,V.j x4,V.ref 1 0 (k+1)]),R0 LCd.tree (take k (drop 0 ks)++Rose.node ((kf l e.toNat).1.lab.1,(kf l e.toNat).1.lab.2.1,(kf l e.toNat).1.lab.2.2.1,(kf l
 e.toNat).1.lab.2.2.2.1,(kf l e.toNat).1.lab.2.2.2.2.1,()) (take (kf l e.toNat).1.kids.length (drop 0 (kf l e.toNat).1.kids))
 :: Ar LCd.tree.den)])))) (some (Ex.exit 0,[V.ptr 0 0,V.j e],[some (Blk.box [V.j x0,V.s x1,V.j x2,V.b x3,V.j x4,V.ref 1 0 k]),R0 LCd.tree ks])))) (some (Ex.exit 0,[V.ptr 0 0,V.j e],[some (Blk.box [V.j x0,V.s x1,V.j x2,V.b x3,V.j x4,V.ref 1 0 k]),R0 LCd.tree ks]))) (some (Ex.exit 0,[V.ptr 0 0,V.j e],[some (Blk.box [V.j x0,V.s x1,V.j x2,V.b x3,V.j x4,V.ref 1 0 k]),R0 LCd.tree ks]))):_):=by kernel_rfl
theorem Qi (n:Nat) (l:List Ty) (a:Int):Dq prog (PI n) (Aa [(4,kfE n)]) f27 [.sl TCd l,.j a] [] =
 ((ifT (decide (0<=a)&&decide (a<(↑l.length:Int))) (Am l[a.toNat]? fun z=>ifT (decide (0<=a/\a<i64.wrap (a+1)/\a.toNat<l.length/\
 (i64.wrap (a+1)).toNat<=l.length/\l.length<=4000000000/\0=0/\0<=(i64.wrap (a+1)).toNat/\l.length-a.toNat<=
 n+1)) (some (V.tup [V.ptr 0 0,V.j (↑(bif Au z.1 then AL (kf l) l a.toNat l.length (i64.wrap (a+1)).toNat (Ar LCd.tree.den) else (Ar
 LCd.tree.den,(i64.wrap (a+1)).toNat)).2:Int)],[some (Blk.box [V.j z.1,V.s z.2.1,V.j z.2.2.1,V.b z.2.2.2.1,V.i .i64
 z.2.2.2.2.2.1,V.ref 1 0 (bif Au z.1 then AL (kf l) l a.toNat l.length (i64.wrap (a+1)).toNat (Ar LCd.tree.den) else (Ar LCd.tree.den,
 (i64.wrap (a+1)).toNat)).1.length]),R0 LCd.tree (bif Au z.1 then AL (kf l) l a.toNat l.length (i64.wrap (a+1)).toNat
 (Ar LCd.tree.den) else (Ar LCd.tree.den,(i64.wrap (a+1)).toNat)).1])))):_):=by kernel_rfl
theorem Ds {l:List Ty} {e:Nat} {a:Int} (h:AG l e=some a):e<l.length:=by
 unfold AG at h;obtain ⟨x,h1,_⟩:=Option.map_eq_some_iff.1 h;exact (List.getElem?_eq_some_iff.1 h1).1
theorem CG (z:Rose Lab):Rose.node (z.lab.1,z.lab.2.1,z.lab.2.2.1,z.lab.2.2.2.1,z.lab.2.2.2.2.1,()) (take z.kids.length (drop 0 z.kids))=z:=by
 obtain ⟨⟨_,_,_,_,_,⟨⟩⟩,ks⟩:=z;simp [Rose.lab,Rose.kids]
def HI (l:List Ty) (g:Nat->Rose Lab×Nat):Prop:=∀ e,e<l.length->e<(g e).2/\(g e).2<=l.length
theorem Gp {l:List Ty} {g:Nat->Rose Lab×Nat} {a:Nat} (hg:HI l g) : ∀ (n e:Nat) (ks:RL),e<=l.length->e<=(AL g l a n e ks).2/\(AL g l a n e ks).2<=l.length
 | 0,e,ks,h=>⟨Nat.le_refl _,h⟩
 | n+1,e,ks,h=>by
  unfold AL;split
  ·rename_i hu;obtain ⟨h1,h2⟩:=hg e (Ds hu);obtain ⟨h3,h4⟩:=Gp hg n (g e).2 (ks++[(g e).1]) h2;exact ⟨by omega,h4⟩
  ·exact ⟨Nat.le_refl _,h⟩
theorem GW (l:List Ty) : ∀ f,HI l (kfr l f)
 | 0,a,h=>⟨lt_succ_self _,h⟩
 | f+1,a,h=>by
  unfold kfr;dsimp only
  cases Au (At l a).1 with
  | true=>
   obtain ⟨h3,h4⟩:=Gp (a:=a) (GW l f) l.length (a+1) [] h;exact ⟨by rw [cond_true]; omega,by rw [cond_true]; exact h4⟩
  | false=>exact ⟨lt_succ_self _,h⟩
theorem E4 {l:List Ty} {g g':Nat->Rose Lab×Nat} {a e0:Nat} (hg:HI l g) (h : ∀ e,e0<=e->e<l.length->g e=g' e) : ∀ (n e:Nat) (ks:RL),e0<=e->AL g l a n e ks=AL g' l a n e ks
 | 0,e,ks,_=>rfl
 | n+1,e,ks,he=>by
  unfold AL;split
  ·rename_i hu;have hl:=Ds hu;rw [<-h e he hl];exact E4 hg h n _ _ (by have:=(hg e hl).1; omega)
  ·rfl
theorem HA {l:List Ty} {g:Nat->Rose Lab×Nat} {a:Nat} (hg:HI l g) : ∀ (n m e:Nat) (ks:RL),l.length-e<=n->l.length-e<=m->AL g l a n e ks=AL g l a m e ks
 | 0,0,e,ks,_,_=>rfl
 | 0,m+1,e,ks,h,_=>by
  unfold AL;split
  ·rename_i hu; have:=Ds hu; omega
  ·rfl
 | n+1,0,e,ks,_,h=>by
  unfold AL;split
  ·rename_i hu; have:=Ds hu; omega
  ·rfl
 | n+1,m+1,e,ks,h1,h2=>by
  unfold AL;split
  ·rename_i hu;have hl:=Ds hu;have:=(hg e hl).1;exact HA hg n m _ _ (by omega) (by omega)
  ·rfl
theorem KF (l:List Ty) : ∀ (f f' a:Nat),l.length-a<=f->l.length-a<=f'->a<l.length->kfr l f a=kfr l f' a
 | 0,f',a,h1,_,h=>by omega
 | f+1,0,a,_,h1,h=>by omega
 | f+1,f'+1,a,h1,h2,h=>by
  unfold kfr;dsimp only;rw [E4 (GW l f) (fun e he hl=>KF l f f' e (by omega) (by omega) hl) l.length (a+1) [] (Nat.le_refl _)]
theorem Dk (l:List Ty):HI l (kf l):=GW l l.length
theorem KG {l:List Ty} {a:Nat} (h:a<l.length):kf l a=(.node (At l a) (bif Au (At l a).1 then AL (kf l) l a l.length (a+1) [] else ([],a+1)).1,(bif Au (At l a).1 then AL (kf l) l a l.length (a+1) [] else ([],a+1)).2):=by
 obtain ⟨m,hm⟩ : ∃ m,l.length=m+1:=⟨l.length-1,by omega⟩
 have e1:AL (kfr l m) l a l.length (a+1) []=AL (kf l) l a l.length (a+1) []:=E4 (GW l m) (fun e he hl=>KF l m l.length e (by omega) (by omega) hl) l.length (a+1) [] (Nat.le_refl _);rw [<-e1];unfold kf
 conv=>lhs; rw [hm]
 rfl
theorem Ma {l:List Ty} {a e:Nat} {ks:RL} (h:AG l e=some (a:Int)):AL (kf l) l a l.length e ks=AL (kf l) l a l.length (kf l e).2 (ks++[(kf l e).1]):=by
 have hl:=Ds h;obtain ⟨m,hm⟩ : ∃ m,l.length=m+1:=⟨l.length-1,by omega⟩
 conv=>lhs; rw [hm]
 show (if AG l e=some (a:Int) then AL (kf l) l a m (kf l e).2 (ks++[(kf l e).1]) else (ks,e))=_;rw [if_pos h];have:=(Dk l e hl).1;exact HA (Dk l) m l.length _ _ (by omega) (by omega)
theorem DW {l:List Ty} {a e n:Nat} {ks:RL} (h:AG l e≠some (a:Int)):AL (kf l) l a n e ks=(ks,e):=by
 cases n with
 | zero=>rfl
 | succ n=>unfold AL; rw [if_neg h]
theorem Qj (n:Nat) (l:List Ty) (a:Nat) (x0:Int) (x1:By) (x2:Int) (x3:Bool) (x4:Int) (hal:a<l.length) (hl:l.length<=4000000000) (hn:l.length-a<=n+1) : ∀ (j e:Nat) (ks:RL),e+j=l.length->a<e->ks.length<=e->
  Runs prog (PI n) (Aa [(4,kfE n)]) 0 (body f27 0) (kfE n) ([.sl TCd l,.j (a:Int),.ptr 0 0,.j (e:Int)],[some (.box [.j x0,.s x1,.j x2,.b x3,.j x4,.ref 1 0 ks.length]),R0 (.tree LCd) ks]) (.exit 0) ([.ptr 0 0,.j ((bif Au x0 then AL (kf l) l a l.length e ks else (ks,e)).2:Int)],[some (.box [.j x0,.s x1,.j x2,.b x3,.j x4,.ref 1 0 (bif Au x0 then AL (kf l) l a l.length e ks else (ks,e)).1.length]),R0 (.tree LCd) (bif Au x0 then AL (kf l) l a l.length e ks else (ks,e)).1]):=by
 intro j
 induction j using strongRecOn with
 | ind j ih=>
  intro e ks he hae hk;have hM:=mxI;have hr:=Pf n l a e x0 x1 x2 x3 x4 ks.length ks;have hlab:(Rose.node (x0,x1,x2,x3,x4,()) (take ks.length (drop 0 ks)):Rose Lab).lab.1=x0:=rfl;simp only [hlab] at hr
  cases hx:Au x0 with
  | false=>
   rw [hx,Bt] at hr;rw [cond_false];exact stp hr
  | true=>
   rw [hx,Bs] at hr;rw [cond_true]
   by_cases h1:e<l.length
   ·rw [Aj (dcT (by omega)),T2 (by omega)] at hr;simp only [ntN,gtE h1,Ao,drop_zero,take_length] at hr
    by_cases h2:l[e].2.2.2.2.1=(a:Int)
    ·have hu:AG l e=some (a:Int):=by unfold AG; rw [gtE h1,map_some,h2]
     rw [Aj (by rw [h2]; exact beq_self_eq_true _),Ag (dcT ⟨by omega,h1,hl,by omega⟩),T2 (by omega)] at hr;obtain ⟨b1,b2⟩:=Dk l e h1;rw [Ma hu];have ht:=CG (kf l e).1;rw [drop_zero,take_length] at ht;rw [ht] at hr;have hlen:(ks++[(kf l e).1]).length=ks.length+1:=by simp
     have ih2:=ih (l.length-(kf l e).2) (by omega) (kf l e).2 (ks++[(kf l e).1]) (by omega) (by omega) (by rw [hlen]; omega);simp only [hx,cond_true] at ih2;refine sts (hr.trans ?_) ih2;rw [hlen]
    ·have hu:AG l e≠some (a:Int):=by unfold AG; rw [gtE h1,map_some]; exact fun h=>h2 (Option.some.inj h)
     rw [Ah (beq_false_of_ne h2)] at hr;rw [DW hu];exact stp hr
   ·rw [Ah (dcF (by omega))] at hr;rw [DW (fun h=>h1 (Ds h))];exact stp hr
theorem Se (n:Nat):Az prog (PI n) (Aa [(4,kfE n)]) 0 (f27.body.getD .skip):=by
 refine Aw (a:=body f27 0) (by kernel_rfl) fun d ex d' h=>?_
 unfold kfE at h;dsimp only at h;split at h
 ·rename_i l a e x0 x1 x2 x3 x4 k ks;obtain ⟨hc,hx⟩:=Ae h;clear h;obtain ⟨h0,h1,h2,h3,h4,rfl,h6,h7⟩:=of_decide_eq_true hc;obtain ⟨a,rfl⟩:=eq_ofNat_of_zero_le h0;obtain ⟨e,rfl⟩:=eq_ofNat_of_zero_le (by omega:0<=e);simp only [ntN] at h2 h3 h6 h7 hx;obtain ⟨rfl,rfl⟩:=lfP hx;exact Qj n l a x0 x1 x2 x3 x4 h2 h4 h7 (l.length-e) e ks (by omega) (by omega) h6
 ·cases h
theorem Ru (n:Nat) (l:List Ty) (a:Int) (hc:0<=a/\a.toNat<l.length/\l.length<=4000000000/\l.length-a.toNat<=n+1):Dq prog (PI n) (Aa [(4,kfE n)]) f27 [.sl TCd l,.j a] []=some (.tup [.ptr 0 0,.j ((kf l a.toNat).2:Int)],[some (.box [.j (kf l a.toNat).1.lab.1,.s (kf l a.toNat).1.lab.2.1,.j (kf l a.toNat).1.lab.2.2.1,.b (kf l a.toNat).1.lab.2.2.2.1,.j (kf l a.toNat).1.lab.2.2.2.2.1,.ref 1 0 (kf l a.toNat).1.kids.length]),R0 (.tree LCd) (kf l a.toNat).1.kids]):=by
 rw [Qi];obtain ⟨h0,h1,h2,h3⟩:=hc;obtain ⟨a,rfl⟩:=eq_ofNat_of_zero_le h0;rw [ntN] at h1 h3;have hM:=mxI;have hw:i64.wrap ((a:Int)+1)=((a+1:Nat):Int):=AE (by omega);rw [T2 (by omega)];simp only [ntN,gtE h1,Ao,hw];rw [Ag (dcT ⟨by omega,by omega,h1,by omega,h2,trivial,by omega,by omega⟩)];have hk:=KG h1;have hlab:At l a=(l[a].1,l[a].2.1,l[a].2.2.1,l[a].2.2.2.1,l[a].2.2.2.2.2.1,()):=by unfold At; rw [gtE h1]
 rw [hk,hlab];rfl
theorem Rv : ∀ n,(∀ m,m<n->Ab prog 27 (Ent.rd1 (kfG m)).F)->Ab prog 27 (Ent.rd1 (kfG n)).F
 | 0,_=>AN fun vs bs=>by
  unfold Ent.F kfG;dsimp only;split
  ·rename_i l a;have:decide (0<=a/\a.toNat<l.length/\l.length<=4000000000/\l.length-a.toNat<=0)=false:=dcF (by omega);rw [this]; rfl
  ·rfl
 | n+1,ih=>by
  refine fcN (kc func27 (ih n (lt_succ_self n)) (kc func44 Pe KnowsL.nil)).knows (Λ:=(Aa [(4,kfE n)])) func27 fun vs bs r hq=>?_
  unfold Ent.F kfG at hq;dsimp only at hq;split at hq
  ·rename_i l a;obtain ⟨hc,hx⟩:=Ae hq;exact ⟨Se n,(Ru n l a (of_decide_eq_true hc)).trans hx⟩
  ·cases hq
theorem Pd:Ab prog 27 (Ent.rd1 EJ).F:=by
 refine Bl (F:=fun n=>(Ent.rd1 (kfG n)).F) Rv fun vs bs r h=>?_
 unfold Ent.F EJ at h;dsimp only at h;split at h
 ·rename_i l a;obtain ⟨hc,hx⟩:=Ae h;obtain ⟨h0,h1,h2⟩:=of_decide_eq_true hc;refine ⟨l.length,?_⟩;unfold Ent.F kfG;dsimp only;have:decide (0<=a/\a.toNat<l.length/\l.length<=4000000000/\l.length-a.toNat<=l.length)=true:=dcT ⟨h0,h1,h2,by omega⟩;rw [this];exact hx
 ·cases h
mutual
def Af:Rose Lab->Nat
 | .node _ ks=>Ai ks+1
def Ai:RL->Nat
 | []=>0
 | z::l=>Af z+Ai l
end
mutual
def Bu:Rose Lab->Nat
 | .node x ks=>BK ks+(bif Au x.1 then 1 else 0)
def BK:RL->Nat
 | []=>0
 | z::l=>max (Bu z) (BK l)
end
def C6 (n:Nat):Gm
 | [.tp LCd z 0],[]=>.need (decide (Af z<=n/\Af z<=1000000)) (.leaf (.j (Af z:Int),[]))
 | _,_=>.no
def J0:Gm
 | [.tp LCd z 0],[]=>.need (decide (Af z<=1000000)) (.leaf (.j (Af z:Int),[]))
 | _,_=>.no
def CV (n:Nat):LoopEnt:=⟨21,[3,9,10,11],[3],[],fun
 | ([.j m,.sl (.tree LCd) ks,.j k,.j i],[])=>.need (decide (0<=m/\m<=1000001/\0<=i/\i.toNat<=ks.length/\k=ks.length/\Ai ks<=n/\Ai ks<=1000000/\m.toNat+Ai (ks.drop i.toNat)<=1000001)) (.leaf (.exit 0,([.j ((m.toNat+Ai (ks.drop i.toNat):Nat):Int)],[])))
 | _=>.no⟩
def Gq (n:Nat):Gm
 | [.tp LCd z 0],[]=>.need (decide (Af z<=n/\Af z<=1000000)) (.leaf (.j (Bu z:Int),[]))
 | _,_=>.no
def Me:Gm
 | [.tp LCd z 0],[]=>.need (decide (Af z<=1000000)) (.leaf (.j (Bu z:Int),[]))
 | _,_=>.no
def DX (n:Nat):LoopEnt:=⟨25,[0,3,9,10,11],[0,3],[],fun
 | ([.tp LCd y 0,.j m,.sl (.tree LCd) ks,.j k,.j i],[])=>.need (decide (0<=m/\m<=1000001/\0<=i/\i.toNat<=ks.length/\k=ks.length/\Ai ks<=n/\Ai ks<=1000000)) (.leaf (.exit 0,([.tp LCd y 0,.j ((max m.toNat (BK (ks.drop i.toNat)):Nat):Int)],[])))
 | _=>.no⟩
theorem AU {z:Rose Lab} : ∀ {l:RL},z∈l->Af z<=Ai l
 | [],h=>by cases h
 | y::l,h=>by
  rw [Ai];rcases mem_cons.1 h with rfl | h
  ·omega
  ·have:=AU h; omega
theorem Cf (z:Rose Lab):1<=Af z:=by cases z; rw [Af]; omega
theorem AK : ∀ (l:RL),l.length<=Ai l
 | []=>Nat.le_refl _
 | z::l=>by have:=AK l; have:=Cf z; rw [Ai,List.length_cons]; omega
theorem AF (z:Rose Lab):Af z=Ai z.kids+1:=by cases z; rw [Af]; rfl
mutual
theorem FV : ∀ z:Rose Lab,Bu z<=Af z
 | .node x ks=>by rw [Bu,Af]; have:=EK ks; cases Au x.1<;>simp<;>omega
theorem EK : ∀ l:RL,BK l<=Ai l
 | []=>Nat.le_refl _
 | z::l=>by rw [BK,Ai]; have:=FV z; have:=EK l; omega
end
theorem FO (n:Nat) (m:Int) (ks:RL) (k i:Int):AD prog (Aa [(47,.rd1 (C6 n))]) (Aa [(3,CV n)]) 0 (body f47 0) (CV n) ([.j m,.sl (.tree LCd) ks,.j k,.j i],[]) =
 ((ifB (decide (i<k)) (ifT (decide (0<=i)&&decide (i<(↑ks.length:Int))) (Am ks[i.toNat]? fun z=>ifT (decide (Af z<=n/\Af z<=1000000)) (some
 (Ex.normal,[V.j (i64.wrap (m+(↑(Af z):Int))),V.sl LCd.tree ks,V.j k,V.j (i64.wrap (i+1))],[])))) (some (Ex.exit 0,[V.i .i64
 m],[]))):_):=by kernel_rfl
theorem KH (n:Nat) (z:Rose Lab):AV prog (Aa [(47,.rd1 (C6 n))]) (Aa [(3,CV n)]) f47 [.tp LCd z 0] [] =
 ((ifT (decide ((0:Int)<=(1:Int)/\(1:Int)<=(1000001:Int)/\(0:Int)<=(0:Int)/\0<=z.kids.length/\(↑z.kids.length:Int)=(↑z.kids.length:Int)/\
 Ai z.kids<=n/\Ai z.kids<=1000000/\1+Ai (drop 0 z.kids)<=1000001)) (some (V.j (↑(1+Ai (drop (0 :
 Nat) z.kids)):Int),[]))):_):=by kernel_rfl
theorem GC (n:Nat) (ks:RL) (h1:Ai ks<=n) (h2:Ai ks<=1000000) : ∀ (j i m:Nat),i+j=ks.length->m<=1000001->m+Ai (ks.drop i)<=1000001->
  Runs prog (Aa [(47,.rd1 (C6 n))]) (Aa [(3,CV n)]) 0 (body f47 0) (CV n) ([.j (m:Int),.sl (.tree LCd) ks,.j (ks.length:Int),.j (i:Int)],[]) (.exit 0) ([.j ((m+Ai (ks.drop i):Nat):Int)],[])
 | 0,i,m,hi,hm,hs=>by
  have hr:=FO n m ks ks.length i;rw [Ah (dcF (by omega))] at hr;have e1:ks.drop i=[]:=drop_eq_nil_of_le (by omega);rw [e1,Ai];exact .stop _ _ _ (hr.trans (by simp)) (by simp)
 | j+1,i,m,hi,hm,hs=>by
  have hl:i<ks.length:=by omega
  have hM:=mxI;have hr:=FO n m ks ks.length i;have hmem:=AU (getElem_mem hl);have hlen:=AK ks;have hdm:=FV ks[i];rw [Aj (dcT (by omega)),T2 (by omega)] at hr;simp only [ntN,gtE hl,Ao,AE (n:=i) (by omega)] at hr;rw [Ag (dcT ⟨by omega,by omega⟩)] at hr;rw [drop_eq_getElem_cons hl,Ai];rw [drop_eq_getElem_cons hl,Ai] at hs;have hx:i64.wrap ((m:Int)+(Af ks[i]:Int))=((m+Af ks[i]:Nat):Int):=by rw [Ba (by omega) (by omega)]; omega
  have ih:=GC n ks h1 h2 j (i+1) (m+Af ks[i]) (by omega) (by omega) (by omega);rw [<-Nat.add_assoc];exact sts (hr.trans (by rw [hx])) ih
theorem N9 (n:Nat):Az prog (Aa [(47,.rd1 (C6 n))]) (Aa [(3,CV n)]) 0 (f47.body.getD .skip):=by
 refine Aw (a:=body f47 0) (by kernel_rfl) fun d ex d' h=>?_
 unfold CV at h;dsimp only at h;split at h
 ·rename_i m ks k i;obtain ⟨hc,hx⟩:=Ae h;clear h;obtain ⟨h0,h1,h2,h3,rfl,h5,h6,h7⟩:=of_decide_eq_true hc;obtain ⟨m,rfl⟩:=eq_ofNat_of_zero_le h0;obtain ⟨i,rfl⟩:=eq_ofNat_of_zero_le h2;simp only [ntN] at h3 hx h7;obtain ⟨rfl,rfl⟩:=lfP hx;exact GC n ks h5 h6 (ks.length-i) i m (by omega) (by omega) h7
 ·cases h
theorem Mf (n:Nat) (z:Rose Lab) (hc:Af z<=n+1/\Af z<=1000000):AV prog (Aa [(47,.rd1 (C6 n))]) (Aa [(3,CV n)]) f47 [.tp LCd z 0] []=some (.j (Af z:Int),[]):=by
 rw [KH];obtain ⟨x,ks⟩:=z;obtain ⟨h1,h2⟩:=hc;rw [Af] at h1 h2;have hd:drop (toNat 0) ks=ks:=rfl;simp only [Rose.kids] at *;rw [Ag (dcT (by refine ⟨by omega,by omega,by omega,by simp,by trivial,by omega,by omega,?_⟩; simp; omega))];rw [Af];simp only [drop_zero];rw [Nat.add_comm]
theorem Mg : ∀ n,(∀ m,m<n->Ab prog 47 (Ent.rd1 (C6 m)).F)->Ab prog 47 (Ent.rd1 (C6 n)).F
 | 0,_=>AN fun vs bs=>by
  unfold Ent.F C6;dsimp only;split
  ·rename_i z;have:=Cf z;have:decide (Af z<=0/\Af z<=1000000)=false:=dcF (by omega);rw [this]; rfl
  ·rfl
 | n+1,ih=>by
  refine fcK (kc func47 (ih n (lt_succ_self n)) KnowsL.nil).knows (Λ:=(Aa [(3,CV n)])) func47 fun vs bs r hq=>?_
  unfold Ent.F C6 at hq;dsimp only at hq;split at hq
  ·rename_i z;obtain ⟨hc,hx⟩:=Ae hq;exact ⟨N9 n,(Mf n z (of_decide_eq_true hc)).trans hx⟩
  ·cases hq
theorem Rw:Ab prog 47 (Ent.rd1 J0).F:=by
 refine Bl (F:=fun n=>(Ent.rd1 (C6 n)).F) Mg fun vs bs r h=>?_
 unfold Ent.F J0 at h;dsimp only at h;split at h
 ·rename_i z;obtain ⟨hc,hx⟩:=Ae h;have hc:=of_decide_eq_true hc;refine ⟨1000000,?_⟩;show (Br.need (decide (Af z<=1000000/\Af z<=1000000)) (.leaf (.j (Af z:Int),[]))).run=some r;rw [dcT (show Af z<=1000000/\Af z<=1000000 from ⟨hc,hc⟩)];exact hx
 ·cases h
abbrev PH (n:Nat):FuncId->Option Ent:=Aa [(46,.rd1 (Gq n)),(44,.rd1 GV)]
theorem GB (n:Nat) (y:Rose Lab) (m:Int) (ks:RL) (k i:Int):AD prog (PH n) (Aa [(3,DX n)]) 0 (body f46 0) (DX n) ([.tp LCd y 0,.j m,.sl (.tree LCd) ks,.j k,.j i],[]) =
 ((ifB (decide (i<k)) (ifT (decide (0<=i)&&decide (i<(↑ks.length:Int))) (Am ks[i.toNat]? fun z=>ifT (decide (Af z<=n/\Af z<=1000000)) (some
 (Ex.normal,[V.tp LCd y 0,V.j (if (↑(Bu z):Int)>m then (↑(Bu z):Int) else m),V.sl LCd.tree ks,V.j k,V.j (i64.wrap (i +
 1))],[])))) (some (Ex.exit 0,[V.tp LCd y 0,V.j m],[]))):_):=by kernel_rfl
theorem Md (n:Nat) (z:Rose Lab):AV prog (PH n) (Aa [(3,DX n)]) f46 [.tp LCd z 0] [] =
 ((ifT (decide ((0:Int)<=(0:Int)/\(0:Int)<=(1000001:Int)/\(0:Int)<=(0:Int)/\0<=z.kids.length/\(↑z.kids.length:Int)=(↑z.kids.length:Int)/\
 Ai z.kids<=n/\Ai z.kids<=1000000)) (ifB (Au z.lab.1) (some (V.j (i64.wrap ((↑(max 0 (BK (drop 0 z.kids))):Int)
 + (1:Int))),[])) (some (V.j (↑(max 0 (BK (drop 0 z.kids))):Int),[])))):_):=by kernel_rfl
theorem HD (n:Nat) (y:Rose Lab) (ks:RL) (h1:Ai ks<=n) (h2:Ai ks<=1000000) : ∀ (j i m:Nat),i+j=ks.length->m<=1000001->
  Runs prog (PH n) (Aa [(3,DX n)]) 0 (body f46 0) (DX n) ([.tp LCd y 0,.j (m:Int),.sl (.tree LCd) ks,.j (ks.length:Int),.j (i:Int)],[]) (.exit 0) ([.tp LCd y 0,.j ((max m (BK (ks.drop i)):Nat):Int)],[])
 | 0,i,m,hi,hm=>by
  have hr:=GB n y m ks ks.length i;rw [Ah (dcF (by omega))] at hr;have e1:ks.drop i=[]:=drop_eq_nil_of_le (by omega);rw [e1,BK];exact .stop _ _ _ (hr.trans (by simp)) (by simp)
 | j+1,i,m,hi,hm=>by
  have hl:i<ks.length:=by omega
  have hM:=mxI;have hr:=GB n y m ks ks.length i;have hmem:=AU (getElem_mem hl);have hlen:=AK ks;have hdm:=FV ks[i];rw [Aj (dcT (by omega)),T2 (by omega)] at hr;simp only [ntN,gtE hl,Ao,AE (n:=i) (by omega)] at hr;rw [Ag (dcT ⟨by omega,by omega⟩)] at hr;rw [drop_eq_getElem_cons hl,BK];have hx:(if (Bu ks[i]:Int)>(m:Int) then (Bu ks[i]:Int) else (m:Int))=((max m (Bu ks[i]):Nat):Int):=by split<;>omega
  have ih:=HD n y ks h1 h2 j (i+1) (max m (Bu ks[i])) (by omega) (by omega);rw [<-Nat.max_assoc];exact sts (hr.trans (by rw [hx])) ih
theorem Pg (n:Nat):Az prog (PH n) (Aa [(3,DX n)]) 0 (f46.body.getD .skip):=by
 refine Aw (a:=body f46 0) (by kernel_rfl) fun d ex d' h=>?_
 unfold DX at h;dsimp only at h;split at h
 ·rename_i y m ks k i;obtain ⟨hc,hx⟩:=Ae h;clear h;obtain ⟨h0,h1,h2,h3,rfl,h5,h6⟩:=of_decide_eq_true hc;obtain ⟨m,rfl⟩:=eq_ofNat_of_zero_le h0;obtain ⟨i,rfl⟩:=eq_ofNat_of_zero_le h2;simp only [ntN] at h3 hx;obtain ⟨rfl,rfl⟩:=lfP hx;exact HD n y ks h5 h6 (ks.length-i) i m (by omega) (by omega)
 ·cases h
theorem N7 (n:Nat) (z:Rose Lab) (hc:Af z<=n+1/\Af z<=1000000):AV prog (PH n) (Aa [(3,DX n)]) f46 [.tp LCd z 0] []=some (.j (Bu z:Int),[]):=by
 rw [Md];obtain ⟨x,ks⟩:=z;obtain ⟨h1,h2⟩:=hc;rw [Af] at h1 h2;have hd:drop (toNat 0) ks=ks:=rfl;simp only [Rose.kids,Rose.lab] at *;rw [Ag (dcT (by refine ⟨by omega,by omega,by omega,by simp,by trivial,by omega,by omega⟩))];have hdp:=EK ks;rw [Bu];simp only [drop_zero,Nat.zero_max]
 cases hx:Au x.1 with
 | true=>rw [Bs,Ba (by omega) (by omega)]; simp
 | false=>rw [Bt]; simp
theorem N8 : ∀ n,(∀ m,m<n->Ab prog 46 (Ent.rd1 (Gq m)).F)->Ab prog 46 (Ent.rd1 (Gq n)).F
 | 0,_=>AN fun vs bs=>by
  unfold Ent.F Gq;dsimp only;split
  ·rename_i z;have:=Cf z;have:decide (Af z<=0/\Af z<=1000000)=false:=dcF (by omega);rw [this]; rfl
  ·rfl
 | n+1,ih=>by
  refine fcK (kc func46 (ih n (lt_succ_self n)) (kc func44 Pe KnowsL.nil)).knows (Λ:=(Aa [(3,DX n)])) func46 fun vs bs r hq=>?_
  unfold Ent.F Gq at hq;dsimp only at hq;split at hq
  ·rename_i z;obtain ⟨hc,hx⟩:=Ae hq;exact ⟨Pg n,(N7 n z (of_decide_eq_true hc)).trans hx⟩
  ·cases hq
theorem Sg:Ab prog 46 (Ent.rd1 Me).F:=by
 refine Bl (F:=fun n=>(Ent.rd1 (Gq n)).F) N8 fun vs bs r h=>?_
 unfold Ent.F Me at h;dsimp only at h;split at h
 ·rename_i z;obtain ⟨hc,hx⟩:=Ae h;have hc:=of_decide_eq_true hc;refine ⟨1000000,?_⟩;show (Br.need (decide (Af z<=1000000/\Af z<=1000000)) (.leaf (.j (Bu z:Int),[]))).run=some r;rw [dcT (show Af z<=1000000/\Af z<=1000000 from ⟨hc,hc⟩)];exact hx
 ·cases h
def DR (zk:RL) (i:Nat) (n:Int):Bool:=match i with
 | 0=>false
 | i+1=>match zk[i]? with | some y=>decide (y.lab.2.2.1>=n) | none=>false
def FF (zk:RL):Nat->List (By×Bool)->RL->Bool
 | _,_,[]=>true
 | i,seen,z::l=>if ((DC .str seen z.lab.2.1).getD false||DR zk i z.lab.2.2.1)=true then false else FF zk (i+1) (Er .str seen z.lab.2.1 true) l
def B8 (x:Lab) (ks:RL):Bool:=
 if x.1=1\/x.1=2 then x.2.2.2.2.1==0&&ks.length==0
 else if x.1=3 then decide (0<=x.2.2.2.2.1/\x.2.2.2.2.1<=20)&&ks.length==0
 else if x.1=4 then x.2.2.2.2.1==0&&ks.length==1
 else if x.1≠5\/x.2.2.2.2.1≠0 then false
 else FF ks 0 [] ks
def Ht:Gm
 | [.tp LCd z 0],[]=>.need (decide (z.kids.length<=maxI)) (.leaf (.b (B8 z.lab z.kids),[]))
 | _,_=>.no
def poE:LoopEnt:=⟨113,[0,3,72,73,74],[],[2],fun
 | ([.tp LCd z 0,.mref 0,.sl (.tree LCd) ks,.j k,.j i],[some (.mp .str .bool seen)])=>.need (decide (0<=i/\i.toNat<=ks.length/\k=ks.length/\ks.length<=maxI/\z.kids.length=ks.length)) (.br (FF z.kids i.toNat seen (ks.drop i.toNat)) (.leaf (.exit 1,([],[]))) (.leaf (.ret,([.b false],[]))))
 | _=>.no⟩
theorem Kc (z:Rose Lab) (ks:RL) (seen:List (By×Bool)) (k i:Int):AD prog (Aa [(26,.rd1 AS)]) (Aa [(13,poE)]) 0 (body f58 0) poE ([.tp LCd z 0,.mref 0,.sl (.tree LCd) ks,.j k,.j i],[some (.mp .str .bool seen)]) =
 ((ifB (decide (i<k)) (ifT (decide (0<=i)&&decide (i<(↑ks.length:Int))) (Am ks[i.toNat]? fun z_1=>ifB ((DC Cd.str seen (Rose.lab z_1).2.1).getD false)
 rF (ifB (decide (i>0)) (ifT (decide (0<=i64.wrap (i-1))&&decide (i64.wrap (i-1)<(↑z.kids.length:Int))) (Am
 z.kids[(i64.wrap (i-1)).toNat]? fun z_2=>ifB (decide ((Rose.lab z_2).2.2.1>=(Rose.lab z_1).2.2.1)) rF (some
 (Ex.normal,[V.tp LCd z 0,V.mref 0,V.sl LCd.tree ks,V.j k,V.j (i64.wrap (i+1))],[some (Blk.mp Cd.str Cd.bool (Er Cd.str seen
 (Rose.lab z_1).2.1 true))])))) (some (Ex.normal,[V.tp LCd z 0,V.mref 0,V.sl LCd.tree ks,V.j k,V.j (i64.wrap (i+1))],[some
 (Blk.mp Cd.str Cd.bool (Er Cd.str seen (Rose.lab z_1).2.1 true))]))))) (some (Ex.exit 1,[],[]))):_):=by kernel_rfl
theorem PR (z:Rose Lab):AV prog (Aa [(26,.rd1 AS)]) (Aa [(13,poE)]) f58 [.tp LCd z 0] [] =
 ((ifB (z.lab.1==(1:Int)) (ifB (z.lab.1==(1:Int)) (ifB (z.lab.2.2.2.2.1==(0:Int)) (some (V.b ((↑z.kids.length:Int)==(0:Int)),[])) nF) (ifB (z.lab.1==(3:Int)) (ifB (decide ((0:Int)<=z.lab.2.2.2.2.1/\z.lab.2.2.2.2.1<=(20:Int))) (some (V.b ((↑z.kids.length :
 Int)==(0:Int)),[])) nF) (ifB (z.lab.1==(4:Int)) (ifB (z.lab.2.2.2.2.1==(0:Int)) (some (V.b ((↑z.kids.length:Int)==(1 :
 Int)),[])) nF) (ifB (z.lab.1 != (5:Int)) nF (ifB (z.lab.2.2.2.2.1 != (0:Int)) nF (ifT (decide
 ((0:Int)<=(0:Int)/\0<=z.kids.length/\(↑z.kids.length:Int)=(↑z.kids.length:Int)/\z.kids.length<=maxI/\z.kids.length=z.kids.length)) (ifB (FF
 z.kids 0 (Ar (Cd.str.den×Cd.bool.den)) (drop 0 z.kids)) (some (V.b true,[])) nF))))))) (ifB (z.lab.1==(2:Int)) (ifB
 (z.lab.2.2.2.2.1==(0:Int)) (some (V.b ((↑z.kids.length:Int)==(0:Int)),[])) nF) (ifB (z.lab.1==(3:Int)) (ifB (decide ((0 :
 Int)<=z.lab.2.2.2.2.1/\z.lab.2.2.2.2.1<=(20:Int))) (some (V.b ((↑z.kids.length:Int)==(0:Int)),[])) nF) (ifB (z.lab.1
 == (4:Int)) (ifB (z.lab.2.2.2.2.1==(0:Int)) (some (V.b ((↑z.kids.length:Int)==(1:Int)),[])) nF) (ifB (z.lab.1 != (5:Int))
 nF (ifB (z.lab.2.2.2.2.1 != (0:Int)) nF (ifT (decide ((0:Int)<=(0:Int)/\0<=z.kids.length/\
 (↑z.kids.length:Int)=(↑z.kids.length:Int)/\z.kids.length<=maxI/\z.kids.length=z.kids.length)) (ifB (FF z.kids 0 (Ar (Cd.str.den×Cd.bool.den))
 (drop 0 z.kids)) (some (V.b true,[])) nF)))))))):_):=by kernel_rfl
theorem Ji (z:Rose Lab) (ks:RL) (hz:z.kids.length=ks.length) (hm:ks.length<=maxI) : ∀ (j i:Nat) (seen:List (By×Bool)),i+j=ks.length->∀ ex d,(Br.br (FF z.kids i seen (ks.drop i)) (.leaf (.exit 1,([],[]))) (.leaf (.ret,([.b false],[]))):Br (Ex×Dt)).run=some (ex,d)->
  Runs prog (Aa [(26,.rd1 AS)]) (Aa [(13,poE)]) 0 (body f58 0) poE ([.tp LCd z 0,.mref 0,.sl (.tree LCd) ks,.j (ks.length:Int),.j (i:Int)],[some (.mp .str .bool seen)]) ex d
 | 0,i,seen,hi,ex,d,h=>by
  have hr:=Kc z ks seen ks.length i;rw [Ah (dcF (by omega))] at hr;have e1:ks.drop i=[]:=drop_eq_nil_of_le (by omega);rw [e1,FF] at h;obtain ⟨rfl,rfl⟩:=lfP h;exact stp hr
 | j+1,i,seen,hi,ex,d,h=>by
  have hl:i<ks.length:=by omega
  have hM:=mxI;have hr:=Kc z ks seen ks.length i;rw [Aj (dcT (by omega)),T2 (by omega)] at hr;simp only [ntN,gtE hl,Ao,AE (n:=i) (by omega)] at hr;rw [drop_eq_getElem_cons hl,FF] at h
  have stop : ∀ {x:Option (Ex×Dt)},x=some (.ret,([.b false],[]))->(Br.br false (.leaf (.exit 1,([],[]))) (.leaf (.ret,([.b false],[]))):Br (Ex×Dt)).run=some (ex,d)->x=some (ex,d)/\ex≠.normal:=fun hx h=>by
   obtain ⟨rfl,rfl⟩:=lfP h;exact ⟨hx,by simp⟩
  cases h1:(DC .str seen ks[i].lab.2.1).getD false with
  | true=>
   rw [h1,Bool.true_or,if_pos rfl] at h;rw [h1,Bs] at hr;obtain ⟨g1,g2⟩:=stop hr h;exact .stop _ _ _ g1 g2
  | false=>
   rw [h1,Bool.false_or] at h;rw [h1,Bt] at hr
   cases i with
   | zero=>
    rw [Ah (dcF (by omega))] at hr;rw [DR,if_neg (by simp)] at h;exact sts hr (Ji z ks hz hm j 1 _ (by omega) ex d h)
   | succ i=>
    have hl':i<z.kids.length:=by omega
    have hw:i64.wrap (((i+1:Nat):Int)-1)=(i:Int):=by rw [Ba (by omega) (by omega)]; omega
    rw [Aj (dcT (by omega)),hw,T2 (by omega)] at hr;simp only [ntN,gtE hl',Ao] at hr;have hp:DR z.kids (i+1) ks[i+1].lab.2.2.1=decide (z.kids[i].lab.2.2.1>=ks[i+1].lab.2.2.1):=by unfold DR; simp only [gtE hl']
    rw [hp] at h
    cases h2:decide (z.kids[i].lab.2.2.1>=ks[i+1].lab.2.2.1) with
    | true=>
     rw [h2,if_pos rfl] at h;rw [h2,Bs] at hr;obtain ⟨g1,g2⟩:=stop hr h;exact .stop _ _ _ g1 g2
    | false=>
     rw [h2,if_neg (by simp)] at h;rw [h2,Bt] at hr;exact sts hr (Ji z ks hz hm j (i+1+1) _ (by omega) ex d h)
theorem RV:Az prog (Aa [(26,.rd1 AS)]) (Aa [(13,poE)]) 0 (f58.body.getD .skip):=by
 refine Aw (a:=body f58 0) (by kernel_rfl) fun d ex d' h=>?_
 unfold poE at h;dsimp only at h;split at h
 ·rename_i z ks k i seen;obtain ⟨hc,hx⟩:=Ae h;clear h;obtain ⟨h0,h1,rfl,h3,h4⟩:=of_decide_eq_true hc;obtain ⟨i,rfl⟩:=eq_ofNat_of_zero_le h0;simp only [ntN] at h1 hx;exact Ji z ks h4 h3 (ks.length-i) i seen (by omega) ex d' hx
 ·cases h
theorem Kg (z:Rose Lab) (hc:z.kids.length<=maxI):AV prog (Aa [(26,.rd1 AS)]) (Aa [(13,poE)]) f58 [.tp LCd z 0] []=some (.b (B8 z.lab z.kids),[]):=by
 rw [PR]
 have hl : ∀ n:Nat,((z.kids.length:Int)==(n:Int))=(z.kids.length==n):=fun n=>by
  by_cases h:z.kids.length=n
  ·subst h; simp
  ·rw [beq_false_of_ne h,beq_false_of_ne (by omega)]
 have hl0:((z.kids.length:Int)==0)=(z.kids.length==0):=hl 0;have hl1:((z.kids.length:Int)==1)=(z.kids.length==1):=hl 1;have hd:decide ((0:Int)<=0/\0<=z.kids.length/\(z.kids.length:Int)=(z.kids.length:Int)/\z.kids.length<=maxI/\z.kids.length=z.kids.length)=true:=dcT ⟨by omega,by omega,rfl,hc,rfl⟩;unfold B8;rw [drop_zero,hl0,hl1]
 by_cases a1:z.lab.1=1
 ·rw [if_pos (.inl a1),a1];cases z.lab.2.2.2.2.1==0<;>rfl
 by_cases a2:z.lab.1=2
 ·rw [if_pos (.inr a2),a2];cases z.lab.2.2.2.2.1==0<;>rfl
 rw [Ah (beq_false_of_ne a1),Ah (beq_false_of_ne a2),if_neg (by rintro (h | h); exact a1 h; exact a2 h)]
 by_cases a3:z.lab.1=3
 ·rw [if_pos a3,a3,Aj (by rfl)]
  by_cases a5:0<=z.lab.2.2.2.2.1/\z.lab.2.2.2.2.1<=20
  ·rw [dcT a5]; rfl
  ·rw [dcF a5]; rfl
 rw [Ah (beq_false_of_ne a3),if_neg a3]
 by_cases a4:z.lab.1=4
 ·rw [if_pos a4,a4,Aj (by rfl)];cases z.lab.2.2.2.2.1==0<;>rfl
 rw [Ah (beq_false_of_ne a4),if_neg a4]
 by_cases a5:z.lab.1=5
 ·rw [Ah (by rw [a5]; rfl)]
  by_cases a6:z.lab.2.2.2.2.1=0
  ·rw [Ah (by rw [a6]; rfl),if_neg (by rintro (h | h); exact h a5; exact h a6),hd,Eo];cases FF z.kids 0 [] z.kids<;>rfl
  ·rw [Aj (by simpa using a6),if_pos (.inr a6)]
 ·rw [Aj (by simpa using a5),if_pos (.inl a5)]
theorem PT:Ab prog 58 (Ent.rd1 Ht).F:=by
 refine fcK (kc func26 IT KnowsL.nil).knows (Λ:=(Aa [(13,poE)])) func58 fun vs bs r hq=>?_
 unfold Ent.F Ht at hq;dsimp only at hq;split at hq
 ·rename_i z;obtain ⟨hc,hx⟩:=Ae hq;exact ⟨RV,(Kg z (of_decide_eq_true hc)).trans hx⟩
 ·cases hq
def AI {α:Type} (p:α->Bool):Nat->List α->Int
 | _,[]=>-1
 | n,z::l=>if p z=true then (n:Int) else AI p (n+1) l
mutual
def Ac:Rose Lab->Bool
 | .node x ks=>B8 x ks&&Cr x.1 ks
def Cr (k:Int):RL->Bool
 | []=>true
 | z::l=>(Dh k z.lab&&Ac z)&&Cr k l
end
mutual
def AX:Rose Lab->Bool
 | .node x ks=>decide (x.2.1.length<=maxI)&&CR ks
def CR:RL->Bool
 | []=>true
 | z::l=>AX z&&CR l
end
def AZ (z:Rose Lab):Bool:=z.lab.1==5&&z.lab.2.1==[]&&z.lab.2.2.1==0&&!z.lab.2.2.2.1&&Ac z&&decide (Bu z<=5)&&decide (Af z<=30)
def DJ (k:Int) (z:Rose Lab):Bool:=!(Dh k z.lab&&Ac z)
def Fp (n:Nat):Gm
 | [.tp LCd z 0],[]=>.need (decide (Af z<=n/\Af z<=1000000/\AX z=true)) (.leaf (.b (Ac z),[]))
 | _,_=>.no
def CU (n:Nat):Gm
 | [.tp LCd z 0,.bx [.tp LCd y 0] 0],[]=>.need (decide (Af z<=n/\Af z<=1000000/\AX z=true)) (.leaf (.b (DJ y.lab.1 z),[]))
 | _,_=>.no
def LB:Gm
 | [.tp LCd z 0],[]=>.need (decide (Af z<=1000000/\AX z=true)) (.leaf (.b (Ac z),[]))
 | _,_=>.no
def HB:Gm
 | [.tp LCd z 0],[]=>.need (decide (Af z<=1000000/\AX z=true)) (.leaf (.b (AZ z),[]))
 | _,_=>.no
def krE (n:Nat):LoopEnt:=⟨19,[0,1,4,7,8],[],[4],fun
 | ([.sl (.tree LCd) l,.fn 60 [] [.ptr 0 0],.j _,.j k,.j i],[some (.box [.tp LCd y 0])])=>
  .need (decide (0<=i/\i.toNat<=l.length/\l.length<=maxI/\k=l.length)&&l.all (fun z:Rose Lab=>decide (Af z<=n/\Af z<=1000000/\AX z=true))) (.br (decide (AI (fun z:Rose Lab=>DJ y.lab.1 z) i.toNat (l.drop i.toNat)<0)) (.leaf (.exit 0,([],[some (.box [.tp LCd y 0])]))) (.leaf (.ret,([.j (AI (fun z:Rose Lab=>DJ y.lab.1 z) i.toNat (l.drop i.toNat))],[some (.box [.tp LCd y 0])]))))
 | _=>.no⟩
def Qc (n:Nat):Gm
 | [.sl (.tree LCd) l,.fn 60 [] [.ptr 0 0]],[.box [.tp LCd y 0]]=>.need (l.all (fun z:Rose Lab=>decide (Af z<=n/\Af z<=1000000/\AX z=true))) (.leaf (.j (AI (fun z:Rose Lab=>DJ y.lab.1 z) 0 l),[some (.box [.tp LCd y 0])]))
 | _,_=>.no
def Rj (n:Nat):Gm
 | [.sl (.tree LCd) l,.fn 60 [] [.ptr 0 0]],[.box [.tp LCd y 0]]=>.need (l.all (fun z:Rose Lab=>decide (Af z<=n/\Af z<=1000000/\AX z=true))) (.leaf (.b (l.any (fun z:Rose Lab=>DJ y.lab.1 z)),[some (.box [.tp LCd y 0])]))
 | _,_=>.no
theorem Gt {α:Type} (p:α->Bool) : ∀ (l:List α) (n:Nat),(AI p n l = -1/\l.any p=false)\/((n:Int)<=AI p n l/\AI p n l<n+l.length/\l.any p=true)
 | [],n=>.inl ⟨rfl,rfl⟩
 | z::l,n=>by
  rw [AI,List.any_cons]
  by_cases h:p z=true
  ·rw [if_pos h,h]; exact .inr ⟨Int.le_refl _,by simp; omega,rfl⟩
  ·rw [if_neg h,show p z=false by simpa using h,Bool.false_or];rcases Gt p l (n+1) with ⟨h1,h2⟩ | ⟨h1,h2,h3⟩
   ·exact .inl ⟨h1,h2⟩
   ·exact .inr ⟨by omega,by simp; omega,h3⟩
theorem HL {α:Type} (p:α->Bool) (l:List α) (n:Nat):decide (AI p n l>=0)=l.any p:=by
 rcases Gt p l n with ⟨h1,h2⟩ | ⟨h1,h2,h3⟩
 ·rw [h2]; exact dcF (by omega)
 ·rw [h3]; exact dcT (by omega)
theorem HK {α:Type} (p:α->Bool) (l:List α) (n:Nat) (h:AI p n l<0):AI p n l = -1:=by
 rcases Gt p l n with ⟨h1,h2⟩ | ⟨h1,h2⟩
 ·exact h1
 ·omega
theorem IN {α:Type} (p:α->Bool) : ∀ (l:List α) (n:Nat),0<=AI p n l->∃ i,∃ h:i<l.length,AI p n l=((n+i:Nat):Int)/\p l[i]=true/\l.find? p=some l[i]
 | [],n,h=>by rw [AI] at h; omega
 | z::l,n,h=>by
  rw [AI] at h ⊢
  by_cases hp:p z=true
  ·rw [if_pos hp]; exact ⟨0,by simp,by simp,hp,by simp [hp]⟩
  ·rw [if_neg hp] at h ⊢;obtain ⟨i,h1,h2,h3,h4⟩:=IN p l (n+1) h;exact ⟨i+1,by simp; omega,by rw [h2]; congr 1; omega,by simpa using h3,by simp [hp,h4]⟩
theorem Km {z:Rose Lab} : ∀ {l:RL},CR l=true->z∈l->AX z=true
 | [],_,h=>by cases h
 | y::l,hn,h=>by
  rw [CR,anE] at hn;rcases mem_cons.1 h with rfl | h
  ·exact hn.1
  ·exact Km hn.2 h
theorem Hx {z:Rose Lab} (h:AX z=true):z.lab.2.1.length<=maxI:=by
 cases z;rw [AX,anE] at h;exact of_decide_eq_true h.1
theorem Nu {z:Rose Lab} (h:AX z=true):CR z.kids=true:=by
 cases z;rw [AX,anE] at h;exact h.2
theorem Ho (k:Int) : ∀ l:RL,Cr k l = !(l.any fun z=>DJ k z)
 | []=>rfl
 | z::l=>by rw [Cr,Ho k l,List.any_cons,DJ]; cases Dh k z.lab<;>cases Ac z<;>simp
theorem K6 (n:Nat) (hf:Ab prog 45 (Ent.rd1 (Fp n)).F):Ab prog 60 (Ent.rd1 (CU n)).F:=by
 refine fcK (kc func61 QZ (kc func45 hf KnowsL.nil)).knows (Λ:=Aa []) func60 fun vs bs r hq=>?_
 unfold Ent.F CU at hq;dsimp only at hq;split at hq
 ·rename_i z y;obtain ⟨hc,hx⟩:=Ae hq;refine ⟨Aq _,Eq.trans ?_ hx⟩
  have e:AV prog (Aa [(61,.rd1 Jk),(45,.rd1 (Fp n))]) (Aa []) f60 [.tp LCd z 0,.bx [.tp LCd y 0] 0] []=((ifT (decide (List.length z.lab.2.1<=maxI)) (ifB (!Dh y.lab.1 z.lab) (some (V.b true,[])) (ifT (decide (Af z<=n/\Af z<=1000000/\AX z=true))
 (some (V.b !Ac z,[]))))):_):=by kernel_rfl
  have hn:=of_decide_eq_true hc;rw [e,Ag (dcT (Hx hn.2.2))];unfold DJ
  cases Dh y.lab.1 z.lab with
  | true=>rw [Ag hc]; rfl
  | false=>rfl
 ·cases hq
theorem K7 (n:Nat) (y:Rose Lab) (l:RL) (r k i:Int):AD prog (Aa [(60,.rd1 (CU n))]) (Aa [(2,(krE n))]) 1 (body f48 0) (krE n) ([.sl (.tree LCd) l,.fn 60 [] [.ptr 0 0],.j r,.j k,.j i],[some (.box [.tp LCd y 0])]) =
 ((ifB (decide (i<k)) (ifT (decide (0<=i)&&decide (i<(↑l.length:Int))) (Am l[i.toNat]? fun z=>ifT (decide (Af z<=n/\Af z<=1000000/\AX z =
 true)) (ifB (DJ y.lab.1 z) (some (Ex.ret,[V.j i],[some (Blk.box [V.tp LCd y 0])])) (some (Ex.normal,[V.sl LCd.tree l,V.fn 60
 [] [V.ptr 0 0],V.j r,V.j k,V.j (i64.wrap (i+1))],[some (Blk.box [V.tp LCd y 0])]))))) (some (Ex.exit 0,[],[some (Blk.box [V.tp LCd
 y 0])]))):_):=by kernel_rfl
theorem MF (n:Nat) (y:Rose Lab) {l:RL} {r:Int} (hx:l.length<=maxI) (hs:(l.all (fun z:Rose Lab=>decide (Af z<=n/\Af z<=1000000/\AX z=true)))=true) : ∀ (j i:Nat),i+j=l.length->∀ e d',(.br (decide (AI (fun z:Rose Lab=>DJ y.lab.1 z) i (l.drop i)<0)) (.leaf (.exit 0,([],[some (.box [.tp LCd y 0])]))) (.leaf (.ret,([.j (AI (fun z:Rose Lab=>DJ y.lab.1 z) i (l.drop i))],[some (.box [.tp LCd y 0])]))):Br (Ex×Dt)).run=some (e,d')->
  Runs prog (Aa [(60,.rd1 (CU n))]) (Aa [(2,(krE n))]) 1 (body f48 0) (krE n) ([.sl (.tree LCd) l,.fn 60 [] [.ptr 0 0],.j r,.j (l.length:Int),.j (i:Int)],[some (.box [.tp LCd y 0])]) e d'
 | 0,i,hi,e,d',h=>by
  have e1:l.drop i=[]:=drop_eq_nil_of_le (by omega);rw [e1,EF,AI,if_pos (by omega)] at h;cases h;have hr:=K7 n y l r l.length i;rw [Ah (dcF (by omega))] at hr;exact stp hr
 | j+1,i,hi,e,d',h=>by
  have h1:i<l.length:=by omega
  have hr:=K7 n y l r l.length i;rw [Aj (dcT (by omega)),T2 (by omega)] at hr;simp only [ntN,gtE h1,Ao,AE (n:=i) (by omega)] at hr;have hz:=of_decide_eq_true (all_eq_true.1 hs _ (getElem_mem h1));rw [Ag (by simpa only [anE,dcE] using hz)] at hr;rw [drop_eq_getElem_cons h1,EF,AI] at h
  by_cases he:(fun z:Rose Lab=>DJ y.lab.1 z) l[i]=true
  ·rw [if_pos he,if_neg (by omega)] at h;cases h;rw [Aj he] at hr;exact stp hr
  ·rw [if_neg he] at h;rw [Ah (by simpa using he)] at hr;exact sts hr (MF n y hx hs j (i+1) (by omega) e d' (by rw [EF]; exact h))
theorem Sb (n:Nat):Az prog (Aa [(60,.rd1 (CU n))]) (Aa [(2,(krE n))]) 1 (f48.body.getD .skip):=by
 refine Aw (a:=body f48 0) (by kernel_rfl) fun d e d' h=>?_
 unfold krE at h;dsimp only at h;split at h
 ·obtain ⟨hc,h'⟩:=Ae h;rw [anE] at hc;obtain ⟨hc,hs⟩:=hc;obtain ⟨h0,h1,h2,rfl⟩:=of_decide_eq_true hc;obtain ⟨i,rfl⟩:=eq_ofNat_of_zero_le h0;exact MF n _  h2 hs _ i (Nat.add_sub_of_le h1) e d' h'
 ·cases h
theorem Rm (n:Nat) (y:Rose Lab) (l:RL) (hx:l.length<=maxI) (hs:(l.all (fun z:Rose Lab=>decide (Af z<=n/\Af z<=1000000/\AX z=true)))=true):AV prog (Aa [(60,.rd1 (CU n))]) (Aa [(2,(krE n))]) f48 [.sl (.tree LCd) l,.fn 60 [] [.ptr 0 0]] [.box [.tp LCd y 0]]=some (.j (AI (fun z:Rose Lab=>DJ y.lab.1 z) 0 l),[some (.box [.tp LCd y 0])]):=by
 have e:AV prog (Aa [(60,.rd1 (CU n))]) (Aa [(2,(krE n))]) f48 [.sl (.tree LCd) l,.fn 60 [] [.ptr 0 0]] [.box [.tp LCd y 0]] =
  ((ifT (decide ((0:Int)<=(0:Int)/\0<=l.length/\l.length<=maxI/\(↑l.length:Int)=(↑l.length:Int))&&l.all fun z=>decide (Af z<=n/\Af z<=
 1000000/\AX z=true)) (ifB (decide (AI (fun z=>DJ y.lab.1 z) 0 (drop 0 l)<(0:Int))) (some (V.j (-1),[some (Blk.box
 [V.tp LCd y 0])])) (some (V.j (AI (fun z=>DJ y.lab.1 z) 0 (drop 0 l)),[some (Blk.box [V.tp LCd y 0])])))):_):=by kernel_rfl
 rw [e,Ag (by rw [anE]; exact ⟨dcT ⟨by omega,by omega,hx,rfl⟩,hs⟩)];simp only [drop_zero]
 by_cases q:AI (fun z:Rose Lab=>DJ y.lab.1 z) 0 l<0
 ·rw [Aj (dcT q),HK _ _ _ q]
 ·rw [Ah (dcF q)]
theorem Rk (n:Nat) (hf:Ab prog 60 (Ent.rd1 (CU n)).F):Ab prog 48 (Ent.own (Qc n)).F:=by
 refine C7 (kc func60 hf KnowsL.nil).knows (Λ:=(Aa [(2,(krE n))])) func48 (c:=f48.body.getD .skip) (by kernel_rfl) fun vs bs r h hv hb=>?_
 unfold Ent.F Qc at h;dsimp only at h;split at h
 ·rename_i l y;obtain ⟨hc,h'⟩:=Ae h;exact ⟨Sb n,(Rm n y l (hv (.sl (.tree LCd) l) (by simp)).1 hc).trans (by cases h'; rfl)⟩
 ·cases h
theorem Qd (n:Nat) (y:Rose Lab) (l:RL) (hs:(l.all (fun z:Rose Lab=>decide (Af z<=n/\Af z<=1000000/\AX z=true)))=true):AV prog (Aa [(48,.own (Qc n))]) (Aa []) f59 [.sl (.tree LCd) l,.fn 60 [] [.ptr 0 0]] [.box [.tp LCd y 0]]=some (.b (l.any (fun z:Rose Lab=>DJ y.lab.1 z)),[some (.box [.tp LCd y 0])]):=by
 have e:AV prog (Aa [(48,.own (Qc n))]) (Aa []) f59 [.sl (.tree LCd) l,.fn 60 [] [.ptr 0 0]] [.box [.tp LCd y 0]] =
  ((ifT (l.all fun z=>decide (Af z<=n/\Af z<=1000000/\AX z=true)) (some (V.b (decide (AI (fun z=>DJ y.lab.1 z) 0 l>=(0:Int))),[some
 (Blk.box [V.tp LCd y 0])]))):_):=by kernel_rfl
 rw [e];rw [Ag hs];rw [HL]
theorem Rl (n:Nat) (hf:Ab prog 60 (Ent.rd1 (CU n)).F):Ab prog 59 (Ent.own (Rj n)).F:=by
 refine fcK (kc func48 (Rk n hf) KnowsL.nil).knows (Λ:=Aa []) func59 fun vs bs r h=>?_
 unfold Ent.F Rj at h;dsimp only at h;split at h
 ·rename_i l y;obtain ⟨hc,h'⟩:=Ae h;exact ⟨Aq _,(Qd n y l hc).trans (by cases h'; rfl)⟩
 ·cases h
theorem LY : ∀ n,(∀ m,m<n->Ab prog 45 (Ent.rd1 (Fp m)).F)->Ab prog 45 (Ent.rd1 (Fp n)).F
 | 0,_=>AN fun vs bs=>by
  unfold Ent.F Fp;dsimp only;split
  ·rename_i z;have:=Cf z;rw [dcF (show ¬(Af z<=0/\Af z<=1000000/\AX z=true) by omega)]; rfl
  ·rfl
 | n+1,ih=>by
  have hC:=Rl n (K6 n (ih n (lt_succ_self n)));refine fcK (kc func58 PT (kc func59 hC KnowsL.nil)).knows (Λ:=Aa []) func45 fun vs bs r hq=>?_
  unfold Ent.F Fp at hq;dsimp only at hq;split at hq
  ·rename_i z;obtain ⟨hc,hx⟩:=Ae hq;obtain ⟨h1,h2,h3⟩:=of_decide_eq_true hc;refine ⟨Aq _,Eq.trans ?_ hx⟩
   have e:AV prog (Aa [(58,.rd1 Ht),(59,.own (Rj n))]) (Aa []) f45 [.tp LCd z 0] []=((ifT (decide (z.kids.length<=maxI)) (ifB (B8 z.lab z.kids) (ifT (z.kids.all fun z=>decide (Af z<=n/\Af z<=1000000/\AX z=true)) (some (V.b
 !z.kids.any fun z_1=>DJ z.lab.1 z_1,[]))) nF)):_):=by kernel_rfl
   rw [AF] at h1 h2;have hl:=AK z.kids;have hM:=mxI;have hall:(z.kids.all fun z:Rose Lab=>decide (Af z<=n/\Af z<=1000000/\AX z=true))=true:=all_eq_true.2 fun w hw=>dcT ⟨by have:=AU hw; omega,by have:=AU hw; omega,Km (Nu h3) hw⟩
   rw [e,Ag (dcT (by omega))];have hr:Ac z=(B8 z.lab z.kids&&!(z.kids.any fun w=>DJ z.lab.1 w)):=by cases z; rw [Ac,Ho]; rfl
   rw [hr]
   cases B8 z.lab z.kids with
   | true=>rw [Bs,Ag hall]; rfl
   | false=>rfl
  ·cases hq
theorem right:Ab prog 45 (Ent.rd1 LB).F:=by
 refine Bl (F:=fun n=>(Ent.rd1 (Fp n)).F) LY fun vs bs r h=>?_
 unfold Ent.F LB at h;dsimp only at h;split at h
 ·rename_i z;obtain ⟨hc,hx⟩:=Ae h;obtain ⟨h1,h2⟩:=of_decide_eq_true hc;refine ⟨1000000,?_⟩;show (Br.need (decide (Af z<=1000000/\Af z<=1000000/\AX z=true)) (.leaf (.b (Ac z),[]))).run=some r;rw [dcT (show Af z<=1000000/\Af z<=1000000/\AX z=true from ⟨h1,h1,h2⟩)];exact hx
 ·cases h
theorem QK:Ab prog 28 (Ent.rd1 HB).F:=by
 refine fcK (kc func45 right (kc func46 Sg (kc func47 Rw KnowsL.nil))).knows (Λ:=Aa []) func28 fun vs bs r hq=>?_
 unfold Ent.F HB at hq;dsimp only at hq;split at hq
 ·rename_i z;obtain ⟨hc,hx⟩:=Ae hq;obtain ⟨h1,h2⟩:=of_decide_eq_true hc;refine ⟨Aq _,Eq.trans ?_ hx⟩
  have e:AV prog (Aa [(45,.rd1 LB),(46,.rd1 Me),(47,.rd1 J0)]) (Aa []) f28 [.tp LCd z 0] []=((ifB (z.lab.1==(5:Int)) (ifB (z.lab.2.1==Ar UInt8) (ifB (z.lab.2.2.1==(0:Int)) (ifB (!z.lab.2.2.2.1) (ifT (decide (Af z<=1000000
 /\ AX z=true)) (ifB (Ac z) (ifT (decide (Af z<=1000000)) (ifB (decide ((↑(Bu z):Int)<=(5:Int))) (ifT (decide (Af z<=1000000)) (some
 (V.b (decide ((↑(Af z):Int)<=(30:Int))),[]))) nF)) nF)) nF) nF) nF) nF):_):=by kernel_rfl
  rw [e,dcT h1,hc];have d1:decide ((Bu z:Int)<=5)=decide (Bu z<=5):=decide_eq_decide.2 (by omega);have d2:decide ((Af z:Int)<=30)=decide (Af z<=30):=decide_eq_decide.2 (by omega);rw [d1,d2];unfold AZ;cases z.lab.1==5<;>cases z.lab.2.1==[]<;>cases z.lab.2.2.1==0<;>cases z.lab.2.2.2.1<;>cases Ac z<;>cases decide (Bu z<=5)<;>rfl
 ·cases hq
def As (l:List Ty):Bool:=decide (1<=l.length/\l.length<=30)&&decide (AG l 0=some (-1))&&(kf l 0).2==l.length&&AZ (kf l 0).1
def nmL (l:List Ty):Bool:=l.all fun x=>decide (x.2.1.length<=maxI)
def GU:Gm
 | [.agg [.sl TCd l]],[]=>.need (decide (l.length<=4000000000)&&nmL l) (.br (As l) (.leaf (.ptr 0 0,[some (.box [.j (kf l 0).1.lab.1,.s (kf l 0).1.lab.2.1,.j (kf l 0).1.lab.2.2.1,.b (kf l 0).1.lab.2.2.2.1,.j (kf l 0).1.lab.2.2.2.2.1,.ref 1 0 (kf l 0).1.kids.length]),R0 (.tree LCd) (kf l 0).1.kids])) (.leaf (.np,[])))
 | _,_=>.no
def HH:Gm
 | [.agg [.sl TCd l]],[]=>.need (decide (l.length<=4000000000)&&nmL l) (.leaf (.b (As l),[]))
 | _,_=>.no
theorem ID {l:List Ty} {g:Nat->Rose Lab×Nat} {a:Nat} (hg : ∀ e,e<l.length->e+Af (g e).1=(g e).2) : ∀ (n e:Nat) (ks:RL),(AL g l a n e ks).2+Ai ks=e+Ai (AL g l a n e ks).1
 | 0,e,ks=>rfl
 | n+1,e,ks=>by
  unfold AL;split
  ·rename_i hu;have h1:=hg e (Ds hu);have h2:=ID (a:=a) hg n (g e).2 (ks++[(g e).1])
   have h3 : ∀ (ks:RL) (z:Rose Lab),Ai (ks++[z])=Ai ks+Af z:=fun ks z=>by
    induction ks with
    | nil=>simp [Ai]
    | cons y ks ih=>rw [cons_append,Ai,Ai,ih]; omega
   rw [h3] at h2;omega
  ·rfl
theorem MM (l:List Ty) : ∀ f a,a<l.length->a+Af (kfr l f a).1=(kfr l f a).2
 | 0,a,h=>by simp [kfr,Af,Ai]
 | f+1,a,h=>by
  unfold kfr;dsimp only
  cases Au (At l a).1 with
  | true=>
   have:=ID (a:=a) (MM l f) l.length (a+1) [];rw [Ai] at this;rw [cond_true,Af]; omega
  | false=>rw [cond_false,Af,Ai]
theorem Jz {l:List Ty} {a:Nat} (h:a<l.length):a+Af (kf l a).1=(kf l a).2:=MM l l.length a h
theorem Hy : ∀ (ks:RL) (z:Rose Lab),CR ks=true->AX z=true->CR (ks++[z])=true
 | [],z,_,h=>by simp [CR,h]
 | y::ks,z,h1,h2=>by
  rw [CR,anE] at h1;rw [cons_append,CR,h1.1,Hy ks z h1.2 h2]; rfl
theorem IC {l:List Ty} {g:Nat->Rose Lab×Nat} {a:Nat} (hg : ∀ e,AX (g e).1=true) : ∀ (n e:Nat) (ks:RL),CR ks=true->CR (AL g l a n e ks).1=true
 | 0,e,ks,h=>h
 | n+1,e,ks,h=>by
  unfold AL;split
  ·exact IC hg n _ _ (Hy _ _ h (hg e))
  ·exact h
theorem ML {l:List Ty} (hn:nmL l=true) : ∀ f a,AX (kfr l f a).1=true:=by
 have lab : ∀ a,(At l a).2.1.length<=maxI:=fun a=>by
  unfold At
  cases h:l[a]? with
  | none=>exact Nat.zero_le _
  | some x=>exact of_decide_eq_true (all_eq_true.1 hn x (List.mem_of_getElem? h))
 intro f
 induction f with
 | zero=>intro a; simp [kfr,AX,CR,lab a]
 | succ f ih=>
  intro a;unfold kfr;dsimp only
  cases Au (At l a).1 with
  | true=>rw [cond_true,AX,dcT (lab a),IC ih _ _ _ rfl]; rfl
  | false=>rw [cond_false,AX,dcT (lab a)]; rfl
theorem Mb (l:List Ty) (h1:l.length<=4000000000) (h2:nmL l=true):Dq prog (Aa [(26,.rd1 AS),(27,.rd1 EJ),(28,.rd1 HB)]) (Aa []) f12 [.agg [.sl TCd l]] []=(.br (As l) (.leaf (.ptr 0 0,[some (.box [.j (kf l 0).1.lab.1,.s (kf l 0).1.lab.2.1,.j (kf l 0).1.lab.2.2.1,.b (kf l 0).1.lab.2.2.2.1,.j (kf l 0).1.lab.2.2.2.2.1,.ref 1 0 (kf l 0).1.kids.length]),R0 (.tree LCd) (kf l 0).1.kids])) (.leaf (.np,[])):Br (V×List (Option Blk))).run:=by
 have e:Dq prog (Aa [(26,.rd1 AS),(27,.rd1 EJ),(28,.rd1 HB)]) (Aa []) f12 [.agg [.sl TCd l]] []=((ifB (!decide (1<=(↑l.length:Int)/\(↑l.length:Int)<=(30:Int))) (some (V.np,[])) (ifT (decide ((0:Int)<=(0:Int))&&decide (0<(↑l.length:Int))) (Am
 l[0]? fun z=>ifB (z.2.2.2.2.1 != (-1:Int)) (some (V.np,[])) (ifT (decide ((0:Int)<=(0:Int)/\0<l.length/\l.length<=(4000000000 :
 Nat))) (ifB ((↑(kf l 0).2:Int) != (↑l.length:Int)) (some (V.np,[])) (ifT (decide (Af (Rose.node ((kf l 0).1.lab.1,(kf l (0 :
 Nat)).1.lab.2.1,(kf l 0).1.lab.2.2.1,(kf l 0).1.lab.2.2.2.1,(kf l 0).1.lab.2.2.2.2.1,()) (take (kf l
 0).1.kids.length (drop 0 (kf l 0).1.kids)))<=1000000/\AX (Rose.node ((kf l 0).1.lab.1,(kf l (0 :
 Nat)).1.lab.2.1,(kf l 0).1.lab.2.2.1,(kf l 0).1.lab.2.2.2.1,(kf l 0).1.lab.2.2.2.2.1,()) (take (kf l
 0).1.kids.length (drop 0 (kf l 0).1.kids)))=true)) (ifB (!AZ (Rose.node ((kf l 0).1.lab.1,(kf l (0 :
 Nat)).1.lab.2.1,(kf l 0).1.lab.2.2.1,(kf l 0).1.lab.2.2.2.1,(kf l 0).1.lab.2.2.2.2.1,()) (take (kf l
 0).1.kids.length (drop 0 (kf l 0).1.kids)))) (some (V.np,[])) (some (V.ptr 0 0,[some (Blk.box [V.j (kf l 0).1.lab.1,
 V.s (kf l 0).1.lab.2.1,V.j (kf l 0).1.lab.2.2.1,V.b (kf l 0).1.lab.2.2.2.1,V.j (kf l (0 :
 Nat)).1.lab.2.2.2.2.1,V.ref 1 0 (kf l 0).1.kids.length]),R0 LCd.tree (kf l 0).1.kids]))))))))):_):=by kernel_rfl
 rw [e];clear e;unfold As
 by_cases a1:1<=l.length/\l.length<=30
 ·have hl:0<l.length:=by omega
  have d1:decide ((1:Int)<=(l.length:Int)/\(l.length:Int)<=30)=true:=dcT (by omega);have d2:(decide ((0:Int)<=0)&&decide ((0:Int)<(l.length:Int)))=true:=by simp only [anE,dcE]; omega
  have d3:decide ((0:Int)<=0/\0<l.length/\l.length<=4000000000)=true:=dcT ⟨by omega,hl,h1⟩;have hc:=Jz hl;have hb:=Dk l 0 hl;have d4:decide (Af (kf l 0).1<=1000000/\AX (kf l 0).1=true)=true:=dcT ⟨by omega,ML h2 _ _⟩;have ht:=CG (kf l 0).1;rw [drop_zero,take_length] at ht;rw [d1,dcT a1];simp only [Bool.not_true,Bt,d2,Eo,gtE hl,Ao,d3,drop_zero,take_length,ht,d4,Bool.true_and];have hu:AG l 0=some (l[0].2.2.2.2.1):=by unfold AG; rw [gtE hl]; rfl
  rw [hu]
  by_cases a2:l[0].2.2.2.2.1 = -1
  ·rw [a2]
   by_cases a3:(kf l 0).2=l.length
   ·rw [a3];cases AZ (kf l 0).1<;>simp [Br.run]
   ·rw [beq_false_of_ne a3];have:(((kf l 0).2:Int) != (l.length:Int))=true:=by simpa using a3
    simp [this,Br.run]
  ·have:(l[0].2.2.2.2.1 != (-1:Int))=true:=by simpa using a2
   simp [a2,this,Br.run]
 ·have d1:decide ((1:Int)<=(l.length:Int)/\(l.length:Int)<=30)=false:=dcF (by omega);rw [d1,dcF a1];rfl
theorem Pc:Ab prog 12 (Ent.rd1 GU).F:=by
 refine fcN (kc func26 IT (kc func27 Pd (kc func28 QK KnowsL.nil))).knows (Λ:=Aa []) func12 fun vs bs r hq=>?_
 unfold Ent.F GU at hq;dsimp only at hq;split at hq
 ·rename_i l;obtain ⟨hc,hx⟩:=Ae hq;rw [anE] at hc;exact ⟨Aq _,(Mb l (of_decide_eq_true hc.1) hc.2).trans hx⟩
 ·cases hq
def Cm (k:Int):Nat->List Ty->List Int
 | _,[]=>[]
 | i,x::l=>if x.2.2.2.2.1=k then (i:Int)::Cm k (i+1) l else Cm k (i+1) l
def Be (l:List Ty) (k:Nat):List Int:=Cm k (k+1) (l.drop (k+1))
def t2 (l:List Ty):Nat->Nat->Rose Lab
 | 0,k=>.node (At l k) []
 | f+1,k=>.node (At l k) ((Be l k).map fun i=>t2 l f i.toNat)
def t2L (l:List Ty) (k:Nat):Rose Lab:=t2 l l.length k
def CT:LoopEnt:=⟨29,[1,2,5,6],[5],[],fun
 | ([.j k,.ptr 0 0,.ref 1 0 n,.j i],[some (.box [.sl TCd l]),R0 (.int .i64) o])=>.need (decide (0<=i/\i.toNat<=l.length/\l.length<=4000000000/\n=o.length/\o.length<=i.toNat)) (.leaf (.exit 0,([.ref 0 0 (o++Cm k i.toNat (l.drop i.toNat)).length],[R0 (.int .i64) (o++Cm k i.toNat (l.drop i.toNat))])))
 | _=>.no⟩
def GT:Gm
 | [.agg [.sl TCd l],.j k],[]=>.need (decide (0<=k/\k.toNat<l.length/\l.length<=4000000000)) (.leaf (.ref 0 0 (Be l k.toNat).length,[R0 (.int .i64) (Be l k.toNat)]))
 | _,_=>.no
def DU (n:Nat):Gm
 | [.agg [.sl TCd l],.j k],[]=>.need (decide (0<=k/\k.toNat<l.length/\l.length<=4000000000/\l.length-k.toNat<=n)) (.leaf (.agg [.j (t2L l k.toNat).lab.1,.s (t2L l k.toNat).lab.2.1,.j (t2L l k.toNat).lab.2.2.1,.b (t2L l k.toNat).lab.2.2.2.1,.j (t2L l k.toNat).lab.2.2.2.2.1,.ref 0 0 (t2L l k.toNat).kids.length],[R0 (.rose LCd) (t2L l k.toNat).kids]))
 | _,_=>.no
def FI:Gm
 | [.agg [.sl TCd l],.j k],[]=>.need (decide (0<=k/\k.toNat<l.length/\l.length<=4000000000)) (.leaf (.agg [.j (t2L l k.toNat).lab.1,.s (t2L l k.toNat).lab.2.1,.j (t2L l k.toNat).lab.2.2.1,.b (t2L l k.toNat).lab.2.2.2.1,.j (t2L l k.toNat).lab.2.2.2.2.1,.ref 0 0 (t2L l k.toNat).kids.length],[R0 (.rose LCd) (t2L l k.toNat).kids]))
 | _,_=>.no
def CS (n:Nat):LoopEnt:=⟨43,[2,4,6,27,28,29],[4,6],[],fun
 | ([.ptr 0 0,.ptr 1 0,.ptr 2 0,.ref 3 0 p,.j m,.j i],[some (.box [.sl TCd l]),some (.box [.j 0,.s [],.j 0,.b false,.j 0,.ref 4 0 0]),some (.box [.j x0,.s x1,.j x2,.b x3,.j x4,.ref 5 0 k]),R0 (.int .i64) q,R0 (.rose LCd) [],R0 (.rose LCd) ks])=>.need (decide (0<=i/\i.toNat<=q.length/\m=q.length/\p=q.length/\k=ks.length/\ks.length<=i.toNat/\q.length<=4000000000/\l.length<=4000000000)&&(q.all fun i:Int=>decide (0<=i/\i.toNat<l.length/\l.length-i.toNat<=n))) (.leaf (.exit 0,([.ptr 0 0,.ptr 1 0],[some (.box [.j 0,.s [],.j 0,.b false,.j 0,.ref 2 0 0]),some (.box [.j x0,.s x1,.j x2,.b x3,.j x4,.ref 3 0 (ks++(q.drop i.toNat).map fun i=>t2L l i.toNat).length]),R0 (.rose LCd) [],R0 (.rose LCd) (ks++(q.drop i.toNat).map fun i=>t2L l i.toNat)])))
 | _=>.no⟩
theorem IE {k:Int} : ∀ {l:List Ty} {i:Nat} {x:Int},x∈Cm k i l->∃ j:Nat,x=(j:Int)/\i<=j/\j<i+l.length
 | [],i,x,h=>by simp [Cm] at h
 | y::l,i,x,h=>by
  rw [Cm] at h
  have rest:x∈Cm k (i+1) l->∃ j:Nat,x=(j:Int)/\i<=j/\j<i+(y::l).length:=fun h=>by
   obtain ⟨j,h1,h2,h3⟩:=IE h;exact ⟨j,h1,by omega,by simp; omega⟩
  split at h
  ·rcases mem_cons.1 h with rfl | h
   ·exact ⟨i,rfl,Nat.le_refl _,by simp⟩
   ·exact rest h
  ·exact rest h
theorem Fq {l:List Ty} {k:Nat} {x:Int} (h:x∈Be l k) : ∃ j:Nat,x=(j:Int)/\k<j/\j<l.length:=by
 obtain ⟨j,h1,h2,h3⟩:=IE h;rw [List.length_drop] at h3;exact ⟨j,h1,by omega,by omega⟩
theorem IF (k:Int) : ∀ (l:List Ty) (i:Nat),(Cm k i l).length<=l.length
 | [],i=>Nat.le_refl _
 | y::l,i=>by
  rw [Cm];have:=IF k l (i+1);split<;>simp<;>omega
theorem Mv (l:List Ty) : ∀ (f f' k:Nat),l.length-k<=f->l.length-k<=f'->k<l.length->t2 l f k=t2 l f' k
 | 0,f',k,h1,_,h=>by omega
 | f+1,0,k,_,h1,h=>by omega
 | f+1,f'+1,k,h1,h2,h=>by
  unfold t2;congr 1;refine List.map_congr_left fun x hx=>?_
  obtain ⟨j,rfl,h3,h4⟩:=Fq hx;exact Mv l f f' _ (by simp; omega) (by simp; omega) (by simpa using h4)
theorem QE {l:List Ty} {k:Nat} (h:k<l.length):t2L l k = .node (At l k) ((Be l k).map fun i=>t2L l i.toNat):=by
 obtain ⟨m,hm⟩ : ∃ m,l.length=m+1:=⟨l.length-1,by omega⟩
 unfold t2L
 conv=>lhs; rw [hm]
 rw [t2];congr 1;refine List.map_congr_left fun x hx=>?_
 obtain ⟨j,rfl,h3,h4⟩:=Fq hx;exact Mv l m l.length _ (by simp; omega) (by simp) (by simpa using h4)
theorem FK (l:List Ty) (k:Int) (n:Nat) (i:Int) (o:List Int):AD prog (Aa []) (Aa [(3,CT)]) 0 (body f34 0) CT ([.j k,.ptr 0 0,.ref 1 0 n,.j i],[some (.box [.sl TCd l]),R0 (.int .i64) o]) =
 ((ifB (decide (i<(↑l.length:Int))) (ifT (decide (0<=i)&&decide (i<(↑l.length:Int))) (Am l[i.toNat]? fun z=>ifB (z.2.2.2.2.1==k) (ifT (decide ((n
 + 1)*8<=140737488355328)&&decide (n+1<=maxI)) (some (Ex.normal,[V.j k,V.ptr 0 0,V.ref 1 0 (n+1),V.i .i64
 (i64.wrap (i+1))],[some (Blk.box [V.sl TCd l]),R0 (Cd.int .i64) (take n (drop 0 o)++i::Ar (Cd.int
 .i64).den)]))) (some (Ex.normal,[V.j k,V.ptr 0 0,V.ref 1 0 n,V.j (i64.wrap (i+1))],[some (Blk.box [V.sl TCd l]),R0 (Cd.int .i64) o])))) (some (Ex.exit 0,[V.ref 0 0 n],[R0 (Cd.int .i64) o]))):_):=by kernel_rfl
theorem E3 (l:List Ty) (k:Int) (hl:l.length<=4000000000) : ∀ (j i:Nat) (o:List Int),i+j=l.length->o.length<=i->
  Runs prog (Aa []) (Aa [(3,CT)]) 0 (body f34 0) CT ([.j k,.ptr 0 0,.ref 1 0 o.length,.j (i:Int)],[some (.box [.sl TCd l]),R0 (.int .i64) o]) (.exit 0) ([.ref 0 0 (o++Cm k i (l.drop i)).length],[R0 (.int .i64) (o++Cm k i (l.drop i))])
 | 0,i,o,hi,ho=>by
  have hr:=FK l k o.length i o;rw [Ah (dcF (by omega))] at hr;rw [drop_eq_nil_of_le (by omega),Cm,append_nil];exact stp hr
 | j+1,i,o,hi,ho=>by
  have h1:i<l.length:=by omega
  have hM:=mxI;have hr:=FK l k o.length i o;rw [Aj (dcT (by omega)),T2 (by omega)] at hr;simp only [ntN,gtE h1,Ao,AE (n:=i) (by omega),drop_zero,take_length] at hr;rw [drop_eq_getElem_cons h1,Cm]
  by_cases h2:l[i].2.2.2.2.1=k
  ·rw [Aj (by rw [h2]; exact beq_self_eq_true _),T2 (by omega)] at hr;rw [if_pos h2];have ih:=E3 l k hl j (i+1) (o++[(i:Int)]) (by omega) (by simp; omega);rw [append_assoc] at ih;exact sts (hr.trans (by simp)) ih
  ·rw [Ah (beq_false_of_ne h2)] at hr;rw [if_neg h2];exact sts hr (E3 l k hl j (i+1) o (by omega) (by omega))
theorem N4:Az prog (Aa []) (Aa [(3,CT)]) 0 (f34.body.getD .skip):=by
 refine Aw (a:=body f34 0) (by kernel_rfl) fun d ex d' h=>?_
 unfold CT at h;dsimp only at h;split at h
 ·rename_i k n i l o;obtain ⟨hc,hx⟩:=Ae h;clear h;obtain ⟨h0,h1,h2,rfl,h4⟩:=of_decide_eq_true hc;obtain ⟨i,rfl⟩:=eq_ofNat_of_zero_le h0;simp only [ntN] at h1 h4 hx;obtain ⟨rfl,rfl⟩:=lfP hx;exact E3 l k h2 (l.length-i) i o (by omega) h4
 ·cases h
theorem LV (l:List Ty) (k:Int) (hc:0<=k/\k.toNat<l.length/\l.length<=4000000000):Dq prog (Aa []) (Aa [(3,CT)]) f34 [.agg [.sl TCd l],.j k] []=some (.ref 0 0 (Be l k.toNat).length,[R0 (.int .i64) (Be l k.toNat)]):=by
 have e:Dq prog (Aa []) (Aa [(3,CT)]) f34 [.agg [.sl TCd l],.j k] []=((ifT (decide (0<=i64.wrap (k+1)/\(i64.wrap (k+1)).toNat<=l.length/\l.length<=4000000000/\0=0/\0<=
 (i64.wrap (k+1)).toNat)) (some (V.ref 0 0 (Ar (Cd.int .i64).den++Cm k (i64.wrap (k+1)).toNat (drop (i64.wrap (k+1)).toNat
 l)).length,[R0 (Cd.int .i64) (Ar (Cd.int .i64).den++Cm k (i64.wrap (k+1)).toNat (drop (i64.wrap (k+1)).toNat
 l))]))):_):=by kernel_rfl
 rw [e];clear e;obtain ⟨h0,h1,h2⟩:=hc;obtain ⟨k,rfl⟩:=eq_ofNat_of_zero_le h0;rw [ntN] at h1;have hM:=mxI;rw [AE (n:=k) (by omega),Ag (dcT ⟨by omega,by omega,h2,by simp,by simp⟩)];simp only [ntN,AH,List.nil_append];rfl
theorem ON:Ab prog 34 (Ent.rd1 GT).F:=by
 refine fcN KnowsL.nil.knows (Λ:=(Aa [(3,CT)])) func34 fun vs bs r hq=>?_
 unfold Ent.F GT at hq;dsimp only at hq;split at hq
 ·rename_i l k;obtain ⟨hc,hx⟩:=Ae hq;exact ⟨N4,(LV l k (of_decide_eq_true hc)).trans hx⟩
 ·cases hq
abbrev PG (n:Nat):FuncId->Option Ent:=Aa [(34,.rd1 GT),(17,.rd1 (DU n))]
theorem FH (n:Nat) (l:List Ty) (x0:Int) (x1:By) (x2:Int) (x3:Bool) (x4:Int) (p:Nat) (m i:Int) (k:Nat) (q:List Int) (ks:RL):AD prog (PG n) (Aa [(4,CS n)]) 0 (body f17 0) (CS n) ([.ptr 0 0,.ptr 1 0,.ptr 2 0,.ref 3 0 p,.j m,.j i],[some (.box [.sl TCd l]),some (.box [.j 0,.s [],.j 0,.b false,.j 0,.ref 4 0 0]),some (.box [.j x0,.s x1,.j x2,.b x3,.j x4,.ref 5 0 k]),R0 (.int .i64) q,R0 (.rose LCd) [],R0 (.rose LCd) ks]) =
 ((shr (Ar LCd.rose.den) fun sh1=>ifB (decide (i<m)) (ifT (decide (0<=i)&&decide (i<(↑p:Int))) (Am q[0+i.toNat]? fun z=>ifT (decide ((0:Int)<=
 z/\toNat z<l.length/\l.length<=4000000000/\l.length-toNat z<=n)) (ifT (decide ((k+1)*72<=140737488355328)&&decide
 (k+1<=maxI)) (some (Ex.normal,[V.ptr 0 0,V.ptr 1 0,V.ptr 2 0,V.ref 3 0 p,V.j m,V.j (i64.wrap (i+1))],[some (Blk.box [V.sl TCd l]),
 some (Blk.box [V.j 0,V.s (Ar UInt8),V.j 0,V.b false,V.j 0,V.ref 4 0 0]),some (Blk.box [V.j x0,V.s x1,V.j x2,V.b x3,V.j x4,V.ref
 5 0 (k+1)]),R0 (Cd.int .i64) q,R0 LCd.rose sh1,R0 LCd.rose (take k (drop (0 :
 Nat) ks)++Rose.node ((t2L l (toNat z)).lab.1,(t2L l (toNat z)).lab.2.1,(t2L l (toNat z)).lab.2.2.1,(t2L l (toNat z)).lab.2.2.2.1,
 (t2L l (toNat z)).lab.2.2.2.2.1,()) (take (t2L l (toNat z)).kids.length (drop 0 (t2L l (toNat z)).kids))::sh1)]))))) (some
 (Ex.exit 0,[V.ptr 0 0,V.ptr 1 0],[some (Blk.box [V.j 0,V.s (Ar UInt8),V.j 0,V.b false,V.j 0,V.ref 2 0 0]),some (Blk.box [V.j x0,V.s x1,
 V.j x2,V.b x3,V.j x4,V.ref 3 0 k]),R0 LCd.rose sh1,R0 LCd.rose ks]))):_):=by kernel_rfl
theorem K1 (n:Nat) (l:List Ty) (k:Int):Dq prog (PG n) (Aa [(4,CS n)]) f17 [.agg [.sl TCd l],.j k] [] =
 ((ifT (decide (0<=k)&&decide (k<(↑l.length:Int))) (Am l[k.toNat]? fun z=>ifT (decide (0<=k/\k.toNat<l.length/\l.length<=4000000000)) (ifT (decide
 ((0:Int)<=(0:Int)/\0<=(Be l k.toNat).length/\(↑(Be l k.toNat).length:Int)=(↑(Be l k.toNat).length:Int)/\(Be l k.toNat).length =
 (Be l k.toNat).length/\0=0/\0<=0/\(Be l k.toNat).length<=4000000000/\l.length<=4000000000)&&(Be l
 k.toNat).all fun i=>decide ((0:Int)<=i/\i.toNat<l.length/\l.length-i.toNat<=n)) (some (V.agg [V.j z.1,V.s z.2.1,V.j z.2.2.1,V.b
 z.2.2.2.1,V.j z.2.2.2.2.2.1,V.ref 0 0 (Ar LCd.rose.den++List.map (fun i=>t2L l (toNat i)) (drop 0 (Be l
 k.toNat))).length],[R0 LCd.rose (Ar LCd.rose.den++List.map (fun i=>t2L l (toNat i)) (drop 0 (Be l k.toNat)))]))))):_):=by kernel_rfl
theorem GA (n:Nat) (l:List Ty) (x0:Int) (x1:By) (x2:Int) (x3:Bool) (x4:Int) (q:List Int) (hl:l.length<=4000000000) (hq:q.length<=4000000000) (hs:(q.all fun i:Int=>decide (0<=i/\i.toNat<l.length/\l.length-i.toNat<=n))=true) : ∀ (j i:Nat) (ks:RL),i+j=q.length->ks.length<=i->
  Runs prog (PG n) (Aa [(4,CS n)]) 0 (body f17 0) (CS n) ([.ptr 0 0,.ptr 1 0,.ptr 2 0,.ref 3 0 q.length,.j (q.length:Int),.j (i:Int)],[some (.box [.sl TCd l]),some (.box [.j 0,.s [],.j 0,.b false,.j 0,.ref 4 0 0]),some (.box [.j x0,.s x1,.j x2,.b x3,.j x4,.ref 5 0 ks.length]),R0 (.int .i64) q,R0 (.rose LCd) [],R0 (.rose LCd) ks]) (.exit 0) ([.ptr 0 0,.ptr 1 0],[some (.box [.j 0,.s [],.j 0,.b false,.j 0,.ref 2 0 0]),some (.box [.j x0,.s x1,.j x2,.b x3,.j x4,.ref 3 0 (ks++(q.drop i).map fun i=>t2L l i.toNat).length]),R0 (.rose LCd) [],R0 (.rose LCd) (ks++(q.drop i).map fun i=>t2L l i.toNat)])
 | 0,i,ks,hi,hk=>by
  have hr:=FH n l x0 x1 x2 x3 x4 q.length q.length i ks.length q ks;dsimp only [shr] at hr;rw [Ah (dcF (by omega))] at hr;rw [drop_eq_nil_of_le (by omega),List.map_nil,append_nil];exact stp hr
 | j+1,i,ks,hi,hk=>by
  have h1:i<q.length:=by omega
  have hM:=mxI;have hr:=FH n l x0 x1 x2 x3 x4 q.length q.length i ks.length q ks;dsimp only [shr] at hr;have hz:=of_decide_eq_true (all_eq_true.1 hs _ (getElem_mem h1));rw [Aj (dcT (by omega)),T2 (by omega)] at hr;simp only [ntN,Nat.zero_add,gtE h1,Ao,AE (n:=i) (by omega),drop_zero,take_length] at hr;rw [Ag (dcT ⟨hz.1,hz.2.1,hl,hz.2.2⟩),T2 (by omega)] at hr;have ht:=CG (t2L l q[i].toNat);rw [drop_zero,take_length] at ht;rw [ht] at hr;rw [drop_eq_getElem_cons h1,List.map_cons];have ih:=GA n l x0 x1 x2 x3 x4 q hl hq hs j (i+1) (ks++[t2L l q[i].toNat]) (by omega) (by simp; omega);rw [append_assoc] at ih;exact sts (hr.trans (by simp)) ih
theorem N1 (n:Nat):Az prog (PG n) (Aa [(4,CS n)]) 0 (f17.body.getD .skip):=by
 refine Aw (a:=body f17 0) (by kernel_rfl) fun d ex d' h=>?_
 unfold CS at h;dsimp only at h;split at h
 ·rename_i p m i l x0 x1 x2 x3 x4 k q ks;obtain ⟨hc,hx⟩:=Ae h;clear h;rw [anE] at hc;obtain ⟨hc,hs⟩:=hc;obtain ⟨h0,h1,rfl,rfl,rfl,h5,h6,h7⟩:=of_decide_eq_true hc;obtain ⟨i,rfl⟩:=eq_ofNat_of_zero_le h0;simp only [ntN] at h1 h5 hx;obtain ⟨rfl,rfl⟩:=lfP hx;exact GA n l x0 x1 x2 x3 x4 q h7 h6 hs (q.length-i) i ks (by omega) h5
 ·cases h
theorem LR (n:Nat) (l:List Ty) (k:Int) (hc:0<=k/\k.toNat<l.length/\l.length<=4000000000/\l.length-k.toNat<=n+1):Dq prog (PG n) (Aa [(4,CS n)]) f17 [.agg [.sl TCd l],.j k] []=some (.agg [.j (t2L l k.toNat).lab.1,.s (t2L l k.toNat).lab.2.1,.j (t2L l k.toNat).lab.2.2.1,.b (t2L l k.toNat).lab.2.2.2.1,.j (t2L l k.toNat).lab.2.2.2.2.1,.ref 0 0 (t2L l k.toNat).kids.length],[R0 (.rose LCd) (t2L l k.toNat).kids]):=by
 rw [K1];obtain ⟨h0,h1,h2,h3⟩:=hc;obtain ⟨k,rfl⟩:=eq_ofNat_of_zero_le h0;rw [ntN] at h1 h3;have hkl:=IF (k:Int) (l.drop (k+1)) (k+1);rw [List.length_drop] at hkl;have hkl2:(Be l k).length<=l.length-(k+1):=hkl;rw [T2 (by omega)];simp only [ntN,gtE h1,Ao];rw [Ag (dcT ⟨by omega,h1,h2⟩)]
 have hall:((Be l k).all fun i:Int=>decide (0<=i/\i.toNat<l.length/\l.length-i.toNat<=n))=true:=all_eq_true.2 fun x hx=>by
  obtain ⟨j,rfl,h5,h6⟩:=Fq hx;exact dcT ⟨by omega,by simpa using h6,by simp; omega⟩
 rw [Ag (by rw [anE]; exact ⟨dcT ⟨by omega,by simp,by simp,by simp,by simp,by simp,by omega,h2⟩,hall⟩)];have hlab:At l k=(l[k].1,l[k].2.1,l[k].2.2.1,l[k].2.2.2.1,l[k].2.2.2.2.2.1,()):=by unfold At; rw [gtE h1]
 rw [QE h1,hlab];simp [Rose.lab,Rose.kids]
theorem LS : ∀ n,(∀ m,m<n->Ab prog 17 (Ent.rd1 (DU m)).F)->Ab prog 17 (Ent.rd1 (DU n)).F
 | 0,_=>AN fun vs bs=>by
  unfold Ent.F DU;dsimp only;split
  ·rename_i l a;have:decide (0<=a/\a.toNat<l.length/\l.length<=4000000000/\l.length-a.toNat<=0)=false:=dcF (by omega);rw [this]; rfl
  ·rfl
 | n+1,ih=>by
  refine fcN (kc func34 ON (kc func17 (ih n (lt_succ_self n)) KnowsL.nil)).knows (Λ:=(Aa [(4,CS n)])) func17 fun vs bs r hq=>?_
  unfold Ent.F DU at hq;dsimp only at hq;split at hq
  ·rename_i l a;obtain ⟨hc,hx⟩:=Ae hq;exact ⟨N1 n,(LR n l a (of_decide_eq_true hc)).trans hx⟩
  ·cases hq
theorem LT:Ab prog 17 (Ent.rd1 FI).F:=by
 refine Bl (F:=fun n=>(Ent.rd1 (DU n)).F) LS fun vs bs r h=>?_
 unfold Ent.F FI at h;dsimp only at h;split at h
 ·rename_i l a;obtain ⟨hc,hx⟩:=Ae h;obtain ⟨h0,h1,h2⟩:=of_decide_eq_true hc;refine ⟨l.length,?_⟩;unfold Ent.F DU;dsimp only;have:decide (0<=a/\a.toNat<l.length/\l.length<=4000000000/\l.length-a.toNat<=l.length)=true:=dcT ⟨h0,h1,h2,by omega⟩;rw [this];exact hx
 ·cases h
def Gc (n:Nat):Gm
 | [.agg (Lt z0 _ _ _ _ zs)],[]=>.need (decide (Ai zs+1<=n/\Ai zs+1<=1000000)) (.leaf (.j ((BK zs+(bif Au z0 then 1 else 0):Nat):Int),[]))
 | _,_=>.no
def LA:Gm
 | [.agg (Lt z0 _ _ _ _ zs)],[]=>.need (decide (Ai zs+1<=1000000)) (.leaf (.j ((BK zs+(bif Au z0 then 1 else 0):Nat):Int),[]))
 | _,_=>.no
def DP (n:Nat):LoopEnt:=⟨27,[1,3,8,9,10],[1,3],[],fun
 | ([.ptr 0 0,.j m,.sl (.rose LCd) ks,.j k,.j i],[some (.box (Lt y0 y1 y2 y3 y4 ys))])=>.need (decide (0<=m/\m<=1000001/\0<=i/\i.toNat<=ks.length/\k=ks.length/\Ai ks<=n/\Ai ks<=1000000)) (.leaf (.exit 0,([.ptr 0 0,.j ((max m.toNat (BK (ks.drop i.toNat)):Nat):Int)],[some (.box (Lt y0 y1 y2 y3 y4 ys))])))
 | _=>.no⟩
def CJ (l:List Ty) (u:Int):Nat->Int->Bool
 | 0,_=>false
 | f+1,x=>if x<0 then false else if x=u then true else match AG l x.toNat with | some v=>CJ l u f v | none=>false
def Cj (l:List Ty) (i:Nat):Bool:=(range i).all fun j=>match AG l j with | some v=>decide (v<(j:Int)) | none=>false
def CY (l:List Ty) (i:Nat):Bool:=match AG l i with | some u=>CJ l u (i+1) ((i:Int)-1) | none=>false
def Gn:Gm
 | [.sl TCd l,.j i],[]=>.need (decide (0<=i/\i.toNat<l.length/\l.length<=4000000000)&&Cj l i.toNat) (.leaf (.b (CY l i.toNat),[]))
 | _,_=>.no
def BW:LoopEnt:=⟨22,[0,1,5],[],[4],fun
 | ([.sl TCd l,.j i,.j x],[])=>.need (decide (0<=i/\i.toNat<l.length/\l.length<=4000000000/\x<i)&&Cj l i.toNat) (.opt (.int .i64) (AG l i.toNat) fun u=>.br (CJ l u (x+1).toNat x) (.leaf (.ret,([.b true],[]))) (.leaf (.exit 0,([],[]))))
 | _=>.no⟩
theorem I3 (z:Rose Lab):BK z.kids+(bif Au z.lab.1 then 1 else 0)=Bu z:=by cases z; rw [Bu]; rfl
abbrev PF (n:Nat):FuncId->Option Ent:=Aa [(35,.rd1 (Gc n)),(53,.rd1 FL)]
theorem G6 (n:Nat) (y0:Int) (y1:By) (y2:Int) (y3:Bool) (y4:Int) (ys:RL) (m:Int) (ks:RL) (k i:Int):AD prog (PF n) (Aa [(3,DP n)]) 0 (body f35 0) (DP n) ([.ptr 0 0,.j m,.sl (.rose LCd) ks,.j k,.j i],[some (.box (Lt y0 y1 y2 y3 y4 ys))]) =
 ((ifB (decide (i<k)) (ifT (decide (0<=i)&&decide (i<(↑ks.length:Int))) (Am ks[i.toNat]? fun z=>ifT (decide (Ai (Rose.kids z)+1<=n/\Ai
 (Rose.kids z)+1<=1000000)) (ifB (decide ((↑(BK (Rose.kids z)+bif Au (Rose.lab z).1 then 1 else 0):Int)>m)) (some
 (Ex.normal,[V.ptr 0 0,V.j (↑(BK (Rose.kids z)+bif Au (Rose.lab z).1 then 1 else 0):Int),V.sl LCd.rose ks,V.j k,V.i .i64
 (i64.wrap (i+1))],[some (Blk.box (Lt y0 y1 y2 y3 y4 ys))])) (some (Ex.normal,[V.ptr 0 0,V.j m,V.sl
 LCd.rose ks,V.j k,V.j (i64.wrap (i+1))],[some (Blk.box (Lt y0 y1 y2 y3 y4 ys))]))))) (some
 (Ex.exit 0,[V.ptr 0 0,V.j m],[some (Blk.box (Lt y0 y1 y2 y3 y4 ys))]))):_):=by kernel_rfl
theorem L9 (n:Nat) (z0:Int) (z1:By) (z2:Int) (z3:Bool) (z4:Int) (zs:RL):AV prog (PF n) (Aa [(3,DP n)]) f35 [.agg (Lt z0 z1 z2 z3 z4 zs)] [] =
 ((ifT (decide ((0:Int)<=(0:Int)/\(0:Int)<=(1000001:Int)/\(0:Int)<=(0:Int)/\0<=zs.length/\(↑zs.length:Int)=(↑zs.length:Int)/\Ai zs<=n/\
 Ai zs<=1000000)) (ifB (Au z0) (some (V.j (i64.wrap ((↑(max 0 (BK (drop 0 zs))):Int)+(1:Int))),[])) (some (V.i
 .i64 (↑(max 0 (BK (drop 0 zs))):Int),[])))):_):=by kernel_rfl
theorem Hi (n:Nat) (y0:Int) (y1:By) (y2:Int) (y3:Bool) (y4:Int) (ys:RL) (ks:RL) (h1:Ai ks<=n) (h2:Ai ks<=1000000) : ∀ (j i m:Nat),i+j=ks.length->m<=1000001->
  Runs prog (PF n) (Aa [(3,DP n)]) 0 (body f35 0) (DP n) ([.ptr 0 0,.j (m:Int),.sl (.rose LCd) ks,.j (ks.length:Int),.j (i:Int)],[some (.box (Lt y0 y1 y2 y3 y4 ys))]) (.exit 0) ([.ptr 0 0,.j ((max m (BK (ks.drop i)):Nat):Int)],[some (.box (Lt y0 y1 y2 y3 y4 ys))])
 | 0,i,m,hi,hm=>by
  have hr:=G6 n y0 y1 y2 y3 y4 ys m ks ks.length i;rw [Ah (dcF (by omega))] at hr;have e1:ks.drop i=[]:=drop_eq_nil_of_le (by omega);rw [e1,BK];exact .stop _ _ _ (hr.trans (by simp)) (by simp)
 | j+1,i,m,hi,hm=>by
  have hl:i<ks.length:=by omega
  have hM:=mxI;have hr:=G6 n y0 y1 y2 y3 y4 ys m ks ks.length i;have hmem:=AU (getElem_mem hl);have hlen:=AK ks;have hdm:=FV ks[i];have hck:=AF ks[i];rw [Aj (dcT (by omega)),T2 (by omega)] at hr;simp only [ntN,gtE hl,Ao,AE (n:=i) (by omega)] at hr;rw [Ag (dcT ⟨by omega,by omega⟩)] at hr;simp only [I3] at hr;rw [drop_eq_getElem_cons hl,BK];have ih:=Hi n y0 y1 y2 y3 y4 ys ks h1 h2 j (i+1) (max m (Bu ks[i])) (by omega) (by omega);rw [<-Nat.max_assoc]
  by_cases hx:(Bu ks[i]:Int)>(m:Int)
  ·rw [Aj (dcT hx)] at hr;have hmx:max m (Bu ks[i])=Bu ks[i]:=by omega
   exact sts (hr.trans (by rw [hmx])) ih
  ·rw [Ah (dcF hx)] at hr;have hmx:max m (Bu ks[i])=m:=by omega
   exact sts (hr.trans (by rw [hmx])) ih
theorem Oq (n:Nat):Az prog (PF n) (Aa [(3,DP n)]) 0 (f35.body.getD .skip):=by
 refine Aw (a:=body f35 0) (by kernel_rfl) fun d ex d' h=>?_
 unfold DP at h;dsimp only at h;split at h
 ·rename_i m ks k i y0 y1 y2 y3 y4 ys;obtain ⟨hc,hx⟩:=Ae h;clear h;obtain ⟨h0,h1,h2,h3,rfl,h5,h6⟩:=of_decide_eq_true hc;obtain ⟨m,rfl⟩:=eq_ofNat_of_zero_le h0;obtain ⟨i,rfl⟩:=eq_ofNat_of_zero_le h2;simp only [ntN] at h3 hx;obtain ⟨rfl,rfl⟩:=lfP hx;exact Hi n y0 y1 y2 y3 y4 ys ks h5 h6 (ks.length-i) i m (by omega) (by omega)
 ·cases h
theorem Nk (n:Nat) (z0:Int) (z1:By) (z2:Int) (z3:Bool) (z4:Int) (zs:RL) (hc:Ai zs+1<=n+1/\Ai zs+1<=1000000):AV prog (PF n) (Aa [(3,DP n)]) f35 [.agg (Lt z0 z1 z2 z3 z4 zs)] []=some (.j ((BK zs+(bif Au z0 then 1 else 0):Nat):Int),[]):=by
 rw [L9];obtain ⟨h1,h2⟩:=hc;have hdp:=EK zs;rw [Ag (dcT (by refine ⟨by omega,by omega,by omega,by simp,by trivial,by omega,by omega⟩))];simp only [drop_zero,Nat.zero_max]
 cases hx:Au z0 with
 | true=>rw [Bs,Ba (by omega) (by omega)]; simp
 | false=>rw [Bt]; simp
theorem Nl : ∀ n,(∀ m,m<n->Ab prog 35 (Ent.rd1 (Gc m)).F)->Ab prog 35 (Ent.rd1 (Gc n)).F
 | 0,_=>AN fun vs bs=>by
  unfold Ent.F Gc;dsimp only;split
  ·rename_i z0 z1 z2 z3 z4 zs;rw [dcF (show ¬(Ai zs+1<=0/\Ai zs+1<=1000000) by omega)]; rfl
  ·rfl
 | n+1,ih=>by
  refine fcK (kc func35 (ih n (lt_succ_self n)) (kc func53 MD KnowsL.nil)).knows (Λ:=(Aa [(3,DP n)])) func35 fun vs bs r hq=>?_
  unfold Ent.F Gc at hq;dsimp only at hq;split at hq
  ·rename_i z0 z1 z2 z3 z4 zs;obtain ⟨hc,hx⟩:=Ae hq;exact ⟨Oq n,(Nk n z0 z1 z2 z3 z4 zs (of_decide_eq_true hc)).trans hx⟩
  ·cases hq
theorem RS:Ab prog 35 (Ent.rd1 LA).F:=by
 refine Bl (F:=fun n=>(Ent.rd1 (Gc n)).F) Nl fun vs bs r h=>?_
 unfold Ent.F LA at h;dsimp only at h;split at h
 ·rename_i z0 z1 z2 z3 z4 zs;obtain ⟨hc,hx⟩:=Ae h;have hc:=of_decide_eq_true hc;refine ⟨1000000,?_⟩;show (Br.need (decide (Ai zs+1<=1000000/\Ai zs+1<=1000000)) (.leaf (.j ((BK zs+(bif Au z0 then 1 else 0):Nat):Int),[]))).run=some r;rw [dcT (show Ai zs+1<=1000000/\Ai zs+1<=1000000 from ⟨hc,hc⟩)];exact hx
 ·cases h
theorem H7 (l:List Ty) (i x:Int):AD prog (Aa []) (Aa [(2,BW)]) 0 (body f54 0) BW ([.sl TCd l,.j i,.j x],[]) =
 ((ifB (decide (x>=0)) (ifT (decide (0<=i)&&decide (i<(↑l.length:Int))) (Am l[i.toNat]? fun z=>ifB (x==z.2.2.2.2.1) (some (Ex.ret,[V.b true],[]))
 (ifT (decide (0<=x)&&decide (x<(↑l.length:Int))) (Am l[x.toNat]? fun z=>some (Ex.normal,[V.sl TCd l,V.j i,V.j z.2.2.2.2.1],[])))))
 (some (Ex.exit 0,[],[]))):_):=by kernel_rfl
theorem Oa {l:List Ty} {i j:Nat} (h:Cj l i=true) (hj:j<i) : ∃ v,AG l j=some v/\v<(j:Int):=by
 have:=all_eq_true.1 h j (mem_range.2 hj)
 cases hu:AG l j with
 | none=>rw [hu] at this; cases this
 | some v=>rw [hu] at this; exact ⟨v,rfl,of_decide_eq_true this⟩
theorem Gy {l:List Ty} {i:Nat} (h:Cj l i=true) (u:Int) : ∀ (f f':Nat) (x:Int),x<(i:Int)->(x+1).toNat<=f->(x+1).toNat<=f'->CJ l u f x=CJ l u f' x
 | 0,0,x,_,_,_=>rfl
 | 0,f'+1,x,hx,h1,h2=>by rw [CJ,CJ,if_pos (by omega)]
 | f+1,0,x,hx,h1,h2=>by rw [CJ,CJ,if_pos (by omega)]
 | f+1,f'+1,x,hx,h1,h2=>by
  rw [CJ,CJ]
  by_cases a:x<0
  ·rw [if_pos a,if_pos a]
  ·rw [if_neg a,if_neg a]
   by_cases b:x=u
   ·rw [if_pos b,if_pos b]
   ·rw [if_neg b,if_neg b];obtain ⟨v,hv,hv2⟩:=Oa h (j:=x.toNat) (by omega);rw [hv];exact Gy h u f f' v (by omega) (by omega) (by omega)
theorem Il (l:List Ty) (i:Nat) (u:Int) (hi:i<l.length) (_:l.length<=4000000000) (hu:AG l i=some u) (hs:Cj l i=true) : ∀ (j:Nat) (x:Int),(x+1).toNat=j->x<(i:Int)->∀ ex d,(Br.br (CJ l u (x+1).toNat x) (.leaf (.ret,([.b true],[]))) (.leaf (.exit 0,([],[]))):Br (Ex×Dt)).run=some (ex,d)->
  Runs prog (Aa []) (Aa [(2,BW)]) 0 (body f54 0) BW ([.sl TCd l,.j (i:Int),.j x],[]) ex d:=by
 intro j
 induction j using strongRecOn with
 | ind j ih=>
  intro x hj hx ex d h;have hr:=H7 l i x;have h0:l[i].2.2.2.2.1=u:=by unfold AG at hu; rw [gtE hi] at hu; exact Option.some.inj hu
  by_cases a:x<0
  ·rw [Ah (dcF (by omega))] at hr;have e0:(x+1).toNat=0:=by omega
   rw [e0,CJ] at h;obtain ⟨rfl,rfl⟩:=lfP h;exact stp hr
  ·rw [Aj (dcT (by omega)),T2 (by omega)] at hr;simp only [ntN,gtE hi,Ao,h0] at hr;obtain ⟨x,rfl⟩:=eq_ofNat_of_zero_le (by omega:0<=x);have e0:((x:Int)+1).toNat=x+1:=by omega
   rw [e0,CJ,if_neg (by omega)] at h
   by_cases b:(x:Int)=u
   ·rw [if_pos b] at h;rw [Aj (by rw [b]; exact beq_self_eq_true _)] at hr;obtain ⟨rfl,rfl⟩:=lfP h;exact stp hr
   ·rw [if_neg b] at h;have hxl:x<l.length:=by omega
    rw [Ah (beq_false_of_ne b),T2 (by omega)] at hr;simp only [ntN,gtE hxl,Ao] at hr;obtain ⟨v,hv,hv2⟩:=Oa hs (j:=x) (by omega);have hv3:l[x].2.2.2.2.1=v:=by unfold AG at hv; rw [gtE hxl] at hv; exact Option.some.inj hv
    rw [ntN,hv] at h;dsimp only at h;rw [Gy hs u x (v+1).toNat v (by omega) (by omega) (Nat.le_refl _)] at h;rw [hv3] at hr;exact sts hr (ih (v+1).toNat (by omega) v rfl (by omega) ex d h)
theorem K5:Az prog (Aa []) (Aa [(2,BW)]) 0 (f54.body.getD .skip):=by
 refine Aw (a:=body f54 0) (by kernel_rfl) fun d ex d' h=>?_
 unfold BW at h;dsimp only at h;split at h
 ·rename_i l i x;obtain ⟨hc,hx⟩:=Ae h;clear h;rw [anE] at hc;obtain ⟨hc,hs⟩:=hc;obtain ⟨h0,h1,h2,h3⟩:=of_decide_eq_true hc;obtain ⟨i,rfl⟩:=eq_ofNat_of_zero_le h0;simp only [ntN] at h1 hs hx
  cases hu:AG l i with
  | some u=>rw [hu] at hx; exact Il l i u h1 h2 hu hs _ x rfl h3 ex d' hx
  | none=>rw [hu] at hx; cases hx
 ·cases h
theorem Jw (l:List Ty) (i:Int) (hc:0<=i/\i.toNat<l.length/\l.length<=4000000000) (hs:Cj l i.toNat=true):AV prog (Aa []) (Aa [(2,BW)]) f54 [.sl TCd l,.j i] []=some (.b (CY l i.toNat),[]):=by
 have e:AV prog (Aa []) (Aa [(2,BW)]) f54 [.sl TCd l,.j i] []=((ifT (decide (0<=i/\i.toNat<l.length/\l.length<=4000000000/\i64.wrap (i-1)<i)&&Cj l i.toNat) (Am (AG l i.toNat) fun z=>ifB (CJ l z
 (i64.wrap (i-1)+(1:Int)).toNat (i64.wrap (i-1))) (some (V.b true,[])) nF)):_):=by kernel_rfl
 obtain ⟨h0,h1,h2⟩:=hc;obtain ⟨i,rfl⟩:=eq_ofNat_of_zero_le h0;simp only [ntN] at h1 hs;have hw:i64.wrap ((i:Int)-1)=(i:Int)-1:=Ba (by omega) (by omega);obtain ⟨u,hu⟩ : ∃ u,AG l i=some u:=⟨_,by unfold AG; rw [gtE h1]; rfl⟩
 rw [e];clear e;rw [hw];simp only [ntN];rw [Ag (by rw [anE]; exact ⟨dcT ⟨by omega,h1,h2,by omega⟩,hs⟩)];unfold CY;rw [hu,Ao];have e2:CJ l u (i+1) ((i:Int)-1)=CJ l u ((i:Int)-1+1).toNat ((i:Int)-1):=Gy hs u _ _ _ (by omega) (by omega) (Nat.le_refl _);dsimp only;rw [e2];cases CJ l u ((i:Int)-1+1).toNat ((i:Int)-1)<;>rfl
theorem OO:Ab prog 54 (Ent.rd1 Gn).F:=by
 refine fcK KnowsL.nil.knows (Λ:=(Aa [(2,BW)])) func54 fun vs bs r hq=>?_
 unfold Ent.F Gn at hq;dsimp only at hq;split at hq
 ·rename_i l i;obtain ⟨hc,hx⟩:=Ae hq;rw [anE] at hc;exact ⟨K5,(Jw l i (of_decide_eq_true hc.1) hc.2).trans hx⟩
 ·cases hq
def Nj (u no:Int) (nm:By) (l:List Ty):Bool:=l.all fun o=>!(o.2.2.2.2.1==u&&(decide (o.2.2.1>=no)||o.2.1==nm))
def Dg (l:List Ty) (i:Nat):Bool:=match AG l i with
 | none=>false
 | some u=>decide (0<=u/\u<(i:Int))&&Au (At l u.toNat).1&&CY l i&&(if (At l u.toNat).1=4 then (At l i).2.1==[]&&(At l i).2.2.1==0&&!(At l i).2.2.2.1
  else E2 (At l i).2.1&&(decide (1<=(At l i).2.2.1)&&decide ((At l i).2.2.1<=30))&&Nj u (At l i).2.2.1 (At l i).2.1 ((l.take i).drop (u.toNat+1)))
def kmB (x:Lab):Bool:=decide (1<=x.1/\x.1<=5)&&(if x.1=3 then decide (0<=x.2.2.2.2.1/\x.2.2.2.2.1<=20) else x.2.2.2.2.1==0)
def okT (l:List Ty) (i:Nat):Bool:=kmB (At l i)&&(if i=0 then (At l 0).1==5&&decide (AG l 0=some (-1))&&(At l 0).2.1==[]&&(At l 0).2.2.1==0&&!(At l 0).2.2.2.1 else Dg l i)
def D7 (l:List Ty) (i:Nat):Bool:=!((At l i).1==4&&(Be l i).length != 1)
def HG (l:List Ty):Bool:=decide (1<=l.length/\l.length<=30)&&(range l.length).all (okT l)&&(range l.length).all (D7 l)&&decide (Bu (t2L l 0)<=5)
inductive Out (l:List Ty):Nat->Nat->Prop
 | refl (x:Nat):Out l x x
 | step (x v y:Nat) (h:AG l x=some (v:Int)) (h2:Out l v y):Out l x y
structure Ord (l:List Ty):Prop where
 zero:AG l 0=some (-1)
 up : ∀ i,0<i->i<l.length->∃ u:Nat,AG l i=some (u:Int)/\u<i/\Au (At l u).1=true/\Out l (i-1) u
def KK (l:List Ty) (a s t:Nat):List Nat:=(List.range' s (t-s)).filter fun j=>decide (AG l j=some (a:Int))
theorem Out.trans {l:List Ty} {x y z:Nat} (h:Out l x y) (h2:Out l y z):Out l x z:=by
 induction h with
 | refl=>exact h2
 | step x v y h _ ih=>exact .step x v z h (ih h2)
theorem Lo (l:List Ty) (u:Int) : ∀ (f:Nat) (x:Nat),CJ l u f (x:Int)=true->∃ y:Nat,u=(y:Int)/\Out l x y
 | 0,x,h=>by rw [CJ] at h; cases h
 | f+1,x,h=>by
  rw [CJ,if_neg (by omega)] at h;split at h
  ·rename_i e; exact ⟨x,e.symm,.refl x⟩
  ·rw [ntN] at h
   cases hu:AG l x with
   | none=>rw [hu] at h; cases h
   | some v=>
    rw [hu] at h;dsimp only at h
    by_cases hv:v<0
    ·cases f with
     | zero=>rw [CJ] at h; cases h
     | succ f=>rw [CJ,if_pos hv] at h; cases h
    ·obtain ⟨v,rfl⟩:=eq_ofNat_of_zero_le (by omega:0<=v);obtain ⟨y,h1,h2⟩:=Lo l u f v h;exact ⟨y,h1,.step x v y hu h2⟩
theorem O1 {l:List Ty} {i x y:Nat} (hs : ∀ j,j<i->∀ v:Nat,AG l j=some (v:Int)->v<j) (h:Out l x y):x<i->y<=x:=by
 induction h with
 | refl=>intro _; exact Nat.le_refl _
 | step x v y h _ ih=>intro hx; have:=hs x hx v h; have:=ih (by omega); omega
theorem O2 {l:List Ty} {i x y:Nat} (hs : ∀ j,j<i->∀ v:Nat,AG l j=some (v:Int)->v<j) (h:Out l x y):x<i->∀ f,x+1<=f->CJ l (y:Int) f (x:Int)=true:=by
 induction h with
 | refl x=>
  intro hx f hf;obtain ⟨f,rfl⟩ : ∃ g,f=g+1:=⟨f-1,by omega⟩
  rw [CJ,if_neg (by omega),if_pos rfl]
 | step x v y h _ ih=>
  intro hx f hf;obtain ⟨f,rfl⟩ : ∃ g,f=g+1:=⟨f-1,by omega⟩
  rw [CJ,if_neg (by omega)];split
  ·rfl
  ·rw [ntN,h];have:=hs x hx v h;exact ih (by omega) f (by omega)
theorem Ord.lt {l:List Ty} (H:Ord l) : ∀ j,j<l.length->∀ v:Nat,AG l j=some (v:Int)->v<j:=fun j hj v hv=>by
 rcases Nat.eq_zero_or_pos j with rfl | hp
 ·rw [H.zero] at hv; injection hv with hv; omega
 ·obtain ⟨u,h1,h2,_⟩:=H.up j hp hj;rw [h1] at hv; injection hv with hv; omega
theorem Ra {l:List Ty} {c e x y:Nat} (hs : ∀ j,j<e->∀ v:Nat,AG l j=some (v:Int)->v<j) (hb : ∀ j,c<j->j<e->∃ u:Nat,AG l j=some (u:Int)/\c<=u) (h:Out l x y):c<=x->x<e->c<=y\/∃ v:Nat,AG l c=some (v:Int)/\Out l v y:=by
 induction h with
 | refl x=>intro h1 _; exact .inl h1
 | step x v y h h2 ih=>
  intro h1 h3
  by_cases e1:x=c
  ·subst e1; exact .inr ⟨v,h,h2⟩
  ·obtain ⟨u,g1,g2⟩:=hb x (by omega) h3;rw [h] at g1; injection g1 with g1
   have:=hs x h3 v h;exact ih (by omega) (by omega)
theorem Rb {l:List Ty} {a e i x y:Nat} (hs : ∀ j,j<i->∀ v:Nat,AG l j=some (v:Int)->v<j) (ha:a<=i) (hn : ∀ j,e<=j->j<i->∀ u:Nat,AG l j=some (u:Int)->u<a\/e<=u) (h:Out l x y):e<=x->x<i->y<a\/e<=y:=by
 induction h with
 | refl x=>intro h1 _; exact .inr h1
 | step x v y h h2 ih=>
  intro h1 h3;have:=hs x h3 v h;rcases hn x h1 h3 v h with h4 | h4
  ·have:=O1 hs h2 (by omega);exact .inl (by omega)
  ·exact ih h4 (by omega)
theorem JI {l:List Ty} {a s t u:Nat} (h1:s<=t) (h2:t<=u):KK l a s t++KK l a t u=KK l a s u:=by
 unfold KK;rw [<-List.filter_append];congr 1;have e:t=s+(t-s):=by omega
 conv=>lhs; rhs; rw [e]
 rw [show s+(t-s)=s+1*(t-s) by omega,List.range'_append];congr 1; omega
theorem F1 {l:List Ty} {a s t:Nat} (h : ∀ j,s<=j->j<t->AG l j≠some (a:Int)):KK l a s t=[]:=by
 unfold KK;rw [List.filter_eq_nil_iff];intro j hj;have:=List.mem_range'_1.1 hj
 simpa using h j (by omega) (by omega)
theorem PJ {l:List Ty} {a e t:Nat} (h0:e<t) (h:AG l e=some (a:Int)) (h2 : ∀ j,e<j->j<t->AG l j≠some (a:Int)):KK l a e t=[e]:=by
 have e1:KK l a e (e+1)=[e]:=by
  unfold KK;rw [show e+1-e=1 by omega,List.range'_one];simp [h]
 rw [<-JI (Nat.le_succ e) h0,e1,F1 (fun j hj hj2=>h2 j (by omega) hj2)];rfl
theorem MK (l:List Ty) (a:Nat) : ∀ (n i:Nat),l.length-i=n->Cm (a:Int) i (l.drop i)=(KK l a i l.length).map ofNat
 | 0,i,h=>by
  rw [drop_eq_nil_of_le (by omega),Cm,F1 (fun j h1 h2=>by omega)]; rfl
 | n+1,i,h=>by
  have hl:i<l.length:=by omega
  rw [drop_eq_getElem_cons hl,Cm,MK l a n (i+1) (by omega),<-JI (Nat.le_succ i) hl (l:=l) (a:=a)];have hu:AG l i=some (l[i].2.2.2.2.1):=by unfold AG; rw [gtE hl]; rfl
  by_cases hk:l[i].2.2.2.2.1=(a:Int)
  ·rw [if_pos hk,PJ (lt_succ_self i) (by rw [hu,hk]) (fun j h1 h2=>by omega)]; rfl
  ·rw [if_neg hk,F1 (s:=i) (fun j h1 h2=>by
    have:j=i:=by omega
    subst this; rw [hu]; exact fun h=>hk (Option.some.inj h))]; rfl
theorem IG (l:List Ty) (a:Nat):Be l a=(KK l a (a+1) l.length).map ofNat:=MK l a _ (a+1) rfl
theorem Mw {l:List Ty} {a:Nat} (h:a<l.length):t2L l a = .node (At l a) ((KK l a (a+1) l.length).map (t2L l)):=by
 rw [QE h,IG,List.map_map];rfl
structure Blk2 (l:List Ty) (a:Nat):Prop where
 inn : ∀ j,a<j->j<(kf l a).2->∃ u:Nat,AG l j=some (u:Int)/\a<=u
 out:(kf l a).2<l.length->∀ u:Nat,AG l (kf l a).2=some (u:Int)->u<a
 tree:(kf l a).1=t2L l a
theorem Kx {l:List Ty} (H:Ord l) {a:Nat} (ha:a<l.length) (IH : ∀ b,a<b->b<l.length->Blk2 l b) : ∀ (n e:Nat) (ks:RL),l.length-e<=n->a<e->e<=l.length->
  (∀ j,a<j->j<e->∃ u:Nat,AG l j=some (u:Int)/\a<=u)->(e<l.length->∀ u:Nat,AG l e=some (u:Int)->u<=a)->ks=(KK l a (a+1) e).map (t2L l)->
  (∀ j,a<j->j<(AL (kf l) l a n e ks).2->∃ u:Nat,AG l j=some (u:Int)/\a<=u)/\((AL (kf l) l a n e ks).2<l.length->∀ u:Nat,AG l (AL (kf l) l a n e ks).2=some (u:Int)->u<a)/\(AL (kf l) l a n e ks).1=(KK l a (a+1) (AL (kf l) l a n e ks).2).map (t2L l)/\a<(AL (kf l) l a n e ks).2
 | 0,e,ks,h1,h2,h3,h4,h5,h6=>⟨h4,fun h=>by simp only [AL] at h; omega,h6,h2⟩
 | n+1,e,ks,h1,h2,h3,h4,h5,h6=>by
  unfold AL;split
  ·rename_i hu;have hl:=Ds hu;obtain ⟨b1,b2⟩:=Dk l e hl;have B:=IH e h2 hl
   have inn' : ∀ j,a<j->j<(kf l e).2->∃ u:Nat,AG l j=some (u:Int)/\a<=u:=fun j g1 g2=>by
    rcases Nat.lt_trichotomy j e with g3 | g3 | g3
    ·exact h4 j g1 g3
    ·subst g3; exact ⟨a,hu,Nat.le_refl _⟩
    ·obtain ⟨u,k1,k2⟩:=B.inn j g3 g2; exact ⟨u,k1,by omega⟩
   refine Kx H ha IH n (kf l e).2 _ (by omega) (by omega) b2 inn' (fun g1 u g2=>?_) ?_
   ·have g3:=B.out g1 u g2;obtain ⟨u',k1,k2,k3,k4⟩:=H.up (kf l e).2 (by omega) g1;rw [g2] at k1; injection k1 with k1
    have:u=u':=by omega
    subst this;rcases Ra (fun j hj=>H.lt j (by omega)) B.inn k4 (by omega) (by omega) with k5 | ⟨v,k5,k6⟩
    ·omega
    ·rw [hu] at k5; injection k5 with k5
     have:a=v:=by omega
     subst this;exact O1 H.lt k6 ha
   ·rw [h6,B.tree,<-JI (l:=l) (a:=a) (show a+1<=e by omega) (Nat.le_of_lt b1),List.map_append,PJ b1 hu (fun j g1 g2 g3=>by
     obtain ⟨u,k1,k2⟩:=B.inn j g1 g2
     rw [g3] at k1; injection k1 with k1; omega)]
    rfl
  ·rename_i hu;refine ⟨h4,fun g1 u g2=>?_,h6,h2⟩;have:=h5 g1 u g2;have:u≠a:=fun e=>by subst e; exact hu g2
   omega
theorem MV {l:List Ty} (H:Ord l) : ∀ (n a:Nat),l.length-a<=n->a<l.length->Blk2 l a
 | 0,a,h1,h2=>by omega
 | n+1,a,h1,h2=>by
  have IH : ∀ b,a<b->b<l.length->Blk2 l b:=fun b g1 g2=>MV H n b (by omega) g2
  have hq:a+1<l.length->∀ u:Nat,AG l (a+1)=some (u:Int)->u<=a:=fun g1 u g2=>by
   have:=H.lt (a+1) g1 u g2; omega
  have hk:=KG h2
  cases hh:Au (At l a).1 with
  | true=>
   rw [hh,cond_true] at hk;obtain ⟨r1,r2,r3,r4⟩:=Kx H h2 IH l.length (a+1) [] (by omega) (by omega) (by omega) (fun j g1 g2=>by omega) hq (by rw [F1 (fun j g1 g2=>by omega)]; rfl);have hb:=Gp (a:=a) (Dk l) l.length (a+1) [] h2;generalize AL (kf l) l a l.length (a+1) []=r at *
   have hN : ∀ j,r.2<=j->j<l.length->∀ u:Nat,AG l j=some (u:Int)->u<a\/r.2<=u:=by
    intro j
    induction j using strongRecOn with
    | ind j ih=>
     intro g1 g2 u g3
     by_cases e:j=r.2
     ·subst e; exact .inl (r2 g2 u g3)
     ·obtain ⟨u',k1,k2,k3,k4⟩:=H.up j (by omega) g2;rw [g3] at k1; injection k1 with k1
      have:u=u':=by omega
      subst this;exact Rb (i:=j) (fun x hx=>H.lt x (by omega)) (by omega) (fun x q1 q2=>ih x q2 q1 (by omega)) k4 (by omega) (by omega)
   refine ⟨by rw [hk]; exact r1,by rw [hk]; exact r2,?_⟩
   rw [hk,Mw h2,r3,<-JI (l:=l) (a:=a) (show a+1<=r.2 by omega) hb.2,F1 (s:=r.2) (fun j g1 g2 g3=>by
    rcases hN j g1 g2 a g3 with k | k<;>omega),append_nil]
  | false=>
   rw [hh,cond_false] at hk
   have none : ∀ j,a<j->j<l.length->AG l j≠some (a:Int):=fun j g1 g2 g3=>by
    obtain ⟨u,k1,k2,k3,k4⟩:=H.up j (by omega) g2;rw [g3] at k1; injection k1 with k1
    have:a=u:=by omega
    subst this;rw [hh] at k3; cases k3
   refine ⟨?_,?_,?_⟩
   ·rw [hk]; intro j g1 g2;have g2:j<a+1:=g2;omega
   ·rw [hk]; intro g1 u g2;have g1:a+1<l.length:=g1;have:=hq g1 u g2;have:u≠a:=fun e=>by subst e; exact none _ (by omega) g1 g2
    omega
   rw [hk,Mw h2,F1 (fun j g1 g2=>none j (by omega) g2)];rfl
theorem Ord.end' {l:List Ty} (H:Ord l) (h:0<l.length):(kf l 0).2=l.length/\(kf l 0).1=t2L l 0:=by
 have B:=MV H l.length 0 (by omega) h;have hb:=Dk l 0 h;refine ⟨?_,B.tree⟩
 by_cases e:(kf l 0).2<l.length
 ·obtain ⟨u,k1,_⟩:=H.up _ hb.1 e;have:=B.out e u k1; omega
 ·omega
def Fb (y z:Lab):Prop:=y.2.2.1<z.2.2.1/\y.2.1≠z.2.1
structure Prs (l:List Ty) (a:Nat):Prop where
 inn : ∀ j,a<j->j<(kf l a).2->∃ u:Nat,AG l j=some (u:Int)/\a<=u/\u<j/\Au (At l u).1=true/\Out l (j-1) u
 out : ∀ j,a<=j->j<(kf l a).2->Out l j a
theorem Ku {l:List Ty} {a:Nat} (ha:a<l.length) (hh:Au (At l a).1=true) (IH : ∀ b,a<b->b<l.length->Prs l b) : ∀ (n e:Nat) (ks:RL),a<e->e<=l.length->
  (∀ j,a<j->j<e->∃ u:Nat,AG l j=some (u:Int)/\a<=u/\u<j/\Au (At l u).1=true/\Out l (j-1) u)->(∀ j,a<=j->j<e->Out l j a)->
  (∀ j,a<j->j<(AL (kf l) l a n e ks).2->∃ u:Nat,AG l j=some (u:Int)/\a<=u/\u<j/\Au (At l u).1=true/\Out l (j-1) u)/\(∀ j,a<=j->j<(AL (kf l) l a n e ks).2->Out l j a)
 | 0,e,ks,h1,h2,h3,h4=>⟨h3,h4⟩
 | n+1,e,ks,h1,h2,h3,h4=>by
  unfold AL;split
  ·rename_i hu;have hl:=Ds hu;obtain ⟨b1,b2⟩:=Dk l e hl;have B:=IH e h1 hl;refine Ku ha hh IH n (kf l e).2 _ (by omega) b2 (fun j g1 g2=>?_) (fun j g1 g2=>?_)
   ·rcases Nat.lt_trichotomy j e with g3 | g3 | g3
    ·exact h3 j g1 g3
    ·subst g3; exact ⟨a,hu,Nat.le_refl _,h1,hh,h4 (j-1) (by omega) (by omega)⟩
    ·obtain ⟨u,k1,k2,k3⟩:=B.inn j g3 g2; exact ⟨u,k1,by omega,k3⟩
   ·by_cases g3:j<e
    ·exact h4 j g1 g3
    ·exact (B.out j (by omega) g2).trans (.step e a a hu (.refl a))
  ·exact ⟨h3,h4⟩
theorem M2 {l:List Ty} : ∀ (n a:Nat),l.length-a<=n->a<l.length->Prs l a
 | 0,a,h1,h2=>by omega
 | n+1,a,h1,h2=>by
  have IH : ∀ b,a<b->b<l.length->Prs l b:=fun b g1 g2=>M2 n b (by omega) g2
  have hk:=KG h2
  have base : ∀ j,a<=j->j<a+1->Out l j a:=fun j g1 g2=>by
   have:j=a:=by omega
   subst this; exact .refl j
  cases hh:Au (At l a).1 with
  | true=>
   rw [hh,cond_true] at hk;obtain ⟨r1,r2⟩:=Ku h2 hh IH l.length (a+1) [] (by omega) (by omega) (fun j g1 g2=>by omega) base;exact ⟨by rw [hk]; exact r1,by rw [hk]; exact r2⟩
  | false=>
   rw [hh,cond_false] at hk;refine ⟨?_,by rw [hk]; exact base⟩;rw [hk]; intro j g1 g2;have g2:j<a+1:=g2;omega
theorem FA {l:List Ty} (h:0<l.length) (h0:AG l 0=some (-1)) (he:(kf l 0).2=l.length):Ord l:=by
 have B:=M2 l.length 0 (by omega) h;refine ⟨h0,fun i g1 g2=>?_⟩;obtain ⟨u,k1,k2,k3,k4,k5⟩:=B.inn i g1 (by omega);exact ⟨u,k1,k3,k4,k5⟩
theorem Ki {l:List Ty} (h:0<l.length) (ho:(range l.length).all (okT l)=true):Ord l:=by
 have at' : ∀ i,i<l.length->okT l i=true:=fun i hi=>all_eq_true.1 ho i (mem_range.2 hi)
 refine ⟨?_,fun i g1 g2=>?_⟩
 ·have:=at' 0 h;unfold okT at this;rw [if_pos rfl] at this;simp only [anE,dcE] at this;exact this.2.1.1.1.2
 ·have:=at' i g2;unfold okT Dg at this;rw [if_neg (by omega),anE] at this;have this:=this.2
  cases hu:AG l i with
  | none=>rw [hu] at this; cases this
  | some u=>
   rw [hu] at this;simp only [anE,dcE] at this;obtain ⟨⟨⟨⟨c1,c2⟩,c3⟩,c4⟩,_⟩:=this;obtain ⟨u,rfl⟩:=eq_ofNat_of_zero_le c1;unfold CY at c4;rw [hu] at c4;dsimp only at c4;have e:(i:Int)-1=((i-1:Nat):Int):=by omega
   rw [e] at c4;obtain ⟨y,k1,k2⟩:=Lo l u (i+1) (i-1) c4;have:u=y:=by omega
   subst this;exact ⟨u,rfl,by omega,c3,k2⟩
theorem Ord.around {l:List Ty} (H:Ord l) {i:Nat} (h1:0<i) (h2:i<l.length):CY l i=true:=by
 obtain ⟨u,k1,k2,k3,k4⟩:=H.up i h1 h2;unfold CY;rw [k1];dsimp only;have e:(i:Int)-1=((i-1:Nat):Int):=by omega
 rw [e];exact O2 (i:=l.length) H.lt k4 (by omega) (i+1) (by omega)
/-! Maps. -/
theorem Kq (x y:By) (v:Bool) : ∀ l:List (By×Bool),DC .str (Er .str l x v) y=if y=x then some v else DC .str l y
 | []=>by
  show (match CN .str y x with | true=>some v | false=>DC .str [] y)=_
  by_cases h:y=x
  ·subst h;have:CN .str y y=true:=beq_self_eq_true y;rw [this,if_pos rfl]
  ·have:CN .str y x=false:=beq_false_of_ne h;rw [this,if_neg h]
 | e::l=>by
  unfold Er
  by_cases h:x=e.1
  ·subst h;simp only [CN,beq_self_eq_true];unfold DC
   by_cases h2:y=e.1
   ·subst h2; simp [CN]
   ·simp only [CN,beq_false_of_ne h2,if_neg h2]
  ·have:CN .str x e.1=false:=beq_false_of_ne h;rw [this];dsimp only;unfold DC
   by_cases h2:y=e.1
   ·subst h2; simp [CN,Ne.symm h]
   ·have h3:CN .str y e.1=false:=beq_false_of_ne h2;rw [h3];exact Kq x y v l
theorem M8 : ∀ (l pre:RL) (seen:List (By×Bool)),(∀ nm,(DC .str seen nm).getD false=true↔∃ z∈pre,z.lab.2.1=nm)->pre.Pairwise (fun y z=>Fb y.lab z.lab)->
  (FF (pre++l) pre.length seen l=true↔(pre++l).Pairwise (fun y z=>Fb y.lab z.lab))
 | [],pre,seen,_,hp=>by rw [FF,append_nil]; exact ⟨fun _=>hp,fun _=>rfl⟩
 | z::l,pre,seen,hs,hp=>by
  have hpg:DR (pre++z::l) pre.length z.lab.2.2.1=true↔∃ y,pre.getLast? = some y/\y.lab.2.2.1>=z.lab.2.2.1:=by
   cases hl:pre.getLast? with
   | none=>
    have:pre=[]:=by simpa using hl
    subst this;simp [DR]
   | some y=>
    have hne:pre≠[]:=by intro e; subst e; cases hl
    obtain ⟨m,hm⟩ : ∃ m,pre.length=m+1:=⟨pre.length-1,by have:=List.length_pos_iff.2 hne; omega⟩
    have hy:(pre++z::l)[m]? = some y:=by
     rw [List.getElem?_append_left (by omega),<-hl,List.getLast?_eq_getElem?,hm]; rfl
    rw [hm];unfold DR;dsimp only;rw [hy];simp
  have hR:(∀ y∈pre,Fb y.lab z.lab)↔¬((DC .str seen z.lab.2.1).getD false||DR (pre++z::l) pre.length z.lab.2.2.1)=true:=by
   rw [Bool.or_eq_true,hs,hpg];constructor
   ·rintro h (⟨y,g1,g2⟩ | ⟨y,g1,g2⟩)
    ·exact (h y g1).2 g2
    ·have:=(h y (List.mem_of_getLast? g1)).1; omega
   ·intro h y hy;refine ⟨?_,fun e=>h (.inl ⟨y,hy,e⟩)⟩
    cases hl:pre.getLast? with
    | none=>
     have:pre=[]:=by simpa using hl
     subst this; cases hy
    | some w=>
     have h1 : ¬w.lab.2.2.1>=z.lab.2.2.1:=fun g=>h (.inr ⟨w,hl,g⟩)
     have hne:pre≠[]:=by intro e; subst e; cases hl
     have e:pre=pre.dropLast++[w]:=by
      rw [List.getLast?_eq_some_getLast hne] at hl;have:=(List.dropLast_concat_getLast hne).symm;rw [Option.some.inj hl] at this;exact this
     rw [e] at hy hp;rcases List.mem_append.1 hy with hy | hy
     ·have:=(List.pairwise_append.1 hp).2.2 y hy w (by simp);have:=this.1; omega
     ·simp at hy; subst hy; omega
  rw [FF]
  by_cases hc:((DC .str seen z.lab.2.1).getD false||DR (pre++z::l) pre.length z.lab.2.2.1)=true
  ·rw [if_pos hc];refine ⟨fun h=>(by cases h),fun h=>?_⟩;exact absurd hc (hR.1 fun y hy=>(List.pairwise_append.1 h).2.2 y hy z (by simp))
  ·rw [if_neg hc];have hall:=hR.2 hc;have hp2:(pre++[z]).Pairwise (fun y z=>Fb y.lab z.lab):=List.pairwise_append.2 ⟨hp,List.pairwise_singleton _ _,fun y hy w hw=>by simp at hw; subst hw; exact hall y hy⟩
   have ih:=M8 l (pre++[z]) (Er .str seen z.lab.2.1 true) (fun nm=>by
    rw [Kq]
    by_cases e:nm=z.lab.2.1
    ·rw [if_pos e]; simp [e]
    ·rw [if_neg e,hs];constructor
     ·rintro ⟨w,g1,g2⟩; exact ⟨w,by simp [g1],g2⟩
     ·rintro ⟨w,g1,g2⟩
      rcases List.mem_append.1 g1 with g1 | g1
      ·exact ⟨w,g1,g2⟩
      ·simp at g1; subst g1; exact absurd g2.symm e) hp2
   rw [append_assoc] at ih
   simpa using ih
theorem Kn (zs:RL):FF zs 0 [] zs=true↔zs.Pairwise (fun y z=>Fb y.lab z.lab):=by
 have:=M8 zs [] [] (fun nm=>by simp [DC]) List.Pairwise.nil
 simpa using this
theorem Ek {R:Nat->Nat->Prop} : ∀ {l:List Nat},l.Pairwise (· < ·)->(l.Pairwise R↔∀ a∈l,∀ b∈l,a<b->R a b)
 | [],_=>by simp
 | x::l,h=>by
  rw [List.pairwise_cons] at h;rw [List.pairwise_cons,Ek h.2];constructor
  ·rintro ⟨h1,h2⟩ a ha b hb hab
   rcases mem_cons.1 ha with ea | ha'
   ·rcases mem_cons.1 hb with eb | hb'
    ·omega
    ·rw [ea]; exact h1 b hb'
   ·rcases mem_cons.1 hb with eb | hb'
    ·have:=h.1 a ha'; omega
    ·exact h2 a ha' b hb' hab
  ·intro g;exact ⟨fun b hb=>g x (by simp) b (by simp [hb]) (h.1 b hb),fun a ha b hb hab=>g a (by simp [ha]) b (by simp [hb]) hab⟩
theorem CL {l:List Ty} {a s t j:Nat}:j∈KK l a s t↔(s<=j/\j<t)/\AG l j=some (a:Int):=by
 unfold KK;rw [List.mem_filter,List.mem_range'_1,dcE];constructor
 ·rintro ⟨h1,h2⟩; exact ⟨by omega,h2⟩
 ·rintro ⟨h1,h2⟩; exact ⟨by omega,h2⟩
theorem NY (l:List Ty) (a s t:Nat):(KK l a s t).Pairwise (· < ·):=(List.pairwise_lt_range').filter _
def CD (l:List Ty):Prop:=∀ j,j<l.length->B8 (At l j) ((KK l j (j+1) l.length).map (t2L l))=true/\∀ c∈KK l j (j+1) l.length,Dh (At l j).1 (At l c)=true
theorem Ff {l:List Ty} {a:Nat} (h:a<l.length):(t2L l a).lab=At l a:=by rw [Mw h]; rfl
theorem Hp (k:Int) : ∀ ks:RL,Cr k ks=true↔∀ z∈ks,Dh k z.lab=true/\Ac z=true
 | []=>by simp [Cr]
 | z::ks=>by
  rw [Cr,anE,anE,Hp k ks];constructor
  ·rintro ⟨h1,h2⟩ w hw
   rcases mem_cons.1 hw with e | hw'
   ·rw [e]; exact h1
   ·exact h2 w hw'
  ·intro h;exact ⟨h z (by simp),fun w hw=>h w (by simp [hw])⟩
theorem Hm {l:List Ty} {a:Nat} (h:a<l.length):Ac (t2L l a)=true↔B8 (At l a) ((KK l a (a+1) l.length).map (t2L l))=true/\∀ c∈KK l a (a+1) l.length,Dh (At l a).1 (At l c)=true/\Ac (t2L l c)=true:=by
 rw [Mw h,Ac,anE,Hp];constructor
 ·rintro ⟨h1,h2⟩
  refine ⟨h1,fun c hc=>?_⟩;have hcl:=(CL.1 hc).1.2;have:=h2 (t2L l c) (mem_map.2 ⟨c,hc,rfl⟩);rw [Ff hcl] at this;exact this
 ·rintro ⟨h1,h2⟩
  refine ⟨h1,fun z hz=>?_⟩;obtain ⟨c,hc,rfl⟩:=mem_map.1 hz;have hcl:=(CL.1 hc).1.2;rw [Ff hcl];exact h2 c hc
theorem Nm {l:List Ty} (H:Ord l) (h0:0<l.length):Ac (t2L l 0)=true↔CD l:=by
 constructor
 ·intro h
  have all : ∀ j,j<l.length->Ac (t2L l j)=true:=by
   intro j
   induction j using strongRecOn with
   | ind j ih=>
    intro hj;rcases Nat.eq_zero_or_pos j with rfl | hp
    ·exact h
    ·obtain ⟨u,k1,k2,_⟩:=H.up j hp hj;exact (((Hm (by omega)).1 (ih u k2 (by omega))).2 j (CL.2 ⟨⟨by omega,hj⟩,k1⟩)).2
  intro j hj;have:=(Hm hj).1 (all j hj);exact ⟨this.1,fun c hc=>(this.2 c hc).1⟩
 ·intro h
  have all : ∀ n j,l.length-j<=n->j<l.length->Ac (t2L l j)=true:=by
   intro n
   induction n with
   | zero=>intro j g1 g2; omega
   | succ n ih=>
    intro j g1 g2;refine (Hm g2).2 ⟨(h j g2).1,fun c hc=>⟨(h j g2).2 c hc,?_⟩⟩;have:=(CL.1 hc).1;exact ih c (by omega) (by omega)
  exact all l.length 0 (by omega) h0
theorem Fo {l:List Ty} {i:Nat} (h:i<l.length):At l i=(l[i].1,l[i].2.1,l[i].2.2.1,l[i].2.2.2.1,l[i].2.2.2.2.2.1,()):=by unfold At; rw [gtE h]
theorem Om {l:List Ty} {a c:Nat} (hc:c<=l.length) (no:Int) (nm:By):Nj (a:Int) no nm ((l.take c).drop (a+1))=true↔∀ k,a<k->k<c->AG l k=some (a:Int)->(At l k).2.2.1<no/\(At l k).2.1≠nm:=by
 have up : ∀ k (h:k<l.length),AG l k=some (l[k].2.2.2.2.1):=fun k h=>by unfold AG; rw [gtE h]; rfl
 unfold Nj;rw [all_eq_true];constructor
 ·intro h k g1 g2 g3;have hk:k<l.length:=by omega
  have hm:l[k]∈(l.take c).drop (a+1):=by
   refine List.mem_iff_getElem?.2 ⟨k-(a+1),?_⟩;rw [List.getElem?_drop,show a+1+(k-(a+1))=k by omega,List.getElem?_take,if_pos g2,gtE hk]
  have:=h _ hm;rw [up k hk] at g3;rw [Option.some.inj g3,beq_self_eq_true,Bool.true_and] at this;rw [Fo hk];simp only [Bool.not_eq_true',Bool.or_eq_false_iff,decide_eq_false_iff_not,beq_eq_false_iff_ne] at this;show l[k].2.2.1<no/\l[k].2.1≠nm;exact ⟨by have:=this.1; omega,this.2⟩
 ·intro h o ho;obtain ⟨j,hj⟩:=List.mem_iff_getElem?.1 ho;rw [List.getElem?_drop,List.getElem?_take] at hj;split at hj
  ·rename_i hlt;have hk:a+1+j<l.length:=by omega
   rw [gtE hk] at hj;have e:=Option.some.inj hj
   by_cases hu:o.2.2.2.2.1=(a:Int)
   ·have:=h (a+1+j) (by omega) hlt (by rw [up _ hk,e,hu]);rw [Fo hk,e] at this;have this:o.2.2.1<no/\o.2.1≠nm:=this;have h1:decide (o.2.2.1>=no)=false:=dcF (by have:=this.1; omega);have h2:(o.2.1==nm)=false:=beq_false_of_ne this.2;rw [h1,h2]; simp
   ·rw [beq_false_of_ne hu]; rfl
  ·cases hj
theorem KO {k:Int} (h:Au k=true):k=4\/k=5:=by
 unfold Au at h;rw [Bool.or_eq_true] at h;rcases h with h | h
 ·exact .inl (by simpa using h)
 ·exact .inr (by simpa using h)
theorem QC {l:List Ty} (H:Ord l) {j:Nat} (h:Au (At l j).1=false):KK l j (j+1) l.length=[]:=F1 fun c g1 g2 g3=>by
 obtain ⟨u,k1,k2,k3,_⟩:=H.up c (by omega) g2;rw [g3] at k1; injection k1 with k1
 have:j=u:=by omega
 subst this;rw [h] at k3; cases k3
theorem Gf {l:List Ty} (H:Ord l) {j:Nat} (_:j<l.length):B8 (At l j) ((KK l j (j+1) l.length).map (t2L l))=true↔kmB (At l j)=true/\D7 l j=true/\((At l j).1=5->∀ c∈KK l j (j+1) l.length,∀ k∈KK l j (j+1) l.length,k<c->Fb (At l k) (At l c)):=by
 have hone:D7 l j = !((At l j).1==4&&(KK l j (j+1) l.length).length != 1):=by unfold D7; rw [IG,List.length_map]
 have hmsg:FF ((KK l j (j+1) l.length).map (t2L l)) 0 [] ((KK l j (j+1) l.length).map (t2L l))=true↔∀ c∈KK l j (j+1) l.length,∀ k∈KK l j (j+1) l.length,k<c->Fb (At l k) (At l c):=by
  rw [Kn,List.pairwise_map,Ek (NY l j (j+1) l.length)];constructor
  ·intro h c hc k hk hkc;have:=h k hk c hc hkc;rw [Ff (CL.1 hk).1.2,Ff (CL.1 hc).1.2] at this;exact this
  ·intro h k hk c hc hkc;rw [Ff (CL.1 hk).1.2,Ff (CL.1 hc).1.2];exact h c hc k hk hkc
 rw [hone];have hk0:(At l j).1≠4->(At l j).1≠5->KK l j (j+1) l.length=[]:=fun h4 h5=>QC H (by unfold Au; rw [beq_false_of_ne h4,beq_false_of_ne h5]; rfl)
 unfold B8 kmB;rw [List.length_map];generalize At l j=x at hk0 ⊢
 by_cases a1:x.1=1\/x.1=2
 ·have h4:x.1≠4:=by rcases a1 with h | h<;>omega
  have h5:x.1≠5:=by rcases a1 with h | h<;>omega
  have h3:x.1≠3:=by rcases a1 with h | h<;>omega
  rw [if_pos a1,hk0 h4 h5,if_neg h3,dcT (show 1<=x.1/\x.1<=5 by rcases a1 with h | h<;>omega),beq_false_of_ne h4];simp [h5]
 by_cases a3:x.1=3
 ·have h4:x.1≠4:=by omega
  have h5:x.1≠5:=by omega
  rw [if_neg a1,if_pos a3,hk0 h4 h5,if_pos a3,dcT (show 1<=x.1/\x.1<=5 by omega),beq_false_of_ne h4];simp [h5]
 by_cases a4:x.1=4
 ·have h5:x.1≠5:=by omega
  rw [if_neg a1,if_neg a3,if_pos a4,if_neg a3,dcT (show 1<=x.1/\x.1<=5 by omega),a4];simp
 by_cases a5:x.1=5
 ·rw [if_neg a1,if_neg a3,if_neg a4,if_neg a3,dcT (show 1<=x.1/\x.1<=5 by omega),beq_false_of_ne a4]
  by_cases a6:x.2.2.2.2.1=0
  ·rw [if_neg (by rintro (h | h); exact h a5; exact h a6),hmsg];simp [a5,a6]
  ·rw [if_pos (.inr a6)];simp [a6]
 ·have a0 : ¬(1<=x.1/\x.1<=5):=by omega
  rw [if_neg a1,if_neg a3,if_neg a4,if_pos (.inl a5),dcF a0];simp
theorem Kh {l:List Ty} (H:Ord l) {i u:Nat} (hi:0<i) (hl:i<l.length) (hu:AG l i=some (u:Int)) (hlt:u<i) (hh:Au (At l u).1=true) :
  Dg l i=true↔Dh (At l u).1 (At l i)=true/\((At l u).1=5->∀ k∈KK l u (u+1) l.length,k<i->Fb (At l k) (At l i)):=by
 have ha:=H.around hi hl;have hs:=Om (l:=l) (a:=u) (c:=i) (by omega) (At l i).2.2.1 (At l i).2.1
 have hk:(∀ k∈KK l u (u+1) l.length,k<i->Fb (At l k) (At l i))↔∀ k,u<k->k<i->AG l k=some (u:Int)->(At l k).2.2.1<(At l i).2.2.1/\(At l k).2.1≠(At l i).2.1:=by
  constructor
  ·intro h k g1 g2 g3; exact h k (CL.2 ⟨⟨g1,by omega⟩,g3⟩) g2
  ·intro h k g1 g2;have:=CL.1 g1;exact h k this.1.1 g2 this.2
 rw [hk,<-hs];unfold Dg Dh;rw [hu];dsimp only;rw [ntN,dcT (show 0<=(u:Int)/\(u:Int)<(i:Int) by omega),hh,ha];rcases KO hh with h4 | h5
 ·rw [if_pos h4,if_neg (by omega)];simp [h4]
 ·rw [if_neg (by omega),if_pos h5];simp [h5]
theorem GY (l:List Ty):HG l=As l/\(As l=true->(kf l 0).1=t2L l 0):=by
 have main : ∀ (H:Ord l),1<=l.length/\l.length<=30->(HG l=true↔As l=true):=fun H hl=>by
  have h0:0<l.length:=by omega
  obtain ⟨e1,e2⟩:=H.end' h0;have hc:=Jz h0
  have hkm:CD l↔(∀ j,j<l.length->kmB (At l j)=true/\D7 l j=true)/\∀ j,0<j->j<l.length->Dg l j=true:=by
   constructor
   ·intro h;refine ⟨fun j hj=>?_,fun j hp hj=>?_⟩
    ·have:=(Gf H hj).1 (h j hj).1;exact ⟨this.1,this.2.1⟩
    ·obtain ⟨u,k1,k2,k3,_⟩:=H.up j hp hj;have hm:j∈KK l u (u+1) l.length:=CL.2 ⟨⟨k2,hj⟩,k1⟩;have hul:u<l.length:=by omega
     refine (Kh H hp hj k1 k2 k3).2 ⟨(h u hul).2 j hm,fun h5 k hk hkj=>?_⟩;exact ((Gf H hul).1 (h u hul).1).2.2 h5 j hm k hk hkj
   ·rintro ⟨h1,h2⟩ j hj
    have hcc : ∀ c∈KK l j (j+1) l.length,Dh (At l j).1 (At l c)=true/\((At l j).1=5->∀ k∈KK l j (j+1) l.length,k<c->Fb (At l k) (At l c)):=fun c hc=>by
     obtain ⟨⟨g1,g2⟩,g3⟩:=CL.1 hc;obtain ⟨u,k1,k2,k3,_⟩:=H.up c (by omega) g2;rw [g3] at k1; injection k1 with k1
     have:j=u:=by omega
     subst this;exact (Kh H (by omega) g2 g3 k2 k3).1 (h2 c (by omega) g2)
    exact ⟨(Gf H hj).2 ⟨(h1 j hj).1,(h1 j hj).2,fun h5 c hc k hk hkc=>(hcc c hc).2 h5 k hk hkc⟩,fun c hc=>(hcc c hc).1⟩
  unfold HG As AZ;rw [dcT hl,dcT H.zero,e1,e2,Ff h0];have hcnt:decide (Af (t2L l 0)<=30)=true:=dcT (by rw [<-e2]; omega);rw [hcnt];simp only [Bool.true_and,Bool.and_true,anE,all_eq_true,mem_range,dcE,beq_self_eq_true,Nm H h0,hkm];constructor
  ·rintro ⟨⟨h1,h2⟩,h3⟩
   have r:=h1 0 h0;unfold okT at r;rw [if_pos rfl] at r;simp only [anE,dcE] at r;obtain ⟨r0,⟨⟨⟨r1,r2⟩,r3⟩,r4⟩,r5⟩:=r;refine ⟨⟨⟨⟨⟨r1,r3⟩,r4⟩,r5⟩,⟨fun j hj=>⟨?_,h2 j hj⟩,fun j hp hj=>?_⟩⟩,h3⟩
   ·have:=h1 j hj;unfold okT at this;rw [anE] at this;exact this.1
   ·have:=h1 j hj;unfold okT at this;rw [if_neg (by omega),anE] at this;exact this.2
  ·rintro ⟨⟨⟨⟨⟨r1,r3⟩,r4⟩,r5⟩,⟨h1,h2⟩⟩,h3⟩
   refine ⟨⟨fun j hj=>?_,fun j hj=>(h1 j hj).2⟩,h3⟩;unfold okT;rw [(h1 j hj).1,Bool.true_and]
   by_cases hz:j=0
   ·rw [if_pos hz];simp only [anE,dcE];exact ⟨⟨⟨⟨r1,H.zero⟩,r3⟩,r4⟩,r5⟩
   ·rw [if_neg hz]; exact h2 j (by omega) hj
 have hS:HG l=true->Ord l/\1<=l.length/\l.length<=30:=fun h=>by
  unfold HG at h;simp only [anE,dcE] at h;exact ⟨Ki (by omega) h.1.1.2,h.1.1.1⟩
 have hK:As l=true->Ord l/\1<=l.length/\l.length<=30:=fun h=>by
  unfold As at h;simp only [anE,dcE,beq_iff_eq] at h;exact ⟨FA (by omega) h.1.1.2 h.1.2,h.1.1.1⟩
 refine ⟨?_,fun h=>((hK h).1.end' (by have:=(hK h).2; omega)).2⟩
 cases h1:HG l with
 | true=>obtain ⟨H,hl⟩:=hS h1; exact ((main H hl).1 h1).symm
 | false=>
  cases h2:As l with
  | false=>rfl
  | true=>obtain ⟨H,hl⟩:=hK h2; rw [(main H hl).2 h2] at h1; cases h1
def Jv:Gm
 | [.agg [.sl TCd l],.j i],[]=>.need (decide (0<=i/\i.toNat<l.length/\l.length<=4000000000)&&Cj l i.toNat&&nmL l) (.leaf (.b (Dg l i.toNat),[]))
 | _,_=>.no
def DV:LoopEnt:=⟨103,[1,2,5,6],[],[4],fun
 | ([.j i,.ptr 0 0,.ptr 1 0,.j k],[some (.box [.sl TCd l]),some (.box (Ly _ y1 y2 _ y4 _))])=>.need (decide (0<=k/\k<=i/\i.toNat<l.length/\l.length<=4000000000)) (.br (Nj y4 y2 y1 ((l.take i.toNat).drop k.toNat)) (.leaf (.exit 0,([],[]))) (.leaf (.ret,([.b false],[]))))
 | _=>.no⟩
abbrev QB:FuncId->Option Ent:=Aa [(53,.rd1 FL),(54,.rd1 Gn),(55,.rd1 Hw),(32,.rd1 AS)]
theorem FJ (l:List Ty) (y0:Int) (y1:By) (y2:Int) (y3:Bool) (y4 y5:Int) (i k:Int):AD prog QB (Aa [(9,DV)]) 0 (body f33 0) DV ([.j i,.ptr 0 0,.ptr 1 0,.j k],[some (.box [.sl TCd l]),some (.box (Ly y0 y1 y2 y3 y4 y5))]) =
 ((ifB (decide (k<i)) (ifT (decide (0<=k)&&decide (k<(↑l.length:Int))) (Am l[k.toNat]? fun z=>ifB (z.2.2.2.2.1==y4) (ifB (decide (z.2.2.1>=
 y2)) rF (ifB (z.2.1==y1) rF (some (Ex.normal,[V.j i,V.ptr 0 0,V.ptr 1 0,V.i .i64
 (i64.wrap (k+1))],[some (Blk.box [V.sl TCd l]),some (Blk.box (Ly y0 y1 y2 y3 y4 y5))])))) (some (Ex.normal,[V.i
 .i64 i,V.ptr 0 0,V.ptr 1 0,V.j (i64.wrap (k+1))],[some (Blk.box [V.sl TCd l]),some (Blk.box (Ly y0 y1 y2 y3 y4 y5))])))) (some (Ex.exit 0,[],[]))):_):=by kernel_rfl
theorem K3 (l:List Ty) (i:Int):AV prog QB (Aa [(9,DV)]) f33 [.agg [.sl TCd l],.j i] [] =
 ((ifT (decide (0<=i)&&decide (i<(↑l.length:Int))) (Am l[i.toNat]? fun z=>ifB (decide (z.2.2.2.2.1<(0:Int))) nF (ifB (decide
 (z.2.2.2.2.1>=i)) nF (ifT (decide ((0:Int)<=z.2.2.2.2.1)&&decide (z.2.2.2.2.1<(↑l.length:Int))) (Am
 l[toNat z.2.2.2.2.1]? fun z_1=>ifB (!Au z_1.1) nF (ifT (decide (0<=i/\i.toNat<l.length/\l.length<=4000000000)&&
 Cj l i.toNat) (ifB (!CY l i.toNat) nF (ifT (decide ((0:Int)<=z.2.2.2.2.1)&&decide (z.2.2.2.2.1<(↑l.length:Int)))
 (Am l[toNat z.2.2.2.2.1]? fun z_2=>ifB (z_2.1==(4:Int)) (ifB (z.2.1==Ar UInt8) (ifB (z.2.2.1==(0:Int)) (some (V.b
 !z.2.2.2.1,[])) nF) nF) (ifT (decide (List.length z.2.1<=maxI)) (ifB (!E2 z.2.1) nF (ifB
 (!decide ((1:Int)<=z.2.2.1/\z.2.2.1<=(30:Int))) nF (ifT (decide (0<=i64.wrap (z.2.2.2.2.1+(1:Int))/\
 i64.wrap (z.2.2.2.2.1+(1:Int))<=i/\i.toNat<l.length/\l.length<=4000000000)) (ifB (Nj z.2.2.2.2.1 z.2.2.1 z.2.1
 (drop (i64.wrap (z.2.2.2.2.1+(1:Int))).toNat (take i.toNat l))) (some (V.b true,[])) nF)))))))))))))):_):=by kernel_rfl
theorem N3:Az prog QB (Aa [(9,DV)]) 0 (f33.body.getD .skip):=by
 refine Aw (a:=body f33 0) (by kernel_rfl) fun d ex d' h=>?_
 unfold DV at h;dsimp only at h;split at h
 ·rename_i i k l y0 y1 y2 y3 y4 y5;obtain ⟨hc,hx⟩:=Ae h;clear h;obtain ⟨h0,h1,h2,h3⟩:=of_decide_eq_true hc;obtain ⟨k,rfl⟩:=eq_ofNat_of_zero_le h0;obtain ⟨i,rfl⟩:=eq_ofNat_of_zero_le (by omega:0<=i);simp only [ntN] at h2 hx;have hM:=mxI;have hlen:(l.take i).length=i:=by rw [List.length_take]; omega
  refine Ey (l:=l.take i) (fun o:Ty=>!(o.2.2.2.2.1==y4&&(decide (o.2.2.1>=y2)||o.2.1==y1))) (fun k=>([.j (i:Int),.ptr 0 0,.ptr 1 0,.j (k:Int)],[some (.box [.sl TCd l]),some (.box (Ly y0 y1 y2 y3 y4 y5))])) (ex:=(.exit 0,([],[]))) (rt:=(.ret,([.b false],[]))) (by simp) (by simp) (fun n hn=>?_) ?_ ((l.take i).length-k) k (by rw [hlen]; omega) ex d' hx
  ·rw [hlen] at hn;have hnl:n<l.length:=by omega
   have hr:=FJ l y0 y1 y2 y3 y4 y5 i n;rw [Aj (dcT (by omega)),T2 (by omega)] at hr;simp only [ntN,gtE hnl,Ao,AE (n:=n) (by omega)] at hr;refine hr.trans ?_;rw [List.getElem_take];cases l[n].2.2.2.2.1==y4<;>cases decide (l[n].2.2.1>=y2)<;>cases l[n].2.1==y1<;>rfl
  ·have hr:=FJ l y0 y1 y2 y3 y4 y5 i i;rw [Ah (dcF (by omega))] at hr;rw [hlen];exact hr
 ·cases h
theorem LU (l:List Ty) (i:Int) (hc:0<=i/\i.toNat<l.length/\l.length<=4000000000) (hs:Cj l i.toNat=true) (hn:nmL l=true):AV prog QB (Aa [(9,DV)]) f33 [.agg [.sl TCd l],.j i] []=some (.b (Dg l i.toNat),[]):=by
 rw [K3];obtain ⟨h0,h1,h2⟩:=hc;obtain ⟨i,rfl⟩:=eq_ofNat_of_zero_le h0;simp only [ntN] at h1 hs;have hM:=mxI;have hu:AG l i=some (l[i].2.2.2.2.1):=by unfold AG; rw [gtE h1]; rfl
 have hlb:=Fo h1;have hnm:l[i].2.1.length<=maxI:=of_decide_eq_true (all_eq_true.1 hn _ (getElem_mem h1));rw [T2 (by omega)];simp only [ntN,gtE h1,Ao];unfold Dg;rw [hu,hlb];dsimp only
 by_cases a1:l[i].2.2.2.2.1<0
 ·rw [Aj (dcT a1),dcF (by omega)]; rfl
 rw [Ah (dcF a1)]
 by_cases a2:l[i].2.2.2.2.1>=(i:Int)
 ·rw [Aj (dcT a2),dcF (by omega)]; rfl
 obtain ⟨u,hu2⟩:=eq_ofNat_of_zero_le (by omega:0<=l[i].2.2.2.2.1);rw [hu2] at a2 ⊢;have hul:u<l.length:=by omega
 have hg:(decide ((0:Int)<=(u:Int))&&decide ((u:Int)<(l.length:Int)))=true:=by simp only [anE,dcE]; omega
 rw [Ah (dcF a2),dcT (show 0<=(u:Int)/\(u:Int)<(i:Int) by omega),hg];simp only [ntN,gtE hul,Ao,Eo];rw [Fo hul];dsimp only
 cases Au l[u].1 with
 | false=>rfl
 | true=>
  rw [Bool.not_true,Bt,Ag (by rw [anE]; exact ⟨dcT ⟨by omega,h1,h2⟩,hs⟩)]
  cases CY l i with
  | false=>rfl
  | true=>
   rw [Bool.not_true,Bt]
   by_cases a4:l[u].1=4
   ·rw [Aj (by rw [a4]; rfl),if_pos a4];cases l[i].2.1==Ar UInt8<;>cases l[i].2.2.1==0<;>rfl
   ·rw [Ah (beq_false_of_ne a4),if_neg a4,Ag (dcT hnm),AE (n:=u) (by omega)];have d1:decide (1<=l[i].2.2.1/\l[i].2.2.1<=30)=(decide (1<=l[i].2.2.1)&&decide (l[i].2.2.1<=30)):=decide_and ..;rw [d1,Ag (dcT ⟨by omega,by omega,h1,h2⟩),ntN];cases E2 l[i].2.1<;>cases (decide (1<=l[i].2.2.1)&&decide (l[i].2.2.1<=30))<;>cases Nj (u:Int) l[i].2.2.1 l[i].2.1 ((l.take i).drop (u+1))<;>rfl
theorem Rh:Ab prog 33 (Ent.rd1 Jv).F:=by
 refine fcK (kc func53 MD (kc func54 OO (kc func55 RR (kc func32 Ri KnowsL.nil)))).knows (Λ:=(Aa [(9,DV)])) func33 fun vs bs r hq=>?_
 unfold Ent.F Jv at hq;dsimp only at hq;split at hq
 ·rename_i l i;obtain ⟨hc,hx⟩:=Ae hq;rw [anE,anE] at hc;exact ⟨N3,(LU l i (of_decide_eq_true hc.1.1) hc.1.2 hc.2).trans hx⟩
 ·cases hq
instance decTy0:DecidableEq (Bool×Int×Int×Unit):=inferInstance
instance decTy:DecidableEq Ty:=inferInstance
def ER:LoopEnt:=⟨105,[1,13,14,15],[1],[2],fun
 | ([.ptr 0 0,.sl TCd q,.j m,.j i],[some (.box [.sl TCd l])])=>.need (decide (0<=i/\i.toNat<=l.length/\m=l.length/\eqT (List Ty) q l/\l.length<=4000000000)&&nmL l&&Cj l i.toNat) (.br (((range l.length).drop i.toNat).all (okT l)) (.leaf (.exit 0,([.ptr 0 0],[some (.box [.sl TCd l])]))) (.leaf (.ret,([.b false],[]))))
 | _=>.no⟩
def FP:LoopEnt:=⟨105,[1,83,84,85],[1],[2],fun
 | ([.ptr 0 0,.sl TCd q,.j m,.j i],[some (.box [.sl TCd l])])=>.need (decide (0<=i/\i.toNat<=l.length/\m=l.length/\eqT (List Ty) q l/\l.length<=4000000000)) (.br (((range l.length).drop i.toNat).all (D7 l)) (.leaf (.exit 2,([.ptr 0 0],[some (.box [.sl TCd l])]))) (.leaf (.ret,([.b false],[]))))
 | _=>.no⟩
abbrev JG:FuncId->Option Ent:=Aa [(32,.rd1 AS),(33,.rd1 Jv),(34,.rd1 GT),(17,.rd1 FI),(35,.rd1 LA)]
theorem IJ (l q:List Ty) (m i:Int):AD prog JG (Aa [(4,ER),(12,FP)]) 0 (body f15 0) ER ([.ptr 0 0,.sl TCd q,.j m,.j i],[some (.box [.sl TCd l])]) =
 ((ifB (decide (i<m)) (ifT (decide (0<=i)&&decide (i<(↑q.length:Int))) (Am q[i.toNat]? fun z=>shr z.2.2 fun sh4=>shr sh4.2.2.2 fun sh3=>shr (ifB
 (decide (i>0)) (ifT (decide (0<=i/\i.toNat<l.length/\l.length<=4000000000)&&Cj l i.toNat&&nmL l) (ifB (!Dg l i.toNat) rF (some (Ex.normal,[V.ptr 0 0,V.sl TCd q,V.j m,V.j (i64.wrap (i+1))],[some (Blk.box [V.sl TCd l])])))) (some (Ex.normal,[V.ptr 0 0,
 V.sl TCd q,V.j m,V.j (i64.wrap (i+1))],[some (Blk.box [V.sl TCd l])]))) fun sh2=>shr (ifB (i==0) (ifB (z.1 != (5:Int)) rF (ifB (sh4.2.2.1 != (-1:Int)) rF (ifB (!z.2.1==Ar UInt8) rF (ifB (sh4.1 != (0 :
 Int)) rF (ifB sh4.2.1 rF sh2))))) sh2) fun sh1=>ifB (!decide ((1:Int)<=z.1/\z.1<=(5:Int)))
 rF (ifB (z.1==(3:Int)) (ifB (!decide ((0:Int)<=sh3.1/\sh3.1<=(20:Int))) rF (ifB (z.1 != (3
 : Int)) (ifB (sh3.1 != (0:Int)) rF sh1) sh1)) (ifB (z.1 != (3:Int)) (ifB (sh3.1 != (0:Int)) rF
 sh1) sh1)))) (some (Ex.exit 0,[V.ptr 0 0],[some (Blk.box [V.sl TCd l])]))):_):=by kernel_rfl
theorem II (l q:List Ty) (m i:Int):AD prog JG (Aa [(4,ER),(12,FP)]) 0 (body f15 1) FP ([.ptr 0 0,.sl TCd q,.j m,.j i],[some (.box [.sl TCd l])]) =
 ((ifB (decide (i<m)) (ifT (decide (0<=i)&&decide (i<(↑q.length:Int))) (Am q[i.toNat]? fun z=>ifB (z.1==(4:Int)) (ifT (decide (0<=i/\i.toNat<l.length
 /\ l.length<=4000000000)) (ifB ((↑(Be l i.toNat).length:Int) != (1:Int)) rF (some (Ex.normal,[V.ptr 0 0,V.sl TCd q,V.i
 .i64 m,V.j (i64.wrap (i+1))],[some (Blk.box [V.sl TCd l])])))) (some (Ex.normal,[V.ptr 0 0,V.sl TCd q,V.j m,V.j (i64.wrap (i +
 1))],[some (Blk.box [V.sl TCd l])])))) (some (Ex.exit 2,[V.ptr 0 0],[some (Blk.box [V.sl TCd l])]))):_):=by kernel_rfl
theorem Qq (l:List Ty):AV prog JG (Aa [(4,ER),(12,FP)]) f15 [.agg [.sl TCd l]] [] =
 ((ifB (!decide (1<=(↑l.length:Int)/\(↑l.length:Int)<=(30:Int))) nF (ifT (decide ((0:Int)<=(0:Int)/\0<=l.length/\(↑l.length :
 Int)=(↑l.length:Int)/\eqT (List Ty) l l/\l.length<=4000000000)&&nmL l&&Cj l 0) (ifB ((drop 0 (range l.length)).all (okT
 l)) (ifT (decide ((0:Int)<=(0:Int)/\0<=l.length/\(↑l.length:Int)=(↑l.length:Int)/\eqT (List Ty) l l/\l.length<=4000000000)) (ifB
 ((drop 0 (range l.length)).all (D7 l)) (ifT (decide ((0:Int)<=(0:Int)/\0<l.length/\l.length<=4000000000)) (ifT (decide
 (Ai (take (t2L l 0).kids.length (drop 0 (t2L l 0).kids))+1<=1000000)) (some (V.b (decide ((↑(BK (take (t2L
 l 0).kids.length (drop 0 (t2L l 0).kids))+bif Au (t2L l 0).lab.1 then 1 else 0):Int)<=(5:Int))),[]))))
 nF)) nF))):_):=by kernel_rfl
theorem Lz {l:List Ty} {i:Nat} (h:Cj l i=true) {u:Int} (hu:AG l i=some u) (hlt:u<(i:Int)):Cj l (i+1)=true:=by
 unfold Cj at h ⊢;rw [List.range_succ,List.all_append,h,Bool.true_and,List.all_cons,List.all_nil,Bool.and_true,hu];exact dcT hlt
theorem Rf {l:List Ty} {i:Nat} (h:okT l i=true) : ∃ u,AG l i=some u/\u<(i:Int):=by
 unfold okT at h;rw [anE] at h;have h:=h.2
 by_cases hz:i=0
 ·subst hz;rw [if_pos rfl] at h;simp only [anE,dcE] at h;exact ⟨-1,h.1.1.1.2,by omega⟩
 ·rw [if_neg hz] at h;unfold Dg at h
  cases hu:AG l i with
  | none=>rw [hu] at h; cases h
  | some u=>
   rw [hu] at h;simp only [anE,dcE] at h;exact ⟨u,rfl,h.1.1.1.2⟩
theorem Pr (l:List Ty) (hl:l.length<=4000000000) (hn:nmL l=true) (i:Nat) (hi:i<l.length) (hs:Cj l i=true) :
  AD prog JG (Aa [(4,ER),(12,FP)]) 0 (body f15 0) ER ([.ptr 0 0,.sl TCd l,.j (l.length:Int),.j (i:Int)],[some (.box [.sl TCd l])])=some (bif okT l i then (.normal,([.ptr 0 0,.sl TCd l,.j (l.length:Int),.j ((i+1:Nat):Int)],[some (.box [.sl TCd l])])) else (.ret,([.b false],[]))):=by
 have hM:=mxI;have hr:=IJ l l l.length i;dsimp only [shr] at hr;rw [Aj (dcT (by omega)),T2 (by omega)] at hr;simp only [ntN,gtE hi,Ao,AE (n:=i) (by omega)] at hr;refine hr.trans ?_;clear hr
 have hc:(decide ((0:Int)<=(i:Int)/\i<l.length/\l.length<=4000000000)&&Cj l i&&nmL l)=true:=by
  rw [hs,hn,dcT (show (0:Int)<=(i:Int)/\i<l.length/\l.length<=4000000000 from ⟨by omega,hi,hl⟩)]; rfl
 rw [hc]
 have hkm:kmB (At l i)=(decide (1<=l[i].1/\l[i].1<=5)&&(bif l[i].1==3 then decide (0<=l[i].2.2.2.2.2.1/\l[i].2.2.2.2.2.1<=20) else l[i].2.2.2.2.2.1==0)):=by
  rw [Fo hi];unfold kmB;dsimp only
  by_cases h3:l[i].1=3
  ·rw [if_pos h3,h3]; rfl
  ·rw [if_neg h3,beq_false_of_ne h3]; rfl
 unfold okT;rw [hkm];unfold bne
 by_cases hz:i=0
 ·subst hz
  have hu:decide (AG l 0=some (-1))=(l[0].2.2.2.2.1==-1):=by
   unfold AG;rw [gtE hi]
   by_cases h1:l[0].2.2.2.2.1 = -1
   ·rw [map_some,h1]; simp
   ·rw [beq_false_of_ne h1]; exact dcF (fun h=>h1 (Option.some.inj h))
  rw [if_pos rfl,Fo hi,hu];simp only [show (((0:Nat):Int)==0)=true from rfl,show decide (((0:Nat):Int)>0)=false from rfl];have hnil:(l[0].2.1==([]:By))=(l[0].2.1==Ar UInt8):=rfl;rw [hnil];generalize decide (1<=l[0].1/\l[0].1<=5)=K;generalize (l[0].1==3)=c3;generalize (l[0].1==5)=c5;generalize decide (0<=l[0].2.2.2.2.2.1/\l[0].2.2.2.2.2.1<=20)=M;generalize (l[0].2.2.2.2.2.1==0)=m0;generalize (l[0].2.2.2.2.1==-1)=u0;generalize (l[0].2.1==Ar UInt8)=nm;generalize (l[0].2.2.1==0)=no;generalize l[0].2.2.2.1=mu;cases K<;>cases c3<;>cases c5<;>cases M<;>cases m0<;>cases u0<;>cases nm<;>cases no<;>cases mu<;>rfl
 ·rw [if_neg hz];have h0:((i:Int)==0)=false:=beq_false_of_ne (by omega);have h1:decide ((i:Int)>0)=true:=dcT (by omega);rw [h0,h1];generalize decide (1<=l[i].1/\l[i].1<=5)=K;generalize (l[i].1==3)=c3;generalize decide (0<=l[i].2.2.2.2.2.1/\l[i].2.2.2.2.2.1<=20)=M;generalize (l[i].2.2.2.2.2.1==0)=m0;generalize Dg l i=p;cases K<;>cases c3<;>cases M<;>cases m0<;>cases p<;>rfl
theorem LC {n i:Nat} (h:i<n):(range n).drop i=i::(range n).drop (i+1):=by
 rw [drop_eq_getElem_cons (by simpa using h)]; simp
theorem KS (l:List Ty) (hl:l.length<=4000000000) (hn:nmL l=true) : ∀ (j i:Nat),i+j=l.length->Cj l i=true->∀ ex d,(Br.br (((range l.length).drop i).all (okT l)) (.leaf (.exit 0,([.ptr 0 0],[some (.box [.sl TCd l])]))) (.leaf (.ret,([.b false],[]))):Br (Ex×Dt)).run=some (ex,d)->
  Runs prog JG (Aa [(4,ER),(12,FP)]) 0 (body f15 0) ER ([.ptr 0 0,.sl TCd l,.j (l.length:Int),.j (i:Int)],[some (.box [.sl TCd l])]) ex d
 | 0,i,hi,hs,ex,d,h=>by
  have hr:=IJ l l l.length i;dsimp only [shr] at hr;rw [Ah (dcF (by omega))] at hr;have e1:(range l.length).drop i=[]:=drop_eq_nil_of_le (by simp; omega);rw [e1] at h;obtain ⟨rfl,rfl⟩:=lfP h;exact stp hr
 | j+1,i,hi,hs,ex,d,h=>by
  have hr:=Pr l hl hn i (by omega) hs;rw [LC (by omega),List.all_cons] at h
  cases hk:okT l i with
  | true=>
   rw [hk,cond_true] at hr;rw [hk,Bool.true_and] at h;obtain ⟨u,hu,hlt⟩:=Rf hk;exact sts hr (KS l hl hn j (i+1) (by omega) (Lz hs hu hlt) ex d h)
  | false=>
   rw [hk,cond_false] at hr;rw [hk,Bool.false_and] at h;obtain ⟨rfl,rfl⟩:=lfP h;exact stp hr
theorem Rz : ∀ d e d',(ER.L d).run=some (e,d')->Runs prog JG (Aa [(4,ER),(12,FP)]) 0 (body f15 0) ER d e d':=fun d ex d' h=>by
 unfold ER at h;dsimp only at h;split at h
 ·rename_i q m i l;obtain ⟨hc,hx⟩:=Ae h;clear h;rw [anE,anE] at hc;obtain ⟨⟨hc,hn⟩,hs⟩:=hc;obtain ⟨h0,h1,rfl,h3,h4⟩:=of_decide_eq_true hc;have h3:q=l:=h3;subst h3;obtain ⟨i,rfl⟩:=eq_ofNat_of_zero_le h0;simp only [ntN] at h1 hs hx;exact KS _ h4 hn _ i (Nat.add_sub_of_le h1) hs ex d' hx
 ·cases h
theorem Ry : ∀ d e d',(FP.L d).run=some (e,d')->Runs prog JG (Aa [(4,ER),(12,FP)]) 0 (body f15 1) FP d e d':=fun d ex d' h=>by
 unfold FP at h;dsimp only at h;split at h
 ·rename_i q m i l;obtain ⟨hc,hx⟩:=Ae h;clear h;obtain ⟨h0,h1,rfl,h3,h4⟩:=of_decide_eq_true hc;have h3:q=l:=h3;subst h3;obtain ⟨i,rfl⟩:=eq_ofNat_of_zero_le h0;simp only [ntN] at h1 hx;have hM:=mxI;refine Ey (l:=range q.length) (D7 q) (fun i=>([.ptr 0 0,.sl TCd q,.j (q.length:Int),.j (i:Int)],[some (.box [.sl TCd q])])) (ex:=(.exit 2,([.ptr 0 0],[some (.box [.sl TCd q])]))) (rt:=(.ret,([.b false],[]))) (by simp) (by simp) (fun n hn=>?_) ?_ (q.length-i) i (by simp; omega) ex d' hx
  ·have hn:n<q.length:=by simpa using hn
   have hr:=II q q q.length n;rw [Aj (dcT (by omega)),T2 (by omega)] at hr;simp only [ntN,gtE hn,Ao,AE (n:=n) (by omega)] at hr;refine hr.trans ?_;rw [Ag (dcT ⟨by omega,hn,h4⟩),List.getElem_range]
   have e1:(((Be q n).length:Int) != 1)=((Be q n).length != 1):=by
    by_cases h:(Be q n).length=1
    ·rw [h]; rfl
    ·have h2:((Be q n).length:Int)≠1:=by omega
     unfold bne;rw [beq_false_of_ne h,beq_false_of_ne h2]
   rw [e1];unfold D7;rw [Fo hn];dsimp only;cases q[n].1==4<;>cases (Be q n).length != 1<;>rfl
  ·have hr:=II q q q.length q.length;rw [Ah (dcF (by omega))] at hr;simp only [List.length_range];exact hr
 ·cases h
theorem Sm:Az prog JG (Aa [(4,ER),(12,FP)]) 0 (f15.body.getD .skip):=
 LoopsI.loops (.cons (a:=body f15 0) (by kernel_rfl) Rz (.cons (a:=body f15 1) (by kernel_rfl) Ry .nil)) (by kernel_rfl)
theorem Rx (l:List Ty) (h1:l.length<=4000000000) (hn:nmL l=true):AV prog JG (Aa [(4,ER),(12,FP)]) f15 [.agg [.sl TCd l]] []=some (.b (As l),[]):=by
 rw [Qq,<- (GY l).1];have hq:=GY l;have hu0:Cj l 0=true:=rfl;have d0:decide ((0:Int)<=0/\0<=l.length/\(l.length:Int)=(l.length:Int)/\eqT (List Ty) l l/\l.length<=4000000000)=true:=dcT ⟨by omega,by omega,rfl,rfl,h1⟩;rw [d0,hn,hu0,drop_zero,drop_zero,take_length];have hle:decide (1<=(l.length:Int)/\(l.length:Int)<=30)=decide (1<=l.length/\l.length<=30):=decide_eq_decide.2 (by omega);rw [hle];have hdp:BK (t2L l 0).kids+(bif Au (t2L l 0).lab.1 then 1 else 0)=Bu (t2L l 0):=I3 _;have hd5:decide ((Bu (t2L l 0):Int)<=5)=decide (Bu (t2L l 0)<=5):=decide_eq_decide.2 (by omega);rw [hdp,hd5];unfold HG
 cases a1:decide (1<=l.length/\l.length<=30) with
 | false=>rfl
 | true=>
  have a1:=of_decide_eq_true a1
  cases a2:(range l.length).all (okT l) with
  | false=>rfl
  | true=>
   have H:=Ki (by omega) a2;have he:=H.end' (by omega);have hc:=Jz (l:=l) (a:=0) (by omega);have hk:=AF (t2L l 0);rw [he.1,he.2] at hc;have d1:decide ((0:Int)<=0/\0<l.length/\l.length<=4000000000)=true:=dcT ⟨by omega,by omega,h1⟩;have d2:decide (Ai (t2L l 0).kids+1<=1000000)=true:=dcT (by omega);rw [d1,d2];cases (range l.length).all (D7 l)<;>rfl
theorem Mz:Ab prog 15 (Ent.rd1 HH).F:=by
 refine fcK (kc func32 Ri (kc func33 Rh (kc func34 ON (kc func17 LT (kc func35 RS KnowsL.nil))))).knows (Λ:=(Aa [(4,ER),(12,FP)])) func15 fun vs bs r hq=>?_
 unfold Ent.F HH at hq;dsimp only at hq;split at hq
 ·rename_i l;obtain ⟨hc,hx⟩:=Ae hq;rw [anE] at hc;exact ⟨Sm,(Rx l (of_decide_eq_true hc.1) hc.2).trans hx⟩
 ·cases hq
def drT (n:Nat) (z:Rose Lab):Prop:=Af z<=n/\AX z=true
def Gu (d m:Int) (f:Cur->Rose Lab×Cur):Gm
 | [.ptr 0 0,.j x],[.box [.sl (.int .u8) l,.j a,.i .u64 s]]=>.need (decide (x=d/\0<=d/\(Cur.mk l a s).good m)) (.leaf (.agg [.j (f (Cur.mk l a s)).1.lab.1,.s (f (Cur.mk l a s)).1.lab.2.1,.j (f (Cur.mk l a s)).1.lab.2.2.1,.b (f (Cur.mk l a s)).1.lab.2.2.2.1,.j (f (Cur.mk l a s)).1.lab.2.2.2.2.1,.ref 1 0 (f (Cur.mk l a s)).1.kids.length],[some (cB (f (Cur.mk l a s)).2),R0 (.rose LCd) (f (Cur.mk l a s)).1.kids]))
 | _,_=>.no
def FU (d m:Int) (f:Cur->Rose Lab×Cur):Gm
 | [.ptr 0 0,.j x],[.box [.sl (.int .u8) l,.j a,.i .u64 s]]=>.need (decide (x=d/\0<=d/\(Cur.mk l a s).good m)) (.leaf (.agg [.j (f (Cur.mk l a s)).1.lab.1,.s (f (Cur.mk l a s)).1.lab.2.1,.j (f (Cur.mk l a s)).1.lab.2.2.1,.b (f (Cur.mk l a s)).1.lab.2.2.2.1,.j (f (Cur.mk l a s)).1.lab.2.2.2.2.1,.ref 1 0 (f (Cur.mk l a s)).1.kids.length],[some (cB (f (Cur.mk l a s)).2),R0 (.rose LCd) (f (Cur.mk l a s)).1.kids]))
 | _,_=>.no
def EW (e m q:Int) (o:Cur×RL×Nat×List (By)->RL×Cur):LoopEnt:=⟨39,[0,1,4,5,10,11,12],[4,5],[],fun
 | ([.ptr 0 0,.j d,.ptr 1 0,.ptr 2 0,.ref 3 0 5,.j k,.j i],[some (.box [.sl (.int .u8) l,.j a,.i .u64 s]),some (.box [.j 0,.s [],.j 0,.b false,.j 0,.ref 4 0 0]),some (.box [.j 5,.s [],.j 0,.b false,.j 0,.ref 5 0 n]),R0 .str nm,R0 (.rose LCd) [],R0 (.rose LCd) ks])=>.need (decide (d=e/\k=5/\0<=i/\i<=5/\n=ks.length/\ks.length<=i.toNat/\nm.length=5/\(Cur.mk l a s).good (m+i*q))&&nm.all (fun x=>decide (x.length<=10))) (.leaf (.exit 0,([.ptr 1 0,.ptr 2 0],[some (cB (o (Cur.mk l a s,ks,i.toNat,nm)).2),some (.box [.j 0,.s [],.j 0,.b false,.j 0,.ref 3 0 0]),some (.box [.j 5,.s [],.j 0,.b false,.j 0,.ref 4 0 (o (Cur.mk l a s,ks,i.toNat,nm)).1.length]),R0 (.rose LCd) [],R0 (.rose LCd) (o (Cur.mk l a s,ks,i.toNat,nm)).1])))
 | _=>.no⟩
theorem Ed (d m m' q:Int) (f:Cur->Rose Lab×Cur) (o:Cur×RL×Nat×List (By)->RL×Cur) (k i:Int) (l:List Int) (a s:Int) (n:Nat) (nm:List (By)) (ks:RL):AD prog (Aa [(23,.own EY),(57,.own (Gu d m' f))]) (Aa [(3,EW d m q o)]) 1 (body f43 0) (EW d m q o) ([.ptr 0 0,.j d,.ptr 1 0,.ptr 2 0,.ref 3 0 5,.j k,.j i],[some (.box [.sl (.int .u8) l,.j a,.i .u64 s]),some (.box [.j 0,.s [],.j 0,.b false,.j 0,.ref 4 0 0]),some (.box [.j 5,.s [],.j 0,.b false,.j 0,.ref 5 0 n]),R0 .str nm,R0 (.rose LCd) [],R0 (.rose LCd) ks]) =
 ((ifB (decide (i<k)) (ifT (decide (0<=i)&&decide (i<(↑(5:Nat):Int))) (Am nm[0+i.toNat]? fun z=>ifT (decide ((Cur.mk l a s).good (900000000 :
 Int))) (ifB (!(Cur.mk l a s).pickV (2:Int)==(0:Int)) (some (Ex.normal,[V.ptr 0 0,V.j d,V.ptr 1 0,V.ptr 2 0,V.ref 3 0 5,V.j k,V.i .i64
 (i64.wrap (i+1))],[some (Blk.box [V.sl (Cd.int .u8) ((Cur.mk l a s).pickC (2:Int)).l,V.j ((Cur.mk l a s).pickC (2:Int)).a,V.i .u64 ((Cur.mk l a
 s).pickC (2:Int)).s]),some (Blk.box [V.j 0,V.s (Ar UInt8),V.j 0,V.b false,V.j 0,V.ref 4 0 0]),some (Blk.box [V.j 5,V.s (Ar UInt8),V.i
 .i64 0,V.b false,V.j 0,V.ref 5 0 n]),R0 Cd.str nm,R0 LCd.rose (Ar LCd.rose.den),R0 LCd.rose ks])) (ifT (decide (d=d/\0<=d/\((Cur.mk l a s).pickC (2:Int)).good m')) (ifT (decide ((f ((Cur.mk l a s).pickC (2:Int))).2.good (900000000:Int)))
 (ifT (decide ((n+1)*72<=140737488355328)&&decide (n+1<=maxI)) (some (Ex.normal,[V.ptr 0 0,V.j d,V.ptr 1 0,V.ptr 2 0,
 V.ref 3 0 5,V.j k,V.j (i64.wrap (i+1))],[some (Blk.box [V.sl (Cd.int .u8) ((f ((Cur.mk l a s).pickC (2:Int))).2.pickC (3:Int)).l,V.i .i64
 ((f ((Cur.mk l a s).pickC (2:Int))).2.pickC (3:Int)).a,V.i .u64 ((f ((Cur.mk l a s).pickC (2:Int))).2.pickC (3:Int)).s]),some (Blk.box [V.j 0,V.s
 (Ar UInt8),V.j 0,V.b false,V.j 0,V.ref 4 0 0]),some (Blk.box [V.j 5,V.s (Ar UInt8),V.j 0,V.b false,V.j 0,V.ref 5 0 (n+(1 :
 Nat))]),R0 Cd.str nm,R0 LCd.rose (Ar LCd.rose.den),R0 LCd.rose (take n (drop 0
 ks)++Rose.node ((f ((Cur.mk l a s).pickC (2:Int))).1.lab.1,z,i64.wrap (i+1),(f ((Cur.mk l a s).pickC (2:Int))).2.pickV (3:Int)==(0:Int),(f
 ((Cur.mk l a s).pickC (2:Int))).1.lab.2.2.2.2.1,()) (take (f ((Cur.mk l a s).pickC (2:Int))).1.kids.length (drop 0 (f ((Cur.mk l a
 s).pickC (2:Int))).1.kids))::Ar LCd.rose.den)])))))))) (some (Ex.exit 0,[V.ptr 1 0,V.ptr 2 0],[some (Blk.box [V.sl (Cd.int .u8) l,V.j a,V.i .u64 s]),
 some (Blk.box [V.j 0,V.s (Ar UInt8),V.j 0,V.b false,V.j 0,V.ref 3 0 0]),some (Blk.box [V.j 5,V.s (Ar UInt8),V.j 0,V.b false,V.i
 .i64 0,V.ref 4 0 n]),R0 LCd.rose (Ar LCd.rose.den),R0 LCd.rose ks]))):_):=by kernel_rfl
theorem Pv (d m:Int) (f:Cur->Rose Lab×Cur) (g:Cur->Rose Lab×Cur) (l:List Int) (a s:Int):BX prog (Aa [(40,.own BD),(57,.own (Gu (d-1) m f)),(43,.own (FU (d-1) m g))]) (Aa []) f57 [.ptr 0 0,.j d] [.box [.sl (.int .u8) l,.j a,.i .u64 s]] =
 ((ifT (decide ((Cur.mk l a s).good (900000000:Int))) (ifB ((Cur.mk l a s).pickV (6:Int)==(0:Int)) (ifB ((Cur.mk l a s).pickV (6:Int)==(0:Int)) (some (V.agg
 [V.j 1,V.s (Ar UInt8),V.j 0,V.b false,V.j 0,V.ref 1 0 0],[some (Blk.box [V.sl (Cd.int .u8) ((Cur.mk l a s).pickC (6:Int)).l,V.j ((Cur.mk l
 a s).pickC (6:Int)).a,V.i .u64 ((Cur.mk l a s).pickC (6:Int)).s]),R0 LCd.rose (Ar LCd.rose.den)])) (ifB ((Cur.mk l a s).pickV (6:Int)==
 (2:Int)) (some (V.agg [V.j 2,V.s (Ar UInt8),V.j 0,V.b false,V.j 0,V.ref 1 0 0],[some (Blk.box [V.sl (Cd.int .u8) ((Cur.mk l a s).pickC (6 :
 Int)).l,V.j ((Cur.mk l a s).pickC (6:Int)).a,V.i .u64 ((Cur.mk l a s).pickC (6:Int)).s]),R0 LCd.rose (Ar LCd.rose.den)])) (ifB
 ((Cur.mk l a s).pickV (6:Int)==(3:Int)) (ifT (decide (((Cur.mk l a s).pickC (6:Int)).good (900000000:Int))) (some (V.agg [V.j 3,V.s (Ar UInt8),V.i .i64
 0,V.b false,V.j (((Cur.mk l a s).pickC (6:Int)).pickV (5:Int)),V.ref 1 0 0],[some (Blk.box [V.sl (Cd.int .u8) (((Cur.mk l a s).pickC (6:Int)).pickC (5 :
 Int)).l,V.j (((Cur.mk l a s).pickC (6:Int)).pickC (5:Int)).a,V.i .u64 (((Cur.mk l a s).pickC (6:Int)).pickC (5:Int)).s]),R0 LCd.rose
 (Ar LCd.rose.den)]))) (ifB ((Cur.mk l a s).pickV (6:Int)==(4:Int)) (ifB (decide (d>0)) (ifT (decide (i64.wrap (d-1)=d-1/\0<=d-1/\((Cur.mk l
 a s).pickC (6:Int)).good m)) (some (V.agg [V.j 4,V.s (Ar UInt8),V.j 0,V.b false,V.j 0,V.ref 1 0 1],[some (Blk.box [V.sl (Cd.int .u8) (f ((Cur.mk
 l a s).pickC (6:Int))).2.l,V.j (f ((Cur.mk l a s).pickC (6:Int))).2.a,V.i .u64 (f ((Cur.mk l a s).pickC (6:Int))).2.s]),R0 LCd.rose (Rose.node ((f ((Cur.mk l a s).pickC (6:Int))).1.lab.1,(f ((Cur.mk l a s).pickC (6:Int))).1.lab.2.1,(f ((Cur.mk l a s).pickC (6 :
 Int))).1.lab.2.2.1,(f ((Cur.mk l a s).pickC (6:Int))).1.lab.2.2.2.1,(f ((Cur.mk l a s).pickC (6:Int))).1.lab.2.2.2.2.1,()) (take
 (f ((Cur.mk l a s).pickC (6:Int))).1.kids.length (drop 0 (f ((Cur.mk l a s).pickC (6:Int))).1.kids))::Ar LCd.rose.den)]))) (some (V.agg [V.i
 .i64 1,V.s (Ar UInt8),V.j 0,V.b false,V.j 0,V.ref 1 0 0],[some (Blk.box [V.sl (Cd.int .u8) ((Cur.mk l a s).pickC (6:Int)).l,V.j ((Cur.mk l a
 s).pickC (6:Int)).a,V.i .u64 ((Cur.mk l a s).pickC (6:Int)).s]),R0 LCd.rose (Ar LCd.rose.den)]))) (ifB (decide (d>0)) (ifT (decide
 (i64.wrap (d-1)=d-1/\0<=d-1/\((Cur.mk l a s).pickC (6:Int)).good m)) (some (V.agg [V.j (g ((Cur.mk l a s).pickC (6:Int))).1.lab.1,V.s (g
 ((Cur.mk l a s).pickC (6:Int))).1.lab.2.1,V.j (g ((Cur.mk l a s).pickC (6:Int))).1.lab.2.2.1,V.b (g ((Cur.mk l a s).pickC (6 :
 Int))).1.lab.2.2.2.1,V.j (g ((Cur.mk l a s).pickC (6:Int))).1.lab.2.2.2.2.1,V.ref 1 0 (g ((Cur.mk l a s).pickC (6 :
 Int))).1.kids.length],[some (Blk.box [V.sl (Cd.int .u8) (g ((Cur.mk l a s).pickC (6:Int))).2.l,V.j (g ((Cur.mk l a s).pickC (6:Int))).2.a,V.i .u64 (g
 ((Cur.mk l a s).pickC (6:Int))).2.s]),R0 LCd.rose (g ((Cur.mk l a s).pickC (6:Int))).1.kids]))) (some (V.agg [V.j 1,V.s (Ar
 UInt8),V.j 0,V.b false,V.j 0,V.ref 1 0 0],[some (Blk.box [V.sl (Cd.int .u8) ((Cur.mk l a s).pickC (6:Int)).l,V.j ((Cur.mk l a s).pickC (6 :
 Int)).a,V.i .u64 ((Cur.mk l a s).pickC (6:Int)).s]),R0 LCd.rose (Ar LCd.rose.den)]))))))) (ifB ((Cur.mk l a s).pickV (6:Int)==(1:Int))
 (some (V.agg [V.j 1,V.s (Ar UInt8),V.j 0,V.b false,V.j 0,V.ref 1 0 0],[some (Blk.box [V.sl (Cd.int .u8) ((Cur.mk l a s).pickC (6:Int)).l,V.i
 .i64 ((Cur.mk l a s).pickC (6:Int)).a,V.i .u64 ((Cur.mk l a s).pickC (6:Int)).s]),R0 LCd.rose (Ar LCd.rose.den)])) (ifB ((Cur.mk l a
 s).pickV (6:Int)==(2:Int)) (some (V.agg [V.j 2,V.s (Ar UInt8),V.j 0,V.b false,V.j 0,V.ref 1 0 0],[some (Blk.box [V.sl (Cd.int .u8) ((Cur.mk l
 a s).pickC (6:Int)).l,V.j ((Cur.mk l a s).pickC (6:Int)).a,V.i .u64 ((Cur.mk l a s).pickC (6:Int)).s]),R0 LCd.rose (Ar
 LCd.rose.den)])) (ifB ((Cur.mk l a s).pickV (6:Int)==(3:Int)) (ifT (decide (((Cur.mk l a s).pickC (6:Int)).good (900000000:Int))) (some (V.agg [V.j 3,V.s
 (Ar UInt8),V.j 0,V.b false,V.j (((Cur.mk l a s).pickC (6:Int)).pickV (5:Int)),V.ref 1 0 0],[some (Blk.box [V.sl (Cd.int .u8) (((Cur.mk l a s).pickC
 (6:Int)).pickC (5:Int)).l,V.j (((Cur.mk l a s).pickC (6:Int)).pickC (5:Int)).a,V.i .u64 (((Cur.mk l a s).pickC (6:Int)).pickC (5:Int)).s]),R0 LCd.rose (Ar LCd.rose.den)]))) (ifB ((Cur.mk l a s).pickV (6:Int)==(4:Int)) (ifB (decide (d>0)) (ifT (decide (i64.wrap (d-1)=d
 - 1/\0<=d-1/\((Cur.mk l a s).pickC (6:Int)).good m)) (some (V.agg [V.j 4,V.s (Ar UInt8),V.j 0,V.b false,V.j 0,V.ref 1 0 1],[some (Blk.box
 [V.sl (Cd.int .u8) (f ((Cur.mk l a s).pickC (6:Int))).2.l,V.j (f ((Cur.mk l a s).pickC (6:Int))).2.a,V.i .u64 (f ((Cur.mk l a s).pickC (6:Int))).2.s]),
 R0 LCd.rose (Rose.node ((f ((Cur.mk l a s).pickC (6:Int))).1.lab.1,(f ((Cur.mk l a s).pickC (6:Int))).1.lab.2.1,(f ((Cur.mk l a
 s).pickC (6:Int))).1.lab.2.2.1,(f ((Cur.mk l a s).pickC (6:Int))).1.lab.2.2.2.1,(f ((Cur.mk l a s).pickC (6:Int))).1.lab.2.2.2.2.1,
 ()) (take (f ((Cur.mk l a s).pickC (6:Int))).1.kids.length (drop 0 (f ((Cur.mk l a s).pickC (6:Int))).1.kids))::Ar LCd.rose.den)]))) (some
 (V.agg [V.j 1,V.s (Ar UInt8),V.j 0,V.b false,V.j 0,V.ref 1 0 0],[some (Blk.box [V.sl (Cd.int .u8) ((Cur.mk l a s).pickC (6:Int)).l,V.i .i64
 ((Cur.mk l a s).pickC (6:Int)).a,V.i .u64 ((Cur.mk l a s).pickC (6:Int)).s]),R0 LCd.rose (Ar LCd.rose.den)]))) (ifB (decide (d>0)) (ifT
 (decide (i64.wrap (d-1)=d-1/\0<=d-1/\((Cur.mk l a s).pickC (6:Int)).good m)) (some (V.agg [V.j (g ((Cur.mk l a s).pickC (6:Int))).1.lab.1,
 V.s (g ((Cur.mk l a s).pickC (6:Int))).1.lab.2.1,V.j (g ((Cur.mk l a s).pickC (6:Int))).1.lab.2.2.1,V.b (g ((Cur.mk l a s).pickC (6 :
 Int))).1.lab.2.2.2.1,V.j (g ((Cur.mk l a s).pickC (6:Int))).1.lab.2.2.2.2.1,V.ref 1 0 (g ((Cur.mk l a s).pickC (6 :
 Int))).1.kids.length],[some (Blk.box [V.sl (Cd.int .u8) (g ((Cur.mk l a s).pickC (6:Int))).2.l,V.j (g ((Cur.mk l a s).pickC (6:Int))).2.a,V.i .u64 (g
 ((Cur.mk l a s).pickC (6:Int))).2.s]),R0 LCd.rose (g ((Cur.mk l a s).pickC (6:Int))).1.kids]))) (some (V.agg [V.j 1,V.s (Ar
 UInt8),V.j 0,V.b false,V.j 0,V.ref 1 0 0],[some (Blk.box [V.sl (Cd.int .u8) ((Cur.mk l a s).pickC (6:Int)).l,V.j ((Cur.mk l a s).pickC (6 :
 Int)).a,V.i .u64 ((Cur.mk l a s).pickC (6:Int)).s]),R0 LCd.rose (Ar LCd.rose.den)]))))))))):_):=by kernel_rfl
theorem NJ (d m m' q:Int) (f:Cur->Rose Lab×Cur) (o:Cur×RL×Nat×List (By)->RL×Cur) (l:List Int) (a s:Int):BX prog (Aa [(23,.own EY),(57,.own (Gu d m' f))]) (Aa [(3,EW d m q o)]) f43 [.ptr 0 0,.j d] [.box [.sl (.int .u8) l,.j a,.i .u64 s]] =
 ((ifT (decide (d=d/\(↑(5:Nat):Int)=(5:Int)/\(0:Int)<=(0:Int)/\(0:Int)<=(5:Int)/\0=0/\0<=0/\5=5
 /\ (Cur.mk l a s).good (m+0*q))&&([(97:UInt8)]::[(98:UInt8)]::[(110:UInt8),(97:UInt8),(109:UInt8),(101:UInt8)]::[(108:UInt8),(105:UInt8),
 (115:UInt8),(116:UInt8)]::[(107:UInt8),(105:UInt8),(110:UInt8),(100:UInt8)]::Ar Cd.str.den).all fun x=>decide (List.length x<=10)) (some
 (V.agg [V.j 5,V.s (Ar UInt8),V.j 0,V.b false,V.j 0,V.ref 1 0 (o (Cur.mk l a s,Ar LCd.rose.den,0,[(97:UInt8)]::[(98:UInt8)]::
 [(110:UInt8),(97:UInt8),(109:UInt8),(101:UInt8)]::[(108:UInt8),(105:UInt8),(115:UInt8),(116:UInt8)]::[(107:UInt8),(105:UInt8),(110 :
 UInt8),(100:UInt8)]::Ar Cd.str.den)).1.length],[some (Blk.box [V.sl (Cd.int .u8) (o (Cur.mk l a s,Ar LCd.rose.den,0,[(97:UInt8)]::[(98 :
 UInt8)]::[(110:UInt8),(97:UInt8),(109:UInt8),(101:UInt8)]::[(108:UInt8),(105:UInt8),(115:UInt8),(116:UInt8)]::[(107:UInt8),(105:UInt8),
 (110:UInt8),(100:UInt8)]::Ar Cd.str.den)).2.l,V.j (o (Cur.mk l a s,Ar LCd.rose.den,0,[(97:UInt8)]::[(98:UInt8)]::[(110:UInt8),(97
 : UInt8),(109:UInt8),(101:UInt8)]::[(108:UInt8),(105:UInt8),(115:UInt8),(116:UInt8)]::[(107:UInt8),(105:UInt8),(110:UInt8),(100:UInt8)]::
 Ar Cd.str.den)).2.a,V.i .u64 (o (Cur.mk l a s,Ar LCd.rose.den,0,[(97:UInt8)]::[(98:UInt8)]::[(110:UInt8),(97:UInt8),(109:UInt8),(101 :
 UInt8)]::[(108:UInt8),(105:UInt8),(115:UInt8),(116:UInt8)]::[(107:UInt8),(105:UInt8),(110:UInt8),(100:UInt8)]::Ar Cd.str.den)).2.s]),R0 LCd.rose (o (Cur.mk l a s,Ar LCd.rose.den,0,[(97:UInt8)]::[(98:UInt8)]::[(110:UInt8),(97:UInt8),(109:UInt8),(101 :
 UInt8)]::[(108:UInt8),(105:UInt8),(115:UInt8),(116:UInt8)]::[(107:UInt8),(105:UInt8),(110:UInt8),(100:UInt8)]::Ar Cd.str.den)).1]))):_):=by kernel_rfl
theorem Le : ∀ (ks:RL) (z:Rose Lab),Ai (ks++[z])=Ai ks+Af z
 | [],z=>by rw [List.nil_append,Ai,Ai,Ai]; omega
 | y::ks,z=>by rw [cons_append,Ai,Le ks z,Ai]; omega
theorem Pw (x:Lab) (h:x.2.1.length<=10) (n:Nat):drT (n+1) (.node x []):=by
 have hM:=mxI;exact ⟨by rw [Af,Ai]; omega,by rw [AX,CR,dcT (by omega)]; rfl⟩
theorem Qt {n:Nat} {z:Rose Lab} (h:drT n z):drT (n+1) (.node (4,[],0,false,0,()) [z]):=by
 obtain ⟨h1,h2⟩:=h;exact ⟨by rw [Af,Ai,Ai]; omega,by rw [AX,CR,CR,h2]; rfl⟩
theorem HS {n m:Nat} {z:Rose Lab} (h:drT n z) (hm:n<=m):drT m z:=⟨le_trans h.1 hm,h.2⟩
theorem MR {n:Nat} {z:Rose Lab} (h:drT n z):drT n (.node (z.lab.1,z.lab.2.1,z.lab.2.2.1,z.lab.2.2.2.1,z.lab.2.2.2.2.1,()) z.kids):=by cases z; exact h
theorem R3 {n:Nat} {z:Rose Lab} (h:drT n z) (x:Lab) (hx:x.2.1.length<=10):drT n (.node x z.kids):=by
 have hM:=mxI;obtain ⟨y,ks⟩:=z;obtain ⟨h1,h2⟩:=h;refine ⟨by rw [Af] at h1 ⊢; exact h1,?_⟩;rw [AX,anE] at h2 ⊢;exact ⟨dcT (by omega),h2.2⟩
theorem R2 (d m m' K:Int) (N:Nat) (h0:m+2<=m') (h1:m'<=800000000) (hK:0<=K) (hd:0<=d/\d<=100) (f g:Cur->Rose Lab×Cur) (pf:0<d->∀ c n,c.good n->n<=m'->(f c).2.good (n+K)/\drT N (f c).1) (pg:0<d->∀ c n,c.good n->n<=m'->(g c).2.good (n+K)/\drT N (g c).1)
    (l:List Int) (a s:Int) (hc:(Cur.mk l a s).good m):Ex1 (BX prog (Aa [(40,.own BD),(57,.own (Gu (d-1) m' f)),(43,.own (FU (d-1) m' g))]) (Aa []) f57 [.ptr 0 0,.j d] [.box [.sl (.int .u8) l,.j a,.i .u64 s]]) (fun y:Rose Lab×Cur=>((.agg [.j y.1.lab.1,.s y.1.lab.2.1,.j y.1.lab.2.2.1,.b y.1.lab.2.2.2.1,.j y.1.lab.2.2.2.2.1,.ref 1 0 y.1.kids.length],[some (cB y.2),R0 (.rose LCd) y.1.kids]):V×List (Option Blk))) (fun y=>∀ n,(Cur.mk l a s).good n->n<=m->y.2.good (n+(K+4))/\drT (N+1) y.1):=by
  refine Ex1.of (Pv d m' f g l a s) ?_;have w1:i64.wrap (d-1)=d-1:=Ba (by omega) (by omega);have g1:(Cur.mk l a s).good 900000000:=Cur.good_mono hc (by omega);have g2:((Cur.mk l a s).pickC 6).good 900000000:=Cur.pk (Cur.good_mono hc (by omega));have g3:((Cur.mk l a s).pickC 6).good m':=Cur.pk (Cur.good_mono hc (by omega));simp only [w1,SB,AH,drop_zero,take_length]
  repeat' first
    | ((with_reducible refine Ex1.B (fun h=>?_) (fun h=>?_)))
    | with_reducible refine Ex1.T ?_ ?_
  all_goals first
    | exact dcT g1
    | exact dcT g2
    | (refine dcT ⟨trivial,?_,g3⟩; have:=of_decide_eq_true ‹decide (d>0)=true›; omega)
    | (refine dcT ⟨rfl,?_,g3⟩; have:=of_decide_eq_true ‹decide (d>0)=true›; omega)
    | refine Ex1.P (.node (_,_,_,_,_,()) _,_) rfl rfl fun n hn hm=>⟨?_,?_⟩
  all_goals try first
    | exact Pw _ (by simp) _
    | exact Cur.good_mono (Cur.pickC_good hn) (by omega)
    | exact Cur.good_mono (Cur.pickC_good (Cur.pickC_good hn)) (by omega)
    | (have hp:=of_decide_eq_true ‹decide (d>0)=true›
       first
       | exact Cur.good_mono (pf hp _ _ (Cur.pickC_good hn) (by omega)).1 (by omega)
       | exact Cur.good_mono (pg hp _ _ (Cur.pickC_good hn) (by omega)).1 (by omega)
       | exact HS (MR (pg hp _ _ (Cur.pickC_good hn) (by omega)).2) (by omega)
       | exact Qt (MR (pf hp _ _ (Cur.pickC_good hn) (by omega)).2))
theorem Qu {ks:RL} {z:Rose Lab} {n m:Nat} (h1:Ai ks<=n) (h2:CR ks=true) (h:drT m z):Ai (ks++[z])<=n+m/\CR (ks++[z])=true:=by
 obtain ⟨h3,h4⟩:=h;exact ⟨by rw [Le]; omega,Hy _ _ h2 h4⟩
theorem NK (d m m' K:Int) (N:Nat) (h0:m+5*(K+4)<=m') (h1:m'<=800000000) (hK:0<=K) (hd:0<=d) (f:Cur->Rose Lab×Cur) (pf : ∀ c n,c.good n->n<=m'->(f c).2.good (n+K)/\drT N (f c).1) :
  ∀ x:Cur×RL×Nat×List (By),(x.1.good (m+(x.2.2.1:Int)*(K+4))/\x.2.2.1<=5/\x.2.1.length<=x.2.2.1/\x.2.2.2.length=5/\∀ z∈x.2.2.2,z.length<=10)->
   ∃ y:RL×Cur,(∀ o,Runs prog (Aa [(23,.own EY),(57,.own (Gu d m' f))]) (Aa [(3,EW d m (K+4) o)]) 1 (body f43 0) (EW d m (K+4) o) ((fun x:Cur×RL×Nat×List (By)=>([.ptr 0 0,.j d,.ptr 1 0,.ptr 2 0,.ref 3 0 5,.j 5,.j (x.2.2.1:Int)],[some (cB x.1),some (.box [.j 0,.s [],.j 0,.b false,.j 0,.ref 4 0 0]),some (.box [.j 5,.s [],.j 0,.b false,.j 0,.ref 5 0 x.2.1.length]),R0 .str x.2.2.2,R0 (.rose LCd) [],R0 (.rose LCd) x.2.1])) x) ((fun y:RL×Cur=>(((.exit 0:Ex),([.ptr 1 0,.ptr 2 0],[some (cB y.2),some (.box [.j 0,.s [],.j 0,.b false,.j 0,.ref 3 0 0]),some (.box [.j 5,.s [],.j 0,.b false,.j 0,.ref 4 0 y.1.length]),R0 (.rose LCd) [],R0 (.rose LCd) y.1])):Ex×Dt)) y).1 ((fun y:RL×Cur=>(((.exit 0:Ex),([.ptr 1 0,.ptr 2 0],[some (cB y.2),some (.box [.j 0,.s [],.j 0,.b false,.j 0,.ref 3 0 0]),some (.box [.j 5,.s [],.j 0,.b false,.j 0,.ref 4 0 y.1.length]),R0 (.rose LCd) [],R0 (.rose LCd) y.1])):Ex×Dt)) y).2)/\
    ((∀ n,x.1.good n->n<=m+(x.2.2.1:Int)*(K+4)->y.2.good (n+(5-(x.2.2.1:Int))*(K+4)))/\∀ n,Ai x.2.1<=n->CR x.2.1=true->Ai y.1<=n+(5-x.2.2.1)*N/\CR y.1=true):=by
 refine Kv (ι:=Cur×RL×Nat×List (By)->RL×Cur) (fun _=>([],Cur.mk [] 0 0)) (Λ:=fun o=>(Aa [(3,EW d m (K+4) o)])) (ent:=fun o=>EW d m (K+4) o) (fun x:Cur×RL×Nat×List (By)=>([.ptr 0 0,.j d,.ptr 1 0,.ptr 2 0,.ref 3 0 5,.j 5,.j (x.2.2.1:Int)],[some (cB x.1),some (.box [.j 0,.s [],.j 0,.b false,.j 0,.ref 4 0 0]),some (.box [.j 5,.s [],.j 0,.b false,.j 0,.ref 5 0 x.2.1.length]),R0 .str x.2.2.2,R0 (.rose LCd) [],R0 (.rose LCd) x.2.1])) (fun y:RL×Cur=>(((.exit 0:Ex),([.ptr 1 0,.ptr 2 0],[some (cB y.2),some (.box [.j 0,.s [],.j 0,.b false,.j 0,.ref 3 0 0]),some (.box [.j 5,.s [],.j 0,.b false,.j 0,.ref 4 0 y.1.length]),R0 (.rose LCd) [],R0 (.rose LCd) y.1])):Ex×Dt)) (fun y=>by simp) _ _ (fun x=>5-x.2.2.1) (fun o x _=>(Ed d m m' (K+4) f o 5 (x.2.2.1:Int) x.1.l x.1.a x.1.s x.2.1.length x.2.2.2 x.2.1).trans (Ed d m m' (K+4) f _ 5 (x.2.2.1:Int) x.1.l x.1.a x.1.s x.2.1.length x.2.2.2 x.2.1).symm) ?_
 rintro ⟨c,ks,i,nm⟩ ⟨hc,hi,hk,h5,hnm⟩
 dsimp only at hc hi hk h5 hnm ⊢;have hM:=mxI;have hq:0<=(i:Int)*(K+4):=Int.mul_nonneg (by omega) (by omega);have hq5:(i:Int)*(K+4)<=5*(K+4):=Int.mul_le_mul_of_nonneg_right (by omega) (by omega)
 by_cases h:i<5
 ·right;refine Ex1.of (Ed d m m' (K+4) f _ 5 (i:Int) c.l c.a c.s ks.length nm ks) ?_
  have hq4:(i:Int)*(K+4)+(K+4)<=5*(K+4):=by
   have:((i:Int)+1)*(K+4)<=5*(K+4):=Int.mul_le_mul_of_nonneg_right (by omega) (by omega);rw [Int.add_mul] at this; omega
  have e1:((i:Int)+1)*(K+4)=(i:Int)*(K+4)+(K+4):=by rw [Int.add_mul]; omega
  rw [Aj (dcT (by omega))];simp only [D2,show Cur.mk c.l c.a c.s=c from rfl,AE (n:=i) (by omega),AH,drop_zero,take_length,ntN,Nat.zero_add];have g0:c.good 900000000:=Cur.good_mono hc (by omega);have g1:(c.pickC 2).good m':=Cur.pk (Cur.good_mono hc (by omega));have pf1:=pf _ _ (Cur.pickC_good (k:=2) hc) (by omega);refine Ex1.T (by simp; omega) (Ex1.S ⟨nm[i],gtE (by omega)⟩ fun z hz=>Ex1.T (dcT g0) (Ex1.B (fun _=>?_) (fun _=>Ex1.T (dcT ⟨trivial,hd,g1⟩) (Ex1.T (dcT (Cur.good_mono pf1.1 (by omega))) (Ex1.T (by simp; omega) ?_)))))
  ·refine Ex1.P3 (c.pickC 2,ks,i+1,nm) rfl rfl rfl ⟨⟨?_,by dsimp only; omega,by dsimp only; omega,h5,hnm⟩,by dsimp only; omega,fun y hy=>⟨fun n hn hl=>?_,fun n hn hl=>?_⟩⟩
   ·exact Cur.good_mono (Cur.pickC_good hc) (by dsimp only; push_cast; rw [e1]; omega)
   ·refine Cur.good_mono (hy.1 (n+2) (Cur.pickC_good hn) (by dsimp only; push_cast; rw [e1]; omega)) ?_;dsimp only; push_cast; rw [show (5-((i:Int)+1))*(K+4)=(5-(i:Int))*(K+4)-(K+4) by rw [show (5-((i:Int)+1))=(5-(i:Int))-1 by omega,Int.sub_mul]; omega]; omega
   ·have:=hy.2 n hn hl;refine ⟨le_trans this.1 (Nat.add_le_add_left (Nat.mul_le_mul_right _ (by dsimp only; omega)) _),this.2⟩
  ·have hzl:z.length<=10:=hnm z (List.mem_of_getElem? hz);have dz:=R3 pf1.2 ((f (c.pickC 2)).1.lab.1,z,((i+1:Nat):Int),(f (c.pickC 2)).2.pickV 3==0,(f (c.pickC 2)).1.lab.2.2.2.2.1,()) hzl;refine Ex1.P3 ((f (c.pickC 2)).2.pickC 3,ks++[.node ((f (c.pickC 2)).1.lab.1,z,((i+1:Nat):Int),(f (c.pickC 2)).2.pickV 3==0,(f (c.pickC 2)).1.lab.2.2.2.2.1,()) (f (c.pickC 2)).1.kids],i+1,nm) (by simp) rfl rfl ⟨⟨?_,by dsimp only; omega,by simp; omega,h5,hnm⟩,by dsimp only; omega,fun y hy=>⟨fun n hn hl=>?_,fun n hn hl=>?_⟩⟩
   ·exact Cur.good_mono (Cur.pickC_good pf1.1) (by dsimp only; push_cast; rw [e1]; omega)
   ·refine Cur.good_mono (hy.1 (n+(K+4)) (Cur.good_mono (Cur.pickC_good (pf _ _ (Cur.pickC_good (k:=2) hn) (by omega)).1) (by omega)) (by dsimp only; push_cast; rw [e1]; omega)) ?_;dsimp only; push_cast; rw [show (5-((i:Int)+1))*(K+4)=(5-(i:Int))*(K+4)-(K+4) by rw [show (5-((i:Int)+1))=(5-(i:Int))-1 by omega,Int.sub_mul]; omega]; omega
   ·obtain ⟨q1,q2⟩:=Qu hn hl dz;have:=hy.2 (n+N) q1 q2;refine ⟨le_trans this.1 ?_,this.2⟩;dsimp only;rw [show 5-i=(5-(i+1))+1 by omega,Nat.add_mul]; omega
 ·left;refine Ex1.of (Ed d m m' (K+4) f _ 5 (i:Int) c.l c.a c.s ks.length nm ks) ?_;rw [Ah (dcF (by omega))];refine Ex1.L (ks,c) rfl ⟨fun n hn hl=>Cur.good_mono hn ?_,fun n hn hl=>⟨le_trans hn (Nat.le_add_right _ _),hl⟩⟩;have:(5-(i:Int))=0:=by omega
  rw [this]; omega
theorem Qr (d m m' K:Int) (N:Nat) (h0:m+2<=m') (h1:m'<=800000000) (hK:0<=K) (hd:0<=d/\d<=100) (f g:Cur->Rose Lab×Cur) (hf:Ab prog 57 (Ent.own (Gu (d-1) m' f)).F) (hg:Ab prog 43 (Ent.own (FU (d-1) m' g)).F) (pf:0<d->∀ c n,c.good n->n<=m'->(f c).2.good (n+K)/\drT N (f c).1) (pg:0<d->∀ c n,c.good n->n<=m'->(g c).2.good (n+K)/\drT N (g c).1) :
  ∃ h:Cur->Rose Lab×Cur,Ab prog 57 (Ent.own (Gu d m h)).F/\∀ c n,c.good n->n<=m->(h c).2.good (n+(K+4))/\drT (N+1) (h c).1:=by
 obtain ⟨h,hh⟩:=EI (Y:=Rose Lab×Cur) (.node (0,[],0,false,0,()) [],Cur.mk [] 0 0) (fun (c:Cur) (hc:c.good m)=>R2 d m m' K N h0 h1 hK hd f g pf pg c.l c.a c.s hc);refine ⟨h,?_,fun c n hc hn=>(hh c (Cur.good_mono hc hn)).2 n hc hn⟩;refine fcC (kc func40 HU (kc func57 hf (kc func43 hg KnowsL.nil))).knows (Λ:=Aa []) func57 fun vs bs r hq=>?_
 unfold Ent.F Gu at hq;dsimp only at hq;split at hq
 ·rename_i x l a s;obtain ⟨hc,hx⟩:=Ae hq;obtain ⟨rfl,_,hc⟩:=of_decide_eq_true hc;exact ⟨Aq _,(hh (Cur.mk l a s) hc).1.trans hx⟩
 ·cases hq
theorem Px (d m m' K:Int) (N:Nat) (h0:m+5*(K+4)<=m') (h1:m'<=100000000) (hK:0<=K) (hd:0<=d/\d<=100) (f:Cur->Rose Lab×Cur) (hf:Ab prog 57 (Ent.own (Gu d m' f)).F) (pf : ∀ c n,c.good n->n<=m'->(f c).2.good (n+K)/\drT N (f c).1) :
  ∃ h:Cur->Rose Lab×Cur,Ab prog 43 (Ent.own (FU d m h)).F/\∀ c n,c.good n->n<=m->(h c).2.good (n+5*(K+4))/\drT (5*N+1) (h c).1:=by
 obtain ⟨o,ho⟩:=EI (Y:=RL×Cur) ([],Cur.mk [] 0 0) (NK d m m' K N h0 (by omega) hK hd.1 f pf)
 have ex : ∀ c:Cur,c.good m->Ex1 (BX prog (Aa [(23,.own EY),(57,.own (Gu d m' f))]) (Aa [(3,EW d m (K+4) o)]) f43 [.ptr 0 0,.j d] [.box [.sl (.int .u8) c.l,.j c.a,.i .u64 c.s]]) (fun y:Rose Lab×Cur=>((.agg [.j y.1.lab.1,.s y.1.lab.2.1,.j y.1.lab.2.2.1,.b y.1.lab.2.2.2.1,.j y.1.lab.2.2.2.2.1,.ref 1 0 y.1.kids.length],[some (cB y.2),R0 (.rose LCd) y.1.kids]):V×List (Option Blk))) (fun y=>∀ n,c.good n->n<=m->y.2.good (n+5*(K+4))/\drT (5*N+1) y.1):=fun c hc=>by
  refine Ex1.of (NJ d m m' (K+4) f o c.l c.a c.s) ?_;have hI:(c.good (m+((0:Nat):Int)*(K+4))/\(0:Nat)<=5/\([]:RL).length<=0/\([[97],[98],[110,97,109,101],[108,105,115,116],[107,105,110,100]]:List (By)).length=5/\∀ z∈([[97],[98],[110,97,109,101],[108,105,115,116],[107,105,110,100]]:List (By)),z.length<=10):=⟨Cur.good_mono hc (by omega),by omega,by simp,rfl,by simp⟩
  have:=(ho (c,[],0,[[97],[98],[110,97,109,101],[108,105,115,116],[107,105,110,100]]) hI).2;refine Ex1.T (by simp only [anE,dcE]; exact ⟨⟨trivial,rfl,by omega,by omega,trivial,by omega,trivial,Cur.good_mono hc (by omega)⟩,by rfl⟩) ?_;refine Ex1.P (.node (5,[],0,false,0,()) (o (c,[],0,[[97],[98],[110,97,109,101],[108,105,115,116],[107,105,110,100]])).1,(o (c,[],0,[[97],[98],[110,97,109,101],[108,105,115,116],[107,105,110,100]])).2) rfl rfl fun n hn hm=>⟨?_,?_⟩
  ·exact Cur.good_mono (this.1 n hn (by dsimp only; omega)) (by dsimp only; omega)
  ·obtain ⟨q1,q2⟩:=this.2 0 (by dsimp only; rw [Ai]; omega) rfl;dsimp only at q1 q2;exact ⟨by dsimp only; rw [Af]; omega,by dsimp only; rw [AX,q2]; rfl⟩
 obtain ⟨h,hh⟩:=EI (Y:=Rose Lab×Cur) (.node (0,[],0,false,0,()) [],Cur.mk [] 0 0) ex;refine ⟨h,?_,fun c n hc hn=>(hh c (Cur.good_mono hc hn)).2 n hc hn⟩;refine fcC (kc func23 RD (kc func57 hf KnowsL.nil)).knows (Λ:=(Aa [(3,EW d m (K+4) o)])) func43 fun vs bs r hq=>?_
 unfold Ent.F FU at hq;dsimp only at hq;split at hq
 ·rename_i x l a s;obtain ⟨hc,hx⟩:=Ae hq;obtain ⟨rfl,_,hc⟩:=of_decide_eq_true hc;refine ⟨Aw (a:=body f43 0) (by kernel_rfl) fun d ex d' h=>?_,(hh (Cur.mk l a s) hc).1.trans hx⟩;unfold EW at h;dsimp only at h;split at h
  ·rename_i d0 k i l a s n nm ks;obtain ⟨hc,hx⟩:=Ae h;rw [anE] at hc;obtain ⟨hc,hall⟩:=hc;obtain ⟨rfl,rfl,q1,q2,rfl,q4,q5,q6⟩:=of_decide_eq_true hc;obtain ⟨i,rfl⟩:=eq_ofNat_of_zero_le q1;simp only [ntN] at q4 hx;obtain ⟨rfl,rfl⟩:=lfP hx;exact (ho (Cur.mk l a s,ks,i,nm) ⟨q6,by dsimp only; omega,q4,q5,fun z hz=>of_decide_eq_true (all_eq_true.1 hall z hz)⟩).1 o
  ·cases h
 ·cases hq
end Go.Proofs.Ytcgddnpfapcohaa.Den
