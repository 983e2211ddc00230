/- What functions of the program do, by the machine: Cur Cur2 Ex Base Sch1 Sch2 Sch3 Sch4 Sch5 Sch6 Sch7 Sch8 Sch9 Sch10 Sch11 Sch12 Sch13 Dr1. -/
import Derived.Test.YtckmoiopjocapaaGreatDen4
import Derived.KernelRfl
import Derived.Test.YtckmoiopjocapaaGreatRows
open Go.IntKind (i64)
open Go.Proofs.Tryz
open List (all_eq_true append_assoc append_nil cons_append drop drop_eq_getElem_cons drop_eq_nil_of_le drop_zero getElem_mem mem_cons mem_map mem_range range take take_length)
open Int (eq_ofNat_of_zero_le ofNat toNat toNat_zero)
open Nat (le_trans lt_succ_self strongRecOn)
open Option (map_some)
open Bool (decide_and)
namespace Go.Proofs.YtckmoiopjocapaaGreat.Den
open Go.Proofs
set_option maxRecDepth 100000
@[match_pattern] abbrev LCd:Cd:=.pair (.int .i64) (.pair .str (.pair (.int .i64) (.pair .bool (.pair (.int .i64) .unit))))
@[match_pattern] abbrev TCd:Cd:=.pair (.int .i64) (.pair .str (.pair (.int .i64) (.pair .bool (.pair (.int .i64) (.pair (.int .i64) .unit)))))
@[match_pattern] abbrev NCd:Cd:=.pair (.int .i64) (.pair .str (.pair (.int .i64) (.pair (.int .i64) (.pair .bool .unit))))
@[match_pattern] abbrev VCd:Cd:=.pair (.int .i64) (.pair .str (.pair (.int .i64) (.pair .bool .unit)))
@[match_pattern] abbrev WCd:Cd:=.pair (.int .i64) (.pair (.int .i64) (.pair (.int .i64) (.pair .str (.pair (.int .i64) (.pair (.int .i64) .unit)))))
@[match_pattern] abbrev NTd:Cd:=.pair .str (.pair (.int .i64) (.pair .str .unit))
@[match_pattern] abbrev FCd:Cd:=.pair (.int .i64) (.pair (.int .i64) (.pair (.int .i64) (.pair .str .unit)))
@[match_pattern] abbrev PCd:Cd:=.pair FCd (.pair (.int .i64) .unit)
@[match_pattern] abbrev TPd:Cd:=.pair .str (.pair (.pair (.slice TCd) .unit) (.pair (.int .i64) .unit))
@[match_pattern] abbrev FNd:Cd:=.pair (.int .i64) (.pair .str (.pair (.pair (.slice WCd) .unit) (.pair (.pair (.slice TCd) .unit) (.pair (.slice NTd) (.pair (.int .i64) .unit)))))
@[match_pattern] abbrev V.j (n:Int):V:=.i .i64 n
@[match_pattern] abbrev R0 (c:Cd) (l:List c.den):Option Blk:=some (.row false none c l)
@[match_pattern] abbrev D0 (c:Cd) (l:List c.den):Option Blk:=some (.drow c l none)
abbrev nF:Option (V×List (Option Blk)):=some (V.b false,[])
abbrev rF:Option (Ex×Dt):=some (Ex.ret,[V.b false],[])
abbrev Gm:=List V->List Blk->Br (V×List (Option Blk))
theorem dcT {p:Prop} [Decidable p] (h:p):decide p=true:=decide_eq_true h
theorem dcF {p:Prop} [Decidable p] (h : ¬p):decide p=false:=decide_eq_false h
theorem dcE {p:Prop} [Decidable p]:(decide p=true)=p:=decide_eq_true_eq
theorem anE (a b:Bool):((a&&b)=true)=(a=true/\b=true):=Bool.and_eq_true a b
theorem ntN (n:Nat):(n:Int).toNat=n:=Int.toNat_natCast n
theorem gtE {α:Type _} {l:List α} {i:Nat} (h:i<l.length):l[i]? = some l[i]:=List.getElem?_eq_getElem h
theorem kc {P:Program} {K:FuncId} {fn:Func} (hf:P.funcs[K]? = some fn) {e:Ent} {l:List (FuncId×Ent)} (h2:Ac P K e.F) (h:KnowsL P l) (hn:(fn.name == "runtime.NumGoroutine")=false:=by kernel_rfl) (hb:fn.body.isNone=false:=by kernel_rfl):KnowsL P ((K,e)::l):=.cons (UK hf hn hb) h2 h
theorem mxI:maxI=9223372036854775807:=rfl
theorem lfP {α β:Type} {a c:α} {b d:β} (h:(Br.leaf (a,b)).run=some (c,d)):a=c/\b=d:=Prod.mk.inj (Bk h)
section
variable {P:Program} {Γ:FuncId->Option Ent} {Λ:Nat->Option LoopEnt}
theorem stp {m:Nat} {a:Code} {ent:LoopEnt} {d:Dt} {e:Ex} {d':Dt} (h:Au P Γ Λ m a ent d=some (e,d')) (he:e≠.normal:=by simp):Runs P Γ Λ m a ent d e d':=.stop d e d' h he
theorem sts {m:Nat} {a:Code} {ent:LoopEnt} {d d1:Dt} {e:Ex} {d':Dt} (h:Au P Γ Λ m a ent d=some (.normal,d1)) (hr:Runs P Γ Λ m a ent d1 e d'):Runs P Γ Λ m a ent d e d':=.step d d1 e d' h hr
theorem fcC (hG:Knows P Γ) {K:FuncId} {fn:Func} (hf:P.funcs[K]? = some fn) {F:List V->List Blk->Option (V×List (Option Blk))} (hF : ∀ vs bs r,F vs bs=some r->Aw P Γ Λ bs.length (fn.body.getD .skip)/\Bm P Γ Λ fn vs bs=some r) (hb:fn.body=some (fn.body.getD .skip):=by kernel_rfl):Ac P K F:=BY hG hf hb fun vs bs r h _ _=>hF vs bs r h
theorem fcN (hG:Knows P Γ) {K:FuncId} {fn:Func} (hf:P.funcs[K]? = some fn) {F:List V->List Blk->Option (V×List (Option Blk))} (hF : ∀ vs bs r,F vs bs=some r->Aw P Γ Λ bs.length (fn.body.getD .skip)/\Cx P Γ Λ fn vs bs=some r) (hb:fn.body=some (fn.body.getD .skip):=by kernel_rfl):Ac P K F:=LB hG hf hb fun vs bs r h _ _=>hF vs bs r h
theorem fcK (hG:Knows P Γ) {K:FuncId} {fn:Func} (hf:P.funcs[K]? = some fn) {F:List V->List Blk->Option (V×List (Option Blk))} (hF : ∀ vs bs r,F vs bs=some r->Aw P Γ Λ bs.length (fn.body.getD .skip)/\AT P Γ Λ fn vs bs=some r) (hb:fn.body=some (fn.body.getD .skip):=by kernel_rfl):Ac P K F:=Da hG hf hb fun vs bs r h _ _=>hF vs bs r h
end
theorem T2 {β:Type} {A B:Prop} [Decidable A] [Decidable B] {k:Option β} (h:A/\B):ifT (decide A&&decide B) k=k:=Ab (by rw [decide_eq_true h.1,decide_eq_true h.2]; rfl)
@[match_pattern] abbrev Lt (a:Int) (b:List UInt8) (c:Int) (d:Bool) (e:Int) (f:List (Cd.rose LCd).den):List V:=[.i .i64 a,.s b,.i .i64 c,.b d,.i .i64 e,.sl (.rose LCd) f]
@[match_pattern] abbrev Lv (a:Int) (b:List UInt8) (c:Int) (d:Bool) (f:List (Cd.rose VCd).den):List V:=[.i .i64 a,.s b,.i .i64 c,.b d,.sl (.rose VCd) f]
@[match_pattern] abbrev Lf (a:Int) (b:List UInt8) (c:List WCd.den) (d:List TCd.den) (e:List NTd.den) (f:Int):List V:=[.i .i64 a,.s b,.sl WCd c,.sl TCd d,.sl NTd e,.i .i64 f]
@[match_pattern] abbrev Lw (a b c:Int) (d:List UInt8) (e f:Int):List V:=[.i .i64 a,.i .i64 b,.i .i64 c,.s d,.i .i64 e,.i .i64 f]
@[match_pattern] abbrev Ly (a:Int) (b:List UInt8) (c:Int) (d:Bool) (e f:Int):List V:=[.i .i64 a,.s b,.i .i64 c,.b d,.i .i64 e,.i .i64 f]
abbrev By:=List UInt8
abbrev RL:=List (Rose (Int×List UInt8×Int×Bool×Int×Unit))
abbrev RVL:=List (Rose (Int×List UInt8×Int×Bool×Unit))
structure Cur where
 l:List Int
 a:Int
 s:Int
def Cur.byte (c:Cur):Int:=if c.a<c.l.length then i64.wrap (c.l.getD c.a.toNat 0) else 0
def Cur.seed (c:Cur):Int:=IntKind.u64.wrap (IntKind.u64.wrap (IntKind.u64.wrap (c.s*6364136223846793005)+IntKind.u64.wrap c.byte)+1442695040888963407)
def Cur.val (c:Cur):Int:=if c.a+1<=c.l.length then c.byte else i64.wrap (IntKind.u64.wrap (((BitVec.ofInt IntKind.u64.bits (c.seed.fdiv ((2:Int) ^ min 40 IntKind.u64.bits)) &&& BitVec.ofInt IntKind.u64.bits 255).toNat:Nat):Int))
def Cur.adv (c:Cur):Cur:=⟨c.l,c.a+1,c.seed⟩
def Cur.good (c:Cur) (n:Int):Prop:=(∀ z∈c.l,0<=z/\z<=255)/\0<=c.a/\c.a<=n
instance (c:Cur) (n:Int):Decidable (c.good n):=by unfold Cur.good; exact inferInstance
def Cur.pickV (c:Cur) (n:Int):Int:=if n<=1 then 0 else if n>200 then (c.val*256+c.adv.val).tmod n else c.val.tmod n
def Cur.pickC (c:Cur) (n:Int):Cur:=if n<=1 then c else if n>200 then c.adv.adv else c.adv
def OR:Gm
 | [.ptr 0 0],[.box [.sl (.int .u8) l,.j a,.i .u64 s]]=>.need (decide ((Cur.mk l a s).good 1000000000)) (.leaf (.j (Cur.mk l a s).val,[some (.box [.sl (.int .u8) (Cur.mk l a s).adv.l,.j (Cur.mk l a s).adv.a,.i .u64 (Cur.mk l a s).adv.s])]))
 | _,_=>.no
theorem Cur.byte_range {c:Cur} {n:Int} (h:c.good n):0<=c.byte/\c.byte<=255:=by
 unfold Cur.byte;split
 ·rename_i ha;have h0:=h.2.1;have hi:c.a.toNat<c.l.length:=by omega
  have hz:=h.1 _ (getElem_mem hi);have eg:c.l.getD c.a.toNat 0=c.l[c.a.toNat]:=by simp [hi]
  rw [eg,Av (by omega) (by omega)];exact hz
 ·omega
theorem Cur.val_range {c:Cur} {n:Int} (h:c.good n):0<=c.val/\c.val<=255:=by
 unfold Cur.val;split
 ·exact Cur.byte_range h
 ·generalize BitVec.ofInt IntKind.u64.bits (c.seed.fdiv ((2:Int) ^ min 40 IntKind.u64.bits))=x
  have hx:(x &&& BitVec.ofInt IntKind.u64.bits 255).toNat<=255:=by
   rw [BitVec.toNat_and];exact le_trans Nat.and_le_right (by decide)
  generalize (x &&& BitVec.ofInt IntKind.u64.bits 255).toNat=m at hx
  have e1:IntKind.u64.wrap (m:Int)=(m:Int):=by
   unfold IntKind.wrap;simp [IntKind.bits,IntKind.signed];omega
  rw [e1,Av (by omega) (by omega)];omega
theorem Cur.adv_good {c:Cur} {n:Int} (h:c.good n):c.adv.good (n+1):=⟨h.1,by show 0<=c.a+1; have:=h.2.1; omega,by show c.a+1<=n+1; have:=h.2.2; omega⟩
theorem Cur.good_mono {c:Cur} {n m:Int} (h:c.good n) (hm:n<=m):c.good m:=⟨h.1,h.2.1,by have:=h.2.2; omega⟩
theorem Cur.pickC_good {c:Cur} {n k:Int} (h:c.good n):(c.pickC k).good (n+2):=by
 unfold Cur.pickC;split
 ·exact Cur.good_mono h (by omega)
 ·split
  ·have:=Cur.adv_good (Cur.adv_good h);exact Cur.good_mono this (by omega)
  ·exact Cur.good_mono (Cur.adv_good h) (by omega)
theorem Cur.pickV_range {c:Cur} {n k:Int} (h:c.good n) (hk:1<=k):0<=c.pickV k/\c.pickV k<k:=by
 have h1:=Cur.val_range h;have h2:=Cur.val_range (Cur.adv_good h);unfold Cur.pickV;split
 ·omega
 ·split
  ·rw [Int.tmod_eq_emod_of_nonneg (by omega)];exact ⟨Int.emod_nonneg _ (by omega),Int.emod_lt_of_pos _ (by omega)⟩
  ·rw [Int.tmod_eq_emod_of_nonneg (by omega)];exact ⟨Int.emod_nonneg _ (by omega),Int.emod_lt_of_pos _ (by omega)⟩
theorem Vi (l:List Int) (a s:Int) (hc:(Cur.mk l a s).good 1000000000):AT prog (Aa []) (Aa []) f133 [.ptr 0 0] [.box [.sl (.int .u8) l,.j a,.i .u64 s]]=(.leaf (.j (Cur.mk l a s).val,[some (.box [.sl (.int .u8) (Cur.mk l a s).adv.l,.j (Cur.mk l a s).adv.a,.i .u64 (Cur.mk l a s).adv.s])]):Br (V×List (Option Blk))).run:=by
 have e:AT prog (Aa []) (Aa []) f133 [.ptr 0 0] [.box [.sl (.int .u8) l,.j a,.i .u64 s]] =
  ((ifB (decide (a<(↑l.length:Int))) (ifT (decide (0<=a)&&decide (a<(↑l.length:Int))) (An l[a.toNat]? fun z=>ifB (decide (i64.wrap (a+1)<=
 (↑l.length:Int))) (some (V.j (i64.wrap z),[some (Blk.box [V.sl (Cd.int .u8) l,V.j (i64.wrap (a+1)),V.i .u64 (IntKind.u64.wrap
 (IntKind.u64.wrap (IntKind.u64.wrap (s*6364136223846793005)+IntKind.u64.wrap (i64.wrap z))+(1442695040888963407:Int)))])])) (some (V.i .i64
 (i64.wrap (IntKind.u64.wrap (↑(BitVec.ofInt IntKind.u64.bits ((IntKind.u64.wrap (IntKind.u64.wrap (IntKind.u64.wrap (s*6364136223846793005)+IntKind.u64.wrap
 (i64.wrap z))+(1442695040888963407:Int))).fdiv ((2:Int) ^ min 40 IntKind.u64.bits)) &&& BitVec.ofInt IntKind.u64.bits (255:Int)).toNat:Int))),
 [some (Blk.box [V.sl (Cd.int .u8) l,V.j (i64.wrap (a+1)),V.i .u64 (IntKind.u64.wrap (IntKind.u64.wrap (IntKind.u64.wrap (s*6364136223846793005) +
 IntKind.u64.wrap (i64.wrap z))+(1442695040888963407:Int)))])])))) (ifB (decide (i64.wrap (a+1)<=(↑l.length:Int))) (some (V.j 0,[some
 (Blk.box [V.sl (Cd.int .u8) l,V.j (i64.wrap (a+1)),V.i .u64 (IntKind.u64.wrap (IntKind.u64.wrap (IntKind.u64.wrap (s*6364136223846793005) +
 IntKind.u64.wrap (0:Int))+(1442695040888963407:Int)))])])) (some (V.j (i64.wrap (IntKind.u64.wrap (↑(BitVec.ofInt IntKind.u64.bits ((IntKind.u64.wrap
 (IntKind.u64.wrap (IntKind.u64.wrap (s*6364136223846793005)+IntKind.u64.wrap (0:Int))+(1442695040888963407:Int))).fdiv ((2:Int) ^ min 40
 IntKind.u64.bits)) &&& BitVec.ofInt IntKind.u64.bits (255:Int)).toNat:Int))),[some (Blk.box [V.sl (Cd.int .u8) l,V.j (i64.wrap (a+1)),V.i .u64
 (IntKind.u64.wrap (IntKind.u64.wrap (IntKind.u64.wrap (s*6364136223846793005)+IntKind.u64.wrap (0:Int))+(1442695040888963407:Int)))])])))):_):=by kernel_rfl
 rw [e];clear e;have h0:=hc.2.1;have h1:=hc.2.2;dsimp only at h0 h1;rw [Av (n:=a+1) (by omega) (by omega)]
 by_cases q:a<(l.length:Int)
 ·have hi:a.toNat<l.length:=by omega
  have eb:(Cur.mk l a s).byte=i64.wrap l[a.toNat]:=by unfold Cur.byte; dsimp only; rw [if_pos q]; simp [hi]
  have q1:a+1<=(l.length:Int):=by omega
  rw [Af (dcT q),T2 (by omega),gtE hi,Ap,Af (dcT q1),<-eb];have ev:(Cur.mk l a s).val=(Cur.mk l a s).byte:=by unfold Cur.val; dsimp only; rw [if_pos q1]
  rw [ev];rfl
 ·have eb:(Cur.mk l a s).byte=0:=by unfold Cur.byte; dsimp only; rw [if_neg q]
  have q1 : ¬a+1<=(l.length:Int):=by omega
  rw [Ae (dcF q),Ae (dcF q1),<-eb];have ev:(Cur.mk l a s).val=i64.wrap (IntKind.u64.wrap (((BitVec.ofInt IntKind.u64.bits ((Cur.mk l a s).seed.fdiv ((2:Int) ^ min 40 IntKind.u64.bits)) &&& BitVec.ofInt IntKind.u64.bits 255).toNat:Nat):Int)):=by unfold Cur.val; dsimp only; rw [if_neg q1]
  rw [ev];rfl
theorem Af9:Ac prog 133 (Ent.own OR).F:=by
 refine fcK KnowsL.nil.knows (Λ:=Aa []) func133 fun vs bs r h=>?_
 unfold Ent.F OR at h;dsimp only at h;split at h
 ·rename_i l a s;obtain ⟨hc,h⟩:=Ad h;exact ⟨Ao _,(Vi l a s (of_decide_eq_true hc)).trans h⟩
 ·cases h
def Bp:Gm
 | [.ptr 0 0,.j n],[.box [.sl (.int .u8) l,.j a,.i .u64 s]]=>.need (decide ((Cur.mk l a s).good 900000000)) (.leaf (.j ((Cur.mk l a s).pickV n),[some (.box [.sl (.int .u8) ((Cur.mk l a s).pickC n).l,.j ((Cur.mk l a s).pickC n).a,.i .u64 ((Cur.mk l a s).pickC n).s])]))
 | _,_=>.no
def CT:Gm
 | [.ptr 0 0,.j n],[.box [.sl (.int .u8) l,.j a,.i .u64 s]]=>.need (decide ((Cur.mk l a s).good 900000000)) (.leaf (.b ((Cur.mk l a s).pickV n==0),[some (.box [.sl (.int .u8) ((Cur.mk l a s).pickC n).l,.j ((Cur.mk l a s).pickC n).a,.i .u64 ((Cur.mk l a s).pickC n).s])]))
 | _,_=>.no
def Hb:Gm
 | [.ptr 0 0,.ref 1 p m],[.box [.sl (.int .u8) l,.j a,.i .u64 s],.row false nl (.int .i64) r]=>.need (decide ((Cur.mk l a s).good 900000000/\1<=m/\p+m<=r.length)) (.leaf (.j (r.getD (p+((Cur.mk l a s).pickV m).toNat) 0),[some (.box [.sl (.int .u8) ((Cur.mk l a s).pickC m).l,.j ((Cur.mk l a s).pickC m).a,.i .u64 ((Cur.mk l a s).pickC m).s]),some (.row false nl (.int .i64) r)]))
 | _,_=>.no
def MH:Gm
 | [.ptr 0 0,.ref 1 p m],[.box [.sl (.int .u8) l,.j a,.i .u64 s],.row false nl .str r]=>.need (decide ((Cur.mk l a s).good 900000000/\1<=m/\p+m<=r.length)) (.leaf (.s (r.getD (p+((Cur.mk l a s).pickV m).toNat) []),[some (.box [.sl (.int .u8) ((Cur.mk l a s).pickC m).l,.j ((Cur.mk l a s).pickC m).a,.i .u64 ((Cur.mk l a s).pickC m).s]),some (.row false nl .str r)]))
 | _,_=>.no
theorem Vh (n:Int) (l:List Int) (a s:Int) (hc:(Cur.mk l a s).good 900000000):AT prog (Aa [(133,.own OR)]) (Aa []) f90 [.ptr 0 0,.j n] [.box [.sl (.int .u8) l,.j a,.i .u64 s]]=(.leaf (.j ((Cur.mk l a s).pickV n),[some (.box [.sl (.int .u8) ((Cur.mk l a s).pickC n).l,.j ((Cur.mk l a s).pickC n).a,.i .u64 ((Cur.mk l a s).pickC n).s])]):Br (V×List (Option Blk))).run:=by
 have e:AT prog (Aa [(133,.own OR)]) (Aa []) f90 [.ptr 0 0,.j n] [.box [.sl (.int .u8) l,.j a,.i .u64 s]] =
  ((ifB (decide (n<=1)) (some (V.j 0,[some (Blk.box [V.sl (Cd.int .u8) l,V.j a,V.i .u64 s])])) (ifT (decide ((Cur.mk l a s).good (1000000000:Int))) (ifB
 (decide (n>200)) (ifT (decide ((Cur.mk l a s).adv.good (1000000000:Int))) (ifT (!decide (n=0)) (some (V.j ((i64.wrap (i64.wrap ((Cur.mk l a
 s).val*(256:Int))+(Cur.mk l a s).adv.val)).tmod n),[some (Blk.box [V.sl (Cd.int .u8) (Cur.mk l a s).adv.adv.l,V.j (Cur.mk l a s).adv.adv.a,V.i .u64 (Cur.mk
 l a s).adv.adv.s])])))) (ifT (!decide (n=0)) (some (V.j ((Cur.mk l a s).val.tmod n),[some (Blk.box [V.sl (Cd.int .u8) (Cur.mk l a s).adv.l,V.j (Cur.mk l a
 s).adv.a,V.i .u64 (Cur.mk l a s).adv.s])])))))):_):=by kernel_rfl
 rw [e];clear e;have g0:(Cur.mk l a s).good 1000000000:=Cur.good_mono hc (by omega);have g1:(Cur.mk l a s).adv.good 1000000000:=Cur.good_mono (Cur.adv_good hc) (by omega);have r0:=Cur.val_range g0;have r1:=Cur.val_range g1;unfold Cur.pickV Cur.pickC
 try rw [show Cur.mk (Cur.mk l a s).adv.l (Cur.mk l a s).adv.a (Cur.mk l a s).adv.s=(Cur.mk l a s).adv from rfl]
 by_cases q:n<=1
 ·rw [Af (dcT q),if_pos q,if_pos q]; rfl
 ·rw [Ae (dcF q),Ab (dcT g0),if_neg q,if_neg q]
  by_cases q2:n>200
  ·rw [Af (dcT q2),Ab (dcT g1),Ab (by simp; omega),if_pos q2,if_pos q2,Av (n:=(Cur.mk l a s).val*256) (by omega) (by omega),Av (by omega) (by omega)]; rfl
  ·rw [Ae (dcF q2),Ab (by simp; omega),if_neg q2,if_neg q2]; rfl
theorem GD:Ac prog 90 (Ent.own Bp).F:=by
 refine fcK (kc func133 Af9 KnowsL.nil).knows (Λ:=Aa []) func90 fun vs bs r h=>?_
 unfold Ent.F Bp at h;dsimp only at h;split at h
 ·rename_i n l a s;obtain ⟨hc,h⟩:=Ad h;exact ⟨Ao _,(Vh n l a s (of_decide_eq_true hc)).trans h⟩
 ·cases h
theorem Yk (n:Int) (l:List Int) (a s:Int) (hc:(Cur.mk l a s).good 900000000):AT prog (Aa [(90,.own Bp)]) (Aa []) f67 [.ptr 0 0,.j n] [.box [.sl (.int .u8) l,.j a,.i .u64 s]]=(.leaf (.b ((Cur.mk l a s).pickV n==0),[some (.box [.sl (.int .u8) ((Cur.mk l a s).pickC n).l,.j ((Cur.mk l a s).pickC n).a,.i .u64 ((Cur.mk l a s).pickC n).s])]):Br (V×List (Option Blk))).run:=by
 have e:AT prog (Aa [(90,.own Bp)]) (Aa []) f67 [.ptr 0 0,.j n] [.box [.sl (.int .u8) l,.j a,.i .u64 s]] =
  ((ifT (decide ((Cur.mk l a s).good (900000000:Int))) (some (V.b ((Cur.mk l a s).pickV n==0),[some (Blk.box [V.sl (Cd.int .u8) ((Cur.mk l a s).pickC n).l,V.i .i64
 ((Cur.mk l a s).pickC n).a,V.i .u64 ((Cur.mk l a s).pickC n).s])]))):_):=by kernel_rfl
 rw [e,Ab (dcT hc)];rfl
theorem Sv:Ac prog 67 (Ent.own CT).F:=by
 refine fcK (kc func90 GD KnowsL.nil).knows (Λ:=Aa []) func67 fun vs bs r h=>?_
 unfold Ent.F CT at h;dsimp only at h;split at h
 ·rename_i n l a s;obtain ⟨hc,h⟩:=Ad h;exact ⟨Ao _,(Yk n l a s (of_decide_eq_true hc)).trans h⟩
 ·cases h
theorem Sx (p m:Nat) (l:List Int) (a s:Int) (nl:Option Bool) (r:List Int) (hc:(Cur.mk l a s).good 900000000/\1<=m/\p+m<=r.length):AT prog (Aa [(90,.own Bp)]) (Aa []) f107 [.ptr 0 0,.ref 1 p m] [.box [.sl (.int .u8) l,.j a,.i .u64 s],.row false nl (.int .i64) r]=(.leaf (.j (r.getD (p+((Cur.mk l a s).pickV m).toNat) 0),[some (.box [.sl (.int .u8) ((Cur.mk l a s).pickC m).l,.j ((Cur.mk l a s).pickC m).a,.i .u64 ((Cur.mk l a s).pickC m).s]),some (.row false nl (.int .i64) r)]):Br (V×List (Option Blk))).run:=by
 have e:AT prog (Aa [(90,.own Bp)]) (Aa []) f107 [.ptr 0 0,.ref 1 p m] [.box [.sl (.int .u8) l,.j a,.i .u64 s],.row false nl (.int .i64) r] =
  ((ifT (decide ((Cur.mk l a s).good (900000000:Int))) (ifT (decide ((0:Int)<=(Cur.mk l a s).pickV (↑m:Int))&&decide ((Cur.mk l a s).pickV (↑m:Int)<(↑m:Int)))
 (An r[p+((Cur.mk l a s).pickV (↑m:Int)).toNat]? fun z=>some (V.j z,[some (Blk.box [V.sl (Cd.int .u8) ((Cur.mk l a s).pickC (↑m:Int)).l,V.i .i64
 ((Cur.mk l a s).pickC (↑m:Int)).a,V.i .u64 ((Cur.mk l a s).pickC (↑m:Int)).s]),some (Blk.row false nl (Cd.int .i64) r)])))):_):=by kernel_rfl
 obtain ⟨h1,h2,h3⟩:=hc;have hr:=Cur.pickV_range (k:=(m:Int)) h1 (by omega);have hi:p+((Cur.mk l a s).pickV m).toNat<r.length:=by omega
 have eg:r.getD (p+((Cur.mk l a s).pickV m).toNat) 0=r[p+((Cur.mk l a s).pickV m).toNat]:=by simp [hi]
 rw [e,Ab (dcT h1),T2 (by omega),gtE hi,Ap,eg];rfl
theorem Ym:Ac prog 107 (Ent.own Hb).F:=by
 refine fcK (kc func90 GD KnowsL.nil).knows (Λ:=Aa []) func107 fun vs bs r h=>?_
 unfold Ent.F Hb at h;dsimp only at h;split at h
 ·rename_i p m l a s nl r;obtain ⟨hc,h⟩:=Ad h;exact ⟨Ao _,(Sx p m l a s nl r (of_decide_eq_true hc)).trans h⟩
 ·cases h
theorem Aas (p m:Nat) (l:List Int) (a s:Int) (nl:Option Bool) (r:List (By)) (hc:(Cur.mk l a s).good 900000000/\1<=m/\p+m<=r.length):AT prog (Aa [(90,.own Bp)]) (Aa []) f92 [.ptr 0 0,.ref 1 p m] [.box [.sl (.int .u8) l,.j a,.i .u64 s],.row false nl .str r]=(.leaf (.s (r.getD (p+((Cur.mk l a s).pickV m).toNat) []),[some (.box [.sl (.int .u8) ((Cur.mk l a s).pickC m).l,.j ((Cur.mk l a s).pickC m).a,.i .u64 ((Cur.mk l a s).pickC m).s]),some (.row false nl .str r)]):Br (V×List (Option Blk))).run:=by
 have e:AT prog (Aa [(90,.own Bp)]) (Aa []) f92 [.ptr 0 0,.ref 1 p m] [.box [.sl (.int .u8) l,.j a,.i .u64 s],.row false nl .str r] =
  ((ifT (decide ((Cur.mk l a s).good (900000000:Int))) (ifT (decide ((0:Int)<=(Cur.mk l a s).pickV (↑m:Int))&&decide ((Cur.mk l a s).pickV (↑m:Int)<(↑m:Int)))
 (An r[p+((Cur.mk l a s).pickV (↑m:Int)).toNat]? fun z=>some (V.s z,[some (Blk.box [V.sl (Cd.int .u8) ((Cur.mk l a s).pickC (↑m:Int)).l,V.j ((Cur.mk l a
 s).pickC (↑m:Int)).a,V.i .u64 ((Cur.mk l a s).pickC (↑m:Int)).s]),some (Blk.row false nl Cd.str r)])))):_):=by kernel_rfl
 obtain ⟨h1,h2,h3⟩:=hc;have hr:=Cur.pickV_range (k:=(m:Int)) h1 (by omega);have hi:p+((Cur.mk l a s).pickV m).toNat<r.length:=by omega
 have eg:r.getD (p+((Cur.mk l a s).pickV m).toNat) []=r[p+((Cur.mk l a s).pickV m).toNat]:=by simp [hi]
 rw [e,Ab (dcT h1),T2 (by omega),gtE hi,Ap,eg];rfl
theorem cof:Ac prog 92 (Ent.own MH).F:=by
 refine fcK (kc func90 GD KnowsL.nil).knows (Λ:=Aa []) func92 fun vs bs r h=>?_
 unfold Ent.F MH at h;dsimp only at h;split at h
 ·rename_i p m l a s nl r;obtain ⟨hc,h⟩:=Ad h;exact ⟨Ao _,(Aas p m l a s nl r (of_decide_eq_true hc)).trans h⟩
 ·cases h
def shr {α β:Type} (a:α) (k:α->β):β:=k a
def Ex1 {β Y:Type} (t:Option β) (sh:Y->β) (Q:Y->Prop):Prop:=∃ y,t=some (sh y)/\Q y
def cB (c:Cur):Blk:=.box [.sl (.int .u8) c.l,.j c.a,.i .u64 c.s]
theorem BS (c:Cur):Blk.box [V.sl (Cd.int IntKind.u8) c.l,V.i i64 c.a,V.i IntKind.u64 c.s]=cB c:=rfl
theorem Agb (l:List Int) (a s:Int):Blk.box [V.sl (Cd.int IntKind.u8) l,V.i i64 a,V.i IntKind.u64 s]=cB (Cur.mk l a s):=rfl
theorem Cur.pk {c:Cur} {m k:Int} (h:c.good (m-2)):(c.pickC k).good m:=by
 have:=Cur.pickC_good (k:=k) h
 rwa [Int.sub_add_cancel] at this
theorem Ex1.sh {α β Y:Type} {a:α} {k:α->Option β} {sh:Y->β} {Q:Y->Prop} (h:Ex1 (k a) sh Q):Ex1 (shr a k) sh Q:=h
theorem Ex1.T {β Y:Type} {c:Bool} {x:Option β} {sh:Y->β} {Q:Y->Prop} (h:c=true) (k:Ex1 x sh Q):Ex1 (ifT c x) sh Q:=by subst h; exact k
theorem Ex1.B {β Y:Type} {c:Bool} {x y:Option β} {sh:Y->β} {Q:Y->Prop} (h1:c=true->Ex1 x sh Q) (h2:c=false->Ex1 y sh Q):Ex1 (ifB c x y) sh Q:=by
 cases c with
 | true=>exact h1 rfl
 | false=>exact h2 rfl
theorem Ex1.S {α β Y:Type} {o:Option α} {k:α->Option β} {sh:Y->β} {Q:Y->Prop} (h : ∃ z,o=some z) (hk : ∀ z,o=some z->Ex1 (k z) sh Q):Ex1 (An o k) sh Q:=by
 obtain ⟨z,rfl⟩:=h;exact hk z rfl
theorem Ex1.L {β Y:Type} {b:β} {sh:Y->β} {Q:Y->Prop} (y:Y) (h:b=sh y) (q:Q y):Ex1 (some b) sh Q:=⟨y,by rw [h],q⟩
theorem Ex1.P {α β Y:Type} {a:α} {b:β} {sh:Y->α×β} {Q:Y->Prop} (y:Y) (h2:b=(sh y).2) (h1:a=(sh y).1) (q:Q y):Ex1 (some (a,b)) sh Q:=⟨y,by rw [h1,h2],q⟩
theorem Ex1.P3 {α β γ Y:Type} {a:α} {b:β} {c:γ} {sh:Y->α×β×γ} {Q:Y->Prop} (y:Y) (h3:c=(sh y).2.2) (h2:b=(sh y).2.1) (h1:a=(sh y).1) (q:Q y):Ex1 (some (a,b,c)) sh Q:=⟨y,by rw [h1,h2,h3],q⟩
theorem Ex1.c {Y:Type} {v:V} {c:Cur} {B:List (Option Blk)} {s1:Y×Cur->V} {s2:Y×Cur->List (Option Blk)} {Q:Y×Cur->Prop} (y:Y) (h2:B=s2 (y,c)) (h1:v=s1 (y,c)) (q:Q (y,c)):Ex1 (some (v,some (cB c)::B)) (fun y=>(s1 y,some (cB y.2)::s2 y)) Q:=⟨(y,c),by rw [h1,h2],q⟩
theorem Ex1.of {β Y:Type} {t t':Option β} {sh:Y->β} {Q:Y->Prop} (e:t=t') (k:Ex1 t' sh Q):Ex1 t sh Q:=by subst e; exact k
theorem Ex1.mono {β Y:Type} {t:Option β} {sh:Y->β} {Q Q':Y->Prop} (k:Ex1 t sh Q) (h : ∀ y,Q y->Q' y):Ex1 t sh Q':=by obtain ⟨y,h1,h2⟩:=k; exact ⟨y,h1,h y h2⟩
theorem DF {X Y:Type} (y0:Y) {I:X->Prop} {R:X->Y->Prop} (h : ∀ x,I x->∃ y,R x y) : ∃ f:X->Y,∀ x,I x->R x (f x):=by
 classical
 exact ⟨fun x=>if hx:I x then (h x hx).choose else y0,fun x hx=>by simp only [dif_pos hx]; exact (h x hx).choose_spec⟩
theorem Gy {ι:Type} (o0:ι) {P:Program} {Γ:FuncId->Option Ent} {Λ:ι->Nat->Option LoopEnt} {m:Nat} {a:Code} {ent:ι->LoopEnt} {X Y:Type} (H:X->Dt) (E:Y->Ex×Dt) (hE : ∀ y,(E y).1≠.normal) (I:X->Prop) (Q:X->Y->Prop) (μ:X->Nat)
  (hT : ∀ o x,I x->Au P Γ (Λ o) m a (ent o) (H x)=Au P Γ (Λ o0) m a (ent o0) (H x))
  (hr : ∀ x,I x->Ex1 (Au P Γ (Λ o0) m a (ent o0) (H x)) E (Q x)\/Ex1 (Au P Γ (Λ o0) m a (ent o0) (H x)) (fun x'=>(.normal,H x')) (fun x'=>I x'/\μ x'<μ x/\∀ y,Q x' y->Q x y)) :
  ∀ x,I x->∃ y,(∀ o,Runs P Γ (Λ o) m a (ent o) (H x) (E y).1 (E y).2)/\Q x y:=by
 have key : ∀ n x,μ x<=n->I x->∃ y,(∀ o,Runs P Γ (Λ o) m a (ent o) (H x) (E y).1 (E y).2)/\Q x y:=by
  intro n
  induction n with
  | zero=>
   intro x hx hI;rcases hr x hI with ⟨y,h1,h2⟩ | ⟨x',h1,h2,h3,h4⟩
   ·exact ⟨y,fun o=>.stop _ _ _ ((hT o x hI).trans h1) (hE y),h2⟩
   ·omega
  | succ n ih=>
   intro x hx hI;rcases hr x hI with ⟨y,h1,h2⟩ | ⟨x',h1,h2,h3,h4⟩
   ·exact ⟨y,fun o=>.stop _ _ _ ((hT o x hI).trans h1) (hE y),h2⟩
   ·obtain ⟨y,h5,h6⟩:=ih x' (by omega) h2;exact ⟨y,fun o=>sts ((hT o x hI).trans h1) (h5 o),h4 y h6⟩
 exact fun x hI=>key (μ x) x (Nat.le_refl _) hI
theorem Abd {α:Type} {l:List α} {i:Nat} (h:i<l.length) : ∃ z,l[i]? = some z:=⟨_,gtE h⟩
theorem Zg {α:Type} {c:Cur} {n:Int} {W:List α} (h:c.good n) (h1:1<=W.length):(c.pickV (W.length:Int)).toNat<W.length:=by
 have:=Cur.pickV_range (k:=(W.length:Int)) h (by omega);omega
theorem Ace {α:Type} {c:Cur} {n:Int} {W:List α} (h:c.good n) (h1:1<=W.length):(decide (0<=c.pickV (W.length:Int))&&decide (c.pickV (W.length:Int)<(W.length:Int)))=true:=by
 have:=Cur.pickV_range (k:=(W.length:Int)) h (by omega);simp only [anE,dcE];exact this
def AC:Gm
 | [.j a,.j b,.j c],[]=>.leaf (.b (decide (b<=a/\a<=c)),[])
 | _,_=>.no
theorem Rg (a b c:Int):AT prog (Aa []) (Aa []) f69 [.j a,.j b,.j c] []=(.leaf (.b (decide (b<=a/\a<=c)),[]):Br (V×List (Option Blk))).run:=by
 have e:AT prog (Aa []) (Aa []) f69 [.j a,.j b,.j c] []=((ifB (decide (a>=b)) (some (V.b (decide (a<=c)),[])) nF):_):=by kernel_rfl
 rw [e];clear e
 by_cases q1:a>=b<;>by_cases q2:a<=c<;>simp [q1,q2,Br.run]<;>omega
theorem Fr:Ac prog 69 (Ent.rd1 AC).F:=by
 refine fcK KnowsL.nil.knows (Λ:=Aa []) func69 fun vs bs r' hq=>?_
 unfold Ent.F AC at hq;dsimp only at hq;split at hq
 ·rename_i a b c;exact ⟨Ao _,(Rg a b c).trans hq⟩
 ·cases hq
theorem WW (a b c:Int):AT prog (Aa []) (Aa []) f100 [.j a,.j b,.j c] []=(.leaf (.b (decide (b<=a/\a<=c)),[]):Br (V×List (Option Blk))).run:=by
 have e:AT prog (Aa []) (Aa []) f100 [.j a,.j b,.j c] []=((ifB (decide (a>=b)) (some (V.b (decide (a<=c)),[])) nF):_):=by kernel_rfl
 rw [e];clear e
 by_cases q1:a>=b<;>by_cases q2:a<=c<;>simp [q1,q2,Br.run]<;>omega
theorem Qj:Ac prog 100 (Ent.rd1 AC).F:=by
 refine fcK KnowsL.nil.knows (Λ:=Aa []) func100 fun vs bs r' hq=>?_
 unfold Ent.F AC at hq;dsimp only at hq;split at hq
 ·rename_i a b c;exact ⟨Ao _,(WW a b c).trans hq⟩
 ·cases hq
abbrev Lab:=Int×By×Int×Bool×Int×Unit
abbrev Ty:=Int×By×Int×Bool×Int×Int×Unit
def Lp (b:UInt8):Bool:=decide (97<=b.toNat)&&decide (b.toNat<=122)
def Gx (s:By):Bool:=s.all Lp&&(decide (1<=s.length)&&decide (s.length<=10))
def Ar (k:Int):Bool:=k==4||k==5
def DL (k:Int) (x:Lab):Bool:=if k=5 then Gx x.2.1&&(decide (1<=x.2.2.1)&&decide (x.2.2.1<=30)) else x.2.1==[]&&x.2.2.1==0&&!x.2.2.2.1
def Lk:Gm
 | [.s s],[]=>.need (decide (s.length<=maxI)) (.leaf (.b (Gx s),[]))
 | _,_=>.no
def F8:Gm
 | [.tp LCd z 0],[]=>.leaf (.b (Ar z.lab.1),[])
 | _,_=>.no
def Fk:Gm
 | [.j k],[]=>.leaf (.b (Ar k),[])
 | _,_=>.no
def Og:Gm
 | [.tp LCd z 0,.j k],[]=>.need (decide (z.lab.2.1.length<=maxI)) (.leaf (.b (DL k z.lab),[]))
 | _,_=>.no
def HG:LoopEnt:=⟨23,[0,5,6],[0],[2],fun
 | ([.s s,.j m,.j i],[])=>.need (decide (0<=i/\i.toNat<=s.length/\s.length<=maxI/\m=s.length)) (.br ((s.drop i.toNat).all Lp) (.leaf (.exit 0,([.s s],[]))) (.leaf (.ret,([.b false],[]))))
 | _=>.no⟩
def H0:LoopEnt:=⟨23,[0,3],[0],[2],fun
 | ([.s s,.j i],[])=>.need (decide (0<=i/\i.toNat<=s.length/\s.length<=maxI)) (.br ((s.drop i.toNat).all Lp) (.leaf (.exit 0,([.s s],[]))) (.leaf (.ret,([.b false],[]))))
 | _=>.no⟩
theorem JM (s:By) (m i:Int):Au prog (Aa [(69,.rd1 AC)]) (Aa [(2,HG)]) 0 (body f177 0) HG ([.s s,.j m,.j i],[]) =
 ((ifB (decide (i<m)) (ifT (decide (0<=i)) (An s[i.toNat]? fun z=>ifB (decide ((↑z.toNat:Int)<(97:Int))) rF (ifT (decide (0<=i))
 (An s[i.toNat]? fun z=>ifB (decide ((↑z.toNat:Int)>(122:Int))) rF (some (Ex.normal,[V.s s,V.j m,V.i .i64
 (i64.wrap (i+1))],[])))))) (some (Ex.exit 0,[V.s s],[]))):_):=by kernel_rfl
theorem Xj:Aw prog (Aa [(69,.rd1 AC)]) (Aa [(2,HG)]) 0 (f177.body.getD .skip):=by
 refine As (a:=body f177 0) (by kernel_rfl) fun d e d' h=>?_
 unfold HG at h;dsimp only at h;split at h
 ·rename_i s m i;obtain ⟨hc,hx⟩:=Ad h;clear h;obtain ⟨h0,h1,h2,rfl⟩:=of_decide_eq_true hc;obtain ⟨i,rfl⟩:=eq_ofNat_of_zero_le h0;rw [ntN] at h1 hx;refine E1 (l:=s) Lp (fun i=>([.s s,.j (↑s.length:Int),.j (i:Int)],[])) (ex:=(.exit 0,([.s s],[]))) (rt:=(.ret,([.b false],[]))) (by simp) (by simp) (fun i hi=>?_) ?_ (s.length-i) i (by omega) e d' hx
  ·have hr:=JM s s.length i;rw [Af (dcT (by omega))] at hr;simp only [ntN,gtE hi,Ap,Az (n:=i) (by omega)] at hr;refine hr.trans ?_;have hb:=s[i].toNat_lt;have hz:(0:Int)<=(i:Int):=by omega
   simp only [hz,decide_true,Cw];unfold Lp;generalize s[i].toNat=b at *;have c1:decide ((b:Int)<97) = !decide (97<=b):=by rw [<-decide_not]; exact decide_eq_decide.2 (by omega)
   have c2:decide ((b:Int)>122) = !decide (b<=122):=by rw [<-decide_not]; exact decide_eq_decide.2 (by omega)
   simp only [c1,c2];cases decide (97<=b)<;>cases decide (b<=122)<;>rfl
  ·have hr:=JM s s.length s.length;rw [Ae (dcF (by omega))] at hr;exact hr
 ·cases h
theorem UC (s:By) (hc:s.length<=maxI):AT prog (Aa [(69,.rd1 AC)]) (Aa [(2,HG)]) f177 [.s s] []=some (.b (Gx s),[]):=by
 have e:AT prog (Aa [(69,.rd1 AC)]) (Aa [(2,HG)]) f177 [.s s] []=((ifT (decide ((0:Int)<=(0:Int)/\0<=s.length/\s.length<=maxI/\(↑s.length:Int)=(↑s.length:Int))) (ifB ((drop 0 s).all Lp) (some (V.b
 (decide (1<=(↑s.length:Int)/\(↑s.length:Int)<=(10:Int))),[])) nF)):_):=by kernel_rfl
 rw [e];clear e;have hM:=mxI;rw [Ab (dcT (by simp; try omega))];simp only [drop_zero];unfold Gx
 have d1:decide (1<=(s.length:Int)/\(s.length:Int)<=10)=(decide (1<=s.length)&&decide (s.length<=10)):=by
  rw [<-decide_and]; exact decide_eq_decide.2 (by omega)
 cases s.all Lp
 ·rfl
 ·rw [Bg,d1]; rfl
theorem Afs:Ac prog 177 (Ent.rd1 Lk).F:=by
 refine fcK (kc func69 Fr KnowsL.nil).knows (Λ:=(Aa [(2,HG)])) func177 fun vs bs r hq=>?_
 unfold Ent.F Lk at hq;dsimp only at hq;split at hq
 ·rename_i s;obtain ⟨hc,hx⟩:=Ad hq;exact ⟨Xj,(UC s (of_decide_eq_true hc)).trans hx⟩
 ·cases hq
theorem JD (s:By) (i:Int):Au prog (Aa [(100,.rd1 AC)]) (Aa [(2,H0)]) 0 (body f153 0) H0 ([.s s,.j i],[]) =
 ((ifB (decide (i<(↑s.length:Int))) (ifT (decide (0<=i)) (An s[i.toNat]? fun z=>ifB (decide ((↑z.toNat:Int)<(97:Int))) rF (ifT
 (decide (0<=i)) (An s[i.toNat]? fun z=>ifB (decide ((↑z.toNat:Int)>(122:Int))) rF (some (Ex.normal,[V.s s,V.i .i64
 (i64.wrap (i+1))],[])))))) (some (Ex.exit 0,[V.s s],[]))):_):=by kernel_rfl
theorem VT:Aw prog (Aa [(100,.rd1 AC)]) (Aa [(2,H0)]) 0 (f153.body.getD .skip):=by
 refine As (a:=body f153 0) (by kernel_rfl) fun d e d' h=>?_
 unfold H0 at h;dsimp only at h;split at h
 ·rename_i s i;obtain ⟨hc,hx⟩:=Ad h;clear h;obtain ⟨h0,h1,h2⟩:=of_decide_eq_true hc;obtain ⟨i,rfl⟩:=eq_ofNat_of_zero_le h0;rw [ntN] at h1 hx;refine E1 (l:=s) Lp (fun i=>([.s s,.j (i:Int)],[])) (ex:=(.exit 0,([.s s],[]))) (rt:=(.ret,([.b false],[]))) (by simp) (by simp) (fun i hi=>?_) ?_ (s.length-i) i (by omega) e d' hx
  ·have hr:=JD s i;rw [Af (dcT (by omega))] at hr;simp only [ntN,gtE hi,Ap,Az (n:=i) (by omega)] at hr;refine hr.trans ?_;have hb:=s[i].toNat_lt;have hz:(0:Int)<=(i:Int):=by omega
   simp only [hz,decide_true,Cw];unfold Lp;generalize s[i].toNat=b at *;have c1:decide ((b:Int)<97) = !decide (97<=b):=by rw [<-decide_not]; exact decide_eq_decide.2 (by omega)
   have c2:decide ((b:Int)>122) = !decide (b<=122):=by rw [<-decide_not]; exact decide_eq_decide.2 (by omega)
   simp only [c1,c2];cases decide (97<=b)<;>cases decide (b<=122)<;>rfl
  ·have hr:=JD s s.length;rw [Ae (dcF (by omega))] at hr;exact hr
 ·cases h
theorem TO (s:By) (hc:s.length<=maxI):AT prog (Aa [(100,.rd1 AC)]) (Aa [(2,H0)]) f153 [.s s] []=some (.b (Gx s),[]):=by
 have e:AT prog (Aa [(100,.rd1 AC)]) (Aa [(2,H0)]) f153 [.s s] []=((ifT (decide ((0:Int)<=(0:Int)/\0<=s.length/\s.length<=maxI)) (ifB ((drop 0 s).all Lp) (some (V.b (decide (1<=(↑s.length:Int)/\
 (↑s.length:Int)<=(10:Int))),[])) nF)):_):=by kernel_rfl
 rw [e];clear e;have hM:=mxI;rw [Ab (dcT (by simp; try omega))];simp only [drop_zero];unfold Gx
 have d1:decide (1<=(s.length:Int)/\(s.length:Int)<=10)=(decide (1<=s.length)&&decide (s.length<=10)):=by
  rw [<-decide_and]; exact decide_eq_decide.2 (by omega)
 cases s.all Lp
 ·rfl
 ·rw [Bg,d1]; rfl
theorem Aez:Ac prog 153 (Ent.rd1 Lk).F:=by
 refine fcK (kc func100 Qj KnowsL.nil).knows (Λ:=(Aa [(2,H0)])) func153 fun vs bs r hq=>?_
 unfold Ent.F Lk at hq;dsimp only at hq;split at hq
 ·rename_i s;obtain ⟨hc,hx⟩:=Ad hq;exact ⟨VT,(TO s (of_decide_eq_true hc)).trans hx⟩
 ·cases hq
theorem RX (z:Rose Lab):AT prog (Aa []) (Aa []) f86 [.tp LCd z 0] []=(.leaf (.b (Ar z.lab.1),[]):Br (V×List (Option Blk))).run:=by
 have e:AT prog (Aa []) (Aa []) f86 [.tp LCd z 0] []=((ifB (z.lab.1==(4:Int)) (some (V.b true,[])) (some (V.b (z.lab.1==(5:Int)),[]))):_):=by kernel_rfl
 rw [e];clear e;unfold Ar;cases z.lab.1==4<;>rfl
theorem L4:Ac prog 86 (Ent.rd1 F8).F:=by
 refine fcK KnowsL.nil.knows (Λ:=Aa []) func86 fun vs bs r' hq=>?_
 unfold Ent.F F8 at hq;dsimp only at hq;split at hq
 ·rename_i z;exact ⟨Ao _,(RX z).trans hq⟩
 ·cases hq
theorem Qh (k:Int):AT prog (Aa []) (Aa []) f151 [.j k] []=(.leaf (.b (Ar k),[]):Br (V×List (Option Blk))).run:=by
 have e:AT prog (Aa []) (Aa []) f151 [.j k] []=((ifB (k==4) (some (V.b true,[])) (some (V.b (k==5),[]))):_):=by kernel_rfl
 rw [e];clear e;unfold Ar;cases k==4<;>rfl
theorem Ky:Ac prog 151 (Ent.rd1 Fk).F:=by
 refine fcK KnowsL.nil.knows (Λ:=Aa []) func151 fun vs bs r' hq=>?_
 unfold Ent.F Fk at hq;dsimp only at hq;split at hq
 ·rename_i k;exact ⟨Ao _,(Qh k).trans hq⟩
 ·cases hq
theorem R6 (z:Rose Lab) (k:Int) (hc:z.lab.2.1.length<=maxI):AT prog (Aa [(177,.rd1 Lk),(69,.rd1 AC)]) (Aa []) f161 [.tp LCd z 0,.j k] []=some (.b (DL k z.lab),[]):=by
 have e:AT prog (Aa [(177,.rd1 Lk),(69,.rd1 AC)]) (Aa []) f161 [.tp LCd z 0,.j k] []=((ifB (k==5) (ifT (decide (List.length z.lab.2.1<=maxI)) (ifB (Gx z.lab.2.1) (some (V.b (decide ((1:Int)<=z.lab.2.2.1/\z.lab.2.2.1<=(30 :
 Int))),[])) nF)) (ifB (z.lab.2.1==Ag UInt8) (ifB (z.lab.2.2.1==(0:Int)) (some (V.b !z.lab.2.2.2.1,[])) nF) nF)):_):=by kernel_rfl
 rw [e];clear e;rw [dcT hc];unfold DL;have d1:decide (1<=z.lab.2.2.1/\z.lab.2.2.1<=30)=(decide (1<=z.lab.2.2.1)&&decide (z.lab.2.2.1<=30)):=decide_and ..
 by_cases q:k=5
 ·subst q;rw [Af (by rfl),if_pos rfl,d1];cases Gx z.lab.2.1<;>rfl
 ·rw [Ae (beq_false_of_ne q),if_neg q];cases z.lab.2.1==[]<;>cases z.lab.2.2.1==0<;>rfl
theorem Acf:Ac prog 161 (Ent.rd1 Og).F:=by
 refine fcK (kc func177 Afs (kc func69 Fr KnowsL.nil)).knows (Λ:=Aa []) func161 fun vs bs r hq=>?_
 unfold Ent.F Og at hq;dsimp only at hq;split at hq
 ·rename_i z k;obtain ⟨hc,hx⟩:=Ad hq;exact ⟨Ao _,(R6 z k (of_decide_eq_true hc)).trans hx⟩
 ·cases hq
def Ba (l:List Ty) (i:Nat):Option Int:=(l[i]?).map fun x=>x.2.2.2.2.1
def A5 (l:List Ty) (i:Nat):Lab:=match l[i]? with | some x=>(x.1,x.2.1,x.2.2.1,x.2.2.2.1,x.2.2.2.2.2.1,()) | none=>(0,[],0,false,0,())
def AB (g:Nat->Rose Lab×Nat) (l:List Ty) (a:Nat):Nat->Nat->RL->RL×Nat
 | 0,e,ks=>(ks,e)
 | n+1,e,ks=>if Ba l e=some (a:Int) then AB g l a n (g e).2 (ks++[(g e).1]) else (ks,e)
def kfr (l:List Ty):Nat->Nat->Rose Lab×Nat
 | 0,a=>(.node (A5 l a) [],a+1)
 | f+1,a=>
  let r:=bif Ar (A5 l a).1 then AB (kfr l f) l a l.length (a+1) [] else ([],a+1)
  (.node (A5 l a) r.1,r.2)
def kf (l:List Ty) (a:Nat):Rose Lab×Nat:=kfr l l.length a
def kfG (n:Nat):Gm
 | [.sl TCd l,.j a],[]=>.need (decide (0<=a/\a.toNat<l.length/\l.length<=4000000000/\l.length-a.toNat<=n)) (.leaf (.tup [.ptr 0 0,.j ((kf l a.toNat).2:Int)],[some (.box [.j (kf l a.toNat).1.lab.1,.s (kf l a.toNat).1.lab.2.1,.j (kf l a.toNat).1.lab.2.2.1,.b (kf l a.toNat).1.lab.2.2.2.1,.j (kf l a.toNat).1.lab.2.2.2.2.1,.ref 1 0 (kf l a.toNat).1.kids.length]),R0 (.tree LCd) (kf l a.toNat).1.kids]))
 | _,_=>.no
def GQ:Gm
 | [.sl TCd l,.j a],[]=>.need (decide (0<=a/\a.toNat<l.length/\l.length<=4000000000)) (.leaf (.tup [.ptr 0 0,.j ((kf l a.toNat).2:Int)],[some (.box [.j (kf l a.toNat).1.lab.1,.s (kf l a.toNat).1.lab.2.1,.j (kf l a.toNat).1.lab.2.2.1,.b (kf l a.toNat).1.lab.2.2.2.1,.j (kf l a.toNat).1.lab.2.2.2.2.1,.ref 1 0 (kf l a.toNat).1.kids.length]),R0 (.tree LCd) (kf l a.toNat).1.kids]))
 | _,_=>.no
def kfE (n:Nat):LoopEnt:=⟨65,[0,1,7,8],[7,8],[],fun
 | ([.sl TCd l,.j a,.ptr 0 0,.j e],[some (.box [.j x0,.s x1,.j x2,.b x3,.j x4,.ref 1 0 k]),R0 (.tree LCd) ks])=>.need (decide (0<=a/\a<e/\a.toNat<l.length/\e.toNat<=l.length/\l.length<=4000000000/\k=ks.length/\ks.length<=e.toNat/\l.length-a.toNat<=n+1)) (.leaf (.exit 0,([.ptr 0 0,.j ((bif Ar x0 then AB (kf l) l a.toNat l.length e.toNat ks else (ks,e.toNat)).2:Int)],[some (.box [.j x0,.s x1,.j x2,.b x3,.j x4,.ref 1 0 (bif Ar x0 then AB (kf l) l a.toNat l.length e.toNat ks else (ks,e.toNat)).1.length]),R0 (.tree LCd) (bif Ar x0 then AB (kf l) l a.toNat l.length e.toNat ks else (ks,e.toNat)).1])))
 | _=>.no⟩
abbrev Yz (n:Nat):FuncId->Option Ent:=Aa [(70,.rd1 (kfG n)),(86,.rd1 F8)]
theorem Xb (n:Nat) (l:List Ty) (a e:Int) (x0:Int) (x1:By) (x2:Int) (x3:Bool) (x4:Int) (k:Nat) (ks:RL):Au prog (Yz n) (Aa [(4,kfE n)]) 0 (body f70 0) (kfE n) ([.sl TCd l,.j a,.ptr 0 0,.j e],[some (.box [.j x0,.s x1,.j x2,.b x3,.j x4,.ref 1 0 k]),R0 (.tree LCd) ks]) =
 ((ifB (Ar (Rose.node (x0,x1,x2,x3,x4,()) (take k (drop 0 ks))).lab.1) (ifB (decide (e<(↑l.length:Int))) (ifT (decide (0<=e)&&decide (e <
 (↑l.length:Int))) (An l[e.toNat]? fun z=>ifB (z.2.2.2.2.1==a) (ifT (decide (0<=e/\e.toNat<l.length/\l.length<=4000000000/\l.length -
 e.toNat<=n)) (ifT (decide ((k+1)*8<=140737488355328)&&decide (k+1<=maxI)) (some (Ex.normal,[V.sl TCd l,V.j a,V.ptr 0 0,
 V.j (↑(kf l e.toNat).2:Int)],[some (Blk.box [V.j x0,V.s x1,V.j x2,V.b x3,V.j x4,V.ref 1 0 (k+1)]),R0 LCd.tree (take k (drop 0 ks)++Rose.node ((kf l e.toNat).1.lab.1,(kf l e.toNat).1.lab.2.1,(kf l e.toNat).1.lab.2.2.1,(kf l
 e.toNat).1.lab.2.2.2.1,(kf l e.toNat).1.lab.2.2.2.2.1,()) (take (kf l e.toNat).1.kids.length (drop 0 (kf l e.toNat).1.kids))
 :: Ag LCd.tree.den)])))) (some (Ex.exit 0,[V.ptr 0 0,V.j e],[some (Blk.box [V.j x0,V.s x1,V.j x2,V.b x3,V.j x4,V.ref 1 0 k]),R0 LCd.tree ks])))) (some (Ex.exit 0,[V.ptr 0 0,V.j e],[some (Blk.box [V.j x0,V.s x1,V.j x2,V.b x3,V.j x4,V.ref 1 0 k]),R0 LCd.tree ks]))) (some (Ex.exit 0,[V.ptr 0 0,V.j e],[some (Blk.box [V.j x0,V.s x1,V.j x2,V.b x3,V.j x4,V.ref 1 0 k]),R0 LCd.tree ks]))):_):=by kernel_rfl
theorem Z0 (n:Nat) (l:List Ty) (a:Int):Cx prog (Yz n) (Aa [(4,kfE n)]) f70 [.sl TCd l,.j a] [] =
 ((ifT (decide (0<=a)&&decide (a<(↑l.length:Int))) (An l[a.toNat]? fun z=>ifT (decide (0<=a/\a<i64.wrap (a+1)/\a.toNat<l.length/\
 (i64.wrap (a+1)).toNat<=l.length/\l.length<=4000000000/\0=0/\0<=(i64.wrap (a+1)).toNat/\l.length-a.toNat<=
 n+1)) (some (V.tup [V.ptr 0 0,V.j (↑(bif Ar z.1 then AB (kf l) l a.toNat l.length (i64.wrap (a+1)).toNat (Ag LCd.tree.den) else (Ag
 LCd.tree.den,(i64.wrap (a+1)).toNat)).2:Int)],[some (Blk.box [V.j z.1,V.s z.2.1,V.j z.2.2.1,V.b z.2.2.2.1,V.i .i64
 z.2.2.2.2.2.1,V.ref 1 0 (bif Ar z.1 then AB (kf l) l a.toNat l.length (i64.wrap (a+1)).toNat (Ag LCd.tree.den) else (Ag LCd.tree.den,
 (i64.wrap (a+1)).toNat)).1.length]),R0 LCd.tree (bif Ar z.1 then AB (kf l) l a.toNat l.length (i64.wrap (a+1)).toNat
 (Ag LCd.tree.den) else (Ag LCd.tree.den,(i64.wrap (a+1)).toNat)).1])))):_):=by kernel_rfl
theorem Ev {l:List Ty} {e:Nat} {a:Int} (h:Ba l e=some a):e<l.length:=by
 unfold Ba at h;obtain ⟨x,h1,_⟩:=Option.map_eq_some_iff.1 h;exact (List.getElem?_eq_some_iff.1 h1).1
theorem C9 (z:Rose Lab):Rose.node (z.lab.1,z.lab.2.1,z.lab.2.2.1,z.lab.2.2.2.1,z.lab.2.2.2.2.1,()) (take z.kids.length (drop 0 z.kids))=z:=by
 obtain ⟨⟨_,_,_,_,_,⟨⟩⟩,ks⟩:=z;simp [Rose.lab,Rose.kids]
def LA (l:List Ty) (g:Nat->Rose Lab×Nat):Prop:=∀ e,e<l.length->e<(g e).2/\(g e).2<=l.length
theorem GP {l:List Ty} {g:Nat->Rose Lab×Nat} {a:Nat} (hg:LA l g) : ∀ (n e:Nat) (ks:RL),e<=l.length->e<=(AB g l a n e ks).2/\(AB g l a n e ks).2<=l.length
 | 0,e,ks,h=>⟨Nat.le_refl _,h⟩
 | n+1,e,ks,h=>by
  unfold AB;split
  ·rename_i hu;obtain ⟨h1,h2⟩:=hg e (Ev hu);obtain ⟨h3,h4⟩:=GP hg n (g e).2 (ks++[(g e).1]) h2;exact ⟨by omega,h4⟩
  ·exact ⟨Nat.le_refl _,h⟩
theorem Kz (l:List Ty) : ∀ f,LA l (kfr l f)
 | 0,a,h=>⟨lt_succ_self _,h⟩
 | f+1,a,h=>by
  unfold kfr;dsimp only
  cases Ar (A5 l a).1 with
  | true=>
   obtain ⟨h3,h4⟩:=GP (a:=a) (Kz l f) l.length (a+1) [] h;exact ⟨by rw [cond_true]; omega,by rw [cond_true]; exact h4⟩
  | false=>exact ⟨lt_succ_self _,h⟩
theorem G4 {l:List Ty} {g g':Nat->Rose Lab×Nat} {a e0:Nat} (hg:LA l g) (h : ∀ e,e0<=e->e<l.length->g e=g' e) : ∀ (n e:Nat) (ks:RL),e0<=e->AB g l a n e ks=AB g' l a n e ks
 | 0,e,ks,_=>rfl
 | n+1,e,ks,he=>by
  unfold AB;split
  ·rename_i hu;have hl:=Ev hu;rw [<-h e he hl];exact G4 hg h n _ _ (by have:=(hg e hl).1; omega)
  ·rfl
theorem HF {l:List Ty} {g:Nat->Rose Lab×Nat} {a:Nat} (hg:LA l g) : ∀ (n m e:Nat) (ks:RL),l.length-e<=n->l.length-e<=m->AB g l a n e ks=AB g l a m e ks
 | 0,0,e,ks,_,_=>rfl
 | 0,m+1,e,ks,h,_=>by
  unfold AB;split
  ·rename_i hu; have:=Ev hu; omega
  ·rfl
 | n+1,0,e,ks,_,h=>by
  unfold AB;split
  ·rename_i hu; have:=Ev hu; omega
  ·rfl
 | n+1,m+1,e,ks,h1,h2=>by
  unfold AB;split
  ·rename_i hu;have hl:=Ev hu;have:=(hg e hl).1;exact HF hg n m _ _ (by omega) (by omega)
  ·rfl
theorem Qp (l:List Ty) : ∀ (f f' a:Nat),l.length-a<=f->l.length-a<=f'->a<l.length->kfr l f a=kfr l f' a
 | 0,f',a,h1,_,h=>by omega
 | f+1,0,a,_,h1,h=>by omega
 | f+1,f'+1,a,h1,h2,h=>by
  unfold kfr;dsimp only;rw [G4 (Kz l f) (fun e he hl=>Qp l f f' e (by omega) (by omega) hl) l.length (a+1) [] (Nat.le_refl _)]
theorem CI (l:List Ty):LA l (kf l):=Kz l l.length
theorem N3 {l:List Ty} {a:Nat} (h:a<l.length):kf l a=(.node (A5 l a) (bif Ar (A5 l a).1 then AB (kf l) l a l.length (a+1) [] else ([],a+1)).1,(bif Ar (A5 l a).1 then AB (kf l) l a l.length (a+1) [] else ([],a+1)).2):=by
 obtain ⟨m,hm⟩ : ∃ m,l.length=m+1:=⟨l.length-1,by omega⟩
 have e1:AB (kfr l m) l a l.length (a+1) []=AB (kf l) l a l.length (a+1) []:=G4 (Kz l m) (fun e he hl=>Qp l m l.length e (by omega) (by omega) hl) l.length (a+1) [] (Nat.le_refl _);rw [<-e1];unfold kf
 conv=>lhs; rw [hm]
 rfl
theorem RU {l:List Ty} {a e:Nat} {ks:RL} (h:Ba l e=some (a:Int)):AB (kf l) l a l.length e ks=AB (kf l) l a l.length (kf l e).2 (ks++[(kf l e).1]):=by
 have hl:=Ev h;obtain ⟨m,hm⟩ : ∃ m,l.length=m+1:=⟨l.length-1,by omega⟩
 conv=>lhs; rw [hm]
 show (if Ba l e=some (a:Int) then AB (kf l) l a m (kf l e).2 (ks++[(kf l e).1]) else (ks,e))=_;rw [if_pos h];have:=(CI l e hl).1;exact HF (CI l) m l.length _ _ (by omega) (by omega)
theorem D8 {l:List Ty} {a e n:Nat} {ks:RL} (h:Ba l e≠some (a:Int)):AB (kf l) l a n e ks=(ks,e):=by
 cases n with
 | zero=>rfl
 | succ n=>unfold AB; rw [if_neg h]
theorem Z1 (n:Nat) (l:List Ty) (a:Nat) (x0:Int) (x1:By) (x2:Int) (x3:Bool) (x4:Int) (hal:a<l.length) (hl:l.length<=4000000000) (hn:l.length-a<=n+1) : ∀ (j e:Nat) (ks:RL),e+j=l.length->a<e->ks.length<=e->
  Runs prog (Yz n) (Aa [(4,kfE n)]) 0 (body f70 0) (kfE n) ([.sl TCd l,.j (a:Int),.ptr 0 0,.j (e:Int)],[some (.box [.j x0,.s x1,.j x2,.b x3,.j x4,.ref 1 0 ks.length]),R0 (.tree LCd) ks]) (.exit 0) ([.ptr 0 0,.j ((bif Ar x0 then AB (kf l) l a l.length e ks else (ks,e)).2:Int)],[some (.box [.j x0,.s x1,.j x2,.b x3,.j x4,.ref 1 0 (bif Ar x0 then AB (kf l) l a l.length e ks else (ks,e)).1.length]),R0 (.tree LCd) (bif Ar x0 then AB (kf l) l a l.length e ks else (ks,e)).1]):=by
 intro j
 induction j using strongRecOn with
 | ind j ih=>
  intro e ks he hae hk;have hM:=mxI;have hr:=Xb n l a e x0 x1 x2 x3 x4 ks.length ks;have hlab:(Rose.node (x0,x1,x2,x3,x4,()) (take ks.length (drop 0 ks)):Rose Lab).lab.1=x0:=rfl;simp only [hlab] at hr
  cases hx:Ar x0 with
  | false=>
   rw [hx,AR] at hr;rw [cond_false];exact stp hr
  | true=>
   rw [hx,Bg] at hr;rw [cond_true]
   by_cases h1:e<l.length
   ·rw [Af (dcT (by omega)),T2 (by omega)] at hr;simp only [ntN,gtE h1,Ap,drop_zero,take_length] at hr
    by_cases h2:l[e].2.2.2.2.1=(a:Int)
    ·have hu:Ba l e=some (a:Int):=by unfold Ba; rw [gtE h1,map_some,h2]
     rw [Af (by rw [h2]; exact beq_self_eq_true _),Ab (dcT ⟨by omega,h1,hl,by omega⟩),T2 (by omega)] at hr;obtain ⟨b1,b2⟩:=CI l e h1;rw [RU hu];have ht:=C9 (kf l e).1;rw [drop_zero,take_length] at ht;rw [ht] at hr;have hlen:(ks++[(kf l e).1]).length=ks.length+1:=by simp
     have ih2:=ih (l.length-(kf l e).2) (by omega) (kf l e).2 (ks++[(kf l e).1]) (by omega) (by omega) (by rw [hlen]; omega);simp only [hx,cond_true] at ih2;refine sts (hr.trans ?_) ih2;rw [hlen]
    ·have hu:Ba l e≠some (a:Int):=by unfold Ba; rw [gtE h1,map_some]; exact fun h=>h2 (Option.some.inj h)
     rw [Ae (beq_false_of_ne h2)] at hr;rw [D8 hu];exact stp hr
   ·rw [Ae (dcF (by omega))] at hr;rw [D8 (fun h=>h1 (Ev h))];exact stp hr
theorem Afk (n:Nat):Aw prog (Yz n) (Aa [(4,kfE n)]) 0 (f70.body.getD .skip):=by
 refine As (a:=body f70 0) (by kernel_rfl) fun d ex d' h=>?_
 unfold kfE at h;dsimp only at h;split at h
 ·rename_i l a e x0 x1 x2 x3 x4 k ks;obtain ⟨hc,hx⟩:=Ad h;clear h;obtain ⟨h0,h1,h2,h3,h4,rfl,h6,h7⟩:=of_decide_eq_true hc;obtain ⟨a,rfl⟩:=eq_ofNat_of_zero_le h0;obtain ⟨e,rfl⟩:=eq_ofNat_of_zero_le (by omega:0<=e);simp only [ntN] at h2 h3 h6 h7 hx;obtain ⟨rfl,rfl⟩:=lfP hx;exact Z1 n l a x0 x1 x2 x3 x4 h2 h4 h7 (l.length-e) e ks (by omega) (by omega) h6
 ·cases h
theorem Adc (n:Nat) (l:List Ty) (a:Int) (hc:0<=a/\a.toNat<l.length/\l.length<=4000000000/\l.length-a.toNat<=n+1):Cx prog (Yz n) (Aa [(4,kfE n)]) f70 [.sl TCd l,.j a] []=some (.tup [.ptr 0 0,.j ((kf l a.toNat).2:Int)],[some (.box [.j (kf l a.toNat).1.lab.1,.s (kf l a.toNat).1.lab.2.1,.j (kf l a.toNat).1.lab.2.2.1,.b (kf l a.toNat).1.lab.2.2.2.1,.j (kf l a.toNat).1.lab.2.2.2.2.1,.ref 1 0 (kf l a.toNat).1.kids.length]),R0 (.tree LCd) (kf l a.toNat).1.kids]):=by
 rw [Z0];obtain ⟨h0,h1,h2,h3⟩:=hc;obtain ⟨a,rfl⟩:=eq_ofNat_of_zero_le h0;rw [ntN] at h1 h3;have hM:=mxI;have hw:i64.wrap ((a:Int)+1)=((a+1:Nat):Int):=Az (by omega);rw [T2 (by omega)];simp only [ntN,gtE h1,Ap,hw];rw [Ab (dcT ⟨by omega,by omega,h1,by omega,h2,trivial,by omega,by omega⟩)];have hk:=N3 h1;have hlab:A5 l a=(l[a].1,l[a].2.1,l[a].2.2.1,l[a].2.2.2.1,l[a].2.2.2.2.2.1,()):=by unfold A5; rw [gtE h1]
 rw [hk,hlab];rfl
theorem Add : ∀ n,(∀ m,m<n->Ac prog 70 (Ent.rd1 (kfG m)).F)->Ac prog 70 (Ent.rd1 (kfG n)).F
 | 0,_=>AP fun vs bs=>by
  unfold Ent.F kfG;dsimp only;split
  ·rename_i l a;have:decide (0<=a/\a.toNat<l.length/\l.length<=4000000000/\l.length-a.toNat<=0)=false:=dcF (by omega);rw [this]; rfl
  ·rfl
 | n+1,ih=>by
  refine fcN (kc func70 (ih n (lt_succ_self n)) (kc func86 L4 KnowsL.nil)).knows (Λ:=(Aa [(4,kfE n)])) func70 fun vs bs r hq=>?_
  unfold Ent.F kfG at hq;dsimp only at hq;split at hq
  ·rename_i l a;obtain ⟨hc,hx⟩:=Ad hq;exact ⟨Afk n,(Adc n l a (of_decide_eq_true hc)).trans hx⟩
  ·cases hq
theorem Xa:Ac prog 70 (Ent.rd1 GQ).F:=by
 refine Bb (F:=fun n=>(Ent.rd1 (kfG n)).F) Add fun vs bs r h=>?_
 unfold Ent.F GQ at h;dsimp only at h;split at h
 ·rename_i l a;obtain ⟨hc,hx⟩:=Ad h;obtain ⟨h0,h1,h2⟩:=of_decide_eq_true hc;refine ⟨l.length,?_⟩;unfold Ent.F kfG;dsimp only;have:decide (0<=a/\a.toNat<l.length/\l.length<=4000000000/\l.length-a.toNat<=l.length)=true:=dcT ⟨h0,h1,h2,by omega⟩;rw [this];exact hx
 ·cases h
mutual
def Aj:Rose Lab->Nat
 | .node _ ks=>Ak ks+1
def Ak:RL->Nat
 | []=>0
 | z::l=>Aj z+Ak l
end
mutual
def BG:Rose Lab->Nat
 | .node x ks=>BQ ks+(bif Ar x.1 then 1 else 0)
def BQ:RL->Nat
 | []=>0
 | z::l=>max (BG z) (BQ l)
end
def DG (n:Nat):Gm
 | [.tp LCd z 0],[]=>.need (decide (Aj z<=n/\Aj z<=1000000)) (.leaf (.j (Aj z:Int),[]))
 | _,_=>.no
def O3:Gm
 | [.tp LCd z 0],[]=>.need (decide (Aj z<=1000000)) (.leaf (.j (Aj z:Int),[]))
 | _,_=>.no
def Eh (n:Nat):LoopEnt:=⟨21,[3,9,10,11],[3],[],fun
 | ([.j m,.sl (.tree LCd) ks,.j k,.j i],[])=>.need (decide (0<=m/\m<=1000001/\0<=i/\i.toNat<=ks.length/\k=ks.length/\Ak ks<=n/\Ak ks<=1000000/\m.toNat+Ak (ks.drop i.toNat)<=1000001)) (.leaf (.exit 0,([.j ((m.toNat+Ak (ks.drop i.toNat):Nat):Int)],[])))
 | _=>.no⟩
def Jh (n:Nat):Gm
 | [.tp LCd z 0],[]=>.need (decide (Aj z<=n/\Aj z<=1000000)) (.leaf (.j (BG z:Int),[]))
 | _,_=>.no
def Sb:Gm
 | [.tp LCd z 0],[]=>.need (decide (Aj z<=1000000)) (.leaf (.j (BG z:Int),[]))
 | _,_=>.no
def F9 (n:Nat):LoopEnt:=⟨25,[0,3,9,10,11],[0,3],[],fun
 | ([.tp LCd y 0,.j m,.sl (.tree LCd) ks,.j k,.j i],[])=>.need (decide (0<=m/\m<=1000001/\0<=i/\i.toNat<=ks.length/\k=ks.length/\Ak ks<=n/\Ak ks<=1000000)) (.leaf (.exit 0,([.tp LCd y 0,.j ((max m.toNat (BQ (ks.drop i.toNat)):Nat):Int)],[])))
 | _=>.no⟩
theorem Bo {z:Rose Lab} : ∀ {l:RL},z∈l->Aj z<=Ak l
 | [],h=>by cases h
 | y::l,h=>by
  rw [Ak];rcases mem_cons.1 h with rfl | h
  ·omega
  ·have:=Bo h; omega
theorem BN (z:Rose Lab):1<=Aj z:=by cases z; rw [Aj]; omega
theorem Bc : ∀ (l:RL),l.length<=Ak l
 | []=>Nat.le_refl _
 | z::l=>by have:=Bc l; have:=BN z; rw [Ak,List.length_cons]; omega
theorem AE (z:Rose Lab):Aj z=Ak z.kids+1:=by cases z; rw [Aj]; rfl
mutual
theorem IA : ∀ z:Rose Lab,BG z<=Aj z
 | .node x ks=>by rw [BG,Aj]; have:=GY ks; cases Ar x.1<;>simp<;>omega
theorem GY : ∀ l:RL,BQ l<=Ak l
 | []=>Nat.le_refl _
 | z::l=>by rw [BQ,Ak]; have:=IA z; have:=GY l; omega
end
theorem Iw (n:Nat) (m:Int) (ks:RL) (k i:Int):Au prog (Aa [(115,.rd1 (DG n))]) (Aa [(3,Eh n)]) 0 (body f115 0) (Eh n) ([.j m,.sl (.tree LCd) ks,.j k,.j i],[]) =
 ((ifB (decide (i<k)) (ifT (decide (0<=i)&&decide (i<(↑ks.length:Int))) (An ks[i.toNat]? fun z=>ifT (decide (Aj z<=n/\Aj z<=1000000)) (some
 (Ex.normal,[V.j (i64.wrap (m+(↑(Aj z):Int))),V.sl LCd.tree ks,V.j k,V.j (i64.wrap (i+1))],[])))) (some (Ex.exit 0,[V.i .i64
 m],[]))):_):=by kernel_rfl
theorem Qq (n:Nat) (z:Rose Lab):AT prog (Aa [(115,.rd1 (DG n))]) (Aa [(3,Eh n)]) f115 [.tp LCd z 0] [] =
 ((ifT (decide ((0:Int)<=(1:Int)/\(1:Int)<=(1000001:Int)/\(0:Int)<=(0:Int)/\0<=z.kids.length/\(↑z.kids.length:Int)=(↑z.kids.length:Int)/\
 Ak z.kids<=n/\Ak z.kids<=1000000/\1+Ak (drop 0 z.kids)<=1000001)) (some (V.j (↑(1+Ak (drop (0 :
 Nat) z.kids)):Int),[]))):_):=by kernel_rfl
theorem JL (n:Nat) (ks:RL) (h1:Ak ks<=n) (h2:Ak ks<=1000000) : ∀ (j i m:Nat),i+j=ks.length->m<=1000001->m+Ak (ks.drop i)<=1000001->
  Runs prog (Aa [(115,.rd1 (DG n))]) (Aa [(3,Eh n)]) 0 (body f115 0) (Eh n) ([.j (m:Int),.sl (.tree LCd) ks,.j (ks.length:Int),.j (i:Int)],[]) (.exit 0) ([.j ((m+Ak (ks.drop i):Nat):Int)],[])
 | 0,i,m,hi,hm,hs=>by
  have hr:=Iw n m ks ks.length i;rw [Ae (dcF (by omega))] at hr;have e1:ks.drop i=[]:=drop_eq_nil_of_le (by omega);rw [e1,Ak];exact .stop _ _ _ (hr.trans (by simp)) (by simp)
 | j+1,i,m,hi,hm,hs=>by
  have hl:i<ks.length:=by omega
  have hM:=mxI;have hr:=Iw n m ks ks.length i;have hmem:=Bo (getElem_mem hl);have hlen:=Bc ks;have hdm:=IA ks[i];rw [Af (dcT (by omega)),T2 (by omega)] at hr;simp only [ntN,gtE hl,Ap,Az (n:=i) (by omega)] at hr;rw [Ab (dcT ⟨by omega,by omega⟩)] at hr;rw [drop_eq_getElem_cons hl,Ak];rw [drop_eq_getElem_cons hl,Ak] at hs;have hx:i64.wrap ((m:Int)+(Aj ks[i]:Int))=((m+Aj ks[i]:Nat):Int):=by rw [Av (by omega) (by omega)]; omega
  have ih:=JL n ks h1 h2 j (i+1) (m+Aj ks[i]) (by omega) (by omega) (by omega);rw [<-Nat.add_assoc];exact sts (hr.trans (by rw [hx])) ih
theorem UA (n:Nat):Aw prog (Aa [(115,.rd1 (DG n))]) (Aa [(3,Eh n)]) 0 (f115.body.getD .skip):=by
 refine As (a:=body f115 0) (by kernel_rfl) fun d ex d' h=>?_
 unfold Eh at h;dsimp only at h;split at h
 ·rename_i m ks k i;obtain ⟨hc,hx⟩:=Ad h;clear h;obtain ⟨h0,h1,h2,h3,rfl,h5,h6,h7⟩:=of_decide_eq_true hc;obtain ⟨m,rfl⟩:=eq_ofNat_of_zero_le h0;obtain ⟨i,rfl⟩:=eq_ofNat_of_zero_le h2;simp only [ntN] at h3 hx h7;obtain ⟨rfl,rfl⟩:=lfP hx;exact JL n ks h5 h6 (ks.length-i) i m (by omega) (by omega) h7
 ·cases h
theorem Sc (n:Nat) (z:Rose Lab) (hc:Aj z<=n+1/\Aj z<=1000000):AT prog (Aa [(115,.rd1 (DG n))]) (Aa [(3,Eh n)]) f115 [.tp LCd z 0] []=some (.j (Aj z:Int),[]):=by
 rw [Qq];obtain ⟨x,ks⟩:=z;obtain ⟨h1,h2⟩:=hc;rw [Aj] at h1 h2;have hd:drop (toNat 0) ks=ks:=rfl;simp only [Rose.kids] at *;rw [Ab (dcT (by refine ⟨by omega,by omega,by omega,by simp,by trivial,by omega,by omega,?_⟩; simp; omega))];rw [Aj];simp only [drop_zero];rw [Nat.add_comm]
theorem Sd : ∀ n,(∀ m,m<n->Ac prog 115 (Ent.rd1 (DG m)).F)->Ac prog 115 (Ent.rd1 (DG n)).F
 | 0,_=>AP fun vs bs=>by
  unfold Ent.F DG;dsimp only;split
  ·rename_i z;have:=BN z;have:decide (Aj z<=0/\Aj z<=1000000)=false:=dcF (by omega);rw [this]; rfl
  ·rfl
 | n+1,ih=>by
  refine fcK (kc func115 (ih n (lt_succ_self n)) KnowsL.nil).knows (Λ:=(Aa [(3,Eh n)])) func115 fun vs bs r hq=>?_
  unfold Ent.F DG at hq;dsimp only at hq;split at hq
  ·rename_i z;obtain ⟨hc,hx⟩:=Ad hq;exact ⟨UA n,(Sc n z (of_decide_eq_true hc)).trans hx⟩
  ·cases hq
theorem Adf:Ac prog 115 (Ent.rd1 O3).F:=by
 refine Bb (F:=fun n=>(Ent.rd1 (DG n)).F) Sd fun vs bs r h=>?_
 unfold Ent.F O3 at h;dsimp only at h;split at h
 ·rename_i z;obtain ⟨hc,hx⟩:=Ad h;have hc:=of_decide_eq_true hc;refine ⟨1000000,?_⟩;show (Br.need (decide (Aj z<=1000000/\Aj z<=1000000)) (.leaf (.j (Aj z:Int),[]))).run=some r;rw [dcT (show Aj z<=1000000/\Aj z<=1000000 from ⟨hc,hc⟩)];exact hx
 ·cases h
abbrev Yy (n:Nat):FuncId->Option Ent:=Aa [(114,.rd1 (Jh n)),(86,.rd1 F8)]
theorem JK (n:Nat) (y:Rose Lab) (m:Int) (ks:RL) (k i:Int):Au prog (Yy n) (Aa [(3,F9 n)]) 0 (body f114 0) (F9 n) ([.tp LCd y 0,.j m,.sl (.tree LCd) ks,.j k,.j i],[]) =
 ((ifB (decide (i<k)) (ifT (decide (0<=i)&&decide (i<(↑ks.length:Int))) (An ks[i.toNat]? fun z=>ifT (decide (Aj z<=n/\Aj z<=1000000)) (some
 (Ex.normal,[V.tp LCd y 0,V.j (if (↑(BG z):Int)>m then (↑(BG z):Int) else m),V.sl LCd.tree ks,V.j k,V.j (i64.wrap (i +
 1))],[])))) (some (Ex.exit 0,[V.tp LCd y 0,V.j m],[]))):_):=by kernel_rfl
theorem Sa (n:Nat) (z:Rose Lab):AT prog (Yy n) (Aa [(3,F9 n)]) f114 [.tp LCd z 0] [] =
 ((ifT (decide ((0:Int)<=(0:Int)/\(0:Int)<=(1000001:Int)/\(0:Int)<=(0:Int)/\0<=z.kids.length/\(↑z.kids.length:Int)=(↑z.kids.length:Int)/\
 Ak z.kids<=n/\Ak z.kids<=1000000)) (ifB (Ar z.lab.1) (some (V.j (i64.wrap ((↑(max 0 (BQ (drop 0 z.kids))):Int)
 + (1:Int))),[])) (some (V.j (↑(max 0 (BQ (drop 0 z.kids))):Int),[])))):_):=by kernel_rfl
theorem L8 (n:Nat) (y:Rose Lab) (ks:RL) (h1:Ak ks<=n) (h2:Ak ks<=1000000) : ∀ (j i m:Nat),i+j=ks.length->m<=1000001->
  Runs prog (Yy n) (Aa [(3,F9 n)]) 0 (body f114 0) (F9 n) ([.tp LCd y 0,.j (m:Int),.sl (.tree LCd) ks,.j (ks.length:Int),.j (i:Int)],[]) (.exit 0) ([.tp LCd y 0,.j ((max m (BQ (ks.drop i)):Nat):Int)],[])
 | 0,i,m,hi,hm=>by
  have hr:=JK n y m ks ks.length i;rw [Ae (dcF (by omega))] at hr;have e1:ks.drop i=[]:=drop_eq_nil_of_le (by omega);rw [e1,BQ];exact .stop _ _ _ (hr.trans (by simp)) (by simp)
 | j+1,i,m,hi,hm=>by
  have hl:i<ks.length:=by omega
  have hM:=mxI;have hr:=JK n y m ks ks.length i;have hmem:=Bo (getElem_mem hl);have hlen:=Bc ks;have hdm:=IA ks[i];rw [Af (dcT (by omega)),T2 (by omega)] at hr;simp only [ntN,gtE hl,Ap,Az (n:=i) (by omega)] at hr;rw [Ab (dcT ⟨by omega,by omega⟩)] at hr;rw [drop_eq_getElem_cons hl,BQ];have hx:(if (BG ks[i]:Int)>(m:Int) then (BG ks[i]:Int) else (m:Int))=((max m (BG ks[i]):Nat):Int):=by split<;>omega
  have ih:=L8 n y ks h1 h2 j (i+1) (max m (BG ks[i])) (by omega) (by omega);rw [<-Nat.max_assoc];exact sts (hr.trans (by rw [hx])) ih
theorem Xd (n:Nat):Aw prog (Yy n) (Aa [(3,F9 n)]) 0 (f114.body.getD .skip):=by
 refine As (a:=body f114 0) (by kernel_rfl) fun d ex d' h=>?_
 unfold F9 at h;dsimp only at h;split at h
 ·rename_i y m ks k i;obtain ⟨hc,hx⟩:=Ad h;clear h;obtain ⟨h0,h1,h2,h3,rfl,h5,h6⟩:=of_decide_eq_true hc;obtain ⟨m,rfl⟩:=eq_ofNat_of_zero_le h0;obtain ⟨i,rfl⟩:=eq_ofNat_of_zero_le h2;simp only [ntN] at h3 hx;obtain ⟨rfl,rfl⟩:=lfP hx;exact L8 n y ks h5 h6 (ks.length-i) i m (by omega) (by omega)
 ·cases h
theorem U8 (n:Nat) (z:Rose Lab) (hc:Aj z<=n+1/\Aj z<=1000000):AT prog (Yy n) (Aa [(3,F9 n)]) f114 [.tp LCd z 0] []=some (.j (BG z:Int),[]):=by
 rw [Sa];obtain ⟨x,ks⟩:=z;obtain ⟨h1,h2⟩:=hc;rw [Aj] at h1 h2;have hd:drop (toNat 0) ks=ks:=rfl;simp only [Rose.kids,Rose.lab] at *;rw [Ab (dcT (by refine ⟨by omega,by omega,by omega,by simp,by trivial,by omega,by omega⟩))];have hdp:=GY ks;rw [BG];simp only [drop_zero,Nat.zero_max]
 cases hx:Ar x.1 with
 | true=>rw [Bg,Av (by omega) (by omega)]; simp
 | false=>rw [AR]; simp
theorem U9 : ∀ n,(∀ m,m<n->Ac prog 114 (Ent.rd1 (Jh m)).F)->Ac prog 114 (Ent.rd1 (Jh n)).F
 | 0,_=>AP fun vs bs=>by
  unfold Ent.F Jh;dsimp only;split
  ·rename_i z;have:=BN z;have:decide (Aj z<=0/\Aj z<=1000000)=false:=dcF (by omega);rw [this]; rfl
  ·rfl
 | n+1,ih=>by
  refine fcK (kc func114 (ih n (lt_succ_self n)) (kc func86 L4 KnowsL.nil)).knows (Λ:=(Aa [(3,F9 n)])) func114 fun vs bs r hq=>?_
  unfold Ent.F Jh at hq;dsimp only at hq;split at hq
  ·rename_i z;obtain ⟨hc,hx⟩:=Ad hq;exact ⟨Xd n,(U8 n z (of_decide_eq_true hc)).trans hx⟩
  ·cases hq
theorem Afn:Ac prog 114 (Ent.rd1 Sb).F:=by
 refine Bb (F:=fun n=>(Ent.rd1 (Jh n)).F) U9 fun vs bs r h=>?_
 unfold Ent.F Sb at h;dsimp only at h;split at h
 ·rename_i z;obtain ⟨hc,hx⟩:=Ad h;have hc:=of_decide_eq_true hc;refine ⟨1000000,?_⟩;show (Br.need (decide (Aj z<=1000000/\Aj z<=1000000)) (.leaf (.j (BG z:Int),[]))).run=some r;rw [dcT (show Aj z<=1000000/\Aj z<=1000000 from ⟨hc,hc⟩)];exact hx
 ·cases h
def F0 (zk:RL) (i:Nat) (n:Int):Bool:=match i with
 | 0=>false
 | i+1=>match zk[i]? with | some y=>decide (y.lab.2.2.1>=n) | none=>false
def Il (zk:RL):Nat->List (By×Bool)->RL->Bool
 | _,_,[]=>true
 | i,seen,z::l=>if ((Fg .str seen z.lab.2.1).getD false||F0 zk i z.lab.2.2.1)=true then false else Il zk (i+1) (Gc .str seen z.lab.2.1 true) l
def B5 (x:Lab) (ks:RL):Bool:=
 if x.1=1\/x.1=2 then x.2.2.2.2.1==0&&ks.length==0
 else if x.1=3 then decide (0<=x.2.2.2.2.1/\x.2.2.2.2.1<=20)&&ks.length==0
 else if x.1=4 then x.2.2.2.2.1==0&&ks.length==1
 else if x.1≠5\/x.2.2.2.2.1≠0 then false
 else Il ks 0 [] ks
def Lg:Gm
 | [.tp LCd z 0],[]=>.need (decide (z.kids.length<=maxI)) (.leaf (.b (B5 z.lab z.kids),[]))
 | _,_=>.no
def poE:LoopEnt:=⟨113,[0,3,72,73,74],[],[2],fun
 | ([.tp LCd z 0,.mref 0,.sl (.tree LCd) ks,.j k,.j i],[some (.mp .str .bool seen)])=>.need (decide (0<=i/\i.toNat<=ks.length/\k=ks.length/\ks.length<=maxI/\z.kids.length=ks.length)) (.br (Il z.kids i.toNat seen (ks.drop i.toNat)) (.leaf (.exit 1,([],[]))) (.leaf (.ret,([.b false],[]))))
 | _=>.no⟩
theorem PF (z:Rose Lab) (ks:RL) (seen:List (By×Bool)) (k i:Int):Au prog (Aa [(69,.rd1 AC)]) (Aa [(13,poE)]) 0 (body f158 0) poE ([.tp LCd z 0,.mref 0,.sl (.tree LCd) ks,.j k,.j i],[some (.mp .str .bool seen)]) =
 ((ifB (decide (i<k)) (ifT (decide (0<=i)&&decide (i<(↑ks.length:Int))) (An ks[i.toNat]? fun z_1=>ifB ((Fg Cd.str seen (Rose.lab z_1).2.1).getD false)
 rF (ifB (decide (i>0)) (ifT (decide (0<=i64.wrap (i-1))&&decide (i64.wrap (i-1)<(↑z.kids.length:Int))) (An
 z.kids[(i64.wrap (i-1)).toNat]? fun z_2=>ifB (decide ((Rose.lab z_2).2.2.1>=(Rose.lab z_1).2.2.1)) rF (some
 (Ex.normal,[V.tp LCd z 0,V.mref 0,V.sl LCd.tree ks,V.j k,V.j (i64.wrap (i+1))],[some (Blk.mp Cd.str Cd.bool (Gc Cd.str seen
 (Rose.lab z_1).2.1 true))])))) (some (Ex.normal,[V.tp LCd z 0,V.mref 0,V.sl LCd.tree ks,V.j k,V.j (i64.wrap (i+1))],[some
 (Blk.mp Cd.str Cd.bool (Gc Cd.str seen (Rose.lab z_1).2.1 true))]))))) (some (Ex.exit 1,[],[]))):_):=by kernel_rfl
theorem Zf (z:Rose Lab):AT prog (Aa [(69,.rd1 AC)]) (Aa [(13,poE)]) f158 [.tp LCd z 0] [] =
 ((ifB (z.lab.1==(1:Int)) (ifB (z.lab.1==(1:Int)) (ifB (z.lab.2.2.2.2.1==(0:Int)) (some (V.b ((↑z.kids.length:Int)==(0:Int)),[])) nF) (ifB (z.lab.1==(3:Int)) (ifB (decide ((0:Int)<=z.lab.2.2.2.2.1/\z.lab.2.2.2.2.1<=(20:Int))) (some (V.b ((↑z.kids.length :
 Int)==(0:Int)),[])) nF) (ifB (z.lab.1==(4:Int)) (ifB (z.lab.2.2.2.2.1==(0:Int)) (some (V.b ((↑z.kids.length:Int)==(1 :
 Int)),[])) nF) (ifB (z.lab.1 != (5:Int)) nF (ifB (z.lab.2.2.2.2.1 != (0:Int)) nF (ifT (decide
 ((0:Int)<=(0:Int)/\0<=z.kids.length/\(↑z.kids.length:Int)=(↑z.kids.length:Int)/\z.kids.length<=maxI/\z.kids.length=z.kids.length)) (ifB (Il
 z.kids 0 (Ag (Cd.str.den×Cd.bool.den)) (drop 0 z.kids)) (some (V.b true,[])) nF))))))) (ifB (z.lab.1==(2:Int)) (ifB
 (z.lab.2.2.2.2.1==(0:Int)) (some (V.b ((↑z.kids.length:Int)==(0:Int)),[])) nF) (ifB (z.lab.1==(3:Int)) (ifB (decide ((0 :
 Int)<=z.lab.2.2.2.2.1/\z.lab.2.2.2.2.1<=(20:Int))) (some (V.b ((↑z.kids.length:Int)==(0:Int)),[])) nF) (ifB (z.lab.1
 == (4:Int)) (ifB (z.lab.2.2.2.2.1==(0:Int)) (some (V.b ((↑z.kids.length:Int)==(1:Int)),[])) nF) (ifB (z.lab.1 != (5:Int))
 nF (ifB (z.lab.2.2.2.2.1 != (0:Int)) nF (ifT (decide ((0:Int)<=(0:Int)/\0<=z.kids.length/\
 (↑z.kids.length:Int)=(↑z.kids.length:Int)/\z.kids.length<=maxI/\z.kids.length=z.kids.length)) (ifB (Il z.kids 0 (Ag (Cd.str.den×Cd.bool.den))
 (drop 0 z.kids)) (some (V.b true,[])) nF)))))))):_):=by kernel_rfl
theorem Of (z:Rose Lab) (ks:RL) (hz:z.kids.length=ks.length) (hm:ks.length<=maxI) : ∀ (j i:Nat) (seen:List (By×Bool)),i+j=ks.length->∀ ex d,(Br.br (Il z.kids i seen (ks.drop i)) (.leaf (.exit 1,([],[]))) (.leaf (.ret,([.b false],[]))):Br (Ex×Dt)).run=some (ex,d)->
  Runs prog (Aa [(69,.rd1 AC)]) (Aa [(13,poE)]) 0 (body f158 0) poE ([.tp LCd z 0,.mref 0,.sl (.tree LCd) ks,.j (ks.length:Int),.j (i:Int)],[some (.mp .str .bool seen)]) ex d
 | 0,i,seen,hi,ex,d,h=>by
  have hr:=PF z ks seen ks.length i;rw [Ae (dcF (by omega))] at hr;have e1:ks.drop i=[]:=drop_eq_nil_of_le (by omega);rw [e1,Il] at h;obtain ⟨rfl,rfl⟩:=lfP h;exact stp hr
 | j+1,i,seen,hi,ex,d,h=>by
  have hl:i<ks.length:=by omega
  have hM:=mxI;have hr:=PF z ks seen ks.length i;rw [Af (dcT (by omega)),T2 (by omega)] at hr;simp only [ntN,gtE hl,Ap,Az (n:=i) (by omega)] at hr;rw [drop_eq_getElem_cons hl,Il] at h
  have stop : ∀ {x:Option (Ex×Dt)},x=some (.ret,([.b false],[]))->(Br.br false (.leaf (.exit 1,([],[]))) (.leaf (.ret,([.b false],[]))):Br (Ex×Dt)).run=some (ex,d)->x=some (ex,d)/\ex≠.normal:=fun hx h=>by
   obtain ⟨rfl,rfl⟩:=lfP h;exact ⟨hx,by simp⟩
  cases h1:(Fg .str seen ks[i].lab.2.1).getD false with
  | true=>
   rw [h1,Bool.true_or,if_pos rfl] at h;rw [h1,Bg] at hr;obtain ⟨g1,g2⟩:=stop hr h;exact .stop _ _ _ g1 g2
  | false=>
   rw [h1,Bool.false_or] at h;rw [h1,AR] at hr
   cases i with
   | zero=>
    rw [Ae (dcF (by omega))] at hr;rw [F0,if_neg (by simp)] at h;exact sts hr (Of z ks hz hm j 1 _ (by omega) ex d h)
   | succ i=>
    have hl':i<z.kids.length:=by omega
    have hw:i64.wrap (((i+1:Nat):Int)-1)=(i:Int):=by rw [Av (by omega) (by omega)]; omega
    rw [Af (dcT (by omega)),hw,T2 (by omega)] at hr;simp only [ntN,gtE hl',Ap] at hr;have hp:F0 z.kids (i+1) ks[i+1].lab.2.2.1=decide (z.kids[i].lab.2.2.1>=ks[i+1].lab.2.2.1):=by unfold F0; simp only [gtE hl']
    rw [hp] at h
    cases h2:decide (z.kids[i].lab.2.2.1>=ks[i+1].lab.2.2.1) with
    | true=>
     rw [h2,if_pos rfl] at h;rw [h2,Bg] at hr;obtain ⟨g1,g2⟩:=stop hr h;exact .stop _ _ _ g1 g2
    | false=>
     rw [h2,if_neg (by simp)] at h;rw [h2,AR] at hr;exact sts hr (Of z ks hz hm j (i+1+1) _ (by omega) ex d h)
theorem Ae8:Aw prog (Aa [(69,.rd1 AC)]) (Aa [(13,poE)]) 0 (f158.body.getD .skip):=by
 refine As (a:=body f158 0) (by kernel_rfl) fun d ex d' h=>?_
 unfold poE at h;dsimp only at h;split at h
 ·rename_i z ks k i seen;obtain ⟨hc,hx⟩:=Ad h;clear h;obtain ⟨h0,h1,rfl,h3,h4⟩:=of_decide_eq_true hc;obtain ⟨i,rfl⟩:=eq_ofNat_of_zero_le h0;simp only [ntN] at h1 hx;exact Of z ks h4 h3 (ks.length-i) i seen (by omega) ex d' hx
 ·cases h
theorem PH (z:Rose Lab) (hc:z.kids.length<=maxI):AT prog (Aa [(69,.rd1 AC)]) (Aa [(13,poE)]) f158 [.tp LCd z 0] []=some (.b (B5 z.lab z.kids),[]):=by
 rw [Zf]
 have hl : ∀ n:Nat,((z.kids.length:Int)==(n:Int))=(z.kids.length==n):=fun n=>by
  by_cases h:z.kids.length=n
  ·subst h; simp
  ·rw [beq_false_of_ne h,beq_false_of_ne (by omega)]
 have hl0:((z.kids.length:Int)==0)=(z.kids.length==0):=hl 0;have hl1:((z.kids.length:Int)==1)=(z.kids.length==1):=hl 1;have hd:decide ((0:Int)<=0/\0<=z.kids.length/\(z.kids.length:Int)=(z.kids.length:Int)/\z.kids.length<=maxI/\z.kids.length=z.kids.length)=true:=dcT ⟨by omega,by omega,rfl,hc,rfl⟩;unfold B5;rw [drop_zero,hl0,hl1]
 by_cases a1:z.lab.1=1
 ·rw [if_pos (.inl a1),a1];cases z.lab.2.2.2.2.1==0<;>rfl
 by_cases a2:z.lab.1=2
 ·rw [if_pos (.inr a2),a2];cases z.lab.2.2.2.2.1==0<;>rfl
 rw [Ae (beq_false_of_ne a1),Ae (beq_false_of_ne a2),if_neg (by rintro (h | h); exact a1 h; exact a2 h)]
 by_cases a3:z.lab.1=3
 ·rw [if_pos a3,a3,Af (by rfl)]
  by_cases a5:0<=z.lab.2.2.2.2.1/\z.lab.2.2.2.2.1<=20
  ·rw [dcT a5]; rfl
  ·rw [dcF a5]; rfl
 rw [Ae (beq_false_of_ne a3),if_neg a3]
 by_cases a4:z.lab.1=4
 ·rw [if_pos a4,a4,Af (by rfl)];cases z.lab.2.2.2.2.1==0<;>rfl
 rw [Ae (beq_false_of_ne a4),if_neg a4]
 by_cases a5:z.lab.1=5
 ·rw [Ae (by rw [a5]; rfl)]
  by_cases a6:z.lab.2.2.2.2.1=0
  ·rw [Ae (by rw [a6]; rfl),if_neg (by rintro (h | h); exact h a5; exact h a6),hd,Cw];cases Il z.kids 0 [] z.kids<;>rfl
  ·rw [Af (by simpa using a6),if_pos (.inr a6)]
 ·rw [Af (by simpa using a5),if_pos (.inl a5)]
theorem Zh:Ac prog 158 (Ent.rd1 Lg).F:=by
 refine fcK (kc func69 Fr KnowsL.nil).knows (Λ:=(Aa [(13,poE)])) func158 fun vs bs r hq=>?_
 unfold Ent.F Lg at hq;dsimp only at hq;split at hq
 ·rename_i z;obtain ⟨hc,hx⟩:=Ad hq;exact ⟨Ae8,(PH z (of_decide_eq_true hc)).trans hx⟩
 ·cases hq
def A9 {α:Type} (p:α->Bool):Nat->List α->Int
 | _,[]=>-1
 | n,z::l=>if p z=true then (n:Int) else A9 p (n+1) l
mutual
def Ah:Rose Lab->Bool
 | .node x ks=>B5 x ks&&A6 x.1 ks
def A6 (k:Int):RL->Bool
 | []=>true
 | z::l=>(DL k z.lab&&Ah z)&&A6 k l
end
mutual
def Cl:Rose Lab->Bool
 | .node x ks=>decide (x.2.1.length<=maxI)&&EF ks
def EF:RL->Bool
 | []=>true
 | z::l=>Cl z&&EF l
end
def CJ (z:Rose Lab):Bool:=z.lab.1==5&&z.lab.2.1==[]&&z.lab.2.2.1==0&&!z.lab.2.2.2.1&&Ah z&&decide (BG z<=5)&&decide (Aj z<=30)
def Fq (k:Int) (z:Rose Lab):Bool:=!(DL k z.lab&&Ah z)
def HE (n:Nat):Gm
 | [.tp LCd z 0],[]=>.need (decide (Aj z<=n/\Aj z<=1000000/\Cl z=true)) (.leaf (.b (Ah z),[]))
 | _,_=>.no
def Ef (n:Nat):Gm
 | [.tp LCd z 0,.bx [.tp LCd y 0] 0],[]=>.need (decide (Aj z<=n/\Aj z<=1000000/\Cl z=true)) (.leaf (.b (Fq y.lab.1 z),[]))
 | _,_=>.no
def R3:Gm
 | [.tp LCd z 0],[]=>.need (decide (Aj z<=1000000/\Cl z=true)) (.leaf (.b (Ah z),[]))
 | _,_=>.no
def O2:Gm
 | [.tp LCd z 0],[]=>.need (decide (Aj z<=1000000/\Cl z=true)) (.leaf (.b (CJ z),[]))
 | _,_=>.no
def krE (n:Nat):LoopEnt:=⟨19,[0,1,4,7,8],[],[4],fun
 | ([.sl (.tree LCd) l,.fn 160 [] [.ptr 0 0],.j _,.j k,.j i],[some (.box [.tp LCd y 0])])=>
  .need (decide (0<=i/\i.toNat<=l.length/\l.length<=maxI/\k=l.length)&&l.all (fun z:Rose Lab=>decide (Aj z<=n/\Aj z<=1000000/\Cl z=true))) (.br (decide (A9 (fun z:Rose Lab=>Fq y.lab.1 z) i.toNat (l.drop i.toNat)<0)) (.leaf (.exit 0,([],[some (.box [.tp LCd y 0])]))) (.leaf (.ret,([.j (A9 (fun z:Rose Lab=>Fq y.lab.1 z) i.toNat (l.drop i.toNat))],[some (.box [.tp LCd y 0])]))))
 | _=>.no⟩
def Zv (n:Nat):Gm
 | [.sl (.tree LCd) l,.fn 160 [] [.ptr 0 0]],[.box [.tp LCd y 0]]=>.need (l.all (fun z:Rose Lab=>decide (Aj z<=n/\Aj z<=1000000/\Cl z=true))) (.leaf (.j (A9 (fun z:Rose Lab=>Fq y.lab.1 z) 0 l),[some (.box [.tp LCd y 0])]))
 | _,_=>.no
def Ac4 (n:Nat):Gm
 | [.sl (.tree LCd) l,.fn 160 [] [.ptr 0 0]],[.box [.tp LCd y 0]]=>.need (l.all (fun z:Rose Lab=>decide (Aj z<=n/\Aj z<=1000000/\Cl z=true))) (.leaf (.b (l.any (fun z:Rose Lab=>Fq y.lab.1 z)),[some (.box [.tp LCd y 0])]))
 | _,_=>.no
theorem Jo {α:Type} (p:α->Bool) : ∀ (l:List α) (n:Nat),(A9 p n l = -1/\l.any p=false)\/((n:Int)<=A9 p n l/\A9 p n l<n+l.length/\l.any p=true)
 | [],n=>.inl ⟨rfl,rfl⟩
 | z::l,n=>by
  rw [A9,List.any_cons]
  by_cases h:p z=true
  ·rw [if_pos h,h]; exact .inr ⟨Int.le_refl _,by simp; omega,rfl⟩
  ·rw [if_neg h,show p z=false by simpa using h,Bool.false_or];rcases Jo p l (n+1) with ⟨h1,h2⟩ | ⟨h1,h2,h3⟩
   ·exact .inl ⟨h1,h2⟩
   ·exact .inr ⟨by omega,by simp; omega,h3⟩
theorem LJ {α:Type} (p:α->Bool) (l:List α) (n:Nat):decide (A9 p n l>=0)=l.any p:=by
 rcases Jo p l n with ⟨h1,h2⟩ | ⟨h1,h2,h3⟩
 ·rw [h2]; exact dcF (by omega)
 ·rw [h3]; exact dcT (by omega)
theorem HJ {α:Type} (p:α->Bool) (l:List α) (n:Nat) (h:A9 p n l<0):A9 p n l = -1:=by
 rcases Jo p l n with ⟨h1,h2⟩ | ⟨h1,h2⟩
 ·exact h1
 ·omega
theorem GU {α:Type} (p:α->Bool) : ∀ (l:List α) (n:Nat),0<=A9 p n l->∃ i,∃ h:i<l.length,A9 p n l=((n+i:Nat):Int)/\p l[i]=true/\l.find? p=some l[i]
 | [],n,h=>by rw [A9] at h; omega
 | z::l,n,h=>by
  rw [A9] at h ⊢
  by_cases hp:p z=true
  ·rw [if_pos hp]; exact ⟨0,by simp,by simp,hp,by simp [hp]⟩
  ·rw [if_neg hp] at h ⊢;obtain ⟨i,h1,h2,h3,h4⟩:=GU p l (n+1) h;exact ⟨i+1,by simp; omega,by rw [h2]; congr 1; omega,by simpa using h3,by simp [hp,h4]⟩
theorem Jn {α:Type} (p:α->Bool) : ∀ (l:List α) (n:Nat),A9 p n l<0->l.find? p=none
 | [],n,_=>rfl
 | z::l,n,h=>by
  rw [A9] at h
  by_cases hp:p z=true
  ·rw [if_pos hp] at h; omega
  ·rw [if_neg hp] at h;simp [hp,Jn p l (n+1) h]
theorem PP {z:Rose Lab} : ∀ {l:RL},EF l=true->z∈l->Cl z=true
 | [],_,h=>by cases h
 | y::l,hn,h=>by
  rw [EF,anE] at hn;rcases mem_cons.1 h with rfl | h
  ·exact hn.1
  ·exact PP hn.2 h
theorem WO {z:Rose Lab} (h:Cl z=true):z.lab.2.1.length<=maxI:=by
 cases z;rw [Cl,anE] at h;exact of_decide_eq_true h.1
theorem Uo {z:Rose Lab} (h:Cl z=true):EF z.kids=true:=by
 cases z;rw [Cl,anE] at h;exact h.2
theorem KY (k:Int) : ∀ l:RL,A6 k l = !(l.any fun z=>Fq k z)
 | []=>rfl
 | z::l=>by rw [A6,KY k l,List.any_cons,Fq]; cases DL k z.lab<;>cases Ah z<;>simp
theorem Qk (n:Nat) (hf:Ac prog 113 (Ent.rd1 (HE n)).F):Ac prog 160 (Ent.rd1 (Ef n)).F:=by
 refine fcK (kc func161 Acf (kc func113 hf KnowsL.nil)).knows (Λ:=Aa []) func160 fun vs bs r hq=>?_
 unfold Ent.F Ef at hq;dsimp only at hq;split at hq
 ·rename_i z y;obtain ⟨hc,hx⟩:=Ad hq;refine ⟨Ao _,Eq.trans ?_ hx⟩
  have e:AT prog (Aa [(161,.rd1 Og),(113,.rd1 (HE n))]) (Aa []) f160 [.tp LCd z 0,.bx [.tp LCd y 0] 0] []=((ifT (decide (List.length z.lab.2.1<=maxI)) (ifB (!DL y.lab.1 z.lab) (some (V.b true,[])) (ifT (decide (Aj z<=n/\Aj z<=1000000/\Cl z=true))
 (some (V.b !Ah z,[]))))):_):=by kernel_rfl
  have hn:=of_decide_eq_true hc;rw [e,Ab (dcT (WO hn.2.2))];unfold Fq
  cases DL y.lab.1 z.lab with
  | true=>rw [Ab hc]; rfl
  | false=>rfl
 ·cases hq
theorem Ql (n:Nat) (y:Rose Lab) (l:RL) (r k i:Int):Au prog (Aa [(160,.rd1 (Ef n))]) (Aa [(2,(krE n))]) 1 (body f80 0) (krE n) ([.sl (.tree LCd) l,.fn 160 [] [.ptr 0 0],.j r,.j k,.j i],[some (.box [.tp LCd y 0])]) =
 ((ifB (decide (i<k)) (ifT (decide (0<=i)&&decide (i<(↑l.length:Int))) (An l[i.toNat]? fun z=>ifT (decide (Aj z<=n/\Aj z<=1000000/\Cl z =
 true)) (ifB (Fq y.lab.1 z) (some (Ex.ret,[V.j i],[some (Blk.box [V.tp LCd y 0])])) (some (Ex.normal,[V.sl LCd.tree l,V.fn 160
 [] [V.ptr 0 0],V.j r,V.j k,V.j (i64.wrap (i+1))],[some (Blk.box [V.tp LCd y 0])]))))) (some (Ex.exit 0,[],[some (Blk.box [V.tp LCd
 y 0])]))):_):=by kernel_rfl
theorem Ti (n:Nat) (y:Rose Lab) {l:RL} {r:Int} (hx:l.length<=maxI) (hs:(l.all (fun z:Rose Lab=>decide (Aj z<=n/\Aj z<=1000000/\Cl z=true)))=true) : ∀ (j i:Nat),i+j=l.length->∀ e d',(.br (decide (A9 (fun z:Rose Lab=>Fq y.lab.1 z) i (l.drop i)<0)) (.leaf (.exit 0,([],[some (.box [.tp LCd y 0])]))) (.leaf (.ret,([.j (A9 (fun z:Rose Lab=>Fq y.lab.1 z) i (l.drop i))],[some (.box [.tp LCd y 0])]))):Br (Ex×Dt)).run=some (e,d')->
  Runs prog (Aa [(160,.rd1 (Ef n))]) (Aa [(2,(krE n))]) 1 (body f80 0) (krE n) ([.sl (.tree LCd) l,.fn 160 [] [.ptr 0 0],.j r,.j (l.length:Int),.j (i:Int)],[some (.box [.tp LCd y 0])]) e d'
 | 0,i,hi,e,d',h=>by
  have e1:l.drop i=[]:=drop_eq_nil_of_le (by omega);rw [e1,Dy,A9,if_pos (by omega)] at h;cases h;have hr:=Ql n y l r l.length i;rw [Ae (dcF (by omega))] at hr;exact stp hr
 | j+1,i,hi,e,d',h=>by
  have h1:i<l.length:=by omega
  have hr:=Ql n y l r l.length i;rw [Af (dcT (by omega)),T2 (by omega)] at hr;simp only [ntN,gtE h1,Ap,Az (n:=i) (by omega)] at hr;have hz:=of_decide_eq_true (all_eq_true.1 hs _ (getElem_mem h1));rw [Ab (by simpa only [anE,dcE] using hz)] at hr;rw [drop_eq_getElem_cons h1,Dy,A9] at h
  by_cases he:(fun z:Rose Lab=>Fq y.lab.1 z) l[i]=true
  ·rw [if_pos he,if_neg (by omega)] at h;cases h;rw [Af he] at hr;exact stp hr
  ·rw [if_neg he] at h;rw [Ae (by simpa using he)] at hr;exact sts hr (Ti n y hx hs j (i+1) (by omega) e d' (by rw [Dy]; exact h))
theorem Aff (n:Nat):Aw prog (Aa [(160,.rd1 (Ef n))]) (Aa [(2,(krE n))]) 1 (f80.body.getD .skip):=by
 refine As (a:=body f80 0) (by kernel_rfl) fun d e d' h=>?_
 unfold krE at h;dsimp only at h;split at h
 ·obtain ⟨hc,h'⟩:=Ad h;rw [anE] at hc;obtain ⟨hc,hs⟩:=hc;obtain ⟨h0,h1,h2,rfl⟩:=of_decide_eq_true hc;obtain ⟨i,rfl⟩:=eq_ofNat_of_zero_le h0;exact Ti n _  h2 hs _ i (Nat.add_sub_of_le h1) e d' h'
 ·cases h
theorem Ac7 (n:Nat) (y:Rose Lab) (l:RL) (hx:l.length<=maxI) (hs:(l.all (fun z:Rose Lab=>decide (Aj z<=n/\Aj z<=1000000/\Cl z=true)))=true):AT prog (Aa [(160,.rd1 (Ef n))]) (Aa [(2,(krE n))]) f80 [.sl (.tree LCd) l,.fn 160 [] [.ptr 0 0]] [.box [.tp LCd y 0]]=some (.j (A9 (fun z:Rose Lab=>Fq y.lab.1 z) 0 l),[some (.box [.tp LCd y 0])]):=by
 have e:AT prog (Aa [(160,.rd1 (Ef n))]) (Aa [(2,(krE n))]) f80 [.sl (.tree LCd) l,.fn 160 [] [.ptr 0 0]] [.box [.tp LCd y 0]] =
  ((ifT (decide ((0:Int)<=(0:Int)/\0<=l.length/\l.length<=maxI/\(↑l.length:Int)=(↑l.length:Int))&&l.all fun z=>decide (Aj z<=n/\Aj z<=
 1000000/\Cl z=true)) (ifB (decide (A9 (fun z=>Fq y.lab.1 z) 0 (drop 0 l)<(0:Int))) (some (V.j (-1),[some (Blk.box
 [V.tp LCd y 0])])) (some (V.j (A9 (fun z=>Fq y.lab.1 z) 0 (drop 0 l)),[some (Blk.box [V.tp LCd y 0])])))):_):=by kernel_rfl
 rw [e,Ab (by rw [anE]; exact ⟨dcT ⟨by omega,by omega,hx,rfl⟩,hs⟩)];simp only [drop_zero]
 by_cases q:A9 (fun z:Rose Lab=>Fq y.lab.1 z) 0 l<0
 ·rw [Af (dcT q),HJ _ _ _ q]
 ·rw [Ae (dcF q)]
theorem Ac5 (n:Nat) (hf:Ac prog 160 (Ent.rd1 (Ef n)).F):Ac prog 80 (Ent.own (Zv n)).F:=by
 refine Da (kc func160 hf KnowsL.nil).knows (Λ:=(Aa [(2,(krE n))])) func80 (c:=f80.body.getD .skip) (by kernel_rfl) fun vs bs r h hv hb=>?_
 unfold Ent.F Zv at h;dsimp only at h;split at h
 ·rename_i l y;obtain ⟨hc,h'⟩:=Ad h;exact ⟨Aff n,(Ac7 n y l (hv (.sl (.tree LCd) l) (by simp)).1 hc).trans (by cases h'; rfl)⟩
 ·cases h
theorem Zw (n:Nat) (y:Rose Lab) (l:RL) (hs:(l.all (fun z:Rose Lab=>decide (Aj z<=n/\Aj z<=1000000/\Cl z=true)))=true):AT prog (Aa [(80,.own (Zv n))]) (Aa []) f159 [.sl (.tree LCd) l,.fn 160 [] [.ptr 0 0]] [.box [.tp LCd y 0]]=some (.b (l.any (fun z:Rose Lab=>Fq y.lab.1 z)),[some (.box [.tp LCd y 0])]):=by
 have e:AT prog (Aa [(80,.own (Zv n))]) (Aa []) f159 [.sl (.tree LCd) l,.fn 160 [] [.ptr 0 0]] [.box [.tp LCd y 0]] =
  ((ifT (l.all fun z=>decide (Aj z<=n/\Aj z<=1000000/\Cl z=true)) (some (V.b (decide (A9 (fun z=>Fq y.lab.1 z) 0 l>=(0:Int))),[some
 (Blk.box [V.tp LCd y 0])]))):_):=by kernel_rfl
 rw [e];rw [Ab hs];rw [LJ]
theorem Ac6 (n:Nat) (hf:Ac prog 160 (Ent.rd1 (Ef n)).F):Ac prog 159 (Ent.own (Ac4 n)).F:=by
 refine fcK (kc func80 (Ac5 n hf) KnowsL.nil).knows (Λ:=Aa []) func159 fun vs bs r h=>?_
 unfold Ent.F Ac4 at h;dsimp only at h;split at h
 ·rename_i l y;obtain ⟨hc,h'⟩:=Ad h;exact ⟨Ao _,(Zw n y l hc).trans (by cases h'; rfl)⟩
 ·cases h
theorem RS : ∀ n,(∀ m,m<n->Ac prog 113 (Ent.rd1 (HE m)).F)->Ac prog 113 (Ent.rd1 (HE n)).F
 | 0,_=>AP fun vs bs=>by
  unfold Ent.F HE;dsimp only;split
  ·rename_i z;have:=BN z;rw [dcF (show ¬(Aj z<=0/\Aj z<=1000000/\Cl z=true) by omega)]; rfl
  ·rfl
 | n+1,ih=>by
  have hC:=Ac6 n (Qk n (ih n (lt_succ_self n)));refine fcK (kc func158 Zh (kc func159 hC KnowsL.nil)).knows (Λ:=Aa []) func113 fun vs bs r hq=>?_
  unfold Ent.F HE at hq;dsimp only at hq;split at hq
  ·rename_i z;obtain ⟨hc,hx⟩:=Ad hq;obtain ⟨h1,h2,h3⟩:=of_decide_eq_true hc;refine ⟨Ao _,Eq.trans ?_ hx⟩
   have e:AT prog (Aa [(158,.rd1 Lg),(159,.own (Ac4 n))]) (Aa []) f113 [.tp LCd z 0] []=((ifT (decide (z.kids.length<=maxI)) (ifB (B5 z.lab z.kids) (ifT (z.kids.all fun z=>decide (Aj z<=n/\Aj z<=1000000/\Cl z=true)) (some (V.b
 !z.kids.any fun z_1=>Fq z.lab.1 z_1,[]))) nF)):_):=by kernel_rfl
   rw [AE] at h1 h2;have hl:=Bc z.kids;have hM:=mxI;have hall:(z.kids.all fun z:Rose Lab=>decide (Aj z<=n/\Aj z<=1000000/\Cl z=true))=true:=all_eq_true.2 fun w hw=>dcT ⟨by have:=Bo hw; omega,by have:=Bo hw; omega,PP (Uo h3) hw⟩
   rw [e,Ab (dcT (by omega))];have hr:Ah z=(B5 z.lab z.kids&&!(z.kids.any fun w=>Fq z.lab.1 w)):=by cases z; rw [Ah,KY]; rfl
   rw [hr]
   cases B5 z.lab z.kids with
   | true=>rw [Bg,Ab hall]; rfl
   | false=>rfl
  ·cases hq
theorem right:Ac prog 113 (Ent.rd1 R3).F:=by
 refine Bb (F:=fun n=>(Ent.rd1 (HE n)).F) RS fun vs bs r h=>?_
 unfold Ent.F R3 at h;dsimp only at h;split at h
 ·rename_i z;obtain ⟨hc,hx⟩:=Ad h;obtain ⟨h1,h2⟩:=of_decide_eq_true hc;refine ⟨1000000,?_⟩;show (Br.need (decide (Aj z<=1000000/\Aj z<=1000000/\Cl z=true)) (.leaf (.b (Ah z),[]))).run=some r;rw [dcT (show Aj z<=1000000/\Aj z<=1000000/\Cl z=true from ⟨h1,h1,h2⟩)];exact hx
 ·cases h
theorem Afi:Ac prog 71 (Ent.rd1 O2).F:=by
 refine fcK (kc func113 right (kc func114 Afn (kc func115 Adf KnowsL.nil))).knows (Λ:=Aa []) func71 fun vs bs r hq=>?_
 unfold Ent.F O2 at hq;dsimp only at hq;split at hq
 ·rename_i z;obtain ⟨hc,hx⟩:=Ad hq;obtain ⟨h1,h2⟩:=of_decide_eq_true hc;refine ⟨Ao _,Eq.trans ?_ hx⟩
  have e:AT prog (Aa [(113,.rd1 R3),(114,.rd1 Sb),(115,.rd1 O3)]) (Aa []) f71 [.tp LCd z 0] []=((ifB (z.lab.1==(5:Int)) (ifB (z.lab.2.1==Ag UInt8) (ifB (z.lab.2.2.1==(0:Int)) (ifB (!z.lab.2.2.2.1) (ifT (decide (Aj z<=1000000
 /\ Cl z=true)) (ifB (Ah z) (ifT (decide (Aj z<=1000000)) (ifB (decide ((↑(BG z):Int)<=(5:Int))) (ifT (decide (Aj z<=1000000)) (some
 (V.b (decide ((↑(Aj z):Int)<=(30:Int))),[]))) nF)) nF)) nF) nF) nF) nF):_):=by kernel_rfl
  rw [e,dcT h1,hc];have d1:decide ((BG z:Int)<=5)=decide (BG z<=5):=decide_eq_decide.2 (by omega);have d2:decide ((Aj z:Int)<=30)=decide (Aj z<=30):=decide_eq_decide.2 (by omega);rw [d1,d2];unfold CJ;cases z.lab.1==5<;>cases z.lab.2.1==[]<;>cases z.lab.2.2.1==0<;>cases z.lab.2.2.2.1<;>cases Ah z<;>cases decide (BG z<=5)<;>rfl
 ·cases hq
def Ay (l:List Ty):Bool:=decide (1<=l.length/\l.length<=30)&&decide (Ba l 0=some (-1))&&(kf l 0).2==l.length&&CJ (kf l 0).1
def nmL (l:List Ty):Bool:=l.all fun x=>decide (x.2.1.length<=maxI)
def Eg:Gm
 | [.agg [.sl TCd l]],[]=>.need (decide (l.length<=4000000000)&&nmL l) (.br (Ay l) (.leaf (.ptr 0 0,[some (.box [.j (kf l 0).1.lab.1,.s (kf l 0).1.lab.2.1,.j (kf l 0).1.lab.2.2.1,.b (kf l 0).1.lab.2.2.2.1,.j (kf l 0).1.lab.2.2.2.2.1,.ref 1 0 (kf l 0).1.kids.length]),R0 (.tree LCd) (kf l 0).1.kids])) (.leaf (.np,[])))
 | _,_=>.no
def FX:Gm
 | [.agg [.sl TCd l]],[]=>.need (decide (l.length<=4000000000)&&nmL l) (.leaf (.b (Ay l),[]))
 | _,_=>.no
theorem Ny {l:List Ty} {g:Nat->Rose Lab×Nat} {a:Nat} (hg : ∀ e,e<l.length->e+Aj (g e).1=(g e).2) : ∀ (n e:Nat) (ks:RL),(AB g l a n e ks).2+Ak ks=e+Ak (AB g l a n e ks).1
 | 0,e,ks=>rfl
 | n+1,e,ks=>by
  unfold AB;split
  ·rename_i hu;have h1:=hg e (Ev hu);have h2:=Ny (a:=a) hg n (g e).2 (ks++[(g e).1])
   have h3 : ∀ (ks:RL) (z:Rose Lab),Ak (ks++[z])=Ak ks+Aj z:=fun ks z=>by
    induction ks with
    | nil=>simp [Ak]
    | cons y ks ih=>rw [cons_append,Ak,Ak,ih]; omega
   rw [h3] at h2;omega
  ·rfl
theorem Tl (l:List Ty) : ∀ f a,a<l.length->a+Aj (kfr l f a).1=(kfr l f a).2
 | 0,a,h=>by simp [kfr,Aj,Ak]
 | f+1,a,h=>by
  unfold kfr;dsimp only
  cases Ar (A5 l a).1 with
  | true=>
   have:=Ny (a:=a) (Tl l f) l.length (a+1) [];rw [Ak] at this;rw [cond_true,Aj]; omega
  | false=>rw [cond_false,Aj,Ak]
theorem L6 {l:List Ty} {a:Nat} (h:a<l.length):a+Aj (kf l a).1=(kf l a).2:=Tl l l.length a h
theorem Ll : ∀ (ks:RL) (z:Rose Lab),EF ks=true->Cl z=true->EF (ks++[z])=true
 | [],z,_,h=>by simp [EF,h]
 | y::ks,z,h1,h2=>by
  rw [EF,anE] at h1;rw [cons_append,EF,h1.1,Ll ks z h1.2 h2]; rfl
theorem Nx {l:List Ty} {g:Nat->Rose Lab×Nat} {a:Nat} (hg : ∀ e,Cl (g e).1=true) : ∀ (n e:Nat) (ks:RL),EF ks=true->EF (AB g l a n e ks).1=true
 | 0,e,ks,h=>h
 | n+1,e,ks,h=>by
  unfold AB;split
  ·exact Nx hg n _ _ (Ll _ _ h (hg e))
  ·exact h
theorem Zy {l:List Ty} (hn:nmL l=true) : ∀ f a,Cl (kfr l f a).1=true:=by
 have lab : ∀ a,(A5 l a).2.1.length<=maxI:=fun a=>by
  unfold A5
  cases h:l[a]? with
  | none=>exact Nat.zero_le _
  | some x=>exact of_decide_eq_true (all_eq_true.1 hn x (List.mem_of_getElem? h))
 intro f
 induction f with
 | zero=>intro a; simp [kfr,Cl,EF,lab a]
 | succ f ih=>
  intro a;unfold kfr;dsimp only
  cases Ar (A5 l a).1 with
  | true=>rw [cond_true,Cl,dcT (lab a),Nx ih _ _ _ rfl]; rfl
  | false=>rw [cond_false,Cl,dcT (lab a)]; rfl
theorem RV (l:List Ty) (h1:l.length<=4000000000) (h2:nmL l=true):Cx prog (Aa [(69,.rd1 AC),(70,.rd1 GQ),(71,.rd1 O2)]) (Aa []) f29 [.agg [.sl TCd l]] []=(.br (Ay l) (.leaf (.ptr 0 0,[some (.box [.j (kf l 0).1.lab.1,.s (kf l 0).1.lab.2.1,.j (kf l 0).1.lab.2.2.1,.b (kf l 0).1.lab.2.2.2.1,.j (kf l 0).1.lab.2.2.2.2.1,.ref 1 0 (kf l 0).1.kids.length]),R0 (.tree LCd) (kf l 0).1.kids])) (.leaf (.np,[])):Br (V×List (Option Blk))).run:=by
 have e:Cx prog (Aa [(69,.rd1 AC),(70,.rd1 GQ),(71,.rd1 O2)]) (Aa []) f29 [.agg [.sl TCd l]] []=((ifB (!decide (1<=(↑l.length:Int)/\(↑l.length:Int)<=(30:Int))) (some (V.np,[])) (ifT (decide ((0:Int)<=(0:Int))&&decide (0<(↑l.length:Int))) (An
 l[0]? fun z=>ifB (z.2.2.2.2.1 != (-1:Int)) (some (V.np,[])) (ifT (decide ((0:Int)<=(0:Int)/\0<l.length/\l.length<=(4000000000 :
 Nat))) (ifB ((↑(kf l 0).2:Int) != (↑l.length:Int)) (some (V.np,[])) (ifT (decide (Aj (Rose.node ((kf l 0).1.lab.1,(kf l (0 :
 Nat)).1.lab.2.1,(kf l 0).1.lab.2.2.1,(kf l 0).1.lab.2.2.2.1,(kf l 0).1.lab.2.2.2.2.1,()) (take (kf l
 0).1.kids.length (drop 0 (kf l 0).1.kids)))<=1000000/\Cl (Rose.node ((kf l 0).1.lab.1,(kf l (0 :
 Nat)).1.lab.2.1,(kf l 0).1.lab.2.2.1,(kf l 0).1.lab.2.2.2.1,(kf l 0).1.lab.2.2.2.2.1,()) (take (kf l
 0).1.kids.length (drop 0 (kf l 0).1.kids)))=true)) (ifB (!CJ (Rose.node ((kf l 0).1.lab.1,(kf l (0 :
 Nat)).1.lab.2.1,(kf l 0).1.lab.2.2.1,(kf l 0).1.lab.2.2.2.1,(kf l 0).1.lab.2.2.2.2.1,()) (take (kf l
 0).1.kids.length (drop 0 (kf l 0).1.kids)))) (some (V.np,[])) (some (V.ptr 0 0,[some (Blk.box [V.j (kf l 0).1.lab.1,
 V.s (kf l 0).1.lab.2.1,V.j (kf l 0).1.lab.2.2.1,V.b (kf l 0).1.lab.2.2.2.1,V.j (kf l (0 :
 Nat)).1.lab.2.2.2.2.1,V.ref 1 0 (kf l 0).1.kids.length]),R0 LCd.tree (kf l 0).1.kids]))))))))):_):=by kernel_rfl
 rw [e];clear e;unfold Ay
 by_cases a1:1<=l.length/\l.length<=30
 ·have hl:0<l.length:=by omega
  have d1:decide ((1:Int)<=(l.length:Int)/\(l.length:Int)<=30)=true:=dcT (by omega);have d2:(decide ((0:Int)<=0)&&decide ((0:Int)<(l.length:Int)))=true:=by simp only [anE,dcE]; omega
  have d3:decide ((0:Int)<=0/\0<l.length/\l.length<=4000000000)=true:=dcT ⟨by omega,hl,h1⟩;have hc:=L6 hl;have hb:=CI l 0 hl;have d4:decide (Aj (kf l 0).1<=1000000/\Cl (kf l 0).1=true)=true:=dcT ⟨by omega,Zy h2 _ _⟩;have ht:=C9 (kf l 0).1;rw [drop_zero,take_length] at ht;rw [d1,dcT a1];simp only [Bool.not_true,AR,d2,Cw,gtE hl,Ap,d3,drop_zero,take_length,ht,d4,Bool.true_and];have hu:Ba l 0=some (l[0].2.2.2.2.1):=by unfold Ba; rw [gtE hl]; rfl
  rw [hu]
  by_cases a2:l[0].2.2.2.2.1 = -1
  ·rw [a2]
   by_cases a3:(kf l 0).2=l.length
   ·rw [a3];cases CJ (kf l 0).1<;>simp [Br.run]
   ·rw [beq_false_of_ne a3];have:(((kf l 0).2:Int) != (l.length:Int))=true:=by simpa using a3
    simp [this,Br.run]
  ·have:(l[0].2.2.2.2.1 != (-1:Int))=true:=by simpa using a2
   simp [a2,this,Br.run]
 ·have d1:decide ((1:Int)<=(l.length:Int)/\(l.length:Int)<=30)=false:=dcF (by omega);rw [d1,dcF a1];rfl
theorem Jg:Ac prog 29 (Ent.rd1 Eg).F:=by
 refine fcN (kc func69 Fr (kc func70 Xa (kc func71 Afi KnowsL.nil))).knows (Λ:=Aa []) func29 fun vs bs r hq=>?_
 unfold Ent.F Eg at hq;dsimp only at hq;split at hq
 ·rename_i l;obtain ⟨hc,hx⟩:=Ad hq;rw [anE] at hc;exact ⟨Ao _,(RV l (of_decide_eq_true hc.1) hc.2).trans hx⟩
 ·cases hq
def CS (k:Int):Nat->List Ty->List Int
 | _,[]=>[]
 | i,x::l=>if x.2.2.2.2.1=k then (i:Int)::CS k (i+1) l else CS k (i+1) l
def BB (l:List Ty) (k:Nat):List Int:=CS k (k+1) (l.drop (k+1))
def t2 (l:List Ty):Nat->Nat->Rose Lab
 | 0,k=>.node (A5 l k) []
 | f+1,k=>.node (A5 l k) ((BB l k).map fun i=>t2 l f i.toNat)
def t2L (l:List Ty) (k:Nat):Rose Lab:=t2 l l.length k
def Ee:LoopEnt:=⟨29,[1,2,5,6],[5],[],fun
 | ([.j k,.ptr 0 0,.ref 1 0 n,.j i],[some (.box [.sl TCd l]),R0 (.int .i64) o])=>.need (decide (0<=i/\i.toNat<=l.length/\l.length<=4000000000/\n=o.length/\o.length<=i.toNat)) (.leaf (.exit 0,([.ref 0 0 (o++CS k i.toNat (l.drop i.toNat)).length],[R0 (.int .i64) (o++CS k i.toNat (l.drop i.toNat))])))
 | _=>.no⟩
def Kx:Gm
 | [.agg [.sl TCd l],.j k],[]=>.need (decide (0<=k/\k.toNat<l.length/\l.length<=4000000000)) (.leaf (.ref 0 0 (BB l k.toNat).length,[R0 (.int .i64) (BB l k.toNat)]))
 | _,_=>.no
def F4 (n:Nat):Gm
 | [.agg [.sl TCd l],.j k],[]=>.need (decide (0<=k/\k.toNat<l.length/\l.length<=4000000000/\l.length-k.toNat<=n)) (.leaf (.agg [.j (t2L l k.toNat).lab.1,.s (t2L l k.toNat).lab.2.1,.j (t2L l k.toNat).lab.2.2.1,.b (t2L l k.toNat).lab.2.2.2.1,.j (t2L l k.toNat).lab.2.2.2.2.1,.ref 0 0 (t2L l k.toNat).kids.length],[R0 (.rose LCd) (t2L l k.toNat).kids]))
 | _,_=>.no
def C7:Gm
 | [.agg [.sl TCd l],.j k],[]=>.need (decide (0<=k/\k.toNat<l.length/\l.length<=4000000000)) (.leaf (.agg [.j (t2L l k.toNat).lab.1,.s (t2L l k.toNat).lab.2.1,.j (t2L l k.toNat).lab.2.2.1,.b (t2L l k.toNat).lab.2.2.2.1,.j (t2L l k.toNat).lab.2.2.2.2.1,.ref 0 0 (t2L l k.toNat).kids.length],[R0 (.rose LCd) (t2L l k.toNat).kids]))
 | _,_=>.no
def Ed (n:Nat):LoopEnt:=⟨43,[2,4,6,27,28,29],[4,6],[],fun
 | ([.ptr 0 0,.ptr 1 0,.ptr 2 0,.ref 3 0 p,.j m,.j i],[some (.box [.sl TCd l]),some (.box [.j 0,.s [],.j 0,.b false,.j 0,.ref 4 0 0]),some (.box [.j x0,.s x1,.j x2,.b x3,.j x4,.ref 5 0 k]),R0 (.int .i64) q,R0 (.rose LCd) [],R0 (.rose LCd) ks])=>.need (decide (0<=i/\i.toNat<=q.length/\m=q.length/\p=q.length/\k=ks.length/\ks.length<=i.toNat/\q.length<=4000000000/\l.length<=4000000000)&&(q.all fun i:Int=>decide (0<=i/\i.toNat<l.length/\l.length-i.toNat<=n))) (.leaf (.exit 0,([.ptr 0 0,.ptr 1 0],[some (.box [.j 0,.s [],.j 0,.b false,.j 0,.ref 2 0 0]),some (.box [.j x0,.s x1,.j x2,.b x3,.j x4,.ref 3 0 (ks++(q.drop i.toNat).map fun i=>t2L l i.toNat).length]),R0 (.rose LCd) [],R0 (.rose LCd) (ks++(q.drop i.toNat).map fun i=>t2L l i.toNat)])))
 | _=>.no⟩
theorem Nz {k:Int} : ∀ {l:List Ty} {i:Nat} {x:Int},x∈CS k i l->∃ j:Nat,x=(j:Int)/\i<=j/\j<i+l.length
 | [],i,x,h=>by simp [CS] at h
 | y::l,i,x,h=>by
  rw [CS] at h
  have rest:x∈CS k (i+1) l->∃ j:Nat,x=(j:Int)/\i<=j/\j<i+(y::l).length:=fun h=>by
   obtain ⟨j,h1,h2,h3⟩:=Nz h;exact ⟨j,h1,by omega,by simp; omega⟩
  split at h
  ·rcases mem_cons.1 h with rfl | h
   ·exact ⟨i,rfl,Nat.le_refl _,by simp⟩
   ·exact rest h
  ·exact rest h
theorem F7 {l:List Ty} {k:Nat} {x:Int} (h:x∈BB l k) : ∃ j:Nat,x=(j:Int)/\k<j/\j<l.length:=by
 obtain ⟨j,h1,h2,h3⟩:=Nz h;rw [List.length_drop] at h3;exact ⟨j,h1,by omega,by omega⟩
theorem N0 (k:Int) : ∀ (l:List Ty) (i:Nat),(CS k i l).length<=l.length
 | [],i=>Nat.le_refl _
 | y::l,i=>by
  rw [CS];have:=N0 k l (i+1);split<;>simp<;>omega
theorem SE (l:List Ty) : ∀ (f f' k:Nat),l.length-k<=f->l.length-k<=f'->k<l.length->t2 l f k=t2 l f' k
 | 0,f',k,h1,_,h=>by omega
 | f+1,0,k,_,h1,h=>by omega
 | f+1,f'+1,k,h1,h2,h=>by
  unfold t2;congr 1;refine List.map_congr_left fun x hx=>?_
  obtain ⟨j,rfl,h3,h4⟩:=F7 hx;exact SE l f f' _ (by simp; omega) (by simp; omega) (by simpa using h4)
theorem VM {l:List Ty} {k:Nat} (h:k<l.length):t2L l k = .node (A5 l k) ((BB l k).map fun i=>t2L l i.toNat):=by
 obtain ⟨m,hm⟩ : ∃ m,l.length=m+1:=⟨l.length-1,by omega⟩
 unfold t2L
 conv=>lhs; rw [hm]
 rw [t2];congr 1;refine List.map_congr_left fun x hx=>?_
 obtain ⟨j,rfl,h3,h4⟩:=F7 hx;exact SE l m l.length _ (by simp; omega) (by simp) (by simpa using h4)
theorem Iv (l:List Ty) (k:Int) (n:Nat) (i:Int) (o:List Int):Au prog (Aa []) (Aa [(3,Ee)]) 0 (body f83 0) Ee ([.j k,.ptr 0 0,.ref 1 0 n,.j i],[some (.box [.sl TCd l]),R0 (.int .i64) o]) =
 ((ifB (decide (i<(↑l.length:Int))) (ifT (decide (0<=i)&&decide (i<(↑l.length:Int))) (An l[i.toNat]? fun z=>ifB (z.2.2.2.2.1==k) (ifT (decide ((n
 + 1)*8<=140737488355328)&&decide (n+1<=maxI)) (some (Ex.normal,[V.j k,V.ptr 0 0,V.ref 1 0 (n+1),V.i .i64
 (i64.wrap (i+1))],[some (Blk.box [V.sl TCd l]),R0 (Cd.int .i64) (take n (drop 0 o)++i::Ag (Cd.int
 .i64).den)]))) (some (Ex.normal,[V.j k,V.ptr 0 0,V.ref 1 0 n,V.j (i64.wrap (i+1))],[some (Blk.box [V.sl TCd l]),R0 (Cd.int .i64) o])))) (some (Ex.exit 0,[V.ref 0 0 n],[R0 (Cd.int .i64) o]))):_):=by kernel_rfl
theorem G3 (l:List Ty) (k:Int) (hl:l.length<=4000000000) : ∀ (j i:Nat) (o:List Int),i+j=l.length->o.length<=i->
  Runs prog (Aa []) (Aa [(3,Ee)]) 0 (body f83 0) Ee ([.j k,.ptr 0 0,.ref 1 0 o.length,.j (i:Int)],[some (.box [.sl TCd l]),R0 (.int .i64) o]) (.exit 0) ([.ref 0 0 (o++CS k i (l.drop i)).length],[R0 (.int .i64) (o++CS k i (l.drop i))])
 | 0,i,o,hi,ho=>by
  have hr:=Iv l k o.length i o;rw [Ae (dcF (by omega))] at hr;rw [drop_eq_nil_of_le (by omega),CS,append_nil];exact stp hr
 | j+1,i,o,hi,ho=>by
  have h1:i<l.length:=by omega
  have hM:=mxI;have hr:=Iv l k o.length i o;rw [Af (dcT (by omega)),T2 (by omega)] at hr;simp only [ntN,gtE h1,Ap,Az (n:=i) (by omega),drop_zero,take_length] at hr;rw [drop_eq_getElem_cons h1,CS]
  by_cases h2:l[i].2.2.2.2.1=k
  ·rw [Af (by rw [h2]; exact beq_self_eq_true _),T2 (by omega)] at hr;rw [if_pos h2];have ih:=G3 l k hl j (i+1) (o++[(i:Int)]) (by omega) (by simp; omega);rw [append_assoc] at ih;exact sts (hr.trans (by simp)) ih
  ·rw [Ae (beq_false_of_ne h2)] at hr;rw [if_neg h2];exact sts hr (G3 l k hl j (i+1) o (by omega) (by omega))
theorem U3:Aw prog (Aa []) (Aa [(3,Ee)]) 0 (f83.body.getD .skip):=by
 refine As (a:=body f83 0) (by kernel_rfl) fun d ex d' h=>?_
 unfold Ee at h;dsimp only at h;split at h
 ·rename_i k n i l o;obtain ⟨hc,hx⟩:=Ad h;clear h;obtain ⟨h0,h1,h2,rfl,h4⟩:=of_decide_eq_true hc;obtain ⟨i,rfl⟩:=eq_ofNat_of_zero_le h0;simp only [ntN] at h1 h4 hx;obtain ⟨rfl,rfl⟩:=lfP hx;exact G3 l k h2 (l.length-i) i o (by omega) h4
 ·cases h
theorem RR (l:List Ty) (k:Int) (hc:0<=k/\k.toNat<l.length/\l.length<=4000000000):Cx prog (Aa []) (Aa [(3,Ee)]) f83 [.agg [.sl TCd l],.j k] []=some (.ref 0 0 (BB l k.toNat).length,[R0 (.int .i64) (BB l k.toNat)]):=by
 have e:Cx prog (Aa []) (Aa [(3,Ee)]) f83 [.agg [.sl TCd l],.j k] []=((ifT (decide (0<=i64.wrap (k+1)/\(i64.wrap (k+1)).toNat<=l.length/\l.length<=4000000000/\0=0/\0<=
 (i64.wrap (k+1)).toNat)) (some (V.ref 0 0 (Ag (Cd.int .i64).den++CS k (i64.wrap (k+1)).toNat (drop (i64.wrap (k+1)).toNat
 l)).length,[R0 (Cd.int .i64) (Ag (Cd.int .i64).den++CS k (i64.wrap (k+1)).toNat (drop (i64.wrap (k+1)).toNat
 l))]))):_):=by kernel_rfl
 rw [e];clear e;obtain ⟨h0,h1,h2⟩:=hc;obtain ⟨k,rfl⟩:=eq_ofNat_of_zero_le h0;rw [ntN] at h1;have hM:=mxI;rw [Az (n:=k) (by omega),Ab (dcT ⟨by omega,by omega,h2,by simp,by simp⟩)];simp only [ntN,A7,List.nil_append];rfl
theorem WT:Ac prog 83 (Ent.rd1 Kx).F:=by
 refine fcN KnowsL.nil.knows (Λ:=(Aa [(3,Ee)])) func83 fun vs bs r hq=>?_
 unfold Ent.F Kx at hq;dsimp only at hq;split at hq
 ·rename_i l k;obtain ⟨hc,hx⟩:=Ad hq;exact ⟨U3,(RR l k (of_decide_eq_true hc)).trans hx⟩
 ·cases hq
abbrev Yx (n:Nat):FuncId->Option Ent:=Aa [(83,.rd1 Kx),(39,.rd1 (F4 n))]
theorem It (n:Nat) (l:List Ty) (x0:Int) (x1:By) (x2:Int) (x3:Bool) (x4:Int) (p:Nat) (m i:Int) (k:Nat) (q:List Int) (ks:RL):Au prog (Yx n) (Aa [(4,Ed n)]) 0 (body f39 0) (Ed n) ([.ptr 0 0,.ptr 1 0,.ptr 2 0,.ref 3 0 p,.j m,.j i],[some (.box [.sl TCd l]),some (.box [.j 0,.s [],.j 0,.b false,.j 0,.ref 4 0 0]),some (.box [.j x0,.s x1,.j x2,.b x3,.j x4,.ref 5 0 k]),R0 (.int .i64) q,R0 (.rose LCd) [],R0 (.rose LCd) ks]) =
 ((shr (Ag LCd.rose.den) fun sh1=>ifB (decide (i<m)) (ifT (decide (0<=i)&&decide (i<(↑p:Int))) (An q[0+i.toNat]? fun z=>ifT (decide ((0:Int)<=
 z/\toNat z<l.length/\l.length<=4000000000/\l.length-toNat z<=n)) (ifT (decide ((k+1)*72<=140737488355328)&&decide
 (k+1<=maxI)) (some (Ex.normal,[V.ptr 0 0,V.ptr 1 0,V.ptr 2 0,V.ref 3 0 p,V.j m,V.j (i64.wrap (i+1))],[some (Blk.box [V.sl TCd l]),
 some (Blk.box [V.j 0,V.s (Ag UInt8),V.j 0,V.b false,V.j 0,V.ref 4 0 0]),some (Blk.box [V.j x0,V.s x1,V.j x2,V.b x3,V.j x4,V.ref
 5 0 (k+1)]),R0 (Cd.int .i64) q,R0 LCd.rose sh1,R0 LCd.rose (take k (drop (0 :
 Nat) ks)++Rose.node ((t2L l (toNat z)).lab.1,(t2L l (toNat z)).lab.2.1,(t2L l (toNat z)).lab.2.2.1,(t2L l (toNat z)).lab.2.2.2.1,
 (t2L l (toNat z)).lab.2.2.2.2.1,()) (take (t2L l (toNat z)).kids.length (drop 0 (t2L l (toNat z)).kids))::sh1)]))))) (some
 (Ex.exit 0,[V.ptr 0 0,V.ptr 1 0],[some (Blk.box [V.j 0,V.s (Ag UInt8),V.j 0,V.b false,V.j 0,V.ref 2 0 0]),some (Blk.box [V.j x0,V.s x1,
 V.j x2,V.b x3,V.j x4,V.ref 3 0 k]),R0 LCd.rose sh1,R0 LCd.rose ks]))):_):=by kernel_rfl
theorem Qf (n:Nat) (l:List Ty) (k:Int):Cx prog (Yx n) (Aa [(4,Ed n)]) f39 [.agg [.sl TCd l],.j k] [] =
 ((ifT (decide (0<=k)&&decide (k<(↑l.length:Int))) (An l[k.toNat]? fun z=>ifT (decide (0<=k/\k.toNat<l.length/\l.length<=4000000000)) (ifT (decide
 ((0:Int)<=(0:Int)/\0<=(BB l k.toNat).length/\(↑(BB l k.toNat).length:Int)=(↑(BB l k.toNat).length:Int)/\(BB l k.toNat).length =
 (BB l k.toNat).length/\0=0/\0<=0/\(BB l k.toNat).length<=4000000000/\l.length<=4000000000)&&(BB l
 k.toNat).all fun i=>decide ((0:Int)<=i/\i.toNat<l.length/\l.length-i.toNat<=n)) (some (V.agg [V.j z.1,V.s z.2.1,V.j z.2.2.1,V.b
 z.2.2.2.1,V.j z.2.2.2.2.2.1,V.ref 0 0 (Ag LCd.rose.den++List.map (fun i=>t2L l (toNat i)) (drop 0 (BB l
 k.toNat))).length],[R0 LCd.rose (Ag LCd.rose.den++List.map (fun i=>t2L l (toNat i)) (drop 0 (BB l k.toNat)))]))))):_):=by kernel_rfl
theorem JJ (n:Nat) (l:List Ty) (x0:Int) (x1:By) (x2:Int) (x3:Bool) (x4:Int) (q:List Int) (hl:l.length<=4000000000) (hq:q.length<=4000000000) (hs:(q.all fun i:Int=>decide (0<=i/\i.toNat<l.length/\l.length-i.toNat<=n))=true) : ∀ (j i:Nat) (ks:RL),i+j=q.length->ks.length<=i->
  Runs prog (Yx n) (Aa [(4,Ed n)]) 0 (body f39 0) (Ed n) ([.ptr 0 0,.ptr 1 0,.ptr 2 0,.ref 3 0 q.length,.j (q.length:Int),.j (i:Int)],[some (.box [.sl TCd l]),some (.box [.j 0,.s [],.j 0,.b false,.j 0,.ref 4 0 0]),some (.box [.j x0,.s x1,.j x2,.b x3,.j x4,.ref 5 0 ks.length]),R0 (.int .i64) q,R0 (.rose LCd) [],R0 (.rose LCd) ks]) (.exit 0) ([.ptr 0 0,.ptr 1 0],[some (.box [.j 0,.s [],.j 0,.b false,.j 0,.ref 2 0 0]),some (.box [.j x0,.s x1,.j x2,.b x3,.j x4,.ref 3 0 (ks++(q.drop i).map fun i=>t2L l i.toNat).length]),R0 (.rose LCd) [],R0 (.rose LCd) (ks++(q.drop i).map fun i=>t2L l i.toNat)])
 | 0,i,ks,hi,hk=>by
  have hr:=It n l x0 x1 x2 x3 x4 q.length q.length i ks.length q ks;dsimp only [shr] at hr;rw [Ae (dcF (by omega))] at hr;rw [drop_eq_nil_of_le (by omega),List.map_nil,append_nil];exact stp hr
 | j+1,i,ks,hi,hk=>by
  have h1:i<q.length:=by omega
  have hM:=mxI;have hr:=It n l x0 x1 x2 x3 x4 q.length q.length i ks.length q ks;dsimp only [shr] at hr;have hz:=of_decide_eq_true (all_eq_true.1 hs _ (getElem_mem h1));rw [Af (dcT (by omega)),T2 (by omega)] at hr;simp only [ntN,Nat.zero_add,gtE h1,Ap,Az (n:=i) (by omega),drop_zero,take_length] at hr;rw [Ab (dcT ⟨hz.1,hz.2.1,hl,hz.2.2⟩),T2 (by omega)] at hr;have ht:=C9 (t2L l q[i].toNat);rw [drop_zero,take_length] at ht;rw [ht] at hr;rw [drop_eq_getElem_cons h1,List.map_cons];have ih:=JJ n l x0 x1 x2 x3 x4 q hl hq hs j (i+1) (ks++[t2L l q[i].toNat]) (by omega) (by simp; omega);rw [append_assoc] at ih;exact sts (hr.trans (by simp)) ih
theorem U1 (n:Nat):Aw prog (Yx n) (Aa [(4,Ed n)]) 0 (f39.body.getD .skip):=by
 refine As (a:=body f39 0) (by kernel_rfl) fun d ex d' h=>?_
 unfold Ed at h;dsimp only at h;split at h
 ·rename_i p m i l x0 x1 x2 x3 x4 k q ks;obtain ⟨hc,hx⟩:=Ad h;clear h;rw [anE] at hc;obtain ⟨hc,hs⟩:=hc;obtain ⟨h0,h1,rfl,rfl,rfl,h5,h6,h7⟩:=of_decide_eq_true hc;obtain ⟨i,rfl⟩:=eq_ofNat_of_zero_le h0;simp only [ntN] at h1 h5 hx;obtain ⟨rfl,rfl⟩:=lfP hx;exact JJ n l x0 x1 x2 x3 x4 q h7 h6 hs (q.length-i) i ks (by omega) h5
 ·cases h
theorem RO (n:Nat) (l:List Ty) (k:Int) (hc:0<=k/\k.toNat<l.length/\l.length<=4000000000/\l.length-k.toNat<=n+1):Cx prog (Yx n) (Aa [(4,Ed n)]) f39 [.agg [.sl TCd l],.j k] []=some (.agg [.j (t2L l k.toNat).lab.1,.s (t2L l k.toNat).lab.2.1,.j (t2L l k.toNat).lab.2.2.1,.b (t2L l k.toNat).lab.2.2.2.1,.j (t2L l k.toNat).lab.2.2.2.2.1,.ref 0 0 (t2L l k.toNat).kids.length],[R0 (.rose LCd) (t2L l k.toNat).kids]):=by
 rw [Qf];obtain ⟨h0,h1,h2,h3⟩:=hc;obtain ⟨k,rfl⟩:=eq_ofNat_of_zero_le h0;rw [ntN] at h1 h3;have hkl:=N0 (k:Int) (l.drop (k+1)) (k+1);rw [List.length_drop] at hkl;have hkl2:(BB l k).length<=l.length-(k+1):=hkl;rw [T2 (by omega)];simp only [ntN,gtE h1,Ap];rw [Ab (dcT ⟨by omega,h1,h2⟩)]
 have hall:((BB l k).all fun i:Int=>decide (0<=i/\i.toNat<l.length/\l.length-i.toNat<=n))=true:=all_eq_true.2 fun x hx=>by
  obtain ⟨j,rfl,h5,h6⟩:=F7 hx;exact dcT ⟨by omega,by simpa using h6,by simp; omega⟩
 rw [Ab (by rw [anE]; exact ⟨dcT ⟨by omega,by simp,by simp,by simp,by simp,by simp,by omega,h2⟩,hall⟩)];have hlab:A5 l k=(l[k].1,l[k].2.1,l[k].2.2.1,l[k].2.2.2.1,l[k].2.2.2.2.2.1,()):=by unfold A5; rw [gtE h1]
 rw [VM h1,hlab];simp [Rose.lab,Rose.kids]
theorem RP : ∀ n,(∀ m,m<n->Ac prog 39 (Ent.rd1 (F4 m)).F)->Ac prog 39 (Ent.rd1 (F4 n)).F
 | 0,_=>AP fun vs bs=>by
  unfold Ent.F F4;dsimp only;split
  ·rename_i l a;have:decide (0<=a/\a.toNat<l.length/\l.length<=4000000000/\l.length-a.toNat<=0)=false:=dcF (by omega);rw [this]; rfl
  ·rfl
 | n+1,ih=>by
  refine fcN (kc func83 WT (kc func39 (ih n (lt_succ_self n)) KnowsL.nil)).knows (Λ:=(Aa [(4,Ed n)])) func39 fun vs bs r hq=>?_
  unfold Ent.F F4 at hq;dsimp only at hq;split at hq
  ·rename_i l a;obtain ⟨hc,hx⟩:=Ad hq;exact ⟨U1 n,(RO n l a (of_decide_eq_true hc)).trans hx⟩
  ·cases hq
theorem F5:Ac prog 39 (Ent.rd1 C7).F:=by
 refine Bb (F:=fun n=>(Ent.rd1 (F4 n)).F) RP fun vs bs r h=>?_
 unfold Ent.F C7 at h;dsimp only at h;split at h
 ·rename_i l a;obtain ⟨hc,hx⟩:=Ad h;obtain ⟨h0,h1,h2⟩:=of_decide_eq_true hc;refine ⟨l.length,?_⟩;unfold Ent.F F4;dsimp only;have:decide (0<=a/\a.toNat<l.length/\l.length<=4000000000/\l.length-a.toNat<=l.length)=true:=dcT ⟨h0,h1,h2,by omega⟩;rw [this];exact hx
 ·cases h
def IT (n:Nat):Gm
 | [.agg (Lt z0 _ _ _ _ zs)],[]=>.need (decide (Ak zs+1<=n/\Ak zs+1<=1000000)) (.leaf (.j ((BQ zs+(bif Ar z0 then 1 else 0):Nat):Int),[]))
 | _,_=>.no
def R2:Gm
 | [.agg (Lt z0 _ _ _ _ zs)],[]=>.need (decide (Ak zs+1<=1000000)) (.leaf (.j ((BQ zs+(bif Ar z0 then 1 else 0):Nat):Int),[]))
 | _,_=>.no
def Fy (n:Nat):LoopEnt:=⟨27,[1,3,8,9,10],[1,3],[],fun
 | ([.ptr 0 0,.j m,.sl (.rose LCd) ks,.j k,.j i],[some (.box (Lt y0 y1 y2 y3 y4 ys))])=>.need (decide (0<=m/\m<=1000001/\0<=i/\i.toNat<=ks.length/\k=ks.length/\Ak ks<=n/\Ak ks<=1000000)) (.leaf (.exit 0,([.ptr 0 0,.j ((max m.toNat (BQ (ks.drop i.toNat)):Nat):Int)],[some (.box (Lt y0 y1 y2 y3 y4 ys))])))
 | _=>.no⟩
def Dz (l:List Ty) (u:Int):Nat->Int->Bool
 | 0,_=>false
 | f+1,x=>if x<0 then false else if x=u then true else match Ba l x.toNat with | some v=>Dz l u f v | none=>false
def Dj (l:List Ty) (i:Nat):Bool:=(range i).all fun j=>match Ba l j with | some v=>decide (v<(j:Int)) | none=>false
def Em (l:List Ty) (i:Nat):Bool:=match Ba l i with | some u=>Dz l u (i+1) ((i:Int)-1) | none=>false
def Jf:Gm
 | [.sl TCd l,.j i],[]=>.need (decide (0<=i/\i.toNat<l.length/\l.length<=4000000000)&&Dj l i.toNat) (.leaf (.b (Em l i.toNat),[]))
 | _,_=>.no
def CO:LoopEnt:=⟨22,[0,1,5],[],[4],fun
 | ([.sl TCd l,.j i,.j x],[])=>.need (decide (0<=i/\i.toNat<l.length/\l.length<=4000000000/\x<i)&&Dj l i.toNat) (.opt (.int .i64) (Ba l i.toNat) fun u=>.br (Dz l u (x+1).toNat x) (.leaf (.ret,([.b true],[]))) (.leaf (.exit 0,([],[]))))
 | _=>.no⟩
theorem Nb (z:Rose Lab):BQ z.kids+(bif Ar z.lab.1 then 1 else 0)=BG z:=by cases z; rw [BG]; rfl
abbrev Yw (n:Nat):FuncId->Option Ent:=Aa [(109,.rd1 (IT n)),(151,.rd1 Fk)]
theorem JE (n:Nat) (y0:Int) (y1:By) (y2:Int) (y3:Bool) (y4:Int) (ys:RL) (m:Int) (ks:RL) (k i:Int):Au prog (Yw n) (Aa [(3,Fy n)]) 0 (body f109 0) (Fy n) ([.ptr 0 0,.j m,.sl (.rose LCd) ks,.j k,.j i],[some (.box (Lt y0 y1 y2 y3 y4 ys))]) =
 ((ifB (decide (i<k)) (ifT (decide (0<=i)&&decide (i<(↑ks.length:Int))) (An ks[i.toNat]? fun z=>ifT (decide (Ak (Rose.kids z)+1<=n/\Ak
 (Rose.kids z)+1<=1000000)) (ifB (decide ((↑(BQ (Rose.kids z)+bif Ar (Rose.lab z).1 then 1 else 0):Int)>m)) (some
 (Ex.normal,[V.ptr 0 0,V.j (↑(BQ (Rose.kids z)+bif Ar (Rose.lab z).1 then 1 else 0):Int),V.sl LCd.rose ks,V.j k,V.i .i64
 (i64.wrap (i+1))],[some (Blk.box (Lt y0 y1 y2 y3 y4 ys))])) (some (Ex.normal,[V.ptr 0 0,V.j m,V.sl
 LCd.rose ks,V.j k,V.j (i64.wrap (i+1))],[some (Blk.box (Lt y0 y1 y2 y3 y4 ys))]))))) (some
 (Ex.exit 0,[V.ptr 0 0,V.j m],[some (Blk.box (Lt y0 y1 y2 y3 y4 ys))]))):_):=by kernel_rfl
theorem Rz (n:Nat) (z0:Int) (z1:By) (z2:Int) (z3:Bool) (z4:Int) (zs:RL):AT prog (Yw n) (Aa [(3,Fy n)]) f109 [.agg (Lt z0 z1 z2 z3 z4 zs)] [] =
 ((ifT (decide ((0:Int)<=(0:Int)/\(0:Int)<=(1000001:Int)/\(0:Int)<=(0:Int)/\0<=zs.length/\(↑zs.length:Int)=(↑zs.length:Int)/\Ak zs<=n/\
 Ak zs<=1000000)) (ifB (Ar z0) (some (V.j (i64.wrap ((↑(max 0 (BQ (drop 0 zs))):Int)+(1:Int))),[])) (some (V.i
 .i64 (↑(max 0 (BQ (drop 0 zs))):Int),[])))):_):=by kernel_rfl
theorem KO (n:Nat) (y0:Int) (y1:By) (y2:Int) (y3:Bool) (y4:Int) (ys:RL) (ks:RL) (h1:Ak ks<=n) (h2:Ak ks<=1000000) : ∀ (j i m:Nat),i+j=ks.length->m<=1000001->
  Runs prog (Yw n) (Aa [(3,Fy n)]) 0 (body f109 0) (Fy n) ([.ptr 0 0,.j (m:Int),.sl (.rose LCd) ks,.j (ks.length:Int),.j (i:Int)],[some (.box (Lt y0 y1 y2 y3 y4 ys))]) (.exit 0) ([.ptr 0 0,.j ((max m (BQ (ks.drop i)):Nat):Int)],[some (.box (Lt y0 y1 y2 y3 y4 ys))])
 | 0,i,m,hi,hm=>by
  have hr:=JE n y0 y1 y2 y3 y4 ys m ks ks.length i;rw [Ae (dcF (by omega))] at hr;have e1:ks.drop i=[]:=drop_eq_nil_of_le (by omega);rw [e1,BQ];exact .stop _ _ _ (hr.trans (by simp)) (by simp)
 | j+1,i,m,hi,hm=>by
  have hl:i<ks.length:=by omega
  have hM:=mxI;have hr:=JE n y0 y1 y2 y3 y4 ys m ks ks.length i;have hmem:=Bo (getElem_mem hl);have hlen:=Bc ks;have hdm:=IA ks[i];have hck:=AE ks[i];rw [Af (dcT (by omega)),T2 (by omega)] at hr;simp only [ntN,gtE hl,Ap,Az (n:=i) (by omega)] at hr;rw [Ab (dcT ⟨by omega,by omega⟩)] at hr;simp only [Nb] at hr;rw [drop_eq_getElem_cons hl,BQ];have ih:=KO n y0 y1 y2 y3 y4 ys ks h1 h2 j (i+1) (max m (BG ks[i])) (by omega) (by omega);rw [<-Nat.max_assoc]
  by_cases hx:(BG ks[i]:Int)>(m:Int)
  ·rw [Af (dcT hx)] at hr;have hmx:max m (BG ks[i])=BG ks[i]:=by omega
   exact sts (hr.trans (by rw [hmx])) ih
  ·rw [Ae (dcF hx)] at hr;have hmx:max m (BG ks[i])=m:=by omega
   exact sts (hr.trans (by rw [hmx])) ih
theorem We (n:Nat):Aw prog (Yw n) (Aa [(3,Fy n)]) 0 (f109.body.getD .skip):=by
 refine As (a:=body f109 0) (by kernel_rfl) fun d ex d' h=>?_
 unfold Fy at h;dsimp only at h;split at h
 ·rename_i m ks k i y0 y1 y2 y3 y4 ys;obtain ⟨hc,hx⟩:=Ad h;clear h;obtain ⟨h0,h1,h2,h3,rfl,h5,h6⟩:=of_decide_eq_true hc;obtain ⟨m,rfl⟩:=eq_ofNat_of_zero_le h0;obtain ⟨i,rfl⟩:=eq_ofNat_of_zero_le h2;simp only [ntN] at h3 hx;obtain ⟨rfl,rfl⟩:=lfP hx;exact KO n y0 y1 y2 y3 y4 ys ks h5 h6 (ks.length-i) i m (by omega) (by omega)
 ·cases h
theorem TV (n:Nat) (z0:Int) (z1:By) (z2:Int) (z3:Bool) (z4:Int) (zs:RL) (hc:Ak zs+1<=n+1/\Ak zs+1<=1000000):AT prog (Yw n) (Aa [(3,Fy n)]) f109 [.agg (Lt z0 z1 z2 z3 z4 zs)] []=some (.j ((BQ zs+(bif Ar z0 then 1 else 0):Nat):Int),[]):=by
 rw [Rz];obtain ⟨h1,h2⟩:=hc;have hdp:=GY zs;rw [Ab (dcT (by refine ⟨by omega,by omega,by omega,by simp,by trivial,by omega,by omega⟩))];simp only [drop_zero,Nat.zero_max]
 cases hx:Ar z0 with
 | true=>rw [Bg,Av (by omega) (by omega)]; simp
 | false=>rw [AR]; simp
theorem TW : ∀ n,(∀ m,m<n->Ac prog 109 (Ent.rd1 (IT m)).F)->Ac prog 109 (Ent.rd1 (IT n)).F
 | 0,_=>AP fun vs bs=>by
  unfold Ent.F IT;dsimp only;split
  ·rename_i z0 z1 z2 z3 z4 zs;rw [dcF (show ¬(Ak zs+1<=0/\Ak zs+1<=1000000) by omega)]; rfl
  ·rfl
 | n+1,ih=>by
  refine fcK (kc func109 (ih n (lt_succ_self n)) (kc func151 Ky KnowsL.nil)).knows (Λ:=(Aa [(3,Fy n)])) func109 fun vs bs r hq=>?_
  unfold Ent.F IT at hq;dsimp only at hq;split at hq
  ·rename_i z0 z1 z2 z3 z4 zs;obtain ⟨hc,hx⟩:=Ad hq;exact ⟨We n,(TV n z0 z1 z2 z3 z4 zs (of_decide_eq_true hc)).trans hx⟩
  ·cases hq
theorem Ae4:Ac prog 109 (Ent.rd1 R2).F:=by
 refine Bb (F:=fun n=>(Ent.rd1 (IT n)).F) TW fun vs bs r h=>?_
 unfold Ent.F R2 at h;dsimp only at h;split at h
 ·rename_i z0 z1 z2 z3 z4 zs;obtain ⟨hc,hx⟩:=Ad h;have hc:=of_decide_eq_true hc;refine ⟨1000000,?_⟩;show (Br.need (decide (Ak zs+1<=1000000/\Ak zs+1<=1000000)) (.leaf (.j ((BQ zs+(bif Ar z0 then 1 else 0):Nat):Int),[]))).run=some r;rw [dcT (show Ak zs+1<=1000000/\Ak zs+1<=1000000 from ⟨hc,hc⟩)];exact hx
 ·cases h
theorem L2 (l:List Ty) (i x:Int):Au prog (Aa []) (Aa [(2,CO)]) 0 (body f152 0) CO ([.sl TCd l,.j i,.j x],[]) =
 ((ifB (decide (x>=0)) (ifT (decide (0<=i)&&decide (i<(↑l.length:Int))) (An l[i.toNat]? fun z=>ifB (x==z.2.2.2.2.1) (some (Ex.ret,[V.b true],[]))
 (ifT (decide (0<=x)&&decide (x<(↑l.length:Int))) (An l[x.toNat]? fun z=>some (Ex.normal,[V.sl TCd l,V.j i,V.j z.2.2.2.2.1],[])))))
 (some (Ex.exit 0,[],[]))):_):=by kernel_rfl
theorem VB {l:List Ty} {i j:Nat} (h:Dj l i=true) (hj:j<i) : ∃ v,Ba l j=some v/\v<(j:Int):=by
 have:=all_eq_true.1 h j (mem_range.2 hj)
 cases hu:Ba l j with
 | none=>rw [hu] at this; cases this
 | some v=>rw [hu] at this; exact ⟨v,rfl,of_decide_eq_true this⟩
theorem J6 {l:List Ty} {i:Nat} (h:Dj l i=true) (u:Int) : ∀ (f f':Nat) (x:Int),x<(i:Int)->(x+1).toNat<=f->(x+1).toNat<=f'->Dz l u f x=Dz l u f' x
 | 0,0,x,_,_,_=>rfl
 | 0,f'+1,x,hx,h1,h2=>by rw [Dz,Dz,if_pos (by omega)]
 | f+1,0,x,hx,h1,h2=>by rw [Dz,Dz,if_pos (by omega)]
 | f+1,f'+1,x,hx,h1,h2=>by
  rw [Dz,Dz]
  by_cases a:x<0
  ·rw [if_pos a,if_pos a]
  ·rw [if_neg a,if_neg a]
   by_cases b:x=u
   ·rw [if_pos b,if_pos b]
   ·rw [if_neg b,if_neg b];obtain ⟨v,hv,hv2⟩:=VB h (j:=x.toNat) (by omega);rw [hv];exact J6 h u f f' v (by omega) (by omega) (by omega)
theorem M6 (l:List Ty) (i:Nat) (u:Int) (hi:i<l.length) (_:l.length<=4000000000) (hu:Ba l i=some u) (hs:Dj l i=true) : ∀ (j:Nat) (x:Int),(x+1).toNat=j->x<(i:Int)->∀ ex d,(Br.br (Dz l u (x+1).toNat x) (.leaf (.ret,([.b true],[]))) (.leaf (.exit 0,([],[]))):Br (Ex×Dt)).run=some (ex,d)->
  Runs prog (Aa []) (Aa [(2,CO)]) 0 (body f152 0) CO ([.sl TCd l,.j (i:Int),.j x],[]) ex d:=by
 intro j
 induction j using strongRecOn with
 | ind j ih=>
  intro x hj hx ex d h;have hr:=L2 l i x;have h0:l[i].2.2.2.2.1=u:=by unfold Ba at hu; rw [gtE hi] at hu; exact Option.some.inj hu
  by_cases a:x<0
  ·rw [Ae (dcF (by omega))] at hr;have e0:(x+1).toNat=0:=by omega
   rw [e0,Dz] at h;obtain ⟨rfl,rfl⟩:=lfP h;exact stp hr
  ·rw [Af (dcT (by omega)),T2 (by omega)] at hr;simp only [ntN,gtE hi,Ap,h0] at hr;obtain ⟨x,rfl⟩:=eq_ofNat_of_zero_le (by omega:0<=x);have e0:((x:Int)+1).toNat=x+1:=by omega
   rw [e0,Dz,if_neg (by omega)] at h
   by_cases b:(x:Int)=u
   ·rw [if_pos b] at h;rw [Af (by rw [b]; exact beq_self_eq_true _)] at hr;obtain ⟨rfl,rfl⟩:=lfP h;exact stp hr
   ·rw [if_neg b] at h;have hxl:x<l.length:=by omega
    rw [Ae (beq_false_of_ne b),T2 (by omega)] at hr;simp only [ntN,gtE hxl,Ap] at hr;obtain ⟨v,hv,hv2⟩:=VB hs (j:=x) (by omega);have hv3:l[x].2.2.2.2.1=v:=by unfold Ba at hv; rw [gtE hxl] at hv; exact Option.some.inj hv
    rw [ntN,hv] at h;dsimp only at h;rw [J6 hs u x (v+1).toNat v (by omega) (by omega) (Nat.le_refl _)] at h;rw [hv3] at hr;exact sts hr (ih (v+1).toNat (by omega) v rfl (by omega) ex d h)
theorem Qi:Aw prog (Aa []) (Aa [(2,CO)]) 0 (f152.body.getD .skip):=by
 refine As (a:=body f152 0) (by kernel_rfl) fun d ex d' h=>?_
 unfold CO at h;dsimp only at h;split at h
 ·rename_i l i x;obtain ⟨hc,hx⟩:=Ad h;clear h;rw [anE] at hc;obtain ⟨hc,hs⟩:=hc;obtain ⟨h0,h1,h2,h3⟩:=of_decide_eq_true hc;obtain ⟨i,rfl⟩:=eq_ofNat_of_zero_le h0;simp only [ntN] at h1 hs hx
  cases hu:Ba l i with
  | some u=>rw [hu] at hx; exact M6 l i u h1 h2 hu hs _ x rfl h3 ex d' hx
  | none=>rw [hu] at hx; cases hx
 ·cases h
theorem O1 (l:List Ty) (i:Int) (hc:0<=i/\i.toNat<l.length/\l.length<=4000000000) (hs:Dj l i.toNat=true):AT prog (Aa []) (Aa [(2,CO)]) f152 [.sl TCd l,.j i] []=some (.b (Em l i.toNat),[]):=by
 have e:AT prog (Aa []) (Aa [(2,CO)]) f152 [.sl TCd l,.j i] []=((ifT (decide (0<=i/\i.toNat<l.length/\l.length<=4000000000/\i64.wrap (i-1)<i)&&Dj l i.toNat) (An (Ba l i.toNat) fun z=>ifB (Dz l z
 (i64.wrap (i-1)+(1:Int)).toNat (i64.wrap (i-1))) (some (V.b true,[])) nF)):_):=by kernel_rfl
 obtain ⟨h0,h1,h2⟩:=hc;obtain ⟨i,rfl⟩:=eq_ofNat_of_zero_le h0;simp only [ntN] at h1 hs;have hw:i64.wrap ((i:Int)-1)=(i:Int)-1:=Av (by omega) (by omega);obtain ⟨u,hu⟩ : ∃ u,Ba l i=some u:=⟨_,by unfold Ba; rw [gtE h1]; rfl⟩
 rw [e];clear e;rw [hw];simp only [ntN];rw [Ab (by rw [anE]; exact ⟨dcT ⟨by omega,h1,h2,by omega⟩,hs⟩)];unfold Em;rw [hu,Ap];have e2:Dz l u (i+1) ((i:Int)-1)=Dz l u ((i:Int)-1+1).toNat ((i:Int)-1):=J6 hs u _ _ _ (by omega) (by omega) (Nat.le_refl _);dsimp only;rw [e2];cases Dz l u ((i:Int)-1+1).toNat ((i:Int)-1)<;>rfl
theorem WV:Ac prog 152 (Ent.rd1 Jf).F:=by
 refine fcK KnowsL.nil.knows (Λ:=(Aa [(2,CO)])) func152 fun vs bs r hq=>?_
 unfold Ent.F Jf at hq;dsimp only at hq;split at hq
 ·rename_i l i;obtain ⟨hc,hx⟩:=Ad hq;rw [anE] at hc;exact ⟨Qi,(O1 l i (of_decide_eq_true hc.1) hc.2).trans hx⟩
 ·cases hq
def TQ (u no:Int) (nm:By) (l:List Ty):Bool:=l.all fun o=>!(o.2.2.2.2.1==u&&(decide (o.2.2.1>=no)||o.2.1==nm))
def E3 (l:List Ty) (i:Nat):Bool:=match Ba l i with
 | none=>false
 | some u=>decide (0<=u/\u<(i:Int))&&Ar (A5 l u.toNat).1&&Em l i&&(if (A5 l u.toNat).1=4 then (A5 l i).2.1==[]&&(A5 l i).2.2.1==0&&!(A5 l i).2.2.2.1
  else Gx (A5 l i).2.1&&(decide (1<=(A5 l i).2.2.1)&&decide ((A5 l i).2.2.1<=30))&&TQ u (A5 l i).2.2.1 (A5 l i).2.1 ((l.take i).drop (u.toNat+1)))
def kmB (x:Lab):Bool:=decide (1<=x.1/\x.1<=5)&&(if x.1=3 then decide (0<=x.2.2.2.2.1/\x.2.2.2.2.1<=20) else x.2.2.2.2.1==0)
def okT (l:List Ty) (i:Nat):Bool:=kmB (A5 l i)&&(if i=0 then (A5 l 0).1==5&&decide (Ba l 0=some (-1))&&(A5 l 0).2.1==[]&&(A5 l 0).2.2.1==0&&!(A5 l 0).2.2.2.1 else E3 l i)
def EU (l:List Ty) (i:Nat):Bool:=!((A5 l i).1==4&&(BB l i).length != 1)
def L9 (l:List Ty):Bool:=decide (1<=l.length/\l.length<=30)&&(range l.length).all (okT l)&&(range l.length).all (EU l)&&decide (BG (t2L l 0)<=5)
inductive Out (l:List Ty):Nat->Nat->Prop
 | refl (x:Nat):Out l x x
 | step (x v y:Nat) (h:Ba l x=some (v:Int)) (h2:Out l v y):Out l x y
structure Ord (l:List Ty):Prop where
 zero:Ba l 0=some (-1)
 up : ∀ i,0<i->i<l.length->∃ u:Nat,Ba l i=some (u:Int)/\u<i/\Ar (A5 l u).1=true/\Out l (i-1) u
def KK (l:List Ty) (a s t:Nat):List Nat:=(List.range' s (t-s)).filter fun j=>decide (Ba l j=some (a:Int))
theorem Out.trans {l:List Ty} {x y z:Nat} (h:Out l x y) (h2:Out l y z):Out l x z:=by
 induction h with
 | refl=>exact h2
 | step x v y h _ ih=>exact .step x v z h (ih h2)
theorem Mt (l:List Ty) (u:Int) : ∀ (f:Nat) (x:Nat),Dz l u f (x:Int)=true->∃ y:Nat,u=(y:Int)/\Out l x y
 | 0,x,h=>by rw [Dz] at h; cases h
 | f+1,x,h=>by
  rw [Dz,if_neg (by omega)] at h;split at h
  ·rename_i e; exact ⟨x,e.symm,.refl x⟩
  ·rw [ntN] at h
   cases hu:Ba l x with
   | none=>rw [hu] at h; cases h
   | some v=>
    rw [hu] at h;dsimp only at h
    by_cases hv:v<0
    ·cases f with
     | zero=>rw [Dz] at h; cases h
     | succ f=>rw [Dz,if_pos hv] at h; cases h
    ·obtain ⟨v,rfl⟩:=eq_ofNat_of_zero_le (by omega:0<=v);obtain ⟨y,h1,h2⟩:=Mt l u f v h;exact ⟨y,h1,.step x v y hu h2⟩
theorem W3 {l:List Ty} {i x y:Nat} (hs : ∀ j,j<i->∀ v:Nat,Ba l j=some (v:Int)->v<j) (h:Out l x y):x<i->y<=x:=by
 induction h with
 | refl=>intro _; exact Nat.le_refl _
 | step x v y h _ ih=>intro hx; have:=hs x hx v h; have:=ih (by omega); omega
theorem PJ {l:List Ty} {i x y:Nat} (hs : ∀ j,j<i->∀ v:Nat,Ba l j=some (v:Int)->v<j) (h:Out l x y):x<i->∀ f,x+1<=f->Dz l (y:Int) f (x:Int)=true:=by
 induction h with
 | refl x=>
  intro hx f hf;obtain ⟨f,rfl⟩ : ∃ g,f=g+1:=⟨f-1,by omega⟩
  rw [Dz,if_neg (by omega),if_pos rfl]
 | step x v y h _ ih=>
  intro hx f hf;obtain ⟨f,rfl⟩ : ∃ g,f=g+1:=⟨f-1,by omega⟩
  rw [Dz,if_neg (by omega)];split
  ·rfl
  ·rw [ntN,h];have:=hs x hx v h;exact ih (by omega) f (by omega)
theorem Ord.lt {l:List Ty} (H:Ord l) : ∀ j,j<l.length->∀ v:Nat,Ba l j=some (v:Int)->v<j:=fun j hj v hv=>by
 rcases Nat.eq_zero_or_pos j with rfl | hp
 ·rw [H.zero] at hv; injection hv with hv; omega
 ·obtain ⟨u,h1,h2,_⟩:=H.up j hp hj;rw [h1] at hv; injection hv with hv; omega
theorem Acg {l:List Ty} {c e x y:Nat} (hs : ∀ j,j<e->∀ v:Nat,Ba l j=some (v:Int)->v<j) (hb : ∀ j,c<j->j<e->∃ u:Nat,Ba l j=some (u:Int)/\c<=u) (h:Out l x y):c<=x->x<e->c<=y\/∃ v:Nat,Ba l c=some (v:Int)/\Out l v y:=by
 induction h with
 | refl x=>intro h1 _; exact .inl h1
 | step x v y h h2 ih=>
  intro h1 h3
  by_cases e1:x=c
  ·subst e1; exact .inr ⟨v,h,h2⟩
  ·obtain ⟨u,g1,g2⟩:=hb x (by omega) h3;rw [h] at g1; injection g1 with g1
   have:=hs x h3 v h;exact ih (by omega) (by omega)
theorem Ach {l:List Ty} {a e i x y:Nat} (hs : ∀ j,j<i->∀ v:Nat,Ba l j=some (v:Int)->v<j) (ha:a<=i) (hn : ∀ j,e<=j->j<i->∀ u:Nat,Ba l j=some (u:Int)->u<a\/e<=u) (h:Out l x y):e<=x->x<i->y<a\/e<=y:=by
 induction h with
 | refl x=>intro h1 _; exact .inr h1
 | step x v y h h2 ih=>
  intro h1 h3;have:=hs x h3 v h;rcases hn x h1 h3 v h with h4 | h4
  ·have:=W3 hs h2 (by omega);exact .inl (by omega)
  ·exact ih h4 (by omega)
theorem OY {l:List Ty} {a s t u:Nat} (h1:s<=t) (h2:t<=u):KK l a s t++KK l a t u=KK l a s u:=by
 unfold KK;rw [<-List.filter_append];congr 1;have e:t=s+(t-s):=by omega
 conv=>lhs; rhs; rw [e]
 rw [show s+(t-s)=s+1*(t-s) by omega,List.range'_append];congr 1; omega
theorem HS {l:List Ty} {a s t:Nat} (h : ∀ j,s<=j->j<t->Ba l j≠some (a:Int)):KK l a s t=[]:=by
 unfold KK;rw [List.filter_eq_nil_iff];intro j hj;have:=List.mem_range'_1.1 hj
 simpa using h j (by omega) (by omega)
theorem Y0 {l:List Ty} {a e t:Nat} (h0:e<t) (h:Ba l e=some (a:Int)) (h2 : ∀ j,e<j->j<t->Ba l j≠some (a:Int)):KK l a e t=[e]:=by
 have e1:KK l a e (e+1)=[e]:=by
  unfold KK;rw [show e+1-e=1 by omega,List.range'_one];simp [h]
 rw [<-OY (Nat.le_succ e) h0,e1,HS (fun j hj hj2=>h2 j (by omega) hj2)];rfl
theorem Tk (l:List Ty) (a:Nat) : ∀ (n i:Nat),l.length-i=n->CS (a:Int) i (l.drop i)=(KK l a i l.length).map ofNat
 | 0,i,h=>by
  rw [drop_eq_nil_of_le (by omega),CS,HS (fun j h1 h2=>by omega)]; rfl
 | n+1,i,h=>by
  have hl:i<l.length:=by omega
  rw [drop_eq_getElem_cons hl,CS,Tk l a n (i+1) (by omega),<-OY (Nat.le_succ i) hl (l:=l) (a:=a)];have hu:Ba l i=some (l[i].2.2.2.2.1):=by unfold Ba; rw [gtE hl]; rfl
  by_cases hk:l[i].2.2.2.2.1=(a:Int)
  ·rw [if_pos hk,Y0 (lt_succ_self i) (by rw [hu,hk]) (fun j h1 h2=>by omega)]; rfl
  ·rw [if_neg hk,HS (s:=i) (fun j h1 h2=>by
    have:j=i:=by omega
    subst this; rw [hu]; exact fun h=>hk (Option.some.inj h))]; rfl
theorem N1 (l:List Ty) (a:Nat):BB l a=(KK l a (a+1) l.length).map ofNat:=Tk l a _ (a+1) rfl
theorem SF {l:List Ty} {a:Nat} (h:a<l.length):t2L l a = .node (A5 l a) ((KK l a (a+1) l.length).map (t2L l)):=by
 rw [VM h,N1,List.map_map];rfl
structure Blk2 (l:List Ty) (a:Nat):Prop where
 inn : ∀ j,a<j->j<(kf l a).2->∃ u:Nat,Ba l j=some (u:Int)/\a<=u
 out:(kf l a).2<l.length->∀ u:Nat,Ba l (kf l a).2=some (u:Int)->u<a
 tree:(kf l a).1=t2L l a
theorem PV {l:List Ty} (H:Ord l) {a:Nat} (ha:a<l.length) (IH : ∀ b,a<b->b<l.length->Blk2 l b) : ∀ (n e:Nat) (ks:RL),l.length-e<=n->a<e->e<=l.length->
  (∀ j,a<j->j<e->∃ u:Nat,Ba l j=some (u:Int)/\a<=u)->(e<l.length->∀ u:Nat,Ba l e=some (u:Int)->u<=a)->ks=(KK l a (a+1) e).map (t2L l)->
  (∀ j,a<j->j<(AB (kf l) l a n e ks).2->∃ u:Nat,Ba l j=some (u:Int)/\a<=u)/\((AB (kf l) l a n e ks).2<l.length->∀ u:Nat,Ba l (AB (kf l) l a n e ks).2=some (u:Int)->u<a)/\(AB (kf l) l a n e ks).1=(KK l a (a+1) (AB (kf l) l a n e ks).2).map (t2L l)/\a<(AB (kf l) l a n e ks).2
 | 0,e,ks,h1,h2,h3,h4,h5,h6=>⟨h4,fun h=>by simp only [AB] at h; omega,h6,h2⟩
 | n+1,e,ks,h1,h2,h3,h4,h5,h6=>by
  unfold AB;split
  ·rename_i hu;have hl:=Ev hu;obtain ⟨b1,b2⟩:=CI l e hl;have B:=IH e h2 hl
   have inn' : ∀ j,a<j->j<(kf l e).2->∃ u:Nat,Ba l j=some (u:Int)/\a<=u:=fun j g1 g2=>by
    rcases Nat.lt_trichotomy j e with g3 | g3 | g3
    ·exact h4 j g1 g3
    ·subst g3; exact ⟨a,hu,Nat.le_refl _⟩
    ·obtain ⟨u,k1,k2⟩:=B.inn j g3 g2; exact ⟨u,k1,by omega⟩
   refine PV H ha IH n (kf l e).2 _ (by omega) (by omega) b2 inn' (fun g1 u g2=>?_) ?_
   ·have g3:=B.out g1 u g2;obtain ⟨u',k1,k2,k3,k4⟩:=H.up (kf l e).2 (by omega) g1;rw [g2] at k1; injection k1 with k1
    have:u=u':=by omega
    subst this;rcases Acg (fun j hj=>H.lt j (by omega)) B.inn k4 (by omega) (by omega) with k5 | ⟨v,k5,k6⟩
    ·omega
    ·rw [hu] at k5; injection k5 with k5
     have:a=v:=by omega
     subst this;exact W3 H.lt k6 ha
   ·rw [h6,B.tree,<-OY (l:=l) (a:=a) (show a+1<=e by omega) (Nat.le_of_lt b1),List.map_append,Y0 b1 hu (fun j g1 g2 g3=>by
     obtain ⟨u,k1,k2⟩:=B.inn j g1 g2
     rw [g3] at k1; injection k1 with k1; omega)]
    rfl
  ·rename_i hu;refine ⟨h4,fun g1 u g2=>?_,h6,h2⟩;have:=h5 g1 u g2;have:u≠a:=fun e=>by subst e; exact hu g2
   omega
theorem T9 {l:List Ty} (H:Ord l) : ∀ (n a:Nat),l.length-a<=n->a<l.length->Blk2 l a
 | 0,a,h1,h2=>by omega
 | n+1,a,h1,h2=>by
  have IH : ∀ b,a<b->b<l.length->Blk2 l b:=fun b g1 g2=>T9 H n b (by omega) g2
  have hq:a+1<l.length->∀ u:Nat,Ba l (a+1)=some (u:Int)->u<=a:=fun g1 u g2=>by
   have:=H.lt (a+1) g1 u g2; omega
  have hk:=N3 h2
  cases hh:Ar (A5 l a).1 with
  | true=>
   rw [hh,cond_true] at hk;obtain ⟨r1,r2,r3,r4⟩:=PV H h2 IH l.length (a+1) [] (by omega) (by omega) (by omega) (fun j g1 g2=>by omega) hq (by rw [HS (fun j g1 g2=>by omega)]; rfl);have hb:=GP (a:=a) (CI l) l.length (a+1) [] h2;generalize AB (kf l) l a l.length (a+1) []=r at *
   have hN : ∀ j,r.2<=j->j<l.length->∀ u:Nat,Ba l j=some (u:Int)->u<a\/r.2<=u:=by
    intro j
    induction j using strongRecOn with
    | ind j ih=>
     intro g1 g2 u g3
     by_cases e:j=r.2
     ·subst e; exact .inl (r2 g2 u g3)
     ·obtain ⟨u',k1,k2,k3,k4⟩:=H.up j (by omega) g2;rw [g3] at k1; injection k1 with k1
      have:u=u':=by omega
      subst this;exact Ach (i:=j) (fun x hx=>H.lt x (by omega)) (by omega) (fun x q1 q2=>ih x q2 q1 (by omega)) k4 (by omega) (by omega)
   refine ⟨by rw [hk]; exact r1,by rw [hk]; exact r2,?_⟩
   rw [hk,SF h2,r3,<-OY (l:=l) (a:=a) (show a+1<=r.2 by omega) hb.2,HS (s:=r.2) (fun j g1 g2 g3=>by
    rcases hN j g1 g2 a g3 with k | k<;>omega),append_nil]
  | false=>
   rw [hh,cond_false] at hk
   have none : ∀ j,a<j->j<l.length->Ba l j≠some (a:Int):=fun j g1 g2 g3=>by
    obtain ⟨u,k1,k2,k3,k4⟩:=H.up j (by omega) g2;rw [g3] at k1; injection k1 with k1
    have:a=u:=by omega
    subst this;rw [hh] at k3; cases k3
   refine ⟨?_,?_,?_⟩
   ·rw [hk]; intro j g1 g2;have g2:j<a+1:=g2;omega
   ·rw [hk]; intro g1 u g2;have g1:a+1<l.length:=g1;have:=hq g1 u g2;have:u≠a:=fun e=>by subst e; exact none _ (by omega) g1 g2
    omega
   rw [hk,SF h2,HS (fun j g1 g2=>none j (by omega) g2)];rfl
theorem Ord.end' {l:List Ty} (H:Ord l) (h:0<l.length):(kf l 0).2=l.length/\(kf l 0).1=t2L l 0:=by
 have B:=T9 H l.length 0 (by omega) h;have hb:=CI l 0 h;refine ⟨?_,B.tree⟩
 by_cases e:(kf l 0).2<l.length
 ·obtain ⟨u,k1,_⟩:=H.up _ hb.1 e;have:=B.out e u k1; omega
 ·omega
def Hu (y z:Lab):Prop:=y.2.2.1<z.2.2.1/\y.2.1≠z.2.1
structure Prs (l:List Ty) (a:Nat):Prop where
 inn : ∀ j,a<j->j<(kf l a).2->∃ u:Nat,Ba l j=some (u:Int)/\a<=u/\u<j/\Ar (A5 l u).1=true/\Out l (j-1) u
 out : ∀ j,a<=j->j<(kf l a).2->Out l j a
theorem PU {l:List Ty} {a:Nat} (ha:a<l.length) (hh:Ar (A5 l a).1=true) (IH : ∀ b,a<b->b<l.length->Prs l b) : ∀ (n e:Nat) (ks:RL),a<e->e<=l.length->
  (∀ j,a<j->j<e->∃ u:Nat,Ba l j=some (u:Int)/\a<=u/\u<j/\Ar (A5 l u).1=true/\Out l (j-1) u)->(∀ j,a<=j->j<e->Out l j a)->
  (∀ j,a<j->j<(AB (kf l) l a n e ks).2->∃ u:Nat,Ba l j=some (u:Int)/\a<=u/\u<j/\Ar (A5 l u).1=true/\Out l (j-1) u)/\(∀ j,a<=j->j<(AB (kf l) l a n e ks).2->Out l j a)
 | 0,e,ks,h1,h2,h3,h4=>⟨h3,h4⟩
 | n+1,e,ks,h1,h2,h3,h4=>by
  unfold AB;split
  ·rename_i hu;have hl:=Ev hu;obtain ⟨b1,b2⟩:=CI l e hl;have B:=IH e h1 hl;refine PU ha hh IH n (kf l e).2 _ (by omega) b2 (fun j g1 g2=>?_) (fun j g1 g2=>?_)
   ·rcases Nat.lt_trichotomy j e with g3 | g3 | g3
    ·exact h3 j g1 g3
    ·subst g3; exact ⟨a,hu,Nat.le_refl _,h1,hh,h4 (j-1) (by omega) (by omega)⟩
    ·obtain ⟨u,k1,k2,k3⟩:=B.inn j g3 g2; exact ⟨u,k1,by omega,k3⟩
   ·by_cases g3:j<e
    ·exact h4 j g1 g3
    ·exact (B.out j (by omega) g2).trans (.step e a a hu (.refl a))
  ·exact ⟨h3,h4⟩
theorem SS {l:List Ty} : ∀ (n a:Nat),l.length-a<=n->a<l.length->Prs l a
 | 0,a,h1,h2=>by omega
 | n+1,a,h1,h2=>by
  have IH : ∀ b,a<b->b<l.length->Prs l b:=fun b g1 g2=>SS n b (by omega) g2
  have hk:=N3 h2
  have base : ∀ j,a<=j->j<a+1->Out l j a:=fun j g1 g2=>by
   have:j=a:=by omega
   subst this; exact .refl j
  cases hh:Ar (A5 l a).1 with
  | true=>
   rw [hh,cond_true] at hk;obtain ⟨r1,r2⟩:=PU h2 hh IH l.length (a+1) [] (by omega) (by omega) (fun j g1 g2=>by omega) base;exact ⟨by rw [hk]; exact r1,by rw [hk]; exact r2⟩
  | false=>
   rw [hh,cond_false] at hk;refine ⟨?_,by rw [hk]; exact base⟩;rw [hk]; intro j g1 g2;have g2:j<a+1:=g2;omega
theorem DZ {l:List Ty} (h:0<l.length) (h0:Ba l 0=some (-1)) (he:(kf l 0).2=l.length):Ord l:=by
 have B:=SS l.length 0 (by omega) h;refine ⟨h0,fun i g1 g2=>?_⟩;obtain ⟨u,k1,k2,k3,k4,k5⟩:=B.inn i g1 (by omega);exact ⟨u,k1,k3,k4,k5⟩
theorem PK {l:List Ty} (h:0<l.length) (ho:(range l.length).all (okT l)=true):Ord l:=by
 have at' : ∀ i,i<l.length->okT l i=true:=fun i hi=>all_eq_true.1 ho i (mem_range.2 hi)
 refine ⟨?_,fun i g1 g2=>?_⟩
 ·have:=at' 0 h;unfold okT at this;rw [if_pos rfl] at this;simp only [anE,dcE] at this;exact this.2.1.1.1.2
 ·have:=at' i g2;unfold okT E3 at this;rw [if_neg (by omega),anE] at this;have this:=this.2
  cases hu:Ba l i with
  | none=>rw [hu] at this; cases this
  | some u=>
   rw [hu] at this;simp only [anE,dcE] at this;obtain ⟨⟨⟨⟨c1,c2⟩,c3⟩,c4⟩,_⟩:=this;obtain ⟨u,rfl⟩:=eq_ofNat_of_zero_le c1;unfold Em at c4;rw [hu] at c4;dsimp only at c4;have e:(i:Int)-1=((i-1:Nat):Int):=by omega
   rw [e] at c4;obtain ⟨y,k1,k2⟩:=Mt l u (i+1) (i-1) c4;have:u=y:=by omega
   subst this;exact ⟨u,rfl,by omega,c3,k2⟩
theorem Ord.around {l:List Ty} (H:Ord l) {i:Nat} (h1:0<i) (h2:i<l.length):Em l i=true:=by
 obtain ⟨u,k1,k2,k3,k4⟩:=H.up i h1 h2;unfold Em;rw [k1];dsimp only;have e:(i:Int)-1=((i-1:Nat):Int):=by omega
 rw [e];exact PJ (i:=l.length) H.lt k4 (by omega) (i+1) (by omega)
/-! Maps. -/
theorem PR (x y:By) (v:Bool) : ∀ l:List (By×Bool),Fg .str (Gc .str l x v) y=if y=x then some v else Fg .str l y
 | []=>by
  show (match DU .str y x with | true=>some v | false=>Fg .str [] y)=_
  by_cases h:y=x
  ·subst h;have:DU .str y y=true:=beq_self_eq_true y;rw [this,if_pos rfl]
  ·have:DU .str y x=false:=beq_false_of_ne h;rw [this,if_neg h]
 | e::l=>by
  unfold Gc
  by_cases h:x=e.1
  ·subst h;simp only [DU,beq_self_eq_true];unfold Fg
   by_cases h2:y=e.1
   ·subst h2; simp [DU]
   ·simp only [DU,beq_false_of_ne h2,if_neg h2]
  ·have:DU .str x e.1=false:=beq_false_of_ne h;rw [this];dsimp only;unfold Fg
   by_cases h2:y=e.1
   ·subst h2; simp [DU,Ne.symm h]
   ·have h3:DU .str y e.1=false:=beq_false_of_ne h2;rw [h3];exact PR x y v l
theorem Ta : ∀ (l pre:RL) (seen:List (By×Bool)),(∀ nm,(Fg .str seen nm).getD false=true↔∃ z∈pre,z.lab.2.1=nm)->pre.Pairwise (fun y z=>Hu y.lab z.lab)->
  (Il (pre++l) pre.length seen l=true↔(pre++l).Pairwise (fun y z=>Hu y.lab z.lab))
 | [],pre,seen,_,hp=>by rw [Il,append_nil]; exact ⟨fun _=>hp,fun _=>rfl⟩
 | z::l,pre,seen,hs,hp=>by
  have hpg:F0 (pre++z::l) pre.length z.lab.2.2.1=true↔∃ y,pre.getLast? = some y/\y.lab.2.2.1>=z.lab.2.2.1:=by
   cases hl:pre.getLast? with
   | none=>
    have:pre=[]:=by simpa using hl
    subst this;simp [F0]
   | some y=>
    have hne:pre≠[]:=by intro e; subst e; cases hl
    obtain ⟨m,hm⟩ : ∃ m,pre.length=m+1:=⟨pre.length-1,by have:=List.length_pos_iff.2 hne; omega⟩
    have hy:(pre++z::l)[m]? = some y:=by
     rw [List.getElem?_append_left (by omega),<-hl,List.getLast?_eq_getElem?,hm]; rfl
    rw [hm];unfold F0;dsimp only;rw [hy];simp
  have hR:(∀ y∈pre,Hu y.lab z.lab)↔¬((Fg .str seen z.lab.2.1).getD false||F0 (pre++z::l) pre.length z.lab.2.2.1)=true:=by
   rw [Bool.or_eq_true,hs,hpg];constructor
   ·rintro h (⟨y,g1,g2⟩ | ⟨y,g1,g2⟩)
    ·exact (h y g1).2 g2
    ·have:=(h y (List.mem_of_getLast? g1)).1; omega
   ·intro h y hy;refine ⟨?_,fun e=>h (.inl ⟨y,hy,e⟩)⟩
    cases hl:pre.getLast? with
    | none=>
     have:pre=[]:=by simpa using hl
     subst this; cases hy
    | some w=>
     have h1 : ¬w.lab.2.2.1>=z.lab.2.2.1:=fun g=>h (.inr ⟨w,hl,g⟩)
     have hne:pre≠[]:=by intro e; subst e; cases hl
     have e:pre=pre.dropLast++[w]:=by
      rw [List.getLast?_eq_some_getLast hne] at hl;have:=(List.dropLast_concat_getLast hne).symm;rw [Option.some.inj hl] at this;exact this
     rw [e] at hy hp;rcases List.mem_append.1 hy with hy | hy
     ·have:=(List.pairwise_append.1 hp).2.2 y hy w (by simp);have:=this.1; omega
     ·simp at hy; subst hy; omega
  rw [Il]
  by_cases hc:((Fg .str seen z.lab.2.1).getD false||F0 (pre++z::l) pre.length z.lab.2.2.1)=true
  ·rw [if_pos hc];refine ⟨fun h=>(by cases h),fun h=>?_⟩;exact absurd hc (hR.1 fun y hy=>(List.pairwise_append.1 h).2.2 y hy z (by simp))
  ·rw [if_neg hc];have hall:=hR.2 hc;have hp2:(pre++[z]).Pairwise (fun y z=>Hu y.lab z.lab):=List.pairwise_append.2 ⟨hp,List.pairwise_singleton _ _,fun y hy w hw=>by simp at hw; subst hw; exact hall y hy⟩
   have ih:=Ta l (pre++[z]) (Gc .str seen z.lab.2.1 true) (fun nm=>by
    rw [PR]
    by_cases e:nm=z.lab.2.1
    ·rw [if_pos e]; simp [e]
    ·rw [if_neg e,hs];constructor
     ·rintro ⟨w,g1,g2⟩; exact ⟨w,by simp [g1],g2⟩
     ·rintro ⟨w,g1,g2⟩
      rcases List.mem_append.1 g1 with g1 | g1
      ·exact ⟨w,g1,g2⟩
      ·simp at g1; subst g1; exact absurd g2.symm e) hp2
   rw [append_assoc] at ih
   simpa using ih
theorem Ik (zs:RL):Il zs 0 [] zs=true↔zs.Pairwise (fun y z=>Hu y.lab z.lab):=by
 have:=Ta zs [] [] (fun nm=>by simp [Fg]) List.Pairwise.nil
 simpa using this
theorem FU {R:Nat->Nat->Prop} : ∀ {l:List Nat},l.Pairwise (· < ·)->(l.Pairwise R↔∀ a∈l,∀ b∈l,a<b->R a b)
 | [],_=>by simp
 | x::l,h=>by
  rw [List.pairwise_cons] at h;rw [List.pairwise_cons,FU h.2];constructor
  ·rintro ⟨h1,h2⟩ a ha b hb hab
   rcases mem_cons.1 ha with ea | ha'
   ·rcases mem_cons.1 hb with eb | hb'
    ·omega
    ·rw [ea]; exact h1 b hb'
   ·rcases mem_cons.1 hb with eb | hb'
    ·have:=h.1 a ha'; omega
    ·exact h2 a ha' b hb' hab
  ·intro g;exact ⟨fun b hb=>g x (by simp) b (by simp [hb]) (h.1 b hb),fun a ha b hb hab=>g a (by simp [ha]) b (by simp [hb]) hab⟩
theorem DQ {l:List Ty} {a s t j:Nat}:j∈KK l a s t↔(s<=j/\j<t)/\Ba l j=some (a:Int):=by
 unfold KK;rw [List.mem_filter,List.mem_range'_1,dcE];constructor
 ·rintro ⟨h1,h2⟩; exact ⟨by omega,h2⟩
 ·rintro ⟨h1,h2⟩; exact ⟨by omega,h2⟩
theorem Vt (l:List Ty) (a s t:Nat):(KK l a s t).Pairwise (· < ·):=(List.pairwise_lt_range').filter _
def CD (l:List Ty):Prop:=∀ j,j<l.length->B5 (A5 l j) ((KK l j (j+1) l.length).map (t2L l))=true/\∀ c∈KK l j (j+1) l.length,DL (A5 l j).1 (A5 l c)=true
theorem Hz {l:List Ty} {a:Nat} (h:a<l.length):(t2L l a).lab=A5 l a:=by rw [SF h]; rfl
theorem KZ (k:Int) : ∀ ks:RL,A6 k ks=true↔∀ z∈ks,DL k z.lab=true/\Ah z=true
 | []=>by simp [A6]
 | z::ks=>by
  rw [A6,anE,anE,KZ k ks];constructor
  ·rintro ⟨h1,h2⟩ w hw
   rcases mem_cons.1 hw with e | hw'
   ·rw [e]; exact h1
   ·exact h2 w hw'
  ·intro h;exact ⟨h z (by simp),fun w hw=>h w (by simp [hw])⟩
theorem KV {l:List Ty} {a:Nat} (h:a<l.length):Ah (t2L l a)=true↔B5 (A5 l a) ((KK l a (a+1) l.length).map (t2L l))=true/\∀ c∈KK l a (a+1) l.length,DL (A5 l a).1 (A5 l c)=true/\Ah (t2L l c)=true:=by
 rw [SF h,Ah,anE,KZ];constructor
 ·rintro ⟨h1,h2⟩
  refine ⟨h1,fun c hc=>?_⟩;have hcl:=(DQ.1 hc).1.2;have:=h2 (t2L l c) (mem_map.2 ⟨c,hc,rfl⟩);rw [Hz hcl] at this;exact this
 ·rintro ⟨h1,h2⟩
  refine ⟨h1,fun z hz=>?_⟩;obtain ⟨c,hc,rfl⟩:=mem_map.1 hz;have hcl:=(DQ.1 hc).1.2;rw [Hz hcl];exact h2 c hc
theorem Uc {l:List Ty} (H:Ord l) (h0:0<l.length):Ah (t2L l 0)=true↔CD l:=by
 constructor
 ·intro h
  have all : ∀ j,j<l.length->Ah (t2L l j)=true:=by
   intro j
   induction j using strongRecOn with
   | ind j ih=>
    intro hj;rcases Nat.eq_zero_or_pos j with rfl | hp
    ·exact h
    ·obtain ⟨u,k1,k2,_⟩:=H.up j hp hj;exact (((KV (by omega)).1 (ih u k2 (by omega))).2 j (DQ.2 ⟨⟨by omega,hj⟩,k1⟩)).2
  intro j hj;have:=(KV hj).1 (all j hj);exact ⟨this.1,fun c hc=>(this.2 c hc).1⟩
 ·intro h
  have all : ∀ n j,l.length-j<=n->j<l.length->Ah (t2L l j)=true:=by
   intro n
   induction n with
   | zero=>intro j g1 g2; omega
   | succ n ih=>
    intro j g1 g2;refine (KV g2).2 ⟨(h j g2).1,fun c hc=>⟨(h j g2).2 c hc,?_⟩⟩;have:=(DQ.1 hc).1;exact ih c (by omega) (by omega)
  exact all l.length 0 (by omega) h0
theorem HD {l:List Ty} {i:Nat} (h:i<l.length):A5 l i=(l[i].1,l[i].2.1,l[i].2.2.1,l[i].2.2.2.1,l[i].2.2.2.2.2.1,()):=by unfold A5; rw [gtE h]
theorem VV {l:List Ty} {a c:Nat} (hc:c<=l.length) (no:Int) (nm:By):TQ (a:Int) no nm ((l.take c).drop (a+1))=true↔∀ k,a<k->k<c->Ba l k=some (a:Int)->(A5 l k).2.2.1<no/\(A5 l k).2.1≠nm:=by
 have up : ∀ k (h:k<l.length),Ba l k=some (l[k].2.2.2.2.1):=fun k h=>by unfold Ba; rw [gtE h]; rfl
 unfold TQ;rw [all_eq_true];constructor
 ·intro h k g1 g2 g3;have hk:k<l.length:=by omega
  have hm:l[k]∈(l.take c).drop (a+1):=by
   refine List.mem_iff_getElem?.2 ⟨k-(a+1),?_⟩;rw [List.getElem?_drop,show a+1+(k-(a+1))=k by omega,List.getElem?_take,if_pos g2,gtE hk]
  have:=h _ hm;rw [up k hk] at g3;rw [Option.some.inj g3,beq_self_eq_true,Bool.true_and] at this;rw [HD hk];simp only [Bool.not_eq_true',Bool.or_eq_false_iff,decide_eq_false_iff_not,beq_eq_false_iff_ne] at this;show l[k].2.2.1<no/\l[k].2.1≠nm;exact ⟨by have:=this.1; omega,this.2⟩
 ·intro h o ho;obtain ⟨j,hj⟩:=List.mem_iff_getElem?.1 ho;rw [List.getElem?_drop,List.getElem?_take] at hj;split at hj
  ·rename_i hlt;have hk:a+1+j<l.length:=by omega
   rw [gtE hk] at hj;have e:=Option.some.inj hj
   by_cases hu:o.2.2.2.2.1=(a:Int)
   ·have:=h (a+1+j) (by omega) hlt (by rw [up _ hk,e,hu]);rw [HD hk,e] at this;have this:o.2.2.1<no/\o.2.1≠nm:=this;have h1:decide (o.2.2.1>=no)=false:=dcF (by have:=this.1; omega);have h2:(o.2.1==nm)=false:=beq_false_of_ne this.2;rw [h1,h2]; simp
   ·rw [beq_false_of_ne hu]; rfl
  ·cases hj
theorem Qv {k:Int} (h:Ar k=true):k=4\/k=5:=by
 unfold Ar at h;rw [Bool.or_eq_true] at h;rcases h with h | h
 ·exact .inl (by simpa using h)
 ·exact .inr (by simpa using h)
theorem Aa1 {l:List Ty} (H:Ord l) {j:Nat} (h:Ar (A5 l j).1=false):KK l j (j+1) l.length=[]:=HS fun c g1 g2 g3=>by
 obtain ⟨u,k1,k2,k3,_⟩:=H.up c (by omega) g2;rw [g3] at k1; injection k1 with k1
 have:j=u:=by omega
 subst this;rw [h] at k3; cases k3
theorem IX {l:List Ty} (H:Ord l) {j:Nat} (_:j<l.length):B5 (A5 l j) ((KK l j (j+1) l.length).map (t2L l))=true↔kmB (A5 l j)=true/\EU l j=true/\((A5 l j).1=5->∀ c∈KK l j (j+1) l.length,∀ k∈KK l j (j+1) l.length,k<c->Hu (A5 l k) (A5 l c)):=by
 have hone:EU l j = !((A5 l j).1==4&&(KK l j (j+1) l.length).length != 1):=by unfold EU; rw [N1,List.length_map]
 have hmsg:Il ((KK l j (j+1) l.length).map (t2L l)) 0 [] ((KK l j (j+1) l.length).map (t2L l))=true↔∀ c∈KK l j (j+1) l.length,∀ k∈KK l j (j+1) l.length,k<c->Hu (A5 l k) (A5 l c):=by
  rw [Ik,List.pairwise_map,FU (Vt l j (j+1) l.length)];constructor
  ·intro h c hc k hk hkc;have:=h k hk c hc hkc;rw [Hz (DQ.1 hk).1.2,Hz (DQ.1 hc).1.2] at this;exact this
  ·intro h k hk c hc hkc;rw [Hz (DQ.1 hk).1.2,Hz (DQ.1 hc).1.2];exact h c hc k hk hkc
 rw [hone];have hk0:(A5 l j).1≠4->(A5 l j).1≠5->KK l j (j+1) l.length=[]:=fun h4 h5=>Aa1 H (by unfold Ar; rw [beq_false_of_ne h4,beq_false_of_ne h5]; rfl)
 unfold B5 kmB;rw [List.length_map];generalize A5 l j=x at hk0 ⊢
 by_cases a1:x.1=1\/x.1=2
 ·have h4:x.1≠4:=by rcases a1 with h | h<;>omega
  have h5:x.1≠5:=by rcases a1 with h | h<;>omega
  have h3:x.1≠3:=by rcases a1 with h | h<;>omega
  rw [if_pos a1,hk0 h4 h5,if_neg h3,dcT (show 1<=x.1/\x.1<=5 by rcases a1 with h | h<;>omega),beq_false_of_ne h4];simp [h5]
 by_cases a3:x.1=3
 ·have h4:x.1≠4:=by omega
  have h5:x.1≠5:=by omega
  rw [if_neg a1,if_pos a3,hk0 h4 h5,if_pos a3,dcT (show 1<=x.1/\x.1<=5 by omega),beq_false_of_ne h4];simp [h5]
 by_cases a4:x.1=4
 ·have h5:x.1≠5:=by omega
  rw [if_neg a1,if_neg a3,if_pos a4,if_neg a3,dcT (show 1<=x.1/\x.1<=5 by omega),a4];simp
 by_cases a5:x.1=5
 ·rw [if_neg a1,if_neg a3,if_neg a4,if_neg a3,dcT (show 1<=x.1/\x.1<=5 by omega),beq_false_of_ne a4]
  by_cases a6:x.2.2.2.2.1=0
  ·rw [if_neg (by rintro (h | h); exact h a5; exact h a6),hmsg];simp [a5,a6]
  ·rw [if_pos (.inr a6)];simp [a6]
 ·have a0 : ¬(1<=x.1/\x.1<=5):=by omega
  rw [if_neg a1,if_neg a3,if_neg a4,if_pos (.inl a5),dcF a0];simp
theorem PI {l:List Ty} (H:Ord l) {i u:Nat} (hi:0<i) (hl:i<l.length) (hu:Ba l i=some (u:Int)) (hlt:u<i) (hh:Ar (A5 l u).1=true) :
  E3 l i=true↔DL (A5 l u).1 (A5 l i)=true/\((A5 l u).1=5->∀ k∈KK l u (u+1) l.length,k<i->Hu (A5 l k) (A5 l i)):=by
 have ha:=H.around hi hl;have hs:=VV (l:=l) (a:=u) (c:=i) (by omega) (A5 l i).2.2.1 (A5 l i).2.1
 have hk:(∀ k∈KK l u (u+1) l.length,k<i->Hu (A5 l k) (A5 l i))↔∀ k,u<k->k<i->Ba l k=some (u:Int)->(A5 l k).2.2.1<(A5 l i).2.2.1/\(A5 l k).2.1≠(A5 l i).2.1:=by
  constructor
  ·intro h k g1 g2 g3; exact h k (DQ.2 ⟨⟨g1,by omega⟩,g3⟩) g2
  ·intro h k g1 g2;have:=DQ.1 g1;exact h k this.1.1 g2 this.2
 rw [hk,<-hs];unfold E3 DL;rw [hu];dsimp only;rw [ntN,dcT (show 0<=(u:Int)/\(u:Int)<(i:Int) by omega),hh,ha];rcases Qv hh with h4 | h5
 ·rw [if_pos h4,if_neg (by omega)];simp [h4]
 ·rw [if_neg (by omega),if_pos h5];simp [h5]
theorem K1 (l:List Ty):L9 l=Ay l/\(Ay l=true->(kf l 0).1=t2L l 0):=by
 have main : ∀ (H:Ord l),1<=l.length/\l.length<=30->(L9 l=true↔Ay l=true):=fun H hl=>by
  have h0:0<l.length:=by omega
  obtain ⟨e1,e2⟩:=H.end' h0;have hc:=L6 h0
  have hkm:CD l↔(∀ j,j<l.length->kmB (A5 l j)=true/\EU l j=true)/\∀ j,0<j->j<l.length->E3 l j=true:=by
   constructor
   ·intro h;refine ⟨fun j hj=>?_,fun j hp hj=>?_⟩
    ·have:=(IX H hj).1 (h j hj).1;exact ⟨this.1,this.2.1⟩
    ·obtain ⟨u,k1,k2,k3,_⟩:=H.up j hp hj;have hm:j∈KK l u (u+1) l.length:=DQ.2 ⟨⟨k2,hj⟩,k1⟩;have hul:u<l.length:=by omega
     refine (PI H hp hj k1 k2 k3).2 ⟨(h u hul).2 j hm,fun h5 k hk hkj=>?_⟩;exact ((IX H hul).1 (h u hul).1).2.2 h5 j hm k hk hkj
   ·rintro ⟨h1,h2⟩ j hj
    have hcc : ∀ c∈KK l j (j+1) l.length,DL (A5 l j).1 (A5 l c)=true/\((A5 l j).1=5->∀ k∈KK l j (j+1) l.length,k<c->Hu (A5 l k) (A5 l c)):=fun c hc=>by
     obtain ⟨⟨g1,g2⟩,g3⟩:=DQ.1 hc;obtain ⟨u,k1,k2,k3,_⟩:=H.up c (by omega) g2;rw [g3] at k1; injection k1 with k1
     have:j=u:=by omega
     subst this;exact (PI H (by omega) g2 g3 k2 k3).1 (h2 c (by omega) g2)
    exact ⟨(IX H hj).2 ⟨(h1 j hj).1,(h1 j hj).2,fun h5 c hc k hk hkc=>(hcc c hc).2 h5 k hk hkc⟩,fun c hc=>(hcc c hc).1⟩
  unfold L9 Ay CJ;rw [dcT hl,dcT H.zero,e1,e2,Hz h0];have hcnt:decide (Aj (t2L l 0)<=30)=true:=dcT (by rw [<-e2]; omega);rw [hcnt];simp only [Bool.true_and,Bool.and_true,anE,all_eq_true,mem_range,dcE,beq_self_eq_true,Uc H h0,hkm];constructor
  ·rintro ⟨⟨h1,h2⟩,h3⟩
   have r:=h1 0 h0;unfold okT at r;rw [if_pos rfl] at r;simp only [anE,dcE] at r;obtain ⟨r0,⟨⟨⟨r1,r2⟩,r3⟩,r4⟩,r5⟩:=r;refine ⟨⟨⟨⟨⟨r1,r3⟩,r4⟩,r5⟩,⟨fun j hj=>⟨?_,h2 j hj⟩,fun j hp hj=>?_⟩⟩,h3⟩
   ·have:=h1 j hj;unfold okT at this;rw [anE] at this;exact this.1
   ·have:=h1 j hj;unfold okT at this;rw [if_neg (by omega),anE] at this;exact this.2
  ·rintro ⟨⟨⟨⟨⟨r1,r3⟩,r4⟩,r5⟩,⟨h1,h2⟩⟩,h3⟩
   refine ⟨⟨fun j hj=>?_,fun j hj=>(h1 j hj).2⟩,h3⟩;unfold okT;rw [(h1 j hj).1,Bool.true_and]
   by_cases hz:j=0
   ·rw [if_pos hz];simp only [anE,dcE];exact ⟨⟨⟨⟨r1,H.zero⟩,r3⟩,r4⟩,r5⟩
   ·rw [if_neg hz]; exact h2 j (by omega) hj
 have hS:L9 l=true->Ord l/\1<=l.length/\l.length<=30:=fun h=>by
  unfold L9 at h;simp only [anE,dcE] at h;exact ⟨PK (by omega) h.1.1.2,h.1.1.1⟩
 have hK:Ay l=true->Ord l/\1<=l.length/\l.length<=30:=fun h=>by
  unfold Ay at h;simp only [anE,dcE,beq_iff_eq] at h;exact ⟨DZ (by omega) h.1.1.2 h.1.2,h.1.1.1⟩
 refine ⟨?_,fun h=>((hK h).1.end' (by have:=(hK h).2; omega)).2⟩
 cases h1:L9 l with
 | true=>obtain ⟨H,hl⟩:=hS h1; exact ((main H hl).1 h1).symm
 | false=>
  cases h2:Ay l with
  | false=>rfl
  | true=>obtain ⟨H,hl⟩:=hK h2; rw [(main H hl).2 h2] at h1; cases h1
def O0:Gm
 | [.agg [.sl TCd l],.j i],[]=>.need (decide (0<=i/\i.toNat<l.length/\l.length<=4000000000)&&Dj l i.toNat&&nmL l) (.leaf (.b (E3 l i.toNat),[]))
 | _,_=>.no
def F6:LoopEnt:=⟨103,[1,2,5,6],[],[4],fun
 | ([.j i,.ptr 0 0,.ptr 1 0,.j k],[some (.box [.sl TCd l]),some (.box (Ly _ y1 y2 _ y4 _))])=>.need (decide (0<=k/\k<=i/\i.toNat<l.length/\l.length<=4000000000)) (.br (TQ y4 y2 y1 ((l.take i.toNat).drop k.toNat)) (.leaf (.exit 0,([],[]))) (.leaf (.ret,([.b false],[]))))
 | _=>.no⟩
abbrev Aa0:FuncId->Option Ent:=Aa [(151,.rd1 Fk),(152,.rd1 Jf),(153,.rd1 Lk),(100,.rd1 AC)]
theorem Iu (l:List Ty) (y0:Int) (y1:By) (y2:Int) (y3:Bool) (y4 y5:Int) (i k:Int):Au prog Aa0 (Aa [(9,F6)]) 0 (body f108 0) F6 ([.j i,.ptr 0 0,.ptr 1 0,.j k],[some (.box [.sl TCd l]),some (.box (Ly y0 y1 y2 y3 y4 y5))]) =
 ((ifB (decide (k<i)) (ifT (decide (0<=k)&&decide (k<(↑l.length:Int))) (An l[k.toNat]? fun z=>ifB (z.2.2.2.2.1==y4) (ifB (decide (z.2.2.1>=
 y2)) rF (ifB (z.2.1==y1) rF (some (Ex.normal,[V.j i,V.ptr 0 0,V.ptr 1 0,V.i .i64
 (i64.wrap (k+1))],[some (Blk.box [V.sl TCd l]),some (Blk.box (Ly y0 y1 y2 y3 y4 y5))])))) (some (Ex.normal,[V.i
 .i64 i,V.ptr 0 0,V.ptr 1 0,V.j (i64.wrap (k+1))],[some (Blk.box [V.sl TCd l]),some (Blk.box (Ly y0 y1 y2 y3 y4 y5))])))) (some (Ex.exit 0,[],[]))):_):=by kernel_rfl
theorem Qg (l:List Ty) (i:Int):AT prog Aa0 (Aa [(9,F6)]) f108 [.agg [.sl TCd l],.j i] [] =
 ((ifT (decide (0<=i)&&decide (i<(↑l.length:Int))) (An l[i.toNat]? fun z=>ifB (decide (z.2.2.2.2.1<(0:Int))) nF (ifB (decide
 (z.2.2.2.2.1>=i)) nF (ifT (decide ((0:Int)<=z.2.2.2.2.1)&&decide (z.2.2.2.2.1<(↑l.length:Int))) (An
 l[toNat z.2.2.2.2.1]? fun z_1=>ifB (!Ar z_1.1) nF (ifT (decide (0<=i/\i.toNat<l.length/\l.length<=4000000000)&&
 Dj l i.toNat) (ifB (!Em l i.toNat) nF (ifT (decide ((0:Int)<=z.2.2.2.2.1)&&decide (z.2.2.2.2.1<(↑l.length:Int)))
 (An l[toNat z.2.2.2.2.1]? fun z_2=>ifB (z_2.1==(4:Int)) (ifB (z.2.1==Ag UInt8) (ifB (z.2.2.1==(0:Int)) (some (V.b
 !z.2.2.2.1,[])) nF) nF) (ifT (decide (List.length z.2.1<=maxI)) (ifB (!Gx z.2.1) nF (ifB
 (!decide ((1:Int)<=z.2.2.1/\z.2.2.1<=(30:Int))) nF (ifT (decide (0<=i64.wrap (z.2.2.2.2.1+(1:Int))/\
 i64.wrap (z.2.2.2.2.1+(1:Int))<=i/\i.toNat<l.length/\l.length<=4000000000)) (ifB (TQ z.2.2.2.2.1 z.2.2.1 z.2.1
 (drop (i64.wrap (z.2.2.2.2.1+(1:Int))).toNat (take i.toNat l))) (some (V.b true,[])) nF)))))))))))))):_):=by kernel_rfl
theorem U2:Aw prog Aa0 (Aa [(9,F6)]) 0 (f108.body.getD .skip):=by
 refine As (a:=body f108 0) (by kernel_rfl) fun d ex d' h=>?_
 unfold F6 at h;dsimp only at h;split at h
 ·rename_i i k l y0 y1 y2 y3 y4 y5;obtain ⟨hc,hx⟩:=Ad h;clear h;obtain ⟨h0,h1,h2,h3⟩:=of_decide_eq_true hc;obtain ⟨k,rfl⟩:=eq_ofNat_of_zero_le h0;obtain ⟨i,rfl⟩:=eq_ofNat_of_zero_le (by omega:0<=i);simp only [ntN] at h2 hx;have hM:=mxI;have hlen:(l.take i).length=i:=by rw [List.length_take]; omega
  refine E1 (l:=l.take i) (fun o:Ty=>!(o.2.2.2.2.1==y4&&(decide (o.2.2.1>=y2)||o.2.1==y1))) (fun k=>([.j (i:Int),.ptr 0 0,.ptr 1 0,.j (k:Int)],[some (.box [.sl TCd l]),some (.box (Ly y0 y1 y2 y3 y4 y5))])) (ex:=(.exit 0,([],[]))) (rt:=(.ret,([.b false],[]))) (by simp) (by simp) (fun n hn=>?_) ?_ ((l.take i).length-k) k (by rw [hlen]; omega) ex d' hx
  ·rw [hlen] at hn;have hnl:n<l.length:=by omega
   have hr:=Iu l y0 y1 y2 y3 y4 y5 i n;rw [Af (dcT (by omega)),T2 (by omega)] at hr;simp only [ntN,gtE hnl,Ap,Az (n:=n) (by omega)] at hr;refine hr.trans ?_;rw [List.getElem_take];cases l[n].2.2.2.2.1==y4<;>cases decide (l[n].2.2.1>=y2)<;>cases l[n].2.1==y1<;>rfl
  ·have hr:=Iu l y0 y1 y2 y3 y4 y5 i i;rw [Ae (dcF (by omega))] at hr;rw [hlen];exact hr
 ·cases h
theorem RQ (l:List Ty) (i:Int) (hc:0<=i/\i.toNat<l.length/\l.length<=4000000000) (hs:Dj l i.toNat=true) (hn:nmL l=true):AT prog Aa0 (Aa [(9,F6)]) f108 [.agg [.sl TCd l],.j i] []=some (.b (E3 l i.toNat),[]):=by
 rw [Qg];obtain ⟨h0,h1,h2⟩:=hc;obtain ⟨i,rfl⟩:=eq_ofNat_of_zero_le h0;simp only [ntN] at h1 hs;have hM:=mxI;have hu:Ba l i=some (l[i].2.2.2.2.1):=by unfold Ba; rw [gtE h1]; rfl
 have hlb:=HD h1;have hnm:l[i].2.1.length<=maxI:=of_decide_eq_true (all_eq_true.1 hn _ (getElem_mem h1));rw [T2 (by omega)];simp only [ntN,gtE h1,Ap];unfold E3;rw [hu,hlb];dsimp only
 by_cases a1:l[i].2.2.2.2.1<0
 ·rw [Af (dcT a1),dcF (by omega)]; rfl
 rw [Ae (dcF a1)]
 by_cases a2:l[i].2.2.2.2.1>=(i:Int)
 ·rw [Af (dcT a2),dcF (by omega)]; rfl
 obtain ⟨u,hu2⟩:=eq_ofNat_of_zero_le (by omega:0<=l[i].2.2.2.2.1);rw [hu2] at a2 ⊢;have hul:u<l.length:=by omega
 have hg:(decide ((0:Int)<=(u:Int))&&decide ((u:Int)<(l.length:Int)))=true:=by simp only [anE,dcE]; omega
 rw [Ae (dcF a2),dcT (show 0<=(u:Int)/\(u:Int)<(i:Int) by omega),hg];simp only [ntN,gtE hul,Ap,Cw];rw [HD hul];dsimp only
 cases Ar l[u].1 with
 | false=>rfl
 | true=>
  rw [Bool.not_true,AR,Ab (by rw [anE]; exact ⟨dcT ⟨by omega,h1,h2⟩,hs⟩)]
  cases Em l i with
  | false=>rfl
  | true=>
   rw [Bool.not_true,AR]
   by_cases a4:l[u].1=4
   ·rw [Af (by rw [a4]; rfl),if_pos a4];cases l[i].2.1==Ag UInt8<;>cases l[i].2.2.1==0<;>rfl
   ·rw [Ae (beq_false_of_ne a4),if_neg a4,Ab (dcT hnm),Az (n:=u) (by omega)];have d1:decide (1<=l[i].2.2.1/\l[i].2.2.1<=30)=(decide (1<=l[i].2.2.1)&&decide (l[i].2.2.1<=30)):=decide_and ..;rw [d1,Ab (dcT ⟨by omega,by omega,h1,h2⟩),ntN];cases Gx l[i].2.1<;>cases (decide (1<=l[i].2.2.1)&&decide (l[i].2.2.1<=30))<;>cases TQ (u:Int) l[i].2.2.1 l[i].2.1 ((l.take i).drop (u+1))<;>rfl
theorem Ac3:Ac prog 108 (Ent.rd1 O0).F:=by
 refine fcK (kc func151 Ky (kc func152 WV (kc func153 Aez (kc func100 Qj KnowsL.nil)))).knows (Λ:=(Aa [(9,F6)])) func108 fun vs bs r hq=>?_
 unfold Ent.F O0 at hq;dsimp only at hq;split at hq
 ·rename_i l i;obtain ⟨hc,hx⟩:=Ad hq;rw [anE,anE] at hc;exact ⟨U2,(RQ l i (of_decide_eq_true hc.1.1) hc.1.2 hc.2).trans hx⟩
 ·cases hq
instance decTy0:DecidableEq (Bool×Int×Int×Unit):=inferInstance
instance decTy:DecidableEq Ty:=inferInstance
def Hi:LoopEnt:=⟨105,[1,13,14,15],[1],[2],fun
 | ([.ptr 0 0,.sl TCd q,.j m,.j i],[some (.box [.sl TCd l])])=>.need (decide (0<=i/\i.toNat<=l.length/\m=l.length/\eqT (List Ty) q l/\l.length<=4000000000)&&nmL l&&Dj l i.toNat) (.br (((range l.length).drop i.toNat).all (okT l)) (.leaf (.exit 0,([.ptr 0 0],[some (.box [.sl TCd l])]))) (.leaf (.ret,([.b false],[]))))
 | _=>.no⟩
def Ix:LoopEnt:=⟨105,[1,83,84,85],[1],[2],fun
 | ([.ptr 0 0,.sl TCd q,.j m,.j i],[some (.box [.sl TCd l])])=>.need (decide (0<=i/\i.toNat<=l.length/\m=l.length/\eqT (List Ty) q l/\l.length<=4000000000)) (.br (((range l.length).drop i.toNat).all (EU l)) (.leaf (.exit 2,([.ptr 0 0],[some (.box [.sl TCd l])]))) (.leaf (.ret,([.b false],[]))))
 | _=>.no⟩
abbrev OW:FuncId->Option Ent:=Aa [(100,.rd1 AC),(108,.rd1 O0),(83,.rd1 Kx),(39,.rd1 C7),(109,.rd1 R2)]
theorem N6 (l q:List Ty) (m i:Int):Au prog OW (Aa [(4,Hi),(12,Ix)]) 0 (body f63 0) Hi ([.ptr 0 0,.sl TCd q,.j m,.j i],[some (.box [.sl TCd l])]) =
 ((ifB (decide (i<m)) (ifT (decide (0<=i)&&decide (i<(↑q.length:Int))) (An q[i.toNat]? fun z=>shr z.2.2 fun sh4=>shr sh4.2.2.2 fun sh3=>shr (ifB
 (decide (i>0)) (ifT (decide (0<=i/\i.toNat<l.length/\l.length<=4000000000)&&Dj l i.toNat&&nmL l) (ifB (!E3 l i.toNat) rF (some (Ex.normal,[V.ptr 0 0,V.sl TCd q,V.j m,V.j (i64.wrap (i+1))],[some (Blk.box [V.sl TCd l])])))) (some (Ex.normal,[V.ptr 0 0,
 V.sl TCd q,V.j m,V.j (i64.wrap (i+1))],[some (Blk.box [V.sl TCd l])]))) fun sh2=>shr (ifB (i==0) (ifB (z.1 != (5:Int)) rF (ifB (sh4.2.2.1 != (-1:Int)) rF (ifB (!z.2.1==Ag UInt8) rF (ifB (sh4.1 != (0 :
 Int)) rF (ifB sh4.2.1 rF sh2))))) sh2) fun sh1=>ifB (!decide ((1:Int)<=z.1/\z.1<=(5:Int)))
 rF (ifB (z.1==(3:Int)) (ifB (!decide ((0:Int)<=sh3.1/\sh3.1<=(20:Int))) rF (ifB (z.1 != (3
 : Int)) (ifB (sh3.1 != (0:Int)) rF sh1) sh1)) (ifB (z.1 != (3:Int)) (ifB (sh3.1 != (0:Int)) rF
 sh1) sh1)))) (some (Ex.exit 0,[V.ptr 0 0],[some (Blk.box [V.sl TCd l])]))):_):=by kernel_rfl
theorem N5 (l q:List Ty) (m i:Int):Au prog OW (Aa [(4,Hi),(12,Ix)]) 0 (body f63 1) Ix ([.ptr 0 0,.sl TCd q,.j m,.j i],[some (.box [.sl TCd l])]) =
 ((ifB (decide (i<m)) (ifT (decide (0<=i)&&decide (i<(↑q.length:Int))) (An q[i.toNat]? fun z=>ifB (z.1==(4:Int)) (ifT (decide (0<=i/\i.toNat<l.length
 /\ l.length<=4000000000)) (ifB ((↑(BB l i.toNat).length:Int) != (1:Int)) rF (some (Ex.normal,[V.ptr 0 0,V.sl TCd q,V.i
 .i64 m,V.j (i64.wrap (i+1))],[some (Blk.box [V.sl TCd l])])))) (some (Ex.normal,[V.ptr 0 0,V.sl TCd q,V.j m,V.j (i64.wrap (i +
 1))],[some (Blk.box [V.sl TCd l])])))) (some (Ex.exit 2,[V.ptr 0 0],[some (Blk.box [V.sl TCd l])]))):_):=by kernel_rfl
theorem Z7 (l:List Ty):AT prog OW (Aa [(4,Hi),(12,Ix)]) f63 [.agg [.sl TCd l]] [] =
 ((ifB (!decide (1<=(↑l.length:Int)/\(↑l.length:Int)<=(30:Int))) nF (ifT (decide ((0:Int)<=(0:Int)/\0<=l.length/\(↑l.length :
 Int)=(↑l.length:Int)/\eqT (List Ty) l l/\l.length<=4000000000)&&nmL l&&Dj l 0) (ifB ((drop 0 (range l.length)).all (okT
 l)) (ifT (decide ((0:Int)<=(0:Int)/\0<=l.length/\(↑l.length:Int)=(↑l.length:Int)/\eqT (List Ty) l l/\l.length<=4000000000)) (ifB
 ((drop 0 (range l.length)).all (EU l)) (ifT (decide ((0:Int)<=(0:Int)/\0<l.length/\l.length<=4000000000)) (ifT (decide
 (Ak (take (t2L l 0).kids.length (drop 0 (t2L l 0).kids))+1<=1000000)) (some (V.b (decide ((↑(BQ (take (t2L
 l 0).kids.length (drop 0 (t2L l 0).kids))+bif Ar (t2L l 0).lab.1 then 1 else 0):Int)<=(5:Int))),[]))))
 nF)) nF))):_):=by kernel_rfl
theorem Rl {l:List Ty} {i:Nat} (h:Dj l i=true) {u:Int} (hu:Ba l i=some u) (hlt:u<(i:Int)):Dj l (i+1)=true:=by
 unfold Dj at h ⊢;rw [List.range_succ,List.all_append,h,Bool.true_and,List.all_cons,List.all_nil,Bool.and_true,hu];exact dcT hlt
theorem Acl {l:List Ty} {i:Nat} (h:okT l i=true) : ∃ u,Ba l i=some u/\u<(i:Int):=by
 unfold okT at h;rw [anE] at h;have h:=h.2
 by_cases hz:i=0
 ·subst hz;rw [if_pos rfl] at h;simp only [anE,dcE] at h;exact ⟨-1,h.1.1.1.2,by omega⟩
 ·rw [if_neg hz] at h;unfold E3 at h
  cases hu:Ba l i with
  | none=>rw [hu] at h; cases h
  | some u=>
   rw [hu] at h;simp only [anE,dcE] at h;exact ⟨u,rfl,h.1.1.1.2⟩
theorem Xq (l:List Ty) (hl:l.length<=4000000000) (hn:nmL l=true) (i:Nat) (hi:i<l.length) (hs:Dj l i=true) :
  Au prog OW (Aa [(4,Hi),(12,Ix)]) 0 (body f63 0) Hi ([.ptr 0 0,.sl TCd l,.j (l.length:Int),.j (i:Int)],[some (.box [.sl TCd l])])=some (bif okT l i then (.normal,([.ptr 0 0,.sl TCd l,.j (l.length:Int),.j ((i+1:Nat):Int)],[some (.box [.sl TCd l])])) else (.ret,([.b false],[]))):=by
 have hM:=mxI;have hr:=N6 l l l.length i;dsimp only [shr] at hr;rw [Af (dcT (by omega)),T2 (by omega)] at hr;simp only [ntN,gtE hi,Ap,Az (n:=i) (by omega)] at hr;refine hr.trans ?_;clear hr
 have hc:(decide ((0:Int)<=(i:Int)/\i<l.length/\l.length<=4000000000)&&Dj l i&&nmL l)=true:=by
  rw [hs,hn,dcT (show (0:Int)<=(i:Int)/\i<l.length/\l.length<=4000000000 from ⟨by omega,hi,hl⟩)]; rfl
 rw [hc]
 have hkm:kmB (A5 l i)=(decide (1<=l[i].1/\l[i].1<=5)&&(bif l[i].1==3 then decide (0<=l[i].2.2.2.2.2.1/\l[i].2.2.2.2.2.1<=20) else l[i].2.2.2.2.2.1==0)):=by
  rw [HD hi];unfold kmB;dsimp only
  by_cases h3:l[i].1=3
  ·rw [if_pos h3,h3]; rfl
  ·rw [if_neg h3,beq_false_of_ne h3]; rfl
 unfold okT;rw [hkm];unfold bne
 by_cases hz:i=0
 ·subst hz
  have hu:decide (Ba l 0=some (-1))=(l[0].2.2.2.2.1==-1):=by
   unfold Ba;rw [gtE hi]
   by_cases h1:l[0].2.2.2.2.1 = -1
   ·rw [map_some,h1]; simp
   ·rw [beq_false_of_ne h1]; exact dcF (fun h=>h1 (Option.some.inj h))
  rw [if_pos rfl,HD hi,hu];simp only [show (((0:Nat):Int)==0)=true from rfl,show decide (((0:Nat):Int)>0)=false from rfl];have hnil:(l[0].2.1==([]:By))=(l[0].2.1==Ag UInt8):=rfl;rw [hnil];generalize decide (1<=l[0].1/\l[0].1<=5)=K;generalize (l[0].1==3)=c3;generalize (l[0].1==5)=c5;generalize decide (0<=l[0].2.2.2.2.2.1/\l[0].2.2.2.2.2.1<=20)=M;generalize (l[0].2.2.2.2.2.1==0)=m0;generalize (l[0].2.2.2.2.1==-1)=u0;generalize (l[0].2.1==Ag UInt8)=nm;generalize (l[0].2.2.1==0)=no;generalize l[0].2.2.2.1=mu;cases K<;>cases c3<;>cases c5<;>cases M<;>cases m0<;>cases u0<;>cases nm<;>cases no<;>cases mu<;>rfl
 ·rw [if_neg hz];have h0:((i:Int)==0)=false:=beq_false_of_ne (by omega);have h1:decide ((i:Int)>0)=true:=dcT (by omega);rw [h0,h1];generalize decide (1<=l[i].1/\l[i].1<=5)=K;generalize (l[i].1==3)=c3;generalize decide (0<=l[i].2.2.2.2.2.1/\l[i].2.2.2.2.2.1<=20)=M;generalize (l[i].2.2.2.2.2.1==0)=m0;generalize E3 l i=p;cases K<;>cases c3<;>cases M<;>cases m0<;>cases p<;>rfl
theorem Lc {n i:Nat} (h:i<n):(range n).drop i=i::(range n).drop (i+1):=by
 rw [drop_eq_getElem_cons (by simpa using h)]; simp
theorem Qx (l:List Ty) (hl:l.length<=4000000000) (hn:nmL l=true) : ∀ (j i:Nat),i+j=l.length->Dj l i=true->∀ ex d,(Br.br (((range l.length).drop i).all (okT l)) (.leaf (.exit 0,([.ptr 0 0],[some (.box [.sl TCd l])]))) (.leaf (.ret,([.b false],[]))):Br (Ex×Dt)).run=some (ex,d)->
  Runs prog OW (Aa [(4,Hi),(12,Ix)]) 0 (body f63 0) Hi ([.ptr 0 0,.sl TCd l,.j (l.length:Int),.j (i:Int)],[some (.box [.sl TCd l])]) ex d
 | 0,i,hi,hs,ex,d,h=>by
  have hr:=N6 l l l.length i;dsimp only [shr] at hr;rw [Ae (dcF (by omega))] at hr;have e1:(range l.length).drop i=[]:=drop_eq_nil_of_le (by simp; omega);rw [e1] at h;obtain ⟨rfl,rfl⟩:=lfP h;exact stp hr
 | j+1,i,hi,hs,ex,d,h=>by
  have hr:=Xq l hl hn i (by omega) hs;rw [Lc (by omega),List.all_cons] at h
  cases hk:okT l i with
  | true=>
   rw [hk,cond_true] at hr;rw [hk,Bool.true_and] at h;obtain ⟨u,hu,hlt⟩:=Acl hk;exact sts hr (Qx l hl hn j (i+1) (by omega) (Rl hs hu hlt) ex d h)
  | false=>
   rw [hk,cond_false] at hr;rw [hk,Bool.false_and] at h;obtain ⟨rfl,rfl⟩:=lfP h;exact stp hr
theorem Ado : ∀ d e d',(Hi.L d).run=some (e,d')->Runs prog OW (Aa [(4,Hi),(12,Ix)]) 0 (body f63 0) Hi d e d':=fun d ex d' h=>by
 unfold Hi at h;dsimp only at h;split at h
 ·rename_i q m i l;obtain ⟨hc,hx⟩:=Ad h;clear h;rw [anE,anE] at hc;obtain ⟨⟨hc,hn⟩,hs⟩:=hc;obtain ⟨h0,h1,rfl,h3,h4⟩:=of_decide_eq_true hc;have h3:q=l:=h3;subst h3;obtain ⟨i,rfl⟩:=eq_ofNat_of_zero_le h0;simp only [ntN] at h1 hs hx;exact Qx _ h4 hn _ i (Nat.add_sub_of_le h1) hs ex d' hx
 ·cases h
theorem Adn : ∀ d e d',(Ix.L d).run=some (e,d')->Runs prog OW (Aa [(4,Hi),(12,Ix)]) 0 (body f63 1) Ix d e d':=fun d ex d' h=>by
 unfold Ix at h;dsimp only at h;split at h
 ·rename_i q m i l;obtain ⟨hc,hx⟩:=Ad h;clear h;obtain ⟨h0,h1,rfl,h3,h4⟩:=of_decide_eq_true hc;have h3:q=l:=h3;subst h3;obtain ⟨i,rfl⟩:=eq_ofNat_of_zero_le h0;simp only [ntN] at h1 hx;have hM:=mxI;refine E1 (l:=range q.length) (EU q) (fun i=>([.ptr 0 0,.sl TCd q,.j (q.length:Int),.j (i:Int)],[some (.box [.sl TCd q])])) (ex:=(.exit 2,([.ptr 0 0],[some (.box [.sl TCd q])]))) (rt:=(.ret,([.b false],[]))) (by simp) (by simp) (fun n hn=>?_) ?_ (q.length-i) i (by simp; omega) ex d' hx
  ·have hn:n<q.length:=by simpa using hn
   have hr:=N5 q q q.length n;rw [Af (dcT (by omega)),T2 (by omega)] at hr;simp only [ntN,gtE hn,Ap,Az (n:=n) (by omega)] at hr;refine hr.trans ?_;rw [Ab (dcT ⟨by omega,hn,h4⟩),List.getElem_range]
   have e1:(((BB q n).length:Int) != 1)=((BB q n).length != 1):=by
    by_cases h:(BB q n).length=1
    ·rw [h]; rfl
    ·have h2:((BB q n).length:Int)≠1:=by omega
     unfold bne;rw [beq_false_of_ne h,beq_false_of_ne h2]
   rw [e1];unfold EU;rw [HD hn];dsimp only;cases q[n].1==4<;>cases (BB q n).length != 1<;>rfl
  ·have hr:=N5 q q q.length q.length;rw [Ae (dcF (by omega))] at hr;simp only [List.length_range];exact hr
 ·cases h
theorem Afx:Aw prog OW (Aa [(4,Hi),(12,Ix)]) 0 (f63.body.getD .skip):=
 LoopsI.loops (.cons (a:=body f63 0) (by kernel_rfl) Ado (.cons (a:=body f63 1) (by kernel_rfl) Adn .nil)) (by kernel_rfl)
theorem Adm (l:List Ty) (h1:l.length<=4000000000) (hn:nmL l=true):AT prog OW (Aa [(4,Hi),(12,Ix)]) f63 [.agg [.sl TCd l]] []=some (.b (Ay l),[]):=by
 rw [Z7,<- (K1 l).1];have hq:=K1 l;have hu0:Dj l 0=true:=rfl;have d0:decide ((0:Int)<=0/\0<=l.length/\(l.length:Int)=(l.length:Int)/\eqT (List Ty) l l/\l.length<=4000000000)=true:=dcT ⟨by omega,by omega,rfl,rfl,h1⟩;rw [d0,hn,hu0,drop_zero,drop_zero,take_length];have hle:decide (1<=(l.length:Int)/\(l.length:Int)<=30)=decide (1<=l.length/\l.length<=30):=decide_eq_decide.2 (by omega);rw [hle];have hdp:BQ (t2L l 0).kids+(bif Ar (t2L l 0).lab.1 then 1 else 0)=BG (t2L l 0):=Nb _;have hd5:decide ((BG (t2L l 0):Int)<=5)=decide (BG (t2L l 0)<=5):=decide_eq_decide.2 (by omega);rw [hdp,hd5];unfold L9
 cases a1:decide (1<=l.length/\l.length<=30) with
 | false=>rfl
 | true=>
  have a1:=of_decide_eq_true a1
  cases a2:(range l.length).all (okT l) with
  | false=>rfl
  | true=>
   have H:=PK (by omega) a2;have he:=H.end' (by omega);have hc:=L6 (l:=l) (a:=0) (by omega);have hk:=AE (t2L l 0);rw [he.1,he.2] at hc;have d1:decide ((0:Int)<=0/\0<l.length/\l.length<=4000000000)=true:=dcT ⟨by omega,by omega,h1⟩;have d2:decide (Ak (t2L l 0).kids+1<=1000000)=true:=dcT (by omega);rw [d1,d2];cases (range l.length).all (EU l)<;>rfl
theorem KL:Ac prog 63 (Ent.rd1 FX).F:=by
 refine fcK (kc func100 Qj (kc func108 Ac3 (kc func83 WT (kc func39 F5 (kc func109 Ae4 KnowsL.nil))))).knows (Λ:=(Aa [(4,Hi),(12,Ix)])) func63 fun vs bs r hq=>?_
 unfold Ent.F FX at hq;dsimp only at hq;split at hq
 ·rename_i l;obtain ⟨hc,hx⟩:=Ad hq;rw [anE] at hc;exact ⟨Afx,(Adm l (of_decide_eq_true hc.1) hc.2).trans hx⟩
 ·cases hq
def drT (n:Nat) (z:Rose Lab):Prop:=Aj z<=n/\Cl z=true
def Jp (d m:Int) (f:Cur->Rose Lab×Cur):Gm
 | [.ptr 0 0,.j x],[.box [.sl (.int .u8) l,.j a,.i .u64 s]]=>.need (decide (x=d/\0<=d/\(Cur.mk l a s).good m)) (.leaf (.agg [.j (f (Cur.mk l a s)).1.lab.1,.s (f (Cur.mk l a s)).1.lab.2.1,.j (f (Cur.mk l a s)).1.lab.2.2.1,.b (f (Cur.mk l a s)).1.lab.2.2.2.1,.j (f (Cur.mk l a s)).1.lab.2.2.2.2.1,.ref 1 0 (f (Cur.mk l a s)).1.kids.length],[some (cB (f (Cur.mk l a s)).2),R0 (.rose LCd) (f (Cur.mk l a s)).1.kids]))
 | _,_=>.no
def I8 (d m:Int) (f:Cur->Rose Lab×Cur):Gm
 | [.ptr 0 0,.j x],[.box [.sl (.int .u8) l,.j a,.i .u64 s]]=>.need (decide (x=d/\0<=d/\(Cur.mk l a s).good m)) (.leaf (.agg [.j (f (Cur.mk l a s)).1.lab.1,.s (f (Cur.mk l a s)).1.lab.2.1,.j (f (Cur.mk l a s)).1.lab.2.2.1,.b (f (Cur.mk l a s)).1.lab.2.2.2.1,.j (f (Cur.mk l a s)).1.lab.2.2.2.2.1,.ref 1 0 (f (Cur.mk l a s)).1.kids.length],[some (cB (f (Cur.mk l a s)).2),R0 (.rose LCd) (f (Cur.mk l a s)).1.kids]))
 | _,_=>.no
def Hq (e m q:Int) (o:Cur×RL×Nat×List (By)->RL×Cur):LoopEnt:=⟨39,[0,1,4,5,10,11,12],[4,5],[],fun
 | ([.ptr 0 0,.j d,.ptr 1 0,.ptr 2 0,.ref 3 0 5,.j k,.j i],[some (.box [.sl (.int .u8) l,.j a,.i .u64 s]),some (.box [.j 0,.s [],.j 0,.b false,.j 0,.ref 4 0 0]),some (.box [.j 5,.s [],.j 0,.b false,.j 0,.ref 5 0 n]),R0 .str nm,R0 (.rose LCd) [],R0 (.rose LCd) ks])=>.need (decide (d=e/\k=5/\0<=i/\i<=5/\n=ks.length/\ks.length<=i.toNat/\nm.length=5/\(Cur.mk l a s).good (m+i*q))&&nm.all (fun x=>decide (x.length<=10))) (.leaf (.exit 0,([.ptr 1 0,.ptr 2 0],[some (cB (o (Cur.mk l a s,ks,i.toNat,nm)).2),some (.box [.j 0,.s [],.j 0,.b false,.j 0,.ref 3 0 0]),some (.box [.j 5,.s [],.j 0,.b false,.j 0,.ref 4 0 (o (Cur.mk l a s,ks,i.toNat,nm)).1.length]),R0 (.rose LCd) [],R0 (.rose LCd) (o (Cur.mk l a s,ks,i.toNat,nm)).1])))
 | _=>.no⟩
theorem FI (d m m' q:Int) (f:Cur->Rose Lab×Cur) (o:Cur×RL×Nat×List (By)->RL×Cur) (k i:Int) (l:List Int) (a s:Int) (n:Nat) (nm:List (By)) (ks:RL):Au prog (Aa [(67,.own CT),(155,.own (Jp d m' f))]) (Aa [(3,Hq d m q o)]) 1 (body f111 0) (Hq d m q o) ([.ptr 0 0,.j d,.ptr 1 0,.ptr 2 0,.ref 3 0 5,.j k,.j i],[some (.box [.sl (.int .u8) l,.j a,.i .u64 s]),some (.box [.j 0,.s [],.j 0,.b false,.j 0,.ref 4 0 0]),some (.box [.j 5,.s [],.j 0,.b false,.j 0,.ref 5 0 n]),R0 .str nm,R0 (.rose LCd) [],R0 (.rose LCd) ks]) =
 ((ifB (decide (i<k)) (ifT (decide (0<=i)&&decide (i<(↑(5:Nat):Int))) (An nm[0+i.toNat]? fun z=>ifT (decide ((Cur.mk l a s).good (900000000 :
 Int))) (ifB (!(Cur.mk l a s).pickV (2:Int)==(0:Int)) (some (Ex.normal,[V.ptr 0 0,V.j d,V.ptr 1 0,V.ptr 2 0,V.ref 3 0 5,V.j k,V.i .i64
 (i64.wrap (i+1))],[some (Blk.box [V.sl (Cd.int .u8) ((Cur.mk l a s).pickC (2:Int)).l,V.j ((Cur.mk l a s).pickC (2:Int)).a,V.i .u64 ((Cur.mk l a
 s).pickC (2:Int)).s]),some (Blk.box [V.j 0,V.s (Ag UInt8),V.j 0,V.b false,V.j 0,V.ref 4 0 0]),some (Blk.box [V.j 5,V.s (Ag UInt8),V.i
 .i64 0,V.b false,V.j 0,V.ref 5 0 n]),R0 Cd.str nm,R0 LCd.rose (Ag LCd.rose.den),R0 LCd.rose ks])) (ifT (decide (d=d/\0<=d/\((Cur.mk l a s).pickC (2:Int)).good m')) (ifT (decide ((f ((Cur.mk l a s).pickC (2:Int))).2.good (900000000:Int)))
 (ifT (decide ((n+1)*72<=140737488355328)&&decide (n+1<=maxI)) (some (Ex.normal,[V.ptr 0 0,V.j d,V.ptr 1 0,V.ptr 2 0,
 V.ref 3 0 5,V.j k,V.j (i64.wrap (i+1))],[some (Blk.box [V.sl (Cd.int .u8) ((f ((Cur.mk l a s).pickC (2:Int))).2.pickC (3:Int)).l,V.i .i64
 ((f ((Cur.mk l a s).pickC (2:Int))).2.pickC (3:Int)).a,V.i .u64 ((f ((Cur.mk l a s).pickC (2:Int))).2.pickC (3:Int)).s]),some (Blk.box [V.j 0,V.s
 (Ag UInt8),V.j 0,V.b false,V.j 0,V.ref 4 0 0]),some (Blk.box [V.j 5,V.s (Ag UInt8),V.j 0,V.b false,V.j 0,V.ref 5 0 (n+(1 :
 Nat))]),R0 Cd.str nm,R0 LCd.rose (Ag LCd.rose.den),R0 LCd.rose (take n (drop 0
 ks)++Rose.node ((f ((Cur.mk l a s).pickC (2:Int))).1.lab.1,z,i64.wrap (i+1),(f ((Cur.mk l a s).pickC (2:Int))).2.pickV (3:Int)==(0:Int),(f
 ((Cur.mk l a s).pickC (2:Int))).1.lab.2.2.2.2.1,()) (take (f ((Cur.mk l a s).pickC (2:Int))).1.kids.length (drop 0 (f ((Cur.mk l a
 s).pickC (2:Int))).1.kids))::Ag LCd.rose.den)])))))))) (some (Ex.exit 0,[V.ptr 1 0,V.ptr 2 0],[some (Blk.box [V.sl (Cd.int .u8) l,V.j a,V.i .u64 s]),
 some (Blk.box [V.j 0,V.s (Ag UInt8),V.j 0,V.b false,V.j 0,V.ref 3 0 0]),some (Blk.box [V.j 5,V.s (Ag UInt8),V.j 0,V.b false,V.i
 .i64 0,V.ref 4 0 n]),R0 LCd.rose (Ag LCd.rose.den),R0 LCd.rose ks]))):_):=by kernel_rfl
theorem X7 (d m:Int) (f:Cur->Rose Lab×Cur) (g:Cur->Rose Lab×Cur) (l:List Int) (a s:Int):Bm prog (Aa [(90,.own Bp),(155,.own (Jp (d-1) m f)),(111,.own (I8 (d-1) m g))]) (Aa []) f155 [.ptr 0 0,.j d] [.box [.sl (.int .u8) l,.j a,.i .u64 s]] =
 ((ifT (decide ((Cur.mk l a s).good (900000000:Int))) (ifB ((Cur.mk l a s).pickV (6:Int)==(0:Int)) (ifB ((Cur.mk l a s).pickV (6:Int)==(0:Int)) (some (V.agg
 [V.j 1,V.s (Ag UInt8),V.j 0,V.b false,V.j 0,V.ref 1 0 0],[some (Blk.box [V.sl (Cd.int .u8) ((Cur.mk l a s).pickC (6:Int)).l,V.j ((Cur.mk l
 a s).pickC (6:Int)).a,V.i .u64 ((Cur.mk l a s).pickC (6:Int)).s]),R0 LCd.rose (Ag LCd.rose.den)])) (ifB ((Cur.mk l a s).pickV (6:Int)==
 (2:Int)) (some (V.agg [V.j 2,V.s (Ag UInt8),V.j 0,V.b false,V.j 0,V.ref 1 0 0],[some (Blk.box [V.sl (Cd.int .u8) ((Cur.mk l a s).pickC (6 :
 Int)).l,V.j ((Cur.mk l a s).pickC (6:Int)).a,V.i .u64 ((Cur.mk l a s).pickC (6:Int)).s]),R0 LCd.rose (Ag LCd.rose.den)])) (ifB
 ((Cur.mk l a s).pickV (6:Int)==(3:Int)) (ifT (decide (((Cur.mk l a s).pickC (6:Int)).good (900000000:Int))) (some (V.agg [V.j 3,V.s (Ag UInt8),V.i .i64
 0,V.b false,V.j (((Cur.mk l a s).pickC (6:Int)).pickV (5:Int)),V.ref 1 0 0],[some (Blk.box [V.sl (Cd.int .u8) (((Cur.mk l a s).pickC (6:Int)).pickC (5 :
 Int)).l,V.j (((Cur.mk l a s).pickC (6:Int)).pickC (5:Int)).a,V.i .u64 (((Cur.mk l a s).pickC (6:Int)).pickC (5:Int)).s]),R0 LCd.rose
 (Ag LCd.rose.den)]))) (ifB ((Cur.mk l a s).pickV (6:Int)==(4:Int)) (ifB (decide (d>0)) (ifT (decide (i64.wrap (d-1)=d-1/\0<=d-1/\((Cur.mk l
 a s).pickC (6:Int)).good m)) (some (V.agg [V.j 4,V.s (Ag UInt8),V.j 0,V.b false,V.j 0,V.ref 1 0 1],[some (Blk.box [V.sl (Cd.int .u8) (f ((Cur.mk
 l a s).pickC (6:Int))).2.l,V.j (f ((Cur.mk l a s).pickC (6:Int))).2.a,V.i .u64 (f ((Cur.mk l a s).pickC (6:Int))).2.s]),R0 LCd.rose (Rose.node ((f ((Cur.mk l a s).pickC (6:Int))).1.lab.1,(f ((Cur.mk l a s).pickC (6:Int))).1.lab.2.1,(f ((Cur.mk l a s).pickC (6 :
 Int))).1.lab.2.2.1,(f ((Cur.mk l a s).pickC (6:Int))).1.lab.2.2.2.1,(f ((Cur.mk l a s).pickC (6:Int))).1.lab.2.2.2.2.1,()) (take
 (f ((Cur.mk l a s).pickC (6:Int))).1.kids.length (drop 0 (f ((Cur.mk l a s).pickC (6:Int))).1.kids))::Ag LCd.rose.den)]))) (some (V.agg [V.i
 .i64 1,V.s (Ag UInt8),V.j 0,V.b false,V.j 0,V.ref 1 0 0],[some (Blk.box [V.sl (Cd.int .u8) ((Cur.mk l a s).pickC (6:Int)).l,V.j ((Cur.mk l a
 s).pickC (6:Int)).a,V.i .u64 ((Cur.mk l a s).pickC (6:Int)).s]),R0 LCd.rose (Ag LCd.rose.den)]))) (ifB (decide (d>0)) (ifT (decide
 (i64.wrap (d-1)=d-1/\0<=d-1/\((Cur.mk l a s).pickC (6:Int)).good m)) (some (V.agg [V.j (g ((Cur.mk l a s).pickC (6:Int))).1.lab.1,V.s (g
 ((Cur.mk l a s).pickC (6:Int))).1.lab.2.1,V.j (g ((Cur.mk l a s).pickC (6:Int))).1.lab.2.2.1,V.b (g ((Cur.mk l a s).pickC (6 :
 Int))).1.lab.2.2.2.1,V.j (g ((Cur.mk l a s).pickC (6:Int))).1.lab.2.2.2.2.1,V.ref 1 0 (g ((Cur.mk l a s).pickC (6 :
 Int))).1.kids.length],[some (Blk.box [V.sl (Cd.int .u8) (g ((Cur.mk l a s).pickC (6:Int))).2.l,V.j (g ((Cur.mk l a s).pickC (6:Int))).2.a,V.i .u64 (g
 ((Cur.mk l a s).pickC (6:Int))).2.s]),R0 LCd.rose (g ((Cur.mk l a s).pickC (6:Int))).1.kids]))) (some (V.agg [V.j 1,V.s (Ag
 UInt8),V.j 0,V.b false,V.j 0,V.ref 1 0 0],[some (Blk.box [V.sl (Cd.int .u8) ((Cur.mk l a s).pickC (6:Int)).l,V.j ((Cur.mk l a s).pickC (6 :
 Int)).a,V.i .u64 ((Cur.mk l a s).pickC (6:Int)).s]),R0 LCd.rose (Ag LCd.rose.den)]))))))) (ifB ((Cur.mk l a s).pickV (6:Int)==(1:Int))
 (some (V.agg [V.j 1,V.s (Ag UInt8),V.j 0,V.b false,V.j 0,V.ref 1 0 0],[some (Blk.box [V.sl (Cd.int .u8) ((Cur.mk l a s).pickC (6:Int)).l,V.i
 .i64 ((Cur.mk l a s).pickC (6:Int)).a,V.i .u64 ((Cur.mk l a s).pickC (6:Int)).s]),R0 LCd.rose (Ag LCd.rose.den)])) (ifB ((Cur.mk l a
 s).pickV (6:Int)==(2:Int)) (some (V.agg [V.j 2,V.s (Ag UInt8),V.j 0,V.b false,V.j 0,V.ref 1 0 0],[some (Blk.box [V.sl (Cd.int .u8) ((Cur.mk l
 a s).pickC (6:Int)).l,V.j ((Cur.mk l a s).pickC (6:Int)).a,V.i .u64 ((Cur.mk l a s).pickC (6:Int)).s]),R0 LCd.rose (Ag
 LCd.rose.den)])) (ifB ((Cur.mk l a s).pickV (6:Int)==(3:Int)) (ifT (decide (((Cur.mk l a s).pickC (6:Int)).good (900000000:Int))) (some (V.agg [V.j 3,V.s
 (Ag UInt8),V.j 0,V.b false,V.j (((Cur.mk l a s).pickC (6:Int)).pickV (5:Int)),V.ref 1 0 0],[some (Blk.box [V.sl (Cd.int .u8) (((Cur.mk l a s).pickC
 (6:Int)).pickC (5:Int)).l,V.j (((Cur.mk l a s).pickC (6:Int)).pickC (5:Int)).a,V.i .u64 (((Cur.mk l a s).pickC (6:Int)).pickC (5:Int)).s]),R0 LCd.rose (Ag LCd.rose.den)]))) (ifB ((Cur.mk l a s).pickV (6:Int)==(4:Int)) (ifB (decide (d>0)) (ifT (decide (i64.wrap (d-1)=d
 - 1/\0<=d-1/\((Cur.mk l a s).pickC (6:Int)).good m)) (some (V.agg [V.j 4,V.s (Ag UInt8),V.j 0,V.b false,V.j 0,V.ref 1 0 1],[some (Blk.box
 [V.sl (Cd.int .u8) (f ((Cur.mk l a s).pickC (6:Int))).2.l,V.j (f ((Cur.mk l a s).pickC (6:Int))).2.a,V.i .u64 (f ((Cur.mk l a s).pickC (6:Int))).2.s]),
 R0 LCd.rose (Rose.node ((f ((Cur.mk l a s).pickC (6:Int))).1.lab.1,(f ((Cur.mk l a s).pickC (6:Int))).1.lab.2.1,(f ((Cur.mk l a
 s).pickC (6:Int))).1.lab.2.2.1,(f ((Cur.mk l a s).pickC (6:Int))).1.lab.2.2.2.1,(f ((Cur.mk l a s).pickC (6:Int))).1.lab.2.2.2.2.1,
 ()) (take (f ((Cur.mk l a s).pickC (6:Int))).1.kids.length (drop 0 (f ((Cur.mk l a s).pickC (6:Int))).1.kids))::Ag LCd.rose.den)]))) (some
 (V.agg [V.j 1,V.s (Ag UInt8),V.j 0,V.b false,V.j 0,V.ref 1 0 0],[some (Blk.box [V.sl (Cd.int .u8) ((Cur.mk l a s).pickC (6:Int)).l,V.i .i64
 ((Cur.mk l a s).pickC (6:Int)).a,V.i .u64 ((Cur.mk l a s).pickC (6:Int)).s]),R0 LCd.rose (Ag LCd.rose.den)]))) (ifB (decide (d>0)) (ifT
 (decide (i64.wrap (d-1)=d-1/\0<=d-1/\((Cur.mk l a s).pickC (6:Int)).good m)) (some (V.agg [V.j (g ((Cur.mk l a s).pickC (6:Int))).1.lab.1,
 V.s (g ((Cur.mk l a s).pickC (6:Int))).1.lab.2.1,V.j (g ((Cur.mk l a s).pickC (6:Int))).1.lab.2.2.1,V.b (g ((Cur.mk l a s).pickC (6 :
 Int))).1.lab.2.2.2.1,V.j (g ((Cur.mk l a s).pickC (6:Int))).1.lab.2.2.2.2.1,V.ref 1 0 (g ((Cur.mk l a s).pickC (6 :
 Int))).1.kids.length],[some (Blk.box [V.sl (Cd.int .u8) (g ((Cur.mk l a s).pickC (6:Int))).2.l,V.j (g ((Cur.mk l a s).pickC (6:Int))).2.a,V.i .u64 (g
 ((Cur.mk l a s).pickC (6:Int))).2.s]),R0 LCd.rose (g ((Cur.mk l a s).pickC (6:Int))).1.kids]))) (some (V.agg [V.j 1,V.s (Ag
 UInt8),V.j 0,V.b false,V.j 0,V.ref 1 0 0],[some (Blk.box [V.sl (Cd.int .u8) ((Cur.mk l a s).pickC (6:Int)).l,V.j ((Cur.mk l a s).pickC (6 :
 Int)).a,V.i .u64 ((Cur.mk l a s).pickC (6:Int)).s]),R0 LCd.rose (Ag LCd.rose.den)]))))))))):_):=by kernel_rfl
theorem UV (d m m' q:Int) (f:Cur->Rose Lab×Cur) (o:Cur×RL×Nat×List (By)->RL×Cur) (l:List Int) (a s:Int):Bm prog (Aa [(67,.own CT),(155,.own (Jp d m' f))]) (Aa [(3,Hq d m q o)]) f111 [.ptr 0 0,.j d] [.box [.sl (.int .u8) l,.j a,.i .u64 s]] =
 ((ifT (decide (d=d/\(↑(5:Nat):Int)=(5:Int)/\(0:Int)<=(0:Int)/\(0:Int)<=(5:Int)/\0=0/\0<=0/\5=5
 /\ (Cur.mk l a s).good (m+0*q))&&([(97:UInt8)]::[(98:UInt8)]::[(110:UInt8),(97:UInt8),(109:UInt8),(101:UInt8)]::[(108:UInt8),(105:UInt8),
 (115:UInt8),(116:UInt8)]::[(107:UInt8),(105:UInt8),(110:UInt8),(100:UInt8)]::Ag Cd.str.den).all fun x=>decide (List.length x<=10)) (some
 (V.agg [V.j 5,V.s (Ag UInt8),V.j 0,V.b false,V.j 0,V.ref 1 0 (o (Cur.mk l a s,Ag LCd.rose.den,0,[(97:UInt8)]::[(98:UInt8)]::
 [(110:UInt8),(97:UInt8),(109:UInt8),(101:UInt8)]::[(108:UInt8),(105:UInt8),(115:UInt8),(116:UInt8)]::[(107:UInt8),(105:UInt8),(110 :
 UInt8),(100:UInt8)]::Ag Cd.str.den)).1.length],[some (Blk.box [V.sl (Cd.int .u8) (o (Cur.mk l a s,Ag LCd.rose.den,0,[(97:UInt8)]::[(98 :
 UInt8)]::[(110:UInt8),(97:UInt8),(109:UInt8),(101:UInt8)]::[(108:UInt8),(105:UInt8),(115:UInt8),(116:UInt8)]::[(107:UInt8),(105:UInt8),
 (110:UInt8),(100:UInt8)]::Ag Cd.str.den)).2.l,V.j (o (Cur.mk l a s,Ag LCd.rose.den,0,[(97:UInt8)]::[(98:UInt8)]::[(110:UInt8),(97
 : UInt8),(109:UInt8),(101:UInt8)]::[(108:UInt8),(105:UInt8),(115:UInt8),(116:UInt8)]::[(107:UInt8),(105:UInt8),(110:UInt8),(100:UInt8)]::
 Ag Cd.str.den)).2.a,V.i .u64 (o (Cur.mk l a s,Ag LCd.rose.den,0,[(97:UInt8)]::[(98:UInt8)]::[(110:UInt8),(97:UInt8),(109:UInt8),(101 :
 UInt8)]::[(108:UInt8),(105:UInt8),(115:UInt8),(116:UInt8)]::[(107:UInt8),(105:UInt8),(110:UInt8),(100:UInt8)]::Ag Cd.str.den)).2.s]),R0 LCd.rose (o (Cur.mk l a s,Ag LCd.rose.den,0,[(97:UInt8)]::[(98:UInt8)]::[(110:UInt8),(97:UInt8),(109:UInt8),(101 :
 UInt8)]::[(108:UInt8),(105:UInt8),(115:UInt8),(116:UInt8)]::[(107:UInt8),(105:UInt8),(110:UInt8),(100:UInt8)]::Ag Cd.str.den)).1]))):_):=by kernel_rfl
theorem QP : ∀ (ks:RL) (z:Rose Lab),Ak (ks++[z])=Ak ks+Aj z
 | [],z=>by rw [List.nil_append,Ak,Ak,Ak]; omega
 | y::ks,z=>by rw [cons_append,Ak,QP ks z,Ak]; omega
theorem XC (x:Lab) (h:x.2.1.length<=10) (n:Nat):drT (n+1) (.node x []):=by
 have hM:=mxI;exact ⟨by rw [Aj,Ak]; omega,by rw [Cl,EF,dcT (by omega)]; rfl⟩
theorem ZM {n:Nat} {z:Rose Lab} (h:drT n z):drT (n+1) (.node (4,[],0,false,0,()) [z]):=by
 obtain ⟨h1,h2⟩:=h;exact ⟨by rw [Aj,Ak,Ak]; omega,by rw [Cl,EF,EF,h2]; rfl⟩
theorem LW {n m:Nat} {z:Rose Lab} (h:drT n z) (hm:n<=m):drT m z:=⟨le_trans h.1 hm,h.2⟩
theorem Tw {n:Nat} {z:Rose Lab} (h:drT n z):drT n (.node (z.lab.1,z.lab.2.1,z.lab.2.2.1,z.lab.2.2.2.1,z.lab.2.2.2.2.1,()) z.kids):=by cases z; exact h
theorem Ady {n:Nat} {z:Rose Lab} (h:drT n z) (x:Lab) (hx:x.2.1.length<=10):drT n (.node x z.kids):=by
 have hM:=mxI;obtain ⟨y,ks⟩:=z;obtain ⟨h1,h2⟩:=h;refine ⟨by rw [Aj] at h1 ⊢; exact h1,?_⟩;rw [Cl,anE] at h2 ⊢;exact ⟨dcT (by omega),h2.2⟩
theorem Adu (d m m' K:Int) (N:Nat) (h0:m+2<=m') (h1:m'<=800000000) (hK:0<=K) (hd:0<=d/\d<=100) (f g:Cur->Rose Lab×Cur) (pf:0<d->∀ c n,c.good n->n<=m'->(f c).2.good (n+K)/\drT N (f c).1) (pg:0<d->∀ c n,c.good n->n<=m'->(g c).2.good (n+K)/\drT N (g c).1)
    (l:List Int) (a s:Int) (hc:(Cur.mk l a s).good m):Ex1 (Bm prog (Aa [(90,.own Bp),(155,.own (Jp (d-1) m' f)),(111,.own (I8 (d-1) m' g))]) (Aa []) f155 [.ptr 0 0,.j d] [.box [.sl (.int .u8) l,.j a,.i .u64 s]]) (fun y:Rose Lab×Cur=>((.agg [.j y.1.lab.1,.s y.1.lab.2.1,.j y.1.lab.2.2.1,.b y.1.lab.2.2.2.1,.j y.1.lab.2.2.2.2.1,.ref 1 0 y.1.kids.length],[some (cB y.2),R0 (.rose LCd) y.1.kids]):V×List (Option Blk))) (fun y=>∀ n,(Cur.mk l a s).good n->n<=m->y.2.good (n+(K+4))/\drT (N+1) y.1):=by
  refine Ex1.of (X7 d m' f g l a s) ?_;have w1:i64.wrap (d-1)=d-1:=Av (by omega) (by omega);have g1:(Cur.mk l a s).good 900000000:=Cur.good_mono hc (by omega);have g2:((Cur.mk l a s).pickC 6).good 900000000:=Cur.pk (Cur.good_mono hc (by omega));have g3:((Cur.mk l a s).pickC 6).good m':=Cur.pk (Cur.good_mono hc (by omega));simp only [w1,Agb,A7,drop_zero,take_length]
  repeat' first
    | ((with_reducible refine Ex1.B (fun h=>?_) (fun h=>?_)))
    | with_reducible refine Ex1.T ?_ ?_
  all_goals first
    | exact dcT g1
    | exact dcT g2
    | (refine dcT ⟨trivial,?_,g3⟩; have:=of_decide_eq_true ‹decide (d>0)=true›; omega)
    | (refine dcT ⟨rfl,?_,g3⟩; have:=of_decide_eq_true ‹decide (d>0)=true›; omega)
    | refine Ex1.P (.node (_,_,_,_,_,()) _,_) rfl rfl fun n hn hm=>⟨?_,?_⟩
  all_goals try first
    | exact XC _ (by simp) _
    | exact Cur.good_mono (Cur.pickC_good hn) (by omega)
    | exact Cur.good_mono (Cur.pickC_good (Cur.pickC_good hn)) (by omega)
    | (have hp:=of_decide_eq_true ‹decide (d>0)=true›
       first
       | exact Cur.good_mono (pf hp _ _ (Cur.pickC_good hn) (by omega)).1 (by omega)
       | exact Cur.good_mono (pg hp _ _ (Cur.pickC_good hn) (by omega)).1 (by omega)
       | exact LW (Tw (pg hp _ _ (Cur.pickC_good hn) (by omega)).2) (by omega)
       | exact ZM (Tw (pf hp _ _ (Cur.pickC_good hn) (by omega)).2))
theorem ZN {ks:RL} {z:Rose Lab} {n m:Nat} (h1:Ak ks<=n) (h2:EF ks=true) (h:drT m z):Ak (ks++[z])<=n+m/\EF (ks++[z])=true:=by
 obtain ⟨h3,h4⟩:=h;exact ⟨by rw [QP]; omega,Ll _ _ h2 h4⟩
theorem UW (d m m' K:Int) (N:Nat) (h0:m+5*(K+4)<=m') (h1:m'<=800000000) (hK:0<=K) (hd:0<=d) (f:Cur->Rose Lab×Cur) (pf : ∀ c n,c.good n->n<=m'->(f c).2.good (n+K)/\drT N (f c).1) :
  ∀ x:Cur×RL×Nat×List (By),(x.1.good (m+(x.2.2.1:Int)*(K+4))/\x.2.2.1<=5/\x.2.1.length<=x.2.2.1/\x.2.2.2.length=5/\∀ z∈x.2.2.2,z.length<=10)->
   ∃ y:RL×Cur,(∀ o,Runs prog (Aa [(67,.own CT),(155,.own (Jp d m' f))]) (Aa [(3,Hq d m (K+4) o)]) 1 (body f111 0) (Hq d m (K+4) o) ((fun x:Cur×RL×Nat×List (By)=>([.ptr 0 0,.j d,.ptr 1 0,.ptr 2 0,.ref 3 0 5,.j 5,.j (x.2.2.1:Int)],[some (cB x.1),some (.box [.j 0,.s [],.j 0,.b false,.j 0,.ref 4 0 0]),some (.box [.j 5,.s [],.j 0,.b false,.j 0,.ref 5 0 x.2.1.length]),R0 .str x.2.2.2,R0 (.rose LCd) [],R0 (.rose LCd) x.2.1])) x) ((fun y:RL×Cur=>(((.exit 0:Ex),([.ptr 1 0,.ptr 2 0],[some (cB y.2),some (.box [.j 0,.s [],.j 0,.b false,.j 0,.ref 3 0 0]),some (.box [.j 5,.s [],.j 0,.b false,.j 0,.ref 4 0 y.1.length]),R0 (.rose LCd) [],R0 (.rose LCd) y.1])):Ex×Dt)) y).1 ((fun y:RL×Cur=>(((.exit 0:Ex),([.ptr 1 0,.ptr 2 0],[some (cB y.2),some (.box [.j 0,.s [],.j 0,.b false,.j 0,.ref 3 0 0]),some (.box [.j 5,.s [],.j 0,.b false,.j 0,.ref 4 0 y.1.length]),R0 (.rose LCd) [],R0 (.rose LCd) y.1])):Ex×Dt)) y).2)/\
    ((∀ n,x.1.good n->n<=m+(x.2.2.1:Int)*(K+4)->y.2.good (n+(5-(x.2.2.1:Int))*(K+4)))/\∀ n,Ak x.2.1<=n->EF x.2.1=true->Ak y.1<=n+(5-x.2.2.1)*N/\EF y.1=true):=by
 refine Gy (ι:=Cur×RL×Nat×List (By)->RL×Cur) (fun _=>([],Cur.mk [] 0 0)) (Λ:=fun o=>(Aa [(3,Hq d m (K+4) o)])) (ent:=fun o=>Hq d m (K+4) o) (fun x:Cur×RL×Nat×List (By)=>([.ptr 0 0,.j d,.ptr 1 0,.ptr 2 0,.ref 3 0 5,.j 5,.j (x.2.2.1:Int)],[some (cB x.1),some (.box [.j 0,.s [],.j 0,.b false,.j 0,.ref 4 0 0]),some (.box [.j 5,.s [],.j 0,.b false,.j 0,.ref 5 0 x.2.1.length]),R0 .str x.2.2.2,R0 (.rose LCd) [],R0 (.rose LCd) x.2.1])) (fun y:RL×Cur=>(((.exit 0:Ex),([.ptr 1 0,.ptr 2 0],[some (cB y.2),some (.box [.j 0,.s [],.j 0,.b false,.j 0,.ref 3 0 0]),some (.box [.j 5,.s [],.j 0,.b false,.j 0,.ref 4 0 y.1.length]),R0 (.rose LCd) [],R0 (.rose LCd) y.1])):Ex×Dt)) (fun y=>by simp) _ _ (fun x=>5-x.2.2.1) (fun o x _=>(FI d m m' (K+4) f o 5 (x.2.2.1:Int) x.1.l x.1.a x.1.s x.2.1.length x.2.2.2 x.2.1).trans (FI d m m' (K+4) f _ 5 (x.2.2.1:Int) x.1.l x.1.a x.1.s x.2.1.length x.2.2.2 x.2.1).symm) ?_
 rintro ⟨c,ks,i,nm⟩ ⟨hc,hi,hk,h5,hnm⟩
 dsimp only at hc hi hk h5 hnm ⊢;have hM:=mxI;have hq:0<=(i:Int)*(K+4):=Int.mul_nonneg (by omega) (by omega);have hq5:(i:Int)*(K+4)<=5*(K+4):=Int.mul_le_mul_of_nonneg_right (by omega) (by omega)
 by_cases h:i<5
 ·right;refine Ex1.of (FI d m m' (K+4) f _ 5 (i:Int) c.l c.a c.s ks.length nm ks) ?_
  have hq4:(i:Int)*(K+4)+(K+4)<=5*(K+4):=by
   have:((i:Int)+1)*(K+4)<=5*(K+4):=Int.mul_le_mul_of_nonneg_right (by omega) (by omega);rw [Int.add_mul] at this; omega
  have e1:((i:Int)+1)*(K+4)=(i:Int)*(K+4)+(K+4):=by rw [Int.add_mul]; omega
  rw [Af (dcT (by omega))];simp only [BS,show Cur.mk c.l c.a c.s=c from rfl,Az (n:=i) (by omega),A7,drop_zero,take_length,ntN,Nat.zero_add];have g0:c.good 900000000:=Cur.good_mono hc (by omega);have g1:(c.pickC 2).good m':=Cur.pk (Cur.good_mono hc (by omega));have pf1:=pf _ _ (Cur.pickC_good (k:=2) hc) (by omega);refine Ex1.T (by simp; omega) (Ex1.S ⟨nm[i],gtE (by omega)⟩ fun z hz=>Ex1.T (dcT g0) (Ex1.B (fun _=>?_) (fun _=>Ex1.T (dcT ⟨trivial,hd,g1⟩) (Ex1.T (dcT (Cur.good_mono pf1.1 (by omega))) (Ex1.T (by simp; omega) ?_)))))
  ·refine Ex1.P3 (c.pickC 2,ks,i+1,nm) rfl rfl rfl ⟨⟨?_,by dsimp only; omega,by dsimp only; omega,h5,hnm⟩,by dsimp only; omega,fun y hy=>⟨fun n hn hl=>?_,fun n hn hl=>?_⟩⟩
   ·exact Cur.good_mono (Cur.pickC_good hc) (by dsimp only; push_cast; rw [e1]; omega)
   ·refine Cur.good_mono (hy.1 (n+2) (Cur.pickC_good hn) (by dsimp only; push_cast; rw [e1]; omega)) ?_;dsimp only; push_cast; rw [show (5-((i:Int)+1))*(K+4)=(5-(i:Int))*(K+4)-(K+4) by rw [show (5-((i:Int)+1))=(5-(i:Int))-1 by omega,Int.sub_mul]; omega]; omega
   ·have:=hy.2 n hn hl;refine ⟨le_trans this.1 (Nat.add_le_add_left (Nat.mul_le_mul_right _ (by dsimp only; omega)) _),this.2⟩
  ·have hzl:z.length<=10:=hnm z (List.mem_of_getElem? hz);have dz:=Ady pf1.2 ((f (c.pickC 2)).1.lab.1,z,((i+1:Nat):Int),(f (c.pickC 2)).2.pickV 3==0,(f (c.pickC 2)).1.lab.2.2.2.2.1,()) hzl;refine Ex1.P3 ((f (c.pickC 2)).2.pickC 3,ks++[.node ((f (c.pickC 2)).1.lab.1,z,((i+1:Nat):Int),(f (c.pickC 2)).2.pickV 3==0,(f (c.pickC 2)).1.lab.2.2.2.2.1,()) (f (c.pickC 2)).1.kids],i+1,nm) (by simp) rfl rfl ⟨⟨?_,by dsimp only; omega,by simp; omega,h5,hnm⟩,by dsimp only; omega,fun y hy=>⟨fun n hn hl=>?_,fun n hn hl=>?_⟩⟩
   ·exact Cur.good_mono (Cur.pickC_good pf1.1) (by dsimp only; push_cast; rw [e1]; omega)
   ·refine Cur.good_mono (hy.1 (n+(K+4)) (Cur.good_mono (Cur.pickC_good (pf _ _ (Cur.pickC_good (k:=2) hn) (by omega)).1) (by omega)) (by dsimp only; push_cast; rw [e1]; omega)) ?_;dsimp only; push_cast; rw [show (5-((i:Int)+1))*(K+4)=(5-(i:Int))*(K+4)-(K+4) by rw [show (5-((i:Int)+1))=(5-(i:Int))-1 by omega,Int.sub_mul]; omega]; omega
   ·obtain ⟨q1,q2⟩:=ZN hn hl dz;have:=hy.2 (n+N) q1 q2;refine ⟨le_trans this.1 ?_,this.2⟩;dsimp only;rw [show 5-i=(5-(i+1))+1 by omega,Nat.add_mul]; omega
 ·left;refine Ex1.of (FI d m m' (K+4) f _ 5 (i:Int) c.l c.a c.s ks.length nm ks) ?_;rw [Ae (dcF (by omega))];refine Ex1.L (ks,c) rfl ⟨fun n hn hl=>Cur.good_mono hn ?_,fun n hn hl=>⟨le_trans hn (Nat.le_add_right _ _),hl⟩⟩;have:(5-(i:Int))=0:=by omega
  rw [this]; omega
theorem ZG (d m m' K:Int) (N:Nat) (h0:m+2<=m') (h1:m'<=800000000) (hK:0<=K) (hd:0<=d/\d<=100) (f g:Cur->Rose Lab×Cur) (hf:Ac prog 155 (Ent.own (Jp (d-1) m' f)).F) (hg:Ac prog 111 (Ent.own (I8 (d-1) m' g)).F) (pf:0<d->∀ c n,c.good n->n<=m'->(f c).2.good (n+K)/\drT N (f c).1) (pg:0<d->∀ c n,c.good n->n<=m'->(g c).2.good (n+K)/\drT N (g c).1) :
  ∃ h:Cur->Rose Lab×Cur,Ac prog 155 (Ent.own (Jp d m h)).F/\∀ c n,c.good n->n<=m->(h c).2.good (n+(K+4))/\drT (N+1) (h c).1:=by
 obtain ⟨h,hh⟩:=DF (Y:=Rose Lab×Cur) (.node (0,[],0,false,0,()) [],Cur.mk [] 0 0) (fun (c:Cur) (hc:c.good m)=>Adu d m m' K N h0 h1 hK hd f g pf pg c.l c.a c.s hc);refine ⟨h,?_,fun c n hc hn=>(hh c (Cur.good_mono hc hn)).2 n hc hn⟩;refine fcC (kc func90 GD (kc func155 hf (kc func111 hg KnowsL.nil))).knows (Λ:=Aa []) func155 fun vs bs r hq=>?_
 unfold Ent.F Jp at hq;dsimp only at hq;split at hq
 ·rename_i x l a s;obtain ⟨hc,hx⟩:=Ad hq;obtain ⟨rfl,_,hc⟩:=of_decide_eq_true hc;exact ⟨Ao _,(hh (Cur.mk l a s) hc).1.trans hx⟩
 ·cases hq
theorem XF (d m m' K:Int) (N:Nat) (h0:m+5*(K+4)<=m') (h1:m'<=100000000) (hK:0<=K) (hd:0<=d/\d<=100) (f:Cur->Rose Lab×Cur) (hf:Ac prog 155 (Ent.own (Jp d m' f)).F) (pf : ∀ c n,c.good n->n<=m'->(f c).2.good (n+K)/\drT N (f c).1) :
  ∃ h:Cur->Rose Lab×Cur,Ac prog 111 (Ent.own (I8 d m h)).F/\∀ c n,c.good n->n<=m->(h c).2.good (n+5*(K+4))/\drT (5*N+1) (h c).1:=by
 obtain ⟨o,ho⟩:=DF (Y:=RL×Cur) ([],Cur.mk [] 0 0) (UW d m m' K N h0 (by omega) hK hd.1 f pf)
 have ex : ∀ c:Cur,c.good m->Ex1 (Bm prog (Aa [(67,.own CT),(155,.own (Jp d m' f))]) (Aa [(3,Hq d m (K+4) o)]) f111 [.ptr 0 0,.j d] [.box [.sl (.int .u8) c.l,.j c.a,.i .u64 c.s]]) (fun y:Rose Lab×Cur=>((.agg [.j y.1.lab.1,.s y.1.lab.2.1,.j y.1.lab.2.2.1,.b y.1.lab.2.2.2.1,.j y.1.lab.2.2.2.2.1,.ref 1 0 y.1.kids.length],[some (cB y.2),R0 (.rose LCd) y.1.kids]):V×List (Option Blk))) (fun y=>∀ n,c.good n->n<=m->y.2.good (n+5*(K+4))/\drT (5*N+1) y.1):=fun c hc=>by
  refine Ex1.of (UV d m m' (K+4) f o c.l c.a c.s) ?_;have hI:(c.good (m+((0:Nat):Int)*(K+4))/\(0:Nat)<=5/\([]:RL).length<=0/\([[97],[98],[110,97,109,101],[108,105,115,116],[107,105,110,100]]:List (By)).length=5/\∀ z∈([[97],[98],[110,97,109,101],[108,105,115,116],[107,105,110,100]]:List (By)),z.length<=10):=⟨Cur.good_mono hc (by omega),by omega,by simp,rfl,by simp⟩
  have:=(ho (c,[],0,[[97],[98],[110,97,109,101],[108,105,115,116],[107,105,110,100]]) hI).2;refine Ex1.T (by simp only [anE,dcE]; exact ⟨⟨trivial,rfl,by omega,by omega,trivial,by omega,trivial,Cur.good_mono hc (by omega)⟩,by rfl⟩) ?_;refine Ex1.P (.node (5,[],0,false,0,()) (o (c,[],0,[[97],[98],[110,97,109,101],[108,105,115,116],[107,105,110,100]])).1,(o (c,[],0,[[97],[98],[110,97,109,101],[108,105,115,116],[107,105,110,100]])).2) rfl rfl fun n hn hm=>⟨?_,?_⟩
  ·exact Cur.good_mono (this.1 n hn (by dsimp only; omega)) (by dsimp only; omega)
  ·obtain ⟨q1,q2⟩:=this.2 0 (by dsimp only; rw [Ak]; omega) rfl;dsimp only at q1 q2;exact ⟨by dsimp only; rw [Aj]; omega,by dsimp only; rw [Cl,q2]; rfl⟩
 obtain ⟨h,hh⟩:=DF (Y:=Rose Lab×Cur) (.node (0,[],0,false,0,()) [],Cur.mk [] 0 0) ex;refine ⟨h,?_,fun c n hc hn=>(hh c (Cur.good_mono hc hn)).2 n hc hn⟩;refine fcC (kc func67 Sv (kc func155 hf KnowsL.nil)).knows (Λ:=(Aa [(3,Hq d m (K+4) o)])) func111 fun vs bs r hq=>?_
 unfold Ent.F I8 at hq;dsimp only at hq;split at hq
 ·rename_i x l a s;obtain ⟨hc,hx⟩:=Ad hq;obtain ⟨rfl,_,hc⟩:=of_decide_eq_true hc;refine ⟨As (a:=body f111 0) (by kernel_rfl) fun d ex d' h=>?_,(hh (Cur.mk l a s) hc).1.trans hx⟩;unfold Hq at h;dsimp only at h;split at h
  ·rename_i d0 k i l a s n nm ks;obtain ⟨hc,hx⟩:=Ad h;rw [anE] at hc;obtain ⟨hc,hall⟩:=hc;obtain ⟨rfl,rfl,q1,q2,rfl,q4,q5,q6⟩:=of_decide_eq_true hc;obtain ⟨i,rfl⟩:=eq_ofNat_of_zero_le q1;simp only [ntN] at q4 hx;obtain ⟨rfl,rfl⟩:=lfP hx;exact (ho (Cur.mk l a s,ks,i,nm) ⟨q6,by dsimp only; omega,q4,q5,fun z hz=>of_decide_eq_true (all_eq_true.1 hall z hz)⟩).1 o
  ·cases h
 ·cases hq
end Go.Proofs.YtckmoiopjocapaaGreat.Den
