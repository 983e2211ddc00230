/- What functions of the program do, by the machine: Cur Cur2 Ex Base Wi1 Sch1 Sch2 Sch3 Sch4 Sch5 Sch6 Sch7 Sch8 Sch9 Sch10 Sch11 Sch12 Sch13 Val1 Wi2 Wi3 Wi4 Wi5 Wi6 En1 Wi7 Val2 Val3 Val4 Val5 Val6 Val7 Val8 Val9 Val10 Val11 Val12 Val13 Val14 Val15 Val16 Val17 Val18 Val19 Val20 Val21 Dc1 Dc2 Dc3 Dc4 En2 Wi8 Dc5 En3 Val22 Val23 Val24 Val25 Val26 Dc6 Dc7 En4 En5 Dc8 En6 Cod1 Cod2 Cod3 Cod4 Can1 Fil1 Fil2 Wm1 Wm2 Wm3 Wm4 Wm5 Cod5 Sub1 Sub2 Cod6 Cod7 Cd1 Is1 Cod8 Fw2 Len1 Nlf Ln1. -/
import Derived.Test.YtiflknahhbkneaaDen4
import Derived.KernelRfl
import Derived.Test.YtiflknahhbkneaaRows
open Go.IntKind (i64)
open Go.Proofs.Try
open List (Pairwise all_cons all_eq_true append_assoc append_nil drop drop_eq_getElem_cons drop_eq_nil_of_le drop_zero getElem_mem length_append length_cons length_drop length_map length_singleton map_id' map_map map_nil mem_cons mem_cons_of_mem mem_cons_self mem_filter mem_range nil_append pairwise_cons range take take_length)
open Int (eq_ofNat_of_zero_le fdiv tdiv tmod)
open Nat (add_assoc add_mul div_lt_of_lt_mul le_trans mod_eq_of_lt mul_add mul_assoc mul_comm mul_le_mul mul_one mul_zero pow_add pow_succ pow_zero sub_zero zero_add zero_le)
open Option (getD_some isSome_iff_exists isSome_some)
open Bool (decide_and)
namespace Go.Proofs.Ytiflknahhbkneaa.Den
open Go.Proofs
set_option maxRecDepth 100000
@[match_pattern] abbrev LCd:Cd:=.pair (.int .i64) (.pair .str (.pair (.int .i64) (.pair .bool (.pair (.int .i64) .unit))))
@[match_pattern] abbrev TCd:Cd:=.pair (.int .i64) (.pair .str (.pair (.int .i64) (.pair .bool (.pair (.int .i64) (.pair (.int .i64) .unit)))))
@[match_pattern] abbrev NCd:Cd:=.pair (.int .i64) (.pair .str (.pair (.int .i64) (.pair (.int .i64) (.pair .bool .unit))))
@[match_pattern] abbrev VCd:Cd:=.pair (.int .i64) (.pair .str (.pair (.int .i64) (.pair .bool .unit)))
@[match_pattern] abbrev WCd:Cd:=.pair (.int .i64) (.pair (.int .i64) (.pair (.int .i64) (.pair .str (.pair (.int .i64) (.pair (.int .i64) .unit)))))
@[match_pattern] abbrev NTd:Cd:=.pair .str (.pair (.int .i64) (.pair .str .unit))
@[match_pattern] abbrev FCd:Cd:=.pair (.int .i64) (.pair (.int .i64) (.pair (.int .i64) (.pair .str .unit)))
@[match_pattern] abbrev PCd:Cd:=.pair FCd (.pair (.int .i64) .unit)
@[match_pattern] abbrev TPd:Cd:=.pair .str (.pair (.pair (.slice TCd) .unit) (.pair (.int .i64) .unit))
@[match_pattern] abbrev FNd:Cd:=.pair (.int .i64) (.pair .str (.pair (.pair (.slice WCd) .unit) (.pair (.pair (.slice TCd) .unit) (.pair (.slice NTd) (.pair (.int .i64) .unit)))))
@[match_pattern] abbrev V.j (n:Int):V:=.i .i64 n
@[match_pattern] abbrev R0 (c:Cd) (l:List c.den):Option Blk:=some (.row false none c l)
@[match_pattern] abbrev D0 (c:Cd) (l:List c.den):Option Blk:=some (.drow c l none)
abbrev nF:Option (V×List (Option Blk)):=some (V.b false,[])
abbrev rF:Option (Ex×Dt):=some (Ex.ret,[V.b false],[])
abbrev Gm:=List V->List Blk->Br (V×List (Option Blk))
theorem dcT {p:Prop} [Decidable p] (h:p):decide p=true:=decide_eq_true h
theorem dcF {p:Prop} [Decidable p] (h : ¬p):decide p=false:=decide_eq_false h
theorem dcE {p:Prop} [Decidable p]:(decide p=true)=p:=decide_eq_true_eq
theorem anE (a b:Bool):((a&&b)=true)=(a=true/\b=true):=Bool.and_eq_true a b
theorem ntN (n:Nat):(n:Int).toNat=n:=Int.toNat_natCast n
theorem gtE {α:Type _} {l:List α} {i:Nat} (h:i<l.length):l[i]? = some l[i]:=List.getElem?_eq_getElem h
theorem kc {P:Program} {K:FuncId} {fn:Func} (hf:P.funcs[K]? = some fn) {e:Ent} {l:List (FuncId×Ent)} (h2:Ag P K e.F) (h:KnowsL P l) (hn:(fn.name == "runtime.NumGoroutine")=false:=by kernel_rfl) (hb:fn.body.isNone=false:=by kernel_rfl):KnowsL P ((K,e)::l):=.cons (KI hf hn hb) h2 h
theorem mxI:maxI=9223372036854775807:=rfl
theorem lfP {α β:Type} {a c:α} {b d:β} (h:(Br.leaf (a,b)).run=some (c,d)):a=c/\b=d:=Prod.mk.inj (A8 h)
section
variable {P:Program} {Γ:FuncId->Option Ent} {Λ:Nat->Option LoopEnt}
theorem stp {m:Nat} {a:Code} {ent:LoopEnt} {d:Dt} {e:Ex} {d':Dt} (h:A4 P Γ Λ m a ent d=some (e,d')) (he:e≠.normal:=by simp):Runs P Γ Λ m a ent d e d':=.stop d e d' h he
theorem sts {m:Nat} {a:Code} {ent:LoopEnt} {d d1:Dt} {e:Ex} {d':Dt} (h:A4 P Γ Λ m a ent d=some (.normal,d1)) (hr:Runs P Γ Λ m a ent d1 e d'):Runs P Γ Λ m a ent d e d':=.step d d1 e d' h hr
theorem fcC (hG:Knows P Γ) {K:FuncId} {fn:Func} (hf:P.funcs[K]? = some fn) {F:List V->List Blk->Option (V×List (Option Blk))} (hF : ∀ vs bs r,F vs bs=some r->Aq P Γ Λ bs.length (fn.body.getD .skip)/\Bg P Γ Λ fn vs bs=some r) (hb:fn.body=some (fn.body.getD .skip):=by kernel_rfl):Ag P K F:=C5 hG hf hb fun vs bs r h _ _=>hF vs bs r h
theorem fcN (hG:Knows P Γ) {K:FuncId} {fn:Func} (hf:P.funcs[K]? = some fn) {F:List V->List Blk->Option (V×List (Option Blk))} (hF : ∀ vs bs r,F vs bs=some r->Aq P Γ Λ bs.length (fn.body.getD .skip)/\J1 P Γ Λ fn vs bs=some r) (hb:fn.body=some (fn.body.getD .skip):=by kernel_rfl):Ag P K F:=FN hG hf hb fun vs bs r h _ _=>hF vs bs r h
theorem fcK (hG:Knows P Γ) {K:FuncId} {fn:Func} (hf:P.funcs[K]? = some fn) {F:List V->List Blk->Option (V×List (Option Blk))} (hF : ∀ vs bs r,F vs bs=some r->Aq P Γ Λ bs.length (fn.body.getD .skip)/\AL P Γ Λ fn vs bs=some r) (hb:fn.body=some (fn.body.getD .skip):=by kernel_rfl):Ag P K F:=BI hG hf hb fun vs bs r h _ _=>hF vs bs r h
end
theorem T2 {β:Type} {A B:Prop} [Decidable A] [Decidable B] {k:Option β} (h:A/\B):ifT (decide A&&decide B) k=k:=Ad (by rw [decide_eq_true h.1,decide_eq_true h.2]; rfl)
@[match_pattern] abbrev Lt (a:Int) (b:List UInt8) (c:Int) (d:Bool) (e:Int) (f:List (Cd.rose LCd).den):List V:=[.i .i64 a,.s b,.i .i64 c,.b d,.i .i64 e,.sl (.rose LCd) f]
@[match_pattern] abbrev Lv (a:Int) (b:List UInt8) (c:Int) (d:Bool) (f:List (Cd.rose VCd).den):List V:=[.i .i64 a,.s b,.i .i64 c,.b d,.sl (.rose VCd) f]
@[match_pattern] abbrev Lf (a:Int) (b:List UInt8) (c:List WCd.den) (d:List TCd.den) (e:List NTd.den) (f:Int):List V:=[.i .i64 a,.s b,.sl WCd c,.sl TCd d,.sl NTd e,.i .i64 f]
@[match_pattern] abbrev Lw (a b c:Int) (d:List UInt8) (e f:Int):List V:=[.i .i64 a,.i .i64 b,.i .i64 c,.s d,.i .i64 e,.i .i64 f]
@[match_pattern] abbrev Ly (a:Int) (b:List UInt8) (c:Int) (d:Bool) (e f:Int):List V:=[.i .i64 a,.s b,.i .i64 c,.b d,.i .i64 e,.i .i64 f]
abbrev By:=List UInt8
abbrev RL:=List (Rose (Int×List UInt8×Int×Bool×Int×Unit))
abbrev RVL:=List (Rose (Int×List UInt8×Int×Bool×Unit))
structure Cur where
 l:List Int
 a:Int
 s:Int
def Cur.byte (c:Cur):Int:=if c.a<c.l.length then i64.wrap (c.l.getD c.a.toNat 0) else 0
def Cur.seed (c:Cur):Int:=IntKind.u64.wrap (IntKind.u64.wrap (IntKind.u64.wrap (c.s*6364136223846793005)+IntKind.u64.wrap c.byte)+1442695040888963407)
def Cur.val (c:Cur):Int:=if c.a+1<=c.l.length then c.byte else i64.wrap (IntKind.u64.wrap (((BitVec.ofInt IntKind.u64.bits (c.seed.fdiv ((2:Int) ^ min 40 IntKind.u64.bits)) &&& BitVec.ofInt IntKind.u64.bits 255).toNat:Nat):Int))
def Cur.adv (c:Cur):Cur:=⟨c.l,c.a+1,c.seed⟩
def Cur.good (c:Cur) (n:Int):Prop:=(∀ z∈c.l,0<=z/\z<=255)/\0<=c.a/\c.a<=n
instance (c:Cur) (n:Int):Decidable (c.good n):=by unfold Cur.good; exact inferInstance
def Cur.pickV (c:Cur) (n:Int):Int:=if n<=1 then 0 else if n>200 then (c.val*256+c.adv.val).tmod n else c.val.tmod n
def Cur.pickC (c:Cur) (n:Int):Cur:=if n<=1 then c else if n>200 then c.adv.adv else c.adv
def HH:Gm
 | [.ptr 0 0],[.box [.sl (.int .u8) l,.j a,.i .u64 s]]=>.need (decide ((Cur.mk l a s).good 1000000000)) (.leaf (.j (Cur.mk l a s).val,[some (.box [.sl (.int .u8) (Cur.mk l a s).adv.l,.j (Cur.mk l a s).adv.a,.i .u64 (Cur.mk l a s).adv.s])]))
 | _,_=>.no
theorem Cur.byte_range {c:Cur} {n:Int} (h:c.good n):0<=c.byte/\c.byte<=255:=by
 unfold Cur.byte
 split
 ·rename_i ha
  have h0:=h.2.1
  have hi:c.a.toNat<c.l.length:=by omega
  have hz:=h.1 _ (getElem_mem hi)
  have eg:c.l.getD c.a.toNat 0=c.l[c.a.toNat]:=by simp [hi]
  rw [eg,Ak (by omega) (by omega)]
  exact hz
 ·omega
theorem Cur.val_range {c:Cur} {n:Int} (h:c.good n):0<=c.val/\c.val<=255:=by
 unfold Cur.val
 split
 ·exact Cur.byte_range h
 ·generalize BitVec.ofInt IntKind.u64.bits (c.seed.fdiv ((2:Int) ^ min 40 IntKind.u64.bits))=x
  have hx:(x &&& BitVec.ofInt IntKind.u64.bits 255).toNat<=255:=by
   rw [BitVec.toNat_and]
   exact le_trans Nat.and_le_right (by decide)
  generalize (x &&& BitVec.ofInt IntKind.u64.bits 255).toNat=m at hx
  have e1:IntKind.u64.wrap (m:Int)=(m:Int):=by
   unfold IntKind.wrap
   simp [IntKind.bits,IntKind.signed]
   omega
  rw [e1,Ak (by omega) (by omega)]
  omega
theorem Cur.adv_good {c:Cur} {n:Int} (h:c.good n):c.adv.good (n+1):=⟨h.1,by show 0<=c.a+1; have:=h.2.1; omega,by show c.a+1<=n+1; have:=h.2.2; omega⟩
theorem Cur.good_mono {c:Cur} {n m:Int} (h:c.good n) (hm:n<=m):c.good m:=⟨h.1,h.2.1,by have:=h.2.2; omega⟩
theorem Cur.pickC_good {c:Cur} {n k:Int} (h:c.good n):(c.pickC k).good (n+2):=by
 unfold Cur.pickC
 split
 ·exact Cur.good_mono h (by omega)
 ·split
  ·have:=Cur.adv_good (Cur.adv_good h)
   exact Cur.good_mono this (by omega)
  ·exact Cur.good_mono (Cur.adv_good h) (by omega)
theorem Cur.pickV_range {c:Cur} {n k:Int} (h:c.good n) (hk:1<=k):0<=c.pickV k/\c.pickV k<k:=by
 have h1:=Cur.val_range h
 have h2:=Cur.val_range (Cur.adv_good h)
 unfold Cur.pickV
 split
 ·omega
 ·split
  ·rw [Int.tmod_eq_emod_of_nonneg (by omega)]
   exact ⟨Int.emod_nonneg _ (by omega),Int.emod_lt_of_pos _ (by omega)⟩
  ·rw [Int.tmod_eq_emod_of_nonneg (by omega)]
   exact ⟨Int.emod_nonneg _ (by omega),Int.emod_lt_of_pos _ (by omega)⟩
theorem KQ (l:List Int) (a s:Int) (hc:(Cur.mk l a s).good 1000000000):AL prog (Aa []) (Aa []) f56 [.ptr 0 0] [.box [.sl (.int .u8) l,.j a,.i .u64 s]]=(.leaf (.j (Cur.mk l a s).val,[some (.box [.sl (.int .u8) (Cur.mk l a s).adv.l,.j (Cur.mk l a s).adv.a,.i .u64 (Cur.mk l a s).adv.s])]):Br (V×List (Option Blk))).run:=by
 have e:AL prog (Aa []) (Aa []) f56 [.ptr 0 0] [.box [.sl (.int .u8) l,.j a,.i .u64 s]] =
  ((ifB (decide (a<(↑l.length:Int))) (ifT (decide (0<=a)&&decide (a<(↑l.length:Int))) (Ax l[a.toNat]? fun z=>ifB (decide (i64.wrap (a+1)<=
 (↑l.length:Int))) (some (V.j (i64.wrap z),[some (Blk.box [V.sl (Cd.int .u8) l,V.j (i64.wrap (a+1)),V.i .u64 (IntKind.u64.wrap
 (IntKind.u64.wrap (IntKind.u64.wrap (s*6364136223846793005)+IntKind.u64.wrap (i64.wrap z))+(1442695040888963407:Int)))])])) (some (V.i .i64
 (i64.wrap (IntKind.u64.wrap (↑(BitVec.ofInt IntKind.u64.bits ((IntKind.u64.wrap (IntKind.u64.wrap (IntKind.u64.wrap (s*6364136223846793005)+IntKind.u64.wrap
 (i64.wrap z))+(1442695040888963407:Int))).fdiv ((2:Int) ^ min 40 IntKind.u64.bits)) &&& BitVec.ofInt IntKind.u64.bits (255:Int)).toNat:Int))),
 [some (Blk.box [V.sl (Cd.int .u8) l,V.j (i64.wrap (a+1)),V.i .u64 (IntKind.u64.wrap (IntKind.u64.wrap (IntKind.u64.wrap (s*6364136223846793005) +
 IntKind.u64.wrap (i64.wrap z))+(1442695040888963407:Int)))])])))) (ifB (decide (i64.wrap (a+1)<=(↑l.length:Int))) (some (V.j 0,[some
 (Blk.box [V.sl (Cd.int .u8) l,V.j (i64.wrap (a+1)),V.i .u64 (IntKind.u64.wrap (IntKind.u64.wrap (IntKind.u64.wrap (s*6364136223846793005) +
 IntKind.u64.wrap (0:Int))+(1442695040888963407:Int)))])])) (some (V.j (i64.wrap (IntKind.u64.wrap (↑(BitVec.ofInt IntKind.u64.bits ((IntKind.u64.wrap
 (IntKind.u64.wrap (IntKind.u64.wrap (s*6364136223846793005)+IntKind.u64.wrap (0:Int))+(1442695040888963407:Int))).fdiv ((2:Int) ^ min 40
 IntKind.u64.bits)) &&& BitVec.ofInt IntKind.u64.bits (255:Int)).toNat:Int))),[some (Blk.box [V.sl (Cd.int .u8) l,V.j (i64.wrap (a+1)),V.i .u64
 (IntKind.u64.wrap (IntKind.u64.wrap (IntKind.u64.wrap (s*6364136223846793005)+IntKind.u64.wrap (0:Int))+(1442695040888963407:Int)))])])))):_):=by kernel_rfl
 rw [e]
 clear e
 have h0:=hc.2.1
 have h1:=hc.2.2
 dsimp only at h0 h1
 rw [Ak (n:=a+1) (by omega) (by omega)]
 by_cases q:a<(l.length:Int)
 ·have hi:a.toNat<l.length:=by omega
  have eb:(Cur.mk l a s).byte=i64.wrap l[a.toNat]:=by unfold Cur.byte; dsimp only; rw [if_pos q]; simp [hi]
  have q1:a+1<=(l.length:Int):=by omega
  rw [Ah (dcT q),T2 (by omega),gtE hi,A7,Ah (dcT q1),<-eb]
  have ev:(Cur.mk l a s).val=(Cur.mk l a s).byte:=by unfold Cur.val; dsimp only; rw [if_pos q1]
  rw [ev]
  rfl
 ·have eb:(Cur.mk l a s).byte=0:=by unfold Cur.byte; dsimp only; rw [if_neg q]
  have q1 : ¬a+1<=(l.length:Int):=by omega
  rw [Ae (dcF q),Ae (dcF q1),<-eb]
  have ev:(Cur.mk l a s).val=i64.wrap (IntKind.u64.wrap (((BitVec.ofInt IntKind.u64.bits ((Cur.mk l a s).seed.fdiv ((2:Int) ^ min 40 IntKind.u64.bits)) &&& BitVec.ofInt IntKind.u64.bits 255).toNat:Nat):Int)):=by unfold Cur.val; dsimp only; rw [if_neg q1]
  rw [ev]
  rfl
theorem PJ:Ag prog 56 (Ent.own HH).F:=by
 refine fcK KnowsL.nil.knows (Λ:=Aa []) func56 fun vs bs r h=>?_
 unfold Ent.F HH at h
 dsimp only at h
 split at h
 ·rename_i l a s
  obtain ⟨hc,h⟩:=Af h
  exact ⟨Am _,(KQ l a s (of_decide_eq_true hc)).trans h⟩
 ·cases h
def BF:Gm
 | [.ptr 0 0,.j n],[.box [.sl (.int .u8) l,.j a,.i .u64 s]]=>.need (decide ((Cur.mk l a s).good 900000000)) (.leaf (.j ((Cur.mk l a s).pickV n),[some (.box [.sl (.int .u8) ((Cur.mk l a s).pickC n).l,.j ((Cur.mk l a s).pickC n).a,.i .u64 ((Cur.mk l a s).pickC n).s])]))
 | _,_=>.no
def EZ:Gm
 | [.ptr 0 0,.j n],[.box [.sl (.int .u8) l,.j a,.i .u64 s]]=>.need (decide ((Cur.mk l a s).good 900000000)) (.leaf (.b ((Cur.mk l a s).pickV n==0),[some (.box [.sl (.int .u8) ((Cur.mk l a s).pickC n).l,.j ((Cur.mk l a s).pickC n).a,.i .u64 ((Cur.mk l a s).pickC n).s])]))
 | _,_=>.no
def E9:Gm
 | [.ptr 0 0,.ref 1 p m],[.box [.sl (.int .u8) l,.j a,.i .u64 s],.row false nl (.int .i64) r]=>.need (decide ((Cur.mk l a s).good 900000000/\1<=m/\p+m<=r.length)) (.leaf (.j (r.getD (p+((Cur.mk l a s).pickV m).toNat) 0),[some (.box [.sl (.int .u8) ((Cur.mk l a s).pickC m).l,.j ((Cur.mk l a s).pickC m).a,.i .u64 ((Cur.mk l a s).pickC m).s]),some (.row false nl (.int .i64) r)]))
 | _,_=>.no
def MM:Gm
 | [.ptr 0 0,.ref 1 p m],[.box [.sl (.int .u8) l,.j a,.i .u64 s],.row false nl .str r]=>.need (decide ((Cur.mk l a s).good 900000000/\1<=m/\p+m<=r.length)) (.leaf (.s (r.getD (p+((Cur.mk l a s).pickV m).toNat) []),[some (.box [.sl (.int .u8) ((Cur.mk l a s).pickC m).l,.j ((Cur.mk l a s).pickC m).a,.i .u64 ((Cur.mk l a s).pickC m).s]),some (.row false nl .str r)]))
 | _,_=>.no
theorem KP (n:Int) (l:List Int) (a s:Int) (hc:(Cur.mk l a s).good 900000000):AL prog (Aa [(56,.own HH)]) (Aa []) f40 [.ptr 0 0,.j n] [.box [.sl (.int .u8) l,.j a,.i .u64 s]]=(.leaf (.j ((Cur.mk l a s).pickV n),[some (.box [.sl (.int .u8) ((Cur.mk l a s).pickC n).l,.j ((Cur.mk l a s).pickC n).a,.i .u64 ((Cur.mk l a s).pickC n).s])]):Br (V×List (Option Blk))).run:=by
 have e:AL prog (Aa [(56,.own HH)]) (Aa []) f40 [.ptr 0 0,.j n] [.box [.sl (.int .u8) l,.j a,.i .u64 s]] =
  ((ifB (decide (n<=1)) (some (V.j 0,[some (Blk.box [V.sl (Cd.int .u8) l,V.j a,V.i .u64 s])])) (ifT (decide ((Cur.mk l a s).good (1000000000:Int))) (ifB
 (decide (n>200)) (ifT (decide ((Cur.mk l a s).adv.good (1000000000:Int))) (ifT (!decide (n=0)) (some (V.j ((i64.wrap (i64.wrap ((Cur.mk l a
 s).val*(256:Int))+(Cur.mk l a s).adv.val)).tmod n),[some (Blk.box [V.sl (Cd.int .u8) (Cur.mk l a s).adv.adv.l,V.j (Cur.mk l a s).adv.adv.a,V.i .u64 (Cur.mk
 l a s).adv.adv.s])])))) (ifT (!decide (n=0)) (some (V.j ((Cur.mk l a s).val.tmod n),[some (Blk.box [V.sl (Cd.int .u8) (Cur.mk l a s).adv.l,V.j (Cur.mk l a
 s).adv.a,V.i .u64 (Cur.mk l a s).adv.s])])))))):_):=by kernel_rfl
 rw [e]
 clear e
 have g0:(Cur.mk l a s).good 1000000000:=Cur.good_mono hc (by omega)
 have g1:(Cur.mk l a s).adv.good 1000000000:=Cur.good_mono (Cur.adv_good hc) (by omega)
 have r0:=Cur.val_range g0
 have r1:=Cur.val_range g1
 unfold Cur.pickV Cur.pickC
 try rw [show Cur.mk (Cur.mk l a s).adv.l (Cur.mk l a s).adv.a (Cur.mk l a s).adv.s=(Cur.mk l a s).adv from rfl]
 by_cases q:n<=1
 ·rw [Ah (dcT q),if_pos q,if_pos q]; rfl
 ·rw [Ae (dcF q),Ad (dcT g0),if_neg q,if_neg q]
  by_cases q2:n>200
  ·rw [Ah (dcT q2),Ad (dcT g1),Ad (by simp; omega),if_pos q2,if_pos q2,Ak (n:=(Cur.mk l a s).val*256) (by omega) (by omega),Ak (by omega) (by omega)]; rfl
  ·rw [Ae (dcF q2),Ad (by simp; omega),if_neg q2,if_neg q2]; rfl
theorem IS:Ag prog 40 (Ent.own BF).F:=by
 refine fcK (kc func56 PJ KnowsL.nil).knows (Λ:=Aa []) func40 fun vs bs r h=>?_
 unfold Ent.F BF at h
 dsimp only at h
 split at h
 ·rename_i n l a s
  obtain ⟨hc,h⟩:=Af h
  exact ⟨Am _,(KP n l a s (of_decide_eq_true hc)).trans h⟩
 ·cases h
theorem ML (n:Int) (l:List Int) (a s:Int) (hc:(Cur.mk l a s).good 900000000):AL prog (Aa [(40,.own BF)]) (Aa []) f16 [.ptr 0 0,.j n] [.box [.sl (.int .u8) l,.j a,.i .u64 s]]=(.leaf (.b ((Cur.mk l a s).pickV n==0),[some (.box [.sl (.int .u8) ((Cur.mk l a s).pickC n).l,.j ((Cur.mk l a s).pickC n).a,.i .u64 ((Cur.mk l a s).pickC n).s])]):Br (V×List (Option Blk))).run:=by
 have e:AL prog (Aa [(40,.own BF)]) (Aa []) f16 [.ptr 0 0,.j n] [.box [.sl (.int .u8) l,.j a,.i .u64 s]] =
  ((ifT (decide ((Cur.mk l a s).good (900000000:Int))) (some (V.b ((Cur.mk l a s).pickV n==0),[some (Blk.box [V.sl (Cd.int .u8) ((Cur.mk l a s).pickC n).l,V.i .i64
 ((Cur.mk l a s).pickC n).a,V.i .u64 ((Cur.mk l a s).pickC n).s])]))):_):=by kernel_rfl
 rw [e,Ad (dcT hc)]
 rfl
theorem Pe:Ag prog 16 (Ent.own EZ).F:=by
 refine fcK (kc func40 IS KnowsL.nil).knows (Λ:=Aa []) func16 fun vs bs r h=>?_
 unfold Ent.F EZ at h
 dsimp only at h
 split at h
 ·rename_i n l a s
  obtain ⟨hc,h⟩:=Af h
  exact ⟨Am _,(ML n l a s (of_decide_eq_true hc)).trans h⟩
 ·cases h
theorem JA (p m:Nat) (l:List Int) (a s:Int) (nl:Option Bool) (r:List Int) (hc:(Cur.mk l a s).good 900000000/\1<=m/\p+m<=r.length):AL prog (Aa [(40,.own BF)]) (Aa []) f35 [.ptr 0 0,.ref 1 p m] [.box [.sl (.int .u8) l,.j a,.i .u64 s],.row false nl (.int .i64) r]=(.leaf (.j (r.getD (p+((Cur.mk l a s).pickV m).toNat) 0),[some (.box [.sl (.int .u8) ((Cur.mk l a s).pickC m).l,.j ((Cur.mk l a s).pickC m).a,.i .u64 ((Cur.mk l a s).pickC m).s]),some (.row false nl (.int .i64) r)]):Br (V×List (Option Blk))).run:=by
 have e:AL prog (Aa [(40,.own BF)]) (Aa []) f35 [.ptr 0 0,.ref 1 p m] [.box [.sl (.int .u8) l,.j a,.i .u64 s],.row false nl (.int .i64) r] =
  ((ifT (decide ((Cur.mk l a s).good (900000000:Int))) (ifT (decide ((0:Int)<=(Cur.mk l a s).pickV (↑m:Int))&&decide ((Cur.mk l a s).pickV (↑m:Int)<(↑m:Int)))
 (Ax r[p+((Cur.mk l a s).pickV (↑m:Int)).toNat]? fun z=>some (V.j z,[some (Blk.box [V.sl (Cd.int .u8) ((Cur.mk l a s).pickC (↑m:Int)).l,V.i .i64
 ((Cur.mk l a s).pickC (↑m:Int)).a,V.i .u64 ((Cur.mk l a s).pickC (↑m:Int)).s]),some (Blk.row false nl (Cd.int .i64) r)])))):_):=by kernel_rfl
 obtain ⟨h1,h2,h3⟩:=hc
 have hr:=Cur.pickV_range (k:=(m:Int)) h1 (by omega)
 have hi:p+((Cur.mk l a s).pickV m).toNat<r.length:=by omega
 have eg:r.getD (p+((Cur.mk l a s).pickV m).toNat) 0=r[p+((Cur.mk l a s).pickV m).toNat]:=by simp [hi]
 rw [e,Ad (dcT h1),T2 (by omega),gtE hi,A7,eg]
 rfl
theorem MS:Ag prog 35 (Ent.own E9).F:=by
 refine fcK (kc func40 IS KnowsL.nil).knows (Λ:=Aa []) func35 fun vs bs r h=>?_
 unfold Ent.F E9 at h
 dsimp only at h
 split at h
 ·rename_i p m l a s nl r
  obtain ⟨hc,h⟩:=Af h
  exact ⟨Am _,(JA p m l a s nl r (of_decide_eq_true hc)).trans h⟩
 ·cases h
theorem NM (p m:Nat) (l:List Int) (a s:Int) (nl:Option Bool) (r:List (By)) (hc:(Cur.mk l a s).good 900000000/\1<=m/\p+m<=r.length):AL prog (Aa [(40,.own BF)]) (Aa []) f37 [.ptr 0 0,.ref 1 p m] [.box [.sl (.int .u8) l,.j a,.i .u64 s],.row false nl .str r]=(.leaf (.s (r.getD (p+((Cur.mk l a s).pickV m).toNat) []),[some (.box [.sl (.int .u8) ((Cur.mk l a s).pickC m).l,.j ((Cur.mk l a s).pickC m).a,.i .u64 ((Cur.mk l a s).pickC m).s]),some (.row false nl .str r)]):Br (V×List (Option Blk))).run:=by
 have e:AL prog (Aa [(40,.own BF)]) (Aa []) f37 [.ptr 0 0,.ref 1 p m] [.box [.sl (.int .u8) l,.j a,.i .u64 s],.row false nl .str r] =
  ((ifT (decide ((Cur.mk l a s).good (900000000:Int))) (ifT (decide ((0:Int)<=(Cur.mk l a s).pickV (↑m:Int))&&decide ((Cur.mk l a s).pickV (↑m:Int)<(↑m:Int)))
 (Ax r[p+((Cur.mk l a s).pickV (↑m:Int)).toNat]? fun z=>some (V.s z,[some (Blk.box [V.sl (Cd.int .u8) ((Cur.mk l a s).pickC (↑m:Int)).l,V.j ((Cur.mk l a
 s).pickC (↑m:Int)).a,V.i .u64 ((Cur.mk l a s).pickC (↑m:Int)).s]),some (Blk.row false nl Cd.str r)])))):_):=by kernel_rfl
 obtain ⟨h1,h2,h3⟩:=hc
 have hr:=Cur.pickV_range (k:=(m:Int)) h1 (by omega)
 have hi:p+((Cur.mk l a s).pickV m).toNat<r.length:=by omega
 have eg:r.getD (p+((Cur.mk l a s).pickV m).toNat) []=r[p+((Cur.mk l a s).pickV m).toNat]:=by simp [hi]
 rw [e,Ad (dcT h1),T2 (by omega),gtE hi,A7,eg]
 rfl
theorem cof:Ag prog 37 (Ent.own MM).F:=by
 refine fcK (kc func40 IS KnowsL.nil).knows (Λ:=Aa []) func37 fun vs bs r h=>?_
 unfold Ent.F MM at h
 dsimp only at h
 split at h
 ·rename_i p m l a s nl r
  obtain ⟨hc,h⟩:=Af h
  exact ⟨Am _,(NM p m l a s nl r (of_decide_eq_true hc)).trans h⟩
 ·cases h
def shr {α β:Type} (a:α) (k:α->β):β:=k a
def Ex1 {β Y:Type} (t:Option β) (sh:Y->β) (Q:Y->Prop):Prop:=∃ y,t=some (sh y)/\Q y
def cB (c:Cur):Blk:=.box [.sl (.int .u8) c.l,.j c.a,.i .u64 c.s]
theorem BL (c:Cur):Blk.box [V.sl (Cd.int IntKind.u8) c.l,V.i i64 c.a,V.i IntKind.u64 c.s]=cB c:=rfl
theorem Cur.pk {c:Cur} {m k:Int} (h:c.good (m-2)):(c.pickC k).good m:=by
 have:=Cur.pickC_good (k:=k) h
 rwa [Int.sub_add_cancel] at this
theorem Ex1.sh {α β Y:Type} {a:α} {k:α->Option β} {sh:Y->β} {Q:Y->Prop} (h:Ex1 (k a) sh Q):Ex1 (shr a k) sh Q:=h
theorem Ex1.T {β Y:Type} {c:Bool} {x:Option β} {sh:Y->β} {Q:Y->Prop} (h:c=true) (k:Ex1 x sh Q):Ex1 (ifT c x) sh Q:=by subst h; exact k
theorem Ex1.B {β Y:Type} {c:Bool} {x y:Option β} {sh:Y->β} {Q:Y->Prop} (h1:c=true->Ex1 x sh Q) (h2:c=false->Ex1 y sh Q):Ex1 (ifB c x y) sh Q:=by
 cases c with
 | true=>exact h1 rfl
 | false=>exact h2 rfl
theorem Ex1.S {α β Y:Type} {o:Option α} {k:α->Option β} {sh:Y->β} {Q:Y->Prop} (h : ∃ z,o=some z) (hk : ∀ z,o=some z->Ex1 (k z) sh Q):Ex1 (Ax o k) sh Q:=by
 obtain ⟨z,rfl⟩:=h
 exact hk z rfl
theorem Ex1.L {β Y:Type} {b:β} {sh:Y->β} {Q:Y->Prop} (y:Y) (h:b=sh y) (q:Q y):Ex1 (some b) sh Q:=⟨y,by rw [h],q⟩
theorem Ex1.P {α β Y:Type} {a:α} {b:β} {sh:Y->α×β} {Q:Y->Prop} (y:Y) (h2:b=(sh y).2) (h1:a=(sh y).1) (q:Q y):Ex1 (some (a,b)) sh Q:=⟨y,by rw [h1,h2],q⟩
theorem Ex1.c {Y:Type} {v:V} {c:Cur} {B:List (Option Blk)} {s1:Y×Cur->V} {s2:Y×Cur->List (Option Blk)} {Q:Y×Cur->Prop} (y:Y) (h2:B=s2 (y,c)) (h1:v=s1 (y,c)) (q:Q (y,c)):Ex1 (some (v,some (cB c)::B)) (fun y=>(s1 y,some (cB y.2)::s2 y)) Q:=⟨(y,c),by rw [h1,h2],q⟩
theorem Ex1.lc {A:Type} {e:Ex} {vs:List V} {c:Cur} {B:List (Option Blk)} {s0:Cur×A->Ex} {s1:Cur×A->List V} {s2:Cur×A->List (Option Blk)} {Q:Cur×A->Prop} (a:A) (h3:B=s2 (c,a)) (h2:vs=s1 (c,a)) (h1:e=s0 (c,a)) (q:Q (c,a)):Ex1 (some (e,vs,some (cB c)::B)) (fun y=>(s0 y,s1 y,some (cB y.1)::s2 y)) Q:=⟨(c,a),by rw [h1,h2,h3],q⟩
theorem Ex1.of {β Y:Type} {t t':Option β} {sh:Y->β} {Q:Y->Prop} (e:t=t') (k:Ex1 t' sh Q):Ex1 t sh Q:=by subst e; exact k
theorem Ex1.mono {β Y:Type} {t:Option β} {sh:Y->β} {Q Q':Y->Prop} (k:Ex1 t sh Q) (h : ∀ y,Q y->Q' y):Ex1 t sh Q':=by obtain ⟨y,h1,h2⟩:=k; exact ⟨y,h1,h y h2⟩
theorem DL {X Y:Type} (y0:Y) {I:X->Prop} {R:X->Y->Prop} (h : ∀ x,I x->∃ y,R x y) : ∃ f:X->Y,∀ x,I x->R x (f x):=by
 classical
 exact ⟨fun x=>if hx:I x then (h x hx).choose else y0,fun x hx=>by simp only [dif_pos hx]; exact (h x hx).choose_spec⟩
theorem FE {ι:Type} (o0:ι) {P:Program} {Γ:FuncId->Option Ent} {Λ:ι->Nat->Option LoopEnt} {m:Nat} {a:Code} {ent:ι->LoopEnt} {X Y:Type} (H:X->Dt) (E:Y->Ex×Dt) (hE : ∀ y,(E y).1≠.normal) (I:X->Prop) (Q:X->Y->Prop) (μ:X->Nat)
  (hT : ∀ o x,I x->A4 P Γ (Λ o) m a (ent o) (H x)=A4 P Γ (Λ o0) m a (ent o0) (H x))
  (hr : ∀ x,I x->Ex1 (A4 P Γ (Λ o0) m a (ent o0) (H x)) E (Q x)\/Ex1 (A4 P Γ (Λ o0) m a (ent o0) (H x)) (fun x'=>(.normal,H x')) (fun x'=>I x'/\μ x'<μ x/\∀ y,Q x' y->Q x y)) :
  ∀ x,I x->∃ y,(∀ o,Runs P Γ (Λ o) m a (ent o) (H x) (E y).1 (E y).2)/\Q x y:=by
 have key : ∀ n x,μ x<=n->I x->∃ y,(∀ o,Runs P Γ (Λ o) m a (ent o) (H x) (E y).1 (E y).2)/\Q x y:=by
  intro n
  induction n with
  | zero=>
   intro x hx hI
   rcases hr x hI with ⟨y,h1,h2⟩ | ⟨x',h1,h2,h3,h4⟩
   ·exact ⟨y,fun o=>.stop _ _ _ ((hT o x hI).trans h1) (hE y),h2⟩
   ·omega
  | succ n ih=>
   intro x hx hI
   rcases hr x hI with ⟨y,h1,h2⟩ | ⟨x',h1,h2,h3,h4⟩
   ·exact ⟨y,fun o=>.stop _ _ _ ((hT o x hI).trans h1) (hE y),h2⟩
   ·obtain ⟨y,h5,h6⟩:=ih x' (by omega) h2
    exact ⟨y,fun o=>sts ((hT o x hI).trans h1) (h5 o),h4 y h6⟩
 exact fun x hI=>key (μ x) x (Nat.le_refl _) hI
theorem PI {α:Type} {l:List α} {i:Nat} (h:i<l.length) : ∃ z,l[i]? = some z:=⟨_,gtE h⟩
theorem Nq {α:Type} {c:Cur} {n:Int} {W:List α} (h:c.good n) (h1:1<=W.length):(c.pickV (W.length:Int)).toNat<W.length:=by
 have:=Cur.pickV_range (k:=(W.length:Int)) h (by omega)
 omega
def AT:Gm
 | [.j a,.j b,.j c],[]=>.leaf (.b (decide (b<=a/\a<=c)),[])
 | _,_=>.no
theorem Jf (a b c:Int):AL prog (Aa []) (Aa []) f42 [.j a,.j b,.j c] []=(.leaf (.b (decide (b<=a/\a<=c)),[]):Br (V×List (Option Blk))).run:=by
 have e:AL prog (Aa []) (Aa []) f42 [.j a,.j b,.j c] []=((ifB (decide (a>=b)) (some (V.b (decide (a<=c)),[])) nF):_):=by kernel_rfl
 rw [e]
 clear e
 by_cases q1:a>=b<;>by_cases q2:a<=c<;>simp [q1,q2,Br.run]<;>omega
theorem Jg:Ag prog 42 (Ent.rd1 AT).F:=by
 refine fcK KnowsL.nil.knows (Λ:=Aa []) func42 fun vs bs r' hq=>?_
 unfold Ent.F AT at hq
 dsimp only at hq
 split at hq
 ·rename_i a b c
  exact ⟨Am _,(Jf a b c).trans hq⟩
 ·cases hq
theorem Mg (a b c:Int):AL prog (Aa []) (Aa []) f48 [.j a,.j b,.j c] []=(.leaf (.b (decide (b<=a/\a<=c)),[]):Br (V×List (Option Blk))).run:=by
 have e:AL prog (Aa []) (Aa []) f48 [.j a,.j b,.j c] []=((ifB (decide (a>=b)) (some (V.b (decide (a<=c)),[])) nF):_):=by kernel_rfl
 rw [e]
 clear e
 by_cases q1:a>=b<;>by_cases q2:a<=c<;>simp [q1,q2,Br.run]<;>omega
theorem OF:Ag prog 48 (Ent.rd1 AT).F:=by
 refine fcK KnowsL.nil.knows (Λ:=Aa []) func48 fun vs bs r' hq=>?_
 unfold Ent.F AT at hq
 dsimp only at hq
 split at hq
 ·rename_i a b c
  exact ⟨Am _,(Mg a b c).trans hq⟩
 ·cases hq
def tv:Nat->By->Nat->Nat->Option (Nat×Nat×Bool)
 | 0,_,_,_=>none
 | _+1,[],_,_=>none
 | f+1,b::l,i,n=>if b.toNat<128 then some (n+b.toNat % 128*2 ^ (7*i),i+1,decide (n+b.toNat % 128*2 ^ (7*i)<=2000000001)&&(decide (0<b.toNat)||decide (i=0))) else tv f l (i+1) (n+b.toNat % 128*2 ^ (7*i))
def Ac (s:By) (a:Nat):Option (Nat×Nat×Bool):=tv 5 (s.drop a) 0 0
def Az:Option (Nat×Nat×Bool)->Int | some (n,_,_)=>n | none=>0
def Ao (a:Nat):Option (Nat×Nat×Bool)->Int | some (_,k,_)=>((a+k:Nat):Int) | none=>0
def Bm:Option (Nat×Nat×Bool)->Bool | some (_,_,ok)=>ok | none=>false
def Cp:Option (Nat×Nat×Bool)->Int | some (n,_,true)=>n | _=>0
def AZ (a:Nat):Option (Nat×Nat×Bool)->Int | some (_,k,true)=>((a+k:Nat):Int) | _=>0
def HV:LoopEnt:=⟨52,[0,1,7,8],[],[4,5,6],fun
 | ([.s s,.j a,.j n,.j i],[])=>.need (decide (0<=a/\0<=n/\0<=i/\i<=5/\n.toNat<2 ^ (7*i.toNat)/\s.length<=4000000000/\a<=4000000000)) (.br (tv (5-i.toNat) (s.drop (a.toNat+i.toNat)) i.toNat n.toNat).isSome (.leaf (.ret,([.j (Az (tv (5-i.toNat) (s.drop (a.toNat+i.toNat)) i.toNat n.toNat)),.j (Ao a.toNat (tv (5-i.toNat) (s.drop (a.toNat+i.toNat)) i.toNat n.toNat)),.b (Bm (tv (5-i.toNat) (s.drop (a.toNat+i.toNat)) i.toNat n.toNat))],[]))) (.leaf (.exit 0,([],[]))))
 | _=>.no⟩
def Ks:Gm
 | [.s s,.j a],[]=>.need (decide (0<=a/\s.length<=4000000000/\a<=4000000000)) (.leaf (.tup [.j (Az (Ac s a.toNat)),.j (Ao a.toNat (Ac s a.toNat)),.b (Bm (Ac s a.toNat))],[]))
 | _,_=>.no
def HT:LoopEnt:=⟨53,[0,1,7,8],[],[4,5,6],fun
 | ([.s s,.j a,.j n,.j i],[])=>.need (decide (0<=a/\0<=n/\0<=i/\i<=5/\n.toNat<2 ^ (7*i.toNat)/\s.length<=4000000000/\a<=4000000000)) (.br (tv (5-i.toNat) (s.drop (a.toNat+i.toNat)) i.toNat n.toNat).isSome (.leaf (.ret,([.j (Cp (tv (5-i.toNat) (s.drop (a.toNat+i.toNat)) i.toNat n.toNat)),.j (AZ a.toNat (tv (5-i.toNat) (s.drop (a.toNat+i.toNat)) i.toNat n.toNat)),.b (Bm (tv (5-i.toNat) (s.drop (a.toNat+i.toNat)) i.toNat n.toNat))],[]))) (.leaf (.exit 0,([],[]))))
 | _=>.no⟩
def Om:Gm
 | [.s s,.j a],[]=>.need (decide (0<=a/\s.length<=4000000000/\a<=4000000000)) (.leaf (.tup [.j (Cp (Ac s a.toNat)),.j (AZ a.toNat (Ac s a.toNat)),.b (Bm (Ac s a.toNat))],[]))
 | _,_=>.no
theorem PS (n:Nat) (_:n<256):IntKind.u8.wrap ((BitVec.ofInt IntKind.u8.bits (n:Int) &&& BitVec.ofInt IntKind.u8.bits (127:Int)).toNat:Int)=((n % 128:Nat):Int):=by
 have e:(BitVec.ofInt IntKind.u8.bits (n:Int) &&& BitVec.ofInt IntKind.u8.bits (127:Int)).toNat=n % 128:=by
  show (BitVec.ofInt 8 (n:Int) &&& BitVec.ofInt 8 ((127:Nat):Int)).toNat=n % 128
  rw [BitVec.toNat_and,BitVec.ofInt_natCast,BitVec.ofInt_natCast,BitVec.toNat_ofNat,BitVec.toNat_ofNat,show 127 % 2 ^ 8=2 ^ 7-1 by decide,Nat.and_two_pow_sub_one_eq_mod]
  show n % 256 % 128=n % 128
  omega
 rw [e]
 unfold IntKind.wrap
 simp [IntKind.bits,IntKind.signed]
 omega
theorem P9 (n:Nat) (_:n<256):i64.wrap ((BitVec.ofInt i64.bits (n:Int) &&& BitVec.ofInt i64.bits (127:Int)).toNat:Int)=((n % 128:Nat):Int):=by
 have e:(BitVec.ofInt i64.bits (n:Int) &&& BitVec.ofInt i64.bits (127:Int)).toNat=n % 128:=by
  show (BitVec.ofInt 64 (n:Int) &&& BitVec.ofInt 64 ((127:Nat):Int)).toNat=n % 128
  rw [BitVec.toNat_and,BitVec.ofInt_natCast,BitVec.ofInt_natCast,BitVec.toNat_ofNat,BitVec.toNat_ofNat,show 127 % 2 ^ 64=2 ^ 7-1 by decide,Nat.and_two_pow_sub_one_eq_mod]
  show n % 18446744073709551616 % 128=n % 128
  omega
 rw [e,Ak (by omega) (by omega)]
theorem Fp {i:Nat} (h:i<=4):2 ^ (7*i)<=268435456:=by
 have:2 ^ (7*i)<=2 ^ 28:=Nat.pow_le_pow_right (by decide) (by omega)
 have e:(2:Nat) ^ 28=268435456:=by decide
 omega
theorem Pz (x i:Nat) (hx:x<128) (hi:i<=4):i64.wrap ((x:Int)*(2:Int) ^ min ((7:Int)*(i:Int)).toNat i64.bits)=((x*2 ^ (7*i):Nat):Int):=by
 have hp:=Fp hi
 have hm:x*2 ^ (7*i)<=127*268435456:=mul_le_mul (by omega) hp
 have e1:((7:Int)*(i:Int)).toNat=7*i:=by omega
 have e2:min (7*i) i64.bits=7*i:=Nat.min_eq_left (by show 7*i<=64; omega)
 rw [e1,e2]
 have e3:(x:Int)*(2:Int) ^ (7*i)=((x*2 ^ (7*i):Nat):Int):=by simp
 rw [e3,Ak (by omega) (by omega)]
theorem HP {n:Int} (h1:0<=n) (h2:n<=9223372036854775807):IntKind.u64.wrap n=n:=by
 unfold IntKind.wrap
 simp [IntKind.bits,IntKind.signed]
 omega
theorem or7 (n x i:Nat) (hn:n<2 ^ (7*i)) (hx:x<128) (hi:i<=4):i64.wrap ((BitVec.ofInt i64.bits (n:Int) ||| BitVec.ofInt i64.bits ((x*2 ^ (7*i):Nat):Int)).toNat:Int)=((n+x*2 ^ (7*i):Nat):Int):=by
 have hp:=Fp hi
 have hm:x*2 ^ (7*i)<=127*268435456:=mul_le_mul (by omega) hp
 have e:(BitVec.ofInt i64.bits (n:Int) ||| BitVec.ofInt i64.bits ((x*2 ^ (7*i):Nat):Int)).toNat=n+x*2 ^ (7*i):=by
  show (BitVec.ofInt 64 (n:Int) ||| BitVec.ofInt 64 ((x*2 ^ (7*i):Nat):Int)).toNat=_
  rw [BitVec.toNat_or,BitVec.ofInt_natCast,BitVec.ofInt_natCast,BitVec.toNat_ofNat,BitVec.toNat_ofNat,mod_eq_of_lt (by omega),mod_eq_of_lt (by omega),mul_comm x,Nat.or_comm,<-Nat.two_pow_add_eq_or_of_lt hn x,Nat.add_comm]
 rw [e,Ak (by omega) (by omega)]
theorem HX : ∀ (f:Nat) (l:By) (i n:Nat) {x:Nat×Nat×Bool},i+f<=5->n<2 ^ (7*i)->tv f l i n=some x->x.1<2 ^ 35/\i<x.2.1/\x.2.1<=i+l.length/\x.2.1<=5
 | 0,l,i,n,x,h1,h2,h=>by rw [tv] at h; cases h
 | f+1,[],i,n,x,h1,h2,h=>by rw [tv] at h; cases h
 | f+1,b::l,i,n,x,h1,h2,h=>by
  have hm:n+b.toNat % 128*2 ^ (7*i)<2 ^ (7*(i+1)):=by
   have h3:b.toNat % 128<=127:=by omega
   have h4:b.toNat % 128*2 ^ (7*i)<=127*2 ^ (7*i):=Nat.mul_le_mul_right _ h3
   have h5:2 ^ (7*(i+1))=2 ^ (7*i)*128:=by rw [show 7*(i+1)=7*i+7 by omega,pow_add]
   omega
  rw [tv] at h
  split at h
  ·simp at h
   subst h
   have h6:2 ^ (7*(i+1))<=2 ^ 35:=Nat.pow_le_pow_right (by decide) (by omega)
   exact ⟨by omega,by simp,by simp<;>omega,by simp<;>omega⟩
  ·obtain ⟨g1,g2,g3,g4⟩:=HX f l (i+1) _ (by omega) hm h
   exact ⟨g1,by omega,by simp; omega,g4⟩
theorem Cc {s:By} {a:Nat} {x:Nat×Nat×Bool} (h:Ac s a=some x):x.1<=34359738368/\0<x.2.1/\a+x.2.1<=s.length/\x.2.1<=5:=by
 obtain ⟨h1,h2,h3,h4⟩:=HX 5 _ 0 0 (by omega) (by decide) h
 rw [length_drop] at h3
 have e:(2:Nat) ^ 35=34359738368:=by decide
 exact ⟨by omega,h2,by omega,h4⟩
theorem G5 (s:By) (a n i:Int):A4 prog (Aa []) (Aa [(3,HV)]) 0 (body f71 0) HV ([.s s,.j a,.j n,.j i],[]) =
 ((ifB (decide (i<5)) (ifB (decide (i64.wrap (a+i)<(↑s.length:Int))) (ifT (decide (0<=i64.wrap (a+i))) (Ax s[(i64.wrap (a+i)).toNat]?
 fun z=>ifT (decide (0<=i64.wrap (7*i))) (ifB (decide ((↑z.toNat:Int)<(128:Int))) (ifB (decide (i64.wrap (↑(BitVec.ofInt i64.bits n |||
 BitVec.ofInt i64.bits (i64.wrap (i64.wrap (IntKind.u8.wrap (↑(BitVec.ofInt IntKind.u8.bits (↑z.toNat:Int) &&& BitVec.ofInt IntKind.u8.bits (127
 : Int)).toNat:Int))*(2:Int) ^ min (i64.wrap (7*i)).toNat i64.bits))).toNat:Int)<=(2000000001:Int))) (ifB (decide ((↑z.toNat:Int)>(0 :
 Int))) (some (Ex.ret,[V.j (i64.wrap (↑(BitVec.ofInt i64.bits n ||| BitVec.ofInt i64.bits (i64.wrap (i64.wrap
 (IntKind.u8.wrap (↑(BitVec.ofInt IntKind.u8.bits (↑z.toNat:Int) &&& BitVec.ofInt IntKind.u8.bits (127:Int)).toNat:Int))*(2:Int) ^ min (i64.wrap (7 *
 i)).toNat i64.bits))).toNat:Int)),V.j (i64.wrap (i64.wrap (a+i)+(1:Int))),V.b true],[])) (some (Ex.ret,[V.i .i64
 (i64.wrap (↑(BitVec.ofInt i64.bits n ||| BitVec.ofInt i64.bits (i64.wrap (i64.wrap (IntKind.u8.wrap (↑(BitVec.ofInt
 IntKind.u8.bits (↑z.toNat:Int) &&& BitVec.ofInt IntKind.u8.bits (127:Int)).toNat:Int))*(2:Int) ^ min (i64.wrap (7*i)).toNat i64.bits))).toNat
 : Int)),V.j (i64.wrap (i64.wrap (a+i)+(1:Int))),V.b (i==0)],[]))) (some (Ex.ret,[V.j (i64.wrap (↑(BitVec.ofInt
 i64.bits n ||| BitVec.ofInt i64.bits (i64.wrap (i64.wrap (IntKind.u8.wrap (↑(BitVec.ofInt IntKind.u8.bits (↑z.toNat:Int) &&&
 BitVec.ofInt IntKind.u8.bits (127:Int)).toNat:Int))*(2:Int) ^ min (i64.wrap (7*i)).toNat i64.bits))).toNat:Int)),V.j (i64.wrap
 (i64.wrap (a+i)+(1:Int))),V.b false],[]))) (some (Ex.normal,[V.s s,V.j a,V.j (i64.wrap (↑(BitVec.ofInt i64.bits n |||
 BitVec.ofInt i64.bits (i64.wrap (i64.wrap (IntKind.u8.wrap (↑(BitVec.ofInt IntKind.u8.bits (↑z.toNat:Int) &&& BitVec.ofInt IntKind.u8.bits (127
 : Int)).toNat:Int))*(2:Int) ^ min (i64.wrap (7*i)).toNat i64.bits))).toNat:Int)),V.j (i64.wrap (i+1))],[]))))) (some (Ex.exit
 0,[],[]))) (some (Ex.exit 0,[],[]))):_):=by kernel_rfl
theorem HU (s:By) (a:Nat) (hs:s.length<=4000000000) (ha:a<=4000000000) : ∀ (j i n:Nat),i+j=5->n<2 ^ (7*i)->∀ ex d,(Br.br (tv (5-i) (s.drop (a+i)) i n).isSome (.leaf (.ret,([.j (Az (tv (5-i) (s.drop (a+i)) i n)),.j (Ao a (tv (5-i) (s.drop (a+i)) i n)),.b (Bm (tv (5-i) (s.drop (a+i)) i n))],[]))) (.leaf (.exit 0,([],[]))):Br (Ex×Dt)).run=some (ex,d)->
  Runs prog (Aa []) (Aa [(3,HV)]) 0 (body f71 0) HV ([.s s,.j (a:Int),.j (n:Int),.j (i:Int)],[]) ex d
 | 0,i,n,hi,hn,ex,d,h=>by
  have hr:=G5 s a n i
  rw [Ae (dcF (by omega))] at hr
  rw [show 5-i=0 by omega,tv] at h
  obtain ⟨rfl,rfl⟩:=lfP h
  exact stp hr
 | j+1,i,n,hi,hn,ex,d,h=>by
  have hr:=G5 s a n i
  have hw:i64.wrap ((a:Int)+(i:Int))=((a+i:Nat):Int):=by rw [Ak (by omega) (by omega)]; omega
  rw [Ah (dcT (by omega)),hw] at hr
  rw [show 5-i=(5-(i+1))+1 by omega] at h
  by_cases hl:a+i<s.length
  ·rw [Ah (dcT (by omega)),Ad (dcT (by omega))] at hr
   have hz:=s[a+i].toNat_lt
   have hx:s[a+i].toNat % 128<128:=Nat.mod_lt _ (by decide)
   have hp:=Fp (i:=i) (by omega)
   have hm:s[a+i].toNat % 128*2 ^ (7*i)<=127*268435456:=mul_le_mul (by omega) hp
   have hw7:i64.wrap ((7:Int)*(i:Int))=7*(i:Int):=Ak (by omega) (by omega)
   have hwc:i64.wrap (s[a+i].toNat:Int)=(s[a+i].toNat:Int):=Ak (by omega) (by omega)
   have hu7:IntKind.u64.wrap (7*(i:Int))=7*(i:Int):=HP (by omega) (by omega)
   have hwx:i64.wrap ((s[a+i].toNat % 128:Nat):Int)=((s[a+i].toNat % 128:Nat):Int):=Ak (by omega) (by omega)
   simp only [ntN,gtE hl,A7,hw7,PS _ hz,hwx,Pz _ i hx (by omega),or7 n _ i hn hx (by omega)] at hr
   rw [Ad (dcT (by omega))] at hr
   rw [drop_eq_getElem_cons hl,tv] at h
   have hm2:n+s[a+i].toNat % 128*2 ^ (7*i)<2 ^ (7*(i+1)):=by
    have h4:s[a+i].toNat % 128*2 ^ (7*i)<=127*2 ^ (7*i):=Nat.mul_le_mul_right _ (by omega)
    have h5:2 ^ (7*(i+1))=2 ^ (7*i)*128:=by rw [show 7*(i+1)=7*i+7 by omega,pow_add]
    omega
   have hwi:i64.wrap (((a+i:Nat):Int)+1)=((a+(i+1):Nat):Int):=by rw [Ak (by omega) (by omega)]; omega
   rw [AY (n:=i) (by unfold maxI; omega)] at hr
   try rw [hwi] at hr
   generalize s[a+i].toNat % 128*2 ^ (7*i)=y at *
   have hi0:((i:Int)==0)=decide (i=0):=by
    by_cases h:i=0
    ·subst h; rfl
    ·rw [dcF h]; exact beq_false_of_ne (by omega)
   have hle:decide (((n+y:Nat):Int)<=2000000001)=decide (n+y<=2000000001):=decide_eq_decide.2 (by omega)
   have hgt:decide (((n+y:Nat):Int)>2000000001) = !decide (n+y<=2000000001):=by rw [<-decide_not]; exact decide_eq_decide.2 (by omega)
   have hb0:decide ((s[a+i].toNat:Int)>0)=decide (0<s[a+i].toNat):=decide_eq_decide.2 (by omega)
   have hbz:((s[a+i].toNat:Int)==0) = !decide (0<s[a+i].toNat):=by
    by_cases h:s[a+i].toNat=0
    ·rw [h]; rfl
    ·rw [dcT (by omega)]; exact beq_false_of_ne (by omega)
   have hig:decide ((i:Int)>0) = !decide (i=0):=by rw [<-decide_not]; exact decide_eq_decide.2 (by omega)
   simp only [hi0,hle,hb0] at hr
   by_cases hb:s[a+i].toNat<128
   ·rw [if_pos hb] at h
    rw [Ah (dcT (by omega))] at hr
    obtain ⟨rfl,rfl⟩:=lfP h
    refine .stop _ _ _ (hr.trans ?_) (by simp)
    cases decide (n+y<=2000000001)<;>cases decide (0<s[a+i].toNat)<;>cases decide (i=0)<;>rfl
   ·rw [if_neg hb] at h
    rw [Ae (dcF (by omega))] at hr
    exact sts hr (HU s a hs ha j (i+1) (n+y) (by omega) hm2 ex d h)
  ·rw [Ae (dcF (by omega))] at hr
   rw [drop_eq_nil_of_le (by omega),tv] at h
   obtain ⟨rfl,rfl⟩:=lfP h
   exact stp hr
theorem On:Aq prog (Aa []) (Aa [(3,HV)]) 0 (f71.body.getD .skip):=by
 refine Ap (a:=body f71 0) (by kernel_rfl) fun d ex d' h=>?_
 unfold HV at h
 dsimp only at h
 split at h
 ·rename_i s a n i
  obtain ⟨hc,hx⟩:=Af h
  clear h
  obtain ⟨h0,h1,h2,h3,h4,h5,h6⟩:=of_decide_eq_true hc
  obtain ⟨a,rfl⟩:=eq_ofNat_of_zero_le h0
  obtain ⟨n,rfl⟩:=eq_ofNat_of_zero_le h1
  obtain ⟨i,rfl⟩:=eq_ofNat_of_zero_le h2
  simp only [ntN] at h4 hx
  exact HU s a h5 (by omega) (5-i) i n (by omega) h4 ex d' hx
 ·cases h
theorem tvi:Ag prog 71 (Ent.rd1 Ks).F:=by
 refine fcK KnowsL.nil.knows (Λ:=(Aa [(3,HV)])) func71 fun vs bs r hq=>?_
 unfold Ent.F Ks at hq
 dsimp only at hq
 split at hq
 ·rename_i s a
  obtain ⟨hc,hx⟩:=Af hq
  refine ⟨On,Eq.trans ?_ hx⟩
  obtain ⟨h0,h1,h2⟩:=of_decide_eq_true hc
  obtain ⟨a,rfl⟩:=eq_ofNat_of_zero_le h0
  have e:AL prog (Aa []) (Aa [(3,HV)]) f71 [.s s,.j (a:Int)] []=((ifT (decide (0<=(↑a:Int)/\(0:Int)<=(0:Int)/\(0:Int)<=(0:Int)/\(0:Int)<=(5:Int)/\0<2 ^ 0/\s.length<=4000000000/\
 (↑a:Int)<=(4000000000:Int))) (ifB (tv 5 (drop ((↑a:Int).toNat+0) s) 0 0).isSome (some (V.tup [V.j (Az (tv 5
 (drop ((↑a:Int).toNat+0) s) 0 0)),V.j (Ao (↑a:Int).toNat (tv 5 (drop ((↑a:Int).toNat+0) s) 0
 0)),V.b (Bm (tv 5 (drop ((↑a:Int).toNat+0) s) 0 0))],[])) (some (V.tup [V.j 0,V.j 0,V.b false],[])))):_):=by kernel_rfl
  rw [e]
  clear e
  rw [Ad (dcT ⟨by omega,by omega,by omega,by omega,by decide,h1,h2⟩)]
  simp only [ntN,Nat.add_zero]
  show ifB (Ac s a).isSome (some (V.tup [.j (Az (Ac s a)),.j (Ao a (Ac s a)),.b (Bm (Ac s a))],[])) _=_
  cases Ac s a<;>rfl
 ·cases hq
theorem G4 (s:By) (a n i:Int):A4 prog (Aa []) (Aa [(3,HT)]) 0 (body f80 0) HT ([.s s,.j a,.j n,.j i],[]) =
 ((ifB (decide (i<5)) (ifB (decide (i64.wrap (a+i)<(↑s.length:Int))) (ifT (decide (0<=i64.wrap (a+i))) (Ax s[(i64.wrap (a+i)).toNat]?
 fun z=>ifT (decide ((0:Int)<=IntKind.u64.wrap (i64.wrap (7*i)))) (ifB (decide (i64.wrap (↑z.toNat:Int)<(128:Int))) (ifB (decide (i>0)) (ifB
 (i64.wrap (↑z.toNat:Int)==(0:Int)) (some (Ex.ret,[V.j 0,V.j 0,V.b false],[])) (ifB (decide (i64.wrap (↑(BitVec.ofInt i64.bits
 n ||| BitVec.ofInt i64.bits (i64.wrap (i64.wrap (↑(BitVec.ofInt i64.bits (i64.wrap (↑z.toNat:Int)) &&& BitVec.ofInt
 i64.bits (127:Int)).toNat:Int)*(2:Int) ^ min (IntKind.u64.wrap (i64.wrap (7*i))).toNat i64.bits))).toNat:Int)>(2000000001:Int)))
 (some (Ex.ret,[V.j 0,V.j 0,V.b false],[])) (some (Ex.ret,[V.j (i64.wrap (↑(BitVec.ofInt i64.bits n ||| BitVec.ofInt i64.bits
 (i64.wrap (i64.wrap (↑(BitVec.ofInt i64.bits (i64.wrap (↑z.toNat:Int)) &&& BitVec.ofInt i64.bits (127:Int)).toNat:Int)*(2
 : Int) ^ min (IntKind.u64.wrap (i64.wrap (7*i))).toNat i64.bits))).toNat:Int)),V.j (i64.wrap (i64.wrap (a+i)+(1:Int))),
 V.b true],[])))) (ifB (decide (i64.wrap (↑(BitVec.ofInt i64.bits n ||| BitVec.ofInt i64.bits (i64.wrap (i64.wrap (↑(BitVec.ofInt
 i64.bits (i64.wrap (↑z.toNat:Int)) &&& BitVec.ofInt i64.bits (127:Int)).toNat:Int)*(2:Int) ^ min (IntKind.u64.wrap (i64.wrap (7
 * i))).toNat i64.bits))).toNat:Int)>(2000000001:Int))) (some (Ex.ret,[V.j 0,V.j 0,V.b false],[])) (some (Ex.ret,[V.j (i64.wrap
 (↑(BitVec.ofInt i64.bits n ||| BitVec.ofInt i64.bits (i64.wrap (i64.wrap (↑(BitVec.ofInt i64.bits (i64.wrap (↑z.toNat :
 Int)) &&& BitVec.ofInt i64.bits (127:Int)).toNat:Int)*(2:Int) ^ min (IntKind.u64.wrap (i64.wrap (7*i))).toNat i64.bits))).toNat:Int)),
 V.j (i64.wrap (i64.wrap (a+i)+(1:Int))),V.b true],[])))) (some (Ex.normal,[V.s s,V.j a,V.j (i64.wrap (↑(BitVec.ofInt
 i64.bits n ||| BitVec.ofInt i64.bits (i64.wrap (i64.wrap (↑(BitVec.ofInt i64.bits (i64.wrap (↑z.toNat:Int)) &&&
 BitVec.ofInt i64.bits (127:Int)).toNat:Int)*(2:Int) ^ min (IntKind.u64.wrap (i64.wrap (7*i))).toNat i64.bits))).toNat:Int)),V.i .i64
 (i64.wrap (i+1))],[]))))) (some (Ex.exit 0,[],[]))) (some (Ex.exit 0,[],[]))):_):=by kernel_rfl
theorem HS (s:By) (a:Nat) (hs:s.length<=4000000000) (ha:a<=4000000000) : ∀ (j i n:Nat),i+j=5->n<2 ^ (7*i)->∀ ex d,(Br.br (tv (5-i) (s.drop (a+i)) i n).isSome (.leaf (.ret,([.j (Cp (tv (5-i) (s.drop (a+i)) i n)),.j (AZ a (tv (5-i) (s.drop (a+i)) i n)),.b (Bm (tv (5-i) (s.drop (a+i)) i n))],[]))) (.leaf (.exit 0,([],[]))):Br (Ex×Dt)).run=some (ex,d)->
  Runs prog (Aa []) (Aa [(3,HT)]) 0 (body f80 0) HT ([.s s,.j (a:Int),.j (n:Int),.j (i:Int)],[]) ex d
 | 0,i,n,hi,hn,ex,d,h=>by
  have hr:=G4 s a n i
  rw [Ae (dcF (by omega))] at hr
  rw [show 5-i=0 by omega,tv] at h
  obtain ⟨rfl,rfl⟩:=lfP h
  exact stp hr
 | j+1,i,n,hi,hn,ex,d,h=>by
  have hr:=G4 s a n i
  have hw:i64.wrap ((a:Int)+(i:Int))=((a+i:Nat):Int):=by rw [Ak (by omega) (by omega)]; omega
  rw [Ah (dcT (by omega)),hw] at hr
  rw [show 5-i=(5-(i+1))+1 by omega] at h
  by_cases hl:a+i<s.length
  ·rw [Ah (dcT (by omega)),Ad (dcT (by omega))] at hr
   have hz:=s[a+i].toNat_lt
   have hx:s[a+i].toNat % 128<128:=Nat.mod_lt _ (by decide)
   have hp:=Fp (i:=i) (by omega)
   have hm:s[a+i].toNat % 128*2 ^ (7*i)<=127*268435456:=mul_le_mul (by omega) hp
   have hw7:i64.wrap ((7:Int)*(i:Int))=7*(i:Int):=Ak (by omega) (by omega)
   have hwc:i64.wrap (s[a+i].toNat:Int)=(s[a+i].toNat:Int):=Ak (by omega) (by omega)
   have hu7:IntKind.u64.wrap (7*(i:Int))=7*(i:Int):=HP (by omega) (by omega)
   have hwx:i64.wrap ((s[a+i].toNat % 128:Nat):Int)=((s[a+i].toNat % 128:Nat):Int):=Ak (by omega) (by omega)
   simp only [ntN,gtE hl,A7,hw7,hu7,hwc,P9 _ hz,Pz _ i hx (by omega),or7 n _ i hn hx (by omega)] at hr
   rw [Ad (dcT (by omega))] at hr
   rw [drop_eq_getElem_cons hl,tv] at h
   have hm2:n+s[a+i].toNat % 128*2 ^ (7*i)<2 ^ (7*(i+1)):=by
    have h4:s[a+i].toNat % 128*2 ^ (7*i)<=127*2 ^ (7*i):=Nat.mul_le_mul_right _ (by omega)
    have h5:2 ^ (7*(i+1))=2 ^ (7*i)*128:=by rw [show 7*(i+1)=7*i+7 by omega,pow_add]
    omega
   have hwi:i64.wrap (((a+i:Nat):Int)+1)=((a+(i+1):Nat):Int):=by rw [Ak (by omega) (by omega)]; omega
   rw [AY (n:=i) (by unfold maxI; omega)] at hr
   try rw [hwi] at hr
   generalize s[a+i].toNat % 128*2 ^ (7*i)=y at *
   have hi0:((i:Int)==0)=decide (i=0):=by
    by_cases h:i=0
    ·subst h; rfl
    ·rw [dcF h]; exact beq_false_of_ne (by omega)
   have hle:decide (((n+y:Nat):Int)<=2000000001)=decide (n+y<=2000000001):=decide_eq_decide.2 (by omega)
   have hgt:decide (((n+y:Nat):Int)>2000000001) = !decide (n+y<=2000000001):=by rw [<-decide_not]; exact decide_eq_decide.2 (by omega)
   have hb0:decide ((s[a+i].toNat:Int)>0)=decide (0<s[a+i].toNat):=decide_eq_decide.2 (by omega)
   have hbz:((s[a+i].toNat:Int)==0) = !decide (0<s[a+i].toNat):=by
    by_cases h:s[a+i].toNat=0
    ·rw [h]; rfl
    ·rw [dcT (by omega)]; exact beq_false_of_ne (by omega)
   have hig:decide ((i:Int)>0) = !decide (i=0):=by rw [<-decide_not]; exact decide_eq_decide.2 (by omega)
   simp only [hgt,hbz,hig] at hr
   by_cases hb:s[a+i].toNat<128
   ·rw [if_pos hb] at h
    rw [Ah (dcT (by omega))] at hr
    obtain ⟨rfl,rfl⟩:=lfP h
    refine .stop _ _ _ (hr.trans ?_) (by simp)
    cases decide (n+y<=2000000001)<;>cases decide (0<s[a+i].toNat)<;>cases decide (i=0)<;>rfl
   ·rw [if_neg hb] at h
    rw [Ae (dcF (by omega))] at hr
    exact sts hr (HS s a hs ha j (i+1) (n+y) (by omega) hm2 ex d h)
  ·rw [Ae (dcF (by omega))] at hr
   rw [drop_eq_nil_of_le (by omega),tv] at h
   obtain ⟨rfl,rfl⟩:=lfP h
   exact stp hr
theorem Ol:Aq prog (Aa []) (Aa [(3,HT)]) 0 (f80.body.getD .skip):=by
 refine Ap (a:=body f80 0) (by kernel_rfl) fun d ex d' h=>?_
 unfold HT at h
 dsimp only at h
 split at h
 ·rename_i s a n i
  obtain ⟨hc,hx⟩:=Af h
  clear h
  obtain ⟨h0,h1,h2,h3,h4,h5,h6⟩:=of_decide_eq_true hc
  obtain ⟨a,rfl⟩:=eq_ofNat_of_zero_le h0
  obtain ⟨n,rfl⟩:=eq_ofNat_of_zero_le h1
  obtain ⟨i,rfl⟩:=eq_ofNat_of_zero_le h2
  simp only [ntN] at h4 hx
  exact HS s a h5 (by omega) (5-i) i n (by omega) h4 ex d' hx
 ·cases h
theorem tvs:Ag prog 80 (Ent.rd1 Om).F:=by
 refine fcK KnowsL.nil.knows (Λ:=(Aa [(3,HT)])) func80 fun vs bs r hq=>?_
 unfold Ent.F Om at hq
 dsimp only at hq
 split at hq
 ·rename_i s a
  obtain ⟨hc,hx⟩:=Af hq
  refine ⟨Ol,Eq.trans ?_ hx⟩
  obtain ⟨h0,h1,h2⟩:=of_decide_eq_true hc
  obtain ⟨a,rfl⟩:=eq_ofNat_of_zero_le h0
  have e:AL prog (Aa []) (Aa [(3,HT)]) f80 [.s s,.j (a:Int)] []=((ifT (decide (0<=(↑a:Int)/\(0:Int)<=(0:Int)/\(0:Int)<=(0:Int)/\(0:Int)<=(5:Int)/\0<2 ^ 0/\s.length<=4000000000/\
 (↑a:Int)<=(4000000000:Int))) (ifB (tv 5 (drop ((↑a:Int).toNat+0) s) 0 0).isSome (some (V.tup [V.j (Cp (tv 5
 (drop ((↑a:Int).toNat+0) s) 0 0)),V.j (AZ (↑a:Int).toNat (tv 5 (drop ((↑a:Int).toNat+0) s) 0
 0)),V.b (Bm (tv 5 (drop ((↑a:Int).toNat+0) s) 0 0))],[])) (some (V.tup [V.j 0,V.j 0,V.b false],[])))):_):=by kernel_rfl
  rw [e]
  clear e
  rw [Ad (dcT ⟨by omega,by omega,by omega,by omega,by decide,h1,h2⟩)]
  simp only [ntN,Nat.add_zero]
  show ifB (Ac s a).isSome (some (V.tup [.j (Cp (Ac s a)),.j (AZ a (Ac s a)),.b (Bm (Ac s a))],[])) _=_
  cases Ac s a<;>rfl
 ·cases hq
abbrev Lab:=Int×By×Int×Bool×Int×Unit
abbrev Ty:=Int×By×Int×Bool×Int×Int×Unit

def PP (l:List Ty) (i:Nat):Option Int:=(l[i]?).map fun x=>x.2.2.2.2.1
def Oa (l:List Ty) (i:Nat):Lab:=match l[i]? with | some x=>(x.1,x.2.1,x.2.2.1,x.2.2.2.1,x.2.2.2.2.2.1,()) | none=>(0,[],0,false,0,())





def AB {α:Type} (p:α->Bool):Nat->List α->Int
 | _,[]=>-1
 | n,z::l=>if p z=true then (n:Int) else AB p (n+1) l
theorem GT {α:Type} (p:α->Bool) : ∀ (l:List α) (n:Nat),(AB p n l = -1/\l.any p=false)\/((n:Int)<=AB p n l/\AB p n l<n+l.length/\l.any p=true)
 | [],n=>.inl ⟨rfl,rfl⟩
 | z::l,n=>by
  rw [AB,List.any_cons]
  by_cases h:p z=true
  ·rw [if_pos h,h]; exact .inr ⟨Int.le_refl _,by simp; omega,rfl⟩
  ·rw [if_neg h,show p z=false by simpa using h,Bool.false_or]
   rcases GT p l (n+1) with ⟨h1,h2⟩ | ⟨h1,h2,h3⟩
   ·exact .inl ⟨h1,h2⟩
   ·exact .inr ⟨by omega,by simp; omega,h3⟩
theorem J3 {α:Type} (p:α->Bool) (l:List α) (n:Nat) (h:AB p n l<0):AB p n l = -1:=by
 rcases GT p l n with ⟨h1,h2⟩ | ⟨h1,h2⟩
 ·exact h1
 ·omega


def Mi (k:Int):Nat->List Ty->List Int
 | _,[]=>[]
 | i,x::l=>if x.2.2.2.2.1=k then (i:Int)::Mi k (i+1) l else Mi k (i+1) l
def OH (l:List Ty) (k:Nat):List Int:=Mi k (k+1) (l.drop (k+1))
def t2 (l:List Ty):Nat->Nat->Rose Lab
 | 0,k=>.node (Oa l k) []
 | f+1,k=>.node (Oa l k) ((OH l k).map fun i=>t2 l f i.toNat)



inductive Out (l:List Ty):Nat->Nat->Prop
 | refl (x:Nat):Out l x x
 | step (x v y:Nat) (h:PP l x=some (v:Int)) (h2:Out l v y):Out l x y
theorem Out.trans {l:List Ty} {x y z:Nat} (h:Out l x y) (h2:Out l y z):Out l x z:=by
 induction h with
 | refl=>exact h2
 | step x v y h _ ih=>exact .step x v z h (ih h2)






instance decTy0:DecidableEq (Bool×Int×Int×Unit):=inferInstance
instance decTy:DecidableEq Ty:=inferInstance

abbrev Nd:=Int×By×Int×Int×Bool×Unit
def CA (n:Int):Bool:=decide (-1000000000<=n)&&decide (n<=1000000000)
def Gq:Gm
 | [.j n],[]=>.leaf (.b (CA n),[])
 | _,_=>.no
theorem K4 (n:Int):AL prog (Aa [(42,.rd1 AT)]) (Aa []) f82 [.j n] []=(.leaf (.b (CA n),[]):Br (V×List (Option Blk))).run:=by
 have e:AL prog (Aa [(42,.rd1 AT)]) (Aa []) f82 [.j n] []=((some (V.b (decide ((-1000000000:Int)<=n/\n<=1000000000)),[])):_):=by kernel_rfl
 rw [e]
 clear e
 unfold CA
 rw [decide_and]
 rfl
theorem P7:Ag prog 82 (Ent.rd1 Gq).F:=by
 refine fcK (kc func42 Jg KnowsL.nil).knows (Λ:=Aa []) func82 fun vs bs r' hq=>?_
 unfold Ent.F Gq at hq
 dsimp only at hq
 split at hq
 ·rename_i n
  exact ⟨Am _,(K4 n).trans hq⟩
 ·cases hq
theorem KC (n:Int):AL prog (Aa [(48,.rd1 AT)]) (Aa []) f55 [.j n] []=(.leaf (.b (CA n),[]):Br (V×List (Option Blk))).run:=by
 have e:AL prog (Aa [(48,.rd1 AT)]) (Aa []) f55 [.j n] []=((some (V.b (decide ((-1000000000:Int)<=n/\n<=1000000000)),[])):_):=by kernel_rfl
 rw [e]
 clear e
 unfold CA
 rw [decide_and]
 rfl
theorem Ob:Ag prog 55 (Ent.rd1 Gq).F:=by
 refine fcK (kc func48 OF KnowsL.nil).knows (Λ:=Aa []) func55 fun vs bs r' hq=>?_
 unfold Ent.F Gq at hq
 dsimp only at hq
 split at hq
 ·rename_i n
  exact ⟨Am _,(KC n).trans hq⟩
 ·cases hq
abbrev WFd:=Int×Int×Int×By×Unit
abbrev Pl:=WFd×Int×Unit
def unf (n:Int):Int:=if n % 2=1 then -((n+1) / 2) else n / 2
def As (f:WFd):Bool:=(decide (1<=f.1)&&decide (f.1<=30))&&(if f.2.1=0 then CA f.2.2.1&&f.2.2.2.1==[] else if f.2.1=2 then f.2.2.1==0 else false)
def Be (s:By) (a:Nat):By×Int×Bool:=
 let u:=Ac s a
 if Bm u=true/\Az u<=s.length-Ao a u then ((s.drop (Ao a u).toNat).take (Az u).toNat,Ao a u+Az u,true) else ([],0,false)
def A6 (s:By) (a:Nat):WFd×Int×Int×Bool:=
 let t:=Ac s a
 if Bm t=false then ((0,0,0,[],()),0,0,false)
 else if Az t % 8=2 then
  let b:=Be s (Ao a t).toNat
  ((Az t / 8,2,0,b.1,()),a,b.2.1,b.2.2&&As (Az t / 8,2,0,b.1,()))
 else
  let u:=Ac s (Ao a t).toNat
  ((Az t / 8,Az t % 8,unf (Az u),[],()),a,Ao (Ao a t).toNat u,Bm u&&As (Az t / 8,Az t % 8,unf (Az u),[],()))
def Jh:Gm
 | [.j n],[]=>.need (decide (0<=n/\n<=1000000000000)) (.leaf (.j (unf n),[]))
 | _,_=>.no
def BZ:Gm
 | [.agg [.j f0,.j f1,.j f2,.s f3]],[]=>.leaf (.b (As (f0,f1,f2,f3,())),[])
 | _,_=>.no
def tbG:Gm
 | [.s s,.j a],[]=>.need (decide (0<=a/\s.length<=4000000000/\a<=4000000000)) (.leaf (.tup [.s (Be s a.toNat).1,.j (Be s a.toNat).2.1,.b (Be s a.toNat).2.2],[]))
 | _,_=>.no
def tfG:Gm
 | [.s s,.j a],[]=>.need (decide (0<=a/\s.length<=4000000000/\a<=4000000000)) (.leaf (.tup [.agg [.j (A6 s a.toNat).1.1,.j (A6 s a.toNat).1.2.1,.j (A6 s a.toNat).1.2.2.1,.s (A6 s a.toNat).1.2.2.2.1,.j (A6 s a.toNat).2.1],.j (A6 s a.toNat).2.2.1,.b (A6 s a.toNat).2.2.2],[]))
 | _,_=>.no
theorem KD (n:Int):AL prog (Aa []) (Aa []) f73 [.j n] [] =
 ((ifB (n.tmod (2:Int)==(1:Int)) (some (V.j (i64.wrap ((i64.wrap (0-i64.wrap (n+1))).tdiv (2:Int))),[])) (some (V.i .i64
 (i64.wrap (n.tdiv (2:Int))),[]))):_):=by kernel_rfl
theorem Mm (n:Int) (hc:0<=n/\n<=1000000000000):AL prog (Aa []) (Aa []) f73 [.j n] []=(.leaf (.j (unf n),[]):Br (V×List (Option Blk))).run:=by
 rw [KD]
 unfold unf
 have h1:tmod n 2=n % 2:=Int.tmod_eq_emod_of_nonneg hc.1
 have h2:tdiv n 2=n / 2:=Int.tdiv_eq_ediv_of_nonneg hc.1
 have h3:i64.wrap (n+1)=n+1:=Ak (by omega) (by omega)
 have h4:i64.wrap (0-(n+1)) = -(n+1):=by rw [Ak (by omega) (by omega)]; omega
 have h5:tdiv (-(n+1)) 2 = -((n+1) / 2):=by rw [Int.neg_tdiv,Int.tdiv_eq_ediv_of_nonneg (by omega)]
 rw [h1,h2,h3,h4,h5]
 rw [Ak (n:=n / 2) (by omega) (by omega),Ak (n:=-((n+1) / 2)) (by omega) (by omega)]
 by_cases q:n % 2=1
 ·rw [Ah (by simpa using q),if_pos q]; rfl
 ·rw [Ae (by simpa using q),if_neg q]; rfl
theorem PT:Ag prog 73 (Ent.rd1 Jh).F:=by
 refine fcK KnowsL.nil.knows (Λ:=Aa []) func73 fun vs bs r' hq=>?_
 unfold Ent.F Jh at hq
 dsimp only at hq
 split at hq
 ·rename_i n
  obtain ⟨hc,hx⟩:=Af hq
  exact ⟨Am _,(Mm n (of_decide_eq_true hc)).trans hx⟩
 ·cases hq
theorem Kt (n:Int):AL prog (Aa []) (Aa []) f81 [.j n] [] =
 ((ifB (n.tmod (2:Int)==(0:Int)) (some (V.j (i64.wrap (n.tdiv (2:Int))),[])) (some (V.j (i64.wrap ((i64.wrap (0-i64.wrap
 (n+1))).tdiv (2:Int))),[]))):_):=by kernel_rfl
theorem Lr (n:Int) (hc:0<=n/\n<=1000000000000):AL prog (Aa []) (Aa []) f81 [.j n] []=(.leaf (.j (unf n),[]):Br (V×List (Option Blk))).run:=by
 rw [Kt]
 unfold unf
 have h1:tmod n 2=n % 2:=Int.tmod_eq_emod_of_nonneg hc.1
 have h2:tdiv n 2=n / 2:=Int.tdiv_eq_ediv_of_nonneg hc.1
 have h3:i64.wrap (n+1)=n+1:=Ak (by omega) (by omega)
 have h4:i64.wrap (0-(n+1)) = -(n+1):=by rw [Ak (by omega) (by omega)]; omega
 have h5:tdiv (-(n+1)) 2 = -((n+1) / 2):=by rw [Int.neg_tdiv,Int.tdiv_eq_ediv_of_nonneg (by omega)]
 rw [h1,h2,h3,h4,h5]
 rw [Ak (n:=n / 2) (by omega) (by omega),Ak (n:=-((n+1) / 2)) (by omega) (by omega)]
 by_cases q:n % 2=1
 ·rw [Ae (by rw [q]; rfl),if_pos q]; rfl
 ·rw [Ah (by rw [show n % 2=0 by omega]; rfl),if_neg q]; rfl
theorem PQ:Ag prog 81 (Ent.rd1 Jh).F:=by
 refine fcK KnowsL.nil.knows (Λ:=Aa []) func81 fun vs bs r' hq=>?_
 unfold Ent.F Jh at hq
 dsimp only at hq
 split at hq
 ·rename_i n
  obtain ⟨hc,hx⟩:=Af hq
  exact ⟨Am _,(Lr n (of_decide_eq_true hc)).trans hx⟩
 ·cases hq
theorem I6 (f0 f1 f2:Int) (f3:By):AL prog (Aa [(42,.rd1 AT),(82,.rd1 Gq)]) (Aa []) f74 [.agg [.j f0,.j f1,.j f2,.s f3]] [] =
 ((ifB (!decide (1<=f0/\f0<=30)) nF (ifB (f1==0) (ifB (CA f2) (some (V.b (f3==An UInt8),[])) nF) (ifB (f1==2) (some (V.b
 (f2==0),[])) nF))):_):=by kernel_rfl
theorem Jz (f0 f1 f2:Int) (f3:By):AL prog (Aa [(42,.rd1 AT),(82,.rd1 Gq)]) (Aa []) f74 [.agg [.j f0,.j f1,.j f2,.s f3]] []=(.leaf (.b (As (f0,f1,f2,f3,())),[]):Br (V×List (Option Blk))).run:=by
 rw [I6]
 unfold As
 dsimp only
 have d1:decide (1<=f0/\f0<=30)=(decide (1<=f0)&&decide (f0<=30)):=decide_and ..
 rw [d1]
 cases hA:(decide (1<=f0)&&decide (f0<=30)) with
 | false=>rfl
 | true=>
  rw [Bool.not_true,AI]
  by_cases q:f1=0
  ·rw [Ah (by simpa using q),if_pos q]
   cases CA f2<;>rfl
  ·rw [Ae (by simpa using q),if_neg q]
   by_cases q2:f1=2
   ·rw [Ah (by simpa using q2),if_pos q2]; rfl
   ·rw [Ae (by simpa using q2),if_neg q2]; rfl
theorem OI:Ag prog 74 (Ent.rd1 BZ).F:=by
 refine fcK (kc func42 Jg (kc func82 P7 KnowsL.nil)).knows (Λ:=Aa []) func74 fun vs bs r' hq=>?_
 unfold Ent.F BZ at hq
 dsimp only at hq
 split at hq
 ·rename_i f0 f1 f2 f3
  exact ⟨Am _,(Jz f0 f1 f2 f3).trans hq⟩
 ·cases hq
theorem Ig (f0 f1 f2:Int) (f3:By):AL prog (Aa [(48,.rd1 AT),(55,.rd1 Gq)]) (Aa []) f49 [.agg [.j f0,.j f1,.j f2,.s f3]] [] =
 ((ifB (!decide (1<=f0/\f0<=30)) nF (ifB (f1==0) (ifB (CA f2) (some (V.b (f3==An UInt8),[])) nF) (ifB (f1==2) (some (V.b
 (f2==0),[])) nF))):_):=by kernel_rfl
theorem Jl (f0 f1 f2:Int) (f3:By):AL prog (Aa [(48,.rd1 AT),(55,.rd1 Gq)]) (Aa []) f49 [.agg [.j f0,.j f1,.j f2,.s f3]] []=(.leaf (.b (As (f0,f1,f2,f3,())),[]):Br (V×List (Option Blk))).run:=by
 rw [Ig]
 unfold As
 dsimp only
 have d1:decide (1<=f0/\f0<=30)=(decide (1<=f0)&&decide (f0<=30)):=decide_and ..
 rw [d1]
 cases hA:(decide (1<=f0)&&decide (f0<=30)) with
 | false=>rfl
 | true=>
  rw [Bool.not_true,AI]
  by_cases q:f1=0
  ·rw [Ah (by simpa using q),if_pos q]
   cases CA f2<;>rfl
  ·rw [Ae (by simpa using q),if_neg q]
   by_cases q2:f1=2
   ·rw [Ah (by simpa using q2),if_pos q2]; rfl
   ·rw [Ae (by simpa using q2),if_neg q2]; rfl
theorem Jm:Ag prog 49 (Ent.rd1 BZ).F:=by
 refine fcK (kc func48 OF (kc func55 Ob KnowsL.nil)).knows (Λ:=Aa []) func49 fun vs bs r' hq=>?_
 unfold Ent.F BZ at hq
 dsimp only at hq
 split at hq
 ·rename_i f0 f1 f2 f3
  exact ⟨Am _,(Jl f0 f1 f2 f3).trans hq⟩
 ·cases hq
theorem DX (s:By) (a:Nat):(0<=Az (Ac s a)/\Az (Ac s a)<=34359738368)/\0<=Ao a (Ac s a)/\Ao a (Ac s a)<=s.length:=by
 cases e:Ac s a with
 | none=>exact ⟨⟨by decide,by decide⟩,Int.le_refl 0,Int.natCast_nonneg _⟩
 | some x=>
  obtain ⟨n,k,ok⟩:=x
  obtain ⟨h1,h2,h3,h4⟩:=Cc e
  dsimp only at h1 h2 h3 h4
  refine ⟨⟨?_,?_⟩,?_,?_⟩
  ·show (0:Int)<=(n:Int); omega
  ·show (n:Int)<=34359738368; omega
  ·show (0:Int)<=((a+k:Nat):Int); omega
  ·show ((a+k:Nat):Int)<=(s.length:Int); omega
theorem Ji {s:By} {a:Nat} (h:Bm (Ac s a)=true):(a:Int)<Ao a (Ac s a)/\Ao a (Ac s a)<=s.length:=by
 refine ⟨?_,(DX s a).2.2⟩
 cases e:Ac s a with
 | none=>rw [e] at h; cases h
 | some x=>
  obtain ⟨n,k,ok⟩:=x
  obtain ⟨h1,h2,h3,h4⟩:=Cc e
  show (a:Int)<((a+k:Nat):Int)
  dsimp only at h2
  omega
theorem Mo (s:By) (a:Int):AL prog (Aa [(71,.rd1 Ks)]) (Aa []) f72 [.s s,.j a] [] =
 ((ifT (decide (0<=a/\s.length<=4000000000/\a<=4000000000)) (ifB (!Bm (Ac s a.toNat)) (some (V.tup [V.s (An UInt8),V.j 0,V.b false],[])) (ifB
 (decide (Az (Ac s a.toNat)>i64.wrap ((↑s.length:Int)-Ao a.toNat (Ac s a.toNat)))) (some (V.tup [V.s (An UInt8),V.j 0,V.b false],[])) (ifT
 (decide ((0:Int)<=Ao a.toNat (Ac s a.toNat))&&decide (Ao a.toNat (Ac s a.toNat)<=i64.wrap (Ao a.toNat (Ac s a.toNat)+Az (Ac s a.toNat)))
 && decide (i64.wrap (Ao a.toNat (Ac s a.toNat)+Az (Ac s a.toNat))<=(↑s.length:Int))) (some (V.tup [V.s (take ((i64.wrap (Ao a.toNat
 (Ac s a.toNat)+Az (Ac s a.toNat))).toNat-(Ao a.toNat (Ac s a.toNat)).toNat) (drop (Ao a.toNat (Ac s a.toNat)).toNat s)),V.j (i64.wrap
 (Ao a.toNat (Ac s a.toNat)+Az (Ac s a.toNat))),V.b true],[])))))):_):=by kernel_rfl
theorem Nz (s:By) (a:Int) (hc:0<=a/\s.length<=4000000000/\a<=4000000000):AL prog (Aa [(71,.rd1 Ks)]) (Aa []) f72 [.s s,.j a] []=(.leaf (.tup [.s (Be s a.toNat).1,.j (Be s a.toNat).2.1,.b (Be s a.toNat).2.2],[]):Br (V×List (Option Blk))).run:=by
 rw [Mo]
 obtain ⟨h1,h2,h3⟩:=hc
 obtain ⟨a,rfl⟩:=eq_ofNat_of_zero_le h1
 simp only [ntN]
 obtain ⟨⟨u1,u2⟩,u3,u4⟩:=DX s a
 rw [Ad (dcT ⟨h1,h2,h3⟩)]
 unfold Be
 dsimp only
 have w1:i64.wrap ((s.length:Int)-Ao a (Ac s a))=(s.length:Int)-Ao a (Ac s a):=Ak (by omega) (by omega)
 have w2:i64.wrap (Ao a (Ac s a)+Az (Ac s a))=Ao a (Ac s a)+Az (Ac s a):=Ak (by omega) (by omega)
 simp only [w1,w2]
 cases hk:Bm (Ac s a) with
 | false=>rw [Bool.not_false,BT,if_neg (fun h=>by cases h.1)]; rfl
 | true=>
  rw [Bool.not_true,AI]
  by_cases q:Az (Ac s a)<=s.length-Ao a (Ac s a)
  ·rw [Ae (dcF (by omega)),if_pos ⟨rfl,q⟩,Ad (by simp only [anE,dcE]; omega)]
   have e:(Ao a (Ac s a)+Az (Ac s a)).toNat-(Ao a (Ac s a)).toNat=(Az (Ac s a)).toNat:=by omega
   rw [e]; rfl
  ·rw [Ah (dcT (by omega)),if_neg (fun h=>q h.2)]; rfl
theorem itb:Ag prog 72 (Ent.rd1 tbG).F:=by
 refine fcK (kc func71 tvi KnowsL.nil).knows (Λ:=Aa []) func72 fun vs bs r' hq=>?_
 unfold Ent.F tbG at hq
 dsimp only at hq
 split at hq
 ·rename_i s a
  obtain ⟨hc,hx⟩:=Af hq
  exact ⟨Am _,(Nz s a (of_decide_eq_true hc)).trans hx⟩
 ·cases hq
theorem Mn (s:By) (a:Int):AL prog (Aa [(71,.rd1 Ks),(72,.rd1 tbG),(73,.rd1 Jh),(74,.rd1 BZ)]) (Aa []) f57 [.s s,.j a] [] =
 ((ifT (decide (0<=a/\s.length<=4000000000/\a<=4000000000)) (ifB (!Bm (Ac s a.toNat)) (some (V.tup [V.agg [V.j 0,V.j 0,V.j 0,V.s (An
 UInt8),V.j 0],V.j 0,V.b false],[])) (ifB ((Az (Ac s a.toNat)).tmod (8:Int)==(2:Int)) (ifT (decide ((0:Int)<=Ao a.toNat (Ac s a.toNat)/\
 s.length<=4000000000/\Ao a.toNat (Ac s a.toNat)<=(4000000000:Int))) (ifB (Be s (Ao a.toNat (Ac s a.toNat)).toNat).2.2 (some (V.tup [V.agg [V.i
 .i64 (i64.wrap ((Az (Ac s a.toNat)).tdiv (8:Int))),V.j ((Az (Ac s a.toNat)).tmod (8:Int)),V.j 0,V.s (Be s (Ao a.toNat (Ac s
 a.toNat)).toNat).1,V.j a],V.j (Be s (Ao a.toNat (Ac s a.toNat)).toNat).2.1,V.b (As (i64.wrap ((Az (Ac s a.toNat)).tdiv (8 :
 Int)),(Az (Ac s a.toNat)).tmod (8:Int),(0:Int),(Be s (Ao a.toNat (Ac s a.toNat)).toNat).1,()))],[])) (some (V.tup [V.agg [V.j (i64.wrap
 ((Az (Ac s a.toNat)).tdiv (8:Int))),V.j ((Az (Ac s a.toNat)).tmod (8:Int)),V.j 0,V.s (Be s (Ao a.toNat (Ac s a.toNat)).toNat).1,V.i .i64
 a],V.j (Be s (Ao a.toNat (Ac s a.toNat)).toNat).2.1,V.b false],[])))) (ifT (decide ((0:Int)<=Ao a.toNat (Ac s a.toNat)/\s.length<=(4000000000 :
 Nat)/\Ao a.toNat (Ac s a.toNat)<=(4000000000:Int))) (ifT (decide ((0:Int)<=Az (Ac s (Ao a.toNat (Ac s a.toNat)).toNat)/\Az (Ac s (Ao a.toNat
 (Ac s a.toNat)).toNat)<=(1000000000000:Int))) (ifB (Bm (Ac s (Ao a.toNat (Ac s a.toNat)).toNat)) (some (V.tup [V.agg [V.j (i64.wrap ((Az (Ac
 s a.toNat)).tdiv (8:Int))),V.j ((Az (Ac s a.toNat)).tmod (8:Int)),V.j (unf (Az (Ac s (Ao a.toNat (Ac s a.toNat)).toNat))),V.s (An UInt8),
 V.j a],V.j (Ao (Ao a.toNat (Ac s a.toNat)).toNat (Ac s (Ao a.toNat (Ac s a.toNat)).toNat)),V.b (As (i64.wrap ((Az (Ac s
 a.toNat)).tdiv (8:Int)),(Az (Ac s a.toNat)).tmod (8:Int),unf (Az (Ac s (Ao a.toNat (Ac s a.toNat)).toNat)),An UInt8,()))],[])) (some (V.tup [V.agg
 [V.j (i64.wrap ((Az (Ac s a.toNat)).tdiv (8:Int))),V.j ((Az (Ac s a.toNat)).tmod (8:Int)),V.j (unf (Az (Ac s (Ao a.toNat (Ac
 s a.toNat)).toNat))),V.s (An UInt8),V.j a],V.j (Ao (Ao a.toNat (Ac s a.toNat)).toNat (Ac s (Ao a.toNat (Ac s a.toNat)).toNat)),V.b false],
 [])))))))):_):=by kernel_rfl
theorem Ny (s:By) (a:Int) (hc:0<=a/\s.length<=4000000000/\a<=4000000000):AL prog (Aa [(71,.rd1 Ks),(72,.rd1 tbG),(73,.rd1 Jh),(74,.rd1 BZ)]) (Aa []) f57 [.s s,.j a] []=(.leaf (.tup [.agg [.j (A6 s a.toNat).1.1,.j (A6 s a.toNat).1.2.1,.j (A6 s a.toNat).1.2.2.1,.s (A6 s a.toNat).1.2.2.2.1,.j (A6 s a.toNat).2.1],.j (A6 s a.toNat).2.2.1,.b (A6 s a.toNat).2.2.2],[]):Br (V×List (Option Blk))).run:=by
 rw [Mn]
 obtain ⟨h1,h2,h3⟩:=hc
 obtain ⟨a,rfl⟩:=eq_ofNat_of_zero_le h1
 simp only [ntN]
 obtain ⟨⟨u1,u2⟩,u3,u4⟩:=DX s a
 obtain ⟨⟨v1,v2⟩,v3,v4⟩:=DX s (Ao a (Ac s a)).toNat
 have e1:tdiv (Az (Ac s a)) 8=Az (Ac s a) / 8:=Int.tdiv_eq_ediv_of_nonneg u1
 have e2:tmod (Az (Ac s a)) 8=Az (Ac s a) % 8:=Int.tmod_eq_emod_of_nonneg u1
 have e3:i64.wrap (Az (Ac s a) / 8)=Az (Ac s a) / 8:=Ak (by omega) (by omega)
 rw [Ad (dcT ⟨h1,h2,h3⟩)]
 simp only [e1,e2,e3]
 unfold A6
 dsimp only
 cases hk:Bm (Ac s a) with
 | false=>rw [Bool.not_false,BT,if_pos rfl]; rfl
 | true=>
  rw [Bool.not_true,AI,if_neg (by simp)]
  have hd:decide (0<=Ao a (Ac s a)/\s.length<=4000000000/\Ao a (Ac s a)<=4000000000)=true:=dcT ⟨u3,h2,by omega⟩
  by_cases q:Az (Ac s a) % 8=2
  ·rw [Ah (by simpa using q),if_pos q,q,hd,Mt]
   cases hb:(Be s (Ao a (Ac s a)).toNat).2.2<;>rfl
  ·rw [Ae (by simpa using q),if_neg q,hd,Mt,Ad (dcT ⟨v1,by omega⟩)]
   cases hb:Bm (Ac s (Ao a (Ac s a)).toNat)<;>rfl
theorem itf:Ag prog 57 (Ent.rd1 tfG).F:=by
 refine fcK (kc func71 tvi (kc func72 itb (kc func73 PT (kc func74 OI KnowsL.nil)))).knows (Λ:=Aa []) func57 fun vs bs r' hq=>?_
 unfold Ent.F tfG at hq
 dsimp only at hq
 split at hq
 ·rename_i s a
  obtain ⟨hc,hx⟩:=Af hq
  exact ⟨Am _,(Ny s a (of_decide_eq_true hc)).trans hx⟩
 ·cases hq
theorem G6 {s:By} {a:Nat} (h:(A6 s a).2.2.2=true):As (A6 s a).1=true/\(a:Int)<(A6 s a).2.2.1/\(A6 s a).2.2.1<=s.length/\(A6 s a).2.1=a:=by
 have ha : ∀ {x:Int},(0:Int)<=x->((x.toNat:Nat):Int)=x:=fun h=>by omega
 unfold A6 at h ⊢
 dsimp only at h ⊢
 cases hk:Bm (Ac s a) with
 | false=>rw [hk] at h; cases h
 | true=>
  have t1:=Ji hk
  have t2:=ha (x:=Ao a (Ac s a)) (by omega)
  rw [hk,if_neg (by simp)] at h
  rw [if_neg (by simp)]
  by_cases q:Az (Ac s a) % 8=2
  ·rw [if_pos q] at h ⊢
   dsimp only at h ⊢
   rw [anE] at h
   refine ⟨h.2,?_⟩
   have h:=h.1
   unfold Be at h ⊢
   dsimp only at h ⊢
   split at h
   ·rename_i hh
    rw [if_pos hh]
    have u:=Ji hh.1
    have v:=(DX s (Ao a (Ac s a)).toNat).1.1
    dsimp only
    exact ⟨by omega,by omega,rfl⟩
   ·cases h
  ·rw [if_neg q] at h ⊢
   dsimp only at h ⊢
   rw [anE] at h
   have u:=Ji h.1
   exact ⟨h.2,by omega,u.2,rfl⟩
def rdL (s:By):Nat->Nat->List Pl->Option (List Pl)
 | 0,a,o=>if a<s.length then none else some o
 | f+1,a,o=>if a<s.length then (if (A6 s a).2.2.2=true/\o.length≠40 then rdL s f (A6 s a).2.2.1.toNat (o++[((A6 s a).1,(a:Int),())]) else none) else some o
def rdP (s:By):Option (List Pl):=if s.length<=400 then rdL s s.length 0 [] else none
def Kz:Gm
 | [.s s],[]=>.need (decide (s.length<=4000000000)) (.leaf (.tup [.ref 0 0 ((rdP s).getD []).length,.b (rdP s).isSome],[R0 PCd ((rdP s).getD [])]))
 | _,_=>.no
def Iq:LoopEnt:=⟨37,[0,4,5],[4],[2,3],fun
 | ([.s s,.ref 0 0 n,.j a],[R0 PCd o])=>.need (decide (0<=a/\a.toNat<=s.length/\s.length<=400/\n=o.length/\o.length<=a.toNat)) (.br (rdL s (s.length-a.toNat) a.toNat o).isSome (.leaf (.exit 0,([.ref 0 0 ((rdL s (s.length-a.toNat) a.toNat o).getD []).length],[R0 PCd ((rdL s (s.length-a.toNat) a.toNat o).getD [])]))) (.leaf (.ret,([.ref 0 0 0,.b false],[R0 PCd []]))))
 | _=>.no⟩
theorem GF (s:By) (n:Nat) (a:Int) (o:List Pl):A4 prog (Aa [(57,.rd1 tfG)]) (Aa [(5,Iq)]) 0 (body f41 0) Iq ([.s s,.ref 0 0 n,.j a],[R0 PCd o]) =
 ((ifB (decide (a<(↑s.length:Int))) (ifT (decide (0<=a/\s.length<=4000000000/\a<=4000000000)) (ifB (!(A6 s a.toNat).2.2.2) (some (Ex.ret,[V.ref 0 0
 0,V.b false],[R0 PCd (An PCd.den)])) (ifB ((↑n:Int)==(40:Int)) (some (Ex.ret,[V.ref 0 0 0,V.b false],[R0 PCd
 (An PCd.den)])) (ifT (decide ((n+1)*48<=140737488355328)&&decide (n+1<=maxI)) (some (Ex.normal,[V.s s,V.ref 0 0 (n+(1 :
 Nat)),V.j (A6 s a.toNat).2.2.1],[R0 PCd (take n (drop 0 o)++(((A6 s a.toNat).1.1,(A6 s
 a.toNat).1.2.1,(A6 s a.toNat).1.2.2.1,(A6 s a.toNat).1.2.2.2.1,()),(A6 s a.toNat).2.1,())::An PCd.den)])))))) (some (Ex.exit
 0,[V.ref 0 0 n],[R0 PCd o]))):_):=by kernel_rfl
theorem LC (s:By):Bg prog (Aa [(57,.rd1 tfG)]) (Aa [(5,Iq)]) f41 [.s s] [] =
 ((ifB (decide ((↑s.length:Int)>(400:Int))) (some (V.tup [V.ref 0 0 0,V.b false],[R0 PCd (An PCd.den)])) (ifT (decide ((0:Int)<=(0:Int)
 /\ 0<=s.length/\s.length<=400/\0=0/\0<=0)) (ifB (rdL s (s.length-0) 0 (An PCd.den)).isSome
 (some (V.tup [V.ref 0 0 ((rdL s (s.length-0) 0 (An PCd.den)).getD (An Pl)).length,V.b true],[R0 PCd ((rdL s (s.length-(0 :
 Nat)) 0 (An PCd.den)).getD (An Pl))])) (some (V.tup [V.ref 0 0 0,V.b false],[R0 PCd (An PCd.den)]))))):_):=by kernel_rfl
theorem Ir (s:By) : ∀ (f f' a:Nat) (o:List Pl),s.length-a<=f->s.length-a<=f'->rdL s f a o=rdL s f' a o:=by
 intro f
 induction f with
 | zero=>
  intro f' a o h1 h2
  cases f' with
  | zero=>rfl
  | succ f'=>rw [rdL,rdL,if_neg (by omega),if_neg (by omega)]
 | succ f ih=>
  intro f' a o h1 h2
  cases f' with
  | zero=>rw [rdL,rdL,if_neg (by omega),if_neg (by omega)]
  | succ f'=>
   rw [rdL,rdL]
   by_cases q:a<s.length
   ·rw [if_pos q,if_pos q]
    by_cases q2:(A6 s a).2.2.2=true/\o.length≠40
    ·rw [if_pos q2,if_pos q2]
     have:=G6 q2.1
     exact ih f' _ _ (by omega) (by omega)
    ·rw [if_neg q2,if_neg q2]
   ·rw [if_neg q,if_neg q]
theorem LI {s:By} {a:Nat} {o:List Pl} (h:a<s.length) (h1:(A6 s a).2.2.2=true) (h2:o.length≠40):rdL s (s.length-a) a o=rdL s (s.length-(A6 s a).2.2.1.toNat) (A6 s a).2.2.1.toNat (o++[((A6 s a).1,(a:Int),())]):=by
 have e:s.length-a=(s.length-a-1)+1:=by omega
 have ht:=G6 h1
 rw [e,rdL,if_pos h,if_pos ⟨h1,h2⟩]
 exact Ir s _ _ _ _ (by omega) (by omega)
theorem JS {s:By} {a:Nat} {o:List Pl} (h:a<s.length) (h1:(A6 s a).2.2.2=false\/o.length=40):rdL s (s.length-a) a o=none:=by
 have e:s.length-a=(s.length-a-1)+1:=by omega
 rw [e,rdL,if_pos h,if_neg]
 rintro ⟨h2,h3⟩
 rcases h1 with h1 | h1
 ·rw [h1] at h2; cases h2
 ·exact h3 h1
theorem JR {s:By} {a:Nat} {o:List Pl} (h:s.length<=a):rdL s (s.length-a) a o=some o:=by
 have e:s.length-a=0:=by omega
 rw [e,rdL,if_neg (by omega)]
theorem LD (s:By) (hs:s.length<=400) : ∀ (j a:Nat) (o:List Pl),s.length-a<=j->a<=s.length->o.length<=a->∀ ex d,(Br.br (rdL s (s.length-a) a o).isSome (.leaf (.exit 0,([.ref 0 0 ((rdL s (s.length-a) a o).getD []).length],[R0 PCd ((rdL s (s.length-a) a o).getD [])]))) (.leaf (.ret,([.ref 0 0 0,.b false],[R0 PCd []]))):Br (Ex×Dt)).run=some (ex,d)->
  Runs prog (Aa [(57,.rd1 tfG)]) (Aa [(5,Iq)]) 0 (body f41 0) Iq ([.s s,.ref 0 0 o.length,.j (a:Int)],[R0 PCd o]) ex d:=by
 intro j
 induction j with
 | zero=>
  intro a o hj ha ho ex d h
  have hr:=GF s o.length a o
  rw [Ae (dcF (by omega))] at hr
  rw [JR (by omega)] at h
  have h8:=A8 (show (Br.leaf (.exit 0,([.ref 0 0 o.length],[R0 PCd o])):Br (Ex×Dt)).run=some (ex,d) from h)
  obtain ⟨rfl,rfl⟩:=Prod.mk.inj h8
  exact stp hr
 | succ j ih=>
  intro a o hj ha ho ex d h
  have hr:=GF s o.length a o
  have hM:=mxI
  by_cases q:a<s.length
  ·rw [Ah (dcT (by omega)),Ad (dcT (by omega)),ntN] at hr
   cases hk:(A6 s a).2.2.2 with
   | false=>
    rw [hk,Bool.not_false,BT] at hr
    rw [JS q (.inl hk)] at h
    have h8:=A8 (show (Br.leaf (.ret,([.ref 0 0 0,.b false],[R0 PCd []])):Br (Ex×Dt)).run=some (ex,d) from h)
    obtain ⟨rfl,rfl⟩:=Prod.mk.inj h8
    exact stp hr
   | true=>
    obtain ⟨t1,t2,t3,t4⟩:=G6 hk
    rw [hk,Bool.not_true,AI] at hr
    by_cases q2:o.length=40
    ·rw [Ah (by rw [q2]; rfl)] at hr
     rw [JS q (.inr q2)] at h
     have h8:=A8 (show (Br.leaf (.ret,([.ref 0 0 0,.b false],[R0 PCd []])):Br (Ex×Dt)).run=some (ex,d) from h)
     obtain ⟨rfl,rfl⟩:=Prod.mk.inj h8
     exact stp hr
    ·rw [Ae (by simpa using fun e=>q2 (by omega)),T2 (by omega),drop_zero,take_length,t4] at hr
     rw [LI q hk q2] at h
     obtain ⟨b,hb⟩:=eq_ofNat_of_zero_le (a:=(A6 s a).2.2.1) (by omega)
     rw [hb] at hr h t2 t3
     rw [ntN] at h
     have:=ih b (o++[((A6 s a).1,(a:Int),())]) (by omega) (by omega) (by simp; omega) ex d h
     rw [length_append] at this
     exact sts hr this
  ·rw [Ae (dcF (by omega))] at hr
   rw [JR (by omega)] at h
   have h8:=A8 (show (Br.leaf (.exit 0,([.ref 0 0 o.length],[R0 PCd o])):Br (Ex×Dt)).run=some (ex,d) from h)
   obtain ⟨rfl,rfl⟩:=Prod.mk.inj h8
   exact stp hr
theorem O1:Aq prog (Aa [(57,.rd1 tfG)]) (Aa [(5,Iq)]) 0 (f41.body.getD .skip):=by
 refine Ap (a:=body f41 0) (by kernel_rfl) fun d ex d' h=>?_
 unfold Iq at h
 dsimp only at h
 split at h
 ·rename_i s n a o
  obtain ⟨hc,hx⟩:=Af h
  clear h
  obtain ⟨h0,h1,h2,rfl,h4⟩:=of_decide_eq_true hc
  obtain ⟨a,rfl⟩:=eq_ofNat_of_zero_le h0
  simp only [ntN] at h1 h4 hx
  exact LD s h2 _ a o (Nat.le_refl _) h1 h4 ex d' hx
 ·cases h
theorem rdp:Ag prog 41 (Ent.rd1 Kz).F:=by
 refine fcC (kc func57 itf KnowsL.nil).knows (Λ:=(Aa [(5,Iq)])) func41 fun vs bs r hq=>?_
 unfold Ent.F Kz at hq
 dsimp only at hq
 split at hq
 ·rename_i s
  obtain ⟨hc,hx⟩:=Af hq
  refine ⟨O1,Eq.trans ?_ hx⟩
  rw [LC]
  unfold rdP
  by_cases q:s.length<=400
  ·rw [Ae (dcF (by omega)),if_pos q,Ad (dcT ⟨by omega,by omega,q,rfl,by omega⟩),sub_zero]
   simp only [A9]
   cases rdL s s.length 0 []<;>rfl
  ·rw [Ah (dcT (by omega)),if_neg q]; rfl
 ·cases hq
def Bv (ns:List Int) (i:Nat):Bool:=i==0||decide (ns.getD (i-1) 0<ns.getD i 0)
def Fc (ns:List Int):Bool:=(range ns.length).all (Bv ns)
def EJ (l:List Pl):List Int:=l.map fun x=>x.1.1
def CK (l:List WFd):List Int:=l.map fun x=>x.1
def Do (s:By):Option (List Pl):=match rdP s with | some l=>(if Fc (EJ l)=true then some l else none) | none=>none
def Io:LoopEnt:=⟨39,[4,15,16],[4],[2,3],fun
 | ([.ref 0 0 m,.j k,.j i],[R0 PCd o])=>.need (decide (0<=i/\i.toNat<=o.length/\m=o.length/\k=o.length/\o.length<=4000000000)) (.br (((range o.length).drop i.toNat).all (Bv (EJ o))) (.leaf (.exit 0,([.ref 0 0 o.length],[R0 PCd o]))) (.leaf (.ret,([.ref 0 0 0,.b false],[R0 PCd []]))))
 | _=>.no⟩
def Nm:Gm
 | [.s s],[]=>.need (decide (s.length<=4000000000)) (.leaf (.tup [.ref 0 0 ((Do s).getD []).length,.b (Do s).isSome],[R0 PCd ((Do s).getD [])]))
 | _,_=>.no
theorem GD (m:Nat) (k i:Int) (o:List Pl):A4 prog (Aa [(41,.rd1 Kz)]) (Aa [(5,Io)]) 0 (body f17 0) Io ([.ref 0 0 m,.j k,.j i],[R0 PCd o]) =
 ((ifB (decide (i<k)) (ifB (decide (i>0)) (ifT (decide (0<=i64.wrap (i-1))&&decide (i64.wrap (i-1)<(↑m:Int))) (Ax o[0 +
 (i64.wrap (i-1)).toNat]? fun z=>ifT (decide (0<=i)&&decide (i<(↑m:Int))) (Ax o[0+i.toNat]? fun z_1=>ifB (decide (z.1.1>=
 z_1.1.1)) (some (Ex.ret,[V.ref 0 0 0,V.b false],[R0 PCd (An PCd.den)])) (some (Ex.normal,[V.ref 0 0 m,V.j k,V.i .i64
 (i64.wrap (i+1))],[R0 PCd o]))))) (some (Ex.normal,[V.ref 0 0 m,V.j k,V.j (i64.wrap (i+1))],[R0 PCd o]))) (some (Ex.exit 0,[V.ref 0 0 m],[R0 PCd o]))):_):=by kernel_rfl
theorem L6 (s:By):Bg prog (Aa [(41,.rd1 Kz)]) (Aa [(5,Io)]) f17 [.s s] [] =
 ((ifT (decide (s.length<=4000000000)) (ifB (!(rdP s).isSome) (some (V.tup [V.ref 0 0 0,V.b false],[R0 PCd (An PCd.den)])) (ifT (decide
 ((0:Int)<=(0:Int)/\0<=((rdP s).getD (An Pl)).length/\((rdP s).getD (An Pl)).length=((rdP s).getD (An Pl)).length/\(↑((rdP s).getD (An
 Pl)).length:Int)=(↑((rdP s).getD (An Pl)).length:Int)/\((rdP s).getD (An Pl)).length<=4000000000)) (ifB ((drop 0 (range ((rdP
 s).getD (An Pl)).length)).all (Bv (EJ ((rdP s).getD (An Pl))))) (some (V.tup [V.ref 0 0 ((rdP s).getD (An Pl)).length,V.b true],[R0 PCd
 ((rdP s).getD (An Pl))])) (some (V.tup [V.ref 0 0 0,V.b false],[R0 PCd (An PCd.den)])))))):_):=by kernel_rfl
theorem F7 (o:List Pl) (hm:o.length<=4000000000) : ∀ (j i:Nat),i+j=o.length->∀ ex d,(Br.br (((range o.length).drop i).all (Bv (EJ o))) (.leaf (.exit 0,([.ref 0 0 o.length],[R0 PCd o]))) (.leaf (.ret,([.ref 0 0 0,.b false],[R0 PCd []]))):Br (Ex×Dt)).run=some (ex,d)->
  Runs prog (Aa [(41,.rd1 Kz)]) (Aa [(5,Io)]) 0 (body f17 0) Io ([.ref 0 0 o.length,.j (o.length:Int),.j (i:Int)],[R0 PCd o]) ex d
 | 0,i,hi,ex,d,h=>by
  have hr:=GD o.length o.length i o
  rw [Ae (dcF (by omega))] at hr
  rw [drop_eq_nil_of_le (by simp; omega)] at h
  have h8:=A8 (show (Br.leaf (.exit 0,([.ref 0 0 o.length],[R0 PCd o])):Br (Ex×Dt)).run=some (ex,d) from h)
  obtain ⟨rfl,rfl⟩:=Prod.mk.inj h8
  exact stp hr
 | j+1,i,hi,ex,d,h=>by
  have hl:i<o.length:=by omega
  have hM:=mxI
  have hr:=GD o.length o.length i o
  have hd:(range o.length).drop i=i::(range o.length).drop (i+1):=by
   rw [drop_eq_getElem_cons (by simpa using hl)]
   simp
  rw [hd,all_cons] at h
  rw [Ah (dcT (by omega)),AY (n:=i) (by omega)] at hr
  have gA : ∀ {x:Nat} (hx:x<o.length),(EJ o).getD x 0=o[x].1.1:=fun hx=>by unfold EJ; simp [hx]
  skip
  by_cases q0:i=0
  ·subst q0
   rw [Ae (dcF (by omega))] at hr
   have e0:Bv (EJ o) 0=true:=rfl
   rw [e0,Bool.true_and] at h
   exact sts hr (F7 o hm j 1 (by omega) ex d h)
  ·have hw:i64.wrap ((i:Int)-1)=((i-1:Nat):Int):=by rw [Ak (by omega) (by omega)]; omega
   have hl1:i-1<o.length:=by omega
   rw [Ah (dcT (by omega)),hw,T2 (by omega),ntN,zero_add,gtE hl1,A7] at hr
   rw [T2 (by omega),ntN,zero_add,gtE hl,A7] at hr
   have er:Bv (EJ o) i=decide (o[i-1].1.1<o[i].1.1):=by
    unfold Bv
    rw [gA hl1,gA hl,beq_false_of_ne q0,Bool.false_or]
   rw [er] at h
   by_cases q:o[i-1].1.1<o[i].1.1
   ·rw [Ae (dcF (by omega))] at hr
    rw [dcT q,Bool.true_and] at h
    exact sts hr (F7 o hm j (i+1) (by omega) ex d h)
   ·rw [Ah (dcT (by omega))] at hr
    rw [dcF q,Bool.false_and] at h
    have h8:=A8 (show (Br.leaf (.ret,([.ref 0 0 0,.b false],[R0 PCd []])):Br (Ex×Dt)).run=some (ex,d) from h)
    obtain ⟨rfl,rfl⟩:=Prod.mk.inj h8
    exact stp hr
theorem O0:Aq prog (Aa [(41,.rd1 Kz)]) (Aa [(5,Io)]) 0 (f17.body.getD .skip):=by
 refine Ap (a:=body f17 0) (by kernel_rfl) fun d ex d' h=>?_
 unfold Io at h
 dsimp only at h
 split at h
 ·rename_i m k i o
  obtain ⟨hc,hx⟩:=Af h
  clear h
  obtain ⟨h0,h1,rfl,rfl,h4⟩:=of_decide_eq_true hc
  obtain ⟨i,rfl⟩:=eq_ofNat_of_zero_le h0
  simp only [ntN] at h1 hx
  exact F7 o h4 (o.length-i) i (by omega) ex d' hx
 ·cases h
theorem JQ {s:By} : ∀ (f a:Nat) (o l:List Pl),o.length<=40->rdL s f a o=some l->l.length<=40
 | 0,a,o,l,h,e=>by
  rw [rdL] at e
  split at e
  ·cases e
  ·cases e; exact h
 | f+1,a,o,l,h,e=>by
  rw [rdL] at e
  split at e
  ·split at e
   ·rename_i h2
    exact JQ f _ _ l (by have:=h2.2; simp; omega) e
   ·cases e
  ·cases e; exact h
theorem JP {s:By} {l:List Pl} (h:rdP s=some l):l.length<=40/\s.length<=400:=by
 unfold rdP at h
 split at h
 ·rename_i h1
  exact ⟨JQ _ _ _ l (by simp) h,h1⟩
 ·cases h
theorem ris:Ag prog 17 (Ent.rd1 Nm).F:=by
 refine fcC (kc func41 rdp KnowsL.nil).knows (Λ:=(Aa [(5,Io)])) func17 fun vs bs r hq=>?_
 unfold Ent.F Nm at hq
 dsimp only at hq
 split at hq
 ·rename_i s
  obtain ⟨hc,hx⟩:=Af hq
  refine ⟨O0,Eq.trans ?_ hx⟩
  rw [L6,Ad hc]
  unfold Do
  cases e:rdP s with
  | none=>rfl
  | some l=>
   have hl:=(JP e).1
   dsimp only [isSome_some,getD_some]
   rw [Bool.not_true,AI,Ad (dcT ⟨by omega,by omega,rfl,rfl,by omega⟩),drop_zero]
   unfold Fc
   rw [show (EJ l).length=l.length by unfold EJ; simp]
   cases (range l.length).all (Bv (EJ l))<;>rfl
 ·cases hq
def rdF (s:By):Nat->Nat->List WFd->Option (List WFd)
 | 0,a,o=>if a<s.length then none else some o
 | f+1,a,o=>if a<s.length then (if (A6 s a).2.2.2=true/\o.length≠40 then rdF s f (A6 s a).2.2.1.toNat (o++[(A6 s a).1]) else none) else some o
def EI (s:By):Option (List WFd):=rdF s s.length 0 []
def Cn (s:By):Option (List WFd):=if s.length<=400 then EI s else none
def AR (s:By):Option (List WFd):=match Cn s with | some l=>(if Fc (CK l)=true then some l else none) | none=>none
def Fd:LoopEnt:=⟨76,[0,4,5],[4],[2,3],fun
 | ([.s s,.ref 0 0 n,.j a],[R0 FCd o])=>.need (decide (0<=a/\a.toNat<=s.length/\s.length<=4000000000/\n=o.length/\o.length<=a.toNat)) (.br (rdF s (s.length-a.toNat) a.toNat o).isSome (.leaf (.exit 0,([.ref 0 0 ((rdF s (s.length-a.toNat) a.toNat o).getD []).length],[R0 FCd ((rdF s (s.length-a.toNat) a.toNat o).getD [])]))) (.leaf (.ret,([.ref 0 0 0,.b false],[R0 FCd []]))))
 | _=>.no⟩
def O3:Gm
 | [.s s],[]=>.need (decide (s.length<=4000000000)) (.leaf (.tup [.ref 0 0 ((EI s).getD []).length,.b (EI s).isSome],[R0 FCd ((EI s).getD [])]))
 | _,_=>.no
def Ky:Gm
 | [.s s],[]=>.need (decide (s.length<=4000000000)) (.leaf (.tup [.ref 0 0 ((Cn s).getD []).length,.b (Cn s).isSome],[R0 FCd ((Cn s).getD [])]))
 | _,_=>.no
def JM:Gm
 | [.s s],[]=>.need (decide (s.length<=4000000000)) (.leaf (.tup [.ref 0 0 ((AR s).getD []).length,.b (AR s).isSome],[R0 FCd ((AR s).getD [])]))
 | _,_=>.no
def EV:LoopEnt:=⟨37,[4,15,16,17],[4],[2,3],fun
 | ([.ref 0 0 m,.ref 0 0 m2,.j k,.j i],[R0 FCd o])=>.need (decide (0<=i/\i.toNat<=o.length/\m=o.length/\m2=o.length/\k=o.length/\o.length<=4000000000)) (.br (((range o.length).drop i.toNat).all (Bv (CK o))) (.leaf (.exit 0,([.ref 0 0 o.length],[R0 FCd o]))) (.leaf (.ret,([.ref 0 0 0,.b false],[R0 FCd []]))))
 | _=>.no⟩
abbrev KY:FuncId->Option Ent:=Aa [(80,.rd1 Om),(81,.rd1 Jh),(49,.rd1 BZ)]
theorem GG (s:By) (n:Nat) (a:Int) (o:List WFd):A4 prog KY (Aa [(3,Fd)]) 0 (body f70 0) Fd ([.s s,.ref 0 0 n,.j a],[R0 FCd o]) =
 ((shr (take n (drop 0 o)) fun sh3=>shr (take ((i64.wrap (AZ (AZ a.toNat (Ac s a.toNat)).toNat (Ac s (AZ a.toNat (Ac s
 a.toNat)).toNat)+Cp (Ac s (AZ a.toNat (Ac s a.toNat)).toNat))).toNat-(AZ (AZ a.toNat (Ac s a.toNat)).toNat (Ac s (AZ a.toNat (Ac s
 a.toNat)).toNat)).toNat) (drop (AZ (AZ a.toNat (Ac s a.toNat)).toNat (Ac s (AZ a.toNat (Ac s a.toNat)).toNat)).toNat s)) fun sh2=>shr (An FCd.den)
 fun sh1=>ifB (decide (a<(↑s.length:Int))) (ifT (decide (0<=a/\s.length<=4000000000/\a<=4000000000)) (ifB (!Bm (Ac s a.toNat)) (some (Ex.ret,[V.ref
 0 0 0,V.b false],[R0 FCd sh1])) (ifT (decide ((0:Int)<=AZ a.toNat (Ac s a.toNat)/\s.length<=4000000000/\AZ a.toNat (Ac s
 a.toNat)<=(4000000000:Int))) (ifB (!Bm (Ac s (AZ a.toNat (Ac s a.toNat)).toNat)) (some (Ex.ret,[V.ref 0 0 0,V.b false],[R0 FCd sh1]))
 (ifB ((Cp (Ac s a.toNat)).tmod (8:Int)==(0:Int)) (ifT (decide ((0:Int)<=Cp (Ac s (AZ a.toNat (Ac s a.toNat)).toNat)/\Cp (Ac s (AZ a.toNat
 (Ac s a.toNat)).toNat)<=(1000000000000:Int))) (ifB (!As (i64.wrap ((Cp (Ac s a.toNat)).tdiv (8:Int)),(Cp (Ac s a.toNat)).tmod (8:Int),unf
 (Cp (Ac s (AZ a.toNat (Ac s a.toNat)).toNat)),An UInt8,())) (some (Ex.ret,[V.ref 0 0 0,V.b false],[R0 FCd sh1])) (ifB ((↑n:Int)==
 (40:Int)) (some (Ex.ret,[V.ref 0 0 0,V.b false],[R0 FCd sh1])) (ifT (decide ((n+1)*40<=140737488355328)&&decide
 (n+1<=maxI)) (some (Ex.normal,[V.s s,V.ref 0 0 (n+1),V.j (AZ (AZ a.toNat (Ac s a.toNat)).toNat (Ac s (AZ a.toNat (Ac s
 a.toNat)).toNat))],[R0 FCd (sh3++(i64.wrap ((Cp (Ac s a.toNat)).tdiv (8:Int)),(Cp (Ac s a.toNat)).tmod (8:Int),unf (Cp
 (Ac s (AZ a.toNat (Ac s a.toNat)).toNat)),An UInt8,())::sh1)])))))) (ifB (decide (Cp (Ac s (AZ a.toNat (Ac s a.toNat)).toNat)>i64.wrap
 ((↑s.length:Int)-AZ (AZ a.toNat (Ac s a.toNat)).toNat (Ac s (AZ a.toNat (Ac s a.toNat)).toNat)))) (some (Ex.ret,[V.ref 0 0 0,V.b false],[R0 FCd sh1])) (ifT (decide ((0:Int)<=AZ (AZ a.toNat (Ac s a.toNat)).toNat (Ac s (AZ a.toNat (Ac s a.toNat)).toNat))&&decide (AZ (AZ a.toNat
 (Ac s a.toNat)).toNat (Ac s (AZ a.toNat (Ac s a.toNat)).toNat)<=i64.wrap (AZ (AZ a.toNat (Ac s a.toNat)).toNat (Ac s (AZ a.toNat (Ac s
 a.toNat)).toNat)+Cp (Ac s (AZ a.toNat (Ac s a.toNat)).toNat)))&&decide (i64.wrap (AZ (AZ a.toNat (Ac s a.toNat)).toNat (Ac s (AZ a.toNat
 (Ac s a.toNat)).toNat)+Cp (Ac s (AZ a.toNat (Ac s a.toNat)).toNat))<=(↑s.length:Int))) (ifB (!As (i64.wrap ((Cp (Ac s a.toNat)).tdiv (8 :
 Int)),(Cp (Ac s a.toNat)).tmod (8:Int),(0:Int),sh2,())) (some (Ex.ret,[V.ref 0 0 0,V.b false],[R0 FCd sh1])) (ifB ((↑n:Int)==(40
 : Int)) (some (Ex.ret,[V.ref 0 0 0,V.b false],[R0 FCd sh1])) (ifT (decide ((n+1)*40<=140737488355328)&&decide (n
 + 1<=maxI)) (some (Ex.normal,[V.s s,V.ref 0 0 (n+1),V.j (i64.wrap (AZ (AZ a.toNat (Ac s a.toNat)).toNat (Ac s (AZ a.toNat
 (Ac s a.toNat)).toNat)+Cp (Ac s (AZ a.toNat (Ac s a.toNat)).toNat)))],[R0 FCd (sh3++(i64.wrap ((Cp (Ac s a.toNat)).tdiv
 (8:Int)),(Cp (Ac s a.toNat)).tmod (8:Int),(0:Int),sh2,())::sh1)])))))))))))) (some (Ex.exit 0,[V.ref 0 0 n],[R0 FCd o]))):_):=by kernel_rfl
theorem LF (s:By):Bg prog KY (Aa [(3,Fd)]) f70 [.s s] [] =
 ((ifT (decide ((0:Int)<=(0:Int)/\0<=s.length/\s.length<=4000000000/\0=0/\0<=0)) (ifB (rdF s (s.length-(0 :
 Nat)) 0 (An FCd.den)).isSome (some (V.tup [V.ref 0 0 ((rdF s (s.length-0) 0 (An FCd.den)).getD (An WFd)).length,V.b true],[R0 FCd ((rdF s (s.length-0) 0 (An FCd.den)).getD (An WFd))])) (some (V.tup [V.ref 0 0 0,V.b false],[R0 FCd (An
 FCd.den)])))):_):=by kernel_rfl
theorem Fn (s:By) : ∀ (f a:Nat) (o:List Pl),rdF s f a (o.map (·.1))=(rdL s f a o).map (fun l=>l.map (·.1))
 | 0,a,o=>by
  rw [rdF,rdL]
  split<;>rfl
 | f+1,a,o=>by
  rw [rdF,rdL,length_map]
  split
  ·split
   ·have:=Fn s f (A6 s a).2.2.1.toNat (o++[((A6 s a).1,(a:Int),())])
    rw [List.map_append] at this
    exact this
   ·rfl
  ·rfl
theorem LK (s:By) : ∀ (f f' a:Nat) (o:List WFd),s.length-a<=f->s.length-a<=f'->rdF s f a o=rdF s f' a o:=by
 intro f f' a o h1 h2
 have e:o=(o.map (fun x=>((x,0,()):Pl))).map (·.1):=by rw [map_map]; exact (map_id' o).symm
 rw [e,Fn,Fn,Ir s f f' a _ h1 h2]
theorem LJ {s:By} {a:Nat} {o:List WFd} (h:a<s.length) (h1:(A6 s a).2.2.2=true) (h2:o.length≠40):rdF s (s.length-a) a o=rdF s (s.length-(A6 s a).2.2.1.toNat) (A6 s a).2.2.1.toNat (o++[(A6 s a).1]):=by
 have e:s.length-a=(s.length-a-1)+1:=by omega
 have ht:=G6 h1
 rw [e,rdF,if_pos h,if_pos ⟨h1,h2⟩]
 exact LK s _ _ _ _ (by omega) (by omega)
theorem Np {s:By} {a:Nat} {o:List WFd} (h:a<s.length) (h1:(A6 s a).2.2.2=false\/o.length=40):rdF s (s.length-a) a o=none:=by
 have e:s.length-a=(s.length-a-1)+1:=by omega
 rw [e,rdF,if_pos h,if_neg]
 rintro ⟨h2,h3⟩
 rcases h1 with h1 | h1
 ·rw [h1] at h2; cases h2
 ·exact h3 h1
theorem No {s:By} {a:Nat} {o:List WFd} (h:s.length<=a):rdF s (s.length-a) a o=some o:=by
 have e:s.length-a=0:=by omega
 rw [e,rdF,if_neg (by omega)]
theorem Lj {a:Nat} {x:Option (Nat×Nat×Bool)} (h:Bm x=true):Cp x=Az x/\AZ a x=Ao a x:=by
 match x,h with
 | some (n,k,true),_=>exact ⟨rfl,rfl⟩
theorem Nc {s:By} {a:Nat} (h:Bm (Ac s a)=false):(A6 s a).2.2.2=false:=by
 unfold A6; dsimp only; rw [if_pos h]
theorem Nb {s:By} {a:Nat} (h:Bm (Ac s a)=true) (h2:Bm (Ac s (Ao a (Ac s a)).toNat)=false):(A6 s a).2.2.2=false:=by
 unfold A6; dsimp only; rw [if_neg (by rw [h]; simp)]
 split
 ·have:(Be s (Ao a (Ac s a)).toNat).2.2=false:=by unfold Be; dsimp only; rw [if_neg (fun hh=>by rw [h2] at hh; cases hh.1)]
  dsimp only
  rw [this]; rfl
 ·dsimp only
  rw [h2]; rfl
theorem Oo {s:By} {a:Nat} (h:Bm (Ac s a)=true) (h2:Bm (Ac s (Ao a (Ac s a)).toNat)=true) (h0:Az (Ac s a) % 8=0):A6 s a=((Az (Ac s a) / 8,0,unf (Az (Ac s (Ao a (Ac s a)).toNat)),[],()),(a:Int),Ao (Ao a (Ac s a)).toNat (Ac s (Ao a (Ac s a)).toNat),As (Az (Ac s a) / 8,0,unf (Az (Ac s (Ao a (Ac s a)).toNat)),[],())):=by
 unfold A6; dsimp only; rw [if_neg (by rw [h]; simp),if_neg (by omega),h0,h2,Bool.true_and]
theorem Oq {s:By} {a:Nat} (h:Bm (Ac s a)=true) (h2:Bm (Ac s (Ao a (Ac s a)).toNat)=true) (h0:Az (Ac s a) % 8=2) (hn:Az (Ac s (Ao a (Ac s a)).toNat)<=s.length-Ao (Ao a (Ac s a)).toNat (Ac s (Ao a (Ac s a)).toNat)) :
  A6 s a=((Az (Ac s a) / 8,2,0,(s.drop (Ao (Ao a (Ac s a)).toNat (Ac s (Ao a (Ac s a)).toNat)).toNat).take (Az (Ac s (Ao a (Ac s a)).toNat)).toNat,()),(a:Int),Ao (Ao a (Ac s a)).toNat (Ac s (Ao a (Ac s a)).toNat)+Az (Ac s (Ao a (Ac s a)).toNat),As (Az (Ac s a) / 8,2,0,(s.drop (Ao (Ao a (Ac s a)).toNat (Ac s (Ao a (Ac s a)).toNat)).toNat).take (Az (Ac s (Ao a (Ac s a)).toNat)).toNat,())):=by
 have:Be s (Ao a (Ac s a)).toNat=((s.drop (Ao (Ao a (Ac s a)).toNat (Ac s (Ao a (Ac s a)).toNat)).toNat).take (Az (Ac s (Ao a (Ac s a)).toNat)).toNat,Ao (Ao a (Ac s a)).toNat (Ac s (Ao a (Ac s a)).toNat)+Az (Ac s (Ao a (Ac s a)).toNat),true):=by unfold Be; dsimp only; rw [if_pos ⟨h2,hn⟩]
 unfold A6; dsimp only; rw [if_neg (by rw [h]; simp),if_pos h0,this,Bool.true_and]
theorem MZ {s:By} {a:Nat} (h:Bm (Ac s a)=true) (h0:Az (Ac s a) % 8≠0) (hn : ¬Az (Ac s (Ao a (Ac s a)).toNat)<=s.length-Ao (Ao a (Ac s a)).toNat (Ac s (Ao a (Ac s a)).toNat)):(A6 s a).2.2.2=false:=by
 unfold A6; dsimp only; rw [if_neg (by rw [h]; simp)]
 split
 ·have:(Be s (Ao a (Ac s a)).toNat).2.2=false:=by unfold Be; dsimp only; rw [if_neg (fun hh=>hn hh.2)]
  dsimp only
  rw [this]; rfl
 ·rename_i h2
  dsimp only
  unfold As
  dsimp only
  rw [if_neg h0,if_neg h2,Bool.and_false,Bool.and_false]
theorem Na {s:By} {a:Nat} (h:Bm (Ac s a)=true) (h0:Az (Ac s a) % 8≠0) (h2:Az (Ac s a) % 8≠2):(A6 s a).2.2.2=false/\∀ x y z,As (x,Az (Ac s a) % 8,y,z,())=false:=by
 have hb : ∀ x y z,As (x,Az (Ac s a) % 8,y,z,())=false:=fun x y z=>by
  unfold As
  dsimp only
  rw [if_neg h0,if_neg h2,Bool.and_false]
 refine ⟨?_,hb⟩
 unfold A6; dsimp only; rw [if_neg (by rw [h]; simp),if_neg h2]
 dsimp only
 rw [hb,Bool.and_false]
theorem Nn (s:By) (a:Nat) (o:List WFd) (hs:s.length<=4000000000) (ha:a<s.length) (ho:o.length<=a) :
  A4 prog KY (Aa [(3,Fd)]) 0 (body f70 0) Fd ([.s s,.ref 0 0 o.length,.j (a:Int)],[R0 FCd o])=if (A6 s a).2.2.2=true/\o.length≠40 then some (.normal,([.s s,.ref 0 0 (o++[(A6 s a).1]).length,.j (A6 s a).2.2.1],[R0 FCd (o++[(A6 s a).1])])) else some (.ret,([.ref 0 0 0,.b false],[R0 FCd []])):=by
 rw [GG]
 dsimp only [shr]
 have hM:=mxI
 obtain ⟨⟨u1,u2⟩,u3,u4⟩:=DX s a
 rw [Ah (dcT (by omega)),Ad (dcT (by omega)),ntN]
 cases hk:Bm (Ac s a) with
 | false=>rw [Bool.not_false,BT,if_neg (fun h=>by rw [Nc hk] at h; cases h.1)]
 | true=>
  obtain ⟨e1,e2⟩:=Lj (a:=a) hk
  rw [Bool.not_true,AI]
  simp only [e1,e2]
  obtain ⟨⟨v1,v2⟩,v3,v4⟩:=DX s (Ao a (Ac s a)).toNat
  rw [Ad (dcT ⟨u3,hs,by omega⟩)]
  cases hk2:Bm (Ac s (Ao a (Ac s a)).toNat) with
  | false=>rw [Bool.not_false,BT,if_neg (fun h=>by rw [Nb hk hk2] at h; cases h.1)]
  | true=>
   obtain ⟨e3,e4⟩:=Lj (a:=(Ao a (Ac s a)).toNat) hk2
   rw [Bool.not_true,AI]
   have m1:tdiv (Az (Ac s a)) 8=Az (Ac s a) / 8:=Int.tdiv_eq_ediv_of_nonneg u1
   have m2:tmod (Az (Ac s a)) 8=Az (Ac s a) % 8:=Int.tmod_eq_emod_of_nonneg u1
   have m3:i64.wrap (Az (Ac s a) / 8)=Az (Ac s a) / 8:=Ak (by omega) (by omega)
   have m4:i64.wrap ((s.length:Int)-Ao (Ao a (Ac s a)).toNat (Ac s (Ao a (Ac s a)).toNat))=(s.length:Int)-Ao (Ao a (Ac s a)).toNat (Ac s (Ao a (Ac s a)).toNat):=Ak (by omega) (by omega)
   have m5:i64.wrap (Ao (Ao a (Ac s a)).toNat (Ac s (Ao a (Ac s a)).toNat)+Az (Ac s (Ao a (Ac s a)).toNat))=Ao (Ao a (Ac s a)).toNat (Ac s (Ao a (Ac s a)).toNat)+Az (Ac s (Ao a (Ac s a)).toNat):=Ak (by omega) (by omega)
   simp only [e3,e4,m1,m2,m3,m4,m5,drop_zero,take_length,A9]
   have hlen:(decide ((o.length+1)*40<=140737488355328)&&decide (o.length+1<=maxI))=true:=by simp only [anE,dcE]; omega
   by_cases q0:Az (Ac s a) % 8=0
   ·rw [Ah (by simpa using q0),Ad (dcT ⟨v1,by omega⟩),q0]
    have ht:=Oo hk hk2 q0
    cases hf:As (Az (Ac s a) / 8,0,unf (Az (Ac s (Ao a (Ac s a)).toNat)),[],()) with
    | false=>rw [Bool.not_false,BT,if_neg (fun h=>by rw [ht] at h; have:=h.1; rw [hf] at this; cases this)]
    | true=>
     rw [Bool.not_true,AI]
     by_cases q2:o.length=40
     ·rw [Ah (by rw [q2]; rfl),if_neg (fun h=>h.2 q2)]
     ·rw [Ae (by simpa using fun e=>q2 (by omega)),Ad hlen,if_pos ⟨by rw [ht]; exact hf,q2⟩,ht,length_append]; rfl
   ·rw [Ae (by simpa using q0)]
    by_cases qn:Az (Ac s (Ao a (Ac s a)).toNat)<=s.length-Ao (Ao a (Ac s a)).toNat (Ac s (Ao a (Ac s a)).toNat)
    rotate_left
    ·rw [Ah (dcT (by omega)),if_neg (fun h=>by rw [MZ hk q0 qn] at h; cases h.1)]
    rw [Ae (dcF (by omega)),Ad (by simp only [anE,dcE]; omega)]
    have e5:(Ao (Ao a (Ac s a)).toNat (Ac s (Ao a (Ac s a)).toNat)+Az (Ac s (Ao a (Ac s a)).toNat)).toNat-(Ao (Ao a (Ac s a)).toNat (Ac s (Ao a (Ac s a)).toNat)).toNat=(Az (Ac s (Ao a (Ac s a)).toNat)).toNat:=by omega
    rw [e5]
    by_cases qk:Az (Ac s a) % 8=2
    rotate_left
    ·obtain ⟨b1,b2⟩:=Na hk q0 qk
     rw [b2,Bool.not_false,BT,if_neg (fun h=>by rw [b1] at h; cases h.1)]
    have ht:=Oq hk hk2 qk qn
    rw [qk]
    cases hf:As (Az (Ac s a) / 8,2,0,(s.drop (Ao (Ao a (Ac s a)).toNat (Ac s (Ao a (Ac s a)).toNat)).toNat).take (Az (Ac s (Ao a (Ac s a)).toNat)).toNat,()) with
    | false=>rw [Bool.not_false,BT,if_neg (fun h=>by rw [ht] at h; have:=h.1; rw [hf] at this; cases this)]
    | true=>
     rw [Bool.not_true,AI]
     by_cases q2:o.length=40
     ·rw [Ah (by rw [q2]; rfl),if_neg (fun h=>h.2 q2)]
     ·rw [Ae (by simpa using fun e=>q2 (by omega)),Ad hlen,if_pos ⟨by rw [ht]; exact hf,q2⟩,ht,length_append]; rfl
theorem LG (s:By) (hs:s.length<=4000000000) : ∀ (j a:Nat) (o:List WFd),s.length-a<=j->a<=s.length->o.length<=a->∀ ex d,(Br.br (rdF s (s.length-a) a o).isSome (.leaf (.exit 0,([.ref 0 0 ((rdF s (s.length-a) a o).getD []).length],[R0 FCd ((rdF s (s.length-a) a o).getD [])]))) (.leaf (.ret,([.ref 0 0 0,.b false],[R0 FCd []]))):Br (Ex×Dt)).run=some (ex,d)->
  Runs prog KY (Aa [(3,Fd)]) 0 (body f70 0) Fd ([.s s,.ref 0 0 o.length,.j (a:Int)],[R0 FCd o]) ex d:=by
 intro j
 have fin : ∀ (a:Nat) (o:List WFd),a=s.length->∀ ex d,(Br.br (rdF s (s.length-a) a o).isSome (.leaf (.exit 0,([.ref 0 0 ((rdF s (s.length-a) a o).getD []).length],[R0 FCd ((rdF s (s.length-a) a o).getD [])]))) (.leaf (.ret,([.ref 0 0 0,.b false],[R0 FCd []]))):Br (Ex×Dt)).run=some (ex,d)->Runs prog KY (Aa [(3,Fd)]) 0 (body f70 0) Fd ([.s s,.ref 0 0 o.length,.j (a:Int)],[R0 FCd o]) ex d:=fun a o ha ex d h=>by
  have hr:=GG s o.length a o
  dsimp only [shr] at hr
  rw [Ae (dcF (by omega))] at hr
  rw [No (by omega)] at h
  have h8:=A8 (show (Br.leaf (.exit 0,([.ref 0 0 o.length],[R0 FCd o])):Br (Ex×Dt)).run=some (ex,d) from h)
  obtain ⟨rfl,rfl⟩:=Prod.mk.inj h8
  exact stp hr
 induction j with
 | zero=>exact fun a o hj ha ho ex d h=>fin a o (by omega) ex d h
 | succ j ih=>
  intro a o hj ha ho ex d h
  by_cases q:a<s.length
  rotate_left
  ·exact fin a o (by omega) ex d h
  have hr:=Nn s a o hs q ho
  by_cases q2:(A6 s a).2.2.2=true/\o.length≠40
  ·obtain ⟨t1,t2,t3,t4⟩:=G6 q2.1
   rw [if_pos q2] at hr
   rw [LJ q q2.1 q2.2] at h
   obtain ⟨b,hb⟩:=eq_ofNat_of_zero_le (a:=(A6 s a).2.2.1) (by omega)
   rw [hb] at hr h t2 t3
   rw [ntN] at h
   exact sts hr (ih b (o++[(A6 s a).1]) (by omega) (by omega) (by simp; omega) ex d h)
  ·rw [if_neg q2] at hr
   rw [Np q (by
    cases e:(A6 s a).2.2.2 with
    | false=>exact .inl rfl
    | true=>exact .inr (by by_cases e2:o.length=40; exact e2; exact absurd ⟨e,e2⟩ q2))] at h
   have h8:=A8 (show (Br.leaf (.ret,([.ref 0 0 0,.b false],[R0 FCd []])):Br (Ex×Dt)).run=some (ex,d) from h)
   obtain ⟨rfl,rfl⟩:=Prod.mk.inj h8
   exact stp hr
theorem O2:Aq prog KY (Aa [(3,Fd)]) 0 (f70.body.getD .skip):=by
 refine Ap (a:=body f70 0) (by kernel_rfl) fun d ex d' h=>?_
 unfold Fd at h
 dsimp only at h
 split at h
 ·rename_i s n a o
  obtain ⟨hc,hx⟩:=Af h
  clear h
  obtain ⟨h0,h1,h2,rfl,h4⟩:=of_decide_eq_true hc
  obtain ⟨a,rfl⟩:=eq_ofNat_of_zero_le h0
  simp only [ntN] at h1 h4 hx
  exact LG s h2 _ a o (Nat.le_refl _) h1 h4 ex d' hx
 ·cases h
theorem rdf:Ag prog 70 (Ent.rd1 O3).F:=by
 refine fcC (kc func80 tvs (kc func81 PQ (kc func49 Jm KnowsL.nil))).knows (Λ:=(Aa [(3,Fd)])) func70 fun vs bs r hq=>?_
 unfold Ent.F O3 at hq
 dsimp only at hq
 split at hq
 ·rename_i s
  obtain ⟨hc,hx⟩:=Af hq
  have hc:=of_decide_eq_true hc
  refine ⟨O2,Eq.trans ?_ hx⟩
  rw [LF]
  unfold EI
  rw [Ad (dcT ⟨by omega,by omega,hc,rfl,by omega⟩),sub_zero]
  simp only [A9]
  cases rdF s s.length 0 []<;>rfl
 ·cases hq
theorem LB (s:By):Bg prog (Aa [(70,.rd1 O3)]) (Aa []) f47 [.s s] [] =
 ((ifB (decide ((↑s.length:Int)>(400:Int))) (some (V.tup [V.ref 0 0 0,V.b false],[R0 FCd (An FCd.den)])) (ifT (decide (s.length<=(4000000000
 : Nat))) (some (V.tup [V.ref 0 0 ((EI s).getD (An WFd)).length,V.b (EI s).isSome],[R0 FCd ((EI s).getD (An WFd))])))):_):=by kernel_rfl
theorem rdq:Ag prog 47 (Ent.rd1 Ky).F:=by
 refine fcC (kc func70 rdf KnowsL.nil).knows (Λ:=Aa []) func47 fun vs bs r hq=>?_
 unfold Ent.F Ky at hq
 dsimp only at hq
 split at hq
 ·rename_i s
  obtain ⟨hc,hx⟩:=Af hq
  refine ⟨Am _,Eq.trans ?_ hx⟩
  rw [LB]
  unfold Cn
  by_cases q:s.length<=400
  ·rw [Ae (dcF (by omega)),if_pos q,Ad hc]; rfl
  ·rw [Ah (dcT (by omega)),if_neg q]; rfl
 ·cases hq
theorem F2 (m:Nat) (k i:Int) (o:List WFd):A4 prog (Aa [(47,.rd1 Ky)]) (Aa [(5,EV)]) 0 (body f25 0) EV ([.ref 0 0 m,.ref 0 0 m,.j k,.j i],[R0 FCd o]) =
 ((ifB (decide (i<k)) (ifT (decide (0<=i)&&decide (i<(↑m:Int))) (Ax o[0+i.toNat]? fun z=>ifB (decide (i>0)) (ifT (decide (0<=i64.wrap (i -
 1))&&decide (i64.wrap (i-1)<(↑m:Int))) (Ax o[0+(i64.wrap (i-1)).toNat]? fun z_1=>ifB (decide (z_1.1>=z.1)) (some (Ex.ret,
 [V.ref 0 0 0,V.b false],[R0 FCd (An FCd.den)])) (some (Ex.normal,[V.ref 0 0 m,V.ref 0 0 m,V.j k,V.j (i64.wrap (i+1))],
 [R0 FCd o])))) (some (Ex.normal,[V.ref 0 0 m,V.ref 0 0 m,V.j k,V.j (i64.wrap (i+1))],[R0 FCd o]))))
 (some (Ex.exit 0,[V.ref 0 0 m],[R0 FCd o]))):_):=by kernel_rfl
theorem Ku (s:By):Bg prog (Aa [(47,.rd1 Ky)]) (Aa [(5,EV)]) f25 [.s s] [] =
 ((ifT (decide (s.length<=4000000000)) (ifB (!(Cn s).isSome) (some (V.tup [V.ref 0 0 0,V.b false],[R0 FCd (An FCd.den)])) (ifT (decide
 ((0:Int)<=(0:Int)/\0<=((Cn s).getD (An WFd)).length/\((Cn s).getD (An WFd)).length=((Cn s).getD (An WFd)).length/\((Cn s).getD (An
 WFd)).length=((Cn s).getD (An WFd)).length/\(↑((Cn s).getD (An WFd)).length:Int)=(↑((Cn s).getD (An WFd)).length:Int)/\((Cn s).getD (An
 WFd)).length<=4000000000)) (ifB ((drop 0 (range ((Cn s).getD (An WFd)).length)).all (Bv (CK ((Cn s).getD (An WFd))))) (some (V.tup
 [V.ref 0 0 ((Cn s).getD (An WFd)).length,V.b true],[R0 FCd ((Cn s).getD (An WFd))])) (some (V.tup [V.ref 0 0 0,V.b false],[R0 FCd (An FCd.den)])))))):_):=by kernel_rfl
theorem EE (o:List WFd) (hm:o.length<=4000000000) : ∀ (j i:Nat),i+j=o.length->∀ ex d,(Br.br (((range o.length).drop i).all (Bv (CK o))) (.leaf (.exit 0,([.ref 0 0 o.length],[R0 FCd o]))) (.leaf (.ret,([.ref 0 0 0,.b false],[R0 FCd []]))):Br (Ex×Dt)).run=some (ex,d)->
  Runs prog (Aa [(47,.rd1 Ky)]) (Aa [(5,EV)]) 0 (body f25 0) EV ([.ref 0 0 o.length,.ref 0 0 o.length,.j (o.length:Int),.j (i:Int)],[R0 FCd o]) ex d
 | 0,i,hi,ex,d,h=>by
  have hr:=F2 o.length o.length i o
  rw [Ae (dcF (by omega))] at hr
  rw [drop_eq_nil_of_le (by simp; omega)] at h
  have h8:=A8 (show (Br.leaf (.exit 0,([.ref 0 0 o.length],[R0 FCd o])):Br (Ex×Dt)).run=some (ex,d) from h)
  obtain ⟨rfl,rfl⟩:=Prod.mk.inj h8
  exact stp hr
 | j+1,i,hi,ex,d,h=>by
  have hl:i<o.length:=by omega
  have hM:=mxI
  have hr:=F2 o.length o.length i o
  have hd:(range o.length).drop i=i::(range o.length).drop (i+1):=by
   rw [drop_eq_getElem_cons (by simpa using hl)]
   simp
  rw [hd,all_cons] at h
  rw [Ah (dcT (by omega)),AY (n:=i) (by omega)] at hr
  have gA : ∀ {x:Nat} (hx:x<o.length),(CK o).getD x 0=o[x].1:=fun hx=>by unfold CK; simp [hx]
  rw [T2 (by omega),ntN,zero_add,gtE hl,A7] at hr
  by_cases q0:i=0
  ·subst q0
   rw [Ae (dcF (by omega))] at hr
   have e0:Bv (CK o) 0=true:=rfl
   rw [e0,Bool.true_and] at h
   exact sts hr (EE o hm j 1 (by omega) ex d h)
  ·have hw:i64.wrap ((i:Int)-1)=((i-1:Nat):Int):=by rw [Ak (by omega) (by omega)]; omega
   have hl1:i-1<o.length:=by omega
   rw [Ah (dcT (by omega)),hw,T2 (by omega),ntN,zero_add,gtE hl1,A7] at hr
   skip
   have er:Bv (CK o) i=decide (o[i-1].1<o[i].1):=by
    unfold Bv
    rw [gA hl1,gA hl,beq_false_of_ne q0,Bool.false_or]
   rw [er] at h
   by_cases q:o[i-1].1<o[i].1
   ·rw [Ae (dcF (by omega))] at hr
    rw [dcT q,Bool.true_and] at h
    exact sts hr (EE o hm j (i+1) (by omega) ex d h)
   ·rw [Ah (dcT (by omega))] at hr
    rw [dcF q,Bool.false_and] at h
    have h8:=A8 (show (Br.leaf (.ret,([.ref 0 0 0,.b false],[R0 FCd []])):Br (Ex×Dt)).run=some (ex,d) from h)
    obtain ⟨rfl,rfl⟩:=Prod.mk.inj h8
    exact stp hr
theorem Nj:Aq prog (Aa [(47,.rd1 Ky)]) (Aa [(5,EV)]) 0 (f25.body.getD .skip):=by
 refine Ap (a:=body f25 0) (by kernel_rfl) fun d ex d' h=>?_
 unfold EV at h
 dsimp only at h
 split at h
 ·rename_i m m2 k i o
  obtain ⟨hc,hx⟩:=Af h
  clear h
  obtain ⟨h0,h1,rfl,rfl,rfl,h4⟩:=of_decide_eq_true hc
  obtain ⟨i,rfl⟩:=eq_ofNat_of_zero_le h0
  simp only [ntN] at h1 hx
  exact EE o h4 (o.length-i) i (by omega) ex d' hx
 ·cases h
theorem LH (s:By):Cn s=(rdP s).map (fun l=>l.map (·.1)):=by
 unfold Cn rdP EI
 split
 ·exact Fn s s.length 0 []
 ·rfl
theorem DK (s:By):AR s=(Do s).map (fun l=>l.map (·.1)):=by
 unfold AR Do
 rw [LH]
 cases rdP s with
 | none=>rfl
 | some l=>
  dsimp only [Option.map_some]
  have e:CK (l.map (·.1))=EJ l:=by unfold CK EJ; rw [map_map]; rfl
  rw [e]
  split<;>rfl
theorem NU:Ag prog 25 (Ent.rd1 JM).F:=by
 refine fcC (kc func47 rdq KnowsL.nil).knows (Λ:=(Aa [(5,EV)])) func25 fun vs bs r hq=>?_
 unfold Ent.F JM at hq
 dsimp only at hq
 split at hq
 ·rename_i s
  obtain ⟨hc,hx⟩:=Af hq
  refine ⟨Nj,Eq.trans ?_ hx⟩
  rw [Ku,Ad hc]
  unfold AR
  cases e:Cn s with
  | none=>rfl
  | some l=>
   have hl:l.length<=40:=by
    rw [LH] at e
    obtain ⟨w,h1,rfl⟩:=Option.map_eq_some_iff.1 e
    rw [length_map]; exact (JP h1).1
   dsimp only [isSome_some,getD_some]
   rw [Bool.not_true,AI,Ad (dcT ⟨by omega,by omega,rfl,rfl,rfl,by omega⟩),drop_zero]
   unfold Fc
   rw [show (CK l).length=l.length by unfold CK; simp]
   cases (range l.length).all (Bv (CK l))<;>rfl
 ·cases hq
def AN:Nat->Nat->By×Nat
 | 0,n=>([],n)
 | f+1,n=>if 128<=n then (UInt8.ofNat (n % 128+128)::(AN f (n / 128)).1,(AN f (n / 128)).2) else ([],n)
def vbs (n:Nat):By:=(AN 10 n).1++[UInt8.ofNat (AN 10 n).2]
def fol (n:Int):Int:=if n<0 then -2*n-1 else 2*n
def svE:LoopEnt:=⟨22,[0,3],[0,3],[],fun
 | ([.j n,.s s],[])=>.need (decide (0<=n/\n<=1000000000000/\s.length<=1000)) (.leaf (.exit 0,([.j ((AN 10 n.toNat).2:Int),.s (s++(AN 10 n.toNat).1)],[])))
 | _=>.no⟩
def Oj:Gm
 | [.j n],[]=>.need (decide (0<=n/\n<=1000000000000)) (.leaf (.s (vbs n.toNat),[]))
 | _,_=>.no
def KG:Gm
 | [.j n],[]=>.need (decide (-1000000000000<=n/\n<=1000000000000)) (.leaf (.j (fol n),[]))
 | _,_=>.no
theorem Ib (n:Int) (s:By):A4 prog (Aa []) (Aa [(2,svE)]) 0 (body f50 0) svE ([.j n,.s s],[]) =
 ((ifB (decide (n>=128)) (ifT (decide (s.length+1<=9223372036854775807)) (some (Ex.normal,[V.j (n.fdiv ((2:Int) ^ min 7
 i64.bits)),V.s (s++List.map (fun n=>UInt8.ofNat n.toNat) (IntKind.u8.wrap (↑(BitVec.ofInt IntKind.u8.bits (IntKind.u8.wrap (i64.wrap (↑(BitVec.ofInt
 i64.bits n &&& BitVec.ofInt i64.bits (127:Int)).toNat:Int))) ||| BitVec.ofInt IntKind.u8.bits (128:Int)).toNat:Int)::An (Cd.int .u8).den))],
 []))) (some (Ex.exit 0,[V.j n,V.s s],[]))):_):=by kernel_rfl
theorem Ng (n:Int):AL prog (Aa []) (Aa [(2,svE)]) f50 [.j n] [] =
 ((ifT (decide (0<=n/\n<=1000000000000/\0<=1000)) (ifT (decide ((An UInt8++(AN 10 n.toNat).1).length+1<=(9223372036854775807 :
 Nat))) (some (V.s (An UInt8++(AN 10 n.toNat).1++List.map (fun n=>UInt8.ofNat n.toNat) (IntKind.u8.wrap (↑(AN 10 n.toNat).2:Int)::An
 (Cd.int .u8).den)),[])))):_):=by kernel_rfl
theorem P8 (n:Nat):i64.wrap ((BitVec.ofInt i64.bits (n:Int) &&& BitVec.ofInt i64.bits (127:Int)).toNat:Int)=((n % 128:Nat):Int):=by
 have e:(BitVec.ofInt i64.bits (n:Int) &&& BitVec.ofInt i64.bits (127:Int)).toNat=n % 128:=by
  show (BitVec.ofInt 64 (n:Int) &&& BitVec.ofInt 64 ((127:Nat):Int)).toNat=n % 128
  rw [BitVec.toNat_and,BitVec.ofInt_natCast,BitVec.ofInt_natCast,BitVec.toNat_ofNat,BitVec.toNat_ofNat,show 127 % 2 ^ 64=2 ^ 7-1 by decide,Nat.and_two_pow_sub_one_eq_mod]
  show n % 18446744073709551616 % 128=n % 128
  omega
 rw [e,Ak (by omega) (by omega)]
theorem HR {n:Nat} (h:n<256):IntKind.u8.wrap (n:Int)=(n:Int):=by
 unfold IntKind.wrap
 simp [IntKind.bits,IntKind.signed]
 omega
theorem P4 (x:Nat) (hx:x<128):IntKind.u8.wrap ((BitVec.ofInt IntKind.u8.bits (x:Int) ||| BitVec.ofInt IntKind.u8.bits (128:Int)).toNat:Int)=((x+128:Nat):Int):=by
 have e:(BitVec.ofInt IntKind.u8.bits (x:Int) ||| BitVec.ofInt IntKind.u8.bits (128:Int)).toNat=x+128:=by
  show (BitVec.ofInt 8 (x:Int) ||| BitVec.ofInt 8 ((128:Nat):Int)).toNat=_
  rw [BitVec.toNat_or,BitVec.ofInt_natCast,BitVec.ofInt_natCast,BitVec.toNat_ofNat,BitVec.toNat_ofNat,mod_eq_of_lt (by omega),mod_eq_of_lt (by omega),Nat.or_comm,show (128:Nat)=2 ^ 7*1 by decide,<-Nat.two_pow_add_eq_or_of_lt (by omega) 1]
  omega
 rw [e,HR (by omega)]
theorem Fl : ∀ (f n:Nat),n<128 ^ (f+1)->(AN f n).2<128/\(AN f n).1.length<=f
 | 0,n,h=>⟨by simpa [AN] using h,by simp [AN]⟩
 | f+1,n,h=>by
  rw [AN]
  split
  ·rw [pow_succ] at h
   have:=Fl f (n / 128) (div_lt_of_lt_mul (by omega))
   exact ⟨this.1,by simp; omega⟩
  ·exact ⟨by dsimp only; omega,by simp⟩
theorem BK {n:Nat} (h:n<=1000000000000):1<=(vbs n).length/\(vbs n).length<=11:=by
 have:=(Fl 10 n (by have:(128:Nat) ^ 11=151115727451828646838272:=(by decide); omega)).2
 unfold vbs
 rw [length_append,length_singleton]
 omega
theorem JG : ∀ (f n:Nat) (s:By),n<128 ^ f->f<=10->s.length<=1000+(10-f)->
  Runs prog (Aa []) (Aa [(2,svE)]) 0 (body f50 0) svE ([.j (n:Int),.s s],[]) (.exit 0) ([.j ((AN f n).2:Int),.s (s++(AN f n).1)],[])
 | 0,n,s,h,hf,hs=>by
  have:n=0:=by simpa using h
  subst this
  have hr:=Ib ((0:Nat):Int) s
  rw [Ae (dcF (by omega))] at hr
  rw [AN,append_nil]
  exact stp hr
 | f+1,n,s,h,hf,hs=>by
  have hr:=Ib (n:Int) s
  by_cases q:128<=n
  ·have hn:n<128 ^ 10:=Nat.lt_of_lt_of_le h (Nat.pow_le_pow_right (by omega) hf)
   have hn2:n<2 ^ 63\/2 ^ 63<=n:=by omega
   rw [Ah (dcT (by omega)),Ad (dcT (by omega)),P8 n,HR (n:=n % 128) (by omega),P4 (n % 128) (by omega)] at hr
   have e1:fdiv (n:Int) ((2:Int) ^ min 7 i64.bits)=((n / 128:Nat):Int):=by
    show fdiv (n:Int) ((128:Nat):Int)=_
    rw [Int.fdiv_eq_ediv_of_nonneg _ (by omega)]
    rfl
   rw [e1] at hr
   rw [pow_succ] at h
   have ih:=JG f (n / 128) (s++[UInt8.ofNat (n % 128+128)]) (div_lt_of_lt_mul (by omega)) (by omega) (by simp; omega)
   rw [AN,if_pos q]
   dsimp only
   rw [append_assoc] at ih
   exact sts hr ih
  ·rw [Ae (dcF (by omega))] at hr
   rw [AN,if_neg q,append_nil]
   exact stp hr
theorem Pw:Aq prog (Aa []) (Aa [(2,svE)]) 0 (f50.body.getD .skip):=by
 refine Ap (a:=body f50 0) (by kernel_rfl) fun d ex d' h=>?_
 unfold svE at h
 dsimp only at h
 split at h
 ·rename_i n s
  obtain ⟨hc,hx⟩:=Af h
  clear h
  obtain ⟨h0,h1,h2⟩:=of_decide_eq_true hc
  obtain ⟨n,rfl⟩:=eq_ofNat_of_zero_le h0
  rw [ntN] at hx
  obtain ⟨rfl,rfl⟩:=lfP hx
  exact JG 10 n s (by have:(128:Nat) ^ 10=1180591620717411303424:=(by decide); omega) (by omega) (by omega)
 ·cases h
theorem sv:Ag prog 50 (Ent.rd1 Oj).F:=by
 refine fcK KnowsL.nil.knows (Λ:=Aa [(2,svE)]) func50 fun vs bs r hq=>?_
 unfold Ent.F Oj at hq
 dsimp only at hq
 split at hq
 ·rename_i n
  obtain ⟨hc,hx⟩:=Af hq
  obtain ⟨h0,h1⟩:=of_decide_eq_true hc
  obtain ⟨n,rfl⟩:=eq_ofNat_of_zero_le h0
  rw [ntN] at hx
  refine ⟨Pw,Eq.trans ?_ hx⟩
  have hl:=Fl 10 n (by have:(128:Nat) ^ 11=151115727451828646838272:=(by decide); omega)
  rw [Ng,Ad (dcT ⟨h0,h1,by simp⟩),ntN]
  simp only [A9,nil_append]
  rw [Ad (dcT (by omega)),HR (by omega)]
  rfl
 ·cases hq
theorem Kv (n:Int):AL prog (Aa []) (Aa []) f51 [.j n] [] =
 ((ifB (decide (n>=0)) (some (V.j (i64.wrap (2*n)),[])) (some (V.j (i64.wrap (i64.wrap ((-2:Int)*n)-(1:Int))),[]))):_):=by kernel_rfl
theorem L0 (n:Int) (hc : -1000000000000<=n/\n<=1000000000000):AL prog (Aa []) (Aa []) f51 [.j n] []=(.leaf (.j (fol n),[]):Br (V×List (Option Blk))).run:=by
 rw [Kv]
 unfold fol
 by_cases q:n<0
 ·rw [Ae (dcF (by omega)),if_pos q,Ak (n:=-2*n) (by omega) (by omega),Ak (by omega) (by omega)]; rfl
 ·rw [Ah (dcT (by omega)),if_neg q,Ak (by omega) (by omega)]; rfl
theorem P0:Ag prog 51 (Ent.rd1 KG).F:=by
 refine fcK KnowsL.nil.knows (Λ:=Aa []) func51 fun vs bs r' hq=>?_
 unfold Ent.F KG at hq
 dsimp only at hq
 split at hq
 ·rename_i n
  obtain ⟨hc,hx⟩:=Af hq
  exact ⟨Am _,(L0 n (of_decide_eq_true hc)).trans hx⟩
 ·cases hq
def u8 (s:By):List Int:=s.map fun z=>((z.toNat:Nat):Int)
def Dr:LoopEnt:=⟨20,[0,1],[0,1],[],fun
 | ([.ref 0 0 m,.j n],[R0 (.int .u8) o])=>.need (decide (m=o.length/\0<=n/\n<=1000000000000/\o.length<=1000000)) (.br (decide (n<128)) (.leaf (.exit 0,([.ref 0 0 m,.j n],[R0 (.int .u8) o]))) (.leaf (.exit 0,([.ref 1 0 (o++u8 (AN 10 n.toNat).1).length,.j ((AN 10 n.toNat).2:Int)],[none,R0 (.int .u8) (o++u8 (AN 10 n.toNat).1)]))))
 | _=>.no⟩
def Lc:Gm
 | [.ref 0 0 m,.j n],[.row false _ (.int .u8) o]=>.need (decide (m=o.length/\0<=n/\n<=1000000000000/\o.length<=1000000)) (.leaf (.ref 1 0 (o++u8 (vbs n.toNat)).length,[none,R0 (.int .u8) (o++u8 (vbs n.toNat))]))
 | _,_=>.no
theorem Pt (m:Nat) (n:Int) (o:List Int):A4 prog (Aa []) (Aa [(1,Dr)]) 1 (body f68 0) Dr ([.ref 0 0 m,.j n],[R0 (.int .u8) o]) =
 ((ifB (decide (n>=128)) (ifT (decide ((m+1)*1<=140737488355328)&&decide (m+1<=maxI)) (some (Ex.normal,[V.ref 1 0 (m+1),
 V.j (n.fdiv ((2:Int) ^ min 7 i64.bits))],[none,R0 (Cd.int .u8) (take m (drop 0 o)++IntKind.u8.wrap
 (↑(BitVec.ofInt IntKind.u8.bits (IntKind.u8.wrap n) ||| BitVec.ofInt IntKind.u8.bits (128:Int)).toNat:Int)::An (Cd.int .u8).den)]))) (some (Ex.exit 0,[V.ref 0 0
 m,V.j n],[R0 (Cd.int .u8) o]))):_):=by kernel_rfl
theorem NT (m:Nat) (n:Int) (o:List Int):A4 prog (Aa []) (Aa [(1,Dr)]) 1 (body f68 0) Dr ([.ref 1 0 m,.j n],[none,R0 (.int .u8) o]) =
 ((ifB (decide (n>=128)) (ifT (decide ((m+1)*1<=140737488355328)&&decide (m+1<=maxI)) (some (Ex.normal,[V.ref 1 0 (m+1),
 V.j (n.fdiv ((2:Int) ^ min 7 i64.bits))],[none,R0 (Cd.int .u8) (take m (drop 0 o)++IntKind.u8.wrap
 (↑(BitVec.ofInt IntKind.u8.bits (IntKind.u8.wrap n) ||| BitVec.ofInt IntKind.u8.bits (128:Int)).toNat:Int)::An (Cd.int .u8).den)]))) (some (Ex.exit 0,[V.ref 1 0
 m,V.j n],[none,R0 (Cd.int .u8) o]))):_):=by kernel_rfl
theorem Kr (m:Nat) (n:Int) (o:List Int) (nl:Option Bool):Bg prog (Aa []) (Aa [(1,Dr)]) f68 [.ref 0 0 m,.j n] [.row false nl (.int .u8) o] =
 ((ifT (decide (m=o.length/\0<=n/\n<=1000000000000/\o.length<=1000000)) (ifB (decide (n<128)) (ifT (decide ((m+1)*1<=(140737488355328 :
 Nat))&&decide (m+1<=maxI)) (some (V.ref 1 0 (m+1),[none,R0 (Cd.int .u8) (take m (drop 0 o)++
 IntKind.u8.wrap n::An (Cd.int .u8).den)]))) (ifT (decide (((o++u8 (AN 10 n.toNat).1).length+1)*1<=140737488355328)&&
 decide ((o++u8 (AN 10 n.toNat).1).length+1<=maxI)) (some (V.ref 1 0 ((o++u8 (AN 10 n.toNat).1).length+1),[none,R0 (Cd.int .u8) (take (o++u8 (AN 10 n.toNat).1).length (drop 0 (o++u8 (AN 10 n.toNat).1))++
 IntKind.u8.wrap (↑(AN 10 n.toNat).2:Int)::An (Cd.int .u8).den)]))))):_):=by kernel_rfl
theorem JF (z:UInt8) (s:By):u8 (z::s)=((z.toNat:Nat):Int)::u8 s:=rfl
theorem Fv (a b:By):u8 (a++b)=u8 a++u8 b:=by unfold u8; rw [List.map_append]
theorem Hk (a:By):(u8 a).length=a.length:=by unfold u8; rw [length_map]
theorem Pr (n:Nat):IntKind.u8.wrap (n:Int)=((n % 256:Nat):Int):=by
 unfold IntKind.wrap
 simp [IntKind.bits,IntKind.signed]
theorem LP (n:Nat):IntKind.u8.wrap ((BitVec.ofInt IntKind.u8.bits (IntKind.u8.wrap (n:Int)) ||| BitVec.ofInt IntKind.u8.bits (128:Int)).toNat:Int)=(((UInt8.ofNat (n % 128+128)).toNat:Nat):Int):=by
 have key : ∀ x,x<256->(BitVec.ofNat 8 x ||| BitVec.ofNat 8 128).toNat=x % 128+128:=by decide
 have e:(BitVec.ofInt IntKind.u8.bits (IntKind.u8.wrap (n:Int)) ||| BitVec.ofInt IntKind.u8.bits (128:Int)).toNat=n % 128+128:=by
  rw [Pr]
  show (BitVec.ofInt 8 ((n % 256:Nat):Int) ||| BitVec.ofInt 8 ((128:Nat):Int)).toNat=_
  rw [BitVec.ofInt_natCast,BitVec.ofInt_natCast,key (n % 256) (by omega)]
  omega
 rw [e,HR (by omega)]
 have:(UInt8.ofNat (n % 128+128)).toNat=n % 128+128:=by
  rw [UInt8.toNat_ofNat']; omega
 rw [this]
theorem Ps {n:Nat} (h:n<128):IntKind.u8.wrap (n:Int)=(((UInt8.ofNat n).toNat:Nat):Int):=by
 rw [HR (by omega)]
 have:(UInt8.ofNat n).toNat=n:=by rw [UInt8.toNat_ofNat']; omega
 rw [this]
theorem Py (n:Nat):fdiv (n:Int) ((2:Int) ^ min 7 i64.bits)=((n / 128:Nat):Int):=by
 show fdiv (n:Int) ((128:Nat):Int)=_
 rw [Int.fdiv_eq_ediv_of_nonneg _ (by omega)]
 rfl
theorem DH {f n:Nat} (h:128<=n):AN (f+1) n=(UInt8.ofNat (n % 128+128)::(AN f (n / 128)).1,(AN f (n / 128)).2):=by rw [AN,if_pos h]
theorem Cj {f n:Nat} (h:n<128):AN f n=([],n):=by
 cases f with
 | zero=>rfl
 | succ f=>rw [AN,if_neg (by omega)]
theorem Fo (f n:Nat):(AN f n).1.length<=f:=by
 induction f generalizing n with
 | zero=>rw [AN]; exact Nat.le_refl _
 | succ f ih=>
  rw [AN]
  split
  ·have:=ih (n / 128)
   rw [length_cons]; omega
  ·exact zero_le _
theorem G3 : ∀ (f n:Nat) (o:List Int),n<128 ^ f->f<=10->o.length+f<=1000010->
  Runs prog (Aa []) (Aa [(1,Dr)]) 1 (body f68 0) Dr ([.ref 1 0 o.length,.j (n:Int)],[none,R0 (.int .u8) o]) (.exit 0) ([.ref 1 0 (o++u8 (AN f n).1).length,.j ((AN f n).2:Int)],[none,R0 (.int .u8) (o++u8 (AN f n).1)])
 | 0,n,o,h,hf,ho=>by
  have:n=0:=by simpa using h
  subst this
  have hr:=NT o.length ((0:Nat):Int) o
  rw [Ae (dcF (by omega))] at hr
  rw [AN,show u8 []=[] from rfl,append_nil]
  exact stp hr
 | f+1,n,o,h,hf,ho=>by
  have hM:=mxI
  have hr:=NT o.length (n:Int) o
  by_cases q:128<=n
  ·rw [Ah (dcT (by omega)),T2 (by omega),LP,Py,drop_zero,take_length] at hr
   rw [pow_succ] at h
   have ih:=G3 f (n / 128) (o++[(((UInt8.ofNat (n % 128+128)).toNat:Nat):Int)]) (div_lt_of_lt_mul (by omega)) (by omega) (by simp; omega)
   rw [length_append,length_singleton,append_assoc] at ih
   rw [DH q]
   dsimp only
   rw [JF]
   exact sts hr ih
  ·rw [Ae (dcF (by omega))] at hr
   rw [Cj (by omega),show u8 []=[] from rfl,append_nil]
   exact stp hr
theorem p10 {n:Nat} (h:(n:Int)<=1000000000000):n<128 ^ 10/\n / 128<128 ^ 9:=by
 have a:(128:Nat) ^ 10=1180591620717411303424:=by decide
 have b:(128:Nat) ^ 9=9223372036854775808:=by decide
 omega
theorem MW:Aq prog (Aa []) (Aa [(1,Dr)]) 1 (f68.body.getD .skip):=by
 refine Ap (a:=body f68 0) (by kernel_rfl) fun d ex d' h=>?_
 unfold Dr at h
 dsimp only at h
 split at h
 ·rename_i m n o
  obtain ⟨hc,hx⟩:=Af h
  clear h
  obtain ⟨rfl,h0,h1,h2⟩:=of_decide_eq_true hc
  obtain ⟨n,rfl⟩:=eq_ofNat_of_zero_le h0
  rw [ntN] at hx
  have hM:=mxI
  have hr:=Pt o.length (n:Int) o
  by_cases q:n<128
  ·rw [Ae (dcF (by omega))] at hr
   rw [PX (dcT (by omega))] at hx
   obtain ⟨rfl,rfl⟩:=lfP hx
   exact stp hr
  ·rw [Ah (dcT (by omega)),T2 (by omega),LP,Py,drop_zero,take_length] at hr
   rw [PY (dcF (by omega)),DH (by omega)] at hx
   obtain ⟨rfl,rfl⟩:=lfP hx
   have ih:=G3 9 (n / 128) (o++[(((UInt8.ofNat (n % 128+128)).toNat:Nat):Int)]) (p10 h1).2 (by omega) (by simp; omega)
   rw [length_append,length_singleton,append_assoc] at ih
   rw [JF]
   exact sts hr ih
 ·cases h
theorem Oi {n:Nat} (h:(n:Int)<=1000000000000):u8 (vbs n)=u8 (AN 10 n).1++[IntKind.u8.wrap ((AN 10 n).2:Int)]:=by
 have:=Fl 10 n (by have:=(p10 h).1; rw [pow_succ]; omega)
 unfold vbs
 rw [Fv,Ps this.1]; rfl
theorem Ld (m:Nat) (n:Int) (o:List Int) (nl:Option Bool) (hc:m=o.length/\0<=n/\n<=1000000000000/\o.length<=1000000):Bg prog (Aa []) (Aa [(1,Dr)]) f68 [.ref 0 0 m,.j n] [.row false nl (.int .u8) o]=some (.ref 1 0 (o++u8 (vbs n.toNat)).length,[none,R0 (.int .u8) (o++u8 (vbs n.toNat))]):=by
 rw [Kr,Ad (dcT hc)]
 obtain ⟨rfl,h0,h1,h2⟩:=hc
 obtain ⟨n,rfl⟩:=eq_ofNat_of_zero_le h0
 have hM:=mxI
 have hp:=Fo 10 n
 rw [ntN,Oi h1]
 by_cases q:n<128
 ·rw [Ah (dcT (by omega)),T2 (by omega),Cj q]
  simp only [drop_zero,take_length,A9,show u8 []=[] from rfl,nil_append,length_append,length_singleton]
 ·rw [Ae (dcF (by omega)),Ad (by simp only [anE,dcE,length_append,Hk]; omega)]
  simp only [drop_zero,take_length]
  simp only [A9,<-append_assoc,length_append,length_singleton]
theorem PB:Ag prog 68 (Ent.own Lc).F:=by
 refine fcC KnowsL.nil.knows (Λ:=(Aa [(1,Dr)])) func68 fun vs bs r hq=>?_
 unfold Ent.F Lc at hq
 dsimp only at hq
 split at hq
 ·rename_i m n nl o
  obtain ⟨hc,hx⟩:=Af hq
  exact ⟨MW,(Ld m n o nl (of_decide_eq_true hc)).trans hx⟩
 ·cases hq
theorem KE (n:Int):AL prog (Aa []) (Aa []) f69 [.j n] [] =
 ((ifB (decide (n<0)) (some (V.j (i64.wrap (i64.wrap ((-2:Int)*n)-(1:Int))),[])) (some (V.j (i64.wrap (2*n)),[]))):_):=by kernel_rfl
theorem Ms (n:Int) (hc : -1000000000000<=n/\n<=1000000000000):AL prog (Aa []) (Aa []) f69 [.j n] []=some (.j (fol n),[]):=by
 obtain ⟨h0,h1⟩:=hc
 rw [KE]
 unfold fol
 by_cases q:n<0
 ·rw [Ah (dcT q),if_pos q,Ak (n:=-2*n) (by omega) (by omega),Ak (by omega) (by omega)]
 ·rw [Ae (dcF q),if_neg q,Ak (by omega) (by omega)]
theorem PU:Ag prog 69 (Ent.rd1 KG).F:=by
 refine fcK KnowsL.nil.knows (Λ:=Aa []) func69 fun vs bs r hq=>?_
 unfold Ent.F KG at hq
 dsimp only at hq
 split at hq
 ·rename_i n
  obtain ⟨hc,hx⟩:=Af hq
  exact ⟨Am _,(Ms n (of_decide_eq_true hc)).trans hx⟩
 ·cases hq
def fb1 (f:WFd):By:=vbs (8*f.1+f.2.1).toNat++(if f.2.1=0 then vbs (fol f.2.2.1).toNat else vbs f.2.2.2.1.length++f.2.2.2.1)
def fbs (l:List WFd):By:=l.flatMap fb1
def Bp (f:WFd):Bool:=As f&&decide (f.2.2.2.1.length<=400)
def Fi (l:List WFd):Bool:=l.all Bp&&(decide (l.length<=40)&&decide ((fbs l).length<=400))
def OQ:Gm
 | [.sl FCd l],[]=>.need (decide (l.length<=100000)&&l.all Bp) (.leaf (.s (fbs l),[]))
 | _,_=>.no
def Gx:LoopEnt:=⟨41,[3,6,7,8],[3],[],fun
 | ([.s s,.sl FCd l,.j k,.j i],[])=>.need (decide (0<=i/\i.toNat<=l.length/\k=l.length/\l.length<=100000/\s.length<=1000*i.toNat)&&l.all Bp) (.leaf (.exit 0,([.s (s++fbs (l.drop i.toNat))],[])))
 | _=>.no⟩
def M3:Gm
 | [.sl FCd l],[]=>.leaf (.tup [.s (bif Fi l then fbs l else []),.b (Fi l)],[])
 | _,_=>.no
def KH:LoopEnt:=⟨32,[0,7,8,9],[0],[2,3],fun
 | ([.sl FCd l0,.sl FCd l,.j k,.j i],[])=>.need (decide (0<=i/\i.toNat<=l.length/\k=l.length/\l.length<=maxI)) (.br ((l.drop i.toNat).all Bp) (.leaf (.exit 0,([.sl FCd l0],[]))) (.leaf (.ret,([.s [],.b false],[]))))
 | _=>.no⟩
abbrev G2:FuncId->Option Ent:=Aa [(50,.rd1 Oj),(51,.rd1 KG)]
theorem GV (s:By) (l:List WFd) (k i:Int):A4 prog G2 (Aa [(3,Gx)]) 0 (body f29 0) Gx ([.s s,.sl FCd l,.j k,.j i],[]) =
 ((ifB (decide (i<k)) (ifT (decide (0<=i)&&decide (i<(↑l.length:Int))) (Ax l[i.toNat]? fun z=>ifT (decide (0<=i64.wrap (i64.wrap ((8:Int) *
 z.1)+z.2.1)/\i64.wrap (i64.wrap ((8:Int)*z.1)+z.2.1)<=(1000000000000:Int))) (ifT (decide (s.length+(vbs (i64.wrap
 (i64.wrap ((8:Int)*z.1)+z.2.1)).toNat).length<=9223372036854775807)) (ifB (z.2.1==(0:Int)) (ifT (decide ((-1000000000000:Int)<=
 z.2.2.1/\z.2.2.1<=(1000000000000:Int))) (ifT (decide ((0:Int)<=fol z.2.2.1/\fol z.2.2.1<=(1000000000000:Int))) (ifT (decide ((s++vbs
 (i64.wrap (i64.wrap ((8:Int)*z.1)+z.2.1)).toNat).length+(vbs (fol z.2.2.1).toNat).length<=9223372036854775807)) (some
 (Ex.normal,[V.s (s++vbs (i64.wrap (i64.wrap ((8:Int)*z.1)+z.2.1)).toNat++vbs (fol z.2.2.1).toNat),V.sl FCd l,V.j k,V.i .i64
 (i64.wrap (i+1))],[]))))) (ifT (decide (0<=(↑(List.length z.2.2.2.1):Int)/\(↑(List.length z.2.2.2.1):Int)<=(1000000000000:Int))) (ifT
 (decide ((vbs (↑(List.length z.2.2.2.1):Int).toNat).length+List.length z.2.2.2.1<=9223372036854775807)) (ifT (decide ((s++vbs
 (i64.wrap (i64.wrap ((8:Int)*z.1)+z.2.1)).toNat).length+(vbs (↑(List.length z.2.2.2.1):Int).toNat++z.2.2.2.1).length<=
 9223372036854775807)) (some (Ex.normal,[V.s (s++vbs (i64.wrap (i64.wrap ((8:Int)*z.1)+z.2.1)).toNat++(vbs (↑(List.length
 z.2.2.2.1):Int).toNat++z.2.2.2.1)),V.sl FCd l,V.j k,V.j (i64.wrap (i+1))],[]))))))))) (some (Ex.exit 0,[V.s s],[]))):_):=by kernel_rfl
theorem M4 (l:List WFd):AL prog G2 (Aa [(3,Gx)]) f29 [.sl FCd l] [] =
 ((ifT (decide ((0:Int)<=(0:Int)/\0<=l.length/\(↑l.length:Int)=(↑l.length:Int)/\l.length<=100000/\0<=0)&&l.all Bp)
 (some (V.s (An UInt8++fbs (drop 0 l)),[]))):_):=by kernel_rfl
abbrev Pp:FuncId->Option Ent:=Aa [(49,.rd1 BZ),(29,.rd1 OQ)]
theorem GU (l0 l:List WFd) (k i:Int):A4 prog Pp (Aa [(2,KH)]) 0 (body f38 0) KH ([.sl FCd l0,.sl FCd l,.j k,.j i],[]) =
 ((ifB (decide (i<k)) (ifT (decide (0<=i)&&decide (i<(↑l.length:Int))) (Ax l[i.toNat]? fun z=>ifB (!As (z.1,z.2.1,z.2.2.1,z.2.2.2.1,
 ())) (some (Ex.ret,[V.s (An UInt8),V.b false],[])) (ifB (decide ((↑(List.length z.2.2.2.1):Int)>(400:Int))) (some (Ex.ret,[V.s (An UInt8),V.b
 false],[])) (some (Ex.normal,[V.sl FCd l0,V.sl FCd l,V.j k,V.j (i64.wrap (i+1))],[]))))) (some (Ex.exit 0,[V.sl FCd l0],[]))):_):=by kernel_rfl
theorem M2 (l:List WFd):AL prog Pp (Aa [(2,KH)]) f38 [.sl FCd l] [] =
 ((ifT (decide ((0:Int)<=(0:Int)/\0<=l.length/\(↑l.length:Int)=(↑l.length:Int)/\l.length<=maxI)) (ifB ((drop 0 l).all Bp) (ifB (decide
 ((↑l.length:Int)>(40:Int))) (some (V.tup [V.s (An UInt8),V.b false],[])) (ifT (decide (l.length<=100000)&&l.all Bp) (ifB (decide ((↑(fbs l).length
 : Int)>(400:Int))) (some (V.tup [V.s (An UInt8),V.b false],[])) (some (V.tup [V.s (fbs l),V.b true],[]))))) (some (V.tup [V.s (An UInt8),V.b false],[])))):_):=by kernel_rfl
theorem Bs {f:WFd} (h:As f=true):(1<=f.1/\f.1<=30)/\((f.2.1=0/\CA f.2.2.1=true/\f.2.2.2.1=[])\/(f.2.1=2/\f.2.2.1=0)):=by
 unfold As at h
 simp only [anE,dcE] at h
 obtain ⟨h1,h2⟩:=h
 refine ⟨h1,?_⟩
 split at h2
 ·rename_i q
  simp only [anE,beq_iff_eq] at h2
  exact .inl ⟨q,h2.1,h2.2⟩
 ·split at h2
  ·rename_i q
   exact .inr ⟨q,by simpa using h2⟩
  ·cases h2
theorem CP {n:Int} (h:CA n=true) : -1000000000<=n/\n<=1000000000:=by
 unfold CA at h
 simpa only [anE,dcE] using h
theorem CR {n:Int} (h : -1000000000<=n/\n<=1000000000):0<=fol n/\fol n<=2000000000:=by
 unfold fol; split<;>omega
theorem Kk {f:WFd} (h:Bp f=true):(fb1 f).length<=500:=by
 unfold Bp at h
 rw [anE,dcE] at h
 obtain ⟨h1,h2⟩:=h
 obtain ⟨⟨a1,a2⟩,a3⟩:=Bs h1
 have b1:=BK (n:=(8*f.1+f.2.1).toNat) (by omega)
 unfold fb1
 rw [length_append]
 split
 ·rename_i q
  rcases a3 with ⟨_,c2,_⟩ | ⟨c1,_⟩
  ·have c3:=CR (CP c2)
   have b2:=BK (n:=(fol f.2.2.1).toNat) (by omega)
   omega
  ·omega
 ·have b2:=BK (n:=f.2.2.2.1.length) (by omega)
  rw [length_append]; omega
theorem B7 (f:WFd) (l:List WFd):fbs (f::l)=fb1 f++fbs l:=by unfold fbs; rw [List.flatMap_cons]
theorem N8 (s:By) (l:List WFd) (i:Nat) (hi:i<l.length) (hl:l.length<=100000) (hs:s.length<=1000*i) (hf:Bp l[i]=true) :
  A4 prog G2 (Aa [(3,Gx)]) 0 (body f29 0) Gx ([.s s,.sl FCd l,.j (l.length:Int),.j (i:Int)],[])=some (.normal,([.s (s++fb1 l[i]),.sl FCd l,.j (l.length:Int),.j ((i+1:Nat):Int)],[])):=by
 have hb:=Kk hf
 rw [GV]
 have hM:=mxI
 rw [Ah (dcT (by omega)),T2 (by omega),ntN,gtE hi,A7,AY (n:=i) (by omega)]
 generalize l[i]=z at *
 have hf0:=hf
 unfold Bp at hf
 rw [anE,dcE] at hf
 obtain ⟨h1,h2⟩:=hf
 obtain ⟨⟨a1,a2⟩,a3⟩:=Bs h1
 have e:i64.wrap (i64.wrap (8*z.1)+z.2.1)=8*z.1+z.2.1:=by
  rw [Ak (n:=8*z.1) (by omega) (by omega),Ak (by omega) (by omega)]
 have b1:=BK (n:=(8*z.1+z.2.1).toNat) (by omega)
 rw [e,Ad (dcT ⟨by omega,by omega⟩),Ad (dcT (by omega))]
 unfold fb1 at hb ⊢
 rcases a3 with ⟨c1,c2,c3⟩ | ⟨c1,c2⟩
 ·have c4:=CP c2
  have c5:=CR c4
  have b2:=BK (n:=(fol z.2.2.1).toNat) (by omega)
  rw [Ah (by rw [c1]; rfl),Ad (dcT ⟨by omega,by omega⟩),Ad (dcT ⟨by omega,by omega⟩),Ad (dcT (by rw [length_append]; omega)),if_pos c1,append_assoc]
 ·have b2:=BK (n:=z.2.2.2.1.length) (by omega)
  rw [Ae (by rw [c1]; rfl),ntN,Ad (dcT ⟨by omega,by omega⟩),Ad (dcT (by omega)),Ad (dcT (by rw [length_append,length_append]; omega)),if_neg (by omega),append_assoc]
theorem IJ (l:List WFd) (hl:l.length<=100000) (hf:l.all Bp=true) : ∀ (j i:Nat) (s:By),i+j=l.length->s.length<=1000*i->
  Runs prog G2 (Aa [(3,Gx)]) 0 (body f29 0) Gx ([.s s,.sl FCd l,.j (l.length:Int),.j (i:Int)],[]) (.exit 0) ([.s (s++fbs (l.drop i))],[])
 | 0,i,s,hi,hs=>by
  have hr:=GV s l l.length i
  rw [Ae (dcF (by omega))] at hr
  rw [drop_eq_nil_of_le (by omega),show fbs []=[] from rfl,append_nil]
  exact stp hr
 | j+1,i,s,hi,hs=>by
  have hlt:i<l.length:=by omega
  have hfi:=all_eq_true.1 hf _ (getElem_mem hlt)
  have hr:=N8 s l i hlt hl hs hfi
  have hb:=Kk hfi
  have ih:=IJ l hl hf j (i+1) (s++fb1 l[i]) (by omega) (by rw [length_append]; omega)
  rw [drop_eq_getElem_cons hlt,B7]
  rw [append_assoc] at ih
  exact sts hr ih
theorem OP:Aq prog G2 (Aa [(3,Gx)]) 0 (f29.body.getD .skip):=by
 refine Ap (a:=body f29 0) (by kernel_rfl) fun d ex d' h=>?_
 unfold Gx at h
 dsimp only at h
 split at h
 ·rename_i s l k i
  obtain ⟨hc,hx⟩:=Af h
  clear h
  rw [anE] at hc
  obtain ⟨hc,hf⟩:=hc
  obtain ⟨h0,h1,rfl,h3,h4⟩:=of_decide_eq_true hc
  obtain ⟨i,rfl⟩:=eq_ofNat_of_zero_le h0
  simp only [ntN] at h1 h4 hx
  obtain ⟨rfl,rfl⟩:=lfP hx
  exact IJ l h3 hf (l.length-i) i s (by omega) h4
 ·cases h
theorem PW:Ag prog 29 (Ent.rd1 OQ).F:=by
 refine fcK (kc func50 sv (kc func51 P0 KnowsL.nil)).knows (Λ:=(Aa [(3,Gx)])) func29 fun vs bs r hq=>?_
 unfold Ent.F OQ at hq
 dsimp only at hq
 split at hq
 ·rename_i l
  obtain ⟨hc,hx⟩:=Af hq
  rw [anE] at hc
  obtain ⟨h1,h2⟩:=hc
  have h1:=of_decide_eq_true h1
  refine ⟨OP,Eq.trans ?_ hx⟩
  rw [M4,Ad (by rw [h2,Bool.and_true]; exact dcT ⟨by omega,by omega,rfl,h1,by omega⟩)]
  rfl
 ·cases hq
theorem OO:Aq prog Pp (Aa [(2,KH)]) 0 (f38.body.getD .skip):=by
 refine Ap (a:=body f38 0) (by kernel_rfl) fun d ex d' h=>?_
 unfold KH at h
 dsimp only at h
 split at h
 ·rename_i l0 l k i
  obtain ⟨hc,hx⟩:=Af h
  clear h
  obtain ⟨h0,h1,rfl,h3⟩:=of_decide_eq_true hc
  obtain ⟨i,rfl⟩:=eq_ofNat_of_zero_le h0
  rw [ntN] at h1 hx
  refine Es (l:=l) Bp (fun i=>([.sl FCd l0,.sl FCd l,.j (l.length:Int),.j (i:Int)],[])) (ex:=(.exit 0,([.sl FCd l0],[]))) (rt:=(.ret,([.s [],.b false],[]))) (by simp) (by simp) (fun i hi=>?_) ?_ (l.length-i) i (by omega) ex d' hx
  ·have hr:=GU l0 l l.length i
   have hM:=mxI
   rw [Ah (dcT (by omega)),T2 (by omega),ntN,gtE hi,A7,AY (n:=i) (by omega)] at hr
   refine hr.trans ?_
   generalize l[i]=z
   obtain ⟨z0,z1,z2,z3,⟨⟩⟩:=z
   unfold Bp
   dsimp only
   cases As (z0,z1,z2,z3,()) with
   | false=>rfl
   | true=>
    by_cases q:z3.length<=400
    ·rw [Bool.not_true,AI,Ae (dcF (by omega)),dcT q]; rfl
    ·rw [Bool.not_true,AI,Ah (dcT (by omega)),dcF q]; rfl
  ·have hr:=GU l0 l l.length l.length
   rw [Ae (dcF (by omega))] at hr
   exact hr
 ·cases h
theorem fby:Ag prog 38 (Ent.rd1 M3).F:=by
 refine BI (kc func49 Jm (kc func29 PW KnowsL.nil)).knows (Λ:=(Aa [(2,KH)])) func38 (c:=f38.body.getD .skip) (by kernel_rfl) fun vs bs r hq hv hb=>?_
 unfold Ent.F M3 at hq
 dsimp only at hq
 split at hq
 ·rename_i l
  have hm:l.length<=maxI:=(hv (.sl FCd l) (by simp)).1
  refine ⟨OO,Eq.trans ?_ hq⟩
  rw [M2,Ad (dcT ⟨by omega,by omega,rfl,hm⟩),drop_zero]
  unfold Fi
  cases hf:l.all Bp with
  | false=>rfl
  | true=>
   rw [BT]
   by_cases q:l.length<=40
   ·rw [Ae (dcF (by omega)),Ad (by rw [dcT (by omega)]; rfl),dcT q]
    by_cases q2:(fbs l).length<=400
    ·rw [Ae (dcF (by omega)),dcT q2]; rfl
    ·rw [Ah (dcT (by omega)),dcF q2]; rfl
   ·rw [Ah (dcT (by omega)),dcF q]; rfl
 ·cases hq




abbrev Qb:=Int×By×Int×Bool×Unit





instance decNd0:DecidableEq (Int×Bool×Unit):=inferInstance
instance decNd:DecidableEq Nd:=inferInstance













mutual
def Od:Rose Qb->Int->Nat->List Nd
 | .node x ks,up,s=>(x.1,x.2.1,x.2.2.1,up,x.2.2.2.1,())::EY ks s (s+1)
def EY:RVL->Nat->Nat->List Nd
 | [],_,_=>[]
 | z::ks,s,p=>Od z s p++EY ks s (p+(Od z s p).length)
end
















def P3 (a b:WFd):Prop:=a.1<b.1







theorem Lb (n:Nat):(vbs n).length<=11:=by
 have:=Fo 10 n
 unfold vbs
 rw [length_append,length_singleton]; omega
def BV (f:WFd):Bool:=As f&&decide (f.2.2.2.1.length<=100000)
def NA:Gm
 | [.sl FCd l],[]=>.need (decide (l.length<=100000)&&l.all BV) (.leaf (.s (fbs l),[]))
 | _,_=>.no
def Gy:LoopEnt:=⟨41,[3,6,7,8],[3],[],fun
 | ([.s s,.sl FCd l,.j k,.j i],[])=>.need (decide (0<=i/\i.toNat<=l.length/\k=l.length/\l.length<=100000/\s.length<=200000*i.toNat)&&l.all BV) (.leaf (.exit 0,([.s (s++fbs (l.drop i.toNat))],[])))
 | _=>.no⟩
theorem GW (s:By) (l:List WFd) (k i:Int):A4 prog G2 (Aa [(3,Gy)]) 0 (body f29 0) Gy ([.s s,.sl FCd l,.j k,.j i],[]) =
 ((ifB (decide (i<k)) (ifT (decide (0<=i)&&decide (i<(↑l.length:Int))) (Ax l[i.toNat]? fun z=>ifT (decide (0<=i64.wrap (i64.wrap ((8:Int) *
 z.1)+z.2.1)/\i64.wrap (i64.wrap ((8:Int)*z.1)+z.2.1)<=(1000000000000:Int))) (ifT (decide (s.length+(vbs (i64.wrap
 (i64.wrap ((8:Int)*z.1)+z.2.1)).toNat).length<=9223372036854775807)) (ifB (z.2.1==(0:Int)) (ifT (decide ((-1000000000000:Int)<=
 z.2.2.1/\z.2.2.1<=(1000000000000:Int))) (ifT (decide ((0:Int)<=fol z.2.2.1/\fol z.2.2.1<=(1000000000000:Int))) (ifT (decide ((s++vbs
 (i64.wrap (i64.wrap ((8:Int)*z.1)+z.2.1)).toNat).length+(vbs (fol z.2.2.1).toNat).length<=9223372036854775807)) (some
 (Ex.normal,[V.s (s++vbs (i64.wrap (i64.wrap ((8:Int)*z.1)+z.2.1)).toNat++vbs (fol z.2.2.1).toNat),V.sl FCd l,V.j k,V.i .i64
 (i64.wrap (i+1))],[]))))) (ifT (decide (0<=(↑(List.length z.2.2.2.1):Int)/\(↑(List.length z.2.2.2.1):Int)<=(1000000000000:Int))) (ifT
 (decide ((vbs (↑(List.length z.2.2.2.1):Int).toNat).length+List.length z.2.2.2.1<=9223372036854775807)) (ifT (decide ((s++vbs
 (i64.wrap (i64.wrap ((8:Int)*z.1)+z.2.1)).toNat).length+(vbs (↑(List.length z.2.2.2.1):Int).toNat++z.2.2.2.1).length<=
 9223372036854775807)) (some (Ex.normal,[V.s (s++vbs (i64.wrap (i64.wrap ((8:Int)*z.1)+z.2.1)).toNat++(vbs (↑(List.length
 z.2.2.2.1):Int).toNat++z.2.2.2.1)),V.sl FCd l,V.j k,V.j (i64.wrap (i+1))],[]))))))))) (some (Ex.exit 0,[V.s s],[]))):_):=by kernel_rfl
theorem M5 (l:List WFd):AL prog G2 (Aa [(3,Gy)]) f29 [.sl FCd l] [] =
 ((ifT (decide ((0:Int)<=(0:Int)/\0<=l.length/\(↑l.length:Int)=(↑l.length:Int)/\l.length<=100000/\0<=0)&&l.all BV)
 (some (V.s (An UInt8++fbs (drop 0 l)),[]))):_):=by kernel_rfl
theorem Kj {f:WFd} (h:BV f=true):(fb1 f).length<=100100:=by
 unfold BV at h
 rw [anE,dcE] at h
 obtain ⟨h1,h2⟩:=h
 obtain ⟨⟨a1,a2⟩,a3⟩:=Bs h1
 have b1:=BK (n:=(8*f.1+f.2.1).toNat) (by omega)
 unfold fb1
 rw [length_append]
 split
 ·rename_i q
  rcases a3 with ⟨_,c2,_⟩ | ⟨c1,_⟩
  ·have c3:=CR (CP c2)
   have b2:=BK (n:=(fol f.2.2.1).toNat) (by omega)
   omega
  ·omega
 ·have b2:=BK (n:=f.2.2.2.1.length) (by omega)
  rw [length_append]; omega
theorem N9 (s:By) (l:List WFd) (i:Nat) (hi:i<l.length) (hl:l.length<=100000) (hs:s.length<=200000*i) (hf:BV l[i]=true) :
  A4 prog G2 (Aa [(3,Gy)]) 0 (body f29 0) Gy ([.s s,.sl FCd l,.j (l.length:Int),.j (i:Int)],[])=some (.normal,([.s (s++fb1 l[i]),.sl FCd l,.j (l.length:Int),.j ((i+1:Nat):Int)],[])):=by
 have hb:=Kj hf
 rw [GW]
 have hM:=mxI
 rw [Ah (dcT (by omega)),T2 (by omega),ntN,gtE hi,A7,AY (n:=i) (by omega)]
 generalize l[i]=z at *
 have hf0:=hf
 unfold BV at hf
 rw [anE,dcE] at hf
 obtain ⟨h1,h2⟩:=hf
 obtain ⟨⟨a1,a2⟩,a3⟩:=Bs h1
 have e:i64.wrap (i64.wrap (8*z.1)+z.2.1)=8*z.1+z.2.1:=by
  rw [Ak (n:=8*z.1) (by omega) (by omega),Ak (by omega) (by omega)]
 have b1:=BK (n:=(8*z.1+z.2.1).toNat) (by omega)
 rw [e,Ad (dcT ⟨by omega,by omega⟩),Ad (dcT (by omega))]
 unfold fb1 at hb ⊢
 rcases a3 with ⟨c1,c2,c3⟩ | ⟨c1,c2⟩
 ·have c4:=CP c2
  have c5:=CR c4
  have b2:=BK (n:=(fol z.2.2.1).toNat) (by omega)
  rw [Ah (by rw [c1]; rfl),Ad (dcT ⟨by omega,by omega⟩),Ad (dcT ⟨by omega,by omega⟩),Ad (dcT (by rw [length_append]; omega)),if_pos c1,append_assoc]
 ·have b2:=BK (n:=z.2.2.2.1.length) (by omega)
  rw [Ae (by rw [c1]; rfl),ntN,Ad (dcT ⟨by omega,by omega⟩),Ad (dcT (by omega)),Ad (dcT (by rw [length_append,length_append]; omega)),if_neg (by omega),append_assoc]
theorem IK (l:List WFd) (hl:l.length<=100000) (hf:l.all BV=true) : ∀ (j i:Nat) (s:By),i+j=l.length->s.length<=200000*i->
  Runs prog G2 (Aa [(3,Gy)]) 0 (body f29 0) Gy ([.s s,.sl FCd l,.j (l.length:Int),.j (i:Int)],[]) (.exit 0) ([.s (s++fbs (l.drop i))],[])
 | 0,i,s,hi,hs=>by
  have hr:=GW s l l.length i
  rw [Ae (dcF (by omega))] at hr
  rw [drop_eq_nil_of_le (by omega),show fbs []=[] from rfl,append_nil]
  exact stp hr
 | j+1,i,s,hi,hs=>by
  have hlt:i<l.length:=by omega
  have hfi:=all_eq_true.1 hf _ (getElem_mem hlt)
  have hr:=N9 s l i hlt hl hs hfi
  have hb:=Kj hfi
  have ih:=IK l hl hf j (i+1) (s++fb1 l[i]) (by omega) (by rw [length_append]; omega)
  rw [drop_eq_getElem_cons hlt,B7]
  rw [append_assoc] at ih
  exact sts hr ih
theorem OR:Aq prog G2 (Aa [(3,Gy)]) 0 (f29.body.getD .skip):=by
 refine Ap (a:=body f29 0) (by kernel_rfl) fun d ex d' h=>?_
 unfold Gy at h
 dsimp only at h
 split at h
 ·rename_i s l k i
  obtain ⟨hc,hx⟩:=Af h
  clear h
  rw [anE] at hc
  obtain ⟨hc,hf⟩:=hc
  obtain ⟨h0,h1,rfl,h3,h4⟩:=of_decide_eq_true hc
  obtain ⟨i,rfl⟩:=eq_ofNat_of_zero_le h0
  simp only [ntN] at h1 h4 hx
  obtain ⟨rfl,rfl⟩:=lfP hx
  exact IK l h3 hf (l.length-i) i s (by omega) h4
 ·cases h
theorem PH:Ag prog 29 (Ent.rd1 NA).F:=by
 refine fcK (kc func50 sv (kc func51 P0 KnowsL.nil)).knows (Λ:=(Aa [(3,Gy)])) func29 fun vs bs r hq=>?_
 unfold Ent.F NA at hq
 dsimp only at hq
 split at hq
 ·rename_i l
  obtain ⟨hc,hx⟩:=Af hq
  rw [anE] at hc
  obtain ⟨h1,h2⟩:=hc
  have h1:=of_decide_eq_true h1
  refine ⟨OR,Eq.trans ?_ hx⟩
  rw [M5,Ad (by rw [h2,Bool.and_true]; exact dcT ⟨by omega,by omega,rfl,h1,by omega⟩)]
  rfl
 ·cases hq















theorem GB {ns:List Int} (h : ∀ i,i<ns.length->Bv ns i=true):ns.Pairwise (· < ·):=by
 induction ns with
 | nil=>exact .nil
 | cons x ns ih=>
  have ih:=ih fun i hi=>by
   have:=h (i+1) (by simp; omega)
   unfold Bv at this ⊢
   cases i with
   | zero=>rfl
   | succ i=>simpa using this
  refine pairwise_cons.2 ⟨fun y hy=>?_,ih⟩
  cases ns with
  | nil=>cases hy
  | cons w ns=>
   have h1:=h 1 (by simp)
   unfold Bv at h1
   have h1:x<w:=by simpa using h1
   rcases mem_cons.1 hy with rfl | hy
   ·exact h1
   ·have:=(pairwise_cons.1 ih).1 y hy
    omega
theorem CC {l:List WFd} (h:Fc (CK l)=true):l.Pairwise P3:=by
 have h2:=GB (ns:=CK l) fun i hi=>all_eq_true.1 h i (mem_range.2 hi)
 unfold CK at h2
 have h3:l.Pairwise (fun a b=>a.1<b.1):=List.pairwise_map.1 h2
 exact h3











theorem Lg {g:Nat} {b:UInt8} {l:By} {i n:Nat}:tv (g+1) (b::l) i n=if b.toNat<128 then some (n+b.toNat % 128*2 ^ (7*i),i+1,decide (n+b.toNat % 128*2 ^ (7*i)<=2000000001)&&(decide (0<b.toNat)||decide (i=0))) else tv g l (i+1) (n+b.toNat % 128*2 ^ (7*i)):=rfl
theorem Lh : ∀ (f g n i acc:Nat) (post:By),n<128 ^ (f+1)->(AN f n).1.length<g->(0<n\/i=0)->
  tv g ((AN f n).1++UInt8.ofNat (AN f n).2::post) i acc=some (acc+n*2 ^ (7*i),i+(AN f n).1.length+1,decide (acc+n*2 ^ (7*i)<=2000000001))
 | 0,g,n,i,acc,post,h,hg,h0=>by
  have h:n<128:=by simpa using h
  obtain ⟨g,rfl⟩ : ∃ k,g=k+1:=⟨g-1,by omega⟩
  have hb:(UInt8.ofNat n).toNat=n:=by rw [UInt8.toNat_ofNat']; omega
  rw [AN,nil_append,Lg,hb,if_pos h,mod_eq_of_lt h]
  have:(decide (0<n)||decide (i=0))=true:=by simpa using h0
  rw [this,Bool.and_true]; rfl
 | f+1,g,n,i,acc,post,h,hg,h0=>by
  by_cases q:128<=n
  ·rw [DH q] at hg ⊢
   dsimp only at hg ⊢
   rw [length_cons] at hg
   obtain ⟨g,rfl⟩ : ∃ k,g=k+1:=⟨g-1,by omega⟩
   have hb:(UInt8.ofNat (n % 128+128)).toNat=n % 128+128:=by rw [UInt8.toNat_ofNat']; omega
   rw [List.cons_append,Lg,hb,if_neg (by omega),show (n % 128+128) % 128=n % 128 by omega]
   rw [pow_succ] at h
   rw [Lh f g (n / 128) (i+1) _ post (div_lt_of_lt_mul (by omega)) (by omega) (.inl (by omega))]
   have e:acc+n % 128*2 ^ (7*i)+n / 128*2 ^ (7*(i+1))=acc+n*2 ^ (7*i):=by
    have e1:2 ^ (7*(i+1))=128*2 ^ (7*i):=by rw [mul_add,pow_add]; omega
    have e2:n*2 ^ (7*i)=(n % 128)*2 ^ (7*i)+(n / 128)*(128*2 ^ (7*i)):=by
     rw [<-mul_assoc,<-add_mul]; congr 1; omega
    rw [e1,e2]; omega
   rw [e,length_cons]
   congr 3
   omega
  ·have h:n<128:=by omega
   rw [Cj h] at hg ⊢
   obtain ⟨g,rfl⟩ : ∃ k,g=k+1:=⟨g-1,by omega⟩
   have hb:(UInt8.ofNat n).toNat=n:=by rw [UInt8.toNat_ofNat']; omega
   rw [nil_append,Lg,hb,if_pos h,mod_eq_of_lt h]
   have:(decide (0<n)||decide (i=0))=true:=by simpa using h0
   rw [this,Bool.and_true]; rfl
theorem Cw : ∀ (f k n:Nat),n<128 ^ (f+1)->AN (f+k) n=AN f n
 | 0,k,n,h=>by
  rw [Cj (by simpa using h),Cj (by simpa using h)]
 | f+1,k,n,h=>by
  by_cases q:128<=n
  ·rw [show f+1+k=f+k+1 by omega,DH q,DH q]
   rw [pow_succ] at h
   rw [Cw f k (n / 128) (div_lt_of_lt_mul (by omega))]
  ·rw [Cj (by omega),Cj (by omega)]
theorem p5 {n:Nat} (h:n<=2000000001):n<128 ^ (4+1):=by
 have:(128:Nat) ^ (4+1)=34359738368:=by decide
 omega
theorem Kq {n:Nat} (h:n<=2000000001):vbs n=(AN 4 n).1++[UInt8.ofNat (AN 4 n).2]:=by
 unfold vbs
 rw [show 10=4+6 from rfl,Cw 4 6 n (p5 h)]
theorem Eo {n:Nat} (h:n<=2000000001) (pre post:By):Ac (pre++(vbs n++post)) pre.length=some (n,(vbs n).length,true):=by
 have hp:=Fo 4 n
 unfold Ac
 rw [List.drop_left,Kq h,append_assoc,List.singleton_append,Lh 4 5 n 0 0 post (p5 h) (by omega) (.inr rfl),mul_zero,pow_zero,mul_one,zero_add,dcT h,length_append,length_singleton,zero_add]
theorem MX {n:Int}:unf (fol n)=n:=by
 unfold unf fol
 split<;>split<;>omega
theorem Nf {s:By} {a n k:Nat} (h:Ac s a=some (n,k,true)) (hle:(n:Int)<=s.length-((a+k:Nat):Int)):Be s a=((s.drop (a+k)).take n,((a+k:Nat):Int)+(n:Int),true):=by
 unfold Be
 rw [h]
 exact if_pos ⟨rfl,hle⟩
theorem Fy {s:By} {a n k m j:Nat} (h:Ac s a=some (n,k,true)) (h2 : ¬(n:Int) % 8=2) (hu:Ac s (a+k)=some (m,j,true)):A6 s a=(((n:Int) / 8,(n:Int) % 8,unf (m:Int),[],()),(a:Int),((a+k+j:Nat):Int),As ((n:Int) / 8,(n:Int) % 8,unf (m:Int),[],())):=by
 unfold A6
 rw [h]
 refine (if_neg (by simp [Bm])).trans ((if_neg h2).trans ?_)
 show (((n:Int) / 8,(n:Int) % 8,unf (Az (Ac s (a+k))),[],()),(a:Int),Ao (a+k) (Ac s (a+k)),Bm (Ac s (a+k))&&As ((n:Int) / 8,(n:Int) % 8,unf (Az (Ac s (a+k))),[],()))=_
 rw [hu]; rfl
theorem Fz {s d:By} {a n k:Nat} {e:Int} (h:Ac s a=some (n,k,true)) (h2:(n:Int) % 8=2) (hu:Be s (a+k)=(d,e,true)):A6 s a=(((n:Int) / 8,2,0,d,()),(a:Int),e,As ((n:Int) / 8,2,0,d,())):=by
 unfold A6
 rw [h]
 refine (if_neg (by simp [Bm])).trans ((if_pos h2).trans ?_)
 show (((n:Int) / 8,2,0,(Be s (a+k)).1,()),(a:Int),(Be s (a+k)).2.1,(Be s (a+k)).2.2&&As ((n:Int) / 8,2,0,(Be s (a+k)).1,()))=_
 rw [hu]; rfl
theorem Lp {d:By} (h:d.length<=2000000001) (pre post:By):Be (pre++(vbs d.length++(d++post))) pre.length=(d,((pre.length+(vbs d.length).length+d.length:Nat):Int),true):=by
 have e:pre++(vbs d.length++(d++post))=(pre++vbs d.length)++(d++post):=by rw [append_assoc]
 have el:pre.length+(vbs d.length).length=(pre++vbs d.length).length:=by rw [length_append]
 rw [Nf (Eo h pre _) (by simp only [length_append]; push_cast; omega),e,el,List.drop_left,List.take_left]
 simp
theorem Lm {f:WFd} (hf:BV f=true) (pre post:By):A6 (pre++(fb1 f++post)) pre.length=(f,(pre.length:Int),((pre.length+(fb1 f).length:Nat):Int),true):=by
 obtain ⟨no,k,num,d,⟨⟩⟩:=f
 unfold BV at hf
 rw [anE,dcE] at hf
 obtain ⟨h1,h2⟩:=hf
 obtain ⟨⟨a1,a2⟩,a3⟩:=Bs h1
 have a1:1<=no:=a1
 have a2:no<=30:=a2
 have h2:d.length<=100000:=h2
 have a3:(k=0/\CA num=true/\d=[])\/(k=2/\num=0):=a3
 have e1:fb1 (no,k,num,d,())=vbs (8*no+k).toNat++(if k=0 then vbs (fol num).toNat else vbs d.length++d):=rfl
 rw [e1,append_assoc]
 have ea : ∀ x:By,pre++(vbs (8*no+k).toNat++x)=(pre++vbs (8*no+k).toNat)++x:=fun x=>by rw [append_assoc]
 have el:pre.length+(vbs (8*no+k).toNat).length=(pre++vbs (8*no+k).toNat).length:=by rw [length_append]
 rcases a3 with ⟨c1,c2,c3⟩ | ⟨c1,c2⟩
 ·have hr:=CR (CP c2)
  have hm:(fol num).toNat<=2000000001:=by omega
  have hu:=Eo hm (pre++vbs (8*no+k).toNat) post
  rw [if_pos c1]
  rw [<-ea,<-el] at hu
  rw [Fy (Eo (by omega) pre _) (by omega) hu,show (((fol num).toNat:Nat):Int)=fol num by omega,MX,show (((8*no+k).toNat:Nat):Int) / 8=no by omega,show (((8*no+k).toNat:Nat):Int) % 8=k by omega,<-c3,h1,length_append,add_assoc]
 ·have hu:=Lp (d:=d) (by omega) (pre++vbs (8*no+k).toNat) post
  rw [if_neg (by omega),append_assoc]
  rw [<-ea,<-el] at hu
  rw [Fz (Eo (by omega) pre _) (by omega) hu,show (((8*no+k).toNat:Nat):Int) / 8=no by omega,<-c1,<-c2,h1]
  simp only [length_append,add_assoc]

theorem NB (f:WFd):1<=(fb1 f).length:=by
 unfold fb1 vbs
 simp only [length_append,length_singleton]; omega
theorem JU : ∀ (l:List WFd) (pre:By) (o:List WFd) (g:Nat),l.all BV=true->o.length+l.length<=40->(fbs l).length<=g->rdF (pre++fbs l) g pre.length o=some (o++l)
 | [],pre,o,g,_,_,_=>by
  rw [show fbs []=[] from rfl,append_nil,append_nil]
  cases g<;>rw [rdF,if_neg (Nat.lt_irrefl _)]
 | f::l,pre,o,g,hf,ho,hg=>by
  rw [all_cons,anE] at hf
  rw [B7,length_append] at hg
  rw [length_cons] at ho
  have h1:=NB f
  obtain ⟨g,rfl⟩ : ∃ k,g=k+1:=⟨g-1,by omega⟩
  rw [B7]
  have ht:=Lm hf.1 pre (fbs l)
  have ih:=JU l (pre++fb1 f) (o++[f]) g hf.2 (by rw [length_append,length_singleton]; omega) (by omega)
  rw [append_assoc,length_append,append_assoc,List.singleton_append] at ih
  rw [rdF,if_pos (by simp only [length_append]; omega),ht,if_pos ⟨rfl,by omega⟩]
  exact ih
theorem JN {l:List WFd} (h:l.Pairwise fun a b=>a.1<b.1):Fc (CK l)=true:=by
 unfold Fc
 rw [all_eq_true]
 intro i hi
 have hi:=mem_range.1 hi
 unfold CK at hi ⊢
 rw [length_map] at hi
 unfold Bv
 cases i with
 | zero=>simp
 | succ i=>
  have:=List.pairwise_iff_getElem.1 h i (i+1) (by omega) hi (by omega)
  simp [List.getD_eq_getElem?_getD,List.getElem?_map,gtE hi,gtE (show i<l.length by omega)]
  omega
theorem In {l:List WFd} (hf:l.all BV=true) (hl:l.length<=40) (hb:(fbs l).length<=400) (hr:l.Pairwise fun a b=>a.1<b.1):AR (fbs l)=some l:=by
 have h:=JU l [] [] (fbs l).length hf (by simpa using hl) (Nat.le_refl _)
 unfold AR Cn EI
 rw [if_pos hb]
 rw [nil_append,nil_append] at h
 have h:rdF (fbs l) (fbs l).length 0 []=some l:=h
 rw [h]
 dsimp only
 rw [if_pos (JN hr)]



theorem HW : ∀ (f:Nat) (l:By) (i acc:Nat) {x k:Nat} {ok:Bool},tv f l i acc=some (x,k,ok)->∃ m,x=acc+m*2 ^ (7*i)/\i<k/\m<128 ^ (k-i)
 | 0,l,i,acc,x,k,ok,h=>by cases l<;>cases h
 | f+1,[],i,acc,x,k,ok,h=>by cases h
 | f+1,b::l,i,acc,x,k,ok,h=>by
  rw [Lg] at h
  split at h
  ·cases h
   refine ⟨b.toNat % 128,rfl,by omega,?_⟩
   rw [show i+1-i=1 by omega,Nat.pow_one]; omega
  ·obtain ⟨m,h1,h2,h3⟩:=HW f l (i+1) _ h
   refine ⟨b.toNat % 128+128*m,?_,by omega,?_⟩
   ·have e1:2 ^ (7*(i+1))=128*2 ^ (7*i):=by rw [mul_add,pow_add]; omega
    rw [h1,e1,add_mul,add_assoc]
    congr 2
    rw [mul_comm 128 m,mul_assoc]
   ·have e2:k-i=k-(i+1)+1:=by omega
    rw [e2,pow_succ]
    have:b.toNat % 128<128:=by omega
    omega
theorem Of {n k:Nat} (h:n<128 ^ (k+1)) (hk:k<=10):(vbs n).length<=k+1:=by
 have:=Fo k n
 unfold vbs
 rw [show 10=k+(10-k) by omega,Cw k (10-k) n h,length_append,length_singleton]; omega
theorem Fw {s:By} {a n k:Nat} {ok:Bool} (h:Ac s a=some (n,k,ok)):(vbs n).length<=k:=by
 obtain ⟨m,h1,h2,h3⟩:=HW _ _ _ _ h
 have h4:=(Cc h).2.2.2
 have h4:k<=5:=h4
 rw [mul_zero,pow_zero,mul_one,zero_add] at h1
 subst h1
 obtain ⟨k,rfl⟩ : ∃ j,k=j+1:=⟨k-1,by omega⟩
 exact Of (by simpa using h3) (by omega)
theorem Kh {n:Int} (h:0<=n):fol (unf n)=n:=by
 unfold unf fol
 split<;>split<;>omega
theorem Lo {s d:By} {a:Nat} {e:Int} (h:Be s a=(d,e,true)):(a:Int)+(vbs d.length).length+d.length<=e:=by
 unfold Be at h
 dsimp only at h
 split at h
 ·rename_i hc
  cases ht:Ac s a with
  | none=>rw [ht] at hc; cases hc.1
  | some x=>
   obtain ⟨n,k,ok⟩:=x
   have hl:=Fw ht
   have hfa:=(Cc ht).2.2.1
   have hfa:a+k<=s.length:=hfa
   rw [ht] at hc h
   have hc2:(n:Int)<=s.length-((a+k:Nat):Int):=hc.2
   have h:((s.drop (a+k)).take n,((a+k:Nat):Int)+(n:Int),true)=(d,e,true):=h
   simp only [Prod.mk.injEq,and_true] at h
   obtain ⟨rfl,rfl⟩:=h
   have e1:((s.drop (a+k)).take n).length=n:=by rw [List.length_take,length_drop]; omega
   rw [e1]; push_cast; omega
 ·simp only [Prod.mk.injEq] at h
  exact absurd h.2.2 (by simp)
theorem Ll {s:By} {a:Nat} (h:(A6 s a).2.2.2=true):(a:Int)+(fb1 (A6 s a).1).length<=(A6 s a).2.2.1:=by
 cases ht:Ac s a with
 | none=>
  unfold A6 at h
  rw [ht] at h
  cases h
 | some x=>
  obtain ⟨n,k,ok⟩:=x
  cases ok with
  | false=>
   unfold A6 at h
   rw [ht] at h
   cases h
  | true=>
   have hl:=Fw ht
   by_cases q:(n:Int) % 8=2
   ·cases hu:Be s (a+k) with
    | mk d y=>
     obtain ⟨e,ok⟩:=y
     cases ok with
     | false=>
      unfold A6 at h
      rw [ht] at h
      have h:(if (true:Bool)=false then (((0,0,0,[],()),0,0,false):WFd×Int×Int×Bool) else if (n:Int) % 8=2 then (((n:Int) / 8,2,0,(Be s (a+k)).1,()),(a:Int),(Be s (a+k)).2.1,(Be s (a+k)).2.2&&As ((n:Int) / 8,2,0,(Be s (a+k)).1,())) else _).2.2.2=true:=h
      rw [if_neg (by simp),if_pos q,hu] at h
      cases h
     | true=>
      have hb:=Lo hu
      rw [Fz ht q hu]
      have e1:fb1 ((n:Int) / 8,2,0,d,())=vbs (8*((n:Int) / 8)+2).toNat++(vbs d.length++d):=rfl
      show (a:Int)+(fb1 ((n:Int) / 8,2,0,d,())).length<=e
      rw [e1,show (8*((n:Int) / 8)+2).toNat=n by omega,length_append,length_append]
      push_cast at hb ⊢
      omega
   ·cases hu:Ac s (a+k) with
    | none=>
     unfold A6 at h
     rw [ht] at h
     have h:(if (true:Bool)=false then (((0,0,0,[],()),0,0,false):WFd×Int×Int×Bool) else if (n:Int) % 8=2 then _ else (((n:Int) / 8,(n:Int) % 8,unf (Az (Ac s (a+k))),[],()),(a:Int),Ao (a+k) (Ac s (a+k)),Bm (Ac s (a+k))&&As ((n:Int) / 8,(n:Int) % 8,unf (Az (Ac s (a+k))),[],()))).2.2.2=true:=h
     rw [if_neg (by simp),if_neg q,hu] at h
     cases h
    | some y=>
     obtain ⟨m,j,ok⟩:=y
     cases ok with
     | false=>
      unfold A6 at h
      rw [ht] at h
      have h:(if (true:Bool)=false then (((0,0,0,[],()),0,0,false):WFd×Int×Int×Bool) else if (n:Int) % 8=2 then _ else (((n:Int) / 8,(n:Int) % 8,unf (Az (Ac s (a+k))),[],()),(a:Int),Ao (a+k) (Ac s (a+k)),Bm (Ac s (a+k))&&As ((n:Int) / 8,(n:Int) % 8,unf (Az (Ac s (a+k))),[],()))).2.2.2=true:=h
      rw [if_neg (by simp),if_neg q,hu] at h
      cases h
     | true=>
      have hm:=Fw hu
      rw [Fy ht q hu] at h ⊢
      have h:As ((n:Int) / 8,(n:Int) % 8,unf (m:Int),[],())=true:=h
      have hk:(n:Int) % 8=0:=by
       obtain ⟨_,c⟩:=Bs h
       rcases c with ⟨c,_⟩ | ⟨c,_⟩
       ·exact c
       ·exact absurd c q
      show (a:Int)+(fb1 ((n:Int) / 8,(n:Int) % 8,unf (m:Int),[],())).length<=((a+k+j:Nat):Int)
      have e1:fb1 ((n:Int) / 8,(n:Int) % 8,unf (m:Int),[],())=vbs (8*((n:Int) / 8)+(n:Int) % 8).toNat++(if (n:Int) % 8=0 then vbs (fol (unf (m:Int))).toNat else vbs 0++[]):=rfl
      rw [e1,if_pos hk,Kh (by omega),show (8*((n:Int) / 8)+(n:Int) % 8).toNat=n by omega,ntN,length_append]
      push_cast
      omega
theorem JT {s:By} : ∀ (g a:Nat) (o l:List WFd),a<=s.length->rdF s g a o=some l->∃ l',l=o++l'/\(fbs l').length<=s.length-a/\∀ f∈l',As f=true
 | 0,a,o,l,ha,h=>by
  rw [rdF] at h
  split at h
  ·cases h
  ·cases h; exact ⟨[],by simp,zero_le _,fun f hf=>by cases hf⟩
 | g+1,a,o,l,ha,h=>by
  rw [rdF] at h
  split at h
  ·split at h
   ·rename_i hc
    have ht:=Ll hc.1
    have hk:=G6 hc.1
    obtain ⟨l',h1,h2,h3⟩:=JT g _ _ l (by omega) h
    refine ⟨(A6 s a).1::l',by rw [h1,append_assoc]; rfl,?_,fun f hf=>?_⟩
    ·rw [B7,length_append]
     omega
    ·rcases mem_cons.1 hf with rfl | hf
     ·exact hk.1
     ·exact h3 f hf
   ·cases h
  ·cases h; exact ⟨[],by simp,zero_le _,fun f hf=>by cases hf⟩
theorem Dz {s:By} {l:List WFd} (h:AR s=some l):(fbs l).length<=s.length/\∀ f∈l,As f=true:=by
 unfold AR Cn at h
 by_cases q:s.length<=400
 ·rw [if_pos q] at h
  cases hr:EI s with
  | none=>rw [hr] at h; cases h
  | some k=>
   rw [hr] at h
   dsimp only at h
   split at h
   ·cases h
    obtain ⟨l',h1,h2,h3⟩:=JT _ _ _ _ (zero_le _) hr
    rw [nil_append] at h1
    subst h1
    exact ⟨h2,h3⟩
   ·cases h
 ·rw [if_neg q] at h; cases h

theorem Og {n:Nat} (h:n<128):vbs n=[UInt8.ofNat n]:=by
 unfold vbs
 rw [Cj h]; rfl
theorem Oh {n:Nat} (h:128<=n) (h2:n<128 ^ 6):vbs n=UInt8.ofNat (n % 128+128)::vbs (n / 128):=by
 unfold vbs
 have hd:n / 128<128 ^ (5+1):=by
  have:n / 128<=n:=Nat.div_le_self _ _
  exact Nat.lt_of_le_of_lt this h2
 rw [DH h,show (9:Nat)=5+4 from rfl,Cw 5 4 _ hd]
 rw [show AN 10 (n / 128)=AN 5 (n / 128) from Cw 5 5 _ hd]
 rfl
theorem Li : ∀ (f:Nat) (l:By) (i acc:Nat) {x k:Nat},f<=5->tv f l i acc=some (x,k,true)->∃ m,x=acc+m*2 ^ (7*i)/\i<k/\k-i<=f/\m<128 ^ (k-i)/\(0<i->0<m)/\l.take (k-i)=vbs m
 | 0,l,i,acc,x,k,_,h=>by cases l<;>cases h
 | f+1,[],i,acc,x,k,_,h=>by cases h
 | f+1,b::l,i,acc,x,k,hf,h=>by
  rw [Lg] at h
  have hb:=b.toNat_lt
  split at h
  ·rename_i q
   simp only [Option.some.injEq,Prod.mk.injEq,anE,Bool.or_eq_true,dcE] at h
   obtain ⟨rfl,rfl,_,h3⟩:=h
   refine ⟨b.toNat % 128,rfl,by omega,by omega,?_,fun hi=>by omega,?_⟩
   ·rw [show i+1-i=1 by omega,Nat.pow_one]; omega
   ·rw [show i+1-i=1 by omega,Og (by omega),mod_eq_of_lt q,UInt8.ofNat_toNat]; rfl
  ·rename_i q
   obtain ⟨m,h1,h2,h3,h4,h5,h6⟩:=Li f l (i+1) _ (by omega) h
   have hm:=h5 (by omega)
   have e2:k-i=k-(i+1)+1:=by omega
   have hlt:b.toNat % 128+128*m<128 ^ (k-i):=by
    rw [e2,pow_succ]; omega
   have h6b:b.toNat % 128+128*m<128 ^ 6:=Nat.lt_of_lt_of_le hlt (Nat.pow_le_pow_right (by omega) (by omega))
   refine ⟨b.toNat % 128+128*m,?_,by omega,by omega,hlt,fun _=>by omega,?_⟩
   ·have e1:2 ^ (7*(i+1))=128*2 ^ (7*i):=by rw [mul_add,pow_add]; omega
    rw [h1,e1,add_mul,add_assoc]
    congr 2
    rw [mul_comm 128 m,mul_assoc]
   ·rw [Oh (by omega) h6b,e2,List.take_succ_cons,h6]
    have e3:(b.toNat % 128+128*m) % 128+128=b.toNat:=by omega
    have e4:(b.toNat % 128+128*m) / 128=m:=by omega
    rw [e3,e4,UInt8.ofNat_toNat]
theorem Fx {s:By} {a n k:Nat} (h:Ac s a=some (n,k,true)):(s.drop a).take k=vbs n:=by
 obtain ⟨m,h1,h2,h3,h4,h5,h6⟩:=Li 5 _ 0 0 (Nat.le_refl _) h
 rw [mul_zero,pow_zero,mul_one,zero_add] at h1
 subst h1
 exact h6
theorem F0 {s:By} {a i j:Nat} {x y:By} (h1:(s.drop a).take i=x) (h2:(s.drop (a+i)).take j=y):(s.drop a).take (i+j)=x++y:=by
 rw [List.take_add,h1,List.drop_drop,h2]
theorem Lq {s d:By} {a:Nat} {e:Int} (h:Be s a=(d,e,true)) : ∃ r:Nat,e=((a+r:Nat):Int)/\(s.drop a).take r=vbs d.length++d/\a+r<=s.length:=by
 unfold Be at h
 dsimp only at h
 split at h
 ·rename_i hc
  cases ht:Ac s a with
  | none=>rw [ht] at hc; cases hc.1
  | some x=>
   obtain ⟨n,k,ok⟩:=x
   have hok:ok=true:=by rw [ht] at hc; exact hc.1
   subst hok
   have hl:=Fx ht
   have hfa:=(Cc ht).2.2.1
   have hfa:a+k<=s.length:=hfa
   rw [ht] at hc h
   have hc2:(n:Int)<=s.length-((a+k:Nat):Int):=hc.2
   have h:((s.drop (a+k)).take n,((a+k:Nat):Int)+(n:Int),true)=(d,e,true):=h
   simp only [Prod.mk.injEq,and_true] at h
   obtain ⟨rfl,rfl⟩:=h
   have e1:((s.drop (a+k)).take n).length=n:=by rw [List.length_take,length_drop]; omega
   refine ⟨k+n,by push_cast; omega,?_,by omega⟩
   rw [e1]
   exact F0 hl rfl
 ·simp only [Prod.mk.injEq] at h
  exact absurd h.2.2 (by simp)
theorem Ln {s:By} {a:Nat} (h:(A6 s a).2.2.2=true) : ∃ r:Nat,(A6 s a).2.2.1=((a+r:Nat):Int)/\(s.drop a).take r=fb1 (A6 s a).1/\a+r<=s.length:=by
 cases ht:Ac s a with
 | none=>
  unfold A6 at h
  rw [ht] at h
  cases h
 | some x=>
  obtain ⟨n,k,ok⟩:=x
  cases ok with
  | false=>
   unfold A6 at h
   rw [ht] at h
   cases h
  | true=>
   have hl:=Fx ht
   by_cases q:(n:Int) % 8=2
   ·cases hu:Be s (a+k) with
    | mk d y=>
     obtain ⟨e,ok⟩:=y
     cases ok with
     | false=>
      unfold A6 at h
      rw [ht] at h
      have h:(if (true:Bool)=false then (((0,0,0,[],()),0,0,false):WFd×Int×Int×Bool) else if (n:Int) % 8=2 then (((n:Int) / 8,2,0,(Be s (a+k)).1,()),(a:Int),(Be s (a+k)).2.1,(Be s (a+k)).2.2&&As ((n:Int) / 8,2,0,(Be s (a+k)).1,())) else _).2.2.2=true:=h
      rw [if_neg (by simp),if_pos q,hu] at h
      cases h
     | true=>
      obtain ⟨r,g1,g2,g3⟩:=Lq hu
      rw [Fz ht q hu]
      have e1:fb1 ((n:Int) / 8,2,0,d,())=vbs (8*((n:Int) / 8)+2).toNat++(vbs d.length++d):=rfl
      refine ⟨k+r,by show e=_; rw [g1]; congr 1; omega,?_,by omega⟩
      show _=fb1 ((n:Int) / 8,2,0,d,())
      rw [e1,show (8*((n:Int) / 8)+2).toNat=n by omega]
      exact F0 hl g2
   ·cases hu:Ac s (a+k) with
    | none=>
     unfold A6 at h
     rw [ht] at h
     have h:(if (true:Bool)=false then (((0,0,0,[],()),0,0,false):WFd×Int×Int×Bool) else if (n:Int) % 8=2 then _ else (((n:Int) / 8,(n:Int) % 8,unf (Az (Ac s (a+k))),[],()),(a:Int),Ao (a+k) (Ac s (a+k)),Bm (Ac s (a+k))&&As ((n:Int) / 8,(n:Int) % 8,unf (Az (Ac s (a+k))),[],()))).2.2.2=true:=h
     rw [if_neg (by simp),if_neg q,hu] at h
     cases h
    | some y=>
     obtain ⟨m,j,ok⟩:=y
     cases ok with
     | false=>
      unfold A6 at h
      rw [ht] at h
      have h:(if (true:Bool)=false then (((0,0,0,[],()),0,0,false):WFd×Int×Int×Bool) else if (n:Int) % 8=2 then _ else (((n:Int) / 8,(n:Int) % 8,unf (Az (Ac s (a+k))),[],()),(a:Int),Ao (a+k) (Ac s (a+k)),Bm (Ac s (a+k))&&As ((n:Int) / 8,(n:Int) % 8,unf (Az (Ac s (a+k))),[],()))).2.2.2=true:=h
      rw [if_neg (by simp),if_neg q,hu] at h
      cases h
     | true=>
      have hm:=Fx hu
      have hfa:=(Cc hu).2.2.1
      have hfa:a+k+j<=s.length:=hfa
      rw [Fy ht q hu] at h ⊢
      have h:As ((n:Int) / 8,(n:Int) % 8,unf (m:Int),[],())=true:=h
      have hk:(n:Int) % 8=0:=by
       obtain ⟨_,c⟩:=Bs h
       rcases c with ⟨c,_⟩ | ⟨c,_⟩
       ·exact c
       ·exact absurd c q
      refine ⟨k+j,by show ((a+k+j:Nat):Int)=_; congr 1; omega,?_,by omega⟩
      show _=fb1 ((n:Int) / 8,(n:Int) % 8,unf (m:Int),[],())
      have e1:fb1 ((n:Int) / 8,(n:Int) % 8,unf (m:Int),[],())=vbs (8*((n:Int) / 8)+(n:Int) % 8).toNat++(if (n:Int) % 8=0 then vbs (fol (unf (m:Int))).toNat else vbs 0++[]):=rfl
      rw [e1,if_pos hk,Kh (by omega),show (8*((n:Int) / 8)+(n:Int) % 8).toNat=n by omega,ntN]
      exact F0 hl hm
theorem JV {s:By} : ∀ (g a:Nat) (o l:List WFd),a<=s.length->rdF s g a o=some l->∃ l',l=o++l'/\fbs l'=s.drop a
 | 0,a,o,l,ha,h=>by
  rw [rdF] at h
  split at h
  ·cases h
  ·cases h
   refine ⟨[],by simp,?_⟩
   rw [drop_eq_nil_of_le (by omega)]; rfl
 | g+1,a,o,l,ha,h=>by
  rw [rdF] at h
  split at h
  ·split at h
   ·rename_i hc
    obtain ⟨r,g1,g2,g3⟩:=Ln hc.1
    rw [g1,ntN] at h
    obtain ⟨l',h1,h2⟩:=JV g (a+r) _ l g3 h
    refine ⟨(A6 s a).1::l',by rw [h1,append_assoc]; rfl,?_⟩
    rw [B7,h2,<-g2,<-List.drop_drop,List.take_append_drop]
   ·cases h
  ·cases h
   refine ⟨[],by simp,?_⟩
   rw [drop_eq_nil_of_le (by omega)]; rfl
theorem Hr {s:By} {l:List WFd} (h:AR s=some l):fbs l=s:=by
 unfold AR Cn at h
 by_cases q:s.length<=400
 ·rw [if_pos q] at h
  cases hr:EI s with
  | none=>rw [hr] at h; cases h
  | some k=>
   rw [hr] at h
   dsimp only at h
   split at h
   ·cases h
    obtain ⟨l',h1,h2⟩:=JV _ _ _ _ (zero_le _) hr
    rw [nil_append] at h1
    subst h1
    exact h2
   ·cases h
 ·rw [if_neg q] at h; cases h





























theorem LL {s:By} : ∀ (g a:Nat) (o l:List WFd),o.length<=40->rdF s g a o=some l->l.length<=40
 | 0,a,o,l,ho,h=>by
  rw [rdF] at h
  split at h
  ·cases h
  ·cases h; exact ho
 | g+1,a,o,l,ho,h=>by
  rw [rdF] at h
  split at h
  ·split at h
   ·rename_i hc
    exact LL g _ _ l (by rw [length_append]; have:=hc.2; simp; omega) h
   ·cases h
  ·cases h; exact ho
theorem BA {s:By} {l:List WFd} (h:AR s=some l):l.length<=40/\s.length<=400/\Fc (CK l)=true:=by
 unfold AR Cn at h
 by_cases q:s.length<=400
 ·rw [if_pos q] at h
  cases hr:EI s with
  | none=>rw [hr] at h; cases h
  | some k=>
   rw [hr] at h
   dsimp only at h
   split at h
   ·rename_i hs
    cases h
    exact ⟨LL _ _ _ _ (by simp) hr,q,hs⟩
   ·cases h
 ·rw [if_neg q] at h; cases h
def AP (ns:List Int):Bool:=(ns.all fun n=>decide (1<=n/\n<=30))&&Fc ns
def AV (l:List WFd) (ns:List Int):List WFd:=l.filter fun f=>ns.contains f.1
def vwB (s:By) (ns:List Int):Bool:=(AR s).isSome&&AP ns
def vwL (s:By) (ns:List Int):By:=bif vwB s ns then fbs (AV ((AR s).getD []) ns) else []
theorem FR (q:WFd->Bool) : ∀ l:List WFd,(fbs (l.filter q)).length<=(fbs l).length
 | []=>Nat.le_refl _
 | f::l=>by
  have ih:=FR q l
  rw [List.filter_cons]
  split
  ·rw [B7,B7,length_append,length_append]; omega
  ·rw [B7,length_append]; omega
theorem E5 {f:WFd} : ∀ {l:List WFd},f∈l->(fb1 f).length<=(fbs l).length
 | [],h=>by cases h
 | g::l,h=>by
  rw [B7,length_append]
  rcases mem_cons.1 h with rfl | h
  ·omega
  ·have:=E5 h; omega
theorem FP {f:WFd} (h:As f=true) (hl:(fb1 f).length<=400):BV f=true:=by
 unfold BV
 rw [h,Bool.true_and,dcE]
 unfold As at h
 rw [anE] at h
 have h2:=h.2
 unfold fb1 at hl
 split at h2
 ·simp only [anE,beq_iff_eq] at h2
  have:=h2.2
  simp [this]
 ·rename_i hk
  rw [if_neg hk] at hl
  simp only [length_append] at hl
  omega
theorem DI {s:By} {l:List WFd} (h:AR s=some l) (q:WFd->Bool):AR (fbs (l.filter q))=some (l.filter q)/\(fbs (l.filter q)).length<=400/\l.length<=40/\(l.filter q).all BV=true:=by
 obtain ⟨h1,h2,h3⟩:=BA h
 obtain ⟨h4,h5⟩:=Dz h
 have hb:=FR q l
 have hf:(l.filter q).all BV=true:=all_eq_true.2 fun f hf=>by
  have hm:=(mem_filter.1 hf).1
  exact FP (h5 f hm) (le_trans (E5 hm) (by omega))
 have hl:(l.filter q).length<=40:=le_trans (List.length_filter_le _ _) h1
 refine ⟨In hf hl (by omega) ?_,by omega,h1,hf⟩
 exact Pairwise.filter q (CC h3)
theorem Im {ns:List Int} (h:ns.Pairwise (· < ·)):Fc ns=true:=by
 have e:CK (ns.map fun n=>((n,0,0,[],()):WFd))=ns:=by
  unfold CK
  rw [map_map]
  exact map_id' ns
 have:=JN (l:=ns.map fun n=>((n,0,0,[],()):WFd)) (by rw [List.pairwise_map]; exact h)
 rwa [e] at this
def AJ (l:List WFd) (ns:List Int):List WFd:=l.filter fun f=>!ns.contains f.1
def kF (f:WFd):List WFd->Nat
 | []=>0
 | g::o=>if g.1<=f.1 then kF f o+1 else 0
def C4 (o:List WFd) (f:WFd):List WFd:=o.take (kF f o)++f::o.drop (kF f o)
def Ie (l:List WFd):List WFd:=l.foldl C4 []
def BH (l m:List WFd) (ns:List Int):List WFd:=Ie (AJ l ns++m)
def puX (s v:By) (ns:List Int):List WFd:=BH ((AR s).getD []) ((AR v).getD []) ns
def puB (s:By) (ns:List Int) (v:By):Bool:=((AR s).isSome&&(AR v).isSome)&&(AP ns&&((AJ ((AR v).getD []) ns).isEmpty&&decide ((fbs (puX s v ns)).length<=400)))
def puL (s:By) (ns:List Int) (v:By):By:=bif puB s ns v then fbs (puX s v ns) else []
def coB (x y:List Int):Bool:=AP x&&AP y
def coL (x y:List Int):List Int:=bif coB x y then x.filter fun n=>y.contains n else []
theorem Mj (f:WFd) : ∀ o:List WFd,kF f o<=o.length
 | []=>Nat.le_refl _
 | g::o=>by
  have:=Mj f o
  rw [kF,length_cons]
  split<;>omega
theorem I5 (f g:WFd) (o:List WFd):C4 (g::o) f=if g.1<=f.1 then g::C4 o f else f::g::o:=by
 unfold C4
 rw [kF]
 split
 ·rw [List.take_succ_cons,List.drop_succ_cons,List.cons_append]
 ·rfl
theorem Fs {f x:WFd} : ∀ {o:List WFd},x∈C4 o f↔x=f\/x∈o
 | []=>by unfold C4; rw [kF]; simp
 | g::o=>by
  rw [I5]
  split
  ·rw [mem_cons,Fs,mem_cons]
   constructor
   ·rintro (h | h | h)
    ·exact .inr (.inl h)
    ·exact .inl h
    ·exact .inr (.inr h)
   ·rintro (h | h | h)
    ·exact .inr (.inl h)
    ·exact .inl h
    ·exact .inr (.inr h)
  ·rw [mem_cons,mem_cons]
theorem Mr {f:WFd} : ∀ {o:List WFd},(o.Pairwise fun a b=>a.1<b.1)->(∀ g∈o,g.1≠f.1)->(C4 o f).Pairwise fun a b=>a.1<b.1
 | [],_,_=>by unfold C4; rw [kF]; simp
 | g::o,hp,hn=>by
  rw [pairwise_cons] at hp
  rw [I5]
  have hg:=hn g mem_cons_self
  split
  ·rw [pairwise_cons]
   refine ⟨fun x hx=>?_,Mr hp.2 fun x hx=>hn x (mem_cons_of_mem _ hx)⟩
   rcases Fs.1 hx with rfl | hx
   ·omega
   ·exact hp.1 x hx
  ·rw [pairwise_cons,pairwise_cons]
   refine ⟨fun x hx=>?_,hp.1,hp.2⟩
   rcases mem_cons.1 hx with rfl | hx
   ·omega
   ·have:=hp.1 x hx; omega
theorem ID {x:WFd} : ∀ {l o:List WFd},x∈l.foldl C4 o↔x∈o\/x∈l
 | [],o=>by simp
 | f::l,o=>by
  rw [List.foldl_cons,ID,Fs,mem_cons]
  constructor
  ·rintro ((h | h) | h)
   ·exact .inr (.inl h)
   ·exact .inl h
   ·exact .inr (.inr h)
  ·rintro (h | h | h)
   ·exact .inl (.inr h)
   ·exact .inl (.inl h)
   ·exact .inr h
theorem Hn {x:WFd} {l:List WFd}:x∈Ie l↔x∈l:=by
 unfold Ie
 rw [ID]; simp
theorem Kg : ∀ {l o:List WFd},(o.Pairwise fun a b=>a.1<b.1)->(l.Pairwise fun a b=>a.1≠b.1)->(∀ f∈l,∀ g∈o,g.1≠f.1)->(l.foldl C4 o).Pairwise fun a b=>a.1<b.1
 | [],o,ho,_,_=>ho
 | f::l,o,ho,hl,hd=>by
  rw [pairwise_cons] at hl
  rw [List.foldl_cons]
  refine Kg (Mr ho (hd f mem_cons_self)) hl.2 fun g hg x hx=>?_
  rcases Fs.1 hx with rfl | hx
  ·exact hl.1 g hg
  ·exact hd g (mem_cons_of_mem _ hg) x hx
theorem Lu {l:List WFd} (hl:l.Pairwise fun a b=>a.1≠b.1):(Ie l).Pairwise fun a b=>a.1<b.1:=Kg .nil hl (fun _ _ _ h=>by cases h)
theorem ED : ∀ (a b:List WFd),(a.Pairwise fun a b=>a.1<b.1)->(b.Pairwise fun a b=>a.1<b.1)->(∀ x,x∈a↔x∈b)->a=b
 | [],[],_,_,_=>rfl
 | [],y::b,_,_,h=>absurd ((h y).2 mem_cons_self) (by simp)
 | x::a,[],_,_,h=>absurd ((h x).1 mem_cons_self) (by simp)
 | x::a,y::b,ha,hb,h=>by
  rw [pairwise_cons] at ha hb
  have e:x=y:=by
   rcases mem_cons.1 ((h x).1 mem_cons_self) with e | e
   ·exact e
   ·rcases mem_cons.1 ((h y).2 mem_cons_self) with e2 | e2
    ·exact e2.symm
    ·have:=hb.1 x e; have:=ha.1 y e2; omega
  subst e
  rw [ED a b ha.2 hb.2 fun z=>⟨fun hz=>?_,fun hz=>?_⟩]
  ·rcases mem_cons.1 ((h z).1 (mem_cons_of_mem _ hz)) with e | e
   ·have:=ha.1 z hz; subst e; omega
   ·exact e
  ·rcases mem_cons.1 ((h z).2 (mem_cons_of_mem _ hz)) with e | e
   ·have:=hb.1 z hz; subst e; omega
   ·exact e
theorem LM : ∀ (l:List WFd) (a:Int),a<=31->(l.Pairwise fun a b=>a.1<b.1)->(∀ f∈l,a<=f.1/\f.1<=30)->(l.length:Int)<=31-a
 | [],a,h,_,_=>by simp; omega
 | f::l,a,h,hp,hb=>by
  rw [pairwise_cons] at hp
  have hf:=hb f mem_cons_self
  have:=LM l (f.1+1) (by omega) hp.2 fun g hg=>⟨by have:=hp.1 g hg; omega,(hb g (mem_cons_of_mem _ hg)).2⟩
  rw [length_cons]; omega
theorem C3 {x:WFd} {l:List WFd} {ns:List Int}:x∈AV l ns↔x∈l/\x.1∈ns:=by
 unfold AV
 rw [mem_filter]; simp
theorem FC {x:WFd} {l:List WFd} {ns:List Int}:x∈AJ l ns↔x∈l/\¬x.1∈ns:=by
 unfold AJ
 rw [mem_filter]; simp
theorem E8 {m:List WFd} {ns:List Int}:(AJ m ns).isEmpty=true↔∀ f∈m,f.1∈ns:=by
 rw [List.isEmpty_iff]
 constructor
 ·intro h f hf
  refine Classical.byContradiction fun hn=>?_
  have:f∈AJ m ns:=FC.2 ⟨hf,hn⟩
  rw [h] at this; cases this
 ·intro h
  refine List.filter_eq_nil_iff.2 fun f hf=>?_
  have:=h f hf
  simp [this]
theorem Kf {l m:List WFd} {ns:List Int} (hl:l.Pairwise fun a b=>a.1<b.1) (hm:m.Pairwise fun a b=>a.1<b.1) (hn : ∀ f∈m,f.1∈ns):(AJ l ns++m).Pairwise fun a b=>a.1≠b.1:=by
 refine List.pairwise_append.2 ⟨(Pairwise.filter _ hl).imp fun h=>by omega,hm.imp fun h=>by omega,fun x hx y hy e=>?_⟩
 exact (FC.1 hx).2 (e ▸ hn y hy)
theorem D1 {b v:By} {ns:List Int} {l m:List WFd} (hl:AR b=some l) (hm:AR v=some m) (hn : ∀ f∈m,f.1∈ns):(BH l m ns).Pairwise (fun a b=>a.1<b.1)/\(∀ x,x∈BH l m ns↔(x∈l/\¬x.1∈ns)\/x∈m)/\(BH l m ns).length<=30/\(∀ f∈BH l m ns,As f=true/\(fb1 f).length<=400)/\((fbs (BH l m ns)).length<=400->AR (fbs (BH l m ns))=some (BH l m ns)):=by
 obtain ⟨a1,a2,a3⟩:=BA hl
 obtain ⟨b1,b2,b3⟩:=BA hm
 obtain ⟨a4,a5⟩:=Dz hl
 obtain ⟨b4,b5⟩:=Dz hm
 have hp:(BH l m ns).Pairwise (fun a b=>a.1<b.1):=Lu (Kf (CC a3) (CC b3) hn)
 have hx : ∀ x,x∈BH l m ns↔(x∈l/\¬x.1∈ns)\/x∈m:=fun x=>by
  unfold BH
  rw [Hn,List.mem_append,FC]
 have hf : ∀ f∈BH l m ns,As f=true/\(fb1 f).length<=400:=fun f hf=>by
  rcases (hx f).1 hf with ⟨h,_⟩ | h
  ·exact ⟨a5 f h,le_trans (E5 h) (by omega)⟩
  ·exact ⟨b5 f h,le_trans (E5 h) (by omega)⟩
 have h30:(BH l m ns).length<=30:=by
  have:=LM (BH l m ns) 1 (by omega) hp fun f h=>by
   have:=(hf f h).1
   unfold As at this
   simp only [anE,dcE] at this
   exact this.1
  omega
 refine ⟨hp,hx,h30,hf,fun h4=>In (all_eq_true.2 fun f h=>FP (hf f h).1 (hf f h).2) (by omega) h4 hp⟩
theorem JX {b v:By} {ns:List Int} (h:puB b ns v=true) : ∃ l m,AR b=some l/\AR v=some m/\AP ns=true/\(∀ f∈m,f.1∈ns)/\(fbs (BH l m ns)).length<=400/\puL b ns v=fbs (BH l m ns):=by
 have h':=h
 unfold puB at h'
 simp only [anE,dcE] at h'
 obtain ⟨⟨h1,h2⟩,h3,h4,h5⟩:=h'
 obtain ⟨l,hl⟩:=isSome_iff_exists.1 h1
 obtain ⟨m,hm⟩:=isSome_iff_exists.1 h2
 unfold puX at h5
 rw [hm,getD_some] at h4
 rw [hl,hm,getD_some,getD_some] at h5
 refine ⟨l,m,hl,hm,h3,E8.1 h4,h5,?_⟩
 unfold puL puX
 rw [h,hl,hm]; rfl
theorem JY {b v:By} {ns:List Int} {l m:List WFd} (hl:AR b=some l) (hm:AR v=some m) (h3:AP ns=true) (h4 : ∀ f∈m,f.1∈ns) (h5:(fbs (BH l m ns)).length<=400):puB b ns v=true/\puL b ns v=fbs (BH l m ns):=by
 have h:puB b ns v=true:=by
  unfold puB puX
  rw [hl,hm,h3,getD_some,getD_some,E8.2 h4,dcT h5]; rfl
 refine ⟨h,?_⟩
 unfold puL puX
 rw [h,hl,hm]; rfl
theorem HQ {b:By} {ns:List Int} {l:List WFd} (hl:AR b=some l) (h3:AP ns=true):vwB b ns=true/\vwL b ns=fbs (AV l ns)/\AR (fbs (AV l ns))=some (AV l ns):=by
 have h:vwB b ns=true:=by unfold vwB; rw [hl,h3]; rfl
 refine ⟨h,?_,(DI hl (fun f=>ns.contains f.1)).1⟩
 unfold vwL
 rw [h,hl]; rfl
theorem Mb {b v:By} {ns:List Int} (h:puB b ns v=true) :
  vwB (puL b ns v) ns=true/\vwL (puL b ns v) ns=v/\vwB b ns=true/\puB (puL b ns v) ns (vwL b ns)=true/\puL (puL b ns v) ns (vwL b ns)=b/\puB b ns (vwL b ns)=true/\puL b ns (vwL b ns)=b:=by
 obtain ⟨l,m,hl,hm,h3,h4,h5,e⟩:=JX h
 obtain ⟨x1,x2,x3,x4,x5⟩:=D1 hl hm h4
 have hX:=x5 h5
 obtain ⟨a1,a2,a3⟩:=HQ hl h3
 obtain ⟨c1,c2,c3⟩:=HQ hX h3
 have hp : ∀ f∈AV l ns,f.1∈ns:=fun f hf=>(C3.1 hf).2
 have hl40:=(BA hl).2.1
 have hlp:=CC (BA hl).2.2
 have hmp:=CC (BA hm).2.2
 have e1:AV (BH l m ns) ns=m:=ED _ _ (Pairwise.filter _ x1) hmp fun x=>by
  rw [C3,x2]
  constructor
  ·rintro ⟨⟨_,h⟩ | h,h2⟩
   ·exact absurd h2 h
   ·exact h
  ·intro h
   exact ⟨.inr h,h4 x h⟩
 obtain ⟨y1,y2,_⟩:=D1 hX a3 hp
 have e2:BH (BH l m ns) (AV l ns) ns=l:=ED _ _ y1 hlp fun x=>by
  rw [y2,x2,C3]
  constructor
  ·rintro (⟨⟨h,_⟩ | h,h2⟩ | h)
   ·exact h
   ·exact absurd (h4 x h) h2
   ·exact h.1
  ·intro h
   by_cases q:x.1∈ns
   ·exact .inr ⟨h,q⟩
   ·exact .inl ⟨.inl ⟨h,q⟩,q⟩
 obtain ⟨z1,z2,_⟩:=D1 hl a3 hp
 have e3:BH l (AV l ns) ns=l:=ED _ _ z1 hlp fun x=>by
  rw [z2,C3]
  constructor
  ·rintro (⟨h,_⟩ | h)
   ·exact h
   ·exact h.1
  ·intro h
   by_cases q:x.1∈ns
   ·exact .inr ⟨h,q⟩
   ·exact .inl ⟨h,q⟩
 have hlen:=(Dz hl).1
 obtain ⟨p1,p2⟩:=JY (b:=fbs (BH l m ns)) hX a3 h3 hp (by rw [e2]; omega)
 obtain ⟨q1,q2⟩:=JY hl a3 h3 hp (by rw [e3]; omega)
 rw [e,a2]
 refine ⟨c1,?_,a1,p1,?_,q1,?_⟩
 ·rw [c2,e1,Hr hm]
 ·rw [p2,e2,Hr hl]
 ·rw [q2,e3,Hr hl]
theorem Iv {ns:List Int} (h:Fc ns=true):ns.Pairwise (· < ·):=GB fun i hi=>all_eq_true.1 h i (mem_range.2 hi)
theorem Pf {x y:List Int} (h:coB x y=true):AP x=true/\AP y=true/\AP (coL x y)=true/\∀ n,n∈coL x y↔n∈x/\n∈y:=by
 have h':=h
 unfold coB at h'
 rw [anE] at h'
 obtain ⟨h1,h2⟩:=h'
 have e:coL x y=x.filter fun n=>y.contains n:=by unfold coL; rw [h]; rfl
 have h1':=h1
 unfold AP at h1'
 rw [anE,all_eq_true] at h1'
 refine ⟨h1,h2,?_,fun n=>by rw [e,mem_filter]; simp⟩
 rw [e]
 unfold AP
 rw [anE,all_eq_true]
 exact ⟨fun n hn=>h1'.1 n (mem_filter.1 hn).1,Im (Pairwise.filter _ (Iv h1'.2))⟩
theorem La {c:By} {x y:List Int} (h:coB x y=true):vwB c x=vwB c (coL x y)/\(vwB c x=true->vwB (vwL c x) y=true/\vwL (vwL c x) y=vwL c (coL x y)):=by
 obtain ⟨h1,h2,h3,h4⟩:=Pf h
 refine ⟨by unfold vwB; rw [h1,h3],fun hv=>?_⟩
 unfold vwB at hv
 rw [anE] at hv
 obtain ⟨l,hl⟩:=isSome_iff_exists.1 hv.1
 obtain ⟨a1,a2,a3⟩:=HQ hl h1
 obtain ⟨b1,b2,b3⟩:=HQ hl h3
 obtain ⟨c1,c2,c3⟩:=HQ a3 h2
 rw [a2]
 refine ⟨c1,?_⟩
 rw [c2,b2]
 congr 1
 have hp:=CC (BA hl).2.2
 refine ED _ _ (Pairwise.filter _ (Pairwise.filter _ hp)) (Pairwise.filter _ hp) fun z=>?_
 rw [C3,C3,C3,h4]
 constructor
 ·rintro ⟨⟨a,b⟩,c⟩; exact ⟨a,b,c⟩
 ·rintro ⟨a,b,c⟩; exact ⟨⟨a,b⟩,c⟩

theorem CN {P:Program} {Γ:FuncId->Option Ent} {Λ:Nat->Option LoopEnt} {m:Nat} {a:Code} {ent:LoopEnt} {α τ:Type} {l:List α} (p:α->Bool) (g:α->τ) (H:List τ->Nat->Dt) (ex:List τ->Ex×Dt) (hex : ∀ o,(ex o).1≠.normal)
  (hr : ∀ o n (h:n<l.length),o.length<=n->A4 P Γ Λ m a ent (H o n)=some (.normal,H (bif p l[n] then o++[g l[n]] else o) (n+1)))
  (he : ∀ o,o.length<=l.length->A4 P Γ Λ m a ent (H o l.length)=some (ex o)) : ∀ (j n:Nat) (o:List τ),n+j=l.length->o.length<=n->Runs P Γ Λ m a ent (H o n) (ex (o++((l.drop n).filter p).map g)).1 (ex (o++((l.drop n).filter p).map g)).2
 | 0,n,o,hn,ho=>by
  have h3:n=l.length:=by omega
  subst h3
  rw [drop_eq_nil_of_le (Nat.le_refl _),List.filter_nil,map_nil,append_nil]
  exact .stop _ _ _ (he o ho) (hex o)
 | j+1,n,o,hn,ho=>by
  have h1:n<l.length:=by omega
  have h2:=hr o n h1 ho
  rw [drop_eq_getElem_cons h1,List.filter_cons]
  cases hp:p l[n] with
  | true=>
   rw [hp,cond_true] at h2
   have ih:=CN p g H ex hex hr he j (n+1) (o++[g l[n]]) (by omega) (by simp; omega)
   rw [append_assoc] at ih
   exact sts h2 ih
  | false=>
   rw [hp,cond_false] at h2
   exact sts h2 (CN p g H ex hex hr he j (n+1) o (by omega) (by omega))
def AE (x:Int):Nat->List (Int)->Int
 | _,[]=>-1
 | n,z::l=>if x=z then n else AE x (n+1) l
def BX:LoopEnt:=⟨19,[0,1,7,8],[],[4],fun
 | ([.sl (.int .i64) l,.j x,.j m,.j n],[])=>
  .need (decide (0<=n/\m=l.length/\n.toNat<=l.length/\l.length<=maxI)) (.br (decide (AE x n.toNat (l.drop n.toNat) = -1)) (.leaf (.exit 0,([],[]))) (.leaf (.ret,([.j (AE x n.toNat (l.drop n.toNat))],[]))))
 | _=>.no⟩
def Em:Gm
 | [.sl (.int .i64) l,.j x],[]=>.leaf (.j (AE x 0 l),[])
 | _,_=>.no
def Cb:Gm
 | [.sl (.int .i64) l,.j x],[]=>.leaf (.b (decide (x∈l)),[])
 | _,_=>.no
def Bx (fs:List Pl) (ns:List Int) (nt:Bool):List Pl:=fs.filter fun z=>ns.contains z.1.1 != nt
def I9:LoopEnt:=⟨30,[1,2,7,11,12,13],[7],[],fun
 | ([.sl (.int .i64) ns,.b nt,.ref 0 0 m,.sl PCd fs,.j c,.j i],[R0 PCd o])=>.need (decide (0<=i/\i.toNat<=fs.length/\c=fs.length/\m=o.length/\fs.length<=100000/\o.length<=i.toNat)) (.leaf (.exit 0,([.ref 0 0 (o++Bx (fs.drop i.toNat) ns nt).length],[R0 PCd (o++Bx (fs.drop i.toNat) ns nt)])))
 | _=>.no⟩
def N3:Gm
 | [.sl PCd fs,.sl (.int .i64) ns,.b nt],[]=>.need (decide (fs.length<=100000)) (.leaf (.ref 0 0 (Bx fs ns nt).length,[R0 PCd (Bx fs ns nt)]))
 | _,_=>.no
def IG:LoopEnt:=⟨23,[3,9,10,11],[3],[],fun
 | ([.ref 0 0 m,.sl PCd fs,.j c,.j i],[R0 FCd o])=>.need (decide (0<=i/\i.toNat<=fs.length/\c=fs.length/\m=o.length/\fs.length<=100000/\o.length=fs.length)) (.leaf (.exit 0,([.ref 0 0 fs.length],[R0 FCd (o.take i.toNat++(fs.drop i.toNat).map fun z=>z.1)])))
 | _=>.no⟩
def N5:Gm
 | [.sl PCd fs],[]=>.need (decide (fs.length<=100000)) (.leaf (.ref 0 0 fs.length,[R0 FCd (fs.map fun z=>z.1)]))
 | _,_=>.no
def rnB:Int->List Int->Bool
 | _,[]=>true
 | b,n::l=>decide (b+1<=n/\n<=30)&&rnB n l
def rnE:LoopEnt:=⟨19,[3,6,7,8],[],[2],fun
 | ([.j b,.sl (.int .i64) ns,.j c,.j i],[])=>.need (decide (0<=i/\i.toNat<=ns.length/\c=ns.length/\ns.length<=maxI/\0<=b/\b<=30)) (.br (rnB b (ns.drop i.toNat)) (.leaf (.exit 0,([],[]))) (.leaf (.ret,([.b false],[]))))
 | _=>.no⟩
def rnG:Gm
 | [.sl (.int .i64) ns],[]=>.leaf (.b (AP ns),[])
 | _,_=>.no
theorem En (x:Int) : ∀ (l:List (Int)) (n:Nat),(AE x n l = -1/\x ∉ l)\/((n:Int)<=AE x n l/\x∈l)
 | [],n=>.inl ⟨rfl,by simp⟩
 | z::l,n=>by
  unfold AE
  by_cases h:x=z
  ·rw [if_pos h]; exact .inr ⟨Int.le_refl _,by simp [h]⟩
  ·rw [if_neg h]
   rcases En x l (n+1) with ⟨h1,h2⟩ | ⟨h1,h2⟩
   ·exact .inl ⟨h1,by simp [h,h2]⟩
   ·exact .inr ⟨by omega,by simp [h2]⟩
theorem DR (l:List (Int)) (x:Int) (m:Int) (n:Nat):A4 prog (Aa []) (Aa [(2,BX)]) 0 (body f53 0) BX ([.sl (.int .i64) l,.j x,.j m,.j n],[]) =
 ((ifB (decide ((↑n:Int)<m)) (ifT (decide (0<=(↑n:Int))&&decide ((↑n:Int)<(↑l.length:Int))) (Ax l[((↑n:Int)).toNat]? fun z=>ifB (x==z) (some (Ex.ret,
 [V.j ((↑n:Int))],[])) (some (Ex.normal,[V.sl (Cd.int .i64) l,V.j x,V.j m,V.j (i64.wrap ((↑n:Int)+(1:Int)))],[])))) (some
 (Ex.exit 0,[],[]))):_):=by kernel_rfl
theorem El {l:List (Int)} {x:Int} (hm:l.length<=maxI) : ∀ (k n:Nat),n+k=l.length->
  Runs prog (Aa []) (Aa [(2,BX)]) 0 (body f53 0) BX ([.sl (.int .i64) l,.j x,.j (↑l.length:Int),.j n],[]) (if AE x n (l.drop n) = -1 then .exit 0 else .ret) (if AE x n (l.drop n) = -1 then [] else [.j (AE x n (l.drop n))],[])
 | 0,n,hn=>by
  have e1:l.drop n=[]:=drop_eq_nil_of_le (by omega)
  have hr:=DR l x l.length n
  rw [Ae (dcF (show ¬(n:Int)<(l.length:Int) by omega))] at hr
  rw [e1]
  exact .stop _ _ _ hr (by simp [AE])
 | k+1,n,hn=>by
  have h1:n<l.length:=by omega
  have hr:=DR l x l.length n
  rw [Ah (dcT (show (n:Int)<(l.length:Int) by omega)),T2 (by omega)] at hr
  simp only [ntN,gtE h1,A7,AY (n:=n) (by omega)] at hr
  rw [drop_eq_getElem_cons h1]
  unfold AE
  by_cases he:x=l[n]
  ·rw [Ah (by simpa using he)] at hr
   rw [if_pos he,if_neg (by omega),if_neg (by omega)]
   exact stp hr
  ·rw [Ae (by simpa using he)] at hr
   rw [if_neg he]
   exact sts hr (El hm k (n+1) (by omega))
theorem Je:Aq prog (Aa []) (Aa [(2,BX)]) 0 (f53.body.getD .skip):=by
 refine Ap (a:=body f53 0) (by kernel_rfl) fun d e d' h=>?_
 unfold BX at h
 dsimp only at h
 split at h
 ·rename_i l x m n
  obtain ⟨hc,hx⟩:=Af h
  clear h
  obtain ⟨h0,h1,h2,h3⟩:=of_decide_eq_true hc
  obtain ⟨n,rfl⟩:=eq_ofNat_of_zero_le h0
  subst h1
  rw [ntN] at h2 hx
  have:=El (x:=x) h3 _ n (Nat.add_sub_of_le h2)
  rcases Ko hx with ⟨h4,h⟩ | ⟨h4,h⟩
  ·have h4:=of_decide_eq_true h4
   rw [if_pos h4,if_pos h4] at this; cases h; exact this
  ·have h4:=of_decide_eq_false h4
   rw [if_neg h4,if_neg h4] at this; cases h; exact this
 ·cases h
theorem HN (l:List (Int)) (x:Int) (hm:l.length<=maxI):AL prog (Aa []) (Aa [(2,BX)]) f53 [.sl (.int .i64) l,.j x] []=some (.j (AE x 0 l),[]):=by
 have e:AL prog (Aa []) (Aa [(2,BX)]) f53 [.sl (.int .i64) l,.j x] [] =
  ((ifT (decide ((0:Int)<=(0:Int)/\(↑l.length:Int)=(↑l.length:Int)/\0<=l.length/\l.length<=maxI)) (ifB (decide (AE x 0 (drop (0 :
 Nat) l)=(-1:Int))) (some (V.j (-1),[])) (some (V.j (AE x 0 (drop 0 l)),[])))):_):=by kernel_rfl
 rw [e]
 clear e
 rw [Ad (dcT ⟨by omega,rfl,zero_le _,hm⟩)]
 simp only [drop_zero]
 by_cases h:AE x 0 l = -1
 ·rw [Ah (dcT h),h]
 ·rw [Ae (dcF h)]
theorem MT:Ag prog 53 (Ent.rd1 Em).F:=by
 refine BI KnowsL.nil.knows (Λ:=(Aa [(2,BX)])) func53 (c:=f53.body.getD .skip) (by kernel_rfl) fun vs bs r h hv hb=>?_
 unfold Ent.F Em at h
 dsimp only at h
 split at h
 ·rename_i l x
  exact ⟨Je,(HN l x (hv (.sl (.int .i64) l) (by simp)).1).trans (by cases h; rfl)⟩
 ·cases h
theorem Hi (l:List (Int)) (x:Int):AL prog (Aa [(53,.rd1 Em)]) (Aa []) f33 [.sl (.int .i64) l,.j x] []=some (.b (decide (x∈l)),[]):=by
 have e:AL prog (Aa [(53,.rd1 Em)]) (Aa []) f33 [.sl (.int .i64) l,.j x] [] =
  ((some (V.b (decide (AE x 0 l>=(0:Int))),[])):_):=by kernel_rfl
 rw [e]
 rcases En x l 0 with ⟨h1,h2⟩ | ⟨h1,h2⟩
 ·rw [dcF h2,dcF (by omega)]
 ·rw [dcT h2,dcT (by omega)]
theorem HO:Ag prog 33 (Ent.rd1 Cb).F:=by
 refine fcK (kc func53 MT KnowsL.nil).knows (Λ:=Aa []) func33 fun vs bs r h=>?_
 unfold Ent.F Cb at h
 dsimp only at h
 split at h
 ·rename_i l x
  exact ⟨Am _,(Hi l x).trans h⟩
 ·cases h
theorem GN (ns:List Int) (nt:Bool) (m:Nat) (fs:List Pl) (c i:Int) (o:List Pl):A4 prog (Aa [(33,.rd1 Cb)]) (Aa [(3,I9)]) 0 (body f19 0) I9 ([.sl (.int .i64) ns,.b nt,.ref 0 0 m,.sl PCd fs,.j c,.j i],[R0 PCd o]) =
 ((ifB (decide (i<c)) (ifT (decide (0<=i)&&decide (i<(↑fs.length:Int))) (Ax fs[i.toNat]? fun z=>shr z.1 fun sh1=>ifB (!decide (sh1.1∈ns)==nt) (ifT
 (decide ((m+1)*48<=140737488355328)&&decide (m+1<=maxI)) (some (Ex.normal,[V.sl (Cd.int .i64) ns,V.b nt,V.ref 0 0 (m+(1 :
 Nat)),V.sl PCd fs,V.j c,V.j (i64.wrap (i+1))],[R0 PCd (take m (drop 0 o)++((sh1.1,sh1.2.1,
 sh1.2.2.1,sh1.2.2.2.1,()),z.2.1,())::An PCd.den)]))) (some (Ex.normal,[V.sl (Cd.int .i64) ns,V.b nt,V.ref 0 0 m,V.sl PCd fs,V.j c,
 V.j (i64.wrap (i+1))],[R0 PCd o])))) (some (Ex.exit 0,[V.ref 0 0 m],[R0 PCd o]))):_):=by kernel_rfl
theorem Mw (fs:List Pl) (ns:List Int) (nt:Bool):Bg prog (Aa [(33,.rd1 Cb)]) (Aa [(3,I9)]) f19 [.sl PCd fs,.sl (.int .i64) ns,.b nt] [] =
 ((shr (An PCd.den++Bx (drop 0 fs) ns nt) fun sh1=>ifT (decide ((0:Int)<=(0:Int)/\0<=fs.length/\(↑fs.length:Int)=(↑fs.length:Int)/\
 0=0/\fs.length<=100000/\0<=0)) (some (V.ref 0 0 sh1.length,[R0 PCd sh1]))):_):=by kernel_rfl
theorem GR (m:Nat) (fs:List Pl) (c i:Int) (o:List WFd):A4 prog (Aa []) (Aa [(3,IG)]) 0 (body f24 0) IG ([.ref 0 0 m,.sl PCd fs,.j c,.j i],[R0 FCd o]) =
 ((ifB (decide (i<c)) (ifT (decide (0<=i)&&decide (i<(↑fs.length:Int))) (Ax fs[i.toNat]? fun z=>ifT (decide (0<=i)&&decide (i<(↑m:Int))) (Ax o[(0 :
 Nat)+i.toNat]? fun _=>shr z.1.2 fun sh1=>some (Ex.normal,[V.ref 0 0 m,V.sl PCd fs,V.j c,V.j (i64.wrap (i+1))],[R0 FCd (o.set (0+i.toNat) (z.1.1,sh1.1,sh1.2.1,sh1.2.2.1,()))])))) (some (Ex.exit 0,[V.ref 0 0 m],[R0 FCd o]))):_):=by kernel_rfl
theorem Mz (fs:List Pl):Bg prog (Aa []) (Aa [(3,IG)]) f24 [.sl PCd fs] [] =
 ((shr (List.replicate (↑fs.length:Int).toNat ((0:Int),(0:Int),(0:Int),An UInt8,())) fun sh1=>ifT (decide (0<=(↑fs.length:Int))&&decide ((↑fs.length :
 Int)<=(↑fs.length:Int))&&decide ((↑fs.length:Int)*(↑(40:Nat):Int)<=(140737488355328:Int))&&decide ((↑fs.length:Int)<=(9223372036854775807:Int)))
 (ifT (decide ((0:Int)<=(0:Int)/\0<=fs.length/\(↑fs.length:Int)=(↑fs.length:Int)/\(↑fs.length:Int).toNat=sh1.length/\fs.length<=100000
 /\ sh1.length=fs.length)) (some (V.ref 0 0 fs.length,[R0 FCd (An FCd.den++List.map (fun z=>z.1) (drop 0 fs))])))):_):=by kernel_rfl
theorem Il (b:Int) (ns:List Int) (c i:Int):A4 prog (Aa [(42,.rd1 AT)]) (Aa [(3,rnE)]) 0 (body f18 0) rnE ([.j b,.sl (.int .i64) ns,.j c,.j i],[]) =
 ((ifB (decide (i<c)) (ifT (decide (0<=i)&&decide (i<(↑ns.length:Int))) (Ax ns[i.toNat]? fun z=>ifB (!decide (i64.wrap (b+1)<=z/\z<=(30:Int)))
 rF (some (Ex.normal,[V.j z,V.sl (Cd.int .i64) ns,V.j c,V.j (i64.wrap (i+1))],[])))) (some (Ex.exit 0,[],[]))):_):=by kernel_rfl
theorem Nk (ns:List Int):Bg prog (Aa [(42,.rd1 AT)]) (Aa [(3,rnE)]) f18 [.sl (.int .i64) ns] [] =
 ((ifT (decide ((0:Int)<=(0:Int)/\0<=ns.length/\(↑ns.length:Int)=(↑ns.length:Int)/\ns.length<=maxI/\(0:Int)<=(0:Int)/\(0:Int)<=(30:Int)))
 (ifB (rnB (0:Int) (drop 0 ns)) (some (V.b true,[])) nF)):_):=by kernel_rfl
theorem OK (ns:List Int) (nt:Bool) (fs:List Pl) (hf:fs.length<=100000) (o:List Pl) (n:Nat) (h:n<fs.length) (ho:o.length<=n):A4 prog (Aa [(33,.rd1 Cb)]) (Aa [(3,I9)]) 0 (body f19 0) I9 ([.sl (.int .i64) ns,.b nt,.ref 0 0 o.length,.sl PCd fs,.j (fs.length:Int),.j (n:Int)],[R0 PCd o])=some ((.normal:Ex),(fun (o:List Pl) (n:Nat)=>(([.sl (.int .i64) ns,.b nt,.ref 0 0 o.length,.sl PCd fs,.j (fs.length:Int),.j (n:Int)],[R0 PCd o]):Dt)) (bif (ns.contains fs[n].1.1 != nt) then o++[id fs[n]] else o) (n+1)):=by
 rw [GN]
 dsimp only [shr]
 have w1:i64.wrap ((n:Int)+1)=((n+1:Nat):Int):=by rw [Ak (by omega) (by omega)]; omega
 rw [Ah (dcT (by omega)),T2 (by omega),ntN,gtE h,A7,w1]
 have e:(!(decide (fs[n].1.1∈ns)==nt))=(ns.contains fs[n].1.1 != nt):=by rw [List.contains_eq_mem]; rfl
 rw [e]
 cases (ns.contains fs[n].1.1 != nt) with
 | false=>rw [AI]; rfl
 | true=>
  rw [BT,Ad (by simp only [anE,dcE]; unfold maxI; omega),drop_zero,take_length]
  simp only [cond_true,length_append,length_cons,List.length_nil,zero_add,A9,id]
theorem OL:Aq prog (Aa [(33,.rd1 Cb)]) (Aa [(3,I9)]) 0 (f19.body.getD .skip):=by
 refine Ap (a:=body f19 0) (by kernel_rfl) fun d ex d' h=>?_
 unfold I9 at h
 dsimp only at h
 split at h
 ·rename_i ns nt m fs c i o
  obtain ⟨hc,hx⟩:=Af h
  obtain ⟨k1,k2,k3,k4,k5,k6⟩:=of_decide_eq_true hc
  obtain ⟨j,rfl⟩:=eq_ofNat_of_zero_le k1
  simp only [ntN] at k2 k6 hx
  subst k3 k4
  have key:=CN (l:=fs) (fun p:Pl=>ns.contains p.1.1 != nt) id (fun (o:List Pl) (n:Nat)=>(([.sl (.int .i64) ns,.b nt,.ref 0 0 o.length,.sl PCd fs,.j (fs.length:Int),.j (n:Int)],[R0 PCd o]):Dt)) (fun o=>((.exit 0:Ex),([.ref 0 0 o.length],[R0 PCd o]))) (by simp) (fun o n h ho=>OK ns nt fs k5 o n h ho) (fun o ho=>by
   rw [GN,Ae (dcF (by omega))]) (fs.length-j) j o (by omega) k6
  have hx:=A8 hx
  unfold Bx at hx
  obtain ⟨rfl,rfl⟩:=Prod.mk.inj hx
  simp only [List.map_id_fun,id] at key
  exact key
 ·cases h
theorem hav:Ag prog 19 (Ent.rd1 N3).F:=by
 refine fcC (kc func33 HO KnowsL.nil).knows (Λ:=(Aa [(3,I9)])) func19 fun vs bs r hq=>?_
 unfold Ent.F N3 at hq
 dsimp only at hq
 split at hq
 ·rename_i fs ns nt
  obtain ⟨hc,hx⟩:=Af hq
  have hc:=of_decide_eq_true hc
  refine ⟨OL,(Mw fs ns nt).trans (Eq.trans ?_ hx)⟩
  dsimp only [shr]
  rw [Ad (dcT ⟨by omega,by omega,by first | trivial | rfl,by first | trivial | rfl,hc,by omega⟩)]
  simp only [A9,drop_zero,nil_append]
  try rfl
 ·cases hq
theorem IF (fs:List Pl) (hf:fs.length<=100000) : ∀ (j i:Nat) (o:List WFd),i+j=fs.length->o.length=fs.length->Runs prog (Aa []) (Aa [(3,IG)]) 0 (body f24 0) IG ([.ref 0 0 fs.length,.sl PCd fs,.j (fs.length:Int),.j (i:Int)],[R0 FCd o]) (.exit 0) ([.ref 0 0 fs.length],[R0 FCd (o.take i++(fs.drop i).map fun z=>z.1)])
 | 0,i,o,hi,ho=>by
  have hr:=GR fs.length fs fs.length i o
  rw [Ae (dcF (by omega))] at hr
  rw [drop_eq_nil_of_le (by omega),map_nil,append_nil,List.take_of_length_le (by omega)]
  exact stp hr
 | j+1,i,o,hi,ho=>by
  have hl:i<fs.length:=by omega
  have hl2:i<o.length:=by omega
  have hr:=GR fs.length fs fs.length i o
  try dsimp only [shr] at hr
  have w1:i64.wrap ((i:Int)+1)=((i+1:Nat):Int):=by rw [Ak (by omega) (by omega)]; omega
  rw [Ah (dcT (by omega)),T2 (by omega),ntN,gtE hl,A7,T2 (by omega),zero_add,gtE hl2,A7,w1] at hr
  have ih:=IF fs hf j (i+1) (o.set i fs[i].1) (by omega) (by rw [List.length_set]; exact ho)
  have e:(o.set i fs[i].1).take (i+1)++((fs.drop (i+1)).map fun z=>z.1)=o.take i++(fs.drop i).map fun z=>z.1:=by
   rw [drop_eq_getElem_cons hl,List.map_cons,List.take_add_one,List.getElem?_set_self hl2,List.take_set_of_le (Nat.le_refl _),append_assoc]; rfl
  rw [e] at ih
  exact sts hr ih
theorem ON:Aq prog (Aa []) (Aa [(3,IG)]) 0 (f24.body.getD .skip):=by
 refine Ap (a:=body f24 0) (by kernel_rfl) fun d ex d' h=>?_
 unfold IG at h
 dsimp only at h
 split at h
 ·rename_i m fs c i o
  obtain ⟨hc,hx⟩:=Af h
  obtain ⟨k1,k2,k3,k4,k5,k6⟩:=of_decide_eq_true hc
  obtain ⟨j,rfl⟩:=eq_ofNat_of_zero_le k1
  simp only [ntN] at k2 hx
  obtain ⟨rfl,rfl⟩:=lfP hx
  rw [k4,k3,k6]
  exact IF fs k5 (fs.length-j) j o (by omega) k6
 ·cases h
theorem fof:Ag prog 24 (Ent.rd1 N5).F:=by
 refine fcC KnowsL.nil.knows (Λ:=(Aa [(3,IG)])) func24 fun vs bs r hq=>?_
 unfold Ent.F N5 at hq
 dsimp only at hq
 split at hq
 ·rename_i fs
  obtain ⟨hc,hx⟩:=Af hq
  have hc:=of_decide_eq_true hc
  refine ⟨ON,(Mz fs).trans (Eq.trans ?_ hx)⟩
  dsimp only [shr]
  rw [Ad (by simp only [anE,dcE]; omega),Ad (dcT ⟨by omega,by omega,by first | trivial | rfl,by simp,hc,by simp⟩)]
  simp only [A9,drop_zero,nil_append]
  rfl
 ·cases hq
theorem JL : ∀ (l:List Int) (b:Int),rnB b l=true↔(∀ x∈l,b<x/\x<=30)/\l.Pairwise (· < ·)
 | [],b=>by rw [rnB]; simp
 | n::l,b=>by
  rw [rnB,anE,dcE,JL l n,pairwise_cons]
  constructor
  ·rintro ⟨⟨h1,h2⟩,h3,h4⟩
   refine ⟨fun x hx=>?_,fun x hx=>(h3 x hx).1,h4⟩
   rcases mem_cons.1 hx with rfl | hx
   ·omega
   ·have:=h3 x hx; omega
  ·rintro ⟨h1,h2,h3⟩
   have:=h1 n mem_cons_self
   exact ⟨by omega,fun x hx=>⟨h2 x hx,(h1 x (mem_cons_of_mem _ hx)).2⟩,h3⟩
theorem Oz (ns:List Int):rnB 0 ns=AP ns:=by
 rw [Bool.eq_iff_iff,JL]
 unfold AP
 rw [anE,all_eq_true]
 constructor
 ·rintro ⟨h1,h2⟩
  exact ⟨fun x hx=>dcT (by have:=h1 x hx; omega),Im h2⟩
 ·rintro ⟨h1,h2⟩
  exact ⟨fun x hx=>by have:=of_decide_eq_true (h1 x hx); omega,Iv h2⟩
theorem JK (ns:List Int) (hm:ns.length<=maxI) : ∀ (j i:Nat) (b:Int),i+j=ns.length->0<=b/\b<=30->∀ e d',(Br.br (rnB b (ns.drop i)) (.leaf (.exit 0,([],[]))) (.leaf (.ret,([.b false],[]))):Br (Ex×Dt)).run=some (e,d')->Runs prog (Aa [(42,.rd1 AT)]) (Aa [(3,rnE)]) 0 (body f18 0) rnE ([.j b,.sl (.int .i64) ns,.j (ns.length:Int),.j (i:Int)],[]) e d'
 | 0,i,b,hi,hb,e,d',h=>by
  have hr:=Il b ns ns.length i
  rw [Ae (dcF (by omega))] at hr
  rw [drop_eq_nil_of_le (by omega),rnB] at h
  have h8:=A8 (show (Br.leaf (.exit 0,([],[])):Br (Ex×Dt)).run=some (e,d') from h)
  obtain ⟨rfl,rfl⟩:=Prod.mk.inj h8
  exact stp hr
 | j+1,i,b,hi,hb,e,d',h=>by
  have hM:=mxI
  have hl:i<ns.length:=by omega
  have hr:=Il b ns ns.length i
  have w1:i64.wrap ((i:Int)+1)=((i+1:Nat):Int):=by rw [Ak (by omega) (by omega)]; omega
  rw [Ah (dcT (by omega)),T2 (by omega),ntN,gtE hl,A7,w1,Ak (n:=b+1) (by omega) (by omega)] at hr
  rw [drop_eq_getElem_cons hl,rnB] at h
  cases hd:decide (b+1<=ns[i]/\ns[i]<=30) with
  | true=>
   rw [hd,Bool.not_true,AI] at hr
   rw [hd,Bool.true_and] at h
   have hd:=of_decide_eq_true hd
   exact sts hr (JK ns hm j (i+1) ns[i] (by omega) (by omega) e d' h)
  | false=>
   rw [hd,Bool.not_false,BT] at hr
   rw [hd,Bool.false_and] at h
   have h8:=A8 (show (Br.leaf (.ret,([.b false],[])):Br (Ex×Dt)).run=some (e,d') from h)
   obtain ⟨rfl,rfl⟩:=Prod.mk.inj h8
   exact stp hr
theorem P2:Aq prog (Aa [(42,.rd1 AT)]) (Aa [(3,rnE)]) 0 (f18.body.getD .skip):=by
 refine Ap (a:=body f18 0) (by kernel_rfl) fun d ex d' h=>?_
 unfold rnE at h
 dsimp only at h
 split at h
 ·rename_i b ns c i
  obtain ⟨hc,hx⟩:=Af h
  obtain ⟨k1,k2,k3,k4,k5,k6⟩:=of_decide_eq_true hc
  obtain ⟨j,rfl⟩:=eq_ofNat_of_zero_le k1
  simp only [ntN] at k2 hx
  subst k3
  exact JK ns k4 (ns.length-j) j b (by omega) ⟨k5,k6⟩ ex d' hx
 ·cases h
theorem rn:Ag prog 18 (Ent.rd1 rnG).F:=by
 refine C5 (kc func42 Jg KnowsL.nil).knows (Λ:=(Aa [(3,rnE)])) func18 (c:=f18.body.getD .skip) (by kernel_rfl) fun vs bs r hq hv hb=>?_
 unfold Ent.F rnG at hq
 dsimp only at hq
 split at hq
 ·rename_i ns
  have hm:ns.length<=maxI:=(hv (.sl (.int .i64) ns) (by simp)).1
  refine ⟨P2,(Nk ns).trans (Eq.trans ?_ hq)⟩
  rw [Ad (dcT ⟨by omega,by omega,by first | trivial | rfl,hm,by omega,by omega⟩),drop_zero,Oz]
  cases AP ns<;>rfl
 ·cases hq
end Go.Proofs.Ytiflknahhbkneaa.Den
