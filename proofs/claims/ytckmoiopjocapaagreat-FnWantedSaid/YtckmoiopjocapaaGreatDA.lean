/- What functions of the program do, by the machine: Cur Cur2 Ex Base Sch1 Sch2 Sch3 Sch4 Sch5 Sch6 Sch7 Sch8 Sch9 Sch10 Sch11 Sch12 Sch13 Val1 Fil1. -/
import Derived.Test.YtckmoiopjocapaaGreatDen4
import Derived.KernelRfl
import Derived.Test.YtckmoiopjocapaaGreatRows
open Go.IntKind (i64)
open Go.Proofs.Tryz
open List (all_eq_true append_assoc append_nil drop drop_eq_getElem_cons drop_eq_nil_of_le drop_zero getElem_mem mem_cons mem_map mem_range range replicate take take_length)
open Int (eq_ofNat_of_zero_le ofNat toNat toNat_zero)
open Nat (lt_succ_self strongRecOn zero_add)
open Option (map_some)
open Bool (decide_and)
namespace Go.Proofs.YtckmoiopjocapaaGreat.Den
open Go.Proofs
set_option maxRecDepth 100000
@[match_pattern] abbrev LCd:Cd:=.pair (.int .i64) (.pair .str (.pair (.int .i64) (.pair .bool (.pair (.int .i64) .unit))))
@[match_pattern] abbrev TCd:Cd:=.pair (.int .i64) (.pair .str (.pair (.int .i64) (.pair .bool (.pair (.int .i64) (.pair (.int .i64) .unit)))))
@[match_pattern] abbrev NCd:Cd:=.pair (.int .i64) (.pair .str (.pair (.int .i64) (.pair (.int .i64) (.pair .bool .unit))))
@[match_pattern] abbrev VCd:Cd:=.pair (.int .i64) (.pair .str (.pair (.int .i64) (.pair .bool .unit)))
@[match_pattern] abbrev WCd:Cd:=.pair (.int .i64) (.pair (.int .i64) (.pair (.int .i64) (.pair .str (.pair (.int .i64) (.pair (.int .i64) .unit)))))
@[match_pattern] abbrev NTd:Cd:=.pair .str (.pair (.int .i64) (.pair .str .unit))
@[match_pattern] abbrev FCd:Cd:=.pair (.int .i64) (.pair (.int .i64) (.pair (.int .i64) (.pair .str .unit)))
@[match_pattern] abbrev PCd:Cd:=.pair FCd (.pair (.int .i64) .unit)
@[match_pattern] abbrev TPd:Cd:=.pair .str (.pair (.pair (.slice TCd) .unit) (.pair (.int .i64) .unit))
@[match_pattern] abbrev FNd:Cd:=.pair (.int .i64) (.pair .str (.pair (.pair (.slice WCd) .unit) (.pair (.pair (.slice TCd) .unit) (.pair (.slice NTd) (.pair (.int .i64) .unit)))))
@[match_pattern] abbrev V.j (n:Int):V:=.i .i64 n
@[match_pattern] abbrev R0 (c:Cd) (l:List c.den):Option Blk:=some (.row false none c l)
@[match_pattern] abbrev D0 (c:Cd) (l:List c.den):Option Blk:=some (.drow c l none)
abbrev nF:Option (V×List (Option Blk)):=some (V.b false,[])
abbrev rF:Option (Ex×Dt):=some (Ex.ret,[V.b false],[])
abbrev Gm:=List V->List Blk->Br (V×List (Option Blk))
theorem dcT {p:Prop} [Decidable p] (h:p):decide p=true:=decide_eq_true h
theorem dcF {p:Prop} [Decidable p] (h : ¬p):decide p=false:=decide_eq_false h
theorem dcE {p:Prop} [Decidable p]:(decide p=true)=p:=decide_eq_true_eq
theorem anE (a b:Bool):((a&&b)=true)=(a=true/\b=true):=Bool.and_eq_true a b
theorem ntN (n:Nat):(n:Int).toNat=n:=Int.toNat_natCast n
theorem gtE {α:Type _} {l:List α} {i:Nat} (h:i<l.length):l[i]? = some l[i]:=List.getElem?_eq_getElem h
theorem kc {P:Program} {K:FuncId} {fn:Func} (hf:P.funcs[K]? = some fn) {e:Ent} {l:List (FuncId×Ent)} (h2:Ab P K e.F) (h:KnowsL P l) (hn:(fn.name == "runtime.NumGoroutine")=false:=by kernel_rfl) (hb:fn.body.isNone=false:=by kernel_rfl):KnowsL P ((K,e)::l):=.cons (Pt hf hn hb) h2 h
theorem mxI:maxI=9223372036854775807:=rfl
theorem lfP {α β:Type} {a c:α} {b d:β} (h:(Br.leaf (a,b)).run=some (c,d)):a=c/\b=d:=Prod.mk.inj (AI h)
section
variable {P:Program} {Γ:FuncId->Option Ent} {Λ:Nat->Option LoopEnt}
theorem stp {m:Nat} {a:Code} {ent:LoopEnt} {d:Dt} {e:Ex} {d':Dt} (h:As P Γ Λ m a ent d=some (e,d')) (he:e≠.normal:=by simp):Runs P Γ Λ m a ent d e d':=.stop d e d' h he
theorem sts {m:Nat} {a:Code} {ent:LoopEnt} {d d1:Dt} {e:Ex} {d':Dt} (h:As P Γ Λ m a ent d=some (.normal,d1)) (hr:Runs P Γ Λ m a ent d1 e d'):Runs P Γ Λ m a ent d e d':=.step d d1 e d' h hr
theorem fcC (hG:Knows P Γ) {K:FuncId} {fn:Func} (hf:P.funcs[K]? = some fn) {F:List V->List Blk->Option (V×List (Option Blk))} (hF : ∀ vs bs r,F vs bs=some r->Ar P Γ Λ bs.length (fn.body.getD .skip)/\Ba P Γ Λ fn vs bs=some r) (hb:fn.body=some (fn.body.getD .skip):=by kernel_rfl):Ab P K F:=EE hG hf hb fun vs bs r h _ _=>hF vs bs r h
theorem fcN (hG:Knows P Γ) {K:FuncId} {fn:Func} (hf:P.funcs[K]? = some fn) {F:List V->List Blk->Option (V×List (Option Blk))} (hF : ∀ vs bs r,F vs bs=some r->Ar P Γ Λ bs.length (fn.body.getD .skip)/\DZ P Γ Λ fn vs bs=some r) (hb:fn.body=some (fn.body.getD .skip):=by kernel_rfl):Ab P K F:=If hG hf hb fun vs bs r h _ _=>hF vs bs r h
theorem fcK (hG:Knows P Γ) {K:FuncId} {fn:Func} (hf:P.funcs[K]? = some fn) {F:List V->List Blk->Option (V×List (Option Blk))} (hF : ∀ vs bs r,F vs bs=some r->Ar P Γ Λ bs.length (fn.body.getD .skip)/\A3 P Γ Λ fn vs bs=some r) (hb:fn.body=some (fn.body.getD .skip):=by kernel_rfl):Ab P K F:=Bn hG hf hb fun vs bs r h _ _=>hF vs bs r h
end
theorem T2 {β:Type} {A B:Prop} [Decidable A] [Decidable B] {k:Option β} (h:A/\B):ifT (decide A&&decide B) k=k:=Ae (by rw [decide_eq_true h.1,decide_eq_true h.2]; rfl)
@[match_pattern] abbrev Lt (a:Int) (b:List UInt8) (c:Int) (d:Bool) (e:Int) (f:List (Cd.rose LCd).den):List V:=[.i .i64 a,.s b,.i .i64 c,.b d,.i .i64 e,.sl (.rose LCd) f]
@[match_pattern] abbrev Lv (a:Int) (b:List UInt8) (c:Int) (d:Bool) (f:List (Cd.rose VCd).den):List V:=[.i .i64 a,.s b,.i .i64 c,.b d,.sl (.rose VCd) f]
@[match_pattern] abbrev Lf (a:Int) (b:List UInt8) (c:List WCd.den) (d:List TCd.den) (e:List NTd.den) (f:Int):List V:=[.i .i64 a,.s b,.sl WCd c,.sl TCd d,.sl NTd e,.i .i64 f]
@[match_pattern] abbrev Lw (a b c:Int) (d:List UInt8) (e f:Int):List V:=[.i .i64 a,.i .i64 b,.i .i64 c,.s d,.i .i64 e,.i .i64 f]
@[match_pattern] abbrev Ly (a:Int) (b:List UInt8) (c:Int) (d:Bool) (e f:Int):List V:=[.i .i64 a,.s b,.i .i64 c,.b d,.i .i64 e,.i .i64 f]
abbrev By:=List UInt8
abbrev RL:=List (Rose (Int×List UInt8×Int×Bool×Int×Unit))
abbrev RVL:=List (Rose (Int×List UInt8×Int×Bool×Unit))
structure Cur where
 l:List Int
 a:Int
 s:Int
def Cur.byte (c:Cur):Int:=if c.a<c.l.length then i64.wrap (c.l.getD c.a.toNat 0) else 0
def Cur.seed (c:Cur):Int:=IntKind.u64.wrap (IntKind.u64.wrap (IntKind.u64.wrap (c.s*6364136223846793005)+IntKind.u64.wrap c.byte)+1442695040888963407)
def Cur.val (c:Cur):Int:=if c.a+1<=c.l.length then c.byte else i64.wrap (IntKind.u64.wrap (((BitVec.ofInt IntKind.u64.bits (c.seed.fdiv ((2:Int) ^ min 40 IntKind.u64.bits)) &&& BitVec.ofInt IntKind.u64.bits 255).toNat:Nat):Int))
def Cur.adv (c:Cur):Cur:=⟨c.l,c.a+1,c.seed⟩
def Cur.good (c:Cur) (n:Int):Prop:=(∀ z∈c.l,0<=z/\z<=255)/\0<=c.a/\c.a<=n
instance (c:Cur) (n:Int):Decidable (c.good n):=by unfold Cur.good; exact inferInstance
def Cur.pickV (c:Cur) (n:Int):Int:=if n<=1 then 0 else if n>200 then (c.val*256+c.adv.val).tmod n else c.val.tmod n
def Cur.pickC (c:Cur) (n:Int):Cur:=if n<=1 then c else if n>200 then c.adv.adv else c.adv
def K3:Gm
 | [.ptr 0 0],[.box [.sl (.int .u8) l,.j a,.i .u64 s]]=>.need (decide ((Cur.mk l a s).good 1000000000)) (.leaf (.j (Cur.mk l a s).val,[some (.box [.sl (.int .u8) (Cur.mk l a s).adv.l,.j (Cur.mk l a s).adv.a,.i .u64 (Cur.mk l a s).adv.s])]))
 | _,_=>.no
theorem Cur.byte_range {c:Cur} {n:Int} (h:c.good n):0<=c.byte/\c.byte<=255:=by
 unfold Cur.byte;split
 ·rename_i ha;have h0:=h.2.1;have hi:c.a.toNat<c.l.length:=by omega
  have hz:=h.1 _ (getElem_mem hi);have eg:c.l.getD c.a.toNat 0=c.l[c.a.toNat]:=by simp [hi]
  rw [eg,An (by omega) (by omega)];exact hz
 ·omega
theorem Cur.val_range {c:Cur} {n:Int} (h:c.good n):0<=c.val/\c.val<=255:=by
 unfold Cur.val;split
 ·exact Cur.byte_range h
 ·generalize BitVec.ofInt IntKind.u64.bits (c.seed.fdiv ((2:Int) ^ min 40 IntKind.u64.bits))=x
  have hx:(x &&& BitVec.ofInt IntKind.u64.bits 255).toNat<=255:=by
   rw [BitVec.toNat_and];exact Nat.le_trans Nat.and_le_right (by decide)
  generalize (x &&& BitVec.ofInt IntKind.u64.bits 255).toNat=m at hx
  have e1:IntKind.u64.wrap (m:Int)=(m:Int):=by
   unfold IntKind.wrap;simp [IntKind.bits,IntKind.signed];omega
  rw [e1,An (by omega) (by omega)];omega
theorem Cur.adv_good {c:Cur} {n:Int} (h:c.good n):c.adv.good (n+1):=⟨h.1,by show 0<=c.a+1; have:=h.2.1; omega,by show c.a+1<=n+1; have:=h.2.2; omega⟩
theorem Cur.good_mono {c:Cur} {n m:Int} (h:c.good n) (hm:n<=m):c.good m:=⟨h.1,h.2.1,by have:=h.2.2; omega⟩
theorem Cur.pickC_good {c:Cur} {n k:Int} (h:c.good n):(c.pickC k).good (n+2):=by
 unfold Cur.pickC;split
 ·exact Cur.good_mono h (by omega)
 ·split
  ·have:=Cur.adv_good (Cur.adv_good h);exact Cur.good_mono this (by omega)
  ·exact Cur.good_mono (Cur.adv_good h) (by omega)
theorem Cur.pickV_range {c:Cur} {n k:Int} (h:c.good n) (hk:1<=k):0<=c.pickV k/\c.pickV k<k:=by
 have h1:=Cur.val_range h;have h2:=Cur.val_range (Cur.adv_good h);unfold Cur.pickV;split
 ·omega
 ·split
  ·rw [Int.tmod_eq_emod_of_nonneg (by omega)];exact ⟨Int.emod_nonneg _ (by omega),Int.emod_lt_of_pos _ (by omega)⟩
  ·rw [Int.tmod_eq_emod_of_nonneg (by omega)];exact ⟨Int.emod_nonneg _ (by omega),Int.emod_lt_of_pos _ (by omega)⟩
theorem P7 (l:List Int) (a s:Int) (hc:(Cur.mk l a s).good 1000000000):A3 prog (Aa []) (Aa []) f133 [.ptr 0 0] [.box [.sl (.int .u8) l,.j a,.i .u64 s]]=(.leaf (.j (Cur.mk l a s).val,[some (.box [.sl (.int .u8) (Cur.mk l a s).adv.l,.j (Cur.mk l a s).adv.a,.i .u64 (Cur.mk l a s).adv.s])]):Br (V×List (Option Blk))).run:=by
 have e:A3 prog (Aa []) (Aa []) f133 [.ptr 0 0] [.box [.sl (.int .u8) l,.j a,.i .u64 s]] =
  ((ifB (decide (a<(↑l.length:Int))) (ifT (decide (0<=a)&&decide (a<(↑l.length:Int))) (Al l[a.toNat]? fun z=>ifB (decide (i64.wrap (a+1)<=
 (↑l.length:Int))) (some (V.j (i64.wrap z),[some (Blk.box [V.sl (Cd.int .u8) l,V.j (i64.wrap (a+1)),V.i .u64 (IntKind.u64.wrap
 (IntKind.u64.wrap (IntKind.u64.wrap (s*6364136223846793005)+IntKind.u64.wrap (i64.wrap z))+(1442695040888963407:Int)))])])) (some (V.i .i64
 (i64.wrap (IntKind.u64.wrap (↑(BitVec.ofInt IntKind.u64.bits ((IntKind.u64.wrap (IntKind.u64.wrap (IntKind.u64.wrap (s*6364136223846793005)+IntKind.u64.wrap
 (i64.wrap z))+(1442695040888963407:Int))).fdiv ((2:Int) ^ min 40 IntKind.u64.bits)) &&& BitVec.ofInt IntKind.u64.bits (255:Int)).toNat:Int))),
 [some (Blk.box [V.sl (Cd.int .u8) l,V.j (i64.wrap (a+1)),V.i .u64 (IntKind.u64.wrap (IntKind.u64.wrap (IntKind.u64.wrap (s*6364136223846793005) +
 IntKind.u64.wrap (i64.wrap z))+(1442695040888963407:Int)))])])))) (ifB (decide (i64.wrap (a+1)<=(↑l.length:Int))) (some (V.j 0,[some
 (Blk.box [V.sl (Cd.int .u8) l,V.j (i64.wrap (a+1)),V.i .u64 (IntKind.u64.wrap (IntKind.u64.wrap (IntKind.u64.wrap (s*6364136223846793005) +
 IntKind.u64.wrap (0:Int))+(1442695040888963407:Int)))])])) (some (V.j (i64.wrap (IntKind.u64.wrap (↑(BitVec.ofInt IntKind.u64.bits ((IntKind.u64.wrap
 (IntKind.u64.wrap (IntKind.u64.wrap (s*6364136223846793005)+IntKind.u64.wrap (0:Int))+(1442695040888963407:Int))).fdiv ((2:Int) ^ min 40
 IntKind.u64.bits)) &&& BitVec.ofInt IntKind.u64.bits (255:Int)).toNat:Int))),[some (Blk.box [V.sl (Cd.int .u8) l,V.j (i64.wrap (a+1)),V.i .u64
 (IntKind.u64.wrap (IntKind.u64.wrap (IntKind.u64.wrap (s*6364136223846793005)+IntKind.u64.wrap (0:Int))+(1442695040888963407:Int)))])])))):_):=by kernel_rfl
 rw [e];clear e;have h0:=hc.2.1;have h1:=hc.2.2;dsimp only at h0 h1;rw [An (n:=a+1) (by omega) (by omega)]
 by_cases q:a<(l.length:Int)
 ·have hi:a.toNat<l.length:=by omega
  have eb:(Cur.mk l a s).byte=i64.wrap l[a.toNat]:=by unfold Cur.byte; dsimp only; rw [if_pos q]; simp [hi]
  have q1:a+1<=(l.length:Int):=by omega
  rw [Ag (dcT q),T2 (by omega),gtE hi,Am,Ag (dcT q1),<-eb];have ev:(Cur.mk l a s).val=(Cur.mk l a s).byte:=by unfold Cur.val; dsimp only; rw [if_pos q1]
  rw [ev];rfl
 ·have eb:(Cur.mk l a s).byte=0:=by unfold Cur.byte; dsimp only; rw [if_neg q]
  have q1 : ¬a+1<=(l.length:Int):=by omega
  rw [Ad (dcF q),Ad (dcF q1),<-eb];have ev:(Cur.mk l a s).val=i64.wrap (IntKind.u64.wrap (((BitVec.ofInt IntKind.u64.bits ((Cur.mk l a s).seed.fdiv ((2:Int) ^ min 40 IntKind.u64.bits)) &&& BitVec.ofInt IntKind.u64.bits 255).toNat:Nat):Int)):=by unfold Cur.val; dsimp only; rw [if_neg q1]
  rw [ev];rfl
theorem Wu:Ab prog 133 (Ent.own K3).F:=by
 refine fcK KnowsL.nil.knows (Λ:=Aa []) func133 fun vs bs r h=>?_
 unfold Ent.F K3 at h;dsimp only at h;split at h
 ·rename_i l a s;obtain ⟨hc,h⟩:=Ac h;exact ⟨Aj _,(P7 l a s (of_decide_eq_true hc)).trans h⟩
 ·cases h
def AV:Gm
 | [.ptr 0 0,.j n],[.box [.sl (.int .u8) l,.j a,.i .u64 s]]=>.need (decide ((Cur.mk l a s).good 900000000)) (.leaf (.j ((Cur.mk l a s).pickV n),[some (.box [.sl (.int .u8) ((Cur.mk l a s).pickC n).l,.j ((Cur.mk l a s).pickC n).a,.i .u64 ((Cur.mk l a s).pickC n).s])]))
 | _,_=>.no
def DF:Gm
 | [.ptr 0 0,.j n],[.box [.sl (.int .u8) l,.j a,.i .u64 s]]=>.need (decide ((Cur.mk l a s).good 900000000)) (.leaf (.b ((Cur.mk l a s).pickV n==0),[some (.box [.sl (.int .u8) ((Cur.mk l a s).pickC n).l,.j ((Cur.mk l a s).pickC n).a,.i .u64 ((Cur.mk l a s).pickC n).s])]))
 | _,_=>.no
def EW:Gm
 | [.ptr 0 0,.ref 1 p m],[.box [.sl (.int .u8) l,.j a,.i .u64 s],.row false nl (.int .i64) r]=>.need (decide ((Cur.mk l a s).good 900000000/\1<=m/\p+m<=r.length)) (.leaf (.j (r.getD (p+((Cur.mk l a s).pickV m).toNat) 0),[some (.box [.sl (.int .u8) ((Cur.mk l a s).pickC m).l,.j ((Cur.mk l a s).pickC m).a,.i .u64 ((Cur.mk l a s).pickC m).s]),some (.row false nl (.int .i64) r)]))
 | _,_=>.no
def GB:Gm
 | [.ptr 0 0,.ref 1 p m],[.box [.sl (.int .u8) l,.j a,.i .u64 s],.row false nl .str r]=>.need (decide ((Cur.mk l a s).good 900000000/\1<=m/\p+m<=r.length)) (.leaf (.s (r.getD (p+((Cur.mk l a s).pickV m).toNat) []),[some (.box [.sl (.int .u8) ((Cur.mk l a s).pickC m).l,.j ((Cur.mk l a s).pickC m).a,.i .u64 ((Cur.mk l a s).pickC m).s]),some (.row false nl .str r)]))
 | _,_=>.no
theorem P6 (n:Int) (l:List Int) (a s:Int) (hc:(Cur.mk l a s).good 900000000):A3 prog (Aa [(133,.own K3)]) (Aa []) f90 [.ptr 0 0,.j n] [.box [.sl (.int .u8) l,.j a,.i .u64 s]]=(.leaf (.j ((Cur.mk l a s).pickV n),[some (.box [.sl (.int .u8) ((Cur.mk l a s).pickC n).l,.j ((Cur.mk l a s).pickC n).a,.i .u64 ((Cur.mk l a s).pickC n).s])]):Br (V×List (Option Blk))).run:=by
 have e:A3 prog (Aa [(133,.own K3)]) (Aa []) f90 [.ptr 0 0,.j n] [.box [.sl (.int .u8) l,.j a,.i .u64 s]] =
  ((ifB (decide (n<=1)) (some (V.j 0,[some (Blk.box [V.sl (Cd.int .u8) l,V.j a,V.i .u64 s])])) (ifT (decide ((Cur.mk l a s).good (1000000000:Int))) (ifB
 (decide (n>200)) (ifT (decide ((Cur.mk l a s).adv.good (1000000000:Int))) (ifT (!decide (n=0)) (some (V.j ((i64.wrap (i64.wrap ((Cur.mk l a
 s).val*(256:Int))+(Cur.mk l a s).adv.val)).tmod n),[some (Blk.box [V.sl (Cd.int .u8) (Cur.mk l a s).adv.adv.l,V.j (Cur.mk l a s).adv.adv.a,V.i .u64 (Cur.mk
 l a s).adv.adv.s])])))) (ifT (!decide (n=0)) (some (V.j ((Cur.mk l a s).val.tmod n),[some (Blk.box [V.sl (Cd.int .u8) (Cur.mk l a s).adv.l,V.j (Cur.mk l a
 s).adv.a,V.i .u64 (Cur.mk l a s).adv.s])])))))):_):=by kernel_rfl
 rw [e];clear e;have g0:(Cur.mk l a s).good 1000000000:=Cur.good_mono hc (by omega);have g1:(Cur.mk l a s).adv.good 1000000000:=Cur.good_mono (Cur.adv_good hc) (by omega);have r0:=Cur.val_range g0;have r1:=Cur.val_range g1;unfold Cur.pickV Cur.pickC
 try rw [show Cur.mk (Cur.mk l a s).adv.l (Cur.mk l a s).adv.a (Cur.mk l a s).adv.s=(Cur.mk l a s).adv from rfl]
 by_cases q:n<=1
 ·rw [Ag (dcT q),if_pos q,if_pos q]; rfl
 ·rw [Ad (dcF q),Ae (dcT g0),if_neg q,if_neg q]
  by_cases q2:n>200
  ·rw [Ag (dcT q2),Ae (dcT g1),Ae (by simp; omega),if_pos q2,if_pos q2,An (n:=(Cur.mk l a s).val*256) (by omega) (by omega),An (by omega) (by omega)]; rfl
  ·rw [Ad (dcF q2),Ae (by simp; omega),if_neg q2,if_neg q2]; rfl
theorem Fm:Ab prog 90 (Ent.own AV).F:=by
 refine fcK (kc func133 Wu KnowsL.nil).knows (Λ:=Aa []) func90 fun vs bs r h=>?_
 unfold Ent.F AV at h;dsimp only at h;split at h
 ·rename_i n l a s;obtain ⟨hc,h⟩:=Ac h;exact ⟨Aj _,(P6 n l a s (of_decide_eq_true hc)).trans h⟩
 ·cases h
theorem Sa (n:Int) (l:List Int) (a s:Int) (hc:(Cur.mk l a s).good 900000000):A3 prog (Aa [(90,.own AV)]) (Aa []) f67 [.ptr 0 0,.j n] [.box [.sl (.int .u8) l,.j a,.i .u64 s]]=(.leaf (.b ((Cur.mk l a s).pickV n==0),[some (.box [.sl (.int .u8) ((Cur.mk l a s).pickC n).l,.j ((Cur.mk l a s).pickC n).a,.i .u64 ((Cur.mk l a s).pickC n).s])]):Br (V×List (Option Blk))).run:=by
 have e:A3 prog (Aa [(90,.own AV)]) (Aa []) f67 [.ptr 0 0,.j n] [.box [.sl (.int .u8) l,.j a,.i .u64 s]] =
  ((ifT (decide ((Cur.mk l a s).good (900000000:Int))) (some (V.b ((Cur.mk l a s).pickV n==0),[some (Blk.box [V.sl (Cd.int .u8) ((Cur.mk l a s).pickC n).l,V.i .i64
 ((Cur.mk l a s).pickC n).a,V.i .u64 ((Cur.mk l a s).pickC n).s])]))):_):=by kernel_rfl
 rw [e,Ae (dcT hc)];rfl
theorem TL:Ab prog 67 (Ent.own DF).F:=by
 refine fcK (kc func90 Fm KnowsL.nil).knows (Λ:=Aa []) func67 fun vs bs r h=>?_
 unfold Ent.F DF at h;dsimp only at h;split at h
 ·rename_i n l a s;obtain ⟨hc,h⟩:=Ac h;exact ⟨Aj _,(Sa n l a s (of_decide_eq_true hc)).trans h⟩
 ·cases h
theorem Nx (p m:Nat) (l:List Int) (a s:Int) (nl:Option Bool) (r:List Int) (hc:(Cur.mk l a s).good 900000000/\1<=m/\p+m<=r.length):A3 prog (Aa [(90,.own AV)]) (Aa []) f107 [.ptr 0 0,.ref 1 p m] [.box [.sl (.int .u8) l,.j a,.i .u64 s],.row false nl (.int .i64) r]=(.leaf (.j (r.getD (p+((Cur.mk l a s).pickV m).toNat) 0),[some (.box [.sl (.int .u8) ((Cur.mk l a s).pickC m).l,.j ((Cur.mk l a s).pickC m).a,.i .u64 ((Cur.mk l a s).pickC m).s]),some (.row false nl (.int .i64) r)]):Br (V×List (Option Blk))).run:=by
 have e:A3 prog (Aa [(90,.own AV)]) (Aa []) f107 [.ptr 0 0,.ref 1 p m] [.box [.sl (.int .u8) l,.j a,.i .u64 s],.row false nl (.int .i64) r] =
  ((ifT (decide ((Cur.mk l a s).good (900000000:Int))) (ifT (decide ((0:Int)<=(Cur.mk l a s).pickV (↑m:Int))&&decide ((Cur.mk l a s).pickV (↑m:Int)<(↑m:Int)))
 (Al r[p+((Cur.mk l a s).pickV (↑m:Int)).toNat]? fun z=>some (V.j z,[some (Blk.box [V.sl (Cd.int .u8) ((Cur.mk l a s).pickC (↑m:Int)).l,V.i .i64
 ((Cur.mk l a s).pickC (↑m:Int)).a,V.i .u64 ((Cur.mk l a s).pickC (↑m:Int)).s]),some (Blk.row false nl (Cd.int .i64) r)])))):_):=by kernel_rfl
 obtain ⟨h1,h2,h3⟩:=hc;have hr:=Cur.pickV_range (k:=(m:Int)) h1 (by omega);have hi:p+((Cur.mk l a s).pickV m).toNat<r.length:=by omega
 have eg:r.getD (p+((Cur.mk l a s).pickV m).toNat) 0=r[p+((Cur.mk l a s).pickV m).toNat]:=by simp [hi]
 rw [e,Ae (dcT h1),T2 (by omega),gtE hi,Am,eg];rfl
theorem Sd:Ab prog 107 (Ent.own EW).F:=by
 refine fcK (kc func90 Fm KnowsL.nil).knows (Λ:=Aa []) func107 fun vs bs r h=>?_
 unfold Ent.F EW at h;dsimp only at h;split at h
 ·rename_i p m l a s nl r;obtain ⟨hc,h⟩:=Ac h;exact ⟨Aj _,(Nx p m l a s nl r (of_decide_eq_true hc)).trans h⟩
 ·cases h
theorem TM (p m:Nat) (l:List Int) (a s:Int) (nl:Option Bool) (r:List (By)) (hc:(Cur.mk l a s).good 900000000/\1<=m/\p+m<=r.length):A3 prog (Aa [(90,.own AV)]) (Aa []) f92 [.ptr 0 0,.ref 1 p m] [.box [.sl (.int .u8) l,.j a,.i .u64 s],.row false nl .str r]=(.leaf (.s (r.getD (p+((Cur.mk l a s).pickV m).toNat) []),[some (.box [.sl (.int .u8) ((Cur.mk l a s).pickC m).l,.j ((Cur.mk l a s).pickC m).a,.i .u64 ((Cur.mk l a s).pickC m).s]),some (.row false nl .str r)]):Br (V×List (Option Blk))).run:=by
 have e:A3 prog (Aa [(90,.own AV)]) (Aa []) f92 [.ptr 0 0,.ref 1 p m] [.box [.sl (.int .u8) l,.j a,.i .u64 s],.row false nl .str r] =
  ((ifT (decide ((Cur.mk l a s).good (900000000:Int))) (ifT (decide ((0:Int)<=(Cur.mk l a s).pickV (↑m:Int))&&decide ((Cur.mk l a s).pickV (↑m:Int)<(↑m:Int)))
 (Al r[p+((Cur.mk l a s).pickV (↑m:Int)).toNat]? fun z=>some (V.s z,[some (Blk.box [V.sl (Cd.int .u8) ((Cur.mk l a s).pickC (↑m:Int)).l,V.j ((Cur.mk l a
 s).pickC (↑m:Int)).a,V.i .u64 ((Cur.mk l a s).pickC (↑m:Int)).s]),some (Blk.row false nl Cd.str r)])))):_):=by kernel_rfl
 obtain ⟨h1,h2,h3⟩:=hc;have hr:=Cur.pickV_range (k:=(m:Int)) h1 (by omega);have hi:p+((Cur.mk l a s).pickV m).toNat<r.length:=by omega
 have eg:r.getD (p+((Cur.mk l a s).pickV m).toNat) []=r[p+((Cur.mk l a s).pickV m).toNat]:=by simp [hi]
 rw [e,Ae (dcT h1),T2 (by omega),gtE hi,Am,eg];rfl
theorem cof:Ab prog 92 (Ent.own GB).F:=by
 refine fcK (kc func90 Fm KnowsL.nil).knows (Λ:=Aa []) func92 fun vs bs r h=>?_
 unfold Ent.F GB at h;dsimp only at h;split at h
 ·rename_i p m l a s nl r;obtain ⟨hc,h⟩:=Ac h;exact ⟨Aj _,(TM p m l a s nl r (of_decide_eq_true hc)).trans h⟩
 ·cases h
def shr {α β:Type} (a:α) (k:α->β):β:=k a
def Ex1 {β Y:Type} (t:Option β) (sh:Y->β) (Q:Y->Prop):Prop:=∃ y,t=some (sh y)/\Q y
def cB (c:Cur):Blk:=.box [.sl (.int .u8) c.l,.j c.a,.i .u64 c.s]
theorem B3 (c:Cur):Blk.box [V.sl (Cd.int IntKind.u8) c.l,V.i i64 c.a,V.i IntKind.u64 c.s]=cB c:=rfl
theorem WN (l:List Int) (a s:Int):Blk.box [V.sl (Cd.int IntKind.u8) l,V.i i64 a,V.i IntKind.u64 s]=cB (Cur.mk l a s):=rfl
theorem Cur.pk {c:Cur} {m k:Int} (h:c.good (m-2)):(c.pickC k).good m:=by
 have:=Cur.pickC_good (k:=k) h
 rwa [Int.sub_add_cancel] at this
theorem Ex1.sh {α β Y:Type} {a:α} {k:α->Option β} {sh:Y->β} {Q:Y->Prop} (h:Ex1 (k a) sh Q):Ex1 (shr a k) sh Q:=h
theorem Ex1.T {β Y:Type} {c:Bool} {x:Option β} {sh:Y->β} {Q:Y->Prop} (h:c=true) (k:Ex1 x sh Q):Ex1 (ifT c x) sh Q:=by subst h; exact k
theorem Ex1.B {β Y:Type} {c:Bool} {x y:Option β} {sh:Y->β} {Q:Y->Prop} (h1:c=true->Ex1 x sh Q) (h2:c=false->Ex1 y sh Q):Ex1 (ifB c x y) sh Q:=by
 cases c with
 | true=>exact h1 rfl
 | false=>exact h2 rfl
theorem Ex1.S {α β Y:Type} {o:Option α} {k:α->Option β} {sh:Y->β} {Q:Y->Prop} (h : ∃ z,o=some z) (hk : ∀ z,o=some z->Ex1 (k z) sh Q):Ex1 (Al o k) sh Q:=by
 obtain ⟨z,rfl⟩:=h;exact hk z rfl
theorem Ex1.L {β Y:Type} {b:β} {sh:Y->β} {Q:Y->Prop} (y:Y) (h:b=sh y) (q:Q y):Ex1 (some b) sh Q:=⟨y,by rw [h],q⟩
theorem Ex1.P {α β Y:Type} {a:α} {b:β} {sh:Y->α×β} {Q:Y->Prop} (y:Y) (h2:b=(sh y).2) (h1:a=(sh y).1) (q:Q y):Ex1 (some (a,b)) sh Q:=⟨y,by rw [h1,h2],q⟩
theorem Ex1.P3 {α β γ Y:Type} {a:α} {b:β} {c:γ} {sh:Y->α×β×γ} {Q:Y->Prop} (y:Y) (h3:c=(sh y).2.2) (h2:b=(sh y).2.1) (h1:a=(sh y).1) (q:Q y):Ex1 (some (a,b,c)) sh Q:=⟨y,by rw [h1,h2,h3],q⟩
theorem Ex1.c {Y:Type} {v:V} {c:Cur} {B:List (Option Blk)} {s1:Y×Cur->V} {s2:Y×Cur->List (Option Blk)} {Q:Y×Cur->Prop} (y:Y) (h2:B=s2 (y,c)) (h1:v=s1 (y,c)) (q:Q (y,c)):Ex1 (some (v,some (cB c)::B)) (fun y=>(s1 y,some (cB y.2)::s2 y)) Q:=⟨(y,c),by rw [h1,h2],q⟩
theorem Ex1.c2 {Y:Type} {v:V} {c:Cur} {B:List (Option Blk)} {s1:Y×Cur->V} {s2:Y×Cur->List (Option Blk)} {Q:Y×Cur->Prop} (y:Y) (h2:B=s2 (y,c)) (h1:v=s1 (y,c)) (q:Q (y,c)):Ex1 (some (v,some (cB c)::none::B)) (fun y=>(s1 y,some (cB y.2)::none::s2 y)) Q:=⟨(y,c),by rw [h1,h2],q⟩
theorem Ex1.lc {A:Type} {e:Ex} {vs:List V} {c:Cur} {B:List (Option Blk)} {s0:Cur×A->Ex} {s1:Cur×A->List V} {s2:Cur×A->List (Option Blk)} {Q:Cur×A->Prop} (a:A) (h3:B=s2 (c,a)) (h2:vs=s1 (c,a)) (h1:e=s0 (c,a)) (q:Q (c,a)):Ex1 (some (e,vs,some (cB c)::B)) (fun y=>(s0 y,s1 y,some (cB y.1)::s2 y)) Q:=⟨(c,a),by rw [h1,h2,h3],q⟩
theorem Ex1.of {β Y:Type} {t t':Option β} {sh:Y->β} {Q:Y->Prop} (e:t=t') (k:Ex1 t' sh Q):Ex1 t sh Q:=by subst e; exact k
theorem Ex1.mono {β Y:Type} {t:Option β} {sh:Y->β} {Q Q':Y->Prop} (k:Ex1 t sh Q) (h : ∀ y,Q y->Q' y):Ex1 t sh Q':=by obtain ⟨y,h1,h2⟩:=k; exact ⟨y,h1,h y h2⟩
theorem CO {X Y:Type} (y0:Y) {I:X->Prop} {R:X->Y->Prop} (h : ∀ x,I x->∃ y,R x y) : ∃ f:X->Y,∀ x,I x->R x (f x):=by
 classical
 exact ⟨fun x=>if hx:I x then (h x hx).choose else y0,fun x hx=>by simp only [dif_pos hx]; exact (h x hx).choose_spec⟩
theorem HN {ι:Type} (o0:ι) {P:Program} {Γ:FuncId->Option Ent} {Λ:ι->Nat->Option LoopEnt} {m:Nat} {a:Code} {ent:ι->LoopEnt} {X Y:Type} (H:X->Dt) (E:Y->Ex×Dt) (hE : ∀ y,(E y).1≠.normal) (I:X->Prop) (Q:X->Y->Prop) (μ:X->Nat)
  (hT : ∀ o x,I x->As P Γ (Λ o) m a (ent o) (H x)=As P Γ (Λ o0) m a (ent o0) (H x))
  (hr : ∀ x,I x->Ex1 (As P Γ (Λ o0) m a (ent o0) (H x)) E (Q x)\/Ex1 (As P Γ (Λ o0) m a (ent o0) (H x)) (fun x'=>(.normal,H x')) (fun x'=>I x'/\μ x'<μ x/\∀ y,Q x' y->Q x y)) :
  ∀ x,I x->∃ y,(∀ o,Runs P Γ (Λ o) m a (ent o) (H x) (E y).1 (E y).2)/\Q x y:=by
 have key : ∀ n x,μ x<=n->I x->∃ y,(∀ o,Runs P Γ (Λ o) m a (ent o) (H x) (E y).1 (E y).2)/\Q x y:=by
  intro n
  induction n with
  | zero=>
   intro x hx hI;rcases hr x hI with ⟨y,h1,h2⟩ | ⟨x',h1,h2,h3,h4⟩
   ·exact ⟨y,fun o=>.stop _ _ _ ((hT o x hI).trans h1) (hE y),h2⟩
   ·omega
  | succ n ih=>
   intro x hx hI;rcases hr x hI with ⟨y,h1,h2⟩ | ⟨x',h1,h2,h3,h4⟩
   ·exact ⟨y,fun o=>.stop _ _ _ ((hT o x hI).trans h1) (hE y),h2⟩
   ·obtain ⟨y,h5,h6⟩:=ih x' (by omega) h2;exact ⟨y,fun o=>sts ((hT o x hI).trans h1) (h5 o),h4 y h6⟩
 exact fun x hI=>key (μ x) x (Nat.le_refl _) hI
theorem Ue {α:Type} {l:List α} {i:Nat} (h:i<l.length) : ∃ z,l[i]? = some z:=⟨_,gtE h⟩
theorem NR {α:Type} {c:Cur} {n:Int} {W:List α} (h:c.good n) (h1:1<=W.length):(c.pickV (W.length:Int)).toNat<W.length:=by
 have:=Cur.pickV_range (k:=(W.length:Int)) h (by omega);omega
theorem U5 {α:Type} {c:Cur} {n:Int} {W:List α} (h:c.good n) (h1:1<=W.length):(decide (0<=c.pickV (W.length:Int))&&decide (c.pickV (W.length:Int)<(W.length:Int)))=true:=by
 have:=Cur.pickV_range (k:=(W.length:Int)) h (by omega);simp only [anE,dcE];exact this
def AA:Gm
 | [.j a,.j b,.j c],[]=>.leaf (.b (decide (b<=a/\a<=c)),[])
 | _,_=>.no
theorem Mx (a b c:Int):A3 prog (Aa []) (Aa []) f69 [.j a,.j b,.j c] []=(.leaf (.b (decide (b<=a/\a<=c)),[]):Br (V×List (Option Blk))).run:=by
 have e:A3 prog (Aa []) (Aa []) f69 [.j a,.j b,.j c] []=((ifB (decide (a>=b)) (some (V.b (decide (a<=c)),[])) nF):_):=by kernel_rfl
 rw [e];clear e
 by_cases q1:a>=b<;>by_cases q2:a<=c<;>simp [q1,q2,Br.run]<;>omega
theorem Ew:Ab prog 69 (Ent.rd1 AA).F:=by
 refine fcK KnowsL.nil.knows (Λ:=Aa []) func69 fun vs bs r' hq=>?_
 unfold Ent.F AA at hq;dsimp only at hq;split at hq
 ·rename_i a b c;exact ⟨Aj _,(Mx a b c).trans hq⟩
 ·cases hq
theorem Re (a b c:Int):A3 prog (Aa []) (Aa []) f100 [.j a,.j b,.j c] []=(.leaf (.b (decide (b<=a/\a<=c)),[]):Br (V×List (Option Blk))).run:=by
 have e:A3 prog (Aa []) (Aa []) f100 [.j a,.j b,.j c] []=((ifB (decide (a>=b)) (some (V.b (decide (a<=c)),[])) nF):_):=by kernel_rfl
 rw [e];clear e
 by_cases q1:a>=b<;>by_cases q2:a<=c<;>simp [q1,q2,Br.run]<;>omega
theorem LD:Ab prog 100 (Ent.rd1 AA).F:=by
 refine fcK KnowsL.nil.knows (Λ:=Aa []) func100 fun vs bs r' hq=>?_
 unfold Ent.F AA at hq;dsimp only at hq;split at hq
 ·rename_i a b c;exact ⟨Aj _,(Re a b c).trans hq⟩
 ·cases hq
abbrev Lab:=Int×By×Int×Bool×Int×Unit
abbrev Ty:=Int×By×Int×Bool×Int×Int×Unit
def HM (b:UInt8):Bool:=decide (97<=b.toNat)&&decide (b.toNat<=122)
def E7 (s:By):Bool:=s.all HM&&(decide (1<=s.length)&&decide (s.length<=10))
def A7 (k:Int):Bool:=k==4||k==5
def Dm (k:Int) (x:Lab):Bool:=if k=5 then E7 x.2.1&&(decide (1<=x.2.2.1)&&decide (x.2.2.1<=30)) else x.2.1==[]&&x.2.2.1==0&&!x.2.2.2.1
def HJ:Gm
 | [.s s],[]=>.need (decide (s.length<=maxI)) (.leaf (.b (E7 s),[]))
 | _,_=>.no
def Hq:Gm
 | [.tp LCd z 0],[]=>.leaf (.b (A7 z.lab.1),[])
 | _,_=>.no
def Gb:Gm
 | [.j k],[]=>.leaf (.b (A7 k),[])
 | _,_=>.no
def Kc:Gm
 | [.tp LCd z 0,.j k],[]=>.need (decide (z.lab.2.1.length<=maxI)) (.leaf (.b (Dm k z.lab),[]))
 | _,_=>.no
def F7:LoopEnt:=⟨23,[0,5,6],[0],[2],fun
 | ([.s s,.j m,.j i],[])=>.need (decide (0<=i/\i.toNat<=s.length/\s.length<=maxI/\m=s.length)) (.br ((s.drop i.toNat).all HM) (.leaf (.exit 0,([.s s],[]))) (.leaf (.ret,([.b false],[]))))
 | _=>.no⟩
def Fu:LoopEnt:=⟨23,[0,3],[0],[2],fun
 | ([.s s,.j i],[])=>.need (decide (0<=i/\i.toNat<=s.length/\s.length<=maxI)) (.br ((s.drop i.toNat).all HM) (.leaf (.exit 0,([.s s],[]))) (.leaf (.ret,([.b false],[]))))
 | _=>.no⟩
theorem GR (s:By) (m i:Int):As prog (Aa [(69,.rd1 AA)]) (Aa [(2,F7)]) 0 (body f177 0) F7 ([.s s,.j m,.j i],[]) =
 ((ifB (decide (i<m)) (ifT (decide (0<=i)) (Al s[i.toNat]? fun z=>ifB (decide ((↑z.toNat:Int)<(97:Int))) rF (ifT (decide (0<=i))
 (Al s[i.toNat]? fun z=>ifB (decide ((↑z.toNat:Int)>(122:Int))) rF (some (Ex.normal,[V.s s,V.j m,V.i .i64
 (i64.wrap (i+1))],[])))))) (some (Ex.exit 0,[V.s s],[]))):_):=by kernel_rfl
theorem Rs:Ar prog (Aa [(69,.rd1 AA)]) (Aa [(2,F7)]) 0 (f177.body.getD .skip):=by
 refine Ap (a:=body f177 0) (by kernel_rfl) fun d e d' h=>?_
 unfold F7 at h;dsimp only at h;split at h
 ·rename_i s m i;obtain ⟨hc,hx⟩:=Ac h;clear h;obtain ⟨h0,h1,h2,rfl⟩:=of_decide_eq_true hc;obtain ⟨i,rfl⟩:=eq_ofNat_of_zero_le h0;rw [ntN] at h1 hx;refine BZ (l:=s) HM (fun i=>([.s s,.j (↑s.length:Int),.j (i:Int)],[])) (ex:=(.exit 0,([.s s],[]))) (rt:=(.ret,([.b false],[]))) (by simp) (by simp) (fun i hi=>?_) ?_ (s.length-i) i (by omega) e d' hx
  ·have hr:=GR s s.length i;rw [Ag (dcT (by omega))] at hr;simp only [ntN,gtE hi,Am,Ax (n:=i) (by omega)] at hr;refine hr.trans ?_;have hb:=s[i].toNat_lt;have hz:(0:Int)<=(i:Int):=by omega
   simp only [hz,decide_true,EC];unfold HM;generalize s[i].toNat=b at *;have c1:decide ((b:Int)<97) = !decide (97<=b):=by rw [<-decide_not]; exact decide_eq_decide.2 (by omega)
   have c2:decide ((b:Int)>122) = !decide (b<=122):=by rw [<-decide_not]; exact decide_eq_decide.2 (by omega)
   simp only [c1,c2];cases decide (97<=b)<;>cases decide (b<=122)<;>rfl
  ·have hr:=GR s s.length s.length;rw [Ad (dcF (by omega))] at hr;exact hr
 ·cases h
theorem Pm (s:By) (hc:s.length<=maxI):A3 prog (Aa [(69,.rd1 AA)]) (Aa [(2,F7)]) f177 [.s s] []=some (.b (E7 s),[]):=by
 have e:A3 prog (Aa [(69,.rd1 AA)]) (Aa [(2,F7)]) f177 [.s s] []=((ifT (decide ((0:Int)<=(0:Int)/\0<=s.length/\s.length<=maxI/\(↑s.length:Int)=(↑s.length:Int))) (ifB ((drop 0 s).all HM) (some (V.b
 (decide (1<=(↑s.length:Int)/\(↑s.length:Int)<=(10:Int))),[])) nF)):_):=by kernel_rfl
 rw [e];clear e;have hM:=mxI;rw [Ae (dcT (by simp; try omega))];simp only [drop_zero];unfold E7
 have d1:decide (1<=(s.length:Int)/\(s.length:Int)<=10)=(decide (1<=s.length)&&decide (s.length<=10)):=by
  rw [<-decide_and]; exact decide_eq_decide.2 (by omega)
 cases s.all HM
 ·rfl
 ·rw [Be,d1]; rfl
theorem We:Ab prog 177 (Ent.rd1 HJ).F:=by
 refine fcK (kc func69 Ew KnowsL.nil).knows (Λ:=(Aa [(2,F7)])) func177 fun vs bs r hq=>?_
 unfold Ent.F HJ at hq;dsimp only at hq;split at hq
 ·rename_i s;obtain ⟨hc,hx⟩:=Ac hq;exact ⟨Rs,(Pm s (of_decide_eq_true hc)).trans hx⟩
 ·cases hq
theorem GJ (s:By) (i:Int):As prog (Aa [(100,.rd1 AA)]) (Aa [(2,Fu)]) 0 (body f153 0) Fu ([.s s,.j i],[]) =
 ((ifB (decide (i<(↑s.length:Int))) (ifT (decide (0<=i)) (Al s[i.toNat]? fun z=>ifB (decide ((↑z.toNat:Int)<(97:Int))) rF (ifT
 (decide (0<=i)) (Al s[i.toNat]? fun z=>ifB (decide ((↑z.toNat:Int)>(122:Int))) rF (some (Ex.normal,[V.s s,V.i .i64
 (i64.wrap (i+1))],[])))))) (some (Ex.exit 0,[V.s s],[]))):_):=by kernel_rfl
theorem Qc:Ar prog (Aa [(100,.rd1 AA)]) (Aa [(2,Fu)]) 0 (f153.body.getD .skip):=by
 refine Ap (a:=body f153 0) (by kernel_rfl) fun d e d' h=>?_
 unfold Fu at h;dsimp only at h;split at h
 ·rename_i s i;obtain ⟨hc,hx⟩:=Ac h;clear h;obtain ⟨h0,h1,h2⟩:=of_decide_eq_true hc;obtain ⟨i,rfl⟩:=eq_ofNat_of_zero_le h0;rw [ntN] at h1 hx;refine BZ (l:=s) HM (fun i=>([.s s,.j (i:Int)],[])) (ex:=(.exit 0,([.s s],[]))) (rt:=(.ret,([.b false],[]))) (by simp) (by simp) (fun i hi=>?_) ?_ (s.length-i) i (by omega) e d' hx
  ·have hr:=GJ s i;rw [Ag (dcT (by omega))] at hr;simp only [ntN,gtE hi,Am,Ax (n:=i) (by omega)] at hr;refine hr.trans ?_;have hb:=s[i].toNat_lt;have hz:(0:Int)<=(i:Int):=by omega
   simp only [hz,decide_true,EC];unfold HM;generalize s[i].toNat=b at *;have c1:decide ((b:Int)<97) = !decide (97<=b):=by rw [<-decide_not]; exact decide_eq_decide.2 (by omega)
   have c2:decide ((b:Int)>122) = !decide (b<=122):=by rw [<-decide_not]; exact decide_eq_decide.2 (by omega)
   simp only [c1,c2];cases decide (97<=b)<;>cases decide (b<=122)<;>rfl
  ·have hr:=GJ s s.length;rw [Ad (dcF (by omega))] at hr;exact hr
 ·cases h
theorem OD (s:By) (hc:s.length<=maxI):A3 prog (Aa [(100,.rd1 AA)]) (Aa [(2,Fu)]) f153 [.s s] []=some (.b (E7 s),[]):=by
 have e:A3 prog (Aa [(100,.rd1 AA)]) (Aa [(2,Fu)]) f153 [.s s] []=((ifT (decide ((0:Int)<=(0:Int)/\0<=s.length/\s.length<=maxI)) (ifB ((drop 0 s).all HM) (some (V.b (decide (1<=(↑s.length:Int)/\
 (↑s.length:Int)<=(10:Int))),[])) nF)):_):=by kernel_rfl
 rw [e];clear e;have hM:=mxI;rw [Ae (dcT (by simp; try omega))];simp only [drop_zero];unfold E7
 have d1:decide (1<=(s.length:Int)/\(s.length:Int)<=10)=(decide (1<=s.length)&&decide (s.length<=10)):=by
  rw [<-decide_and]; exact decide_eq_decide.2 (by omega)
 cases s.all HM
 ·rfl
 ·rw [Be,d1]; rfl
theorem VG:Ab prog 153 (Ent.rd1 HJ).F:=by
 refine fcK (kc func100 LD KnowsL.nil).knows (Λ:=(Aa [(2,Fu)])) func153 fun vs bs r hq=>?_
 unfold Ent.F HJ at hq;dsimp only at hq;split at hq
 ·rename_i s;obtain ⟨hc,hx⟩:=Ac hq;exact ⟨Qc,(OD s (of_decide_eq_true hc)).trans hx⟩
 ·cases hq
theorem MZ (z:Rose Lab):A3 prog (Aa []) (Aa []) f86 [.tp LCd z 0] []=(.leaf (.b (A7 z.lab.1),[]):Br (V×List (Option Blk))).run:=by
 have e:A3 prog (Aa []) (Aa []) f86 [.tp LCd z 0] []=((ifB (z.lab.1==(4:Int)) (some (V.b true,[])) (some (V.b (z.lab.1==(5:Int)),[]))):_):=by kernel_rfl
 rw [e];clear e;unfold A7;cases z.lab.1==4<;>rfl
theorem Rh:Ab prog 86 (Ent.rd1 Hq).F:=by
 refine fcK KnowsL.nil.knows (Λ:=Aa []) func86 fun vs bs r' hq=>?_
 unfold Ent.F Hq at hq;dsimp only at hq;split at hq
 ·rename_i z;exact ⟨Aj _,(MZ z).trans hq⟩
 ·cases hq
theorem LB (k:Int):A3 prog (Aa []) (Aa []) f151 [.j k] []=(.leaf (.b (A7 k),[]):Br (V×List (Option Blk))).run:=by
 have e:A3 prog (Aa []) (Aa []) f151 [.j k] []=((ifB (k==4) (some (V.b true,[])) (some (V.b (k==5),[]))):_):=by kernel_rfl
 rw [e];clear e;unfold A7;cases k==4<;>rfl
theorem Oe:Ab prog 151 (Ent.rd1 Gb).F:=by
 refine fcK KnowsL.nil.knows (Λ:=Aa []) func151 fun vs bs r' hq=>?_
 unfold Ent.F Gb at hq;dsimp only at hq;split at hq
 ·rename_i k;exact ⟨Aj _,(LB k).trans hq⟩
 ·cases hq
theorem MF (z:Rose Lab) (k:Int) (hc:z.lab.2.1.length<=maxI):A3 prog (Aa [(177,.rd1 HJ),(69,.rd1 AA)]) (Aa []) f161 [.tp LCd z 0,.j k] []=some (.b (Dm k z.lab),[]):=by
 have e:A3 prog (Aa [(177,.rd1 HJ),(69,.rd1 AA)]) (Aa []) f161 [.tp LCd z 0,.j k] []=((ifB (k==5) (ifT (decide (List.length z.lab.2.1<=maxI)) (ifB (E7 z.lab.2.1) (some (V.b (decide ((1:Int)<=z.lab.2.2.1/\z.lab.2.2.1<=(30 :
 Int))),[])) nF)) (ifB (z.lab.2.1==Ai UInt8) (ifB (z.lab.2.2.1==(0:Int)) (some (V.b !z.lab.2.2.2.1,[])) nF) nF)):_):=by kernel_rfl
 rw [e];clear e;rw [dcT hc];unfold Dm;have d1:decide (1<=z.lab.2.2.1/\z.lab.2.2.1<=30)=(decide (1<=z.lab.2.2.1)&&decide (z.lab.2.2.1<=30)):=decide_and ..
 by_cases q:k=5
 ·subst q;rw [Ag (by rfl),if_pos rfl,d1];cases E7 z.lab.2.1<;>rfl
 ·rw [Ad (beq_false_of_ne q),if_neg q];cases z.lab.2.1==[]<;>cases z.lab.2.2.1==0<;>rfl
theorem U6:Ab prog 161 (Ent.rd1 Kc).F:=by
 refine fcK (kc func177 We (kc func69 Ew KnowsL.nil)).knows (Λ:=Aa []) func161 fun vs bs r hq=>?_
 unfold Ent.F Kc at hq;dsimp only at hq;split at hq
 ·rename_i z k;obtain ⟨hc,hx⟩:=Ac hq;exact ⟨Aj _,(MF z k (of_decide_eq_true hc)).trans hx⟩
 ·cases hq
def AN (l:List Ty) (i:Nat):Option Int:=(l[i]?).map fun x=>x.2.2.2.2.1
def Av (l:List Ty) (i:Nat):Lab:=match l[i]? with | some x=>(x.1,x.2.1,x.2.2.1,x.2.2.2.1,x.2.2.2.2.2.1,()) | none=>(0,[],0,false,0,())
def AO (g:Nat->Rose Lab×Nat) (l:List Ty) (a:Nat):Nat->Nat->RL->RL×Nat
 | 0,e,ks=>(ks,e)
 | n+1,e,ks=>if AN l e=some (a:Int) then AO g l a n (g e).2 (ks++[(g e).1]) else (ks,e)
def kfr (l:List Ty):Nat->Nat->Rose Lab×Nat
 | 0,a=>(.node (Av l a) [],a+1)
 | f+1,a=>
  let r:=bif A7 (Av l a).1 then AO (kfr l f) l a l.length (a+1) [] else ([],a+1)
  (.node (Av l a) r.1,r.2)
def kf (l:List Ty) (a:Nat):Rose Lab×Nat:=kfr l l.length a
def kfG (n:Nat):Gm
 | [.sl TCd l,.j a],[]=>.need (decide (0<=a/\a.toNat<l.length/\l.length<=4000000000/\l.length-a.toNat<=n)) (.leaf (.tup [.ptr 0 0,.j ((kf l a.toNat).2:Int)],[some (.box [.j (kf l a.toNat).1.lab.1,.s (kf l a.toNat).1.lab.2.1,.j (kf l a.toNat).1.lab.2.2.1,.b (kf l a.toNat).1.lab.2.2.2.1,.j (kf l a.toNat).1.lab.2.2.2.2.1,.ref 1 0 (kf l a.toNat).1.kids.length]),R0 (.tree LCd) (kf l a.toNat).1.kids]))
 | _,_=>.no
def ES:Gm
 | [.sl TCd l,.j a],[]=>.need (decide (0<=a/\a.toNat<l.length/\l.length<=4000000000)) (.leaf (.tup [.ptr 0 0,.j ((kf l a.toNat).2:Int)],[some (.box [.j (kf l a.toNat).1.lab.1,.s (kf l a.toNat).1.lab.2.1,.j (kf l a.toNat).1.lab.2.2.1,.b (kf l a.toNat).1.lab.2.2.2.1,.j (kf l a.toNat).1.lab.2.2.2.2.1,.ref 1 0 (kf l a.toNat).1.kids.length]),R0 (.tree LCd) (kf l a.toNat).1.kids]))
 | _,_=>.no
def kfE (n:Nat):LoopEnt:=⟨65,[0,1,7,8],[7,8],[],fun
 | ([.sl TCd l,.j a,.ptr 0 0,.j e],[some (.box [.j x0,.s x1,.j x2,.b x3,.j x4,.ref 1 0 k]),R0 (.tree LCd) ks])=>.need (decide (0<=a/\a<e/\a.toNat<l.length/\e.toNat<=l.length/\l.length<=4000000000/\k=ks.length/\ks.length<=e.toNat/\l.length-a.toNat<=n+1)) (.leaf (.exit 0,([.ptr 0 0,.j ((bif A7 x0 then AO (kf l) l a.toNat l.length e.toNat ks else (ks,e.toNat)).2:Int)],[some (.box [.j x0,.s x1,.j x2,.b x3,.j x4,.ref 1 0 (bif A7 x0 then AO (kf l) l a.toNat l.length e.toNat ks else (ks,e.toNat)).1.length]),R0 (.tree LCd) (bif A7 x0 then AO (kf l) l a.toNat l.length e.toNat ks else (ks,e.toNat)).1])))
 | _=>.no⟩
abbrev Sj (n:Nat):FuncId->Option Ent:=Aa [(70,.rd1 (kfG n)),(86,.rd1 Hq)]
theorem Ri (n:Nat) (l:List Ty) (a e:Int) (x0:Int) (x1:By) (x2:Int) (x3:Bool) (x4:Int) (k:Nat) (ks:RL):As prog (Sj n) (Aa [(4,kfE n)]) 0 (body f70 0) (kfE n) ([.sl TCd l,.j a,.ptr 0 0,.j e],[some (.box [.j x0,.s x1,.j x2,.b x3,.j x4,.ref 1 0 k]),R0 (.tree LCd) ks]) =
 ((ifB (A7 (Rose.node (x0,x1,x2,x3,x4,()) (take k (drop 0 ks))).lab.1) (ifB (decide (e<(↑l.length:Int))) (ifT (decide (0<=e)&&decide (e <
 (↑l.length:Int))) (Al l[e.toNat]? fun z=>ifB (z.2.2.2.2.1==a) (ifT (decide (0<=e/\e.toNat<l.length/\l.length<=4000000000/\l.length -
 e.toNat<=n)) (ifT (decide ((k+1)*8<=140737488355328)&&decide (k+1<=maxI)) (some (Ex.normal,[V.sl TCd l,V.j a,V.ptr 0 0,
 V.j (↑(kf l e.toNat).2:Int)],[some (Blk.box [V.j x0,V.s x1,V.j x2,V.b x3,V.j x4,V.ref 1 0 (k+1)]),R0 LCd.tree (take k (drop 0 ks)++Rose.node ((kf l e.toNat).1.lab.1,(kf l e.toNat).1.lab.2.1,(kf l e.toNat).1.lab.2.2.1,(kf l
 e.toNat).1.lab.2.2.2.1,(kf l e.toNat).1.lab.2.2.2.2.1,()) (take (kf l e.toNat).1.kids.length (drop 0 (kf l e.toNat).1.kids))
 :: Ai LCd.tree.den)])))) (some (Ex.exit 0,[V.ptr 0 0,V.j e],[some (Blk.box [V.j x0,V.s x1,V.j x2,V.b x3,V.j x4,V.ref 1 0 k]),R0 LCd.tree ks])))) (some (Ex.exit 0,[V.ptr 0 0,V.j e],[some (Blk.box [V.j x0,V.s x1,V.j x2,V.b x3,V.j x4,V.ref 1 0 k]),R0 LCd.tree ks]))) (some (Ex.exit 0,[V.ptr 0 0,V.j e],[some (Blk.box [V.j x0,V.s x1,V.j x2,V.b x3,V.j x4,V.ref 1 0 k]),R0 LCd.tree ks]))):_):=by kernel_rfl
theorem Td (n:Nat) (l:List Ty) (a:Int):DZ prog (Sj n) (Aa [(4,kfE n)]) f70 [.sl TCd l,.j a] [] =
 ((ifT (decide (0<=a)&&decide (a<(↑l.length:Int))) (Al l[a.toNat]? fun z=>ifT (decide (0<=a/\a<i64.wrap (a+1)/\a.toNat<l.length/\
 (i64.wrap (a+1)).toNat<=l.length/\l.length<=4000000000/\0=0/\0<=(i64.wrap (a+1)).toNat/\l.length-a.toNat<=
 n+1)) (some (V.tup [V.ptr 0 0,V.j (↑(bif A7 z.1 then AO (kf l) l a.toNat l.length (i64.wrap (a+1)).toNat (Ai LCd.tree.den) else (Ai
 LCd.tree.den,(i64.wrap (a+1)).toNat)).2:Int)],[some (Blk.box [V.j z.1,V.s z.2.1,V.j z.2.2.1,V.b z.2.2.2.1,V.i .i64
 z.2.2.2.2.2.1,V.ref 1 0 (bif A7 z.1 then AO (kf l) l a.toNat l.length (i64.wrap (a+1)).toNat (Ai LCd.tree.den) else (Ai LCd.tree.den,
 (i64.wrap (a+1)).toNat)).1.length]),R0 LCd.tree (bif A7 z.1 then AO (kf l) l a.toNat l.length (i64.wrap (a+1)).toNat
 (Ai LCd.tree.den) else (Ai LCd.tree.den,(i64.wrap (a+1)).toNat)).1])))):_):=by kernel_rfl
theorem Fc {l:List Ty} {e:Nat} {a:Int} (h:AN l e=some a):e<l.length:=by
 unfold AN at h;obtain ⟨x,h1,_⟩:=Option.map_eq_some_iff.1 h;exact (List.getElem?_eq_some_iff.1 h1).1
theorem FN (z:Rose Lab):Rose.node (z.lab.1,z.lab.2.1,z.lab.2.2.1,z.lab.2.2.2.1,z.lab.2.2.2.2.1,()) (take z.kids.length (drop 0 z.kids))=z:=by
 obtain ⟨⟨_,_,_,_,_,⟨⟩⟩,ks⟩:=z;simp [Rose.lab,Rose.kids]
def Ie (l:List Ty) (g:Nat->Rose Lab×Nat):Prop:=∀ e,e<l.length->e<(g e).2/\(g e).2<=l.length
theorem G4 {l:List Ty} {g:Nat->Rose Lab×Nat} {a:Nat} (hg:Ie l g) : ∀ (n e:Nat) (ks:RL),e<=l.length->e<=(AO g l a n e ks).2/\(AO g l a n e ks).2<=l.length
 | 0,e,ks,h=>⟨Nat.le_refl _,h⟩
 | n+1,e,ks,h=>by
  unfold AO;split
  ·rename_i hu;obtain ⟨h1,h2⟩:=hg e (Fc hu);obtain ⟨h3,h4⟩:=G4 hg n (g e).2 (ks++[(g e).1]) h2;exact ⟨by omega,h4⟩
  ·exact ⟨Nat.le_refl _,h⟩
theorem Hr (l:List Ty) : ∀ f,Ie l (kfr l f)
 | 0,a,h=>⟨lt_succ_self _,h⟩
 | f+1,a,h=>by
  unfold kfr;dsimp only
  cases A7 (Av l a).1 with
  | true=>
   obtain ⟨h3,h4⟩:=G4 (a:=a) (Hr l f) l.length (a+1) [] h;exact ⟨by rw [cond_true]; omega,by rw [cond_true]; exact h4⟩
  | false=>exact ⟨lt_succ_self _,h⟩
theorem E9 {l:List Ty} {g g':Nat->Rose Lab×Nat} {a e0:Nat} (hg:Ie l g) (h : ∀ e,e0<=e->e<l.length->g e=g' e) : ∀ (n e:Nat) (ks:RL),e0<=e->AO g l a n e ks=AO g' l a n e ks
 | 0,e,ks,_=>rfl
 | n+1,e,ks,he=>by
  unfold AO;split
  ·rename_i hu;have hl:=Fc hu;rw [<-h e he hl];exact E9 hg h n _ _ (by have:=(hg e hl).1; omega)
  ·rfl
theorem HW {l:List Ty} {g:Nat->Rose Lab×Nat} {a:Nat} (hg:Ie l g) : ∀ (n m e:Nat) (ks:RL),l.length-e<=n->l.length-e<=m->AO g l a n e ks=AO g l a m e ks
 | 0,0,e,ks,_,_=>rfl
 | 0,m+1,e,ks,h,_=>by
  unfold AO;split
  ·rename_i hu; have:=Fc hu; omega
  ·rfl
 | n+1,0,e,ks,_,h=>by
  unfold AO;split
  ·rename_i hu; have:=Fc hu; omega
  ·rfl
 | n+1,m+1,e,ks,h1,h2=>by
  unfold AO;split
  ·rename_i hu;have hl:=Fc hu;have:=(hg e hl).1;exact HW hg n m _ _ (by omega) (by omega)
  ·rfl
theorem LI (l:List Ty) : ∀ (f f' a:Nat),l.length-a<=f->l.length-a<=f'->a<l.length->kfr l f a=kfr l f' a
 | 0,f',a,h1,_,h=>by omega
 | f+1,0,a,_,h1,h=>by omega
 | f+1,f'+1,a,h1,h2,h=>by
  unfold kfr;dsimp only;rw [E9 (Hr l f) (fun e he hl=>LI l f f' e (by omega) (by omega) hl) l.length (a+1) [] (Nat.le_refl _)]
theorem DX (l:List Ty):Ie l (kf l):=Hr l l.length
theorem Rj {l:List Ty} {a:Nat} (h:a<l.length):kf l a=(.node (Av l a) (bif A7 (Av l a).1 then AO (kf l) l a l.length (a+1) [] else ([],a+1)).1,(bif A7 (Av l a).1 then AO (kf l) l a l.length (a+1) [] else ([],a+1)).2):=by
 obtain ⟨m,hm⟩ : ∃ m,l.length=m+1:=⟨l.length-1,by omega⟩
 have e1:AO (kfr l m) l a l.length (a+1) []=AO (kf l) l a l.length (a+1) []:=E9 (Hr l m) (fun e he hl=>LI l m l.length e (by omega) (by omega) hl) l.length (a+1) [] (Nat.le_refl _);rw [<-e1];unfold kf
 conv=>lhs; rw [hm]
 rfl
theorem MW {l:List Ty} {a e:Nat} {ks:RL} (h:AN l e=some (a:Int)):AO (kf l) l a l.length e ks=AO (kf l) l a l.length (kf l e).2 (ks++[(kf l e).1]):=by
 have hl:=Fc h;obtain ⟨m,hm⟩ : ∃ m,l.length=m+1:=⟨l.length-1,by omega⟩
 conv=>lhs; rw [hm]
 show (if AN l e=some (a:Int) then AO (kf l) l a m (kf l e).2 (ks++[(kf l e).1]) else (ks,e))=_;rw [if_pos h];have:=(DX l e hl).1;exact HW (DX l) m l.length _ _ (by omega) (by omega)
theorem HV {l:List Ty} {a e n:Nat} {ks:RL} (h:AN l e≠some (a:Int)):AO (kf l) l a n e ks=(ks,e):=by
 cases n with
 | zero=>rfl
 | succ n=>unfold AO; rw [if_neg h]
theorem Te (n:Nat) (l:List Ty) (a:Nat) (x0:Int) (x1:By) (x2:Int) (x3:Bool) (x4:Int) (hal:a<l.length) (hl:l.length<=4000000000) (hn:l.length-a<=n+1) : ∀ (j e:Nat) (ks:RL),e+j=l.length->a<e->ks.length<=e->
  Runs prog (Sj n) (Aa [(4,kfE n)]) 0 (body f70 0) (kfE n) ([.sl TCd l,.j (a:Int),.ptr 0 0,.j (e:Int)],[some (.box [.j x0,.s x1,.j x2,.b x3,.j x4,.ref 1 0 ks.length]),R0 (.tree LCd) ks]) (.exit 0) ([.ptr 0 0,.j ((bif A7 x0 then AO (kf l) l a l.length e ks else (ks,e)).2:Int)],[some (.box [.j x0,.s x1,.j x2,.b x3,.j x4,.ref 1 0 (bif A7 x0 then AO (kf l) l a l.length e ks else (ks,e)).1.length]),R0 (.tree LCd) (bif A7 x0 then AO (kf l) l a l.length e ks else (ks,e)).1]):=by
 intro j
 induction j using strongRecOn with
 | ind j ih=>
  intro e ks he hae hk;have hM:=mxI;have hr:=Ri n l a e x0 x1 x2 x3 x4 ks.length ks;have hlab:(Rose.node (x0,x1,x2,x3,x4,()) (take ks.length (drop 0 ks)):Rose Lab).lab.1=x0:=rfl;simp only [hlab] at hr
  cases hx:A7 x0 with
  | false=>
   rw [hx,AL] at hr;rw [cond_false];exact stp hr
  | true=>
   rw [hx,Be] at hr;rw [cond_true]
   by_cases h1:e<l.length
   ·rw [Ag (dcT (by omega)),T2 (by omega)] at hr;simp only [ntN,gtE h1,Am,drop_zero,take_length] at hr
    by_cases h2:l[e].2.2.2.2.1=(a:Int)
    ·have hu:AN l e=some (a:Int):=by unfold AN; rw [gtE h1,map_some,h2]
     rw [Ag (by rw [h2]; exact beq_self_eq_true _),Ae (dcT ⟨by omega,h1,hl,by omega⟩),T2 (by omega)] at hr;obtain ⟨b1,b2⟩:=DX l e h1;rw [MW hu];have ht:=FN (kf l e).1;rw [drop_zero,take_length] at ht;rw [ht] at hr;have hlen:(ks++[(kf l e).1]).length=ks.length+1:=by simp
     have ih2:=ih (l.length-(kf l e).2) (by omega) (kf l e).2 (ks++[(kf l e).1]) (by omega) (by omega) (by rw [hlen]; omega);simp only [hx,cond_true] at ih2;refine sts (hr.trans ?_) ih2;rw [hlen]
    ·have hu:AN l e≠some (a:Int):=by unfold AN; rw [gtE h1,map_some]; exact fun h=>h2 (Option.some.inj h)
     rw [Ad (beq_false_of_ne h2)] at hr;rw [HV hu];exact stp hr
   ·rw [Ad (dcF (by omega))] at hr;rw [HV (fun h=>h1 (Fc h))];exact stp hr
theorem Wa (n:Nat):Ar prog (Sj n) (Aa [(4,kfE n)]) 0 (f70.body.getD .skip):=by
 refine Ap (a:=body f70 0) (by kernel_rfl) fun d ex d' h=>?_
 unfold kfE at h;dsimp only at h;split at h
 ·rename_i l a e x0 x1 x2 x3 x4 k ks;obtain ⟨hc,hx⟩:=Ac h;clear h;obtain ⟨h0,h1,h2,h3,h4,rfl,h6,h7⟩:=of_decide_eq_true hc;obtain ⟨a,rfl⟩:=eq_ofNat_of_zero_le h0;obtain ⟨e,rfl⟩:=eq_ofNat_of_zero_le (by omega:0<=e);simp only [ntN] at h2 h3 h6 h7 hx;obtain ⟨rfl,rfl⟩:=lfP hx;exact Te n l a x0 x1 x2 x3 x4 h2 h4 h7 (l.length-e) e ks (by omega) (by omega) h6
 ·cases h
theorem UU (n:Nat) (l:List Ty) (a:Int) (hc:0<=a/\a.toNat<l.length/\l.length<=4000000000/\l.length-a.toNat<=n+1):DZ prog (Sj n) (Aa [(4,kfE n)]) f70 [.sl TCd l,.j a] []=some (.tup [.ptr 0 0,.j ((kf l a.toNat).2:Int)],[some (.box [.j (kf l a.toNat).1.lab.1,.s (kf l a.toNat).1.lab.2.1,.j (kf l a.toNat).1.lab.2.2.1,.b (kf l a.toNat).1.lab.2.2.2.1,.j (kf l a.toNat).1.lab.2.2.2.2.1,.ref 1 0 (kf l a.toNat).1.kids.length]),R0 (.tree LCd) (kf l a.toNat).1.kids]):=by
 rw [Td];obtain ⟨h0,h1,h2,h3⟩:=hc;obtain ⟨a,rfl⟩:=eq_ofNat_of_zero_le h0;rw [ntN] at h1 h3;have hM:=mxI;have hw:i64.wrap ((a:Int)+1)=((a+1:Nat):Int):=Ax (by omega);rw [T2 (by omega)];simp only [ntN,gtE h1,Am,hw];rw [Ae (dcT ⟨by omega,by omega,h1,by omega,h2,trivial,by omega,by omega⟩)];have hk:=Rj h1;have hlab:Av l a=(l[a].1,l[a].2.1,l[a].2.2.1,l[a].2.2.2.1,l[a].2.2.2.2.2.1,()):=by unfold Av; rw [gtE h1]
 rw [hk,hlab];rfl
theorem UV : ∀ n,(∀ m,m<n->Ab prog 70 (Ent.rd1 (kfG m)).F)->Ab prog 70 (Ent.rd1 (kfG n)).F
 | 0,_=>AQ fun vs bs=>by
  unfold Ent.F kfG;dsimp only;split
  ·rename_i l a;have:decide (0<=a/\a.toNat<l.length/\l.length<=4000000000/\l.length-a.toNat<=0)=false:=dcF (by omega);rw [this]; rfl
  ·rfl
 | n+1,ih=>by
  refine fcN (kc func70 (ih n (lt_succ_self n)) (kc func86 Rh KnowsL.nil)).knows (Λ:=(Aa [(4,kfE n)])) func70 fun vs bs r hq=>?_
  unfold Ent.F kfG at hq;dsimp only at hq;split at hq
  ·rename_i l a;obtain ⟨hc,hx⟩:=Ac hq;exact ⟨Wa n,(UU n l a (of_decide_eq_true hc)).trans hx⟩
  ·cases hq
theorem Rg:Ab prog 70 (Ent.rd1 ES).F:=by
 refine AX (F:=fun n=>(Ent.rd1 (kfG n)).F) UV fun vs bs r h=>?_
 unfold Ent.F ES at h;dsimp only at h;split at h
 ·rename_i l a;obtain ⟨hc,hx⟩:=Ac h;obtain ⟨h0,h1,h2⟩:=of_decide_eq_true hc;refine ⟨l.length,?_⟩;unfold Ent.F kfG;dsimp only;have:decide (0<=a/\a.toNat<l.length/\l.length<=4000000000/\l.length-a.toNat<=l.length)=true:=dcT ⟨h0,h1,h2,by omega⟩;rw [this];exact hx
 ·cases h
mutual
def A5:Rose Lab->Nat
 | .node _ ks=>Ay ks+1
def Ay:RL->Nat
 | []=>0
 | z::l=>A5 z+Ay l
end
mutual
def Bu:Rose Lab->Nat
 | .node x ks=>BI ks+(bif A7 x.1 then 1 else 0)
def BI:RL->Nat
 | []=>0
 | z::l=>max (Bu z) (BI l)
end
def C5 (n:Nat):Gm
 | [.tp LCd z 0],[]=>.need (decide (A5 z<=n/\A5 z<=1000000)) (.leaf (.j (A5 z:Int),[]))
 | _,_=>.no
def Ks:Gm
 | [.tp LCd z 0],[]=>.need (decide (A5 z<=1000000)) (.leaf (.j (A5 z:Int),[]))
 | _,_=>.no
def CS (n:Nat):LoopEnt:=⟨21,[3,9,10,11],[3],[],fun
 | ([.j m,.sl (.tree LCd) ks,.j k,.j i],[])=>.need (decide (0<=m/\m<=1000001/\0<=i/\i.toNat<=ks.length/\k=ks.length/\Ay ks<=n/\Ay ks<=1000000/\m.toNat+Ay (ks.drop i.toNat)<=1000001)) (.leaf (.exit 0,([.j ((m.toNat+Ay (ks.drop i.toNat):Nat):Int)],[])))
 | _=>.no⟩
def G5 (n:Nat):Gm
 | [.tp LCd z 0],[]=>.need (decide (A5 z<=n/\A5 z<=1000000)) (.leaf (.j (Bu z:Int),[]))
 | _,_=>.no
def Nb:Gm
 | [.tp LCd z 0],[]=>.need (decide (A5 z<=1000000)) (.leaf (.j (Bu z:Int),[]))
 | _,_=>.no
def DY (n:Nat):LoopEnt:=⟨25,[0,3,9,10,11],[0,3],[],fun
 | ([.tp LCd y 0,.j m,.sl (.tree LCd) ks,.j k,.j i],[])=>.need (decide (0<=m/\m<=1000001/\0<=i/\i.toNat<=ks.length/\k=ks.length/\Ay ks<=n/\Ay ks<=1000000)) (.leaf (.exit 0,([.tp LCd y 0,.j ((max m.toNat (BI (ks.drop i.toNat)):Nat):Int)],[])))
 | _=>.no⟩
theorem Dq {z:Rose Lab} : ∀ {l:RL},z∈l->A5 z<=Ay l
 | [],h=>by cases h
 | y::l,h=>by
  rw [Ay];rcases mem_cons.1 h with rfl | h
  ·omega
  ·have:=Dq h; omega
theorem Hu (z:Rose Lab):1<=A5 z:=by cases z; rw [A5]; omega
theorem Ct : ∀ (l:RL),l.length<=Ay l
 | []=>Nat.le_refl _
 | z::l=>by have:=Ct l; have:=Hu z; rw [Ay,List.length_cons]; omega
theorem Cu (z:Rose Lab):A5 z=Ay z.kids+1:=by cases z; rw [A5]; rfl
mutual
theorem Gk : ∀ z:Rose Lab,Bu z<=A5 z
 | .node x ks=>by rw [Bu,A5]; have:=EU ks; cases A7 x.1<;>simp<;>omega
theorem EU : ∀ l:RL,BI l<=Ay l
 | []=>Nat.le_refl _
 | z::l=>by rw [BI,Ay]; have:=Gk z; have:=EU l; omega
end
theorem Gc (n:Nat) (m:Int) (ks:RL) (k i:Int):As prog (Aa [(115,.rd1 (C5 n))]) (Aa [(3,CS n)]) 0 (body f115 0) (CS n) ([.j m,.sl (.tree LCd) ks,.j k,.j i],[]) =
 ((ifB (decide (i<k)) (ifT (decide (0<=i)&&decide (i<(↑ks.length:Int))) (Al ks[i.toNat]? fun z=>ifT (decide (A5 z<=n/\A5 z<=1000000)) (some
 (Ex.normal,[V.j (i64.wrap (m+(↑(A5 z):Int))),V.sl LCd.tree ks,V.j k,V.j (i64.wrap (i+1))],[])))) (some (Ex.exit 0,[V.i .i64
 m],[]))):_):=by kernel_rfl
theorem LJ (n:Nat) (z:Rose Lab):A3 prog (Aa [(115,.rd1 (C5 n))]) (Aa [(3,CS n)]) f115 [.tp LCd z 0] [] =
 ((ifT (decide ((0:Int)<=(1:Int)/\(1:Int)<=(1000001:Int)/\(0:Int)<=(0:Int)/\0<=z.kids.length/\(↑z.kids.length:Int)=(↑z.kids.length:Int)/\
 Ay z.kids<=n/\Ay z.kids<=1000000/\1+Ay (drop 0 z.kids)<=1000001)) (some (V.j (↑(1+Ay (drop (0 :
 Nat) z.kids)):Int),[]))):_):=by kernel_rfl
theorem GQ (n:Nat) (ks:RL) (h1:Ay ks<=n) (h2:Ay ks<=1000000) : ∀ (j i m:Nat),i+j=ks.length->m<=1000001->m+Ay (ks.drop i)<=1000001->
  Runs prog (Aa [(115,.rd1 (C5 n))]) (Aa [(3,CS n)]) 0 (body f115 0) (CS n) ([.j (m:Int),.sl (.tree LCd) ks,.j (ks.length:Int),.j (i:Int)],[]) (.exit 0) ([.j ((m+Ay (ks.drop i):Nat):Int)],[])
 | 0,i,m,hi,hm,hs=>by
  have hr:=Gc n m ks ks.length i;rw [Ad (dcF (by omega))] at hr;have e1:ks.drop i=[]:=drop_eq_nil_of_le (by omega);rw [e1,Ay];exact .stop _ _ _ (hr.trans (by simp)) (by simp)
 | j+1,i,m,hi,hm,hs=>by
  have hl:i<ks.length:=by omega
  have hM:=mxI;have hr:=Gc n m ks ks.length i;have hmem:=Dq (getElem_mem hl);have hlen:=Ct ks;have hdm:=Gk ks[i];rw [Ag (dcT (by omega)),T2 (by omega)] at hr;simp only [ntN,gtE hl,Am,Ax (n:=i) (by omega)] at hr;rw [Ae (dcT ⟨by omega,by omega⟩)] at hr;rw [drop_eq_getElem_cons hl,Ay];rw [drop_eq_getElem_cons hl,Ay] at hs;have hx:i64.wrap ((m:Int)+(A5 ks[i]:Int))=((m+A5 ks[i]:Nat):Int):=by rw [An (by omega) (by omega)]; omega
  have ih:=GQ n ks h1 h2 j (i+1) (m+A5 ks[i]) (by omega) (by omega) (by omega);rw [<-Nat.add_assoc];exact sts (hr.trans (by rw [hx])) ih
theorem Pi (n:Nat):Ar prog (Aa [(115,.rd1 (C5 n))]) (Aa [(3,CS n)]) 0 (f115.body.getD .skip):=by
 refine Ap (a:=body f115 0) (by kernel_rfl) fun d ex d' h=>?_
 unfold CS at h;dsimp only at h;split at h
 ·rename_i m ks k i;obtain ⟨hc,hx⟩:=Ac h;clear h;obtain ⟨h0,h1,h2,h3,rfl,h5,h6,h7⟩:=of_decide_eq_true hc;obtain ⟨m,rfl⟩:=eq_ofNat_of_zero_le h0;obtain ⟨i,rfl⟩:=eq_ofNat_of_zero_le h2;simp only [ntN] at h3 hx h7;obtain ⟨rfl,rfl⟩:=lfP hx;exact GQ n ks h5 h6 (ks.length-i) i m (by omega) (by omega) h7
 ·cases h
theorem Nc (n:Nat) (z:Rose Lab) (hc:A5 z<=n+1/\A5 z<=1000000):A3 prog (Aa [(115,.rd1 (C5 n))]) (Aa [(3,CS n)]) f115 [.tp LCd z 0] []=some (.j (A5 z:Int),[]):=by
 rw [LJ];obtain ⟨x,ks⟩:=z;obtain ⟨h1,h2⟩:=hc;rw [A5] at h1 h2;have hd:drop (toNat 0) ks=ks:=rfl;simp only [Rose.kids] at *;rw [Ae (dcT (by refine ⟨by omega,by omega,by omega,by simp,by trivial,by omega,by omega,?_⟩; simp; omega))];rw [A5];simp only [drop_zero];rw [Nat.add_comm]
theorem Nf : ∀ n,(∀ m,m<n->Ab prog 115 (Ent.rd1 (C5 m)).F)->Ab prog 115 (Ent.rd1 (C5 n)).F
 | 0,_=>AQ fun vs bs=>by
  unfold Ent.F C5;dsimp only;split
  ·rename_i z;have:=Hu z;have:decide (A5 z<=0/\A5 z<=1000000)=false:=dcF (by omega);rw [this]; rfl
  ·rfl
 | n+1,ih=>by
  refine fcK (kc func115 (ih n (lt_succ_self n)) KnowsL.nil).knows (Λ:=(Aa [(3,CS n)])) func115 fun vs bs r hq=>?_
  unfold Ent.F C5 at hq;dsimp only at hq;split at hq
  ·rename_i z;obtain ⟨hc,hx⟩:=Ac hq;exact ⟨Pi n,(Nc n z (of_decide_eq_true hc)).trans hx⟩
  ·cases hq
theorem UW:Ab prog 115 (Ent.rd1 Ks).F:=by
 refine AX (F:=fun n=>(Ent.rd1 (C5 n)).F) Nf fun vs bs r h=>?_
 unfold Ent.F Ks at h;dsimp only at h;split at h
 ·rename_i z;obtain ⟨hc,hx⟩:=Ac h;have hc:=of_decide_eq_true hc;refine ⟨1000000,?_⟩;show (Br.need (decide (A5 z<=1000000/\A5 z<=1000000)) (.leaf (.j (A5 z:Int),[]))).run=some r;rw [dcT (show A5 z<=1000000/\A5 z<=1000000 from ⟨hc,hc⟩)];exact hx
 ·cases h
abbrev Si (n:Nat):FuncId->Option Ent:=Aa [(114,.rd1 (G5 n)),(86,.rd1 Hq)]
theorem GP (n:Nat) (y:Rose Lab) (m:Int) (ks:RL) (k i:Int):As prog (Si n) (Aa [(3,DY n)]) 0 (body f114 0) (DY n) ([.tp LCd y 0,.j m,.sl (.tree LCd) ks,.j k,.j i],[]) =
 ((ifB (decide (i<k)) (ifT (decide (0<=i)&&decide (i<(↑ks.length:Int))) (Al ks[i.toNat]? fun z=>ifT (decide (A5 z<=n/\A5 z<=1000000)) (some
 (Ex.normal,[V.tp LCd y 0,V.j (if (↑(Bu z):Int)>m then (↑(Bu z):Int) else m),V.sl LCd.tree ks,V.j k,V.j (i64.wrap (i +
 1))],[])))) (some (Ex.exit 0,[V.tp LCd y 0,V.j m],[]))):_):=by kernel_rfl
theorem Na (n:Nat) (z:Rose Lab):A3 prog (Si n) (Aa [(3,DY n)]) f114 [.tp LCd z 0] [] =
 ((ifT (decide ((0:Int)<=(0:Int)/\(0:Int)<=(1000001:Int)/\(0:Int)<=(0:Int)/\0<=z.kids.length/\(↑z.kids.length:Int)=(↑z.kids.length:Int)/\
 Ay z.kids<=n/\Ay z.kids<=1000000)) (ifB (A7 z.lab.1) (some (V.j (i64.wrap ((↑(max 0 (BI (drop 0 z.kids))):Int)
 + (1:Int))),[])) (some (V.j (↑(max 0 (BI (drop 0 z.kids))):Int),[])))):_):=by kernel_rfl
theorem HY (n:Nat) (y:Rose Lab) (ks:RL) (h1:Ay ks<=n) (h2:Ay ks<=1000000) : ∀ (j i m:Nat),i+j=ks.length->m<=1000001->
  Runs prog (Si n) (Aa [(3,DY n)]) 0 (body f114 0) (DY n) ([.tp LCd y 0,.j (m:Int),.sl (.tree LCd) ks,.j (ks.length:Int),.j (i:Int)],[]) (.exit 0) ([.tp LCd y 0,.j ((max m (BI (ks.drop i)):Nat):Int)],[])
 | 0,i,m,hi,hm=>by
  have hr:=GP n y m ks ks.length i;rw [Ad (dcF (by omega))] at hr;have e1:ks.drop i=[]:=drop_eq_nil_of_le (by omega);rw [e1,BI];exact .stop _ _ _ (hr.trans (by simp)) (by simp)
 | j+1,i,m,hi,hm=>by
  have hl:i<ks.length:=by omega
  have hM:=mxI;have hr:=GP n y m ks ks.length i;have hmem:=Dq (getElem_mem hl);have hlen:=Ct ks;have hdm:=Gk ks[i];rw [Ag (dcT (by omega)),T2 (by omega)] at hr;simp only [ntN,gtE hl,Am,Ax (n:=i) (by omega)] at hr;rw [Ae (dcT ⟨by omega,by omega⟩)] at hr;rw [drop_eq_getElem_cons hl,BI];have hx:(if (Bu ks[i]:Int)>(m:Int) then (Bu ks[i]:Int) else (m:Int))=((max m (Bu ks[i]):Nat):Int):=by split<;>omega
  have ih:=HY n y ks h1 h2 j (i+1) (max m (Bu ks[i])) (by omega) (by omega);rw [<-Nat.max_assoc];exact sts (hr.trans (by rw [hx])) ih
theorem Rk (n:Nat):Ar prog (Si n) (Aa [(3,DY n)]) 0 (f114.body.getD .skip):=by
 refine Ap (a:=body f114 0) (by kernel_rfl) fun d ex d' h=>?_
 unfold DY at h;dsimp only at h;split at h
 ·rename_i y m ks k i;obtain ⟨hc,hx⟩:=Ac h;clear h;obtain ⟨h0,h1,h2,h3,rfl,h5,h6⟩:=of_decide_eq_true hc;obtain ⟨m,rfl⟩:=eq_ofNat_of_zero_le h0;obtain ⟨i,rfl⟩:=eq_ofNat_of_zero_le h2;simp only [ntN] at h3 hx;obtain ⟨rfl,rfl⟩:=lfP hx;exact HY n y ks h5 h6 (ks.length-i) i m (by omega) (by omega)
 ·cases h
theorem Pg (n:Nat) (z:Rose Lab) (hc:A5 z<=n+1/\A5 z<=1000000):A3 prog (Si n) (Aa [(3,DY n)]) f114 [.tp LCd z 0] []=some (.j (Bu z:Int),[]):=by
 rw [Na];obtain ⟨x,ks⟩:=z;obtain ⟨h1,h2⟩:=hc;rw [A5] at h1 h2;have hd:drop (toNat 0) ks=ks:=rfl;simp only [Rose.kids,Rose.lab] at *;rw [Ae (dcT (by refine ⟨by omega,by omega,by omega,by simp,by trivial,by omega,by omega⟩))];have hdp:=EU ks;rw [Bu];simp only [drop_zero,Nat.zero_max]
 cases hx:A7 x.1 with
 | true=>rw [Be,An (by omega) (by omega)]; simp
 | false=>rw [AL]; simp
theorem Ph : ∀ n,(∀ m,m<n->Ab prog 114 (Ent.rd1 (G5 m)).F)->Ab prog 114 (Ent.rd1 (G5 n)).F
 | 0,_=>AQ fun vs bs=>by
  unfold Ent.F G5;dsimp only;split
  ·rename_i z;have:=Hu z;have:decide (A5 z<=0/\A5 z<=1000000)=false:=dcF (by omega);rw [this]; rfl
  ·rfl
 | n+1,ih=>by
  refine fcK (kc func114 (ih n (lt_succ_self n)) (kc func86 Rh KnowsL.nil)).knows (Λ:=(Aa [(3,DY n)])) func114 fun vs bs r hq=>?_
  unfold Ent.F G5 at hq;dsimp only at hq;split at hq
  ·rename_i z;obtain ⟨hc,hx⟩:=Ac hq;exact ⟨Rk n,(Pg n z (of_decide_eq_true hc)).trans hx⟩
  ·cases hq
theorem Wc:Ab prog 114 (Ent.rd1 Nb).F:=by
 refine AX (F:=fun n=>(Ent.rd1 (G5 n)).F) Ph fun vs bs r h=>?_
 unfold Ent.F Nb at h;dsimp only at h;split at h
 ·rename_i z;obtain ⟨hc,hx⟩:=Ac h;have hc:=of_decide_eq_true hc;refine ⟨1000000,?_⟩;show (Br.need (decide (A5 z<=1000000/\A5 z<=1000000)) (.leaf (.j (Bu z:Int),[]))).run=some r;rw [dcT (show A5 z<=1000000/\A5 z<=1000000 from ⟨hc,hc⟩)];exact hx
 ·cases h
def DS (zk:RL) (i:Nat) (n:Int):Bool:=match i with
 | 0=>false
 | i+1=>match zk[i]? with | some y=>decide (y.lab.2.2.1>=n) | none=>false
def FW (zk:RL):Nat->List (By×Bool)->RL->Bool
 | _,_,[]=>true
 | i,seen,z::l=>if ((D9 .str seen z.lab.2.1).getD false||DS zk i z.lab.2.2.1)=true then false else FW zk (i+1) (Eu .str seen z.lab.2.1 true) l
def Da (x:Lab) (ks:RL):Bool:=
 if x.1=1\/x.1=2 then x.2.2.2.2.1==0&&ks.length==0
 else if x.1=3 then decide (0<=x.2.2.2.2.1/\x.2.2.2.2.1<=20)&&ks.length==0
 else if x.1=4 then x.2.2.2.2.1==0&&ks.length==1
 else if x.1≠5\/x.2.2.2.2.1≠0 then false
 else FW ks 0 [] ks
def HF:Gm
 | [.tp LCd z 0],[]=>.need (decide (z.kids.length<=maxI)) (.leaf (.b (Da z.lab z.kids),[]))
 | _,_=>.no
def poE:LoopEnt:=⟨113,[0,3,72,73,74],[],[2],fun
 | ([.tp LCd z 0,.mref 0,.sl (.tree LCd) ks,.j k,.j i],[some (.mp .str .bool seen)])=>.need (decide (0<=i/\i.toNat<=ks.length/\k=ks.length/\ks.length<=maxI/\z.kids.length=ks.length)) (.br (FW z.kids i.toNat seen (ks.drop i.toNat)) (.leaf (.exit 1,([],[]))) (.leaf (.ret,([.b false],[]))))
 | _=>.no⟩
theorem Lj (z:Rose Lab) (ks:RL) (seen:List (By×Bool)) (k i:Int):As prog (Aa [(69,.rd1 AA)]) (Aa [(13,poE)]) 0 (body f158 0) poE ([.tp LCd z 0,.mref 0,.sl (.tree LCd) ks,.j k,.j i],[some (.mp .str .bool seen)]) =
 ((ifB (decide (i<k)) (ifT (decide (0<=i)&&decide (i<(↑ks.length:Int))) (Al ks[i.toNat]? fun z_1=>ifB ((D9 Cd.str seen (Rose.lab z_1).2.1).getD false)
 rF (ifB (decide (i>0)) (ifT (decide (0<=i64.wrap (i-1))&&decide (i64.wrap (i-1)<(↑z.kids.length:Int))) (Al
 z.kids[(i64.wrap (i-1)).toNat]? fun z_2=>ifB (decide ((Rose.lab z_2).2.2.1>=(Rose.lab z_1).2.2.1)) rF (some
 (Ex.normal,[V.tp LCd z 0,V.mref 0,V.sl LCd.tree ks,V.j k,V.j (i64.wrap (i+1))],[some (Blk.mp Cd.str Cd.bool (Eu Cd.str seen
 (Rose.lab z_1).2.1 true))])))) (some (Ex.normal,[V.tp LCd z 0,V.mref 0,V.sl LCd.tree ks,V.j k,V.j (i64.wrap (i+1))],[some
 (Blk.mp Cd.str Cd.bool (Eu Cd.str seen (Rose.lab z_1).2.1 true))]))))) (some (Ex.exit 1,[],[]))):_):=by kernel_rfl
theorem SH (z:Rose Lab):A3 prog (Aa [(69,.rd1 AA)]) (Aa [(13,poE)]) f158 [.tp LCd z 0] [] =
 ((ifB (z.lab.1==(1:Int)) (ifB (z.lab.1==(1:Int)) (ifB (z.lab.2.2.2.2.1==(0:Int)) (some (V.b ((↑z.kids.length:Int)==(0:Int)),[])) nF) (ifB (z.lab.1==(3:Int)) (ifB (decide ((0:Int)<=z.lab.2.2.2.2.1/\z.lab.2.2.2.2.1<=(20:Int))) (some (V.b ((↑z.kids.length :
 Int)==(0:Int)),[])) nF) (ifB (z.lab.1==(4:Int)) (ifB (z.lab.2.2.2.2.1==(0:Int)) (some (V.b ((↑z.kids.length:Int)==(1 :
 Int)),[])) nF) (ifB (z.lab.1 != (5:Int)) nF (ifB (z.lab.2.2.2.2.1 != (0:Int)) nF (ifT (decide
 ((0:Int)<=(0:Int)/\0<=z.kids.length/\(↑z.kids.length:Int)=(↑z.kids.length:Int)/\z.kids.length<=maxI/\z.kids.length=z.kids.length)) (ifB (FW
 z.kids 0 (Ai (Cd.str.den×Cd.bool.den)) (drop 0 z.kids)) (some (V.b true,[])) nF))))))) (ifB (z.lab.1==(2:Int)) (ifB
 (z.lab.2.2.2.2.1==(0:Int)) (some (V.b ((↑z.kids.length:Int)==(0:Int)),[])) nF) (ifB (z.lab.1==(3:Int)) (ifB (decide ((0 :
 Int)<=z.lab.2.2.2.2.1/\z.lab.2.2.2.2.1<=(20:Int))) (some (V.b ((↑z.kids.length:Int)==(0:Int)),[])) nF) (ifB (z.lab.1
 == (4:Int)) (ifB (z.lab.2.2.2.2.1==(0:Int)) (some (V.b ((↑z.kids.length:Int)==(1:Int)),[])) nF) (ifB (z.lab.1 != (5:Int))
 nF (ifB (z.lab.2.2.2.2.1 != (0:Int)) nF (ifT (decide ((0:Int)<=(0:Int)/\0<=z.kids.length/\
 (↑z.kids.length:Int)=(↑z.kids.length:Int)/\z.kids.length<=maxI/\z.kids.length=z.kids.length)) (ifB (FW z.kids 0 (Ai (Cd.str.den×Cd.bool.den))
 (drop 0 z.kids)) (some (V.b true,[])) nF)))))))):_):=by kernel_rfl
theorem Ka (z:Rose Lab) (ks:RL) (hz:z.kids.length=ks.length) (hm:ks.length<=maxI) : ∀ (j i:Nat) (seen:List (By×Bool)),i+j=ks.length->∀ ex d,(Br.br (FW z.kids i seen (ks.drop i)) (.leaf (.exit 1,([],[]))) (.leaf (.ret,([.b false],[]))):Br (Ex×Dt)).run=some (ex,d)->
  Runs prog (Aa [(69,.rd1 AA)]) (Aa [(13,poE)]) 0 (body f158 0) poE ([.tp LCd z 0,.mref 0,.sl (.tree LCd) ks,.j (ks.length:Int),.j (i:Int)],[some (.mp .str .bool seen)]) ex d
 | 0,i,seen,hi,ex,d,h=>by
  have hr:=Lj z ks seen ks.length i;rw [Ad (dcF (by omega))] at hr;have e1:ks.drop i=[]:=drop_eq_nil_of_le (by omega);rw [e1,FW] at h;obtain ⟨rfl,rfl⟩:=lfP h;exact stp hr
 | j+1,i,seen,hi,ex,d,h=>by
  have hl:i<ks.length:=by omega
  have hM:=mxI;have hr:=Lj z ks seen ks.length i;rw [Ag (dcT (by omega)),T2 (by omega)] at hr;simp only [ntN,gtE hl,Am,Ax (n:=i) (by omega)] at hr;rw [drop_eq_getElem_cons hl,FW] at h
  have stop : ∀ {x:Option (Ex×Dt)},x=some (.ret,([.b false],[]))->(Br.br false (.leaf (.exit 1,([],[]))) (.leaf (.ret,([.b false],[]))):Br (Ex×Dt)).run=some (ex,d)->x=some (ex,d)/\ex≠.normal:=fun hx h=>by
   obtain ⟨rfl,rfl⟩:=lfP h;exact ⟨hx,by simp⟩
  cases h1:(D9 .str seen ks[i].lab.2.1).getD false with
  | true=>
   rw [h1,Bool.true_or,if_pos rfl] at h;rw [h1,Be] at hr;obtain ⟨g1,g2⟩:=stop hr h;exact .stop _ _ _ g1 g2
  | false=>
   rw [h1,Bool.false_or] at h;rw [h1,AL] at hr
   cases i with
   | zero=>
    rw [Ad (dcF (by omega))] at hr;rw [DS,if_neg (by simp)] at h;exact sts hr (Ka z ks hz hm j 1 _ (by omega) ex d h)
   | succ i=>
    have hl':i<z.kids.length:=by omega
    have hw:i64.wrap (((i+1:Nat):Int)-1)=(i:Int):=by rw [An (by omega) (by omega)]; omega
    rw [Ag (dcT (by omega)),hw,T2 (by omega)] at hr;simp only [ntN,gtE hl',Am] at hr;have hp:DS z.kids (i+1) ks[i+1].lab.2.2.1=decide (z.kids[i].lab.2.2.1>=ks[i+1].lab.2.2.1):=by unfold DS; simp only [gtE hl']
    rw [hp] at h
    cases h2:decide (z.kids[i].lab.2.2.1>=ks[i+1].lab.2.2.1) with
    | true=>
     rw [h2,if_pos rfl] at h;rw [h2,Be] at hr;obtain ⟨g1,g2⟩:=stop hr h;exact .stop _ _ _ g1 g2
    | false=>
     rw [h2,if_neg (by simp)] at h;rw [h2,AL] at hr;exact sts hr (Ka z ks hz hm j (i+1+1) _ (by omega) ex d h)
theorem VM:Ar prog (Aa [(69,.rd1 AA)]) (Aa [(13,poE)]) 0 (f158.body.getD .skip):=by
 refine Ap (a:=body f158 0) (by kernel_rfl) fun d ex d' h=>?_
 unfold poE at h;dsimp only at h;split at h
 ·rename_i z ks k i seen;obtain ⟨hc,hx⟩:=Ac h;clear h;obtain ⟨h0,h1,rfl,h3,h4⟩:=of_decide_eq_true hc;obtain ⟨i,rfl⟩:=eq_ofNat_of_zero_le h0;simp only [ntN] at h1 hx;exact Ka z ks h4 h3 (ks.length-i) i seen (by omega) ex d' hx
 ·cases h
theorem Ll (z:Rose Lab) (hc:z.kids.length<=maxI):A3 prog (Aa [(69,.rd1 AA)]) (Aa [(13,poE)]) f158 [.tp LCd z 0] []=some (.b (Da z.lab z.kids),[]):=by
 rw [SH]
 have hl : ∀ n:Nat,((z.kids.length:Int)==(n:Int))=(z.kids.length==n):=fun n=>by
  by_cases h:z.kids.length=n
  ·subst h; simp
  ·rw [beq_false_of_ne h,beq_false_of_ne (by omega)]
 have hl0:((z.kids.length:Int)==0)=(z.kids.length==0):=hl 0;have hl1:((z.kids.length:Int)==1)=(z.kids.length==1):=hl 1;have hd:decide ((0:Int)<=0/\0<=z.kids.length/\(z.kids.length:Int)=(z.kids.length:Int)/\z.kids.length<=maxI/\z.kids.length=z.kids.length)=true:=dcT ⟨by omega,by omega,rfl,hc,rfl⟩;unfold Da;rw [drop_zero,hl0,hl1]
 by_cases a1:z.lab.1=1
 ·rw [if_pos (.inl a1),a1];cases z.lab.2.2.2.2.1==0<;>rfl
 by_cases a2:z.lab.1=2
 ·rw [if_pos (.inr a2),a2];cases z.lab.2.2.2.2.1==0<;>rfl
 rw [Ad (beq_false_of_ne a1),Ad (beq_false_of_ne a2),if_neg (by rintro (h | h); exact a1 h; exact a2 h)]
 by_cases a3:z.lab.1=3
 ·rw [if_pos a3,a3,Ag (by rfl)]
  by_cases a5:0<=z.lab.2.2.2.2.1/\z.lab.2.2.2.2.1<=20
  ·rw [dcT a5]; rfl
  ·rw [dcF a5]; rfl
 rw [Ad (beq_false_of_ne a3),if_neg a3]
 by_cases a4:z.lab.1=4
 ·rw [if_pos a4,a4,Ag (by rfl)];cases z.lab.2.2.2.2.1==0<;>rfl
 rw [Ad (beq_false_of_ne a4),if_neg a4]
 by_cases a5:z.lab.1=5
 ·rw [Ad (by rw [a5]; rfl)]
  by_cases a6:z.lab.2.2.2.2.1=0
  ·rw [Ad (by rw [a6]; rfl),if_neg (by rintro (h | h); exact h a5; exact h a6),hd,EC];cases FW z.kids 0 [] z.kids<;>rfl
  ·rw [Ag (by simpa using a6),if_pos (.inr a6)]
 ·rw [Ag (by simpa using a5),if_pos (.inl a5)]
theorem SI:Ab prog 158 (Ent.rd1 HF).F:=by
 refine fcK (kc func69 Ew KnowsL.nil).knows (Λ:=(Aa [(13,poE)])) func158 fun vs bs r hq=>?_
 unfold Ent.F HF at hq;dsimp only at hq;split at hq
 ·rename_i z;obtain ⟨hc,hx⟩:=Ac hq;exact ⟨VM,(Ll z (of_decide_eq_true hc)).trans hx⟩
 ·cases hq
def Aw {α:Type} (p:α->Bool):Nat->List α->Int
 | _,[]=>-1
 | n,z::l=>if p z=true then (n:Int) else Aw p (n+1) l
mutual
def Bv:Rose Lab->Bool
 | .node x ks=>Da x ks&&Fv x.1 ks
def Fv (k:Int):RL->Bool
 | []=>true
 | z::l=>(Dm k z.lab&&Bv z)&&Fv k l
end
mutual
def B8:Rose Lab->Bool
 | .node x ks=>decide (x.2.1.length<=maxI)&&Di ks
def Di:RL->Bool
 | []=>true
 | z::l=>B8 z&&Di l
end
def Fi (z:Rose Lab):Bool:=z.lab.1==5&&z.lab.2.1==[]&&z.lab.2.2.1==0&&!z.lab.2.2.2.1&&Bv z&&decide (Bu z<=5)&&decide (A5 z<=30)
def DG (k:Int) (z:Rose Lab):Bool:=!(Dm k z.lab&&Bv z)
def F4 (n:Nat):Gm
 | [.tp LCd z 0],[]=>.need (decide (A5 z<=n/\A5 z<=1000000/\B8 z=true)) (.leaf (.b (Bv z),[]))
 | _,_=>.no
def CR (n:Nat):Gm
 | [.tp LCd z 0,.bx [.tp LCd y 0] 0],[]=>.need (decide (A5 z<=n/\A5 z<=1000000/\B8 z=true)) (.leaf (.b (DG y.lab.1 z),[]))
 | _,_=>.no
def MB:Gm
 | [.tp LCd z 0],[]=>.need (decide (A5 z<=1000000/\B8 z=true)) (.leaf (.b (Bv z),[]))
 | _,_=>.no
def Kq:Gm
 | [.tp LCd z 0],[]=>.need (decide (A5 z<=1000000/\B8 z=true)) (.leaf (.b (Fi z),[]))
 | _,_=>.no
def krE (n:Nat):LoopEnt:=⟨19,[0,1,4,7,8],[],[4],fun
 | ([.sl (.tree LCd) l,.fn 160 [] [.ptr 0 0],.j _,.j k,.j i],[some (.box [.tp LCd y 0])])=>
  .need (decide (0<=i/\i.toNat<=l.length/\l.length<=maxI/\k=l.length)&&l.all (fun z:Rose Lab=>decide (A5 z<=n/\A5 z<=1000000/\B8 z=true))) (.br (decide (Aw (fun z:Rose Lab=>DG y.lab.1 z) i.toNat (l.drop i.toNat)<0)) (.leaf (.exit 0,([],[some (.box [.tp LCd y 0])]))) (.leaf (.ret,([.j (Aw (fun z:Rose Lab=>DG y.lab.1 z) i.toNat (l.drop i.toNat))],[some (.box [.tp LCd y 0])]))))
 | _=>.no⟩
def SY (n:Nat):Gm
 | [.sl (.tree LCd) l,.fn 160 [] [.ptr 0 0]],[.box [.tp LCd y 0]]=>.need (l.all (fun z:Rose Lab=>decide (A5 z<=n/\A5 z<=1000000/\B8 z=true))) (.leaf (.j (Aw (fun z:Rose Lab=>DG y.lab.1 z) 0 l),[some (.box [.tp LCd y 0])]))
 | _,_=>.no
def UL (n:Nat):Gm
 | [.sl (.tree LCd) l,.fn 160 [] [.ptr 0 0]],[.box [.tp LCd y 0]]=>.need (l.all (fun z:Rose Lab=>decide (A5 z<=n/\A5 z<=1000000/\B8 z=true))) (.leaf (.b (l.any (fun z:Rose Lab=>DG y.lab.1 z)),[some (.box [.tp LCd y 0])]))
 | _,_=>.no
theorem G9 {α:Type} (p:α->Bool) : ∀ (l:List α) (n:Nat),(Aw p n l = -1/\l.any p=false)\/((n:Int)<=Aw p n l/\Aw p n l<n+l.length/\l.any p=true)
 | [],n=>.inl ⟨rfl,rfl⟩
 | z::l,n=>by
  rw [Aw,List.any_cons]
  by_cases h:p z=true
  ·rw [if_pos h,h]; exact .inr ⟨Int.le_refl _,by simp; omega,rfl⟩
  ·rw [if_neg h,show p z=false by simpa using h,Bool.false_or];rcases G9 p l (n+1) with ⟨h1,h2⟩ | ⟨h1,h2,h3⟩
   ·exact .inl ⟨h1,h2⟩
   ·exact .inr ⟨by omega,by simp; omega,h3⟩
theorem Ed {α:Type} (p:α->Bool) (l:List α) (n:Nat):decide (Aw p n l>=0)=l.any p:=by
 rcases G9 p l n with ⟨h1,h2⟩ | ⟨h1,h2,h3⟩
 ·rw [h2]; exact dcF (by omega)
 ·rw [h3]; exact dcT (by omega)
theorem Ec {α:Type} (p:α->Bool) (l:List α) (n:Nat) (h:Aw p n l<0):Aw p n l = -1:=by
 rcases G9 p l n with ⟨h1,h2⟩ | ⟨h1,h2⟩
 ·exact h1
 ·omega
theorem J8 {α:Type} (p:α->Bool) : ∀ (l:List α) (n:Nat),0<=Aw p n l->∃ i,∃ h:i<l.length,Aw p n l=((n+i:Nat):Int)/\p l[i]=true/\l.find? p=some l[i]
 | [],n,h=>by rw [Aw] at h; omega
 | z::l,n,h=>by
  rw [Aw] at h ⊢
  by_cases hp:p z=true
  ·rw [if_pos hp]; exact ⟨0,by simp,by simp,hp,by simp [hp]⟩
  ·rw [if_neg hp] at h ⊢;obtain ⟨i,h1,h2,h3,h4⟩:=J8 p l (n+1) h;exact ⟨i+1,by simp; omega,by rw [h2]; congr 1; omega,by simpa using h3,by simp [hp,h4]⟩
theorem Ls {z:Rose Lab} : ∀ {l:RL},Di l=true->z∈l->B8 z=true
 | [],_,h=>by cases h
 | y::l,hn,h=>by
  rw [Di,anE] at hn;rcases mem_cons.1 h with rfl | h
  ·exact hn.1
  ·exact Ls hn.2 h
theorem QP {z:Rose Lab} (h:B8 z=true):z.lab.2.1.length<=maxI:=by
 cases z;rw [B8,anE] at h;exact of_decide_eq_true h.1
theorem OV {z:Rose Lab} (h:B8 z=true):Di z.kids=true:=by
 cases z;rw [B8,anE] at h;exact h.2
theorem HB (k:Int) : ∀ l:RL,Fv k l = !(l.any fun z=>DG k z)
 | []=>rfl
 | z::l=>by rw [Fv,HB k l,List.any_cons,DG]; cases Dm k z.lab<;>cases Bv z<;>simp
theorem LE (n:Nat) (hf:Ab prog 113 (Ent.rd1 (F4 n)).F):Ab prog 160 (Ent.rd1 (CR n)).F:=by
 refine fcK (kc func161 U6 (kc func113 hf KnowsL.nil)).knows (Λ:=Aa []) func160 fun vs bs r hq=>?_
 unfold Ent.F CR at hq;dsimp only at hq;split at hq
 ·rename_i z y;obtain ⟨hc,hx⟩:=Ac hq;refine ⟨Aj _,Eq.trans ?_ hx⟩
  have e:A3 prog (Aa [(161,.rd1 Kc),(113,.rd1 (F4 n))]) (Aa []) f160 [.tp LCd z 0,.bx [.tp LCd y 0] 0] []=((ifT (decide (List.length z.lab.2.1<=maxI)) (ifB (!Dm y.lab.1 z.lab) (some (V.b true,[])) (ifT (decide (A5 z<=n/\A5 z<=1000000/\B8 z=true))
 (some (V.b !Bv z,[]))))):_):=by kernel_rfl
  have hn:=of_decide_eq_true hc;rw [e,Ae (dcT (QP hn.2.2))];unfold DG
  cases Dm y.lab.1 z.lab with
  | true=>rw [Ae hc]; rfl
  | false=>rfl
 ·cases hq
theorem LF (n:Nat) (y:Rose Lab) (l:RL) (r k i:Int):As prog (Aa [(160,.rd1 (CR n))]) (Aa [(2,(krE n))]) 1 (body f80 0) (krE n) ([.sl (.tree LCd) l,.fn 160 [] [.ptr 0 0],.j r,.j k,.j i],[some (.box [.tp LCd y 0])]) =
 ((ifB (decide (i<k)) (ifT (decide (0<=i)&&decide (i<(↑l.length:Int))) (Al l[i.toNat]? fun z=>ifT (decide (A5 z<=n/\A5 z<=1000000/\B8 z =
 true)) (ifB (DG y.lab.1 z) (some (Ex.ret,[V.j i],[some (Blk.box [V.tp LCd y 0])])) (some (Ex.normal,[V.sl LCd.tree l,V.fn 160
 [] [V.ptr 0 0],V.j r,V.j k,V.j (i64.wrap (i+1))],[some (Blk.box [V.tp LCd y 0])]))))) (some (Ex.exit 0,[],[some (Blk.box [V.tp LCd
 y 0])]))):_):=by kernel_rfl
theorem Of (n:Nat) (y:Rose Lab) {l:RL} {r:Int} (hx:l.length<=maxI) (hs:(l.all (fun z:Rose Lab=>decide (A5 z<=n/\A5 z<=1000000/\B8 z=true)))=true) : ∀ (j i:Nat),i+j=l.length->∀ e d',(.br (decide (Aw (fun z:Rose Lab=>DG y.lab.1 z) i (l.drop i)<0)) (.leaf (.exit 0,([],[some (.box [.tp LCd y 0])]))) (.leaf (.ret,([.j (Aw (fun z:Rose Lab=>DG y.lab.1 z) i (l.drop i))],[some (.box [.tp LCd y 0])]))):Br (Ex×Dt)).run=some (e,d')->
  Runs prog (Aa [(160,.rd1 (CR n))]) (Aa [(2,(krE n))]) 1 (body f80 0) (krE n) ([.sl (.tree LCd) l,.fn 160 [] [.ptr 0 0],.j r,.j (l.length:Int),.j (i:Int)],[some (.box [.tp LCd y 0])]) e d'
 | 0,i,hi,e,d',h=>by
  have e1:l.drop i=[]:=drop_eq_nil_of_le (by omega);rw [e1,CF,Aw,if_pos (by omega)] at h;cases h;have hr:=LF n y l r l.length i;rw [Ad (dcF (by omega))] at hr;exact stp hr
 | j+1,i,hi,e,d',h=>by
  have h1:i<l.length:=by omega
  have hr:=LF n y l r l.length i;rw [Ag (dcT (by omega)),T2 (by omega)] at hr;simp only [ntN,gtE h1,Am,Ax (n:=i) (by omega)] at hr;have hz:=of_decide_eq_true (all_eq_true.1 hs _ (getElem_mem h1));rw [Ae (by simpa only [anE,dcE] using hz)] at hr;rw [drop_eq_getElem_cons h1,CF,Aw] at h
  by_cases he:(fun z:Rose Lab=>DG y.lab.1 z) l[i]=true
  ·rw [if_pos he,if_neg (by omega)] at h;cases h;rw [Ag he] at hr;exact stp hr
  ·rw [if_neg he] at h;rw [Ad (by simpa using he)] at hr;exact sts hr (Of n y hx hs j (i+1) (by omega) e d' (by rw [CF]; exact h))
theorem VU (n:Nat):Ar prog (Aa [(160,.rd1 (CR n))]) (Aa [(2,(krE n))]) 1 (f80.body.getD .skip):=by
 refine Ap (a:=body f80 0) (by kernel_rfl) fun d e d' h=>?_
 unfold krE at h;dsimp only at h;split at h
 ·obtain ⟨hc,h'⟩:=Ac h;rw [anE] at hc;obtain ⟨hc,hs⟩:=hc;obtain ⟨h0,h1,h2,rfl⟩:=of_decide_eq_true hc;obtain ⟨i,rfl⟩:=eq_ofNat_of_zero_le h0;exact Of n _  h2 hs _ i (Nat.add_sub_of_le h1) e d' h'
 ·cases h
theorem UO (n:Nat) (y:Rose Lab) (l:RL) (hx:l.length<=maxI) (hs:(l.all (fun z:Rose Lab=>decide (A5 z<=n/\A5 z<=1000000/\B8 z=true)))=true):A3 prog (Aa [(160,.rd1 (CR n))]) (Aa [(2,(krE n))]) f80 [.sl (.tree LCd) l,.fn 160 [] [.ptr 0 0]] [.box [.tp LCd y 0]]=some (.j (Aw (fun z:Rose Lab=>DG y.lab.1 z) 0 l),[some (.box [.tp LCd y 0])]):=by
 have e:A3 prog (Aa [(160,.rd1 (CR n))]) (Aa [(2,(krE n))]) f80 [.sl (.tree LCd) l,.fn 160 [] [.ptr 0 0]] [.box [.tp LCd y 0]] =
  ((ifT (decide ((0:Int)<=(0:Int)/\0<=l.length/\l.length<=maxI/\(↑l.length:Int)=(↑l.length:Int))&&l.all fun z=>decide (A5 z<=n/\A5 z<=
 1000000/\B8 z=true)) (ifB (decide (Aw (fun z=>DG y.lab.1 z) 0 (drop 0 l)<(0:Int))) (some (V.j (-1),[some (Blk.box
 [V.tp LCd y 0])])) (some (V.j (Aw (fun z=>DG y.lab.1 z) 0 (drop 0 l)),[some (Blk.box [V.tp LCd y 0])])))):_):=by kernel_rfl
 rw [e,Ae (by rw [anE]; exact ⟨dcT ⟨by omega,by omega,hx,rfl⟩,hs⟩)];simp only [drop_zero]
 by_cases q:Aw (fun z:Rose Lab=>DG y.lab.1 z) 0 l<0
 ·rw [Ag (dcT q),Ec _ _ _ q]
 ·rw [Ad (dcF q)]
theorem UM (n:Nat) (hf:Ab prog 160 (Ent.rd1 (CR n)).F):Ab prog 80 (Ent.own (SY n)).F:=by
 refine Bn (kc func160 hf KnowsL.nil).knows (Λ:=(Aa [(2,(krE n))])) func80 (c:=f80.body.getD .skip) (by kernel_rfl) fun vs bs r h hv hb=>?_
 unfold Ent.F SY at h;dsimp only at h;split at h
 ·rename_i l y;obtain ⟨hc,h'⟩:=Ac h;exact ⟨VU n,(UO n y l (hv (.sl (.tree LCd) l) (by simp)).1 hc).trans (by cases h'; rfl)⟩
 ·cases h
theorem SZ (n:Nat) (y:Rose Lab) (l:RL) (hs:(l.all (fun z:Rose Lab=>decide (A5 z<=n/\A5 z<=1000000/\B8 z=true)))=true):A3 prog (Aa [(80,.own (SY n))]) (Aa []) f159 [.sl (.tree LCd) l,.fn 160 [] [.ptr 0 0]] [.box [.tp LCd y 0]]=some (.b (l.any (fun z:Rose Lab=>DG y.lab.1 z)),[some (.box [.tp LCd y 0])]):=by
 have e:A3 prog (Aa [(80,.own (SY n))]) (Aa []) f159 [.sl (.tree LCd) l,.fn 160 [] [.ptr 0 0]] [.box [.tp LCd y 0]] =
  ((ifT (l.all fun z=>decide (A5 z<=n/\A5 z<=1000000/\B8 z=true)) (some (V.b (decide (Aw (fun z=>DG y.lab.1 z) 0 l>=(0:Int))),[some
 (Blk.box [V.tp LCd y 0])]))):_):=by kernel_rfl
 rw [e];rw [Ae hs];rw [Ed]
theorem UN (n:Nat) (hf:Ab prog 160 (Ent.rd1 (CR n)).F):Ab prog 159 (Ent.own (UL n)).F:=by
 refine fcK (kc func80 (UM n hf) KnowsL.nil).knows (Λ:=Aa []) func159 fun vs bs r h=>?_
 unfold Ent.F UL at h;dsimp only at h;split at h
 ·rename_i l y;obtain ⟨hc,h'⟩:=Ac h;exact ⟨Aj _,(SZ n y l hc).trans (by cases h'; rfl)⟩
 ·cases h
theorem MT : ∀ n,(∀ m,m<n->Ab prog 113 (Ent.rd1 (F4 m)).F)->Ab prog 113 (Ent.rd1 (F4 n)).F
 | 0,_=>AQ fun vs bs=>by
  unfold Ent.F F4;dsimp only;split
  ·rename_i z;have:=Hu z;rw [dcF (show ¬(A5 z<=0/\A5 z<=1000000/\B8 z=true) by omega)]; rfl
  ·rfl
 | n+1,ih=>by
  have hC:=UN n (LE n (ih n (lt_succ_self n)));refine fcK (kc func158 SI (kc func159 hC KnowsL.nil)).knows (Λ:=Aa []) func113 fun vs bs r hq=>?_
  unfold Ent.F F4 at hq;dsimp only at hq;split at hq
  ·rename_i z;obtain ⟨hc,hx⟩:=Ac hq;obtain ⟨h1,h2,h3⟩:=of_decide_eq_true hc;refine ⟨Aj _,Eq.trans ?_ hx⟩
   have e:A3 prog (Aa [(158,.rd1 HF),(159,.own (UL n))]) (Aa []) f113 [.tp LCd z 0] []=((ifT (decide (z.kids.length<=maxI)) (ifB (Da z.lab z.kids) (ifT (z.kids.all fun z=>decide (A5 z<=n/\A5 z<=1000000/\B8 z=true)) (some (V.b
 !z.kids.any fun z_1=>DG z.lab.1 z_1,[]))) nF)):_):=by kernel_rfl
   rw [Cu] at h1 h2;have hl:=Ct z.kids;have hM:=mxI;have hall:(z.kids.all fun z:Rose Lab=>decide (A5 z<=n/\A5 z<=1000000/\B8 z=true))=true:=all_eq_true.2 fun w hw=>dcT ⟨by have:=Dq hw; omega,by have:=Dq hw; omega,Ls (OV h3) hw⟩
   rw [e,Ae (dcT (by omega))];have hr:Bv z=(Da z.lab z.kids&&!(z.kids.any fun w=>DG z.lab.1 w)):=by cases z; rw [Bv,HB]; rfl
   rw [hr]
   cases Da z.lab z.kids with
   | true=>rw [Be,Ae hall]; rfl
   | false=>rfl
  ·cases hq
theorem right:Ab prog 113 (Ent.rd1 MB).F:=by
 refine AX (F:=fun n=>(Ent.rd1 (F4 n)).F) MT fun vs bs r h=>?_
 unfold Ent.F MB at h;dsimp only at h;split at h
 ·rename_i z;obtain ⟨hc,hx⟩:=Ac h;obtain ⟨h1,h2⟩:=of_decide_eq_true hc;refine ⟨1000000,?_⟩;show (Br.need (decide (A5 z<=1000000/\A5 z<=1000000/\B8 z=true)) (.leaf (.b (Bv z),[]))).run=some r;rw [dcT (show A5 z<=1000000/\A5 z<=1000000/\B8 z=true from ⟨h1,h1,h2⟩)];exact hx
 ·cases h
theorem VY:Ab prog 71 (Ent.rd1 Kq).F:=by
 refine fcK (kc func113 right (kc func114 Wc (kc func115 UW KnowsL.nil))).knows (Λ:=Aa []) func71 fun vs bs r hq=>?_
 unfold Ent.F Kq at hq;dsimp only at hq;split at hq
 ·rename_i z;obtain ⟨hc,hx⟩:=Ac hq;obtain ⟨h1,h2⟩:=of_decide_eq_true hc;refine ⟨Aj _,Eq.trans ?_ hx⟩
  have e:A3 prog (Aa [(113,.rd1 MB),(114,.rd1 Nb),(115,.rd1 Ks)]) (Aa []) f71 [.tp LCd z 0] []=((ifB (z.lab.1==(5:Int)) (ifB (z.lab.2.1==Ai UInt8) (ifB (z.lab.2.2.1==(0:Int)) (ifB (!z.lab.2.2.2.1) (ifT (decide (A5 z<=1000000
 /\ B8 z=true)) (ifB (Bv z) (ifT (decide (A5 z<=1000000)) (ifB (decide ((↑(Bu z):Int)<=(5:Int))) (ifT (decide (A5 z<=1000000)) (some
 (V.b (decide ((↑(A5 z):Int)<=(30:Int))),[]))) nF)) nF)) nF) nF) nF) nF):_):=by kernel_rfl
  rw [e,dcT h1,hc];have d1:decide ((Bu z:Int)<=5)=decide (Bu z<=5):=decide_eq_decide.2 (by omega);have d2:decide ((A5 z:Int)<=30)=decide (A5 z<=30):=decide_eq_decide.2 (by omega);rw [d1,d2];unfold Fi;cases z.lab.1==5<;>cases z.lab.2.1==[]<;>cases z.lab.2.2.1==0<;>cases z.lab.2.2.2.1<;>cases Bv z<;>cases decide (Bu z<=5)<;>rfl
 ·cases hq
def Bd (l:List Ty):Bool:=decide (1<=l.length/\l.length<=30)&&decide (AN l 0=some (-1))&&(kf l 0).2==l.length&&Fi (kf l 0).1
def nmL (l:List Ty):Bool:=l.all fun x=>decide (x.2.1.length<=maxI)
def Kp:Gm
 | [.agg [.sl TCd l]],[]=>.need (decide (l.length<=4000000000)&&nmL l) (.br (Bd l) (.leaf (.ptr 0 0,[some (.box [.j (kf l 0).1.lab.1,.s (kf l 0).1.lab.2.1,.j (kf l 0).1.lab.2.2.1,.b (kf l 0).1.lab.2.2.2.1,.j (kf l 0).1.lab.2.2.2.2.1,.ref 1 0 (kf l 0).1.kids.length]),R0 (.tree LCd) (kf l 0).1.kids])) (.leaf (.np,[])))
 | _,_=>.no
def Ok:Gm
 | [.agg [.sl TCd l]],[]=>.need (decide (l.length<=4000000000)&&nmL l) (.leaf (.b (Bd l),[]))
 | _,_=>.no
theorem Jr {l:List Ty} {g:Nat->Rose Lab×Nat} {a:Nat} (hg : ∀ e,e<l.length->e+A5 (g e).1=(g e).2) : ∀ (n e:Nat) (ks:RL),(AO g l a n e ks).2+Ay ks=e+Ay (AO g l a n e ks).1
 | 0,e,ks=>rfl
 | n+1,e,ks=>by
  unfold AO;split
  ·rename_i hu;have h1:=hg e (Fc hu);have h2:=Jr (a:=a) hg n (g e).2 (ks++[(g e).1])
   have h3 : ∀ (ks:RL) (z:Rose Lab),Ay (ks++[z])=Ay ks+A5 z:=fun ks z=>by
    induction ks with
    | nil=>simp [Ay]
    | cons y ks ih=>rw [List.cons_append,Ay,Ay,ih]; omega
   rw [h3] at h2;omega
  ·rfl
theorem Oi (l:List Ty) : ∀ f a,a<l.length->a+A5 (kfr l f a).1=(kfr l f a).2
 | 0,a,h=>by simp [kfr,A5,Ay]
 | f+1,a,h=>by
  unfold kfr;dsimp only
  cases A7 (Av l a).1 with
  | true=>
   have:=Jr (a:=a) (Oi l f) l.length (a+1) [];rw [Ay] at this;rw [cond_true,A5]; omega
  | false=>rw [cond_false,A5,Ay]
theorem Kr {l:List Ty} {a:Nat} (h:a<l.length):a+A5 (kf l a).1=(kf l a).2:=Oi l l.length a h
theorem HK : ∀ (ks:RL) (z:Rose Lab),Di ks=true->B8 z=true->Di (ks++[z])=true
 | [],z,_,h=>by simp [Di,h]
 | y::ks,z,h1,h2=>by
  rw [Di,anE] at h1;rw [List.cons_append,Di,h1.1,HK ks z h1.2 h2]; rfl
theorem Jq {l:List Ty} {g:Nat->Rose Lab×Nat} {a:Nat} (hg : ∀ e,B8 (g e).1=true) : ∀ (n e:Nat) (ks:RL),Di ks=true->Di (AO g l a n e ks).1=true
 | 0,e,ks,h=>h
 | n+1,e,ks,h=>by
  unfold AO;split
  ·exact Jq hg n _ _ (HK _ _ h (hg e))
  ·exact h
theorem Tb {l:List Ty} (hn:nmL l=true) : ∀ f a,B8 (kfr l f a).1=true:=by
 have lab : ∀ a,(Av l a).2.1.length<=maxI:=fun a=>by
  unfold Av
  cases h:l[a]? with
  | none=>exact Nat.zero_le _
  | some x=>exact of_decide_eq_true (all_eq_true.1 hn x (List.mem_of_getElem? h))
 intro f
 induction f with
 | zero=>intro a; simp [kfr,B8,Di,lab a]
 | succ f ih=>
  intro a;unfold kfr;dsimp only
  cases A7 (Av l a).1 with
  | true=>rw [cond_true,B8,dcT (lab a),Jq ih _ _ _ rfl]; rfl
  | false=>rw [cond_false,B8,dcT (lab a)]; rfl
theorem MX (l:List Ty) (h1:l.length<=4000000000) (h2:nmL l=true):DZ prog (Aa [(69,.rd1 AA),(70,.rd1 ES),(71,.rd1 Kq)]) (Aa []) f29 [.agg [.sl TCd l]] []=(.br (Bd l) (.leaf (.ptr 0 0,[some (.box [.j (kf l 0).1.lab.1,.s (kf l 0).1.lab.2.1,.j (kf l 0).1.lab.2.2.1,.b (kf l 0).1.lab.2.2.2.1,.j (kf l 0).1.lab.2.2.2.2.1,.ref 1 0 (kf l 0).1.kids.length]),R0 (.tree LCd) (kf l 0).1.kids])) (.leaf (.np,[])):Br (V×List (Option Blk))).run:=by
 have e:DZ prog (Aa [(69,.rd1 AA),(70,.rd1 ES),(71,.rd1 Kq)]) (Aa []) f29 [.agg [.sl TCd l]] []=((ifB (!decide (1<=(↑l.length:Int)/\(↑l.length:Int)<=(30:Int))) (some (V.np,[])) (ifT (decide ((0:Int)<=(0:Int))&&decide (0<(↑l.length:Int))) (Al
 l[0]? fun z=>ifB (z.2.2.2.2.1 != (-1:Int)) (some (V.np,[])) (ifT (decide ((0:Int)<=(0:Int)/\0<l.length/\l.length<=(4000000000 :
 Nat))) (ifB ((↑(kf l 0).2:Int) != (↑l.length:Int)) (some (V.np,[])) (ifT (decide (A5 (Rose.node ((kf l 0).1.lab.1,(kf l (0 :
 Nat)).1.lab.2.1,(kf l 0).1.lab.2.2.1,(kf l 0).1.lab.2.2.2.1,(kf l 0).1.lab.2.2.2.2.1,()) (take (kf l
 0).1.kids.length (drop 0 (kf l 0).1.kids)))<=1000000/\B8 (Rose.node ((kf l 0).1.lab.1,(kf l (0 :
 Nat)).1.lab.2.1,(kf l 0).1.lab.2.2.1,(kf l 0).1.lab.2.2.2.1,(kf l 0).1.lab.2.2.2.2.1,()) (take (kf l
 0).1.kids.length (drop 0 (kf l 0).1.kids)))=true)) (ifB (!Fi (Rose.node ((kf l 0).1.lab.1,(kf l (0 :
 Nat)).1.lab.2.1,(kf l 0).1.lab.2.2.1,(kf l 0).1.lab.2.2.2.1,(kf l 0).1.lab.2.2.2.2.1,()) (take (kf l
 0).1.kids.length (drop 0 (kf l 0).1.kids)))) (some (V.np,[])) (some (V.ptr 0 0,[some (Blk.box [V.j (kf l 0).1.lab.1,
 V.s (kf l 0).1.lab.2.1,V.j (kf l 0).1.lab.2.2.1,V.b (kf l 0).1.lab.2.2.2.1,V.j (kf l (0 :
 Nat)).1.lab.2.2.2.2.1,V.ref 1 0 (kf l 0).1.kids.length]),R0 LCd.tree (kf l 0).1.kids]))))))))):_):=by kernel_rfl
 rw [e];clear e;unfold Bd
 by_cases a1:1<=l.length/\l.length<=30
 ·have hl:0<l.length:=by omega
  have d1:decide ((1:Int)<=(l.length:Int)/\(l.length:Int)<=30)=true:=dcT (by omega);have d2:(decide ((0:Int)<=0)&&decide ((0:Int)<(l.length:Int)))=true:=by simp only [anE,dcE]; omega
  have d3:decide ((0:Int)<=0/\0<l.length/\l.length<=4000000000)=true:=dcT ⟨by omega,hl,h1⟩;have hc:=Kr hl;have hb:=DX l 0 hl;have d4:decide (A5 (kf l 0).1<=1000000/\B8 (kf l 0).1=true)=true:=dcT ⟨by omega,Tb h2 _ _⟩;have ht:=FN (kf l 0).1;rw [drop_zero,take_length] at ht;rw [d1,dcT a1];simp only [Bool.not_true,AL,d2,EC,gtE hl,Am,d3,drop_zero,take_length,ht,d4,Bool.true_and];have hu:AN l 0=some (l[0].2.2.2.2.1):=by unfold AN; rw [gtE hl]; rfl
  rw [hu]
  by_cases a2:l[0].2.2.2.2.1 = -1
  ·rw [a2]
   by_cases a3:(kf l 0).2=l.length
   ·rw [a3];cases Fi (kf l 0).1<;>simp [Br.run]
   ·rw [beq_false_of_ne a3];have:(((kf l 0).2:Int) != (l.length:Int))=true:=by simpa using a3
    simp [this,Br.run]
  ·have:(l[0].2.2.2.2.1 != (-1:Int))=true:=by simpa using a2
   simp [a2,this,Br.run]
 ·have d1:decide ((1:Int)<=(l.length:Int)/\(l.length:Int)<=30)=false:=dcF (by omega);rw [d1,dcF a1];rfl
theorem US:Ab prog 29 (Ent.rd1 Kp).F:=by
 refine fcN (kc func69 Ew (kc func70 Rg (kc func71 VY KnowsL.nil))).knows (Λ:=Aa []) func29 fun vs bs r hq=>?_
 unfold Ent.F Kp at hq;dsimp only at hq;split at hq
 ·rename_i l;obtain ⟨hc,hx⟩:=Ac hq;rw [anE] at hc;exact ⟨Aj _,(MX l (of_decide_eq_true hc.1) hc.2).trans hx⟩
 ·cases hq
def Ck (k:Int):Nat->List Ty->List Int
 | _,[]=>[]
 | i,x::l=>if x.2.2.2.2.1=k then (i:Int)::Ck k (i+1) l else Ck k (i+1) l
def Bc (l:List Ty) (k:Nat):List Int:=Ck k (k+1) (l.drop (k+1))
def t2 (l:List Ty):Nat->Nat->Rose Lab
 | 0,k=>.node (Av l k) []
 | f+1,k=>.node (Av l k) ((Bc l k).map fun i=>t2 l f i.toNat)
def t2L (l:List Ty) (k:Nat):Rose Lab:=t2 l l.length k
def CQ:LoopEnt:=⟨29,[1,2,5,6],[5],[],fun
 | ([.j k,.ptr 0 0,.ref 1 0 n,.j i],[some (.box [.sl TCd l]),R0 (.int .i64) o])=>.need (decide (0<=i/\i.toNat<=l.length/\l.length<=4000000000/\n=o.length/\o.length<=i.toNat)) (.leaf (.exit 0,([.ref 0 0 (o++Ck k i.toNat (l.drop i.toNat)).length],[R0 (.int .i64) (o++Ck k i.toNat (l.drop i.toNat))])))
 | _=>.no⟩
def Hp:Gm
 | [.agg [.sl TCd l],.j k],[]=>.need (decide (0<=k/\k.toNat<l.length/\l.length<=4000000000)) (.leaf (.ref 0 0 (Bc l k.toNat).length,[R0 (.int .i64) (Bc l k.toNat)]))
 | _,_=>.no
def DV (n:Nat):Gm
 | [.agg [.sl TCd l],.j k],[]=>.need (decide (0<=k/\k.toNat<l.length/\l.length<=4000000000/\l.length-k.toNat<=n)) (.leaf (.agg [.j (t2L l k.toNat).lab.1,.s (t2L l k.toNat).lab.2.1,.j (t2L l k.toNat).lab.2.2.1,.b (t2L l k.toNat).lab.2.2.2.1,.j (t2L l k.toNat).lab.2.2.2.2.1,.ref 0 0 (t2L l k.toNat).kids.length],[R0 (.rose LCd) (t2L l k.toNat).kids]))
 | _,_=>.no
def Ho:Gm
 | [.agg [.sl TCd l],.j k],[]=>.need (decide (0<=k/\k.toNat<l.length/\l.length<=4000000000)) (.leaf (.agg [.j (t2L l k.toNat).lab.1,.s (t2L l k.toNat).lab.2.1,.j (t2L l k.toNat).lab.2.2.1,.b (t2L l k.toNat).lab.2.2.2.1,.j (t2L l k.toNat).lab.2.2.2.2.1,.ref 0 0 (t2L l k.toNat).kids.length],[R0 (.rose LCd) (t2L l k.toNat).kids]))
 | _,_=>.no
def CP (n:Nat):LoopEnt:=⟨43,[2,4,6,27,28,29],[4,6],[],fun
 | ([.ptr 0 0,.ptr 1 0,.ptr 2 0,.ref 3 0 p,.j m,.j i],[some (.box [.sl TCd l]),some (.box [.j 0,.s [],.j 0,.b false,.j 0,.ref 4 0 0]),some (.box [.j x0,.s x1,.j x2,.b x3,.j x4,.ref 5 0 k]),R0 (.int .i64) q,R0 (.rose LCd) [],R0 (.rose LCd) ks])=>.need (decide (0<=i/\i.toNat<=q.length/\m=q.length/\p=q.length/\k=ks.length/\ks.length<=i.toNat/\q.length<=4000000000/\l.length<=4000000000)&&(q.all fun i:Int=>decide (0<=i/\i.toNat<l.length/\l.length-i.toNat<=n))) (.leaf (.exit 0,([.ptr 0 0,.ptr 1 0],[some (.box [.j 0,.s [],.j 0,.b false,.j 0,.ref 2 0 0]),some (.box [.j x0,.s x1,.j x2,.b x3,.j x4,.ref 3 0 (ks++(q.drop i.toNat).map fun i=>t2L l i.toNat).length]),R0 (.rose LCd) [],R0 (.rose LCd) (ks++(q.drop i.toNat).map fun i=>t2L l i.toNat)])))
 | _=>.no⟩
theorem Js {k:Int} : ∀ {l:List Ty} {i:Nat} {x:Int},x∈Ck k i l->∃ j:Nat,x=(j:Int)/\i<=j/\j<i+l.length
 | [],i,x,h=>by simp [Ck] at h
 | y::l,i,x,h=>by
  rw [Ck] at h
  have rest:x∈Ck k (i+1) l->∃ j:Nat,x=(j:Int)/\i<=j/\j<i+(y::l).length:=fun h=>by
   obtain ⟨j,h1,h2,h3⟩:=Js h;exact ⟨j,h1,by omega,by simp; omega⟩
  split at h
  ·rcases mem_cons.1 h with rfl | h
   ·exact ⟨i,rfl,Nat.le_refl _,by simp⟩
   ·exact rest h
  ·exact rest h
theorem F5 {l:List Ty} {k:Nat} {x:Int} (h:x∈Bc l k) : ∃ j:Nat,x=(j:Int)/\k<j/\j<l.length:=by
 obtain ⟨j,h1,h2,h3⟩:=Js h;rw [List.length_drop] at h3;exact ⟨j,h1,by omega,by omega⟩
theorem Jt (k:Int) : ∀ (l:List Ty) (i:Nat),(Ck k i l).length<=l.length
 | [],i=>Nat.le_refl _
 | y::l,i=>by
  rw [Ck];have:=Jt k l (i+1);split<;>simp<;>omega
theorem N9 (l:List Ty) : ∀ (f f' k:Nat),l.length-k<=f->l.length-k<=f'->k<l.length->t2 l f k=t2 l f' k
 | 0,f',k,h1,_,h=>by omega
 | f+1,0,k,_,h1,h=>by omega
 | f+1,f'+1,k,h1,h2,h=>by
  unfold t2;congr 1;refine List.map_congr_left fun x hx=>?_
  obtain ⟨j,rfl,h3,h4⟩:=F5 hx;exact N9 l f f' _ (by simp; omega) (by simp; omega) (by simpa using h4)
theorem TX {l:List Ty} {k:Nat} (h:k<l.length):t2L l k = .node (Av l k) ((Bc l k).map fun i=>t2L l i.toNat):=by
 obtain ⟨m,hm⟩ : ∃ m,l.length=m+1:=⟨l.length-1,by omega⟩
 unfold t2L
 conv=>lhs; rw [hm]
 rw [t2];congr 1;refine List.map_congr_left fun x hx=>?_
 obtain ⟨j,rfl,h3,h4⟩:=F5 hx;exact N9 l m l.length _ (by simp; omega) (by simp) (by simpa using h4)
theorem Ga (l:List Ty) (k:Int) (n:Nat) (i:Int) (o:List Int):As prog (Aa []) (Aa [(3,CQ)]) 0 (body f83 0) CQ ([.j k,.ptr 0 0,.ref 1 0 n,.j i],[some (.box [.sl TCd l]),R0 (.int .i64) o]) =
 ((ifB (decide (i<(↑l.length:Int))) (ifT (decide (0<=i)&&decide (i<(↑l.length:Int))) (Al l[i.toNat]? fun z=>ifB (z.2.2.2.2.1==k) (ifT (decide ((n
 + 1)*8<=140737488355328)&&decide (n+1<=maxI)) (some (Ex.normal,[V.j k,V.ptr 0 0,V.ref 1 0 (n+1),V.i .i64
 (i64.wrap (i+1))],[some (Blk.box [V.sl TCd l]),R0 (Cd.int .i64) (take n (drop 0 o)++i::Ai (Cd.int
 .i64).den)]))) (some (Ex.normal,[V.j k,V.ptr 0 0,V.ref 1 0 n,V.j (i64.wrap (i+1))],[some (Blk.box [V.sl TCd l]),R0 (Cd.int .i64) o])))) (some (Ex.exit 0,[V.ref 0 0 n],[R0 (Cd.int .i64) o]))):_):=by kernel_rfl
theorem E8 (l:List Ty) (k:Int) (hl:l.length<=4000000000) : ∀ (j i:Nat) (o:List Int),i+j=l.length->o.length<=i->
  Runs prog (Aa []) (Aa [(3,CQ)]) 0 (body f83 0) CQ ([.j k,.ptr 0 0,.ref 1 0 o.length,.j (i:Int)],[some (.box [.sl TCd l]),R0 (.int .i64) o]) (.exit 0) ([.ref 0 0 (o++Ck k i (l.drop i)).length],[R0 (.int .i64) (o++Ck k i (l.drop i))])
 | 0,i,o,hi,ho=>by
  have hr:=Ga l k o.length i o;rw [Ad (dcF (by omega))] at hr;rw [drop_eq_nil_of_le (by omega),Ck,append_nil];exact stp hr
 | j+1,i,o,hi,ho=>by
  have h1:i<l.length:=by omega
  have hM:=mxI;have hr:=Ga l k o.length i o;rw [Ag (dcT (by omega)),T2 (by omega)] at hr;simp only [ntN,gtE h1,Am,Ax (n:=i) (by omega),drop_zero,take_length] at hr;rw [drop_eq_getElem_cons h1,Ck]
  by_cases h2:l[i].2.2.2.2.1=k
  ·rw [Ag (by rw [h2]; exact beq_self_eq_true _),T2 (by omega)] at hr;rw [if_pos h2];have ih:=E8 l k hl j (i+1) (o++[(i:Int)]) (by omega) (by simp; omega);rw [append_assoc] at ih;exact sts (hr.trans (by simp)) ih
  ·rw [Ad (beq_false_of_ne h2)] at hr;rw [if_neg h2];exact sts hr (E8 l k hl j (i+1) o (by omega) (by omega))
theorem Pe:Ar prog (Aa []) (Aa [(3,CQ)]) 0 (f83.body.getD .skip):=by
 refine Ap (a:=body f83 0) (by kernel_rfl) fun d ex d' h=>?_
 unfold CQ at h;dsimp only at h;split at h
 ·rename_i k n i l o;obtain ⟨hc,hx⟩:=Ac h;clear h;obtain ⟨h0,h1,h2,rfl,h4⟩:=of_decide_eq_true hc;obtain ⟨i,rfl⟩:=eq_ofNat_of_zero_le h0;simp only [ntN] at h1 h4 hx;obtain ⟨rfl,rfl⟩:=lfP hx;exact E8 l k h2 (l.length-i) i o (by omega) h4
 ·cases h
theorem MS (l:List Ty) (k:Int) (hc:0<=k/\k.toNat<l.length/\l.length<=4000000000):DZ prog (Aa []) (Aa [(3,CQ)]) f83 [.agg [.sl TCd l],.j k] []=some (.ref 0 0 (Bc l k.toNat).length,[R0 (.int .i64) (Bc l k.toNat)]):=by
 have e:DZ prog (Aa []) (Aa [(3,CQ)]) f83 [.agg [.sl TCd l],.j k] []=((ifT (decide (0<=i64.wrap (k+1)/\(i64.wrap (k+1)).toNat<=l.length/\l.length<=4000000000/\0=0/\0<=
 (i64.wrap (k+1)).toNat)) (some (V.ref 0 0 (Ai (Cd.int .i64).den++Ck k (i64.wrap (k+1)).toNat (drop (i64.wrap (k+1)).toNat
 l)).length,[R0 (Cd.int .i64) (Ai (Cd.int .i64).den++Ck k (i64.wrap (k+1)).toNat (drop (i64.wrap (k+1)).toNat
 l))]))):_):=by kernel_rfl
 rw [e];clear e;obtain ⟨h0,h1,h2⟩:=hc;obtain ⟨k,rfl⟩:=eq_ofNat_of_zero_le h0;rw [ntN] at h1;have hM:=mxI;rw [Ax (n:=k) (by omega),Ae (dcT ⟨by omega,by omega,h2,by simp,by simp⟩)];simp only [ntN,AG,List.nil_append];rfl
theorem Rb:Ab prog 83 (Ent.rd1 Hp).F:=by
 refine fcN KnowsL.nil.knows (Λ:=(Aa [(3,CQ)])) func83 fun vs bs r hq=>?_
 unfold Ent.F Hp at hq;dsimp only at hq;split at hq
 ·rename_i l k;obtain ⟨hc,hx⟩:=Ac hq;exact ⟨Pe,(MS l k (of_decide_eq_true hc)).trans hx⟩
 ·cases hq
abbrev Sh (n:Nat):FuncId->Option Ent:=Aa [(83,.rd1 Hp),(39,.rd1 (DV n))]
theorem FY (n:Nat) (l:List Ty) (x0:Int) (x1:By) (x2:Int) (x3:Bool) (x4:Int) (p:Nat) (m i:Int) (k:Nat) (q:List Int) (ks:RL):As prog (Sh n) (Aa [(4,CP n)]) 0 (body f39 0) (CP n) ([.ptr 0 0,.ptr 1 0,.ptr 2 0,.ref 3 0 p,.j m,.j i],[some (.box [.sl TCd l]),some (.box [.j 0,.s [],.j 0,.b false,.j 0,.ref 4 0 0]),some (.box [.j x0,.s x1,.j x2,.b x3,.j x4,.ref 5 0 k]),R0 (.int .i64) q,R0 (.rose LCd) [],R0 (.rose LCd) ks]) =
 ((shr (Ai LCd.rose.den) fun sh1=>ifB (decide (i<m)) (ifT (decide (0<=i)&&decide (i<(↑p:Int))) (Al q[0+i.toNat]? fun z=>ifT (decide ((0:Int)<=
 z/\toNat z<l.length/\l.length<=4000000000/\l.length-toNat z<=n)) (ifT (decide ((k+1)*72<=140737488355328)&&decide
 (k+1<=maxI)) (some (Ex.normal,[V.ptr 0 0,V.ptr 1 0,V.ptr 2 0,V.ref 3 0 p,V.j m,V.j (i64.wrap (i+1))],[some (Blk.box [V.sl TCd l]),
 some (Blk.box [V.j 0,V.s (Ai UInt8),V.j 0,V.b false,V.j 0,V.ref 4 0 0]),some (Blk.box [V.j x0,V.s x1,V.j x2,V.b x3,V.j x4,V.ref
 5 0 (k+1)]),R0 (Cd.int .i64) q,R0 LCd.rose sh1,R0 LCd.rose (take k (drop (0 :
 Nat) ks)++Rose.node ((t2L l (toNat z)).lab.1,(t2L l (toNat z)).lab.2.1,(t2L l (toNat z)).lab.2.2.1,(t2L l (toNat z)).lab.2.2.2.1,
 (t2L l (toNat z)).lab.2.2.2.2.1,()) (take (t2L l (toNat z)).kids.length (drop 0 (t2L l (toNat z)).kids))::sh1)]))))) (some
 (Ex.exit 0,[V.ptr 0 0,V.ptr 1 0],[some (Blk.box [V.j 0,V.s (Ai UInt8),V.j 0,V.b false,V.j 0,V.ref 2 0 0]),some (Blk.box [V.j x0,V.s x1,
 V.j x2,V.b x3,V.j x4,V.ref 3 0 k]),R0 LCd.rose sh1,R0 LCd.rose ks]))):_):=by kernel_rfl
theorem L9 (n:Nat) (l:List Ty) (k:Int):DZ prog (Sh n) (Aa [(4,CP n)]) f39 [.agg [.sl TCd l],.j k] [] =
 ((ifT (decide (0<=k)&&decide (k<(↑l.length:Int))) (Al l[k.toNat]? fun z=>ifT (decide (0<=k/\k.toNat<l.length/\l.length<=4000000000)) (ifT (decide
 ((0:Int)<=(0:Int)/\0<=(Bc l k.toNat).length/\(↑(Bc l k.toNat).length:Int)=(↑(Bc l k.toNat).length:Int)/\(Bc l k.toNat).length =
 (Bc l k.toNat).length/\0=0/\0<=0/\(Bc l k.toNat).length<=4000000000/\l.length<=4000000000)&&(Bc l
 k.toNat).all fun i=>decide ((0:Int)<=i/\i.toNat<l.length/\l.length-i.toNat<=n)) (some (V.agg [V.j z.1,V.s z.2.1,V.j z.2.2.1,V.b
 z.2.2.2.1,V.j z.2.2.2.2.2.1,V.ref 0 0 (Ai LCd.rose.den++List.map (fun i=>t2L l (toNat i)) (drop 0 (Bc l
 k.toNat))).length],[R0 LCd.rose (Ai LCd.rose.den++List.map (fun i=>t2L l (toNat i)) (drop 0 (Bc l k.toNat)))]))))):_):=by kernel_rfl
theorem GO (n:Nat) (l:List Ty) (x0:Int) (x1:By) (x2:Int) (x3:Bool) (x4:Int) (q:List Int) (hl:l.length<=4000000000) (hq:q.length<=4000000000) (hs:(q.all fun i:Int=>decide (0<=i/\i.toNat<l.length/\l.length-i.toNat<=n))=true) : ∀ (j i:Nat) (ks:RL),i+j=q.length->ks.length<=i->
  Runs prog (Sh n) (Aa [(4,CP n)]) 0 (body f39 0) (CP n) ([.ptr 0 0,.ptr 1 0,.ptr 2 0,.ref 3 0 q.length,.j (q.length:Int),.j (i:Int)],[some (.box [.sl TCd l]),some (.box [.j 0,.s [],.j 0,.b false,.j 0,.ref 4 0 0]),some (.box [.j x0,.s x1,.j x2,.b x3,.j x4,.ref 5 0 ks.length]),R0 (.int .i64) q,R0 (.rose LCd) [],R0 (.rose LCd) ks]) (.exit 0) ([.ptr 0 0,.ptr 1 0],[some (.box [.j 0,.s [],.j 0,.b false,.j 0,.ref 2 0 0]),some (.box [.j x0,.s x1,.j x2,.b x3,.j x4,.ref 3 0 (ks++(q.drop i).map fun i=>t2L l i.toNat).length]),R0 (.rose LCd) [],R0 (.rose LCd) (ks++(q.drop i).map fun i=>t2L l i.toNat)])
 | 0,i,ks,hi,hk=>by
  have hr:=FY n l x0 x1 x2 x3 x4 q.length q.length i ks.length q ks;dsimp only [shr] at hr;rw [Ad (dcF (by omega))] at hr;rw [drop_eq_nil_of_le (by omega),List.map_nil,append_nil];exact stp hr
 | j+1,i,ks,hi,hk=>by
  have h1:i<q.length:=by omega
  have hM:=mxI;have hr:=FY n l x0 x1 x2 x3 x4 q.length q.length i ks.length q ks;dsimp only [shr] at hr;have hz:=of_decide_eq_true (all_eq_true.1 hs _ (getElem_mem h1));rw [Ag (dcT (by omega)),T2 (by omega)] at hr;simp only [ntN,zero_add,gtE h1,Am,Ax (n:=i) (by omega),drop_zero,take_length] at hr;rw [Ae (dcT ⟨hz.1,hz.2.1,hl,hz.2.2⟩),T2 (by omega)] at hr;have ht:=FN (t2L l q[i].toNat);rw [drop_zero,take_length] at ht;rw [ht] at hr;rw [drop_eq_getElem_cons h1,List.map_cons];have ih:=GO n l x0 x1 x2 x3 x4 q hl hq hs j (i+1) (ks++[t2L l q[i].toNat]) (by omega) (by simp; omega);rw [append_assoc] at ih;exact sts (hr.trans (by simp)) ih
theorem Pc (n:Nat):Ar prog (Sh n) (Aa [(4,CP n)]) 0 (f39.body.getD .skip):=by
 refine Ap (a:=body f39 0) (by kernel_rfl) fun d ex d' h=>?_
 unfold CP at h;dsimp only at h;split at h
 ·rename_i p m i l x0 x1 x2 x3 x4 k q ks;obtain ⟨hc,hx⟩:=Ac h;clear h;rw [anE] at hc;obtain ⟨hc,hs⟩:=hc;obtain ⟨h0,h1,rfl,rfl,rfl,h5,h6,h7⟩:=of_decide_eq_true hc;obtain ⟨i,rfl⟩:=eq_ofNat_of_zero_le h0;simp only [ntN] at h1 h5 hx;obtain ⟨rfl,rfl⟩:=lfP hx;exact GO n l x0 x1 x2 x3 x4 q h7 h6 hs (q.length-i) i ks (by omega) h5
 ·cases h
theorem MP (n:Nat) (l:List Ty) (k:Int) (hc:0<=k/\k.toNat<l.length/\l.length<=4000000000/\l.length-k.toNat<=n+1):DZ prog (Sh n) (Aa [(4,CP n)]) f39 [.agg [.sl TCd l],.j k] []=some (.agg [.j (t2L l k.toNat).lab.1,.s (t2L l k.toNat).lab.2.1,.j (t2L l k.toNat).lab.2.2.1,.b (t2L l k.toNat).lab.2.2.2.1,.j (t2L l k.toNat).lab.2.2.2.2.1,.ref 0 0 (t2L l k.toNat).kids.length],[R0 (.rose LCd) (t2L l k.toNat).kids]):=by
 rw [L9];obtain ⟨h0,h1,h2,h3⟩:=hc;obtain ⟨k,rfl⟩:=eq_ofNat_of_zero_le h0;rw [ntN] at h1 h3;have hkl:=Jt (k:Int) (l.drop (k+1)) (k+1);rw [List.length_drop] at hkl;have hkl2:(Bc l k).length<=l.length-(k+1):=hkl;rw [T2 (by omega)];simp only [ntN,gtE h1,Am];rw [Ae (dcT ⟨by omega,h1,h2⟩)]
 have hall:((Bc l k).all fun i:Int=>decide (0<=i/\i.toNat<l.length/\l.length-i.toNat<=n))=true:=all_eq_true.2 fun x hx=>by
  obtain ⟨j,rfl,h5,h6⟩:=F5 hx;exact dcT ⟨by omega,by simpa using h6,by simp; omega⟩
 rw [Ae (by rw [anE]; exact ⟨dcT ⟨by omega,by simp,by simp,by simp,by simp,by simp,by omega,h2⟩,hall⟩)];have hlab:Av l k=(l[k].1,l[k].2.1,l[k].2.2.1,l[k].2.2.2.1,l[k].2.2.2.2.2.1,()):=by unfold Av; rw [gtE h1]
 rw [TX h1,hlab];simp [Rose.lab,Rose.kids]
theorem MQ : ∀ n,(∀ m,m<n->Ab prog 39 (Ent.rd1 (DV m)).F)->Ab prog 39 (Ent.rd1 (DV n)).F
 | 0,_=>AQ fun vs bs=>by
  unfold Ent.F DV;dsimp only;split
  ·rename_i l a;have:decide (0<=a/\a.toNat<l.length/\l.length<=4000000000/\l.length-a.toNat<=0)=false:=dcF (by omega);rw [this]; rfl
  ·rfl
 | n+1,ih=>by
  refine fcN (kc func83 Rb (kc func39 (ih n (lt_succ_self n)) KnowsL.nil)).knows (Λ:=(Aa [(4,CP n)])) func39 fun vs bs r hq=>?_
  unfold Ent.F DV at hq;dsimp only at hq;split at hq
  ·rename_i l a;obtain ⟨hc,hx⟩:=Ac hq;exact ⟨Pc n,(MP n l a (of_decide_eq_true hc)).trans hx⟩
  ·cases hq
theorem Ra:Ab prog 39 (Ent.rd1 Ho).F:=by
 refine AX (F:=fun n=>(Ent.rd1 (DV n)).F) MQ fun vs bs r h=>?_
 unfold Ent.F Ho at h;dsimp only at h;split at h
 ·rename_i l a;obtain ⟨hc,hx⟩:=Ac h;obtain ⟨h0,h1,h2⟩:=of_decide_eq_true hc;refine ⟨l.length,?_⟩;unfold Ent.F DV;dsimp only;have:decide (0<=a/\a.toNat<l.length/\l.length<=4000000000/\l.length-a.toNat<=l.length)=true:=dcT ⟨h0,h1,h2,by omega⟩;rw [this];exact hx
 ·cases h
def Gt (n:Nat):Gm
 | [.agg (Lt z0 _ _ _ _ zs)],[]=>.need (decide (Ay zs+1<=n/\Ay zs+1<=1000000)) (.leaf (.j ((BI zs+(bif A7 z0 then 1 else 0):Nat):Int),[]))
 | _,_=>.no
def MA:Gm
 | [.agg (Lt z0 _ _ _ _ zs)],[]=>.need (decide (Ay zs+1<=1000000)) (.leaf (.j ((BI zs+(bif A7 z0 then 1 else 0):Nat):Int),[]))
 | _,_=>.no
def DP (n:Nat):LoopEnt:=⟨27,[1,3,8,9,10],[1,3],[],fun
 | ([.ptr 0 0,.j m,.sl (.rose LCd) ks,.j k,.j i],[some (.box (Lt y0 y1 y2 y3 y4 ys))])=>.need (decide (0<=m/\m<=1000001/\0<=i/\i.toNat<=ks.length/\k=ks.length/\Ay ks<=n/\Ay ks<=1000000)) (.leaf (.exit 0,([.ptr 0 0,.j ((max m.toNat (BI (ks.drop i.toNat)):Nat):Int)],[some (.box (Lt y0 y1 y2 y3 y4 ys))])))
 | _=>.no⟩
def CC (l:List Ty) (u:Int):Nat->Int->Bool
 | 0,_=>false
 | f+1,x=>if x<0 then false else if x=u then true else match AN l x.toNat with | some v=>CC l u f v | none=>false
def Ci (l:List Ty) (i:Nat):Bool:=(range i).all fun j=>match AN l j with | some v=>decide (v<(j:Int)) | none=>false
def CV (l:List Ty) (i:Nat):Bool:=match AN l i with | some u=>CC l u (i+1) ((i:Int)-1) | none=>false
def G3:Gm
 | [.sl TCd l,.j i],[]=>.need (decide (0<=i/\i.toNat<l.length/\l.length<=4000000000)&&Ci l i.toNat) (.leaf (.b (CV l i.toNat),[]))
 | _,_=>.no
def BU:LoopEnt:=⟨22,[0,1,5],[],[4],fun
 | ([.sl TCd l,.j i,.j x],[])=>.need (decide (0<=i/\i.toNat<l.length/\l.length<=4000000000/\x<i)&&Ci l i.toNat) (.opt (.int .i64) (AN l i.toNat) fun u=>.br (CC l u (x+1).toNat x) (.leaf (.ret,([.b true],[]))) (.leaf (.exit 0,([],[]))))
 | _=>.no⟩
theorem Jd (z:Rose Lab):BI z.kids+(bif A7 z.lab.1 then 1 else 0)=Bu z:=by cases z; rw [Bu]; rfl
abbrev Sg (n:Nat):FuncId->Option Ent:=Aa [(109,.rd1 (Gt n)),(151,.rd1 Gb)]
theorem GK (n:Nat) (y0:Int) (y1:By) (y2:Int) (y3:Bool) (y4:Int) (ys:RL) (m:Int) (ks:RL) (k i:Int):As prog (Sg n) (Aa [(3,DP n)]) 0 (body f109 0) (DP n) ([.ptr 0 0,.j m,.sl (.rose LCd) ks,.j k,.j i],[some (.box (Lt y0 y1 y2 y3 y4 ys))]) =
 ((ifB (decide (i<k)) (ifT (decide (0<=i)&&decide (i<(↑ks.length:Int))) (Al ks[i.toNat]? fun z=>ifT (decide (Ay (Rose.kids z)+1<=n/\Ay
 (Rose.kids z)+1<=1000000)) (ifB (decide ((↑(BI (Rose.kids z)+bif A7 (Rose.lab z).1 then 1 else 0):Int)>m)) (some
 (Ex.normal,[V.ptr 0 0,V.j (↑(BI (Rose.kids z)+bif A7 (Rose.lab z).1 then 1 else 0):Int),V.sl LCd.rose ks,V.j k,V.i .i64
 (i64.wrap (i+1))],[some (Blk.box (Lt y0 y1 y2 y3 y4 ys))])) (some (Ex.normal,[V.ptr 0 0,V.j m,V.sl
 LCd.rose ks,V.j k,V.j (i64.wrap (i+1))],[some (Blk.box (Lt y0 y1 y2 y3 y4 ys))]))))) (some
 (Ex.exit 0,[V.ptr 0 0,V.j m],[some (Blk.box (Lt y0 y1 y2 y3 y4 ys))]))):_):=by kernel_rfl
theorem M9 (n:Nat) (z0:Int) (z1:By) (z2:Int) (z3:Bool) (z4:Int) (zs:RL):A3 prog (Sg n) (Aa [(3,DP n)]) f109 [.agg (Lt z0 z1 z2 z3 z4 zs)] [] =
 ((ifT (decide ((0:Int)<=(0:Int)/\(0:Int)<=(1000001:Int)/\(0:Int)<=(0:Int)/\0<=zs.length/\(↑zs.length:Int)=(↑zs.length:Int)/\Ay zs<=n/\
 Ay zs<=1000000)) (ifB (A7 z0) (some (V.j (i64.wrap ((↑(max 0 (BI (drop 0 zs))):Int)+(1:Int))),[])) (some (V.i
 .i64 (↑(max 0 (BI (drop 0 zs))):Int),[])))):_):=by kernel_rfl
theorem H5 (n:Nat) (y0:Int) (y1:By) (y2:Int) (y3:Bool) (y4:Int) (ys:RL) (ks:RL) (h1:Ay ks<=n) (h2:Ay ks<=1000000) : ∀ (j i m:Nat),i+j=ks.length->m<=1000001->
  Runs prog (Sg n) (Aa [(3,DP n)]) 0 (body f109 0) (DP n) ([.ptr 0 0,.j (m:Int),.sl (.rose LCd) ks,.j (ks.length:Int),.j (i:Int)],[some (.box (Lt y0 y1 y2 y3 y4 ys))]) (.exit 0) ([.ptr 0 0,.j ((max m (BI (ks.drop i)):Nat):Int)],[some (.box (Lt y0 y1 y2 y3 y4 ys))])
 | 0,i,m,hi,hm=>by
  have hr:=GK n y0 y1 y2 y3 y4 ys m ks ks.length i;rw [Ad (dcF (by omega))] at hr;have e1:ks.drop i=[]:=drop_eq_nil_of_le (by omega);rw [e1,BI];exact .stop _ _ _ (hr.trans (by simp)) (by simp)
 | j+1,i,m,hi,hm=>by
  have hl:i<ks.length:=by omega
  have hM:=mxI;have hr:=GK n y0 y1 y2 y3 y4 ys m ks ks.length i;have hmem:=Dq (getElem_mem hl);have hlen:=Ct ks;have hdm:=Gk ks[i];have hck:=Cu ks[i];rw [Ag (dcT (by omega)),T2 (by omega)] at hr;simp only [ntN,gtE hl,Am,Ax (n:=i) (by omega)] at hr;rw [Ae (dcT ⟨by omega,by omega⟩)] at hr;simp only [Jd] at hr;rw [drop_eq_getElem_cons hl,BI];have ih:=H5 n y0 y1 y2 y3 y4 ys ks h1 h2 j (i+1) (max m (Bu ks[i])) (by omega) (by omega);rw [<-Nat.max_assoc]
  by_cases hx:(Bu ks[i]:Int)>(m:Int)
  ·rw [Ag (dcT hx)] at hr;have hmx:max m (Bu ks[i])=Bu ks[i]:=by omega
   exact sts (hr.trans (by rw [hmx])) ih
  ·rw [Ad (dcF hx)] at hr;have hmx:max m (Bu ks[i])=m:=by omega
   exact sts (hr.trans (by rw [hmx])) ih
theorem Ql (n:Nat):Ar prog (Sg n) (Aa [(3,DP n)]) 0 (f109.body.getD .skip):=by
 refine Ap (a:=body f109 0) (by kernel_rfl) fun d ex d' h=>?_
 unfold DP at h;dsimp only at h;split at h
 ·rename_i m ks k i y0 y1 y2 y3 y4 ys;obtain ⟨hc,hx⟩:=Ac h;clear h;obtain ⟨h0,h1,h2,h3,rfl,h5,h6⟩:=of_decide_eq_true hc;obtain ⟨m,rfl⟩:=eq_ofNat_of_zero_le h0;obtain ⟨i,rfl⟩:=eq_ofNat_of_zero_le h2;simp only [ntN] at h3 hx;obtain ⟨rfl,rfl⟩:=lfP hx;exact H5 n y0 y1 y2 y3 y4 ys ks h5 h6 (ks.length-i) i m (by omega) (by omega)
 ·cases h
theorem OH (n:Nat) (z0:Int) (z1:By) (z2:Int) (z3:Bool) (z4:Int) (zs:RL) (hc:Ay zs+1<=n+1/\Ay zs+1<=1000000):A3 prog (Sg n) (Aa [(3,DP n)]) f109 [.agg (Lt z0 z1 z2 z3 z4 zs)] []=some (.j ((BI zs+(bif A7 z0 then 1 else 0):Nat):Int),[]):=by
 rw [M9];obtain ⟨h1,h2⟩:=hc;have hdp:=EU zs;rw [Ae (dcT (by refine ⟨by omega,by omega,by omega,by simp,by trivial,by omega,by omega⟩))];simp only [drop_zero,Nat.zero_max]
 cases hx:A7 z0 with
 | true=>rw [Be,An (by omega) (by omega)]; simp
 | false=>rw [AL]; simp
theorem OI : ∀ n,(∀ m,m<n->Ab prog 109 (Ent.rd1 (Gt m)).F)->Ab prog 109 (Ent.rd1 (Gt n)).F
 | 0,_=>AQ fun vs bs=>by
  unfold Ent.F Gt;dsimp only;split
  ·rename_i z0 z1 z2 z3 z4 zs;rw [dcF (show ¬(Ay zs+1<=0/\Ay zs+1<=1000000) by omega)]; rfl
  ·rfl
 | n+1,ih=>by
  refine fcK (kc func109 (ih n (lt_succ_self n)) (kc func151 Oe KnowsL.nil)).knows (Λ:=(Aa [(3,DP n)])) func109 fun vs bs r hq=>?_
  unfold Ent.F Gt at hq;dsimp only at hq;split at hq
  ·rename_i z0 z1 z2 z3 z4 zs;obtain ⟨hc,hx⟩:=Ac hq;exact ⟨Ql n,(OH n z0 z1 z2 z3 z4 zs (of_decide_eq_true hc)).trans hx⟩
  ·cases hq
theorem VJ:Ab prog 109 (Ent.rd1 MA).F:=by
 refine AX (F:=fun n=>(Ent.rd1 (Gt n)).F) OI fun vs bs r h=>?_
 unfold Ent.F MA at h;dsimp only at h;split at h
 ·rename_i z0 z1 z2 z3 z4 zs;obtain ⟨hc,hx⟩:=Ac h;have hc:=of_decide_eq_true hc;refine ⟨1000000,?_⟩;show (Br.need (decide (Ay zs+1<=1000000/\Ay zs+1<=1000000)) (.leaf (.j ((BI zs+(bif A7 z0 then 1 else 0):Nat):Int),[]))).run=some r;rw [dcT (show Ay zs+1<=1000000/\Ay zs+1<=1000000 from ⟨hc,hc⟩)];exact hx
 ·cases h
theorem HS (l:List Ty) (i x:Int):As prog (Aa []) (Aa [(2,BU)]) 0 (body f152 0) BU ([.sl TCd l,.j i,.j x],[]) =
 ((ifB (decide (x>=0)) (ifT (decide (0<=i)&&decide (i<(↑l.length:Int))) (Al l[i.toNat]? fun z=>ifB (x==z.2.2.2.2.1) (some (Ex.ret,[V.b true],[]))
 (ifT (decide (0<=x)&&decide (x<(↑l.length:Int))) (Al l[x.toNat]? fun z=>some (Ex.normal,[V.sl TCd l,V.j i,V.j z.2.2.2.2.1],[])))))
 (some (Ex.exit 0,[],[]))):_):=by kernel_rfl
theorem PL {l:List Ty} {i j:Nat} (h:Ci l i=true) (hj:j<i) : ∃ v,AN l j=some v/\v<(j:Int):=by
 have:=all_eq_true.1 h j (mem_range.2 hj)
 cases hu:AN l j with
 | none=>rw [hu] at this; cases this
 | some v=>rw [hu] at this; exact ⟨v,rfl,of_decide_eq_true this⟩
theorem GE {l:List Ty} {i:Nat} (h:Ci l i=true) (u:Int) : ∀ (f f':Nat) (x:Int),x<(i:Int)->(x+1).toNat<=f->(x+1).toNat<=f'->CC l u f x=CC l u f' x
 | 0,0,x,_,_,_=>rfl
 | 0,f'+1,x,hx,h1,h2=>by rw [CC,CC,if_pos (by omega)]
 | f+1,0,x,hx,h1,h2=>by rw [CC,CC,if_pos (by omega)]
 | f+1,f'+1,x,hx,h1,h2=>by
  rw [CC,CC]
  by_cases a:x<0
  ·rw [if_pos a,if_pos a]
  ·rw [if_neg a,if_neg a]
   by_cases b:x=u
   ·rw [if_pos b,if_pos b]
   ·rw [if_neg b,if_neg b];obtain ⟨v,hv,hv2⟩:=PL h (j:=x.toNat) (by omega);rw [hv];exact GE h u f f' v (by omega) (by omega) (by omega)
theorem IG (l:List Ty) (i:Nat) (u:Int) (hi:i<l.length) (_:l.length<=4000000000) (hu:AN l i=some u) (hs:Ci l i=true) : ∀ (j:Nat) (x:Int),(x+1).toNat=j->x<(i:Int)->∀ ex d,(Br.br (CC l u (x+1).toNat x) (.leaf (.ret,([.b true],[]))) (.leaf (.exit 0,([],[]))):Br (Ex×Dt)).run=some (ex,d)->
  Runs prog (Aa []) (Aa [(2,BU)]) 0 (body f152 0) BU ([.sl TCd l,.j (i:Int),.j x],[]) ex d:=by
 intro j
 induction j using strongRecOn with
 | ind j ih=>
  intro x hj hx ex d h;have hr:=HS l i x;have h0:l[i].2.2.2.2.1=u:=by unfold AN at hu; rw [gtE hi] at hu; exact Option.some.inj hu
  by_cases a:x<0
  ·rw [Ad (dcF (by omega))] at hr;have e0:(x+1).toNat=0:=by omega
   rw [e0,CC] at h;obtain ⟨rfl,rfl⟩:=lfP h;exact stp hr
  ·rw [Ag (dcT (by omega)),T2 (by omega)] at hr;simp only [ntN,gtE hi,Am,h0] at hr;obtain ⟨x,rfl⟩:=eq_ofNat_of_zero_le (by omega:0<=x);have e0:((x:Int)+1).toNat=x+1:=by omega
   rw [e0,CC,if_neg (by omega)] at h
   by_cases b:(x:Int)=u
   ·rw [if_pos b] at h;rw [Ag (by rw [b]; exact beq_self_eq_true _)] at hr;obtain ⟨rfl,rfl⟩:=lfP h;exact stp hr
   ·rw [if_neg b] at h;have hxl:x<l.length:=by omega
    rw [Ad (beq_false_of_ne b),T2 (by omega)] at hr;simp only [ntN,gtE hxl,Am] at hr;obtain ⟨v,hv,hv2⟩:=PL hs (j:=x) (by omega);have hv3:l[x].2.2.2.2.1=v:=by unfold AN at hv; rw [gtE hxl] at hv; exact Option.some.inj hv
    rw [ntN,hv] at h;dsimp only at h;rw [GE hs u x (v+1).toNat v (by omega) (by omega) (Nat.le_refl _)] at h;rw [hv3] at hr;exact sts hr (ih (v+1).toNat (by omega) v rfl (by omega) ex d h)
theorem LC:Ar prog (Aa []) (Aa [(2,BU)]) 0 (f152.body.getD .skip):=by
 refine Ap (a:=body f152 0) (by kernel_rfl) fun d ex d' h=>?_
 unfold BU at h;dsimp only at h;split at h
 ·rename_i l i x;obtain ⟨hc,hx⟩:=Ac h;clear h;rw [anE] at hc;obtain ⟨hc,hs⟩:=hc;obtain ⟨h0,h1,h2,h3⟩:=of_decide_eq_true hc;obtain ⟨i,rfl⟩:=eq_ofNat_of_zero_le h0;simp only [ntN] at h1 hs hx
  cases hu:AN l i with
  | some u=>rw [hu] at hx; exact IG l i u h1 h2 hu hs _ x rfl h3 ex d' hx
  | none=>rw [hu] at hx; cases hx
 ·cases h
theorem Ko (l:List Ty) (i:Int) (hc:0<=i/\i.toNat<l.length/\l.length<=4000000000) (hs:Ci l i.toNat=true):A3 prog (Aa []) (Aa [(2,BU)]) f152 [.sl TCd l,.j i] []=some (.b (CV l i.toNat),[]):=by
 have e:A3 prog (Aa []) (Aa [(2,BU)]) f152 [.sl TCd l,.j i] []=((ifT (decide (0<=i/\i.toNat<l.length/\l.length<=4000000000/\i64.wrap (i-1)<i)&&Ci l i.toNat) (Al (AN l i.toNat) fun z=>ifB (CC l z
 (i64.wrap (i-1)+(1:Int)).toNat (i64.wrap (i-1))) (some (V.b true,[])) nF)):_):=by kernel_rfl
 obtain ⟨h0,h1,h2⟩:=hc;obtain ⟨i,rfl⟩:=eq_ofNat_of_zero_le h0;simp only [ntN] at h1 hs;have hw:i64.wrap ((i:Int)-1)=(i:Int)-1:=An (by omega) (by omega);obtain ⟨u,hu⟩ : ∃ u,AN l i=some u:=⟨_,by unfold AN; rw [gtE h1]; rfl⟩
 rw [e];clear e;rw [hw];simp only [ntN];rw [Ae (by rw [anE]; exact ⟨dcT ⟨by omega,h1,h2,by omega⟩,hs⟩)];unfold CV;rw [hu,Am];have e2:CC l u (i+1) ((i:Int)-1)=CC l u ((i:Int)-1+1).toNat ((i:Int)-1):=GE hs u _ _ _ (by omega) (by omega) (Nat.le_refl _);dsimp only;rw [e2];cases CC l u ((i:Int)-1+1).toNat ((i:Int)-1)<;>rfl
theorem Rc:Ab prog 152 (Ent.rd1 G3).F:=by
 refine fcK KnowsL.nil.knows (Λ:=(Aa [(2,BU)])) func152 fun vs bs r hq=>?_
 unfold Ent.F G3 at hq;dsimp only at hq;split at hq
 ·rename_i l i;obtain ⟨hc,hx⟩:=Ac hq;rw [anE] at hc;exact ⟨LC,(Ko l i (of_decide_eq_true hc.1) hc.2).trans hx⟩
 ·cases hq
def OE (u no:Int) (nm:By) (l:List Ty):Bool:=l.all fun o=>!(o.2.2.2.2.1==u&&(decide (o.2.2.1>=no)||o.2.1==nm))
def Db (l:List Ty) (i:Nat):Bool:=match AN l i with
 | none=>false
 | some u=>decide (0<=u/\u<(i:Int))&&A7 (Av l u.toNat).1&&CV l i&&(if (Av l u.toNat).1=4 then (Av l i).2.1==[]&&(Av l i).2.2.1==0&&!(Av l i).2.2.2.1
  else E7 (Av l i).2.1&&(decide (1<=(Av l i).2.2.1)&&decide ((Av l i).2.2.1<=30))&&OE u (Av l i).2.2.1 (Av l i).2.1 ((l.take i).drop (u.toNat+1)))
def kmB (x:Lab):Bool:=decide (1<=x.1/\x.1<=5)&&(if x.1=3 then decide (0<=x.2.2.2.2.1/\x.2.2.2.2.1<=20) else x.2.2.2.2.1==0)
def okT (l:List Ty) (i:Nat):Bool:=kmB (Av l i)&&(if i=0 then (Av l 0).1==5&&decide (AN l 0=some (-1))&&(Av l 0).2.1==[]&&(Av l 0).2.2.1==0&&!(Av l 0).2.2.2.1 else Db l i)
def Dw (l:List Ty) (i:Nat):Bool:=!((Av l i).1==4&&(Bc l i).length != 1)
def Ic (l:List Ty):Bool:=decide (1<=l.length/\l.length<=30)&&(range l.length).all (okT l)&&(range l.length).all (Dw l)&&decide (Bu (t2L l 0)<=5)
inductive Out (l:List Ty):Nat->Nat->Prop
 | refl (x:Nat):Out l x x
 | step (x v y:Nat) (h:AN l x=some (v:Int)) (h2:Out l v y):Out l x y
structure Ord (l:List Ty):Prop where
 zero:AN l 0=some (-1)
 up : ∀ i,0<i->i<l.length->∃ u:Nat,AN l i=some (u:Int)/\u<i/\A7 (Av l u).1=true/\Out l (i-1) u
def KK (l:List Ty) (a s t:Nat):List Nat:=(List.range' s (t-s)).filter fun j=>decide (AN l j=some (a:Int))
theorem Out.trans {l:List Ty} {x y z:Nat} (h:Out l x y) (h2:Out l y z):Out l x z:=by
 induction h with
 | refl=>exact h2
 | step x v y h _ ih=>exact .step x v z h (ih h2)
theorem Mt (l:List Ty) (u:Int) : ∀ (f:Nat) (x:Nat),CC l u f (x:Int)=true->∃ y:Nat,u=(y:Int)/\Out l x y
 | 0,x,h=>by rw [CC] at h; cases h
 | f+1,x,h=>by
  rw [CC,if_neg (by omega)] at h;split at h
  ·rename_i e; exact ⟨x,e.symm,.refl x⟩
  ·rw [ntN] at h
   cases hu:AN l x with
   | none=>rw [hu] at h; cases h
   | some v=>
    rw [hu] at h;dsimp only at h
    by_cases hv:v<0
    ·cases f with
     | zero=>rw [CC] at h; cases h
     | succ f=>rw [CC,if_pos hv] at h; cases h
    ·obtain ⟨v,rfl⟩:=eq_ofNat_of_zero_le (by omega:0<=v);obtain ⟨y,h1,h2⟩:=Mt l u f v h;exact ⟨y,h1,.step x v y hu h2⟩
theorem Q6 {l:List Ty} {i x y:Nat} (hs : ∀ j,j<i->∀ v:Nat,AN l j=some (v:Int)->v<j) (h:Out l x y):x<i->y<=x:=by
 induction h with
 | refl=>intro _; exact Nat.le_refl _
 | step x v y h _ ih=>intro hx; have:=hs x hx v h; have:=ih (by omega); omega
theorem Q7 {l:List Ty} {i x y:Nat} (hs : ∀ j,j<i->∀ v:Nat,AN l j=some (v:Int)->v<j) (h:Out l x y):x<i->∀ f,x+1<=f->CC l (y:Int) f (x:Int)=true:=by
 induction h with
 | refl x=>
  intro hx f hf;obtain ⟨f,rfl⟩ : ∃ g,f=g+1:=⟨f-1,by omega⟩
  rw [CC,if_neg (by omega),if_pos rfl]
 | step x v y h _ ih=>
  intro hx f hf;obtain ⟨f,rfl⟩ : ∃ g,f=g+1:=⟨f-1,by omega⟩
  rw [CC,if_neg (by omega)];split
  ·rfl
  ·rw [ntN,h];have:=hs x hx v h;exact ih (by omega) f (by omega)
theorem Ord.lt {l:List Ty} (H:Ord l) : ∀ j,j<l.length->∀ v:Nat,AN l j=some (v:Int)->v<j:=fun j hj v hv=>by
 rcases Nat.eq_zero_or_pos j with rfl | hp
 ·rw [H.zero] at hv; injection hv with hv; omega
 ·obtain ⟨u,h1,h2,_⟩:=H.up j hp hj;rw [h1] at hv; injection hv with hv; omega
theorem U7 {l:List Ty} {c e x y:Nat} (hs : ∀ j,j<e->∀ v:Nat,AN l j=some (v:Int)->v<j) (hb : ∀ j,c<j->j<e->∃ u:Nat,AN l j=some (u:Int)/\c<=u) (h:Out l x y):c<=x->x<e->c<=y\/∃ v:Nat,AN l c=some (v:Int)/\Out l v y:=by
 induction h with
 | refl x=>intro h1 _; exact .inl h1
 | step x v y h h2 ih=>
  intro h1 h3
  by_cases e1:x=c
  ·subst e1; exact .inr ⟨v,h,h2⟩
  ·obtain ⟨u,g1,g2⟩:=hb x (by omega) h3;rw [h] at g1; injection g1 with g1
   have:=hs x h3 v h;exact ih (by omega) (by omega)
theorem U8 {l:List Ty} {a e i x y:Nat} (hs : ∀ j,j<i->∀ v:Nat,AN l j=some (v:Int)->v<j) (ha:a<=i) (hn : ∀ j,e<=j->j<i->∀ u:Nat,AN l j=some (u:Int)->u<a\/e<=u) (h:Out l x y):e<=x->x<i->y<a\/e<=y:=by
 induction h with
 | refl x=>intro h1 _; exact .inr h1
 | step x v y h h2 ih=>
  intro h1 h3;have:=hs x h3 v h;rcases hn x h1 h3 v h with h4 | h4
  ·have:=Q6 hs h2 (by omega);exact .inl (by omega)
  ·exact ih h4 (by omega)
theorem KA {l:List Ty} {a s t u:Nat} (h1:s<=t) (h2:t<=u):KK l a s t++KK l a t u=KK l a s u:=by
 unfold KK;rw [<-List.filter_append];congr 1;have e:t=s+(t-s):=by omega
 conv=>lhs; rhs; rw [e]
 rw [show s+(t-s)=s+1*(t-s) by omega,List.range'_append];congr 1; omega
theorem FG {l:List Ty} {a s t:Nat} (h : ∀ j,s<=j->j<t->AN l j≠some (a:Int)):KK l a s t=[]:=by
 unfold KK;rw [List.filter_eq_nil_iff];intro j hj;have:=List.mem_range'_1.1 hj
 simpa using h j (by omega) (by omega)
theorem Sk {l:List Ty} {a e t:Nat} (h0:e<t) (h:AN l e=some (a:Int)) (h2 : ∀ j,e<j->j<t->AN l j≠some (a:Int)):KK l a e t=[e]:=by
 have e1:KK l a e (e+1)=[e]:=by
  unfold KK;rw [show e+1-e=1 by omega,List.range'_one];simp [h]
 rw [<-KA (Nat.le_succ e) h0,e1,FG (fun j hj hj2=>h2 j (by omega) hj2)];rfl
theorem Oh (l:List Ty) (a:Nat) : ∀ (n i:Nat),l.length-i=n->Ck (a:Int) i (l.drop i)=(KK l a i l.length).map ofNat
 | 0,i,h=>by
  rw [drop_eq_nil_of_le (by omega),Ck,FG (fun j h1 h2=>by omega)]; rfl
 | n+1,i,h=>by
  have hl:i<l.length:=by omega
  rw [drop_eq_getElem_cons hl,Ck,Oh l a n (i+1) (by omega),<-KA (Nat.le_succ i) hl (l:=l) (a:=a)];have hu:AN l i=some (l[i].2.2.2.2.1):=by unfold AN; rw [gtE hl]; rfl
  by_cases hk:l[i].2.2.2.2.1=(a:Int)
  ·rw [if_pos hk,Sk (lt_succ_self i) (by rw [hu,hk]) (fun j h1 h2=>by omega)]; rfl
  ·rw [if_neg hk,FG (s:=i) (fun j h1 h2=>by
    have:j=i:=by omega
    subst this; rw [hu]; exact fun h=>hk (Option.some.inj h))]; rfl
theorem Ju (l:List Ty) (a:Nat):Bc l a=(KK l a (a+1) l.length).map ofNat:=Oh l a _ (a+1) rfl
theorem NA {l:List Ty} {a:Nat} (h:a<l.length):t2L l a = .node (Av l a) ((KK l a (a+1) l.length).map (t2L l)):=by
 rw [TX h,Ju,List.map_map];rfl
structure Blk2 (l:List Ty) (a:Nat):Prop where
 inn : ∀ j,a<j->j<(kf l a).2->∃ u:Nat,AN l j=some (u:Int)/\a<=u
 out:(kf l a).2<l.length->∀ u:Nat,AN l (kf l a).2=some (u:Int)->u<a
 tree:(kf l a).1=t2L l a
theorem L3 {l:List Ty} (H:Ord l) {a:Nat} (ha:a<l.length) (IH : ∀ b,a<b->b<l.length->Blk2 l b) : ∀ (n e:Nat) (ks:RL),l.length-e<=n->a<e->e<=l.length->
  (∀ j,a<j->j<e->∃ u:Nat,AN l j=some (u:Int)/\a<=u)->(e<l.length->∀ u:Nat,AN l e=some (u:Int)->u<=a)->ks=(KK l a (a+1) e).map (t2L l)->
  (∀ j,a<j->j<(AO (kf l) l a n e ks).2->∃ u:Nat,AN l j=some (u:Int)/\a<=u)/\((AO (kf l) l a n e ks).2<l.length->∀ u:Nat,AN l (AO (kf l) l a n e ks).2=some (u:Int)->u<a)/\(AO (kf l) l a n e ks).1=(KK l a (a+1) (AO (kf l) l a n e ks).2).map (t2L l)/\a<(AO (kf l) l a n e ks).2
 | 0,e,ks,h1,h2,h3,h4,h5,h6=>⟨h4,fun h=>by simp only [AO] at h; omega,h6,h2⟩
 | n+1,e,ks,h1,h2,h3,h4,h5,h6=>by
  unfold AO;split
  ·rename_i hu;have hl:=Fc hu;obtain ⟨b1,b2⟩:=DX l e hl;have B:=IH e h2 hl
   have inn' : ∀ j,a<j->j<(kf l e).2->∃ u:Nat,AN l j=some (u:Int)/\a<=u:=fun j g1 g2=>by
    rcases Nat.lt_trichotomy j e with g3 | g3 | g3
    ·exact h4 j g1 g3
    ·subst g3; exact ⟨a,hu,Nat.le_refl _⟩
    ·obtain ⟨u,k1,k2⟩:=B.inn j g3 g2; exact ⟨u,k1,by omega⟩
   refine L3 H ha IH n (kf l e).2 _ (by omega) (by omega) b2 inn' (fun g1 u g2=>?_) ?_
   ·have g3:=B.out g1 u g2;obtain ⟨u',k1,k2,k3,k4⟩:=H.up (kf l e).2 (by omega) g1;rw [g2] at k1; injection k1 with k1
    have:u=u':=by omega
    subst this;rcases U7 (fun j hj=>H.lt j (by omega)) B.inn k4 (by omega) (by omega) with k5 | ⟨v,k5,k6⟩
    ·omega
    ·rw [hu] at k5; injection k5 with k5
     have:a=v:=by omega
     subst this;exact Q6 H.lt k6 ha
   ·rw [h6,B.tree,<-KA (l:=l) (a:=a) (show a+1<=e by omega) (Nat.le_of_lt b1),List.map_append,Sk b1 hu (fun j g1 g2 g3=>by
     obtain ⟨u,k1,k2⟩:=B.inn j g1 g2
     rw [g3] at k1; injection k1 with k1; omega)]
    rfl
  ·rename_i hu;refine ⟨h4,fun g1 u g2=>?_,h6,h2⟩;have:=h5 g1 u g2;have:u≠a:=fun e=>by subst e; exact hu g2
   omega
theorem O0 {l:List Ty} (H:Ord l) : ∀ (n a:Nat),l.length-a<=n->a<l.length->Blk2 l a
 | 0,a,h1,h2=>by omega
 | n+1,a,h1,h2=>by
  have IH : ∀ b,a<b->b<l.length->Blk2 l b:=fun b g1 g2=>O0 H n b (by omega) g2
  have hq:a+1<l.length->∀ u:Nat,AN l (a+1)=some (u:Int)->u<=a:=fun g1 u g2=>by
   have:=H.lt (a+1) g1 u g2; omega
  have hk:=Rj h2
  cases hh:A7 (Av l a).1 with
  | true=>
   rw [hh,cond_true] at hk;obtain ⟨r1,r2,r3,r4⟩:=L3 H h2 IH l.length (a+1) [] (by omega) (by omega) (by omega) (fun j g1 g2=>by omega) hq (by rw [FG (fun j g1 g2=>by omega)]; rfl);have hb:=G4 (a:=a) (DX l) l.length (a+1) [] h2;generalize AO (kf l) l a l.length (a+1) []=r at *
   have hN : ∀ j,r.2<=j->j<l.length->∀ u:Nat,AN l j=some (u:Int)->u<a\/r.2<=u:=by
    intro j
    induction j using strongRecOn with
    | ind j ih=>
     intro g1 g2 u g3
     by_cases e:j=r.2
     ·subst e; exact .inl (r2 g2 u g3)
     ·obtain ⟨u',k1,k2,k3,k4⟩:=H.up j (by omega) g2;rw [g3] at k1; injection k1 with k1
      have:u=u':=by omega
      subst this;exact U8 (i:=j) (fun x hx=>H.lt x (by omega)) (by omega) (fun x q1 q2=>ih x q2 q1 (by omega)) k4 (by omega) (by omega)
   refine ⟨by rw [hk]; exact r1,by rw [hk]; exact r2,?_⟩
   rw [hk,NA h2,r3,<-KA (l:=l) (a:=a) (show a+1<=r.2 by omega) hb.2,FG (s:=r.2) (fun j g1 g2 g3=>by
    rcases hN j g1 g2 a g3 with k | k<;>omega),append_nil]
  | false=>
   rw [hh,cond_false] at hk
   have none : ∀ j,a<j->j<l.length->AN l j≠some (a:Int):=fun j g1 g2 g3=>by
    obtain ⟨u,k1,k2,k3,k4⟩:=H.up j (by omega) g2;rw [g3] at k1; injection k1 with k1
    have:a=u:=by omega
    subst this;rw [hh] at k3; cases k3
   refine ⟨?_,?_,?_⟩
   ·rw [hk]; intro j g1 g2;have g2:j<a+1:=g2;omega
   ·rw [hk]; intro g1 u g2;have g1:a+1<l.length:=g1;have:=hq g1 u g2;have:u≠a:=fun e=>by subst e; exact none _ (by omega) g1 g2
    omega
   rw [hk,NA h2,FG (fun j g1 g2=>none j (by omega) g2)];rfl
theorem Ord.end' {l:List Ty} (H:Ord l) (h:0<l.length):(kf l 0).2=l.length/\(kf l 0).1=t2L l 0:=by
 have B:=O0 H l.length 0 (by omega) h;have hb:=DX l 0 h;refine ⟨?_,B.tree⟩
 by_cases e:(kf l 0).2<l.length
 ·obtain ⟨u,k1,_⟩:=H.up _ hb.1 e;have:=B.out e u k1; omega
 ·omega
def Fp (y z:Lab):Prop:=y.2.2.1<z.2.2.1/\y.2.1≠z.2.1
structure Prs (l:List Ty) (a:Nat):Prop where
 inn : ∀ j,a<j->j<(kf l a).2->∃ u:Nat,AN l j=some (u:Int)/\a<=u/\u<j/\A7 (Av l u).1=true/\Out l (j-1) u
 out : ∀ j,a<=j->j<(kf l a).2->Out l j a
theorem L1 {l:List Ty} {a:Nat} (ha:a<l.length) (hh:A7 (Av l a).1=true) (IH : ∀ b,a<b->b<l.length->Prs l b) : ∀ (n e:Nat) (ks:RL),a<e->e<=l.length->
  (∀ j,a<j->j<e->∃ u:Nat,AN l j=some (u:Int)/\a<=u/\u<j/\A7 (Av l u).1=true/\Out l (j-1) u)->(∀ j,a<=j->j<e->Out l j a)->
  (∀ j,a<j->j<(AO (kf l) l a n e ks).2->∃ u:Nat,AN l j=some (u:Int)/\a<=u/\u<j/\A7 (Av l u).1=true/\Out l (j-1) u)/\(∀ j,a<=j->j<(AO (kf l) l a n e ks).2->Out l j a)
 | 0,e,ks,h1,h2,h3,h4=>⟨h3,h4⟩
 | n+1,e,ks,h1,h2,h3,h4=>by
  unfold AO;split
  ·rename_i hu;have hl:=Fc hu;obtain ⟨b1,b2⟩:=DX l e hl;have B:=IH e h1 hl;refine L1 ha hh IH n (kf l e).2 _ (by omega) b2 (fun j g1 g2=>?_) (fun j g1 g2=>?_)
   ·rcases Nat.lt_trichotomy j e with g3 | g3 | g3
    ·exact h3 j g1 g3
    ·subst g3; exact ⟨a,hu,Nat.le_refl _,h1,hh,h4 (j-1) (by omega) (by omega)⟩
    ·obtain ⟨u,k1,k2,k3⟩:=B.inn j g3 g2; exact ⟨u,k1,by omega,k3⟩
   ·by_cases g3:j<e
    ·exact h4 j g1 g3
    ·exact (B.out j (by omega) g2).trans (.step e a a hu (.refl a))
  ·exact ⟨h3,h4⟩
theorem NP {l:List Ty} : ∀ (n a:Nat),l.length-a<=n->a<l.length->Prs l a
 | 0,a,h1,h2=>by omega
 | n+1,a,h1,h2=>by
  have IH : ∀ b,a<b->b<l.length->Prs l b:=fun b g1 g2=>NP n b (by omega) g2
  have hk:=Rj h2
  have base : ∀ j,a<=j->j<a+1->Out l j a:=fun j g1 g2=>by
   have:j=a:=by omega
   subst this; exact .refl j
  cases hh:A7 (Av l a).1 with
  | true=>
   rw [hh,cond_true] at hk;obtain ⟨r1,r2⟩:=L1 h2 hh IH l.length (a+1) [] (by omega) (by omega) (fun j g1 g2=>by omega) base;exact ⟨by rw [hk]; exact r1,by rw [hk]; exact r2⟩
  | false=>
   rw [hh,cond_false] at hk;refine ⟨?_,by rw [hk]; exact base⟩;rw [hk]; intro j g1 g2;have g2:j<a+1:=g2;omega
theorem Kd {l:List Ty} (h:0<l.length) (h0:AN l 0=some (-1)) (he:(kf l 0).2=l.length):Ord l:=by
 have B:=NP l.length 0 (by omega) h;refine ⟨h0,fun i g1 g2=>?_⟩;obtain ⟨u,k1,k2,k3,k4,k5⟩:=B.inn i g1 (by omega);exact ⟨u,k1,k3,k4,k5⟩
theorem Ln {l:List Ty} (h:0<l.length) (ho:(range l.length).all (okT l)=true):Ord l:=by
 have at' : ∀ i,i<l.length->okT l i=true:=fun i hi=>all_eq_true.1 ho i (mem_range.2 hi)
 refine ⟨?_,fun i g1 g2=>?_⟩
 ·have:=at' 0 h;unfold okT at this;rw [if_pos rfl] at this;simp only [anE,dcE] at this;exact this.2.1.1.1.2
 ·have:=at' i g2;unfold okT Db at this;rw [if_neg (by omega),anE] at this;have this:=this.2
  cases hu:AN l i with
  | none=>rw [hu] at this; cases this
  | some u=>
   rw [hu] at this;simp only [anE,dcE] at this;obtain ⟨⟨⟨⟨c1,c2⟩,c3⟩,c4⟩,_⟩:=this;obtain ⟨u,rfl⟩:=eq_ofNat_of_zero_le c1;unfold CV at c4;rw [hu] at c4;dsimp only at c4;have e:(i:Int)-1=((i-1:Nat):Int):=by omega
   rw [e] at c4;obtain ⟨y,k1,k2⟩:=Mt l u (i+1) (i-1) c4;have:u=y:=by omega
   subst this;exact ⟨u,rfl,by omega,c3,k2⟩
theorem Ord.around {l:List Ty} (H:Ord l) {i:Nat} (h1:0<i) (h2:i<l.length):CV l i=true:=by
 obtain ⟨u,k1,k2,k3,k4⟩:=H.up i h1 h2;unfold CV;rw [k1];dsimp only;have e:(i:Int)-1=((i-1:Nat):Int):=by omega
 rw [e];exact Q7 (i:=l.length) H.lt k4 (by omega) (i+1) (by omega)
/-! Maps. -/
theorem Lu (x y:By) (v:Bool) : ∀ l:List (By×Bool),D9 .str (Eu .str l x v) y=if y=x then some v else D9 .str l y
 | []=>by
  show (match CI .str y x with | true=>some v | false=>D9 .str [] y)=_
  by_cases h:y=x
  ·subst h;have:CI .str y y=true:=beq_self_eq_true y;rw [this,if_pos rfl]
  ·have:CI .str y x=false:=beq_false_of_ne h;rw [this,if_neg h]
 | e::l=>by
  unfold Eu
  by_cases h:x=e.1
  ·subst h;simp only [CI,beq_self_eq_true];unfold D9
   by_cases h2:y=e.1
   ·subst h2; simp [CI]
   ·simp only [CI,beq_false_of_ne h2,if_neg h2]
  ·have:CI .str x e.1=false:=beq_false_of_ne h;rw [this];dsimp only;unfold D9
   by_cases h2:y=e.1
   ·subst h2; simp [CI,Ne.symm h]
   ·have h3:CI .str y e.1=false:=beq_false_of_ne h2;rw [h3];exact Lu x y v l
theorem Oa : ∀ (l pre:RL) (seen:List (By×Bool)),(∀ nm,(D9 .str seen nm).getD false=true↔∃ z∈pre,z.lab.2.1=nm)->pre.Pairwise (fun y z=>Fp y.lab z.lab)->
  (FW (pre++l) pre.length seen l=true↔(pre++l).Pairwise (fun y z=>Fp y.lab z.lab))
 | [],pre,seen,_,hp=>by rw [FW,append_nil]; exact ⟨fun _=>hp,fun _=>rfl⟩
 | z::l,pre,seen,hs,hp=>by
  have hpg:DS (pre++z::l) pre.length z.lab.2.2.1=true↔∃ y,pre.getLast? = some y/\y.lab.2.2.1>=z.lab.2.2.1:=by
   cases hl:pre.getLast? with
   | none=>
    have:pre=[]:=by simpa using hl
    subst this;simp [DS]
   | some y=>
    have hne:pre≠[]:=by intro e; subst e; cases hl
    obtain ⟨m,hm⟩ : ∃ m,pre.length=m+1:=⟨pre.length-1,by have:=List.length_pos_iff.2 hne; omega⟩
    have hy:(pre++z::l)[m]? = some y:=by
     rw [List.getElem?_append_left (by omega),<-hl,List.getLast?_eq_getElem?,hm]; rfl
    rw [hm];unfold DS;dsimp only;rw [hy];simp
  have hR:(∀ y∈pre,Fp y.lab z.lab)↔¬((D9 .str seen z.lab.2.1).getD false||DS (pre++z::l) pre.length z.lab.2.2.1)=true:=by
   rw [Bool.or_eq_true,hs,hpg];constructor
   ·rintro h (⟨y,g1,g2⟩ | ⟨y,g1,g2⟩)
    ·exact (h y g1).2 g2
    ·have:=(h y (List.mem_of_getLast? g1)).1; omega
   ·intro h y hy;refine ⟨?_,fun e=>h (.inl ⟨y,hy,e⟩)⟩
    cases hl:pre.getLast? with
    | none=>
     have:pre=[]:=by simpa using hl
     subst this; cases hy
    | some w=>
     have h1 : ¬w.lab.2.2.1>=z.lab.2.2.1:=fun g=>h (.inr ⟨w,hl,g⟩)
     have hne:pre≠[]:=by intro e; subst e; cases hl
     have e:pre=pre.dropLast++[w]:=by
      rw [List.getLast?_eq_some_getLast hne] at hl;have:=(List.dropLast_concat_getLast hne).symm;rw [Option.some.inj hl] at this;exact this
     rw [e] at hy hp;rcases List.mem_append.1 hy with hy | hy
     ·have:=(List.pairwise_append.1 hp).2.2 y hy w (by simp);have:=this.1; omega
     ·simp at hy; subst hy; omega
  rw [FW]
  by_cases hc:((D9 .str seen z.lab.2.1).getD false||DS (pre++z::l) pre.length z.lab.2.2.1)=true
  ·rw [if_pos hc];refine ⟨fun h=>(by cases h),fun h=>?_⟩;exact absurd hc (hR.1 fun y hy=>(List.pairwise_append.1 h).2.2 y hy z (by simp))
  ·rw [if_neg hc];have hall:=hR.2 hc;have hp2:(pre++[z]).Pairwise (fun y z=>Fp y.lab z.lab):=List.pairwise_append.2 ⟨hp,List.pairwise_singleton _ _,fun y hy w hw=>by simp at hw; subst hw; exact hall y hy⟩
   have ih:=Oa l (pre++[z]) (Eu .str seen z.lab.2.1 true) (fun nm=>by
    rw [Lu]
    by_cases e:nm=z.lab.2.1
    ·rw [if_pos e]; simp [e]
    ·rw [if_neg e,hs];constructor
     ·rintro ⟨w,g1,g2⟩; exact ⟨w,by simp [g1],g2⟩
     ·rintro ⟨w,g1,g2⟩
      rcases List.mem_append.1 g1 with g1 | g1
      ·exact ⟨w,g1,g2⟩
      ·simp at g1; subst g1; exact absurd g2.symm e) hp2
   rw [append_assoc] at ih
   simpa using ih
theorem QS (zs:RL):FW zs 0 [] zs=true↔zs.Pairwise (fun y z=>Fp y.lab z.lab):=by
 have:=Oa zs [] [] (fun nm=>by simp [D9]) List.Pairwise.nil
 simpa using this
theorem Eo {R:Nat->Nat->Prop} : ∀ {l:List Nat},l.Pairwise (· < ·)->(l.Pairwise R↔∀ a∈l,∀ b∈l,a<b->R a b)
 | [],_=>by simp
 | x::l,h=>by
  rw [List.pairwise_cons] at h;rw [List.pairwise_cons,Eo h.2];constructor
  ·rintro ⟨h1,h2⟩ a ha b hb hab
   rcases mem_cons.1 ha with ea | ha'
   ·rcases mem_cons.1 hb with eb | hb'
    ·omega
    ·rw [ea]; exact h1 b hb'
   ·rcases mem_cons.1 hb with eb | hb'
    ·have:=h.1 a ha'; omega
    ·exact h2 a ha' b hb' hab
  ·intro g;exact ⟨fun b hb=>g x (by simp) b (by simp [hb]) (h.1 b hb),fun a ha b hb hab=>g a (by simp [ha]) b (by simp [hb]) hab⟩
theorem CG {l:List Ty} {a s t j:Nat}:j∈KK l a s t↔(s<=j/\j<t)/\AN l j=some (a:Int):=by
 unfold KK;rw [List.mem_filter,List.mem_range'_1,dcE];constructor
 ·rintro ⟨h1,h2⟩; exact ⟨by omega,h2⟩
 ·rintro ⟨h1,h2⟩; exact ⟨by omega,h2⟩
theorem PH (l:List Ty) (a s t:Nat):(KK l a s t).Pairwise (· < ·):=(List.pairwise_lt_range').filter _
def CD (l:List Ty):Prop:=∀ j,j<l.length->Da (Av l j) ((KK l j (j+1) l.length).map (t2L l))=true/\∀ c∈KK l j (j+1) l.length,Dm (Av l j).1 (Av l c)=true
theorem Ft {l:List Ty} {a:Nat} (h:a<l.length):(t2L l a).lab=Av l a:=by rw [NA h]; rfl
theorem HC (k:Int) : ∀ ks:RL,Fv k ks=true↔∀ z∈ks,Dm k z.lab=true/\Bv z=true
 | []=>by simp [Fv]
 | z::ks=>by
  rw [Fv,anE,anE,HC k ks];constructor
  ·rintro ⟨h1,h2⟩ w hw
   rcases mem_cons.1 hw with e | hw'
   ·rw [e]; exact h1
   ·exact h2 w hw'
  ·intro h;exact ⟨h z (by simp),fun w hw=>h w (by simp [hw])⟩
theorem HA {l:List Ty} {a:Nat} (h:a<l.length):Bv (t2L l a)=true↔Da (Av l a) ((KK l a (a+1) l.length).map (t2L l))=true/\∀ c∈KK l a (a+1) l.length,Dm (Av l a).1 (Av l c)=true/\Bv (t2L l c)=true:=by
 rw [NA h,Bv,anE,HC];constructor
 ·rintro ⟨h1,h2⟩
  refine ⟨h1,fun c hc=>?_⟩;have hcl:=(CG.1 hc).1.2;have:=h2 (t2L l c) (mem_map.2 ⟨c,hc,rfl⟩);rw [Ft hcl] at this;exact this
 ·rintro ⟨h1,h2⟩
  refine ⟨h1,fun z hz=>?_⟩;obtain ⟨c,hc,rfl⟩:=mem_map.1 hz;have hcl:=(CG.1 hc).1.2;rw [Ft hcl];exact h2 c hc
theorem OK {l:List Ty} (H:Ord l) (h0:0<l.length):Bv (t2L l 0)=true↔CD l:=by
 constructor
 ·intro h
  have all : ∀ j,j<l.length->Bv (t2L l j)=true:=by
   intro j
   induction j using strongRecOn with
   | ind j ih=>
    intro hj;rcases Nat.eq_zero_or_pos j with rfl | hp
    ·exact h
    ·obtain ⟨u,k1,k2,_⟩:=H.up j hp hj;exact (((HA (by omega)).1 (ih u k2 (by omega))).2 j (CG.2 ⟨⟨by omega,hj⟩,k1⟩)).2
  intro j hj;have:=(HA hj).1 (all j hj);exact ⟨this.1,fun c hc=>(this.2 c hc).1⟩
 ·intro h
  have all : ∀ n j,l.length-j<=n->j<l.length->Bv (t2L l j)=true:=by
   intro n
   induction n with
   | zero=>intro j g1 g2; omega
   | succ n ih=>
    intro j g1 g2;refine (HA g2).2 ⟨(h j g2).1,fun c hc=>⟨(h j g2).2 c hc,?_⟩⟩;have:=(CG.1 hc).1;exact ih c (by omega) (by omega)
  exact all l.length 0 (by omega) h0
theorem F3 {l:List Ty} {i:Nat} (h:i<l.length):Av l i=(l[i].1,l[i].2.1,l[i].2.2.1,l[i].2.2.2.1,l[i].2.2.2.2.2.1,()):=by unfold Av; rw [gtE h]
theorem Qe {l:List Ty} {a c:Nat} (hc:c<=l.length) (no:Int) (nm:By):OE (a:Int) no nm ((l.take c).drop (a+1))=true↔∀ k,a<k->k<c->AN l k=some (a:Int)->(Av l k).2.2.1<no/\(Av l k).2.1≠nm:=by
 have up : ∀ k (h:k<l.length),AN l k=some (l[k].2.2.2.2.1):=fun k h=>by unfold AN; rw [gtE h]; rfl
 unfold OE;rw [all_eq_true];constructor
 ·intro h k g1 g2 g3;have hk:k<l.length:=by omega
  have hm:l[k]∈(l.take c).drop (a+1):=by
   refine List.mem_iff_getElem?.2 ⟨k-(a+1),?_⟩;rw [List.getElem?_drop,show a+1+(k-(a+1))=k by omega,List.getElem?_take,if_pos g2,gtE hk]
  have:=h _ hm;rw [up k hk] at g3;rw [Option.some.inj g3,beq_self_eq_true,Bool.true_and] at this;rw [F3 hk];simp only [Bool.not_eq_true',Bool.or_eq_false_iff,decide_eq_false_iff_not,beq_eq_false_iff_ne] at this;show l[k].2.2.1<no/\l[k].2.1≠nm;exact ⟨by have:=this.1; omega,this.2⟩
 ·intro h o ho;obtain ⟨j,hj⟩:=List.mem_iff_getElem?.1 ho;rw [List.getElem?_drop,List.getElem?_take] at hj;split at hj
  ·rename_i hlt;have hk:a+1+j<l.length:=by omega
   rw [gtE hk] at hj;have e:=Option.some.inj hj
   by_cases hu:o.2.2.2.2.1=(a:Int)
   ·have:=h (a+1+j) (by omega) hlt (by rw [up _ hk,e,hu]);rw [F3 hk,e] at this;have this:o.2.2.1<no/\o.2.1≠nm:=this;have h1:decide (o.2.2.1>=no)=false:=dcF (by have:=this.1; omega);have h2:(o.2.1==nm)=false:=beq_false_of_ne this.2;rw [h1,h2]; simp
   ·rw [beq_false_of_ne hu]; rfl
  ·cases hj
theorem LN {k:Int} (h:A7 k=true):k=4\/k=5:=by
 unfold A7 at h;rw [Bool.or_eq_true] at h;rcases h with h | h
 ·exact .inl (by simpa using h)
 ·exact .inr (by simpa using h)
theorem TV {l:List Ty} (H:Ord l) {j:Nat} (h:A7 (Av l j).1=false):KK l j (j+1) l.length=[]:=FG fun c g1 g2 g3=>by
 obtain ⟨u,k1,k2,k3,_⟩:=H.up c (by omega) g2;rw [g3] at k1; injection k1 with k1
 have:j=u:=by omega
 subst this;rw [h] at k3; cases k3
theorem Gw {l:List Ty} (H:Ord l) {j:Nat} (_:j<l.length):Da (Av l j) ((KK l j (j+1) l.length).map (t2L l))=true↔kmB (Av l j)=true/\Dw l j=true/\((Av l j).1=5->∀ c∈KK l j (j+1) l.length,∀ k∈KK l j (j+1) l.length,k<c->Fp (Av l k) (Av l c)):=by
 have hone:Dw l j = !((Av l j).1==4&&(KK l j (j+1) l.length).length != 1):=by unfold Dw; rw [Ju,List.length_map]
 have hmsg:FW ((KK l j (j+1) l.length).map (t2L l)) 0 [] ((KK l j (j+1) l.length).map (t2L l))=true↔∀ c∈KK l j (j+1) l.length,∀ k∈KK l j (j+1) l.length,k<c->Fp (Av l k) (Av l c):=by
  rw [QS,List.pairwise_map,Eo (PH l j (j+1) l.length)];constructor
  ·intro h c hc k hk hkc;have:=h k hk c hc hkc;rw [Ft (CG.1 hk).1.2,Ft (CG.1 hc).1.2] at this;exact this
  ·intro h k hk c hc hkc;rw [Ft (CG.1 hk).1.2,Ft (CG.1 hc).1.2];exact h c hc k hk hkc
 rw [hone];have hk0:(Av l j).1≠4->(Av l j).1≠5->KK l j (j+1) l.length=[]:=fun h4 h5=>TV H (by unfold A7; rw [beq_false_of_ne h4,beq_false_of_ne h5]; rfl)
 unfold Da kmB;rw [List.length_map];generalize Av l j=x at hk0 ⊢
 by_cases a1:x.1=1\/x.1=2
 ·have h4:x.1≠4:=by rcases a1 with h | h<;>omega
  have h5:x.1≠5:=by rcases a1 with h | h<;>omega
  have h3:x.1≠3:=by rcases a1 with h | h<;>omega
  rw [if_pos a1,hk0 h4 h5,if_neg h3,dcT (show 1<=x.1/\x.1<=5 by rcases a1 with h | h<;>omega),beq_false_of_ne h4];simp [h5]
 by_cases a3:x.1=3
 ·have h4:x.1≠4:=by omega
  have h5:x.1≠5:=by omega
  rw [if_neg a1,if_pos a3,hk0 h4 h5,if_pos a3,dcT (show 1<=x.1/\x.1<=5 by omega),beq_false_of_ne h4];simp [h5]
 by_cases a4:x.1=4
 ·have h5:x.1≠5:=by omega
  rw [if_neg a1,if_neg a3,if_pos a4,if_neg a3,dcT (show 1<=x.1/\x.1<=5 by omega),a4];simp
 by_cases a5:x.1=5
 ·rw [if_neg a1,if_neg a3,if_neg a4,if_neg a3,dcT (show 1<=x.1/\x.1<=5 by omega),beq_false_of_ne a4]
  by_cases a6:x.2.2.2.2.1=0
  ·rw [if_neg (by rintro (h | h); exact h a5; exact h a6),hmsg];simp [a5,a6]
  ·rw [if_pos (.inr a6)];simp [a6]
 ·have a0 : ¬(1<=x.1/\x.1<=5):=by omega
  rw [if_neg a1,if_neg a3,if_neg a4,if_pos (.inl a5),dcF a0];simp
theorem Lm {l:List Ty} (H:Ord l) {i u:Nat} (hi:0<i) (hl:i<l.length) (hu:AN l i=some (u:Int)) (hlt:u<i) (hh:A7 (Av l u).1=true) :
  Db l i=true↔Dm (Av l u).1 (Av l i)=true/\((Av l u).1=5->∀ k∈KK l u (u+1) l.length,k<i->Fp (Av l k) (Av l i)):=by
 have ha:=H.around hi hl;have hs:=Qe (l:=l) (a:=u) (c:=i) (by omega) (Av l i).2.2.1 (Av l i).2.1
 have hk:(∀ k∈KK l u (u+1) l.length,k<i->Fp (Av l k) (Av l i))↔∀ k,u<k->k<i->AN l k=some (u:Int)->(Av l k).2.2.1<(Av l i).2.2.1/\(Av l k).2.1≠(Av l i).2.1:=by
  constructor
  ·intro h k g1 g2 g3; exact h k (CG.2 ⟨⟨g1,by omega⟩,g3⟩) g2
  ·intro h k g1 g2;have:=CG.1 g1;exact h k this.1.1 g2 this.2
 rw [hk,<-hs];unfold Db Dm;rw [hu];dsimp only;rw [ntN,dcT (show 0<=(u:Int)/\(u:Int)<(i:Int) by omega),hh,ha];rcases LN hh with h4 | h5
 ·rw [if_pos h4,if_neg (by omega)];simp [h4]
 ·rw [if_neg (by omega),if_pos h5];simp [h5]
theorem Ht (l:List Ty):Ic l=Bd l/\(Bd l=true->(kf l 0).1=t2L l 0):=by
 have main : ∀ (H:Ord l),1<=l.length/\l.length<=30->(Ic l=true↔Bd l=true):=fun H hl=>by
  have h0:0<l.length:=by omega
  obtain ⟨e1,e2⟩:=H.end' h0;have hc:=Kr h0
  have hkm:CD l↔(∀ j,j<l.length->kmB (Av l j)=true/\Dw l j=true)/\∀ j,0<j->j<l.length->Db l j=true:=by
   constructor
   ·intro h;refine ⟨fun j hj=>?_,fun j hp hj=>?_⟩
    ·have:=(Gw H hj).1 (h j hj).1;exact ⟨this.1,this.2.1⟩
    ·obtain ⟨u,k1,k2,k3,_⟩:=H.up j hp hj;have hm:j∈KK l u (u+1) l.length:=CG.2 ⟨⟨k2,hj⟩,k1⟩;have hul:u<l.length:=by omega
     refine (Lm H hp hj k1 k2 k3).2 ⟨(h u hul).2 j hm,fun h5 k hk hkj=>?_⟩;exact ((Gw H hul).1 (h u hul).1).2.2 h5 j hm k hk hkj
   ·rintro ⟨h1,h2⟩ j hj
    have hcc : ∀ c∈KK l j (j+1) l.length,Dm (Av l j).1 (Av l c)=true/\((Av l j).1=5->∀ k∈KK l j (j+1) l.length,k<c->Fp (Av l k) (Av l c)):=fun c hc=>by
     obtain ⟨⟨g1,g2⟩,g3⟩:=CG.1 hc;obtain ⟨u,k1,k2,k3,_⟩:=H.up c (by omega) g2;rw [g3] at k1; injection k1 with k1
     have:j=u:=by omega
     subst this;exact (Lm H (by omega) g2 g3 k2 k3).1 (h2 c (by omega) g2)
    exact ⟨(Gw H hj).2 ⟨(h1 j hj).1,(h1 j hj).2,fun h5 c hc k hk hkc=>(hcc c hc).2 h5 k hk hkc⟩,fun c hc=>(hcc c hc).1⟩
  unfold Ic Bd Fi;rw [dcT hl,dcT H.zero,e1,e2,Ft h0];have hcnt:decide (A5 (t2L l 0)<=30)=true:=dcT (by rw [<-e2]; omega);rw [hcnt];simp only [Bool.true_and,Bool.and_true,anE,all_eq_true,mem_range,dcE,beq_self_eq_true,OK H h0,hkm];constructor
  ·rintro ⟨⟨h1,h2⟩,h3⟩
   have r:=h1 0 h0;unfold okT at r;rw [if_pos rfl] at r;simp only [anE,dcE] at r;obtain ⟨r0,⟨⟨⟨r1,r2⟩,r3⟩,r4⟩,r5⟩:=r;refine ⟨⟨⟨⟨⟨r1,r3⟩,r4⟩,r5⟩,⟨fun j hj=>⟨?_,h2 j hj⟩,fun j hp hj=>?_⟩⟩,h3⟩
   ·have:=h1 j hj;unfold okT at this;rw [anE] at this;exact this.1
   ·have:=h1 j hj;unfold okT at this;rw [if_neg (by omega),anE] at this;exact this.2
  ·rintro ⟨⟨⟨⟨⟨r1,r3⟩,r4⟩,r5⟩,⟨h1,h2⟩⟩,h3⟩
   refine ⟨⟨fun j hj=>?_,fun j hj=>(h1 j hj).2⟩,h3⟩;unfold okT;rw [(h1 j hj).1,Bool.true_and]
   by_cases hz:j=0
   ·rw [if_pos hz];simp only [anE,dcE];exact ⟨⟨⟨⟨r1,H.zero⟩,r3⟩,r4⟩,r5⟩
   ·rw [if_neg hz]; exact h2 j (by omega) hj
 have hS:Ic l=true->Ord l/\1<=l.length/\l.length<=30:=fun h=>by
  unfold Ic at h;simp only [anE,dcE] at h;exact ⟨Ln (by omega) h.1.1.2,h.1.1.1⟩
 have hK:Bd l=true->Ord l/\1<=l.length/\l.length<=30:=fun h=>by
  unfold Bd at h;simp only [anE,dcE,beq_iff_eq] at h;exact ⟨Kd (by omega) h.1.1.2 h.1.2,h.1.1.1⟩
 refine ⟨?_,fun h=>((hK h).1.end' (by have:=(hK h).2; omega)).2⟩
 cases h1:Ic l with
 | true=>obtain ⟨H,hl⟩:=hS h1; exact ((main H hl).1 h1).symm
 | false=>
  cases h2:Bd l with
  | false=>rfl
  | true=>obtain ⟨H,hl⟩:=hK h2; rw [(main H hl).2 h2] at h1; cases h1
def Kn:Gm
 | [.agg [.sl TCd l],.j i],[]=>.need (decide (0<=i/\i.toNat<l.length/\l.length<=4000000000)&&Ci l i.toNat&&nmL l) (.leaf (.b (Db l i.toNat),[]))
 | _,_=>.no
def DW:LoopEnt:=⟨103,[1,2,5,6],[],[4],fun
 | ([.j i,.ptr 0 0,.ptr 1 0,.j k],[some (.box [.sl TCd l]),some (.box (Ly _ y1 y2 _ y4 _))])=>.need (decide (0<=k/\k<=i/\i.toNat<l.length/\l.length<=4000000000)) (.br (OE y4 y2 y1 ((l.take i.toNat).drop k.toNat)) (.leaf (.exit 0,([],[]))) (.leaf (.ret,([.b false],[]))))
 | _=>.no⟩
abbrev TU:FuncId->Option Ent:=Aa [(151,.rd1 Gb),(152,.rd1 G3),(153,.rd1 HJ),(100,.rd1 AA)]
theorem FZ (l:List Ty) (y0:Int) (y1:By) (y2:Int) (y3:Bool) (y4 y5:Int) (i k:Int):As prog TU (Aa [(9,DW)]) 0 (body f108 0) DW ([.j i,.ptr 0 0,.ptr 1 0,.j k],[some (.box [.sl TCd l]),some (.box (Ly y0 y1 y2 y3 y4 y5))]) =
 ((ifB (decide (k<i)) (ifT (decide (0<=k)&&decide (k<(↑l.length:Int))) (Al l[k.toNat]? fun z=>ifB (z.2.2.2.2.1==y4) (ifB (decide (z.2.2.1>=
 y2)) rF (ifB (z.2.1==y1) rF (some (Ex.normal,[V.j i,V.ptr 0 0,V.ptr 1 0,V.i .i64
 (i64.wrap (k+1))],[some (Blk.box [V.sl TCd l]),some (Blk.box (Ly y0 y1 y2 y3 y4 y5))])))) (some (Ex.normal,[V.i
 .i64 i,V.ptr 0 0,V.ptr 1 0,V.j (i64.wrap (k+1))],[some (Blk.box [V.sl TCd l]),some (Blk.box (Ly y0 y1 y2 y3 y4 y5))])))) (some (Ex.exit 0,[],[]))):_):=by kernel_rfl
theorem LA (l:List Ty) (i:Int):A3 prog TU (Aa [(9,DW)]) f108 [.agg [.sl TCd l],.j i] [] =
 ((ifT (decide (0<=i)&&decide (i<(↑l.length:Int))) (Al l[i.toNat]? fun z=>ifB (decide (z.2.2.2.2.1<(0:Int))) nF (ifB (decide
 (z.2.2.2.2.1>=i)) nF (ifT (decide ((0:Int)<=z.2.2.2.2.1)&&decide (z.2.2.2.2.1<(↑l.length:Int))) (Al
 l[toNat z.2.2.2.2.1]? fun z_1=>ifB (!A7 z_1.1) nF (ifT (decide (0<=i/\i.toNat<l.length/\l.length<=4000000000)&&
 Ci l i.toNat) (ifB (!CV l i.toNat) nF (ifT (decide ((0:Int)<=z.2.2.2.2.1)&&decide (z.2.2.2.2.1<(↑l.length:Int)))
 (Al l[toNat z.2.2.2.2.1]? fun z_2=>ifB (z_2.1==(4:Int)) (ifB (z.2.1==Ai UInt8) (ifB (z.2.2.1==(0:Int)) (some (V.b
 !z.2.2.2.1,[])) nF) nF) (ifT (decide (List.length z.2.1<=maxI)) (ifB (!E7 z.2.1) nF (ifB
 (!decide ((1:Int)<=z.2.2.1/\z.2.2.1<=(30:Int))) nF (ifT (decide (0<=i64.wrap (z.2.2.2.2.1+(1:Int))/\
 i64.wrap (z.2.2.2.2.1+(1:Int))<=i/\i.toNat<l.length/\l.length<=4000000000)) (ifB (OE z.2.2.2.2.1 z.2.2.1 z.2.1
 (drop (i64.wrap (z.2.2.2.2.1+(1:Int))).toNat (take i.toNat l))) (some (V.b true,[])) nF)))))))))))))):_):=by kernel_rfl
theorem Pd:Ar prog TU (Aa [(9,DW)]) 0 (f108.body.getD .skip):=by
 refine Ap (a:=body f108 0) (by kernel_rfl) fun d ex d' h=>?_
 unfold DW at h;dsimp only at h;split at h
 ·rename_i i k l y0 y1 y2 y3 y4 y5;obtain ⟨hc,hx⟩:=Ac h;clear h;obtain ⟨h0,h1,h2,h3⟩:=of_decide_eq_true hc;obtain ⟨k,rfl⟩:=eq_ofNat_of_zero_le h0;obtain ⟨i,rfl⟩:=eq_ofNat_of_zero_le (by omega:0<=i);simp only [ntN] at h2 hx;have hM:=mxI;have hlen:(l.take i).length=i:=by rw [List.length_take]; omega
  refine BZ (l:=l.take i) (fun o:Ty=>!(o.2.2.2.2.1==y4&&(decide (o.2.2.1>=y2)||o.2.1==y1))) (fun k=>([.j (i:Int),.ptr 0 0,.ptr 1 0,.j (k:Int)],[some (.box [.sl TCd l]),some (.box (Ly y0 y1 y2 y3 y4 y5))])) (ex:=(.exit 0,([],[]))) (rt:=(.ret,([.b false],[]))) (by simp) (by simp) (fun n hn=>?_) ?_ ((l.take i).length-k) k (by rw [hlen]; omega) ex d' hx
  ·rw [hlen] at hn;have hnl:n<l.length:=by omega
   have hr:=FZ l y0 y1 y2 y3 y4 y5 i n;rw [Ag (dcT (by omega)),T2 (by omega)] at hr;simp only [ntN,gtE hnl,Am,Ax (n:=n) (by omega)] at hr;refine hr.trans ?_;rw [List.getElem_take];cases l[n].2.2.2.2.1==y4<;>cases decide (l[n].2.2.1>=y2)<;>cases l[n].2.1==y1<;>rfl
  ·have hr:=FZ l y0 y1 y2 y3 y4 y5 i i;rw [Ad (dcF (by omega))] at hr;rw [hlen];exact hr
 ·cases h
theorem MR (l:List Ty) (i:Int) (hc:0<=i/\i.toNat<l.length/\l.length<=4000000000) (hs:Ci l i.toNat=true) (hn:nmL l=true):A3 prog TU (Aa [(9,DW)]) f108 [.agg [.sl TCd l],.j i] []=some (.b (Db l i.toNat),[]):=by
 rw [LA];obtain ⟨h0,h1,h2⟩:=hc;obtain ⟨i,rfl⟩:=eq_ofNat_of_zero_le h0;simp only [ntN] at h1 hs;have hM:=mxI;have hu:AN l i=some (l[i].2.2.2.2.1):=by unfold AN; rw [gtE h1]; rfl
 have hlb:=F3 h1;have hnm:l[i].2.1.length<=maxI:=of_decide_eq_true (all_eq_true.1 hn _ (getElem_mem h1));rw [T2 (by omega)];simp only [ntN,gtE h1,Am];unfold Db;rw [hu,hlb];dsimp only
 by_cases a1:l[i].2.2.2.2.1<0
 ·rw [Ag (dcT a1),dcF (by omega)]; rfl
 rw [Ad (dcF a1)]
 by_cases a2:l[i].2.2.2.2.1>=(i:Int)
 ·rw [Ag (dcT a2),dcF (by omega)]; rfl
 obtain ⟨u,hu2⟩:=eq_ofNat_of_zero_le (by omega:0<=l[i].2.2.2.2.1);rw [hu2] at a2 ⊢;have hul:u<l.length:=by omega
 have hg:(decide ((0:Int)<=(u:Int))&&decide ((u:Int)<(l.length:Int)))=true:=by simp only [anE,dcE]; omega
 rw [Ad (dcF a2),dcT (show 0<=(u:Int)/\(u:Int)<(i:Int) by omega),hg];simp only [ntN,gtE hul,Am,EC];rw [F3 hul];dsimp only
 cases A7 l[u].1 with
 | false=>rfl
 | true=>
  rw [Bool.not_true,AL,Ae (by rw [anE]; exact ⟨dcT ⟨by omega,h1,h2⟩,hs⟩)]
  cases CV l i with
  | false=>rfl
  | true=>
   rw [Bool.not_true,AL]
   by_cases a4:l[u].1=4
   ·rw [Ag (by rw [a4]; rfl),if_pos a4];cases l[i].2.1==Ai UInt8<;>cases l[i].2.2.1==0<;>rfl
   ·rw [Ad (beq_false_of_ne a4),if_neg a4,Ae (dcT hnm),Ax (n:=u) (by omega)];have d1:decide (1<=l[i].2.2.1/\l[i].2.2.1<=30)=(decide (1<=l[i].2.2.1)&&decide (l[i].2.2.1<=30)):=decide_and ..;rw [d1,Ae (dcT ⟨by omega,by omega,h1,h2⟩),ntN];cases E7 l[i].2.1<;>cases (decide (1<=l[i].2.2.1)&&decide (l[i].2.2.1<=30))<;>cases OE (u:Int) l[i].2.2.1 l[i].2.1 ((l.take i).drop (u+1))<;>rfl
theorem UK:Ab prog 108 (Ent.rd1 Kn).F:=by
 refine fcK (kc func151 Oe (kc func152 Rc (kc func153 VG (kc func100 LD KnowsL.nil)))).knows (Λ:=(Aa [(9,DW)])) func108 fun vs bs r hq=>?_
 unfold Ent.F Kn at hq;dsimp only at hq;split at hq
 ·rename_i l i;obtain ⟨hc,hx⟩:=Ac hq;rw [anE,anE] at hc;exact ⟨Pd,(MR l i (of_decide_eq_true hc.1.1) hc.1.2 hc.2).trans hx⟩
 ·cases hq
instance decTy0:DecidableEq (Bool×Int×Int×Unit):=inferInstance
instance decTy:DecidableEq Ty:=inferInstance
def Fa:LoopEnt:=⟨105,[1,13,14,15],[1],[2],fun
 | ([.ptr 0 0,.sl TCd q,.j m,.j i],[some (.box [.sl TCd l])])=>.need (decide (0<=i/\i.toNat<=l.length/\m=l.length/\eqT (List Ty) q l/\l.length<=4000000000)&&nmL l&&Ci l i.toNat) (.br (((range l.length).drop i.toNat).all (okT l)) (.leaf (.exit 0,([.ptr 0 0],[some (.box [.sl TCd l])]))) (.leaf (.ret,([.b false],[]))))
 | _=>.no⟩
def Gd:LoopEnt:=⟨105,[1,83,84,85],[1],[2],fun
 | ([.ptr 0 0,.sl TCd q,.j m,.j i],[some (.box [.sl TCd l])])=>.need (decide (0<=i/\i.toNat<=l.length/\m=l.length/\eqT (List Ty) q l/\l.length<=4000000000)) (.br (((range l.length).drop i.toNat).all (Dw l)) (.leaf (.exit 2,([.ptr 0 0],[some (.box [.sl TCd l])]))) (.leaf (.ret,([.b false],[]))))
 | _=>.no⟩
abbrev K8:FuncId->Option Ent:=Aa [(100,.rd1 AA),(108,.rd1 Kn),(83,.rd1 Hp),(39,.rd1 Ho),(109,.rd1 MA)]
theorem J2 (l q:List Ty) (m i:Int):As prog K8 (Aa [(4,Fa),(12,Gd)]) 0 (body f63 0) Fa ([.ptr 0 0,.sl TCd q,.j m,.j i],[some (.box [.sl TCd l])]) =
 ((ifB (decide (i<m)) (ifT (decide (0<=i)&&decide (i<(↑q.length:Int))) (Al q[i.toNat]? fun z=>shr z.2.2 fun sh4=>shr sh4.2.2.2 fun sh3=>shr (ifB
 (decide (i>0)) (ifT (decide (0<=i/\i.toNat<l.length/\l.length<=4000000000)&&Ci l i.toNat&&nmL l) (ifB (!Db l i.toNat) rF (some (Ex.normal,[V.ptr 0 0,V.sl TCd q,V.j m,V.j (i64.wrap (i+1))],[some (Blk.box [V.sl TCd l])])))) (some (Ex.normal,[V.ptr 0 0,
 V.sl TCd q,V.j m,V.j (i64.wrap (i+1))],[some (Blk.box [V.sl TCd l])]))) fun sh2=>shr (ifB (i==0) (ifB (z.1 != (5:Int)) rF (ifB (sh4.2.2.1 != (-1:Int)) rF (ifB (!z.2.1==Ai UInt8) rF (ifB (sh4.1 != (0 :
 Int)) rF (ifB sh4.2.1 rF sh2))))) sh2) fun sh1=>ifB (!decide ((1:Int)<=z.1/\z.1<=(5:Int)))
 rF (ifB (z.1==(3:Int)) (ifB (!decide ((0:Int)<=sh3.1/\sh3.1<=(20:Int))) rF (ifB (z.1 != (3
 : Int)) (ifB (sh3.1 != (0:Int)) rF sh1) sh1)) (ifB (z.1 != (3:Int)) (ifB (sh3.1 != (0:Int)) rF
 sh1) sh1)))) (some (Ex.exit 0,[V.ptr 0 0],[some (Blk.box [V.sl TCd l])]))):_):=by kernel_rfl
theorem J1 (l q:List Ty) (m i:Int):As prog K8 (Aa [(4,Fa),(12,Gd)]) 0 (body f63 1) Gd ([.ptr 0 0,.sl TCd q,.j m,.j i],[some (.box [.sl TCd l])]) =
 ((ifB (decide (i<m)) (ifT (decide (0<=i)&&decide (i<(↑q.length:Int))) (Al q[i.toNat]? fun z=>ifB (z.1==(4:Int)) (ifT (decide (0<=i/\i.toNat<l.length
 /\ l.length<=4000000000)) (ifB ((↑(Bc l i.toNat).length:Int) != (1:Int)) rF (some (Ex.normal,[V.ptr 0 0,V.sl TCd q,V.i
 .i64 m,V.j (i64.wrap (i+1))],[some (Blk.box [V.sl TCd l])])))) (some (Ex.normal,[V.ptr 0 0,V.sl TCd q,V.j m,V.j (i64.wrap (i +
 1))],[some (Blk.box [V.sl TCd l])])))) (some (Ex.exit 2,[V.ptr 0 0],[some (Blk.box [V.sl TCd l])]))):_):=by kernel_rfl
theorem Tm (l:List Ty):A3 prog K8 (Aa [(4,Fa),(12,Gd)]) f63 [.agg [.sl TCd l]] [] =
 ((ifB (!decide (1<=(↑l.length:Int)/\(↑l.length:Int)<=(30:Int))) nF (ifT (decide ((0:Int)<=(0:Int)/\0<=l.length/\(↑l.length :
 Int)=(↑l.length:Int)/\eqT (List Ty) l l/\l.length<=4000000000)&&nmL l&&Ci l 0) (ifB ((drop 0 (range l.length)).all (okT
 l)) (ifT (decide ((0:Int)<=(0:Int)/\0<=l.length/\(↑l.length:Int)=(↑l.length:Int)/\eqT (List Ty) l l/\l.length<=4000000000)) (ifB
 ((drop 0 (range l.length)).all (Dw l)) (ifT (decide ((0:Int)<=(0:Int)/\0<l.length/\l.length<=4000000000)) (ifT (decide
 (Ay (take (t2L l 0).kids.length (drop 0 (t2L l 0).kids))+1<=1000000)) (some (V.b (decide ((↑(BI (take (t2L
 l 0).kids.length (drop 0 (t2L l 0).kids))+bif A7 (t2L l 0).lab.1 then 1 else 0):Int)<=(5:Int))),[]))))
 nF)) nF))):_):=by kernel_rfl
theorem Mz {l:List Ty} {i:Nat} (h:Ci l i=true) {u:Int} (hu:AN l i=some u) (hlt:u<(i:Int)):Ci l (i+1)=true:=by
 unfold Ci at h ⊢;rw [List.range_succ,List.all_append,h,Bool.true_and,List.all_cons,List.all_nil,Bool.and_true,hu];exact dcT hlt
theorem UB {l:List Ty} {i:Nat} (h:okT l i=true) : ∃ u,AN l i=some u/\u<(i:Int):=by
 unfold okT at h;rw [anE] at h;have h:=h.2
 by_cases hz:i=0
 ·subst hz;rw [if_pos rfl] at h;simp only [anE,dcE] at h;exact ⟨-1,h.1.1.1.2,by omega⟩
 ·rw [if_neg hz] at h;unfold Db at h
  cases hu:AN l i with
  | none=>rw [hu] at h; cases h
  | some u=>
   rw [hu] at h;simp only [anE,dcE] at h;exact ⟨u,rfl,h.1.1.1.2⟩
theorem Rz (l:List Ty) (hl:l.length<=4000000000) (hn:nmL l=true) (i:Nat) (hi:i<l.length) (hs:Ci l i=true) :
  As prog K8 (Aa [(4,Fa),(12,Gd)]) 0 (body f63 0) Fa ([.ptr 0 0,.sl TCd l,.j (l.length:Int),.j (i:Int)],[some (.box [.sl TCd l])])=some (bif okT l i then (.normal,([.ptr 0 0,.sl TCd l,.j (l.length:Int),.j ((i+1:Nat):Int)],[some (.box [.sl TCd l])])) else (.ret,([.b false],[]))):=by
 have hM:=mxI;have hr:=J2 l l l.length i;dsimp only [shr] at hr;rw [Ag (dcT (by omega)),T2 (by omega)] at hr;simp only [ntN,gtE hi,Am,Ax (n:=i) (by omega)] at hr;refine hr.trans ?_;clear hr
 have hc:(decide ((0:Int)<=(i:Int)/\i<l.length/\l.length<=4000000000)&&Ci l i&&nmL l)=true:=by
  rw [hs,hn,dcT (show (0:Int)<=(i:Int)/\i<l.length/\l.length<=4000000000 from ⟨by omega,hi,hl⟩)]; rfl
 rw [hc]
 have hkm:kmB (Av l i)=(decide (1<=l[i].1/\l[i].1<=5)&&(bif l[i].1==3 then decide (0<=l[i].2.2.2.2.2.1/\l[i].2.2.2.2.2.1<=20) else l[i].2.2.2.2.2.1==0)):=by
  rw [F3 hi];unfold kmB;dsimp only
  by_cases h3:l[i].1=3
  ·rw [if_pos h3,h3]; rfl
  ·rw [if_neg h3,beq_false_of_ne h3]; rfl
 unfold okT;rw [hkm];unfold bne
 by_cases hz:i=0
 ·subst hz
  have hu:decide (AN l 0=some (-1))=(l[0].2.2.2.2.1==-1):=by
   unfold AN;rw [gtE hi]
   by_cases h1:l[0].2.2.2.2.1 = -1
   ·rw [map_some,h1]; simp
   ·rw [beq_false_of_ne h1]; exact dcF (fun h=>h1 (Option.some.inj h))
  rw [if_pos rfl,F3 hi,hu];simp only [show (((0:Nat):Int)==0)=true from rfl,show decide (((0:Nat):Int)>0)=false from rfl];have hnil:(l[0].2.1==([]:By))=(l[0].2.1==Ai UInt8):=rfl;rw [hnil];generalize decide (1<=l[0].1/\l[0].1<=5)=K;generalize (l[0].1==3)=c3;generalize (l[0].1==5)=c5;generalize decide (0<=l[0].2.2.2.2.2.1/\l[0].2.2.2.2.2.1<=20)=M;generalize (l[0].2.2.2.2.2.1==0)=m0;generalize (l[0].2.2.2.2.1==-1)=u0;generalize (l[0].2.1==Ai UInt8)=nm;generalize (l[0].2.2.1==0)=no;generalize l[0].2.2.2.1=mu;cases K<;>cases c3<;>cases c5<;>cases M<;>cases m0<;>cases u0<;>cases nm<;>cases no<;>cases mu<;>rfl
 ·rw [if_neg hz];have h0:((i:Int)==0)=false:=beq_false_of_ne (by omega);have h1:decide ((i:Int)>0)=true:=dcT (by omega);rw [h0,h1];generalize decide (1<=l[i].1/\l[i].1<=5)=K;generalize (l[i].1==3)=c3;generalize decide (0<=l[i].2.2.2.2.2.1/\l[i].2.2.2.2.2.1<=20)=M;generalize (l[i].2.2.2.2.2.1==0)=m0;generalize Db l i=p;cases K<;>cases c3<;>cases M<;>cases m0<;>cases p<;>rfl
theorem MC {n i:Nat} (h:i<n):(range n).drop i=i::(range n).drop (i+1):=by
 rw [drop_eq_getElem_cons (by simpa using h)]; simp
theorem LP (l:List Ty) (hl:l.length<=4000000000) (hn:nmL l=true) : ∀ (j i:Nat),i+j=l.length->Ci l i=true->∀ ex d,(Br.br (((range l.length).drop i).all (okT l)) (.leaf (.exit 0,([.ptr 0 0],[some (.box [.sl TCd l])]))) (.leaf (.ret,([.b false],[]))):Br (Ex×Dt)).run=some (ex,d)->
  Runs prog K8 (Aa [(4,Fa),(12,Gd)]) 0 (body f63 0) Fa ([.ptr 0 0,.sl TCd l,.j (l.length:Int),.j (i:Int)],[some (.box [.sl TCd l])]) ex d
 | 0,i,hi,hs,ex,d,h=>by
  have hr:=J2 l l l.length i;dsimp only [shr] at hr;rw [Ad (dcF (by omega))] at hr;have e1:(range l.length).drop i=[]:=drop_eq_nil_of_le (by simp; omega);rw [e1] at h;obtain ⟨rfl,rfl⟩:=lfP h;exact stp hr
 | j+1,i,hi,hs,ex,d,h=>by
  have hr:=Rz l hl hn i (by omega) hs;rw [MC (by omega),List.all_cons] at h
  cases hk:okT l i with
  | true=>
   rw [hk,cond_true] at hr;rw [hk,Bool.true_and] at h;obtain ⟨u,hu,hlt⟩:=UB hk;exact sts hr (LP l hl hn j (i+1) (by omega) (Mz hs hu hlt) ex d h)
  | false=>
   rw [hk,cond_false] at hr;rw [hk,Bool.false_and] at h;obtain ⟨rfl,rfl⟩:=lfP h;exact stp hr
theorem Vh : ∀ d e d',(Fa.L d).run=some (e,d')->Runs prog K8 (Aa [(4,Fa),(12,Gd)]) 0 (body f63 0) Fa d e d':=fun d ex d' h=>by
 unfold Fa at h;dsimp only at h;split at h
 ·rename_i q m i l;obtain ⟨hc,hx⟩:=Ac h;clear h;rw [anE,anE] at hc;obtain ⟨⟨hc,hn⟩,hs⟩:=hc;obtain ⟨h0,h1,rfl,h3,h4⟩:=of_decide_eq_true hc;have h3:q=l:=h3;subst h3;obtain ⟨i,rfl⟩:=eq_ofNat_of_zero_le h0;simp only [ntN] at h1 hs hx;exact LP _ h4 hn _ i (Nat.add_sub_of_le h1) hs ex d' hx
 ·cases h
theorem Vg : ∀ d e d',(Gd.L d).run=some (e,d')->Runs prog K8 (Aa [(4,Fa),(12,Gd)]) 0 (body f63 1) Gd d e d':=fun d ex d' h=>by
 unfold Gd at h;dsimp only at h;split at h
 ·rename_i q m i l;obtain ⟨hc,hx⟩:=Ac h;clear h;obtain ⟨h0,h1,rfl,h3,h4⟩:=of_decide_eq_true hc;have h3:q=l:=h3;subst h3;obtain ⟨i,rfl⟩:=eq_ofNat_of_zero_le h0;simp only [ntN] at h1 hx;have hM:=mxI;refine BZ (l:=range q.length) (Dw q) (fun i=>([.ptr 0 0,.sl TCd q,.j (q.length:Int),.j (i:Int)],[some (.box [.sl TCd q])])) (ex:=(.exit 2,([.ptr 0 0],[some (.box [.sl TCd q])]))) (rt:=(.ret,([.b false],[]))) (by simp) (by simp) (fun n hn=>?_) ?_ (q.length-i) i (by simp; omega) ex d' hx
  ·have hn:n<q.length:=by simpa using hn
   have hr:=J1 q q q.length n;rw [Ag (dcT (by omega)),T2 (by omega)] at hr;simp only [ntN,gtE hn,Am,Ax (n:=n) (by omega)] at hr;refine hr.trans ?_;rw [Ae (dcT ⟨by omega,hn,h4⟩),List.getElem_range]
   have e1:(((Bc q n).length:Int) != 1)=((Bc q n).length != 1):=by
    by_cases h:(Bc q n).length=1
    ·rw [h]; rfl
    ·have h2:((Bc q n).length:Int)≠1:=by omega
     unfold bne;rw [beq_false_of_ne h,beq_false_of_ne h2]
   rw [e1];unfold Dw;rw [F3 hn];dsimp only;cases q[n].1==4<;>cases (Bc q n).length != 1<;>rfl
  ·have hr:=J1 q q q.length q.length;rw [Ad (dcF (by omega))] at hr;simp only [List.length_range];exact hr
 ·cases h
theorem Wj:Ar prog K8 (Aa [(4,Fa),(12,Gd)]) 0 (f63.body.getD .skip):=
 LoopsI.loops (.cons (a:=body f63 0) (by kernel_rfl) Vh (.cons (a:=body f63 1) (by kernel_rfl) Vg .nil)) (by kernel_rfl)
theorem Vf (l:List Ty) (h1:l.length<=4000000000) (hn:nmL l=true):A3 prog K8 (Aa [(4,Fa),(12,Gd)]) f63 [.agg [.sl TCd l]] []=some (.b (Bd l),[]):=by
 rw [Tm,<- (Ht l).1];have hq:=Ht l;have hu0:Ci l 0=true:=rfl;have d0:decide ((0:Int)<=0/\0<=l.length/\(l.length:Int)=(l.length:Int)/\eqT (List Ty) l l/\l.length<=4000000000)=true:=dcT ⟨by omega,by omega,rfl,rfl,h1⟩;rw [d0,hn,hu0,drop_zero,drop_zero,take_length];have hle:decide (1<=(l.length:Int)/\(l.length:Int)<=30)=decide (1<=l.length/\l.length<=30):=decide_eq_decide.2 (by omega);rw [hle];have hdp:BI (t2L l 0).kids+(bif A7 (t2L l 0).lab.1 then 1 else 0)=Bu (t2L l 0):=Jd _;have hd5:decide ((Bu (t2L l 0):Int)<=5)=decide (Bu (t2L l 0)<=5):=decide_eq_decide.2 (by omega);rw [hdp,hd5];unfold Ic
 cases a1:decide (1<=l.length/\l.length<=30) with
 | false=>rfl
 | true=>
  have a1:=of_decide_eq_true a1
  cases a2:(range l.length).all (okT l) with
  | false=>rfl
  | true=>
   have H:=Ln (by omega) a2;have he:=H.end' (by omega);have hc:=Kr (l:=l) (a:=0) (by omega);have hk:=Cu (t2L l 0);rw [he.1,he.2] at hc;have d1:decide ((0:Int)<=0/\0<l.length/\l.length<=4000000000)=true:=dcT ⟨by omega,by omega,h1⟩;have d2:decide (Ay (t2L l 0).kids+1<=1000000)=true:=dcT (by omega);rw [d1,d2];cases (range l.length).all (Dw l)<;>rfl
theorem TZ:Ab prog 63 (Ent.rd1 Ok).F:=by
 refine fcK (kc func100 LD (kc func108 UK (kc func83 Rb (kc func39 Ra (kc func109 VJ KnowsL.nil))))).knows (Λ:=(Aa [(4,Fa),(12,Gd)])) func63 fun vs bs r hq=>?_
 unfold Ent.F Ok at hq;dsimp only at hq;split at hq
 ·rename_i l;obtain ⟨hc,hx⟩:=Ac hq;rw [anE] at hc;exact ⟨Wj,(Vf l (of_decide_eq_true hc.1) hc.2).trans hx⟩
 ·cases hq
abbrev Nd:=Int×By×Int×Int×Bool×Unit
def Co (n:Int):Bool:=decide (-1000000000<=n)&&decide (n<=1000000000)
def FR:Gm
 | [.j n],[]=>.leaf (.b (Co n),[])
 | _,_=>.no
theorem OU (n:Int):A3 prog (Aa [(69,.rd1 AA)]) (Aa []) f167 [.j n] []=(.leaf (.b (Co n),[]):Br (V×List (Option Blk))).run:=by
 have e:A3 prog (Aa [(69,.rd1 AA)]) (Aa []) f167 [.j n] []=((some (V.b (decide ((-1000000000:Int)<=n/\n<=1000000000)),[])):_):=by kernel_rfl
 rw [e];clear e;unfold Co;rw [decide_and];rfl
theorem Ua:Ab prog 167 (Ent.rd1 FR).F:=by
 refine fcK (kc func69 Ew KnowsL.nil).knows (Λ:=Aa []) func167 fun vs bs r' hq=>?_
 unfold Ent.F FR at hq;dsimp only at hq;split at hq
 ·rename_i n;exact ⟨Aj _,(OU n).trans hq⟩
 ·cases hq
theorem Pf (n:Int):A3 prog (Aa [(100,.rd1 AA)]) (Aa []) f135 [.j n] []=(.leaf (.b (Co n),[]):Br (V×List (Option Blk))).run:=by
 have e:A3 prog (Aa [(100,.rd1 AA)]) (Aa []) f135 [.j n] []=((some (V.b (decide ((-1000000000:Int)<=n/\n<=1000000000)),[])):_):=by kernel_rfl
 rw [e];clear e;unfold Co;rw [decide_and];rfl
theorem Rd:Ab prog 135 (Ent.rd1 FR).F:=by
 refine fcK (kc func100 LD KnowsL.nil).knows (Λ:=Aa []) func135 fun vs bs r' hq=>?_
 unfold Ent.F FR at hq;dsimp only at hq;split at hq
 ·rename_i n;exact ⟨Aj _,(Pf n).trans hq⟩
 ·cases hq
abbrev Wt:=Int×Int×Int×By×Int×Int×Unit
def Fd (k n:Int) (s:By):Bool:=if 1<=k/\k<=3 then Co n&&s==[] else if k=4 then n==0&&s==[] else if k=5 then n==0&&decide (s.length<=30) else false
def Bl (w:Wt) (i:Int):Bool:=
 if w.1=6\/w.1=7 then decide (w.2.1=0/\w.2.2.1=0/\w.2.2.2.1=[]/\0<=w.2.2.2.2.1/\w.2.2.2.2.1<w.2.2.2.2.2.1/\w.2.2.2.2.2.1<i)
 else if w.1=8 then decide (w.2.1=0/\w.2.2.1=0/\w.2.2.2.1=[]/\0<=w.2.2.2.2.1/\w.2.2.2.2.1<i/\w.2.2.2.2.2.1=0)
 else decide (1<=w.2.1/\w.2.1<=30)&&Fd w.1 w.2.2.1 w.2.2.2.1&&decide (w.2.2.2.2.1=0/\w.2.2.2.2.2.1=0)
def Cb (u:List Int) (k:Nat):List Int:=u.set k (u.getD k 0+1)
def E0 (w:Wt) (u:List Int):List Int:=if w.1=6\/w.1=7 then Cb (Cb u w.2.2.2.2.1.toNat) w.2.2.2.2.2.1.toNat else if w.1=8 then Cb u w.2.2.2.2.1.toNat else u
def wgo:Nat->List Wt->List Int->Option (List Int)
 | _,[],u=>some u
 | i,w::l,u=>if Bl w (i:Int)=true then wgo (i+1) l (E0 w u) else none
def Fg (u:List Int):Bool:=u.all fun x=>x==1
def Au (l:List Wt):Bool:=decide (1<=l.length/\l.length<=20)&&(match wgo 0 l (replicate l.length 0) with | some u=>Fg (u.take (l.length-1)) | none=>false)
def PJ:Gm
 | [.agg (Lw w0 w1 w2 w3 w4 w5),.j i],[]=>.leaf (.b (Bl (w0,w1,w2,w3,w4,w5,()) i),[])
 | _,_=>.no
def CE:Gm
 | [.agg [.sl WCd l]],[]=>.leaf (.b (Au l),[])
 | _,_=>.no
def G8:LoopEnt:=⟨62,[3,4,18,19,20],[3,4],[2],fun
 | ([.j n,.ref 0 0 m,.sl WCd l,.j k,.j i],[R0 (.int .i64) u])=>.need (decide (0<=i/\i.toNat<=l.length/\k=l.length/\m=l.length/\u.length=l.length/\l.length<=20/\(∀ x∈u,0<=x/\x<=2*i))) (.br (wgo i.toNat (l.drop i.toNat) u).isSome (.leaf (.exit 0,([.j n,.ref 0 0 ((wgo i.toNat (l.drop i.toNat) u).getD []).length],[R0 (.int .i64) ((wgo i.toNat (l.drop i.toNat) u).getD [])]))) (.leaf (.ret,([.b false],[]))))
 | _=>.no⟩
def Hb:LoopEnt:=⟨62,[53,54,55],[],[2],fun
 | ([.ref 0 0 m,.j k,.j i],[R0 (.int .i64) u])=>.need (decide (0<=i/\i.toNat<=m/\k=m/\m<=u.length/\u.length<=20)) (.br (Fg ((u.take m).drop i.toNat)) (.leaf (.exit 2,([],[]))) (.leaf (.ret,([.b false],[]))))
 | _=>.no⟩
theorem Ve {c x y:Bool}:ifB c (some (V.b x,([]:List (Option Blk)))) (some (V.b y,[]))=some (V.b (bif c then x else y),[]):=by cases c<;>rfl
theorem Iz {c x y:Bool}:((bif c then x else y)=true)↔((c=true/\x=true)\/(c=false/\y=true)):=by cases c<;>simp
theorem NX {α:Type} [BEq α] [LawfulBEq α] (l:List α):(l==[])=decide (l.length=0):=by cases l<;>simp
theorem M4 (w0 w1 w2:Int) (w3:By) (w4 w5:Int) (i:Int):A3 prog (Aa [(100,.rd1 AA),(135,.rd1 FR)]) (Aa []) f101 [.agg (Lw w0 w1 w2 w3 w4 w5),.j i] [] =
 ((ifB (!decide (1<=w0/\w0<=5)==(w1 != 0)) nF (ifB (!decide (0<=w1/\w1<=30)) nF (ifB (decide ((↑w3.length:Int)>(30 :
 Int))) nF (ifB (!Co w2) nF (ifB (decide (w0>3)) (ifB (w2 != 0) nF (ifB (w0 != 5) (ifB (!w3==Ai UInt8)
 nF (ifB (decide (1<=w0/\w0<=5)) (ifB (w4==0) (some (V.b (w5==0),[])) nF) (ifB (w0==8) (ifB (decide (w4>=0)) (ifB
 (decide (w4<i)) (some (V.b (w5==0),[])) nF) nF) (ifB (decide (6<=w0/\w0<=7)) (ifB (decide (w4>=0)) (ifB (decide (w4 <
 w5)) (some (V.b (decide (w5<i)),[])) nF) nF) nF)))) (ifB (decide (1<=w0/\w0<=5)) (ifB (w4==0) (some
 (V.b (w5==0),[])) nF) (ifB (w0==8) (ifB (decide (w4>=0)) (ifB (decide (w4<i)) (some (V.b (w5==0),[])) nF) nF) (ifB (decide (6<=w0/\w0<=7)) (ifB (decide (w4>=0)) (ifB (decide (w4<w5)) (some (V.b (decide (w5<i)),[])) nF) nF) nF))))) (ifB (w0 != 5) (ifB (!w3==Ai UInt8) nF (ifB (decide (1<=w0/\w0<=5)) (ifB (w4==0) (some (V.b (w5==0),[]))
 nF) (ifB (w0==8) (ifB (decide (w4>=0)) (ifB (decide (w4<i)) (some (V.b (w5==0),[])) nF) nF) (ifB
 (decide (6<=w0/\w0<=7)) (ifB (decide (w4>=0)) (ifB (decide (w4<w5)) (some (V.b (decide (w5<i)),[])) nF) nF) nF)))) (ifB (decide (1<=w0/\w0<=5)) (ifB (w4==0) (some (V.b (w5==0),[])) nF) (ifB (w0==8) (ifB (decide (w4>=0)) (ifB (decide (w4 <
 i)) (some (V.b (w5==0),[])) nF) nF) (ifB (decide (6<=w0/\w0<=7)) (ifB (decide (w4>=0)) (ifB (decide (w4<w5)) (some (V.b
 (decide (w5<i)),[])) nF) nF) nF))))))))):_):=by kernel_rfl
theorem O9 (w0 w1 w2:Int) (w3:By) (w4 w5:Int) (i:Int):A3 prog (Aa [(100,.rd1 AA),(135,.rd1 FR)]) (Aa []) f101 [.agg (Lw w0 w1 w2 w3 w4 w5),.j i] []=(.leaf (.b (Bl (w0,w1,w2,w3,w4,w5,()) i),[]):Br (V×List (Option Blk))).run:=by
 rw [M4];have e3:(w3==Ai UInt8)=decide (w3.length=0):=NX w3;have e4:(w3==[])=decide (w3.length=0):=NX w3;have e5:(w3=[])↔w3.length=0:=List.length_eq_zero_iff.symm;simp only [Ve,e3];refine congrArg (fun b=>some (V.b b,([]:List (Option Blk)))) ?_;unfold Bl Fd Co;dsimp only;simp only [e4,e5];generalize w3.length=n;rw [Bool.eq_iff_iff];have hk:w0=1\/w0=2\/w0=3\/w0=4\/w0=5\/w0=6\/w0=7\/w0=8\/w0<1\/8<w0:=by omega
 rcases hk with rfl | rfl | rfl | rfl | rfl | rfl | rfl | rfl | hk | hk
 iterate 8
  ·simp
   try omega
 ·have f1 : ¬(1<=w0/\w0<=5):=by omega
  have f2 : ¬w0=8:=by omega
  have f3 : ¬(6<=w0/\w0<=7):=by omega
  have f4 : ¬(w0=6\/w0=7):=by omega
  have f5 : ¬(1<=w0/\w0<=3):=by omega
  have f6 : ¬w0=4:=by omega
  have f7 : ¬w0=5:=by omega
  rw [if_neg f4,if_neg f2,if_neg f5,if_neg f6,if_neg f7,dcF f1,dcF f3];simp [f2,f7]
 ·have f1 : ¬(1<=w0/\w0<=5):=by omega
  have f2 : ¬w0=8:=by omega
  have f3 : ¬(6<=w0/\w0<=7):=by omega
  have f4 : ¬(w0=6\/w0=7):=by omega
  have f5 : ¬(1<=w0/\w0<=3):=by omega
  have f6 : ¬w0=4:=by omega
  have f7 : ¬w0=5:=by omega
  rw [if_neg f4,if_neg f2,if_neg f5,if_neg f6,if_neg f7,dcF f1,dcF f3];simp [f2,f7]
theorem VB:Ab prog 101 (Ent.rd1 PJ).F:=by
 refine fcK (kc func100 LD (kc func135 Rd KnowsL.nil)).knows (Λ:=Aa []) func101 fun vs bs r' hq=>?_
 unfold Ent.F PJ at hq;dsimp only at hq;split at hq
 ·rename_i w0 w1 w2 w3 w4 w5 i;exact ⟨Aj _,(O9 w0 w1 w2 w3 w4 w5 i).trans hq⟩
 ·cases hq
abbrev N3:FuncId->Option Ent:=Aa [(100,.rd1 AA),(101,.rd1 PJ)]
theorem J4 (n:Int) (m:Nat) (l:List Wt) (k i:Int) (u:List Int):As prog N3 (Aa [(6,G8),(16,Hb)]) 0 (body f51 0) G8 ([.j n,.ref 0 0 m,.sl WCd l,.j k,.j i],[R0 (.int .i64) u]) =
 ((ifB (decide (i<k)) (ifT (decide (0<=i)&&decide (i<(↑l.length:Int))) (Al l[i.toNat]? fun z=>ifB (!Bl (z.1,z.2.1,z.2.2.1,z.2.2.2.1,
 z.2.2.2.2.1,z.2.2.2.2.2.1,()) i) rF (ifB (decide (z.1>=(6:Int))) (ifT (decide ((0:Int)<=
 z.2.2.2.2.1)&&decide (z.2.2.2.2.1<(↑m:Int))) (Al u[0+toNat z.2.2.2.2.1]? fun z_1=>ifT (decide ((0:Int)<=
 z.2.2.2.2.1)&&decide (z.2.2.2.2.1<(↑m:Int))) (Al u[0+toNat z.2.2.2.2.1]? fun _=>ifB (decide ((6:Int)<=z.1/\
 z.1<=(7:Int))) (ifT (decide ((0:Int)<=z.2.2.2.2.2.1)&&decide (z.2.2.2.2.2.1<(↑m:Int))) (Al (u.set (0+toNat
 z.2.2.2.2.1) (i64.wrap (z_1+(1:Int))))[0+toNat z.2.2.2.2.2.1]? fun z_3=>ifT (decide ((0:Int)<=
 z.2.2.2.2.2.1)&&decide (z.2.2.2.2.2.1<(↑m:Int))) (Al (u.set (0+toNat z.2.2.2.2.1) (i64.wrap (z_1+(1 :
 Int))))[0+toNat z.2.2.2.2.2.1]? fun _=>some (Ex.normal,[V.j n,V.ref 0 0 m,V.sl WCd l,V.j k,V.j (i64.wrap (i +
 1))],[R0 (Cd.int .i64) ((u.set (0+toNat z.2.2.2.2.1) (i64.wrap (z_1+(1:Int)))).set (0+toNat
 z.2.2.2.2.2.1) (i64.wrap (z_3+(1:Int))))])))) (some (Ex.normal,[V.j n,V.ref 0 0 m,V.sl WCd l,V.j k,V.j (i64.wrap (i +
 1))],[R0 (Cd.int .i64) (u.set (0+toNat z.2.2.2.2.1) (i64.wrap (z_1+(1:Int))))]))))) (ifB (decide ((6:Int)<=
 z.1/\z.1<=(7:Int))) (ifT (decide ((0:Int)<=z.2.2.2.2.2.1)&&decide (z.2.2.2.2.2.1<(↑m:Int))) (Al u[0+toNat
 z.2.2.2.2.2.1]? fun z_1=>ifT (decide ((0:Int)<=z.2.2.2.2.2.1)&&decide (z.2.2.2.2.2.1<(↑m:Int))) (Al u[0 +
 toNat z.2.2.2.2.2.1]? fun _=>some (Ex.normal,[V.j n,V.ref 0 0 m,V.sl WCd l,V.j k,V.j (i64.wrap (i+1))],[R0 (Cd.int .i64) (u.set (0+toNat z.2.2.2.2.2.1) (i64.wrap (z_1+(1:Int))))])))) (some (Ex.normal,[V.j n,V.ref 0 0 m,
 V.sl WCd l,V.j k,V.j (i64.wrap (i+1))],[R0 (Cd.int .i64) u])))))) (some (Ex.exit 0,[V.j n,V.ref 0 0 m],[R0 (Cd.int .i64) u]))):_):=by kernel_rfl
theorem J3 (m:Nat) (k i:Int) (u:List Int):As prog N3 (Aa [(6,G8),(16,Hb)]) 0 (body f51 1) Hb ([.ref 0 0 m,.j k,.j i],[R0 (.int .i64) u]) =
 ((ifB (decide (i<k)) (ifT (decide (0<=i)&&decide (i<(↑m:Int))) (Al u[0+i.toNat]? fun z=>ifB (z != (1:Int)) rF (some
 (Ex.normal,[V.ref 0 0 m,V.j k,V.j (i64.wrap (i+1))],[R0 (Cd.int .i64) u])))) (some (Ex.exit 2,[],[]))):_):=by kernel_rfl
theorem Tn (l:List Wt):A3 prog N3 (Aa [(6,G8),(16,Hb)]) f51 [.agg [.sl WCd l]] [] =
 ((ifB (!decide (1<=(↑l.length:Int)/\(↑l.length:Int)<=(20:Int))) nF (ifT (decide (0<=(↑l.length:Int))&&decide ((↑l.length:Int)<=
 (↑l.length:Int))&&decide ((↑l.length:Int)*(↑(8:Nat):Int)<=(140737488355328:Int))&&decide ((↑l.length:Int)<=(9223372036854775807:Int))) (ifT (decide
 ((0:Int)<=(0:Int)/\0<=l.length/\(↑l.length:Int)=(↑l.length:Int)/\(↑l.length:Int).toNat=l.length/\(replicate (↑l.length:Int).toNat (0 :
 Int)).length=l.length/\l.length<=20/\∀ (x:(Cd.int .i64).den),x∈replicate (↑l.length:Int).toNat (0:Int)->(0:(Cd.int .i64).den)<=x/\x<=(0 :
 Int))) (ifB (wgo 0 (drop 0 l) (replicate (↑l.length:Int).toNat (0:Int))).isSome (ifT (decide (0<=i64.wrap ((↑l.length:Int)-(1 :
 Int)))&&decide (i64.wrap ((↑l.length:Int)-(1:Int))<=(↑(((wgo 0 (drop 0 l) (replicate (↑l.length:Int).toNat (0:Int))).getD
 (Ai Int)).length-0):Int))) (ifT (decide ((0:Int)<=(0:Int)/\0<=(i64.wrap ((↑l.length:Int)-(1:Int))).toNat-0/\
 (↑((i64.wrap ((↑l.length:Int)-(1:Int))).toNat-0):Int)=(↑((i64.wrap ((↑l.length:Int)-(1:Int))).toNat-0):Int)/\
 (i64.wrap ((↑l.length:Int)-(1:Int))).toNat-0<=((wgo 0 (drop 0 l) (replicate (↑l.length:Int).toNat (0:Int))).getD
 (Ai Int)).length/\((wgo 0 (drop 0 l) (replicate (↑l.length:Int).toNat (0:Int))).getD (Ai Int)).length<=20)) (ifB (Fg
 (drop 0 (take ((i64.wrap ((↑l.length:Int)-(1:Int))).toNat-0) ((wgo 0 (drop 0 l) (replicate (↑l.length
 : Int).toNat (0:Int))).getD (Ai Int))))) (some (V.b true,[])) nF))) nF)))):_):=by kernel_rfl
theorem Ey {w:Wt} {i:Int} (h:Bl w i=true):(w.1=6\/w.1=7->0<=w.2.2.2.2.1/\w.2.2.2.2.1<w.2.2.2.2.2.1/\w.2.2.2.2.2.1<i)/\(w.1=8->0<=w.2.2.2.2.1/\w.2.2.2.2.1<i)/\(w.1<=8):=by
 unfold Bl at h;split at h
 ·rename_i hk;have h:=of_decide_eq_true h;exact ⟨fun _=>h.2.2.2,fun e=>by omega,by omega⟩
 ·rename_i hk;split at h
  ·have h:=of_decide_eq_true h;exact ⟨fun e=>absurd e hk,fun _=>⟨h.2.2.2.1,h.2.2.2.2.1⟩,by omega⟩
  ·rename_i hk2;refine ⟨fun e=>absurd e hk,fun e=>absurd e hk2,?_⟩;simp only [anE] at h;have:=h.1.2;unfold Fd at this;split at this
   ·omega
   ·split at this
    ·omega
    ·split at this
     ·omega
     ·cases this
theorem BA (u:List Int) (k:Nat):(Cb u k).length=u.length:=by unfold Cb; simp
theorem ET {u:List Int} {k:Nat} {b:Int} (h : ∀ x∈u,0<=x/\x<=b) (hk:k<u.length) : ∀ x∈Cb u k,0<=x/\x<=b+1:=by
 intro x hx;unfold Cb at hx;rcases List.mem_or_eq_of_mem_set hx with hx | rfl
 ·have:=h x hx; omega
 ·have e:u.getD k 0=u[k]:=by simp [hk]
  rw [e];have:=h _ (getElem_mem hk);omega
theorem JP {w:Wt} {i:Int} {u:List Int} (h:Bl w i=true) (hi:i<=u.length) (hu : ∀ x∈u,0<=x/\x<=2*i):(E0 w u).length=u.length/\∀ x∈E0 w u,0<=x/\x<=2*(i+1):=by
 obtain ⟨h1,h2,_⟩:=Ey h;unfold E0;split
 ·rename_i hk;have:=h1 hk;refine ⟨by rw [BA,BA],?_⟩;have a:=ET (ET hu (k:=w.2.2.2.2.1.toNat) (by omega)) (k:=w.2.2.2.2.2.1.toNat) (by rw [BA]; omega);exact fun x hx=>by have:=a x hx; omega
 ·split
  ·rename_i hk;have:=h2 hk;refine ⟨by rw [BA],?_⟩;have a:=ET hu (k:=w.2.2.2.2.1.toNat) (by omega);exact fun x hx=>by have:=a x hx; omega
  ·exact ⟨rfl,fun x hx=>by have:=hu x hx; omega⟩
theorem To (n:Int) (l:List Wt) (i:Nat) (u:List Int) (hi:i<l.length) (hul:u.length=l.length) (hl:l.length<=20) (hu : ∀ x∈u,0<=x/\x<=2*(i:Int)) :
  As prog N3 (Aa [(6,G8),(16,Hb)]) 0 (body f51 0) G8 ([.j n,.ref 0 0 l.length,.sl WCd l,.j (l.length:Int),.j (i:Int)],[R0 (.int .i64) u])=if Bl l[i] (i:Int)=true then some (.normal,([.j n,.ref 0 0 l.length,.sl WCd l,.j (l.length:Int),.j ((i+1:Nat):Int)],[R0 (.int .i64) (E0 l[i] u)])) else some (.ret,([.b false],[])):=by
 rw [J4];have hM:=mxI;rw [Ag (dcT (by omega)),T2 (by omega),ntN,gtE hi,Am,Ax (n:=i) (by omega)];generalize hw:l[i]=w;obtain ⟨w0,w1,w2,w3,w4,w5,⟨⟩⟩:=w;dsimp only
 cases hb:Bl (w0,w1,w2,w3,w4,w5,()) (i:Int) with
 | false=>rfl
 | true=>
  obtain ⟨h1,h2,h3⟩:=Ey hb;dsimp only at h1 h2 h3;rw [Bool.not_true,AL,if_pos rfl];simp only [zero_add];unfold E0 Cb;dsimp only;have wr : ∀ {x:Int},0<=x->x<=100->i64.wrap (x+1)=x+1:=fun h h'=>An (by omega) (by omega)
  have at' : ∀ {v:List Int} {k:Nat} (hk:k<v.length),v.getD k 0=v[k]:=fun hk=>by simp [hk]
  by_cases q6:w0=6\/w0=7
  ·obtain ⟨a1,a2,a3⟩:=h1 q6;have k4:w4.toNat<u.length:=by omega
   have u4:=hu _ (getElem_mem k4);have k5:w5.toNat<(u.set w4.toNat (u[w4.toNat]+1)).length:=by rw [List.length_set]; omega
   have u5:=ET hu k4 ((u.set w4.toNat (u[w4.toNat]+1))[w5.toNat]) (by unfold Cb; rw [at' k4]; exact getElem_mem k5);rw [if_pos q6,Ag (dcT (by omega)),T2 (by omega),gtE k4,Am,T2 (by omega),Am,Ag (dcT (by omega)),T2 (by omega),wr (by omega) (by omega),gtE k5,Am,T2 (by omega),Am,wr (by omega) (by omega),at' k4,at' k5]
  ·rw [if_neg q6]
   by_cases q8:w0=8
   ·obtain ⟨a1,a2⟩:=h2 q8;have k4:w4.toNat<u.length:=by omega
    have u4:=hu _ (getElem_mem k4);rw [if_pos q8,Ag (dcT (by omega)),T2 (by omega),gtE k4,Am,T2 (by omega),Am,Ad (dcF (by omega)),wr (by omega) (by omega),at' k4]
   ·rw [if_neg q8,Ad (dcF (by omega)),Ad (dcF (by omega))]
theorem LR (n:Int) (l:List Wt) (hl:l.length<=20) : ∀ (j i:Nat) (u:List Int),i+j=l.length->u.length=l.length->(∀ x∈u,0<=x/\x<=2*(i:Int))->∀ ex d,(Br.br (wgo i (l.drop i) u).isSome (.leaf (.exit 0,([.j n,.ref 0 0 ((wgo i (l.drop i) u).getD []).length],[R0 (.int .i64) ((wgo i (l.drop i) u).getD [])]))) (.leaf (.ret,([.b false],[]))):Br (Ex×Dt)).run=some (ex,d)->
  Runs prog N3 (Aa [(6,G8),(16,Hb)]) 0 (body f51 0) G8 ([.j n,.ref 0 0 l.length,.sl WCd l,.j (l.length:Int),.j (i:Int)],[R0 (.int .i64) u]) ex d
 | 0,i,u,hi,hul,hu,ex,d,h=>by
  have hr:=J4 n l.length l l.length i u;rw [Ad (dcF (by omega))] at hr;rw [drop_eq_nil_of_le (by omega),wgo] at h;have h8:=AI (show (Br.leaf (.exit 0,([.j n,.ref 0 0 u.length],[R0 (.int .i64) u])):Br (Ex×Dt)).run=some (ex,d) from h);obtain ⟨rfl,rfl⟩:=Prod.mk.inj h8;rw [hul];exact stp hr
 | j+1,i,u,hi,hul,hu,ex,d,h=>by
  have hlt:i<l.length:=by omega
  have hr:=To n l i u hlt hul hl hu;rw [drop_eq_getElem_cons hlt,wgo] at h
  by_cases q:Bl l[i] (i:Int)=true
  ·rw [if_pos q] at hr h;obtain ⟨g1,g2⟩:=JP q (by omega) hu;exact sts hr (LR n l hl j (i+1) (E0 l[i] u) (by omega) (g1.trans hul) (by push_cast; exact g2) ex d h)
  ·rw [if_neg q] at hr h;have h8:=AI (show (Br.leaf (.ret,([.b false],[])):Br (Ex×Dt)).run=some (ex,d) from h);obtain ⟨rfl,rfl⟩:=Prod.mk.inj h8;exact stp hr
theorem LQ (m:Nat) (u:List Int) (hm:m<=u.length) (hu:u.length<=20) : ∀ (j i:Nat),i+j=m->∀ ex d,(Br.br (Fg ((u.take m).drop i)) (.leaf (.exit 2,([],[]))) (.leaf (.ret,([.b false],[]))):Br (Ex×Dt)).run=some (ex,d)->
  Runs prog N3 (Aa [(6,G8),(16,Hb)]) 0 (body f51 1) Hb ([.ref 0 0 m,.j (m:Int),.j (i:Int)],[R0 (.int .i64) u]) ex d
 | 0,i,hi,ex,d,h=>by
  have hr:=J3 m m i u;rw [Ad (dcF (by omega))] at hr;rw [drop_eq_nil_of_le (by simp; omega)] at h;have h8:=AI (show (Br.leaf (.exit 2,([],[])):Br (Ex×Dt)).run=some (ex,d) from h);obtain ⟨rfl,rfl⟩:=Prod.mk.inj h8;exact stp hr
 | j+1,i,hi,ex,d,h=>by
  have hM:=mxI;have hlt:i<u.length:=by omega
  have hr:=J3 m m i u;rw [Ag (dcT (by omega)),T2 (by omega),ntN,zero_add,gtE hlt,Am,Ax (n:=i) (by omega)] at hr
  have hd:(u.take m).drop i=u[i]::(u.take m).drop (i+1):=by
   rw [drop_eq_getElem_cons (by simp; omega)];simp
  have ec:Fg ((u.take m).drop i)=(u[i]==1&&Fg ((u.take m).drop (i+1))):=by rw [hd]; rfl
  rw [ec] at h
  by_cases q:u[i]=1
  ·rw [q] at hr h;rw [Ad (by rfl)] at hr;exact sts hr (LQ m u hm hu j (i+1) (by omega) ex d h)
  ·rw [Ag (by simpa using q)] at hr;rw [beq_false_of_ne q,Bool.false_and] at h;have h8:=AI (show (Br.leaf (.ret,([.b false],[])):Br (Ex×Dt)).run=some (ex,d) from h);obtain ⟨rfl,rfl⟩:=Prod.mk.inj h8;exact stp hr
theorem Wl:Ar prog N3 (Aa [(6,G8),(16,Hb)]) 0 (f51.body.getD .skip):=by
 refine LoopsI.loops (cs:=[body f51 0,body f51 1]) ?_ (by kernel_rfl);refine .cons (ent:=G8) (by rfl) (fun d ex d' h=>?_) (.cons (ent:=Hb) (by rfl) (fun d ex d' h=>?_) .nil)
 ·unfold G8 at h;dsimp only at h;split at h
  ·rename_i n m l k i u;obtain ⟨hc,hx⟩:=Ac h;clear h;obtain ⟨h0,h1,rfl,rfl,h4,h5,h6⟩:=of_decide_eq_true hc;obtain ⟨i,rfl⟩:=eq_ofNat_of_zero_le h0;simp only [ntN] at h1 hx;exact LR n l h5 (l.length-i) i u (by omega) h4 h6 ex d' hx
  ·cases h
 ·unfold Hb at h;dsimp only at h;split at h
  ·rename_i m k i u;obtain ⟨hc,hx⟩:=Ac h;clear h;obtain ⟨h0,h1,rfl,h4,h5⟩:=of_decide_eq_true hc;obtain ⟨i,rfl⟩:=eq_ofNat_of_zero_le h0;simp only [ntN] at h1 hx;exact LQ m u h4 h5 (m-i) i (by omega) ex d' hx
  ·cases h
theorem JL : ∀ (l:List Wt) (i:Nat) (u:List Int) {v:List Int},i+l.length<=u.length->(∀ x∈u,0<=x/\x<=2*(i:Int))->wgo i l u=some v->v.length=u.length
 | [],i,u,v,hl,hu,h=>by rw [wgo] at h; cases h; rfl
 | w::l,i,u,v,hl,hu,h=>by
  rw [wgo] at h;split at h
  ·rename_i q;rw [List.length_cons] at hl;obtain ⟨g1,g2⟩:=JP q (by omega) hu;rw [JL l (i+1) _ (by omega) (by push_cast; exact g2) h,g1]
  ·cases h
theorem M7:Ab prog 51 (Ent.rd1 CE).F:=by
 refine fcK (kc func100 LD (kc func101 VB KnowsL.nil)).knows (Λ:=(Aa [(6,G8),(16,Hb)])) func51 fun vs bs r hq=>?_
 unfold Ent.F CE at hq;dsimp only at hq;split at hq
 ·rename_i l;refine ⟨Wl,Eq.trans ?_ hq⟩;rw [Tn];unfold Au
  by_cases q:1<=l.length/\l.length<=20
  rotate_left
  ·rw [Ag (by rw [dcF (by omega)]; rfl),dcF q]; rfl
  have hz : ∀ x∈replicate l.length (0:Int),0<=x/\x<=2*((0:Nat):Int):=fun x hx=>by
   have:=List.eq_of_mem_replicate hx;omega
  have hz0 : ∀ x∈replicate l.length (0:Int),0<=x/\x<=0:=fun x hx=>by
   have:=List.eq_of_mem_replicate hx;omega
  have w1:i64.wrap ((l.length:Int)-1)=((l.length-1:Nat):Int):=by rw [An (by omega) (by omega)]; omega
  simp only [ntN,drop_zero,w1,Nat.sub_zero,AG];rw [dcT q,Ad (by rw [dcT (by omega)]; rfl),Ae (by simp only [anE,dcE]; omega),Ae (dcT ⟨by omega,by omega,trivial,trivial,by simp,q.2,hz0⟩)]
  cases e:wgo 0 l (replicate l.length 0) with
  | none=>rfl
  | some u=>
   have hl:=JL l 0 _ (by simp) hz e;rw [List.length_replicate] at hl;simp only [Option.isSome_some,Option.getD_some,Be];rw [Ae (by simp only [anE,dcE]; omega),Ae (dcT ⟨by omega,by omega,by trivial,by rw [hl]; omega,by rw [hl]; omega⟩)];cases Fg (u.take (l.length-1))<;>rfl
 ·cases hq
end Go.Proofs.YtckmoiopjocapaaGreat.Den
