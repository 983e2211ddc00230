/- What functions of the program do, by the machine: Cur Cur2 Ex Base Sch1 Sch2 Sch3 Sch4 Sch5 Sch6 Sch7 Sch8 Sch9 Sch10 Sch11 Sch12 Sch13. -/
import Derived.Test.YteninfkgajnfcaaGreatDen4
import Derived.KernelRfl
import Derived.Test.YteninfkgajnfcaaGreatRows
namespace Go.Proofs.YteninfkgajnfcaaGreat.Den
open IntKind (i64)
open Go.Proofs.Tryz
open List (all_eq_true append_assoc append_nil drop drop_eq_getElem_cons drop_eq_nil_of_le drop_zero getElem_mem mem_cons mem_map mem_range range take take_length)
open Int (eq_ofNat_of_zero_le ofNat toNat toNat_zero)
open Nat (lt_succ_self strongRecOn)
open Option (map_some)
open Bool (decide_and)
open Go.Proofs
set_option maxRecDepth 100000
@[match_pattern] abbrev LCd:Cd:=.pair (.int .i64) (.pair .str (.pair (.int .i64) (.pair .bool (.pair (.int .i64) .unit))))
@[match_pattern] abbrev TCd:Cd:=.pair (.int .i64) (.pair .str (.pair (.int .i64) (.pair .bool (.pair (.int .i64) (.pair (.int .i64) .unit)))))
@[match_pattern] abbrev NCd:Cd:=.pair (.int .i64) (.pair .str (.pair (.int .i64) (.pair (.int .i64) (.pair .bool .unit))))
@[match_pattern] abbrev VCd:Cd:=.pair (.int .i64) (.pair .str (.pair (.int .i64) (.pair .bool .unit)))
@[match_pattern] abbrev WCd:Cd:=.pair (.int .i64) (.pair (.int .i64) (.pair (.int .i64) (.pair .str (.pair (.int .i64) (.pair (.int .i64) .unit)))))
@[match_pattern] abbrev NTd:Cd:=.pair .str (.pair (.int .i64) (.pair .str .unit))
@[match_pattern] abbrev FCd:Cd:=.pair (.int .i64) (.pair (.int .i64) (.pair (.int .i64) (.pair .str .unit)))
@[match_pattern] abbrev PCd:Cd:=.pair FCd (.pair (.int .i64) .unit)
@[match_pattern] abbrev TPd:Cd:=.pair .str (.pair (.pair (.slice TCd) .unit) (.pair (.int .i64) .unit))
@[match_pattern] abbrev FNd:Cd:=.pair (.int .i64) (.pair .str (.pair (.pair (.slice WCd) .unit) (.pair (.pair (.slice TCd) .unit) (.pair (.slice NTd) (.pair (.int .i64) .unit)))))
abbrev V.j (n:Int):V:=.i .i64 n
abbrev Gm:=List V->List Blk->Br (V×List (Option Blk))
theorem dcT {p:Prop} [Decidable p] (h:p):decide p=true:=decide_eq_true h
theorem dcF {p:Prop} [Decidable p] (h : ¬p):decide p=false:=decide_eq_false h
theorem dcE {p:Prop} [Decidable p]:(decide p=true)=p:=decide_eq_true_eq
theorem anE (a b:Bool):((a&&b)=true)=(a=true/\b=true):=Bool.and_eq_true a b
theorem ntN (n:Nat):(n:Int).toNat=n:=Int.toNat_natCast n
theorem gtE {α:Type _} {l:List α} {i:Nat} (h:i<l.length):l[i]? = some l[i]:=List.getElem?_eq_getElem h
theorem kc {P:Program} {K:FuncId} {fn:Func} (hf:P.funcs[K]? = some fn) {e:Ent} {l:List (FuncId×Ent)} (h2:Ad P K e.F) (h:KnowsL P l) (hn:(fn.name == "runtime.NumGoroutine")=false:=by kernel_rfl) (hb:fn.body.isNone=false:=by kernel_rfl):KnowsL P ((K,e)::l):=.cons (Tc hf hn hb) h2 h
structure Cur where
 l:List Int
 a:Int
 s:Int
def Cur.byte (c:Cur):Int:=if c.a<c.l.length then i64.wrap (c.l.getD c.a.toNat 0) else 0
def Cur.seed (c:Cur):Int:=IntKind.u64.wrap (IntKind.u64.wrap (IntKind.u64.wrap (c.s*6364136223846793005)+IntKind.u64.wrap c.byte)+1442695040888963407)
def Cur.val (c:Cur):Int:=if c.a+1<=c.l.length then c.byte else i64.wrap (IntKind.u64.wrap (((BitVec.ofInt IntKind.u64.bits (c.seed.fdiv ((2:Int) ^ min 40 IntKind.u64.bits)) &&& BitVec.ofInt IntKind.u64.bits 255).toNat:Nat):Int))
def Cur.adv (c:Cur):Cur:=⟨c.l,c.a+1,c.seed⟩
def Cur.good (c:Cur) (n:Int):Prop:=(∀ z∈c.l,0<=z/\z<=255)/\0<=c.a/\c.a<=n
instance (c:Cur) (n:Int):Decidable (c.good n):=by unfold Cur.good; exact inferInstance
def Cur.pickV (c:Cur) (n:Int):Int:=if n<=1 then 0 else if n>200 then (c.val*256+c.adv.val).tmod n else c.val.tmod n
def Cur.pickC (c:Cur) (n:Int):Cur:=if n<=1 then c else if n>200 then c.adv.adv else c.adv
def NJ:Gm
 | [.ptr 0 0],[.box [.sl (.int .u8) l,.i .i64 a,.i .u64 s]]=>.need (decide ((Cur.mk l a s).good 1000000000)) (.leaf (.i .i64 (Cur.mk l a s).val,[some (.box [.sl (.int .u8) (Cur.mk l a s).adv.l,.i .i64 (Cur.mk l a s).adv.a,.i .u64 (Cur.mk l a s).adv.s])]))
 | _,_=>.no
theorem Cur.byte_range {c:Cur} {n:Int} (h:c.good n):0<=c.byte/\c.byte<=255:=by
 unfold Cur.byte
 split
 ·rename_i ha
  have h0:=h.2.1
  have hi:c.a.toNat<c.l.length:=by omega
  have hz:=h.1 _ (getElem_mem hi)
  have eg:c.l.getD c.a.toNat 0=c.l[c.a.toNat]:=by simp [hi]
  rw [eg,Ay (by omega) (by omega)]
  exact hz
 ·omega
theorem Cur.val_range {c:Cur} {n:Int} (h:c.good n):0<=c.val/\c.val<=255:=by
 unfold Cur.val
 split
 ·exact Cur.byte_range h
 ·generalize BitVec.ofInt IntKind.u64.bits (c.seed.fdiv ((2:Int) ^ min 40 IntKind.u64.bits))=x
  have hx:(x &&& BitVec.ofInt IntKind.u64.bits 255).toNat<=255:=by
   rw [BitVec.toNat_and]
   exact Nat.le_trans Nat.and_le_right (by decide)
  generalize (x &&& BitVec.ofInt IntKind.u64.bits 255).toNat=m at hx
  have e1:IntKind.u64.wrap (m:Int)=(m:Int):=by
   unfold IntKind.wrap
   simp [IntKind.bits,IntKind.signed]
   omega
  rw [e1,Ay (by omega) (by omega)]
  omega
theorem Cur.adv_good {c:Cur} {n:Int} (h:c.good n):c.adv.good (n+1):=⟨h.1,by show 0<=c.a+1; have:=h.2.1; omega,by show c.a+1<=n+1; have:=h.2.2; omega⟩
theorem Cur.good_mono {c:Cur} {n m:Int} (h:c.good n) (hm:n<=m):c.good m:=⟨h.1,h.2.1,by have:=h.2.2; omega⟩
theorem Cur.pickC_good {c:Cur} {n k:Int} (h:c.good n):(c.pickC k).good (n+2):=by
 unfold Cur.pickC
 split
 ·exact Cur.good_mono h (by omega)
 ·split
  ·have:=Cur.adv_good (Cur.adv_good h)
   exact Cur.good_mono this (by omega)
  ·exact Cur.good_mono (Cur.adv_good h) (by omega)
theorem Cur.pickV_range {c:Cur} {n k:Int} (h:c.good n) (hk:1<=k):0<=c.pickV k/\c.pickV k<k:=by
 have h1:=Cur.val_range h
 have h2:=Cur.val_range (Cur.adv_good h)
 unfold Cur.pickV
 split
 ·omega
 ·split
  ·rw [Int.tmod_eq_emod_of_nonneg (by omega)]
   exact ⟨Int.emod_nonneg _ (by omega),Int.emod_lt_of_pos _ (by omega)⟩
  ·rw [Int.tmod_eq_emod_of_nonneg (by omega)]
   exact ⟨Int.emod_nonneg _ (by omega),Int.emod_lt_of_pos _ (by omega)⟩
theorem T2 (l:List Int) (a s:Int) (hc:(Cur.mk l a s).good 1000000000):AQ prog (Ab []) (Ab []) f148 [.ptr 0 0] [.box [.sl (.int .u8) l,.j a,.i .u64 s]]=(.leaf (.j (Cur.mk l a s).val,[some (.box [.sl (.int .u8) (Cur.mk l a s).adv.l,.j (Cur.mk l a s).adv.a,.i .u64 (Cur.mk l a s).adv.s])]):Br (V×List (Option Blk))).run:=by
 have e:AQ prog (Ab []) (Ab []) f148 [.ptr 0 0] [.box [.sl (.int .u8) l,.j a,.i .u64 s]] =
  ((ifB (decide (a<(↑l.length:Int))) (ifT (decide ((0:Int)<=a)&&decide (a<(↑l.length:Int))) (Ap l[a.toNat]? fun z=>ifB (decide (i64.wrap (a+(1 :
 Int))<=(↑l.length:Int))) (some (V.j (i64.wrap z),[some (Blk.box [V.sl (Cd.int .u8) l,V.j (i64.wrap (a+(1:Int))),V.i .u64
 (IntKind.u64.wrap (IntKind.u64.wrap (IntKind.u64.wrap (s*(6364136223846793005:Int))+IntKind.u64.wrap (i64.wrap z))+(1442695040888963407:Int)))])]))
 (some (V.j (i64.wrap (IntKind.u64.wrap (↑(BitVec.ofInt IntKind.u64.bits ((IntKind.u64.wrap (IntKind.u64.wrap (IntKind.u64.wrap (s*(6364136223846793005 :
 Int))+IntKind.u64.wrap (i64.wrap z))+(1442695040888963407:Int))).fdiv ((2:Int) ^ min 40 IntKind.u64.bits)) &&& BitVec.ofInt IntKind.u64.bits (255
 : Int)).toNat:Int))),[some (Blk.box [V.sl (Cd.int .u8) l,V.j (i64.wrap (a+(1:Int))),V.i .u64 (IntKind.u64.wrap (IntKind.u64.wrap (IntKind.u64.wrap
 (s*(6364136223846793005:Int))+IntKind.u64.wrap (i64.wrap z))+(1442695040888963407:Int)))])])))) (ifB (decide (i64.wrap (a+(1:Int))<=
 (↑l.length:Int))) (some (V.j 0,[some (Blk.box [V.sl (Cd.int .u8) l,V.j (i64.wrap (a+(1:Int))),V.i .u64 (IntKind.u64.wrap (IntKind.u64.wrap
 (IntKind.u64.wrap (s*(6364136223846793005:Int))+IntKind.u64.wrap (0:Int))+(1442695040888963407:Int)))])])) (some (V.j (i64.wrap (IntKind.u64.wrap
 (↑(BitVec.ofInt IntKind.u64.bits ((IntKind.u64.wrap (IntKind.u64.wrap (IntKind.u64.wrap (s*(6364136223846793005:Int))+IntKind.u64.wrap (0:Int)) +
 (1442695040888963407:Int))).fdiv ((2:Int) ^ min 40 IntKind.u64.bits)) &&& BitVec.ofInt IntKind.u64.bits (255:Int)).toNat:Int))),[some (Blk.box [V.sl
 (Cd.int .u8) l,V.j (i64.wrap (a+(1:Int))),V.i .u64 (IntKind.u64.wrap (IntKind.u64.wrap (IntKind.u64.wrap (s*(6364136223846793005:Int)) +
 IntKind.u64.wrap (0:Int))+(1442695040888963407:Int)))])])))):_):=by kernel_rfl
 rw [e]
 clear e
 have h0:=hc.2.1
 have h1:=hc.2.2
 dsimp only at h0 h1
 rw [Ay (n:=a+1) (by omega) (by omega)]
 by_cases q:a<(l.length:Int)
 ·have hi:a.toNat<l.length:=by omega
  have eb:(Cur.mk l a s).byte=i64.wrap l[a.toNat]:=by unfold Cur.byte; dsimp only; rw [if_pos q]; simp [hi]
  have q1:a+1<=(l.length:Int):=by omega
  rw [Af (dcT q),Aa (by simp only [anE,dcE]; omega),gtE hi,As,Af (dcT q1),<-eb]
  have ev:(Cur.mk l a s).val=(Cur.mk l a s).byte:=by unfold Cur.val; dsimp only; rw [if_pos q1]
  rw [ev]
  rfl
 ·have eb:(Cur.mk l a s).byte=0:=by unfold Cur.byte; dsimp only; rw [if_neg q]
  have q1 : ¬a+1<=(l.length:Int):=by omega
  rw [Ac (dcF q),Ac (dcF q1),<-eb]
  have ev:(Cur.mk l a s).val=i64.wrap (IntKind.u64.wrap (((BitVec.ofInt IntKind.u64.bits ((Cur.mk l a s).seed.fdiv ((2:Int) ^ min 40 IntKind.u64.bits)) &&& BitVec.ofInt IntKind.u64.bits 255).toNat:Nat):Int)):=by unfold Cur.val; dsimp only; rw [if_neg q1]
  rw [ev]
  rfl
theorem Ab5:Ad prog 148 (Ent.own NJ).F:=by
 refine Am KnowsL.nil.knows (Λ:=Ab []) func148 (c:=f148.body.getD .skip) (by kernel_rfl) fun vs bs r h hv hb=>?_
 unfold Ent.F NJ at h
 dsimp only at h
 split at h
 ·rename_i l a s
  obtain ⟨hc,h⟩:=Ae h
  exact ⟨Aq _,(T2 l a s (of_decide_eq_true hc)).trans h⟩
 ·cases h
def Bk:Gm
 | [.ptr 0 0,.i .i64 n],[.box [.sl (.int .u8) l,.i .i64 a,.i .u64 s]]=>.need (decide ((Cur.mk l a s).good 900000000)) (.leaf (.i .i64 ((Cur.mk l a s).pickV n),[some (.box [.sl (.int .u8) ((Cur.mk l a s).pickC n).l,.i .i64 ((Cur.mk l a s).pickC n).a,.i .u64 ((Cur.mk l a s).pickC n).s])]))
 | _,_=>.no
def C7:Gm
 | [.ptr 0 0,.i .i64 n],[.box [.sl (.int .u8) l,.i .i64 a,.i .u64 s]]=>.need (decide ((Cur.mk l a s).good 900000000)) (.leaf (.b ((Cur.mk l a s).pickV n==0),[some (.box [.sl (.int .u8) ((Cur.mk l a s).pickC n).l,.i .i64 ((Cur.mk l a s).pickC n).a,.i .u64 ((Cur.mk l a s).pickC n).s])]))
 | _,_=>.no
def Gv:Gm
 | [.ptr 0 0,.ref 1 p m],[.box [.sl (.int .u8) l,.i .i64 a,.i .u64 s],.row false nl (.int .i64) r]=>.need (decide ((Cur.mk l a s).good 900000000/\1<=m/\p+m<=r.length)) (.leaf (.i .i64 (r.getD (p+((Cur.mk l a s).pickV m).toNat) 0),[some (.box [.sl (.int .u8) ((Cur.mk l a s).pickC m).l,.i .i64 ((Cur.mk l a s).pickC m).a,.i .u64 ((Cur.mk l a s).pickC m).s]),some (.row false nl (.int .i64) r)]))
 | _,_=>.no
def LD:Gm
 | [.ptr 0 0,.ref 1 p m],[.box [.sl (.int .u8) l,.i .i64 a,.i .u64 s],.row false nl .str r]=>.need (decide ((Cur.mk l a s).good 900000000/\1<=m/\p+m<=r.length)) (.leaf (.s (r.getD (p+((Cur.mk l a s).pickV m).toNat) []),[some (.box [.sl (.int .u8) ((Cur.mk l a s).pickC m).l,.i .i64 ((Cur.mk l a s).pickC m).a,.i .u64 ((Cur.mk l a s).pickC m).s]),some (.row false nl .str r)]))
 | _,_=>.no
theorem T1 (n:Int) (l:List Int) (a s:Int) (hc:(Cur.mk l a s).good 900000000):AQ prog (Ab [(148,.own NJ)]) (Ab []) f103 [.ptr 0 0,.j n] [.box [.sl (.int .u8) l,.j a,.i .u64 s]]=(.leaf (.j ((Cur.mk l a s).pickV n),[some (.box [.sl (.int .u8) ((Cur.mk l a s).pickC n).l,.j ((Cur.mk l a s).pickC n).a,.i .u64 ((Cur.mk l a s).pickC n).s])]):Br (V×List (Option Blk))).run:=by
 have e:AQ prog (Ab [(148,.own NJ)]) (Ab []) f103 [.ptr 0 0,.j n] [.box [.sl (.int .u8) l,.j a,.i .u64 s]] =
  ((ifB (decide (n<=(1:Int))) (some (V.j 0,[some (Blk.box [V.sl (Cd.int .u8) l,V.j a,V.i .u64 s])])) (ifT (decide ((Cur.mk l a s).good (1000000000:Int)))
 (ifB (decide (n>(200:Int))) (ifT (decide ((Cur.mk l a s).adv.good (1000000000:Int))) (ifT (!decide (n=(0:Int))) (some (V.j ((i64.wrap
 (i64.wrap ((Cur.mk l a s).val*(256:Int))+(Cur.mk l a s).adv.val)).tmod n),[some (Blk.box [V.sl (Cd.int .u8) (Cur.mk l a s).adv.adv.l,V.j (Cur.mk l a
 s).adv.adv.a,V.i .u64 (Cur.mk l a s).adv.adv.s])])))) (ifT (!decide (n=(0:Int))) (some (V.j ((Cur.mk l a s).val.tmod n),[some (Blk.box [V.sl (Cd.int .u8)
 (Cur.mk l a s).adv.l,V.j (Cur.mk l a s).adv.a,V.i .u64 (Cur.mk l a s).adv.s])])))))):_):=by kernel_rfl
 rw [e]
 clear e
 have g0:(Cur.mk l a s).good 1000000000:=Cur.good_mono hc (by omega)
 have g1:(Cur.mk l a s).adv.good 1000000000:=Cur.good_mono (Cur.adv_good hc) (by omega)
 have r0:=Cur.val_range g0
 have r1:=Cur.val_range g1
 unfold Cur.pickV Cur.pickC
 try rw [show Cur.mk (Cur.mk l a s).adv.l (Cur.mk l a s).adv.a (Cur.mk l a s).adv.s=(Cur.mk l a s).adv from rfl]
 by_cases q:n<=1
 ·rw [Af (dcT q),if_pos q,if_pos q]; rfl
 ·rw [Ac (dcF q),Aa (dcT g0),if_neg q,if_neg q]
  by_cases q2:n>200
  ·rw [Af (dcT q2),Aa (dcT g1),Aa (by simp; omega),if_pos q2,if_pos q2,Ay (n:=(Cur.mk l a s).val*256) (by omega) (by omega),Ay (by omega) (by omega)]; rfl
  ·rw [Ac (dcF q2),Aa (by simp; omega),if_neg q2,if_neg q2]; rfl
theorem FX:Ad prog 103 (Ent.own Bk).F:=by
 refine Am (kc func148 Ab5 KnowsL.nil).knows (Λ:=Ab []) func103 (c:=f103.body.getD .skip) (by kernel_rfl) fun vs bs r h hv hb=>?_
 unfold Ent.F Bk at h
 dsimp only at h
 split at h
 ·rename_i n l a s
  obtain ⟨hc,h⟩:=Ae h
  exact ⟨Aq _,(T1 n l a s (of_decide_eq_true hc)).trans h⟩
 ·cases h
theorem Wm (n:Int) (l:List Int) (a s:Int) (hc:(Cur.mk l a s).good 900000000):AQ prog (Ab [(103,.own Bk)]) (Ab []) f53 [.ptr 0 0,.j n] [.box [.sl (.int .u8) l,.j a,.i .u64 s]]=(.leaf (.b ((Cur.mk l a s).pickV n==0),[some (.box [.sl (.int .u8) ((Cur.mk l a s).pickC n).l,.j ((Cur.mk l a s).pickC n).a,.i .u64 ((Cur.mk l a s).pickC n).s])]):Br (V×List (Option Blk))).run:=by
 have e:AQ prog (Ab [(103,.own Bk)]) (Ab []) f53 [.ptr 0 0,.j n] [.box [.sl (.int .u8) l,.j a,.i .u64 s]] =
  ((ifT (decide ((Cur.mk l a s).good (900000000:Int))) (some (V.b ((Cur.mk l a s).pickV n==(0:Int)),[some (Blk.box [V.sl (Cd.int .u8) ((Cur.mk l a s).pickC n).l,V.i
 .i64 ((Cur.mk l a s).pickC n).a,V.i .u64 ((Cur.mk l a s).pickC n).s])]))):_):=by kernel_rfl
 rw [e,Aa (dcT hc)]
 rfl
theorem QR:Ad prog 53 (Ent.own C7).F:=by
 refine Am (kc func103 FX KnowsL.nil).knows (Λ:=Ab []) func53 (c:=f53.body.getD .skip) (by kernel_rfl) fun vs bs r h hv hb=>?_
 unfold Ent.F C7 at h
 dsimp only at h
 split at h
 ·rename_i n l a s
  obtain ⟨hc,h⟩:=Ae h
  exact ⟨Aq _,(Wm n l a s (of_decide_eq_true hc)).trans h⟩
 ·cases h
theorem QU (p m:Nat) (l:List Int) (a s:Int) (nl:Option Bool) (r:List Int) (hc:(Cur.mk l a s).good 900000000/\1<=m/\p+m<=r.length):AQ prog (Ab [(103,.own Bk)]) (Ab []) f105 [.ptr 0 0,.ref 1 p m] [.box [.sl (.int .u8) l,.j a,.i .u64 s],.row false nl (.int .i64) r]=(.leaf (.j (r.getD (p+((Cur.mk l a s).pickV m).toNat) 0),[some (.box [.sl (.int .u8) ((Cur.mk l a s).pickC m).l,.j ((Cur.mk l a s).pickC m).a,.i .u64 ((Cur.mk l a s).pickC m).s]),some (.row false nl (.int .i64) r)]):Br (V×List (Option Blk))).run:=by
 have e:AQ prog (Ab [(103,.own Bk)]) (Ab []) f105 [.ptr 0 0,.ref 1 p m] [.box [.sl (.int .u8) l,.j a,.i .u64 s],.row false nl (.int .i64) r] =
  ((ifT (decide ((Cur.mk l a s).good (900000000:Int))) (ifT (decide ((0:Int)<=(Cur.mk l a s).pickV (↑m:Int))&&decide ((Cur.mk l a s).pickV (↑m:Int)<(↑m:Int)))
 (Ap r[p+((Cur.mk l a s).pickV (↑m:Int)).toNat]? fun z=>some (V.j z,[some (Blk.box [V.sl (Cd.int .u8) ((Cur.mk l a s).pickC (↑m:Int)).l,V.i .i64
 ((Cur.mk l a s).pickC (↑m:Int)).a,V.i .u64 ((Cur.mk l a s).pickC (↑m:Int)).s]),some (Blk.row false nl (Cd.int .i64) r)])))):_):=by kernel_rfl
 obtain ⟨h1,h2,h3⟩:=hc
 have hr:=Cur.pickV_range (k:=(m:Int)) h1 (by omega)
 have hi:p+((Cur.mk l a s).pickV m).toNat<r.length:=by omega
 have eg:r.getD (p+((Cur.mk l a s).pickV m).toNat) 0=r[p+((Cur.mk l a s).pickV m).toNat]:=by simp [hi]
 rw [e,Aa (dcT h1),Aa (by simp only [anE,dcE]; omega),gtE hi,As,eg]
 rfl
theorem Wn:Ad prog 105 (Ent.own Gv).F:=by
 refine Am (kc func103 FX KnowsL.nil).knows (Λ:=Ab []) func105 (c:=f105.body.getD .skip) (by kernel_rfl) fun vs bs r h hv hb=>?_
 unfold Ent.F Gv at h
 dsimp only at h
 split at h
 ·rename_i p m l a s nl r
  obtain ⟨hc,h⟩:=Ae h
  exact ⟨Aq _,(QU p m l a s nl r (of_decide_eq_true hc)).trans h⟩
 ·cases h
theorem Yl (p m:Nat) (l:List Int) (a s:Int) (nl:Option Bool) (r:List (List UInt8)) (hc:(Cur.mk l a s).good 900000000/\1<=m/\p+m<=r.length):AQ prog (Ab [(103,.own Bk)]) (Ab []) f106 [.ptr 0 0,.ref 1 p m] [.box [.sl (.int .u8) l,.j a,.i .u64 s],.row false nl .str r]=(.leaf (.s (r.getD (p+((Cur.mk l a s).pickV m).toNat) []),[some (.box [.sl (.int .u8) ((Cur.mk l a s).pickC m).l,.j ((Cur.mk l a s).pickC m).a,.i .u64 ((Cur.mk l a s).pickC m).s]),some (.row false nl .str r)]):Br (V×List (Option Blk))).run:=by
 have e:AQ prog (Ab [(103,.own Bk)]) (Ab []) f106 [.ptr 0 0,.ref 1 p m] [.box [.sl (.int .u8) l,.j a,.i .u64 s],.row false nl .str r] =
  ((ifT (decide ((Cur.mk l a s).good (900000000:Int))) (ifT (decide ((0:Int)<=(Cur.mk l a s).pickV (↑m:Int))&&decide ((Cur.mk l a s).pickV (↑m:Int)<(↑m:Int)))
 (Ap r[p+((Cur.mk l a s).pickV (↑m:Int)).toNat]? fun z=>some (V.s z,[some (Blk.box [V.sl (Cd.int .u8) ((Cur.mk l a s).pickC (↑m:Int)).l,V.j ((Cur.mk l a
 s).pickC (↑m:Int)).a,V.i .u64 ((Cur.mk l a s).pickC (↑m:Int)).s]),some (Blk.row false nl Cd.str r)])))):_):=by kernel_rfl
 obtain ⟨h1,h2,h3⟩:=hc
 have hr:=Cur.pickV_range (k:=(m:Int)) h1 (by omega)
 have hi:p+((Cur.mk l a s).pickV m).toNat<r.length:=by omega
 have eg:r.getD (p+((Cur.mk l a s).pickV m).toNat) []=r[p+((Cur.mk l a s).pickV m).toNat]:=by simp [hi]
 rw [e,Aa (dcT h1),Aa (by simp only [anE,dcE]; omega),gtE hi,As,eg]
 rfl
theorem cof:Ad prog 106 (Ent.own LD).F:=by
 refine Am (kc func103 FX KnowsL.nil).knows (Λ:=Ab []) func106 (c:=f106.body.getD .skip) (by kernel_rfl) fun vs bs r h hv hb=>?_
 unfold Ent.F LD at h
 dsimp only at h
 split at h
 ·rename_i p m l a s nl r
  obtain ⟨hc,h⟩:=Ae h
  exact ⟨Aq _,(Yl p m l a s nl r (of_decide_eq_true hc)).trans h⟩
 ·cases h
def shr {α β:Type} (a:α) (k:α->β):β:=k a
def Ex1 {β Y:Type} (t:Option β) (sh:Y->β) (Q:Y->Prop):Prop:=∃ y,t=some (sh y)/\Q y
def cB (c:Cur):Blk:=.box [.sl (.int .u8) c.l,.i .i64 c.a,.i .u64 c.s]
theorem BN (c:Cur):Blk.box [V.sl (Cd.int IntKind.u8) c.l,V.i i64 c.a,V.i IntKind.u64 c.s]=cB c:=rfl
theorem Ab7 (l:List Int) (a s:Int):Blk.box [V.sl (Cd.int IntKind.u8) l,V.i i64 a,V.i IntKind.u64 s]=cB (Cur.mk l a s):=rfl
theorem Cur.pk {c:Cur} {m k:Int} (h:c.good (m-2)):(c.pickC k).good m:=by
 have:=Cur.pickC_good (k:=k) h
 rwa [Int.sub_add_cancel] at this
theorem Ex1.sh {α β Y:Type} {a:α} {k:α->Option β} {sh:Y->β} {Q:Y->Prop} (h:Ex1 (k a) sh Q):Ex1 (shr a k) sh Q:=h
theorem Ex1.T {β Y:Type} {c:Bool} {x:Option β} {sh:Y->β} {Q:Y->Prop} (h:c=true) (k:Ex1 x sh Q):Ex1 (ifT c x) sh Q:=by subst h; exact k
theorem Ex1.B {β Y:Type} {c:Bool} {x y:Option β} {sh:Y->β} {Q:Y->Prop} (h1:c=true->Ex1 x sh Q) (h2:c=false->Ex1 y sh Q):Ex1 (ifB c x y) sh Q:=by
 cases c with
 | true=>exact h1 rfl
 | false=>exact h2 rfl
theorem Ex1.S {α β Y:Type} {o:Option α} {k:α->Option β} {sh:Y->β} {Q:Y->Prop} (h : ∃ z,o=some z) (hk : ∀ z,o=some z->Ex1 (k z) sh Q):Ex1 (Ap o k) sh Q:=by
 obtain ⟨z,rfl⟩:=h
 exact hk z rfl
theorem Ex1.L {β Y:Type} {b:β} {sh:Y->β} {Q:Y->Prop} (y:Y) (h:b=sh y) (q:Q y):Ex1 (some b) sh Q:=⟨y,by rw [h],q⟩
theorem Ex1.P {α β Y:Type} {a:α} {b:β} {sh:Y->α×β} {Q:Y->Prop} (y:Y) (h2:b=(sh y).2) (h1:a=(sh y).1) (q:Q y):Ex1 (some (a,b)) sh Q:=⟨y,by rw [h1,h2],q⟩
theorem Ex1.P3 {α β γ Y:Type} {a:α} {b:β} {c:γ} {sh:Y->α×β×γ} {Q:Y->Prop} (y:Y) (h3:c=(sh y).2.2) (h2:b=(sh y).2.1) (h1:a=(sh y).1) (q:Q y):Ex1 (some (a,b,c)) sh Q:=⟨y,by rw [h1,h2,h3],q⟩
theorem Ex1.c {Y:Type} {v:V} {c:Cur} {B:List (Option Blk)} {s1:Y×Cur->V} {s2:Y×Cur->List (Option Blk)} {Q:Y×Cur->Prop} (y:Y) (h2:B=s2 (y,c)) (h1:v=s1 (y,c)) (q:Q (y,c)):Ex1 (some (v,some (cB c)::B)) (fun y=>(s1 y,some (cB y.2)::s2 y)) Q:=⟨(y,c),by rw [h1,h2],q⟩
theorem Ex1.of {β Y:Type} {t t':Option β} {sh:Y->β} {Q:Y->Prop} (e:t=t') (k:Ex1 t' sh Q):Ex1 t sh Q:=by subst e; exact k
theorem Dw {X Y:Type} (y0:Y) {I:X->Prop} {R:X->Y->Prop} (h : ∀ x,I x->∃ y,R x y) : ∃ f:X->Y,∀ x,I x->R x (f x):=by
 classical
 exact ⟨fun x=>if hx:I x then (h x hx).choose else y0,fun x hx=>by simp only [dif_pos hx]; exact (h x hx).choose_spec⟩
theorem FK {ι:Type} (o0:ι) {P:Program} {Γ:FuncId->Option Ent} {Λ:ι->Nat->Option LoopEnt} {m:Nat} {a:Code} {ent:ι->LoopEnt} {X Y:Type} (H:X->Dt) (E:Y->Ex×Dt) (hE : ∀ y,(E y).1≠.normal) (I:X->Prop) (Q:X->Y->Prop) (μ:X->Nat)
  (hT : ∀ o x,I x->A0 P Γ (Λ o) m a (ent o) (H x)=A0 P Γ (Λ o0) m a (ent o0) (H x))
  (hr : ∀ x,I x->Ex1 (A0 P Γ (Λ o0) m a (ent o0) (H x)) E (Q x)\/Ex1 (A0 P Γ (Λ o0) m a (ent o0) (H x)) (fun x'=>(.normal,H x')) (fun x'=>I x'/\μ x'<μ x/\∀ y,Q x' y->Q x y)) :
  ∀ x,I x->∃ y,(∀ o,Runs P Γ (Λ o) m a (ent o) (H x) (E y).1 (E y).2)/\Q x y:=by
 have key : ∀ n x,μ x<=n->I x->∃ y,(∀ o,Runs P Γ (Λ o) m a (ent o) (H x) (E y).1 (E y).2)/\Q x y:=by
  intro n
  induction n with
  | zero=>
   intro x hx hI
   rcases hr x hI with ⟨y,h1,h2⟩ | ⟨x',h1,h2,h3,h4⟩
   ·exact ⟨y,fun o=>.stop _ _ _ ((hT o x hI).trans h1) (hE y),h2⟩
   ·omega
  | succ n ih=>
   intro x hx hI
   rcases hr x hI with ⟨y,h1,h2⟩ | ⟨x',h1,h2,h3,h4⟩
   ·exact ⟨y,fun o=>.stop _ _ _ ((hT o x hI).trans h1) (hE y),h2⟩
   ·obtain ⟨y,h5,h6⟩:=ih x' (by omega) h2
    exact ⟨y,fun o=>.step _ _ _ _ ((hT o x hI).trans h1) (h5 o),h4 y h6⟩
 exact fun x hI=>key (μ x) x (Nat.le_refl _) hI
theorem Y7 {α:Type} {l:List α} {i:Nat} (h:i<l.length) : ∃ z,l[i]? = some z:=⟨_,gtE h⟩
theorem WZ {α:Type} {c:Cur} {n:Int} {W:List α} (h:c.good n) (h1:1<=W.length):(c.pickV (W.length:Int)).toNat<W.length:=by
 have:=Cur.pickV_range (k:=(W.length:Int)) h (by omega)
 omega
theorem Zf {α:Type} {c:Cur} {n:Int} {W:List α} (h:c.good n) (h1:1<=W.length):(decide (0<=c.pickV (W.length:Int))&&decide (c.pickV (W.length:Int)<(W.length:Int)))=true:=by
 have:=Cur.pickV_range (k:=(W.length:Int)) h (by omega)
 simp only [anE,dcE]
 exact this
def AE:Gm
 | [.i .i64 a,.i .i64 b,.i .i64 c],[]=>.leaf (.b (decide (b<=a/\a<=c)),[])
 | _,_=>.no
theorem PN (a b c:Int):AQ prog (Ab []) (Ab []) f85 [.j a,.j b,.j c] []=(.leaf (.b (decide (b<=a/\a<=c)),[]):Br (V×List (Option Blk))).run:=by
 have e:AQ prog (Ab []) (Ab []) f85 [.j a,.j b,.j c] []=((ifB (decide (a>=b)) (some (V.b (decide (a<=c)),[])) (some (V.b false,[]))):_):=by kernel_rfl
 rw [e]
 clear e
 by_cases q1:a>=b<;>by_cases q2:a<=c<;>simp [q1,q2,Br.run]<;>omega
theorem EL:Ad prog 85 (Ent.rd1 AE).F:=by
 refine Am KnowsL.nil.knows (Λ:=Ab []) func85 (c:=f85.body.getD .skip) (by kernel_rfl) fun vs bs r' hq hv hb=>?_
 unfold Ent.F AE at hq
 dsimp only at hq
 split at hq
 ·rename_i a b c
  exact ⟨Aq _,(PN a b c).trans hq⟩
 ·cases hq
theorem Vc (a b c:Int):AQ prog (Ab []) (Ab []) f94 [.j a,.j b,.j c] []=(.leaf (.b (decide (b<=a/\a<=c)),[]):Br (V×List (Option Blk))).run:=by
 have e:AQ prog (Ab []) (Ab []) f94 [.j a,.j b,.j c] []=((ifB (decide (a>=b)) (some (V.b (decide (a<=c)),[])) (some (V.b false,[]))):_):=by kernel_rfl
 rw [e]
 clear e
 by_cases q1:a>=b<;>by_cases q2:a<=c<;>simp [q1,q2,Br.run]<;>omega
theorem OW:Ad prog 94 (Ent.rd1 AE).F:=by
 refine Am KnowsL.nil.knows (Λ:=Ab []) func94 (c:=f94.body.getD .skip) (by kernel_rfl) fun vs bs r' hq hv hb=>?_
 unfold Ent.F AE at hq
 dsimp only at hq
 split at hq
 ·rename_i a b c
  exact ⟨Aq _,(Vc a b c).trans hq⟩
 ·cases hq
abbrev Lab:=Int×List UInt8×Int×Bool×Int×Unit
abbrev Ty:=Int×List UInt8×Int×Bool×Int×Int×Unit
def Kp (b:UInt8):Bool:=decide (97<=b.toNat)&&decide (b.toNat<=122)
def FJ (s:List UInt8):Bool:=s.all Kp&&(decide (1<=s.length)&&decide (s.length<=10))
def Aw (k:Int):Bool:=k==4||k==5
def D1 (k:Int) (x:Lab):Bool:=if k=5 then FJ x.2.1&&(decide (1<=x.2.2.1)&&decide (x.2.2.1<=30)) else x.2.1==[]&&x.2.2.1==0&&!x.2.2.2.1
def Kk:Gm
 | [.s s],[]=>.need (decide (s.length<=maxI)) (.leaf (.b (FJ s),[]))
 | _,_=>.no
def HC:Gm
 | [.tp LCd z 0],[]=>.leaf (.b (Aw z.lab.1),[])
 | _,_=>.no
def EC:Gm
 | [.i .i64 k],[]=>.leaf (.b (Aw k),[])
 | _,_=>.no
def Na:Gm
 | [.tp LCd z 0,.i .i64 k],[]=>.need (decide (z.lab.2.1.length<=maxI)) (.leaf (.b (D1 k z.lab),[]))
 | _,_=>.no
def GY:LoopEnt:=⟨23,[0,5,6],[0],[2],fun
 | ([.s s,.i .i64 m,.i .i64 i],[])=>.need (decide (0<=i/\i.toNat<=s.length/\s.length<=maxI/\m=s.length)) (.br ((s.drop i.toNat).all Kp) (.leaf (.exit 0,([.s s],[]))) (.leaf (.ret,([.b false],[]))))
 | _=>.no⟩
def GI:LoopEnt:=⟨23,[0,3],[0],[2],fun
 | ([.s s,.i .i64 i],[])=>.need (decide (0<=i/\i.toNat<=s.length/\s.length<=maxI)) (.br ((s.drop i.toNat).all Kp) (.leaf (.exit 0,([.s s],[]))) (.leaf (.ret,([.b false],[]))))
 | _=>.no⟩
theorem IY (s:List UInt8) (m i:Int):A0 prog (Ab [(85,.rd1 AE)]) (Ab [(2,GY)]) 0 (body f184 0) GY ([.s s,.j m,.j i],[]) =
 ((ifB (decide (i<m)) (ifT (decide ((0:Int)<=i)) (Ap s[i.toNat]? fun z=>ifB (decide ((↑z.toNat:Int)<(97:Int))) (some (Ex.ret,[V.b false],[])) (ifT (decide
 ((0:Int)<=i)) (Ap s[i.toNat]? fun z=>ifB (decide ((↑z.toNat:Int)>(122:Int))) (some (Ex.ret,[V.b false],[])) (some (Ex.normal,[V.s s,V.j m,V.i
 .i64 (i64.wrap (i+(1:Int)))],[])))))) (some (Ex.exit 0,[V.s s],[]))):_):=by kernel_rfl
theorem Vq:A4 prog (Ab [(85,.rd1 AE)]) (Ab [(2,GY)]) 0 (f184.body.getD .skip):=by
 refine Ax (a:=body f184 0) (by kernel_rfl) fun d e d' h=>?_
 unfold GY at h
 dsimp only at h
 split at h
 ·rename_i s m i
  obtain ⟨hc,hx⟩:=Ae h
  clear h
  obtain ⟨h0,h1,h2,rfl⟩:=of_decide_eq_true hc
  obtain ⟨i,rfl⟩:=eq_ofNat_of_zero_le h0
  rw [ntN] at h1 hx
  refine Eb (l:=s) Kp (fun i=>([.s s,.j (↑s.length:Int),.j (i:Int)],[])) (ex:=(.exit 0,([.s s],[]))) (rt:=(.ret,([.b false],[]))) (by simp) (by simp) (fun i hi=>?_) ?_ (s.length-i) i (by omega) e d' hx
  ·have hr:=IY s s.length i
   rw [Af (dcT (by omega))] at hr
   simp only [ntN,gtE hi,As,A3 (n:=i) (by omega)] at hr
   refine hr.trans ?_
   have hb:=s[i].toNat_lt
   have hz:(0:Int)<=(i:Int):=by omega
   simp only [hz,decide_true,Dc]
   unfold Kp
   generalize s[i].toNat=b at *
   have c1:decide ((b:Int)<97) = !decide (97<=b):=by rw [<-decide_not]; exact decide_eq_decide.2 (by omega)
   have c2:decide ((b:Int)>122) = !decide (b<=122):=by rw [<-decide_not]; exact decide_eq_decide.2 (by omega)
   simp only [c1,c2]
   cases decide (97<=b)<;>cases decide (b<=122)<;>rfl
  ·have hr:=IY s s.length s.length
   rw [Ac (dcF (by omega))] at hr
   exact hr
 ·cases h
theorem SU (s:List UInt8) (hc:s.length<=maxI):AQ prog (Ab [(85,.rd1 AE)]) (Ab [(2,GY)]) f184 [.s s] []=some (.b (FJ s),[]):=by
 have e:AQ prog (Ab [(85,.rd1 AE)]) (Ab [(2,GY)]) f184 [.s s] []=((ifT (decide ((0:Int)<=(0:Int)/\0<=s.length/\s.length<=maxI/\(↑s.length:Int)=(↑s.length:Int))) (ifB ((drop 0 s).all Kp) (some (V.b
 (decide ((1:Int)<=(↑s.length:Int)/\(↑s.length:Int)<=(10:Int))),[])) (some (V.b false,[])))):_):=by kernel_rfl
 rw [e]
 clear e
 have hM:maxI=9223372036854775807:=rfl
 rw [Aa (dcT (by simp; try omega))]
 simp only [drop_zero]
 unfold FJ
 have d1:decide (1<=(s.length:Int)/\(s.length:Int)<=10)=(decide (1<=s.length)&&decide (s.length<=10)):=by
  rw [<-decide_and]; exact decide_eq_decide.2 (by omega)
 cases s.all Kp
 ·rfl
 ·rw [Bq,d1]; rfl
theorem Abp:Ad prog 184 (Ent.rd1 Kk).F:=by
 refine Am (kc func85 EL KnowsL.nil).knows (Λ:=(Ab [(2,GY)])) func184 (c:=f184.body.getD .skip) (by kernel_rfl) fun vs bs r hq hv hb=>?_
 unfold Ent.F Kk at hq
 dsimp only at hq
 split at hq
 ·rename_i s
  obtain ⟨hc,hx⟩:=Ae hq
  exact ⟨Vq,(SU s (of_decide_eq_true hc)).trans hx⟩
 ·cases hq
theorem IO (s:List UInt8) (i:Int):A0 prog (Ab [(94,.rd1 AE)]) (Ab [(2,GI)]) 0 (body f141 0) GI ([.s s,.j i],[]) =
 ((ifB (decide (i<(↑s.length:Int))) (ifT (decide ((0:Int)<=i)) (Ap s[i.toNat]? fun z=>ifB (decide ((↑z.toNat:Int)<(97:Int))) (some (Ex.ret,[V.b false],
 [])) (ifT (decide ((0:Int)<=i)) (Ap s[i.toNat]? fun z=>ifB (decide ((↑z.toNat:Int)>(122:Int))) (some (Ex.ret,[V.b false],[])) (some (Ex.normal,[V.s s,
 V.j (i64.wrap (i+(1:Int)))],[])))))) (some (Ex.exit 0,[V.s s],[]))):_):=by kernel_rfl
theorem Ug:A4 prog (Ab [(94,.rd1 AE)]) (Ab [(2,GI)]) 0 (f141.body.getD .skip):=by
 refine Ax (a:=body f141 0) (by kernel_rfl) fun d e d' h=>?_
 unfold GI at h
 dsimp only at h
 split at h
 ·rename_i s i
  obtain ⟨hc,hx⟩:=Ae h
  clear h
  obtain ⟨h0,h1,h2⟩:=of_decide_eq_true hc
  obtain ⟨i,rfl⟩:=eq_ofNat_of_zero_le h0
  rw [ntN] at h1 hx
  refine Eb (l:=s) Kp (fun i=>([.s s,.j (i:Int)],[])) (ex:=(.exit 0,([.s s],[]))) (rt:=(.ret,([.b false],[]))) (by simp) (by simp) (fun i hi=>?_) ?_ (s.length-i) i (by omega) e d' hx
  ·have hr:=IO s i
   rw [Af (dcT (by omega))] at hr
   simp only [ntN,gtE hi,As,A3 (n:=i) (by omega)] at hr
   refine hr.trans ?_
   have hb:=s[i].toNat_lt
   have hz:(0:Int)<=(i:Int):=by omega
   simp only [hz,decide_true,Dc]
   unfold Kp
   generalize s[i].toNat=b at *
   have c1:decide ((b:Int)<97) = !decide (97<=b):=by rw [<-decide_not]; exact decide_eq_decide.2 (by omega)
   have c2:decide ((b:Int)>122) = !decide (b<=122):=by rw [<-decide_not]; exact decide_eq_decide.2 (by omega)
   simp only [c1,c2]
   cases decide (97<=b)<;>cases decide (b<=122)<;>rfl
  ·have hr:=IO s s.length
   rw [Ac (dcF (by omega))] at hr
   exact hr
 ·cases h
theorem Sl (s:List UInt8) (hc:s.length<=maxI):AQ prog (Ab [(94,.rd1 AE)]) (Ab [(2,GI)]) f141 [.s s] []=some (.b (FJ s),[]):=by
 have e:AQ prog (Ab [(94,.rd1 AE)]) (Ab [(2,GI)]) f141 [.s s] []=((ifT (decide ((0:Int)<=(0:Int)/\0<=s.length/\s.length<=maxI)) (ifB ((drop 0 s).all Kp) (some (V.b (decide ((1:Int)<=(↑s.length:Int)/\
 (↑s.length:Int)<=(10:Int))),[])) (some (V.b false,[])))):_):=by kernel_rfl
 rw [e]
 clear e
 have hM:maxI=9223372036854775807:=rfl
 rw [Aa (dcT (by simp; try omega))]
 simp only [drop_zero]
 unfold FJ
 have d1:decide (1<=(s.length:Int)/\(s.length:Int)<=10)=(decide (1<=s.length)&&decide (s.length<=10)):=by
  rw [<-decide_and]; exact decide_eq_decide.2 (by omega)
 cases s.all Kp
 ·rfl
 ·rw [Bq,d1]; rfl
theorem Aay:Ad prog 141 (Ent.rd1 Kk).F:=by
 refine Am (kc func94 OW KnowsL.nil).knows (Λ:=(Ab [(2,GI)])) func141 (c:=f141.body.getD .skip) (by kernel_rfl) fun vs bs r hq hv hb=>?_
 unfold Ent.F Kk at hq
 dsimp only at hq
 split at hq
 ·rename_i s
  obtain ⟨hc,hx⟩:=Ae hq
  exact ⟨Ug,(Sl s (of_decide_eq_true hc)).trans hx⟩
 ·cases hq
theorem Q4 (z:Rose Lab):AQ prog (Ab []) (Ab []) f117 [.tp LCd z 0] []=(.leaf (.b (Aw z.lab.1),[]):Br (V×List (Option Blk))).run:=by
 have e:AQ prog (Ab []) (Ab []) f117 [.tp LCd z 0] []=((ifB (z.lab.fst==(4:Int)) (some (V.b true,[])) (some (V.b (z.lab.fst==(5:Int)),[]))):_):=by kernel_rfl
 rw [e]
 clear e
 unfold Aw
 cases z.lab.1==4<;>rfl
theorem Q5:Ad prog 117 (Ent.rd1 HC).F:=by
 refine Am KnowsL.nil.knows (Λ:=Ab []) func117 (c:=f117.body.getD .skip) (by kernel_rfl) fun vs bs r' hq hv hb=>?_
 unfold Ent.F HC at hq
 dsimp only at hq
 split at hq
 ·rename_i z
  exact ⟨Aq _,(Q4 z).trans hq⟩
 ·cases hq
theorem OU (k:Int):AQ prog (Ab []) (Ab []) f97 [.j k] []=(.leaf (.b (Aw k),[]):Br (V×List (Option Blk))).run:=by
 have e:AQ prog (Ab []) (Ab []) f97 [.j k] []=((ifB (k==(4:Int)) (some (V.b true,[])) (some (V.b (k==(5:Int)),[]))):_):=by kernel_rfl
 rw [e]
 clear e
 unfold Aw
 cases k==4<;>rfl
theorem J5:Ad prog 97 (Ent.rd1 EC).F:=by
 refine Am KnowsL.nil.knows (Λ:=Ab []) func97 (c:=f97.body.getD .skip) (by kernel_rfl) fun vs bs r' hq hv hb=>?_
 unfold Ent.F EC at hq
 dsimp only at hq
 split at hq
 ·rename_i k
  exact ⟨Aq _,(OU k).trans hq⟩
 ·cases hq
theorem Qi (z:Rose Lab) (k:Int) (hc:z.lab.2.1.length<=maxI):AQ prog (Ab [(184,.rd1 Kk),(85,.rd1 AE)]) (Ab []) f171 [.tp LCd z 0,.j k] []=some (.b (D1 k z.lab),[]):=by
 have e:AQ prog (Ab [(184,.rd1 Kk),(85,.rd1 AE)]) (Ab []) f171 [.tp LCd z 0,.j k] []=((ifB (k==(5:Int)) (ifT (decide (List.length z.lab.snd.fst<=maxI)) (ifB (FJ z.lab.snd.fst) (some (V.b (decide ((1:Int)<=z.lab.snd.snd.fst/\z.lab.snd.snd.fst<=
 (30:Int))),[])) (some (V.b false,[])))) (ifB (z.lab.snd.fst==Ag UInt8) (ifB (z.lab.snd.snd.fst==(0:Int)) (some (V.b !z.lab.snd.snd.snd.fst,[])) (some (V.b
 false,[]))) (some (V.b false,[])))):_):=by kernel_rfl
 rw [e]
 clear e
 rw [dcT hc]
 unfold D1
 have d1:decide (1<=z.lab.2.2.1/\z.lab.2.2.1<=30)=(decide (1<=z.lab.2.2.1)&&decide (z.lab.2.2.1<=30)):=decide_and ..
 by_cases q:k=5
 ·subst q
  rw [Af (by rfl),if_pos rfl,d1]
  cases FJ z.lab.2.1<;>rfl
 ·rw [Ac (beq_false_of_ne q),if_neg q]
  cases z.lab.2.1==[]<;>cases z.lab.2.2.1==0<;>rfl
theorem Zg:Ad prog 171 (Ent.rd1 Na).F:=by
 refine Am (kc func184 Abp (kc func85 EL KnowsL.nil)).knows (Λ:=Ab []) func171 (c:=f171.body.getD .skip) (by kernel_rfl) fun vs bs r hq hv hb=>?_
 unfold Ent.F Na at hq
 dsimp only at hq
 split at hq
 ·rename_i z k
  obtain ⟨hc,hx⟩:=Ae hq
  exact ⟨Aq _,(Qi z k (of_decide_eq_true hc)).trans hx⟩
 ·cases hq
def AY (l:List Ty) (i:Nat):Option Int:=(l[i]?).map fun x=>x.2.2.2.2.1
def A5 (l:List Ty) (i:Nat):Lab:=match l[i]? with | some x=>(x.1,x.2.1,x.2.2.1,x.2.2.2.1,x.2.2.2.2.2.1,()) | none=>(0,[],0,false,0,())
def AD (g:Nat->Rose Lab×Nat) (l:List Ty) (a:Nat):Nat->Nat->List (Rose Lab)->List (Rose Lab)×Nat
 | 0,e,ks=>(ks,e)
 | n+1,e,ks=>if AY l e=some (a:Int) then AD g l a n (g e).2 (ks++[(g e).1]) else (ks,e)
def kfr (l:List Ty):Nat->Nat->Rose Lab×Nat
 | 0,a=>(.node (A5 l a) [],a+1)
 | f+1,a=>
  let r:=bif Aw (A5 l a).1 then AD (kfr l f) l a l.length (a+1) [] else ([],a+1)
  (.node (A5 l a) r.1,r.2)
def kf (l:List Ty) (a:Nat):Rose Lab×Nat:=kfr l l.length a
def kfG (n:Nat):Gm
 | [.sl TCd l,.i .i64 a],[]=>.need (decide (0<=a/\a.toNat<l.length/\l.length<=4000000000/\l.length-a.toNat<=n)) (.leaf (.tup [.ptr 0 0,.i .i64 ((kf l a.toNat).2:Int)],[some (.box [.i .i64 (kf l a.toNat).1.lab.1,.s (kf l a.toNat).1.lab.2.1,.i .i64 (kf l a.toNat).1.lab.2.2.1,.b (kf l a.toNat).1.lab.2.2.2.1,.i .i64 (kf l a.toNat).1.lab.2.2.2.2.1,.ref 1 0 (kf l a.toNat).1.kids.length]),some (.row false none (.tree LCd) (kf l a.toNat).1.kids)]))
 | _,_=>.no
def Gl:Gm
 | [.sl TCd l,.i .i64 a],[]=>.need (decide (0<=a/\a.toNat<l.length/\l.length<=4000000000)) (.leaf (.tup [.ptr 0 0,.i .i64 ((kf l a.toNat).2:Int)],[some (.box [.i .i64 (kf l a.toNat).1.lab.1,.s (kf l a.toNat).1.lab.2.1,.i .i64 (kf l a.toNat).1.lab.2.2.1,.b (kf l a.toNat).1.lab.2.2.2.1,.i .i64 (kf l a.toNat).1.lab.2.2.2.2.1,.ref 1 0 (kf l a.toNat).1.kids.length]),some (.row false none (.tree LCd) (kf l a.toNat).1.kids)]))
 | _,_=>.no
def kfE (n:Nat):LoopEnt:=⟨65,[0,1,7,8],[7,8],[],fun
 | ([.sl TCd l,.i .i64 a,.ptr 0 0,.i .i64 e],[some (.box [.i .i64 x0,.s x1,.i .i64 x2,.b x3,.i .i64 x4,.ref 1 0 k]),some (.row false none (.tree LCd) ks)])=>.need (decide (0<=a/\a<e/\a.toNat<l.length/\e.toNat<=l.length/\l.length<=4000000000/\k=ks.length/\ks.length<=e.toNat/\l.length-a.toNat<=n+1)) (.leaf (.exit 0,([.ptr 0 0,.i .i64 ((bif Aw x0 then AD (kf l) l a.toNat l.length e.toNat ks else (ks,e.toNat)).2:Int)],[some (.box [.i .i64 x0,.s x1,.i .i64 x2,.b x3,.i .i64 x4,.ref 1 0 (bif Aw x0 then AD (kf l) l a.toNat l.length e.toNat ks else (ks,e.toNat)).1.length]),some (.row false none (.tree LCd) (bif Aw x0 then AD (kf l) l a.toNat l.length e.toNat ks else (ks,e.toNat)).1)])))
 | _=>.no⟩
abbrev Wz (n:Nat):FuncId->Option Ent:=Ab [(86,.rd1 (kfG n)),(117,.rd1 HC)]
theorem Vg (n:Nat) (l:List Ty) (a e:Int) (x0:Int) (x1:List UInt8) (x2:Int) (x3:Bool) (x4:Int) (k:Nat) (ks:List (Rose Lab)):A0 prog (Wz n) (Ab [(4,kfE n)]) 0 (body f86 0) (kfE n) ([.sl TCd l,.j a,.ptr 0 0,.j e],[some (.box [.j x0,.s x1,.j x2,.b x3,.j x4,.ref 1 0 k]),some (.row false none (.tree LCd) ks)]) =
 ((ifB (Aw (Rose.node (x0,x1,x2,x3,x4,()) (take k (drop 0 ks))).lab.fst) (ifB (decide (e<(↑l.length:Int))) (ifT (decide ((0:Int)<=e)&&
 decide (e<(↑l.length:Int))) (Ap l[e.toNat]? fun z=>ifB (z.snd.snd.snd.snd.fst==a) (ifT (decide ((0:Int)<=e/\e.toNat<l.length/\l.length<=(4000000000 :
 Nat)/\l.length-e.toNat<=n)) (ifT (decide ((k+1)*8<=140737488355328)&&decide (k+1<=maxI)) (some (Ex.normal,[V.sl TCd l,V.i
 .i64 a,V.ptr 0 0,V.j (↑(kf l e.toNat).snd:Int)],[some (Blk.box [V.j x0,V.s x1,V.j x2,V.b x3,V.j x4,V.ref 1 0 (k+1)]),some
 (Blk.row false none LCd.tree (take k (drop 0 ks)++Rose.node ((kf l e.toNat).fst.lab.fst,(kf l e.toNat).fst.lab.snd.fst,(kf l
 e.toNat).fst.lab.snd.snd.fst,(kf l e.toNat).fst.lab.snd.snd.snd.fst,(kf l e.toNat).fst.lab.snd.snd.snd.snd.fst,()) (take (kf l e.toNat).fst.kids.length (drop
 0 (kf l e.toNat).fst.kids))::Ag LCd.tree.den))])))) (some (Ex.exit 0,[V.ptr 0 0,V.j e],[some (Blk.box [V.j x0,V.s x1,V.j x2,V.b x3,V.i
 .i64 x4,V.ref 1 0 k]),some (Blk.row false none LCd.tree ks)])))) (some (Ex.exit 0,[V.ptr 0 0,V.j e],[some (Blk.box [V.j x0,V.s x1,V.j x2,V.b x3,
 V.j x4,V.ref 1 0 k]),some (Blk.row false none LCd.tree ks)]))) (some (Ex.exit 0,[V.ptr 0 0,V.j e],[some (Blk.box [V.j x0,V.s x1,V.j x2,V.b x3,
 V.j x4,V.ref 1 0 k]),some (Blk.row false none LCd.tree ks)]))):_):=by kernel_rfl
theorem Xu (n:Nat) (l:List Ty) (a:Int):CR prog (Wz n) (Ab [(4,kfE n)]) f86 [.sl TCd l,.j a] [] =
 ((ifT (decide ((0:Int)<=a)&&decide (a<(↑l.length:Int))) (Ap l[a.toNat]? fun z=>ifT (decide ((0:Int)<=a/\a<i64.wrap (a+(1:Int))/\a.toNat <
 l.length/\(i64.wrap (a+(1:Int))).toNat<=l.length/\l.length<=4000000000/\0=0/\0<=(i64.wrap (a+(1 :
 Int))).toNat/\l.length-a.toNat<=n+1)) (some (V.tup [V.ptr 0 0,V.j (↑(bif Aw z.fst then AD (kf l) l a.toNat l.length (i64.wrap (a+(1 :
 Int))).toNat (Ag LCd.tree.den) else (Ag LCd.tree.den,(i64.wrap (a+(1:Int))).toNat)).snd:Int)],[some (Blk.box [V.j z.fst,V.s z.snd.fst,V.i .i64
 z.snd.snd.fst,V.b z.snd.snd.snd.fst,V.j z.snd.snd.snd.snd.snd.fst,V.ref 1 0 (bif Aw z.fst then AD (kf l) l a.toNat l.length (i64.wrap (a+(1 :
 Int))).toNat (Ag LCd.tree.den) else (Ag LCd.tree.den,(i64.wrap (a+(1:Int))).toNat)).fst.length]),some (Blk.row false none LCd.tree (bif Aw z.fst
 then AD (kf l) l a.toNat l.length (i64.wrap (a+(1:Int))).toNat (Ag LCd.tree.den) else (Ag LCd.tree.den,(i64.wrap (a+(1 :
 Int))).toNat)).fst)])))):_):=by kernel_rfl
theorem DX {l:List Ty} {e:Nat} {a:Int} (h:AY l e=some a):e<l.length:=by
 unfold AY at h
 obtain ⟨x,h1,_⟩:=Option.map_eq_some_iff.1 h
 exact (List.getElem?_eq_some_iff.1 h1).1
theorem Db (z:Rose Lab):Rose.node (z.lab.1,z.lab.2.1,z.lab.2.2.1,z.lab.2.2.2.1,z.lab.2.2.2.2.1,()) (take z.kids.length (drop 0 z.kids))=z:=by
 obtain ⟨⟨_,_,_,_,_,⟨⟩⟩,ks⟩:=z
 simp [Rose.lab,Rose.kids]
def K5 (l:List Ty) (g:Nat->Rose Lab×Nat):Prop:=∀ e,e<l.length->e<(g e).2/\(g e).2<=l.length
theorem Gj {l:List Ty} {g:Nat->Rose Lab×Nat} {a:Nat} (hg:K5 l g) : ∀ (n e:Nat) (ks:List (Rose Lab)),e<=l.length->e<=(AD g l a n e ks).2/\(AD g l a n e ks).2<=l.length
 | 0,e,ks,h=>⟨Nat.le_refl _,h⟩
 | n+1,e,ks,h=>by
  unfold AD
  split
  ·rename_i hu
   obtain ⟨h1,h2⟩:=hg e (DX hu)
   obtain ⟨h3,h4⟩:=Gj hg n (g e).2 (ks++[(g e).1]) h2
   exact ⟨by omega,h4⟩
  ·exact ⟨Nat.le_refl _,h⟩
theorem J6 (l:List Ty) : ∀ f,K5 l (kfr l f)
 | 0,a,h=>⟨lt_succ_self _,h⟩
 | f+1,a,h=>by
  unfold kfr
  dsimp only
  cases Aw (A5 l a).1 with
  | true=>
   obtain ⟨h3,h4⟩:=Gj (a:=a) (J6 l f) l.length (a+1) [] h
   exact ⟨by rw [cond_true]; omega,by rw [cond_true]; exact h4⟩
  | false=>exact ⟨lt_succ_self _,h⟩
theorem FQ {l:List Ty} {g g':Nat->Rose Lab×Nat} {a e0:Nat} (hg:K5 l g) (h : ∀ e,e0<=e->e<l.length->g e=g' e) : ∀ (n e:Nat) (ks:List (Rose Lab)),e0<=e->AD g l a n e ks=AD g' l a n e ks
 | 0,e,ks,_=>rfl
 | n+1,e,ks,he=>by
  unfold AD
  split
  ·rename_i hu
   have hl:=DX hu
   rw [<-h e he hl]
   exact FQ hg h n _ _ (by have:=(hg e hl).1; omega)
  ·rfl
theorem GX {l:List Ty} {g:Nat->Rose Lab×Nat} {a:Nat} (hg:K5 l g) : ∀ (n m e:Nat) (ks:List (Rose Lab)),l.length-e<=n->l.length-e<=m->AD g l a n e ks=AD g l a m e ks
 | 0,0,e,ks,_,_=>rfl
 | 0,m+1,e,ks,h,_=>by
  unfold AD
  split
  ·rename_i hu; have:=DX hu; omega
  ·rfl
 | n+1,0,e,ks,_,h=>by
  unfold AD
  split
  ·rename_i hu; have:=DX hu; omega
  ·rfl
 | n+1,m+1,e,ks,h1,h2=>by
  unfold AD
  split
  ·rename_i hu
   have hl:=DX hu
   have:=(hg e hl).1
   exact GX hg n m _ _ (by omega) (by omega)
  ·rfl
theorem Pb (l:List Ty) : ∀ (f f' a:Nat),l.length-a<=f->l.length-a<=f'->a<l.length->kfr l f a=kfr l f' a
 | 0,f',a,h1,_,h=>by omega
 | f+1,0,a,_,h1,h=>by omega
 | f+1,f'+1,a,h1,h2,h=>by
  unfold kfr
  dsimp only
  rw [FQ (J6 l f) (fun e he hl=>Pb l f f' e (by omega) (by omega) hl) l.length (a+1) [] (Nat.le_refl _)]
theorem Cx (l:List Ty):K5 l (kf l):=J6 l l.length
theorem Mt {l:List Ty} {a:Nat} (h:a<l.length):kf l a=(.node (A5 l a) (bif Aw (A5 l a).1 then AD (kf l) l a l.length (a+1) [] else ([],a+1)).1,(bif Aw (A5 l a).1 then AD (kf l) l a l.length (a+1) [] else ([],a+1)).2):=by
 obtain ⟨m,hm⟩ : ∃ m,l.length=m+1:=⟨l.length-1,by omega⟩
 have e1:AD (kfr l m) l a l.length (a+1) []=AD (kf l) l a l.length (a+1) []:=FQ (J6 l m) (fun e he hl=>Pb l m l.length e (by omega) (by omega) hl) l.length (a+1) [] (Nat.le_refl _)
 rw [<-e1]
 unfold kf
 conv=>lhs; rw [hm]
 rfl
theorem Q2 {l:List Ty} {a e:Nat} {ks:List (Rose Lab)} (h:AY l e=some (a:Int)):AD (kf l) l a l.length e ks=AD (kf l) l a l.length (kf l e).2 (ks++[(kf l e).1]):=by
 have hl:=DX h
 obtain ⟨m,hm⟩ : ∃ m,l.length=m+1:=⟨l.length-1,by omega⟩
 conv=>lhs; rw [hm]
 show (if AY l e=some (a:Int) then AD (kf l) l a m (kf l e).2 (ks++[(kf l e).1]) else (ks,e))=_
 rw [if_pos h]
 have:=(Cx l e hl).1
 exact GX (Cx l) m l.length _ _ (by omega) (by omega)
theorem Dp {l:List Ty} {a e n:Nat} {ks:List (Rose Lab)} (h:AY l e≠some (a:Int)):AD (kf l) l a n e ks=(ks,e):=by
 cases n with
 | zero=>rfl
 | succ n=>unfold AD; rw [if_neg h]
theorem Xv (n:Nat) (l:List Ty) (a:Nat) (x0:Int) (x1:List UInt8) (x2:Int) (x3:Bool) (x4:Int) (hal:a<l.length) (hl:l.length<=4000000000) (hn:l.length-a<=n+1) : ∀ (j e:Nat) (ks:List (Rose Lab)),e+j=l.length->a<e->ks.length<=e->
  Runs prog (Wz n) (Ab [(4,kfE n)]) 0 (body f86 0) (kfE n) ([.sl TCd l,.j (a:Int),.ptr 0 0,.j (e:Int)],[some (.box [.j x0,.s x1,.j x2,.b x3,.j x4,.ref 1 0 ks.length]),some (.row false none (.tree LCd) ks)]) (.exit 0) ([.ptr 0 0,.j ((bif Aw x0 then AD (kf l) l a l.length e ks else (ks,e)).2:Int)],[some (.box [.j x0,.s x1,.j x2,.b x3,.j x4,.ref 1 0 (bif Aw x0 then AD (kf l) l a l.length e ks else (ks,e)).1.length]),some (.row false none (.tree LCd) (bif Aw x0 then AD (kf l) l a l.length e ks else (ks,e)).1)]):=by
 intro j
 induction j using strongRecOn with
 | ind j ih=>
  intro e ks he hae hk
  have hM:maxI=9223372036854775807:=rfl
  have hr:=Vg n l a e x0 x1 x2 x3 x4 ks.length ks
  have hlab:(Rose.node (x0,x1,x2,x3,x4,()) (take ks.length (drop 0 ks)):Rose Lab).lab.1=x0:=rfl
  simp only [hlab] at hr
  cases hx:Aw x0 with
  | false=>
   rw [hx,Bd] at hr
   rw [cond_false]
   exact .stop _ _ _ hr (by simp)
  | true=>
   rw [hx,Bq] at hr
   rw [cond_true]
   by_cases h1:e<l.length
   ·rw [Af (dcT (by omega)),Aa (by simp only [anE,dcE]; omega)] at hr
    simp only [ntN,gtE h1,As,drop_zero,take_length] at hr
    by_cases h2:l[e].2.2.2.2.1=(a:Int)
    ·have hu:AY l e=some (a:Int):=by unfold AY; rw [gtE h1,map_some,h2]
     rw [Af (by rw [h2]; exact beq_self_eq_true _),Aa (dcT ⟨by omega,h1,hl,by omega⟩),Aa (by simp only [anE,dcE]; omega)] at hr
     obtain ⟨b1,b2⟩:=Cx l e h1
     rw [Q2 hu]
     have ht:=Db (kf l e).1
     rw [drop_zero,take_length] at ht
     rw [ht] at hr
     have hlen:(ks++[(kf l e).1]).length=ks.length+1:=by simp
     have ih2:=ih (l.length-(kf l e).2) (by omega) (kf l e).2 (ks++[(kf l e).1]) (by omega) (by omega) (by rw [hlen]; omega)
     simp only [hx,cond_true] at ih2
     refine .step _ _ _ _ (hr.trans ?_) ih2
     rw [hlen]
    ·have hu:AY l e≠some (a:Int):=by unfold AY; rw [gtE h1,map_some]; exact fun h=>h2 (Option.some.inj h)
     rw [Ac (beq_false_of_ne h2)] at hr
     rw [Dp hu]
     exact .stop _ _ _ hr (by simp)
   ·rw [Ac (dcF (by omega))] at hr
    rw [Dp (fun h=>h1 (DX h))]
    exact .stop _ _ _ hr (by simp)
theorem Abi (n:Nat):A4 prog (Wz n) (Ab [(4,kfE n)]) 0 (f86.body.getD .skip):=by
 refine Ax (a:=body f86 0) (by kernel_rfl) fun d ex d' h=>?_
 unfold kfE at h
 dsimp only at h
 split at h
 ·rename_i l a e x0 x1 x2 x3 x4 k ks
  obtain ⟨hc,hx⟩:=Ae h
  clear h
  obtain ⟨h0,h1,h2,h3,h4,rfl,h6,h7⟩:=of_decide_eq_true hc
  obtain ⟨a,rfl⟩:=eq_ofNat_of_zero_le h0
  obtain ⟨e,rfl⟩:=eq_ofNat_of_zero_le (by omega:0<=e)
  simp only [ntN] at h2 h3 h6 h7 hx
  have h8:=Ar hx
  obtain ⟨rfl,rfl⟩:=Prod.mk.inj h8
  exact Xv n l a x0 x1 x2 x3 x4 h2 h4 h7 (l.length-e) e ks (by omega) (by omega) h6
 ·cases h
theorem ZC (n:Nat) (l:List Ty) (a:Int) (hc:0<=a/\a.toNat<l.length/\l.length<=4000000000/\l.length-a.toNat<=n+1):CR prog (Wz n) (Ab [(4,kfE n)]) f86 [.sl TCd l,.j a] []=some (.tup [.ptr 0 0,.j ((kf l a.toNat).2:Int)],[some (.box [.j (kf l a.toNat).1.lab.1,.s (kf l a.toNat).1.lab.2.1,.j (kf l a.toNat).1.lab.2.2.1,.b (kf l a.toNat).1.lab.2.2.2.1,.j (kf l a.toNat).1.lab.2.2.2.2.1,.ref 1 0 (kf l a.toNat).1.kids.length]),some (.row false none (.tree LCd) (kf l a.toNat).1.kids)]):=by
 rw [Xu]
 obtain ⟨h0,h1,h2,h3⟩:=hc
 obtain ⟨a,rfl⟩:=eq_ofNat_of_zero_le h0
 rw [ntN] at h1 h3
 have hM:maxI=9223372036854775807:=rfl
 have hw:i64.wrap ((a:Int)+1)=((a+1:Nat):Int):=A3 (by omega)
 rw [Aa (by simp only [anE,dcE]; omega)]
 simp only [ntN,gtE h1,As,hw]
 rw [Aa (dcT ⟨by omega,by omega,h1,by omega,h2,trivial,by omega,by omega⟩)]
 have hk:=Mt h1
 have hlab:A5 l a=(l[a].1,l[a].2.1,l[a].2.2.1,l[a].2.2.2.1,l[a].2.2.2.2.2.1,()):=by unfold A5; rw [gtE h1]
 rw [hk,hlab]
 rfl
theorem ZD : ∀ n,(∀ m,m<n->Ad prog 86 (Ent.rd1 (kfG m)).F)->Ad prog 86 (Ent.rd1 (kfG n)).F
 | 0,_=>AX fun vs bs=>by
  unfold Ent.F kfG
  dsimp only
  split
  ·rename_i l a
   have:decide (0<=a/\a.toNat<l.length/\l.length<=4000000000/\l.length-a.toNat<=0)=false:=dcF (by omega)
   rw [this]; rfl
  ·rfl
 | n+1,ih=>by
  refine AU (kc func86 (ih n (lt_succ_self n)) (kc func117 Q5 KnowsL.nil)).knows (Λ:=(Ab [(4,kfE n)])) func86 (c:=f86.body.getD .skip) (by kernel_rfl) fun vs bs r hq hv hb=>?_
  unfold Ent.F kfG at hq
  dsimp only at hq
  split at hq
  ·rename_i l a
   obtain ⟨hc,hx⟩:=Ae hq
   exact ⟨Abi n,(ZC n l a (of_decide_eq_true hc)).trans hx⟩
  ·cases hq
theorem Vf:Ad prog 86 (Ent.rd1 Gl).F:=by
 refine Bb (F:=fun n=>(Ent.rd1 (kfG n)).F) ZD fun vs bs r h=>?_
 unfold Ent.F Gl at h
 dsimp only at h
 split at h
 ·rename_i l a
  obtain ⟨hc,hx⟩:=Ae h
  obtain ⟨h0,h1,h2⟩:=of_decide_eq_true hc
  refine ⟨l.length,?_⟩
  unfold Ent.F kfG
  dsimp only
  have:decide (0<=a/\a.toNat<l.length/\l.length<=4000000000/\l.length-a.toNat<=l.length)=true:=dcT ⟨h0,h1,h2,by omega⟩
  rw [this]
  exact hx
 ·cases h
mutual
def Ao:Rose Lab->Nat
 | .node _ ks=>Ak ks+1
def Ak:List (Rose Lab)->Nat
 | []=>0
 | z::l=>Ao z+Ak l
end
mutual
def BA:Rose Lab->Nat
 | .node x ks=>BL ks+(bif Aw x.1 then 1 else 0)
def BL:List (Rose Lab)->Nat
 | []=>0
 | z::l=>max (BA z) (BL l)
end
def Dx (n:Nat):Gm
 | [.tp LCd z 0],[]=>.need (decide (Ao z<=n/\Ao z<=1000000)) (.leaf (.i .i64 (Ao z:Int),[]))
 | _,_=>.no
def Ny:Gm
 | [.tp LCd z 0],[]=>.need (decide (Ao z<=1000000)) (.leaf (.i .i64 (Ao z:Int),[]))
 | _,_=>.no
def DJ (n:Nat):LoopEnt:=⟨21,[3,9,10,11],[3],[],fun
 | ([.i .i64 m,.sl (.tree LCd) ks,.i .i64 k,.i .i64 i],[])=>.need (decide (0<=m/\m<=1000001/\0<=i/\i.toNat<=ks.length/\k=ks.length/\Ak ks<=n/\Ak ks<=1000000/\m.toNat+Ak (ks.drop i.toNat)<=1000001)) (.leaf (.exit 0,([.i .i64 ((m.toNat+Ak (ks.drop i.toNat):Nat):Int)],[])))
 | _=>.no⟩
def Iu (n:Nat):Gm
 | [.tp LCd z 0],[]=>.need (decide (Ao z<=n/\Ao z<=1000000)) (.leaf (.i .i64 (BA z:Int),[]))
 | _,_=>.no
def Q8:Gm
 | [.tp LCd z 0],[]=>.need (decide (Ao z<=1000000)) (.leaf (.i .i64 (BA z:Int),[]))
 | _,_=>.no
def Fa (n:Nat):LoopEnt:=⟨25,[0,3,9,10,11],[0,3],[],fun
 | ([.tp LCd y 0,.i .i64 m,.sl (.tree LCd) ks,.i .i64 k,.i .i64 i],[])=>.need (decide (0<=m/\m<=1000001/\0<=i/\i.toNat<=ks.length/\k=ks.length/\Ak ks<=n/\Ak ks<=1000000)) (.leaf (.exit 0,([.tp LCd y 0,.i .i64 ((max m.toNat (BL (ks.drop i.toNat)):Nat):Int)],[])))
 | _=>.no⟩
theorem BB {z:Rose Lab} : ∀ {l:List (Rose Lab)},z∈l->Ao z<=Ak l
 | [],h=>by cases h
 | y::l,h=>by
  rw [Ak]
  rcases mem_cons.1 h with rfl | h
  ·omega
  ·have:=BB h; omega
theorem BX (z:Rose Lab):1<=Ao z:=by cases z; rw [Ao]; omega
theorem Bz : ∀ (l:List (Rose Lab)),l.length<=Ak l
 | []=>Nat.le_refl _
 | z::l=>by have:=Bz l; have:=BX z; rw [Ak,List.length_cons]; omega
theorem Be (z:Rose Lab):Ao z=Ak z.kids+1:=by cases z; rw [Ao]; rfl
mutual
theorem HT : ∀ z:Rose Lab,BA z<=Ao z
 | .node x ks=>by rw [BA,Ao]; have:=Gr ks; cases Aw x.1<;>simp<;>omega
theorem Gr : ∀ l:List (Rose Lab),BL l<=Ak l
 | []=>Nat.le_refl _
 | z::l=>by rw [BL,Ak]; have:=HT z; have:=Gr l; omega
end
theorem HD (n:Nat) (m:Int) (ks:List (Rose Lab)) (k i:Int):A0 prog (Ab [(135,.rd1 (Dx n))]) (Ab [(3,DJ n)]) 0 (body f135 0) (DJ n) ([.j m,.sl (.tree LCd) ks,.j k,.j i],[]) =
 ((ifB (decide (i<k)) (ifT (decide ((0:Int)<=i)&&decide (i<(↑ks.length:Int))) (Ap ks[i.toNat]? fun z=>ifT (decide (Ao z<=n/\Ao z<=1000000))
 (some (Ex.normal,[V.j (i64.wrap (m+(↑(Ao z):Int))),V.sl LCd.tree ks,V.j k,V.j (i64.wrap (i+(1:Int)))],[])))) (some (Ex.exit
 0,[V.j m],[]))):_):=by kernel_rfl
theorem Pc (n:Nat) (z:Rose Lab):AQ prog (Ab [(135,.rd1 (Dx n))]) (Ab [(3,DJ n)]) f135 [.tp LCd z 0] [] =
 ((ifT (decide ((0:Int)<=(1:Int)/\(1:Int)<=(1000001:Int)/\(0:Int)<=(0:Int)/\0<=z.kids.length/\(↑z.kids.length:Int)=(↑z.kids.length:Int)/\
 Ak z.kids<=n/\Ak z.kids<=1000000/\1+Ak (drop 0 z.kids)<=1000001)) (some (V.j (↑(1+Ak (drop (0 :
 Nat) z.kids)):Int),[]))):_):=by kernel_rfl
theorem IX (n:Nat) (ks:List (Rose Lab)) (h1:Ak ks<=n) (h2:Ak ks<=1000000) : ∀ (j i m:Nat),i+j=ks.length->m<=1000001->m+Ak (ks.drop i)<=1000001->
  Runs prog (Ab [(135,.rd1 (Dx n))]) (Ab [(3,DJ n)]) 0 (body f135 0) (DJ n) ([.j (m:Int),.sl (.tree LCd) ks,.j (ks.length:Int),.j (i:Int)],[]) (.exit 0) ([.j ((m+Ak (ks.drop i):Nat):Int)],[])
 | 0,i,m,hi,hm,hs=>by
  have hr:=HD n m ks ks.length i
  rw [Ac (dcF (by omega))] at hr
  have e1:ks.drop i=[]:=drop_eq_nil_of_le (by omega)
  rw [e1,Ak]
  exact .stop _ _ _ (hr.trans (by simp)) (by simp)
 | j+1,i,m,hi,hm,hs=>by
  have hl:i<ks.length:=by omega
  have hM:maxI=9223372036854775807:=rfl
  have hr:=HD n m ks ks.length i
  have hmem:=BB (getElem_mem hl)
  have hlen:=Bz ks
  have hdm:=HT ks[i]
  rw [Af (dcT (by omega)),Aa (by simp only [anE,dcE]; omega)] at hr
  simp only [ntN,gtE hl,As,A3 (n:=i) (by omega)] at hr
  rw [Aa (dcT ⟨by omega,by omega⟩)] at hr
  rw [drop_eq_getElem_cons hl,Ak]
  rw [drop_eq_getElem_cons hl,Ak] at hs
  have hx:i64.wrap ((m:Int)+(Ao ks[i]:Int))=((m+Ao ks[i]:Nat):Int):=by rw [Ay (by omega) (by omega)]; omega
  have ih:=IX n ks h1 h2 j (i+1) (m+Ao ks[i]) (by omega) (by omega) (by omega)
  rw [<-Nat.add_assoc]
  exact .step _ _ _ _ (hr.trans (by rw [hx])) ih
theorem SS (n:Nat):A4 prog (Ab [(135,.rd1 (Dx n))]) (Ab [(3,DJ n)]) 0 (f135.body.getD .skip):=by
 refine Ax (a:=body f135 0) (by kernel_rfl) fun d ex d' h=>?_
 unfold DJ at h
 dsimp only at h
 split at h
 ·rename_i m ks k i
  obtain ⟨hc,hx⟩:=Ae h
  clear h
  obtain ⟨h0,h1,h2,h3,rfl,h5,h6,h7⟩:=of_decide_eq_true hc
  obtain ⟨m,rfl⟩:=eq_ofNat_of_zero_le h0
  obtain ⟨i,rfl⟩:=eq_ofNat_of_zero_le h2
  simp only [ntN] at h3 hx h7
  have h8:=Ar hx
  obtain ⟨rfl,rfl⟩:=Prod.mk.inj h8
  exact IX n ks h5 h6 (ks.length-i) i m (by omega) (by omega) h7
 ·cases h
theorem Q9 (n:Nat) (z:Rose Lab) (hc:Ao z<=n+1/\Ao z<=1000000):AQ prog (Ab [(135,.rd1 (Dx n))]) (Ab [(3,DJ n)]) f135 [.tp LCd z 0] []=some (.j (Ao z:Int),[]):=by
 rw [Pc]
 obtain ⟨x,ks⟩:=z
 obtain ⟨h1,h2⟩:=hc
 rw [Ao] at h1 h2
 have hd:drop (toNat 0) ks=ks:=rfl
 simp only [Rose.kids] at *
 rw [Aa (dcT (by refine ⟨by omega,by omega,by omega,by simp,by trivial,by omega,by omega,?_⟩; simp; omega))]
 rw [Ao]
 simp only [drop_zero]
 rw [Nat.add_comm]
theorem QA : ∀ n,(∀ m,m<n->Ad prog 135 (Ent.rd1 (Dx m)).F)->Ad prog 135 (Ent.rd1 (Dx n)).F
 | 0,_=>AX fun vs bs=>by
  unfold Ent.F Dx
  dsimp only
  split
  ·rename_i z
   have:=BX z
   have:decide (Ao z<=0/\Ao z<=1000000)=false:=dcF (by omega)
   rw [this]; rfl
  ·rfl
 | n+1,ih=>by
  refine Am (kc func135 (ih n (lt_succ_self n)) KnowsL.nil).knows (Λ:=(Ab [(3,DJ n)])) func135 (c:=f135.body.getD .skip) (by kernel_rfl) fun vs bs r hq hv hb=>?_
  unfold Ent.F Dx at hq
  dsimp only at hq
  split at hq
  ·rename_i z
   obtain ⟨hc,hx⟩:=Ae hq
   exact ⟨SS n,(Q9 n z (of_decide_eq_true hc)).trans hx⟩
  ·cases hq
theorem ZE:Ad prog 135 (Ent.rd1 Ny).F:=by
 refine Bb (F:=fun n=>(Ent.rd1 (Dx n)).F) QA fun vs bs r h=>?_
 unfold Ent.F Ny at h
 dsimp only at h
 split at h
 ·rename_i z
  obtain ⟨hc,hx⟩:=Ae h
  have hc:=of_decide_eq_true hc
  refine ⟨1000000,?_⟩
  show (Br.need (decide (Ao z<=1000000/\Ao z<=1000000)) (.leaf (.j (Ao z:Int),[]))).run=some r
  rw [dcT (show Ao z<=1000000/\Ao z<=1000000 from ⟨hc,hc⟩)]
  exact hx
 ·cases h
abbrev Wy (n:Nat):FuncId->Option Ent:=Ab [(134,.rd1 (Iu n)),(117,.rd1 HC)]
theorem IW (n:Nat) (y:Rose Lab) (m:Int) (ks:List (Rose Lab)) (k i:Int):A0 prog (Wy n) (Ab [(3,Fa n)]) 0 (body f134 0) (Fa n) ([.tp LCd y 0,.j m,.sl (.tree LCd) ks,.j k,.j i],[]) =
 ((ifB (decide (i<k)) (ifT (decide ((0:Int)<=i)&&decide (i<(↑ks.length:Int))) (Ap ks[i.toNat]? fun z=>ifT (decide (Ao z<=n/\Ao z<=1000000))
 (some (Ex.normal,[V.tp LCd y 0,V.j (if (↑(BA z):Int)>m then (↑(BA z):Int) else m),V.sl LCd.tree ks,V.j k,V.j (i64.wrap (i
 + (1:Int)))],[])))) (some (Ex.exit 0,[V.tp LCd y 0,V.j m],[]))):_):=by kernel_rfl
theorem Q7 (n:Nat) (z:Rose Lab):AQ prog (Wy n) (Ab [(3,Fa n)]) f134 [.tp LCd z 0] [] =
 ((ifT (decide ((0:Int)<=(0:Int)/\(0:Int)<=(1000001:Int)/\(0:Int)<=(0:Int)/\0<=z.kids.length/\(↑z.kids.length:Int)=(↑z.kids.length:Int)/\
 Ak z.kids<=n/\Ak z.kids<=1000000)) (ifB (Aw z.lab.fst) (some (V.j (i64.wrap ((↑(max 0 (BL (drop 0 z.kids))):Int)
 + (1:Int))),[])) (some (V.j (↑(max 0 (BL (drop 0 z.kids))):Int),[])))):_):=by kernel_rfl
theorem K3 (n:Nat) (y:Rose Lab) (ks:List (Rose Lab)) (h1:Ak ks<=n) (h2:Ak ks<=1000000) : ∀ (j i m:Nat),i+j=ks.length->m<=1000001->
  Runs prog (Wy n) (Ab [(3,Fa n)]) 0 (body f134 0) (Fa n) ([.tp LCd y 0,.j (m:Int),.sl (.tree LCd) ks,.j (ks.length:Int),.j (i:Int)],[]) (.exit 0) ([.tp LCd y 0,.j ((max m (BL (ks.drop i)):Nat):Int)],[])
 | 0,i,m,hi,hm=>by
  have hr:=IW n y m ks ks.length i
  rw [Ac (dcF (by omega))] at hr
  have e1:ks.drop i=[]:=drop_eq_nil_of_le (by omega)
  rw [e1,BL]
  exact .stop _ _ _ (hr.trans (by simp)) (by simp)
 | j+1,i,m,hi,hm=>by
  have hl:i<ks.length:=by omega
  have hM:maxI=9223372036854775807:=rfl
  have hr:=IW n y m ks ks.length i
  have hmem:=BB (getElem_mem hl)
  have hlen:=Bz ks
  have hdm:=HT ks[i]
  rw [Af (dcT (by omega)),Aa (by simp only [anE,dcE]; omega)] at hr
  simp only [ntN,gtE hl,As,A3 (n:=i) (by omega)] at hr
  rw [Aa (dcT ⟨by omega,by omega⟩)] at hr
  rw [drop_eq_getElem_cons hl,BL]
  have hx:(if (BA ks[i]:Int)>(m:Int) then (BA ks[i]:Int) else (m:Int))=((max m (BA ks[i]):Nat):Int):=by split<;>omega
  have ih:=K3 n y ks h1 h2 j (i+1) (max m (BA ks[i])) (by omega) (by omega)
  rw [<-Nat.max_assoc]
  exact .step _ _ _ _ (hr.trans (by rw [hx])) ih
theorem Vi (n:Nat):A4 prog (Wy n) (Ab [(3,Fa n)]) 0 (f134.body.getD .skip):=by
 refine Ax (a:=body f134 0) (by kernel_rfl) fun d ex d' h=>?_
 unfold Fa at h
 dsimp only at h
 split at h
 ·rename_i y m ks k i
  obtain ⟨hc,hx⟩:=Ae h
  clear h
  obtain ⟨h0,h1,h2,h3,rfl,h5,h6⟩:=of_decide_eq_true hc
  obtain ⟨m,rfl⟩:=eq_ofNat_of_zero_le h0
  obtain ⟨i,rfl⟩:=eq_ofNat_of_zero_le h2
  simp only [ntN] at h3 hx
  have h8:=Ar hx
  obtain ⟨rfl,rfl⟩:=Prod.mk.inj h8
  exact K3 n y ks h5 h6 (ks.length-i) i m (by omega) (by omega)
 ·cases h
theorem SQ (n:Nat) (z:Rose Lab) (hc:Ao z<=n+1/\Ao z<=1000000):AQ prog (Wy n) (Ab [(3,Fa n)]) f134 [.tp LCd z 0] []=some (.j (BA z:Int),[]):=by
 rw [Q7]
 obtain ⟨x,ks⟩:=z
 obtain ⟨h1,h2⟩:=hc
 rw [Ao] at h1 h2
 have hd:drop (toNat 0) ks=ks:=rfl
 simp only [Rose.kids,Rose.lab] at *
 rw [Aa (dcT (by refine ⟨by omega,by omega,by omega,by simp,by trivial,by omega,by omega⟩))]
 have hdp:=Gr ks
 rw [BA]
 simp only [drop_zero,Nat.zero_max]
 cases hx:Aw x.1 with
 | true=>rw [Bq,Ay (by omega) (by omega)]; simp
 | false=>rw [Bd]; simp
theorem SR : ∀ n,(∀ m,m<n->Ad prog 134 (Ent.rd1 (Iu m)).F)->Ad prog 134 (Ent.rd1 (Iu n)).F
 | 0,_=>AX fun vs bs=>by
  unfold Ent.F Iu
  dsimp only
  split
  ·rename_i z
   have:=BX z
   have:decide (Ao z<=0/\Ao z<=1000000)=false:=dcF (by omega)
   rw [this]; rfl
  ·rfl
 | n+1,ih=>by
  refine Am (kc func134 (ih n (lt_succ_self n)) (kc func117 Q5 KnowsL.nil)).knows (Λ:=(Ab [(3,Fa n)])) func134 (c:=f134.body.getD .skip) (by kernel_rfl) fun vs bs r hq hv hb=>?_
  unfold Ent.F Iu at hq
  dsimp only at hq
  split at hq
  ·rename_i z
   obtain ⟨hc,hx⟩:=Ae hq
   exact ⟨Vi n,(SQ n z (of_decide_eq_true hc)).trans hx⟩
  ·cases hq
theorem Abk:Ad prog 134 (Ent.rd1 Q8).F:=by
 refine Bb (F:=fun n=>(Ent.rd1 (Iu n)).F) SR fun vs bs r h=>?_
 unfold Ent.F Q8 at h
 dsimp only at h
 split at h
 ·rename_i z
  obtain ⟨hc,hx⟩:=Ae h
  have hc:=of_decide_eq_true hc
  refine ⟨1000000,?_⟩
  show (Br.need (decide (Ao z<=1000000/\Ao z<=1000000)) (.leaf (.j (BA z:Int),[]))).run=some r
  rw [dcT (show Ao z<=1000000/\Ao z<=1000000 from ⟨hc,hc⟩)]
  exact hx
 ·cases h
def EU (zk:List (Rose Lab)) (i:Nat) (n:Int):Bool:=match i with
 | 0=>false
 | i+1=>match zk[i]? with | some y=>decide (y.lab.2.2.1>=n) | none=>false
def H1 (zk:List (Rose Lab)):Nat->List (List UInt8×Bool)->List (Rose Lab)->Bool
 | _,_,[]=>true
 | i,seen,z::l=>if ((EB .str seen z.lab.2.1).getD false||EU zk i z.lab.2.2.1)=true then false else H1 zk (i+1) (F0 .str seen z.lab.2.1 true) l
def B5 (x:Lab) (ks:List (Rose Lab)):Bool:=
 if x.1=1\/x.1=2 then x.2.2.2.2.1==0&&ks.length==0
 else if x.1=3 then decide (0<=x.2.2.2.2.1/\x.2.2.2.2.1<=20)&&ks.length==0
 else if x.1=4 then x.2.2.2.2.1==0&&ks.length==1
 else if x.1≠5\/x.2.2.2.2.1≠0 then false
 else H1 ks 0 [] ks
def Kg:Gm
 | [.tp LCd z 0],[]=>.need (decide (z.kids.length<=maxI)) (.leaf (.b (B5 z.lab z.kids),[]))
 | _,_=>.no
def poE:LoopEnt:=⟨113,[0,3,72,73,74],[],[2],fun
 | ([.tp LCd z 0,.mref 0,.sl (.tree LCd) ks,.i .i64 k,.i .i64 i],[some (.mp .str .bool seen)])=>.need (decide (0<=i/\i.toNat<=ks.length/\k=ks.length/\ks.length<=maxI/\z.kids.length=ks.length)) (.br (H1 z.kids i.toNat seen (ks.drop i.toNat)) (.leaf (.exit 1,([],[]))) (.leaf (.ret,([.b false],[]))))
 | _=>.no⟩
theorem O4 (z:Rose Lab) (ks:List (Rose Lab)) (seen:List (List UInt8×Bool)) (k i:Int):A0 prog (Ab [(85,.rd1 AE)]) (Ab [(13,poE)]) 0 (body f168 0) poE ([.tp LCd z 0,.mref 0,.sl (.tree LCd) ks,.j k,.j i],[some (.mp .str .bool seen)]) =
 ((ifB (decide (i<k)) (ifT (decide ((0:Int)<=i)&&decide (i<(↑ks.length:Int))) (Ap ks[i.toNat]? fun z_1=>ifB ((EB Cd.str seen (Rose.lab z_1).snd.fst).getD
 false) (some (Ex.ret,[V.b false],[])) (ifB (decide (i>(0:Int))) (ifT (decide ((0:Int)<=i64.wrap (i-(1:Int)))&&decide (i64.wrap (i-(1 :
 Int))<(↑z.kids.length:Int))) (Ap z.kids[(i64.wrap (i-(1:Int))).toNat]? fun z_2=>ifB (decide ((Rose.lab z_2).snd.snd.fst>=(Rose.lab
 z_1).snd.snd.fst)) (some (Ex.ret,[V.b false],[])) (some (Ex.normal,[V.tp LCd z 0,V.mref 0,V.sl LCd.tree ks,V.j k,V.j (i64.wrap (i
 + (1:Int)))],[some (Blk.mp Cd.str Cd.bool (F0 Cd.str seen (Rose.lab z_1).snd.fst true))])))) (some (Ex.normal,[V.tp LCd z 0,V.mref 0,V.sl LCd.tree
 ks,V.j k,V.j (i64.wrap (i+(1:Int)))],[some (Blk.mp Cd.str Cd.bool (F0 Cd.str seen (Rose.lab z_1).snd.fst true))]))))) (some (Ex.exit 1,[],
 []))):_):=by kernel_rfl
theorem WY (z:Rose Lab):AQ prog (Ab [(85,.rd1 AE)]) (Ab [(13,poE)]) f168 [.tp LCd z 0] [] =
 ((ifB (z.lab.fst==(1:Int)) (ifB (z.lab.fst==(1:Int)) (ifB (z.lab.snd.snd.snd.snd.fst==(0:Int)) (some (V.b ((↑z.kids.length:Int)==(0:Int)),[])) (some (V.b
 false,[]))) (ifB (z.lab.fst==(3:Int)) (ifB (decide ((0:Int)<=z.lab.snd.snd.snd.snd.fst/\z.lab.snd.snd.snd.snd.fst<=(20:Int))) (some (V.b ((↑z.kids.length :
 Int)==(0:Int)),[])) (some (V.b false,[]))) (ifB (z.lab.fst==(4:Int)) (ifB (z.lab.snd.snd.snd.snd.fst==(0:Int)) (some (V.b ((↑z.kids.length:Int)==(1 :
 Int)),[])) (some (V.b false,[]))) (ifB (z.lab.fst != (5:Int)) (some (V.b false,[])) (ifB (z.lab.snd.snd.snd.snd.fst != (0:Int)) (some (V.b false,[])) (ifT (decide
 ((0:Int)<=(0:Int)/\0<=z.kids.length/\(↑z.kids.length:Int)=(↑z.kids.length:Int)/\z.kids.length<=maxI/\z.kids.length=z.kids.length)) (ifB (H1
 z.kids 0 (Ag (Cd.str.den×Cd.bool.den)) (drop 0 z.kids)) (some (V.b true,[])) (some (V.b false,[]))))))))) (ifB (z.lab.fst==(2:Int)) (ifB
 (z.lab.snd.snd.snd.snd.fst==(0:Int)) (some (V.b ((↑z.kids.length:Int)==(0:Int)),[])) (some (V.b false,[]))) (ifB (z.lab.fst==(3:Int)) (ifB (decide ((0 :
 Int)<=z.lab.snd.snd.snd.snd.fst/\z.lab.snd.snd.snd.snd.fst<=(20:Int))) (some (V.b ((↑z.kids.length:Int)==(0:Int)),[])) (some (V.b false,[]))) (ifB (z.lab.fst
 == (4:Int)) (ifB (z.lab.snd.snd.snd.snd.fst==(0:Int)) (some (V.b ((↑z.kids.length:Int)==(1:Int)),[])) (some (V.b false,[]))) (ifB (z.lab.fst != (5:Int))
 (some (V.b false,[])) (ifB (z.lab.snd.snd.snd.snd.fst != (0:Int)) (some (V.b false,[])) (ifT (decide ((0:Int)<=(0:Int)/\0<=z.kids.length/\
 (↑z.kids.length:Int)=(↑z.kids.length:Int)/\z.kids.length<=maxI/\z.kids.length=z.kids.length)) (ifB (H1 z.kids 0 (Ag (Cd.str.den×Cd.bool.den))
 (drop 0 z.kids)) (some (V.b true,[])) (some (V.b false,[])))))))))):_):=by kernel_rfl
theorem MZ (z:Rose Lab) (ks:List (Rose Lab)) (hz:z.kids.length=ks.length) (hm:ks.length<=maxI) : ∀ (j i:Nat) (seen:List (List UInt8×Bool)),i+j=ks.length->∀ ex d,(Br.br (H1 z.kids i seen (ks.drop i)) (.leaf (.exit 1,([],[]))) (.leaf (.ret,([.b false],[]))):Br (Ex×Dt)).run=some (ex,d)->
  Runs prog (Ab [(85,.rd1 AE)]) (Ab [(13,poE)]) 0 (body f168 0) poE ([.tp LCd z 0,.mref 0,.sl (.tree LCd) ks,.j (ks.length:Int),.j (i:Int)],[some (.mp .str .bool seen)]) ex d
 | 0,i,seen,hi,ex,d,h=>by
  have hr:=O4 z ks seen ks.length i
  rw [Ac (dcF (by omega))] at hr
  have e1:ks.drop i=[]:=drop_eq_nil_of_le (by omega)
  rw [e1,H1] at h
  have h8:=Ar h
  obtain ⟨rfl,rfl⟩:=Prod.mk.inj h8
  exact .stop _ _ _ hr (by simp)
 | j+1,i,seen,hi,ex,d,h=>by
  have hl:i<ks.length:=by omega
  have hM:maxI=9223372036854775807:=rfl
  have hr:=O4 z ks seen ks.length i
  rw [Af (dcT (by omega)),Aa (by simp only [anE,dcE]; omega)] at hr
  simp only [ntN,gtE hl,As,A3 (n:=i) (by omega)] at hr
  rw [drop_eq_getElem_cons hl,H1] at h
  have stop : ∀ {x:Option (Ex×Dt)},x=some (.ret,([.b false],[]))->(Br.br false (.leaf (.exit 1,([],[]))) (.leaf (.ret,([.b false],[]))):Br (Ex×Dt)).run=some (ex,d)->x=some (ex,d)/\ex≠.normal:=fun hx h=>by
   have h8:=Ar h
   obtain ⟨rfl,rfl⟩:=Prod.mk.inj h8
   exact ⟨hx,by simp⟩
  cases h1:(EB .str seen ks[i].lab.2.1).getD false with
  | true=>
   rw [h1,Bool.true_or,if_pos rfl] at h
   rw [h1,Bq] at hr
   obtain ⟨g1,g2⟩:=stop hr h
   exact .stop _ _ _ g1 g2
  | false=>
   rw [h1,Bool.false_or] at h
   rw [h1,Bd] at hr
   cases i with
   | zero=>
    rw [Ac (dcF (by omega))] at hr
    rw [EU,if_neg (by simp)] at h
    exact .step _ _ _ _ hr (MZ z ks hz hm j 1 _ (by omega) ex d h)
   | succ i=>
    have hl':i<z.kids.length:=by omega
    have hw:i64.wrap (((i+1:Nat):Int)-1)=(i:Int):=by rw [Ay (by omega) (by omega)]; omega
    rw [Af (dcT (by omega)),hw,Aa (by simp only [anE,dcE]; omega)] at hr
    simp only [ntN,gtE hl',As] at hr
    have hp:EU z.kids (i+1) ks[i+1].lab.2.2.1=decide (z.kids[i].lab.2.2.1>=ks[i+1].lab.2.2.1):=by unfold EU; simp only [gtE hl']
    rw [hp] at h
    cases h2:decide (z.kids[i].lab.2.2.1>=ks[i+1].lab.2.2.1) with
    | true=>
     rw [h2,if_pos rfl] at h
     rw [h2,Bq] at hr
     obtain ⟨g1,g2⟩:=stop hr h
     exact .stop _ _ _ g1 g2
    | false=>
     rw [h2,if_neg (by simp)] at h
     rw [h2,Bd] at hr
     exact .step _ _ _ _ hr (MZ z ks hz hm j (i+1+1) _ (by omega) ex d h)
theorem Aa7:A4 prog (Ab [(85,.rd1 AE)]) (Ab [(13,poE)]) 0 (f168.body.getD .skip):=by
 refine Ax (a:=body f168 0) (by kernel_rfl) fun d ex d' h=>?_
 unfold poE at h
 dsimp only at h
 split at h
 ·rename_i z ks k i seen
  obtain ⟨hc,hx⟩:=Ae h
  clear h
  obtain ⟨h0,h1,rfl,h3,h4⟩:=of_decide_eq_true hc
  obtain ⟨i,rfl⟩:=eq_ofNat_of_zero_le h0
  simp only [ntN] at h1 hx
  exact MZ z ks h4 h3 (ks.length-i) i seen (by omega) ex d' hx
 ·cases h
theorem O6 (z:Rose Lab) (hc:z.kids.length<=maxI):AQ prog (Ab [(85,.rd1 AE)]) (Ab [(13,poE)]) f168 [.tp LCd z 0] []=some (.b (B5 z.lab z.kids),[]):=by
 rw [WY]
 have hl : ∀ n:Nat,((z.kids.length:Int)==(n:Int))=(z.kids.length==n):=fun n=>by
  by_cases h:z.kids.length=n
  ·subst h; simp
  ·rw [beq_false_of_ne h,beq_false_of_ne (by omega)]
 have hl0:((z.kids.length:Int)==0)=(z.kids.length==0):=hl 0
 have hl1:((z.kids.length:Int)==1)=(z.kids.length==1):=hl 1
 have hd:decide ((0:Int)<=0/\0<=z.kids.length/\(z.kids.length:Int)=(z.kids.length:Int)/\z.kids.length<=maxI/\z.kids.length=z.kids.length)=true:=dcT ⟨by omega,by omega,rfl,hc,rfl⟩
 unfold B5
 rw [drop_zero,hl0,hl1]
 by_cases a1:z.lab.1=1
 ·rw [if_pos (.inl a1),a1]
  cases z.lab.2.2.2.2.1==0<;>rfl
 by_cases a2:z.lab.1=2
 ·rw [if_pos (.inr a2),a2]
  cases z.lab.2.2.2.2.1==0<;>rfl
 rw [Ac (beq_false_of_ne a1),Ac (beq_false_of_ne a2),if_neg (by rintro (h | h); exact a1 h; exact a2 h)]
 by_cases a3:z.lab.1=3
 ·rw [if_pos a3,a3,Af (by rfl)]
  by_cases a5:0<=z.lab.2.2.2.2.1/\z.lab.2.2.2.2.1<=20
  ·rw [dcT a5]; rfl
  ·rw [dcF a5]; rfl
 rw [Ac (beq_false_of_ne a3),if_neg a3]
 by_cases a4:z.lab.1=4
 ·rw [if_pos a4,a4,Af (by rfl)]
  cases z.lab.2.2.2.2.1==0<;>rfl
 rw [Ac (beq_false_of_ne a4),if_neg a4]
 by_cases a5:z.lab.1=5
 ·rw [Ac (by rw [a5]; rfl)]
  by_cases a6:z.lab.2.2.2.2.1=0
  ·rw [Ac (by rw [a6]; rfl),if_neg (by rintro (h | h); exact h a5; exact h a6),hd,Dc]
   cases H1 z.kids 0 [] z.kids<;>rfl
  ·rw [Af (by simpa using a6),if_pos (.inr a6)]
 ·rw [Af (by simpa using a5),if_pos (.inl a5)]
theorem Xa:Ad prog 168 (Ent.rd1 Kg).F:=by
 refine Am (kc func85 EL KnowsL.nil).knows (Λ:=(Ab [(13,poE)])) func168 (c:=f168.body.getD .skip) (by kernel_rfl) fun vs bs r hq hv hb=>?_
 unfold Ent.F Kg at hq
 dsimp only at hq
 split at hq
 ·rename_i z
  obtain ⟨hc,hx⟩:=Ae hq
  exact ⟨Aa7,(O6 z (of_decide_eq_true hc)).trans hx⟩
 ·cases hq
def AA {α:Type} (p:α->Bool):Nat->List α->Int
 | _,[]=>-1
 | n,z::l=>if p z=true then (n:Int) else AA p (n+1) l
mutual
def Aj:Rose Lab->Bool
 | .node x ks=>B5 x ks&&A8 x.1 ks
def A8 (k:Int):List (Rose Lab)->Bool
 | []=>true
 | z::l=>(D1 k z.lab&&Aj z)&&A8 k l
end
mutual
def Cf:Rose Lab->Bool
 | .node x ks=>decide (x.2.1.length<=maxI)&&El ks
def El:List (Rose Lab)->Bool
 | []=>true
 | z::l=>Cf z&&El l
end
def CY (z:Rose Lab):Bool:=z.lab.1==5&&z.lab.2.1==[]&&z.lab.2.2.1==0&&!z.lab.2.2.2.1&&Aj z&&decide (BA z<=5)&&decide (Ao z<=30)
def EK (k:Int) (z:Rose Lab):Bool:=!(D1 k z.lab&&Aj z)
def GW (n:Nat):Gm
 | [.tp LCd z 0],[]=>.need (decide (Ao z<=n/\Ao z<=1000000/\Cf z=true)) (.leaf (.b (Aj z),[]))
 | _,_=>.no
def DI (n:Nat):Gm
 | [.tp LCd z 0,.bx [.tp LCd y 0] 0],[]=>.need (decide (Ao z<=n/\Ao z<=1000000/\Cf z=true)) (.leaf (.b (EK y.lab.1 z),[]))
 | _,_=>.no
def Qf:Gm
 | [.tp LCd z 0],[]=>.need (decide (Ao z<=1000000/\Cf z=true)) (.leaf (.b (Aj z),[]))
 | _,_=>.no
def Nw:Gm
 | [.tp LCd z 0],[]=>.need (decide (Ao z<=1000000/\Cf z=true)) (.leaf (.b (CY z),[]))
 | _,_=>.no
def krE (n:Nat):LoopEnt:=⟨19,[0,1,4,7,8],[],[4],fun
 | ([.sl (.tree LCd) l,.fn 170 [] [.ptr 0 0],.i .i64 _,.i .i64 k,.i .i64 i],[some (.box [.tp LCd y 0])])=>
  .need (decide (0<=i/\i.toNat<=l.length/\l.length<=maxI/\k=l.length)&&l.all (fun z:Rose Lab=>decide (Ao z<=n/\Ao z<=1000000/\Cf z=true))) (.br (decide (AA (fun z:Rose Lab=>EK y.lab.1 z) i.toNat (l.drop i.toNat)<0)) (.leaf (.exit 0,([],[some (.box [.tp LCd y 0])]))) (.leaf (.ret,([.i .i64 (AA (fun z:Rose Lab=>EK y.lab.1 z) i.toNat (l.drop i.toNat))],[some (.box [.tp LCd y 0])]))))
 | _=>.no⟩
def Xp (n:Nat):Gm
 | [.sl (.tree LCd) l,.fn 170 [] [.ptr 0 0]],[.box [.tp LCd y 0]]=>.need (l.all (fun z:Rose Lab=>decide (Ao z<=n/\Ao z<=1000000/\Cf z=true))) (.leaf (.i .i64 (AA (fun z:Rose Lab=>EK y.lab.1 z) 0 l),[some (.box [.tp LCd y 0])]))
 | _,_=>.no
def Z4 (n:Nat):Gm
 | [.sl (.tree LCd) l,.fn 170 [] [.ptr 0 0]],[.box [.tp LCd y 0]]=>.need (l.all (fun z:Rose Lab=>decide (Ao z<=n/\Ao z<=1000000/\Cf z=true))) (.leaf (.b (l.any (fun z:Rose Lab=>EK y.lab.1 z)),[some (.box [.tp LCd y 0])]))
 | _,_=>.no
theorem I2 {α:Type} (p:α->Bool) : ∀ (l:List α) (n:Nat),(AA p n l = -1/\l.any p=false)\/((n:Int)<=AA p n l/\AA p n l<n+l.length/\l.any p=true)
 | [],n=>.inl ⟨rfl,rfl⟩
 | z::l,n=>by
  rw [AA,List.any_cons]
  by_cases h:p z=true
  ·rw [if_pos h,h]; exact .inr ⟨Int.le_refl _,by simp; omega,rfl⟩
  ·rw [if_neg h,show p z=false by simpa using h,Bool.false_or]
   rcases I2 p l (n+1) with ⟨h1,h2⟩ | ⟨h1,h2,h3⟩
   ·exact .inl ⟨h1,h2⟩
   ·exact .inr ⟨by omega,by simp; omega,h3⟩
theorem KC {α:Type} (p:α->Bool) (l:List α) (n:Nat):decide (AA p n l>=0)=l.any p:=by
 rcases I2 p l n with ⟨h1,h2⟩ | ⟨h1,h2,h3⟩
 ·rw [h2]; exact dcF (by omega)
 ·rw [h3]; exact dcT (by omega)
theorem Hb {α:Type} (p:α->Bool) (l:List α) (n:Nat) (h:AA p n l<0):AA p n l = -1:=by
 rcases I2 p l n with ⟨h1,h2⟩ | ⟨h1,h2⟩
 ·exact h1
 ·omega
theorem Gn {α:Type} (p:α->Bool) : ∀ (l:List α) (n:Nat),0<=AA p n l->∃ i,∃ h:i<l.length,AA p n l=((n+i:Nat):Int)/\p l[i]=true/\l.find? p=some l[i]
 | [],n,h=>by rw [AA] at h; omega
 | z::l,n,h=>by
  rw [AA] at h ⊢
  by_cases hp:p z=true
  ·rw [if_pos hp]; exact ⟨0,by simp,by simp,hp,by simp [hp]⟩
  ·rw [if_neg hp] at h ⊢
   obtain ⟨i,h1,h2,h3,h4⟩:=Gn p l (n+1) h
   exact ⟨i+1,by simp; omega,by rw [h2]; congr 1; omega,by simpa using h3,by simp [hp,h4]⟩
theorem I1 {α:Type} (p:α->Bool) : ∀ (l:List α) (n:Nat),AA p n l<0->l.find? p=none
 | [],n,_=>rfl
 | z::l,n,h=>by
  rw [AA] at h
  by_cases hp:p z=true
  ·rw [if_pos hp] at h; omega
  ·rw [if_neg hp] at h
   simp [hp,I1 p l (n+1) h]
theorem OD {z:Rose Lab} : ∀ {l:List (Rose Lab)},El l=true->z∈l->Cf z=true
 | [],_,h=>by cases h
 | y::l,hn,h=>by
  rw [El,anE] at hn
  rcases mem_cons.1 h with rfl | h
  ·exact hn.1
  ·exact OD hn.2 h
theorem UW {z:Rose Lab} (h:Cf z=true):z.lab.2.1.length<=maxI:=by
 cases z
 rw [Cf,anE] at h
 exact of_decide_eq_true h.1
theorem SA {z:Rose Lab} (h:Cf z=true):El z.kids=true:=by
 cases z
 rw [Cf,anE] at h
 exact h.2
theorem JZ (k:Int) : ∀ l:List (Rose Lab),A8 k l = !(l.any fun z=>EK k z)
 | []=>rfl
 | z::l=>by rw [A8,JZ k l,List.any_cons,EK]; cases D1 k z.lab<;>cases Aj z<;>simp
theorem OX (n:Nat) (hf:Ad prog 133 (Ent.rd1 (GW n)).F):Ad prog 170 (Ent.rd1 (DI n)).F:=by
 refine Am (kc func171 Zg (kc func133 hf KnowsL.nil)).knows (Λ:=Ab []) func170 (c:=f170.body.getD .skip) (by kernel_rfl) fun vs bs r hq hv hb=>?_
 unfold Ent.F DI at hq
 dsimp only at hq
 split at hq
 ·rename_i z y
  obtain ⟨hc,hx⟩:=Ae hq
  refine ⟨Aq _,Eq.trans ?_ hx⟩
  have e:AQ prog (Ab [(171,.rd1 Na),(133,.rd1 (GW n))]) (Ab []) f170 [.tp LCd z 0,.bx [.tp LCd y 0] 0] []=((ifT (decide (List.length z.lab.snd.fst<=maxI)) (ifB (!D1 y.lab.fst z.lab) (some (V.b true,[])) (ifT (decide (Ao z<=n/\Ao z<=1000000/\Cf z=true))
 (some (V.b !Aj z,[]))))):_):=by kernel_rfl
  have hn:=of_decide_eq_true hc
  rw [e,Aa (dcT (UW hn.2.2))]
  unfold EK
  cases D1 y.lab.1 z.lab with
  | true=>rw [Aa hc]; rfl
  | false=>rfl
 ·cases hq
theorem OY (n:Nat) (y:Rose Lab) (l:List (Rose Lab)) (r k i:Int):A0 prog (Ab [(170,.rd1 (DI n))]) (Ab [(2,(krE n))]) 1 (body f112 0) (krE n) ([.sl (.tree LCd) l,.fn 170 [] [.ptr 0 0],.j r,.j k,.j i],[some (.box [.tp LCd y 0])]) =
 ((ifB (decide (i<k)) (ifT (decide ((0:Int)<=i)&&decide (i<(↑l.length:Int))) (Ap l[i.toNat]? fun z=>ifT (decide (Ao z<=n/\Ao z<=1000000/\Cf
 z=true)) (ifB (EK y.lab.fst z) (some (Ex.ret,[V.j i],[some (Blk.box [V.tp LCd y 0])])) (some (Ex.normal,[V.sl LCd.tree l,V.fn
 170 [] [V.ptr 0 0],V.j r,V.j k,V.j (i64.wrap (i+(1:Int)))],[some (Blk.box [V.tp LCd y 0])]))))) (some
 (Ex.exit 0,[],[some (Blk.box [V.tp LCd y 0])]))):_):=by kernel_rfl
theorem RD (n:Nat) (y:Rose Lab) {l:List (Rose Lab)} {r:Int} (hx:l.length<=maxI) (hs:(l.all (fun z:Rose Lab=>decide (Ao z<=n/\Ao z<=1000000/\Cf z=true)))=true) : ∀ (j i:Nat),i+j=l.length->∀ e d',(.br (decide (AA (fun z:Rose Lab=>EK y.lab.1 z) i (l.drop i)<0)) (.leaf (.exit 0,([],[some (.box [.tp LCd y 0])]))) (.leaf (.ret,([.j (AA (fun z:Rose Lab=>EK y.lab.1 z) i (l.drop i))],[some (.box [.tp LCd y 0])]))):Br (Ex×Dt)).run=some (e,d')->
  Runs prog (Ab [(170,.rd1 (DI n))]) (Ab [(2,(krE n))]) 1 (body f112 0) (krE n) ([.sl (.tree LCd) l,.fn 170 [] [.ptr 0 0],.j r,.j (l.length:Int),.j (i:Int)],[some (.box [.tp LCd y 0])]) e d'
 | 0,i,hi,e,d',h=>by
  have e1:l.drop i=[]:=drop_eq_nil_of_le (by omega)
  rw [e1,CC,AA,if_pos (by omega)] at h
  cases h
  have hr:=OY n y l r l.length i
  rw [Ac (dcF (by omega))] at hr
  exact .stop _ _ _ hr (by simp)
 | j+1,i,hi,e,d',h=>by
  have h1:i<l.length:=by omega
  have hr:=OY n y l r l.length i
  rw [Af (dcT (by omega)),Aa (by simp only [anE,dcE]; omega)] at hr
  simp only [ntN,gtE h1,As,A3 (n:=i) (by omega)] at hr
  have hz:=of_decide_eq_true (all_eq_true.1 hs _ (getElem_mem h1))
  rw [Aa (by simpa only [anE,dcE] using hz)] at hr
  rw [drop_eq_getElem_cons h1,CC,AA] at h
  by_cases he:(fun z:Rose Lab=>EK y.lab.1 z) l[i]=true
  ·rw [if_pos he,if_neg (by omega)] at h
   cases h
   rw [Af he] at hr
   exact .stop _ _ _ hr (by simp)
  ·rw [if_neg he] at h
   rw [Ac (by simpa using he)] at hr
   exact .step _ _ _ _ hr (RD n y hx hs j (i+1) (by omega) e d' (by rw [CC]; exact h))
theorem Abe (n:Nat):A4 prog (Ab [(170,.rd1 (DI n))]) (Ab [(2,(krE n))]) 1 (f112.body.getD .skip):=by
 refine Ax (a:=body f112 0) (by kernel_rfl) fun d e d' h=>?_
 unfold krE at h
 dsimp only at h
 split at h
 ·obtain ⟨hc,h'⟩:=Ae h
  rw [anE] at hc
  obtain ⟨hc,hs⟩:=hc
  obtain ⟨h0,h1,h2,rfl⟩:=of_decide_eq_true hc
  obtain ⟨i,rfl⟩:=eq_ofNat_of_zero_le h0
  exact RD n _  h2 hs _ i (Nat.add_sub_of_le h1) e d' h'
 ·cases h
theorem Z7 (n:Nat) (y:Rose Lab) (l:List (Rose Lab)) (hx:l.length<=maxI) (hs:(l.all (fun z:Rose Lab=>decide (Ao z<=n/\Ao z<=1000000/\Cf z=true)))=true):AQ prog (Ab [(170,.rd1 (DI n))]) (Ab [(2,(krE n))]) f112 [.sl (.tree LCd) l,.fn 170 [] [.ptr 0 0]] [.box [.tp LCd y 0]]=some (.j (AA (fun z:Rose Lab=>EK y.lab.1 z) 0 l),[some (.box [.tp LCd y 0])]):=by
 have e:AQ prog (Ab [(170,.rd1 (DI n))]) (Ab [(2,(krE n))]) f112 [.sl (.tree LCd) l,.fn 170 [] [.ptr 0 0]] [.box [.tp LCd y 0]] =
  ((ifT (decide ((0:Int)<=(0:Int)/\0<=l.length/\l.length<=maxI/\(↑l.length:Int)=(↑l.length:Int))&&l.all fun z=>decide (Ao z<=n/\Ao z<=
 1000000/\Cf z=true)) (ifB (decide (AA (fun z=>EK y.lab.fst z) 0 (drop 0 l)<(0:Int))) (some (V.j (-1),[some (Blk.box
 [V.tp LCd y 0])])) (some (V.j (AA (fun z=>EK y.lab.fst z) 0 (drop 0 l)),[some (Blk.box [V.tp LCd y 0])])))):_):=by kernel_rfl
 rw [e,Aa (by rw [anE]; exact ⟨dcT ⟨by omega,by omega,hx,rfl⟩,hs⟩)]
 simp only [drop_zero]
 by_cases q:AA (fun z:Rose Lab=>EK y.lab.1 z) 0 l<0
 ·rw [Af (dcT q),Hb _ _ _ q]
 ·rw [Ac (dcF q)]
theorem Z5 (n:Nat) (hf:Ad prog 170 (Ent.rd1 (DI n)).F):Ad prog 112 (Ent.own (Xp n)).F:=by
 refine Am (kc func170 hf KnowsL.nil).knows (Λ:=(Ab [(2,(krE n))])) func112 (c:=f112.body.getD .skip) (by kernel_rfl) fun vs bs r h hv hb=>?_
 unfold Ent.F Xp at h
 dsimp only at h
 split at h
 ·rename_i l y
  obtain ⟨hc,h'⟩:=Ae h
  exact ⟨Abe n,(Z7 n y l (hv (.sl (.tree LCd) l) (by simp)).1 hc).trans (by cases h'; rfl)⟩
 ·cases h
theorem Xq (n:Nat) (y:Rose Lab) (l:List (Rose Lab)) (hs:(l.all (fun z:Rose Lab=>decide (Ao z<=n/\Ao z<=1000000/\Cf z=true)))=true):AQ prog (Ab [(112,.own (Xp n))]) (Ab []) f169 [.sl (.tree LCd) l,.fn 170 [] [.ptr 0 0]] [.box [.tp LCd y 0]]=some (.b (l.any (fun z:Rose Lab=>EK y.lab.1 z)),[some (.box [.tp LCd y 0])]):=by
 have e:AQ prog (Ab [(112,.own (Xp n))]) (Ab []) f169 [.sl (.tree LCd) l,.fn 170 [] [.ptr 0 0]] [.box [.tp LCd y 0]] =
  ((ifT (l.all fun z=>decide (Ao z<=n/\Ao z<=1000000/\Cf z=true)) (some (V.b (decide (AA (fun z=>EK y.lab.fst z) 0 l>=(0:Int))),[some
 (Blk.box [V.tp LCd y 0])]))):_):=by kernel_rfl
 rw [e]
 rw [Aa hs]
 rw [KC]
theorem Z6 (n:Nat) (hf:Ad prog 170 (Ent.rd1 (DI n)).F):Ad prog 169 (Ent.own (Z4 n)).F:=by
 refine Am (kc func112 (Z5 n hf) KnowsL.nil).knows (Λ:=Ab []) func169 (c:=f169.body.getD .skip) (by kernel_rfl) fun vs bs r h hv hb=>?_
 unfold Ent.F Z4 at h
 dsimp only at h
 split at h
 ·rename_i l y
  obtain ⟨hc,h'⟩:=Ae h
  exact ⟨Aq _,(Xq n y l hc).trans (by cases h'; rfl)⟩
 ·cases h
theorem Qz : ∀ n,(∀ m,m<n->Ad prog 133 (Ent.rd1 (GW m)).F)->Ad prog 133 (Ent.rd1 (GW n)).F
 | 0,_=>AX fun vs bs=>by
  unfold Ent.F GW
  dsimp only
  split
  ·rename_i z
   have:=BX z
   rw [dcF (show ¬(Ao z<=0/\Ao z<=1000000/\Cf z=true) by omega)]; rfl
  ·rfl
 | n+1,ih=>by
  have hC:=Z6 n (OX n (ih n (lt_succ_self n)))
  refine Am (kc func168 Xa (kc func169 hC KnowsL.nil)).knows (Λ:=Ab []) func133 (c:=f133.body.getD .skip) (by kernel_rfl) fun vs bs r hq hv hb=>?_
  unfold Ent.F GW at hq
  dsimp only at hq
  split at hq
  ·rename_i z
   obtain ⟨hc,hx⟩:=Ae hq
   obtain ⟨h1,h2,h3⟩:=of_decide_eq_true hc
   refine ⟨Aq _,Eq.trans ?_ hx⟩
   have e:AQ prog (Ab [(168,.rd1 Kg),(169,.own (Z4 n))]) (Ab []) f133 [.tp LCd z 0] []=((ifT (decide (z.kids.length<=maxI)) (ifB (B5 z.lab z.kids) (ifT (z.kids.all fun z=>decide (Ao z<=n/\Ao z<=1000000/\Cf z=true)) (some (V.b
 !z.kids.any fun z_1=>EK z.lab.fst z_1,[]))) (some (V.b false,[])))):_):=by kernel_rfl
   rw [Be] at h1 h2
   have hl:=Bz z.kids
   have hM:maxI=9223372036854775807:=rfl
   have hall:(z.kids.all fun z:Rose Lab=>decide (Ao z<=n/\Ao z<=1000000/\Cf z=true))=true:=all_eq_true.2 fun w hw=>dcT ⟨by have:=BB hw; omega,by have:=BB hw; omega,OD (SA h3) hw⟩
   rw [e,Aa (dcT (by omega))]
   have hr:Aj z=(B5 z.lab z.kids&&!(z.kids.any fun w=>EK z.lab.1 w)):=by cases z; rw [Aj,JZ]; rfl
   rw [hr]
   cases B5 z.lab z.kids with
   | true=>rw [Bq,Aa hall]; rfl
   | false=>rfl
  ·cases hq
theorem right:Ad prog 133 (Ent.rd1 Qf).F:=by
 refine Bb (F:=fun n=>(Ent.rd1 (GW n)).F) Qz fun vs bs r h=>?_
 unfold Ent.F Qf at h
 dsimp only at h
 split at h
 ·rename_i z
  obtain ⟨hc,hx⟩:=Ae h
  obtain ⟨h1,h2⟩:=of_decide_eq_true hc
  refine ⟨1000000,?_⟩
  show (Br.need (decide (Ao z<=1000000/\Ao z<=1000000/\Cf z=true)) (.leaf (.b (Aj z),[]))).run=some r
  rw [dcT (show Ao z<=1000000/\Ao z<=1000000/\Cf z=true from ⟨h1,h1,h2⟩)]
  exact hx
 ·cases h
theorem Abh:Ad prog 87 (Ent.rd1 Nw).F:=by
 refine Am (kc func133 right (kc func134 Abk (kc func135 ZE KnowsL.nil))).knows (Λ:=Ab []) func87 (c:=f87.body.getD .skip) (by kernel_rfl) fun vs bs r hq hv hb=>?_
 unfold Ent.F Nw at hq
 dsimp only at hq
 split at hq
 ·rename_i z
  obtain ⟨hc,hx⟩:=Ae hq
  obtain ⟨h1,h2⟩:=of_decide_eq_true hc
  refine ⟨Aq _,Eq.trans ?_ hx⟩
  have e:AQ prog (Ab [(133,.rd1 Qf),(134,.rd1 Q8),(135,.rd1 Ny)]) (Ab []) f87 [.tp LCd z 0] []=((ifB (z.lab.fst==(5:Int)) (ifB (z.lab.snd.fst==Ag UInt8) (ifB (z.lab.snd.snd.fst==(0:Int)) (ifB (!z.lab.snd.snd.snd.fst) (ifT (decide (Ao z<=1000000
 /\ Cf z=true)) (ifB (Aj z) (ifT (decide (Ao z<=1000000)) (ifB (decide ((↑(BA z):Int)<=(5:Int))) (ifT (decide (Ao z<=1000000)) (some
 (V.b (decide ((↑(Ao z):Int)<=(30:Int))),[]))) (some (V.b false,[])))) (some (V.b false,[])))) (some (V.b false,[]))) (some (V.b false,[]))) (some (V.b false,
 []))) (some (V.b false,[]))):_):=by kernel_rfl
  rw [e,dcT h1,hc]
  have d1:decide ((BA z:Int)<=5)=decide (BA z<=5):=decide_eq_decide.2 (by omega)
  have d2:decide ((Ao z:Int)<=30)=decide (Ao z<=30):=decide_eq_decide.2 (by omega)
  rw [d1,d2]
  unfold CY
  cases z.lab.1==5<;>cases z.lab.2.1==[]<;>cases z.lab.2.2.1==0<;>cases z.lab.2.2.2.1<;>cases Aj z<;>cases decide (BA z<=5)<;>rfl
 ·cases hq
def AC (l:List Ty):Bool:=decide (1<=l.length/\l.length<=30)&&decide (AY l 0=some (-1))&&(kf l 0).2==l.length&&CY (kf l 0).1
def nmL (l:List Ty):Bool:=l.all fun x=>decide (x.2.1.length<=maxI)
def Gk:Gm
 | [.agg [.sl TCd l]],[]=>.need (decide (l.length<=4000000000)&&nmL l) (.br (AC l) (.leaf (.ptr 0 0,[some (.box [.i .i64 (kf l 0).1.lab.1,.s (kf l 0).1.lab.2.1,.i .i64 (kf l 0).1.lab.2.2.1,.b (kf l 0).1.lab.2.2.2.1,.i .i64 (kf l 0).1.lab.2.2.2.2.1,.ref 1 0 (kf l 0).1.kids.length]),some (.row false none (.tree LCd) (kf l 0).1.kids)])) (.leaf (.np,[])))
 | _,_=>.no
def HG:Gm
 | [.agg [.sl TCd l]],[]=>.need (decide (l.length<=4000000000)&&nmL l) (.leaf (.b (AC l),[]))
 | _,_=>.no
theorem Mp {l:List Ty} {g:Nat->Rose Lab×Nat} {a:Nat} (hg : ∀ e,e<l.length->e+Ao (g e).1=(g e).2) : ∀ (n e:Nat) (ks:List (Rose Lab)),(AD g l a n e ks).2+Ak ks=e+Ak (AD g l a n e ks).1
 | 0,e,ks=>rfl
 | n+1,e,ks=>by
  unfold AD
  split
  ·rename_i hu
   have h1:=hg e (DX hu)
   have h2:=Mp (a:=a) hg n (g e).2 (ks++[(g e).1])
   have h3 : ∀ (ks:List (Rose Lab)) (z:Rose Lab),Ak (ks++[z])=Ak ks+Ao z:=fun ks z=>by
    induction ks with
    | nil=>simp [Ak]
    | cons y ks ih=>rw [List.cons_append,Ak,Ak,ih]; omega
   rw [h3] at h2
   omega
  ·rfl
theorem RG (l:List Ty) : ∀ f a,a<l.length->a+Ao (kfr l f a).1=(kfr l f a).2
 | 0,a,h=>by simp [kfr,Ao,Ak]
 | f+1,a,h=>by
  unfold kfr
  dsimp only
  cases Aw (A5 l a).1 with
  | true=>
   have:=Mp (a:=a) (RG l f) l.length (a+1) []
   rw [Ak] at this
   rw [cond_true,Ao]; omega
  | false=>rw [cond_false,Ao,Ak]
theorem K0 {l:List Ty} {a:Nat} (h:a<l.length):a+Ao (kf l a).1=(kf l a).2:=RG l l.length a h
theorem Kl : ∀ (ks:List (Rose Lab)) (z:Rose Lab),El ks=true->Cf z=true->El (ks++[z])=true
 | [],z,_,h=>by simp [El,h]
 | y::ks,z,h1,h2=>by
  rw [El,anE] at h1
  rw [List.cons_append,El,h1.1,Kl ks z h1.2 h2]; rfl
theorem Mo {l:List Ty} {g:Nat->Rose Lab×Nat} {a:Nat} (hg : ∀ e,Cf (g e).1=true) : ∀ (n e:Nat) (ks:List (Rose Lab)),El ks=true->El (AD g l a n e ks).1=true
 | 0,e,ks,h=>h
 | n+1,e,ks,h=>by
  unfold AD
  split
  ·exact Mo hg n _ _ (Kl _ _ h (hg e))
  ·exact h
theorem Xs {l:List Ty} (hn:nmL l=true) : ∀ f a,Cf (kfr l f a).1=true:=by
 have lab : ∀ a,(A5 l a).2.1.length<=maxI:=fun a=>by
  unfold A5
  cases h:l[a]? with
  | none=>exact Nat.zero_le _
  | some x=>exact of_decide_eq_true (all_eq_true.1 hn x (List.mem_of_getElem? h))
 intro f
 induction f with
 | zero=>intro a; simp [kfr,Cf,El,lab a]
 | succ f ih=>
  intro a
  unfold kfr
  dsimp only
  cases Aw (A5 l a).1 with
  | true=>rw [cond_true,Cf,dcT (lab a),Mo ih _ _ _ rfl]; rfl
  | false=>rw [cond_false,Cf,dcT (lab a)]; rfl
theorem Q3 (l:List Ty) (h1:l.length<=4000000000) (h2:nmL l=true):CR prog (Ab [(85,.rd1 AE),(86,.rd1 Gl),(87,.rd1 Nw)]) (Ab []) f40 [.agg [.sl TCd l]] []=(.br (AC l) (.leaf (.ptr 0 0,[some (.box [.j (kf l 0).1.lab.1,.s (kf l 0).1.lab.2.1,.j (kf l 0).1.lab.2.2.1,.b (kf l 0).1.lab.2.2.2.1,.j (kf l 0).1.lab.2.2.2.2.1,.ref 1 0 (kf l 0).1.kids.length]),some (.row false none (.tree LCd) (kf l 0).1.kids)])) (.leaf (.np,[])):Br (V×List (Option Blk))).run:=by
 have e:CR prog (Ab [(85,.rd1 AE),(86,.rd1 Gl),(87,.rd1 Nw)]) (Ab []) f40 [.agg [.sl TCd l]] []=((ifB (!decide ((1:Int)<=(↑l.length:Int)/\(↑l.length:Int)<=(30:Int))) (some (V.np,[])) (ifT (decide ((0:Int)<=(0:Int))&&decide ((0:Int)<(↑l.length :
 Int))) (Ap l[0]? fun z=>ifB (z.snd.snd.snd.snd.fst != (-1:Int)) (some (V.np,[])) (ifT (decide ((0:Int)<=(0:Int)/\0<l.length/\l.length<=
 4000000000)) (ifB ((↑(kf l 0).snd:Int) != (↑l.length:Int)) (some (V.np,[])) (ifT (decide (Ao (Rose.node ((kf l 0).fst.lab.fst,(kf l (0 :
 Nat)).fst.lab.snd.fst,(kf l 0).fst.lab.snd.snd.fst,(kf l 0).fst.lab.snd.snd.snd.fst,(kf l 0).fst.lab.snd.snd.snd.snd.fst,()) (take (kf l
 0).fst.kids.length (drop 0 (kf l 0).fst.kids)))<=1000000/\Cf (Rose.node ((kf l 0).fst.lab.fst,(kf l (0 :
 Nat)).fst.lab.snd.fst,(kf l 0).fst.lab.snd.snd.fst,(kf l 0).fst.lab.snd.snd.snd.fst,(kf l 0).fst.lab.snd.snd.snd.snd.fst,()) (take (kf l
 0).fst.kids.length (drop 0 (kf l 0).fst.kids)))=true)) (ifB (!CY (Rose.node ((kf l 0).fst.lab.fst,(kf l (0 :
 Nat)).fst.lab.snd.fst,(kf l 0).fst.lab.snd.snd.fst,(kf l 0).fst.lab.snd.snd.snd.fst,(kf l 0).fst.lab.snd.snd.snd.snd.fst,()) (take (kf l
 0).fst.kids.length (drop 0 (kf l 0).fst.kids)))) (some (V.np,[])) (some (V.ptr 0 0,[some (Blk.box [V.j (kf l 0).fst.lab.fst,
 V.s (kf l 0).fst.lab.snd.fst,V.j (kf l 0).fst.lab.snd.snd.fst,V.b (kf l 0).fst.lab.snd.snd.snd.fst,V.j (kf l (0 :
 Nat)).fst.lab.snd.snd.snd.snd.fst,V.ref 1 0 (kf l 0).fst.kids.length]),some (Blk.row false none LCd.tree (kf l 0).fst.kids)]))))))))):_):=by kernel_rfl
 rw [e]
 clear e
 unfold AC
 by_cases a1:1<=l.length/\l.length<=30
 ·have hl:0<l.length:=by omega
  have d1:decide ((1:Int)<=(l.length:Int)/\(l.length:Int)<=30)=true:=dcT (by omega)
  have d2:(decide ((0:Int)<=0)&&decide ((0:Int)<(l.length:Int)))=true:=by simp only [anE,dcE]; omega
  have d3:decide ((0:Int)<=0/\0<l.length/\l.length<=4000000000)=true:=dcT ⟨by omega,hl,h1⟩
  have hc:=K0 hl
  have hb:=Cx l 0 hl
  have d4:decide (Ao (kf l 0).1<=1000000/\Cf (kf l 0).1=true)=true:=dcT ⟨by omega,Xs h2 _ _⟩
  have ht:=Db (kf l 0).1
  rw [drop_zero,take_length] at ht
  rw [d1,dcT a1]
  simp only [Bool.not_true,Bd,d2,Dc,gtE hl,As,d3,drop_zero,take_length,ht,d4,Bool.true_and]
  have hu:AY l 0=some (l[0].2.2.2.2.1):=by unfold AY; rw [gtE hl]; rfl
  rw [hu]
  by_cases a2:l[0].2.2.2.2.1 = -1
  ·rw [a2]
   by_cases a3:(kf l 0).2=l.length
   ·rw [a3]
    cases CY (kf l 0).1<;>simp [Br.run]
   ·rw [beq_false_of_ne a3]
    have:(((kf l 0).2:Int) != (l.length:Int))=true:=by simpa using a3
    simp [this,Br.run]
  ·have:(l[0].2.2.2.2.1 != (-1:Int))=true:=by simpa using a2
   simp [a2,this,Br.run]
 ·have d1:decide ((1:Int)<=(l.length:Int)/\(l.length:Int)<=30)=false:=dcF (by omega)
  rw [d1,dcF a1]
  rfl
theorem Nv:Ad prog 40 (Ent.rd1 Gk).F:=by
 refine AU (kc func85 EL (kc func86 Vf (kc func87 Abh KnowsL.nil))).knows (Λ:=Ab []) func40 (c:=f40.body.getD .skip) (by kernel_rfl) fun vs bs r hq hv hb=>?_
 unfold Ent.F Gk at hq
 dsimp only at hq
 split at hq
 ·rename_i l
  obtain ⟨hc,hx⟩:=Ae hq
  rw [anE] at hc
  exact ⟨Aq _,(Q3 l (of_decide_eq_true hc.1) hc.2).trans hx⟩
 ·cases hq
def C6 (k:Int):Nat->List Ty->List Int
 | _,[]=>[]
 | i,x::l=>if x.2.2.2.2.1=k then (i:Int)::C6 k (i+1) l else C6 k (i+1) l
def B7 (l:List Ty) (k:Nat):List Int:=C6 k (k+1) (l.drop (k+1))
def t2 (l:List Ty):Nat->Nat->Rose Lab
 | 0,k=>.node (A5 l k) []
 | f+1,k=>.node (A5 l k) ((B7 l k).map fun i=>t2 l f i.toNat)
def t2L (l:List Ty) (k:Nat):Rose Lab:=t2 l l.length k
def DH:LoopEnt:=⟨29,[1,2,5,6],[5],[],fun
 | ([.i .i64 k,.ptr 0 0,.ref 1 0 n,.i .i64 i],[some (.box [.sl TCd l]),some (.row false none (.int .i64) o)])=>.need (decide (0<=i/\i.toNat<=l.length/\l.length<=4000000000/\n=o.length/\o.length<=i.toNat)) (.leaf (.exit 0,([.ref 0 0 (o++C6 k i.toNat (l.drop i.toNat)).length],[some (.row false none (.int .i64) (o++C6 k i.toNat (l.drop i.toNat)))])))
 | _=>.no⟩
def J4:Gm
 | [.agg [.sl TCd l],.i .i64 k],[]=>.need (decide (0<=k/\k.toNat<l.length/\l.length<=4000000000)) (.leaf (.ref 0 0 (B7 l k.toNat).length,[some (.row false none (.int .i64) (B7 l k.toNat))]))
 | _,_=>.no
def EX (n:Nat):Gm
 | [.agg [.sl TCd l],.i .i64 k],[]=>.need (decide (0<=k/\k.toNat<l.length/\l.length<=4000000000/\l.length-k.toNat<=n)) (.leaf (.agg [.i .i64 (t2L l k.toNat).lab.1,.s (t2L l k.toNat).lab.2.1,.i .i64 (t2L l k.toNat).lab.2.2.1,.b (t2L l k.toNat).lab.2.2.2.1,.i .i64 (t2L l k.toNat).lab.2.2.2.2.1,.ref 0 0 (t2L l k.toNat).kids.length],[some (.row false none (.rose LCd) (t2L l k.toNat).kids)]))
 | _,_=>.no
def CJ:Gm
 | [.agg [.sl TCd l],.i .i64 k],[]=>.need (decide (0<=k/\k.toNat<l.length/\l.length<=4000000000)) (.leaf (.agg [.i .i64 (t2L l k.toNat).lab.1,.s (t2L l k.toNat).lab.2.1,.i .i64 (t2L l k.toNat).lab.2.2.1,.b (t2L l k.toNat).lab.2.2.2.1,.i .i64 (t2L l k.toNat).lab.2.2.2.2.1,.ref 0 0 (t2L l k.toNat).kids.length],[some (.row false none (.rose LCd) (t2L l k.toNat).kids)]))
 | _,_=>.no
def DG (n:Nat):LoopEnt:=⟨43,[2,4,6,27,28,29],[4,6],[],fun
 | ([.ptr 0 0,.ptr 1 0,.ptr 2 0,.ref 3 0 p,.i .i64 m,.i .i64 i],[some (.box [.sl TCd l]),some (.box [.i .i64 0,.s [],.i .i64 0,.b false,.i .i64 0,.ref 4 0 0]),some (.box [.i .i64 x0,.s x1,.i .i64 x2,.b x3,.i .i64 x4,.ref 5 0 k]),some (.row false none (.int .i64) q),some (.row false none (.rose LCd) []),some (.row false none (.rose LCd) ks)])=>.need (decide (0<=i/\i.toNat<=q.length/\m=q.length/\p=q.length/\k=ks.length/\ks.length<=i.toNat/\q.length<=4000000000/\l.length<=4000000000)&&(q.all fun i:Int=>decide (0<=i/\i.toNat<l.length/\l.length-i.toNat<=n))) (.leaf (.exit 0,([.ptr 0 0,.ptr 1 0],[some (.box [.i .i64 0,.s [],.i .i64 0,.b false,.i .i64 0,.ref 2 0 0]),some (.box [.i .i64 x0,.s x1,.i .i64 x2,.b x3,.i .i64 x4,.ref 3 0 (ks++(q.drop i.toNat).map fun i=>t2L l i.toNat).length]),some (.row false none (.rose LCd) []),some (.row false none (.rose LCd) (ks++(q.drop i.toNat).map fun i=>t2L l i.toNat))])))
 | _=>.no⟩
theorem Mq {k:Int} : ∀ {l:List Ty} {i:Nat} {x:Int},x∈C6 k i l->∃ j:Nat,x=(j:Int)/\i<=j/\j<i+l.length
 | [],i,x,h=>by simp [C6] at h
 | y::l,i,x,h=>by
  rw [C6] at h
  have rest:x∈C6 k (i+1) l->∃ j:Nat,x=(j:Int)/\i<=j/\j<i+(y::l).length:=fun h=>by
   obtain ⟨j,h1,h2,h3⟩:=Mq h
   exact ⟨j,h1,by omega,by simp; omega⟩
  split at h
  ·rcases mem_cons.1 h with rfl | h
   ·exact ⟨i,rfl,Nat.le_refl _,by simp⟩
   ·exact rest h
  ·exact rest h
theorem EZ {l:List Ty} {k:Nat} {x:Int} (h:x∈B7 l k) : ∃ j:Nat,x=(j:Int)/\k<j/\j<l.length:=by
 obtain ⟨j,h1,h2,h3⟩:=Mq h
 rw [List.length_drop] at h3
 exact ⟨j,h1,by omega,by omega⟩
theorem Mr (k:Int) : ∀ (l:List Ty) (i:Nat),(C6 k i l).length<=l.length
 | [],i=>Nat.le_refl _
 | y::l,i=>by
  rw [C6]
  have:=Mr k l (i+1)
  split<;>simp<;>omega
theorem Ri (l:List Ty) : ∀ (f f' k:Nat),l.length-k<=f->l.length-k<=f'->k<l.length->t2 l f k=t2 l f' k
 | 0,f',k,h1,_,h=>by omega
 | f+1,0,k,_,h1,h=>by omega
 | f+1,f'+1,k,h1,h2,h=>by
  unfold t2
  congr 1
  refine List.map_congr_left fun x hx=>?_
  obtain ⟨j,rfl,h3,h4⟩:=EZ hx
  exact Ri l f f' _ (by simp; omega) (by simp; omega) (by simpa using h4)
theorem Ud {l:List Ty} {k:Nat} (h:k<l.length):t2L l k = .node (A5 l k) ((B7 l k).map fun i=>t2L l i.toNat):=by
 obtain ⟨m,hm⟩ : ∃ m,l.length=m+1:=⟨l.length-1,by omega⟩
 unfold t2L
 conv=>lhs; rw [hm]
 rw [t2]
 congr 1
 refine List.map_congr_left fun x hx=>?_
 obtain ⟨j,rfl,h3,h4⟩:=EZ hx
 exact Ri l m l.length _ (by simp; omega) (by simp) (by simpa using h4)
theorem HA (l:List Ty) (k:Int) (n:Nat) (i:Int) (o:List Int):A0 prog (Ab []) (Ab [(3,DH)]) 0 (body f93 0) DH ([.j k,.ptr 0 0,.ref 1 0 n,.j i],[some (.box [.sl TCd l]),some (.row false none (.int .i64) o)]) =
 ((ifB (decide (i<(↑l.length:Int))) (ifT (decide ((0:Int)<=i)&&decide (i<(↑l.length:Int))) (Ap l[i.toNat]? fun z=>ifB (z.snd.snd.snd.snd.fst==k) (ifT
 (decide ((n+1)*8<=140737488355328)&&decide (n+1<=maxI)) (some (Ex.normal,[V.j k,V.ptr 0 0,V.ref 1 0 (n+1),V.i
 .i64 (i64.wrap (i+(1:Int)))],[some (Blk.box [V.sl TCd l]),some (Blk.row false none (Cd.int .i64) (take n (drop 0 o)++i::Ag (Cd.int
 .i64).den))]))) (some (Ex.normal,[V.j k,V.ptr 0 0,V.ref 1 0 n,V.j (i64.wrap (i+(1:Int)))],[some (Blk.box [V.sl TCd l]),some (Blk.row false
 none (Cd.int .i64) o)])))) (some (Ex.exit 0,[V.ref 0 0 n],[some (Blk.row false none (Cd.int .i64) o)]))):_):=by kernel_rfl
theorem FP (l:List Ty) (k:Int) (hl:l.length<=4000000000) : ∀ (j i:Nat) (o:List Int),i+j=l.length->o.length<=i->
  Runs prog (Ab []) (Ab [(3,DH)]) 0 (body f93 0) DH ([.j k,.ptr 0 0,.ref 1 0 o.length,.j (i:Int)],[some (.box [.sl TCd l]),some (.row false none (.int .i64) o)]) (.exit 0) ([.ref 0 0 (o++C6 k i (l.drop i)).length],[some (.row false none (.int .i64) (o++C6 k i (l.drop i)))])
 | 0,i,o,hi,ho=>by
  have hr:=HA l k o.length i o
  rw [Ac (dcF (by omega))] at hr
  rw [drop_eq_nil_of_le (by omega),C6,append_nil]
  exact .stop _ _ _ hr (by simp)
 | j+1,i,o,hi,ho=>by
  have h1:i<l.length:=by omega
  have hM:maxI=9223372036854775807:=rfl
  have hr:=HA l k o.length i o
  rw [Af (dcT (by omega)),Aa (by simp only [anE,dcE]; omega)] at hr
  simp only [ntN,gtE h1,As,A3 (n:=i) (by omega),drop_zero,take_length] at hr
  rw [drop_eq_getElem_cons h1,C6]
  by_cases h2:l[i].2.2.2.2.1=k
  ·rw [Af (by rw [h2]; exact beq_self_eq_true _),Aa (by simp only [anE,dcE]; omega)] at hr
   rw [if_pos h2]
   have ih:=FP l k hl j (i+1) (o++[(i:Int)]) (by omega) (by simp; omega)
   rw [append_assoc] at ih
   exact .step _ _ _ _ (hr.trans (by simp)) ih
  ·rw [Ac (beq_false_of_ne h2)] at hr
   rw [if_neg h2]
   exact .step _ _ _ _ hr (FP l k hl j (i+1) o (by omega) (by omega))
theorem SL:A4 prog (Ab []) (Ab [(3,DH)]) 0 (f93.body.getD .skip):=by
 refine Ax (a:=body f93 0) (by kernel_rfl) fun d ex d' h=>?_
 unfold DH at h
 dsimp only at h
 split at h
 ·rename_i k n i l o
  obtain ⟨hc,hx⟩:=Ae h
  clear h
  obtain ⟨h0,h1,h2,rfl,h4⟩:=of_decide_eq_true hc
  obtain ⟨i,rfl⟩:=eq_ofNat_of_zero_le h0
  simp only [ntN] at h1 h4 hx
  have h8:=Ar hx
  obtain ⟨rfl,rfl⟩:=Prod.mk.inj h8
  exact FP l k h2 (l.length-i) i o (by omega) h4
 ·cases h
theorem Qy (l:List Ty) (k:Int) (hc:0<=k/\k.toNat<l.length/\l.length<=4000000000):CR prog (Ab []) (Ab [(3,DH)]) f93 [.agg [.sl TCd l],.j k] []=some (.ref 0 0 (B7 l k.toNat).length,[some (.row false none (.int .i64) (B7 l k.toNat))]):=by
 have e:CR prog (Ab []) (Ab [(3,DH)]) f93 [.agg [.sl TCd l],.j k] []=((ifT (decide ((0:Int)<=i64.wrap (k+(1:Int))/\(i64.wrap (k+(1:Int))).toNat<=l.length/\l.length<=4000000000/\0=0/\
 0<=(i64.wrap (k+(1:Int))).toNat)) (some (V.ref 0 0 (Ag (Cd.int .i64).den++C6 k (i64.wrap (k+(1:Int))).toNat (drop
 (i64.wrap (k+(1:Int))).toNat l)).length,[some (Blk.row false none (Cd.int .i64) (Ag (Cd.int .i64).den++C6 k (i64.wrap (k+(1:Int))).toNat
 (drop (i64.wrap (k+(1:Int))).toNat l)))]))):_):=by kernel_rfl
 rw [e]
 clear e
 obtain ⟨h0,h1,h2⟩:=hc
 obtain ⟨k,rfl⟩:=eq_ofNat_of_zero_le h0
 rw [ntN] at h1
 have hM:maxI=9223372036854775807:=rfl
 rw [A3 (n:=k) (by omega),Aa (dcT ⟨by omega,by omega,h2,by simp,by simp⟩)]
 simp only [ntN,AI,List.nil_append]
 rfl
theorem Va:Ad prog 93 (Ent.rd1 J4).F:=by
 refine AU KnowsL.nil.knows (Λ:=(Ab [(3,DH)])) func93 (c:=f93.body.getD .skip) (by kernel_rfl) fun vs bs r hq hv hb=>?_
 unfold Ent.F J4 at hq
 dsimp only at hq
 split at hq
 ·rename_i l k
  obtain ⟨hc,hx⟩:=Ae hq
  exact ⟨SL,(Qy l k (of_decide_eq_true hc)).trans hx⟩
 ·cases hq
abbrev Wx (n:Nat):FuncId->Option Ent:=Ab [(93,.rd1 J4),(45,.rd1 (EX n))]
theorem H8 (n:Nat) (l:List Ty) (x0:Int) (x1:List UInt8) (x2:Int) (x3:Bool) (x4:Int) (p:Nat) (m i:Int) (k:Nat) (q:List Int) (ks:List (Rose Lab)):A0 prog (Wx n) (Ab [(4,DG n)]) 0 (body f45 0) (DG n) ([.ptr 0 0,.ptr 1 0,.ptr 2 0,.ref 3 0 p,.j m,.j i],[some (.box [.sl TCd l]),some (.box [.j 0,.s [],.j 0,.b false,.j 0,.ref 4 0 0]),some (.box [.j x0,.s x1,.j x2,.b x3,.j x4,.ref 5 0 k]),some (.row false none (.int .i64) q),some (.row false none (.rose LCd) []),some (.row false none (.rose LCd) ks)]) =
 ((shr (Ag LCd.rose.den) fun sh1=>ifB (decide (i<m)) (ifT (decide ((0:Int)<=i)&&decide (i<(↑p:Int))) (Ap q[0+i.toNat]? fun z=>ifT (decide ((0 :
 Int)<=z/\toNat z<l.length/\l.length<=4000000000/\l.length-toNat z<=n)) (ifT (decide ((k+1)*72<=140737488355328)&&
 decide (k+1<=maxI)) (some (Ex.normal,[V.ptr 0 0,V.ptr 1 0,V.ptr 2 0,V.ref 3 0 p,V.j m,V.j (i64.wrap (i+(1:Int)))],[some (Blk.box
 [V.sl TCd l]),some (Blk.box [V.j 0,V.s (Ag UInt8),V.j 0,V.b false,V.j 0,V.ref 4 0 0]),some (Blk.box [V.j x0,V.s x1,V.j x2,V.b x3,V.i
 .i64 x4,V.ref 5 0 (k+1)]),some (Blk.row false none (Cd.int .i64) q),some (Blk.row false none LCd.rose sh1),some (Blk.row false none LCd.rose (take k
 (drop 0 ks)++Rose.node ((t2L l (toNat z)).lab.fst,(t2L l (toNat z)).lab.snd.fst,(t2L l (toNat z)).lab.snd.snd.fst,(t2L l (toNat
 z)).lab.snd.snd.snd.fst,(t2L l (toNat z)).lab.snd.snd.snd.snd.fst,()) (take (t2L l (toNat z)).kids.length (drop 0 (t2L l (toNat z)).kids))
 :: sh1))]))))) (some (Ex.exit 0,[V.ptr 0 0,V.ptr 1 0],[some (Blk.box [V.j 0,V.s (Ag UInt8),V.j 0,V.b false,V.j 0,V.ref 2 0 0]),some (Blk.box
 [V.j x0,V.s x1,V.j x2,V.b x3,V.j x4,V.ref 3 0 k]),some (Blk.row false none LCd.rose sh1),some (Blk.row false none LCd.rose ks)]))):_):=by kernel_rfl
theorem OS (n:Nat) (l:List Ty) (k:Int):CR prog (Wx n) (Ab [(4,DG n)]) f45 [.agg [.sl TCd l],.j k] [] =
 ((ifT (decide ((0:Int)<=k)&&decide (k<(↑l.length:Int))) (Ap l[k.toNat]? fun z=>ifT (decide ((0:Int)<=k/\k.toNat<l.length/\l.length<=(4000000000 :
 Nat))) (ifT (decide ((0:Int)<=(0:Int)/\0<=(B7 l k.toNat).length/\(↑(B7 l k.toNat).length:Int)=(↑(B7 l k.toNat).length:Int)/\(B7 l
 k.toNat).length=(B7 l k.toNat).length/\0=0/\0<=0/\(B7 l k.toNat).length<=4000000000/\l.length<=(4000000000 :
 Nat))&&(B7 l k.toNat).all fun i=>decide ((0:Int)<=i/\i.toNat<l.length/\l.length-i.toNat<=n)) (some (V.agg [V.j z.fst,V.s z.snd.fst,V.i .i64
 z.snd.snd.fst,V.b z.snd.snd.snd.fst,V.j z.snd.snd.snd.snd.snd.fst,V.ref 0 0 (Ag LCd.rose.den++List.map (fun i=>t2L l (toNat i)) (drop 0
 (B7 l k.toNat))).length],[some (Blk.row false none LCd.rose (Ag LCd.rose.den++List.map (fun i=>t2L l (toNat i)) (drop 0 (B7 l
 k.toNat))))]))))):_):=by kernel_rfl
theorem IU (n:Nat) (l:List Ty) (x0:Int) (x1:List UInt8) (x2:Int) (x3:Bool) (x4:Int) (q:List Int) (hl:l.length<=4000000000) (hq:q.length<=4000000000) (hs:(q.all fun i:Int=>decide (0<=i/\i.toNat<l.length/\l.length-i.toNat<=n))=true) : ∀ (j i:Nat) (ks:List (Rose Lab)),i+j=q.length->ks.length<=i->
  Runs prog (Wx n) (Ab [(4,DG n)]) 0 (body f45 0) (DG n) ([.ptr 0 0,.ptr 1 0,.ptr 2 0,.ref 3 0 q.length,.j (q.length:Int),.j (i:Int)],[some (.box [.sl TCd l]),some (.box [.j 0,.s [],.j 0,.b false,.j 0,.ref 4 0 0]),some (.box [.j x0,.s x1,.j x2,.b x3,.j x4,.ref 5 0 ks.length]),some (.row false none (.int .i64) q),some (.row false none (.rose LCd) []),some (.row false none (.rose LCd) ks)]) (.exit 0) ([.ptr 0 0,.ptr 1 0],[some (.box [.j 0,.s [],.j 0,.b false,.j 0,.ref 2 0 0]),some (.box [.j x0,.s x1,.j x2,.b x3,.j x4,.ref 3 0 (ks++(q.drop i).map fun i=>t2L l i.toNat).length]),some (.row false none (.rose LCd) []),some (.row false none (.rose LCd) (ks++(q.drop i).map fun i=>t2L l i.toNat))])
 | 0,i,ks,hi,hk=>by
  have hr:=H8 n l x0 x1 x2 x3 x4 q.length q.length i ks.length q ks
  dsimp only [shr] at hr
  rw [Ac (dcF (by omega))] at hr
  rw [drop_eq_nil_of_le (by omega),List.map_nil,append_nil]
  exact .stop _ _ _ hr (by simp)
 | j+1,i,ks,hi,hk=>by
  have h1:i<q.length:=by omega
  have hM:maxI=9223372036854775807:=rfl
  have hr:=H8 n l x0 x1 x2 x3 x4 q.length q.length i ks.length q ks
  dsimp only [shr] at hr
  have hz:=of_decide_eq_true (all_eq_true.1 hs _ (getElem_mem h1))
  rw [Af (dcT (by omega)),Aa (by simp only [anE,dcE]; omega)] at hr
  simp only [ntN,Nat.zero_add,gtE h1,As,A3 (n:=i) (by omega),drop_zero,take_length] at hr
  rw [Aa (dcT ⟨hz.1,hz.2.1,hl,hz.2.2⟩),Aa (by simp only [anE,dcE]; omega)] at hr
  have ht:=Db (t2L l q[i].toNat)
  rw [drop_zero,take_length] at ht
  rw [ht] at hr
  rw [drop_eq_getElem_cons h1,List.map_cons]
  have ih:=IU n l x0 x1 x2 x3 x4 q hl hq hs j (i+1) (ks++[t2L l q[i].toNat]) (by omega) (by simp; omega)
  rw [append_assoc] at ih
  exact .step _ _ _ _ (hr.trans (by simp)) ih
theorem SJ (n:Nat):A4 prog (Wx n) (Ab [(4,DG n)]) 0 (f45.body.getD .skip):=by
 refine Ax (a:=body f45 0) (by kernel_rfl) fun d ex d' h=>?_
 unfold DG at h
 dsimp only at h
 split at h
 ·rename_i p m i l x0 x1 x2 x3 x4 k q ks
  obtain ⟨hc,hx⟩:=Ae h
  clear h
  rw [anE] at hc
  obtain ⟨hc,hs⟩:=hc
  obtain ⟨h0,h1,rfl,rfl,rfl,h5,h6,h7⟩:=of_decide_eq_true hc
  obtain ⟨i,rfl⟩:=eq_ofNat_of_zero_le h0
  simp only [ntN] at h1 h5 hx
  have h8:=Ar hx
  obtain ⟨rfl,rfl⟩:=Prod.mk.inj h8
  exact IU n l x0 x1 x2 x3 x4 q h7 h6 hs (q.length-i) i ks (by omega) h5
 ·cases h
theorem Qv (n:Nat) (l:List Ty) (k:Int) (hc:0<=k/\k.toNat<l.length/\l.length<=4000000000/\l.length-k.toNat<=n+1):CR prog (Wx n) (Ab [(4,DG n)]) f45 [.agg [.sl TCd l],.j k] []=some (.agg [.j (t2L l k.toNat).lab.1,.s (t2L l k.toNat).lab.2.1,.j (t2L l k.toNat).lab.2.2.1,.b (t2L l k.toNat).lab.2.2.2.1,.j (t2L l k.toNat).lab.2.2.2.2.1,.ref 0 0 (t2L l k.toNat).kids.length],[some (.row false none (.rose LCd) (t2L l k.toNat).kids)]):=by
 rw [OS]
 obtain ⟨h0,h1,h2,h3⟩:=hc
 obtain ⟨k,rfl⟩:=eq_ofNat_of_zero_le h0
 rw [ntN] at h1 h3
 have hkl:=Mr (k:Int) (l.drop (k+1)) (k+1)
 rw [List.length_drop] at hkl
 have hkl2:(B7 l k).length<=l.length-(k+1):=hkl
 rw [Aa (by simp only [anE,dcE]; omega)]
 simp only [ntN,gtE h1,As]
 rw [Aa (dcT ⟨by omega,h1,h2⟩)]
 have hall:((B7 l k).all fun i:Int=>decide (0<=i/\i.toNat<l.length/\l.length-i.toNat<=n))=true:=all_eq_true.2 fun x hx=>by
  obtain ⟨j,rfl,h5,h6⟩:=EZ hx
  exact dcT ⟨by omega,by simpa using h6,by simp; omega⟩
 rw [Aa (by rw [anE]; exact ⟨dcT ⟨by omega,by simp,by simp,by simp,by simp,by simp,by omega,h2⟩,hall⟩)]
 have hlab:A5 l k=(l[k].1,l[k].2.1,l[k].2.2.1,l[k].2.2.2.1,l[k].2.2.2.2.2.1,()):=by unfold A5; rw [gtE h1]
 rw [Ud h1,hlab]
 simp [Rose.lab,Rose.kids]
theorem Qw : ∀ n,(∀ m,m<n->Ad prog 45 (Ent.rd1 (EX m)).F)->Ad prog 45 (Ent.rd1 (EX n)).F
 | 0,_=>AX fun vs bs=>by
  unfold Ent.F EX
  dsimp only
  split
  ·rename_i l a
   have:decide (0<=a/\a.toNat<l.length/\l.length<=4000000000/\l.length-a.toNat<=0)=false:=dcF (by omega)
   rw [this]; rfl
  ·rfl
 | n+1,ih=>by
  refine AU (kc func93 Va (kc func45 (ih n (lt_succ_self n)) KnowsL.nil)).knows (Λ:=(Ab [(4,DG n)])) func45 (c:=f45.body.getD .skip) (by kernel_rfl) fun vs bs r hq hv hb=>?_
  unfold Ent.F EX at hq
  dsimp only at hq
  split at hq
  ·rename_i l a
   obtain ⟨hc,hx⟩:=Ae hq
   exact ⟨SJ n,(Qv n l a (of_decide_eq_true hc)).trans hx⟩
  ·cases hq
theorem GV:Ad prog 45 (Ent.rd1 CJ).F:=by
 refine Bb (F:=fun n=>(Ent.rd1 (EX n)).F) Qw fun vs bs r h=>?_
 unfold Ent.F CJ at h
 dsimp only at h
 split at h
 ·rename_i l a
  obtain ⟨hc,hx⟩:=Ae h
  obtain ⟨h0,h1,h2⟩:=of_decide_eq_true hc
  refine ⟨l.length,?_⟩
  unfold Ent.F EX
  dsimp only
  have:decide (0<=a/\a.toNat<l.length/\l.length<=4000000000/\l.length-a.toNat<=l.length)=true:=dcT ⟨h0,h1,h2,by omega⟩
  rw [this]
  exact hx
 ·cases h
def If (n:Nat):Gm
 | [.agg [.i .i64 z0,.s _,.i .i64 _,.b _,.i .i64 _,.sl (.rose LCd) zs]],[]=>.need (decide (Ak zs+1<=n/\Ak zs+1<=1000000)) (.leaf (.i .i64 ((BL zs+(bif Aw z0 then 1 else 0):Nat):Int),[]))
 | _,_=>.no
def Qe:Gm
 | [.agg [.i .i64 z0,.s _,.i .i64 _,.b _,.i .i64 _,.sl (.rose LCd) zs]],[]=>.need (decide (Ak zs+1<=1000000)) (.leaf (.i .i64 ((BL zs+(bif Aw z0 then 1 else 0):Nat):Int),[]))
 | _,_=>.no
def ES (n:Nat):LoopEnt:=⟨27,[1,3,8,9,10],[1,3],[],fun
 | ([.ptr 0 0,.i .i64 m,.sl (.rose LCd) ks,.i .i64 k,.i .i64 i],[some (.box [.i .i64 y0,.s y1,.i .i64 y2,.b y3,.i .i64 y4,.sl (.rose LCd) ys])])=>.need (decide (0<=m/\m<=1000001/\0<=i/\i.toNat<=ks.length/\k=ks.length/\Ak ks<=n/\Ak ks<=1000000)) (.leaf (.exit 0,([.ptr 0 0,.i .i64 ((max m.toNat (BL (ks.drop i.toNat)):Nat):Int)],[some (.box [.i .i64 y0,.s y1,.i .i64 y2,.b y3,.i .i64 y4,.sl (.rose LCd) ys])])))
 | _=>.no⟩
def Dg (l:List Ty) (u:Int):Nat->Int->Bool
 | 0,_=>false
 | f+1,x=>if x<0 then false else if x=u then true else match AY l x.toNat with | some v=>Dg l u f v | none=>false
def CT (l:List Ty) (i:Nat):Bool:=(range i).all fun j=>match AY l j with | some v=>decide (v<(j:Int)) | none=>false
def DN (l:List Ty) (i:Nat):Bool:=match AY l i with | some u=>Dg l u (i+1) ((i:Int)-1) | none=>false
def It:Gm
 | [.sl TCd l,.i .i64 i],[]=>.need (decide (0<=i/\i.toNat<l.length/\l.length<=4000000000)&&CT l i.toNat) (.leaf (.b (DN l i.toNat),[]))
 | _,_=>.no
def C4:LoopEnt:=⟨22,[0,1,5],[],[4],fun
 | ([.sl TCd l,.i .i64 i,.i .i64 x],[])=>.need (decide (0<=i/\i.toNat<l.length/\l.length<=4000000000/\x<i)&&CT l i.toNat) (.opt (.int .i64) (AY l i.toNat) fun u=>.br (Dg l u (x+1).toNat x) (.leaf (.ret,([.b true],[]))) (.leaf (.exit 0,([],[]))))
 | _=>.no⟩
theorem LV (z:Rose Lab):BL z.kids+(bif Aw z.lab.1 then 1 else 0)=BA z:=by cases z; rw [BA]; rfl
abbrev Ww (n:Nat):FuncId->Option Ent:=Ab [(96,.rd1 (If n)),(97,.rd1 EC)]
theorem IP (n:Nat) (y0:Int) (y1:List UInt8) (y2:Int) (y3:Bool) (y4:Int) (ys:List (Rose Lab)) (m:Int) (ks:List (Rose Lab)) (k i:Int):A0 prog (Ww n) (Ab [(3,ES n)]) 0 (body f96 0) (ES n) ([.ptr 0 0,.j m,.sl (.rose LCd) ks,.j k,.j i],[some (.box [.j y0,.s y1,.j y2,.b y3,.j y4,.sl (.rose LCd) ys])]) =
 ((ifB (decide (i<k)) (ifT (decide ((0:Int)<=i)&&decide (i<(↑ks.length:Int))) (Ap ks[i.toNat]? fun z=>ifT (decide (Ak (Rose.kids z)+1<=n/\Ak
 (Rose.kids z)+1<=1000000)) (ifB (decide ((↑(BL (Rose.kids z)+bif Aw (Rose.lab z).fst then 1 else 0):Int)>m)) (some
 (Ex.normal,[V.ptr 0 0,V.j (↑(BL (Rose.kids z)+bif Aw (Rose.lab z).fst then 1 else 0):Int),V.sl LCd.rose ks,V.j k,V.i .i64
 (i64.wrap (i+(1:Int)))],[some (Blk.box [V.j y0,V.s y1,V.j y2,V.b y3,V.j y4,V.sl LCd.rose ys])])) (some (Ex.normal,[V.ptr 0 0,V.i .i64
 m,V.sl LCd.rose ks,V.j k,V.j (i64.wrap (i+(1:Int)))],[some (Blk.box [V.j y0,V.s y1,V.j y2,V.b y3,V.j y4,V.sl LCd.rose
 ys])]))))) (some (Ex.exit 0,[V.ptr 0 0,V.j m],[some (Blk.box [V.j y0,V.s y1,V.j y2,V.b y3,V.j y4,V.sl LCd.rose ys])]))):_):=by kernel_rfl
theorem Qd (n:Nat) (z0:Int) (z1:List UInt8) (z2:Int) (z3:Bool) (z4:Int) (zs:List (Rose Lab)):AQ prog (Ww n) (Ab [(3,ES n)]) f96 [.agg [.j z0,.s z1,.j z2,.b z3,.j z4,.sl (.rose LCd) zs]] [] =
 ((ifT (decide ((0:Int)<=(0:Int)/\(0:Int)<=(1000001:Int)/\(0:Int)<=(0:Int)/\0<=zs.length/\(↑zs.length:Int)=(↑zs.length:Int)/\Ak zs<=n/\
 Ak zs<=1000000)) (ifB (Aw z0) (some (V.j (i64.wrap ((↑(max 0 (BL (drop 0 zs))):Int)+(1:Int))),[])) (some (V.i
 .i64 (↑(max 0 (BL (drop 0 zs))):Int),[])))):_):=by kernel_rfl
theorem JQ (n:Nat) (y0:Int) (y1:List UInt8) (y2:Int) (y3:Bool) (y4:Int) (ys:List (Rose Lab)) (ks:List (Rose Lab)) (h1:Ak ks<=n) (h2:Ak ks<=1000000) : ∀ (j i m:Nat),i+j=ks.length->m<=1000001->
  Runs prog (Ww n) (Ab [(3,ES n)]) 0 (body f96 0) (ES n) ([.ptr 0 0,.j (m:Int),.sl (.rose LCd) ks,.j (ks.length:Int),.j (i:Int)],[some (.box [.j y0,.s y1,.j y2,.b y3,.j y4,.sl (.rose LCd) ys])]) (.exit 0) ([.ptr 0 0,.j ((max m (BL (ks.drop i)):Nat):Int)],[some (.box [.j y0,.s y1,.j y2,.b y3,.j y4,.sl (.rose LCd) ys])])
 | 0,i,m,hi,hm=>by
  have hr:=IP n y0 y1 y2 y3 y4 ys m ks ks.length i
  rw [Ac (dcF (by omega))] at hr
  have e1:ks.drop i=[]:=drop_eq_nil_of_le (by omega)
  rw [e1,BL]
  exact .stop _ _ _ (hr.trans (by simp)) (by simp)
 | j+1,i,m,hi,hm=>by
  have hl:i<ks.length:=by omega
  have hM:maxI=9223372036854775807:=rfl
  have hr:=IP n y0 y1 y2 y3 y4 ys m ks ks.length i
  have hmem:=BB (getElem_mem hl)
  have hlen:=Bz ks
  have hdm:=HT ks[i]
  have hck:=Be ks[i]
  rw [Af (dcT (by omega)),Aa (by simp only [anE,dcE]; omega)] at hr
  simp only [ntN,gtE hl,As,A3 (n:=i) (by omega)] at hr
  rw [Aa (dcT ⟨by omega,by omega⟩)] at hr
  simp only [LV] at hr
  rw [drop_eq_getElem_cons hl,BL]
  have ih:=JQ n y0 y1 y2 y3 y4 ys ks h1 h2 j (i+1) (max m (BA ks[i])) (by omega) (by omega)
  rw [<-Nat.max_assoc]
  by_cases hx:(BA ks[i]:Int)>(m:Int)
  ·rw [Af (dcT hx)] at hr
   have hmx:max m (BA ks[i])=BA ks[i]:=by omega
   exact .step _ _ _ _ (hr.trans (by rw [hmx])) ih
  ·rw [Ac (dcF hx)] at hr
   have hmx:max m (BA ks[i])=m:=by omega
   exact .step _ _ _ _ (hr.trans (by rw [hmx])) ih
theorem Uq (n:Nat):A4 prog (Ww n) (Ab [(3,ES n)]) 0 (f96.body.getD .skip):=by
 refine Ax (a:=body f96 0) (by kernel_rfl) fun d ex d' h=>?_
 unfold ES at h
 dsimp only at h
 split at h
 ·rename_i m ks k i y0 y1 y2 y3 y4 ys
  obtain ⟨hc,hx⟩:=Ae h
  clear h
  obtain ⟨h0,h1,h2,h3,rfl,h5,h6⟩:=of_decide_eq_true hc
  obtain ⟨m,rfl⟩:=eq_ofNat_of_zero_le h0
  obtain ⟨i,rfl⟩:=eq_ofNat_of_zero_le h2
  simp only [ntN] at h3 hx
  have h8:=Ar hx
  obtain ⟨rfl,rfl⟩:=Prod.mk.inj h8
  exact JQ n y0 y1 y2 y3 y4 ys ks h5 h6 (ks.length-i) i m (by omega) (by omega)
 ·cases h
theorem Sr (n:Nat) (z0:Int) (z1:List UInt8) (z2:Int) (z3:Bool) (z4:Int) (zs:List (Rose Lab)) (hc:Ak zs+1<=n+1/\Ak zs+1<=1000000):AQ prog (Ww n) (Ab [(3,ES n)]) f96 [.agg [.j z0,.s z1,.j z2,.b z3,.j z4,.sl (.rose LCd) zs]] []=some (.j ((BL zs+(bif Aw z0 then 1 else 0):Nat):Int),[]):=by
 rw [Qd]
 obtain ⟨h1,h2⟩:=hc
 have hdp:=Gr zs
 rw [Aa (dcT (by refine ⟨by omega,by omega,by omega,by simp,by trivial,by omega,by omega⟩))]
 simp only [drop_zero,Nat.zero_max]
 cases hx:Aw z0 with
 | true=>rw [Bq,Ay (by omega) (by omega)]; simp
 | false=>rw [Bd]; simp
theorem Ss : ∀ n,(∀ m,m<n->Ad prog 96 (Ent.rd1 (If m)).F)->Ad prog 96 (Ent.rd1 (If n)).F
 | 0,_=>AX fun vs bs=>by
  unfold Ent.F If
  dsimp only
  split
  ·rename_i z0 z1 z2 z3 z4 zs
   rw [dcF (show ¬(Ak zs+1<=0/\Ak zs+1<=1000000) by omega)]; rfl
  ·rfl
 | n+1,ih=>by
  refine Am (kc func96 (ih n (lt_succ_self n)) (kc func97 J5 KnowsL.nil)).knows (Λ:=(Ab [(3,ES n)])) func96 (c:=f96.body.getD .skip) (by kernel_rfl) fun vs bs r hq hv hb=>?_
  unfold Ent.F If at hq
  dsimp only at hq
  split at hq
  ·rename_i z0 z1 z2 z3 z4 zs
   obtain ⟨hc,hx⟩:=Ae hq
   exact ⟨Uq n,(Sr n z0 z1 z2 z3 z4 zs (of_decide_eq_true hc)).trans hx⟩
  ·cases hq
theorem Aa2:Ad prog 96 (Ent.rd1 Qe).F:=by
 refine Bb (F:=fun n=>(Ent.rd1 (If n)).F) Ss fun vs bs r h=>?_
 unfold Ent.F Qe at h
 dsimp only at h
 split at h
 ·rename_i z0 z1 z2 z3 z4 zs
  obtain ⟨hc,hx⟩:=Ae h
  have hc:=of_decide_eq_true hc
  refine ⟨1000000,?_⟩
  show (Br.need (decide (Ak zs+1<=1000000/\Ak zs+1<=1000000)) (.leaf (.j ((BL zs+(bif Aw z0 then 1 else 0):Nat):Int),[]))).run=some r
  rw [dcT (show Ak zs+1<=1000000/\Ak zs+1<=1000000 from ⟨hc,hc⟩)]
  exact hx
 ·cases h
theorem Ky (l:List Ty) (i x:Int):A0 prog (Ab []) (Ab [(2,C4)]) 0 (body f140 0) C4 ([.sl TCd l,.j i,.j x],[]) =
 ((ifB (decide (x>=(0:Int))) (ifT (decide ((0:Int)<=i)&&decide (i<(↑l.length:Int))) (Ap l[i.toNat]? fun z=>ifB (x==z.snd.snd.snd.snd.fst) (some (Ex.ret,
 [V.b true],[])) (ifT (decide ((0:Int)<=x)&&decide (x<(↑l.length:Int))) (Ap l[x.toNat]? fun z=>some (Ex.normal,[V.sl TCd l,V.j i,V.i .i64
 z.snd.snd.snd.snd.fst],[]))))) (some (Ex.exit 0,[],[]))):_):=by kernel_rfl
theorem TT {l:List Ty} {i j:Nat} (h:CT l i=true) (hj:j<i) : ∃ v,AY l j=some v/\v<(j:Int):=by
 have:=all_eq_true.1 h j (mem_range.2 hj)
 cases hu:AY l j with
 | none=>rw [hu] at this; cases this
 | some v=>rw [hu] at this; exact ⟨v,rfl,of_decide_eq_true this⟩
theorem II {l:List Ty} {i:Nat} (h:CT l i=true) (u:Int) : ∀ (f f':Nat) (x:Int),x<(i:Int)->(x+1).toNat<=f->(x+1).toNat<=f'->Dg l u f x=Dg l u f' x
 | 0,0,x,_,_,_=>rfl
 | 0,f'+1,x,hx,h1,h2=>by rw [Dg,Dg,if_pos (by omega)]
 | f+1,0,x,hx,h1,h2=>by rw [Dg,Dg,if_pos (by omega)]
 | f+1,f'+1,x,hx,h1,h2=>by
  rw [Dg,Dg]
  by_cases a:x<0
  ·rw [if_pos a,if_pos a]
  ·rw [if_neg a,if_neg a]
   by_cases b:x=u
   ·rw [if_pos b,if_pos b]
   ·rw [if_neg b,if_neg b]
    obtain ⟨v,hv,hv2⟩:=TT h (j:=x.toNat) (by omega)
    rw [hv]
    exact II h u f f' v (by omega) (by omega) (by omega)
theorem L4 (l:List Ty) (i:Nat) (u:Int) (hi:i<l.length) (_:l.length<=4000000000) (hu:AY l i=some u) (hs:CT l i=true) : ∀ (j:Nat) (x:Int),(x+1).toNat=j->x<(i:Int)->∀ ex d,(Br.br (Dg l u (x+1).toNat x) (.leaf (.ret,([.b true],[]))) (.leaf (.exit 0,([],[]))):Br (Ex×Dt)).run=some (ex,d)->
  Runs prog (Ab []) (Ab [(2,C4)]) 0 (body f140 0) C4 ([.sl TCd l,.j (i:Int),.j x],[]) ex d:=by
 intro j
 induction j using strongRecOn with
 | ind j ih=>
  intro x hj hx ex d h
  have hr:=Ky l i x
  have h0:l[i].2.2.2.2.1=u:=by unfold AY at hu; rw [gtE hi] at hu; exact Option.some.inj hu
  by_cases a:x<0
  ·rw [Ac (dcF (by omega))] at hr
   have e0:(x+1).toNat=0:=by omega
   rw [e0,Dg] at h
   have h8:=Ar h
   obtain ⟨rfl,rfl⟩:=Prod.mk.inj h8
   exact .stop _ _ _ hr (by simp)
  ·rw [Af (dcT (by omega)),Aa (by simp only [anE,dcE]; omega)] at hr
   simp only [ntN,gtE hi,As,h0] at hr
   obtain ⟨x,rfl⟩:=eq_ofNat_of_zero_le (by omega:0<=x)
   have e0:((x:Int)+1).toNat=x+1:=by omega
   rw [e0,Dg,if_neg (by omega)] at h
   by_cases b:(x:Int)=u
   ·rw [if_pos b] at h
    rw [Af (by rw [b]; exact beq_self_eq_true _)] at hr
    have h8:=Ar h
    obtain ⟨rfl,rfl⟩:=Prod.mk.inj h8
    exact .stop _ _ _ hr (by simp)
   ·rw [if_neg b] at h
    have hxl:x<l.length:=by omega
    rw [Ac (beq_false_of_ne b),Aa (by simp only [anE,dcE]; omega)] at hr
    simp only [ntN,gtE hxl,As] at hr
    obtain ⟨v,hv,hv2⟩:=TT hs (j:=x) (by omega)
    have hv3:l[x].2.2.2.2.1=v:=by unfold AY at hv; rw [gtE hxl] at hv; exact Option.some.inj hv
    rw [ntN,hv] at h
    dsimp only at h
    rw [II hs u x (v+1).toNat v (by omega) (by omega) (Nat.le_refl _)] at h
    rw [hv3] at hr
    exact .step _ _ _ _ hr (ih (v+1).toNat (by omega) v rfl (by omega) ex d h)
theorem OV:A4 prog (Ab []) (Ab [(2,C4)]) 0 (f140.body.getD .skip):=by
 refine Ax (a:=body f140 0) (by kernel_rfl) fun d ex d' h=>?_
 unfold C4 at h
 dsimp only at h
 split at h
 ·rename_i l i x
  obtain ⟨hc,hx⟩:=Ae h
  clear h
  rw [anE] at hc
  obtain ⟨hc,hs⟩:=hc
  obtain ⟨h0,h1,h2,h3⟩:=of_decide_eq_true hc
  obtain ⟨i,rfl⟩:=eq_ofNat_of_zero_le h0
  simp only [ntN] at h1 hs hx
  cases hu:AY l i with
  | some u=>rw [hu] at hx; exact L4 l i u h1 h2 hu hs _ x rfl h3 ex d' hx
  | none=>rw [hu] at hx; cases hx
 ·cases h
theorem Nu (l:List Ty) (i:Int) (hc:0<=i/\i.toNat<l.length/\l.length<=4000000000) (hs:CT l i.toNat=true):AQ prog (Ab []) (Ab [(2,C4)]) f140 [.sl TCd l,.j i] []=some (.b (DN l i.toNat),[]):=by
 have e:AQ prog (Ab []) (Ab [(2,C4)]) f140 [.sl TCd l,.j i] []=((ifT (decide ((0:Int)<=i/\i.toNat<l.length/\l.length<=4000000000/\i64.wrap (i-(1:Int))<i)&&CT l i.toNat) (Ap (AY l i.toNat) fun z
 => ifB (Dg l z (i64.wrap (i-(1:Int))+(1:Int)).toNat (i64.wrap (i-(1:Int)))) (some (V.b true,[])) (some (V.b false,[])))):_):=by kernel_rfl
 obtain ⟨h0,h1,h2⟩:=hc
 obtain ⟨i,rfl⟩:=eq_ofNat_of_zero_le h0
 simp only [ntN] at h1 hs
 have hw:i64.wrap ((i:Int)-1)=(i:Int)-1:=Ay (by omega) (by omega)
 obtain ⟨u,hu⟩ : ∃ u,AY l i=some u:=⟨_,by unfold AY; rw [gtE h1]; rfl⟩
 rw [e]
 clear e
 rw [hw]
 simp only [ntN]
 rw [Aa (by rw [anE]; exact ⟨dcT ⟨by omega,h1,h2,by omega⟩,hs⟩)]
 unfold DN
 rw [hu,As]
 have e2:Dg l u (i+1) ((i:Int)-1)=Dg l u ((i:Int)-1+1).toNat ((i:Int)-1):=II hs u _ _ _ (by omega) (by omega) (Nat.le_refl _)
 dsimp only
 rw [e2]
 cases Dg l u ((i:Int)-1+1).toNat ((i:Int)-1)<;>rfl
theorem Vb:Ad prog 140 (Ent.rd1 It).F:=by
 refine Am KnowsL.nil.knows (Λ:=(Ab [(2,C4)])) func140 (c:=f140.body.getD .skip) (by kernel_rfl) fun vs bs r hq hv hb=>?_
 unfold Ent.F It at hq
 dsimp only at hq
 split at hq
 ·rename_i l i
  obtain ⟨hc,hx⟩:=Ae hq
  rw [anE] at hc
  exact ⟨OV,(Nu l i (of_decide_eq_true hc.1) hc.2).trans hx⟩
 ·cases hq
def Sm (u no:Int) (nm:List UInt8) (l:List Ty):Bool:=l.all fun o=>!(o.2.2.2.2.1==u&&(decide (o.2.2.1>=no)||o.2.1==nm))
def Ed (l:List Ty) (i:Nat):Bool:=match AY l i with
 | none=>false
 | some u=>decide (0<=u/\u<(i:Int))&&Aw (A5 l u.toNat).1&&DN l i&&(if (A5 l u.toNat).1=4 then (A5 l i).2.1==[]&&(A5 l i).2.2.1==0&&!(A5 l i).2.2.2.1
  else FJ (A5 l i).2.1&&(decide (1<=(A5 l i).2.2.1)&&decide ((A5 l i).2.2.1<=30))&&Sm u (A5 l i).2.2.1 (A5 l i).2.1 ((l.take i).drop (u.toNat+1)))
def kmB (x:Lab):Bool:=decide (1<=x.1/\x.1<=5)&&(if x.1=3 then decide (0<=x.2.2.2.2.1/\x.2.2.2.2.1<=20) else x.2.2.2.2.1==0)
def okT (l:List Ty) (i:Nat):Bool:=kmB (A5 l i)&&(if i=0 then (A5 l 0).1==5&&decide (AY l 0=some (-1))&&(A5 l 0).2.1==[]&&(A5 l 0).2.2.1==0&&!(A5 l 0).2.2.2.1 else Ed l i)
def E2 (l:List Ty) (i:Nat):Bool:=!((A5 l i).1==4&&(B7 l i).length != 1)
def K4 (l:List Ty):Bool:=decide (1<=l.length/\l.length<=30)&&(range l.length).all (okT l)&&(range l.length).all (E2 l)&&decide (BA (t2L l 0)<=5)
inductive Out (l:List Ty):Nat->Nat->Prop
 | refl (x:Nat):Out l x x
 | step (x v y:Nat) (h:AY l x=some (v:Int)) (h2:Out l v y):Out l x y
structure Ord (l:List Ty):Prop where
 zero:AY l 0=some (-1)
 up : ∀ i,0<i->i<l.length->∃ u:Nat,AY l i=some (u:Int)/\u<i/\Aw (A5 l u).1=true/\Out l (i-1) u
def KK (l:List Ty) (a s t:Nat):List Nat:=(List.range' s (t-s)).filter fun j=>decide (AY l j=some (a:Int))
theorem Out.trans {l:List Ty} {x y z:Nat} (h:Out l x y) (h2:Out l y z):Out l x z:=by
 induction h with
 | refl=>exact h2
 | step x v y h _ ih=>exact .step x v z h (ih h2)
theorem Lr (l:List Ty) (u:Int) : ∀ (f:Nat) (x:Nat),Dg l u f (x:Int)=true->∃ y:Nat,u=(y:Int)/\Out l x y
 | 0,x,h=>by rw [Dg] at h; cases h
 | f+1,x,h=>by
  rw [Dg,if_neg (by omega)] at h
  split at h
  ·rename_i e; exact ⟨x,e.symm,.refl x⟩
  ·rw [ntN] at h
   cases hu:AY l x with
   | none=>rw [hu] at h; cases h
   | some v=>
    rw [hu] at h
    dsimp only at h
    by_cases hv:v<0
    ·cases f with
     | zero=>rw [Dg] at h; cases h
     | succ f=>rw [Dg,if_pos hv] at h; cases h
    ·obtain ⟨v,rfl⟩:=eq_ofNat_of_zero_le (by omega:0<=v)
     obtain ⟨y,h1,h2⟩:=Lr l u f v h
     exact ⟨y,h1,.step x v y hu h2⟩
theorem UB {l:List Ty} {i x y:Nat} (hs : ∀ j,j<i->∀ v:Nat,AY l j=some (v:Int)->v<j) (h:Out l x y):x<i->y<=x:=by
 induction h with
 | refl=>intro _; exact Nat.le_refl _
 | step x v y h _ ih=>intro hx; have:=hs x hx v h; have:=ih (by omega); omega
theorem O8 {l:List Ty} {i x y:Nat} (hs : ∀ j,j<i->∀ v:Nat,AY l j=some (v:Int)->v<j) (h:Out l x y):x<i->∀ f,x+1<=f->Dg l (y:Int) f (x:Int)=true:=by
 induction h with
 | refl x=>
  intro hx f hf
  obtain ⟨f,rfl⟩ : ∃ g,f=g+1:=⟨f-1,by omega⟩
  rw [Dg,if_neg (by omega),if_pos rfl]
 | step x v y h _ ih=>
  intro hx f hf
  obtain ⟨f,rfl⟩ : ∃ g,f=g+1:=⟨f-1,by omega⟩
  rw [Dg,if_neg (by omega)]
  split
  ·rfl
  ·rw [ntN,h]
   have:=hs x hx v h
   exact ih (by omega) f (by omega)
theorem Ord.lt {l:List Ty} (H:Ord l) : ∀ j,j<l.length->∀ v:Nat,AY l j=some (v:Int)->v<j:=fun j hj v hv=>by
 rcases Nat.eq_zero_or_pos j with rfl | hp
 ·rw [H.zero] at hv; injection hv with hv; omega
 ·obtain ⟨u,h1,h2,_⟩:=H.up j hp hj
  rw [h1] at hv; injection hv with hv; omega
theorem Zh {l:List Ty} {c e x y:Nat} (hs : ∀ j,j<e->∀ v:Nat,AY l j=some (v:Int)->v<j) (hb : ∀ j,c<j->j<e->∃ u:Nat,AY l j=some (u:Int)/\c<=u) (h:Out l x y):c<=x->x<e->c<=y\/∃ v:Nat,AY l c=some (v:Int)/\Out l v y:=by
 induction h with
 | refl x=>intro h1 _; exact .inl h1
 | step x v y h h2 ih=>
  intro h1 h3
  by_cases e1:x=c
  ·subst e1; exact .inr ⟨v,h,h2⟩
  ·obtain ⟨u,g1,g2⟩:=hb x (by omega) h3
   rw [h] at g1; injection g1 with g1
   have:=hs x h3 v h
   exact ih (by omega) (by omega)
theorem Zi {l:List Ty} {a e i x y:Nat} (hs : ∀ j,j<i->∀ v:Nat,AY l j=some (v:Int)->v<j) (ha:a<=i) (hn : ∀ j,e<=j->j<i->∀ u:Nat,AY l j=some (u:Int)->u<a\/e<=u) (h:Out l x y):e<=x->x<i->y<a\/e<=y:=by
 induction h with
 | refl x=>intro h1 _; exact .inr h1
 | step x v y h h2 ih=>
  intro h1 h3
  have:=hs x h3 v h
  rcases hn x h1 h3 v h with h4 | h4
  ·have:=UB hs h2 (by omega)
   exact .inl (by omega)
  ·exact ih h4 (by omega)
theorem NQ {l:List Ty} {a s t u:Nat} (h1:s<=t) (h2:t<=u):KK l a s t++KK l a t u=KK l a s u:=by
 unfold KK
 rw [<-List.filter_append]
 congr 1
 have e:t=s+(t-s):=by omega
 conv=>lhs; rhs; rw [e]
 rw [show s+(t-s)=s+1*(t-s) by omega,List.range'_append]
 congr 1; omega
theorem Hl {l:List Ty} {a s t:Nat} (h : ∀ j,s<=j->j<t->AY l j≠some (a:Int)):KK l a s t=[]:=by
 unfold KK
 rw [List.filter_eq_nil_iff]
 intro j hj
 have:=List.mem_range'_1.1 hj
 simpa using h j (by omega) (by omega)
theorem W0 {l:List Ty} {a e t:Nat} (h0:e<t) (h:AY l e=some (a:Int)) (h2 : ∀ j,e<j->j<t->AY l j≠some (a:Int)):KK l a e t=[e]:=by
 have e1:KK l a e (e+1)=[e]:=by
  unfold KK
  rw [show e+1-e=1 by omega,List.range'_one]
  simp [h]
 rw [<-NQ (Nat.le_succ e) h0,e1,Hl (fun j hj hj2=>h2 j (by omega) hj2)]
 rfl
theorem RF (l:List Ty) (a:Nat) : ∀ (n i:Nat),l.length-i=n->C6 (a:Int) i (l.drop i)=(KK l a i l.length).map ofNat
 | 0,i,h=>by
  rw [drop_eq_nil_of_le (by omega),C6,Hl (fun j h1 h2=>by omega)]; rfl
 | n+1,i,h=>by
  have hl:i<l.length:=by omega
  rw [drop_eq_getElem_cons hl,C6,RF l a n (i+1) (by omega),<-NQ (Nat.le_succ i) hl (l:=l) (a:=a)]
  have hu:AY l i=some (l[i].2.2.2.2.1):=by unfold AY; rw [gtE hl]; rfl
  by_cases hk:l[i].2.2.2.2.1=(a:Int)
  ·rw [if_pos hk,W0 (lt_succ_self i) (by rw [hu,hk]) (fun j h1 h2=>by omega)]; rfl
  ·rw [if_neg hk,Hl (s:=i) (fun j h1 h2=>by
    have:j=i:=by omega
    subst this; rw [hu]; exact fun h=>hk (Option.some.inj h))]; rfl
theorem Ms (l:List Ty) (a:Nat):B7 l a=(KK l a (a+1) l.length).map ofNat:=RF l a _ (a+1) rfl
theorem Rj {l:List Ty} {a:Nat} (h:a<l.length):t2L l a = .node (A5 l a) ((KK l a (a+1) l.length).map (t2L l)):=by
 rw [Ud h,Ms,List.map_map]
 rfl
structure Blk2 (l:List Ty) (a:Nat):Prop where
 inn : ∀ j,a<j->j<(kf l a).2->∃ u:Nat,AY l j=some (u:Int)/\a<=u
 out:(kf l a).2<l.length->∀ u:Nat,AY l (kf l a).2=some (u:Int)->u<a
 tree:(kf l a).1=t2L l a
theorem OJ {l:List Ty} (H:Ord l) {a:Nat} (ha:a<l.length) (IH : ∀ b,a<b->b<l.length->Blk2 l b) : ∀ (n e:Nat) (ks:List (Rose Lab)),l.length-e<=n->a<e->e<=l.length->
  (∀ j,a<j->j<e->∃ u:Nat,AY l j=some (u:Int)/\a<=u)->(e<l.length->∀ u:Nat,AY l e=some (u:Int)->u<=a)->ks=(KK l a (a+1) e).map (t2L l)->
  (∀ j,a<j->j<(AD (kf l) l a n e ks).2->∃ u:Nat,AY l j=some (u:Int)/\a<=u)/\((AD (kf l) l a n e ks).2<l.length->∀ u:Nat,AY l (AD (kf l) l a n e ks).2=some (u:Int)->u<a)/\(AD (kf l) l a n e ks).1=(KK l a (a+1) (AD (kf l) l a n e ks).2).map (t2L l)/\a<(AD (kf l) l a n e ks).2
 | 0,e,ks,h1,h2,h3,h4,h5,h6=>⟨h4,fun h=>by simp only [AD] at h; omega,h6,h2⟩
 | n+1,e,ks,h1,h2,h3,h4,h5,h6=>by
  unfold AD
  split
  ·rename_i hu
   have hl:=DX hu
   obtain ⟨b1,b2⟩:=Cx l e hl
   have B:=IH e h2 hl
   have inn' : ∀ j,a<j->j<(kf l e).2->∃ u:Nat,AY l j=some (u:Int)/\a<=u:=fun j g1 g2=>by
    rcases Nat.lt_trichotomy j e with g3 | g3 | g3
    ·exact h4 j g1 g3
    ·subst g3; exact ⟨a,hu,Nat.le_refl _⟩
    ·obtain ⟨u,k1,k2⟩:=B.inn j g3 g2; exact ⟨u,k1,by omega⟩
   refine OJ H ha IH n (kf l e).2 _ (by omega) (by omega) b2 inn' (fun g1 u g2=>?_) ?_
   ·have g3:=B.out g1 u g2
    obtain ⟨u',k1,k2,k3,k4⟩:=H.up (kf l e).2 (by omega) g1
    rw [g2] at k1; injection k1 with k1
    have:u=u':=by omega
    subst this
    rcases Zh (fun j hj=>H.lt j (by omega)) B.inn k4 (by omega) (by omega) with k5 | ⟨v,k5,k6⟩
    ·omega
    ·rw [hu] at k5; injection k5 with k5
     have:a=v:=by omega
     subst this
     exact UB H.lt k6 ha
   ·rw [h6,B.tree,<-NQ (l:=l) (a:=a) (show a+1<=e by omega) (Nat.le_of_lt b1),List.map_append,W0 b1 hu (fun j g1 g2 g3=>by
     obtain ⟨u,k1,k2⟩:=B.inn j g1 g2
     rw [g3] at k1; injection k1 with k1; omega)]
    rfl
  ·rename_i hu
   refine ⟨h4,fun g1 u g2=>?_,h6,h2⟩
   have:=h5 g1 u g2
   have:u≠a:=fun e=>by subst e; exact hu g2
   omega
theorem Sa {l:List Ty} (H:Ord l) : ∀ (n a:Nat),l.length-a<=n->a<l.length->Blk2 l a
 | 0,a,h1,h2=>by omega
 | n+1,a,h1,h2=>by
  have IH : ∀ b,a<b->b<l.length->Blk2 l b:=fun b g1 g2=>Sa H n b (by omega) g2
  have hq:a+1<l.length->∀ u:Nat,AY l (a+1)=some (u:Int)->u<=a:=fun g1 u g2=>by
   have:=H.lt (a+1) g1 u g2; omega
  have hk:=Mt h2
  cases hh:Aw (A5 l a).1 with
  | true=>
   rw [hh,cond_true] at hk
   obtain ⟨r1,r2,r3,r4⟩:=OJ H h2 IH l.length (a+1) [] (by omega) (by omega) (by omega) (fun j g1 g2=>by omega) hq (by rw [Hl (fun j g1 g2=>by omega)]; rfl)
   have hb:=Gj (a:=a) (Cx l) l.length (a+1) [] h2
   generalize AD (kf l) l a l.length (a+1) []=r at *
   have hN : ∀ j,r.2<=j->j<l.length->∀ u:Nat,AY l j=some (u:Int)->u<a\/r.2<=u:=by
    intro j
    induction j using strongRecOn with
    | ind j ih=>
     intro g1 g2 u g3
     by_cases e:j=r.2
     ·subst e; exact .inl (r2 g2 u g3)
     ·obtain ⟨u',k1,k2,k3,k4⟩:=H.up j (by omega) g2
      rw [g3] at k1; injection k1 with k1
      have:u=u':=by omega
      subst this
      exact Zi (i:=j) (fun x hx=>H.lt x (by omega)) (by omega) (fun x q1 q2=>ih x q2 q1 (by omega)) k4 (by omega) (by omega)
   refine ⟨by rw [hk]; exact r1,by rw [hk]; exact r2,?_⟩
   rw [hk,Rj h2,r3,<-NQ (l:=l) (a:=a) (show a+1<=r.2 by omega) hb.2,Hl (s:=r.2) (fun j g1 g2 g3=>by
    rcases hN j g1 g2 a g3 with k | k<;>omega),append_nil]
  | false=>
   rw [hh,cond_false] at hk
   have none : ∀ j,a<j->j<l.length->AY l j≠some (a:Int):=fun j g1 g2 g3=>by
    obtain ⟨u,k1,k2,k3,k4⟩:=H.up j (by omega) g2
    rw [g3] at k1; injection k1 with k1
    have:a=u:=by omega
    subst this
    rw [hh] at k3; cases k3
   refine ⟨?_,?_,?_⟩
   ·rw [hk]; intro j g1 g2
    have g2:j<a+1:=g2
    omega
   ·rw [hk]; intro g1 u g2
    have g1:a+1<l.length:=g1
    have:=hq g1 u g2
    have:u≠a:=fun e=>by subst e; exact none _ (by omega) g1 g2
    omega
   rw [hk,Rj h2,Hl (fun j g1 g2=>none j (by omega) g2)]
   rfl
theorem Ord.end' {l:List Ty} (H:Ord l) (h:0<l.length):(kf l 0).2=l.length/\(kf l 0).1=t2L l 0:=by
 have B:=Sa H l.length 0 (by omega) h
 have hb:=Cx l 0 h
 refine ⟨?_,B.tree⟩
 by_cases e:(kf l 0).2<l.length
 ·obtain ⟨u,k1,_⟩:=H.up _ hb.1 e
  have:=B.out e u k1; omega
 ·omega
def GB (y z:Lab):Prop:=y.2.2.1<z.2.2.1/\y.2.1≠z.2.1
structure Prs (l:List Ty) (a:Nat):Prop where
 inn : ∀ j,a<j->j<(kf l a).2->∃ u:Nat,AY l j=some (u:Int)/\a<=u/\u<j/\Aw (A5 l u).1=true/\Out l (j-1) u
 out : ∀ j,a<=j->j<(kf l a).2->Out l j a
theorem OI {l:List Ty} {a:Nat} (ha:a<l.length) (hh:Aw (A5 l a).1=true) (IH : ∀ b,a<b->b<l.length->Prs l b) : ∀ (n e:Nat) (ks:List (Rose Lab)),a<e->e<=l.length->
  (∀ j,a<j->j<e->∃ u:Nat,AY l j=some (u:Int)/\a<=u/\u<j/\Aw (A5 l u).1=true/\Out l (j-1) u)->(∀ j,a<=j->j<e->Out l j a)->
  (∀ j,a<j->j<(AD (kf l) l a n e ks).2->∃ u:Nat,AY l j=some (u:Int)/\a<=u/\u<j/\Aw (A5 l u).1=true/\Out l (j-1) u)/\(∀ j,a<=j->j<(AD (kf l) l a n e ks).2->Out l j a)
 | 0,e,ks,h1,h2,h3,h4=>⟨h3,h4⟩
 | n+1,e,ks,h1,h2,h3,h4=>by
  unfold AD
  split
  ·rename_i hu
   have hl:=DX hu
   obtain ⟨b1,b2⟩:=Cx l e hl
   have B:=IH e h1 hl
   refine OI ha hh IH n (kf l e).2 _ (by omega) b2 (fun j g1 g2=>?_) (fun j g1 g2=>?_)
   ·rcases Nat.lt_trichotomy j e with g3 | g3 | g3
    ·exact h3 j g1 g3
    ·subst g3; exact ⟨a,hu,Nat.le_refl _,h1,hh,h4 (j-1) (by omega) (by omega)⟩
    ·obtain ⟨u,k1,k2,k3⟩:=B.inn j g3 g2; exact ⟨u,k1,by omega,k3⟩
   ·by_cases g3:j<e
    ·exact h4 j g1 g3
    ·exact (B.out j (by omega) g2).trans (.step e a a hu (.refl a))
  ·exact ⟨h3,h4⟩
theorem Ru {l:List Ty} : ∀ (n a:Nat),l.length-a<=n->a<l.length->Prs l a
 | 0,a,h1,h2=>by omega
 | n+1,a,h1,h2=>by
  have IH : ∀ b,a<b->b<l.length->Prs l b:=fun b g1 g2=>Ru n b (by omega) g2
  have hk:=Mt h2
  have base : ∀ j,a<=j->j<a+1->Out l j a:=fun j g1 g2=>by
   have:j=a:=by omega
   subst this; exact .refl j
  cases hh:Aw (A5 l a).1 with
  | true=>
   rw [hh,cond_true] at hk
   obtain ⟨r1,r2⟩:=OI h2 hh IH l.length (a+1) [] (by omega) (by omega) (fun j g1 g2=>by omega) base
   exact ⟨by rw [hk]; exact r1,by rw [hk]; exact r2⟩
  | false=>
   rw [hh,cond_false] at hk
   refine ⟨?_,by rw [hk]; exact base⟩
   rw [hk]; intro j g1 g2
   have g2:j<a+1:=g2
   omega
theorem DC {l:List Ty} (h:0<l.length) (h0:AY l 0=some (-1)) (he:(kf l 0).2=l.length):Ord l:=by
 have B:=Ru l.length 0 (by omega) h
 refine ⟨h0,fun i g1 g2=>?_⟩
 obtain ⟨u,k1,k2,k3,k4,k5⟩:=B.inn i g1 (by omega)
 exact ⟨u,k1,k3,k4,k5⟩
theorem O9 {l:List Ty} (h:0<l.length) (ho:(range l.length).all (okT l)=true):Ord l:=by
 have at' : ∀ i,i<l.length->okT l i=true:=fun i hi=>all_eq_true.1 ho i (mem_range.2 hi)
 refine ⟨?_,fun i g1 g2=>?_⟩
 ·have:=at' 0 h
  unfold okT at this
  rw [if_pos rfl] at this
  simp only [anE,dcE] at this
  exact this.2.1.1.1.2
 ·have:=at' i g2
  unfold okT Ed at this
  rw [if_neg (by omega),anE] at this
  have this:=this.2
  cases hu:AY l i with
  | none=>rw [hu] at this; cases this
  | some u=>
   rw [hu] at this
   simp only [anE,dcE] at this
   obtain ⟨⟨⟨⟨c1,c2⟩,c3⟩,c4⟩,_⟩:=this
   obtain ⟨u,rfl⟩:=eq_ofNat_of_zero_le c1
   unfold DN at c4
   rw [hu] at c4
   dsimp only at c4
   have e:(i:Int)-1=((i-1:Nat):Int):=by omega
   rw [e] at c4
   obtain ⟨y,k1,k2⟩:=Lr l u (i+1) (i-1) c4
   have:u=y:=by omega
   subst this
   exact ⟨u,rfl,by omega,c3,k2⟩
theorem Ord.around {l:List Ty} (H:Ord l) {i:Nat} (h1:0<i) (h2:i<l.length):DN l i=true:=by
 obtain ⟨u,k1,k2,k3,k4⟩:=H.up i h1 h2
 unfold DN
 rw [k1]
 dsimp only
 have e:(i:Int)-1=((i-1:Nat):Int):=by omega
 rw [e]
 exact O8 (i:=l.length) H.lt k4 (by omega) (i+1) (by omega)
/-! Maps. -/
theorem OF (x y:List UInt8) (v:Bool) : ∀ l:List (List UInt8×Bool),EB .str (F0 .str l x v) y=if y=x then some v else EB .str l y
 | []=>by
  show (match D8 .str y x with | true=>some v | false=>EB .str [] y)=_
  by_cases h:y=x
  ·subst h
   have:D8 .str y y=true:=beq_self_eq_true y
   rw [this,if_pos rfl]
  ·have:D8 .str y x=false:=beq_false_of_ne h
   rw [this,if_neg h]
 | e::l=>by
  unfold F0
  by_cases h:x=e.1
  ·subst h
   simp only [D8,beq_self_eq_true]
   unfold EB
   by_cases h2:y=e.1
   ·subst h2; simp [D8]
   ·simp only [D8,beq_false_of_ne h2,if_neg h2]
  ·have:D8 .str x e.1=false:=beq_false_of_ne h
   rw [this]
   dsimp only
   unfold EB
   by_cases h2:y=e.1
   ·subst h2; simp [D8,Ne.symm h]
   ·have h3:D8 .str y e.1=false:=beq_false_of_ne h2
    rw [h3]
    exact OF x y v l
theorem R4 : ∀ (l pre:List (Rose Lab)) (seen:List (List UInt8×Bool)),(∀ nm,(EB .str seen nm).getD false=true↔∃ z∈pre,z.lab.2.1=nm)->pre.Pairwise (fun y z=>GB y.lab z.lab)->
  (H1 (pre++l) pre.length seen l=true↔(pre++l).Pairwise (fun y z=>GB y.lab z.lab))
 | [],pre,seen,_,hp=>by rw [H1,append_nil]; exact ⟨fun _=>hp,fun _=>rfl⟩
 | z::l,pre,seen,hs,hp=>by
  have hpg:EU (pre++z::l) pre.length z.lab.2.2.1=true↔∃ y,pre.getLast? = some y/\y.lab.2.2.1>=z.lab.2.2.1:=by
   cases hl:pre.getLast? with
   | none=>
    have:pre=[]:=by simpa using hl
    subst this
    simp [EU]
   | some y=>
    have hne:pre≠[]:=by intro e; subst e; cases hl
    obtain ⟨m,hm⟩ : ∃ m,pre.length=m+1:=⟨pre.length-1,by have:=List.length_pos_iff.2 hne; omega⟩
    have hy:(pre++z::l)[m]? = some y:=by
     rw [List.getElem?_append_left (by omega),<-hl,List.getLast?_eq_getElem?,hm]; rfl
    rw [hm]
    unfold EU
    dsimp only
    rw [hy]
    simp
  have hR:(∀ y∈pre,GB y.lab z.lab)↔¬((EB .str seen z.lab.2.1).getD false||EU (pre++z::l) pre.length z.lab.2.2.1)=true:=by
   rw [Bool.or_eq_true,hs,hpg]
   constructor
   ·rintro h (⟨y,g1,g2⟩ | ⟨y,g1,g2⟩)
    ·exact (h y g1).2 g2
    ·have:=(h y (List.mem_of_getLast? g1)).1; omega
   ·intro h y hy
    refine ⟨?_,fun e=>h (.inl ⟨y,hy,e⟩)⟩
    cases hl:pre.getLast? with
    | none=>
     have:pre=[]:=by simpa using hl
     subst this; cases hy
    | some w=>
     have h1 : ¬w.lab.2.2.1>=z.lab.2.2.1:=fun g=>h (.inr ⟨w,hl,g⟩)
     have hne:pre≠[]:=by intro e; subst e; cases hl
     have e:pre=pre.dropLast++[w]:=by
      rw [List.getLast?_eq_some_getLast hne] at hl
      have:=(List.dropLast_concat_getLast hne).symm
      rw [Option.some.inj hl] at this
      exact this
     rw [e] at hy hp
     rcases List.mem_append.1 hy with hy | hy
     ·have:=(List.pairwise_append.1 hp).2.2 y hy w (by simp)
      have:=this.1; omega
     ·simp at hy; subst hy; omega
  rw [H1]
  by_cases hc:((EB .str seen z.lab.2.1).getD false||EU (pre++z::l) pre.length z.lab.2.2.1)=true
  ·rw [if_pos hc]
   refine ⟨fun h=>(by cases h),fun h=>?_⟩
   exact absurd hc (hR.1 fun y hy=>(List.pairwise_append.1 h).2.2 y hy z (by simp))
  ·rw [if_neg hc]
   have hall:=hR.2 hc
   have hp2:(pre++[z]).Pairwise (fun y z=>GB y.lab z.lab):=List.pairwise_append.2 ⟨hp,List.pairwise_singleton _ _,fun y hy w hw=>by simp at hw; subst hw; exact hall y hy⟩
   have ih:=R4 l (pre++[z]) (F0 .str seen z.lab.2.1 true) (fun nm=>by
    rw [OF]
    by_cases e:nm=z.lab.2.1
    ·rw [if_pos e]; simp [e]
    ·rw [if_neg e,hs]
     constructor
     ·rintro ⟨w,g1,g2⟩; exact ⟨w,by simp [g1],g2⟩
     ·rintro ⟨w,g1,g2⟩
      rcases List.mem_append.1 g1 with g1 | g1
      ·exact ⟨w,g1,g2⟩
      ·simp at g1; subst g1; exact absurd g2.symm e) hp2
   rw [append_assoc] at ih
   simpa using ih
theorem H0 (zs:List (Rose Lab)):H1 zs 0 [] zs=true↔zs.Pairwise (fun y z=>GB y.lab z.lab):=by
 have:=R4 zs [] [] (fun nm=>by simp [EB]) List.Pairwise.nil
 simpa using this
theorem Fv {R:Nat->Nat->Prop} : ∀ {l:List Nat},l.Pairwise (· < ·)->(l.Pairwise R↔∀ a∈l,∀ b∈l,a<b->R a b)
 | [],_=>by simp
 | x::l,h=>by
  rw [List.pairwise_cons] at h
  rw [List.pairwise_cons,Fv h.2]
  constructor
  ·rintro ⟨h1,h2⟩ a ha b hb hab
   rcases mem_cons.1 ha with ea | ha'
   ·rcases mem_cons.1 hb with eb | hb'
    ·omega
    ·rw [ea]; exact h1 b hb'
   ·rcases mem_cons.1 hb with eb | hb'
    ·have:=h.1 a ha'; omega
    ·exact h2 a ha' b hb' hab
  ·intro g
   exact ⟨fun b hb=>g x (by simp) b (by simp [hb]) (h.1 b hb),fun a ha b hb hab=>g a (by simp [ha]) b (by simp [hb]) hab⟩
theorem D5 {l:List Ty} {a s t j:Nat}:j∈KK l a s t↔(s<=j/\j<t)/\AY l j=some (a:Int):=by
 unfold KK
 rw [List.mem_filter,List.mem_range'_1,dcE]
 constructor
 ·rintro ⟨h1,h2⟩; exact ⟨by omega,h2⟩
 ·rintro ⟨h1,h2⟩; exact ⟨by omega,h2⟩
theorem TC (l:List Ty) (a s t:Nat):(KK l a s t).Pairwise (· < ·):=(List.pairwise_lt_range').filter _
def CD (l:List Ty):Prop:=∀ j,j<l.length->B5 (A5 l j) ((KK l j (j+1) l.length).map (t2L l))=true/\∀ c∈KK l j (j+1) l.length,D1 (A5 l j).1 (A5 l c)=true
theorem GH {l:List Ty} {a:Nat} (h:a<l.length):(t2L l a).lab=A5 l a:=by rw [Rj h]; rfl
theorem Ka (k:Int) : ∀ ks:List (Rose Lab),A8 k ks=true↔∀ z∈ks,D1 k z.lab=true/\Aj z=true
 | []=>by simp [A8]
 | z::ks=>by
  rw [A8,anE,anE,Ka k ks]
  constructor
  ·rintro ⟨h1,h2⟩ w hw
   rcases mem_cons.1 hw with e | hw'
   ·rw [e]; exact h1
   ·exact h2 w hw'
  ·intro h
   exact ⟨h z (by simp),fun w hw=>h w (by simp [hw])⟩
theorem JX {l:List Ty} {a:Nat} (h:a<l.length):Aj (t2L l a)=true↔B5 (A5 l a) ((KK l a (a+1) l.length).map (t2L l))=true/\∀ c∈KK l a (a+1) l.length,D1 (A5 l a).1 (A5 l c)=true/\Aj (t2L l c)=true:=by
 rw [Rj h,Aj,anE,Ka]
 constructor
 ·rintro ⟨h1,h2⟩
  refine ⟨h1,fun c hc=>?_⟩
  have hcl:=(D5.1 hc).1.2
  have:=h2 (t2L l c) (mem_map.2 ⟨c,hc,rfl⟩)
  rw [GH hcl] at this
  exact this
 ·rintro ⟨h1,h2⟩
  refine ⟨h1,fun z hz=>?_⟩
  obtain ⟨c,hc,rfl⟩:=mem_map.1 hz
  have hcl:=(D5.1 hc).1.2
  rw [GH hcl]
  exact h2 c hc
theorem Sy {l:List Ty} (H:Ord l) (h0:0<l.length):Aj (t2L l 0)=true↔CD l:=by
 constructor
 ·intro h
  have all : ∀ j,j<l.length->Aj (t2L l j)=true:=by
   intro j
   induction j using strongRecOn with
   | ind j ih=>
    intro hj
    rcases Nat.eq_zero_or_pos j with rfl | hp
    ·exact h
    ·obtain ⟨u,k1,k2,_⟩:=H.up j hp hj
     exact (((JX (by omega)).1 (ih u k2 (by omega))).2 j (D5.2 ⟨⟨by omega,hj⟩,k1⟩)).2
  intro j hj
  have:=(JX hj).1 (all j hj)
  exact ⟨this.1,fun c hc=>(this.2 c hc).1⟩
 ·intro h
  have all : ∀ n j,l.length-j<=n->j<l.length->Aj (t2L l j)=true:=by
   intro n
   induction n with
   | zero=>intro j g1 g2; omega
   | succ n ih=>
    intro j g1 g2
    refine (JX g2).2 ⟨(h j g2).1,fun c hc=>⟨(h j g2).2 c hc,?_⟩⟩
    have:=(D5.1 hc).1
    exact ih c (by omega) (by omega)
  exact all l.length 0 (by omega) h0
theorem GU {l:List Ty} {i:Nat} (h:i<l.length):A5 l i=(l[i].1,l[i].2.1,l[i].2.2.1,l[i].2.2.2.1,l[i].2.2.2.2.2.1,()):=by unfold A5; rw [gtE h]
theorem Ui {l:List Ty} {a c:Nat} (hc:c<=l.length) (no:Int) (nm:List UInt8):Sm (a:Int) no nm ((l.take c).drop (a+1))=true↔∀ k,a<k->k<c->AY l k=some (a:Int)->(A5 l k).2.2.1<no/\(A5 l k).2.1≠nm:=by
 have up : ∀ k (h:k<l.length),AY l k=some (l[k].2.2.2.2.1):=fun k h=>by unfold AY; rw [gtE h]; rfl
 unfold Sm
 rw [all_eq_true]
 constructor
 ·intro h k g1 g2 g3
  have hk:k<l.length:=by omega
  have hm:l[k]∈(l.take c).drop (a+1):=by
   refine List.mem_iff_getElem?.2 ⟨k-(a+1),?_⟩
   rw [List.getElem?_drop,show a+1+(k-(a+1))=k by omega,List.getElem?_take,if_pos g2,gtE hk]
  have:=h _ hm
  rw [up k hk] at g3
  rw [Option.some.inj g3,beq_self_eq_true,Bool.true_and] at this
  rw [GU hk]
  simp only [Bool.not_eq_true',Bool.or_eq_false_iff,decide_eq_false_iff_not,beq_eq_false_iff_ne] at this
  show l[k].2.2.1<no/\l[k].2.1≠nm
  exact ⟨by have:=this.1; omega,this.2⟩
 ·intro h o ho
  obtain ⟨j,hj⟩:=List.mem_iff_getElem?.1 ho
  rw [List.getElem?_drop,List.getElem?_take] at hj
  split at hj
  ·rename_i hlt
   have hk:a+1+j<l.length:=by omega
   rw [gtE hk] at hj
   have e:=Option.some.inj hj
   by_cases hu:o.2.2.2.2.1=(a:Int)
   ·have:=h (a+1+j) (by omega) hlt (by rw [up _ hk,e,hu])
    rw [GU hk,e] at this
    have this:o.2.2.1<no/\o.2.1≠nm:=this
    have h1:decide (o.2.2.1>=no)=false:=dcF (by have:=this.1; omega)
    have h2:(o.2.1==nm)=false:=beq_false_of_ne this.2
    rw [h1,h2]; simp
   ·rw [beq_false_of_ne hu]; rfl
  ·cases hj
theorem Pf {k:Int} (h:Aw k=true):k=4\/k=5:=by
 unfold Aw at h
 rw [Bool.or_eq_true] at h
 rcases h with h | h
 ·exact .inl (by simpa using h)
 ·exact .inr (by simpa using h)
theorem Yt {l:List Ty} (H:Ord l) {j:Nat} (h:Aw (A5 l j).1=false):KK l j (j+1) l.length=[]:=Hl fun c g1 g2 g3=>by
 obtain ⟨u,k1,k2,k3,_⟩:=H.up c (by omega) g2
 rw [g3] at k1; injection k1 with k1
 have:j=u:=by omega
 subst this
 rw [h] at k3; cases k3
theorem Ij {l:List Ty} (H:Ord l) {j:Nat} (_:j<l.length):B5 (A5 l j) ((KK l j (j+1) l.length).map (t2L l))=true↔kmB (A5 l j)=true/\E2 l j=true/\((A5 l j).1=5->∀ c∈KK l j (j+1) l.length,∀ k∈KK l j (j+1) l.length,k<c->GB (A5 l k) (A5 l c)):=by
 have hone:E2 l j = !((A5 l j).1==4&&(KK l j (j+1) l.length).length != 1):=by unfold E2; rw [Ms,List.length_map]
 have hmsg:H1 ((KK l j (j+1) l.length).map (t2L l)) 0 [] ((KK l j (j+1) l.length).map (t2L l))=true↔∀ c∈KK l j (j+1) l.length,∀ k∈KK l j (j+1) l.length,k<c->GB (A5 l k) (A5 l c):=by
  rw [H0,List.pairwise_map,Fv (TC l j (j+1) l.length)]
  constructor
  ·intro h c hc k hk hkc
   have:=h k hk c hc hkc
   rw [GH (D5.1 hk).1.2,GH (D5.1 hc).1.2] at this
   exact this
  ·intro h k hk c hc hkc
   rw [GH (D5.1 hk).1.2,GH (D5.1 hc).1.2]
   exact h c hc k hk hkc
 rw [hone]
 have hk0:(A5 l j).1≠4->(A5 l j).1≠5->KK l j (j+1) l.length=[]:=fun h4 h5=>Yt H (by unfold Aw; rw [beq_false_of_ne h4,beq_false_of_ne h5]; rfl)
 unfold B5 kmB
 rw [List.length_map]
 generalize A5 l j=x at hk0 ⊢
 by_cases a1:x.1=1\/x.1=2
 ·have h4:x.1≠4:=by rcases a1 with h | h<;>omega
  have h5:x.1≠5:=by rcases a1 with h | h<;>omega
  have h3:x.1≠3:=by rcases a1 with h | h<;>omega
  rw [if_pos a1,hk0 h4 h5,if_neg h3,dcT (show 1<=x.1/\x.1<=5 by rcases a1 with h | h<;>omega),beq_false_of_ne h4]
  simp [h5]
 by_cases a3:x.1=3
 ·have h4:x.1≠4:=by omega
  have h5:x.1≠5:=by omega
  rw [if_neg a1,if_pos a3,hk0 h4 h5,if_pos a3,dcT (show 1<=x.1/\x.1<=5 by omega),beq_false_of_ne h4]
  simp [h5]
 by_cases a4:x.1=4
 ·have h5:x.1≠5:=by omega
  rw [if_neg a1,if_neg a3,if_pos a4,if_neg a3,dcT (show 1<=x.1/\x.1<=5 by omega),a4]
  simp
 by_cases a5:x.1=5
 ·rw [if_neg a1,if_neg a3,if_neg a4,if_neg a3,dcT (show 1<=x.1/\x.1<=5 by omega),beq_false_of_ne a4]
  by_cases a6:x.2.2.2.2.1=0
  ·rw [if_neg (by rintro (h | h); exact h a5; exact h a6),hmsg]
   simp [a5,a6]
  ·rw [if_pos (.inr a6)]
   simp [a6]
 ·have a0 : ¬(1<=x.1/\x.1<=5):=by omega
  rw [if_neg a1,if_neg a3,if_neg a4,if_pos (.inl a5),dcF a0]
  simp
theorem O7 {l:List Ty} (H:Ord l) {i u:Nat} (hi:0<i) (hl:i<l.length) (hu:AY l i=some (u:Int)) (hlt:u<i) (hh:Aw (A5 l u).1=true) :
  Ed l i=true↔D1 (A5 l u).1 (A5 l i)=true/\((A5 l u).1=5->∀ k∈KK l u (u+1) l.length,k<i->GB (A5 l k) (A5 l i)):=by
 have ha:=H.around hi hl
 have hs:=Ui (l:=l) (a:=u) (c:=i) (by omega) (A5 l i).2.2.1 (A5 l i).2.1
 have hk:(∀ k∈KK l u (u+1) l.length,k<i->GB (A5 l k) (A5 l i))↔∀ k,u<k->k<i->AY l k=some (u:Int)->(A5 l k).2.2.1<(A5 l i).2.2.1/\(A5 l k).2.1≠(A5 l i).2.1:=by
  constructor
  ·intro h k g1 g2 g3; exact h k (D5.2 ⟨⟨g1,by omega⟩,g3⟩) g2
  ·intro h k g1 g2
   have:=D5.1 g1
   exact h k this.1.1 g2 this.2
 rw [hk,<-hs]
 unfold Ed D1
 rw [hu]
 dsimp only
 rw [ntN,dcT (show 0<=(u:Int)/\(u:Int)<(i:Int) by omega),hh,ha]
 rcases Pf hh with h4 | h5
 ·rw [if_pos h4,if_neg (by omega)]
  simp [h4]
 ·rw [if_neg (by omega),if_pos h5]
  simp [h5]
theorem J8 (l:List Ty):K4 l=AC l/\(AC l=true->(kf l 0).1=t2L l 0):=by
 have main : ∀ (H:Ord l),1<=l.length/\l.length<=30->(K4 l=true↔AC l=true):=fun H hl=>by
  have h0:0<l.length:=by omega
  obtain ⟨e1,e2⟩:=H.end' h0
  have hc:=K0 h0
  have hkm:CD l↔(∀ j,j<l.length->kmB (A5 l j)=true/\E2 l j=true)/\∀ j,0<j->j<l.length->Ed l j=true:=by
   constructor
   ·intro h
    refine ⟨fun j hj=>?_,fun j hp hj=>?_⟩
    ·have:=(Ij H hj).1 (h j hj).1
     exact ⟨this.1,this.2.1⟩
    ·obtain ⟨u,k1,k2,k3,_⟩:=H.up j hp hj
     have hm:j∈KK l u (u+1) l.length:=D5.2 ⟨⟨k2,hj⟩,k1⟩
     have hul:u<l.length:=by omega
     refine (O7 H hp hj k1 k2 k3).2 ⟨(h u hul).2 j hm,fun h5 k hk hkj=>?_⟩
     exact ((Ij H hul).1 (h u hul).1).2.2 h5 j hm k hk hkj
   ·rintro ⟨h1,h2⟩ j hj
    have hcc : ∀ c∈KK l j (j+1) l.length,D1 (A5 l j).1 (A5 l c)=true/\((A5 l j).1=5->∀ k∈KK l j (j+1) l.length,k<c->GB (A5 l k) (A5 l c)):=fun c hc=>by
     obtain ⟨⟨g1,g2⟩,g3⟩:=D5.1 hc
     obtain ⟨u,k1,k2,k3,_⟩:=H.up c (by omega) g2
     rw [g3] at k1; injection k1 with k1
     have:j=u:=by omega
     subst this
     exact (O7 H (by omega) g2 g3 k2 k3).1 (h2 c (by omega) g2)
    exact ⟨(Ij H hj).2 ⟨(h1 j hj).1,(h1 j hj).2,fun h5 c hc k hk hkc=>(hcc c hc).2 h5 k hk hkc⟩,fun c hc=>(hcc c hc).1⟩
  unfold K4 AC CY
  rw [dcT hl,dcT H.zero,e1,e2,GH h0]
  have hcnt:decide (Ao (t2L l 0)<=30)=true:=dcT (by rw [<-e2]; omega)
  rw [hcnt]
  simp only [Bool.true_and,Bool.and_true,anE,all_eq_true,mem_range,dcE,beq_self_eq_true,Sy H h0,hkm]
  constructor
  ·rintro ⟨⟨h1,h2⟩,h3⟩
   have r:=h1 0 h0
   unfold okT at r
   rw [if_pos rfl] at r
   simp only [anE,dcE] at r
   obtain ⟨r0,⟨⟨⟨r1,r2⟩,r3⟩,r4⟩,r5⟩:=r
   refine ⟨⟨⟨⟨⟨r1,r3⟩,r4⟩,r5⟩,⟨fun j hj=>⟨?_,h2 j hj⟩,fun j hp hj=>?_⟩⟩,h3⟩
   ·have:=h1 j hj
    unfold okT at this
    rw [anE] at this
    exact this.1
   ·have:=h1 j hj
    unfold okT at this
    rw [if_neg (by omega),anE] at this
    exact this.2
  ·rintro ⟨⟨⟨⟨⟨r1,r3⟩,r4⟩,r5⟩,⟨h1,h2⟩⟩,h3⟩
   refine ⟨⟨fun j hj=>?_,fun j hj=>(h1 j hj).2⟩,h3⟩
   unfold okT
   rw [(h1 j hj).1,Bool.true_and]
   by_cases hz:j=0
   ·rw [if_pos hz]
    simp only [anE,dcE]
    exact ⟨⟨⟨⟨r1,H.zero⟩,r3⟩,r4⟩,r5⟩
   ·rw [if_neg hz]; exact h2 j (by omega) hj
 have hS:K4 l=true->Ord l/\1<=l.length/\l.length<=30:=fun h=>by
  unfold K4 at h
  simp only [anE,dcE] at h
  exact ⟨O9 (by omega) h.1.1.2,h.1.1.1⟩
 have hK:AC l=true->Ord l/\1<=l.length/\l.length<=30:=fun h=>by
  unfold AC at h
  simp only [anE,dcE,beq_iff_eq] at h
  exact ⟨DC (by omega) h.1.1.2 h.1.2,h.1.1.1⟩
 refine ⟨?_,fun h=>((hK h).1.end' (by have:=(hK h).2; omega)).2⟩
 cases h1:K4 l with
 | true=>obtain ⟨H,hl⟩:=hS h1; exact ((main H hl).1 h1).symm
 | false=>
  cases h2:AC l with
  | false=>rfl
  | true=>obtain ⟨H,hl⟩:=hK h2; rw [(main H hl).2 h2] at h1; cases h1
def Nt:Gm
 | [.agg [.sl TCd l],.i .i64 i],[]=>.need (decide (0<=i/\i.toNat<l.length/\l.length<=4000000000)&&CT l i.toNat&&nmL l) (.leaf (.b (Ed l i.toNat),[]))
 | _,_=>.no
def EY:LoopEnt:=⟨103,[1,2,5,6],[],[4],fun
 | ([.i .i64 i,.ptr 0 0,.ptr 1 0,.i .i64 k],[some (.box [.sl TCd l]),some (.box [.i .i64 _,.s y1,.i .i64 y2,.b _,.i .i64 y4,.i .i64 _])])=>.need (decide (0<=k/\k<=i/\i.toNat<l.length/\l.length<=4000000000)) (.br (Sm y4 y2 y1 ((l.take i.toNat).drop k.toNat)) (.leaf (.exit 0,([],[]))) (.leaf (.ret,([.b false],[]))))
 | _=>.no⟩
abbrev Ys:FuncId->Option Ent:=Ab [(97,.rd1 EC),(140,.rd1 It),(141,.rd1 Kk),(94,.rd1 AE)]
theorem H9 (l:List Ty) (y0:Int) (y1:List UInt8) (y2:Int) (y3:Bool) (y4 y5:Int) (i k:Int):A0 prog Ys (Ab [(9,EY)]) 0 (body f95 0) EY ([.j i,.ptr 0 0,.ptr 1 0,.j k],[some (.box [.sl TCd l]),some (.box [.j y0,.s y1,.j y2,.b y3,.j y4,.j y5])]) =
 ((ifB (decide (k<i)) (ifT (decide ((0:Int)<=k)&&decide (k<(↑l.length:Int))) (Ap l[k.toNat]? fun z=>ifB (z.snd.snd.snd.snd.fst==y4) (ifB (decide
 (z.snd.snd.fst>=y2)) (some (Ex.ret,[V.b false],[])) (ifB (z.snd.fst==y1) (some (Ex.ret,[V.b false],[])) (some (Ex.normal,[V.j i,V.ptr 0 0,V.ptr 1 0,V.i
 .i64 (i64.wrap (k+(1:Int)))],[some (Blk.box [V.sl TCd l]),some (Blk.box [V.j y0,V.s y1,V.j y2,V.b y3,V.j y4,V.j y5])])))) (some
 (Ex.normal,[V.j i,V.ptr 0 0,V.ptr 1 0,V.j (i64.wrap (k+(1:Int)))],[some (Blk.box [V.sl TCd l]),some (Blk.box [V.j y0,V.s y1,V.i .i64
 y2,V.b y3,V.j y4,V.j y5])])))) (some (Ex.exit 0,[],[]))):_):=by kernel_rfl
theorem OT (l:List Ty) (i:Int):AQ prog Ys (Ab [(9,EY)]) f95 [.agg [.sl TCd l],.j i] [] =
 ((ifT (decide ((0:Int)<=i)&&decide (i<(↑l.length:Int))) (Ap l[i.toNat]? fun z=>ifB (decide (z.snd.snd.snd.snd.fst<(0:Int))) (some (V.b false,[])) (ifB
 (decide (z.snd.snd.snd.snd.fst>=i)) (some (V.b false,[])) (ifT (decide ((0:Int)<=z.snd.snd.snd.snd.fst)&&decide (z.snd.snd.snd.snd.fst<(↑l.length:Int)))
 (Ap l[toNat z.snd.snd.snd.snd.fst]? fun z_1=>ifB (!Aw z_1.fst) (some (V.b false,[])) (ifT (decide ((0:Int)<=i/\i.toNat<l.length/\l.length<=
 4000000000)&&CT l i.toNat) (ifB (!DN l i.toNat) (some (V.b false,[])) (ifT (decide ((0:Int)<=z.snd.snd.snd.snd.fst)&&decide (z.snd.snd.snd.snd.fst
 < (↑l.length:Int))) (Ap l[toNat z.snd.snd.snd.snd.fst]? fun z_2=>ifB (z_2.fst==(4:Int)) (ifB (z.snd.fst==Ag UInt8) (ifB (z.snd.snd.fst==(0:Int))
 (some (V.b !z.snd.snd.snd.fst,[])) (some (V.b false,[]))) (some (V.b false,[]))) (ifT (decide (List.length z.snd.fst<=maxI)) (ifB (!FJ z.snd.fst) (some (V.b false,
 [])) (ifB (!decide ((1:Int)<=z.snd.snd.fst/\z.snd.snd.fst<=(30:Int))) (some (V.b false,[])) (ifT (decide ((0:Int)<=i64.wrap (z.snd.snd.snd.snd.fst+(1
 : Int))/\i64.wrap (z.snd.snd.snd.snd.fst+(1:Int))<=i/\i.toNat<l.length/\l.length<=4000000000)) (ifB (Sm z.snd.snd.snd.snd.fst z.snd.snd.fst
 z.snd.fst (drop (i64.wrap (z.snd.snd.snd.snd.fst+(1:Int))).toNat (take i.toNat l))) (some (V.b true,[])) (some (V.b false,[])))))))))))))))):_):=by kernel_rfl
theorem SK:A4 prog Ys (Ab [(9,EY)]) 0 (f95.body.getD .skip):=by
 refine Ax (a:=body f95 0) (by kernel_rfl) fun d ex d' h=>?_
 unfold EY at h
 dsimp only at h
 split at h
 ·rename_i i k l y0 y1 y2 y3 y4 y5
  obtain ⟨hc,hx⟩:=Ae h
  clear h
  obtain ⟨h0,h1,h2,h3⟩:=of_decide_eq_true hc
  obtain ⟨k,rfl⟩:=eq_ofNat_of_zero_le h0
  obtain ⟨i,rfl⟩:=eq_ofNat_of_zero_le (by omega:0<=i)
  simp only [ntN] at h2 hx
  have hM:maxI=9223372036854775807:=rfl
  have hlen:(l.take i).length=i:=by rw [List.length_take]; omega
  refine Eb (l:=l.take i) (fun o:Ty=>!(o.2.2.2.2.1==y4&&(decide (o.2.2.1>=y2)||o.2.1==y1))) (fun k=>([.j (i:Int),.ptr 0 0,.ptr 1 0,.j (k:Int)],[some (.box [.sl TCd l]),some (.box [.j y0,.s y1,.j y2,.b y3,.j y4,.j y5])])) (ex:=(.exit 0,([],[]))) (rt:=(.ret,([.b false],[]))) (by simp) (by simp) (fun n hn=>?_) ?_ ((l.take i).length-k) k (by rw [hlen]; omega) ex d' hx
  ·rw [hlen] at hn
   have hnl:n<l.length:=by omega
   have hr:=H9 l y0 y1 y2 y3 y4 y5 i n
   rw [Af (dcT (by omega)),Aa (by simp only [anE,dcE]; omega)] at hr
   simp only [ntN,gtE hnl,As,A3 (n:=n) (by omega)] at hr
   refine hr.trans ?_
   rw [List.getElem_take]
   cases l[n].2.2.2.2.1==y4<;>cases decide (l[n].2.2.1>=y2)<;>cases l[n].2.1==y1<;>rfl
  ·have hr:=H9 l y0 y1 y2 y3 y4 y5 i i
   rw [Ac (dcF (by omega))] at hr
   rw [hlen]
   exact hr
 ·cases h
theorem Qx (l:List Ty) (i:Int) (hc:0<=i/\i.toNat<l.length/\l.length<=4000000000) (hs:CT l i.toNat=true) (hn:nmL l=true):AQ prog Ys (Ab [(9,EY)]) f95 [.agg [.sl TCd l],.j i] []=some (.b (Ed l i.toNat),[]):=by
 rw [OT]
 obtain ⟨h0,h1,h2⟩:=hc
 obtain ⟨i,rfl⟩:=eq_ofNat_of_zero_le h0
 simp only [ntN] at h1 hs
 have hM:maxI=9223372036854775807:=rfl
 have hu:AY l i=some (l[i].2.2.2.2.1):=by unfold AY; rw [gtE h1]; rfl
 have hlb:=GU h1
 have hnm:l[i].2.1.length<=maxI:=of_decide_eq_true (all_eq_true.1 hn _ (getElem_mem h1))
 rw [Aa (by simp only [anE,dcE]; omega)]
 simp only [ntN,gtE h1,As]
 unfold Ed
 rw [hu,hlb]
 dsimp only
 by_cases a1:l[i].2.2.2.2.1<0
 ·rw [Af (dcT a1),dcF (by omega)]; rfl
 rw [Ac (dcF a1)]
 by_cases a2:l[i].2.2.2.2.1>=(i:Int)
 ·rw [Af (dcT a2),dcF (by omega)]; rfl
 obtain ⟨u,hu2⟩:=eq_ofNat_of_zero_le (by omega:0<=l[i].2.2.2.2.1)
 rw [hu2] at a2 ⊢
 have hul:u<l.length:=by omega
 have hg:(decide ((0:Int)<=(u:Int))&&decide ((u:Int)<(l.length:Int)))=true:=by simp only [anE,dcE]; omega
 rw [Ac (dcF a2),dcT (show 0<=(u:Int)/\(u:Int)<(i:Int) by omega),hg]
 simp only [ntN,gtE hul,As,Dc]
 rw [GU hul]
 dsimp only
 cases Aw l[u].1 with
 | false=>rfl
 | true=>
  rw [Bool.not_true,Bd,Aa (by rw [anE]; exact ⟨dcT ⟨by omega,h1,h2⟩,hs⟩)]
  cases DN l i with
  | false=>rfl
  | true=>
   rw [Bool.not_true,Bd]
   by_cases a4:l[u].1=4
   ·rw [Af (by rw [a4]; rfl),if_pos a4]
    cases l[i].2.1==Ag UInt8<;>cases l[i].2.2.1==0<;>rfl
   ·rw [Ac (beq_false_of_ne a4),if_neg a4,Aa (dcT hnm),A3 (n:=u) (by omega)]
    have d1:decide (1<=l[i].2.2.1/\l[i].2.2.1<=30)=(decide (1<=l[i].2.2.1)&&decide (l[i].2.2.1<=30)):=decide_and ..
    rw [d1,Aa (dcT ⟨by omega,by omega,h1,h2⟩),ntN]
    cases FJ l[i].2.1<;>cases (decide (1<=l[i].2.2.1)&&decide (l[i].2.2.1<=30))<;>cases Sm (u:Int) l[i].2.2.1 l[i].2.1 ((l.take i).drop (u+1))<;>rfl
theorem Z2:Ad prog 95 (Ent.rd1 Nt).F:=by
 refine Am (kc func97 J5 (kc func140 Vb (kc func141 Aay (kc func94 OW KnowsL.nil)))).knows (Λ:=(Ab [(9,EY)])) func95 (c:=f95.body.getD .skip) (by kernel_rfl) fun vs bs r hq hv hb=>?_
 unfold Ent.F Nt at hq
 dsimp only at hq
 split at hq
 ·rename_i l i
  obtain ⟨hc,hx⟩:=Ae hq
  rw [anE,anE] at hc
  exact ⟨SK,(Qx l i (of_decide_eq_true hc.1.1) hc.1.2 hc.2).trans hx⟩
 ·cases hq
instance decTy0:DecidableEq (Bool×Int×Int×Unit):=inferInstance
instance decTy:DecidableEq Ty:=inferInstance
def Gz:LoopEnt:=⟨105,[1,13,14,15],[1],[2],fun
 | ([.ptr 0 0,.sl TCd q,.i .i64 m,.i .i64 i],[some (.box [.sl TCd l])])=>.need (decide (0<=i/\i.toNat<=l.length/\m=l.length/\eqT (List Ty) q l/\l.length<=4000000000)&&nmL l&&CT l i.toNat) (.br (((range l.length).drop i.toNat).all (okT l)) (.leaf (.exit 0,([.ptr 0 0],[some (.box [.sl TCd l])]))) (.leaf (.ret,([.b false],[]))))
 | _=>.no⟩
def HH:LoopEnt:=⟨105,[1,83,84,85],[1],[2],fun
 | ([.ptr 0 0,.sl TCd q,.i .i64 m,.i .i64 i],[some (.box [.sl TCd l])])=>.need (decide (0<=i/\i.toNat<=l.length/\m=l.length/\eqT (List Ty) q l/\l.length<=4000000000)) (.br (((range l.length).drop i.toNat).all (E2 l)) (.leaf (.exit 2,([.ptr 0 0],[some (.box [.sl TCd l])]))) (.leaf (.ret,([.b false],[]))))
 | _=>.no⟩
abbrev NO:FuncId->Option Ent:=Ab [(94,.rd1 AE),(95,.rd1 Nt),(93,.rd1 J4),(45,.rd1 CJ),(96,.rd1 Qe)]
theorem Mv (l q:List Ty) (m i:Int):A0 prog NO (Ab [(4,Gz),(12,HH)]) 0 (body f46 0) Gz ([.ptr 0 0,.sl TCd q,.j m,.j i],[some (.box [.sl TCd l])]) =
 ((ifB (decide (i<m)) (ifT (decide ((0:Int)<=i)&&decide (i<(↑q.length:Int))) (Ap q[i.toNat]? fun z=>shr z.snd.snd fun sh4=>shr sh4.snd.snd.snd fun sh3=>
 shr (ifB (decide (i>(0:Int))) (ifT (decide ((0:Int)<=i/\i.toNat<l.length/\l.length<=4000000000)&&CT l i.toNat&&nmL l) (ifB (!Ed l i.toNat)
 (some (Ex.ret,[V.b false],[])) (some (Ex.normal,[V.ptr 0 0,V.sl TCd q,V.j m,V.j (i64.wrap (i+(1:Int)))],[some (Blk.box [V.sl TCd l])]))))
 (some (Ex.normal,[V.ptr 0 0,V.sl TCd q,V.j m,V.j (i64.wrap (i+(1:Int)))],[some (Blk.box [V.sl TCd l])]))) fun sh2=>shr (ifB (i==(0:Int))
 (ifB (z.fst != (5:Int)) (some (Ex.ret,[V.b false],[])) (ifB (sh4.snd.snd.fst != (-1:Int)) (some (Ex.ret,[V.b false],[])) (ifB (!z.snd.fst==Ag UInt8) (some
 (Ex.ret,[V.b false],[])) (ifB (sh4.fst != (0:Int)) (some (Ex.ret,[V.b false],[])) (ifB sh4.snd.fst (some (Ex.ret,[V.b false],[])) sh2))))) sh2) fun sh1=>ifB
 (!decide ((1:Int)<=z.fst/\z.fst<=(5:Int))) (some (Ex.ret,[V.b false],[])) (ifB (z.fst==(3:Int)) (ifB (!decide ((0:Int)<=sh3.fst/\sh3.fst<=(20:Int)))
 (some (Ex.ret,[V.b false],[])) (ifB (z.fst != (3:Int)) (ifB (sh3.fst != (0:Int)) (some (Ex.ret,[V.b false],[])) sh1) sh1)) (ifB (z.fst != (3:Int)) (ifB (sh3.fst
 != (0:Int)) (some (Ex.ret,[V.b false],[])) sh1) sh1)))) (some (Ex.exit 0,[V.ptr 0 0],[some (Blk.box [V.sl TCd l])]))):_):=by kernel_rfl
theorem Mu (l q:List Ty) (m i:Int):A0 prog NO (Ab [(4,Gz),(12,HH)]) 0 (body f46 1) HH ([.ptr 0 0,.sl TCd q,.j m,.j i],[some (.box [.sl TCd l])]) =
 ((ifB (decide (i<m)) (ifT (decide ((0:Int)<=i)&&decide (i<(↑q.length:Int))) (Ap q[i.toNat]? fun z=>ifB (z.fst==(4:Int)) (ifT (decide ((0:Int)<=i/\
 i.toNat<l.length/\l.length<=4000000000)) (ifB ((↑(B7 l i.toNat).length:Int) != (1:Int)) (some (Ex.ret,[V.b false],[])) (some (Ex.normal,[V.ptr 0 0,
 V.sl TCd q,V.j m,V.j (i64.wrap (i+(1:Int)))],[some (Blk.box [V.sl TCd l])])))) (some (Ex.normal,[V.ptr 0 0,V.sl TCd q,V.j m,V.i .i64
 (i64.wrap (i+(1:Int)))],[some (Blk.box [V.sl TCd l])])))) (some (Ex.exit 2,[V.ptr 0 0],[some (Blk.box [V.sl TCd l])]))):_):=by kernel_rfl
theorem X1 (l:List Ty):AQ prog NO (Ab [(4,Gz),(12,HH)]) f46 [.agg [.sl TCd l]] [] =
 ((ifB (!decide ((1:Int)<=(↑l.length:Int)/\(↑l.length:Int)<=(30:Int))) (some (V.b false,[])) (ifT (decide ((0:Int)<=(0:Int)/\0<=l.length/\
 (↑l.length:Int)=(↑l.length:Int)/\eqT (List Ty) l l/\l.length<=4000000000)&&nmL l&&CT l 0) (ifB ((drop 0 (range
 l.length)).all (okT l)) (ifT (decide ((0:Int)<=(0:Int)/\0<=l.length/\(↑l.length:Int)=(↑l.length:Int)/\eqT (List Ty) l l/\l.length<=(4000000000 :
 Nat))) (ifB ((drop 0 (range l.length)).all (E2 l)) (ifT (decide ((0:Int)<=(0:Int)/\0<l.length/\l.length<=4000000000)) (ifT
 (decide (Ak (take (t2L l 0).kids.length (drop 0 (t2L l 0).kids))+1<=1000000)) (some (V.b (decide ((↑(BL
 (take (t2L l 0).kids.length (drop 0 (t2L l 0).kids))+bif Aw (t2L l 0).lab.fst then 1 else 0):Int)<=(5 :
 Int))),[])))) (some (V.b false,[])))) (some (V.b false,[]))))):_):=by kernel_rfl
theorem PS {l:List Ty} {i:Nat} (h:CT l i=true) {u:Int} (hu:AY l i=some u) (hlt:u<(i:Int)):CT l (i+1)=true:=by
 unfold CT at h ⊢
 rw [List.range_succ,List.all_append,h,Bool.true_and,List.all_cons,List.all_nil,Bool.and_true,hu]
 exact dcT hlt
theorem Zm {l:List Ty} {i:Nat} (h:okT l i=true) : ∃ u,AY l i=some u/\u<(i:Int):=by
 unfold okT at h
 rw [anE] at h
 have h:=h.2
 by_cases hz:i=0
 ·subst hz
  rw [if_pos rfl] at h
  simp only [anE,dcE] at h
  exact ⟨-1,h.1.1.1.2,by omega⟩
 ·rw [if_neg hz] at h
  unfold Ed at h
  cases hu:AY l i with
  | none=>rw [hu] at h; cases h
  | some u=>
   rw [hu] at h
   simp only [anE,dcE] at h
   exact ⟨u,rfl,h.1.1.1.2⟩
theorem Vt (l:List Ty) (hl:l.length<=4000000000) (hn:nmL l=true) (i:Nat) (hi:i<l.length) (hs:CT l i=true) :
  A0 prog NO (Ab [(4,Gz),(12,HH)]) 0 (body f46 0) Gz ([.ptr 0 0,.sl TCd l,.j (l.length:Int),.j (i:Int)],[some (.box [.sl TCd l])])=some (bif okT l i then (.normal,([.ptr 0 0,.sl TCd l,.j (l.length:Int),.j ((i+1:Nat):Int)],[some (.box [.sl TCd l])])) else (.ret,([.b false],[]))):=by
 have hM:maxI=9223372036854775807:=rfl
 have hr:=Mv l l l.length i
 dsimp only [shr] at hr
 rw [Af (dcT (by omega)),Aa (by simp only [anE,dcE]; omega)] at hr
 simp only [ntN,gtE hi,As,A3 (n:=i) (by omega)] at hr
 refine hr.trans ?_
 clear hr
 have hc:(decide ((0:Int)<=(i:Int)/\i<l.length/\l.length<=4000000000)&&CT l i&&nmL l)=true:=by
  rw [hs,hn,dcT (show (0:Int)<=(i:Int)/\i<l.length/\l.length<=4000000000 from ⟨by omega,hi,hl⟩)]; rfl
 rw [hc]
 have hkm:kmB (A5 l i)=(decide (1<=l[i].1/\l[i].1<=5)&&(bif l[i].1==3 then decide (0<=l[i].2.2.2.2.2.1/\l[i].2.2.2.2.2.1<=20) else l[i].2.2.2.2.2.1==0)):=by
  rw [GU hi]
  unfold kmB
  dsimp only
  by_cases h3:l[i].1=3
  ·rw [if_pos h3,h3]; rfl
  ·rw [if_neg h3,beq_false_of_ne h3]; rfl
 unfold okT
 rw [hkm]
 unfold bne
 by_cases hz:i=0
 ·subst hz
  have hu:decide (AY l 0=some (-1))=(l[0].2.2.2.2.1==-1):=by
   unfold AY
   rw [gtE hi]
   by_cases h1:l[0].2.2.2.2.1 = -1
   ·rw [map_some,h1]; simp
   ·rw [beq_false_of_ne h1]; exact dcF (fun h=>h1 (Option.some.inj h))
  rw [if_pos rfl,GU hi,hu]
  simp only [show (((0:Nat):Int)==0)=true from rfl,show decide (((0:Nat):Int)>0)=false from rfl]
  have hnil:(l[0].2.1==([]:List UInt8))=(l[0].2.1==Ag UInt8):=rfl
  rw [hnil]
  generalize decide (1<=l[0].1/\l[0].1<=5)=K
  generalize (l[0].1==3)=c3
  generalize (l[0].1==5)=c5
  generalize decide (0<=l[0].2.2.2.2.2.1/\l[0].2.2.2.2.2.1<=20)=M
  generalize (l[0].2.2.2.2.2.1==0)=m0
  generalize (l[0].2.2.2.2.1==-1)=u0
  generalize (l[0].2.1==Ag UInt8)=nm
  generalize (l[0].2.2.1==0)=no
  generalize l[0].2.2.2.1=mu
  cases K<;>cases c3<;>cases c5<;>cases M<;>cases m0<;>cases u0<;>cases nm<;>cases no<;>cases mu<;>rfl
 ·rw [if_neg hz]
  have h0:((i:Int)==0)=false:=beq_false_of_ne (by omega)
  have h1:decide ((i:Int)>0)=true:=dcT (by omega)
  rw [h0,h1]
  generalize decide (1<=l[i].1/\l[i].1<=5)=K
  generalize (l[i].1==3)=c3
  generalize decide (0<=l[i].2.2.2.2.2.1/\l[i].2.2.2.2.2.1<=20)=M
  generalize (l[i].2.2.2.2.2.1==0)=m0
  generalize Ed l i=p
  cases K<;>cases c3<;>cases M<;>cases m0<;>cases p<;>rfl
theorem Kd {n i:Nat} (h:i<n):(range n).drop i=i::(range n).drop (i+1):=by
 rw [drop_eq_getElem_cons (by simpa using h)]; simp
theorem Ph (l:List Ty) (hl:l.length<=4000000000) (hn:nmL l=true) : ∀ (j i:Nat),i+j=l.length->CT l i=true->∀ ex d,(Br.br (((range l.length).drop i).all (okT l)) (.leaf (.exit 0,([.ptr 0 0],[some (.box [.sl TCd l])]))) (.leaf (.ret,([.b false],[]))):Br (Ex×Dt)).run=some (ex,d)->
  Runs prog NO (Ab [(4,Gz),(12,HH)]) 0 (body f46 0) Gz ([.ptr 0 0,.sl TCd l,.j (l.length:Int),.j (i:Int)],[some (.box [.sl TCd l])]) ex d
 | 0,i,hi,hs,ex,d,h=>by
  have hr:=Mv l l l.length i
  dsimp only [shr] at hr
  rw [Ac (dcF (by omega))] at hr
  have e1:(range l.length).drop i=[]:=drop_eq_nil_of_le (by simp; omega)
  rw [e1] at h
  have h8:=Ar h
  obtain ⟨rfl,rfl⟩:=Prod.mk.inj h8
  exact .stop _ _ _ hr (by simp)
 | j+1,i,hi,hs,ex,d,h=>by
  have hr:=Vt l hl hn i (by omega) hs
  rw [Kd (by omega),List.all_cons] at h
  cases hk:okT l i with
  | true=>
   rw [hk,cond_true] at hr
   rw [hk,Bool.true_and] at h
   obtain ⟨u,hu,hlt⟩:=Zm hk
   exact .step _ _ _ _ hr (Ph l hl hn j (i+1) (by omega) (PS hs hu hlt) ex d h)
  | false=>
   rw [hk,cond_false] at hr
   rw [hk,Bool.false_and] at h
   have h8:=Ar h
   obtain ⟨rfl,rfl⟩:=Prod.mk.inj h8
   exact .stop _ _ _ hr (by simp)
theorem ZJ : ∀ d e d',(Gz.L d).run=some (e,d')->Runs prog NO (Ab [(4,Gz),(12,HH)]) 0 (body f46 0) Gz d e d':=fun d ex d' h=>by
 unfold Gz at h
 dsimp only at h
 split at h
 ·rename_i q m i l
  obtain ⟨hc,hx⟩:=Ae h
  clear h
  rw [anE,anE] at hc
  obtain ⟨⟨hc,hn⟩,hs⟩:=hc
  obtain ⟨h0,h1,rfl,h3,h4⟩:=of_decide_eq_true hc
  have h3:q=l:=h3
  subst h3
  obtain ⟨i,rfl⟩:=eq_ofNat_of_zero_le h0
  simp only [ntN] at h1 hs hx
  exact Ph _ h4 hn _ i (Nat.add_sub_of_le h1) hs ex d' hx
 ·cases h
theorem ZI : ∀ d e d',(HH.L d).run=some (e,d')->Runs prog NO (Ab [(4,Gz),(12,HH)]) 0 (body f46 1) HH d e d':=fun d ex d' h=>by
 unfold HH at h
 dsimp only at h
 split at h
 ·rename_i q m i l
  obtain ⟨hc,hx⟩:=Ae h
  clear h
  obtain ⟨h0,h1,rfl,h3,h4⟩:=of_decide_eq_true hc
  have h3:q=l:=h3
  subst h3
  obtain ⟨i,rfl⟩:=eq_ofNat_of_zero_le h0
  simp only [ntN] at h1 hx
  have hM:maxI=9223372036854775807:=rfl
  refine Eb (l:=range q.length) (E2 q) (fun i=>([.ptr 0 0,.sl TCd q,.j (q.length:Int),.j (i:Int)],[some (.box [.sl TCd q])])) (ex:=(.exit 2,([.ptr 0 0],[some (.box [.sl TCd q])]))) (rt:=(.ret,([.b false],[]))) (by simp) (by simp) (fun n hn=>?_) ?_ (q.length-i) i (by simp; omega) ex d' hx
  ·have hn:n<q.length:=by simpa using hn
   have hr:=Mu q q q.length n
   rw [Af (dcT (by omega)),Aa (by simp only [anE,dcE]; omega)] at hr
   simp only [ntN,gtE hn,As,A3 (n:=n) (by omega)] at hr
   refine hr.trans ?_
   rw [Aa (dcT ⟨by omega,hn,h4⟩),List.getElem_range]
   have e1:(((B7 q n).length:Int) != 1)=((B7 q n).length != 1):=by
    by_cases h:(B7 q n).length=1
    ·rw [h]; rfl
    ·have h2:((B7 q n).length:Int)≠1:=by omega
     unfold bne
     rw [beq_false_of_ne h,beq_false_of_ne h2]
   rw [e1]
   unfold E2
   rw [GU hn]
   dsimp only
   cases q[n].1==4<;>cases (B7 q n).length != 1<;>rfl
  ·have hr:=Mu q q q.length q.length
   rw [Ac (dcF (by omega))] at hr
   simp only [List.length_range]
   exact hr
 ·cases h
theorem Abt:A4 prog NO (Ab [(4,Gz),(12,HH)]) 0 (f46.body.getD .skip):=
 LoopsI.loops (.cons (a:=body f46 0) (by kernel_rfl) ZJ (.cons (a:=body f46 1) (by kernel_rfl) ZI .nil)) (by kernel_rfl)
theorem ZH (l:List Ty) (h1:l.length<=4000000000) (hn:nmL l=true):AQ prog NO (Ab [(4,Gz),(12,HH)]) f46 [.agg [.sl TCd l]] []=some (.b (AC l),[]):=by
 rw [X1,<- (J8 l).1]
 have hq:=J8 l
 have hu0:CT l 0=true:=rfl
 have d0:decide ((0:Int)<=0/\0<=l.length/\(l.length:Int)=(l.length:Int)/\eqT (List Ty) l l/\l.length<=4000000000)=true:=dcT ⟨by omega,by omega,rfl,rfl,h1⟩
 rw [d0,hn,hu0,drop_zero,drop_zero,take_length]
 have hle:decide (1<=(l.length:Int)/\(l.length:Int)<=30)=decide (1<=l.length/\l.length<=30):=decide_eq_decide.2 (by omega)
 rw [hle]
 have hdp:BL (t2L l 0).kids+(bif Aw (t2L l 0).lab.1 then 1 else 0)=BA (t2L l 0):=LV _
 have hd5:decide ((BA (t2L l 0):Int)<=5)=decide (BA (t2L l 0)<=5):=decide_eq_decide.2 (by omega)
 rw [hdp,hd5]
 unfold K4
 cases a1:decide (1<=l.length/\l.length<=30) with
 | false=>rfl
 | true=>
  have a1:=of_decide_eq_true a1
  cases a2:(range l.length).all (okT l) with
  | false=>rfl
  | true=>
   have H:=O9 (by omega) a2
   have he:=H.end' (by omega)
   have hc:=K0 (l:=l) (a:=0) (by omega)
   have hk:=Be (t2L l 0)
   rw [he.1,he.2] at hc
   have d1:decide ((0:Int)<=0/\0<l.length/\l.length<=4000000000)=true:=dcT ⟨by omega,by omega,h1⟩
   have d2:decide (Ak (t2L l 0).kids+1<=1000000)=true:=dcT (by omega)
   rw [d1,d2]
   cases (range l.length).all (E2 l)<;>rfl
theorem Ou:Ad prog 46 (Ent.rd1 HG).F:=by
 refine Am (kc func94 OW (kc func95 Z2 (kc func93 Va (kc func45 GV (kc func96 Aa2 KnowsL.nil))))).knows (Λ:=(Ab [(4,Gz),(12,HH)])) func46 (c:=f46.body.getD .skip) (by kernel_rfl) fun vs bs r hq hv hb=>?_
 unfold Ent.F HG at hq
 dsimp only at hq
 split at hq
 ·rename_i l
  obtain ⟨hc,hx⟩:=Ae hq
  rw [anE] at hc
  exact ⟨Abt,(ZH l (of_decide_eq_true hc.1) hc.2).trans hx⟩
 ·cases hq
end Go.Proofs.YteninfkgajnfcaaGreat.Den
