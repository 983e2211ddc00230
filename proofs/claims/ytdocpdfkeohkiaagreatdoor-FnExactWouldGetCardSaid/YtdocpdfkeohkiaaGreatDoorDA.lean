/- What functions of the program do, by the machine: Cur Cur2 Ex Base Wi1 Sch1 Sch2 Sch3 Sch4 Sch5 Sch6 Sch7 Sch8 Sch9 Sch10 Sch11 Sch12 Sch13 Val1 Wi2. -/
import Derived.Test.YtdocpdfkeohkiaaGreatDoorDen4
import Derived.KernelRfl
import Derived.Test.YtdocpdfkeohkiaaGreatDoorRows
open Go.IntKind (i64)
open Go.Proofs.Tryz
open List (all_eq_true append_assoc append_nil drop drop_eq_getElem_cons drop_eq_nil_of_le drop_zero getElem_mem length_drop mem_cons mem_map mem_range range take take_length)
open Int (eq_ofNat_of_zero_le ofNat tdiv tmod toNat toNat_zero)
open Nat (lt_succ_self mul_le_mul pow_add strongRecOn)
open Option (map_some)
open Bool (decide_and)
namespace Go.Proofs.YtdocpdfkeohkiaaGreatDoor.Den
open Go.Proofs
set_option maxRecDepth 100000
@[match_pattern] abbrev LCd:Cd:=.pair (.int .i64) (.pair .str (.pair (.int .i64) (.pair .bool (.pair (.int .i64) .unit))))
@[match_pattern] abbrev TCd:Cd:=.pair (.int .i64) (.pair .str (.pair (.int .i64) (.pair .bool (.pair (.int .i64) (.pair (.int .i64) .unit)))))
@[match_pattern] abbrev NCd:Cd:=.pair (.int .i64) (.pair .str (.pair (.int .i64) (.pair (.int .i64) (.pair .bool .unit))))
@[match_pattern] abbrev VCd:Cd:=.pair (.int .i64) (.pair .str (.pair (.int .i64) (.pair .bool .unit)))
@[match_pattern] abbrev WCd:Cd:=.pair (.int .i64) (.pair (.int .i64) (.pair (.int .i64) (.pair .str (.pair (.int .i64) (.pair (.int .i64) .unit)))))
@[match_pattern] abbrev NTd:Cd:=.pair .str (.pair (.int .i64) (.pair .str .unit))
@[match_pattern] abbrev FCd:Cd:=.pair (.int .i64) (.pair (.int .i64) (.pair (.int .i64) (.pair .str .unit)))
@[match_pattern] abbrev PCd:Cd:=.pair FCd (.pair (.int .i64) .unit)
@[match_pattern] abbrev TPd:Cd:=.pair .str (.pair (.pair (.slice TCd) .unit) (.pair (.int .i64) .unit))
@[match_pattern] abbrev FNd:Cd:=.pair (.int .i64) (.pair .str (.pair (.pair (.slice WCd) .unit) (.pair (.pair (.slice TCd) .unit) (.pair (.slice NTd) (.pair (.int .i64) .unit)))))
@[match_pattern] abbrev V.j (n:Int):V:=.i .i64 n
@[match_pattern] abbrev R0 (c:Cd) (l:List c.den):Option Blk:=some (.row false none c l)
@[match_pattern] abbrev D0 (c:Cd) (l:List c.den):Option Blk:=some (.drow c l none)
abbrev nF:Option (V×List (Option Blk)):=some (V.b false,[])
abbrev rF:Option (Ex×Dt):=some (Ex.ret,[V.b false],[])
abbrev Gm:=List V->List Blk->Br (V×List (Option Blk))
theorem dcT {p:Prop} [Decidable p] (h:p):decide p=true:=decide_eq_true h
theorem dcF {p:Prop} [Decidable p] (h : ¬p):decide p=false:=decide_eq_false h
theorem dcE {p:Prop} [Decidable p]:(decide p=true)=p:=decide_eq_true_eq
theorem anE (a b:Bool):((a&&b)=true)=(a=true/\b=true):=Bool.and_eq_true a b
theorem ntN (n:Nat):(n:Int).toNat=n:=Int.toNat_natCast n
theorem gtE {α:Type _} {l:List α} {i:Nat} (h:i<l.length):l[i]? = some l[i]:=List.getElem?_eq_getElem h
theorem kc {P:Program} {K:FuncId} {fn:Func} (hf:P.funcs[K]? = some fn) {e:Ent} {l:List (FuncId×Ent)} (h2:Af P K e.F) (h:KnowsL P l) (hn:(fn.name == "runtime.NumGoroutine")=false:=by kernel_rfl) (hb:fn.body.isNone=false:=by kernel_rfl):KnowsL P ((K,e)::l):=.cons (Xe hf hn hb) h2 h
theorem mxI:maxI=9223372036854775807:=rfl
theorem lfP {α β:Type} {a c:α} {b d:β} (h:(Br.leaf (a,b)).run=some (c,d)):a=c/\b=d:=Prod.mk.inj (AO h)
section
variable {P:Program} {Γ:FuncId->Option Ent} {Λ:Nat->Option LoopEnt}
theorem stp {m:Nat} {a:Code} {ent:LoopEnt} {d:Dt} {e:Ex} {d':Dt} (h:At P Γ Λ m a ent d=some (e,d')) (he:e≠.normal:=by simp):Runs P Γ Λ m a ent d e d':=.stop d e d' h he
theorem sts {m:Nat} {a:Code} {ent:LoopEnt} {d d1:Dt} {e:Ex} {d':Dt} (h:At P Γ Λ m a ent d=some (.normal,d1)) (hr:Runs P Γ Λ m a ent d1 e d'):Runs P Γ Λ m a ent d e d':=.step d d1 e d' h hr
theorem fcC (hG:Knows P Γ) {K:FuncId} {fn:Func} (hf:P.funcs[K]? = some fn) {F:List V->List Blk->Option (V×List (Option Blk))} (hF : ∀ vs bs r,F vs bs=some r->As P Γ Λ bs.length (fn.body.getD .skip)/\BI P Γ Λ fn vs bs=some r) (hb:fn.body=some (fn.body.getD .skip):=by kernel_rfl):Af P K F:=B7 hG hf hb fun vs bs r h _ _=>hF vs bs r h
theorem fcN (hG:Knows P Γ) {K:FuncId} {fn:Func} (hf:P.funcs[K]? = some fn) {F:List V->List Blk->Option (V×List (Option Blk))} (hF : ∀ vs bs r,F vs bs=some r->As P Γ Λ bs.length (fn.body.getD .skip)/\CS P Γ Λ fn vs bs=some r) (hb:fn.body=some (fn.body.getD .skip):=by kernel_rfl):Af P K F:=LU hG hf hb fun vs bs r h _ _=>hF vs bs r h
theorem fcK (hG:Knows P Γ) {K:FuncId} {fn:Func} (hf:P.funcs[K]? = some fn) {F:List V->List Blk->Option (V×List (Option Blk))} (hF : ∀ vs bs r,F vs bs=some r->As P Γ Λ bs.length (fn.body.getD .skip)/\Aw P Γ Λ fn vs bs=some r) (hb:fn.body=some (fn.body.getD .skip):=by kernel_rfl):Af P K F:=AB hG hf hb fun vs bs r h _ _=>hF vs bs r h
end
theorem T2 {β:Type} {A B:Prop} [Decidable A] [Decidable B] {k:Option β} (h:A/\B):ifT (decide A&&decide B) k=k:=Ab (by rw [decide_eq_true h.1,decide_eq_true h.2]; rfl)
@[match_pattern] abbrev Lt (a:Int) (b:List UInt8) (c:Int) (d:Bool) (e:Int) (f:List (Cd.rose LCd).den):List V:=[.i .i64 a,.s b,.i .i64 c,.b d,.i .i64 e,.sl (.rose LCd) f]
@[match_pattern] abbrev Lv (a:Int) (b:List UInt8) (c:Int) (d:Bool) (f:List (Cd.rose VCd).den):List V:=[.i .i64 a,.s b,.i .i64 c,.b d,.sl (.rose VCd) f]
@[match_pattern] abbrev Lf (a:Int) (b:List UInt8) (c:List WCd.den) (d:List TCd.den) (e:List NTd.den) (f:Int):List V:=[.i .i64 a,.s b,.sl WCd c,.sl TCd d,.sl NTd e,.i .i64 f]
@[match_pattern] abbrev Lw (a b c:Int) (d:List UInt8) (e f:Int):List V:=[.i .i64 a,.i .i64 b,.i .i64 c,.s d,.i .i64 e,.i .i64 f]
@[match_pattern] abbrev Ly (a:Int) (b:List UInt8) (c:Int) (d:Bool) (e f:Int):List V:=[.i .i64 a,.s b,.i .i64 c,.b d,.i .i64 e,.i .i64 f]
abbrev By:=List UInt8
abbrev RL:=List (Rose (Int×List UInt8×Int×Bool×Int×Unit))
abbrev RVL:=List (Rose (Int×List UInt8×Int×Bool×Unit))
structure Cur where
 l:List Int
 a:Int
 s:Int
def Cur.good (c:Cur) (n:Int):Prop:=(∀ z∈c.l,0<=z/\z<=255)/\0<=c.a/\c.a<=n
instance (c:Cur) (n:Int):Decidable (c.good n):=by unfold Cur.good; exact inferInstance



def shr {α β:Type} (a:α) (k:α->β):β:=k a
def Ex1 {β Y:Type} (t:Option β) (sh:Y->β) (Q:Y->Prop):Prop:=∃ y,t=some (sh y)/\Q y
theorem Ex1.L {β Y:Type} {b:β} {sh:Y->β} {Q:Y->Prop} (y:Y) (h:b=sh y) (q:Q y):Ex1 (some b) sh Q:=⟨y,by rw [h],q⟩
theorem Ex1.mono {β Y:Type} {t:Option β} {sh:Y->β} {Q Q':Y->Prop} (k:Ex1 t sh Q) (h : ∀ y,Q y->Q' y):Ex1 t sh Q':=by obtain ⟨y,h1,h2⟩:=k; exact ⟨y,h1,h y h2⟩
def A0:Gm
 | [.j a,.j b,.j c],[]=>.leaf (.b (decide (b<=a/\a<=c)),[])
 | _,_=>.no
theorem RY (a b c:Int):Aw prog (Aa []) (Aa []) f125 [.j a,.j b,.j c] []=(.leaf (.b (decide (b<=a/\a<=c)),[]):Br (V×List (Option Blk))).run:=by
 have e:Aw prog (Aa []) (Aa []) f125 [.j a,.j b,.j c] []=((ifB (decide (a>=b)) (some (V.b (decide (a<=c)),[])) nF):_):=by kernel_rfl
 rw [e];clear e
 by_cases q1:a>=b<;>by_cases q2:a<=c<;>simp [q1,q2,Br.run]<;>omega
theorem Dd:Af prog 125 (Ent.rd1 A0).F:=by
 refine fcK KnowsL.nil.knows (Λ:=Aa []) func125 fun vs bs r' hq=>?_
 unfold Ent.F A0 at hq;dsimp only at hq;split at hq
 ·rename_i a b c;exact ⟨Ah _,(RY a b c).trans hq⟩
 ·cases hq
theorem Z6 (a b c:Int):Aw prog (Aa []) (Aa []) f115 [.j a,.j b,.j c] []=(.leaf (.b (decide (b<=a/\a<=c)),[]):Br (V×List (Option Blk))).run:=by
 have e:Aw prog (Aa []) (Aa []) f115 [.j a,.j b,.j c] []=((ifB (decide (a>=b)) (some (V.b (decide (a<=c)),[])) nF):_):=by kernel_rfl
 rw [e];clear e
 by_cases q1:a>=b<;>by_cases q2:a<=c<;>simp [q1,q2,Br.run]<;>omega
theorem Ia:Af prog 115 (Ent.rd1 A0).F:=by
 refine fcK KnowsL.nil.knows (Λ:=Aa []) func115 fun vs bs r' hq=>?_
 unfold Ent.F A0 at hq;dsimp only at hq;split at hq
 ·rename_i a b c;exact ⟨Ah _,(Z6 a b c).trans hq⟩
 ·cases hq
def tv:Nat->By->Nat->Nat->Option (Nat×Nat×Bool)
 | 0,_,_,_=>none
 | _+1,[],_,_=>none
 | f+1,b::l,i,n=>if b.toNat<128 then some (n+b.toNat % 128*2 ^ (7*i),i+1,decide (n+b.toNat % 128*2 ^ (7*i)<=2000000001)&&(decide (0<b.toNat)||decide (i=0))) else tv f l (i+1) (n+b.toNat % 128*2 ^ (7*i))
def Aj (s:By) (a:Nat):Option (Nat×Nat×Bool):=tv 5 (s.drop a) 0 0
def A7:Option (Nat×Nat×Bool)->Int | some (n,_,_)=>n | none=>0
def Az (a:Nat):Option (Nat×Nat×Bool)->Int | some (_,k,_)=>((a+k:Nat):Int) | none=>0
def BO:Option (Nat×Nat×Bool)->Bool | some (_,_,ok)=>ok | none=>false
def BZ:Option (Nat×Nat×Bool)->Int | some (n,_,true)=>n | _=>0
def AV (a:Nat):Option (Nat×Nat×Bool)->Int | some (_,k,true)=>((a+k:Nat):Int) | _=>0
def PY:LoopEnt:=⟨52,[0,1,7,8],[],[4,5,6],fun
 | ([.s s,.j a,.j n,.j i],[])=>.need (decide (0<=a/\0<=n/\0<=i/\i<=5/\n.toNat<2 ^ (7*i.toNat)/\s.length<=4000000000/\a<=4000000000)) (.br (tv (5-i.toNat) (s.drop (a.toNat+i.toNat)) i.toNat n.toNat).isSome (.leaf (.ret,([.j (A7 (tv (5-i.toNat) (s.drop (a.toNat+i.toNat)) i.toNat n.toNat)),.j (Az a.toNat (tv (5-i.toNat) (s.drop (a.toNat+i.toNat)) i.toNat n.toNat)),.b (BO (tv (5-i.toNat) (s.drop (a.toNat+i.toNat)) i.toNat n.toNat))],[]))) (.leaf (.exit 0,([],[]))))
 | _=>.no⟩
def Se:Gm
 | [.s s,.j a],[]=>.need (decide (0<=a/\s.length<=4000000000/\a<=4000000000)) (.leaf (.tup [.j (A7 (Aj s a.toNat)),.j (Az a.toNat (Aj s a.toNat)),.b (BO (Aj s a.toNat))],[]))
 | _,_=>.no
def PW:LoopEnt:=⟨53,[0,1,7,8],[],[4,5,6],fun
 | ([.s s,.j a,.j n,.j i],[])=>.need (decide (0<=a/\0<=n/\0<=i/\i<=5/\n.toNat<2 ^ (7*i.toNat)/\s.length<=4000000000/\a<=4000000000)) (.br (tv (5-i.toNat) (s.drop (a.toNat+i.toNat)) i.toNat n.toNat).isSome (.leaf (.ret,([.j (BZ (tv (5-i.toNat) (s.drop (a.toNat+i.toNat)) i.toNat n.toNat)),.j (AV a.toNat (tv (5-i.toNat) (s.drop (a.toNat+i.toNat)) i.toNat n.toNat)),.b (BO (tv (5-i.toNat) (s.drop (a.toNat+i.toNat)) i.toNat n.toNat))],[]))) (.leaf (.exit 0,([],[]))))
 | _=>.no⟩
def Sd:Gm
 | [.s s,.j a],[]=>.need (decide (0<=a/\s.length<=4000000000/\a<=4000000000)) (.leaf (.tup [.j (BZ (Aj s a.toNat)),.j (AV a.toNat (Aj s a.toNat)),.b (BO (Aj s a.toNat))],[]))
 | _,_=>.no
theorem Alr (n:Nat) (h:n<256):IntKind.u8.wrap ((BitVec.ofInt IntKind.u8.bits (n:Int) &&& BitVec.ofInt IntKind.u8.bits (127:Int)).toNat:Int)=((n % 128:Nat):Int):=by
 have e:(BitVec.ofInt IntKind.u8.bits (n:Int) &&& BitVec.ofInt IntKind.u8.bits (127:Int)).toNat=n % 128:=by
  show (BitVec.ofInt 8 (n:Int) &&& BitVec.ofInt 8 ((127:Nat):Int)).toNat=n % 128;rw [BitVec.toNat_and,BitVec.ofInt_natCast,BitVec.ofInt_natCast,BitVec.toNat_ofNat,BitVec.toNat_ofNat,show 127 % 2 ^ 8=2 ^ 7-1 by decide,Nat.and_two_pow_sub_one_eq_mod];show n % 256 % 128=n % 128;omega
 rw [e];unfold IntKind.wrap;simp [IntKind.bits,IntKind.signed];omega
theorem Akh (n:Nat) (h:n<256):i64.wrap ((BitVec.ofInt i64.bits (n:Int) &&& BitVec.ofInt i64.bits (127:Int)).toNat:Int)=((n % 128:Nat):Int):=by
 have e:(BitVec.ofInt i64.bits (n:Int) &&& BitVec.ofInt i64.bits (127:Int)).toNat=n % 128:=by
  show (BitVec.ofInt 64 (n:Int) &&& BitVec.ofInt 64 ((127:Nat):Int)).toNat=n % 128;rw [BitVec.toNat_and,BitVec.ofInt_natCast,BitVec.ofInt_natCast,BitVec.toNat_ofNat,BitVec.toNat_ofNat,show 127 % 2 ^ 64=2 ^ 7-1 by decide,Nat.and_two_pow_sub_one_eq_mod];show n % 18446744073709551616 % 128=n % 128;omega
 rw [e,Av (by omega) (by omega)]
theorem Kr {i:Nat} (h:i<=4):2 ^ (7*i)<=268435456:=by
 have:2 ^ (7*i)<=2 ^ 28:=Nat.pow_le_pow_right (by decide) (by omega);have e:(2:Nat) ^ 28=268435456:=by decide
 omega
theorem Aj0 (x i:Nat) (hx:x<128) (hi:i<=4):i64.wrap ((x:Int)*(2:Int) ^ min ((7:Int)*(i:Int)).toNat i64.bits)=((x*2 ^ (7*i):Nat):Int):=by
 have hp:=Kr hi;have hm:x*2 ^ (7*i)<=127*268435456:=mul_le_mul (by omega) hp;have e1:((7:Int)*(i:Int)).toNat=7*i:=by omega
 have e2:min (7*i) i64.bits=7*i:=Nat.min_eq_left (by show 7*i<=64; omega);rw [e1,e2];have e3:(x:Int)*(2:Int) ^ (7*i)=((x*2 ^ (7*i):Nat):Int):=by simp
 rw [e3,Av (by omega) (by omega)]
theorem PO {n:Int} (h1:0<=n) (h2:n<=9223372036854775807):IntKind.u64.wrap n=n:=by
 unfold IntKind.wrap;simp [IntKind.bits,IntKind.signed];omega
theorem or7 (n x i:Nat) (hn:n<2 ^ (7*i)) (hx:x<128) (hi:i<=4):i64.wrap ((BitVec.ofInt i64.bits (n:Int) ||| BitVec.ofInt i64.bits ((x*2 ^ (7*i):Nat):Int)).toNat:Int)=((n+x*2 ^ (7*i):Nat):Int):=by
 have hp:=Kr hi;have hm:x*2 ^ (7*i)<=127*268435456:=mul_le_mul (by omega) hp
 have e:(BitVec.ofInt i64.bits (n:Int) ||| BitVec.ofInt i64.bits ((x*2 ^ (7*i):Nat):Int)).toNat=n+x*2 ^ (7*i):=by
  show (BitVec.ofInt 64 (n:Int) ||| BitVec.ofInt 64 ((x*2 ^ (7*i):Nat):Int)).toNat=_;rw [BitVec.toNat_or,BitVec.ofInt_natCast,BitVec.ofInt_natCast,BitVec.toNat_ofNat,BitVec.toNat_ofNat,Nat.mod_eq_of_lt (by omega),Nat.mod_eq_of_lt (by omega),Nat.mul_comm x,Nat.or_comm,<-Nat.two_pow_add_eq_or_of_lt hn x,Nat.add_comm]
 rw [e,Av (by omega) (by omega)]
theorem PZ : ∀ (f:Nat) (l:By) (i n:Nat) {x:Nat×Nat×Bool},i+f<=5->n<2 ^ (7*i)->tv f l i n=some x->x.1<2 ^ 35/\i<x.2.1/\x.2.1<=i+l.length/\x.2.1<=5
 | 0,l,i,n,x,h1,h2,h=>by rw [tv] at h; cases h
 | f+1,[],i,n,x,h1,h2,h=>by rw [tv] at h; cases h
 | f+1,b::l,i,n,x,h1,h2,h=>by
  have hm:n+b.toNat % 128*2 ^ (7*i)<2 ^ (7*(i+1)):=by
   have h3:b.toNat % 128<=127:=by omega
   have h4:b.toNat % 128*2 ^ (7*i)<=127*2 ^ (7*i):=Nat.mul_le_mul_right _ h3;have h5:2 ^ (7*(i+1))=2 ^ (7*i)*128:=by rw [show 7*(i+1)=7*i+7 by omega,pow_add]
   omega
  rw [tv] at h;split at h
  ·simp at h;subst h;have h6:2 ^ (7*(i+1))<=2 ^ 35:=Nat.pow_le_pow_right (by decide) (by omega);exact ⟨by omega,by simp,by simp<;>omega,by simp<;>omega⟩
  ·obtain ⟨g1,g2,g3,g4⟩:=PZ f l (i+1) _ (by omega) hm h;exact ⟨g1,by omega,by simp; omega,g4⟩
theorem KD {s:By} {a:Nat} {x:Nat×Nat×Bool} (h:Aj s a=some x):x.1<=34359738368/\0<x.2.1/\a+x.2.1<=s.length/\x.2.1<=5:=by
 obtain ⟨h1,h2,h3,h4⟩:=PZ 5 _ 0 0 (by omega) (by decide) h;rw [length_drop] at h3;have e:(2:Nat) ^ 35=34359738368:=by decide
 exact ⟨by omega,h2,by omega,h4⟩
theorem MY (s:By) (a n i:Int):At prog (Aa []) (Aa [(3,PY)]) 0 (body f215 0) PY ([.s s,.j a,.j n,.j i],[]) =
 ((ifB (decide (i<5)) (ifB (decide (i64.wrap (a+i)<(↑s.length:Int))) (ifT (decide (0<=i64.wrap (a+i))) (Ak s[(i64.wrap (a+i)).toNat]?
 fun z=>ifT (decide (0<=i64.wrap (7*i))) (ifB (decide ((↑z.toNat:Int)<(128:Int))) (ifB (decide (i64.wrap (↑(BitVec.ofInt i64.bits n |||
 BitVec.ofInt i64.bits (i64.wrap (i64.wrap (IntKind.u8.wrap (↑(BitVec.ofInt IntKind.u8.bits (↑z.toNat:Int) &&& BitVec.ofInt IntKind.u8.bits (127
 : Int)).toNat:Int))*(2:Int) ^ min (i64.wrap (7*i)).toNat i64.bits))).toNat:Int)<=(2000000001:Int))) (ifB (decide ((↑z.toNat:Int)>(0 :
 Int))) (some (Ex.ret,[V.j (i64.wrap (↑(BitVec.ofInt i64.bits n ||| BitVec.ofInt i64.bits (i64.wrap (i64.wrap
 (IntKind.u8.wrap (↑(BitVec.ofInt IntKind.u8.bits (↑z.toNat:Int) &&& BitVec.ofInt IntKind.u8.bits (127:Int)).toNat:Int))*(2:Int) ^ min (i64.wrap (7 *
 i)).toNat i64.bits))).toNat:Int)),V.j (i64.wrap (i64.wrap (a+i)+(1:Int))),V.b true],[])) (some (Ex.ret,[V.i .i64
 (i64.wrap (↑(BitVec.ofInt i64.bits n ||| BitVec.ofInt i64.bits (i64.wrap (i64.wrap (IntKind.u8.wrap (↑(BitVec.ofInt
 IntKind.u8.bits (↑z.toNat:Int) &&& BitVec.ofInt IntKind.u8.bits (127:Int)).toNat:Int))*(2:Int) ^ min (i64.wrap (7*i)).toNat i64.bits))).toNat
 : Int)),V.j (i64.wrap (i64.wrap (a+i)+(1:Int))),V.b (i==0)],[]))) (some (Ex.ret,[V.j (i64.wrap (↑(BitVec.ofInt
 i64.bits n ||| BitVec.ofInt i64.bits (i64.wrap (i64.wrap (IntKind.u8.wrap (↑(BitVec.ofInt IntKind.u8.bits (↑z.toNat:Int) &&&
 BitVec.ofInt IntKind.u8.bits (127:Int)).toNat:Int))*(2:Int) ^ min (i64.wrap (7*i)).toNat i64.bits))).toNat:Int)),V.j (i64.wrap
 (i64.wrap (a+i)+(1:Int))),V.b false],[]))) (some (Ex.normal,[V.s s,V.j a,V.j (i64.wrap (↑(BitVec.ofInt i64.bits n |||
 BitVec.ofInt i64.bits (i64.wrap (i64.wrap (IntKind.u8.wrap (↑(BitVec.ofInt IntKind.u8.bits (↑z.toNat:Int) &&& BitVec.ofInt IntKind.u8.bits (127
 : Int)).toNat:Int))*(2:Int) ^ min (i64.wrap (7*i)).toNat i64.bits))).toNat:Int)),V.j (i64.wrap (i+1))],[]))))) (some (Ex.exit
 0,[],[]))) (some (Ex.exit 0,[],[]))):_):=by kernel_rfl
theorem PX (s:By) (a:Nat) (hs:s.length<=4000000000) (ha:a<=4000000000) : ∀ (j i n:Nat),i+j=5->n<2 ^ (7*i)->∀ ex d,(Br.br (tv (5-i) (s.drop (a+i)) i n).isSome (.leaf (.ret,([.j (A7 (tv (5-i) (s.drop (a+i)) i n)),.j (Az a (tv (5-i) (s.drop (a+i)) i n)),.b (BO (tv (5-i) (s.drop (a+i)) i n))],[]))) (.leaf (.exit 0,([],[]))):Br (Ex×Dt)).run=some (ex,d)->
  Runs prog (Aa []) (Aa [(3,PY)]) 0 (body f215 0) PY ([.s s,.j (a:Int),.j (n:Int),.j (i:Int)],[]) ex d
 | 0,i,n,hi,hn,ex,d,h=>by
  have hr:=MY s a n i;rw [Ac (dcF (by omega))] at hr;rw [show 5-i=0 by omega,tv] at h;obtain ⟨rfl,rfl⟩:=lfP h;exact stp hr
 | j+1,i,n,hi,hn,ex,d,h=>by
  have hr:=MY s a n i;have hw:i64.wrap ((a:Int)+(i:Int))=((a+i:Nat):Int):=by rw [Av (by omega) (by omega)]; omega
  rw [Ae (dcT (by omega)),hw] at hr;rw [show 5-i=(5-(i+1))+1 by omega] at h
  by_cases hl:a+i<s.length
  ·rw [Ae (dcT (by omega)),Ab (dcT (by omega))] at hr;have hz:=s[a+i].toNat_lt;have hx:s[a+i].toNat % 128<128:=Nat.mod_lt _ (by decide);have hp:=Kr (i:=i) (by omega);have hm:s[a+i].toNat % 128*2 ^ (7*i)<=127*268435456:=mul_le_mul (by omega) hp;have hw7:i64.wrap ((7:Int)*(i:Int))=7*(i:Int):=Av (by omega) (by omega);have hwc:i64.wrap (s[a+i].toNat:Int)=(s[a+i].toNat:Int):=Av (by omega) (by omega);have hu7:IntKind.u64.wrap (7*(i:Int))=7*(i:Int):=PO (by omega) (by omega);have hwx:i64.wrap ((s[a+i].toNat % 128:Nat):Int)=((s[a+i].toNat % 128:Nat):Int):=Av (by omega) (by omega);simp only [ntN,gtE hl,Ai,hw7,hu7,hwc,Alr _ hz,hwx,Aj0 _ i hx (by omega),or7 n _ i hn hx (by omega)] at hr;rw [Ab (dcT (by omega))] at hr;rw [drop_eq_getElem_cons hl,tv] at h
   have hm2:n+s[a+i].toNat % 128*2 ^ (7*i)<2 ^ (7*(i+1)):=by
    have h4:s[a+i].toNat % 128*2 ^ (7*i)<=127*2 ^ (7*i):=Nat.mul_le_mul_right _ (by omega);have h5:2 ^ (7*(i+1))=2 ^ (7*i)*128:=by rw [show 7*(i+1)=7*i+7 by omega,pow_add]
    omega
   have hwi:i64.wrap (((a+i:Nat):Int)+1)=((a+(i+1):Nat):Int):=by rw [Av (by omega) (by omega)]; omega
   rw [Ap (n:=i) (by unfold maxI; omega)] at hr
   try rw [hwi] at hr
   generalize s[a+i].toNat % 128*2 ^ (7*i)=y at *
   have hi0:((i:Int)==0)=decide (i=0):=by
    by_cases h:i=0
    ·subst h; rfl
    ·rw [dcF h]; exact beq_false_of_ne (by omega)
   have hle:decide (((n+y:Nat):Int)<=2000000001)=decide (n+y<=2000000001):=decide_eq_decide.2 (by omega);have hgt:decide (((n+y:Nat):Int)>2000000001) = !decide (n+y<=2000000001):=by rw [<-decide_not]; exact decide_eq_decide.2 (by omega)
   have hb0:decide ((s[a+i].toNat:Int)>0)=decide (0<s[a+i].toNat):=decide_eq_decide.2 (by omega)
   have hbz:((s[a+i].toNat:Int)==0) = !decide (0<s[a+i].toNat):=by
    by_cases h:s[a+i].toNat=0
    ·rw [h]; rfl
    ·rw [dcT (by omega)]; exact beq_false_of_ne (by omega)
   have hig:decide ((i:Int)>0) = !decide (i=0):=by rw [<-decide_not]; exact decide_eq_decide.2 (by omega)
   simp only [hi0,hle,hgt,hb0,hbz,hig] at hr
   by_cases hb:s[a+i].toNat<128
   ·rw [if_pos hb] at h;rw [Ae (dcT (by omega))] at hr;obtain ⟨rfl,rfl⟩:=lfP h;refine .stop _ _ _ (hr.trans ?_) (by simp);cases decide (n+y<=2000000001)<;>cases decide (0<s[a+i].toNat)<;>cases decide (i=0)<;>rfl
   ·rw [if_neg hb] at h;rw [Ac (dcF (by omega))] at hr;exact sts hr (PX s a hs ha j (i+1) (n+y) (by omega) hm2 ex d h)
  ·rw [Ac (dcF (by omega))] at hr;rw [drop_eq_nil_of_le (by omega),tv] at h;obtain ⟨rfl,rfl⟩:=lfP h;exact stp hr
theorem Agi:As prog (Aa []) (Aa [(3,PY)]) 0 (f215.body.getD .skip):=by
 refine Am (a:=body f215 0) (by kernel_rfl) fun d ex d' h=>?_
 unfold PY at h;dsimp only at h;split at h
 ·rename_i s a n i;obtain ⟨hc,hx⟩:=Ad h;clear h;obtain ⟨h0,h1,h2,h3,h4,h5,h6⟩:=of_decide_eq_true hc;obtain ⟨a,rfl⟩:=eq_ofNat_of_zero_le h0;obtain ⟨n,rfl⟩:=eq_ofNat_of_zero_le h1;obtain ⟨i,rfl⟩:=eq_ofNat_of_zero_le h2;simp only [ntN] at h4 hx;exact PX s a h5 (by omega) (5-i) i n (by omega) h4 ex d' hx
 ·cases h
theorem tvi:Af prog 215 (Ent.rd1 Se).F:=by
 refine fcK KnowsL.nil.knows (Λ:=(Aa [(3,PY)])) func215 fun vs bs r hq=>?_
 unfold Ent.F Se at hq;dsimp only at hq;split at hq
 ·rename_i s a;obtain ⟨hc,hx⟩:=Ad hq;refine ⟨Agi,Eq.trans ?_ hx⟩;obtain ⟨h0,h1,h2⟩:=of_decide_eq_true hc;obtain ⟨a,rfl⟩:=eq_ofNat_of_zero_le h0
  have e:Aw prog (Aa []) (Aa [(3,PY)]) f215 [.s s,.j (a:Int)] []=((ifT (decide (0<=(↑a:Int)/\(0:Int)<=(0:Int)/\(0:Int)<=(0:Int)/\(0:Int)<=(5:Int)/\0<2 ^ 0/\s.length<=4000000000/\
 (↑a:Int)<=(4000000000:Int))) (ifB (tv 5 (drop ((↑a:Int).toNat+0) s) 0 0).isSome (some (V.tup [V.j (A7 (tv 5
 (drop ((↑a:Int).toNat+0) s) 0 0)),V.j (Az (↑a:Int).toNat (tv 5 (drop ((↑a:Int).toNat+0) s) 0
 0)),V.b (BO (tv 5 (drop ((↑a:Int).toNat+0) s) 0 0))],[])) (some (V.tup [V.j 0,V.j 0,V.b false],[])))):_):=by kernel_rfl
  rw [e];clear e;rw [Ab (dcT ⟨by omega,by omega,by omega,by omega,by decide,h1,h2⟩)];simp only [ntN,Nat.add_zero,toNat_zero,Nat.sub_zero];show ifB (Aj s a).isSome (some (V.tup [.j (A7 (Aj s a)),.j (Az a (Aj s a)),.b (BO (Aj s a))],[])) _=_;cases Aj s a<;>rfl
 ·cases hq
theorem MX (s:By) (a n i:Int):At prog (Aa []) (Aa [(3,PW)]) 0 (body f201 0) PW ([.s s,.j a,.j n,.j i],[]) =
 ((ifB (decide (i<5)) (ifB (decide (i64.wrap (a+i)<(↑s.length:Int))) (ifT (decide (0<=i64.wrap (a+i))) (Ak s[(i64.wrap (a+i)).toNat]?
 fun z=>ifT (decide ((0:Int)<=IntKind.u64.wrap (i64.wrap (7*i)))) (ifB (decide (i64.wrap (↑z.toNat:Int)<(128:Int))) (ifB (decide (i>0)) (ifB
 (i64.wrap (↑z.toNat:Int)==(0:Int)) (some (Ex.ret,[V.j 0,V.j 0,V.b false],[])) (ifB (decide (i64.wrap (↑(BitVec.ofInt i64.bits
 n ||| BitVec.ofInt i64.bits (i64.wrap (i64.wrap (↑(BitVec.ofInt i64.bits (i64.wrap (↑z.toNat:Int)) &&& BitVec.ofInt
 i64.bits (127:Int)).toNat:Int)*(2:Int) ^ min (IntKind.u64.wrap (i64.wrap (7*i))).toNat i64.bits))).toNat:Int)>(2000000001:Int)))
 (some (Ex.ret,[V.j 0,V.j 0,V.b false],[])) (some (Ex.ret,[V.j (i64.wrap (↑(BitVec.ofInt i64.bits n ||| BitVec.ofInt i64.bits
 (i64.wrap (i64.wrap (↑(BitVec.ofInt i64.bits (i64.wrap (↑z.toNat:Int)) &&& BitVec.ofInt i64.bits (127:Int)).toNat:Int)*(2
 : Int) ^ min (IntKind.u64.wrap (i64.wrap (7*i))).toNat i64.bits))).toNat:Int)),V.j (i64.wrap (i64.wrap (a+i)+(1:Int))),
 V.b true],[])))) (ifB (decide (i64.wrap (↑(BitVec.ofInt i64.bits n ||| BitVec.ofInt i64.bits (i64.wrap (i64.wrap (↑(BitVec.ofInt
 i64.bits (i64.wrap (↑z.toNat:Int)) &&& BitVec.ofInt i64.bits (127:Int)).toNat:Int)*(2:Int) ^ min (IntKind.u64.wrap (i64.wrap (7
 * i))).toNat i64.bits))).toNat:Int)>(2000000001:Int))) (some (Ex.ret,[V.j 0,V.j 0,V.b false],[])) (some (Ex.ret,[V.j (i64.wrap
 (↑(BitVec.ofInt i64.bits n ||| BitVec.ofInt i64.bits (i64.wrap (i64.wrap (↑(BitVec.ofInt i64.bits (i64.wrap (↑z.toNat :
 Int)) &&& BitVec.ofInt i64.bits (127:Int)).toNat:Int)*(2:Int) ^ min (IntKind.u64.wrap (i64.wrap (7*i))).toNat i64.bits))).toNat:Int)),
 V.j (i64.wrap (i64.wrap (a+i)+(1:Int))),V.b true],[])))) (some (Ex.normal,[V.s s,V.j a,V.j (i64.wrap (↑(BitVec.ofInt
 i64.bits n ||| BitVec.ofInt i64.bits (i64.wrap (i64.wrap (↑(BitVec.ofInt i64.bits (i64.wrap (↑z.toNat:Int)) &&&
 BitVec.ofInt i64.bits (127:Int)).toNat:Int)*(2:Int) ^ min (IntKind.u64.wrap (i64.wrap (7*i))).toNat i64.bits))).toNat:Int)),V.i .i64
 (i64.wrap (i+1))],[]))))) (some (Ex.exit 0,[],[]))) (some (Ex.exit 0,[],[]))):_):=by kernel_rfl
theorem PV (s:By) (a:Nat) (hs:s.length<=4000000000) (ha:a<=4000000000) : ∀ (j i n:Nat),i+j=5->n<2 ^ (7*i)->∀ ex d,(Br.br (tv (5-i) (s.drop (a+i)) i n).isSome (.leaf (.ret,([.j (BZ (tv (5-i) (s.drop (a+i)) i n)),.j (AV a (tv (5-i) (s.drop (a+i)) i n)),.b (BO (tv (5-i) (s.drop (a+i)) i n))],[]))) (.leaf (.exit 0,([],[]))):Br (Ex×Dt)).run=some (ex,d)->
  Runs prog (Aa []) (Aa [(3,PW)]) 0 (body f201 0) PW ([.s s,.j (a:Int),.j (n:Int),.j (i:Int)],[]) ex d
 | 0,i,n,hi,hn,ex,d,h=>by
  have hr:=MX s a n i;rw [Ac (dcF (by omega))] at hr;rw [show 5-i=0 by omega,tv] at h;obtain ⟨rfl,rfl⟩:=lfP h;exact stp hr
 | j+1,i,n,hi,hn,ex,d,h=>by
  have hr:=MX s a n i;have hw:i64.wrap ((a:Int)+(i:Int))=((a+i:Nat):Int):=by rw [Av (by omega) (by omega)]; omega
  rw [Ae (dcT (by omega)),hw] at hr;rw [show 5-i=(5-(i+1))+1 by omega] at h
  by_cases hl:a+i<s.length
  ·rw [Ae (dcT (by omega)),Ab (dcT (by omega))] at hr;have hz:=s[a+i].toNat_lt;have hx:s[a+i].toNat % 128<128:=Nat.mod_lt _ (by decide);have hp:=Kr (i:=i) (by omega);have hm:s[a+i].toNat % 128*2 ^ (7*i)<=127*268435456:=mul_le_mul (by omega) hp;have hw7:i64.wrap ((7:Int)*(i:Int))=7*(i:Int):=Av (by omega) (by omega);have hwc:i64.wrap (s[a+i].toNat:Int)=(s[a+i].toNat:Int):=Av (by omega) (by omega);have hu7:IntKind.u64.wrap (7*(i:Int))=7*(i:Int):=PO (by omega) (by omega);have hwx:i64.wrap ((s[a+i].toNat % 128:Nat):Int)=((s[a+i].toNat % 128:Nat):Int):=Av (by omega) (by omega);simp only [ntN,gtE hl,Ai,hw7,hu7,hwc,Akh _ hz,hwx,Aj0 _ i hx (by omega),or7 n _ i hn hx (by omega)] at hr;rw [Ab (dcT (by omega))] at hr;rw [drop_eq_getElem_cons hl,tv] at h
   have hm2:n+s[a+i].toNat % 128*2 ^ (7*i)<2 ^ (7*(i+1)):=by
    have h4:s[a+i].toNat % 128*2 ^ (7*i)<=127*2 ^ (7*i):=Nat.mul_le_mul_right _ (by omega);have h5:2 ^ (7*(i+1))=2 ^ (7*i)*128:=by rw [show 7*(i+1)=7*i+7 by omega,pow_add]
    omega
   have hwi:i64.wrap (((a+i:Nat):Int)+1)=((a+(i+1):Nat):Int):=by rw [Av (by omega) (by omega)]; omega
   rw [Ap (n:=i) (by unfold maxI; omega)] at hr
   try rw [hwi] at hr
   generalize s[a+i].toNat % 128*2 ^ (7*i)=y at *
   have hi0:((i:Int)==0)=decide (i=0):=by
    by_cases h:i=0
    ·subst h; rfl
    ·rw [dcF h]; exact beq_false_of_ne (by omega)
   have hle:decide (((n+y:Nat):Int)<=2000000001)=decide (n+y<=2000000001):=decide_eq_decide.2 (by omega);have hgt:decide (((n+y:Nat):Int)>2000000001) = !decide (n+y<=2000000001):=by rw [<-decide_not]; exact decide_eq_decide.2 (by omega)
   have hb0:decide ((s[a+i].toNat:Int)>0)=decide (0<s[a+i].toNat):=decide_eq_decide.2 (by omega)
   have hbz:((s[a+i].toNat:Int)==0) = !decide (0<s[a+i].toNat):=by
    by_cases h:s[a+i].toNat=0
    ·rw [h]; rfl
    ·rw [dcT (by omega)]; exact beq_false_of_ne (by omega)
   have hig:decide ((i:Int)>0) = !decide (i=0):=by rw [<-decide_not]; exact decide_eq_decide.2 (by omega)
   simp only [hi0,hle,hgt,hb0,hbz,hig] at hr
   by_cases hb:s[a+i].toNat<128
   ·rw [if_pos hb] at h;rw [Ae (dcT (by omega))] at hr;obtain ⟨rfl,rfl⟩:=lfP h;refine .stop _ _ _ (hr.trans ?_) (by simp);cases decide (n+y<=2000000001)<;>cases decide (0<s[a+i].toNat)<;>cases decide (i=0)<;>rfl
   ·rw [if_neg hb] at h;rw [Ac (dcF (by omega))] at hr;exact sts hr (PV s a hs ha j (i+1) (n+y) (by omega) hm2 ex d h)
  ·rw [Ac (dcF (by omega))] at hr;rw [drop_eq_nil_of_le (by omega),tv] at h;obtain ⟨rfl,rfl⟩:=lfP h;exact stp hr
theorem Agh:As prog (Aa []) (Aa [(3,PW)]) 0 (f201.body.getD .skip):=by
 refine Am (a:=body f201 0) (by kernel_rfl) fun d ex d' h=>?_
 unfold PW at h;dsimp only at h;split at h
 ·rename_i s a n i;obtain ⟨hc,hx⟩:=Ad h;clear h;obtain ⟨h0,h1,h2,h3,h4,h5,h6⟩:=of_decide_eq_true hc;obtain ⟨a,rfl⟩:=eq_ofNat_of_zero_le h0;obtain ⟨n,rfl⟩:=eq_ofNat_of_zero_le h1;obtain ⟨i,rfl⟩:=eq_ofNat_of_zero_le h2;simp only [ntN] at h4 hx;exact PV s a h5 (by omega) (5-i) i n (by omega) h4 ex d' hx
 ·cases h
theorem tvs:Af prog 201 (Ent.rd1 Sd).F:=by
 refine fcK KnowsL.nil.knows (Λ:=(Aa [(3,PW)])) func201 fun vs bs r hq=>?_
 unfold Ent.F Sd at hq;dsimp only at hq;split at hq
 ·rename_i s a;obtain ⟨hc,hx⟩:=Ad hq;refine ⟨Agh,Eq.trans ?_ hx⟩;obtain ⟨h0,h1,h2⟩:=of_decide_eq_true hc;obtain ⟨a,rfl⟩:=eq_ofNat_of_zero_le h0
  have e:Aw prog (Aa []) (Aa [(3,PW)]) f201 [.s s,.j (a:Int)] []=((ifT (decide (0<=(↑a:Int)/\(0:Int)<=(0:Int)/\(0:Int)<=(0:Int)/\(0:Int)<=(5:Int)/\0<2 ^ 0/\s.length<=4000000000/\
 (↑a:Int)<=(4000000000:Int))) (ifB (tv 5 (drop ((↑a:Int).toNat+0) s) 0 0).isSome (some (V.tup [V.j (BZ (tv 5
 (drop ((↑a:Int).toNat+0) s) 0 0)),V.j (AV (↑a:Int).toNat (tv 5 (drop ((↑a:Int).toNat+0) s) 0
 0)),V.b (BO (tv 5 (drop ((↑a:Int).toNat+0) s) 0 0))],[])) (some (V.tup [V.j 0,V.j 0,V.b false],[])))):_):=by kernel_rfl
  rw [e];clear e;rw [Ab (dcT ⟨by omega,by omega,by omega,by omega,by decide,h1,h2⟩)];simp only [ntN,Nat.add_zero,toNat_zero,Nat.sub_zero];show ifB (Aj s a).isSome (some (V.tup [.j (BZ (Aj s a)),.j (AV a (Aj s a)),.b (BO (Aj s a))],[])) _=_;cases Aj s a<;>rfl
 ·cases hq
abbrev Lab:=Int×By×Int×Bool×Int×Unit
abbrev Ty:=Int×By×Int×Bool×Int×Int×Unit
def LC (b:UInt8):Bool:=decide (97<=b.toNat)&&decide (b.toNat<=122)
def FW (s:By):Bool:=s.all LC&&(decide (1<=s.length)&&decide (s.length<=10))
def A3 (k:Int):Bool:=k==4||k==5
def Dw (k:Int) (x:Lab):Bool:=if k=5 then FW x.2.1&&(decide (1<=x.2.2.1)&&decide (x.2.2.1<=30)) else x.2.1==[]&&x.2.2.1==0&&!x.2.2.2.1
def L6:Gm
 | [.s s],[]=>.need (decide (s.length<=maxI)) (.leaf (.b (FW s),[]))
 | _,_=>.no
def Kx:Gm
 | [.tp LCd z 0],[]=>.leaf (.b (A3 z.lab.1),[])
 | _,_=>.no
def FZ:Gm
 | [.j k],[]=>.leaf (.b (A3 k),[])
 | _,_=>.no
def Pb:Gm
 | [.tp LCd z 0,.j k],[]=>.need (decide (z.lab.2.1.length<=maxI)) (.leaf (.b (Dw k z.lab),[]))
 | _,_=>.no
def Ho:LoopEnt:=⟨23,[0,5,6],[0],[2],fun
 | ([.s s,.j m,.j i],[])=>.need (decide (0<=i/\i.toNat<=s.length/\s.length<=maxI/\m=s.length)) (.br ((s.drop i.toNat).all LC) (.leaf (.exit 0,([.s s],[]))) (.leaf (.ret,([.b false],[]))))
 | _=>.no⟩
def He:LoopEnt:=⟨23,[0,3],[0],[2],fun
 | ([.s s,.j i],[])=>.need (decide (0<=i/\i.toNat<=s.length/\s.length<=maxI)) (.br ((s.drop i.toNat).all LC) (.leaf (.exit 0,([.s s],[]))) (.leaf (.ret,([.b false],[]))))
 | _=>.no⟩
theorem JG (s:By) (m i:Int):At prog (Aa [(125,.rd1 A0)]) (Aa [(2,Ho)]) 0 (body f226 0) Ho ([.s s,.j m,.j i],[]) =
 ((ifB (decide (i<m)) (ifT (decide (0<=i)) (Ak s[i.toNat]? fun z=>ifB (decide ((↑z.toNat:Int)<(97:Int))) rF (ifT (decide (0<=i))
 (Ak s[i.toNat]? fun z=>ifB (decide ((↑z.toNat:Int)>(122:Int))) rF (some (Ex.normal,[V.s s,V.j m,V.i .i64
 (i64.wrap (i+1))],[])))))) (some (Ex.exit 0,[V.s s],[]))):_):=by kernel_rfl
theorem ZQ:As prog (Aa [(125,.rd1 A0)]) (Aa [(2,Ho)]) 0 (f226.body.getD .skip):=by
 refine Am (a:=body f226 0) (by kernel_rfl) fun d e d' h=>?_
 unfold Ho at h;dsimp only at h;split at h
 ·rename_i s m i;obtain ⟨hc,hx⟩:=Ad h;clear h;obtain ⟨h0,h1,h2,rfl⟩:=of_decide_eq_true hc;obtain ⟨i,rfl⟩:=eq_ofNat_of_zero_le h0;rw [ntN] at h1 hx;refine B3 (l:=s) LC (fun i=>([.s s,.j (↑s.length:Int),.j (i:Int)],[])) (ex:=(.exit 0,([.s s],[]))) (rt:=(.ret,([.b false],[]))) (by simp) (by simp) (fun i hi=>?_) ?_ (s.length-i) i (by omega) e d' hx
  ·have hr:=JG s s.length i;rw [Ae (dcT (by omega))] at hr;simp only [ntN,gtE hi,Ai,Ap (n:=i) (by omega)] at hr;refine hr.trans ?_;have hb:=s[i].toNat_lt;have hz:(0:Int)<=(i:Int):=by omega
   simp only [hz,decide_true,CP];unfold LC;generalize s[i].toNat=b at *;have c1:decide ((b:Int)<97) = !decide (97<=b):=by rw [<-decide_not]; exact decide_eq_decide.2 (by omega)
   have c2:decide ((b:Int)>122) = !decide (b<=122):=by rw [<-decide_not]; exact decide_eq_decide.2 (by omega)
   simp only [c1,c2];cases decide (97<=b)<;>cases decide (b<=122)<;>rfl
  ·have hr:=JG s s.length s.length;rw [Ac (dcF (by omega))] at hr;exact hr
 ·cases h
theorem WB (s:By) (hc:s.length<=maxI):Aw prog (Aa [(125,.rd1 A0)]) (Aa [(2,Ho)]) f226 [.s s] []=some (.b (FW s),[]):=by
 have e:Aw prog (Aa [(125,.rd1 A0)]) (Aa [(2,Ho)]) f226 [.s s] []=((ifT (decide ((0:Int)<=(0:Int)/\0<=s.length/\s.length<=maxI/\(↑s.length:Int)=(↑s.length:Int))) (ifB ((drop 0 s).all LC) (some (V.b
 (decide (1<=(↑s.length:Int)/\(↑s.length:Int)<=(10:Int))),[])) nF)):_):=by kernel_rfl
 rw [e];clear e;have hM:=mxI;rw [Ab (dcT (by simp; try omega))];simp only [toNat_zero,drop_zero];unfold FW
 have d1:decide (1<=(s.length:Int)/\(s.length:Int)<=10)=(decide (1<=s.length)&&decide (s.length<=10)):=by
  rw [<-decide_and]; exact decide_eq_decide.2 (by omega)
 cases s.all LC
 ·rfl
 ·rw [AR,d1]; rfl
theorem Akv:Af prog 226 (Ent.rd1 L6).F:=by
 refine fcK (kc func125 Dd KnowsL.nil).knows (Λ:=(Aa [(2,Ho)])) func226 fun vs bs r hq=>?_
 unfold Ent.F L6 at hq;dsimp only at hq;split at hq
 ·rename_i s;obtain ⟨hc,hx⟩:=Ad hq;exact ⟨ZQ,(WB s (of_decide_eq_true hc)).trans hx⟩
 ·cases hq
theorem J4 (s:By) (i:Int):At prog (Aa [(115,.rd1 A0)]) (Aa [(2,He)]) 0 (body f195 0) He ([.s s,.j i],[]) =
 ((ifB (decide (i<(↑s.length:Int))) (ifT (decide (0<=i)) (Ak s[i.toNat]? fun z=>ifB (decide ((↑z.toNat:Int)<(97:Int))) rF (ifT
 (decide (0<=i)) (Ak s[i.toNat]? fun z=>ifB (decide ((↑z.toNat:Int)>(122:Int))) rF (some (Ex.normal,[V.s s,V.i .i64
 (i64.wrap (i+1))],[])))))) (some (Ex.exit 0,[V.s s],[]))):_):=by kernel_rfl
theorem Yu:As prog (Aa [(115,.rd1 A0)]) (Aa [(2,He)]) 0 (f195.body.getD .skip):=by
 refine Am (a:=body f195 0) (by kernel_rfl) fun d e d' h=>?_
 unfold He at h;dsimp only at h;split at h
 ·rename_i s i;obtain ⟨hc,hx⟩:=Ad h;clear h;obtain ⟨h0,h1,h2⟩:=of_decide_eq_true hc;obtain ⟨i,rfl⟩:=eq_ofNat_of_zero_le h0;rw [ntN] at h1 hx;refine B3 (l:=s) LC (fun i=>([.s s,.j (i:Int)],[])) (ex:=(.exit 0,([.s s],[]))) (rt:=(.ret,([.b false],[]))) (by simp) (by simp) (fun i hi=>?_) ?_ (s.length-i) i (by omega) e d' hx
  ·have hr:=J4 s i;rw [Ae (dcT (by omega))] at hr;simp only [ntN,gtE hi,Ai,Ap (n:=i) (by omega)] at hr;refine hr.trans ?_;have hb:=s[i].toNat_lt;have hz:(0:Int)<=(i:Int):=by omega
   simp only [hz,decide_true,CP];unfold LC;generalize s[i].toNat=b at *;have c1:decide ((b:Int)<97) = !decide (97<=b):=by rw [<-decide_not]; exact decide_eq_decide.2 (by omega)
   have c2:decide ((b:Int)>122) = !decide (b<=122):=by rw [<-decide_not]; exact decide_eq_decide.2 (by omega)
   simp only [c1,c2];cases decide (97<=b)<;>cases decide (b<=122)<;>rfl
  ·have hr:=J4 s s.length;rw [Ac (dcF (by omega))] at hr;exact hr
 ·cases h
theorem VD (s:By) (hc:s.length<=maxI):Aw prog (Aa [(115,.rd1 A0)]) (Aa [(2,He)]) f195 [.s s] []=some (.b (FW s),[]):=by
 have e:Aw prog (Aa [(115,.rd1 A0)]) (Aa [(2,He)]) f195 [.s s] []=((ifT (decide ((0:Int)<=(0:Int)/\0<=s.length/\s.length<=maxI)) (ifB ((drop 0 s).all LC) (some (V.b (decide (1<=(↑s.length:Int)/\
 (↑s.length:Int)<=(10:Int))),[])) nF)):_):=by kernel_rfl
 rw [e];clear e;have hM:=mxI;rw [Ab (dcT (by simp; try omega))];simp only [toNat_zero,drop_zero];unfold FW
 have d1:decide (1<=(s.length:Int)/\(s.length:Int)<=10)=(decide (1<=s.length)&&decide (s.length<=10)):=by
  rw [<-decide_and]; exact decide_eq_decide.2 (by omega)
 cases s.all LC
 ·rfl
 ·rw [AR,d1]; rfl
theorem Ajw:Af prog 195 (Ent.rd1 L6).F:=by
 refine fcK (kc func115 Ia KnowsL.nil).knows (Λ:=(Aa [(2,He)])) func195 fun vs bs r hq=>?_
 unfold Ent.F L6 at hq;dsimp only at hq;split at hq
 ·rename_i s;obtain ⟨hc,hx⟩:=Ad hq;exact ⟨Yu,(VD s (of_decide_eq_true hc)).trans hx⟩
 ·cases hq
theorem Tk (z:Rose Lab):Aw prog (Aa []) (Aa []) f176 [.tp LCd z 0] []=(.leaf (.b (A3 z.lab.1),[]):Br (V×List (Option Blk))).run:=by
 have e:Aw prog (Aa []) (Aa []) f176 [.tp LCd z 0] []=((ifB (z.lab.1==(4:Int)) (some (V.b true,[])) (some (V.b (z.lab.1==(5:Int)),[]))):_):=by kernel_rfl
 rw [e];clear e;unfold A3;cases z.lab.1==4<;>rfl
theorem ZA:Af prog 176 (Ent.rd1 Kx).F:=by
 refine fcK KnowsL.nil.knows (Λ:=Aa []) func176 fun vs bs r' hq=>?_
 unfold Ent.F Kx at hq;dsimp only at hq;split at hq
 ·rename_i z;exact ⟨Ah _,(Tk z).trans hq⟩
 ·cases hq
theorem QS (k:Int):Aw prog (Aa []) (Aa []) f193 [.j k] []=(.leaf (.b (A3 k),[]):Br (V×List (Option Blk))).run:=by
 have e:Aw prog (Aa []) (Aa []) f193 [.j k] []=((ifB (k==4) (some (V.b true,[])) (some (V.b (k==5),[]))):_):=by kernel_rfl
 rw [e];clear e;unfold A3;cases k==4<;>rfl
theorem Pv:Af prog 193 (Ent.rd1 FZ).F:=by
 refine fcK KnowsL.nil.knows (Λ:=Aa []) func193 fun vs bs r' hq=>?_
 unfold Ent.F FZ at hq;dsimp only at hq;split at hq
 ·rename_i k;exact ⟨Ah _,(QS k).trans hq⟩
 ·cases hq
theorem SL (z:Rose Lab) (k:Int) (hc:z.lab.2.1.length<=maxI):Aw prog (Aa [(226,.rd1 L6),(125,.rd1 A0)]) (Aa []) f214 [.tp LCd z 0,.j k] []=some (.b (Dw k z.lab),[]):=by
 have e:Aw prog (Aa [(226,.rd1 L6),(125,.rd1 A0)]) (Aa []) f214 [.tp LCd z 0,.j k] []=((ifB (k==5) (ifT (decide (List.length z.lab.2.1<=maxI)) (ifB (FW z.lab.2.1) (some (V.b (decide ((1:Int)<=z.lab.2.2.1/\z.lab.2.2.1<=(30 :
 Int))),[])) nF)) (ifB (z.lab.2.1==Ag UInt8) (ifB (z.lab.2.2.1==(0:Int)) (some (V.b !z.lab.2.2.2.1,[])) nF) nF)):_):=by kernel_rfl
 rw [e];clear e;rw [dcT hc];unfold Dw;have d1:decide (1<=z.lab.2.2.1/\z.lab.2.2.1<=30)=(decide (1<=z.lab.2.2.1)&&decide (z.lab.2.2.1<=30)):=decide_and ..
 by_cases q:k=5
 ·subst q;rw [Ae (by rfl),if_pos rfl,d1];cases FW z.lab.2.1<;>rfl
 ·rw [Ac (beq_false_of_ne q),if_neg q];cases z.lab.2.1==[]<;>cases z.lab.2.2.1==0<;>rfl
theorem Ahd:Af prog 214 (Ent.rd1 Pb).F:=by
 refine fcK (kc func226 Akv (kc func125 Dd KnowsL.nil)).knows (Λ:=Aa []) func214 fun vs bs r hq=>?_
 unfold Ent.F Pb at hq;dsimp only at hq;split at hq
 ·rename_i z k;obtain ⟨hc,hx⟩:=Ad hq;exact ⟨Ah _,(SL z k (of_decide_eq_true hc)).trans hx⟩
 ·cases hq
def AT (l:List Ty) (i:Nat):Option Int:=(l[i]?).map fun x=>x.2.2.2.2.1
def A1 (l:List Ty) (i:Nat):Lab:=match l[i]? with | some x=>(x.1,x.2.1,x.2.2.1,x.2.2.2.1,x.2.2.2.2.2.1,()) | none=>(0,[],0,false,0,())
def AI (g:Nat->Rose Lab×Nat) (l:List Ty) (a:Nat):Nat->Nat->RL->RL×Nat
 | 0,e,ks=>(ks,e)
 | n+1,e,ks=>if AT l e=some (a:Int) then AI g l a n (g e).2 (ks++[(g e).1]) else (ks,e)
def kfr (l:List Ty):Nat->Nat->Rose Lab×Nat
 | 0,a=>(.node (A1 l a) [],a+1)
 | f+1,a=>
  let r:=bif A3 (A1 l a).1 then AI (kfr l f) l a l.length (a+1) [] else ([],a+1)
  (.node (A1 l a) r.1,r.2)
def kf (l:List Ty) (a:Nat):Rose Lab×Nat:=kfr l l.length a
def kfG (n:Nat):Gm
 | [.sl TCd l,.j a],[]=>.need (decide (0<=a/\a.toNat<l.length/\l.length<=4000000000/\l.length-a.toNat<=n)) (.leaf (.tup [.ptr 0 0,.j ((kf l a.toNat).2:Int)],[some (.box [.j (kf l a.toNat).1.lab.1,.s (kf l a.toNat).1.lab.2.1,.j (kf l a.toNat).1.lab.2.2.1,.b (kf l a.toNat).1.lab.2.2.2.1,.j (kf l a.toNat).1.lab.2.2.2.2.1,.ref 1 0 (kf l a.toNat).1.kids.length]),R0 (.tree LCd) (kf l a.toNat).1.kids]))
 | _,_=>.no
def G5:Gm
 | [.sl TCd l,.j a],[]=>.need (decide (0<=a/\a.toNat<l.length/\l.length<=4000000000)) (.leaf (.tup [.ptr 0 0,.j ((kf l a.toNat).2:Int)],[some (.box [.j (kf l a.toNat).1.lab.1,.s (kf l a.toNat).1.lab.2.1,.j (kf l a.toNat).1.lab.2.2.1,.b (kf l a.toNat).1.lab.2.2.2.1,.j (kf l a.toNat).1.lab.2.2.2.2.1,.ref 1 0 (kf l a.toNat).1.kids.length]),R0 (.tree LCd) (kf l a.toNat).1.kids]))
 | _,_=>.no
def kfE (n:Nat):LoopEnt:=⟨65,[0,1,7,8],[7,8],[],fun
 | ([.sl TCd l,.j a,.ptr 0 0,.j e],[some (.box [.j x0,.s x1,.j x2,.b x3,.j x4,.ref 1 0 k]),R0 (.tree LCd) ks])=>.need (decide (0<=a/\a<e/\a.toNat<l.length/\e.toNat<=l.length/\l.length<=4000000000/\k=ks.length/\ks.length<=e.toNat/\l.length-a.toNat<=n+1)) (.leaf (.exit 0,([.ptr 0 0,.j ((bif A3 x0 then AI (kf l) l a.toNat l.length e.toNat ks else (ks,e.toNat)).2:Int)],[some (.box [.j x0,.s x1,.j x2,.b x3,.j x4,.ref 1 0 (bif A3 x0 then AI (kf l) l a.toNat l.length e.toNat ks else (ks,e.toNat)).1.length]),R0 (.tree LCd) (bif A3 x0 then AI (kf l) l a.toNat l.length e.toNat ks else (ks,e.toNat)).1])))
 | _=>.no⟩
abbrev Abp (n:Nat):FuncId->Option Ent:=Aa [(142,.rd1 (kfG n)),(176,.rd1 Kx)]
theorem ZC (n:Nat) (l:List Ty) (a e:Int) (x0:Int) (x1:By) (x2:Int) (x3:Bool) (x4:Int) (k:Nat) (ks:RL):At prog (Abp n) (Aa [(4,kfE n)]) 0 (body f142 0) (kfE n) ([.sl TCd l,.j a,.ptr 0 0,.j e],[some (.box [.j x0,.s x1,.j x2,.b x3,.j x4,.ref 1 0 k]),R0 (.tree LCd) ks]) =
 ((ifB (A3 (Rose.node (x0,x1,x2,x3,x4,()) (take k (drop 0 ks))).lab.1) (ifB (decide (e<(↑l.length:Int))) (ifT (decide (0<=e)&&decide (e <
 (↑l.length:Int))) (Ak l[e.toNat]? fun z=>ifB (z.2.2.2.2.1==a) (ifT (decide (0<=e/\e.toNat<l.length/\l.length<=4000000000/\l.length -
 e.toNat<=n)) (ifT (decide ((k+1)*8<=140737488355328)&&decide (k+1<=maxI)) (some (Ex.normal,[V.sl TCd l,V.j a,V.ptr 0 0,
 V.j (↑(kf l e.toNat).2:Int)],[some (Blk.box [V.j x0,V.s x1,V.j x2,V.b x3,V.j x4,V.ref 1 0 (k+1)]),R0 LCd.tree (take k (drop 0 ks)++Rose.node ((kf l e.toNat).1.lab.1,(kf l e.toNat).1.lab.2.1,(kf l e.toNat).1.lab.2.2.1,(kf l
 e.toNat).1.lab.2.2.2.1,(kf l e.toNat).1.lab.2.2.2.2.1,()) (take (kf l e.toNat).1.kids.length (drop 0 (kf l e.toNat).1.kids))
 :: Ag LCd.tree.den)])))) (some (Ex.exit 0,[V.ptr 0 0,V.j e],[some (Blk.box [V.j x0,V.s x1,V.j x2,V.b x3,V.j x4,V.ref 1 0 k]),R0 LCd.tree ks])))) (some (Ex.exit 0,[V.ptr 0 0,V.j e],[some (Blk.box [V.j x0,V.s x1,V.j x2,V.b x3,V.j x4,V.ref 1 0 k]),R0 LCd.tree ks]))) (some (Ex.exit 0,[V.ptr 0 0,V.j e],[some (Blk.box [V.j x0,V.s x1,V.j x2,V.b x3,V.j x4,V.ref 1 0 k]),R0 LCd.tree ks]))):_):=by kernel_rfl
theorem Ad5 (n:Nat) (l:List Ty) (a:Int):CS prog (Abp n) (Aa [(4,kfE n)]) f142 [.sl TCd l,.j a] [] =
 ((ifT (decide (0<=a)&&decide (a<(↑l.length:Int))) (Ak l[a.toNat]? fun z=>ifT (decide (0<=a/\a<i64.wrap (a+1)/\a.toNat<l.length/\
 (i64.wrap (a+1)).toNat<=l.length/\l.length<=4000000000/\0=0/\0<=(i64.wrap (a+1)).toNat/\l.length-a.toNat<=
 n+1)) (some (V.tup [V.ptr 0 0,V.j (↑(bif A3 z.1 then AI (kf l) l a.toNat l.length (i64.wrap (a+1)).toNat (Ag LCd.tree.den) else (Ag
 LCd.tree.den,(i64.wrap (a+1)).toNat)).2:Int)],[some (Blk.box [V.j z.1,V.s z.2.1,V.j z.2.2.1,V.b z.2.2.2.1,V.i .i64
 z.2.2.2.2.2.1,V.ref 1 0 (bif A3 z.1 then AI (kf l) l a.toNat l.length (i64.wrap (a+1)).toNat (Ag LCd.tree.den) else (Ag LCd.tree.den,
 (i64.wrap (a+1)).toNat)).1.length]),R0 LCd.tree (bif A3 z.1 then AI (kf l) l a.toNat l.length (i64.wrap (a+1)).toNat
 (Ag LCd.tree.den) else (Ag LCd.tree.den,(i64.wrap (a+1)).toNat)).1])))):_):=by kernel_rfl
theorem Eh {l:List Ty} {e:Nat} {a:Int} (h:AT l e=some a):e<l.length:=by
 unfold AT at h;obtain ⟨x,h1,_⟩:=Option.map_eq_some_iff.1 h;exact (List.getElem?_eq_some_iff.1 h1).1
theorem HC (z:Rose Lab):Rose.node (z.lab.1,z.lab.2.1,z.lab.2.2.1,z.lab.2.2.2.1,z.lab.2.2.2.2.1,()) (take z.kids.length (drop 0 z.kids))=z:=by
 obtain ⟨⟨_,_,_,_,_,⟨⟩⟩,ks⟩:=z;simp [Rose.lab,Rose.kids]
def LT (l:List Ty) (g:Nat->Rose Lab×Nat):Prop:=∀ e,e<l.length->e<(g e).2/\(g e).2<=l.length
theorem G2 {l:List Ty} {g:Nat->Rose Lab×Nat} {a:Nat} (hg:LT l g) : ∀ (n e:Nat) (ks:RL),e<=l.length->e<=(AI g l a n e ks).2/\(AI g l a n e ks).2<=l.length
 | 0,e,ks,h=>⟨Nat.le_refl _,h⟩
 | n+1,e,ks,h=>by
  unfold AI;split
  ·rename_i hu;obtain ⟨h1,h2⟩:=hg e (Eh hu);obtain ⟨h3,h4⟩:=G2 hg n (g e).2 (ks++[(g e).1]) h2;exact ⟨by omega,h4⟩
  ·exact ⟨Nat.le_refl _,h⟩
theorem Ky (l:List Ty) : ∀ f,LT l (kfr l f)
 | 0,a,h=>⟨lt_succ_self _,h⟩
 | f+1,a,h=>by
  unfold kfr;dsimp only
  cases A3 (A1 l a).1 with
  | true=>
   obtain ⟨h3,h4⟩:=G2 (a:=a) (Ky l f) l.length (a+1) [] h;exact ⟨by rw [cond_true]; omega,by rw [cond_true]; exact h4⟩
  | false=>exact ⟨lt_succ_self _,h⟩
theorem Ga {l:List Ty} {g g':Nat->Rose Lab×Nat} {a e0:Nat} (hg:LT l g) (h : ∀ e,e0<=e->e<l.length->g e=g' e) : ∀ (n e:Nat) (ks:RL),e0<=e->AI g l a n e ks=AI g' l a n e ks
 | 0,e,ks,_=>rfl
 | n+1,e,ks,he=>by
  unfold AI;split
  ·rename_i hu;have hl:=Eh hu;rw [<-h e he hl];exact Ga hg h n _ _ (by have:=(hg e hl).1; omega)
  ·rfl
theorem Hn {l:List Ty} {g:Nat->Rose Lab×Nat} {a:Nat} (hg:LT l g) : ∀ (n m e:Nat) (ks:RL),l.length-e<=n->l.length-e<=m->AI g l a n e ks=AI g l a m e ks
 | 0,0,e,ks,_,_=>rfl
 | 0,m+1,e,ks,h,_=>by
  unfold AI;split
  ·rename_i hu; have:=Eh hu; omega
  ·rfl
 | n+1,0,e,ks,_,h=>by
  unfold AI;split
  ·rename_i hu; have:=Eh hu; omega
  ·rfl
 | n+1,m+1,e,ks,h1,h2=>by
  unfold AI;split
  ·rename_i hu;have hl:=Eh hu;have:=(hg e hl).1;exact Hn hg n m _ _ (by omega) (by omega)
  ·rfl
theorem QZ (l:List Ty) : ∀ (f f' a:Nat),l.length-a<=f->l.length-a<=f'->a<l.length->kfr l f a=kfr l f' a
 | 0,f',a,h1,_,h=>by omega
 | f+1,0,a,_,h1,h=>by omega
 | f+1,f'+1,a,h1,h2,h=>by
  unfold kfr;dsimp only;rw [Ga (Ky l f) (fun e he hl=>QZ l f f' e (by omega) (by omega) hl) l.length (a+1) [] (Nat.le_refl _)]
theorem CI (l:List Ty):LT l (kf l):=Ky l l.length
theorem NQ {l:List Ty} {a:Nat} (h:a<l.length):kf l a=(.node (A1 l a) (bif A3 (A1 l a).1 then AI (kf l) l a l.length (a+1) [] else ([],a+1)).1,(bif A3 (A1 l a).1 then AI (kf l) l a l.length (a+1) [] else ([],a+1)).2):=by
 obtain ⟨m,hm⟩ : ∃ m,l.length=m+1:=⟨l.length-1,by omega⟩
 have e1:AI (kfr l m) l a l.length (a+1) []=AI (kf l) l a l.length (a+1) []:=Ga (Ky l m) (fun e he hl=>QZ l m l.length e (by omega) (by omega) hl) l.length (a+1) [] (Nat.le_refl _);rw [<-e1];unfold kf
 conv=>lhs; rw [hm]
 rfl
theorem Ti {l:List Ty} {a e:Nat} {ks:RL} (h:AT l e=some (a:Int)):AI (kf l) l a l.length e ks=AI (kf l) l a l.length (kf l e).2 (ks++[(kf l e).1]):=by
 have hl:=Eh h;obtain ⟨m,hm⟩ : ∃ m,l.length=m+1:=⟨l.length-1,by omega⟩
 conv=>lhs; rw [hm]
 show (if AT l e=some (a:Int) then AI (kf l) l a m (kf l e).2 (ks++[(kf l e).1]) else (ks,e))=_;rw [if_pos h];have:=(CI l e hl).1;exact Hn (CI l) m l.length _ _ (by omega) (by omega)
theorem Fh {l:List Ty} {a e n:Nat} {ks:RL} (h:AT l e≠some (a:Int)):AI (kf l) l a n e ks=(ks,e):=by
 cases n with
 | zero=>rfl
 | succ n=>unfold AI; rw [if_neg h]
theorem Ad6 (n:Nat) (l:List Ty) (a:Nat) (x0:Int) (x1:By) (x2:Int) (x3:Bool) (x4:Int) (hal:a<l.length) (hl:l.length<=4000000000) (hn:l.length-a<=n+1) : ∀ (j e:Nat) (ks:RL),e+j=l.length->a<e->ks.length<=e->
  Runs prog (Abp n) (Aa [(4,kfE n)]) 0 (body f142 0) (kfE n) ([.sl TCd l,.j (a:Int),.ptr 0 0,.j (e:Int)],[some (.box [.j x0,.s x1,.j x2,.b x3,.j x4,.ref 1 0 ks.length]),R0 (.tree LCd) ks]) (.exit 0) ([.ptr 0 0,.j ((bif A3 x0 then AI (kf l) l a l.length e ks else (ks,e)).2:Int)],[some (.box [.j x0,.s x1,.j x2,.b x3,.j x4,.ref 1 0 (bif A3 x0 then AI (kf l) l a l.length e ks else (ks,e)).1.length]),R0 (.tree LCd) (bif A3 x0 then AI (kf l) l a l.length e ks else (ks,e)).1]):=by
 intro j
 induction j using strongRecOn with
 | ind j ih=>
  intro e ks he hae hk;have hM:=mxI;have hr:=ZC n l a e x0 x1 x2 x3 x4 ks.length ks;have hlab:(Rose.node (x0,x1,x2,x3,x4,()) (take ks.length (drop 0 ks)):Rose Lab).lab.1=x0:=rfl;simp only [hlab] at hr
  cases hx:A3 x0 with
  | false=>
   rw [hx,A6] at hr;rw [cond_false];exact stp hr
  | true=>
   rw [hx,AR] at hr;rw [cond_true]
   by_cases h1:e<l.length
   ·rw [Ae (dcT (by omega)),T2 (by omega)] at hr;simp only [ntN,gtE h1,Ai,drop_zero,take_length] at hr
    by_cases h2:l[e].2.2.2.2.1=(a:Int)
    ·have hu:AT l e=some (a:Int):=by unfold AT; rw [gtE h1,map_some,h2]
     rw [Ae (by rw [h2]; exact beq_self_eq_true _),Ab (dcT ⟨by omega,h1,hl,by omega⟩),T2 (by omega)] at hr;obtain ⟨b1,b2⟩:=CI l e h1;rw [Ti hu];have ht:=HC (kf l e).1;rw [drop_zero,take_length] at ht;rw [ht] at hr;have hlen:(ks++[(kf l e).1]).length=ks.length+1:=by simp
     have ih2:=ih (l.length-(kf l e).2) (by omega) (kf l e).2 (ks++[(kf l e).1]) (by omega) (by omega) (by rw [hlen]; omega);simp only [hx,cond_true] at ih2;refine sts (hr.trans ?_) ih2;rw [hlen]
    ·have hu:AT l e≠some (a:Int):=by unfold AT; rw [gtE h1,map_some]; exact fun h=>h2 (Option.some.inj h)
     rw [Ac (beq_false_of_ne h2)] at hr;rw [Fh hu];exact stp hr
   ·rw [Ac (dcF (by omega))] at hr;rw [Fh (fun h=>h1 (Eh h))];exact stp hr
theorem Akm (n:Nat):As prog (Abp n) (Aa [(4,kfE n)]) 0 (f142.body.getD .skip):=by
 refine Am (a:=body f142 0) (by kernel_rfl) fun d ex d' h=>?_
 unfold kfE at h;dsimp only at h;split at h
 ·rename_i l a e x0 x1 x2 x3 x4 k ks;obtain ⟨hc,hx⟩:=Ad h;clear h;obtain ⟨h0,h1,h2,h3,h4,rfl,h6,h7⟩:=of_decide_eq_true hc;obtain ⟨a,rfl⟩:=eq_ofNat_of_zero_le h0;obtain ⟨e,rfl⟩:=eq_ofNat_of_zero_le (by omega:0<=e);simp only [ntN] at h2 h3 h6 h7 hx;obtain ⟨rfl,rfl⟩:=lfP hx;exact Ad6 n l a x0 x1 x2 x3 x4 h2 h4 h7 (l.length-e) e ks (by omega) (by omega) h6
 ·cases h
theorem Aib (n:Nat) (l:List Ty) (a:Int) (hc:0<=a/\a.toNat<l.length/\l.length<=4000000000/\l.length-a.toNat<=n+1):CS prog (Abp n) (Aa [(4,kfE n)]) f142 [.sl TCd l,.j a] []=some (.tup [.ptr 0 0,.j ((kf l a.toNat).2:Int)],[some (.box [.j (kf l a.toNat).1.lab.1,.s (kf l a.toNat).1.lab.2.1,.j (kf l a.toNat).1.lab.2.2.1,.b (kf l a.toNat).1.lab.2.2.2.1,.j (kf l a.toNat).1.lab.2.2.2.2.1,.ref 1 0 (kf l a.toNat).1.kids.length]),R0 (.tree LCd) (kf l a.toNat).1.kids]):=by
 rw [Ad5];obtain ⟨h0,h1,h2,h3⟩:=hc;obtain ⟨a,rfl⟩:=eq_ofNat_of_zero_le h0;rw [ntN] at h1 h3;have hM:=mxI;have hw:i64.wrap ((a:Int)+1)=((a+1:Nat):Int):=Ap (by omega);rw [T2 (by omega)];simp only [ntN,gtE h1,Ai,hw];rw [Ab (dcT ⟨by omega,by omega,h1,by omega,h2,trivial,by omega,by omega⟩)];have hk:=NQ h1;have hlab:A1 l a=(l[a].1,l[a].2.1,l[a].2.2.1,l[a].2.2.2.1,l[a].2.2.2.2.2.1,()):=by unfold A1; rw [gtE h1]
 rw [hk,hlab];rfl
theorem Aic : ∀ n,(∀ m,m<n->Af prog 142 (Ent.rd1 (kfG m)).F)->Af prog 142 (Ent.rd1 (kfG n)).F
 | 0,_=>AW fun vs bs=>by
  unfold Ent.F kfG;dsimp only;split
  ·rename_i l a;have:decide (0<=a/\a.toNat<l.length/\l.length<=4000000000/\l.length-a.toNat<=0)=false:=dcF (by omega);rw [this]; rfl
  ·rfl
 | n+1,ih=>by
  refine fcN (kc func142 (ih n (lt_succ_self n)) (kc func176 ZA KnowsL.nil)).knows (Λ:=(Aa [(4,kfE n)])) func142 fun vs bs r hq=>?_
  unfold Ent.F kfG at hq;dsimp only at hq;split at hq
  ·rename_i l a;obtain ⟨hc,hx⟩:=Ad hq;exact ⟨Akm n,(Aib n l a (of_decide_eq_true hc)).trans hx⟩
  ·cases hq
theorem Z9:Af prog 142 (Ent.rd1 G5).F:=by
 refine Bd (F:=fun n=>(Ent.rd1 (kfG n)).F) Aic fun vs bs r h=>?_
 unfold Ent.F G5 at h;dsimp only at h;split at h
 ·rename_i l a;obtain ⟨hc,hx⟩:=Ad h;obtain ⟨h0,h1,h2⟩:=of_decide_eq_true hc;refine ⟨l.length,?_⟩;unfold Ent.F kfG;dsimp only;have:decide (0<=a/\a.toNat<l.length/\l.length<=4000000000/\l.length-a.toNat<=l.length)=true:=dcT ⟨h0,h1,h2,by omega⟩;rw [this];exact hx
 ·cases h
mutual
def Ao:Rose Lab->Nat
 | .node _ ks=>Ar ks+1
def Ar:RL->Nat
 | []=>0
 | z::l=>Ao z+Ar l
end
mutual
def BN:Rose Lab->Nat
 | .node x ks=>Co ks+(bif A3 x.1 then 1 else 0)
def Co:RL->Nat
 | []=>0
 | z::l=>max (BN z) (Co l)
end
def Dp (n:Nat):Gm
 | [.tp LCd z 0],[]=>.need (decide (Ao z<=n/\Ao z<=1000000)) (.leaf (.j (Ao z:Int),[]))
 | _,_=>.no
def P1:Gm
 | [.tp LCd z 0],[]=>.need (decide (Ao z<=1000000)) (.leaf (.j (Ao z:Int),[]))
 | _,_=>.no
def DH (n:Nat):LoopEnt:=⟨21,[3,9,10,11],[3],[],fun
 | ([.j m,.sl (.tree LCd) ks,.j k,.j i],[])=>.need (decide (0<=m/\m<=1000001/\0<=i/\i.toNat<=ks.length/\k=ks.length/\Ar ks<=n/\Ar ks<=1000000/\m.toNat+Ar (ks.drop i.toNat)<=1000001)) (.leaf (.exit 0,([.j ((m.toNat+Ar (ks.drop i.toNat):Nat):Int)],[])))
 | _=>.no⟩
def IU (n:Nat):Gm
 | [.tp LCd z 0],[]=>.need (decide (Ao z<=n/\Ao z<=1000000)) (.leaf (.j (BN z:Int),[]))
 | _,_=>.no
def Tn:Gm
 | [.tp LCd z 0],[]=>.need (decide (Ao z<=1000000)) (.leaf (.j (BN z:Int),[]))
 | _,_=>.no
def Fj (n:Nat):LoopEnt:=⟨25,[0,3,9,10,11],[0,3],[],fun
 | ([.tp LCd y 0,.j m,.sl (.tree LCd) ks,.j k,.j i],[])=>.need (decide (0<=m/\m<=1000001/\0<=i/\i.toNat<=ks.length/\k=ks.length/\Ar ks<=n/\Ar ks<=1000000)) (.leaf (.exit 0,([.tp LCd y 0,.j ((max m.toNat (Co (ks.drop i.toNat)):Nat):Int)],[])))
 | _=>.no⟩
theorem BE {z:Rose Lab} : ∀ {l:RL},z∈l->Ao z<=Ar l
 | [],h=>by cases h
 | y::l,h=>by
  rw [Ar];rcases mem_cons.1 h with rfl | h
  ·omega
  ·have:=BE h; omega
theorem Cq (z:Rose Lab):1<=Ao z:=by cases z; rw [Ao]; omega
theorem BS : ∀ (l:RL),l.length<=Ar l
 | []=>Nat.le_refl _
 | z::l=>by have:=BS l; have:=Cq z; rw [Ar,List.length_cons]; omega
theorem Bk (z:Rose Lab):Ao z=Ar z.kids+1:=by cases z; rw [Ao]; rfl
mutual
theorem Iw : ∀ z:Rose Lab,BN z<=Ao z
 | .node x ks=>by rw [BN,Ao]; have:=G8 ks; cases A3 x.1<;>simp<;>omega
theorem G8 : ∀ l:RL,Co l<=Ar l
 | []=>Nat.le_refl _
 | z::l=>by rw [Co,Ar]; have:=Iw z; have:=G8 l; omega
end
theorem Ib (n:Nat) (m:Int) (ks:RL) (k i:Int):At prog (Aa [(179,.rd1 (Dp n))]) (Aa [(3,DH n)]) 0 (body f179 0) (DH n) ([.j m,.sl (.tree LCd) ks,.j k,.j i],[]) =
 ((ifB (decide (i<k)) (ifT (decide (0<=i)&&decide (i<(↑ks.length:Int))) (Ak ks[i.toNat]? fun z=>ifT (decide (Ao z<=n/\Ao z<=1000000)) (some
 (Ex.normal,[V.j (i64.wrap (m+(↑(Ao z):Int))),V.sl LCd.tree ks,V.j k,V.j (i64.wrap (i+1))],[])))) (some (Ex.exit 0,[V.i .i64
 m],[]))):_):=by kernel_rfl
theorem Ra (n:Nat) (z:Rose Lab):Aw prog (Aa [(179,.rd1 (Dp n))]) (Aa [(3,DH n)]) f179 [.tp LCd z 0] [] =
 ((ifT (decide ((0:Int)<=(1:Int)/\(1:Int)<=(1000001:Int)/\(0:Int)<=(0:Int)/\0<=z.kids.length/\(↑z.kids.length:Int)=(↑z.kids.length:Int)/\
 Ar z.kids<=n/\Ar z.kids<=1000000/\1+Ar (drop 0 z.kids)<=1000001)) (some (V.j (↑(1+Ar (drop (0 :
 Nat) z.kids)):Int),[]))):_):=by kernel_rfl
theorem JF (n:Nat) (ks:RL) (h1:Ar ks<=n) (h2:Ar ks<=1000000) : ∀ (j i m:Nat),i+j=ks.length->m<=1000001->m+Ar (ks.drop i)<=1000001->
  Runs prog (Aa [(179,.rd1 (Dp n))]) (Aa [(3,DH n)]) 0 (body f179 0) (DH n) ([.j (m:Int),.sl (.tree LCd) ks,.j (ks.length:Int),.j (i:Int)],[]) (.exit 0) ([.j ((m+Ar (ks.drop i):Nat):Int)],[])
 | 0,i,m,hi,hm,hs=>by
  have hr:=Ib n m ks ks.length i;rw [Ac (dcF (by omega))] at hr;have e1:ks.drop i=[]:=drop_eq_nil_of_le (by omega);rw [e1,Ar];exact .stop _ _ _ (hr.trans (by simp)) (by simp)
 | j+1,i,m,hi,hm,hs=>by
  have hl:i<ks.length:=by omega
  have hM:=mxI;have hr:=Ib n m ks ks.length i;have hmem:=BE (getElem_mem hl);have hlen:=BS ks;have hdm:=Iw ks[i];rw [Ae (dcT (by omega)),T2 (by omega)] at hr;simp only [ntN,gtE hl,Ai,Ap (n:=i) (by omega)] at hr;rw [Ab (dcT ⟨by omega,by omega⟩)] at hr;rw [drop_eq_getElem_cons hl,Ar];rw [drop_eq_getElem_cons hl,Ar] at hs;have hx:i64.wrap ((m:Int)+(Ao ks[i]:Int))=((m+Ao ks[i]:Nat):Int):=by rw [Av (by omega) (by omega)]; omega
  have ih:=JF n ks h1 h2 j (i+1) (m+Ao ks[i]) (by omega) (by omega) (by omega);rw [<-Nat.add_assoc];exact sts (hr.trans (by rw [hx])) ih
theorem W6 (n:Nat):As prog (Aa [(179,.rd1 (Dp n))]) (Aa [(3,DH n)]) 0 (f179.body.getD .skip):=by
 refine Am (a:=body f179 0) (by kernel_rfl) fun d ex d' h=>?_
 unfold DH at h;dsimp only at h;split at h
 ·rename_i m ks k i;obtain ⟨hc,hx⟩:=Ad h;clear h;obtain ⟨h0,h1,h2,h3,rfl,h5,h6,h7⟩:=of_decide_eq_true hc;obtain ⟨m,rfl⟩:=eq_ofNat_of_zero_le h0;obtain ⟨i,rfl⟩:=eq_ofNat_of_zero_le h2;simp only [ntN] at h3 hx h7;obtain ⟨rfl,rfl⟩:=lfP hx;exact JF n ks h5 h6 (ks.length-i) i m (by omega) (by omega) h7
 ·cases h
theorem To (n:Nat) (z:Rose Lab) (hc:Ao z<=n+1/\Ao z<=1000000):Aw prog (Aa [(179,.rd1 (Dp n))]) (Aa [(3,DH n)]) f179 [.tp LCd z 0] []=some (.j (Ao z:Int),[]):=by
 rw [Ra];obtain ⟨x,ks⟩:=z;obtain ⟨h1,h2⟩:=hc;rw [Ao] at h1 h2;have hd:drop (toNat 0) ks=ks:=rfl;simp only [Rose.kids,Rose.lab] at *;rw [Ab (dcT (by refine ⟨by omega,by omega,by omega,by simp,by trivial,by omega,by omega,?_⟩; simp; omega))];rw [Ao];simp only [Int.toNat_one,toNat_zero,drop_zero];rw [Nat.add_comm]
theorem Tq : ∀ n,(∀ m,m<n->Af prog 179 (Ent.rd1 (Dp m)).F)->Af prog 179 (Ent.rd1 (Dp n)).F
 | 0,_=>AW fun vs bs=>by
  unfold Ent.F Dp;dsimp only;split
  ·rename_i z;have:=Cq z;have:decide (Ao z<=0/\Ao z<=1000000)=false:=dcF (by omega);rw [this]; rfl
  ·rfl
 | n+1,ih=>by
  refine fcK (kc func179 (ih n (lt_succ_self n)) KnowsL.nil).knows (Λ:=(Aa [(3,DH n)])) func179 fun vs bs r hq=>?_
  unfold Ent.F Dp at hq;dsimp only at hq;split at hq
  ·rename_i z;obtain ⟨hc,hx⟩:=Ad hq;exact ⟨W6 n,(To n z (of_decide_eq_true hc)).trans hx⟩
  ·cases hq
theorem Aie:Af prog 179 (Ent.rd1 P1).F:=by
 refine Bd (F:=fun n=>(Ent.rd1 (Dp n)).F) Tq fun vs bs r h=>?_
 unfold Ent.F P1 at h;dsimp only at h;split at h
 ·rename_i z;obtain ⟨hc,hx⟩:=Ad h;have hc:=of_decide_eq_true hc;refine ⟨1000000,?_⟩;show (Br.need (decide (Ao z<=1000000/\Ao z<=1000000)) (.leaf (.j (Ao z:Int),[]))).run=some r;rw [dcT (show Ao z<=1000000/\Ao z<=1000000 from ⟨hc,hc⟩)];exact hx
 ·cases h
abbrev Abo (n:Nat):FuncId->Option Ent:=Aa [(178,.rd1 (IU n)),(176,.rd1 Kx)]
theorem JE (n:Nat) (y:Rose Lab) (m:Int) (ks:RL) (k i:Int):At prog (Abo n) (Aa [(3,Fj n)]) 0 (body f178 0) (Fj n) ([.tp LCd y 0,.j m,.sl (.tree LCd) ks,.j k,.j i],[]) =
 ((ifB (decide (i<k)) (ifT (decide (0<=i)&&decide (i<(↑ks.length:Int))) (Ak ks[i.toNat]? fun z=>ifT (decide (Ao z<=n/\Ao z<=1000000)) (some
 (Ex.normal,[V.tp LCd y 0,V.j (if (↑(BN z):Int)>m then (↑(BN z):Int) else m),V.sl LCd.tree ks,V.j k,V.j (i64.wrap (i +
 1))],[])))) (some (Ex.exit 0,[V.tp LCd y 0,V.j m],[]))):_):=by kernel_rfl
theorem Tm (n:Nat) (z:Rose Lab):Aw prog (Abo n) (Aa [(3,Fj n)]) f178 [.tp LCd z 0] [] =
 ((ifT (decide ((0:Int)<=(0:Int)/\(0:Int)<=(1000001:Int)/\(0:Int)<=(0:Int)/\0<=z.kids.length/\(↑z.kids.length:Int)=(↑z.kids.length:Int)/\
 Ar z.kids<=n/\Ar z.kids<=1000000)) (ifB (A3 z.lab.1) (some (V.j (i64.wrap ((↑(max 0 (Co (drop 0 z.kids))):Int)
 + (1:Int))),[])) (some (V.j (↑(max 0 (Co (drop 0 z.kids))):Int),[])))):_):=by kernel_rfl
theorem LM (n:Nat) (y:Rose Lab) (ks:RL) (h1:Ar ks<=n) (h2:Ar ks<=1000000) : ∀ (j i m:Nat),i+j=ks.length->m<=1000001->
  Runs prog (Abo n) (Aa [(3,Fj n)]) 0 (body f178 0) (Fj n) ([.tp LCd y 0,.j (m:Int),.sl (.tree LCd) ks,.j (ks.length:Int),.j (i:Int)],[]) (.exit 0) ([.tp LCd y 0,.j ((max m (Co (ks.drop i)):Nat):Int)],[])
 | 0,i,m,hi,hm=>by
  have hr:=JE n y m ks ks.length i;rw [Ac (dcF (by omega))] at hr;have e1:ks.drop i=[]:=drop_eq_nil_of_le (by omega);rw [e1,Co];exact .stop _ _ _ (hr.trans (by simp)) (by simp)
 | j+1,i,m,hi,hm=>by
  have hl:i<ks.length:=by omega
  have hM:=mxI;have hr:=JE n y m ks ks.length i;have hmem:=BE (getElem_mem hl);have hlen:=BS ks;have hdm:=Iw ks[i];rw [Ae (dcT (by omega)),T2 (by omega)] at hr;simp only [ntN,gtE hl,Ai,Ap (n:=i) (by omega)] at hr;rw [Ab (dcT ⟨by omega,by omega⟩)] at hr;rw [drop_eq_getElem_cons hl,Co];have hx:(if (BN ks[i]:Int)>(m:Int) then (BN ks[i]:Int) else (m:Int))=((max m (BN ks[i]):Nat):Int):=by split<;>omega
  have ih:=LM n y ks h1 h2 j (i+1) (max m (BN ks[i])) (by omega) (by omega);rw [<-Nat.max_assoc];exact sts (hr.trans (by rw [hx])) ih
theorem ZG (n:Nat):As prog (Abo n) (Aa [(3,Fj n)]) 0 (f178.body.getD .skip):=by
 refine Am (a:=body f178 0) (by kernel_rfl) fun d ex d' h=>?_
 unfold Fj at h;dsimp only at h;split at h
 ·rename_i y m ks k i;obtain ⟨hc,hx⟩:=Ad h;clear h;obtain ⟨h0,h1,h2,h3,rfl,h5,h6⟩:=of_decide_eq_true hc;obtain ⟨m,rfl⟩:=eq_ofNat_of_zero_le h0;obtain ⟨i,rfl⟩:=eq_ofNat_of_zero_le h2;simp only [ntN] at h3 hx;obtain ⟨rfl,rfl⟩:=lfP hx;exact LM n y ks h5 h6 (ks.length-i) i m (by omega) (by omega)
 ·cases h
theorem W4 (n:Nat) (z:Rose Lab) (hc:Ao z<=n+1/\Ao z<=1000000):Aw prog (Abo n) (Aa [(3,Fj n)]) f178 [.tp LCd z 0] []=some (.j (BN z:Int),[]):=by
 rw [Tm];obtain ⟨x,ks⟩:=z;obtain ⟨h1,h2⟩:=hc;rw [Ao] at h1 h2;have hd:drop (toNat 0) ks=ks:=rfl;simp only [Rose.kids,Rose.lab] at *;rw [Ab (dcT (by refine ⟨by omega,by omega,by omega,by simp,by trivial,by omega,by omega⟩))];have hdp:=G8 ks;rw [BN];simp only [toNat_zero,drop_zero,Nat.zero_max]
 cases hx:A3 x.1 with
 | true=>rw [AR,Av (by omega) (by omega)]; simp
 | false=>rw [A6]; simp
theorem W5 : ∀ n,(∀ m,m<n->Af prog 178 (Ent.rd1 (IU m)).F)->Af prog 178 (Ent.rd1 (IU n)).F
 | 0,_=>AW fun vs bs=>by
  unfold Ent.F IU;dsimp only;split
  ·rename_i z;have:=Cq z;have:decide (Ao z<=0/\Ao z<=1000000)=false:=dcF (by omega);rw [this]; rfl
  ·rfl
 | n+1,ih=>by
  refine fcK (kc func178 (ih n (lt_succ_self n)) (kc func176 ZA KnowsL.nil)).knows (Λ:=(Aa [(3,Fj n)])) func178 fun vs bs r hq=>?_
  unfold Ent.F IU at hq;dsimp only at hq;split at hq
  ·rename_i z;obtain ⟨hc,hx⟩:=Ad hq;exact ⟨ZG n,(W4 n z (of_decide_eq_true hc)).trans hx⟩
  ·cases hq
theorem Ako:Af prog 178 (Ent.rd1 Tn).F:=by
 refine Bd (F:=fun n=>(Ent.rd1 (IU n)).F) W5 fun vs bs r h=>?_
 unfold Ent.F Tn at h;dsimp only at h;split at h
 ·rename_i z;obtain ⟨hc,hx⟩:=Ad h;have hc:=of_decide_eq_true hc;refine ⟨1000000,?_⟩;show (Br.need (decide (Ao z<=1000000/\Ao z<=1000000)) (.leaf (.j (BN z:Int),[]))).run=some r;rw [dcT (show Ao z<=1000000/\Ao z<=1000000 from ⟨hc,hc⟩)];exact hx
 ·cases h
def EY (zk:RL) (i:Nat) (n:Int):Bool:=match i with
 | 0=>false
 | i+1=>match zk[i]? with | some y=>decide (y.lab.2.2.1>=n) | none=>false
def HQ (zk:RL):Nat->List (By×Bool)->RL->Bool
 | _,_,[]=>true
 | i,seen,z::l=>if ((Cy .str seen z.lab.2.1).getD false||EY zk i z.lab.2.2.1)=true then false else HQ zk (i+1) (D1 .str seen z.lab.2.1 true) l
def BV (x:Lab) (ks:RL):Bool:=
 if x.1=1\/x.1=2 then x.2.2.2.2.1==0&&ks.length==0
 else if x.1=3 then decide (0<=x.2.2.2.2.1/\x.2.2.2.2.1<=20)&&ks.length==0
 else if x.1=4 then x.2.2.2.2.1==0&&ks.length==1
 else if x.1≠5\/x.2.2.2.2.1≠0 then false
 else HQ ks 0 [] ks
def L2:Gm
 | [.tp LCd z 0],[]=>.need (decide (z.kids.length<=maxI)) (.leaf (.b (BV z.lab z.kids),[]))
 | _,_=>.no
def poE:LoopEnt:=⟨113,[0,3,72,73,74],[],[2],fun
 | ([.tp LCd z 0,.mref 0,.sl (.tree LCd) ks,.j k,.j i],[some (.mp .str .bool seen)])=>.need (decide (0<=i/\i.toNat<=ks.length/\k=ks.length/\ks.length<=maxI/\z.kids.length=ks.length)) (.br (HQ z.kids i.toNat seen (ks.drop i.toNat)) (.leaf (.exit 1,([],[]))) (.leaf (.ret,([.b false],[]))))
 | _=>.no⟩
theorem Qx (z:Rose Lab) (ks:RL) (seen:List (By×Bool)) (k i:Int):At prog (Aa [(125,.rd1 A0)]) (Aa [(13,poE)]) 0 (body f211 0) poE ([.tp LCd z 0,.mref 0,.sl (.tree LCd) ks,.j k,.j i],[some (.mp .str .bool seen)]) =
 ((ifB (decide (i<k)) (ifT (decide (0<=i)&&decide (i<(↑ks.length:Int))) (Ak ks[i.toNat]? fun z_1=>ifB ((Cy Cd.str seen (Rose.lab z_1).2.1).getD false)
 rF (ifB (decide (i>0)) (ifT (decide (0<=i64.wrap (i-1))&&decide (i64.wrap (i-1)<(↑z.kids.length:Int))) (Ak
 z.kids[(i64.wrap (i-1)).toNat]? fun z_2=>ifB (decide ((Rose.lab z_2).2.2.1>=(Rose.lab z_1).2.2.1)) rF (some
 (Ex.normal,[V.tp LCd z 0,V.mref 0,V.sl LCd.tree ks,V.j k,V.j (i64.wrap (i+1))],[some (Blk.mp Cd.str Cd.bool (D1 Cd.str seen
 (Rose.lab z_1).2.1 true))])))) (some (Ex.normal,[V.tp LCd z 0,V.mref 0,V.sl LCd.tree ks,V.j k,V.j (i64.wrap (i+1))],[some
 (Blk.mp Cd.str Cd.bool (D1 Cd.str seen (Rose.lab z_1).2.1 true))]))))) (some (Ex.exit 1,[],[]))):_):=by kernel_rfl
theorem Ac7 (z:Rose Lab):Aw prog (Aa [(125,.rd1 A0)]) (Aa [(13,poE)]) f211 [.tp LCd z 0] [] =
 ((ifB (z.lab.1==(1:Int)) (ifB (z.lab.1==(1:Int)) (ifB (z.lab.2.2.2.2.1==(0:Int)) (some (V.b ((↑z.kids.length:Int)==(0:Int)),[])) nF) (ifB (z.lab.1==(3:Int)) (ifB (decide ((0:Int)<=z.lab.2.2.2.2.1/\z.lab.2.2.2.2.1<=(20:Int))) (some (V.b ((↑z.kids.length :
 Int)==(0:Int)),[])) nF) (ifB (z.lab.1==(4:Int)) (ifB (z.lab.2.2.2.2.1==(0:Int)) (some (V.b ((↑z.kids.length:Int)==(1 :
 Int)),[])) nF) (ifB (z.lab.1 != (5:Int)) nF (ifB (z.lab.2.2.2.2.1 != (0:Int)) nF (ifT (decide
 ((0:Int)<=(0:Int)/\0<=z.kids.length/\(↑z.kids.length:Int)=(↑z.kids.length:Int)/\z.kids.length<=maxI/\z.kids.length=z.kids.length)) (ifB (HQ
 z.kids 0 (Ag (Cd.str.den×Cd.bool.den)) (drop 0 z.kids)) (some (V.b true,[])) nF))))))) (ifB (z.lab.1==(2:Int)) (ifB
 (z.lab.2.2.2.2.1==(0:Int)) (some (V.b ((↑z.kids.length:Int)==(0:Int)),[])) nF) (ifB (z.lab.1==(3:Int)) (ifB (decide ((0 :
 Int)<=z.lab.2.2.2.2.1/\z.lab.2.2.2.2.1<=(20:Int))) (some (V.b ((↑z.kids.length:Int)==(0:Int)),[])) nF) (ifB (z.lab.1
 == (4:Int)) (ifB (z.lab.2.2.2.2.1==(0:Int)) (some (V.b ((↑z.kids.length:Int)==(1:Int)),[])) nF) (ifB (z.lab.1 != (5:Int))
 nF (ifB (z.lab.2.2.2.2.1 != (0:Int)) nF (ifT (decide ((0:Int)<=(0:Int)/\0<=z.kids.length/\
 (↑z.kids.length:Int)=(↑z.kids.length:Int)/\z.kids.length<=maxI/\z.kids.length=z.kids.length)) (ifB (HQ z.kids 0 (Ag (Cd.str.den×Cd.bool.den))
 (drop 0 z.kids)) (some (V.b true,[])) nF)))))))):_):=by kernel_rfl
theorem OZ (z:Rose Lab) (ks:RL) (hz:z.kids.length=ks.length) (hm:ks.length<=maxI) : ∀ (j i:Nat) (seen:List (By×Bool)),i+j=ks.length->∀ ex d,(Br.br (HQ z.kids i seen (ks.drop i)) (.leaf (.exit 1,([],[]))) (.leaf (.ret,([.b false],[]))):Br (Ex×Dt)).run=some (ex,d)->
  Runs prog (Aa [(125,.rd1 A0)]) (Aa [(13,poE)]) 0 (body f211 0) poE ([.tp LCd z 0,.mref 0,.sl (.tree LCd) ks,.j (ks.length:Int),.j (i:Int)],[some (.mp .str .bool seen)]) ex d
 | 0,i,seen,hi,ex,d,h=>by
  have hr:=Qx z ks seen ks.length i;rw [Ac (dcF (by omega))] at hr;have e1:ks.drop i=[]:=drop_eq_nil_of_le (by omega);rw [e1,HQ] at h;obtain ⟨rfl,rfl⟩:=lfP h;exact stp hr
 | j+1,i,seen,hi,ex,d,h=>by
  have hl:i<ks.length:=by omega
  have hM:=mxI;have hr:=Qx z ks seen ks.length i;rw [Ae (dcT (by omega)),T2 (by omega)] at hr;simp only [ntN,gtE hl,Ai,Ap (n:=i) (by omega)] at hr;rw [drop_eq_getElem_cons hl,HQ] at h
  have stop : ∀ {x:Option (Ex×Dt)},x=some (.ret,([.b false],[]))->(Br.br false (.leaf (.exit 1,([],[]))) (.leaf (.ret,([.b false],[]))):Br (Ex×Dt)).run=some (ex,d)->x=some (ex,d)/\ex≠.normal:=fun hx h=>by
   obtain ⟨rfl,rfl⟩:=lfP h;exact ⟨hx,by simp⟩
  cases h1:(Cy .str seen ks[i].lab.2.1).getD false with
  | true=>
   rw [h1,Bool.true_or,if_pos rfl] at h;rw [h1,AR] at hr;obtain ⟨g1,g2⟩:=stop hr h;exact .stop _ _ _ g1 g2
  | false=>
   rw [h1,Bool.false_or] at h;rw [h1,A6] at hr
   cases i with
   | zero=>
    rw [Ac (dcF (by omega))] at hr;rw [EY,if_neg (by simp)] at h;exact sts hr (OZ z ks hz hm j 1 _ (by omega) ex d h)
   | succ i=>
    have hl':i<z.kids.length:=by omega
    have hw:i64.wrap (((i+1:Nat):Int)-1)=(i:Int):=by rw [Av (by omega) (by omega)]; omega
    rw [Ae (dcT (by omega)),hw,T2 (by omega)] at hr;simp only [ntN,gtE hl',Ai] at hr;have hp:EY z.kids (i+1) ks[i+1].lab.2.2.1=decide (z.kids[i].lab.2.2.1>=ks[i+1].lab.2.2.1):=by unfold EY; simp only [gtE hl']
    rw [hp] at h
    cases h2:decide (z.kids[i].lab.2.2.1>=ks[i+1].lab.2.2.1) with
    | true=>
     rw [h2,if_pos rfl] at h;rw [h2,AR] at hr;obtain ⟨g1,g2⟩:=stop hr h;exact .stop _ _ _ g1 g2
    | false=>
     rw [h2,if_neg (by simp)] at h;rw [h2,A6] at hr;exact sts hr (OZ z ks hz hm j (i+1+1) _ (by omega) ex d h)
theorem Aj9:As prog (Aa [(125,.rd1 A0)]) (Aa [(13,poE)]) 0 (f211.body.getD .skip):=by
 refine Am (a:=body f211 0) (by kernel_rfl) fun d ex d' h=>?_
 unfold poE at h;dsimp only at h;split at h
 ·rename_i z ks k i seen;obtain ⟨hc,hx⟩:=Ad h;clear h;obtain ⟨h0,h1,rfl,h3,h4⟩:=of_decide_eq_true hc;obtain ⟨i,rfl⟩:=eq_ofNat_of_zero_le h0;simp only [ntN] at h1 hx;exact OZ z ks h4 h3 (ks.length-i) i seen (by omega) ex d' hx
 ·cases h
theorem Qz (z:Rose Lab) (hc:z.kids.length<=maxI):Aw prog (Aa [(125,.rd1 A0)]) (Aa [(13,poE)]) f211 [.tp LCd z 0] []=some (.b (BV z.lab z.kids),[]):=by
 rw [Ac7]
 have hl : ∀ n:Nat,((z.kids.length:Int)==(n:Int))=(z.kids.length==n):=fun n=>by
  by_cases h:z.kids.length=n
  ·subst h; simp
  ·rw [beq_false_of_ne h,beq_false_of_ne (by omega)]
 have hl0:((z.kids.length:Int)==0)=(z.kids.length==0):=hl 0;have hl1:((z.kids.length:Int)==1)=(z.kids.length==1):=hl 1;have hd:decide ((0:Int)<=0/\0<=z.kids.length/\(z.kids.length:Int)=(z.kids.length:Int)/\z.kids.length<=maxI/\z.kids.length=z.kids.length)=true:=dcT ⟨by omega,by omega,rfl,hc,rfl⟩;unfold BV;rw [drop_zero,hl0,hl1]
 by_cases a1:z.lab.1=1
 ·rw [if_pos (.inl a1),a1];cases z.lab.2.2.2.2.1==0<;>rfl
 by_cases a2:z.lab.1=2
 ·rw [if_pos (.inr a2),a2];cases z.lab.2.2.2.2.1==0<;>rfl
 rw [Ac (beq_false_of_ne a1),Ac (beq_false_of_ne a2),if_neg (by rintro (h | h); exact a1 h; exact a2 h)]
 by_cases a3:z.lab.1=3
 ·rw [if_pos a3,a3,Ae (by rfl)]
  by_cases a5:0<=z.lab.2.2.2.2.1/\z.lab.2.2.2.2.1<=20
  ·rw [dcT a5]; rfl
  ·rw [dcF a5]; rfl
 rw [Ac (beq_false_of_ne a3),if_neg a3]
 by_cases a4:z.lab.1=4
 ·rw [if_pos a4,a4,Ae (by rfl)];cases z.lab.2.2.2.2.1==0<;>rfl
 rw [Ac (beq_false_of_ne a4),if_neg a4]
 by_cases a5:z.lab.1=5
 ·rw [Ac (by rw [a5]; rfl)]
  by_cases a6:z.lab.2.2.2.2.1=0
  ·rw [Ac (by rw [a6]; rfl),if_neg (by rintro (h | h); exact h a5; exact h a6),hd,CP];cases HQ z.kids 0 [] z.kids<;>rfl
  ·rw [Ae (by simpa using a6),if_pos (.inr a6)]
 ·rw [Ae (by simpa using a5),if_pos (.inl a5)]
theorem Ac9:Af prog 211 (Ent.rd1 L2).F:=by
 refine fcK (kc func125 Dd KnowsL.nil).knows (Λ:=(Aa [(13,poE)])) func211 fun vs bs r hq=>?_
 unfold Ent.F L2 at hq;dsimp only at hq;split at hq
 ·rename_i z;obtain ⟨hc,hx⟩:=Ad hq;exact ⟨Aj9,(Qz z (of_decide_eq_true hc)).trans hx⟩
 ·cases hq
def Aq {α:Type} (p:α->Bool):Nat->List α->Int
 | _,[]=>-1
 | n,z::l=>if p z=true then (n:Int) else Aq p (n+1) l
mutual
def An:Rose Lab->Bool
 | .node x ks=>BV x ks&&AL x.1 ks
def AL (k:Int):RL->Bool
 | []=>true
 | z::l=>(Dw k z.lab&&An z)&&AL k l
end
mutual
def Cx:Rose Lab->Bool
 | .node x ks=>decide (x.2.1.length<=maxI)&&IN ks
def IN:RL->Bool
 | []=>true
 | z::l=>Cx z&&IN l
end
def BM (z:Rose Lab):Bool:=z.lab.1==5&&z.lab.2.1==[]&&z.lab.2.2.1==0&&!z.lab.2.2.2.1&&An z&&decide (BN z<=5)&&decide (Ao z<=30)
def EK (k:Int) (z:Rose Lab):Bool:=!(Dw k z.lab&&An z)
def Hm (n:Nat):Gm
 | [.tp LCd z 0],[]=>.need (decide (Ao z<=n/\Ao z<=1000000/\Cx z=true)) (.leaf (.b (An z),[]))
 | _,_=>.no
def DG (n:Nat):Gm
 | [.tp LCd z 0,.bx [.tp LCd y 0] 0],[]=>.need (decide (Ao z<=n/\Ao z<=1000000/\Cx z=true)) (.leaf (.b (EK y.lab.1 z),[]))
 | _,_=>.no
def SH:Gm
 | [.tp LCd z 0],[]=>.need (decide (Ao z<=1000000/\Cx z=true)) (.leaf (.b (An z),[]))
 | _,_=>.no
def Pz:Gm
 | [.tp LCd z 0],[]=>.need (decide (Ao z<=1000000/\Cx z=true)) (.leaf (.b (BM z),[]))
 | _,_=>.no
def krE (n:Nat):LoopEnt:=⟨19,[0,1,4,7,8],[],[4],fun
 | ([.sl (.tree LCd) l,.fn 213 [] [.ptr 0 0],.j r,.j k,.j i],[some (.box [.tp LCd y 0])])=>
  .need (decide (0<=i/\i.toNat<=l.length/\l.length<=maxI/\k=l.length)&&l.all (fun z:Rose Lab=>decide (Ao z<=n/\Ao z<=1000000/\Cx z=true))) (.br (decide (Aq (fun z:Rose Lab=>EK y.lab.1 z) i.toNat (l.drop i.toNat)<0)) (.leaf (.exit 0,([],[some (.box [.tp LCd y 0])]))) (.leaf (.ret,([.j (Aq (fun z:Rose Lab=>EK y.lab.1 z) i.toNat (l.drop i.toNat))],[some (.box [.tp LCd y 0])]))))
 | _=>.no⟩
def Ad0 (n:Nat):Gm
 | [.sl (.tree LCd) l,.fn 213 [] [.ptr 0 0]],[.box [.tp LCd y 0]]=>.need (l.all (fun z:Rose Lab=>decide (Ao z<=n/\Ao z<=1000000/\Cx z=true))) (.leaf (.j (Aq (fun z:Rose Lab=>EK y.lab.1 z) 0 l),[some (.box [.tp LCd y 0])]))
 | _,_=>.no
def Ah4 (n:Nat):Gm
 | [.sl (.tree LCd) l,.fn 213 [] [.ptr 0 0]],[.box [.tp LCd y 0]]=>.need (l.all (fun z:Rose Lab=>decide (Ao z<=n/\Ao z<=1000000/\Cx z=true))) (.leaf (.b (l.any (fun z:Rose Lab=>EK y.lab.1 z)),[some (.box [.tp LCd y 0])]))
 | _,_=>.no
theorem G7 {α:Type} (p:α->Bool) : ∀ (l:List α) (n:Nat),(Aq p n l = -1/\l.any p=false)\/((n:Int)<=Aq p n l/\Aq p n l<n+l.length/\l.any p=true)
 | [],n=>.inl ⟨rfl,rfl⟩
 | z::l,n=>by
  rw [Aq,List.any_cons]
  by_cases h:p z=true
  ·rw [if_pos h,h]; exact .inr ⟨Int.le_refl _,by simp; omega,rfl⟩
  ·rw [if_neg h,show p z=false by simpa using h,Bool.false_or];rcases G7 p l (n+1) with ⟨h1,h2⟩ | ⟨h1,h2,h3⟩
   ·exact .inl ⟨h1,h2⟩
   ·exact .inr ⟨by omega,by simp; omega,h3⟩
theorem Fo {α:Type} (p:α->Bool) (l:List α) (n:Nat):decide (Aq p n l>=0)=l.any p:=by
 rcases G7 p l n with ⟨h1,h2⟩ | ⟨h1,h2,h3⟩
 ·rw [h2]; exact dcF (by omega)
 ·rw [h3]; exact dcT (by omega)
theorem Ci {α:Type} (p:α->Bool) (l:List α) (n:Nat) (h:Aq p n l<0):Aq p n l = -1:=by
 rcases G7 p l n with ⟨h1,h2⟩ | ⟨h1,h2⟩
 ·exact h1
 ·omega
theorem Dn {α:Type} (p:α->Bool) : ∀ (l:List α) (n:Nat),0<=Aq p n l->∃ i,∃ h:i<l.length,Aq p n l=((n+i:Nat):Int)/\p l[i]=true/\l.find? p=some l[i]
 | [],n,h=>by rw [Aq] at h; omega
 | z::l,n,h=>by
  rw [Aq] at h ⊢
  by_cases hp:p z=true
  ·rw [if_pos hp]; exact ⟨0,by simp,by simp,hp,by simp [hp]⟩
  ·rw [if_neg hp] at h ⊢;obtain ⟨i,h1,h2,h3,h4⟩:=Dn p l (n+1) h;exact ⟨i+1,by simp; omega,by rw [h2]; congr 1; omega,by simpa using h3,by simp [hp,h4]⟩
theorem Ja {α:Type} (p:α->Bool) : ∀ (l:List α) (n:Nat),Aq p n l<0->l.find? p=none
 | [],n,_=>rfl
 | z::l,n,h=>by
  rw [Aq] at h
  by_cases hp:p z=true
  ·rw [if_pos hp] at h; omega
  ·rw [if_neg hp] at h;simp [hp,Ja p l (n+1) h]
theorem QA {z:Rose Lab} : ∀ {l:RL},IN l=true->z∈l->Cx z=true
 | [],_,h=>by cases h
 | y::l,hn,h=>by
  rw [IN,anE] at hn;rcases mem_cons.1 h with rfl | h
  ·exact hn.1
  ·exact QA hn.2 h
theorem Zv {z:Rose Lab} (h:Cx z=true):z.lab.2.1.length<=maxI:=by
 cases z;rw [Cx,anE] at h;exact of_decide_eq_true h.1
theorem Wi {z:Rose Lab} (h:Cx z=true):IN z.kids=true:=by
 cases z;rw [Cx,anE] at h;exact h.2
theorem Lp (k:Int) : ∀ l:RL,AL k l = !(l.any fun z=>EK k z)
 | []=>rfl
 | z::l=>by rw [AL,Lp k l,List.any_cons,EK]; cases Dw k z.lab<;>cases An z<;>simp
theorem QU (n:Nat) (hf:Af prog 177 (Ent.rd1 (Hm n)).F):Af prog 213 (Ent.rd1 (DG n)).F:=by
 refine fcK (kc func214 Ahd (kc func177 hf KnowsL.nil)).knows (Λ:=Aa []) func213 fun vs bs r hq=>?_
 unfold Ent.F DG at hq;dsimp only at hq;split at hq
 ·rename_i z y;obtain ⟨hc,hx⟩:=Ad hq;refine ⟨Ah _,Eq.trans ?_ hx⟩
  have e:Aw prog (Aa [(214,.rd1 Pb),(177,.rd1 (Hm n))]) (Aa []) f213 [.tp LCd z 0,.bx [.tp LCd y 0] 0] []=((ifT (decide (List.length z.lab.2.1<=maxI)) (ifB (!Dw y.lab.1 z.lab) (some (V.b true,[])) (ifT (decide (Ao z<=n/\Ao z<=1000000/\Cx z=true))
 (some (V.b !An z,[]))))):_):=by kernel_rfl
  have hn:=of_decide_eq_true hc;rw [e,Ab (dcT (Zv hn.2.2))];unfold EK
  cases Dw y.lab.1 z.lab with
  | true=>rw [Ab hc]; rfl
  | false=>rfl
 ·cases hq
theorem QV (n:Nat) (y:Rose Lab) (l:RL) (r k i:Int):At prog (Aa [(213,.rd1 (DG n))]) (Aa [(2,(krE n))]) 1 (body f199 0) (krE n) ([.sl (.tree LCd) l,.fn 213 [] [.ptr 0 0],.j r,.j k,.j i],[some (.box [.tp LCd y 0])]) =
 ((ifB (decide (i<k)) (ifT (decide (0<=i)&&decide (i<(↑l.length:Int))) (Ak l[i.toNat]? fun z=>ifT (decide (Ao z<=n/\Ao z<=1000000/\Cx z =
 true)) (ifB (EK y.lab.1 z) (some (Ex.ret,[V.j i],[some (Blk.box [V.tp LCd y 0])])) (some (Ex.normal,[V.sl LCd.tree l,V.fn 213
 [] [V.ptr 0 0],V.j r,V.j k,V.j (i64.wrap (i+1))],[some (Blk.box [V.tp LCd y 0])]))))) (some (Ex.exit 0,[],[some (Blk.box [V.tp LCd
 y 0])]))):_):=by kernel_rfl
theorem UH (n:Nat) (y:Rose Lab) {l:RL} {r:Int} (hx:l.length<=maxI) (hs:(l.all (fun z:Rose Lab=>decide (Ao z<=n/\Ao z<=1000000/\Cx z=true)))=true) : ∀ (j i:Nat),i+j=l.length->∀ e d',(.br (decide (Aq (fun z:Rose Lab=>EK y.lab.1 z) i (l.drop i)<0)) (.leaf (.exit 0,([],[some (.box [.tp LCd y 0])]))) (.leaf (.ret,([.j (Aq (fun z:Rose Lab=>EK y.lab.1 z) i (l.drop i))],[some (.box [.tp LCd y 0])]))):Br (Ex×Dt)).run=some (e,d')->
  Runs prog (Aa [(213,.rd1 (DG n))]) (Aa [(2,(krE n))]) 1 (body f199 0) (krE n) ([.sl (.tree LCd) l,.fn 213 [] [.ptr 0 0],.j r,.j (l.length:Int),.j (i:Int)],[some (.box [.tp LCd y 0])]) e d'
 | 0,i,hi,e,d',h=>by
  have e1:l.drop i=[]:=drop_eq_nil_of_le (by omega);rw [e1,Bz,Aq,if_pos (by omega)] at h;cases h;have hr:=QV n y l r l.length i;rw [Ac (dcF (by omega))] at hr;exact stp hr
 | j+1,i,hi,e,d',h=>by
  have h1:i<l.length:=by omega
  have hr:=QV n y l r l.length i;rw [Ae (dcT (by omega)),T2 (by omega)] at hr;simp only [ntN,gtE h1,Ai,Ap (n:=i) (by omega)] at hr;have hz:=of_decide_eq_true (all_eq_true.1 hs _ (getElem_mem h1));rw [Ab (by simpa only [anE,dcE] using hz)] at hr;rw [drop_eq_getElem_cons h1,Bz,Aq] at h
  by_cases he:(fun z:Rose Lab=>EK y.lab.1 z) l[i]=true
  ·rw [if_pos he,if_neg (by omega)] at h;cases h;rw [Ae he] at hr;exact stp hr
  ·rw [if_neg he] at h;rw [Ac (by simpa using he)] at hr;exact sts hr (UH n y hx hs j (i+1) (by omega) e d' (by rw [Bz]; exact h))
theorem Akj (n:Nat):As prog (Aa [(213,.rd1 (DG n))]) (Aa [(2,(krE n))]) 1 (f199.body.getD .skip):=by
 refine Am (a:=body f199 0) (by kernel_rfl) fun d e d' h=>?_
 unfold krE at h;dsimp only at h;split at h
 ·obtain ⟨hc,h'⟩:=Ad h;rw [anE] at hc;obtain ⟨hc,hs⟩:=hc;obtain ⟨h0,h1,h2,rfl⟩:=of_decide_eq_true hc;obtain ⟨i,rfl⟩:=eq_ofNat_of_zero_le h0;exact UH n _  h2 hs _ i (Nat.add_sub_of_le h1) e d' h'
 ·cases h
theorem Ah7 (n:Nat) (y:Rose Lab) (l:RL) (hx:l.length<=maxI) (hs:(l.all (fun z:Rose Lab=>decide (Ao z<=n/\Ao z<=1000000/\Cx z=true)))=true):Aw prog (Aa [(213,.rd1 (DG n))]) (Aa [(2,(krE n))]) f199 [.sl (.tree LCd) l,.fn 213 [] [.ptr 0 0]] [.box [.tp LCd y 0]]=some (.j (Aq (fun z:Rose Lab=>EK y.lab.1 z) 0 l),[some (.box [.tp LCd y 0])]):=by
 have e:Aw prog (Aa [(213,.rd1 (DG n))]) (Aa [(2,(krE n))]) f199 [.sl (.tree LCd) l,.fn 213 [] [.ptr 0 0]] [.box [.tp LCd y 0]] =
  ((ifT (decide ((0:Int)<=(0:Int)/\0<=l.length/\l.length<=maxI/\(↑l.length:Int)=(↑l.length:Int))&&l.all fun z=>decide (Ao z<=n/\Ao z<=
 1000000/\Cx z=true)) (ifB (decide (Aq (fun z=>EK y.lab.1 z) 0 (drop 0 l)<(0:Int))) (some (V.j (-1),[some (Blk.box
 [V.tp LCd y 0])])) (some (V.j (Aq (fun z=>EK y.lab.1 z) 0 (drop 0 l)),[some (Blk.box [V.tp LCd y 0])])))):_):=by kernel_rfl
 rw [e,Ab (by rw [anE]; exact ⟨dcT ⟨by omega,by omega,hx,rfl⟩,hs⟩)];simp only [toNat_zero,drop_zero]
 by_cases q:Aq (fun z:Rose Lab=>EK y.lab.1 z) 0 l<0
 ·rw [Ae (dcT q),Ci _ _ _ q]
 ·rw [Ac (dcF q)]
theorem Ah5 (n:Nat) (hf:Af prog 213 (Ent.rd1 (DG n)).F):Af prog 199 (Ent.own (Ad0 n)).F:=by
 refine AB (kc func213 hf KnowsL.nil).knows (Λ:=(Aa [(2,(krE n))])) func199 (c:=f199.body.getD .skip) (by kernel_rfl) fun vs bs r h hv hb=>?_
 unfold Ent.F Ad0 at h;dsimp only at h;split at h
 ·rename_i l y;obtain ⟨hc,h'⟩:=Ad h;exact ⟨Akj n,(Ah7 n y l (hv (.sl (.tree LCd) l) (by simp)).1 hc).trans (by cases h'; rfl)⟩
 ·cases h
theorem Ad1 (n:Nat) (y:Rose Lab) (l:RL) (hs:(l.all (fun z:Rose Lab=>decide (Ao z<=n/\Ao z<=1000000/\Cx z=true)))=true):Aw prog (Aa [(199,.own (Ad0 n))]) (Aa []) f212 [.sl (.tree LCd) l,.fn 213 [] [.ptr 0 0]] [.box [.tp LCd y 0]]=some (.b (l.any (fun z:Rose Lab=>EK y.lab.1 z)),[some (.box [.tp LCd y 0])]):=by
 have e:Aw prog (Aa [(199,.own (Ad0 n))]) (Aa []) f212 [.sl (.tree LCd) l,.fn 213 [] [.ptr 0 0]] [.box [.tp LCd y 0]] =
  ((ifT (l.all fun z=>decide (Ao z<=n/\Ao z<=1000000/\Cx z=true)) (some (V.b (decide (Aq (fun z=>EK y.lab.1 z) 0 l>=(0:Int))),[some
 (Blk.box [V.tp LCd y 0])]))):_):=by kernel_rfl
 rw [e];rw [Ab hs];rw [Fo]
theorem Ah6 (n:Nat) (hf:Af prog 213 (Ent.rd1 (DG n)).F):Af prog 212 (Ent.own (Ah4 n)).F:=by
 refine fcK (kc func199 (Ah5 n hf) KnowsL.nil).knows (Λ:=Aa []) func212 fun vs bs r h=>?_
 unfold Ent.F Ah4 at h;dsimp only at h;split at h
 ·rename_i l y;obtain ⟨hc,h'⟩:=Ad h;exact ⟨Ah _,(Ad1 n y l hc).trans (by cases h'; rfl)⟩
 ·cases h
theorem Tg : ∀ n,(∀ m,m<n->Af prog 177 (Ent.rd1 (Hm m)).F)->Af prog 177 (Ent.rd1 (Hm n)).F
 | 0,_=>AW fun vs bs=>by
  unfold Ent.F Hm;dsimp only;split
  ·rename_i z;have:=Cq z;rw [dcF (show ¬(Ao z<=0/\Ao z<=1000000/\Cx z=true) by omega)]; rfl
  ·rfl
 | n+1,ih=>by
  have hC:=Ah6 n (QU n (ih n (lt_succ_self n)));refine fcK (kc func211 Ac9 (kc func212 hC KnowsL.nil)).knows (Λ:=Aa []) func177 fun vs bs r hq=>?_
  unfold Ent.F Hm at hq;dsimp only at hq;split at hq
  ·rename_i z;obtain ⟨hc,hx⟩:=Ad hq;obtain ⟨h1,h2,h3⟩:=of_decide_eq_true hc;refine ⟨Ah _,Eq.trans ?_ hx⟩
   have e:Aw prog (Aa [(211,.rd1 L2),(212,.own (Ah4 n))]) (Aa []) f177 [.tp LCd z 0] []=((ifT (decide (z.kids.length<=maxI)) (ifB (BV z.lab z.kids) (ifT (z.kids.all fun z=>decide (Ao z<=n/\Ao z<=1000000/\Cx z=true)) (some (V.b
 !z.kids.any fun z_1=>EK z.lab.1 z_1,[]))) nF)):_):=by kernel_rfl
   rw [Bk] at h1 h2;have hl:=BS z.kids;have hM:=mxI;have hall:(z.kids.all fun z:Rose Lab=>decide (Ao z<=n/\Ao z<=1000000/\Cx z=true))=true:=all_eq_true.2 fun w hw=>dcT ⟨by have:=BE hw; omega,by have:=BE hw; omega,QA (Wi h3) hw⟩
   rw [e,Ab (dcT (by omega))];have hr:An z=(BV z.lab z.kids&&!(z.kids.any fun w=>EK z.lab.1 w)):=by cases z; rw [An,Lp]; rfl
   rw [hr]
   cases BV z.lab z.kids with
   | true=>rw [AR,Ab hall]; rfl
   | false=>rfl
  ·cases hq
theorem right:Af prog 177 (Ent.rd1 SH).F:=by
 refine Bd (F:=fun n=>(Ent.rd1 (Hm n)).F) Tg fun vs bs r h=>?_
 unfold Ent.F SH at h;dsimp only at h;split at h
 ·rename_i z;obtain ⟨hc,hx⟩:=Ad h;obtain ⟨h1,h2⟩:=of_decide_eq_true hc;refine ⟨1000000,?_⟩;show (Br.need (decide (Ao z<=1000000/\Ao z<=1000000/\Cx z=true)) (.leaf (.b (An z),[]))).run=some r;rw [dcT (show Ao z<=1000000/\Ao z<=1000000/\Cx z=true from ⟨h1,h1,h2⟩)];exact hx
 ·cases h
theorem Akl:Af prog 143 (Ent.rd1 Pz).F:=by
 refine fcK (kc func177 right (kc func178 Ako (kc func179 Aie KnowsL.nil))).knows (Λ:=Aa []) func143 fun vs bs r hq=>?_
 unfold Ent.F Pz at hq;dsimp only at hq;split at hq
 ·rename_i z;obtain ⟨hc,hx⟩:=Ad hq;obtain ⟨h1,h2⟩:=of_decide_eq_true hc;refine ⟨Ah _,Eq.trans ?_ hx⟩
  have e:Aw prog (Aa [(177,.rd1 SH),(178,.rd1 Tn),(179,.rd1 P1)]) (Aa []) f143 [.tp LCd z 0] []=((ifB (z.lab.1==(5:Int)) (ifB (z.lab.2.1==Ag UInt8) (ifB (z.lab.2.2.1==(0:Int)) (ifB (!z.lab.2.2.2.1) (ifT (decide (Ao z<=1000000
 /\ Cx z=true)) (ifB (An z) (ifT (decide (Ao z<=1000000)) (ifB (decide ((↑(BN z):Int)<=(5:Int))) (ifT (decide (Ao z<=1000000)) (some
 (V.b (decide ((↑(Ao z):Int)<=(30:Int))),[]))) nF)) nF)) nF) nF) nF) nF):_):=by kernel_rfl
  rw [e,dcT h1,hc];have d1:decide ((BN z:Int)<=5)=decide (BN z<=5):=decide_eq_decide.2 (by omega);have d2:decide ((Ao z:Int)<=30)=decide (Ao z<=30):=decide_eq_decide.2 (by omega);rw [d1,d2];unfold BM;cases z.lab.1==5<;>cases z.lab.2.1==[]<;>cases z.lab.2.2.1==0<;>cases z.lab.2.2.2.1<;>cases An z<;>cases decide (BN z<=5)<;>rfl
 ·cases hq
def AN (l:List Ty):Bool:=decide (1<=l.length/\l.length<=30)&&decide (AT l 0=some (-1))&&(kf l 0).2==l.length&&BM (kf l 0).1
def nmL (l:List Ty):Bool:=l.all fun x=>decide (x.2.1.length<=maxI)
def G4:Gm
 | [.agg [.sl TCd l]],[]=>.need (decide (l.length<=4000000000)&&nmL l) (.br (AN l) (.leaf (.ptr 0 0,[some (.box [.j (kf l 0).1.lab.1,.s (kf l 0).1.lab.2.1,.j (kf l 0).1.lab.2.2.1,.b (kf l 0).1.lab.2.2.2.1,.j (kf l 0).1.lab.2.2.2.2.1,.ref 1 0 (kf l 0).1.kids.length]),R0 (.tree LCd) (kf l 0).1.kids])) (.leaf (.np,[])))
 | _,_=>.no
def Ge:Gm
 | [.agg [.sl TCd l]],[]=>.need (decide (l.length<=4000000000)&&nmL l) (.leaf (.b (AN l),[]))
 | _,_=>.no
theorem NM {l:List Ty} {g:Nat->Rose Lab×Nat} {a:Nat} (hg : ∀ e,e<l.length->e+Ao (g e).1=(g e).2) : ∀ (n e:Nat) (ks:RL),(AI g l a n e ks).2+Ar ks=e+Ar (AI g l a n e ks).1
 | 0,e,ks=>rfl
 | n+1,e,ks=>by
  unfold AI;split
  ·rename_i hu;have h1:=hg e (Eh hu);have h2:=NM (a:=a) hg n (g e).2 (ks++[(g e).1])
   have h3 : ∀ (ks:RL) (z:Rose Lab),Ar (ks++[z])=Ar ks+Ao z:=fun ks z=>by
    induction ks with
    | nil=>simp [Ar]
    | cons y ks ih=>rw [List.cons_append,Ar,Ar,ih]; omega
   rw [h3] at h2;omega
  ·rfl
theorem UK (l:List Ty) : ∀ f a,a<l.length->a+Ao (kfr l f a).1=(kfr l f a).2
 | 0,a,h=>by simp [kfr,Ao,Ar]
 | f+1,a,h=>by
  unfold kfr;dsimp only
  cases A3 (A1 l a).1 with
  | true=>
   have:=NM (a:=a) (UK l f) l.length (a+1) [];rw [Ar] at this;rw [cond_true,Ao]; omega
  | false=>rw [cond_false,Ao,Ar]
theorem P0 {l:List Ty} {a:Nat} (h:a<l.length):a+Ao (kf l a).1=(kf l a).2:=UK l l.length a h
theorem QB : ∀ (ks:RL) (z:Rose Lab),IN ks=true->Cx z=true->IN (ks++[z])=true
 | [],z,_,h=>by simp [IN,h]
 | y::ks,z,h1,h2=>by
  rw [IN,anE] at h1;rw [List.cons_append,IN,h1.1,QB ks z h1.2 h2]; rfl
theorem NL {l:List Ty} {g:Nat->Rose Lab×Nat} {a:Nat} (hg : ∀ e,Cx (g e).1=true) : ∀ (n e:Nat) (ks:RL),IN ks=true->IN (AI g l a n e ks).1=true
 | 0,e,ks,h=>h
 | n+1,e,ks,h=>by
  unfold AI;split
  ·exact NL hg n _ _ (QB _ _ h (hg e))
  ·exact h
theorem Ad3 {l:List Ty} (hn:nmL l=true) : ∀ f a,Cx (kfr l f a).1=true:=by
 have lab : ∀ a,(A1 l a).2.1.length<=maxI:=fun a=>by
  unfold A1
  cases h:l[a]? with
  | none=>exact Nat.zero_le _
  | some x=>exact of_decide_eq_true (all_eq_true.1 hn x (List.mem_of_getElem? h))
 intro f
 induction f with
 | zero=>intro a; simp [kfr,Cx,IN,lab a]
 | succ f ih=>
  intro a;unfold kfr;dsimp only
  cases A3 (A1 l a).1 with
  | true=>rw [cond_true,Cx,dcT (lab a),NL ih _ _ _ rfl]; rfl
  | false=>rw [cond_false,Cx,dcT (lab a)]; rfl
theorem Tj (l:List Ty) (h1:l.length<=4000000000) (h2:nmL l=true):CS prog (Aa [(125,.rd1 A0),(142,.rd1 G5),(143,.rd1 Pz)]) (Aa []) f105 [.agg [.sl TCd l]] []=(.br (AN l) (.leaf (.ptr 0 0,[some (.box [.j (kf l 0).1.lab.1,.s (kf l 0).1.lab.2.1,.j (kf l 0).1.lab.2.2.1,.b (kf l 0).1.lab.2.2.2.1,.j (kf l 0).1.lab.2.2.2.2.1,.ref 1 0 (kf l 0).1.kids.length]),R0 (.tree LCd) (kf l 0).1.kids])) (.leaf (.np,[])):Br (V×List (Option Blk))).run:=by
 have e:CS prog (Aa [(125,.rd1 A0),(142,.rd1 G5),(143,.rd1 Pz)]) (Aa []) f105 [.agg [.sl TCd l]] []=((ifB (!decide (1<=(↑l.length:Int)/\(↑l.length:Int)<=(30:Int))) (some (V.np,[])) (ifT (decide ((0:Int)<=(0:Int))&&decide (0<(↑l.length:Int))) (Ak
 l[0]? fun z=>ifB (z.2.2.2.2.1 != (-1:Int)) (some (V.np,[])) (ifT (decide ((0:Int)<=(0:Int)/\0<l.length/\l.length<=(4000000000 :
 Nat))) (ifB ((↑(kf l 0).2:Int) != (↑l.length:Int)) (some (V.np,[])) (ifT (decide (Ao (Rose.node ((kf l 0).1.lab.1,(kf l (0 :
 Nat)).1.lab.2.1,(kf l 0).1.lab.2.2.1,(kf l 0).1.lab.2.2.2.1,(kf l 0).1.lab.2.2.2.2.1,()) (take (kf l
 0).1.kids.length (drop 0 (kf l 0).1.kids)))<=1000000/\Cx (Rose.node ((kf l 0).1.lab.1,(kf l (0 :
 Nat)).1.lab.2.1,(kf l 0).1.lab.2.2.1,(kf l 0).1.lab.2.2.2.1,(kf l 0).1.lab.2.2.2.2.1,()) (take (kf l
 0).1.kids.length (drop 0 (kf l 0).1.kids)))=true)) (ifB (!BM (Rose.node ((kf l 0).1.lab.1,(kf l (0 :
 Nat)).1.lab.2.1,(kf l 0).1.lab.2.2.1,(kf l 0).1.lab.2.2.2.1,(kf l 0).1.lab.2.2.2.2.1,()) (take (kf l
 0).1.kids.length (drop 0 (kf l 0).1.kids)))) (some (V.np,[])) (some (V.ptr 0 0,[some (Blk.box [V.j (kf l 0).1.lab.1,
 V.s (kf l 0).1.lab.2.1,V.j (kf l 0).1.lab.2.2.1,V.b (kf l 0).1.lab.2.2.2.1,V.j (kf l (0 :
 Nat)).1.lab.2.2.2.2.1,V.ref 1 0 (kf l 0).1.kids.length]),R0 LCd.tree (kf l 0).1.kids]))))))))):_):=by kernel_rfl
 rw [e];clear e;unfold AN
 by_cases a1:1<=l.length/\l.length<=30
 ·have hl:0<l.length:=by omega
  have d1:decide ((1:Int)<=(l.length:Int)/\(l.length:Int)<=30)=true:=dcT (by omega);have d2:(decide ((0:Int)<=0)&&decide ((0:Int)<(l.length:Int)))=true:=by simp only [anE,dcE]; omega
  have d3:decide ((0:Int)<=0/\0<l.length/\l.length<=4000000000)=true:=dcT ⟨by omega,hl,h1⟩;have hc:=P0 hl;have hb:=CI l 0 hl;have d4:decide (Ao (kf l 0).1<=1000000/\Cx (kf l 0).1=true)=true:=dcT ⟨by omega,Ad3 h2 _ _⟩;have ht:=HC (kf l 0).1;rw [drop_zero,take_length] at ht;rw [d1,dcT a1];simp only [AR,Bool.not_true,A6,d2,CP,toNat_zero,gtE hl,Ai,d3,drop_zero,take_length,ht,d4,Bool.true_and];have hu:AT l 0=some (l[0].2.2.2.2.1):=by unfold AT; rw [gtE hl]; rfl
  rw [hu]
  by_cases a2:l[0].2.2.2.2.1 = -1
  ·rw [a2]
   by_cases a3:(kf l 0).2=l.length
   ·rw [a3];cases BM (kf l 0).1<;>simp [Br.run]
   ·rw [beq_false_of_ne a3];have:(((kf l 0).2:Int) != (l.length:Int))=true:=by simpa using a3
    simp [this,Br.run]
  ·have:(l[0].2.2.2.2.1 != (-1:Int))=true:=by simpa using a2
   simp [a2,this,Br.run]
 ·have d1:decide ((1:Int)<=(l.length:Int)/\(l.length:Int)<=30)=false:=dcF (by omega);rw [d1,dcF a1];rfl
theorem Py:Af prog 105 (Ent.rd1 G4).F:=by
 refine fcN (kc func125 Dd (kc func142 Z9 (kc func143 Akl KnowsL.nil))).knows (Λ:=Aa []) func105 fun vs bs r hq=>?_
 unfold Ent.F G4 at hq;dsimp only at hq;split at hq
 ·rename_i l;obtain ⟨hc,hx⟩:=Ad hq;rw [anE] at hc;exact ⟨Ah _,(Tj l (of_decide_eq_true hc.1) hc.2).trans hx⟩
 ·cases hq
theorem Akx:Af prog 124 (Ent.rd1 Ge).F:=by
 refine fcK (kc func105 Py KnowsL.nil).knows (Λ:=Aa []) func124 fun vs bs r hq=>?_
 unfold Ent.F Ge at hq;dsimp only at hq;split at hq
 ·rename_i l;obtain ⟨hc,hx⟩:=Ad hq;refine ⟨Ah _,Eq.trans ?_ hx⟩;have e:Aw prog (Aa [(105,.rd1 G4)]) (Aa []) f124 [.agg [.sl TCd l]] []=((ifT (decide (l.length<=4000000000)&&nmL l) (ifB (AN l) (some (V.b true,[])) nF)):_):=by kernel_rfl
  rw [e,Ab hc];cases AN l<;>rfl
 ·cases hq
def C6 (k:Int):Nat->List Ty->List Int
 | _,[]=>[]
 | i,x::l=>if x.2.2.2.2.1=k then (i:Int)::C6 k (i+1) l else C6 k (i+1) l
def Bt (l:List Ty) (k:Nat):List Int:=C6 k (k+1) (l.drop (k+1))
def t2 (l:List Ty):Nat->Nat->Rose Lab
 | 0,k=>.node (A1 l k) []
 | f+1,k=>.node (A1 l k) ((Bt l k).map fun i=>t2 l f i.toNat)
def t2L (l:List Ty) (k:Nat):Rose Lab:=t2 l l.length k
def DF:LoopEnt:=⟨29,[1,2,5,6],[5],[],fun
 | ([.j k,.ptr 0 0,.ref 1 0 n,.j i],[some (.box [.sl TCd l]),R0 (.int .i64) o])=>.need (decide (0<=i/\i.toNat<=l.length/\l.length<=4000000000/\n=o.length/\o.length<=i.toNat)) (.leaf (.exit 0,([.ref 0 0 (o++C6 k i.toNat (l.drop i.toNat)).length],[R0 (.int .i64) (o++C6 k i.toNat (l.drop i.toNat))])))
 | _=>.no⟩
def Kw:Gm
 | [.agg [.sl TCd l],.j k],[]=>.need (decide (0<=k/\k.toNat<l.length/\l.length<=4000000000)) (.leaf (.ref 0 0 (Bt l k.toNat).length,[R0 (.int .i64) (Bt l k.toNat)]))
 | _,_=>.no
def Ff (n:Nat):Gm
 | [.agg [.sl TCd l],.j k],[]=>.need (decide (0<=k/\k.toNat<l.length/\l.length<=4000000000/\l.length-k.toNat<=n)) (.leaf (.agg [.j (t2L l k.toNat).lab.1,.s (t2L l k.toNat).lab.2.1,.j (t2L l k.toNat).lab.2.2.1,.b (t2L l k.toNat).lab.2.2.2.1,.j (t2L l k.toNat).lab.2.2.2.2.1,.ref 0 0 (t2L l k.toNat).kids.length],[R0 (.rose LCd) (t2L l k.toNat).kids]))
 | _,_=>.no
def DD:Gm
 | [.agg [.sl TCd l],.j k],[]=>.need (decide (0<=k/\k.toNat<l.length/\l.length<=4000000000)) (.leaf (.agg [.j (t2L l k.toNat).lab.1,.s (t2L l k.toNat).lab.2.1,.j (t2L l k.toNat).lab.2.2.1,.b (t2L l k.toNat).lab.2.2.2.1,.j (t2L l k.toNat).lab.2.2.2.2.1,.ref 0 0 (t2L l k.toNat).kids.length],[R0 (.rose LCd) (t2L l k.toNat).kids]))
 | _,_=>.no
def DE (n:Nat):LoopEnt:=⟨43,[2,4,6,27,28,29],[4,6],[],fun
 | ([.ptr 0 0,.ptr 1 0,.ptr 2 0,.ref 3 0 p,.j m,.j i],[some (.box [.sl TCd l]),some (.box [.j 0,.s [],.j 0,.b false,.j 0,.ref 4 0 0]),some (.box [.j x0,.s x1,.j x2,.b x3,.j x4,.ref 5 0 k]),R0 (.int .i64) q,R0 (.rose LCd) [],R0 (.rose LCd) ks])=>.need (decide (0<=i/\i.toNat<=q.length/\m=q.length/\p=q.length/\k=ks.length/\ks.length<=i.toNat/\q.length<=4000000000/\l.length<=4000000000)&&(q.all fun i:Int=>decide (0<=i/\i.toNat<l.length/\l.length-i.toNat<=n))) (.leaf (.exit 0,([.ptr 0 0,.ptr 1 0],[some (.box [.j 0,.s [],.j 0,.b false,.j 0,.ref 2 0 0]),some (.box [.j x0,.s x1,.j x2,.b x3,.j x4,.ref 3 0 (ks++(q.drop i.toNat).map fun i=>t2L l i.toNat).length]),R0 (.rose LCd) [],R0 (.rose LCd) (ks++(q.drop i.toNat).map fun i=>t2L l i.toNat)])))
 | _=>.no⟩
theorem NN {k:Int} : ∀ {l:List Ty} {i:Nat} {x:Int},x∈C6 k i l->∃ j:Nat,x=(j:Int)/\i<=j/\j<i+l.length
 | [],i,x,h=>by simp [C6] at h
 | y::l,i,x,h=>by
  rw [C6] at h
  have rest:x∈C6 k (i+1) l->∃ j:Nat,x=(j:Int)/\i<=j/\j<i+(y::l).length:=fun h=>by
   obtain ⟨j,h1,h2,h3⟩:=NN h;exact ⟨j,h1,by omega,by simp; omega⟩
  split at h
  ·rcases mem_cons.1 h with rfl | h
   ·exact ⟨i,rfl,Nat.le_refl _,by simp⟩
   ·exact rest h
  ·exact rest h
theorem Fi {l:List Ty} {k:Nat} {x:Int} (h:x∈Bt l k) : ∃ j:Nat,x=(j:Int)/\k<j/\j<l.length:=by
 obtain ⟨j,h1,h2,h3⟩:=NN h;rw [length_drop] at h3;exact ⟨j,h1,by omega,by omega⟩
theorem NO (k:Int) : ∀ (l:List Ty) (i:Nat),(C6 k i l).length<=l.length
 | [],i=>Nat.le_refl _
 | y::l,i=>by
  rw [C6];have:=NO k l (i+1);split<;>simp<;>omega
theorem Um (l:List Ty) : ∀ (f f' k:Nat),l.length-k<=f->l.length-k<=f'->k<l.length->t2 l f k=t2 l f' k
 | 0,f',k,h1,_,h=>by omega
 | f+1,0,k,_,h1,h=>by omega
 | f+1,f'+1,k,h1,h2,h=>by
  unfold t2;congr 1;refine List.map_congr_left fun x hx=>?_
  obtain ⟨j,rfl,h3,h4⟩:=Fi hx;exact Um l f f' _ (by simp; omega) (by simp; omega) (by simpa using h4)
theorem Ye {l:List Ty} {k:Nat} (h:k<l.length):t2L l k = .node (A1 l k) ((Bt l k).map fun i=>t2L l i.toNat):=by
 obtain ⟨m,hm⟩ : ∃ m,l.length=m+1:=⟨l.length-1,by omega⟩
 unfold t2L
 conv=>lhs; rw [hm]
 rw [t2];congr 1;refine List.map_congr_left fun x hx=>?_
 obtain ⟨j,rfl,h3,h4⟩:=Fi hx;exact Um l m l.length _ (by simp; omega) (by simp) (by simpa using h4)
theorem HZ (l:List Ty) (k:Int) (n:Nat) (i:Int) (o:List Int):At prog (Aa []) (Aa [(3,DF)]) 0 (body f156 0) DF ([.j k,.ptr 0 0,.ref 1 0 n,.j i],[some (.box [.sl TCd l]),R0 (.int .i64) o]) =
 ((ifB (decide (i<(↑l.length:Int))) (ifT (decide (0<=i)&&decide (i<(↑l.length:Int))) (Ak l[i.toNat]? fun z=>ifB (z.2.2.2.2.1==k) (ifT (decide ((n
 + 1)*8<=140737488355328)&&decide (n+1<=maxI)) (some (Ex.normal,[V.j k,V.ptr 0 0,V.ref 1 0 (n+1),V.i .i64
 (i64.wrap (i+1))],[some (Blk.box [V.sl TCd l]),R0 (Cd.int .i64) (take n (drop 0 o)++i::Ag (Cd.int
 .i64).den)]))) (some (Ex.normal,[V.j k,V.ptr 0 0,V.ref 1 0 n,V.j (i64.wrap (i+1))],[some (Blk.box [V.sl TCd l]),R0 (Cd.int .i64) o])))) (some (Ex.exit 0,[V.ref 0 0 n],[R0 (Cd.int .i64) o]))):_):=by kernel_rfl
theorem FY (l:List Ty) (k:Int) (hl:l.length<=4000000000) : ∀ (j i:Nat) (o:List Int),i+j=l.length->o.length<=i->
  Runs prog (Aa []) (Aa [(3,DF)]) 0 (body f156 0) DF ([.j k,.ptr 0 0,.ref 1 0 o.length,.j (i:Int)],[some (.box [.sl TCd l]),R0 (.int .i64) o]) (.exit 0) ([.ref 0 0 (o++C6 k i (l.drop i)).length],[R0 (.int .i64) (o++C6 k i (l.drop i))])
 | 0,i,o,hi,ho=>by
  have hr:=HZ l k o.length i o;rw [Ac (dcF (by omega))] at hr;rw [drop_eq_nil_of_le (by omega),C6,append_nil];exact stp hr
 | j+1,i,o,hi,ho=>by
  have h1:i<l.length:=by omega
  have hM:=mxI;have hr:=HZ l k o.length i o;rw [Ae (dcT (by omega)),T2 (by omega)] at hr;simp only [ntN,gtE h1,Ai,Ap (n:=i) (by omega),drop_zero,take_length] at hr;rw [drop_eq_getElem_cons h1,C6]
  by_cases h2:l[i].2.2.2.2.1=k
  ·rw [Ae (by rw [h2]; exact beq_self_eq_true _),T2 (by omega)] at hr;rw [if_pos h2];have ih:=FY l k hl j (i+1) (o++[(i:Int)]) (by omega) (by simp; omega);rw [append_assoc] at ih;exact sts (hr.trans (by simp)) ih
  ·rw [Ac (beq_false_of_ne h2)] at hr;rw [if_neg h2];exact sts hr (FY l k hl j (i+1) o (by omega) (by omega))
theorem Ww:As prog (Aa []) (Aa [(3,DF)]) 0 (f156.body.getD .skip):=by
 refine Am (a:=body f156 0) (by kernel_rfl) fun d ex d' h=>?_
 unfold DF at h;dsimp only at h;split at h
 ·rename_i k n i l o;obtain ⟨hc,hx⟩:=Ad h;clear h;obtain ⟨h0,h1,h2,rfl,h4⟩:=of_decide_eq_true hc;obtain ⟨i,rfl⟩:=eq_ofNat_of_zero_le h0;simp only [ntN] at h1 h4 hx;obtain ⟨rfl,rfl⟩:=lfP hx;exact FY l k h2 (l.length-i) i o (by omega) h4
 ·cases h
theorem Tf (l:List Ty) (k:Int) (hc:0<=k/\k.toNat<l.length/\l.length<=4000000000):CS prog (Aa []) (Aa [(3,DF)]) f156 [.agg [.sl TCd l],.j k] []=some (.ref 0 0 (Bt l k.toNat).length,[R0 (.int .i64) (Bt l k.toNat)]):=by
 have e:CS prog (Aa []) (Aa [(3,DF)]) f156 [.agg [.sl TCd l],.j k] []=((ifT (decide (0<=i64.wrap (k+1)/\(i64.wrap (k+1)).toNat<=l.length/\l.length<=4000000000/\0=0/\0<=
 (i64.wrap (k+1)).toNat)) (some (V.ref 0 0 (Ag (Cd.int .i64).den++C6 k (i64.wrap (k+1)).toNat (drop (i64.wrap (k+1)).toNat
 l)).length,[R0 (Cd.int .i64) (Ag (Cd.int .i64).den++C6 k (i64.wrap (k+1)).toNat (drop (i64.wrap (k+1)).toNat
 l))]))):_):=by kernel_rfl
 rw [e];clear e;obtain ⟨h0,h1,h2⟩:=hc;obtain ⟨k,rfl⟩:=eq_ofNat_of_zero_le h0;rw [ntN] at h1;have hM:=mxI;rw [Ap (n:=k) (by omega),Ab (dcT ⟨by omega,by omega,h2,by simp,by simp⟩)];simp only [ntN,AX,List.nil_append];rfl
theorem Z4:Af prog 156 (Ent.rd1 Kw).F:=by
 refine fcN KnowsL.nil.knows (Λ:=(Aa [(3,DF)])) func156 fun vs bs r hq=>?_
 unfold Ent.F Kw at hq;dsimp only at hq;split at hq
 ·rename_i l k;obtain ⟨hc,hx⟩:=Ad hq;exact ⟨Ww,(Tf l k (of_decide_eq_true hc)).trans hx⟩
 ·cases hq
abbrev Abn (n:Nat):FuncId->Option Ent:=Aa [(156,.rd1 Kw),(119,.rd1 (Ff n))]
theorem HX (n:Nat) (l:List Ty) (x0:Int) (x1:By) (x2:Int) (x3:Bool) (x4:Int) (p:Nat) (m i:Int) (k:Nat) (q:List Int) (ks:RL):At prog (Abn n) (Aa [(4,DE n)]) 0 (body f119 0) (DE n) ([.ptr 0 0,.ptr 1 0,.ptr 2 0,.ref 3 0 p,.j m,.j i],[some (.box [.sl TCd l]),some (.box [.j 0,.s [],.j 0,.b false,.j 0,.ref 4 0 0]),some (.box [.j x0,.s x1,.j x2,.b x3,.j x4,.ref 5 0 k]),R0 (.int .i64) q,R0 (.rose LCd) [],R0 (.rose LCd) ks]) =
 ((shr (Ag LCd.rose.den) fun sh1=>ifB (decide (i<m)) (ifT (decide (0<=i)&&decide (i<(↑p:Int))) (Ak q[0+i.toNat]? fun z=>ifT (decide ((0:Int)<=
 z/\toNat z<l.length/\l.length<=4000000000/\l.length-toNat z<=n)) (ifT (decide ((k+1)*72<=140737488355328)&&decide
 (k+1<=maxI)) (some (Ex.normal,[V.ptr 0 0,V.ptr 1 0,V.ptr 2 0,V.ref 3 0 p,V.j m,V.j (i64.wrap (i+1))],[some (Blk.box [V.sl TCd l]),
 some (Blk.box [V.j 0,V.s (Ag UInt8),V.j 0,V.b false,V.j 0,V.ref 4 0 0]),some (Blk.box [V.j x0,V.s x1,V.j x2,V.b x3,V.j x4,V.ref
 5 0 (k+1)]),R0 (Cd.int .i64) q,R0 LCd.rose sh1,R0 LCd.rose (take k (drop (0 :
 Nat) ks)++Rose.node ((t2L l (toNat z)).lab.1,(t2L l (toNat z)).lab.2.1,(t2L l (toNat z)).lab.2.2.1,(t2L l (toNat z)).lab.2.2.2.1,
 (t2L l (toNat z)).lab.2.2.2.2.1,()) (take (t2L l (toNat z)).kids.length (drop 0 (t2L l (toNat z)).kids))::sh1)]))))) (some
 (Ex.exit 0,[V.ptr 0 0,V.ptr 1 0],[some (Blk.box [V.j 0,V.s (Ag UInt8),V.j 0,V.b false,V.j 0,V.ref 2 0 0]),some (Blk.box [V.j x0,V.s x1,
 V.j x2,V.b x3,V.j x4,V.ref 3 0 k]),R0 LCd.rose sh1,R0 LCd.rose ks]))):_):=by kernel_rfl
theorem QQ (n:Nat) (l:List Ty) (k:Int):CS prog (Abn n) (Aa [(4,DE n)]) f119 [.agg [.sl TCd l],.j k] [] =
 ((ifT (decide (0<=k)&&decide (k<(↑l.length:Int))) (Ak l[k.toNat]? fun z=>ifT (decide (0<=k/\k.toNat<l.length/\l.length<=4000000000)) (ifT (decide
 ((0:Int)<=(0:Int)/\0<=(Bt l k.toNat).length/\(↑(Bt l k.toNat).length:Int)=(↑(Bt l k.toNat).length:Int)/\(Bt l k.toNat).length =
 (Bt l k.toNat).length/\0=0/\0<=0/\(Bt l k.toNat).length<=4000000000/\l.length<=4000000000)&&(Bt l
 k.toNat).all fun i=>decide ((0:Int)<=i/\i.toNat<l.length/\l.length-i.toNat<=n)) (some (V.agg [V.j z.1,V.s z.2.1,V.j z.2.2.1,V.b
 z.2.2.2.1,V.j z.2.2.2.2.2.1,V.ref 0 0 (Ag LCd.rose.den++List.map (fun i=>t2L l (toNat i)) (drop 0 (Bt l
 k.toNat))).length],[R0 LCd.rose (Ag LCd.rose.den++List.map (fun i=>t2L l (toNat i)) (drop 0 (Bt l k.toNat)))]))))):_):=by kernel_rfl
theorem JD (n:Nat) (l:List Ty) (x0:Int) (x1:By) (x2:Int) (x3:Bool) (x4:Int) (q:List Int) (hl:l.length<=4000000000) (hq:q.length<=4000000000) (hs:(q.all fun i:Int=>decide (0<=i/\i.toNat<l.length/\l.length-i.toNat<=n))=true) : ∀ (j i:Nat) (ks:RL),i+j=q.length->ks.length<=i->
  Runs prog (Abn n) (Aa [(4,DE n)]) 0 (body f119 0) (DE n) ([.ptr 0 0,.ptr 1 0,.ptr 2 0,.ref 3 0 q.length,.j (q.length:Int),.j (i:Int)],[some (.box [.sl TCd l]),some (.box [.j 0,.s [],.j 0,.b false,.j 0,.ref 4 0 0]),some (.box [.j x0,.s x1,.j x2,.b x3,.j x4,.ref 5 0 ks.length]),R0 (.int .i64) q,R0 (.rose LCd) [],R0 (.rose LCd) ks]) (.exit 0) ([.ptr 0 0,.ptr 1 0],[some (.box [.j 0,.s [],.j 0,.b false,.j 0,.ref 2 0 0]),some (.box [.j x0,.s x1,.j x2,.b x3,.j x4,.ref 3 0 (ks++(q.drop i).map fun i=>t2L l i.toNat).length]),R0 (.rose LCd) [],R0 (.rose LCd) (ks++(q.drop i).map fun i=>t2L l i.toNat)])
 | 0,i,ks,hi,hk=>by
  have hr:=HX n l x0 x1 x2 x3 x4 q.length q.length i ks.length q ks;dsimp only [shr] at hr;rw [Ac (dcF (by omega))] at hr;rw [drop_eq_nil_of_le (by omega),List.map_nil,append_nil];exact stp hr
 | j+1,i,ks,hi,hk=>by
  have h1:i<q.length:=by omega
  have hM:=mxI;have hr:=HX n l x0 x1 x2 x3 x4 q.length q.length i ks.length q ks;dsimp only [shr] at hr;have hz:=of_decide_eq_true (all_eq_true.1 hs _ (getElem_mem h1));rw [Ae (dcT (by omega)),T2 (by omega)] at hr;simp only [ntN,Nat.zero_add,gtE h1,Ai,Ap (n:=i) (by omega),drop_zero,take_length] at hr;rw [Ab (dcT ⟨hz.1,hz.2.1,hl,hz.2.2⟩),T2 (by omega)] at hr;have ht:=HC (t2L l q[i].toNat);rw [drop_zero,take_length] at ht;rw [ht] at hr;rw [drop_eq_getElem_cons h1,List.map_cons];have ih:=JD n l x0 x1 x2 x3 x4 q hl hq hs j (i+1) (ks++[t2L l q[i].toNat]) (by omega) (by simp; omega);rw [append_assoc] at ih;exact sts (hr.trans (by simp)) ih
theorem Wu (n:Nat):As prog (Abn n) (Aa [(4,DE n)]) 0 (f119.body.getD .skip):=by
 refine Am (a:=body f119 0) (by kernel_rfl) fun d ex d' h=>?_
 unfold DE at h;dsimp only at h;split at h
 ·rename_i p m i l x0 x1 x2 x3 x4 k q ks;obtain ⟨hc,hx⟩:=Ad h;clear h;rw [anE] at hc;obtain ⟨hc,hs⟩:=hc;obtain ⟨h0,h1,rfl,rfl,rfl,h5,h6,h7⟩:=of_decide_eq_true hc;obtain ⟨i,rfl⟩:=eq_ofNat_of_zero_le h0;simp only [ntN] at h1 h5 hx;obtain ⟨rfl,rfl⟩:=lfP hx;exact JD n l x0 x1 x2 x3 x4 q h7 h6 hs (q.length-i) i ks (by omega) h5
 ·cases h
theorem Tc (n:Nat) (l:List Ty) (k:Int) (hc:0<=k/\k.toNat<l.length/\l.length<=4000000000/\l.length-k.toNat<=n+1):CS prog (Abn n) (Aa [(4,DE n)]) f119 [.agg [.sl TCd l],.j k] []=some (.agg [.j (t2L l k.toNat).lab.1,.s (t2L l k.toNat).lab.2.1,.j (t2L l k.toNat).lab.2.2.1,.b (t2L l k.toNat).lab.2.2.2.1,.j (t2L l k.toNat).lab.2.2.2.2.1,.ref 0 0 (t2L l k.toNat).kids.length],[R0 (.rose LCd) (t2L l k.toNat).kids]):=by
 rw [QQ];obtain ⟨h0,h1,h2,h3⟩:=hc;obtain ⟨k,rfl⟩:=eq_ofNat_of_zero_le h0;rw [ntN] at h1 h3;have hkl:=NO (k:Int) (l.drop (k+1)) (k+1);rw [length_drop] at hkl;have hkl2:(Bt l k).length<=l.length-(k+1):=hkl;rw [T2 (by omega)];simp only [ntN,gtE h1,Ai];rw [Ab (dcT ⟨by omega,h1,h2⟩)]
 have hall:((Bt l k).all fun i:Int=>decide (0<=i/\i.toNat<l.length/\l.length-i.toNat<=n))=true:=all_eq_true.2 fun x hx=>by
  obtain ⟨j,rfl,h5,h6⟩:=Fi hx;exact dcT ⟨by omega,by simpa using h6,by simp; omega⟩
 rw [Ab (by rw [anE]; exact ⟨dcT ⟨by omega,by simp,by simp,by simp,by simp,by simp,by omega,h2⟩,hall⟩)];have hlab:A1 l k=(l[k].1,l[k].2.1,l[k].2.2.1,l[k].2.2.2.1,l[k].2.2.2.2.2.1,()):=by unfold A1; rw [gtE h1]
 rw [Ye h1,hlab];simp [Rose.lab,Rose.kids]
theorem Td : ∀ n,(∀ m,m<n->Af prog 119 (Ent.rd1 (Ff m)).F)->Af prog 119 (Ent.rd1 (Ff n)).F
 | 0,_=>AW fun vs bs=>by
  unfold Ent.F Ff;dsimp only;split
  ·rename_i l a;have:decide (0<=a/\a.toNat<l.length/\l.length<=4000000000/\l.length-a.toNat<=0)=false:=dcF (by omega);rw [this]; rfl
  ·rfl
 | n+1,ih=>by
  refine fcN (kc func156 Z4 (kc func119 (ih n (lt_succ_self n)) KnowsL.nil)).knows (Λ:=(Aa [(4,DE n)])) func119 fun vs bs r hq=>?_
  unfold Ent.F Ff at hq;dsimp only at hq;split at hq
  ·rename_i l a;obtain ⟨hc,hx⟩:=Ad hq;exact ⟨Wu n,(Tc n l a (of_decide_eq_true hc)).trans hx⟩
  ·cases hq
theorem IS:Af prog 119 (Ent.rd1 DD).F:=by
 refine Bd (F:=fun n=>(Ent.rd1 (Ff n)).F) Td fun vs bs r h=>?_
 unfold Ent.F DD at h;dsimp only at h;split at h
 ·rename_i l a;obtain ⟨hc,hx⟩:=Ad h;obtain ⟨h0,h1,h2⟩:=of_decide_eq_true hc;refine ⟨l.length,?_⟩;unfold Ent.F Ff;dsimp only;have:decide (0<=a/\a.toNat<l.length/\l.length<=4000000000/\l.length-a.toNat<=l.length)=true:=dcT ⟨h0,h1,h2,by omega⟩;rw [this];exact hx
 ·cases h
def IB (n:Nat):Gm
 | [.agg (Lt z0 z1 z2 z3 z4 zs)],[]=>.need (decide (Ar zs+1<=n/\Ar zs+1<=1000000)) (.leaf (.j ((Co zs+(bif A3 z0 then 1 else 0):Nat):Int),[]))
 | _,_=>.no
def SG:Gm
 | [.agg (Lt z0 z1 z2 z3 z4 zs)],[]=>.need (decide (Ar zs+1<=1000000)) (.leaf (.j ((Co zs+(bif A3 z0 then 1 else 0):Nat):Int),[]))
 | _,_=>.no
def EW (n:Nat):LoopEnt:=⟨27,[1,3,8,9,10],[1,3],[],fun
 | ([.ptr 0 0,.j m,.sl (.rose LCd) ks,.j k,.j i],[some (.box (Lt y0 y1 y2 y3 y4 ys))])=>.need (decide (0<=m/\m<=1000001/\0<=i/\i.toNat<=ks.length/\k=ks.length/\Ar ks<=n/\Ar ks<=1000000)) (.leaf (.exit 0,([.ptr 0 0,.j ((max m.toNat (Co (ks.drop i.toNat)):Nat):Int)],[some (.box (Lt y0 y1 y2 y3 y4 ys))])))
 | _=>.no⟩
def Da (l:List Ty) (u:Int):Nat->Int->Bool
 | 0,_=>false
 | f+1,x=>if x<0 then false else if x=u then true else match AT l x.toNat with | some v=>Da l u f v | none=>false
def CL (l:List Ty) (i:Nat):Bool:=(range i).all fun j=>match AT l j with | some v=>decide (v<(j:Int)) | none=>false
def DM (l:List Ty) (i:Nat):Bool:=match AT l i with | some u=>Da l u (i+1) ((i:Int)-1) | none=>false
def IT:Gm
 | [.sl TCd l,.j i],[]=>.need (decide (0<=i/\i.toNat<l.length/\l.length<=4000000000)&&CL l i.toNat) (.leaf (.b (DM l i.toNat),[]))
 | _,_=>.no
def Cz:LoopEnt:=⟨22,[0,1,5],[],[4],fun
 | ([.sl TCd l,.j i,.j x],[])=>.need (decide (0<=i/\i.toNat<l.length/\l.length<=4000000000/\x<i)&&CL l i.toNat) (.opt (.int .i64) (AT l i.toNat) fun u=>.br (Da l u (x+1).toNat x) (.leaf (.ret,([.b true],[]))) (.leaf (.exit 0,([],[]))))
 | _=>.no⟩
theorem N0 (z:Rose Lab):Co z.kids+(bif A3 z.lab.1 then 1 else 0)=BN z:=by cases z; rw [BN]; rfl
abbrev Abm (n:Nat):FuncId->Option Ent:=Aa [(157,.rd1 (IB n)),(193,.rd1 FZ)]
theorem J7 (n:Nat) (y0:Int) (y1:By) (y2:Int) (y3:Bool) (y4:Int) (ys:RL) (m:Int) (ks:RL) (k i:Int):At prog (Abm n) (Aa [(3,EW n)]) 0 (body f157 0) (EW n) ([.ptr 0 0,.j m,.sl (.rose LCd) ks,.j k,.j i],[some (.box (Lt y0 y1 y2 y3 y4 ys))]) =
 ((ifB (decide (i<k)) (ifT (decide (0<=i)&&decide (i<(↑ks.length:Int))) (Ak ks[i.toNat]? fun z=>ifT (decide (Ar (Rose.kids z)+1<=n/\Ar
 (Rose.kids z)+1<=1000000)) (ifB (decide ((↑(Co (Rose.kids z)+bif A3 (Rose.lab z).1 then 1 else 0):Int)>m)) (some
 (Ex.normal,[V.ptr 0 0,V.j (↑(Co (Rose.kids z)+bif A3 (Rose.lab z).1 then 1 else 0):Int),V.sl LCd.rose ks,V.j k,V.i .i64
 (i64.wrap (i+1))],[some (Blk.box (Lt y0 y1 y2 y3 y4 ys))])) (some (Ex.normal,[V.ptr 0 0,V.j m,V.sl
 LCd.rose ks,V.j k,V.j (i64.wrap (i+1))],[some (Blk.box (Lt y0 y1 y2 y3 y4 ys))]))))) (some
 (Ex.exit 0,[V.ptr 0 0,V.j m],[some (Blk.box (Lt y0 y1 y2 y3 y4 ys))]))):_):=by kernel_rfl
theorem SF (n:Nat) (z0:Int) (z1:By) (z2:Int) (z3:Bool) (z4:Int) (zs:RL):Aw prog (Abm n) (Aa [(3,EW n)]) f157 [.agg (Lt z0 z1 z2 z3 z4 zs)] [] =
 ((ifT (decide ((0:Int)<=(0:Int)/\(0:Int)<=(1000001:Int)/\(0:Int)<=(0:Int)/\0<=zs.length/\(↑zs.length:Int)=(↑zs.length:Int)/\Ar zs<=n/\
 Ar zs<=1000000)) (ifB (A3 z0) (some (V.j (i64.wrap ((↑(max 0 (Co (drop 0 zs))):Int)+(1:Int))),[])) (some (V.i
 .i64 (↑(max 0 (Co (drop 0 zs))):Int),[])))):_):=by kernel_rfl
theorem Lh (n:Nat) (y0:Int) (y1:By) (y2:Int) (y3:Bool) (y4:Int) (ys:RL) (ks:RL) (h1:Ar ks<=n) (h2:Ar ks<=1000000) : ∀ (j i m:Nat),i+j=ks.length->m<=1000001->
  Runs prog (Abm n) (Aa [(3,EW n)]) 0 (body f157 0) (EW n) ([.ptr 0 0,.j (m:Int),.sl (.rose LCd) ks,.j (ks.length:Int),.j (i:Int)],[some (.box (Lt y0 y1 y2 y3 y4 ys))]) (.exit 0) ([.ptr 0 0,.j ((max m (Co (ks.drop i)):Nat):Int)],[some (.box (Lt y0 y1 y2 y3 y4 ys))])
 | 0,i,m,hi,hm=>by
  have hr:=J7 n y0 y1 y2 y3 y4 ys m ks ks.length i;rw [Ac (dcF (by omega))] at hr;have e1:ks.drop i=[]:=drop_eq_nil_of_le (by omega);rw [e1,Co];exact .stop _ _ _ (hr.trans (by simp)) (by simp)
 | j+1,i,m,hi,hm=>by
  have hl:i<ks.length:=by omega
  have hM:=mxI;have hr:=J7 n y0 y1 y2 y3 y4 ys m ks ks.length i;have hmem:=BE (getElem_mem hl);have hlen:=BS ks;have hdm:=Iw ks[i];have hck:=Bk ks[i];rw [Ae (dcT (by omega)),T2 (by omega)] at hr;simp only [ntN,gtE hl,Ai,Ap (n:=i) (by omega)] at hr;rw [Ab (dcT ⟨by omega,by omega⟩)] at hr;simp only [N0] at hr;rw [drop_eq_getElem_cons hl,Co];have ih:=Lh n y0 y1 y2 y3 y4 ys ks h1 h2 j (i+1) (max m (BN ks[i])) (by omega) (by omega);rw [<-Nat.max_assoc]
  by_cases hx:(BN ks[i]:Int)>(m:Int)
  ·rw [Ae (dcT hx)] at hr;have hmx:max m (BN ks[i])=BN ks[i]:=by omega
   exact sts (hr.trans (by rw [hmx])) ih
  ·rw [Ac (dcF hx)] at hr;have hmx:max m (BN ks[i])=m:=by omega
   exact sts (hr.trans (by rw [hmx])) ih
theorem Y6 (n:Nat):As prog (Abm n) (Aa [(3,EW n)]) 0 (f157.body.getD .skip):=by
 refine Am (a:=body f157 0) (by kernel_rfl) fun d ex d' h=>?_
 unfold EW at h;dsimp only at h;split at h
 ·rename_i m ks k i y0 y1 y2 y3 y4 ys;obtain ⟨hc,hx⟩:=Ad h;clear h;obtain ⟨h0,h1,h2,h3,rfl,h5,h6⟩:=of_decide_eq_true hc;obtain ⟨m,rfl⟩:=eq_ofNat_of_zero_le h0;obtain ⟨i,rfl⟩:=eq_ofNat_of_zero_le h2;simp only [ntN] at h3 hx;obtain ⟨rfl,rfl⟩:=lfP hx;exact Lh n y0 y1 y2 y3 y4 ys ks h5 h6 (ks.length-i) i m (by omega) (by omega)
 ·cases h
theorem VN (n:Nat) (z0:Int) (z1:By) (z2:Int) (z3:Bool) (z4:Int) (zs:RL) (hc:Ar zs+1<=n+1/\Ar zs+1<=1000000):Aw prog (Abm n) (Aa [(3,EW n)]) f157 [.agg (Lt z0 z1 z2 z3 z4 zs)] []=some (.j ((Co zs+(bif A3 z0 then 1 else 0):Nat):Int),[]):=by
 rw [SF];obtain ⟨h1,h2⟩:=hc;have hdp:=G8 zs;rw [Ab (dcT (by refine ⟨by omega,by omega,by omega,by simp,by trivial,by omega,by omega⟩))];simp only [toNat_zero,drop_zero,Nat.zero_max]
 cases hx:A3 z0 with
 | true=>rw [AR,Av (by omega) (by omega)]; simp
 | false=>rw [A6]; simp
theorem VO : ∀ n,(∀ m,m<n->Af prog 157 (Ent.rd1 (IB m)).F)->Af prog 157 (Ent.rd1 (IB n)).F
 | 0,_=>AW fun vs bs=>by
  unfold Ent.F IB;dsimp only;split
  ·rename_i z0 z1 z2 z3 z4 zs;rw [dcF (show ¬(Ar zs+1<=0/\Ar zs+1<=1000000) by omega)]; rfl
  ·rfl
 | n+1,ih=>by
  refine fcK (kc func157 (ih n (lt_succ_self n)) (kc func193 Pv KnowsL.nil)).knows (Λ:=(Aa [(3,EW n)])) func157 fun vs bs r hq=>?_
  unfold Ent.F IB at hq;dsimp only at hq;split at hq
  ·rename_i z0 z1 z2 z3 z4 zs;obtain ⟨hc,hx⟩:=Ad hq;exact ⟨Y6 n,(VN n z0 z1 z2 z3 z4 zs (of_decide_eq_true hc)).trans hx⟩
  ·cases hq
theorem Aj4:Af prog 157 (Ent.rd1 SG).F:=by
 refine Bd (F:=fun n=>(Ent.rd1 (IB n)).F) VO fun vs bs r h=>?_
 unfold Ent.F SG at h;dsimp only at h;split at h
 ·rename_i z0 z1 z2 z3 z4 zs;obtain ⟨hc,hx⟩:=Ad h;have hc:=of_decide_eq_true hc;refine ⟨1000000,?_⟩;show (Br.need (decide (Ar zs+1<=1000000/\Ar zs+1<=1000000)) (.leaf (.j ((Co zs+(bif A3 z0 then 1 else 0):Nat):Int),[]))).run=some r;rw [dcT (show Ar zs+1<=1000000/\Ar zs+1<=1000000 from ⟨hc,hc⟩)];exact hx
 ·cases h
theorem LK (l:List Ty) (i x:Int):At prog (Aa []) (Aa [(2,Cz)]) 0 (body f194 0) Cz ([.sl TCd l,.j i,.j x],[]) =
 ((ifB (decide (x>=0)) (ifT (decide (0<=i)&&decide (i<(↑l.length:Int))) (Ak l[i.toNat]? fun z=>ifB (x==z.2.2.2.2.1) (some (Ex.ret,[V.b true],[]))
 (ifT (decide (0<=x)&&decide (x<(↑l.length:Int))) (Ak l[x.toNat]? fun z=>some (Ex.normal,[V.sl TCd l,V.j i,V.j z.2.2.2.2.1],[])))))
 (some (Ex.exit 0,[],[]))):_):=by kernel_rfl
theorem XI {l:List Ty} {i j:Nat} (h:CL l i=true) (hj:j<i) : ∃ v,AT l j=some v/\v<(j:Int):=by
 have:=all_eq_true.1 h j (mem_range.2 hj)
 cases hu:AT l j with
 | none=>rw [hu] at this; cases this
 | some v=>rw [hu] at this; exact ⟨v,rfl,of_decide_eq_true this⟩
theorem Jn {l:List Ty} {i:Nat} (h:CL l i=true) (u:Int) : ∀ (f f':Nat) (x:Int),x<(i:Int)->(x+1).toNat<=f->(x+1).toNat<=f'->Da l u f x=Da l u f' x
 | 0,0,x,_,_,_=>rfl
 | 0,f'+1,x,hx,h1,h2=>by rw [Da,Da,if_pos (by omega)]
 | f+1,0,x,hx,h1,h2=>by rw [Da,Da,if_pos (by omega)]
 | f+1,f'+1,x,hx,h1,h2=>by
  rw [Da,Da]
  by_cases a:x<0
  ·rw [if_pos a,if_pos a]
  ·rw [if_neg a,if_neg a]
   by_cases b:x=u
   ·rw [if_pos b,if_pos b]
   ·rw [if_neg b,if_neg b];obtain ⟨v,hv,hv2⟩:=XI h (j:=x.toNat) (by omega);rw [hv];exact Jn h u f f' v (by omega) (by omega) (by omega)
theorem ME (l:List Ty) (i:Nat) (u:Int) (hi:i<l.length) (hl:l.length<=4000000000) (hu:AT l i=some u) (hs:CL l i=true) : ∀ (j:Nat) (x:Int),(x+1).toNat=j->x<(i:Int)->∀ ex d,(Br.br (Da l u (x+1).toNat x) (.leaf (.ret,([.b true],[]))) (.leaf (.exit 0,([],[]))):Br (Ex×Dt)).run=some (ex,d)->
  Runs prog (Aa []) (Aa [(2,Cz)]) 0 (body f194 0) Cz ([.sl TCd l,.j (i:Int),.j x],[]) ex d:=by
 intro j
 induction j using strongRecOn with
 | ind j ih=>
  intro x hj hx ex d h;have hr:=LK l i x;have h0:l[i].2.2.2.2.1=u:=by unfold AT at hu; rw [gtE hi] at hu; exact Option.some.inj hu
  by_cases a:x<0
  ·rw [Ac (dcF (by omega))] at hr;have e0:(x+1).toNat=0:=by omega
   rw [e0,Da] at h;obtain ⟨rfl,rfl⟩:=lfP h;exact stp hr
  ·rw [Ae (dcT (by omega)),T2 (by omega)] at hr;simp only [ntN,gtE hi,Ai,h0] at hr;obtain ⟨x,rfl⟩:=eq_ofNat_of_zero_le (by omega:0<=x);have e0:((x:Int)+1).toNat=x+1:=by omega
   rw [e0,Da,if_neg (by omega)] at h
   by_cases b:(x:Int)=u
   ·rw [if_pos b] at h;rw [Ae (by rw [b]; exact beq_self_eq_true _)] at hr;obtain ⟨rfl,rfl⟩:=lfP h;exact stp hr
   ·rw [if_neg b] at h;have hxl:x<l.length:=by omega
    rw [Ac (beq_false_of_ne b),T2 (by omega)] at hr;simp only [ntN,gtE hxl,Ai] at hr;obtain ⟨v,hv,hv2⟩:=XI hs (j:=x) (by omega);have hv3:l[x].2.2.2.2.1=v:=by unfold AT at hv; rw [gtE hxl] at hv; exact Option.some.inj hv
    rw [ntN,hv] at h;dsimp only at h;rw [Jn hs u x (v+1).toNat v (by omega) (by omega) (Nat.le_refl _)] at h;rw [hv3] at hr;exact sts hr (ih (v+1).toNat (by omega) v rfl (by omega) ex d h)
theorem QT:As prog (Aa []) (Aa [(2,Cz)]) 0 (f194.body.getD .skip):=by
 refine Am (a:=body f194 0) (by kernel_rfl) fun d ex d' h=>?_
 unfold Cz at h;dsimp only at h;split at h
 ·rename_i l i x;obtain ⟨hc,hx⟩:=Ad h;clear h;rw [anE] at hc;obtain ⟨hc,hs⟩:=hc;obtain ⟨h0,h1,h2,h3⟩:=of_decide_eq_true hc;obtain ⟨i,rfl⟩:=eq_ofNat_of_zero_le h0;simp only [ntN] at h1 hs hx
  cases hu:AT l i with
  | some u=>rw [hu] at hx; exact ME l i u h1 h2 hu hs _ x rfl h3 ex d' hx
  | none=>rw [hu] at hx; cases hx
 ·cases h
theorem Pw (l:List Ty) (i:Int) (hc:0<=i/\i.toNat<l.length/\l.length<=4000000000) (hs:CL l i.toNat=true):Aw prog (Aa []) (Aa [(2,Cz)]) f194 [.sl TCd l,.j i] []=some (.b (DM l i.toNat),[]):=by
 have e:Aw prog (Aa []) (Aa [(2,Cz)]) f194 [.sl TCd l,.j i] []=((ifT (decide (0<=i/\i.toNat<l.length/\l.length<=4000000000/\i64.wrap (i-1)<i)&&CL l i.toNat) (Ak (AT l i.toNat) fun z=>ifB (Da l z
 (i64.wrap (i-1)+(1:Int)).toNat (i64.wrap (i-1))) (some (V.b true,[])) nF)):_):=by kernel_rfl
 obtain ⟨h0,h1,h2⟩:=hc;obtain ⟨i,rfl⟩:=eq_ofNat_of_zero_le h0;simp only [ntN] at h1 hs;have hw:i64.wrap ((i:Int)-1)=(i:Int)-1:=Av (by omega) (by omega);obtain ⟨u,hu⟩ : ∃ u,AT l i=some u:=⟨_,by unfold AT; rw [gtE h1]; rfl⟩
 rw [e];clear e;rw [hw];simp only [ntN];rw [Ab (by rw [anE]; exact ⟨dcT ⟨by omega,h1,h2,by omega⟩,hs⟩)];unfold DM;rw [hu,Ai];have e2:Da l u (i+1) ((i:Int)-1)=Da l u ((i:Int)-1+1).toNat ((i:Int)-1):=Jn hs u _ _ _ (by omega) (by omega) (Nat.le_refl _);dsimp only;rw [e2];cases Da l u ((i:Int)-1+1).toNat ((i:Int)-1)<;>rfl
theorem Z5:Af prog 194 (Ent.rd1 IT).F:=by
 refine fcK KnowsL.nil.knows (Λ:=(Aa [(2,Cz)])) func194 fun vs bs r hq=>?_
 unfold Ent.F IT at hq;dsimp only at hq;split at hq
 ·rename_i l i;obtain ⟨hc,hx⟩:=Ad hq;rw [anE] at hc;exact ⟨QT,(Pw l i (of_decide_eq_true hc.1) hc.2).trans hx⟩
 ·cases hq
def VE (u no:Int) (nm:By) (l:List Ty):Bool:=l.all fun o=>!(o.2.2.2.2.1==u&&(decide (o.2.2.1>=no)||o.2.1==nm))
def DV (l:List Ty) (i:Nat):Bool:=match AT l i with
 | none=>false
 | some u=>decide (0<=u/\u<(i:Int))&&A3 (A1 l u.toNat).1&&DM l i&&(if (A1 l u.toNat).1=4 then (A1 l i).2.1==[]&&(A1 l i).2.2.1==0&&!(A1 l i).2.2.2.1
  else FW (A1 l i).2.1&&(decide (1<=(A1 l i).2.2.1)&&decide ((A1 l i).2.2.1<=30))&&VE u (A1 l i).2.2.1 (A1 l i).2.1 ((l.take i).drop (u.toNat+1)))
def kmB (x:Lab):Bool:=decide (1<=x.1/\x.1<=5)&&(if x.1=3 then decide (0<=x.2.2.2.2.1/\x.2.2.2.2.1<=20) else x.2.2.2.2.1==0)
def okT (l:List Ty) (i:Nat):Bool:=kmB (A1 l i)&&(if i=0 then (A1 l 0).1==5&&decide (AT l 0=some (-1))&&(A1 l 0).2.1==[]&&(A1 l 0).2.2.1==0&&!(A1 l 0).2.2.2.1 else DV l i)
def E0 (l:List Ty) (i:Nat):Bool:=!((A1 l i).1==4&&(Bt l i).length != 1)
def LS (l:List Ty):Bool:=decide (1<=l.length/\l.length<=30)&&(range l.length).all (okT l)&&(range l.length).all (E0 l)&&decide (BN (t2L l 0)<=5)
inductive Out (l:List Ty):Nat->Nat->Prop
 | refl (x:Nat):Out l x x
 | step (x v y:Nat) (h:AT l x=some (v:Int)) (h2:Out l v y):Out l x y
structure Ord (l:List Ty):Prop where
 zero:AT l 0=some (-1)
 up : ∀ i,0<i->i<l.length->∃ u:Nat,AT l i=some (u:Int)/\u<i/\A3 (A1 l u).1=true/\Out l (i-1) u
def KK (l:List Ty) (a s t:Nat):List Nat:=(List.range' s (t-s)).filter fun j=>decide (AT l j=some (a:Int))
theorem Out.trans {l:List Ty} {x y z:Nat} (h:Out l x y) (h2:Out l y z):Out l x z:=by
 induction h with
 | refl=>exact h2
 | step x v y h _ ih=>exact .step x v z h (ih h2)
theorem M1 (l:List Ty) (u:Int) : ∀ (f:Nat) (x:Nat),Da l u f (x:Int)=true->∃ y:Nat,u=(y:Int)/\Out l x y
 | 0,x,h=>by rw [Da] at h; cases h
 | f+1,x,h=>by
  rw [Da,if_neg (by omega)] at h;split at h
  ·rename_i e; exact ⟨x,e.symm,.refl x⟩
  ·rw [ntN] at h
   cases hu:AT l x with
   | none=>rw [hu] at h; cases h
   | some v=>
    rw [hu] at h;dsimp only at h
    by_cases hv:v<0
    ·cases f with
     | zero=>rw [Da] at h; cases h
     | succ f=>rw [Da,if_pos hv] at h; cases h
    ·obtain ⟨v,rfl⟩:=eq_ofNat_of_zero_le (by omega:0<=v);obtain ⟨y,h1,h2⟩:=M1 l u f v h;exact ⟨y,h1,.step x v y hu h2⟩
theorem YZ {l:List Ty} {i x y:Nat} (hs : ∀ j,j<i->∀ v:Nat,AT l j=some (v:Int)->v<j) (h:Out l x y):x<i->y<=x:=by
 induction h with
 | refl=>intro _; exact Nat.le_refl _
 | step x v y h _ ih=>intro hx; have:=hs x hx v h; have:=ih (by omega); omega
theorem Q1 {l:List Ty} {i x y:Nat} (hs : ∀ j,j<i->∀ v:Nat,AT l j=some (v:Int)->v<j) (h:Out l x y):x<i->∀ f,x+1<=f->Da l (y:Int) f (x:Int)=true:=by
 induction h with
 | refl x=>
  intro hx f hf;obtain ⟨f,rfl⟩ : ∃ g,f=g+1:=⟨f-1,by omega⟩
  rw [Da,if_neg (by omega),if_pos rfl]
 | step x v y h _ ih=>
  intro hx f hf;obtain ⟨f,rfl⟩ : ∃ g,f=g+1:=⟨f-1,by omega⟩
  rw [Da,if_neg (by omega)];split
  ·rfl
  ·rw [ntN,h];have:=hs x hx v h;exact ih (by omega) f (by omega)
theorem Ord.lt {l:List Ty} (H:Ord l) : ∀ j,j<l.length->∀ v:Nat,AT l j=some (v:Int)->v<j:=fun j hj v hv=>by
 rcases Nat.eq_zero_or_pos j with rfl | hp
 ·rw [H.zero] at hv; injection hv with hv; omega
 ·obtain ⟨u,h1,h2,_⟩:=H.up j hp hj;rw [h1] at hv; injection hv with hv; omega
theorem Ahf {l:List Ty} {c e x y:Nat} (hs : ∀ j,j<e->∀ v:Nat,AT l j=some (v:Int)->v<j) (hb : ∀ j,c<j->j<e->∃ u:Nat,AT l j=some (u:Int)/\c<=u) (h:Out l x y):c<=x->x<e->c<=y\/∃ v:Nat,AT l c=some (v:Int)/\Out l v y:=by
 induction h with
 | refl x=>intro h1 _; exact .inl h1
 | step x v y h h2 ih=>
  intro h1 h3
  by_cases e1:x=c
  ·subst e1; exact .inr ⟨v,h,h2⟩
  ·obtain ⟨u,g1,g2⟩:=hb x (by omega) h3;rw [h] at g1; injection g1 with g1
   have:=hs x h3 v h;exact ih (by omega) (by omega)
theorem Ahg {l:List Ty} {a e i x y:Nat} (hs : ∀ j,j<i->∀ v:Nat,AT l j=some (v:Int)->v<j) (ha:a<=i) (hn : ∀ j,e<=j->j<i->∀ u:Nat,AT l j=some (u:Int)->u<a\/e<=u) (h:Out l x y):e<=x->x<i->y<a\/e<=y:=by
 induction h with
 | refl x=>intro h1 _; exact .inr h1
 | step x v y h h2 ih=>
  intro h1 h3;have:=hs x h3 v h;rcases hn x h1 h3 v h with h4 | h4
  ·have:=YZ hs h2 (by omega);exact .inl (by omega)
  ·exact ih h4 (by omega)
theorem PN {l:List Ty} {a s t u:Nat} (h1:s<=t) (h2:t<=u):KK l a s t++KK l a t u=KK l a s u:=by
 unfold KK;rw [<-List.filter_append];congr 1;have e:t=s+(t-s):=by omega
 conv=>lhs; rhs; rw [e]
 rw [show s+(t-s)=s+1*(t-s) by omega,List.range'_append];congr 1; omega
theorem H1 {l:List Ty} {a s t:Nat} (h : ∀ j,s<=j->j<t->AT l j≠some (a:Int)):KK l a s t=[]:=by
 unfold KK;rw [List.filter_eq_nil_iff];intro j hj;have:=List.mem_range'_1.1 hj
 simpa using h j (by omega) (by omega)
theorem Abq {l:List Ty} {a e t:Nat} (h0:e<t) (h:AT l e=some (a:Int)) (h2 : ∀ j,e<j->j<t->AT l j≠some (a:Int)):KK l a e t=[e]:=by
 have e1:KK l a e (e+1)=[e]:=by
  unfold KK;rw [show e+1-e=1 by omega,List.range'_one];simp [h]
 rw [<-PN (Nat.le_succ e) h0,e1,H1 (fun j hj hj2=>h2 j (by omega) hj2)];rfl
theorem UJ (l:List Ty) (a:Nat) : ∀ (n i:Nat),l.length-i=n->C6 (a:Int) i (l.drop i)=(KK l a i l.length).map ofNat
 | 0,i,h=>by
  rw [drop_eq_nil_of_le (by omega),C6,H1 (fun j h1 h2=>by omega)]; rfl
 | n+1,i,h=>by
  have hl:i<l.length:=by omega
  rw [drop_eq_getElem_cons hl,C6,UJ l a n (i+1) (by omega),<-PN (Nat.le_succ i) hl (l:=l) (a:=a)];have hu:AT l i=some (l[i].2.2.2.2.1):=by unfold AT; rw [gtE hl]; rfl
  by_cases hk:l[i].2.2.2.2.1=(a:Int)
  ·rw [if_pos hk,Abq (lt_succ_self i) (by rw [hu,hk]) (fun j h1 h2=>by omega)]; rfl
  ·rw [if_neg hk,H1 (s:=i) (fun j h1 h2=>by
    have:j=i:=by omega
    subst this; rw [hu]; exact fun h=>hk (Option.some.inj h))]; rfl
theorem NP (l:List Ty) (a:Nat):Bt l a=(KK l a (a+1) l.length).map ofNat:=UJ l a _ (a+1) rfl
theorem Un {l:List Ty} {a:Nat} (h:a<l.length):t2L l a = .node (A1 l a) ((KK l a (a+1) l.length).map (t2L l)):=by
 rw [Ye h,NP,List.map_map];rfl
structure Blk2 (l:List Ty) (a:Nat):Prop where
 inn : ∀ j,a<j->j<(kf l a).2->∃ u:Nat,AT l j=some (u:Int)/\a<=u
 out:(kf l a).2<l.length->∀ u:Nat,AT l (kf l a).2=some (u:Int)->u<a
 tree:(kf l a).1=t2L l a
theorem QI {l:List Ty} (H:Ord l) {a:Nat} (ha:a<l.length) (IH : ∀ b,a<b->b<l.length->Blk2 l b) : ∀ (n e:Nat) (ks:RL),l.length-e<=n->a<e->e<=l.length->
  (∀ j,a<j->j<e->∃ u:Nat,AT l j=some (u:Int)/\a<=u)->(e<l.length->∀ u:Nat,AT l e=some (u:Int)->u<=a)->ks=(KK l a (a+1) e).map (t2L l)->
  (∀ j,a<j->j<(AI (kf l) l a n e ks).2->∃ u:Nat,AT l j=some (u:Int)/\a<=u)/\((AI (kf l) l a n e ks).2<l.length->∀ u:Nat,AT l (AI (kf l) l a n e ks).2=some (u:Int)->u<a)/\(AI (kf l) l a n e ks).1=(KK l a (a+1) (AI (kf l) l a n e ks).2).map (t2L l)/\a<(AI (kf l) l a n e ks).2
 | 0,e,ks,h1,h2,h3,h4,h5,h6=>⟨h4,fun h=>by simp only [AI] at h; omega,h6,h2⟩
 | n+1,e,ks,h1,h2,h3,h4,h5,h6=>by
  unfold AI;split
  ·rename_i hu;have hl:=Eh hu;obtain ⟨b1,b2⟩:=CI l e hl;have B:=IH e h2 hl
   have inn' : ∀ j,a<j->j<(kf l e).2->∃ u:Nat,AT l j=some (u:Int)/\a<=u:=fun j g1 g2=>by
    rcases Nat.lt_trichotomy j e with g3 | g3 | g3
    ·exact h4 j g1 g3
    ·subst g3; exact ⟨a,hu,Nat.le_refl _⟩
    ·obtain ⟨u,k1,k2⟩:=B.inn j g3 g2; exact ⟨u,k1,by omega⟩
   refine QI H ha IH n (kf l e).2 _ (by omega) (by omega) b2 inn' (fun g1 u g2=>?_) ?_
   ·have g3:=B.out g1 u g2;obtain ⟨u',k1,k2,k3,k4⟩:=H.up (kf l e).2 (by omega) g1;rw [g2] at k1; injection k1 with k1
    have:u=u':=by omega
    subst this;rcases Ahf (fun j hj=>H.lt j (by omega)) B.inn k4 (by omega) (by omega) with k5 | ⟨v,k5,k6⟩
    ·omega
    ·rw [hu] at k5; injection k5 with k5
     have:a=v:=by omega
     subst this;exact YZ H.lt k6 ha
   ·rw [h6,B.tree,<-PN (l:=l) (a:=a) (show a+1<=e by omega) (Nat.le_of_lt b1),List.map_append,Abq b1 hu (fun j g1 g2 g3=>by
     obtain ⟨u,k1,k2⟩:=B.inn j g1 g2
     rw [g3] at k1; injection k1 with k1; omega)]
    rfl
  ·rename_i hu;refine ⟨h4,fun g1 u g2=>?_,h6,h2⟩;have:=h5 g1 u g2;have:u≠a:=fun e=>by subst e; exact hu g2
   omega
theorem Ve {l:List Ty} (H:Ord l) : ∀ (n a:Nat),l.length-a<=n->a<l.length->Blk2 l a
 | 0,a,h1,h2=>by omega
 | n+1,a,h1,h2=>by
  have IH : ∀ b,a<b->b<l.length->Blk2 l b:=fun b g1 g2=>Ve H n b (by omega) g2
  have hq:a+1<l.length->∀ u:Nat,AT l (a+1)=some (u:Int)->u<=a:=fun g1 u g2=>by
   have:=H.lt (a+1) g1 u g2; omega
  have hk:=NQ h2
  cases hh:A3 (A1 l a).1 with
  | true=>
   rw [hh,cond_true] at hk;obtain ⟨r1,r2,r3,r4⟩:=QI H h2 IH l.length (a+1) [] (by omega) (by omega) (by omega) (fun j g1 g2=>by omega) hq (by rw [H1 (fun j g1 g2=>by omega)]; rfl);have hb:=G2 (a:=a) (CI l) l.length (a+1) [] h2;generalize AI (kf l) l a l.length (a+1) []=r at *
   have hN : ∀ j,r.2<=j->j<l.length->∀ u:Nat,AT l j=some (u:Int)->u<a\/r.2<=u:=by
    intro j
    induction j using strongRecOn with
    | ind j ih=>
     intro g1 g2 u g3
     by_cases e:j=r.2
     ·subst e; exact .inl (r2 g2 u g3)
     ·obtain ⟨u',k1,k2,k3,k4⟩:=H.up j (by omega) g2;rw [g3] at k1; injection k1 with k1
      have:u=u':=by omega
      subst this;exact Ahg (i:=j) (fun x hx=>H.lt x (by omega)) (by omega) (fun x q1 q2=>ih x q2 q1 (by omega)) k4 (by omega) (by omega)
   refine ⟨by rw [hk]; exact r1,by rw [hk]; exact r2,?_⟩
   rw [hk,Un h2,r3,<-PN (l:=l) (a:=a) (show a+1<=r.2 by omega) hb.2,H1 (s:=r.2) (fun j g1 g2 g3=>by
    rcases hN j g1 g2 a g3 with k | k<;>omega),append_nil]
  | false=>
   rw [hh,cond_false] at hk
   have none : ∀ j,a<j->j<l.length->AT l j≠some (a:Int):=fun j g1 g2 g3=>by
    obtain ⟨u,k1,k2,k3,k4⟩:=H.up j (by omega) g2;rw [g3] at k1; injection k1 with k1
    have:a=u:=by omega
    subst this;rw [hh] at k3; cases k3
   refine ⟨?_,?_,?_⟩
   ·rw [hk]; intro j g1 g2;have g2:j<a+1:=g2;omega
   ·rw [hk]; intro g1 u g2;have g1:a+1<l.length:=g1;have:=hq g1 u g2;have:u≠a:=fun e=>by subst e; exact none _ (by omega) g1 g2
    omega
   rw [hk,Un h2,H1 (fun j g1 g2=>none j (by omega) g2)];rfl
theorem Ord.end' {l:List Ty} (H:Ord l) (h:0<l.length):(kf l 0).2=l.length/\(kf l 0).1=t2L l 0:=by
 have B:=Ve H l.length 0 (by omega) h;have hb:=CI l 0 h;refine ⟨?_,B.tree⟩
 by_cases e:(kf l 0).2<l.length
 ·obtain ⟨u,k1,_⟩:=H.up _ hb.1 e;have:=B.out e u k1; omega
 ·omega
def Ha (y z:Lab):Prop:=y.2.2.1<z.2.2.1/\y.2.1≠z.2.1
structure Prs (l:List Ty) (a:Nat):Prop where
 inn : ∀ j,a<j->j<(kf l a).2->∃ u:Nat,AT l j=some (u:Int)/\a<=u/\u<j/\A3 (A1 l u).1=true/\Out l (j-1) u
 out : ∀ j,a<=j->j<(kf l a).2->Out l j a
theorem QH {l:List Ty} {a:Nat} (ha:a<l.length) (hh:A3 (A1 l a).1=true) (IH : ∀ b,a<b->b<l.length->Prs l b) : ∀ (n e:Nat) (ks:RL),a<e->e<=l.length->
  (∀ j,a<j->j<e->∃ u:Nat,AT l j=some (u:Int)/\a<=u/\u<j/\A3 (A1 l u).1=true/\Out l (j-1) u)->(∀ j,a<=j->j<e->Out l j a)->
  (∀ j,a<j->j<(AI (kf l) l a n e ks).2->∃ u:Nat,AT l j=some (u:Int)/\a<=u/\u<j/\A3 (A1 l u).1=true/\Out l (j-1) u)/\(∀ j,a<=j->j<(AI (kf l) l a n e ks).2->Out l j a)
 | 0,e,ks,h1,h2,h3,h4=>⟨h3,h4⟩
 | n+1,e,ks,h1,h2,h3,h4=>by
  unfold AI;split
  ·rename_i hu;have hl:=Eh hu;obtain ⟨b1,b2⟩:=CI l e hl;have B:=IH e h1 hl;refine QH ha hh IH n (kf l e).2 _ (by omega) b2 (fun j g1 g2=>?_) (fun j g1 g2=>?_)
   ·rcases Nat.lt_trichotomy j e with g3 | g3 | g3
    ·exact h3 j g1 g3
    ·subst g3; exact ⟨a,hu,Nat.le_refl _,h1,hh,h4 (j-1) (by omega) (by omega)⟩
    ·obtain ⟨u,k1,k2,k3⟩:=B.inn j g3 g2; exact ⟨u,k1,by omega,k3⟩
   ·by_cases g3:j<e
    ·exact h4 j g1 g3
    ·exact (B.out j (by omega) g2).trans (.step e a a hu (.refl a))
  ·exact ⟨h3,h4⟩
theorem Uz {l:List Ty} : ∀ (n a:Nat),l.length-a<=n->a<l.length->Prs l a
 | 0,a,h1,h2=>by omega
 | n+1,a,h1,h2=>by
  have IH : ∀ b,a<b->b<l.length->Prs l b:=fun b g1 g2=>Uz n b (by omega) g2
  have hk:=NQ h2
  have base : ∀ j,a<=j->j<a+1->Out l j a:=fun j g1 g2=>by
   have:j=a:=by omega
   subst this; exact .refl j
  cases hh:A3 (A1 l a).1 with
  | true=>
   rw [hh,cond_true] at hk;obtain ⟨r1,r2⟩:=QH h2 hh IH l.length (a+1) [] (by omega) (by omega) (fun j g1 g2=>by omega) base;exact ⟨by rw [hk]; exact r1,by rw [hk]; exact r2⟩
  | false=>
   rw [hh,cond_false] at hk;refine ⟨?_,by rw [hk]; exact base⟩;rw [hk]; intro j g1 g2;have g2:j<a+1:=g2;omega
theorem HG {l:List Ty} (h:0<l.length) (h0:AT l 0=some (-1)) (he:(kf l 0).2=l.length):Ord l:=by
 have B:=Uz l.length 0 (by omega) h;refine ⟨h0,fun i g1 g2=>?_⟩;obtain ⟨u,k1,k2,k3,k4,k5⟩:=B.inn i g1 (by omega);exact ⟨u,k1,k3,k4,k5⟩
theorem Q2 {l:List Ty} (h:0<l.length) (ho:(range l.length).all (okT l)=true):Ord l:=by
 have at' : ∀ i,i<l.length->okT l i=true:=fun i hi=>all_eq_true.1 ho i (mem_range.2 hi)
 refine ⟨?_,fun i g1 g2=>?_⟩
 ·have:=at' 0 h;unfold okT at this;rw [if_pos rfl] at this;simp only [anE,dcE] at this;exact this.2.1.1.1.2
 ·have:=at' i g2;unfold okT DV at this;rw [if_neg (by omega),anE] at this;have this:=this.2
  cases hu:AT l i with
  | none=>rw [hu] at this; cases this
  | some u=>
   rw [hu] at this;simp only [anE,dcE] at this;obtain ⟨⟨⟨⟨c1,c2⟩,c3⟩,c4⟩,_⟩:=this;obtain ⟨u,rfl⟩:=eq_ofNat_of_zero_le c1;unfold DM at c4;rw [hu] at c4;dsimp only at c4;have e:(i:Int)-1=((i-1:Nat):Int):=by omega
   rw [e] at c4;obtain ⟨y,k1,k2⟩:=M1 l u (i+1) (i-1) c4;have:u=y:=by omega
   subst this;exact ⟨u,rfl,by omega,c3,k2⟩
theorem Ord.around {l:List Ty} (H:Ord l) {i:Nat} (h1:0<i) (h2:i<l.length):DM l i=true:=by
 obtain ⟨u,k1,k2,k3,k4⟩:=H.up i h1 h2;unfold DM;rw [k1];dsimp only;have e:(i:Int)-1=((i-1:Nat):Int):=by omega
 rw [e];exact Q1 (i:=l.length) H.lt k4 (by omega) (i+1) (by omega)
/-! Maps. -/
theorem QE (x y:By) (v:Bool) : ∀ l:List (By×Bool),Cy .str (D1 .str l x v) y=if y=x then some v else Cy .str l y
 | []=>by
  show (match D9 .str y x with | true=>some v | false=>Cy .str [] y)=_
  by_cases h:y=x
  ·subst h;have:D9 .str y y=true:=beq_self_eq_true y;rw [this,if_pos rfl]
  ·have:D9 .str y x=false:=beq_false_of_ne h;rw [this,if_neg h]
 | e::l=>by
  unfold D1
  by_cases h:x=e.1
  ·subst h;simp only [D9,beq_self_eq_true];unfold Cy
   by_cases h2:y=e.1
   ·subst h2; simp [D9]
   ·simp only [D9,beq_false_of_ne h2,if_neg h2]
  ·have:D9 .str x e.1=false:=beq_false_of_ne h;rw [this];dsimp only;unfold Cy
   by_cases h2:y=e.1
   ·subst h2; simp [D9,Ne.symm h]
   ·have h3:D9 .str y e.1=false:=beq_false_of_ne h2;rw [h3];exact QE x y v l
theorem U7 : ∀ (l pre:RL) (seen:List (By×Bool)),(∀ nm,(Cy .str seen nm).getD false=true↔∃ z∈pre,z.lab.2.1=nm)->pre.Pairwise (fun y z=>Ha y.lab z.lab)->
  (HQ (pre++l) pre.length seen l=true↔(pre++l).Pairwise (fun y z=>Ha y.lab z.lab))
 | [],pre,seen,_,hp=>by rw [HQ,append_nil]; exact ⟨fun _=>hp,fun _=>rfl⟩
 | z::l,pre,seen,hs,hp=>by
  have hpg:EY (pre++z::l) pre.length z.lab.2.2.1=true↔∃ y,pre.getLast? = some y/\y.lab.2.2.1>=z.lab.2.2.1:=by
   cases hl:pre.getLast? with
   | none=>
    have:pre=[]:=by simpa using hl
    subst this;simp [EY]
   | some y=>
    have hne:pre≠[]:=by intro e; subst e; cases hl
    obtain ⟨m,hm⟩ : ∃ m,pre.length=m+1:=⟨pre.length-1,by have:=List.length_pos_iff.2 hne; omega⟩
    have hy:(pre++z::l)[m]? = some y:=by
     rw [List.getElem?_append_left (by omega),<-hl,List.getLast?_eq_getElem?,hm]; rfl
    rw [hm];unfold EY;dsimp only;rw [hy];simp
  have hR:(∀ y∈pre,Ha y.lab z.lab)↔¬((Cy .str seen z.lab.2.1).getD false||EY (pre++z::l) pre.length z.lab.2.2.1)=true:=by
   rw [Bool.or_eq_true,hs,hpg];constructor
   ·rintro h (⟨y,g1,g2⟩ | ⟨y,g1,g2⟩)
    ·exact (h y g1).2 g2
    ·have:=(h y (List.mem_of_getLast? g1)).1; omega
   ·intro h y hy;refine ⟨?_,fun e=>h (.inl ⟨y,hy,e⟩)⟩
    cases hl:pre.getLast? with
    | none=>
     have:pre=[]:=by simpa using hl
     subst this; cases hy
    | some w=>
     have h1 : ¬w.lab.2.2.1>=z.lab.2.2.1:=fun g=>h (.inr ⟨w,hl,g⟩)
     have hne:pre≠[]:=by intro e; subst e; cases hl
     have e:pre=pre.dropLast++[w]:=by
      rw [List.getLast?_eq_some_getLast hne] at hl;have:=(List.dropLast_concat_getLast hne).symm;rw [Option.some.inj hl] at this;exact this
     rw [e] at hy hp;rcases List.mem_append.1 hy with hy | hy
     ·have:=(List.pairwise_append.1 hp).2.2 y hy w (by simp);have:=this.1; omega
     ·simp at hy; subst hy; omega
  rw [HQ]
  by_cases hc:((Cy .str seen z.lab.2.1).getD false||EY (pre++z::l) pre.length z.lab.2.2.1)=true
  ·rw [if_pos hc];refine ⟨fun h=>(by cases h),fun h=>?_⟩;exact absurd hc (hR.1 fun y hy=>(List.pairwise_append.1 h).2.2 y hy z (by simp))
  ·rw [if_neg hc];have hall:=hR.2 hc;have hp2:(pre++[z]).Pairwise (fun y z=>Ha y.lab z.lab):=List.pairwise_append.2 ⟨hp,List.pairwise_singleton _ _,fun y hy w hw=>by simp at hw; subst hw; exact hall y hy⟩
   have ih:=U7 l (pre++[z]) (D1 .str seen z.lab.2.1 true) (fun nm=>by
    rw [QE]
    by_cases e:nm=z.lab.2.1
    ·rw [if_pos e]; simp [e]
    ·rw [if_neg e,hs];constructor
     ·rintro ⟨w,g1,g2⟩; exact ⟨w,by simp [g1],g2⟩
     ·rintro ⟨w,g1,g2⟩
      rcases List.mem_append.1 g1 with g1 | g1
      ·exact ⟨w,g1,g2⟩
      ·simp at g1; subst g1; exact absurd g2.symm e) hp2
   rw [append_assoc] at ih
   simpa using ih
theorem QD (zs:RL):HQ zs 0 [] zs=true↔zs.Pairwise (fun y z=>Ha y.lab z.lab):=by
 have:=U7 zs [] [] (fun nm=>by simp [Cy]) List.Pairwise.nil
 simpa using this
theorem F0 {R:Nat->Nat->Prop} : ∀ {l:List Nat},l.Pairwise (· < ·)->(l.Pairwise R↔∀ a∈l,∀ b∈l,a<b->R a b)
 | [],_=>by simp
 | x::l,h=>by
  rw [List.pairwise_cons] at h;rw [List.pairwise_cons,F0 h.2];constructor
  ·rintro ⟨h1,h2⟩ a ha b hb hab
   rcases mem_cons.1 ha with ea | ha'
   ·rcases mem_cons.1 hb with eb | hb'
    ·omega
    ·rw [ea]; exact h1 b hb'
   ·rcases mem_cons.1 hb with eb | hb'
    ·have:=h.1 a ha'; omega
    ·exact h2 a ha' b hb' hab
  ·intro g;exact ⟨fun b hb=>g x (by simp) b (by simp [hb]) (h.1 b hb),fun a ha b hb hab=>g a (by simp [ha]) b (by simp [hb]) hab⟩
theorem D4 {l:List Ty} {a s t j:Nat}:j∈KK l a s t↔(s<=j/\j<t)/\AT l j=some (a:Int):=by
 unfold KK;rw [List.mem_filter,List.mem_range'_1,dcE];constructor
 ·rintro ⟨h1,h2⟩; exact ⟨by omega,h2⟩
 ·rintro ⟨h1,h2⟩; exact ⟨by omega,h2⟩
theorem X3 (l:List Ty) (a s t:Nat):(KK l a s t).Pairwise (· < ·):=(List.pairwise_lt_range').filter _
def CD (l:List Ty):Prop:=∀ j,j<l.length->BV (A1 l j) ((KK l j (j+1) l.length).map (t2L l))=true/\∀ c∈KK l j (j+1) l.length,Dw (A1 l j).1 (A1 l c)=true
theorem Hd {l:List Ty} {a:Nat} (h:a<l.length):(t2L l a).lab=A1 l a:=by rw [Un h]; rfl
theorem Lq (k:Int) : ∀ ks:RL,AL k ks=true↔∀ z∈ks,Dw k z.lab=true/\An z=true
 | []=>by simp [AL]
 | z::ks=>by
  rw [AL,anE,anE,Lq k ks];constructor
  ·rintro ⟨h1,h2⟩ w hw
   rcases mem_cons.1 hw with e | hw'
   ·rw [e]; exact h1
   ·exact h2 w hw'
  ·intro h;exact ⟨h z (by simp),fun w hw=>h w (by simp [hw])⟩
theorem Lm {l:List Ty} {a:Nat} (h:a<l.length):An (t2L l a)=true↔BV (A1 l a) ((KK l a (a+1) l.length).map (t2L l))=true/\∀ c∈KK l a (a+1) l.length,Dw (A1 l a).1 (A1 l c)=true/\An (t2L l c)=true:=by
 rw [Un h,An,anE,Lq];constructor
 ·rintro ⟨h1,h2⟩
  refine ⟨h1,fun c hc=>?_⟩;have hcl:=(D4.1 hc).1.2;have:=h2 (t2L l c) (mem_map.2 ⟨c,hc,rfl⟩);rw [Hd hcl] at this;exact this
 ·rintro ⟨h1,h2⟩
  refine ⟨h1,fun z hz=>?_⟩;obtain ⟨c,hc,rfl⟩:=mem_map.1 hz;have hcl:=(D4.1 hc).1.2;rw [Hd hcl];exact h2 c hc
theorem VU {l:List Ty} (H:Ord l) (h0:0<l.length):An (t2L l 0)=true↔CD l:=by
 constructor
 ·intro h
  have all : ∀ j,j<l.length->An (t2L l j)=true:=by
   intro j
   induction j using strongRecOn with
   | ind j ih=>
    intro hj;rcases Nat.eq_zero_or_pos j with rfl | hp
    ·exact h
    ·obtain ⟨u,k1,k2,_⟩:=H.up j hp hj;exact (((Lm (by omega)).1 (ih u k2 (by omega))).2 j (D4.2 ⟨⟨by omega,hj⟩,k1⟩)).2
  intro j hj;have:=(Lm hj).1 (all j hj);exact ⟨this.1,fun c hc=>(this.2 c hc).1⟩
 ·intro h
  have all : ∀ n j,l.length-j<=n->j<l.length->An (t2L l j)=true:=by
   intro n
   induction n with
   | zero=>intro j g1 g2; omega
   | succ n ih=>
    intro j g1 g2;refine (Lm g2).2 ⟨(h j g2).1,fun c hc=>⟨(h j g2).2 c hc,?_⟩⟩;have:=(D4.1 hc).1;exact ih c (by omega) (by omega)
  exact all l.length 0 (by omega) h0
theorem Hl {l:List Ty} {i:Nat} (h:i<l.length):A1 l i=(l[i].1,l[i].2.1,l[i].2.2.1,l[i].2.2.2.1,l[i].2.2.2.2.2.1,()):=by unfold A1; rw [gtE h]
theorem Yx {l:List Ty} {a c:Nat} (hc:c<=l.length) (no:Int) (nm:By):VE (a:Int) no nm ((l.take c).drop (a+1))=true↔∀ k,a<k->k<c->AT l k=some (a:Int)->(A1 l k).2.2.1<no/\(A1 l k).2.1≠nm:=by
 have up : ∀ k (h:k<l.length),AT l k=some (l[k].2.2.2.2.1):=fun k h=>by unfold AT; rw [gtE h]; rfl
 unfold VE;rw [all_eq_true];constructor
 ·intro h k g1 g2 g3;have hk:k<l.length:=by omega
  have hm:l[k]∈(l.take c).drop (a+1):=by
   refine List.mem_iff_getElem?.2 ⟨k-(a+1),?_⟩;rw [List.getElem?_drop,show a+1+(k-(a+1))=k by omega,List.getElem?_take,if_pos g2,gtE hk]
  have:=h _ hm;rw [up k hk] at g3;rw [Option.some.inj g3,beq_self_eq_true,Bool.true_and] at this;rw [Hl hk];simp only [Bool.not_eq_true',Bool.or_eq_false_iff,decide_eq_false_iff_not,beq_eq_false_iff_ne] at this;show l[k].2.2.1<no/\l[k].2.1≠nm;exact ⟨by have:=this.1; omega,this.2⟩
 ·intro h o ho;obtain ⟨j,hj⟩:=List.mem_iff_getElem?.1 ho;rw [List.getElem?_drop,List.getElem?_take] at hj;split at hj
  ·rename_i hlt;have hk:a+1+j<l.length:=by omega
   rw [gtE hk] at hj;have e:=Option.some.inj hj
   by_cases hu:o.2.2.2.2.1=(a:Int)
   ·have:=h (a+1+j) (by omega) hlt (by rw [up _ hk,e,hu]);rw [Hl hk,e] at this;have this:o.2.2.1<no/\o.2.1≠nm:=this;have h1:decide (o.2.2.1>=no)=false:=dcF (by have:=this.1; omega);have h2:(o.2.1==nm)=false:=beq_false_of_ne this.2;rw [h1,h2]; simp
   ·rw [beq_false_of_ne hu]; rfl
  ·cases hj
theorem Rg {k:Int} (h:A3 k=true):k=4\/k=5:=by
 unfold A3 at h;rw [Bool.or_eq_true] at h;rcases h with h | h
 ·exact .inl (by simpa using h)
 ·exact .inr (by simpa using h)
theorem Afo {l:List Ty} (H:Ord l) {j:Nat} (h:A3 (A1 l j).1=false):KK l j (j+1) l.length=[]:=H1 fun c g1 g2 g3=>by
 obtain ⟨u,k1,k2,k3,_⟩:=H.up c (by omega) g2;rw [g3] at k1; injection k1 with k1
 have:j=u:=by omega
 subst this;rw [h] at k3; cases k3
theorem IF {l:List Ty} (H:Ord l) {j:Nat} (hj:j<l.length):BV (A1 l j) ((KK l j (j+1) l.length).map (t2L l))=true↔kmB (A1 l j)=true/\E0 l j=true/\((A1 l j).1=5->∀ c∈KK l j (j+1) l.length,∀ k∈KK l j (j+1) l.length,k<c->Ha (A1 l k) (A1 l c)):=by
 have hone:E0 l j = !((A1 l j).1==4&&(KK l j (j+1) l.length).length != 1):=by unfold E0; rw [NP,List.length_map]
 have hmsg:HQ ((KK l j (j+1) l.length).map (t2L l)) 0 [] ((KK l j (j+1) l.length).map (t2L l))=true↔∀ c∈KK l j (j+1) l.length,∀ k∈KK l j (j+1) l.length,k<c->Ha (A1 l k) (A1 l c):=by
  rw [QD,List.pairwise_map,F0 (X3 l j (j+1) l.length)];constructor
  ·intro h c hc k hk hkc;have:=h k hk c hc hkc;rw [Hd (D4.1 hk).1.2,Hd (D4.1 hc).1.2] at this;exact this
  ·intro h k hk c hc hkc;rw [Hd (D4.1 hk).1.2,Hd (D4.1 hc).1.2];exact h c hc k hk hkc
 rw [hone];have hk0:(A1 l j).1≠4->(A1 l j).1≠5->KK l j (j+1) l.length=[]:=fun h4 h5=>Afo H (by unfold A3; rw [beq_false_of_ne h4,beq_false_of_ne h5]; rfl)
 unfold BV kmB;rw [List.length_map];generalize A1 l j=x at hk0 ⊢
 by_cases a1:x.1=1\/x.1=2
 ·have h4:x.1≠4:=by rcases a1 with h | h<;>omega
  have h5:x.1≠5:=by rcases a1 with h | h<;>omega
  have h3:x.1≠3:=by rcases a1 with h | h<;>omega
  rw [if_pos a1,hk0 h4 h5,if_neg h3,dcT (show 1<=x.1/\x.1<=5 by rcases a1 with h | h<;>omega),beq_false_of_ne h4];simp [h5]
 by_cases a3:x.1=3
 ·have h4:x.1≠4:=by omega
  have h5:x.1≠5:=by omega
  rw [if_neg a1,if_pos a3,hk0 h4 h5,if_pos a3,dcT (show 1<=x.1/\x.1<=5 by omega),beq_false_of_ne h4];simp [h5]
 by_cases a4:x.1=4
 ·have h5:x.1≠5:=by omega
  rw [if_neg a1,if_neg a3,if_pos a4,if_neg a3,dcT (show 1<=x.1/\x.1<=5 by omega),a4];simp [h5]
 by_cases a5:x.1=5
 ·rw [if_neg a1,if_neg a3,if_neg a4,if_neg a3,dcT (show 1<=x.1/\x.1<=5 by omega),beq_false_of_ne a4]
  by_cases a6:x.2.2.2.2.1=0
  ·rw [if_neg (by rintro (h | h); exact h a5; exact h a6),hmsg];simp [a5,a6]
  ·rw [if_pos (.inr a6)];simp [a6]
 ·have a0 : ¬(1<=x.1/\x.1<=5):=by omega
  rw [if_neg a1,if_neg a3,if_neg a4,if_pos (.inl a5),dcF a0];simp
theorem Q0 {l:List Ty} (H:Ord l) {i u:Nat} (hi:0<i) (hl:i<l.length) (hu:AT l i=some (u:Int)) (hlt:u<i) (hh:A3 (A1 l u).1=true) :
  DV l i=true↔Dw (A1 l u).1 (A1 l i)=true/\((A1 l u).1=5->∀ k∈KK l u (u+1) l.length,k<i->Ha (A1 l k) (A1 l i)):=by
 have ha:=H.around hi hl;have hs:=Yx (l:=l) (a:=u) (c:=i) (by omega) (A1 l i).2.2.1 (A1 l i).2.1
 have hk:(∀ k∈KK l u (u+1) l.length,k<i->Ha (A1 l k) (A1 l i))↔∀ k,u<k->k<i->AT l k=some (u:Int)->(A1 l k).2.2.1<(A1 l i).2.2.1/\(A1 l k).2.1≠(A1 l i).2.1:=by
  constructor
  ·intro h k g1 g2 g3; exact h k (D4.2 ⟨⟨g1,by omega⟩,g3⟩) g2
  ·intro h k g1 g2;have:=D4.1 g1;exact h k this.1.1 g2 this.2
 rw [hk,<-hs];unfold DV Dw;rw [hu];dsimp only;rw [ntN,dcT (show 0<=(u:Int)/\(u:Int)<(i:Int) by omega),hh,ha];rcases Rg hh with h4 | h5
 ·rw [if_pos h4,if_neg (by omega)];simp [h4]
 ·rw [if_neg (by omega),if_pos h5];simp [h5]
theorem Fk (l:List Ty):LS l=AN l/\(AN l=true->(kf l 0).1=t2L l 0):=by
 have main : ∀ (H:Ord l),1<=l.length/\l.length<=30->(LS l=true↔AN l=true):=fun H hl=>by
  have h0:0<l.length:=by omega
  obtain ⟨e1,e2⟩:=H.end' h0;have hc:=P0 h0
  have hkm:CD l↔(∀ j,j<l.length->kmB (A1 l j)=true/\E0 l j=true)/\∀ j,0<j->j<l.length->DV l j=true:=by
   constructor
   ·intro h;refine ⟨fun j hj=>?_,fun j hp hj=>?_⟩
    ·have:=(IF H hj).1 (h j hj).1;exact ⟨this.1,this.2.1⟩
    ·obtain ⟨u,k1,k2,k3,_⟩:=H.up j hp hj;have hm:j∈KK l u (u+1) l.length:=D4.2 ⟨⟨k2,hj⟩,k1⟩;have hul:u<l.length:=by omega
     refine (Q0 H hp hj k1 k2 k3).2 ⟨(h u hul).2 j hm,fun h5 k hk hkj=>?_⟩;exact ((IF H hul).1 (h u hul).1).2.2 h5 j hm k hk hkj
   ·rintro ⟨h1,h2⟩ j hj
    have hcc : ∀ c∈KK l j (j+1) l.length,Dw (A1 l j).1 (A1 l c)=true/\((A1 l j).1=5->∀ k∈KK l j (j+1) l.length,k<c->Ha (A1 l k) (A1 l c)):=fun c hc=>by
     obtain ⟨⟨g1,g2⟩,g3⟩:=D4.1 hc;obtain ⟨u,k1,k2,k3,_⟩:=H.up c (by omega) g2;rw [g3] at k1; injection k1 with k1
     have:j=u:=by omega
     subst this;exact (Q0 H (by omega) g2 g3 k2 k3).1 (h2 c (by omega) g2)
    exact ⟨(IF H hj).2 ⟨(h1 j hj).1,(h1 j hj).2,fun h5 c hc k hk hkc=>(hcc c hc).2 h5 k hk hkc⟩,fun c hc=>(hcc c hc).1⟩
  unfold LS AN BM;rw [dcT hl,dcT H.zero,e1,e2,Hd h0];have hcnt:decide (Ao (t2L l 0)<=30)=true:=dcT (by rw [<-e2]; omega);rw [hcnt];simp only [Bool.true_and,Bool.and_true,anE,all_eq_true,mem_range,dcE,beq_self_eq_true,true_and,VU H h0,hkm];constructor
  ·rintro ⟨⟨h1,h2⟩,h3⟩
   have r:=h1 0 h0;unfold okT at r;rw [if_pos rfl] at r;simp only [anE,dcE] at r;obtain ⟨r0,⟨⟨⟨r1,r2⟩,r3⟩,r4⟩,r5⟩:=r;refine ⟨⟨⟨⟨⟨r1,r3⟩,r4⟩,r5⟩,⟨fun j hj=>⟨?_,h2 j hj⟩,fun j hp hj=>?_⟩⟩,h3⟩
   ·have:=h1 j hj;unfold okT at this;rw [anE] at this;exact this.1
   ·have:=h1 j hj;unfold okT at this;rw [if_neg (by omega),anE] at this;exact this.2
  ·rintro ⟨⟨⟨⟨⟨r1,r3⟩,r4⟩,r5⟩,⟨h1,h2⟩⟩,h3⟩
   refine ⟨⟨fun j hj=>?_,fun j hj=>(h1 j hj).2⟩,h3⟩;unfold okT;rw [(h1 j hj).1,Bool.true_and]
   by_cases hz:j=0
   ·rw [if_pos hz];simp only [anE,dcE];exact ⟨⟨⟨⟨r1,H.zero⟩,r3⟩,r4⟩,r5⟩
   ·rw [if_neg hz]; exact h2 j (by omega) hj
 have hS:LS l=true->Ord l/\1<=l.length/\l.length<=30:=fun h=>by
  unfold LS at h;simp only [anE,dcE] at h;exact ⟨Q2 (by omega) h.1.1.2,h.1.1.1⟩
 have hK:AN l=true->Ord l/\1<=l.length/\l.length<=30:=fun h=>by
  unfold AN at h;simp only [anE,dcE,beq_iff_eq] at h;exact ⟨HG (by omega) h.1.1.2 h.1.2,h.1.1.1⟩
 refine ⟨?_,fun h=>((hK h).1.end' (by have:=(hK h).2; omega)).2⟩
 cases h1:LS l with
 | true=>obtain ⟨H,hl⟩:=hS h1; exact ((main H hl).1 h1).symm
 | false=>
  cases h2:AN l with
  | false=>rfl
  | true=>obtain ⟨H,hl⟩:=hK h2; rw [(main H hl).2 h2] at h1; cases h1
def Pu:Gm
 | [.agg [.sl TCd l],.j i],[]=>.need (decide (0<=i/\i.toNat<l.length/\l.length<=4000000000)&&CL l i.toNat&&nmL l) (.leaf (.b (DV l i.toNat),[]))
 | _,_=>.no
def Fg:LoopEnt:=⟨103,[1,2,5,6],[],[4],fun
 | ([.j i,.ptr 0 0,.ptr 1 0,.j k],[some (.box [.sl TCd l]),some (.box (Ly y0 y1 y2 y3 y4 y5))])=>.need (decide (0<=k/\k<=i/\i.toNat<l.length/\l.length<=4000000000)) (.br (VE y4 y2 y1 ((l.take i.toNat).drop k.toNat)) (.leaf (.exit 0,([],[]))) (.leaf (.ret,([.b false],[]))))
 | _=>.no⟩
abbrev Afn:FuncId->Option Ent:=Aa [(193,.rd1 FZ),(194,.rd1 IT),(195,.rd1 L6),(115,.rd1 A0)]
theorem HY (l:List Ty) (y0:Int) (y1:By) (y2:Int) (y3:Bool) (y4 y5:Int) (i k:Int):At prog Afn (Aa [(9,Fg)]) 0 (body f155 0) Fg ([.j i,.ptr 0 0,.ptr 1 0,.j k],[some (.box [.sl TCd l]),some (.box (Ly y0 y1 y2 y3 y4 y5))]) =
 ((ifB (decide (k<i)) (ifT (decide (0<=k)&&decide (k<(↑l.length:Int))) (Ak l[k.toNat]? fun z=>ifB (z.2.2.2.2.1==y4) (ifB (decide (z.2.2.1>=
 y2)) rF (ifB (z.2.1==y1) rF (some (Ex.normal,[V.j i,V.ptr 0 0,V.ptr 1 0,V.i .i64
 (i64.wrap (k+1))],[some (Blk.box [V.sl TCd l]),some (Blk.box (Ly y0 y1 y2 y3 y4 y5))])))) (some (Ex.normal,[V.i
 .i64 i,V.ptr 0 0,V.ptr 1 0,V.j (i64.wrap (k+1))],[some (Blk.box [V.sl TCd l]),some (Blk.box (Ly y0 y1 y2 y3 y4 y5))])))) (some (Ex.exit 0,[],[]))):_):=by kernel_rfl
theorem QR (l:List Ty) (i:Int):Aw prog Afn (Aa [(9,Fg)]) f155 [.agg [.sl TCd l],.j i] [] =
 ((ifT (decide (0<=i)&&decide (i<(↑l.length:Int))) (Ak l[i.toNat]? fun z=>ifB (decide (z.2.2.2.2.1<(0:Int))) nF (ifB (decide
 (z.2.2.2.2.1>=i)) nF (ifT (decide ((0:Int)<=z.2.2.2.2.1)&&decide (z.2.2.2.2.1<(↑l.length:Int))) (Ak
 l[toNat z.2.2.2.2.1]? fun z_1=>ifB (!A3 z_1.1) nF (ifT (decide (0<=i/\i.toNat<l.length/\l.length<=4000000000)&&
 CL l i.toNat) (ifB (!DM l i.toNat) nF (ifT (decide ((0:Int)<=z.2.2.2.2.1)&&decide (z.2.2.2.2.1<(↑l.length:Int)))
 (Ak l[toNat z.2.2.2.2.1]? fun z_2=>ifB (z_2.1==(4:Int)) (ifB (z.2.1==Ag UInt8) (ifB (z.2.2.1==(0:Int)) (some (V.b
 !z.2.2.2.1,[])) nF) nF) (ifT (decide (List.length z.2.1<=maxI)) (ifB (!FW z.2.1) nF (ifB
 (!decide ((1:Int)<=z.2.2.1/\z.2.2.1<=(30:Int))) nF (ifT (decide (0<=i64.wrap (z.2.2.2.2.1+(1:Int))/\
 i64.wrap (z.2.2.2.2.1+(1:Int))<=i/\i.toNat<l.length/\l.length<=4000000000)) (ifB (VE z.2.2.2.2.1 z.2.2.1 z.2.1
 (drop (i64.wrap (z.2.2.2.2.1+(1:Int))).toNat (take i.toNat l))) (some (V.b true,[])) nF)))))))))))))):_):=by kernel_rfl
theorem Wv:As prog Afn (Aa [(9,Fg)]) 0 (f155.body.getD .skip):=by
 refine Am (a:=body f155 0) (by kernel_rfl) fun d ex d' h=>?_
 unfold Fg at h;dsimp only at h;split at h
 ·rename_i i k l y0 y1 y2 y3 y4 y5;obtain ⟨hc,hx⟩:=Ad h;clear h;obtain ⟨h0,h1,h2,h3⟩:=of_decide_eq_true hc;obtain ⟨k,rfl⟩:=eq_ofNat_of_zero_le h0;obtain ⟨i,rfl⟩:=eq_ofNat_of_zero_le (by omega:0<=i);simp only [ntN] at h2 hx;have hM:=mxI;have hlen:(l.take i).length=i:=by rw [List.length_take]; omega
  refine B3 (l:=l.take i) (fun o:Ty=>!(o.2.2.2.2.1==y4&&(decide (o.2.2.1>=y2)||o.2.1==y1))) (fun k=>([.j (i:Int),.ptr 0 0,.ptr 1 0,.j (k:Int)],[some (.box [.sl TCd l]),some (.box (Ly y0 y1 y2 y3 y4 y5))])) (ex:=(.exit 0,([],[]))) (rt:=(.ret,([.b false],[]))) (by simp) (by simp) (fun n hn=>?_) ?_ ((l.take i).length-k) k (by rw [hlen]; omega) ex d' hx
  ·rw [hlen] at hn;have hnl:n<l.length:=by omega
   have hr:=HY l y0 y1 y2 y3 y4 y5 i n;rw [Ae (dcT (by omega)),T2 (by omega)] at hr;simp only [ntN,gtE hnl,Ai,Ap (n:=n) (by omega)] at hr;refine hr.trans ?_;rw [List.getElem_take];cases l[n].2.2.2.2.1==y4<;>cases decide (l[n].2.2.1>=y2)<;>cases l[n].2.1==y1<;>rfl
  ·have hr:=HY l y0 y1 y2 y3 y4 y5 i i;rw [Ac (dcF (by omega))] at hr;rw [hlen];exact hr
 ·cases h
theorem Te (l:List Ty) (i:Int) (hc:0<=i/\i.toNat<l.length/\l.length<=4000000000) (hs:CL l i.toNat=true) (hn:nmL l=true):Aw prog Afn (Aa [(9,Fg)]) f155 [.agg [.sl TCd l],.j i] []=some (.b (DV l i.toNat),[]):=by
 rw [QR];obtain ⟨h0,h1,h2⟩:=hc;obtain ⟨i,rfl⟩:=eq_ofNat_of_zero_le h0;simp only [ntN] at h1 hs;have hM:=mxI;have hu:AT l i=some (l[i].2.2.2.2.1):=by unfold AT; rw [gtE h1]; rfl
 have hlb:=Hl h1;have hnm:l[i].2.1.length<=maxI:=of_decide_eq_true (all_eq_true.1 hn _ (getElem_mem h1));rw [T2 (by omega)];simp only [ntN,gtE h1,Ai];unfold DV;rw [hu,hlb];dsimp only
 by_cases a1:l[i].2.2.2.2.1<0
 ·rw [Ae (dcT a1),dcF (by omega)]; rfl
 rw [Ac (dcF a1)]
 by_cases a2:l[i].2.2.2.2.1>=(i:Int)
 ·rw [Ae (dcT a2),dcF (by omega)]; rfl
 obtain ⟨u,hu2⟩:=eq_ofNat_of_zero_le (by omega:0<=l[i].2.2.2.2.1);rw [hu2] at a2 ⊢;have hul:u<l.length:=by omega
 have hg:(decide ((0:Int)<=(u:Int))&&decide ((u:Int)<(l.length:Int)))=true:=by simp only [anE,dcE]; omega
 rw [Ac (dcF a2),dcT (show 0<=(u:Int)/\(u:Int)<(i:Int) by omega),hg];simp only [ntN,gtE hul,Ai,CP];rw [Hl hul];dsimp only
 cases A3 l[u].1 with
 | false=>rfl
 | true=>
  rw [Bool.not_true,A6,Ab (by rw [anE]; exact ⟨dcT ⟨by omega,h1,h2⟩,hs⟩)]
  cases DM l i with
  | false=>rfl
  | true=>
   rw [Bool.not_true,A6]
   by_cases a4:l[u].1=4
   ·rw [Ae (by rw [a4]; rfl),if_pos a4];cases l[i].2.1==Ag UInt8<;>cases l[i].2.2.1==0<;>rfl
   ·rw [Ac (beq_false_of_ne a4),if_neg a4,Ab (dcT hnm),Ap (n:=u) (by omega)];have d1:decide (1<=l[i].2.2.1/\l[i].2.2.1<=30)=(decide (1<=l[i].2.2.1)&&decide (l[i].2.2.1<=30)):=decide_and ..;rw [d1,Ab (dcT ⟨by omega,by omega,h1,h2⟩),ntN];cases FW l[i].2.1<;>cases (decide (1<=l[i].2.2.1)&&decide (l[i].2.2.1<=30))<;>cases VE (u:Int) l[i].2.2.1 l[i].2.1 ((l.take i).drop (u+1))<;>rfl
theorem Ah3:Af prog 155 (Ent.rd1 Pu).F:=by
 refine fcK (kc func193 Pv (kc func194 Z5 (kc func195 Ajw (kc func115 Ia KnowsL.nil)))).knows (Λ:=(Aa [(9,Fg)])) func155 fun vs bs r hq=>?_
 unfold Ent.F Pu at hq;dsimp only at hq;split at hq
 ·rename_i l i;obtain ⟨hc,hx⟩:=Ad hq;rw [anE,anE] at hc;exact ⟨Wv,(Te l i (of_decide_eq_true hc.1.1) hc.1.2 hc.2).trans hx⟩
 ·cases hq
instance decTy0:DecidableEq (Bool×Int×Int×Unit):=inferInstance
instance decTy:DecidableEq Ty:=inferInstance
def GI:LoopEnt:=⟨105,[1,13,14,15],[1],[2],fun
 | ([.ptr 0 0,.sl TCd q,.j m,.j i],[some (.box [.sl TCd l])])=>.need (decide (0<=i/\i.toNat<=l.length/\m=l.length/\eqT (List Ty) q l/\l.length<=4000000000)&&nmL l&&CL l i.toNat) (.br (((range l.length).drop i.toNat).all (okT l)) (.leaf (.exit 0,([.ptr 0 0],[some (.box [.sl TCd l])]))) (.leaf (.ret,([.b false],[]))))
 | _=>.no⟩
def Im:LoopEnt:=⟨105,[1,83,84,85],[1],[2],fun
 | ([.ptr 0 0,.sl TCd q,.j m,.j i],[some (.box [.sl TCd l])])=>.need (decide (0<=i/\i.toNat<=l.length/\m=l.length/\eqT (List Ty) q l/\l.length<=4000000000)) (.br (((range l.length).drop i.toNat).all (E0 l)) (.leaf (.exit 2,([.ptr 0 0],[some (.box [.sl TCd l])]))) (.leaf (.ret,([.b false],[]))))
 | _=>.no⟩
abbrev PL:FuncId->Option Ent:=Aa [(115,.rd1 A0),(155,.rd1 Pu),(156,.rd1 Kw),(119,.rd1 DD),(157,.rd1 SG)]
theorem Oa (l q:List Ty) (m i:Int):At prog PL (Aa [(4,GI),(12,Im)]) 0 (body f114 0) GI ([.ptr 0 0,.sl TCd q,.j m,.j i],[some (.box [.sl TCd l])]) =
 ((ifB (decide (i<m)) (ifT (decide (0<=i)&&decide (i<(↑q.length:Int))) (Ak q[i.toNat]? fun z=>shr z.2.2 fun sh4=>shr sh4.2.2.2 fun sh3=>shr (ifB
 (decide (i>0)) (ifT (decide (0<=i/\i.toNat<l.length/\l.length<=4000000000)&&CL l i.toNat&&nmL l) (ifB (!DV l i.toNat) rF (some (Ex.normal,[V.ptr 0 0,V.sl TCd q,V.j m,V.j (i64.wrap (i+1))],[some (Blk.box [V.sl TCd l])])))) (some (Ex.normal,[V.ptr 0 0,
 V.sl TCd q,V.j m,V.j (i64.wrap (i+1))],[some (Blk.box [V.sl TCd l])]))) fun sh2=>shr (ifB (i==0) (ifB (z.1 != (5:Int)) rF (ifB (sh4.2.2.1 != (-1:Int)) rF (ifB (!z.2.1==Ag UInt8) rF (ifB (sh4.1 != (0 :
 Int)) rF (ifB sh4.2.1 rF sh2))))) sh2) fun sh1=>ifB (!decide ((1:Int)<=z.1/\z.1<=(5:Int)))
 rF (ifB (z.1==(3:Int)) (ifB (!decide ((0:Int)<=sh3.1/\sh3.1<=(20:Int))) rF (ifB (z.1 != (3
 : Int)) (ifB (sh3.1 != (0:Int)) rF sh1) sh1)) (ifB (z.1 != (3:Int)) (ifB (sh3.1 != (0:Int)) rF
 sh1) sh1)))) (some (Ex.exit 0,[V.ptr 0 0],[some (Blk.box [V.sl TCd l])]))):_):=by kernel_rfl
theorem NZ (l q:List Ty) (m i:Int):At prog PL (Aa [(4,GI),(12,Im)]) 0 (body f114 1) Im ([.ptr 0 0,.sl TCd q,.j m,.j i],[some (.box [.sl TCd l])]) =
 ((ifB (decide (i<m)) (ifT (decide (0<=i)&&decide (i<(↑q.length:Int))) (Ak q[i.toNat]? fun z=>ifB (z.1==(4:Int)) (ifT (decide (0<=i/\i.toNat<l.length
 /\ l.length<=4000000000)) (ifB ((↑(Bt l i.toNat).length:Int) != (1:Int)) rF (some (Ex.normal,[V.ptr 0 0,V.sl TCd q,V.i
 .i64 m,V.j (i64.wrap (i+1))],[some (Blk.box [V.sl TCd l])])))) (some (Ex.normal,[V.ptr 0 0,V.sl TCd q,V.j m,V.j (i64.wrap (i +
 1))],[some (Blk.box [V.sl TCd l])])))) (some (Ex.exit 2,[V.ptr 0 0],[some (Blk.box [V.sl TCd l])]))):_):=by kernel_rfl
theorem Aei (l:List Ty):Aw prog PL (Aa [(4,GI),(12,Im)]) f114 [.agg [.sl TCd l]] [] =
 ((ifB (!decide (1<=(↑l.length:Int)/\(↑l.length:Int)<=(30:Int))) nF (ifT (decide ((0:Int)<=(0:Int)/\0<=l.length/\(↑l.length :
 Int)=(↑l.length:Int)/\eqT (List Ty) l l/\l.length<=4000000000)&&nmL l&&CL l 0) (ifB ((drop 0 (range l.length)).all (okT
 l)) (ifT (decide ((0:Int)<=(0:Int)/\0<=l.length/\(↑l.length:Int)=(↑l.length:Int)/\eqT (List Ty) l l/\l.length<=4000000000)) (ifB
 ((drop 0 (range l.length)).all (E0 l)) (ifT (decide ((0:Int)<=(0:Int)/\0<l.length/\l.length<=4000000000)) (ifT (decide
 (Ar (take (t2L l 0).kids.length (drop 0 (t2L l 0).kids))+1<=1000000)) (some (V.b (decide ((↑(Co (take (t2L
 l 0).kids.length (drop 0 (t2L l 0).kids))+bif A3 (t2L l 0).lab.1 then 1 else 0):Int)<=(5:Int))),[]))))
 nF)) nF))):_):=by kernel_rfl
theorem Sb {l:List Ty} {i:Nat} (h:CL l i=true) {u:Int} (hu:AT l i=some u) (hlt:u<(i:Int)):CL l (i+1)=true:=by
 unfold CL at h ⊢;rw [List.range_succ,List.all_append,h,Bool.true_and,List.all_cons,List.all_nil,Bool.and_true,hu];exact dcT hlt
theorem Ahj {l:List Ty} {i:Nat} (h:okT l i=true) : ∃ u,AT l i=some u/\u<(i:Int):=by
 unfold okT at h;rw [anE] at h;have h:=h.2
 by_cases hz:i=0
 ·subst hz;rw [if_pos rfl] at h;simp only [anE,dcE] at h;exact ⟨-1,h.1.1.1.2,by omega⟩
 ·rw [if_neg hz] at h;unfold DV at h
  cases hu:AT l i with
  | none=>rw [hu] at h; cases h
  | some u=>
   rw [hu] at h;simp only [anE,dcE] at h;exact ⟨u,rfl,h.1.1.1.2⟩
theorem ZY (l:List Ty) (hl:l.length<=4000000000) (hn:nmL l=true) (i:Nat) (hi:i<l.length) (hs:CL l i=true) :
  At prog PL (Aa [(4,GI),(12,Im)]) 0 (body f114 0) GI ([.ptr 0 0,.sl TCd l,.j (l.length:Int),.j (i:Int)],[some (.box [.sl TCd l])])=some (bif okT l i then (.normal,([.ptr 0 0,.sl TCd l,.j (l.length:Int),.j ((i+1:Nat):Int)],[some (.box [.sl TCd l])])) else (.ret,([.b false],[]))):=by
 have hM:=mxI;have hr:=Oa l l l.length i;dsimp only [shr] at hr;rw [Ae (dcT (by omega)),T2 (by omega)] at hr;simp only [ntN,gtE hi,Ai,Ap (n:=i) (by omega)] at hr;refine hr.trans ?_;clear hr
 have hc:(decide ((0:Int)<=(i:Int)/\i<l.length/\l.length<=4000000000)&&CL l i&&nmL l)=true:=by
  rw [hs,hn,dcT (show (0:Int)<=(i:Int)/\i<l.length/\l.length<=4000000000 from ⟨by omega,hi,hl⟩)]; rfl
 rw [hc]
 have hkm:kmB (A1 l i)=(decide (1<=l[i].1/\l[i].1<=5)&&(bif l[i].1==3 then decide (0<=l[i].2.2.2.2.2.1/\l[i].2.2.2.2.2.1<=20) else l[i].2.2.2.2.2.1==0)):=by
  rw [Hl hi];unfold kmB;dsimp only
  by_cases h3:l[i].1=3
  ·rw [if_pos h3,h3]; rfl
  ·rw [if_neg h3,beq_false_of_ne h3]; rfl
 unfold okT;rw [hkm];unfold bne
 by_cases hz:i=0
 ·subst hz
  have hu:decide (AT l 0=some (-1))=(l[0].2.2.2.2.1==-1):=by
   unfold AT;rw [gtE hi]
   by_cases h1:l[0].2.2.2.2.1 = -1
   ·rw [map_some,h1]; simp
   ·rw [beq_false_of_ne h1]; exact dcF (fun h=>h1 (Option.some.inj h))
  rw [if_pos rfl,Hl hi,hu];simp only [show (((0:Nat):Int)==0)=true from rfl,show decide (((0:Nat):Int)>0)=false from rfl];have hnil:(l[0].2.1==([]:By))=(l[0].2.1==Ag UInt8):=rfl;rw [hnil];generalize decide (1<=l[0].1/\l[0].1<=5)=K;generalize (l[0].1==3)=c3;generalize (l[0].1==5)=c5;generalize decide (0<=l[0].2.2.2.2.2.1/\l[0].2.2.2.2.2.1<=20)=M;generalize (l[0].2.2.2.2.2.1==0)=m0;generalize (l[0].2.2.2.2.1==-1)=u0;generalize (l[0].2.1==Ag UInt8)=nm;generalize (l[0].2.2.1==0)=no;generalize l[0].2.2.2.1=mu;cases K<;>cases c3<;>cases c5<;>cases M<;>cases m0<;>cases u0<;>cases nm<;>cases no<;>cases mu<;>rfl
 ·rw [if_neg hz];have h0:((i:Int)==0)=false:=beq_false_of_ne (by omega);have h1:decide ((i:Int)>0)=true:=dcT (by omega);rw [h0,h1];generalize decide (1<=l[i].1/\l[i].1<=5)=K;generalize (l[i].1==3)=c3;generalize decide (0<=l[i].2.2.2.2.2.1/\l[i].2.2.2.2.2.1<=20)=M;generalize (l[i].2.2.2.2.2.1==0)=m0;generalize DV l i=p;cases K<;>cases c3<;>cases M<;>cases m0<;>cases p<;>rfl
theorem Lu {n i:Nat} (h:i<n):(range n).drop i=i::(range n).drop (i+1):=by
 rw [drop_eq_getElem_cons (by simpa using h)]; simp
theorem Rl (l:List Ty) (hl:l.length<=4000000000) (hn:nmL l=true) : ∀ (j i:Nat),i+j=l.length->CL l i=true->∀ ex d,(Br.br (((range l.length).drop i).all (okT l)) (.leaf (.exit 0,([.ptr 0 0],[some (.box [.sl TCd l])]))) (.leaf (.ret,([.b false],[]))):Br (Ex×Dt)).run=some (ex,d)->
  Runs prog PL (Aa [(4,GI),(12,Im)]) 0 (body f114 0) GI ([.ptr 0 0,.sl TCd l,.j (l.length:Int),.j (i:Int)],[some (.box [.sl TCd l])]) ex d
 | 0,i,hi,hs,ex,d,h=>by
  have hr:=Oa l l l.length i;dsimp only [shr] at hr;rw [Ac (dcF (by omega))] at hr;have e1:(range l.length).drop i=[]:=drop_eq_nil_of_le (by simp; omega);rw [e1] at h;obtain ⟨rfl,rfl⟩:=lfP h;exact stp hr
 | j+1,i,hi,hs,ex,d,h=>by
  have hr:=ZY l hl hn i (by omega) hs;rw [Lu (by omega),List.all_cons] at h
  cases hk:okT l i with
  | true=>
   rw [hk,cond_true] at hr;rw [hk,Bool.true_and] at h;obtain ⟨u,hu,hlt⟩:=Ahj hk;exact sts hr (Rl l hl hn j (i+1) (by omega) (Sb hs hu hlt) ex d h)
  | false=>
   rw [hk,cond_false] at hr;rw [hk,Bool.false_and] at h;obtain ⟨rfl,rfl⟩:=lfP h;exact stp hr
theorem Ais : ∀ d e d',(GI.L d).run=some (e,d')->Runs prog PL (Aa [(4,GI),(12,Im)]) 0 (body f114 0) GI d e d':=fun d ex d' h=>by
 unfold GI at h;dsimp only at h;split at h
 ·rename_i q m i l;obtain ⟨hc,hx⟩:=Ad h;clear h;rw [anE,anE] at hc;obtain ⟨⟨hc,hn⟩,hs⟩:=hc;obtain ⟨h0,h1,rfl,h3,h4⟩:=of_decide_eq_true hc;have h3:q=l:=h3;subst h3;obtain ⟨i,rfl⟩:=eq_ofNat_of_zero_le h0;simp only [ntN] at h1 hs hx;exact Rl _ h4 hn _ i (Nat.add_sub_of_le h1) hs ex d' hx
 ·cases h
theorem Air : ∀ d e d',(Im.L d).run=some (e,d')->Runs prog PL (Aa [(4,GI),(12,Im)]) 0 (body f114 1) Im d e d':=fun d ex d' h=>by
 unfold Im at h;dsimp only at h;split at h
 ·rename_i q m i l;obtain ⟨hc,hx⟩:=Ad h;clear h;obtain ⟨h0,h1,rfl,h3,h4⟩:=of_decide_eq_true hc;have h3:q=l:=h3;subst h3;obtain ⟨i,rfl⟩:=eq_ofNat_of_zero_le h0;simp only [ntN] at h1 hx;have hM:=mxI;refine B3 (l:=range q.length) (E0 q) (fun i=>([.ptr 0 0,.sl TCd q,.j (q.length:Int),.j (i:Int)],[some (.box [.sl TCd q])])) (ex:=(.exit 2,([.ptr 0 0],[some (.box [.sl TCd q])]))) (rt:=(.ret,([.b false],[]))) (by simp) (by simp) (fun n hn=>?_) ?_ (q.length-i) i (by simp; omega) ex d' hx
  ·have hn:n<q.length:=by simpa using hn
   have hr:=NZ q q q.length n;rw [Ae (dcT (by omega)),T2 (by omega)] at hr;simp only [ntN,gtE hn,Ai,Ap (n:=n) (by omega)] at hr;refine hr.trans ?_;rw [Ab (dcT ⟨by omega,hn,h4⟩),List.getElem_range]
   have e1:(((Bt q n).length:Int) != 1)=((Bt q n).length != 1):=by
    by_cases h:(Bt q n).length=1
    ·rw [h]; rfl
    ·have h2:((Bt q n).length:Int)≠1:=by omega
     unfold bne;rw [beq_false_of_ne h,beq_false_of_ne h2]
   rw [e1];unfold E0;rw [Hl hn];dsimp only;cases q[n].1==4<;>cases (Bt q n).length != 1<;>rfl
  ·have hr:=NZ q q q.length q.length;rw [Ac (dcF (by omega))] at hr;simp only [List.length_range];exact hr
 ·cases h
theorem Ak4:As prog PL (Aa [(4,GI),(12,Im)]) 0 (f114.body.getD .skip):=
 LoopsI.loops (.cons (a:=body f114 0) (by kernel_rfl) Ais (.cons (a:=body f114 1) (by kernel_rfl) Air .nil)) (by kernel_rfl)
theorem Aiq (l:List Ty) (h1:l.length<=4000000000) (hn:nmL l=true):Aw prog PL (Aa [(4,GI),(12,Im)]) f114 [.agg [.sl TCd l]] []=some (.b (AN l),[]):=by
 rw [Aei,<- (Fk l).1];have hq:=Fk l;have hu0:CL l 0=true:=rfl;have d0:decide ((0:Int)<=0/\0<=l.length/\(l.length:Int)=(l.length:Int)/\eqT (List Ty) l l/\l.length<=4000000000)=true:=dcT ⟨by omega,by omega,rfl,rfl,h1⟩;rw [d0,hn,hu0,drop_zero,drop_zero,take_length];have hle:decide (1<=(l.length:Int)/\(l.length:Int)<=30)=decide (1<=l.length/\l.length<=30):=decide_eq_decide.2 (by omega);rw [hle];have hdp:Co (t2L l 0).kids+(bif A3 (t2L l 0).lab.1 then 1 else 0)=BN (t2L l 0):=N0 _;have hd5:decide ((BN (t2L l 0):Int)<=5)=decide (BN (t2L l 0)<=5):=decide_eq_decide.2 (by omega);rw [hdp,hd5];unfold LS
 cases a1:decide (1<=l.length/\l.length<=30) with
 | false=>rfl
 | true=>
  have a1:=of_decide_eq_true a1
  cases a2:(range l.length).all (okT l) with
  | false=>rfl
  | true=>
   have H:=Q2 (by omega) a2;have he:=H.end' (by omega);have hc:=P0 (l:=l) (a:=0) (by omega);have hk:=Bk (t2L l 0);rw [he.1,he.2] at hc;have d1:decide ((0:Int)<=0/\0<l.length/\l.length<=4000000000)=true:=dcT ⟨by omega,by omega,h1⟩;have d2:decide (Ar (t2L l 0).kids+1<=1000000)=true:=dcT (by omega);rw [d1,d2];cases (range l.length).all (E0 l)<;>rfl
theorem Qm:Af prog 114 (Ent.rd1 Ge).F:=by
 refine fcK (kc func115 Ia (kc func155 Ah3 (kc func156 Z4 (kc func119 IS (kc func157 Aj4 KnowsL.nil))))).knows (Λ:=(Aa [(4,GI),(12,Im)])) func114 fun vs bs r hq=>?_
 unfold Ent.F Ge at hq;dsimp only at hq;split at hq
 ·rename_i l;obtain ⟨hc,hx⟩:=Ad hq;rw [anE] at hc;exact ⟨Ak4,(Aiq l (of_decide_eq_true hc.1) hc.2).trans hx⟩
 ·cases hq
abbrev Nd:=Int×By×Int×Int×Bool×Unit
def Cm (n:Int):Bool:=decide (-1000000000<=n)&&decide (n<=1000000000)
def upN (l:List Nd) (e:Nat):Option Int:=(l[e]?).map fun x=>x.2.2.2.1
def noN (l:List Nd) (e:Nat):Option Int:=(l[e]?).map fun x=>x.2.2.1
def YY (l:List Nd) (a e:Nat):Bool:=upN l e==some (a:Int)
def EZ:Gm
 | [.j n],[]=>.leaf (.b (Cm n),[])
 | _,_=>.no
theorem Wf (n:Int):Aw prog (Aa [(125,.rd1 A0)]) (Aa []) f218 [.j n] []=(.leaf (.b (Cm n),[]):Br (V×List (Option Blk))).run:=by
 have e:Aw prog (Aa [(125,.rd1 A0)]) (Aa []) f218 [.j n] []=((some (V.b (decide ((-1000000000:Int)<=n/\n<=1000000000)),[])):_):=by kernel_rfl
 rw [e];clear e;unfold Cm;rw [decide_and];rfl
theorem Zn:Af prog 218 (Ent.rd1 EZ).F:=by
 refine fcK (kc func125 Dd KnowsL.nil).knows (Λ:=Aa []) func218 fun vs bs r' hq=>?_
 unfold Ent.F EZ at hq;dsimp only at hq;split at hq
 ·rename_i n;exact ⟨Ah _,(Wf n).trans hq⟩
 ·cases hq
theorem Wx (n:Int):Aw prog (Aa [(115,.rd1 A0)]) (Aa []) f196 [.j n] []=(.leaf (.b (Cm n),[]):Br (V×List (Option Blk))).run:=by
 have e:Aw prog (Aa [(115,.rd1 A0)]) (Aa []) f196 [.j n] []=((some (V.b (decide ((-1000000000:Int)<=n/\n<=1000000000)),[])):_):=by kernel_rfl
 rw [e];clear e;unfold Cm;rw [decide_and];rfl
theorem UF:Af prog 196 (Ent.rd1 EZ).F:=by
 refine fcK (kc func115 Ia KnowsL.nil).knows (Λ:=Aa []) func196 fun vs bs r' hq=>?_
 unfold Ent.F EZ at hq;dsimp only at hq;split at hq
 ·rename_i n;exact ⟨Ah _,(Wx n).trans hq⟩
 ·cases hq
theorem Adb {l:List Nd} {a e:Nat} (h:l.length<=e):YY l a e=false:=by
 unfold YY upN;rw [List.getElem?_eq_none h]; rfl
theorem Ada {l:List Nd} {a e:Nat} (h:YY l a e=true):e<l.length:=by
 by_cases q:e<l.length
 ·exact q
 ·rw [Adb (by omega)] at h; cases h
abbrev WFd:=Int×Int×Int×By×Unit
abbrev Pl:=WFd×Int×Unit
def unf (n:Int):Int:=if n % 2=1 then -((n+1) / 2) else n / 2
def AU (f:WFd):Bool:=(decide (1<=f.1)&&decide (f.1<=30))&&(if f.2.1=0 then Cm f.2.2.1&&f.2.2.2.1==[] else if f.2.1=2 then f.2.2.1==0 else false)
def Ba (s:By) (a:Nat):By×Int×Bool:=
 let u:=Aj s a
 if BO u=true/\A7 u<=s.length-Az a u then ((s.drop (Az a u).toNat).take (A7 u).toNat,Az a u+A7 u,true) else ([],0,false)
def AZ (s:By) (a:Nat):WFd×Int×Int×Bool:=
 let t:=Aj s a
 if BO t=false then ((0,0,0,[],()),0,0,false)
 else if A7 t % 8=2 then
  let b:=Ba s (Az a t).toNat
  ((A7 t / 8,2,0,b.1,()),a,b.2.1,b.2.2&&AU (A7 t / 8,2,0,b.1,()))
 else
  let u:=Aj s (Az a t).toNat
  ((A7 t / 8,A7 t % 8,unf (A7 u),[],()),a,Az (Az a t).toNat u,BO u&&AU (A7 t / 8,A7 t % 8,unf (A7 u),[],()))
def JX:Gm
 | [.j n],[]=>.need (decide (0<=n/\n<=1000000000000)) (.leaf (.j (unf n),[]))
 | _,_=>.no
def Ht:Gm
 | [.agg [.j f0,.j f1,.j f2,.s f3]],[]=>.leaf (.b (AU (f0,f1,f2,f3,())),[])
 | _,_=>.no
def tbG:Gm
 | [.s s,.j a],[]=>.need (decide (0<=a/\s.length<=4000000000/\a<=4000000000)) (.leaf (.tup [.s (Ba s a.toNat).1,.j (Ba s a.toNat).2.1,.b (Ba s a.toNat).2.2],[]))
 | _,_=>.no
def tfG:Gm
 | [.s s,.j a],[]=>.need (decide (0<=a/\s.length<=4000000000/\a<=4000000000)) (.leaf (.tup [.agg [.j (AZ s a.toNat).1.1,.j (AZ s a.toNat).1.2.1,.j (AZ s a.toNat).1.2.2.1,.s (AZ s a.toNat).1.2.2.2.1,.j (AZ s a.toNat).2.1],.j (AZ s a.toNat).2.2.1,.b (AZ s a.toNat).2.2.2],[]))
 | _,_=>.no
theorem W8 (n:Int):Aw prog (Aa []) (Aa []) f216 [.j n] [] =
 ((ifB (n.tmod (2:Int)==(1:Int)) (some (V.j (i64.wrap ((i64.wrap (0-i64.wrap (n+1))).tdiv (2:Int))),[])) (some (V.i .i64
 (i64.wrap (n.tdiv (2:Int))),[]))):_):=by kernel_rfl
theorem ZH (n:Int) (hc:0<=n/\n<=1000000000000):Aw prog (Aa []) (Aa []) f216 [.j n] []=(.leaf (.j (unf n),[]):Br (V×List (Option Blk))).run:=by
 rw [W8];unfold unf;have h1:tmod n 2=n % 2:=Int.tmod_eq_emod_of_nonneg hc.1;have h2:tdiv n 2=n / 2:=Int.tdiv_eq_ediv_of_nonneg hc.1;have h3:i64.wrap (n+1)=n+1:=Av (by omega) (by omega);have h4:i64.wrap (0-(n+1)) = -(n+1):=by rw [Av (by omega) (by omega)]; omega
 have h5:tdiv (-(n+1)) 2 = -((n+1) / 2):=by rw [Int.neg_tdiv,Int.tdiv_eq_ediv_of_nonneg (by omega)]
 rw [h1,h2,h3,h4,h5];rw [Av (n:=n / 2) (by omega) (by omega),Av (n:=-((n+1) / 2)) (by omega) (by omega)]
 by_cases q:n % 2=1
 ·rw [Ae (by simpa using q),if_pos q]; rfl
 ·rw [Ac (by simpa using q),if_neg q]; rfl
theorem Akt:Af prog 216 (Ent.rd1 JX).F:=by
 refine fcK KnowsL.nil.knows (Λ:=Aa []) func216 fun vs bs r' hq=>?_
 unfold Ent.F JX at hq;dsimp only at hq;split at hq
 ·rename_i n;obtain ⟨hc,hx⟩:=Ad hq;exact ⟨Ah _,(ZH n (of_decide_eq_true hc)).trans hx⟩
 ·cases hq
theorem V9 (n:Int):Aw prog (Aa []) (Aa []) f202 [.j n] [] =
 ((ifB (n.tmod (2:Int)==(0:Int)) (some (V.j (i64.wrap (n.tdiv (2:Int))),[])) (some (V.j (i64.wrap ((i64.wrap (0-i64.wrap
 (n+1))).tdiv (2:Int))),[]))):_):=by kernel_rfl
theorem Yp (n:Int) (hc:0<=n/\n<=1000000000000):Aw prog (Aa []) (Aa []) f202 [.j n] []=(.leaf (.j (unf n),[]):Br (V×List (Option Blk))).run:=by
 rw [V9];unfold unf;have h1:tmod n 2=n % 2:=Int.tmod_eq_emod_of_nonneg hc.1;have h2:tdiv n 2=n / 2:=Int.tdiv_eq_ediv_of_nonneg hc.1;have h3:i64.wrap (n+1)=n+1:=Av (by omega) (by omega);have h4:i64.wrap (0-(n+1)) = -(n+1):=by rw [Av (by omega) (by omega)]; omega
 have h5:tdiv (-(n+1)) 2 = -((n+1) / 2):=by rw [Int.neg_tdiv,Int.tdiv_eq_ediv_of_nonneg (by omega)]
 rw [h1,h2,h3,h4,h5];rw [Av (n:=n / 2) (by omega) (by omega),Av (n:=-((n+1) / 2)) (by omega) (by omega)]
 by_cases q:n % 2=1
 ·rw [Ac (by rw [q]; rfl),if_pos q]; rfl
 ·rw [Ae (by rw [show n % 2=0 by omega]; rfl),if_neg q]; rfl
theorem Aju:Af prog 202 (Ent.rd1 JX).F:=by
 refine fcK KnowsL.nil.knows (Λ:=Aa []) func202 fun vs bs r' hq=>?_
 unfold Ent.F JX at hq;dsimp only at hq;split at hq
 ·rename_i n;obtain ⟨hc,hx⟩:=Ad hq;exact ⟨Ah _,(Yp n (of_decide_eq_true hc)).trans hx⟩
 ·cases hq
theorem Rd (f0 f1 f2:Int) (f3:By):Aw prog (Aa [(125,.rd1 A0),(218,.rd1 EZ)]) (Aa []) f231 [.agg [.j f0,.j f1,.j f2,.s f3]] [] =
 ((ifB (!decide (1<=f0/\f0<=30)) nF (ifB (f1==0) (ifB (Cm f2) (some (V.b (f3==Ag UInt8),[])) nF) (ifB (f1==2) (some (V.b
 (f2==0),[])) nF))):_):=by kernel_rfl
theorem T0 (f0 f1 f2:Int) (f3:By):Aw prog (Aa [(125,.rd1 A0),(218,.rd1 EZ)]) (Aa []) f231 [.agg [.j f0,.j f1,.j f2,.s f3]] []=(.leaf (.b (AU (f0,f1,f2,f3,())),[]):Br (V×List (Option Blk))).run:=by
 rw [Rd];unfold AU;dsimp only;have d1:decide (1<=f0/\f0<=30)=(decide (1<=f0)&&decide (f0<=30)):=decide_and ..;rw [d1]
 cases hA:(decide (1<=f0)&&decide (f0<=30)) with
 | false=>rfl
 | true=>
  rw [Bool.not_true,A6]
  by_cases q:f1=0
  ·rw [Ae (by simpa using q),if_pos q];cases Cm f2<;>rfl
  ·rw [Ac (by simpa using q),if_neg q]
   by_cases q2:f1=2
   ·rw [Ae (by simpa using q2),if_pos q2]; rfl
   ·rw [Ac (by simpa using q2),if_neg q2]; rfl
theorem Aim:Af prog 231 (Ent.rd1 Ht).F:=by
 refine fcK (kc func125 Dd (kc func218 Zn KnowsL.nil)).knows (Λ:=Aa []) func231 fun vs bs r' hq=>?_
 unfold Ent.F Ht at hq;dsimp only at hq;split at hq
 ·rename_i f0 f1 f2 f3;exact ⟨Ah _,(T0 f0 f1 f2 f3).trans hq⟩
 ·cases hq
theorem Qn (f0 f1 f2:Int) (f3:By):Aw prog (Aa [(115,.rd1 A0),(196,.rd1 EZ)]) (Aa []) f203 [.agg [.j f0,.j f1,.j f2,.s f3]] [] =
 ((ifB (!decide (1<=f0/\f0<=30)) nF (ifB (f1==0) (ifB (Cm f2) (some (V.b (f3==Ag UInt8),[])) nF) (ifB (f1==2) (some (V.b
 (f2==0),[])) nF))):_):=by kernel_rfl
theorem SE (f0 f1 f2:Int) (f3:By):Aw prog (Aa [(115,.rd1 A0),(196,.rd1 EZ)]) (Aa []) f203 [.agg [.j f0,.j f1,.j f2,.s f3]] []=(.leaf (.b (AU (f0,f1,f2,f3,())),[]):Br (V×List (Option Blk))).run:=by
 rw [Qn];unfold AU;dsimp only;have d1:decide (1<=f0/\f0<=30)=(decide (1<=f0)&&decide (f0<=30)):=decide_and ..;rw [d1]
 cases hA:(decide (1<=f0)&&decide (f0<=30)) with
 | false=>rfl
 | true=>
  rw [Bool.not_true,A6]
  by_cases q:f1=0
  ·rw [Ae (by simpa using q),if_pos q];cases Cm f2<;>rfl
  ·rw [Ac (by simpa using q),if_neg q]
   by_cases q2:f1=2
   ·rw [Ae (by simpa using q2),if_pos q2]; rfl
   ·rw [Ac (by simpa using q2),if_neg q2]; rfl
theorem Agx:Af prog 203 (Ent.rd1 Ht).F:=by
 refine fcK (kc func115 Ia (kc func196 UF KnowsL.nil)).knows (Λ:=Aa []) func203 fun vs bs r' hq=>?_
 unfold Ent.F Ht at hq;dsimp only at hq;split at hq
 ·rename_i f0 f1 f2 f3;exact ⟨Ah _,(SE f0 f1 f2 f3).trans hq⟩
 ·cases hq
theorem Eu (s:By) (a:Nat):(0<=A7 (Aj s a)/\A7 (Aj s a)<=34359738368)/\0<=Az a (Aj s a)/\Az a (Aj s a)<=s.length:=by
 cases e:Aj s a with
 | none=>exact ⟨⟨by decide,by decide⟩,Int.le_refl 0,Int.natCast_nonneg _⟩
 | some x=>
  obtain ⟨n,k,ok⟩:=x;obtain ⟨h1,h2,h3,h4⟩:=KD e;dsimp only at h1 h2 h3 h4;refine ⟨⟨?_,?_⟩,?_,?_⟩
  ·show (0:Int)<=(n:Int); omega
  ·show (n:Int)<=34359738368; omega
  ·show (0:Int)<=((a+k:Nat):Int); omega
  ·show ((a+k:Nat):Int)<=(s.length:Int); omega
theorem EN {s:By} {a:Nat} (h:BO (Aj s a)=true):(a:Int)<Az a (Aj s a)/\Az a (Aj s a)<=s.length:=by
 refine ⟨?_,(Eu s a).2.2⟩
 cases e:Aj s a with
 | none=>rw [e] at h; cases h
 | some x=>
  obtain ⟨n,k,ok⟩:=x;obtain ⟨h1,h2,h3,h4⟩:=KD e;show (a:Int)<((a+k:Nat):Int);dsimp only at h2;omega
theorem ZJ (s:By) (a:Int):Aw prog (Aa [(215,.rd1 Se)]) (Aa []) f217 [.s s,.j a] [] =
 ((ifT (decide (0<=a/\s.length<=4000000000/\a<=4000000000)) (ifB (!BO (Aj s a.toNat)) (some (V.tup [V.s (Ag UInt8),V.j 0,V.b false],[])) (ifB
 (decide (A7 (Aj s a.toNat)>i64.wrap ((↑s.length:Int)-Az a.toNat (Aj s a.toNat)))) (some (V.tup [V.s (Ag UInt8),V.j 0,V.b false],[])) (ifT
 (decide ((0:Int)<=Az a.toNat (Aj s a.toNat))&&decide (Az a.toNat (Aj s a.toNat)<=i64.wrap (Az a.toNat (Aj s a.toNat)+A7 (Aj s a.toNat)))
 && decide (i64.wrap (Az a.toNat (Aj s a.toNat)+A7 (Aj s a.toNat))<=(↑s.length:Int))) (some (V.tup [V.s (take ((i64.wrap (Az a.toNat
 (Aj s a.toNat)+A7 (Aj s a.toNat))).toNat-(Az a.toNat (Aj s a.toNat)).toNat) (drop (Az a.toNat (Aj s a.toNat)).toNat s)),V.j (i64.wrap
 (Az a.toNat (Aj s a.toNat)+A7 (Aj s a.toNat))),V.b true],[])))))):_):=by kernel_rfl
theorem Ad8 (s:By) (a:Int) (hc:0<=a/\s.length<=4000000000/\a<=4000000000):Aw prog (Aa [(215,.rd1 Se)]) (Aa []) f217 [.s s,.j a] []=(.leaf (.tup [.s (Ba s a.toNat).1,.j (Ba s a.toNat).2.1,.b (Ba s a.toNat).2.2],[]):Br (V×List (Option Blk))).run:=by
 rw [ZJ];obtain ⟨h1,h2,h3⟩:=hc;obtain ⟨a,rfl⟩:=eq_ofNat_of_zero_le h1;simp only [ntN];obtain ⟨⟨u1,u2⟩,u3,u4⟩:=Eu s a;rw [Ab (dcT ⟨h1,h2,h3⟩)];unfold Ba;dsimp only;have w1:i64.wrap ((s.length:Int)-Az a (Aj s a))=(s.length:Int)-Az a (Aj s a):=Av (by omega) (by omega);have w2:i64.wrap (Az a (Aj s a)+A7 (Aj s a))=Az a (Aj s a)+A7 (Aj s a):=Av (by omega) (by omega);simp only [w1,w2]
 cases hk:BO (Aj s a) with
 | false=>rw [Bool.not_false,AR,if_neg (fun h=>by cases h.1)]; rfl
 | true=>
  rw [Bool.not_true,A6]
  by_cases q:A7 (Aj s a)<=s.length-Az a (Aj s a)
  ·rw [Ac (dcF (by omega)),if_pos ⟨rfl,q⟩,Ab (by simp only [anE,dcE]; omega)];have e:(Az a (Aj s a)+A7 (Aj s a)).toNat-(Az a (Aj s a)).toNat=(A7 (Aj s a)).toNat:=by omega
   rw [e]; rfl
  ·rw [Ae (dcT (by omega)),if_neg (fun h=>q h.2)]; rfl
theorem itb:Af prog 217 (Ent.rd1 tbG).F:=by
 refine fcK (kc func215 tvi KnowsL.nil).knows (Λ:=Aa []) func217 fun vs bs r' hq=>?_
 unfold Ent.F tbG at hq;dsimp only at hq;split at hq
 ·rename_i s a;obtain ⟨hc,hx⟩:=Ad hq;exact ⟨Ah _,(Ad8 s a (of_decide_eq_true hc)).trans hx⟩
 ·cases hq
theorem ZI (s:By) (a:Int):Aw prog (Aa [(215,.rd1 Se),(217,.rd1 tbG),(216,.rd1 JX),(231,.rd1 Ht)]) (Aa []) f222 [.s s,.j a] [] =
 ((ifT (decide (0<=a/\s.length<=4000000000/\a<=4000000000)) (ifB (!BO (Aj s a.toNat)) (some (V.tup [V.agg [V.j 0,V.j 0,V.j 0,V.s (Ag
 UInt8),V.j 0],V.j 0,V.b false],[])) (ifB ((A7 (Aj s a.toNat)).tmod (8:Int)==(2:Int)) (ifT (decide ((0:Int)<=Az a.toNat (Aj s a.toNat)/\
 s.length<=4000000000/\Az a.toNat (Aj s a.toNat)<=(4000000000:Int))) (ifB (Ba s (Az a.toNat (Aj s a.toNat)).toNat).2.2 (some (V.tup [V.agg [V.i
 .i64 (i64.wrap ((A7 (Aj s a.toNat)).tdiv (8:Int))),V.j ((A7 (Aj s a.toNat)).tmod (8:Int)),V.j 0,V.s (Ba s (Az a.toNat (Aj s
 a.toNat)).toNat).1,V.j a],V.j (Ba s (Az a.toNat (Aj s a.toNat)).toNat).2.1,V.b (AU (i64.wrap ((A7 (Aj s a.toNat)).tdiv (8 :
 Int)),(A7 (Aj s a.toNat)).tmod (8:Int),(0:Int),(Ba s (Az a.toNat (Aj s a.toNat)).toNat).1,()))],[])) (some (V.tup [V.agg [V.j (i64.wrap
 ((A7 (Aj s a.toNat)).tdiv (8:Int))),V.j ((A7 (Aj s a.toNat)).tmod (8:Int)),V.j 0,V.s (Ba s (Az a.toNat (Aj s a.toNat)).toNat).1,V.i .i64
 a],V.j (Ba s (Az a.toNat (Aj s a.toNat)).toNat).2.1,V.b false],[])))) (ifT (decide ((0:Int)<=Az a.toNat (Aj s a.toNat)/\s.length<=(4000000000 :
 Nat)/\Az a.toNat (Aj s a.toNat)<=(4000000000:Int))) (ifT (decide ((0:Int)<=A7 (Aj s (Az a.toNat (Aj s a.toNat)).toNat)/\A7 (Aj s (Az a.toNat
 (Aj s a.toNat)).toNat)<=(1000000000000:Int))) (ifB (BO (Aj s (Az a.toNat (Aj s a.toNat)).toNat)) (some (V.tup [V.agg [V.j (i64.wrap ((A7 (Aj
 s a.toNat)).tdiv (8:Int))),V.j ((A7 (Aj s a.toNat)).tmod (8:Int)),V.j (unf (A7 (Aj s (Az a.toNat (Aj s a.toNat)).toNat))),V.s (Ag UInt8),
 V.j a],V.j (Az (Az a.toNat (Aj s a.toNat)).toNat (Aj s (Az a.toNat (Aj s a.toNat)).toNat)),V.b (AU (i64.wrap ((A7 (Aj s
 a.toNat)).tdiv (8:Int)),(A7 (Aj s a.toNat)).tmod (8:Int),unf (A7 (Aj s (Az a.toNat (Aj s a.toNat)).toNat)),Ag UInt8,()))],[])) (some (V.tup [V.agg
 [V.j (i64.wrap ((A7 (Aj s a.toNat)).tdiv (8:Int))),V.j ((A7 (Aj s a.toNat)).tmod (8:Int)),V.j (unf (A7 (Aj s (Az a.toNat (Aj
 s a.toNat)).toNat))),V.s (Ag UInt8),V.j a],V.j (Az (Az a.toNat (Aj s a.toNat)).toNat (Aj s (Az a.toNat (Aj s a.toNat)).toNat)),V.b false],
 [])))))))):_):=by kernel_rfl
theorem Ad7 (s:By) (a:Int) (hc:0<=a/\s.length<=4000000000/\a<=4000000000):Aw prog (Aa [(215,.rd1 Se),(217,.rd1 tbG),(216,.rd1 JX),(231,.rd1 Ht)]) (Aa []) f222 [.s s,.j a] []=(.leaf (.tup [.agg [.j (AZ s a.toNat).1.1,.j (AZ s a.toNat).1.2.1,.j (AZ s a.toNat).1.2.2.1,.s (AZ s a.toNat).1.2.2.2.1,.j (AZ s a.toNat).2.1],.j (AZ s a.toNat).2.2.1,.b (AZ s a.toNat).2.2.2],[]):Br (V×List (Option Blk))).run:=by
 rw [ZI];obtain ⟨h1,h2,h3⟩:=hc;obtain ⟨a,rfl⟩:=eq_ofNat_of_zero_le h1;simp only [ntN];obtain ⟨⟨u1,u2⟩,u3,u4⟩:=Eu s a;obtain ⟨⟨v1,v2⟩,v3,v4⟩:=Eu s (Az a (Aj s a)).toNat;have e1:tdiv (A7 (Aj s a)) 8=A7 (Aj s a) / 8:=Int.tdiv_eq_ediv_of_nonneg u1;have e2:tmod (A7 (Aj s a)) 8=A7 (Aj s a) % 8:=Int.tmod_eq_emod_of_nonneg u1;have e3:i64.wrap (A7 (Aj s a) / 8)=A7 (Aj s a) / 8:=Av (by omega) (by omega);rw [Ab (dcT ⟨h1,h2,h3⟩)];simp only [e1,e2,e3];unfold AZ;dsimp only
 cases hk:BO (Aj s a) with
 | false=>rw [Bool.not_false,AR,if_pos rfl]; rfl
 | true=>
  rw [Bool.not_true,A6,if_neg (by simp)];have hd:decide (0<=Az a (Aj s a)/\s.length<=4000000000/\Az a (Aj s a)<=4000000000)=true:=dcT ⟨u3,h2,by omega⟩
  by_cases q:A7 (Aj s a) % 8=2
  ·rw [Ae (by simpa using q),if_pos q,q,hd,CP];cases hb:(Ba s (Az a (Aj s a)).toNat).2.2<;>rfl
  ·rw [Ac (by simpa using q),if_neg q,hd,CP,Ab (dcT ⟨v1,by omega⟩)];cases hb:BO (Aj s (Az a (Aj s a)).toNat)<;>rfl
theorem itf:Af prog 222 (Ent.rd1 tfG).F:=by
 refine fcK (kc func215 tvi (kc func217 itb (kc func216 Akt (kc func231 Aim KnowsL.nil)))).knows (Λ:=Aa []) func222 fun vs bs r' hq=>?_
 unfold Ent.F tfG at hq;dsimp only at hq;split at hq
 ·rename_i s a;obtain ⟨hc,hx⟩:=Ad hq;exact ⟨Ah _,(Ad7 s a (of_decide_eq_true hc)).trans hx⟩
 ·cases hq
theorem Ng {s:By} {a:Nat} (h:(AZ s a).2.2.2=true):AU (AZ s a).1=true/\(a:Int)<(AZ s a).2.2.1/\(AZ s a).2.2.1<=s.length/\(AZ s a).2.1=a:=by
 have ha : ∀ {x:Int},(0:Int)<=x->((x.toNat:Nat):Int)=x:=fun h=>by omega
 unfold AZ at h ⊢;dsimp only at h ⊢
 cases hk:BO (Aj s a) with
 | false=>rw [hk] at h; cases h
 | true=>
  have t1:=EN hk;have t2:=ha (x:=Az a (Aj s a)) (by omega);rw [hk,if_neg (by simp)] at h;rw [if_neg (by simp)]
  by_cases q:A7 (Aj s a) % 8=2
  ·rw [if_pos q] at h ⊢;dsimp only at h ⊢;rw [anE] at h;refine ⟨h.2,?_⟩;have h:=h.1;unfold Ba at h ⊢;dsimp only at h ⊢;split at h
   ·rename_i hh;rw [if_pos hh];have u:=EN hh.1;have v:=(Eu s (Az a (Aj s a)).toNat).1.1;dsimp only;exact ⟨by omega,by omega,rfl⟩
   ·cases h
  ·rw [if_neg q] at h ⊢;dsimp only at h ⊢;rw [anE] at h;have u:=EN h.1;exact ⟨h.2,by omega,u.2,rfl⟩
end Go.Proofs.YtdocpdfkeohkiaaGreatDoor.Den
