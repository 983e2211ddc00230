/- What functions of the program do, by the machine: Wi1 Wi2 Wi3 Wi4 Wi5 Wi6 En1 Wi7 Dc1 Dc2 Dc3 Dc4. -/
import Derived.Test.YteninfkgajnfcaaGreatDC
import Derived.KernelRfl
import Derived.Test.YteninfkgajnfcaaGreatRows
namespace Go.Proofs.YteninfkgajnfcaaGreat.Den
open IntKind (i64)
open Go.Proofs.Tryz
open List (all_cons all_eq_true append_assoc append_nil drop drop_eq_getElem_cons drop_eq_nil_of_le drop_zero getElem_mem length_append length_cons length_drop length_singleton map_map mem_cons mem_cons_of_mem mem_map range take take_length)
open Int (eq_ofNat_of_zero_le fdiv tdiv tmod)
open Nat (add_mul mod_eq_of_lt mul_add mul_le_mul mul_le_mul_left mul_one mul_pos pow_add pow_succ sub_zero zero_add)
open Option (getD isSome map_eq_some_iff map_none map_some)
open Go.Proofs
set_option maxRecDepth 100000
def tv:Nat->List UInt8->Nat->Nat->Option (Nat×Nat×Bool)
 | 0,_,_,_=>none
 | _+1,[],_,_=>none
 | f+1,b::l,i,n=>if b.toNat<128 then some (n+b.toNat % 128*2 ^ (7*i),i+1,decide (n+b.toNat % 128*2 ^ (7*i)<=2000000001)&&(decide (0<b.toNat)||decide (i=0))) else tv f l (i+1) (n+b.toNat % 128*2 ^ (7*i))
def Ah (s:List UInt8) (a:Nat):Option (Nat×Nat×Bool):=tv 5 (s.drop a) 0 0
def A9:Option (Nat×Nat×Bool)->Int | some (n,_,_)=>n | none=>0
def Az (a:Nat):Option (Nat×Nat×Bool)->Int | some (_,k,_)=>((a+k:Nat):Int) | none=>0
def BK:Option (Nat×Nat×Bool)->Bool | some (_,_,ok)=>ok | none=>false
def Cc:Option (Nat×Nat×Bool)->Int | some (n,_,true)=>n | _=>0
def Bc (a:Nat):Option (Nat×Nat×Bool)->Int | some (_,k,true)=>((a+k:Nat):Int) | _=>0
def Oc:LoopEnt:=⟨52,[0,1,7,8],[],[4,5,6],fun
 | ([.s s,.i .i64 a,.i .i64 n,.i .i64 i],[])=>.need (decide (0<=a/\0<=n/\0<=i/\i<=5/\n.toNat<2 ^ (7*i.toNat)/\s.length<=4000000000/\a<=4000000000)) (.br (tv (5-i.toNat) (s.drop (a.toNat+i.toNat)) i.toNat n.toNat).isSome (.leaf (.ret,([.i .i64 (A9 (tv (5-i.toNat) (s.drop (a.toNat+i.toNat)) i.toNat n.toNat)),.i .i64 (Az a.toNat (tv (5-i.toNat) (s.drop (a.toNat+i.toNat)) i.toNat n.toNat)),.b (BK (tv (5-i.toNat) (s.drop (a.toNat+i.toNat)) i.toNat n.toNat))],[]))) (.leaf (.exit 0,([],[]))))
 | _=>.no⟩
def PT:Gm
 | [.s s,.i .i64 a],[]=>.need (decide (0<=a/\s.length<=4000000000/\a<=4000000000)) (.leaf (.tup [.i .i64 (A9 (Ah s a.toNat)),.i .i64 (Az a.toNat (Ah s a.toNat)),.b (BK (Ah s a.toNat))],[]))
 | _,_=>.no
def Oa:LoopEnt:=⟨53,[0,1,7,8],[],[4,5,6],fun
 | ([.s s,.i .i64 a,.i .i64 n,.i .i64 i],[])=>.need (decide (0<=a/\0<=n/\0<=i/\i<=5/\n.toNat<2 ^ (7*i.toNat)/\s.length<=4000000000/\a<=4000000000)) (.br (tv (5-i.toNat) (s.drop (a.toNat+i.toNat)) i.toNat n.toNat).isSome (.leaf (.ret,([.i .i64 (Cc (tv (5-i.toNat) (s.drop (a.toNat+i.toNat)) i.toNat n.toNat)),.i .i64 (Bc a.toNat (tv (5-i.toNat) (s.drop (a.toNat+i.toNat)) i.toNat n.toNat)),.b (BK (tv (5-i.toNat) (s.drop (a.toNat+i.toNat)) i.toNat n.toNat))],[]))) (.leaf (.exit 0,([],[]))))
 | _=>.no⟩
def TW:Gm
 | [.s s,.i .i64 a],[]=>.need (decide (0<=a/\s.length<=4000000000/\a<=4000000000)) (.leaf (.tup [.i .i64 (Cc (Ah s a.toNat)),.i .i64 (Bc a.toNat (Ah s a.toNat)),.b (BK (Ah s a.toNat))],[]))
 | _,_=>.no
theorem Aci (n:Nat) (_:n<256):IntKind.u8.wrap ((BitVec.ofInt IntKind.u8.bits (n:Int) &&& BitVec.ofInt IntKind.u8.bits (127:Int)).toNat:Int)=((n % 128:Nat):Int):=by
 have e:(BitVec.ofInt IntKind.u8.bits (n:Int) &&& BitVec.ofInt IntKind.u8.bits (127:Int)).toNat=n % 128:=by
  show (BitVec.ofInt 8 (n:Int) &&& BitVec.ofInt 8 ((127:Nat):Int)).toNat=n % 128
  rw [BitVec.toNat_and,BitVec.ofInt_natCast,BitVec.ofInt_natCast,BitVec.toNat_ofNat,BitVec.toNat_ofNat,show 127 % 2 ^ 8=2 ^ 7-1 by decide,Nat.and_two_pow_sub_one_eq_mod]
  show n % 256 % 128=n % 128
  omega
 rw [e]
 unfold IntKind.wrap
 simp [IntKind.bits,IntKind.signed]
 omega
theorem Abd (n:Nat) (_:n<256):i64.wrap ((BitVec.ofInt i64.bits (n:Int) &&& BitVec.ofInt i64.bits (127:Int)).toNat:Int)=((n % 128:Nat):Int):=by
 have e:(BitVec.ofInt i64.bits (n:Int) &&& BitVec.ofInt i64.bits (127:Int)).toNat=n % 128:=by
  show (BitVec.ofInt 64 (n:Int) &&& BitVec.ofInt 64 ((127:Nat):Int)).toNat=n % 128
  rw [BitVec.toNat_and,BitVec.ofInt_natCast,BitVec.ofInt_natCast,BitVec.toNat_ofNat,BitVec.toNat_ofNat,show 127 % 2 ^ 64=2 ^ 7-1 by decide,Nat.and_two_pow_sub_one_eq_mod]
  show n % 18446744073709551616 % 128=n % 128
  omega
 rw [e,Ay (by omega) (by omega)]
theorem Jy {i:Nat} (h:i<=4):2 ^ (7*i)<=268435456:=by
 have:2 ^ (7*i)<=2 ^ 28:=Nat.pow_le_pow_right (by decide) (by omega)
 have e:(2:Nat) ^ 28=268435456:=by decide
 omega
theorem Aaz (x i:Nat) (hx:x<128) (hi:i<=4):i64.wrap ((x:Int)*(2:Int) ^ min ((7:Int)*(i:Int)).toNat i64.bits)=((x*2 ^ (7*i):Nat):Int):=by
 have hp:=Jy hi
 have hm:x*2 ^ (7*i)<=127*268435456:=mul_le_mul (by omega) hp
 have e1:((7:Int)*(i:Int)).toNat=7*i:=by omega
 have e2:min (7*i) i64.bits=7*i:=Nat.min_eq_left (by show 7*i<=64; omega)
 rw [e1,e2]
 have e3:(x:Int)*(2:Int) ^ (7*i)=((x*2 ^ (7*i):Nat):Int):=by simp
 rw [e3,Ay (by omega) (by omega)]
theorem NS {n:Int} (h1:0<=n) (h2:n<=9223372036854775807):IntKind.u64.wrap n=n:=by
 unfold IntKind.wrap
 simp [IntKind.bits,IntKind.signed]
 omega
theorem or7 (n x i:Nat) (hn:n<2 ^ (7*i)) (hx:x<128) (hi:i<=4):i64.wrap ((BitVec.ofInt i64.bits (n:Int) ||| BitVec.ofInt i64.bits ((x*2 ^ (7*i):Nat):Int)).toNat:Int)=((n+x*2 ^ (7*i):Nat):Int):=by
 have hp:=Jy hi
 have hm:x*2 ^ (7*i)<=127*268435456:=mul_le_mul (by omega) hp
 have e:(BitVec.ofInt i64.bits (n:Int) ||| BitVec.ofInt i64.bits ((x*2 ^ (7*i):Nat):Int)).toNat=n+x*2 ^ (7*i):=by
  show (BitVec.ofInt 64 (n:Int) ||| BitVec.ofInt 64 ((x*2 ^ (7*i):Nat):Int)).toNat=_
  rw [BitVec.toNat_or,BitVec.ofInt_natCast,BitVec.ofInt_natCast,BitVec.toNat_ofNat,BitVec.toNat_ofNat,mod_eq_of_lt (by omega),mod_eq_of_lt (by omega),Nat.mul_comm x,Nat.or_comm,<-Nat.two_pow_add_eq_or_of_lt hn x,Nat.add_comm]
 rw [e,Ay (by omega) (by omega)]
theorem Oe : ∀ (f:Nat) (l:List UInt8) (i n:Nat) {x:Nat×Nat×Bool},i+f<=5->n<2 ^ (7*i)->tv f l i n=some x->x.1<2 ^ 35/\i<x.2.1/\x.2.1<=i+l.length/\x.2.1<=5
 | 0,l,i,n,x,h1,h2,h=>by rw [tv] at h; cases h
 | f+1,[],i,n,x,h1,h2,h=>by rw [tv] at h; cases h
 | f+1,b::l,i,n,x,h1,h2,h=>by
  have hm:n+b.toNat % 128*2 ^ (7*i)<2 ^ (7*(i+1)):=by
   have h3:b.toNat % 128<=127:=by omega
   have h4:b.toNat % 128*2 ^ (7*i)<=127*2 ^ (7*i):=Nat.mul_le_mul_right _ h3
   have h5:2 ^ (7*(i+1))=2 ^ (7*i)*128:=by rw [show 7*(i+1)=7*i+7 by omega,pow_add]
   omega
  rw [tv] at h
  split at h
  ·simp at h
   subst h
   have h6:2 ^ (7*(i+1))<=2 ^ 35:=Nat.pow_le_pow_right (by decide) (by omega)
   exact ⟨by omega,by simp,by simp<;>omega,by simp<;>omega⟩
  ·obtain ⟨g1,g2,g3,g4⟩:=Oe f l (i+1) _ (by omega) hm h
   exact ⟨g1,by omega,by simp; omega,g4⟩
theorem DY {s:List UInt8} {a:Nat} {x:Nat×Nat×Bool} (h:Ah s a=some x):x.1<=34359738368/\0<x.2.1/\a+x.2.1<=s.length/\x.2.1<=5:=by
 obtain ⟨h1,h2,h3,h4⟩:=Oe 5 _ 0 0 (by omega) (by decide) h
 rw [length_drop] at h3
 have e:(2:Nat) ^ 35=34359738368:=by decide
 exact ⟨by omega,h2,by omega,h4⟩
theorem LQ (s:List UInt8) (a n i:Int):A0 prog (Ab []) (Ab [(3,Oc)]) 0 (body f173 0) Oc ([.s s,.j a,.j n,.j i],[]) =
 ((ifB (decide (i<(5:Int))) (ifB (decide (i64.wrap (a+i)<(↑s.length:Int))) (ifT (decide ((0:Int)<=i64.wrap (a+i))) (Ap s[(i64.wrap
 (a+i)).toNat]? fun z=>ifT (decide ((0:Int)<=i64.wrap ((7:Int)*i))) (ifB (decide ((↑z.toNat:Int)<(128:Int))) (ifB (decide (i64.wrap
 (↑(BitVec.ofInt i64.bits n ||| BitVec.ofInt i64.bits (i64.wrap (i64.wrap (IntKind.u8.wrap (↑(BitVec.ofInt IntKind.u8.bits (↑z.toNat:Int)
 &&& BitVec.ofInt IntKind.u8.bits (127:Int)).toNat:Int))*(2:Int) ^ min (i64.wrap ((7:Int)*i)).toNat i64.bits))).toNat:Int)<=(2000000001 :
 Int))) (ifB (decide ((↑z.toNat:Int)>(0:Int))) (some (Ex.ret,[V.j (i64.wrap (↑(BitVec.ofInt i64.bits n ||| BitVec.ofInt i64.bits
 (i64.wrap (i64.wrap (IntKind.u8.wrap (↑(BitVec.ofInt IntKind.u8.bits (↑z.toNat:Int) &&& BitVec.ofInt IntKind.u8.bits (127:Int)).toNat:Int))*(2 :
 Int) ^ min (i64.wrap ((7:Int)*i)).toNat i64.bits))).toNat:Int)),V.j (i64.wrap (i64.wrap (a+i)+(1:Int))),V.b true],[]))
 (some (Ex.ret,[V.j (i64.wrap (↑(BitVec.ofInt i64.bits n ||| BitVec.ofInt i64.bits (i64.wrap (i64.wrap (IntKind.u8.wrap
 (↑(BitVec.ofInt IntKind.u8.bits (↑z.toNat:Int) &&& BitVec.ofInt IntKind.u8.bits (127:Int)).toNat:Int))*(2:Int) ^ min (i64.wrap ((7:Int)*i)).toNat
 i64.bits))).toNat:Int)),V.j (i64.wrap (i64.wrap (a+i)+(1:Int))),V.b (i==(0:Int))],[]))) (some (Ex.ret,[V.i .i64
 (i64.wrap (↑(BitVec.ofInt i64.bits n ||| BitVec.ofInt i64.bits (i64.wrap (i64.wrap (IntKind.u8.wrap (↑(BitVec.ofInt
 IntKind.u8.bits (↑z.toNat:Int) &&& BitVec.ofInt IntKind.u8.bits (127:Int)).toNat:Int))*(2:Int) ^ min (i64.wrap ((7:Int)*i)).toNat
 i64.bits))).toNat:Int)),V.j (i64.wrap (i64.wrap (a+i)+(1:Int))),V.b false],[]))) (some (Ex.normal,[V.s s,V.j a,V.i .i64
 (i64.wrap (↑(BitVec.ofInt i64.bits n ||| BitVec.ofInt i64.bits (i64.wrap (i64.wrap (IntKind.u8.wrap (↑(BitVec.ofInt
 IntKind.u8.bits (↑z.toNat:Int) &&& BitVec.ofInt IntKind.u8.bits (127:Int)).toNat:Int))*(2:Int) ^ min (i64.wrap ((7:Int)*i)).toNat
 i64.bits))).toNat:Int)),V.j (i64.wrap (i+(1:Int)))],[]))))) (some (Ex.exit 0,[],[]))) (some (Ex.exit 0,[],[]))):_):=by kernel_rfl
theorem Ob (s:List UInt8) (a:Nat) (hs:s.length<=4000000000) (ha:a<=4000000000) : ∀ (j i n:Nat),i+j=5->n<2 ^ (7*i)->∀ ex d,(Br.br (tv (5-i) (s.drop (a+i)) i n).isSome (.leaf (.ret,([.j (A9 (tv (5-i) (s.drop (a+i)) i n)),.j (Az a (tv (5-i) (s.drop (a+i)) i n)),.b (BK (tv (5-i) (s.drop (a+i)) i n))],[]))) (.leaf (.exit 0,([],[]))):Br (Ex×Dt)).run=some (ex,d)->
  Runs prog (Ab []) (Ab [(3,Oc)]) 0 (body f173 0) Oc ([.s s,.j (a:Int),.j (n:Int),.j (i:Int)],[]) ex d
 | 0,i,n,hi,hn,ex,d,h=>by
  have hr:=LQ s a n i
  rw [Ac (dcF (by omega))] at hr
  rw [show 5-i=0 by omega,tv] at h
  have h8:=Ar h
  obtain ⟨rfl,rfl⟩:=Prod.mk.inj h8
  exact .stop _ _ _ hr (by simp)
 | j+1,i,n,hi,hn,ex,d,h=>by
  have hr:=LQ s a n i
  have hw:i64.wrap ((a:Int)+(i:Int))=((a+i:Nat):Int):=by rw [Ay (by omega) (by omega)]; omega
  rw [Af (dcT (by omega)),hw] at hr
  rw [show 5-i=(5-(i+1))+1 by omega] at h
  by_cases hl:a+i<s.length
  ·rw [Af (dcT (by omega)),Aa (dcT (by omega))] at hr
   have hz:=s[a+i].toNat_lt
   have hx:s[a+i].toNat % 128<128:=Nat.mod_lt _ (by decide)
   have hp:=Jy (i:=i) (by omega)
   have hm:s[a+i].toNat % 128*2 ^ (7*i)<=127*268435456:=mul_le_mul (by omega) hp
   have hw7:i64.wrap ((7:Int)*(i:Int))=7*(i:Int):=Ay (by omega) (by omega)
   have hwc:i64.wrap (s[a+i].toNat:Int)=(s[a+i].toNat:Int):=Ay (by omega) (by omega)
   have hu7:IntKind.u64.wrap (7*(i:Int))=7*(i:Int):=NS (by omega) (by omega)
   have hwx:i64.wrap ((s[a+i].toNat % 128:Nat):Int)=((s[a+i].toNat % 128:Nat):Int):=Ay (by omega) (by omega)
   simp only [ntN,gtE hl,As,hw7,Aci _ hz,hwx,Aaz _ i hx (by omega),or7 n _ i hn hx (by omega)] at hr
   rw [Aa (dcT (by omega))] at hr
   rw [drop_eq_getElem_cons hl,tv] at h
   have hm2:n+s[a+i].toNat % 128*2 ^ (7*i)<2 ^ (7*(i+1)):=by
    have h4:s[a+i].toNat % 128*2 ^ (7*i)<=127*2 ^ (7*i):=Nat.mul_le_mul_right _ (by omega)
    have h5:2 ^ (7*(i+1))=2 ^ (7*i)*128:=by rw [show 7*(i+1)=7*i+7 by omega,pow_add]
    omega
   have hwi:i64.wrap (((a+i:Nat):Int)+1)=((a+(i+1):Nat):Int):=by rw [Ay (by omega) (by omega)]; omega
   rw [A3 (n:=i) (by unfold maxI; omega)] at hr
   try rw [hwi] at hr
   generalize s[a+i].toNat % 128*2 ^ (7*i)=y at *
   have hi0:((i:Int)==0)=decide (i=0):=by
    by_cases h:i=0
    ·subst h; rfl
    ·rw [dcF h]; exact beq_false_of_ne (by omega)
   have hle:decide (((n+y:Nat):Int)<=2000000001)=decide (n+y<=2000000001):=decide_eq_decide.2 (by omega)
   have hgt:decide (((n+y:Nat):Int)>2000000001) = !decide (n+y<=2000000001):=by rw [<-decide_not]; exact decide_eq_decide.2 (by omega)
   have hb0:decide ((s[a+i].toNat:Int)>0)=decide (0<s[a+i].toNat):=decide_eq_decide.2 (by omega)
   have hbz:((s[a+i].toNat:Int)==0) = !decide (0<s[a+i].toNat):=by
    by_cases h:s[a+i].toNat=0
    ·rw [h]; rfl
    ·rw [dcT (by omega)]; exact beq_false_of_ne (by omega)
   have hig:decide ((i:Int)>0) = !decide (i=0):=by rw [<-decide_not]; exact decide_eq_decide.2 (by omega)
   simp only [hi0,hle,hb0] at hr
   by_cases hb:s[a+i].toNat<128
   ·rw [if_pos hb] at h
    rw [Af (dcT (by omega))] at hr
    have h8:=Ar h
    obtain ⟨rfl,rfl⟩:=Prod.mk.inj h8
    refine .stop _ _ _ (hr.trans ?_) (by simp)
    cases decide (n+y<=2000000001)<;>cases decide (0<s[a+i].toNat)<;>cases decide (i=0)<;>rfl
   ·rw [if_neg hb] at h
    rw [Ac (dcF (by omega))] at hr
    exact .step _ _ _ _ hr (Ob s a hs ha j (i+1) (n+y) (by omega) hm2 ex d h)
  ·rw [Ac (dcF (by omega))] at hr
   rw [drop_eq_nil_of_le (by omega),tv] at h
   have h8:=Ar h
   obtain ⟨rfl,rfl⟩:=Prod.mk.inj h8
   exact .stop _ _ _ hr (by simp)
theorem YI:A4 prog (Ab []) (Ab [(3,Oc)]) 0 (f173.body.getD .skip):=by
 refine Ax (a:=body f173 0) (by kernel_rfl) fun d ex d' h=>?_
 unfold Oc at h
 dsimp only at h
 split at h
 ·rename_i s a n i
  obtain ⟨hc,hx⟩:=Ae h
  clear h
  obtain ⟨h0,h1,h2,h3,h4,h5,h6⟩:=of_decide_eq_true hc
  obtain ⟨a,rfl⟩:=eq_ofNat_of_zero_le h0
  obtain ⟨n,rfl⟩:=eq_ofNat_of_zero_le h1
  obtain ⟨i,rfl⟩:=eq_ofNat_of_zero_le h2
  simp only [ntN] at h4 hx
  exact Ob s a h5 (by omega) (5-i) i n (by omega) h4 ex d' hx
 ·cases h
theorem tvi:Ad prog 173 (Ent.rd1 PT).F:=by
 refine Am KnowsL.nil.knows (Λ:=(Ab [(3,Oc)])) func173 (c:=f173.body.getD .skip) (by kernel_rfl) fun vs bs r hq hv hb=>?_
 unfold Ent.F PT at hq
 dsimp only at hq
 split at hq
 ·rename_i s a
  obtain ⟨hc,hx⟩:=Ae hq
  refine ⟨YI,Eq.trans ?_ hx⟩
  obtain ⟨h0,h1,h2⟩:=of_decide_eq_true hc
  obtain ⟨a,rfl⟩:=eq_ofNat_of_zero_le h0
  have e:AQ prog (Ab []) (Ab [(3,Oc)]) f173 [.s s,.j (a:Int)] []=((ifT (decide ((0:Int)<=(↑a:Int)/\(0:Int)<=(0:Int)/\(0:Int)<=(0:Int)/\(0:Int)<=(5:Int)/\0<2 ^ 0/\s.length<=(4000000000 :
 Nat)/\(↑a:Int)<=(4000000000:Int))) (ifB (tv 5 (drop ((↑a:Int).toNat+0) s) 0 0).isSome (some (V.tup [V.j (A9 (tv (5 :
 Nat) (drop ((↑a:Int).toNat+0) s) 0 0)),V.j (Az (↑a:Int).toNat (tv 5 (drop ((↑a:Int).toNat+0) s) (0 :
 Nat) 0)),V.b (BK (tv 5 (drop ((↑a:Int).toNat+0) s) 0 0))],[])) (some (V.tup [V.j 0,V.j 0,V.b false],
 [])))):_):=by kernel_rfl
  rw [e]
  clear e
  rw [Aa (dcT ⟨by omega,by omega,by omega,by omega,by decide,h1,h2⟩)]
  simp only [ntN,Nat.add_zero]
  show ifB (Ah s a).isSome (some (V.tup [.j (A9 (Ah s a)),.j (Az a (Ah s a)),.b (BK (Ah s a))],[])) _=_
  cases Ah s a<;>rfl
 ·cases hq
theorem LP (s:List UInt8) (a n i:Int):A0 prog (Ab []) (Ab [(3,Oa)]) 0 (body f149 0) Oa ([.s s,.j a,.j n,.j i],[]) =
 ((ifB (decide (i<(5:Int))) (ifB (decide (i64.wrap (a+i)<(↑s.length:Int))) (ifT (decide ((0:Int)<=i64.wrap (a+i))) (Ap s[(i64.wrap
 (a+i)).toNat]? fun z=>ifT (decide ((0:Int)<=IntKind.u64.wrap (i64.wrap ((7:Int)*i)))) (ifB (decide (i64.wrap (↑z.toNat:Int)<(128:Int)))
 (ifB (decide (i>(0:Int))) (ifB (i64.wrap (↑z.toNat:Int)==(0:Int)) (some (Ex.ret,[V.j 0,V.j 0,V.b false],[])) (ifB (decide
 (i64.wrap (↑(BitVec.ofInt i64.bits n ||| BitVec.ofInt i64.bits (i64.wrap (i64.wrap (↑(BitVec.ofInt i64.bits
 (i64.wrap (↑z.toNat:Int)) &&& BitVec.ofInt i64.bits (127:Int)).toNat:Int)*(2:Int) ^ min (IntKind.u64.wrap (i64.wrap ((7:Int) *
 i))).toNat i64.bits))).toNat:Int)>(2000000001:Int))) (some (Ex.ret,[V.j 0,V.j 0,V.b false],[])) (some (Ex.ret,[V.j (i64.wrap
 (↑(BitVec.ofInt i64.bits n ||| BitVec.ofInt i64.bits (i64.wrap (i64.wrap (↑(BitVec.ofInt i64.bits (i64.wrap (↑z.toNat :
 Int)) &&& BitVec.ofInt i64.bits (127:Int)).toNat:Int)*(2:Int) ^ min (IntKind.u64.wrap (i64.wrap ((7:Int)*i))).toNat i64.bits))).toNat
 : Int)),V.j (i64.wrap (i64.wrap (a+i)+(1:Int))),V.b true],[])))) (ifB (decide (i64.wrap (↑(BitVec.ofInt i64.bits n |||
 BitVec.ofInt i64.bits (i64.wrap (i64.wrap (↑(BitVec.ofInt i64.bits (i64.wrap (↑z.toNat:Int)) &&& BitVec.ofInt i64.bits
 (127:Int)).toNat:Int)*(2:Int) ^ min (IntKind.u64.wrap (i64.wrap ((7:Int)*i))).toNat i64.bits))).toNat:Int)>(2000000001:Int))) (some
 (Ex.ret,[V.j 0,V.j 0,V.b false],[])) (some (Ex.ret,[V.j (i64.wrap (↑(BitVec.ofInt i64.bits n ||| BitVec.ofInt i64.bits
 (i64.wrap (i64.wrap (↑(BitVec.ofInt i64.bits (i64.wrap (↑z.toNat:Int)) &&& BitVec.ofInt i64.bits (127:Int)).toNat:Int)*(2
 : Int) ^ min (IntKind.u64.wrap (i64.wrap ((7:Int)*i))).toNat i64.bits))).toNat:Int)),V.j (i64.wrap (i64.wrap (a+i)+(1 :
 Int))),V.b true],[])))) (some (Ex.normal,[V.s s,V.j a,V.j (i64.wrap (↑(BitVec.ofInt i64.bits n ||| BitVec.ofInt i64.bits
 (i64.wrap (i64.wrap (↑(BitVec.ofInt i64.bits (i64.wrap (↑z.toNat:Int)) &&& BitVec.ofInt i64.bits (127:Int)).toNat:Int)*(2
 : Int) ^ min (IntKind.u64.wrap (i64.wrap ((7:Int)*i))).toNat i64.bits))).toNat:Int)),V.j (i64.wrap (i+(1:Int)))],[]))))) (some
 (Ex.exit 0,[],[]))) (some (Ex.exit 0,[],[]))):_):=by kernel_rfl
theorem NZ (s:List UInt8) (a:Nat) (hs:s.length<=4000000000) (ha:a<=4000000000) : ∀ (j i n:Nat),i+j=5->n<2 ^ (7*i)->∀ ex d,(Br.br (tv (5-i) (s.drop (a+i)) i n).isSome (.leaf (.ret,([.j (Cc (tv (5-i) (s.drop (a+i)) i n)),.j (Bc a (tv (5-i) (s.drop (a+i)) i n)),.b (BK (tv (5-i) (s.drop (a+i)) i n))],[]))) (.leaf (.exit 0,([],[]))):Br (Ex×Dt)).run=some (ex,d)->
  Runs prog (Ab []) (Ab [(3,Oa)]) 0 (body f149 0) Oa ([.s s,.j (a:Int),.j (n:Int),.j (i:Int)],[]) ex d
 | 0,i,n,hi,hn,ex,d,h=>by
  have hr:=LP s a n i
  rw [Ac (dcF (by omega))] at hr
  rw [show 5-i=0 by omega,tv] at h
  have h8:=Ar h
  obtain ⟨rfl,rfl⟩:=Prod.mk.inj h8
  exact .stop _ _ _ hr (by simp)
 | j+1,i,n,hi,hn,ex,d,h=>by
  have hr:=LP s a n i
  have hw:i64.wrap ((a:Int)+(i:Int))=((a+i:Nat):Int):=by rw [Ay (by omega) (by omega)]; omega
  rw [Af (dcT (by omega)),hw] at hr
  rw [show 5-i=(5-(i+1))+1 by omega] at h
  by_cases hl:a+i<s.length
  ·rw [Af (dcT (by omega)),Aa (dcT (by omega))] at hr
   have hz:=s[a+i].toNat_lt
   have hx:s[a+i].toNat % 128<128:=Nat.mod_lt _ (by decide)
   have hp:=Jy (i:=i) (by omega)
   have hm:s[a+i].toNat % 128*2 ^ (7*i)<=127*268435456:=mul_le_mul (by omega) hp
   have hw7:i64.wrap ((7:Int)*(i:Int))=7*(i:Int):=Ay (by omega) (by omega)
   have hwc:i64.wrap (s[a+i].toNat:Int)=(s[a+i].toNat:Int):=Ay (by omega) (by omega)
   have hu7:IntKind.u64.wrap (7*(i:Int))=7*(i:Int):=NS (by omega) (by omega)
   have hwx:i64.wrap ((s[a+i].toNat % 128:Nat):Int)=((s[a+i].toNat % 128:Nat):Int):=Ay (by omega) (by omega)
   simp only [ntN,gtE hl,As,hw7,hu7,hwc,Abd _ hz,Aaz _ i hx (by omega),or7 n _ i hn hx (by omega)] at hr
   rw [Aa (dcT (by omega))] at hr
   rw [drop_eq_getElem_cons hl,tv] at h
   have hm2:n+s[a+i].toNat % 128*2 ^ (7*i)<2 ^ (7*(i+1)):=by
    have h4:s[a+i].toNat % 128*2 ^ (7*i)<=127*2 ^ (7*i):=Nat.mul_le_mul_right _ (by omega)
    have h5:2 ^ (7*(i+1))=2 ^ (7*i)*128:=by rw [show 7*(i+1)=7*i+7 by omega,pow_add]
    omega
   have hwi:i64.wrap (((a+i:Nat):Int)+1)=((a+(i+1):Nat):Int):=by rw [Ay (by omega) (by omega)]; omega
   rw [A3 (n:=i) (by unfold maxI; omega)] at hr
   try rw [hwi] at hr
   generalize s[a+i].toNat % 128*2 ^ (7*i)=y at *
   have hi0:((i:Int)==0)=decide (i=0):=by
    by_cases h:i=0
    ·subst h; rfl
    ·rw [dcF h]; exact beq_false_of_ne (by omega)
   have hle:decide (((n+y:Nat):Int)<=2000000001)=decide (n+y<=2000000001):=decide_eq_decide.2 (by omega)
   have hgt:decide (((n+y:Nat):Int)>2000000001) = !decide (n+y<=2000000001):=by rw [<-decide_not]; exact decide_eq_decide.2 (by omega)
   have hb0:decide ((s[a+i].toNat:Int)>0)=decide (0<s[a+i].toNat):=decide_eq_decide.2 (by omega)
   have hbz:((s[a+i].toNat:Int)==0) = !decide (0<s[a+i].toNat):=by
    by_cases h:s[a+i].toNat=0
    ·rw [h]; rfl
    ·rw [dcT (by omega)]; exact beq_false_of_ne (by omega)
   have hig:decide ((i:Int)>0) = !decide (i=0):=by rw [<-decide_not]; exact decide_eq_decide.2 (by omega)
   simp only [hgt,hbz,hig] at hr
   by_cases hb:s[a+i].toNat<128
   ·rw [if_pos hb] at h
    rw [Af (dcT (by omega))] at hr
    have h8:=Ar h
    obtain ⟨rfl,rfl⟩:=Prod.mk.inj h8
    refine .stop _ _ _ (hr.trans ?_) (by simp)
    cases decide (n+y<=2000000001)<;>cases decide (0<s[a+i].toNat)<;>cases decide (i=0)<;>rfl
   ·rw [if_neg hb] at h
    rw [Ac (dcF (by omega))] at hr
    exact .step _ _ _ _ hr (NZ s a hs ha j (i+1) (n+y) (by omega) hm2 ex d h)
  ·rw [Ac (dcF (by omega))] at hr
   rw [drop_eq_nil_of_le (by omega),tv] at h
   have h8:=Ar h
   obtain ⟨rfl,rfl⟩:=Prod.mk.inj h8
   exact .stop _ _ _ hr (by simp)
theorem YH:A4 prog (Ab []) (Ab [(3,Oa)]) 0 (f149.body.getD .skip):=by
 refine Ax (a:=body f149 0) (by kernel_rfl) fun d ex d' h=>?_
 unfold Oa at h
 dsimp only at h
 split at h
 ·rename_i s a n i
  obtain ⟨hc,hx⟩:=Ae h
  clear h
  obtain ⟨h0,h1,h2,h3,h4,h5,h6⟩:=of_decide_eq_true hc
  obtain ⟨a,rfl⟩:=eq_ofNat_of_zero_le h0
  obtain ⟨n,rfl⟩:=eq_ofNat_of_zero_le h1
  obtain ⟨i,rfl⟩:=eq_ofNat_of_zero_le h2
  simp only [ntN] at h4 hx
  exact NZ s a h5 (by omega) (5-i) i n (by omega) h4 ex d' hx
 ·cases h
theorem tvs:Ad prog 149 (Ent.rd1 TW).F:=by
 refine Am KnowsL.nil.knows (Λ:=(Ab [(3,Oa)])) func149 (c:=f149.body.getD .skip) (by kernel_rfl) fun vs bs r hq hv hb=>?_
 unfold Ent.F TW at hq
 dsimp only at hq
 split at hq
 ·rename_i s a
  obtain ⟨hc,hx⟩:=Ae hq
  refine ⟨YH,Eq.trans ?_ hx⟩
  obtain ⟨h0,h1,h2⟩:=of_decide_eq_true hc
  obtain ⟨a,rfl⟩:=eq_ofNat_of_zero_le h0
  have e:AQ prog (Ab []) (Ab [(3,Oa)]) f149 [.s s,.j (a:Int)] []=((ifT (decide ((0:Int)<=(↑a:Int)/\(0:Int)<=(0:Int)/\(0:Int)<=(0:Int)/\(0:Int)<=(5:Int)/\0<2 ^ 0/\s.length<=(4000000000 :
 Nat)/\(↑a:Int)<=(4000000000:Int))) (ifB (tv 5 (drop ((↑a:Int).toNat+0) s) 0 0).isSome (some (V.tup [V.j (Cc (tv (5 :
 Nat) (drop ((↑a:Int).toNat+0) s) 0 0)),V.j (Bc (↑a:Int).toNat (tv 5 (drop ((↑a:Int).toNat+0) s) (0 :
 Nat) 0)),V.b (BK (tv 5 (drop ((↑a:Int).toNat+0) s) 0 0))],[])) (some (V.tup [V.j 0,V.j 0,V.b false],
 [])))):_):=by kernel_rfl
  rw [e]
  clear e
  rw [Aa (dcT ⟨by omega,by omega,by omega,by omega,by decide,h1,h2⟩)]
  simp only [ntN,Nat.add_zero]
  show ifB (Ah s a).isSome (some (V.tup [.j (Cc (Ah s a)),.j (Bc a (Ah s a)),.b (BK (Ah s a))],[])) _=_
  cases Ah s a<;>rfl
 ·cases hq
abbrev WFd:=Int×Int×Int×List UInt8×Unit
abbrev Pl:=WFd×Int×Unit
def unf (n:Int):Int:=if n % 2=1 then -((n+1) / 2) else n / 2
def AJ (f:WFd):Bool:=(decide (1<=f.1)&&decide (f.1<=30))&&(if f.2.1=0 then BT f.2.2.1&&f.2.2.2.1==[] else if f.2.1=2 then f.2.2.1==0 else false)
def AZ (s:List UInt8) (a:Nat):List UInt8×Int×Bool:=
 let u:=Ah s a
 if BK u=true/\A9 u<=s.length-Az a u then ((s.drop (Az a u).toNat).take (A9 u).toNat,Az a u+A9 u,true) else ([],0,false)
def Ba (s:List UInt8) (a:Nat):WFd×Int×Int×Bool:=
 let t:=Ah s a
 if BK t=false then ((0,0,0,[],()),0,0,false)
 else if A9 t % 8=2 then
  let b:=AZ s (Az a t).toNat
  ((A9 t / 8,2,0,b.1,()),a,b.2.1,b.2.2&&AJ (A9 t / 8,2,0,b.1,()))
 else
  let u:=Ah s (Az a t).toNat
  ((A9 t / 8,A9 t % 8,unf (A9 u),[],()),a,Az (Az a t).toNat u,BK u&&AJ (A9 t / 8,A9 t % 8,unf (A9 u),[],()))
def Ly:Gm
 | [.i .i64 n],[]=>.need (decide (0<=n/\n<=1000000000000)) (.leaf (.i .i64 (unf n),[]))
 | _,_=>.no
def Hd:Gm
 | [.agg [.i .i64 f0,.i .i64 f1,.i .i64 f2,.s f3]],[]=>.leaf (.b (AJ (f0,f1,f2,f3,())),[])
 | _,_=>.no
def tbG:Gm
 | [.s s,.i .i64 a],[]=>.need (decide (0<=a/\s.length<=4000000000/\a<=4000000000)) (.leaf (.tup [.s (AZ s a.toNat).1,.i .i64 (AZ s a.toNat).2.1,.b (AZ s a.toNat).2.2],[]))
 | _,_=>.no
def tfG:Gm
 | [.s s,.i .i64 a],[]=>.need (decide (0<=a/\s.length<=4000000000/\a<=4000000000)) (.leaf (.tup [.agg [.i .i64 (Ba s a.toNat).1.1,.i .i64 (Ba s a.toNat).1.2.1,.i .i64 (Ba s a.toNat).1.2.2.1,.s (Ba s a.toNat).1.2.2.2.1,.i .i64 (Ba s a.toNat).2.1],.i .i64 (Ba s a.toNat).2.2.1,.b (Ba s a.toNat).2.2.2],[]))
 | _,_=>.no
theorem ST (n:Int):AQ prog (Ab []) (Ab []) f174 [.j n] [] =
 ((ifB (n.tmod (2:Int)==(1:Int)) (some (V.j (i64.wrap ((i64.wrap ((0:Int)-i64.wrap (n+(1:Int)))).tdiv (2:Int))),[])) (some (V.i
 .i64 (i64.wrap (n.tdiv (2:Int))),[]))):_):=by kernel_rfl
theorem Vj (n:Int) (hc:0<=n/\n<=1000000000000):AQ prog (Ab []) (Ab []) f174 [.j n] []=(.leaf (.j (unf n),[]):Br (V×List (Option Blk))).run:=by
 rw [ST]
 unfold unf
 have h1:tmod n 2=n % 2:=Int.tmod_eq_emod_of_nonneg hc.1
 have h2:tdiv n 2=n / 2:=Int.tdiv_eq_ediv_of_nonneg hc.1
 have h3:i64.wrap (n+1)=n+1:=Ay (by omega) (by omega)
 have h4:i64.wrap (0-(n+1)) = -(n+1):=by rw [Ay (by omega) (by omega)]; omega
 have h5:tdiv (-(n+1)) 2 = -((n+1) / 2):=by rw [Int.neg_tdiv,Int.tdiv_eq_ediv_of_nonneg (by omega)]
 rw [h1,h2,h3,h4,h5]
 rw [Ay (n:=n / 2) (by omega) (by omega),Ay (n:=-((n+1) / 2)) (by omega) (by omega)]
 by_cases q:n % 2=1
 ·rw [Af (by simpa using q),if_pos q]; rfl
 ·rw [Ac (by simpa using q),if_neg q]; rfl
theorem Abo:Ad prog 174 (Ent.rd1 Ly).F:=by
 refine Am KnowsL.nil.knows (Λ:=Ab []) func174 (c:=f174.body.getD .skip) (by kernel_rfl) fun vs bs r' hq hv hb=>?_
 unfold Ent.F Ly at hq
 dsimp only at hq
 split at hq
 ·rename_i n
  obtain ⟨hc,hx⟩:=Ae hq
  exact ⟨Aq _,(Vj n (of_decide_eq_true hc)).trans hx⟩
 ·cases hq
theorem Sk (n:Int):AQ prog (Ab []) (Ab []) f150 [.j n] [] =
 ((ifB (n.tmod (2:Int)==(0:Int)) (some (V.j (i64.wrap (n.tdiv (2:Int))),[])) (some (V.j (i64.wrap ((i64.wrap ((0:Int) -
 i64.wrap (n+(1:Int)))).tdiv (2:Int))),[]))):_):=by kernel_rfl
theorem Ue (n:Int) (hc:0<=n/\n<=1000000000000):AQ prog (Ab []) (Ab []) f150 [.j n] []=(.leaf (.j (unf n),[]):Br (V×List (Option Blk))).run:=by
 rw [Sk]
 unfold unf
 have h1:tmod n 2=n % 2:=Int.tmod_eq_emod_of_nonneg hc.1
 have h2:tdiv n 2=n / 2:=Int.tdiv_eq_ediv_of_nonneg hc.1
 have h3:i64.wrap (n+1)=n+1:=Ay (by omega) (by omega)
 have h4:i64.wrap (0-(n+1)) = -(n+1):=by rw [Ay (by omega) (by omega)]; omega
 have h5:tdiv (-(n+1)) 2 = -((n+1) / 2):=by rw [Int.neg_tdiv,Int.tdiv_eq_ediv_of_nonneg (by omega)]
 rw [h1,h2,h3,h4,h5]
 rw [Ay (n:=n / 2) (by omega) (by omega),Ay (n:=-((n+1) / 2)) (by omega) (by omega)]
 by_cases q:n % 2=1
 ·rw [Ac (by rw [q]; rfl),if_pos q]; rfl
 ·rw [Af (by rw [show n % 2=0 by omega]; rfl),if_neg q]; rfl
theorem Aax:Ad prog 150 (Ent.rd1 Ly).F:=by
 refine Am KnowsL.nil.knows (Λ:=Ab []) func150 (c:=f150.body.getD .skip) (by kernel_rfl) fun vs bs r' hq hv hb=>?_
 unfold Ent.F Ly at hq
 dsimp only at hq
 split at hq
 ·rename_i n
  obtain ⟨hc,hx⟩:=Ae hq
  exact ⟨Aq _,(Ue n (of_decide_eq_true hc)).trans hx⟩
 ·cases hq
theorem Pe (f0 f1 f2:Int) (f3:List UInt8):AQ prog (Ab [(85,.rd1 AE),(172,.rd1 FG)]) (Ab []) f176 [.agg [.j f0,.j f1,.j f2,.s f3]] [] =
 ((ifB (!decide ((1:Int)<=f0/\f0<=(30:Int))) (some (V.b false,[])) (ifB (f1==(0:Int)) (ifB (BT f2) (some (V.b (f3==Ag UInt8),[])) (some (V.b false,[])))
 (ifB (f1==(2:Int)) (some (V.b (f2==(0:Int)),[])) (some (V.b false,[]))))):_):=by kernel_rfl
theorem QD (f0 f1 f2:Int) (f3:List UInt8):AQ prog (Ab [(85,.rd1 AE),(172,.rd1 FG)]) (Ab []) f176 [.agg [.j f0,.j f1,.j f2,.s f3]] []=(.leaf (.b (AJ (f0,f1,f2,f3,())),[]):Br (V×List (Option Blk))).run:=by
 rw [Pe]
 unfold AJ
 dsimp only
 have d1:decide (1<=f0/\f0<=30)=(decide (1<=f0)&&decide (f0<=30)):=Bool.decide_and ..
 rw [d1]
 cases hA:(decide (1<=f0)&&decide (f0<=30)) with
 | false=>rfl
 | true=>
  rw [Bool.not_true,Bd]
  by_cases q:f1=0
  ·rw [Af (by simpa using q),if_pos q]
   cases BT f2<;>rfl
  ·rw [Ac (by simpa using q),if_neg q]
   by_cases q2:f1=2
   ·rw [Af (by simpa using q2),if_pos q2]; rfl
   ·rw [Ac (by simpa using q2),if_neg q2]; rfl
theorem ZG:Ad prog 176 (Ent.rd1 Hd).F:=by
 refine Am (kc func85 EL (kc func172 UQ KnowsL.nil)).knows (Λ:=Ab []) func176 (c:=f176.body.getD .skip) (by kernel_rfl) fun vs bs r' hq hv hb=>?_
 unfold Ent.F Hd at hq
 dsimp only at hq
 split at hq
 ·rename_i f0 f1 f2 f3
  exact ⟨Aq _,(QD f0 f1 f2 f3).trans hq⟩
 ·cases hq
theorem Ov (f0 f1 f2:Int) (f3:List UInt8):AQ prog (Ab [(94,.rd1 AE),(98,.rd1 FG)]) (Ab []) f151 [.agg [.j f0,.j f1,.j f2,.s f3]] [] =
 ((ifB (!decide ((1:Int)<=f0/\f0<=(30:Int))) (some (V.b false,[])) (ifB (f1==(0:Int)) (ifB (BT f2) (some (V.b (f3==Ag UInt8),[])) (some (V.b false,[])))
 (ifB (f1==(2:Int)) (some (V.b (f2==(0:Int)),[])) (some (V.b false,[]))))):_):=by kernel_rfl
theorem Qa (f0 f1 f2:Int) (f3:List UInt8):AQ prog (Ab [(94,.rd1 AE),(98,.rd1 FG)]) (Ab []) f151 [.agg [.j f0,.j f1,.j f2,.s f3]] []=(.leaf (.b (AJ (f0,f1,f2,f3,())),[]):Br (V×List (Option Blk))).run:=by
 rw [Ov]
 unfold AJ
 dsimp only
 have d1:decide (1<=f0/\f0<=30)=(decide (1<=f0)&&decide (f0<=30)):=Bool.decide_and ..
 rw [d1]
 cases hA:(decide (1<=f0)&&decide (f0<=30)) with
 | false=>rfl
 | true=>
  rw [Bool.not_true,Bd]
  by_cases q:f1=0
  ·rw [Af (by simpa using q),if_pos q]
   cases BT f2<;>rfl
  ·rw [Ac (by simpa using q),if_neg q]
   by_cases q2:f1=2
   ·rw [Af (by simpa using q2),if_pos q2]; rfl
   ·rw [Ac (by simpa using q2),if_neg q2]; rfl
theorem YO:Ad prog 151 (Ent.rd1 Hd).F:=by
 refine Am (kc func94 OW (kc func98 RC KnowsL.nil)).knows (Λ:=Ab []) func151 (c:=f151.body.getD .skip) (by kernel_rfl) fun vs bs r' hq hv hb=>?_
 unfold Ent.F Hd at hq
 dsimp only at hq
 split at hq
 ·rename_i f0 f1 f2 f3
  exact ⟨Aq _,(Qa f0 f1 f2 f3).trans hq⟩
 ·cases hq
theorem Ey (s:List UInt8) (a:Nat):(0<=A9 (Ah s a)/\A9 (Ah s a)<=34359738368)/\0<=Az a (Ah s a)/\Az a (Ah s a)<=s.length:=by
 cases e:Ah s a with
 | none=>exact ⟨⟨by decide,by decide⟩,Int.le_refl 0,Int.natCast_nonneg _⟩
 | some x=>
  obtain ⟨n,k,ok⟩:=x
  obtain ⟨h1,h2,h3,h4⟩:=DY e
  dsimp only at h1 h2 h3 h4
  refine ⟨⟨?_,?_⟩,?_,?_⟩
  ·show (0:Int)<=(n:Int); omega
  ·show (n:Int)<=34359738368; omega
  ·show (0:Int)<=((a+k:Nat):Int); omega
  ·show ((a+k:Nat):Int)<=(s.length:Int); omega
theorem EN {s:List UInt8} {a:Nat} (h:BK (Ah s a)=true):(a:Int)<Az a (Ah s a)/\Az a (Ah s a)<=s.length:=by
 refine ⟨?_,(Ey s a).2.2⟩
 cases e:Ah s a with
 | none=>rw [e] at h; cases h
 | some x=>
  obtain ⟨n,k,ok⟩:=x
  obtain ⟨h1,h2,h3,h4⟩:=DY e
  show (a:Int)<((a+k:Nat):Int)
  dsimp only at h2
  omega
theorem Vl (s:List UInt8) (a:Int):AQ prog (Ab [(173,.rd1 PT)]) (Ab []) f175 [.s s,.j a] [] =
 ((ifT (decide ((0:Int)<=a/\s.length<=4000000000/\a<=(4000000000:Int))) (ifB (!BK (Ah s a.toNat)) (some (V.tup [V.s (Ag UInt8),V.j 0,V.b false],
 [])) (ifB (decide (A9 (Ah s a.toNat)>i64.wrap ((↑s.length:Int)-Az a.toNat (Ah s a.toNat)))) (some (V.tup [V.s (Ag UInt8),V.j 0,V.b false],
 [])) (ifT (decide ((0:Int)<=Az a.toNat (Ah s a.toNat))&&decide (Az a.toNat (Ah s a.toNat)<=i64.wrap (Az a.toNat (Ah s a.toNat)+A9 (Ah s
 a.toNat)))&&decide (i64.wrap (Az a.toNat (Ah s a.toNat)+A9 (Ah s a.toNat))<=(↑s.length:Int))) (some (V.tup [V.s (take ((i64.wrap (Az
 a.toNat (Ah s a.toNat)+A9 (Ah s a.toNat))).toNat-(Az a.toNat (Ah s a.toNat)).toNat) (drop (Az a.toNat (Ah s a.toNat)).toNat s)),V.i .i64
 (i64.wrap (Az a.toNat (Ah s a.toNat)+A9 (Ah s a.toNat))),V.b true],[])))))):_):=by kernel_rfl
theorem Xx (s:List UInt8) (a:Int) (hc:0<=a/\s.length<=4000000000/\a<=4000000000):AQ prog (Ab [(173,.rd1 PT)]) (Ab []) f175 [.s s,.j a] []=(.leaf (.tup [.s (AZ s a.toNat).1,.j (AZ s a.toNat).2.1,.b (AZ s a.toNat).2.2],[]):Br (V×List (Option Blk))).run:=by
 rw [Vl]
 obtain ⟨h1,h2,h3⟩:=hc
 obtain ⟨a,rfl⟩:=eq_ofNat_of_zero_le h1
 simp only [ntN]
 obtain ⟨⟨u1,u2⟩,u3,u4⟩:=Ey s a
 rw [Aa (dcT ⟨h1,h2,h3⟩)]
 unfold AZ
 dsimp only
 have w1:i64.wrap ((s.length:Int)-Az a (Ah s a))=(s.length:Int)-Az a (Ah s a):=Ay (by omega) (by omega)
 have w2:i64.wrap (Az a (Ah s a)+A9 (Ah s a))=Az a (Ah s a)+A9 (Ah s a):=Ay (by omega) (by omega)
 simp only [w1,w2]
 cases hk:BK (Ah s a) with
 | false=>rw [Bool.not_false,Bq,if_neg (fun h=>by cases h.1)]; rfl
 | true=>
  rw [Bool.not_true,Bd]
  by_cases q:A9 (Ah s a)<=s.length-Az a (Ah s a)
  ·rw [Ac (dcF (by omega)),if_pos ⟨rfl,q⟩,Aa (by simp only [anE,dcE]; omega)]
   have e:(Az a (Ah s a)+A9 (Ah s a)).toNat-(Az a (Ah s a)).toNat=(A9 (Ah s a)).toNat:=by omega
   rw [e]; rfl
  ·rw [Af (dcT (by omega)),if_neg (fun h=>q h.2)]; rfl
theorem itb:Ad prog 175 (Ent.rd1 tbG).F:=by
 refine Am (kc func173 tvi KnowsL.nil).knows (Λ:=Ab []) func175 (c:=f175.body.getD .skip) (by kernel_rfl) fun vs bs r' hq hv hb=>?_
 unfold Ent.F tbG at hq
 dsimp only at hq
 split at hq
 ·rename_i s a
  obtain ⟨hc,hx⟩:=Ae hq
  exact ⟨Aq _,(Xx s a (of_decide_eq_true hc)).trans hx⟩
 ·cases hq
theorem Vk (s:List UInt8) (a:Int):AQ prog (Ab [(173,.rd1 PT),(175,.rd1 tbG),(174,.rd1 Ly),(176,.rd1 Hd)]) (Ab []) f152 [.s s,.j a] [] =
 ((ifT (decide ((0:Int)<=a/\s.length<=4000000000/\a<=(4000000000:Int))) (ifB (!BK (Ah s a.toNat)) (some (V.tup [V.agg [V.j 0,V.j 0,V.i .i64
 0,V.s (Ag UInt8),V.j 0],V.j 0,V.b false],[])) (ifB ((A9 (Ah s a.toNat)).tmod (8:Int)==(2:Int)) (ifT (decide ((0:Int)<=Az a.toNat (Ah s
 a.toNat)/\s.length<=4000000000/\Az a.toNat (Ah s a.toNat)<=(4000000000:Int))) (ifB (AZ s (Az a.toNat (Ah s a.toNat)).toNat).snd.snd (some (V.tup
 [V.agg [V.j (i64.wrap ((A9 (Ah s a.toNat)).tdiv (8:Int))),V.j ((A9 (Ah s a.toNat)).tmod (8:Int)),V.j 0,V.s (AZ s (Az a.toNat
 (Ah s a.toNat)).toNat).fst,V.j a],V.j (AZ s (Az a.toNat (Ah s a.toNat)).toNat).snd.fst,V.b (AJ (i64.wrap ((A9 (Ah s a.toNat)).tdiv (8
 : Int)),(A9 (Ah s a.toNat)).tmod (8:Int),(0:Int),(AZ s (Az a.toNat (Ah s a.toNat)).toNat).fst,()))],[])) (some (V.tup [V.agg [V.i .i64
 (i64.wrap ((A9 (Ah s a.toNat)).tdiv (8:Int))),V.j ((A9 (Ah s a.toNat)).tmod (8:Int)),V.j 0,V.s (AZ s (Az a.toNat (Ah s
 a.toNat)).toNat).fst,V.j a],V.j (AZ s (Az a.toNat (Ah s a.toNat)).toNat).snd.fst,V.b false],[])))) (ifT (decide ((0:Int)<=Az a.toNat (Ah s
 a.toNat)/\s.length<=4000000000/\Az a.toNat (Ah s a.toNat)<=(4000000000:Int))) (ifT (decide ((0:Int)<=A9 (Ah s (Az a.toNat (Ah s
 a.toNat)).toNat)/\A9 (Ah s (Az a.toNat (Ah s a.toNat)).toNat)<=(1000000000000:Int))) (ifB (BK (Ah s (Az a.toNat (Ah s a.toNat)).toNat)) (some (V.tup
 [V.agg [V.j (i64.wrap ((A9 (Ah s a.toNat)).tdiv (8:Int))),V.j ((A9 (Ah s a.toNat)).tmod (8:Int)),V.j (unf (A9 (Ah s (Az a.toNat
 (Ah s a.toNat)).toNat))),V.s (Ag UInt8),V.j a],V.j (Az (Az a.toNat (Ah s a.toNat)).toNat (Ah s (Az a.toNat (Ah s a.toNat)).toNat)),V.b
 (AJ (i64.wrap ((A9 (Ah s a.toNat)).tdiv (8:Int)),(A9 (Ah s a.toNat)).tmod (8:Int),unf (A9 (Ah s (Az a.toNat (Ah s a.toNat)).toNat)),
 Ag UInt8,()))],[])) (some (V.tup [V.agg [V.j (i64.wrap ((A9 (Ah s a.toNat)).tdiv (8:Int))),V.j ((A9 (Ah s a.toNat)).tmod (8:Int)),V.i
 .i64 (unf (A9 (Ah s (Az a.toNat (Ah s a.toNat)).toNat))),V.s (Ag UInt8),V.j a],V.j (Az (Az a.toNat (Ah s a.toNat)).toNat (Ah s (Az
 a.toNat (Ah s a.toNat)).toNat)),V.b false],[])))))))):_):=by kernel_rfl
theorem Xw (s:List UInt8) (a:Int) (hc:0<=a/\s.length<=4000000000/\a<=4000000000):AQ prog (Ab [(173,.rd1 PT),(175,.rd1 tbG),(174,.rd1 Ly),(176,.rd1 Hd)]) (Ab []) f152 [.s s,.j a] []=(.leaf (.tup [.agg [.j (Ba s a.toNat).1.1,.j (Ba s a.toNat).1.2.1,.j (Ba s a.toNat).1.2.2.1,.s (Ba s a.toNat).1.2.2.2.1,.j (Ba s a.toNat).2.1],.j (Ba s a.toNat).2.2.1,.b (Ba s a.toNat).2.2.2],[]):Br (V×List (Option Blk))).run:=by
 rw [Vk]
 obtain ⟨h1,h2,h3⟩:=hc
 obtain ⟨a,rfl⟩:=eq_ofNat_of_zero_le h1
 simp only [ntN]
 obtain ⟨⟨u1,u2⟩,u3,u4⟩:=Ey s a
 obtain ⟨⟨v1,v2⟩,v3,v4⟩:=Ey s (Az a (Ah s a)).toNat
 have e1:tdiv (A9 (Ah s a)) 8=A9 (Ah s a) / 8:=Int.tdiv_eq_ediv_of_nonneg u1
 have e2:tmod (A9 (Ah s a)) 8=A9 (Ah s a) % 8:=Int.tmod_eq_emod_of_nonneg u1
 have e3:i64.wrap (A9 (Ah s a) / 8)=A9 (Ah s a) / 8:=Ay (by omega) (by omega)
 rw [Aa (dcT ⟨h1,h2,h3⟩)]
 simp only [e1,e2,e3]
 unfold Ba
 dsimp only
 cases hk:BK (Ah s a) with
 | false=>rw [Bool.not_false,Bq,if_pos rfl]; rfl
 | true=>
  rw [Bool.not_true,Bd,if_neg (by simp)]
  have hd:decide (0<=Az a (Ah s a)/\s.length<=4000000000/\Az a (Ah s a)<=4000000000)=true:=dcT ⟨u3,h2,by omega⟩
  by_cases q:A9 (Ah s a) % 8=2
  ·rw [Af (by simpa using q),if_pos q,q,hd,Dc]
   cases hb:(AZ s (Az a (Ah s a)).toNat).2.2<;>rfl
  ·rw [Ac (by simpa using q),if_neg q,hd,Dc,Aa (dcT ⟨v1,by omega⟩)]
   cases hb:BK (Ah s (Az a (Ah s a)).toNat)<;>rfl
theorem itf:Ad prog 152 (Ent.rd1 tfG).F:=by
 refine Am (kc func173 tvi (kc func175 itb (kc func174 Abo (kc func176 ZG KnowsL.nil)))).knows (Λ:=Ab []) func152 (c:=f152.body.getD .skip) (by kernel_rfl) fun vs bs r' hq hv hb=>?_
 unfold Ent.F tfG at hq
 dsimp only at hq
 split at hq
 ·rename_i s a
  obtain ⟨hc,hx⟩:=Ae hq
  exact ⟨Aq _,(Xw s a (of_decide_eq_true hc)).trans hx⟩
 ·cases hq
theorem JL {s:List UInt8} {a:Nat} (h:(Ba s a).2.2.2=true):AJ (Ba s a).1=true/\(a:Int)<(Ba s a).2.2.1/\(Ba s a).2.2.1<=s.length/\(Ba s a).2.1=a:=by
 have ha : ∀ {x:Int},(0:Int)<=x->((x.toNat:Nat):Int)=x:=fun h=>by omega
 unfold Ba at h ⊢
 dsimp only at h ⊢
 cases hk:BK (Ah s a) with
 | false=>rw [hk] at h; cases h
 | true=>
  have t1:=EN hk
  have t2:=ha (x:=Az a (Ah s a)) (by omega)
  rw [hk,if_neg (by simp)] at h
  rw [if_neg (by simp)]
  by_cases q:A9 (Ah s a) % 8=2
  ·rw [if_pos q] at h ⊢
   dsimp only at h ⊢
   rw [anE] at h
   refine ⟨h.2,?_⟩
   have h:=h.1
   unfold AZ at h ⊢
   dsimp only at h ⊢
   split at h
   ·rename_i hh
    rw [if_pos hh]
    have u:=EN hh.1
    have v:=(Ey s (Az a (Ah s a)).toNat).1.1
    dsimp only
    exact ⟨by omega,by omega,rfl⟩
   ·cases h
  ·rw [if_neg q] at h ⊢
   dsimp only at h ⊢
   rw [anE] at h
   have u:=EN h.1
   exact ⟨h.2,by omega,u.2,rfl⟩
def rdL (s:List UInt8):Nat->Nat->List Pl->Option (List Pl)
 | 0,a,o=>if a<s.length then none else some o
 | f+1,a,o=>if a<s.length then (if (Ba s a).2.2.2=true/\o.length≠40 then rdL s f (Ba s a).2.2.1.toNat (o++[((Ba s a).1,(a:Int),())]) else none) else some o
def rdP (s:List UInt8):Option (List Pl):=if s.length<=400 then rdL s s.length 0 [] else none
def S1:Gm
 | [.s s],[]=>.need (decide (s.length<=4000000000)) (.leaf (.tup [.ref 0 0 ((rdP s).getD []).length,.b (rdP s).isSome],[some (.row false none PCd ((rdP s).getD []))]))
 | _,_=>.no
def O1:LoopEnt:=⟨37,[0,4,5],[4],[2,3],fun
 | ([.s s,.ref 0 0 n,.i .i64 a],[some (.row false none PCd o)])=>.need (decide (0<=a/\a.toNat<=s.length/\s.length<=400/\n=o.length/\o.length<=a.toNat)) (.br (rdL s (s.length-a.toNat) a.toNat o).isSome (.leaf (.exit 0,([.ref 0 0 ((rdL s (s.length-a.toNat) a.toNat o).getD []).length],[some (.row false none PCd ((rdL s (s.length-a.toNat) a.toNat o).getD []))]))) (.leaf (.ret,([.ref 0 0 0,.b false],[some (.row false none PCd [])]))))
 | _=>.no⟩
theorem Ma (s:List UInt8) (n:Nat) (a:Int) (o:List Pl):A0 prog (Ab [(152,.rd1 tfG)]) (Ab [(5,O1)]) 0 (body f111 0) O1 ([.s s,.ref 0 0 n,.j a],[some (.row false none PCd o)]) =
 ((ifB (decide (a<(↑s.length:Int))) (ifT (decide ((0:Int)<=a/\s.length<=4000000000/\a<=(4000000000:Int))) (ifB (!(Ba s a.toNat).snd.snd.snd) (some
 (Ex.ret,[V.ref 0 0 0,V.b false],[some (Blk.row false none PCd (Ag PCd.den))])) (ifB ((↑n:Int)==(40:Int)) (some (Ex.ret,[V.ref 0 0 0,V.b false],[some
 (Blk.row false none PCd (Ag PCd.den))])) (ifT (decide ((n+1)*48<=140737488355328)&&decide (n+1<=maxI)) (some (Ex.normal,[V.s
 s,V.ref 0 0 (n+1),V.j (Ba s a.toNat).snd.snd.fst],[some (Blk.row false none PCd (take n (drop 0 o)++(((Ba s a.toNat).fst.fst,
 (Ba s a.toNat).fst.snd.fst,(Ba s a.toNat).fst.snd.snd.fst,(Ba s a.toNat).fst.snd.snd.snd.fst,()),(Ba s a.toNat).snd.fst,())::Ag PCd.den))])))))) (some
 (Ex.exit 0,[V.ref 0 0 n],[some (Blk.row false none PCd o)]))):_):=by kernel_rfl
theorem U4 (s:List UInt8):Bt prog (Ab [(152,.rd1 tfG)]) (Ab [(5,O1)]) f111 [.s s] [] =
 ((ifB (decide ((↑s.length:Int)>(400:Int))) (some (V.tup [V.ref 0 0 0,V.b false],[some (Blk.row false none PCd (Ag PCd.den))])) (ifT (decide ((0:Int)<=(0:Int)
 /\ 0<=s.length/\s.length<=400/\0=0/\0<=0)) (ifB (rdL s (s.length-0) 0 (Ag PCd.den)).isSome
 (some (V.tup [V.ref 0 0 ((rdL s (s.length-0) 0 (Ag PCd.den)).getD (Ag Pl)).length,V.b true],[some (Blk.row false none PCd ((rdL s (s.length-(0 :
 Nat)) 0 (Ag PCd.den)).getD (Ag Pl)))])) (some (V.tup [V.ref 0 0 0,V.b false],[some (Blk.row false none PCd (Ag PCd.den))]))))):_):=by kernel_rfl
theorem O3 (s:List UInt8) : ∀ (f f' a:Nat) (o:List Pl),s.length-a<=f->s.length-a<=f'->rdL s f a o=rdL s f' a o:=by
 intro f
 induction f with
 | zero=>
  intro f' a o h1 h2
  cases f' with
  | zero=>rfl
  | succ f'=>rw [rdL,rdL,if_neg (by omega),if_neg (by omega)]
 | succ f ih=>
  intro f' a o h1 h2
  cases f' with
  | zero=>rw [rdL,rdL,if_neg (by omega),if_neg (by omega)]
  | succ f'=>
   rw [rdL,rdL]
   by_cases q:a<s.length
   ·rw [if_pos q,if_pos q]
    by_cases q2:(Ba s a).2.2.2=true/\o.length≠40
    ·rw [if_pos q2,if_pos q2]
     have:=JL q2.1
     exact ih f' _ _ (by omega) (by omega)
    ·rw [if_neg q2,if_neg q2]
   ·rw [if_neg q,if_neg q]
theorem U8 {s:List UInt8} {a:Nat} {o:List Pl} (h:a<s.length) (h1:(Ba s a).2.2.2=true) (h2:o.length≠40):rdL s (s.length-a) a o=rdL s (s.length-(Ba s a).2.2.1.toNat) (Ba s a).2.2.1.toNat (o++[((Ba s a).1,(a:Int),())]):=by
 have e:s.length-a=(s.length-a-1)+1:=by omega
 have ht:=JL h1
 rw [e,rdL,if_pos h,if_pos ⟨h1,h2⟩]
 exact O3 s _ _ _ _ (by omega) (by omega)
theorem Rr {s:List UInt8} {a:Nat} {o:List Pl} (h:a<s.length) (h1:(Ba s a).2.2.2=false\/o.length=40):rdL s (s.length-a) a o=none:=by
 have e:s.length-a=(s.length-a-1)+1:=by omega
 rw [e,rdL,if_pos h,if_neg]
 rintro ⟨h2,h3⟩
 rcases h1 with h1 | h1
 ·rw [h1] at h2; cases h2
 ·exact h3 h1
theorem Rq {s:List UInt8} {a:Nat} {o:List Pl} (h:s.length<=a):rdL s (s.length-a) a o=some o:=by
 have e:s.length-a=0:=by omega
 rw [e,rdL,if_neg (by omega)]
theorem U5 (s:List UInt8) (hs:s.length<=400) : ∀ (j a:Nat) (o:List Pl),s.length-a<=j->a<=s.length->o.length<=a->∀ ex d,(Br.br (rdL s (s.length-a) a o).isSome (.leaf (.exit 0,([.ref 0 0 ((rdL s (s.length-a) a o).getD []).length],[some (.row false none PCd ((rdL s (s.length-a) a o).getD []))]))) (.leaf (.ret,([.ref 0 0 0,.b false],[some (.row false none PCd [])]))):Br (Ex×Dt)).run=some (ex,d)->
  Runs prog (Ab [(152,.rd1 tfG)]) (Ab [(5,O1)]) 0 (body f111 0) O1 ([.s s,.ref 0 0 o.length,.j (a:Int)],[some (.row false none PCd o)]) ex d:=by
 intro j
 induction j with
 | zero=>
  intro a o hj ha ho ex d h
  have hr:=Ma s o.length a o
  rw [Ac (dcF (by omega))] at hr
  rw [Rq (by omega)] at h
  have h8:=Ar (show (Br.leaf (.exit 0,([.ref 0 0 o.length],[some (.row false none PCd o)])):Br (Ex×Dt)).run=some (ex,d) from h)
  obtain ⟨rfl,rfl⟩:=Prod.mk.inj h8
  exact .stop _ _ _ hr (by simp)
 | succ j ih=>
  intro a o hj ha ho ex d h
  have hr:=Ma s o.length a o
  have hM:maxI=9223372036854775807:=rfl
  by_cases q:a<s.length
  ·rw [Af (dcT (by omega)),Aa (dcT (by omega)),ntN] at hr
   cases hk:(Ba s a).2.2.2 with
   | false=>
    rw [hk,Bool.not_false,Bq] at hr
    rw [Rr q (.inl hk)] at h
    have h8:=Ar (show (Br.leaf (.ret,([.ref 0 0 0,.b false],[some (.row false none PCd [])])):Br (Ex×Dt)).run=some (ex,d) from h)
    obtain ⟨rfl,rfl⟩:=Prod.mk.inj h8
    exact .stop _ _ _ hr (by simp)
   | true=>
    obtain ⟨t1,t2,t3,t4⟩:=JL hk
    rw [hk,Bool.not_true,Bd] at hr
    by_cases q2:o.length=40
    ·rw [Af (by rw [q2]; rfl)] at hr
     rw [Rr q (.inr q2)] at h
     have h8:=Ar (show (Br.leaf (.ret,([.ref 0 0 0,.b false],[some (.row false none PCd [])])):Br (Ex×Dt)).run=some (ex,d) from h)
     obtain ⟨rfl,rfl⟩:=Prod.mk.inj h8
     exact .stop _ _ _ hr (by simp)
    ·rw [Ac (by simpa using fun e=>q2 (by omega)),Aa (by simp only [anE,dcE]; omega),drop_zero,take_length,t4] at hr
     rw [U8 q hk q2] at h
     obtain ⟨b,hb⟩:=eq_ofNat_of_zero_le (a:=(Ba s a).2.2.1) (by omega)
     rw [hb] at hr h t2 t3
     rw [ntN] at h
     have:=ih b (o++[((Ba s a).1,(a:Int),())]) (by omega) (by omega) (by simp; omega) ex d h
     rw [length_append] at this
     exact .step _ _ _ _ hr this
  ·rw [Ac (dcF (by omega))] at hr
   rw [Rq (by omega)] at h
   have h8:=Ar (show (Br.leaf (.exit 0,([.ref 0 0 o.length],[some (.row false none PCd o)])):Br (Ex×Dt)).run=some (ex,d) from h)
   obtain ⟨rfl,rfl⟩:=Prod.mk.inj h8
   exact .stop _ _ _ hr (by simp)
theorem YY:A4 prog (Ab [(152,.rd1 tfG)]) (Ab [(5,O1)]) 0 (f111.body.getD .skip):=by
 refine Ax (a:=body f111 0) (by kernel_rfl) fun d ex d' h=>?_
 unfold O1 at h
 dsimp only at h
 split at h
 ·rename_i s n a o
  obtain ⟨hc,hx⟩:=Ae h
  clear h
  obtain ⟨h0,h1,h2,rfl,h4⟩:=of_decide_eq_true hc
  obtain ⟨a,rfl⟩:=eq_ofNat_of_zero_le h0
  simp only [ntN] at h1 h4 hx
  exact U5 s h2 _ a o (Nat.le_refl _) h1 h4 ex d' hx
 ·cases h
theorem rdp:Ad prog 111 (Ent.rd1 S1).F:=by
 refine Au (kc func152 itf KnowsL.nil).knows (Λ:=(Ab [(5,O1)])) func111 (c:=f111.body.getD .skip) (by kernel_rfl) fun vs bs r hq hv hb=>?_
 unfold Ent.F S1 at hq
 dsimp only at hq
 split at hq
 ·rename_i s
  obtain ⟨hc,hx⟩:=Ae hq
  refine ⟨YY,Eq.trans ?_ hx⟩
  rw [U4]
  unfold rdP
  by_cases q:s.length<=400
  ·rw [Ac (dcF (by omega)),if_pos q,Aa (dcT ⟨by omega,by omega,q,rfl,by omega⟩),sub_zero]
   simp only [AI]
   cases rdL s s.length 0 []<;>rfl
  ·rw [Af (dcT (by omega)),if_neg q]; rfl
 ·cases hq
def CG (ns:List Int) (i:Nat):Bool:=i==0||decide (ns.getD (i-1) 0<ns.getD i 0)
def L0 (ns:List Int):Bool:=(range ns.length).all (CG ns)
def Ik (l:List Pl):List Int:=l.map fun x=>x.1.1
def DD (l:List WFd):List Int:=l.map fun x=>x.1
def CM (s:List UInt8):Option (List Pl):=match rdP s with | some l=>(if L0 (Ik l)=true then some l else none) | none=>none
def O0:LoopEnt:=⟨39,[4,15,16],[4],[2,3],fun
 | ([.ref 0 0 m,.i .i64 k,.i .i64 i],[some (.row false none PCd o)])=>.need (decide (0<=i/\i.toNat<=o.length/\m=o.length/\k=o.length/\o.length<=4000000000)) (.br (((range o.length).drop i.toNat).all (CG (Ik o))) (.leaf (.exit 0,([.ref 0 0 o.length],[some (.row false none PCd o)]))) (.leaf (.ret,([.ref 0 0 0,.b false],[some (.row false none PCd [])]))))
 | _=>.no⟩
def Ux:Gm
 | [.s s],[]=>.need (decide (s.length<=4000000000)) (.leaf (.tup [.ref 0 0 ((CM s).getD []).length,.b (CM s).isSome],[some (.row false none PCd ((CM s).getD []))]))
 | _,_=>.no
theorem LW (m:Nat) (k i:Int) (o:List Pl):A0 prog (Ab [(111,.rd1 S1)]) (Ab [(5,O0)]) 0 (body f59 0) O0 ([.ref 0 0 m,.j k,.j i],[some (.row false none PCd o)]) =
 ((ifB (decide (i<k)) (ifB (decide (i>(0:Int))) (ifT (decide ((0:Int)<=i64.wrap (i-(1:Int)))&&decide (i64.wrap (i-(1:Int))<(↑m:Int)))
 (Ap o[0+(i64.wrap (i-(1:Int))).toNat]? fun z=>ifT (decide ((0:Int)<=i)&&decide (i<(↑m:Int))) (Ap o[0+i.toNat]? fun z_1
 => ifB (decide (z.fst.fst>=z_1.fst.fst)) (some (Ex.ret,[V.ref 0 0 0,V.b false],[some (Blk.row false none PCd (Ag PCd.den))])) (some (Ex.normal,[V.ref 0 0 m,V.i
 .i64 k,V.j (i64.wrap (i+(1:Int)))],[some (Blk.row false none PCd o)]))))) (some (Ex.normal,[V.ref 0 0 m,V.j k,V.j (i64.wrap (i +
 (1:Int)))],[some (Blk.row false none PCd o)]))) (some (Ex.exit 0,[V.ref 0 0 m],[some (Blk.row false none PCd o)]))):_):=by kernel_rfl
theorem Uv (s:List UInt8):Bt prog (Ab [(111,.rd1 S1)]) (Ab [(5,O0)]) f59 [.s s] [] =
 ((ifT (decide (s.length<=4000000000)) (ifB (!(rdP s).isSome) (some (V.tup [V.ref 0 0 0,V.b false],[some (Blk.row false none PCd (Ag PCd.den))])) (ifT (decide
 ((0:Int)<=(0:Int)/\0<=((rdP s).getD (Ag Pl)).length/\((rdP s).getD (Ag Pl)).length=((rdP s).getD (Ag Pl)).length/\(↑((rdP s).getD (Ag
 Pl)).length:Int)=(↑((rdP s).getD (Ag Pl)).length:Int)/\((rdP s).getD (Ag Pl)).length<=4000000000)) (ifB ((drop 0 (range ((rdP
 s).getD (Ag Pl)).length)).all (CG (Ik ((rdP s).getD (Ag Pl))))) (some (V.tup [V.ref 0 0 ((rdP s).getD (Ag Pl)).length,V.b true],[some (Blk.row false none PCd
 ((rdP s).getD (Ag Pl)))])) (some (V.tup [V.ref 0 0 0,V.b false],[some (Blk.row false none PCd (Ag PCd.den))])))))):_):=by kernel_rfl
theorem JW (o:List Pl) (hm:o.length<=4000000000) : ∀ (j i:Nat),i+j=o.length->∀ ex d,(Br.br (((range o.length).drop i).all (CG (Ik o))) (.leaf (.exit 0,([.ref 0 0 o.length],[some (.row false none PCd o)]))) (.leaf (.ret,([.ref 0 0 0,.b false],[some (.row false none PCd [])]))):Br (Ex×Dt)).run=some (ex,d)->
  Runs prog (Ab [(111,.rd1 S1)]) (Ab [(5,O0)]) 0 (body f59 0) O0 ([.ref 0 0 o.length,.j (o.length:Int),.j (i:Int)],[some (.row false none PCd o)]) ex d
 | 0,i,hi,ex,d,h=>by
  have hr:=LW o.length o.length i o
  rw [Ac (dcF (by omega))] at hr
  rw [drop_eq_nil_of_le (by simp; omega)] at h
  have h8:=Ar (show (Br.leaf (.exit 0,([.ref 0 0 o.length],[some (.row false none PCd o)])):Br (Ex×Dt)).run=some (ex,d) from h)
  obtain ⟨rfl,rfl⟩:=Prod.mk.inj h8
  exact .stop _ _ _ hr (by simp)
 | j+1,i,hi,ex,d,h=>by
  have hl:i<o.length:=by omega
  have hM:maxI=9223372036854775807:=rfl
  have hr:=LW o.length o.length i o
  have hd:(range o.length).drop i=i::(range o.length).drop (i+1):=by
   rw [drop_eq_getElem_cons (by simpa using hl)]
   simp
  rw [hd,all_cons] at h
  rw [Af (dcT (by omega)),A3 (n:=i) (by omega)] at hr
  have gA : ∀ {x:Nat} (hx:x<o.length),(Ik o).getD x 0=o[x].1.1:=fun hx=>by unfold Ik; simp [hx]
  skip
  by_cases q0:i=0
  ·subst q0
   rw [Ac (dcF (by omega))] at hr
   have e0:CG (Ik o) 0=true:=rfl
   rw [e0,Bool.true_and] at h
   exact .step _ _ _ _ hr (JW o hm j 1 (by omega) ex d h)
  ·have hw:i64.wrap ((i:Int)-1)=((i-1:Nat):Int):=by rw [Ay (by omega) (by omega)]; omega
   have hl1:i-1<o.length:=by omega
   rw [Af (dcT (by omega)),hw,Aa (by simp only [anE,dcE]; omega),ntN,zero_add,gtE hl1,As] at hr
   rw [Aa (by simp only [anE,dcE]; omega),ntN,zero_add,gtE hl,As] at hr
   have er:CG (Ik o) i=decide (o[i-1].1.1<o[i].1.1):=by
    unfold CG
    rw [gA hl1,gA hl,beq_false_of_ne q0,Bool.false_or]
   rw [er] at h
   by_cases q:o[i-1].1.1<o[i].1.1
   ·rw [Ac (dcF (by omega))] at hr
    rw [dcT q,Bool.true_and] at h
    exact .step _ _ _ _ hr (JW o hm j (i+1) (by omega) ex d h)
   ·rw [Af (dcT (by omega))] at hr
    rw [dcF q,Bool.false_and] at h
    have h8:=Ar (show (Br.leaf (.ret,([.ref 0 0 0,.b false],[some (.row false none PCd [])])):Br (Ex×Dt)).run=some (ex,d) from h)
    obtain ⟨rfl,rfl⟩:=Prod.mk.inj h8
    exact .stop _ _ _ hr (by simp)
theorem YX:A4 prog (Ab [(111,.rd1 S1)]) (Ab [(5,O0)]) 0 (f59.body.getD .skip):=by
 refine Ax (a:=body f59 0) (by kernel_rfl) fun d ex d' h=>?_
 unfold O0 at h
 dsimp only at h
 split at h
 ·rename_i m k i o
  obtain ⟨hc,hx⟩:=Ae h
  clear h
  obtain ⟨h0,h1,rfl,rfl,h4⟩:=of_decide_eq_true hc
  obtain ⟨i,rfl⟩:=eq_ofNat_of_zero_le h0
  simp only [ntN] at h1 hx
  exact JW o h4 (o.length-i) i (by omega) ex d' hx
 ·cases h
theorem Rp {s:List UInt8} : ∀ (f a:Nat) (o l:List Pl),o.length<=40->rdL s f a o=some l->l.length<=40
 | 0,a,o,l,h,e=>by
  rw [rdL] at e
  split at e
  ·cases e
  ·cases e; exact h
 | f+1,a,o,l,h,e=>by
  rw [rdL] at e
  split at e
  ·split at e
   ·rename_i h2
    exact Rp f _ _ l (by have:=h2.2; simp; omega) e
   ·cases e
  ·cases e; exact h
theorem MW {s:List UInt8} {l:List Pl} (h:rdP s=some l):l.length<=40/\s.length<=400:=by
 unfold rdP at h
 split at h
 ·rename_i h1
  exact ⟨Rp _ _ _ l (by simp) h,h1⟩
 ·cases h
theorem ris:Ad prog 59 (Ent.rd1 Ux).F:=by
 refine Au (kc func111 rdp KnowsL.nil).knows (Λ:=(Ab [(5,O0)])) func59 (c:=f59.body.getD .skip) (by kernel_rfl) fun vs bs r hq hv hb=>?_
 unfold Ent.F Ux at hq
 dsimp only at hq
 split at hq
 ·rename_i s
  obtain ⟨hc,hx⟩:=Ae hq
  refine ⟨YX,Eq.trans ?_ hx⟩
  rw [Uv,Aa hc]
  unfold CM
  cases e:rdP s with
  | none=>rfl
  | some l=>
   have hl:=(MW e).1
   dsimp only [Option.isSome_some,Option.getD_some]
   rw [Bool.not_true,Bd,Aa (dcT ⟨by omega,by omega,rfl,rfl,by omega⟩),drop_zero]
   unfold L0
   rw [show (Ik l).length=l.length by unfold Ik; simp]
   cases (range l.length).all (CG (Ik l))<;>rfl
 ·cases hq
def rdF (s:List UInt8):Nat->Nat->List WFd->Option (List WFd)
 | 0,a,o=>if a<s.length then none else some o
 | f+1,a,o=>if a<s.length then (if (Ba s a).2.2.2=true/\o.length≠40 then rdF s f (Ba s a).2.2.1.toNat (o++[(Ba s a).1]) else none) else some o
def CO (s:List UInt8):Option (List WFd):=rdF s s.length 0 []
def Ii (s:List UInt8):Option (List WFd):=if s.length<=400 then CO s else none
def EA (s:List UInt8):Option (List WFd):=match Ii s with | some l=>(if L0 (DD l)=true then some l else none) | none=>none
def Jf:LoopEnt:=⟨76,[0,4,5],[4],[2,3],fun
 | ([.s s,.ref 0 0 n,.i .i64 a],[some (.row false none FCd o)])=>.need (decide (0<=a/\a.toNat<=s.length/\s.length<=4000000000/\n=o.length/\o.length<=a.toNat)) (.br (rdF s (s.length-a.toNat) a.toNat o).isSome (.leaf (.exit 0,([.ref 0 0 ((rdF s (s.length-a.toNat) a.toNat o).getD []).length],[some (.row false none FCd ((rdF s (s.length-a.toNat) a.toNat o).getD []))]))) (.leaf (.ret,([.ref 0 0 0,.b false],[some (.row false none FCd [])]))))
 | _=>.no⟩
def Zb:Gm
 | [.s s],[]=>.need (decide (s.length<=4000000000)) (.leaf (.tup [.ref 0 0 ((CO s).getD []).length,.b (CO s).isSome],[some (.row false none FCd ((CO s).getD []))]))
 | _,_=>.no
abbrev TB:FuncId->Option Ent:=Ab [(149,.rd1 TW),(150,.rd1 Ly),(151,.rd1 Hd)]
theorem Mb (s:List UInt8) (n:Nat) (a:Int) (o:List WFd):A0 prog TB (Ab [(3,Jf)]) 0 (body f107 0) Jf ([.s s,.ref 0 0 n,.j a],[some (.row false none FCd o)]) =
 ((shr (take n (drop 0 o)) fun sh3=>shr (take ((i64.wrap (Bc (Bc a.toNat (Ah s a.toNat)).toNat (Ah s (Bc a.toNat (Ah s
 a.toNat)).toNat)+Cc (Ah s (Bc a.toNat (Ah s a.toNat)).toNat))).toNat-(Bc (Bc a.toNat (Ah s a.toNat)).toNat (Ah s (Bc a.toNat (Ah s
 a.toNat)).toNat)).toNat) (drop (Bc (Bc a.toNat (Ah s a.toNat)).toNat (Ah s (Bc a.toNat (Ah s a.toNat)).toNat)).toNat s)) fun sh2=>shr (Ag FCd.den)
 fun sh1=>ifB (decide (a<(↑s.length:Int))) (ifT (decide ((0:Int)<=a/\s.length<=4000000000/\a<=(4000000000:Int))) (ifB (!BK (Ah s a.toNat)) (some
 (Ex.ret,[V.ref 0 0 0,V.b false],[some (Blk.row false none FCd sh1)])) (ifT (decide ((0:Int)<=Bc a.toNat (Ah s a.toNat)/\s.length<=4000000000/\Bc
 a.toNat (Ah s a.toNat)<=(4000000000:Int))) (ifB (!BK (Ah s (Bc a.toNat (Ah s a.toNat)).toNat)) (some (Ex.ret,[V.ref 0 0 0,V.b false],[some (Blk.row false
 none FCd sh1)])) (ifB ((Cc (Ah s a.toNat)).tmod (8:Int)==(0:Int)) (ifT (decide ((0:Int)<=Cc (Ah s (Bc a.toNat (Ah s a.toNat)).toNat)/\Cc (Ah s
 (Bc a.toNat (Ah s a.toNat)).toNat)<=(1000000000000:Int))) (ifB (!AJ (i64.wrap ((Cc (Ah s a.toNat)).tdiv (8:Int)),(Cc (Ah s a.toNat)).tmod (8
 : Int),unf (Cc (Ah s (Bc a.toNat (Ah s a.toNat)).toNat)),Ag UInt8,())) (some (Ex.ret,[V.ref 0 0 0,V.b false],[some (Blk.row false none FCd sh1)])) (ifB
 ((↑n:Int)==(40:Int)) (some (Ex.ret,[V.ref 0 0 0,V.b false],[some (Blk.row false none FCd sh1)])) (ifT (decide ((n+1)*40<=(140737488355328 :
 Nat))&&decide (n+1<=maxI)) (some (Ex.normal,[V.s s,V.ref 0 0 (n+1),V.j (Bc (Bc a.toNat (Ah s a.toNat)).toNat (Ah s (Bc a.toNat
 (Ah s a.toNat)).toNat))],[some (Blk.row false none FCd (sh3++(i64.wrap ((Cc (Ah s a.toNat)).tdiv (8:Int)),(Cc (Ah s a.toNat)).tmod (8:Int),unf
 (Cc (Ah s (Bc a.toNat (Ah s a.toNat)).toNat)),Ag UInt8,())::sh1))])))))) (ifB (decide (Cc (Ah s (Bc a.toNat (Ah s a.toNat)).toNat) >
 i64.wrap ((↑s.length:Int)-Bc (Bc a.toNat (Ah s a.toNat)).toNat (Ah s (Bc a.toNat (Ah s a.toNat)).toNat)))) (some (Ex.ret,[V.ref 0 0 0,V.b
 false],[some (Blk.row false none FCd sh1)])) (ifT (decide ((0:Int)<=Bc (Bc a.toNat (Ah s a.toNat)).toNat (Ah s (Bc a.toNat (Ah s a.toNat)).toNat))&&
 decide (Bc (Bc a.toNat (Ah s a.toNat)).toNat (Ah s (Bc a.toNat (Ah s a.toNat)).toNat)<=i64.wrap (Bc (Bc a.toNat (Ah s a.toNat)).toNat (Ah s
 (Bc a.toNat (Ah s a.toNat)).toNat)+Cc (Ah s (Bc a.toNat (Ah s a.toNat)).toNat)))&&decide (i64.wrap (Bc (Bc a.toNat (Ah s a.toNat)).toNat
 (Ah s (Bc a.toNat (Ah s a.toNat)).toNat)+Cc (Ah s (Bc a.toNat (Ah s a.toNat)).toNat))<=(↑s.length:Int))) (ifB (!AJ (i64.wrap ((Cc (Ah s
 a.toNat)).tdiv (8:Int)),(Cc (Ah s a.toNat)).tmod (8:Int),(0:Int),sh2,())) (some (Ex.ret,[V.ref 0 0 0,V.b false],[some (Blk.row false none FCd sh1)]))
 (ifB ((↑n:Int)==(40:Int)) (some (Ex.ret,[V.ref 0 0 0,V.b false],[some (Blk.row false none FCd sh1)])) (ifT (decide ((n+1)*40<=
 140737488355328)&&decide (n+1<=maxI)) (some (Ex.normal,[V.s s,V.ref 0 0 (n+1),V.j (i64.wrap (Bc (Bc a.toNat (Ah s
 a.toNat)).toNat (Ah s (Bc a.toNat (Ah s a.toNat)).toNat)+Cc (Ah s (Bc a.toNat (Ah s a.toNat)).toNat)))],[some (Blk.row false none FCd (sh3++
 (i64.wrap ((Cc (Ah s a.toNat)).tdiv (8:Int)),(Cc (Ah s a.toNat)).tmod (8:Int),(0:Int),sh2,())::sh1))])))))))))))) (some (Ex.exit 0,[V.ref 0 0
 n],[some (Blk.row false none FCd o)]))):_):=by kernel_rfl
theorem U6 (s:List UInt8):Bt prog TB (Ab [(3,Jf)]) f107 [.s s] [] =
 ((ifT (decide ((0:Int)<=(0:Int)/\0<=s.length/\s.length<=4000000000/\0=0/\0<=0)) (ifB (rdF s (s.length-(0 :
 Nat)) 0 (Ag FCd.den)).isSome (some (V.tup [V.ref 0 0 ((rdF s (s.length-0) 0 (Ag FCd.den)).getD (Ag WFd)).length,V.b true],[some (Blk.row
 false none FCd ((rdF s (s.length-0) 0 (Ag FCd.den)).getD (Ag WFd)))])) (some (V.tup [V.ref 0 0 0,V.b false],[some (Blk.row false none FCd (Ag
 FCd.den))])))):_):=by kernel_rfl
theorem Hs (s:List UInt8) : ∀ (f a:Nat) (o:List Pl),rdF s f a (o.map (·.1))=(rdL s f a o).map (fun l=>l.map (·.1))
 | 0,a,o=>by
  rw [rdF,rdL]
  split<;>rfl
 | f+1,a,o=>by
  rw [rdF,rdL,List.length_map]
  split
  ·split
   ·have:=Hs s f (Ba s a).2.2.1.toNat (o++[((Ba s a).1,(a:Int),())])
    rw [List.map_append] at this
    exact this
   ·rfl
  ·rfl
theorem UA (s:List UInt8) : ∀ (f f' a:Nat) (o:List WFd),s.length-a<=f->s.length-a<=f'->rdF s f a o=rdF s f' a o:=by
 intro f f' a o h1 h2
 have e:o=(o.map (fun x=>((x,0,()):Pl))).map (·.1):=by rw [map_map]; exact (List.map_id' o).symm
 rw [e,Hs,Hs,O3 s f f' a _ h1 h2]
theorem U9 {s:List UInt8} {a:Nat} {o:List WFd} (h:a<s.length) (h1:(Ba s a).2.2.2=true) (h2:o.length≠40):rdF s (s.length-a) a o=rdF s (s.length-(Ba s a).2.2.1.toNat) (Ba s a).2.2.1.toNat (o++[(Ba s a).1]):=by
 have e:s.length-a=(s.length-a-1)+1:=by omega
 have ht:=JL h1
 rw [e,rdF,if_pos h,if_pos ⟨h1,h2⟩]
 exact UA s _ _ _ _ (by omega) (by omega)
theorem WV {s:List UInt8} {a:Nat} {o:List WFd} (h:a<s.length) (h1:(Ba s a).2.2.2=false\/o.length=40):rdF s (s.length-a) a o=none:=by
 have e:s.length-a=(s.length-a-1)+1:=by omega
 rw [e,rdF,if_pos h,if_neg]
 rintro ⟨h2,h3⟩
 rcases h1 with h1 | h1
 ·rw [h1] at h2; cases h2
 ·exact h3 h1
theorem WU {s:List UInt8} {a:Nat} {o:List WFd} (h:s.length<=a):rdF s (s.length-a) a o=some o:=by
 have e:s.length-a=0:=by omega
 rw [e,rdF,if_neg (by omega)]
theorem PU {a:Nat} {x:Option (Nat×Nat×Bool)} (h:BK x=true):Cc x=A9 x/\Bc a x=Az a x:=by
 match x,h with
 | some (n,k,true),_=>exact ⟨rfl,rfl⟩
theorem WH {s:List UInt8} {a:Nat} (h:BK (Ah s a)=false):(Ba s a).2.2.2=false:=by
 unfold Ba; dsimp only; rw [if_pos h]
theorem WG {s:List UInt8} {a:Nat} (h:BK (Ah s a)=true) (h2:BK (Ah s (Az a (Ah s a)).toNat)=false):(Ba s a).2.2.2=false:=by
 unfold Ba; dsimp only; rw [if_neg (by rw [h]; simp)]
 split
 ·have:(AZ s (Az a (Ah s a)).toNat).2.2=false:=by unfold AZ; dsimp only; rw [if_neg (fun hh=>by rw [h2] at hh; cases hh.1)]
  dsimp only
  rw [this]; rfl
 ·dsimp only
  rw [h2]; rfl
theorem YL {s:List UInt8} {a:Nat} (h:BK (Ah s a)=true) (h2:BK (Ah s (Az a (Ah s a)).toNat)=true) (h0:A9 (Ah s a) % 8=0):Ba s a=((A9 (Ah s a) / 8,0,unf (A9 (Ah s (Az a (Ah s a)).toNat)),[],()),(a:Int),Az (Az a (Ah s a)).toNat (Ah s (Az a (Ah s a)).toNat),AJ (A9 (Ah s a) / 8,0,unf (A9 (Ah s (Az a (Ah s a)).toNat)),[],())):=by
 unfold Ba; dsimp only; rw [if_neg (by rw [h]; simp),if_neg (by omega),h0,h2,Bool.true_and]
theorem YN {s:List UInt8} {a:Nat} (h:BK (Ah s a)=true) (h2:BK (Ah s (Az a (Ah s a)).toNat)=true) (h0:A9 (Ah s a) % 8=2) (hn:A9 (Ah s (Az a (Ah s a)).toNat)<=s.length-Az (Az a (Ah s a)).toNat (Ah s (Az a (Ah s a)).toNat)) :
  Ba s a=((A9 (Ah s a) / 8,2,0,(s.drop (Az (Az a (Ah s a)).toNat (Ah s (Az a (Ah s a)).toNat)).toNat).take (A9 (Ah s (Az a (Ah s a)).toNat)).toNat,()),(a:Int),Az (Az a (Ah s a)).toNat (Ah s (Az a (Ah s a)).toNat)+A9 (Ah s (Az a (Ah s a)).toNat),AJ (A9 (Ah s a) / 8,2,0,(s.drop (Az (Az a (Ah s a)).toNat (Ah s (Az a (Ah s a)).toNat)).toNat).take (A9 (Ah s (Az a (Ah s a)).toNat)).toNat,())):=by
 have:AZ s (Az a (Ah s a)).toNat=((s.drop (Az (Az a (Ah s a)).toNat (Ah s (Az a (Ah s a)).toNat)).toNat).take (A9 (Ah s (Az a (Ah s a)).toNat)).toNat,Az (Az a (Ah s a)).toNat (Ah s (Az a (Ah s a)).toNat)+A9 (Ah s (Az a (Ah s a)).toNat),true):=by unfold AZ; dsimp only; rw [if_pos ⟨h2,hn⟩]
 unfold Ba; dsimp only; rw [if_neg (by rw [h]; simp),if_pos h0,this,Bool.true_and]
theorem WE {s:List UInt8} {a:Nat} (h:BK (Ah s a)=true) (h0:A9 (Ah s a) % 8≠0) (hn : ¬A9 (Ah s (Az a (Ah s a)).toNat)<=s.length-Az (Az a (Ah s a)).toNat (Ah s (Az a (Ah s a)).toNat)):(Ba s a).2.2.2=false:=by
 unfold Ba; dsimp only; rw [if_neg (by rw [h]; simp)]
 split
 ·have:(AZ s (Az a (Ah s a)).toNat).2.2=false:=by unfold AZ; dsimp only; rw [if_neg (fun hh=>hn hh.2)]
  dsimp only
  rw [this]; rfl
 ·rename_i h2
  dsimp only
  unfold AJ
  dsimp only
  rw [if_neg h0,if_neg h2,Bool.and_false,Bool.and_false]
theorem WF {s:List UInt8} {a:Nat} (h:BK (Ah s a)=true) (h0:A9 (Ah s a) % 8≠0) (h2:A9 (Ah s a) % 8≠2):(Ba s a).2.2.2=false/\∀ x y z,AJ (x,A9 (Ah s a) % 8,y,z,())=false:=by
 have hb : ∀ x y z,AJ (x,A9 (Ah s a) % 8,y,z,())=false:=fun x y z=>by
  unfold AJ
  dsimp only
  rw [if_neg h0,if_neg h2,Bool.and_false]
 refine ⟨?_,hb⟩
 unfold Ba; dsimp only; rw [if_neg (by rw [h]; simp),if_neg h2]
 dsimp only
 rw [hb,Bool.and_false]
theorem WR (s:List UInt8) (a:Nat) (o:List WFd) (hs:s.length<=4000000000) (ha:a<s.length) (ho:o.length<=a) :
  A0 prog TB (Ab [(3,Jf)]) 0 (body f107 0) Jf ([.s s,.ref 0 0 o.length,.j (a:Int)],[some (.row false none FCd o)])=if (Ba s a).2.2.2=true/\o.length≠40 then some (.normal,([.s s,.ref 0 0 (o++[(Ba s a).1]).length,.j (Ba s a).2.2.1],[some (.row false none FCd (o++[(Ba s a).1]))])) else some (.ret,([.ref 0 0 0,.b false],[some (.row false none FCd [])])):=by
 rw [Mb]
 dsimp only [shr]
 have hM:maxI=9223372036854775807:=rfl
 obtain ⟨⟨u1,u2⟩,u3,u4⟩:=Ey s a
 rw [Af (dcT (by omega)),Aa (dcT (by omega)),ntN]
 cases hk:BK (Ah s a) with
 | false=>rw [Bool.not_false,Bq,if_neg (fun h=>by rw [WH hk] at h; cases h.1)]
 | true=>
  obtain ⟨e1,e2⟩:=PU (a:=a) hk
  rw [Bool.not_true,Bd]
  simp only [e1,e2]
  obtain ⟨⟨v1,v2⟩,v3,v4⟩:=Ey s (Az a (Ah s a)).toNat
  rw [Aa (dcT ⟨u3,hs,by omega⟩)]
  cases hk2:BK (Ah s (Az a (Ah s a)).toNat) with
  | false=>rw [Bool.not_false,Bq,if_neg (fun h=>by rw [WG hk hk2] at h; cases h.1)]
  | true=>
   obtain ⟨e3,e4⟩:=PU (a:=(Az a (Ah s a)).toNat) hk2
   rw [Bool.not_true,Bd]
   have m1:tdiv (A9 (Ah s a)) 8=A9 (Ah s a) / 8:=Int.tdiv_eq_ediv_of_nonneg u1
   have m2:tmod (A9 (Ah s a)) 8=A9 (Ah s a) % 8:=Int.tmod_eq_emod_of_nonneg u1
   have m3:i64.wrap (A9 (Ah s a) / 8)=A9 (Ah s a) / 8:=Ay (by omega) (by omega)
   have m4:i64.wrap ((s.length:Int)-Az (Az a (Ah s a)).toNat (Ah s (Az a (Ah s a)).toNat))=(s.length:Int)-Az (Az a (Ah s a)).toNat (Ah s (Az a (Ah s a)).toNat):=Ay (by omega) (by omega)
   have m5:i64.wrap (Az (Az a (Ah s a)).toNat (Ah s (Az a (Ah s a)).toNat)+A9 (Ah s (Az a (Ah s a)).toNat))=Az (Az a (Ah s a)).toNat (Ah s (Az a (Ah s a)).toNat)+A9 (Ah s (Az a (Ah s a)).toNat):=Ay (by omega) (by omega)
   simp only [e3,e4,m1,m2,m3,m4,m5,drop_zero,take_length,AI]
   have hlen:(decide ((o.length+1)*40<=140737488355328)&&decide (o.length+1<=maxI))=true:=by simp only [anE,dcE]; omega
   by_cases q0:A9 (Ah s a) % 8=0
   ·rw [Af (by simpa using q0),Aa (dcT ⟨v1,by omega⟩),q0]
    have ht:=YL hk hk2 q0
    cases hf:AJ (A9 (Ah s a) / 8,0,unf (A9 (Ah s (Az a (Ah s a)).toNat)),[],()) with
    | false=>rw [Bool.not_false,Bq,if_neg (fun h=>by rw [ht] at h; have:=h.1; rw [hf] at this; cases this)]
    | true=>
     rw [Bool.not_true,Bd]
     by_cases q2:o.length=40
     ·rw [Af (by rw [q2]; rfl),if_neg (fun h=>h.2 q2)]
     ·rw [Ac (by simpa using fun e=>q2 (by omega)),Aa hlen,if_pos ⟨by rw [ht]; exact hf,q2⟩,ht,length_append]; rfl
   ·rw [Ac (by simpa using q0)]
    by_cases qn:A9 (Ah s (Az a (Ah s a)).toNat)<=s.length-Az (Az a (Ah s a)).toNat (Ah s (Az a (Ah s a)).toNat)
    rotate_left
    ·rw [Af (dcT (by omega)),if_neg (fun h=>by rw [WE hk q0 qn] at h; cases h.1)]
    rw [Ac (dcF (by omega)),Aa (by simp only [anE,dcE]; omega)]
    have e5:(Az (Az a (Ah s a)).toNat (Ah s (Az a (Ah s a)).toNat)+A9 (Ah s (Az a (Ah s a)).toNat)).toNat-(Az (Az a (Ah s a)).toNat (Ah s (Az a (Ah s a)).toNat)).toNat=(A9 (Ah s (Az a (Ah s a)).toNat)).toNat:=by omega
    rw [e5]
    by_cases qk:A9 (Ah s a) % 8=2
    rotate_left
    ·obtain ⟨b1,b2⟩:=WF hk q0 qk
     rw [b2,Bool.not_false,Bq,if_neg (fun h=>by rw [b1] at h; cases h.1)]
    have ht:=YN hk hk2 qk qn
    rw [qk]
    cases hf:AJ (A9 (Ah s a) / 8,2,0,(s.drop (Az (Az a (Ah s a)).toNat (Ah s (Az a (Ah s a)).toNat)).toNat).take (A9 (Ah s (Az a (Ah s a)).toNat)).toNat,()) with
    | false=>rw [Bool.not_false,Bq,if_neg (fun h=>by rw [ht] at h; have:=h.1; rw [hf] at this; cases this)]
    | true=>
     rw [Bool.not_true,Bd]
     by_cases q2:o.length=40
     ·rw [Af (by rw [q2]; rfl),if_neg (fun h=>h.2 q2)]
     ·rw [Ac (by simpa using fun e=>q2 (by omega)),Aa hlen,if_pos ⟨by rw [ht]; exact hf,q2⟩,ht,length_append]; rfl
theorem U7 (s:List UInt8) (hs:s.length<=4000000000) : ∀ (j a:Nat) (o:List WFd),s.length-a<=j->a<=s.length->o.length<=a->∀ ex d,(Br.br (rdF s (s.length-a) a o).isSome (.leaf (.exit 0,([.ref 0 0 ((rdF s (s.length-a) a o).getD []).length],[some (.row false none FCd ((rdF s (s.length-a) a o).getD []))]))) (.leaf (.ret,([.ref 0 0 0,.b false],[some (.row false none FCd [])]))):Br (Ex×Dt)).run=some (ex,d)->
  Runs prog TB (Ab [(3,Jf)]) 0 (body f107 0) Jf ([.s s,.ref 0 0 o.length,.j (a:Int)],[some (.row false none FCd o)]) ex d:=by
 intro j
 have fin : ∀ (a:Nat) (o:List WFd),a=s.length->∀ ex d,(Br.br (rdF s (s.length-a) a o).isSome (.leaf (.exit 0,([.ref 0 0 ((rdF s (s.length-a) a o).getD []).length],[some (.row false none FCd ((rdF s (s.length-a) a o).getD []))]))) (.leaf (.ret,([.ref 0 0 0,.b false],[some (.row false none FCd [])]))):Br (Ex×Dt)).run=some (ex,d)->Runs prog TB (Ab [(3,Jf)]) 0 (body f107 0) Jf ([.s s,.ref 0 0 o.length,.j (a:Int)],[some (.row false none FCd o)]) ex d:=fun a o ha ex d h=>by
  have hr:=Mb s o.length a o
  dsimp only [shr] at hr
  rw [Ac (dcF (by omega))] at hr
  rw [WU (by omega)] at h
  have h8:=Ar (show (Br.leaf (.exit 0,([.ref 0 0 o.length],[some (.row false none FCd o)])):Br (Ex×Dt)).run=some (ex,d) from h)
  obtain ⟨rfl,rfl⟩:=Prod.mk.inj h8
  exact .stop _ _ _ hr (by simp)
 induction j with
 | zero=>exact fun a o hj ha ho ex d h=>fin a o (by omega) ex d h
 | succ j ih=>
  intro a o hj ha ho ex d h
  by_cases q:a<s.length
  rotate_left
  ·exact fin a o (by omega) ex d h
  have hr:=WR s a o hs q ho
  by_cases q2:(Ba s a).2.2.2=true/\o.length≠40
  ·obtain ⟨t1,t2,t3,t4⟩:=JL q2.1
   rw [if_pos q2] at hr
   rw [U9 q q2.1 q2.2] at h
   obtain ⟨b,hb⟩:=eq_ofNat_of_zero_le (a:=(Ba s a).2.2.1) (by omega)
   rw [hb] at hr h t2 t3
   rw [ntN] at h
   exact .step _ _ _ _ hr (ih b (o++[(Ba s a).1]) (by omega) (by omega) (by simp; omega) ex d h)
  ·rw [if_neg q2] at hr
   rw [WV q (by
    cases e:(Ba s a).2.2.2 with
    | false=>exact .inl rfl
    | true=>exact .inr (by by_cases e2:o.length=40; exact e2; exact absurd ⟨e,e2⟩ q2))] at h
   have h8:=Ar (show (Br.leaf (.ret,([.ref 0 0 0,.b false],[some (.row false none FCd [])])):Br (Ex×Dt)).run=some (ex,d) from h)
   obtain ⟨rfl,rfl⟩:=Prod.mk.inj h8
   exact .stop _ _ _ hr (by simp)
theorem YZ:A4 prog TB (Ab [(3,Jf)]) 0 (f107.body.getD .skip):=by
 refine Ax (a:=body f107 0) (by kernel_rfl) fun d ex d' h=>?_
 unfold Jf at h
 dsimp only at h
 split at h
 ·rename_i s n a o
  obtain ⟨hc,hx⟩:=Ae h
  clear h
  obtain ⟨h0,h1,h2,rfl,h4⟩:=of_decide_eq_true hc
  obtain ⟨a,rfl⟩:=eq_ofNat_of_zero_le h0
  simp only [ntN] at h1 h4 hx
  exact U7 s h2 _ a o (Nat.le_refl _) h1 h4 ex d' hx
 ·cases h
theorem rdf:Ad prog 107 (Ent.rd1 Zb).F:=by
 refine Au (kc func149 tvs (kc func150 Aax (kc func151 YO KnowsL.nil))).knows (Λ:=(Ab [(3,Jf)])) func107 (c:=f107.body.getD .skip) (by kernel_rfl) fun vs bs r hq hv hb=>?_
 unfold Ent.F Zb at hq
 dsimp only at hq
 split at hq
 ·rename_i s
  obtain ⟨hc,hx⟩:=Ae hq
  have hc:=of_decide_eq_true hc
  refine ⟨YZ,Eq.trans ?_ hx⟩
  rw [U6]
  unfold CO
  rw [Aa (dcT ⟨by omega,by omega,hc,rfl,by omega⟩),sub_zero]
  simp only [AI]
  cases rdF s s.length 0 []<;>rfl
 ·cases hq
theorem Za (s:List UInt8):Ii s=(rdP s).map (fun l=>l.map (·.1)):=by
 unfold Ii rdP CO
 split
 ·exact Hs s s.length 0 []
 ·rfl
theorem MT (s:List UInt8):EA s=(CM s).map (fun l=>l.map (·.1)):=by
 unfold EA CM
 rw [Za]
 cases rdP s with
 | none=>rfl
 | some l=>
  dsimp only [map_some]
  have e:DD (l.map (·.1))=Ik l:=by unfold DD Ik; rw [map_map]; rfl
  rw [e]
  split<;>rfl
def Bm:Nat->Nat->List UInt8×Nat
 | 0,n=>([],n)
 | f+1,n=>if 128<=n then (UInt8.ofNat (n % 128+128)::(Bm f (n / 128)).1,(Bm f (n / 128)).2) else ([],n)
def vbs (n:Nat):List UInt8:=(Bm 10 n).1++[UInt8.ofNat (Bm 10 n).2]
def fol (n:Int):Int:=if n<0 then -2*n-1 else 2*n
def svE:LoopEnt:=⟨22,[0,3],[0,3],[],fun
 | ([.i .i64 n,.s s],[])=>.need (decide (0<=n/\n<=1000000000000/\s.length<=1000)) (.leaf (.exit 0,([.i .i64 ((Bm 10 n.toNat).2:Int),.s (s++(Bm 10 n.toNat).1)],[])))
 | _=>.no⟩
def W6:Gm
 | [.i .i64 n],[]=>.need (decide (0<=n/\n<=1000000000000)) (.leaf (.s (vbs n.toNat),[]))
 | _,_=>.no
def QE:Gm
 | [.i .i64 n],[]=>.need (decide (-1000000000000<=n/\n<=1000000000000)) (.leaf (.i .i64 (fol n),[]))
 | _,_=>.no
theorem On (n:Int) (s:List UInt8):A0 prog (Ab []) (Ab [(2,svE)]) 0 (body f90 0) svE ([.j n,.s s],[]) =
 ((ifB (decide (n>=(128:Int))) (ifT (decide (s.length+1<=9223372036854775807)) (some (Ex.normal,[V.j (n.fdiv ((2:Int) ^ min 7
 i64.bits)),V.s (s++List.map (fun n=>UInt8.ofNat n.toNat) (IntKind.u8.wrap (↑(BitVec.ofInt IntKind.u8.bits (IntKind.u8.wrap (i64.wrap (↑(BitVec.ofInt
 i64.bits n &&& BitVec.ofInt i64.bits (127:Int)).toNat:Int))) ||| BitVec.ofInt IntKind.u8.bits (128:Int)).toNat:Int)::Ag (Cd.int .u8).den))],
 []))) (some (Ex.exit 0,[V.j n,V.s s],[]))):_):=by kernel_rfl
theorem WJ (n:Int):AQ prog (Ab []) (Ab [(2,svE)]) f90 [.j n] [] =
 ((ifT (decide ((0:Int)<=n/\n<=(1000000000000:Int)/\0<=1000)) (ifT (decide ((Ag UInt8++(Bm 10 n.toNat).fst).length+1<=
 9223372036854775807)) (some (V.s (Ag UInt8++(Bm 10 n.toNat).fst++List.map (fun n=>UInt8.ofNat n.toNat) (IntKind.u8.wrap (↑(Bm 10
 n.toNat).snd:Int)::Ag (Cd.int .u8).den)),[])))):_):=by kernel_rfl
theorem Abc (n:Nat):i64.wrap ((BitVec.ofInt i64.bits (n:Int) &&& BitVec.ofInt i64.bits (127:Int)).toNat:Int)=((n % 128:Nat):Int):=by
 have e:(BitVec.ofInt i64.bits (n:Int) &&& BitVec.ofInt i64.bits (127:Int)).toNat=n % 128:=by
  show (BitVec.ofInt 64 (n:Int) &&& BitVec.ofInt 64 ((127:Nat):Int)).toNat=n % 128
  rw [BitVec.toNat_and,BitVec.ofInt_natCast,BitVec.ofInt_natCast,BitVec.toNat_ofNat,BitVec.toNat_ofNat,show 127 % 2 ^ 64=2 ^ 7-1 by decide,Nat.and_two_pow_sub_one_eq_mod]
  show n % 18446744073709551616 % 128=n % 128
  omega
 rw [e,Ay (by omega) (by omega)]
theorem NY {n:Nat} (h:n<256):IntKind.u8.wrap (n:Int)=(n:Int):=by
 unfold IntKind.wrap
 simp [IntKind.bits,IntKind.signed]
 omega
theorem Aa8 (x:Nat) (hx:x<128):IntKind.u8.wrap ((BitVec.ofInt IntKind.u8.bits (x:Int) ||| BitVec.ofInt IntKind.u8.bits (128:Int)).toNat:Int)=((x+128:Nat):Int):=by
 have e:(BitVec.ofInt IntKind.u8.bits (x:Int) ||| BitVec.ofInt IntKind.u8.bits (128:Int)).toNat=x+128:=by
  show (BitVec.ofInt 8 (x:Int) ||| BitVec.ofInt 8 ((128:Nat):Int)).toNat=_
  rw [BitVec.toNat_or,BitVec.ofInt_natCast,BitVec.ofInt_natCast,BitVec.toNat_ofNat,BitVec.toNat_ofNat,mod_eq_of_lt (by omega),mod_eq_of_lt (by omega),Nat.or_comm,show (128:Nat)=2 ^ 7*1 by decide,<-Nat.two_pow_add_eq_or_of_lt (by omega) 1]
  omega
 rw [e,NY (by omega)]
theorem Jn : ∀ (f n:Nat),n<128 ^ (f+1)->(Bm f n).2<128/\(Bm f n).1.length<=f
 | 0,n,h=>⟨by simpa [Bm] using h,by simp [Bm]⟩
 | f+1,n,h=>by
  rw [Bm]
  split
  ·rw [pow_succ] at h
   have:=Jn f (n / 128) (Nat.div_lt_of_lt_mul (by omega))
   exact ⟨this.1,by simp; omega⟩
  ·exact ⟨by dsimp only; omega,by simp⟩
theorem Ge {n:Nat} (h:n<=1000000000000):1<=(vbs n).length/\(vbs n).length<=11:=by
 have:=(Jn 10 n (by have:(128:Nat) ^ 11=151115727451828646838272:=(by decide); omega)).2
 unfold vbs
 rw [length_append,length_singleton]
 omega
theorem Rk : ∀ (f n:Nat) (s:List UInt8),n<128 ^ f->f<=10->s.length<=1000+(10-f)->
  Runs prog (Ab []) (Ab [(2,svE)]) 0 (body f90 0) svE ([.j (n:Int),.s s],[]) (.exit 0) ([.j ((Bm f n).2:Int),.s (s++(Bm f n).1)],[])
 | 0,n,s,h,hf,hs=>by
  have:n=0:=by simpa using h
  subst this
  have hr:=On ((0:Nat):Int) s
  rw [Ac (dcF (by omega))] at hr
  rw [Bm,append_nil]
  exact .stop _ _ _ hr (by simp)
 | f+1,n,s,h,hf,hs=>by
  have hr:=On (n:Int) s
  by_cases q:128<=n
  ·have hn:n<128 ^ 10:=Nat.lt_of_lt_of_le h (Nat.pow_le_pow_right (by omega) hf)
   have hn2:n<2 ^ 63\/2 ^ 63<=n:=by omega
   rw [Af (dcT (by omega)),Aa (dcT (by omega)),Abc n,NY (n:=n % 128) (by omega),Aa8 (n % 128) (by omega)] at hr
   have e1:fdiv (n:Int) ((2:Int) ^ min 7 i64.bits)=((n / 128:Nat):Int):=by
    show fdiv (n:Int) ((128:Nat):Int)=_
    rw [Int.fdiv_eq_ediv_of_nonneg _ (by omega)]
    rfl
   rw [e1] at hr
   rw [pow_succ] at h
   have ih:=Rk f (n / 128) (s++[UInt8.ofNat (n % 128+128)]) (Nat.div_lt_of_lt_mul (by omega)) (by omega) (by simp; omega)
   rw [Bm,if_pos q]
   dsimp only
   rw [append_assoc] at ih
   exact .step _ _ _ _ hr ih
  ·rw [Ac (dcF (by omega))] at hr
   rw [Bm,if_neg q,append_nil]
   exact .stop _ _ _ hr (by simp)
theorem Aaw:A4 prog (Ab []) (Ab [(2,svE)]) 0 (f90.body.getD .skip):=by
 refine Ax (a:=body f90 0) (by kernel_rfl) fun d ex d' h=>?_
 unfold svE at h
 dsimp only at h
 split at h
 ·rename_i n s
  obtain ⟨hc,hx⟩:=Ae h
  clear h
  obtain ⟨h0,h1,h2⟩:=of_decide_eq_true hc
  obtain ⟨n,rfl⟩:=eq_ofNat_of_zero_le h0
  rw [ntN] at hx
  have h8:=Ar hx
  obtain ⟨rfl,rfl⟩:=Prod.mk.inj h8
  exact Rk 10 n s (by have:(128:Nat) ^ 10=1180591620717411303424:=(by decide); omega) (by omega) (by omega)
 ·cases h
theorem sv:Ad prog 90 (Ent.rd1 W6).F:=by
 refine Am KnowsL.nil.knows (Λ:=Ab [(2,svE)]) func90 (c:=f90.body.getD .skip) (by kernel_rfl) fun vs bs r hq hv hb=>?_
 unfold Ent.F W6 at hq
 dsimp only at hq
 split at hq
 ·rename_i n
  obtain ⟨hc,hx⟩:=Ae hq
  obtain ⟨h0,h1⟩:=of_decide_eq_true hc
  obtain ⟨n,rfl⟩:=eq_ofNat_of_zero_le h0
  rw [ntN] at hx
  refine ⟨Aaw,Eq.trans ?_ hx⟩
  have hl:=Jn 10 n (by have:(128:Nat) ^ 11=151115727451828646838272:=(by decide); omega)
  rw [WJ,Aa (dcT ⟨h0,h1,by simp⟩),ntN]
  simp only [AI,List.nil_append]
  rw [Aa (dcT (by omega)),NY (by omega)]
  rfl
 ·cases hq
theorem Sn (n:Int):AQ prog (Ab []) (Ab []) f91 [.j n] [] =
 ((ifB (decide (n>=(0:Int))) (some (V.j (i64.wrap ((2:Int)*n)),[])) (some (V.j (i64.wrap (i64.wrap ((-2:Int)*n)-(1:Int))),
 []))):_):=by kernel_rfl
theorem Uj (n:Int) (hc : -1000000000000<=n/\n<=1000000000000):AQ prog (Ab []) (Ab []) f91 [.j n] []=(.leaf (.j (fol n),[]):Br (V×List (Option Blk))).run:=by
 rw [Sn]
 unfold fol
 by_cases q:n<0
 ·rw [Ac (dcF (by omega)),if_pos q,Ay (n:=-2*n) (by omega) (by omega),Ay (by omega) (by omega)]; rfl
 ·rw [Af (dcT (by omega)),if_neg q,Ay (by omega) (by omega)]; rfl
theorem Aa0:Ad prog 91 (Ent.rd1 QE).F:=by
 refine Am KnowsL.nil.knows (Λ:=Ab []) func91 (c:=f91.body.getD .skip) (by kernel_rfl) fun vs bs r' hq hv hb=>?_
 unfold Ent.F QE at hq
 dsimp only at hq
 split at hq
 ·rename_i n
  obtain ⟨hc,hx⟩:=Ae hq
  exact ⟨Aq _,(Uj n (of_decide_eq_true hc)).trans hx⟩
 ·cases hq
def u8 (s:List UInt8):List Int:=s.map fun z=>((z.toNat:Nat):Int)
def F7:LoopEnt:=⟨20,[0,1],[0,1],[],fun
 | ([.ref 0 0 m,.i .i64 n],[some (.row false none (.int .u8) o)])=>.need (decide (m=o.length/\0<=n/\n<=1000000000000/\o.length<=1000000)) (.br (decide (n<128)) (.leaf (.exit 0,([.ref 0 0 m,.i .i64 n],[some (.row false none (.int .u8) o)]))) (.leaf (.exit 0,([.ref 1 0 (o++u8 (Bm 10 n.toNat).1).length,.i .i64 ((Bm 10 n.toNat).2:Int)],[none,some (.row false none (.int .u8) (o++u8 (Bm 10 n.toNat).1))]))))
 | _=>.no⟩
def F8:LoopEnt:=⟨20,[0,1],[0,1],[],fun
 | ([.nl,.i .i64 n],[])=>.need (decide (0<=n/\n<=1000000000000)) (.br (decide (n<128)) (.leaf (.exit 0,([.nl,.i .i64 n],[]))) (.leaf (.exit 0,([.ref 0 0 (u8 (Bm 10 n.toNat).1).length,.i .i64 ((Bm 10 n.toNat).2:Int)],[some (.row false none (.int .u8) (u8 (Bm 10 n.toNat).1))]))))
 | _=>.no⟩
def TN:Gm
 | [.ref 0 0 m,.i .i64 n],[.row false _ (.int .u8) o]=>.need (decide (m=o.length/\0<=n/\n<=1000000000000/\o.length<=1000000)) (.leaf (.ref 1 0 (o++u8 (vbs n.toNat)).length,[none,some (.row false none (.int .u8) (o++u8 (vbs n.toNat)))]))
 | _,_=>.no
def TO:Gm
 | [.nl,.i .i64 n],[]=>.need (decide (0<=n/\n<=1000000000000)) (.leaf (.ref 0 0 (u8 (vbs n.toNat)).length,[some (.row false none (.int .u8) (u8 (vbs n.toNat)))]))
 | _,_=>.no
def orG (f g:List V->List Blk->Br (V×List (Option Blk))) (vs:List V) (bs:List Blk):Br (V×List (Option Blk)):=match bs with | []=>g vs bs | _=>f vs bs
def YE:List V->List Blk->Br (V×List (Option Blk)):=orG TN TO
theorem Aat (m:Nat) (n:Int) (o:List Int):A0 prog (Ab []) (Ab [(1,F7)]) 1 (body f138 0) F7 ([.ref 0 0 m,.j n],[some (.row false none (.int .u8) o)]) =
 ((ifB (decide (n>=(128:Int))) (ifT (decide ((m+1)*1<=140737488355328)&&decide (m+1<=maxI)) (some (Ex.normal,[V.ref 1 0 (m+(1
 : Nat)),V.j (n.fdiv ((2:Int) ^ min 7 i64.bits))],[none,some (Blk.row false none (Cd.int .u8) (take m (drop 0 o)++
 IntKind.u8.wrap (↑(BitVec.ofInt IntKind.u8.bits (IntKind.u8.wrap n) ||| BitVec.ofInt IntKind.u8.bits (128:Int)).toNat:Int)::Ag (Cd.int .u8).den))]))) (some
 (Ex.exit 0,[V.ref 0 0 m,V.j n],[some (Blk.row false none (Cd.int .u8) o)]))):_):=by kernel_rfl
theorem Yw (m:Nat) (n:Int) (o:List Int):A0 prog (Ab []) (Ab [(1,F7)]) 1 (body f138 0) F7 ([.ref 1 0 m,.j n],[none,some (.row false none (.int .u8) o)]) =
 ((ifB (decide (n>=(128:Int))) (ifT (decide ((m+1)*1<=140737488355328)&&decide (m+1<=maxI)) (some (Ex.normal,[V.ref 1 0 (m+(1
 : Nat)),V.j (n.fdiv ((2:Int) ^ min 7 i64.bits))],[none,some (Blk.row false none (Cd.int .u8) (take m (drop 0 o)++
 IntKind.u8.wrap (↑(BitVec.ofInt IntKind.u8.bits (IntKind.u8.wrap n) ||| BitVec.ofInt IntKind.u8.bits (128:Int)).toNat:Int)::Ag (Cd.int .u8).den))]))) (some
 (Ex.exit 0,[V.ref 1 0 m,V.j n],[none,some (Blk.row false none (Cd.int .u8) o)]))):_):=by kernel_rfl
theorem Aau (n:Int):A0 prog (Ab []) (Ab [(1,F8)]) 0 (body f138 0) F8 ([.nl,.j n],[]) =
 ((ifB (decide (n>=(128:Int))) (some (Ex.normal,[V.ref 0 0 1,V.j (n.fdiv ((2:Int) ^ min 7 i64.bits))],[some (Blk.row false none (Cd.int .u8)
 (IntKind.u8.wrap (↑(BitVec.ofInt IntKind.u8.bits (IntKind.u8.wrap n) ||| BitVec.ofInt IntKind.u8.bits (128:Int)).toNat:Int)::Ag (Cd.int .u8).den))])) (some
 (Ex.exit 0,[V.nl,V.j n],[]))):_):=by kernel_rfl
theorem Yx (m:Nat) (n:Int) (o:List Int):A0 prog (Ab []) (Ab [(1,F8)]) 0 (body f138 0) F8 ([.ref 0 0 m,.j n],[some (.row false none (.int .u8) o)]) =
 ((ifB (decide (n>=(128:Int))) (ifT (decide ((m+1)*1<=140737488355328)&&decide (m+1<=maxI)) (some (Ex.normal,[V.ref 0 0 (m+(1
 : Nat)),V.j (n.fdiv ((2:Int) ^ min 7 i64.bits))],[some (Blk.row false none (Cd.int .u8) (take m (drop 0 o)++IntKind.u8.wrap
 (↑(BitVec.ofInt IntKind.u8.bits (IntKind.u8.wrap n) ||| BitVec.ofInt IntKind.u8.bits (128:Int)).toNat:Int)::Ag (Cd.int .u8).den))]))) (some (Ex.exit 0,[V.ref 0 0
 m,V.j n],[some (Blk.row false none (Cd.int .u8) o)]))):_):=by kernel_rfl
theorem Se (m:Nat) (n:Int) (o:List Int) (nl:Option Bool):Bt prog (Ab []) (Ab [(1,F7)]) f138 [.ref 0 0 m,.j n] [.row false nl (.int .u8) o] =
 ((ifT (decide (m=o.length/\(0:Int)<=n/\n<=(1000000000000:Int)/\o.length<=1000000)) (ifB (decide (n<(128:Int))) (ifT (decide ((m+1)*(1 :
 Nat)<=140737488355328)&&decide (m+1<=maxI)) (some (V.ref 1 0 (m+1),[none,some (Blk.row false none (Cd.int .u8) (take m (drop
 0 o)++IntKind.u8.wrap n::Ag (Cd.int .u8).den))]))) (ifT (decide (((o++u8 (Bm 10 n.toNat).fst).length+1)*1<=(140737488355328
 : Nat))&&decide ((o++u8 (Bm 10 n.toNat).fst).length+1<=maxI)) (some (V.ref 1 0 ((o++u8 (Bm 10 n.toNat).fst).length+1),
 [none,some (Blk.row false none (Cd.int .u8) (take (o++u8 (Bm 10 n.toNat).fst).length (drop 0 (o++u8 (Bm 10 n.toNat).fst))++
 IntKind.u8.wrap (↑(Bm 10 n.toNat).snd:Int)::Ag (Cd.int .u8).den))]))))):_):=by kernel_rfl
theorem Sf (n:Int):Bt prog (Ab []) (Ab [(1,F8)]) f138 [.nl,.j n] [] =
 ((ifT (decide ((0:Int)<=n/\n<=(1000000000000:Int))) (ifB (decide (n<(128:Int))) (some (V.ref 0 0 1,[some (Blk.row false none (Cd.int .u8) (IntKind.u8.wrap n::
 Ag (Cd.int .u8).den))])) (ifT (decide (((u8 (Bm 10 n.toNat).fst).length+1)*1<=140737488355328)&&decide ((u8 (Bm 10
 n.toNat).fst).length+1<=maxI)) (some (V.ref 0 0 ((u8 (Bm 10 n.toNat).fst).length+1),[some (Blk.row false none (Cd.int .u8) (take (u8
 (Bm 10 n.toNat).fst).length (drop 0 (u8 (Bm 10 n.toNat).fst))++IntKind.u8.wrap (↑(Bm 10 n.toNat).snd:Int)::Ag (Cd.int
 .u8).den))]))))):_):=by kernel_rfl
theorem Js (z:UInt8) (s:List UInt8):u8 (z::s)=((z.toNat:Nat):Int)::u8 s:=rfl
theorem Ic (a b:List UInt8):u8 (a++b)=u8 a++u8 b:=by unfold u8; rw [List.map_append]
theorem F9 (a:List UInt8):(u8 a).length=a.length:=by unfold u8; rw [List.length_map]
theorem Rg (a:List UInt8):(u8 a).map (fun n:Int=>UInt8.ofNat n.toNat)=a:=by
 unfold u8
 rw [map_map]
 conv=>rhs; rw [<-List.map_id a]
 exact List.map_congr_left fun z _=>by simp
theorem Aaq (n:Nat):IntKind.u8.wrap (n:Int)=((n % 256:Nat):Int):=by
 unfold IntKind.wrap
 simp [IntKind.bits,IntKind.signed]
theorem Nc (n:Nat):IntKind.u8.wrap ((BitVec.ofInt IntKind.u8.bits (IntKind.u8.wrap (n:Int)) ||| BitVec.ofInt IntKind.u8.bits (128:Int)).toNat:Int)=(((UInt8.ofNat (n % 128+128)).toNat:Nat):Int):=by
 have key : ∀ x,x<256->(BitVec.ofNat 8 x ||| BitVec.ofNat 8 128).toNat=x % 128+128:=by decide
 have e:(BitVec.ofInt IntKind.u8.bits (IntKind.u8.wrap (n:Int)) ||| BitVec.ofInt IntKind.u8.bits (128:Int)).toNat=n % 128+128:=by
  rw [Aaq]
  show (BitVec.ofInt 8 ((n % 256:Nat):Int) ||| BitVec.ofInt 8 ((128:Nat):Int)).toNat=_
  rw [BitVec.ofInt_natCast,BitVec.ofInt_natCast,key (n % 256) (by omega)]
  omega
 rw [e,NY (by omega)]
 have:(UInt8.ofNat (n % 128+128)).toNat=n % 128+128:=by
  rw [UInt8.toNat_ofNat']; omega
 rw [this]
theorem Aar {n:Nat} (h:n<128):IntKind.u8.wrap (n:Int)=(((UInt8.ofNat n).toNat:Nat):Int):=by
 rw [NY (by omega)]
 have:(UInt8.ofNat n).toNat=n:=by rw [UInt8.toNat_ofNat']; omega
 rw [this]
theorem WK (n:Nat):fdiv (n:Int) ((2:Int) ^ min 7 i64.bits)=((n / 128:Nat):Int):=by
 show fdiv (n:Int) ((128:Nat):Int)=_
 rw [Int.fdiv_eq_ediv_of_nonneg _ (by omega)]
 rfl
theorem D9 {f n:Nat} (h:128<=n):Bm (f+1) n=(UInt8.ofNat (n % 128+128)::(Bm f (n / 128)).1,(Bm f (n / 128)).2):=by rw [Bm,if_pos h]
theorem CE {f n:Nat} (h:n<128):Bm f n=([],n):=by
 cases f with
 | zero=>rfl
 | succ f=>rw [Bm,if_neg (by omega)]
theorem Hu (f n:Nat):(Bm f n).1.length<=f:=by
 induction f generalizing n with
 | zero=>rw [Bm]; exact Nat.le_refl _
 | succ f ih=>
  rw [Bm]
  split
  ·have:=ih (n / 128)
   rw [length_cons]; omega
  ·exact Nat.zero_le _
theorem LK : ∀ (f n:Nat) (o:List Int),n<128 ^ f->f<=10->o.length+f<=1000010->
  Runs prog (Ab []) (Ab [(1,F7)]) 1 (body f138 0) F7 ([.ref 1 0 o.length,.j (n:Int)],[none,some (.row false none (.int .u8) o)]) (.exit 0) ([.ref 1 0 (o++u8 (Bm f n).1).length,.j ((Bm f n).2:Int)],[none,some (.row false none (.int .u8) (o++u8 (Bm f n).1))])
 | 0,n,o,h,hf,ho=>by
  have:n=0:=by simpa using h
  subst this
  have hr:=Yw o.length ((0:Nat):Int) o
  rw [Ac (dcF (by omega))] at hr
  rw [Bm,show u8 []=[] from rfl,append_nil]
  exact .stop _ _ _ hr (by simp)
 | f+1,n,o,h,hf,ho=>by
  have hM:maxI=9223372036854775807:=rfl
  have hr:=Yw o.length (n:Int) o
  by_cases q:128<=n
  ·rw [Af (dcT (by omega)),Aa (by simp only [anE,dcE]; omega),Nc,WK,drop_zero,take_length] at hr
   rw [pow_succ] at h
   have ih:=LK f (n / 128) (o++[(((UInt8.ofNat (n % 128+128)).toNat:Nat):Int)]) (Nat.div_lt_of_lt_mul (by omega)) (by omega) (by simp; omega)
   rw [length_append,length_singleton,append_assoc] at ih
   rw [D9 q]
   dsimp only
   rw [Js]
   exact .step _ _ _ _ hr ih
  ·rw [Ac (dcF (by omega))] at hr
   rw [CE (by omega),show u8 []=[] from rfl,append_nil]
   exact .stop _ _ _ hr (by simp)
theorem LL : ∀ (f n:Nat) (o:List Int),n<128 ^ f->f<=10->o.length+f<=1000010->
  Runs prog (Ab []) (Ab [(1,F8)]) 0 (body f138 0) F8 ([.ref 0 0 o.length,.j (n:Int)],[some (.row false none (.int .u8) o)]) (.exit 0) ([.ref 0 0 (o++u8 (Bm f n).1).length,.j ((Bm f n).2:Int)],[some (.row false none (.int .u8) (o++u8 (Bm f n).1))])
 | 0,n,o,h,hf,ho=>by
  have:n=0:=by simpa using h
  subst this
  have hr:=Yx o.length ((0:Nat):Int) o
  rw [Ac (dcF (by omega))] at hr
  rw [Bm,show u8 []=[] from rfl,append_nil]
  exact .stop _ _ _ hr (by simp)
 | f+1,n,o,h,hf,ho=>by
  have hM:maxI=9223372036854775807:=rfl
  have hr:=Yx o.length (n:Int) o
  by_cases q:128<=n
  ·rw [Af (dcT (by omega)),Aa (by simp only [anE,dcE]; omega),Nc,WK,drop_zero,take_length] at hr
   rw [pow_succ] at h
   have ih:=LL f (n / 128) (o++[(((UInt8.ofNat (n % 128+128)).toNat:Nat):Int)]) (Nat.div_lt_of_lt_mul (by omega)) (by omega) (by simp; omega)
   rw [length_append,length_singleton,append_assoc] at ih
   rw [D9 q]
   dsimp only
   rw [Js]
   exact .step _ _ _ _ hr ih
  ·rw [Ac (dcF (by omega))] at hr
   rw [CE (by omega),show u8 []=[] from rfl,append_nil]
   exact .stop _ _ _ hr (by simp)
theorem p10 {n:Nat} (h:(n:Int)<=1000000000000):n<128 ^ 10/\n / 128<128 ^ 9:=by
 have a:(128:Nat) ^ 10=1180591620717411303424:=by decide
 have b:(128:Nat) ^ 9=9223372036854775808:=by decide
 omega
theorem W9:A4 prog (Ab []) (Ab [(1,F7)]) 1 (f138.body.getD .skip):=by
 refine Ax (a:=body f138 0) (by kernel_rfl) fun d ex d' h=>?_
 unfold F7 at h
 dsimp only at h
 split at h
 ·rename_i m n o
  obtain ⟨hc,hx⟩:=Ae h
  clear h
  obtain ⟨rfl,h0,h1,h2⟩:=of_decide_eq_true hc
  obtain ⟨n,rfl⟩:=eq_ofNat_of_zero_le h0
  rw [ntN] at hx
  have hM:maxI=9223372036854775807:=rfl
  have hr:=Aat o.length (n:Int) o
  by_cases q:n<128
  ·rw [Ac (dcF (by omega))] at hr
   rw [Wq (dcT (by omega))] at hx
   have h8:=Ar hx
   obtain ⟨rfl,rfl⟩:=Prod.mk.inj h8
   exact .stop _ _ _ hr (by simp)
  ·rw [Af (dcT (by omega)),Aa (by simp only [anE,dcE]; omega),Nc,WK,drop_zero,take_length] at hr
   rw [Yr (dcF (by omega)),D9 (by omega)] at hx
   have h8:=Ar hx
   obtain ⟨rfl,rfl⟩:=Prod.mk.inj h8
   have ih:=LK 9 (n / 128) (o++[(((UInt8.ofNat (n % 128+128)).toNat:Nat):Int)]) (p10 h1).2 (by omega) (by simp; omega)
   rw [length_append,length_singleton,append_assoc] at ih
   rw [Js]
   exact .step _ _ _ _ hr ih
 ·cases h
theorem WA:A4 prog (Ab []) (Ab [(1,F8)]) 0 (f138.body.getD .skip):=by
 refine Ax (a:=body f138 0) (by kernel_rfl) fun d ex d' h=>?_
 unfold F8 at h
 dsimp only at h
 split at h
 ·rename_i n
  obtain ⟨hc,hx⟩:=Ae h
  clear h
  obtain ⟨h0,h1⟩:=of_decide_eq_true hc
  obtain ⟨n,rfl⟩:=eq_ofNat_of_zero_le h0
  rw [ntN] at hx
  have hr:=Aau (n:Int)
  by_cases q:n<128
  ·rw [Ac (dcF (by omega))] at hr
   rw [Wq (dcT (by omega))] at hx
   have h8:=Ar hx
   obtain ⟨rfl,rfl⟩:=Prod.mk.inj h8
   exact .stop _ _ _ hr (by simp)
  ·rw [Af (dcT (by omega)),Nc,WK] at hr
   rw [Yr (dcF (by omega)),D9 (by omega)] at hx
   have h8:=Ar hx
   obtain ⟨rfl,rfl⟩:=Prod.mk.inj h8
   have ih:=LL 9 (n / 128) [(((UInt8.ofNat (n % 128+128)).toNat:Nat):Int)] (p10 h1).2 (by omega) (by simp)
   rw [Js]
   exact .step _ _ _ _ hr ih
 ·cases h
theorem TK {n:Nat} (h:(n:Int)<=1000000000000):u8 (vbs n)=u8 (Bm 10 n).1++[IntKind.u8.wrap ((Bm 10 n).2:Int)]:=by
 have:=Jn 10 n (by have:=(p10 h).1; rw [pow_succ]; omega)
 unfold vbs
 rw [Ic,Aar this.1]; rfl
theorem TP (m:Nat) (n:Int) (o:List Int) (nl:Option Bool) (hc:m=o.length/\0<=n/\n<=1000000000000/\o.length<=1000000):Bt prog (Ab []) (Ab [(1,F7)]) f138 [.ref 0 0 m,.j n] [.row false nl (.int .u8) o]=some (.ref 1 0 (o++u8 (vbs n.toNat)).length,[none,some (.row false none (.int .u8) (o++u8 (vbs n.toNat)))]):=by
 rw [Se,Aa (dcT hc)]
 obtain ⟨rfl,h0,h1,h2⟩:=hc
 obtain ⟨n,rfl⟩:=eq_ofNat_of_zero_le h0
 have hM:maxI=9223372036854775807:=rfl
 have hp:=Hu 10 n
 rw [ntN,TK h1]
 by_cases q:n<128
 ·rw [Af (dcT (by omega)),Aa (by simp only [anE,dcE]; omega),CE q]
  simp only [drop_zero,take_length,AI,show u8 []=[] from rfl,List.nil_append,length_append,length_singleton]
 ·rw [Ac (dcF (by omega)),Aa (by simp only [anE,dcE,length_append,F9]; omega)]
  simp only [drop_zero,take_length]
  simp only [AI,<-append_assoc,length_append,length_singleton]
theorem TQ (n:Int) (hc:0<=n/\n<=1000000000000):Bt prog (Ab []) (Ab [(1,F8)]) f138 [.nl,.j n] []=some (.ref 0 0 (u8 (vbs n.toNat)).length,[some (.row false none (.int .u8) (u8 (vbs n.toNat)))]):=by
 rw [Sf,Aa (dcT hc)]
 obtain ⟨h0,h1⟩:=hc
 obtain ⟨n,rfl⟩:=eq_ofNat_of_zero_le h0
 have hM:maxI=9223372036854775807:=rfl
 have hp:=Hu 10 n
 rw [ntN,TK h1]
 by_cases q:n<128
 ·rw [Af (dcT (by omega)),CE q]
  rfl
 ·rw [Ac (dcF (by omega)),Aa (by simp only [anE,dcE,F9]; omega)]
  simp only [drop_zero,take_length]
  simp only [AI,length_append,length_singleton]
theorem P7 {P:Program} {K:FuncId} {F F' G:List V->List Blk->Option (V×List (Option Blk))} (h:Ad P K F) (h':Ad P K F') (hG : ∀ vs bs r,G vs bs=some r->F vs bs=some r\/F' vs bs=some r):Ad P K G:=by
 intro w R μ vs us bs r outs hm hn hr hG1
 rcases hG vs bs _ hG1 with h1 | h1
 ·exact h w R μ vs us bs r outs hm hn hr h1
 ·exact h' w R μ vs us bs r outs hm hn hr h1
theorem Abm:Ad prog 138 (Ent.own TN).F:=by
 refine Au KnowsL.nil.knows (Λ:=(Ab [(1,F7)])) func138 (c:=f138.body.getD .skip) (by kernel_rfl) fun vs bs r hq hv hb=>?_
 unfold Ent.F TN at hq
 dsimp only at hq
 split at hq
 ·rename_i m n nl o
  obtain ⟨hc,hx⟩:=Ae hq
  exact ⟨W9,(TP m n o nl (of_decide_eq_true hc)).trans hx⟩
 ·cases hq
theorem Abn:Ad prog 138 (Ent.own TO).F:=by
 refine Au KnowsL.nil.knows (Λ:=(Ab [(1,F8)])) func138 (c:=f138.body.getD .skip) (by kernel_rfl) fun vs bs r hq hv hb=>?_
 unfold Ent.F TO at hq
 dsimp only at hq
 split at hq
 ·rename_i n
  obtain ⟨hc,hx⟩:=Ae hq
  exact ⟨WA,(TQ n (of_decide_eq_true hc)).trans hx⟩
 ·cases hq
theorem Acl:Ad prog 138 (Ent.own YE).F:=by
 refine P7 Abm Abn fun vs bs r h=>?_
 unfold Ent.F YE orG at h
 dsimp only at h
 split at h
 ·exact .inr h
 ·exact .inl h
theorem SV (n:Int):AQ prog (Ab []) (Ab []) f139 [.j n] [] =
 ((ifB (decide (n<(0:Int))) (some (V.j (i64.wrap (i64.wrap ((-2:Int)*n)-(1:Int))),[])) (some (V.j (i64.wrap ((2:Int)*n)),
 []))):_):=by kernel_rfl
theorem Vs (n:Int) (hc : -1000000000000<=n/\n<=1000000000000):AQ prog (Ab []) (Ab []) f139 [.j n] []=some (.j (fol n),[]):=by
 obtain ⟨h0,h1⟩:=hc
 rw [SV]
 unfold fol
 by_cases q:n<0
 ·rw [Af (dcT q),if_pos q,Ay (n:=-2*n) (by omega) (by omega),Ay (by omega) (by omega)]
 ·rw [Ac (dcF q),if_neg q,Ay (by omega) (by omega)]
theorem Acm:Ad prog 139 (Ent.rd1 QE).F:=by
 refine Am KnowsL.nil.knows (Λ:=Ab []) func139 (c:=f139.body.getD .skip) (by kernel_rfl) fun vs bs r hq hv hb=>?_
 unfold Ent.F QE at hq
 dsimp only at hq
 split at hq
 ·rename_i n
  obtain ⟨hc,hx⟩:=Ae hq
  exact ⟨Aq _,(Vs n (of_decide_eq_true hc)).trans hx⟩
 ·cases hq
def fb1 (f:WFd):List UInt8:=vbs (8*f.1+f.2.1).toNat++(if f.2.1=0 then vbs (fol f.2.2.1).toNat else vbs f.2.2.2.1.length++f.2.2.2.1)
def fbs (l:List WFd):List UInt8:=l.flatMap fb1
theorem D4 {f:WFd} (h:AJ f=true):(1<=f.1/\f.1<=30)/\((f.2.1=0/\BT f.2.2.1=true/\f.2.2.2.1=[])\/(f.2.1=2/\f.2.2.1=0)):=by
 unfold AJ at h
 simp only [anE,dcE] at h
 obtain ⟨h1,h2⟩:=h
 refine ⟨h1,?_⟩
 split at h2
 ·rename_i q
  simp only [anE,beq_iff_eq] at h2
  exact .inl ⟨q,h2.1,h2.2⟩
 ·split at h2
  ·rename_i q
   exact .inr ⟨q,by simpa using h2⟩
  ·cases h2
theorem Gg {n:Int} (h:BT n=true) : -1000000000<=n/\n<=1000000000:=by
 unfold BT at h
 simpa only [anE,dcE] using h
theorem DS {n:Int} (h : -1000000000<=n/\n<=1000000000):0<=fol n/\fol n<=2000000000:=by
 unfold fol; split<;>omega
theorem CI (f:WFd) (l:List WFd):fbs (f::l)=fb1 f++fbs l:=by unfold fbs; rw [List.flatMap_cons]
def fkB (z:Rose Lab):Bool:=z.lab.1==1||z.lab.1==3
def A6 (z:Rose Lab) (n no:Int):Option (Rose An):=if BT n=true/\(z.lab.1=1\/(0<=n/\n<=z.lab.2.2.2.2.1)) then some (.node (n,[],no,false,()) []) else none
def BE (num:Bool) (N:Int->Option (Rose An)) (D:List UInt8->Option (Rose An)) (s:List UInt8):Nat->Nat->Option (List (Rose An))
 | 0,a=>if a<s.length then none else some []
 | f+1,a=>if a<s.length then (match num with
  | true=>(match N (unf (A9 (Ah s a))) with
   | some v=>if BK (Ah s a)=true then (BE num N D s f (Az a (Ah s a)).toNat).map (v::·) else none
   | none=>none)
  | false=>(match (AZ s a).2.2 with
   | true=>(match D (AZ s a).1 with
    | some v=>(BE num N D s f (AZ s a).2.1.toNat).map (v::·)
    | none=>none)
   | false=>none)) else some []
mutual
def AO:Rose Lab->List UInt8->Int->Option (Rose An)
 | .node x ks,s,no=>
  if x.1=2 then (if s.length<=30 then some (.node (0,s,no,false,()) []) else none)
  else if x.1=4 then (Em ks s).map fun vs=>.node (0,[],no,true,()) vs
  else (match EA s with
   | some fs=>(Bg ks fs).map fun vs=>.node (0,[],no,true,()) vs
   | none=>none)
def Em:List (Rose Lab)->List UInt8->Option (List (Rose An))
 | [],_=>none
 | z::_,s=>BE (fkB z) (fun n=>A6 z n 0) (fun d=>AO z d 0) s s.length 0
def Bg:List (Rose Lab)->List WFd->Option (List (Rose An))
 | [],_=>some []
 | p::ks,fs=>match fs.find? fun f=>f.1==p.lab.2.2.1 with
  | none=>if p.lab.2.2.2.1=true then none else Bg ks fs
  | some f=>if (f.2.1==0)=fkB p then (match (if (f.2.1==0)=true then A6 p f.2.2.1 p.lab.2.2.1 else AO p f.2.2.2.1 p.lab.2.2.1) with
   | some v=>(Bg ks fs).map (v::·)
   | none=>none) else none
end
def Fk (p:Rose Lab) (f:WFd):Option (Rose An):=if (f.2.1==0)=fkB p then (if (f.2.1==0)=true then A6 p f.2.2.1 f.1 else AO p f.2.2.2.1 f.1) else none
def B3 (ks:List (Rose Lab)):List WFd->Option (List (Rose An))
 | []=>some []
 | f::fs=>if Bu f.1 ks=true then (match Fk (byR f.1 ks) f with
  | some v=>(B3 ks fs).map (v::·)
  | none=>none) else B3 ks fs
def Q6:Gm
 | [.tp LCd z 0],[]=>.leaf (.i .i64 (if fkB z=true then 0 else 2),[])
 | _,_=>.no
def M5:Gm
 | [.tp LCd z 0,.ref 0 0 m,.i .i64 n,.i .i64 no,.i .i64 up],[.row false _ NCd o]=>.need (decide (m=o.length/\o.length<=2000000)) (.leaf (.tup [.ref 1 0 (o.length+1),.b (A6 z n no).isSome],[none,some (.row false none NCd (o++[(n,[],no,up,false,())]))]))
 | _,_=>.no
def QP:Gm
 | [.agg [.i .i64 fo,.i .i64 _,.i .i64 _,.s _,.i .i64 _],.bx [.tp LCd p 0] 0],[]=>.leaf (.b (fo==p.lab.2.2.1),[])
 | _,_=>.no
def dfE  : LoopEnt:=⟨19,[0,1,4,7,8],[],[4],fun
 | ([.sl PCd l,.fn 144 [] [.ptr 0 0],.i .i64 _,.i .i64 k,.i .i64 i],[some (.box [.tp LCd p 0])])=>
  .need (decide (0<=i/\i.toNat<=l.length/\l.length<=maxI/\k=l.length)) (.br (decide (AA (fun z:Pl=>z.1.1==p.lab.2.2.1) i.toNat (l.drop i.toNat)<0)) (.leaf (.exit 0,([],[some (.box [.tp LCd p 0])]))) (.leaf (.ret,([.i .i64 (AA (fun z:Pl=>z.1.1==p.lab.2.2.1) i.toNat (l.drop i.toNat))],[some (.box [.tp LCd p 0])]))))
 | _=>.no⟩
def Tt  : Gm
 | [.sl PCd l,.fn 144 [] [.ptr 0 0]],[.box [.tp LCd p 0]]=>.leaf (.i .i64 (AA (fun z:Pl=>z.1.1==p.lab.2.2.1) 0 l),[some (.box [.tp LCd p 0])])
 | _,_=>.no
theorem MA {z:Rose Lab} {n no:Int} {v:Rose An} (h:A6 z n no=some v):v.lab.2.2.1=no:=by
 unfold A6 at h
 split at h
 ·cases h; rfl
 ·cases h
theorem NF {z:Rose Lab} {s:List UInt8} {no:Int} {v:Rose An} (h:AO z s no=some v):v.lab.2.2.1=no:=by
 obtain ⟨x,ks⟩:=z
 unfold AO at h
 split at h
 ·split at h
  ·cases h; rfl
  ·cases h
 ·split at h
  ·obtain ⟨vs,_,rfl⟩:=map_eq_some_iff.1 h; rfl
  ·split at h
   ·obtain ⟨vs,_,rfl⟩:=map_eq_some_iff.1 h; rfl
   ·cases h
theorem Gt {p:Rose Lab} {f:WFd} {v:Rose An} (h:Fk p f=some v):v.lab.2.2.1=f.1:=by
 unfold Fk at h
 split at h
 ·split at h
  ·exact MA h
  ·exact NF h
 ·cases h
theorem BI (p:Rose Lab) (ks:List (Rose Lab)) (fs:List WFd):Bg (p::ks) fs=(match fs.find? fun f=>f.1==p.lab.2.2.1 with
  | none=>if p.lab.2.2.2.1=true then none else Bg ks fs
  | some f=>(match Fk p f with
   | some v=>(Bg ks fs).map (v::·)
   | none=>none)):=by
 rw [Bg]
 cases hf:fs.find? (fun f=>f.1==p.lab.2.2.1) with
 | none=>rfl
 | some f=>
  have hfe:f.1=p.lab.2.2.1:=by simpa using List.find?_some hf
  unfold Fk
  dsimp only
  rw [<-hfe]
  by_cases q:(f.2.1==0)=fkB p
  ·rw [if_pos q,if_pos q]; all_goals rfl
  ·rw [if_neg q,if_neg q]
theorem I8 {f:WFd} {fs:List WFd} : ∀ {ks:List (Rose Lab)},(∀ y∈ks,y.lab.2.2.1≠f.1)->Bg ks (f::fs)=Bg ks fs
 | [],_=>by rw [Bg,Bg]
 | p::ks,h=>by
  have hp : ¬(f.1==p.lab.2.2.1)=true:=by have:=h p (by simp); simpa using fun e=>this e.symm
  rw [BI,BI,List.find?_cons_of_neg (p:=fun f:WFd=>f.1==p.lab.2.2.1) hp,I8 (fun y hy=>h y (mem_cons_of_mem _ hy))]
theorem I6 {p:Rose Lab} {ks:List (Rose Lab)} : ∀ {fs:List WFd},(∀ f∈fs,f.1≠p.lab.2.2.1)->B3 (p::ks) fs=B3 ks fs
 | [],_=>by rw [B3,B3]
 | f::fs,h=>by
  obtain ⟨e1,e2⟩:=Eh (z:=p) (ks:=ks) (h f (by simp))
  rw [B3,B3,e1,e2,I6 (fun g hg=>h g (mem_cons_of_mem _ hg))]
theorem Lc {ks:List (Rose Lab)} : ∀ {fs:List WFd} {vs:List (Rose An)},B3 ks fs=some vs->∀ v∈vs,∃ f∈fs,v.lab.2.2.1=f.1
 | [],vs,h,v,hv=>by rw [B3] at h; cases h; cases hv
 | f::fs,vs,h,v,hv=>by
  rw [B3] at h
  split at h
  ·split at h
   ·rename_i w hw
    obtain ⟨us,h1,rfl⟩:=map_eq_some_iff.1 h
    rcases mem_cons.1 hv with rfl | hv
    ·exact ⟨f,by simp,Gt hw⟩
    ·obtain ⟨g,h2,h3⟩:=Lc h1 v hv
     exact ⟨g,mem_cons_of_mem _ h2,h3⟩
   ·cases h
  ·obtain ⟨g,h2,h3⟩:=Lc h v hv
   exact ⟨g,mem_cons_of_mem _ h2,h3⟩
def Y0 (a b:WFd):Prop:=a.1<b.1
theorem Wa : ∀ (N:Nat) (ks:List (Rose Lab)) (fs:List WFd),ks.length+fs.length<=N->ks.Pairwise KR->fs.Pairwise Y0->Bg ks fs=(match B3 ks fs with | some vs=>if B6 vs ks=true then some vs else none | none=>none):=by
 intro N
 induction N with
 | zero=>
  intro ks fs hN _ _
  obtain rfl:ks=[]:=List.eq_nil_of_length_eq_zero (by omega)
  obtain rfl:fs=[]:=List.eq_nil_of_length_eq_zero (by omega)
  rw [Bg,B3]; rfl
 | succ N ih=>
  intro ks fs hN hk hf
  cases fs with
  | nil=>
   have key : ∀ ks:List (Rose Lab),Bg ks []=if B6 [] ks=true then some [] else none:=by
    intro ks
    induction ks with
    | nil=>rw [Bg]; rfl
    | cons p ks ihk=>
     rw [BI,List.find?_nil,ihk]
     unfold B6
     rw [all_cons]
     cases p.lab.2.2.2.1<;>simp [Dd]
   rw [key,B3]
  | cons f fs=>
   cases ks with
   | nil=>
    have : ∀ fs:List WFd,B3 [] fs=some []:=by
     intro fs
     induction fs with
     | nil=>rw [B3]
     | cons g fs ihf=>rw [B3,ihf]; rfl
    rw [Bg,this]; rfl
   | cons p ks=>
    have hk2:=List.pairwise_cons.1 hk
    have hf2:=List.pairwise_cons.1 hf
    simp only [length_cons] at hN
    have fgt : ∀ g∈fs,f.1<g.1:=fun g hg=>hf2.1 g hg
    have kgt : ∀ y∈ks,p.lab.2.2.1<y.lab.2.2.1:=fun y hy=>hk2.1 y hy
    rcases Int.lt_trichotomy f.1 p.lab.2.2.1 with h | h | h
    ·have e1 : ∀ y∈p::ks,y.lab.2.2.1≠f.1:=fun y hy=>by
      rcases mem_cons.1 hy with rfl | hy
      ·omega
      ·have:=kgt y hy; omega
     have e2:Bu f.1 (p::ks)=false:=by
      cases e:Bu f.1 (p::ks) with
      | false=>rfl
      | true=>obtain ⟨y,hy,hy2⟩:=DR.1 e; exact absurd hy2 (e1 y hy)
     rw [I8 e1,B3,e2,ih (p::ks) fs (by simp only [length_cons]; omega) hk hf2.2]
     rfl
    ·have e1 : ∀ y∈ks,y.lab.2.2.1≠f.1:=fun y hy=>by have:=kgt y hy; omega
     have e2:Bu f.1 (p::ks)=true:=DR.2 ⟨p,by simp,h.symm⟩
     have e3:byR f.1 (p::ks)=p:=by rw [byR,if_pos h.symm]
     have e4 : ∀ g∈fs,g.1≠p.lab.2.2.1:=fun g hg=>by have:=fgt g hg; omega
     rw [BI,List.find?_cons_of_pos (p:=fun f:WFd=>f.1==p.lab.2.2.1) (by simpa using h),B3,if_pos e2,e3,I8 e1,I6 e4]
     dsimp only
     cases hd:Fk p f with
     | none=>rfl
     | some v=>
      dsimp only
      rw [ih ks fs (by omega) hk2.2 hf2.2]
      have hv:=Gt hd
      cases hs:B3 ks fs with
      | none=>rfl
      | some vs=>
       have em:B6 (v::vs) (p::ks)=B6 vs ks:=by
        unfold B6
        rw [all_cons]
        have e5:Dd p.lab.2.2.1 (v::vs)=true:=by unfold Dd; rw [List.any_cons,hv,h]; simp
        rw [e5,Bool.or_true,Bool.true_and,Bool.eq_iff_iff,all_eq_true,all_eq_true]
        refine forall_congr' fun y=>forall_congr' fun hy=>?_
        have e6:Dd y.lab.2.2.1 (v::vs)=Dd y.lab.2.2.1 vs:=by
         unfold Dd
         rw [List.any_cons,hv,show (f.1==y.lab.2.2.1)=false from beq_eq_false_iff_ne.2 (e1 y hy).symm,Bool.false_or]
        rw [e6]
       dsimp only [Option.map]
       rw [em]
       by_cases hm:B6 vs ks=true
       ·rw [if_pos hm,if_pos hm]
       ·rw [if_neg hm,if_neg hm]
    ·have e4 : ∀ g∈f::fs,g.1≠p.lab.2.2.1:=fun g hg=>by
      rcases mem_cons.1 hg with rfl | hg
      ·omega
      ·have:=fgt g hg; omega
     have e5:(f::fs).find? (fun f=>f.1==p.lab.2.2.1)=none:=List.find?_eq_none.2 fun g hg=>by simpa using e4 g hg
     rw [BI,e5,I6 e4]
     dsimp only
     rw [ih ks (f::fs) (by simp only [length_cons]; omega) hk2.2 hf]
     cases hs:B3 ks (f::fs) with
     | none=>simp
     | some vs=>
      dsimp only
      have em:B6 vs (p::ks)=(!p.lab.2.2.2.1&&B6 vs ks):=by
       unfold B6
       rw [all_cons]
       have:Dd p.lab.2.2.1 vs=false:=by
        cases e:Dd p.lab.2.2.1 vs with
        | false=>rfl
        | true=>
         unfold Dd at e
         obtain ⟨v,hv,hv2⟩:=List.any_eq_true.1 e
         obtain ⟨g,hg,hg2⟩:=Lc hs v hv
         have:=e4 g hg
         have hv2:v.lab.2.2.1=p.lab.2.2.1:=by simpa using hv2
         omega
       rw [this,Bool.or_false]
      rw [em]
      cases p.lab.2.2.2.1<;>simp
theorem Xt (z:Rose Lab):AQ prog (Ab []) (Ab []) f82 [.tp LCd z 0] []=some (.j (if fkB z=true then 0 else 2),[]):=by
 have e:AQ prog (Ab []) (Ab []) f82 [.tp LCd z 0] []=((ifB (z.lab.fst==(1:Int)) (some (V.j 0,[])) (ifB (z.lab.fst==(3:Int)) (some (V.j 0,[])) (some (V.j 2,[])))):_):=by kernel_rfl
 rw [e]
 clear e
 unfold fkB
 cases z.lab.1==1<;>cases z.lab.1==3<;>rfl
theorem kfk:Ad prog 82 (Ent.rd1 Q6).F:=by
 refine Am KnowsL.nil.knows (Λ:=Ab []) func82 (c:=f82.body.getD .skip) (by kernel_rfl) fun vs bs r' hq hv hb=>?_
 unfold Ent.F Q6 at hq
 dsimp only at hq
 split at hq
 ·exact ⟨Aq _,(Xt _ ).trans hq⟩
 ·cases hq
theorem Tl (z:Rose Lab) (m:Nat) (n no up:Int) (nl:Option Bool) (o:List Nd):Bt prog (Ab [(172,.rd1 FG),(85,.rd1 AE)]) (Ab []) f145 [.tp LCd z 0,.ref 0 0 m,.j n,.j no,.j up] [.row false nl NCd o] =
 ((ifT (decide ((m+1)*48<=140737488355328)&&decide (m+1<=maxI)) (ifB (BT n) (ifB (z.lab.fst==(1:Int)) (some (V.tup [V.ref 1 0
 (m+1),V.b true],[none,some (Blk.row false none NCd (take m (drop 0 o)++(n,Ag UInt8,no,up,false,())::Ag NCd.den))])) (some
 (V.tup [V.ref 1 0 (m+1),V.b (decide ((0:Int)<=n/\n<=z.lab.snd.snd.snd.snd.fst))],[none,some (Blk.row false none NCd (take m (drop 0 o)
 ++ (n,Ag UInt8,no,up,false,())::Ag NCd.den))]))) (some (V.tup [V.ref 1 0 (m+1),V.b false],[none,some (Blk.row false none NCd (take m
 (drop 0 o)++(n,Ag UInt8,no,up,false,())::Ag NCd.den))])))):_):=by kernel_rfl
theorem VJ (z:Rose Lab) (m:Nat) (n no up:Int) (nl:Option Bool) (o:List Nd) (hc:m=o.length/\o.length<=2000000):Bt prog (Ab [(172,.rd1 FG),(85,.rd1 AE)]) (Ab []) f145 [.tp LCd z 0,.ref 0 0 m,.j n,.j no,.j up] [.row false nl NCd o]=some (.tup [.ref 1 0 (o.length+1),.b (A6 z n no).isSome],[none,some (.row false none NCd (o++[(n,[],no,up,false,())]))]):=by
 rw [Tl]
 try dsimp only [shr]
 obtain ⟨rfl,h1⟩:=hc
 have hM:maxI=9223372036854775807:=rfl
 simp only [AI,drop_zero,take_length]
 unfold A6
 have el:(decide ((o.length+1)*48<=140737488355328)&&decide (o.length+1<=maxI))=true:=by simp only [anE,dcE]; omega
 simp only [Aa el]
 cases h2:BT n with
 | false=>simp [ifB]
 | true=>
  by_cases h3:z.lab.1=1
  ·simp [ifB,h3]
  ·have h4:=beq_eq_false_iff_ne.2 h3
   by_cases h5:0<=n/\n<=z.lab.2.2.2.2.1
   ·simp [ifB,h3,h4,h5]
   ·simp [ifB,h3,h4,h5]
theorem ZT:Ad prog 145 (Ent.own M5).F:=by
 refine Au (kc func172 UQ (kc func85 EL KnowsL.nil)).knows (Λ:=(Ab [])) func145 (c:=f145.body.getD .skip) (by kernel_rfl) fun vs bs r' hq hv hb=>?_
 unfold Ent.F M5 at hq
 dsimp only at hq
 split at hq
 ·rename_i z m n no up nl o
  obtain ⟨hc,hx⟩:=Ae hq
  exact ⟨Aq _,(VJ z m n no up nl o (of_decide_eq_true hc)).trans hx⟩
 ·cases hq
theorem Wd:Ad prog 144 (Ent.rd1 QP).F:=by
 refine Am KnowsL.nil.knows (Λ:=Ab []) func144 (c:=f144.body.getD .skip) (by kernel_rfl) fun vs bs r hq hv hb=>?_
 unfold Ent.F QP at hq
 dsimp only at hq
 split at hq
 ·rename_i fo fk fn fd fr p
  refine ⟨Aq _,Eq.trans ?_ hq⟩
  have e:AQ prog (Ab []) (Ab []) f144 [.agg [.j fo,.j fk,.j fn,.s fd,.j fr],.bx [.tp LCd p 0] 0] []=((some (V.b (fo==p.lab.snd.snd.fst),[])):_):=by kernel_rfl
  exact e
 ·cases hq
theorem Pz  (p:Rose Lab) (l:List (Pl)) (r k i:Int):A0 prog (Ab [(144,.rd1 QP)]) (Ab [(2,dfE)]) 1 (body f143 0) dfE ([.sl PCd l,.fn 144 [] [.ptr 0 0],.j r,.j k,.j i],[some (.box [.tp LCd p 0])]) =
 ((ifB (decide (i<k)) (ifT (decide ((0:Int)<=i)&&decide (i<(↑l.length:Int))) (Ap l[i.toNat]? fun z=>ifB (z.fst.fst==p.lab.snd.snd.fst) (some (Ex.ret,[V.i
 .i64 i],[some (Blk.box [V.tp LCd p 0])])) (some (Ex.normal,[V.sl PCd l,V.fn 144 [] [V.ptr 0 0],V.j r,V.j k,V.i .i64
 (i64.wrap (i+(1:Int)))],[some (Blk.box [V.tp LCd p 0])])))) (some (Ex.exit 0,[],[some (Blk.box [V.tp LCd p 0])]))):_):=by kernel_rfl
theorem RU  (p:Rose Lab) {l:List (Pl)} {r:Int} (hx:l.length<=maxI) : ∀ (j i:Nat),i+j=l.length->∀ e d',(.br (decide (AA (fun z:Pl=>z.1.1==p.lab.2.2.1) i (l.drop i)<0)) (.leaf (.exit 0,([],[some (.box [.tp LCd p 0])]))) (.leaf (.ret,([.j (AA (fun z:Pl=>z.1.1==p.lab.2.2.1) i (l.drop i))],[some (.box [.tp LCd p 0])]))):Br (Ex×Dt)).run=some (e,d')->
  Runs prog (Ab [(144,.rd1 QP)]) (Ab [(2,dfE)]) 1 (body f143 0) dfE ([.sl PCd l,.fn 144 [] [.ptr 0 0],.j r,.j (l.length:Int),.j (i:Int)],[some (.box [.tp LCd p 0])]) e d'
 | 0,i,hi,e,d',h=>by
  have e1:l.drop i=[]:=drop_eq_nil_of_le (by omega)
  rw [e1,CC,AA,if_pos (by omega)] at h
  cases h
  have hr:=Pz p l r l.length i
  rw [Ac (dcF (by omega))] at hr
  exact .stop _ _ _ hr (by simp)
 | j+1,i,hi,e,d',h=>by
  have h1:i<l.length:=by omega
  have hr:=Pz p l r l.length i
  rw [Af (dcT (by omega)),Aa (by simp only [anE,dcE]; omega)] at hr
  simp only [ntN,gtE h1,As,A3 (n:=i) (by omega)] at hr
  rw [drop_eq_getElem_cons h1,CC,AA] at h
  by_cases he:(fun z:Pl=>z.1.1==p.lab.2.2.1) l[i]=true
  ·rw [if_pos he,if_neg (by omega)] at h
   cases h
   rw [Af he] at hr
   exact .stop _ _ _ hr (by simp)
  ·rw [if_neg he] at h
   rw [Ac (by simpa using he)] at hr
   exact .step _ _ _ _ hr (RU p hx j (i+1) (by omega) e d' (by rw [CC]; exact h))
theorem Ab3  : A4 prog (Ab [(144,.rd1 QP)]) (Ab [(2,dfE)]) 1 (f143.body.getD .skip):=by
 refine Ax (a:=body f143 0) (by kernel_rfl) fun d e d' h=>?_
 unfold dfE at h
 dsimp only at h
 split at h
 ·obtain ⟨hc,h'⟩:=Ae h
  obtain ⟨h0,h1,h2,rfl⟩:=of_decide_eq_true hc
  obtain ⟨i,rfl⟩:=eq_ofNat_of_zero_le h0
  exact RU _  h2 _ i (Nat.add_sub_of_le h1) e d' h'
 ·cases h
theorem ZY  (p:Rose Lab) (l:List (Pl)) (hx:l.length<=maxI):AQ prog (Ab [(144,.rd1 QP)]) (Ab [(2,dfE)]) f143 [.sl PCd l,.fn 144 [] [.ptr 0 0]] [.box [.tp LCd p 0]]=some (.j (AA (fun z:Pl=>z.1.1==p.lab.2.2.1) 0 l),[some (.box [.tp LCd p 0])]):=by
 have e:AQ prog (Ab [(144,.rd1 QP)]) (Ab [(2,dfE)]) f143 [.sl PCd l,.fn 144 [] [.ptr 0 0]] [.box [.tp LCd p 0]] =
  ((ifT (decide ((0:Int)<=(0:Int)/\0<=l.length/\l.length<=maxI/\(↑l.length:Int)=(↑l.length:Int))) (ifB (decide (AA (fun z=>z.fst.fst==
 p.lab.snd.snd.fst) 0 (drop 0 l)<(0:Int))) (some (V.j (-1),[some (Blk.box [V.tp LCd p 0])])) (some (V.j (AA (fun z=>
 z.fst.fst==p.lab.snd.snd.fst) 0 (drop 0 l)),[some (Blk.box [V.tp LCd p 0])])))):_):=by kernel_rfl
 rw [e,Aa (dcT ⟨by omega,by omega,hx,rfl⟩)]
 simp only [drop_zero]
 by_cases q:AA (fun z:Pl=>z.1.1==p.lab.2.2.1) 0 l<0
 ·rw [Af (dcT q),Hb _ _ _ q]
 ·rw [Ac (dcF q)]
theorem ZX  : Ad prog 143 (Ent.own Tt).F:=by
 refine Am (kc func144 Wd KnowsL.nil).knows (Λ:=(Ab [(2,dfE)])) func143 (c:=f143.body.getD .skip) (by kernel_rfl) fun vs bs r h hv hb=>?_
 unfold Ent.F Tt at h
 dsimp only at h
 split at h
 ·rename_i l p
  have h':=h
  exact ⟨Ab3 ,(ZY p l (hv (.sl PCd l) (by simp)).1).trans (by cases h'; rfl)⟩
 ·cases h
theorem VU:Ad prog 143 (Ent.mix Tt).F:=ZX
def mxD:List WFd->Nat
 | []=>0
 | f::fs=>max f.2.2.2.1.length (mxD fs)
def dlE (n:Nat):LoopEnt:=⟨74,[1,2,3,10,11],[1],[8,9],fun
 | ([.ref 1 0 m,.s s,.i .i64 up,.tp LCd z 0,.i .i64 a],[none,some (.row false none NCd o)])=>.need (decide (m=o.length/\0<=a/\a.toNat<=s.length/\0<=up/\s.length<=400/\Aj z=true/\Ao z<=n/\o.length+Ao z*(s.length-a.toNat)<=1000000)) (.br (BE (fkB z) (fun n=>A6 z n 0) (fun d=>AO z d 0) s (s.length-a.toNat) a.toNat).isSome (.leaf (.exit 0,([.ref 1 0 (o++AB ((BE (fkB z) (fun n=>A6 z n 0) (fun d=>AO z d 0) s (s.length-a.toNat) a.toNat).getD []) up.toNat o.length).length],[none,some (.row false none NCd (o++AB ((BE (fkB z) (fun n=>A6 z n 0) (fun d=>AO z d 0) s (s.length-a.toNat) a.toNat).getD []) up.toNat o.length))]))) (.leaf (.ret,([.ref 1 0 0,.b false],[none,some (.row false none NCd [])]))))
 | _=>.no⟩
def G8 (z:Rose Lab) (s:List UInt8) (up:Int) (o:List Nd):List Nd:=match Em z.kids s with | some vs=>o++AB vs up.toNat o.length | none=>[]
def dlN (n:Nat):Gm
 | [.tp LCd z 0,.ref 0 0 m,.s s,.i .i64 up],[.row false _ NCd o]=>.need (decide (m=o.length/\0<=up/\s.length<=400/\z.kids.length=1/\z.kids.all Aj=true/\Ao z<=n/\o.length+Ak z.kids*s.length<=1000000)) (.leaf (.tup [.ref 1 0 (G8 z s up o).length,.b (Em z.kids s).isSome],[none,some (.row false none NCd (G8 z s up o))]))
 | _,_=>.no
def Bv (z:Rose Lab) (s:List UInt8) (no up:Int) (o:List Nd):List Nd:=match AO z s no with | some v=>o++Al v up o.length | none=>if z.lab.1=2 then o++[(0,s,no,up,false,())] else []
def LC (n:Nat):Gm
 | [.tp LCd z 0,.ref 0 0 m,.s s,.i .i64 no,.i .i64 up],[.row false _ NCd o]=>.need (decide (m=o.length/\s.length<=400/\Aj z=true/\Ao z<=n/\o.length+Ao z*(s.length+1)<=1000000)) (.leaf (.tup [.ref 1 0 (Bv z s no up o).length,.b (AO z s no).isSome],[none,some (.row false none NCd (Bv z s no up o))]))
 | _,_=>.no
def dmE (n:Nat):LoopEnt:=⟨129,[1,12,14,68,69,70],[1],[10,11],fun
 | ([.ref 1 0 m,.ref 2 0 w,.i .i64 up,.sl (.tree LCd) ks,.i .i64 c,.i .i64 i],[none,some (.row false none NCd o),some (.row _ none PCd fs)])=>.need (decide (m=o.length/\w=fs.length/\c=ks.length/\0<=i/\i.toNat<=ks.length/\ks.length<=1000000/\w<=40/\0<=up/\mxD (fs.map (·.1))<=400/\(fs.all fun x=>AJ x.1)=true/\Ak ks<=n/\A8 5 ks=true/\o.length+Ak (ks.drop i.toNat)*(mxD (fs.map (·.1))+1)<=1000000)) (.br (Bg (ks.drop i.toNat) (fs.map (·.1))).isSome (.leaf (.exit 1,([.ref 1 0 (o++AB ((Bg (ks.drop i.toNat) (fs.map (·.1))).getD []) up.toNat o.length).length],[none,some (.row false none NCd (o++AB ((Bg (ks.drop i.toNat) (fs.map (·.1))).getD []) up.toNat o.length))]))) (.leaf (.ret,([.ref 1 0 0,.b false],[none,some (.row false none NCd [])]))))
 | _=>.no⟩
def I5 (n:Nat):LoopEnt:=⟨129,[1,12,14,68,69,70],[1],[10,11],fun
 | ([.ref 0 0 m,.ref 1 0 w,.i .i64 up,.sl (.tree LCd) ks,.i .i64 c,.i .i64 i],[some (.row false none NCd o),some (.row _ none PCd fs)])=>.need (decide (m=o.length/\w=fs.length/\c=ks.length/\0<=i/\i.toNat<=ks.length/\ks.length<=1000000/\w<=40/\0<=up/\mxD (fs.map (·.1))<=400/\(fs.all fun x=>AJ x.1)=true/\Ak ks<=n/\A8 5 ks=true/\o.length+Ak (ks.drop i.toNat)*(mxD (fs.map (·.1))+1)<=1000000)) (.br (Bg (ks.drop i.toNat) (fs.map (·.1))).isSome (.leaf (.exit 1,([.ref 0 0 (o++AB ((Bg (ks.drop i.toNat) (fs.map (·.1))).getD []) up.toNat o.length).length],[some (.row false none NCd (o++AB ((Bg (ks.drop i.toNat) (fs.map (·.1))).getD []) up.toNat o.length))]))) (.leaf (.ret,([.ref 0 0 0,.b false],[some (.row false none NCd [])]))))
 | _=>.no⟩
def Wb:Gm
 | [.tp LCd z 0,.nl,.s s,.i .i64 no,.i .i64 up],[]=>.need (decide (z.lab.1=5/\s.length<=400/\Aj z=true/\Ao z*(s.length+1)<=1000000)) (.leaf (.tup [.ref 0 0 (Bv z s no up []).length,.b (AO z s no).isSome],[some (.row false none NCd (Bv z s no up []))]))
 | _,_=>.no
abbrev QZ (n:Nat):FuncId->Option Ent:=Ab [(82,.rd1 Q6),(173,.rd1 PT),(174,.rd1 Ly),(145,.own M5),(175,.rd1 tbG),(100,.own (LC n))]
theorem KW (n m:Nat) (s:List UInt8) (up:Int) (z:Rose Lab) (a:Int) (o:List Nd):A0 prog (QZ n) (Ab [(3,dlE n)]) 1 (body f142 0) (dlE n) ([.ref 1 0 m,.s s,.j up,.tp LCd z 0,.j a],[none,some (.row false none NCd o)]) =
 ((ifB (decide (a<(↑s.length:Int))) (ifB ((if fkB z=true then (0:Int) else (2:Int))==(0:Int)) (ifT (decide ((0:Int)<=a/\s.length<=4000000000/\a<=
 (4000000000:Int))) (ifT (decide ((0:Int)<=A9 (Ah s a.toNat)/\A9 (Ah s a.toNat)<=(1000000000000:Int))) (ifT (decide (m=o.length/\o.length<=(2000000 :
 Nat))) (ifB (A6 z (unf (A9 (Ah s a.toNat))) (0:Int)).isSome (ifB (!BK (Ah s a.toNat)) (some (Ex.ret,[V.ref 1 0 0,V.b false],[none,some (Blk.row false
 none NCd (Ag NCd.den))])) (some (Ex.normal,[V.ref 1 0 (o.length+1),V.s s,V.j up,V.tp LCd z 0,V.j (Az a.toNat (Ah s a.toNat))],
 [none,some (Blk.row false none NCd (o++(unf (A9 (Ah s a.toNat)),Ag UInt8,(0:Int),up,false,())::Ag (Int×List UInt8×Int×Int×Bool×Unit)))])))
 (some (Ex.ret,[V.ref 1 0 0,V.b false],[none,some (Blk.row false none NCd (Ag NCd.den))])))))) (ifT (decide ((0:Int)<=a/\s.length<=4000000000/\a<=
 (4000000000:Int))) (ifB (!(AZ s a.toNat).snd.snd) (some (Ex.ret,[V.ref 1 0 0,V.b false],[none,some (Blk.row false none NCd (Ag NCd.den))])) (ifT (decide (m =
 o.length/\(AZ s a.toNat).fst.length<=400/\Aj z=true/\Ao z<=n/\o.length+Ao z*((AZ s a.toNat).fst.length+1)<=1000000))
 (ifB (!(AO z (AZ s a.toNat).fst (0:Int)).isSome) (some (Ex.ret,[V.ref 1 0 0,V.b false],[none,some (Blk.row false none NCd (Ag NCd.den))])) (some (Ex.normal,
 [V.ref 1 0 (Bv z (AZ s a.toNat).fst (0:Int) up o).length,V.s s,V.j up,V.tp LCd z 0,V.j (AZ s a.toNat).snd.fst],[none,some (Blk.row false
 none NCd (Bv z (AZ s a.toNat).fst (0:Int) up o))]))))))) (some (Ex.exit 0,[V.ref 1 0 m],[none,some (Blk.row false none NCd o)]))):_):=by kernel_rfl
theorem XM (n:Nat) (z:Rose Lab) (m:Nat) (s:List UInt8) (up:Int) (nl:Option Bool) (o:List Nd):X2 prog (QZ n) (Ab [(3,dlE n)]) f142 [.tp LCd z 0,.ref 0 0 m,.s s,.j up] [.row false nl NCd o] =
 ((ifT (decide ((0:Int)<=(0:Int))&&decide ((0:Int)<(↑z.kids.length:Int))) (Ap z.kids[0]? fun z=>ifT (decide (m=o.length/\(0:Int)<=(0:Int)/\
 0<=s.length/\(0:Int)<=up/\s.length<=400/\Aj z=true/\Ao z<=n/\o.length+Ao z*(s.length-0)<=1000000)) (ifB (BE
 (fkB z) (fun n=>A6 z n (0:Int)) (fun d=>AO z d (0:Int)) s (s.length-0) 0).isSome (some (V.tup [V.ref 1 0 (o++AB ((BE (fkB z) (fun n
 => A6 z n (0:Int)) (fun d=>AO z d (0:Int)) s (s.length-0) 0).getD (Ag (Rose An))) up.toNat o.length).length,V.b true],[none,some
 (Blk.row false none NCd (o++AB ((BE (fkB z) (fun n=>A6 z n (0:Int)) (fun d=>AO z d (0:Int)) s (s.length-0) 0).getD (Ag (Rose
 An))) up.toNat o.length))])) (some (V.tup [V.ref 1 0 0,V.b false],[none,some (Blk.row false none NCd (Ag NCd.den))]))))):_):=by kernel_rfl
abbrev Jm (k n:Nat):FuncId->Option Ent:=Ab [(142,.own (dlN n)),(59,.rd1 Ux),(143,.mix Tt),(82,.rd1 Q6),(145,.own M5),(100,.own (LC k))]
theorem Px (n k m w:Nat) (ro:Bool) (up:Int) (ks:List (Rose Lab)) (c i:Int) (o:List Nd) (fs:List Pl):A0 prog (Jm k n) (Ab [(12,dmE k)]) 1 (body f100 0) (dmE k) ([.ref 1 0 m,.ref 2 0 w,.j up,.sl (.tree LCd) ks,.j c,.j i],[none,some (.row false none NCd o),some (.row ro none PCd fs)]) =
 ((ifB (decide (i<c)) (ifT (decide ((0:Int)<=i)&&decide (i<(↑ks.length:Int))) (Ap ks[i.toNat]? fun z=>ifB (decide (AA (fun z_1=>z_1.fst.fst==
 (Rose.lab z).snd.snd.fst) 0 (take w (drop 0 fs))<(0:Int))) (ifB (Rose.lab z).snd.snd.snd.fst (some (Ex.ret,[V.ref 1 0 0,V.b false],[none,
 some (Blk.row false none NCd (Ag NCd.den))])) (some (Ex.normal,[V.ref 1 0 m,V.ref 2 0 w,V.j up,V.sl LCd.tree ks,V.j c,V.j (i64.wrap (i+(1
 : Int)))],[none,some (Blk.row false none NCd o),some (Blk.row true none PCd fs)]))) (ifT (decide ((0:Int)<=AA (fun z_1=>z_1.fst.fst==(Rose.lab
 z).snd.snd.fst) 0 (take w (drop 0 fs)))&&decide (AA (fun z_1=>z_1.fst.fst==(Rose.lab z).snd.snd.fst) 0 (take w (drop
 0 fs))<(↑w:Int))) (Ap fs[0+(AA (fun z_1=>z_1.fst.fst==(Rose.lab z).snd.snd.fst) 0 (take w (drop 0
 fs))).toNat]? fun z_1=>ifB (z_1.fst.snd.fst != if fkB z=true then (0:Int) else (2:Int)) (some (Ex.ret,[V.ref 1 0 0,V.b false],[none,some (Blk.row false none
 NCd (Ag NCd.den))])) (ifB (z_1.fst.snd.fst==(0:Int)) (ifT (decide (m=o.length/\o.length<=2000000)) (ifB (!(A6 z z_1.fst.snd.snd.fst (Rose.lab
 z).snd.snd.fst).isSome) (some (Ex.ret,[V.ref 1 0 0,V.b false],[none,some (Blk.row false none NCd (Ag NCd.den))])) (some (Ex.normal,[V.ref 1 0 (o.length+(1 :
 Nat)),V.ref 2 0 w,V.j up,V.sl LCd.tree ks,V.j c,V.j (i64.wrap (i+(1:Int)))],[none,some (Blk.row false none NCd (o++
 (z_1.fst.snd.snd.fst,Ag UInt8,(Rose.lab z).snd.snd.fst,up,false,())::Ag (Int×List UInt8×Int×Int×Bool×Unit))),some (Blk.row true none PCd fs)]))))
 (ifT (decide (m=o.length/\List.length z_1.fst.snd.snd.snd.fst<=400/\Aj z=true/\Ao z<=k/\o.length+Ao z*(List.length z_1.fst.snd.snd.snd.fst +
 1)<=1000000)) (ifB (!(AO z z_1.fst.snd.snd.snd.fst (Rose.lab z).snd.snd.fst).isSome) (some (Ex.ret,[V.ref 1 0 0,V.b false],[none,some (Blk.row
 false none NCd (Ag NCd.den))])) (some (Ex.normal,[V.ref 1 0 (Bv z z_1.fst.snd.snd.snd.fst (Rose.lab z).snd.snd.fst up o).length,V.ref 2 0 w,V.j up,V.sl
 LCd.tree ks,V.j c,V.j (i64.wrap (i+(1:Int)))],[none,some (Blk.row false none NCd (Bv z z_1.fst.snd.snd.snd.fst (Rose.lab z).snd.snd.fst up
 o)),some (Blk.row true none PCd fs)]))))))))) (some (Ex.exit 1,[V.ref 1 0 m],[none,some (Blk.row false none NCd o)]))):_):=by kernel_rfl
theorem XK (n k:Nat) (z:Rose Lab) (m:Nat) (s:List UInt8) (no up:Int) (nl:Option Bool) (o:List Nd):Bt prog (Jm k n) (Ab [(12,dmE k)]) f100 [.tp LCd z 0,.ref 0 0 m,.s s,.j no,.j up] [.row false nl NCd o] =
 ((ifB (z.lab.fst==(2:Int)) (ifT (decide ((m+1)*48<=140737488355328)&&decide (m+1<=maxI)) (some (V.tup [V.ref 1 0 (m+(1 :
 Nat)),V.b (decide ((↑s.length:Int)<=(30:Int)))],[none,some (Blk.row false none NCd (take m (drop 0 o)++((0:Int),s,no,up,false,())::
 Ag NCd.den))]))) (ifB (z.lab.fst==(4:Int)) (ifT (decide ((m+1)*48<=140737488355328)&&decide (m+1<=maxI)) (ifT (decide (m +
 1=(take m (drop 0 o)++((0:Int),Ag UInt8,no,up,true,())::Ag NCd.den).length/\(0:Int)<=(↑m:Int)/\s.length<=400/\
 z.kids.length=1/\z.kids.all Aj=true/\Ao z<=n/\(take m (drop 0 o)++((0:Int),Ag UInt8,no,up,true,())::Ag
 NCd.den).length+Ak z.kids*s.length<=1000000)) (some (V.tup [V.ref 1 0 (G8 z s (↑m:Int) (take m (drop 0 o)++((0:Int),Ag UInt8,
 no,up,true,())::Ag NCd.den)).length,V.b (Em z.kids s).isSome],[none,some (Blk.row false none NCd (G8 z s (↑m:Int) (take m (drop 0 o)++
 ((0:Int),Ag UInt8,no,up,true,())::Ag NCd.den)))])))) (ifT (decide (s.length<=4000000000)) (ifB (!(CM s).isSome) (some (V.tup [V.ref 1 0 0,V.b
 false],[none,some (Blk.row false none NCd (Ag NCd.den))])) (ifT (decide ((m+1)*48<=140737488355328)&&decide (m+1<=maxI))
 (ifT (decide (m+1=(take m (drop 0 o)++((0:Int),Ag UInt8,no,up,true,())::Ag NCd.den).length/\((CM s).getD (Ag Pl)).length
 = ((CM s).getD (Ag Pl)).length/\(↑z.kids.length:Int)=(↑z.kids.length:Int)/\(0:Int)<=(0:Int)/\0<=z.kids.length/\z.kids.length<=1000000
 /\ ((CM s).getD (Ag Pl)).length<=40/\(0:Int)<=(↑m:Int)/\mxD (List.map (fun x=>x.fst) ((CM s).getD (Ag Pl)))<=400/\(((CM s).getD (Ag
 Pl)).all fun x=>AJ x.fst)=true/\Ak z.kids<=k/\A8 (5:Int) z.kids=true/\(take m (drop 0 o)++((0:Int),Ag UInt8,no,up,true,
 ())::Ag NCd.den).length+Ak (drop 0 z.kids)*(mxD (List.map (fun x=>x.fst) ((CM s).getD (Ag Pl)))+1)<=1000000)) (ifB (Bg
 (drop 0 z.kids) (List.map (fun x=>x.fst) ((CM s).getD (Ag Pl)))).isSome (some (V.tup [V.ref 1 0 (take m (drop 0 o)++((0:Int),
 Ag UInt8,no,up,true,())::Ag NCd.den++AB ((Bg (drop 0 z.kids) (List.map (fun x=>x.fst) ((CM s).getD (Ag Pl)))).getD (Ag (Rose An)))
 (↑m:Int).toNat (take m (drop 0 o)++((0:Int),Ag UInt8,no,up,true,())::Ag NCd.den).length).length,V.b true],[none,some (Blk.row false
 none NCd (take m (drop 0 o)++((0:Int),Ag UInt8,no,up,true,())::Ag NCd.den++AB ((Bg (drop 0 z.kids) (List.map (fun x
 => x.fst) ((CM s).getD (Ag Pl)))).getD (Ag (Rose An))) (↑m:Int).toNat (take m (drop 0 o)++((0:Int),Ag UInt8,no,up,true,())::Ag
 NCd.den).length))])) (some (V.tup [V.ref 1 0 0,V.b false],[none,some (Blk.row false none NCd (Ag NCd.den))]))))))))):_):=by kernel_rfl
theorem IA (num:Bool) (N:Int->Option (Rose An)) (D:List UInt8->Option (Rose An)) (s:List UInt8) (a:Nat):BE num N D s 0 a=if a<s.length then none else some []:=rfl
theorem E7 (num:Bool) (N:Int->Option (Rose An)) (D:List UInt8->Option (Rose An)) (s:List UInt8) (f a:Nat):BE num N D s (f+1) a=if a<s.length then (match num with
  | true=>(match N (unf (A9 (Ah s a))) with
   | some v=>if BK (Ah s a)=true then (BE num N D s f (Az a (Ah s a)).toNat).map (v::·) else none
   | none=>none)
  | false=>(match (AZ s a).2.2 with
   | true=>(match D (AZ s a).1 with
    | some v=>(BE num N D s f (AZ s a).2.1.toNat).map (v::·)
    | none=>none)
   | false=>none)) else some []:=rfl
theorem JM {s:List UInt8} {a:Nat} (h:(AZ s a).2.2=true):(a:Int)+1+((AZ s a).1.length:Int)<=(AZ s a).2.1/\(AZ s a).2.1<=s.length:=by
 have ⟨⟨u1,u2⟩,u3,u4⟩:=Ey s a
 unfold AZ at h ⊢
 dsimp only at h ⊢
 split at h
 ·rename_i q
  have e:=EN q.1
  rw [if_pos q]
  simp only [List.length_take,length_drop]
  omega
 ·cases h
theorem Uc (s:List UInt8) (a:Nat):(AZ s a).1.length<=s.length:=by
 unfold AZ
 dsimp only
 split
 ·simp only [List.length_take,length_drop]; omega
 ·simp
theorem Gs {num:Bool} {N:Int->Option (Rose An)} {D:List UInt8->Option (Rose An)} {s:List UInt8} : ∀ (f f' a:Nat),s.length-a<=f->s.length-a<=f'->BE num N D s f a=BE num N D s f' a
 | 0,0,a,_,_=>rfl
 | 0,f'+1,a,h,_=>by rw [IA,E7,if_neg (by omega),if_neg (by omega)]
 | f+1,0,a,_,h=>by rw [E7,IA,if_neg (by omega),if_neg (by omega)]
 | f+1,f'+1,a,h,h'=>by
  rw [E7,E7]
  by_cases ha:a<s.length
  ·rw [if_pos ha,if_pos ha]
   cases num with
   | true=>
    dsimp only
    cases N (unf (A9 (Ah s a))) with
    | none=>rfl
    | some v=>
     dsimp only
     by_cases h3:BK (Ah s a)=true
     ·have:=EN h3
      rw [if_pos h3,if_pos h3,Gs f f' _ (by omega) (by omega)]
     ·rw [if_neg h3,if_neg h3]
   | false=>
    dsimp only
    cases h3:(AZ s a).2.2 with
    | false=>rfl
    | true=>
     have:=JM h3
     dsimp only
     cases D (AZ s a).1 with
     | none=>rfl
     | some v=>dsimp only; rw [Gs f f' _ (by omega) (by omega)]
  ·rw [if_neg ha,if_neg ha]
theorem FV {num:Bool} {N:Int->Option (Rose An)} {D:List UInt8->Option (Rose An)} {s:List UInt8} {f a:Nat} (h:s.length<=a):BE num N D s f a=some []:=by
 cases f with
 | zero=>rw [IA,if_neg (by omega)]
 | succ f=>rw [E7,if_neg (by omega)]
theorem IB {num:Bool} {N:Int->Option (Rose An)} {D:List UInt8->Option (Rose An)} {s:List UInt8} {a:Nat} (h:a<s.length):BE num N D s (s.length-a) a=(match num with
  | true=>(match N (unf (A9 (Ah s a))) with
   | some v=>if BK (Ah s a)=true then (BE num N D s (s.length-(Az a (Ah s a)).toNat) (Az a (Ah s a)).toNat).map (v::·) else none
   | none=>none)
  | false=>(match (AZ s a).2.2 with
   | true=>(match D (AZ s a).1 with
    | some v=>(BE num N D s (s.length-(AZ s a).2.1.toNat) (AZ s a).2.1.toNat).map (v::·)
    | none=>none)
   | false=>none)):=by
 rw [show s.length-a=(s.length-a-1)+1 by omega,E7,if_pos h]
 cases num with
 | true=>
  dsimp only
  cases N (unf (A9 (Ah s a))) with
  | none=>rfl
  | some v=>
   dsimp only
   by_cases h3:BK (Ah s a)=true
   ·have:=EN h3
    rw [if_pos h3,if_pos h3,Gs (s.length-a-1) (s.length-(Az a (Ah s a)).toNat) _ (by omega) (by omega)]
   ·rw [if_neg h3,if_neg h3]
 | false=>
  dsimp only
  cases h3:(AZ s a).2.2 with
  | false=>rfl
  | true=>
   have:=JM h3
   dsimp only
   cases D (AZ s a).1 with
   | none=>rfl
   | some v=>dsimp only; rw [Gs (s.length-a-1) (s.length-(AZ s a).2.1.toNat) _ (by omega) (by omega)]
theorem IC {num:Bool} {N:Int->Option (Rose An)} {D:List UInt8->Option (Rose An)} {s:List UInt8} (c:Nat) (h1:1<=c) (hN : ∀ n v,N n=some v->vcR v<=c) (hD : ∀ d v,D d=some v->vcR v<=c*(d.length+1)) : ∀ (j a:Nat) (vs:List (Rose An)),s.length-a<=j->BE num N D s (s.length-a) a=some vs->vcL vs<=c*(s.length-a)
 | j,a,vs,hj,h=>by
  by_cases ha:a<s.length
  ·rw [IB ha] at h
   have mul : ∀ b:Nat,a<b->b<=s.length->c*(b-a)+c*(s.length-b)=c*(s.length-a):=fun b k1 k2=>by rw [<-mul_add]; congr 1; omega
   obtain ⟨j,rfl⟩ : ∃ i,j=i+1:=⟨j-1,by omega⟩
   cases num with
   | true=>
    dsimp only at h
    cases hn:N (unf (A9 (Ah s a))) with
    | none=>rw [hn] at h; cases h
    | some v=>
     rw [hn] at h
     dsimp only at h
     by_cases h3:BK (Ah s a)=true
     ·have e:=EN h3
      rw [if_pos h3] at h
      obtain ⟨us,h4,rfl⟩:=map_eq_some_iff.1 h
      have ih:=IC c h1 hN hD j _ us (by omega) h4
      have k1:=hN _ _ hn
      have k2:=mul (Az a (Ah s a)).toNat (by omega) (by omega)
      have k3:c<=c*((Az a (Ah s a)).toNat-a):=Nat.le_mul_of_pos_right c (by omega)
      rw [vcL]; omega
     ·rw [if_neg h3] at h; cases h
   | false=>
    dsimp only at h
    cases h3:(AZ s a).2.2 with
    | false=>rw [h3] at h; cases h
    | true=>
     have e:=JM h3
     rw [h3] at h
     dsimp only at h
     cases hn:D (AZ s a).1 with
     | none=>rw [hn] at h; cases h
     | some v=>
      rw [hn] at h
      obtain ⟨us,h4,rfl⟩:=map_eq_some_iff.1 h
      have ih:=IC c h1 hN hD j _ us (by omega) h4
      have k1:=hD _ _ hn
      have k2:=mul (AZ s a).2.1.toNat (by omega) (by omega)
      have k3:c*((AZ s a).1.length+1)<=c*((AZ s a).2.1.toNat-a):=mul_le_mul_left c (by omega)
      rw [vcL]; omega
  ·rw [FV (by omega)] at h; cases h; rw [vcL]; omega
termination_by j=>j
theorem Km {f:WFd} : ∀ {fs:List WFd},f∈fs->f.2.2.2.1.length<=mxD fs
 | g::fs,h=>by
  rw [mxD]
  rcases mem_cons.1 h with rfl | h
  ·omega
  ·have:=Km h; omega
theorem R3 {L:Nat} : ∀ {fs:List WFd},(∀ f∈fs,f.2.2.2.1.length<=L)->mxD fs<=L
 | [],_=>Nat.zero_le _
 | g::fs,h=>by
  rw [mxD]
  have h1:=h g (by simp)
  have h2:=R3 (fun f hf=>h f (mem_cons_of_mem _ hf))
  omega
theorem YM {s:List UInt8} {a:Nat}:(Ba s a).1.2.2.2.1.length<=s.length:=by
 unfold Ba
 dsimp only
 split
 ·simp
 ·split
  ·exact Uc s _
  ·simp
theorem MX (s:List UInt8) : ∀ (f a:Nat) (o l:List WFd),(∀ x∈o,AJ x=true/\x.2.2.2.1.length<=s.length)->rdF s f a o=some l->∀ x∈l,AJ x=true/\x.2.2.2.1.length<=s.length
 | 0,a,o,l,ho,h=>by
  rw [rdF] at h
  split at h
  ·cases h
  ·cases h; exact ho
 | f+1,a,o,l,ho,h=>by
  rw [rdF] at h
  split at h
  ·split at h
   ·rename_i q
    refine MX s f _ _ l (fun x hx=>?_) h
    rcases List.mem_append.1 hx with hx | hx
    ·exact ho x hx
    ·obtain rfl:x=(Ba s a).1:=by simpa using hx
     exact ⟨(JL q.1).1,YM⟩
   ·cases h
  ·cases h; exact ho
theorem MS {s:List UInt8} {l:List WFd} (h:EA s=some l):(∀ x∈l,AJ x=true/\x.2.2.2.1.length<=s.length)/\L0 (DD l)=true/\s.length<=400:=by
 unfold EA Ii CO at h
 split at h
 ·rename_i l' hl
  split at h
  ·rename_i hr
   cases h
   split at hl
   ·rename_i h4
    exact ⟨MX s _ _ [] l (by simp) hl,hr,h4⟩
   ·cases hl
  ·cases h
 ·cases h
mutual
theorem DU : ∀ (z:Rose Lab) (s:List UInt8) (no:Int) (v:Rose An),AO z s no=some v->vcR v<=Ao z*(s.length+1)
 | .node x ks,s,no,v,h=>by
  rw [AO] at h
  rw [Ao]
  have hm:(Ak ks+1)*(s.length+1)=Ak ks*s.length+Ak ks+s.length+1:=by rw [add_mul,mul_add]; omega
  split at h
  ·split at h
   ·cases h; rw [vcR,vcL]; omega
   ·cases h
  ·split at h
   ·obtain ⟨vs,h1,rfl⟩:=map_eq_some_iff.1 h
    have:=Tx ks s vs h1
    rw [vcR]; omega
   ·split at h
    ·rename_i fs hf
     obtain ⟨vs,h1,rfl⟩:=map_eq_some_iff.1 h
     have h2:=I9 ks fs vs h1
     have h3:mxD fs<=s.length:=R3 fun f hf'=>((MS hf).1 f hf').2
     have h4:Ak ks*(mxD fs+1)<=Ak ks*(s.length+1):=mul_le_mul_left _ (by omega)
     have h5:Ak ks*(s.length+1)=Ak ks*s.length+Ak ks:=by rw [mul_add,mul_one]
     rw [vcR]; omega
    ·cases h
theorem Tx : ∀ (ks:List (Rose Lab)) (s:List UInt8) (vs:List (Rose An)),Em ks s=some vs->vcL vs<=Ak ks*s.length
 | [],s,vs,h=>by rw [Em] at h; cases h
 | z::ks,s,vs,h=>by
  rw [Em] at h
  have hz:=BX z
  have:=IC (s:=s) (Ao z) hz (fun n v hv=>by
   unfold A6 at hv
   split at hv
   ·cases hv; rw [vcR,vcL]; omega
   ·cases hv) (fun d v hv=>DU z d 0 v hv) s.length 0 vs (by omega) h
  rw [sub_zero] at this
  rw [Ak,add_mul]; omega
theorem I9 : ∀ (ks:List (Rose Lab)) (fs:List WFd) (vs:List (Rose An)),Bg ks fs=some vs->vcL vs<=Ak ks*(mxD fs+1)
 | [],fs,vs,h=>by rw [Bg] at h; cases h; rw [vcL]; omega
 | p::ks,fs,vs,h=>by
  rw [Bg] at h
  rw [Ak,add_mul]
  split at h
  ·split at h
   ·cases h
   ·have:=I9 ks fs vs h; omega
  ·rename_i f hf
   have hmem:=List.mem_of_find?_eq_some hf
   have hmx:=Km hmem
   split at h
   ·split at h
    ·rename_i v hv
     obtain ⟨us,h1,rfl⟩:=map_eq_some_iff.1 h
     have ih:=I9 ks fs us h1
     have hp:=BX p
     have h2:vcR v<=Ao p*(mxD fs+1):=by
      split at hv
      ·unfold A6 at hv
       split at hv
       ·cases hv
        rw [vcR,vcL]
        exact mul_pos hp (by omega)
       ·cases hv
      ·have:=DU p _ _ v hv
       exact Nat.le_trans this (mul_le_mul_left _ (by omega))
     rw [vcL]; omega
    ·cases h
   ·cases h
end
theorem VP {z:Rose Lab} {s:List UInt8} {a b:Nat} {v:Rose An} {up:Nat} {o:List Nd} (h:(BE (fkB z) (fun n=>A6 z n 0) (fun d=>AO z d 0) s (s.length-a) a)=(BE (fkB z) (fun n=>A6 z n 0) (fun d=>AO z d 0) s (s.length-b) b).map (v::·)) {ex:Ex} {d:Dt} (hd:(Br.br (BE (fkB z) (fun n=>A6 z n 0) (fun d=>AO z d 0) s (s.length-a) a).isSome (.leaf (.exit 0,([.ref 1 0 (o++AB ((BE (fkB z) (fun n=>A6 z n 0) (fun d=>AO z d 0) s (s.length-a) a).getD []) up o.length).length],[none,some (.row false none NCd (o++AB ((BE (fkB z) (fun n=>A6 z n 0) (fun d=>AO z d 0) s (s.length-a) a).getD []) up o.length))]))) (.leaf (.ret,([.ref 1 0 0,.b false],[none,some (.row false none NCd [])]))):Br (Ex×Dt)).run=some (ex,d)):(Br.br (BE (fkB z) (fun n=>A6 z n 0) (fun d=>AO z d 0) s (s.length-b) b).isSome (.leaf (.exit 0,([.ref 1 0 ((o++Al v up o.length)++AB ((BE (fkB z) (fun n=>A6 z n 0) (fun d=>AO z d 0) s (s.length-b) b).getD []) up (o++Al v up o.length).length).length],[none,some (.row false none NCd ((o++Al v up o.length)++AB ((BE (fkB z) (fun n=>A6 z n 0) (fun d=>AO z d 0) s (s.length-b) b).getD []) up (o++Al v up o.length).length))]))) (.leaf (.ret,([.ref 1 0 0,.b false],[none,some (.row false none NCd [])]))):Br (Ex×Dt)).run=some (ex,d):=by
 rw [h] at hd
 cases e:(BE (fkB z) (fun n=>A6 z n 0) (fun d=>AO z d 0) s (s.length-b) b) with
 | none=>rw [e] at hd; exact hd
 | some vs=>
  rw [e] at hd
  refine Eq.trans ?_ hd
  show some _=some _
  rw [show ((Option.map (v::·) (some vs)).getD [])=v::vs from rfl,show ((some vs).getD [])=vs from rfl]
  simp only [AB,length_append,append_assoc]
theorem XN (n:Nat) (z:Rose Lab) (hz:Aj z=true) (hcn:Ao z<=n) (s:List UInt8) (hs:s.length<=400) (up:Nat) : ∀ (j a:Nat) (o:List Nd),s.length-a<=j->a<=s.length->o.length+Ao z*(s.length-a)<=1000000->∀ ex d,(Br.br (BE (fkB z) (fun n=>A6 z n 0) (fun d=>AO z d 0) s (s.length-a) a).isSome (.leaf (.exit 0,([.ref 1 0 (o++AB ((BE (fkB z) (fun n=>A6 z n 0) (fun d=>AO z d 0) s (s.length-a) a).getD []) up o.length).length],[none,some (.row false none NCd (o++AB ((BE (fkB z) (fun n=>A6 z n 0) (fun d=>AO z d 0) s (s.length-a) a).getD []) up o.length))]))) (.leaf (.ret,([.ref 1 0 0,.b false],[none,some (.row false none NCd [])]))):Br (Ex×Dt)).run=some (ex,d)->Runs prog (QZ n) (Ab [(3,dlE n)]) 1 (body f142 0) (dlE n) ([.ref 1 0 o.length,.s s,.j (up:Int),.tp LCd z 0,.j (a:Int)],[none,some (.row false none NCd o)]) ex d:=by
 intro j
 induction j with
 | zero=>
  intro a o hj ha ho ex d h
  have hr:=KW n o.length s up z a o
  rw [Ac (dcF (by omega))] at hr
  rw [FV (by omega)] at h
  have h8:=Ar (show (Br.leaf (.exit 0,([.ref 1 0 (o++AB [] up o.length).length],[none,some (.row false none NCd (o++AB [] up o.length))])):Br (Ex×Dt)).run=some (ex,d) from h)
  obtain ⟨rfl,rfl⟩:=Prod.mk.inj h8
  rw [AB,append_nil]
  exact .stop _ _ _ hr (by simp)
 | succ j ih=>
  intro a o hj ha ho ex d h
  by_cases hlt:a<s.length
  ·have hr:=KW n o.length s up z a o
   have ⟨⟨u1,u2⟩,u3,u4⟩:=Ey s a
   have hst:=IB (num:=fkB z) (N:=fun n=>A6 z n 0) (D:=fun d=>AO z d 0) hlt
   have hcp:=BX z
   have mul : ∀ b:Nat,a<b->b<=s.length->Ao z*(b-a)+Ao z*(s.length-b)=Ao z*(s.length-a):=fun b k1 k2=>by rw [<-mul_add]; congr 1; omega
   have bad : ∀ {w},A0 prog (QZ n) (Ab [(3,dlE n)]) 1 (body f142 0) (dlE n) ([.ref 1 0 o.length,.s s,.j (up:Int),.tp LCd z 0,.j (a:Int)],[none,some (.row false none NCd o)])=w->w=some ((.ret:Ex),(([.ref 1 0 0,.b false]:List V),[none,some (.row false none NCd [])]))->(BE (fkB z) (fun n=>A6 z n 0) (fun d=>AO z d 0) s (s.length-a) a)=none->Runs prog (QZ n) (Ab [(3,dlE n)]) 1 (body f142 0) (dlE n) ([.ref 1 0 o.length,.s s,.j (up:Int),.tp LCd z 0,.j (a:Int)],[none,some (.row false none NCd o)]) ex d:=fun e1 e2 e3=>by
    rw [e3] at h
    have h8:=Ar (show (Br.leaf (.ret,([.ref 1 0 0,.b false],[none,some (.row false none NCd [])])):Br (Ex×Dt)).run=some (ex,d) from h)
    obtain ⟨rfl,rfl⟩:=Prod.mk.inj h8
    exact .stop _ _ _ (e1.trans e2) (by simp)
   rw [Af (dcT (by omega)),ntN] at hr
   cases hf:fkB z with
   | true=>
    rw [hf] at hr hst
    dsimp only at hst
    rw [if_pos rfl,Af (show ((0:Int)==0)=true from rfl),Aa (dcT (by omega)),Aa (dcT (by omega)),Aa (dcT ⟨rfl,by omega⟩)] at hr
    cases hn:A6 z (unf (A9 (Ah s a))) 0 with
    | none=>
     rw [hn] at hr hst
     refine bad hr rfl (by rw [hf]; exact hst)
    | some v=>
     rw [hn] at hr hst
     dsimp only at hst
     rw [show (some v).isSome=true from rfl,Bq] at hr
     cases h3:BK (Ah s a) with
     | false=>
      rw [h3] at hr hst
      exact bad hr rfl (by rw [hf]; exact hst)
     | true=>
      rw [h3] at hr hst
      have e:=EN h3
      rw [if_pos rfl] at hst
      have k2:=mul (Az a (Ah s a)).toNat (by omega) (by omega)
      have k3:Ao z<=Ao z*((Az a (Ah s a)).toNat-a):=Nat.le_mul_of_pos_right _ (by omega)
      have hv:Al v up o.length=[(unf (A9 (Ah s a)),[],0,(up:Int),false,())]:=by
       unfold A6 at hn
       split at hn
       ·cases hn; rw [Al,AB]
       ·cases hn
      have h':=VP (up:=up) (o:=o) (by rw [hf]; exact hst) h
      have ih':=ih (Az a (Ah s a)).toNat (o++Al v up o.length) (by omega) (by omega) (by rw [hv,length_append,length_singleton]; omega) ex d h'
      rw [hv,length_append,length_singleton,show (((Az a (Ah s a)).toNat:Nat):Int)=Az a (Ah s a) by omega] at ih'
      exact .step _ _ _ _ hr ih'
   | false=>
    rw [hf] at hr hst
    dsimp only at hst
    rw [if_neg (by simp),Ac (show ((2:Int)==0)=false from rfl),Aa (dcT (by omega))] at hr
    cases h3:(AZ s a).2.2 with
    | false=>
     rw [h3] at hr hst
     exact bad hr rfl (by rw [hf]; exact hst)
    | true=>
     rw [h3] at hr hst
     dsimp only at hst
     have e:=JM h3
     have k2:=mul (AZ s a).2.1.toNat (by omega) (by omega)
     have k3:Ao z*((AZ s a).1.length+1)<=Ao z*((AZ s a).2.1.toNat-a):=mul_le_mul_left _ (by omega)
     rw [Bool.not_true,Bd,Aa (dcT ⟨rfl,by omega,hz,hcn,by omega⟩)] at hr
     cases hn:AO z (AZ s a).1 0 with
     | none=>
      rw [hn] at hr hst
      exact bad hr rfl (by rw [hf]; exact hst)
     | some v=>
      have hsz:=DU z _ _ v hn
      have hdo:Bv z (AZ s a).1 0 up o=o++Al v up o.length:=by unfold Bv; rw [hn]
      rw [hn,hdo] at hr
      rw [hn] at hst
      dsimp only at hst
      have hl:=Ch v up o.length
      have h':=VP (up:=up) (o:=o) (by rw [hf]; exact hst) h
      have ih':=ih (AZ s a).2.1.toNat (o++Al v up o.length) (by omega) (by omega) (by rw [length_append,hl]; omega) ex d h'
      rw [show (((AZ s a).2.1.toNat:Nat):Int)=(AZ s a).2.1 by omega] at ih'
      exact .step _ _ _ _ hr ih'
  ·have hr:=KW n o.length s up z a o
   rw [Ac (dcF (by omega))] at hr
   rw [FV (by omega)] at h
   have h8:=Ar (show (Br.leaf (.exit 0,([.ref 1 0 (o++AB [] up o.length).length],[none,some (.row false none NCd (o++AB [] up o.length))])):Br (Ex×Dt)).run=some (ex,d) from h)
   obtain ⟨rfl,rfl⟩:=Prod.mk.inj h8
   rw [AB,append_nil]
   exact .stop _ _ _ hr (by simp)
theorem Ab2 (n:Nat):A4 prog (QZ n) (Ab [(3,dlE n)]) 1 (f142.body.getD .skip):=by
 refine Ax (a:=body f142 0) (by kernel_rfl) fun d ex d' h=>?_
 unfold dlE at h
 dsimp only at h
 split at h
 ·rename_i m s up z a o
  obtain ⟨hc,hx⟩:=Ae h
  obtain ⟨rfl,h0,h1,h2,h3,h4,h5,h6⟩:=of_decide_eq_true hc
  obtain ⟨a,rfl⟩:=eq_ofNat_of_zero_le h0
  obtain ⟨up,rfl⟩:=eq_ofNat_of_zero_le h2
  simp only [ntN] at h1 h6 hx
  exact XN n z h4 h5 s h3 up _ a o (Nat.le_refl _) h1 h6 ex d' hx
 ·cases h
theorem M6 (n k m w:Nat) (ro:Bool) (up:Int) (ks:List (Rose Lab)) (c i:Int) (o:List Nd) (fs:List Pl):A0 prog (Jm k n) (Ab [(12,I5 k)]) 0 (body f100 0) (I5 k) ([.ref 0 0 m,.ref 1 0 w,.j up,.sl (.tree LCd) ks,.j c,.j i],[some (.row false none NCd o),some (.row ro none PCd fs)]) =
 ((ifB (decide (i<c)) (ifT (decide ((0:Int)<=i)&&decide (i<(↑ks.length:Int))) (Ap ks[i.toNat]? fun z=>ifB (decide (AA (fun z_1=>z_1.fst.fst==
 (Rose.lab z).snd.snd.fst) 0 (take w (drop 0 fs))<(0:Int))) (ifB (Rose.lab z).snd.snd.snd.fst (some (Ex.ret,[V.ref 0 0 0,V.b false],[some
 (Blk.row false none NCd (Ag NCd.den))])) (some (Ex.normal,[V.ref 0 0 m,V.ref 1 0 w,V.j up,V.sl LCd.tree ks,V.j c,V.j (i64.wrap (i+(1 :
 Int)))],[some (Blk.row false none NCd o),some (Blk.row true none PCd fs)]))) (ifT (decide ((0:Int)<=AA (fun z_1=>z_1.fst.fst==(Rose.lab z).snd.snd.fst) (0 :
 Nat) (take w (drop 0 fs)))&&decide (AA (fun z_1=>z_1.fst.fst==(Rose.lab z).snd.snd.fst) 0 (take w (drop 0 fs))<(↑w
 : Int))) (Ap fs[0+(AA (fun z_1=>z_1.fst.fst==(Rose.lab z).snd.snd.fst) 0 (take w (drop 0 fs))).toNat]? fun z_1=>ifB
 (z_1.fst.snd.fst != if fkB z=true then (0:Int) else (2:Int)) (some (Ex.ret,[V.ref 0 0 0,V.b false],[some (Blk.row false none NCd (Ag NCd.den))])) (ifB
 (z_1.fst.snd.fst==(0:Int)) (ifT (decide (m=o.length/\o.length<=2000000)) (ifB (!(A6 z z_1.fst.snd.snd.fst (Rose.lab z).snd.snd.fst).isSome) (some
 (Ex.ret,[V.ref 0 0 0,V.b false],[some (Blk.row false none NCd (Ag NCd.den))])) (some (Ex.normal,[V.ref 0 0 (o.length+1),V.ref 1 0 w,V.j up,V.sl
 LCd.tree ks,V.j c,V.j (i64.wrap (i+(1:Int)))],[some (Blk.row false none NCd (o++(z_1.fst.snd.snd.fst,Ag UInt8,(Rose.lab z).snd.snd.fst,up,
 false,())::Ag (Int×List UInt8×Int×Int×Bool×Unit))),some (Blk.row true none PCd fs)])))) (ifT (decide (m=o.length/\List.length z_1.fst.snd.snd.snd.fst<=
 400/\Aj z=true/\Ao z<=k/\o.length+Ao z*(List.length z_1.fst.snd.snd.snd.fst+1)<=1000000)) (ifB (!(AO z
 z_1.fst.snd.snd.snd.fst (Rose.lab z).snd.snd.fst).isSome) (some (Ex.ret,[V.ref 0 0 0,V.b false],[some (Blk.row false none NCd (Ag NCd.den))])) (some (Ex.normal,
 [V.ref 0 0 (Bv z z_1.fst.snd.snd.snd.fst (Rose.lab z).snd.snd.fst up o).length,V.ref 1 0 w,V.j up,V.sl LCd.tree ks,V.j c,V.j (i64.wrap (i
 + (1:Int)))],[some (Blk.row false none NCd (Bv z z_1.fst.snd.snd.snd.fst (Rose.lab z).snd.snd.fst up o)),some (Blk.row true none PCd fs)]))))))))) (some (Ex.exit
 1,[V.ref 0 0 m],[some (Blk.row false none NCd o)]))):_):=by kernel_rfl
theorem VO (n k:Nat) (z:Rose Lab) (s:List UInt8) (no up:Int):Bt prog (Jm k n) (Ab [(12,I5 k)]) f100 [.tp LCd z 0,.nl,.s s,.j no,.j up] [] =
 ((ifB (z.lab.fst==(2:Int)) (some (V.tup [V.ref 0 0 1,V.b (decide ((↑s.length:Int)<=(30:Int)))],[some (Blk.row false none NCd (((0:Int),s,no,up,false,())::
 Ag NCd.den))])) (ifB (z.lab.fst==(4:Int)) (ifT (decide (1=1/\(0:Int)<=(0:Int)/\s.length<=400/\z.kids.length=1/\
 z.kids.all Aj=true/\Ao z<=n/\1+Ak z.kids*s.length<=1000000)) (some (V.tup [V.ref 0 0 (G8 z s (0:Int) (((0:Int),Ag UInt8,no,
 up,true,())::Ag NCd.den)).length,V.b (Em z.kids s).isSome],[some (Blk.row false none NCd (G8 z s (0:Int) (((0:Int),Ag UInt8,no,up,true,())::Ag
 NCd.den)))]))) (ifT (decide (s.length<=4000000000)) (ifB (!(CM s).isSome) (some (V.tup [V.ref 0 0 0,V.b false],[some (Blk.row false none NCd (Ag
 NCd.den))])) (ifT (decide (1=1/\((CM s).getD (Ag Pl)).length=((CM s).getD (Ag Pl)).length/\(↑z.kids.length:Int)=(↑z.kids.length:Int)/\
 (0:Int)<=(0:Int)/\0<=z.kids.length/\z.kids.length<=1000000/\((CM s).getD (Ag Pl)).length<=40/\(0:Int)<=(0:Int)/\mxD
 (List.map (fun x=>x.fst) ((CM s).getD (Ag Pl)))<=400/\(((CM s).getD (Ag Pl)).all fun x=>AJ x.fst)=true/\Ak z.kids<=k/\A8 (5:Int)
 z.kids=true/\1+Ak (drop 0 z.kids)*(mxD (List.map (fun x=>x.fst) ((CM s).getD (Ag Pl)))+1)<=1000000)) (ifB (Bg
 (drop 0 z.kids) (List.map (fun x=>x.fst) ((CM s).getD (Ag Pl)))).isSome (some (V.tup [V.ref 0 0 (((0:Int),Ag UInt8,no,up,true,())::Ag
 NCd.den++AB ((Bg (drop 0 z.kids) (List.map (fun x=>x.fst) ((CM s).getD (Ag Pl)))).getD (Ag (Rose An))) 0 1).length,V.b
 true],[some (Blk.row false none NCd (((0:Int),Ag UInt8,no,up,true,())::Ag NCd.den++AB ((Bg (drop 0 z.kids) (List.map (fun x=>x.fst)
 ((CM s).getD (Ag Pl)))).getD (Ag (Rose An))) 0 1))])) (some (V.tup [V.ref 0 0 0,V.b false],[some (Blk.row false none NCd (Ag NCd.den))])))))))):_):=by kernel_rfl

theorem ZW (n:Nat) (z:Rose Lab) (m:Nat) (s:List UInt8) (up:Int) (nl:Option Bool) (o:List Nd) (hc:m=o.length/\0<=up/\s.length<=400/\z.kids.length=1/\z.kids.all Aj=true/\Ao z<=(n+1)/\o.length+Ak z.kids*s.length<=1000000):X2 prog (QZ n) (Ab [(3,dlE n)]) f142 [.tp LCd z 0,.ref 0 0 m,.s s,.j up] [.row false nl NCd o]=some (.tup [.ref 1 0 (G8 z s up o).length,.b (Em z.kids s).isSome],[none,some (.row false none NCd (G8 z s up o))]):=by
 obtain ⟨rfl,h1,h2,h3,h4,h5,h6⟩:=hc
 obtain ⟨up,rfl⟩:=eq_ofNat_of_zero_le h1
 rw [XM]
 obtain ⟨x,ks⟩:=z
 have h3:ks.length=1:=h3
 match ks,h3 with
 | [y],_=>
  have h4:[y].all Aj=true:=h4
  have h6:o.length+Ak [y]*s.length<=1000000:=h6
  have h5:Ao (.node x [y])<=n+1:=h5
  have hy:Aj y=true:=by simpa using h4
  have e:Ak [y]=Ao y:=by rw [Ak,Ak]; rfl
  have e2:Ao (.node x [y])=Ao y+1:=by rw [Ao,e]
  rw [e] at h6
  rw [Aa (by rfl)]
  show Ap (some y) _=_
  rw [As,sub_zero,Aa (dcT ⟨rfl,by omega,by omega,h1,h2,hy,by omega,h6⟩)]
  unfold G8
  dsimp only [Rose.kids]
  rw [Em]
  cases BE (fkB y) (fun n=>A6 y n 0) (fun d=>AO y d 0) s s.length 0 with
  | none=>rfl
  | some vs=>rfl
theorem VQ (n:Nat) (ih:Ad prog 100 (Ent.own (LC n)).F):Ad prog 142 (Ent.own (dlN (n+1))).F:=by
 refine L6 (kc func82 kfk (kc func173 tvi (kc func174 Abo (kc func145 ZT (kc func175 itb (kc func100 (ih) KnowsL.nil)))))).knows (Λ:=(Ab [(3,dlE n)])) func142 (c:=f142.body.getD .skip) (by kernel_rfl) fun vs bs r hq=>?_
 unfold Ent.F dlN at hq
 dsimp only at hq
 split at hq
 ·rename_i z m s up nl o
  obtain ⟨hc,hx⟩:=Ae hq
  exact ⟨Ab2 n,(ZW n z m s up nl o (of_decide_eq_true hc)).trans hx⟩
 ·cases hq
theorem Cj {k:Int} : ∀ {ks:List (Rose Lab)},A8 k ks=true->∀ z∈ks,D1 k z.lab=true/\Aj z=true
 | y::ks,h,z,hz=>by
  rw [A8,anE,anE] at h
  rcases mem_cons.1 hz with rfl | hz
  ·exact h.1
  ·exact Cj h.2 z hz
theorem Ep {f:WFd} (h:AJ f=true):f.2.1=0\/f.2.1=2:=by
 unfold AJ at h
 rw [anE] at h
 have h:=h.2
 split at h
 ·rename_i q; exact .inl q
 ·split at h
  ·rename_i q; exact .inr q
  ·cases h
theorem RK (fs:List Pl) (no:Int):(fs.map (·.1)).find? (fun f=>f.1==no)=(fs.find? fun z:Pl=>z.1.1==no).map (·.1):=by
 rw [List.find?_map]
 rfl
theorem VN {ks:List (Rose Lab)} {fs:List Pl} {i:Nat} {v:Rose An} {up:Nat} {o:List Nd} (h:(Bg (ks.drop i) (fs.map (·.1)))=(Bg (ks.drop (i+1)) (fs.map (·.1))).map (v::·)) {ex:Ex} {d:Dt} (hd:(Br.br (Bg (ks.drop i) (fs.map (·.1))).isSome (.leaf (.exit 1,([.ref 1 0 (o++AB ((Bg (ks.drop i) (fs.map (·.1))).getD []) up o.length).length],[none,some (.row false none NCd (o++AB ((Bg (ks.drop i) (fs.map (·.1))).getD []) up o.length))]))) (.leaf (.ret,([.ref 1 0 0,.b false],[none,some (.row false none NCd [])]))):Br (Ex×Dt)).run=some (ex,d)):(Br.br (Bg (ks.drop (i+1)) (fs.map (·.1))).isSome (.leaf (.exit 1,([.ref 1 0 ((o++Al v up o.length)++AB ((Bg (ks.drop (i+1)) (fs.map (·.1))).getD []) up (o++Al v up o.length).length).length],[none,some (.row false none NCd ((o++Al v up o.length)++AB ((Bg (ks.drop (i+1)) (fs.map (·.1))).getD []) up (o++Al v up o.length).length))]))) (.leaf (.ret,([.ref 1 0 0,.b false],[none,some (.row false none NCd [])]))):Br (Ex×Dt)).run=some (ex,d):=by
 rw [h] at hd
 cases e:(Bg (ks.drop (i+1)) (fs.map (·.1))) with
 | none=>rw [e] at hd; exact hd
 | some vs=>
  rw [e] at hd
  refine Eq.trans ?_ hd
  show some _=some _
  rw [show ((Option.map (v::·) (some vs)).getD [])=v::vs from rfl,show ((some vs).getD [])=vs from rfl]
  simp only [AB,length_append,append_assoc]
theorem JC (n k:Nat) (ks:List (Rose Lab)) (hks:A8 5 ks=true) (hcn:Ak ks<=k) (hlen:ks.length<=1000000) (fs:List Pl) (hfs:fs.length<=40) (hmx:mxD (fs.map (·.1))<=400) (hfb:(fs.all fun x=>AJ x.1)=true) (up:Nat) : ∀ (j i:Nat) (ro:Bool) (o:List Nd),i+j=ks.length->o.length+Ak (ks.drop i)*(mxD (fs.map (·.1))+1)<=1000000->∀ ex d,(Br.br (Bg (ks.drop i) (fs.map (·.1))).isSome (.leaf (.exit 1,([.ref 1 0 (o++AB ((Bg (ks.drop i) (fs.map (·.1))).getD []) up o.length).length],[none,some (.row false none NCd (o++AB ((Bg (ks.drop i) (fs.map (·.1))).getD []) up o.length))]))) (.leaf (.ret,([.ref 1 0 0,.b false],[none,some (.row false none NCd [])]))):Br (Ex×Dt)).run=some (ex,d)->Runs prog (Jm k n) (Ab [(12,dmE k)]) 1 (body f100 0) (dmE k) ([.ref 1 0 o.length,.ref 2 0 fs.length,.j (up:Int),.sl (.tree LCd) ks,.j (ks.length:Int),.j (i:Int)],[none,some (.row false none NCd o),some (.row ro none PCd fs)]) ex d
 | 0,i,ro,o,hi,ho,ex,d,h=>by
  have hr:=Px n k o.length fs.length ro up ks ks.length i o fs
  rw [Ac (dcF (by omega))] at hr
  rw [drop_eq_nil_of_le (by omega),Bg] at h
  have h8:=Ar (show (Br.leaf (.exit 1,([.ref 1 0 (o++AB [] up o.length).length],[none,some (.row false none NCd (o++AB [] up o.length))])):Br (Ex×Dt)).run=some (ex,d) from h)
  obtain ⟨rfl,rfl⟩:=Prod.mk.inj h8
  rw [AB,append_nil]
  exact .stop _ _ _ hr (by simp)
 | j+1,i,ro,o,hi,ho,ex,d,h=>by
  have hl:i<ks.length:=by omega
  have hr:=Px n k o.length fs.length ro up ks ks.length i o fs
  have W1:i64.wrap ((i:Int)+1)=((i+1:Nat):Int):=by rw [Ay (by omega) (by omega)]; omega
  have hd:=drop_eq_getElem_cons hl
  have hm:=getElem_mem hl
  obtain ⟨hp,hrz⟩:=Cj hks _ hm
  have hcz:=BB hm
  rw [Af (dcT (by omega)),Aa (by simp only [anE,dcE]; omega),ntN,gtE hl,As,W1,drop_zero,take_length] at hr
  have hst:=BI ks[i] (ks.drop (i+1)) (fs.map (·.1))
  rw [<-hd,RK] at hst
  rw [hd,Ak,add_mul] at ho
  have hpos:=BX ks[i]
  generalize ks[i]=p at hr hst ho hp hrz hcz hpos
  have bad : ∀ {w},A0 prog (Jm k n) (Ab [(12,dmE k)]) 1 (body f100 0) (dmE k) ([.ref 1 0 o.length,.ref 2 0 fs.length,.j (up:Int),.sl (.tree LCd) ks,.j (ks.length:Int),.j (i:Int)],[none,some (.row false none NCd o),some (.row ro none PCd fs)])=w->w=some ((.ret:Ex),(([.ref 1 0 0,.b false]:List V),[none,some (.row false none NCd [])]))->(Bg (ks.drop i) (fs.map (·.1)))=none->Runs prog (Jm k n) (Ab [(12,dmE k)]) 1 (body f100 0) (dmE k) ([.ref 1 0 o.length,.ref 2 0 fs.length,.j (up:Int),.sl (.tree LCd) ks,.j (ks.length:Int),.j (i:Int)],[none,some (.row false none NCd o),some (.row ro none PCd fs)]) ex d:=fun e1 e2 e3=>by
   rw [e3] at h
   have h8:=Ar (show (Br.leaf (.ret,([.ref 1 0 0,.b false],[none,some (.row false none NCd [])])):Br (Ex×Dt)).run=some (ex,d) from h)
   obtain ⟨rfl,rfl⟩:=Prod.mk.inj h8
   exact .stop _ _ _ (e1.trans e2) (by simp)
  by_cases q:AA (fun z:Pl=>z.1.1==p.lab.2.2.1) 0 fs<0
  ·rw [I1 _ _ _ q] at hst
   rw [Af (dcT q)] at hr
   dsimp only [map_none] at hst
   cases hmu:p.lab.2.2.2.1 with
   | true=>
    rw [hmu] at hr hst
    exact bad hr rfl (hst.trans (if_pos rfl))
   | false=>
    rw [hmu] at hr hst
    rw [if_neg (by simp)] at hst
    have ih:=JC n k ks hks hcn hlen fs hfs hmx hfb up j (i+1) true o (by omega) (by omega) ex d (by rw [<-hst]; exact h)
    exact .step _ _ _ _ hr ih
  ·obtain ⟨q0,hq0,hq1,hq2,hq3⟩:=Gn (fun z:Pl=>z.1.1==p.lab.2.2.1) fs 0 (by omega)
   rw [hq3] at hst
   dsimp only [map_some] at hst
   have hno:fs[q0].1.1=p.lab.2.2.1:=by simpa using hq2
   have hmem:fs[q0].1∈fs.map (·.1):=mem_map.2 ⟨_,getElem_mem hq0,rfl⟩
   have hml:=Km hmem
   have hkd:=Ep (all_eq_true.1 hfb _ (getElem_mem hq0))
   rw [Ac (dcF q),hq1,zero_add,Aa (by simp only [anE,dcE]; omega),ntN,zero_add,gtE hq0,As] at hr
   generalize fs[q0].1=f at hr hst hno hml hkd
   unfold Fk at hst
   rw [hno] at hst
   by_cases hk0:f.2.1=0
   ·have hb0:(f.2.1==0)=true:=by rw [hk0]; rfl
    cases hfk:fkB p with
    | false=>
     rw [hfk] at hr hst
     rw [if_neg (by rw [hb0]; simp)] at hst
     rw [Af (by rw [hk0]; rfl)] at hr
     exact bad hr rfl hst
    | true=>
     rw [hfk] at hr hst
     rw [if_pos hb0,if_pos hb0] at hst
     rw [Ac (by rw [hk0]; rfl),Af hb0,Aa (dcT ⟨rfl,by omega⟩)] at hr
     cases hn:A6 p f.2.2.1 p.lab.2.2.1 with
     | none=>
      rw [hn] at hr hst
      exact bad hr rfl hst
     | some v=>
      rw [hn] at hr hst
      dsimp only at hst
      have hv:Al v up o.length=[(f.2.2.1,[],p.lab.2.2.1,(up:Int),false,())]:=by
       unfold A6 at hn
       split at hn
       ·cases hn; rw [Al,AB]
       ·cases hn
      have h':=VN (up:=up) (o:=o) hst h
      have hmul:1<=Ao p*(mxD (fs.map (·.1))+1):=mul_pos hpos (by omega)
      have ih:=JC n k ks hks hcn hlen fs hfs hmx hfb up j (i+1) true (o++Al v up o.length) (by omega) (by rw [hv,length_append,length_singleton]; omega) ex d h'
      rw [hv,length_append,length_singleton] at ih
      exact .step _ _ _ _ hr ih
   ·have hb0:(f.2.1==0)=false:=beq_eq_false_iff_ne.2 hk0
    cases hfk:fkB p with
    | true=>
     rw [hfk] at hr hst
     rw [if_neg (by rw [hb0]; simp)] at hst
     rw [if_pos rfl,Af (bne_iff_ne.2 hk0)] at hr
     exact bad hr rfl hst
    | false=>
     rw [hfk] at hr hst
     rw [if_pos hb0,if_neg (by rw [hb0]; simp)] at hst
     rw [if_neg (by simp)] at hr
     have hk2:f.2.1=2:=by rcases hkd with e | e; exact absurd e hk0; exact e
     have hml2:Ao p*(f.2.2.2.1.length+1)<=Ao p*(mxD (fs.map (·.1))+1):=mul_le_mul_left _ (by omega)
     rw [Ac (by rw [hk2]; rfl),Ac hb0,Aa (dcT ⟨rfl,by omega,hrz,by omega,by omega⟩)] at hr
     cases hn:AO p f.2.2.2.1 p.lab.2.2.1 with
     | none=>
      rw [hn] at hr hst
      exact bad hr rfl hst
     | some v=>
      have hsz:=DU p _ _ v hn
      have hdo:Bv p f.2.2.2.1 p.lab.2.2.1 up o=o++Al v up o.length:=by unfold Bv; rw [hn]
      rw [hn,hdo] at hr
      rw [hn] at hst
      dsimp only at hst
      have hl2:=Ch v up o.length
      have h':=VN (up:=up) (o:=o) hst h
      have ih:=JC n k ks hks hcn hlen fs hfs hmx hfb up j (i+1) true (o++Al v up o.length) (by omega) (by rw [length_append,hl2]; omega) ex d h'
      exact .step _ _ _ _ hr ih
theorem Ab1 (n k:Nat):A4 prog (Jm k n) (Ab [(12,dmE k)]) 1 (f100.body.getD .skip):=by
 refine Ax (a:=body f100 0) (by kernel_rfl) fun d ex d' h=>?_
 unfold dmE at h
 dsimp only at h
 split at h
 ·rename_i m w up ks c i o ro fs
  obtain ⟨hc,hx⟩:=Ae h
  obtain ⟨rfl,rfl,rfl,h1,h2,h3,h4,h5,h6,h7,h8,h9,h10⟩:=of_decide_eq_true hc
  obtain ⟨i,rfl⟩:=eq_ofNat_of_zero_le h1
  obtain ⟨up,rfl⟩:=eq_ofNat_of_zero_le h5
  simp only [ntN] at h2 h10 hx
  exact JC n k ks h9 h8 h3 fs h4 h6 h7 up (ks.length-i) i ro o (by omega) h10 ex d' hx
 ·cases h
theorem RT {ks:List (Rose Lab)} {fs:List Pl} {i:Nat} {v:Rose An} {up:Nat} {o:List Nd} (h:(Bg (ks.drop i) (fs.map (·.1)))=(Bg (ks.drop (i+1)) (fs.map (·.1))).map (v::·)) {ex:Ex} {d:Dt} (hd:(Br.br (Bg (ks.drop i) (fs.map (·.1))).isSome (.leaf (.exit 1,([.ref 0 0 (o++AB ((Bg (ks.drop i) (fs.map (·.1))).getD []) up o.length).length],[some (.row false none NCd (o++AB ((Bg (ks.drop i) (fs.map (·.1))).getD []) up o.length))]))) (.leaf (.ret,([.ref 0 0 0,.b false],[some (.row false none NCd [])]))):Br (Ex×Dt)).run=some (ex,d)):(Br.br (Bg (ks.drop (i+1)) (fs.map (·.1))).isSome (.leaf (.exit 1,([.ref 0 0 ((o++Al v up o.length)++AB ((Bg (ks.drop (i+1)) (fs.map (·.1))).getD []) up (o++Al v up o.length).length).length],[some (.row false none NCd ((o++Al v up o.length)++AB ((Bg (ks.drop (i+1)) (fs.map (·.1))).getD []) up (o++Al v up o.length).length))]))) (.leaf (.ret,([.ref 0 0 0,.b false],[some (.row false none NCd [])]))):Br (Ex×Dt)).run=some (ex,d):=by
 rw [h] at hd
 cases e:(Bg (ks.drop (i+1)) (fs.map (·.1))) with
 | none=>rw [e] at hd; exact hd
 | some vs=>
  rw [e] at hd
  refine Eq.trans ?_ hd
  show some _=some _
  rw [show ((Option.map (v::·) (some vs)).getD [])=v::vs from rfl,show ((some vs).getD [])=vs from rfl]
  simp only [AB,length_append,append_assoc]
theorem HS (n k:Nat) (ks:List (Rose Lab)) (hks:A8 5 ks=true) (hcn:Ak ks<=k) (hlen:ks.length<=1000000) (fs:List Pl) (hfs:fs.length<=40) (hmx:mxD (fs.map (·.1))<=400) (hfb:(fs.all fun x=>AJ x.1)=true) (up:Nat) : ∀ (j i:Nat) (ro:Bool) (o:List Nd),i+j=ks.length->o.length+Ak (ks.drop i)*(mxD (fs.map (·.1))+1)<=1000000->∀ ex d,(Br.br (Bg (ks.drop i) (fs.map (·.1))).isSome (.leaf (.exit 1,([.ref 0 0 (o++AB ((Bg (ks.drop i) (fs.map (·.1))).getD []) up o.length).length],[some (.row false none NCd (o++AB ((Bg (ks.drop i) (fs.map (·.1))).getD []) up o.length))]))) (.leaf (.ret,([.ref 0 0 0,.b false],[some (.row false none NCd [])]))):Br (Ex×Dt)).run=some (ex,d)->Runs prog (Jm k n) (Ab [(12,I5 k)]) 0 (body f100 0) (I5 k) ([.ref 0 0 o.length,.ref 1 0 fs.length,.j (up:Int),.sl (.tree LCd) ks,.j (ks.length:Int),.j (i:Int)],[some (.row false none NCd o),some (.row ro none PCd fs)]) ex d
 | 0,i,ro,o,hi,ho,ex,d,h=>by
  have hr:=M6 n k o.length fs.length ro up ks ks.length i o fs
  rw [Ac (dcF (by omega))] at hr
  rw [drop_eq_nil_of_le (by omega),Bg] at h
  have h8:=Ar (show (Br.leaf (.exit 1,([.ref 0 0 (o++AB [] up o.length).length],[some (.row false none NCd (o++AB [] up o.length))])):Br (Ex×Dt)).run=some (ex,d) from h)
  obtain ⟨rfl,rfl⟩:=Prod.mk.inj h8
  rw [AB,append_nil]
  exact .stop _ _ _ hr (by simp)
 | j+1,i,ro,o,hi,ho,ex,d,h=>by
  have hl:i<ks.length:=by omega
  have hr:=M6 n k o.length fs.length ro up ks ks.length i o fs
  have W1:i64.wrap ((i:Int)+1)=((i+1:Nat):Int):=by rw [Ay (by omega) (by omega)]; omega
  have hd:=drop_eq_getElem_cons hl
  have hm:=getElem_mem hl
  obtain ⟨hp,hrz⟩:=Cj hks _ hm
  have hcz:=BB hm
  rw [Af (dcT (by omega)),Aa (by simp only [anE,dcE]; omega),ntN,gtE hl,As,W1,drop_zero,take_length] at hr
  have hst:=BI ks[i] (ks.drop (i+1)) (fs.map (·.1))
  rw [<-hd,RK] at hst
  rw [hd,Ak,add_mul] at ho
  have hpos:=BX ks[i]
  generalize ks[i]=p at hr hst ho hp hrz hcz hpos
  have bad : ∀ {w},A0 prog (Jm k n) (Ab [(12,I5 k)]) 0 (body f100 0) (I5 k) ([.ref 0 0 o.length,.ref 1 0 fs.length,.j (up:Int),.sl (.tree LCd) ks,.j (ks.length:Int),.j (i:Int)],[some (.row false none NCd o),some (.row ro none PCd fs)])=w->w=some ((.ret:Ex),(([.ref 0 0 0,.b false]:List V),[some (.row false none NCd [])]))->(Bg (ks.drop i) (fs.map (·.1)))=none->Runs prog (Jm k n) (Ab [(12,I5 k)]) 0 (body f100 0) (I5 k) ([.ref 0 0 o.length,.ref 1 0 fs.length,.j (up:Int),.sl (.tree LCd) ks,.j (ks.length:Int),.j (i:Int)],[some (.row false none NCd o),some (.row ro none PCd fs)]) ex d:=fun e1 e2 e3=>by
   rw [e3] at h
   have h8:=Ar (show (Br.leaf (.ret,([.ref 0 0 0,.b false],[some (.row false none NCd [])])):Br (Ex×Dt)).run=some (ex,d) from h)
   obtain ⟨rfl,rfl⟩:=Prod.mk.inj h8
   exact .stop _ _ _ (e1.trans e2) (by simp)
  by_cases q:AA (fun z:Pl=>z.1.1==p.lab.2.2.1) 0 fs<0
  ·rw [I1 _ _ _ q] at hst
   rw [Af (dcT q)] at hr
   dsimp only [map_none] at hst
   cases hmu:p.lab.2.2.2.1 with
   | true=>
    rw [hmu] at hr hst
    exact bad hr rfl (hst.trans (if_pos rfl))
   | false=>
    rw [hmu] at hr hst
    rw [if_neg (by simp)] at hst
    have ih:=HS n k ks hks hcn hlen fs hfs hmx hfb up j (i+1) true o (by omega) (by omega) ex d (by rw [<-hst]; exact h)
    exact .step _ _ _ _ hr ih
  ·obtain ⟨q0,hq0,hq1,hq2,hq3⟩:=Gn (fun z:Pl=>z.1.1==p.lab.2.2.1) fs 0 (by omega)
   rw [hq3] at hst
   dsimp only [map_some] at hst
   have hno:fs[q0].1.1=p.lab.2.2.1:=by simpa using hq2
   have hmem:fs[q0].1∈fs.map (·.1):=mem_map.2 ⟨_,getElem_mem hq0,rfl⟩
   have hml:=Km hmem
   have hkd:=Ep (all_eq_true.1 hfb _ (getElem_mem hq0))
   rw [Ac (dcF q),hq1,zero_add,Aa (by simp only [anE,dcE]; omega),ntN,zero_add,gtE hq0,As] at hr
   generalize fs[q0].1=f at hr hst hno hml hkd
   unfold Fk at hst
   rw [hno] at hst
   by_cases hk0:f.2.1=0
   ·have hb0:(f.2.1==0)=true:=by rw [hk0]; rfl
    cases hfk:fkB p with
    | false=>
     rw [hfk] at hr hst
     rw [if_neg (by rw [hb0]; simp)] at hst
     rw [Af (by rw [hk0]; rfl)] at hr
     exact bad hr rfl hst
    | true=>
     rw [hfk] at hr hst
     rw [if_pos hb0,if_pos hb0] at hst
     rw [Ac (by rw [hk0]; rfl),Af hb0,Aa (dcT ⟨rfl,by omega⟩)] at hr
     cases hn:A6 p f.2.2.1 p.lab.2.2.1 with
     | none=>
      rw [hn] at hr hst
      exact bad hr rfl hst
     | some v=>
      rw [hn] at hr hst
      dsimp only at hst
      have hv:Al v up o.length=[(f.2.2.1,[],p.lab.2.2.1,(up:Int),false,())]:=by
       unfold A6 at hn
       split at hn
       ·cases hn; rw [Al,AB]
       ·cases hn
      have h':=RT (up:=up) (o:=o) hst h
      have hmul:1<=Ao p*(mxD (fs.map (·.1))+1):=mul_pos hpos (by omega)
      have ih:=HS n k ks hks hcn hlen fs hfs hmx hfb up j (i+1) true (o++Al v up o.length) (by omega) (by rw [hv,length_append,length_singleton]; omega) ex d h'
      rw [hv,length_append,length_singleton] at ih
      exact .step _ _ _ _ hr ih
   ·have hb0:(f.2.1==0)=false:=beq_eq_false_iff_ne.2 hk0
    cases hfk:fkB p with
    | true=>
     rw [hfk] at hr hst
     rw [if_neg (by rw [hb0]; simp)] at hst
     rw [if_pos rfl,Af (bne_iff_ne.2 hk0)] at hr
     exact bad hr rfl hst
    | false=>
     rw [hfk] at hr hst
     rw [if_pos hb0,if_neg (by rw [hb0]; simp)] at hst
     rw [if_neg (by simp)] at hr
     have hk2:f.2.1=2:=by rcases hkd with e | e; exact absurd e hk0; exact e
     have hml2:Ao p*(f.2.2.2.1.length+1)<=Ao p*(mxD (fs.map (·.1))+1):=mul_le_mul_left _ (by omega)
     rw [Ac (by rw [hk2]; rfl),Ac hb0,Aa (dcT ⟨rfl,by omega,hrz,by omega,by omega⟩)] at hr
     cases hn:AO p f.2.2.2.1 p.lab.2.2.1 with
     | none=>
      rw [hn] at hr hst
      exact bad hr rfl hst
     | some v=>
      have hsz:=DU p _ _ v hn
      have hdo:Bv p f.2.2.2.1 p.lab.2.2.1 up o=o++Al v up o.length:=by unfold Bv; rw [hn]
      rw [hn,hdo] at hr
      rw [hn] at hst
      dsimp only at hst
      have hl2:=Ch v up o.length
      have h':=RT (up:=up) (o:=o) hst h
      have ih:=HS n k ks hks hcn hlen fs hfs hmx hfb up j (i+1) true (o++Al v up o.length) (by omega) (by rw [length_append,hl2]; omega) ex d h'
      exact .step _ _ _ _ hr ih
theorem ZV (n k:Nat):A4 prog (Jm k n) (Ab [(12,I5 k)]) 0 (f100.body.getD .skip):=by
 refine Ax (a:=body f100 0) (by kernel_rfl) fun d ex d' h=>?_
 unfold I5 at h
 dsimp only at h
 split at h
 ·rename_i m w up ks c i o ro fs
  obtain ⟨hc,hx⟩:=Ae h
  obtain ⟨rfl,rfl,rfl,h1,h2,h3,h4,h5,h6,h7,h8,h9,h10⟩:=of_decide_eq_true hc
  obtain ⟨i,rfl⟩:=eq_ofNat_of_zero_le h1
  obtain ⟨up,rfl⟩:=eq_ofNat_of_zero_le h5
  simp only [ntN] at h2 h10 hx
  exact HS n k ks h9 h8 h3 fs h4 h6 h7 up (ks.length-i) i ro o (by omega) h10 ex d' hx
 ·cases h
def Fz (z:Rose Lab) (s:List UInt8):Bool:=decide (s.length<=400)&&(AO z s 0).isSome
def Ia (z:Rose Lab) (s:List UInt8):List Nd:=bif Fz z s then Bv z s 0 (-1) [] else []
def MM:Gm
 | [.tp LCd z 0,.s s],[]=>.need (decide (CY z=true/\s.length<=4000000000)) (.leaf (.tup [.ref 0 0 (Ia z s).length,.b (Fz z s)],[some (.row false none NCd (Ia z s))]))
 | _,_=>.no
theorem Uw {s:List UInt8} {l:List Pl} (h:CM s=some l):EA s=some (l.map (·.1)):=by rw [MT,h]; rfl
theorem LX {s:List UInt8} {l:List Pl} (h:CM s=some l):l.length<=40/\(l.all fun x=>AJ x.1)=true/\mxD (l.map (·.1))<=s.length/\mxD (l.map (·.1))<=400:=by
 obtain ⟨h1,h2,h3⟩:=MS (Uw h)
 have h4:mxD (l.map (·.1))<=s.length:=R3 fun f hf=>(h1 f hf).2
 refine ⟨?_,all_eq_true.2 fun x hx=>(h1 _ (mem_map.2 ⟨x,hx,rfl⟩)).1,h4,by omega⟩
 unfold CM at h
 cases e:rdP s with
 | none=>rw [e] at h; cases h
 | some l'=>
  rw [e] at h
  dsimp only at h
  have:=(MW e).1
  split at h
  ·cases h; exact this
  ·cases h
theorem Dm {z:Rose Lab} (h:Aj z=true):B5 z.lab z.kids=true/\A8 z.lab.1 z.kids=true:=by
 obtain ⟨x,ks⟩:=z
 rw [Aj,anE] at h
 exact h
theorem CN {z:Rose Lab} (h:Aj z=true) (h4:z.lab.1=4):z.kids.length=1/\z.kids.all Aj=true:=by
 obtain ⟨h1,h2⟩:=Dm h
 refine ⟨?_,all_eq_true.2 fun y hy=>(Cj h2 y hy).2⟩
 unfold B5 at h1
 rw [if_neg (by omega),if_neg (by omega),if_pos h4,anE] at h1
 simpa using h1.2
theorem C0 {z:Rose Lab} (h:Aj z=true) (h4:z.lab.1≠4):A8 5 z.kids=true:=by
 obtain ⟨h1,h2⟩:=Dm h
 by_cases h5:z.lab.1=5
 ·rw [h5] at h2; exact h2
 ·unfold B5 at h1
  have e:z.kids=[]:=by
   split at h1
   ·rw [anE] at h1; exact List.eq_nil_of_length_eq_zero (by simpa using h1.2)
   ·split at h1
    ·rw [anE] at h1; exact List.eq_nil_of_length_eq_zero (by simpa using h1.2)
    ·rw [if_pos (.inl h5)] at h1; cases h1
  rw [e]; rfl
theorem DT {z:Rose Lab} {s:List UInt8} {no:Int} (h:z.lab.1=2):AO z s no=if s.length<=30 then some (.node (0,s,no,false,()) []) else none:=by
 obtain ⟨x,ks⟩:=z
 have h:x.1=2:=h
 rw [AO,if_pos h]
theorem DV {z:Rose Lab} {s:List UInt8} {no:Int} (h:z.lab.1=4):AO z s no=(Em z.kids s).map fun vs=>.node (0,[],no,true,()) vs:=by
 obtain ⟨x,ks⟩:=z
 have h:x.1=4:=h
 rw [AO,if_neg (by omega),if_pos h]; rfl
theorem EJ {z:Rose Lab} {s:List UInt8} {no:Int} (h:z.lab.1≠2) (h4:z.lab.1≠4):AO z s no=(match EA s with
   | some fs=>(Bg z.kids fs).map fun vs=>.node (0,[],no,true,()) vs
   | none=>none):=by
 obtain ⟨x,ks⟩:=z
 have h:x.1≠2:=h
 have h4:x.1≠4:=h4
 rw [AO,if_neg h,if_neg h4]; rfl
theorem ZU (n:Nat) (z:Rose Lab) (m:Nat) (s:List UInt8) (no up:Int) (nl:Option Bool) (o:List Nd) (hc:m=o.length/\s.length<=400/\Aj z=true/\Ao z<=(n+1)/\o.length+Ao z*(s.length+1)<=1000000):Bt prog (Ab [(142,.own (dlN (n+1))),(59,.rd1 Ux),(143,.mix Tt),(82,.rd1 Q6),(145,.own M5),(100,.own (LC n))]) (Ab [(12,dmE n)]) f100 [.tp LCd z 0,.ref 0 0 m,.s s,.j no,.j up] [.row false nl NCd o]=some (.tup [.ref 1 0 (Bv z s no up o).length,.b (AO z s no).isSome],[none,some (.row false none NCd (Bv z s no up o))]):=by
 obtain ⟨rfl,h2,h3,h4,h5⟩:=hc
 rw [XK]
 have hM:maxI=9223372036854775807:=rfl
 have hcp:=BX z
 have hck:=Be z
 have hlen:=Bz z.kids
 have h6:1<=Ao z*(s.length+1):=mul_pos hcp (by omega)
 have h7:Ao z*(s.length+1)=Ak z.kids*s.length+Ak z.kids+s.length+1:=by rw [hck,add_mul,mul_add]; omega
 have el:(decide ((o.length+1)*48<=140737488355328)&&decide (o.length+1<=maxI))=true:=by simp only [anE,dcE]; omega
 simp only [AI,drop_zero,take_length,Aa el]
 by_cases q2:z.lab.1=2
 ·rw [Af (beq_iff_eq.2 q2)]
  unfold Bv
  rw [DT q2,if_pos q2]
  by_cases q3:s.length<=30
  ·rw [if_pos q3,dcT (by omega)]
   dsimp only
   rw [Al,AB,length_append,length_singleton]
   rfl
  ·rw [if_neg q3,dcF (by omega)]
   dsimp only
   rw [length_append,length_singleton]
   rfl
 ·rw [Ac (beq_eq_false_iff_ne.2 q2)]
  by_cases q4:z.lab.1=4
  ·obtain ⟨k1,k2⟩:=CN h3 q4
   rw [Af (beq_iff_eq.2 q4),Aa (dcT ⟨by simp,by omega,h2,k1,k2,h4,by simp; omega⟩)]
   unfold Bv G8
   rw [DV q4,if_neg q2]
   cases Em z.kids s with
   | none=>rfl
   | some vs=>
    dsimp only [Option.map]
    rw [Al]
    simp only [length_append,length_singleton,ntN,append_assoc,List.singleton_append]
    all_goals rfl
  ·rw [Ac (beq_eq_false_iff_ne.2 q4),Aa (dcT (by omega))]
   unfold Bv
   rw [EJ q2 q4,if_neg q2]
   cases hr:CM s with
   | none=>rw [MT,hr]; rfl
   | some w=>
    obtain ⟨f1,f2,f3,f4⟩:=LX hr
    rw [Uw hr]
    have h8:Ak z.kids*(mxD (w.map (·.1))+1)<=Ak z.kids*(s.length+1):=mul_le_mul_left _ (by omega)
    have h9:Ak z.kids*(s.length+1)=Ak z.kids*s.length+Ak z.kids:=by rw [mul_add,mul_one]
    dsimp only [isSome,getD]
    rw [Bool.not_true,Bd,Aa (dcT ⟨by simp,by first | trivial | rfl,by first | trivial | rfl,by omega,by omega,by omega,f1,by omega,f4,f2,by omega,C0 h3 q4,by simp; omega⟩),ntN]
    cases Bg z.kids (w.map (·.1)) with
    | none=>rfl
    | some vs=>
     dsimp only [Option.map,isSome,getD]
     rw [Al,Bq]
     simp only [length_append,length_singleton,append_assoc,List.singleton_append]
     all_goals rfl
theorem Yb : ∀ n,(∀ m,m<n->Ad prog 100 (Ent.own (LC m)).F)->Ad prog 100 (Ent.own (LC n)).F
 | 0,_=>AX fun vs bs=>by
  unfold Ent.F LC
  dsimp only
  split
  ·rename_i z m s no up nl o
   have hz:=BX z
   have:decide (m=o.length/\s.length<=400/\Aj z=true/\Ao z<=0/\o.length+Ao z*(s.length+1)<=1000000)=false:=dcF (by omega)
   rw [this]; rfl
  ·rfl
 | n+1,ihs=>by
  have ih:=ihs n (Nat.lt_succ_self n)
  have hl:=VQ n ih
  refine Au (kc func142 hl (kc func59 ris (kc func143 VU (kc func82 kfk (kc func145 ZT (kc func100 ih KnowsL.nil)))))).knows (Λ:=(Ab [(12,dmE n)])) func100 (c:=f100.body.getD .skip) (by kernel_rfl) fun vs bs r hq hv hb=>?_
  unfold Ent.F LC at hq
  dsimp only at hq
  split at hq
  ·rename_i z m s no up nl o
   obtain ⟨hc,hx⟩:=Ae hq
   exact ⟨Ab1 (n+1) n,(ZU n z m s no up nl o (of_decide_eq_true hc)).trans hx⟩
  ·cases hq
theorem Yc (n:Nat):Ad prog 100 (Ent.own (LC n)).F:=Nat.strongRecOn n fun n h=>Yb n h
theorem XL (n:Nat) (z:Rose Lab) (s:List UInt8) (no up:Int) (h1:z.lab.1=5) (h2:s.length<=400) (h3:Aj z=true) (h4:Ao z<=n+1) (h5:Ao z*(s.length+1)<=1000000):Bt prog (Ab [(142,.own (dlN (n+1))),(59,.rd1 Ux),(143,.mix Tt),(82,.rd1 Q6),(145,.own M5),(100,.own (LC n))]) (Ab [(12,I5 n)]) f100 [.tp LCd z 0,.nl,.s s,.j no,.j up] []=some (.tup [.ref 0 0 (Bv z s no up []).length,.b (AO z s no).isSome],[some (.row false none NCd (Bv z s no up []))]):=by
 rw [VO]
 have hck:=Be z
 have hlen:=Bz z.kids
 have h7:Ao z*(s.length+1)=Ak z.kids*s.length+Ak z.kids+s.length+1:=by rw [hck,add_mul,mul_add]; omega
 have q2:z.lab.1≠2:=by omega
 have q4:z.lab.1≠4:=by omega
 simp only [AI,drop_zero]
 rw [Ac (beq_eq_false_iff_ne.2 q2),Ac (beq_eq_false_iff_ne.2 q4),Aa (dcT (by omega))]
 unfold Bv
 rw [EJ q2 q4,if_neg q2]
 cases hr:CM s with
 | none=>rw [MT,hr]; rfl
 | some w=>
  obtain ⟨f1,f2,f3,f4⟩:=LX hr
  rw [Uw hr]
  have h8:Ak z.kids*(mxD (w.map (·.1))+1)<=Ak z.kids*(s.length+1):=mul_le_mul_left _ (by omega)
  have h9:Ak z.kids*(s.length+1)=Ak z.kids*s.length+Ak z.kids:=by rw [mul_add,mul_one]
  dsimp only [isSome,getD]
  rw [Bool.not_true,Bd,Aa (dcT ⟨by first | trivial | rfl,by first | trivial | rfl,by first | trivial | rfl,by omega,by omega,by omega,f1,by omega,f4,f2,by omega,C0 h3 q4,by omega⟩)]
  cases Bg z.kids (w.map (·.1)) with
  | none=>rfl
  | some vs=>
   dsimp only [Option.map,isSome,getD]
   rw [Al]
   rfl
theorem We:Ad prog 100 (Ent.own Wb).F:=by
 have ih:=Yc 1000000
 have hl:=VQ 1000000 ih
 refine Au (kc func142 hl (kc func59 ris (kc func143 VU (kc func82 kfk (kc func145 ZT (kc func100 ih KnowsL.nil)))))).knows (Λ:=(Ab [(12,I5 1000000)])) func100 (c:=f100.body.getD .skip) (by kernel_rfl) fun vs bs r hq hv hb=>?_
 unfold Ent.F Wb at hq
 dsimp only at hq
 split at hq
 ·rename_i z s no up
  obtain ⟨hc,hx⟩:=Ae hq
  obtain ⟨h1,h2,h3,h5⟩:=of_decide_eq_true hc
  have h6:Ao z<=Ao z*(s.length+1):=Nat.le_mul_of_pos_right _ (by omega)
  exact ⟨ZV (1000000+1) 1000000,(XL 1000000 z s no up h1 h2 h3 (by omega) h5).trans hx⟩
 ·cases hq
theorem Cl {z:Rose Lab} (h:CY z=true):z.lab.1=5/\Aj z=true/\Ao z<=30:=by
 unfold CY at h
 simp only [anE,dcE,beq_iff_eq] at h
 exact ⟨h.1.1.1.1.1.1,h.1.1.2,h.2⟩
theorem PQ (z:Rose Lab) (s:List UInt8):Bt prog (Ab [(100,.own Wb)]) (Ab []) f50 [.tp LCd z 0,.s s] [] =
 ((ifB (decide ((↑s.length:Int)>(400:Int))) (some (V.tup [V.ref 0 0 0,V.b false],[some (Blk.row false none NCd (Ag NCd.den))])) (ifT (decide (z.lab.fst=(5 :
 (Cd.int .i64).den)/\s.length<=400/\Aj z=true/\Ao z*(s.length+1)<=1000000)) (some (V.tup [V.ref 0 0 (Bv z s (0:Int) (-1 :
 Int) (Ag Nd)).length,V.b (AO z s (0:Int)).isSome],[some (Blk.row false none NCd (Bv z s (0:Int) (-1:Int) (Ag Nd)))])))):_):=by kernel_rfl
theorem LM:Ad prog 50 (Ent.rd1 MM).F:=by
 refine Au (kc func100 We KnowsL.nil).knows (Λ:=Ab []) func50 (c:=f50.body.getD .skip) (by kernel_rfl) fun vs bs r hq hv hb=>?_
 unfold Ent.F MM at hq
 dsimp only at hq
 split at hq
 ·rename_i z s
  obtain ⟨hc,hx⟩:=Ae hq
  obtain ⟨h1,h2⟩:=of_decide_eq_true hc
  obtain ⟨g1,g2,g3⟩:=Cl h1
  refine ⟨Aq _,(PQ z s).trans (Eq.trans ?_ hx)⟩
  try dsimp only [shr]
  show _=some _
  unfold Ia Fz
  by_cases q:s.length<=400
  ·have hm:Ao z*(s.length+1)<=30*401:=mul_le_mul g3 (by omega)
   rw [Ac (dcF (by omega)),Aa (dcT ⟨g1,q,g2,by omega⟩),dcT q,Bool.true_and]
   cases hd:AO z s 0 with
   | none=>
    have e:Bv z s 0 (-1) []=[]:=by unfold Bv; rw [hd,if_neg (by omega)]
    rw [e]; rfl
   | some v=>rfl
  ·rw [Af (dcT (by omega)),dcF q]
   rfl
 ·cases hq
end Go.Proofs.YteninfkgajnfcaaGreat.Den
