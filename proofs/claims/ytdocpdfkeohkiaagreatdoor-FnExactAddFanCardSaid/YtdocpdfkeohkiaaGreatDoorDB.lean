/- What functions of the program do, by the machine: Wi1 Wi2 Wi3 Wi4 Wi5 Dc1 Val11 Val12 Val13 Val14 Dc2 Dc3 Dc4 Dc5. -/
import Derived.Test.YtdocpdfkeohkiaaGreatDoorDA
import Derived.KernelRfl
import Derived.Test.YtdocpdfkeohkiaaGreatDoorRows
namespace Go.Proofs.YtdocpdfkeohkiaaGreatDoor.Den
open IntKind (i64)
open Go.Proofs.Tryz
open List (all_cons all_eq_true append_assoc append_nil drop drop_eq_getElem_cons drop_eq_nil_of_le drop_zero getElem_mem length_append length_cons length_drop length_singleton map_map mem_cons mem_cons_of_mem mem_map range take take_length)
open Int (eq_ofNat_of_zero_le tdiv tmod)
open Nat (add_mul mul_add mul_le_mul mul_le_mul_left mul_one mul_pos pow_add sub_zero zero_add)
open Option (getD isSome map_eq_some_iff map_none map_some)
open Go.Proofs
set_option maxRecDepth 100000
def tv:Nat->List UInt8->Nat->Nat->Option (Nat×Nat×Bool)
 | 0,_,_,_=>none
 | _+1,[],_,_=>none
 | f+1,b::l,i,n=>if b.toNat<128 then some (n+b.toNat % 128*2 ^ (7*i),i+1,decide (n+b.toNat % 128*2 ^ (7*i)<=2000000001)&&(decide (0<b.toNat)||decide (i=0))) else tv f l (i+1) (n+b.toNat % 128*2 ^ (7*i))
def Ah (s:List UInt8) (a:Nat):Option (Nat×Nat×Bool):=tv 5 (s.drop a) 0 0
def AA:Option (Nat×Nat×Bool)->Int | some (n,_,_)=>n | none=>0
def A0 (a:Nat):Option (Nat×Nat×Bool)->Int | some (_,k,_)=>((a+k:Nat):Int) | none=>0
def BI:Option (Nat×Nat×Bool)->Bool | some (_,_,ok)=>ok | none=>false
def BT:Option (Nat×Nat×Bool)->Int | some (n,_,true)=>n | _=>0
def AV (a:Nat):Option (Nat×Nat×Bool)->Int | some (_,k,true)=>((a+k:Nat):Int) | _=>0
def OZ:LoopEnt:=⟨52,[0,1,7,8],[],[4,5,6],fun
 | ([.s s,.i .i64 a,.i .i64 n,.i .i64 i],[])=>.need (decide (0<=a/\0<=n/\0<=i/\i<=5/\n.toNat<2 ^ (7*i.toNat)/\s.length<=4000000000/\a<=4000000000)) (.br (tv (5-i.toNat) (s.drop (a.toNat+i.toNat)) i.toNat n.toNat).isSome (.leaf (.ret,([.i .i64 (AA (tv (5-i.toNat) (s.drop (a.toNat+i.toNat)) i.toNat n.toNat)),.i .i64 (A0 a.toNat (tv (5-i.toNat) (s.drop (a.toNat+i.toNat)) i.toNat n.toNat)),.b (BI (tv (5-i.toNat) (s.drop (a.toNat+i.toNat)) i.toNat n.toNat))],[]))) (.leaf (.exit 0,([],[]))))
 | _=>.no⟩
def Rd:Gm
 | [.s s,.i .i64 a],[]=>.need (decide (0<=a/\s.length<=4000000000/\a<=4000000000)) (.leaf (.tup [.i .i64 (AA (Ah s a.toNat)),.i .i64 (A0 a.toNat (Ah s a.toNat)),.b (BI (Ah s a.toNat))],[]))
 | _,_=>.no
def OX:LoopEnt:=⟨53,[0,1,7,8],[],[4,5,6],fun
 | ([.s s,.i .i64 a,.i .i64 n,.i .i64 i],[])=>.need (decide (0<=a/\0<=n/\0<=i/\i<=5/\n.toNat<2 ^ (7*i.toNat)/\s.length<=4000000000/\a<=4000000000)) (.br (tv (5-i.toNat) (s.drop (a.toNat+i.toNat)) i.toNat n.toNat).isSome (.leaf (.ret,([.i .i64 (BT (tv (5-i.toNat) (s.drop (a.toNat+i.toNat)) i.toNat n.toNat)),.i .i64 (AV a.toNat (tv (5-i.toNat) (s.drop (a.toNat+i.toNat)) i.toNat n.toNat)),.b (BI (tv (5-i.toNat) (s.drop (a.toNat+i.toNat)) i.toNat n.toNat))],[]))) (.leaf (.exit 0,([],[]))))
 | _=>.no⟩
def Rc:Gm
 | [.s s,.i .i64 a],[]=>.need (decide (0<=a/\s.length<=4000000000/\a<=4000000000)) (.leaf (.tup [.i .i64 (BT (Ah s a.toNat)),.i .i64 (AV a.toNat (Ah s a.toNat)),.b (BI (Ah s a.toNat))],[]))
 | _,_=>.no
theorem Afh (n:Nat) (_:n<256):IntKind.u8.wrap ((BitVec.ofInt IntKind.u8.bits (n:Int) &&& BitVec.ofInt IntKind.u8.bits (127:Int)).toNat:Int)=((n % 128:Nat):Int):=by
 have e:(BitVec.ofInt IntKind.u8.bits (n:Int) &&& BitVec.ofInt IntKind.u8.bits (127:Int)).toNat=n % 128:=by
  show (BitVec.ofInt 8 (n:Int) &&& BitVec.ofInt 8 ((127:Nat):Int)).toNat=n % 128
  rw [BitVec.toNat_and,BitVec.ofInt_natCast,BitVec.ofInt_natCast,BitVec.toNat_ofNat,BitVec.toNat_ofNat,show 127 % 2 ^ 8=2 ^ 7-1 by decide,Nat.and_two_pow_sub_one_eq_mod]
  show n % 256 % 128=n % 128
  omega
 rw [e]
 unfold IntKind.wrap
 simp [IntKind.bits,IntKind.signed]
 omega
theorem Aeg (n:Nat) (_:n<256):i64.wrap ((BitVec.ofInt i64.bits (n:Int) &&& BitVec.ofInt i64.bits (127:Int)).toNat:Int)=((n % 128:Nat):Int):=by
 have e:(BitVec.ofInt i64.bits (n:Int) &&& BitVec.ofInt i64.bits (127:Int)).toNat=n % 128:=by
  show (BitVec.ofInt 64 (n:Int) &&& BitVec.ofInt 64 ((127:Nat):Int)).toNat=n % 128
  rw [BitVec.toNat_and,BitVec.ofInt_natCast,BitVec.ofInt_natCast,BitVec.toNat_ofNat,BitVec.toNat_ofNat,show 127 % 2 ^ 64=2 ^ 7-1 by decide,Nat.and_two_pow_sub_one_eq_mod]
  show n % 18446744073709551616 % 128=n % 128
  omega
 rw [e,Aw (by omega) (by omega)]
theorem JN {i:Nat} (h:i<=4):2 ^ (7*i)<=268435456:=by
 have:2 ^ (7*i)<=2 ^ 28:=Nat.pow_le_pow_right (by decide) (by omega)
 have e:(2:Nat) ^ 28=268435456:=by decide
 omega
theorem Adw (x i:Nat) (hx:x<128) (hi:i<=4):i64.wrap ((x:Int)*(2:Int) ^ min ((7:Int)*(i:Int)).toNat i64.bits)=((x*2 ^ (7*i):Nat):Int):=by
 have hp:=JN hi
 have hm:x*2 ^ (7*i)<=127*268435456:=mul_le_mul (by omega) hp
 have e1:((7:Int)*(i:Int)).toNat=7*i:=by omega
 have e2:min (7*i) i64.bits=7*i:=Nat.min_eq_left (by show 7*i<=64; omega)
 rw [e1,e2]
 have e3:(x:Int)*(2:Int) ^ (7*i)=((x*2 ^ (7*i):Nat):Int):=by simp
 rw [e3,Aw (by omega) (by omega)]
theorem OU {n:Int} (h1:0<=n) (h2:n<=9223372036854775807):IntKind.u64.wrap n=n:=by
 unfold IntKind.wrap
 simp [IntKind.bits,IntKind.signed]
 omega
theorem or7 (n x i:Nat) (hn:n<2 ^ (7*i)) (hx:x<128) (hi:i<=4):i64.wrap ((BitVec.ofInt i64.bits (n:Int) ||| BitVec.ofInt i64.bits ((x*2 ^ (7*i):Nat):Int)).toNat:Int)=((n+x*2 ^ (7*i):Nat):Int):=by
 have hp:=JN hi
 have hm:x*2 ^ (7*i)<=127*268435456:=mul_le_mul (by omega) hp
 have e:(BitVec.ofInt i64.bits (n:Int) ||| BitVec.ofInt i64.bits ((x*2 ^ (7*i):Nat):Int)).toNat=n+x*2 ^ (7*i):=by
  show (BitVec.ofInt 64 (n:Int) ||| BitVec.ofInt 64 ((x*2 ^ (7*i):Nat):Int)).toNat=_
  rw [BitVec.toNat_or,BitVec.ofInt_natCast,BitVec.ofInt_natCast,BitVec.toNat_ofNat,BitVec.toNat_ofNat,Nat.mod_eq_of_lt (by omega),Nat.mod_eq_of_lt (by omega),Nat.mul_comm x,Nat.or_comm,<-Nat.two_pow_add_eq_or_of_lt hn x,Nat.add_comm]
 rw [e,Aw (by omega) (by omega)]
theorem Pa : ∀ (f:Nat) (l:List UInt8) (i n:Nat) {x:Nat×Nat×Bool},i+f<=5->n<2 ^ (7*i)->tv f l i n=some x->x.1<2 ^ 35/\i<x.2.1/\x.2.1<=i+l.length/\x.2.1<=5
 | 0,l,i,n,x,h1,h2,h=>by rw [tv] at h; cases h
 | f+1,[],i,n,x,h1,h2,h=>by rw [tv] at h; cases h
 | f+1,b::l,i,n,x,h1,h2,h=>by
  have hm:n+b.toNat % 128*2 ^ (7*i)<2 ^ (7*(i+1)):=by
   have h3:b.toNat % 128<=127:=by omega
   have h4:b.toNat % 128*2 ^ (7*i)<=127*2 ^ (7*i):=Nat.mul_le_mul_right _ h3
   have h5:2 ^ (7*(i+1))=2 ^ (7*i)*128:=by rw [show 7*(i+1)=7*i+7 by omega,pow_add]
   omega
  rw [tv] at h
  split at h
  ·simp at h
   subst h
   have h6:2 ^ (7*(i+1))<=2 ^ 35:=Nat.pow_le_pow_right (by decide) (by omega)
   exact ⟨by omega,by simp,by simp<;>omega,by simp<;>omega⟩
  ·obtain ⟨g1,g2,g3,g4⟩:=Pa f l (i+1) _ (by omega) hm h
   exact ⟨g1,by omega,by simp; omega,g4⟩
theorem Ke {s:List UInt8} {a:Nat} {x:Nat×Nat×Bool} (h:Ah s a=some x):x.1<=34359738368/\0<x.2.1/\a+x.2.1<=s.length/\x.2.1<=5:=by
 obtain ⟨h1,h2,h3,h4⟩:=Pa 5 _ 0 0 (by omega) (by decide) h
 rw [length_drop] at h3
 have e:(2:Nat) ^ 35=34359738368:=by decide
 exact ⟨by omega,h2,by omega,h4⟩
theorem M0 (s:List UInt8) (a n i:Int):Av prog (Ab []) (Ab [(3,OZ)]) 0 (body f215 0) OZ ([.s s,.j a,.j n,.j i],[]) =
 ((ifB (decide (i<(5:Int))) (ifB (decide (i64.wrap (a+i)<(↑s.length:Int))) (ifT (decide ((0:Int)<=i64.wrap (a+i))) (Ai s[(i64.wrap
 (a+i)).toNat]? fun z=>ifT (decide ((0:Int)<=i64.wrap ((7:Int)*i))) (ifB (decide ((↑z.toNat:Int)<(128:Int))) (ifB (decide (i64.wrap
 (↑(BitVec.ofInt i64.bits n ||| BitVec.ofInt i64.bits (i64.wrap (i64.wrap (IntKind.u8.wrap (↑(BitVec.ofInt IntKind.u8.bits (↑z.toNat:Int)
 &&& BitVec.ofInt IntKind.u8.bits (127:Int)).toNat:Int))*(2:Int) ^ min (i64.wrap ((7:Int)*i)).toNat i64.bits))).toNat:Int)<=(2000000001 :
 Int))) (ifB (decide ((↑z.toNat:Int)>(0:Int))) (some (Ex.ret,[V.j (i64.wrap (↑(BitVec.ofInt i64.bits n ||| BitVec.ofInt i64.bits
 (i64.wrap (i64.wrap (IntKind.u8.wrap (↑(BitVec.ofInt IntKind.u8.bits (↑z.toNat:Int) &&& BitVec.ofInt IntKind.u8.bits (127:Int)).toNat:Int))*(2 :
 Int) ^ min (i64.wrap ((7:Int)*i)).toNat i64.bits))).toNat:Int)),V.j (i64.wrap (i64.wrap (a+i)+(1:Int))),V.b true],[]))
 (some (Ex.ret,[V.j (i64.wrap (↑(BitVec.ofInt i64.bits n ||| BitVec.ofInt i64.bits (i64.wrap (i64.wrap (IntKind.u8.wrap
 (↑(BitVec.ofInt IntKind.u8.bits (↑z.toNat:Int) &&& BitVec.ofInt IntKind.u8.bits (127:Int)).toNat:Int))*(2:Int) ^ min (i64.wrap ((7:Int)*i)).toNat
 i64.bits))).toNat:Int)),V.j (i64.wrap (i64.wrap (a+i)+(1:Int))),V.b (i==(0:Int))],[]))) (some (Ex.ret,[V.i .i64
 (i64.wrap (↑(BitVec.ofInt i64.bits n ||| BitVec.ofInt i64.bits (i64.wrap (i64.wrap (IntKind.u8.wrap (↑(BitVec.ofInt
 IntKind.u8.bits (↑z.toNat:Int) &&& BitVec.ofInt IntKind.u8.bits (127:Int)).toNat:Int))*(2:Int) ^ min (i64.wrap ((7:Int)*i)).toNat
 i64.bits))).toNat:Int)),V.j (i64.wrap (i64.wrap (a+i)+(1:Int))),V.b false],[]))) (some (Ex.normal,[V.s s,V.j a,V.i .i64
 (i64.wrap (↑(BitVec.ofInt i64.bits n ||| BitVec.ofInt i64.bits (i64.wrap (i64.wrap (IntKind.u8.wrap (↑(BitVec.ofInt
 IntKind.u8.bits (↑z.toNat:Int) &&& BitVec.ofInt IntKind.u8.bits (127:Int)).toNat:Int))*(2:Int) ^ min (i64.wrap ((7:Int)*i)).toNat
 i64.bits))).toNat:Int)),V.j (i64.wrap (i+(1:Int)))],[]))))) (some (Ex.exit 0,[],[]))) (some (Ex.exit 0,[],[]))):_):=by kernel_rfl
theorem OY (s:List UInt8) (a:Nat) (hs:s.length<=4000000000) (ha:a<=4000000000) : ∀ (j i n:Nat),i+j=5->n<2 ^ (7*i)->∀ ex d,(Br.br (tv (5-i) (s.drop (a+i)) i n).isSome (.leaf (.ret,([.j (AA (tv (5-i) (s.drop (a+i)) i n)),.j (A0 a (tv (5-i) (s.drop (a+i)) i n)),.b (BI (tv (5-i) (s.drop (a+i)) i n))],[]))) (.leaf (.exit 0,([],[]))):Br (Ex×Dt)).run=some (ex,d)->
  Runs prog (Ab []) (Ab [(3,OZ)]) 0 (body f215 0) OZ ([.s s,.j (a:Int),.j (n:Int),.j (i:Int)],[]) ex d
 | 0,i,n,hi,hn,ex,d,h=>by
  have hr:=M0 s a n i
  rw [Ac (dcF (by omega))] at hr
  rw [show 5-i=0 by omega,tv] at h
  have h8:=Ao h
  obtain ⟨rfl,rfl⟩:=Prod.mk.inj h8
  exact .stop _ _ _ hr (by simp)
 | j+1,i,n,hi,hn,ex,d,h=>by
  have hr:=M0 s a n i
  have hw:i64.wrap ((a:Int)+(i:Int))=((a+i:Nat):Int):=by rw [Aw (by omega) (by omega)]; omega
  rw [Ag (dcT (by omega)),hw] at hr
  rw [show 5-i=(5-(i+1))+1 by omega] at h
  by_cases hl:a+i<s.length
  ·rw [Ag (dcT (by omega)),Aa (dcT (by omega))] at hr
   have hz:=s[a+i].toNat_lt
   have hx:s[a+i].toNat % 128<128:=Nat.mod_lt _ (by decide)
   have hp:=JN (i:=i) (by omega)
   have hm:s[a+i].toNat % 128*2 ^ (7*i)<=127*268435456:=mul_le_mul (by omega) hp
   have hw7:i64.wrap ((7:Int)*(i:Int))=7*(i:Int):=Aw (by omega) (by omega)
   have hwc:i64.wrap (s[a+i].toNat:Int)=(s[a+i].toNat:Int):=Aw (by omega) (by omega)
   have hu7:IntKind.u64.wrap (7*(i:Int))=7*(i:Int):=OU (by omega) (by omega)
   have hwx:i64.wrap ((s[a+i].toNat % 128:Nat):Int)=((s[a+i].toNat % 128:Nat):Int):=Aw (by omega) (by omega)
   simp only [ntN,gtE hl,Am,hw7,Afh _ hz,hwx,Adw _ i hx (by omega),or7 n _ i hn hx (by omega)] at hr
   rw [Aa (dcT (by omega))] at hr
   rw [drop_eq_getElem_cons hl,tv] at h
   have hm2:n+s[a+i].toNat % 128*2 ^ (7*i)<2 ^ (7*(i+1)):=by
    have h4:s[a+i].toNat % 128*2 ^ (7*i)<=127*2 ^ (7*i):=Nat.mul_le_mul_right _ (by omega)
    have h5:2 ^ (7*(i+1))=2 ^ (7*i)*128:=by rw [show 7*(i+1)=7*i+7 by omega,pow_add]
    omega
   have hwi:i64.wrap (((a+i:Nat):Int)+1)=((a+(i+1):Nat):Int):=by rw [Aw (by omega) (by omega)]; omega
   rw [Ap (n:=i) (by unfold maxI; omega)] at hr
   try rw [hwi] at hr
   generalize s[a+i].toNat % 128*2 ^ (7*i)=y at *
   have hi0:((i:Int)==0)=decide (i=0):=by
    by_cases h:i=0
    ·subst h; rfl
    ·rw [dcF h]; exact beq_false_of_ne (by omega)
   have hle:decide (((n+y:Nat):Int)<=2000000001)=decide (n+y<=2000000001):=decide_eq_decide.2 (by omega)
   have hgt:decide (((n+y:Nat):Int)>2000000001) = !decide (n+y<=2000000001):=by rw [<-decide_not]; exact decide_eq_decide.2 (by omega)
   have hb0:decide ((s[a+i].toNat:Int)>0)=decide (0<s[a+i].toNat):=decide_eq_decide.2 (by omega)
   have hbz:((s[a+i].toNat:Int)==0) = !decide (0<s[a+i].toNat):=by
    by_cases h:s[a+i].toNat=0
    ·rw [h]; rfl
    ·rw [dcT (by omega)]; exact beq_false_of_ne (by omega)
   have hig:decide ((i:Int)>0) = !decide (i=0):=by rw [<-decide_not]; exact decide_eq_decide.2 (by omega)
   simp only [hi0,hle,hb0] at hr
   by_cases hb:s[a+i].toNat<128
   ·rw [if_pos hb] at h
    rw [Ag (dcT (by omega))] at hr
    have h8:=Ao h
    obtain ⟨rfl,rfl⟩:=Prod.mk.inj h8
    refine .stop _ _ _ (hr.trans ?_) (by simp)
    cases decide (n+y<=2000000001)<;>cases decide (0<s[a+i].toNat)<;>cases decide (i=0)<;>rfl
   ·rw [if_neg hb] at h
    rw [Ac (dcF (by omega))] at hr
    exact .step _ _ _ _ hr (OY s a hs ha j (i+1) (n+y) (by omega) hm2 ex d h)
  ·rw [Ac (dcF (by omega))] at hr
   rw [drop_eq_nil_of_le (by omega),tv] at h
   have h8:=Ao h
   obtain ⟨rfl,rfl⟩:=Prod.mk.inj h8
   exact .stop _ _ _ hr (by simp)
theorem Abb:Ar prog (Ab []) (Ab [(3,OZ)]) 0 (f215.body.getD .skip):=by
 refine An (a:=body f215 0) (by kernel_rfl) fun d ex d' h=>?_
 unfold OZ at h
 dsimp only at h
 split at h
 ·rename_i s a n i
  obtain ⟨hc,hx⟩:=Ad h
  clear h
  obtain ⟨h0,h1,h2,h3,h4,h5,h6⟩:=of_decide_eq_true hc
  obtain ⟨a,rfl⟩:=eq_ofNat_of_zero_le h0
  obtain ⟨n,rfl⟩:=eq_ofNat_of_zero_le h1
  obtain ⟨i,rfl⟩:=eq_ofNat_of_zero_le h2
  simp only [ntN] at h4 hx
  exact OY s a h5 (by omega) (5-i) i n (by omega) h4 ex d' hx
 ·cases h
theorem tvi:Af prog 215 (Ent.rd1 Rd).F:=by
 refine Ae KnowsL.nil.knows (Λ:=(Ab [(3,OZ)])) func215 (c:=f215.body.getD .skip) (by kernel_rfl) fun vs bs r hq hv hb=>?_
 unfold Ent.F Rd at hq
 dsimp only at hq
 split at hq
 ·rename_i s a
  obtain ⟨hc,hx⟩:=Ad hq
  refine ⟨Abb,Eq.trans ?_ hx⟩
  obtain ⟨h0,h1,h2⟩:=of_decide_eq_true hc
  obtain ⟨a,rfl⟩:=eq_ofNat_of_zero_le h0
  have e:Ax prog (Ab []) (Ab [(3,OZ)]) f215 [.s s,.j (a:Int)] []=((ifT (decide ((0:Int)<=(↑a:Int)/\(0:Int)<=(0:Int)/\(0:Int)<=(0:Int)/\(0:Int)<=(5:Int)/\0<2 ^ 0/\s.length<=(4000000000 :
 Nat)/\(↑a:Int)<=(4000000000:Int))) (ifB (tv 5 (drop ((↑a:Int).toNat+0) s) 0 0).isSome (some (V.tup [V.j (AA (tv (5 :
 Nat) (drop ((↑a:Int).toNat+0) s) 0 0)),V.j (A0 (↑a:Int).toNat (tv 5 (drop ((↑a:Int).toNat+0) s) (0 :
 Nat) 0)),V.b (BI (tv 5 (drop ((↑a:Int).toNat+0) s) 0 0))],[])) (some (V.tup [V.j 0,V.j 0,V.b false],
 [])))):_):=by kernel_rfl
  rw [e]
  clear e
  rw [Aa (dcT ⟨by omega,by omega,by omega,by omega,by decide,h1,h2⟩)]
  simp only [ntN,Nat.add_zero]
  show ifB (Ah s a).isSome (some (V.tup [.j (AA (Ah s a)),.j (A0 a (Ah s a)),.b (BI (Ah s a))],[])) _=_
  cases Ah s a<;>rfl
 ·cases hq
theorem Mz (s:List UInt8) (a n i:Int):Av prog (Ab []) (Ab [(3,OX)]) 0 (body f201 0) OX ([.s s,.j a,.j n,.j i],[]) =
 ((ifB (decide (i<(5:Int))) (ifB (decide (i64.wrap (a+i)<(↑s.length:Int))) (ifT (decide ((0:Int)<=i64.wrap (a+i))) (Ai s[(i64.wrap
 (a+i)).toNat]? fun z=>ifT (decide ((0:Int)<=IntKind.u64.wrap (i64.wrap ((7:Int)*i)))) (ifB (decide (i64.wrap (↑z.toNat:Int)<(128:Int)))
 (ifB (decide (i>(0:Int))) (ifB (i64.wrap (↑z.toNat:Int)==(0:Int)) (some (Ex.ret,[V.j 0,V.j 0,V.b false],[])) (ifB (decide
 (i64.wrap (↑(BitVec.ofInt i64.bits n ||| BitVec.ofInt i64.bits (i64.wrap (i64.wrap (↑(BitVec.ofInt i64.bits
 (i64.wrap (↑z.toNat:Int)) &&& BitVec.ofInt i64.bits (127:Int)).toNat:Int)*(2:Int) ^ min (IntKind.u64.wrap (i64.wrap ((7:Int) *
 i))).toNat i64.bits))).toNat:Int)>(2000000001:Int))) (some (Ex.ret,[V.j 0,V.j 0,V.b false],[])) (some (Ex.ret,[V.j (i64.wrap
 (↑(BitVec.ofInt i64.bits n ||| BitVec.ofInt i64.bits (i64.wrap (i64.wrap (↑(BitVec.ofInt i64.bits (i64.wrap (↑z.toNat :
 Int)) &&& BitVec.ofInt i64.bits (127:Int)).toNat:Int)*(2:Int) ^ min (IntKind.u64.wrap (i64.wrap ((7:Int)*i))).toNat i64.bits))).toNat
 : Int)),V.j (i64.wrap (i64.wrap (a+i)+(1:Int))),V.b true],[])))) (ifB (decide (i64.wrap (↑(BitVec.ofInt i64.bits n |||
 BitVec.ofInt i64.bits (i64.wrap (i64.wrap (↑(BitVec.ofInt i64.bits (i64.wrap (↑z.toNat:Int)) &&& BitVec.ofInt i64.bits
 (127:Int)).toNat:Int)*(2:Int) ^ min (IntKind.u64.wrap (i64.wrap ((7:Int)*i))).toNat i64.bits))).toNat:Int)>(2000000001:Int))) (some
 (Ex.ret,[V.j 0,V.j 0,V.b false],[])) (some (Ex.ret,[V.j (i64.wrap (↑(BitVec.ofInt i64.bits n ||| BitVec.ofInt i64.bits
 (i64.wrap (i64.wrap (↑(BitVec.ofInt i64.bits (i64.wrap (↑z.toNat:Int)) &&& BitVec.ofInt i64.bits (127:Int)).toNat:Int)*(2
 : Int) ^ min (IntKind.u64.wrap (i64.wrap ((7:Int)*i))).toNat i64.bits))).toNat:Int)),V.j (i64.wrap (i64.wrap (a+i)+(1 :
 Int))),V.b true],[])))) (some (Ex.normal,[V.s s,V.j a,V.j (i64.wrap (↑(BitVec.ofInt i64.bits n ||| BitVec.ofInt i64.bits
 (i64.wrap (i64.wrap (↑(BitVec.ofInt i64.bits (i64.wrap (↑z.toNat:Int)) &&& BitVec.ofInt i64.bits (127:Int)).toNat:Int)*(2
 : Int) ^ min (IntKind.u64.wrap (i64.wrap ((7:Int)*i))).toNat i64.bits))).toNat:Int)),V.j (i64.wrap (i+(1:Int)))],[]))))) (some
 (Ex.exit 0,[],[]))) (some (Ex.exit 0,[],[]))):_):=by kernel_rfl
theorem OW (s:List UInt8) (a:Nat) (hs:s.length<=4000000000) (ha:a<=4000000000) : ∀ (j i n:Nat),i+j=5->n<2 ^ (7*i)->∀ ex d,(Br.br (tv (5-i) (s.drop (a+i)) i n).isSome (.leaf (.ret,([.j (BT (tv (5-i) (s.drop (a+i)) i n)),.j (AV a (tv (5-i) (s.drop (a+i)) i n)),.b (BI (tv (5-i) (s.drop (a+i)) i n))],[]))) (.leaf (.exit 0,([],[]))):Br (Ex×Dt)).run=some (ex,d)->
  Runs prog (Ab []) (Ab [(3,OX)]) 0 (body f201 0) OX ([.s s,.j (a:Int),.j (n:Int),.j (i:Int)],[]) ex d
 | 0,i,n,hi,hn,ex,d,h=>by
  have hr:=Mz s a n i
  rw [Ac (dcF (by omega))] at hr
  rw [show 5-i=0 by omega,tv] at h
  have h8:=Ao h
  obtain ⟨rfl,rfl⟩:=Prod.mk.inj h8
  exact .stop _ _ _ hr (by simp)
 | j+1,i,n,hi,hn,ex,d,h=>by
  have hr:=Mz s a n i
  have hw:i64.wrap ((a:Int)+(i:Int))=((a+i:Nat):Int):=by rw [Aw (by omega) (by omega)]; omega
  rw [Ag (dcT (by omega)),hw] at hr
  rw [show 5-i=(5-(i+1))+1 by omega] at h
  by_cases hl:a+i<s.length
  ·rw [Ag (dcT (by omega)),Aa (dcT (by omega))] at hr
   have hz:=s[a+i].toNat_lt
   have hx:s[a+i].toNat % 128<128:=Nat.mod_lt _ (by decide)
   have hp:=JN (i:=i) (by omega)
   have hm:s[a+i].toNat % 128*2 ^ (7*i)<=127*268435456:=mul_le_mul (by omega) hp
   have hw7:i64.wrap ((7:Int)*(i:Int))=7*(i:Int):=Aw (by omega) (by omega)
   have hwc:i64.wrap (s[a+i].toNat:Int)=(s[a+i].toNat:Int):=Aw (by omega) (by omega)
   have hu7:IntKind.u64.wrap (7*(i:Int))=7*(i:Int):=OU (by omega) (by omega)
   have hwx:i64.wrap ((s[a+i].toNat % 128:Nat):Int)=((s[a+i].toNat % 128:Nat):Int):=Aw (by omega) (by omega)
   simp only [ntN,gtE hl,Am,hw7,hu7,hwc,Aeg _ hz,Adw _ i hx (by omega),or7 n _ i hn hx (by omega)] at hr
   rw [Aa (dcT (by omega))] at hr
   rw [drop_eq_getElem_cons hl,tv] at h
   have hm2:n+s[a+i].toNat % 128*2 ^ (7*i)<2 ^ (7*(i+1)):=by
    have h4:s[a+i].toNat % 128*2 ^ (7*i)<=127*2 ^ (7*i):=Nat.mul_le_mul_right _ (by omega)
    have h5:2 ^ (7*(i+1))=2 ^ (7*i)*128:=by rw [show 7*(i+1)=7*i+7 by omega,pow_add]
    omega
   have hwi:i64.wrap (((a+i:Nat):Int)+1)=((a+(i+1):Nat):Int):=by rw [Aw (by omega) (by omega)]; omega
   rw [Ap (n:=i) (by unfold maxI; omega)] at hr
   try rw [hwi] at hr
   generalize s[a+i].toNat % 128*2 ^ (7*i)=y at *
   have hi0:((i:Int)==0)=decide (i=0):=by
    by_cases h:i=0
    ·subst h; rfl
    ·rw [dcF h]; exact beq_false_of_ne (by omega)
   have hle:decide (((n+y:Nat):Int)<=2000000001)=decide (n+y<=2000000001):=decide_eq_decide.2 (by omega)
   have hgt:decide (((n+y:Nat):Int)>2000000001) = !decide (n+y<=2000000001):=by rw [<-decide_not]; exact decide_eq_decide.2 (by omega)
   have hb0:decide ((s[a+i].toNat:Int)>0)=decide (0<s[a+i].toNat):=decide_eq_decide.2 (by omega)
   have hbz:((s[a+i].toNat:Int)==0) = !decide (0<s[a+i].toNat):=by
    by_cases h:s[a+i].toNat=0
    ·rw [h]; rfl
    ·rw [dcT (by omega)]; exact beq_false_of_ne (by omega)
   have hig:decide ((i:Int)>0) = !decide (i=0):=by rw [<-decide_not]; exact decide_eq_decide.2 (by omega)
   simp only [hgt,hbz,hig] at hr
   by_cases hb:s[a+i].toNat<128
   ·rw [if_pos hb] at h
    rw [Ag (dcT (by omega))] at hr
    have h8:=Ao h
    obtain ⟨rfl,rfl⟩:=Prod.mk.inj h8
    refine .stop _ _ _ (hr.trans ?_) (by simp)
    cases decide (n+y<=2000000001)<;>cases decide (0<s[a+i].toNat)<;>cases decide (i=0)<;>rfl
   ·rw [if_neg hb] at h
    rw [Ac (dcF (by omega))] at hr
    exact .step _ _ _ _ hr (OW s a hs ha j (i+1) (n+y) (by omega) hm2 ex d h)
  ·rw [Ac (dcF (by omega))] at hr
   rw [drop_eq_nil_of_le (by omega),tv] at h
   have h8:=Ao h
   obtain ⟨rfl,rfl⟩:=Prod.mk.inj h8
   exact .stop _ _ _ hr (by simp)
theorem Aba:Ar prog (Ab []) (Ab [(3,OX)]) 0 (f201.body.getD .skip):=by
 refine An (a:=body f201 0) (by kernel_rfl) fun d ex d' h=>?_
 unfold OX at h
 dsimp only at h
 split at h
 ·rename_i s a n i
  obtain ⟨hc,hx⟩:=Ad h
  clear h
  obtain ⟨h0,h1,h2,h3,h4,h5,h6⟩:=of_decide_eq_true hc
  obtain ⟨a,rfl⟩:=eq_ofNat_of_zero_le h0
  obtain ⟨n,rfl⟩:=eq_ofNat_of_zero_le h1
  obtain ⟨i,rfl⟩:=eq_ofNat_of_zero_le h2
  simp only [ntN] at h4 hx
  exact OW s a h5 (by omega) (5-i) i n (by omega) h4 ex d' hx
 ·cases h
theorem tvs:Af prog 201 (Ent.rd1 Rc).F:=by
 refine Ae KnowsL.nil.knows (Λ:=(Ab [(3,OX)])) func201 (c:=f201.body.getD .skip) (by kernel_rfl) fun vs bs r hq hv hb=>?_
 unfold Ent.F Rc at hq
 dsimp only at hq
 split at hq
 ·rename_i s a
  obtain ⟨hc,hx⟩:=Ad hq
  refine ⟨Aba,Eq.trans ?_ hx⟩
  obtain ⟨h0,h1,h2⟩:=of_decide_eq_true hc
  obtain ⟨a,rfl⟩:=eq_ofNat_of_zero_le h0
  have e:Ax prog (Ab []) (Ab [(3,OX)]) f201 [.s s,.j (a:Int)] []=((ifT (decide ((0:Int)<=(↑a:Int)/\(0:Int)<=(0:Int)/\(0:Int)<=(0:Int)/\(0:Int)<=(5:Int)/\0<2 ^ 0/\s.length<=(4000000000 :
 Nat)/\(↑a:Int)<=(4000000000:Int))) (ifB (tv 5 (drop ((↑a:Int).toNat+0) s) 0 0).isSome (some (V.tup [V.j (BT (tv (5 :
 Nat) (drop ((↑a:Int).toNat+0) s) 0 0)),V.j (AV (↑a:Int).toNat (tv 5 (drop ((↑a:Int).toNat+0) s) (0 :
 Nat) 0)),V.b (BI (tv 5 (drop ((↑a:Int).toNat+0) s) 0 0))],[])) (some (V.tup [V.j 0,V.j 0,V.b false],
 [])))):_):=by kernel_rfl
  rw [e]
  clear e
  rw [Aa (dcT ⟨by omega,by omega,by omega,by omega,by decide,h1,h2⟩)]
  simp only [ntN,Nat.add_zero]
  show ifB (Ah s a).isSome (some (V.tup [.j (BT (Ah s a)),.j (AV a (Ah s a)),.b (BI (Ah s a))],[])) _=_
  cases Ah s a<;>rfl
 ·cases hq
abbrev WFd:=Int×Int×Int×List UInt8×Unit
abbrev Pl:=WFd×Int×Unit
def unf (n:Int):Int:=if n % 2=1 then -((n+1) / 2) else n / 2
def AX (f:WFd):Bool:=(decide (1<=f.1)&&decide (f.1<=30))&&(if f.2.1=0 then Dy f.2.2.1&&f.2.2.2.1==[] else if f.2.1=2 then f.2.2.1==0 else false)
def Bb (s:List UInt8) (a:Nat):List UInt8×Int×Bool:=
 let u:=Ah s a
 if BI u=true/\AA u<=s.length-A0 a u then ((s.drop (A0 a u).toNat).take (AA u).toNat,A0 a u+AA u,true) else ([],0,false)
def AZ (s:List UInt8) (a:Nat):WFd×Int×Int×Bool:=
 let t:=Ah s a
 if BI t=false then ((0,0,0,[],()),0,0,false)
 else if AA t % 8=2 then
  let b:=Bb s (A0 a t).toNat
  ((AA t / 8,2,0,b.1,()),a,b.2.1,b.2.2&&AX (AA t / 8,2,0,b.1,()))
 else
  let u:=Ah s (A0 a t).toNat
  ((AA t / 8,AA t % 8,unf (AA u),[],()),a,A0 (A0 a t).toNat u,BI u&&AX (AA t / 8,AA t % 8,unf (AA u),[],()))
def J7:Gm
 | [.i .i64 n],[]=>.need (decide (0<=n/\n<=1000000000000)) (.leaf (.i .i64 (unf n),[]))
 | _,_=>.no
def Hl:Gm
 | [.agg [.i .i64 f0,.i .i64 f1,.i .i64 f2,.s f3]],[]=>.leaf (.b (AX (f0,f1,f2,f3,())),[])
 | _,_=>.no
def tbG:Gm
 | [.s s,.i .i64 a],[]=>.need (decide (0<=a/\s.length<=4000000000/\a<=4000000000)) (.leaf (.tup [.s (Bb s a.toNat).1,.i .i64 (Bb s a.toNat).2.1,.b (Bb s a.toNat).2.2],[]))
 | _,_=>.no
def tfG:Gm
 | [.s s,.i .i64 a],[]=>.need (decide (0<=a/\s.length<=4000000000/\a<=4000000000)) (.leaf (.tup [.agg [.i .i64 (AZ s a.toNat).1.1,.i .i64 (AZ s a.toNat).1.2.1,.i .i64 (AZ s a.toNat).1.2.2.1,.s (AZ s a.toNat).1.2.2.2.1,.i .i64 (AZ s a.toNat).2.1],.i .i64 (AZ s a.toNat).2.2.1,.b (AZ s a.toNat).2.2.2],[]))
 | _,_=>.no
theorem UQ (n:Int):Ax prog (Ab []) (Ab []) f216 [.j n] [] =
 ((ifB (n.tmod (2:Int)==(1:Int)) (some (V.j (i64.wrap ((i64.wrap ((0:Int)-i64.wrap (n+(1:Int)))).tdiv (2:Int))),[])) (some (V.i
 .i64 (i64.wrap (n.tdiv (2:Int))),[]))):_):=by kernel_rfl
theorem X6 (n:Int) (hc:0<=n/\n<=1000000000000):Ax prog (Ab []) (Ab []) f216 [.j n] []=(.leaf (.j (unf n),[]):Br (V×List (Option Blk))).run:=by
 rw [UQ]
 unfold unf
 have h1:tmod n 2=n % 2:=Int.tmod_eq_emod_of_nonneg hc.1
 have h2:tdiv n 2=n / 2:=Int.tdiv_eq_ediv_of_nonneg hc.1
 have h3:i64.wrap (n+1)=n+1:=Aw (by omega) (by omega)
 have h4:i64.wrap (0-(n+1)) = -(n+1):=by rw [Aw (by omega) (by omega)]; omega
 have h5:tdiv (-(n+1)) 2 = -((n+1) / 2):=by rw [Int.neg_tdiv,Int.tdiv_eq_ediv_of_nonneg (by omega)]
 rw [h1,h2,h3,h4,h5]
 rw [Aw (n:=n / 2) (by omega) (by omega),Aw (n:=-((n+1) / 2)) (by omega) (by omega)]
 by_cases q:n % 2=1
 ·rw [Ag (by simpa using q),if_pos q]; rfl
 ·rw [Ac (by simpa using q),if_neg q]; rfl
theorem Aeq:Af prog 216 (Ent.rd1 J7).F:=by
 refine Ae KnowsL.nil.knows (Λ:=Ab []) func216 (c:=f216.body.getD .skip) (by kernel_rfl) fun vs bs r' hq hv hb=>?_
 unfold Ent.F J7 at hq
 dsimp only at hq
 split at hq
 ·rename_i n
  obtain ⟨hc,hx⟩:=Ad hq
  exact ⟨Ak _,(X6 n (of_decide_eq_true hc)).trans hx⟩
 ·cases hq
theorem Uk (n:Int):Ax prog (Ab []) (Ab []) f202 [.j n] [] =
 ((ifB (n.tmod (2:Int)==(0:Int)) (some (V.j (i64.wrap (n.tdiv (2:Int))),[])) (some (V.j (i64.wrap ((i64.wrap ((0:Int) -
 i64.wrap (n+(1:Int)))).tdiv (2:Int))),[]))):_):=by kernel_rfl
theorem Wn (n:Int) (hc:0<=n/\n<=1000000000000):Ax prog (Ab []) (Ab []) f202 [.j n] []=(.leaf (.j (unf n),[]):Br (V×List (Option Blk))).run:=by
 rw [Uk]
 unfold unf
 have h1:tmod n 2=n % 2:=Int.tmod_eq_emod_of_nonneg hc.1
 have h2:tdiv n 2=n / 2:=Int.tdiv_eq_ediv_of_nonneg hc.1
 have h3:i64.wrap (n+1)=n+1:=Aw (by omega) (by omega)
 have h4:i64.wrap (0-(n+1)) = -(n+1):=by rw [Aw (by omega) (by omega)]; omega
 have h5:tdiv (-(n+1)) 2 = -((n+1) / 2):=by rw [Int.neg_tdiv,Int.tdiv_eq_ediv_of_nonneg (by omega)]
 rw [h1,h2,h3,h4,h5]
 rw [Aw (n:=n / 2) (by omega) (by omega),Aw (n:=-((n+1) / 2)) (by omega) (by omega)]
 by_cases q:n % 2=1
 ·rw [Ac (by rw [q]; rfl),if_pos q]; rfl
 ·rw [Ag (by rw [show n % 2=0 by omega]; rfl),if_neg q]; rfl
theorem Adt:Af prog 202 (Ent.rd1 J7).F:=by
 refine Ae KnowsL.nil.knows (Λ:=Ab []) func202 (c:=f202.body.getD .skip) (by kernel_rfl) fun vs bs r' hq hv hb=>?_
 unfold Ent.F J7 at hq
 dsimp only at hq
 split at hq
 ·rename_i n
  obtain ⟨hc,hx⟩:=Ad hq
  exact ⟨Ak _,(Wn n (of_decide_eq_true hc)).trans hx⟩
 ·cases hq
theorem Qf (f0 f1 f2:Int) (f3:List UInt8):Ax prog (Ab [(125,.rd1 A3),(218,.rd1 Fq)]) (Ab []) f231 [.agg [.j f0,.j f1,.j f2,.s f3]] [] =
 ((ifB (!decide ((1:Int)<=f0/\f0<=(30:Int))) (some (V.b false,[])) (ifB (f1==(0:Int)) (ifB (Dy f2) (some (V.b (f3==Aj UInt8),[])) (some (V.b false,[])))
 (ifB (f1==(2:Int)) (some (V.b (f2==(0:Int)),[])) (some (V.b false,[]))))):_):=by kernel_rfl
theorem S1 (f0 f1 f2:Int) (f3:List UInt8):Ax prog (Ab [(125,.rd1 A3),(218,.rd1 Fq)]) (Ab []) f231 [.agg [.j f0,.j f1,.j f2,.s f3]] []=(.leaf (.b (AX (f0,f1,f2,f3,())),[]):Br (V×List (Option Blk))).run:=by
 rw [Qf]
 unfold AX
 dsimp only
 have d1:decide (1<=f0/\f0<=30)=(decide (1<=f0)&&decide (f0<=30)):=Bool.decide_and ..
 rw [d1]
 cases hA:(decide (1<=f0)&&decide (f0<=30)) with
 | false=>rfl
 | true=>
  rw [Bool.not_true,AS]
  by_cases q:f1=0
  ·rw [Ag (by simpa using q),if_pos q]
   cases Dy f2<;>rfl
  ·rw [Ac (by simpa using q),if_neg q]
   by_cases q2:f1=2
   ·rw [Ag (by simpa using q2),if_pos q2]; rfl
   ·rw [Ac (by simpa using q2),if_neg q2]; rfl
theorem Acw:Af prog 231 (Ent.rd1 Hl).F:=by
 refine Ae (kc func125 Dl (kc func218 Xe KnowsL.nil)).knows (Λ:=Ab []) func231 (c:=f231.body.getD .skip) (by kernel_rfl) fun vs bs r' hq hv hb=>?_
 unfold Ent.F Hl at hq
 dsimp only at hq
 split at hq
 ·rename_i f0 f1 f2 f3
  exact ⟨Ak _,(S1 f0 f1 f2 f3).trans hq⟩
 ·cases hq
theorem Pn (f0 f1 f2:Int) (f3:List UInt8):Ax prog (Ab [(115,.rd1 A3),(196,.rd1 Fq)]) (Ab []) f203 [.agg [.j f0,.j f1,.j f2,.s f3]] [] =
 ((ifB (!decide ((1:Int)<=f0/\f0<=(30:Int))) (some (V.b false,[])) (ifB (f1==(0:Int)) (ifB (Dy f2) (some (V.b (f3==Aj UInt8),[])) (some (V.b false,[])))
 (ifB (f1==(2:Int)) (some (V.b (f2==(0:Int)),[])) (some (V.b false,[]))))):_):=by kernel_rfl
theorem RD (f0 f1 f2:Int) (f3:List UInt8):Ax prog (Ab [(115,.rd1 A3),(196,.rd1 Fq)]) (Ab []) f203 [.agg [.j f0,.j f1,.j f2,.s f3]] []=(.leaf (.b (AX (f0,f1,f2,f3,())),[]):Br (V×List (Option Blk))).run:=by
 rw [Pn]
 unfold AX
 dsimp only
 have d1:decide (1<=f0/\f0<=30)=(decide (1<=f0)&&decide (f0<=30)):=Bool.decide_and ..
 rw [d1]
 cases hA:(decide (1<=f0)&&decide (f0<=30)) with
 | false=>rfl
 | true=>
  rw [Bool.not_true,AS]
  by_cases q:f1=0
  ·rw [Ag (by simpa using q),if_pos q]
   cases Dy f2<;>rfl
  ·rw [Ac (by simpa using q),if_neg q]
   by_cases q2:f1=2
   ·rw [Ag (by simpa using q2),if_pos q2]; rfl
   ·rw [Ac (by simpa using q2),if_neg q2]; rfl
theorem Abl:Af prog 203 (Ent.rd1 Hl).F:=by
 refine Ae (kc func115 JD (kc func196 Xv KnowsL.nil)).knows (Λ:=Ab []) func203 (c:=f203.body.getD .skip) (by kernel_rfl) fun vs bs r' hq hv hb=>?_
 unfold Ent.F Hl at hq
 dsimp only at hq
 split at hq
 ·rename_i f0 f1 f2 f3
  exact ⟨Ak _,(RD f0 f1 f2 f3).trans hq⟩
 ·cases hq
theorem Eo (s:List UInt8) (a:Nat):(0<=AA (Ah s a)/\AA (Ah s a)<=34359738368)/\0<=A0 a (Ah s a)/\A0 a (Ah s a)<=s.length:=by
 cases e:Ah s a with
 | none=>exact ⟨⟨by decide,by decide⟩,Int.le_refl 0,Int.natCast_nonneg _⟩
 | some x=>
  obtain ⟨n,k,ok⟩:=x
  obtain ⟨h1,h2,h3,h4⟩:=Ke e
  dsimp only at h1 h2 h3 h4
  refine ⟨⟨?_,?_⟩,?_,?_⟩
  ·show (0:Int)<=(n:Int); omega
  ·show (n:Int)<=34359738368; omega
  ·show (0:Int)<=((a+k:Nat):Int); omega
  ·show ((a+k:Nat):Int)<=(s.length:Int); omega
theorem EC {s:List UInt8} {a:Nat} (h:BI (Ah s a)=true):(a:Int)<A0 a (Ah s a)/\A0 a (Ah s a)<=s.length:=by
 refine ⟨?_,(Eo s a).2.2⟩
 cases e:Ah s a with
 | none=>rw [e] at h; cases h
 | some x=>
  obtain ⟨n,k,ok⟩:=x
  obtain ⟨h1,h2,h3,h4⟩:=Ke e
  show (a:Int)<((a+k:Nat):Int)
  dsimp only at h2
  omega
theorem X9 (s:List UInt8) (a:Int):Ax prog (Ab [(215,.rd1 Rd)]) (Ab []) f217 [.s s,.j a] [] =
 ((ifT (decide ((0:Int)<=a/\s.length<=4000000000/\a<=(4000000000:Int))) (ifB (!BI (Ah s a.toNat)) (some (V.tup [V.s (Aj UInt8),V.j 0,V.b false],
 [])) (ifB (decide (AA (Ah s a.toNat)>i64.wrap ((↑s.length:Int)-A0 a.toNat (Ah s a.toNat)))) (some (V.tup [V.s (Aj UInt8),V.j 0,V.b false],
 [])) (ifT (decide ((0:Int)<=A0 a.toNat (Ah s a.toNat))&&decide (A0 a.toNat (Ah s a.toNat)<=i64.wrap (A0 a.toNat (Ah s a.toNat)+AA (Ah s
 a.toNat)))&&decide (i64.wrap (A0 a.toNat (Ah s a.toNat)+AA (Ah s a.toNat))<=(↑s.length:Int))) (some (V.tup [V.s (take ((i64.wrap (A0
 a.toNat (Ah s a.toNat)+AA (Ah s a.toNat))).toNat-(A0 a.toNat (Ah s a.toNat)).toNat) (drop (A0 a.toNat (Ah s a.toNat)).toNat s)),V.i .i64
 (i64.wrap (A0 a.toNat (Ah s a.toNat)+AA (Ah s a.toNat))),V.b true],[])))))):_):=by kernel_rfl
theorem Z1 (s:List UInt8) (a:Int) (hc:0<=a/\s.length<=4000000000/\a<=4000000000):Ax prog (Ab [(215,.rd1 Rd)]) (Ab []) f217 [.s s,.j a] []=(.leaf (.tup [.s (Bb s a.toNat).1,.j (Bb s a.toNat).2.1,.b (Bb s a.toNat).2.2],[]):Br (V×List (Option Blk))).run:=by
 rw [X9]
 obtain ⟨h1,h2,h3⟩:=hc
 obtain ⟨a,rfl⟩:=eq_ofNat_of_zero_le h1
 simp only [ntN]
 obtain ⟨⟨u1,u2⟩,u3,u4⟩:=Eo s a
 rw [Aa (dcT ⟨h1,h2,h3⟩)]
 unfold Bb
 dsimp only
 have w1:i64.wrap ((s.length:Int)-A0 a (Ah s a))=(s.length:Int)-A0 a (Ah s a):=Aw (by omega) (by omega)
 have w2:i64.wrap (A0 a (Ah s a)+AA (Ah s a))=A0 a (Ah s a)+AA (Ah s a):=Aw (by omega) (by omega)
 simp only [w1,w2]
 cases hk:BI (Ah s a) with
 | false=>rw [Bool.not_false,Be,if_neg (fun h=>by cases h.1)]; rfl
 | true=>
  rw [Bool.not_true,AS]
  by_cases q:AA (Ah s a)<=s.length-A0 a (Ah s a)
  ·rw [Ac (dcF (by omega)),if_pos ⟨rfl,q⟩,Aa (by simp only [anE,dcE]; omega)]
   have e:(A0 a (Ah s a)+AA (Ah s a)).toNat-(A0 a (Ah s a)).toNat=(AA (Ah s a)).toNat:=by omega
   rw [e]; rfl
  ·rw [Ag (dcT (by omega)),if_neg (fun h=>q h.2)]; rfl
theorem itb:Af prog 217 (Ent.rd1 tbG).F:=by
 refine Ae (kc func215 tvi KnowsL.nil).knows (Λ:=Ab []) func217 (c:=f217.body.getD .skip) (by kernel_rfl) fun vs bs r' hq hv hb=>?_
 unfold Ent.F tbG at hq
 dsimp only at hq
 split at hq
 ·rename_i s a
  obtain ⟨hc,hx⟩:=Ad hq
  exact ⟨Ak _,(Z1 s a (of_decide_eq_true hc)).trans hx⟩
 ·cases hq
theorem X8 (s:List UInt8) (a:Int):Ax prog (Ab [(215,.rd1 Rd),(217,.rd1 tbG),(216,.rd1 J7),(231,.rd1 Hl)]) (Ab []) f222 [.s s,.j a] [] =
 ((ifT (decide ((0:Int)<=a/\s.length<=4000000000/\a<=(4000000000:Int))) (ifB (!BI (Ah s a.toNat)) (some (V.tup [V.agg [V.j 0,V.j 0,V.i .i64
 0,V.s (Aj UInt8),V.j 0],V.j 0,V.b false],[])) (ifB ((AA (Ah s a.toNat)).tmod (8:Int)==(2:Int)) (ifT (decide ((0:Int)<=A0 a.toNat (Ah s
 a.toNat)/\s.length<=4000000000/\A0 a.toNat (Ah s a.toNat)<=(4000000000:Int))) (ifB (Bb s (A0 a.toNat (Ah s a.toNat)).toNat).snd.snd (some (V.tup
 [V.agg [V.j (i64.wrap ((AA (Ah s a.toNat)).tdiv (8:Int))),V.j ((AA (Ah s a.toNat)).tmod (8:Int)),V.j 0,V.s (Bb s (A0 a.toNat
 (Ah s a.toNat)).toNat).fst,V.j a],V.j (Bb s (A0 a.toNat (Ah s a.toNat)).toNat).snd.fst,V.b (AX (i64.wrap ((AA (Ah s a.toNat)).tdiv (8
 : Int)),(AA (Ah s a.toNat)).tmod (8:Int),(0:Int),(Bb s (A0 a.toNat (Ah s a.toNat)).toNat).fst,()))],[])) (some (V.tup [V.agg [V.i .i64
 (i64.wrap ((AA (Ah s a.toNat)).tdiv (8:Int))),V.j ((AA (Ah s a.toNat)).tmod (8:Int)),V.j 0,V.s (Bb s (A0 a.toNat (Ah s
 a.toNat)).toNat).fst,V.j a],V.j (Bb s (A0 a.toNat (Ah s a.toNat)).toNat).snd.fst,V.b false],[])))) (ifT (decide ((0:Int)<=A0 a.toNat (Ah s
 a.toNat)/\s.length<=4000000000/\A0 a.toNat (Ah s a.toNat)<=(4000000000:Int))) (ifT (decide ((0:Int)<=AA (Ah s (A0 a.toNat (Ah s
 a.toNat)).toNat)/\AA (Ah s (A0 a.toNat (Ah s a.toNat)).toNat)<=(1000000000000:Int))) (ifB (BI (Ah s (A0 a.toNat (Ah s a.toNat)).toNat)) (some (V.tup
 [V.agg [V.j (i64.wrap ((AA (Ah s a.toNat)).tdiv (8:Int))),V.j ((AA (Ah s a.toNat)).tmod (8:Int)),V.j (unf (AA (Ah s (A0 a.toNat
 (Ah s a.toNat)).toNat))),V.s (Aj UInt8),V.j a],V.j (A0 (A0 a.toNat (Ah s a.toNat)).toNat (Ah s (A0 a.toNat (Ah s a.toNat)).toNat)),V.b
 (AX (i64.wrap ((AA (Ah s a.toNat)).tdiv (8:Int)),(AA (Ah s a.toNat)).tmod (8:Int),unf (AA (Ah s (A0 a.toNat (Ah s a.toNat)).toNat)),
 Aj UInt8,()))],[])) (some (V.tup [V.agg [V.j (i64.wrap ((AA (Ah s a.toNat)).tdiv (8:Int))),V.j ((AA (Ah s a.toNat)).tmod (8:Int)),V.i
 .i64 (unf (AA (Ah s (A0 a.toNat (Ah s a.toNat)).toNat))),V.s (Aj UInt8),V.j a],V.j (A0 (A0 a.toNat (Ah s a.toNat)).toNat (Ah s (A0
 a.toNat (Ah s a.toNat)).toNat)),V.b false],[])))))))):_):=by kernel_rfl
theorem Z0 (s:List UInt8) (a:Int) (hc:0<=a/\s.length<=4000000000/\a<=4000000000):Ax prog (Ab [(215,.rd1 Rd),(217,.rd1 tbG),(216,.rd1 J7),(231,.rd1 Hl)]) (Ab []) f222 [.s s,.j a] []=(.leaf (.tup [.agg [.j (AZ s a.toNat).1.1,.j (AZ s a.toNat).1.2.1,.j (AZ s a.toNat).1.2.2.1,.s (AZ s a.toNat).1.2.2.2.1,.j (AZ s a.toNat).2.1],.j (AZ s a.toNat).2.2.1,.b (AZ s a.toNat).2.2.2],[]):Br (V×List (Option Blk))).run:=by
 rw [X8]
 obtain ⟨h1,h2,h3⟩:=hc
 obtain ⟨a,rfl⟩:=eq_ofNat_of_zero_le h1
 simp only [ntN]
 obtain ⟨⟨u1,u2⟩,u3,u4⟩:=Eo s a
 obtain ⟨⟨v1,v2⟩,v3,v4⟩:=Eo s (A0 a (Ah s a)).toNat
 have e1:tdiv (AA (Ah s a)) 8=AA (Ah s a) / 8:=Int.tdiv_eq_ediv_of_nonneg u1
 have e2:tmod (AA (Ah s a)) 8=AA (Ah s a) % 8:=Int.tmod_eq_emod_of_nonneg u1
 have e3:i64.wrap (AA (Ah s a) / 8)=AA (Ah s a) / 8:=Aw (by omega) (by omega)
 rw [Aa (dcT ⟨h1,h2,h3⟩)]
 simp only [e1,e2,e3]
 unfold AZ
 dsimp only
 cases hk:BI (Ah s a) with
 | false=>rw [Bool.not_false,Be,if_pos rfl]; rfl
 | true=>
  rw [Bool.not_true,AS,if_neg (by simp)]
  have hd:decide (0<=A0 a (Ah s a)/\s.length<=4000000000/\A0 a (Ah s a)<=4000000000)=true:=dcT ⟨u3,h2,by omega⟩
  by_cases q:AA (Ah s a) % 8=2
  ·rw [Ag (by simpa using q),if_pos q,q,hd,Dc]
   cases hb:(Bb s (A0 a (Ah s a)).toNat).2.2<;>rfl
  ·rw [Ac (by simpa using q),if_neg q,hd,Dc,Aa (dcT ⟨v1,by omega⟩)]
   cases hb:BI (Ah s (A0 a (Ah s a)).toNat)<;>rfl
theorem itf:Af prog 222 (Ent.rd1 tfG).F:=by
 refine Ae (kc func215 tvi (kc func217 itb (kc func216 Aeq (kc func231 Acw KnowsL.nil)))).knows (Λ:=Ab []) func222 (c:=f222.body.getD .skip) (by kernel_rfl) fun vs bs r' hq hv hb=>?_
 unfold Ent.F tfG at hq
 dsimp only at hq
 split at hq
 ·rename_i s a
  obtain ⟨hc,hx⟩:=Ad hq
  exact ⟨Ak _,(Z0 s a (of_decide_eq_true hc)).trans hx⟩
 ·cases hq
theorem M5 {s:List UInt8} {a:Nat} (h:(AZ s a).2.2.2=true):AX (AZ s a).1=true/\(a:Int)<(AZ s a).2.2.1/\(AZ s a).2.2.1<=s.length/\(AZ s a).2.1=a:=by
 have ha : ∀ {x:Int},(0:Int)<=x->((x.toNat:Nat):Int)=x:=fun h=>by omega
 unfold AZ at h ⊢
 dsimp only at h ⊢
 cases hk:BI (Ah s a) with
 | false=>rw [hk] at h; cases h
 | true=>
  have t1:=EC hk
  have t2:=ha (x:=A0 a (Ah s a)) (by omega)
  rw [hk,if_neg (by simp)] at h
  rw [if_neg (by simp)]
  by_cases q:AA (Ah s a) % 8=2
  ·rw [if_pos q] at h ⊢
   dsimp only at h ⊢
   rw [anE] at h
   refine ⟨h.2,?_⟩
   have h:=h.1
   unfold Bb at h ⊢
   dsimp only at h ⊢
   split at h
   ·rename_i hh
    rw [if_pos hh]
    have u:=EC hh.1
    have v:=(Eo s (A0 a (Ah s a)).toNat).1.1
    dsimp only
    exact ⟨by omega,by omega,rfl⟩
   ·cases h
  ·rw [if_neg q] at h ⊢
   dsimp only at h ⊢
   rw [anE] at h
   have u:=EC h.1
   exact ⟨h.2,by omega,u.2,rfl⟩
def rdL (s:List UInt8):Nat->Nat->List Pl->Option (List Pl)
 | 0,a,o=>if a<s.length then none else some o
 | f+1,a,o=>if a<s.length then (if (AZ s a).2.2.2=true/\o.length≠40 then rdL s f (AZ s a).2.2.1.toNat (o++[((AZ s a).1,(a:Int),())]) else none) else some o
def rdP (s:List UInt8):Option (List Pl):=if s.length<=400 then rdL s s.length 0 [] else none
def U0:Gm
 | [.s s],[]=>.need (decide (s.length<=4000000000)) (.leaf (.tup [.ref 0 0 ((rdP s).getD []).length,.b (rdP s).isSome],[some (.row false none PCd ((rdP s).getD []))]))
 | _,_=>.no
def Pv:LoopEnt:=⟨37,[0,4,5],[4],[2,3],fun
 | ([.s s,.ref 0 0 n,.i .i64 a],[some (.row false none PCd o)])=>.need (decide (0<=a/\a.toNat<=s.length/\s.length<=400/\n=o.length/\o.length<=a.toNat)) (.br (rdL s (s.length-a.toNat) a.toNat o).isSome (.leaf (.exit 0,([.ref 0 0 ((rdL s (s.length-a.toNat) a.toNat o).getD []).length],[some (.row false none PCd ((rdL s (s.length-a.toNat) a.toNat o).getD []))]))) (.leaf (.ret,([.ref 0 0 0,.b false],[some (.row false none PCd [])]))))
 | _=>.no⟩
theorem ML (s:List UInt8) (n:Nat) (a:Int) (o:List Pl):Av prog (Ab [(222,.rd1 tfG)]) (Ab [(5,Pv)]) 0 (body f188 0) Pv ([.s s,.ref 0 0 n,.j a],[some (.row false none PCd o)]) =
 ((ifB (decide (a<(↑s.length:Int))) (ifT (decide ((0:Int)<=a/\s.length<=4000000000/\a<=(4000000000:Int))) (ifB (!(AZ s a.toNat).snd.snd.snd) (some
 (Ex.ret,[V.ref 0 0 0,V.b false],[some (Blk.row false none PCd (Aj PCd.den))])) (ifB ((↑n:Int)==(40:Int)) (some (Ex.ret,[V.ref 0 0 0,V.b false],[some
 (Blk.row false none PCd (Aj PCd.den))])) (ifT (decide ((n+1)*48<=140737488355328)&&decide (n+1<=maxI)) (some (Ex.normal,[V.s
 s,V.ref 0 0 (n+1),V.j (AZ s a.toNat).snd.snd.fst],[some (Blk.row false none PCd (take n (drop 0 o)++(((AZ s a.toNat).fst.fst,
 (AZ s a.toNat).fst.snd.fst,(AZ s a.toNat).fst.snd.snd.fst,(AZ s a.toNat).fst.snd.snd.snd.fst,()),(AZ s a.toNat).snd.fst,())::Aj PCd.den))])))))) (some
 (Ex.exit 0,[V.ref 0 0 n],[some (Blk.row false none PCd o)]))):_):=by kernel_rfl
theorem WI (s:List UInt8):Df prog (Ab [(222,.rd1 tfG)]) (Ab [(5,Pv)]) f188 [.s s] [] =
 ((ifB (decide ((↑s.length:Int)>(400:Int))) (some (V.tup [V.ref 0 0 0,V.b false],[some (Blk.row false none PCd (Aj PCd.den))])) (ifT (decide ((0:Int)<=(0:Int)
 /\ 0<=s.length/\s.length<=400/\0=0/\0<=0)) (ifB (rdL s (s.length-0) 0 (Aj PCd.den)).isSome
 (some (V.tup [V.ref 0 0 ((rdL s (s.length-0) 0 (Aj PCd.den)).getD (Aj Pl)).length,V.b true],[some (Blk.row false none PCd ((rdL s (s.length-(0 :
 Nat)) 0 (Aj PCd.den)).getD (Aj Pl)))])) (some (V.tup [V.ref 0 0 0,V.b false],[some (Blk.row false none PCd (Aj PCd.den))]))))):_):=by kernel_rfl
theorem Pw (s:List UInt8) : ∀ (f f' a:Nat) (o:List Pl),s.length-a<=f->s.length-a<=f'->rdL s f a o=rdL s f' a o:=by
 intro f
 induction f with
 | zero=>
  intro f' a o h1 h2
  cases f' with
  | zero=>rfl
  | succ f'=>rw [rdL,rdL,if_neg (by omega),if_neg (by omega)]
 | succ f ih=>
  intro f' a o h1 h2
  cases f' with
  | zero=>rw [rdL,rdL,if_neg (by omega),if_neg (by omega)]
  | succ f'=>
   rw [rdL,rdL]
   by_cases q:a<s.length
   ·rw [if_pos q,if_pos q]
    by_cases q2:(AZ s a).2.2.2=true/\o.length≠40
    ·rw [if_pos q2,if_pos q2]
     have:=M5 q2.1
     exact ih f' _ _ (by omega) (by omega)
    ·rw [if_neg q2,if_neg q2]
   ·rw [if_neg q,if_neg q]
theorem WO {s:List UInt8} {a:Nat} {o:List Pl} (h:a<s.length) (h1:(AZ s a).2.2.2=true) (h2:o.length≠40):rdL s (s.length-a) a o=rdL s (s.length-(AZ s a).2.2.1.toNat) (AZ s a).2.2.1.toNat (o++[((AZ s a).1,(a:Int),())]):=by
 have e:s.length-a=(s.length-a-1)+1:=by omega
 have ht:=M5 h1
 rw [e,rdL,if_pos h,if_pos ⟨h1,h2⟩]
 exact Pw s _ _ _ _ (by omega) (by omega)
theorem Tl {s:List UInt8} {a:Nat} {o:List Pl} (h:a<s.length) (h1:(AZ s a).2.2.2=false\/o.length=40):rdL s (s.length-a) a o=none:=by
 have e:s.length-a=(s.length-a-1)+1:=by omega
 rw [e,rdL,if_pos h,if_neg]
 rintro ⟨h2,h3⟩
 rcases h1 with h1 | h1
 ·rw [h1] at h2; cases h2
 ·exact h3 h1
theorem Tk {s:List UInt8} {a:Nat} {o:List Pl} (h:s.length<=a):rdL s (s.length-a) a o=some o:=by
 have e:s.length-a=0:=by omega
 rw [e,rdL,if_neg (by omega)]
theorem WJ (s:List UInt8) (hs:s.length<=400) : ∀ (j a:Nat) (o:List Pl),s.length-a<=j->a<=s.length->o.length<=a->∀ ex d,(Br.br (rdL s (s.length-a) a o).isSome (.leaf (.exit 0,([.ref 0 0 ((rdL s (s.length-a) a o).getD []).length],[some (.row false none PCd ((rdL s (s.length-a) a o).getD []))]))) (.leaf (.ret,([.ref 0 0 0,.b false],[some (.row false none PCd [])]))):Br (Ex×Dt)).run=some (ex,d)->
  Runs prog (Ab [(222,.rd1 tfG)]) (Ab [(5,Pv)]) 0 (body f188 0) Pv ([.s s,.ref 0 0 o.length,.j (a:Int)],[some (.row false none PCd o)]) ex d:=by
 intro j
 induction j with
 | zero=>
  intro a o hj ha ho ex d h
  have hr:=ML s o.length a o
  rw [Ac (dcF (by omega))] at hr
  rw [Tk (by omega)] at h
  have h8:=Ao (show (Br.leaf (.exit 0,([.ref 0 0 o.length],[some (.row false none PCd o)])):Br (Ex×Dt)).run=some (ex,d) from h)
  obtain ⟨rfl,rfl⟩:=Prod.mk.inj h8
  exact .stop _ _ _ hr (by simp)
 | succ j ih=>
  intro a o hj ha ho ex d h
  have hr:=ML s o.length a o
  have hM:maxI=9223372036854775807:=rfl
  by_cases q:a<s.length
  ·rw [Ag (dcT (by omega)),Aa (dcT (by omega)),ntN] at hr
   cases hk:(AZ s a).2.2.2 with
   | false=>
    rw [hk,Bool.not_false,Be] at hr
    rw [Tl q (.inl hk)] at h
    have h8:=Ao (show (Br.leaf (.ret,([.ref 0 0 0,.b false],[some (.row false none PCd [])])):Br (Ex×Dt)).run=some (ex,d) from h)
    obtain ⟨rfl,rfl⟩:=Prod.mk.inj h8
    exact .stop _ _ _ hr (by simp)
   | true=>
    obtain ⟨t1,t2,t3,t4⟩:=M5 hk
    rw [hk,Bool.not_true,AS] at hr
    by_cases q2:o.length=40
    ·rw [Ag (by rw [q2]; rfl)] at hr
     rw [Tl q (.inr q2)] at h
     have h8:=Ao (show (Br.leaf (.ret,([.ref 0 0 0,.b false],[some (.row false none PCd [])])):Br (Ex×Dt)).run=some (ex,d) from h)
     obtain ⟨rfl,rfl⟩:=Prod.mk.inj h8
     exact .stop _ _ _ hr (by simp)
    ·rw [Ac (by simpa using fun e=>q2 (by omega)),Aa (by simp only [anE,dcE]; omega),drop_zero,take_length,t4] at hr
     rw [WO q hk q2] at h
     obtain ⟨b,hb⟩:=eq_ofNat_of_zero_le (a:=(AZ s a).2.2.1) (by omega)
     rw [hb] at hr h t2 t3
     rw [ntN] at h
     have:=ih b (o++[((AZ s a).1,(a:Int),())]) (by omega) (by omega) (by simp; omega) ex d h
     rw [length_append] at this
     exact .step _ _ _ _ hr this
  ·rw [Ac (dcF (by omega))] at hr
   rw [Tk (by omega)] at h
   have h8:=Ao (show (Br.leaf (.exit 0,([.ref 0 0 o.length],[some (.row false none PCd o)])):Br (Ex×Dt)).run=some (ex,d) from h)
   obtain ⟨rfl,rfl⟩:=Prod.mk.inj h8
   exact .stop _ _ _ hr (by simp)
theorem Abr:Ar prog (Ab [(222,.rd1 tfG)]) (Ab [(5,Pv)]) 0 (f188.body.getD .skip):=by
 refine An (a:=body f188 0) (by kernel_rfl) fun d ex d' h=>?_
 unfold Pv at h
 dsimp only at h
 split at h
 ·rename_i s n a o
  obtain ⟨hc,hx⟩:=Ad h
  clear h
  obtain ⟨h0,h1,h2,rfl,h4⟩:=of_decide_eq_true hc
  obtain ⟨a,rfl⟩:=eq_ofNat_of_zero_le h0
  simp only [ntN] at h1 h4 hx
  exact WJ s h2 _ a o (Nat.le_refl _) h1 h4 ex d' hx
 ·cases h
theorem rdp:Af prog 188 (Ent.rd1 U0).F:=by
 refine A8 (kc func222 itf KnowsL.nil).knows (Λ:=(Ab [(5,Pv)])) func188 (c:=f188.body.getD .skip) (by kernel_rfl) fun vs bs r hq hv hb=>?_
 unfold Ent.F U0 at hq
 dsimp only at hq
 split at hq
 ·rename_i s
  obtain ⟨hc,hx⟩:=Ad hq
  refine ⟨Abr,Eq.trans ?_ hx⟩
  rw [WI]
  unfold rdP
  by_cases q:s.length<=400
  ·rw [Ac (dcF (by omega)),if_pos q,Aa (dcT ⟨by omega,by omega,q,rfl,by omega⟩),sub_zero]
   simp only [AN]
   cases rdL s s.length 0 []<;>rfl
  ·rw [Ag (dcT (by omega)),if_neg q]; rfl
 ·cases hq
def CS (ns:List Int) (i:Nat):Bool:=i==0||decide (ns.getD (i-1) 0<ns.getD i 0)
def Pt (ns:List Int):Bool:=(range ns.length).all (CS ns)
def Iw (l:List Pl):List Int:=l.map fun x=>x.1.1
def Ed (l:List WFd):List Int:=l.map fun x=>x.1
def CL (s:List UInt8):Option (List Pl):=match rdP s with | some l=>(if Pt (Iw l)=true then some l else none) | none=>none
def Pu:LoopEnt:=⟨39,[4,15,16],[4],[2,3],fun
 | ([.ref 0 0 m,.i .i64 k,.i .i64 i],[some (.row false none PCd o)])=>.need (decide (0<=i/\i.toNat<=o.length/\m=o.length/\k=o.length/\o.length<=4000000000)) (.br (((range o.length).drop i.toNat).all (CS (Iw o))) (.leaf (.exit 0,([.ref 0 0 o.length],[some (.row false none PCd o)]))) (.leaf (.ret,([.ref 0 0 0,.b false],[some (.row false none PCd [])]))))
 | _=>.no⟩
def WD:Gm
 | [.s s],[]=>.need (decide (s.length<=4000000000)) (.leaf (.tup [.ref 0 0 ((CL s).getD []).length,.b (CL s).isSome],[some (.row false none PCd ((CL s).getD []))]))
 | _,_=>.no
theorem MI (m:Nat) (k i:Int) (o:List Pl):Av prog (Ab [(188,.rd1 U0)]) (Ab [(5,Pu)]) 0 (body f150 0) Pu ([.ref 0 0 m,.j k,.j i],[some (.row false none PCd o)]) =
 ((ifB (decide (i<k)) (ifB (decide (i>(0:Int))) (ifT (decide ((0:Int)<=i64.wrap (i-(1:Int)))&&decide (i64.wrap (i-(1:Int))<(↑m:Int)))
 (Ai o[0+(i64.wrap (i-(1:Int))).toNat]? fun z=>ifT (decide ((0:Int)<=i)&&decide (i<(↑m:Int))) (Ai o[0+i.toNat]? fun z_1
 => ifB (decide (z.fst.fst>=z_1.fst.fst)) (some (Ex.ret,[V.ref 0 0 0,V.b false],[some (Blk.row false none PCd (Aj PCd.den))])) (some (Ex.normal,[V.ref 0 0 m,V.i
 .i64 k,V.j (i64.wrap (i+(1:Int)))],[some (Blk.row false none PCd o)]))))) (some (Ex.normal,[V.ref 0 0 m,V.j k,V.j (i64.wrap (i +
 (1:Int)))],[some (Blk.row false none PCd o)]))) (some (Ex.exit 0,[V.ref 0 0 m],[some (Blk.row false none PCd o)]))):_):=by kernel_rfl
theorem WB (s:List UInt8):Df prog (Ab [(188,.rd1 U0)]) (Ab [(5,Pu)]) f150 [.s s] [] =
 ((ifT (decide (s.length<=4000000000)) (ifB (!(rdP s).isSome) (some (V.tup [V.ref 0 0 0,V.b false],[some (Blk.row false none PCd (Aj PCd.den))])) (ifT (decide
 ((0:Int)<=(0:Int)/\0<=((rdP s).getD (Aj Pl)).length/\((rdP s).getD (Aj Pl)).length=((rdP s).getD (Aj Pl)).length/\(↑((rdP s).getD (Aj
 Pl)).length:Int)=(↑((rdP s).getD (Aj Pl)).length:Int)/\((rdP s).getD (Aj Pl)).length<=4000000000)) (ifB ((drop 0 (range ((rdP
 s).getD (Aj Pl)).length)).all (CS (Iw ((rdP s).getD (Aj Pl))))) (some (V.tup [V.ref 0 0 ((rdP s).getD (Aj Pl)).length,V.b true],[some (Blk.row false none PCd
 ((rdP s).getD (Aj Pl)))])) (some (V.tup [V.ref 0 0 0,V.b false],[some (Blk.row false none PCd (Aj PCd.den))])))))):_):=by kernel_rfl
theorem K8 (o:List Pl) (hm:o.length<=4000000000) : ∀ (j i:Nat),i+j=o.length->∀ ex d,(Br.br (((range o.length).drop i).all (CS (Iw o))) (.leaf (.exit 0,([.ref 0 0 o.length],[some (.row false none PCd o)]))) (.leaf (.ret,([.ref 0 0 0,.b false],[some (.row false none PCd [])]))):Br (Ex×Dt)).run=some (ex,d)->
  Runs prog (Ab [(188,.rd1 U0)]) (Ab [(5,Pu)]) 0 (body f150 0) Pu ([.ref 0 0 o.length,.j (o.length:Int),.j (i:Int)],[some (.row false none PCd o)]) ex d
 | 0,i,hi,ex,d,h=>by
  have hr:=MI o.length o.length i o
  rw [Ac (dcF (by omega))] at hr
  rw [drop_eq_nil_of_le (by simp; omega)] at h
  have h8:=Ao (show (Br.leaf (.exit 0,([.ref 0 0 o.length],[some (.row false none PCd o)])):Br (Ex×Dt)).run=some (ex,d) from h)
  obtain ⟨rfl,rfl⟩:=Prod.mk.inj h8
  exact .stop _ _ _ hr (by simp)
 | j+1,i,hi,ex,d,h=>by
  have hl:i<o.length:=by omega
  have hM:maxI=9223372036854775807:=rfl
  have hr:=MI o.length o.length i o
  have hd:(range o.length).drop i=i::(range o.length).drop (i+1):=by
   rw [drop_eq_getElem_cons (by simpa using hl)]
   simp
  rw [hd,all_cons] at h
  rw [Ag (dcT (by omega)),Ap (n:=i) (by omega)] at hr
  have gA : ∀ {x:Nat} (hx:x<o.length),(Iw o).getD x 0=o[x].1.1:=fun hx=>by unfold Iw; simp [hx]
  skip
  by_cases q0:i=0
  ·subst q0
   rw [Ac (dcF (by omega))] at hr
   have e0:CS (Iw o) 0=true:=rfl
   rw [e0,Bool.true_and] at h
   exact .step _ _ _ _ hr (K8 o hm j 1 (by omega) ex d h)
  ·have hw:i64.wrap ((i:Int)-1)=((i-1:Nat):Int):=by rw [Aw (by omega) (by omega)]; omega
   have hl1:i-1<o.length:=by omega
   rw [Ag (dcT (by omega)),hw,Aa (by simp only [anE,dcE]; omega),ntN,zero_add,gtE hl1,Am] at hr
   rw [Aa (by simp only [anE,dcE]; omega),ntN,zero_add,gtE hl,Am] at hr
   have er:CS (Iw o) i=decide (o[i-1].1.1<o[i].1.1):=by
    unfold CS
    rw [gA hl1,gA hl,beq_false_of_ne q0,Bool.false_or]
   rw [er] at h
   by_cases q:o[i-1].1.1<o[i].1.1
   ·rw [Ac (dcF (by omega))] at hr
    rw [dcT q,Bool.true_and] at h
    exact .step _ _ _ _ hr (K8 o hm j (i+1) (by omega) ex d h)
   ·rw [Ag (dcT (by omega))] at hr
    rw [dcF q,Bool.false_and] at h
    have h8:=Ao (show (Br.leaf (.ret,([.ref 0 0 0,.b false],[some (.row false none PCd [])])):Br (Ex×Dt)).run=some (ex,d) from h)
    obtain ⟨rfl,rfl⟩:=Prod.mk.inj h8
    exact .stop _ _ _ hr (by simp)
theorem Abq:Ar prog (Ab [(188,.rd1 U0)]) (Ab [(5,Pu)]) 0 (f150.body.getD .skip):=by
 refine An (a:=body f150 0) (by kernel_rfl) fun d ex d' h=>?_
 unfold Pu at h
 dsimp only at h
 split at h
 ·rename_i m k i o
  obtain ⟨hc,hx⟩:=Ad h
  clear h
  obtain ⟨h0,h1,rfl,rfl,h4⟩:=of_decide_eq_true hc
  obtain ⟨i,rfl⟩:=eq_ofNat_of_zero_le h0
  simp only [ntN] at h1 hx
  exact K8 o h4 (o.length-i) i (by omega) ex d' hx
 ·cases h
theorem Tj {s:List UInt8} : ∀ (f a:Nat) (o l:List Pl),o.length<=40->rdL s f a o=some l->l.length<=40
 | 0,a,o,l,h,e=>by
  rw [rdL] at e
  split at e
  ·cases e
  ·cases e; exact h
 | f+1,a,o,l,h,e=>by
  rw [rdL] at e
  split at e
  ·split at e
   ·rename_i h2
    exact Tj f _ _ l (by have:=h2.2; simp; omega) e
   ·cases e
  ·cases e; exact h
theorem Of {s:List UInt8} {l:List Pl} (h:rdP s=some l):l.length<=40/\s.length<=400:=by
 unfold rdP at h
 split at h
 ·rename_i h1
  exact ⟨Tj _ _ _ l (by simp) h,h1⟩
 ·cases h
theorem ris:Af prog 150 (Ent.rd1 WD).F:=by
 refine A8 (kc func188 rdp KnowsL.nil).knows (Λ:=(Ab [(5,Pu)])) func150 (c:=f150.body.getD .skip) (by kernel_rfl) fun vs bs r hq hv hb=>?_
 unfold Ent.F WD at hq
 dsimp only at hq
 split at hq
 ·rename_i s
  obtain ⟨hc,hx⟩:=Ad hq
  refine ⟨Abq,Eq.trans ?_ hx⟩
  rw [WB,Aa hc]
  unfold CL
  cases e:rdP s with
  | none=>rfl
  | some l=>
   have hl:=(Of e).1
   dsimp only [Option.isSome_some,Option.getD_some]
   rw [Bool.not_true,AS,Aa (dcT ⟨by omega,by omega,rfl,rfl,by omega⟩),drop_zero]
   unfold Pt
   rw [show (Iw l).length=l.length by unfold Iw; simp]
   cases (range l.length).all (CS (Iw l))<;>rfl
 ·cases hq
def rdF (s:List UInt8):Nat->Nat->List WFd->Option (List WFd)
 | 0,a,o=>if a<s.length then none else some o
 | f+1,a,o=>if a<s.length then (if (AZ s a).2.2.2=true/\o.length≠40 then rdF s f (AZ s a).2.2.1.toNat (o++[(AZ s a).1]) else none) else some o
def Da (s:List UInt8):Option (List WFd):=rdF s s.length 0 []
def KG (s:List UInt8):Option (List WFd):=if s.length<=400 then Da s else none
def GX (s:List UInt8):Option (List WFd):=match KG s with | some l=>(if Pt (Ed l)=true then some l else none) | none=>none
def J9:LoopEnt:=⟨76,[0,4,5],[4],[2,3],fun
 | ([.s s,.ref 0 0 n,.i .i64 a],[some (.row false none FCd o)])=>.need (decide (0<=a/\a.toNat<=s.length/\s.length<=4000000000/\n=o.length/\o.length<=a.toNat)) (.br (rdF s (s.length-a.toNat) a.toNat o).isSome (.leaf (.exit 0,([.ref 0 0 ((rdF s (s.length-a.toNat) a.toNat o).getD []).length],[some (.row false none FCd ((rdF s (s.length-a.toNat) a.toNat o).getD []))]))) (.leaf (.ret,([.ref 0 0 0,.b false],[some (.row false none FCd [])]))))
 | _=>.no⟩
def WN:Gm
 | [.s s],[]=>.need (decide (s.length<=4000000000)) (.leaf (.tup [.ref 0 0 ((Da s).getD []).length,.b (Da s).isSome],[some (.row false none FCd ((Da s).getD []))]))
 | _,_=>.no
abbrev VM:FuncId->Option Ent:=Ab [(201,.rd1 Rc),(202,.rd1 J7),(203,.rd1 Hl)]
theorem MM (s:List UInt8) (n:Nat) (a:Int) (o:List WFd):Av prog VM (Ab [(3,J9)]) 0 (body f167 0) J9 ([.s s,.ref 0 0 n,.j a],[some (.row false none FCd o)]) =
 ((shr (take n (drop 0 o)) fun sh3=>shr (take ((i64.wrap (AV (AV a.toNat (Ah s a.toNat)).toNat (Ah s (AV a.toNat (Ah s
 a.toNat)).toNat)+BT (Ah s (AV a.toNat (Ah s a.toNat)).toNat))).toNat-(AV (AV a.toNat (Ah s a.toNat)).toNat (Ah s (AV a.toNat (Ah s
 a.toNat)).toNat)).toNat) (drop (AV (AV a.toNat (Ah s a.toNat)).toNat (Ah s (AV a.toNat (Ah s a.toNat)).toNat)).toNat s)) fun sh2=>shr (Aj FCd.den)
 fun sh1=>ifB (decide (a<(↑s.length:Int))) (ifT (decide ((0:Int)<=a/\s.length<=4000000000/\a<=(4000000000:Int))) (ifB (!BI (Ah s a.toNat)) (some
 (Ex.ret,[V.ref 0 0 0,V.b false],[some (Blk.row false none FCd sh1)])) (ifT (decide ((0:Int)<=AV a.toNat (Ah s a.toNat)/\s.length<=4000000000/\AV
 a.toNat (Ah s a.toNat)<=(4000000000:Int))) (ifB (!BI (Ah s (AV a.toNat (Ah s a.toNat)).toNat)) (some (Ex.ret,[V.ref 0 0 0,V.b false],[some (Blk.row false
 none FCd sh1)])) (ifB ((BT (Ah s a.toNat)).tmod (8:Int)==(0:Int)) (ifT (decide ((0:Int)<=BT (Ah s (AV a.toNat (Ah s a.toNat)).toNat)/\BT (Ah s
 (AV a.toNat (Ah s a.toNat)).toNat)<=(1000000000000:Int))) (ifB (!AX (i64.wrap ((BT (Ah s a.toNat)).tdiv (8:Int)),(BT (Ah s a.toNat)).tmod (8
 : Int),unf (BT (Ah s (AV a.toNat (Ah s a.toNat)).toNat)),Aj UInt8,())) (some (Ex.ret,[V.ref 0 0 0,V.b false],[some (Blk.row false none FCd sh1)])) (ifB
 ((↑n:Int)==(40:Int)) (some (Ex.ret,[V.ref 0 0 0,V.b false],[some (Blk.row false none FCd sh1)])) (ifT (decide ((n+1)*40<=(140737488355328 :
 Nat))&&decide (n+1<=maxI)) (some (Ex.normal,[V.s s,V.ref 0 0 (n+1),V.j (AV (AV a.toNat (Ah s a.toNat)).toNat (Ah s (AV a.toNat
 (Ah s a.toNat)).toNat))],[some (Blk.row false none FCd (sh3++(i64.wrap ((BT (Ah s a.toNat)).tdiv (8:Int)),(BT (Ah s a.toNat)).tmod (8:Int),unf
 (BT (Ah s (AV a.toNat (Ah s a.toNat)).toNat)),Aj UInt8,())::sh1))])))))) (ifB (decide (BT (Ah s (AV a.toNat (Ah s a.toNat)).toNat) >
 i64.wrap ((↑s.length:Int)-AV (AV a.toNat (Ah s a.toNat)).toNat (Ah s (AV a.toNat (Ah s a.toNat)).toNat)))) (some (Ex.ret,[V.ref 0 0 0,V.b
 false],[some (Blk.row false none FCd sh1)])) (ifT (decide ((0:Int)<=AV (AV a.toNat (Ah s a.toNat)).toNat (Ah s (AV a.toNat (Ah s a.toNat)).toNat))&&
 decide (AV (AV a.toNat (Ah s a.toNat)).toNat (Ah s (AV a.toNat (Ah s a.toNat)).toNat)<=i64.wrap (AV (AV a.toNat (Ah s a.toNat)).toNat (Ah s
 (AV a.toNat (Ah s a.toNat)).toNat)+BT (Ah s (AV a.toNat (Ah s a.toNat)).toNat)))&&decide (i64.wrap (AV (AV a.toNat (Ah s a.toNat)).toNat
 (Ah s (AV a.toNat (Ah s a.toNat)).toNat)+BT (Ah s (AV a.toNat (Ah s a.toNat)).toNat))<=(↑s.length:Int))) (ifB (!AX (i64.wrap ((BT (Ah s
 a.toNat)).tdiv (8:Int)),(BT (Ah s a.toNat)).tmod (8:Int),(0:Int),sh2,())) (some (Ex.ret,[V.ref 0 0 0,V.b false],[some (Blk.row false none FCd sh1)]))
 (ifB ((↑n:Int)==(40:Int)) (some (Ex.ret,[V.ref 0 0 0,V.b false],[some (Blk.row false none FCd sh1)])) (ifT (decide ((n+1)*40<=
 140737488355328)&&decide (n+1<=maxI)) (some (Ex.normal,[V.s s,V.ref 0 0 (n+1),V.j (i64.wrap (AV (AV a.toNat (Ah s
 a.toNat)).toNat (Ah s (AV a.toNat (Ah s a.toNat)).toNat)+BT (Ah s (AV a.toNat (Ah s a.toNat)).toNat)))],[some (Blk.row false none FCd (sh3++
 (i64.wrap ((BT (Ah s a.toNat)).tdiv (8:Int)),(BT (Ah s a.toNat)).tmod (8:Int),(0:Int),sh2,())::sh1))])))))))))))) (some (Ex.exit 0,[V.ref 0 0
 n],[some (Blk.row false none FCd o)]))):_):=by kernel_rfl
theorem WK (s:List UInt8):Df prog VM (Ab [(3,J9)]) f167 [.s s] [] =
 ((ifT (decide ((0:Int)<=(0:Int)/\0<=s.length/\s.length<=4000000000/\0=0/\0<=0)) (ifB (rdF s (s.length-(0 :
 Nat)) 0 (Aj FCd.den)).isSome (some (V.tup [V.ref 0 0 ((rdF s (s.length-0) 0 (Aj FCd.den)).getD (Aj WFd)).length,V.b true],[some (Blk.row
 false none FCd ((rdF s (s.length-0) 0 (Aj FCd.den)).getD (Aj WFd)))])) (some (V.tup [V.ref 0 0 0,V.b false],[some (Blk.row false none FCd (Aj
 FCd.den))])))):_):=by kernel_rfl
theorem H3 (s:List UInt8) : ∀ (f a:Nat) (o:List Pl),rdF s f a (o.map (·.1))=(rdL s f a o).map (fun l=>l.map (·.1))
 | 0,a,o=>by
  rw [rdF,rdL]
  split<;>rfl
 | f+1,a,o=>by
  rw [rdF,rdL,List.length_map]
  split
  ·split
   ·have:=H3 s f (AZ s a).2.2.1.toNat (o++[((AZ s a).1,(a:Int),())])
    rw [List.map_append] at this
    exact this
   ·rfl
  ·rfl
theorem WQ (s:List UInt8) : ∀ (f f' a:Nat) (o:List WFd),s.length-a<=f->s.length-a<=f'->rdF s f a o=rdF s f' a o:=by
 intro f f' a o h1 h2
 have e:o=(o.map (fun x=>((x,0,()):Pl))).map (·.1):=by rw [map_map]; exact (List.map_id' o).symm
 rw [e,H3,H3,Pw s f f' a _ h1 h2]
theorem WP {s:List UInt8} {a:Nat} {o:List WFd} (h:a<s.length) (h1:(AZ s a).2.2.2=true) (h2:o.length≠40):rdF s (s.length-a) a o=rdF s (s.length-(AZ s a).2.2.1.toNat) (AZ s a).2.2.1.toNat (o++[(AZ s a).1]):=by
 have e:s.length-a=(s.length-a-1)+1:=by omega
 have ht:=M5 h1
 rw [e,rdF,if_pos h,if_pos ⟨h1,h2⟩]
 exact WQ s _ _ _ _ (by omega) (by omega)
theorem YV {s:List UInt8} {a:Nat} {o:List WFd} (h:a<s.length) (h1:(AZ s a).2.2.2=false\/o.length=40):rdF s (s.length-a) a o=none:=by
 have e:s.length-a=(s.length-a-1)+1:=by omega
 rw [e,rdF,if_pos h,if_neg]
 rintro ⟨h2,h3⟩
 rcases h1 with h1 | h1
 ·rw [h1] at h2; cases h2
 ·exact h3 h1
theorem YU {s:List UInt8} {a:Nat} {o:List WFd} (h:s.length<=a):rdF s (s.length-a) a o=some o:=by
 have e:s.length-a=0:=by omega
 rw [e,rdF,if_neg (by omega)]
theorem Re {a:Nat} {x:Option (Nat×Nat×Bool)} (h:BI x=true):BT x=AA x/\AV a x=A0 a x:=by
 match x,h with
 | some (n,k,true),_=>exact ⟨rfl,rfl⟩
theorem YD {s:List UInt8} {a:Nat} (h:BI (Ah s a)=false):(AZ s a).2.2.2=false:=by
 unfold AZ; dsimp only; rw [if_pos h]
theorem YC {s:List UInt8} {a:Nat} (h:BI (Ah s a)=true) (h2:BI (Ah s (A0 a (Ah s a)).toNat)=false):(AZ s a).2.2.2=false:=by
 unfold AZ; dsimp only; rw [if_neg (by rw [h]; simp)]
 split
 ·have:(Bb s (A0 a (Ah s a)).toNat).2.2=false:=by unfold Bb; dsimp only; rw [if_neg (fun hh=>by rw [h2] at hh; cases hh.1)]
  dsimp only
  rw [this]; rfl
 ·dsimp only
  rw [h2]; rfl
theorem Abe {s:List UInt8} {a:Nat} (h:BI (Ah s a)=true) (h2:BI (Ah s (A0 a (Ah s a)).toNat)=true) (h0:AA (Ah s a) % 8=0):AZ s a=((AA (Ah s a) / 8,0,unf (AA (Ah s (A0 a (Ah s a)).toNat)),[],()),(a:Int),A0 (A0 a (Ah s a)).toNat (Ah s (A0 a (Ah s a)).toNat),AX (AA (Ah s a) / 8,0,unf (AA (Ah s (A0 a (Ah s a)).toNat)),[],())):=by
 unfold AZ; dsimp only; rw [if_neg (by rw [h]; simp),if_neg (by omega),h0,h2,Bool.true_and]
theorem Abg {s:List UInt8} {a:Nat} (h:BI (Ah s a)=true) (h2:BI (Ah s (A0 a (Ah s a)).toNat)=true) (h0:AA (Ah s a) % 8=2) (hn:AA (Ah s (A0 a (Ah s a)).toNat)<=s.length-A0 (A0 a (Ah s a)).toNat (Ah s (A0 a (Ah s a)).toNat)) :
  AZ s a=((AA (Ah s a) / 8,2,0,(s.drop (A0 (A0 a (Ah s a)).toNat (Ah s (A0 a (Ah s a)).toNat)).toNat).take (AA (Ah s (A0 a (Ah s a)).toNat)).toNat,()),(a:Int),A0 (A0 a (Ah s a)).toNat (Ah s (A0 a (Ah s a)).toNat)+AA (Ah s (A0 a (Ah s a)).toNat),AX (AA (Ah s a) / 8,2,0,(s.drop (A0 (A0 a (Ah s a)).toNat (Ah s (A0 a (Ah s a)).toNat)).toNat).take (AA (Ah s (A0 a (Ah s a)).toNat)).toNat,())):=by
 have:Bb s (A0 a (Ah s a)).toNat=((s.drop (A0 (A0 a (Ah s a)).toNat (Ah s (A0 a (Ah s a)).toNat)).toNat).take (AA (Ah s (A0 a (Ah s a)).toNat)).toNat,A0 (A0 a (Ah s a)).toNat (Ah s (A0 a (Ah s a)).toNat)+AA (Ah s (A0 a (Ah s a)).toNat),true):=by unfold Bb; dsimp only; rw [if_pos ⟨h2,hn⟩]
 unfold AZ; dsimp only; rw [if_neg (by rw [h]; simp),if_pos h0,this,Bool.true_and]
theorem YA {s:List UInt8} {a:Nat} (h:BI (Ah s a)=true) (h0:AA (Ah s a) % 8≠0) (hn : ¬AA (Ah s (A0 a (Ah s a)).toNat)<=s.length-A0 (A0 a (Ah s a)).toNat (Ah s (A0 a (Ah s a)).toNat)):(AZ s a).2.2.2=false:=by
 unfold AZ; dsimp only; rw [if_neg (by rw [h]; simp)]
 split
 ·have:(Bb s (A0 a (Ah s a)).toNat).2.2=false:=by unfold Bb; dsimp only; rw [if_neg (fun hh=>hn hh.2)]
  dsimp only
  rw [this]; rfl
 ·rename_i h2
  dsimp only
  unfold AX
  dsimp only
  rw [if_neg h0,if_neg h2,Bool.and_false,Bool.and_false]
theorem YB {s:List UInt8} {a:Nat} (h:BI (Ah s a)=true) (h0:AA (Ah s a) % 8≠0) (h2:AA (Ah s a) % 8≠2):(AZ s a).2.2.2=false/\∀ x y z,AX (x,AA (Ah s a) % 8,y,z,())=false:=by
 have hb : ∀ x y z,AX (x,AA (Ah s a) % 8,y,z,())=false:=fun x y z=>by
  unfold AX
  dsimp only
  rw [if_neg h0,if_neg h2,Bool.and_false]
 refine ⟨?_,hb⟩
 unfold AZ; dsimp only; rw [if_neg (by rw [h]; simp),if_neg h2]
 dsimp only
 rw [hb,Bool.and_false]
theorem YR (s:List UInt8) (a:Nat) (o:List WFd) (hs:s.length<=4000000000) (ha:a<s.length) (ho:o.length<=a) :
  Av prog VM (Ab [(3,J9)]) 0 (body f167 0) J9 ([.s s,.ref 0 0 o.length,.j (a:Int)],[some (.row false none FCd o)])=if (AZ s a).2.2.2=true/\o.length≠40 then some (.normal,([.s s,.ref 0 0 (o++[(AZ s a).1]).length,.j (AZ s a).2.2.1],[some (.row false none FCd (o++[(AZ s a).1]))])) else some (.ret,([.ref 0 0 0,.b false],[some (.row false none FCd [])])):=by
 rw [MM]
 dsimp only [shr]
 have hM:maxI=9223372036854775807:=rfl
 obtain ⟨⟨u1,u2⟩,u3,u4⟩:=Eo s a
 rw [Ag (dcT (by omega)),Aa (dcT (by omega)),ntN]
 cases hk:BI (Ah s a) with
 | false=>rw [Bool.not_false,Be,if_neg (fun h=>by rw [YD hk] at h; cases h.1)]
 | true=>
  obtain ⟨e1,e2⟩:=Re (a:=a) hk
  rw [Bool.not_true,AS]
  simp only [e1,e2]
  obtain ⟨⟨v1,v2⟩,v3,v4⟩:=Eo s (A0 a (Ah s a)).toNat
  rw [Aa (dcT ⟨u3,hs,by omega⟩)]
  cases hk2:BI (Ah s (A0 a (Ah s a)).toNat) with
  | false=>rw [Bool.not_false,Be,if_neg (fun h=>by rw [YC hk hk2] at h; cases h.1)]
  | true=>
   obtain ⟨e3,e4⟩:=Re (a:=(A0 a (Ah s a)).toNat) hk2
   rw [Bool.not_true,AS]
   have m1:tdiv (AA (Ah s a)) 8=AA (Ah s a) / 8:=Int.tdiv_eq_ediv_of_nonneg u1
   have m2:tmod (AA (Ah s a)) 8=AA (Ah s a) % 8:=Int.tmod_eq_emod_of_nonneg u1
   have m3:i64.wrap (AA (Ah s a) / 8)=AA (Ah s a) / 8:=Aw (by omega) (by omega)
   have m4:i64.wrap ((s.length:Int)-A0 (A0 a (Ah s a)).toNat (Ah s (A0 a (Ah s a)).toNat))=(s.length:Int)-A0 (A0 a (Ah s a)).toNat (Ah s (A0 a (Ah s a)).toNat):=Aw (by omega) (by omega)
   have m5:i64.wrap (A0 (A0 a (Ah s a)).toNat (Ah s (A0 a (Ah s a)).toNat)+AA (Ah s (A0 a (Ah s a)).toNat))=A0 (A0 a (Ah s a)).toNat (Ah s (A0 a (Ah s a)).toNat)+AA (Ah s (A0 a (Ah s a)).toNat):=Aw (by omega) (by omega)
   simp only [e3,e4,m1,m2,m3,m4,m5,drop_zero,take_length,AN]
   have hlen:(decide ((o.length+1)*40<=140737488355328)&&decide (o.length+1<=maxI))=true:=by simp only [anE,dcE]; omega
   by_cases q0:AA (Ah s a) % 8=0
   ·rw [Ag (by simpa using q0),Aa (dcT ⟨v1,by omega⟩),q0]
    have ht:=Abe hk hk2 q0
    cases hf:AX (AA (Ah s a) / 8,0,unf (AA (Ah s (A0 a (Ah s a)).toNat)),[],()) with
    | false=>rw [Bool.not_false,Be,if_neg (fun h=>by rw [ht] at h; have:=h.1; rw [hf] at this; cases this)]
    | true=>
     rw [Bool.not_true,AS]
     by_cases q2:o.length=40
     ·rw [Ag (by rw [q2]; rfl),if_neg (fun h=>h.2 q2)]
     ·rw [Ac (by simpa using fun e=>q2 (by omega)),Aa hlen,if_pos ⟨by rw [ht]; exact hf,q2⟩,ht,length_append]; rfl
   ·rw [Ac (by simpa using q0)]
    by_cases qn:AA (Ah s (A0 a (Ah s a)).toNat)<=s.length-A0 (A0 a (Ah s a)).toNat (Ah s (A0 a (Ah s a)).toNat)
    rotate_left
    ·rw [Ag (dcT (by omega)),if_neg (fun h=>by rw [YA hk q0 qn] at h; cases h.1)]
    rw [Ac (dcF (by omega)),Aa (by simp only [anE,dcE]; omega)]
    have e5:(A0 (A0 a (Ah s a)).toNat (Ah s (A0 a (Ah s a)).toNat)+AA (Ah s (A0 a (Ah s a)).toNat)).toNat-(A0 (A0 a (Ah s a)).toNat (Ah s (A0 a (Ah s a)).toNat)).toNat=(AA (Ah s (A0 a (Ah s a)).toNat)).toNat:=by omega
    rw [e5]
    by_cases qk:AA (Ah s a) % 8=2
    rotate_left
    ·obtain ⟨b1,b2⟩:=YB hk q0 qk
     rw [b2,Bool.not_false,Be,if_neg (fun h=>by rw [b1] at h; cases h.1)]
    have ht:=Abg hk hk2 qk qn
    rw [qk]
    cases hf:AX (AA (Ah s a) / 8,2,0,(s.drop (A0 (A0 a (Ah s a)).toNat (Ah s (A0 a (Ah s a)).toNat)).toNat).take (AA (Ah s (A0 a (Ah s a)).toNat)).toNat,()) with
    | false=>rw [Bool.not_false,Be,if_neg (fun h=>by rw [ht] at h; have:=h.1; rw [hf] at this; cases this)]
    | true=>
     rw [Bool.not_true,AS]
     by_cases q2:o.length=40
     ·rw [Ag (by rw [q2]; rfl),if_neg (fun h=>h.2 q2)]
     ·rw [Ac (by simpa using fun e=>q2 (by omega)),Aa hlen,if_pos ⟨by rw [ht]; exact hf,q2⟩,ht,length_append]; rfl
theorem WL (s:List UInt8) (hs:s.length<=4000000000) : ∀ (j a:Nat) (o:List WFd),s.length-a<=j->a<=s.length->o.length<=a->∀ ex d,(Br.br (rdF s (s.length-a) a o).isSome (.leaf (.exit 0,([.ref 0 0 ((rdF s (s.length-a) a o).getD []).length],[some (.row false none FCd ((rdF s (s.length-a) a o).getD []))]))) (.leaf (.ret,([.ref 0 0 0,.b false],[some (.row false none FCd [])]))):Br (Ex×Dt)).run=some (ex,d)->
  Runs prog VM (Ab [(3,J9)]) 0 (body f167 0) J9 ([.s s,.ref 0 0 o.length,.j (a:Int)],[some (.row false none FCd o)]) ex d:=by
 intro j
 have fin : ∀ (a:Nat) (o:List WFd),a=s.length->∀ ex d,(Br.br (rdF s (s.length-a) a o).isSome (.leaf (.exit 0,([.ref 0 0 ((rdF s (s.length-a) a o).getD []).length],[some (.row false none FCd ((rdF s (s.length-a) a o).getD []))]))) (.leaf (.ret,([.ref 0 0 0,.b false],[some (.row false none FCd [])]))):Br (Ex×Dt)).run=some (ex,d)->Runs prog VM (Ab [(3,J9)]) 0 (body f167 0) J9 ([.s s,.ref 0 0 o.length,.j (a:Int)],[some (.row false none FCd o)]) ex d:=fun a o ha ex d h=>by
  have hr:=MM s o.length a o
  dsimp only [shr] at hr
  rw [Ac (dcF (by omega))] at hr
  rw [YU (by omega)] at h
  have h8:=Ao (show (Br.leaf (.exit 0,([.ref 0 0 o.length],[some (.row false none FCd o)])):Br (Ex×Dt)).run=some (ex,d) from h)
  obtain ⟨rfl,rfl⟩:=Prod.mk.inj h8
  exact .stop _ _ _ hr (by simp)
 induction j with
 | zero=>exact fun a o hj ha ho ex d h=>fin a o (by omega) ex d h
 | succ j ih=>
  intro a o hj ha ho ex d h
  by_cases q:a<s.length
  rotate_left
  ·exact fin a o (by omega) ex d h
  have hr:=YR s a o hs q ho
  by_cases q2:(AZ s a).2.2.2=true/\o.length≠40
  ·obtain ⟨t1,t2,t3,t4⟩:=M5 q2.1
   rw [if_pos q2] at hr
   rw [WP q q2.1 q2.2] at h
   obtain ⟨b,hb⟩:=eq_ofNat_of_zero_le (a:=(AZ s a).2.2.1) (by omega)
   rw [hb] at hr h t2 t3
   rw [ntN] at h
   exact .step _ _ _ _ hr (ih b (o++[(AZ s a).1]) (by omega) (by omega) (by simp; omega) ex d h)
  ·rw [if_neg q2] at hr
   rw [YV q (by
    cases e:(AZ s a).2.2.2 with
    | false=>exact .inl rfl
    | true=>exact .inr (by by_cases e2:o.length=40; exact e2; exact absurd ⟨e,e2⟩ q2))] at h
   have h8:=Ao (show (Br.leaf (.ret,([.ref 0 0 0,.b false],[some (.row false none FCd [])])):Br (Ex×Dt)).run=some (ex,d) from h)
   obtain ⟨rfl,rfl⟩:=Prod.mk.inj h8
   exact .stop _ _ _ hr (by simp)
theorem Abs:Ar prog VM (Ab [(3,J9)]) 0 (f167.body.getD .skip):=by
 refine An (a:=body f167 0) (by kernel_rfl) fun d ex d' h=>?_
 unfold J9 at h
 dsimp only at h
 split at h
 ·rename_i s n a o
  obtain ⟨hc,hx⟩:=Ad h
  clear h
  obtain ⟨h0,h1,h2,rfl,h4⟩:=of_decide_eq_true hc
  obtain ⟨a,rfl⟩:=eq_ofNat_of_zero_le h0
  simp only [ntN] at h1 h4 hx
  exact WL s h2 _ a o (Nat.le_refl _) h1 h4 ex d' hx
 ·cases h
theorem rdf:Af prog 167 (Ent.rd1 WN).F:=by
 refine A8 (kc func201 tvs (kc func202 Adt (kc func203 Abl KnowsL.nil))).knows (Λ:=(Ab [(3,J9)])) func167 (c:=f167.body.getD .skip) (by kernel_rfl) fun vs bs r hq hv hb=>?_
 unfold Ent.F WN at hq
 dsimp only at hq
 split at hq
 ·rename_i s
  obtain ⟨hc,hx⟩:=Ad hq
  have hc:=of_decide_eq_true hc
  refine ⟨Abs,Eq.trans ?_ hx⟩
  rw [WK]
  unfold Da
  rw [Aa (dcT ⟨by omega,by omega,hc,rfl,by omega⟩),sub_zero]
  simp only [AN]
  cases rdF s s.length 0 []<;>rfl
 ·cases hq
theorem Abt (s:List UInt8):KG s=(rdP s).map (fun l=>l.map (·.1)):=by
 unfold KG rdP Da
 split
 ·exact H3 s s.length 0 []
 ·rfl
theorem Oc (s:List UInt8):GX s=(CL s).map (fun l=>l.map (·.1)):=by
 unfold GX CL
 rw [Abt]
 cases rdP s with
 | none=>rfl
 | some l=>
  dsimp only [map_some]
  have e:Ed (l.map (·.1))=Iw l:=by unfold Ed Iw; rw [map_map]; rfl
  rw [e]
  split<;>rfl
def fkB (z:Rose Lab):Bool:=z.lab.1==1||z.lab.1==3
def A9 (z:Rose Lab) (n no:Int):Option (Rose AW):=if Dy n=true/\(z.lab.1=1\/(0<=n/\n<=z.lab.2.2.2.2.1)) then some (.node (n,[],no,false,()) []) else none
def BA (num:Bool) (N:Int->Option (Rose AW)) (D:List UInt8->Option (Rose AW)) (s:List UInt8):Nat->Nat->Option (List (Rose AW))
 | 0,a=>if a<s.length then none else some []
 | f+1,a=>if a<s.length then (match num with
  | true=>(match N (unf (AA (Ah s a))) with
   | some v=>if BI (Ah s a)=true then (BA num N D s f (A0 a (Ah s a)).toNat).map (v::·) else none
   | none=>none)
  | false=>(match (Bb s a).2.2 with
   | true=>(match D (Bb s a).1 with
    | some v=>(BA num N D s f (Bb s a).2.1.toNat).map (v::·)
    | none=>none)
   | false=>none)) else some []
mutual
def AU:Rose Lab->List UInt8->Int->Option (Rose AW)
 | .node x ks,s,no=>
  if x.1=2 then (if s.length<=30 then some (.node (0,s,no,false,()) []) else none)
  else if x.1=4 then (Ho ks s).map fun vs=>.node (0,[],no,true,()) vs
  else (match GX s with
   | some fs=>(Bm ks fs).map fun vs=>.node (0,[],no,true,()) vs
   | none=>none)
def Ho:List (Rose Lab)->List UInt8->Option (List (Rose AW))
 | [],_=>none
 | z::_,s=>BA (fkB z) (fun n=>A9 z n 0) (fun d=>AU z d 0) s s.length 0
def Bm:List (Rose Lab)->List WFd->Option (List (Rose AW))
 | [],_=>some []
 | p::ks,fs=>match fs.find? fun f=>f.1==p.lab.2.2.1 with
  | none=>if p.lab.2.2.2.1=true then none else Bm ks fs
  | some f=>if (f.2.1==0)=fkB p then (match (if (f.2.1==0)=true then A9 p f.2.2.1 p.lab.2.2.1 else AU p f.2.2.2.1 p.lab.2.2.1) with
   | some v=>(Bm ks fs).map (v::·)
   | none=>none) else none
end
def LP (p:Rose Lab) (f:WFd):Option (Rose AW):=if (f.2.1==0)=fkB p then (if (f.2.1==0)=true then A9 p f.2.2.1 f.1 else AU p f.2.2.2.1 f.1) else none
def Bu (ks:List (Rose Lab)):List WFd->Option (List (Rose AW))
 | []=>some []
 | f::fs=>if B8 f.1 ks=true then (match LP (byR f.1 ks) f with
  | some v=>(Bu ks fs).map (v::·)
  | none=>none) else Bu ks fs
def UL:Gm
 | [.tp LCd z 0],[]=>.leaf (.i .i64 (if fkB z=true then 0 else 2),[])
 | _,_=>.no
def N9:Gm
 | [.tp LCd z 0,.ref 0 0 m,.i .i64 n,.i .i64 no,.i .i64 up],[.row false _ NCd o]=>.need (decide (m=o.length/\o.length<=2000000)) (.leaf (.tup [.ref 1 0 (o.length+1),.b (A9 z n no).isSome],[none,some (.row false none NCd (o++[(n,[],no,up,false,())]))]))
 | _,_=>.no
def SR:Gm
 | [.agg [.i .i64 fo,.i .i64 _,.i .i64 _,.s _,.i .i64 _],.bx [.tp LCd p 0] 0],[]=>.leaf (.b (fo==p.lab.2.2.1),[])
 | _,_=>.no
def dfE  : LoopEnt:=⟨19,[0,1,4,7,8],[],[4],fun
 | ([.sl PCd l,.fn 182 [] [.ptr 0 0],.i .i64 _,.i .i64 k,.i .i64 i],[some (.box [.tp LCd p 0])])=>
  .need (decide (0<=i/\i.toNat<=l.length/\l.length<=maxI/\k=l.length)) (.br (decide (Au (fun z:Pl=>z.1.1==p.lab.2.2.1) i.toNat (l.drop i.toNat)<0)) (.leaf (.exit 0,([],[some (.box [.tp LCd p 0])]))) (.leaf (.ret,([.i .i64 (Au (fun z:Pl=>z.1.1==p.lab.2.2.1) i.toNat (l.drop i.toNat))],[some (.box [.tp LCd p 0])]))))
 | _=>.no⟩
def V2  : Gm
 | [.sl PCd l,.fn 182 [] [.ptr 0 0]],[.box [.tp LCd p 0]]=>.leaf (.i .i64 (Au (fun z:Pl=>z.1.1==p.lab.2.2.1) 0 l),[some (.box [.tp LCd p 0])])
 | _,_=>.no
theorem V3 {z:Rose Lab} {n no:Int} {v:Rose AW} (h:A9 z n no=some v):v.lab.2.2.1=no:=by
 unfold A9 at h
 split at h
 ·cases h; rfl
 ·cases h
theorem ZR {z:Rose Lab} {s:List UInt8} {no:Int} {v:Rose AW} (h:AU z s no=some v):v.lab.2.2.1=no:=by
 obtain ⟨x,ks⟩:=z
 unfold AU at h
 split at h
 ·split at h
  ·cases h; rfl
  ·cases h
 ·split at h
  ·obtain ⟨vs,_,rfl⟩:=map_eq_some_iff.1 h; rfl
  ·split at h
   ·obtain ⟨vs,_,rfl⟩:=map_eq_some_iff.1 h; rfl
   ·cases h
theorem TF {p:Rose Lab} {f:WFd} {v:Rose AW} (h:LP p f=some v):v.lab.2.2.1=f.1:=by
 unfold LP at h
 split at h
 ·split at h
  ·exact V3 h
  ·exact ZR h
 ·cases h
theorem Dr (p:Rose Lab) (ks:List (Rose Lab)) (fs:List WFd):Bm (p::ks) fs=(match fs.find? fun f=>f.1==p.lab.2.2.1 with
  | none=>if p.lab.2.2.2.1=true then none else Bm ks fs
  | some f=>(match LP p f with
   | some v=>(Bm ks fs).map (v::·)
   | none=>none)):=by
 rw [Bm]
 cases hf:fs.find? (fun f=>f.1==p.lab.2.2.1) with
 | none=>rfl
 | some f=>
  have hfe:f.1=p.lab.2.2.1:=by simpa using List.find?_some hf
  unfold LP
  dsimp only
  rw [<-hfe]
  by_cases q:(f.2.1==0)=fkB p
  ·rw [if_pos q,if_pos q]; all_goals rfl
  ·rw [if_neg q,if_neg q]
theorem IJ {f:WFd} {fs:List WFd} : ∀ {ks:List (Rose Lab)},(∀ y∈ks,y.lab.2.2.1≠f.1)->Bm ks (f::fs)=Bm ks fs
 | [],_=>by rw [Bm,Bm]
 | p::ks,h=>by
  have hp : ¬(f.1==p.lab.2.2.1)=true:=by have:=h p (by simp); simpa using fun e=>this e.symm
  rw [Dr,Dr,List.find?_cons_of_neg (p:=fun f:WFd=>f.1==p.lab.2.2.1) hp,IJ (fun y hy=>h y (mem_cons_of_mem _ hy))]
theorem II {p:Rose Lab} {ks:List (Rose Lab)} : ∀ {fs:List WFd},(∀ f∈fs,f.1≠p.lab.2.2.1)->Bu (p::ks) fs=Bu ks fs
 | [],_=>by rw [Bu,Bu]
 | f::fs,h=>by
  obtain ⟨e1,e2⟩:=Qq (z:=p) (ks:=ks) (h f (by simp))
  rw [Bu,Bu,e1,e2,II (fun g hg=>h g (mem_cons_of_mem _ hg))]
theorem LN {ks:List (Rose Lab)} : ∀ {fs:List WFd} {vs:List (Rose AW)},Bu ks fs=some vs->∀ v∈vs,∃ f∈fs,v.lab.2.2.1=f.1
 | [],vs,h,v,hv=>by rw [Bu] at h; cases h; cases hv
 | f::fs,vs,h,v,hv=>by
  rw [Bu] at h
  split at h
  ·split at h
   ·rename_i w hw
    obtain ⟨us,h1,rfl⟩:=map_eq_some_iff.1 h
    rcases mem_cons.1 hv with rfl | hv
    ·exact ⟨f,by simp,TF hw⟩
    ·obtain ⟨g,h2,h3⟩:=LN h1 v hv
     exact ⟨g,mem_cons_of_mem _ h2,h3⟩
   ·cases h
  ·obtain ⟨g,h2,h3⟩:=LN h v hv
   exact ⟨g,mem_cons_of_mem _ h2,h3⟩
def Aar (a b:WFd):Prop:=a.1<b.1
theorem Yp : ∀ (N:Nat) (ks:List (Rose Lab)) (fs:List WFd),ks.length+fs.length<=N->ks.Pairwise KR->fs.Pairwise Aar->Bm ks fs=(match Bu ks fs with | some vs=>if Ci vs ks=true then some vs else none | none=>none):=by
 intro N
 induction N with
 | zero=>
  intro ks fs hN _ _
  obtain rfl:ks=[]:=List.eq_nil_of_length_eq_zero (by omega)
  obtain rfl:fs=[]:=List.eq_nil_of_length_eq_zero (by omega)
  rw [Bm,Bu]; rfl
 | succ N ih=>
  intro ks fs hN hk hf
  cases fs with
  | nil=>
   have key : ∀ ks:List (Rose Lab),Bm ks []=if Ci [] ks=true then some [] else none:=by
    intro ks
    induction ks with
    | nil=>rw [Bm]; rfl
    | cons p ks ihk=>
     rw [Dr,List.find?_nil,ihk]
     unfold Ci
     rw [all_cons]
     cases p.lab.2.2.2.1<;>simp [Dj]
   rw [key,Bu]
  | cons f fs=>
   cases ks with
   | nil=>
    have : ∀ fs:List WFd,Bu [] fs=some []:=by
     intro fs
     induction fs with
     | nil=>rw [Bu]
     | cons g fs ihf=>rw [Bu,ihf]; rfl
    rw [Bm,this]; rfl
   | cons p ks=>
    have hk2:=List.pairwise_cons.1 hk
    have hf2:=List.pairwise_cons.1 hf
    simp only [length_cons] at hN
    have fgt : ∀ g∈fs,f.1<g.1:=fun g hg=>hf2.1 g hg
    have kgt : ∀ y∈ks,p.lab.2.2.1<y.lab.2.2.1:=fun y hy=>hk2.1 y hy
    rcases Int.lt_trichotomy f.1 p.lab.2.2.1 with h | h | h
    ·have e1 : ∀ y∈p::ks,y.lab.2.2.1≠f.1:=fun y hy=>by
      rcases mem_cons.1 hy with rfl | hy
      ·omega
      ·have:=kgt y hy; omega
     have e2:B8 f.1 (p::ks)=false:=by
      cases e:B8 f.1 (p::ks) with
      | false=>rfl
      | true=>obtain ⟨y,hy,hy2⟩:=IA.1 e; exact absurd hy2 (e1 y hy)
     rw [IJ e1,Bu,e2,ih (p::ks) fs (by simp only [length_cons]; omega) hk hf2.2]
     rfl
    ·have e1 : ∀ y∈ks,y.lab.2.2.1≠f.1:=fun y hy=>by have:=kgt y hy; omega
     have e2:B8 f.1 (p::ks)=true:=IA.2 ⟨p,by simp,h.symm⟩
     have e3:byR f.1 (p::ks)=p:=by rw [byR,if_pos h.symm]
     have e4 : ∀ g∈fs,g.1≠p.lab.2.2.1:=fun g hg=>by have:=fgt g hg; omega
     rw [Dr,List.find?_cons_of_pos (p:=fun f:WFd=>f.1==p.lab.2.2.1) (by simpa using h),Bu,if_pos e2,e3,IJ e1,II e4]
     dsimp only
     cases hd:LP p f with
     | none=>rfl
     | some v=>
      dsimp only
      rw [ih ks fs (by omega) hk2.2 hf2.2]
      have hv:=TF hd
      cases hs:Bu ks fs with
      | none=>rfl
      | some vs=>
       have em:Ci (v::vs) (p::ks)=Ci vs ks:=by
        unfold Ci
        rw [all_cons]
        have e5:Dj p.lab.2.2.1 (v::vs)=true:=by unfold Dj; rw [List.any_cons,hv,h]; simp
        rw [e5,Bool.or_true,Bool.true_and,Bool.eq_iff_iff,all_eq_true,all_eq_true]
        refine forall_congr' fun y=>forall_congr' fun hy=>?_
        have e6:Dj y.lab.2.2.1 (v::vs)=Dj y.lab.2.2.1 vs:=by
         unfold Dj
         rw [List.any_cons,hv,show (f.1==y.lab.2.2.1)=false from beq_eq_false_iff_ne.2 (e1 y hy).symm,Bool.false_or]
        rw [e6]
       dsimp only [Option.map]
       rw [em]
       by_cases hm:Ci vs ks=true
       ·rw [if_pos hm,if_pos hm]
       ·rw [if_neg hm,if_neg hm]
    ·have e4 : ∀ g∈f::fs,g.1≠p.lab.2.2.1:=fun g hg=>by
      rcases mem_cons.1 hg with rfl | hg
      ·omega
      ·have:=fgt g hg; omega
     have e5:(f::fs).find? (fun f=>f.1==p.lab.2.2.1)=none:=List.find?_eq_none.2 fun g hg=>by simpa using e4 g hg
     rw [Dr,e5,II e4]
     dsimp only
     rw [ih ks (f::fs) (by simp only [length_cons]; omega) hk2.2 hf]
     cases hs:Bu ks (f::fs) with
     | none=>simp
     | some vs=>
      dsimp only
      have em:Ci vs (p::ks)=(!p.lab.2.2.2.1&&Ci vs ks):=by
       unfold Ci
       rw [all_cons]
       have:Dj p.lab.2.2.1 vs=false:=by
        cases e:Dj p.lab.2.2.1 vs with
        | false=>rfl
        | true=>
         unfold Dj at e
         obtain ⟨v,hv,hv2⟩:=List.any_eq_true.1 e
         obtain ⟨g,hg,hg2⟩:=LN hs v hv
         have:=e4 g hg
         have hv2:v.lab.2.2.1=p.lab.2.2.1:=by simpa using hv2
         omega
       rw [this,Bool.or_false]
      rw [em]
      cases p.lab.2.2.2.1<;>simp
theorem Zx (z:Rose Lab):Ax prog (Ab []) (Ab []) f183 [.tp LCd z 0] []=some (.j (if fkB z=true then 0 else 2),[]):=by
 have e:Ax prog (Ab []) (Ab []) f183 [.tp LCd z 0] []=((ifB (z.lab.fst==(1:Int)) (some (V.j 0,[])) (ifB (z.lab.fst==(3:Int)) (some (V.j 0,[])) (some (V.j 2,[])))):_):=by kernel_rfl
 rw [e]
 clear e
 unfold fkB
 cases z.lab.1==1<;>cases z.lab.1==3<;>rfl
theorem kfk:Af prog 183 (Ent.rd1 UL).F:=by
 refine Ae KnowsL.nil.knows (Λ:=Ab []) func183 (c:=f183.body.getD .skip) (by kernel_rfl) fun vs bs r' hq hv hb=>?_
 unfold Ent.F UL at hq
 dsimp only at hq
 split at hq
 ·exact ⟨Ak _,(Zx _ ).trans hq⟩
 ·cases hq
theorem V0 (z:Rose Lab) (m:Nat) (n no up:Int) (nl:Option Bool) (o:List Nd):Df prog (Ab [(218,.rd1 Fq),(125,.rd1 A3)]) (Ab []) f184 [.tp LCd z 0,.ref 0 0 m,.j n,.j no,.j up] [.row false nl NCd o] =
 ((ifT (decide ((m+1)*48<=140737488355328)&&decide (m+1<=maxI)) (ifB (Dy n) (ifB (z.lab.fst==(1:Int)) (some (V.tup [V.ref 1 0
 (m+1),V.b true],[none,some (Blk.row false none NCd (take m (drop 0 o)++(n,Aj UInt8,no,up,false,())::Aj NCd.den))])) (some
 (V.tup [V.ref 1 0 (m+1),V.b (decide ((0:Int)<=n/\n<=z.lab.snd.snd.snd.snd.fst))],[none,some (Blk.row false none NCd (take m (drop 0 o)
 ++ (n,Aj UInt8,no,up,false,())::Aj NCd.den))]))) (some (V.tup [V.ref 1 0 (m+1),V.b false],[none,some (Blk.row false none NCd (take m
 (drop 0 o)++(n,Aj UInt8,no,up,false,())::Aj NCd.den))])))):_):=by kernel_rfl
theorem Yh (z:Rose Lab) (m:Nat) (n no up:Int) (nl:Option Bool) (o:List Nd) (hc:m=o.length/\o.length<=2000000):Df prog (Ab [(218,.rd1 Fq),(125,.rd1 A3)]) (Ab []) f184 [.tp LCd z 0,.ref 0 0 m,.j n,.j no,.j up] [.row false nl NCd o]=some (.tup [.ref 1 0 (o.length+1),.b (A9 z n no).isSome],[none,some (.row false none NCd (o++[(n,[],no,up,false,())]))]):=by
 rw [V0]
 try dsimp only [shr]
 obtain ⟨rfl,h1⟩:=hc
 have hM:maxI=9223372036854775807:=rfl
 simp only [AN,drop_zero,take_length]
 unfold A9
 have el:(decide ((o.length+1)*48<=140737488355328)&&decide (o.length+1<=maxI))=true:=by simp only [anE,dcE]; omega
 simp only [Aa el]
 cases h2:Dy n with
 | false=>simp [ifB]
 | true=>
  by_cases h3:z.lab.1=1
  ·simp [ifB,h3]
  ·have h4:=beq_eq_false_iff_ne.2 h3
   by_cases h5:0<=n/\n<=z.lab.2.2.2.2.1
   ·simp [ifB,h3,h4,h5]
   ·simp [ifB,h3,h4,h5]
theorem Ac8:Af prog 184 (Ent.own N9).F:=by
 refine A8 (kc func218 Xe (kc func125 Dl KnowsL.nil)).knows (Λ:=(Ab [])) func184 (c:=f184.body.getD .skip) (by kernel_rfl) fun vs bs r' hq hv hb=>?_
 unfold Ent.F N9 at hq
 dsimp only at hq
 split at hq
 ·rename_i z m n no up nl o
  obtain ⟨hc,hx⟩:=Ad hq
  exact ⟨Ak _,(Yh z m n no up nl o (of_decide_eq_true hc)).trans hx⟩
 ·cases hq
theorem Yr:Af prog 182 (Ent.rd1 SR).F:=by
 refine Ae KnowsL.nil.knows (Λ:=Ab []) func182 (c:=f182.body.getD .skip) (by kernel_rfl) fun vs bs r hq hv hb=>?_
 unfold Ent.F SR at hq
 dsimp only at hq
 split at hq
 ·rename_i fo fk fn fd fr p
  refine ⟨Ak _,Eq.trans ?_ hq⟩
  have e:Ax prog (Ab []) (Ab []) f182 [.agg [.j fo,.j fk,.j fn,.s fd,.j fr],.bx [.tp LCd p 0] 0] []=((some (V.b (fo==p.lab.snd.snd.fst),[])):_):=by kernel_rfl
  exact e
 ·cases hq
theorem Q3  (p:Rose Lab) (l:List (Pl)) (r k i:Int):Av prog (Ab [(182,.rd1 SR)]) (Ab [(2,dfE)]) 1 (body f181 0) dfE ([.sl PCd l,.fn 182 [] [.ptr 0 0],.j r,.j k,.j i],[some (.box [.tp LCd p 0])]) =
 ((ifB (decide (i<k)) (ifT (decide ((0:Int)<=i)&&decide (i<(↑l.length:Int))) (Ai l[i.toNat]? fun z=>ifB (z.fst.fst==p.lab.snd.snd.fst) (some (Ex.ret,[V.i
 .i64 i],[some (Blk.box [V.tp LCd p 0])])) (some (Ex.normal,[V.sl PCd l,V.fn 182 [] [V.ptr 0 0],V.j r,V.j k,V.i .i64
 (i64.wrap (i+(1:Int)))],[some (Blk.box [V.tp LCd p 0])])))) (some (Ex.exit 0,[],[some (Blk.box [V.tp LCd p 0])]))):_):=by kernel_rfl
theorem TE  (p:Rose Lab) {l:List (Pl)} {r:Int} (hx:l.length<=maxI) : ∀ (j i:Nat),i+j=l.length->∀ e d',(.br (decide (Au (fun z:Pl=>z.1.1==p.lab.2.2.1) i (l.drop i)<0)) (.leaf (.exit 0,([],[some (.box [.tp LCd p 0])]))) (.leaf (.ret,([.j (Au (fun z:Pl=>z.1.1==p.lab.2.2.1) i (l.drop i))],[some (.box [.tp LCd p 0])]))):Br (Ex×Dt)).run=some (e,d')->
  Runs prog (Ab [(182,.rd1 SR)]) (Ab [(2,dfE)]) 1 (body f181 0) dfE ([.sl PCd l,.fn 182 [] [.ptr 0 0],.j r,.j (l.length:Int),.j (i:Int)],[some (.box [.tp LCd p 0])]) e d'
 | 0,i,hi,e,d',h=>by
  have e1:l.drop i=[]:=drop_eq_nil_of_le (by omega)
  rw [e1,BB,Au,if_pos (by omega)] at h
  cases h
  have hr:=Q3 p l r l.length i
  rw [Ac (dcF (by omega))] at hr
  exact .stop _ _ _ hr (by simp)
 | j+1,i,hi,e,d',h=>by
  have h1:i<l.length:=by omega
  have hr:=Q3 p l r l.length i
  rw [Ag (dcT (by omega)),Aa (by simp only [anE,dcE]; omega)] at hr
  simp only [ntN,gtE h1,Am,Ap (n:=i) (by omega)] at hr
  rw [drop_eq_getElem_cons h1,BB,Au] at h
  by_cases he:(fun z:Pl=>z.1.1==p.lab.2.2.1) l[i]=true
  ·rw [if_pos he,if_neg (by omega)] at h
   cases h
   rw [Ag he] at hr
   exact .stop _ _ _ hr (by simp)
  ·rw [if_neg he] at h
   rw [Ac (by simpa using he)] at hr
   exact .step _ _ _ _ hr (TE p hx j (i+1) (by omega) e d' (by rw [BB]; exact h))
theorem Ae6  : Ar prog (Ab [(182,.rd1 SR)]) (Ab [(2,dfE)]) 1 (f181.body.getD .skip):=by
 refine An (a:=body f181 0) (by kernel_rfl) fun d e d' h=>?_
 unfold dfE at h
 dsimp only at h
 split at h
 ·obtain ⟨hc,h'⟩:=Ad h
  obtain ⟨h0,h1,h2,rfl⟩:=of_decide_eq_true hc
  obtain ⟨i,rfl⟩:=eq_ofNat_of_zero_le h0
  exact TE _  h2 _ i (Nat.add_sub_of_le h1) e d' h'
 ·cases h
theorem Add  (p:Rose Lab) (l:List (Pl)) (hx:l.length<=maxI):Ax prog (Ab [(182,.rd1 SR)]) (Ab [(2,dfE)]) f181 [.sl PCd l,.fn 182 [] [.ptr 0 0]] [.box [.tp LCd p 0]]=some (.j (Au (fun z:Pl=>z.1.1==p.lab.2.2.1) 0 l),[some (.box [.tp LCd p 0])]):=by
 have e:Ax prog (Ab [(182,.rd1 SR)]) (Ab [(2,dfE)]) f181 [.sl PCd l,.fn 182 [] [.ptr 0 0]] [.box [.tp LCd p 0]] =
  ((ifT (decide ((0:Int)<=(0:Int)/\0<=l.length/\l.length<=maxI/\(↑l.length:Int)=(↑l.length:Int))) (ifB (decide (Au (fun z=>z.fst.fst==
 p.lab.snd.snd.fst) 0 (drop 0 l)<(0:Int))) (some (V.j (-1),[some (Blk.box [V.tp LCd p 0])])) (some (V.j (Au (fun z=>
 z.fst.fst==p.lab.snd.snd.fst) 0 (drop 0 l)),[some (Blk.box [V.tp LCd p 0])])))):_):=by kernel_rfl
 rw [e,Aa (dcT ⟨by omega,by omega,hx,rfl⟩)]
 simp only [drop_zero]
 by_cases q:Au (fun z:Pl=>z.1.1==p.lab.2.2.1) 0 l<0
 ·rw [Ag (dcT q),CP _ _ _ q]
 ·rw [Ac (dcF q)]
theorem Adc  : Af prog 181 (Ent.own V2).F:=by
 refine Ae (kc func182 Yr KnowsL.nil).knows (Λ:=(Ab [(2,dfE)])) func181 (c:=f181.body.getD .skip) (by kernel_rfl) fun vs bs r h hv hb=>?_
 unfold Ent.F V2 at h
 dsimp only at h
 split at h
 ·rename_i l p
  have h':=h
  exact ⟨Ae6 ,(Add p l (hv (.sl PCd l) (by simp)).1).trans (by cases h'; rfl)⟩
 ·cases h
theorem Yn:Af prog 181 (Ent.mix V2).F:=Adc






mutual
def Bw:Rose AW->Int->Nat->List Nd
 | .node x ks,up,s=>(x.1,x.2.1,x.2.2.1,up,x.2.2.2.1,())::AT ks s (s+1)
def AT:List (Rose AW)->Nat->Nat->List Nd
 | [],_,_=>[]
 | z::ks,s,p=>Bw z s p++AT ks s (p+(Bw z s p).length)
end
mutual
def vcR:Rose AW->Nat
 | .node _ ks=>vcL ks+1
def vcL:List (Rose AW)->Nat
 | []=>0
 | z::l=>vcR z+vcL l
end
mutual
theorem Gu : ∀ (z:Rose AW) (up:Int) (s:Nat),(Bw z up s).length=vcR z
 | .node x ks,up,s=>by
  rw [Bw,vcR,length_cons,Ny ks s (s+1)]
theorem Ny : ∀ (ks:List (Rose AW)) (s p:Nat),(AT ks s p).length=vcL ks
 | [],_,_=>by rw [AT,vcL]; rfl
 | z::ks,s,p=>by rw [AT,vcL,length_append,Gu z s p,Ny ks s]
end
def mxD:List WFd->Nat
 | []=>0
 | f::fs=>max f.2.2.2.1.length (mxD fs)
def dlE (n:Nat):LoopEnt:=⟨74,[1,2,3,10,11],[1],[8,9],fun
 | ([.ref 1 0 m,.s s,.i .i64 up,.tp LCd z 0,.i .i64 a],[none,some (.row false none NCd o)])=>.need (decide (m=o.length/\0<=a/\a.toNat<=s.length/\0<=up/\s.length<=400/\At z=true/\Aq z<=n/\o.length+Aq z*(s.length-a.toNat)<=1000000)) (.br (BA (fkB z) (fun n=>A9 z n 0) (fun d=>AU z d 0) s (s.length-a.toNat) a.toNat).isSome (.leaf (.exit 0,([.ref 1 0 (o++AT ((BA (fkB z) (fun n=>A9 z n 0) (fun d=>AU z d 0) s (s.length-a.toNat) a.toNat).getD []) up.toNat o.length).length],[none,some (.row false none NCd (o++AT ((BA (fkB z) (fun n=>A9 z n 0) (fun d=>AU z d 0) s (s.length-a.toNat) a.toNat).getD []) up.toNat o.length))]))) (.leaf (.ret,([.ref 1 0 0,.b false],[none,some (.row false none NCd [])]))))
 | _=>.no⟩
def GT (z:Rose Lab) (s:List UInt8) (up:Int) (o:List Nd):List Nd:=match Ho z.kids s with | some vs=>o++AT vs up.toNat o.length | none=>[]
def dlN (n:Nat):Gm
 | [.tp LCd z 0,.ref 0 0 m,.s s,.i .i64 up],[.row false _ NCd o]=>.need (decide (m=o.length/\0<=up/\s.length<=400/\z.kids.length=1/\z.kids.all At=true/\Aq z<=n/\o.length+A1 z.kids*s.length<=1000000)) (.leaf (.tup [.ref 1 0 (GT z s up o).length,.b (Ho z.kids s).isSome],[none,some (.row false none NCd (GT z s up o))]))
 | _,_=>.no
def Bs (z:Rose Lab) (s:List UInt8) (no up:Int) (o:List Nd):List Nd:=match AU z s no with | some v=>o++Bw v up o.length | none=>if z.lab.1=2 then o++[(0,s,no,up,false,())] else []
def Mr (n:Nat):Gm
 | [.tp LCd z 0,.ref 0 0 m,.s s,.i .i64 no,.i .i64 up],[.row false _ NCd o]=>.need (decide (m=o.length/\s.length<=400/\At z=true/\Aq z<=n/\o.length+Aq z*(s.length+1)<=1000000)) (.leaf (.tup [.ref 1 0 (Bs z s no up o).length,.b (AU z s no).isSome],[none,some (.row false none NCd (Bs z s no up o))]))
 | _,_=>.no
def dmE (n:Nat):LoopEnt:=⟨129,[1,12,14,68,69,70],[1],[10,11],fun
 | ([.ref 1 0 m,.ref 2 0 w,.i .i64 up,.sl (.tree LCd) ks,.i .i64 c,.i .i64 i],[none,some (.row false none NCd o),some (.row _ none PCd fs)])=>.need (decide (m=o.length/\w=fs.length/\c=ks.length/\0<=i/\i.toNat<=ks.length/\ks.length<=1000000/\w<=40/\0<=up/\mxD (fs.map (·.1))<=400/\(fs.all fun x=>AX x.1)=true/\A1 ks<=n/\B9 5 ks=true/\o.length+A1 (ks.drop i.toNat)*(mxD (fs.map (·.1))+1)<=1000000)) (.br (Bm (ks.drop i.toNat) (fs.map (·.1))).isSome (.leaf (.exit 1,([.ref 1 0 (o++AT ((Bm (ks.drop i.toNat) (fs.map (·.1))).getD []) up.toNat o.length).length],[none,some (.row false none NCd (o++AT ((Bm (ks.drop i.toNat) (fs.map (·.1))).getD []) up.toNat o.length))]))) (.leaf (.ret,([.ref 1 0 0,.b false],[none,some (.row false none NCd [])]))))
 | _=>.no⟩
def IG (n:Nat):LoopEnt:=⟨129,[1,12,14,68,69,70],[1],[10,11],fun
 | ([.ref 0 0 m,.ref 1 0 w,.i .i64 up,.sl (.tree LCd) ks,.i .i64 c,.i .i64 i],[some (.row false none NCd o),some (.row _ none PCd fs)])=>.need (decide (m=o.length/\w=fs.length/\c=ks.length/\0<=i/\i.toNat<=ks.length/\ks.length<=1000000/\w<=40/\0<=up/\mxD (fs.map (·.1))<=400/\(fs.all fun x=>AX x.1)=true/\A1 ks<=n/\B9 5 ks=true/\o.length+A1 (ks.drop i.toNat)*(mxD (fs.map (·.1))+1)<=1000000)) (.br (Bm (ks.drop i.toNat) (fs.map (·.1))).isSome (.leaf (.exit 1,([.ref 0 0 (o++AT ((Bm (ks.drop i.toNat) (fs.map (·.1))).getD []) up.toNat o.length).length],[some (.row false none NCd (o++AT ((Bm (ks.drop i.toNat) (fs.map (·.1))).getD []) up.toNat o.length))]))) (.leaf (.ret,([.ref 0 0 0,.b false],[some (.row false none NCd [])]))))
 | _=>.no⟩
def Yq:Gm
 | [.tp LCd z 0,.nl,.s s,.i .i64 no,.i .i64 up],[]=>.need (decide (z.lab.1=5/\s.length<=400/\At z=true/\Aq z*(s.length+1)<=1000000)) (.leaf (.tup [.ref 0 0 (Bs z s no up []).length,.b (AU z s no).isSome],[some (.row false none NCd (Bs z s no up []))]))
 | _,_=>.no
abbrev Ta (n:Nat):FuncId->Option Ent:=Ab [(183,.rd1 UL),(215,.rd1 Rd),(216,.rd1 J7),(184,.own N9),(217,.rd1 tbG),(144,.own (Mr n))]
theorem LM (n m:Nat) (s:List UInt8) (up:Int) (z:Rose Lab) (a:Int) (o:List Nd):Av prog (Ta n) (Ab [(3,dlE n)]) 1 (body f180 0) (dlE n) ([.ref 1 0 m,.s s,.j up,.tp LCd z 0,.j a],[none,some (.row false none NCd o)]) =
 ((ifB (decide (a<(↑s.length:Int))) (ifB ((if fkB z=true then (0:Int) else (2:Int))==(0:Int)) (ifT (decide ((0:Int)<=a/\s.length<=4000000000/\a<=
 (4000000000:Int))) (ifT (decide ((0:Int)<=AA (Ah s a.toNat)/\AA (Ah s a.toNat)<=(1000000000000:Int))) (ifT (decide (m=o.length/\o.length<=(2000000 :
 Nat))) (ifB (A9 z (unf (AA (Ah s a.toNat))) (0:Int)).isSome (ifB (!BI (Ah s a.toNat)) (some (Ex.ret,[V.ref 1 0 0,V.b false],[none,some (Blk.row false
 none NCd (Aj NCd.den))])) (some (Ex.normal,[V.ref 1 0 (o.length+1),V.s s,V.j up,V.tp LCd z 0,V.j (A0 a.toNat (Ah s a.toNat))],
 [none,some (Blk.row false none NCd (o++(unf (AA (Ah s a.toNat)),Aj UInt8,(0:Int),up,false,())::Aj (Int×List UInt8×Int×Int×Bool×Unit)))])))
 (some (Ex.ret,[V.ref 1 0 0,V.b false],[none,some (Blk.row false none NCd (Aj NCd.den))])))))) (ifT (decide ((0:Int)<=a/\s.length<=4000000000/\a<=
 (4000000000:Int))) (ifB (!(Bb s a.toNat).snd.snd) (some (Ex.ret,[V.ref 1 0 0,V.b false],[none,some (Blk.row false none NCd (Aj NCd.den))])) (ifT (decide (m =
 o.length/\(Bb s a.toNat).fst.length<=400/\At z=true/\Aq z<=n/\o.length+Aq z*((Bb s a.toNat).fst.length+1)<=1000000))
 (ifB (!(AU z (Bb s a.toNat).fst (0:Int)).isSome) (some (Ex.ret,[V.ref 1 0 0,V.b false],[none,some (Blk.row false none NCd (Aj NCd.den))])) (some (Ex.normal,
 [V.ref 1 0 (Bs z (Bb s a.toNat).fst (0:Int) up o).length,V.s s,V.j up,V.tp LCd z 0,V.j (Bb s a.toNat).snd.fst],[none,some (Blk.row false
 none NCd (Bs z (Bb s a.toNat).fst (0:Int) up o))]))))))) (some (Ex.exit 0,[V.ref 1 0 m],[none,some (Blk.row false none NCd o)]))):_):=by kernel_rfl
theorem ZN (n:Nat) (z:Rose Lab) (m:Nat) (s:List UInt8) (up:Int) (nl:Option Bool) (o:List Nd):ZF prog (Ta n) (Ab [(3,dlE n)]) f180 [.tp LCd z 0,.ref 0 0 m,.s s,.j up] [.row false nl NCd o] =
 ((ifT (decide ((0:Int)<=(0:Int))&&decide ((0:Int)<(↑z.kids.length:Int))) (Ai z.kids[0]? fun z=>ifT (decide (m=o.length/\(0:Int)<=(0:Int)/\
 0<=s.length/\(0:Int)<=up/\s.length<=400/\At z=true/\Aq z<=n/\o.length+Aq z*(s.length-0)<=1000000)) (ifB (BA
 (fkB z) (fun n=>A9 z n (0:Int)) (fun d=>AU z d (0:Int)) s (s.length-0) 0).isSome (some (V.tup [V.ref 1 0 (o++AT ((BA (fkB z) (fun n
 => A9 z n (0:Int)) (fun d=>AU z d (0:Int)) s (s.length-0) 0).getD (Aj (Rose AW))) up.toNat o.length).length,V.b true],[none,some
 (Blk.row false none NCd (o++AT ((BA (fkB z) (fun n=>A9 z n (0:Int)) (fun d=>AU z d (0:Int)) s (s.length-0) 0).getD (Aj (Rose
 AW))) up.toNat o.length))])) (some (V.tup [V.ref 1 0 0,V.b false],[none,some (Blk.row false none NCd (Aj NCd.den))]))))):_):=by kernel_rfl
abbrev JK (k n:Nat):FuncId->Option Ent:=Ab [(180,.own (dlN n)),(150,.rd1 WD),(181,.mix V2),(183,.rd1 UL),(184,.own N9),(144,.own (Mr k))]
theorem Q2 (n k m w:Nat) (ro:Bool) (up:Int) (ks:List (Rose Lab)) (c i:Int) (o:List Nd) (fs:List Pl):Av prog (JK k n) (Ab [(12,dmE k)]) 1 (body f144 0) (dmE k) ([.ref 1 0 m,.ref 2 0 w,.j up,.sl (.tree LCd) ks,.j c,.j i],[none,some (.row false none NCd o),some (.row ro none PCd fs)]) =
 ((ifB (decide (i<c)) (ifT (decide ((0:Int)<=i)&&decide (i<(↑ks.length:Int))) (Ai ks[i.toNat]? fun z=>ifB (decide (Au (fun z_1=>z_1.fst.fst==
 (Rose.lab z).snd.snd.fst) 0 (take w (drop 0 fs))<(0:Int))) (ifB (Rose.lab z).snd.snd.snd.fst (some (Ex.ret,[V.ref 1 0 0,V.b false],[none,
 some (Blk.row false none NCd (Aj NCd.den))])) (some (Ex.normal,[V.ref 1 0 m,V.ref 2 0 w,V.j up,V.sl LCd.tree ks,V.j c,V.j (i64.wrap (i+(1
 : Int)))],[none,some (Blk.row false none NCd o),some (Blk.row true none PCd fs)]))) (ifT (decide ((0:Int)<=Au (fun z_1=>z_1.fst.fst==(Rose.lab
 z).snd.snd.fst) 0 (take w (drop 0 fs)))&&decide (Au (fun z_1=>z_1.fst.fst==(Rose.lab z).snd.snd.fst) 0 (take w (drop
 0 fs))<(↑w:Int))) (Ai fs[0+(Au (fun z_1=>z_1.fst.fst==(Rose.lab z).snd.snd.fst) 0 (take w (drop 0
 fs))).toNat]? fun z_1=>ifB (z_1.fst.snd.fst != if fkB z=true then (0:Int) else (2:Int)) (some (Ex.ret,[V.ref 1 0 0,V.b false],[none,some (Blk.row false none
 NCd (Aj NCd.den))])) (ifB (z_1.fst.snd.fst==(0:Int)) (ifT (decide (m=o.length/\o.length<=2000000)) (ifB (!(A9 z z_1.fst.snd.snd.fst (Rose.lab
 z).snd.snd.fst).isSome) (some (Ex.ret,[V.ref 1 0 0,V.b false],[none,some (Blk.row false none NCd (Aj NCd.den))])) (some (Ex.normal,[V.ref 1 0 (o.length+(1 :
 Nat)),V.ref 2 0 w,V.j up,V.sl LCd.tree ks,V.j c,V.j (i64.wrap (i+(1:Int)))],[none,some (Blk.row false none NCd (o++
 (z_1.fst.snd.snd.fst,Aj UInt8,(Rose.lab z).snd.snd.fst,up,false,())::Aj (Int×List UInt8×Int×Int×Bool×Unit))),some (Blk.row true none PCd fs)]))))
 (ifT (decide (m=o.length/\List.length z_1.fst.snd.snd.snd.fst<=400/\At z=true/\Aq z<=k/\o.length+Aq z*(List.length z_1.fst.snd.snd.snd.fst +
 1)<=1000000)) (ifB (!(AU z z_1.fst.snd.snd.snd.fst (Rose.lab z).snd.snd.fst).isSome) (some (Ex.ret,[V.ref 1 0 0,V.b false],[none,some (Blk.row
 false none NCd (Aj NCd.den))])) (some (Ex.normal,[V.ref 1 0 (Bs z z_1.fst.snd.snd.snd.fst (Rose.lab z).snd.snd.fst up o).length,V.ref 2 0 w,V.j up,V.sl
 LCd.tree ks,V.j c,V.j (i64.wrap (i+(1:Int)))],[none,some (Blk.row false none NCd (Bs z z_1.fst.snd.snd.snd.fst (Rose.lab z).snd.snd.fst up
 o)),some (Blk.row true none PCd fs)]))))))))) (some (Ex.exit 1,[V.ref 1 0 m],[none,some (Blk.row false none NCd o)]))):_):=by kernel_rfl
theorem ZL (n k:Nat) (z:Rose Lab) (m:Nat) (s:List UInt8) (no up:Int) (nl:Option Bool) (o:List Nd):Df prog (JK k n) (Ab [(12,dmE k)]) f144 [.tp LCd z 0,.ref 0 0 m,.s s,.j no,.j up] [.row false nl NCd o] =
 ((ifB (z.lab.fst==(2:Int)) (ifT (decide ((m+1)*48<=140737488355328)&&decide (m+1<=maxI)) (some (V.tup [V.ref 1 0 (m+(1 :
 Nat)),V.b (decide ((↑s.length:Int)<=(30:Int)))],[none,some (Blk.row false none NCd (take m (drop 0 o)++((0:Int),s,no,up,false,())::
 Aj NCd.den))]))) (ifB (z.lab.fst==(4:Int)) (ifT (decide ((m+1)*48<=140737488355328)&&decide (m+1<=maxI)) (ifT (decide (m +
 1=(take m (drop 0 o)++((0:Int),Aj UInt8,no,up,true,())::Aj NCd.den).length/\(0:Int)<=(↑m:Int)/\s.length<=400/\
 z.kids.length=1/\z.kids.all At=true/\Aq z<=n/\(take m (drop 0 o)++((0:Int),Aj UInt8,no,up,true,())::Aj
 NCd.den).length+A1 z.kids*s.length<=1000000)) (some (V.tup [V.ref 1 0 (GT z s (↑m:Int) (take m (drop 0 o)++((0:Int),Aj UInt8,
 no,up,true,())::Aj NCd.den)).length,V.b (Ho z.kids s).isSome],[none,some (Blk.row false none NCd (GT z s (↑m:Int) (take m (drop 0 o)++
 ((0:Int),Aj UInt8,no,up,true,())::Aj NCd.den)))])))) (ifT (decide (s.length<=4000000000)) (ifB (!(CL s).isSome) (some (V.tup [V.ref 1 0 0,V.b
 false],[none,some (Blk.row false none NCd (Aj NCd.den))])) (ifT (decide ((m+1)*48<=140737488355328)&&decide (m+1<=maxI))
 (ifT (decide (m+1=(take m (drop 0 o)++((0:Int),Aj UInt8,no,up,true,())::Aj NCd.den).length/\((CL s).getD (Aj Pl)).length
 = ((CL s).getD (Aj Pl)).length/\(↑z.kids.length:Int)=(↑z.kids.length:Int)/\(0:Int)<=(0:Int)/\0<=z.kids.length/\z.kids.length<=1000000
 /\ ((CL s).getD (Aj Pl)).length<=40/\(0:Int)<=(↑m:Int)/\mxD (List.map (fun x=>x.fst) ((CL s).getD (Aj Pl)))<=400/\(((CL s).getD (Aj
 Pl)).all fun x=>AX x.fst)=true/\A1 z.kids<=k/\B9 (5:Int) z.kids=true/\(take m (drop 0 o)++((0:Int),Aj UInt8,no,up,true,
 ())::Aj NCd.den).length+A1 (drop 0 z.kids)*(mxD (List.map (fun x=>x.fst) ((CL s).getD (Aj Pl)))+1)<=1000000)) (ifB (Bm
 (drop 0 z.kids) (List.map (fun x=>x.fst) ((CL s).getD (Aj Pl)))).isSome (some (V.tup [V.ref 1 0 (take m (drop 0 o)++((0:Int),
 Aj UInt8,no,up,true,())::Aj NCd.den++AT ((Bm (drop 0 z.kids) (List.map (fun x=>x.fst) ((CL s).getD (Aj Pl)))).getD (Aj (Rose AW)))
 (↑m:Int).toNat (take m (drop 0 o)++((0:Int),Aj UInt8,no,up,true,())::Aj NCd.den).length).length,V.b true],[none,some (Blk.row false
 none NCd (take m (drop 0 o)++((0:Int),Aj UInt8,no,up,true,())::Aj NCd.den++AT ((Bm (drop 0 z.kids) (List.map (fun x
 => x.fst) ((CL s).getD (Aj Pl)))).getD (Aj (Rose AW))) (↑m:Int).toNat (take m (drop 0 o)++((0:Int),Aj UInt8,no,up,true,())::Aj
 NCd.den).length))])) (some (V.tup [V.ref 1 0 0,V.b false],[none,some (Blk.row false none NCd (Aj NCd.den))]))))))))):_):=by kernel_rfl
theorem SQ (num:Bool) (N:Int->Option (Rose AW)) (D:List UInt8->Option (Rose AW)) (s:List UInt8) (a:Nat):BA num N D s 0 a=if a<s.length then none else some []:=rfl
theorem IN (num:Bool) (N:Int->Option (Rose AW)) (D:List UInt8->Option (Rose AW)) (s:List UInt8) (f a:Nat):BA num N D s (f+1) a=if a<s.length then (match num with
  | true=>(match N (unf (AA (Ah s a))) with
   | some v=>if BI (Ah s a)=true then (BA num N D s f (A0 a (Ah s a)).toNat).map (v::·) else none
   | none=>none)
  | false=>(match (Bb s a).2.2 with
   | true=>(match D (Bb s a).1 with
    | some v=>(BA num N D s f (Bb s a).2.1.toNat).map (v::·)
    | none=>none)
   | false=>none)) else some []:=rfl
theorem NS {s:List UInt8} {a:Nat} (h:(Bb s a).2.2=true):(a:Int)+1+((Bb s a).1.length:Int)<=(Bb s a).2.1/\(Bb s a).2.1<=s.length:=by
 have ⟨⟨u1,u2⟩,u3,u4⟩:=Eo s a
 unfold Bb at h ⊢
 dsimp only at h ⊢
 split at h
 ·rename_i q
  have e:=EC q.1
  rw [if_pos q]
  simp only [List.length_take,length_drop]
  omega
 ·cases h
theorem Wg (s:List UInt8) (a:Nat):(Bb s a).1.length<=s.length:=by
 unfold Bb
 dsimp only
 split
 ·simp only [List.length_take,length_drop]; omega
 ·simp
theorem Gy {num:Bool} {N:Int->Option (Rose AW)} {D:List UInt8->Option (Rose AW)} {s:List UInt8} : ∀ (f f' a:Nat),s.length-a<=f->s.length-a<=f'->BA num N D s f a=BA num N D s f' a
 | 0,0,a,_,_=>rfl
 | 0,f'+1,a,h,_=>by rw [SQ,IN,if_neg (by omega),if_neg (by omega)]
 | f+1,0,a,_,h=>by rw [IN,SQ,if_neg (by omega),if_neg (by omega)]
 | f+1,f'+1,a,h,h'=>by
  rw [IN,IN]
  by_cases ha:a<s.length
  ·rw [if_pos ha,if_pos ha]
   cases num with
   | true=>
    dsimp only
    cases N (unf (AA (Ah s a))) with
    | none=>rfl
    | some v=>
     dsimp only
     by_cases h3:BI (Ah s a)=true
     ·have:=EC h3
      rw [if_pos h3,if_pos h3,Gy f f' _ (by omega) (by omega)]
     ·rw [if_neg h3,if_neg h3]
   | false=>
    dsimp only
    cases h3:(Bb s a).2.2 with
    | false=>rfl
    | true=>
     have:=NS h3
     dsimp only
     cases D (Bb s a).1 with
     | none=>rfl
     | some v=>dsimp only; rw [Gy f f' _ (by omega) (by omega)]
  ·rw [if_neg ha,if_neg ha]
theorem Ga {num:Bool} {N:Int->Option (Rose AW)} {D:List UInt8->Option (Rose AW)} {s:List UInt8} {f a:Nat} (h:s.length<=a):BA num N D s f a=some []:=by
 cases f with
 | zero=>rw [SQ,if_neg (by omega)]
 | succ f=>rw [IN,if_neg (by omega)]
theorem IL {num:Bool} {N:Int->Option (Rose AW)} {D:List UInt8->Option (Rose AW)} {s:List UInt8} {a:Nat} (h:a<s.length):BA num N D s (s.length-a) a=(match num with
  | true=>(match N (unf (AA (Ah s a))) with
   | some v=>if BI (Ah s a)=true then (BA num N D s (s.length-(A0 a (Ah s a)).toNat) (A0 a (Ah s a)).toNat).map (v::·) else none
   | none=>none)
  | false=>(match (Bb s a).2.2 with
   | true=>(match D (Bb s a).1 with
    | some v=>(BA num N D s (s.length-(Bb s a).2.1.toNat) (Bb s a).2.1.toNat).map (v::·)
    | none=>none)
   | false=>none)):=by
 rw [show s.length-a=(s.length-a-1)+1 by omega,IN,if_pos h]
 cases num with
 | true=>
  dsimp only
  cases N (unf (AA (Ah s a))) with
  | none=>rfl
  | some v=>
   dsimp only
   by_cases h3:BI (Ah s a)=true
   ·have:=EC h3
    rw [if_pos h3,if_pos h3,Gy (s.length-a-1) (s.length-(A0 a (Ah s a)).toNat) _ (by omega) (by omega)]
   ·rw [if_neg h3,if_neg h3]
 | false=>
  dsimp only
  cases h3:(Bb s a).2.2 with
  | false=>rfl
  | true=>
   have:=NS h3
   dsimp only
   cases D (Bb s a).1 with
   | none=>rfl
   | some v=>dsimp only; rw [Gy (s.length-a-1) (s.length-(Bb s a).2.1.toNat) _ (by omega) (by omega)]
theorem IM {num:Bool} {N:Int->Option (Rose AW)} {D:List UInt8->Option (Rose AW)} {s:List UInt8} (c:Nat) (h1:1<=c) (hN : ∀ n v,N n=some v->vcR v<=c) (hD : ∀ d v,D d=some v->vcR v<=c*(d.length+1)) : ∀ (j a:Nat) (vs:List (Rose AW)),s.length-a<=j->BA num N D s (s.length-a) a=some vs->vcL vs<=c*(s.length-a)
 | j,a,vs,hj,h=>by
  by_cases ha:a<s.length
  ·rw [IL ha] at h
   have mul : ∀ b:Nat,a<b->b<=s.length->c*(b-a)+c*(s.length-b)=c*(s.length-a):=fun b k1 k2=>by rw [<-mul_add]; congr 1; omega
   obtain ⟨j,rfl⟩ : ∃ i,j=i+1:=⟨j-1,by omega⟩
   cases num with
   | true=>
    dsimp only at h
    cases hn:N (unf (AA (Ah s a))) with
    | none=>rw [hn] at h; cases h
    | some v=>
     rw [hn] at h
     dsimp only at h
     by_cases h3:BI (Ah s a)=true
     ·have e:=EC h3
      rw [if_pos h3] at h
      obtain ⟨us,h4,rfl⟩:=map_eq_some_iff.1 h
      have ih:=IM c h1 hN hD j _ us (by omega) h4
      have k1:=hN _ _ hn
      have k2:=mul (A0 a (Ah s a)).toNat (by omega) (by omega)
      have k3:c<=c*((A0 a (Ah s a)).toNat-a):=Nat.le_mul_of_pos_right c (by omega)
      rw [vcL]; omega
     ·rw [if_neg h3] at h; cases h
   | false=>
    dsimp only at h
    cases h3:(Bb s a).2.2 with
    | false=>rw [h3] at h; cases h
    | true=>
     have e:=NS h3
     rw [h3] at h
     dsimp only at h
     cases hn:D (Bb s a).1 with
     | none=>rw [hn] at h; cases h
     | some v=>
      rw [hn] at h
      obtain ⟨us,h4,rfl⟩:=map_eq_some_iff.1 h
      have ih:=IM c h1 hN hD j _ us (by omega) h4
      have k1:=hD _ _ hn
      have k2:=mul (Bb s a).2.1.toNat (by omega) (by omega)
      have k3:c*((Bb s a).1.length+1)<=c*((Bb s a).2.1.toNat-a):=mul_le_mul_left c (by omega)
      rw [vcL]; omega
  ·rw [Ga (by omega)] at h; cases h; rw [vcL]; omega
termination_by j=>j
theorem KX {f:WFd} : ∀ {fs:List WFd},f∈fs->f.2.2.2.1.length<=mxD fs
 | g::fs,h=>by
  rw [mxD]
  rcases mem_cons.1 h with rfl | h
  ·omega
  ·have:=KX h; omega
theorem Tv {L:Nat} : ∀ {fs:List WFd},(∀ f∈fs,f.2.2.2.1.length<=L)->mxD fs<=L
 | [],_=>Nat.zero_le _
 | g::fs,h=>by
  rw [mxD]
  have h1:=h g (by simp)
  have h2:=Tv (fun f hf=>h f (mem_cons_of_mem _ hf))
  omega
theorem Abf {s:List UInt8} {a:Nat}:(AZ s a).1.2.2.2.1.length<=s.length:=by
 unfold AZ
 dsimp only
 split
 ·simp
 ·split
  ·exact Wg s _
  ·simp
theorem Og (s:List UInt8) : ∀ (f a:Nat) (o l:List WFd),(∀ x∈o,AX x=true/\x.2.2.2.1.length<=s.length)->rdF s f a o=some l->∀ x∈l,AX x=true/\x.2.2.2.1.length<=s.length
 | 0,a,o,l,ho,h=>by
  rw [rdF] at h
  split at h
  ·cases h
  ·cases h; exact ho
 | f+1,a,o,l,ho,h=>by
  rw [rdF] at h
  split at h
  ·split at h
   ·rename_i q
    refine Og s f _ _ l (fun x hx=>?_) h
    rcases List.mem_append.1 hx with hx | hx
    ·exact ho x hx
    ·obtain rfl:x=(AZ s a).1:=by simpa using hx
     exact ⟨(M5 q.1).1,Abf⟩
   ·cases h
  ·cases h; exact ho
theorem Ob {s:List UInt8} {l:List WFd} (h:GX s=some l):(∀ x∈l,AX x=true/\x.2.2.2.1.length<=s.length)/\Pt (Ed l)=true/\s.length<=400:=by
 unfold GX KG Da at h
 split at h
 ·rename_i l' hl
  split at h
  ·rename_i hr
   cases h
   split at hl
   ·rename_i h4
    exact ⟨Og s _ _ [] l (by simp) hl,hr,h4⟩
   ·cases hl
  ·cases h
 ·cases h
mutual
theorem E8 : ∀ (z:Rose Lab) (s:List UInt8) (no:Int) (v:Rose AW),AU z s no=some v->vcR v<=Aq z*(s.length+1)
 | .node x ks,s,no,v,h=>by
  rw [AU] at h
  rw [Aq]
  have hm:(A1 ks+1)*(s.length+1)=A1 ks*s.length+A1 ks+s.length+1:=by rw [add_mul,mul_add]; omega
  split at h
  ·split at h
   ·cases h; rw [vcR,vcL]; omega
   ·cases h
  ·split at h
   ·obtain ⟨vs,h1,rfl⟩:=map_eq_some_iff.1 h
    have:=V5 ks s vs h1
    rw [vcR]; omega
   ·split at h
    ·rename_i fs hf
     obtain ⟨vs,h1,rfl⟩:=map_eq_some_iff.1 h
     have h2:=IK ks fs vs h1
     have h3:mxD fs<=s.length:=Tv fun f hf'=>((Ob hf).1 f hf').2
     have h4:A1 ks*(mxD fs+1)<=A1 ks*(s.length+1):=mul_le_mul_left _ (by omega)
     have h5:A1 ks*(s.length+1)=A1 ks*s.length+A1 ks:=by rw [mul_add,mul_one]
     rw [vcR]; omega
    ·cases h
theorem V5 : ∀ (ks:List (Rose Lab)) (s:List UInt8) (vs:List (Rose AW)),Ho ks s=some vs->vcL vs<=A1 ks*s.length
 | [],s,vs,h=>by rw [Ho] at h; cases h
 | z::ks,s,vs,h=>by
  rw [Ho] at h
  have hz:=Ck z
  have:=IM (s:=s) (Aq z) hz (fun n v hv=>by
   unfold A9 at hv
   split at hv
   ·cases hv; rw [vcR,vcL]; omega
   ·cases hv) (fun d v hv=>E8 z d 0 v hv) s.length 0 vs (by omega) h
  rw [sub_zero] at this
  rw [A1,add_mul]; omega
theorem IK : ∀ (ks:List (Rose Lab)) (fs:List WFd) (vs:List (Rose AW)),Bm ks fs=some vs->vcL vs<=A1 ks*(mxD fs+1)
 | [],fs,vs,h=>by rw [Bm] at h; cases h; rw [vcL]; omega
 | p::ks,fs,vs,h=>by
  rw [Bm] at h
  rw [A1,add_mul]
  split at h
  ·split at h
   ·cases h
   ·have:=IK ks fs vs h; omega
  ·rename_i f hf
   have hmem:=List.mem_of_find?_eq_some hf
   have hmx:=KX hmem
   split at h
   ·split at h
    ·rename_i v hv
     obtain ⟨us,h1,rfl⟩:=map_eq_some_iff.1 h
     have ih:=IK ks fs us h1
     have hp:=Ck p
     have h2:vcR v<=Aq p*(mxD fs+1):=by
      split at hv
      ·unfold A9 at hv
       split at hv
       ·cases hv
        rw [vcR,vcL]
        exact mul_pos hp (by omega)
       ·cases hv
      ·have:=E8 p _ _ v hv
       exact Nat.le_trans this (mul_le_mul_left _ (by omega))
     rw [vcL]; omega
    ·cases h
   ·cases h
end
theorem Yk {z:Rose Lab} {s:List UInt8} {a b:Nat} {v:Rose AW} {up:Nat} {o:List Nd} (h:(BA (fkB z) (fun n=>A9 z n 0) (fun d=>AU z d 0) s (s.length-a) a)=(BA (fkB z) (fun n=>A9 z n 0) (fun d=>AU z d 0) s (s.length-b) b).map (v::·)) {ex:Ex} {d:Dt} (hd:(Br.br (BA (fkB z) (fun n=>A9 z n 0) (fun d=>AU z d 0) s (s.length-a) a).isSome (.leaf (.exit 0,([.ref 1 0 (o++AT ((BA (fkB z) (fun n=>A9 z n 0) (fun d=>AU z d 0) s (s.length-a) a).getD []) up o.length).length],[none,some (.row false none NCd (o++AT ((BA (fkB z) (fun n=>A9 z n 0) (fun d=>AU z d 0) s (s.length-a) a).getD []) up o.length))]))) (.leaf (.ret,([.ref 1 0 0,.b false],[none,some (.row false none NCd [])]))):Br (Ex×Dt)).run=some (ex,d)):(Br.br (BA (fkB z) (fun n=>A9 z n 0) (fun d=>AU z d 0) s (s.length-b) b).isSome (.leaf (.exit 0,([.ref 1 0 ((o++Bw v up o.length)++AT ((BA (fkB z) (fun n=>A9 z n 0) (fun d=>AU z d 0) s (s.length-b) b).getD []) up (o++Bw v up o.length).length).length],[none,some (.row false none NCd ((o++Bw v up o.length)++AT ((BA (fkB z) (fun n=>A9 z n 0) (fun d=>AU z d 0) s (s.length-b) b).getD []) up (o++Bw v up o.length).length))]))) (.leaf (.ret,([.ref 1 0 0,.b false],[none,some (.row false none NCd [])]))):Br (Ex×Dt)).run=some (ex,d):=by
 rw [h] at hd
 cases e:(BA (fkB z) (fun n=>A9 z n 0) (fun d=>AU z d 0) s (s.length-b) b) with
 | none=>rw [e] at hd; exact hd
 | some vs=>
  rw [e] at hd
  refine Eq.trans ?_ hd
  show some _=some _
  rw [show ((Option.map (v::·) (some vs)).getD [])=v::vs from rfl,show ((some vs).getD [])=vs from rfl]
  simp only [AT,length_append,append_assoc]
theorem ZO (n:Nat) (z:Rose Lab) (hz:At z=true) (hcn:Aq z<=n) (s:List UInt8) (hs:s.length<=400) (up:Nat) : ∀ (j a:Nat) (o:List Nd),s.length-a<=j->a<=s.length->o.length+Aq z*(s.length-a)<=1000000->∀ ex d,(Br.br (BA (fkB z) (fun n=>A9 z n 0) (fun d=>AU z d 0) s (s.length-a) a).isSome (.leaf (.exit 0,([.ref 1 0 (o++AT ((BA (fkB z) (fun n=>A9 z n 0) (fun d=>AU z d 0) s (s.length-a) a).getD []) up o.length).length],[none,some (.row false none NCd (o++AT ((BA (fkB z) (fun n=>A9 z n 0) (fun d=>AU z d 0) s (s.length-a) a).getD []) up o.length))]))) (.leaf (.ret,([.ref 1 0 0,.b false],[none,some (.row false none NCd [])]))):Br (Ex×Dt)).run=some (ex,d)->Runs prog (Ta n) (Ab [(3,dlE n)]) 1 (body f180 0) (dlE n) ([.ref 1 0 o.length,.s s,.j (up:Int),.tp LCd z 0,.j (a:Int)],[none,some (.row false none NCd o)]) ex d:=by
 intro j
 induction j with
 | zero=>
  intro a o hj ha ho ex d h
  have hr:=LM n o.length s up z a o
  rw [Ac (dcF (by omega))] at hr
  rw [Ga (by omega)] at h
  have h8:=Ao (show (Br.leaf (.exit 0,([.ref 1 0 (o++AT [] up o.length).length],[none,some (.row false none NCd (o++AT [] up o.length))])):Br (Ex×Dt)).run=some (ex,d) from h)
  obtain ⟨rfl,rfl⟩:=Prod.mk.inj h8
  rw [AT,append_nil]
  exact .stop _ _ _ hr (by simp)
 | succ j ih=>
  intro a o hj ha ho ex d h
  by_cases hlt:a<s.length
  ·have hr:=LM n o.length s up z a o
   have ⟨⟨u1,u2⟩,u3,u4⟩:=Eo s a
   have hst:=IL (num:=fkB z) (N:=fun n=>A9 z n 0) (D:=fun d=>AU z d 0) hlt
   have hcp:=Ck z
   have mul : ∀ b:Nat,a<b->b<=s.length->Aq z*(b-a)+Aq z*(s.length-b)=Aq z*(s.length-a):=fun b k1 k2=>by rw [<-mul_add]; congr 1; omega
   have bad : ∀ {w},Av prog (Ta n) (Ab [(3,dlE n)]) 1 (body f180 0) (dlE n) ([.ref 1 0 o.length,.s s,.j (up:Int),.tp LCd z 0,.j (a:Int)],[none,some (.row false none NCd o)])=w->w=some ((.ret:Ex),(([.ref 1 0 0,.b false]:List V),[none,some (.row false none NCd [])]))->(BA (fkB z) (fun n=>A9 z n 0) (fun d=>AU z d 0) s (s.length-a) a)=none->Runs prog (Ta n) (Ab [(3,dlE n)]) 1 (body f180 0) (dlE n) ([.ref 1 0 o.length,.s s,.j (up:Int),.tp LCd z 0,.j (a:Int)],[none,some (.row false none NCd o)]) ex d:=fun e1 e2 e3=>by
    rw [e3] at h
    have h8:=Ao (show (Br.leaf (.ret,([.ref 1 0 0,.b false],[none,some (.row false none NCd [])])):Br (Ex×Dt)).run=some (ex,d) from h)
    obtain ⟨rfl,rfl⟩:=Prod.mk.inj h8
    exact .stop _ _ _ (e1.trans e2) (by simp)
   rw [Ag (dcT (by omega)),ntN] at hr
   cases hf:fkB z with
   | true=>
    rw [hf] at hr hst
    dsimp only at hst
    rw [if_pos rfl,Ag (show ((0:Int)==0)=true from rfl),Aa (dcT (by omega)),Aa (dcT (by omega)),Aa (dcT ⟨rfl,by omega⟩)] at hr
    cases hn:A9 z (unf (AA (Ah s a))) 0 with
    | none=>
     rw [hn] at hr hst
     refine bad hr rfl (by rw [hf]; exact hst)
    | some v=>
     rw [hn] at hr hst
     dsimp only at hst
     rw [show (some v).isSome=true from rfl,Be] at hr
     cases h3:BI (Ah s a) with
     | false=>
      rw [h3] at hr hst
      exact bad hr rfl (by rw [hf]; exact hst)
     | true=>
      rw [h3] at hr hst
      have e:=EC h3
      rw [if_pos rfl] at hst
      have k2:=mul (A0 a (Ah s a)).toNat (by omega) (by omega)
      have k3:Aq z<=Aq z*((A0 a (Ah s a)).toNat-a):=Nat.le_mul_of_pos_right _ (by omega)
      have hv:Bw v up o.length=[(unf (AA (Ah s a)),[],0,(up:Int),false,())]:=by
       unfold A9 at hn
       split at hn
       ·cases hn; rw [Bw,AT]
       ·cases hn
      have h':=Yk (up:=up) (o:=o) (by rw [hf]; exact hst) h
      have ih':=ih (A0 a (Ah s a)).toNat (o++Bw v up o.length) (by omega) (by omega) (by rw [hv,length_append,length_singleton]; omega) ex d h'
      rw [hv,length_append,length_singleton,show (((A0 a (Ah s a)).toNat:Nat):Int)=A0 a (Ah s a) by omega] at ih'
      exact .step _ _ _ _ hr ih'
   | false=>
    rw [hf] at hr hst
    dsimp only at hst
    rw [if_neg (by simp),Ac (show ((2:Int)==0)=false from rfl),Aa (dcT (by omega))] at hr
    cases h3:(Bb s a).2.2 with
    | false=>
     rw [h3] at hr hst
     exact bad hr rfl (by rw [hf]; exact hst)
    | true=>
     rw [h3] at hr hst
     dsimp only at hst
     have e:=NS h3
     have k2:=mul (Bb s a).2.1.toNat (by omega) (by omega)
     have k3:Aq z*((Bb s a).1.length+1)<=Aq z*((Bb s a).2.1.toNat-a):=mul_le_mul_left _ (by omega)
     rw [Bool.not_true,AS,Aa (dcT ⟨rfl,by omega,hz,hcn,by omega⟩)] at hr
     cases hn:AU z (Bb s a).1 0 with
     | none=>
      rw [hn] at hr hst
      exact bad hr rfl (by rw [hf]; exact hst)
     | some v=>
      have hsz:=E8 z _ _ v hn
      have hdo:Bs z (Bb s a).1 0 up o=o++Bw v up o.length:=by unfold Bs; rw [hn]
      rw [hn,hdo] at hr
      rw [hn] at hst
      dsimp only at hst
      have hl:=Gu v up o.length
      have h':=Yk (up:=up) (o:=o) (by rw [hf]; exact hst) h
      have ih':=ih (Bb s a).2.1.toNat (o++Bw v up o.length) (by omega) (by omega) (by rw [length_append,hl]; omega) ex d h'
      rw [show (((Bb s a).2.1.toNat:Nat):Int)=(Bb s a).2.1 by omega] at ih'
      exact .step _ _ _ _ hr ih'
  ·have hr:=LM n o.length s up z a o
   rw [Ac (dcF (by omega))] at hr
   rw [Ga (by omega)] at h
   have h8:=Ao (show (Br.leaf (.exit 0,([.ref 1 0 (o++AT [] up o.length).length],[none,some (.row false none NCd (o++AT [] up o.length))])):Br (Ex×Dt)).run=some (ex,d) from h)
   obtain ⟨rfl,rfl⟩:=Prod.mk.inj h8
   rw [AT,append_nil]
   exact .stop _ _ _ hr (by simp)
theorem Ae5 (n:Nat):Ar prog (Ta n) (Ab [(3,dlE n)]) 1 (f180.body.getD .skip):=by
 refine An (a:=body f180 0) (by kernel_rfl) fun d ex d' h=>?_
 unfold dlE at h
 dsimp only at h
 split at h
 ·rename_i m s up z a o
  obtain ⟨hc,hx⟩:=Ad h
  obtain ⟨rfl,h0,h1,h2,h3,h4,h5,h6⟩:=of_decide_eq_true hc
  obtain ⟨a,rfl⟩:=eq_ofNat_of_zero_le h0
  obtain ⟨up,rfl⟩:=eq_ofNat_of_zero_le h2
  simp only [ntN] at h1 h6 hx
  exact ZO n z h4 h5 s h3 up _ a o (Nat.le_refl _) h1 h6 ex d' hx
 ·cases h
theorem NA (n k m w:Nat) (ro:Bool) (up:Int) (ks:List (Rose Lab)) (c i:Int) (o:List Nd) (fs:List Pl):Av prog (JK k n) (Ab [(12,IG k)]) 0 (body f144 0) (IG k) ([.ref 0 0 m,.ref 1 0 w,.j up,.sl (.tree LCd) ks,.j c,.j i],[some (.row false none NCd o),some (.row ro none PCd fs)]) =
 ((ifB (decide (i<c)) (ifT (decide ((0:Int)<=i)&&decide (i<(↑ks.length:Int))) (Ai ks[i.toNat]? fun z=>ifB (decide (Au (fun z_1=>z_1.fst.fst==
 (Rose.lab z).snd.snd.fst) 0 (take w (drop 0 fs))<(0:Int))) (ifB (Rose.lab z).snd.snd.snd.fst (some (Ex.ret,[V.ref 0 0 0,V.b false],[some
 (Blk.row false none NCd (Aj NCd.den))])) (some (Ex.normal,[V.ref 0 0 m,V.ref 1 0 w,V.j up,V.sl LCd.tree ks,V.j c,V.j (i64.wrap (i+(1 :
 Int)))],[some (Blk.row false none NCd o),some (Blk.row true none PCd fs)]))) (ifT (decide ((0:Int)<=Au (fun z_1=>z_1.fst.fst==(Rose.lab z).snd.snd.fst) (0 :
 Nat) (take w (drop 0 fs)))&&decide (Au (fun z_1=>z_1.fst.fst==(Rose.lab z).snd.snd.fst) 0 (take w (drop 0 fs))<(↑w
 : Int))) (Ai fs[0+(Au (fun z_1=>z_1.fst.fst==(Rose.lab z).snd.snd.fst) 0 (take w (drop 0 fs))).toNat]? fun z_1=>ifB
 (z_1.fst.snd.fst != if fkB z=true then (0:Int) else (2:Int)) (some (Ex.ret,[V.ref 0 0 0,V.b false],[some (Blk.row false none NCd (Aj NCd.den))])) (ifB
 (z_1.fst.snd.fst==(0:Int)) (ifT (decide (m=o.length/\o.length<=2000000)) (ifB (!(A9 z z_1.fst.snd.snd.fst (Rose.lab z).snd.snd.fst).isSome) (some
 (Ex.ret,[V.ref 0 0 0,V.b false],[some (Blk.row false none NCd (Aj NCd.den))])) (some (Ex.normal,[V.ref 0 0 (o.length+1),V.ref 1 0 w,V.j up,V.sl
 LCd.tree ks,V.j c,V.j (i64.wrap (i+(1:Int)))],[some (Blk.row false none NCd (o++(z_1.fst.snd.snd.fst,Aj UInt8,(Rose.lab z).snd.snd.fst,up,
 false,())::Aj (Int×List UInt8×Int×Int×Bool×Unit))),some (Blk.row true none PCd fs)])))) (ifT (decide (m=o.length/\List.length z_1.fst.snd.snd.snd.fst<=
 400/\At z=true/\Aq z<=k/\o.length+Aq z*(List.length z_1.fst.snd.snd.snd.fst+1)<=1000000)) (ifB (!(AU z
 z_1.fst.snd.snd.snd.fst (Rose.lab z).snd.snd.fst).isSome) (some (Ex.ret,[V.ref 0 0 0,V.b false],[some (Blk.row false none NCd (Aj NCd.den))])) (some (Ex.normal,
 [V.ref 0 0 (Bs z z_1.fst.snd.snd.snd.fst (Rose.lab z).snd.snd.fst up o).length,V.ref 1 0 w,V.j up,V.sl LCd.tree ks,V.j c,V.j (i64.wrap (i
 + (1:Int)))],[some (Blk.row false none NCd (Bs z z_1.fst.snd.snd.snd.fst (Rose.lab z).snd.snd.fst up o)),some (Blk.row true none PCd fs)]))))))))) (some (Ex.exit
 1,[V.ref 0 0 m],[some (Blk.row false none NCd o)]))):_):=by kernel_rfl
theorem Yj (n k:Nat) (z:Rose Lab) (s:List UInt8) (no up:Int):Df prog (JK k n) (Ab [(12,IG k)]) f144 [.tp LCd z 0,.nl,.s s,.j no,.j up] [] =
 ((ifB (z.lab.fst==(2:Int)) (some (V.tup [V.ref 0 0 1,V.b (decide ((↑s.length:Int)<=(30:Int)))],[some (Blk.row false none NCd (((0:Int),s,no,up,false,())::
 Aj NCd.den))])) (ifB (z.lab.fst==(4:Int)) (ifT (decide (1=1/\(0:Int)<=(0:Int)/\s.length<=400/\z.kids.length=1/\
 z.kids.all At=true/\Aq z<=n/\1+A1 z.kids*s.length<=1000000)) (some (V.tup [V.ref 0 0 (GT z s (0:Int) (((0:Int),Aj UInt8,no,
 up,true,())::Aj NCd.den)).length,V.b (Ho z.kids s).isSome],[some (Blk.row false none NCd (GT z s (0:Int) (((0:Int),Aj UInt8,no,up,true,())::Aj
 NCd.den)))]))) (ifT (decide (s.length<=4000000000)) (ifB (!(CL s).isSome) (some (V.tup [V.ref 0 0 0,V.b false],[some (Blk.row false none NCd (Aj
 NCd.den))])) (ifT (decide (1=1/\((CL s).getD (Aj Pl)).length=((CL s).getD (Aj Pl)).length/\(↑z.kids.length:Int)=(↑z.kids.length:Int)/\
 (0:Int)<=(0:Int)/\0<=z.kids.length/\z.kids.length<=1000000/\((CL s).getD (Aj Pl)).length<=40/\(0:Int)<=(0:Int)/\mxD
 (List.map (fun x=>x.fst) ((CL s).getD (Aj Pl)))<=400/\(((CL s).getD (Aj Pl)).all fun x=>AX x.fst)=true/\A1 z.kids<=k/\B9 (5:Int)
 z.kids=true/\1+A1 (drop 0 z.kids)*(mxD (List.map (fun x=>x.fst) ((CL s).getD (Aj Pl)))+1)<=1000000)) (ifB (Bm
 (drop 0 z.kids) (List.map (fun x=>x.fst) ((CL s).getD (Aj Pl)))).isSome (some (V.tup [V.ref 0 0 (((0:Int),Aj UInt8,no,up,true,())::Aj
 NCd.den++AT ((Bm (drop 0 z.kids) (List.map (fun x=>x.fst) ((CL s).getD (Aj Pl)))).getD (Aj (Rose AW))) 0 1).length,V.b
 true],[some (Blk.row false none NCd (((0:Int),Aj UInt8,no,up,true,())::Aj NCd.den++AT ((Bm (drop 0 z.kids) (List.map (fun x=>x.fst)
 ((CL s).getD (Aj Pl)))).getD (Aj (Rose AW))) 0 1))])) (some (V.tup [V.ref 0 0 0,V.b false],[some (Blk.row false none NCd (Aj NCd.den))])))))))):_):=by kernel_rfl

theorem Adb (n:Nat) (z:Rose Lab) (m:Nat) (s:List UInt8) (up:Int) (nl:Option Bool) (o:List Nd) (hc:m=o.length/\0<=up/\s.length<=400/\z.kids.length=1/\z.kids.all At=true/\Aq z<=(n+1)/\o.length+A1 z.kids*s.length<=1000000):ZF prog (Ta n) (Ab [(3,dlE n)]) f180 [.tp LCd z 0,.ref 0 0 m,.s s,.j up] [.row false nl NCd o]=some (.tup [.ref 1 0 (GT z s up o).length,.b (Ho z.kids s).isSome],[none,some (.row false none NCd (GT z s up o))]):=by
 obtain ⟨rfl,h1,h2,h3,h4,h5,h6⟩:=hc
 obtain ⟨up,rfl⟩:=eq_ofNat_of_zero_le h1
 rw [ZN]
 obtain ⟨x,ks⟩:=z
 have h3:ks.length=1:=h3
 match ks,h3 with
 | [y],_=>
  have h4:[y].all At=true:=h4
  have h6:o.length+A1 [y]*s.length<=1000000:=h6
  have h5:Aq (.node x [y])<=n+1:=h5
  have hy:At y=true:=by simpa using h4
  have e:A1 [y]=Aq y:=by rw [A1,A1]; rfl
  have e2:Aq (.node x [y])=Aq y+1:=by rw [Aq,e]
  rw [e] at h6
  rw [Aa (by rfl)]
  show Ai (some y) _=_
  rw [Am,sub_zero,Aa (dcT ⟨rfl,by omega,by omega,h1,h2,hy,by omega,h6⟩)]
  unfold GT
  dsimp only [Rose.kids]
  rw [Ho]
  cases BA (fkB y) (fun n=>A9 y n 0) (fun d=>AU y d 0) s s.length 0 with
  | none=>rfl
  | some vs=>rfl
theorem Yl (n:Nat) (ih:Af prog 144 (Ent.own (Mr n)).F):Af prog 180 (Ent.own (dlN (n+1))).F:=by
 refine Mm (kc func183 kfk (kc func215 tvi (kc func216 Aeq (kc func184 Ac8 (kc func217 itb (kc func144 (ih) KnowsL.nil)))))).knows (Λ:=(Ab [(3,dlE n)])) func180 (c:=f180.body.getD .skip) (by kernel_rfl) fun vs bs r hq=>?_
 unfold Ent.F dlN at hq
 dsimp only at hq
 split at hq
 ·rename_i z m s up nl o
  obtain ⟨hc,hx⟩:=Ad hq
  exact ⟨Ae5 n,(Adb n z m s up nl o (of_decide_eq_true hc)).trans hx⟩
 ·cases hq
theorem BM {k:Int} : ∀ {ks:List (Rose Lab)},B9 k ks=true->∀ z∈ks,DT k z.lab=true/\At z=true
 | y::ks,h,z,hz=>by
  rw [B9,anE,anE] at h
  rcases mem_cons.1 hz with rfl | hz
  ·exact h.1
  ·exact BM h.2 z hz
theorem Ej {f:WFd} (h:AX f=true):f.2.1=0\/f.2.1=2:=by
 unfold AX at h
 rw [anE] at h
 have h:=h.2
 split at h
 ·rename_i q; exact .inl q
 ·split at h
  ·rename_i q; exact .inr q
  ·cases h
theorem TA (fs:List Pl) (no:Int):(fs.map (·.1)).find? (fun f=>f.1==no)=(fs.find? fun z:Pl=>z.1.1==no).map (·.1):=by
 rw [List.find?_map]
 rfl
theorem Yi {ks:List (Rose Lab)} {fs:List Pl} {i:Nat} {v:Rose AW} {up:Nat} {o:List Nd} (h:(Bm (ks.drop i) (fs.map (·.1)))=(Bm (ks.drop (i+1)) (fs.map (·.1))).map (v::·)) {ex:Ex} {d:Dt} (hd:(Br.br (Bm (ks.drop i) (fs.map (·.1))).isSome (.leaf (.exit 1,([.ref 1 0 (o++AT ((Bm (ks.drop i) (fs.map (·.1))).getD []) up o.length).length],[none,some (.row false none NCd (o++AT ((Bm (ks.drop i) (fs.map (·.1))).getD []) up o.length))]))) (.leaf (.ret,([.ref 1 0 0,.b false],[none,some (.row false none NCd [])]))):Br (Ex×Dt)).run=some (ex,d)):(Br.br (Bm (ks.drop (i+1)) (fs.map (·.1))).isSome (.leaf (.exit 1,([.ref 1 0 ((o++Bw v up o.length)++AT ((Bm (ks.drop (i+1)) (fs.map (·.1))).getD []) up (o++Bw v up o.length).length).length],[none,some (.row false none NCd ((o++Bw v up o.length)++AT ((Bm (ks.drop (i+1)) (fs.map (·.1))).getD []) up (o++Bw v up o.length).length))]))) (.leaf (.ret,([.ref 1 0 0,.b false],[none,some (.row false none NCd [])]))):Br (Ex×Dt)).run=some (ex,d):=by
 rw [h] at hd
 cases e:(Bm (ks.drop (i+1)) (fs.map (·.1))) with
 | none=>rw [e] at hd; exact hd
 | some vs=>
  rw [e] at hd
  refine Eq.trans ?_ hd
  show some _=some _
  rw [show ((Option.map (v::·) (some vs)).getD [])=v::vs from rfl,show ((some vs).getD [])=vs from rfl]
  simp only [AT,length_append,append_assoc]
theorem JY (n k:Nat) (ks:List (Rose Lab)) (hks:B9 5 ks=true) (hcn:A1 ks<=k) (hlen:ks.length<=1000000) (fs:List Pl) (hfs:fs.length<=40) (hmx:mxD (fs.map (·.1))<=400) (hfb:(fs.all fun x=>AX x.1)=true) (up:Nat) : ∀ (j i:Nat) (ro:Bool) (o:List Nd),i+j=ks.length->o.length+A1 (ks.drop i)*(mxD (fs.map (·.1))+1)<=1000000->∀ ex d,(Br.br (Bm (ks.drop i) (fs.map (·.1))).isSome (.leaf (.exit 1,([.ref 1 0 (o++AT ((Bm (ks.drop i) (fs.map (·.1))).getD []) up o.length).length],[none,some (.row false none NCd (o++AT ((Bm (ks.drop i) (fs.map (·.1))).getD []) up o.length))]))) (.leaf (.ret,([.ref 1 0 0,.b false],[none,some (.row false none NCd [])]))):Br (Ex×Dt)).run=some (ex,d)->Runs prog (JK k n) (Ab [(12,dmE k)]) 1 (body f144 0) (dmE k) ([.ref 1 0 o.length,.ref 2 0 fs.length,.j (up:Int),.sl (.tree LCd) ks,.j (ks.length:Int),.j (i:Int)],[none,some (.row false none NCd o),some (.row ro none PCd fs)]) ex d
 | 0,i,ro,o,hi,ho,ex,d,h=>by
  have hr:=Q2 n k o.length fs.length ro up ks ks.length i o fs
  rw [Ac (dcF (by omega))] at hr
  rw [drop_eq_nil_of_le (by omega),Bm] at h
  have h8:=Ao (show (Br.leaf (.exit 1,([.ref 1 0 (o++AT [] up o.length).length],[none,some (.row false none NCd (o++AT [] up o.length))])):Br (Ex×Dt)).run=some (ex,d) from h)
  obtain ⟨rfl,rfl⟩:=Prod.mk.inj h8
  rw [AT,append_nil]
  exact .stop _ _ _ hr (by simp)
 | j+1,i,ro,o,hi,ho,ex,d,h=>by
  have hl:i<ks.length:=by omega
  have hr:=Q2 n k o.length fs.length ro up ks ks.length i o fs
  have W1:i64.wrap ((i:Int)+1)=((i+1:Nat):Int):=by rw [Aw (by omega) (by omega)]; omega
  have hd:=drop_eq_getElem_cons hl
  have hm:=getElem_mem hl
  obtain ⟨hp,hrz⟩:=BM hks _ hm
  have hcz:=Cb hm
  rw [Ag (dcT (by omega)),Aa (by simp only [anE,dcE]; omega),ntN,gtE hl,Am,W1,drop_zero,take_length] at hr
  have hst:=Dr ks[i] (ks.drop (i+1)) (fs.map (·.1))
  rw [<-hd,TA] at hst
  rw [hd,A1,add_mul] at ho
  have hpos:=Ck ks[i]
  generalize ks[i]=p at hr hst ho hp hrz hcz hpos
  have bad : ∀ {w},Av prog (JK k n) (Ab [(12,dmE k)]) 1 (body f144 0) (dmE k) ([.ref 1 0 o.length,.ref 2 0 fs.length,.j (up:Int),.sl (.tree LCd) ks,.j (ks.length:Int),.j (i:Int)],[none,some (.row false none NCd o),some (.row ro none PCd fs)])=w->w=some ((.ret:Ex),(([.ref 1 0 0,.b false]:List V),[none,some (.row false none NCd [])]))->(Bm (ks.drop i) (fs.map (·.1)))=none->Runs prog (JK k n) (Ab [(12,dmE k)]) 1 (body f144 0) (dmE k) ([.ref 1 0 o.length,.ref 2 0 fs.length,.j (up:Int),.sl (.tree LCd) ks,.j (ks.length:Int),.j (i:Int)],[none,some (.row false none NCd o),some (.row ro none PCd fs)]) ex d:=fun e1 e2 e3=>by
   rw [e3] at h
   have h8:=Ao (show (Br.leaf (.ret,([.ref 1 0 0,.b false],[none,some (.row false none NCd [])])):Br (Ex×Dt)).run=some (ex,d) from h)
   obtain ⟨rfl,rfl⟩:=Prod.mk.inj h8
   exact .stop _ _ _ (e1.trans e2) (by simp)
  by_cases q:Au (fun z:Pl=>z.1.1==p.lab.2.2.1) 0 fs<0
  ·rw [IE _ _ _ q] at hst
   rw [Ag (dcT q)] at hr
   dsimp only [map_none] at hst
   cases hmu:p.lab.2.2.2.1 with
   | true=>
    rw [hmu] at hr hst
    exact bad hr rfl (hst.trans (if_pos rfl))
   | false=>
    rw [hmu] at hr hst
    rw [if_neg (by simp)] at hst
    have ih:=JY n k ks hks hcn hlen fs hfs hmx hfb up j (i+1) true o (by omega) (by omega) ex d (by rw [<-hst]; exact h)
    exact .step _ _ _ _ hr ih
  ·obtain ⟨q0,hq0,hq1,hq2,hq3⟩:=Gw (fun z:Pl=>z.1.1==p.lab.2.2.1) fs 0 (by omega)
   rw [hq3] at hst
   dsimp only [map_some] at hst
   have hno:fs[q0].1.1=p.lab.2.2.1:=by simpa using hq2
   have hmem:fs[q0].1∈fs.map (·.1):=mem_map.2 ⟨_,getElem_mem hq0,rfl⟩
   have hml:=KX hmem
   have hkd:=Ej (all_eq_true.1 hfb _ (getElem_mem hq0))
   rw [Ac (dcF q),hq1,zero_add,Aa (by simp only [anE,dcE]; omega),ntN,zero_add,gtE hq0,Am] at hr
   generalize fs[q0].1=f at hr hst hno hml hkd
   unfold LP at hst
   rw [hno] at hst
   by_cases hk0:f.2.1=0
   ·have hb0:(f.2.1==0)=true:=by rw [hk0]; rfl
    cases hfk:fkB p with
    | false=>
     rw [hfk] at hr hst
     rw [if_neg (by rw [hb0]; simp)] at hst
     rw [Ag (by rw [hk0]; rfl)] at hr
     exact bad hr rfl hst
    | true=>
     rw [hfk] at hr hst
     rw [if_pos hb0,if_pos hb0] at hst
     rw [Ac (by rw [hk0]; rfl),Ag hb0,Aa (dcT ⟨rfl,by omega⟩)] at hr
     cases hn:A9 p f.2.2.1 p.lab.2.2.1 with
     | none=>
      rw [hn] at hr hst
      exact bad hr rfl hst
     | some v=>
      rw [hn] at hr hst
      dsimp only at hst
      have hv:Bw v up o.length=[(f.2.2.1,[],p.lab.2.2.1,(up:Int),false,())]:=by
       unfold A9 at hn
       split at hn
       ·cases hn; rw [Bw,AT]
       ·cases hn
      have h':=Yi (up:=up) (o:=o) hst h
      have hmul:1<=Aq p*(mxD (fs.map (·.1))+1):=mul_pos hpos (by omega)
      have ih:=JY n k ks hks hcn hlen fs hfs hmx hfb up j (i+1) true (o++Bw v up o.length) (by omega) (by rw [hv,length_append,length_singleton]; omega) ex d h'
      rw [hv,length_append,length_singleton] at ih
      exact .step _ _ _ _ hr ih
   ·have hb0:(f.2.1==0)=false:=beq_eq_false_iff_ne.2 hk0
    cases hfk:fkB p with
    | true=>
     rw [hfk] at hr hst
     rw [if_neg (by rw [hb0]; simp)] at hst
     rw [if_pos rfl,Ag (bne_iff_ne.2 hk0)] at hr
     exact bad hr rfl hst
    | false=>
     rw [hfk] at hr hst
     rw [if_pos hb0,if_neg (by rw [hb0]; simp)] at hst
     rw [if_neg (by simp)] at hr
     have hk2:f.2.1=2:=by rcases hkd with e | e; exact absurd e hk0; exact e
     have hml2:Aq p*(f.2.2.2.1.length+1)<=Aq p*(mxD (fs.map (·.1))+1):=mul_le_mul_left _ (by omega)
     rw [Ac (by rw [hk2]; rfl),Ac hb0,Aa (dcT ⟨rfl,by omega,hrz,by omega,by omega⟩)] at hr
     cases hn:AU p f.2.2.2.1 p.lab.2.2.1 with
     | none=>
      rw [hn] at hr hst
      exact bad hr rfl hst
     | some v=>
      have hsz:=E8 p _ _ v hn
      have hdo:Bs p f.2.2.2.1 p.lab.2.2.1 up o=o++Bw v up o.length:=by unfold Bs; rw [hn]
      rw [hn,hdo] at hr
      rw [hn] at hst
      dsimp only at hst
      have hl2:=Gu v up o.length
      have h':=Yi (up:=up) (o:=o) hst h
      have ih:=JY n k ks hks hcn hlen fs hfs hmx hfb up j (i+1) true (o++Bw v up o.length) (by omega) (by rw [length_append,hl2]; omega) ex d h'
      exact .step _ _ _ _ hr ih
theorem Ae4 (n k:Nat):Ar prog (JK k n) (Ab [(12,dmE k)]) 1 (f144.body.getD .skip):=by
 refine An (a:=body f144 0) (by kernel_rfl) fun d ex d' h=>?_
 unfold dmE at h
 dsimp only at h
 split at h
 ·rename_i m w up ks c i o ro fs
  obtain ⟨hc,hx⟩:=Ad h
  obtain ⟨rfl,rfl,rfl,h1,h2,h3,h4,h5,h6,h7,h8,h9,h10⟩:=of_decide_eq_true hc
  obtain ⟨i,rfl⟩:=eq_ofNat_of_zero_le h1
  obtain ⟨up,rfl⟩:=eq_ofNat_of_zero_le h5
  simp only [ntN] at h2 h10 hx
  exact JY n k ks h9 h8 h3 fs h4 h6 h7 up (ks.length-i) i ro o (by omega) h10 ex d' hx
 ·cases h
theorem TD {ks:List (Rose Lab)} {fs:List Pl} {i:Nat} {v:Rose AW} {up:Nat} {o:List Nd} (h:(Bm (ks.drop i) (fs.map (·.1)))=(Bm (ks.drop (i+1)) (fs.map (·.1))).map (v::·)) {ex:Ex} {d:Dt} (hd:(Br.br (Bm (ks.drop i) (fs.map (·.1))).isSome (.leaf (.exit 1,([.ref 0 0 (o++AT ((Bm (ks.drop i) (fs.map (·.1))).getD []) up o.length).length],[some (.row false none NCd (o++AT ((Bm (ks.drop i) (fs.map (·.1))).getD []) up o.length))]))) (.leaf (.ret,([.ref 0 0 0,.b false],[some (.row false none NCd [])]))):Br (Ex×Dt)).run=some (ex,d)):(Br.br (Bm (ks.drop (i+1)) (fs.map (·.1))).isSome (.leaf (.exit 1,([.ref 0 0 ((o++Bw v up o.length)++AT ((Bm (ks.drop (i+1)) (fs.map (·.1))).getD []) up (o++Bw v up o.length).length).length],[some (.row false none NCd ((o++Bw v up o.length)++AT ((Bm (ks.drop (i+1)) (fs.map (·.1))).getD []) up (o++Bw v up o.length).length))]))) (.leaf (.ret,([.ref 0 0 0,.b false],[some (.row false none NCd [])]))):Br (Ex×Dt)).run=some (ex,d):=by
 rw [h] at hd
 cases e:(Bm (ks.drop (i+1)) (fs.map (·.1))) with
 | none=>rw [e] at hd; exact hd
 | some vs=>
  rw [e] at hd
  refine Eq.trans ?_ hd
  show some _=some _
  rw [show ((Option.map (v::·) (some vs)).getD [])=v::vs from rfl,show ((some vs).getD [])=vs from rfl]
  simp only [AT,length_append,append_assoc]
theorem Ie (n k:Nat) (ks:List (Rose Lab)) (hks:B9 5 ks=true) (hcn:A1 ks<=k) (hlen:ks.length<=1000000) (fs:List Pl) (hfs:fs.length<=40) (hmx:mxD (fs.map (·.1))<=400) (hfb:(fs.all fun x=>AX x.1)=true) (up:Nat) : ∀ (j i:Nat) (ro:Bool) (o:List Nd),i+j=ks.length->o.length+A1 (ks.drop i)*(mxD (fs.map (·.1))+1)<=1000000->∀ ex d,(Br.br (Bm (ks.drop i) (fs.map (·.1))).isSome (.leaf (.exit 1,([.ref 0 0 (o++AT ((Bm (ks.drop i) (fs.map (·.1))).getD []) up o.length).length],[some (.row false none NCd (o++AT ((Bm (ks.drop i) (fs.map (·.1))).getD []) up o.length))]))) (.leaf (.ret,([.ref 0 0 0,.b false],[some (.row false none NCd [])]))):Br (Ex×Dt)).run=some (ex,d)->Runs prog (JK k n) (Ab [(12,IG k)]) 0 (body f144 0) (IG k) ([.ref 0 0 o.length,.ref 1 0 fs.length,.j (up:Int),.sl (.tree LCd) ks,.j (ks.length:Int),.j (i:Int)],[some (.row false none NCd o),some (.row ro none PCd fs)]) ex d
 | 0,i,ro,o,hi,ho,ex,d,h=>by
  have hr:=NA n k o.length fs.length ro up ks ks.length i o fs
  rw [Ac (dcF (by omega))] at hr
  rw [drop_eq_nil_of_le (by omega),Bm] at h
  have h8:=Ao (show (Br.leaf (.exit 1,([.ref 0 0 (o++AT [] up o.length).length],[some (.row false none NCd (o++AT [] up o.length))])):Br (Ex×Dt)).run=some (ex,d) from h)
  obtain ⟨rfl,rfl⟩:=Prod.mk.inj h8
  rw [AT,append_nil]
  exact .stop _ _ _ hr (by simp)
 | j+1,i,ro,o,hi,ho,ex,d,h=>by
  have hl:i<ks.length:=by omega
  have hr:=NA n k o.length fs.length ro up ks ks.length i o fs
  have W1:i64.wrap ((i:Int)+1)=((i+1:Nat):Int):=by rw [Aw (by omega) (by omega)]; omega
  have hd:=drop_eq_getElem_cons hl
  have hm:=getElem_mem hl
  obtain ⟨hp,hrz⟩:=BM hks _ hm
  have hcz:=Cb hm
  rw [Ag (dcT (by omega)),Aa (by simp only [anE,dcE]; omega),ntN,gtE hl,Am,W1,drop_zero,take_length] at hr
  have hst:=Dr ks[i] (ks.drop (i+1)) (fs.map (·.1))
  rw [<-hd,TA] at hst
  rw [hd,A1,add_mul] at ho
  have hpos:=Ck ks[i]
  generalize ks[i]=p at hr hst ho hp hrz hcz hpos
  have bad : ∀ {w},Av prog (JK k n) (Ab [(12,IG k)]) 0 (body f144 0) (IG k) ([.ref 0 0 o.length,.ref 1 0 fs.length,.j (up:Int),.sl (.tree LCd) ks,.j (ks.length:Int),.j (i:Int)],[some (.row false none NCd o),some (.row ro none PCd fs)])=w->w=some ((.ret:Ex),(([.ref 0 0 0,.b false]:List V),[some (.row false none NCd [])]))->(Bm (ks.drop i) (fs.map (·.1)))=none->Runs prog (JK k n) (Ab [(12,IG k)]) 0 (body f144 0) (IG k) ([.ref 0 0 o.length,.ref 1 0 fs.length,.j (up:Int),.sl (.tree LCd) ks,.j (ks.length:Int),.j (i:Int)],[some (.row false none NCd o),some (.row ro none PCd fs)]) ex d:=fun e1 e2 e3=>by
   rw [e3] at h
   have h8:=Ao (show (Br.leaf (.ret,([.ref 0 0 0,.b false],[some (.row false none NCd [])])):Br (Ex×Dt)).run=some (ex,d) from h)
   obtain ⟨rfl,rfl⟩:=Prod.mk.inj h8
   exact .stop _ _ _ (e1.trans e2) (by simp)
  by_cases q:Au (fun z:Pl=>z.1.1==p.lab.2.2.1) 0 fs<0
  ·rw [IE _ _ _ q] at hst
   rw [Ag (dcT q)] at hr
   dsimp only [map_none] at hst
   cases hmu:p.lab.2.2.2.1 with
   | true=>
    rw [hmu] at hr hst
    exact bad hr rfl (hst.trans (if_pos rfl))
   | false=>
    rw [hmu] at hr hst
    rw [if_neg (by simp)] at hst
    have ih:=Ie n k ks hks hcn hlen fs hfs hmx hfb up j (i+1) true o (by omega) (by omega) ex d (by rw [<-hst]; exact h)
    exact .step _ _ _ _ hr ih
  ·obtain ⟨q0,hq0,hq1,hq2,hq3⟩:=Gw (fun z:Pl=>z.1.1==p.lab.2.2.1) fs 0 (by omega)
   rw [hq3] at hst
   dsimp only [map_some] at hst
   have hno:fs[q0].1.1=p.lab.2.2.1:=by simpa using hq2
   have hmem:fs[q0].1∈fs.map (·.1):=mem_map.2 ⟨_,getElem_mem hq0,rfl⟩
   have hml:=KX hmem
   have hkd:=Ej (all_eq_true.1 hfb _ (getElem_mem hq0))
   rw [Ac (dcF q),hq1,zero_add,Aa (by simp only [anE,dcE]; omega),ntN,zero_add,gtE hq0,Am] at hr
   generalize fs[q0].1=f at hr hst hno hml hkd
   unfold LP at hst
   rw [hno] at hst
   by_cases hk0:f.2.1=0
   ·have hb0:(f.2.1==0)=true:=by rw [hk0]; rfl
    cases hfk:fkB p with
    | false=>
     rw [hfk] at hr hst
     rw [if_neg (by rw [hb0]; simp)] at hst
     rw [Ag (by rw [hk0]; rfl)] at hr
     exact bad hr rfl hst
    | true=>
     rw [hfk] at hr hst
     rw [if_pos hb0,if_pos hb0] at hst
     rw [Ac (by rw [hk0]; rfl),Ag hb0,Aa (dcT ⟨rfl,by omega⟩)] at hr
     cases hn:A9 p f.2.2.1 p.lab.2.2.1 with
     | none=>
      rw [hn] at hr hst
      exact bad hr rfl hst
     | some v=>
      rw [hn] at hr hst
      dsimp only at hst
      have hv:Bw v up o.length=[(f.2.2.1,[],p.lab.2.2.1,(up:Int),false,())]:=by
       unfold A9 at hn
       split at hn
       ·cases hn; rw [Bw,AT]
       ·cases hn
      have h':=TD (up:=up) (o:=o) hst h
      have hmul:1<=Aq p*(mxD (fs.map (·.1))+1):=mul_pos hpos (by omega)
      have ih:=Ie n k ks hks hcn hlen fs hfs hmx hfb up j (i+1) true (o++Bw v up o.length) (by omega) (by rw [hv,length_append,length_singleton]; omega) ex d h'
      rw [hv,length_append,length_singleton] at ih
      exact .step _ _ _ _ hr ih
   ·have hb0:(f.2.1==0)=false:=beq_eq_false_iff_ne.2 hk0
    cases hfk:fkB p with
    | true=>
     rw [hfk] at hr hst
     rw [if_neg (by rw [hb0]; simp)] at hst
     rw [if_pos rfl,Ag (bne_iff_ne.2 hk0)] at hr
     exact bad hr rfl hst
    | false=>
     rw [hfk] at hr hst
     rw [if_pos hb0,if_neg (by rw [hb0]; simp)] at hst
     rw [if_neg (by simp)] at hr
     have hk2:f.2.1=2:=by rcases hkd with e | e; exact absurd e hk0; exact e
     have hml2:Aq p*(f.2.2.2.1.length+1)<=Aq p*(mxD (fs.map (·.1))+1):=mul_le_mul_left _ (by omega)
     rw [Ac (by rw [hk2]; rfl),Ac hb0,Aa (dcT ⟨rfl,by omega,hrz,by omega,by omega⟩)] at hr
     cases hn:AU p f.2.2.2.1 p.lab.2.2.1 with
     | none=>
      rw [hn] at hr hst
      exact bad hr rfl hst
     | some v=>
      have hsz:=E8 p _ _ v hn
      have hdo:Bs p f.2.2.2.1 p.lab.2.2.1 up o=o++Bw v up o.length:=by unfold Bs; rw [hn]
      rw [hn,hdo] at hr
      rw [hn] at hst
      dsimp only at hst
      have hl2:=Gu v up o.length
      have h':=TD (up:=up) (o:=o) hst h
      have ih:=Ie n k ks hks hcn hlen fs hfs hmx hfb up j (i+1) true (o++Bw v up o.length) (by omega) (by rw [length_append,hl2]; omega) ex d h'
      exact .step _ _ _ _ hr ih
theorem Ada (n k:Nat):Ar prog (JK k n) (Ab [(12,IG k)]) 0 (f144.body.getD .skip):=by
 refine An (a:=body f144 0) (by kernel_rfl) fun d ex d' h=>?_
 unfold IG at h
 dsimp only at h
 split at h
 ·rename_i m w up ks c i o ro fs
  obtain ⟨hc,hx⟩:=Ad h
  obtain ⟨rfl,rfl,rfl,h1,h2,h3,h4,h5,h6,h7,h8,h9,h10⟩:=of_decide_eq_true hc
  obtain ⟨i,rfl⟩:=eq_ofNat_of_zero_le h1
  obtain ⟨up,rfl⟩:=eq_ofNat_of_zero_le h5
  simp only [ntN] at h2 h10 hx
  exact Ie n k ks h9 h8 h3 fs h4 h6 h7 up (ks.length-i) i ro o (by omega) h10 ex d' hx
 ·cases h
def NM (z:Rose Lab) (s:List UInt8):Bool:=decide (s.length<=400)&&(AU z s 0).isSome
def Aa8 (z:Rose Lab) (s:List UInt8):List Nd:=bif NM z s then Bs z s 0 (-1) [] else []
def QZ:Gm
 | [.tp LCd z 0,.s s],[]=>.need (decide (CX z=true/\s.length<=4000000000)) (.leaf (.tup [.ref 0 0 (Aa8 z s).length,.b (NM z s)],[some (.row false none NCd (Aa8 z s))]))
 | _,_=>.no
theorem WC {s:List UInt8} {l:List Pl} (h:CL s=some l):GX s=some (l.map (·.1)):=by rw [Oc,h]; rfl
theorem MJ {s:List UInt8} {l:List Pl} (h:CL s=some l):l.length<=40/\(l.all fun x=>AX x.1)=true/\mxD (l.map (·.1))<=s.length/\mxD (l.map (·.1))<=400:=by
 obtain ⟨h1,h2,h3⟩:=Ob (WC h)
 have h4:mxD (l.map (·.1))<=s.length:=Tv fun f hf=>(h1 f hf).2
 refine ⟨?_,all_eq_true.2 fun x hx=>(h1 _ (mem_map.2 ⟨x,hx,rfl⟩)).1,h4,by omega⟩
 unfold CL at h
 cases e:rdP s with
 | none=>rw [e] at h; cases h
 | some l'=>
  rw [e] at h
  dsimp only at h
  have:=(Of e).1
  split at h
  ·cases h; exact this
  ·cases h
theorem CM {z:Rose Lab} (h:At z=true):Cm z.lab z.kids=true/\B9 z.lab.1 z.kids=true:=by
 obtain ⟨x,ks⟩:=z
 rw [At,anE] at h
 exact h
theorem Dn {z:Rose Lab} (h:At z=true) (h4:z.lab.1=4):z.kids.length=1/\z.kids.all At=true:=by
 obtain ⟨h1,h2⟩:=CM h
 refine ⟨?_,all_eq_true.2 fun y hy=>(BM h2 y hy).2⟩
 unfold Cm at h1
 rw [if_neg (by omega),if_neg (by omega),if_pos h4,anE] at h1
 simpa using h1.2
theorem Gk {z:Rose Lab} (h:At z=true) (h4:z.lab.1≠4):B9 5 z.kids=true:=by
 obtain ⟨h1,h2⟩:=CM h
 by_cases h5:z.lab.1=5
 ·rw [h5] at h2; exact h2
 ·unfold Cm at h1
  have e:z.kids=[]:=by
   split at h1
   ·rw [anE] at h1; exact List.eq_nil_of_length_eq_zero (by simpa using h1.2)
   ·split at h1
    ·rw [anE] at h1; exact List.eq_nil_of_length_eq_zero (by simpa using h1.2)
    ·rw [if_pos (.inl h5)] at h1; cases h1
  rw [e]; rfl
theorem E7 {z:Rose Lab} {s:List UInt8} {no:Int} (h:z.lab.1=2):AU z s no=if s.length<=30 then some (.node (0,s,no,false,()) []) else none:=by
 obtain ⟨x,ks⟩:=z
 have h:x.1=2:=h
 rw [AU,if_pos h]
theorem E9 {z:Rose Lab} {s:List UInt8} {no:Int} (h:z.lab.1=4):AU z s no=(Ho z.kids s).map fun vs=>.node (0,[],no,true,()) vs:=by
 obtain ⟨x,ks⟩:=z
 have h:x.1=4:=h
 rw [AU,if_neg (by omega),if_pos h]; rfl
theorem FZ {z:Rose Lab} {s:List UInt8} {no:Int} (h:z.lab.1≠2) (h4:z.lab.1≠4):AU z s no=(match GX s with
   | some fs=>(Bm z.kids fs).map fun vs=>.node (0,[],no,true,()) vs
   | none=>none):=by
 obtain ⟨x,ks⟩:=z
 have h:x.1≠2:=h
 have h4:x.1≠4:=h4
 rw [AU,if_neg h,if_neg h4]; rfl
theorem Ac9 (n:Nat) (z:Rose Lab) (m:Nat) (s:List UInt8) (no up:Int) (nl:Option Bool) (o:List Nd) (hc:m=o.length/\s.length<=400/\At z=true/\Aq z<=(n+1)/\o.length+Aq z*(s.length+1)<=1000000):Df prog (Ab [(180,.own (dlN (n+1))),(150,.rd1 WD),(181,.mix V2),(183,.rd1 UL),(184,.own N9),(144,.own (Mr n))]) (Ab [(12,dmE n)]) f144 [.tp LCd z 0,.ref 0 0 m,.s s,.j no,.j up] [.row false nl NCd o]=some (.tup [.ref 1 0 (Bs z s no up o).length,.b (AU z s no).isSome],[none,some (.row false none NCd (Bs z s no up o))]):=by
 obtain ⟨rfl,h2,h3,h4,h5⟩:=hc
 rw [ZL]
 have hM:maxI=9223372036854775807:=rfl
 have hcp:=Ck z
 have hck:=Cp z
 have hlen:=C6 z.kids
 have h6:1<=Aq z*(s.length+1):=mul_pos hcp (by omega)
 have h7:Aq z*(s.length+1)=A1 z.kids*s.length+A1 z.kids+s.length+1:=by rw [hck,add_mul,mul_add]; omega
 have el:(decide ((o.length+1)*48<=140737488355328)&&decide (o.length+1<=maxI))=true:=by simp only [anE,dcE]; omega
 simp only [AN,drop_zero,take_length,Aa el]
 by_cases q2:z.lab.1=2
 ·rw [Ag (beq_iff_eq.2 q2)]
  unfold Bs
  rw [E7 q2,if_pos q2]
  by_cases q3:s.length<=30
  ·rw [if_pos q3,dcT (by omega)]
   dsimp only
   rw [Bw,AT,length_append,length_singleton]
   rfl
  ·rw [if_neg q3,dcF (by omega)]
   dsimp only
   rw [length_append,length_singleton]
   rfl
 ·rw [Ac (beq_eq_false_iff_ne.2 q2)]
  by_cases q4:z.lab.1=4
  ·obtain ⟨k1,k2⟩:=Dn h3 q4
   rw [Ag (beq_iff_eq.2 q4),Aa (dcT ⟨by simp,by omega,h2,k1,k2,h4,by simp; omega⟩)]
   unfold Bs GT
   rw [E9 q4,if_neg q2]
   cases Ho z.kids s with
   | none=>rfl
   | some vs=>
    dsimp only [Option.map]
    rw [Bw]
    simp only [length_append,length_singleton,ntN,append_assoc,List.singleton_append]
    all_goals rfl
  ·rw [Ac (beq_eq_false_iff_ne.2 q4),Aa (dcT (by omega))]
   unfold Bs
   rw [FZ q2 q4,if_neg q2]
   cases hr:CL s with
   | none=>rw [Oc,hr]; rfl
   | some w=>
    obtain ⟨f1,f2,f3,f4⟩:=MJ hr
    rw [WC hr]
    have h8:A1 z.kids*(mxD (w.map (·.1))+1)<=A1 z.kids*(s.length+1):=mul_le_mul_left _ (by omega)
    have h9:A1 z.kids*(s.length+1)=A1 z.kids*s.length+A1 z.kids:=by rw [mul_add,mul_one]
    dsimp only [isSome,getD]
    rw [Bool.not_true,AS,Aa (dcT ⟨by simp,by first | trivial | rfl,by first | trivial | rfl,by omega,by omega,by omega,f1,by omega,f4,f2,by omega,Gk h3 q4,by simp; omega⟩),ntN]
    cases Bm z.kids (w.map (·.1)) with
    | none=>rfl
    | some vs=>
     dsimp only [Option.map,isSome,getD]
     rw [Bw,Be]
     simp only [length_append,length_singleton,append_assoc,List.singleton_append]
     all_goals rfl
theorem ZP : ∀ n,(∀ m,m<n->Af prog 144 (Ent.own (Mr m)).F)->Af prog 144 (Ent.own (Mr n)).F
 | 0,_=>BD fun vs bs=>by
  unfold Ent.F Mr
  dsimp only
  split
  ·rename_i z m s no up nl o
   have hz:=Ck z
   have:decide (m=o.length/\s.length<=400/\At z=true/\Aq z<=0/\o.length+Aq z*(s.length+1)<=1000000)=false:=dcF (by omega)
   rw [this]; rfl
  ·rfl
 | n+1,ihs=>by
  have ih:=ihs n (Nat.lt_succ_self n)
  have hl:=Yl n ih
  refine A8 (kc func180 hl (kc func150 ris (kc func181 Yn (kc func183 kfk (kc func184 Ac8 (kc func144 ih KnowsL.nil)))))).knows (Λ:=(Ab [(12,dmE n)])) func144 (c:=f144.body.getD .skip) (by kernel_rfl) fun vs bs r hq hv hb=>?_
  unfold Ent.F Mr at hq
  dsimp only at hq
  split at hq
  ·rename_i z m s no up nl o
   obtain ⟨hc,hx⟩:=Ad hq
   exact ⟨Ae4 (n+1) n,(Ac9 n z m s no up nl o (of_decide_eq_true hc)).trans hx⟩
  ·cases hq
theorem ZQ (n:Nat):Af prog 144 (Ent.own (Mr n)).F:=Nat.strongRecOn n fun n h=>ZP n h
theorem ZM (n:Nat) (z:Rose Lab) (s:List UInt8) (no up:Int) (h1:z.lab.1=5) (h2:s.length<=400) (h3:At z=true) (h4:Aq z<=n+1) (h5:Aq z*(s.length+1)<=1000000):Df prog (Ab [(180,.own (dlN (n+1))),(150,.rd1 WD),(181,.mix V2),(183,.rd1 UL),(184,.own N9),(144,.own (Mr n))]) (Ab [(12,IG n)]) f144 [.tp LCd z 0,.nl,.s s,.j no,.j up] []=some (.tup [.ref 0 0 (Bs z s no up []).length,.b (AU z s no).isSome],[some (.row false none NCd (Bs z s no up []))]):=by
 rw [Yj]
 have hck:=Cp z
 have hlen:=C6 z.kids
 have h7:Aq z*(s.length+1)=A1 z.kids*s.length+A1 z.kids+s.length+1:=by rw [hck,add_mul,mul_add]; omega
 have q2:z.lab.1≠2:=by omega
 have q4:z.lab.1≠4:=by omega
 simp only [AN,drop_zero]
 rw [Ac (beq_eq_false_iff_ne.2 q2),Ac (beq_eq_false_iff_ne.2 q4),Aa (dcT (by omega))]
 unfold Bs
 rw [FZ q2 q4,if_neg q2]
 cases hr:CL s with
 | none=>rw [Oc,hr]; rfl
 | some w=>
  obtain ⟨f1,f2,f3,f4⟩:=MJ hr
  rw [WC hr]
  have h8:A1 z.kids*(mxD (w.map (·.1))+1)<=A1 z.kids*(s.length+1):=mul_le_mul_left _ (by omega)
  have h9:A1 z.kids*(s.length+1)=A1 z.kids*s.length+A1 z.kids:=by rw [mul_add,mul_one]
  dsimp only [isSome,getD]
  rw [Bool.not_true,AS,Aa (dcT ⟨by first | trivial | rfl,by first | trivial | rfl,by first | trivial | rfl,by omega,by omega,by omega,f1,by omega,f4,f2,by omega,Gk h3 q4,by omega⟩)]
  cases Bm z.kids (w.map (·.1)) with
  | none=>rfl
  | some vs=>
   dsimp only [Option.map,isSome,getD]
   rw [Bw]
   rfl
theorem Ys:Af prog 144 (Ent.own Yq).F:=by
 have ih:=ZQ 1000000
 have hl:=Yl 1000000 ih
 refine A8 (kc func180 hl (kc func150 ris (kc func181 Yn (kc func183 kfk (kc func184 Ac8 (kc func144 ih KnowsL.nil)))))).knows (Λ:=(Ab [(12,IG 1000000)])) func144 (c:=f144.body.getD .skip) (by kernel_rfl) fun vs bs r hq hv hb=>?_
 unfold Ent.F Yq at hq
 dsimp only at hq
 split at hq
 ·rename_i z s no up
  obtain ⟨hc,hx⟩:=Ad hq
  obtain ⟨h1,h2,h3,h5⟩:=of_decide_eq_true hc
  have h6:Aq z<=Aq z*(s.length+1):=Nat.le_mul_of_pos_right _ (by omega)
  exact ⟨Ada (1000000+1) 1000000,(ZM 1000000 z s no up h1 h2 h3 (by omega) h5).trans hx⟩
 ·cases hq
theorem Dq {z:Rose Lab} (h:CX z=true):z.lab.1=5/\At z=true/\Aq z<=30:=by
 unfold CX at h
 simp only [anE,dcE,beq_iff_eq] at h
 exact ⟨h.1.1.1.1.1.1,h.1.1.2,h.2⟩
theorem QY (z:Rose Lab) (s:List UInt8):Df prog (Ab [(144,.own Yq)]) (Ab []) f106 [.tp LCd z 0,.s s] [] =
 ((ifB (decide ((↑s.length:Int)>(400:Int))) (some (V.tup [V.ref 0 0 0,V.b false],[some (Blk.row false none NCd (Aj NCd.den))])) (ifT (decide (z.lab.fst=(5 :
 (Cd.int .i64).den)/\s.length<=400/\At z=true/\Aq z*(s.length+1)<=1000000)) (some (V.tup [V.ref 0 0 (Bs z s (0:Int) (-1 :
 Int) (Aj Nd)).length,V.b (AU z s (0:Int)).isSome],[some (Blk.row false none NCd (Bs z s (0:Int) (-1:Int) (Aj Nd)))])))):_):=by kernel_rfl
theorem TM:Af prog 106 (Ent.rd1 QZ).F:=by
 refine A8 (kc func144 Ys KnowsL.nil).knows (Λ:=Ab []) func106 (c:=f106.body.getD .skip) (by kernel_rfl) fun vs bs r hq hv hb=>?_
 unfold Ent.F QZ at hq
 dsimp only at hq
 split at hq
 ·rename_i z s
  obtain ⟨hc,hx⟩:=Ad hq
  obtain ⟨h1,h2⟩:=of_decide_eq_true hc
  obtain ⟨g1,g2,g3⟩:=Dq h1
  refine ⟨Ak _,(QY z s).trans (Eq.trans ?_ hx)⟩
  try dsimp only [shr]
  show _=some _
  unfold Aa8 NM
  by_cases q:s.length<=400
  ·have hm:Aq z*(s.length+1)<=30*401:=mul_le_mul g3 (by omega)
   rw [Ac (dcF (by omega)),Aa (dcT ⟨g1,q,g2,by omega⟩),dcT q,Bool.true_and]
   cases hd:AU z s 0 with
   | none=>
    have e:Bs z s 0 (-1) []=[]:=by unfold Bs; rw [hd,if_neg (by omega)]
    rw [e]; rfl
   | some v=>rfl
  ·rw [Ag (dcT (by omega)),dcF q]
   rfl
 ·cases hq
def QS:Rose AW:=.node (0,[],0,false,()) []
def DX (n:Int) (z:Rose Lab):Bool:=z.lab.1 != 3||(decide (0<=n/\n<=z.lab.2.2.2.2.1))
def CA (z:Rose Lab) (s:List UInt8):Rose AW:=match GX s with
 | some fs=>(match Bu z.kids fs with | some vs=>.node (0,[],0,true,()) vs | none=>QS)
 | none=>QS
def B3 (z:Rose Lab) (s:List UInt8):Rose AW:=if z.lab.1=2 then .node (0,s,0,false,()) [] else if z.lab.1=5 then CA z s else (match Ho z.kids s with
 | some vs=>.node (0,[],0,true,()) vs
 | none=>QS)
def rsN (n:Nat):Gm
 | [.s s,.agg [.i .i64 y0,.s y1,.i .i64 y2,.b y3,.i .i64 y4,.sl (.rose LCd) ys]],[]=>.need (decide (s.length<=400/\y0=5/\At (.node (y0,y1,y2,y3,y4,()) ys:Rose Lab)=true/\Aq (.node (y0,y1,y2,y3,y4,()) ys:Rose Lab)<=n/\Aq (.node (y0,y1,y2,y3,y4,()) ys:Rose Lab)<=1000000)) (.leaf (.tup [.agg [.i .i64 (CA (.node (y0,y1,y2,y3,y4,()) ys:Rose Lab) s).lab.1,.s (CA (.node (y0,y1,y2,y3,y4,()) ys:Rose Lab) s).lab.2.1,.i .i64 (CA (.node (y0,y1,y2,y3,y4,()) ys:Rose Lab) s).lab.2.2.1,.b (CA (.node (y0,y1,y2,y3,y4,()) ys:Rose Lab) s).lab.2.2.2.1,.ref 0 0 (CA (.node (y0,y1,y2,y3,y4,()) ys:Rose Lab) s).kids.length],.b (AU (.node (y0,y1,y2,y3,y4,()) ys:Rose Lab) s 0).isSome],[some (.row false none (.rose VCd) (CA (.node (y0,y1,y2,y3,y4,()) ys:Rose Lab) s).kids)]))
 | _,_=>.no
def ptN (n:Nat):Gm
 | [.s s,.agg [.i .i64 y0,.s y1,.i .i64 y2,.b y3,.i .i64 y4,.sl (.rose LCd) ys]],[]=>.need (decide (s.length<=400/\fkB (.node (y0,y1,y2,y3,y4,()) ys:Rose Lab)=false/\At (.node (y0,y1,y2,y3,y4,()) ys:Rose Lab)=true/\Aq (.node (y0,y1,y2,y3,y4,()) ys:Rose Lab)<=n/\Aq (.node (y0,y1,y2,y3,y4,()) ys:Rose Lab)<=1000000)) (.leaf (.tup [.agg [.i .i64 (B3 (.node (y0,y1,y2,y3,y4,()) ys:Rose Lab) s).lab.1,.s (B3 (.node (y0,y1,y2,y3,y4,()) ys:Rose Lab) s).lab.2.1,.i .i64 (B3 (.node (y0,y1,y2,y3,y4,()) ys:Rose Lab) s).lab.2.2.1,.b (B3 (.node (y0,y1,y2,y3,y4,()) ys:Rose Lab) s).lab.2.2.2.1,.ref 0 0 (B3 (.node (y0,y1,y2,y3,y4,()) ys:Rose Lab) s).kids.length],.b (AU (.node (y0,y1,y2,y3,y4,()) ys:Rose Lab) s 0).isSome],[some (.row false none (.rose VCd) (B3 (.node (y0,y1,y2,y3,y4,()) ys:Rose Lab) s).kids)]))
 | _,_=>.no
def NY:Gm
 | [.agg [.i .i64 y0,.s y1,.i .i64 y2,.b y3,.i .i64 y4,.sl (.rose LCd) ys]],[]=>.leaf (.b (fkB (.node (y0,y1,y2,y3,y4,()) ys:Rose Lab)),[])
 | _,_=>.no
def ES:Gm
 | [.agg [.i .i64 v0,.s _,.i .i64 _,.b _,.sl (.rose VCd) _],.agg [.i .i64 y0,.s y1,.i .i64 y2,.b y3,.i .i64 y4,.sl (.rose LCd) ys]],[]=>.leaf (.b (DX v0 (.node (y0,y1,y2,y3,y4,()) ys:Rose Lab)),[])
 | _,_=>.no
def Ez (l:List WFd) (i:Nat):Bool:=(range l.length).drop i |>.all (CS (Ed l))
def rsE (n:Nat):LoopEnt:=⟨95,[3,4,6,8,23,24,25],[3,4,8],[4,5],fun
 | ([.ptr 0 0,.ptr 1 0,.ref 2 0 w,.ptr 3 0,.ref 2 0 w2,.i .i64 c,.i .i64 i],[some (.box [.i .i64 y0,.s y1,.i .i64 y2,.b y3,.i .i64 y4,.sl (.rose LCd) ys]),some (.box [.i .i64 0,.s [],.i .i64 0,.b false,.ref 4 0 0]),some (.row false none FCd fs),some (.box [.i .i64 0,.s [],.i .i64 0,.b true,.ref 5 0 m]),some (.row false none (.rose VCd) []),some (.row false none (.rose VCd) vs)])=>.need (decide (w=fs.length/\w2=fs.length/\c=fs.length/\0<=i/\i.toNat<=fs.length/\fs.length<=40/\m=vs.length/\m<=i/\(fs.all fun x=>AX x)=true/\mxD fs<=400/\B9 5 ys=true/\A1 ys<=n/\A1 ys<=1000000)) (.br ((Ez fs i.toNat)&&(Bu ys (fs.drop i.toNat)).isSome) (.leaf (.exit 0,([.ptr 0 0,.ptr 1 0,.ptr 2 0],[some (.box [.i .i64 y0,.s y1,.i .i64 y2,.b y3,.i .i64 y4,.sl (.rose LCd) ys]),some (.box [.i .i64 0,.s [],.i .i64 0,.b false,.ref 3 0 0]),some (.box [.i .i64 0,.s [],.i .i64 0,.b true,.ref 4 0 (vs++(Bu ys (fs.drop i.toNat)).getD []).length]),some (.row false none (.rose VCd) []),some (.row false none (.rose VCd) (vs++(Bu ys (fs.drop i.toNat)).getD []))]))) (.leaf (.ret,([.ptr 0 0,.b false],[some (.box [.i .i64 0,.s [],.i .i64 0,.b false,.ref 1 0 0]),some (.row false none (.rose VCd) [])]))))
 | _=>.no⟩
def ptE (n:Nat):LoopEnt:=⟨100,[0,3,4,6,7],[4,6],[4,5],fun
 | ([.s s,.ptr 0 0,.ptr 1 0,.ptr 2 0,.i .i64 a],[some (.box [.i .i64 _,.s _,.i .i64 _,.b _,.i .i64 _,.sl (.rose LCd) ys]),some (.box [.i .i64 0,.s [],.i .i64 0,.b false,.ref 3 0 0]),some (.box [.i .i64 0,.s [],.i .i64 0,.b true,.ref 4 0 m]),some (.row false none (.rose VCd) []),some (.row false none (.rose VCd) vs)])=>.need (decide (0<=a/\a.toNat<=s.length/\s.length<=400/\m=vs.length/\m<=a/\ys.length=1/\ys.all At=true/\A1 ys<=n/\A1 ys<=1000000)) (.br (BA (fkB (hd0 ys)) (fun n=>A9 (hd0 ys) n 0) (fun d=>AU (hd0 ys) d 0) s (s.length-a.toNat) a.toNat).isSome (.leaf (.exit 1,([.ptr 0 0,.ptr 1 0],[some (.box [.i .i64 0,.s [],.i .i64 0,.b false,.ref 2 0 0]),some (.box [.i .i64 0,.s [],.i .i64 0,.b true,.ref 3 0 (vs++(BA (fkB (hd0 ys)) (fun n=>A9 (hd0 ys) n 0) (fun d=>AU (hd0 ys) d 0) s (s.length-a.toNat) a.toNat).getD []).length]),some (.row false none (.rose VCd) []),some (.row false none (.rose VCd) (vs++(BA (fkB (hd0 ys)) (fun n=>A9 (hd0 ys) n 0) (fun d=>AU (hd0 ys) d 0) s (s.length-a.toNat) a.toNat).getD []))]))) (.leaf (.ret,([.ptr 0 0,.b false],[some (.box [.i .i64 0,.s [],.i .i64 0,.b false,.ref 1 0 0]),some (.row false none (.rose VCd) [])]))))
 | _=>.no⟩
theorem YK (y0:Int) (y1:List UInt8) (y2:Int) (y3:Bool) (y4:Int) (ys:List (Rose Lab)):Ax prog (Ab []) (Ab []) f168 [.agg [.j y0,.s y1,.j y2,.b y3,.j y4,.sl (.rose LCd) ys]] []=some (.b (fkB (.node (y0,y1,y2,y3,y4,()) ys:Rose Lab)),[]):=by
 have e:Ax prog (Ab []) (Ab []) f168 [.agg [.j y0,.s y1,.j y2,.b y3,.j y4,.sl (.rose LCd) ys]] []=((ifB (y0==(1:Int)) (some (V.b true,[])) (some (V.b (y0==(3:Int)),[]))):_):=by kernel_rfl
 rw [e]
 clear e
 show _=some (V.b (y0==1||y0==3),[])
 cases y0==1<;>rfl
theorem sfk:Af prog 168 (Ent.rd1 NY).F:=by
 refine Ae KnowsL.nil.knows (Λ:=Ab []) func168 (c:=f168.body.getD .skip) (by kernel_rfl) fun vs bs r' hq hv hb=>?_
 unfold Ent.F NY at hq
 dsimp only at hq
 split at hq
 ·exact ⟨Ak _,(YK _ _ _ _ _ _ ).trans hq⟩
 ·cases hq
theorem PU (v0:Int) (v1:List UInt8) (v2:Int) (v3:Bool) (vs:List (Rose AW)) (y0:Int) (y1:List UInt8) (y2:Int) (y3:Bool) (y4:Int) (ys:List (Rose Lab)):Ax prog (Ab [(115,.rd1 A3)]) (Ab []) f170 [.agg [.j v0,.s v1,.j v2,.b v3,.sl (.rose VCd) vs],.agg [.j y0,.s y1,.j y2,.b y3,.j y4,.sl (.rose LCd) ys]] []=some (.b (DX v0 (.node (y0,y1,y2,y3,y4,()) ys:Rose Lab)),[]):=by
 have e:Ax prog (Ab [(115,.rd1 A3)]) (Ab []) f170 [.agg [.j v0,.s v1,.j v2,.b v3,.sl (.rose VCd) vs],.agg [.j y0,.s y1,.j y2,.b y3,.j y4,.sl (.rose LCd) ys]] []=((ifB (y0 != (3:Int)) (some (V.b true,[])) (some (V.b (decide ((0:Int)<=v0/\v0<=y4)),[]))):_):=by kernel_rfl
 rw [e]
 clear e
 show _=some (V.b (y0 != 3||decide (0<=v0/\v0<=y4)),[])
 cases y0 != 3<;>rfl
theorem T3:Af prog 170 (Ent.rd1 ES).F:=by
 refine Ae (kc func115 JD KnowsL.nil).knows (Λ:=Ab []) func170 (c:=f170.body.getD .skip) (by kernel_rfl) fun vs bs r' hq hv hb=>?_
 unfold Ent.F ES at hq
 dsimp only at hq
 split at hq
 ·exact ⟨Ak _,(PU _ _ _ _ _ _ _ _ _ _ _ ).trans hq⟩
 ·cases hq
theorem Ps (n:Nat) (y0:Int) (y1:List UInt8) (y2:Int) (y3:Bool) (y4:Int) (ys:List (Rose Lab)) (w w2 m:Nat) (c i:Int) (fs:List WFd) (vs:List (Rose AW)):Av prog (Ab [(167,.rd1 WN),(159,.rd1 byG),(168,.rd1 NY),(169,.rd1 (ptN n)),(170,.rd1 ES),(171,.rd1 KY)]) (Ab [(6,rsE n)]) 0 (body f133 0) (rsE n) ([.ptr 0 0,.ptr 1 0,.ref 2 0 w,.ptr 3 0,.ref 2 0 w2,.j c,.j i],[some (.box [.j y0,.s y1,.j y2,.b y3,.j y4,.sl (.rose LCd) ys]),some (.box [.j 0,.s [],.j 0,.b false,.ref 4 0 0]),some (.row false none FCd fs),some (.box [.j 0,.s [],.j 0,.b true,.ref 5 0 m]),some (.row false none (.rose VCd) []),some (.row false none (.rose VCd) vs)]) =
 ((ifB (decide (i<c)) (ifT (decide ((0:Int)<=i)&&decide (i<(↑w2:Int))) (Ai fs[0+i.toNat]? fun z=>ifB (decide (i>(0:Int))) (ifT (decide ((0 :
 Int)<=i64.wrap (i-(1:Int)))&&decide (i64.wrap (i-(1:Int))<(↑w:Int))) (Ai fs[0+(i64.wrap (i-(1:Int))).toNat]? fun
 z_1=>ifB (decide (z_1.fst>=z.fst)) (some (Ex.ret,[V.ptr 0 0,V.b false],[some (Blk.box [V.j 0,V.s (Aj UInt8),V.j 0,V.b false,V.ref 1 0 0]),some
 (Blk.row false none VCd.rose (Aj VCd.rose.den))])) (ifT (decide (ys.length<=maxI)) (ifB (B8 z.fst ys) (ifB (!fkB (Rose.node ((byR z.fst ys).lab.fst,(byR z.fst
 ys).lab.snd.fst,(byR z.fst ys).lab.snd.snd.fst,(byR z.fst ys).lab.snd.snd.snd.fst,(byR z.fst ys).lab.snd.snd.snd.snd.fst,()) (byR z.fst ys).kids)==(z.snd.fst==(0
 : Int))) (some (Ex.ret,[V.ptr 0 0,V.b false],[some (Blk.box [V.j 0,V.s (Aj UInt8),V.j 0,V.b false,V.ref 1 0 0]),some (Blk.row false none VCd.rose
 (Aj VCd.rose.den))])) (ifB (z.snd.fst==(2:Int)) (ifT (decide (List.length z.snd.snd.snd.fst<=400/\fkB (Rose.node ((byR z.fst ys).lab.fst,(byR z.fst
 ys).lab.snd.fst,(byR z.fst ys).lab.snd.snd.fst,(byR z.fst ys).lab.snd.snd.snd.fst,(byR z.fst ys).lab.snd.snd.snd.snd.fst,()) (byR z.fst ys).kids)=false/\At
 (Rose.node ((byR z.fst ys).lab.fst,(byR z.fst ys).lab.snd.fst,(byR z.fst ys).lab.snd.snd.fst,(byR z.fst ys).lab.snd.snd.snd.fst,(byR z.fst
 ys).lab.snd.snd.snd.snd.fst,()) (byR z.fst ys).kids)=true/\Aq (Rose.node ((byR z.fst ys).lab.fst,(byR z.fst ys).lab.snd.fst,(byR z.fst ys).lab.snd.snd.fst,(byR
 z.fst ys).lab.snd.snd.snd.fst,(byR z.fst ys).lab.snd.snd.snd.snd.fst,()) (byR z.fst ys).kids)<=n/\Aq (Rose.node ((byR z.fst ys).lab.fst,(byR z.fst ys).lab.snd.fst,
 (byR z.fst ys).lab.snd.snd.fst,(byR z.fst ys).lab.snd.snd.snd.fst,(byR z.fst ys).lab.snd.snd.snd.snd.fst,()) (byR z.fst ys).kids)<=1000000)) (ifB (!(AU
 (Rose.node ((byR z.fst ys).lab.fst,(byR z.fst ys).lab.snd.fst,(byR z.fst ys).lab.snd.snd.fst,(byR z.fst ys).lab.snd.snd.snd.fst,(byR z.fst
 ys).lab.snd.snd.snd.snd.fst,()) (byR z.fst ys).kids) z.snd.snd.snd.fst (0:Int)).isSome) (some (Ex.ret,[V.ptr 0 0,V.b false],[some (Blk.box [V.j 0,V.s (Aj
 UInt8),V.j 0,V.b false,V.ref 1 0 0]),some (Blk.row false none VCd.rose (Aj VCd.rose.den))])) (ifB (!DX (B3 (Rose.node ((byR z.fst ys).lab.fst,(byR z.fst
 ys).lab.snd.fst,(byR z.fst ys).lab.snd.snd.fst,(byR z.fst ys).lab.snd.snd.snd.fst,(byR z.fst ys).lab.snd.snd.snd.snd.fst,()) (byR z.fst ys).kids)
 z.snd.snd.snd.fst).lab.fst (Rose.node ((byR z.fst ys).lab.fst,(byR z.fst ys).lab.snd.fst,(byR z.fst ys).lab.snd.snd.fst,(byR z.fst ys).lab.snd.snd.snd.fst,(byR z.fst
 ys).lab.snd.snd.snd.snd.fst,()) (byR z.fst ys).kids)) (some (Ex.ret,[V.ptr 0 0,V.b false],[some (Blk.box [V.j 0,V.s (Aj UInt8),V.j 0,V.b false,V.ref 1
 0 0]),some (Blk.row false none VCd.rose (Aj VCd.rose.den))])) (ifT (decide ((m+1)*64<=140737488355328)&&decide (m+1<=maxI))
 (some (Ex.normal,[V.ptr 0 0,V.ptr 1 0,V.ref 2 0 w,V.ptr 3 0,V.ref 2 0 w2,V.j c,V.j (i64.wrap (i+(1:Int)))],[some (Blk.box [V.j y0,V.s
 y1,V.j y2,V.b y3,V.j y4,V.sl LCd.rose ys]),some (Blk.box [V.j 0,V.s (Aj UInt8),V.j 0,V.b false,V.ref 4 0 0]),some (Blk.row false none FCd
 fs),some (Blk.box [V.j 0,V.s (Aj UInt8),V.j 0,V.b true,V.ref 5 0 (m+1)]),some (Blk.row false none VCd.rose (Aj VCd.rose.den)),some (Blk.row
 false none VCd.rose (take m (drop 0 vs)++Rose.node ((B3 (Rose.node ((byR z.fst ys).lab.fst,(byR z.fst ys).lab.snd.fst,(byR z.fst
 ys).lab.snd.snd.fst,(byR z.fst ys).lab.snd.snd.snd.fst,(byR z.fst ys).lab.snd.snd.snd.snd.fst,()) (byR z.fst ys).kids) z.snd.snd.snd.fst).lab.fst,(B3 (Rose.node
 ((byR z.fst ys).lab.fst,(byR z.fst ys).lab.snd.fst,(byR z.fst ys).lab.snd.snd.fst,(byR z.fst ys).lab.snd.snd.snd.fst,(byR z.fst ys).lab.snd.snd.snd.snd.fst,()) (byR
 z.fst ys).kids) z.snd.snd.snd.fst).lab.snd.fst,z.fst,(B3 (Rose.node ((byR z.fst ys).lab.fst,(byR z.fst ys).lab.snd.fst,(byR z.fst ys).lab.snd.snd.fst,(byR z.fst
 ys).lab.snd.snd.snd.fst,(byR z.fst ys).lab.snd.snd.snd.snd.fst,()) (byR z.fst ys).kids) z.snd.snd.snd.fst).lab.snd.snd.snd.fst,()) (take (B3 (Rose.node ((byR
 z.fst ys).lab.fst,(byR z.fst ys).lab.snd.fst,(byR z.fst ys).lab.snd.snd.fst,(byR z.fst ys).lab.snd.snd.snd.fst,(byR z.fst ys).lab.snd.snd.snd.snd.fst,()) (byR z.fst
 ys).kids) z.snd.snd.snd.fst).kids.length (drop 0 (B3 (Rose.node ((byR z.fst ys).lab.fst,(byR z.fst ys).lab.snd.fst,(byR z.fst ys).lab.snd.snd.fst,(byR
 z.fst ys).lab.snd.snd.snd.fst,(byR z.fst ys).lab.snd.snd.snd.snd.fst,()) (byR z.fst ys).kids) z.snd.snd.snd.fst).kids))::Aj VCd.rose.den))])))))) (ifB (!DX
 z.snd.snd.fst (Rose.node ((byR z.fst ys).lab.fst,(byR z.fst ys).lab.snd.fst,(byR z.fst ys).lab.snd.snd.fst,(byR z.fst ys).lab.snd.snd.snd.fst,(byR z.fst
 ys).lab.snd.snd.snd.snd.fst,()) (byR z.fst ys).kids)) (some (Ex.ret,[V.ptr 0 0,V.b false],[some (Blk.box [V.j 0,V.s (Aj UInt8),V.j 0,V.b false,V.ref 1
 0 0]),some (Blk.row false none VCd.rose (Aj VCd.rose.den))])) (ifT (decide ((m+1)*64<=140737488355328)&&decide (m+1<=maxI))
 (some (Ex.normal,[V.ptr 0 0,V.ptr 1 0,V.ref 2 0 w,V.ptr 3 0,V.ref 2 0 w2,V.j c,V.j (i64.wrap (i+(1:Int)))],[some (Blk.box [V.j y0,V.s
 y1,V.j y2,V.b y3,V.j y4,V.sl LCd.rose ys]),some (Blk.box [V.j 0,V.s (Aj UInt8),V.j 0,V.b false,V.ref 4 0 0]),some (Blk.row false none FCd
 fs),some (Blk.box [V.j 0,V.s (Aj UInt8),V.j 0,V.b true,V.ref 5 0 (m+1)]),some (Blk.row false none VCd.rose (Aj VCd.rose.den)),some (Blk.row
 false none VCd.rose (take m (drop 0 vs)++Rose.node (z.snd.snd.fst,Aj UInt8,z.fst,false,()) (Aj VCd.rose.den)::Aj VCd.rose.den))]))))))
 (some (Ex.normal,[V.ptr 0 0,V.ptr 1 0,V.ref 2 0 w,V.ptr 3 0,V.ref 2 0 w2,V.j c,V.j (i64.wrap (i+(1:Int)))],[some (Blk.box [V.j y0,V.s
 y1,V.j y2,V.b y3,V.j y4,V.sl LCd.rose ys]),some (Blk.box [V.j 0,V.s (Aj UInt8),V.j 0,V.b false,V.ref 4 0 0]),some (Blk.row false none FCd
 fs),some (Blk.box [V.j 0,V.s (Aj UInt8),V.j 0,V.b true,V.ref 5 0 m]),some (Blk.row false none VCd.rose (Aj VCd.rose.den)),some (Blk.row false none
 VCd.rose vs)])))))) (ifT (decide (ys.length<=maxI)) (ifB (B8 z.fst ys) (ifB (!fkB (Rose.node ((byR z.fst ys).lab.fst,(byR z.fst ys).lab.snd.fst,(byR z.fst
 ys).lab.snd.snd.fst,(byR z.fst ys).lab.snd.snd.snd.fst,(byR z.fst ys).lab.snd.snd.snd.snd.fst,()) (byR z.fst ys).kids)==(z.snd.fst==(0:Int))) (some (Ex.ret,
 [V.ptr 0 0,V.b false],[some (Blk.box [V.j 0,V.s (Aj UInt8),V.j 0,V.b false,V.ref 1 0 0]),some (Blk.row false none VCd.rose (Aj VCd.rose.den))])) (ifB
 (z.snd.fst==(2:Int)) (ifT (decide (List.length z.snd.snd.snd.fst<=400/\fkB (Rose.node ((byR z.fst ys).lab.fst,(byR z.fst ys).lab.snd.fst,(byR z.fst
 ys).lab.snd.snd.fst,(byR z.fst ys).lab.snd.snd.snd.fst,(byR z.fst ys).lab.snd.snd.snd.snd.fst,()) (byR z.fst ys).kids)=false/\At (Rose.node ((byR z.fst
 ys).lab.fst,(byR z.fst ys).lab.snd.fst,(byR z.fst ys).lab.snd.snd.fst,(byR z.fst ys).lab.snd.snd.snd.fst,(byR z.fst ys).lab.snd.snd.snd.snd.fst,()) (byR z.fst
 ys).kids)=true/\Aq (Rose.node ((byR z.fst ys).lab.fst,(byR z.fst ys).lab.snd.fst,(byR z.fst ys).lab.snd.snd.fst,(byR z.fst ys).lab.snd.snd.snd.fst,(byR z.fst
 ys).lab.snd.snd.snd.snd.fst,()) (byR z.fst ys).kids)<=n/\Aq (Rose.node ((byR z.fst ys).lab.fst,(byR z.fst ys).lab.snd.fst,(byR z.fst ys).lab.snd.snd.fst,(byR
 z.fst ys).lab.snd.snd.snd.fst,(byR z.fst ys).lab.snd.snd.snd.snd.fst,()) (byR z.fst ys).kids)<=1000000)) (ifB (!(AU (Rose.node ((byR z.fst ys).lab.fst,(byR
 z.fst ys).lab.snd.fst,(byR z.fst ys).lab.snd.snd.fst,(byR z.fst ys).lab.snd.snd.snd.fst,(byR z.fst ys).lab.snd.snd.snd.snd.fst,()) (byR z.fst ys).kids)
 z.snd.snd.snd.fst (0:Int)).isSome) (some (Ex.ret,[V.ptr 0 0,V.b false],[some (Blk.box [V.j 0,V.s (Aj UInt8),V.j 0,V.b false,V.ref 1 0 0]),some
 (Blk.row false none VCd.rose (Aj VCd.rose.den))])) (ifB (!DX (B3 (Rose.node ((byR z.fst ys).lab.fst,(byR z.fst ys).lab.snd.fst,(byR z.fst ys).lab.snd.snd.fst,
 (byR z.fst ys).lab.snd.snd.snd.fst,(byR z.fst ys).lab.snd.snd.snd.snd.fst,()) (byR z.fst ys).kids) z.snd.snd.snd.fst).lab.fst (Rose.node ((byR z.fst ys).lab.fst,(byR
 z.fst ys).lab.snd.fst,(byR z.fst ys).lab.snd.snd.fst,(byR z.fst ys).lab.snd.snd.snd.fst,(byR z.fst ys).lab.snd.snd.snd.snd.fst,()) (byR z.fst ys).kids)) (some
 (Ex.ret,[V.ptr 0 0,V.b false],[some (Blk.box [V.j 0,V.s (Aj UInt8),V.j 0,V.b false,V.ref 1 0 0]),some (Blk.row false none VCd.rose (Aj
 VCd.rose.den))])) (ifT (decide ((m+1)*64<=140737488355328)&&decide (m+1<=maxI)) (some (Ex.normal,[V.ptr 0 0,V.ptr 1 0,V.ref 2
 0 w,V.ptr 3 0,V.ref 2 0 w2,V.j c,V.j (i64.wrap (i+(1:Int)))],[some (Blk.box [V.j y0,V.s y1,V.j y2,V.b y3,V.j y4,V.sl
 LCd.rose ys]),some (Blk.box [V.j 0,V.s (Aj UInt8),V.j 0,V.b false,V.ref 4 0 0]),some (Blk.row false none FCd fs),some (Blk.box [V.j 0,V.s (Aj
 UInt8),V.j 0,V.b true,V.ref 5 0 (m+1)]),some (Blk.row false none VCd.rose (Aj VCd.rose.den)),some (Blk.row false none VCd.rose (take m
 (drop 0 vs)++Rose.node ((B3 (Rose.node ((byR z.fst ys).lab.fst,(byR z.fst ys).lab.snd.fst,(byR z.fst ys).lab.snd.snd.fst,(byR z.fst
 ys).lab.snd.snd.snd.fst,(byR z.fst ys).lab.snd.snd.snd.snd.fst,()) (byR z.fst ys).kids) z.snd.snd.snd.fst).lab.fst,(B3 (Rose.node ((byR z.fst ys).lab.fst,(byR
 z.fst ys).lab.snd.fst,(byR z.fst ys).lab.snd.snd.fst,(byR z.fst ys).lab.snd.snd.snd.fst,(byR z.fst ys).lab.snd.snd.snd.snd.fst,()) (byR z.fst ys).kids)
 z.snd.snd.snd.fst).lab.snd.fst,z.fst,(B3 (Rose.node ((byR z.fst ys).lab.fst,(byR z.fst ys).lab.snd.fst,(byR z.fst ys).lab.snd.snd.fst,(byR z.fst
 ys).lab.snd.snd.snd.fst,(byR z.fst ys).lab.snd.snd.snd.snd.fst,()) (byR z.fst ys).kids) z.snd.snd.snd.fst).lab.snd.snd.snd.fst,()) (take (B3 (Rose.node ((byR
 z.fst ys).lab.fst,(byR z.fst ys).lab.snd.fst,(byR z.fst ys).lab.snd.snd.fst,(byR z.fst ys).lab.snd.snd.snd.fst,(byR z.fst ys).lab.snd.snd.snd.snd.fst,()) (byR z.fst
 ys).kids) z.snd.snd.snd.fst).kids.length (drop 0 (B3 (Rose.node ((byR z.fst ys).lab.fst,(byR z.fst ys).lab.snd.fst,(byR z.fst ys).lab.snd.snd.fst,(byR
 z.fst ys).lab.snd.snd.snd.fst,(byR z.fst ys).lab.snd.snd.snd.snd.fst,()) (byR z.fst ys).kids) z.snd.snd.snd.fst).kids))::Aj VCd.rose.den))])))))) (ifB (!DX
 z.snd.snd.fst (Rose.node ((byR z.fst ys).lab.fst,(byR z.fst ys).lab.snd.fst,(byR z.fst ys).lab.snd.snd.fst,(byR z.fst ys).lab.snd.snd.snd.fst,(byR z.fst
 ys).lab.snd.snd.snd.snd.fst,()) (byR z.fst ys).kids)) (some (Ex.ret,[V.ptr 0 0,V.b false],[some (Blk.box [V.j 0,V.s (Aj UInt8),V.j 0,V.b false,V.ref 1
 0 0]),some (Blk.row false none VCd.rose (Aj VCd.rose.den))])) (ifT (decide ((m+1)*64<=140737488355328)&&decide (m+1<=maxI))
 (some (Ex.normal,[V.ptr 0 0,V.ptr 1 0,V.ref 2 0 w,V.ptr 3 0,V.ref 2 0 w2,V.j c,V.j (i64.wrap (i+(1:Int)))],[some (Blk.box [V.j y0,V.s
 y1,V.j y2,V.b y3,V.j y4,V.sl LCd.rose ys]),some (Blk.box [V.j 0,V.s (Aj UInt8),V.j 0,V.b false,V.ref 4 0 0]),some (Blk.row false none FCd
 fs),some (Blk.box [V.j 0,V.s (Aj UInt8),V.j 0,V.b true,V.ref 5 0 (m+1)]),some (Blk.row false none VCd.rose (Aj VCd.rose.den)),some (Blk.row
 false none VCd.rose (take m (drop 0 vs)++Rose.node (z.snd.snd.fst,Aj UInt8,z.fst,false,()) (Aj VCd.rose.den)::Aj VCd.rose.den))]))))))
 (some (Ex.normal,[V.ptr 0 0,V.ptr 1 0,V.ref 2 0 w,V.ptr 3 0,V.ref 2 0 w2,V.j c,V.j (i64.wrap (i+(1:Int)))],[some (Blk.box [V.j y0,V.s
 y1,V.j y2,V.b y3,V.j y4,V.sl LCd.rose ys]),some (Blk.box [V.j 0,V.s (Aj UInt8),V.j 0,V.b false,V.ref 4 0 0]),some (Blk.row false none FCd
 fs),some (Blk.box [V.j 0,V.s (Aj UInt8),V.j 0,V.b true,V.ref 5 0 m]),some (Blk.row false none VCd.rose (Aj VCd.rose.den)),some (Blk.row false none
 VCd.rose vs)])))))) (some (Ex.exit 0,[V.ptr 0 0,V.ptr 1 0,V.ptr 2 0],[some (Blk.box [V.j y0,V.s y1,V.j y2,V.b y3,V.j y4,V.sl LCd.rose ys]),some
 (Blk.box [V.j 0,V.s (Aj UInt8),V.j 0,V.b false,V.ref 3 0 0]),some (Blk.box [V.j 0,V.s (Aj UInt8),V.j 0,V.b true,V.ref 4 0 m]),some
 (Blk.row false none VCd.rose (Aj VCd.rose.den)),some (Blk.row false none VCd.rose vs)]))):_):=by kernel_rfl
theorem YO (n:Nat) (s:List UInt8) (y0:Int) (y1:List UInt8) (y2:Int) (y3:Bool) (y4:Int) (ys:List (Rose Lab)):Df prog (Ab [(167,.rd1 WN),(159,.rd1 byG),(168,.rd1 NY),(169,.rd1 (ptN n)),(170,.rd1 ES),(171,.rd1 KY)]) (Ab [(6,rsE n)]) f133 [.s s,.agg [.j y0,.s y1,.j y2,.b y3,.j y4,.sl (.rose LCd) ys]] [] =
 ((ifT (decide (s.length<=4000000000)) (ifB (!(Da s).isSome) (some (V.tup [V.agg [V.j 0,V.s (Aj UInt8),V.j 0,V.b false,V.ref 0 0 0],V.b false],
 [some (Blk.row false none VCd.rose (Aj VCd.rose.den))])) (ifT (decide (((Da s).getD (Aj WFd)).length=((Da s).getD (Aj WFd)).length/\((Da s).getD (Aj
 WFd)).length=((Da s).getD (Aj WFd)).length/\(↑((Da s).getD (Aj WFd)).length:Int)=(↑((Da s).getD (Aj WFd)).length:Int)/\(0:Int)<=(0:Int)/\(0 :
 Nat)<=((Da s).getD (Aj WFd)).length/\((Da s).getD (Aj WFd)).length<=40/\0=0/\(↑(0:Nat):Int)<=(0:Int)/\(((Da s).getD (Aj
 WFd)).all fun x=>AX x)=true/\mxD ((Da s).getD (Aj WFd))<=400/\B9 (5:Int) ys=true/\A1 ys<=n/\A1 ys<=1000000)) (ifB (Ez
 ((Da s).getD (Aj WFd)) 0&&(Bu ys (drop 0 ((Da s).getD (Aj WFd)))).isSome) (ifT (decide (ys.length<=maxI/\(take (Aj VCd.rose.den
 ++ (Bu ys (drop 0 ((Da s).getD (Aj WFd)))).getD (Aj (Rose AW))).length (drop 0 (Aj VCd.rose.den++(Bu ys (drop 0
 ((Da s).getD (Aj WFd)))).getD (Aj (Rose AW))))).length<=maxI)) (some (V.tup [V.agg [V.j 0,V.s (Aj UInt8),V.j 0,V.b true,V.ref 0 0 (Aj
 VCd.rose.den++(Bu ys (drop 0 ((Da s).getD (Aj WFd)))).getD (Aj (Rose AW))).length],V.b (Ci (take (Aj VCd.rose.den++(Bu ys
 (drop 0 ((Da s).getD (Aj WFd)))).getD (Aj (Rose AW))).length (drop 0 (Aj VCd.rose.den++(Bu ys (drop 0 ((Da s).getD
 (Aj WFd)))).getD (Aj (Rose AW))))) ys)],[some (Blk.row false none VCd.rose (Aj VCd.rose.den++(Bu ys (drop 0 ((Da s).getD (Aj WFd)))).getD
 (Aj (Rose AW))))]))) (some (V.tup [V.agg [V.j 0,V.s (Aj UInt8),V.j 0,V.b false,V.ref 0 0 0],V.b false],[some (Blk.row false none VCd.rose (Aj
 VCd.rose.den))])))))):_):=by kernel_rfl
theorem KI (n k:Nat) (s:List UInt8) (y0:Int) (y1:List UInt8) (y2:Int) (y3:Bool) (y4:Int) (ys:List (Rose Lab)) (m:Nat) (a:Int) (vs:List (Rose AW)):Av prog (Ab [(133,.rd1 (rsN k)),(201,.rd1 Rc),(202,.rd1 J7),(168,.rd1 NY),(169,.rd1 (ptN n)),(196,.rd1 Fq),(170,.rd1 ES)]) (Ab [(8,ptE n)]) 0 (body f169 0) (ptE n) ([.s s,.ptr 0 0,.ptr 1 0,.ptr 2 0,.j a],[some (.box [.j y0,.s y1,.j y2,.b y3,.j y4,.sl (.rose LCd) ys]),some (.box [.j 0,.s [],.j 0,.b false,.ref 3 0 0]),some (.box [.j 0,.s [],.j 0,.b true,.ref 4 0 m]),some (.row false none (.rose VCd) []),some (.row false none (.rose VCd) vs)]) =
 ((ifB (decide (a<(↑s.length:Int))) (ifT (decide ((0:Int)<=a/\s.length<=4000000000/\a<=(4000000000:Int))) (ifB (!BI (Ah s a.toNat)) (some (Ex.ret,
 [V.ptr 0 0,V.b false],[some (Blk.box [V.j 0,V.s (Aj UInt8),V.j 0,V.b false,V.ref 1 0 0]),some (Blk.row false none VCd.rose (Aj VCd.rose.den))])) (ifT
 (decide ((0:Int)<=BT (Ah s a.toNat)/\BT (Ah s a.toNat)<=(1000000000000:Int))) (ifT (decide ((0:Int)<=(0:Int))&&decide ((0:Int)<(↑ys.length :
 Int))) (Ai ys[0]? fun z=>ifB (!fkB (Rose.node ((Rose.lab z).fst,(Rose.lab z).snd.fst,(Rose.lab z).snd.snd.fst,(Rose.lab z).snd.snd.snd.fst,(Rose.lab
 z).snd.snd.snd.snd.fst,()) (Rose.kids z))) (ifB (decide (BT (Ah s a.toNat)>i64.wrap ((↑s.length:Int)-AV a.toNat (Ah s a.toNat)))) (some (Ex.ret,
 [V.ptr 0 0,V.b false],[some (Blk.box [V.j 0,V.s (Aj UInt8),V.j 0,V.b false,V.ref 1 0 0]),some (Blk.row false none VCd.rose (Aj VCd.rose.den))])) (ifT
 (decide ((0:Int)<=AV a.toNat (Ah s a.toNat))&&decide (AV a.toNat (Ah s a.toNat)<=i64.wrap (AV a.toNat (Ah s a.toNat)+BT (Ah s a.toNat)))
 && decide (i64.wrap (AV a.toNat (Ah s a.toNat)+BT (Ah s a.toNat))<=(↑s.length:Int))) (ifT (decide ((0:Int)<=(0:Int))&&decide ((0:Int) <
 (↑ys.length:Int))) (Ai ys[0]? fun z=>ifT (decide ((take ((i64.wrap (AV a.toNat (Ah s a.toNat)+BT (Ah s a.toNat))).toNat-(AV
 a.toNat (Ah s a.toNat)).toNat) (drop (AV a.toNat (Ah s a.toNat)).toNat s)).length<=400/\fkB (Rose.node ((Rose.lab z).fst,(Rose.lab z).snd.fst,
 (Rose.lab z).snd.snd.fst,(Rose.lab z).snd.snd.snd.fst,(Rose.lab z).snd.snd.snd.snd.fst,()) (Rose.kids z))=false/\At (Rose.node ((Rose.lab z).fst,(Rose.lab
 z).snd.fst,(Rose.lab z).snd.snd.fst,(Rose.lab z).snd.snd.snd.fst,(Rose.lab z).snd.snd.snd.snd.fst,()) (Rose.kids z))=true/\Aq (Rose.node ((Rose.lab z).fst,
 (Rose.lab z).snd.fst,(Rose.lab z).snd.snd.fst,(Rose.lab z).snd.snd.snd.fst,(Rose.lab z).snd.snd.snd.snd.fst,()) (Rose.kids z))<=n/\Aq (Rose.node ((Rose.lab
 z).fst,(Rose.lab z).snd.fst,(Rose.lab z).snd.snd.fst,(Rose.lab z).snd.snd.snd.fst,(Rose.lab z).snd.snd.snd.snd.fst,()) (Rose.kids z))<=1000000)) (ifB
 (!(AU (Rose.node ((Rose.lab z).fst,(Rose.lab z).snd.fst,(Rose.lab z).snd.snd.fst,(Rose.lab z).snd.snd.snd.fst,(Rose.lab z).snd.snd.snd.snd.fst,()) (Rose.kids z))
 (take ((i64.wrap (AV a.toNat (Ah s a.toNat)+BT (Ah s a.toNat))).toNat-(AV a.toNat (Ah s a.toNat)).toNat) (drop (AV a.toNat (Ah s
 a.toNat)).toNat s)) (0:Int)).isSome) (some (Ex.ret,[V.ptr 0 0,V.b false],[some (Blk.box [V.j 0,V.s (Aj UInt8),V.j 0,V.b false,V.ref 1 0 0]),some
 (Blk.row false none VCd.rose (Aj VCd.rose.den))])) (ifT (decide ((0:Int)<=(0:Int))&&decide ((0:Int)<(↑ys.length:Int))) (Ai ys[0]? fun z_1=>
 ifB (!DX (B3 (Rose.node ((Rose.lab z).fst,(Rose.lab z).snd.fst,(Rose.lab z).snd.snd.fst,(Rose.lab z).snd.snd.snd.fst,(Rose.lab z).snd.snd.snd.snd.fst,())
 (Rose.kids z)) (take ((i64.wrap (AV a.toNat (Ah s a.toNat)+BT (Ah s a.toNat))).toNat-(AV a.toNat (Ah s a.toNat)).toNat) (drop (AV
 a.toNat (Ah s a.toNat)).toNat s))).lab.fst (Rose.node ((Rose.lab z_1).fst,(Rose.lab z_1).snd.fst,(Rose.lab z_1).snd.snd.fst,(Rose.lab z_1).snd.snd.snd.fst,(Rose.lab
 z_1).snd.snd.snd.snd.fst,()) (Rose.kids z_1))) (some (Ex.ret,[V.ptr 0 0,V.b false],[some (Blk.box [V.j 0,V.s (Aj UInt8),V.j 0,V.b false,V.ref 1 0 0]),
 some (Blk.row false none VCd.rose (Aj VCd.rose.den))])) (ifT (decide ((m+1)*64<=140737488355328)&&decide (m+1<=maxI)) (some
 (Ex.normal,[V.s s,V.ptr 0 0,V.ptr 1 0,V.ptr 2 0,V.j (i64.wrap (AV a.toNat (Ah s a.toNat)+BT (Ah s a.toNat)))],[some (Blk.box [V.j y0,
 V.s y1,V.j y2,V.b y3,V.j y4,V.sl LCd.rose ys]),some (Blk.box [V.j 0,V.s (Aj UInt8),V.j 0,V.b false,V.ref 3 0 0]),some (Blk.box [V.i .i64
 0,V.s (Aj UInt8),V.j 0,V.b true,V.ref 4 0 (m+1)]),some (Blk.row false none VCd.rose (Aj VCd.rose.den)),some (Blk.row false none VCd.rose
 (take m (drop 0 vs)++Rose.node ((B3 (Rose.node ((Rose.lab z).fst,(Rose.lab z).snd.fst,(Rose.lab z).snd.snd.fst,(Rose.lab z).snd.snd.snd.fst,
 (Rose.lab z).snd.snd.snd.snd.fst,()) (Rose.kids z)) (take ((i64.wrap (AV a.toNat (Ah s a.toNat)+BT (Ah s a.toNat))).toNat-(AV a.toNat (Ah s
 a.toNat)).toNat) (drop (AV a.toNat (Ah s a.toNat)).toNat s))).lab.fst,(B3 (Rose.node ((Rose.lab z).fst,(Rose.lab z).snd.fst,(Rose.lab z).snd.snd.fst,
 (Rose.lab z).snd.snd.snd.fst,(Rose.lab z).snd.snd.snd.snd.fst,()) (Rose.kids z)) (take ((i64.wrap (AV a.toNat (Ah s a.toNat)+BT (Ah s
 a.toNat))).toNat-(AV a.toNat (Ah s a.toNat)).toNat) (drop (AV a.toNat (Ah s a.toNat)).toNat s))).lab.snd.fst,(B3 (Rose.node ((Rose.lab z).fst,
 (Rose.lab z).snd.fst,(Rose.lab z).snd.snd.fst,(Rose.lab z).snd.snd.snd.fst,(Rose.lab z).snd.snd.snd.snd.fst,()) (Rose.kids z)) (take ((i64.wrap (AV
 a.toNat (Ah s a.toNat)+BT (Ah s a.toNat))).toNat-(AV a.toNat (Ah s a.toNat)).toNat) (drop (AV a.toNat (Ah s a.toNat)).toNat s))).lab.snd.snd.fst,
 (B3 (Rose.node ((Rose.lab z).fst,(Rose.lab z).snd.fst,(Rose.lab z).snd.snd.fst,(Rose.lab z).snd.snd.snd.fst,(Rose.lab z).snd.snd.snd.snd.fst,()) (Rose.kids z))
 (take ((i64.wrap (AV a.toNat (Ah s a.toNat)+BT (Ah s a.toNat))).toNat-(AV a.toNat (Ah s a.toNat)).toNat) (drop (AV a.toNat (Ah s
 a.toNat)).toNat s))).lab.snd.snd.snd.fst,()) (take (B3 (Rose.node ((Rose.lab z).fst,(Rose.lab z).snd.fst,(Rose.lab z).snd.snd.fst,(Rose.lab
 z).snd.snd.snd.fst,(Rose.lab z).snd.snd.snd.snd.fst,()) (Rose.kids z)) (take ((i64.wrap (AV a.toNat (Ah s a.toNat)+BT (Ah s a.toNat))).toNat -
 (AV a.toNat (Ah s a.toNat)).toNat) (drop (AV a.toNat (Ah s a.toNat)).toNat s))).kids.length (drop 0 (B3 (Rose.node ((Rose.lab z).fst,
 (Rose.lab z).snd.fst,(Rose.lab z).snd.snd.fst,(Rose.lab z).snd.snd.snd.fst,(Rose.lab z).snd.snd.snd.snd.fst,()) (Rose.kids z)) (take ((i64.wrap (AV
 a.toNat (Ah s a.toNat)+BT (Ah s a.toNat))).toNat-(AV a.toNat (Ah s a.toNat)).toNat) (drop (AV a.toNat (Ah s a.toNat)).toNat s))).kids))::Aj
 VCd.rose.den))])))))))))) (ifB (!Dy (unf (BT (Ah s a.toNat)))) (some (Ex.ret,[V.ptr 0 0,V.b false],[some (Blk.box [V.j 0,V.s (Aj UInt8),V.j 0,V.b
 false,V.ref 1 0 0]),some (Blk.row false none VCd.rose (Aj VCd.rose.den))])) (ifT (decide ((0:Int)<=(0:Int))&&decide ((0:Int)<(↑ys.length:Int))) (Ai
 ys[0]? fun z=>ifB (!DX (unf (BT (Ah s a.toNat))) (Rose.node ((Rose.lab z).fst,(Rose.lab z).snd.fst,(Rose.lab z).snd.snd.fst,(Rose.lab
 z).snd.snd.snd.fst,(Rose.lab z).snd.snd.snd.snd.fst,()) (Rose.kids z))) (some (Ex.ret,[V.ptr 0 0,V.b false],[some (Blk.box [V.j 0,V.s (Aj UInt8),V.j 0,
 V.b false,V.ref 1 0 0]),some (Blk.row false none VCd.rose (Aj VCd.rose.den))])) (ifT (decide ((m+1)*64<=140737488355328)&&decide (m +
 1<=maxI)) (some (Ex.normal,[V.s s,V.ptr 0 0,V.ptr 1 0,V.ptr 2 0,V.j (AV a.toNat (Ah s a.toNat))],[some (Blk.box [V.j y0,V.s y1,V.j y2,
 V.b y3,V.j y4,V.sl LCd.rose ys]),some (Blk.box [V.j 0,V.s (Aj UInt8),V.j 0,V.b false,V.ref 3 0 0]),some (Blk.box [V.j 0,V.s (Aj UInt8),
 V.j 0,V.b true,V.ref 4 0 (m+1)]),some (Blk.row false none VCd.rose (Aj VCd.rose.den)),some (Blk.row false none VCd.rose (take m (drop (0 :
 Nat) vs)++Rose.node (unf (BT (Ah s a.toNat)),Aj UInt8,(0:Int),false,()) (Aj VCd.rose.den)::Aj VCd.rose.den))]))))))))))) (some (Ex.exit 1,[V.ptr 0 0,
 V.ptr 1 0],[some (Blk.box [V.j 0,V.s (Aj UInt8),V.j 0,V.b false,V.ref 2 0 0]),some (Blk.box [V.j 0,V.s (Aj UInt8),V.j 0,V.b true,V.ref 3
 0 m]),some (Blk.row false none VCd.rose (Aj VCd.rose.den)),some (Blk.row false none VCd.rose vs)]))):_):=by kernel_rfl
theorem YW (n k:Nat) (s:List UInt8) (y0:Int) (y1:List UInt8) (y2:Int) (y3:Bool) (y4:Int) (ys:List (Rose Lab)):Df prog (Ab [(133,.rd1 (rsN k)),(201,.rd1 Rc),(202,.rd1 J7),(168,.rd1 NY),(169,.rd1 (ptN n)),(196,.rd1 Fq),(170,.rd1 ES)]) (Ab [(8,ptE n)]) f169 [.s s,.agg [.j y0,.s y1,.j y2,.b y3,.j y4,.sl (.rose LCd) ys]] [] =
 ((ifB (y0==(2:Int)) (some (V.tup [V.agg [V.j 0,V.s s,V.j 0,V.b false,V.ref 0 0 0],V.b (decide ((↑s.length:Int)<=(30:Int)))],[some (Blk.row false
 none VCd.rose (Aj VCd.rose.den))])) (ifB (y0==(5:Int)) (ifT (decide (s.length<=400/\y0=(5:Int)/\At (Rose.node (y0,y1,y2,y3,y4,()) ys)=true
 /\ Aq (Rose.node (y0,y1,y2,y3,y4,()) ys)<=k/\Aq (Rose.node (y0,y1,y2,y3,y4,()) ys)<=1000000)) (some (V.tup [V.agg [V.j (CA (Rose.node (y0,
 y1,y2,y3,y4,()) ys) s).lab.fst,V.s (CA (Rose.node (y0,y1,y2,y3,y4,()) ys) s).lab.snd.fst,V.j (CA (Rose.node (y0,y1,y2,y3,y4,()) ys)
 s).lab.snd.snd.fst,V.b (CA (Rose.node (y0,y1,y2,y3,y4,()) ys) s).lab.snd.snd.snd.fst,V.ref 0 0 (CA (Rose.node (y0,y1,y2,y3,y4,()) ys) s).kids.length],
 V.b (AU (Rose.node (y0,y1,y2,y3,y4,()) ys) s (0:Int)).isSome],[some (Blk.row false none VCd.rose (CA (Rose.node (y0,y1,y2,y3,y4,()) ys) s).kids)])))
 (ifT (decide ((0:Int)<=(0:Int)/\0<=s.length/\s.length<=400/\0=0/\(↑(0:Nat):Int)<=(0:Int)/\ys.length=1/\
 ys.all At=true/\A1 ys<=n/\A1 ys<=1000000)) (ifB (BA (fkB (hd0 ys)) (fun n=>A9 (hd0 ys) n (0:Int)) (fun d=>AU (hd0 ys) d (0:Int)) s
 (s.length-0) 0).isSome (some (V.tup [V.agg [V.j 0,V.s (Aj UInt8),V.j 0,V.b true,V.ref 0 0 (Aj VCd.rose.den++(BA (fkB (hd0 ys))
 (fun n=>A9 (hd0 ys) n (0:Int)) (fun d=>AU (hd0 ys) d (0:Int)) s (s.length-0) 0).getD (Aj (Rose AW))).length],V.b true],[some
 (Blk.row false none VCd.rose (Aj VCd.rose.den++(BA (fkB (hd0 ys)) (fun n=>A9 (hd0 ys) n (0:Int)) (fun d=>AU (hd0 ys) d (0:Int)) s (s.length-(0 :
 Nat)) 0).getD (Aj (Rose AW))))])) (some (V.tup [V.agg [V.j 0,V.s (Aj UInt8),V.j 0,V.b false,V.ref 0 0 0],V.b false],[some (Blk.row false
 none VCd.rose (Aj VCd.rose.den))])))))):_):=by kernel_rfl
end Go.Proofs.YtdocpdfkeohkiaaGreatDoor.Den
