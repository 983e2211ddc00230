/- What functions of the program do, by the machine: DrW DrW2 Wi1 Wi2 Wi3 Wi4 Wi5 Wi6 Wi7 DrS Dr1 Dr2 Val2 Val3 Val4. -/
import Derived.Test.YtckmoiopjocapaaGreatDA
import Derived.KernelRfl
import Derived.Test.YtckmoiopjocapaaGreatRows
open Go.IntKind (i64)
open Go.Proofs.Tryz
open List (append_assoc append_nil drop drop_eq_getElem_cons drop_eq_nil_of_le drop_zero length_append length_drop length_map map_map range take take_length)
open Int (eq_ofNat_of_zero_le fdiv tdiv tmod)
open Nat (le_trans mod_eq_of_lt mul_le_mul pow_add sub_zero zero_add)
open Option (getD_some isSome_some)
namespace Go.Proofs.YtckmoiopjocapaaGreat.Den
open Go.Proofs
set_option maxRecDepth 100000
def Np (d m:Int) (_:Nat) (f:Cur->List Wt×Cur):Gm
 | [.ptr 0 0,.j x,.nl],[.box [.sl (.int .u8) l,.j a,.i .u64 s]]=>.need (decide (x=d/\0<=d/\(Cur.mk l a s).good m)) (.leaf (.ref 1 0 (f (Cur.mk l a s)).1.length,[some (cB (f (Cur.mk l a s)).2),R0 WCd (f (Cur.mk l a s)).1]))
 | _,_=>.no
def Vo (d m:Int) (B:Nat) (f:List Wt->Cur->List Wt×Cur):Gm
 | [.ptr 0 0,.j x,.ref 1 0 n],[.box [.sl (.int .u8) l,.j a,.i .u64 s],.row false _ WCd o]=>.need (decide (x=d/\0<=d/\(Cur.mk l a s).good m/\n=o.length/\o.length<=B)) (.leaf (.ref 2 0 (f o (Cur.mk l a s)).1.length,[some (cB (f o (Cur.mk l a s)).2),none,R0 WCd (f o (Cur.mk l a s)).1]))
 | _,_=>.no
def dwG (d m:Int) (B:Nat) (f:Cur->List Wt×Cur) (g:List Wt->Cur->List Wt×Cur) (vs:List V) (bs:List Blk):Br (V×List (Option Blk)):=match vs with
 | [_,_,.nl]=>Np d m B f vs bs
 | _=>Vo d m B g vs bs
theorem RF (d m:Int) (B:Nat) (f:Cur->List Wt×Cur) (g:List Wt->Cur->List Wt×Cur) (l:List Int) (a s:Int):Ba prog (Aa [(90,.own AV),(92,.own GB),(89,.own (dwG (d-1) m B f g))]) (Aa []) f89 [.ptr 0 0,.j d,.nl] [.box [.sl (.int .u8) l,.j a,.i .u64 s]] =
 ((shr (Ai WCd.den) fun sh2=>shr ((Cur.mk l a s).pickC (8:Int)) fun sh1=>ifT (decide ((Cur.mk l a s).good (900000000:Int))) (ifB (decide (d<=0)) (ifT (decide
 (sh1.good (900000000:Int))) (ifB (decide (i64.wrap ((1:Int)+sh1.pickV (5:Int))<=(5:Int))) (ifT (decide ((sh1.pickC (5:Int)).good (900000000:Int)))
 (ifB (decide (i64.wrap ((1:Int)+sh1.pickV (5:Int))<=(3:Int))) (ifT (decide (((sh1.pickC (5:Int)).pickC (6:Int)).good (900000000:Int))) (ifB
 (i64.wrap ((1:Int)+sh1.pickV (5:Int))==(5:Int)) (ifT (decide ((((sh1.pickC (5:Int)).pickC (6:Int)).pickC (12:Int)).good (900000000:Int)/\(1 :
 Nat)<=4/\4<=4)) (some (V.ref 1 0 1,[some (Blk.box [V.sl (Cd.int .u8) ((((sh1.pickC (5:Int)).pickC (6:Int)).pickC (12:Int)).pickC (↑(4 :
 Nat):Int)).l,V.j ((((sh1.pickC (5:Int)).pickC (6:Int)).pickC (12:Int)).pickC (↑(4:Nat):Int)).a,V.i .u64 ((((sh1.pickC (5:Int)).pickC (6:Int)).pickC
 (12:Int)).pickC (↑(4:Nat):Int)).s]),R0 WCd ((i64.wrap ((1:Int)+sh1.pickV (5:Int)),i64.wrap ((1:Int)+(sh1.pickC (5
 : Int)).pickV (6:Int)),i64.wrap (((sh1.pickC (5:Int)).pickC (6:Int)).pickV (12:Int)-(4:Int)),(Ai UInt8::((97:UInt8)::Ai UInt8)::((115 :
 UInt8)::(111:UInt8)::(109:UInt8)::(101:UInt8)::Ai UInt8)::((120:UInt8)::Ai UInt8)::Ai Cd.str.den).getD (0+((((sh1.pickC (5 :
 Int)).pickC (6:Int)).pickC (12:Int)).pickV (↑(4:Nat):Int)).toNat) (Ai UInt8),(0:Int),(0:Int),())::sh2)]))) (some (V.ref 1 0 1,[some (Blk.box [V.sl
 (Cd.int .u8) (((sh1.pickC (5:Int)).pickC (6:Int)).pickC (12:Int)).l,V.j (((sh1.pickC (5:Int)).pickC (6:Int)).pickC (12:Int)).a,V.i .u64 (((sh1.pickC (5
 : Int)).pickC (6:Int)).pickC (12:Int)).s]),R0 WCd ((i64.wrap ((1:Int)+sh1.pickV (5:Int)),i64.wrap ((1:Int) +
 (sh1.pickC (5:Int)).pickV (6:Int)),i64.wrap (((sh1.pickC (5:Int)).pickC (6:Int)).pickV (12:Int)-(4:Int)),Ai UInt8,(0:Int),(0:Int),())::
 sh2)])))) (ifB (i64.wrap ((1:Int)+sh1.pickV (5:Int))==(5:Int)) (ifT (decide (((sh1.pickC (5:Int)).pickC (6:Int)).good (900000000:Int)/\1
 <= 4/\4<=4)) (some (V.ref 1 0 1,[some (Blk.box [V.sl (Cd.int .u8) (((sh1.pickC (5:Int)).pickC (6:Int)).pickC (↑(4:Nat):Int)).l,V.i .i64
 (((sh1.pickC (5:Int)).pickC (6:Int)).pickC (↑(4:Nat):Int)).a,V.i .u64 (((sh1.pickC (5:Int)).pickC (6:Int)).pickC (↑(4:Nat):Int)).s]),R0 WCd ((i64.wrap ((1:Int)+sh1.pickV (5:Int)),i64.wrap ((1:Int)+(sh1.pickC (5:Int)).pickV (6:Int)),(0:Int),(Ai UInt8::((97 :
 UInt8)::Ai UInt8)::((115:UInt8)::(111:UInt8)::(109:UInt8)::(101:UInt8)::Ai UInt8)::((120:UInt8)::Ai UInt8)::Ai Cd.str.den).getD ((0 :
 Nat)+(((sh1.pickC (5:Int)).pickC (6:Int)).pickV (↑(4:Nat):Int)).toNat) (Ai UInt8),(0:Int),(0:Int),())::sh2)]))) (some (V.ref 1 0 1,[some (Blk.box
 [V.sl (Cd.int .u8) ((sh1.pickC (5:Int)).pickC (6:Int)).l,V.j ((sh1.pickC (5:Int)).pickC (6:Int)).a,V.i .u64 ((sh1.pickC (5:Int)).pickC (6:Int)).s]),
 R0 WCd ((i64.wrap ((1:Int)+sh1.pickV (5:Int)),i64.wrap ((1:Int)+(sh1.pickC (5:Int)).pickV (6:Int)),(0:Int),Ai
 UInt8,(0:Int),(0:Int),())::sh2)]))))) (ifB (i64.wrap ((1:Int)+sh1.pickV (5:Int))==(8:Int)) (ifT (decide (i64.wrap (d-1)=d-1/\0
 <= d-1/\(sh1.pickC (5:Int)).good m)) (ifT (decide (((f (sh1.pickC (5:Int))).1.length+1)*56<=140737488355328)&&decide ((f (sh1.pickC
 (5:Int))).1.length+1<=maxI)) (some (V.ref 1 0 ((f (sh1.pickC (5:Int))).1.length+1),[some (Blk.box [V.sl (Cd.int .u8) (f (sh1.pickC (5 :
 Int))).2.l,V.j (f (sh1.pickC (5:Int))).2.a,V.i .u64 (f (sh1.pickC (5:Int))).2.s]),R0 WCd (take (f (sh1.pickC (5 :
 Int))).1.length (drop 0 (f (sh1.pickC (5:Int))).1)++(i64.wrap ((1:Int)+sh1.pickV (5:Int)),(0:Int),(0:Int),Ai UInt8,
 i64.wrap ((↑(f (sh1.pickC (5:Int))).1.length:Int)-(1:Int)),(0:Int),())::sh2)])))) (ifT (decide (i64.wrap (d-1)=d-1/\0<=d-1/\
 (sh1.pickC (5:Int)).good m)) (ifT (decide (i64.wrap (d-1)=d-1/\0<=d-1/\(f (sh1.pickC (5:Int))).2.good m/\(f (sh1.pickC (5:Int))).1.length =
 (f (sh1.pickC (5:Int))).1.length/\(f (sh1.pickC (5:Int))).1.length<=B)) (ifT (decide (((g (f (sh1.pickC (5:Int))).1 (f (sh1.pickC (5 :
 Int))).2).1.length+1)*56<=140737488355328)&&decide ((g (f (sh1.pickC (5:Int))).1 (f (sh1.pickC (5:Int))).2).1.length+(1 :
 Nat)<=maxI)) (some (V.ref 1 0 ((g (f (sh1.pickC (5:Int))).1 (f (sh1.pickC (5:Int))).2).1.length+1),[some (Blk.box [V.sl (Cd.int .u8) (g (f
 (sh1.pickC (5:Int))).1 (f (sh1.pickC (5:Int))).2).2.l,V.j (g (f (sh1.pickC (5:Int))).1 (f (sh1.pickC (5:Int))).2).2.a,V.i .u64 (g (f (sh1.pickC
 (5:Int))).1 (f (sh1.pickC (5:Int))).2).2.s]),R0 WCd (take (g (f (sh1.pickC (5:Int))).1 (f (sh1.pickC (5:Int))).2).1.length
 (drop 0 (g (f (sh1.pickC (5:Int))).1 (f (sh1.pickC (5:Int))).2).1)++(i64.wrap ((1:Int)+sh1.pickV (5:Int)),(0:Int),(0:Int),
 Ai UInt8,i64.wrap ((↑(f (sh1.pickC (5:Int))).1.length:Int)-(1:Int)),i64.wrap ((↑(g (f (sh1.pickC (5:Int))).1 (f (sh1.pickC (5 :
 Int))).2).1.length:Int)-(1:Int)),())::sh2)])))))))) (ifB (decide (i64.wrap ((1:Int)+(Cur.mk l a s).pickV (8:Int))<=(5:Int))) (ifT (decide
 (sh1.good (900000000:Int))) (ifB (decide (i64.wrap ((1:Int)+(Cur.mk l a s).pickV (8:Int))<=(3:Int))) (ifT (decide ((sh1.pickC (6:Int)).good
 (900000000:Int))) (ifB (i64.wrap ((1:Int)+(Cur.mk l a s).pickV (8:Int))==(5:Int)) (ifT (decide (((sh1.pickC (6:Int)).pickC (12:Int)).good
 (900000000:Int)/\1<=4/\4<=4)) (some (V.ref 1 0 1,[some (Blk.box [V.sl (Cd.int .u8) (((sh1.pickC (6:Int)).pickC (12:Int)).pickC
 (↑(4:Nat):Int)).l,V.j (((sh1.pickC (6:Int)).pickC (12:Int)).pickC (↑(4:Nat):Int)).a,V.i .u64 (((sh1.pickC (6:Int)).pickC (12:Int)).pickC (↑(4 :
 Nat):Int)).s]),R0 WCd ((i64.wrap ((1:Int)+(Cur.mk l a s).pickV (8:Int)),i64.wrap ((1:Int)+sh1.pickV (6:Int)),
 i64.wrap ((sh1.pickC (6:Int)).pickV (12:Int)-(4:Int)),(Ai UInt8::((97:UInt8)::Ai UInt8)::((115:UInt8)::(111:UInt8)::(109:UInt8)::
 (101:UInt8)::Ai UInt8)::((120:UInt8)::Ai UInt8)::Ai Cd.str.den).getD (0+(((sh1.pickC (6:Int)).pickC (12:Int)).pickV (↑(4:Nat) :
 Int)).toNat) (Ai UInt8),(0:Int),(0:Int),())::sh2)]))) (some (V.ref 1 0 1,[some (Blk.box [V.sl (Cd.int .u8) ((sh1.pickC (6:Int)).pickC (12:Int)).l,V.i
 .i64 ((sh1.pickC (6:Int)).pickC (12:Int)).a,V.i .u64 ((sh1.pickC (6:Int)).pickC (12:Int)).s]),R0 WCd ((i64.wrap ((1:Int) +
 (Cur.mk l a s).pickV (8:Int)),i64.wrap ((1:Int)+sh1.pickV (6:Int)),i64.wrap ((sh1.pickC (6:Int)).pickV (12:Int)-(4:Int)),Ai UInt8,(0
 : Int),(0:Int),())::sh2)])))) (ifB (i64.wrap ((1:Int)+(Cur.mk l a s).pickV (8:Int))==(5:Int)) (ifT (decide ((sh1.pickC (6:Int)).good (900000000
 : Int)/\1<=4/\4<=4)) (some (V.ref 1 0 1,[some (Blk.box [V.sl (Cd.int .u8) ((sh1.pickC (6:Int)).pickC (↑(4:Nat):Int)).l,V.i
 .i64 ((sh1.pickC (6:Int)).pickC (↑(4:Nat):Int)).a,V.i .u64 ((sh1.pickC (6:Int)).pickC (↑(4:Nat):Int)).s]),R0 WCd ((i64.wrap
 ((1:Int)+(Cur.mk l a s).pickV (8:Int)),i64.wrap ((1:Int)+sh1.pickV (6:Int)),(0:Int),(Ai UInt8::((97:UInt8)::Ai UInt8)::((115:UInt8)
 :: (111:UInt8)::(109:UInt8)::(101:UInt8)::Ai UInt8)::((120:UInt8)::Ai UInt8)::Ai Cd.str.den).getD (0+((sh1.pickC (6:Int)).pickV (↑(4
 : Nat):Int)).toNat) (Ai UInt8),(0:Int),(0:Int),())::sh2)]))) (some (V.ref 1 0 1,[some (Blk.box [V.sl (Cd.int .u8) (sh1.pickC (6:Int)).l,V.i .i64
 (sh1.pickC (6:Int)).a,V.i .u64 (sh1.pickC (6:Int)).s]),R0 WCd ((i64.wrap ((1:Int)+(Cur.mk l a s).pickV (8:Int)),
 i64.wrap ((1:Int)+sh1.pickV (6:Int)),(0:Int),Ai UInt8,(0:Int),(0:Int),())::sh2)]))))) (ifB (i64.wrap ((1:Int)+(Cur.mk l a
 s).pickV (8:Int))==(8:Int)) (ifT (decide (i64.wrap (d-1)=d-1/\0<=d-1/\sh1.good m)) (ifT (decide (((f sh1).1.length+1)*56<=
 140737488355328)&&decide ((f sh1).1.length+1<=maxI)) (some (V.ref 1 0 ((f sh1).1.length+1),[some (Blk.box [V.sl (Cd.int .u8) (f
 sh1).2.l,V.j (f sh1).2.a,V.i .u64 (f sh1).2.s]),R0 WCd (take (f sh1).1.length (drop 0 (f sh1).1)++
 (i64.wrap ((1:Int)+(Cur.mk l a s).pickV (8:Int)),(0:Int),(0:Int),Ai UInt8,i64.wrap ((↑(f sh1).1.length:Int)-(1:Int)),(0:Int),
 ())::sh2)])))) (ifT (decide (i64.wrap (d-1)=d-1/\0<=d-1/\sh1.good m)) (ifT (decide (i64.wrap (d-1)=d-1/\0<=d-1/\(f sh1).2.good
 m/\(f sh1).1.length=(f sh1).1.length/\(f sh1).1.length<=B)) (ifT (decide (((g (f sh1).1 (f sh1).2).1.length+1)*56<=(140737488355328
 : Nat))&&decide ((g (f sh1).1 (f sh1).2).1.length+1<=maxI)) (some (V.ref 1 0 ((g (f sh1).1 (f sh1).2).1.length+1),[some (Blk.box [V.sl
 (Cd.int .u8) (g (f sh1).1 (f sh1).2).2.l,V.j (g (f sh1).1 (f sh1).2).2.a,V.i .u64 (g (f sh1).1 (f sh1).2).2.s]),R0 WCd
 (take (g (f sh1).1 (f sh1).2).1.length (drop 0 (g (f sh1).1 (f sh1).2).1)++(i64.wrap ((1:Int)+(Cur.mk l a s).pickV (8:Int)),
 (0:Int),(0:Int),Ai UInt8,i64.wrap ((↑(f sh1).1.length:Int)-(1:Int)),i64.wrap ((↑(g (f sh1).1 (f sh1).2).1.length:Int)-(1 :
 Int)),())::sh2)]))))))))):_):=by kernel_rfl
theorem Il (d m:Int) (B:Nat) (f:Cur->List Wt×Cur) (g:List Wt->Cur->List Wt×Cur) (l:List Int) (a s:Int) (n:Nat) (nl:Option Bool) (o:List Wt):Ba prog (Aa [(90,.own AV),(92,.own GB),(89,.own (dwG (d-1) m B f g))]) (Aa []) f89 [.ptr 0 0,.j d,.ref 1 0 n] [.box [.sl (.int .u8) l,.j a,.i .u64 s],.row false nl WCd o] =
 ((shr (Ai WCd.den) fun sh3=>shr (take n (drop 0 o)) fun sh2=>shr ((Cur.mk l a s).pickC (8:Int)) fun sh1=>ifT (decide ((Cur.mk l a s).good
 (900000000:Int))) (ifB (decide (d<=0)) (ifT (decide (sh1.good (900000000:Int))) (ifB (decide (i64.wrap ((1:Int)+sh1.pickV (5:Int))<=(5:Int))) (ifT
 (decide ((sh1.pickC (5:Int)).good (900000000:Int))) (ifB (decide (i64.wrap ((1:Int)+sh1.pickV (5:Int))<=(3:Int))) (ifT (decide (((sh1.pickC (5 :
 Int)).pickC (6:Int)).good (900000000:Int))) (ifB (i64.wrap ((1:Int)+sh1.pickV (5:Int))==(5:Int)) (ifT (decide ((((sh1.pickC (5:Int)).pickC (6 :
 Int)).pickC (12:Int)).good (900000000:Int)/\1<=4/\4<=4)) (ifT (decide ((n+1)*56<=140737488355328)&&
 decide (n+1<=maxI)) (some (V.ref 2 0 (n+1),[some (Blk.box [V.sl (Cd.int .u8) ((((sh1.pickC (5:Int)).pickC (6:Int)).pickC (12:Int)).pickC (↑(4
 : Nat):Int)).l,V.j ((((sh1.pickC (5:Int)).pickC (6:Int)).pickC (12:Int)).pickC (↑(4:Nat):Int)).a,V.i .u64 ((((sh1.pickC (5:Int)).pickC (6 :
 Int)).pickC (12:Int)).pickC (↑(4:Nat):Int)).s]),none,R0 WCd (sh2++(i64.wrap ((1:Int)+sh1.pickV (5:Int)),i64.wrap
 ((1:Int)+(sh1.pickC (5:Int)).pickV (6:Int)),i64.wrap (((sh1.pickC (5:Int)).pickC (6:Int)).pickV (12:Int)-(4:Int)),(Ai UInt8::((97:UInt8)
 :: Ai UInt8)::((115:UInt8)::(111:UInt8)::(109:UInt8)::(101:UInt8)::Ai UInt8)::((120:UInt8)::Ai UInt8)::Ai Cd.str.den).getD (0 +
 ((((sh1.pickC (5:Int)).pickC (6:Int)).pickC (12:Int)).pickV (↑(4:Nat):Int)).toNat) (Ai UInt8),(0:Int),(0:Int),())::sh3)])))) (ifT (decide ((n+(1 :
 Nat))*56<=140737488355328)&&decide (n+1<=maxI)) (some (V.ref 2 0 (n+1),[some (Blk.box [V.sl (Cd.int .u8) (((sh1.pickC (5 :
 Int)).pickC (6:Int)).pickC (12:Int)).l,V.j (((sh1.pickC (5:Int)).pickC (6:Int)).pickC (12:Int)).a,V.i .u64 (((sh1.pickC (5:Int)).pickC (6:Int)).pickC
 (12:Int)).s]),none,R0 WCd (sh2++(i64.wrap ((1:Int)+sh1.pickV (5:Int)),i64.wrap ((1:Int)+(sh1.pickC (5:Int)).pickV
 (6:Int)),i64.wrap (((sh1.pickC (5:Int)).pickC (6:Int)).pickV (12:Int)-(4:Int)),Ai UInt8,(0:Int),(0:Int),())::sh3)]))))) (ifB
 (i64.wrap ((1:Int)+sh1.pickV (5:Int))==(5:Int)) (ifT (decide (((sh1.pickC (5:Int)).pickC (6:Int)).good (900000000:Int)/\1<=4/\
 4<=4)) (ifT (decide ((n+1)*56<=140737488355328)&&decide (n+1<=maxI)) (some (V.ref 2 0 (n+1),[some
 (Blk.box [V.sl (Cd.int .u8) (((sh1.pickC (5:Int)).pickC (6:Int)).pickC (↑(4:Nat):Int)).l,V.j (((sh1.pickC (5:Int)).pickC (6:Int)).pickC (↑(4:Nat) :
 Int)).a,V.i .u64 (((sh1.pickC (5:Int)).pickC (6:Int)).pickC (↑(4:Nat):Int)).s]),none,R0 WCd (sh2++(i64.wrap ((1:Int) +
 sh1.pickV (5:Int)),i64.wrap ((1:Int)+(sh1.pickC (5:Int)).pickV (6:Int)),(0:Int),(Ai UInt8::((97:UInt8)::Ai UInt8)::((115:UInt8)::
 (111:UInt8)::(109:UInt8)::(101:UInt8)::Ai UInt8)::((120:UInt8)::Ai UInt8)::Ai Cd.str.den).getD (0+(((sh1.pickC (5:Int)).pickC (6 :
 Int)).pickV (↑(4:Nat):Int)).toNat) (Ai UInt8),(0:Int),(0:Int),())::sh3)])))) (ifT (decide ((n+1)*56<=140737488355328)&&
 decide (n+1<=maxI)) (some (V.ref 2 0 (n+1),[some (Blk.box [V.sl (Cd.int .u8) ((sh1.pickC (5:Int)).pickC (6:Int)).l,V.j ((sh1.pickC (5 :
 Int)).pickC (6:Int)).a,V.i .u64 ((sh1.pickC (5:Int)).pickC (6:Int)).s]),none,R0 WCd (sh2++(i64.wrap ((1:Int)+sh1.pickV (5 :
 Int)),i64.wrap ((1:Int)+(sh1.pickC (5:Int)).pickV (6:Int)),(0:Int),Ai UInt8,(0:Int),(0:Int),())::sh3)])))))) (ifB (i64.wrap ((1 :
 Int)+sh1.pickV (5:Int))==(8:Int)) (ifT (decide (i64.wrap (d-1)=d-1/\0<=d-1/\(sh1.pickC (5:Int)).good m/\n=o.length/\o.length<=B)) (ifT
 (decide (((g o (sh1.pickC (5:Int))).1.length+1)*56<=140737488355328)&&decide ((g o (sh1.pickC (5:Int))).1.length+1<=
 maxI)) (some (V.ref 2 0 ((g o (sh1.pickC (5:Int))).1.length+1),[some (Blk.box [V.sl (Cd.int .u8) (g o (sh1.pickC (5:Int))).2.l,V.j (g o
 (sh1.pickC (5:Int))).2.a,V.i .u64 (g o (sh1.pickC (5:Int))).2.s]),none,R0 WCd (take (g o (sh1.pickC (5:Int))).1.length
 (drop 0 (g o (sh1.pickC (5:Int))).1)++(i64.wrap ((1:Int)+sh1.pickV (5:Int)),(0:Int),(0:Int),Ai UInt8,i64.wrap ((↑(g o
 (sh1.pickC (5:Int))).1.length:Int)-(1:Int)),(0:Int),())::sh3)])))) (ifT (decide (i64.wrap (d-1)=d-1/\0<=d-1/\(sh1.pickC (5 :
 Int)).good m/\n=o.length/\o.length<=B)) (ifT (decide (i64.wrap (d-1)=d-1/\0<=d-1/\(g o (sh1.pickC (5:Int))).2.good m/\(g o (sh1.pickC (5 :
 Int))).1.length=(g o (sh1.pickC (5:Int))).1.length/\(g o (sh1.pickC (5:Int))).1.length<=B)) (ifT (decide (((g (g o (sh1.pickC (5:Int))).1 (g o
 (sh1.pickC (5:Int))).2).1.length+1)*56<=140737488355328)&&decide ((g (g o (sh1.pickC (5:Int))).1 (g o (sh1.pickC (5 :
 Int))).2).1.length+1<=maxI)) (some (V.ref 2 0 ((g (g o (sh1.pickC (5:Int))).1 (g o (sh1.pickC (5:Int))).2).1.length+1),[some (Blk.box
 [V.sl (Cd.int .u8) (g (g o (sh1.pickC (5:Int))).1 (g o (sh1.pickC (5:Int))).2).2.l,V.j (g (g o (sh1.pickC (5:Int))).1 (g o (sh1.pickC (5 :
 Int))).2).2.a,V.i .u64 (g (g o (sh1.pickC (5:Int))).1 (g o (sh1.pickC (5:Int))).2).2.s]),none,R0 WCd (take (g (g o (sh1.pickC
 (5:Int))).1 (g o (sh1.pickC (5:Int))).2).1.length (drop 0 (g (g o (sh1.pickC (5:Int))).1 (g o (sh1.pickC (5:Int))).2).1)++
 (i64.wrap ((1:Int)+sh1.pickV (5:Int)),(0:Int),(0:Int),Ai UInt8,i64.wrap ((↑(g o (sh1.pickC (5:Int))).1.length:Int)-(1:Int)),
 i64.wrap ((↑(g (g o (sh1.pickC (5:Int))).1 (g o (sh1.pickC (5:Int))).2).1.length:Int)-(1:Int)),())::sh3)])))))))) (ifB (decide
 (i64.wrap ((1:Int)+(Cur.mk l a s).pickV (8:Int))<=(5:Int))) (ifT (decide (sh1.good (900000000:Int))) (ifB (decide (i64.wrap ((1:Int) +
 (Cur.mk l a s).pickV (8:Int))<=(3:Int))) (ifT (decide ((sh1.pickC (6:Int)).good (900000000:Int))) (ifB (i64.wrap ((1:Int)+(Cur.mk l a s).pickV (8 :
 Int))==(5:Int)) (ifT (decide (((sh1.pickC (6:Int)).pickC (12:Int)).good (900000000:Int)/\1<=4/\4<=4)) (ifT (decide ((n+(1
 : Nat))*56<=140737488355328)&&decide (n+1<=maxI)) (some (V.ref 2 0 (n+1),[some (Blk.box [V.sl (Cd.int .u8) (((sh1.pickC (6 :
 Int)).pickC (12:Int)).pickC (↑(4:Nat):Int)).l,V.j (((sh1.pickC (6:Int)).pickC (12:Int)).pickC (↑(4:Nat):Int)).a,V.i .u64 (((sh1.pickC (6 :
 Int)).pickC (12:Int)).pickC (↑(4:Nat):Int)).s]),none,R0 WCd (sh2++(i64.wrap ((1:Int)+(Cur.mk l a s).pickV (8:Int)),
 i64.wrap ((1:Int)+sh1.pickV (6:Int)),i64.wrap ((sh1.pickC (6:Int)).pickV (12:Int)-(4:Int)),(Ai UInt8::((97:UInt8)::Ai UInt8)::
 ((115:UInt8)::(111:UInt8)::(109:UInt8)::(101:UInt8)::Ai UInt8)::((120:UInt8)::Ai UInt8)::Ai Cd.str.den).getD (0+(((sh1.pickC (6 :
 Int)).pickC (12:Int)).pickV (↑(4:Nat):Int)).toNat) (Ai UInt8),(0:Int),(0:Int),())::sh3)])))) (ifT (decide ((n+1)*56<=
 140737488355328)&&decide (n+1<=maxI)) (some (V.ref 2 0 (n+1),[some (Blk.box [V.sl (Cd.int .u8) ((sh1.pickC (6:Int)).pickC (12:Int)).l,
 V.j ((sh1.pickC (6:Int)).pickC (12:Int)).a,V.i .u64 ((sh1.pickC (6:Int)).pickC (12:Int)).s]),none,R0 WCd (sh2++(i64.wrap
 ((1:Int)+(Cur.mk l a s).pickV (8:Int)),i64.wrap ((1:Int)+sh1.pickV (6:Int)),i64.wrap ((sh1.pickC (6:Int)).pickV (12:Int)-(4:Int)),
 Ai UInt8,(0:Int),(0:Int),())::sh3)]))))) (ifB (i64.wrap ((1:Int)+(Cur.mk l a s).pickV (8:Int))==(5:Int)) (ifT (decide ((sh1.pickC (6 :
 Int)).good (900000000:Int)/\1<=4/\4<=4)) (ifT (decide ((n+1)*56<=140737488355328)&&decide (n+(1 :
 Nat)<=maxI)) (some (V.ref 2 0 (n+1),[some (Blk.box [V.sl (Cd.int .u8) ((sh1.pickC (6:Int)).pickC (↑(4:Nat):Int)).l,V.j ((sh1.pickC (6 :
 Int)).pickC (↑(4:Nat):Int)).a,V.i .u64 ((sh1.pickC (6:Int)).pickC (↑(4:Nat):Int)).s]),none,R0 WCd (sh2++(i64.wrap ((1:Int)
 + (Cur.mk l a s).pickV (8:Int)),i64.wrap ((1:Int)+sh1.pickV (6:Int)),(0:Int),(Ai UInt8::((97:UInt8)::Ai UInt8)::((115:UInt8)::(111 :
 UInt8)::(109:UInt8)::(101:UInt8)::Ai UInt8)::((120:UInt8)::Ai UInt8)::Ai Cd.str.den).getD (0+((sh1.pickC (6:Int)).pickV (↑(4:Nat) :
 Int)).toNat) (Ai UInt8),(0:Int),(0:Int),())::sh3)])))) (ifT (decide ((n+1)*56<=140737488355328)&&decide (n+1<=maxI))
 (some (V.ref 2 0 (n+1),[some (Blk.box [V.sl (Cd.int .u8) (sh1.pickC (6:Int)).l,V.j (sh1.pickC (6:Int)).a,V.i .u64 (sh1.pickC (6:Int)).s]),none,
 R0 WCd (sh2++(i64.wrap ((1:Int)+(Cur.mk l a s).pickV (8:Int)),i64.wrap ((1:Int)+sh1.pickV (6:Int)),(0:Int),Ai
 UInt8,(0:Int),(0:Int),())::sh3)])))))) (ifB (i64.wrap ((1:Int)+(Cur.mk l a s).pickV (8:Int))==(8:Int)) (ifT (decide (i64.wrap (d-1)
 = d-1/\0<=d-1/\sh1.good m/\n=o.length/\o.length<=B)) (ifT (decide (((g o sh1).1.length+1)*56<=140737488355328)&&decide ((g o
 sh1).1.length+1<=maxI)) (some (V.ref 2 0 ((g o sh1).1.length+1),[some (Blk.box [V.sl (Cd.int .u8) (g o sh1).2.l,V.j (g o sh1).2.a,V.i
 .u64 (g o sh1).2.s]),none,R0 WCd (take (g o sh1).1.length (drop 0 (g o sh1).1)++(i64.wrap ((1:Int)+(Cur.mk l
 a s).pickV (8:Int)),(0:Int),(0:Int),Ai UInt8,i64.wrap ((↑(g o sh1).1.length:Int)-(1:Int)),(0:Int),())::sh3)])))) (ifT (decide
 (i64.wrap (d-1)=d-1/\0<=d-1/\sh1.good m/\n=o.length/\o.length<=B)) (ifT (decide (i64.wrap (d-1)=d-1/\0<=d-1/\(g o sh1).2.good
 m/\(g o sh1).1.length=(g o sh1).1.length/\(g o sh1).1.length<=B)) (ifT (decide (((g (g o sh1).1 (g o sh1).2).1.length+1)*56<=
 140737488355328)&&decide ((g (g o sh1).1 (g o sh1).2).1.length+1<=maxI)) (some (V.ref 2 0 ((g (g o sh1).1 (g o sh1).2).1.length+(1 :
 Nat)),[some (Blk.box [V.sl (Cd.int .u8) (g (g o sh1).1 (g o sh1).2).2.l,V.j (g (g o sh1).1 (g o sh1).2).2.a,V.i .u64 (g (g o sh1).1 (g o
 sh1).2).2.s]),none,R0 WCd (take (g (g o sh1).1 (g o sh1).2).1.length (drop 0 (g (g o sh1).1 (g o sh1).2).1)++
 (i64.wrap ((1:Int)+(Cur.mk l a s).pickV (8:Int)),(0:Int),(0:Int),Ai UInt8,i64.wrap ((↑(g o sh1).1.length:Int)-(1:Int)),
 i64.wrap ((↑(g (g o sh1).1 (g o sh1).2).1.length:Int)-(1:Int)),())::sh3)]))))))))):_):=by kernel_rfl
theorem Vp (d m m' K:Int) (L:Nat) (h0:m+10+K<=m') (h1:m'<=800000000) (hK:0<=K) (hL:L<=100) (B B':Nat) (hB:B+100<=B') (_:B'<=1000) (hd:0<=d/\d<=100) (f:Cur->List Wt×Cur) (g:List Wt->Cur->List Wt×Cur) (pf:0<d->∀ c n,c.good n->n<=m'->(f c).2.good (n+K)/\1<=(f c).1.length/\(f c).1.length<=L) (pg:0<d->∀ o c n,o.length<=B'->c.good n->n<=m'->(g o c).2.good (n+K)/\1<=(g o c).1.length/\(g o c).1.length<=o.length+L) (l:List Int) (a s:Int)  (hc:(Cur.mk l a s).good m):Ex1 (Ba prog (Aa [(90,.own AV),(92,.own GB),(89,.own (dwG (d-1) m' B' f g))]) (Aa []) f89 [.ptr 0 0,.j d,.nl] [.box [.sl (.int .u8) l,.j a,.i .u64 s]]) (fun y:List Wt×Cur=>((.ref 1 0 y.1.length,[some (cB y.2),R0 WCd y.1]):V×List (Option Blk))) (fun y=>∀ n,(Cur.mk l a s).good n->n<=m->y.2.good (n+(10+2*K))/\1<=y.1.length/\y.1.length<=2*L+1):=by
  refine Ex1.of (RF d m' B' f g l a s ) ?_;have hM:=mxI;have w1:i64.wrap (d-1)=d-1:=An (by omega) (by omega);have g9:((Cur.mk l a s).pickC 8).good 900000000:=Cur.pk (Cur.good_mono hc (by omega));have r5:=Cur.pickV_range (k:=5) g9 (by omega)
  have bad:decide (d<=0)=true->decide (i64.wrap (1+((Cur.mk l a s).pickC 8).pickV 5)<=5)=false->False:=fun _ h=>by
    have:=of_decide_eq_false h;rw [An (by omega) (by omega)] at this;omega
  have G : ∀ {c:Cur} {k:Int},(∀ n,(Cur.mk l a s).good n->c.good (n+k))->k<=10->c.good m'/\c.good 900000000:=fun h hk=>⟨Cur.good_mono (h m hc) (by omega),Cur.good_mono (h m hc) (by omega)⟩
  repeat with_reducible refine Ex1.sh ?_
  simp only [w1,B3,AG,drop_zero,take_length]
  repeat' first
    | (exfalso; exact bad ‹_› ‹_›)
    | with_reducible refine Ex1.B (fun h=>?_) (fun h=>?_)
    | with_reducible refine Ex1.T ?_ ?_
  all_goals first
    | (exfalso; exact bad ‹_› ‹_›)
    | (refine dcT ?_; (repeat with_reducible apply Cur.pk); exact Cur.good_mono hc (by omega))
    | (refine dcT ⟨?_,by omega,by omega⟩; (repeat with_reducible apply Cur.pk); exact Cur.good_mono hc (by omega))
    | (simp only [anE,dcE]; omega)
    | skip
  all_goals try have hp:0<d:=(by have:=of_decide_eq_false ‹decide (d<=0)=false›; omega)
  all_goals first
    | (refine dcT ⟨trivial,by omega,?_⟩; (repeat with_reducible apply Cur.pk); exact Cur.good_mono hc (by omega))
    | (refine dcT ⟨rfl,by omega,?_⟩; (repeat with_reducible apply Cur.pk); exact Cur.good_mono hc (by omega))
    | exact Ex1.c _ rfl rfl fun n hn hm=>⟨(by (repeat with_reducible apply Cur.pk); exact Cur.good_mono hn (by omega)),by simp,by simp; try omega⟩
    | (have q:=pf hp ((Cur.mk l a s).pickC 8) (m+2) (Cur.pickC_good hc) (by omega)
       first
         | (refine dcT ⟨trivial,by omega,Cur.good_mono q.1 (by omega),trivial,?_⟩; have:=q.2.2; omega)
         | (simp only [anE,dcE]; have:=q.2.2; exact ⟨by omega,by omega⟩)
         | (have q2:=pg hp (f ((Cur.mk l a s).pickC 8)).1 (f ((Cur.mk l a s).pickC 8)).2 (m+2+K) (by have:=q.2.2; omega) q.1 (by omega); simp only [anE,dcE]; have:=q.2.2; have:=q2.2.2; exact ⟨by omega,by omega⟩)
         | (refine Ex1.c ((f ((Cur.mk l a s).pickC 8)).1++[_]) rfl (by simp) fun n hn hm=>?_
            have q:=pf hp ((Cur.mk l a s).pickC 8) (n+2) (Cur.pickC_good hn) (by omega)
            exact ⟨Cur.good_mono q.1 (by omega),by simp,by have:=q.2.2; simp; omega⟩)
         | (refine Ex1.c ((g (f ((Cur.mk l a s).pickC 8)).1 (f ((Cur.mk l a s).pickC 8)).2).1++[_]) rfl (by simp) fun n hn hm=>?_
            have q:=pf hp ((Cur.mk l a s).pickC 8) (n+2) (Cur.pickC_good hn) (by omega);have q2:=pg hp (f ((Cur.mk l a s).pickC 8)).1 (f ((Cur.mk l a s).pickC 8)).2 (n+2+K) (by have:=q.2.2; omega) q.1 (by omega)
            exact ⟨Cur.good_mono q2.1 (by omega),by simp,by have:=q.2.2; have:=q2.2.2; simp; omega⟩))
theorem Vn (d m m' K:Int) (L:Nat) (h0:m+10+K<=m') (h1:m'<=800000000) (hK:0<=K) (hL:L<=100) (B B':Nat) (hB:B+100<=B') (hB2:B'<=1000) (hd:0<=d/\d<=100) (f:Cur->List Wt×Cur) (g:List Wt->Cur->List Wt×Cur) (_:0<d->∀ c n,c.good n->n<=m'->(f c).2.good (n+K)/\1<=(f c).1.length/\(f c).1.length<=L) (pg:0<d->∀ o c n,o.length<=B'->c.good n->n<=m'->(g o c).2.good (n+K)/\1<=(g o c).1.length/\(g o c).1.length<=o.length+L) (l:List Int) (a s:Int) (nl:Option Bool) (o:List Wt) (hc:(Cur.mk l a s).good m) (ho:o.length<=B):Ex1 (Ba prog (Aa [(90,.own AV),(92,.own GB),(89,.own (dwG (d-1) m' B' f g))]) (Aa []) f89 [.ptr 0 0,.j d,.ref 1 0 o.length] [.box [.sl (.int .u8) l,.j a,.i .u64 s],.row false nl WCd o]) (fun y:List Wt×Cur=>((.ref 2 0 y.1.length,[some (cB y.2),none,R0 WCd y.1]):V×List (Option Blk))) (fun y=>∀ n,(Cur.mk l a s).good n->n<=m->y.2.good (n+(10+2*K))/\1<=y.1.length/\y.1.length<=o.length+2*L+1):=by
  refine Ex1.of (Il d m' B' f g l a s o.length nl o) ?_;have hM:=mxI;have w1:i64.wrap (d-1)=d-1:=An (by omega) (by omega);have g9:((Cur.mk l a s).pickC 8).good 900000000:=Cur.pk (Cur.good_mono hc (by omega));have r5:=Cur.pickV_range (k:=5) g9 (by omega)
  have bad:decide (d<=0)=true->decide (i64.wrap (1+((Cur.mk l a s).pickC 8).pickV 5)<=5)=false->False:=fun _ h=>by
    have:=of_decide_eq_false h;rw [An (by omega) (by omega)] at this;omega
  have G : ∀ {c:Cur} {k:Int},(∀ n,(Cur.mk l a s).good n->c.good (n+k))->k<=10->c.good m'/\c.good 900000000:=fun h hk=>⟨Cur.good_mono (h m hc) (by omega),Cur.good_mono (h m hc) (by omega)⟩
  repeat with_reducible refine Ex1.sh ?_
  simp only [w1,B3,AG,drop_zero,take_length]
  repeat' first
    | (exfalso; exact bad ‹_› ‹_›)
    | with_reducible refine Ex1.B (fun h=>?_) (fun h=>?_)
    | with_reducible refine Ex1.T ?_ ?_
  all_goals first
    | (exfalso; exact bad ‹_› ‹_›)
    | (refine dcT ?_; (repeat with_reducible apply Cur.pk); exact Cur.good_mono hc (by omega))
    | (refine dcT ⟨?_,by omega,by omega⟩; (repeat with_reducible apply Cur.pk); exact Cur.good_mono hc (by omega))
    | (simp only [anE,dcE]; omega)
    | skip
  all_goals try have hp:0<d:=(by have:=of_decide_eq_false ‹decide (d<=0)=false›; omega)
  all_goals first
    | (refine dcT ⟨trivial,by omega,?_,trivial,by omega⟩; (repeat with_reducible apply Cur.pk); exact Cur.good_mono hc (by omega))
    | (refine dcT ⟨rfl,by omega,?_,trivial,by omega⟩; (repeat with_reducible apply Cur.pk); exact Cur.good_mono hc (by omega))
    | (refine dcT ⟨trivial,by omega,?_,rfl,by omega⟩; (repeat with_reducible apply Cur.pk); exact Cur.good_mono hc (by omega))
    | exact Ex1.c2 (o++[_]) rfl (by simp) fun n hn hm=>⟨(by (repeat with_reducible apply Cur.pk); exact Cur.good_mono hn (by omega)),by simp,by simp; try omega⟩
    | (have q:=pg hp o ((Cur.mk l a s).pickC 8) (m+2) (by omega) (Cur.pickC_good hc) (by omega)
       first
         | (refine dcT ⟨trivial,by omega,Cur.good_mono q.1 (by omega),trivial,?_⟩; have:=q.2.2; omega)
         | (simp only [anE,dcE]; have:=q.2.2; exact ⟨by omega,by omega⟩)
         | (have q2:=pg hp (g o ((Cur.mk l a s).pickC 8)).1 (g o ((Cur.mk l a s).pickC 8)).2 (m+2+K) (by have:=q.2.2; omega) q.1 (by omega); simp only [anE,dcE]; have:=q.2.2; have:=q2.2.2; exact ⟨by omega,by omega⟩)
         | (refine Ex1.c2 ((g o ((Cur.mk l a s).pickC 8)).1++[_]) rfl (by simp) fun n hn hm=>?_
            have q:=pg hp o ((Cur.mk l a s).pickC 8) (n+2) (by omega) (Cur.pickC_good hn) (by omega)
            exact ⟨Cur.good_mono q.1 (by omega),by simp,by have:=q.2.2; simp; omega⟩)
         | (refine Ex1.c2 ((g (g o ((Cur.mk l a s).pickC 8)).1 (g o ((Cur.mk l a s).pickC 8)).2).1++[_]) rfl (by simp) fun n hn hm=>?_
            have q:=pg hp o ((Cur.mk l a s).pickC 8) (n+2) (by omega) (Cur.pickC_good hn) (by omega);have q2:=pg hp (g o ((Cur.mk l a s).pickC 8)).1 (g o ((Cur.mk l a s).pickC 8)).2 (n+2+K) (by have:=q.2.2; omega) q.1 (by omega)
            exact ⟨Cur.good_mono q2.1 (by omega),by simp,by have:=q.2.2; have:=q2.2.2; simp; omega⟩))
def RE (f:Int->Cur->List Wt×Cur):Gm
 | [.ptr 0 0,.j x,.nl],[.box [.sl (.int .u8) l,.j a,.i .u64 s]]=>.need (decide (0<=x/\x<=3/\(Cur.mk l a s).good 86000000)) (.leaf (.ref 1 0 (f x (Cur.mk l a s)).1.length,[some (cB (f x (Cur.mk l a s)).2),R0 WCd (f x (Cur.mk l a s)).1]))
 | _,_=>.no
def Iv (f:Cur->(List Wt)×Cur):Gm
 | [.ptr 0 0],[.box [.sl (.int .u8) l,.j a,.i .u64 s]]=>.need (decide ((Cur.mk l a s).good 80000000)) (.leaf (.agg [.ref 1 0 (f  (Cur.mk l a s)).1.length],[some (cB (f  (Cur.mk l a s)).2),R0 WCd (f  (Cur.mk l a s)).1]))
 | _,_=>.no
def WEx (d m K:Int) (L B:Nat):Prop:=∃ (f:Cur->List Wt×Cur) (g:List Wt->Cur->List Wt×Cur),Ab prog 89 (Ent.own (dwG d m B f g)).F/\(0<=d->∀ c n,c.good n->n<=m->(f c).2.good (n+K)/\1<=(f c).1.length/\(f c).1.length<=L)/\(0<=d->∀ o c n,o.length<=B->c.good n->n<=m->(g o c).2.good (n+K)/\1<=(g o c).1.length/\(g o c).1.length<=o.length+L)
theorem V9 (m K:Int) (L B:Nat):WEx (-1) m K L B:=by
 refine ⟨fun c=>([],c),fun o c=>([],c),AQ fun vs bs=>?_,fun h=>by omega,fun h=>by omega⟩;unfold Ent.F dwG;dsimp only;split
 ·unfold Np;dsimp only;split
  ·rename_i l a s;rw [dcF (by omega)]; rfl
  ·rfl
 ·unfold Vo;dsimp only;split
  ·rw [dcF (by omega)]; rfl
  ·rfl
set_option maxHeartbeats 4000000 in
theorem JM {d d' m m' K:Int} {L B B':Nat} (h:WEx d' m' K L B') (hdd:d'=d-1) (h0:m+10+K<=m') (h1:m'<=800000000) (hK:0<=K) (hL:L<=100) (hB:B+100<=B') (hB2:B'<=1000) (hd:0<=d/\d<=100):WEx d m (10+2*K) (2*L+1) B:=by
 subst hdd;obtain ⟨f,g,hw,pf,pg⟩:=h;have pf:=fun (h:0<d)=>pf (by omega)
 have pg:0<d->∀ o c n,o.length<=B'->c.good n->n<=m'->(g o c).2.good (n+K)/\1<=(g o c).1.length/\(g o c).1.length<=o.length+L:=fun h=>pg (by omega)
 have ex0:=fun (c:Cur) (hc:c.good m)=>Vp d m m' K L h0 h1 hK hL B B' hB hB2 hd f g pf pg c.l c.a c.s hc
 have ex1:=fun (o:List Wt) (c:Cur) (nl:Option Bool) (h:c.good m/\o.length<=B)=>Vn d m m' K L h0 h1 hK hL B B' hB hB2 hd f g pf pg c.l c.a c.s nl o h.1 h.2
 have nlq : ∀ (o:List Wt) (c:Cur) (nl:Option Bool),Ba prog (Aa [(90,.own AV),(92,.own GB),(89,.own (dwG (d-1) m' B' f g))]) (Aa []) f89 [.ptr 0 0,.j d,.ref 1 0 o.length] [.box [.sl (.int .u8) c.l,.j c.a,.i .u64 c.s],.row false nl WCd o]=Ba prog (Aa [(90,.own AV),(92,.own GB),(89,.own (dwG (d-1) m' B' f g))]) (Aa []) f89 [.ptr 0 0,.j d,.ref 1 0 o.length] [.box [.sl (.int .u8) c.l,.j c.a,.i .u64 c.s],.row false none WCd o]:=fun o c nl=>(Il d m' B' f g c.l c.a c.s o.length nl o).trans (Il d m' B' f g c.l c.a c.s o.length none o).symm
 classical
 refine ⟨fun c=>if h:c.good m then (ex0 c h).choose else ([],c),fun o c=>if h:c.good m/\o.length<=B then (ex1 o c none h).choose else ([],c),?_,fun _ c n hc hn=>?_,fun _ o c n ho hc hn=>?_⟩
 rotate_left
 ·have h:=Cur.good_mono hc hn;simp only [dif_pos h];exact (ex0 c h).choose_spec.2 n hc hn
 ·have h:c.good m/\o.length<=B:=⟨Cur.good_mono hc hn,ho⟩
  simp only [dif_pos h];exact (ex1 o c none h).choose_spec.2 n hc hn
 refine fcC (kc func90 Fm (kc func92 cof (kc func89 hw KnowsL.nil))).knows (Λ:=Aa []) func89 fun vs bs r hq=>?_
 unfold Ent.F dwG at hq;dsimp only at hq;split at hq
 ·unfold Np at hq;dsimp only at hq;split at hq
  ·rename_i x l a s heq;obtain ⟨hc,hx⟩:=Ac hq;obtain ⟨hxd,h1,h2⟩:=of_decide_eq_true hc;rw [heq,hxd];refine ⟨Aj _,((ex0 (Cur.mk l a s) h2).choose_spec.1).trans ?_⟩;rw [dif_pos h2] at hx;exact hx
  ·cases hq
 ·unfold Vo at hq;dsimp only at hq;split at hq
  ·rename_i x n l a s nl o _;obtain ⟨hc,hx⟩:=Ac hq;obtain ⟨hxd,h1,h2,hno,h4⟩:=of_decide_eq_true hc;rw [hxd,hno];refine ⟨Aj _,((nlq o (Cur.mk l a s) nl).trans (ex1 o (Cur.mk l a s) none ⟨h2,h4⟩).choose_spec.1).trans ?_⟩;rw [dif_pos ⟨h2,h4⟩] at hx;exact hx
  ·cases hq
theorem WEx.weak {d m K m2 K2:Int} {L B L2:Nat} (h:WEx d m K L B) (h1:m2<=m) (h2:K<=K2) (h3:L<=L2) : ∃ f:Cur->List Wt×Cur,Ab prog 89 (Ent.own (Np d m2 B f)).F/\(0<=d->∀ c n,c.good n->n<=m2->(f c).2.good (n+K2)/\1<=(f c).1.length/\(f c).1.length<=L2):=by
 obtain ⟨f,g,hw,pf,_⟩:=h;refine ⟨f,D3 hw fun vs bs r hq=>?_,fun hd c n hc hn=>?_⟩
 ·unfold Ent.F Np at hq;dsimp only at hq;split at hq
  ·rename_i x l a s;obtain ⟨hc,hx⟩:=Ac hq;obtain ⟨q1,q2,q3⟩:=of_decide_eq_true hc;show (Br.need (decide (x=d/\0<=d/\(Cur.mk l a s).good m)) (.leaf (.ref 1 0 (f (Cur.mk l a s)).1.length,[some (cB (f (Cur.mk l a s)).2),R0 WCd (f (Cur.mk l a s)).1]))).run=some r;rw [dcT ⟨q1,q2,Cur.good_mono q3 h1⟩];exact hx
  ·cases hq
 ·have:=pf hd c n hc (by omega);exact ⟨Cur.good_mono this.1 (by omega),this.2.1,by omega⟩
theorem we0:WEx 0 89000000 10 1 900:=JM (m':=90000000) (K:=0) (L:=0) (B':=1000) (V9 _ _ _ _) (by omega) (by omega) (by omega) (by omega) (by omega) (by omega) (by omega) (by omega)
theorem we1:WEx 1 88000000 30 3 800:=JM we0 (by omega) (by omega) (by omega) (by omega) (by omega) (by omega) (by omega) (by omega)
theorem we2:WEx 2 87000000 70 7 700:=JM we1 (by omega) (by omega) (by omega) (by omega) (by omega) (by omega) (by omega) (by omega)
theorem we3:WEx 3 86000000 150 15 600:=JM we2 (by omega) (by omega) (by omega) (by omega) (by omega) (by omega) (by omega) (by omega)
theorem Ug (x:Int) (h:0<=x/\x<=3) : ∃ f:Cur->List Wt×Cur,Ab prog 89 (Ent.own (Np x 86000000 0 f)).F/\∀ c n,c.good n->n<=86000000->(f c).2.good (n+150)/\1<=(f c).1.length/\(f c).1.length<=15:=by
 have hx:x=0\/x=1\/x=2\/x=3:=by omega
 rcases hx with rfl | rfl | rfl | rfl
 ·obtain ⟨f,h1,h2⟩:=we0.weak (m2:=86000000) (K2:=150) (L2:=15) (by omega) (by omega) (by omega); exact ⟨f,h1,h2 (by omega)⟩
 ·obtain ⟨f,h1,h2⟩:=we1.weak (m2:=86000000) (K2:=150) (L2:=15) (by omega) (by omega) (by omega); exact ⟨f,h1,h2 (by omega)⟩
 ·obtain ⟨f,h1,h2⟩:=we2.weak (m2:=86000000) (K2:=150) (L2:=15) (by omega) (by omega) (by omega); exact ⟨f,h1,h2 (by omega)⟩
 ·obtain ⟨f,h1,h2⟩:=we3.weak (m2:=86000000) (K2:=150) (L2:=15) (by omega) (by omega) (by omega); exact ⟨f,h1,h2 (by omega)⟩
theorem No : ∃ g:Int->Cur->List Wt×Cur,Ab prog 89 (Ent.own (RE g)).F/\∀ x c n,0<=x->x<=3->c.good n->n<=86000000->(g x c).2.good (n+150)/\1<=(g x c).1.length/\(g x c).1.length<=15:=by
 obtain ⟨g,hg⟩:=CO (Y:=Cur->List Wt×Cur) (fun c=>([],c)) Ug;refine ⟨g,?_,fun x c n h0 h3 hc hn=>(hg x ⟨h0,h3⟩).2 c n hc hn⟩;refine AX (F:=fun n=>(Ent.own (bif decide (n<=3) then Np (n:Int) 86000000 0 (g n) else fun _ _=>.no)).F) (fun n _=>?_) fun vs bs r hq=>?_
 ·by_cases h:n<=3
  ·rw [dcT h];exact (hg n (by omega)).1
  ·rw [dcF h];exact AQ fun vs bs=>rfl
 ·unfold Ent.F RE at hq;dsimp only at hq;split at hq
  ·rename_i x l a s;obtain ⟨hc,hx⟩:=Ac hq;obtain ⟨q1,q2,q3⟩:=of_decide_eq_true hc;obtain ⟨x,rfl⟩:=eq_ofNat_of_zero_le q1;refine ⟨x,?_⟩;rw [dcT (show x<=3 by omega)];show (Br.need (decide ((x:Int)=(x:Int)/\0<=(x:Int)/\(Cur.mk l a s).good 86000000)) (.leaf (.ref 1 0 (g (x:Int) (Cur.mk l a s)).1.length,[some (cB (g (x:Int) (Cur.mk l a s)).2),R0 WCd (g (x:Int) (Cur.mk l a s)).1]))).run=some r;rw [dcT ⟨rfl,q1,q3⟩];exact hx
  ·cases hq
noncomputable def Fk:Int->Cur->List Wt×Cur:=No.choose
theorem Tw:Ab prog 89 (Ent.own (RE Fk)).F:=No.choose_spec.1
theorem Kw : ∀ x c n,0<=x->x<=3->c.good n->n<=86000000->(Fk x c).2.good (n+150)/\1<=(Fk x c).1.length/\(Fk x c).1.length<=15:=No.choose_spec.2
theorem P4 (g:Int->Cur->List Wt×Cur)  (l:List Int) (a s:Int):Ba prog (Aa [(90,.own AV),(67,.own DF),(89,.own (RE g))]) (Aa []) f46 [.ptr 0 0] [.box [.sl (.int .u8) l,.j a,.i .u64 s]] =
 ((shr ((Cur.mk l a s).pickC (4:Int)) fun sh2=>shr (g ((Cur.mk l a s).pickV (4:Int)) sh2) fun sh1=>ifT (decide ((Cur.mk l a s).good (900000000:Int))) (ifT (decide
 ((0:Int)<=(Cur.mk l a s).pickV (4:Int)/\(Cur.mk l a s).pickV (4:Int)<=(3:Int)/\sh2.good (86000000:Int))) (ifB (decide ((↑sh1.1.length:Int)>(20 :
 Int))) (ifT (decide (sh1.2.good (900000000:Int))) (ifB (!sh1.2.pickV (6:Int)==(0:Int)) (ifT (decide ((0:Int)<=(0:Int)/\(0:Int)<=(3:Int)/\
 (sh1.2.pickC (6:Int)).good (86000000:Int))) (ifT (decide ((g (0:Int) (sh1.2.pickC (6:Int))).2.good (900000000:Int))) (ifB ((g (0:Int) (sh1.2.pickC (6
 : Int))).2.pickV (20:Int)==(0:Int)) (ifT (decide (((g (0:Int) (sh1.2.pickC (6:Int))).2.pickC (20:Int)).good (900000000:Int))) (ifT (decide ((((g (0 :
 Int) (sh1.2.pickC (6:Int))).2.pickC (20:Int)).pickC (↑(g (0:Int) (sh1.2.pickC (6:Int))).1.length:Int)).good (900000000:Int))) (ifB ((((g (0:Int)
 (sh1.2.pickC (6:Int))).2.pickC (20:Int)).pickC (↑(g (0:Int) (sh1.2.pickC (6:Int))).1.length:Int)).pickV (3:Int)==(0:Int)) (ifT (decide (((((g (0 :
 Int) (sh1.2.pickC (6:Int))).2.pickC (20:Int)).pickC (↑(g (0:Int) (sh1.2.pickC (6:Int))).1.length:Int)).pickC (3:Int)).good (900000000:Int))) (ifT
 (decide ((0:Int)<=((g (0:Int) (sh1.2.pickC (6:Int))).2.pickC (20:Int)).pickV (↑(g (0:Int) (sh1.2.pickC (6:Int))).1.length:Int))&&decide (((g (0 :
 Int) (sh1.2.pickC (6:Int))).2.pickC (20:Int)).pickV (↑(g (0:Int) (sh1.2.pickC (6:Int))).1.length:Int)<(↑(g (0:Int) (sh1.2.pickC (6 :
 Int))).1.length:Int))) (Al (g (0:Int) (sh1.2.pickC (6:Int))).1[0+(((g (0:Int) (sh1.2.pickC (6:Int))).2.pickC (20:Int)).pickV (↑(g (0 :
 Int) (sh1.2.pickC (6:Int))).1.length:Int)).toNat]? fun z=>some (V.agg [V.ref 1 0 (g (0:Int) (sh1.2.pickC (6:Int))).1.length],[some (Blk.box [V.sl
 (Cd.int .u8) (((((g (0:Int) (sh1.2.pickC (6:Int))).2.pickC (20:Int)).pickC (↑(g (0:Int) (sh1.2.pickC (6:Int))).1.length:Int)).pickC (3:Int)).pickC
 (10:Int)).l,V.j (((((g (0:Int) (sh1.2.pickC (6:Int))).2.pickC (20:Int)).pickC (↑(g (0:Int) (sh1.2.pickC (6:Int))).1.length:Int)).pickC (3 :
 Int)).pickC (10:Int)).a,V.i .u64 (((((g (0:Int) (sh1.2.pickC (6:Int))).2.pickC (20:Int)).pickC (↑(g (0:Int) (sh1.2.pickC (6:Int))).1.length :
 Int)).pickC (3:Int)).pickC (10:Int)).s]),R0 WCd ((g (0:Int) (sh1.2.pickC (6:Int))).1.set (0+(((g (0:Int) (sh1.2.pickC (6
 : Int))).2.pickC (20:Int)).pickV (↑(g (0:Int) (sh1.2.pickC (6:Int))).1.length:Int)).toNat) (((((g (0:Int) (sh1.2.pickC (6:Int))).2.pickC (20 :
 Int)).pickC (↑(g (0:Int) (sh1.2.pickC (6:Int))).1.length:Int)).pickC (3:Int)).pickV (10:Int),z.2.1,z.2.2.1,z.2.2.2.1,
 z.2.2.2.2.1,z.2.2.2.2.2.1,()))])))) (ifB ((((g (0:Int) (sh1.2.pickC (6:Int))).2.pickC (20:Int)).pickC (↑(g (0:Int) (sh1.2.pickC (6
 : Int))).1.length:Int)).pickV (3:Int)==(1:Int)) (ifT (decide (((((g (0:Int) (sh1.2.pickC (6:Int))).2.pickC (20:Int)).pickC (↑(g (0:Int)
 (sh1.2.pickC (6:Int))).1.length:Int)).pickC (3:Int)).good (900000000:Int))) (ifT (decide ((0:Int)<=((g (0:Int) (sh1.2.pickC (6:Int))).2.pickC (20 :
 Int)).pickV (↑(g (0:Int) (sh1.2.pickC (6:Int))).1.length:Int))&&decide (((g (0:Int) (sh1.2.pickC (6:Int))).2.pickC (20:Int)).pickV (↑(g (0:Int)
 (sh1.2.pickC (6:Int))).1.length:Int)<(↑(g (0:Int) (sh1.2.pickC (6:Int))).1.length:Int))) (Al (g (0:Int) (sh1.2.pickC (6:Int))).1[0
 + (((g (0:Int) (sh1.2.pickC (6:Int))).2.pickC (20:Int)).pickV (↑(g (0:Int) (sh1.2.pickC (6:Int))).1.length:Int)).toNat]? fun z=>some (V.agg [V.ref 1
 0 (g (0:Int) (sh1.2.pickC (6:Int))).1.length],[some (Blk.box [V.sl (Cd.int .u8) (((((g (0:Int) (sh1.2.pickC (6:Int))).2.pickC (20:Int)).pickC (↑(g (0 :
 Int) (sh1.2.pickC (6:Int))).1.length:Int)).pickC (3:Int)).pickC (4:Int)).l,V.j (((((g (0:Int) (sh1.2.pickC (6:Int))).2.pickC (20:Int)).pickC
 (↑(g (0:Int) (sh1.2.pickC (6:Int))).1.length:Int)).pickC (3:Int)).pickC (4:Int)).a,V.i .u64 (((((g (0:Int) (sh1.2.pickC (6:Int))).2.pickC (20 :
 Int)).pickC (↑(g (0:Int) (sh1.2.pickC (6:Int))).1.length:Int)).pickC (3:Int)).pickC (4:Int)).s]),R0 WCd ((g (0:Int) (sh1.2.pickC
 (6:Int))).1.set (0+(((g (0:Int) (sh1.2.pickC (6:Int))).2.pickC (20:Int)).pickV (↑(g (0:Int) (sh1.2.pickC (6:Int))).1.length:Int)).toNat)
 (z.1,z.2.1,z.2.2.1,z.2.2.2.1,i64.wrap (((((g (0:Int) (sh1.2.pickC (6:Int))).2.pickC (20:Int)).pickC (↑(g (0:Int)
 (sh1.2.pickC (6:Int))).1.length:Int)).pickC (3:Int)).pickV (4:Int)-(1:Int)),z.2.2.2.2.2.1,()))])))) (ifT (decide (((((g (0:Int)
 (sh1.2.pickC (6:Int))).2.pickC (20:Int)).pickC (↑(g (0:Int) (sh1.2.pickC (6:Int))).1.length:Int)).pickC (3:Int)).good (900000000:Int))) (ifT (decide
 ((0:Int)<=((g (0:Int) (sh1.2.pickC (6:Int))).2.pickC (20:Int)).pickV (↑(g (0:Int) (sh1.2.pickC (6:Int))).1.length:Int))&&decide (((g (0:Int)
 (sh1.2.pickC (6:Int))).2.pickC (20:Int)).pickV (↑(g (0:Int) (sh1.2.pickC (6:Int))).1.length:Int)<(↑(g (0:Int) (sh1.2.pickC (6:Int))).1.length
 : Int))) (Al (g (0:Int) (sh1.2.pickC (6:Int))).1[0+(((g (0:Int) (sh1.2.pickC (6:Int))).2.pickC (20:Int)).pickV (↑(g (0:Int)
 (sh1.2.pickC (6:Int))).1.length:Int)).toNat]? fun z=>some (V.agg [V.ref 1 0 (g (0:Int) (sh1.2.pickC (6:Int))).1.length],[some (Blk.box [V.sl (Cd.int
 .u8) (((((g (0:Int) (sh1.2.pickC (6:Int))).2.pickC (20:Int)).pickC (↑(g (0:Int) (sh1.2.pickC (6:Int))).1.length:Int)).pickC (3:Int)).pickC (32 :
 Int)).l,V.j (((((g (0:Int) (sh1.2.pickC (6:Int))).2.pickC (20:Int)).pickC (↑(g (0:Int) (sh1.2.pickC (6:Int))).1.length:Int)).pickC (3 :
 Int)).pickC (32:Int)).a,V.i .u64 (((((g (0:Int) (sh1.2.pickC (6:Int))).2.pickC (20:Int)).pickC (↑(g (0:Int) (sh1.2.pickC (6:Int))).1.length :
 Int)).pickC (3:Int)).pickC (32:Int)).s]),R0 WCd ((g (0:Int) (sh1.2.pickC (6:Int))).1.set (0+(((g (0:Int) (sh1.2.pickC (6
 : Int))).2.pickC (20:Int)).pickV (↑(g (0:Int) (sh1.2.pickC (6:Int))).1.length:Int)).toNat) (z.1,((((g (0:Int) (sh1.2.pickC (6:Int))).2.pickC (20
 : Int)).pickC (↑(g (0:Int) (sh1.2.pickC (6:Int))).1.length:Int)).pickC (3:Int)).pickV (32:Int),z.2.2.1,z.2.2.2.1,z.2.2.2.2.1,
 z.2.2.2.2.2.1,()))])))))))) (some (V.agg [V.ref 1 0 (g (0:Int) (sh1.2.pickC (6:Int))).1.length],[some (Blk.box [V.sl (Cd.int .u8) ((g (0:Int)
 (sh1.2.pickC (6:Int))).2.pickC (20:Int)).l,V.j ((g (0:Int) (sh1.2.pickC (6:Int))).2.pickC (20:Int)).a,V.i .u64 ((g (0:Int) (sh1.2.pickC (6 :
 Int))).2.pickC (20:Int)).s]),R0 WCd (g (0:Int) (sh1.2.pickC (6:Int))).1]))))) (ifT (decide ((sh1.2.pickC (6:Int)).good (900000000
 : Int))) (ifB ((sh1.2.pickC (6:Int)).pickV (20:Int)==(0:Int)) (ifT (decide (((sh1.2.pickC (6:Int)).pickC (20:Int)).good (900000000:Int))) (ifT (decide
 ((((sh1.2.pickC (6:Int)).pickC (20:Int)).pickC (↑sh1.1.length:Int)).good (900000000:Int))) (ifB ((((sh1.2.pickC (6:Int)).pickC (20:Int)).pickC
 (↑sh1.1.length:Int)).pickV (3:Int)==(0:Int)) (ifT (decide (((((sh1.2.pickC (6:Int)).pickC (20:Int)).pickC (↑sh1.1.length:Int)).pickC (3:Int)).good
 (900000000:Int))) (ifT (decide ((0:Int)<=((sh1.2.pickC (6:Int)).pickC (20:Int)).pickV (↑sh1.1.length:Int))&&decide (((sh1.2.pickC (6:Int)).pickC (20
 : Int)).pickV (↑sh1.1.length:Int)<(↑sh1.1.length:Int))) (Al sh1.1[0+(((sh1.2.pickC (6:Int)).pickC (20:Int)).pickV (↑sh1.1.length :
 Int)).toNat]? fun z=>some (V.agg [V.ref 1 0 sh1.1.length],[some (Blk.box [V.sl (Cd.int .u8) (((((sh1.2.pickC (6:Int)).pickC (20:Int)).pickC (↑sh1.1.length :
 Int)).pickC (3:Int)).pickC (10:Int)).l,V.j (((((sh1.2.pickC (6:Int)).pickC (20:Int)).pickC (↑sh1.1.length:Int)).pickC (3:Int)).pickC (10:Int)).a,
 V.i .u64 (((((sh1.2.pickC (6:Int)).pickC (20:Int)).pickC (↑sh1.1.length:Int)).pickC (3:Int)).pickC (10:Int)).s]),R0 WCd (sh1.1.set
 (0+(((sh1.2.pickC (6:Int)).pickC (20:Int)).pickV (↑sh1.1.length:Int)).toNat) (((((sh1.2.pickC (6:Int)).pickC (20:Int)).pickC (↑sh1.1.length :
 Int)).pickC (3:Int)).pickV (10:Int),z.2.1,z.2.2.1,z.2.2.2.1,z.2.2.2.2.1,z.2.2.2.2.2.1,()))])))) (ifB ((((sh1.2.pickC
 (6:Int)).pickC (20:Int)).pickC (↑sh1.1.length:Int)).pickV (3:Int)==(1:Int)) (ifT (decide (((((sh1.2.pickC (6:Int)).pickC (20:Int)).pickC
 (↑sh1.1.length:Int)).pickC (3:Int)).good (900000000:Int))) (ifT (decide ((0:Int)<=((sh1.2.pickC (6:Int)).pickC (20:Int)).pickV (↑sh1.1.length:Int))
 && decide (((sh1.2.pickC (6:Int)).pickC (20:Int)).pickV (↑sh1.1.length:Int)<(↑sh1.1.length:Int))) (Al sh1.1[0+(((sh1.2.pickC (6 :
 Int)).pickC (20:Int)).pickV (↑sh1.1.length:Int)).toNat]? fun z=>some (V.agg [V.ref 1 0 sh1.1.length],[some (Blk.box [V.sl (Cd.int .u8) (((((sh1.2.pickC (6 :
 Int)).pickC (20:Int)).pickC (↑sh1.1.length:Int)).pickC (3:Int)).pickC (4:Int)).l,V.j (((((sh1.2.pickC (6:Int)).pickC (20:Int)).pickC
 (↑sh1.1.length:Int)).pickC (3:Int)).pickC (4:Int)).a,V.i .u64 (((((sh1.2.pickC (6:Int)).pickC (20:Int)).pickC (↑sh1.1.length:Int)).pickC (3 :
 Int)).pickC (4:Int)).s]),R0 WCd (sh1.1.set (0+(((sh1.2.pickC (6:Int)).pickC (20:Int)).pickV (↑sh1.1.length:Int)).toNat)
 (z.1,z.2.1,z.2.2.1,z.2.2.2.1,i64.wrap (((((sh1.2.pickC (6:Int)).pickC (20:Int)).pickC (↑sh1.1.length:Int)).pickC (3 :
 Int)).pickV (4:Int)-(1:Int)),z.2.2.2.2.2.1,()))])))) (ifT (decide (((((sh1.2.pickC (6:Int)).pickC (20:Int)).pickC (↑sh1.1.length :
 Int)).pickC (3:Int)).good (900000000:Int))) (ifT (decide ((0:Int)<=((sh1.2.pickC (6:Int)).pickC (20:Int)).pickV (↑sh1.1.length:Int))&&decide
 (((sh1.2.pickC (6:Int)).pickC (20:Int)).pickV (↑sh1.1.length:Int)<(↑sh1.1.length:Int))) (Al sh1.1[0+(((sh1.2.pickC (6:Int)).pickC (20
 : Int)).pickV (↑sh1.1.length:Int)).toNat]? fun z=>some (V.agg [V.ref 1 0 sh1.1.length],[some (Blk.box [V.sl (Cd.int .u8) (((((sh1.2.pickC (6:Int)).pickC (20
 : Int)).pickC (↑sh1.1.length:Int)).pickC (3:Int)).pickC (32:Int)).l,V.j (((((sh1.2.pickC (6:Int)).pickC (20:Int)).pickC (↑sh1.1.length:Int)).pickC
 (3:Int)).pickC (32:Int)).a,V.i .u64 (((((sh1.2.pickC (6:Int)).pickC (20:Int)).pickC (↑sh1.1.length:Int)).pickC (3:Int)).pickC (32:Int)).s]),R0 WCd (sh1.1.set (0+(((sh1.2.pickC (6:Int)).pickC (20:Int)).pickV (↑sh1.1.length:Int)).toNat) (z.1,((((sh1.2.pickC (6 :
 Int)).pickC (20:Int)).pickC (↑sh1.1.length:Int)).pickC (3:Int)).pickV (32:Int),z.2.2.1,z.2.2.2.1,z.2.2.2.2.1,
 z.2.2.2.2.2.1,()))])))))))) (some (V.agg [V.ref 1 0 sh1.1.length],[some (Blk.box [V.sl (Cd.int .u8) ((sh1.2.pickC (6:Int)).pickC (20:Int)).l,V.i
 .i64 ((sh1.2.pickC (6:Int)).pickC (20:Int)).a,V.i .u64 ((sh1.2.pickC (6:Int)).pickC (20:Int)).s]),R0 WCd sh1.1])))))) (ifT (decide
 (sh1.2.good (900000000:Int))) (ifB (sh1.2.pickV (20:Int)==(0:Int)) (ifT (decide ((sh1.2.pickC (20:Int)).good (900000000:Int))) (ifT (decide
 (((sh1.2.pickC (20:Int)).pickC (↑sh1.1.length:Int)).good (900000000:Int))) (ifB (((sh1.2.pickC (20:Int)).pickC (↑sh1.1.length:Int)).pickV (3:Int)==
 (0:Int)) (ifT (decide ((((sh1.2.pickC (20:Int)).pickC (↑sh1.1.length:Int)).pickC (3:Int)).good (900000000:Int))) (ifT (decide ((0:Int)<=(sh1.2.pickC
 (20:Int)).pickV (↑sh1.1.length:Int))&&decide ((sh1.2.pickC (20:Int)).pickV (↑sh1.1.length:Int)<(↑sh1.1.length:Int))) (Al sh1.1[0 +
 ((sh1.2.pickC (20:Int)).pickV (↑sh1.1.length:Int)).toNat]? fun z=>some (V.agg [V.ref 1 0 sh1.1.length],[some (Blk.box [V.sl (Cd.int .u8) ((((sh1.2.pickC
 (20:Int)).pickC (↑sh1.1.length:Int)).pickC (3:Int)).pickC (10:Int)).l,V.j ((((sh1.2.pickC (20:Int)).pickC (↑sh1.1.length:Int)).pickC (3 :
 Int)).pickC (10:Int)).a,V.i .u64 ((((sh1.2.pickC (20:Int)).pickC (↑sh1.1.length:Int)).pickC (3:Int)).pickC (10:Int)).s]),R0 WCd
 (sh1.1.set (0+((sh1.2.pickC (20:Int)).pickV (↑sh1.1.length:Int)).toNat) ((((sh1.2.pickC (20:Int)).pickC (↑sh1.1.length:Int)).pickC (3 :
 Int)).pickV (10:Int),z.2.1,z.2.2.1,z.2.2.2.1,z.2.2.2.2.1,z.2.2.2.2.2.1,()))])))) (ifB (((sh1.2.pickC (20:Int)).pickC
 (↑sh1.1.length:Int)).pickV (3:Int)==(1:Int)) (ifT (decide ((((sh1.2.pickC (20:Int)).pickC (↑sh1.1.length:Int)).pickC (3:Int)).good (900000000:Int)))
 (ifT (decide ((0:Int)<=(sh1.2.pickC (20:Int)).pickV (↑sh1.1.length:Int))&&decide ((sh1.2.pickC (20:Int)).pickV (↑sh1.1.length:Int)<(↑sh1.1.length
 : Int))) (Al sh1.1[0+((sh1.2.pickC (20:Int)).pickV (↑sh1.1.length:Int)).toNat]? fun z=>some (V.agg [V.ref 1 0 sh1.1.length],[some (Blk.box
 [V.sl (Cd.int .u8) ((((sh1.2.pickC (20:Int)).pickC (↑sh1.1.length:Int)).pickC (3:Int)).pickC (4:Int)).l,V.j ((((sh1.2.pickC (20:Int)).pickC
 (↑sh1.1.length:Int)).pickC (3:Int)).pickC (4:Int)).a,V.i .u64 ((((sh1.2.pickC (20:Int)).pickC (↑sh1.1.length:Int)).pickC (3:Int)).pickC (4:Int)).s]),
 R0 WCd (sh1.1.set (0+((sh1.2.pickC (20:Int)).pickV (↑sh1.1.length:Int)).toNat) (z.1,z.2.1,z.2.2.1,
 z.2.2.2.1,i64.wrap ((((sh1.2.pickC (20:Int)).pickC (↑sh1.1.length:Int)).pickC (3:Int)).pickV (4:Int)-(1:Int)),z.2.2.2.2.2.1,
 ()))])))) (ifT (decide ((((sh1.2.pickC (20:Int)).pickC (↑sh1.1.length:Int)).pickC (3:Int)).good (900000000:Int))) (ifT (decide ((0:Int)<=(sh1.2.pickC
 (20:Int)).pickV (↑sh1.1.length:Int))&&decide ((sh1.2.pickC (20:Int)).pickV (↑sh1.1.length:Int)<(↑sh1.1.length:Int))) (Al sh1.1[0 +
 ((sh1.2.pickC (20:Int)).pickV (↑sh1.1.length:Int)).toNat]? fun z=>some (V.agg [V.ref 1 0 sh1.1.length],[some (Blk.box [V.sl (Cd.int .u8) ((((sh1.2.pickC
 (20:Int)).pickC (↑sh1.1.length:Int)).pickC (3:Int)).pickC (32:Int)).l,V.j ((((sh1.2.pickC (20:Int)).pickC (↑sh1.1.length:Int)).pickC (3 :
 Int)).pickC (32:Int)).a,V.i .u64 ((((sh1.2.pickC (20:Int)).pickC (↑sh1.1.length:Int)).pickC (3:Int)).pickC (32:Int)).s]),R0 WCd
 (sh1.1.set (0+((sh1.2.pickC (20:Int)).pickV (↑sh1.1.length:Int)).toNat) (z.1,(((sh1.2.pickC (20:Int)).pickC (↑sh1.1.length:Int)).pickC (3 :
 Int)).pickV (32:Int),z.2.2.1,z.2.2.2.1,z.2.2.2.2.1,z.2.2.2.2.2.1,()))])))))))) (some (V.agg [V.ref 1 0 sh1.1.length],[some
 (Blk.box [V.sl (Cd.int .u8) (sh1.2.pickC (20:Int)).l,V.j (sh1.2.pickC (20:Int)).a,V.i .u64 (sh1.2.pickC (20:Int)).s]),R0 WCd
 sh1.1]))))))):_):=by kernel_rfl
theorem TG  (l:List Int) (a s:Int) (hc:(Cur.mk l a s).good 80000000):Ex1 (Ba prog (Aa [(90,.own AV),(67,.own DF),(89,.own (RE Fk))]) (Aa []) f46 [.ptr 0 0] [.box [.sl (.int .u8) l,.j a,.i .u64 s]]) (fun y:(List Wt)×Cur=>((.agg [.ref 1 0 y.1.length],[some (cB y.2),R0 WCd y.1]):V×List (Option Blk))) (fun y=>(∀ n,(Cur.mk l a s).good n->n<=80000000->y.2.good (n+400))/\1<=y.1.length/\y.1.length<=15):=by
 refine Ex1.of (P4 Fk  l a s) ?_;have r4:=Cur.pickV_range (k:=4) hc (by omega);have pa : ∀ n,(Cur.mk l a s).good n->n<=80000000->(Fk ((Cur.mk l a s).pickV 4) ((Cur.mk l a s).pickC 4)).2.good (n+152):=fun n h hm=>Cur.good_mono (Kw _ _ _ r4.1 (by omega) (Cur.pickC_good h) (by omega)).1 (by omega)
 have la:=(Kw _ _ _ r4.1 (by omega) (Cur.pickC_good (k:=4) hc) (by omega)).2;have g1:=pa 80000000 hc (by omega);have g0:((Cur.mk l a s).pickC 4).good 86000000:=Cur.pk (Cur.good_mono hc (by omega));have lb:=fun (c:Cur) (h:c.good 80001000)=>(Kw 0 c _ (by omega) (by omega) h (by omega)).2
 have pb:=fun (c:Cur) (n:Int) (h:c.good n) (hm:n<=80001000)=>(Kw 0 c n (by omega) (by omega) h (by omega)).1
 repeat with_reducible refine Ex1.sh ?_
 simp only [B3,zero_add];generalize hF:Fk ((Cur.mk l a s).pickV 4) ((Cur.mk l a s).pickC 4)=F at *;obtain ⟨w,c⟩:=F;dsimp only at *;have hw2:=lb (c.pickC 6) (Cur.pk (Cur.good_mono g1 (by omega)));have pw2 : ∀ n,(Cur.mk l a s).good n->n<=80000000->(Fk 0 (c.pickC 6)).2.good (n+304):=fun n h hm=>Cur.good_mono (pb (c.pickC 6) _ (Cur.pickC_good (pa n h hm)) (by omega)) (by omega)
 have g2:=pw2 80000000 hc (by omega);have g3:(c.pickC 6).good 86000000:=Cur.pk (Cur.good_mono g1 (by omega));generalize Fk 0 (c.pickC 6)=F2 at *;obtain ⟨w2,c2⟩:=F2;dsimp only at *
 repeat' first
  | with_reducible refine Ex1.B (fun h=>?_) (fun h=>?_)
  | with_reducible refine Ex1.T ?_ ?_
  | with_reducible refine Ex1.S (Ue ?_) fun z hz=>?_
 all_goals try simp only [B3]
 all_goals first
  | exact dcT (Cur.good_mono hc (by omega))
  | exact dcT ⟨r4.1,by omega,g0⟩
  | exact dcT ⟨by omega,by omega,g3⟩
  | (refine dcT ?_; (repeat with_reducible apply Cur.pk); first | exact Cur.good_mono g1 (by omega) | exact Cur.good_mono g2 (by omega))
  | exact U5 (n:=81000000) (by (repeat with_reducible apply Cur.pk); first | exact Cur.good_mono g1 (by omega) | exact Cur.good_mono g2 (by omega)) (by omega)
  | exact NR (n:=81000000) (by (repeat with_reducible apply Cur.pk); first | exact Cur.good_mono g1 (by omega) | exact Cur.good_mono g2 (by omega)) (by omega)
  | exact Ex1.c _ rfl rfl ⟨fun n hn hm=>by (repeat with_reducible apply Cur.pk); first | exact Cur.good_mono (pa n hn hm) (by omega) | exact Cur.good_mono (pw2 n hn hm) (by omega),by dsimp only; omega⟩
  | exact Ex1.c _ rfl (by simp only [List.length_set]) ⟨fun n hn hm=>by (repeat with_reducible apply Cur.pk); first | exact Cur.good_mono (pa n hn hm) (by omega) | exact Cur.good_mono (pw2 n hn hm) (by omega),by simp only [List.length_set]; omega⟩

theorem Iu : ∃ f:Cur->(List Wt)×Cur,Ab prog 46 (Ent.own (Iv f)).F/\∀  (c:Cur),(c.good 80000000)->(∀ n,c.good n->n<=80000000->(f  c).2.good (n+400))/\1<=(f  c).1.length/\(f  c).1.length<=15:=by
 have ex:=fun  (c:Cur) (hc:c.good 80000000)=>TG  c.l c.a c.s hc
 classical
 refine ⟨fun  c=>if h:c.good 80000000 then (ex  c h).choose else ([],c),?_,fun  c hc=>?_⟩
 rotate_left
 ·simp only [dif_pos hc];exact (ex  c hc).choose_spec.2
 refine fcC (kc func90 Fm (kc func67 TL (kc func89 Tw KnowsL.nil))).knows (Λ:=(Aa [])) func46 fun vs bs r hq=>?_
 unfold Ent.F Iv at hq;dsimp only at hq;split at hq
 ·rename_i  l a s;obtain ⟨hc,hx⟩:=Ac hq;have hc:=of_decide_eq_true hc;refine ⟨Aj _,((ex  (Cur.mk l a s) hc).choose_spec.1).trans ?_⟩;rw [dif_pos hc] at hx;exact hx
 ·cases hq
noncomputable def D1:Cur->(List Wt)×Cur:=Iu.choose
theorem Md:Ab prog 46 (Ent.own (Iv D1)).F:=Iu.choose_spec.1
theorem Ow : ∀  (c:Cur),(c.good 80000000)->(∀ n,c.good n->n<=80000000->(D1  c).2.good (n+400))/\1<=(D1  c).1.length/\(D1  c).1.length<=15:=Iu.choose_spec.2
def tv:Nat->By->Nat->Nat->Option (Nat×Nat×Bool)
 | 0,_,_,_=>none
 | _+1,[],_,_=>none
 | f+1,b::l,i,n=>if b.toNat<128 then some (n+b.toNat % 128*2 ^ (7*i),i+1,decide (n+b.toNat % 128*2 ^ (7*i)<=2000000001)&&(decide (0<b.toNat)||decide (i=0))) else tv f l (i+1) (n+b.toNat % 128*2 ^ (7*i))
def Ah (s:By) (a:Nat):Option (Nat×Nat×Bool):=tv 5 (s.drop a) 0 0
def AC:Option (Nat×Nat×Bool)->Int | some (n,_,_)=>n | none=>0
def At (a:Nat):Option (Nat×Nat×Bool)->Int | some (_,k,_)=>((a+k:Nat):Int) | none=>0
def BB:Option (Nat×Nat×Bool)->Bool | some (_,_,ok)=>ok | none=>false
def CK:Option (Nat×Nat×Bool)->Int | some (n,_,true)=>n | _=>0
def Bq (a:Nat):Option (Nat×Nat×Bool)->Int | some (_,k,true)=>((a+k:Nat):Int) | _=>0
def KL:LoopEnt:=⟨52,[0,1,7,8],[],[4,5,6],fun
 | ([.s s,.j a,.j n,.j i],[])=>.need (decide (0<=a/\0<=n/\0<=i/\i<=5/\n.toNat<2 ^ (7*i.toNat)/\s.length<=4000000000/\a<=4000000000)) (.br (tv (5-i.toNat) (s.drop (a.toNat+i.toNat)) i.toNat n.toNat).isSome (.leaf (.ret,([.j (AC (tv (5-i.toNat) (s.drop (a.toNat+i.toNat)) i.toNat n.toNat)),.j (At a.toNat (tv (5-i.toNat) (s.drop (a.toNat+i.toNat)) i.toNat n.toNat)),.b (BB (tv (5-i.toNat) (s.drop (a.toNat+i.toNat)) i.toNat n.toNat))],[]))) (.leaf (.exit 0,([],[]))))
 | _=>.no⟩
def O4:Gm
 | [.s s,.j a],[]=>.need (decide (0<=a/\s.length<=4000000000/\a<=4000000000)) (.leaf (.tup [.j (AC (Ah s a.toNat)),.j (At a.toNat (Ah s a.toNat)),.b (BB (Ah s a.toNat))],[]))
 | _,_=>.no
def KI:LoopEnt:=⟨53,[0,1,7,8],[],[4,5,6],fun
 | ([.s s,.j a,.j n,.j i],[])=>.need (decide (0<=a/\0<=n/\0<=i/\i<=5/\n.toNat<2 ^ (7*i.toNat)/\s.length<=4000000000/\a<=4000000000)) (.br (tv (5-i.toNat) (s.drop (a.toNat+i.toNat)) i.toNat n.toNat).isSome (.leaf (.ret,([.j (CK (tv (5-i.toNat) (s.drop (a.toNat+i.toNat)) i.toNat n.toNat)),.j (Bq a.toNat (tv (5-i.toNat) (s.drop (a.toNat+i.toNat)) i.toNat n.toNat)),.b (BB (tv (5-i.toNat) (s.drop (a.toNat+i.toNat)) i.toNat n.toNat))],[]))) (.leaf (.exit 0,([],[]))))
 | _=>.no⟩
def Uj:Gm
 | [.s s,.j a],[]=>.need (decide (0<=a/\s.length<=4000000000/\a<=4000000000)) (.leaf (.tup [.j (CK (Ah s a.toNat)),.j (Bq a.toNat (Ah s a.toNat)),.b (BB (Ah s a.toNat))],[]))
 | _,_=>.no
theorem W8 (n:Nat) (_:n<256):IntKind.u8.wrap ((BitVec.ofInt IntKind.u8.bits (n:Int) &&& BitVec.ofInt IntKind.u8.bits (127:Int)).toNat:Int)=((n % 128:Nat):Int):=by
 have e:(BitVec.ofInt IntKind.u8.bits (n:Int) &&& BitVec.ofInt IntKind.u8.bits (127:Int)).toNat=n % 128:=by
  show (BitVec.ofInt 8 (n:Int) &&& BitVec.ofInt 8 ((127:Nat):Int)).toNat=n % 128;rw [BitVec.toNat_and,BitVec.ofInt_natCast,BitVec.ofInt_natCast,BitVec.toNat_ofNat,BitVec.toNat_ofNat,show 127 % 2 ^ 8=2 ^ 7-1 by decide,Nat.and_two_pow_sub_one_eq_mod];show n % 256 % 128=n % 128;omega
 rw [e];unfold IntKind.wrap;simp [IntKind.bits,IntKind.signed];omega
theorem VS (n:Nat) (_:n<256):i64.wrap ((BitVec.ofInt i64.bits (n:Int) &&& BitVec.ofInt i64.bits (127:Int)).toNat:Int)=((n % 128:Nat):Int):=by
 have e:(BitVec.ofInt i64.bits (n:Int) &&& BitVec.ofInt i64.bits (127:Int)).toNat=n % 128:=by
  show (BitVec.ofInt 64 (n:Int) &&& BitVec.ofInt 64 ((127:Nat):Int)).toNat=n % 128;rw [BitVec.toNat_and,BitVec.ofInt_natCast,BitVec.ofInt_natCast,BitVec.toNat_ofNat,BitVec.toNat_ofNat,show 127 % 2 ^ 64=2 ^ 7-1 by decide,Nat.and_two_pow_sub_one_eq_mod];show n % 18446744073709551616 % 128=n % 128;omega
 rw [e,An (by omega) (by omega)]
theorem Hk {i:Nat} (h:i<=4):2 ^ (7*i)<=268435456:=by
 have:2 ^ (7*i)<=2 ^ 28:=Nat.pow_le_pow_right (by decide) (by omega);have e:(2:Nat) ^ 28=268435456:=by decide
 omega
theorem VH (x i:Nat) (hx:x<128) (hi:i<=4):i64.wrap ((x:Int)*(2:Int) ^ min ((7:Int)*(i:Int)).toNat i64.bits)=((x*2 ^ (7*i):Nat):Int):=by
 have hp:=Hk hi;have hm:x*2 ^ (7*i)<=127*268435456:=mul_le_mul (by omega) hp;have e1:((7:Int)*(i:Int)).toNat=7*i:=by omega
 have e2:min (7*i) i64.bits=7*i:=Nat.min_eq_left (by show 7*i<=64; omega);rw [e1,e2];have e3:(x:Int)*(2:Int) ^ (7*i)=((x*2 ^ (7*i):Nat):Int):=by simp
 rw [e3,An (by omega) (by omega)]
theorem KD {n:Int} (h1:0<=n) (h2:n<=9223372036854775807):IntKind.u64.wrap n=n:=by
 unfold IntKind.wrap;simp [IntKind.bits,IntKind.signed];omega
theorem or7 (n x i:Nat) (hn:n<2 ^ (7*i)) (hx:x<128) (hi:i<=4):i64.wrap ((BitVec.ofInt i64.bits (n:Int) ||| BitVec.ofInt i64.bits ((x*2 ^ (7*i):Nat):Int)).toNat:Int)=((n+x*2 ^ (7*i):Nat):Int):=by
 have hp:=Hk hi;have hm:x*2 ^ (7*i)<=127*268435456:=mul_le_mul (by omega) hp
 have e:(BitVec.ofInt i64.bits (n:Int) ||| BitVec.ofInt i64.bits ((x*2 ^ (7*i):Nat):Int)).toNat=n+x*2 ^ (7*i):=by
  show (BitVec.ofInt 64 (n:Int) ||| BitVec.ofInt 64 ((x*2 ^ (7*i):Nat):Int)).toNat=_;rw [BitVec.toNat_or,BitVec.ofInt_natCast,BitVec.ofInt_natCast,BitVec.toNat_ofNat,BitVec.toNat_ofNat,mod_eq_of_lt (by omega),mod_eq_of_lt (by omega),Nat.mul_comm x,Nat.or_comm,<-Nat.two_pow_add_eq_or_of_lt hn x,Nat.add_comm]
 rw [e,An (by omega) (by omega)]
theorem KN : ∀ (f:Nat) (l:By) (i n:Nat) {x:Nat×Nat×Bool},i+f<=5->n<2 ^ (7*i)->tv f l i n=some x->x.1<2 ^ 35/\i<x.2.1/\x.2.1<=i+l.length/\x.2.1<=5
 | 0,l,i,n,x,h1,h2,h=>by rw [tv] at h; cases h
 | f+1,[],i,n,x,h1,h2,h=>by rw [tv] at h; cases h
 | f+1,b::l,i,n,x,h1,h2,h=>by
  have hm:n+b.toNat % 128*2 ^ (7*i)<2 ^ (7*(i+1)):=by
   have h3:b.toNat % 128<=127:=by omega
   have h4:b.toNat % 128*2 ^ (7*i)<=127*2 ^ (7*i):=Nat.mul_le_mul_right _ h3;have h5:2 ^ (7*(i+1))=2 ^ (7*i)*128:=by rw [show 7*(i+1)=7*i+7 by omega,pow_add]
   omega
  rw [tv] at h;split at h
  ·simp at h;subst h;have h6:2 ^ (7*(i+1))<=2 ^ 35:=Nat.pow_le_pow_right (by decide) (by omega);exact ⟨by omega,by simp,by simp<;>omega,by simp<;>omega⟩
  ·obtain ⟨g1,g2,g3,g4⟩:=KN f l (i+1) _ (by omega) hm h;exact ⟨g1,by omega,by simp; omega,g4⟩
theorem DK {s:By} {a:Nat} {x:Nat×Nat×Bool} (h:Ah s a=some x):x.1<=34359738368/\0<x.2.1/\a+x.2.1<=s.length/\x.2.1<=5:=by
 obtain ⟨h1,h2,h3,h4⟩:=KN 5 _ 0 0 (by omega) (by decide) h;rw [length_drop] at h3;have e:(2:Nat) ^ 35=34359738368:=by decide
 exact ⟨by omega,h2,by omega,h4⟩
theorem IV (s:By) (a n i:Int):As prog (Aa []) (Aa [(3,KL)]) 0 (body f164 0) KL ([.s s,.j a,.j n,.j i],[]) =
 ((ifB (decide (i<5)) (ifB (decide (i64.wrap (a+i)<(↑s.length:Int))) (ifT (decide (0<=i64.wrap (a+i))) (Al s[(i64.wrap (a+i)).toNat]?
 fun z=>ifT (decide (0<=i64.wrap (7*i))) (ifB (decide ((↑z.toNat:Int)<(128:Int))) (ifB (decide (i64.wrap (↑(BitVec.ofInt i64.bits n |||
 BitVec.ofInt i64.bits (i64.wrap (i64.wrap (IntKind.u8.wrap (↑(BitVec.ofInt IntKind.u8.bits (↑z.toNat:Int) &&& BitVec.ofInt IntKind.u8.bits (127
 : Int)).toNat:Int))*(2:Int) ^ min (i64.wrap (7*i)).toNat i64.bits))).toNat:Int)<=(2000000001:Int))) (ifB (decide ((↑z.toNat:Int)>(0 :
 Int))) (some (Ex.ret,[V.j (i64.wrap (↑(BitVec.ofInt i64.bits n ||| BitVec.ofInt i64.bits (i64.wrap (i64.wrap
 (IntKind.u8.wrap (↑(BitVec.ofInt IntKind.u8.bits (↑z.toNat:Int) &&& BitVec.ofInt IntKind.u8.bits (127:Int)).toNat:Int))*(2:Int) ^ min (i64.wrap (7 *
 i)).toNat i64.bits))).toNat:Int)),V.j (i64.wrap (i64.wrap (a+i)+(1:Int))),V.b true],[])) (some (Ex.ret,[V.i .i64
 (i64.wrap (↑(BitVec.ofInt i64.bits n ||| BitVec.ofInt i64.bits (i64.wrap (i64.wrap (IntKind.u8.wrap (↑(BitVec.ofInt
 IntKind.u8.bits (↑z.toNat:Int) &&& BitVec.ofInt IntKind.u8.bits (127:Int)).toNat:Int))*(2:Int) ^ min (i64.wrap (7*i)).toNat i64.bits))).toNat
 : Int)),V.j (i64.wrap (i64.wrap (a+i)+(1:Int))),V.b (i==0)],[]))) (some (Ex.ret,[V.j (i64.wrap (↑(BitVec.ofInt
 i64.bits n ||| BitVec.ofInt i64.bits (i64.wrap (i64.wrap (IntKind.u8.wrap (↑(BitVec.ofInt IntKind.u8.bits (↑z.toNat:Int) &&&
 BitVec.ofInt IntKind.u8.bits (127:Int)).toNat:Int))*(2:Int) ^ min (i64.wrap (7*i)).toNat i64.bits))).toNat:Int)),V.j (i64.wrap
 (i64.wrap (a+i)+(1:Int))),V.b false],[]))) (some (Ex.normal,[V.s s,V.j a,V.j (i64.wrap (↑(BitVec.ofInt i64.bits n |||
 BitVec.ofInt i64.bits (i64.wrap (i64.wrap (IntKind.u8.wrap (↑(BitVec.ofInt IntKind.u8.bits (↑z.toNat:Int) &&& BitVec.ofInt IntKind.u8.bits (127
 : Int)).toNat:Int))*(2:Int) ^ min (i64.wrap (7*i)).toNat i64.bits))).toNat:Int)),V.j (i64.wrap (i+1))],[]))))) (some (Ex.exit
 0,[],[]))) (some (Ex.exit 0,[],[]))):_):=by kernel_rfl
theorem KJ (s:By) (a:Nat) (hs:s.length<=4000000000) (ha:a<=4000000000) : ∀ (j i n:Nat),i+j=5->n<2 ^ (7*i)->∀ ex d,(Br.br (tv (5-i) (s.drop (a+i)) i n).isSome (.leaf (.ret,([.j (AC (tv (5-i) (s.drop (a+i)) i n)),.j (At a (tv (5-i) (s.drop (a+i)) i n)),.b (BB (tv (5-i) (s.drop (a+i)) i n))],[]))) (.leaf (.exit 0,([],[]))):Br (Ex×Dt)).run=some (ex,d)->
  Runs prog (Aa []) (Aa [(3,KL)]) 0 (body f164 0) KL ([.s s,.j (a:Int),.j (n:Int),.j (i:Int)],[]) ex d
 | 0,i,n,hi,hn,ex,d,h=>by
  have hr:=IV s a n i;rw [Ad (dcF (by omega))] at hr;rw [show 5-i=0 by omega,tv] at h;obtain ⟨rfl,rfl⟩:=lfP h;exact stp hr
 | j+1,i,n,hi,hn,ex,d,h=>by
  have hr:=IV s a n i;have hw:i64.wrap ((a:Int)+(i:Int))=((a+i:Nat):Int):=by rw [An (by omega) (by omega)]; omega
  rw [Ag (dcT (by omega)),hw] at hr;rw [show 5-i=(5-(i+1))+1 by omega] at h
  by_cases hl:a+i<s.length
  ·rw [Ag (dcT (by omega)),Ae (dcT (by omega))] at hr;have hz:=s[a+i].toNat_lt;have hx:s[a+i].toNat % 128<128:=Nat.mod_lt _ (by decide);have hp:=Hk (i:=i) (by omega);have hm:s[a+i].toNat % 128*2 ^ (7*i)<=127*268435456:=mul_le_mul (by omega) hp;have hw7:i64.wrap ((7:Int)*(i:Int))=7*(i:Int):=An (by omega) (by omega);have hwc:i64.wrap (s[a+i].toNat:Int)=(s[a+i].toNat:Int):=An (by omega) (by omega);have hu7:IntKind.u64.wrap (7*(i:Int))=7*(i:Int):=KD (by omega) (by omega);have hwx:i64.wrap ((s[a+i].toNat % 128:Nat):Int)=((s[a+i].toNat % 128:Nat):Int):=An (by omega) (by omega);simp only [ntN,gtE hl,Am,hw7,W8 _ hz,hwx,VH _ i hx (by omega),or7 n _ i hn hx (by omega)] at hr;rw [Ae (dcT (by omega))] at hr;rw [drop_eq_getElem_cons hl,tv] at h
   have hm2:n+s[a+i].toNat % 128*2 ^ (7*i)<2 ^ (7*(i+1)):=by
    have h4:s[a+i].toNat % 128*2 ^ (7*i)<=127*2 ^ (7*i):=Nat.mul_le_mul_right _ (by omega);have h5:2 ^ (7*(i+1))=2 ^ (7*i)*128:=by rw [show 7*(i+1)=7*i+7 by omega,pow_add]
    omega
   have hwi:i64.wrap (((a+i:Nat):Int)+1)=((a+(i+1):Nat):Int):=by rw [An (by omega) (by omega)]; omega
   rw [Ax (n:=i) (by unfold maxI; omega)] at hr
   try rw [hwi] at hr
   generalize s[a+i].toNat % 128*2 ^ (7*i)=y at *
   have hi0:((i:Int)==0)=decide (i=0):=by
    by_cases h:i=0
    ·subst h; rfl
    ·rw [dcF h]; exact beq_false_of_ne (by omega)
   have hle:decide (((n+y:Nat):Int)<=2000000001)=decide (n+y<=2000000001):=decide_eq_decide.2 (by omega);have hgt:decide (((n+y:Nat):Int)>2000000001) = !decide (n+y<=2000000001):=by rw [<-decide_not]; exact decide_eq_decide.2 (by omega)
   have hb0:decide ((s[a+i].toNat:Int)>0)=decide (0<s[a+i].toNat):=decide_eq_decide.2 (by omega)
   have hbz:((s[a+i].toNat:Int)==0) = !decide (0<s[a+i].toNat):=by
    by_cases h:s[a+i].toNat=0
    ·rw [h]; rfl
    ·rw [dcT (by omega)]; exact beq_false_of_ne (by omega)
   have hig:decide ((i:Int)>0) = !decide (i=0):=by rw [<-decide_not]; exact decide_eq_decide.2 (by omega)
   simp only [hi0,hle,hb0] at hr
   by_cases hb:s[a+i].toNat<128
   ·rw [if_pos hb] at h;rw [Ag (dcT (by omega))] at hr;obtain ⟨rfl,rfl⟩:=lfP h;refine .stop _ _ _ (hr.trans ?_) (by simp);cases decide (n+y<=2000000001)<;>cases decide (0<s[a+i].toNat)<;>cases decide (i=0)<;>rfl
   ·rw [if_neg hb] at h;rw [Ad (dcF (by omega))] at hr;exact sts hr (KJ s a hs ha j (i+1) (n+y) (by omega) hm2 ex d h)
  ·rw [Ad (dcF (by omega))] at hr;rw [drop_eq_nil_of_le (by omega),tv] at h;obtain ⟨rfl,rfl⟩:=lfP h;exact stp hr
theorem Uk:Ar prog (Aa []) (Aa [(3,KL)]) 0 (f164.body.getD .skip):=by
 refine Ap (a:=body f164 0) (by kernel_rfl) fun d ex d' h=>?_
 unfold KL at h;dsimp only at h;split at h
 ·rename_i s a n i;obtain ⟨hc,hx⟩:=Ac h;clear h;obtain ⟨h0,h1,h2,h3,h4,h5,h6⟩:=of_decide_eq_true hc;obtain ⟨a,rfl⟩:=eq_ofNat_of_zero_le h0;obtain ⟨n,rfl⟩:=eq_ofNat_of_zero_le h1;obtain ⟨i,rfl⟩:=eq_ofNat_of_zero_le h2;simp only [ntN] at h4 hx;exact KJ s a h5 (by omega) (5-i) i n (by omega) h4 ex d' hx
 ·cases h
theorem tvi:Ab prog 164 (Ent.rd1 O4).F:=by
 refine fcK KnowsL.nil.knows (Λ:=(Aa [(3,KL)])) func164 fun vs bs r hq=>?_
 unfold Ent.F O4 at hq;dsimp only at hq;split at hq
 ·rename_i s a;obtain ⟨hc,hx⟩:=Ac hq;refine ⟨Uk,Eq.trans ?_ hx⟩;obtain ⟨h0,h1,h2⟩:=of_decide_eq_true hc;obtain ⟨a,rfl⟩:=eq_ofNat_of_zero_le h0
  have e:A3 prog (Aa []) (Aa [(3,KL)]) f164 [.s s,.j (a:Int)] []=((ifT (decide (0<=(↑a:Int)/\(0:Int)<=(0:Int)/\(0:Int)<=(0:Int)/\(0:Int)<=(5:Int)/\0<2 ^ 0/\s.length<=4000000000/\
 (↑a:Int)<=(4000000000:Int))) (ifB (tv 5 (drop ((↑a:Int).toNat+0) s) 0 0).isSome (some (V.tup [V.j (AC (tv 5
 (drop ((↑a:Int).toNat+0) s) 0 0)),V.j (At (↑a:Int).toNat (tv 5 (drop ((↑a:Int).toNat+0) s) 0
 0)),V.b (BB (tv 5 (drop ((↑a:Int).toNat+0) s) 0 0))],[])) (some (V.tup [V.j 0,V.j 0,V.b false],[])))):_):=by kernel_rfl
  rw [e];clear e;rw [Ae (dcT ⟨by omega,by omega,by omega,by omega,by decide,h1,h2⟩)];simp only [ntN,Nat.add_zero];show ifB (Ah s a).isSome (some (V.tup [.j (AC (Ah s a)),.j (At a (Ah s a)),.b (BB (Ah s a))],[])) _=_;cases Ah s a<;>rfl
 ·cases hq
theorem IU (s:By) (a n i:Int):As prog (Aa []) (Aa [(3,KI)]) 0 (body f162 0) KI ([.s s,.j a,.j n,.j i],[]) =
 ((ifB (decide (i<5)) (ifB (decide (i64.wrap (a+i)<(↑s.length:Int))) (ifT (decide (0<=i64.wrap (a+i))) (Al s[(i64.wrap (a+i)).toNat]?
 fun z=>ifT (decide ((0:Int)<=IntKind.u64.wrap (i64.wrap (7*i)))) (ifB (decide (i64.wrap (↑z.toNat:Int)<(128:Int))) (ifB (decide (i>0)) (ifB
 (i64.wrap (↑z.toNat:Int)==(0:Int)) (some (Ex.ret,[V.j 0,V.j 0,V.b false],[])) (ifB (decide (i64.wrap (↑(BitVec.ofInt i64.bits
 n ||| BitVec.ofInt i64.bits (i64.wrap (i64.wrap (↑(BitVec.ofInt i64.bits (i64.wrap (↑z.toNat:Int)) &&& BitVec.ofInt
 i64.bits (127:Int)).toNat:Int)*(2:Int) ^ min (IntKind.u64.wrap (i64.wrap (7*i))).toNat i64.bits))).toNat:Int)>(2000000001:Int)))
 (some (Ex.ret,[V.j 0,V.j 0,V.b false],[])) (some (Ex.ret,[V.j (i64.wrap (↑(BitVec.ofInt i64.bits n ||| BitVec.ofInt i64.bits
 (i64.wrap (i64.wrap (↑(BitVec.ofInt i64.bits (i64.wrap (↑z.toNat:Int)) &&& BitVec.ofInt i64.bits (127:Int)).toNat:Int)*(2
 : Int) ^ min (IntKind.u64.wrap (i64.wrap (7*i))).toNat i64.bits))).toNat:Int)),V.j (i64.wrap (i64.wrap (a+i)+(1:Int))),
 V.b true],[])))) (ifB (decide (i64.wrap (↑(BitVec.ofInt i64.bits n ||| BitVec.ofInt i64.bits (i64.wrap (i64.wrap (↑(BitVec.ofInt
 i64.bits (i64.wrap (↑z.toNat:Int)) &&& BitVec.ofInt i64.bits (127:Int)).toNat:Int)*(2:Int) ^ min (IntKind.u64.wrap (i64.wrap (7
 * i))).toNat i64.bits))).toNat:Int)>(2000000001:Int))) (some (Ex.ret,[V.j 0,V.j 0,V.b false],[])) (some (Ex.ret,[V.j (i64.wrap
 (↑(BitVec.ofInt i64.bits n ||| BitVec.ofInt i64.bits (i64.wrap (i64.wrap (↑(BitVec.ofInt i64.bits (i64.wrap (↑z.toNat :
 Int)) &&& BitVec.ofInt i64.bits (127:Int)).toNat:Int)*(2:Int) ^ min (IntKind.u64.wrap (i64.wrap (7*i))).toNat i64.bits))).toNat:Int)),
 V.j (i64.wrap (i64.wrap (a+i)+(1:Int))),V.b true],[])))) (some (Ex.normal,[V.s s,V.j a,V.j (i64.wrap (↑(BitVec.ofInt
 i64.bits n ||| BitVec.ofInt i64.bits (i64.wrap (i64.wrap (↑(BitVec.ofInt i64.bits (i64.wrap (↑z.toNat:Int)) &&&
 BitVec.ofInt i64.bits (127:Int)).toNat:Int)*(2:Int) ^ min (IntKind.u64.wrap (i64.wrap (7*i))).toNat i64.bits))).toNat:Int)),V.i .i64
 (i64.wrap (i+1))],[]))))) (some (Ex.exit 0,[],[]))) (some (Ex.exit 0,[],[]))):_):=by kernel_rfl
theorem KH (s:By) (a:Nat) (hs:s.length<=4000000000) (ha:a<=4000000000) : ∀ (j i n:Nat),i+j=5->n<2 ^ (7*i)->∀ ex d,(Br.br (tv (5-i) (s.drop (a+i)) i n).isSome (.leaf (.ret,([.j (CK (tv (5-i) (s.drop (a+i)) i n)),.j (Bq a (tv (5-i) (s.drop (a+i)) i n)),.b (BB (tv (5-i) (s.drop (a+i)) i n))],[]))) (.leaf (.exit 0,([],[]))):Br (Ex×Dt)).run=some (ex,d)->
  Runs prog (Aa []) (Aa [(3,KI)]) 0 (body f162 0) KI ([.s s,.j (a:Int),.j (n:Int),.j (i:Int)],[]) ex d
 | 0,i,n,hi,hn,ex,d,h=>by
  have hr:=IU s a n i;rw [Ad (dcF (by omega))] at hr;rw [show 5-i=0 by omega,tv] at h;obtain ⟨rfl,rfl⟩:=lfP h;exact stp hr
 | j+1,i,n,hi,hn,ex,d,h=>by
  have hr:=IU s a n i;have hw:i64.wrap ((a:Int)+(i:Int))=((a+i:Nat):Int):=by rw [An (by omega) (by omega)]; omega
  rw [Ag (dcT (by omega)),hw] at hr;rw [show 5-i=(5-(i+1))+1 by omega] at h
  by_cases hl:a+i<s.length
  ·rw [Ag (dcT (by omega)),Ae (dcT (by omega))] at hr;have hz:=s[a+i].toNat_lt;have hx:s[a+i].toNat % 128<128:=Nat.mod_lt _ (by decide);have hp:=Hk (i:=i) (by omega);have hm:s[a+i].toNat % 128*2 ^ (7*i)<=127*268435456:=mul_le_mul (by omega) hp;have hw7:i64.wrap ((7:Int)*(i:Int))=7*(i:Int):=An (by omega) (by omega);have hwc:i64.wrap (s[a+i].toNat:Int)=(s[a+i].toNat:Int):=An (by omega) (by omega);have hu7:IntKind.u64.wrap (7*(i:Int))=7*(i:Int):=KD (by omega) (by omega);have hwx:i64.wrap ((s[a+i].toNat % 128:Nat):Int)=((s[a+i].toNat % 128:Nat):Int):=An (by omega) (by omega);simp only [ntN,gtE hl,Am,hw7,hu7,hwc,VS _ hz,VH _ i hx (by omega),or7 n _ i hn hx (by omega)] at hr;rw [Ae (dcT (by omega))] at hr;rw [drop_eq_getElem_cons hl,tv] at h
   have hm2:n+s[a+i].toNat % 128*2 ^ (7*i)<2 ^ (7*(i+1)):=by
    have h4:s[a+i].toNat % 128*2 ^ (7*i)<=127*2 ^ (7*i):=Nat.mul_le_mul_right _ (by omega);have h5:2 ^ (7*(i+1))=2 ^ (7*i)*128:=by rw [show 7*(i+1)=7*i+7 by omega,pow_add]
    omega
   have hwi:i64.wrap (((a+i:Nat):Int)+1)=((a+(i+1):Nat):Int):=by rw [An (by omega) (by omega)]; omega
   rw [Ax (n:=i) (by unfold maxI; omega)] at hr
   try rw [hwi] at hr
   generalize s[a+i].toNat % 128*2 ^ (7*i)=y at *
   have hi0:((i:Int)==0)=decide (i=0):=by
    by_cases h:i=0
    ·subst h; rfl
    ·rw [dcF h]; exact beq_false_of_ne (by omega)
   have hle:decide (((n+y:Nat):Int)<=2000000001)=decide (n+y<=2000000001):=decide_eq_decide.2 (by omega);have hgt:decide (((n+y:Nat):Int)>2000000001) = !decide (n+y<=2000000001):=by rw [<-decide_not]; exact decide_eq_decide.2 (by omega)
   have hb0:decide ((s[a+i].toNat:Int)>0)=decide (0<s[a+i].toNat):=decide_eq_decide.2 (by omega)
   have hbz:((s[a+i].toNat:Int)==0) = !decide (0<s[a+i].toNat):=by
    by_cases h:s[a+i].toNat=0
    ·rw [h]; rfl
    ·rw [dcT (by omega)]; exact beq_false_of_ne (by omega)
   have hig:decide ((i:Int)>0) = !decide (i=0):=by rw [<-decide_not]; exact decide_eq_decide.2 (by omega)
   simp only [hgt,hbz,hig] at hr
   by_cases hb:s[a+i].toNat<128
   ·rw [if_pos hb] at h;rw [Ag (dcT (by omega))] at hr;obtain ⟨rfl,rfl⟩:=lfP h;refine .stop _ _ _ (hr.trans ?_) (by simp);cases decide (n+y<=2000000001)<;>cases decide (0<s[a+i].toNat)<;>cases decide (i=0)<;>rfl
   ·rw [if_neg hb] at h;rw [Ad (dcF (by omega))] at hr;exact sts hr (KH s a hs ha j (i+1) (n+y) (by omega) hm2 ex d h)
  ·rw [Ad (dcF (by omega))] at hr;rw [drop_eq_nil_of_le (by omega),tv] at h;obtain ⟨rfl,rfl⟩:=lfP h;exact stp hr
theorem Ui:Ar prog (Aa []) (Aa [(3,KI)]) 0 (f162.body.getD .skip):=by
 refine Ap (a:=body f162 0) (by kernel_rfl) fun d ex d' h=>?_
 unfold KI at h;dsimp only at h;split at h
 ·rename_i s a n i;obtain ⟨hc,hx⟩:=Ac h;clear h;obtain ⟨h0,h1,h2,h3,h4,h5,h6⟩:=of_decide_eq_true hc;obtain ⟨a,rfl⟩:=eq_ofNat_of_zero_le h0;obtain ⟨n,rfl⟩:=eq_ofNat_of_zero_le h1;obtain ⟨i,rfl⟩:=eq_ofNat_of_zero_le h2;simp only [ntN] at h4 hx;exact KH s a h5 (by omega) (5-i) i n (by omega) h4 ex d' hx
 ·cases h
theorem tvs:Ab prog 162 (Ent.rd1 Uj).F:=by
 refine fcK KnowsL.nil.knows (Λ:=(Aa [(3,KI)])) func162 fun vs bs r hq=>?_
 unfold Ent.F Uj at hq;dsimp only at hq;split at hq
 ·rename_i s a;obtain ⟨hc,hx⟩:=Ac hq;refine ⟨Ui,Eq.trans ?_ hx⟩;obtain ⟨h0,h1,h2⟩:=of_decide_eq_true hc;obtain ⟨a,rfl⟩:=eq_ofNat_of_zero_le h0
  have e:A3 prog (Aa []) (Aa [(3,KI)]) f162 [.s s,.j (a:Int)] []=((ifT (decide (0<=(↑a:Int)/\(0:Int)<=(0:Int)/\(0:Int)<=(0:Int)/\(0:Int)<=(5:Int)/\0<2 ^ 0/\s.length<=4000000000/\
 (↑a:Int)<=(4000000000:Int))) (ifB (tv 5 (drop ((↑a:Int).toNat+0) s) 0 0).isSome (some (V.tup [V.j (CK (tv 5
 (drop ((↑a:Int).toNat+0) s) 0 0)),V.j (Bq (↑a:Int).toNat (tv 5 (drop ((↑a:Int).toNat+0) s) 0
 0)),V.b (BB (tv 5 (drop ((↑a:Int).toNat+0) s) 0 0))],[])) (some (V.tup [V.j 0,V.j 0,V.b false],[])))):_):=by kernel_rfl
  rw [e];clear e;rw [Ae (dcT ⟨by omega,by omega,by omega,by omega,by decide,h1,h2⟩)];simp only [ntN,Nat.add_zero];show ifB (Ah s a).isSome (some (V.tup [.j (CK (Ah s a)),.j (Bq a (Ah s a)),.b (BB (Ah s a))],[])) _=_;cases Ah s a<;>rfl
 ·cases hq
abbrev WFd:=Int×Int×Int×By×Unit
abbrev Pl:=WFd×Int×Unit
def unf (n:Int):Int:=if n % 2=1 then -((n+1) / 2) else n / 2
def AM (f:WFd):Bool:=(decide (1<=f.1)&&decide (f.1<=30))&&(if f.2.1=0 then Co f.2.2.1&&f.2.2.2.1==[] else if f.2.1=2 then f.2.2.1==0 else false)
def BM (s:By) (a:Nat):By×Int×Bool:=
 let u:=Ah s a
 if BB u=true/\AC u<=s.length-At a u then ((s.drop (At a u).toNat).take (AC u).toNat,At a u+AC u,true) else ([],0,false)
def AH (s:By) (a:Nat):WFd×Int×Int×Bool:=
 let t:=Ah s a
 if BB t=false then ((0,0,0,[],()),0,0,false)
 else if AC t % 8=2 then
  let b:=BM s (At a t).toNat
  ((AC t / 8,2,0,b.1,()),a,b.2.1,b.2.2&&AM (AC t / 8,2,0,b.1,()))
 else
  let u:=Ah s (At a t).toNat
  ((AC t / 8,AC t % 8,unf (AC u),[],()),a,At (At a t).toNat u,BB u&&AM (AC t / 8,AC t % 8,unf (AC u),[],()))
def M0:Gm
 | [.j n],[]=>.need (decide (0<=n/\n<=1000000000000)) (.leaf (.j (unf n),[]))
 | _,_=>.no
def EF:Gm
 | [.agg [.j f0,.j f1,.j f2,.s f3]],[]=>.leaf (.b (AM (f0,f1,f2,f3,())),[])
 | _,_=>.no
def tbG:Gm
 | [.s s,.j a],[]=>.need (decide (0<=a/\s.length<=4000000000/\a<=4000000000)) (.leaf (.tup [.s (BM s a.toNat).1,.j (BM s a.toNat).2.1,.b (BM s a.toNat).2.2],[]))
 | _,_=>.no
def tfG:Gm
 | [.s s,.j a],[]=>.need (decide (0<=a/\s.length<=4000000000/\a<=4000000000)) (.leaf (.tup [.agg [.j (AH s a.toNat).1.1,.j (AH s a.toNat).1.2.1,.j (AH s a.toNat).1.2.2.1,.s (AH s a.toNat).1.2.2.2.1,.j (AH s a.toNat).2.1],.j (AH s a.toNat).2.2.1,.b (AH s a.toNat).2.2.2],[]))
 | _,_=>.no
theorem Pk (n:Int):A3 prog (Aa []) (Aa []) f165 [.j n] [] =
 ((ifB (n.tmod (2:Int)==(1:Int)) (some (V.j (i64.wrap ((i64.wrap (0-i64.wrap (n+1))).tdiv (2:Int))),[])) (some (V.i .i64
 (i64.wrap (n.tdiv (2:Int))),[]))):_):=by kernel_rfl
theorem Rm (n:Int) (hc:0<=n/\n<=1000000000000):A3 prog (Aa []) (Aa []) f165 [.j n] []=(.leaf (.j (unf n),[]):Br (V×List (Option Blk))).run:=by
 rw [Pk];unfold unf;have h1:tmod n 2=n % 2:=Int.tmod_eq_emod_of_nonneg hc.1;have h2:tdiv n 2=n / 2:=Int.tdiv_eq_ediv_of_nonneg hc.1;have h3:i64.wrap (n+1)=n+1:=An (by omega) (by omega);have h4:i64.wrap (0-(n+1)) = -(n+1):=by rw [An (by omega) (by omega)]; omega
 have h5:tdiv (-(n+1)) 2 = -((n+1) / 2):=by rw [Int.neg_tdiv,Int.tdiv_eq_ediv_of_nonneg (by omega)]
 rw [h1,h2,h3,h4,h5];rw [An (n:=n / 2) (by omega) (by omega),An (n:=-((n+1) / 2)) (by omega) (by omega)]
 by_cases q:n % 2=1
 ·rw [Ag (by simpa using q),if_pos q]; rfl
 ·rw [Ad (by simpa using q),if_neg q]; rfl
theorem WB:Ab prog 165 (Ent.rd1 M0).F:=by
 refine fcK KnowsL.nil.knows (Λ:=Aa []) func165 fun vs bs r' hq=>?_
 unfold Ent.F M0 at hq;dsimp only at hq;split at hq
 ·rename_i n;obtain ⟨hc,hx⟩:=Ac hq;exact ⟨Aj _,(Rm n (of_decide_eq_true hc)).trans hx⟩
 ·cases hq
theorem OA (n:Int):A3 prog (Aa []) (Aa []) f163 [.j n] [] =
 ((ifB (n.tmod (2:Int)==(0:Int)) (some (V.j (i64.wrap (n.tdiv (2:Int))),[])) (some (V.j (i64.wrap ((i64.wrap (0-i64.wrap
 (n+1))).tdiv (2:Int))),[]))):_):=by kernel_rfl
theorem PW (n:Int) (hc:0<=n/\n<=1000000000000):A3 prog (Aa []) (Aa []) f163 [.j n] []=(.leaf (.j (unf n),[]):Br (V×List (Option Blk))).run:=by
 rw [OA];unfold unf;have h1:tmod n 2=n % 2:=Int.tmod_eq_emod_of_nonneg hc.1;have h2:tdiv n 2=n / 2:=Int.tdiv_eq_ediv_of_nonneg hc.1;have h3:i64.wrap (n+1)=n+1:=An (by omega) (by omega);have h4:i64.wrap (0-(n+1)) = -(n+1):=by rw [An (by omega) (by omega)]; omega
 have h5:tdiv (-(n+1)) 2 = -((n+1) / 2):=by rw [Int.neg_tdiv,Int.tdiv_eq_ediv_of_nonneg (by omega)]
 rw [h1,h2,h3,h4,h5];rw [An (n:=n / 2) (by omega) (by omega),An (n:=-((n+1) / 2)) (by omega) (by omega)]
 by_cases q:n % 2=1
 ·rw [Ad (by rw [q]; rfl),if_pos q]; rfl
 ·rw [Ag (by rw [show n % 2=0 by omega]; rfl),if_neg q]; rfl
theorem W4:Ab prog 163 (Ent.rd1 M0).F:=by
 refine fcK KnowsL.nil.knows (Λ:=Aa []) func163 fun vs bs r' hq=>?_
 unfold Ent.F M0 at hq;dsimp only at hq;split at hq
 ·rename_i n;obtain ⟨hc,hx⟩:=Ac hq;exact ⟨Aj _,(PW n (of_decide_eq_true hc)).trans hx⟩
 ·cases hq
theorem LL (f0 f1 f2:Int) (f3:By):A3 prog (Aa [(69,.rd1 AA),(167,.rd1 FR)]) (Aa []) f168 [.agg [.j f0,.j f1,.j f2,.s f3]] [] =
 ((ifB (!decide (1<=f0/\f0<=30)) nF (ifB (f1==0) (ifB (Co f2) (some (V.b (f3==Ai UInt8),[])) nF) (ifB (f1==2) (some (V.b
 (f2==0),[])) nF))):_):=by kernel_rfl
theorem Nl (f0 f1 f2:Int) (f3:By):A3 prog (Aa [(69,.rd1 AA),(167,.rd1 FR)]) (Aa []) f168 [.agg [.j f0,.j f1,.j f2,.s f3]] []=(.leaf (.b (AM (f0,f1,f2,f3,())),[]):Br (V×List (Option Blk))).run:=by
 rw [LL];unfold AM;dsimp only;have d1:decide (1<=f0/\f0<=30)=(decide (1<=f0)&&decide (f0<=30)):=Bool.decide_and ..;rw [d1]
 cases hA:(decide (1<=f0)&&decide (f0<=30)) with
 | false=>rfl
 | true=>
  rw [Bool.not_true,AL]
  by_cases q:f1=0
  ·rw [Ag (by simpa using q),if_pos q];cases Co f2<;>rfl
  ·rw [Ad (by simpa using q),if_neg q]
   by_cases q2:f1=2
   ·rw [Ag (by simpa using q2),if_pos q2]; rfl
   ·rw [Ad (by simpa using q2),if_neg q2]; rfl
theorem Vb:Ab prog 168 (Ent.rd1 EF).F:=by
 refine fcK (kc func69 Ew (kc func167 Ua KnowsL.nil)).knows (Λ:=Aa []) func168 fun vs bs r' hq=>?_
 unfold Ent.F EF at hq;dsimp only at hq;split at hq
 ·rename_i f0 f1 f2 f3;exact ⟨Aj _,(Nl f0 f1 f2 f3).trans hq⟩
 ·cases hq
theorem KZ (f0 f1 f2:Int) (f3:By):A3 prog (Aa [(100,.rd1 AA),(135,.rd1 FR)]) (Aa []) f136 [.agg [.j f0,.j f1,.j f2,.s f3]] [] =
 ((ifB (!decide (1<=f0/\f0<=30)) nF (ifB (f1==0) (ifB (Co f2) (some (V.b (f3==Ai UInt8),[])) nF) (ifB (f1==2) (some (V.b
 (f2==0),[])) nF))):_):=by kernel_rfl
theorem M8 (f0 f1 f2:Int) (f3:By):A3 prog (Aa [(100,.rd1 AA),(135,.rd1 FR)]) (Aa []) f136 [.agg [.j f0,.j f1,.j f2,.s f3]] []=(.leaf (.b (AM (f0,f1,f2,f3,())),[]):Br (V×List (Option Blk))).run:=by
 rw [KZ];unfold AM;dsimp only;have d1:decide (1<=f0/\f0<=30)=(decide (1<=f0)&&decide (f0<=30)):=Bool.decide_and ..;rw [d1]
 cases hA:(decide (1<=f0)&&decide (f0<=30)) with
 | false=>rfl
 | true=>
  rw [Bool.not_true,AL]
  by_cases q:f1=0
  ·rw [Ag (by simpa using q),if_pos q];cases Co f2<;>rfl
  ·rw [Ad (by simpa using q),if_neg q]
   by_cases q2:f1=2
   ·rw [Ag (by simpa using q2),if_pos q2]; rfl
   ·rw [Ad (by simpa using q2),if_neg q2]; rfl
theorem Qg:Ab prog 136 (Ent.rd1 EF).F:=by
 refine fcK (kc func100 LD (kc func135 Rd KnowsL.nil)).knows (Λ:=Aa []) func136 fun vs bs r' hq=>?_
 unfold Ent.F EF at hq;dsimp only at hq;split at hq
 ·rename_i f0 f1 f2 f3;exact ⟨Aj _,(M8 f0 f1 f2 f3).trans hq⟩
 ·cases hq
theorem Fr (s:By) (a:Nat):(0<=AC (Ah s a)/\AC (Ah s a)<=34359738368)/\0<=At a (Ah s a)/\At a (Ah s a)<=s.length:=by
 cases e:Ah s a with
 | none=>exact ⟨⟨by decide,by decide⟩,Int.le_refl 0,Int.natCast_nonneg _⟩
 | some x=>
  obtain ⟨n,k,ok⟩:=x;obtain ⟨h1,h2,h3,h4⟩:=DK e;dsimp only at h1 h2 h3 h4;refine ⟨⟨?_,?_⟩,?_,?_⟩
  ·show (0:Int)<=(n:Int); omega
  ·show (n:Int)<=34359738368; omega
  ·show (0:Int)<=((a+k:Nat):Int); omega
  ·show ((a+k:Nat):Int)<=(s.length:Int); omega
theorem M1 {s:By} {a:Nat} (h:BB (Ah s a)=true):(a:Int)<At a (Ah s a)/\At a (Ah s a)<=s.length:=by
 refine ⟨?_,(Fr s a).2.2⟩
 cases e:Ah s a with
 | none=>rw [e] at h; cases h
 | some x=>
  obtain ⟨n,k,ok⟩:=x;obtain ⟨h1,h2,h3,h4⟩:=DK e;show (a:Int)<((a+k:Nat):Int);dsimp only at h2;omega
theorem Ro (s:By) (a:Int):A3 prog (Aa [(164,.rd1 O4)]) (Aa []) f166 [.s s,.j a] [] =
 ((ifT (decide (0<=a/\s.length<=4000000000/\a<=4000000000)) (ifB (!BB (Ah s a.toNat)) (some (V.tup [V.s (Ai UInt8),V.j 0,V.b false],[])) (ifB
 (decide (AC (Ah s a.toNat)>i64.wrap ((↑s.length:Int)-At a.toNat (Ah s a.toNat)))) (some (V.tup [V.s (Ai UInt8),V.j 0,V.b false],[])) (ifT
 (decide ((0:Int)<=At a.toNat (Ah s a.toNat))&&decide (At a.toNat (Ah s a.toNat)<=i64.wrap (At a.toNat (Ah s a.toNat)+AC (Ah s a.toNat)))
 && decide (i64.wrap (At a.toNat (Ah s a.toNat)+AC (Ah s a.toNat))<=(↑s.length:Int))) (some (V.tup [V.s (take ((i64.wrap (At a.toNat
 (Ah s a.toNat)+AC (Ah s a.toNat))).toNat-(At a.toNat (Ah s a.toNat)).toNat) (drop (At a.toNat (Ah s a.toNat)).toNat s)),V.j (i64.wrap
 (At a.toNat (Ah s a.toNat)+AC (Ah s a.toNat))),V.b true],[])))))):_):=by kernel_rfl
theorem Tg (s:By) (a:Int) (hc:0<=a/\s.length<=4000000000/\a<=4000000000):A3 prog (Aa [(164,.rd1 O4)]) (Aa []) f166 [.s s,.j a] []=(.leaf (.tup [.s (BM s a.toNat).1,.j (BM s a.toNat).2.1,.b (BM s a.toNat).2.2],[]):Br (V×List (Option Blk))).run:=by
 rw [Ro];obtain ⟨h1,h2,h3⟩:=hc;obtain ⟨a,rfl⟩:=eq_ofNat_of_zero_le h1;simp only [ntN];obtain ⟨⟨u1,u2⟩,u3,u4⟩:=Fr s a;rw [Ae (dcT ⟨h1,h2,h3⟩)];unfold BM;dsimp only;have w1:i64.wrap ((s.length:Int)-At a (Ah s a))=(s.length:Int)-At a (Ah s a):=An (by omega) (by omega);have w2:i64.wrap (At a (Ah s a)+AC (Ah s a))=At a (Ah s a)+AC (Ah s a):=An (by omega) (by omega);simp only [w1,w2]
 cases hk:BB (Ah s a) with
 | false=>rw [Bool.not_false,Be,if_neg (fun h=>by cases h.1)]; rfl
 | true=>
  rw [Bool.not_true,AL]
  by_cases q:AC (Ah s a)<=s.length-At a (Ah s a)
  ·rw [Ad (dcF (by omega)),if_pos ⟨rfl,q⟩,Ae (by simp only [anE,dcE]; omega)];have e:(At a (Ah s a)+AC (Ah s a)).toNat-(At a (Ah s a)).toNat=(AC (Ah s a)).toNat:=by omega
   rw [e]; rfl
  ·rw [Ag (dcT (by omega)),if_neg (fun h=>q h.2)]; rfl
theorem itb:Ab prog 166 (Ent.rd1 tbG).F:=by
 refine fcK (kc func164 tvi KnowsL.nil).knows (Λ:=Aa []) func166 fun vs bs r' hq=>?_
 unfold Ent.F tbG at hq;dsimp only at hq;split at hq
 ·rename_i s a;obtain ⟨hc,hx⟩:=Ac hq;exact ⟨Aj _,(Tg s a (of_decide_eq_true hc)).trans hx⟩
 ·cases hq
theorem Rn (s:By) (a:Int):A3 prog (Aa [(164,.rd1 O4),(166,.rd1 tbG),(165,.rd1 M0),(168,.rd1 EF)]) (Aa []) f128 [.s s,.j a] [] =
 ((ifT (decide (0<=a/\s.length<=4000000000/\a<=4000000000)) (ifB (!BB (Ah s a.toNat)) (some (V.tup [V.agg [V.j 0,V.j 0,V.j 0,V.s (Ai
 UInt8),V.j 0],V.j 0,V.b false],[])) (ifB ((AC (Ah s a.toNat)).tmod (8:Int)==(2:Int)) (ifT (decide ((0:Int)<=At a.toNat (Ah s a.toNat)/\
 s.length<=4000000000/\At a.toNat (Ah s a.toNat)<=(4000000000:Int))) (ifB (BM s (At a.toNat (Ah s a.toNat)).toNat).2.2 (some (V.tup [V.agg [V.i
 .i64 (i64.wrap ((AC (Ah s a.toNat)).tdiv (8:Int))),V.j ((AC (Ah s a.toNat)).tmod (8:Int)),V.j 0,V.s (BM s (At a.toNat (Ah s
 a.toNat)).toNat).1,V.j a],V.j (BM s (At a.toNat (Ah s a.toNat)).toNat).2.1,V.b (AM (i64.wrap ((AC (Ah s a.toNat)).tdiv (8 :
 Int)),(AC (Ah s a.toNat)).tmod (8:Int),(0:Int),(BM s (At a.toNat (Ah s a.toNat)).toNat).1,()))],[])) (some (V.tup [V.agg [V.j (i64.wrap
 ((AC (Ah s a.toNat)).tdiv (8:Int))),V.j ((AC (Ah s a.toNat)).tmod (8:Int)),V.j 0,V.s (BM s (At a.toNat (Ah s a.toNat)).toNat).1,V.i .i64
 a],V.j (BM s (At a.toNat (Ah s a.toNat)).toNat).2.1,V.b false],[])))) (ifT (decide ((0:Int)<=At a.toNat (Ah s a.toNat)/\s.length<=(4000000000 :
 Nat)/\At a.toNat (Ah s a.toNat)<=(4000000000:Int))) (ifT (decide ((0:Int)<=AC (Ah s (At a.toNat (Ah s a.toNat)).toNat)/\AC (Ah s (At a.toNat
 (Ah s a.toNat)).toNat)<=(1000000000000:Int))) (ifB (BB (Ah s (At a.toNat (Ah s a.toNat)).toNat)) (some (V.tup [V.agg [V.j (i64.wrap ((AC (Ah
 s a.toNat)).tdiv (8:Int))),V.j ((AC (Ah s a.toNat)).tmod (8:Int)),V.j (unf (AC (Ah s (At a.toNat (Ah s a.toNat)).toNat))),V.s (Ai UInt8),
 V.j a],V.j (At (At a.toNat (Ah s a.toNat)).toNat (Ah s (At a.toNat (Ah s a.toNat)).toNat)),V.b (AM (i64.wrap ((AC (Ah s
 a.toNat)).tdiv (8:Int)),(AC (Ah s a.toNat)).tmod (8:Int),unf (AC (Ah s (At a.toNat (Ah s a.toNat)).toNat)),Ai UInt8,()))],[])) (some (V.tup [V.agg
 [V.j (i64.wrap ((AC (Ah s a.toNat)).tdiv (8:Int))),V.j ((AC (Ah s a.toNat)).tmod (8:Int)),V.j (unf (AC (Ah s (At a.toNat (Ah
 s a.toNat)).toNat))),V.s (Ai UInt8),V.j a],V.j (At (At a.toNat (Ah s a.toNat)).toNat (Ah s (At a.toNat (Ah s a.toNat)).toNat)),V.b false],
 [])))))))):_):=by kernel_rfl
theorem Tf (s:By) (a:Int) (hc:0<=a/\s.length<=4000000000/\a<=4000000000):A3 prog (Aa [(164,.rd1 O4),(166,.rd1 tbG),(165,.rd1 M0),(168,.rd1 EF)]) (Aa []) f128 [.s s,.j a] []=(.leaf (.tup [.agg [.j (AH s a.toNat).1.1,.j (AH s a.toNat).1.2.1,.j (AH s a.toNat).1.2.2.1,.s (AH s a.toNat).1.2.2.2.1,.j (AH s a.toNat).2.1],.j (AH s a.toNat).2.2.1,.b (AH s a.toNat).2.2.2],[]):Br (V×List (Option Blk))).run:=by
 rw [Rn];obtain ⟨h1,h2,h3⟩:=hc;obtain ⟨a,rfl⟩:=eq_ofNat_of_zero_le h1;simp only [ntN];obtain ⟨⟨u1,u2⟩,u3,u4⟩:=Fr s a;obtain ⟨⟨v1,v2⟩,v3,v4⟩:=Fr s (At a (Ah s a)).toNat;have e1:tdiv (AC (Ah s a)) 8=AC (Ah s a) / 8:=Int.tdiv_eq_ediv_of_nonneg u1;have e2:tmod (AC (Ah s a)) 8=AC (Ah s a) % 8:=Int.tmod_eq_emod_of_nonneg u1;have e3:i64.wrap (AC (Ah s a) / 8)=AC (Ah s a) / 8:=An (by omega) (by omega);rw [Ae (dcT ⟨h1,h2,h3⟩)];simp only [e1,e2,e3];unfold AH;dsimp only
 cases hk:BB (Ah s a) with
 | false=>rw [Bool.not_false,Be,if_pos rfl]; rfl
 | true=>
  rw [Bool.not_true,AL,if_neg (by simp)];have hd:decide (0<=At a (Ah s a)/\s.length<=4000000000/\At a (Ah s a)<=4000000000)=true:=dcT ⟨u3,h2,by omega⟩
  by_cases q:AC (Ah s a) % 8=2
  ·rw [Ag (by simpa using q),if_pos q,q,hd,EC];cases hb:(BM s (At a (Ah s a)).toNat).2.2<;>rfl
  ·rw [Ad (by simpa using q),if_neg q,hd,EC,Ae (dcT ⟨v1,by omega⟩)];cases hb:BB (Ah s (At a (Ah s a)).toNat)<;>rfl
theorem itf:Ab prog 128 (Ent.rd1 tfG).F:=by
 refine fcK (kc func164 tvi (kc func166 itb (kc func165 WB (kc func168 Vb KnowsL.nil)))).knows (Λ:=Aa []) func128 fun vs bs r' hq=>?_
 unfold Ent.F tfG at hq;dsimp only at hq;split at hq
 ·rename_i s a;obtain ⟨hc,hx⟩:=Ac hq;exact ⟨Aj _,(Tf s a (of_decide_eq_true hc)).trans hx⟩
 ·cases hq
theorem IX {s:By} {a:Nat} (h:(AH s a).2.2.2=true):AM (AH s a).1=true/\(a:Int)<(AH s a).2.2.1/\(AH s a).2.2.1<=s.length/\(AH s a).2.1=a:=by
 have ha : ∀ {x:Int},(0:Int)<=x->((x.toNat:Nat):Int)=x:=fun h=>by omega
 unfold AH at h ⊢;dsimp only at h ⊢
 cases hk:BB (Ah s a) with
 | false=>rw [hk] at h; cases h
 | true=>
  have t1:=M1 hk;have t2:=ha (x:=At a (Ah s a)) (by omega);rw [hk,if_neg (by simp)] at h;rw [if_neg (by simp)]
  by_cases q:AC (Ah s a) % 8=2
  ·rw [if_pos q] at h ⊢;dsimp only at h ⊢;rw [anE] at h;refine ⟨h.2,?_⟩;have h:=h.1;unfold BM at h ⊢;dsimp only at h ⊢;split at h
   ·rename_i hh;rw [if_pos hh];have u:=M1 hh.1;have v:=(Fr s (At a (Ah s a)).toNat).1.1;dsimp only;exact ⟨by omega,by omega,rfl⟩
   ·cases h
  ·rw [if_neg q] at h ⊢;dsimp only at h ⊢;rw [anE] at h;have u:=M1 h.1;exact ⟨h.2,by omega,u.2,rfl⟩
def rdL (s:By):Nat->Nat->List Pl->Option (List Pl)
 | 0,a,o=>if a<s.length then none else some o
 | f+1,a,o=>if a<s.length then (if (AH s a).2.2.2=true/\o.length≠40 then rdL s f (AH s a).2.2.1.toNat (o++[((AH s a).1,(a:Int),())]) else none) else some o
def rdP (s:By):Option (List Pl):=if s.length<=400 then rdL s s.length 0 [] else none
def OP:Gm
 | [.s s],[]=>.need (decide (s.length<=4000000000)) (.leaf (.tup [.ref 0 0 ((rdP s).getD []).length,.b (rdP s).isSome],[R0 PCd ((rdP s).getD [])]))
 | _,_=>.no
def Lh:LoopEnt:=⟨37,[0,4,5],[4],[2,3],fun
 | ([.s s,.ref 0 0 n,.j a],[R0 PCd o])=>.need (decide (0<=a/\a.toNat<=s.length/\s.length<=400/\n=o.length/\o.length<=a.toNat)) (.br (rdL s (s.length-a.toNat) a.toNat o).isSome (.leaf (.exit 0,([.ref 0 0 ((rdL s (s.length-a.toNat) a.toNat o).getD []).length],[R0 PCd ((rdL s (s.length-a.toNat) a.toNat o).getD [])]))) (.leaf (.ret,([.ref 0 0 0,.b false],[R0 PCd []]))))
 | _=>.no⟩
theorem Jh (s:By) (n:Nat) (a:Int) (o:List Pl):As prog (Aa [(128,.rd1 tfG)]) (Aa [(5,Lh)]) 0 (body f79 0) Lh ([.s s,.ref 0 0 n,.j a],[R0 PCd o]) =
 ((ifB (decide (a<(↑s.length:Int))) (ifT (decide (0<=a/\s.length<=4000000000/\a<=4000000000)) (ifB (!(AH s a.toNat).2.2.2) (some (Ex.ret,[V.ref 0 0
 0,V.b false],[R0 PCd (Ai PCd.den)])) (ifB ((↑n:Int)==(40:Int)) (some (Ex.ret,[V.ref 0 0 0,V.b false],[R0 PCd
 (Ai PCd.den)])) (ifT (decide ((n+1)*48<=140737488355328)&&decide (n+1<=maxI)) (some (Ex.normal,[V.s s,V.ref 0 0 (n+(1 :
 Nat)),V.j (AH s a.toNat).2.2.1],[R0 PCd (take n (drop 0 o)++(((AH s a.toNat).1.1,(AH s
 a.toNat).1.2.1,(AH s a.toNat).1.2.2.1,(AH s a.toNat).1.2.2.2.1,()),(AH s a.toNat).2.1,())::Ai PCd.den)])))))) (some (Ex.exit
 0,[V.ref 0 0 n],[R0 PCd o]))):_):=by kernel_rfl
theorem Qx (s:By):Ba prog (Aa [(128,.rd1 tfG)]) (Aa [(5,Lh)]) f79 [.s s] [] =
 ((ifB (decide ((↑s.length:Int)>(400:Int))) (some (V.tup [V.ref 0 0 0,V.b false],[R0 PCd (Ai PCd.den)])) (ifT (decide ((0:Int)<=(0:Int)
 /\ 0<=s.length/\s.length<=400/\0=0/\0<=0)) (ifB (rdL s (s.length-0) 0 (Ai PCd.den)).isSome
 (some (V.tup [V.ref 0 0 ((rdL s (s.length-0) 0 (Ai PCd.den)).getD (Ai Pl)).length,V.b true],[R0 PCd ((rdL s (s.length-(0 :
 Nat)) 0 (Ai PCd.den)).getD (Ai Pl))])) (some (V.tup [V.ref 0 0 0,V.b false],[R0 PCd (Ai PCd.den)]))))):_):=by kernel_rfl
theorem Li (s:By) : ∀ (f f' a:Nat) (o:List Pl),s.length-a<=f->s.length-a<=f'->rdL s f a o=rdL s f' a o:=by
 intro f
 induction f with
 | zero=>
  intro f' a o h1 h2
  cases f' with
  | zero=>rfl
  | succ f'=>rw [rdL,rdL,if_neg (by omega),if_neg (by omega)]
 | succ f ih=>
  intro f' a o h1 h2
  cases f' with
  | zero=>rw [rdL,rdL,if_neg (by omega),if_neg (by omega)]
  | succ f'=>
   rw [rdL,rdL]
   by_cases q:a<s.length
   ·rw [if_pos q,if_pos q]
    by_cases q2:(AH s a).2.2.2=true/\o.length≠40
    ·rw [if_pos q2,if_pos q2];have:=IX q2.1;exact ih f' _ _ (by omega) (by omega)
    ·rw [if_neg q2,if_neg q2]
   ·rw [if_neg q,if_neg q]
theorem Q2 {s:By} {a:Nat} {o:List Pl} (h:a<s.length) (h1:(AH s a).2.2.2=true) (h2:o.length≠40):rdL s (s.length-a) a o=rdL s (s.length-(AH s a).2.2.1.toNat) (AH s a).2.2.1.toNat (o++[((AH s a).1,(a:Int),())]):=by
 have e:s.length-a=(s.length-a-1)+1:=by omega
 have ht:=IX h1;rw [e,rdL,if_pos h,if_pos ⟨h1,h2⟩];exact Li s _ _ _ _ (by omega) (by omega)
theorem NM {s:By} {a:Nat} {o:List Pl} (h:a<s.length) (h1:(AH s a).2.2.2=false\/o.length=40):rdL s (s.length-a) a o=none:=by
 have e:s.length-a=(s.length-a-1)+1:=by omega
 rw [e,rdL,if_pos h,if_neg]
 rintro ⟨h2,h3⟩
 rcases h1 with h1 | h1
 ·rw [h1] at h2; cases h2
 ·exact h3 h1
theorem NL {s:By} {a:Nat} {o:List Pl} (h:s.length<=a):rdL s (s.length-a) a o=some o:=by
 have e:s.length-a=0:=by omega
 rw [e,rdL,if_neg (by omega)]
theorem Qy (s:By) (hs:s.length<=400) : ∀ (j a:Nat) (o:List Pl),s.length-a<=j->a<=s.length->o.length<=a->∀ ex d,(Br.br (rdL s (s.length-a) a o).isSome (.leaf (.exit 0,([.ref 0 0 ((rdL s (s.length-a) a o).getD []).length],[R0 PCd ((rdL s (s.length-a) a o).getD [])]))) (.leaf (.ret,([.ref 0 0 0,.b false],[R0 PCd []]))):Br (Ex×Dt)).run=some (ex,d)->
  Runs prog (Aa [(128,.rd1 tfG)]) (Aa [(5,Lh)]) 0 (body f79 0) Lh ([.s s,.ref 0 0 o.length,.j (a:Int)],[R0 PCd o]) ex d:=by
 intro j
 induction j with
 | zero=>
  intro a o hj ha ho ex d h;have hr:=Jh s o.length a o;rw [Ad (dcF (by omega))] at hr;rw [NL (by omega)] at h;have h8:=AI (show (Br.leaf (.exit 0,([.ref 0 0 o.length],[R0 PCd o])):Br (Ex×Dt)).run=some (ex,d) from h);obtain ⟨rfl,rfl⟩:=Prod.mk.inj h8;exact stp hr
 | succ j ih=>
  intro a o hj ha ho ex d h;have hr:=Jh s o.length a o;have hM:=mxI
  by_cases q:a<s.length
  ·rw [Ag (dcT (by omega)),Ae (dcT (by omega)),ntN] at hr
   cases hk:(AH s a).2.2.2 with
   | false=>
    rw [hk,Bool.not_false,Be] at hr;rw [NM q (.inl hk)] at h;have h8:=AI (show (Br.leaf (.ret,([.ref 0 0 0,.b false],[R0 PCd []])):Br (Ex×Dt)).run=some (ex,d) from h);obtain ⟨rfl,rfl⟩:=Prod.mk.inj h8;exact stp hr
   | true=>
    obtain ⟨t1,t2,t3,t4⟩:=IX hk;rw [hk,Bool.not_true,AL] at hr
    by_cases q2:o.length=40
    ·rw [Ag (by rw [q2]; rfl)] at hr;rw [NM q (.inr q2)] at h;have h8:=AI (show (Br.leaf (.ret,([.ref 0 0 0,.b false],[R0 PCd []])):Br (Ex×Dt)).run=some (ex,d) from h);obtain ⟨rfl,rfl⟩:=Prod.mk.inj h8;exact stp hr
    ·rw [Ad (by simpa using fun e=>q2 (by omega)),T2 (by omega),drop_zero,take_length,t4] at hr;rw [Q2 q hk q2] at h;obtain ⟨b,hb⟩:=eq_ofNat_of_zero_le (a:=(AH s a).2.2.1) (by omega);rw [hb] at hr h t2 t3;rw [ntN] at h;have:=ih b (o++[((AH s a).1,(a:Int),())]) (by omega) (by omega) (by simp; omega) ex d h;rw [length_append] at this;exact sts hr this
  ·rw [Ad (dcF (by omega))] at hr;rw [NL (by omega)] at h;have h8:=AI (show (Br.leaf (.exit 0,([.ref 0 0 o.length],[R0 PCd o])):Br (Ex×Dt)).run=some (ex,d) from h);obtain ⟨rfl,rfl⟩:=Prod.mk.inj h8;exact stp hr
theorem U2:Ar prog (Aa [(128,.rd1 tfG)]) (Aa [(5,Lh)]) 0 (f79.body.getD .skip):=by
 refine Ap (a:=body f79 0) (by kernel_rfl) fun d ex d' h=>?_
 unfold Lh at h;dsimp only at h;split at h
 ·rename_i s n a o;obtain ⟨hc,hx⟩:=Ac h;clear h;obtain ⟨h0,h1,h2,rfl,h4⟩:=of_decide_eq_true hc;obtain ⟨a,rfl⟩:=eq_ofNat_of_zero_le h0;simp only [ntN] at h1 h4 hx;exact Qy s h2 _ a o (Nat.le_refl _) h1 h4 ex d' hx
 ·cases h
theorem rdp:Ab prog 79 (Ent.rd1 OP).F:=by
 refine fcC (kc func128 itf KnowsL.nil).knows (Λ:=(Aa [(5,Lh)])) func79 fun vs bs r hq=>?_
 unfold Ent.F OP at hq;dsimp only at hq;split at hq
 ·rename_i s;obtain ⟨hc,hx⟩:=Ac hq;refine ⟨U2,Eq.trans ?_ hx⟩;rw [Qx];unfold rdP
  by_cases q:s.length<=400
  ·rw [Ad (dcF (by omega)),if_pos q,Ae (dcT ⟨by omega,by omega,q,rfl,by omega⟩),sub_zero];simp only [AG];cases rdL s s.length 0 []<;>rfl
  ·rw [Ag (dcT (by omega)),if_neg q]; rfl
 ·cases hq
def BF (ns:List Int) (i:Nat):Bool:=i==0||decide (ns.getD (i-1) 0<ns.getD i 0)
def H8 (ns:List Int):Bool:=(range ns.length).all (BF ns)
def Gx (l:List Pl):List Int:=l.map fun x=>x.1.1
def Dx (l:List WFd):List Int:=l.map fun x=>x.1
def Es (s:By):Option (List Pl):=match rdP s with | some l=>(if H8 (Gx l)=true then some l else none) | none=>none
def Le:LoopEnt:=⟨39,[4,15,16],[4],[2,3],fun
 | ([.ref 0 0 m,.j k,.j i],[R0 PCd o])=>.need (decide (0<=i/\i.toNat<=o.length/\m=o.length/\k=o.length/\o.length<=4000000000)) (.br (((range o.length).drop i.toNat).all (BF (Gx o))) (.leaf (.exit 0,([.ref 0 0 o.length],[R0 PCd o]))) (.leaf (.ret,([.ref 0 0 0,.b false],[R0 PCd []]))))
 | _=>.no⟩
def U1:Gm
 | [.s s],[]=>.need (decide (s.length<=4000000000)) (.leaf (.tup [.ref 0 0 ((Es s).getD []).length,.b (Es s).isSome],[R0 PCd ((Es s).getD [])]))
 | _,_=>.no
theorem Jf (m:Nat) (k i:Int) (o:List Pl):As prog (Aa [(79,.rd1 OP)]) (Aa [(5,Le)]) 0 (body f34 0) Le ([.ref 0 0 m,.j k,.j i],[R0 PCd o]) =
 ((ifB (decide (i<k)) (ifB (decide (i>0)) (ifT (decide (0<=i64.wrap (i-1))&&decide (i64.wrap (i-1)<(↑m:Int))) (Al o[0 +
 (i64.wrap (i-1)).toNat]? fun z=>ifT (decide (0<=i)&&decide (i<(↑m:Int))) (Al o[0+i.toNat]? fun z_1=>ifB (decide (z.1.1>=
 z_1.1.1)) (some (Ex.ret,[V.ref 0 0 0,V.b false],[R0 PCd (Ai PCd.den)])) (some (Ex.normal,[V.ref 0 0 m,V.j k,V.i .i64
 (i64.wrap (i+1))],[R0 PCd o]))))) (some (Ex.normal,[V.ref 0 0 m,V.j k,V.j (i64.wrap (i+1))],[R0 PCd o]))) (some (Ex.exit 0,[V.ref 0 0 m],[R0 PCd o]))):_):=by kernel_rfl
theorem Qp (s:By):Ba prog (Aa [(79,.rd1 OP)]) (Aa [(5,Le)]) f34 [.s s] [] =
 ((ifT (decide (s.length<=4000000000)) (ifB (!(rdP s).isSome) (some (V.tup [V.ref 0 0 0,V.b false],[R0 PCd (Ai PCd.den)])) (ifT (decide
 ((0:Int)<=(0:Int)/\0<=((rdP s).getD (Ai Pl)).length/\((rdP s).getD (Ai Pl)).length=((rdP s).getD (Ai Pl)).length/\(↑((rdP s).getD (Ai
 Pl)).length:Int)=(↑((rdP s).getD (Ai Pl)).length:Int)/\((rdP s).getD (Ai Pl)).length<=4000000000)) (ifB ((drop 0 (range ((rdP
 s).getD (Ai Pl)).length)).all (BF (Gx ((rdP s).getD (Ai Pl))))) (some (V.tup [V.ref 0 0 ((rdP s).getD (Ai Pl)).length,V.b true],[R0 PCd
 ((rdP s).getD (Ai Pl))])) (some (V.tup [V.ref 0 0 0,V.b false],[R0 PCd (Ai PCd.den)])))))):_):=by kernel_rfl
theorem H9 (o:List Pl) (hm:o.length<=4000000000) : ∀ (j i:Nat),i+j=o.length->∀ ex d,(Br.br (((range o.length).drop i).all (BF (Gx o))) (.leaf (.exit 0,([.ref 0 0 o.length],[R0 PCd o]))) (.leaf (.ret,([.ref 0 0 0,.b false],[R0 PCd []]))):Br (Ex×Dt)).run=some (ex,d)->
  Runs prog (Aa [(79,.rd1 OP)]) (Aa [(5,Le)]) 0 (body f34 0) Le ([.ref 0 0 o.length,.j (o.length:Int),.j (i:Int)],[R0 PCd o]) ex d
 | 0,i,hi,ex,d,h=>by
  have hr:=Jf o.length o.length i o;rw [Ad (dcF (by omega))] at hr;rw [drop_eq_nil_of_le (by simp; omega)] at h;have h8:=AI (show (Br.leaf (.exit 0,([.ref 0 0 o.length],[R0 PCd o])):Br (Ex×Dt)).run=some (ex,d) from h);obtain ⟨rfl,rfl⟩:=Prod.mk.inj h8;exact stp hr
 | j+1,i,hi,ex,d,h=>by
  have hl:i<o.length:=by omega
  have hM:=mxI;have hr:=Jf o.length o.length i o
  have hd:(range o.length).drop i=i::(range o.length).drop (i+1):=by
   rw [drop_eq_getElem_cons (by simpa using hl)];simp
  rw [hd,List.all_cons] at h;rw [Ag (dcT (by omega)),Ax (n:=i) (by omega)] at hr;have gA : ∀ {x:Nat} (hx:x<o.length),(Gx o).getD x 0=o[x].1.1:=fun hx=>by unfold Gx; simp [hx]
  skip
  by_cases q0:i=0
  ·subst q0;rw [Ad (dcF (by omega))] at hr;have e0:BF (Gx o) 0=true:=rfl;rw [e0,Bool.true_and] at h;exact sts hr (H9 o hm j 1 (by omega) ex d h)
  ·have hw:i64.wrap ((i:Int)-1)=((i-1:Nat):Int):=by rw [An (by omega) (by omega)]; omega
   have hl1:i-1<o.length:=by omega
   rw [Ag (dcT (by omega)),hw,T2 (by omega),ntN,zero_add,gtE hl1,Am] at hr;rw [T2 (by omega),ntN,zero_add,gtE hl,Am] at hr
   have er:BF (Gx o) i=decide (o[i-1].1.1<o[i].1.1):=by
    unfold BF;rw [gA hl1,gA hl,beq_false_of_ne q0,Bool.false_or]
   rw [er] at h
   by_cases q:o[i-1].1.1<o[i].1.1
   ·rw [Ad (dcF (by omega))] at hr;rw [dcT q,Bool.true_and] at h;exact sts hr (H9 o hm j (i+1) (by omega) ex d h)
   ·rw [Ag (dcT (by omega))] at hr;rw [dcF q,Bool.false_and] at h;have h8:=AI (show (Br.leaf (.ret,([.ref 0 0 0,.b false],[R0 PCd []])):Br (Ex×Dt)).run=some (ex,d) from h);obtain ⟨rfl,rfl⟩:=Prod.mk.inj h8;exact stp hr
theorem Uz:Ar prog (Aa [(79,.rd1 OP)]) (Aa [(5,Le)]) 0 (f34.body.getD .skip):=by
 refine Ap (a:=body f34 0) (by kernel_rfl) fun d ex d' h=>?_
 unfold Le at h;dsimp only at h;split at h
 ·rename_i m k i o;obtain ⟨hc,hx⟩:=Ac h;clear h;obtain ⟨h0,h1,rfl,rfl,h4⟩:=of_decide_eq_true hc;obtain ⟨i,rfl⟩:=eq_ofNat_of_zero_le h0;simp only [ntN] at h1 hx;exact H9 o h4 (o.length-i) i (by omega) ex d' hx
 ·cases h
theorem NK {s:By} : ∀ (f a:Nat) (o l:List Pl),o.length<=40->rdL s f a o=some l->l.length<=40
 | 0,a,o,l,h,e=>by
  rw [rdL] at e;split at e
  ·cases e
  ·cases e; exact h
 | f+1,a,o,l,h,e=>by
  rw [rdL] at e;split at e
  ·split at e
   ·rename_i h2;exact NK f _ _ l (by have:=h2.2; simp; omega) e
   ·cases e
  ·cases e; exact h
theorem NJ {s:By} {l:List Pl} (h:rdP s=some l):l.length<=40/\s.length<=400:=by
 unfold rdP at h;split at h
 ·rename_i h1;exact ⟨NK _ _ _ l (by simp) h,h1⟩
 ·cases h
theorem ris:Ab prog 34 (Ent.rd1 U1).F:=by
 refine fcC (kc func79 rdp KnowsL.nil).knows (Λ:=(Aa [(5,Le)])) func34 fun vs bs r hq=>?_
 unfold Ent.F U1 at hq;dsimp only at hq;split at hq
 ·rename_i s;obtain ⟨hc,hx⟩:=Ac hq;refine ⟨Uz,Eq.trans ?_ hx⟩;rw [Qp,Ae hc];unfold Es
  cases e:rdP s with
  | none=>rfl
  | some l=>
   have hl:=(NJ e).1;dsimp only [isSome_some,getD_some];rw [Bool.not_true,AL,Ae (dcT ⟨by omega,by omega,rfl,rfl,by omega⟩),drop_zero];unfold H8;rw [show (Gx l).length=l.length by unfold Gx; simp];cases (range l.length).all (BF (Gx l))<;>rfl
 ·cases hq
def rdF (s:By):Nat->Nat->List WFd->Option (List WFd)
 | 0,a,o=>if a<s.length then none else some o
 | f+1,a,o=>if a<s.length then (if (AH s a).2.2.2=true/\o.length≠40 then rdF s f (AH s a).2.2.1.toNat (o++[(AH s a).1]) else none) else some o
def GX (s:By):Option (List WFd):=rdF s s.length 0 []
def CN (s:By):Option (List WFd):=if s.length<=400 then GX s else none
def C9 (s:By):Option (List WFd):=match CN s with | some l=>(if H8 (Dx l)=true then some l else none) | none=>none
def GY:LoopEnt:=⟨76,[0,4,5],[4],[2,3],fun
 | ([.s s,.ref 0 0 n,.j a],[R0 FCd o])=>.need (decide (0<=a/\a.toNat<=s.length/\s.length<=4000000000/\n=o.length/\o.length<=a.toNat)) (.br (rdF s (s.length-a.toNat) a.toNat o).isSome (.leaf (.exit 0,([.ref 0 0 ((rdF s (s.length-a.toNat) a.toNat o).getD []).length],[R0 FCd ((rdF s (s.length-a.toNat) a.toNat o).getD [])]))) (.leaf (.ret,([.ref 0 0 0,.b false],[R0 FCd []]))))
 | _=>.no⟩
def U4:Gm
 | [.s s],[]=>.need (decide (s.length<=4000000000)) (.leaf (.tup [.ref 0 0 ((GX s).getD []).length,.b (GX s).isSome],[R0 FCd ((GX s).getD [])]))
 | _,_=>.no
def OO:Gm
 | [.s s],[]=>.need (decide (s.length<=4000000000)) (.leaf (.tup [.ref 0 0 ((CN s).getD []).length,.b (CN s).isSome],[R0 FCd ((CN s).getD [])]))
 | _,_=>.no
def Qn:Gm
 | [.s s],[]=>.need (decide (s.length<=4000000000)) (.leaf (.tup [.ref 0 0 ((C9 s).getD []).length,.b (C9 s).isSome],[R0 FCd ((C9 s).getD [])]))
 | _,_=>.no
def GI:LoopEnt:=⟨37,[4,15,16,17],[4],[2,3],fun
 | ([.ref 0 0 m,.ref 0 0 m2,.j k,.j i],[R0 FCd o])=>.need (decide (0<=i/\i.toNat<=o.length/\m=o.length/\m2=o.length/\k=o.length/\o.length<=4000000000)) (.br (((range o.length).drop i.toNat).all (BF (Dx o))) (.leaf (.exit 0,([.ref 0 0 o.length],[R0 FCd o]))) (.leaf (.ret,([.ref 0 0 0,.b false],[R0 FCd []]))))
 | _=>.no⟩
abbrev PG:FuncId->Option Ent:=Aa [(162,.rd1 Uj),(163,.rd1 M0),(136,.rd1 EF)]
theorem Ji (s:By) (n:Nat) (a:Int) (o:List WFd):As prog PG (Aa [(3,GY)]) 0 (body f116 0) GY ([.s s,.ref 0 0 n,.j a],[R0 FCd o]) =
 ((shr (take n (drop 0 o)) fun sh3=>shr (take ((i64.wrap (Bq (Bq a.toNat (Ah s a.toNat)).toNat (Ah s (Bq a.toNat (Ah s
 a.toNat)).toNat)+CK (Ah s (Bq a.toNat (Ah s a.toNat)).toNat))).toNat-(Bq (Bq a.toNat (Ah s a.toNat)).toNat (Ah s (Bq a.toNat (Ah s
 a.toNat)).toNat)).toNat) (drop (Bq (Bq a.toNat (Ah s a.toNat)).toNat (Ah s (Bq a.toNat (Ah s a.toNat)).toNat)).toNat s)) fun sh2=>shr (Ai FCd.den)
 fun sh1=>ifB (decide (a<(↑s.length:Int))) (ifT (decide (0<=a/\s.length<=4000000000/\a<=4000000000)) (ifB (!BB (Ah s a.toNat)) (some (Ex.ret,[V.ref
 0 0 0,V.b false],[R0 FCd sh1])) (ifT (decide ((0:Int)<=Bq a.toNat (Ah s a.toNat)/\s.length<=4000000000/\Bq a.toNat (Ah s
 a.toNat)<=(4000000000:Int))) (ifB (!BB (Ah s (Bq a.toNat (Ah s a.toNat)).toNat)) (some (Ex.ret,[V.ref 0 0 0,V.b false],[R0 FCd sh1]))
 (ifB ((CK (Ah s a.toNat)).tmod (8:Int)==(0:Int)) (ifT (decide ((0:Int)<=CK (Ah s (Bq a.toNat (Ah s a.toNat)).toNat)/\CK (Ah s (Bq a.toNat
 (Ah s a.toNat)).toNat)<=(1000000000000:Int))) (ifB (!AM (i64.wrap ((CK (Ah s a.toNat)).tdiv (8:Int)),(CK (Ah s a.toNat)).tmod (8:Int),unf
 (CK (Ah s (Bq a.toNat (Ah s a.toNat)).toNat)),Ai UInt8,())) (some (Ex.ret,[V.ref 0 0 0,V.b false],[R0 FCd sh1])) (ifB ((↑n:Int)==
 (40:Int)) (some (Ex.ret,[V.ref 0 0 0,V.b false],[R0 FCd sh1])) (ifT (decide ((n+1)*40<=140737488355328)&&decide
 (n+1<=maxI)) (some (Ex.normal,[V.s s,V.ref 0 0 (n+1),V.j (Bq (Bq a.toNat (Ah s a.toNat)).toNat (Ah s (Bq a.toNat (Ah s
 a.toNat)).toNat))],[R0 FCd (sh3++(i64.wrap ((CK (Ah s a.toNat)).tdiv (8:Int)),(CK (Ah s a.toNat)).tmod (8:Int),unf (CK
 (Ah s (Bq a.toNat (Ah s a.toNat)).toNat)),Ai UInt8,())::sh1)])))))) (ifB (decide (CK (Ah s (Bq a.toNat (Ah s a.toNat)).toNat)>i64.wrap
 ((↑s.length:Int)-Bq (Bq a.toNat (Ah s a.toNat)).toNat (Ah s (Bq a.toNat (Ah s a.toNat)).toNat)))) (some (Ex.ret,[V.ref 0 0 0,V.b false],[R0 FCd sh1])) (ifT (decide ((0:Int)<=Bq (Bq a.toNat (Ah s a.toNat)).toNat (Ah s (Bq a.toNat (Ah s a.toNat)).toNat))&&decide (Bq (Bq a.toNat
 (Ah s a.toNat)).toNat (Ah s (Bq a.toNat (Ah s a.toNat)).toNat)<=i64.wrap (Bq (Bq a.toNat (Ah s a.toNat)).toNat (Ah s (Bq a.toNat (Ah s
 a.toNat)).toNat)+CK (Ah s (Bq a.toNat (Ah s a.toNat)).toNat)))&&decide (i64.wrap (Bq (Bq a.toNat (Ah s a.toNat)).toNat (Ah s (Bq a.toNat
 (Ah s a.toNat)).toNat)+CK (Ah s (Bq a.toNat (Ah s a.toNat)).toNat))<=(↑s.length:Int))) (ifB (!AM (i64.wrap ((CK (Ah s a.toNat)).tdiv (8 :
 Int)),(CK (Ah s a.toNat)).tmod (8:Int),(0:Int),sh2,())) (some (Ex.ret,[V.ref 0 0 0,V.b false],[R0 FCd sh1])) (ifB ((↑n:Int)==(40
 : Int)) (some (Ex.ret,[V.ref 0 0 0,V.b false],[R0 FCd sh1])) (ifT (decide ((n+1)*40<=140737488355328)&&decide (n
 + 1<=maxI)) (some (Ex.normal,[V.s s,V.ref 0 0 (n+1),V.j (i64.wrap (Bq (Bq a.toNat (Ah s a.toNat)).toNat (Ah s (Bq a.toNat
 (Ah s a.toNat)).toNat)+CK (Ah s (Bq a.toNat (Ah s a.toNat)).toNat)))],[R0 FCd (sh3++(i64.wrap ((CK (Ah s a.toNat)).tdiv
 (8:Int)),(CK (Ah s a.toNat)).tmod (8:Int),(0:Int),sh2,())::sh1)])))))))))))) (some (Ex.exit 0,[V.ref 0 0 n],[R0 FCd o]))):_):=by kernel_rfl
theorem Qz (s:By):Ba prog PG (Aa [(3,GY)]) f116 [.s s] [] =
 ((ifT (decide ((0:Int)<=(0:Int)/\0<=s.length/\s.length<=4000000000/\0=0/\0<=0)) (ifB (rdF s (s.length-(0 :
 Nat)) 0 (Ai FCd.den)).isSome (some (V.tup [V.ref 0 0 ((rdF s (s.length-0) 0 (Ai FCd.den)).getD (Ai WFd)).length,V.b true],[R0 FCd ((rdF s (s.length-0) 0 (Ai FCd.den)).getD (Ai WFd))])) (some (V.tup [V.ref 0 0 0,V.b false],[R0 FCd (Ai
 FCd.den)])))):_):=by kernel_rfl
theorem Hj (s:By) : ∀ (f a:Nat) (o:List Pl),rdF s f a (o.map (·.1))=(rdL s f a o).map (fun l=>l.map (·.1))
 | 0,a,o=>by
  rw [rdF,rdL];split<;>rfl
 | f+1,a,o=>by
  rw [rdF,rdL,length_map];split
  ·split
   ·have:=Hj s f (AH s a).2.2.1.toNat (o++[((AH s a).1,(a:Int),())]);rw [List.map_append] at this;exact this
   ·rfl
  ·rfl
theorem Q4 (s:By) : ∀ (f f' a:Nat) (o:List WFd),s.length-a<=f->s.length-a<=f'->rdF s f a o=rdF s f' a o:=by
 intro f f' a o h1 h2;have e:o=(o.map (fun x=>((x,0,()):Pl))).map (·.1):=by rw [map_map]; exact (List.map_id' o).symm
 rw [e,Hj,Hj,Li s f f' a _ h1 h2]
theorem Q3 {s:By} {a:Nat} {o:List WFd} (h:a<s.length) (h1:(AH s a).2.2.2=true) (h2:o.length≠40):rdF s (s.length-a) a o=rdF s (s.length-(AH s a).2.2.1.toNat) (AH s a).2.2.1.toNat (o++[(AH s a).1]):=by
 have e:s.length-a=(s.length-a-1)+1:=by omega
 have ht:=IX h1;rw [e,rdF,if_pos h,if_pos ⟨h1,h2⟩];exact Q4 s _ _ _ _ (by omega) (by omega)
theorem SG {s:By} {a:Nat} {o:List WFd} (h:a<s.length) (h1:(AH s a).2.2.2=false\/o.length=40):rdF s (s.length-a) a o=none:=by
 have e:s.length-a=(s.length-a-1)+1:=by omega
 rw [e,rdF,if_pos h,if_neg]
 rintro ⟨h2,h3⟩
 rcases h1 with h1 | h1
 ·rw [h1] at h2; cases h2
 ·exact h3 h1
theorem SF {s:By} {a:Nat} {o:List WFd} (h:s.length<=a):rdF s (s.length-a) a o=some o:=by
 have e:s.length-a=0:=by omega
 rw [e,rdF,if_neg (by omega)]
theorem PP {a:Nat} {x:Option (Nat×Nat×Bool)} (h:BB x=true):CK x=AC x/\Bq a x=At a x:=by
 match x,h with
 | some (n,k,true),_=>exact ⟨rfl,rfl⟩
theorem Sw {s:By} {a:Nat} (h:BB (Ah s a)=false):(AH s a).2.2.2=false:=by
 unfold AH; dsimp only; rw [if_pos h]
theorem Sv {s:By} {a:Nat} (h:BB (Ah s a)=true) (h2:BB (Ah s (At a (Ah s a)).toNat)=false):(AH s a).2.2.2=false:=by
 unfold AH; dsimp only; rw [if_neg (by rw [h]; simp)];split
 ·have:(BM s (At a (Ah s a)).toNat).2.2=false:=by unfold BM; dsimp only; rw [if_neg (fun hh=>by rw [h2] at hh; cases hh.1)]
  dsimp only;rw [this]; rfl
 ·dsimp only;rw [h2]; rfl
theorem Un {s:By} {a:Nat} (h:BB (Ah s a)=true) (h2:BB (Ah s (At a (Ah s a)).toNat)=true) (h0:AC (Ah s a) % 8=0):AH s a=((AC (Ah s a) / 8,0,unf (AC (Ah s (At a (Ah s a)).toNat)),[],()),(a:Int),At (At a (Ah s a)).toNat (Ah s (At a (Ah s a)).toNat),AM (AC (Ah s a) / 8,0,unf (AC (Ah s (At a (Ah s a)).toNat)),[],())):=by
 unfold AH; dsimp only; rw [if_neg (by rw [h]; simp),if_neg (by omega),h0,h2,Bool.true_and]
theorem Uo {s:By} {a:Nat} (h:BB (Ah s a)=true) (h2:BB (Ah s (At a (Ah s a)).toNat)=true) (h0:AC (Ah s a) % 8=2) (hn:AC (Ah s (At a (Ah s a)).toNat)<=s.length-At (At a (Ah s a)).toNat (Ah s (At a (Ah s a)).toNat)) :
  AH s a=((AC (Ah s a) / 8,2,0,(s.drop (At (At a (Ah s a)).toNat (Ah s (At a (Ah s a)).toNat)).toNat).take (AC (Ah s (At a (Ah s a)).toNat)).toNat,()),(a:Int),At (At a (Ah s a)).toNat (Ah s (At a (Ah s a)).toNat)+AC (Ah s (At a (Ah s a)).toNat),AM (AC (Ah s a) / 8,2,0,(s.drop (At (At a (Ah s a)).toNat (Ah s (At a (Ah s a)).toNat)).toNat).take (AC (Ah s (At a (Ah s a)).toNat)).toNat,())):=by
 have:BM s (At a (Ah s a)).toNat=((s.drop (At (At a (Ah s a)).toNat (Ah s (At a (Ah s a)).toNat)).toNat).take (AC (Ah s (At a (Ah s a)).toNat)).toNat,At (At a (Ah s a)).toNat (Ah s (At a (Ah s a)).toNat)+AC (Ah s (At a (Ah s a)).toNat),true):=by unfold BM; dsimp only; rw [if_pos ⟨h2,hn⟩]
 unfold AH; dsimp only; rw [if_neg (by rw [h]; simp),if_pos h0,this,Bool.true_and]
theorem Ss {s:By} {a:Nat} (h:BB (Ah s a)=true) (h0:AC (Ah s a) % 8≠0) (hn : ¬AC (Ah s (At a (Ah s a)).toNat)<=s.length-At (At a (Ah s a)).toNat (Ah s (At a (Ah s a)).toNat)):(AH s a).2.2.2=false:=by
 unfold AH; dsimp only; rw [if_neg (by rw [h]; simp)];split
 ·have:(BM s (At a (Ah s a)).toNat).2.2=false:=by unfold BM; dsimp only; rw [if_neg (fun hh=>hn hh.2)]
  dsimp only;rw [this]; rfl
 ·rename_i h2;dsimp only;unfold AM;dsimp only;rw [if_neg h0,if_neg h2,Bool.and_false,Bool.and_false]
theorem Su {s:By} {a:Nat} (h:BB (Ah s a)=true) (h0:AC (Ah s a) % 8≠0) (h2:AC (Ah s a) % 8≠2):(AH s a).2.2.2=false/\∀ x y z,AM (x,AC (Ah s a) % 8,y,z,())=false:=by
 have hb : ∀ x y z,AM (x,AC (Ah s a) % 8,y,z,())=false:=fun x y z=>by
  unfold AM;dsimp only;rw [if_neg h0,if_neg h2,Bool.and_false]
 refine ⟨?_,hb⟩;unfold AH; dsimp only; rw [if_neg (by rw [h]; simp),if_neg h2];dsimp only;rw [hb,Bool.and_false]
theorem SE (s:By) (a:Nat) (o:List WFd) (hs:s.length<=4000000000) (ha:a<s.length) (ho:o.length<=a) :
  As prog PG (Aa [(3,GY)]) 0 (body f116 0) GY ([.s s,.ref 0 0 o.length,.j (a:Int)],[R0 FCd o])=if (AH s a).2.2.2=true/\o.length≠40 then some (.normal,([.s s,.ref 0 0 (o++[(AH s a).1]).length,.j (AH s a).2.2.1],[R0 FCd (o++[(AH s a).1])])) else some (.ret,([.ref 0 0 0,.b false],[R0 FCd []])):=by
 rw [Ji];dsimp only [shr];have hM:=mxI;obtain ⟨⟨u1,u2⟩,u3,u4⟩:=Fr s a;rw [Ag (dcT (by omega)),Ae (dcT (by omega)),ntN]
 cases hk:BB (Ah s a) with
 | false=>rw [Bool.not_false,Be,if_neg (fun h=>by rw [Sw hk] at h; cases h.1)]
 | true=>
  obtain ⟨e1,e2⟩:=PP (a:=a) hk;rw [Bool.not_true,AL];simp only [e1,e2];obtain ⟨⟨v1,v2⟩,v3,v4⟩:=Fr s (At a (Ah s a)).toNat;rw [Ae (dcT ⟨u3,hs,by omega⟩)]
  cases hk2:BB (Ah s (At a (Ah s a)).toNat) with
  | false=>rw [Bool.not_false,Be,if_neg (fun h=>by rw [Sv hk hk2] at h; cases h.1)]
  | true=>
   obtain ⟨e3,e4⟩:=PP (a:=(At a (Ah s a)).toNat) hk2;rw [Bool.not_true,AL];have m1:tdiv (AC (Ah s a)) 8=AC (Ah s a) / 8:=Int.tdiv_eq_ediv_of_nonneg u1;have m2:tmod (AC (Ah s a)) 8=AC (Ah s a) % 8:=Int.tmod_eq_emod_of_nonneg u1;have m3:i64.wrap (AC (Ah s a) / 8)=AC (Ah s a) / 8:=An (by omega) (by omega);have m4:i64.wrap ((s.length:Int)-At (At a (Ah s a)).toNat (Ah s (At a (Ah s a)).toNat))=(s.length:Int)-At (At a (Ah s a)).toNat (Ah s (At a (Ah s a)).toNat):=An (by omega) (by omega);have m5:i64.wrap (At (At a (Ah s a)).toNat (Ah s (At a (Ah s a)).toNat)+AC (Ah s (At a (Ah s a)).toNat))=At (At a (Ah s a)).toNat (Ah s (At a (Ah s a)).toNat)+AC (Ah s (At a (Ah s a)).toNat):=An (by omega) (by omega);simp only [e3,e4,m1,m2,m3,m4,m5,drop_zero,take_length,AG];have hlen:(decide ((o.length+1)*40<=140737488355328)&&decide (o.length+1<=maxI))=true:=by simp only [anE,dcE]; omega
   by_cases q0:AC (Ah s a) % 8=0
   ·rw [Ag (by simpa using q0),Ae (dcT ⟨v1,by omega⟩),q0];have ht:=Un hk hk2 q0
    cases hf:AM (AC (Ah s a) / 8,0,unf (AC (Ah s (At a (Ah s a)).toNat)),[],()) with
    | false=>rw [Bool.not_false,Be,if_neg (fun h=>by rw [ht] at h; have:=h.1; rw [hf] at this; cases this)]
    | true=>
     rw [Bool.not_true,AL]
     by_cases q2:o.length=40
     ·rw [Ag (by rw [q2]; rfl),if_neg (fun h=>h.2 q2)]
     ·rw [Ad (by simpa using fun e=>q2 (by omega)),Ae hlen,if_pos ⟨by rw [ht]; exact hf,q2⟩,ht,length_append]; rfl
   ·rw [Ad (by simpa using q0)]
    by_cases qn:AC (Ah s (At a (Ah s a)).toNat)<=s.length-At (At a (Ah s a)).toNat (Ah s (At a (Ah s a)).toNat)
    rotate_left
    ·rw [Ag (dcT (by omega)),if_neg (fun h=>by rw [Ss hk q0 qn] at h; cases h.1)]
    rw [Ad (dcF (by omega)),Ae (by simp only [anE,dcE]; omega)];have e5:(At (At a (Ah s a)).toNat (Ah s (At a (Ah s a)).toNat)+AC (Ah s (At a (Ah s a)).toNat)).toNat-(At (At a (Ah s a)).toNat (Ah s (At a (Ah s a)).toNat)).toNat=(AC (Ah s (At a (Ah s a)).toNat)).toNat:=by omega
    rw [e5]
    by_cases qk:AC (Ah s a) % 8=2
    rotate_left
    ·obtain ⟨b1,b2⟩:=Su hk q0 qk;rw [b2,Bool.not_false,Be,if_neg (fun h=>by rw [b1] at h; cases h.1)]
    have ht:=Uo hk hk2 qk qn;rw [qk]
    cases hf:AM (AC (Ah s a) / 8,2,0,(s.drop (At (At a (Ah s a)).toNat (Ah s (At a (Ah s a)).toNat)).toNat).take (AC (Ah s (At a (Ah s a)).toNat)).toNat,()) with
    | false=>rw [Bool.not_false,Be,if_neg (fun h=>by rw [ht] at h; have:=h.1; rw [hf] at this; cases this)]
    | true=>
     rw [Bool.not_true,AL]
     by_cases q2:o.length=40
     ·rw [Ag (by rw [q2]; rfl),if_neg (fun h=>h.2 q2)]
     ·rw [Ad (by simpa using fun e=>q2 (by omega)),Ae hlen,if_pos ⟨by rw [ht]; exact hf,q2⟩,ht,length_append]; rfl
theorem Q0 (s:By) (hs:s.length<=4000000000) : ∀ (j a:Nat) (o:List WFd),s.length-a<=j->a<=s.length->o.length<=a->∀ ex d,(Br.br (rdF s (s.length-a) a o).isSome (.leaf (.exit 0,([.ref 0 0 ((rdF s (s.length-a) a o).getD []).length],[R0 FCd ((rdF s (s.length-a) a o).getD [])]))) (.leaf (.ret,([.ref 0 0 0,.b false],[R0 FCd []]))):Br (Ex×Dt)).run=some (ex,d)->
  Runs prog PG (Aa [(3,GY)]) 0 (body f116 0) GY ([.s s,.ref 0 0 o.length,.j (a:Int)],[R0 FCd o]) ex d:=by
 intro j
 have fin : ∀ (a:Nat) (o:List WFd),a=s.length->∀ ex d,(Br.br (rdF s (s.length-a) a o).isSome (.leaf (.exit 0,([.ref 0 0 ((rdF s (s.length-a) a o).getD []).length],[R0 FCd ((rdF s (s.length-a) a o).getD [])]))) (.leaf (.ret,([.ref 0 0 0,.b false],[R0 FCd []]))):Br (Ex×Dt)).run=some (ex,d)->Runs prog PG (Aa [(3,GY)]) 0 (body f116 0) GY ([.s s,.ref 0 0 o.length,.j (a:Int)],[R0 FCd o]) ex d:=fun a o ha ex d h=>by
  have hr:=Ji s o.length a o;dsimp only [shr] at hr;rw [Ad (dcF (by omega))] at hr;rw [SF (by omega)] at h;have h8:=AI (show (Br.leaf (.exit 0,([.ref 0 0 o.length],[R0 FCd o])):Br (Ex×Dt)).run=some (ex,d) from h);obtain ⟨rfl,rfl⟩:=Prod.mk.inj h8;exact stp hr
 induction j with
 | zero=>exact fun a o hj ha ho ex d h=>fin a o (by omega) ex d h
 | succ j ih=>
  intro a o hj ha ho ex d h
  by_cases q:a<s.length
  rotate_left
  ·exact fin a o (by omega) ex d h
  have hr:=SE s a o hs q ho
  by_cases q2:(AH s a).2.2.2=true/\o.length≠40
  ·obtain ⟨t1,t2,t3,t4⟩:=IX q2.1;rw [if_pos q2] at hr;rw [Q3 q q2.1 q2.2] at h;obtain ⟨b,hb⟩:=eq_ofNat_of_zero_le (a:=(AH s a).2.2.1) (by omega);rw [hb] at hr h t2 t3;rw [ntN] at h;exact sts hr (ih b (o++[(AH s a).1]) (by omega) (by omega) (by simp; omega) ex d h)
  ·rw [if_neg q2] at hr
   rw [SG q (by
    cases e:(AH s a).2.2.2 with
    | false=>exact .inl rfl
    | true=>exact .inr (by by_cases e2:o.length=40; exact e2; exact absurd ⟨e,e2⟩ q2))] at h
   have h8:=AI (show (Br.leaf (.ret,([.ref 0 0 0,.b false],[R0 FCd []])):Br (Ex×Dt)).run=some (ex,d) from h);obtain ⟨rfl,rfl⟩:=Prod.mk.inj h8;exact stp hr
theorem U3:Ar prog PG (Aa [(3,GY)]) 0 (f116.body.getD .skip):=by
 refine Ap (a:=body f116 0) (by kernel_rfl) fun d ex d' h=>?_
 unfold GY at h;dsimp only at h;split at h
 ·rename_i s n a o;obtain ⟨hc,hx⟩:=Ac h;clear h;obtain ⟨h0,h1,h2,rfl,h4⟩:=of_decide_eq_true hc;obtain ⟨a,rfl⟩:=eq_ofNat_of_zero_le h0;simp only [ntN] at h1 h4 hx;exact Q0 s h2 _ a o (Nat.le_refl _) h1 h4 ex d' hx
 ·cases h
theorem rdf:Ab prog 116 (Ent.rd1 U4).F:=by
 refine fcC (kc func162 tvs (kc func163 W4 (kc func136 Qg KnowsL.nil))).knows (Λ:=(Aa [(3,GY)])) func116 fun vs bs r hq=>?_
 unfold Ent.F U4 at hq;dsimp only at hq;split at hq
 ·rename_i s;obtain ⟨hc,hx⟩:=Ac hq;have hc:=of_decide_eq_true hc;refine ⟨U3,Eq.trans ?_ hx⟩;rw [Qz];unfold GX;rw [Ae (dcT ⟨by omega,by omega,hc,rfl,by omega⟩),sub_zero];simp only [AG];cases rdF s s.length 0 []<;>rfl
 ·cases hq
theorem Qw (s:By):Ba prog (Aa [(116,.rd1 U4)]) (Aa []) f82 [.s s] [] =
 ((ifB (decide ((↑s.length:Int)>(400:Int))) (some (V.tup [V.ref 0 0 0,V.b false],[R0 FCd (Ai FCd.den)])) (ifT (decide (s.length<=(4000000000
 : Nat))) (some (V.tup [V.ref 0 0 ((GX s).getD (Ai WFd)).length,V.b (GX s).isSome],[R0 FCd ((GX s).getD (Ai WFd))])))):_):=by kernel_rfl
theorem rdq:Ab prog 82 (Ent.rd1 OO).F:=by
 refine fcC (kc func116 rdf KnowsL.nil).knows (Λ:=Aa []) func82 fun vs bs r hq=>?_
 unfold Ent.F OO at hq;dsimp only at hq;split at hq
 ·rename_i s;obtain ⟨hc,hx⟩:=Ac hq;refine ⟨Aj _,Eq.trans ?_ hx⟩;rw [Qw];unfold CN
  by_cases q:s.length<=400
  ·rw [Ad (dcF (by omega)),if_pos q,Ae hc]; rfl
  ·rw [Ag (dcT (by omega)),if_neg q]; rfl
 ·cases hq
theorem H3 (m:Nat) (k i:Int) (o:List WFd):As prog (Aa [(82,.rd1 OO)]) (Aa [(5,GI)]) 0 (body f37 0) GI ([.ref 0 0 m,.ref 0 0 m,.j k,.j i],[R0 FCd o]) =
 ((ifB (decide (i<k)) (ifT (decide (0<=i)&&decide (i<(↑m:Int))) (Al o[0+i.toNat]? fun z=>ifB (decide (i>0)) (ifT (decide (0<=i64.wrap (i -
 1))&&decide (i64.wrap (i-1)<(↑m:Int))) (Al o[0+(i64.wrap (i-1)).toNat]? fun z_1=>ifB (decide (z_1.1>=z.1)) (some (Ex.ret,
 [V.ref 0 0 0,V.b false],[R0 FCd (Ai FCd.den)])) (some (Ex.normal,[V.ref 0 0 m,V.ref 0 0 m,V.j k,V.j (i64.wrap (i+1))],
 [R0 FCd o])))) (some (Ex.normal,[V.ref 0 0 m,V.ref 0 0 m,V.j k,V.j (i64.wrap (i+1))],[R0 FCd o]))))
 (some (Ex.exit 0,[V.ref 0 0 m],[R0 FCd o]))):_):=by kernel_rfl
theorem OB (s:By):Ba prog (Aa [(82,.rd1 OO)]) (Aa [(5,GI)]) f37 [.s s] [] =
 ((ifT (decide (s.length<=4000000000)) (ifB (!(CN s).isSome) (some (V.tup [V.ref 0 0 0,V.b false],[R0 FCd (Ai FCd.den)])) (ifT (decide
 ((0:Int)<=(0:Int)/\0<=((CN s).getD (Ai WFd)).length/\((CN s).getD (Ai WFd)).length=((CN s).getD (Ai WFd)).length/\((CN s).getD (Ai
 WFd)).length=((CN s).getD (Ai WFd)).length/\(↑((CN s).getD (Ai WFd)).length:Int)=(↑((CN s).getD (Ai WFd)).length:Int)/\((CN s).getD (Ai
 WFd)).length<=4000000000)) (ifB ((drop 0 (range ((CN s).getD (Ai WFd)).length)).all (BF (Dx ((CN s).getD (Ai WFd))))) (some (V.tup
 [V.ref 0 0 ((CN s).getD (Ai WFd)).length,V.b true],[R0 FCd ((CN s).getD (Ai WFd))])) (some (V.tup [V.ref 0 0 0,V.b false],[R0 FCd (Ai FCd.den)])))))):_):=by kernel_rfl
theorem Gr (o:List WFd) (hm:o.length<=4000000000) : ∀ (j i:Nat),i+j=o.length->∀ ex d,(Br.br (((range o.length).drop i).all (BF (Dx o))) (.leaf (.exit 0,([.ref 0 0 o.length],[R0 FCd o]))) (.leaf (.ret,([.ref 0 0 0,.b false],[R0 FCd []]))):Br (Ex×Dt)).run=some (ex,d)->
  Runs prog (Aa [(82,.rd1 OO)]) (Aa [(5,GI)]) 0 (body f37 0) GI ([.ref 0 0 o.length,.ref 0 0 o.length,.j (o.length:Int),.j (i:Int)],[R0 FCd o]) ex d
 | 0,i,hi,ex,d,h=>by
  have hr:=H3 o.length o.length i o;rw [Ad (dcF (by omega))] at hr;rw [drop_eq_nil_of_le (by simp; omega)] at h;have h8:=AI (show (Br.leaf (.exit 0,([.ref 0 0 o.length],[R0 FCd o])):Br (Ex×Dt)).run=some (ex,d) from h);obtain ⟨rfl,rfl⟩:=Prod.mk.inj h8;exact stp hr
 | j+1,i,hi,ex,d,h=>by
  have hl:i<o.length:=by omega
  have hM:=mxI;have hr:=H3 o.length o.length i o
  have hd:(range o.length).drop i=i::(range o.length).drop (i+1):=by
   rw [drop_eq_getElem_cons (by simpa using hl)];simp
  rw [hd,List.all_cons] at h;rw [Ag (dcT (by omega)),Ax (n:=i) (by omega)] at hr;have gA : ∀ {x:Nat} (hx:x<o.length),(Dx o).getD x 0=o[x].1:=fun hx=>by unfold Dx; simp [hx]
  rw [T2 (by omega),ntN,zero_add,gtE hl,Am] at hr
  by_cases q0:i=0
  ·subst q0;rw [Ad (dcF (by omega))] at hr;have e0:BF (Dx o) 0=true:=rfl;rw [e0,Bool.true_and] at h;exact sts hr (Gr o hm j 1 (by omega) ex d h)
  ·have hw:i64.wrap ((i:Int)-1)=((i-1:Nat):Int):=by rw [An (by omega) (by omega)]; omega
   have hl1:i-1<o.length:=by omega
   rw [Ag (dcT (by omega)),hw,T2 (by omega),ntN,zero_add,gtE hl1,Am] at hr
   skip
   have er:BF (Dx o) i=decide (o[i-1].1<o[i].1):=by
    unfold BF;rw [gA hl1,gA hl,beq_false_of_ne q0,Bool.false_or]
   rw [er] at h
   by_cases q:o[i-1].1<o[i].1
   ·rw [Ad (dcF (by omega))] at hr;rw [dcT q,Bool.true_and] at h;exact sts hr (Gr o hm j (i+1) (by omega) ex d h)
   ·rw [Ag (dcT (by omega))] at hr;rw [dcF q,Bool.false_and] at h;have h8:=AI (show (Br.leaf (.ret,([.ref 0 0 0,.b false],[R0 FCd []])):Br (Ex×Dt)).run=some (ex,d) from h);obtain ⟨rfl,rfl⟩:=Prod.mk.inj h8;exact stp hr
theorem Sz:Ar prog (Aa [(82,.rd1 OO)]) (Aa [(5,GI)]) 0 (f37.body.getD .skip):=by
 refine Ap (a:=body f37 0) (by kernel_rfl) fun d ex d' h=>?_
 unfold GI at h;dsimp only at h;split at h
 ·rename_i m m2 k i o;obtain ⟨hc,hx⟩:=Ac h;clear h;obtain ⟨h0,h1,rfl,rfl,rfl,h4⟩:=of_decide_eq_true hc;obtain ⟨i,rfl⟩:=eq_ofNat_of_zero_le h0;simp only [ntN] at h1 hx;exact Gr o h4 (o.length-i) i (by omega) ex d' hx
 ·cases h
theorem Q1 (s:By):CN s=(rdP s).map (fun l=>l.map (·.1)):=by
 unfold CN rdP GX;split
 ·exact Hj s s.length 0 []
 ·rfl
theorem NI (s:By):C9 s=(Es s).map (fun l=>l.map (·.1)):=by
 unfold C9 Es;rw [Q1]
 cases rdP s with
 | none=>rfl
 | some l=>
  dsimp only [Option.map_some];have e:Dx (l.map (·.1))=Gx l:=by unfold Dx Gx; rw [map_map]; rfl
  rw [e];split<;>rfl
theorem VD:Ab prog 37 (Ent.rd1 Qn).F:=by
 refine fcC (kc func82 rdq KnowsL.nil).knows (Λ:=(Aa [(5,GI)])) func37 fun vs bs r hq=>?_
 unfold Ent.F Qn at hq;dsimp only at hq;split at hq
 ·rename_i s;obtain ⟨hc,hx⟩:=Ac hq;refine ⟨Sz,Eq.trans ?_ hx⟩;rw [OB,Ae hc];unfold C9
  cases e:CN s with
  | none=>rfl
  | some l=>
   have hl:l.length<=40:=by
    rw [Q1] at e;obtain ⟨w,h1,rfl⟩:=Option.map_eq_some_iff.1 e;rw [length_map]; exact (NJ h1).1
   dsimp only [isSome_some,getD_some];rw [Bool.not_true,AL,Ae (dcT ⟨by omega,by omega,rfl,rfl,rfl,by omega⟩),drop_zero];unfold H8;rw [show (Dx l).length=l.length by unfold Dx; simp];cases (range l.length).all (BF (Dx l))<;>rfl
 ·cases hq
def BL:Nat->Nat->By×Nat
 | 0,n=>([],n)
 | f+1,n=>if 128<=n then (UInt8.ofNat (n % 128+128)::(BL f (n / 128)).1,(BL f (n / 128)).2) else ([],n)
def vbs (n:Nat):By:=(BL 10 n).1++[UInt8.ofNat (BL 10 n).2]
def fol (n:Int):Int:=if n<0 then -2*n-1 else 2*n
def svE:LoopEnt:=⟨22,[0,3],[0,3],[],fun
 | ([.j n,.s s],[])=>.need (decide (0<=n/\n<=1000000000000/\s.length<=1000)) (.leaf (.exit 0,([.j ((BL 10 n.toNat).2:Int),.s (s++(BL 10 n.toNat).1)],[])))
 | _=>.no⟩
def So:Gm
 | [.j n],[]=>.need (decide (0<=n/\n<=1000000000000)) (.leaf (.s (vbs n.toNat),[]))
 | _,_=>.no
def Tq:Gm
 | [.j n],[]=>.need (decide (-1000000000000<=n/\n<=1000000000000)) (.leaf (.j (fol n),[]))
 | _,_=>.no
theorem KU (n:Int) (s:By):As prog (Aa []) (Aa [(2,svE)]) 0 (body f105 0) svE ([.j n,.s s],[]) =
 ((ifB (decide (n>=128)) (ifT (decide (s.length+1<=9223372036854775807)) (some (Ex.normal,[V.j (n.fdiv ((2:Int) ^ min 7
 i64.bits)),V.s (s++List.map (fun n=>UInt8.ofNat n.toNat) (IntKind.u8.wrap (↑(BitVec.ofInt IntKind.u8.bits (IntKind.u8.wrap (i64.wrap (↑(BitVec.ofInt
 i64.bits n &&& BitVec.ofInt i64.bits (127:Int)).toNat:Int))) ||| BitVec.ofInt IntKind.u8.bits (128:Int)).toNat:Int)::Ai (Cd.int .u8).den))],
 []))) (some (Ex.exit 0,[V.j n,V.s s],[]))):_):=by kernel_rfl
theorem Sy (n:Int):A3 prog (Aa []) (Aa [(2,svE)]) f105 [.j n] [] =
 ((ifT (decide (0<=n/\n<=1000000000000/\0<=1000)) (ifT (decide ((Ai UInt8++(BL 10 n.toNat).1).length+1<=(9223372036854775807 :
 Nat))) (some (V.s (Ai UInt8++(BL 10 n.toNat).1++List.map (fun n=>UInt8.ofNat n.toNat) (IntKind.u8.wrap (↑(BL 10 n.toNat).2:Int)::Ai
 (Cd.int .u8).den)),[])))):_):=by kernel_rfl
theorem VR (n:Nat):i64.wrap ((BitVec.ofInt i64.bits (n:Int) &&& BitVec.ofInt i64.bits (127:Int)).toNat:Int)=((n % 128:Nat):Int):=by
 have e:(BitVec.ofInt i64.bits (n:Int) &&& BitVec.ofInt i64.bits (127:Int)).toNat=n % 128:=by
  show (BitVec.ofInt 64 (n:Int) &&& BitVec.ofInt 64 ((127:Nat):Int)).toNat=n % 128;rw [BitVec.toNat_and,BitVec.ofInt_natCast,BitVec.ofInt_natCast,BitVec.toNat_ofNat,BitVec.toNat_ofNat,show 127 % 2 ^ 64=2 ^ 7-1 by decide,Nat.and_two_pow_sub_one_eq_mod];show n % 18446744073709551616 % 128=n % 128;omega
 rw [e,An (by omega) (by omega)]
theorem PN {n:Nat} (h:n<256):IntKind.u8.wrap (n:Int)=(n:Int):=by
 unfold IntKind.wrap;simp [IntKind.bits,IntKind.signed];omega
theorem VN (x:Nat) (hx:x<128):IntKind.u8.wrap ((BitVec.ofInt IntKind.u8.bits (x:Int) ||| BitVec.ofInt IntKind.u8.bits (128:Int)).toNat:Int)=((x+128:Nat):Int):=by
 have e:(BitVec.ofInt IntKind.u8.bits (x:Int) ||| BitVec.ofInt IntKind.u8.bits (128:Int)).toNat=x+128:=by
  show (BitVec.ofInt 8 (x:Int) ||| BitVec.ofInt 8 ((128:Nat):Int)).toNat=_;rw [BitVec.toNat_or,BitVec.ofInt_natCast,BitVec.ofInt_natCast,BitVec.toNat_ofNat,BitVec.toNat_ofNat,mod_eq_of_lt (by omega),mod_eq_of_lt (by omega),Nat.or_comm,show (128:Nat)=2 ^ 7*1 by decide,<-Nat.two_pow_add_eq_or_of_lt (by omega) 1];omega
 rw [e,PN (by omega)]
theorem JN : ∀ (f n:Nat),n<128 ^ (f+1)->(BL f n).2<128/\(BL f n).1.length<=f
 | 0,n,h=>⟨by simpa [BL] using h,by simp [BL]⟩
 | f+1,n,h=>by
  rw [BL];split
  ·rw [Nat.pow_succ] at h;have:=JN f (n / 128) (Nat.div_lt_of_lt_mul (by omega));exact ⟨this.1,by simp; omega⟩
  ·exact ⟨by dsimp only; omega,by simp⟩
theorem Ce {n:Nat} (h:n<=1000000000000):1<=(vbs n).length/\(vbs n).length<=11:=by
 have:=(JN 10 n (by have:(128:Nat) ^ 11=151115727451828646838272:=(by decide); omega)).2;unfold vbs;rw [length_append,List.length_singleton];omega
theorem NB : ∀ (f n:Nat) (s:By),n<128 ^ f->f<=10->s.length<=1000+(10-f)->
  Runs prog (Aa []) (Aa [(2,svE)]) 0 (body f105 0) svE ([.j (n:Int),.s s],[]) (.exit 0) ([.j ((BL f n).2:Int),.s (s++(BL f n).1)],[])
 | 0,n,s,h,hf,hs=>by
  have:n=0:=by simpa using h
  subst this;have hr:=KU ((0:Nat):Int) s;rw [Ad (dcF (by omega))] at hr;rw [BL,append_nil];exact stp hr
 | f+1,n,s,h,hf,hs=>by
  have hr:=KU (n:Int) s
  by_cases q:128<=n
  ·have hn:n<128 ^ 10:=Nat.lt_of_lt_of_le h (Nat.pow_le_pow_right (by omega) hf);have hn2:n<2 ^ 63\/2 ^ 63<=n:=by omega
   rw [Ag (dcT (by omega)),Ae (dcT (by omega)),VR n,PN (n:=n % 128) (by omega),VN (n % 128) (by omega)] at hr
   have e1:fdiv (n:Int) ((2:Int) ^ min 7 i64.bits)=((n / 128:Nat):Int):=by
    show fdiv (n:Int) ((128:Nat):Int)=_;rw [Int.fdiv_eq_ediv_of_nonneg _ (by omega)];rfl
   rw [e1] at hr;rw [Nat.pow_succ] at h;have ih:=NB f (n / 128) (s++[UInt8.ofNat (n % 128+128)]) (Nat.div_lt_of_lt_mul (by omega)) (by omega) (by simp; omega);rw [BL,if_pos q];dsimp only;rw [append_assoc] at ih;exact sts hr ih
  ·rw [Ad (dcF (by omega))] at hr;rw [BL,if_neg q,append_nil];exact stp hr
theorem VC:Ar prog (Aa []) (Aa [(2,svE)]) 0 (f105.body.getD .skip):=by
 refine Ap (a:=body f105 0) (by kernel_rfl) fun d ex d' h=>?_
 unfold svE at h;dsimp only at h;split at h
 ·rename_i n s;obtain ⟨hc,hx⟩:=Ac h;clear h;obtain ⟨h0,h1,h2⟩:=of_decide_eq_true hc;obtain ⟨n,rfl⟩:=eq_ofNat_of_zero_le h0;rw [ntN] at hx;obtain ⟨rfl,rfl⟩:=lfP hx;exact NB 10 n s (by have:(128:Nat) ^ 10=1180591620717411303424:=(by decide); omega) (by omega) (by omega)
 ·cases h
theorem sv:Ab prog 105 (Ent.rd1 So).F:=by
 refine fcK KnowsL.nil.knows (Λ:=Aa [(2,svE)]) func105 fun vs bs r hq=>?_
 unfold Ent.F So at hq;dsimp only at hq;split at hq
 ·rename_i n;obtain ⟨hc,hx⟩:=Ac hq;obtain ⟨h0,h1⟩:=of_decide_eq_true hc;obtain ⟨n,rfl⟩:=eq_ofNat_of_zero_le h0;rw [ntN] at hx;refine ⟨VC,Eq.trans ?_ hx⟩;have hl:=JN 10 n (by have:(128:Nat) ^ 11=151115727451828646838272:=(by decide); omega);rw [Sy,Ae (dcT ⟨h0,h1,by simp⟩),ntN];simp only [AG,List.nil_append];rw [Ae (dcT (by omega)),PN (by omega)];rfl
 ·cases hq
theorem OF (n:Int):A3 prog (Aa []) (Aa []) f106 [.j n] [] =
 ((ifB (decide (n>=0)) (some (V.j (i64.wrap (2*n)),[])) (some (V.j (i64.wrap (i64.wrap ((-2:Int)*n)-(1:Int))),[]))):_):=by kernel_rfl
theorem Qf (n:Int) (hc : -1000000000000<=n/\n<=1000000000000):A3 prog (Aa []) (Aa []) f106 [.j n] []=(.leaf (.j (fol n),[]):Br (V×List (Option Blk))).run:=by
 rw [OF];unfold fol
 by_cases q:n<0
 ·rw [Ad (dcF (by omega)),if_pos q,An (n:=-2*n) (by omega) (by omega),An (by omega) (by omega)]; rfl
 ·rw [Ag (dcT (by omega)),if_neg q,An (by omega) (by omega)]; rfl
theorem VI:Ab prog 106 (Ent.rd1 Tq).F:=by
 refine fcK KnowsL.nil.knows (Λ:=Aa []) func106 fun vs bs r' hq=>?_
 unfold Ent.F Tq at hq;dsimp only at hq;split at hq
 ·rename_i n;obtain ⟨hc,hx⟩:=Ac hq;exact ⟨Aj _,(Qf n (of_decide_eq_true hc)).trans hx⟩
 ·cases hq
def fb1 (f:WFd):By:=vbs (8*f.1+f.2.1).toNat++(if f.2.1=0 then vbs (fol f.2.2.1).toNat else vbs f.2.2.2.1.length++f.2.2.2.1)
def fbs (l:List WFd):By:=l.flatMap fb1
def CJ (f:WFd):Bool:=AM f&&decide (f.2.2.2.1.length<=400)
def Hd (l:List WFd):Bool:=l.all CJ&&(decide (l.length<=40)&&decide ((fbs l).length<=400))
def Vk:Gm
 | [.sl FCd l],[]=>.need (decide (l.length<=100000)&&l.all CJ) (.leaf (.s (fbs l),[]))
 | _,_=>.no
def IN:LoopEnt:=⟨41,[3,6,7,8],[3],[],fun
 | ([.s s,.sl FCd l,.j k,.j i],[])=>.need (decide (0<=i/\i.toNat<=l.length/\k=l.length/\l.length<=100000/\s.length<=1000*i.toNat)&&l.all CJ) (.leaf (.exit 0,([.s (s++fbs (l.drop i.toNat))],[])))
 | _=>.no⟩
def R9:Gm
 | [.sl FCd l],[]=>.leaf (.tup [.s (bif Hd l then fbs l else []),.b (Hd l)],[])
 | _,_=>.no
def Ps:LoopEnt:=⟨32,[0,7,8,9],[0],[2,3],fun
 | ([.sl FCd l0,.sl FCd l,.j k,.j i],[])=>.need (decide (0<=i/\i.toNat<=l.length/\k=l.length/\l.length<=maxI)) (.br ((l.drop i.toNat).all CJ) (.leaf (.exit 0,([.sl FCd l0],[]))) (.leaf (.ret,([.s [],.b false],[]))))
 | _=>.no⟩
abbrev Sf:FuncId->Option Ent:=Aa [(105,.rd1 So),(106,.rd1 Tq)]
theorem JA (s:By) (l:List WFd) (k i:Int):As prog Sf (Aa [(3,IN)]) 0 (body f57 0) IN ([.s s,.sl FCd l,.j k,.j i],[]) =
 ((ifB (decide (i<k)) (ifT (decide (0<=i)&&decide (i<(↑l.length:Int))) (Al l[i.toNat]? fun z=>ifT (decide (0<=i64.wrap (i64.wrap ((8:Int) *
 z.1)+z.2.1)/\i64.wrap (i64.wrap ((8:Int)*z.1)+z.2.1)<=(1000000000000:Int))) (ifT (decide (s.length+(vbs (i64.wrap
 (i64.wrap ((8:Int)*z.1)+z.2.1)).toNat).length<=9223372036854775807)) (ifB (z.2.1==(0:Int)) (ifT (decide ((-1000000000000:Int)<=
 z.2.2.1/\z.2.2.1<=(1000000000000:Int))) (ifT (decide ((0:Int)<=fol z.2.2.1/\fol z.2.2.1<=(1000000000000:Int))) (ifT (decide ((s++vbs
 (i64.wrap (i64.wrap ((8:Int)*z.1)+z.2.1)).toNat).length+(vbs (fol z.2.2.1).toNat).length<=9223372036854775807)) (some
 (Ex.normal,[V.s (s++vbs (i64.wrap (i64.wrap ((8:Int)*z.1)+z.2.1)).toNat++vbs (fol z.2.2.1).toNat),V.sl FCd l,V.j k,V.i .i64
 (i64.wrap (i+1))],[]))))) (ifT (decide (0<=(↑(List.length z.2.2.2.1):Int)/\(↑(List.length z.2.2.2.1):Int)<=(1000000000000:Int))) (ifT
 (decide ((vbs (↑(List.length z.2.2.2.1):Int).toNat).length+List.length z.2.2.2.1<=9223372036854775807)) (ifT (decide ((s++vbs
 (i64.wrap (i64.wrap ((8:Int)*z.1)+z.2.1)).toNat).length+(vbs (↑(List.length z.2.2.2.1):Int).toNat++z.2.2.2.1).length<=
 9223372036854775807)) (some (Ex.normal,[V.s (s++vbs (i64.wrap (i64.wrap ((8:Int)*z.1)+z.2.1)).toNat++(vbs (↑(List.length
 z.2.2.2.1):Int).toNat++z.2.2.2.1)),V.sl FCd l,V.j k,V.j (i64.wrap (i+1))],[]))))))))) (some (Ex.exit 0,[V.s s],[]))):_):=by kernel_rfl
theorem RA (l:List WFd):A3 prog Sf (Aa [(3,IN)]) f57 [.sl FCd l] [] =
 ((ifT (decide ((0:Int)<=(0:Int)/\0<=l.length/\(↑l.length:Int)=(↑l.length:Int)/\l.length<=100000/\0<=0)&&l.all CJ)
 (some (V.s (Ai UInt8++fbs (drop 0 l)),[]))):_):=by kernel_rfl
abbrev V7:FuncId->Option Ent:=Aa [(136,.rd1 EF),(57,.rd1 Vk)]
theorem J9 (l0 l:List WFd) (k i:Int):As prog V7 (Aa [(2,Ps)]) 0 (body f93 0) Ps ([.sl FCd l0,.sl FCd l,.j k,.j i],[]) =
 ((ifB (decide (i<k)) (ifT (decide (0<=i)&&decide (i<(↑l.length:Int))) (Al l[i.toNat]? fun z=>ifB (!AM (z.1,z.2.1,z.2.2.1,z.2.2.2.1,
 ())) (some (Ex.ret,[V.s (Ai UInt8),V.b false],[])) (ifB (decide ((↑(List.length z.2.2.2.1):Int)>(400:Int))) (some (Ex.ret,[V.s (Ai UInt8),V.b
 false],[])) (some (Ex.normal,[V.sl FCd l0,V.sl FCd l,V.j k,V.j (i64.wrap (i+1))],[]))))) (some (Ex.exit 0,[V.sl FCd l0],[]))):_):=by kernel_rfl
theorem R8 (l:List WFd):A3 prog V7 (Aa [(2,Ps)]) f93 [.sl FCd l] [] =
 ((ifT (decide ((0:Int)<=(0:Int)/\0<=l.length/\(↑l.length:Int)=(↑l.length:Int)/\l.length<=maxI)) (ifB ((drop 0 l).all CJ) (ifB (decide
 ((↑l.length:Int)>(40:Int))) (some (V.tup [V.s (Ai UInt8),V.b false],[])) (ifT (decide (l.length<=100000)&&l.all CJ) (ifB (decide ((↑(fbs l).length
 : Int)>(400:Int))) (some (V.tup [V.s (Ai UInt8),V.b false],[])) (some (V.tup [V.s (fbs l),V.b true],[]))))) (some (V.tup [V.s (Ai UInt8),V.b false],[])))):_):=by kernel_rfl
theorem Cn {f:WFd} (h:AM f=true):(1<=f.1/\f.1<=30)/\((f.2.1=0/\Co f.2.2.1=true/\f.2.2.2.1=[])\/(f.2.1=2/\f.2.2.1=0)):=by
 unfold AM at h;simp only [anE,dcE] at h;obtain ⟨h1,h2⟩:=h;refine ⟨h1,?_⟩;split at h2
 ·rename_i q;simp only [anE,beq_iff_eq] at h2;exact .inl ⟨q,h2.1,h2.2⟩
 ·split at h2
  ·rename_i q;exact .inr ⟨q,by simpa using h2⟩
  ·cases h2
theorem D8 {n:Int} (h:Co n=true) : -1000000000<=n/\n<=1000000000:=by
 unfold Co at h
 simpa only [anE,dcE] using h
theorem DB {n:Int} (h : -1000000000<=n/\n<=1000000000):0<=fol n/\fol n<=2000000000:=by
 unfold fol; split<;>omega
theorem Oq {f:WFd} (h:CJ f=true):(fb1 f).length<=500:=by
 unfold CJ at h;rw [anE,dcE] at h;obtain ⟨h1,h2⟩:=h;obtain ⟨⟨a1,a2⟩,a3⟩:=Cn h1;have b1:=Ce (n:=(8*f.1+f.2.1).toNat) (by omega);unfold fb1;rw [length_append];split
 ·rename_i q;rcases a3 with ⟨_,c2,_⟩ | ⟨c1,_⟩
  ·have c3:=DB (D8 c2);have b2:=Ce (n:=(fol f.2.2.1).toNat) (by omega);omega
  ·omega
 ·have b2:=Ce (n:=f.2.2.2.1.length) (by omega);rw [length_append]; omega
theorem Cs (f:WFd) (l:List WFd):fbs (f::l)=fb1 f++fbs l:=by unfold fbs; rw [List.flatMap_cons]
theorem Tt (s:By) (l:List WFd) (i:Nat) (hi:i<l.length) (hl:l.length<=100000) (hs:s.length<=1000*i) (hf:CJ l[i]=true) :
  As prog Sf (Aa [(3,IN)]) 0 (body f57 0) IN ([.s s,.sl FCd l,.j (l.length:Int),.j (i:Int)],[])=some (.normal,([.s (s++fb1 l[i]),.sl FCd l,.j (l.length:Int),.j ((i+1:Nat):Int)],[])):=by
 have hb:=Oq hf;rw [JA];have hM:=mxI;rw [Ag (dcT (by omega)),T2 (by omega),ntN,gtE hi,Am,Ax (n:=i) (by omega)];generalize l[i]=z at *;have hf0:=hf;unfold CJ at hf;rw [anE,dcE] at hf;obtain ⟨h1,h2⟩:=hf;obtain ⟨⟨a1,a2⟩,a3⟩:=Cn h1
 have e:i64.wrap (i64.wrap (8*z.1)+z.2.1)=8*z.1+z.2.1:=by
  rw [An (n:=8*z.1) (by omega) (by omega),An (by omega) (by omega)]
 have b1:=Ce (n:=(8*z.1+z.2.1).toNat) (by omega);rw [e,Ae (dcT ⟨by omega,by omega⟩),Ae (dcT (by omega))];unfold fb1 at hb ⊢;rcases a3 with ⟨c1,c2,c3⟩ | ⟨c1,c2⟩
 ·have c4:=D8 c2;have c5:=DB c4;have b2:=Ce (n:=(fol z.2.2.1).toNat) (by omega);rw [Ag (by rw [c1]; rfl),Ae (dcT ⟨by omega,by omega⟩),Ae (dcT ⟨by omega,by omega⟩),Ae (dcT (by rw [length_append]; omega)),if_pos c1,append_assoc]
 ·have b2:=Ce (n:=z.2.2.2.1.length) (by omega);rw [Ad (by rw [c1]; rfl),ntN,Ae (dcT ⟨by omega,by omega⟩),Ae (dcT (by omega)),Ae (dcT (by rw [length_append,length_append]; omega)),if_neg (by omega),append_assoc]
theorem LU (l:List WFd) (hl:l.length<=100000) (hf:l.all CJ=true) : ∀ (j i:Nat) (s:By),i+j=l.length->s.length<=1000*i->
  Runs prog Sf (Aa [(3,IN)]) 0 (body f57 0) IN ([.s s,.sl FCd l,.j (l.length:Int),.j (i:Int)],[]) (.exit 0) ([.s (s++fbs (l.drop i))],[])
 | 0,i,s,hi,hs=>by
  have hr:=JA s l l.length i;rw [Ad (dcF (by omega))] at hr;rw [drop_eq_nil_of_le (by omega),show fbs []=[] from rfl,append_nil];exact stp hr
 | j+1,i,s,hi,hs=>by
  have hlt:i<l.length:=by omega
  have hfi:=List.all_eq_true.1 hf _ (List.getElem_mem hlt);have hr:=Tt s l i hlt hl hs hfi;have hb:=Oq hfi;have ih:=LU l hl hf j (i+1) (s++fb1 l[i]) (by omega) (by rw [length_append]; omega);rw [drop_eq_getElem_cons hlt,Cs];rw [append_assoc] at ih;exact sts hr ih
theorem Vj:Ar prog Sf (Aa [(3,IN)]) 0 (f57.body.getD .skip):=by
 refine Ap (a:=body f57 0) (by kernel_rfl) fun d ex d' h=>?_
 unfold IN at h;dsimp only at h;split at h
 ·rename_i s l k i;obtain ⟨hc,hx⟩:=Ac h;clear h;rw [anE] at hc;obtain ⟨hc,hf⟩:=hc;obtain ⟨h0,h1,rfl,h3,h4⟩:=of_decide_eq_true hc;obtain ⟨i,rfl⟩:=eq_ofNat_of_zero_le h0;simp only [ntN] at h1 h4 hx;obtain ⟨rfl,rfl⟩:=lfP hx;exact LU l h3 hf (l.length-i) i s (by omega) h4
 ·cases h
theorem WI:Ab prog 57 (Ent.rd1 Vk).F:=by
 refine fcK (kc func105 sv (kc func106 VI KnowsL.nil)).knows (Λ:=(Aa [(3,IN)])) func57 fun vs bs r hq=>?_
 unfold Ent.F Vk at hq;dsimp only at hq;split at hq
 ·rename_i l;obtain ⟨hc,hx⟩:=Ac hq;rw [anE] at hc;obtain ⟨h1,h2⟩:=hc;have h1:=of_decide_eq_true h1;refine ⟨Vj,Eq.trans ?_ hx⟩;rw [RA,Ae (by rw [h2,Bool.and_true]; exact dcT ⟨by omega,by omega,rfl,h1,by omega⟩)];rfl
 ·cases hq
theorem Vi:Ar prog V7 (Aa [(2,Ps)]) 0 (f93.body.getD .skip):=by
 refine Ap (a:=body f93 0) (by kernel_rfl) fun d ex d' h=>?_
 unfold Ps at h;dsimp only at h;split at h
 ·rename_i l0 l k i;obtain ⟨hc,hx⟩:=Ac h;clear h;obtain ⟨h0,h1,rfl,h3⟩:=of_decide_eq_true hc;obtain ⟨i,rfl⟩:=eq_ofNat_of_zero_le h0;rw [ntN] at h1 hx;refine BZ (l:=l) CJ (fun i=>([.sl FCd l0,.sl FCd l,.j (l.length:Int),.j (i:Int)],[])) (ex:=(.exit 0,([.sl FCd l0],[]))) (rt:=(.ret,([.s [],.b false],[]))) (by simp) (by simp) (fun i hi=>?_) ?_ (l.length-i) i (by omega) ex d' hx
  ·have hr:=J9 l0 l l.length i;have hM:=mxI;rw [Ag (dcT (by omega)),T2 (by omega),ntN,gtE hi,Am,Ax (n:=i) (by omega)] at hr;refine hr.trans ?_;generalize l[i]=z;obtain ⟨z0,z1,z2,z3,⟨⟩⟩:=z;unfold CJ;dsimp only
   cases AM (z0,z1,z2,z3,()) with
   | false=>rfl
   | true=>
    by_cases q:z3.length<=400
    ·rw [Bool.not_true,AL,Ad (dcF (by omega)),dcT q]; rfl
    ·rw [Bool.not_true,AL,Ag (dcT (by omega)),dcF q]; rfl
  ·have hr:=J9 l0 l l.length l.length;rw [Ad (dcF (by omega))] at hr;exact hr
 ·cases h
theorem fby:Ab prog 93 (Ent.rd1 R9).F:=by
 refine Bn (kc func136 Qg (kc func57 WI KnowsL.nil)).knows (Λ:=(Aa [(2,Ps)])) func93 (c:=f93.body.getD .skip) (by kernel_rfl) fun vs bs r hq hv hb=>?_
 unfold Ent.F R9 at hq;dsimp only at hq;split at hq
 ·rename_i l;have hm:l.length<=maxI:=(hv (.sl FCd l) (by simp)).1;refine ⟨Vi,Eq.trans ?_ hq⟩;rw [R8,Ae (dcT ⟨by omega,by omega,rfl,hm⟩),drop_zero];unfold Hd
  cases hf:l.all CJ with
  | false=>rfl
  | true=>
   rw [Be]
   by_cases q:l.length<=40
   ·rw [Ad (dcF (by omega)),Ae (by rw [dcT (by omega)]; rfl),dcT q]
    by_cases q2:(fbs l).length<=400
    ·rw [Ad (dcF (by omega)),dcT q2]; rfl
    ·rw [Ag (dcT (by omega)),dcF q2]; rfl
   ·rw [Ag (dcT (by omega)),dcF q]; rfl
 ·cases hq
def spE (o:Cur×By×By×Nat->By×Cur):LoopEnt:=⟨67,[0,1,2,7],[1],[],fun
 | ([.ptr 0 0,.s t,.s w,.j n],[some (.box [.sl (.int .u8) l,.j a,.i .u64 s])])=>.need (decide (0<=n/\n<=2/\1<=w.length/\w.length<=100/\t.length<=100000-n.toNat/\(Cur.mk l a s).good (80000100-6*n))) (.leaf (.exit 0,([.s (o ((Cur.mk l a s),t,w,n.toNat)).1],[some (cB (o ((Cur.mk l a s),t,w,n.toNat)).2)])))
 | _=>.no⟩
def Pv (f:(By)->(By)->Cur->(By)×Cur):Gm
 | [.ptr 0 0,.s t,.s w],[.box [.sl (.int .u8) l,.j a,.i .u64 s]]=>.need (decide (1<=w.length/\w.length<=100/\t.length<=90000/\(Cur.mk l a s).good 80000000)) (.leaf (.s (f t w (Cur.mk l a s)).1,[some (cB (f t w (Cur.mk l a s)).2)]))
 | _,_=>.no
theorem FJ (o:Cur×By×By×Nat->By×Cur) (l:List Int) (a s:Int) (t w:By) (n:Int):As prog (Aa [(90,.own AV)]) (Aa [(2,spE o)]) 1 (body f94 0) (spE o) ([.ptr 0 0,.s t,.s w,.j n],[some (.box [.sl (.int .u8) l,.j a,.i .u64 s])]) =
 ((shr ((Cur.mk l a s).pickC (↑t.length:Int)) fun sh5=>shr (take (t.length-((Cur.mk l a s).pickV (↑t.length:Int)).toNat) (drop ((Cur.mk l a s).pickV
 (↑t.length:Int)).toNat t)) fun sh4=>shr (sh5.pickC (↑w.length:Int)) fun sh3=>shr (take (t.length-(i64.wrap ((Cur.mk l a s).pickV (↑t.length:Int)
 + (1:Int))).toNat) (drop (i64.wrap ((Cur.mk l a s).pickV (↑t.length:Int)+(1:Int))).toNat t)) fun sh2=>shr (take (((Cur.mk l a s).pickV
 (↑t.length:Int)).toNat-0) (drop 0 t)) fun sh1=>ifB (decide (n>0)) (ifB (decide ((↑t.length:Int)>(0:Int))) (ifT (decide ((Cur.mk l a
 s).good (900000000:Int))) (ifT (decide (sh5.good (900000000:Int))) (ifT (decide ((0:Int)<=sh5.pickV (↑w.length:Int))) (Al w[(sh5.pickV (↑w.length :
 Int)).toNat]? fun z=>ifT (decide (sh3.good (900000000:Int))) (ifB (sh3.pickV (3:Int)==(0:Int)) (ifT (decide ((0:Int)<=(Cur.mk l a s).pickV (↑t.length:Int))
 && decide ((Cur.mk l a s).pickV (↑t.length:Int)<=(↑t.length:Int))) (ifT (decide (sh1.length+1<=9223372036854775807)) (ifT (decide ((0:Int)<=
 (Cur.mk l a s).pickV (↑t.length:Int))&&decide ((Cur.mk l a s).pickV (↑t.length:Int)<=(↑t.length:Int))) (ifT (decide ((sh1++List.map (fun n=>UInt8.ofNat
 n.toNat) ((↑z.toNat:Int)::Ai (Cd.int .u8).den)).length+sh4.length<=9223372036854775807)) (some (Ex.normal,[V.ptr 0 0,V.s (sh1++List.map (fun n=>
 UInt8.ofNat n.toNat) ((↑z.toNat:Int)::Ai (Cd.int .u8).den)++sh4),V.s w,V.j (i64.wrap (n-1))],[some (Blk.box [V.sl (Cd.int .u8) (sh3.pickC (3 :
 Int)).l,V.j (sh3.pickC (3:Int)).a,V.i .u64 (sh3.pickC (3:Int)).s])])))))) (ifB (sh3.pickV (3:Int)==(1:Int)) (ifT (decide ((0:Int)<=(Cur.mk l a
 s).pickV (↑t.length:Int))&&decide ((Cur.mk l a s).pickV (↑t.length:Int)<=(↑t.length:Int))) (ifT (decide (sh1.length+1<=9223372036854775807))
 (ifT (decide (0<=i64.wrap ((Cur.mk l a s).pickV (↑t.length:Int)+(1:Int)))&&decide (i64.wrap ((Cur.mk l a s).pickV (↑t.length:Int)+(1:Int))
 <= (↑t.length:Int))) (ifT (decide ((sh1++List.map (fun n=>UInt8.ofNat n.toNat) ((↑z.toNat:Int)::Ai (Cd.int .u8).den)).length+sh2.length<=
 9223372036854775807)) (some (Ex.normal,[V.ptr 0 0,V.s (sh1++List.map (fun n=>UInt8.ofNat n.toNat) ((↑z.toNat:Int)::Ai (Cd.int .u8).den)++sh2),V.s
 w,V.j (i64.wrap (n-1))],[some (Blk.box [V.sl (Cd.int .u8) (sh3.pickC (3:Int)).l,V.j (sh3.pickC (3:Int)).a,V.i .u64 (sh3.pickC (3 :
 Int)).s])])))))) (ifT (decide ((0:Int)<=(Cur.mk l a s).pickV (↑t.length:Int))&&decide ((Cur.mk l a s).pickV (↑t.length:Int)<=(↑t.length:Int))) (ifT (decide (0
 <= i64.wrap ((Cur.mk l a s).pickV (↑t.length:Int)+(1:Int)))&&decide (i64.wrap ((Cur.mk l a s).pickV (↑t.length:Int)+(1:Int))<=(↑t.length :
 Int))) (ifT (decide (sh1.length+sh2.length<=9223372036854775807)) (some (Ex.normal,[V.ptr 0 0,V.s (sh1++sh2),V.s w,V.j (i64.wrap (n-1))],
 [some (Blk.box [V.sl (Cd.int .u8) (sh3.pickC (3:Int)).l,V.j (sh3.pickC (3:Int)).a,V.i .u64 (sh3.pickC (3:Int)).s])]))))))))))) (some (Ex.exit 0,[V.s t],
 [some (Blk.box [V.sl (Cd.int .u8) l,V.j a,V.i .u64 s])]))) (some (Ex.exit 0,[V.s t],[some (Blk.box [V.sl (Cd.int .u8) l,V.j a,V.i .u64 s])]))):_):=by kernel_rfl
theorem ND : ∀ x:Cur×By×By×Nat,(x.2.2.2<=2/\1<=x.2.2.1.length/\x.2.2.1.length<=100/\x.2.1.length<=100000-x.2.2.2/\x.1.good (80000100-6*(x.2.2.2:Int)))->
    ∃ y:By×Cur,(∀ o,Runs prog (Aa [(90,.own AV)]) (Aa [(2,spE o)]) 1 (body f94 0) (spE o) ((fun x:Cur×By×By×Nat=>([.ptr 0 0,.s x.2.1,.s x.2.2.1,.j (x.2.2.2:Int)],[some (cB x.1)])) x) ((fun y:By×Cur=>(((.exit 0:Ex),([.s y.1],[some (cB y.2)])):Ex×Dt)) y).1 ((fun y:By×Cur=>(((.exit 0:Ex),([.s y.1],[some (cB y.2)])):Ex×Dt)) y).2)/\((∀ n,x.1.good n->n<=80000100-6*(x.2.2.2:Int)->y.2.good (n+6*(x.2.2.2:Int)))/\y.1.length<=x.2.1.length+x.2.2.2):=by
  refine HN (ι:=Cur×By×By×Nat->By×Cur) (fun _=>([],Cur.mk [] 0 0)) (Λ:=fun o=>(Aa [(2,spE o)])) (ent:=fun o=>spE o) (fun x:Cur×By×By×Nat=>([.ptr 0 0,.s x.2.1,.s x.2.2.1,.j (x.2.2.2:Int)],[some (cB x.1)])) (fun y:By×Cur=>(((.exit 0:Ex),([.s y.1],[some (cB y.2)])):Ex×Dt)) (fun y=>by simp) _ _ (fun x=>x.2.2.2) (fun o x _=>(FJ o x.1.l x.1.a x.1.s x.2.1 x.2.2.1 (x.2.2.2:Int)).trans (FJ _ x.1.l x.1.a x.1.s x.2.1 x.2.2.1 (x.2.2.2:Int)).symm) ?_
  rintro ⟨c,t,w,n⟩ ⟨h1,h2,h3,h4,h5⟩
  dsimp only at h1 h2 h3 h4 h5 ⊢
  by_cases hn:0<n/\0<t.length
  · right;obtain ⟨n,rfl⟩ : ∃ m,n=m+1:=⟨n-1,by omega⟩
    refine Ex1.of (FJ _ c.l c.a c.s t w ((n+1:Nat):Int)) ?_;have hpt:=Cur.pickV_range (c:=c) (k:=(t.length:Int)) h5 (by omega);have w1:i64.wrap (((n+1:Nat):Int)-1)=(n:Int):=by rw [An (by omega) (by omega)]; omega
    have w2:i64.wrap (c.pickV (t.length:Int)+1)=c.pickV (t.length:Int)+1:=An (by omega) (by omega);have pw:=NR (W:=w) (c:=c.pickC (t.length:Int)) (n:=80000200) (Cur.pk (Cur.good_mono h5 (by omega))) h2;have pw0:=(Cur.pickV_range (c:=c.pickC (t.length:Int)) (n:=80000200) (k:=(w.length:Int)) (Cur.pk (Cur.good_mono h5 (by omega))) (by omega)).1
    repeat with_reducible refine Ex1.sh ?_
    rw [Ag (dcT (by omega)),Ag (dcT (by omega))];simp only [B3,show Cur.mk c.l c.a c.s=c from rfl,w1,w2]
    have fin : ∀ (c':Cur) (t':By),(∀ m,c.good m->c'.good (m+6))->t'.length<=t.length+1->
        ((n<=2/\1<=w.length/\w.length<=100/\t'.length<=100000-n/\c'.good (80000100-6*(n:Int)))/\n<n+1/\∀ y:By×Cur,((∀ m,c'.good m->m<=80000100-6*(n:Int)->y.2.good (m+6*(n:Int)))/\y.1.length<=t'.length+n)->((∀ m,c.good m->m<=80000100-6*((n+1:Nat):Int)->y.2.good (m+6*((n+1:Nat):Int)))/\y.1.length<=t.length+(n+1))):=fun c' t' k1 k2=>by
      refine ⟨⟨by omega,h2,h3,by omega,Cur.good_mono (k1 _ h5) (by push_cast; omega)⟩,by omega,fun y hy=>⟨fun m hm hl=>?_,by have:=hy.2; omega⟩⟩;exact Cur.good_mono (hy.1 (m+6) (k1 m hm) (by push_cast at hl; omega)) (by push_cast; omega)
    repeat' first
      | with_reducible refine Ex1.B (fun h=>?_) (fun h=>?_)
      | with_reducible refine Ex1.T ?_ ?_
      | with_reducible refine Ex1.S (Ue pw) fun z hz=>?_
    all_goals try simp only [B3]
    all_goals first
      | (refine dcT ?_; (repeat with_reducible apply Cur.pk); exact Cur.good_mono h5 (by omega))
      | exact dcT pw0
      | (simp only [anE,dcE]; omega)
      | (simp only [dcE,length_append,List.length_take,length_drop,length_map,List.length_cons,List.length_nil,AG]; omega)
      | (refine Ex1.lc (_,w,n) rfl rfl rfl (fin _ _ (fun m hm=>?_) ?_)
         · (repeat with_reducible apply Cur.pk); exact Cur.good_mono hm (by omega)
         · simp only [length_append,List.length_take,length_drop,length_map,List.length_cons,List.length_nil,AG]; omega)
  · left;refine Ex1.of (FJ _ c.l c.a c.s t w (n:Int)) ?_
    repeat with_reducible refine Ex1.sh ?_
    have e : ∀ a b:Option (Ex×Dt),ifB (decide ((n:Int)>0)) (ifB (decide ((t.length:Int)>0)) a b) b=b:=fun a b=>by
      by_cases q:0<n
      · rw [Ag (dcT (by omega)),Ad (dcF (by omega))]
      · rw [Ad (dcF (by omega))]
    rw [e];exact Ex1.L (t,c) rfl ⟨fun m hm hl=>Cur.good_mono hm (by omega),by dsimp only; omega⟩
noncomputable def IB:Cur×By×By×Nat->By×Cur:=(CO (Y:=By×Cur) ([],Cur.mk [] 0 0) ND).choose
theorem TY : ∀ x:Cur×By×By×Nat,(x.2.2.2<=2/\1<=x.2.2.1.length/\x.2.2.1.length<=100/\x.2.1.length<=100000-x.2.2.2/\x.1.good (80000100-6*(x.2.2.2:Int)))->(∀ o,Runs prog (Aa [(90,.own AV)]) (Aa [(2,spE o)]) 1 (body f94 0) (spE o) ((fun x:Cur×By×By×Nat=>([.ptr 0 0,.s x.2.1,.s x.2.2.1,.j (x.2.2.2:Int)],[some (cB x.1)])) x) ((fun y:By×Cur=>(((.exit 0:Ex),([.s y.1],[some (cB y.2)])):Ex×Dt)) (IB x)).1 ((fun y:By×Cur=>(((.exit 0:Ex),([.s y.1],[some (cB y.2)])):Ex×Dt)) (IB x)).2)/\((∀ n,x.1.good n->n<=80000100-6*(x.2.2.2:Int)->(IB x).2.good (n+6*(x.2.2.2:Int)))/\(IB x).1.length<=x.2.1.length+x.2.2.2):=(CO (Y:=By×Cur) ([],Cur.mk [] 0 0) ND).choose_spec
theorem VE:Ar prog (Aa [(90,.own AV)]) (Aa [(2,spE IB)]) 1 (f94.body.getD .skip):=by
 refine Ap (a:=body f94 0) (by kernel_rfl) fun d ex d' h=>?_
 unfold spE at h;dsimp only at h;split at h
 ·rename_i t w n l a s;obtain ⟨hc,hx⟩:=Ac h;obtain ⟨k1,k2,k3,k4,k5,k6⟩:=of_decide_eq_true hc;obtain ⟨n,rfl⟩:=eq_ofNat_of_zero_le k1;simp only [ntN] at k5 hx;obtain ⟨rfl,rfl⟩:=lfP hx;exact (TY ((Cur.mk l a s),t,w,n) ⟨by dsimp only; omega,k3,k4,k5,k6⟩).1 IB
 ·cases h
theorem RH (o:Cur×By×By×Nat->By×Cur) (t w:By) (l:List Int) (a s:Int):Ba prog (Aa [(90,.own AV)]) (Aa [(2,spE o)]) f94 [.ptr 0 0,.s t,.s w] [.box [.sl (.int .u8) l,.j a,.i .u64 s]] =
 ((shr ((Cur.mk l a s).pickC (3:Int)) fun sh2=>shr (o (sh2,t,w,((Cur.mk l a s).pickV (3:Int)).toNat)) fun sh1=>ifT (decide ((Cur.mk l a s).good (900000000:Int)))
 (ifT (decide ((0:Int)<=(Cur.mk l a s).pickV (3:Int)/\(Cur.mk l a s).pickV (3:Int)<=(2:Int)/\1<=w.length/\w.length<=100/\t.length<=(100000
 : Nat)-((Cur.mk l a s).pickV (3:Int)).toNat/\sh2.good ((80000100:Int)-(6:Int)*(Cur.mk l a s).pickV (3:Int)))) (some (V.s sh1.1,[some (Blk.box [V.sl
 (Cd.int .u8) sh1.2.l,V.j sh1.2.a,V.i .u64 sh1.2.s])])))):_):=by kernel_rfl
theorem Vs (t w:By) (l:List Int) (a s:Int) (hc:1<=w.length/\w.length<=100/\t.length<=90000/\(Cur.mk l a s).good 80000000):Ex1 (Ba prog (Aa [(90,.own AV)]) (Aa [(2,spE IB)]) f94 [.ptr 0 0,.s t,.s w] [.box [.sl (.int .u8) l,.j a,.i .u64 s]]) (fun y:(By)×Cur=>((.s y.1,[some (cB y.2)]):V×List (Option Blk))) (fun y=>(∀ n,(Cur.mk l a s).good n->n<=80000000->y.2.good (n+20))/\y.1.length<=t.length+2):=by
 refine Ex1.of (RH IB t w l a s) ?_;obtain ⟨h1,h2,h3,h4⟩:=hc;have r3:=Cur.pickV_range (k:=3) h4 (by omega);obtain ⟨n,hn⟩:=eq_ofNat_of_zero_le r3.1
 repeat with_reducible refine Ex1.sh ?_
 simp only [B3];rw [hn] at r3 ⊢;have g1:(Cur.pickC (Cur.mk l a s) 3).good (80000100-6*(n:Int)):=Cur.pk (Cur.good_mono h4 (by omega));have q:=(TY ((Cur.mk l a s).pickC 3,t,w,n) ⟨by dsimp only; omega,h1,h2,by dsimp only; omega,g1⟩).2;refine Ex1.T (dcT (Cur.good_mono h4 (by omega))) (Ex1.T (dcT ⟨by omega,by omega,h1,h2,by omega,g1⟩) ?_);refine Ex1.c (IB ((Cur.mk l a s).pickC 3,t,w,n)).1 rfl rfl ⟨fun m hm hl=>?_,by have:=q.2; dsimp only at this ⊢; omega⟩;exact Cur.good_mono (q.1 (m+2) (Cur.pickC_good hm) (by dsimp only; omega)) (by dsimp only; omega)
theorem Kx : ∃ f:(By)->(By)->Cur->(By)×Cur,Ab prog 94 (Ent.own (Pv f)).F/\∀ (t w:By) (c:Cur),(1<=w.length/\w.length<=100/\t.length<=90000/\c.good 80000000)->(∀ n,c.good n->n<=80000000->(f t w c).2.good (n+20))/\(f t w c).1.length<=t.length+2:=by
 have ex:=fun (t w:By) (c:Cur) (hc:1<=w.length/\w.length<=100/\t.length<=90000/\c.good 80000000)=>Vs t w c.l c.a c.s hc
 classical
 refine ⟨fun t w c=>if h:1<=w.length/\w.length<=100/\t.length<=90000/\c.good 80000000 then (ex t w c h).choose else ([],c),?_,fun t w c hc=>?_⟩
 rotate_left
 ·simp only [dif_pos hc];exact (ex t w c hc).choose_spec.2
 refine fcC (kc func90 Fm KnowsL.nil).knows (Λ:=(Aa [(2,spE IB)])) func94 fun vs bs r hq=>?_
 unfold Ent.F Pv at hq;dsimp only at hq;split at hq
 ·rename_i t w l a s;obtain ⟨hc,hx⟩:=Ac hq;have hc:=of_decide_eq_true hc;refine ⟨VE,((ex t w (Cur.mk l a s) hc).choose_spec.1).trans ?_⟩;rw [dif_pos hc] at hx;exact hx
 ·cases hq
noncomputable def Gi:(By)->(By)->Cur->(By)×Cur:=Kx.choose
theorem Tz:Ab prog 94 (Ent.own (Pv Gi)).F:=Kx.choose_spec.1
theorem Vr : ∀ (t w:By) (c:Cur),(1<=w.length/\w.length<=100/\t.length<=90000/\c.good 80000000)->(∀ n,c.good n->n<=80000000->(Gi t w c).2.good (n+20))/\(Gi t w c).1.length<=t.length+2:=Kx.choose_spec.2
def drT (n:Nat) (z:Rose Lab):Prop:=A5 z<=n/\B8 z=true
def GA (d m:Int) (f:Cur->Rose Lab×Cur):Gm
 | [.ptr 0 0,.j x],[.box [.sl (.int .u8) l,.j a,.i .u64 s]]=>.need (decide (x=d/\0<=d/\(Cur.mk l a s).good m)) (.leaf (.agg [.j (f (Cur.mk l a s)).1.lab.1,.s (f (Cur.mk l a s)).1.lab.2.1,.j (f (Cur.mk l a s)).1.lab.2.2.1,.b (f (Cur.mk l a s)).1.lab.2.2.2.1,.j (f (Cur.mk l a s)).1.lab.2.2.2.2.1,.ref 1 0 (f (Cur.mk l a s)).1.kids.length],[some (cB (f (Cur.mk l a s)).2),R0 (.rose LCd) (f (Cur.mk l a s)).1.kids]))
 | _,_=>.no
def Gj (d m:Int) (f:Cur->Rose Lab×Cur):Gm
 | [.ptr 0 0,.j x],[.box [.sl (.int .u8) l,.j a,.i .u64 s]]=>.need (decide (x=d/\0<=d/\(Cur.mk l a s).good m)) (.leaf (.agg [.j (f (Cur.mk l a s)).1.lab.1,.s (f (Cur.mk l a s)).1.lab.2.1,.j (f (Cur.mk l a s)).1.lab.2.2.1,.b (f (Cur.mk l a s)).1.lab.2.2.2.1,.j (f (Cur.mk l a s)).1.lab.2.2.2.2.1,.ref 1 0 (f (Cur.mk l a s)).1.kids.length],[some (cB (f (Cur.mk l a s)).2),R0 (.rose LCd) (f (Cur.mk l a s)).1.kids]))
 | _,_=>.no
def Fl (e m q:Int) (o:Cur×RL×Nat×List (By)->RL×Cur):LoopEnt:=⟨39,[0,1,4,5,10,11,12],[4,5],[],fun
 | ([.ptr 0 0,.j d,.ptr 1 0,.ptr 2 0,.ref 3 0 5,.j k,.j i],[some (.box [.sl (.int .u8) l,.j a,.i .u64 s]),some (.box [.j 0,.s [],.j 0,.b false,.j 0,.ref 4 0 0]),some (.box [.j 5,.s [],.j 0,.b false,.j 0,.ref 5 0 n]),R0 .str nm,R0 (.rose LCd) [],R0 (.rose LCd) ks])=>.need (decide (d=e/\k=5/\0<=i/\i<=5/\n=ks.length/\ks.length<=i.toNat/\nm.length=5/\(Cur.mk l a s).good (m+i*q))&&nm.all (fun x=>decide (x.length<=10))) (.leaf (.exit 0,([.ptr 1 0,.ptr 2 0],[some (cB (o (Cur.mk l a s,ks,i.toNat,nm)).2),some (.box [.j 0,.s [],.j 0,.b false,.j 0,.ref 3 0 0]),some (.box [.j 5,.s [],.j 0,.b false,.j 0,.ref 4 0 (o (Cur.mk l a s,ks,i.toNat,nm)).1.length]),R0 (.rose LCd) [],R0 (.rose LCd) (o (Cur.mk l a s,ks,i.toNat,nm)).1])))
 | _=>.no⟩
theorem Eh (d m m' q:Int) (f:Cur->Rose Lab×Cur) (o:Cur×RL×Nat×List (By)->RL×Cur) (k i:Int) (l:List Int) (a s:Int) (n:Nat) (nm:List (By)) (ks:RL):As prog (Aa [(67,.own DF),(155,.own (GA d m' f))]) (Aa [(3,Fl d m q o)]) 1 (body f111 0) (Fl d m q o) ([.ptr 0 0,.j d,.ptr 1 0,.ptr 2 0,.ref 3 0 5,.j k,.j i],[some (.box [.sl (.int .u8) l,.j a,.i .u64 s]),some (.box [.j 0,.s [],.j 0,.b false,.j 0,.ref 4 0 0]),some (.box [.j 5,.s [],.j 0,.b false,.j 0,.ref 5 0 n]),R0 .str nm,R0 (.rose LCd) [],R0 (.rose LCd) ks]) =
 ((ifB (decide (i<k)) (ifT (decide (0<=i)&&decide (i<(↑(5:Nat):Int))) (Al nm[0+i.toNat]? fun z=>ifT (decide ((Cur.mk l a s).good (900000000 :
 Int))) (ifB (!(Cur.mk l a s).pickV (2:Int)==(0:Int)) (some (Ex.normal,[V.ptr 0 0,V.j d,V.ptr 1 0,V.ptr 2 0,V.ref 3 0 5,V.j k,V.i .i64
 (i64.wrap (i+1))],[some (Blk.box [V.sl (Cd.int .u8) ((Cur.mk l a s).pickC (2:Int)).l,V.j ((Cur.mk l a s).pickC (2:Int)).a,V.i .u64 ((Cur.mk l a
 s).pickC (2:Int)).s]),some (Blk.box [V.j 0,V.s (Ai UInt8),V.j 0,V.b false,V.j 0,V.ref 4 0 0]),some (Blk.box [V.j 5,V.s (Ai UInt8),V.i
 .i64 0,V.b false,V.j 0,V.ref 5 0 n]),R0 Cd.str nm,R0 LCd.rose (Ai LCd.rose.den),R0 LCd.rose ks])) (ifT (decide (d=d/\0<=d/\((Cur.mk l a s).pickC (2:Int)).good m')) (ifT (decide ((f ((Cur.mk l a s).pickC (2:Int))).2.good (900000000:Int)))
 (ifT (decide ((n+1)*72<=140737488355328)&&decide (n+1<=maxI)) (some (Ex.normal,[V.ptr 0 0,V.j d,V.ptr 1 0,V.ptr 2 0,
 V.ref 3 0 5,V.j k,V.j (i64.wrap (i+1))],[some (Blk.box [V.sl (Cd.int .u8) ((f ((Cur.mk l a s).pickC (2:Int))).2.pickC (3:Int)).l,V.i .i64
 ((f ((Cur.mk l a s).pickC (2:Int))).2.pickC (3:Int)).a,V.i .u64 ((f ((Cur.mk l a s).pickC (2:Int))).2.pickC (3:Int)).s]),some (Blk.box [V.j 0,V.s
 (Ai UInt8),V.j 0,V.b false,V.j 0,V.ref 4 0 0]),some (Blk.box [V.j 5,V.s (Ai UInt8),V.j 0,V.b false,V.j 0,V.ref 5 0 (n+(1 :
 Nat))]),R0 Cd.str nm,R0 LCd.rose (Ai LCd.rose.den),R0 LCd.rose (take n (drop 0
 ks)++Rose.node ((f ((Cur.mk l a s).pickC (2:Int))).1.lab.1,z,i64.wrap (i+1),(f ((Cur.mk l a s).pickC (2:Int))).2.pickV (3:Int)==(0:Int),(f
 ((Cur.mk l a s).pickC (2:Int))).1.lab.2.2.2.2.1,()) (take (f ((Cur.mk l a s).pickC (2:Int))).1.kids.length (drop 0 (f ((Cur.mk l a
 s).pickC (2:Int))).1.kids))::Ai LCd.rose.den)])))))))) (some (Ex.exit 0,[V.ptr 1 0,V.ptr 2 0],[some (Blk.box [V.sl (Cd.int .u8) l,V.j a,V.i .u64 s]),
 some (Blk.box [V.j 0,V.s (Ai UInt8),V.j 0,V.b false,V.j 0,V.ref 3 0 0]),some (Blk.box [V.j 5,V.s (Ai UInt8),V.j 0,V.b false,V.i
 .i64 0,V.ref 4 0 n]),R0 LCd.rose (Ai LCd.rose.den),R0 LCd.rose ks]))):_):=by kernel_rfl
theorem RG (d m:Int) (f:Cur->Rose Lab×Cur) (g:Cur->Rose Lab×Cur) (l:List Int) (a s:Int):Ba prog (Aa [(90,.own AV),(155,.own (GA (d-1) m f)),(111,.own (Gj (d-1) m g))]) (Aa []) f155 [.ptr 0 0,.j d] [.box [.sl (.int .u8) l,.j a,.i .u64 s]] =
 ((ifT (decide ((Cur.mk l a s).good (900000000:Int))) (ifB ((Cur.mk l a s).pickV (6:Int)==(0:Int)) (ifB ((Cur.mk l a s).pickV (6:Int)==(0:Int)) (some (V.agg
 [V.j 1,V.s (Ai UInt8),V.j 0,V.b false,V.j 0,V.ref 1 0 0],[some (Blk.box [V.sl (Cd.int .u8) ((Cur.mk l a s).pickC (6:Int)).l,V.j ((Cur.mk l
 a s).pickC (6:Int)).a,V.i .u64 ((Cur.mk l a s).pickC (6:Int)).s]),R0 LCd.rose (Ai LCd.rose.den)])) (ifB ((Cur.mk l a s).pickV (6:Int)==
 (2:Int)) (some (V.agg [V.j 2,V.s (Ai UInt8),V.j 0,V.b false,V.j 0,V.ref 1 0 0],[some (Blk.box [V.sl (Cd.int .u8) ((Cur.mk l a s).pickC (6 :
 Int)).l,V.j ((Cur.mk l a s).pickC (6:Int)).a,V.i .u64 ((Cur.mk l a s).pickC (6:Int)).s]),R0 LCd.rose (Ai LCd.rose.den)])) (ifB
 ((Cur.mk l a s).pickV (6:Int)==(3:Int)) (ifT (decide (((Cur.mk l a s).pickC (6:Int)).good (900000000:Int))) (some (V.agg [V.j 3,V.s (Ai UInt8),V.i .i64
 0,V.b false,V.j (((Cur.mk l a s).pickC (6:Int)).pickV (5:Int)),V.ref 1 0 0],[some (Blk.box [V.sl (Cd.int .u8) (((Cur.mk l a s).pickC (6:Int)).pickC (5 :
 Int)).l,V.j (((Cur.mk l a s).pickC (6:Int)).pickC (5:Int)).a,V.i .u64 (((Cur.mk l a s).pickC (6:Int)).pickC (5:Int)).s]),R0 LCd.rose
 (Ai LCd.rose.den)]))) (ifB ((Cur.mk l a s).pickV (6:Int)==(4:Int)) (ifB (decide (d>0)) (ifT (decide (i64.wrap (d-1)=d-1/\0<=d-1/\((Cur.mk l
 a s).pickC (6:Int)).good m)) (some (V.agg [V.j 4,V.s (Ai UInt8),V.j 0,V.b false,V.j 0,V.ref 1 0 1],[some (Blk.box [V.sl (Cd.int .u8) (f ((Cur.mk
 l a s).pickC (6:Int))).2.l,V.j (f ((Cur.mk l a s).pickC (6:Int))).2.a,V.i .u64 (f ((Cur.mk l a s).pickC (6:Int))).2.s]),R0 LCd.rose (Rose.node ((f ((Cur.mk l a s).pickC (6:Int))).1.lab.1,(f ((Cur.mk l a s).pickC (6:Int))).1.lab.2.1,(f ((Cur.mk l a s).pickC (6 :
 Int))).1.lab.2.2.1,(f ((Cur.mk l a s).pickC (6:Int))).1.lab.2.2.2.1,(f ((Cur.mk l a s).pickC (6:Int))).1.lab.2.2.2.2.1,()) (take
 (f ((Cur.mk l a s).pickC (6:Int))).1.kids.length (drop 0 (f ((Cur.mk l a s).pickC (6:Int))).1.kids))::Ai LCd.rose.den)]))) (some (V.agg [V.i
 .i64 1,V.s (Ai UInt8),V.j 0,V.b false,V.j 0,V.ref 1 0 0],[some (Blk.box [V.sl (Cd.int .u8) ((Cur.mk l a s).pickC (6:Int)).l,V.j ((Cur.mk l a
 s).pickC (6:Int)).a,V.i .u64 ((Cur.mk l a s).pickC (6:Int)).s]),R0 LCd.rose (Ai LCd.rose.den)]))) (ifB (decide (d>0)) (ifT (decide
 (i64.wrap (d-1)=d-1/\0<=d-1/\((Cur.mk l a s).pickC (6:Int)).good m)) (some (V.agg [V.j (g ((Cur.mk l a s).pickC (6:Int))).1.lab.1,V.s (g
 ((Cur.mk l a s).pickC (6:Int))).1.lab.2.1,V.j (g ((Cur.mk l a s).pickC (6:Int))).1.lab.2.2.1,V.b (g ((Cur.mk l a s).pickC (6 :
 Int))).1.lab.2.2.2.1,V.j (g ((Cur.mk l a s).pickC (6:Int))).1.lab.2.2.2.2.1,V.ref 1 0 (g ((Cur.mk l a s).pickC (6 :
 Int))).1.kids.length],[some (Blk.box [V.sl (Cd.int .u8) (g ((Cur.mk l a s).pickC (6:Int))).2.l,V.j (g ((Cur.mk l a s).pickC (6:Int))).2.a,V.i .u64 (g
 ((Cur.mk l a s).pickC (6:Int))).2.s]),R0 LCd.rose (g ((Cur.mk l a s).pickC (6:Int))).1.kids]))) (some (V.agg [V.j 1,V.s (Ai
 UInt8),V.j 0,V.b false,V.j 0,V.ref 1 0 0],[some (Blk.box [V.sl (Cd.int .u8) ((Cur.mk l a s).pickC (6:Int)).l,V.j ((Cur.mk l a s).pickC (6 :
 Int)).a,V.i .u64 ((Cur.mk l a s).pickC (6:Int)).s]),R0 LCd.rose (Ai LCd.rose.den)]))))))) (ifB ((Cur.mk l a s).pickV (6:Int)==(1:Int))
 (some (V.agg [V.j 1,V.s (Ai UInt8),V.j 0,V.b false,V.j 0,V.ref 1 0 0],[some (Blk.box [V.sl (Cd.int .u8) ((Cur.mk l a s).pickC (6:Int)).l,V.i
 .i64 ((Cur.mk l a s).pickC (6:Int)).a,V.i .u64 ((Cur.mk l a s).pickC (6:Int)).s]),R0 LCd.rose (Ai LCd.rose.den)])) (ifB ((Cur.mk l a
 s).pickV (6:Int)==(2:Int)) (some (V.agg [V.j 2,V.s (Ai UInt8),V.j 0,V.b false,V.j 0,V.ref 1 0 0],[some (Blk.box [V.sl (Cd.int .u8) ((Cur.mk l
 a s).pickC (6:Int)).l,V.j ((Cur.mk l a s).pickC (6:Int)).a,V.i .u64 ((Cur.mk l a s).pickC (6:Int)).s]),R0 LCd.rose (Ai
 LCd.rose.den)])) (ifB ((Cur.mk l a s).pickV (6:Int)==(3:Int)) (ifT (decide (((Cur.mk l a s).pickC (6:Int)).good (900000000:Int))) (some (V.agg [V.j 3,V.s
 (Ai UInt8),V.j 0,V.b false,V.j (((Cur.mk l a s).pickC (6:Int)).pickV (5:Int)),V.ref 1 0 0],[some (Blk.box [V.sl (Cd.int .u8) (((Cur.mk l a s).pickC
 (6:Int)).pickC (5:Int)).l,V.j (((Cur.mk l a s).pickC (6:Int)).pickC (5:Int)).a,V.i .u64 (((Cur.mk l a s).pickC (6:Int)).pickC (5:Int)).s]),R0 LCd.rose (Ai LCd.rose.den)]))) (ifB ((Cur.mk l a s).pickV (6:Int)==(4:Int)) (ifB (decide (d>0)) (ifT (decide (i64.wrap (d-1)=d
 - 1/\0<=d-1/\((Cur.mk l a s).pickC (6:Int)).good m)) (some (V.agg [V.j 4,V.s (Ai UInt8),V.j 0,V.b false,V.j 0,V.ref 1 0 1],[some (Blk.box
 [V.sl (Cd.int .u8) (f ((Cur.mk l a s).pickC (6:Int))).2.l,V.j (f ((Cur.mk l a s).pickC (6:Int))).2.a,V.i .u64 (f ((Cur.mk l a s).pickC (6:Int))).2.s]),
 R0 LCd.rose (Rose.node ((f ((Cur.mk l a s).pickC (6:Int))).1.lab.1,(f ((Cur.mk l a s).pickC (6:Int))).1.lab.2.1,(f ((Cur.mk l a
 s).pickC (6:Int))).1.lab.2.2.1,(f ((Cur.mk l a s).pickC (6:Int))).1.lab.2.2.2.1,(f ((Cur.mk l a s).pickC (6:Int))).1.lab.2.2.2.2.1,
 ()) (take (f ((Cur.mk l a s).pickC (6:Int))).1.kids.length (drop 0 (f ((Cur.mk l a s).pickC (6:Int))).1.kids))::Ai LCd.rose.den)]))) (some
 (V.agg [V.j 1,V.s (Ai UInt8),V.j 0,V.b false,V.j 0,V.ref 1 0 0],[some (Blk.box [V.sl (Cd.int .u8) ((Cur.mk l a s).pickC (6:Int)).l,V.i .i64
 ((Cur.mk l a s).pickC (6:Int)).a,V.i .u64 ((Cur.mk l a s).pickC (6:Int)).s]),R0 LCd.rose (Ai LCd.rose.den)]))) (ifB (decide (d>0)) (ifT
 (decide (i64.wrap (d-1)=d-1/\0<=d-1/\((Cur.mk l a s).pickC (6:Int)).good m)) (some (V.agg [V.j (g ((Cur.mk l a s).pickC (6:Int))).1.lab.1,
 V.s (g ((Cur.mk l a s).pickC (6:Int))).1.lab.2.1,V.j (g ((Cur.mk l a s).pickC (6:Int))).1.lab.2.2.1,V.b (g ((Cur.mk l a s).pickC (6 :
 Int))).1.lab.2.2.2.1,V.j (g ((Cur.mk l a s).pickC (6:Int))).1.lab.2.2.2.2.1,V.ref 1 0 (g ((Cur.mk l a s).pickC (6 :
 Int))).1.kids.length],[some (Blk.box [V.sl (Cd.int .u8) (g ((Cur.mk l a s).pickC (6:Int))).2.l,V.j (g ((Cur.mk l a s).pickC (6:Int))).2.a,V.i .u64 (g
 ((Cur.mk l a s).pickC (6:Int))).2.s]),R0 LCd.rose (g ((Cur.mk l a s).pickC (6:Int))).1.kids]))) (some (V.agg [V.j 1,V.s (Ai
 UInt8),V.j 0,V.b false,V.j 0,V.ref 1 0 0],[some (Blk.box [V.sl (Cd.int .u8) ((Cur.mk l a s).pickC (6:Int)).l,V.j ((Cur.mk l a s).pickC (6 :
 Int)).a,V.i .u64 ((Cur.mk l a s).pickC (6:Int)).s]),R0 LCd.rose (Ai LCd.rose.den)]))))))))):_):=by kernel_rfl
theorem Pz (d m m' q:Int) (f:Cur->Rose Lab×Cur) (o:Cur×RL×Nat×List (By)->RL×Cur) (l:List Int) (a s:Int):Ba prog (Aa [(67,.own DF),(155,.own (GA d m' f))]) (Aa [(3,Fl d m q o)]) f111 [.ptr 0 0,.j d] [.box [.sl (.int .u8) l,.j a,.i .u64 s]] =
 ((ifT (decide (d=d/\(↑(5:Nat):Int)=(5:Int)/\(0:Int)<=(0:Int)/\(0:Int)<=(5:Int)/\0=0/\0<=0/\5=5
 /\ (Cur.mk l a s).good (m+0*q))&&([(97:UInt8)]::[(98:UInt8)]::[(110:UInt8),(97:UInt8),(109:UInt8),(101:UInt8)]::[(108:UInt8),(105:UInt8),
 (115:UInt8),(116:UInt8)]::[(107:UInt8),(105:UInt8),(110:UInt8),(100:UInt8)]::Ai Cd.str.den).all fun x=>decide (List.length x<=10)) (some
 (V.agg [V.j 5,V.s (Ai UInt8),V.j 0,V.b false,V.j 0,V.ref 1 0 (o (Cur.mk l a s,Ai LCd.rose.den,0,[(97:UInt8)]::[(98:UInt8)]::
 [(110:UInt8),(97:UInt8),(109:UInt8),(101:UInt8)]::[(108:UInt8),(105:UInt8),(115:UInt8),(116:UInt8)]::[(107:UInt8),(105:UInt8),(110 :
 UInt8),(100:UInt8)]::Ai Cd.str.den)).1.length],[some (Blk.box [V.sl (Cd.int .u8) (o (Cur.mk l a s,Ai LCd.rose.den,0,[(97:UInt8)]::[(98 :
 UInt8)]::[(110:UInt8),(97:UInt8),(109:UInt8),(101:UInt8)]::[(108:UInt8),(105:UInt8),(115:UInt8),(116:UInt8)]::[(107:UInt8),(105:UInt8),
 (110:UInt8),(100:UInt8)]::Ai Cd.str.den)).2.l,V.j (o (Cur.mk l a s,Ai LCd.rose.den,0,[(97:UInt8)]::[(98:UInt8)]::[(110:UInt8),(97
 : UInt8),(109:UInt8),(101:UInt8)]::[(108:UInt8),(105:UInt8),(115:UInt8),(116:UInt8)]::[(107:UInt8),(105:UInt8),(110:UInt8),(100:UInt8)]::
 Ai Cd.str.den)).2.a,V.i .u64 (o (Cur.mk l a s,Ai LCd.rose.den,0,[(97:UInt8)]::[(98:UInt8)]::[(110:UInt8),(97:UInt8),(109:UInt8),(101 :
 UInt8)]::[(108:UInt8),(105:UInt8),(115:UInt8),(116:UInt8)]::[(107:UInt8),(105:UInt8),(110:UInt8),(100:UInt8)]::Ai Cd.str.den)).2.s]),R0 LCd.rose (o (Cur.mk l a s,Ai LCd.rose.den,0,[(97:UInt8)]::[(98:UInt8)]::[(110:UInt8),(97:UInt8),(109:UInt8),(101 :
 UInt8)]::[(108:UInt8),(105:UInt8),(115:UInt8),(116:UInt8)]::[(107:UInt8),(105:UInt8),(110:UInt8),(100:UInt8)]::Ai Cd.str.den)).1]))):_):=by kernel_rfl
theorem Mk : ∀ (ks:RL) (z:Rose Lab),Ay (ks++[z])=Ay ks+A5 z
 | [],z=>by rw [List.nil_append,Ay,Ay,Ay]; omega
 | y::ks,z=>by rw [List.cons_append,Ay,Mk ks z,Ay]; omega
theorem RN (x:Lab) (h:x.2.1.length<=10) (n:Nat):drT (n+1) (.node x []):=by
 have hM:=mxI;exact ⟨by rw [A5,Ay]; omega,by rw [B8,Di,dcT (by omega)]; rfl⟩
theorem T6 {n:Nat} {z:Rose Lab} (h:drT n z):drT (n+1) (.node (4,[],0,false,0,()) [z]):=by
 obtain ⟨h1,h2⟩:=h;exact ⟨by rw [A5,Ay,Ay]; omega,by rw [B8,Di,Di,h2]; rfl⟩
theorem Ip {n m:Nat} {z:Rose Lab} (h:drT n z) (hm:n<=m):drT m z:=⟨le_trans h.1 hm,h.2⟩
theorem Ou {n:Nat} {z:Rose Lab} (h:drT n z):drT n (.node (z.lab.1,z.lab.2.1,z.lab.2.2.1,z.lab.2.2.2.1,z.lab.2.2.2.2.1,()) z.kids):=by cases z; exact h
theorem Vv {n:Nat} {z:Rose Lab} (h:drT n z) (x:Lab) (hx:x.2.1.length<=10):drT n (.node x z.kids):=by
 have hM:=mxI;obtain ⟨y,ks⟩:=z;obtain ⟨h1,h2⟩:=h;refine ⟨by rw [A5] at h1 ⊢; exact h1,?_⟩;rw [B8,anE] at h2 ⊢;exact ⟨dcT (by omega),h2.2⟩
theorem Vq (d m m' K:Int) (N:Nat) (h0:m+2<=m') (h1:m'<=800000000) (hK:0<=K) (hd:0<=d/\d<=100) (f g:Cur->Rose Lab×Cur) (pf:0<d->∀ c n,c.good n->n<=m'->(f c).2.good (n+K)/\drT N (f c).1) (pg:0<d->∀ c n,c.good n->n<=m'->(g c).2.good (n+K)/\drT N (g c).1)
    (l:List Int) (a s:Int) (hc:(Cur.mk l a s).good m):Ex1 (Ba prog (Aa [(90,.own AV),(155,.own (GA (d-1) m' f)),(111,.own (Gj (d-1) m' g))]) (Aa []) f155 [.ptr 0 0,.j d] [.box [.sl (.int .u8) l,.j a,.i .u64 s]]) (fun y:Rose Lab×Cur=>((.agg [.j y.1.lab.1,.s y.1.lab.2.1,.j y.1.lab.2.2.1,.b y.1.lab.2.2.2.1,.j y.1.lab.2.2.2.2.1,.ref 1 0 y.1.kids.length],[some (cB y.2),R0 (.rose LCd) y.1.kids]):V×List (Option Blk))) (fun y=>∀ n,(Cur.mk l a s).good n->n<=m->y.2.good (n+(K+4))/\drT (N+1) y.1):=by
  refine Ex1.of (RG d m' f g l a s) ?_;have w1:i64.wrap (d-1)=d-1:=An (by omega) (by omega);have g1:(Cur.mk l a s).good 900000000:=Cur.good_mono hc (by omega);have g2:((Cur.mk l a s).pickC 6).good 900000000:=Cur.pk (Cur.good_mono hc (by omega));have g3:((Cur.mk l a s).pickC 6).good m':=Cur.pk (Cur.good_mono hc (by omega));simp only [w1,WN,AG,drop_zero,take_length]
  repeat' first
    | ((with_reducible refine Ex1.B (fun h=>?_) (fun h=>?_)))
    | with_reducible refine Ex1.T ?_ ?_
  all_goals first
    | exact dcT g1
    | exact dcT g2
    | (refine dcT ⟨trivial,?_,g3⟩; have:=of_decide_eq_true ‹decide (d>0)=true›; omega)
    | (refine dcT ⟨rfl,?_,g3⟩; have:=of_decide_eq_true ‹decide (d>0)=true›; omega)
    | refine Ex1.P (.node (_,_,_,_,_,()) _,_) rfl rfl fun n hn hm=>⟨?_,?_⟩
  all_goals try first
    | exact RN _ (by simp) _
    | exact Cur.good_mono (Cur.pickC_good hn) (by omega)
    | exact Cur.good_mono (Cur.pickC_good (Cur.pickC_good hn)) (by omega)
    | (have hp:=of_decide_eq_true ‹decide (d>0)=true›
       first
       | exact Cur.good_mono (pf hp _ _ (Cur.pickC_good hn) (by omega)).1 (by omega)
       | exact Cur.good_mono (pg hp _ _ (Cur.pickC_good hn) (by omega)).1 (by omega)
       | exact Ip (Ou (pg hp _ _ (Cur.pickC_good hn) (by omega)).2) (by omega)
       | exact T6 (Ou (pf hp _ _ (Cur.pickC_good hn) (by omega)).2))
theorem T7 {ks:RL} {z:Rose Lab} {n m:Nat} (h1:Ay ks<=n) (h2:Di ks=true) (h:drT m z):Ay (ks++[z])<=n+m/\Di (ks++[z])=true:=by
 obtain ⟨h3,h4⟩:=h;exact ⟨by rw [Mk]; omega,HK _ _ h2 h4⟩
theorem P0 (d m m' K:Int) (N:Nat) (h0:m+5*(K+4)<=m') (h1:m'<=800000000) (hK:0<=K) (hd:0<=d) (f:Cur->Rose Lab×Cur) (pf : ∀ c n,c.good n->n<=m'->(f c).2.good (n+K)/\drT N (f c).1) :
  ∀ x:Cur×RL×Nat×List (By),(x.1.good (m+(x.2.2.1:Int)*(K+4))/\x.2.2.1<=5/\x.2.1.length<=x.2.2.1/\x.2.2.2.length=5/\∀ z∈x.2.2.2,z.length<=10)->
   ∃ y:RL×Cur,(∀ o,Runs prog (Aa [(67,.own DF),(155,.own (GA d m' f))]) (Aa [(3,Fl d m (K+4) o)]) 1 (body f111 0) (Fl d m (K+4) o) ((fun x:Cur×RL×Nat×List (By)=>([.ptr 0 0,.j d,.ptr 1 0,.ptr 2 0,.ref 3 0 5,.j 5,.j (x.2.2.1:Int)],[some (cB x.1),some (.box [.j 0,.s [],.j 0,.b false,.j 0,.ref 4 0 0]),some (.box [.j 5,.s [],.j 0,.b false,.j 0,.ref 5 0 x.2.1.length]),R0 .str x.2.2.2,R0 (.rose LCd) [],R0 (.rose LCd) x.2.1])) x) ((fun y:RL×Cur=>(((.exit 0:Ex),([.ptr 1 0,.ptr 2 0],[some (cB y.2),some (.box [.j 0,.s [],.j 0,.b false,.j 0,.ref 3 0 0]),some (.box [.j 5,.s [],.j 0,.b false,.j 0,.ref 4 0 y.1.length]),R0 (.rose LCd) [],R0 (.rose LCd) y.1])):Ex×Dt)) y).1 ((fun y:RL×Cur=>(((.exit 0:Ex),([.ptr 1 0,.ptr 2 0],[some (cB y.2),some (.box [.j 0,.s [],.j 0,.b false,.j 0,.ref 3 0 0]),some (.box [.j 5,.s [],.j 0,.b false,.j 0,.ref 4 0 y.1.length]),R0 (.rose LCd) [],R0 (.rose LCd) y.1])):Ex×Dt)) y).2)/\
    ((∀ n,x.1.good n->n<=m+(x.2.2.1:Int)*(K+4)->y.2.good (n+(5-(x.2.2.1:Int))*(K+4)))/\∀ n,Ay x.2.1<=n->Di x.2.1=true->Ay y.1<=n+(5-x.2.2.1)*N/\Di y.1=true):=by
 refine HN (ι:=Cur×RL×Nat×List (By)->RL×Cur) (fun _=>([],Cur.mk [] 0 0)) (Λ:=fun o=>(Aa [(3,Fl d m (K+4) o)])) (ent:=fun o=>Fl d m (K+4) o) (fun x:Cur×RL×Nat×List (By)=>([.ptr 0 0,.j d,.ptr 1 0,.ptr 2 0,.ref 3 0 5,.j 5,.j (x.2.2.1:Int)],[some (cB x.1),some (.box [.j 0,.s [],.j 0,.b false,.j 0,.ref 4 0 0]),some (.box [.j 5,.s [],.j 0,.b false,.j 0,.ref 5 0 x.2.1.length]),R0 .str x.2.2.2,R0 (.rose LCd) [],R0 (.rose LCd) x.2.1])) (fun y:RL×Cur=>(((.exit 0:Ex),([.ptr 1 0,.ptr 2 0],[some (cB y.2),some (.box [.j 0,.s [],.j 0,.b false,.j 0,.ref 3 0 0]),some (.box [.j 5,.s [],.j 0,.b false,.j 0,.ref 4 0 y.1.length]),R0 (.rose LCd) [],R0 (.rose LCd) y.1])):Ex×Dt)) (fun y=>by simp) _ _ (fun x=>5-x.2.2.1) (fun o x _=>(Eh d m m' (K+4) f o 5 (x.2.2.1:Int) x.1.l x.1.a x.1.s x.2.1.length x.2.2.2 x.2.1).trans (Eh d m m' (K+4) f _ 5 (x.2.2.1:Int) x.1.l x.1.a x.1.s x.2.1.length x.2.2.2 x.2.1).symm) ?_
 rintro ⟨c,ks,i,nm⟩ ⟨hc,hi,hk,h5,hnm⟩
 dsimp only at hc hi hk h5 hnm ⊢;have hM:=mxI;have hq:0<=(i:Int)*(K+4):=Int.mul_nonneg (by omega) (by omega);have hq5:(i:Int)*(K+4)<=5*(K+4):=Int.mul_le_mul_of_nonneg_right (by omega) (by omega)
 by_cases h:i<5
 ·right;refine Ex1.of (Eh d m m' (K+4) f _ 5 (i:Int) c.l c.a c.s ks.length nm ks) ?_
  have hq4:(i:Int)*(K+4)+(K+4)<=5*(K+4):=by
   have:((i:Int)+1)*(K+4)<=5*(K+4):=Int.mul_le_mul_of_nonneg_right (by omega) (by omega);rw [Int.add_mul] at this; omega
  have e1:((i:Int)+1)*(K+4)=(i:Int)*(K+4)+(K+4):=by rw [Int.add_mul]; omega
  rw [Ag (dcT (by omega))];simp only [B3,show Cur.mk c.l c.a c.s=c from rfl,Ax (n:=i) (by omega),AG,drop_zero,take_length,ntN,zero_add];have g0:c.good 900000000:=Cur.good_mono hc (by omega);have g1:(c.pickC 2).good m':=Cur.pk (Cur.good_mono hc (by omega));have pf1:=pf _ _ (Cur.pickC_good (k:=2) hc) (by omega);refine Ex1.T (by simp; omega) (Ex1.S ⟨nm[i],gtE (by omega)⟩ fun z hz=>Ex1.T (dcT g0) (Ex1.B (fun _=>?_) (fun _=>Ex1.T (dcT ⟨trivial,hd,g1⟩) (Ex1.T (dcT (Cur.good_mono pf1.1 (by omega))) (Ex1.T (by simp; omega) ?_)))))
  ·refine Ex1.P3 (c.pickC 2,ks,i+1,nm) rfl rfl rfl ⟨⟨?_,by dsimp only; omega,by dsimp only; omega,h5,hnm⟩,by dsimp only; omega,fun y hy=>⟨fun n hn hl=>?_,fun n hn hl=>?_⟩⟩
   ·exact Cur.good_mono (Cur.pickC_good hc) (by dsimp only; push_cast; rw [e1]; omega)
   ·refine Cur.good_mono (hy.1 (n+2) (Cur.pickC_good hn) (by dsimp only; push_cast; rw [e1]; omega)) ?_;dsimp only; push_cast; rw [show (5-((i:Int)+1))*(K+4)=(5-(i:Int))*(K+4)-(K+4) by rw [show (5-((i:Int)+1))=(5-(i:Int))-1 by omega,Int.sub_mul]; omega]; omega
   ·have:=hy.2 n hn hl;refine ⟨le_trans this.1 (Nat.add_le_add_left (Nat.mul_le_mul_right _ (by dsimp only; omega)) _),this.2⟩
  ·have hzl:z.length<=10:=hnm z (List.mem_of_getElem? hz);have dz:=Vv pf1.2 ((f (c.pickC 2)).1.lab.1,z,((i+1:Nat):Int),(f (c.pickC 2)).2.pickV 3==0,(f (c.pickC 2)).1.lab.2.2.2.2.1,()) hzl;refine Ex1.P3 ((f (c.pickC 2)).2.pickC 3,ks++[.node ((f (c.pickC 2)).1.lab.1,z,((i+1:Nat):Int),(f (c.pickC 2)).2.pickV 3==0,(f (c.pickC 2)).1.lab.2.2.2.2.1,()) (f (c.pickC 2)).1.kids],i+1,nm) (by simp) rfl rfl ⟨⟨?_,by dsimp only; omega,by simp; omega,h5,hnm⟩,by dsimp only; omega,fun y hy=>⟨fun n hn hl=>?_,fun n hn hl=>?_⟩⟩
   ·exact Cur.good_mono (Cur.pickC_good pf1.1) (by dsimp only; push_cast; rw [e1]; omega)
   ·refine Cur.good_mono (hy.1 (n+(K+4)) (Cur.good_mono (Cur.pickC_good (pf _ _ (Cur.pickC_good (k:=2) hn) (by omega)).1) (by omega)) (by dsimp only; push_cast; rw [e1]; omega)) ?_;dsimp only; push_cast; rw [show (5-((i:Int)+1))*(K+4)=(5-(i:Int))*(K+4)-(K+4) by rw [show (5-((i:Int)+1))=(5-(i:Int))-1 by omega,Int.sub_mul]; omega]; omega
   ·obtain ⟨q1,q2⟩:=T7 hn hl dz;have:=hy.2 (n+N) q1 q2;refine ⟨le_trans this.1 ?_,this.2⟩;dsimp only;rw [show 5-i=(5-(i+1))+1 by omega,Nat.add_mul]; omega
 ·left;refine Ex1.of (Eh d m m' (K+4) f _ 5 (i:Int) c.l c.a c.s ks.length nm ks) ?_;rw [Ad (dcF (by omega))];refine Ex1.L (ks,c) rfl ⟨fun n hn hl=>Cur.good_mono hn ?_,fun n hn hl=>⟨le_trans hn (Nat.le_add_right _ _),hl⟩⟩;have:(5-(i:Int))=0:=by omega
  rw [this]; omega
theorem Tx (d m m' K:Int) (N:Nat) (h0:m+2<=m') (h1:m'<=800000000) (hK:0<=K) (hd:0<=d/\d<=100) (f g:Cur->Rose Lab×Cur) (hf:Ab prog 155 (Ent.own (GA (d-1) m' f)).F) (hg:Ab prog 111 (Ent.own (Gj (d-1) m' g)).F) (pf:0<d->∀ c n,c.good n->n<=m'->(f c).2.good (n+K)/\drT N (f c).1) (pg:0<d->∀ c n,c.good n->n<=m'->(g c).2.good (n+K)/\drT N (g c).1) :
  ∃ h:Cur->Rose Lab×Cur,Ab prog 155 (Ent.own (GA d m h)).F/\∀ c n,c.good n->n<=m->(h c).2.good (n+(K+4))/\drT (N+1) (h c).1:=by
 obtain ⟨h,hh⟩:=CO (Y:=Rose Lab×Cur) (.node (0,[],0,false,0,()) [],Cur.mk [] 0 0) (fun (c:Cur) (hc:c.good m)=>Vq d m m' K N h0 h1 hK hd f g pf pg c.l c.a c.s hc);refine ⟨h,?_,fun c n hc hn=>(hh c (Cur.good_mono hc hn)).2 n hc hn⟩;refine fcC (kc func90 Fm (kc func155 hf (kc func111 hg KnowsL.nil))).knows (Λ:=Aa []) func155 fun vs bs r hq=>?_
 unfold Ent.F GA at hq;dsimp only at hq;split at hq
 ·rename_i x l a s;obtain ⟨hc,hx⟩:=Ac hq;obtain ⟨rfl,_,hc⟩:=of_decide_eq_true hc;exact ⟨Aj _,(hh (Cur.mk l a s) hc).1.trans hx⟩
 ·cases hq
theorem RP (d m m' K:Int) (N:Nat) (h0:m+5*(K+4)<=m') (h1:m'<=100000000) (hK:0<=K) (hd:0<=d/\d<=100) (f:Cur->Rose Lab×Cur) (hf:Ab prog 155 (Ent.own (GA d m' f)).F) (pf : ∀ c n,c.good n->n<=m'->(f c).2.good (n+K)/\drT N (f c).1) :
  ∃ h:Cur->Rose Lab×Cur,Ab prog 111 (Ent.own (Gj d m h)).F/\∀ c n,c.good n->n<=m->(h c).2.good (n+5*(K+4))/\drT (5*N+1) (h c).1:=by
 obtain ⟨o,ho⟩:=CO (Y:=RL×Cur) ([],Cur.mk [] 0 0) (P0 d m m' K N h0 (by omega) hK hd.1 f pf)
 have ex : ∀ c:Cur,c.good m->Ex1 (Ba prog (Aa [(67,.own DF),(155,.own (GA d m' f))]) (Aa [(3,Fl d m (K+4) o)]) f111 [.ptr 0 0,.j d] [.box [.sl (.int .u8) c.l,.j c.a,.i .u64 c.s]]) (fun y:Rose Lab×Cur=>((.agg [.j y.1.lab.1,.s y.1.lab.2.1,.j y.1.lab.2.2.1,.b y.1.lab.2.2.2.1,.j y.1.lab.2.2.2.2.1,.ref 1 0 y.1.kids.length],[some (cB y.2),R0 (.rose LCd) y.1.kids]):V×List (Option Blk))) (fun y=>∀ n,c.good n->n<=m->y.2.good (n+5*(K+4))/\drT (5*N+1) y.1):=fun c hc=>by
  refine Ex1.of (Pz d m m' (K+4) f o c.l c.a c.s) ?_;have hI:(c.good (m+((0:Nat):Int)*(K+4))/\(0:Nat)<=5/\([]:RL).length<=0/\([[97],[98],[110,97,109,101],[108,105,115,116],[107,105,110,100]]:List (By)).length=5/\∀ z∈([[97],[98],[110,97,109,101],[108,105,115,116],[107,105,110,100]]:List (By)),z.length<=10):=⟨Cur.good_mono hc (by omega),by omega,by simp,rfl,by simp⟩
  have:=(ho (c,[],0,[[97],[98],[110,97,109,101],[108,105,115,116],[107,105,110,100]]) hI).2;refine Ex1.T (by simp only [anE,dcE]; exact ⟨⟨trivial,rfl,by omega,by omega,trivial,by omega,trivial,Cur.good_mono hc (by omega)⟩,by rfl⟩) ?_;refine Ex1.P (.node (5,[],0,false,0,()) (o (c,[],0,[[97],[98],[110,97,109,101],[108,105,115,116],[107,105,110,100]])).1,(o (c,[],0,[[97],[98],[110,97,109,101],[108,105,115,116],[107,105,110,100]])).2) rfl rfl fun n hn hm=>⟨?_,?_⟩
  ·exact Cur.good_mono (this.1 n hn (by dsimp only; omega)) (by dsimp only; omega)
  ·obtain ⟨q1,q2⟩:=this.2 0 (by dsimp only; rw [Ay]; omega) rfl;dsimp only at q1 q2;exact ⟨by dsimp only; rw [A5]; omega,by dsimp only; rw [B8,q2]; rfl⟩
 obtain ⟨h,hh⟩:=CO (Y:=Rose Lab×Cur) (.node (0,[],0,false,0,()) [],Cur.mk [] 0 0) ex;refine ⟨h,?_,fun c n hc hn=>(hh c (Cur.good_mono hc hn)).2 n hc hn⟩;refine fcC (kc func67 TL (kc func155 hf KnowsL.nil)).knows (Λ:=(Aa [(3,Fl d m (K+4) o)])) func111 fun vs bs r hq=>?_
 unfold Ent.F Gj at hq;dsimp only at hq;split at hq
 ·rename_i x l a s;obtain ⟨hc,hx⟩:=Ac hq;obtain ⟨rfl,_,hc⟩:=of_decide_eq_true hc;refine ⟨Ap (a:=body f111 0) (by kernel_rfl) fun d ex d' h=>?_,(hh (Cur.mk l a s) hc).1.trans hx⟩;unfold Fl at h;dsimp only at h;split at h
  ·rename_i d0 k i l a s n nm ks;obtain ⟨hc,hx⟩:=Ac h;rw [anE] at hc;obtain ⟨hc,hall⟩:=hc;obtain ⟨rfl,rfl,q1,q2,rfl,q4,q5,q6⟩:=of_decide_eq_true hc;obtain ⟨i,rfl⟩:=eq_ofNat_of_zero_le q1;simp only [ntN] at q4 hx;obtain ⟨rfl,rfl⟩:=lfP hx;exact (ho (Cur.mk l a s,ks,i,nm) ⟨q6,by dsimp only; omega,q4,q5,fun z hz=>of_decide_eq_true (List.all_eq_true.1 hall z hz)⟩).1 o
  ·cases h
 ·cases hq
def RR (g:Int->Cur->Rose Lab×Cur):Gm
 | [.ptr 0 0,.j x],[.box [.sl (.int .u8) l,.j a,.i .u64 s]]=>.need (decide (0<=x/\x<=3/\(Cur.mk l a s).good 83000000)) (.leaf (.agg [.j (g x (Cur.mk l a s)).1.lab.1,.s (g x (Cur.mk l a s)).1.lab.2.1,.j (g x (Cur.mk l a s)).1.lab.2.2.1,.b (g x (Cur.mk l a s)).1.lab.2.2.2.1,.j (g x (Cur.mk l a s)).1.lab.2.2.2.2.1,.ref 1 0 (g x (Cur.mk l a s)).1.kids.length],[some (cB (g x (Cur.mk l a s)).2),R0 (.rose LCd) (g x (Cur.mk l a s)).1.kids]))
 | _,_=>.no
def TyEx (d m K:Int) (N:Nat):Prop:=∃ f:Cur->Rose Lab×Cur,Ab prog 155 (Ent.own (GA d m f)).F/\(0<=d->∀ c n,c.good n->n<=m->(f c).2.good (n+K)/\drT N (f c).1)
def MsEx (d m K:Int) (N:Nat):Prop:=∃ f:Cur->Rose Lab×Cur,Ab prog 111 (Ent.own (Gj d m f)).F/\(0<=d->∀ c n,c.good n->n<=m->(f c).2.good (n+K)/\drT N (f c).1)
theorem TyEx.weak {d m K m2 K2:Int} {N N2:Nat} (h:TyEx d m K N) (h1:m2<=m) (h2:K<=K2) (h3:N<=N2):TyEx d m2 K2 N2:=by
 obtain ⟨f,hf,pf⟩:=h;refine ⟨f,D3 hf fun vs bs r hq=>?_,fun hd c n hc hn=>?_⟩
 ·unfold Ent.F GA at hq ⊢;dsimp only at hq ⊢;split at hq
  ·rename_i x l a s;obtain ⟨hc,hx⟩:=Ac hq;obtain ⟨q1,q2,q3⟩:=of_decide_eq_true hc;have:decide (x=d/\0<=d/\(Cur.mk l a s).good m)=true:=dcT ⟨q1,q2,Cur.good_mono q3 h1⟩;rw [this];exact hx
  ·cases hq
 ·have:=pf hd c n hc (by omega);exact ⟨Cur.good_mono this.1 (by omega),Ip this.2 h3⟩
theorem TyEx.none (m K:Int) (N:Nat):TyEx (-1) m K N:=by
 refine ⟨fun c=>(.node (0,[],0,false,0,()) [],c),AQ fun vs bs=>?_,fun h=>by omega⟩;unfold Ent.F GA;dsimp only;split
 ·rename_i x l a s;have:decide (x=(-1:Int)/\(0:Int)<=-1/\(Cur.mk l a s).good m)=false:=dcF (by omega);rw [this]; rfl
 ·rfl
theorem MsEx.weak {d m K m2 K2:Int} {N N2:Nat} (h:MsEx d m K N) (h1:m2<=m) (h2:K<=K2) (h3:N<=N2):MsEx d m2 K2 N2:=by
 obtain ⟨f,hf,pf⟩:=h;refine ⟨f,D3 hf fun vs bs r hq=>?_,fun hd c n hc hn=>?_⟩
 ·unfold Ent.F Gj at hq ⊢;dsimp only at hq ⊢;split at hq
  ·rename_i x l a s;obtain ⟨hc,hx⟩:=Ac hq;obtain ⟨q1,q2,q3⟩:=of_decide_eq_true hc;have:decide (x=d/\0<=d/\(Cur.mk l a s).good m)=true:=dcT ⟨q1,q2,Cur.good_mono q3 h1⟩;rw [this];exact hx
  ·cases hq
 ·have:=pf hd c n hc (by omega);exact ⟨Cur.good_mono this.1 (by omega),Ip this.2 h3⟩
theorem MsEx.none (m K:Int) (N:Nat):MsEx (-1) m K N:=by
 refine ⟨fun c=>(.node (0,[],0,false,0,()) [],c),AQ fun vs bs=>?_,fun h=>by omega⟩;unfold Ent.F Gj;dsimp only;split
 ·rename_i x l a s;have:decide (x=(-1:Int)/\(0:Int)<=-1/\(Cur.mk l a s).good m)=false:=dcF (by omega);rw [this]; rfl
 ·rfl
theorem Hh {d d' m m' K:Int} {N:Nat} (h1:TyEx d' m' K N) (h2:MsEx d' m' K N) (hd:d'=d-1) (hd2:0<=d/\d<=100) (h0:m+2<=m') (hm:m'<=800000000) (hK:0<=K):TyEx d m (K+4) (N+1):=by
 subst hd;obtain ⟨f,hf,pf⟩:=h1;obtain ⟨g,hg,pg⟩:=h2;obtain ⟨h,hh,ph⟩:=Tx d m m' K N h0 hm hK hd2 f g hf hg (fun h=>pf (by omega)) (fun h=>pg (by omega));exact ⟨h,hh,fun _=>ph⟩
theorem Hm {d m m' K:Int} {N:Nat} (h1:TyEx d m' K N) (hd2:0<=d/\d<=100) (h0:m+5*(K+4)<=m') (hm:m'<=100000000) (hK:0<=K):MsEx d m (5*(K+4)) (5*N+1):=by
 obtain ⟨f,hf,pf⟩:=h1;obtain ⟨h,hh,ph⟩:=RP d m m' K N h0 hm hK hd2 f hf (pf hd2.1);exact ⟨h,hh,fun _=>ph⟩
theorem Wo:TyEx 0 90000000 4 1:=Hh (m':=90000002) (K:=0) (N:=0) (TyEx.none _ _ _) (MsEx.none _ _ _) (by omega) (by omega) (by omega) (by omega) (by omega)
theorem Ws:MsEx 0 89000000 40 6:=Hm Wo (by omega) (by omega) (by omega) (by omega)
theorem Wn:TyEx 1 88000000 44 7:=Hh (Wo.weak (m2:=89000000) (K2:=40) (N2:=6) (by omega) (by omega) (by omega)) Ws (by omega) (by omega) (by omega) (by omega) (by omega)
theorem Wr:MsEx 1 87000000 240 36:=Hm Wn (by omega) (by omega) (by omega) (by omega)
theorem Wm:TyEx 2 86000000 244 37:=Hh (Wn.weak (m2:=87000000) (K2:=240) (N2:=36) (by omega) (by omega) (by omega)) Wr (by omega) (by omega) (by omega) (by omega) (by omega)
theorem Wq:MsEx 2 85000000 1240 186:=Hm Wm (by omega) (by omega) (by omega) (by omega)
theorem WK:TyEx 3 84000000 1244 187:=Hh (Wm.weak (m2:=85000000) (K2:=1240) (N2:=186) (by omega) (by omega) (by omega)) Wq (by omega) (by omega) (by omega) (by omega) (by omega)
theorem WL:MsEx 3 83000000 6240 936:=Hm WK (by omega) (by omega) (by omega) (by omega)
theorem TC (x:Int) (h:0<=x/\x<=3):MsEx x 83000000 6240 936:=by
 have:x=0\/x=1\/x=2\/x=3:=by omega
 rcases this with rfl | rfl | rfl | rfl
 ·exact Ws.weak (by omega) (by omega) (by omega)
 ·exact Wr.weak (by omega) (by omega) (by omega)
 ·exact Wq.weak (by omega) (by omega) (by omega)
 ·exact WL
theorem Nq : ∃ g:Int->Cur->Rose Lab×Cur,Ab prog 111 (Ent.own (RR g)).F/\∀ x c n,0<=x->x<=3->c.good n->n<=83000000->(g x c).2.good (n+6240)/\drT 936 (g x c).1:=by
 obtain ⟨g,hg⟩:=CO (Y:=Cur->Rose Lab×Cur) (fun c=>(.node (0,[],0,false,0,()) [],c)) TC;refine ⟨g,?_,fun x c n h0 h3 hc hn=>(hg x ⟨h0,h3⟩).2 h0 c n hc hn⟩;refine AX (F:=fun n=>(Ent.own (bif decide (n<=3) then Gj (n:Int) 83000000 (g n) else fun _ _=>.no)).F) (fun n _=>?_) fun vs bs r hq=>?_
 ·by_cases h:n<=3
  ·rw [dcT h];exact (hg n (by omega)).1
  ·rw [dcF h];exact AQ fun vs bs=>rfl
 ·unfold Ent.F RR at hq;dsimp only at hq;split at hq
  ·rename_i x l a s;obtain ⟨hc,hx⟩:=Ac hq;obtain ⟨q1,q2,q3⟩:=of_decide_eq_true hc;obtain ⟨x,rfl⟩:=eq_ofNat_of_zero_le q1;refine ⟨x,?_⟩;rw [dcT (show x<=3 by omega)];show (Br.need (decide ((x:Int)=(x:Int)/\0<=(x:Int)/\(Cur.mk l a s).good 83000000)) (.leaf (.agg [.j (g (x:Int) (Cur.mk l a s)).1.lab.1,.s (g (x:Int) (Cur.mk l a s)).1.lab.2.1,.j (g (x:Int) (Cur.mk l a s)).1.lab.2.2.1,.b (g (x:Int) (Cur.mk l a s)).1.lab.2.2.2.1,.j (g (x:Int) (Cur.mk l a s)).1.lab.2.2.2.2.1,.ref 1 0 (g (x:Int) (Cur.mk l a s)).1.kids.length],[some (cB (g (x:Int) (Cur.mk l a s)).2),R0 (.rose LCd) (g (x:Int) (Cur.mk l a s)).1.kids]))).run=some r;rw [dcT ⟨rfl,q1,q3⟩];exact hx
  ·cases hq
noncomputable def GT:Int->Cur->Rose Lab×Cur:=Nq.choose
theorem TB:Ab prog 111 (Ent.own (RR GT)).F:=Nq.choose_spec.1
theorem RQ : ∀ x c n,0<=x->x<=3->c.good n->n<=83000000->(GT x c).2.good (n+6240)/\drT 936 (GT x c).1:=Nq.choose_spec.2



theorem LH {l:List Ty} (h:Bd l=true):A5 (kf l 0).1<=1000000/\Bv (kf l 0).1=true:=by
 unfold Bd at h;simp only [anE,dcE] at h;obtain ⟨⟨⟨h1,_⟩,h3⟩,h4⟩:=h;have hl:0<l.length:=by omega
 have hc:=Kr hl;have hb:=DX l 0 hl;refine ⟨by omega,?_⟩;unfold Fi at h4;simp only [anE] at h4;exact h4.1.1.2


end Go.Proofs.YtckmoiopjocapaaGreat.Den
