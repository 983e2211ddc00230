/- What functions of the program do, by the machine: Lt5 Srk Frz Kf Lt6 Cd1 Is1 Lat2 Lt7 SaT LLt. -/
import Derived.Test.YtcgddnpfapcohaaDB
import Derived.KernelRfl
import Derived.Test.YtcgddnpfapcohaaRows
import Derived.Shelf.SlSortCmp.Whole1
import Derived.Shelf.SlSortCmp.NoneTotal
import Derived.Shelf.SlicesG.Cmp
import Derived.WalkKit
import Derived.Deep.QuietTactic
import Derived.BigQuiet
import Derived.Lib.Small
open Go.IntKind (i64)
open Go.Proofs.Try
open List (all_eq_true append_assoc append_nil drop drop_eq_getElem_cons drop_eq_nil_of_le drop_zero filter_cons mem_cons_self mem_singleton nil_append take take_length)
open Nat (add_mul zero_le)
open Option (map_some)
namespace Go.Proofs.Ytcgddnpfapcohaa.Den
open Go.Proofs
set_option maxRecDepth 100000
def N5 (n:Nat):Gm
 | [.tp LCd a 0,.tp LCd b 0],[]=>.need (decide (Ac a=true/\Ac b=true/\Af a<=n/\Af a<=400000/\Af b<=400000)) (.br (meB a b) (.leaf (.tp LCd (meV a b) 0,[])) (.leaf (.np,[])))
 | _,_=>.no
def MH (n:Nat):Gm
 | [.tp LCd a 0,.tp LCd b 0],[]=>.need (decide (Ac a=true/\Ac b=true/\Af a<=n/\Af a<=400000/\Af b<=400000)) (.br (meB a b) (.leaf (.ptr 0 0,[some (.box [.j (meV a b).lab.1,.s (meV a b).lab.2.1,.j (meV a b).lab.2.2.1,.b (meV a b).lab.2.2.2.1,.j (meV a b).lab.2.2.2.2.1,.ref 1 0 (meV a b).kids.length]),R0 (.tree LCd) (meV a b).kids])) (.leaf (.np,[])))
 | _,_=>.no
def N6 (n:Nat):Gm
 | [.tp LCd a 0,.tp LCd b 0],[]=>.need (decide (Ac a=true/\Ac b=true/\Af a<=n/\Af a<=400000/\Af b<=400000)) (.br (joB a b) (.leaf (.tp LCd (joV a b) 0,[])) (.leaf (.np,[])))
 | _,_=>.no
def MI (n:Nat):Gm
 | [.tp LCd a 0,.tp LCd b 0],[]=>.need (decide (Ac a=true/\Ac b=true/\Af a<=n/\Af a<=400000/\Af b<=400000)) (.br (joB a b) (.leaf (.ptr 0 0,[some (.box [.j (joV a b).lab.1,.s (joV a b).lab.2.1,.j (joV a b).lab.2.2.1,.b (joV a b).lab.2.2.2.1,.j (joV a b).lab.2.2.2.2.1,.ref 1 0 (joV a b).kids.length]),R0 (.tree LCd) (joV a b).kids])) (.leaf (.np,[])))
 | _,_=>.no
def RG:Gm
 | [.ptr 0 0],[.box [.j z0,.s z1,.j z2,.b z3,.j z4,.ref 1 0 m],.row false _ (.tree LCd) o]=>.need (decide (m=o.length/\m<=1000000)&&Nt o) (.leaf (.tup [],[some (.box [.j z0,.s z1,.j z2,.b z3,.j z4,.ref 2 0 m]),none,R0 (.tree LCd) (A0 [] o)]))
 | _,_=>.no
def FN (n:Nat):LoopEnt:=⟨143,[0,1,5,83,84,85],[0,1,5],[4],fun
 | ([.tp LCd a 0,.tp LCd b 0,.ptr 0 0,.sl (.tree LCd) ks,.j c,.j i],[some (.box [.j z0,.s z1,.j z2,.b z3,.j z4,.ref 1 0 m]),R0 (.tree LCd) o])=>.need (decide (0<=i/\i.toNat<=ks.length/\c=ks.length/\m=o.length/\o.length<=i.toNat/\ks.all Ac=true/\b.kids.all Ac=true/\Ai ks<=n/\Ai ks<=400000/\Af b<=400000)) (.br (Bw b.kids (ks.drop i.toNat)) (.leaf (.exit 0,([.tp LCd a 0,.tp LCd b 0,.ptr 0 0],[some (.box [.j z0,.s z1,.j z2,.b z3,.j z4,.ref 1 0 (o++Bv b.kids (ks.drop i.toNat)).length]),R0 (.tree LCd) (o++Bv b.kids (ks.drop i.toNat))]))) (.leaf (.ret,([.np],[]))))
 | _=>.no⟩
def FM:LoopEnt:=⟨143,[0,5,116,117,118],[5],[],fun
 | ([.tp LCd a 0,.ptr 0 0,.sl (.tree LCd) ks,.j c,.j i],[some (.box [.j z0,.s z1,.j z2,.b z3,.j z4,.ref 1 0 m]),R0 (.tree LCd) o])=>.need (decide (0<=i/\i.toNat<=ks.length/\c=ks.length/\m=o.length/\o.length<=400000+i.toNat/\ks.length<=400000/\a.kids.length<=1000000)) (.leaf (.exit 2,([.ptr 0 0],[some (.box [.j z0,.s z1,.j z2,.b z3,.j z4,.ref 1 0 (o++AM a.kids (ks.drop i.toNat)).length]),R0 (.tree LCd) (o++AM a.kids (ks.drop i.toNat))])))
 | _=>.no⟩
def KA (n:Nat):LoopEnt:=⟨113,[1,5,82,83,84],[5],[],fun
 | ([.tp LCd b 0,.ptr 0 0,.sl (.tree LCd) ks,.j c,.j i],[some (.box [.j z0,.s z1,.j z2,.b z3,.j z4,.ref 1 0 m]),R0 (.tree LCd) o])=>.need (decide (0<=i/\i.toNat<=ks.length/\c=ks.length/\m=o.length/\o.length<=i.toNat/\ks.all Ac=true/\b.kids.all Ac=true/\Ai ks<=n/\Ai ks<=400000/\Af b<=400000)) (.leaf (.exit 0,([.ptr 0 0],[some (.box [.j z0,.s z1,.j z2,.b z3,.j z4,.ref 1 0 (o++Bb b.kids (ks.drop i.toNat)).length]),R0 (.tree LCd) (o++Bb b.kids (ks.drop i.toNat))])))
 | _=>.no⟩
abbrev Lq (n:Nat):FuncId->Option Ent:=Aa [(29,.rd1 H8),(13,.rd1 (N5 n)),(30,.own RG)]
theorem IB (n:Nat) (a b:Rose Lab) (z0:Int) (z1:By) (z2:Int) (z3:Bool) (z4:Int) (ks o:RL) (m:Nat) (c i:Int):AD prog (Lq n) (Aa [(11,FN n),(21,FM)]) 0 (body f13 0) (FN n) ([.tp LCd a 0,.tp LCd b 0,.ptr 0 0,.sl (.tree LCd) ks,.j c,.j i],[some (.box [.j z0,.s z1,.j z2,.b z3,.j z4,.ref 1 0 m]),R0 (.tree LCd) o]) =
 ((ifB (decide (i<c)) (ifT (decide (0<=i)&&decide (i<(↑ks.length:Int))) (Am ks[i.toNat]? fun z=>shr (take m (drop 0 o)) fun sh4=>shr
 (Rose.lab z).2.2 fun sh3=>shr b.kids fun sh2=>shr (byR sh3.1 sh2) fun sh1=>ifT (decide (sh2.length<=maxI)) (ifB (AC sh3.1 sh2) (ifT (decide (Ac z =
 true/\Ac sh1=true/\Af z<=n/\Af z<=400000/\Af sh1<=400000)) (ifB (meB z sh1) (ifT (decide ((m+1)*8<=
 140737488355328)&&decide (m+1<=maxI)) (some (Ex.normal,[V.tp LCd a 0,V.tp LCd b 0,V.ptr 0 0,V.sl LCd.tree ks,V.j c,V.i
 .i64 (i64.wrap (i+1))],[some (Blk.box [V.j z0,V.s z1,V.j z2,V.b z3,V.j z4,V.ref 1 0 (m+1)]),R0 LCd.tree
 (sh4++meV z sh1::Ar LCd.tree.den)]))) (some (Ex.ret,[V.np],[])))) (ifT (decide ((m+1)*8<=140737488355328)&&decide (m+1<=
 maxI)) (some (Ex.normal,[V.tp LCd a 0,V.tp LCd b 0,V.ptr 0 0,V.sl LCd.tree ks,V.j c,V.j (i64.wrap (i+1))],[some (Blk.box [V.i
 .i64 z0,V.s z1,V.j z2,V.b z3,V.j z4,V.ref 1 0 (m+1)]),R0 LCd.tree (sh4++z::Ar LCd.tree.den)])))))) (some (Ex.exit
 0,[V.tp LCd a 0,V.tp LCd b 0,V.ptr 0 0],[some (Blk.box [V.j z0,V.s z1,V.j z2,V.b z3,V.j z4,V.ref 1 0 m]),R0 LCd.tree o]))):_):=by kernel_rfl
theorem IA (n:Nat) (a:Rose Lab) (z0:Int) (z1:By) (z2:Int) (z3:Bool) (z4:Int) (ks o:RL) (m:Nat) (c i:Int):AD prog (Lq n) (Aa [(11,FN n),(21,FM)]) 0 (body f13 1) FM ([.tp LCd a 0,.ptr 0 0,.sl (.tree LCd) ks,.j c,.j i],[some (.box [.j z0,.s z1,.j z2,.b z3,.j z4,.ref 1 0 m]),R0 (.tree LCd) o]) =
 ((ifB (decide (i<c)) (ifT (decide (0<=i)&&decide (i<(↑ks.length:Int))) (Am ks[i.toNat]? fun z=>shr a.kids fun sh1=>ifT (decide (sh1.length<=maxI)) (ifB
 (AC (Rose.lab z).2.2.1 sh1) (some (Ex.normal,[V.tp LCd a 0,V.ptr 0 0,V.sl LCd.tree ks,V.j c,V.j (i64.wrap (i+1))],[some
 (Blk.box [V.j z0,V.s z1,V.j z2,V.b z3,V.j z4,V.ref 1 0 m]),R0 LCd.tree o])) (ifT (decide ((m+1)*8<=
 140737488355328)&&decide (m+1<=maxI)) (some (Ex.normal,[V.tp LCd a 0,V.ptr 0 0,V.sl LCd.tree ks,V.j c,V.j (i64.wrap (i
 + 1))],[some (Blk.box [V.j z0,V.s z1,V.j z2,V.b z3,V.j z4,V.ref 1 0 (m+1)]),R0 LCd.tree (take m (drop (0 :
 Nat) o)++z::Ar LCd.tree.den)])))))) (some (Ex.exit 2,[V.ptr 0 0],[some (Blk.box [V.j z0,V.s z1,V.j z2,V.b z3,V.j z4,V.ref 1 0 m]),R0 LCd.tree o]))):_):=by kernel_rfl
abbrev Q9 (n:Nat):FuncId->Option Ent:=Aa [(29,.rd1 H8),(19,.rd1 (N6 n))]
theorem KB (n:Nat) (b:Rose Lab) (z0:Int) (z1:By) (z2:Int) (z3:Bool) (z4:Int) (ks o:RL) (m:Nat) (c i:Int):AD prog (Q9 n) (Aa [(11,KA n)]) 0 (body f19 0) (KA n) ([.tp LCd b 0,.ptr 0 0,.sl (.tree LCd) ks,.j c,.j i],[some (.box [.j z0,.s z1,.j z2,.b z3,.j z4,.ref 1 0 m]),R0 (.tree LCd) o]) =
 ((ifB (decide (i<c)) (ifT (decide (0<=i)&&decide (i<(↑ks.length:Int))) (Am ks[i.toNat]? fun z=>shr (Rose.lab z).2.2 fun sh3=>shr b.kids fun sh2=>shr
 (byR sh3.1 sh2) fun sh1=>ifT (decide (sh2.length<=maxI)) (ifB (AC sh3.1 sh2) (ifT (decide (Ac z=true/\Ac sh1=true/\Af z<=n/\Af z<=(400000 :
 Nat)/\Af sh1<=400000)) (ifB (joB z sh1) (ifT (decide ((m+1)*8<=140737488355328)&&decide (m+1<=maxI)) (some
 (Ex.normal,[V.tp LCd b 0,V.ptr 0 0,V.sl LCd.tree ks,V.j c,V.j (i64.wrap (i+1))],[some (Blk.box [V.j z0,V.s z1,V.j z2,V.b
 z3,V.j z4,V.ref 1 0 (m+1)]),R0 LCd.tree (take m (drop 0 o)++joV z sh1::Ar LCd.tree.den)]))) (some
 (Ex.normal,[V.tp LCd b 0,V.ptr 0 0,V.sl LCd.tree ks,V.j c,V.j (i64.wrap (i+1))],[some (Blk.box [V.j z0,V.s z1,V.j z2,V.b
 z3,V.j z4,V.ref 1 0 m]),R0 LCd.tree o])))) (some (Ex.normal,[V.tp LCd b 0,V.ptr 0 0,V.sl LCd.tree ks,V.j c,V.i .i64
 (i64.wrap (i+1))],[some (Blk.box [V.j z0,V.s z1,V.j z2,V.b z3,V.j z4,V.ref 1 0 m]),R0 LCd.tree o]))))) (some
 (Ex.exit 0,[V.ptr 0 0],[some (Blk.box [V.j z0,V.s z1,V.j z2,V.b z3,V.j z4,V.ref 1 0 m]),R0 LCd.tree o]))):_):=by kernel_rfl
theorem OT (n:Nat) (a b:Rose Lab):BX prog (Lq n) (Aa [(11,FN n),(21,FM)]) f13 [.tp LCd a 0,.tp LCd b 0] [] =
 ((shr (Ar LCd.tree.den) fun sh7=>shr a.lab fun sh6=>shr sh6.2.2 fun sh5=>shr b.lab.2.2.2 fun sh4=>shr b.kids fun sh3=>shr a.kids fun sh2=>shr (sh7++
 Bv sh3 (drop 0 sh2)) fun sh1=>ifB (sh6.1 != b.lab.1) (some (V.np,[])) (ifB sh5.2.1 (ifB (sh6.1==(4:Int)) (ifT (decide ((0:Int)<=(0 :
 Int))&&decide (0<(↑sh2.length:Int))) (Am sh2[0]? fun z=>shr sh3 fun sh1=>ifT (decide ((0:Int)<=(0:Int))&&decide (0<(↑sh1.length:Int)))
 (Am sh1[0]? fun z_1=>shr sh6 fun sh3=>shr sh4.2 fun sh2=>shr sh3.2.2 fun sh1=>ifT (decide (Ac z=true/\Ac z_1=true/\Af z<=n/\
 Af z<=400000/\Af z_1<=400000)) (ifB (meB z z_1) (some (V.ptr 0 0,[some (Blk.box [V.j sh3.1,V.s sh3.2.1,V.j sh1.1,V.b true,
 V.j (if sh2.1<sh1.2.2.1 then sh2.1 else sh1.2.2.1),V.ref 1 0 1]),R0 LCd.tree (meV z z_1::sh7)])) (some (V.np,[]))))))
 (ifT (decide ((0:Int)<=(0:Int)/\0<=sh2.length/\(↑sh2.length:Int)=(↑sh2.length:Int)/\0=0/\0<=0/\sh2.all Ac
 = true/\sh3.all Ac=true/\Ai sh2<=n/\Ai sh2<=400000/\Af b<=400000)) (ifB (Bw sh3 (drop 0 sh2)) (ifT (decide ((0:Int)<=
 (0:Int)/\0<=sh3.length/\(↑sh3.length:Int)=(↑sh3.length:Int)/\sh1.length=sh1.length/\sh1.length<=400000/\sh3.length<=400000/\
 sh2.length<=1000000)) (ifT (decide ((sh1++AM sh2 (drop 0 sh3)).length=(sh1++AM sh2 (drop 0 sh3)).length/\(sh1++AM sh2
 (drop 0 sh3)).length<=1000000)&&Nt (sh1++AM sh2 (drop 0 sh3))) (some (V.ptr 0 0,[some (Blk.box [V.j sh6.1,V.s
 sh6.2.1,V.j sh5.1,V.b true,V.j (if sh4.2.1<sh5.2.2.1 then sh4.2.1 else sh5.2.2.1),V.ref 1 0 (sh1++AM sh2 (drop (0 :
 Nat) sh3)).length]),R0 LCd.tree (A0 (Ar (Rose Lab)) (sh1++AM sh2 (drop 0 sh3)))])))) (some (V.np,[]))))) (ifB (sh6.1==
 (4:Int)) (ifT (decide ((0:Int)<=(0:Int))&&decide (0<(↑sh2.length:Int))) (Am sh2[0]? fun z=>shr sh3 fun sh1=>ifT (decide ((0:Int)<=(0 :
 Int))&&decide (0<(↑sh1.length:Int))) (Am sh1[0]? fun z_1=>shr sh6 fun sh3=>shr sh3.2.2 fun sh2=>shr sh4 fun sh1=>ifT (decide (Ac z =
 true/\Ac z_1=true/\Af z<=n/\Af z<=400000/\Af z_1<=400000)) (ifB (meB z z_1) (some (V.ptr 0 0,[some (Blk.box [V.j sh3.1,V.s
 sh3.2.1,V.j sh2.1,V.b sh1.1,V.j (if sh1.2.1<sh2.2.2.1 then sh1.2.1 else sh2.2.2.1),V.ref 1 0 1]),R0 LCd.tree (meV z z_1::sh7)])) (some (V.np,[])))))) (ifT (decide ((0:Int)<=(0:Int)/\0<=sh2.length/\(↑sh2.length:Int)=(↑sh2.length:Int)/\0
 = 0/\0<=0/\sh2.all Ac=true/\sh3.all Ac=true/\Ai sh2<=n/\Ai sh2<=400000/\Af b<=400000)) (ifB (Bw sh3
 (drop 0 sh2)) (ifT (decide ((0:Int)<=(0:Int)/\0<=sh3.length/\(↑sh3.length:Int)=(↑sh3.length:Int)/\sh1.length=sh1.length/\sh1.length
 <= 400000/\sh3.length<=400000/\sh2.length<=1000000)) (ifT (decide ((sh1++AM sh2 (drop 0 sh3)).length=(sh1++AM sh2
 (drop 0 sh3)).length/\(sh1++AM sh2 (drop 0 sh3)).length<=1000000)&&Nt (sh1++AM sh2 (drop 0 sh3))) (some
 (V.ptr 0 0,[some (Blk.box [V.j sh6.1,V.s sh6.2.1,V.j sh5.1,V.b sh4.1,V.j (if sh4.2.1<sh5.2.2.1 then sh4.2.1 else
 sh5.2.2.1),V.ref 1 0 (sh1++AM sh2 (drop 0 sh3)).length]),R0 LCd.tree (A0 (Ar (Rose Lab)) (sh1++AM sh2 (drop
 0 sh3)))])))) (some (V.np,[]))))))):_):=by kernel_rfl
theorem OX (n:Nat) (a b:Rose Lab):BX prog (Q9 n) (Aa [(11,KA n)]) f19 [.tp LCd a 0,.tp LCd b 0] [] =
 ((shr (Ar LCd.tree.den) fun sh6=>shr a.lab fun sh5=>shr sh5.2.2 fun sh4=>shr b.kids fun sh3=>shr b.lab.2.2.2 fun sh2=>shr a.kids fun sh1=>ifB
 (sh5.1 != b.lab.1) (some (V.np,[])) (ifB sh4.2.1 (ifB (sh5.1==(4:Int)) (ifT (decide ((0:Int)<=(0:Int))&&decide (0<(↑sh1.length:Int))) (Am
 sh1[0]? fun z=>shr sh3 fun sh1=>ifT (decide ((0:Int)<=(0:Int))&&decide (0<(↑sh1.length:Int))) (Am sh1[0]? fun z_1=>shr sh5 fun sh3=>
 shr sh3.2.2 fun sh2_1=>shr sh2 fun sh1=>ifT (decide (Ac z=true/\Ac z_1=true/\Af z<=n/\Af z<=400000/\Af z_1<=400000)) (ifB
 (joB z z_1) (some (V.ptr 0 0,[some (Blk.box [V.j sh3.1,V.s sh3.2.1,V.j sh2_1.1,V.b sh1.1,V.j (if sh1.2.1>sh2_1.2.2.1 then
 sh1.2.1 else sh2_1.2.2.1),V.ref 1 0 1]),R0 LCd.tree (joV z z_1::sh6)])) (some (V.np,[])))))) (ifT (decide ((0:Int)<=(0:Int)/\
 0<=sh1.length/\(↑sh1.length:Int)=(↑sh1.length:Int)/\0=0/\0<=0/\sh1.all Ac=true/\sh3.all Ac=true/\Ai
 sh1<=n/\Ai sh1<=400000/\Af b<=400000)) (some (V.ptr 0 0,[some (Blk.box [V.j sh5.1,V.s sh5.2.1,V.j sh4.1,V.b sh2.1,V.i
 .i64 (if sh2.2.1>sh4.2.2.1 then sh2.2.1 else sh4.2.2.1),V.ref 1 0 (sh6++Bb sh3 (drop 0 sh1)).length]),R0 LCd.tree (sh6++Bb sh3 (drop 0 sh1))])))) (ifB (sh5.1==(4:Int)) (ifT (decide ((0:Int)<=(0:Int))&&decide (0<(↑sh1.length:Int))) (Am
 sh1[0]? fun z=>shr sh3 fun sh1=>ifT (decide ((0:Int)<=(0:Int))&&decide (0<(↑sh1.length:Int))) (Am sh1[0]? fun z_1=>shr sh5 fun sh3=>
 shr sh2.2 fun sh2=>shr sh3.2.2 fun sh1=>ifT (decide (Ac z=true/\Ac z_1=true/\Af z<=n/\Af z<=400000/\Af z_1<=400000))
 (ifB (joB z z_1) (some (V.ptr 0 0,[some (Blk.box [V.j sh3.1,V.s sh3.2.1,V.j sh1.1,V.b false,V.j (if sh2.1>sh1.2.2.1 then sh2.1
 else sh1.2.2.1),V.ref 1 0 1]),R0 LCd.tree (joV z z_1::sh6)])) (some (V.np,[])))))) (ifT (decide ((0:Int)<=(0:Int)/\0<=
 sh1.length/\(↑sh1.length:Int)=(↑sh1.length:Int)/\0=0/\0<=0/\sh1.all Ac=true/\sh3.all Ac=true/\Ai sh1<=n/\
 Ai sh1<=400000/\Af b<=400000)) (some (V.ptr 0 0,[some (Blk.box [V.j sh5.1,V.s sh5.2.1,V.j sh4.1,V.b false,V.j (if
 sh2.2.1>sh4.2.2.1 then sh2.2.1 else sh4.2.2.1),V.ref 1 0 (sh6++Bb sh3 (drop 0 sh1)).length]),R0 LCd.tree
 (sh6++Bb sh3 (drop 0 sh1))])))))):_):=by kernel_rfl
theorem PE (z0:Int) (z1:By) (z2:Int) (z3:Bool) (z4:Int) (m:Nat) (nl:Option Bool) (o:RL):BX prog (Aa [(50,.own QU)]) (Aa []) f30 [.ptr 0 0] [.box [.j z0,.s z1,.j z2,.b z3,.j z4,.ref 1 0 m],.row false nl (.tree LCd) o] =
 ((ifT (decide (m=o.length/\m<=1000000)&&Nt o) (some (V.tup [],[some (Blk.box [V.j z0,V.s z1,V.j z2,V.b z3,V.j z4,V.ref 2 0 m]),none,
 R0 LCd.tree (A0 (Ar (Rose Lab)) o)]))):_):=by kernel_rfl

open Go.Shelf in
def QT:Ren:=⟨fun k=>match k with | 6=>50 | 14=>62 | 15=>63 | 20=>66 | 21=>67 | 22=>68 | 23=>69 | 24=>70 | 25=>71 | 26=>72 | 27=>73 | 28=>74 | 29=>75 | 46=>76 | 47=>77 | 48=>78 | 49=>79 | 50=>80 | 57=>81 | k=>k,
 fun k=>match k with | 0=>0 | 3=>3 | 4=>4 | 5=>5 | 9=>9 | 22=>60 | 25=>82 | 39=>88 | 45=>91 | 46=>92 | 50=>96 | 53=>99 | 55=>50 | 66=>101 | 70=>105 | 76=>107 | 77=>108 | 24=>34 | k=>k,fun k=>k⟩
open Go.Shelf in
theorem My:SlLaysF.n6 prog QT:=⟨by kernel_rfl,⟨f50.name,by kernel_rfl,by kernel_rfl⟩,⟨f62.name,by kernel_rfl,by kernel_rfl⟩,by kernel_rfl,⟨f66.name,by kernel_rfl,by kernel_rfl⟩,⟨f67.name,by kernel_rfl,by kernel_rfl⟩,⟨f68.name,by kernel_rfl,by kernel_rfl⟩,⟨f69.name,by kernel_rfl,by kernel_rfl⟩,⟨f70.name,by kernel_rfl,by kernel_rfl⟩,⟨f71.name,by kernel_rfl,by kernel_rfl⟩,⟨f72.name,by kernel_rfl,by kernel_rfl⟩,⟨f73.name,by kernel_rfl,by kernel_rfl⟩,by kernel_rfl,by kernel_rfl,⟨f76.name,by kernel_rfl,by kernel_rfl⟩,by kernel_rfl,by kernel_rfl,⟨f79.name,by kernel_rfl,by kernel_rfl⟩,⟨f80.name,by kernel_rfl,by kernel_rfl⟩,⟨f81.name,by kernel_rfl,by kernel_rfl⟩,by kernel_rfl,fun w=>by kernel_rfl,fun w=>by kernel_rfl,fun w=>by kernel_rfl,by kernel_rfl,fun w=>by kernel_rfl,fun w=>by kernel_rfl,fun w=>by kernel_rfl,by kernel_rfl,fun w=>by kernel_rfl,fun w=>by kernel_rfl,fun w=>by kernel_rfl,by kernel_rfl,fun w=>by kernel_rfl,fun w=>by kernel_rfl,fun w=>by kernel_rfl,by kernel_rfl,fun w=>by kernel_rfl,fun w=>by kernel_rfl,fun w=>by kernel_rfl,by kernel_rfl,fun w=>by kernel_rfl,fun w=>by kernel_rfl,fun w=>by kernel_rfl,fun w=>by kernel_rfl,fun w=>by kernel_rfl,by kernel_rfl,fun w=>by kernel_rfl,fun w=>by kernel_rfl,fun w=>by kernel_rfl,by kernel_rfl,fun w=>by kernel_rfl,fun w=>by kernel_rfl,fun w=>by kernel_rfl,by kernel_rfl,fun w=>by kernel_rfl,fun w=>by kernel_rfl,fun w=>by kernel_rfl,by kernel_rfl,fun w=>by kernel_rfl,fun w=>by kernel_rfl,fun w=>by kernel_rfl,by kernel_rfl,fun w=>by kernel_rfl,fun w=>by kernel_rfl,fun w=>by kernel_rfl,by kernel_rfl,fun w=>by kernel_rfl,fun w=>by kernel_rfl,fun w=>by kernel_rfl,by kernel_rfl,fun w=>by kernel_rfl,fun w=>by kernel_rfl,fun w=>by kernel_rfl,by kernel_rfl,fun w=>by kernel_rfl,fun w=>by kernel_rfl,fun w=>by kernel_rfl,by kernel_rfl,fun w=>by kernel_rfl,fun w=>by kernel_rfl,fun w=>by kernel_rfl,by kernel_rfl,fun w=>by kernel_rfl,fun w=>by kernel_rfl,fun w=>by kernel_rfl,by kernel_rfl,fun w=>by kernel_rfl,fun w=>by kernel_rfl,fun w=>by kernel_rfl⟩
open Go.Shelf in
def RE:Ren:=⟨fun k=>match k with | 5=>52 | 7=>64 | k=>k,
 fun k=>match k with | 3=>3 | 4=>4 | 22=>3 | k=>k,fun k=>k⟩
open Go.Shelf in
theorem Q6:SlLaysC2.n5 prog RE:=⟨by kernel_rfl,⟨f52.name,by kernel_rfl,by kernel_rfl⟩,⟨f64.name,by kernel_rfl,by kernel_rfl⟩,by kernel_rfl,fun w=>by kernel_rfl,fun w=>by kernel_rfl,fun w=>by kernel_rfl,by kernel_rfl,fun w=>by kernel_rfl,fun w=>by kernel_rfl,fun w=>by kernel_rfl,by kernel_rfl,fun w=>by kernel_rfl,fun w=>by kernel_rfl,fun w=>by kernel_rfl⟩
abbrev Kw (w:World) (R:Nat->Prop) (μ:Nat->Option RB):Type:={p:Rose Lab×Value // VRep w R μ (.tp LCd p.1 0) p.2}
def ES {w:World} {R:Nat->Prop} {μ:Nat->Option RB} (x:Kw w R μ):Value:=x.1.2
def NQ {w:World} {R:Nat->Prop} {μ:Nat->Option RB} (x y:Kw w R μ):Int:=Go.Lib.compareInt (noR x.1.1) (noR y.1.1)
section
open Go.Shelf Go.RowKit Go.Lib Go.Sort
set_option maxHeartbeats 1000000 in
theorem PD (b1 b2:Nat) (n1 n2:Int) (W:World) (h1:W.cell? ⟨b1,2,none⟩=some (.int .i64 n1)) (h2:W.cell? ⟨b2,2,none⟩=some (.int .i64 n2)):Calls prog 51 #[.pointer (some ⟨b1,0,none⟩),.pointer (some ⟨b2,0,none⟩)] W fun r w'=>r = .returned (.int .i64 (Go.Lib.compareInt n1 n2))/\∃ q os',w'=grow (W.drewN q) os':=by
 have hcon:=fun W'=>AnyG.cmp_Compare_int Q6 n1 n2 W'
 change ∀ W',Calls prog 52 _ _ _ at hcon;generalize Go.Lib.compareInt n1 n2=r at hcon ⊢
 go_enter func51,Try.ntmps51
 have c1 : ∀ n,(W.drewN n).cell? ⟨b1,2,none⟩=some (.int .i64 n1):=fun n=>h1
 have c2 : ∀ n,(W.drewN n).cell? ⟨b2,2,none⟩=some (.int .i64 n2):=fun n=>h2
 go_wp2
 go_quiet (first | (go_at_call 52; exact Calls.quiet_of_same (hcon _)))
 go_wp2
 go_ret
 exact ⟨rfl,nq,#[],by rw [grow_empty]⟩
variable {w:World} {R:Nat->Prop} {μ:Nat->Option RB}
theorem ltK (x y:Kw w R μ):ltOf NQ x y=decide (noR x.1.1<noR y.1.1):=by
 unfold ltOf NQ Go.Lib.compareInt
 by_cases h1:noR x.1.1<noR y.1.1
 ·simp [h1]
 ·by_cases h2:noR y.1.1<noR x.1.1<;>simp [h1,h2]
theorem S2:SWO (ltOf (NQ (w:=w) (R:=R) (μ:=μ))) where
 irrefl x:=by rw [ltK]; simp
 trans x y z h1 h2:=by rw [ltK] at *; simp only [dcE] at *; omega
 ntrans x y z h1 h2:=by rw [ltK] at *; simp only [decide_eq_false_iff_not] at *; omega
theorem OQ (x:Kw w R μ) : ∃ b,ES x = .pointer (some ⟨b,0,none⟩)/\R b/\w.cell? ⟨b,2,none⟩=some (.int .i64 (noR x.1.1)):=by
 obtain ⟨⟨z,u⟩,h⟩:=x;dsimp only at h
 cases h with
 | tp _ _ _ b U h1 h3 h4=>
  refine ⟨b,rfl,h1,?_⟩;obtain ⟨⟨a0,a1,a2,a3,a4,⟨⟩⟩,ks⟩:=z;have e:=h3 2 (.j a2) (by rfl);have v:=h4 2 (.j a2) (by rfl);generalize U 2=u at e v;cases v;exact e
theorem OB:OneCell (ES (w:=w) (R:=R) (μ:=μ)):=fun x=>by
 obtain ⟨b,e,_⟩:=OQ x;rw [e]; rfl
theorem GN [Inhabited (Kw w R μ)] {b off m k:Nat} {d:Array (Kw w R μ)} {os:Array Obj} (hk:k<w.heap.size) (hb:k≠b):(sortWorld ES w b off m d os).heap[k]? = w.heap[k]?:=by
 unfold sortWorld;rw [heap_grow_old _ _ (by simp [Go.Sort.ahead]; exact hk)];unfold putRow mapBlock Go.Sort.ahead;simp [Array.getElem?_modify,Ne.symm hb]
theorem PC [Inhabited (Kw w R μ)] {b off size:Nat} (hb : ¬R b) (hR : ∀ x,R x->x<w.heap.size):CmpLays1 prog 51 #[] ES (NQ (w:=w) (R:=R) (μ:=μ)) b off size w:=fun m os dk _ x y=>by
 obtain ⟨b1,e1,r1,c1⟩:=OQ x;obtain ⟨b2,e2,r2,c2⟩:=OQ y;rw [e1,e2];refine PD b1 b2 _ _ _ ?_ ?_
 ·have o1:(sortWorld ES w b off m dk os).heap[b1]? = w.heap[b1]?:=GN (hR _ r1) (fun e=>hb (e ▸ r1));rw [World.cell?_of_block (w:=w) o1]; exact c1
 ·have o2:(sortWorld ES w b off m dk os).heap[b2]? = w.heap[b2]?:=GN (hR _ r2) (fun e=>hb (e ▸ r2));rw [World.cell?_of_block (w:=w) o2]; exact c2
theorem Ot {us:Array Value} : ∀ {l:RL} {off:Nat},(∀ i z,l[i]? = some z->∃ u,us[off+i]? = some u/\VRep w R μ (.tp LCd z 0) u)->∃ d:List (Kw w R μ),d.map (fun x=>x.1.1)=l/\∀ i x,d[i]? = some x->us[off+i]? = some (ES x)
 | [],off,_=>⟨[],rfl,fun i x h=>by simp at h⟩
 | z::l,off,h=>by
  obtain ⟨u,h1,h2⟩:=h 0 z rfl
  obtain ⟨d,e1,e2⟩:=Ot (l:=l) (off:=off+1) fun i y hy=>by
   rw [show off+1+i=off+(i+1) by omega];exact h (i+1) y hy
  refine ⟨⟨(z,u),h2⟩::d,by rw [List.map_cons,e1],fun i x hx=>?_⟩
  match i with
  | 0=>cases hx; exact h1
  | i+1=>rw [show off+(i+1)=off+1+i by omega]; exact e2 i x hx
theorem O0 {l:RL} {nl:Option Bool} {u0:Value} (hmem:Mem w R μ (fun j=>([.row false nl (.tree LCd) l]:List Blk)[j]?)) (hv:VRep w R μ (.ref 0 0 l.length) u0) (hl:0<l.length) :
  ∃ b off cap us e,u0 = .slice (some ⟨b,off,none⟩) l.length cap/\μ 0=some (.at b off 1 cap l.length)/\w.heap[b]? = some (.cells us e (0,0))/\l.length<=cap/\cap<=maxI/\off+cap*1<=us.size/\∀ i z,l[i]? = some z->∃ u,us[off+i]? = some u/\VRep w R μ (.tp LCd z 0) u:=by
 obtain ⟨rb,hm0,hB⟩:=hmem.blk 0 _ rfl;generalize hn:l.length=n at hv
 cases hv with
 | vac _ ao hv0=>omega
 | ref _ _ _ b off k cap len a hv0 q0 q1 q2 q3=>
  rw [hm0] at hv0; simp at hv0; subst hv0
  cases hB with
  | row _ _ _ _ _ _ _ _ _ us e hk hh p1 p2 p3 p4 p5=>
  simp [Cd.size] at hk; subst hk
  have ha:a=⟨b,off,none⟩:=by
   rcases q3 with h | h
   ·omega
   ·simpa using h
  subst ha;refine ⟨b,off,cap,us,e,?_,?_,hh,by omega,p2,p3,fun i z hz=>?_⟩
  ·rw [Nat.sub_zero]
  ·rw [hm0,<-p1.1,hn]
  ·obtain ⟨u,g1,g2⟩:=p4 i z 0 (.tp LCd z 0) hz rfl;exact ⟨u,by rw [<-g1]; congr 1; omega,g2⟩
theorem Qp [Inhabited (Kw w R μ)] {d:List (Kw w R μ)} {b off:Nat} {us:Array Value} {e:TypeId} (hh:w.heap[b]? = some (.cells us e (0,0))) (h : ∀ i x,d[i]? = some x->us[off+i]? = some (ES x)):Holds ES w b off d.toArray:=fun j hj=>by
 have hj:j<d.length:=by simpa using hj
 have h1:=h j d[j] (by simp [hj]);refine ⟨?_,by simp [World.frozen?,hh]⟩;simp only [World.cell?,hh,h1];simp [hj]
theorem QS [Inhabited (Kw w R μ)] {l:RL} {d:List (Kw w R μ)} {d':Array (Kw w R μ)} (hl:d.map (fun x=>x.1.1)=l) (hd:l.Pairwise fun a b=>noR a≠noR b) (hp:PermIn 0 d.toArray.size d.toArray d') (hs:SortedIn (ltOf NQ) 0 d.toArray.size d'):d'.toList.map (fun x=>x.1.1)=A0 [] l:=by
 obtain ⟨p1,_,p3⟩:=hp;have hsz:d'.size=d.length:=by rw [p1]; simp
 have e1:(d.toArray.extract 0 d.toArray.size).toList=d:=by simp
 have e2:(d'.extract 0 d.toArray.size).toList=d'.toList:=by rw [<-p1]; simp
 rw [e1,e2] at p3;have p4:=p3.map (fun x:Kw w R μ=>x.1.1);rw [hl] at p4;refine OR _ _ ?_ (Jg .nil hd (fun _ _ _ h=>by cases h)) fun x=>by rw [p4.mem_iff,DB]; simp
 have hd':(d'.toList.map (fun x=>x.1.1)).Pairwise fun a b=>noR a≠noR b:=(p4.pairwise_iff (fun hab=>Ne.symm hab)).2 hd
 have hle:(d'.toList.map (fun x=>x.1.1)).Pairwise fun a b=>noR a<=noR b:=by
  rw [List.pairwise_map];refine List.pairwise_iff_getElem.2 fun i j hi hj hij=>?_
  have hi':i<d'.size:=by simpa using hi
  have hj':j<d'.size:=by simpa using hj
  have:=hs i j (zero_le _) hij (by simp; omega);rw [ltK] at this;have e3:d'[i]! = d'.toList[i]:=by simp [hi']
  have e4:d'[j]! = d'.toList[j]:=by simp [hj']
  rw [e3,e4] at this;have:=of_decide_eq_false this;omega
 exact (hle.and hd').imp fun h=>by unfold KR; unfold noR at h; omega
theorem H6 {w':World} {l l':RL} {nl:Option Bool} {rb:RB} {r:V} {u:Value} (hmem:Mem w R μ (fun j=>([.row false nl (.tree LCd) l]:List Blk)[j]?)) (hnone : ∀ j,1<=j->μ j=none) (hm0:μ 0=some rb)
  (ho:w'.os=w.os) (ht:w'.tape=w.tape) (hp:w'.output=w.output) (hg:w.heap.size<=w'.heap.size) (hs : ∀ k,k<w.heap.size->rb.real≠some k->w'.heap[k]? = w.heap[k]?) (hB:BRep w' R μ rb (.row false none (.tree LCd) l')) (hval:VRep w' R μ r u) :
  Left w R μ (fun j=>([.row false nl (.tree LCd) l]:List Blk)[j]?) r [R0 (.tree LCd) l'] u w' R μ:=by
 have at0 : ∀ j B,(([R0 (.tree LCd) l']:List (Option Blk))[j]?).join=some B->j=0/\B = .row false none (.tree LCd) l':=fun j B hB=>by
  match j with
  | 0=>simp at hB; exact ⟨rfl,hB.symm⟩
  | j+1=>simp at hB
 refine ⟨hval,⟨fun id B h=>?_,fun id id' B B' rb1 rb2 x h1 h2 _ _ _ _ _ _=>?_,fun id B rb1 x h1 _ m1 e1=>?_,fun x hx=>Nat.lt_of_lt_of_le (hmem.rlt x hx) hg⟩,ho,ht,hp,hg,fun k hk hn=>?_,fun x h=>h,fun x h=>.inl h,fun j B rb1 x h1 _ m1 e1=>?_,fun j B rb1 x h1 m1 e1=>?_,fun _ _ h=>h,hnone⟩
 ·obtain ⟨rfl,rfl⟩:=at0 id B h;exact ⟨rb,hm0,hB⟩
 ·rw [(at0 id B h1).1,(at0 id' B' h2).1]
 ·obtain ⟨rfl,rfl⟩:=at0 id B h1;rw [hm0] at m1; simp at m1; subst m1;exact hmem.sep 0 (.row false nl (.tree LCd) l) rb x rfl rfl hm0 e1
 ·exact hs k hk (fun e=>hn ⟨0,.row false nl (.tree LCd) l,rb,rfl,rfl,hm0,e⟩)
 ·obtain ⟨rfl,rfl⟩:=at0 j B h1;rw [hm0] at m1; simp at m1; subst m1;exact .inl ⟨0,.row false nl (.tree LCd) l,rb,rfl,rfl,hm0,e1⟩
 ·obtain ⟨rfl,rfl⟩:=at0 j B h1;rw [hm0] at m1; simp at m1; subst m1;exact .inl ⟨0,.row false nl (.tree LCd) l,rb,rfl,hm0,e1⟩
theorem Nz [Inhabited (Kw w R μ)] {l l':RL} {nl:Option Bool} {b off cap q:Nat} {os:Array Obj} {us:Array Value} {e:TypeId} {r:V} {u:Value} {d:Array (Kw w R μ)} (hmem:Mem w R μ (fun j=>([.row false nl (.tree LCd) l]:List Blk)[j]?)) (hnone : ∀ j,1<=j->μ j=none) (hm0:μ 0=some (.at b off 1 cap l.length)) (hnR : ¬R b)
  (hh:w.heap[b]? = some (.cells us e (0,0))) (hd:d.toList.map (fun x=>x.1.1)=l') (hl:l'.length=l.length) (hc:l.length<=cap) (hc2:cap<=maxI) (hz:off+cap*1<=us.size) (hval : ∀ w':World,VRep w' R μ r u) :
  Left w R μ (fun j=>([.row false nl (.tree LCd) l]:List Blk)[j]?) r [R0 (.tree LCd) l'] u (sortWorld ES w b off q d os) R μ:=by
 have hb:b<w.heap.size:=(Array.getElem?_eq_some_iff.1 hh).1;have hds:d.size=l'.length:=by rw [<-hd]; simp
 have hsz:(putRow ES (Go.Sort.ahead w q) b off d).heap.size=w.heap.size:=by simp [Go.Sort.ahead]
 have here:(sortWorld ES w b off q d os).heap[b]? = some (.cells (putCells ES off d us) e (0,0)):=by
  unfold sortWorld;rw [heap_grow_old _ _ (by rw [hsz]; exact hb)];unfold putRow mapBlock Go.Sort.ahead;simp only [Array.getElem?_modify,if_true,hh,map_some,onCells]
 refine H6 hmem hnone hm0 rfl rfl rfl (by unfold sortWorld; rw [size_grow,hsz]; omega) (fun k hk hne=>GN hk (fun e=>hne (by rw [e]; rfl))) ?_ (hval _);refine .row b off 1 cap l.length false none (.tree LCd) l' _ e rfl here ⟨hl,hc⟩ hc2 ?_ ?_ (by simp)
 ·unfold putCells; simp; omega
 ·intro i z j v hi hv;have hil:i<l'.length:=(List.getElem?_eq_some_iff.1 hi).1
  match j,hv with
  | 0,hv=>
   cases hv;have hid:i<d.size:=by omega
   have e3:d[i].1.1=z:=by
    have h3:=(List.getElem?_eq_some_iff.1 hi).2;rw [<-h3];simp only [<-hd];simp
   refine ⟨ES d[i],?_,?_⟩
   ·unfold putCells;rw [Array.getElem?_mapIdx];have h1:off+(i*1+0)<us.size:=by omega
    rw [Array.getElem?_eq_getElem h1,map_some,if_pos (by omega)];rw [show off+(i*1+0)-off=i by omega];simp [hid]
   ·have:=d[i].2.mono (w':=sortWorld ES w b off q d os) (R':=R) (μ':=μ) (fun k hk=>GN (hmem.rlt k hk) (fun e=>hnR (e ▸ hk))) (fun _ h=>h) (fun _ _ h=>h);rw [e3] at this;exact this
  | j+1,hv=>simp [enc] at hv
end
theorem srk:Ab prog 50 (Ent.own QU).F:=by
 intro w R μ vs us bs r outs hmem hnone hreps hF;unfold Ent.F QU at hF;dsimp only at hF;split at hF
 rotate_left
 ·cases hF
 rename_i n nl l;obtain ⟨hc,h⟩:=Ae hF;rw [anE] at hc;obtain ⟨hc,hone⟩:=hc;obtain ⟨rfl,hn⟩:=of_decide_eq_true hc;have hd:l.Pairwise fun a b=>noR a≠noR b:=of_decide_eq_true hone
 obtain ⟨rfl,rfl⟩:=Prod.mk.inj (BV h);clear h hF hc
 match us,hreps with
 | [u0,u1],hreps=>
 have v0:=hreps.2 0 _ u0 rfl rfl;have v1:=hreps.2 1 _ u1 rfl rfl;have ht : ∀ w':World,VRep w' R μ (.tup []) (.tuple #[]):=fun w'=>.tup [] #[] rfl (by simp)
 cases v1 with
 | fn _ _ _ ua uc h1 h2 h3 h4=>
 have e1:ua = #[]:=by apply Array.ext'; exact List.eq_nil_of_length_eq_zero (by simpa using h1)
 have e2:uc = #[]:=by apply Array.ext'; exact List.eq_nil_of_length_eq_zero (by simpa using h2)
 subst e1 e2;have hlen:(A0 [] l).length=l.length:=by rw [F7,List.length_nil,Nat.zero_add]
 by_cases h0:0<l.length
 ·obtain ⟨b,off,cap,us,e,rfl,hm0,hh,g1,g2,g3,g4⟩:=O0 hmem v0 h0;obtain ⟨d,d1,d2⟩:=Ot g4;have hdl:d.length=l.length:=by rw [<-d1,List.length_map]
  have hnR : ¬R b:=hmem.sep 0 (.row false nl (.tree LCd) l) _ b rfl rfl hm0 rfl
  haveI:Inhabited (Kw w R μ):=⟨d[0]'(by omega)⟩
  have eg : ∀ args w,(callFunc 51 args).run prog w = .ok (.enter 51 args) w:=enters_of func51 (by kernel_rfl) rfl;have hcon:=Any.slices_SortFunc My ES OB NQ S2 51 #[] b off cap d.toArray w eg (PC hnR hmem.rlt) (Qp hh d2) (Array.getElem?_eq_some_iff.1 hh).1 (by simp; omega);have hs:d.toArray.size=l.length:=by simp [hdl]
  rw [hs] at hcon;refine hcon.mono ?_
  rintro e' w' ⟨rfl,d',q,os,hp,hso,rfl⟩
  rw [<-hs] at hp hso;exact ⟨_,R,μ,rfl,Nz hmem hnone hm0 hnR hh (QS d1 hd hp hso) hlen g1 g2 g3 ht⟩
 ·have hl:l=[]:=List.eq_nil_of_length_eq_zero (by omega);subst hl;obtain ⟨rb,hm0,hB⟩:=hmem.blk 0 _ rfl
  have hB2:BRep w R μ rb (.row false none (.tree LCd) (A0 [] [])):=by
   rw [show A0 [] []=[] from rfl]; exact hB.noNl
  have hslice : ∃ p cap,u0 = .slice p 0 cap:=by
   generalize hz:([]:RL).length=z at v0
   cases v0 with
   | vac _ ao h=>exact ⟨_,_,rfl⟩
   | ref _ _ _ b off k cap len a h q0 q1 q2 q3=>exact ⟨some a,cap-0,by subst hz; rfl⟩
  obtain ⟨p,cap,rfl⟩:=hslice;refine (AnyF.slices_SortFunc_none { My with } p cap _ w).mono ?_
  rintro e w' ⟨rfl,rfl⟩
  exact ⟨_,R,μ,rfl,H6 (l':=A0 [] []) hmem hnone hm0 rfl rfl rfl (Nat.le_refl _) (fun _ _ _=>rfl) hB2 (ht _)⟩

def JT (r:V) (outs:List (Option Blk)):Option (V×List (Option Blk)):=
 match (match r with
  | .tup vs=>(C3 (Du (fun j=>(outs[j]?).join) true 5) vs).map fun p=>V.tup p.1
  | v=>(Du (fun j=>(outs[j]?).join) true 5 v).map fun p=>p.1) with
 | some v=>some (BP (fun _=>none) 6 v,[])
 | none=>none
theorem Ny {w w':World} {R R':Nat->Prop} {μ μ':Nat->Option RB} {bl:Nat->Option Blk} {r v:V} {outs:List (Option Blk)} {u:Value} (h:Left w R μ bl r outs u w' R' μ') (hm : ∀ j,μ j=none) {ids:List Nat} (hl : ∀ id∈ids,GH (fun j=>(outs[j]?).join) id)
  (hv : ∀ R1:Nat->Prop,(∀ x,R' x->R1 x)->(∀ id∈ids,Fa w' μ' (fun j=>(outs[j]?).join) R1 id)->VRep w' R1 μ' v u) :
  ∃ R1,Left w R μ bl (BP (fun _=>none) 6 v) [] u w' R1 (fun _=>none):=by
 have hs:SimAt ⟨w,EH w bl μ,R,μ,Was w bl μ⟩ R' μ' [] (fun j=>(outs[j]?).join) (fun _=>False) { tmps:=#[],defers:=[] } w':=
  ⟨h.mem,rfl,fun t v u h1 _=>by simp at h1,rfl,fun _ h=>h.elim,h.os,h.tape,h.output,h.grow,fun k h1 h2=>h.same k h1 h2,h.ownT,h.allT,h.r0,h.rT,h.ext⟩
 obtain ⟨R1,g1,g2,g3⟩:=Cs (fun j=>(outs[j]?).join) ids R' _ hs (fun id ro nl c l _ hb=>⟨ro,hb⟩) (fun id cs _ hb=>.inl hb) (fun id c l op hi hb=>by
  rcases hl id hi with ⟨ro,nl,c2,l2,hb2⟩ | ⟨cs,hb2⟩ | ⟨c2,l2,hb2⟩
  ·cases hb.symm.trans hb2
  ·cases hb.symm.trans hb2
  ·cases hb.symm.trans hb2; exact ⟨rfl,.inl hb⟩)
 have hval:=hv R1 g2 (fun id hi=>g3 id hi (fun kc vc l e=>by
  rcases hl id hi with ⟨ro,nl,c2,l2,hb2⟩ | ⟨cs,hb2⟩ | ⟨c2,l2,hb2⟩<;>cases e.symm.trans hb2))
 have no : ∀ j:Nat,(([]:List (Option Blk))[j]?).join=none:=fun j=>by simp
 refine ⟨R1,⟨BU (fun id j rb e _=>by cases e) 6 v u hval,⟨fun id B hB=>?_,fun id id' B B' rb rb' x h1=>?_,fun id B rb x h1=>?_,g1.mem.rlt⟩,h.os,h.tape,h.output,h.grow,h.same,fun x hx=>g1.r0 x hx,fun x hx=>g1.rT x hx,fun j B rb x h1=>?_,fun j B rb x h1=>?_,fun j rb hj=>?_,fun _ _=>rfl⟩⟩
 ·rw [no] at hB; cases hB
 ·rw [no] at h1; cases h1
 ·rw [no] at h1; cases h1
 ·rw [no] at h1; cases h1
 ·rw [no] at h1; cases h1
 ·rw [hm] at hj; cases hj
theorem D9 {P:Program} {K:FuncId} {F F':List V->List Blk->Option (V×List (Option Blk))} (h:Ab P K F) (hF : ∀ vs bs r,F' vs bs=some r->bs=[]/\∃ p,F vs []=some p/\JT p.1 p.2=some r):Ab P K F':=by
 intro w R μ vs us bs r outs hm hn hr hF1;obtain ⟨rfl,⟨r0,outs0⟩,h1,h2⟩:=hF vs bs _ hF1;refine (h w R μ vs us [] r0 outs0 hm hn hr h1).mono fun e w' ⟨u,R',μ',he,hl⟩=>?_
 unfold JT at h2;dsimp only at h2
 have key : ∀ (v:V) (ids:List Nat),(∀ id∈ids,GH (fun j=>(outs0[j]?).join) id)->(∀ R1:Nat->Prop,(∀ x,R' x->R1 x)->(∀ id∈ids,Fa w' μ' (fun j=>(outs0[j]?).join) R1 id)->VRep w' R1 μ' v u)->some (BP (fun _=>none) 6 v,([]:List (Option Blk)))=some (r,outs)->∃ u R' μ',e = .returned u/\Left w R μ (fun j=>([]:List Blk)[j]?) r outs u w' R' μ':=fun v ids a1 a2 a3=>by
  obtain ⟨R1,g⟩:=Ny hl (fun j=>hn j (zero_le _)) a1 a2;simp only [Option.some.injEq,Prod.mk.injEq] at a3;obtain ⟨rfl,rfl⟩:=a3;exact ⟨u,R1,_,he,g⟩
 clear hF1;split at h2
 ·rename_i v hv;split at hv
  ·rename_i vs0 _;obtain ⟨⟨l,ids⟩,k1,k2⟩:=Option.map_eq_some_iff.1 hv;dsimp only at k2;subst k2;refine key _ ids (El vs0 l ids k1) (fun R1 b1 b2=>?_) h2;have hval:=hl.val
   cases hval with
   | tup _ us' c1 c2=>
   have:=BR (w:=w') (R:=R') (R':=R1) (μ:=μ') (fun v v' ids u hv hf hi=>CE hl.mem b1 5 v v' ids u hv hf hi) vs0 l ids us'.toList ⟨by simp [c1],fun j v u hv hu=>c2 j v u hv (by simpa using hu)⟩ k1 b2;exact .tup l us' (by have:=this.1; simpa using this) (fun j v u hv hu=>this.2 j v u hv (by simpa using hu))
  ·obtain ⟨⟨v1,ids⟩,k1,k2⟩:=Option.map_eq_some_iff.1 hv;dsimp only at k2;subst k2;exact key _ ids (CQ 5 r0 v1 ids k1) (fun R1 b1 b2=>CE hl.mem b1 5 r0 v1 ids u hl.val k1 b2) h2
 ·cases h2
def Jx:Gm
 | [.agg [.sl TCd l]],[]=>.need (decide (l.length<=4000000000)&&nmL l) (.br (As l) (.leaf (.tp LCd (kf l 0).1 0,[])) (.leaf (.np,[])))
 | _,_=>.no
theorem Gb (a:Int) (b:By) (c:Int) (d:Bool) (e:Int) (ks:RL):JT (.ptr 0 0) [some (.box [.j a,.s b,.j c,.b d,.j e,.ref 1 0 ks.length]),R0 (.tree LCd) ks]=some (.tp LCd (.node (a,b,c,d,e,()) ((ks.drop 0).take ks.length)) 0,[]):=by kernel_rfl
theorem QJ:Ab prog 12 (Ent.rd1 Jx).F:=by
 refine D9 Pc fun vs bs r hq=>?_
 unfold Ent.F Jx at hq;dsimp only at hq;split at hq
 ·rename_i l;obtain ⟨hc,hx⟩:=Ae hq;refine ⟨rfl,?_⟩;unfold Ent.F GU;dsimp only;rw [hc]
  cases hk:As l with
  | true=>
   rw [hk] at hx;refine ⟨_,rfl,?_⟩;dsimp only;generalize (kf l 0).1=z at *;obtain ⟨⟨a,b,c,d,e,⟨⟩⟩,ks⟩:=z;refine (Gb a b c d e ks).trans ?_;rw [drop_zero,take_length];exact hx
  | false=>
   rw [hk] at hx;refine ⟨_,rfl,?_⟩;exact hx
 ·cases hq

theorem K9 (n:Nat) (a b:Rose Lab) (z0:Int) (z1:By) (z2:Int) (z3:Bool) (z4:Int) (hys:b.kids.all Ac=true) (hcy:Af b<=400000) (ks:RL) (hks:ks.all Ac=true) (hcn:Ai ks<=n) (hc6:Ai ks<=400000) : ∀ (j i:Nat) (o:RL),i+j=ks.length->o.length<=i->∀ ex d,(Br.br (Bw b.kids (ks.drop i)) (.leaf (.exit 0,([.tp LCd a 0,.tp LCd b 0,.ptr 0 0],[some (.box [.j z0,.s z1,.j z2,.b z3,.j z4,.ref 1 0 (o++Bv b.kids (ks.drop i)).length]),R0 (.tree LCd) (o++Bv b.kids (ks.drop i))]))) (.leaf (.ret,([.np],[]))):Br (Ex×Dt)).run=some (ex,d)->Runs prog (Lq n) (Aa [(11,FN n),(21,FM)]) 0 (body f13 0) (FN n) ([.tp LCd a 0,.tp LCd b 0,.ptr 0 0,.sl (.tree LCd) ks,.j (ks.length:Int),.j (i:Int)],[some (.box [.j z0,.s z1,.j z2,.b z3,.j z4,.ref 1 0 o.length]),R0 (.tree LCd) o]) ex d
 | 0,i,o,hi,ho,ex,d,h=>by
  have hr:=IB n a b z0 z1 z2 z3 z4 ks o o.length ks.length i
  try dsimp only [shr] at hr
  rw [Ah (dcF (by omega))] at hr;have e1:ks.drop i=[]:=drop_eq_nil_of_le (by omega);rw [e1,RH (show Bw b.kids []=true from rfl),Bv,append_nil] at h;obtain ⟨rfl,rfl⟩:=lfP h;exact stp hr
 | j+1,i,o,hi,ho,ex,d,h=>by
  have hl:i<ks.length:=by omega
  have hM:=mxI;have hlen:=AK ks;have hly:=AK b.kids;have hkb:=AF b;have W1:i64.wrap ((i:Int)+1)=((i+1:Nat):Int):=by rw [Ba (by omega) (by omega)]; omega
  have hd:=drop_eq_getElem_cons hl;have hm:=List.getElem_mem hl;have hrz:=all_eq_true.1 hks _ hm;have hcz:=AU hm;have hr:=IB n a b z0 z1 z2 z3 z4 ks o o.length ks.length i
  try dsimp only [shr] at hr
  rw [Aj (dcT (by omega)),T2 (by omega),ntN,gtE hl,Ao,W1,Ag (dcT (by omega))] at hr;simp only [drop_zero,take_length,AH] at hr;rw [hd] at h;generalize ks[i]=p at hr h hrz hcz;have ih:=fun x (h':(Br.br (Bw b.kids (ks.drop (i+1))) (.leaf (.exit 0,([.tp LCd a 0,.tp LCd b 0,.ptr 0 0],[some (.box [.j z0,.s z1,.j z2,.b z3,.j z4,.ref 1 0 (o++[x]++Bv b.kids (ks.drop (i+1))).length]),R0 (.tree LCd) (o++[x]++Bv b.kids (ks.drop (i+1)))]))) (.leaf (.ret,([.np],[]))):Br (Ex×Dt)).run=some (ex,d))=>K9 n a b z0 z1 z2 z3 z4 hys hcy ks hks hcn hc6 j (i+1) (o++[x]) (by omega) (by simp; omega) ex d h'
  have el : ∀ x:Rose Lab,(o++[x]).length=o.length+1:=fun x=>by simp
  cases hn:AC p.lab.2.2.1 b.kids with
  | false=>
   have e2:Bw b.kids (p::ks.drop (i+1))=Bw b.kids (ks.drop (i+1)):=by rw [Bw,hn]; rfl
   have e3:o++Bv b.kids (p::ks.drop (i+1))=o++[p]++Bv b.kids (ks.drop (i+1)):=by rw [Bv,hn,append_assoc]; rfl
   rw [e2,e3] at h;rw [hn,Bt,T2 (by omega)] at hr;have ih:=ih p h;rw [el] at ih;exact sts hr ih
  | true=>
   obtain ⟨bm,bn⟩:=DI hn;have hxr:=all_eq_true.1 hys _ bm;have hxc:=AU bm;rw [hn,Bs,Ag (dcT ⟨hrz,hxr,by omega,by omega,by omega⟩)] at hr
   cases hb:meB p (byR p.lab.2.2.1 b.kids) with
   | false=>
    rw [RI (show Bw b.kids (p::ks.drop (i+1))=false by rw [Bw,hn,hb]; rfl)] at h;obtain ⟨rfl,rfl⟩:=lfP h;rw [hb,Bt] at hr;exact stp hr
   | true=>
    have e2:Bw b.kids (p::ks.drop (i+1))=Bw b.kids (ks.drop (i+1)):=by rw [Bw,hn,hb]; rfl
    have e3:o++Bv b.kids (p::ks.drop (i+1))=o++[meV p (byR p.lab.2.2.1 b.kids)]++Bv b.kids (ks.drop (i+1)):=by rw [Bv,hn,append_assoc]; rfl
    rw [e2,e3] at h;rw [hb,Bs,T2 (by omega)] at hr;have ih:=ih _ h;rw [el] at ih;exact sts hr ih
theorem H9 (n:Nat) (a:Rose Lab) (z0:Int) (z1:By) (z2:Int) (z3:Bool) (z4:Int) (hx:a.kids.length<=1000000) (ks:RL) (hk:ks.length<=400000) : ∀ (j i:Nat) (o:RL),i+j=ks.length->o.length<=400000+i->Runs prog (Lq n) (Aa [(11,FN n),(21,FM)]) 0 (body f13 1) FM ([.tp LCd a 0,.ptr 0 0,.sl (.tree LCd) ks,.j (ks.length:Int),.j (i:Int)],[some (.box [.j z0,.s z1,.j z2,.b z3,.j z4,.ref 1 0 o.length]),R0 (.tree LCd) o]) (.exit 2) ([.ptr 0 0],[some (.box [.j z0,.s z1,.j z2,.b z3,.j z4,.ref 1 0 (o++AM a.kids (ks.drop i)).length]),R0 (.tree LCd) (o++AM a.kids (ks.drop i))])
 | 0,i,o,hi,ho=>by
  have hr:=IA n a z0 z1 z2 z3 z4 ks o o.length ks.length i
  try dsimp only [shr] at hr
  rw [Ah (dcF (by omega))] at hr;have e:o++AM a.kids (ks.drop i)=o:=by rw [drop_eq_nil_of_le (by omega)]; unfold AM; rw [List.filter_nil,append_nil]
  rw [e];exact stp hr
 | j+1,i,o,hi,ho=>by
  have hl:i<ks.length:=by omega
  have hM:=mxI;have W1:i64.wrap ((i:Int)+1)=((i+1:Nat):Int):=by rw [Ba (by omega) (by omega)]; omega
  have hd:=drop_eq_getElem_cons hl;have hr:=IA n a z0 z1 z2 z3 z4 ks o o.length ks.length i
  try dsimp only [shr] at hr
  rw [Aj (dcT (by omega)),T2 (by omega),ntN,gtE hl,Ao,W1,Ag (dcT (by omega))] at hr;simp only [drop_zero,take_length,AH] at hr;rw [hd];generalize ks[i]=p at hr ⊢
  cases hn:AC p.lab.2.2.1 a.kids with
  | true=>
   have e3:o++AM a.kids (p::ks.drop (i+1))=o++AM a.kids (ks.drop (i+1)):=by unfold AM; rw [filter_cons,hn]; rfl
   rw [hn] at hr
   try rw [Bs] at hr
   rw [e3];exact sts hr (H9 n a z0 z1 z2 z3 z4 hx ks hk j (i+1) o (by omega) (by omega))
  | false=>
   have e3:o++AM a.kids (p::ks.drop (i+1))=o++[p]++AM a.kids (ks.drop (i+1)):=by unfold AM; rw [filter_cons,hn,append_assoc]; rfl
   rw [hn] at hr
   try rw [Bt] at hr
   rw [T2 (by omega)] at hr;rw [e3];have ih:=H9 n a z0 z1 z2 z3 z4 hx ks hk j (i+1) (o++[p]) (by omega) (by simp; omega);rw [show (o++[p]).length=o.length+1 by simp] at ih;exact sts hr ih
theorem MJ (n:Nat) (b:Rose Lab) (z0:Int) (z1:By) (z2:Int) (z3:Bool) (z4:Int) (hys:b.kids.all Ac=true) (hcy:Af b<=400000) (ks:RL) (hks:ks.all Ac=true) (hcn:Ai ks<=n) (hc6:Ai ks<=400000) : ∀ (j i:Nat) (o:RL),i+j=ks.length->o.length<=i->Runs prog (Q9 n) (Aa [(11,KA n)]) 0 (body f19 0) (KA n) ([.tp LCd b 0,.ptr 0 0,.sl (.tree LCd) ks,.j (ks.length:Int),.j (i:Int)],[some (.box [.j z0,.s z1,.j z2,.b z3,.j z4,.ref 1 0 o.length]),R0 (.tree LCd) o]) (.exit 0) ([.ptr 0 0],[some (.box [.j z0,.s z1,.j z2,.b z3,.j z4,.ref 1 0 (o++Bb b.kids (ks.drop i)).length]),R0 (.tree LCd) (o++Bb b.kids (ks.drop i))])
 | 0,i,o,hi,ho=>by
  have hr:=KB n b z0 z1 z2 z3 z4 ks o o.length ks.length i
  try dsimp only [shr] at hr
  rw [Ah (dcF (by omega))] at hr;have e:o++Bb b.kids (ks.drop i)=o:=by rw [drop_eq_nil_of_le (by omega),Bb,append_nil]
  rw [e];exact stp hr
 | j+1,i,o,hi,ho=>by
  have hl:i<ks.length:=by omega
  have hM:=mxI;have hlen:=AK ks;have hly:=AK b.kids;have hkb:=AF b;have W1:i64.wrap ((i:Int)+1)=((i+1:Nat):Int):=by rw [Ba (by omega) (by omega)]; omega
  have hd:=drop_eq_getElem_cons hl;have hm:=List.getElem_mem hl;have hrz:=all_eq_true.1 hks _ hm;have hcz:=AU hm;have hr:=KB n b z0 z1 z2 z3 z4 ks o o.length ks.length i
  try dsimp only [shr] at hr
  rw [Aj (dcT (by omega)),T2 (by omega),ntN,gtE hl,Ao,W1,Ag (dcT (by omega))] at hr;simp only [drop_zero,take_length,AH] at hr;rw [hd];generalize ks[i]=p at hr hrz hcz ⊢;have ih:=fun o' (ho':o'.length<=i+1)=>MJ n b z0 z1 z2 z3 z4 hys hcy ks hks hcn hc6 j (i+1) o' (by omega) ho'
  cases hn:AC p.lab.2.2.1 b.kids with
  | false=>
   have e3:o++Bb b.kids (p::ks.drop (i+1))=o++Bb b.kids (ks.drop (i+1)):=by rw [Bb,hn]; rfl
   rw [hn,Bt] at hr;rw [e3];exact sts hr (ih _ (by omega))
  | true=>
   obtain ⟨bm,bn⟩:=DI hn;have hxr:=all_eq_true.1 hys _ bm;have hxc:=AU bm;rw [hn,Bs,Ag (dcT ⟨hrz,hxr,by omega,by omega,by omega⟩)] at hr
   cases hb:joB p (byR p.lab.2.2.1 b.kids) with
   | false=>
    have e3:o++Bb b.kids (p::ks.drop (i+1))=o++Bb b.kids (ks.drop (i+1)):=by rw [Bb,hn,hb]; rfl
    rw [hb,Bt] at hr;rw [e3];exact sts hr (ih _ (by omega))
   | true=>
    have e3:o++Bb b.kids (p::ks.drop (i+1))=o++[joV p (byR p.lab.2.2.1 b.kids)]++Bb b.kids (ks.drop (i+1)):=by rw [Bb,hn,hb,append_assoc]; rfl
    rw [hb,Bs,T2 (by omega)] at hr;rw [e3];have ih:=ih (o++[joV p (byR p.lab.2.2.1 b.kids)]) (by simp; omega);rw [show (o++[joV p (byR p.lab.2.2.1 b.kids)]).length=o.length+1 by simp] at ih;exact sts hr ih
theorem Rs (n:Nat) : ∀ d e d',((FN n).L d).run=some (e,d')->Runs prog (Lq n) (Aa [(11,FN n),(21,FM)]) 0 (body f13 0) (FN n) d e d':=fun d e d' h=>by
 unfold FN at h;dsimp only at h;split at h
 ·rename_i a b ks c i z0 z1 z2 z3 z4 m o;obtain ⟨hc,hx⟩:=Ae h;obtain ⟨h0,h1,rfl,rfl,h3,h4,h5,h6,h7,h8⟩:=of_decide_eq_true hc;obtain ⟨i,rfl⟩:=Int.eq_ofNat_of_zero_le h0;simp only [ntN] at h1 h3 hx;exact K9 n a b z0 z1 z2 z3 z4 h5 h8 ks h4 h6 h7 (ks.length-i) i o (by omega) h3 e d' hx
 ·cases h
theorem Rr (n:Nat) : ∀ d e d',(FM.L d).run=some (e,d')->Runs prog (Lq n) (Aa [(11,FN n),(21,FM)]) 0 (body f13 1) FM d e d':=fun d e d' h=>by
 unfold FM at h;dsimp only at h;split at h
 ·rename_i a ks c i z0 z1 z2 z3 z4 m o;obtain ⟨hc,hx⟩:=Ae h;obtain ⟨h0,h1,rfl,rfl,h3,h4,h5⟩:=of_decide_eq_true hc;obtain ⟨i,rfl⟩:=Int.eq_ofNat_of_zero_le h0;simp only [ntN] at h1 h3 hx;obtain ⟨rfl,rfl⟩:=Prod.mk.inj (BV hx);exact H9 n a z0 z1 z2 z3 z4 h5 ks h4 (ks.length-i) i o (by omega) h3
 ·cases h
theorem Sd (n:Nat):Az prog (Q9 n) (Aa [(11,KA n)]) 0 (f19.body.getD .skip):=by
 refine Aw (a:=body f19 0) (by kernel_rfl) fun d e d' h=>?_
 unfold KA at h;dsimp only at h;split at h
 ·rename_i b ks c i z0 z1 z2 z3 z4 m o;obtain ⟨hc,hx⟩:=Ae h;obtain ⟨h0,h1,rfl,rfl,h3,h4,h5,h6,h7,h8⟩:=of_decide_eq_true hc;obtain ⟨i,rfl⟩:=Int.eq_ofNat_of_zero_le h0;simp only [ntN] at h1 h3 hx;obtain ⟨rfl,rfl⟩:=Prod.mk.inj (BV hx);exact MJ n b z0 z1 z2 z3 z4 h5 h8 ks h4 h6 h7 (ks.length-i) i o (by omega) h3
 ·cases h
theorem Rq (n:Nat):Az prog (Lq n) (Aa [(11,FN n),(21,FM)]) 0 (f13.body.getD .skip):=
 LoopsI.loops (.cons (a:=body f13 0) (by kernel_rfl) (Rs n) (.cons (a:=body f13 1) (by kernel_rfl) (Rr n) .nil)) (by kernel_rfl)
theorem byn:Ab prog 30 (Ent.own RG).F:=by
 refine fcC (kc func50 srk KnowsL.nil).knows (Λ:=Aa []) func30 fun vs bs r hq=>?_
 unfold Ent.F RG at hq;dsimp only at hq;split at hq
 ·rename_i z0 z1 z2 z3 z4 m nl o;obtain ⟨hc,hx⟩:=Ae hq;refine ⟨Aq _,(PE z0 z1 z2 z3 z4 m nl o).trans (Eq.trans ?_ hx)⟩;rw [Ag hc]; rfl
 ·cases hq
theorem OV (z:Rose Lab):JT (.ptr 0 0) [some (.box [.j z.lab.1,.s z.lab.2.1,.j z.lab.2.2.1,.b z.lab.2.2.2.1,.j z.lab.2.2.2.2.1,.ref 1 0 z.kids.length]),R0 (.tree LCd) z.kids]=some (.tp LCd z 0,[]):=by
 obtain ⟨⟨a,b,c,d,e,⟨⟩⟩,ks⟩:=z;refine (Gb a b c d e ks).trans ?_;rw [drop_zero,take_length]
theorem OU {n:Nat} (h:Ab prog 13 (Ent.rd1 (MH n)).F):Ab prog 13 (Ent.rd1 (N5 n)).F:=by
 refine D9 h fun vs bs r hq=>?_
 unfold Ent.F N5 at hq;dsimp only at hq;split at hq
 ·rename_i a b;obtain ⟨hc,hx⟩:=Ae hq;refine ⟨rfl,?_⟩
  cases hk:meB a b with
  | true=>
   rw [hk] at hx;refine ⟨(.ptr 0 0,[some (.box [.j (meV a b).lab.1,.s (meV a b).lab.2.1,.j (meV a b).lab.2.2.1,.b (meV a b).lab.2.2.2.1,.j (meV a b).lab.2.2.2.2.1,.ref 1 0 (meV a b).kids.length]),R0 (.tree LCd) (meV a b).kids]),?_,(OV _).trans hx⟩;show (Br.need (decide (Ac a=true/\Ac b=true/\Af a<=n/\Af a<=400000/\Af b<=400000)) (.br (meB a b) (.leaf (.ptr 0 0,[some (.box [.j (meV a b).lab.1,.s (meV a b).lab.2.1,.j (meV a b).lab.2.2.1,.b (meV a b).lab.2.2.2.1,.j (meV a b).lab.2.2.2.2.1,.ref 1 0 (meV a b).kids.length]),R0 (.tree LCd) (meV a b).kids])) (.leaf (.np,[]))):Br (V×List (Option Blk))).run=_;rw [hc,hk]; rfl
  | false=>
   rw [hk] at hx;refine ⟨(.np,[]),?_,hx⟩;show (Br.need (decide (Ac a=true/\Ac b=true/\Af a<=n/\Af a<=400000/\Af b<=400000)) (.br (meB a b) (.leaf (.ptr 0 0,[some (.box [.j (meV a b).lab.1,.s (meV a b).lab.2.1,.j (meV a b).lab.2.2.1,.b (meV a b).lab.2.2.2.1,.j (meV a b).lab.2.2.2.2.1,.ref 1 0 (meV a b).kids.length]),R0 (.tree LCd) (meV a b).kids])) (.leaf (.np,[]))):Br (V×List (Option Blk))).run=_;rw [hc,hk]; rfl
 ·cases hq
theorem OZ (z:Rose Lab):JT (.ptr 0 0) [some (.box [.j z.lab.1,.s z.lab.2.1,.j z.lab.2.2.1,.b z.lab.2.2.2.1,.j z.lab.2.2.2.2.1,.ref 1 0 z.kids.length]),R0 (.tree LCd) z.kids]=some (.tp LCd z 0,[]):=by
 obtain ⟨⟨a,b,c,d,e,⟨⟩⟩,ks⟩:=z;refine (Gb a b c d e ks).trans ?_;rw [drop_zero,take_length]
theorem OY {n:Nat} (h:Ab prog 19 (Ent.rd1 (MI n)).F):Ab prog 19 (Ent.rd1 (N6 n)).F:=by
 refine D9 h fun vs bs r hq=>?_
 unfold Ent.F N6 at hq;dsimp only at hq;split at hq
 ·rename_i a b;obtain ⟨hc,hx⟩:=Ae hq;refine ⟨rfl,?_⟩
  cases hk:joB a b with
  | true=>
   rw [hk] at hx;refine ⟨(.ptr 0 0,[some (.box [.j (joV a b).lab.1,.s (joV a b).lab.2.1,.j (joV a b).lab.2.2.1,.b (joV a b).lab.2.2.2.1,.j (joV a b).lab.2.2.2.2.1,.ref 1 0 (joV a b).kids.length]),R0 (.tree LCd) (joV a b).kids]),?_,(OZ _).trans hx⟩;show (Br.need (decide (Ac a=true/\Ac b=true/\Af a<=n/\Af a<=400000/\Af b<=400000)) (.br (joB a b) (.leaf (.ptr 0 0,[some (.box [.j (joV a b).lab.1,.s (joV a b).lab.2.1,.j (joV a b).lab.2.2.1,.b (joV a b).lab.2.2.2.1,.j (joV a b).lab.2.2.2.2.1,.ref 1 0 (joV a b).kids.length]),R0 (.tree LCd) (joV a b).kids])) (.leaf (.np,[]))):Br (V×List (Option Blk))).run=_;rw [hc,hk]; rfl
  | false=>
   rw [hk] at hx;refine ⟨(.np,[]),?_,hx⟩;show (Br.need (decide (Ac a=true/\Ac b=true/\Af a<=n/\Af a<=400000/\Af b<=400000)) (.br (joB a b) (.leaf (.ptr 0 0,[some (.box [.j (joV a b).lab.1,.s (joV a b).lab.2.1,.j (joV a b).lab.2.2.1,.b (joV a b).lab.2.2.2.1,.j (joV a b).lab.2.2.2.2.1,.ref 1 0 (joV a b).kids.length]),R0 (.tree LCd) (joV a b).kids])) (.leaf (.np,[]))):Br (V×List (Option Blk))).run=_;rw [hc,hk]; rfl
 ·cases hq
theorem OW : ∀ n,(∀ m,m<n->Ab prog 13 (Ent.rd1 (N5 m)).F)->Ab prog 13 (Ent.rd1 (MH n)).F
 | 0,_=>AN fun vs bs=>by
  unfold Ent.F MH;dsimp only;split
  ·rename_i a b;have hz:=Cf a;have:decide (Ac a=true/\Ac b=true/\Af a<=0/\Af a<=400000/\Af b<=400000)=false:=dcF (by omega);rw [this]; rfl
  ·rfl
 | n+1,ihs=>by
  have ih:=ihs n (Nat.lt_succ_self n);refine Dm (kc func29 OS (kc func13 ih (kc func30 byn KnowsL.nil))).knows (Λ:=(Aa [(11,FN n),(21,FM)])) func13 (c:=f13.body.getD .skip) (by kernel_rfl) fun vs bs r hq hv hb=>?_
  unfold Ent.F MH at hq;dsimp only at hq;split at hq
  ·rename_i a b;obtain ⟨hc,hx⟩:=Ae hq;obtain ⟨h1,h2,h3,h4,h5⟩:=of_decide_eq_true hc;refine ⟨Rq n,(OT n a b).trans (Eq.trans ?_ hx)⟩;dsimp only [shr];have hM:=mxI;have hkb:=AF b;have hka:=AF a;have hlx:=AK a.kids;have hly:=AK b.kids;have k1:=BL h1;have k2:=BL h2;rw [H0 a b,LN a b]
   by_cases q1:a.lab.1=b.lab.1
   ·rw [Ah (bne_eq_false_iff_eq.2 q1),if_neg (Classical.not_not.2 q1),if_neg (Classical.not_not.2 q1)]
    by_cases q4:a.lab.1=4
    ·rw [if_pos q4,if_pos q4];obtain ⟨x,ex,hx4⟩:=Bd h1 q4;obtain ⟨y,ey,hy4⟩:=Bd h2 (q1 ▸ q4);rw [ex,Ai,Ai] at hka;rw [ey,Ai,Ai] at hkb;rw [ex,ey,LM,LO,show hd0 [y]=y from rfl,show [x][0]? = some x from rfl,show [y][0]? = some y from rfl];have nd:Ac x=true/\Ac y=true/\Af x<=n/\Af x<=400000/\Af y<=400000:=⟨hx4,hy4,by omega,by omega,by omega⟩
     rcases Bool.eq_false_or_eq_true a.lab.2.2.2.1 with q3 | q3
     all_goals
      first
       | rw [Aj q3]
       | rw [Ah q3]
      rw [Aj (beq_iff_eq.2 q4),Ag (by rfl),Ao,Ag (by rfl),Ao];simp only [AH];rw [Ag (dcT nd)];simp only [shM,Gj,q3];cases meB x y<;>rfl
    ·rw [if_neg q4,if_neg q4];have kr:=B4 h1 q4;have kr2:=B4 h2 (fun h=>q4 (q1.trans h));simp only [drop_zero,AH,nil_append];have hL:(Bv b.kids a.kids).length=a.kids.length:=by rw [CI,List.length_map]
     have hR:(AM a.kids b.kids).length<=b.kids.length:=List.length_filter_le _ _;rcases Bool.eq_false_or_eq_true a.lab.2.2.2.1 with q3 | q3
     all_goals
      first
       | rw [Aj q3]
       | rw [Ah q3]
      rw [Ah (beq_eq_false_iff_ne.2 q4),Ag (dcT ⟨by omega,by omega,by trivial,by trivial,by omega,k1,k2,by omega,by omega,by omega⟩)]
      cases hb:Bw b.kids a.kids with
      | false=>rw [Bt]; rfl
      | true=>
       have hone:Nt (Bv b.kids a.kids++AM a.kids b.kids)=true:=dcT (QG kr kr2 hb);rw [Bs,Ag (dcT ⟨by omega,by omega,by trivial,by trivial,by omega,by omega,by omega⟩),hone,Ag (by rw [Bool.and_true]; exact dcT ⟨by trivial,by rw [List.length_append]; omega⟩),cond_true];have hl:=F7 (Bv b.kids a.kids++AM a.kids b.kids) [];rw [List.length_nil,Nat.zero_add] at hl;rw [<-hl];unfold shM;rw [q3];rfl
   ·rw [Aj (bne_iff_ne.2 q1),if_pos q1,if_pos q1];rfl
  ·cases hq
theorem Qf (n:Nat):Ab prog 13 (Ent.rd1 (N5 n)).F:=Nat.strongRecOn n fun n h=>OU (OW n h)
theorem Pa : ∀ n,(∀ m,m<n->Ab prog 19 (Ent.rd1 (N6 m)).F)->Ab prog 19 (Ent.rd1 (MI n)).F
 | 0,_=>AN fun vs bs=>by
  unfold Ent.F MI;dsimp only;split
  ·rename_i a b;have hz:=Cf a;have:decide (Ac a=true/\Ac b=true/\Af a<=0/\Af a<=400000/\Af b<=400000)=false:=dcF (by omega);rw [this]; rfl
  ·rfl
 | n+1,ihs=>by
  have ih:=ihs n (Nat.lt_succ_self n);refine fcC (kc func29 OS (kc func19 ih KnowsL.nil)).knows (Λ:=(Aa [(11,KA n)])) func19 fun vs bs r hq=>?_
  unfold Ent.F MI at hq;dsimp only at hq;split at hq
  ·rename_i a b;obtain ⟨hc,hx⟩:=Ae hq;obtain ⟨h1,h2,h3,h4,h5⟩:=of_decide_eq_true hc;refine ⟨Sd n,(OX n a b).trans (Eq.trans ?_ hx)⟩;dsimp only [shr];have hM:=mxI;have hkb:=AF b;have hka:=AF a;have hlx:=AK a.kids;have hly:=AK b.kids;have k1:=BL h1;have k2:=BL h2;rw [Fs a b,HF a b]
   by_cases q1:a.lab.1=b.lab.1
   ·rw [Ah (bne_eq_false_iff_eq.2 q1),if_neg (Classical.not_not.2 q1),if_neg (Classical.not_not.2 q1)]
    by_cases q4:a.lab.1=4
    ·rw [if_pos q4,if_pos q4];obtain ⟨x,ex,hx4⟩:=Bd h1 q4;obtain ⟨y,ey,hy4⟩:=Bd h2 (q1 ▸ q4);rw [ex,Ai,Ai] at hka;rw [ey,Ai,Ai] at hkb;rw [ex,ey,KM,KN,show hd0 [y]=y from rfl,show [x][0]? = some x from rfl,show [y][0]? = some y from rfl];have nd:Ac x=true/\Ac y=true/\Af x<=n/\Af x<=400000/\Af y<=400000:=⟨hx4,hy4,by omega,by omega,by omega⟩
     rcases Bool.eq_false_or_eq_true a.lab.2.2.2.1 with q3 | q3
     all_goals
      first
       | rw [Aj q3]
       | rw [Ah q3]
      rw [Aj (beq_iff_eq.2 q4),Ag (by rfl),Ao,Ag (by rfl),Ao];simp only [AH];rw [Ag (dcT nd)];simp only [shJ,Fd,q3];cases joB x y<;>rfl
    ·rw [if_neg q4,if_neg q4];have kr:=B4 h1 q4;have kr2:=B4 h2 (fun h=>q4 (q1.trans h));simp only [drop_zero,AH,nil_append];rcases Bool.eq_false_or_eq_true a.lab.2.2.2.1 with q3 | q3
     all_goals
      first
       | rw [Aj q3]
       | rw [Ah q3]
      rw [Ah (beq_eq_false_iff_ne.2 q4),Ag (dcT ⟨by omega,by omega,by trivial,by trivial,by omega,k1,k2,by omega,by omega,by omega⟩)];unfold shJ;rw [q3];rfl
   ·rw [Aj (bne_iff_ne.2 q1),if_pos q1,if_pos q1];rfl
  ·cases hq
theorem Qg (n:Nat):Ab prog 19 (Ent.rd1 (N6 n)).F:=Nat.strongRecOn n fun n h=>OY (Pa n h)


def Cu (a b:List Ty):Bool:=As a&&As b
def Cv (a b:List Ty):Bool:=Cu a b&&CA (t2L b 0) (t2L a 0)
def Qm:Gm
 | [.agg [.sl TCd v],.agg [.sl TCd l]],[]=>.need ((decide (v.length<=4000000000)&&nmL v)&&(decide (l.length<=4000000000)&&nmL l)) (.leaf (.tup [.b (Cv v l),.b (Cu v l)],[]))
 | _,_=>.no
theorem ND (v l:List Ty):BX prog (Aa [(12,.rd1 GU),(21,.rd1 (L0 1000))]) (Aa []) f10 [.agg [.sl TCd v],.agg [.sl TCd l]] [] =
 ((shr (kf v 0).1 fun sh6=>shr (kf l 0).1 fun sh5=>shr sh6.lab.2 fun sh4=>shr sh5.lab.2 fun sh3=>shr (Rose.node (sh6.lab.1,sh4.1,
 sh4.2.1,sh4.2.2.1,sh4.2.2.2.1,()) (take sh6.kids.length (drop 0 sh6.kids))) fun sh2=>shr (Rose.node (sh5.lab.1,sh3.1,
 sh3.2.1,sh3.2.2.1,sh3.2.2.2.1,()) (take sh5.kids.length (drop 0 sh5.kids))) fun sh1=>ifT (decide (v.length<=4000000000)
 && nmL v) (ifB (As v) (ifT (decide (l.length<=4000000000)&&nmL l) (ifB (As l) (ifT (decide (Ac sh2=true/\Ac sh1=true/\Af sh1<=(1000 :
 Nat)/\Af sh1<=1000000/\Af sh2<=1000000)) (some (V.tup [V.b (CA sh1 sh2),V.b true],[]))) (some (V.tup [V.b false,V.b false],[])))) (ifT
 (decide (l.length<=4000000000)&&nmL l) (ifB (As l) (some (V.tup [V.b false,V.b false],[])) (some (V.tup [V.b false,V.b false],[])))))):_):=by kernel_rfl
theorem S7:Ab prog 10 (Ent.rd1 Qm).F:=by
 refine fcC (kc func12 Pc (kc func21 (PM 1000) KnowsL.nil)).knows (Λ:=Aa []) func10 fun vs bs r hq=>?_
 unfold Ent.F Qm at hq;dsimp only at hq;split at hq
 ·rename_i v l;obtain ⟨hc,hx⟩:=Ae hq;refine ⟨Aq _,(ND v l).trans (Eq.trans ?_ hx)⟩
  try dsimp only [shr]
  show _=some _;have hc':=hc;rw [anE] at hc';rw [hc'.1,hc'.2];simp only [CG,Eo];unfold Cv Cu;cases h1:As v<;>cases h2:As l
  all_goals first
   | rfl
   | skip
  obtain ⟨a1,a2,a3,a4⟩:=En h1;obtain ⟨b1,b2,b3,b4⟩:=En h2;have l1:v.length<=4000000000:=by have:=hc'.1; rw [anE,dcE] at this; exact this.1
  have l2:l.length<=4000000000:=by have:=hc'.2; rw [anE,dcE] at this; exact this.1
  have c1:=(Bg (Cp h1).1).2.2;have c2:=(Bg (Cp h2).1).2.2;simp only [a4,b4,Bs,Bool.true_and]
  try rw [Ag (dcT ⟨by omega,a1,l1⟩),Ag (dcT ⟨by omega,b1,l2⟩)]
  rw [Ag (dcT ⟨a3,b3,by omega,by omega,by omega⟩)]
 ·cases hq
def Hz (a b:List Ty):Rose Lab:=meV (t2L a 0) (t2L b 0)
def EQ (a b:List Ty):Bool:=(As a&&As b)&&(meB (t2L a 0) (t2L b 0)&&AZ (Hz a b))
def BF (a b:List Ty):List Ty:=bif EQ a b then Al (Hz a b) (-1) 0 else []
def HE (a b:List Ty):Rose Lab:=joV (t2L a 0) (t2L b 0)
def Es (a b:List Ty):Bool:=(As a&&As b)&&AZ (HE a b)
def AA (a b:List Ty):List Ty:=bif Es a b then Al (HE a b) (-1) 0 else []
theorem Pp : ∀ l:RL,hoL l=l.all hoR
 | []=>rfl
 | z::l=>by rw [hoL,Pp l]; rfl
theorem M7 : ∀ l:RL,CR l=l.all AX
 | []=>rfl
 | z::l=>by rw [CR,M7 l]; rfl
theorem Mj (z:Rose Lab):hoR z=((Au z.lab.1||z.kids.isEmpty)&&z.kids.all hoR):=by cases z; rw [hoR,Pp]; rfl
theorem Jt (z:Rose Lab):AX z=(decide (z.lab.2.1.length<=maxI)&&z.kids.all AX):=by cases z; rw [AX,M7]; rfl
theorem GQ {z:Rose Lab} (h:Ac z=true) (hh:Au z.lab.1=false):z.kids=[]:=by
 have hp:=(Cq h).1;have hk:=Dw hp;unfold B8 at hp;unfold Au at hh;rw [Bool.or_eq_false_iff,beq_eq_false_iff_ne,beq_eq_false_iff_ne] at hh;split at hp
 ·rw [anE] at hp; simpa using hp.2
 ·split at hp
  ·rw [anE] at hp; simpa using hp.2
  ·omega
theorem KP : ∀ z:Rose Lab,Ac z=true->hoR z=true:=CF fun z ih hr=>by
 rw [Mj,anE,all_eq_true];refine ⟨?_,fun p hp=>ih p hp (A5 hr hp)⟩
 cases hh:Au z.lab.1 with
 | true=>rfl
 | false=>rw [GQ hr hh]; rfl
theorem BO {z p:Rose Lab} (h:AX z=true) (hp:p∈z.kids):AX p=true:=by
 rw [Jt,anE] at h;exact all_eq_true.1 h.2 p hp
theorem MS (z:Rose Lab) : ∀ o:RL,Ai (Cc o z)=Af z+Ai o
 | []=>by simp [M0,Ai]
 | y::o=>by
  rw [Hr];split
  ·rw [Ai,MS z o,Ai]; omega
  ·rw [Ai]
theorem Lb : ∀ l o:RL,Ai (A0 o l)=Ai o+Ai l
 | [],o=>by unfold A0; rw [Ai]; rfl
 | z::l,o=>by
  show Ai (A0 (Cc o z) l)=_;rw [Lb l,MS,Ai]; omega
theorem MT : ∀ l m:RL,Ai (l++m)=Ai l+Ai m
 | [],m=>by rw [nil_append,Ai]; omega
 | z::l,m=>by rw [List.cons_append,Ai,Ai,MT l m]; omega
theorem HW (q:Rose Lab->Bool) : ∀ l:RL,Ai (l.filter q)<=Ai l
 | []=>Nat.le_refl _
 | z::l=>by
  have:=HW q l;rw [filter_cons];split
  ·rw [Ai,Ai]; omega
  ·rw [Ai]; omega
theorem Lc {zs:RL} (hz:zs.Pairwise KR) : ∀ ks:RL,(∀ p∈ks,∀ q∈zs,meB p q=true->Af (meV p q)<=Af p*(Af q+1))->Bw zs ks=true->Ai (Bv zs ks)<=Ai ks*(Ai zs+1)
 | [],_,_=>by rw [Bv,Ai]; exact zero_le _
 | p::ks,h,hb=>by
  have hb':=hb;rw [Bw,anE] at hb';have ih:=Lc hz ks (fun p hp=>h p (List.mem_cons_of_mem _ hp)) hb'.2;rw [Bv,Ai,Ai,add_mul];refine Nat.add_le_add ?_ ih
  cases hh:AC p.lab.2.2.1 zs with
  | false=>
   rw [cond_false];exact Nat.le_mul_of_pos_right _ (Nat.succ_pos _)
  | true=>
   rw [cond_true];obtain ⟨b1,_⟩:=FX hz hh;have:=h p mem_cons_self _ b1 (DD.1 hb p mem_cons_self hh);exact Nat.le_trans this (Nat.mul_le_mul_left _ (by have:=AU b1; omega))
theorem Ju : ∀ a:Rose Lab,Ac a=true->AX a=true->∀ b:Rose Lab,Ac b=true->AX b=true->meB a b=true->hoR (meV a b)=true/\AX (meV a b)=true/\Af (meV a b)<=Af a*(Af b+1):=CF fun a ih ha na b hb nb h=>by
 obtain ⟨_,hlab,hk⟩:=Ks h;have e1:(meV a b).lab.1=a.lab.1:=by rw [hlab]; rfl
 have e2:(meV a b).lab.2.1=a.lab.2.1:=by rw [hlab]; rfl
 have nl:=Hx na;have ca:=AF a;have cb:=AF b;have cm:=AF (meV a b);rw [LN,if_neg (by omega)] at h;rw [Mj,Jt,e1,e2,dcT nl,Bool.true_and,anE,all_eq_true,all_eq_true]
 by_cases h4:a.lab.1=4
 ·rw [if_pos h4] at h;obtain ⟨p,ep,hp⟩:=Bd ha h4;obtain ⟨q,eq,hq⟩:=Bd hb (hk ▸ h4)
  have ek:(meV a b).kids=[meV p q]:=by
   rw [H0,if_neg (by omega),if_pos h4,ep,eq,LM]; rfl
  have hm:meB p q=true:=by rw [ep,eq,LO] at h; exact h
  obtain ⟨s1,s2,s3⟩:=ih p (by rw [ep]; exact mem_cons_self) hp (BO na (by rw [ep]; exact mem_cons_self)) q hq (BO nb (by rw [eq]; exact mem_cons_self)) hm;rw [ek];refine ⟨⟨by rw [h4]; rfl,fun x hx=>by rw [mem_singleton.1 hx]; exact s1⟩,fun x hx=>by rw [mem_singleton.1 hx]; exact s2,?_⟩;rw [ek,Ai,Ai] at cm;rw [ep,Ai,Ai] at ca;rw [eq,Ai,Ai] at cb;rw [show Af (meV a b)=Af (meV p q)+1 by omega,show Af a=Af p+1 by omega,show Af b=Af q+1 by omega,add_mul,Nat.mul_add (Af p) (Af q+1) 1];omega
 ·rw [if_neg h4] at h;have ka:=B4 ha h4;have kb:=B4 hb (by omega)
  have ek:(meV a b).kids=A0 [] (Bv b.kids a.kids++AM a.kids b.kids):=by
   rw [H0,if_neg (by omega),if_neg h4,h]; rfl
  have hcl:=Lc kb a.kids (fun p hp q hq hm=>(ih p hp (A5 ha hp) (BO na hp) q (A5 hb hq) (BO nb hq) hm).2.2) h
  have mem : ∀ x∈(meV a b).kids,(∃ p∈a.kids,∃ q∈b.kids,meB p q=true/\x=meV p q)\/x∈a.kids\/x∈b.kids:=fun x hx=>by
   rw [ek,DB,List.mem_append,CI] at hx;rcases hx with hx | hx | hx
   ·cases hx
   ·obtain ⟨p,hp,rfl⟩:=List.mem_map.1 hx
    cases hh:AC p.lab.2.2.1 b.kids with
    | true=>exact .inl ⟨p,hp,_,(FX kb hh).1,DD.1 h p hp hh,rfl⟩
    | false=>exact .inr (.inl hp)
   ·exact .inr (.inr (List.mem_filter.1 hx).1)
  refine ⟨⟨?_,fun x hx=>?_⟩,fun x hx=>?_,?_⟩
  ·cases hh:Au a.lab.1 with
   | true=>rfl
   | false=>
    rw [ek,GQ ha hh,GQ hb (by rw [<-hk]; exact hh)]; rfl
  ·rcases mem x hx with ⟨p,hp,q,hq,hm,rfl⟩ | hx | hx
   ·exact (ih p hp (A5 ha hp) (BO na hp) q (A5 hb hq) (BO nb hq) hm).1
   ·exact KP x (A5 ha hx)
   ·exact KP x (A5 hb hx)
  ·rcases mem x hx with ⟨p,hp,q,hq,hm,rfl⟩ | hx | hx
   ·exact (ih p hp (A5 ha hp) (BO na hp) q (A5 hb hq) (BO nb hq) hm).2.1
   ·exact BO na hx
   ·exact BO nb hx
  ·have hr:Ai (AM a.kids b.kids)<=Ai b.kids:=HW _ _;rw [ek,Lb,MT] at cm;have e0:Ai ([]:RL)=0:=rfl;rw [e0] at cm
   have e3:Ai a.kids*(Ai b.kids+1)+Ai b.kids+1<=(Ai a.kids+1)*(Ai b.kids+1+1):=by
    rw [add_mul,Nat.mul_add _ (Ai b.kids+1) 1]; omega
   rw [show Af a=Ai a.kids+1 by omega,show Af b=Ai b.kids+1 by omega];omega
theorem Ld {zs:RL} (hz:zs.Pairwise KR) : ∀ ks:RL,(∀ p∈ks,∀ q∈zs,joB p q=true->Af (joV p q)<=Af p)->Ai (Bb zs ks)<=Ai ks
 | [],_=>by rw [Bb]; exact Nat.le_refl _
 | p::ks,h=>by
  have ih:=Ld hz ks (fun p hp=>h p (List.mem_cons_of_mem _ hp));rw [Bb]
  cases hh:AC p.lab.2.2.1 zs&&joB p (byR p.lab.2.2.1 zs) with
  | false=>rw [cond_false,Ai]; omega
  | true=>
   rw [anE] at hh;have:=h p mem_cons_self _ (FX hz hh.1).1 hh.2;rw [cond_true,Ai,Ai]; omega
theorem J2 : ∀ a:Rose Lab,Ac a=true->AX a=true->∀ b:Rose Lab,Ac b=true->joB a b=true->hoR (joV a b)=true/\AX (joV a b)=true/\Af (joV a b)<=Af a:=CF fun a ih ha na b hb h=>by
 obtain ⟨_,hlab,hk⟩:=GD h;have e1:(joV a b).lab.1=a.lab.1:=by rw [hlab]; rfl
 have e2:(joV a b).lab.2.1=a.lab.2.1:=by rw [hlab]; rfl
 have nl:=Hx na;have ca:=AF a;have cm:=AF (joV a b);rw [HF,if_neg (by omega)] at h;rw [Mj,Jt,e1,e2,dcT nl,Bool.true_and,anE,all_eq_true,all_eq_true]
 by_cases h4:a.lab.1=4
 ·rw [if_pos h4] at h;obtain ⟨p,ep,hp⟩:=Bd ha h4;obtain ⟨q,eq,hq⟩:=Bd hb (hk ▸ h4)
  have ek:(joV a b).kids=[joV p q]:=by
   rw [Fs,if_neg (by omega),if_pos h4,ep,eq,KM]; rfl
  have hm:joB p q=true:=by rw [ep,eq,KN] at h; exact h
  obtain ⟨s1,s2,s3⟩:=ih p (by rw [ep]; exact mem_cons_self) hp (BO na (by rw [ep]; exact mem_cons_self)) q hq hm;rw [ek];refine ⟨⟨by rw [h4]; rfl,fun x hx=>by rw [mem_singleton.1 hx]; exact s1⟩,fun x hx=>by rw [mem_singleton.1 hx]; exact s2,?_⟩;rw [ek,Ai,Ai] at cm;rw [ep,Ai,Ai] at ca;omega
 ·have ka:=B4 ha h4;have kb:=B4 hb (by omega)
  have ek:(joV a b).kids=Bb b.kids a.kids:=by
   rw [Fs,if_neg (by omega),if_neg h4]; rfl
  have hcl:=Ld kb a.kids (fun p hp q hq hm=>(ih p hp (A5 ha hp) (BO na hp) q (A5 hb hq) hm).2.2)
  have mem : ∀ x∈(joV a b).kids,∃ p∈a.kids,∃ q∈b.kids,joB p q=true/\x=joV p q:=fun x hx=>by
   rw [ek] at hx;obtain ⟨p,hp,j1,j2,rfl⟩:=Dl.1 hx;exact ⟨p,hp,_,(FX kb j1).1,j2,rfl⟩
  refine ⟨⟨?_,fun x hx=>?_⟩,fun x hx=>?_,by rw [ek] at cm; omega⟩
  ·cases hh:Au a.lab.1 with
   | true=>rfl
   | false=>rw [ek,GQ ha hh,Bb]; rfl
  ·obtain ⟨p,hp,q,hq,hm,rfl⟩:=mem x hx;exact (ih p hp (A5 ha hp) (BO na hp) q (A5 hb hq) hm).1
  ·obtain ⟨p,hp,q,hq,hm,rfl⟩:=mem x hx;exact (ih p hp (A5 ha hp) (BO na hp) q (A5 hb hq) hm).2.1
mutual
theorem Iv (l:List Ty) : ∀ (z:Rose Lab),hoR z=true->∀ (up:Int) (s:Nat),Cl l s (Al z up s)->Kl l s (s+Af z)->kf l s=(z,s+Af z)
 | .node x ks,hr,up,s,hl,he=>by
  rw [hoR,anE] at hr;rw [Al,Cl] at hl
  have hs:s<l.length:=by
   by_cases h:s<l.length
   ·exact h
   ·rw [List.getElem?_eq_none (by omega)] at hl; cases hl.1
  have hlab:At l s=x:=by unfold At; rw [hl.1]
  rw [Af] at he ⊢;rw [KG hs,hlab]
  cases hh:Au x.1 with
  | true=>
   have:=F2 l ks hr.2 s (s+1) (by omega) hl.2 (by rw [show s+1+Ai ks=s+(Ai ks+1) by omega]; exact he) l.length [] (by omega);rw [cond_true,this,nil_append,show s+1+Ai ks=s+(Ai ks+1) by omega]
  | false=>
   have h0:ks=[]:=by
    have h1:=hr.1;rw [hh,Bool.false_or,List.isEmpty_iff] at h1;exact h1
   subst h0;rw [cond_false,Ai]
theorem F2 (l:List Ty) : ∀ (ks:RL),hoL ks=true->∀ (s p:Nat),s<p->Cl l p (A9 ks s p)->Kl l s (p+Ai ks)->∀ (n:Nat) (acc:RL),l.length-p<=n->AL (kf l) l s n p acc=(acc++ks,p+Ai ks)
 | [],_,s,p,_,_,he,n,acc,_=>by
  rw [Ai] at he ⊢;rw [Nat.add_zero] at he ⊢;rw [DW (he s (Nat.le_refl _)),append_nil]
 | z::ks,hr,s,p,hsp,hl,he,n,acc,hn=>by
  rw [hoL,anE] at hr;rw [A9,Gl,B7] at hl;rw [Ai,<-Nat.add_assoc] at he ⊢;have hk:=Iv l z hr.1 s p hl.1 (I5 hl.2 he hsp)
  have hu:AG l p=some (s:Int):=by
   have:=hl.1;rw [Cx,Cl] at this;unfold AG;rw [this.1]; rfl
  have hpl:=Ds hu;have hb:=Dk l p hpl;obtain ⟨n,rfl⟩ : ∃ m,n=m+1:=⟨n-1,by omega⟩
  rw [hk] at hb;dsimp only at hb;rw [AL,if_pos hu,hk];dsimp only;rw [F2 l ks hr.2 s (p+Af z) (by omega) hl.2 he n _ (by omega),append_assoc];rfl
end
theorem Ix {z:Rose Lab} (h:hoR z=true):As (Al z (-1) 0)=AZ z:=by
 have hlen:=B7 z (-1) 0
 have hoff:Kl (Al z (-1) 0) 0 (0+Af z):=fun j _ hu=>by
  have:=Ds hu;omega
 have hk:=Iv (Al z (-1) 0) z h (-1) 0 (Fn _ _ [] rfl) hoff;have hp:=Cf z;have hu:AG (Al z (-1) 0) 0=some (-1):=by rw [Cx]; rfl
 unfold As;rw [hk,hu,hlen]
 cases hg:AZ z with
 | false=>rw [Bool.and_false]
 | true=>
  have hc:=(Bg hg).2.2;rw [dcT (show 1<=Af z/\Af z<=30 from ⟨hp,hc⟩)]; simp
theorem IK {z:Rose Lab} (h:AZ z=true):As (Al z (-1) 0)=true/\t2L (Al z (-1) 0) 0=z:=by
 obtain ⟨h1,h2⟩:=Mk h;exact ⟨h1,(En h1).2.2.2.symm.trans h2⟩
theorem Ko {a b:List Ty} (h:EQ a b=true):As a=true/\As b=true/\meB (t2L a 0) (t2L b 0)=true/\As (BF a b)=true/\t2L (BF a b) 0=Hz a b/\BF a b=Al (Hz a b) (-1) 0/\AZ (Hz a b)=true:=by
 have e:BF a b=Al (Hz a b) (-1) 0:=by unfold BF; rw [h]; rfl
 unfold EQ at h;simp only [anE] at h;obtain ⟨h1,h2⟩:=IK h.2.2;rw [e];exact ⟨h.1.1,h.1.2,h.2.1,h1,h2,rfl,h.2.2⟩
theorem KJ {a b:List Ty} (h:Es a b=true):As a=true/\As b=true/\As (AA a b)=true/\t2L (AA a b) 0=HE a b/\AA a b=Al (HE a b) (-1) 0/\AZ (HE a b)=true:=by
 have e:AA a b=Al (HE a b) (-1) 0:=by unfold AA; rw [h]; rfl
 unfold Es at h;simp only [anE] at h;obtain ⟨h1,h2⟩:=IK h.2;rw [e];exact ⟨h.1.1,h.1.2,h1,h2,rfl,h.2⟩
theorem B9 {a:List Ty} (h:As a=true):Ac (t2L a 0)=true/\(t2L a 0).lab.1=5:=by
 have:=Bg (Cp h).1;exact ⟨this.2.1,this.1⟩
theorem J1 {a b:Rose Lab} (ha:a.lab.1=5) (hb:b.lab.1=5):joB a b=true:=by
 rw [HF,if_neg (by omega),if_neg (by omega)]
theorem PY {a b:List Ty} (h:EQ a b=true):Cu (BF a b) a=true/\Cv (BF a b) a=true/\Cu (BF a b) b=true/\Cv (BF a b) b=true:=by
 obtain ⟨h1,h2,h3,h4,h5,_⟩:=Ko h;obtain ⟨l1,l2⟩:=OI _ (B9 h1).1 _ (B9 h2).1 h3;unfold Cv Cu;rw [h4,h1,h2,h5];unfold Hz;rw [l1,l2];exact ⟨rfl,rfl,rfl,rfl⟩
theorem Qk {a b:List Ty} (h:Es a b=true):(Cu a (AA a b)=true/\Cv a (AA a b)=true/\Cu b (AA a b)=true/\Cv b (AA a b)=true)/\(Cv a b=true->Cu (AA a b) b=true/\Cv (AA a b) b=true):=by
 obtain ⟨h1,h2,h4,h5,_⟩:=KJ h;obtain ⟨r1,m1⟩:=B9 h1;obtain ⟨r2,m2⟩:=B9 h2;obtain ⟨l1,l2⟩:=Pj _ r1 _ r2 (J1 m1 m2);unfold Cv Cu;rw [h4,h1,h2,h5];unfold HE;rw [l1,l2];refine ⟨⟨rfl,rfl,rfl,rfl⟩,fun hs=>?_⟩;have hs:CA (t2L b 0) (t2L a 0)=true:=hs;rw [(Ql _ r2 _ r1 hs).2];exact ⟨rfl,rfl⟩
def Jy:Gm
 | [.np],[]=>.leaf (.b false,[])
 | _,_=>.no
def LX:Gm
 | [.np],[]=>.leaf (.tup [.agg [.ref 0 0 0],.b false],[R0 TCd []])
 | _,_=>.no
def ME (vs:List V) (bs:List Blk):Br (V×List (Option Blk)):=match vs with | [.np]=>LX vs bs | _=>Jc vs bs
def Kp:Gm
 | [.agg [.sl TCd v],.agg [.sl TCd l]],[]=>.need ((decide (v.length<=4000000000)&&nmL v)&&(decide (l.length<=4000000000)&&nmL l)) (.leaf (.tup [.agg [.ref 0 0 (BF v l).length],.b (EQ v l)],[R0 TCd (BF v l)]))
 | _,_=>.no
def KL:Gm
 | [.agg [.sl TCd v],.agg [.sl TCd l]],[]=>.need ((decide (v.length<=4000000000)&&nmL v)&&(decide (l.length<=4000000000)&&nmL l)) (.leaf (.tup [.agg [.ref 0 0 (AA v l).length],.b (Es v l)],[R0 TCd (AA v l)]))
 | _,_=>.no
theorem KE:BX prog (Aa []) (Aa []) f28 [.np] [] =
 (nF:_):=by kernel_rfl
theorem LW:BX prog (Aa [(28,.rd1 Jy)]) (Aa []) f14 [.np] [] =
 ((some (V.tup [V.agg [V.ref 0 0 0],V.b false],[R0 TCd (Ar TCd.den)])):_):=by kernel_rfl
theorem NB (v l:List Ty):BX prog (Aa [(12,.rd1 Jx),(13,.rd1 (N5 1000)),(14,.rd1 ME)]) (Aa []) f5 [.agg [.sl TCd v],.agg [.sl TCd l]] [] =
 ((shr (Ar TCd.den) fun sh3=>shr (kf l 0).1 fun sh2=>shr (kf v 0).1 fun sh1=>ifT (decide (v.length<=4000000000)&&nmL v) (ifB (As v)
 (ifT (decide (l.length<=4000000000)&&nmL l) (ifB (As l) (ifT (decide (Ac sh1=true/\Ac sh2=true/\Af sh1<=1000/\Af sh1<=(400000 :
 Nat)/\Af sh2<=400000)) (ifB (meB sh1 sh2) (ifT (decide (Af (meV sh1 sh2)<=1000000/\AX (meV sh1 sh2)=true)) (ifB (AZ (meV sh1 sh2)) (some
 (V.tup [V.agg [V.ref 0 0 (Al (meV sh1 sh2) (-1:Int) 0).length],V.b true],[R0 TCd (Al (meV sh1 sh2) (-1:Int) 0)]))
 (some (V.tup [V.agg [V.ref 0 0 0],V.b false],[R0 TCd sh3])))) (some (V.tup [V.agg [V.ref 0 0 0],V.b false],[R0 TCd
 sh3])))) (some (V.tup [V.agg [V.ref 0 0 0],V.b false],[R0 TCd sh3])))) (ifT (decide (l.length<=4000000000)&&nmL l) (ifB (As l)
 (some (V.tup [V.agg [V.ref 0 0 0],V.b false],[R0 TCd sh3])) (some (V.tup [V.agg [V.ref 0 0 0],V.b false],[R0 TCd
 sh3])))))):_):=by kernel_rfl
theorem Nh (v l:List Ty):BX prog (Aa [(15,.rd1 HH),(17,.rd1 FI),(16,.rd1 (L4 1000)),(18,.rd1 Iy)]) (Aa []) f6 [.agg [.sl TCd v],.agg [.sl TCd l]] [] =
 ((shr (Ar TCd.den) fun sh6=>shr (t2L l 0).lab.2 fun sh5=>shr (t2L v 0).lab.2 fun sh4=>shr (Rose.node ((t2L l 0).lab.1,sh5.1,
 sh5.2.1,sh5.2.2.1,sh5.2.2.2.1,()) (take (t2L l 0).kids.length (drop 0 (t2L l 0).kids))) fun sh3=>shr (Rose.node
 ((t2L v 0).lab.1,sh4.1,sh4.2.1,sh4.2.2.1,sh4.2.2.2.1,()) (take (t2L v 0).kids.length (drop 0 (t2L v (0 :
 Nat)).kids))) fun sh2=>shr (meV sh2 sh3) fun sh1=>ifT (decide (v.length<=4000000000)&&nmL v) (ifB (!As v) (some (V.tup [V.agg [V.ref 0 0 0],V.b false],
 [R0 TCd sh6])) (ifT (decide (l.length<=4000000000)&&nmL l) (ifB (!As l) (some (V.tup [V.agg [V.ref 0 0 0],V.b false],[R0 TCd sh6])) (ifT (decide ((0:Int)<=(0:Int)/\0<v.length/\v.length<=4000000000)) (ifT (decide ((0:Int)<=(0:Int)/\0 <
 l.length/\l.length<=4000000000)) (ifT (decide (Ac sh2=true/\Ac sh3=true/\Af sh2<=1000/\Af sh2<=400000/\Af sh3<=(400000
 : Nat))) (ifB (!meB sh2 sh3) (some (V.tup [V.agg [V.ref 0 0 0],V.b false],[R0 TCd sh6])) (ifT (decide (Ai (take sh1.kids.length (drop
 0 sh1.kids))+1<=2000000)&&nmL (Al (Rose.node (sh1.lab.1,sh1.lab.2.1,sh1.lab.2.2.1,sh1.lab.2.2.2.1,
 sh1.lab.2.2.2.2.1,()) (take sh1.kids.length (drop 0 sh1.kids))) (-1:Int) 0)) (ifB (As (Al (Rose.node (sh1.lab.1,
 sh1.lab.2.1,sh1.lab.2.2.1,sh1.lab.2.2.2.1,sh1.lab.2.2.2.2.1,()) (take sh1.kids.length (drop 0 sh1.kids))) (-1:Int) (0
 : Nat))) (some (V.tup [V.agg [V.ref 0 0 (Al (Rose.node (sh1.lab.1,sh1.lab.2.1,sh1.lab.2.2.1,sh1.lab.2.2.2.1,sh1.lab.2.2.2.2.1,())
 (take sh1.kids.length (drop 0 sh1.kids))) (-1:Int) 0).length],V.b true],[R0 TCd (Al (Rose.node (sh1.lab.1,
 sh1.lab.2.1,sh1.lab.2.2.1,sh1.lab.2.2.2.1,sh1.lab.2.2.2.2.1,()) (take sh1.kids.length (drop 0 sh1.kids))) (-1:Int) (0
 : Nat))])) (some (V.tup [V.agg [V.ref 0 0 0],V.b false],[R0 TCd sh6])))))))))))):_):=by kernel_rfl
theorem NC (v l:List Ty):BX prog (Aa [(12,.rd1 Jx),(19,.rd1 (N6 1000)),(14,.rd1 ME)]) (Aa []) f7 [.agg [.sl TCd v],.agg [.sl TCd l]] [] =
 ((shr (Ar TCd.den) fun sh3=>shr (kf l 0).1 fun sh2=>shr (kf v 0).1 fun sh1=>ifT (decide (v.length<=4000000000)&&nmL v) (ifB (As v)
 (ifT (decide (l.length<=4000000000)&&nmL l) (ifB (As l) (ifT (decide (Ac sh1=true/\Ac sh2=true/\Af sh1<=1000/\Af sh1<=(400000 :
 Nat)/\Af sh2<=400000)) (ifB (joB sh1 sh2) (ifT (decide (Af (joV sh1 sh2)<=1000000/\AX (joV sh1 sh2)=true)) (ifB (AZ (joV sh1 sh2)) (some
 (V.tup [V.agg [V.ref 0 0 (Al (joV sh1 sh2) (-1:Int) 0).length],V.b true],[R0 TCd (Al (joV sh1 sh2) (-1:Int) 0)]))
 (some (V.tup [V.agg [V.ref 0 0 0],V.b false],[R0 TCd sh3])))) (some (V.tup [V.agg [V.ref 0 0 0],V.b false],[R0 TCd
 sh3])))) (some (V.tup [V.agg [V.ref 0 0 0],V.b false],[R0 TCd sh3])))) (ifT (decide (l.length<=4000000000)&&nmL l) (ifB (As l)
 (some (V.tup [V.agg [V.ref 0 0 0],V.b false],[R0 TCd sh3])) (some (V.tup [V.agg [V.ref 0 0 0],V.b false],[R0 TCd
 sh3])))))):_):=by kernel_rfl
theorem Ni (v l:List Ty):BX prog (Aa [(15,.rd1 HH),(17,.rd1 FI),(20,.rd1 (L7 1000)),(18,.rd1 Iy)]) (Aa []) f8 [.agg [.sl TCd v],.agg [.sl TCd l]] [] =
 ((shr (Ar TCd.den) fun sh6=>shr (t2L l 0).lab.2 fun sh5=>shr (t2L v 0).lab.2 fun sh4=>shr (Rose.node ((t2L l 0).lab.1,sh5.1,
 sh5.2.1,sh5.2.2.1,sh5.2.2.2.1,()) (take (t2L l 0).kids.length (drop 0 (t2L l 0).kids))) fun sh3=>shr (Rose.node
 ((t2L v 0).lab.1,sh4.1,sh4.2.1,sh4.2.2.1,sh4.2.2.2.1,()) (take (t2L v 0).kids.length (drop 0 (t2L v (0 :
 Nat)).kids))) fun sh2=>shr (joV sh2 sh3) fun sh1=>ifT (decide (v.length<=4000000000)&&nmL v) (ifB (!As v) (some (V.tup [V.agg [V.ref 0 0 0],V.b false],
 [R0 TCd sh6])) (ifT (decide (l.length<=4000000000)&&nmL l) (ifB (!As l) (some (V.tup [V.agg [V.ref 0 0 0],V.b false],[R0 TCd sh6])) (ifT (decide ((0:Int)<=(0:Int)/\0<v.length/\v.length<=4000000000)) (ifT (decide ((0:Int)<=(0:Int)/\0 <
 l.length/\l.length<=4000000000)) (ifT (decide (Ac sh2=true/\Ac sh3=true/\Af sh2<=1000/\Af sh2<=400000/\Af sh3<=(400000
 : Nat))) (ifT (decide (Ai (take sh1.kids.length (drop 0 sh1.kids))+1<=2000000)&&nmL (Al (Rose.node (sh1.lab.1,
 sh1.lab.2.1,sh1.lab.2.2.1,sh1.lab.2.2.2.1,sh1.lab.2.2.2.2.1,()) (take sh1.kids.length (drop 0 sh1.kids))) (-1:Int) (0
 : Nat))) (ifB (As (Al (Rose.node (sh1.lab.1,sh1.lab.2.1,sh1.lab.2.2.1,sh1.lab.2.2.2.1,sh1.lab.2.2.2.2.1,()) (take
 sh1.kids.length (drop 0 sh1.kids))) (-1:Int) 0)) (some (V.tup [V.agg [V.ref 0 0 (Al (Rose.node (sh1.lab.1,sh1.lab.2.1,
 sh1.lab.2.2.1,sh1.lab.2.2.2.1,sh1.lab.2.2.2.2.1,()) (take sh1.kids.length (drop 0 sh1.kids))) (-1:Int) 0).length],
 V.b true],[R0 TCd (Al (Rose.node (sh1.lab.1,sh1.lab.2.1,sh1.lab.2.2.1,sh1.lab.2.2.2.1,sh1.lab.2.2.2.2.1,())
 (take sh1.kids.length (drop 0 sh1.kids))) (-1:Int) 0)])) (some (V.tup [V.agg [V.ref 0 0 0],V.b false],[R0 TCd
 sh6]))))))))))):_):=by kernel_rfl
theorem Rt:Ab prog 28 (Ent.rd1 Jy).F:=by
 refine fcC KnowsL.nil.knows (Λ:=Aa []) func28 fun vs bs r hq=>?_
 unfold Ent.F Jy at hq;dsimp only at hq;split at hq
 ·exact ⟨Aq _,KE.trans hq⟩
 ·cases hq
theorem Sa:Ab prog 14 (Ent.rd1 LX).F:=by
 refine fcC (kc func28 Rt KnowsL.nil).knows (Λ:=Aa []) func14 fun vs bs r hq=>?_
 unfold Ent.F LX at hq;dsimp only at hq;split at hq
 ·exact ⟨Aq _,LW.trans hq⟩
 ·cases hq
theorem I9:Ab prog 14 (Ent.rd1 ME).F:=by
 refine La Qb Sa fun vs bs r h=>?_
 unfold Ent.F ME at h;dsimp only at h;split at h
 ·exact .inr h
 ·exact .inl h
theorem Dd {l:List Ty} (h:As l=true) (hn:nmL l=true):AX (t2L l 0)=true:=by
 rw [<- (En h).2.2.2];exact ML hn l.length 0
theorem DT {a b:List Ty} (h:EQ a b=false):BF a b=[]:=by unfold BF; rw [h]; rfl
theorem M9 {a b:List Ty} (h:EQ a b=true):BF a b=Al (Hz a b) (-1) 0:=by unfold BF; rw [h]; rfl
theorem Fr {a b:List Ty} (h:Es a b=false):AA a b=[]:=by unfold AA; rw [h]; rfl
theorem MO {a b:List Ty} (h:Es a b=true):AA a b=Al (HE a b) (-1) 0:=by unfold AA; rw [h]; rfl
theorem S5:Ab prog 5 (Ent.rd1 Kp).F:=by
 refine fcC (kc func12 QJ (kc func13 (Qf 1000) (kc func14 I9 KnowsL.nil))).knows (Λ:=Aa []) func5 fun vs bs r hq=>?_
 unfold Ent.F Kp at hq;dsimp only at hq;split at hq
 ·rename_i v l;obtain ⟨hc,hx⟩:=Ae hq;refine ⟨Aq _,(NB v l).trans (Eq.trans ?_ hx)⟩
  try dsimp only [shr]
  show _=some _;have hc':=hc;rw [anE] at hc';rw [hc'.1,hc'.2];simp only [Eo];have l1:v.length<=4000000000/\nmL v=true:=by have:=hc'.1; rw [anE,dcE] at this; exact this
  have l2:l.length<=4000000000/\nmL l=true:=by have:=hc'.2; rw [anE,dcE] at this; exact this
  have hB:EQ v l=((As v&&As l)&&(meB (t2L v 0) (t2L l 0)&&AZ (Hz v l))):=rfl
  cases h1:As v with
  | false=>
   rw [h1] at hB; rw [DT hB,hB];cases As l<;>rfl
  | true=>
   cases h2:As l with
   | false=>rw [h1,h2] at hB; rw [DT hB,hB]; rfl
   | true=>
    rw [h1,h2] at hB;obtain ⟨a1,a2,a3,a4⟩:=En h1;obtain ⟨b1,b2,b3,b4⟩:=En h2;have c1:=(Bg (Cp h1).1)
    have c2:=(Bg (Cp h2).1)
    have n1:=Dd h1 l1.2;have n2:=Dd h2 l2.2;simp only [a4,b4,Bs];rw [Ag (dcT ⟨a3,b3,by omega,by omega,by omega⟩)]
    cases hm:meB (t2L v 0) (t2L l 0) with
    | false=>rw [hm] at hB; rw [DT hB,hB]; rfl
    | true=>
     rw [hm] at hB;obtain ⟨f1,f2,f3⟩:=Ju _ a3 n1 _ b3 n2 hm;have f4:Af (t2L v 0)*(Af (t2L l 0)+1)<=30*31:=Nat.mul_le_mul c1.2.2 (by omega);rw [Bs,Ag (dcT ⟨by omega,f2⟩)];have hB:EQ v l=AZ (meV (t2L v 0) (t2L l 0)):=hB
     cases hg:AZ (meV (t2L v 0) (t2L l 0)) with
     | false=>rw [hg] at hB; rw [DT hB,hB]; rfl
     | true=>rw [hg] at hB; rw [M9 hB,hB]; rfl
 ·cases hq
theorem S3:Ab prog 6 (Ent.rd1 Kp).F:=by
 refine fcC (kc func15 Mz (kc func17 LT (kc func16 (PO 1000) (kc func18 QR KnowsL.nil)))).knows (Λ:=Aa []) func6 fun vs bs r hq=>?_
 unfold Ent.F Kp at hq;dsimp only at hq;split at hq
 ·rename_i v l;obtain ⟨hc,hx⟩:=Ae hq;refine ⟨Aq _,(Nh v l).trans (Eq.trans ?_ hx)⟩
  try dsimp only [shr]
  show _=some _;have hc':=hc;rw [anE] at hc';rw [hc'.1,hc'.2];simp only [Bo,Eo,drop_zero,take_length];have l1:v.length<=4000000000/\nmL v=true:=by have:=hc'.1; rw [anE,dcE] at this; exact this
  have l2:l.length<=4000000000/\nmL l=true:=by have:=hc'.2; rw [anE,dcE] at this; exact this
  have hB:EQ v l=((As v&&As l)&&(meB (t2L v 0) (t2L l 0)&&AZ (Hz v l))):=rfl
  cases h1:As v with
  | false=>
   rw [h1] at hB; rw [DT hB,hB];cases As l<;>rfl
  | true=>
   cases h2:As l with
   | false=>rw [h1,h2] at hB; rw [DT hB,hB]; rfl
   | true=>
    rw [h1,h2] at hB;obtain ⟨a1,a2,a3,a4⟩:=En h1;obtain ⟨b1,b2,b3,b4⟩:=En h2;have c1:=(Bg (Cp h1).1)
    have c2:=(Bg (Cp h2).1)
    have n1:=Dd h1 l1.2;have n2:=Dd h2 l2.2;simp only [Bool.not_true,Bt];rw [Ag (dcT ⟨by omega,a1,l1.1⟩),Ag (dcT ⟨by omega,b1,l2.1⟩),Ag (dcT ⟨a3,b3,by omega,by omega,by omega⟩)]
    cases hm:meB (t2L v 0) (t2L l 0) with
    | false=>rw [hm] at hB; rw [DT hB,hB]; rfl
    | true=>
     rw [hm] at hB;obtain ⟨f1,f2,f3⟩:=Ju _ a3 n1 _ b3 n2 hm;have f4:Af (t2L v 0)*(Af (t2L l 0)+1)<=30*31:=Nat.mul_le_mul c1.2.2 (by omega);have hB:EQ v l=AZ (meV (t2L v 0) (t2L l 0)):=hB;have hZ:Hz v l=meV (t2L v 0) (t2L l 0):=rfl;have hk:=Ix f1;have hn:=Db (meV (t2L v 0) (t2L l 0)) (-1) 0 f2;have hck:=AF (meV (t2L v 0) (t2L l 0));rw [Bool.not_true,Bt,hn,hk,Ag (by rw [Bool.and_true]; exact dcT (by omega))]
     cases hg:AZ (meV (t2L v 0) (t2L l 0)) with
     | false=>rw [hg] at hB; rw [DT hB,hB]; rfl
     | true=>rw [hg] at hB; rw [M9 hB,hB,hZ]; rfl
 ·cases hq
theorem S6:Ab prog 7 (Ent.rd1 KL).F:=by
 refine fcC (kc func12 QJ (kc func19 (Qg 1000) (kc func14 I9 KnowsL.nil))).knows (Λ:=Aa []) func7 fun vs bs r hq=>?_
 unfold Ent.F KL at hq;dsimp only at hq;split at hq
 ·rename_i v l;obtain ⟨hc,hx⟩:=Ae hq;refine ⟨Aq _,(NC v l).trans (Eq.trans ?_ hx)⟩
  try dsimp only [shr]
  show _=some _;have hc':=hc;rw [anE] at hc';rw [hc'.1,hc'.2];simp only [Eo];have l1:v.length<=4000000000/\nmL v=true:=by have:=hc'.1; rw [anE,dcE] at this; exact this
  have l2:l.length<=4000000000/\nmL l=true:=by have:=hc'.2; rw [anE,dcE] at this; exact this
  have hB:Es v l=((As v&&As l)&&AZ (HE v l)):=rfl
  cases h1:As v with
  | false=>
   rw [h1] at hB; rw [Fr hB,hB];cases As l<;>rfl
  | true=>
   cases h2:As l with
   | false=>rw [h1,h2] at hB; rw [Fr hB,hB]; rfl
   | true=>
    rw [h1,h2] at hB;obtain ⟨a1,a2,a3,a4⟩:=En h1;obtain ⟨b1,b2,b3,b4⟩:=En h2;have c1:=(Bg (Cp h1).1)
    have c2:=(Bg (Cp h2).1)
    have n1:=Dd h1 l1.2;have n2:=Dd h2 l2.2;have hj:=J1 c1.1 c2.1;simp only [a4,b4,Bs];rw [Ag (dcT ⟨a3,b3,by omega,by omega,by omega⟩),hj];obtain ⟨f1,f2,f3⟩:=J2 _ a3 n1 _ b3 hj;rw [Bs,Ag (dcT ⟨by omega,f2⟩)];have hB:Es v l=AZ (joV (t2L v 0) (t2L l 0)):=hB
    cases hg:AZ (joV (t2L v 0) (t2L l 0)) with
    | false=>rw [hg] at hB; rw [Fr hB,hB]; rfl
    | true=>rw [hg] at hB; rw [MO hB,hB]; rfl
 ·cases hq
theorem S4:Ab prog 8 (Ent.rd1 KL).F:=by
 refine fcC (kc func15 Mz (kc func17 LT (kc func20 (PQ 1000) (kc func18 QR KnowsL.nil)))).knows (Λ:=Aa []) func8 fun vs bs r hq=>?_
 unfold Ent.F KL at hq;dsimp only at hq;split at hq
 ·rename_i v l;obtain ⟨hc,hx⟩:=Ae hq;refine ⟨Aq _,(Ni v l).trans (Eq.trans ?_ hx)⟩
  try dsimp only [shr]
  show _=some _;have hc':=hc;rw [anE] at hc';rw [hc'.1,hc'.2];simp only [Bo,Eo,drop_zero,take_length];have l1:v.length<=4000000000/\nmL v=true:=by have:=hc'.1; rw [anE,dcE] at this; exact this
  have l2:l.length<=4000000000/\nmL l=true:=by have:=hc'.2; rw [anE,dcE] at this; exact this
  have hB:Es v l=((As v&&As l)&&AZ (HE v l)):=rfl
  cases h1:As v with
  | false=>
   rw [h1] at hB; rw [Fr hB,hB];cases As l<;>rfl
  | true=>
   cases h2:As l with
   | false=>rw [h1,h2] at hB; rw [Fr hB,hB]; rfl
   | true=>
    rw [h1,h2] at hB;obtain ⟨a1,a2,a3,a4⟩:=En h1;obtain ⟨b1,b2,b3,b4⟩:=En h2;have c1:=(Bg (Cp h1).1)
    have c2:=(Bg (Cp h2).1)
    have n1:=Dd h1 l1.2;have n2:=Dd h2 l2.2;have hj:=J1 c1.1 c2.1;simp only [Bool.not_true,Bt];rw [Ag (dcT ⟨by omega,a1,l1.1⟩),Ag (dcT ⟨by omega,b1,l2.1⟩),Ag (dcT ⟨a3,b3,by omega,by omega,by omega⟩)];obtain ⟨f1,f2,f3⟩:=J2 _ a3 n1 _ b3 hj;have hB:Es v l=AZ (joV (t2L v 0) (t2L l 0)):=hB;have hZ:HE v l=joV (t2L v 0) (t2L l 0):=rfl;have hk:=Ix f1;have hn:=Db (joV (t2L v 0) (t2L l 0)) (-1) 0 f2;have hck:=AF (joV (t2L v 0) (t2L l 0));rw [hn,hk,Ag (by rw [Bool.and_true]; exact dcT (by omega))]
    cases hg:AZ (joV (t2L v 0) (t2L l 0)) with
    | false=>rw [hg] at hB; rw [Fr hB,hB]; rfl
    | true=>rw [hg] at hB; rw [MO hB,hB,hZ]; rfl
 ·cases hq
def Jd:Gm
 | [.agg [.sl TCd a],.agg [.sl TCd b]],[]=>.leaf (.b (decide (eqT (List Ty) a b)),[])
 | _,_=>.no
def Ew:LoopEnt:=⟨31,[2,3,15,16],[],[4],fun
 | ([.ptr 0 0,.ptr 1 0,.j k,.j i],[some (.box [.sl TCd a]),some (.box [.sl TCd b])])=>.need (decide (0<=i/\i.toNat<=a.length/\k=a.length/\a.length=b.length/\a.length<=maxI)) (.br (decide (eqT (List Ty) (a.drop i.toNat) (b.drop i.toNat))) (.leaf (.exit 0,([],[]))) (.leaf (.ret,([.b false],[]))))
 | _=>.no⟩
theorem G7 (a b:List Ty) (k i:Int):AD prog (Aa []) (Aa [(4,Ew)]) 0 (body f9 0) Ew ([.ptr 0 0,.ptr 1 0,.j k,.j i],[some (.box [.sl TCd a]),some (.box [.sl TCd b])]) =
 ((ifB (decide (i<k)) (ifT (decide (0<=i)&&decide (i<(↑a.length:Int))) (Am a[i.toNat]? fun z=>ifT (decide (0<=i)&&decide (i<(↑b.length:Int))) (Am
 b[i.toNat]? fun z_1=>ifB (!(z.1==z_1.1&&(z.2.1==z_1.2.1&&(z.2.2.1==z_1.2.2.1&&(z.2.2.2.1==z_1.2.2.2.1&&
 (z.2.2.2.2.1==z_1.2.2.2.2.1&&(z.2.2.2.2.2.1==z_1.2.2.2.2.2.1&&true))))))) rF (some
 (Ex.normal,[V.ptr 0 0,V.ptr 1 0,V.j k,V.j (i64.wrap (i+1))],[some (Blk.box [V.sl TCd a]),some (Blk.box [V.sl TCd b])]))))) (some (Ex.exit 0,[],
 []))):_):=by kernel_rfl
theorem RQ (z y:Ty):(z.1==y.1&&(z.2.1==y.2.1&&(z.2.2.1==y.2.2.1&&(z.2.2.2.1==y.2.2.2.1&&(z.2.2.2.2.1==y.2.2.2.2.1&&(z.2.2.2.2.2.1==y.2.2.2.2.2.1&&true))))))=decide (eqT Ty z y):=by
 obtain ⟨a1,a2,a3,a4,a5,a6,⟨⟩⟩:=z;obtain ⟨b1,b2,b3,b4,b5,b6,⟨⟩⟩:=y;rw [Bool.eq_iff_iff];simp only [anE,beq_iff_eq,dcE,eqT,Prod.mk.injEq,and_true]
theorem Hj (a b:List Ty) (hab:a.length=b.length) (hm:a.length<=maxI) : ∀ (j i:Nat),i+j=a.length->∀ ex d,(Br.br (decide (eqT (List Ty) (a.drop i) (b.drop i))) (.leaf (.exit 0,([],[]))) (.leaf (.ret,([.b false],[]))):Br (Ex×Dt)).run=some (ex,d)->
  Runs prog (Aa []) (Aa [(4,Ew)]) 0 (body f9 0) Ew ([.ptr 0 0,.ptr 1 0,.j (a.length:Int),.j (i:Int)],[some (.box [.sl TCd a]),some (.box [.sl TCd b])]) ex d
 | 0,i,hi,ex,d,h=>by
  have hr:=G7 a b a.length i;rw [Ah (dcF (by omega))] at hr;rw [drop_eq_nil_of_le (by omega),drop_eq_nil_of_le (by omega),dcT rfl] at h;obtain ⟨rfl,rfl⟩:=lfP h;exact stp hr
 | j+1,i,hi,ex,d,h=>by
  have hl:i<a.length:=by omega
  have hl2:i<b.length:=by omega
  have hM:=mxI;have hr:=G7 a b a.length i;rw [Aj (dcT (by omega)),T2 (by omega),ntN,gtE hl,Ao,T2 (by omega),gtE hl2,Ao,AE (n:=i) (by omega),RQ] at hr;rw [drop_eq_getElem_cons hl,drop_eq_getElem_cons hl2,EF] at h
  by_cases q:a[i]=b[i]
  ·rw [dcT (show eqT Ty a[i] b[i] from q),Bool.not_true,Bt] at hr;refine sts hr (Hj a b hab hm j (i+1) (by omega) ex d ?_);rw [EF,<-h]
   by_cases q2:a.drop (i+1)=b.drop (i+1)
   ·rw [if_pos q2,if_pos (show eqT (List Ty) _ _ by unfold eqT; rw [q,q2])]
   ·rw [if_neg q2,if_neg (fun hh=>q2 (List.cons.inj hh).2)]
  ·rw [dcF (show ¬eqT Ty a[i] b[i] from q),Bool.not_false,Bs] at hr;rw [if_neg (fun hh=>q (List.cons.inj hh).1)] at h;obtain ⟨rfl,rfl⟩:=lfP h;exact stp hr
theorem Or:Az prog (Aa []) (Aa [(4,Ew)]) 0 (f9.body.getD .skip):=by
 refine Aw (a:=body f9 0) (by kernel_rfl) fun d ex d' h=>?_
 unfold Ew at h;dsimp only at h;split at h
 ·rename_i k i a b;obtain ⟨hc,hx⟩:=Ae h;clear h;obtain ⟨h0,h1,rfl,h3,h4⟩:=of_decide_eq_true hc;obtain ⟨i,rfl⟩:=Int.eq_ofNat_of_zero_le h0;simp only [ntN] at h1 hx;exact Hj a b h3 h4 (a.length-i) i (by omega) ex d' hx
 ·cases h
theorem RU:Ab prog 9 (Ent.rd1 Jd).F:=by
 refine C7 KnowsL.nil.knows (Λ:=(Aa [(4,Ew)])) func9 (c:=f9.body.getD .skip) (by kernel_rfl) fun vs bs r hq hv hb=>?_
 unfold Ent.F Jd at hq;dsimp only at hq;split at hq
 ·rename_i a b;have hm:a.length<=maxI:=(hv (.agg [.sl TCd a]) (by simp) (.sl TCd a) (by simp)).1;refine ⟨Or,Eq.trans ?_ hq⟩
  have e:AV prog (Aa []) (Aa [(4,Ew)]) f9 [.agg [.sl TCd a],.agg [.sl TCd b]] []=((ifB ((↑a.length:Int) != (↑b.length:Int)) nF (ifT (decide ((0:Int)<=(0:Int)/\0<=a.length/\(↑a.length:Int)=(↑a.length:Int)/\
 a.length=b.length/\a.length<=maxI)) (ifB (decide (eqT (List Ty) (drop 0 a) (drop 0 b))) (some (V.b true,[])) nF))):_):=by kernel_rfl
  rw [e];clear e
  by_cases h:a.length=b.length
  ·rw [Ah (by rw [h]; simp),Ag (dcT ⟨by omega,by omega,rfl,h,hm⟩),drop_zero,drop_zero];cases decide (eqT (List Ty) a b)<;>rfl
  ·rw [Aj (by simpa using fun hh=>h (by omega)),dcF (fun hh:eqT (List Ty) a b=>h (by rw [show a=b from hh]))];rfl
 ·cases hq

theorem N0 (f:List Int->List Ty×Bool×List Ty×Nat) (l:List Int):AV prog (Aa [(4,.rd1 (P1 f)),(5,.rd1 Kp),(6,.rd1 Kp),(7,.rd1 KL),(8,.rd1 KL),(9,.rd1 Jd),(10,.rd1 Qm)]) (Aa []) Try.f3 [.sl (.int .u8) l] [] =
 ((shr (take (f l).1.length (drop 0 (f l).1)) fun sh2=>shr (take (f l).2.2.2 (drop 0 (f l).2.2.1)) fun sh1=>ifB
 (decide ((↑l.length:Int)>(1048576:Int))) (some (V.b true,[])) (ifT (decide ((Cur.mk l (0:Int) (0:Int)).good (0:Int))) (ifT (decide (sh2.length<=(4000000000
 : Nat))&&nmL sh2&&(decide (sh1.length<=4000000000)&&nmL sh1)) (ifT (decide (sh2.length<=4000000000)&&nmL sh2&&(decide (sh1.length<=
 4000000000)&&nmL sh1)) (ifT (decide (sh2.length<=4000000000)&&nmL sh2&&(decide (sh1.length<=4000000000)&&nmL sh1)) (ifT (decide
 (sh2.length<=4000000000)&&nmL sh2&&(decide (sh1.length<=4000000000)&&nmL sh1)) (ifB (!EQ sh2 sh1==EQ sh2 sh1) nF (ifB
 (!decide (eqT (List Ty) (take (BF sh2 sh1).length (drop 0 (BF sh2 sh1))) (take (BF sh2 sh1).length (drop 0 (BF sh2 sh1)))))
 nF (ifB (!Es sh2 sh1==Es sh2 sh1) nF (ifB (!decide (eqT (List Ty) (take (AA sh2 sh1).length (drop 0
 (AA sh2 sh1))) (take (AA sh2 sh1).length (drop 0 (AA sh2 sh1))))) nF (ifB (EQ sh2 sh1) (ifT (decide ((take (BF sh2
 sh1).length (drop 0 (BF sh2 sh1))).length<=4000000000)&&nmL (take (BF sh2 sh1).length (drop 0 (BF sh2 sh1)))&&(decide
 (sh2.length<=4000000000)&&nmL sh2)) (ifT (decide ((take (BF sh2 sh1).length (drop 0 (BF sh2 sh1))).length<=4000000000)&&nmL
 (take (BF sh2 sh1).length (drop 0 (BF sh2 sh1)))&&(decide (sh1.length<=4000000000)&&nmL sh1)) (ifB (!Cu (take (BF sh2
 sh1).length (drop 0 (BF sh2 sh1))) sh2) nF (ifB (!Cu (take (BF sh2 sh1).length (drop 0 (BF sh2 sh1))) sh1)
 nF (ifB (!Cv (take (BF sh2 sh1).length (drop 0 (BF sh2 sh1))) sh2) nF (ifB (!Cv (take (BF sh2
 sh1).length (drop 0 (BF sh2 sh1))) sh1) nF (ifB (Es sh2 sh1) (ifT (decide (sh2.length<=4000000000)&&nmL sh2&&(decide
 ((take (AA sh2 sh1).length (drop 0 (AA sh2 sh1))).length<=4000000000)&&nmL (take (AA sh2 sh1).length (drop 0 (AA
 sh2 sh1))))) (ifT (decide (sh1.length<=4000000000)&&nmL sh1&&(decide ((take (AA sh2 sh1).length (drop 0 (AA sh2 sh1))).length<=
 4000000000)&&nmL (take (AA sh2 sh1).length (drop 0 (AA sh2 sh1))))) (ifB (!Cu sh2 (take (AA sh2 sh1).length (drop 0
 (AA sh2 sh1)))) nF (ifB (!Cu sh1 (take (AA sh2 sh1).length (drop 0 (AA sh2 sh1)))) nF (ifB (!Cv sh2
 (take (AA sh2 sh1).length (drop 0 (AA sh2 sh1)))) nF (ifB (!Cv sh1 (take (AA sh2 sh1).length (drop 0 (AA
 sh2 sh1)))) nF (ifT (decide (sh2.length<=4000000000)&&nmL sh2&&(decide (sh1.length<=4000000000)&&nmL sh1)) (ifB (Cu sh2 sh1)
 (ifB (Cv sh2 sh1) (ifT (decide (sh1.length<=4000000000)&&nmL sh1&&(decide ((take (AA sh2 sh1).length (drop 0 (AA sh2 sh1))).length<=
 4000000000)&&nmL (take (AA sh2 sh1).length (drop 0 (AA sh2 sh1))))) (ifT (decide ((take (AA sh2 sh1).length (drop 0
 (AA sh2 sh1))).length<=4000000000)&&nmL (take (AA sh2 sh1).length (drop 0 (AA sh2 sh1)))&&(decide (sh1.length<=4000000000)
 && nmL sh1)) (ifB (!Cu sh1 (take (AA sh2 sh1).length (drop 0 (AA sh2 sh1)))) nF (ifB (!Cu (take (AA sh2 sh1).length
 (drop 0 (AA sh2 sh1))) sh1) nF (ifB (!Cv sh1 (take (AA sh2 sh1).length (drop 0 (AA sh2 sh1)))) nF (ifB (!Cv (take (AA sh2 sh1).length (drop 0 (AA sh2 sh1))) sh1) nF (some (V.b true,[])))))))) (some (V.b true,
 []))) (some (V.b true,[])))))))))) (some (V.b true,[]))))))))) (ifB (Es sh2 sh1) (ifT (decide (sh2.length<=4000000000)&&nmL sh2&&(decide ((take
 (AA sh2 sh1).length (drop 0 (AA sh2 sh1))).length<=4000000000)&&nmL (take (AA sh2 sh1).length (drop 0 (AA sh2 sh1)))))
 (ifT (decide (sh1.length<=4000000000)&&nmL sh1&&(decide ((take (AA sh2 sh1).length (drop 0 (AA sh2 sh1))).length<=4000000000)
 && nmL (take (AA sh2 sh1).length (drop 0 (AA sh2 sh1))))) (ifB (!Cu sh2 (take (AA sh2 sh1).length (drop 0 (AA sh2 sh1))))
 nF (ifB (!Cu sh1 (take (AA sh2 sh1).length (drop 0 (AA sh2 sh1)))) nF (ifB (!Cv sh2 (take (AA sh2
 sh1).length (drop 0 (AA sh2 sh1)))) nF (ifB (!Cv sh1 (take (AA sh2 sh1).length (drop 0 (AA sh2 sh1)))) nF (ifT (decide (sh2.length<=4000000000)&&nmL sh2&&(decide (sh1.length<=4000000000)&&nmL sh1)) (ifB (Cu sh2 sh1) (ifB (Cv sh2
 sh1) (ifT (decide (sh1.length<=4000000000)&&nmL sh1&&(decide ((take (AA sh2 sh1).length (drop 0 (AA sh2 sh1))).length<=(4000000000 :
 Nat))&&nmL (take (AA sh2 sh1).length (drop 0 (AA sh2 sh1))))) (ifT (decide ((take (AA sh2 sh1).length (drop 0 (AA sh2
 sh1))).length<=4000000000)&&nmL (take (AA sh2 sh1).length (drop 0 (AA sh2 sh1)))&&(decide (sh1.length<=4000000000)&&nmL
 sh1)) (ifB (!Cu sh1 (take (AA sh2 sh1).length (drop 0 (AA sh2 sh1)))) nF (ifB (!Cu (take (AA sh2 sh1).length
 (drop 0 (AA sh2 sh1))) sh1) nF (ifB (!Cv sh1 (take (AA sh2 sh1).length (drop 0 (AA sh2 sh1)))) nF (ifB (!Cv (take (AA sh2 sh1).length (drop 0 (AA sh2 sh1))) sh1) nF (some (V.b true,[])))))))) (some (V.b true,
 []))) (some (V.b true,[])))))))))) (some (V.b true,[])))))))))))))):_):=by kernel_rfl
theorem KC {l:List Ty} (h:As l=true):l.length<=30:=by
 unfold As at h;simp only [anE,dcE] at h;omega
theorem OH {a b:List Ty} (na:nmL a=true) (nb:nmL b=true):(BF a b).length<=30/\nmL (BF a b)=true:=by
 cases h:EQ a b with
 | false=>rw [DT h]; exact ⟨zero_le _,rfl⟩
 | true=>
  obtain ⟨h1,h2,h3,h4,_,e,_⟩:=Ko h;refine ⟨KC h4,?_⟩;rw [e];exact Db _ _ _ (Ju _ (B9 h1).1 (Dd h1 na) _ (B9 h2).1 (Dd h2 nb) h3).2.1
theorem Pi {a b:List Ty} (na:nmL a=true):(AA a b).length<=30/\nmL (AA a b)=true:=by
 cases h:Es a b with
 | false=>rw [Fr h]; exact ⟨zero_le _,rfl⟩
 | true=>
  obtain ⟨h1,h2,h4,_,e,_⟩:=KJ h;refine ⟨KC h4,?_⟩;rw [e];exact Db _ _ _ (J2 _ (B9 h1).1 (Dd h1 na) _ (B9 h2).1 (J1 (B9 h1).2 (B9 h2).2)).2.1
theorem OF {w:List Ty} {n:Nat} (h:nmL w=true):nmL (w.take n)=true:=by
 unfold nmL at h ⊢;rw [all_eq_true] at h ⊢;exact fun x hx=>h x (List.mem_of_mem_take hx)
theorem u8_range {n:Int} (h:(Lit.int .u8 n).wf=true):0<=n/\n<=255:=by
 simp only [Lit.wf,anE,dcE] at h;exact h
noncomputable abbrev RM:FuncId->Option Ent:=Aa [(4,.rd1 (P1 E7)),(5,.rd1 Kp),(6,.rd1 Kp),(7,.rd1 KL),(8,.rd1 KL),(9,.rd1 Jd),(10,.rd1 Qm)]
theorem law_knows:Knows prog RM:=KnowsL.knows (kc func4 Qx (kc func5 S5 (kc func6 S3 (kc func7 S6 (kc func8 S4 (kc func9 RU (kc func10 S7 KnowsL.nil)))))))
theorem law_loops:Az prog RM (Aa []) 0 (Try.f3.body.getD .skip):=Aq _
theorem law_fun (l:List Int) (hb : ∀ z∈l,0<=z/\z<=255):AV prog RM (Aa []) Try.f3 [.sl (.int .u8) l] []=some (.b true,[]):=by
 rw [N0]
 try dsimp only [shr]
 by_cases h0:(l.length:Int)>1048576
 ·rw [Aj (dcT h0)]
 have hc:(Cur.mk l 0 0).good 0:=⟨hb,Int.le_refl _,Int.le_refl _⟩
 rw [Ah (dcF h0),Ag (dcT hc)];obtain ⟨b1,b2,b3,b4,b5,b6,b7⟩:=R4 l hc;generalize E7 l=G at *;obtain ⟨w,ro,v,n⟩:=G;dsimp only at *;have hu1:nmL (v.take n)=true:=OF b4;have hu2:(v.take n).length<=30:=by rw [List.length_take]; omega
 simp only [drop_zero,take_length];generalize v.take n=u at *;have m1:=OH b1 hu1;have m2:=Pi (b:=u) b1;have n1:(decide (w.length<=4000000000)&&nmL w)=true:=by rw [b1,dcT (by omega)]; rfl
 have n2:(decide (u.length<=4000000000)&&nmL u)=true:=by rw [hu1,dcT (by omega)]; rfl
 have n3:(decide ((BF w u).length<=4000000000)&&nmL (BF w u))=true:=by rw [m1.2,dcT (by omega)]; rfl
 have n4:(decide ((AA w u).length<=4000000000)&&nmL (AA w u))=true:=by rw [m2.2,dcT (by omega)]; rfl
 have sameE : ∀ a:List Ty,decide (a=a)=true:=fun a=>dcT rfl
 simp only [n1,n2,n3,n4,Bool.and_self,Eo,beq_self_eq_true,Bt,Bool.not_true,decide_true]
 have fin:ifB (Es w u) (ifB (!Cu w (AA w u)) (some (V.b false,([]:List (Option Blk)))) (ifB (!Cu u (AA w u)) nF (ifB (!Cv w (AA w u)) nF (ifB (!Cv u (AA w u)) nF (ifB (Cu w u) (ifB (Cv w u) (ifB (!Cu u (AA w u)) nF (ifB (!Cu (AA w u) u) nF (ifB (!Cv u (AA w u)) nF (ifB (!Cv (AA w u) u) nF (some (V.b true,[])))))) (some (V.b true,[]))) (some (V.b true,[]))))))) (some (V.b true,[]))=some (V.b true,[]):=by
  cases hj:Es w u with
  | false=>rfl
  | true=>
   obtain ⟨⟨c1,c2,c3,c4⟩,c5⟩:=Qk hj;simp only [Bs,c1,c2,c3,c4,Bool.not_true,Bt]
   cases hk:Cu w u with
   | false=>rfl
   | true=>
    cases hs:Cv w u with
    | false=>rfl
    | true=>
     obtain ⟨c6,c7⟩:=c5 hs;simp only [Bs,c6,c7,Bool.not_true,Bt]
 simp only [fin]
 cases hm:EQ w u with
 | false=>rw [Bt]
 | true=>
  obtain ⟨c1,c2,c3,c4⟩:=PY hm;simp only [Bs,c1,c2,c3,c4,Bool.not_true,Bt]
end Go.Proofs.Ytcgddnpfapcohaa.Den
