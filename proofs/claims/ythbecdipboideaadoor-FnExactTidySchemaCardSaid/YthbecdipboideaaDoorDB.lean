/- What functions of the program do, by the machine: Td6 Dr1 Dr2 Dr3 Td4 Td5 Td7 Td8 Ts2 Ts3 Ts4 Ts5 Lt2 Ts6. -/
import Derived.Test.YthbecdipboideaaDoorDA
import Derived.KernelRfl
import Derived.Test.YthbecdipboideaaDoorRows
open Go.IntKind (i64)
open Go.Proofs.Tryd
open List (all_eq_true append_assoc drop drop_eq_getElem_cons drop_eq_nil_of_le drop_zero getElem_mem length_append length_cons take take_length)
open Int (eq_ofNat_of_zero_le)
open Nat (add_zero le_refl zero_add)
namespace Go.Proofs.YthbecdipboideaaDoor.Den
open Go.Proofs
set_option maxRecDepth 100000
def H0 (n:Nat) (f:By->Nat->Bool->Rose Lab×Nat×Bool):Gm
 | [.ptr 0 0],[(.box [.s s,.j (a),.b (bad)])]=>.need (decide (0<=a/\a.toNat<=s.length/\s.length<=400/\1<=n/\(bad=true\/s.length-a.toNat+3<=n))) (.leaf (.ptr 1 0,[some (.box [.s s,.j (((f s a.toNat bad).2.1:Nat)),.b ((f s a.toNat bad).2.2)]),some (.box [.j (f s a.toNat bad).1.lab.1,.s (f s a.toNat bad).1.lab.2.1,.j (f s a.toNat bad).1.lab.2.2.1,.b (f s a.toNat bad).1.lab.2.2.2.1,.j (f s a.toNat bad).1.lab.2.2.2.2.1,.ref 2 0 (f s a.toNat bad).1.kids.length]),R0 (.tree LCd) (f s a.toNat bad).1.kids]))
 | _,_=>.no
def MK (n:Nat) (f:By->Nat->Bool->Rose Lab×Nat×Bool):Gm
 | [.ptr 0 0],[(.box [.s s,.j (a),.b (bad)])]=>.need (decide (0<=a/\a.toNat<=s.length/\s.length<=400/\1<=n/\(bad=true\/s.length-a.toNat+1<=n))) (.leaf (.ptr 1 0,[some (.box [.s s,.j (((f s a.toNat bad).2.1:Nat)),.b ((f s a.toNat bad).2.2)]),some (.box [.j (f s a.toNat bad).1.lab.1,.s (f s a.toNat bad).1.lab.2.1,.j (f s a.toNat bad).1.lab.2.2.1,.b (f s a.toNat bad).1.lab.2.2.2.1,.j (f s a.toNat bad).1.lab.2.2.2.2.1,.ref 2 0 (f s a.toNat bad).1.kids.length]),R0 (.tree LCd) (f s a.toNat bad).1.kids]))
 | _,_=>.no
def JP (n:Nat) (f:By->Nat->Bool->Rose Lab×Nat×Bool):Gm
 | [.ptr 0 0],[(.box [.s s,.j (a),.b (bad)])]=>.need (decide (0<=a/\a.toNat<=s.length/\s.length<=400/\1<=n/\(bad=true\/s.length-a.toNat+3<=n))) (.leaf (.ptr 1 0,[some (.box [.s s,.j (((f s a.toNat bad).2.1:Nat)),.b ((f s a.toNat bad).2.2)]),some (.box [.j (f s a.toNat bad).1.lab.1,.s (f s a.toNat bad).1.lab.2.1,.j (f s a.toNat bad).1.lab.2.2.1,.b (f s a.toNat bad).1.lab.2.2.2.1,.j (f s a.toNat bad).1.lab.2.2.2.2.1,.ref 2 0 (f s a.toNat bad).1.kids.length]),R0 (.tree LCd) (f s a.toNat bad).1.kids]))
 | _,_=>.no
def MY (f:RL->RL):Gm
 | [.ptr 0 0],[.box [.j z0,.s z1,.j z2,.b z3,.j z4,.ref 1 0 m],.row false _ (.tree LCd) o]=>.need (decide (m=o.length/\m<=1000000)) (.leaf (.tup [],[some (.box [.j z0,.s z1,.j z2,.b z3,.j z4,.ref 2 0 m]),none,R0 (.tree LCd) (f o)]))
 | _,_=>.no
def KU (n:Nat) (q:By×RL×Nat×Bool->RL×Nat×Bool):LoopEnt:=⟨32,[0,3],[0,3],[],fun
 | ([.ptr 0 0,.ptr 1 0],[some (.box [.s s,.j (a),.b (bad)]),some (.box [.j 5,.s [],.j 0,.b false,.j 0,.ref 2 0 m]),R0 (.tree LCd) o])=>.need (decide (0<=a/\a.toNat<=s.length/\s.length<=400/\(bad=true\/s.length-a.toNat+2<=n)/\m=o.length/\o.length<=1000)) (.leaf (.exit 0,([.ptr 0 0,.ptr 1 0],[some (.box [.s s,.j (((q (s,o,a.toNat,bad)).2.1:Nat)),.b ((q (s,o,a.toNat,bad)).2.2)]),some (.box [.j 5,.s [],.j 0,.b false,.j 0,.ref 2 0 (q (s,o,a.toNat,bad)).1.length]),R0 (.tree LCd) (q (s,o,a.toNat,bad)).1])))
 | _=>.no⟩
theorem O2 (n:Nat) (f:By->Nat->Bool->Rose Lab×Nat×Bool) (s:By) (a:Int) (bad:Bool):BA prog (Ab [(18,.own Lx),(51,.own LG),(16,.own Hy),(52,.own M8),(50,.rd1 E5),(53,.own (H0 n f))]) (Ab []) f37 [.ptr 0 0] [(.box [.s s,.j (a),.b (bad)])] =
 ((shr (nmV s (↑(blA s a.toNat bad):Int).toNat bad) fun sh5=>shr (f s (↑(blA s (↑(nbA s (↑(mrA (58:UInt8) s (↑(nmA s (↑(blA s a.toNat bad):Int).toNat bad) :
 Int).toNat (bad||nmK s (↑(blA s a.toNat bad):Int).toNat==0)):Int).toNat (mrB (58:UInt8) s (↑(nmA s (↑(blA s a.toNat bad):Int).toNat bad):Int).toNat
 (bad||nmK s (↑(blA s a.toNat bad):Int).toNat==0))):Int).toNat (mrB (58:UInt8) s (↑(nmA s (↑(blA s a.toNat bad):Int).toNat bad):Int).toNat (bad||
 nmK s (↑(blA s a.toNat bad):Int).toNat==0)||!An (nxt s (↑(mrA (58:UInt8) s (↑(nmA s (↑(blA s a.toNat bad):Int).toNat bad):Int).toNat (bad||nmK s
 (↑(blA s a.toNat bad):Int).toNat==0)):Int).toNat))):Int).toNat true) fun sh4=>shr (f s (↑(blA s (i64.wrap ((↑(blA s (↑(nbA s (↑(mrA (58:UInt8)
 s (↑(nmA s (↑(blA s a.toNat bad):Int).toNat bad):Int).toNat (bad||nmK s (↑(blA s a.toNat bad):Int).toNat==0)):Int).toNat (mrB (58:UInt8) s (↑(nmA s
 (↑(blA s a.toNat bad):Int).toNat bad):Int).toNat (bad||nmK s (↑(blA s a.toNat bad):Int).toNat==0))):Int).toNat (mrB (58:UInt8) s (↑(nmA s (↑(blA s
 a.toNat bad):Int).toNat bad):Int).toNat (bad||nmK s (↑(blA s a.toNat bad):Int).toNat==0)||!An (nxt s (↑(mrA (58:UInt8) s (↑(nmA s (↑(blA s a.toNat
 bad):Int).toNat bad):Int).toNat (bad||nmK s (↑(blA s a.toNat bad):Int).toNat==0)):Int).toNat))):Int)+(1:Int))).toNat (mrB (58:UInt8) s (↑(nmA
 s (↑(blA s a.toNat bad):Int).toNat bad):Int).toNat (bad||nmK s (↑(blA s a.toNat bad):Int).toNat==0)||!An (nxt s (↑(mrA (58:UInt8) s (↑(nmA s
 (↑(blA s a.toNat bad):Int).toNat bad):Int).toNat (bad||nmK s (↑(blA s a.toNat bad):Int).toNat==0)):Int).toNat))):Int).toNat true) fun sh3=>shr (f
 s (↑(blA s (↑(nbA s (↑(mrA (58:UInt8) s (↑(nmA s (↑(blA s a.toNat bad):Int).toNat bad):Int).toNat (bad||nmK s (↑(blA s a.toNat bad):Int).toNat==0)) :
 Int).toNat (mrB (58:UInt8) s (↑(nmA s (↑(blA s a.toNat bad):Int).toNat bad):Int).toNat (bad||nmK s (↑(blA s a.toNat bad):Int).toNat==0))):Int).toNat
 (mrB (58:UInt8) s (↑(nmA s (↑(blA s a.toNat bad):Int).toNat bad):Int).toNat (bad||nmK s (↑(blA s a.toNat bad):Int).toNat==0)||!An (nxt s (↑(mrA
 (58:UInt8) s (↑(nmA s (↑(blA s a.toNat bad):Int).toNat bad):Int).toNat (bad||nmK s (↑(blA s a.toNat bad):Int).toNat==0)):Int).toNat))):Int).toNat
 (mrB (58:UInt8) s (↑(nmA s (↑(blA s a.toNat bad):Int).toNat bad):Int).toNat (bad||nmK s (↑(blA s a.toNat bad):Int).toNat==0)||!An (nxt s (↑(mrA
 (58:UInt8) s (↑(nmA s (↑(blA s a.toNat bad):Int).toNat bad):Int).toNat (bad||nmK s (↑(blA s a.toNat bad):Int).toNat==0)):Int).toNat))) fun sh2=>
 shr (f s (↑(blA s (i64.wrap ((↑(blA s (↑(nbA s (↑(mrA (58:UInt8) s (↑(nmA s (↑(blA s a.toNat bad):Int).toNat bad):Int).toNat (bad||nmK s (↑(blA s a.toNat
 bad):Int).toNat==0)):Int).toNat (mrB (58:UInt8) s (↑(nmA s (↑(blA s a.toNat bad):Int).toNat bad):Int).toNat (bad||nmK s (↑(blA s a.toNat bad) :
 Int).toNat==0))):Int).toNat (mrB (58:UInt8) s (↑(nmA s (↑(blA s a.toNat bad):Int).toNat bad):Int).toNat (bad||nmK s (↑(blA s a.toNat bad):Int).toNat
 == 0)||!An (nxt s (↑(mrA (58:UInt8) s (↑(nmA s (↑(blA s a.toNat bad):Int).toNat bad):Int).toNat (bad||nmK s (↑(blA s a.toNat bad):Int).toNat==(0 :
 Nat))):Int).toNat))):Int)+(1:Int))).toNat (mrB (58:UInt8) s (↑(nmA s (↑(blA s a.toNat bad):Int).toNat bad):Int).toNat (bad||nmK s (↑(blA s a.toNat bad) :
 Int).toNat==0)||!An (nxt s (↑(mrA (58:UInt8) s (↑(nmA s (↑(blA s a.toNat bad):Int).toNat bad):Int).toNat (bad||nmK s (↑(blA s a.toNat bad) :
 Int).toNat==0)):Int).toNat))):Int).toNat (mrB (58:UInt8) s (↑(nmA s (↑(blA s a.toNat bad):Int).toNat bad):Int).toNat (bad||nmK s (↑(blA s a.toNat
 bad):Int).toNat==0)||!An (nxt s (↑(mrA (58:UInt8) s (↑(nmA s (↑(blA s a.toNat bad):Int).toNat bad):Int).toNat (bad||nmK s (↑(blA s a.toNat bad) :
 Int).toNat==0)):Int).toNat))) fun sh1=>ifT (decide (0<=a/\a.toNat<=s.length/\s.length<=400)) (ifT (decide (0<=(↑(blA s a.toNat bad):Int)/\
 (↑(blA s a.toNat bad):Int).toNat<=s.length/\s.length<=400)) (ifT (decide (0<=(↑(nmA s (↑(blA s a.toNat bad):Int).toNat bad):Int)/\(↑(nmA s (↑(blA s
 a.toNat bad):Int).toNat bad):Int).toNat<=s.length/\s.length<=400/\(58:UInt8)≠(0:UInt8))) (ifT (decide (0<=(↑(mrA (58:UInt8) s (↑(nmA s (↑(blA s
 a.toNat bad):Int).toNat bad):Int).toNat (bad||nmK s (↑(blA s a.toNat bad):Int).toNat==0)):Int)/\(↑(mrA (58:UInt8) s (↑(nmA s (↑(blA s a.toNat bad)
 : Int).toNat bad):Int).toNat (bad||nmK s (↑(blA s a.toNat bad):Int).toNat==0)):Int).toNat<=s.length/\s.length<=400)) (ifT (decide (0<=(↑(nbA
 s (↑(mrA (58:UInt8) s (↑(nmA s (↑(blA s a.toNat bad):Int).toNat bad):Int).toNat (bad||nmK s (↑(blA s a.toNat bad):Int).toNat==0)):Int).toNat (mrB
 (58:UInt8) s (↑(nmA s (↑(blA s a.toNat bad):Int).toNat bad):Int).toNat (bad||nmK s (↑(blA s a.toNat bad):Int).toNat==0))):Int)/\(↑(nbA s (↑(mrA (58
 : UInt8) s (↑(nmA s (↑(blA s a.toNat bad):Int).toNat bad):Int).toNat (bad||nmK s (↑(blA s a.toNat bad):Int).toNat==0)):Int).toNat (mrB (58:UInt8) s
 (↑(nmA s (↑(blA s a.toNat bad):Int).toNat bad):Int).toNat (bad||nmK s (↑(blA s a.toNat bad):Int).toNat==0))):Int).toNat<=s.length/\s.length<=(400 :
 Nat))) (ifT (decide (0<=(↑(blA s (↑(nbA s (↑(mrA (58:UInt8) s (↑(nmA s (↑(blA s a.toNat bad):Int).toNat bad):Int).toNat (bad||nmK s (↑(blA s a.toNat bad) :
 Int).toNat==0)):Int).toNat (mrB (58:UInt8) s (↑(nmA s (↑(blA s a.toNat bad):Int).toNat bad):Int).toNat (bad||nmK s (↑(blA s a.toNat bad):Int).toNat
 == 0))):Int).toNat (mrB (58:UInt8) s (↑(nmA s (↑(blA s a.toNat bad):Int).toNat bad):Int).toNat (bad||nmK s (↑(blA s a.toNat bad):Int).toNat==(0 :
 Nat))||!An (nxt s (↑(mrA (58:UInt8) s (↑(nmA s (↑(blA s a.toNat bad):Int).toNat bad):Int).toNat (bad||nmK s (↑(blA s a.toNat bad):Int).toNat==0))
 : Int).toNat))):Int)/\(↑(blA s (↑(nbA s (↑(mrA (58:UInt8) s (↑(nmA s (↑(blA s a.toNat bad):Int).toNat bad):Int).toNat (bad||nmK s (↑(blA s a.toNat bad) :
 Int).toNat==0)):Int).toNat (mrB (58:UInt8) s (↑(nmA s (↑(blA s a.toNat bad):Int).toNat bad):Int).toNat (bad||nmK s (↑(blA s a.toNat bad):Int).toNat
 == 0))):Int).toNat (mrB (58:UInt8) s (↑(nmA s (↑(blA s a.toNat bad):Int).toNat bad):Int).toNat (bad||nmK s (↑(blA s a.toNat bad):Int).toNat==(0 :
 Nat))||!An (nxt s (↑(mrA (58:UInt8) s (↑(nmA s (↑(blA s a.toNat bad):Int).toNat bad):Int).toNat (bad||nmK s (↑(blA s a.toNat bad):Int).toNat==0))
 : Int).toNat))):Int).toNat<=s.length/\s.length<=400)) (ifB ((bif mrB (58:UInt8) s (↑(nmA s (↑(blA s a.toNat bad):Int).toNat bad):Int).toNat (bad||nmK
 s (↑(blA s a.toNat bad):Int).toNat==0)||!An (nxt s (↑(mrA (58:UInt8) s (↑(nmA s (↑(blA s a.toNat bad):Int).toNat bad):Int).toNat (bad||nmK s
 (↑(blA s a.toNat bad):Int).toNat==0)):Int).toNat) then (0:Int) else (↑(nxt s (↑(blA s (↑(nbA s (↑(mrA (58:UInt8) s (↑(nmA s (↑(blA s a.toNat bad) :
 Int).toNat bad):Int).toNat (bad||nmK s (↑(blA s a.toNat bad):Int).toNat==0)):Int).toNat (mrB (58:UInt8) s (↑(nmA s (↑(blA s a.toNat bad):Int).toNat
 bad):Int).toNat (bad||nmK s (↑(blA s a.toNat bad):Int).toNat==0))):Int).toNat (mrB (58:UInt8) s (↑(nmA s (↑(blA s a.toNat bad):Int).toNat bad) :
 Int).toNat (bad||nmK s (↑(blA s a.toNat bad):Int).toNat==0)||!An (nxt s (↑(mrA (58:UInt8) s (↑(nmA s (↑(blA s a.toNat bad):Int).toNat bad) :
 Int).toNat (bad||nmK s (↑(blA s a.toNat bad):Int).toNat==0)):Int).toNat))):Int).toNat).toNat:Int))==(33:Int)) (ifT (decide (0<=i64.wrap
 ((↑(blA s (↑(nbA s (↑(mrA (58:UInt8) s (↑(nmA s (↑(blA s a.toNat bad):Int).toNat bad):Int).toNat (bad||nmK s (↑(blA s a.toNat bad):Int).toNat==0)) :
 Int).toNat (mrB (58:UInt8) s (↑(nmA s (↑(blA s a.toNat bad):Int).toNat bad):Int).toNat (bad||nmK s (↑(blA s a.toNat bad):Int).toNat==0))):Int).toNat
 (mrB (58:UInt8) s (↑(nmA s (↑(blA s a.toNat bad):Int).toNat bad):Int).toNat (bad||nmK s (↑(blA s a.toNat bad):Int).toNat==0)||!An (nxt s (↑(mrA
 (58:UInt8) s (↑(nmA s (↑(blA s a.toNat bad):Int).toNat bad):Int).toNat (bad||nmK s (↑(blA s a.toNat bad):Int).toNat==0)):Int).toNat))):Int)+(1 :
 Int))/\(i64.wrap ((↑(blA s (↑(nbA s (↑(mrA (58:UInt8) s (↑(nmA s (↑(blA s a.toNat bad):Int).toNat bad):Int).toNat (bad||nmK s (↑(blA s a.toNat bad) :
 Int).toNat==0)):Int).toNat (mrB (58:UInt8) s (↑(nmA s (↑(blA s a.toNat bad):Int).toNat bad):Int).toNat (bad||nmK s (↑(blA s a.toNat bad):Int).toNat
 == 0))):Int).toNat (mrB (58:UInt8) s (↑(nmA s (↑(blA s a.toNat bad):Int).toNat bad):Int).toNat (bad||nmK s (↑(blA s a.toNat bad):Int).toNat==(0 :
 Nat))||!An (nxt s (↑(mrA (58:UInt8) s (↑(nmA s (↑(blA s a.toNat bad):Int).toNat bad):Int).toNat (bad||nmK s (↑(blA s a.toNat bad):Int).toNat==0))
 : Int).toNat))):Int)+(1:Int))).toNat<=s.length/\s.length<=400)) (ifT (decide (0<=(↑(blA s (i64.wrap ((↑(blA s (↑(nbA s (↑(mrA (58:UInt8) s
 (↑(nmA s (↑(blA s a.toNat bad):Int).toNat bad):Int).toNat (bad||nmK s (↑(blA s a.toNat bad):Int).toNat==0)):Int).toNat (mrB (58:UInt8) s (↑(nmA s
 (↑(blA s a.toNat bad):Int).toNat bad):Int).toNat (bad||nmK s (↑(blA s a.toNat bad):Int).toNat==0))):Int).toNat (mrB (58:UInt8) s (↑(nmA s (↑(blA s
 a.toNat bad):Int).toNat bad):Int).toNat (bad||nmK s (↑(blA s a.toNat bad):Int).toNat==0)||!An (nxt s (↑(mrA (58:UInt8) s (↑(nmA s (↑(blA s a.toNat
 bad):Int).toNat bad):Int).toNat (bad||nmK s (↑(blA s a.toNat bad):Int).toNat==0)):Int).toNat))):Int)+(1:Int))).toNat (mrB (58:UInt8) s (↑(nmA
 s (↑(blA s a.toNat bad):Int).toNat bad):Int).toNat (bad||nmK s (↑(blA s a.toNat bad):Int).toNat==0)||!An (nxt s (↑(mrA (58:UInt8) s (↑(nmA s
 (↑(blA s a.toNat bad):Int).toNat bad):Int).toNat (bad||nmK s (↑(blA s a.toNat bad):Int).toNat==0)):Int).toNat))):Int)/\(↑(blA s (i64.wrap
 ((↑(blA s (↑(nbA s (↑(mrA (58:UInt8) s (↑(nmA s (↑(blA s a.toNat bad):Int).toNat bad):Int).toNat (bad||nmK s (↑(blA s a.toNat bad):Int).toNat==0)) :
 Int).toNat (mrB (58:UInt8) s (↑(nmA s (↑(blA s a.toNat bad):Int).toNat bad):Int).toNat (bad||nmK s (↑(blA s a.toNat bad):Int).toNat==0))):Int).toNat
 (mrB (58:UInt8) s (↑(nmA s (↑(blA s a.toNat bad):Int).toNat bad):Int).toNat (bad||nmK s (↑(blA s a.toNat bad):Int).toNat==0)||!An (nxt s (↑(mrA
 (58:UInt8) s (↑(nmA s (↑(blA s a.toNat bad):Int).toNat bad):Int).toNat (bad||nmK s (↑(blA s a.toNat bad):Int).toNat==0)):Int).toNat))):Int)+(1 :
 Int))).toNat (mrB (58:UInt8) s (↑(nmA s (↑(blA s a.toNat bad):Int).toNat bad):Int).toNat (bad||nmK s (↑(blA s a.toNat bad):Int).toNat==0)||!An
 (nxt s (↑(mrA (58:UInt8) s (↑(nmA s (↑(blA s a.toNat bad):Int).toNat bad):Int).toNat (bad||nmK s (↑(blA s a.toNat bad):Int).toNat==0)):Int).toNat)))
 : Int).toNat<=s.length/\s.length<=400)) (ifB (!(!(mrB (58:UInt8) s (↑(nmA s (↑(blA s a.toNat bad):Int).toNat bad):Int).toNat (bad||nmK s (↑(blA s
 a.toNat bad):Int).toNat==0)||!An (nxt s (↑(mrA (58:UInt8) s (↑(nmA s (↑(blA s a.toNat bad):Int).toNat bad):Int).toNat (bad||nmK s (↑(blA s a.toNat
 bad):Int).toNat==0)):Int).toNat))&&decide ((i64.wrap ((↑(blA s (↑(nbA s (↑(mrA (58:UInt8) s (↑(nmA s (↑(blA s a.toNat bad):Int).toNat bad) :
 Int).toNat (bad||nmK s (↑(blA s a.toNat bad):Int).toNat==0)):Int).toNat (mrB (58:UInt8) s (↑(nmA s (↑(blA s a.toNat bad):Int).toNat bad):Int).toNat
 (bad||nmK s (↑(blA s a.toNat bad):Int).toNat==0))):Int).toNat (mrB (58:UInt8) s (↑(nmA s (↑(blA s a.toNat bad):Int).toNat bad):Int).toNat (bad||
 nmK s (↑(blA s a.toNat bad):Int).toNat==0)||!An (nxt s (↑(mrA (58:UInt8) s (↑(nmA s (↑(blA s a.toNat bad):Int).toNat bad):Int).toNat (bad||nmK s
 (↑(blA s a.toNat bad):Int).toNat==0)):Int).toNat))):Int)+(1:Int))).toNat<skp s (i64.wrap ((↑(blA s (↑(nbA s (↑(mrA (58:UInt8) s (↑(nmA s
 (↑(blA s a.toNat bad):Int).toNat bad):Int).toNat (bad||nmK s (↑(blA s a.toNat bad):Int).toNat==0)):Int).toNat (mrB (58:UInt8) s (↑(nmA s (↑(blA s
 a.toNat bad):Int).toNat bad):Int).toNat (bad||nmK s (↑(blA s a.toNat bad):Int).toNat==0))):Int).toNat (mrB (58:UInt8) s (↑(nmA s (↑(blA s a.toNat
 bad):Int).toNat bad):Int).toNat (bad||nmK s (↑(blA s a.toNat bad):Int).toNat==0)||!An (nxt s (↑(mrA (58:UInt8) s (↑(nmA s (↑(blA s a.toNat bad) :
 Int).toNat bad):Int).toNat (bad||nmK s (↑(blA s a.toNat bad):Int).toNat==0)):Int).toNat))):Int)+(1:Int))).toNat))) (ifB (decide ((bif mrB (58 :
 UInt8) s (↑(nmA s (↑(blA s a.toNat bad):Int).toNat bad):Int).toNat (bad||nmK s (↑(blA s a.toNat bad):Int).toNat==0)||!An (nxt s (↑(mrA (58:UInt8)
 s (↑(nmA s (↑(blA s a.toNat bad):Int).toNat bad):Int).toNat (bad||nmK s (↑(blA s a.toNat bad):Int).toNat==0)):Int).toNat) then (0:Int) else (↑(nxt s
 (↑(blA s (i64.wrap ((↑(blA s (↑(nbA s (↑(mrA (58:UInt8) s (↑(nmA s (↑(blA s a.toNat bad):Int).toNat bad):Int).toNat (bad||nmK s (↑(blA s a.toNat bad) :
 Int).toNat==0)):Int).toNat (mrB (58:UInt8) s (↑(nmA s (↑(blA s a.toNat bad):Int).toNat bad):Int).toNat (bad||nmK s (↑(blA s a.toNat bad):Int).toNat
 == 0))):Int).toNat (mrB (58:UInt8) s (↑(nmA s (↑(blA s a.toNat bad):Int).toNat bad):Int).toNat (bad||nmK s (↑(blA s a.toNat bad):Int).toNat==(0 :
 Nat))||!An (nxt s (↑(mrA (58:UInt8) s (↑(nmA s (↑(blA s a.toNat bad):Int).toNat bad):Int).toNat (bad||nmK s (↑(blA s a.toNat bad):Int).toNat==0))
 : Int).toNat))):Int)+(1:Int))).toNat (mrB (58:UInt8) s (↑(nmA s (↑(blA s a.toNat bad):Int).toNat bad):Int).toNat (bad||nmK s (↑(blA s a.toNat bad) :
 Int).toNat==0)||!An (nxt s (↑(mrA (58:UInt8) s (↑(nmA s (↑(blA s a.toNat bad):Int).toNat bad):Int).toNat (bad||nmK s (↑(blA s a.toNat bad) :
 Int).toNat==0)):Int).toNat))):Int).toNat).toNat:Int))>=(97:Int))) (ifB (decide ((bif mrB (58:UInt8) s (↑(nmA s (↑(blA s a.toNat bad):Int).toNat
 bad):Int).toNat (bad||nmK s (↑(blA s a.toNat bad):Int).toNat==0)||!An (nxt s (↑(mrA (58:UInt8) s (↑(nmA s (↑(blA s a.toNat bad):Int).toNat bad) :
 Int).toNat (bad||nmK s (↑(blA s a.toNat bad):Int).toNat==0)):Int).toNat) then (0:Int) else (↑(nxt s (↑(blA s (i64.wrap ((↑(blA s (↑(nbA s (↑(mrA
 (58:UInt8) s (↑(nmA s (↑(blA s a.toNat bad):Int).toNat bad):Int).toNat (bad||nmK s (↑(blA s a.toNat bad):Int).toNat==0)):Int).toNat (mrB (58 :
 UInt8) s (↑(nmA s (↑(blA s a.toNat bad):Int).toNat bad):Int).toNat (bad||nmK s (↑(blA s a.toNat bad):Int).toNat==0))):Int).toNat (mrB (58:UInt8) s
 (↑(nmA s (↑(blA s a.toNat bad):Int).toNat bad):Int).toNat (bad||nmK s (↑(blA s a.toNat bad):Int).toNat==0)||!An (nxt s (↑(mrA (58:UInt8) s (↑(nmA
 s (↑(blA s a.toNat bad):Int).toNat bad):Int).toNat (bad||nmK s (↑(blA s a.toNat bad):Int).toNat==0)):Int).toNat))):Int)+(1:Int))).toNat (mrB (58
 : UInt8) s (↑(nmA s (↑(blA s a.toNat bad):Int).toNat bad):Int).toNat (bad||nmK s (↑(blA s a.toNat bad):Int).toNat==0)||!An (nxt s (↑(mrA (58 :
 UInt8) s (↑(nmA s (↑(blA s a.toNat bad):Int).toNat bad):Int).toNat (bad||nmK s (↑(blA s a.toNat bad):Int).toNat==0)):Int).toNat))):Int).toNat).toNat
 : Int))<=(122:Int))) (ifT (decide (0<=(↑(blA s (i64.wrap ((↑(blA s (↑(nbA s (↑(mrA (58:UInt8) s (↑(nmA s (↑(blA s a.toNat bad):Int).toNat bad) :
 Int).toNat (bad||nmK s (↑(blA s a.toNat bad):Int).toNat==0)):Int).toNat (mrB (58:UInt8) s (↑(nmA s (↑(blA s a.toNat bad):Int).toNat bad):Int).toNat
 (bad||nmK s (↑(blA s a.toNat bad):Int).toNat==0))):Int).toNat (mrB (58:UInt8) s (↑(nmA s (↑(blA s a.toNat bad):Int).toNat bad):Int).toNat (bad||
 nmK s (↑(blA s a.toNat bad):Int).toNat==0)||!An (nxt s (↑(mrA (58:UInt8) s (↑(nmA s (↑(blA s a.toNat bad):Int).toNat bad):Int).toNat (bad||nmK s
 (↑(blA s a.toNat bad):Int).toNat==0)):Int).toNat))):Int)+(1:Int))).toNat (mrB (58:UInt8) s (↑(nmA s (↑(blA s a.toNat bad):Int).toNat bad) :
 Int).toNat (bad||nmK s (↑(blA s a.toNat bad):Int).toNat==0)||!An (nxt s (↑(mrA (58:UInt8) s (↑(nmA s (↑(blA s a.toNat bad):Int).toNat bad) :
 Int).toNat (bad||nmK s (↑(blA s a.toNat bad):Int).toNat==0)):Int).toNat))):Int)/\(↑(blA s (i64.wrap ((↑(blA s (↑(nbA s (↑(mrA (58:UInt8) s
 (↑(nmA s (↑(blA s a.toNat bad):Int).toNat bad):Int).toNat (bad||nmK s (↑(blA s a.toNat bad):Int).toNat==0)):Int).toNat (mrB (58:UInt8) s (↑(nmA s
 (↑(blA s a.toNat bad):Int).toNat bad):Int).toNat (bad||nmK s (↑(blA s a.toNat bad):Int).toNat==0))):Int).toNat (mrB (58:UInt8) s (↑(nmA s (↑(blA s
 a.toNat bad):Int).toNat bad):Int).toNat (bad||nmK s (↑(blA s a.toNat bad):Int).toNat==0)||!An (nxt s (↑(mrA (58:UInt8) s (↑(nmA s (↑(blA s a.toNat
 bad):Int).toNat bad):Int).toNat (bad||nmK s (↑(blA s a.toNat bad):Int).toNat==0)):Int).toNat))):Int)+(1:Int))).toNat (mrB (58:UInt8) s (↑(nmA
 s (↑(blA s a.toNat bad):Int).toNat bad):Int).toNat (bad||nmK s (↑(blA s a.toNat bad):Int).toNat==0)||!An (nxt s (↑(mrA (58:UInt8) s (↑(nmA s
 (↑(blA s a.toNat bad):Int).toNat bad):Int).toNat (bad||nmK s (↑(blA s a.toNat bad):Int).toNat==0)):Int).toNat))):Int).toNat<=s.length/\s.length<=
 400/\1<=n/\(true=true\/s.length-(↑(blA s (i64.wrap ((↑(blA s (↑(nbA s (↑(mrA (58:UInt8) s (↑(nmA s (↑(blA s a.toNat bad):Int).toNat
 bad):Int).toNat (bad||nmK s (↑(blA s a.toNat bad):Int).toNat==0)):Int).toNat (mrB (58:UInt8) s (↑(nmA s (↑(blA s a.toNat bad):Int).toNat bad) :
 Int).toNat (bad||nmK s (↑(blA s a.toNat bad):Int).toNat==0))):Int).toNat (mrB (58:UInt8) s (↑(nmA s (↑(blA s a.toNat bad):Int).toNat bad):Int).toNat
 (bad||nmK s (↑(blA s a.toNat bad):Int).toNat==0)||!An (nxt s (↑(mrA (58:UInt8) s (↑(nmA s (↑(blA s a.toNat bad):Int).toNat bad):Int).toNat (bad||
 nmK s (↑(blA s a.toNat bad):Int).toNat==0)):Int).toNat))):Int)+(1:Int))).toNat (mrB (58:UInt8) s (↑(nmA s (↑(blA s a.toNat bad):Int).toNat bad) :
 Int).toNat (bad||nmK s (↑(blA s a.toNat bad):Int).toNat==0)||!An (nxt s (↑(mrA (58:UInt8) s (↑(nmA s (↑(blA s a.toNat bad):Int).toNat bad) :
 Int).toNat (bad||nmK s (↑(blA s a.toNat bad):Int).toNat==0)):Int).toNat))):Int).toNat+3<=n))) (some (V.ptr 1 0,[some (Blk.box [V.s s,V.i
 .i64 (↑sh3.2.1:Int),V.b sh3.2.2]),some (Blk.box [V.j sh3.1.lab.1,V.s sh5,V.j (↑(nbV s (↑(mrA (58:UInt8) s (↑(nmA s (↑(blA s a.toNat bad) :
 Int).toNat bad):Int).toNat (bad||nmK s (↑(blA s a.toNat bad):Int).toNat==0)):Int).toNat (mrB (58:UInt8) s (↑(nmA s (↑(blA s a.toNat bad):Int).toNat
 bad):Int).toNat (bad||nmK s (↑(blA s a.toNat bad):Int).toNat==0))):Int),V.b true,V.j sh3.1.lab.2.2.2.2.1,V.ref 2 0
 sh3.1.kids.length]),R0 LCd.tree sh3.1.kids]))) (ifT (decide (0<=(↑(blA s (i64.wrap ((↑(blA s (↑(nbA s (↑(mrA (58:UInt8) s (↑(nmA s
 (↑(blA s a.toNat bad):Int).toNat bad):Int).toNat (bad||nmK s (↑(blA s a.toNat bad):Int).toNat==0)):Int).toNat (mrB (58:UInt8) s (↑(nmA s (↑(blA s
 a.toNat bad):Int).toNat bad):Int).toNat (bad||nmK s (↑(blA s a.toNat bad):Int).toNat==0))):Int).toNat (mrB (58:UInt8) s (↑(nmA s (↑(blA s a.toNat
 bad):Int).toNat bad):Int).toNat (bad||nmK s (↑(blA s a.toNat bad):Int).toNat==0)||!An (nxt s (↑(mrA (58:UInt8) s (↑(nmA s (↑(blA s a.toNat bad) :
 Int).toNat bad):Int).toNat (bad||nmK s (↑(blA s a.toNat bad):Int).toNat==0)):Int).toNat))):Int)+(1:Int))).toNat (mrB (58:UInt8) s (↑(nmA s
 (↑(blA s a.toNat bad):Int).toNat bad):Int).toNat (bad||nmK s (↑(blA s a.toNat bad):Int).toNat==0)||!An (nxt s (↑(mrA (58:UInt8) s (↑(nmA s (↑(blA
 s a.toNat bad):Int).toNat bad):Int).toNat (bad||nmK s (↑(blA s a.toNat bad):Int).toNat==0)):Int).toNat))):Int)/\(↑(blA s (i64.wrap ((↑(blA
 s (↑(nbA s (↑(mrA (58:UInt8) s (↑(nmA s (↑(blA s a.toNat bad):Int).toNat bad):Int).toNat (bad||nmK s (↑(blA s a.toNat bad):Int).toNat==0)) :
 Int).toNat (mrB (58:UInt8) s (↑(nmA s (↑(blA s a.toNat bad):Int).toNat bad):Int).toNat (bad||nmK s (↑(blA s a.toNat bad):Int).toNat==0))):Int).toNat
 (mrB (58:UInt8) s (↑(nmA s (↑(blA s a.toNat bad):Int).toNat bad):Int).toNat (bad||nmK s (↑(blA s a.toNat bad):Int).toNat==0)||!An (nxt s (↑(mrA
 (58:UInt8) s (↑(nmA s (↑(blA s a.toNat bad):Int).toNat bad):Int).toNat (bad||nmK s (↑(blA s a.toNat bad):Int).toNat==0)):Int).toNat))):Int)+(1 :
 Int))).toNat (mrB (58:UInt8) s (↑(nmA s (↑(blA s a.toNat bad):Int).toNat bad):Int).toNat (bad||nmK s (↑(blA s a.toNat bad):Int).toNat==0)||!An
 (nxt s (↑(mrA (58:UInt8) s (↑(nmA s (↑(blA s a.toNat bad):Int).toNat bad):Int).toNat (bad||nmK s (↑(blA s a.toNat bad):Int).toNat==0)):Int).toNat)))
 : Int).toNat<=s.length/\s.length<=400/\1<=n/\((mrB (58:UInt8) s (↑(nmA s (↑(blA s a.toNat bad):Int).toNat bad):Int).toNat (bad||nmK s (↑(blA
 s a.toNat bad):Int).toNat==0)||!An (nxt s (↑(mrA (58:UInt8) s (↑(nmA s (↑(blA s a.toNat bad):Int).toNat bad):Int).toNat (bad||nmK s (↑(blA s
 a.toNat bad):Int).toNat==0)):Int).toNat))=true\/s.length-(↑(blA s (i64.wrap ((↑(blA s (↑(nbA s (↑(mrA (58:UInt8) s (↑(nmA s (↑(blA s a.toNat
 bad):Int).toNat bad):Int).toNat (bad||nmK s (↑(blA s a.toNat bad):Int).toNat==0)):Int).toNat (mrB (58:UInt8) s (↑(nmA s (↑(blA s a.toNat bad) :
 Int).toNat bad):Int).toNat (bad||nmK s (↑(blA s a.toNat bad):Int).toNat==0))):Int).toNat (mrB (58:UInt8) s (↑(nmA s (↑(blA s a.toNat bad):Int).toNat
 bad):Int).toNat (bad||nmK s (↑(blA s a.toNat bad):Int).toNat==0)||!An (nxt s (↑(mrA (58:UInt8) s (↑(nmA s (↑(blA s a.toNat bad):Int).toNat bad) :
 Int).toNat (bad||nmK s (↑(blA s a.toNat bad):Int).toNat==0)):Int).toNat))):Int)+(1:Int))).toNat (mrB (58:UInt8) s (↑(nmA s (↑(blA s a.toNat bad) :
 Int).toNat bad):Int).toNat (bad||nmK s (↑(blA s a.toNat bad):Int).toNat==0)||!An (nxt s (↑(mrA (58:UInt8) s (↑(nmA s (↑(blA s a.toNat bad) :
 Int).toNat bad):Int).toNat (bad||nmK s (↑(blA s a.toNat bad):Int).toNat==0)):Int).toNat))):Int).toNat+3<=n))) (some (V.ptr 1 0,[some
 (Blk.box [V.s s,V.j (↑sh1.2.1:Int),V.b sh1.2.2]),some (Blk.box [V.j sh1.1.lab.1,V.s sh5,V.j (↑(nbV s (↑(mrA (58:UInt8) s (↑(nmA s
 (↑(blA s a.toNat bad):Int).toNat bad):Int).toNat (bad||nmK s (↑(blA s a.toNat bad):Int).toNat==0)):Int).toNat (mrB (58:UInt8) s (↑(nmA s (↑(blA s
 a.toNat bad):Int).toNat bad):Int).toNat (bad||nmK s (↑(blA s a.toNat bad):Int).toNat==0))):Int),V.b true,V.j sh1.1.lab.2.2.2.2.1,
 V.ref 2 0 sh1.1.kids.length]),R0 LCd.tree sh1.1.kids])))) (ifT (decide (0<=(↑(blA s (i64.wrap ((↑(blA s (↑(nbA s (↑(mrA (58:UInt8)
 s (↑(nmA s (↑(blA s a.toNat bad):Int).toNat bad):Int).toNat (bad||nmK s (↑(blA s a.toNat bad):Int).toNat==0)):Int).toNat (mrB (58:UInt8) s (↑(nmA s
 (↑(blA s a.toNat bad):Int).toNat bad):Int).toNat (bad||nmK s (↑(blA s a.toNat bad):Int).toNat==0))):Int).toNat (mrB (58:UInt8) s (↑(nmA s (↑(blA s
 a.toNat bad):Int).toNat bad):Int).toNat (bad||nmK s (↑(blA s a.toNat bad):Int).toNat==0)||!An (nxt s (↑(mrA (58:UInt8) s (↑(nmA s (↑(blA s a.toNat
 bad):Int).toNat bad):Int).toNat (bad||nmK s (↑(blA s a.toNat bad):Int).toNat==0)):Int).toNat))):Int)+(1:Int))).toNat (mrB (58:UInt8) s (↑(nmA
 s (↑(blA s a.toNat bad):Int).toNat bad):Int).toNat (bad||nmK s (↑(blA s a.toNat bad):Int).toNat==0)||!An (nxt s (↑(mrA (58:UInt8) s (↑(nmA s
 (↑(blA s a.toNat bad):Int).toNat bad):Int).toNat (bad||nmK s (↑(blA s a.toNat bad):Int).toNat==0)):Int).toNat))):Int)/\(↑(blA s (i64.wrap
 ((↑(blA s (↑(nbA s (↑(mrA (58:UInt8) s (↑(nmA s (↑(blA s a.toNat bad):Int).toNat bad):Int).toNat (bad||nmK s (↑(blA s a.toNat bad):Int).toNat==0)) :
 Int).toNat (mrB (58:UInt8) s (↑(nmA s (↑(blA s a.toNat bad):Int).toNat bad):Int).toNat (bad||nmK s (↑(blA s a.toNat bad):Int).toNat==0))):Int).toNat
 (mrB (58:UInt8) s (↑(nmA s (↑(blA s a.toNat bad):Int).toNat bad):Int).toNat (bad||nmK s (↑(blA s a.toNat bad):Int).toNat==0)||!An (nxt s (↑(mrA
 (58:UInt8) s (↑(nmA s (↑(blA s a.toNat bad):Int).toNat bad):Int).toNat (bad||nmK s (↑(blA s a.toNat bad):Int).toNat==0)):Int).toNat))):Int)+(1 :
 Int))).toNat (mrB (58:UInt8) s (↑(nmA s (↑(blA s a.toNat bad):Int).toNat bad):Int).toNat (bad||nmK s (↑(blA s a.toNat bad):Int).toNat==0)||!An
 (nxt s (↑(mrA (58:UInt8) s (↑(nmA s (↑(blA s a.toNat bad):Int).toNat bad):Int).toNat (bad||nmK s (↑(blA s a.toNat bad):Int).toNat==0)):Int).toNat)))
 : Int).toNat<=s.length/\s.length<=400/\1<=n/\((mrB (58:UInt8) s (↑(nmA s (↑(blA s a.toNat bad):Int).toNat bad):Int).toNat (bad||nmK s (↑(blA
 s a.toNat bad):Int).toNat==0)||!An (nxt s (↑(mrA (58:UInt8) s (↑(nmA s (↑(blA s a.toNat bad):Int).toNat bad):Int).toNat (bad||nmK s (↑(blA s
 a.toNat bad):Int).toNat==0)):Int).toNat))=true\/s.length-(↑(blA s (i64.wrap ((↑(blA s (↑(nbA s (↑(mrA (58:UInt8) s (↑(nmA s (↑(blA s a.toNat
 bad):Int).toNat bad):Int).toNat (bad||nmK s (↑(blA s a.toNat bad):Int).toNat==0)):Int).toNat (mrB (58:UInt8) s (↑(nmA s (↑(blA s a.toNat bad) :
 Int).toNat bad):Int).toNat (bad||nmK s (↑(blA s a.toNat bad):Int).toNat==0))):Int).toNat (mrB (58:UInt8) s (↑(nmA s (↑(blA s a.toNat bad):Int).toNat
 bad):Int).toNat (bad||nmK s (↑(blA s a.toNat bad):Int).toNat==0)||!An (nxt s (↑(mrA (58:UInt8) s (↑(nmA s (↑(blA s a.toNat bad):Int).toNat bad) :
 Int).toNat (bad||nmK s (↑(blA s a.toNat bad):Int).toNat==0)):Int).toNat))):Int)+(1:Int))).toNat (mrB (58:UInt8) s (↑(nmA s (↑(blA s a.toNat bad) :
 Int).toNat bad):Int).toNat (bad||nmK s (↑(blA s a.toNat bad):Int).toNat==0)||!An (nxt s (↑(mrA (58:UInt8) s (↑(nmA s (↑(blA s a.toNat bad) :
 Int).toNat bad):Int).toNat (bad||nmK s (↑(blA s a.toNat bad):Int).toNat==0)):Int).toNat))):Int).toNat+3<=n))) (some (V.ptr 1 0,[some
 (Blk.box [V.s s,V.j (↑sh1.2.1:Int),V.b sh1.2.2]),some (Blk.box [V.j sh1.1.lab.1,V.s sh5,V.j (↑(nbV s (↑(mrA (58:UInt8) s (↑(nmA s
 (↑(blA s a.toNat bad):Int).toNat bad):Int).toNat (bad||nmK s (↑(blA s a.toNat bad):Int).toNat==0)):Int).toNat (mrB (58:UInt8) s (↑(nmA s (↑(blA s
 a.toNat bad):Int).toNat bad):Int).toNat (bad||nmK s (↑(blA s a.toNat bad):Int).toNat==0))):Int),V.b true,V.j sh1.1.lab.2.2.2.2.1,
 V.ref 2 0 sh1.1.kids.length]),R0 LCd.tree sh1.1.kids])))) (ifT (decide (0<=(↑(blA s (i64.wrap ((↑(blA s (↑(nbA s (↑(mrA (58:UInt8)
 s (↑(nmA s (↑(blA s a.toNat bad):Int).toNat bad):Int).toNat (bad||nmK s (↑(blA s a.toNat bad):Int).toNat==0)):Int).toNat (mrB (58:UInt8) s (↑(nmA s
 (↑(blA s a.toNat bad):Int).toNat bad):Int).toNat (bad||nmK s (↑(blA s a.toNat bad):Int).toNat==0))):Int).toNat (mrB (58:UInt8) s (↑(nmA s (↑(blA s
 a.toNat bad):Int).toNat bad):Int).toNat (bad||nmK s (↑(blA s a.toNat bad):Int).toNat==0)||!An (nxt s (↑(mrA (58:UInt8) s (↑(nmA s (↑(blA s a.toNat
 bad):Int).toNat bad):Int).toNat (bad||nmK s (↑(blA s a.toNat bad):Int).toNat==0)):Int).toNat))):Int)+(1:Int))).toNat (mrB (58:UInt8) s (↑(nmA
 s (↑(blA s a.toNat bad):Int).toNat bad):Int).toNat (bad||nmK s (↑(blA s a.toNat bad):Int).toNat==0)||!An (nxt s (↑(mrA (58:UInt8) s (↑(nmA s
 (↑(blA s a.toNat bad):Int).toNat bad):Int).toNat (bad||nmK s (↑(blA s a.toNat bad):Int).toNat==0)):Int).toNat))):Int)/\(↑(blA s (i64.wrap
 ((↑(blA s (↑(nbA s (↑(mrA (58:UInt8) s (↑(nmA s (↑(blA s a.toNat bad):Int).toNat bad):Int).toNat (bad||nmK s (↑(blA s a.toNat bad):Int).toNat==0)) :
 Int).toNat (mrB (58:UInt8) s (↑(nmA s (↑(blA s a.toNat bad):Int).toNat bad):Int).toNat (bad||nmK s (↑(blA s a.toNat bad):Int).toNat==0))):Int).toNat
 (mrB (58:UInt8) s (↑(nmA s (↑(blA s a.toNat bad):Int).toNat bad):Int).toNat (bad||nmK s (↑(blA s a.toNat bad):Int).toNat==0)||!An (nxt s (↑(mrA
 (58:UInt8) s (↑(nmA s (↑(blA s a.toNat bad):Int).toNat bad):Int).toNat (bad||nmK s (↑(blA s a.toNat bad):Int).toNat==0)):Int).toNat))):Int)+(1 :
 Int))).toNat (mrB (58:UInt8) s (↑(nmA s (↑(blA s a.toNat bad):Int).toNat bad):Int).toNat (bad||nmK s (↑(blA s a.toNat bad):Int).toNat==0)||!An
 (nxt s (↑(mrA (58:UInt8) s (↑(nmA s (↑(blA s a.toNat bad):Int).toNat bad):Int).toNat (bad||nmK s (↑(blA s a.toNat bad):Int).toNat==0)):Int).toNat)))
 : Int).toNat<=s.length/\s.length<=400/\1<=n/\((mrB (58:UInt8) s (↑(nmA s (↑(blA s a.toNat bad):Int).toNat bad):Int).toNat (bad||nmK s (↑(blA
 s a.toNat bad):Int).toNat==0)||!An (nxt s (↑(mrA (58:UInt8) s (↑(nmA s (↑(blA s a.toNat bad):Int).toNat bad):Int).toNat (bad||nmK s (↑(blA s
 a.toNat bad):Int).toNat==0)):Int).toNat))=true\/s.length-(↑(blA s (i64.wrap ((↑(blA s (↑(nbA s (↑(mrA (58:UInt8) s (↑(nmA s (↑(blA s a.toNat
 bad):Int).toNat bad):Int).toNat (bad||nmK s (↑(blA s a.toNat bad):Int).toNat==0)):Int).toNat (mrB (58:UInt8) s (↑(nmA s (↑(blA s a.toNat bad) :
 Int).toNat bad):Int).toNat (bad||nmK s (↑(blA s a.toNat bad):Int).toNat==0))):Int).toNat (mrB (58:UInt8) s (↑(nmA s (↑(blA s a.toNat bad):Int).toNat
 bad):Int).toNat (bad||nmK s (↑(blA s a.toNat bad):Int).toNat==0)||!An (nxt s (↑(mrA (58:UInt8) s (↑(nmA s (↑(blA s a.toNat bad):Int).toNat bad) :
 Int).toNat (bad||nmK s (↑(blA s a.toNat bad):Int).toNat==0)):Int).toNat))):Int)+(1:Int))).toNat (mrB (58:UInt8) s (↑(nmA s (↑(blA s a.toNat bad) :
 Int).toNat bad):Int).toNat (bad||nmK s (↑(blA s a.toNat bad):Int).toNat==0)||!An (nxt s (↑(mrA (58:UInt8) s (↑(nmA s (↑(blA s a.toNat bad) :
 Int).toNat bad):Int).toNat (bad||nmK s (↑(blA s a.toNat bad):Int).toNat==0)):Int).toNat))):Int).toNat+3<=n))) (some (V.ptr 1 0,[some
 (Blk.box [V.s s,V.j (↑sh1.2.1:Int),V.b sh1.2.2]),some (Blk.box [V.j sh1.1.lab.1,V.s sh5,V.j (↑(nbV s (↑(mrA (58:UInt8) s (↑(nmA s
 (↑(blA s a.toNat bad):Int).toNat bad):Int).toNat (bad||nmK s (↑(blA s a.toNat bad):Int).toNat==0)):Int).toNat (mrB (58:UInt8) s (↑(nmA s (↑(blA s
 a.toNat bad):Int).toNat bad):Int).toNat (bad||nmK s (↑(blA s a.toNat bad):Int).toNat==0))):Int),V.b true,V.j sh1.1.lab.2.2.2.2.1,
 V.ref 2 0 sh1.1.kids.length]),R0 LCd.tree sh1.1.kids])))))) (ifT (decide (0<=(↑(blA s (↑(nbA s (↑(mrA (58:UInt8) s (↑(nmA s (↑(blA s
 a.toNat bad):Int).toNat bad):Int).toNat (bad||nmK s (↑(blA s a.toNat bad):Int).toNat==0)):Int).toNat (mrB (58:UInt8) s (↑(nmA s (↑(blA s a.toNat
 bad):Int).toNat bad):Int).toNat (bad||nmK s (↑(blA s a.toNat bad):Int).toNat==0))):Int).toNat (mrB (58:UInt8) s (↑(nmA s (↑(blA s a.toNat bad) :
 Int).toNat bad):Int).toNat (bad||nmK s (↑(blA s a.toNat bad):Int).toNat==0)||!An (nxt s (↑(mrA (58:UInt8) s (↑(nmA s (↑(blA s a.toNat bad) :
 Int).toNat bad):Int).toNat (bad||nmK s (↑(blA s a.toNat bad):Int).toNat==0)):Int).toNat))):Int)/\(↑(blA s (↑(nbA s (↑(mrA (58:UInt8) s (↑(nmA s
 (↑(blA s a.toNat bad):Int).toNat bad):Int).toNat (bad||nmK s (↑(blA s a.toNat bad):Int).toNat==0)):Int).toNat (mrB (58:UInt8) s (↑(nmA s (↑(blA s
 a.toNat bad):Int).toNat bad):Int).toNat (bad||nmK s (↑(blA s a.toNat bad):Int).toNat==0))):Int).toNat (mrB (58:UInt8) s (↑(nmA s (↑(blA s a.toNat
 bad):Int).toNat bad):Int).toNat (bad||nmK s (↑(blA s a.toNat bad):Int).toNat==0)||!An (nxt s (↑(mrA (58:UInt8) s (↑(nmA s (↑(blA s a.toNat bad) :
 Int).toNat bad):Int).toNat (bad||nmK s (↑(blA s a.toNat bad):Int).toNat==0)):Int).toNat))):Int).toNat<=s.length/\s.length<=400)) (ifB
 (!(!(mrB (58:UInt8) s (↑(nmA s (↑(blA s a.toNat bad):Int).toNat bad):Int).toNat (bad||nmK s (↑(blA s a.toNat bad):Int).toNat==0)||!An (nxt s
 (↑(mrA (58:UInt8) s (↑(nmA s (↑(blA s a.toNat bad):Int).toNat bad):Int).toNat (bad||nmK s (↑(blA s a.toNat bad):Int).toNat==0)):Int).toNat))&&
 decide ((↑(nbA s (↑(mrA (58:UInt8) s (↑(nmA s (↑(blA s a.toNat bad):Int).toNat bad):Int).toNat (bad||nmK s (↑(blA s a.toNat bad):Int).toNat==0)) :
 Int).toNat (mrB (58:UInt8) s (↑(nmA s (↑(blA s a.toNat bad):Int).toNat bad):Int).toNat (bad||nmK s (↑(blA s a.toNat bad):Int).toNat==0))):Int).toNat
 < skp s (↑(nbA s (↑(mrA (58:UInt8) s (↑(nmA s (↑(blA s a.toNat bad):Int).toNat bad):Int).toNat (bad||nmK s (↑(blA s a.toNat bad):Int).toNat==0)) :
 Int).toNat (mrB (58:UInt8) s (↑(nmA s (↑(blA s a.toNat bad):Int).toNat bad):Int).toNat (bad||nmK s (↑(blA s a.toNat bad):Int).toNat==0))) :
 Int).toNat))) (ifB (decide ((bif mrB (58:UInt8) s (↑(nmA s (↑(blA s a.toNat bad):Int).toNat bad):Int).toNat (bad||nmK s (↑(blA s a.toNat bad):Int).toNat==(0 :
 Nat))||!An (nxt s (↑(mrA (58:UInt8) s (↑(nmA s (↑(blA s a.toNat bad):Int).toNat bad):Int).toNat (bad||nmK s (↑(blA s a.toNat bad):Int).toNat==0))
 : Int).toNat) then (0:Int) else (↑(nxt s (↑(blA s (↑(nbA s (↑(mrA (58:UInt8) s (↑(nmA s (↑(blA s a.toNat bad):Int).toNat bad):Int).toNat (bad||nmK s (↑(blA s
 a.toNat bad):Int).toNat==0)):Int).toNat (mrB (58:UInt8) s (↑(nmA s (↑(blA s a.toNat bad):Int).toNat bad):Int).toNat (bad||nmK s (↑(blA s a.toNat
 bad):Int).toNat==0))):Int).toNat (mrB (58:UInt8) s (↑(nmA s (↑(blA s a.toNat bad):Int).toNat bad):Int).toNat (bad||nmK s (↑(blA s a.toNat bad) :
 Int).toNat==0)||!An (nxt s (↑(mrA (58:UInt8) s (↑(nmA s (↑(blA s a.toNat bad):Int).toNat bad):Int).toNat (bad||nmK s (↑(blA s a.toNat bad) :
 Int).toNat==0)):Int).toNat))):Int).toNat).toNat:Int))>=(97:Int))) (ifB (decide ((bif mrB (58:UInt8) s (↑(nmA s (↑(blA s a.toNat bad):Int).toNat
 bad):Int).toNat (bad||nmK s (↑(blA s a.toNat bad):Int).toNat==0)||!An (nxt s (↑(mrA (58:UInt8) s (↑(nmA s (↑(blA s a.toNat bad):Int).toNat bad) :
 Int).toNat (bad||nmK s (↑(blA s a.toNat bad):Int).toNat==0)):Int).toNat) then (0:Int) else (↑(nxt s (↑(blA s (↑(nbA s (↑(mrA (58:UInt8) s (↑(nmA s
 (↑(blA s a.toNat bad):Int).toNat bad):Int).toNat (bad||nmK s (↑(blA s a.toNat bad):Int).toNat==0)):Int).toNat (mrB (58:UInt8) s (↑(nmA s (↑(blA s
 a.toNat bad):Int).toNat bad):Int).toNat (bad||nmK s (↑(blA s a.toNat bad):Int).toNat==0))):Int).toNat (mrB (58:UInt8) s (↑(nmA s (↑(blA s a.toNat
 bad):Int).toNat bad):Int).toNat (bad||nmK s (↑(blA s a.toNat bad):Int).toNat==0)||!An (nxt s (↑(mrA (58:UInt8) s (↑(nmA s (↑(blA s a.toNat bad) :
 Int).toNat bad):Int).toNat (bad||nmK s (↑(blA s a.toNat bad):Int).toNat==0)):Int).toNat))):Int).toNat).toNat:Int))<=(122:Int))) (ifT (decide (0<=
 (↑(blA s (↑(nbA s (↑(mrA (58:UInt8) s (↑(nmA s (↑(blA s a.toNat bad):Int).toNat bad):Int).toNat (bad||nmK s (↑(blA s a.toNat bad):Int).toNat==0)) :
 Int).toNat (mrB (58:UInt8) s (↑(nmA s (↑(blA s a.toNat bad):Int).toNat bad):Int).toNat (bad||nmK s (↑(blA s a.toNat bad):Int).toNat==0))):Int).toNat
 (mrB (58:UInt8) s (↑(nmA s (↑(blA s a.toNat bad):Int).toNat bad):Int).toNat (bad||nmK s (↑(blA s a.toNat bad):Int).toNat==0)||!An (nxt s (↑(mrA
 (58:UInt8) s (↑(nmA s (↑(blA s a.toNat bad):Int).toNat bad):Int).toNat (bad||nmK s (↑(blA s a.toNat bad):Int).toNat==0)):Int).toNat))):Int)/\
 (↑(blA s (↑(nbA s (↑(mrA (58:UInt8) s (↑(nmA s (↑(blA s a.toNat bad):Int).toNat bad):Int).toNat (bad||nmK s (↑(blA s a.toNat bad):Int).toNat==0)) :
 Int).toNat (mrB (58:UInt8) s (↑(nmA s (↑(blA s a.toNat bad):Int).toNat bad):Int).toNat (bad||nmK s (↑(blA s a.toNat bad):Int).toNat==0))):Int).toNat
 (mrB (58:UInt8) s (↑(nmA s (↑(blA s a.toNat bad):Int).toNat bad):Int).toNat (bad||nmK s (↑(blA s a.toNat bad):Int).toNat==0)||!An (nxt s (↑(mrA
 (58:UInt8) s (↑(nmA s (↑(blA s a.toNat bad):Int).toNat bad):Int).toNat (bad||nmK s (↑(blA s a.toNat bad):Int).toNat==0)):Int).toNat))):Int).toNat
 <= s.length/\s.length<=400/\1<=n/\(true=true\/s.length-(↑(blA s (↑(nbA s (↑(mrA (58:UInt8) s (↑(nmA s (↑(blA s a.toNat bad):Int).toNat bad) :
 Int).toNat (bad||nmK s (↑(blA s a.toNat bad):Int).toNat==0)):Int).toNat (mrB (58:UInt8) s (↑(nmA s (↑(blA s a.toNat bad):Int).toNat bad):Int).toNat
 (bad||nmK s (↑(blA s a.toNat bad):Int).toNat==0))):Int).toNat (mrB (58:UInt8) s (↑(nmA s (↑(blA s a.toNat bad):Int).toNat bad):Int).toNat (bad||
 nmK s (↑(blA s a.toNat bad):Int).toNat==0)||!An (nxt s (↑(mrA (58:UInt8) s (↑(nmA s (↑(blA s a.toNat bad):Int).toNat bad):Int).toNat (bad||nmK s
 (↑(blA s a.toNat bad):Int).toNat==0)):Int).toNat))):Int).toNat+3<=n))) (some (V.ptr 1 0,[some (Blk.box [V.s s,V.j (↑sh4.2.1:Int),
 V.b sh4.2.2]),some (Blk.box [V.j sh4.1.lab.1,V.s sh5,V.j (↑(nbV s (↑(mrA (58:UInt8) s (↑(nmA s (↑(blA s a.toNat bad):Int).toNat bad):Int).toNat
 (bad||nmK s (↑(blA s a.toNat bad):Int).toNat==0)):Int).toNat (mrB (58:UInt8) s (↑(nmA s (↑(blA s a.toNat bad):Int).toNat bad):Int).toNat (bad||nmK
 s (↑(blA s a.toNat bad):Int).toNat==0))):Int),V.b false,V.j sh4.1.lab.2.2.2.2.1,V.ref 2 0 sh4.1.kids.length]),R0 LCd.tree sh4.1.kids]))) (ifT (decide (0<=(↑(blA s (↑(nbA s (↑(mrA (58:UInt8) s (↑(nmA s (↑(blA s a.toNat bad):Int).toNat bad):Int).toNat (bad||nmK s
 (↑(blA s a.toNat bad):Int).toNat==0)):Int).toNat (mrB (58:UInt8) s (↑(nmA s (↑(blA s a.toNat bad):Int).toNat bad):Int).toNat (bad||nmK s (↑(blA s
 a.toNat bad):Int).toNat==0))):Int).toNat (mrB (58:UInt8) s (↑(nmA s (↑(blA s a.toNat bad):Int).toNat bad):Int).toNat (bad||nmK s (↑(blA s a.toNat
 bad):Int).toNat==0)||!An (nxt s (↑(mrA (58:UInt8) s (↑(nmA s (↑(blA s a.toNat bad):Int).toNat bad):Int).toNat (bad||nmK s (↑(blA s a.toNat bad) :
 Int).toNat==0)):Int).toNat))):Int)/\(↑(blA s (↑(nbA s (↑(mrA (58:UInt8) s (↑(nmA s (↑(blA s a.toNat bad):Int).toNat bad):Int).toNat (bad||nmK s
 (↑(blA s a.toNat bad):Int).toNat==0)):Int).toNat (mrB (58:UInt8) s (↑(nmA s (↑(blA s a.toNat bad):Int).toNat bad):Int).toNat (bad||nmK s (↑(blA s
 a.toNat bad):Int).toNat==0))):Int).toNat (mrB (58:UInt8) s (↑(nmA s (↑(blA s a.toNat bad):Int).toNat bad):Int).toNat (bad||nmK s (↑(blA s a.toNat
 bad):Int).toNat==0)||!An (nxt s (↑(mrA (58:UInt8) s (↑(nmA s (↑(blA s a.toNat bad):Int).toNat bad):Int).toNat (bad||nmK s (↑(blA s a.toNat bad) :
 Int).toNat==0)):Int).toNat))):Int).toNat<=s.length/\s.length<=400/\1<=n/\((mrB (58:UInt8) s (↑(nmA s (↑(blA s a.toNat bad) :
 Int).toNat bad):Int).toNat (bad||nmK s (↑(blA s a.toNat bad):Int).toNat==0)||!An (nxt s (↑(mrA (58:UInt8) s (↑(nmA s (↑(blA s a.toNat bad) :
 Int).toNat bad):Int).toNat (bad||nmK s (↑(blA s a.toNat bad):Int).toNat==0)):Int).toNat))=true\/s.length-(↑(blA s (↑(nbA s (↑(mrA (58:UInt8) s
 (↑(nmA s (↑(blA s a.toNat bad):Int).toNat bad):Int).toNat (bad||nmK s (↑(blA s a.toNat bad):Int).toNat==0)):Int).toNat (mrB (58:UInt8) s (↑(nmA s
 (↑(blA s a.toNat bad):Int).toNat bad):Int).toNat (bad||nmK s (↑(blA s a.toNat bad):Int).toNat==0))):Int).toNat (mrB (58:UInt8) s (↑(nmA s (↑(blA s
 a.toNat bad):Int).toNat bad):Int).toNat (bad||nmK s (↑(blA s a.toNat bad):Int).toNat==0)||!An (nxt s (↑(mrA (58:UInt8) s (↑(nmA s (↑(blA s a.toNat
 bad):Int).toNat bad):Int).toNat (bad||nmK s (↑(blA s a.toNat bad):Int).toNat==0)):Int).toNat))):Int).toNat+3<=n))) (some (V.ptr 1 0,
 [some (Blk.box [V.s s,V.j (↑sh2.2.1:Int),V.b sh2.2.2]),some (Blk.box [V.j sh2.1.lab.1,V.s sh5,V.j (↑(nbV s (↑(mrA (58:UInt8) s (↑(nmA
 s (↑(blA s a.toNat bad):Int).toNat bad):Int).toNat (bad||nmK s (↑(blA s a.toNat bad):Int).toNat==0)):Int).toNat (mrB (58:UInt8) s (↑(nmA s (↑(blA s
 a.toNat bad):Int).toNat bad):Int).toNat (bad||nmK s (↑(blA s a.toNat bad):Int).toNat==0))):Int),V.b false,V.j sh2.1.lab.2.2.2.2.1,
 V.ref 2 0 sh2.1.kids.length]),R0 LCd.tree sh2.1.kids])))) (ifT (decide (0<=(↑(blA s (↑(nbA s (↑(mrA (58:UInt8) s (↑(nmA s (↑(blA s a.toNat
 bad):Int).toNat bad):Int).toNat (bad||nmK s (↑(blA s a.toNat bad):Int).toNat==0)):Int).toNat (mrB (58:UInt8) s (↑(nmA s (↑(blA s a.toNat bad) :
 Int).toNat bad):Int).toNat (bad||nmK s (↑(blA s a.toNat bad):Int).toNat==0))):Int).toNat (mrB (58:UInt8) s (↑(nmA s (↑(blA s a.toNat bad):Int).toNat
 bad):Int).toNat (bad||nmK s (↑(blA s a.toNat bad):Int).toNat==0)||!An (nxt s (↑(mrA (58:UInt8) s (↑(nmA s (↑(blA s a.toNat bad):Int).toNat bad) :
 Int).toNat (bad||nmK s (↑(blA s a.toNat bad):Int).toNat==0)):Int).toNat))):Int)/\(↑(blA s (↑(nbA s (↑(mrA (58:UInt8) s (↑(nmA s (↑(blA s a.toNat bad)
 : Int).toNat bad):Int).toNat (bad||nmK s (↑(blA s a.toNat bad):Int).toNat==0)):Int).toNat (mrB (58:UInt8) s (↑(nmA s (↑(blA s a.toNat bad) :
 Int).toNat bad):Int).toNat (bad||nmK s (↑(blA s a.toNat bad):Int).toNat==0))):Int).toNat (mrB (58:UInt8) s (↑(nmA s (↑(blA s a.toNat bad):Int).toNat
 bad):Int).toNat (bad||nmK s (↑(blA s a.toNat bad):Int).toNat==0)||!An (nxt s (↑(mrA (58:UInt8) s (↑(nmA s (↑(blA s a.toNat bad):Int).toNat bad) :
 Int).toNat (bad||nmK s (↑(blA s a.toNat bad):Int).toNat==0)):Int).toNat))):Int).toNat<=s.length/\s.length<=400/\1<=n/\((mrB (58 :
 UInt8) s (↑(nmA s (↑(blA s a.toNat bad):Int).toNat bad):Int).toNat (bad||nmK s (↑(blA s a.toNat bad):Int).toNat==0)||!An (nxt s (↑(mrA (58:UInt8)
 s (↑(nmA s (↑(blA s a.toNat bad):Int).toNat bad):Int).toNat (bad||nmK s (↑(blA s a.toNat bad):Int).toNat==0)):Int).toNat))=true\/s.length-(↑(blA
 s (↑(nbA s (↑(mrA (58:UInt8) s (↑(nmA s (↑(blA s a.toNat bad):Int).toNat bad):Int).toNat (bad||nmK s (↑(blA s a.toNat bad):Int).toNat==0)) :
 Int).toNat (mrB (58:UInt8) s (↑(nmA s (↑(blA s a.toNat bad):Int).toNat bad):Int).toNat (bad||nmK s (↑(blA s a.toNat bad):Int).toNat==0))):Int).toNat
 (mrB (58:UInt8) s (↑(nmA s (↑(blA s a.toNat bad):Int).toNat bad):Int).toNat (bad||nmK s (↑(blA s a.toNat bad):Int).toNat==0)||!An (nxt s (↑(mrA
 (58:UInt8) s (↑(nmA s (↑(blA s a.toNat bad):Int).toNat bad):Int).toNat (bad||nmK s (↑(blA s a.toNat bad):Int).toNat==0)):Int).toNat))):Int).toNat
 + 3<=n))) (some (V.ptr 1 0,[some (Blk.box [V.s s,V.j (↑sh2.2.1:Int),V.b sh2.2.2]),some (Blk.box [V.j sh2.1.lab.1,V.s sh5,V.i .i64
 (↑(nbV s (↑(mrA (58:UInt8) s (↑(nmA s (↑(blA s a.toNat bad):Int).toNat bad):Int).toNat (bad||nmK s (↑(blA s a.toNat bad):Int).toNat==0)):Int).toNat
 (mrB (58:UInt8) s (↑(nmA s (↑(blA s a.toNat bad):Int).toNat bad):Int).toNat (bad||nmK s (↑(blA s a.toNat bad):Int).toNat==0))):Int),V.b false,V.i
 .i64 sh2.1.lab.2.2.2.2.1,V.ref 2 0 sh2.1.kids.length]),R0 LCd.tree sh2.1.kids])))) (ifT (decide (0<=(↑(blA s (↑(nbA s (↑(mrA (58
 : UInt8) s (↑(nmA s (↑(blA s a.toNat bad):Int).toNat bad):Int).toNat (bad||nmK s (↑(blA s a.toNat bad):Int).toNat==0)):Int).toNat (mrB (58:UInt8) s
 (↑(nmA s (↑(blA s a.toNat bad):Int).toNat bad):Int).toNat (bad||nmK s (↑(blA s a.toNat bad):Int).toNat==0))):Int).toNat (mrB (58:UInt8) s (↑(nmA s
 (↑(blA s a.toNat bad):Int).toNat bad):Int).toNat (bad||nmK s (↑(blA s a.toNat bad):Int).toNat==0)||!An (nxt s (↑(mrA (58:UInt8) s (↑(nmA s (↑(blA
 s a.toNat bad):Int).toNat bad):Int).toNat (bad||nmK s (↑(blA s a.toNat bad):Int).toNat==0)):Int).toNat))):Int)/\(↑(blA s (↑(nbA s (↑(mrA (58 :
 UInt8) s (↑(nmA s (↑(blA s a.toNat bad):Int).toNat bad):Int).toNat (bad||nmK s (↑(blA s a.toNat bad):Int).toNat==0)):Int).toNat (mrB (58:UInt8) s
 (↑(nmA s (↑(blA s a.toNat bad):Int).toNat bad):Int).toNat (bad||nmK s (↑(blA s a.toNat bad):Int).toNat==0))):Int).toNat (mrB (58:UInt8) s (↑(nmA s
 (↑(blA s a.toNat bad):Int).toNat bad):Int).toNat (bad||nmK s (↑(blA s a.toNat bad):Int).toNat==0)||!An (nxt s (↑(mrA (58:UInt8) s (↑(nmA s (↑(blA
 s a.toNat bad):Int).toNat bad):Int).toNat (bad||nmK s (↑(blA s a.toNat bad):Int).toNat==0)):Int).toNat))):Int).toNat<=s.length/\s.length<=(400 :
 Nat)/\1<=n/\((mrB (58:UInt8) s (↑(nmA s (↑(blA s a.toNat bad):Int).toNat bad):Int).toNat (bad||nmK s (↑(blA s a.toNat bad):Int).toNat==0)
 || !An (nxt s (↑(mrA (58:UInt8) s (↑(nmA s (↑(blA s a.toNat bad):Int).toNat bad):Int).toNat (bad||nmK s (↑(blA s a.toNat bad):Int).toNat==0)) :
 Int).toNat))=true\/s.length-(↑(blA s (↑(nbA s (↑(mrA (58:UInt8) s (↑(nmA s (↑(blA s a.toNat bad):Int).toNat bad):Int).toNat (bad||nmK s (↑(blA s a.toNat bad)
 : Int).toNat==0)):Int).toNat (mrB (58:UInt8) s (↑(nmA s (↑(blA s a.toNat bad):Int).toNat bad):Int).toNat (bad||nmK s (↑(blA s a.toNat bad) :
 Int).toNat==0))):Int).toNat (mrB (58:UInt8) s (↑(nmA s (↑(blA s a.toNat bad):Int).toNat bad):Int).toNat (bad||nmK s (↑(blA s a.toNat bad):Int).toNat
 == 0)||!An (nxt s (↑(mrA (58:UInt8) s (↑(nmA s (↑(blA s a.toNat bad):Int).toNat bad):Int).toNat (bad||nmK s (↑(blA s a.toNat bad):Int).toNat==(0 :
 Nat))):Int).toNat))):Int).toNat+3<=n))) (some (V.ptr 1 0,[some (Blk.box [V.s s,V.j (↑sh2.2.1:Int),V.b sh2.2.2]),some (Blk.box [V.i .i64
 sh2.1.lab.1,V.s sh5,V.j (↑(nbV s (↑(mrA (58:UInt8) s (↑(nmA s (↑(blA s a.toNat bad):Int).toNat bad):Int).toNat (bad||nmK s (↑(blA s a.toNat bad) :
 Int).toNat==0)):Int).toNat (mrB (58:UInt8) s (↑(nmA s (↑(blA s a.toNat bad):Int).toNat bad):Int).toNat (bad||nmK s (↑(blA s a.toNat bad):Int).toNat
 == 0))):Int),V.b false,V.j sh2.1.lab.2.2.2.2.1,V.ref 2 0 sh2.1.kids.length]),R0 LCd.tree sh2.1.kids])))))))))))):_):=by kernel_rfl
theorem Oz (n:Nat) (f g:By->Nat->Bool->Rose Lab×Nat×Bool) (s:By) (a:Int) (bad:Bool):BA prog (Ab [(50,.rd1 E5),(35,.own Ni),(16,.own Hy),(52,.own M8),(53,.own (H0 n f)),(17,.own (JP n g))]) (Ab []) f53 [.ptr 0 0] [(.box [.s s,.j (a),.b (bad)])] =
 ((shr (Al LCd.tree.den) fun sh3=>shr (g s (↑(mrA (123:UInt8) s a.toNat bad):Int).toNat (mrB (123:UInt8) s a.toNat bad)) fun sh2=>shr (f s (↑(mrA (91:UInt8) s
 a.toNat bad):Int).toNat (mrB (91:UInt8) s a.toNat bad)) fun sh1=>ifT (decide (0<=a/\a.toNat<=s.length/\s.length<=400)) (ifB ((bif bad then (0:Int)
 else (↑(nxt s a.toNat).toNat:Int))==(110:Int)) (ifT (decide (0<=a/\a.toNat<=s.length/\s.length<=400/\3<=400)&&[(110:UInt8),(117
 : UInt8),(109:UInt8)].all fun b=>b != (0:UInt8)) (some (V.ptr 1 0,[some (Blk.box [V.s s,V.j (↑(wdA [(110:UInt8),(117:UInt8),(109:UInt8)] s a.toNat
 bad):Int),V.b (wdB [(110:UInt8),(117:UInt8),(109:UInt8)] s a.toNat bad)]),some (Blk.box [V.j 1,V.s (Al UInt8),V.j 0,V.b false,V.j 0,
 V.ref 2 0 0]),R0 LCd.tree sh3]))) (ifB ((bif bad then (0:Int) else (↑(nxt s a.toNat).toNat:Int))==(116:Int)) (ifT (decide (0<=a/\a.toNat
 <= s.length/\s.length<=400/\4<=400)&&[(116:UInt8),(101:UInt8),(120:UInt8),(116:UInt8)].all fun b=>b != (0:UInt8)) (some (V.ptr
 1 0,[some (Blk.box [V.s s,V.j (↑(wdA [(116:UInt8),(101:UInt8),(120:UInt8),(116:UInt8)] s a.toNat bad):Int),V.b (wdB [(116:UInt8),(101:UInt8),
 (120:UInt8),(116:UInt8)] s a.toNat bad)]),some (Blk.box [V.j 2,V.s (Al UInt8),V.j 0,V.b false,V.j 0,V.ref 2 0 0]),R0 LCd.tree sh3]))) (ifB ((bif bad then (0:Int) else (↑(nxt s a.toNat).toNat:Int))==(101:Int)) (ifT (decide (0<=a/\a.toNat<=s.length/\s.length<=400/\
 4<=400)&&[(101:UInt8),(110:UInt8),(117:UInt8),(109:UInt8)].all fun b=>b != (0:UInt8)) (ifT (decide (0<=(↑(wdA [(101:UInt8),(110 :
 UInt8),(117:UInt8),(109:UInt8)] s a.toNat bad):Int)/\(↑(wdA [(101:UInt8),(110:UInt8),(117:UInt8),(109:UInt8)] s a.toNat bad):Int).toNat<=s.length/\
 s.length<=400/\(40:UInt8)≠(0:UInt8))) (ifT (decide (0<=(↑(mrA (40:UInt8) s (↑(wdA [(101:UInt8),(110:UInt8),(117:UInt8),(109:UInt8)] s
 a.toNat bad):Int).toNat (wdB [(101:UInt8),(110:UInt8),(117:UInt8),(109:UInt8)] s a.toNat bad)):Int)/\(↑(mrA (40:UInt8) s (↑(wdA [(101:UInt8),(110 :
 UInt8),(117:UInt8),(109:UInt8)] s a.toNat bad):Int).toNat (wdB [(101:UInt8),(110:UInt8),(117:UInt8),(109:UInt8)] s a.toNat bad)):Int).toNat<=
 s.length/\s.length<=400)) (ifT (decide (0<=(↑(nbA s (↑(mrA (40:UInt8) s (↑(wdA [(101:UInt8),(110:UInt8),(117:UInt8),(109:UInt8)] s a.toNat bad) :
 Int).toNat (wdB [(101:UInt8),(110:UInt8),(117:UInt8),(109:UInt8)] s a.toNat bad)):Int).toNat (mrB (40:UInt8) s (↑(wdA [(101:UInt8),(110:UInt8),(117 :
 UInt8),(109:UInt8)] s a.toNat bad):Int).toNat (wdB [(101:UInt8),(110:UInt8),(117:UInt8),(109:UInt8)] s a.toNat bad))):Int)/\(↑(nbA s (↑(mrA (40 :
 UInt8) s (↑(wdA [(101:UInt8),(110:UInt8),(117:UInt8),(109:UInt8)] s a.toNat bad):Int).toNat (wdB [(101:UInt8),(110:UInt8),(117:UInt8),(109:UInt8)]
 s a.toNat bad)):Int).toNat (mrB (40:UInt8) s (↑(wdA [(101:UInt8),(110:UInt8),(117:UInt8),(109:UInt8)] s a.toNat bad):Int).toNat (wdB [(101:UInt8),(110
 : UInt8),(117:UInt8),(109:UInt8)] s a.toNat bad))):Int).toNat<=s.length/\s.length<=400/\(41:UInt8)≠(0:UInt8))) (some (V.ptr 1 0,[some (Blk.box
 [V.s s,V.j (↑(mrA (41:UInt8) s (↑(nbA s (↑(mrA (40:UInt8) s (↑(wdA [(101:UInt8),(110:UInt8),(117:UInt8),(109:UInt8)] s a.toNat bad):Int).toNat (wdB
 [(101:UInt8),(110:UInt8),(117:UInt8),(109:UInt8)] s a.toNat bad)):Int).toNat (mrB (40:UInt8) s (↑(wdA [(101:UInt8),(110:UInt8),(117:UInt8),(109 :
 UInt8)] s a.toNat bad):Int).toNat (wdB [(101:UInt8),(110:UInt8),(117:UInt8),(109:UInt8)] s a.toNat bad))):Int).toNat (mrB (40:UInt8) s (↑(wdA [(101 :
 UInt8),(110:UInt8),(117:UInt8),(109:UInt8)] s a.toNat bad):Int).toNat (wdB [(101:UInt8),(110:UInt8),(117:UInt8),(109:UInt8)] s a.toNat bad)||!An
 (nxt s (↑(mrA (40:UInt8) s (↑(wdA [(101:UInt8),(110:UInt8),(117:UInt8),(109:UInt8)] s a.toNat bad):Int).toNat (wdB [(101:UInt8),(110:UInt8),(117 :
 UInt8),(109:UInt8)] s a.toNat bad)):Int).toNat))):Int),V.b (mrB (41:UInt8) s (↑(nbA s (↑(mrA (40:UInt8) s (↑(wdA [(101:UInt8),(110:UInt8),(117:UInt8),
 (109:UInt8)] s a.toNat bad):Int).toNat (wdB [(101:UInt8),(110:UInt8),(117:UInt8),(109:UInt8)] s a.toNat bad)):Int).toNat (mrB (40:UInt8) s (↑(wdA [(101
 : UInt8),(110:UInt8),(117:UInt8),(109:UInt8)] s a.toNat bad):Int).toNat (wdB [(101:UInt8),(110:UInt8),(117:UInt8),(109:UInt8)] s a.toNat bad))) :
 Int).toNat (mrB (40:UInt8) s (↑(wdA [(101:UInt8),(110:UInt8),(117:UInt8),(109:UInt8)] s a.toNat bad):Int).toNat (wdB [(101:UInt8),(110:UInt8),(117 :
 UInt8),(109:UInt8)] s a.toNat bad)||!An (nxt s (↑(mrA (40:UInt8) s (↑(wdA [(101:UInt8),(110:UInt8),(117:UInt8),(109:UInt8)] s a.toNat bad) :
 Int).toNat (wdB [(101:UInt8),(110:UInt8),(117:UInt8),(109:UInt8)] s a.toNat bad)):Int).toNat)))]),some (Blk.box [V.j 3,V.s (Al UInt8),V.j 0,
 V.b false,V.j (↑(nbV s (↑(mrA (40:UInt8) s (↑(wdA [(101:UInt8),(110:UInt8),(117:UInt8),(109:UInt8)] s a.toNat bad):Int).toNat (wdB [(101:UInt8),
 (110:UInt8),(117:UInt8),(109:UInt8)] s a.toNat bad)):Int).toNat (mrB (40:UInt8) s (↑(wdA [(101:UInt8),(110:UInt8),(117:UInt8),(109:UInt8)] s
 a.toNat bad):Int).toNat (wdB [(101:UInt8),(110:UInt8),(117:UInt8),(109:UInt8)] s a.toNat bad))):Int),V.ref 2 0 0]),R0 LCd.tree
 sh3])))))) (ifB ((bif bad then (0:Int) else (↑(nxt s a.toNat).toNat:Int))==(91:Int)) (ifT (decide (0<=a/\a.toNat<=s.length/\s.length<=400/\(91 :
 UInt8)≠(0:UInt8))) (ifT (decide (0<=(↑(mrA (91:UInt8) s a.toNat bad):Int)/\(↑(mrA (91:UInt8) s a.toNat bad):Int).toNat<=s.length/\s.length<=400/\
 1<=n/\(mrB (91:UInt8) s a.toNat bad=true\/s.length-(↑(mrA (91:UInt8) s a.toNat bad):Int).toNat+3<=n))) (ifT (decide (0<=(↑sh1.2.1 :
 Int)/\(↑sh1.2.1:Int).toNat<=s.length/\s.length<=400/\(93:UInt8)≠(0:UInt8))) (some (V.ptr 1 0,[some (Blk.box [V.s s,V.j (↑(mrA (93:UInt8)
 s (↑sh1.2.1:Int).toNat sh1.2.2):Int),V.b (mrB (93:UInt8) s (↑sh1.2.1:Int).toNat sh1.2.2)]),some (Blk.box [V.j 4,V.s (Al UInt8),V.i .i64
 0,V.b false,V.j 0,V.ref 2 0 1]),R0 LCd.tree (Rose.node (sh1.1.lab.1,sh1.1.lab.2.1,sh1.1.lab.2.2.1,
 sh1.1.lab.2.2.2.1,sh1.1.lab.2.2.2.2.1,()) (take sh1.1.kids.length (drop 0 sh1.1.kids))::sh3)]))))) (ifB ((bif bad then (0
 : Int) else (↑(nxt s a.toNat).toNat:Int))==(123:Int)) (ifT (decide (0<=a/\a.toNat<=s.length/\s.length<=400/\(123:UInt8)≠(0:UInt8))) (ifT (decide
 (0<=(↑(mrA (123:UInt8) s a.toNat bad):Int)/\(↑(mrA (123:UInt8) s a.toNat bad):Int).toNat<=s.length/\s.length<=400/\1<=n/\(mrB (123 :
 UInt8) s a.toNat bad=true\/s.length-(↑(mrA (123:UInt8) s a.toNat bad):Int).toNat+3<=n))) (some (V.ptr 1 0,[some (Blk.box [V.s s,V.i .i64
 (↑sh2.2.1:Int),V.b sh2.2.2]),some (Blk.box [V.j sh2.1.lab.1,V.s sh2.1.lab.2.1,V.j sh2.1.lab.2.2.1,V.b
 sh2.1.lab.2.2.2.1,V.j sh2.1.lab.2.2.2.2.1,V.ref 2 0 sh2.1.kids.length]),R0 LCd.tree sh2.1.kids])))) (some (V.ptr
 1 0,[some (Blk.box [V.s s,V.j a,V.b true]),some (Blk.box [V.j 1,V.s (Al UInt8),V.j 0,V.b false,V.j 0,V.ref 2 0 0]),R0 LCd.tree sh3])))))))):_):=by kernel_rfl
theorem ML (n:Nat) (f:By->Nat->Bool->Rose Lab×Nat×Bool) (h:RL->RL) (q:By×RL×Nat×Bool->RL×Nat×Bool) (s:By) (a:Int) (bad:Bool) (m:Nat) (o:RL):AG prog (Ab [(36,.own Jm),(16,.own Hy),(37,.own (MK n f)),(38,.own (MY h))]) (Ab [(4,KU n q)]) 1 (body f17 0) (KU n q) ([.ptr 0 0,.ptr 1 0],[some (.box [.s s,.j (a),.b (bad)]),some (.box [.j 5,.s [],.j 0,.b false,.j 0,.ref 2 0 m]),R0 (.tree LCd) o]) =
 ((shr (f s a.toNat bad).1 fun sh4=>shr sh4.lab.2 fun sh3=>shr (f s a.toNat bad).2 fun sh2=>shr (take m (drop 0 o)++Rose.node (sh4.lab.1,
 sh3.1,sh3.2.1,sh3.2.2.1,sh3.2.2.2.1,()) (take sh4.kids.length (drop 0 sh4.kids))::Al LCd.tree.den) fun sh1=>ifB (!bad)
 (ifT (decide (0<=a/\a.toNat<=s.length/\s.length<=400/\1<=n/\(bad=true\/s.length-a.toNat+1<=n))) (ifT (decide ((m+1)*(8
 : Nat)<=140737488355328)&&decide (m+1<=maxI)) (ifT (decide (0<=(↑sh2.1:Int)/\(↑sh2.1:Int).toNat<=s.length/\s.length<=400/\(0 :
 Int)<(125:Int)/\(125:Int)<(256:Int))) (ifB (!sh2.2&&(nxt s (skp s (↑sh2.1:Int).toNat)).toNat==125) (some (Ex.exit 0,[V.ptr 0 0,V.ptr 1 0],
 [some (Blk.box [V.s s,V.j (↑(mrA (UInt8.ofNat 125) s (↑sh2.1:Int).toNat sh2.2):Int),V.b sh2.2]),some (Blk.box [V.j 5,V.s (Al UInt8),V.i
 .i64 0,V.b false,V.j 0,V.ref 2 0 (m+1)]),R0 LCd.tree sh1])) (ifT (decide (0<=(↑(mrA (UInt8.ofNat 125) s (↑sh2.1 :
 Int).toNat sh2.2):Int)/\(↑(mrA (UInt8.ofNat 125) s (↑sh2.1:Int).toNat sh2.2):Int).toNat<=s.length/\s.length<=400/\(44:UInt8)≠(0 :
 UInt8))) (some (Ex.normal,[V.ptr 0 0,V.ptr 1 0],[some (Blk.box [V.s s,V.j (↑(mrA (44:UInt8) s (↑(mrA (UInt8.ofNat 125) s (↑sh2.1:Int).toNat
 sh2.2):Int).toNat sh2.2):Int),V.b (mrB (44:UInt8) s (↑(mrA (UInt8.ofNat 125) s (↑sh2.1:Int).toNat sh2.2):Int).toNat sh2.2)]),some (Blk.box
 [V.j 5,V.s (Al UInt8),V.j 0,V.b false,V.j 0,V.ref 2 0 (m+1)]),R0 LCd.tree sh1]))))))) (some (Ex.exit 0,[V.ptr 0
 0,V.ptr 1 0],[some (Blk.box [V.s s,V.j a,V.b bad]),some (Blk.box [V.j 5,V.s (Al UInt8),V.j 0,V.b false,V.j 0,V.ref 2 0 m]),R0 LCd.tree o]))):_):=by kernel_rfl
theorem O3 (n:Nat) (f:By->Nat->Bool->Rose Lab×Nat×Bool) (h:RL->RL) (q:By×RL×Nat×Bool->RL×Nat×Bool) (s:By) (a:Int) (bad:Bool):BA prog (Ab [(36,.own Jm),(16,.own Hy),(37,.own (MK n f)),(38,.own (MY h))]) (Ab [(4,KU n q)]) f17 [.ptr 0 0] [(.box [.s s,.j (a),.b (bad)])] =
 ((shr (q (s,Al LCd.tree.den,(↑(mrA (UInt8.ofNat 125) s a.toNat bad):Int).toNat,bad)) fun sh1=>ifT (decide (0<=a/\a.toNat<=s.length/\s.length<=(400 :
 Nat)/\(0:Int)<(125:Int)/\(125:Int)<(256:Int))) (ifB (!bad&&(nxt s (skp s a.toNat)).toNat==125) (some (V.ptr 1 0,[some (Blk.box [V.s s,V.i .i64
 (↑(mrA (UInt8.ofNat 125) s a.toNat bad):Int),V.b bad]),some (Blk.box [V.j 5,V.s (Al UInt8),V.j 0,V.b false,V.j 0,V.ref 2 0 0]),R0 LCd.tree (Al LCd.tree.den)])) (ifT (decide (0<=(↑(mrA (UInt8.ofNat 125) s a.toNat bad):Int)/\(↑(mrA (UInt8.ofNat 125) s a.toNat
 bad):Int).toNat<=s.length/\s.length<=400/\(bad=true\/s.length-(↑(mrA (UInt8.ofNat 125) s a.toNat bad):Int).toNat+2<=n)/\0
 = 0/\0<=1000)) (ifT (decide (sh1.1.length=sh1.1.length/\sh1.1.length<=1000000)) (some (V.ptr 1 0,[some (Blk.box [V.s s,V.i
 .i64 (↑sh1.2.1:Int),V.b sh1.2.2]),some (Blk.box [V.j 5,V.s (Al UInt8),V.j 0,V.b false,V.j 0,V.ref 2 0 sh1.1.length]),R0 LCd.tree (h sh1.1)])))))):_):=by kernel_rfl
theorem OP (h:RL->RL) (z0:Int) (z1:By) (z2:Int) (z3:Bool) (z4:Int) (m:Nat) (nl:Option Bool) (o:RL):BA prog (Ab [(54,.own (Qo h))]) (Ab []) f38 [.ptr 0 0] [.box [.j z0,.s z1,.j z2,.b z3,.j z4,.ref 1 0 m],.row false nl (.tree LCd) o] =
 ((ifT (decide (m=o.length/\m<=1000000)) (some (V.tup [],[some (Blk.box [V.j z0,V.s z1,V.j z2,V.b z3,V.j z4,V.ref 2 0 m]),none,R0 LCd.tree (h o)]))):_):=by kernel_rfl




def Dm (n:Nat):Gm
 | [.agg (Lt y0 y1 y2 y3 y4 ys),.j up,.ref 0 0 m],[.row false _ TCd o]=>.need (decide (m=o.length/\o.length+Aj ys+1<=2000000/\Aj ys+1<=n)) (.leaf (.ref 1 0 (o++At (.node (y0,y1,y2,y3,y4,()) ys) up o.length).length,[none,R0 TCd (o++At (.node (y0,y1,y2,y3,y4,()) ys) up o.length)]))
 | _,_=>.no
def EF:Gm
 | [.agg (Lt y0 y1 y2 y3 y4 ys),.j up,.ref 0 0 m],[.row false _ TCd o]=>.need (decide (m=o.length/\o.length+Aj ys+1<=2000000)) (.leaf (.ref 1 0 (o++At (.node (y0,y1,y2,y3,y4,()) ys) up o.length).length,[none,R0 TCd (o++At (.node (y0,y1,y2,y3,y4,()) ys) up o.length)]))
 | _,_=>.no
def D7 (n:Nat):LoopEnt:=⟨40,[2,7,28,29,30],[2],[],fun
 | ([.ref 1 0 m,.j s,.sl (.rose LCd) ks,.j k,.j i],[none,R0 TCd o])=>.need (decide (m=o.length/\0<=i/\i.toNat<=ks.length/\k=ks.length/\0<=s/\o.length+Aj (ks.drop i.toNat)<=2000000/\Aj ks<=n/\Aj ks<=2000000)) (.leaf (.exit 0,([.ref 1 0 (o++AK (ks.drop i.toNat) s.toNat o.length).length],[none,R0 TCd (o++AK (ks.drop i.toNat) s.toNat o.length)])))
 | _=>.no⟩
def Ii:Gm
 | [.agg (Lt y0 y1 y2 y3 y4 ys),.j up,.nl],[]=>.need (decide (Aj ys+1<=2000000)) (.leaf (.ref 0 0 (At (.node (y0,y1,y2,y3,y4,()) ys) up 0).length,[R0 TCd (At (.node (y0,y1,y2,y3,y4,()) ys) up 0)]))
 | _,_=>.no
def CE:LoopEnt:=⟨40,[2,7,28,29,30],[2],[],fun
 | ([.ref 0 0 m,.j s,.sl (.rose LCd) ks,.j k,.j i],[R0 TCd o])=>.need (decide (m=o.length/\0<=i/\i.toNat<=ks.length/\k=ks.length/\0<=s/\o.length+Aj (ks.drop i.toNat)<=2000000/\Aj ks<=2000000)) (.leaf (.exit 0,([.ref 0 0 (o++AK (ks.drop i.toNat) s.toNat o.length).length],[R0 TCd (o++AK (ks.drop i.toNat) s.toNat o.length)])))
 | _=>.no⟩
def Np:Gm
 | [.agg (Lt y0 y1 y2 y3 y4 ys)],[]=>.need (decide (Aj ys+1<=2000000)&&nmL (At (.node (y0,y1,y2,y3,y4,()) ys) (-1) 0)) (.br (AX (At (.node (y0,y1,y2,y3,y4,()) ys) (-1) 0)) (.leaf (.tup [.agg [.ref 0 0 (At (.node (y0,y1,y2,y3,y4,()) ys) (-1) 0).length],.b true],[R0 TCd (At (.node (y0,y1,y2,y3,y4,()) ys) (-1) 0)])) (.leaf (.tup [.agg [.ref 0 0 0],.b false],[R0 TCd []])))
 | _,_=>.no
theorem Gd (n m:Nat) (s:Int) (ks:RL) (k i:Int) (o:List Ty):AG prog (Ab [(29,.own (Dm n))]) (Ab [(4,D7 n)]) 1 (body f29 0) (D7 n) ([.ref 1 0 m,.j s,.sl (.rose LCd) ks,.j k,.j i],[none,R0 TCd o]) =
 ((ifB (decide (i<k)) (ifT (decide (0<=i)&&decide (i<(↑ks.length:Int))) (Ap ks[i.toNat]? fun z=>ifT (decide (m=o.length/\o.length+Aj (Rose.kids z)+(1
 : Nat)<=2000000/\Aj (Rose.kids z)+1<=n)) (some (Ex.normal,[V.ref 1 0 (o++At (Rose.node ((Rose.lab z).1,(Rose.lab z).2.1,(Rose.lab
 z).2.2.1,(Rose.lab z).2.2.2.1,(Rose.lab z).2.2.2.2.1,()) (Rose.kids z)) s o.length).length,V.j s,V.sl LCd.rose ks,V.j k,V.i .i64
 (i64.wrap (i+1))],[none,R0 TCd (o++At (Rose.node ((Rose.lab z).1,(Rose.lab z).2.1,(Rose.lab z).2.2.1,(Rose.lab
 z).2.2.2.1,(Rose.lab z).2.2.2.2.1,()) (Rose.kids z)) s o.length)])))) (some (Ex.exit 0,[V.ref 1 0 m],[none,R0 TCd o]))):_):=by kernel_rfl
theorem Kv (n:Nat) (y0:Int) (y1:By) (y2:Int) (y3:Bool) (y4:Int) (ys:RL) (m:Nat) (up:Int) (nl:Option Bool) (o:List Ty):Gu prog (Ab [(29,.own (Dm n))]) (Ab [(4,D7 n)]) f29 [.agg (Lt y0 y1 y2 y3 y4 ys),.j up,.ref 0 0 m] [.row false nl TCd o] =
 ((ifT (decide ((m+1)*56<=140737488355328)&&decide (m+1<=maxI)) (ifT (decide (m+1=(take m (drop 0 o)
 ++ (y0,y1,y2,y3,up,y4,())::Al TCd.den).length/\(0:Int)<=(0:Int)/\0<=ys.length/\(↑ys.length:Int)=(↑ys.length:Int)/\0<=(↑m:Int)/\
 (take m (drop 0 o)++(y0,y1,y2,y3,up,y4,())::Al TCd.den).length+Aj (drop 0 ys)<=2000000/\Aj ys<=n/\Aj ys<=
 2000000)) (some (V.ref 1 0 (take m (drop 0 o)++(y0,y1,y2,y3,up,y4,())::Al TCd.den++AK (drop 0 ys) (↑m :
 Int).toNat (take m (drop 0 o)++(y0,y1,y2,y3,up,y4,())::Al TCd.den).length).length,[none,R0 TCd (take m
 (drop 0 o)++(y0,y1,y2,y3,up,y4,())::Al TCd.den++AK (drop 0 ys) (↑m:Int).toNat (take m (drop 0 o)++(y0,
 y1,y2,y3,up,y4,())::Al TCd.den).length)])))):_):=by kernel_rfl
theorem GB (n s:Nat) (ks:RL) (h1:Aj ks<=n) (h2:Aj ks<=2000000) : ∀ (j i:Nat) (o:List Ty),i+j=ks.length->o.length+Aj (ks.drop i)<=2000000->
  Runs prog (Ab [(29,.own (Dm n))]) (Ab [(4,D7 n)]) 1 (body f29 0) (D7 n) ([.ref 1 0 o.length,.j (s:Int),.sl (.rose LCd) ks,.j (ks.length:Int),.j (i:Int)],[none,R0 TCd o]) (.exit 0) ([.ref 1 0 (o++AK (ks.drop i) s o.length).length],[none,R0 TCd (o++AK (ks.drop i) s o.length)])
 | 0,i,o,hi,ho=>by
  have hr:=Gd n o.length s ks ks.length i o
  rw [Af (dcF (by omega))] at hr
  rw [drop_eq_nil_of_le (by omega),AK,List.append_nil]
  exact stp hr
 | j+1,i,o,hi,ho=>by
  have hl:i<ks.length:=by omega
  have hM:=mxI
  have hlen:=CM ks
  have hmem:=Cs (getElem_mem hl)
  have hck:=D4 ks[i]
  have hr:=Gd n o.length s ks ks.length i o
  rw [drop_eq_getElem_cons hl,Aj] at ho
  rw [Ag (dcT (by omega)),T2 (by omega),ntN,gtE hl,Aq,AM (n:=i) (by omega),HD,Aa (dcT ⟨rfl,by omega,by omega⟩)] at hr
  rw [drop_eq_getElem_cons hl,AK]
  have hk:=BN ks[i] s o.length
  have ih:=GB n s ks h1 h2 j (i+1) (o++At ks[i] s o.length) (by omega) (by rw [length_append]; omega)
  rw [length_append,append_assoc] at ih
  rw [length_append] at hr
  exact sts hr ih
theorem Nn (n:Nat):A6 prog (Ab [(29,.own (Dm n))]) (Ab [(4,D7 n)]) 1 (f29.body.getD .skip):=by
 refine Az (a:=body f29 0) (by kernel_rfl) fun d ex d' h=>?_
 unfold D7 at h
 dsimp only at h
 split at h
 ·rename_i m s ks k i o
  obtain ⟨hc,hx⟩:=Ae h
  clear h
  obtain ⟨rfl,h0,h1,rfl,h3,h4,h5,h6⟩:=of_decide_eq_true hc
  obtain ⟨i,rfl⟩:=eq_ofNat_of_zero_le h0
  obtain ⟨s,rfl⟩:=eq_ofNat_of_zero_le h3
  simp only [ntN] at h1 h4 hx
  obtain ⟨rfl,rfl⟩:=lfP hx
  exact GB n s ks h5 h6 (ks.length-i) i o (by omega) h4
 ·cases h
theorem HA (y0:Int) (y1:By) (y2:Int) (y3:Bool) (y4:Int) (ys:RL) (up:Int) (s:Nat):At (.node (y0,y1,y2,y3,y4,()) ys) up s=(y0,y1,y2,y3,up,y4,())::AK ys s (s+1):=by rw [At]
theorem Mi (n:Nat) (y0:Int) (y1:By) (y2:Int) (y3:Bool) (y4:Int) (ys:RL) (m:Nat) (up:Int) (nl:Option Bool) (o:List Ty) (hc:m=o.length/\o.length+Aj ys+1<=2000000/\Aj ys+1<=n+1):Gu prog (Ab [(29,.own (Dm n))]) (Ab [(4,D7 n)]) f29 [.agg (Lt y0 y1 y2 y3 y4 ys),.j up,.ref 0 0 m] [.row false nl TCd o]=some (.ref 1 0 (o++At (.node (y0,y1,y2,y3,y4,()) ys) up o.length).length,[none,R0 TCd (o++At (.node (y0,y1,y2,y3,y4,()) ys) up o.length)]):=by
 rw [Kv]
 obtain ⟨rfl,h2,h3⟩:=hc
 have hM:=mxI
 have hlen:=CM ys
 rw [show drop 0 o=o from rfl,show drop 0 ys=ys from rfl,take_length,ntN,HA]
 rw [T2 (by omega)]
 rw [Aa (dcT ⟨by simp [Di],by omega,by omega,rfl,by omega,by simp [Di]; omega,by omega,by omega⟩)]
 simp [Di]
theorem Mj : ∀ n,(∀ m,m<n->Ad prog 29 (Ent.own (Dm m)).F)->Ad prog 29 (Ent.own (Dm n)).F
 | 0,_=>AN fun vs bs=>by
  unfold Ent.F Dm
  dsimp only
  split
  ·rename_i y0 y1 y2 y3 y4 ys up m x o
   have:decide (m=o.length/\o.length+Aj ys+1<=2000000/\Aj ys+1<=0)=false:=dcF (by omega)
   rw [this]; rfl
  ·rfl
 | n+1,ih=>by
  refine fcN (kc func29 (ih n (Nat.lt_succ_self n)) KnowsL.nil).knows (Λ:=(Ab [(4,D7 n)])) func29 fun vs bs r hq=>?_
  unfold Ent.F Dm at hq
  dsimp only at hq
  split at hq
  ·rename_i y0 y1 y2 y3 y4 ys up m nl o
   obtain ⟨hc,hx⟩:=Ae hq
   exact ⟨Nn n,(Mi n y0 y1 y2 y3 y4 ys m up nl o (of_decide_eq_true hc)).trans hx⟩
  ·cases hq
theorem Qm:Ad prog 29 (Ent.own EF).F:=by
 refine BS (F:=fun n=>(Ent.own (Dm n)).F) Mj fun vs bs r h=>?_
 unfold Ent.F EF at h
 dsimp only at h
 split at h
 ·rename_i y0 y1 y2 y3 y4 ys up m nl o
  obtain ⟨hc,hx⟩:=Ae h
  refine ⟨Aj ys+1,?_⟩
  show (Br.need (decide (m=o.length/\o.length+Aj ys+1<=2000000/\Aj ys+1<=Aj ys+1)) (.leaf (.ref 1 0 (o++At (.node (y0,y1,y2,y3,y4,()) ys) up o.length).length,[none,R0 TCd (o++At (.node (y0,y1,y2,y3,y4,()) ys) up o.length)]))).run=some r
  obtain ⟨h1,h2⟩:=of_decide_eq_true hc
  have:decide (m=o.length/\o.length+Aj ys+1<=2000000/\Aj ys+1<=Aj ys+1)=true:=dcT ⟨h1,h2,le_refl _⟩
  rw [this]
  exact hx
 ·cases h
theorem Fh (m:Nat) (s:Int) (ks:RL) (k i:Int) (o:List Ty):AG prog (Ab [(29,.own EF)]) (Ab [(4,CE)]) 0 (body f29 0) CE ([.ref 0 0 m,.j s,.sl (.rose LCd) ks,.j k,.j i],[R0 TCd o]) =
 ((ifB (decide (i<k)) (ifT (decide (0<=i)&&decide (i<(↑ks.length:Int))) (Ap ks[i.toNat]? fun z=>ifT (decide (m=o.length/\o.length+Aj (Rose.kids z)+(1
 : Nat)<=2000000)) (some (Ex.normal,[V.ref 0 0 (o++At (Rose.node ((Rose.lab z).1,(Rose.lab z).2.1,(Rose.lab z).2.2.1,(Rose.lab
 z).2.2.2.1,(Rose.lab z).2.2.2.2.1,()) (Rose.kids z)) s o.length).length,V.j s,V.sl LCd.rose ks,V.j k,V.j (i64.wrap (i +
 1))],[R0 TCd (o++At (Rose.node ((Rose.lab z).1,(Rose.lab z).2.1,(Rose.lab z).2.2.1,(Rose.lab z).2.2.2.1,(Rose.lab
 z).2.2.2.2.1,()) (Rose.kids z)) s o.length)])))) (some (Ex.exit 0,[V.ref 0 0 m],[R0 TCd o]))):_):=by kernel_rfl
theorem Jc (y0:Int) (y1:By) (y2:Int) (y3:Bool) (y4:Int) (ys:RL) (up:Int):Gu prog (Ab [(29,.own EF)]) (Ab [(4,CE)]) f29 [.agg (Lt y0 y1 y2 y3 y4 ys),.j up,.nl] [] =
 ((ifT (decide (1=1/\(0:Int)<=(0:Int)/\0<=ys.length/\(↑ys.length:Int)=(↑ys.length:Int)/\(0:Int)<=(0:Int)/\1+Aj
 (drop 0 ys)<=2000000/\Aj ys<=2000000)) (some (V.ref 0 0 ((y0,y1,y2,y3,up,y4,())::Al TCd.den++AK (drop 0 ys)
 0 1).length,[R0 TCd ((y0,y1,y2,y3,up,y4,())::Al TCd.den++AK (drop 0 ys) 0 1)]))):_):=by kernel_rfl
theorem Ge (s:Nat) (ks:RL) (h2:Aj ks<=2000000) : ∀ (j i:Nat) (o:List Ty),i+j=ks.length->o.length+Aj (ks.drop i)<=2000000->
  Runs prog (Ab [(29,.own EF)]) (Ab [(4,CE)]) 0 (body f29 0) CE ([.ref 0 0 o.length,.j (s:Int),.sl (.rose LCd) ks,.j (ks.length:Int),.j (i:Int)],[R0 TCd o]) (.exit 0) ([.ref 0 0 (o++AK (ks.drop i) s o.length).length],[R0 TCd (o++AK (ks.drop i) s o.length)])
 | 0,i,o,hi,ho=>by
  have hr:=Fh o.length s ks ks.length i o
  rw [Af (dcF (by omega))] at hr
  rw [drop_eq_nil_of_le (by omega),AK,List.append_nil]
  exact stp hr
 | j+1,i,o,hi,ho=>by
  have hl:i<ks.length:=by omega
  have hM:=mxI
  have hlen:=CM ks
  have hmem:=Cs (getElem_mem hl)
  have hck:=D4 ks[i]
  have hr:=Fh o.length s ks ks.length i o
  rw [drop_eq_getElem_cons hl,Aj] at ho
  rw [Ag (dcT (by omega)),T2 (by omega),ntN,gtE hl,Aq,AM (n:=i) (by omega),HD,Aa (dcT ⟨rfl,by omega⟩)] at hr
  rw [drop_eq_getElem_cons hl,AK]
  have hk:=BN ks[i] s o.length
  have ih:=Ge s ks h2 j (i+1) (o++At ks[i] s o.length) (by omega) (by rw [length_append]; omega)
  rw [length_append,append_assoc] at ih
  rw [length_append] at hr
  exact sts hr ih
theorem Mk:A6 prog (Ab [(29,.own EF)]) (Ab [(4,CE)]) 0 (f29.body.getD .skip):=by
 refine Az (a:=body f29 0) (by kernel_rfl) fun d ex d' h=>?_
 unfold CE at h
 dsimp only at h
 split at h
 ·rename_i m s ks k i o
  obtain ⟨hc,hx⟩:=Ae h
  clear h
  obtain ⟨rfl,h0,h1,rfl,h3,h4,h6⟩:=of_decide_eq_true hc
  obtain ⟨i,rfl⟩:=eq_ofNat_of_zero_le h0
  obtain ⟨s,rfl⟩:=eq_ofNat_of_zero_le h3
  simp only [ntN] at h1 h4 hx
  obtain ⟨rfl,rfl⟩:=lfP hx
  exact Ge s ks h6 (ks.length-i) i o (by omega) h4
 ·cases h
theorem Kx (y0:Int) (y1:By) (y2:Int) (y3:Bool) (y4:Int) (ys:RL) (up:Int) (hc:Aj ys+1<=2000000):Gu prog (Ab [(29,.own EF)]) (Ab [(4,CE)]) f29 [.agg (Lt y0 y1 y2 y3 y4 ys),.j up,.nl] []=some (.ref 0 0 (At (.node (y0,y1,y2,y3,y4,()) ys) up 0).length,[R0 TCd (At (.node (y0,y1,y2,y3,y4,()) ys) up 0)]):=by
 rw [Jc]
 have hM:=mxI
 have hlen:=CM ys
 rw [show drop 0 ys=ys from rfl,HA]
 rw [Aa (dcT (by refine ⟨by trivial,by omega,by omega,by trivial,by omega,by omega,by omega⟩))]
 simp [Di]
theorem Qn:Ad prog 29 (Ent.own Ii).F:=by
 refine fcN (kc func29 Qm KnowsL.nil).knows (Λ:=(Ab [(4,CE)])) func29 fun vs bs r hq=>?_
 unfold Ent.F Ii at hq
 dsimp only at hq
 split at hq
 ·rename_i y0 y1 y2 y3 y4 ys up
  obtain ⟨hc,hx⟩:=Ae hq
  exact ⟨Mk,(Kx y0 y1 y2 y3 y4 ys up (of_decide_eq_true hc)).trans hx⟩
 ·cases hq
theorem Ml (y0:Int) (y1:By) (y2:Int) (y3:Bool) (y4:Int) (ys:RL):BA prog (Ab [(29,.own Ii),(13,.rd1 LY)]) (Ab []) f12 [.agg (Lt y0 y1 y2 y3 y4 ys)] [] =
 ((ifT (decide (Aj ys+1<=2000000)) (ifT (decide ((take (At (Rose.node (y0,y1,y2,y3,y4,()) ys) (-1:Int) 0).length (drop (0 :
 Nat) (At (Rose.node (y0,y1,y2,y3,y4,()) ys) (-1:Int) 0))).length<=4000000000)&&nmL (take (At (Rose.node (y0,y1,y2,y3,y4,())
 ys) (-1:Int) 0).length (drop 0 (At (Rose.node (y0,y1,y2,y3,y4,()) ys) (-1:Int) 0)))) (ifB (!AX (take (At (Rose.node
 (y0,y1,y2,y3,y4,()) ys) (-1:Int) 0).length (drop 0 (At (Rose.node (y0,y1,y2,y3,y4,()) ys) (-1:Int) 0)))) (some (V.tup
 [V.agg [V.ref 0 0 0],V.b false],[R0 TCd (Al TCd.den)])) (some (V.tup [V.agg [V.ref 0 0 (At (Rose.node (y0,y1,y2,y3,y4,()) ys) (-1 :
 Int) 0).length],V.b true],[R0 TCd (At (Rose.node (y0,y1,y2,y3,y4,()) ys) (-1:Int) 0)]))))):_):=by kernel_rfl
mutual
theorem FJ : ∀ (z:Rose Lab) (up:Int) (s:Nat),Bu z=true->nmL (At z up s)=true
 | .node x ks,up,s,h=>by
  rw [Bu,anE] at h
  have:=HL ks s (s+1) h.2
  unfold nmL at this ⊢
  rw [At,List.all_cons,this,h.1]; rfl
theorem HL : ∀ (ks:RL) (s p:Nat),De ks=true->nmL (AK ks s p)=true
 | [],_,_,_=>by rw [AK]; rfl
 | z::ks,s,p,h=>by
  rw [De,anE] at h
  have h1:=FJ z s p h.1
  have h2:=HL ks s (p+(At z s p).length) h.2
  unfold nmL at h1 h2 ⊢
  rw [AK,List.all_append,h1,h2]; rfl
end
theorem RQ:Ad prog 12 (Ent.rd1 Np).F:=by
 refine fcC (kc func29 Qn (kc func13 Qc KnowsL.nil)).knows (Λ:=Ab []) func12 fun vs bs r hq=>?_
 unfold Ent.F Np at hq
 dsimp only at hq
 split at hq
 ·rename_i y0 y1 y2 y3 y4 ys
  obtain ⟨hc,hx⟩:=Ae hq
  rw [anE] at hc
  obtain ⟨hc,hn⟩:=hc
  have hc:=of_decide_eq_true hc
  refine ⟨Ar _,Eq.trans ?_ hx⟩
  have hl:=BN (.node (y0,y1,y2,y3,y4,()) ys) (-1) 0
  rw [D4,show (Rose.node (y0,y1,y2,y3,y4,()) ys:Rose Lab).kids=ys from rfl] at hl
  rw [Ml,Aa (dcT hc),drop_zero,take_length,Aa (by rw [hn,dcT (by omega)]; rfl)]
  cases AX (At (.node (y0,y1,y2,y3,y4,()) ys) (-1) 0)<;>rfl
 ·cases hq

theorem u8n (b:UInt8) {k:Nat} (hk:k<256):(((b.toNat:Nat):Int)==((k:Nat):Int))=(b==UInt8.ofNat k):=by
 rw [Bool.eq_iff_iff,beq_iff_eq,beq_iff_eq]
 constructor
 ·intro h
  have h:b.toNat=k:=by omega
  rw [<-h]; simp
 ·intro h
  rw [h]
  have:(UInt8.ofNat k).toNat=k:=by simp; omega
  omega
theorem HH {s:By} (hs:s.length<=400) (f:Int) : ∀ (j i:Nat),i+j=s.length->Runs prog (Ab []) (Ab [(2,Kj)]) 1 (body f18 0) Kj ([.ptr 0 0,.j f],[some (.box [.s s,.j ((i:Nat)),.b (false)])]) (.exit 0) ([.ptr 0 0,.j f],[some (.box [.s s,.j ((skp s i:Nat)),.b (false)])])
 | 0,i,hi=>by
  have hr:=EM s i false f
  rw [Bool.not_false,A4,Af (dcF (by omega))] at hr
  rw [Cp (by rw [DE (by omega)]; rfl)]
  exact stp hr
 | j+1,i,hi=>by
  have hl:i<s.length:=by omega
  have hr:=EM s i false f
  have W1:i64.wrap ((i:Int)+1)=((i+1:Nat):Int):=by rw [Ax (by omega) (by omega)]; omega
  have hn:=Ej hl
  have u32:(((s[i].toNat:Nat):Int)==(32:Int))=(s[i]==UInt8.ofNat 32):=u8n _ (by decide)
  have u10:(((s[i].toNat:Nat):Int)==(10:Int))=(s[i]==UInt8.ofNat 10):=u8n _ (by decide)
  rw [Bool.not_false,A4,Ag (dcT (by omega)),Aa (dcT (by omega)),ntN,gtE hl,Aq,Aa (dcT (by omega)),Aq,W1,u32,u10] at hr
  have hb:BZ (nxt s i)=(s[i]==UInt8.ofNat 32||s[i]==UInt8.ofNat 10):=by rw [hn]; rfl
  have ih:=HH hs f j (i+1) (by omega)
  cases q1:s[i]==UInt8.ofNat 32 with
  | true=>
   rw [q1,A4] at hr
   rw [q1,Bool.true_or] at hb
   rw [(Co hb).2]
   exact sts hr ih
  | false=>
   rw [q1,A1] at hr
   rw [q1,Bool.false_or] at hb
   cases q2:s[i]==UInt8.ofNat 10 with
   | true=>
    rw [q2,A4] at hr
    rw [q2] at hb
    rw [(Co hb).2]
    exact sts hr ih
   | false=>
    rw [q2,A1] at hr
    rw [q2] at hb
    rw [Cp hb]
    exact stp hr
theorem Pf:A6 prog (Ab []) (Ab [(2,Kj)]) 1 (f18.body.getD .skip):=by
 refine Az (a:=body f18 0) (by kernel_rfl) fun d ex d' h=>?_
 unfold Kj at h
 dsimp only at h
 split at h
 ·rename_i f s a bad
  obtain ⟨hc,hx⟩:=Ae h
  obtain ⟨h0,h1,h2⟩:=of_decide_eq_true hc
  obtain ⟨a,rfl⟩:=eq_ofNat_of_zero_le h0
  simp only [ntN] at h1 hx
  obtain ⟨rfl,rfl⟩:=Prod.mk.inj (AD hx)
  cases bad with
  | false=>exact HH h2 f (s.length-a) a (by omega)
  | true=>
   have hr:=EM s a true f
   rw [Bool.not_true,A1] at hr
   exact stp hr
 ·cases h
theorem Pg:Ad prog 18 (Ent.own Lx).F:=by
 refine fcC KnowsL.nil.knows (Λ:=(Ab [(2,Kj)])) func18 fun vs bs r hq=>?_
 unfold Ent.F Lx at hq
 dsimp only at hq
 split at hq
 ·rename_i s a bad
  obtain ⟨hc,hx⟩:=Ae hq
  refine ⟨Pf,(M2 s a bad).trans (Eq.trans ?_ hx)⟩
  obtain ⟨h0,h1,h2⟩:=of_decide_eq_true hc
  rw [Aa hc]
  obtain ⟨a,rfl⟩:=eq_ofNat_of_zero_le h0
  rw [ntN]
  have e:decide (((blA s a bad:Nat):Int)>(a:Int))=(!bad&&decide (a<skp s a)):=by
   cases bad with
   | true=>exact dcF (show ¬((a:Int)>(a:Int)) by omega)
   | false=>
    rw [Bool.not_false,Bool.true_and]
    exact decide_eq_decide.2 (show ((skp s a:Nat):Int)>(a:Int)↔a<skp s a by omega)
  rw [e]
  rfl
 ·cases hq
theorem Mt:Ad prog 50 (Ent.rd1 E5).F:=by
 refine fcC KnowsL.nil.knows (Λ:=(Ab [])) func50 fun vs bs r hq=>?_
 unfold Ent.F E5 at hq
 dsimp only at hq
 split at hq
 ·rename_i s a bad
  obtain ⟨hc,hx⟩:=Ae hq
  refine ⟨Ar _,(Ms s a bad).trans (Eq.trans ?_ hx)⟩
  obtain ⟨h0,h1,h2⟩:=of_decide_eq_true hc
  obtain ⟨a,rfl⟩:=eq_ofNat_of_zero_le h0
  simp only [ntN] at h1 ⊢
  cases bad with
  | true=>rfl
  | false=>
   rw [A1]
   by_cases q:a=s.length
   ·subst q
    rw [Ag (by simp),DE (le_refl _)]; rfl
   ·rw [Af (beq_eq_false_iff_ne.2 (by omega)),Aa (dcT (by omega)),gtE (by omega),Aq,Ej (by omega)]; rfl
 ·cases hq
theorem Qa (w s:By) (a:Nat):(w.isEmpty||!wdB w s a false)=decide (B6 w s a=w.length):=by
 have:=G0 w s a
 unfold wdB
 cases w with
 | nil=>rfl
 | cons b w=>
  rw [Bool.false_or,Bool.eq_iff_iff]
  simp only [List.isEmpty_cons,Bool.false_or,Bool.not_eq_true',decide_eq_false_iff_not,dcE]
  omega
theorem HC {s w:By} (hs:s.length<=400) (hw:w.all (fun b=>b != 0)=true) (hw4:w.length<=400) : ∀ (j i a:Nat),i+j=w.length->a<=s.length->∀ ex d,(Br.br (decide (B6 (w.drop i) s a=(w.drop i).length)) (.leaf (.exit 0,([],[some (.box [.s s,.j ((a+B6 (w.drop i) s a:Nat)),.b (false)])]))) (.leaf (.ret,([],[some (.box [.s s,.j ((a+B6 (w.drop i) s a:Nat)),.b (true)])]))):Br (Ex×Dt)).run=some (ex,d)->Runs prog (Ab [(50,.rd1 E5)]) (Ab [(1,IX)]) 1 (body f35 0) IX ([.ptr 0 0,.s w,.j (w.length:Int),.j ((i:Nat):Int)],[some (.box [.s s,.j ((a:Nat)),.b (false)])]) ex d
 | 0,i,a,hi,ha,ex,d,h=>by
  have hr:=EI s a false w w.length i
  rw [Af (dcF (by omega))] at hr
  rw [drop_eq_nil_of_le (by omega),RI (show decide (B6 [] s a=([]:By).length)=true from dcT rfl)] at h
  obtain ⟨rfl,rfl⟩:=Prod.mk.inj (AD h)
  exact stp hr
 | j+1,i,a,hi,ha,ex,d,h=>by
  have hl:i<w.length:=by omega
  have hr:=EI s a false w w.length i
  have W1:i64.wrap ((i:Int)+1)=((i+1:Nat):Int):=by rw [Ax (by omega) (by omega)]; omega
  have W2:i64.wrap ((a:Int)+1)=((a+1:Nat):Int):=by rw [Ax (by omega) (by omega)]; omega
  rw [Ag (dcT (by omega)),Aa (dcT ⟨by omega,by omega,hs⟩),Aa (dcT (by omega)),ntN,ntN,gtE hl,Aq,W1,W2] at hr
  have hb:w[i]≠0:=by simpa using all_eq_true.1 hw _ (getElem_mem hl)
  rw [drop_eq_getElem_cons hl,B6] at h
  by_cases q:nxt s a=w[i]
  ·have hla:=AU (s:=s) (a:=a) (by rw [q]; exact hb)
   rw [if_pos q,length_cons] at h
   have e9:((bif false then (0:Int) else ((nxt s a).toNat:Int)) != ((w[i].toNat:Nat):Int))=false:=by rw [q]; simp
   rw [Af e9] at hr
   refine sts hr (HC hs hw hw4 j (i+1) (a+1) (by omega) (by omega) ex d ?_)
   rw [<-h,show a+1+B6 (w.drop (i+1)) s (a+1)=a+(B6 (w.drop (i+1)) s (a+1)+1) by omega,show decide (B6 (w.drop (i+1)) s (a+1)=(w.drop (i+1)).length)=decide (B6 (w.drop (i+1)) s (a+1)+1=(w.drop (i+1)).length+1) from decide_eq_decide.2 (by omega)]
  ·rw [if_neg q,RJ (dcF (by rw [length_cons]; omega))] at h
   obtain ⟨rfl,rfl⟩:=Prod.mk.inj (AD h)
   rw [Ag (bne_iff_ne.2 (fun e=>q (UInt8.toNat_inj.1 (by have e:((nxt s a).toNat:Int)=(w[i].toNat:Int):=e; omega))))] at hr
   exact stp hr
theorem Pb:A6 prog (Ab [(50,.rd1 E5)]) (Ab [(1,IX)]) 1 (f35.body.getD .skip):=by
 refine Az (a:=body f35 0) (by kernel_rfl) fun d ex d' h=>?_
 unfold IX at h
 dsimp only at h
 split at h
 ·rename_i w c i s a bad
  obtain ⟨hc,hx⟩:=Ae h
  rw [anE] at hc
  obtain ⟨hc,hw⟩:=hc
  obtain ⟨h0,h1,h2,rfl,h4,h5,h6⟩:=of_decide_eq_true hc
  obtain ⟨a,rfl⟩:=eq_ofNat_of_zero_le h0
  obtain ⟨i,rfl⟩:=eq_ofNat_of_zero_le h4
  simp only [ntN] at h1 h5 hx
  cases bad with
  | false=>
   rw [Qa] at hx
   exact HC h2 hw h6 (w.length-i) i a (by omega) h1 ex d' hx
  | true=>
   have hr:=EI s a true w w.length i
   by_cases q:i<w.length
   ·rw [RJ (by rw [drop_eq_getElem_cons q]; rfl)] at hx
    obtain ⟨rfl,rfl⟩:=Prod.mk.inj (AD hx)
    have hb:w[i]≠0:=by simpa using all_eq_true.1 hw _ (getElem_mem q)
    rw [Ag (dcT (by omega)),Aa (dcT ⟨by omega,by omega,h2⟩),Aa (dcT (by omega)),ntN,ntN,gtE q,Aq,Ag (bne_iff_ne.2 (fun e=>hb (UInt8.toNat_inj.1 (by have e:(0:Int)=(w[i].toNat:Int):=e; have:(0:UInt8).toNat=0:=rfl; omega))))] at hr
    exact stp hr
   ·rw [drop_eq_nil_of_le (by omega),RI (by rfl)] at hx
    obtain ⟨rfl,rfl⟩:=Prod.mk.inj (AD hx)
    rw [Af (dcF (by omega))] at hr
    exact stp hr
 ·cases h
theorem Rk:Ad prog 35 (Ent.own Ni).F:=by
 refine fcC (kc func50 Mt KnowsL.nil).knows (Λ:=(Ab [(1,IX)])) func35 fun vs bs r hq=>?_
 unfold Ent.F Ni at hq
 dsimp only at hq
 split at hq
 ·rename_i w s a bad
  obtain ⟨hc,hx⟩:=Ae hq
  refine ⟨Pb,(Mr s a bad w).trans (Eq.trans ?_ hx)⟩
  rw [anE] at hc
  obtain ⟨hc,hw⟩:=hc
  obtain ⟨h0,h1,h2,h3⟩:=of_decide_eq_true hc
  rw [drop_zero,hw,Bool.and_true,Aa (dcT ⟨h0,h1,h2,by trivial,by omega,by omega,h3⟩)]
  cases bad with
  | true=>
   cases w with
   | nil=>rfl
   | cons b w=>rfl
  | false=>
   rw [Qa]
   by_cases q:B6 w s a.toNat=w.length
   ·have e:wdB w s a.toNat false=false:=by unfold wdB; rw [Bool.false_or]; exact dcF (by omega)
    rw [Ag (dcT q),e]; rfl
   ·have e:wdB w s a.toNat false=true:=by unfold wdB; rw [Bool.false_or]; exact dcT (by have:=G0 w s a.toNat; omega)
    rw [Af (dcF q),e]; rfl
 ·cases hq

theorem Rd {b:UInt8} {s:By} {p:Nat} (h:nxt s p=b):wdB [b] s p false=false/\wdA [b] s p false=p+1:=by
 unfold wdB wdA
 rw [B6,if_pos h,B6]
 exact ⟨rfl,rfl⟩
theorem Re {b:UInt8} {s:By} {p:Nat} (h : ¬nxt s p=b):wdB [b] s p false=true/\wdA [b] s p false=p:=by
 unfold wdB wdA
 rw [B6,if_neg h]
 exact ⟨rfl,rfl⟩
theorem El {s:By} {a:Nat} (h:Be (nxt s a)=true):a<s.length/\AZ s a=AZ s (a+1)+1:=by
 have hl:=AU (QA h)
 refine ⟨hl,?_⟩
 rw [Ej hl] at h
 unfold AZ
 rw [drop_eq_getElem_cons hl,List.takeWhile_cons,h]
 simp
theorem FQ {s:By} {a:Nat} (h:Be (nxt s a)=false):AZ s a=0:=by
 unfold AZ
 cases hs:s.drop a with
 | nil=>rfl
 | cons b l=>
  have:s[a]? = some b:=by rw [<-List.head?_drop,hs]; rfl
  unfold nxt at h
  rw [this] at h
  have h:Be b=false:=h
  rw [List.takeWhile_cons,h]; rfl
theorem Pd:Ad prog 16 (Ent.own Hy).F:=by
 refine fcC (kc func18 Pg (kc func35 Rk KnowsL.nil)).knows (Λ:=(Ab [])) func16 fun vs bs r hq=>?_
 unfold Ent.F Hy at hq
 dsimp only at hq
 split at hq
 ·rename_i b s a bad
  obtain ⟨hc,hx⟩:=Ae hq
  refine ⟨Ar _,(Mx s a bad b).trans (Eq.trans ?_ hx)⟩
  obtain ⟨h0,h1,h2,hb0⟩:=of_decide_eq_true hc
  obtain ⟨a,rfl⟩:=eq_ofNat_of_zero_le h0
  simp only [ntN] at h1
  repeat rw [ntN]
  cases bad with
  | true=>rfl
  | false=>
   have g1:=Bh h1
   have g0:(b::Al UInt8).all (fun b=>b != 0)=true:=by show ((b != 0)&&true)=true; rw [bne_iff_ne.2 hb0]; rfl
   have eb:blA s a false=skp s a:=rfl
   rw [A1,Aa (dcT ⟨by omega,h1,h2⟩),g0,Bool.and_true,eb,Aa (dcT ⟨by omega,g1,h2,by omega⟩)]
   by_cases q:nxt s (skp s a)=b
   ·obtain ⟨w1,w2⟩:=Rd q
    have w1:wdB (b::Al UInt8) s (skp s a) false=false:=w1
    have w2:wdA (b::Al UInt8) s (skp s a) false=skp s a+1:=w2
    have hlt:=AU (s:=s) (a:=skp s a) (by rw [q]; exact hb0)
    rw [w1,w2,Bool.not_false,A4,Aa (dcT ⟨by omega,by omega,h2⟩)]
    have e1:mrA b s a false=skp s (skp s a+1):=by unfold mrA; rw [q,beq_self_eq_true]; rfl
    have e2:mrB b s a false=false:=by unfold mrB; rw [q,beq_self_eq_true]; rfl
    rw [e1,e2]; rfl
   ·obtain ⟨w1,w2⟩:=Re q
    have w1:wdB (b::Al UInt8) s (skp s a) false=true:=w1
    have w2:wdA (b::Al UInt8) s (skp s a) false=skp s a:=w2
    rw [w1,w2,Bool.not_true,A1]
    have e1:mrA b s a false=skp s a:=by unfold mrA; rw [beq_eq_false_iff_ne.2 q]; rfl
    have e2:mrB b s a false=true:=by unfold mrB; rw [beq_eq_false_iff_ne.2 q]; rfl
    rw [e1,e2]; rfl
 ·cases hq
theorem ris:Ad prog 36 (Ent.own Jm).F:=by
 refine fcC (kc func18 Pg (kc func50 Mt KnowsL.nil)).knows (Λ:=(Ab [])) func36 fun vs bs r hq=>?_
 unfold Ent.F Jm at hq
 dsimp only at hq
 split at hq
 ·rename_i m s a bad
  obtain ⟨hc,hx⟩:=Ae hq
  refine ⟨Ar _,(N3 s a bad m).trans (Eq.trans ?_ hx)⟩
  obtain ⟨h0,h1,h2,m1,m2⟩:=of_decide_eq_true hc
  obtain ⟨a,rfl⟩:=eq_ofNat_of_zero_le h0
  obtain ⟨m,rfl⟩:=eq_ofNat_of_zero_le (Int.le_of_lt m1)
  simp only [ntN] at h1
  repeat rw [ntN]
  cases bad with
  | true=>rfl
  | false=>
   have g1:=Bh h1
   have eb:blA s a false=skp s a:=rfl
   have hm:(UInt8.ofNat m).toNat=m:=by simp; omega
   rw [A1,Aa (dcT ⟨by omega,h1,h2⟩),eb,Aa (dcT ⟨by omega,g1,h2⟩)]
   by_cases q:nxt s (skp s a)=UInt8.ofNat m
   ·have hlt:=AU (s:=s) (a:=skp s a) (by rw [q]; intro e; have:=congrArg UInt8.toNat e; rw [hm] at this; have z0:(0:UInt8).toNat=0:=rfl; omega)
    have W1:i64.wrap (((skp s a:Nat):Int)+1)=((skp s a+1:Nat):Int):=by rw [Ax (by omega) (by omega)]; omega
    have e9:((bif false then (0:Int) else ((nxt s (skp s a)).toNat:Int)) != ((m:Nat):Int))=false:=by
     rw [q]; show ((((UInt8.ofNat m).toNat:Nat):Int) != _)=false; rw [hm]; simp
    rw [Af e9,W1,Aa (dcT ⟨by omega,by simp; omega,h2⟩),ntN]
    have e1:mrA (UInt8.ofNat m) s a false=skp s (skp s a+1):=by unfold mrA; rw [q,beq_self_eq_true]; rfl
    have e2:((nxt s (skp s a)).toNat==m)=true:=by rw [q,hm]; exact beq_self_eq_true _
    rw [e1,e2]; rfl
   ·have e8 : ¬(nxt s (skp s a)).toNat=m:=fun e=>q (UInt8.toNat_inj.1 (by rw [hm]; exact e))
    have e9:((bif false then (0:Int) else ((nxt s (skp s a)).toNat:Int)) != ((m:Nat):Int))=true:=by
     show ((((nxt s (skp s a)).toNat:Nat):Int) != _)=true
     exact bne_iff_ne.2 (by omega)
    rw [Ag e9]
    have e1:mrA (UInt8.ofNat m) s a false=skp s a:=by unfold mrA; rw [beq_eq_false_iff_ne.2 q]; rfl
    have e2:((nxt s (skp s a)).toNat==m)=false:=beq_eq_false_iff_ne.2 e8
    rw [e1,e2]; rfl
 ·cases hq
theorem LJ (b:UInt8):Be b=(decide (((b.toNat:Nat):Int)>=97)&&decide (((b.toNat:Nat):Int)<=122)):=by
 unfold Be
 rw [decide_eq_decide.2 (show 97<=b.toNat↔((b.toNat:Nat):Int)>=97 by omega),decide_eq_decide.2 (show b.toNat<=122↔((b.toNat:Nat):Int)<=122 by omega)]
theorem F5 (b:UInt8):An b=(decide (((b.toNat:Nat):Int)>=48)&&decide (((b.toNat:Nat):Int)<=57)):=by
 unfold An
 rw [decide_eq_decide.2 (show 48<=b.toNat↔((b.toNat:Nat):Int)>=48 by omega),decide_eq_decide.2 (show b.toNat<=57↔((b.toNat:Nat):Int)<=57 by omega)]
theorem Mw {s:By} (hs:s.length<=400) (f:Nat) : ∀ (j i:Nat),f<=i->i+j=f+10->i<=s.length->Runs prog (Ab [(50,.rd1 E5)]) (Ab [(3,J6)]) 1 (body f51 0) J6 ([.ptr 0 0,.j ((f:Nat):Int),.i .u8 ((nxt s i).toNat:Int)],[some (.box [.s s,.j ((i:Nat)),.b (false)])]) (.exit 0) ([.ptr 0 0,.j ((f:Nat):Int)],[some (.box [.s s,.j ((i+min (AZ s i) j:Nat)),.b (false)])]):=fun j=>by
 induction j with
 | zero=>
  intro i hf hi hl
  have hr:=EJ s i false f ((nxt s i).toNat:Int)
  have W1:i64.wrap ((i:Int)-(f:Int))=(i:Int)-(f:Int):=Ax (by omega) (by omega)
  rw [W1,Af (c:=decide ((i:Int)-(f:Int)<10)) (dcF (by omega))] at hr
  rw [Nat.min_zero,add_zero]
  refine .stop _ _ _ (hr.trans ?_) (by simp)
  cases decide (((nxt s i).toNat:Int)>=97)<;>cases decide (((nxt s i).toNat:Int)<=122)<;>rfl
 | succ j ih=>
  intro i hf hi hl
  have hr:=EJ s i false f ((nxt s i).toNat:Int)
  have W1:i64.wrap ((i:Int)-(f:Int))=(i:Int)-(f:Int):=Ax (by omega) (by omega)
  have W2:i64.wrap ((i:Int)+1)=((i+1:Nat):Int):=by rw [Ax (by omega) (by omega)]; omega
  rw [W1,W2,Ag (c:=decide ((i:Int)-(f:Int)<10)) (dcT (by omega))] at hr
  have hlo:=LJ (nxt s i)
  cases q:Be (nxt s i) with
  | true=>
   obtain ⟨l1,l2⟩:=El q
   rw [q] at hlo
   have hlo:=hlo.symm
   rw [anE] at hlo
   rw [Ag hlo.1,Ag hlo.2,Aa (dcT ⟨by omega,by simp; omega,hs⟩),ntN] at hr
   have h:=ih (i+1) (by omega) (by omega) (by omega)
   rw [l2,show i+min (AZ s (i+1)+1) (j+1)=i+1+min (AZ s (i+1)) j by omega]
   exact sts hr h
  | false=>
   rw [FQ q,Nat.zero_min,add_zero]
   rw [q] at hlo
   refine .stop _ _ _ (hr.trans ?_) (by simp)
   cases h1:decide (((nxt s i).toNat:Int)>=97)<;>cases h2:decide (((nxt s i).toNat:Int)<=122)
   ·rfl
   ·rfl
   ·rfl
   ·rw [h1,h2] at hlo; cases hlo
theorem Pc:A6 prog (Ab [(50,.rd1 E5)]) (Ab [(3,J6)]) 1 (f51.body.getD .skip):=by
 refine Az (a:=body f51 0) (by kernel_rfl) fun d ex d' h=>?_
 unfold J6 at h
 dsimp only at h
 split at h
 ·rename_i f c s a bad
  obtain ⟨hc,hx⟩:=Ae h
  obtain ⟨h0,h1,h2,h3,h4,h5,rfl⟩:=of_decide_eq_true hc
  obtain ⟨a,rfl⟩:=eq_ofNat_of_zero_le h0
  obtain ⟨f,rfl⟩:=eq_ofNat_of_zero_le h3
  simp only [ntN] at h1 hx
  obtain ⟨rfl,rfl⟩:=Prod.mk.inj (AD hx)
  cases bad with
  | false=>
   have:=Mw h2 f (10-(a-f)) a (by omega) (by omega) h1
   rw [show ((a:Int)-(f:Int)).toNat=a-f by omega]
   exact this
  | true=>
   have hr:=EJ s a true f 0
   rw [Af (by rfl)] at hr
   exact stp hr
 ·cases h
theorem RR:Ad prog 51 (Ent.own LG).F:=by
 refine fcC (kc func50 Mt KnowsL.nil).knows (Λ:=(Ab [(3,J6)])) func51 fun vs bs r hq=>?_
 unfold Ent.F LG at hq
 dsimp only at hq
 split at hq
 ·rename_i s a bad
  obtain ⟨hc,hx⟩:=Ae hq
  refine ⟨Pc,(Mv s a bad).trans (Eq.trans ?_ hx)⟩
  dsimp only [shr]
  obtain ⟨h0,h1,h2⟩:=of_decide_eq_true hc
  obtain ⟨a,rfl⟩:=eq_ofNat_of_zero_le h0
  simp only [ntN] at h1
  repeat rw [ntN]
  rw [Aa (dcT ⟨by omega,h1,h2⟩),Aa (dcT ⟨by omega,h1,h2,by omega,by omega,by omega,by trivial⟩),show ((a:Int)-(a:Int)).toNat=0 by omega]
  cases bad with
  | true=>
   simp only [cond_true]
   rw [Ag (beq_self_eq_true _),Aa (by simp only [anE,dcE]; omega),Nat.sub_self,List.take_zero]; rfl
  | false=>
   have hk:=I5 s a h1
   have ek:nmA s a false=a+min (AZ s a) 10:=rfl
   have ev:nmV s a false=(s.drop a).take (min (AZ s a) 10):=rfl
   have em:nmK s a=min (AZ s a) 10:=rfl
   simp only [cond_false,Nat.sub_zero]
   rw [ek,ev,em,Nat.add_sub_cancel_left]
   by_cases q:min (AZ s a) 10=0
   ·rw [Ag (beq_iff_eq.2 (by omega)),Aa (by simp only [anE,dcE]; omega),beq_iff_eq.2 q]; rfl
   ·rw [Af (beq_eq_false_iff_ne.2 (by omega)),Aa (by simp only [anE,dcE]; omega),beq_eq_false_iff_ne.2 q]; rfl
 ·cases hq
theorem Rl:Ad prog 52 (Ent.own M8).F:=by
 refine fcC (kc func50 Mt KnowsL.nil).knows (Λ:=(Ab [])) func52 fun vs bs r hq=>?_
 unfold Ent.F M8 at hq
 dsimp only at hq
 split at hq
 ·rename_i s a bad
  obtain ⟨hc,hx⟩:=Ae hq
  refine ⟨Ar _,(Mu s a bad).trans (Eq.trans ?_ hx)⟩
  obtain ⟨h0,h1,h2⟩:=of_decide_eq_true hc
  obtain ⟨a,rfl⟩:=eq_ofNat_of_zero_le h0
  have W2:i64.wrap ((a:Int)+1)=((a+1:Nat):Int):=by rw [Ax (by omega) (by omega)]; omega
  have W3:i64.wrap (((a+1:Nat):Int)+1)=((a+2:Nat):Int):=by rw [Ax (by omega) (by omega)]; omega
  rw [W2,W3]
  simp only [ntN] at h1
  repeat rw [ntN]
  rw [Aa (dcT ⟨by omega,h1,h2⟩)]
  cases bad with
  | true=>rfl
  | false=>
   repeat rw [cond_false]
   have hd:=F5 (nxt s a)
   have b1:(nxt s a).toNat<256:=(nxt s a).toNat_lt
   have b2:(nxt s (a+1)).toNat<256:=(nxt s (a+1)).toNat_lt
   have e48:nxt s a=48↔(nxt s a).toNat=48:=⟨fun h=>by rw [h]; rfl,fun h=>UInt8.toNat_inj.1 (by rw [h]; rfl)⟩
   cases q:An (nxt s a) with
   | false=>
    have e1:nbV s a false=0:=by unfold nbV; rw [q]; rfl
    have e2:nbA s a false=a:=by unfold nbA; rw [q]; rfl
    rw [e1,e2]
    by_cases q1:((nxt s a).toNat:Int)<48
    ·rw [Ag (dcT q1)]; rfl
    ·rw [Af (dcF q1)]
     by_cases q2:((nxt s a).toNat:Int)>57
     ·rw [Ag (dcT q2)]; rfl
     ·rw [q,dcT (by omega),dcT (by omega)] at hd; cases hd
   | true=>
    rw [q] at hd
    have hd:=hd.symm
    simp only [anE,dcE] at hd
    obtain ⟨d1,d2⟩:=hd
    have hlt:=AU (IM q)
    have e1:nbV s a false=DF s a:=by unfold nbV; rw [q]; rfl
    have e2:nbA s a false=AV s a:=by unfold nbA; rw [q]; rfl
    have u1:i64.wrap (IntKind.u8.wrap (((nxt s a).toNat:Int)-48))=(((nxt s a).toNat-48:Nat):Int):=by
     have w:IntKind.u8.wrap (((nxt s a).toNat:Int)-48)=((nxt s a).toNat:Int)-48:=by simp [IntKind.wrap,IntKind.bits,IntKind.signed]; omega
     rw [w,Ax (by omega) (by omega)]; omega
    rw [e1,e2,u1,Af (dcF (by omega)),Af (dcF (by omega)),Aa (dcT ⟨by omega,by omega,h2⟩)]
    by_cases q3:nxt s a=48
    ·have n48:=e48.1 q3
     have v1:DF s a=(nxt s a).toNat-48:=by unfold DF; rw [if_neg (fun h=>h.1 q3)]
     have v2:AV s a=a+1:=by unfold AV; rw [if_neg (fun h=>h.1 q3)]
     rw [v1,v2,Af (dcF (by omega))]; rfl
    ·have n48 : ¬(nxt s a).toNat=48:=fun h=>q3 (e48.2 h)
     rw [Ag (dcT (by omega))]
     have hd2:=F5 (nxt s (a+1))
     cases q4:An (nxt s (a+1)) with
     | false=>
      have v1:DF s a=(nxt s a).toNat-48:=by unfold DF; rw [if_neg (fun h=>by rw [q4] at h; cases h.2)]
      have v2:AV s a=a+1:=by unfold AV; rw [if_neg (fun h=>by rw [q4] at h; cases h.2)]
      rw [v1,v2]
      rw [q4] at hd2
      cases h1:decide (((nxt s (a+1)).toNat:Int)>=48)<;>cases h2:decide (((nxt s (a+1)).toNat:Int)<=57)
      ·rfl
      ·rfl
      ·rfl
      ·rw [h1,h2] at hd2; cases hd2
     | true=>
      have v1:DF s a=10*((nxt s a).toNat-48)+((nxt s (a+1)).toNat-48):=by unfold DF; rw [if_pos ⟨q3,q4⟩]
      have v2:AV s a=a+2:=by unfold AV; rw [if_pos ⟨q3,q4⟩]
      rw [q4] at hd2
      have hd2:=hd2.symm
      simp only [anE,dcE] at hd2
      obtain ⟨d3,d4⟩:=hd2
      have u2:i64.wrap (IntKind.u8.wrap (((nxt s (a+1)).toNat:Int)-48))=(((nxt s (a+1)).toNat-48:Nat):Int):=by
       have w:IntKind.u8.wrap (((nxt s (a+1)).toNat:Int)-48)=((nxt s (a+1)).toNat:Int)-48:=by simp [IntKind.wrap,IntKind.bits,IntKind.signed]; omega
       rw [w,Ax (by omega) (by omega)]; omega
      have u3:i64.wrap (10*(((nxt s a).toNat-48:Nat):Int))=((10*((nxt s a).toNat-48):Nat):Int):=by rw [Ax (by omega) (by omega)]; omega
      have u4:i64.wrap (((10*((nxt s a).toNat-48):Nat):Int)+(((nxt s (a+1)).toNat-48:Nat):Int))=((10*((nxt s a).toNat-48)+((nxt s (a+1)).toNat-48):Nat):Int):=by rw [Ax (by omega) (by omega)]; omega
      rw [v1,v2,Ag (dcT d3),Ag (dcT d4),u2,u3,u4]; rfl
 ·cases hq
def hdS (s:By) (a:Nat) (bad:Bool):By×Nat×Bool×Nat×Bool:=
 let p:=blA s a bad
 let q:=nmA s p bad
 let b2:=bad||(nmK s p==0)
 let r:=mrA 58 s q b2
 let b3:=mrB 58 s q b2
 let t:=nbA s r b3
 let b4:=b3||!An (nxt s r)
 let u:=blA s t b4
 bif !b4&&(nxt s u==33) then (nmV s p bad,nbV s r b3,true,blA s (u+1) b4,b4||(!decide (u+1<skp s (u+1))&&Be (nxt s (blA s (u+1) b4))))
 else (nmV s p bad,nbV s r b3,false,u,b4||(!decide (t<skp s t)&&Be (nxt s u)))
def paF (f:By->Nat->Bool->Rose Lab×Nat×Bool) (s:By) (a:Nat) (bad:Bool):Rose Lab×Nat×Bool:=
 let h:=hdS s a bad
 let y:=f s h.2.2.2.1 h.2.2.2.2
 (.node (y.1.lab.1,h.1,(h.2.1:Int),h.2.2.1,y.1.lab.2.2.2.2.1,()) y.1.kids,y.2)
theorem BG {s:By} {a:Nat} (bad:Bool) (h:a<=s.length):a<=blA s a bad/\blA s a bad<=s.length:=by
 cases bad with
 | true=>exact ⟨le_refl _,h⟩
 | false=>exact ⟨AT s a,Bh h⟩
theorem I1 {s:By} {a:Nat} (bad:Bool) (h:a<=s.length):a<=nmA s a bad/\nmA s a bad<=s.length:=by
 cases bad with
 | true=>exact ⟨le_refl _,h⟩
 | false=>
  have:=I5 s a h
  show a<=a+min (AZ s a) 10/\a+min (AZ s a) 10<=_
  omega
theorem BC {b:UInt8} {s:By} {a:Nat} (hb:b≠0) (bad:Bool) (h:a<=s.length):a<=mrA b s a bad/\mrA b s a bad<=s.length/\(mrB b s a bad=false->a+1<=mrA b s a bad/\bad=false):=by
 unfold mrA mrB
 have g1:=AT s a
 have g2:=Bh h
 cases bad with
 | true=>exact ⟨le_refl _,h,fun e=>by cases e⟩
 | false=>
  by_cases q:nxt s (skp s a)=b
  ·have hl:=AU (s:=s) (a:=skp s a) (by rw [q]; exact hb)
   have g3:=AT s (skp s a+1)
   have g4:=Bh (s:=s) (a:=skp s a+1) (by omega)
   rw [q,beq_self_eq_true]
   show a<=skp s (skp s a+1)/\_/\(_->a+1<=skp s (skp s a+1)/\_)
   exact ⟨by omega,g4,fun _=>⟨by omega,rfl⟩⟩
  ·rw [beq_eq_false_iff_ne.2 q]
   exact ⟨g1,g2,fun e=>by cases e⟩
theorem FL {s:By} {a:Nat} (bad:Bool) (h:a<=s.length):a<=nbA s a bad/\nbA s a bad<=s.length:=by
 unfold nbA
 cases bad with
 | true=>exact ⟨le_refl _,h⟩
 | false=>
  cases q:An (nxt s a) with
  | false=>exact ⟨le_refl _,h⟩
  | true=>have:=Iz q; exact ⟨by show a<=AV s a; omega,this.2.2⟩
theorem IQ (b:UInt8) (b4:Bool):(decide ((bif b4 then (0:Int) else ((b.toNat:Nat):Int))>=97)&&decide ((bif b4 then (0:Int) else ((b.toNat:Nat):Int))<=122))=(!b4&&Be b):=by
 cases b4 with
 | true=>rfl
 | false=>rw [LJ]; rfl
theorem Qk (b:UInt8) (b4:Bool):((bif b4 then (0:Int) else ((b.toNat:Nat):Int))==33)=(!b4&&(b==33)):=by
 cases b4 with
 | true=>rfl
 | false=>exact u8n b (k:=33) (by decide)
theorem HV {s:By} {a:Nat} (bad:Bool) (h:a<=s.length):(hdS s a bad).2.2.2.1<=s.length/\a<=(hdS s a bad).2.2.2.1/\((hdS s a bad).2.2.2.2=false->bad=false/\a+2<=(hdS s a bad).2.2.2.1):=by
 unfold hdS
 dsimp only
 obtain ⟨p1,p2⟩:=BG bad h
 generalize blA s a bad=p at *
 obtain ⟨q1,q2⟩:=I1 bad p2
 have q3:(bad||nmK s p==0)=false->bad=false/\p+1<=nmA s p bad:=by
  cases bad with
  | true=>intro e; cases e
  | false=>
   intro e
   have e:(nmK s p==0)=false:=e
   have:=beq_eq_false_iff_ne.1 e
   exact ⟨rfl,show p+1<=p+nmK s p by omega⟩
 generalize (bad||nmK s p==0)=b2 at *
 generalize nmA s p bad=q at *
 obtain ⟨r1,r2,r3⟩:=BC (b:=58) (by decide) b2 q2
 generalize mrA 58 s q b2=r at *
 generalize mrB 58 s q b2=b3 at *
 obtain ⟨t1,t2⟩:=FL b3 r2
 generalize nbA s r b3=t at *
 have q4:(b3||!An (nxt s r))=false->b3=false:=by cases b3<;>simp
 generalize (b3||!An (nxt s r))=b4 at *
 obtain ⟨u1,u2⟩:=BG b4 t2
 generalize blA s t b4=u at *
 cases q:(!b4&&(nxt s u==33)) with
 | true=>
  have hu:u<s.length:=by
   rw [anE,beq_iff_eq] at q
   exact AU (by rw [q.2]; decide)
  obtain ⟨v1,v2⟩:=BG b4 (show u+1<=s.length by omega)
  rw [cond_true]
  refine ⟨v2,by dsimp only; omega,fun e=>?_⟩
  dsimp only at e ⊢
  have e4:b4=false:=by cases b4 with | true=>cases e | false=>rfl
  have:=r3 (q4 e4)
  have:=q3 this.2
  exact ⟨this.1,by omega⟩
 | false=>
  rw [cond_false]
  refine ⟨u2,by dsimp only; omega,fun e=>?_⟩
  dsimp only at e ⊢
  have e4:b4=false:=by cases b4 with | true=>cases e | false=>rfl
  have:=r3 (q4 e4)
  have:=q3 this.2
  exact ⟨this.1,by omega⟩
theorem L0 {β:Type} {nb c1 c2 b4 b7:Bool} {N:Bool->Bool} {L:Bool->Option β} (h:b7=(nb&&(c1&&c2)||b4)) (hN:N b7=true):ifB nb (ifB c1 (ifB c2 (ifT (N true) (L true)) (ifT (N b4) (L b4))) (ifT (N b4) (L b4))) (ifT (N b4) (L b4))=L b7:=by
 subst h
 cases nb<;>cases c1<;>cases c2<;>cases b4<;>exact Aa hN
theorem LZ (b4 d:Bool) (b:UInt8):(b4||(!d&&Be b))=(!(!b4&&d)&&(decide ((bif b4 then (0:Int) else ((b.toNat:Nat):Int))>=97)&&decide ((bif b4 then (0:Int) else ((b.toNat:Nat):Int))<=122))||b4):=by
 rw [IQ]
 cases b4<;>cases d<;>cases Be b<;>rfl
theorem PC (n:Nat) (f:By->Nat->Bool->Rose Lab×Nat×Bool) (s:By) (a:Int) (bad:Bool) (hc:0<=a/\a.toNat<=s.length/\s.length<=400/\1<=n/\(bad=true\/s.length-a.toNat+1<=n)):BA prog (Ab [(18,.own Lx),(51,.own LG),(16,.own Hy),(52,.own M8),(50,.rd1 E5),(53,.own (H0 n f))]) (Ab []) f37 [.ptr 0 0] [(.box [.s s,.j (a),.b (bad)])]=some (.ptr 1 0,[some (.box [.s s,.j (((paF f s a.toNat bad).2.1:Nat)),.b ((paF f s a.toNat bad).2.2)]),some (.box [.j (paF f s a.toNat bad).1.lab.1,.s (paF f s a.toNat bad).1.lab.2.1,.j (paF f s a.toNat bad).1.lab.2.2.1,.b (paF f s a.toNat bad).1.lab.2.2.2.1,.j (paF f s a.toNat bad).1.lab.2.2.2.2.1,.ref 2 0 (paF f s a.toNat bad).1.kids.length]),R0 (.tree LCd) (paF f s a.toNat bad).1.kids]):=by
 rw [O2]
 dsimp only [shr]
 obtain ⟨h0,h1,h2,h3,h4⟩:=hc
 obtain ⟨a,rfl⟩:=eq_ofNat_of_zero_le h0
 rw [ntN] at h1 h4
 repeat rw [ntN]
 have hb:=HV bad h1
 rw [Aa (dcT ⟨by omega,h1,h2⟩)]
 unfold paF
 unfold hdS at hb ⊢
 dsimp only at hb ⊢
 obtain ⟨p1,p2⟩:=BG bad h1
 generalize blA s a bad=p at *
 repeat rw [ntN]
 rw [Aa (dcT ⟨by omega,p2,h2⟩)]
 obtain ⟨q1,q2⟩:=I1 bad p2
 generalize (bad||nmK s p==0)=b2 at *
 generalize nmV s p bad=nv at *
 generalize nmA s p bad=q at *
 repeat rw [ntN]
 rw [Aa (dcT ⟨by omega,q2,h2,by decide⟩)]
 obtain ⟨r1,r2,r3⟩:=BC (b:=58) (by decide) b2 q2
 generalize mrA 58 s q b2=r at *
 generalize mrB 58 s q b2=b3 at *
 repeat rw [ntN]
 rw [Aa (dcT ⟨by omega,r2,h2⟩)]
 obtain ⟨t1,t2⟩:=FL b3 r2
 generalize nbA s r b3=t at *
 generalize nbV s r b3=no at *
 generalize (b3||!An (nxt s r))=b4 at *
 repeat rw [ntN]
 rw [Aa (dcT ⟨by omega,t2,h2⟩)]
 obtain ⟨u1,u2⟩:=BG b4 t2
 generalize hu:blA s t b4=u at *
 repeat rw [ntN]
 rw [Aa (dcT ⟨by omega,u2,h2⟩),Qk]
 cases q33:(!b4&&(nxt s u==33)) with
 | true=>
  rw [q33,cond_true] at hb
  dsimp only at hb
  have hu:u<s.length:=by
   rw [anE,beq_iff_eq] at q33
   exact AU (by rw [q33.2]; decide)
  have W1:i64.wrap ((u:Int)+1)=((u+1:Nat):Int):=by rw [Ax (by omega) (by omega)]; omega
  rw [cond_true,A4,W1]
  repeat rw [ntN]
  obtain ⟨v1,v2⟩:=BG b4 (show u+1<=s.length by omega)
  rw [Aa (dcT ⟨by omega,by omega,h2⟩)]
  have e7:=LZ b4 (decide (u+1<skp s (u+1))) (nxt s (blA s (u+1) b4))
  generalize blA s (u+1) b4=v at *
  repeat rw [ntN]
  rw [Aa (dcT ⟨by omega,v2,h2⟩)]
  exact L0 (N:=(fun b:Bool=>decide (0<=((v:Nat):Int)/\v<=s.length/\s.length<=400/\1<=n/\(b=true\/s.length-v+3<=n)))) (L:=(fun b:Bool=>(some (.ptr 1 0,[some (.box [.s s,.j ((f s v b).2.1:Nat),.b (f s v b).2.2]),some (.box [.j (f s v b).1.lab.1,.s nv,.j (no:Nat),.b true,.j (f s v b).1.lab.2.2.2.2.1,.ref 2 0 (f s v b).1.kids.length]),R0 (.tree LCd) (f s v b).1.kids]):Option (V×List (Option Blk))))) e7 (dcT ⟨by omega,v2,h2,h3,by
   cases b7:(b4||(!decide (u+1<skp s (u+1))&&Be (nxt s v))) with
   | true=>exact .inl rfl
   | false=>
    obtain ⟨g1,g2⟩:=hb.2.2 b7
    rcases h4 with h4 | h4
    ·rw [g1] at h4; cases h4
    ·exact .inr (by omega)⟩)
 | false=>
  rw [q33,cond_false] at hb
  dsimp only at hb
  rw [cond_false,A1,Aa (dcT ⟨by omega,u2,h2⟩)]
  have e7:=LZ b4 (decide (t<skp s t)) (nxt s u)
  exact L0 (N:=(fun b:Bool=>decide (0<=((u:Nat):Int)/\u<=s.length/\s.length<=400/\1<=n/\(b=true\/s.length-u+3<=n)))) (L:=(fun b:Bool=>(some (.ptr 1 0,[some (.box [.s s,.j ((f s u b).2.1:Nat),.b (f s u b).2.2]),some (.box [.j (f s u b).1.lab.1,.s nv,.j (no:Nat),.b false,.j (f s u b).1.lab.2.2.2.2.1,.ref 2 0 (f s u b).1.kids.length]),R0 (.tree LCd) (f s u b).1.kids]):Option (V×List (Option Blk))))) e7 (dcT ⟨by omega,u2,h2,h3,by
   cases b7:(b4||(!decide (t<skp s t)&&Be (nxt s u))) with
   | true=>exact .inl rfl
   | false=>
    obtain ⟨g1,g2⟩:=hb.2.2 b7
    rcases h4 with h4 | h4
    ·rw [g1] at h4; cases h4
    ·exact .inr (by omega)⟩)
theorem PD (n:Nat) (f:By->Nat->Bool->Rose Lab×Nat×Bool) (hf:Ad prog 53 (Ent.own (H0 n f)).F):Ad prog 37 (Ent.own (MK n (paF f))).F:=by
 refine fcC (kc func18 Pg (kc func51 RR (kc func16 Pd (kc func52 Rl (kc func50 Mt (kc func53 hf KnowsL.nil)))))).knows (Λ:=Ab []) func37 fun vs bs r hq=>?_
 unfold Ent.F MK at hq
 dsimp only at hq
 split at hq
 ·rename_i s a bad
  obtain ⟨hc,hx⟩:=Ae hq
  exact ⟨Ar _,(PC n f s a bad (of_decide_eq_true hc)).trans hx⟩
 ·cases hq
def cB' (s:By) (a:Nat) (bad:Bool):UInt8:=bif bad then 0 else nxt s a
def enF (s:By) (a:Nat) (bad:Bool):Nat×Nat×Bool:=
 let a1:=wdA AA s a bad
 let b1:=wdB AA s a bad
 let a2:=mrA 40 s a1 b1
 let b2:=mrB 40 s a1 b1
 let a3:=nbA s a2 b2
 let b3:=b2||!An (nxt s a2)
 (nbV s a2 b2,mrA 41 s a3 b3,mrB 41 s a3 b3)
def tyF (f g:By->Nat->Bool->Rose Lab×Nat×Bool) (s:By) (a:Nat) (bad:Bool):Rose Lab×Nat×Bool:=
 bif cB' s a bad==110 then (.node (1,[],0,false,0,()) [],wdA CS s a bad,wdB CS s a bad)
 else bif cB' s a bad==116 then (.node (2,[],0,false,0,()) [],wdA BH s a bad,wdB BH s a bad)
 else bif cB' s a bad==101 then (.node (3,[],0,false,((enF s a bad).1:Int),()) [],(enF s a bad).2)
 else bif cB' s a bad==91 then
  let y:=f s (mrA 91 s a bad) (mrB 91 s a bad)
  (.node (4,[],0,false,0,()) [y.1],mrA 93 s y.2.1 y.2.2,mrB 93 s y.2.1 y.2.2)
 else bif cB' s a bad==123 then g s (mrA 123 s a bad) (mrB 123 s a bad)
 else (.node (1,[],0,false,0,()) [],a,true)
def lpF (f:By->Nat->Bool->Rose Lab×Nat×Bool):Nat->By->RL->Nat->Bool->RL×Nat×Bool
 | 0,_,o,a,bad=>(o,a,bad)
 | k+1,s,o,a,bad=>bif bad then (o,a,bad) else
  let y:=f s a bad
  bif !y.2.2&&(nxt s (skp s y.2.1)==125) then (o++[y.1],mrA 125 s y.2.1 y.2.2,y.2.2)
  else lpF f k s (o++[y.1]) (mrA 44 s (mrA 125 s y.2.1 y.2.2) y.2.2) (mrB 44 s (mrA 125 s y.2.1 y.2.2) y.2.2)
def msF (h:RL->RL) (f:By->Nat->Bool->Rose Lab×Nat×Bool) (s:By) (a:Nat) (bad:Bool):Rose Lab×Nat×Bool:=
 bif !bad&&(nxt s (skp s a)==125) then (.node (5,[],0,false,0,()) [],mrA 125 s a bad,bad)
 else (.node (5,[],0,false,0,()) (h (lpF f 1000 s [] (mrA 125 s a bad) bad).1),(lpF f 1000 s [] (mrA 125 s a bad) bad).2)
def BdF (f:By->Nat->Bool->Rose Lab×Nat×Bool):Prop:=∀ s a bad,a<=s.length->a<=(f s a bad).2.1/\(f s a bad).2.1<=s.length
theorem Ig {w s:By} {a:Nat} (hw:w.all (fun b=>b != 0)=true) (bad:Bool) (h:a<=s.length):a<=wdA w s a bad/\wdA w s a bad<=s.length:=by
 cases bad with
 | true=>exact ⟨le_refl _,h⟩
 | false=>exact ⟨Nat.le_add_right _ _,CX hw h⟩
theorem QT {s:By} {a:Nat} (bad:Bool) (h:a<=s.length):a<=(enF s a bad).2.1/\(enF s a bad).2.1<=s.length:=by
 unfold enF
 dsimp only
 have h1:=Ig (w:=AA) (by rfl) bad h
 have h2:=BC (b:=40) (by decide) (wdB AA s a bad) h1.2
 have h3:=FL (mrB 40 s (wdA AA s a bad) (wdB AA s a bad)) h2.2.1
 have h4:=BC (b:=41) (by decide) (mrB 40 s (wdA AA s a bad) (wdB AA s a bad)||!An (nxt s (mrA 40 s (wdA AA s a bad) (wdB AA s a bad)))) h3.2
 omega
theorem BdF.pa {f:By->Nat->Bool->Rose Lab×Nat×Bool} (hf:BdF f):BdF (paF f):=fun s a bad h=>by
 obtain ⟨h1,h2,_⟩:=HV bad h
 have:=hf s (hdS s a bad).2.2.2.1 (hdS s a bad).2.2.2.2 h1
 unfold paF
 dsimp only
 omega
theorem BdF.ty {f g:By->Nat->Bool->Rose Lab×Nat×Bool} (hf:BdF f) (hg:BdF g):BdF (tyF f g):=fun s a bad h=>by
 unfold tyF
 cases cB' s a bad==110 with
 | true=>exact Ig (by rfl) bad h
 | false=>
  cases cB' s a bad==116 with
  | true=>exact Ig (by rfl) bad h
  | false=>
   cases cB' s a bad==101 with
   | true=>exact QT bad h
   | false=>
    cases cB' s a bad==91 with
    | true=>
     have h1:=BC (b:=91) (by decide) bad h
     have h2:=hf s (mrA 91 s a bad) (mrB 91 s a bad) h1.2.1
     have h3:=BC (b:=93) (by decide) (f s (mrA 91 s a bad) (mrB 91 s a bad)).2.2 h2.2
     simp only [cond_true,cond_false]
     omega
    | false=>
     cases cB' s a bad==123 with
     | true=>
      have h1:=BC (b:=123) (by decide) bad h
      have h2:=hg s (mrA 123 s a bad) (mrB 123 s a bad) h1.2.1
      simp only [cond_true,cond_false]
      omega
     | false=>exact ⟨le_refl _,h⟩
theorem KL {f:By->Nat->Bool->Rose Lab×Nat×Bool} (hf:BdF f) : ∀ (k:Nat) (s:By) (o:RL) (a:Nat) (bad:Bool),a<=s.length->a<=(lpF f k s o a bad).2.1/\(lpF f k s o a bad).2.1<=s.length/\(lpF f k s o a bad).1.length<=o.length+k
 | 0,s,o,a,bad,h=>⟨le_refl _,h,le_refl _⟩
 | k+1,s,o,a,bad,h=>by
  rw [lpF]
  cases bad with
  | true=>exact ⟨le_refl _,h,Nat.le_add_right _ _⟩
  | false=>
   rw [cond_false]
   dsimp only
   have h1:=hf s a false h
   generalize f s a false=y at *
   have h2:=BC (b:=125) (by decide) y.2.2 h1.2
   have h3:=BC (b:=44) (by decide) y.2.2 h2.2.1
   have el:(o++[y.1]).length=o.length+1:=by simp
   cases !y.2.2&&(nxt s (skp s y.2.1)==125) with
   | true=>rw [cond_true]; dsimp only; omega
   | false=>
    rw [cond_false]
    have:=KL hf k s (o++[y.1]) _ (mrB 44 s (mrA 125 s y.2.1 y.2.2) y.2.2) h3.2.1
    omega
theorem BdF.ms {h:RL->RL} {f:By->Nat->Bool->Rose Lab×Nat×Bool} (hf:BdF f):BdF (msF h f):=fun s a bad ha=>by
 have h1:=BC (b:=125) (by decide) bad ha
 have h2:=KL hf 1000 s [] _ bad h1.2.1
 unfold msF
 cases !bad&&(nxt s (skp s a)==125) with
 | true=>rw [cond_true]; dsimp only; omega
 | false=>rw [cond_false]; dsimp only; omega
theorem QX (s:By) (a:Nat) (b4:Bool):((bif b4 then (0:Int) else (((nxt s a).toNat:Nat):Int))==110)=(cB' s a b4==110):=by
 cases b4 with
 | true=>rfl
 | false=>exact u8n (nxt s a) (k:=110) (by decide)
theorem QW (s:By) (a:Nat) (b4:Bool):((bif b4 then (0:Int) else (((nxt s a).toNat:Nat):Int))==116)=(cB' s a b4==116):=by
 cases b4 with
 | true=>rfl
 | false=>exact u8n (nxt s a) (k:=116) (by decide)
theorem QY (s:By) (a:Nat) (b4:Bool):((bif b4 then (0:Int) else (((nxt s a).toNat:Nat):Int))==101)=(cB' s a b4==101):=by
 cases b4 with
 | true=>rfl
 | false=>exact u8n (nxt s a) (k:=101) (by decide)
theorem Qj (s:By) (a:Nat) (b4:Bool):((bif b4 then (0:Int) else (((nxt s a).toNat:Nat):Int))==91)=(cB' s a b4==91):=by
 cases b4 with
 | true=>rfl
 | false=>exact u8n (nxt s a) (k:=91) (by decide)
theorem OO (s:By) (a:Nat) (b4:Bool):((bif b4 then (0:Int) else (((nxt s a).toNat:Nat):Int))==123)=(cB' s a b4==123):=by
 cases b4 with
 | true=>rfl
 | false=>exact u8n (nxt s a) (k:=123) (by decide)
theorem P7 (n:Nat) (f g:By->Nat->Bool->Rose Lab×Nat×Bool) (hf:BdF f) (s:By) (a:Int) (bad:Bool) (hc:0<=a/\a.toNat<=s.length/\s.length<=400/\1<=n+1/\(bad=true\/s.length-a.toNat+3<=n+1)):BA prog (Ab [(50,.rd1 E5),(35,.own Ni),(16,.own Hy),(52,.own M8),(53,.own (H0 n f)),(17,.own (JP n g))]) (Ab []) f53 [.ptr 0 0] [(.box [.s s,.j (a),.b (bad)])]=some (.ptr 1 0,[some (.box [.s s,.j (((tyF f g s a.toNat bad).2.1:Nat)),.b ((tyF f g s a.toNat bad).2.2)]),some (.box [.j (tyF f g s a.toNat bad).1.lab.1,.s (tyF f g s a.toNat bad).1.lab.2.1,.j (tyF f g s a.toNat bad).1.lab.2.2.1,.b (tyF f g s a.toNat bad).1.lab.2.2.2.1,.j (tyF f g s a.toNat bad).1.lab.2.2.2.2.1,.ref 2 0 (tyF f g s a.toNat bad).1.kids.length]),R0 (.tree LCd) (tyF f g s a.toNat bad).1.kids]):=by
 rw [Oz]
 dsimp only [shr]
 obtain ⟨h0,h1,h2,h3,h4⟩:=hc
 obtain ⟨a,rfl⟩:=eq_ofNat_of_zero_le h0
 rw [ntN] at h1 h4
 repeat rw [ntN]
 rw [Aa (dcT ⟨by omega,h1,h2⟩),QX,QW,QY,Qj,OO]
 have hbad : ∀ k:UInt8,k≠0->(cB' s a bad==k)=true->bad=false:=fun k hk e=>by
  cases bad with
  | false=>rfl
  | true=>exact absurd (beq_iff_eq.1 e).symm hk
 unfold tyF
 cases q1:cB' s a bad==110 with
 | true=>rw [A4,Aa (by rw [anE]; exact ⟨dcT ⟨by omega,h1,h2,by omega⟩,by rfl⟩)]; rfl
 | false=>
  rw [A1]
  cases q2:cB' s a bad==116 with
  | true=>rw [A4,Aa (by rw [anE]; exact ⟨dcT ⟨by omega,h1,h2,by omega⟩,by rfl⟩)]; rfl
  | false=>
   rw [A1]
   cases q3:cB' s a bad==101 with
   | true=>
    rw [A4,Aa (by rw [anE]; exact ⟨dcT ⟨by omega,h1,h2,by omega⟩,by rfl⟩)]
    have e1:enF s a bad=enF s a bad:=rfl
    unfold enF at e1
    have w1:=Ig (w:=AA) (by rfl) bad h1
    have ew:wdA [101,110,117,109] s a bad=wdA AA s a bad:=rfl
    have ev:wdB [101,110,117,109] s a bad=wdB AA s a bad:=rfl
    rw [ew,ev]
    have e2:(enF s a bad)=(nbV s (mrA 40 s (wdA AA s a bad) (wdB AA s a bad)) (mrB 40 s (wdA AA s a bad) (wdB AA s a bad)),mrA 41 s (nbA s (mrA 40 s (wdA AA s a bad) (wdB AA s a bad)) (mrB 40 s (wdA AA s a bad) (wdB AA s a bad))) (mrB 40 s (wdA AA s a bad) (wdB AA s a bad)||!An (nxt s (mrA 40 s (wdA AA s a bad) (wdB AA s a bad)))),mrB 41 s (nbA s (mrA 40 s (wdA AA s a bad) (wdB AA s a bad)) (mrB 40 s (wdA AA s a bad) (wdB AA s a bad))) (mrB 40 s (wdA AA s a bad) (wdB AA s a bad)||!An (nxt s (mrA 40 s (wdA AA s a bad) (wdB AA s a bad))))):=rfl
    rw [e2]
    clear e1 e2 ew ev
    generalize wdA AA s a bad=a1 at *
    generalize wdB AA s a bad=b1 at *
    repeat rw [ntN]
    rw [Aa (dcT ⟨by omega,w1.2,h2,by decide⟩)]
    have w2:=BC (b:=40) (by decide) b1 w1.2
    generalize mrA 40 s a1 b1=a2 at *
    generalize mrB 40 s a1 b1=b2 at *
    repeat rw [ntN]
    rw [Aa (dcT ⟨by omega,w2.2.1,h2⟩)]
    have w3:=FL b2 w2.2.1
    generalize nbA s a2 b2=a3 at *
    generalize nbV s a2 b2=v at *
    generalize (b2||!An (nxt s a2))=b3 at *
    repeat rw [ntN]
    rw [Aa (dcT ⟨by omega,w3.2,h2,by decide⟩)]
    rfl
   | false=>
    rw [A1]
    cases q4:cB' s a bad==91 with
    | true=>
     have hb:=hbad 91 (by decide) q4
     obtain ⟨m1,m2,m3⟩:=BC (b:=91) (by decide) bad h1
     rw [A4,Aa (dcT ⟨by omega,h1,h2,by decide⟩)]
     have hy:=hf s (mrA 91 s a bad) (mrB 91 s a bad) m2
     have hlv:mrB 91 s a bad=true\/s.length-mrA 91 s a bad+3<=n:=by
      cases q:mrB 91 s a bad with
      | true=>exact .inl rfl
      | false=>
       have:=m3 q
       rcases h4 with h4 | h4
       ·rw [hb] at h4; cases h4
       ·exact .inr (by omega)
     have hn:1<=n:=by
      rcases h4 with h4 | h4
      ·rw [hb] at h4; cases h4
      ·omega
     generalize mrA 91 s a bad=a1 at *
     generalize mrB 91 s a bad=b1 at *
     repeat rw [ntN]
     rw [Aa (dcT ⟨by omega,m2,h2,hn,hlv⟩)]
     simp only [cond_true,cond_false]
     generalize f s a1 b1=y at *
     repeat rw [ntN]
     rw [Aa (dcT ⟨by omega,hy.2,h2,by decide⟩)]
     rw [drop_zero,take_length]
     obtain ⟨⟨⟨x0,x1,x2,x3,x4,⟨⟩⟩,ks⟩,y1,y2⟩:=y
     rfl
    | false=>
     rw [A1]
     cases q5:cB' s a bad==123 with
     | true=>
      have hb:=hbad 123 (by decide) q5
      obtain ⟨m1,m2,m3⟩:=BC (b:=123) (by decide) bad h1
      rw [A4,Aa (dcT ⟨by omega,h1,h2,by decide⟩)]
      have hlv:mrB 123 s a bad=true\/s.length-mrA 123 s a bad+3<=n:=by
       cases q:mrB 123 s a bad with
       | true=>exact .inl rfl
       | false=>
        have:=m3 q
        rcases h4 with h4 | h4
        ·rw [hb] at h4; cases h4
        ·exact .inr (by omega)
      have hn:1<=n:=by
       rcases h4 with h4 | h4
       ·rw [hb] at h4; cases h4
       ·omega
      generalize mrA 123 s a bad=a1 at *
      generalize mrB 123 s a bad=b1 at *
      repeat rw [ntN]
      rw [Aa (dcT ⟨by omega,m2,h2,hn,hlv⟩)]
      rfl
     | false=>rw [A1]; rfl
theorem P8 (n:Nat) (f g:By->Nat->Bool->Rose Lab×Nat×Bool) (bf:BdF f) (hf:Ad prog 53 (Ent.own (H0 n f)).F) (hg:Ad prog 17 (Ent.own (JP n g)).F):Ad prog 53 (Ent.own (H0 (n+1) (tyF f g))).F:=by
 refine fcC (kc func50 Mt (kc func35 Rk (kc func16 Pd (kc func52 Rl (kc func53 hf (kc func17 hg KnowsL.nil)))))).knows (Λ:=Ab []) func53 fun vs bs r hq=>?_
 unfold Ent.F H0 at hq
 dsimp only at hq
 split at hq
 ·rename_i s a bad
  obtain ⟨hc,hx⟩:=Ae hq
  exact ⟨Ar _,(P7 n f g bf s a bad (of_decide_eq_true hc)).trans hx⟩
 ·cases hq
theorem Mf (b:UInt8):(b.toNat==125)=(b==125):=by
 rw [Bool.eq_iff_iff,beq_iff_eq,beq_iff_eq]
 exact ⟨fun h=>UInt8.toNat_inj.1 h,fun h=>by rw [h]; rfl⟩
theorem JO (n:Nat) (f:By->Nat->Bool->Rose Lab×Nat×Bool) (hf:BdF f) (h:RL->RL) (q:By×RL×Nat×Bool->RL×Nat×Bool) {s:By} (hs:s.length<=400) : ∀ (k:Nat) (o:RL) (a:Nat) (bad:Bool),a<=s.length->(bad=true\/s.length-a+2<=n)->1<=k->(bad=true\/s.length-a+2<=k)->o.length+k<=3000->
  Runs prog (Ab [(36,.own Jm),(16,.own Hy),(37,.own (MK n f)),(38,.own (MY h))]) (Ab [(4,KU n q)]) 1 (body f17 0) (KU n q) ([.ptr 0 0,.ptr 1 0],[some (.box [.s s,.j ((a:Nat)),.b (bad)]),some (.box [.j 5,.s [],.j 0,.b false,.j 0,.ref 2 0 o.length]),R0 (.tree LCd) o]) (.exit 0) ([.ptr 0 0,.ptr 1 0],[some (.box [.s s,.j (((lpF f k s o a bad).2.1:Nat)),.b ((lpF f k s o a bad).2.2)]),some (.box [.j 5,.s [],.j 0,.b false,.j 0,.ref 2 0 (lpF f k s o a bad).1.length]),R0 (.tree LCd) (lpF f k s o a bad).1])
 | 0,o,a,bad,_,_,hk,_,_=>by omega
 | k+1,o,a,bad,ha,hl,hk,hk2,ho=>by
  have hr:=ML n f h q s a bad o.length o
  dsimp only [shr] at hr
  rw [lpF]
  cases bad with
  | true=>
   rw [Bool.not_true,A1] at hr
   exact stp hr
  | false=>
   have hM:=mxI
   have hl:s.length-a+2<=n:=by
    rcases hl with hl | hl
    ·cases hl
    ·exact hl
   have hk2:s.length-a+2<=k+1:=by
    rcases hk2 with hl | hl
    ·cases hl
    ·exact hl
   have h1:=hf s a false ha
   rw [ntN,Bool.not_false,A4,Aa (dcT ⟨by omega,ha,hs,by omega,.inr (by omega)⟩),T2 (by omega)] at hr
   rw [cond_false]
   dsimp only
   generalize f s a false=y at *
   rw [ntN,Aa (dcT ⟨by omega,h1.2,hs,by omega,by omega⟩),Mf] at hr
   have h2:=BC (b:=125) (by decide) y.2.2 h1.2
   have e125:UInt8.ofNat (125:Nat)=125:=rfl
   rw [e125,drop_zero,take_length] at hr
   have ey:Rose.node (y.1.lab.1,y.1.lab.2.1,y.1.lab.2.2.1,y.1.lab.2.2.2.1,y.1.lab.2.2.2.2.1,()) (take y.1.kids.length (drop 0 y.1.kids))=y.1:=by
    rw [drop_zero,take_length]
    obtain ⟨⟨⟨x0,x1,x2,x3,x4,⟨⟩⟩,ks⟩,y1,y2⟩:=y
    rfl
   have el:(o++[y.1]).length=o.length+1:=by simp
   cases q1 : !y.2.2&&(nxt s (skp s y.2.1)==125) with
   | true=>
    rw [q1,A4] at hr
    rw [cond_true]
    refine .stop _ _ _ (hr.trans ?_) (by simp)
    dsimp only
    rw [el]
    simp only [drop_zero,take_length] at ey ⊢
    rw [ey]
    try rfl
   | false=>
    rw [q1,A1,ntN,Aa (dcT ⟨by omega,h2.2.1,hs,by decide⟩)] at hr
    rw [cond_false]
    have h3:=BC (b:=44) (by decide) y.2.2 h2.2.1
    have ih:=JO n f hf h q hs k (o++[y.1]) (mrA 44 s (mrA 125 s y.2.1 y.2.2) y.2.2) (mrB 44 s (mrA 125 s y.2.1 y.2.2) y.2.2) h3.2.1 (by
     cases q2:mrB 44 s (mrA 125 s y.2.1 y.2.2) y.2.2 with
     | true=>exact .inl rfl
     | false=>have:=h3.2.2 q2; exact .inr (by omega)) (by omega) (by
     cases q2:mrB 44 s (mrA 125 s y.2.1 y.2.2) y.2.2 with
     | true=>exact .inl rfl
     | false=>have:=h3.2.2 q2; exact .inr (by omega)) (by omega)
    rw [el] at ih
    simp only [drop_zero,take_length] at ey hr
    rw [ey] at hr
    exact sts hr ih
theorem PE (n:Nat) (f:By->Nat->Bool->Rose Lab×Nat×Bool) (hf0:BdF f) (h:RL->RL) (hh : ∀ l,(h l).length=l.length) (hf:Ad prog 37 (Ent.own (MK n f)).F) (byq:Ad prog 38 (Ent.own (MY h)).F):Ad prog 17 (Ent.own (JP (n+1) (msF h f))).F:=by
 refine fcC (kc func36 ris (kc func16 Pd (kc func37 hf (kc func38 byq KnowsL.nil)))).knows (Λ:=(Ab [(4,KU n (fun x=>lpF f 1000 x.1 x.2.1 x.2.2.1 x.2.2.2))])) func17 fun vs bs r hq=>?_
 unfold Ent.F JP at hq
 dsimp only at hq
 split at hq
 ·rename_i s a bad
  obtain ⟨hc,hx⟩:=Ae hq
  refine ⟨Az (a:=body f17 0) (by kernel_rfl) fun d ex d' hd=>?_,(O3 n f h (fun x=>lpF f 1000 x.1 x.2.1 x.2.2.1 x.2.2.2) s a bad).trans (Eq.trans ?_ hx)⟩
  ·unfold KU at hd
   dsimp only at hd
   split at hd
   ·rename_i s a bad m o
    obtain ⟨hc,hx⟩:=Ae hd
    obtain ⟨h0,h1,h2,h4,rfl,h5⟩:=of_decide_eq_true hc
    obtain ⟨a,rfl⟩:=eq_ofNat_of_zero_le h0
    simp only [ntN] at h1 h4 hx
    obtain ⟨rfl,rfl⟩:=Prod.mk.inj (AD hx)
    exact JO n f hf0 h _ h2 1000 o a bad h1 h4 (by omega) (.inr (by omega)) (by omega)
   ·cases hd
  ·dsimp only [shr]
   obtain ⟨h0,h1,h2,h3,h4⟩:=of_decide_eq_true hc
   obtain ⟨a,rfl⟩:=eq_ofNat_of_zero_le h0
   rw [ntN] at h1 h4
   repeat rw [ntN]
   have e125:UInt8.ofNat (125:Nat)=125:=rfl
   have g1:=BC (b:=125) (by decide) bad h1
   rw [Aa (dcT ⟨by omega,h1,h2,by omega,by omega⟩),Mf,e125]
   unfold msF
   cases q1 : !bad&&(nxt s (skp s a)==125) with
   | true=>rw [A4]; rfl
   | false=>
    have g2:=KL hf0 1000 s [] (mrA 125 s a bad) bad g1.2.1
    rw [A1]
    repeat rw [ntN]
    have hlv:bad=true\/s.length-mrA 125 s a bad+2<=n:=by
     rcases h4 with h4 | h4
     ·exact .inl h4
     ·exact .inr (by omega)
    rw [Aa (dcT ⟨by omega,g1.2.1,h2,hlv,by trivial,by omega⟩)]
    rw [Di]
    rw [Aa (dcT ⟨by trivial,by rw [List.length_nil] at g2; omega⟩),cond_false]
    show some _=some _
    rw [<-hh (lpF f 1000 s [] (mrA 125 s a bad) bad).1]
    rfl
 ·cases hq

theorem Cm {b:Int}:bdI b=false↔b<0:=by unfold bdI; by_cases h:b<0<;>simp [h]
theorem DY {b:Int}:bdI b=true↔0<=b:=by unfold bdI; by_cases h:b<0<;>simp [h]<;>omega
theorem qfl:Ad prog 11 (Ent.own qfG).F:=by
 refine fcC KnowsL.nil.knows (Λ:=(Ab [])) func11 fun vs bs r hq=>?_
 unfold Ent.F qfG at hq
 dsimp only at hq
 split at hq
 ·rename_i s a b
  obtain ⟨hc,hx⟩:=Ae hq
  refine ⟨Ar _,(NJ s a b).trans (Eq.trans ?_ hx)⟩
  obtain ⟨h0,h1,h2,h3,h4⟩:=of_decide_eq_true hc
  obtain ⟨a,rfl⟩:=eq_ofNat_of_zero_le h0
  rw [ntN] at h1
  repeat rw [ntN]
  unfold flB
  by_cases q:b<0
  ·rw [Ag (dcT q),if_pos q]; rfl
  ·rw [Af (dcF q),if_neg q]; rfl
 ·cases hq
theorem qnx:Ad prog 23 (Ent.rd1 qnG).F:=by
 refine fcC KnowsL.nil.knows (Λ:=(Ab [])) func23 fun vs bs r hq=>?_
 unfold Ent.F qnG at hq
 dsimp only at hq
 split at hq
 ·rename_i s a b
  obtain ⟨hc,hx⟩:=Ae hq
  refine ⟨Ar _,(NF s a b).trans (Eq.trans ?_ hx)⟩
  obtain ⟨h0,h1,h2,h3,h4⟩:=of_decide_eq_true hc
  obtain ⟨a,rfl⟩:=eq_ofNat_of_zero_le h0
  rw [ntN] at h1
  repeat rw [ntN]
  by_cases q:b<0
  ·rw [Ag (dcT q),Cm.2 q,cond_false]
   by_cases q2:a<s.length
   ·rw [Ag (dcT (by omega)),Aa (dcT (by omega)),gtE q2,Aq,Ej q2]; rfl
   ·rw [Af (dcF (by omega)),DE (by omega)]; rfl
  ·rw [Af (dcF q),DY.2 (by omega)]; rfl
 ·cases hq
theorem LE (s:By) (a:Nat) (bad:Bool):((bif bad then (0:Int) else (((nxt s a).toNat:Nat):Int))==32)=(!bad&&(nxt s a==32)):=by
 cases bad with
 | true=>rfl
 | false=>exact u8n (nxt s a) (k:=32) (by decide)
theorem LF (s:By) (a:Nat) (bad:Bool):((bif bad then (0:Int) else (((nxt s a).toNat:Nat):Int))==10)=(!bad&&(nxt s a==10)):=by
 cases bad with
 | true=>rfl
 | false=>exact u8n (nxt s a) (k:=10) (by decide)
theorem NL {s:By} (hs:s.length<=400) {b:Int} (hb:b<0) (hb1 : -1<=b) : ∀ (j i:Nat),i+j=s.length->Runs prog (Ab [(23,.rd1 qnG)]) (Ab [(0,qbE)]) 1 (body f26 0) qbE ([.ptr 0 0],[some (.box [.s s,.j ((i:Nat)),.j (b)])]) (.exit 0) ([],[some (.box [.s s,.j ((skp s i:Nat)),.j (b)])]):=fun j=>by
 induction j with
 | zero=>
  intro i hi
  have hr:=FG s i b
  rw [ntN,LE,LF,Cm.2 hb,DE (by omega),Aa (dcT ⟨by omega,by omega,hs,hb1,by omega⟩),Af (by rfl),Aa (dcT ⟨by omega,by omega,hs,hb1,by omega⟩),Af (by rfl)] at hr
  rw [Cp (by rw [DE (by omega)]; rfl)]
  exact stp hr
 | succ j ih=>
  intro i hi
  have hr:=FG s i b
  have W1:i64.wrap ((i:Int)+1)=((i+1:Nat):Int):=by rw [Ax (by omega) (by omega)]; omega
  rw [ntN,LE,LF,Cm.2 hb,W1,Bool.not_false,Bool.true_and,Bool.true_and,Aa (dcT ⟨by omega,by omega,hs,hb1,by omega⟩),Aa (dcT ⟨by omega,by omega,hs,hb1,by omega⟩)] at hr
  have hbb:BZ (nxt s i)=(nxt s i==32||nxt s i==10):=rfl
  have ih:=ih (i+1) (by omega)
  cases q1:nxt s i==32 with
  | true=>
   rw [q1,A4] at hr
   rw [q1,Bool.true_or] at hbb
   rw [(Co hbb).2]
   exact sts hr ih
  | false=>
   rw [q1,A1] at hr
   rw [q1,Bool.false_or] at hbb
   cases q2:nxt s i==10 with
   | true=>
    rw [q2,A4] at hr
    rw [q2] at hbb
    rw [(Co hbb).2]
    exact sts hr ih
   | false=>
    rw [q2,A1] at hr
    rw [q2] at hbb
    rw [Cp hbb]
    exact stp hr
theorem Q0:A6 prog (Ab [(23,.rd1 qnG)]) (Ab [(0,qbE)]) 1 (f26.body.getD .skip):=by
 refine Az (a:=body f26 0) (by kernel_rfl) fun d ex d' h=>?_
 unfold qbE at h
 dsimp only at h
 split at h
 ·rename_i s a b
  obtain ⟨hc,hx⟩:=Ae h
  obtain ⟨h0,h1,h2,h3,h4⟩:=of_decide_eq_true hc
  obtain ⟨a,rfl⟩:=eq_ofNat_of_zero_le h0
  simp only [ntN] at h1 hx
  obtain ⟨rfl,rfl⟩:=Prod.mk.inj (AD hx)
  by_cases q:b<0
  ·rw [Cm.2 q]
   exact NL h2 q h3 (s.length-a) a (by omega)
  ·have hr:=FG s a b
   have hbd:bdI b=true:=DY.2 (by omega)
   rw [ntN,LE,LF,hbd,Aa (dcT ⟨by omega,h1,h2,h3,h4⟩),Af (by rfl),Aa (dcT ⟨by omega,h1,h2,h3,h4⟩),Af (by rfl)] at hr
   rw [hbd]
   exact stp hr
 ·cases h
theorem qbl:Ad prog 26 (Ent.own qbG).F:=by
 refine fcC (kc func23 qnx KnowsL.nil).knows (Λ:=(Ab [(0,qbE)])) func26 fun vs bs r hq=>?_
 unfold Ent.F qbG at hq
 dsimp only at hq
 split at hq
 ·rename_i s a b
  obtain ⟨hc,hx⟩:=Ae hq
  exact ⟨Q0,(NK s a b).trans ((Aa hc).trans hx)⟩
 ·cases hq
theorem qmk:Ad prog 22 (Ent.own qmG).F:=by
 refine fcC (kc func26 qbl (kc func23 qnx (kc func11 qfl KnowsL.nil))).knows (Λ:=(Ab [])) func22 fun vs bs r hq=>?_
 unfold Ent.F qmG at hq
 dsimp only at hq
 split at hq
 ·rename_i m s a b
  obtain ⟨hc,hx⟩:=Ae hq
  refine ⟨Ar _,(NI s a b m).trans (Eq.trans ?_ hx)⟩
  dsimp only [shr]
  obtain ⟨⟨h0,h1,h2,h3,h4⟩,m1,m2⟩:(0<=a/\a.toNat<=s.length/\s.length<=400/\-1<=b/\b<=1000)/\0<m/\m<256:=by have:=of_decide_eq_true hc; omega
  obtain ⟨m,rfl⟩:=eq_ofNat_of_zero_le (Int.le_of_lt m1)
  obtain ⟨a,rfl⟩:=eq_ofNat_of_zero_le h0
  rw [ntN] at h1
  repeat rw [ntN]
  obtain ⟨p1,p2⟩:=BG (bdI b) h1
  rw [Aa (dcT ⟨by omega,h1,h2,h3,h4⟩)]
  have hm:(UInt8.ofNat m).toNat=m:=by simp; omega
  have hq : ∀ p,((bif bdI b then (0:Int) else (((nxt s p).toNat:Nat):Int)) != ((m:Nat):Int)) = !(!bdI b&&(nxt s p==UInt8.ofNat m)):=fun p=>by
   cases bdI b with
   | true=>show ((0:Int) != ((m:Nat):Int))=true; exact bne_iff_ne.2 (by omega)
   | false=>show (!((((nxt s p).toNat:Nat):Int)==((m:Nat):Int)))=_; rw [u8n _ (by omega)]; rfl
  unfold mrQ
  rw [hq]
  by_cases q:b<0
  ·have hbd:=Cm.2 q
   rw [hbd] at p1 p2 ⊢
   have eb:blA s a false=skp s a:=rfl
   rw [eb] at p1 p2 ⊢
   rw [Aa (dcT ⟨by omega,p2,h2,h3,h4⟩),Bool.not_false,Bool.true_and]
   by_cases q2:nxt s (skp s a)=UInt8.ofNat m
   ·have hlt:=AU (s:=s) (a:=skp s a) (by rw [q2]; intro e; have:=congrArg UInt8.toNat e; rw [hm] at this; have z0:(0:UInt8).toNat=0:=rfl; omega)
    have W1:i64.wrap (((skp s a:Nat):Int)+1)=((skp s a+1:Nat):Int):=by rw [Ax (by omega) (by omega)]; omega
    have e1:mrA (UInt8.ofNat m) s a false=skp s (skp s a+1):=by unfold mrA; rw [q2,beq_self_eq_true]; rfl
    have e2:mrB (UInt8.ofNat m) s a false=false:=by unfold mrB; rw [q2,beq_self_eq_true]; rfl
    rw [q2,beq_self_eq_true,Bool.not_true,A1,Af (dcF (by omega)),W1]
    repeat rw [ntN]
    rw [Aa (dcT ⟨by omega,by omega,h2,h3,h4⟩),e1,e2]; rfl
   ·have e1:mrA (UInt8.ofNat m) s a false=skp s a:=by unfold mrA; rw [beq_eq_false_iff_ne.2 q2]; rfl
    have e2:mrB (UInt8.ofNat m) s a false=true:=by unfold mrB; rw [beq_eq_false_iff_ne.2 q2]; rfl
    rw [beq_eq_false_iff_ne.2 q2,Bool.not_false,A4,Aa (dcT ⟨by omega,p2,h2,h3,h4⟩),e1,e2]; rfl
  ·have hbd:bdI b=true:=DY.2 (by omega)
   rw [hbd] at p1 p2 ⊢
   have eb:blA s a true=a:=rfl
   rw [eb]
   rw [Aa (dcT ⟨by omega,h1,h2,h3,h4⟩),Bool.not_true,Bool.false_and,Bool.not_false,A4,Aa (dcT ⟨by omega,h1,h2,h3,h4⟩)]
   rfl
 ·cases hq

abbrev Ng:FuncId->Option Ent:=Ab [(26,.own qbG),(23,.rd1 qnG),(11,.own qfG)]
theorem NB {s:By} (h2:s.length<=400) {b:Int} (hb:b<0) (h3 : -1<=b) (f:Nat) : ∀ (j i:Nat),f<=i->i+j=f+10->i<=s.length->Runs prog Ng (Ab [(3,qwE)]) 1 (body f24 0) qwE ([.ptr 0 0,.j 10,.j ((f:Nat):Int)],[some (.box [.s s,.j (((i:Nat):Int)),.j (b)])]) (.exit 0) ([.ptr 0 0,.j ((f:Nat):Int)],[some (.box [.s s,.j (((i+min (AZ s i) j:Nat):Int)),.j (b)])]):=fun j=>by
 have h4:b<=1000:=by omega
 induction j with
 | zero=>
  intro i hf hi hl
  have hr:=FF s i b 10 f
  have W1:i64.wrap ((i:Int)-(f:Int))=(i:Int)-(f:Int):=Ax (by omega) (by omega)
  rw [ntN,W1,Cm.2 hb,Aa (dcT ⟨by omega,hl,h2,h3,h4⟩)] at hr
  rw [Nat.min_zero,add_zero]
  refine .stop _ _ _ (hr.trans ?_) (by simp)
  rw [Aa (dcT ⟨by omega,hl,h2,h3,h4⟩),Af (c:=decide ((i:Int)-(f:Int)<10)) (dcF (by omega))]
  cases decide ((bif false then (0:Int) else ((nxt s i).toNat:Int))>=97)<;>cases decide ((bif false then (0:Int) else ((nxt s i).toNat:Int))<=122)<;>rfl
 | succ j ih=>
  intro i hf hi hl
  have hr:=FF s i b 10 f
  have W1:i64.wrap ((i:Int)-(f:Int))=(i:Int)-(f:Int):=Ax (by omega) (by omega)
  have W2:i64.wrap ((i:Int)+1)=((i+1:Nat):Int):=by rw [Ax (by omega) (by omega)]; omega
  rw [ntN,W1,W2,Cm.2 hb,Aa (dcT ⟨by omega,hl,h2,h3,h4⟩),Aa (dcT ⟨by omega,hl,h2,h3,h4⟩),Ag (c:=decide ((i:Int)-(f:Int)<10)) (dcT (by omega))] at hr
  have hlo:=IQ (nxt s i) false
  rw [Bool.not_false,Bool.true_and] at hlo
  cases q:Be (nxt s i) with
  | true=>
   obtain ⟨l1,l2⟩:=El q
   rw [q] at hlo
   rw [anE] at hlo
   rw [Ag hlo.1,Ag hlo.2] at hr
   have h:=ih (i+1) (by omega) (by omega) (by omega)
   rw [l2,show i+min (AZ s (i+1)+1) (j+1)=i+1+min (AZ s (i+1)) j by omega]
   exact sts hr h
  | false=>
   rw [FQ q,Nat.zero_min,add_zero]
   rw [q] at hlo
   refine .stop _ _ _ (hr.trans ?_) (by simp)
   cases h1:decide ((bif false then (0:Int) else ((nxt s i).toNat:Int))>=97)<;>cases h2:decide ((bif false then (0:Int) else ((nxt s i).toNat:Int))<=122)
   ·rfl
   ·rfl
   ·rfl
   ·rw [h1,h2] at hlo; cases hlo
theorem Qv:A6 prog Ng (Ab [(3,qwE)]) 1 (f24.body.getD .skip):=by
 refine Az (a:=body f24 0) (by kernel_rfl) fun d ex d' h=>?_
 unfold qwE at h
 dsimp only at h
 split at h
 ·rename_i x f s a b
  obtain ⟨hc,hx⟩:=Ae h
  obtain ⟨⟨h0,h1,h2,h3,h4⟩,h5,h6,h7,rfl⟩:(0<=a/\a.toNat<=s.length/\s.length<=400/\-1<=b/\b<=1000)/\0<=f/\f<=a/\a<=f+10/\x=10:=by have:=of_decide_eq_true hc; omega
  obtain ⟨a,rfl⟩:=eq_ofNat_of_zero_le h0
  obtain ⟨f,rfl⟩:=eq_ofNat_of_zero_le h5
  simp only [ntN] at h1 hx
  obtain ⟨rfl,rfl⟩:=Prod.mk.inj (AD hx)
  by_cases q:b<0
  ·have:=NB h2 q h3 f (10-(a-f)) a (by omega) (by omega) h1
   rw [Cm.2 q]
   exact this
  ·have hbd:bdI b=true:=DY.2 (by omega)
   have hr:=FF s a b 10 f
   rw [ntN,hbd,Aa (dcT ⟨by omega,h1,h2,h3,h4⟩),Af (by rfl)] at hr
   rw [hbd]
   exact stp hr
 ·cases h
theorem qwd:Ad prog 24 (Ent.own qwG).F:=by
 refine fcC (kc func26 qbl (kc func23 qnx (kc func11 qfl KnowsL.nil))).knows (Λ:=(Ab [(3,qwE)])) func24 fun vs bs r hq=>?_
 unfold Ent.F qwG at hq
 dsimp only at hq
 split at hq
 ·rename_i x s a b
  obtain ⟨hc,hx⟩:=Ae hq
  refine ⟨Qv,(NA s a b x).trans (Eq.trans ?_ hx)⟩
  dsimp only [shr]
  obtain ⟨⟨h0,h1,h2,h3,h4⟩,rfl⟩:(0<=a/\a.toNat<=s.length/\s.length<=400/\-1<=b/\b<=1000)/\x=10:=by have:=of_decide_eq_true hc; omega
  obtain ⟨a,rfl⟩:=eq_ofNat_of_zero_le h0
  rw [ntN] at h1
  repeat rw [ntN]
  rw [Aa (dcT ⟨by omega,h1,h2,h3,h4⟩)]
  unfold wqF
  obtain ⟨p1,p2⟩:=BG (bdI b) h1
  generalize blA s a (bdI b)=p at *
  repeat rw [ntN]
  rw [Aa (dcT ⟨by omega,p2,h2,h3,h4,by omega,by omega,by omega,by trivial⟩)]
  have eq:qwA s p p (bdI b)=nmA s p (bdI b):=by unfold qwA nmA nmK; rw [Nat.sub_self]
  have e0:nmA s p (bdI b)=bif bdI b then p else p+nmK s p:=rfl
  have ev:nmV s p (bdI b)=(s.drop p).take (nmA s p (bdI b)-p):=by
   unfold nmV nmA
   cases bdI b with
   | true=>simp
   | false=>simp
  have e1:(((nmA s p (bdI b):Nat):Int)==((p:Nat):Int))=(bdI b||(nmK s p==0)):=by
   rw [e0]
   cases bdI b with
   | true=>simp
   | false=>
    show (((p+nmK s p:Nat):Int)==(p:Int))=(nmK s p==0)
    rw [Bool.eq_iff_iff,beq_iff_eq,beq_iff_eq]; omega
  obtain ⟨q1,q2⟩:=I1 (bdI b) p2
  rw [eq,e1,ev]
  have hlo:=IQ (nxt s (nmA s p (bdI b))) (bdI b)
  generalize nmA s p (bdI b)=q at *
  repeat rw [ntN]
  have hFI:decide (0<=((q:Nat):Int)/\q<=s.length/\s.length<=400/\-1<=b/\b<=1000)=true:=dcT ⟨by omega,q2,h2,h3,h4⟩
  have hbo:(decide (0<=((p:Nat):Int))&&decide (((p:Nat):Int)<=((q:Nat):Int))&&decide (((q:Nat):Int)<=(s.length:Int)))=true:=by simp only [anE,dcE]; omega
  rw [hFI,hbo]
  simp only [HU]
  cases g1:(bdI b||(nmK s p==0)) with
  | true=>rw [A4]; rfl
  | false=>
   have hbd:bdI b=false:=by cases h:bdI b with | false=>rfl | true=>rw [h] at g1; cases g1
   rw [hbd,Bool.not_false,Bool.true_and] at hlo
   rw [A1,hbd,Bool.false_or]
   cases g2:Be (nxt s q) with
   | true=>
    rw [g2,anE] at hlo
    rw [Ag hlo.1,Ag hlo.2]; rfl
   | false=>
    rw [g2] at hlo
    cases h1:decide ((bif false then (0:Int) else ((nxt s q).toNat:Int))>=97)<;>cases h2:decide ((bif false then (0:Int) else ((nxt s q).toNat:Int))<=122)
    ·rfl
    ·rfl
    ·rfl
    ·rw [h1,h2] at hlo; cases hlo
 ·cases hq
theorem ON (b:UInt8) (b4:Bool):(decide ((bif b4 then (0:Int) else ((b.toNat:Nat):Int))>=48)&&decide ((bif b4 then (0:Int) else ((b.toNat:Nat):Int))<=57))=(!b4&&An b):=by
 cases b4 with
 | true=>rfl
 | false=>rw [F5]; rfl
theorem K6 {s:By} (h2:s.length<=400) {b:Int} (h3 : -1<=b) (h4:b<=1000) (f i:Nat) (v:Int) (hl:i<=s.length) (hf:f<=i/\i<=f+2) (hv:0<=v/\v<=99):AG prog Ng (Ab [(4,quE)]) 1 (body f25 0) quE ([.ptr 0 0,.j ((f:Nat):Int),.j v],[some (.box [.s s,.j (((i:Nat):Int)),.j (b)])]) =
  (bif (!bdI b&&An (nxt s i))&&(decide (i<f+2)&&(decide (i=f)||decide (0<v))) then some ((.normal:Ex),(([.ptr 0 0,.j ((f:Nat):Int),.j (10*v+(((nxt s i).toNat:Int)-48))],[some (.box [.s s,.j (((i+1:Nat):Int)),.j (b)])]):Dt)) else some (.exit 0,([.ptr 0 0,.j ((f:Nat):Int),.j v],[some (.box [.s s,.j (((i:Nat):Int)),.j (b)])]))):=by
 rw [M3]
 dsimp only [shr]
 have W1:i64.wrap ((i:Int)-(f:Int))=(i:Int)-(f:Int):=Ax (by omega) (by omega)
 have W2:i64.wrap ((i:Int)+1)=((i+1:Nat):Int):=by rw [Ax (by omega) (by omega)]; omega
 rw [ntN,W1,W2,Aa (dcT ⟨by omega,hl,h2,h3,h4⟩),Aa (dcT ⟨by omega,hl,h2,h3,h4⟩),Aa (dcT ⟨by omega,hl,h2,h3,h4⟩)]
 have hlo:=ON (nxt s i) (bdI b)
 cases q:(!bdI b&&An (nxt s i)) with
 | false=>
  rw [q] at hlo
  rw [Bool.false_and,cond_false]
  cases h1:decide ((bif bdI b then (0:Int) else ((nxt s i).toNat:Int))>=48)<;>cases h2:decide ((bif bdI b then (0:Int) else ((nxt s i).toNat:Int))<=57)
  ·rfl
  ·rfl
  ·rfl
  ·rw [h1,h2] at hlo; cases hlo
 | true=>
  rw [q,anE] at hlo
  rw [anE] at q
  have hbd:bdI b=false:=by cases h:bdI b with | false=>rfl | true=>rw [h] at q; cases q.1
  rw [Ag hlo.1,Ag hlo.2,Bool.true_and,hbd]
  have hd:=(F5 (nxt s i)).symm.trans q.2
  simp only [anE,dcE] at hd
  have w:IntKind.u8.wrap (((nxt s i).toNat:Int)-48)=((nxt s i).toNat:Int)-48:=by simp [IntKind.wrap,IntKind.bits,IntKind.signed]; omega
  have u1:i64.wrap (i64.wrap (10*v)+i64.wrap (IntKind.u8.wrap ((bif false then (0:Int) else ((nxt s i).toNat:Int))-48)))=10*v+(((nxt s i).toNat:Int)-48):=by
   rw [cond_false,w,Ax (n:=10*v) (by omega) (by omega),Ax (n:=((nxt s i).toNat:Int)-48) (by omega) (by omega),Ax (by omega) (by omega)]
  rw [u1]
  by_cases c1:i<f+2
  ·rw [Ag (dcT (by omega)),dcT c1,Bool.true_and]
   by_cases c2:i=f
   ·rw [Ag (beq_iff_eq.2 (by omega)),dcT c2]; rfl
   ·rw [Af (beq_eq_false_iff_ne.2 (by omega)),dcF c2,Bool.false_or]
    by_cases c3:0<v
    ·rw [Ag (dcT c3),dcT c3]; rfl
    ·rw [Af (dcF c3),dcF c3]; rfl
  ·rw [Af (dcF (by omega)),dcF c1]; rfl
theorem Qy:A6 prog Ng (Ab [(4,quE)]) 1 (f25.body.getD .skip):=by
 refine Az (a:=body f25 0) (by kernel_rfl) fun d ex d' h=>?_
 unfold quE at h
 dsimp only at h
 split at h
 ·rename_i f v s a b
  obtain ⟨hc,hx⟩:=Ae h
  obtain ⟨⟨h0,h1,h2,h3,h4⟩,h5,h6,h7,h8,h9,h10,h11⟩:(0<=a/\a.toNat<=s.length/\s.length<=400/\-1<=b/\b<=1000)/\0<=f/\f<=a/\a<=f+2/\(a=f->v=0)/\0<=v/\v<=99/\(a=f+1->v<=9):=by have:=of_decide_eq_true hc; omega
  obtain ⟨a,rfl⟩:=eq_ofNat_of_zero_le h0
  obtain ⟨f,rfl⟩:=eq_ofNat_of_zero_le h5
  simp only [ntN] at h1 hx
  obtain ⟨rfl,rfl⟩:=Prod.mk.inj (AD hx)
  clear h hc hx
  have dlt : ∀ i,An (nxt s i)=true->i<s.length/\0<=((nxt s i).toNat:Int)-48/\((nxt s i).toNat:Int)-48<=9:=fun i hd=>by
   refine ⟨AU (IM hd),?_⟩
   rw [F5,anE,dcE,dcE] at hd
   omega
  have two : ∀ (i:Nat) (w:Int),i=f+2->i<=s.length->0<=w->w<=99->Runs prog Ng (Ab [(4,quE)]) 1 (body f25 0) quE ([.ptr 0 0,.j ((f:Nat):Int),.j w],[some (.box [.s s,.j (((i:Nat):Int)),.j (b)])]) (.exit 0) ([.ptr 0 0,.j ((f:Nat):Int),.j w],[some (.box [.s s,.j (((i:Nat):Int)),.j (b)])]):=fun i w hi hl hw hw2=>by
   have hr:=K6 h2 h3 h4 f i w hl (by omega) ⟨hw,hw2⟩
   rw [show decide (i<f+2)=false from dcF (by omega),Bool.false_and,Bool.and_false,cond_false] at hr
   exact stp hr
  have one : ∀ (i:Nat) (w:Int),i=f+1->i<=s.length->0<=w->w<=9->Runs prog Ng (Ab [(4,quE)]) 1 (body f25 0) quE ([.ptr 0 0,.j ((f:Nat):Int),.j w],[some (.box [.s s,.j (((i:Nat):Int)),.j (b)])]) (.exit 0) ([.ptr 0 0,.j ((f:Nat):Int),.j (quV s i f w (bdI b))],[some (.box [.s s,.j ((((quA s i f w (bdI b)):Nat):Int)),.j (b)])]):=fun i w hi hl hw hw2=>by
   have hr:=K6 h2 h3 h4 f i w hl (by omega) ⟨hw,by omega⟩
   rw [show decide (i<f+2)=true from dcT (by omega),show decide (i=f)=false from dcF (by omega),Bool.true_and,Bool.false_or] at hr
   unfold quA quV
   rw [if_neg (show ¬i=f by omega),if_neg (show ¬i=f by omega)]
   cases q:(!bdI b&&An (nxt s i))&&decide (0<w) with
   | true=>
    rw [q,cond_true] at hr
    rw [anE,dcE] at q
    rw [if_pos ⟨hi,q.2,q.1⟩,if_pos ⟨hi,q.2,q.1⟩]
    have q1:=q.1
    rw [anE] at q1
    have:=dlt i q1.2
    exact sts hr (two (i+1) _ (by omega) (by omega) (by omega) (by omega))
   | false=>
    rw [q,cond_false] at hr
    have hn : ¬(i=f+1/\0<w/\(!bdI b&&An (nxt s i))=true):=fun hh=>by
     rw [hh.2.2,dcT hh.2.1] at q; cases q
    rw [if_neg hn,if_neg hn]
    exact stp hr
  by_cases c0:a=f
  ·subst c0
   obtain rfl:=h8 rfl
   have hr:=K6 h2 h3 h4 a a 0 h1 (by omega) ⟨by omega,by omega⟩
   rw [show decide (a<a+2)=true from dcT (by omega),show decide (a=a)=true from dcT rfl,Bool.true_or,Bool.and_true,Bool.and_true] at hr
   cases q:(!bdI b&&An (nxt s a)) with
   | false=>
    rw [q,cond_false] at hr
    have e1:quA s a a 0 (bdI b)=a:=by
     unfold quA nbA
     rw [if_pos rfl]
     cases h:bdI b with
     | true=>rfl
     | false=>rw [h] at q; have q:An (nxt s a)=false:=q; rw [q]; rfl
    have e2:quV s a a 0 (bdI b)=0:=by
     unfold quV nbV
     rw [if_pos rfl]
     cases h:bdI b with
     | true=>rfl
     | false=>rw [h] at q; have q:An (nxt s a)=false:=q; rw [q]; rfl
    rw [e1,e2]
    exact stp hr
   | true=>
    rw [q,cond_true] at hr
    rw [anE] at q
    have hbd:bdI b=false:=by cases h:bdI b with | false=>rfl | true=>rw [h] at q; cases q.1
    have hd:=dlt a q.2
    have e48:nxt s a=48↔(nxt s a).toNat=48:=⟨fun h=>by rw [h]; rfl,fun h=>UInt8.toNat_inj.1 (by rw [h]; rfl)⟩
    have h1:=one (a+1) (10*0+(((nxt s a).toNat:Int)-48)) rfl (by omega) (by omega) (by omega)
    refine sts hr ?_
    rw [hbd] at h1 ⊢
    have e1:quA s a a 0 false=quA s (a+1) a (10*0+(((nxt s a).toNat:Int)-48)) false:=by
     unfold quA nbA AV
     rw [if_pos rfl,if_neg (show ¬a+1=a by omega),q.2]
     by_cases c:nxt s a≠48/\An (nxt s (a+1))=true
     ·rw [if_pos c,if_pos ⟨rfl,by have h9 : ¬(nxt s a).toNat=48:=fun h=>c.1 (e48.2 h); omega,by rw [c.2]; rfl⟩]; rfl
     ·rw [if_neg c,if_neg (fun hh=>c ⟨fun h=>by have:=e48.1 h; omega,by have:=hh.2.2; simpa using this⟩)]; rfl
    have e2:quV s a a 0 false=quV s (a+1) a (10*0+(((nxt s a).toNat:Int)-48)) false:=by
     unfold quV nbV DF
     rw [if_pos rfl,if_neg (show ¬a+1=a by omega),q.2]
     by_cases c:nxt s a≠48/\An (nxt s (a+1))=true
     ·have hd2:=dlt (a+1) c.2
      rw [if_pos c,if_pos ⟨rfl,by have h9 : ¬(nxt s a).toNat=48:=fun h=>c.1 (e48.2 h); omega,by rw [c.2]; rfl⟩]
      show ((10*((nxt s a).toNat-48)+((nxt s (a+1)).toNat-48):Nat):Int)=_
      omega
     ·rw [if_neg c,if_neg (fun hh=>c ⟨fun h=>by have:=e48.1 h; omega,by have:=hh.2.2; simpa using this⟩)]
      show (((nxt s a).toNat-48:Nat):Int)=_
      omega
    rw [e1,e2]
    exact h1
  ·by_cases c1:a=f+1
   ·exact one a v c1 h1 h9 (h11 (by omega))
   ·have e1:quA s a f v (bdI b)=a:=by unfold quA; rw [if_neg c0,if_neg (fun hh=>c1 hh.1)]
    have e2:quV s a f v (bdI b)=v:=by unfold quV; rw [if_neg c0,if_neg (fun hh=>c1 hh.1)]
    rw [e1,e2]
    exact two a v (by omega) h1 h9 h10
 ·cases h
theorem qnb:Ad prog 25 (Ent.own quG).F:=by
 refine fcC (kc func26 qbl (kc func23 qnx (kc func11 qfl KnowsL.nil))).knows (Λ:=(Ab [(4,quE)])) func25 fun vs bs r hq=>?_
 unfold Ent.F quG at hq
 dsimp only at hq
 split at hq
 ·rename_i s a b
  obtain ⟨hc,hx⟩:=Ae hq
  refine ⟨Qy,(NG s a b).trans (Eq.trans ?_ hx)⟩
  dsimp only [shr]
  obtain ⟨h0,h1,h2,h3,h4⟩:=of_decide_eq_true hc
  obtain ⟨a,rfl⟩:=eq_ofNat_of_zero_le h0
  rw [ntN] at h1
  repeat rw [ntN]
  rw [Aa (dcT ⟨by omega,h1,h2,h3,h4⟩)]
  unfold nqF
  obtain ⟨p1,p2⟩:=BG (bdI b) h1
  generalize blA s a (bdI b)=p at *
  repeat rw [ntN]
  rw [Aa (dcT ⟨by omega,p2,h2,h3,h4,by omega,by omega,by omega,by intro _; trivial,by omega,by omega,by omega⟩)]
  have eA:quA s p p 0 (bdI b)=nbA s p (bdI b):=by unfold quA; rw [if_pos rfl]
  have eV:quV s p p 0 (bdI b)=(nbV s p (bdI b):Nat):=by unfold quV; rw [if_pos rfl]
  have e1:(((nbA s p (bdI b):Nat):Int)==((p:Nat):Int))=(bdI b||!An (nxt s p)):=by
   unfold nbA
   cases q:bdI b||!An (nxt s p) with
   | true=>simp
   | false=>
    rw [Bool.or_eq_false_iff] at q
    have:=Iz (s:=s) (a:=p) (by cases h:An (nxt s p) with | true=>rfl | false=>rw [h] at q; cases q.2)
    rw [cond_false]
    exact beq_eq_false_iff_ne.2 (by omega)
  obtain ⟨q1,q2⟩:=FL (bdI b) p2
  rw [eA,eV,e1]
  have hlo:=ON (nxt s (nbA s p (bdI b))) (bdI b)
  generalize nbA s p (bdI b)=q at *
  repeat rw [ntN]
  have hFI:decide (0<=((q:Nat):Int)/\q<=s.length/\s.length<=400/\-1<=b/\b<=1000)=true:=dcT ⟨by omega,q2,h2,h3,h4⟩
  rw [hFI]
  simp only [HU]
  cases g1:(bdI b||!An (nxt s p)) with
  | true=>rw [A4]; rfl
  | false=>
   have hbd:bdI b=false:=by cases h:bdI b with | false=>rfl | true=>rw [h] at g1; cases g1
   rw [hbd,Bool.not_false,Bool.true_and] at hlo
   rw [A1,hbd,Bool.false_or]
   cases g2:An (nxt s q) with
   | true=>
    rw [g2,anE] at hlo
    rw [Ag hlo.1,Ag hlo.2]; rfl
   | false=>
    rw [g2] at hlo
    cases h1:decide ((bif false then (0:Int) else ((nxt s q).toNat:Int))>=48)<;>cases h2:decide ((bif false then (0:Int) else ((nxt s q).toNat:Int))<=57)
    ·rfl
    ·rfl
    ·rfl
    ·rw [h1,h2] at hlo; cases hlo
 ·cases hq
def kqN (s:By) (a:Nat) (i:Int):Nat:=if i<=0/\AQ CS s a=true then 1 else if i<=1/\AQ BH s a=true then 2 else if i<=2/\AQ AA s a=true then 3 else 0
def kqL (s:By) (a:Nat) (i:Int):Nat:=if i<=0/\AQ CS s a=true then 3 else if i<=1/\AQ BH s a=true then 4 else if i<=2/\AQ AA s a=true then 4 else 0
def kqM (s:By) (a:Nat) (i:Int):Nat:=max (if i<=0 then B6 CS s a else 0) (max (if i<=1 then B6 BH s a else 0) (if i<=2 then B6 AA s a else 0))
def kdF (s:By) (a:Nat):Nat×Nat×Bool:=if kqN s a 0=0 then (0,a+kqM s a 0,true) else (kqN s a 0,a+kqL s a 0,false)
def kdG:Gm
 | [.ptr 0 0],[(.box [.s s,.j (a),.j (b)])]=>.need (decide (0<=a/\a.toNat<=s.length/\s.length<=400/\-1<=b/\b<=1000/\b<0)) (.leaf (.j ((kdF s a.toNat).1:Nat),[some (.box [.s s,.j (((kdF s a.toNat).2.1:Nat)),.j (bif (kdF s a.toNat).2.2 then (((kdF s a.toNat).2.1:Nat):Int) else b)])]))
 | _,_=>.no
def k1E:LoopEnt:=⟨126,[0,9,10,11],[0],[2],fun
 | ([.ptr 0 0,.ref 1 0 3,.j 3,.j i],[some (.box [.s s,.j (a),.j (b)]),R0 .str l])=>.need (decide (0<=a/\a.toNat<=s.length/\s.length<=400/\-1<=b/\b<=1000/\b<0/\0<=i/\i<=3/\l=([[110,117,109],[116,101,120,116],[101,110,117,109]]:List (By))))
  (.br (kqN s a.toNat i==0) (.leaf (.exit 0,([.ptr 0 0],[some (.box [.s s,.j (a),.j (b)])]))) (.leaf (.ret,([.j (kqN s a.toNat i:Nat)],[some (.box [.s s,.j (((a.toNat+kqL s a.toNat i:Nat):Int)),.j (b)])]))))
 | _=>.no⟩
def k2E:LoopEnt:=⟨126,[0,5,68,69,70],[0,5],[],fun
 | ([.ptr 0 0,.j m,.ref 1 0 3,.j 3,.j i],[some (.box [.s s,.j (a),.j (b)]),R0 .str l])=>.need (decide (0<=a/\a.toNat<=s.length/\s.length<=400/\-1<=b/\b<=1000/\0<=i/\i<=3/\0<=m/\l=([[110,117,109],[116,101,120,116],[101,110,117,109]]:List (By))))
  (.leaf (.exit 2,([.ptr 0 0,.j (max m.toNat (kqM s a.toNat i):Nat)],[some (.box [.s s,.j (a),.j (b)])])))
 | _=>.no⟩
def k3E:LoopEnt:=⟨126,[0,5,7,8,68,69,70],[0,5,8,68,69,70],[],fun
 | ([.ptr 0 0,.j m,.s w,.j k,.ref 1 0 3,.j 3,.j i],[some (.box [.s s,.j (a),.j (b)]),R0 .str l])=>.need (decide (0<=a/\a.toNat<=s.length/\s.length<=400/\-1<=b/\b<=1000/\0<=k/\k<=w.length/\w.length<=4/\w.all (fun b=>b != 0)=true))
  (.leaf (.exit 4,([.ptr 0 0,.j m,.j ((k.toNat+B6 (w.drop k.toNat) s (a.toNat+k.toNat):Nat):Int),.ref 1 0 3,.j 3,.j i],[some (.box [.s s,.j (a),.j (b)]),R0 .str l])))
 | _=>.no⟩
theorem JV (s:By) (a b:Int) (i:Int) (l:List (By)):AG prog (Ab [(11,.own qfG)]) (Ab [(2,k1E),(10,k2E),(13,k3E)]) 1 (body f46 0) k1E ([.ptr 0 0,.ref 1 0 3,.j 3,.j i],[some (.box [.s s,.j (a),.j (b)]),R0 .str l]) =
 ((ifB (decide (i<3)) (ifT (decide (0<=i)&&decide (i<(↑(3:Nat):Int))) (Ap l[0+i.toNat]? fun z=>ifB (decide (b<0)) (ifB (decide (i64.wrap
 (a+(↑(List.length z):Int))<=(↑s.length:Int))) (ifT (decide (0<=a)&&decide (a<=i64.wrap (a+(↑(List.length z):Int)))&&decide (i64.wrap (a +
 (↑(List.length z):Int))<=(↑s.length:Int))) (ifB (take ((i64.wrap (a+(↑(List.length z):Int))).toNat-a.toNat) (drop a.toNat s)==z) (some
 (Ex.ret,[V.j (i64.wrap (1+i))],[some (Blk.box [V.s s,V.j (i64.wrap (a+(↑(List.length z):Int))),V.j b])])) (some (Ex.normal,
 [V.ptr 0 0,V.ref 1 0 3,V.j 3,V.j (i64.wrap (i+1))],[some (Blk.box [V.s s,V.j a,V.j b]),R0 Cd.str l])))) (some
 (Ex.normal,[V.ptr 0 0,V.ref 1 0 3,V.j 3,V.j (i64.wrap (i+1))],[some (Blk.box [V.s s,V.j a,V.j b]),R0 Cd.str
 l]))) (some (Ex.normal,[V.ptr 0 0,V.ref 1 0 3,V.j 3,V.j (i64.wrap (i+1))],[some (Blk.box [V.s s,V.j a,V.j b]),R0 Cd.str l])))) (some (Ex.exit 0,[V.ptr 0 0],[some (Blk.box [V.s s,V.j a,V.j b])]))):_):=by kernel_rfl
theorem JU (s:By) (a b:Int) (m i:Int) (l:List (By)):AG prog (Ab [(11,.own qfG)]) (Ab [(2,k1E),(10,k2E),(13,k3E)]) 1 (body f46 1) k2E ([.ptr 0 0,.j m,.ref 1 0 3,.j 3,.j i],[some (.box [.s s,.j (a),.j (b)]),R0 .str l]) =
 ((ifB (decide (i<3)) (ifT (decide (0<=i)&&decide (i<(↑(3:Nat):Int))) (Ap l[0+i.toNat]? fun z=>ifT (decide (0<=a/\a.toNat<=s.length/\s.length<=
 400/\(-1:Int)<=b/\b<=1000/\(0:Int)<=(0:Int)/\0<=(↑(List.length z):Int)/\List.length z<=4/\(List.all z fun b=>b != (0:UInt8)) =
 true)) (ifB (decide ((↑(0+B6 (drop 0 z) s (a.toNat+0)):Int)>m)) (some (Ex.normal,[V.ptr 0 0,V.j (↑(0+B6
 (drop 0 z) s (a.toNat+0)):Int),V.ref 1 0 3,V.j 3,V.j (i64.wrap (i+1))],[some (Blk.box [V.s s,V.j a,V.j b]),
 R0 Cd.str l])) (some (Ex.normal,[V.ptr 0 0,V.j m,V.ref 1 0 3,V.j 3,V.j (i64.wrap (i+1))],[some (Blk.box [V.s s,V.i
 .i64 a,V.j b]),R0 Cd.str l]))))) (some (Ex.exit 2,[V.ptr 0 0,V.j m],[some (Blk.box [V.s s,V.j a,V.j b])]))):_):=by kernel_rfl
theorem JT (s:By) (a b:Int) (m i:Int) (w:By) (k:Int) (l:List (By)):AG prog (Ab [(11,.own qfG)]) (Ab [(2,k1E),(10,k2E),(13,k3E)]) 1 (body f46 2) k3E ([.ptr 0 0,.j m,.s w,.j k,.ref 1 0 3,.j 3,.j i],[some (.box [.s s,.j (a),.j (b)]),R0 .str l]) =
 ((ifB (decide (k<(↑w.length:Int))) (ifB (decide (i64.wrap (a+k)<(↑s.length:Int))) (ifT (decide (0<=i64.wrap (a+k))) (Ap s[(i64.wrap
 (a+k)).toNat]? fun z=>ifT (decide (0<=k)) (Ap w[k.toNat]? fun z_1=>ifB ((↑z.toNat:Int)==(↑z_1.toNat:Int)) (some (Ex.normal,[V.ptr 0 0,V.j m,V.s
 w,V.j (i64.wrap (k+1)),V.ref 1 0 3,V.j 3,V.j i],[some (Blk.box [V.s s,V.j a,V.j b]),R0 Cd.str l])) (some
 (Ex.exit 4,[V.ptr 0 0,V.j m,V.j k,V.ref 1 0 3,V.j 3,V.j i],[some (Blk.box [V.s s,V.j a,V.j b]),R0 Cd.str
 l]))))) (some (Ex.exit 4,[V.ptr 0 0,V.j m,V.j k,V.ref 1 0 3,V.j 3,V.j i],[some (Blk.box [V.s s,V.j a,V.j b]),R0 Cd.str l]))) (some (Ex.exit 4,[V.ptr 0 0,V.j m,V.j k,V.ref 1 0 3,V.j 3,V.j i],[some (Blk.box [V.s s,V.j a,V.j b]),R0 Cd.str l]))):_):=by kernel_rfl
theorem PG (s:By) (a b:Int):BA prog (Ab [(11,.own qfG)]) (Ab [(2,k1E),(10,k2E),(13,k3E)]) f46 [.ptr 0 0] [(.box [.s s,.j (a),.j (b)])] =
 ((ifT (decide (0<=a/\a.toNat<=s.length/\s.length<=400/\(-1:Int)<=b/\b<=1000/\b<0/\(0:Int)<=(0:Int)/\(0:Int)<=(3:Int)/\[(110:UInt8),(117
 : UInt8),(109:UInt8)]::[(116:UInt8),(101:UInt8),(120:UInt8),(116:UInt8)]::[(101:UInt8),(110:UInt8),(117:UInt8),(109:UInt8)]::Al
 Cd.str.den=((110:UInt8)::(117:UInt8)::(109:UInt8)::Al UInt8)::((116:UInt8)::(101:UInt8)::(120:UInt8)::(116:UInt8)::Al UInt8)::((101
 : UInt8)::(110:UInt8)::(117:UInt8)::(109:UInt8)::Al UInt8)::Al (By))) (ifB (kqN s a.toNat (0:Int)==0) (ifT (decide (0<=a/\
 a.toNat<=s.length/\s.length<=400/\(-1:Int)<=b/\b<=1000/\(0:Int)<=(0:Int)/\(0:Int)<=(3:Int)/\(0:Int)<=(0:Int)/\[(110:UInt8),(117 :
 UInt8),(109:UInt8)]::[(116:UInt8),(101:UInt8),(120:UInt8),(116:UInt8)]::[(101:UInt8),(110:UInt8),(117:UInt8),(109:UInt8)]::Al Cd.str.den
 = ((110:UInt8)::(117:UInt8)::(109:UInt8)::Al UInt8)::((116:UInt8)::(101:UInt8)::(120:UInt8)::(116:UInt8)::Al UInt8)::((101:UInt8)::
 (110:UInt8)::(117:UInt8)::(109:UInt8)::Al UInt8)::Al (By))) (ifT (decide (0<=i64.wrap (a+(↑(max 0 (kqM s a.toNat (0:Int)))
 : Int))/\(i64.wrap (a+(↑(max 0 (kqM s a.toNat (0:Int))):Int))).toNat<=s.length/\s.length<=400/\(-1:Int)<=b/\b<=1000)) (some (V.i
 .i64 0,[some (Blk.box [V.s s,V.j (i64.wrap (a+(↑(max 0 (kqM s a.toNat (0:Int))):Int))),V.j (flB (i64.wrap (a+(↑(max 0
 (kqM s a.toNat (0:Int))):Int))).toNat b)])])))) (some (V.j (↑(kqN s a.toNat (0:Int)):Int),[some (Blk.box [V.s s,V.j (↑(a.toNat+kqL s a.toNat (0 :
 Int)):Int),V.j b])])))):_):=by kernel_rfl

theorem Js : ∀ (w s:By) (a:Nat),a+w.length<=s.length->(((s.drop a).take w.length==w)=AQ w s a)
 | [],s,a,_=>by rfl
 | b::w,s,a,h=>by
  rw [length_cons] at h
  have hl:a<s.length:=by omega
  have ih:=Js w s (a+1) (by omega)
  rw [drop_eq_getElem_cons hl,length_cons,List.take_succ_cons]
  unfold AQ at ih ⊢
  rw [B6,Ej hl,length_cons]
  show (s[a]==b&&(take w.length (drop (a+1) s)==w))=_
  rw [ih]
  by_cases e:s[a]=b
  ·rw [if_pos e,beq_iff_eq.2 e,Bool.true_and]
   by_cases c:B6 w s (a+1)=w.length
   ·rw [dcT c,dcT (by omega)]
   ·rw [dcF c,dcF (by omega)]
  ·rw [if_neg e,beq_eq_false_iff_ne.2 e,Bool.false_and,dcF (by omega)]
theorem PH {s:By} {a:Nat} {b:Int} (h1:a<=s.length) (h2:s.length<=400) (_ : -1<=b) (_:b<=1000) (m i:Int) {w:By} (hw:w.length<=4) (hz:w.all (fun b=>b != 0)=true) (l:List (By)) : ∀ (j k:Nat),k+j=w.length->Runs prog (Ab [(11,.own qfG)]) (Ab [(2,k1E),(10,k2E),(13,k3E)]) 1 (body f46 2) k3E ([.ptr 0 0,.j m,.s w,.j ((k:Nat):Int),.ref 1 0 3,.j 3,.j i],[some (.box [.s s,.j (((a:Nat):Int)),.j (b)]),R0 .str l]) (.exit 4) ([.ptr 0 0,.j m,.j ((k+B6 (w.drop k) s (a+k):Nat):Int),.ref 1 0 3,.j 3,.j i],[some (.box [.s s,.j (((a:Nat):Int)),.j (b)]),R0 .str l]):=fun j=>by
 induction j with
 | zero=>
  intro k hk
  have hr:=JT s a b m i w k l
  rw [Af (dcF (by omega))] at hr
  rw [drop_eq_nil_of_le (by omega)]
  exact stp hr
 | succ j ih=>
  intro k hk
  have hkl:k<w.length:=by omega
  have hr:=JT s a b m i w k l
  have W1:i64.wrap ((a:Int)+(k:Int))=((a+k:Nat):Int):=by rw [Ax (by omega) (by omega)]; omega
  have W2:i64.wrap ((k:Int)+1)=((k+1:Nat):Int):=by rw [Ax (by omega) (by omega)]; omega
  rw [Ag (dcT (by omega)),W1,W2] at hr
  repeat rw [ntN] at hr
  rw [drop_eq_getElem_cons hkl,B6]
  have hne:w[k]≠0:=by have:=all_eq_true.1 hz _ (getElem_mem hkl); simpa using this
  by_cases q:a+k<s.length
  ·rw [Ag (dcT (by omega)),Aa (dcT (by omega)),gtE q,Aq,Aa (dcT (by omega)),gtE hkl,Aq] at hr
   rw [Ej q]
   by_cases e:s[a+k]=w[k]
   ·rw [e,beq_self_eq_true,A4] at hr
    have h:=ih (k+1) (by omega)
    rw [if_pos e,show k+(B6 (w.drop (k+1)) s (a+k+1)+1)=k+1+B6 (w.drop (k+1)) s (a+(k+1)) by rw [Nat.add_assoc a k 1]; omega]
    exact sts hr h
   ·rw [beq_eq_false_iff_ne.2 (fun h=>e (UInt8.toNat_inj.1 (by omega))),A1] at hr
    rw [if_neg e]
    exact stp hr
  ·rw [Af (dcF (by omega))] at hr
   rw [DE (by omega),if_neg (fun h=>hne h.symm)]
   exact stp hr
theorem QN {s:By} {a:Nat} {b:Int} (_:a<=s.length) (_:s.length<=400) (_ : -1<=b) (_:b<=1000) (_:b<0):Runs prog (Ab [(11,.own qfG)]) (Ab [(2,k1E),(10,k2E),(13,k3E)]) 1 (body f46 0) k1E ([.ptr 0 0,.ref 1 0 3,.j 3,.j ((3:Nat):Int)],[some (.box [.s s,.j (((a:Nat):Int)),.j (b)]),R0 .str ([[110,117,109],[116,101,120,116],[101,110,117,109]]:List (By))]) (if kqN s a ((3:Nat):Int)=0 then (.exit 0:Ex) else .ret) (if kqN s a ((3:Nat):Int)=0 then ([.ptr 0 0],[some (.box [.s s,.j (((a:Nat):Int)),.j (b)])]) else ([.j (kqN s a ((3:Nat):Int):Nat)],[some (.box [.s s,.j (((a+kqL s a ((3:Nat):Int):Nat):Int)),.j (b)])])):=by
 have hr:=JV s a b ((3:Nat):Int) [[110,117,109],[116,101,120,116],[101,110,117,109]]
 rw [Af (by rfl)] at hr
 have e:kqN s a ((3:Nat):Int)=0:=by unfold kqN; rw [if_neg (fun h=>absurd h.1 (by decide)),if_neg (fun h=>absurd h.1 (by decide)),if_neg (fun h=>absurd h.1 (by decide))]
 rw [if_pos e,if_pos e]
 exact stp hr
theorem IC {s:By} {a:Nat} {b:Int} (h1:a<=s.length) (h2:s.length<=400) (_ : -1<=b) (_:b<=1000) (hb:b<0) {i:Nat} {z:By} (hi:i<3) (hz:([[110,117,109],[116,101,120,116],[101,110,117,109]]:List (By))[i]? = some z) (hl:z.length<=4) (hn:z.all (fun b=>b != 0)=true)
  (e1:AQ z s a=true->kqN s a ((i:Nat):Int)=i+1/\kqL s a ((i:Nat):Int)=z.length) (e2:AQ z s a=false->kqN s a ((i:Nat):Int)=kqN s a (((i+1):Nat):Int)/\kqL s a ((i:Nat):Int)=kqL s a (((i+1):Nat):Int))
  (h:Runs prog (Ab [(11,.own qfG)]) (Ab [(2,k1E),(10,k2E),(13,k3E)]) 1 (body f46 0) k1E ([.ptr 0 0,.ref 1 0 3,.j 3,.j (((i+1):Nat):Int)],[some (.box [.s s,.j (((a:Nat):Int)),.j (b)]),R0 .str ([[110,117,109],[116,101,120,116],[101,110,117,109]]:List (By))]) (if kqN s a (((i+1):Nat):Int)=0 then (.exit 0:Ex) else .ret) (if kqN s a (((i+1):Nat):Int)=0 then ([.ptr 0 0],[some (.box [.s s,.j (((a:Nat):Int)),.j (b)])]) else ([.j (kqN s a (((i+1):Nat):Int):Nat)],[some (.box [.s s,.j (((a+kqL s a (((i+1):Nat):Int):Nat):Int)),.j (b)])]))):Runs prog (Ab [(11,.own qfG)]) (Ab [(2,k1E),(10,k2E),(13,k3E)]) 1 (body f46 0) k1E ([.ptr 0 0,.ref 1 0 3,.j 3,.j ((i:Nat):Int)],[some (.box [.s s,.j (((a:Nat):Int)),.j (b)]),R0 .str ([[110,117,109],[116,101,120,116],[101,110,117,109]]:List (By))]) (if kqN s a ((i:Nat):Int)=0 then (.exit 0:Ex) else .ret) (if kqN s a ((i:Nat):Int)=0 then ([.ptr 0 0],[some (.box [.s s,.j (((a:Nat):Int)),.j (b)])]) else ([.j (kqN s a ((i:Nat):Int):Nat)],[some (.box [.s s,.j (((a+kqL s a ((i:Nat):Int):Nat):Int)),.j (b)])])):=by
 have hr:=JV s a b ((i:Nat):Int) [[110,117,109],[116,101,120,116],[101,110,117,109]]
 have W1:i64.wrap ((a:Int)+(z.length:Int))=((a+z.length:Nat):Int):=by rw [Ax (by omega) (by omega)]; omega
 have W2:i64.wrap ((i:Int)+1)=((i+1:Nat):Int):=by rw [Ax (by omega) (by omega)]; omega
 have W3:i64.wrap (1+(i:Int))=((i+1:Nat):Int):=by rw [Ax (by omega) (by omega)]; omega
 rw [Ag (dcT (by omega)),Aa (by rw [anE]; exact ⟨dcT (by omega),dcT (by omega)⟩),ntN,zero_add,hz,Aq,Ag (dcT hb),W1,W2,W3] at hr
 repeat rw [ntN] at hr
 by_cases q:a+z.length<=s.length
 ·rw [Ag (dcT (by omega)),Aa (by rw [anE,anE]; exact ⟨⟨dcT (by omega),dcT (by omega)⟩,dcT (by omega)⟩),Nat.add_sub_cancel_left,Js z s a q] at hr
  cases c:AQ z s a with
  | true=>
   rw [c,A4] at hr
   obtain ⟨e3,e4⟩:=e1 c
   rw [e3,e4,if_neg (by omega),if_neg (by omega)]
   exact stp hr
  | false=>
   rw [c,A1] at hr
   obtain ⟨e3,e4⟩:=e2 c
   rw [e3,e4]
   exact sts hr h
 ·rw [Af (dcF (by omega))] at hr
  have c:AQ z s a=false:=by
   unfold AQ
   refine dcF fun h=>?_
   have:=CX hn h1
   omega
  obtain ⟨e3,e4⟩:=e2 c
  rw [e3,e4]
  exact sts hr h
theorem PJ {s:By} {a:Nat} {b:Int} (h1:a<=s.length) (h2:s.length<=400) (h3 : -1<=b) (h4:b<=1000) (hb:b<0) : ∀ i:Nat,i<=3->Runs prog (Ab [(11,.own qfG)]) (Ab [(2,k1E),(10,k2E),(13,k3E)]) 1 (body f46 0) k1E ([.ptr 0 0,.ref 1 0 3,.j 3,.j ((i:Nat):Int)],[some (.box [.s s,.j (((a:Nat):Int)),.j (b)]),R0 .str ([[110,117,109],[116,101,120,116],[101,110,117,109]]:List (By))]) (if kqN s a ((i:Nat):Int)=0 then (.exit 0:Ex) else .ret) (if kqN s a ((i:Nat):Int)=0 then ([.ptr 0 0],[some (.box [.s s,.j (((a:Nat):Int)),.j (b)])]) else ([.j (kqN s a ((i:Nat):Int):Nat)],[some (.box [.s s,.j (((a+kqL s a ((i:Nat):Int):Nat):Int)),.j (b)])])):=by
 have r3:=QN h1 h2 h3 h4 hb
 have r2:=IC h1 h2 h3 h4 hb (i:=2) (z:=AA) (by decide) rfl (by decide) (by decide) (fun c=>by
  constructor
  ·unfold kqN; rw [if_neg (fun h=>absurd h.1 (by decide)),if_neg (fun h=>absurd h.1 (by decide)),if_pos ⟨by decide,c⟩]
  ·unfold kqL; rw [if_neg (fun h=>absurd h.1 (by decide)),if_neg (fun h=>absurd h.1 (by decide)),if_pos ⟨by decide,c⟩]; rfl) (fun c=>by
  constructor
  ·unfold kqN; rw [if_neg (fun h=>absurd h.1 (by decide)),if_neg (fun h=>absurd h.1 (by decide)),if_neg (fun h=>by rw [c] at h; cases h.2),if_neg (fun h=>absurd h.1 (by decide)),if_neg (fun h=>absurd h.1 (by decide)),if_neg (fun h=>absurd h.1 (by decide))]
  ·unfold kqL; rw [if_neg (fun h=>absurd h.1 (by decide)),if_neg (fun h=>absurd h.1 (by decide)),if_neg (fun h=>by rw [c] at h; cases h.2),if_neg (fun h=>absurd h.1 (by decide)),if_neg (fun h=>absurd h.1 (by decide)),if_neg (fun h=>absurd h.1 (by decide))]) r3
 have r1:=IC h1 h2 h3 h4 hb (i:=1) (z:=BH) (by decide) rfl (by decide) (by decide) (fun c=>by
  constructor
  ·unfold kqN; rw [if_neg (fun h=>absurd h.1 (by decide)),if_pos ⟨by decide,c⟩]
  ·unfold kqL; rw [if_neg (fun h=>absurd h.1 (by decide)),if_pos ⟨by decide,c⟩]; rfl) (fun c=>by
  constructor
  ·unfold kqN; rw [if_neg (fun h=>absurd h.1 (by decide)),if_neg (fun h=>by rw [c] at h; cases h.2),if_neg (c:=(((1+1):Nat):Int)<=0/\_) (fun h=>absurd h.1 (by decide)),if_neg (c:=(((1+1):Nat):Int)<=1/\_) (fun h=>absurd h.1 (by decide))]
   by_cases c2:AQ AA s a=true
   ·rw [if_pos ⟨by decide,c2⟩,if_pos ⟨by decide,c2⟩]
   ·rw [if_neg (fun h=>c2 h.2),if_neg (fun h=>c2 h.2)]
  ·unfold kqL; rw [if_neg (fun h=>absurd h.1 (by decide)),if_neg (fun h=>by rw [c] at h; cases h.2),if_neg (c:=(((1+1):Nat):Int)<=0/\_) (fun h=>absurd h.1 (by decide)),if_neg (c:=(((1+1):Nat):Int)<=1/\_) (fun h=>absurd h.1 (by decide))]
   by_cases c2:AQ AA s a=true
   ·rw [if_pos ⟨by decide,c2⟩,if_pos ⟨by decide,c2⟩]
   ·rw [if_neg (fun h=>c2 h.2),if_neg (fun h=>c2 h.2)]) r2
 have r0:=IC h1 h2 h3 h4 hb (i:=0) (z:=CS) (by decide) rfl (by decide) (by decide) (fun c=>by
  constructor
  ·unfold kqN; rw [if_pos ⟨by decide,c⟩]
  ·unfold kqL; rw [if_pos ⟨by decide,c⟩]; rfl) (fun c=>by
  constructor
  ·unfold kqN; rw [if_neg (fun h=>by rw [c] at h; cases h.2),if_neg (c:=(((0+1):Nat):Int)<=0/\_) (fun h=>absurd h.1 (by decide))]
   by_cases c2:AQ BH s a=true
   ·rw [if_pos ⟨by decide,c2⟩,if_pos ⟨by decide,c2⟩]
   ·by_cases c3:AQ AA s a=true
    ·rw [if_neg (fun h=>c2 h.2),if_pos ⟨by decide,c3⟩,if_neg (fun h=>c2 h.2),if_pos ⟨by decide,c3⟩]
    ·rw [if_neg (fun h=>c2 h.2),if_neg (fun h=>c3 h.2),if_neg (fun h=>c2 h.2),if_neg (fun h=>c3 h.2)]
  ·unfold kqL; rw [if_neg (fun h=>by rw [c] at h; cases h.2),if_neg (c:=(((0+1):Nat):Int)<=0/\_) (fun h=>absurd h.1 (by decide))]
   by_cases c2:AQ BH s a=true
   ·rw [if_pos ⟨by decide,c2⟩,if_pos ⟨by decide,c2⟩]
   ·by_cases c3:AQ AA s a=true
    ·rw [if_neg (fun h=>c2 h.2),if_pos ⟨by decide,c3⟩,if_neg (fun h=>c2 h.2),if_pos ⟨by decide,c3⟩]
    ·rw [if_neg (fun h=>c2 h.2),if_neg (fun h=>c3 h.2),if_neg (fun h=>c2 h.2),if_neg (fun h=>c3 h.2)]) r1
 intro i hi
 rcases (by omega:i=0\/i=1\/i=2\/i=3) with rfl | rfl | rfl | rfl
 ·exact r0
 ·exact r1
 ·exact r2
 ·exact r3

theorem QM {s:By} {a:Nat} {b:Int} (_:a<=s.length) (_:s.length<=400) (_ : -1<=b) (_:b<=1000) (m:Nat):Runs prog (Ab [(11,.own qfG)]) (Ab [(2,k1E),(10,k2E),(13,k3E)]) 1 (body f46 1) k2E ([.ptr 0 0,.j ((m:Nat):Int),.ref 1 0 3,.j 3,.j ((3:Nat):Int)],[some (.box [.s s,.j (((a:Nat):Int)),.j (b)]),R0 .str ([[110,117,109],[116,101,120,116],[101,110,117,109]]:List (By))]) (.exit 2) ([.ptr 0 0,.j (max m (kqM s a ((3:Nat):Int)):Nat)],[some (.box [.s s,.j (((a:Nat):Int)),.j (b)])]):=by
 have hr:=JU s a b ((m:Nat):Int) ((3:Nat):Int) [[110,117,109],[116,101,120,116],[101,110,117,109]]
 rw [Af (by rfl)] at hr
 have e:kqM s a ((3:Nat):Int)=0:=by unfold kqM; rw [if_neg (by decide),if_neg (by decide),if_neg (by decide)]; rfl
 rw [e,Nat.max_zero]
 exact stp hr
theorem IB {s:By} {a:Nat} {b:Int} (h1:a<=s.length) (h2:s.length<=400) (h3 : -1<=b) (h4:b<=1000) {i:Nat} {z:By} (hi:i<3) (hz:([[110,117,109],[116,101,120,116],[101,110,117,109]]:List (By))[i]? = some z) (hl:z.length<=4) (hn:z.all (fun b=>b != 0)=true)
  (e1:kqM s a ((i:Nat):Int)=max (B6 z s a) (kqM s a (((i+1):Nat):Int)))
  (h : ∀ m:Nat,Runs prog (Ab [(11,.own qfG)]) (Ab [(2,k1E),(10,k2E),(13,k3E)]) 1 (body f46 1) k2E ([.ptr 0 0,.j ((m:Nat):Int),.ref 1 0 3,.j 3,.j (((i+1):Nat):Int)],[some (.box [.s s,.j (((a:Nat):Int)),.j (b)]),R0 .str ([[110,117,109],[116,101,120,116],[101,110,117,109]]:List (By))]) (.exit 2) ([.ptr 0 0,.j (max m (kqM s a (((i+1):Nat):Int)):Nat)],[some (.box [.s s,.j (((a:Nat):Int)),.j (b)])])) (m:Nat) :
  Runs prog (Ab [(11,.own qfG)]) (Ab [(2,k1E),(10,k2E),(13,k3E)]) 1 (body f46 1) k2E ([.ptr 0 0,.j ((m:Nat):Int),.ref 1 0 3,.j 3,.j ((i:Nat):Int)],[some (.box [.s s,.j (((a:Nat):Int)),.j (b)]),R0 .str ([[110,117,109],[116,101,120,116],[101,110,117,109]]:List (By))]) (.exit 2) ([.ptr 0 0,.j (max m (kqM s a ((i:Nat):Int)):Nat)],[some (.box [.s s,.j (((a:Nat):Int)),.j (b)])]):=by
 have hr:=JU s a b ((m:Nat):Int) ((i:Nat):Int) [[110,117,109],[116,101,120,116],[101,110,117,109]]
 have W2:i64.wrap ((i:Int)+1)=((i+1:Nat):Int):=by rw [Ax (by omega) (by omega)]; omega
 rw [Ag (dcT (by omega)),Aa (by rw [anE]; exact ⟨dcT (by omega),dcT (by omega)⟩),ntN,zero_add,hz,Aq,W2] at hr
 repeat rw [ntN] at hr
 rw [Aa (dcT ⟨by omega,h1,h2,h3,h4,by omega,by omega,hl,hn⟩),zero_add,add_zero,drop_zero] at hr
 rw [e1]
 by_cases c:m<B6 z s a
 ·rw [Ag (dcT (by omega))] at hr
  rw [show max m (max (B6 z s a) (kqM s a (((i+1):Nat):Int)))=max (B6 z s a) (kqM s a (((i+1):Nat):Int)) by omega]
  exact sts hr (h _)
 ·rw [Af (dcF (by omega))] at hr
  rw [show max m (max (B6 z s a) (kqM s a (((i+1):Nat):Int)))=max m (kqM s a (((i+1):Nat):Int)) by omega]
  exact sts hr (h _)
theorem PI {s:By} {a:Nat} {b:Int} (h1:a<=s.length) (h2:s.length<=400) (h3 : -1<=b) (h4:b<=1000) : ∀ i:Nat,i<=3->∀ m:Nat,Runs prog (Ab [(11,.own qfG)]) (Ab [(2,k1E),(10,k2E),(13,k3E)]) 1 (body f46 1) k2E ([.ptr 0 0,.j ((m:Nat):Int),.ref 1 0 3,.j 3,.j ((i:Nat):Int)],[some (.box [.s s,.j (((a:Nat):Int)),.j (b)]),R0 .str ([[110,117,109],[116,101,120,116],[101,110,117,109]]:List (By))]) (.exit 2) ([.ptr 0 0,.j (max m (kqM s a ((i:Nat):Int)):Nat)],[some (.box [.s s,.j (((a:Nat):Int)),.j (b)])]):=by
 have r3:=fun m=>QM (s:=s) (a:=a) (b:=b) h1 h2 h3 h4 m
 have r2:=IB h1 h2 h3 h4 (i:=2) (z:=AA) (by decide) rfl (by decide) (by decide) (by
  unfold kqM; rw [if_neg (c:=((2:Nat):Int)<=0) (by decide),if_neg (c:=((2:Nat):Int)<=1) (by decide),if_pos (c:=((2:Nat):Int)<=2) (by decide),if_neg (c:=(((2+1):Nat):Int)<=0) (by decide),if_neg (c:=(((2+1):Nat):Int)<=1) (by decide),if_neg (c:=(((2+1):Nat):Int)<=2) (by decide)]; omega) r3
 have r1:=IB h1 h2 h3 h4 (i:=1) (z:=BH) (by decide) rfl (by decide) (by decide) (by
  unfold kqM; rw [if_neg (c:=((1:Nat):Int)<=0) (by decide),if_pos (c:=((1:Nat):Int)<=1) (by decide),if_pos (c:=((1:Nat):Int)<=2) (by decide),if_neg (c:=(((1+1):Nat):Int)<=0) (by decide),if_neg (c:=(((1+1):Nat):Int)<=1) (by decide),if_pos (c:=(((1+1):Nat):Int)<=2) (by decide)]; omega) r2
 have r0:=IB h1 h2 h3 h4 (i:=0) (z:=CS) (by decide) rfl (by decide) (by decide) (by
  unfold kqM; rw [if_pos (c:=((0:Nat):Int)<=0) (by decide),if_pos (c:=((0:Nat):Int)<=1) (by decide),if_pos (c:=((0:Nat):Int)<=2) (by decide),if_neg (c:=(((0+1):Nat):Int)<=0) (by decide),if_pos (c:=(((0+1):Nat):Int)<=1) (by decide),if_pos (c:=(((0+1):Nat):Int)<=2) (by decide)]; omega) r1
 intro i hi
 rcases (by omega:i=0\/i=1\/i=2\/i=3) with rfl | rfl | rfl | rfl
 ·exact r0
 ·exact r1
 ·exact r2
 ·exact r3
theorem Rz:A6 prog (Ab [(11,.own qfG)]) (Ab [(2,k1E),(10,k2E),(13,k3E)]) 1 (f46.body.getD .skip):=by
 refine LoopsI.loops (cs:=[body f46 0,body f46 1,body f46 2]) ?_ (by kernel_rfl)
 refine .cons (ent:=k1E) (by rfl) (fun d ex d' h=>?_) (.cons (ent:=k2E) (by rfl) (fun d ex d' h=>?_) (.cons (ent:=k3E) (by rfl) (fun d ex d' h=>?_) .nil))
 ·unfold k1E at h
  dsimp only at h
  split at h
  ·rename_i i s a b l
   obtain ⟨hc,hx⟩:=Ae h
   obtain ⟨h0,h1,h2,h3,h4,h5,h6,h7,h8⟩:=of_decide_eq_true hc
   subst h8
   obtain ⟨a,rfl⟩:=eq_ofNat_of_zero_le h0
   obtain ⟨i,rfl⟩:=eq_ofNat_of_zero_le h6
   simp only [ntN] at h1 hx
   have hh:=PJ h1 h2 h3 h4 h5 i (by omega)
   by_cases q:kqN s a ((i:Nat):Int)=0
   ·rw [beq_iff_eq.2 q] at hx
    obtain ⟨rfl,rfl⟩:=Prod.mk.inj (AD hx)
    rw [if_pos q,if_pos q] at hh
    exact hh
   ·rw [beq_eq_false_iff_ne.2 q] at hx
    obtain ⟨rfl,rfl⟩:=Prod.mk.inj (AD hx)
    rw [if_neg q,if_neg q] at hh
    exact hh
  ·cases h
 ·unfold k2E at h
  dsimp only at h
  split at h
  ·rename_i m i s a b l
   obtain ⟨hc,hx⟩:=Ae h
   obtain ⟨h0,h1,h2,h3,h4,h6,h7,h5,h8⟩:=of_decide_eq_true hc
   subst h8
   obtain ⟨a,rfl⟩:=eq_ofNat_of_zero_le h0
   obtain ⟨i,rfl⟩:=eq_ofNat_of_zero_le h6
   obtain ⟨m,rfl⟩:=eq_ofNat_of_zero_le h5
   simp only [ntN] at h1 hx
   obtain ⟨rfl,rfl⟩:=Prod.mk.inj (AD hx)
   exact PI h1 h2 h3 h4 i (by omega) m
  ·cases h
 ·unfold k3E at h
  dsimp only at h
  split at h
  ·rename_i m w k i s a b l
   obtain ⟨hc,hx⟩:=Ae h
   obtain ⟨h0,h1,h2,h3,h4,h5,h6,h7,h8⟩:=of_decide_eq_true hc
   obtain ⟨a,rfl⟩:=eq_ofNat_of_zero_le h0
   obtain ⟨k,rfl⟩:=eq_ofNat_of_zero_le h5
   simp only [ntN] at h1 hx
   obtain ⟨rfl,rfl⟩:=Prod.mk.inj (AD hx)
   exact PH h1 h2 h3 h4 m i h7 h8 l (w.length-k) k (by omega)
  ·cases h
theorem O1 (s:By) {a:Nat} (h:a<=s.length):a+kqM s a 0<=s.length:=by
 have e1:=CX (w:=CS) (by decide) h
 have e2:=CX (w:=BH) (by decide) h
 have e3:=CX (w:=AA) (by decide) h
 unfold kqM
 rw [if_pos (by decide),if_pos (by decide),if_pos (by decide)]
 omega
theorem qkd:Ad prog 46 (Ent.own kdG).F:=by
 refine fcC (kc func11 qfl KnowsL.nil).knows (Λ:=(Ab [(2,k1E),(10,k2E),(13,k3E)])) func46 fun vs bs r hq=>?_
 unfold Ent.F kdG at hq
 dsimp only at hq
 split at hq
 ·rename_i s a b
  obtain ⟨hc,hx⟩:=Ae hq
  refine ⟨Rz,(PG s a b).trans (Eq.trans ?_ hx)⟩
  obtain ⟨h0,h1,h2,h3,h4,h5⟩:=of_decide_eq_true hc
  obtain ⟨a,rfl⟩:=eq_ofNat_of_zero_le h0
  rw [ntN] at h1
  repeat rw [ntN]
  have hm:=O1 s h1
  rw [Aa (dcT ⟨by omega,h1,h2,h3,h4,h5,by omega,by omega,by rfl⟩)]
  unfold kdF
  by_cases q:kqN s a 0=0
  ·have W1:i64.wrap ((a:Int)+((max 0 (kqM s a 0):Nat):Int))=((a+kqM s a 0:Nat):Int):=by rw [Nat.zero_max,Ax (by omega) (by omega)]; omega
   have W2:i64.wrap ((a:Int)+((max (Int.toNat 0) (kqM s a 0):Nat):Int))=((a+kqM s a 0:Nat):Int):=W1
   rw [beq_iff_eq.2 q,A4,if_pos q,Aa (dcT ⟨by omega,h1,h2,h3,h4,by omega,by omega,by omega,by rfl⟩)]
   first | rw [W1] | rw [W2]
   repeat rw [ntN]
   rw [Aa (dcT ⟨by omega,by omega,h2,h3,h4⟩)]
   unfold flB
   rw [if_pos h5]
   rfl
  ·rw [beq_eq_false_iff_ne.2 q,A1,if_neg q]
   rfl
 ·cases hq
def pkE:LoopEnt:=⟨43,[2,3,4,5],[2,3,4,5],[],fun
 | ([.ptr 0 0,.ptr 1 0,.ptr 2 0,.j k],[some (.box (Lt x0 x1 x2 x3 x4 xs)),some (.box (Lt y0 y1 y2 y3 y4 ys)),some (.box [.j 0,.s [],.j 0,.b false,.j 0,.ref 3 0 0]),R0 (.rose LCd) []])=>.need (decide (0<=k/\k.toNat<=xs.length/\xs.length<=1000000)) (.leaf (.exit 0,([.ptr 0 0,.ptr 1 0,.ptr 2 0,.j ((k.toNat+kK y2 (xs.drop k.toNat):Nat):Int)],[some (.box (Lt x0 x1 x2 x3 x4 xs)),some (.box (Lt y0 y1 y2 y3 y4 ys)),some (.box [.j 0,.s [],.j 0,.b false,.j 0,.ref 3 0 0]),R0 (.rose LCd) []])))
 | _=>.no⟩
def pkG:Gm
 | [.agg (Lt x0 x1 x2 x3 x4 xs),.agg (Lt y0 y1 y2 y3 y4 ys)],[]=>.need (decide (xs.length<=1000000)) (.leaf (.agg [.j x0,.s x1,.j x2,.b x3,.j x4,.ref 0 0 (AE xs (.node (y0,y1,y2,y3,y4,()) ys:Rose Lab)).length],[R0 (.rose LCd) (AE xs (.node (y0,y1,y2,y3,y4,()) ys:Rose Lab))]))
 | _,_=>.no
theorem Jv (x0:Int) (x1:By) (x2:Int) (x3:Bool) (x4:Int) (xs:RL) (y0:Int) (y1:By) (y2:Int) (y3:Bool) (y4:Int) (ys:RL) (k:Int):AG prog (Ab []) (Ab [(2,pkE)]) 0 (body f28 0) pkE ([.ptr 0 0,.ptr 1 0,.ptr 2 0,.j k],[some (.box (Lt x0 x1 x2 x3 x4 xs)),some (.box (Lt y0 y1 y2 y3 y4 ys)),some (.box [.j 0,.s [],.j 0,.b false,.j 0,.ref 3 0 0]),R0 (.rose LCd) []]) =
 ((shr (Al LCd.rose.den) fun sh1=>ifB (decide (k<(↑xs.length:Int))) (ifT (decide (0<=k)&&decide (k<(↑xs.length:Int))) (Ap xs[k.toNat]? fun z=>shr
 (Rose.lab z).2.2 fun sh1_1=>ifB (decide (sh1_1.1<y2)) (some (Ex.normal,[V.ptr 0 0,V.ptr 1 0,V.ptr 2 0,V.j (i64.wrap (k+1))],[some (Blk.box
 (Lt x0 x1 x2 x3 x4 xs)),some (Blk.box (Lt y0 y1 y2 y3 y4 ys)),some
 (Blk.box [V.j 0,V.s (Al UInt8),V.j 0,V.b false,V.j 0,V.ref 3 0 0]),R0 LCd.rose sh1])) (some (Ex.exit 0,[V.ptr 0 0,V.ptr 1
 0,V.ptr 2 0,V.j k],[some (Blk.box (Lt x0 x1 x2 x3 x4 xs)),some (Blk.box (Lt y0 y1 y2 y3 y4 ys)),some (Blk.box [V.j 0,V.s (Al UInt8),V.j 0,V.b false,V.j 0,V.ref 3 0 0]),R0 LCd.rose
 sh1])))) (some (Ex.exit 0,[V.ptr 0 0,V.ptr 1 0,V.ptr 2 0,V.j k],[some (Blk.box (Lt x0 x1 x2 x3 x4 xs)),some
 (Blk.box (Lt y0 y1 y2 y3 y4 ys)),some (Blk.box [V.j 0,V.s (Al UInt8),V.j 0,V.b false,V.j 0,V.ref
 3 0 0]),R0 LCd.rose sh1]))):_):=by kernel_rfl
theorem Pq (x0:Int) (x1:By) (x2:Int) (x3:Bool) (x4:Int) (xs:RL) (y0:Int) (y1:By) (y2:Int) (y3:Bool) (y4:Int) (ys:RL):BA prog (Ab []) (Ab [(2,pkE)]) f28 [.agg (Lt x0 x1 x2 x3 x4 xs),.agg (Lt y0 y1 y2 y3 y4 ys)] [] =
 ((shr (drop 0 xs) fun sh3=>shr (take (xs.length-(↑(0+kK y2 sh3):Int).toNat) (drop (↑(0+kK y2 sh3):Int).toNat xs)) fun sh2
 => shr (take ((↑(0+kK y2 sh3):Int).toNat-0) (drop 0 xs)) fun sh1=>ifT (decide ((0:Int)<=(0:Int)/\0<=xs.length/\
 xs.length<=1000000)) (ifT (decide (0<=(↑(0+kK y2 sh3):Int))&&decide ((↑(0+kK y2 sh3):Int)<=(↑xs.length:Int))) (ifT (decide (((0 :
 Nat)+sh1.length)*72<=140737488355328)&&decide (0+sh1.length<=maxI)) (ifT (decide ((0+sh1.length+1)*72<=
 140737488355328)&&decide (0+sh1.length+1<=maxI)) (ifT (decide (0<=(↑(0+kK y2 sh3):Int))&&decide ((↑(0+kK y2 sh3) :
 Int)<=(↑xs.length:Int))) (ifT (decide ((0+sh1.length+1+sh2.length)*72<=140737488355328)&&decide (0+sh1.length+(1
 : Nat)+sh2.length<=maxI)) (some (V.agg [V.j x0,V.s x1,V.j x2,V.b x3,V.j x4,V.ref 0 0 (0+sh1.length+1+sh2.length)],[R0 LCd.rose (take (0+sh1.length+1) (drop 0 (take (0+sh1.length) (drop 0 (Al
 LCd.rose.den++sh1))++Rose.node (y0,y1,y2,y3,y4,()) ys::Al LCd.rose.den))++sh2)])))))))):_):=by kernel_rfl
theorem L8 (x0:Int) (x1:By) (x2:Int) (x3:Bool) (x4:Int) (xs:RL) (y0:Int) (y1:By) (y2:Int) (y3:Bool) (y4:Int) (ys:RL) (hx:xs.length<=1000000) : ∀ (j i:Nat),i+j=xs.length->
  Runs prog (Ab []) (Ab [(2,pkE)]) 0 (body f28 0) pkE ([.ptr 0 0,.ptr 1 0,.ptr 2 0,.j (i:Int)],[some (.box (Lt x0 x1 x2 x3 x4 xs)),some (.box (Lt y0 y1 y2 y3 y4 ys)),some (.box [.j 0,.s [],.j 0,.b false,.j 0,.ref 3 0 0]),R0 (.rose LCd) []]) (.exit 0) ([.ptr 0 0,.ptr 1 0,.ptr 2 0,.j ((i+kK y2 (xs.drop i):Nat):Int)],[some (.box (Lt x0 x1 x2 x3 x4 xs)),some (.box (Lt y0 y1 y2 y3 y4 ys)),some (.box [.j 0,.s [],.j 0,.b false,.j 0,.ref 3 0 0]),R0 (.rose LCd) []])
 | 0,i,hi=>by
  have hr:=Jv x0 x1 x2 x3 x4 xs y0 y1 y2 y3 y4 ys i
  try dsimp only [shr] at hr
  rw [Af (dcF (by omega))] at hr
  rw [drop_eq_nil_of_le (by omega),kK,add_zero]
  exact stp hr
 | j+1,i,hi=>by
  have hl:i<xs.length:=by omega
  have hM:=mxI
  have hr:=Jv x0 x1 x2 x3 x4 xs y0 y1 y2 y3 y4 ys i
  try dsimp only [shr] at hr
  rw [Ag (dcT (by omega)),T2 (by omega),ntN,gtE hl,Aq,AM (n:=i) (by omega)] at hr
  rw [drop_eq_getElem_cons hl,kK]
  by_cases q:noR xs[i]<y2
  ·have q':xs[i].lab.2.2.1<y2:=q
   rw [Ag (dcT q')] at hr
   have ih:=L8 x0 x1 x2 x3 x4 xs y0 y1 y2 y3 y4 ys hx j (i+1) (by omega)
   rw [show i+1+kK y2 (xs.drop (i+1))=i+(kK y2 (xs.drop (i+1))+1) by omega] at ih
   rw [if_pos q]
   exact sts hr ih
  ·have q' : ¬xs[i].lab.2.2.1<y2:=q
   rw [Af (dcF q')] at hr
   rw [if_neg q,add_zero]
   exact stp hr
theorem Rq:A6 prog (Ab []) (Ab [(2,pkE)]) 0 (f28.body.getD .skip):=by
 refine Az (a:=body f28 0) (by kernel_rfl) fun d ex d' h=>?_
 unfold pkE at h
 dsimp only at h
 split at h
 ·rename_i k x0 x1 x2 x3 x4 xs y0 y1 y2 y3 y4 ys
  obtain ⟨hc,hx⟩:=Ae h
  obtain ⟨h0,h1,h2⟩:=of_decide_eq_true hc
  obtain ⟨i,rfl⟩:=eq_ofNat_of_zero_le h0
  simp only [ntN] at h1 hx
  obtain ⟨rfl,rfl⟩:=Prod.mk.inj (AD hx)
  exact L8 x0 x1 x2 x3 x4 xs y0 y1 y2 y3 y4 ys h2 (xs.length-i) i (by omega)
 ·cases h
theorem pkC:Ad prog 28 (Ent.rd1 pkG).F:=by
 refine fcC KnowsL.nil.knows (Λ:=(Ab [(2,pkE)])) func28 fun vs bs r hq=>?_
 unfold Ent.F pkG at hq
 dsimp only at hq
 split at hq
 ·rename_i x0 x1 x2 x3 x4 xs y0 y1 y2 y3 y4 ys
  obtain ⟨hc,hx⟩:=Ae hq
  have h6:=of_decide_eq_true hc
  refine ⟨Rq,(Pq x0 x1 x2 x3 x4 xs y0 y1 y2 y3 y4 ys).trans (Eq.trans ?_ hx)⟩
  dsimp only [shr]
  show _=some _
  have hk:kK y2 xs<=xs.length:=O6 y2 xs
  have hM:=mxI
  rw [drop_zero,zero_add,ntN,Nat.sub_zero]
  have e1:(xs.take (kK y2 xs)).length=kK y2 xs:=by rw [List.length_take]; omega
  have e2:((xs.drop (kK y2 xs)).take (xs.length-kK y2 xs))=xs.drop (kK y2 xs):=by rw [<-List.length_drop,take_length]
  have e3:(xs.drop (kK y2 xs)).length=xs.length-kK y2 xs:=List.length_drop
  rw [e2]
  repeat rw [Aa (by simp only [anE,dcE,e1,e3]; omega)]
  have e4:AE xs (.node (y0,y1,y2,y3,y4,()) ys:Rose Lab)=xs.take (kK y2 xs)++(.node (y0,y1,y2,y3,y4,()) ys:Rose Lab)::xs.drop (kK y2 xs):=rfl
  rw [e4]
  have e5:(xs.take (kK y2 xs)++[(.node (y0,y1,y2,y3,y4,()) ys:Rose Lab)]).take (kK y2 xs+1)=xs.take (kK y2 xs)++[(.node (y0,y1,y2,y3,y4,()) ys:Rose Lab)]:=List.take_of_length_le (by rw [length_append,e1]; exact le_refl _)
  simp only [Di,drop_zero,List.nil_append,e1,e3,List.take_take,Nat.min_self,e5,append_assoc,length_append,length_cons,zero_add,List.singleton_append]
  rw [show kK y2 xs+1+(xs.length-kK y2 xs)=kK y2 xs+(xs.length-kK y2 xs+1) by omega]
 ·cases hq
def wdP (s:By) (a:Nat) (b:Int):By×Nat×Int:=(bif wqF s a b then [] else nmV s (blA s a (bdI b)) (bdI b),nmA s (blA s a (bdI b)) (bdI b),bif wqF s a b then flB (nmA s (blA s a (bdI b)) (bdI b)) b else b)
def nrP (s:By) (a:Nat) (b:Int):Nat×Nat×Int:=(nbV s (blA s a (bdI b)) (bdI b),nbA s (blA s a (bdI b)) (bdI b),bif nqF s a b then flB (nbA s (blA s a (bdI b)) (bdI b)) b else b)
def mkP (m:UInt8) (s:By) (a:Nat) (b:Int):Nat×Int:=(mrA m s a (bdI b),mrQ m s a b)
def qmP:Gm
 | [.ptr 0 0,.i .u8 m],[(.box [.s s,.j (a),.j (b)])]=>.need (decide (0<=a/\a.toNat<=s.length/\s.length<=400/\-1<=b/\b<=1000/\0<m/\m<256)) (.leaf (.tup [],[some (.box [.s s,.j (((mkP (UInt8.ofNat m.toNat) s a.toNat b).1:Nat)),.j ((mkP (UInt8.ofNat m.toNat) s a.toNat b).2)])]))
 | _,_=>.no
def qwP:Gm
 | [.ptr 0 0,.j x],[(.box [.s s,.j (a),.j (b)])]=>.need (decide (0<=a/\a.toNat<=s.length/\s.length<=400/\-1<=b/\b<=1000/\x=10)) (.leaf (.s (wdP s a.toNat b).1,[some (.box [.s s,.j (((wdP s a.toNat b).2.1:Nat)),.j ((wdP s a.toNat b).2.2)])]))
 | _,_=>.no
def quP:Gm
 | [.ptr 0 0],[(.box [.s s,.j (a),.j (b)])]=>.need (decide (0<=a/\a.toNat<=s.length/\s.length<=400/\-1<=b/\b<=1000)) (.leaf (.j ((nrP s a.toNat b).1:Nat),[some (.box [.s s,.j (((nrP s a.toNat b).2.1:Nat)),.j ((nrP s a.toNat b).2.2)])]))
 | _,_=>.no
def hdQ (s:By) (a:Nat) (b:Int):By×Nat×Bool×Nat×Int:=
 let w:=wdP s a b
 let m:=mkP 58 s w.2.1 w.2.2
 let n:=nrP s m.1 m.2
 let p:=blA s n.2.1 (bdI n.2.2)
 bif !bdI n.2.2&&(nxt s p==33) then
  let x:=mkP 33 s p n.2.2
  (w.1,n.1,true,x.1,bif !(!bdI x.2&&BZ (nxt s (x.1-1)))&&(!bdI x.2&&Be (nxt s x.1)) then flB x.1 x.2 else x.2)
 else (w.1,n.1,false,p,bif !(!bdI n.2.2&&BZ (nxt s n.2.1))&&(!bdI n.2.2&&Be (nxt s p)) then flB p n.2.2 else n.2.2)
def enQ (s:By) (a:Nat) (b:Int):Nat×Nat×Int:=
 let x:=mkP 40 s a b
 let n:=nrP s x.1 x.2
 (n.1,mkP 41 s n.2.1 n.2.2)
def tyQ (f g:By->Nat->Int->Rose Lab×Nat×Int) (s:By) (a:Nat) (b:Int):Rose Lab×Nat×Int:=
 bif bdI b then (.node (0,[],0,false,0,()) [],blA s a (bdI b),b)
 else bif nxt s (blA s a (bdI b))==91 then
  let x:=mkP 91 s (blA s a (bdI b)) b
  let y:=f s x.1 x.2
  (.node (4,[],0,false,0,()) [y.1],mkP 93 s y.2.1 y.2.2)
 else bif nxt s (blA s a (bdI b))==123 then g s (blA s a (bdI b)) b
 else
  let k:=kdF s (blA s a (bdI b))
  let b1:Int:=bif k.2.2 then ((k.2.1:Nat):Int) else b
  bif k.1==3 then (.node (3,[],0,false,((enQ s k.2.1 b1).1:Int),()) [],(enQ s k.2.1 b1).2) else (.node ((k.1:Int),[],0,false,0,()) [],k.2.1,b1)
def lpQ (f:By->Nat->Int->Rose Lab×Nat×Int):Nat->By->RL->Nat->Int->RL×Nat×Int
 | 0,_,o,a,b=>(o,a,b)
 | k+1,s,o,a,b=>bif bdI b then (o,a,b) else
  let h:=hdQ s a b
  let y:=f s h.2.2.2.1 h.2.2.2.2
  let o2:=AE o (.node (y.1.lab.1,h.1,(h.2.1:Int),h.2.2.1,y.1.lab.2.2.2.2.1,()) y.1.kids)
  let a2:=blA s y.2.1 (bdI y.2.2)
  bif !bdI y.2.2&&(nxt s a2==44) then lpQ f k s o2 (mkP 44 s a2 y.2.2).1 (mkP 44 s a2 y.2.2).2 else (o2,a2,y.2.2)
def msQ (f:By->Nat->Int->Rose Lab×Nat×Int) (s:By) (a:Nat) (b:Int):Rose Lab×Nat×Int:=
 let x:=mkP 123 s a b
 bif !bdI x.2&&(nxt s x.1==125) then (.node (5,[],0,false,0,()) [],mkP 125 s x.1 x.2)
 else
  let q:=lpQ f 1000 s [] x.1 x.2
  (.node (5,[],0,false,0,()) q.1,mkP 125 s q.2.1 q.2.2)
def Ea (n:Nat) (f:By->Nat->Int->Rose Lab×Nat×Int):Gm
 | [.ptr 0 0,.j d],[(.box [.s s,.j (a),.j (b)])]=>.need (decide ((0<=a/\a.toNat<=s.length/\s.length<=400/\-1<=b/\b<=1000)/\1<=n/\0<=d/\d<=1000/\(0<=b\/(s.length-a.toNat+3<=n/\d+(s.length-a.toNat:Nat)<=450)))) (.leaf (.agg [.j (f s a.toNat b).1.lab.1,.s (f s a.toNat b).1.lab.2.1,.j (f s a.toNat b).1.lab.2.2.1,.b (f s a.toNat b).1.lab.2.2.2.1,.j (f s a.toNat b).1.lab.2.2.2.2.1,.ref 1 0 (f s a.toNat b).1.kids.length],[some (.box [.s s,.j (((f s a.toNat b).2.1:Nat)),.j ((f s a.toNat b).2.2)]),R0 (.rose LCd) (f s a.toNat b).1.kids]))
 | _,_=>.no
def Jq (n:Nat) (f:By->Nat->Int->Rose Lab×Nat×Int):Gm
 | [.ptr 0 0,.j d],[(.box [.s s,.j (a),.j (b)])]=>.need (decide ((0<=a/\a.toNat<=s.length/\s.length<=400/\-1<=b/\b<=1000)/\1<=n/\0<=d/\d<=1000/\(0<=b\/(s.length-a.toNat+2<=n/\d+(s.length-a.toNat:Nat)<=451)))) (.leaf (.agg [.j (f s a.toNat b).1.lab.1,.s (f s a.toNat b).1.lab.2.1,.j (f s a.toNat b).1.lab.2.2.1,.b (f s a.toNat b).1.lab.2.2.2.1,.j (f s a.toNat b).1.lab.2.2.2.2.1,.ref 1 0 (f s a.toNat b).1.kids.length],[some (.box [.s s,.j (((f s a.toNat b).2.1:Nat)),.j ((f s a.toNat b).2.2)]),R0 (.rose LCd) (f s a.toNat b).1.kids]))
 | _,_=>.no
theorem Rn:Ad prog 22 (Ent.own qmP).F:=qmk
theorem RS:Ad prog 24 (Ent.own qwP).F:=qwd
theorem Rm:Ad prog 25 (Ent.own quP).F:=qnb
theorem NC (n:Nat) (f g:By->Nat->Int->Rose Lab×Nat×Int) (s:By) (a b d:Int):BA prog (Ab [(26,.own qbG),(23,.rd1 qnG),(22,.own qmP),(25,.own quP),(46,.own kdG),(27,.own (Ea n f)),(10,.own (Jq n g))]) (Ab []) f27 [.ptr 0 0,.j d] [(.box [.s s,.j (a),.j (b)])] =
 ((shr (g s (↑(blA s a.toNat (bdI b)):Int).toNat b).1 fun sh7=>shr (kdF s (↑(blA s a.toNat (bdI b)):Int).toNat) fun sh6=>shr (Al LCd.rose.den) fun sh5=>shr (ifT
 (decide ((0<=(↑(blA s a.toNat (bdI b)):Int)/\(↑(blA s a.toNat (bdI b)):Int).toNat<=s.length/\s.length<=400/\(-1:Int)<=b/\b<=1000)/\1<=n/\
 0<=i64.wrap (d+1)/\i64.wrap (d+1)<=(1000:Int)/\(0<=b\/s.length-(↑(blA s a.toNat (bdI b)):Int).toNat+2<=n/\i64.wrap (d
 + 1)+(↑(s.length-(↑(blA s a.toNat (bdI b)):Int).toNat):Int)<=(451:Int)))) (some (V.agg [V.j sh7.lab.1,V.s sh7.lab.2.1,V.i .i64
 sh7.lab.2.2.1,V.b sh7.lab.2.2.2.1,V.j sh7.lab.2.2.2.2.1,V.ref 1 0 sh7.kids.length],[some (Blk.box [V.s s,V.j (↑(g s (↑(blA s
 a.toNat (bdI b)):Int).toNat b).2.1:Int),V.j (g s (↑(blA s a.toNat (bdI b)):Int).toNat b).2.2]),R0 LCd.rose sh7.kids]))) fun
 sh4=>shr (mkP (UInt8.ofNat 91) s (↑(blA s a.toNat (bdI b)):Int).toNat b) fun sh3=>shr sh6.2 fun sh2=>shr (mkP (UInt8.ofNat 40) s (↑sh2.1 :
 Int).toNat (bif sh2.2 then (↑sh2.1:Int) else b)) fun sh1=>ifT (decide (0<=a/\a.toNat<=s.length/\s.length<=400/\(-1:Int)<=b/\b<=1000)) (ifT
 (decide (0<=(↑(blA s a.toNat (bdI b)):Int)/\(↑(blA s a.toNat (bdI b)):Int).toNat<=s.length/\s.length<=400/\(-1:Int)<=b/\b<=1000)) (ifB (decide (b>=
 0)) (some (V.agg [V.j 0,V.s (Al UInt8),V.j 0,V.b false,V.j 0,V.ref 1 0 0],[some (Blk.box [V.s s,V.j (↑(blA s a.toNat (bdI b)):Int),V.i
 .i64 b]),R0 LCd.rose sh5])) (ifB ((bif bdI b then (0:Int) else (↑(nxt s (↑(blA s a.toNat (bdI b)):Int).toNat).toNat:Int))==(91:Int))
 (ifB (decide (d<500)) (ifT (decide (0<=(↑(blA s a.toNat (bdI b)):Int)/\(↑(blA s a.toNat (bdI b)):Int).toNat<=s.length/\s.length<=400/\(-1:Int)<=b/\
 b<=1000/\(0:Int)<(91:Int)/\(91:Int)<(256:Int))) (ifT (decide ((0<=(↑sh3.1:Int)/\(↑sh3.1:Int).toNat<=s.length/\s.length<=400/\(-1 :
 Int)<=sh3.2/\sh3.2<=(1000:Int))/\1<=n/\0<=i64.wrap (d+1)/\i64.wrap (d+1)<=(1000:Int)/\((0:Int)<=sh3.2\/s.length -
 (↑sh3.1:Int).toNat+3<=n/\i64.wrap (d+1)+(↑(s.length-(↑sh3.1:Int).toNat):Int)<=(450:Int)))) (ifT (decide (0<=(↑(f s (↑sh3.1 :
 Int).toNat sh3.2).2.1:Int)/\(↑(f s (↑sh3.1:Int).toNat sh3.2).2.1:Int).toNat<=s.length/\s.length<=400/\(-1:Int)<=(f s (↑sh3.1 :
 Int).toNat sh3.2).2.2/\(f s (↑sh3.1:Int).toNat sh3.2).2.2<=(1000:Int)/\(0:Int)<(93:Int)/\(93:Int)<(256:Int))) (some (V.agg [V.j 4,
 V.s (Al UInt8),V.j 0,V.b false,V.j 0,V.ref 1 0 1],[some (Blk.box [V.s s,V.j (↑(mkP (UInt8.ofNat 93) s (↑(f s (↑sh3.1:Int).toNat
 sh3.2).2.1:Int).toNat (f s (↑sh3.1:Int).toNat sh3.2).2.2).1:Int),V.j (mkP (UInt8.ofNat 93) s (↑(f s (↑sh3.1:Int).toNat
 sh3.2).2.1:Int).toNat (f s (↑sh3.1:Int).toNat sh3.2).2.2).2]),R0 LCd.rose (Rose.node ((f s (↑sh3.1:Int).toNat
 sh3.2).1.lab.1,(f s (↑sh3.1:Int).toNat sh3.2).1.lab.2.1,(f s (↑sh3.1:Int).toNat sh3.2).1.lab.2.2.1,(f s (↑sh3.1:Int).toNat
 sh3.2).1.lab.2.2.2.1,(f s (↑sh3.1:Int).toNat sh3.2).1.lab.2.2.2.2.1,()) (take (f s (↑sh3.1:Int).toNat sh3.2).1.kids.length
 (drop 0 (f s (↑sh3.1:Int).toNat sh3.2).1.kids))::sh5)]))))) (ifB ((bif bdI b then (0:Int) else (↑(nxt s (↑(blA s a.toNat (bdI b)) :
 Int).toNat).toNat:Int))==(123:Int)) (ifB (decide (d<500)) sh4 (ifT (decide (0<=(↑(blA s a.toNat (bdI b)):Int)/\(↑(blA s a.toNat (bdI b)):Int).toNat<=
 s.length/\s.length<=400/\(-1:Int)<=b/\b<=1000/\b<0)) (ifB ((↑sh6.1:Int)==(3:Int)) (ifT (decide (0<=(↑sh2.1:Int)/\(↑sh2.1:Int).toNat<=
 s.length/\s.length<=400/\((-1:Int)<=bif sh2.2 then (↑sh2.1:Int) else b)/\(bif sh2.2 then (↑sh2.1:Int) else b)<=(1000:Int)/\(0:Int)<(40
 : Int)/\(40:Int)<(256:Int))) (ifT (decide (0<=(↑sh1.1:Int)/\(↑sh1.1:Int).toNat<=s.length/\s.length<=400/\(-1:Int)<=sh1.2/\sh1.2<=
 (1000:Int))) (ifT (decide (0<=(↑(nrP s (↑sh1.1:Int).toNat sh1.2).2.1:Int)/\(↑(nrP s (↑sh1.1:Int).toNat sh1.2).2.1:Int).toNat<=s.length/\
 s.length<=400/\(-1:Int)<=(nrP s (↑sh1.1:Int).toNat sh1.2).2.2/\(nrP s (↑sh1.1:Int).toNat sh1.2).2.2<=(1000:Int)/\(0:Int)<(41 :
 Int)/\(41:Int)<(256:Int))) (some (V.agg [V.j (↑sh6.1:Int),V.s (Al UInt8),V.j 0,V.b false,V.j (↑(nrP s (↑sh1.1:Int).toNat sh1.2).1
 : Int),V.ref 1 0 0],[some (Blk.box [V.s s,V.j (↑(mkP (UInt8.ofNat 41) s (↑(nrP s (↑sh1.1:Int).toNat sh1.2).2.1:Int).toNat (nrP s (↑sh1.1 :
 Int).toNat sh1.2).2.2).1:Int),V.j (mkP (UInt8.ofNat 41) s (↑(nrP s (↑sh1.1:Int).toNat sh1.2).2.1:Int).toNat (nrP s (↑sh1.1 :
 Int).toNat sh1.2).2.2).2]),R0 LCd.rose sh5]))))) (some (V.agg [V.j (↑sh6.1:Int),V.s (Al UInt8),V.j 0,V.b false,V.i
 .i64 0,V.ref 1 0 0],[some (Blk.box [V.s s,V.j (↑sh2.1:Int),V.j (bif sh2.2 then (↑sh2.1:Int) else b)]),R0 LCd.rose
 sh5]))))) (ifT (decide (0<=(↑(blA s a.toNat (bdI b)):Int)/\(↑(blA s a.toNat (bdI b)):Int).toNat<=s.length/\s.length<=400/\(-1:Int)<=b/\b<=1000/\b
 < 0)) (ifB ((↑sh6.1:Int)==(3:Int)) (ifT (decide (0<=(↑sh2.1:Int)/\(↑sh2.1:Int).toNat<=s.length/\s.length<=400/\((-1:Int)<=bif sh2.2
 then (↑sh2.1:Int) else b)/\(bif sh2.2 then (↑sh2.1:Int) else b)<=(1000:Int)/\(0:Int)<(40:Int)/\(40:Int)<(256:Int))) (ifT (decide (0<=
 (↑sh1.1:Int)/\(↑sh1.1:Int).toNat<=s.length/\s.length<=400/\(-1:Int)<=sh1.2/\sh1.2<=(1000:Int))) (ifT (decide (0<=(↑(nrP s (↑sh1.1 :
 Int).toNat sh1.2).2.1:Int)/\(↑(nrP s (↑sh1.1:Int).toNat sh1.2).2.1:Int).toNat<=s.length/\s.length<=400/\(-1:Int)<=(nrP s (↑sh1.1 :
 Int).toNat sh1.2).2.2/\(nrP s (↑sh1.1:Int).toNat sh1.2).2.2<=(1000:Int)/\(0:Int)<(41:Int)/\(41:Int)<(256:Int))) (some (V.agg [V.i .i64
 (↑sh6.1:Int),V.s (Al UInt8),V.j 0,V.b false,V.j (↑(nrP s (↑sh1.1:Int).toNat sh1.2).1:Int),V.ref 1 0 0],[some (Blk.box [V.s s,V.i .i64
 (↑(mkP (UInt8.ofNat 41) s (↑(nrP s (↑sh1.1:Int).toNat sh1.2).2.1:Int).toNat (nrP s (↑sh1.1:Int).toNat sh1.2).2.2).1:Int),V.j (mkP
 (UInt8.ofNat 41) s (↑(nrP s (↑sh1.1:Int).toNat sh1.2).2.1:Int).toNat (nrP s (↑sh1.1:Int).toNat sh1.2).2.2).2]),R0 LCd.rose sh5]))))) (some (V.agg [V.j (↑sh6.1:Int),V.s (Al UInt8),V.j 0,V.b false,V.j 0,V.ref 1 0 0],[some (Blk.box [V.s s,V.j (↑sh2.1
 : Int),V.j (bif sh2.2 then (↑sh2.1:Int) else b)]),R0 LCd.rose sh5])))))) (ifB ((bif bdI b then (0:Int) else (↑(nxt s (↑(blA s
 a.toNat (bdI b)):Int).toNat).toNat:Int))==(123:Int)) (ifB (decide (d<500)) sh4 (ifT (decide (0<=(↑(blA s a.toNat (bdI b)):Int)/\(↑(blA s a.toNat (bdI b)) :
 Int).toNat<=s.length/\s.length<=400/\(-1:Int)<=b/\b<=1000/\b<0)) (ifB ((↑sh6.1:Int)==(3:Int)) (ifT (decide (0<=(↑sh2.1:Int)/\(↑sh2.1 :
 Int).toNat<=s.length/\s.length<=400/\((-1:Int)<=bif sh2.2 then (↑sh2.1:Int) else b)/\(bif sh2.2 then (↑sh2.1:Int) else b)<=(1000:Int)/\(0
 : Int)<(40:Int)/\(40:Int)<(256:Int))) (ifT (decide (0<=(↑sh1.1:Int)/\(↑sh1.1:Int).toNat<=s.length/\s.length<=400/\(-1:Int)<=sh1.2/\
 sh1.2<=(1000:Int))) (ifT (decide (0<=(↑(nrP s (↑sh1.1:Int).toNat sh1.2).2.1:Int)/\(↑(nrP s (↑sh1.1:Int).toNat sh1.2).2.1:Int).toNat<=
 s.length/\s.length<=400/\(-1:Int)<=(nrP s (↑sh1.1:Int).toNat sh1.2).2.2/\(nrP s (↑sh1.1:Int).toNat sh1.2).2.2<=(1000:Int)/\(0 :
 Int)<(41:Int)/\(41:Int)<(256:Int))) (some (V.agg [V.j (↑sh6.1:Int),V.s (Al UInt8),V.j 0,V.b false,V.j (↑(nrP s (↑sh1.1:Int).toNat
 sh1.2).1:Int),V.ref 1 0 0],[some (Blk.box [V.s s,V.j (↑(mkP (UInt8.ofNat 41) s (↑(nrP s (↑sh1.1:Int).toNat sh1.2).2.1:Int).toNat (nrP s
 (↑sh1.1:Int).toNat sh1.2).2.2).1:Int),V.j (mkP (UInt8.ofNat 41) s (↑(nrP s (↑sh1.1:Int).toNat sh1.2).2.1:Int).toNat (nrP s
 (↑sh1.1:Int).toNat sh1.2).2.2).2]),R0 LCd.rose sh5]))))) (some (V.agg [V.j (↑sh6.1:Int),V.s (Al UInt8),V.j 0,V.b
 false,V.j 0,V.ref 1 0 0],[some (Blk.box [V.s s,V.j (↑sh2.1:Int),V.j (bif sh2.2 then (↑sh2.1:Int) else b)]),R0 LCd.rose sh5]))))) (ifT (decide (0<=(↑(blA s a.toNat (bdI b)):Int)/\(↑(blA s a.toNat (bdI b)):Int).toNat<=s.length/\s.length<=400/\(-1:Int)<=b/\b<=
 1000/\b<0)) (ifB ((↑sh6.1:Int)==(3:Int)) (ifT (decide (0<=(↑sh2.1:Int)/\(↑sh2.1:Int).toNat<=s.length/\s.length<=400/\((-1:Int)<=bif
 sh2.2 then (↑sh2.1:Int) else b)/\(bif sh2.2 then (↑sh2.1:Int) else b)<=(1000:Int)/\(0:Int)<(40:Int)/\(40:Int)<(256:Int))) (ifT (decide (0<=
 (↑sh1.1:Int)/\(↑sh1.1:Int).toNat<=s.length/\s.length<=400/\(-1:Int)<=sh1.2/\sh1.2<=(1000:Int))) (ifT (decide (0<=(↑(nrP s (↑sh1.1 :
 Int).toNat sh1.2).2.1:Int)/\(↑(nrP s (↑sh1.1:Int).toNat sh1.2).2.1:Int).toNat<=s.length/\s.length<=400/\(-1:Int)<=(nrP s (↑sh1.1 :
 Int).toNat sh1.2).2.2/\(nrP s (↑sh1.1:Int).toNat sh1.2).2.2<=(1000:Int)/\(0:Int)<(41:Int)/\(41:Int)<(256:Int))) (some (V.agg [V.i .i64
 (↑sh6.1:Int),V.s (Al UInt8),V.j 0,V.b false,V.j (↑(nrP s (↑sh1.1:Int).toNat sh1.2).1:Int),V.ref 1 0 0],[some (Blk.box [V.s s,V.i .i64
 (↑(mkP (UInt8.ofNat 41) s (↑(nrP s (↑sh1.1:Int).toNat sh1.2).2.1:Int).toNat (nrP s (↑sh1.1:Int).toNat sh1.2).2.2).1:Int),V.j (mkP
 (UInt8.ofNat 41) s (↑(nrP s (↑sh1.1:Int).toNat sh1.2).2.1:Int).toNat (nrP s (↑sh1.1:Int).toNat sh1.2).2.2).2]),R0 LCd.rose sh5]))))) (some (V.agg [V.j (↑sh6.1:Int),V.s (Al UInt8),V.j 0,V.b false,V.j 0,V.ref 1 0 0],[some (Blk.box [V.s s,V.j (↑sh2.1
 : Int),V.j (bif sh2.2 then (↑sh2.1:Int) else b)]),R0 LCd.rose sh5]))))))))):_):=by kernel_rfl
end Go.Proofs.YthbecdipboideaaDoor.Den
