/- What functions of the program do, by the machine: Dr1 Dr2 Val1 Val2 Val3 Val4 Val5 Val6 Val7 Val8 Val9 Val10 Val11 Val12 Val13 Val14 Val15. -/
import Derived.Test.YteninfkgajnfcaaGreatDA
import Derived.KernelRfl
import Derived.Test.YteninfkgajnfcaaGreatRows
namespace Go.Proofs.YteninfkgajnfcaaGreat.Den
open IntKind (i64)
open Go.Proofs.Tryz
open List (Pairwise all_eq_true any_cons any_eq_true append_assoc append_nil drop drop_eq_getElem_cons drop_eq_nil_of_le drop_zero getElem_mem length_append length_drop mem_cons mem_range nil_append pairwise_cons range take take_length)
open Int (eq_ofNat_of_zero_le toNat)
open Nat (le_trans lt_succ_self)
open Go.Proofs
set_option maxRecDepth 100000
def drT (n:Nat) (z:Rose Lab):Prop:=Ao z<=n/\Cf z=true
def I3 (d m:Int) (f:Cur->Rose Lab×Cur):Gm
 | [.ptr 0 0,.i .i64 x],[.box [.sl (.int .u8) l,.i .i64 a,.i .u64 s]]=>.need (decide (x=d/\0<=d/\(Cur.mk l a s).good m)) (.leaf (.agg [.i .i64 (f (Cur.mk l a s)).1.lab.1,.s (f (Cur.mk l a s)).1.lab.2.1,.i .i64 (f (Cur.mk l a s)).1.lab.2.2.1,.b (f (Cur.mk l a s)).1.lab.2.2.2.1,.i .i64 (f (Cur.mk l a s)).1.lab.2.2.2.2.1,.ref 1 0 (f (Cur.mk l a s)).1.kids.length],[some (cB (f (Cur.mk l a s)).2),some (.row false none (.rose LCd) (f (Cur.mk l a s)).1.kids)]))
 | _,_=>.no
def HR (d m:Int) (f:Cur->Rose Lab×Cur):Gm
 | [.ptr 0 0,.i .i64 x],[.box [.sl (.int .u8) l,.i .i64 a,.i .u64 s]]=>.need (decide (x=d/\0<=d/\(Cur.mk l a s).good m)) (.leaf (.agg [.i .i64 (f (Cur.mk l a s)).1.lab.1,.s (f (Cur.mk l a s)).1.lab.2.1,.i .i64 (f (Cur.mk l a s)).1.lab.2.2.1,.b (f (Cur.mk l a s)).1.lab.2.2.2.1,.i .i64 (f (Cur.mk l a s)).1.lab.2.2.2.2.1,.ref 1 0 (f (Cur.mk l a s)).1.kids.length],[some (cB (f (Cur.mk l a s)).2),some (.row false none (.rose LCd) (f (Cur.mk l a s)).1.kids)]))
 | _,_=>.no
def G7 (e m q:Int) (o:Cur×List (Rose Lab)×Nat×List (List UInt8)->List (Rose Lab)×Cur):LoopEnt:=⟨39,[0,1,4,5,10,11,12],[4,5],[],fun
 | ([.ptr 0 0,.i .i64 d,.ptr 1 0,.ptr 2 0,.ref 3 0 5,.i .i64 k,.i .i64 i],[some (.box [.sl (.int .u8) l,.i .i64 a,.i .u64 s]),some (.box [.i .i64 0,.s [],.i .i64 0,.b false,.i .i64 0,.ref 4 0 0]),some (.box [.i .i64 5,.s [],.i .i64 0,.b false,.i .i64 0,.ref 5 0 n]),some (.row false none .str nm),some (.row false none (.rose LCd) []),some (.row false none (.rose LCd) ks)])=>.need (decide (d=e/\k=5/\0<=i/\i<=5/\n=ks.length/\ks.length<=i.toNat/\nm.length=5/\(Cur.mk l a s).good (m+i*q))&&nm.all (fun x=>decide (x.length<=10))) (.leaf (.exit 0,([.ptr 1 0,.ptr 2 0],[some (cB (o (Cur.mk l a s,ks,i.toNat,nm)).2),some (.box [.i .i64 0,.s [],.i .i64 0,.b false,.i .i64 0,.ref 3 0 0]),some (.box [.i .i64 5,.s [],.i .i64 0,.b false,.i .i64 0,.ref 4 0 (o (Cur.mk l a s,ks,i.toNat,nm)).1.length]),some (.row false none (.rose LCd) []),some (.row false none (.rose LCd) (o (Cur.mk l a s,ks,i.toNat,nm)).1)])))
 | _=>.no⟩
theorem Fi (d m m' q:Int) (f:Cur->Rose Lab×Cur) (o:Cur×List (Rose Lab)×Nat×List (List UInt8)->List (Rose Lab)×Cur) (k i:Int) (l:List Int) (a s:Int) (n:Nat) (nm:List (List UInt8)) (ks:List (Rose Lab)):A0 prog (Ab [(53,.own C7),(147,.own (I3 d m' f))]) (Ab [(3,G7 d m q o)]) 1 (body f102 0) (G7 d m q o) ([.ptr 0 0,.j d,.ptr 1 0,.ptr 2 0,.ref 3 0 5,.j k,.j i],[some (.box [.sl (.int .u8) l,.j a,.i .u64 s]),some (.box [.j 0,.s [],.j 0,.b false,.j 0,.ref 4 0 0]),some (.box [.j 5,.s [],.j 0,.b false,.j 0,.ref 5 0 n]),some (.row false none .str nm),some (.row false none (.rose LCd) []),some (.row false none (.rose LCd) ks)]) =
 ((ifB (decide (i<k)) (ifT (decide ((0:Int)<=i)&&decide (i<(↑(5:Nat):Int))) (Ap nm[0+i.toNat]? fun z=>ifT (decide ((Cur.mk l a s).good (900000000
 : Int))) (ifB (!(Cur.mk l a s).pickV (2:Int)==(0:Int)) (some (Ex.normal,[V.ptr 0 0,V.j d,V.ptr 1 0,V.ptr 2 0,V.ref 3 0 5,V.j k,V.i .i64
 (i64.wrap (i+(1:Int)))],[some (Blk.box [V.sl (Cd.int .u8) ((Cur.mk l a s).pickC (2:Int)).l,V.j ((Cur.mk l a s).pickC (2:Int)).a,V.i .u64 ((Cur.mk
 l a s).pickC (2:Int)).s]),some (Blk.box [V.j 0,V.s (Ag UInt8),V.j 0,V.b false,V.j 0,V.ref 4 0 0]),some (Blk.box [V.j 5,V.s (Ag UInt8),
 V.j 0,V.b false,V.j 0,V.ref 5 0 n]),some (Blk.row false none Cd.str nm),some (Blk.row false none LCd.rose (Ag LCd.rose.den)),some (Blk.row false none
 LCd.rose ks)])) (ifT (decide (d=d/\(0:Int)<=d/\((Cur.mk l a s).pickC (2:Int)).good m')) (ifT (decide ((f ((Cur.mk l a s).pickC (2:Int))).snd.good (900000000 :
 Int))) (ifT (decide ((n+1)*72<=140737488355328)&&decide (n+1<=maxI)) (some (Ex.normal,[V.ptr 0 0,V.j d,V.ptr 1 0,V.ptr
 2 0,V.ref 3 0 5,V.j k,V.j (i64.wrap (i+(1:Int)))],[some (Blk.box [V.sl (Cd.int .u8) ((f ((Cur.mk l a s).pickC (2:Int))).snd.pickC (3 :
 Int)).l,V.j ((f ((Cur.mk l a s).pickC (2:Int))).snd.pickC (3:Int)).a,V.i .u64 ((f ((Cur.mk l a s).pickC (2:Int))).snd.pickC (3:Int)).s]),some (Blk.box
 [V.j 0,V.s (Ag UInt8),V.j 0,V.b false,V.j 0,V.ref 4 0 0]),some (Blk.box [V.j 5,V.s (Ag UInt8),V.j 0,V.b false,V.j 0,V.ref 5 0
 (n+1)]),some (Blk.row false none Cd.str nm),some (Blk.row false none LCd.rose (Ag LCd.rose.den)),some (Blk.row false none LCd.rose (take n (drop
 0 ks)++Rose.node ((f ((Cur.mk l a s).pickC (2:Int))).fst.lab.fst,z,i64.wrap (i+(1:Int)),(f ((Cur.mk l a s).pickC (2:Int))).snd.pickV (3 :
 Int)==(0:Int),(f ((Cur.mk l a s).pickC (2:Int))).fst.lab.snd.snd.snd.snd.fst,()) (take (f ((Cur.mk l a s).pickC (2:Int))).fst.kids.length (drop (0 :
 Nat) (f ((Cur.mk l a s).pickC (2:Int))).fst.kids))::Ag LCd.rose.den))])))))))) (some (Ex.exit 0,[V.ptr 1 0,V.ptr 2 0],[some (Blk.box [V.sl (Cd.int .u8) l,V.i
 .i64 a,V.i .u64 s]),some (Blk.box [V.j 0,V.s (Ag UInt8),V.j 0,V.b false,V.j 0,V.ref 3 0 0]),some (Blk.box [V.j 5,V.s (Ag UInt8),V.i .i64
 0,V.b false,V.j 0,V.ref 4 0 n]),some (Blk.row false none LCd.rose (Ag LCd.rose.den)),some (Blk.row false none LCd.rose ks)]))):_):=by kernel_rfl
theorem VD (d m:Int) (f:Cur->Rose Lab×Cur) (g:Cur->Rose Lab×Cur) (l:List Int) (a s:Int):Bt prog (Ab [(103,.own Bk),(147,.own (I3 (d-1) m f)),(102,.own (HR (d-1) m g))]) (Ab []) f147 [.ptr 0 0,.j d] [.box [.sl (.int .u8) l,.j a,.i .u64 s]] =
 ((ifT (decide ((Cur.mk l a s).good (900000000:Int))) (ifB ((Cur.mk l a s).pickV (6:Int)==(0:Int)) (ifB ((Cur.mk l a s).pickV (6:Int)==(0:Int)) (some (V.agg
 [V.j 1,V.s (Ag UInt8),V.j 0,V.b false,V.j 0,V.ref 1 0 0],[some (Blk.box [V.sl (Cd.int .u8) ((Cur.mk l a s).pickC (6:Int)).l,V.j ((Cur.mk l
 a s).pickC (6:Int)).a,V.i .u64 ((Cur.mk l a s).pickC (6:Int)).s]),some (Blk.row false none LCd.rose (Ag LCd.rose.den))])) (ifB ((Cur.mk l a s).pickV (6:Int)==
 (2:Int)) (some (V.agg [V.j 2,V.s (Ag UInt8),V.j 0,V.b false,V.j 0,V.ref 1 0 0],[some (Blk.box [V.sl (Cd.int .u8) ((Cur.mk l a s).pickC (6 :
 Int)).l,V.j ((Cur.mk l a s).pickC (6:Int)).a,V.i .u64 ((Cur.mk l a s).pickC (6:Int)).s]),some (Blk.row false none LCd.rose (Ag LCd.rose.den))])) (ifB
 ((Cur.mk l a s).pickV (6:Int)==(3:Int)) (ifT (decide (((Cur.mk l a s).pickC (6:Int)).good (900000000:Int))) (some (V.agg [V.j 3,V.s (Ag UInt8),V.i .i64
 0,V.b false,V.j (((Cur.mk l a s).pickC (6:Int)).pickV (5:Int)),V.ref 1 0 0],[some (Blk.box [V.sl (Cd.int .u8) (((Cur.mk l a s).pickC (6:Int)).pickC (5 :
 Int)).l,V.j (((Cur.mk l a s).pickC (6:Int)).pickC (5:Int)).a,V.i .u64 (((Cur.mk l a s).pickC (6:Int)).pickC (5:Int)).s]),some (Blk.row false none LCd.rose
 (Ag LCd.rose.den))]))) (ifB ((Cur.mk l a s).pickV (6:Int)==(4:Int)) (ifB (decide (d>(0:Int))) (ifT (decide (i64.wrap (d-(1:Int))=d-(1:Int)/\
 (0:Int)<=d-(1:Int)/\((Cur.mk l a s).pickC (6:Int)).good m)) (some (V.agg [V.j 4,V.s (Ag UInt8),V.j 0,V.b false,V.j 0,V.ref 1 0 1],[some
 (Blk.box [V.sl (Cd.int .u8) (f ((Cur.mk l a s).pickC (6:Int))).snd.l,V.j (f ((Cur.mk l a s).pickC (6:Int))).snd.a,V.i .u64 (f ((Cur.mk l a s).pickC (6 :
 Int))).snd.s]),some (Blk.row false none LCd.rose (Rose.node ((f ((Cur.mk l a s).pickC (6:Int))).fst.lab.fst,(f ((Cur.mk l a s).pickC (6:Int))).fst.lab.snd.fst,(f
 ((Cur.mk l a s).pickC (6:Int))).fst.lab.snd.snd.fst,(f ((Cur.mk l a s).pickC (6:Int))).fst.lab.snd.snd.snd.fst,(f ((Cur.mk l a s).pickC (6 :
 Int))).fst.lab.snd.snd.snd.snd.fst,()) (take (f ((Cur.mk l a s).pickC (6:Int))).fst.kids.length (drop 0 (f ((Cur.mk l a s).pickC (6 :
 Int))).fst.kids))::Ag LCd.rose.den))]))) (some (V.agg [V.j 1,V.s (Ag UInt8),V.j 0,V.b false,V.j 0,V.ref 1 0 0],[some (Blk.box [V.sl (Cd.int
 .u8) ((Cur.mk l a s).pickC (6:Int)).l,V.j ((Cur.mk l a s).pickC (6:Int)).a,V.i .u64 ((Cur.mk l a s).pickC (6:Int)).s]),some (Blk.row false none LCd.rose
 (Ag LCd.rose.den))]))) (ifB (decide (d>(0:Int))) (ifT (decide (i64.wrap (d-(1:Int))=d-(1:Int)/\(0:Int)<=d-(1:Int)/\((Cur.mk l a s).pickC
 (6:Int)).good m)) (some (V.agg [V.j (g ((Cur.mk l a s).pickC (6:Int))).fst.lab.fst,V.s (g ((Cur.mk l a s).pickC (6:Int))).fst.lab.snd.fst,V.j (g
 ((Cur.mk l a s).pickC (6:Int))).fst.lab.snd.snd.fst,V.b (g ((Cur.mk l a s).pickC (6:Int))).fst.lab.snd.snd.snd.fst,V.j (g ((Cur.mk l a s).pickC (6 :
 Int))).fst.lab.snd.snd.snd.snd.fst,V.ref 1 0 (g ((Cur.mk l a s).pickC (6:Int))).fst.kids.length],[some (Blk.box [V.sl (Cd.int .u8) (g ((Cur.mk l a s).pickC (6 :
 Int))).snd.l,V.j (g ((Cur.mk l a s).pickC (6:Int))).snd.a,V.i .u64 (g ((Cur.mk l a s).pickC (6:Int))).snd.s]),some (Blk.row false none LCd.rose (g ((Cur.mk l
 a s).pickC (6:Int))).fst.kids)]))) (some (V.agg [V.j 1,V.s (Ag UInt8),V.j 0,V.b false,V.j 0,V.ref 1 0 0],[some (Blk.box [V.sl (Cd.int .u8)
 ((Cur.mk l a s).pickC (6:Int)).l,V.j ((Cur.mk l a s).pickC (6:Int)).a,V.i .u64 ((Cur.mk l a s).pickC (6:Int)).s]),some (Blk.row false none LCd.rose (Ag
 LCd.rose.den))]))))))) (ifB ((Cur.mk l a s).pickV (6:Int)==(1:Int)) (some (V.agg [V.j 1,V.s (Ag UInt8),V.j 0,V.b false,V.j 0,V.ref 1 0 0],
 [some (Blk.box [V.sl (Cd.int .u8) ((Cur.mk l a s).pickC (6:Int)).l,V.j ((Cur.mk l a s).pickC (6:Int)).a,V.i .u64 ((Cur.mk l a s).pickC (6:Int)).s]),some
 (Blk.row false none LCd.rose (Ag LCd.rose.den))])) (ifB ((Cur.mk l a s).pickV (6:Int)==(2:Int)) (some (V.agg [V.j 2,V.s (Ag UInt8),V.j 0,V.b false,
 V.j 0,V.ref 1 0 0],[some (Blk.box [V.sl (Cd.int .u8) ((Cur.mk l a s).pickC (6:Int)).l,V.j ((Cur.mk l a s).pickC (6:Int)).a,V.i .u64 ((Cur.mk l a
 s).pickC (6:Int)).s]),some (Blk.row false none LCd.rose (Ag LCd.rose.den))])) (ifB ((Cur.mk l a s).pickV (6:Int)==(3:Int)) (ifT (decide (((Cur.mk l a s).pickC
 (6:Int)).good (900000000:Int))) (some (V.agg [V.j 3,V.s (Ag UInt8),V.j 0,V.b false,V.j (((Cur.mk l a s).pickC (6:Int)).pickV (5:Int)),V.ref
 1 0 0],[some (Blk.box [V.sl (Cd.int .u8) (((Cur.mk l a s).pickC (6:Int)).pickC (5:Int)).l,V.j (((Cur.mk l a s).pickC (6:Int)).pickC (5:Int)).a,V.i .u64
 (((Cur.mk l a s).pickC (6:Int)).pickC (5:Int)).s]),some (Blk.row false none LCd.rose (Ag LCd.rose.den))]))) (ifB ((Cur.mk l a s).pickV (6:Int)==(4:Int)) (ifB
 (decide (d>(0:Int))) (ifT (decide (i64.wrap (d-(1:Int))=d-(1:Int)/\(0:Int)<=d-(1:Int)/\((Cur.mk l a s).pickC (6:Int)).good m)) (some
 (V.agg [V.j 4,V.s (Ag UInt8),V.j 0,V.b false,V.j 0,V.ref 1 0 1],[some (Blk.box [V.sl (Cd.int .u8) (f ((Cur.mk l a s).pickC (6:Int))).snd.l,V.i
 .i64 (f ((Cur.mk l a s).pickC (6:Int))).snd.a,V.i .u64 (f ((Cur.mk l a s).pickC (6:Int))).snd.s]),some (Blk.row false none LCd.rose (Rose.node ((f ((Cur.mk l a
 s).pickC (6:Int))).fst.lab.fst,(f ((Cur.mk l a s).pickC (6:Int))).fst.lab.snd.fst,(f ((Cur.mk l a s).pickC (6:Int))).fst.lab.snd.snd.fst,(f ((Cur.mk l a s).pickC
 (6:Int))).fst.lab.snd.snd.snd.fst,(f ((Cur.mk l a s).pickC (6:Int))).fst.lab.snd.snd.snd.snd.fst,()) (take (f ((Cur.mk l a s).pickC (6:Int))).fst.kids.length
 (drop 0 (f ((Cur.mk l a s).pickC (6:Int))).fst.kids))::Ag LCd.rose.den))]))) (some (V.agg [V.j 1,V.s (Ag UInt8),V.j 0,V.b false,V.i
 .i64 0,V.ref 1 0 0],[some (Blk.box [V.sl (Cd.int .u8) ((Cur.mk l a s).pickC (6:Int)).l,V.j ((Cur.mk l a s).pickC (6:Int)).a,V.i .u64 ((Cur.mk l a s).pickC (6
 : Int)).s]),some (Blk.row false none LCd.rose (Ag LCd.rose.den))]))) (ifB (decide (d>(0:Int))) (ifT (decide (i64.wrap (d-(1:Int))=d-(1:Int)/\(0
 : Int)<=d-(1:Int)/\((Cur.mk l a s).pickC (6:Int)).good m)) (some (V.agg [V.j (g ((Cur.mk l a s).pickC (6:Int))).fst.lab.fst,V.s (g ((Cur.mk l a s).pickC
 (6:Int))).fst.lab.snd.fst,V.j (g ((Cur.mk l a s).pickC (6:Int))).fst.lab.snd.snd.fst,V.b (g ((Cur.mk l a s).pickC (6:Int))).fst.lab.snd.snd.snd.fst,V.i .i64
 (g ((Cur.mk l a s).pickC (6:Int))).fst.lab.snd.snd.snd.snd.fst,V.ref 1 0 (g ((Cur.mk l a s).pickC (6:Int))).fst.kids.length],[some (Blk.box [V.sl (Cd.int .u8) (g
 ((Cur.mk l a s).pickC (6:Int))).snd.l,V.j (g ((Cur.mk l a s).pickC (6:Int))).snd.a,V.i .u64 (g ((Cur.mk l a s).pickC (6:Int))).snd.s]),some (Blk.row false
 none LCd.rose (g ((Cur.mk l a s).pickC (6:Int))).fst.kids)]))) (some (V.agg [V.j 1,V.s (Ag UInt8),V.j 0,V.b false,V.j 0,V.ref 1 0 0],[some
 (Blk.box [V.sl (Cd.int .u8) ((Cur.mk l a s).pickC (6:Int)).l,V.j ((Cur.mk l a s).pickC (6:Int)).a,V.i .u64 ((Cur.mk l a s).pickC (6:Int)).s]),some (Blk.row
 false none LCd.rose (Ag LCd.rose.den))]))))))))):_):=by kernel_rfl
theorem Tn (d m m' q:Int) (f:Cur->Rose Lab×Cur) (o:Cur×List (Rose Lab)×Nat×List (List UInt8)->List (Rose Lab)×Cur) (l:List Int) (a s:Int):Bt prog (Ab [(53,.own C7),(147,.own (I3 d m' f))]) (Ab [(3,G7 d m q o)]) f102 [.ptr 0 0,.j d] [.box [.sl (.int .u8) l,.j a,.i .u64 s]] =
 ((ifT (decide (d=d/\(↑(5:Nat):Int)=(5:Int)/\(0:Int)<=(0:Int)/\(0:Int)<=(5:Int)/\0=0/\0<=0/\5=5
 /\ (Cur.mk l a s).good (m+(0:Int)*q))&&([(97:UInt8)]::[(98:UInt8)]::[(110:UInt8),(97:UInt8),(109:UInt8),(101:UInt8)]::[(108:UInt8),(105 :
 UInt8),(115:UInt8),(116:UInt8)]::[(107:UInt8),(105:UInt8),(110:UInt8),(100:UInt8)]::Ag Cd.str.den).all fun x=>decide (List.length x<=(10 :
 Nat))) (some (V.agg [V.j 5,V.s (Ag UInt8),V.j 0,V.b false,V.j 0,V.ref 1 0 (o (Cur.mk l a s,Ag LCd.rose.den,0,[(97:UInt8)]::[(98 :
 UInt8)]::[(110:UInt8),(97:UInt8),(109:UInt8),(101:UInt8)]::[(108:UInt8),(105:UInt8),(115:UInt8),(116:UInt8)]::[(107:UInt8),(105:UInt8),
 (110:UInt8),(100:UInt8)]::Ag Cd.str.den)).fst.length],[some (Blk.box [V.sl (Cd.int .u8) (o (Cur.mk l a s,Ag LCd.rose.den,0,[(97:UInt8)]::[(98 :
 UInt8)]::[(110:UInt8),(97:UInt8),(109:UInt8),(101:UInt8)]::[(108:UInt8),(105:UInt8),(115:UInt8),(116:UInt8)]::[(107:UInt8),(105:UInt8),
 (110:UInt8),(100:UInt8)]::Ag Cd.str.den)).snd.l,V.j (o (Cur.mk l a s,Ag LCd.rose.den,0,[(97:UInt8)]::[(98:UInt8)]::[(110:UInt8),(97
 : UInt8),(109:UInt8),(101:UInt8)]::[(108:UInt8),(105:UInt8),(115:UInt8),(116:UInt8)]::[(107:UInt8),(105:UInt8),(110:UInt8),(100:UInt8)]::
 Ag Cd.str.den)).snd.a,V.i .u64 (o (Cur.mk l a s,Ag LCd.rose.den,0,[(97:UInt8)]::[(98:UInt8)]::[(110:UInt8),(97:UInt8),(109:UInt8),(101 :
 UInt8)]::[(108:UInt8),(105:UInt8),(115:UInt8),(116:UInt8)]::[(107:UInt8),(105:UInt8),(110:UInt8),(100:UInt8)]::Ag Cd.str.den)).snd.s]),some
 (Blk.row false none LCd.rose (o (Cur.mk l a s,Ag LCd.rose.den,0,[(97:UInt8)]::[(98:UInt8)]::[(110:UInt8),(97:UInt8),(109:UInt8),(101 :
 UInt8)]::[(108:UInt8),(105:UInt8),(115:UInt8),(116:UInt8)]::[(107:UInt8),(105:UInt8),(110:UInt8),(100:UInt8)]::Ag Cd.str.den)).fst)]))):_):=by kernel_rfl
theorem P8 : ∀ (ks:List (Rose Lab)) (z:Rose Lab),Ak (ks++[z])=Ak ks+Ao z
 | [],z=>by rw [nil_append,Ak,Ak,Ak]; omega
 | y::ks,z=>by rw [List.cons_append,Ak,P8 ks z,Ak]; omega
theorem VI (x:Lab) (h:x.2.1.length<=10) (n:Nat):drT (n+1) (.node x []):=by
 have hM:maxI=9223372036854775807:=rfl
 exact ⟨by rw [Ao,Ak]; omega,by rw [Cf,El,dcT (by omega)]; rfl⟩
theorem XE {n:Nat} {z:Rose Lab} (h:drT n z):drT (n+1) (.node (4,[],0,false,0,()) [z]):=by
 obtain ⟨h1,h2⟩:=h
 exact ⟨by rw [Ao,Ak,Ak]; omega,by rw [Cf,El,El,h2]; rfl⟩
theorem KQ {n m:Nat} {z:Rose Lab} (h:drT n z) (hm:n<=m):drT m z:=⟨le_trans h.1 hm,h.2⟩
theorem RR {n:Nat} {z:Rose Lab} (h:drT n z):drT n (.node (z.lab.1,z.lab.2.1,z.lab.2.2.1,z.lab.2.2.2.1,z.lab.2.2.2.2.1,()) z.kids):=by cases z; exact h
theorem ZS {n:Nat} {z:Rose Lab} (h:drT n z) (x:Lab) (hx:x.2.1.length<=10):drT n (.node x z.kids):=by
 have hM:maxI=9223372036854775807:=rfl
 obtain ⟨y,ks⟩:=z
 obtain ⟨h1,h2⟩:=h
 refine ⟨by rw [Ao] at h1 ⊢; exact h1,?_⟩
 rw [Cf,anE] at h2 ⊢
 exact ⟨dcT (by omega),h2.2⟩
theorem ZO (d m m' K:Int) (N:Nat) (h0:m+2<=m') (h1:m'<=800000000) (hK:0<=K) (hd:0<=d/\d<=100) (f g:Cur->Rose Lab×Cur) (pf:0<d->∀ c n,c.good n->n<=m'->(f c).2.good (n+K)/\drT N (f c).1) (pg:0<d->∀ c n,c.good n->n<=m'->(g c).2.good (n+K)/\drT N (g c).1)
    (l:List Int) (a s:Int) (hc:(Cur.mk l a s).good m):Ex1 (Bt prog (Ab [(103,.own Bk),(147,.own (I3 (d-1) m' f)),(102,.own (HR (d-1) m' g))]) (Ab []) f147 [.ptr 0 0,.j d] [.box [.sl (.int .u8) l,.j a,.i .u64 s]]) (fun y:Rose Lab×Cur=>((.agg [.j y.1.lab.1,.s y.1.lab.2.1,.j y.1.lab.2.2.1,.b y.1.lab.2.2.2.1,.j y.1.lab.2.2.2.2.1,.ref 1 0 y.1.kids.length],[some (cB y.2),some (.row false none (.rose LCd) y.1.kids)]):V×List (Option Blk))) (fun y=>∀ n,(Cur.mk l a s).good n->n<=m->y.2.good (n+(K+4))/\drT (N+1) y.1):=by
  refine Ex1.of (VD d m' f g l a s) ?_
  have w1:i64.wrap (d-1)=d-1:=Ay (by omega) (by omega)
  have g1:(Cur.mk l a s).good 900000000:=Cur.good_mono hc (by omega)
  have g2:((Cur.mk l a s).pickC 6).good 900000000:=Cur.pk (Cur.good_mono hc (by omega))
  have g3:((Cur.mk l a s).pickC 6).good m':=Cur.pk (Cur.good_mono hc (by omega))
  simp only [w1,Ab7,AI,drop_zero,take_length]
  repeat' first
    | ((with_reducible refine Ex1.B (fun h=>?_) (fun h=>?_)))
    | with_reducible refine Ex1.T ?_ ?_
  all_goals first
    | exact dcT g1
    | exact dcT g2
    | (refine dcT ⟨trivial,?_,g3⟩; have:=of_decide_eq_true ‹decide (d>0)=true›; omega)
    | (refine dcT ⟨rfl,?_,g3⟩; have:=of_decide_eq_true ‹decide (d>0)=true›; omega)
    | refine Ex1.P (.node (_,_,_,_,_,()) _,_) rfl rfl fun n hn hm=>⟨?_,?_⟩
  all_goals try first
    | exact VI _ (by simp) _
    | exact Cur.good_mono (Cur.pickC_good hn) (by omega)
    | exact Cur.good_mono (Cur.pickC_good (Cur.pickC_good hn)) (by omega)
    | (have hp:=of_decide_eq_true ‹decide (d>0)=true›
       first
       | exact Cur.good_mono (pf hp _ _ (Cur.pickC_good hn) (by omega)).1 (by omega)
       | exact Cur.good_mono (pg hp _ _ (Cur.pickC_good hn) (by omega)).1 (by omega)
       | exact KQ (RR (pg hp _ _ (Cur.pickC_good hn) (by omega)).2) (by omega)
       | exact XE (RR (pf hp _ _ (Cur.pickC_good hn) (by omega)).2))
theorem XF {ks:List (Rose Lab)} {z:Rose Lab} {n m:Nat} (h1:Ak ks<=n) (h2:El ks=true) (h:drT m z):Ak (ks++[z])<=n+m/\El (ks++[z])=true:=by
 obtain ⟨h3,h4⟩:=h
 exact ⟨by rw [P8]; omega,Kl _ _ h2 h4⟩
theorem To (d m m' K:Int) (N:Nat) (h0:m+5*(K+4)<=m') (h1:m'<=800000000) (hK:0<=K) (hd:0<=d) (f:Cur->Rose Lab×Cur) (pf : ∀ c n,c.good n->n<=m'->(f c).2.good (n+K)/\drT N (f c).1) :
  ∀ x:Cur×List (Rose Lab)×Nat×List (List UInt8),(x.1.good (m+(x.2.2.1:Int)*(K+4))/\x.2.2.1<=5/\x.2.1.length<=x.2.2.1/\x.2.2.2.length=5/\∀ z∈x.2.2.2,z.length<=10)->
   ∃ y:List (Rose Lab)×Cur,(∀ o,Runs prog (Ab [(53,.own C7),(147,.own (I3 d m' f))]) (Ab [(3,G7 d m (K+4) o)]) 1 (body f102 0) (G7 d m (K+4) o) ((fun x:Cur×List (Rose Lab)×Nat×List (List UInt8)=>([.ptr 0 0,.j d,.ptr 1 0,.ptr 2 0,.ref 3 0 5,.j 5,.j (x.2.2.1:Int)],[some (cB x.1),some (.box [.j 0,.s [],.j 0,.b false,.j 0,.ref 4 0 0]),some (.box [.j 5,.s [],.j 0,.b false,.j 0,.ref 5 0 x.2.1.length]),some (.row false none .str x.2.2.2),some (.row false none (.rose LCd) []),some (.row false none (.rose LCd) x.2.1)])) x) ((fun y:List (Rose Lab)×Cur=>(((.exit 0:Ex),([.ptr 1 0,.ptr 2 0],[some (cB y.2),some (.box [.j 0,.s [],.j 0,.b false,.j 0,.ref 3 0 0]),some (.box [.j 5,.s [],.j 0,.b false,.j 0,.ref 4 0 y.1.length]),some (.row false none (.rose LCd) []),some (.row false none (.rose LCd) y.1)])):Ex×Dt)) y).1 ((fun y:List (Rose Lab)×Cur=>(((.exit 0:Ex),([.ptr 1 0,.ptr 2 0],[some (cB y.2),some (.box [.j 0,.s [],.j 0,.b false,.j 0,.ref 3 0 0]),some (.box [.j 5,.s [],.j 0,.b false,.j 0,.ref 4 0 y.1.length]),some (.row false none (.rose LCd) []),some (.row false none (.rose LCd) y.1)])):Ex×Dt)) y).2)/\
    ((∀ n,x.1.good n->n<=m+(x.2.2.1:Int)*(K+4)->y.2.good (n+(5-(x.2.2.1:Int))*(K+4)))/\∀ n,Ak x.2.1<=n->El x.2.1=true->Ak y.1<=n+(5-x.2.2.1)*N/\El y.1=true):=by
 refine FK (ι:=Cur×List (Rose Lab)×Nat×List (List UInt8)->List (Rose Lab)×Cur) (fun _=>([],Cur.mk [] 0 0)) (Λ:=fun o=>(Ab [(3,G7 d m (K+4) o)])) (ent:=fun o=>G7 d m (K+4) o) (fun x:Cur×List (Rose Lab)×Nat×List (List UInt8)=>([.ptr 0 0,.j d,.ptr 1 0,.ptr 2 0,.ref 3 0 5,.j 5,.j (x.2.2.1:Int)],[some (cB x.1),some (.box [.j 0,.s [],.j 0,.b false,.j 0,.ref 4 0 0]),some (.box [.j 5,.s [],.j 0,.b false,.j 0,.ref 5 0 x.2.1.length]),some (.row false none .str x.2.2.2),some (.row false none (.rose LCd) []),some (.row false none (.rose LCd) x.2.1)])) (fun y:List (Rose Lab)×Cur=>(((.exit 0:Ex),([.ptr 1 0,.ptr 2 0],[some (cB y.2),some (.box [.j 0,.s [],.j 0,.b false,.j 0,.ref 3 0 0]),some (.box [.j 5,.s [],.j 0,.b false,.j 0,.ref 4 0 y.1.length]),some (.row false none (.rose LCd) []),some (.row false none (.rose LCd) y.1)])):Ex×Dt)) (fun y=>by simp) _ _ (fun x=>5-x.2.2.1) (fun o x _=>(Fi d m m' (K+4) f o 5 (x.2.2.1:Int) x.1.l x.1.a x.1.s x.2.1.length x.2.2.2 x.2.1).trans (Fi d m m' (K+4) f _ 5 (x.2.2.1:Int) x.1.l x.1.a x.1.s x.2.1.length x.2.2.2 x.2.1).symm) ?_
 rintro ⟨c,ks,i,nm⟩ ⟨hc,hi,hk,h5,hnm⟩
 dsimp only at hc hi hk h5 hnm ⊢
 have hM:maxI=9223372036854775807:=rfl
 have hq:0<=(i:Int)*(K+4):=Int.mul_nonneg (by omega) (by omega)
 have hq5:(i:Int)*(K+4)<=5*(K+4):=Int.mul_le_mul_of_nonneg_right (by omega) (by omega)
 by_cases h:i<5
 ·right
  refine Ex1.of (Fi d m m' (K+4) f _ 5 (i:Int) c.l c.a c.s ks.length nm ks) ?_
  have hq4:(i:Int)*(K+4)+(K+4)<=5*(K+4):=by
   have:((i:Int)+1)*(K+4)<=5*(K+4):=Int.mul_le_mul_of_nonneg_right (by omega) (by omega)
   rw [Int.add_mul] at this; omega
  have e1:((i:Int)+1)*(K+4)=(i:Int)*(K+4)+(K+4):=by rw [Int.add_mul]; omega
  rw [Af (dcT (by omega))]
  simp only [BN,show Cur.mk c.l c.a c.s=c from rfl,A3 (n:=i) (by omega),AI,drop_zero,take_length,ntN,Nat.zero_add]
  have g0:c.good 900000000:=Cur.good_mono hc (by omega)
  have g1:(c.pickC 2).good m':=Cur.pk (Cur.good_mono hc (by omega))
  have pf1:=pf _ _ (Cur.pickC_good (k:=2) hc) (by omega)
  refine Ex1.T (by simp; omega) (Ex1.S ⟨nm[i],gtE (by omega)⟩ fun z hz=>Ex1.T (dcT g0) (Ex1.B (fun _=>?_) (fun _=>Ex1.T (dcT ⟨trivial,hd,g1⟩) (Ex1.T (dcT (Cur.good_mono pf1.1 (by omega))) (Ex1.T (by simp; omega) ?_)))))
  ·refine Ex1.P3 (c.pickC 2,ks,i+1,nm) rfl rfl rfl ⟨⟨?_,by dsimp only; omega,by dsimp only; omega,h5,hnm⟩,by dsimp only; omega,fun y hy=>⟨fun n hn hl=>?_,fun n hn hl=>?_⟩⟩
   ·exact Cur.good_mono (Cur.pickC_good hc) (by dsimp only; push_cast; rw [e1]; omega)
   ·refine Cur.good_mono (hy.1 (n+2) (Cur.pickC_good hn) (by dsimp only; push_cast; rw [e1]; omega)) ?_
    dsimp only; push_cast; rw [show (5-((i:Int)+1))*(K+4)=(5-(i:Int))*(K+4)-(K+4) by rw [show (5-((i:Int)+1))=(5-(i:Int))-1 by omega,Int.sub_mul]; omega]; omega
   ·have:=hy.2 n hn hl
    refine ⟨le_trans this.1 (Nat.add_le_add_left (Nat.mul_le_mul_right _ (by dsimp only; omega)) _),this.2⟩
  ·have hzl:z.length<=10:=hnm z (List.mem_of_getElem? hz)
   have dz:=ZS pf1.2 ((f (c.pickC 2)).1.lab.1,z,((i+1:Nat):Int),(f (c.pickC 2)).2.pickV 3==0,(f (c.pickC 2)).1.lab.2.2.2.2.1,()) hzl
   refine Ex1.P3 ((f (c.pickC 2)).2.pickC 3,ks++[.node ((f (c.pickC 2)).1.lab.1,z,((i+1:Nat):Int),(f (c.pickC 2)).2.pickV 3==0,(f (c.pickC 2)).1.lab.2.2.2.2.1,()) (f (c.pickC 2)).1.kids],i+1,nm) (by simp) rfl rfl ⟨⟨?_,by dsimp only; omega,by simp; omega,h5,hnm⟩,by dsimp only; omega,fun y hy=>⟨fun n hn hl=>?_,fun n hn hl=>?_⟩⟩
   ·exact Cur.good_mono (Cur.pickC_good pf1.1) (by dsimp only; push_cast; rw [e1]; omega)
   ·refine Cur.good_mono (hy.1 (n+(K+4)) (Cur.good_mono (Cur.pickC_good (pf _ _ (Cur.pickC_good (k:=2) hn) (by omega)).1) (by omega)) (by dsimp only; push_cast; rw [e1]; omega)) ?_
    dsimp only; push_cast; rw [show (5-((i:Int)+1))*(K+4)=(5-(i:Int))*(K+4)-(K+4) by rw [show (5-((i:Int)+1))=(5-(i:Int))-1 by omega,Int.sub_mul]; omega]; omega
   ·obtain ⟨q1,q2⟩:=XF hn hl dz
    have:=hy.2 (n+N) q1 q2
    refine ⟨le_trans this.1 ?_,this.2⟩
    dsimp only
    rw [show 5-i=(5-(i+1))+1 by omega,Nat.add_mul]; omega
 ·left
  refine Ex1.of (Fi d m m' (K+4) f _ 5 (i:Int) c.l c.a c.s ks.length nm ks) ?_
  rw [Ac (dcF (by omega))]
  refine Ex1.L (ks,c) rfl ⟨fun n hn hl=>Cur.good_mono hn ?_,fun n hn hl=>⟨le_trans hn (Nat.le_add_right _ _),hl⟩⟩
  have:(5-(i:Int))=0:=by omega
  rw [this]; omega
theorem X9 (d m m' K:Int) (N:Nat) (h0:m+2<=m') (h1:m'<=800000000) (hK:0<=K) (hd:0<=d/\d<=100) (f g:Cur->Rose Lab×Cur) (hf:Ad prog 147 (Ent.own (I3 (d-1) m' f)).F) (hg:Ad prog 102 (Ent.own (HR (d-1) m' g)).F) (pf:0<d->∀ c n,c.good n->n<=m'->(f c).2.good (n+K)/\drT N (f c).1) (pg:0<d->∀ c n,c.good n->n<=m'->(g c).2.good (n+K)/\drT N (g c).1) :
  ∃ h:Cur->Rose Lab×Cur,Ad prog 147 (Ent.own (I3 d m h)).F/\∀ c n,c.good n->n<=m->(h c).2.good (n+(K+4))/\drT (N+1) (h c).1:=by
 obtain ⟨h,hh⟩:=Dw (Y:=Rose Lab×Cur) (.node (0,[],0,false,0,()) [],Cur.mk [] 0 0) (fun (c:Cur) (hc:c.good m)=>ZO d m m' K N h0 h1 hK hd f g pf pg c.l c.a c.s hc)
 refine ⟨h,?_,fun c n hc hn=>(hh c (Cur.good_mono hc hn)).2 n hc hn⟩
 refine Au (kc func103 FX (kc func147 hf (kc func102 hg KnowsL.nil))).knows (Λ:=Ab []) func147 (c:=f147.body.getD .skip) (by kernel_rfl) fun vs bs r hq hv hb=>?_
 unfold Ent.F I3 at hq
 dsimp only at hq
 split at hq
 ·rename_i x l a s
  obtain ⟨hc,hx⟩:=Ae hq
  obtain ⟨rfl,_,hc⟩:=of_decide_eq_true hc
  exact ⟨Aq _,(hh (Cur.mk l a s) hc).1.trans hx⟩
 ·cases hq
theorem VK (d m m' K:Int) (N:Nat) (h0:m+5*(K+4)<=m') (h1:m'<=100000000) (hK:0<=K) (hd:0<=d/\d<=100) (f:Cur->Rose Lab×Cur) (hf:Ad prog 147 (Ent.own (I3 d m' f)).F) (pf : ∀ c n,c.good n->n<=m'->(f c).2.good (n+K)/\drT N (f c).1) :
  ∃ h:Cur->Rose Lab×Cur,Ad prog 102 (Ent.own (HR d m h)).F/\∀ c n,c.good n->n<=m->(h c).2.good (n+5*(K+4))/\drT (5*N+1) (h c).1:=by
 obtain ⟨o,ho⟩:=Dw (Y:=List (Rose Lab)×Cur) ([],Cur.mk [] 0 0) (To d m m' K N h0 (by omega) hK hd.1 f pf)
 have ex : ∀ c:Cur,c.good m->Ex1 (Bt prog (Ab [(53,.own C7),(147,.own (I3 d m' f))]) (Ab [(3,G7 d m (K+4) o)]) f102 [.ptr 0 0,.j d] [.box [.sl (.int .u8) c.l,.j c.a,.i .u64 c.s]]) (fun y:Rose Lab×Cur=>((.agg [.j y.1.lab.1,.s y.1.lab.2.1,.j y.1.lab.2.2.1,.b y.1.lab.2.2.2.1,.j y.1.lab.2.2.2.2.1,.ref 1 0 y.1.kids.length],[some (cB y.2),some (.row false none (.rose LCd) y.1.kids)]):V×List (Option Blk))) (fun y=>∀ n,c.good n->n<=m->y.2.good (n+5*(K+4))/\drT (5*N+1) y.1):=fun c hc=>by
  refine Ex1.of (Tn d m m' (K+4) f o c.l c.a c.s) ?_
  have hI:(c.good (m+((0:Nat):Int)*(K+4))/\(0:Nat)<=5/\([]:List (Rose Lab)).length<=0/\([[97],[98],[110,97,109,101],[108,105,115,116],[107,105,110,100]]:List (List UInt8)).length=5/\∀ z∈([[97],[98],[110,97,109,101],[108,105,115,116],[107,105,110,100]]:List (List UInt8)),z.length<=10):=⟨Cur.good_mono hc (by omega),by omega,by simp,rfl,by simp⟩
  have:=(ho (c,[],0,[[97],[98],[110,97,109,101],[108,105,115,116],[107,105,110,100]]) hI).2
  refine Ex1.T (by simp only [anE,dcE]; exact ⟨⟨trivial,rfl,by omega,by omega,trivial,by omega,trivial,Cur.good_mono hc (by omega)⟩,by rfl⟩) ?_
  refine Ex1.P (.node (5,[],0,false,0,()) (o (c,[],0,[[97],[98],[110,97,109,101],[108,105,115,116],[107,105,110,100]])).1,(o (c,[],0,[[97],[98],[110,97,109,101],[108,105,115,116],[107,105,110,100]])).2) rfl rfl fun n hn hm=>⟨?_,?_⟩
  ·exact Cur.good_mono (this.1 n hn (by dsimp only; omega)) (by dsimp only; omega)
  ·obtain ⟨q1,q2⟩:=this.2 0 (by dsimp only; rw [Ak]; omega) rfl
   dsimp only at q1 q2
   exact ⟨by dsimp only; rw [Ao]; omega,by dsimp only; rw [Cf,q2]; rfl⟩
 obtain ⟨h,hh⟩:=Dw (Y:=Rose Lab×Cur) (.node (0,[],0,false,0,()) [],Cur.mk [] 0 0) ex
 refine ⟨h,?_,fun c n hc hn=>(hh c (Cur.good_mono hc hn)).2 n hc hn⟩
 refine Au (kc func53 QR (kc func147 hf KnowsL.nil)).knows (Λ:=(Ab [(3,G7 d m (K+4) o)])) func102 (c:=f102.body.getD .skip) (by kernel_rfl) fun vs bs r hq hv hb=>?_
 unfold Ent.F HR at hq
 dsimp only at hq
 split at hq
 ·rename_i x l a s
  obtain ⟨hc,hx⟩:=Ae hq
  obtain ⟨rfl,_,hc⟩:=of_decide_eq_true hc
  refine ⟨Ax (a:=body f102 0) (by kernel_rfl) fun d ex d' h=>?_,(hh (Cur.mk l a s) hc).1.trans hx⟩
  unfold G7 at h
  dsimp only at h
  split at h
  ·rename_i d0 k i l a s n nm ks
   obtain ⟨hc,hx⟩:=Ae h
   rw [anE] at hc
   obtain ⟨hc,hall⟩:=hc
   obtain ⟨rfl,rfl,q1,q2,rfl,q4,q5,q6⟩:=of_decide_eq_true hc
   obtain ⟨i,rfl⟩:=eq_ofNat_of_zero_le q1
   simp only [ntN] at q4 hx
   have h8:=Ar hx
   obtain ⟨rfl,rfl⟩:=Prod.mk.inj h8
   exact (ho (Cur.mk l a s,ks,i,nm) ⟨q6,by dsimp only; omega,q4,q5,fun z hz=>of_decide_eq_true (all_eq_true.1 hall z hz)⟩).1 o
  ·cases h
 ·cases hq
def VM (g:Int->Cur->Rose Lab×Cur):Gm
 | [.ptr 0 0,.i .i64 x],[.box [.sl (.int .u8) l,.i .i64 a,.i .u64 s]]=>.need (decide (0<=x/\x<=3/\(Cur.mk l a s).good 83000000)) (.leaf (.agg [.i .i64 (g x (Cur.mk l a s)).1.lab.1,.s (g x (Cur.mk l a s)).1.lab.2.1,.i .i64 (g x (Cur.mk l a s)).1.lab.2.2.1,.b (g x (Cur.mk l a s)).1.lab.2.2.2.1,.i .i64 (g x (Cur.mk l a s)).1.lab.2.2.2.2.1,.ref 1 0 (g x (Cur.mk l a s)).1.kids.length],[some (cB (g x (Cur.mk l a s)).2),some (.row false none (.rose LCd) (g x (Cur.mk l a s)).1.kids)]))
 | _,_=>.no
def TyEx (d m K:Int) (N:Nat):Prop:=∃ f:Cur->Rose Lab×Cur,Ad prog 147 (Ent.own (I3 d m f)).F/\(0<=d->∀ c n,c.good n->n<=m->(f c).2.good (n+K)/\drT N (f c).1)
def MsEx (d m K:Int) (N:Nat):Prop:=∃ f:Cur->Rose Lab×Cur,Ad prog 102 (Ent.own (HR d m f)).F/\(0<=d->∀ c n,c.good n->n<=m->(f c).2.good (n+K)/\drT N (f c).1)
theorem TyEx.weak {d m K m2 K2:Int} {N N2:Nat} (h:TyEx d m K N) (h1:m2<=m) (h2:K<=K2) (h3:N<=N2):TyEx d m2 K2 N2:=by
 obtain ⟨f,hf,pf⟩:=h
 refine ⟨f,GA hf fun vs bs r hq=>?_,fun hd c n hc hn=>?_⟩
 ·unfold Ent.F I3 at hq ⊢
  dsimp only at hq ⊢
  split at hq
  ·rename_i x l a s
   obtain ⟨hc,hx⟩:=Ae hq
   obtain ⟨q1,q2,q3⟩:=of_decide_eq_true hc
   have:decide (x=d/\0<=d/\(Cur.mk l a s).good m)=true:=dcT ⟨q1,q2,Cur.good_mono q3 h1⟩
   rw [this]
   exact hx
  ·cases hq
 ·have:=pf hd c n hc (by omega)
  exact ⟨Cur.good_mono this.1 (by omega),KQ this.2 h3⟩
theorem TyEx.none (m K:Int) (N:Nat):TyEx (-1) m K N:=by
 refine ⟨fun c=>(.node (0,[],0,false,0,()) [],c),AX fun vs bs=>?_,fun h=>by omega⟩
 unfold Ent.F I3
 dsimp only
 split
 ·rename_i x l a s
  have:decide (x=(-1:Int)/\(0:Int)<=-1/\(Cur.mk l a s).good m)=false:=dcF (by omega)
  rw [this]; rfl
 ·rfl
theorem MsEx.weak {d m K m2 K2:Int} {N N2:Nat} (h:MsEx d m K N) (h1:m2<=m) (h2:K<=K2) (h3:N<=N2):MsEx d m2 K2 N2:=by
 obtain ⟨f,hf,pf⟩:=h
 refine ⟨f,GA hf fun vs bs r hq=>?_,fun hd c n hc hn=>?_⟩
 ·unfold Ent.F HR at hq ⊢
  dsimp only at hq ⊢
  split at hq
  ·rename_i x l a s
   obtain ⟨hc,hx⟩:=Ae hq
   obtain ⟨q1,q2,q3⟩:=of_decide_eq_true hc
   have:decide (x=d/\0<=d/\(Cur.mk l a s).good m)=true:=dcT ⟨q1,q2,Cur.good_mono q3 h1⟩
   rw [this]
   exact hx
  ·cases hq
 ·have:=pf hd c n hc (by omega)
  exact ⟨Cur.good_mono this.1 (by omega),KQ this.2 h3⟩
theorem MsEx.none (m K:Int) (N:Nat):MsEx (-1) m K N:=by
 refine ⟨fun c=>(.node (0,[],0,false,0,()) [],c),AX fun vs bs=>?_,fun h=>by omega⟩
 unfold Ent.F HR
 dsimp only
 split
 ·rename_i x l a s
  have:decide (x=(-1:Int)/\(0:Int)<=-1/\(Cur.mk l a s).good m)=false:=dcF (by omega)
  rw [this]; rfl
 ·rfl
theorem Jt {d d' m m' K:Int} {N:Nat} (h1:TyEx d' m' K N) (h2:MsEx d' m' K N) (hd:d'=d-1) (hd2:0<=d/\d<=100) (h0:m+2<=m') (hm:m'<=800000000) (hK:0<=K):TyEx d m (K+4) (N+1):=by
 subst hd
 obtain ⟨f,hf,pf⟩:=h1
 obtain ⟨g,hg,pg⟩:=h2
 obtain ⟨h,hh,ph⟩:=X9 d m m' K N h0 hm hK hd2 f g hf hg (fun h=>pf (by omega)) (fun h=>pg (by omega))
 exact ⟨h,hh,fun _=>ph⟩
theorem J2 {d m m' K:Int} {N:Nat} (h1:TyEx d m' K N) (hd2:0<=d/\d<=100) (h0:m+5*(K+4)<=m') (hm:m'<=100000000) (hK:0<=K):MsEx d m (5*(K+4)) (5*N+1):=by
 obtain ⟨f,hf,pf⟩:=h1
 obtain ⟨h,hh,ph⟩:=VK d m m' K N h0 hm hK hd2 f hf (pf hd2.1)
 exact ⟨h,hh,fun _=>ph⟩
theorem Abx:TyEx 0 90000000 4 1:=Jt (m':=90000002) (K:=0) (N:=0) (TyEx.none _ _ _) (MsEx.none _ _ _) (by omega) (by omega) (by omega) (by omega) (by omega)
theorem Ab0:MsEx 0 89000000 40 6:=J2 Abx (by omega) (by omega) (by omega) (by omega)
theorem Abw:TyEx 1 88000000 44 7:=Jt (Abx.weak (m2:=89000000) (K2:=40) (N2:=6) (by omega) (by omega) (by omega)) Ab0 (by omega) (by omega) (by omega) (by omega) (by omega)
theorem Abz:MsEx 1 87000000 240 36:=J2 Abw (by omega) (by omega) (by omega) (by omega)
theorem Abv:TyEx 2 86000000 244 37:=Jt (Abw.weak (m2:=87000000) (K2:=240) (N2:=36) (by omega) (by omega) (by omega)) Abz (by omega) (by omega) (by omega) (by omega) (by omega)
theorem Aby:MsEx 2 85000000 1240 186:=J2 Abv (by omega) (by omega) (by omega) (by omega)
theorem Acr:TyEx 3 84000000 1244 187:=Jt (Abv.weak (m2:=85000000) (K2:=1240) (N2:=186) (by omega) (by omega) (by omega)) Aby (by omega) (by omega) (by omega) (by omega) (by omega)
theorem Acs:MsEx 3 83000000 6240 936:=J2 Acr (by omega) (by omega) (by omega) (by omega)
theorem XI (x:Int) (h:0<=x/\x<=3):MsEx x 83000000 6240 936:=by
 have:x=0\/x=1\/x=2\/x=3:=by omega
 rcases this with rfl | rfl | rfl | rfl
 ·exact Ab0.weak (by omega) (by omega) (by omega)
 ·exact Abz.weak (by omega) (by omega) (by omega)
 ·exact Aby.weak (by omega) (by omega) (by omega)
 ·exact Acs
theorem QM : ∃ g:Int->Cur->Rose Lab×Cur,Ad prog 102 (Ent.own (VM g)).F/\∀ x c n,0<=x->x<=3->c.good n->n<=83000000->(g x c).2.good (n+6240)/\drT 936 (g x c).1:=by
 obtain ⟨g,hg⟩:=Dw (Y:=Cur->Rose Lab×Cur) (fun c=>(.node (0,[],0,false,0,()) [],c)) XI
 refine ⟨g,?_,fun x c n h0 h3 hc hn=>(hg x ⟨h0,h3⟩).2 h0 c n hc hn⟩
 refine Bb (F:=fun n=>(Ent.own (bif decide (n<=3) then HR (n:Int) 83000000 (g n) else fun _ _=>.no)).F) (fun n _=>?_) fun vs bs r hq=>?_
 ·by_cases h:n<=3
  ·rw [dcT h]
   exact (hg n (by omega)).1
  ·rw [dcF h]
   exact AX fun vs bs=>rfl
 ·unfold Ent.F VM at hq
  dsimp only at hq
  split at hq
  ·rename_i x l a s
   obtain ⟨hc,hx⟩:=Ae hq
   obtain ⟨q1,q2,q3⟩:=of_decide_eq_true hc
   obtain ⟨x,rfl⟩:=eq_ofNat_of_zero_le q1
   refine ⟨x,?_⟩
   rw [dcT (show x<=3 by omega)]
   show (Br.need (decide ((x:Int)=(x:Int)/\0<=(x:Int)/\(Cur.mk l a s).good 83000000)) (.leaf (.agg [.j (g (x:Int) (Cur.mk l a s)).1.lab.1,.s (g (x:Int) (Cur.mk l a s)).1.lab.2.1,.j (g (x:Int) (Cur.mk l a s)).1.lab.2.2.1,.b (g (x:Int) (Cur.mk l a s)).1.lab.2.2.2.1,.j (g (x:Int) (Cur.mk l a s)).1.lab.2.2.2.2.1,.ref 1 0 (g (x:Int) (Cur.mk l a s)).1.kids.length],[some (cB (g (x:Int) (Cur.mk l a s)).2),some (.row false none (.rose LCd) (g (x:Int) (Cur.mk l a s)).1.kids)]))).run=some r
   rw [dcT ⟨rfl,q1,q3⟩]
   exact hx
  ·cases hq
noncomputable def Ja:Int->Cur->Rose Lab×Cur:=QM.choose
theorem XH:Ad prog 102 (Ent.own (VM Ja)).F:=QM.choose_spec.1
theorem VL : ∀ x c n,0<=x->x<=3->c.good n->n<=83000000->(Ja x c).2.good (n+6240)/\drT 936 (Ja x c).1:=QM.choose_spec.2
abbrev Nd:=Int×List UInt8×Int×Int×Bool×Unit
def BT (n:Int):Bool:=decide (-1000000000<=n)&&decide (n<=1000000000)
def Cw (x:Lab) (n:Int) (s:List UInt8) (many:Bool):Bool:=
 if many=true then false else if x.1=2 then n==0&&decide (s.length<=30)
 else if x.1=3 then (decide (0<=n/\n<=x.2.2.2.2.1))&&s==[] else BT n&&s==[]
def upN (l:List Nd) (e:Nat):Option Int:=(l[e]?).map fun x=>x.2.2.2.1
def noN (l:List Nd) (e:Nat):Option Int:=(l[e]?).map fun x=>x.2.2.1
def C9 (l:List Nd) (a e:Nat):Bool:=upN l e==some (a:Int)
def vfI (l:List Nd) (a:Nat) (g:Nat->Int):Nat->Nat->Int
 | 0,e=>e
 | f+1,e=>if C9 l a e=true then (if noN l e=some 0 then (if g e<0 then -1 else vfI l a g f (g e).toNat) else -1) else e
mutual
def vfR (l:List Nd):Rose Lab->Nat->Int
 | .node x ks,a=>
  match l[a]? with
  | none=>-1
  | some y=>
   if Aw x.1=false then (if Cw x y.1 y.2.1 y.2.2.2.2.1=true then (a:Int)+1 else -1)
   else if (!y.2.2.2.2.1||y.1 != 0||y.2.1 != [])=true then -1
   else if x.1=4 then vfI l a (vfH l ks) l.length (a+1) else (if vfP l ks a (a+1)<0 then -1 else if C9 l a (vfP l ks a (a+1)).toNat=true then -1 else vfP l ks a (a+1))
def vfH (l:List Nd):List (Rose Lab)->Nat->Int
 | [],_=>-1
 | z::_,e=>vfR l z e
def vfP (l:List Nd):List (Rose Lab)->Nat->Nat->Int
 | [],_,e=>e
 | z::ks,a,e=>
  if C9 l a e=true/\noN l e=some z.lab.2.2.1 then (if vfR l z e<0 then -1 else vfP l ks a (vfR l z e).toNat)
  else if z.lab.2.2.2.1=true then -1 else vfP l ks a e
end
def FG:Gm
 | [.i .i64 n],[]=>.leaf (.b (BT n),[])
 | _,_=>.no
def Nr:Gm
 | [.tp LCd z 0,.agg [.i .i64 y0,.s y1,.i .i64 _,.i .i64 _,.b y4]],[]=>.leaf (.b (Cw z.lab y0 y1 y4),[])
 | _,_=>.no
def N0:Gm
 | [.bx [.i .i64 e] 0,.bx [.sl NCd l] 0,.bx [.i .i64 a] 0],[]=>.need (decide (0<=e/\0<=a)) (.leaf (.b (C9 l a.toNat e.toNat),[]))
 | _,_=>.no
theorem S7 (n:Int):AQ prog (Ab [(85,.rd1 AE)]) (Ab []) f172 [.j n] []=(.leaf (.b (BT n),[]):Br (V×List (Option Blk))).run:=by
 have e:AQ prog (Ab [(85,.rd1 AE)]) (Ab []) f172 [.j n] []=((some (V.b (decide ((-1000000000:Int)<=n/\n<=(1000000000:Int))),[])):_):=by kernel_rfl
 rw [e]
 clear e
 unfold BT
 rw [Bool.decide_and]
 rfl
theorem UQ:Ad prog 172 (Ent.rd1 FG).F:=by
 refine Am (kc func85 EL KnowsL.nil).knows (Λ:=Ab []) func172 (c:=f172.body.getD .skip) (by kernel_rfl) fun vs bs r' hq hv hb=>?_
 unfold Ent.F FG at hq
 dsimp only at hq
 split at hq
 ·rename_i n
  exact ⟨Aq _,(S7 n).trans hq⟩
 ·cases hq
theorem SM (n:Int):AQ prog (Ab [(94,.rd1 AE)]) (Ab []) f98 [.j n] []=(.leaf (.b (BT n),[]):Br (V×List (Option Blk))).run:=by
 have e:AQ prog (Ab [(94,.rd1 AE)]) (Ab []) f98 [.j n] []=((some (V.b (decide ((-1000000000:Int)<=n/\n<=(1000000000:Int))),[])):_):=by kernel_rfl
 rw [e]
 clear e
 unfold BT
 rw [Bool.decide_and]
 rfl
theorem RC:Ad prog 98 (Ent.rd1 FG).F:=by
 refine Am (kc func94 OW KnowsL.nil).knows (Λ:=Ab []) func98 (c:=f98.body.getD .skip) (by kernel_rfl) fun vs bs r' hq hv hb=>?_
 unfold Ent.F FG at hq
 dsimp only at hq
 split at hq
 ·rename_i n
  exact ⟨Aq _,(SM n).trans hq⟩
 ·cases hq
theorem Qr (z:Rose Lab) (y0:Int) (y1:List UInt8) (y2 y3:Int) (y4:Bool):AQ prog (Ab [(85,.rd1 AE),(172,.rd1 FG)]) (Ab []) f136 [.tp LCd z 0,.agg [.j y0,.s y1,.j y2,.j y3,.b y4]] []=(.leaf (.b (Cw z.lab y0 y1 y4),[]):Br (V×List (Option Blk))).run:=by
 have e:AQ prog (Ab [(85,.rd1 AE),(172,.rd1 FG)]) (Ab []) f136 [.tp LCd z 0,.agg [.j y0,.s y1,.j y2,.j y3,.b y4]] []=((ifB y4 (some (V.b false,[])) (ifB (z.lab.fst==(2:Int)) (ifB (y0==(0:Int)) (some (V.b (decide ((↑y1.length:Int)<=(30:Int))),[])) (some (V.b false,[]))) (ifB
 (z.lab.fst==(3:Int)) (ifB (decide ((0:Int)<=y0/\y0<=z.lab.snd.snd.snd.snd.fst)) (some (V.b (y1==Ag UInt8),[])) (some (V.b false,[]))) (ifB (BT y0) (some
 (V.b (y1==Ag UInt8),[])) (some (V.b false,[])))))):_):=by kernel_rfl
 rw [e]
 clear e
 unfold Cw
 cases y4 with
 | true=>rfl
 | false=>
  rw [if_neg (by simp)]
  by_cases a2:z.lab.1=2
  ·rw [if_pos a2,a2]
   cases h:y0==0
   ·rfl
   ·have:decide ((y1.length:Int)<=30)=decide (y1.length<=30):=decide_eq_decide.2 (by omega)
    simp [Br.run,this]
  ·rw [if_neg a2,Bd,Ac (beq_false_of_ne a2)]
   by_cases a3:z.lab.1=3
   ·rw [if_pos a3,a3]
    by_cases q:0<=y0/\y0<=z.lab.2.2.2.2.1
    ·rw [dcT q]; cases y1==[]<;>rfl
    ·rw [dcF q]; rfl
   ·rw [if_neg a3,Ac (beq_false_of_ne a3)]
    cases BT y0<;>cases y1==[]<;>rfl
theorem Zu:Ad prog 136 (Ent.rd1 Nr).F:=by
 refine Am (kc func85 EL (kc func172 UQ KnowsL.nil)).knows (Λ:=Ab []) func136 (c:=f136.body.getD .skip) (by kernel_rfl) fun vs bs r' hq hv hb=>?_
 unfold Ent.F Nr at hq
 dsimp only at hq
 split at hq
 ·rename_i z y0 y1 y2 y3 y4
  exact ⟨Aq _,(Qr z y0 y1 y2 y3 y4).trans hq⟩
 ·cases hq
theorem Pk (l:List Nd) (a e:Int):AQ prog (Ab []) (Ab []) f137 [.bx [.j e] 0,.bx [.sl NCd l] 0,.bx [.j a] 0] [] =
 ((ifB (decide (e<(↑l.length:Int))) (ifT (decide ((0:Int)<=e)&&decide (e<(↑l.length:Int))) (Ap l[e.toNat]? fun z=>some (V.b (z.snd.snd.snd.fst==a),[])))
 (some (V.b false,[]))):_):=by kernel_rfl
theorem Xb {l:List Nd} {a e:Nat} (h:e<l.length):C9 l a e=(l[e].2.2.2.1==(a:Int)):=by
 unfold C9 upN
 rw [gtE h,Option.map_some]
 by_cases q:l[e].2.2.2.1=(a:Int)
 ·rw [q]; simp
 ·rw [beq_false_of_ne q,beq_false_of_ne (fun h=>q (Option.some.inj h))]
theorem J0 {l:List Nd} {a e:Nat} (h:l.length<=e):C9 l a e=false:=by
 unfold C9 upN
 rw [List.getElem?_eq_none h]; rfl
theorem DB {l:List Nd} {a e:Nat} (h:C9 l a e=true):e<l.length:=by
 by_cases q:e<l.length
 ·exact q
 ·rw [J0 (by omega)] at h; cases h
theorem ZK:Ad prog 137 (Ent.rd1 N0).F:=by
 refine Am KnowsL.nil.knows (Λ:=Ab []) func137 (c:=f137.body.getD .skip) (by kernel_rfl) fun vs bs r hq hv hb=>?_
 unfold Ent.F N0 at hq
 dsimp only at hq
 split at hq
 ·rename_i e l a
  obtain ⟨hc,hx⟩:=Ae hq
  obtain ⟨h0,h1⟩:=of_decide_eq_true hc
  obtain ⟨e,rfl⟩:=eq_ofNat_of_zero_le h0
  obtain ⟨a,rfl⟩:=eq_ofNat_of_zero_le h1
  refine ⟨Aq _,Eq.trans ?_ hx⟩
  rw [Pk]
  simp only [ntN]
  by_cases q:e<l.length
  ·rw [Af (dcT (by omega)),Aa (by simp only [anE,dcE]; omega),gtE q,Xb q]
   rfl
  ·rw [Ac (dcF (by omega)),J0 (by omega)]
   rfl
 ·cases hq
def LI (n:Nat):Gm
 | [.tp LCd z 0,.sl NCd l,.i .i64 a],[]=>.need (decide (Ao z<=n/\Ao z<=1000000/\Aj z=true/\0<=a/\a.toNat<l.length/\l.length<=4000000000)) (.leaf (.i .i64 (vfR l z a.toNat),[]))
 | _,_=>.no
def Rd:Gm
 | [.tp LCd z 0,.sl NCd l,.i .i64 a],[]=>.need (decide (Ao z<=1000000/\Aj z=true/\0<=a/\a.toNat<l.length/\l.length<=4000000000)) (.leaf (.i .i64 (vfR l z a.toNat),[]))
 | _,_=>.no
def F4 (n:Nat):LoopEnt:=⟨105,[0,4,5,8,9],[8],[6],fun
 | ([.tp LCd z 0,.ptr 0 0,.ptr 1 0,.ptr 2 0,.fn 137 [] [.ptr 2 0,.ptr 0 0,.ptr 1 0]],[some (.box [.sl NCd l]),some (.box [.i .i64 a]),some (.box [.i .i64 e])])=>.need (decide (Ak z.kids<=n/\Ak z.kids<=1000000/\z.kids.length=1/\A8 z.lab.1 z.kids=true/\0<=a/\a<e/\e.toNat<=l.length/\l.length<=4000000000)) (.br (decide (vfI l a.toNat (vfH l z.kids) (l.length-e.toNat) e.toNat<0)) (.leaf (.ret,([.i .i64 (-1)],[]))) (.leaf (.exit 0,([.ptr 0 0],[some (.box [.i .i64 (vfI l a.toNat (vfH l z.kids) (l.length-e.toNat) e.toNat)])]))))
 | _=>.no⟩
def EM (n:Nat):LoopEnt:=⟨105,[4,5,8,9,69,70,71],[4,5,8,9],[6],fun
 | ([.ptr 0 0,.ptr 1 0,.ptr 2 0,.fn 137 [] [.ptr 2 0,.ptr 0 0,.ptr 1 0],.sl (.tree LCd) ks,.i .i64 k,.i .i64 i],[some (.box [.sl NCd l]),some (.box [.i .i64 a]),some (.box [.i .i64 e])])=>.need (decide (Ak ks<=n/\Ak ks<=1000000/\A8 5 ks=true/\0<=i/\i.toNat<=ks.length/\k=ks.length/\0<=a/\a<e/\e.toNat<=l.length/\l.length<=4000000000)) (.br (decide (vfP l (ks.drop i.toNat) a.toNat e.toNat<0)) (.leaf (.ret,([.i .i64 (-1)],[]))) (.leaf (.exit 2,([.ptr 0 0,.ptr 1 0,.ptr 2 0,.fn 137 [] [.ptr 2 0,.ptr 0 0,.ptr 1 0]],[some (.box [.sl NCd l]),some (.box [.i .i64 a]),some (.box [.i .i64 (vfP l (ks.drop i.toNat) a.toNat e.toNat)])]))))
 | _=>.no⟩
def W5 (l:List Nd) (g:Nat->Int):Prop:=∀ e,e<l.length->g e = -1\/((e:Int)<g e/\g e<=l.length)
theorem ML {l:List Nd} {a:Nat} {g:Nat->Int} (hg:W5 l g) : ∀ f e,e<=l.length->vfI l a g f e = -1\/((e:Int)<=vfI l a g f e/\vfI l a g f e<=l.length)
 | 0,e,h=>.inr ⟨Int.le_refl _,by rw [vfI]; omega⟩
 | f+1,e,h=>by
  rw [vfI]
  split
  ·rename_i ho
   have hl:=DB ho
   split
   ·split
    ·exact .inl rfl
    ·rename_i hn
     rcases hg e hl with h1 | ⟨h1,h2⟩
     ·omega
     ·rcases ML (a:=a) hg f (g e).toNat (by omega) with h3 | ⟨h3,h4⟩
      ·exact .inl h3
      ·exact .inr ⟨by omega,h4⟩
   ·exact .inl rfl
  ·exact .inr ⟨Int.le_refl _,by omega⟩
theorem JG {l:List Nd} {a:Nat} {g:Nat->Int} (hg:W5 l g) : ∀ f m e,l.length-e<=f->l.length-e<=m->vfI l a g f e=vfI l a g m e
 | 0,0,e,_,_=>rfl
 | 0,m+1,e,h,_=>by rw [vfI,vfI,if_neg (by rw [J0 (by omega)]; simp)]
 | f+1,0,e,_,h=>by rw [vfI,vfI,if_neg (by rw [J0 (by omega)]; simp)]
 | f+1,m+1,e,h1,h2=>by
  rw [vfI,vfI]
  split
  ·rename_i ho
   have hl:=DB ho
   split
   ·split
    ·rfl
    ·rename_i hn
     rcases hg e hl with h1 | ⟨h1,h2⟩
     ·omega
     ·exact JG hg f m _ (by omega) (by omega)
   ·rfl
  ·rfl
mutual
theorem Jo (l:List Nd) : ∀ z:Rose Lab,W5 l (vfR l z)
 | .node x ks=>fun a h=>by
  rw [vfR,gtE h]
  dsimp only
  split
  ·split
   ·exact .inr ⟨by omega,by omega⟩
   ·exact .inl rfl
  ·split
   ·exact .inl rfl
   ·split
    ·rcases ML (a:=a) (Jq l ks) l.length (a+1) h with h3 | ⟨h3,h4⟩
     ·exact .inl h3
     ·exact .inr ⟨by omega,h4⟩
    ·split
     ·exact .inl rfl
     ·split
      ·exact .inl rfl
      ·rcases Jp l ks a (a+1) h with h3 | ⟨h3,h4⟩
       ·exact .inl h3
       ·exact .inr ⟨by omega,h4⟩
theorem Jq (l:List Nd) : ∀ ks:List (Rose Lab),W5 l (vfH l ks)
 | []=>fun a h=>.inl (by rw [vfH])
 | z::_=>fun a h=>by rw [vfH]; exact Jo l z a h
theorem Jp (l:List Nd) : ∀ (ks:List (Rose Lab)) (a e:Nat),e<=l.length->vfP l ks a e = -1\/((e:Int)<=vfP l ks a e/\vfP l ks a e<=l.length)
 | [],a,e,h=>.inr (by rw [vfP]; omega)
 | z::ks,a,e,h=>by
  rw [vfP]
  split
  ·rename_i ho
   have hl:=DB ho.1
   split
   ·exact .inl rfl
   ·rcases Jo l z e hl with h1 | ⟨h1,h2⟩
    ·omega
    ·rcases Jp l ks a (vfR l z e).toNat (by omega) with h3 | ⟨h3,h4⟩
     ·exact .inl h3
     ·exact .inr ⟨by omega,h4⟩
  ·split
   ·exact .inl rfl
   ·exact Jp l ks a e h
end
theorem Ca {k:Int} {z:Rose Lab} : ∀ {l:List (Rose Lab)},A8 k l=true->z∈l->Aj z=true
 | [],_,h=>by cases h
 | y::l,hn,h=>by
  rw [A8,anE,anE] at hn
  rcases mem_cons.1 h with rfl | h
  ·exact hn.1.2
  ·exact Ca hn.2 h
theorem FI {l:List Nd} {e:Nat} (h:e<l.length):noN l e=some l[e].2.2.1:=by
 unfold noN
 rw [gtE h]; rfl
abbrev Lx (n:Nat):FuncId->Option Ent:=Ab [(88,.rd1 (LI n)),(117,.rd1 HC),(136,.rd1 Nr),(137,.rd1 N0)]
theorem Sc (n:Nat) (z:Rose Lab) (l:List Nd) (a e:Int):A0 prog (Lx n) (Ab [(11,F4 n),(19,EM n)]) 0 (body f88 0) (F4 n) ([.tp LCd z 0,.ptr 0 0,.ptr 1 0,.ptr 2 0,.fn 137 [] [.ptr 2 0,.ptr 0 0,.ptr 1 0]],[some (.box [.sl NCd l]),some (.box [.j a]),some (.box [.j e])]) =
 ((ifT (decide ((0:Int)<=e/\(0:Int)<=a)) (ifB (C9 l a.toNat e.toNat) (ifT (decide ((0:Int)<=e)&&decide (e<(↑l.length:Int))) (Ap l[e.toNat]? fun z_1=>
 ifB (z_1.snd.snd.fst != (0:Int)) (some (Ex.ret,[V.j (-1)],[])) (ifT (decide ((0:Int)<=(0:Int))&&decide ((0:Int)<(↑z.kids.length:Int))) (Ap
 z.kids[0]? fun z_2=>ifT (decide (Ao z_2<=n/\Ao z_2<=1000000/\Aj z_2=true/\(0:Int)<=e/\e.toNat<l.length/\l.length<=(4000000000 :
 Nat))) (ifB (decide (vfR l z_2 e.toNat<(0:Int))) (some (Ex.ret,[V.j (-1)],[])) (some (Ex.normal,[V.tp LCd z 0,V.ptr 0 0,V.ptr 1 0,V.ptr 2 0,V.fn
 137 [] [V.ptr 2 0,V.ptr 0 0,V.ptr 1 0]],[some (Blk.box [V.sl NCd l]),some (Blk.box [V.j a]),some (Blk.box [V.j (vfR l z_2
 e.toNat)])]))))))) (some (Ex.exit 0,[V.ptr 0 0],[some (Blk.box [V.j e])])))):_):=by kernel_rfl
theorem LJ (n:Nat) (ks:List (Rose Lab)) (l:List Nd) (k i a e:Int):A0 prog (Lx n) (Ab [(11,F4 n),(19,EM n)]) 0 (body f88 1) (EM n) ([.ptr 0 0,.ptr 1 0,.ptr 2 0,.fn 137 [] [.ptr 2 0,.ptr 0 0,.ptr 1 0],.sl (.tree LCd) ks,.j k,.j i],[some (.box [.sl NCd l]),some (.box [.j a]),some (.box [.j e])]) =
 ((ifB (decide (i<k)) (ifT (decide ((0:Int)<=i)&&decide (i<(↑ks.length:Int))) (Ap ks[i.toNat]? fun z=>ifT (decide ((0:Int)<=e/\(0:Int)<=a)) (ifB (C9
 l a.toNat e.toNat) (ifT (decide ((0:Int)<=e)&&decide (e<(↑l.length:Int))) (Ap l[e.toNat]? fun z_1=>ifB (z_1.snd.snd.fst==(Rose.lab z).snd.snd.fst) (ifT
 (decide (Ao z<=n/\Ao z<=1000000/\Aj z=true/\(0:Int)<=e/\e.toNat<l.length/\l.length<=4000000000)) (ifB (decide (vfR l z e.toNat<(0
 : Int))) (some (Ex.ret,[V.j (-1)],[])) (some (Ex.normal,[V.ptr 0 0,V.ptr 1 0,V.ptr 2 0,V.fn 137 [] [V.ptr 2 0,V.ptr 0 0,V.ptr 1 0],V.sl
 LCd.tree ks,V.j k,V.j (i64.wrap (i+(1:Int)))],[some (Blk.box [V.sl NCd l]),some (Blk.box [V.j a]),some (Blk.box [V.j (vfR l z
 e.toNat)])])))) (ifB (Rose.lab z).snd.snd.snd.fst (some (Ex.ret,[V.j (-1)],[])) (some (Ex.normal,[V.ptr 0 0,V.ptr 1 0,V.ptr 2 0,V.fn 137 []
 [V.ptr 2 0,V.ptr 0 0,V.ptr 1 0],V.sl LCd.tree ks,V.j k,V.j (i64.wrap (i+(1:Int)))],[some (Blk.box [V.sl NCd l]),some (Blk.box [V.j a]),
 some (Blk.box [V.j e])]))))) (ifB (Rose.lab z).snd.snd.snd.fst (some (Ex.ret,[V.j (-1)],[])) (some (Ex.normal,[V.ptr 0 0,V.ptr 1 0,V.ptr 2 0,V.fn
 137 [] [V.ptr 2 0,V.ptr 0 0,V.ptr 1 0],V.sl LCd.tree ks,V.j k,V.j (i64.wrap (i+(1:Int)))],[some (Blk.box [V.sl NCd l]),
 some (Blk.box [V.j a]),some (Blk.box [V.j e])])))))) (some (Ex.exit 2,[V.ptr 0 0,V.ptr 1 0,V.ptr 2 0,V.fn 137 [] [V.ptr 2 0,V.ptr 0 0,
 V.ptr 1 0]],[some (Blk.box [V.sl NCd l]),some (Blk.box [V.j a]),some (Blk.box [V.j e])]))):_):=by kernel_rfl
theorem W4 (n:Nat) (z:Rose Lab) (l:List Nd) (a:Int):AQ prog (Lx n) (Ab [(11,F4 n),(19,EM n)]) f88 [.tp LCd z 0,.sl NCd l,.j a] [] =
 ((ifT (decide ((0:Int)<=a)&&decide (a<(↑l.length:Int))) (Ap l[a.toNat]? fun z_1=>ifB (!Aw z.lab.fst) (ifB (!Cw z.lab z_1.fst z_1.snd.fst
 z_1.snd.snd.snd.snd.fst) (some (V.j (-1),[])) (some (V.j (i64.wrap (a+(1:Int))),[]))) (ifB (!z_1.snd.snd.snd.snd.fst) (some (V.j (-1),[]))
 (ifB (z_1.fst != (0:Int)) (some (V.j (-1),[])) (ifB (!z_1.snd.fst==Ag UInt8) (some (V.j (-1),[])) (ifB (z.lab.fst==(4:Int)) (ifT (decide (Ak
 z.kids<=n/\Ak z.kids<=1000000/\z.kids.length=1/\A8 z.lab.fst z.kids=true/\(0:Int)<=a/\a<i64.wrap (a+(1:Int))/\
 (i64.wrap (a+(1:Int))).toNat<=l.length/\l.length<=4000000000)) (ifB (decide (vfI l a.toNat (vfH l z.kids) (l.length-(i64.wrap (a+(1 :
 Int))).toNat) (i64.wrap (a+(1:Int))).toNat<(0:Int))) (some (V.j (-1),[])) (some (V.j (vfI l a.toNat (vfH l z.kids) (l.length -
 (i64.wrap (a+(1:Int))).toNat) (i64.wrap (a+(1:Int))).toNat),[])))) (ifT (decide (Ak z.kids<=n/\Ak z.kids<=1000000/\A8 (5 :
 Int) z.kids=true/\(0:Int)<=(0:Int)/\0<=z.kids.length/\(↑z.kids.length:Int)=(↑z.kids.length:Int)/\(0:Int)<=a/\a<i64.wrap (a+(1 :
 Int))/\(i64.wrap (a+(1:Int))).toNat<=l.length/\l.length<=4000000000)) (ifB (decide (vfP l (drop 0 z.kids) a.toNat (i64.wrap
 (a+(1:Int))).toNat<(0:Int))) (some (V.j (-1),[])) (ifT (decide ((0:Int)<=vfP l (drop 0 z.kids) a.toNat (i64.wrap (a+(1 :
 Int))).toNat/\(0:Int)<=a)) (ifB (C9 l a.toNat (vfP l (drop 0 z.kids) a.toNat (i64.wrap (a+(1:Int))).toNat).toNat) (some (V.j (-1),
 [])) (some (V.j (vfP l (drop 0 z.kids) a.toNat (i64.wrap (a+(1:Int))).toNat),[])))))))))))):_):=by kernel_rfl
theorem TH (n:Nat) (z y:Rose Lab) (l:List Nd) (a:Nat) (hk:z.kids=[y]) (g1:Ao y<=n) (g2:Ao y<=1000000) (g3:Aj y=true) (hl:l.length<=4000000000) : ∀ (j e:Nat),e+j=l.length->a<e->∀ ex d,(.br (decide (vfI l a (vfH l z.kids) (l.length-e) e<0)) (.leaf (.ret,([.j (-1)],[]))) (.leaf (.exit 0,([.ptr 0 0],[some (.box [.j (vfI l a (vfH l z.kids) (l.length-e) e)])]))):Br (Ex×Dt)).run=some (ex,d)->
  Runs prog (Lx n) (Ab [(11,F4 n),(19,EM n)]) 0 (body f88 0) (F4 n) ([.tp LCd z 0,.ptr 0 0,.ptr 1 0,.ptr 2 0,.fn 137 [] [.ptr 2 0,.ptr 0 0,.ptr 1 0]],[some (.box [.sl NCd l]),some (.box [.j (a:Int)]),some (.box [.j (e:Int)])]) ex d:=by
 intro j
 induction j using Nat.strongRecOn with
 | ind j ih=>
  intro e he hae ex d h
  have hr:=Sc n z l a e
  rw [CC] at h
  rw [Aa (dcT (by omega))] at hr
  simp only [ntN] at hr
  cases ho:C9 l a e with
  | false=>
   have hv : ∀ f,vfI l a (vfH l z.kids) f e=e:=fun f=>by cases f<;>rw [vfI]; rw [if_neg (by rw [ho]; simp)]
   rw [hv,if_neg (by omega)] at h
   have h8:=Ar h
   obtain ⟨rfl,rfl⟩:=Prod.mk.inj h8
   rw [ho,Bd] at hr
   exact .stop _ _ _ hr (by simp)
  | true=>
   have h1:=DB ho
   obtain ⟨f,hf⟩ : ∃ f,l.length-e=f+1:=⟨l.length-e-1,by omega⟩
   rw [hf,vfI,if_pos ho,FI h1,hk,vfH] at h
   rw [ho,Bq,Aa (by simp only [anE,dcE]; omega),gtE h1,As] at hr
   by_cases q:l[e].2.2.1=0
   ·have hk0:z.kids[(0:Nat)]? = some y:=by rw [hk]; rfl
    have hk1:z.kids.length=1:=by rw [hk]; rfl
    rw [Ac (by simp [q]),Aa (by rw [hk1]; rfl),hk0,As,Aa (dcT ⟨g1,g2,g3,by omega,h1,hl⟩)] at hr
    rw [q,if_pos rfl] at h
    by_cases q2:vfR l y e<0
    ·rw [if_pos q2,if_pos (by omega)] at h
     have h8:=Ar h
     obtain ⟨rfl,rfl⟩:=Prod.mk.inj h8
     rw [Af (dcT q2)] at hr
     exact .stop _ _ _ hr (by simp)
    ·rw [if_neg q2] at h
     rw [Ac (dcF q2)] at hr
     rcases Jo l y e h1 with b1 | ⟨b1,b2⟩
     ·omega
     obtain ⟨e',he'⟩:=eq_ofNat_of_zero_le (by omega:0<=vfR l y e)
     rw [he'] at hr h b1 b2
     rw [ntN,JG (Jq l [y]) f (l.length-e') e' (by omega) (by omega),<-hk] at h
     exact .step _ _ _ _ hr (ih (l.length-e') (by omega) e' (by omega) (by omega) ex d (by rw [CC]; exact h))
   ·have hv:(if some l[e].2.2.1=some (0:Int) then (if vfR l y e<0 then (-1:Int) else vfI l a (vfH l [y]) f (vfR l y e).toNat) else -1) = -1:=if_neg (by simpa using q)
    rw [hv,if_pos (by omega)] at h
    have h8:=Ar h
    obtain ⟨rfl,rfl⟩:=Prod.mk.inj h8
    rw [Af (by simpa using q)] at hr
    exact .stop _ _ _ hr (by simp)
theorem YC (n:Nat) : ∀ d e d',((F4 n).L d).run=some (e,d')->Runs prog (Lx n) (Ab [(11,F4 n),(19,EM n)]) 0 (body f88 0) (F4 n) d e d':=fun d ex d' h=>by
 unfold F4 at h
 dsimp only at h
 split at h
 ·rename_i z l a e
  obtain ⟨hc,hx⟩:=Ae h
  clear h
  obtain ⟨g1,g2,g3,g4,h0,h1,h2,h3⟩:=of_decide_eq_true hc
  obtain ⟨a,rfl⟩:=eq_ofNat_of_zero_le h0
  obtain ⟨e,rfl⟩:=eq_ofNat_of_zero_le (by omega:0<=e)
  obtain ⟨y,hy⟩:=List.length_eq_one_iff.1 g3
  rw [hy] at g1 g2 g4
  rw [Ak,Ak] at g1 g2
  rw [A8,anE,anE] at g4
  simp only [ntN] at h2 hx
  exact TH n z y l a hy (by omega) (by omega) g4.1.2 h3 (l.length-e) e (by omega) (by omega) ex d' hx
 ·cases h
theorem JH (n:Nat) (ks:List (Rose Lab)) (l:List Nd) (a:Nat) (g1:Ak ks<=n) (g2:Ak ks<=1000000) (g3:A8 5 ks=true) (hl:l.length<=4000000000) : ∀ (j i e:Nat),i+j=ks.length->a<e->e<=l.length->∀ ex d,(.br (decide (vfP l (ks.drop i) a e<0)) (.leaf (.ret,([.j (-1)],[]))) (.leaf (.exit 2,([.ptr 0 0,.ptr 1 0,.ptr 2 0,.fn 137 [] [.ptr 2 0,.ptr 0 0,.ptr 1 0]],[some (.box [.sl NCd l]),some (.box [.j (a:Int)]),some (.box [.j (vfP l (ks.drop i) a e)])]))):Br (Ex×Dt)).run=some (ex,d)->
  Runs prog (Lx n) (Ab [(11,F4 n),(19,EM n)]) 0 (body f88 1) (EM n) ([.ptr 0 0,.ptr 1 0,.ptr 2 0,.fn 137 [] [.ptr 2 0,.ptr 0 0,.ptr 1 0],.sl (.tree LCd) ks,.j (ks.length:Int),.j (i:Int)],[some (.box [.sl NCd l]),some (.box [.j (a:Int)]),some (.box [.j (e:Int)])]) ex d
 | 0,i,e,hi,hae,he,ex,d,h=>by
  have hr:=LJ n ks l ks.length i a e
  rw [drop_eq_nil_of_le (by omega),vfP,CC,if_neg (by omega)] at h
  have h8:=Ar h
  obtain ⟨rfl,rfl⟩:=Prod.mk.inj h8
  rw [Ac (dcF (by omega))] at hr
  exact .stop _ _ _ hr (by simp)
 | j+1,i,e,hi,hae,he,ex,d,h=>by
  have hil:i<ks.length:=by omega
  have hlen:=Bz ks
  have hmem:=BB (getElem_mem hil)
  have hM:maxI=9223372036854775807:=rfl
  have hri:Aj ks[i]=true:=Ca g3 (getElem_mem hil)
  have hr:=LJ n ks l ks.length i a e
  rw [Af (dcT (by omega)),Aa (by simp only [anE,dcE]; omega)] at hr
  simp only [ntN,gtE hil,As,A3 (n:=i) (by omega)] at hr
  rw [Aa (dcT (by omega))] at hr
  rw [drop_eq_getElem_cons hil,vfP] at h
  have must : ∀ {x:Option (Ex×Dt)},x=(bif ks[i].lab.2.2.2.1 then some (Ex.ret,[V.j (-1)],[]) else some (Ex.normal,[.ptr 0 0,.ptr 1 0,.ptr 2 0,.fn 137 [] [.ptr 2 0,.ptr 0 0,.ptr 1 0],.sl (.tree LCd) ks,.j (ks.length:Int),.j ((i+1:Nat):Int)],[some (.box [.sl NCd l]),some (.box [.j (a:Int)]),some (.box [.j (e:Int)])]))->
    (Br.br (decide ((if ks[i].lab.2.2.2.1=true then -1 else vfP l (ks.drop (i+1)) a e)<0)) (.leaf (.ret,([.j (-1)],[]))) (.leaf (.exit 2,([.ptr 0 0,.ptr 1 0,.ptr 2 0,.fn 137 [] [.ptr 2 0,.ptr 0 0,.ptr 1 0]],[some (.box [.sl NCd l]),some (.box [.j (a:Int)]),some (.box [.j (if ks[i].lab.2.2.2.1=true then -1 else vfP l (ks.drop (i+1)) a e)])]))):Br (Ex×Dt)).run=some (ex,d)->
    A0 prog (Lx n) (Ab [(11,F4 n),(19,EM n)]) 0 (body f88 1) (EM n) ([.ptr 0 0,.ptr 1 0,.ptr 2 0,.fn 137 [] [.ptr 2 0,.ptr 0 0,.ptr 1 0],.sl (.tree LCd) ks,.j (ks.length:Int),.j (i:Int)],[some (.box [.sl NCd l]),some (.box [.j (a:Int)]),some (.box [.j (e:Int)])])=x->Runs prog (Lx n) (Ab [(11,F4 n),(19,EM n)]) 0 (body f88 1) (EM n) ([.ptr 0 0,.ptr 1 0,.ptr 2 0,.fn 137 [] [.ptr 2 0,.ptr 0 0,.ptr 1 0],.sl (.tree LCd) ks,.j (ks.length:Int),.j (i:Int)],[some (.box [.sl NCd l]),some (.box [.j (a:Int)]),some (.box [.j (e:Int)])]) ex d:=fun hx h hr=>by
   cases hm:ks[i].lab.2.2.2.1 with
   | true=>
    rw [hm,if_pos rfl,CC,if_pos (by omega)] at h
    have h8:=Ar h
    obtain ⟨rfl,rfl⟩:=Prod.mk.inj h8
    rw [hm,cond_true] at hx
    exact .stop _ _ _ (hr.trans hx) (by simp)
   | false=>
    rw [hm,if_neg (by simp)] at h
    rw [hm,cond_false] at hx
    exact .step _ _ _ _ (hr.trans hx) (JH n ks l a g1 g2 g3 hl j (i+1) e (by omega) hae he ex d h)
  cases ho:C9 l a e with
  | false=>
   rw [ho,if_neg (by simp)] at h
   rw [ho,Bd] at hr
   exact must rfl h (hr.trans (by cases ks[i].lab.2.2.2.1<;>rfl))
  | true=>
   have h1:=DB ho
   rw [ho,Bq,Aa (by simp only [anE,dcE]; omega),gtE h1,As] at hr
   rw [ho,FI h1] at h
   by_cases q:l[e].2.2.1=ks[i].lab.2.2.1
   ·rw [Af (by rw [q]; exact beq_self_eq_true _),Aa (dcT ⟨by omega,by omega,hri,by omega,h1,hl⟩)] at hr
    rw [q,if_pos ⟨rfl,rfl⟩] at h
    by_cases q2:vfR l ks[i] e<0
    ·rw [if_pos q2,CC,if_pos (by omega)] at h
     have h8:=Ar h
     obtain ⟨rfl,rfl⟩:=Prod.mk.inj h8
     rw [Af (dcT q2)] at hr
     exact .stop _ _ _ hr (by simp)
    ·rw [if_neg q2] at h
     rw [Ac (dcF q2)] at hr
     rcases Jo l ks[i] e h1 with b1 | ⟨b1,b2⟩
     ·omega
     obtain ⟨e',he'⟩:=eq_ofNat_of_zero_le (by omega:0<=vfR l ks[i] e)
     rw [he'] at hr h b1 b2
     rw [ntN] at h
     exact .step _ _ _ _ hr (JH n ks l a g1 g2 g3 hl j (i+1) e' (by omega) (by omega) (by omega) ex d h)
   ·rw [if_neg (fun hh=>q (Option.some.inj hh.2))] at h
    rw [Ac (beq_false_of_ne q)] at hr
    exact must rfl h (hr.trans (by cases ks[i].lab.2.2.2.1<;>rfl))
theorem YB (n:Nat) : ∀ d e d',((EM n).L d).run=some (e,d')->Runs prog (Lx n) (Ab [(11,F4 n),(19,EM n)]) 0 (body f88 1) (EM n) d e d':=fun d ex d' h=>by
 unfold EM at h
 dsimp only at h
 split at h
 ·rename_i ks k i l a e
  obtain ⟨hc,hx⟩:=Ae h
  clear h
  obtain ⟨g1,g2,g3,h0,h1,rfl,h2,h3,h4,h5⟩:=of_decide_eq_true hc
  obtain ⟨a,rfl⟩:=eq_ofNat_of_zero_le h2
  obtain ⟨e,rfl⟩:=eq_ofNat_of_zero_le (by omega:0<=e)
  obtain ⟨i,rfl⟩:=eq_ofNat_of_zero_le h0
  simp only [ntN] at h1 h4 hx
  exact JH n ks l a g1 g2 g3 h5 (ks.length-i) i e (by omega) (by omega) h4 ex d' hx
 ·cases h
theorem Aas (n:Nat):A4 prog (Lx n) (Ab [(11,F4 n),(19,EM n)]) 0 (f88.body.getD .skip):=
 LoopsI.loops (.cons (a:=body f88 0) (by kernel_rfl) (YC n) (.cons (a:=body f88 1) (by kernel_rfl) (YB n) .nil)) (by kernel_rfl)
theorem PO {l:List Nd} {a:Nat} (z:Rose Lab) (h:a<l.length):vfR l z a=(if Aw z.lab.1=false then (if Cw z.lab l[a].1 l[a].2.1 l[a].2.2.2.2.1=true then (a:Int)+1 else -1)
   else if (!l[a].2.2.2.2.1||l[a].1 != 0||l[a].2.1 != [])=true then -1
   else if z.lab.1=4 then vfI l a (vfH l z.kids) l.length (a+1) else (if vfP l z.kids a (a+1)<0 then -1 else if C9 l a (vfP l z.kids a (a+1)).toNat=true then -1 else vfP l z.kids a (a+1))):=by
 cases z
 rw [vfR,gtE h]
 rfl
theorem Ck {z:Rose Lab} (h:Aj z=true):B5 z.lab z.kids=true/\A8 z.lab.1 z.kids=true:=by
 cases z
 rw [Aj,anE] at h
 exact h
theorem Y9 (n:Nat) (z:Rose Lab) (l:List Nd) (a:Int) (hc:Ao z<=n+1/\Ao z<=1000000/\Aj z=true/\0<=a/\a.toNat<l.length/\l.length<=4000000000):AQ prog (Lx n) (Ab [(11,F4 n),(19,EM n)]) f88 [.tp LCd z 0,.sl NCd l,.j a] []=some (.j (vfR l z a.toNat),[]):=by
 rw [W4]
 obtain ⟨g1,g2,g3,h0,h1,h2⟩:=hc
 obtain ⟨a,rfl⟩:=eq_ofNat_of_zero_le h0
 rw [ntN] at h1
 obtain ⟨hp,hrr⟩:=Ck g3
 have hM:maxI=9223372036854775807:=rfl
 have hw:i64.wrap ((a:Int)+1)=((a+1:Nat):Int):=A3 (by omega)
 rw [Aa (by simp only [anE,dcE]; omega),hw,ntN,ntN,gtE h1,As,PO z h1]
 have hlen:=Bz z.kids
 have hck:=Be z
 cases hh:Aw z.lab.1 with
 | false=>
  cases Cw z.lab l[a].1 l[a].2.1 l[a].2.2.2.2.1<;>rfl
 | true=>
  rw [Bool.not_true,Bd,if_neg (by simp)]
  cases l[a].2.2.2.2.1 with
  | false=>rfl
  | true=>
   cases q1:l[a].1 != 0 with
   | true=>rfl
   | false=>
    have e2:(l[a].2.1 != ([]:List UInt8)) = !(l[a].2.1==Ag UInt8):=rfl
    rw [e2]
    cases q2:l[a].2.1==Ag UInt8 with
    | false=>rfl
    | true=>
     rw [Bool.not_true,Bd,Bd,Bd,if_neg (by simp)]
     by_cases q4:z.lab.1=4
     ·have hk1:z.kids.length=1:=by
       unfold B5 at hp
       rw [if_neg (by omega),if_neg (by omega),if_pos q4,anE] at hp
       simpa using hp.2
      rw [if_pos q4,Af (by rw [q4]; rfl),Aa (dcT ⟨by omega,by omega,hk1,hrr,by omega,by omega,by omega,h2⟩)]
      rw [JG (Jq l z.kids) l.length (l.length-(a+1)) (a+1) (by omega) (by omega)]
      by_cases q5:vfI l a (vfH l z.kids) (l.length-(a+1)) (a+1)<0
      ·rw [Af (dcT q5)]
       rcases ML (a:=a) (Jq l z.kids) (l.length-(a+1)) (a+1) (by omega) with b | b
       ·rw [b]
       ·omega
      ·rw [Ac (dcF q5)]
     ·have h5:z.lab.1=5:=by
       unfold Aw at hh
       simp only [Bool.or_eq_true,beq_iff_eq] at hh
       omega
      rw [h5] at hrr
      rw [if_neg q4,Ac (beq_false_of_ne q4),Aa (dcT ⟨by omega,by omega,hrr,by omega,by omega,rfl,by omega,by omega,by omega,h2⟩),drop_zero]
      rcases Jp l z.kids a (a+1) (by omega) with b | ⟨b1,b2⟩
      ·rw [b]; rfl
      ·rw [Ac (dcF (by omega)),if_neg (by omega),Aa (dcT ⟨by omega,by omega⟩)]
       cases C9 l a (vfP l z.kids a (a+1)).toNat<;>rfl
theorem YA : ∀ n,(∀ m,m<n->Ad prog 88 (Ent.rd1 (LI m)).F)->Ad prog 88 (Ent.rd1 (LI n)).F
 | 0,_=>AX fun vs bs=>by
  unfold Ent.F LI
  dsimp only
  split
  ·rename_i z l a
   have:decide (Ao z<=0/\Ao z<=1000000/\Aj z=true/\0<=a/\a.toNat<l.length/\l.length<=4000000000)=false:=dcF (by have:=BX z; omega)
   rw [this]; rfl
  ·rfl
 | n+1,ih=>by
  refine Am (kc func88 (ih n (lt_succ_self n)) (kc func117 Q5 (kc func136 Zu (kc func137 ZK KnowsL.nil)))).knows (Λ:=(Ab [(11,F4 n),(19,EM n)])) func88 (c:=f88.body.getD .skip) (by kernel_rfl) fun vs bs r hq hv hb=>?_
  unfold Ent.F LI at hq
  dsimp only at hq
  split at hq
  ·rename_i z l a
   obtain ⟨hc,hx⟩:=Ae hq
   exact ⟨Aas n,(Y9 n z l a (of_decide_eq_true hc)).trans hx⟩
  ·cases hq
theorem Acd:Ad prog 88 (Ent.rd1 Rd).F:=by
 refine Bb (F:=fun n=>(Ent.rd1 (LI n)).F) YA fun vs bs r h=>?_
 unfold Ent.F Rd at h
 dsimp only at h
 split at h
 ·rename_i z l a
  obtain ⟨hc,hx⟩:=Ae h
  refine ⟨Ao z,?_⟩
  show (Br.need (decide (Ao z<=Ao z/\Ao z<=1000000/\Aj z=true/\0<=a/\a.toNat<l.length/\l.length<=4000000000)) (.leaf (.j (vfR l z a.toNat),[]))).run=some r
  have:decide (Ao z<=Ao z/\Ao z<=1000000/\Aj z=true/\0<=a/\a.toNat<l.length/\l.length<=4000000000)=true:=dcT ⟨Nat.le_refl _,of_decide_eq_true hc⟩
  rw [this]
  exact hx
 ·cases h
def Ew (z:Rose Lab) (v:List Nd):Bool:=decide (1<=v.length/\v.length<=40)&&(upN v 0==some (-1)&&(noN v 0==some 0&&decide (vfR v z 0=v.length)))
def CH (v:List Nd) (l:List Ty):Bool:=AC l&&Ew (kf l 0).1 v
def Nx:Gm
 | [.tp LCd z 0,.agg [.sl NCd v]],[]=>.need (decide (Ao z<=1000000/\Aj z=true)) (.leaf (.b (Ew z v),[]))
 | _,_=>.no
def M0:Gm
 | [.agg [.sl NCd v],.agg [.sl TCd l]],[]=>.need (decide (l.length<=4000000000)&&nmL l) (.leaf (.b (CH v l),[]))
 | _,_=>.no
theorem SO (z:Rose Lab) (v:List Nd) (hc:Ao z<=1000000/\Aj z=true):AQ prog (Ab [(85,.rd1 AE),(88,.rd1 Rd)]) (Ab []) f41 [.tp LCd z 0,.agg [.sl NCd v]] []=some (.b (Ew z v),[]):=by
 have e:AQ prog (Ab [(85,.rd1 AE),(88,.rd1 Rd)]) (Ab []) f41 [.tp LCd z 0,.agg [.sl NCd v]] []=((ifB (decide ((1:Int)<=(↑v.length:Int)/\(↑v.length:Int)<=(40:Int))) (ifT (decide ((0:Int)<=(0:Int))&&decide ((0:Int)<(↑v.length:Int))) (Ap v[(0
 : Nat)]? fun z_1=>ifB (z_1.snd.snd.snd.fst==(-1:Int)) (ifT (decide ((0:Int)<=(0:Int))&&decide ((0:Int)<(↑v.length:Int))) (Ap v[0]? fun z_2
 => ifB (z_2.snd.snd.fst==(0:Int)) (ifT (decide (Ao z<=1000000/\Aj z=true/\(0:Int)<=(0:Int)/\0<v.length/\v.length<=(4000000000 :
 Nat))) (some (V.b (vfR v z 0==(↑v.length:Int)),[]))) (some (V.b false,[])))) (some (V.b false,[])))) (some (V.b false,[]))):_):=by kernel_rfl
 rw [e]
 clear e
 unfold Ew
 have d1:decide ((1:Int)<=(v.length:Int)/\(v.length:Int)<=40)=decide (1<=v.length/\v.length<=40):=decide_eq_decide.2 (by omega)
 rw [d1]
 by_cases a1:1<=v.length/\v.length<=40
 ·have h0:0<v.length:=by omega
  rw [dcT a1]
  have hz:decide ((0:Int)<(v.length:Int))=true:=dcT (by omega)
  have hn:decide (Ao z<=1000000/\Aj z=true/\(0:Int)<=0/\0<v.length/\v.length<=4000000000)=true:=dcT ⟨hc.1,hc.2,by omega,h0,by omega⟩
  have hu:upN v 0=some v[0].2.2.2.1:=by unfold upN; rw [gtE h0]; rfl
  have he:(vfR v z 0==(v.length:Int))=decide (vfR v z 0=v.length):=Bool.eq_iff_iff.2 (by simp)
  have h1 : ∀ a b:Int,(some a==some b)=(a==b):=fun a b=>rfl
  rw [hz,hn,gtE h0,hu,FI h0,he,h1,h1]
  simp only [Bq,As,Bool.true_and]
  cases v[0].2.2.2.1==-1<;>cases v[0].2.2.1==0<;>rfl
 ·rw [dcF a1]; rfl
theorem Y4:Ad prog 41 (Ent.rd1 Nx).F:=by
 refine Am (kc func85 EL (kc func88 Acd KnowsL.nil)).knows (Λ:=Ab []) func41 (c:=f41.body.getD .skip) (by kernel_rfl) fun vs bs r hq hv hb=>?_
 unfold Ent.F Nx at hq
 dsimp only at hq
 split at hq
 ·rename_i z v
  obtain ⟨hc,hx⟩:=Ae hq
  exact ⟨Aq _,(SO z v (of_decide_eq_true hc)).trans hx⟩
 ·cases hq
theorem Tb (v:List Nd) (l:List Ty):AQ prog (Ab [(40,.rd1 Gk),(41,.rd1 Nx)]) (Ab []) f10 [.agg [.sl NCd v],.agg [.sl TCd l]] [] =
 ((ifT (decide (l.length<=4000000000)&&nmL l) (ifB (AC l) (ifT (decide (Ao (Rose.node ((kf l 0).fst.lab.fst,(kf l 0).fst.lab.snd.fst,(kf l
 0).fst.lab.snd.snd.fst,(kf l 0).fst.lab.snd.snd.snd.fst,(kf l 0).fst.lab.snd.snd.snd.snd.fst,()) (take (kf l 0).fst.kids.length
 (drop 0 (kf l 0).fst.kids)))<=1000000/\Aj (Rose.node ((kf l 0).fst.lab.fst,(kf l 0).fst.lab.snd.fst,(kf l (0 :
 Nat)).fst.lab.snd.snd.fst,(kf l 0).fst.lab.snd.snd.snd.fst,(kf l 0).fst.lab.snd.snd.snd.snd.fst,()) (take (kf l 0).fst.kids.length
 (drop 0 (kf l 0).fst.kids)))=true)) (some (V.b (Ew (Rose.node ((kf l 0).fst.lab.fst,(kf l 0).fst.lab.snd.fst,(kf l (0 :
 Nat)).fst.lab.snd.snd.fst,(kf l 0).fst.lab.snd.snd.snd.fst,(kf l 0).fst.lab.snd.snd.snd.snd.fst,()) (take (kf l 0).fst.kids.length
 (drop 0 (kf l 0).fst.kids))) v),[]))) (some (V.b false,[])))):_):=by kernel_rfl
theorem IV {l:List Ty} (h:AC l=true):Ao (kf l 0).1<=1000000/\Aj (kf l 0).1=true:=by
 unfold AC at h
 simp only [anE,dcE] at h
 obtain ⟨⟨⟨h1,_⟩,h3⟩,h4⟩:=h
 have hl:0<l.length:=by omega
 have hc:=K0 hl
 have hb:=Cx l 0 hl
 refine ⟨by omega,?_⟩
 unfold CY at h4
 simp only [anE] at h4
 exact h4.1.1.2
theorem Y6:Ad prog 10 (Ent.rd1 M0).F:=by
 refine Am (kc func40 Nv (kc func41 Y4 KnowsL.nil)).knows (Λ:=Ab []) func10 (c:=f10.body.getD .skip) (by kernel_rfl) fun vs bs r hq hv hb=>?_
 unfold Ent.F M0 at hq
 dsimp only at hq
 split at hq
 ·rename_i v l
  obtain ⟨hc,hx⟩:=Ae hq
  refine ⟨Aq _,Eq.trans ?_ hx⟩
  rw [Tb,hc,Dc,Db]
  unfold CH
  cases hk:AC l with
  | false=>rfl
  | true=>
   rw [dcT (IV hk)]
   rfl
 ·cases hq
abbrev An:=Int×List UInt8×Int×Bool×Unit
def Il (l:List Nd) (i:Nat):An:=match l[i]? with | some x=>(x.1,x.2.1,x.2.2.1,x.2.2.2.2.1,()) | none=>(0,[],0,false,())
def nkL (k:Int):Nat->List Nd->List Int
 | _,[]=>[]
 | i,x::l=>if x.2.2.2.1=k then (i:Int)::nkL k (i+1) l else nkL k (i+1) l
def E4 (l:List Nd) (k:Nat):List Int:=nkL k (k+1) (l.drop (k+1))
def v4t (l:List Nd):Nat->Nat->Rose An
 | 0,k=>.node (Il l k) []
 | f+1,k=>.node (Il l k) ((E4 l k).map fun i=>v4t l f i.toNat)
def v4L (l:List Nd) (k:Nat):Rose An:=v4t l l.length k
def DF:LoopEnt:=⟨29,[1,2,5,6],[5],[],fun
 | ([.i .i64 k,.ptr 0 0,.ref 1 0 n,.i .i64 i],[some (.box [.sl NCd l]),some (.row false none (.int .i64) o)])=>.need (decide (0<=i/\i.toNat<=l.length/\l.length<=4000000000/\n=o.length/\o.length<=i.toNat)) (.leaf (.exit 0,([.ref 0 0 (o++nkL k i.toNat (l.drop i.toNat)).length],[some (.row false none (.int .i64) (o++nkL k i.toNat (l.drop i.toNat)))])))
 | _=>.no⟩
def Ns:Gm
 | [.agg [.sl NCd l],.i .i64 k],[]=>.need (decide (0<=k/\k.toNat<l.length/\l.length<=4000000000)) (.leaf (.ref 0 0 (E4 l k.toNat).length,[some (.row false none (.int .i64) (E4 l k.toNat))]))
 | _,_=>.no
def EW (n:Nat):Gm
 | [.agg [.sl NCd l],.i .i64 k],[]=>.need (decide (0<=k/\k.toNat<l.length/\l.length<=4000000000/\l.length-k.toNat<=n)) (.leaf (.agg [.i .i64 (v4L l k.toNat).lab.1,.s (v4L l k.toNat).lab.2.1,.i .i64 (v4L l k.toNat).lab.2.2.1,.b (v4L l k.toNat).lab.2.2.2.1,.ref 0 0 (v4L l k.toNat).kids.length],[some (.row false none (.rose VCd) (v4L l k.toNat).kids)]))
 | _,_=>.no
def H6:Gm
 | [.agg [.sl NCd l],.i .i64 k],[]=>.need (decide (0<=k/\k.toNat<l.length/\l.length<=4000000000)) (.leaf (.agg [.i .i64 (v4L l k.toNat).lab.1,.s (v4L l k.toNat).lab.2.1,.i .i64 (v4L l k.toNat).lab.2.2.1,.b (v4L l k.toNat).lab.2.2.2.1,.ref 0 0 (v4L l k.toNat).kids.length],[some (.row false none (.rose VCd) (v4L l k.toNat).kids)]))
 | _,_=>.no
def DE (n:Nat):LoopEnt:=⟨41,[2,4,6,25,26,27],[4,6],[],fun
 | ([.ptr 0 0,.ptr 1 0,.ptr 2 0,.ref 3 0 p,.i .i64 m,.i .i64 i],[some (.box [.sl NCd l]),some (.box [.i .i64 0,.s [],.i .i64 0,.b false,.ref 4 0 0]),some (.box [.i .i64 x0,.s x1,.i .i64 x2,.b x3,.ref 5 0 k]),some (.row false none (.int .i64) q),some (.row false none (.rose VCd) []),some (.row false none (.rose VCd) ks)])=>.need (decide (0<=i/\i.toNat<=q.length/\m=q.length/\p=q.length/\k=ks.length/\ks.length<=i.toNat/\q.length<=4000000000/\l.length<=4000000000)&&(q.all fun i:Int=>decide (0<=i/\i.toNat<l.length/\l.length-i.toNat<=n))) (.leaf (.exit 0,([.ptr 0 0,.ptr 1 0],[some (.box [.i .i64 0,.s [],.i .i64 0,.b false,.ref 2 0 0]),some (.box [.i .i64 x0,.s x1,.i .i64 x2,.b x3,.ref 3 0 (ks++(q.drop i.toNat).map fun i=>v4L l i.toNat).length]),some (.row false none (.rose VCd) []),some (.row false none (.rose VCd) (ks++(q.drop i.toNat).map fun i=>v4L l i.toNat))])))
 | _=>.no⟩
theorem HZ (z:Rose An):Rose.node (z.lab.1,z.lab.2.1,z.lab.2.2.1,z.lab.2.2.2.1,()) (take z.kids.length (drop 0 z.kids))=z:=by
 obtain ⟨⟨_,_,_,_,⟨⟩⟩,ks⟩:=z
 simp [Rose.lab,Rose.kids]
theorem R2 {k:Int} : ∀ {l:List Nd} {i:Nat} {x:Int},x∈nkL k i l->∃ j:Nat,x=(j:Int)/\i<=j/\j<i+l.length
 | [],i,x,h=>by simp [nkL] at h
 | y::l,i,x,h=>by
  rw [nkL] at h
  have rest:x∈nkL k (i+1) l->∃ j:Nat,x=(j:Int)/\i<=j/\j<i+(y::l).length:=fun h=>by
   obtain ⟨j,h1,h2,h3⟩:=R2 h
   exact ⟨j,h1,by omega,by simp; omega⟩
  split at h
  ·rcases mem_cons.1 h with rfl | h
   ·exact ⟨i,rfl,Nat.le_refl _,by simp⟩
   ·exact rest h
  ·exact rest h
theorem Ki {l:List Nd} {k:Nat} {x:Int} (h:x∈E4 l k) : ∃ j:Nat,x=(j:Int)/\k<j/\j<l.length:=by
 obtain ⟨j,h1,h2,h3⟩:=R2 h
 rw [length_drop] at h3
 exact ⟨j,h1,by omega,by omega⟩
theorem Nn (k:Int) : ∀ (l:List Nd) (i:Nat),(nkL k i l).length<=l.length
 | [],i=>Nat.le_refl _
 | y::l,i=>by
  rw [nkL]
  have:=Nn k l (i+1)
  split<;>simp<;>omega
theorem Re (l:List Nd) : ∀ (f f' k:Nat),l.length-k<=f->l.length-k<=f'->k<l.length->v4t l f k=v4t l f' k
 | 0,f',k,h1,_,h=>by omega
 | f+1,0,k,_,h1,h=>by omega
 | f+1,f'+1,k,h1,h2,h=>by
  unfold v4t
  congr 1
  refine List.map_congr_left fun x hx=>?_
  obtain ⟨j,rfl,h3,h4⟩:=Ki hx
  exact Re l f f' _ (by simp; omega) (by simp; omega) (by simpa using h4)
theorem Yy {l:List Nd} {k:Nat} (h:k<l.length):v4L l k = .node (Il l k) ((E4 l k).map fun i=>v4L l i.toNat):=by
 obtain ⟨m,hm⟩ : ∃ m,l.length=m+1:=⟨l.length-1,by omega⟩
 unfold v4L
 conv=>lhs; rw [hm]
 rw [v4t]
 congr 1
 refine List.map_congr_left fun x hx=>?_
 obtain ⟨j,rfl,h3,h4⟩:=Ki hx
 exact Re l m l.length _ (by simp; omega) (by simp) (by simpa using h4)
theorem H7 (l:List Nd) (k:Int) (n:Nat) (i:Int) (o:List Int):A0 prog (Ab []) (Ab [(3,DF)]) 0 (body f92 0) DF ([.j k,.ptr 0 0,.ref 1 0 n,.j i],[some (.box [.sl NCd l]),some (.row false none (.int .i64) o)]) =
 ((ifB (decide (i<(↑l.length:Int))) (ifT (decide ((0:Int)<=i)&&decide (i<(↑l.length:Int))) (Ap l[i.toNat]? fun z=>ifB (z.snd.snd.snd.fst==k) (ifT (decide
 ((n+1)*8<=140737488355328)&&decide (n+1<=maxI)) (some (Ex.normal,[V.j k,V.ptr 0 0,V.ref 1 0 (n+1),V.i .i64
 (i64.wrap (i+(1:Int)))],[some (Blk.box [V.sl NCd l]),some (Blk.row false none (Cd.int .i64) (take n (drop 0 o)++i::Ag (Cd.int
 .i64).den))]))) (some (Ex.normal,[V.j k,V.ptr 0 0,V.ref 1 0 n,V.j (i64.wrap (i+(1:Int)))],[some (Blk.box [V.sl NCd l]),some (Blk.row false
 none (Cd.int .i64) o)])))) (some (Ex.exit 0,[V.ref 0 0 n],[some (Blk.row false none (Cd.int .i64) o)]))):_):=by kernel_rfl
theorem FO (l:List Nd) (k:Int) (hl:l.length<=4000000000) : ∀ (j i:Nat) (o:List Int),i+j=l.length->o.length<=i->
  Runs prog (Ab []) (Ab [(3,DF)]) 0 (body f92 0) DF ([.j k,.ptr 0 0,.ref 1 0 o.length,.j (i:Int)],[some (.box [.sl NCd l]),some (.row false none (.int .i64) o)]) (.exit 0) ([.ref 0 0 (o++nkL k i (l.drop i)).length],[some (.row false none (.int .i64) (o++nkL k i (l.drop i)))])
 | 0,i,o,hi,ho=>by
  have hr:=H7 l k o.length i o
  rw [Ac (dcF (by omega))] at hr
  rw [drop_eq_nil_of_le (by omega),nkL,append_nil]
  exact .stop _ _ _ hr (by simp)
 | j+1,i,o,hi,ho=>by
  have h1:i<l.length:=by omega
  have hM:maxI=9223372036854775807:=rfl
  have hr:=H7 l k o.length i o
  rw [Af (dcT (by omega)),Aa (by simp only [anE,dcE]; omega)] at hr
  simp only [ntN,gtE h1,As,A3 (n:=i) (by omega),drop_zero,take_length] at hr
  rw [drop_eq_getElem_cons h1,nkL]
  by_cases h2:l[i].2.2.2.1=k
  ·rw [Af (by rw [h2]; exact beq_self_eq_true _),Aa (by simp only [anE,dcE]; omega)] at hr
   rw [if_pos h2]
   have ih:=FO l k hl j (i+1) (o++[(i:Int)]) (by omega) (by simp; omega)
   rw [append_assoc] at ih
   exact .step _ _ _ _ (hr.trans (by simp)) ih
  ·rw [Ac (beq_false_of_ne h2)] at hr
   rw [if_neg h2]
   exact .step _ _ _ _ hr (FO l k hl j (i+1) o (by omega) (by omega))
theorem SH:A4 prog (Ab []) (Ab [(3,DF)]) 0 (f92.body.getD .skip):=by
 refine Ax (a:=body f92 0) (by kernel_rfl) fun d ex d' h=>?_
 unfold DF at h
 dsimp only at h
 split at h
 ·rename_i k n i l o
  obtain ⟨hc,hx⟩:=Ae h
  clear h
  obtain ⟨h0,h1,h2,rfl,h4⟩:=of_decide_eq_true hc
  obtain ⟨i,rfl⟩:=eq_ofNat_of_zero_le h0
  simp only [ntN] at h1 h4 hx
  have h8:=Ar hx
  obtain ⟨rfl,rfl⟩:=Prod.mk.inj h8
  exact FO l k h2 (l.length-i) i o (by omega) h4
 ·cases h
theorem Qu (l:List Nd) (k:Int) (hc:0<=k/\k.toNat<l.length/\l.length<=4000000000):CR prog (Ab []) (Ab [(3,DF)]) f92 [.agg [.sl NCd l],.j k] []=some (.ref 0 0 (E4 l k.toNat).length,[some (.row false none (.int .i64) (E4 l k.toNat))]):=by
 have e:CR prog (Ab []) (Ab [(3,DF)]) f92 [.agg [.sl NCd l],.j k] []=((ifT (decide ((0:Int)<=i64.wrap (k+(1:Int))/\(i64.wrap (k+(1:Int))).toNat<=l.length/\l.length<=4000000000/\0=0/\
 0<=(i64.wrap (k+(1:Int))).toNat)) (some (V.ref 0 0 (Ag (Cd.int .i64).den++nkL k (i64.wrap (k+(1:Int))).toNat (drop
 (i64.wrap (k+(1:Int))).toNat l)).length,[some (Blk.row false none (Cd.int .i64) (Ag (Cd.int .i64).den++nkL k (i64.wrap (k+(1:Int))).toNat
 (drop (i64.wrap (k+(1:Int))).toNat l)))]))):_):=by kernel_rfl
 rw [e]
 clear e
 obtain ⟨h0,h1,h2⟩:=hc
 obtain ⟨k,rfl⟩:=eq_ofNat_of_zero_le h0
 rw [ntN] at h1
 have hM:maxI=9223372036854775807:=rfl
 rw [A3 (n:=k) (by omega),Aa (dcT ⟨by omega,by omega,h2,by simp,by simp⟩)]
 simp only [ntN,AI,nil_append]
 rfl
theorem Zz:Ad prog 92 (Ent.rd1 Ns).F:=by
 refine AU KnowsL.nil.knows (Λ:=(Ab [(3,DF)])) func92 (c:=f92.body.getD .skip) (by kernel_rfl) fun vs bs r hq hv hb=>?_
 unfold Ent.F Ns at hq
 dsimp only at hq
 split at hq
 ·rename_i l k
  obtain ⟨hc,hx⟩:=Ae hq
  exact ⟨SH,(Qu l k (of_decide_eq_true hc)).trans hx⟩
 ·cases hq
abbrev Wv (n:Nat):FuncId->Option Ent:=Ab [(92,.rd1 Ns),(44,.rd1 (EW n))]
theorem H5 (n:Nat) (l:List Nd) (x0:Int) (x1:List UInt8) (x2:Int) (x3:Bool) (p:Nat) (m i:Int) (k:Nat) (q:List Int) (ks:List (Rose An)):A0 prog (Wv n) (Ab [(4,DE n)]) 0 (body f44 0) (DE n) ([.ptr 0 0,.ptr 1 0,.ptr 2 0,.ref 3 0 p,.j m,.j i],[some (.box [.sl NCd l]),some (.box [.j 0,.s [],.j 0,.b false,.ref 4 0 0]),some (.box [.j x0,.s x1,.j x2,.b x3,.ref 5 0 k]),some (.row false none (.int .i64) q),some (.row false none (.rose VCd) []),some (.row false none (.rose VCd) ks)]) =
 ((ifB (decide (i<m)) (ifT (decide ((0:Int)<=i)&&decide (i<(↑p:Int))) (Ap q[0+i.toNat]? fun z=>ifT (decide ((0:Int)<=z/\toNat z<l.length
 /\ l.length<=4000000000/\l.length-toNat z<=n)) (ifT (decide ((k+1)*64<=140737488355328)&&decide (k+1<=maxI))
 (some (Ex.normal,[V.ptr 0 0,V.ptr 1 0,V.ptr 2 0,V.ref 3 0 p,V.j m,V.j (i64.wrap (i+(1:Int)))],[some (Blk.box [V.sl NCd l]),some (Blk.box
 [V.j 0,V.s (Ag UInt8),V.j 0,V.b false,V.ref 4 0 0]),some (Blk.box [V.j x0,V.s x1,V.j x2,V.b x3,V.ref 5 0 (k+1)]),some (Blk.row
 false none (Cd.int .i64) q),some (Blk.row false none VCd.rose (Ag VCd.rose.den)),some (Blk.row false none VCd.rose (take k (drop 0 ks)++Rose.node
 ((v4L l (toNat z)).lab.fst,(v4L l (toNat z)).lab.snd.fst,(v4L l (toNat z)).lab.snd.snd.fst,(v4L l (toNat z)).lab.snd.snd.snd.fst,()) (take (v4L l
 (toNat z)).kids.length (drop 0 (v4L l (toNat z)).kids))::Ag VCd.rose.den))]))))) (some (Ex.exit 0,[V.ptr 0 0,V.ptr 1 0],[some (Blk.box [V.i
 .i64 0,V.s (Ag UInt8),V.j 0,V.b false,V.ref 2 0 0]),some (Blk.box [V.j x0,V.s x1,V.j x2,V.b x3,V.ref 3 0 k]),some (Blk.row false none VCd.rose
 (Ag VCd.rose.den)),some (Blk.row false none VCd.rose ks)]))):_):=by kernel_rfl
theorem OR (n:Nat) (l:List Nd) (k:Int):CR prog (Wv n) (Ab [(4,DE n)]) f44 [.agg [.sl NCd l],.j k] [] =
 ((ifT (decide ((0:Int)<=k)&&decide (k<(↑l.length:Int))) (Ap l[k.toNat]? fun z=>ifT (decide ((0:Int)<=k/\k.toNat<l.length/\l.length<=(4000000000 :
 Nat))) (ifT (decide ((0:Int)<=(0:Int)/\0<=(E4 l k.toNat).length/\(↑(E4 l k.toNat).length:Int)=(↑(E4 l k.toNat).length:Int)/\(E4 l
 k.toNat).length=(E4 l k.toNat).length/\0=0/\0<=0/\(E4 l k.toNat).length<=4000000000/\l.length<=4000000000)
 && (E4 l k.toNat).all fun i=>decide ((0:Int)<=i/\i.toNat<l.length/\l.length-i.toNat<=n)) (some (V.agg [V.j z.fst,V.s z.snd.fst,V.i .i64
 z.snd.snd.fst,V.b z.snd.snd.snd.snd.fst,V.ref 0 0 (Ag VCd.rose.den++List.map (fun i=>v4L l (toNat i)) (drop 0 (E4 l k.toNat))).length],[some
 (Blk.row false none VCd.rose (Ag VCd.rose.den++List.map (fun i=>v4L l (toNat i)) (drop 0 (E4 l k.toNat))))]))))):_):=by kernel_rfl
theorem IT (n:Nat) (l:List Nd) (x0:Int) (x1:List UInt8) (x2:Int) (x3:Bool) (q:List Int) (hl:l.length<=4000000000) (hq:q.length<=4000000000) (hs:(q.all fun i:Int=>decide (0<=i/\i.toNat<l.length/\l.length-i.toNat<=n))=true) : ∀ (j i:Nat) (ks:List (Rose An)),i+j=q.length->ks.length<=i->
  Runs prog (Wv n) (Ab [(4,DE n)]) 0 (body f44 0) (DE n) ([.ptr 0 0,.ptr 1 0,.ptr 2 0,.ref 3 0 q.length,.j (q.length:Int),.j (i:Int)],[some (.box [.sl NCd l]),some (.box [.j 0,.s [],.j 0,.b false,.ref 4 0 0]),some (.box [.j x0,.s x1,.j x2,.b x3,.ref 5 0 ks.length]),some (.row false none (.int .i64) q),some (.row false none (.rose VCd) []),some (.row false none (.rose VCd) ks)]) (.exit 0) ([.ptr 0 0,.ptr 1 0],[some (.box [.j 0,.s [],.j 0,.b false,.ref 2 0 0]),some (.box [.j x0,.s x1,.j x2,.b x3,.ref 3 0 (ks++(q.drop i).map fun i=>v4L l i.toNat).length]),some (.row false none (.rose VCd) []),some (.row false none (.rose VCd) (ks++(q.drop i).map fun i=>v4L l i.toNat))])
 | 0,i,ks,hi,hk=>by
  have hr:=H5 n l x0 x1 x2 x3 q.length q.length i ks.length q ks
  rw [Ac (dcF (by omega))] at hr
  rw [drop_eq_nil_of_le (by omega),List.map_nil,append_nil]
  exact .stop _ _ _ hr (by simp)
 | j+1,i,ks,hi,hk=>by
  have h1:i<q.length:=by omega
  have hM:maxI=9223372036854775807:=rfl
  have hr:=H5 n l x0 x1 x2 x3 q.length q.length i ks.length q ks
  have hz:=of_decide_eq_true (all_eq_true.1 hs _ (getElem_mem h1))
  rw [Af (dcT (by omega)),Aa (by simp only [anE,dcE]; omega)] at hr
  simp only [ntN,Nat.zero_add,gtE h1,As,A3 (n:=i) (by omega),drop_zero,take_length] at hr
  rw [Aa (dcT ⟨hz.1,hz.2.1,hl,hz.2.2⟩),Aa (by simp only [anE,dcE]; omega)] at hr
  have ht:=HZ (v4L l q[i].toNat)
  rw [drop_zero,take_length] at ht
  rw [ht] at hr
  rw [drop_eq_getElem_cons h1,List.map_cons]
  have ih:=IT n l x0 x1 x2 x3 q hl hq hs j (i+1) (ks++[v4L l q[i].toNat]) (by omega) (by simp; omega)
  rw [append_assoc] at ih
  exact .step _ _ _ _ (hr.trans (by simp)) ih
theorem SG (n:Nat):A4 prog (Wv n) (Ab [(4,DE n)]) 0 (f44.body.getD .skip):=by
 refine Ax (a:=body f44 0) (by kernel_rfl) fun d ex d' h=>?_
 unfold DE at h
 dsimp only at h
 split at h
 ·rename_i p m i l x0 x1 x2 x3 k q ks
  obtain ⟨hc,hx⟩:=Ae h
  clear h
  rw [anE] at hc
  obtain ⟨hc,hs⟩:=hc
  obtain ⟨h0,h1,rfl,rfl,rfl,h5,h6,h7⟩:=of_decide_eq_true hc
  obtain ⟨i,rfl⟩:=eq_ofNat_of_zero_le h0
  simp only [ntN] at h1 h5 hx
  have h8:=Ar hx
  obtain ⟨rfl,rfl⟩:=Prod.mk.inj h8
  exact IT n l x0 x1 x2 x3 q h7 h6 hs (q.length-i) i ks (by omega) h5
 ·cases h
theorem Qs (n:Nat) (l:List Nd) (k:Int) (hc:0<=k/\k.toNat<l.length/\l.length<=4000000000/\l.length-k.toNat<=n+1):CR prog (Wv n) (Ab [(4,DE n)]) f44 [.agg [.sl NCd l],.j k] []=some (.agg [.j (v4L l k.toNat).lab.1,.s (v4L l k.toNat).lab.2.1,.j (v4L l k.toNat).lab.2.2.1,.b (v4L l k.toNat).lab.2.2.2.1,.ref 0 0 (v4L l k.toNat).kids.length],[some (.row false none (.rose VCd) (v4L l k.toNat).kids)]):=by
 rw [OR]
 obtain ⟨h0,h1,h2,h3⟩:=hc
 obtain ⟨k,rfl⟩:=eq_ofNat_of_zero_le h0
 rw [ntN] at h1 h3
 have hkl:=Nn (k:Int) (l.drop (k+1)) (k+1)
 rw [length_drop] at hkl
 have hkl2:(E4 l k).length<=l.length-(k+1):=hkl
 rw [Aa (by simp only [anE,dcE]; omega)]
 simp only [ntN,gtE h1,As]
 rw [Aa (dcT ⟨by omega,h1,h2⟩)]
 have hall:((E4 l k).all fun i:Int=>decide (0<=i/\i.toNat<l.length/\l.length-i.toNat<=n))=true:=all_eq_true.2 fun x hx=>by
  obtain ⟨j,rfl,h5,h6⟩:=Ki hx
  exact dcT ⟨by omega,by simpa using h6,by simp; omega⟩
 rw [Aa (by rw [anE]; exact ⟨dcT ⟨by omega,by simp,by simp,by simp,by simp,by simp,by omega,h2⟩,hall⟩)]
 have hlab:Il l k=(l[k].1,l[k].2.1,l[k].2.2.1,l[k].2.2.2.2.1,()):=by unfold Il; rw [gtE h1]
 rw [Yy h1,hlab]
 simp [Rose.lab,Rose.kids]
theorem Qt : ∀ n,(∀ m,m<n->Ad prog 44 (Ent.rd1 (EW m)).F)->Ad prog 44 (Ent.rd1 (EW n)).F
 | 0,_=>AX fun vs bs=>by
  unfold Ent.F EW
  dsimp only
  split
  ·rename_i l a
   have:decide (0<=a/\a.toNat<l.length/\l.length<=4000000000/\l.length-a.toNat<=0)=false:=dcF (by omega)
   rw [this]; rfl
  ·rfl
 | n+1,ih=>by
  refine AU (kc func92 Zz (kc func44 (ih n (lt_succ_self n)) KnowsL.nil)).knows (Λ:=(Ab [(4,DE n)])) func44 (c:=f44.body.getD .skip) (by kernel_rfl) fun vs bs r hq hv hb=>?_
  unfold Ent.F EW at hq
  dsimp only at hq
  split at hq
  ·rename_i l a
   obtain ⟨hc,hx⟩:=Ae hq
   exact ⟨SG n,(Qs n l a (of_decide_eq_true hc)).trans hx⟩
  ·cases hq
theorem UZ:Ad prog 44 (Ent.rd1 H6).F:=by
 refine Bb (F:=fun n=>(Ent.rd1 (EW n)).F) Qt fun vs bs r h=>?_
 unfold Ent.F H6 at h
 dsimp only at h
 split at h
 ·rename_i l a
  obtain ⟨hc,hx⟩:=Ae h
  obtain ⟨h0,h1,h2⟩:=of_decide_eq_true hc
  refine ⟨l.length,?_⟩
  unfold Ent.F EW
  dsimp only
  have:decide (0<=a/\a.toNat<l.length/\l.length<=4000000000/\l.length-a.toNat<=l.length)=true:=dcT ⟨h0,h1,h2,by omega⟩
  rw [this]
  exact hx
 ·cases h
def byR (n:Int):List (Rose Lab)->Rose Lab
 | []=>.node (0,[],0,false,0,()) []
 | z::l=>if z.lab.2.2.1=n then z else byR n l
def Bu (n:Int) (l:List (Rose Lab)):Bool:=l.any fun z=>z.lab.2.2.1==n
def Dd (n:Int) (l:List (Rose An)):Bool:=l.any fun x=>x.lab.2.2.1==n
def B6 (vs:List (Rose An)) (ks:List (Rose Lab)):Bool:=ks.all fun y=>!y.lab.2.2.2.1||Dd y.lab.2.2.1 vs
def byG:Gm
 | [.agg [.i .i64 _,.s _,.i .i64 _,.b _,.i .i64 _,.sl (.rose LCd) ys],.i .i64 n],[]=>.need (decide (ys.length<=maxI)) (.br (Bu n ys) (.leaf (.tup [.agg [.i .i64 (byR n ys).lab.1,.s (byR n ys).lab.2.1,.i .i64 (byR n ys).lab.2.2.1,.b (byR n ys).lab.2.2.2.1,.i .i64 (byR n ys).lab.2.2.2.2.1,.sl (.rose LCd) (byR n ys).kids],.b true],[])) (.leaf (.tup [.agg [.i .i64 0,.s [],.i .i64 0,.b false,.i .i64 0,.ref 0 0 0],.b false],[some (.row false none (.rose LCd) [])])))
 | _,_=>.no
def byE:LoopEnt:=⟨22,[1,4,9,10,11],[4],[4,5],fun
 | ([.i .i64 n,.ptr 0 0,.sl (.rose LCd) ks,.i .i64 k,.i .i64 i],[some (.box [.i .i64 0,.s [],.i .i64 0,.b false,.i .i64 0,.ref 1 0 0]),some (.row false none (.rose LCd) [])])=>.need (decide (0<=i/\i.toNat<=ks.length/\k=ks.length/\ks.length<=maxI)) (.br (Bu n (ks.drop i.toNat)) (.leaf (.ret,([.ptr 0 0,.b true],[some (.box [.i .i64 (byR n (ks.drop i.toNat)).lab.1,.s (byR n (ks.drop i.toNat)).lab.2.1,.i .i64 (byR n (ks.drop i.toNat)).lab.2.2.1,.b (byR n (ks.drop i.toNat)).lab.2.2.2.1,.i .i64 (byR n (ks.drop i.toNat)).lab.2.2.2.2.1,.sl (.rose LCd) (byR n (ks.drop i.toNat)).kids])]))) (.leaf (.exit 0,([.ptr 0 0],[some (.box [.i .i64 0,.s [],.i .i64 0,.b false,.i .i64 0,.ref 1 0 0]),some (.row false none (.rose LCd) [])]))))
 | _=>.no⟩
def Nq:Gm
 | [.agg [.i .i64 _,.s _,.i .i64 _,.b _,.sl (.rose VCd) xs],.agg [.i .i64 _,.s _,.i .i64 _,.b _,.i .i64 _,.sl (.rose LCd) ys]],[]=>.need (decide (ys.length<=maxI/\xs.length<=maxI)) (.leaf (.b (B6 xs ys),[]))
 | _,_=>.no
def Kn:LoopEnt:=⟨39,[2,11,12,13],[],[4],fun
 | ([.ptr 0 0,.sl (.rose LCd) ks,.i .i64 k,.i .i64 i],[some (.box [.i .i64 _,.s _,.i .i64 _,.b _,.sl (.rose VCd) xs])])=>.need (decide (0<=i/\i.toNat<=ks.length/\k=ks.length/\ks.length<=maxI/\xs.length<=maxI)) (.br (B6 xs (ks.drop i.toNat)) (.leaf (.exit 0,([],[]))) (.leaf (.ret,([.b false],[]))))
 | _=>.no⟩
def Jh:LoopEnt:=⟨39,[2,6,7,11,12,13,21,22,23],[2,7,11,12,13],[],fun
 | ([.ptr 0 0,.ptr 1 0,.b f,.sl (.rose LCd) ks,.i .i64 k,.i .i64 i,.sl (.rose VCd) us,.i .i64 m,.i .i64 j],[some (.box [.i .i64 x0,.s x1,.i .i64 x2,.b x3,.sl (.rose VCd) xs]),some (.box [.i .i64 _,.s _,.i .i64 y2,.b _,.i .i64 _,.sl (.rose LCd) _])])=>.need (decide (0<=j/\j.toNat<=us.length/\m=us.length/\us.length<=maxI)) (.leaf (.exit 2,([.ptr 0 0,.b (f||Dd y2 (us.drop j.toNat)),.sl (.rose LCd) ks,.i .i64 k,.i .i64 i],[some (.box [.i .i64 x0,.s x1,.i .i64 x2,.b x3,.sl (.rose VCd) xs])])))
 | _=>.no⟩
theorem PC (n:Int) (ks:List (Rose Lab)) (k i:Int):A0 prog (Ab []) (Ab [(2,byE)]) 0 (body f62 0) byE ([.j n,.ptr 0 0,.sl (.rose LCd) ks,.j k,.j i],[some (.box [.j 0,.s [],.j 0,.b false,.j 0,.ref 1 0 0]),some (.row false none (.rose LCd) [])]) =
 ((ifB (decide (i<k)) (ifT (decide ((0:Int)<=i)&&decide (i<(↑ks.length:Int))) (Ap ks[i.toNat]? fun z=>ifB ((Rose.lab z).snd.snd.fst==n) (some (Ex.ret,
 [V.ptr 0 0,V.b true],[some (Blk.box [V.j (Rose.lab z).fst,V.s (Rose.lab z).snd.fst,V.j (Rose.lab z).snd.snd.fst,V.b (Rose.lab z).snd.snd.snd.fst,V.i .i64
 (Rose.lab z).snd.snd.snd.snd.fst,V.sl LCd.rose (Rose.kids z)])])) (some (Ex.normal,[V.j n,V.ptr 0 0,V.sl LCd.rose ks,V.j k,V.j (i64.wrap (i +
 (1:Int)))],[some (Blk.box [V.j 0,V.s (Ag UInt8),V.j 0,V.b false,V.j 0,V.ref 1 0 0]),some (Blk.row false none LCd.rose (Ag LCd.rose.den))]))))
 (some (Ex.exit 0,[V.ptr 0 0],[some (Blk.box [V.j 0,V.s (Ag UInt8),V.j 0,V.b false,V.j 0,V.ref 1 0 0]),some (Blk.row false none LCd.rose (Ag
 LCd.rose.den))]))):_):=by kernel_rfl
theorem Yq (y0:Int) (y1:List UInt8) (y2:Int) (y3:Bool) (y4:Int) (ys:List (Rose Lab)) (n:Int):CR prog (Ab []) (Ab [(2,byE)]) f62 [.agg [.j y0,.s y1,.j y2,.b y3,.j y4,.sl (.rose LCd) ys],.j n] [] =
 ((ifT (decide ((0:Int)<=(0:Int)/\0<=ys.length/\(↑ys.length:Int)=(↑ys.length:Int)/\ys.length<=maxI)) (ifB (Bu n (drop 0 ys)) (some
 (V.tup [V.agg [V.j (byR n (drop 0 ys)).lab.fst,V.s (byR n (drop 0 ys)).lab.snd.fst,V.j (byR n (drop 0
 ys)).lab.snd.snd.fst,V.b (byR n (drop 0 ys)).lab.snd.snd.snd.fst,V.j (byR n (drop 0 ys)).lab.snd.snd.snd.snd.fst,V.sl LCd.rose (byR n
 (drop 0 ys)).kids],V.b true],[])) (some (V.tup [V.agg [V.j 0,V.s (Ag UInt8),V.j 0,V.b false,V.j 0,V.ref 0 0 0],V.b false],[some
 (Blk.row false none LCd.rose (Ag LCd.rose.den))])))):_):=by kernel_rfl
theorem RZ (n:Int) (ks:List (Rose Lab)) (hm:ks.length<=maxI) : ∀ (j i:Nat),i+j=ks.length->∀ ex d,(Br.br (Bu n (ks.drop i)) (.leaf (.ret,([.ptr 0 0,.b true],[some (.box [.j (byR n (ks.drop i)).lab.1,.s (byR n (ks.drop i)).lab.2.1,.j (byR n (ks.drop i)).lab.2.2.1,.b (byR n (ks.drop i)).lab.2.2.2.1,.j (byR n (ks.drop i)).lab.2.2.2.2.1,.sl (.rose LCd) (byR n (ks.drop i)).kids])]))) (.leaf (.exit 0,([.ptr 0 0],[some (.box [.j 0,.s [],.j 0,.b false,.j 0,.ref 1 0 0]),some (.row false none (.rose LCd) [])]))):Br (Ex×Dt)).run=some (ex,d)->
  Runs prog (Ab []) (Ab [(2,byE)]) 0 (body f62 0) byE ([.j n,.ptr 0 0,.sl (.rose LCd) ks,.j (ks.length:Int),.j (i:Int)],[some (.box [.j 0,.s [],.j 0,.b false,.j 0,.ref 1 0 0]),some (.row false none (.rose LCd) [])]) ex d
 | 0,i,hi,ex,d,h=>by
  have hr:=PC n ks ks.length i
  rw [Ac (dcF (by omega))] at hr
  rw [drop_eq_nil_of_le (by omega)] at h
  have h8:=Ar h
  obtain ⟨rfl,rfl⟩:=Prod.mk.inj h8
  exact .stop _ _ _ hr (by simp)
 | j+1,i,hi,ex,d,h=>by
  have hl:i<ks.length:=by omega
  have hM:maxI=9223372036854775807:=rfl
  have hr:=PC n ks ks.length i
  rw [Af (dcT (by omega)),Aa (by simp only [anE,dcE]; omega)] at hr
  simp only [ntN,gtE hl,As,A3 (n:=i) (by omega)] at hr
  rw [drop_eq_getElem_cons hl] at h
  unfold Bu at h
  rw [any_cons,byR] at h
  by_cases q:ks[i].lab.2.2.1=n
  ·have qb:(ks[i].lab.2.2.1==n)=true:=by rw [q]; exact beq_self_eq_true _
   rw [qb,Bool.true_or,if_pos q] at h
   rw [qb,Bq] at hr
   have h8:=Ar h
   obtain ⟨rfl,rfl⟩:=Prod.mk.inj h8
   exact .stop _ _ _ hr (by simp)
  ·rw [beq_false_of_ne q,Bool.false_or,if_neg q] at h
   rw [beq_false_of_ne q,Bd] at hr
   exact .step _ _ _ _ hr (RZ n ks hm j (i+1) (by omega) ex d h)
theorem Ab8:A4 prog (Ab []) (Ab [(2,byE)]) 0 (f62.body.getD .skip):=by
 refine Ax (a:=body f62 0) (by kernel_rfl) fun d ex d' h=>?_
 unfold byE at h
 dsimp only at h
 split at h
 ·rename_i n ks k i
  obtain ⟨hc,hx⟩:=Ae h
  clear h
  obtain ⟨h0,h1,rfl,h3⟩:=of_decide_eq_true hc
  obtain ⟨i,rfl⟩:=eq_ofNat_of_zero_le h0
  simp only [ntN] at h1 hx
  exact RZ n ks h3 (ks.length-i) i (by omega) ex d' hx
 ·cases h
theorem Z3:Ad prog 62 (Ent.rd1 byG).F:=by
 refine AU KnowsL.nil.knows (Λ:=(Ab [(2,byE)])) func62 (c:=f62.body.getD .skip) (by kernel_rfl) fun vs bs r hq hv hb=>?_
 unfold Ent.F byG at hq
 dsimp only at hq
 split at hq
 ·rename_i y0 y1 y2 y3 y4 ys n
  obtain ⟨hc,hx⟩:=Ae hq
  refine ⟨Ab8,Eq.trans ?_ hx⟩
  rw [Yq,Aa (dcT ⟨by omega,by omega,rfl,of_decide_eq_true hc⟩),drop_zero]
  cases Bu n ys<;>rfl
 ·cases hq
theorem Mg (x0:Int) (x1:List UInt8) (x2:Int) (x3:Bool) (xs:List (Rose An)) (ks:List (Rose Lab)) (k i:Int):A0 prog (Ab []) (Ab [(2,Kn),(6,Jh)]) 0 (body f99 0) Kn ([.ptr 0 0,.sl (.rose LCd) ks,.j k,.j i],[some (.box [.j x0,.s x1,.j x2,.b x3,.sl (.rose VCd) xs])]) =
 ((ifB (decide (i<k)) (ifT (decide ((0:Int)<=i)&&decide (i<(↑ks.length:Int))) (Ap ks[i.toNat]? fun z=>ifT (decide ((0:Int)<=(0:Int)/\0<=
 xs.length/\(↑xs.length:Int)=(↑xs.length:Int)/\xs.length<=maxI)) (ifB (!(!(Rose.lab z).snd.snd.snd.fst||Dd (Rose.lab z).snd.snd.fst (drop 0
 xs))) (some (Ex.ret,[V.b false],[])) (some (Ex.normal,[V.ptr 0 0,V.sl LCd.rose ks,V.j k,V.j (i64.wrap (i+(1:Int)))],[some (Blk.box [V.i .i64
 x0,V.s x1,V.j x2,V.b x3,V.sl VCd.rose xs])]))))) (some (Ex.exit 0,[],[]))):_):=by kernel_rfl
theorem Mf (x0:Int) (x1:List UInt8) (x2:Int) (x3:Bool) (xs:List (Rose An)) (y0:Int) (y1:List UInt8) (y2:Int) (y3:Bool) (y4:Int) (ys:List (Rose Lab)) (f:Bool) (ks:List (Rose Lab)) (k i:Int) (us:List (Rose An)) (m j:Int):A0 prog (Ab []) (Ab [(2,Kn),(6,Jh)]) 0 (body f99 1) Jh ([.ptr 0 0,.ptr 1 0,.b f,.sl (.rose LCd) ks,.j k,.j i,.sl (.rose VCd) us,.j m,.j j],[some (.box [.j x0,.s x1,.j x2,.b x3,.sl (.rose VCd) xs]),some (.box [.j y0,.s y1,.j y2,.b y3,.j y4,.sl (.rose LCd) ys])]) =
 ((ifB (decide (j<m)) (ifT (decide ((0:Int)<=j)&&decide (j<(↑us.length:Int))) (Ap us[j.toNat]? fun z=>ifB f (some (Ex.normal,[V.ptr 0 0,V.ptr 1 0,V.b
 true,V.sl LCd.rose ks,V.j k,V.j i,V.sl VCd.rose us,V.j m,V.j (i64.wrap (j+(1:Int)))],[some (Blk.box [V.j x0,V.s x1,V.i .i64
 x2,V.b x3,V.sl VCd.rose xs]),some (Blk.box [V.j y0,V.s y1,V.j y2,V.b y3,V.j y4,V.sl LCd.rose ys])])) (some (Ex.normal,[V.ptr 0 0,V.ptr 1 0,V.b
 ((Rose.lab z).snd.snd.fst==y2),V.sl LCd.rose ks,V.j k,V.j i,V.sl VCd.rose us,V.j m,V.j (i64.wrap (j+(1:Int)))],[some (Blk.box
 [V.j x0,V.s x1,V.j x2,V.b x3,V.sl VCd.rose xs]),some (Blk.box [V.j y0,V.s y1,V.j y2,V.b y3,V.j y4,V.sl LCd.rose ys])])))) (some
 (Ex.exit 2,[V.ptr 0 0,V.b f,V.sl LCd.rose ks,V.j k,V.j i],[some (Blk.box [V.j x0,V.s x1,V.j x2,V.b x3,V.sl VCd.rose xs])]))):_):=by kernel_rfl
theorem Xj (x0:Int) (x1:List UInt8) (x2:Int) (x3:Bool) (xs:List (Rose An)) (y0:Int) (y1:List UInt8) (y2:Int) (y3:Bool) (y4:Int) (ys:List (Rose Lab)):AQ prog (Ab []) (Ab [(2,Kn),(6,Jh)]) f99 [.agg [.j x0,.s x1,.j x2,.b x3,.sl (.rose VCd) xs],.agg [.j y0,.s y1,.j y2,.b y3,.j y4,.sl (.rose LCd) ys]] [] =
 ((ifT (decide ((0:Int)<=(0:Int)/\0<=ys.length/\(↑ys.length:Int)=(↑ys.length:Int)/\ys.length<=maxI/\xs.length<=maxI)) (ifB (B6 xs (drop (0
 : Nat) ys)) (some (V.b true,[])) (some (V.b false,[])))):_):=by kernel_rfl
theorem Zs : ∀ d e d',(Kn.L d).run=some (e,d')->Runs prog (Ab []) (Ab [(2,Kn),(6,Jh)]) 0 (body f99 0) Kn d e d':=fun d ex d' h=>by
 unfold Kn at h
 dsimp only at h
 split at h
 ·rename_i ks k i x0 x1 x2 x3 xs
  obtain ⟨hc,hx⟩:=Ae h
  clear h
  obtain ⟨h0,h1,rfl,h3,h4⟩:=of_decide_eq_true hc
  obtain ⟨i,rfl⟩:=eq_ofNat_of_zero_le h0
  simp only [ntN] at h1 hx
  have hM:maxI=9223372036854775807:=rfl
  refine Eb (l:=ks) (fun y:Rose Lab=>!y.lab.2.2.2.1||Dd y.lab.2.2.1 xs) (fun i=>([.ptr 0 0,.sl (.rose LCd) ks,.j (ks.length:Int),.j (i:Int)],[some (.box [.j x0,.s x1,.j x2,.b x3,.sl (.rose VCd) xs])])) (ex:=(.exit 0,([],[]))) (rt:=(.ret,([.b false],[]))) (by simp) (by simp) (fun n hn=>?_) ?_ (ks.length-i) i (by omega) ex d' hx
  ·have hr:=Mg x0 x1 x2 x3 xs ks ks.length n
   rw [Af (dcT (by omega)),Aa (by simp only [anE,dcE]; omega)] at hr
   rw [ntN,gtE hn,As,A3 (n:=n) (by omega),Aa (dcT ⟨by omega,by omega,rfl,h4⟩),drop_zero] at hr
   refine hr.trans ?_
   cases ks[n].lab.2.2.2.1<;>cases Dd ks[n].lab.2.2.1 xs<;>rfl
  ·have hr:=Mg x0 x1 x2 x3 xs ks ks.length ks.length
   rw [Ac (dcF (by omega))] at hr
   exact hr
 ·cases h
theorem OE (x0:Int) (x1:List UInt8) (x2:Int) (x3:Bool) (xs:List (Rose An)) (y0:Int) (y1:List UInt8) (y2:Int) (y3:Bool) (y4:Int) (ys:List (Rose Lab)) (ks:List (Rose Lab)) (k i:Int) (us:List (Rose An)) (hm:us.length<=maxI) : ∀ (c j:Nat) (f:Bool),j+c=us.length->
  Runs prog (Ab []) (Ab [(2,Kn),(6,Jh)]) 0 (body f99 1) Jh ([.ptr 0 0,.ptr 1 0,.b f,.sl (.rose LCd) ks,.j k,.j i,.sl (.rose VCd) us,.j (us.length:Int),.j (j:Int)],[some (.box [.j x0,.s x1,.j x2,.b x3,.sl (.rose VCd) xs]),some (.box [.j y0,.s y1,.j y2,.b y3,.j y4,.sl (.rose LCd) ys])]) (.exit 2) ([.ptr 0 0,.b (f||Dd y2 (us.drop j)),.sl (.rose LCd) ks,.j k,.j i],[some (.box [.j x0,.s x1,.j x2,.b x3,.sl (.rose VCd) xs])])
 | 0,j,f,hj=>by
  have hr:=Mf x0 x1 x2 x3 xs y0 y1 y2 y3 y4 ys f ks k i us us.length j
  rw [Ac (dcF (by omega))] at hr
  rw [drop_eq_nil_of_le (by omega),show Dd y2 []=false from rfl,Bool.or_false]
  exact .stop _ _ _ hr (by simp)
 | c+1,j,f,hj=>by
  have hl:j<us.length:=by omega
  have hM:maxI=9223372036854775807:=rfl
  have hr:=Mf x0 x1 x2 x3 xs y0 y1 y2 y3 y4 ys f ks k i us us.length j
  rw [Af (dcT (by omega)),Aa (by simp only [anE,dcE]; omega)] at hr
  simp only [ntN,gtE hl,As,A3 (n:=j) (by omega)] at hr
  have ih:=OE x0 x1 x2 x3 xs y0 y1 y2 y3 y4 ys ks k i us hm c (j+1) (f||us[j].lab.2.2.1==y2) (by omega)
  rw [drop_eq_getElem_cons hl,show Dd y2 (us[j]::us.drop (j+1))=(us[j].lab.2.2.1==y2||Dd y2 (us.drop (j+1))) from rfl,<-Bool.or_assoc]
  refine .step _ _ _ _ (hr.trans ?_) ih
  cases f<;>rfl
theorem Zr : ∀ d e d',(Jh.L d).run=some (e,d')->Runs prog (Ab []) (Ab [(2,Kn),(6,Jh)]) 0 (body f99 1) Jh d e d':=fun d ex d' h=>by
 unfold Jh at h
 dsimp only at h
 split at h
 ·rename_i f ks k i us m j x0 x1 x2 x3 xs y0 y1 y2 y3 y4 ys
  obtain ⟨hc,hx⟩:=Ae h
  clear h
  obtain ⟨h0,h1,rfl,h3⟩:=of_decide_eq_true hc
  obtain ⟨j,rfl⟩:=eq_ofNat_of_zero_le h0
  simp only [ntN] at h1 hx
  have h8:=Ar hx
  obtain ⟨rfl,rfl⟩:=Prod.mk.inj h8
  exact OE x0 x1 x2 x3 xs y0 y1 y2 y3 y4 ys ks k i us h3 (us.length-j) j f (by omega)
 ·cases h
theorem RA:Ad prog 99 (Ent.rd1 Nq).F:=by
 refine Am KnowsL.nil.knows (Λ:=(Ab [(2,Kn),(6,Jh)])) func99 (c:=f99.body.getD .skip) (by kernel_rfl) fun vs bs r hq hv hb=>?_
 unfold Ent.F Nq at hq
 dsimp only at hq
 split at hq
 ·rename_i x0 x1 x2 x3 xs y0 y1 y2 y3 y4 ys
  obtain ⟨hc,hx⟩:=Ae hq
  obtain ⟨h1,h2⟩:=of_decide_eq_true hc
  refine ⟨LoopsI.loops (.cons (a:=body f99 0) (by kernel_rfl) Zs (.cons (a:=body f99 1) (by kernel_rfl) Zr .nil)) (by kernel_rfl),Eq.trans ?_ hx⟩
  rw [Xj,Aa (dcT ⟨by omega,by omega,rfl,h1,h2⟩),drop_zero]
  cases B6 xs ys<;>rfl
 ·cases hq
mutual
def F3:Rose An->Bool
 | .node _ ks=>decide (ks.length<=4000000000)&&HY ks
def HY:List (Rose An)->Bool
 | []=>true
 | z::l=>F3 z&&HY l
end
def IK (zk:List (Rose An)) (i:Nat) (n:Int):Bool:=match i with
 | 0=>false
 | i+1=>match zk[i]? with | some y=>decide (y.lab.2.2.1>=n) | none=>false
def hd0:List (Rose Lab)->Rose Lab
 | []=>.node (0,[],0,false,0,()) []
 | z::_=>z
def Da (x0:Int) (x1:List UInt8) (x3:Bool) (k:Int):Bool:=(x3 != Aw k)||((k != 2&&x1 != [])||((k==2||x3)&&x0 != 0))
mutual
def sfR:Rose An->Rose Lab->Bool
 | .node x vs,t=>
  if Da x.1 x.2.1 x.2.2.2.1 t.lab.1=true then false
  else if t.lab.1=1 then BT x.1
  else if t.lab.1=3 then decide (0<=x.1/\x.1<=t.lab.2.2.2.2.1)
  else if t.lab.1=2 then decide (x.2.1.length<=30)
  else if t.lab.1=4 then sfL (hd0 t.kids) vs
  else sfM t.kids vs 0 vs&&B6 vs t.kids
def sfL (t:Rose Lab):List (Rose An)->Bool
 | []=>true
 | v::vs=>(v.lab.2.2.1==0&&sfR v t)&&sfL t vs
def sfM (ks:List (Rose Lab)) (zk:List (Rose An)) (i:Nat):List (Rose An)->Bool
 | []=>true
 | v::vs=>(Bu v.lab.2.2.1 ks&&(sfR v (byR v.lab.2.2.1 ks)&&!IK zk i v.lab.2.2.1))&&sfM ks zk (i+1) vs
end
def sfN (n:Nat):Gm
 | [.agg [.i .i64 x0,.s x1,.i .i64 x2,.b x3,.sl (.rose VCd) xs],.agg [.i .i64 y0,.s y1,.i .i64 y2,.b y3,.i .i64 y4,.sl (.rose LCd) ys]],[]=>.need (decide (Ak ys+1<=n/\Ak ys+1<=1000000/\Aj (.node (y0,y1,y2,y3,y4,()) ys)=true/\F3 (.node (x0,x1,x2,x3,()) xs)=true)) (.leaf (.b (sfR (.node (x0,x1,x2,x3,()) xs) (.node (y0,y1,y2,y3,y4,()) ys)),[]))
 | _,_=>.no
def sfG:Gm
 | [.agg [.i .i64 x0,.s x1,.i .i64 x2,.b x3,.sl (.rose VCd) xs],.agg [.i .i64 y0,.s y1,.i .i64 y2,.b y3,.i .i64 y4,.sl (.rose LCd) ys]],[]=>.need (decide (Ak ys+1<=1000000/\Aj (.node (y0,y1,y2,y3,y4,()) ys)=true/\F3 (.node (x0,x1,x2,x3,()) xs)=true)) (.leaf (.b (sfR (.node (x0,x1,x2,x3,()) xs) (.node (y0,y1,y2,y3,y4,()) ys)),[]))
 | _,_=>.no
def Je (n:Nat):LoopEnt:=⟨126,[3,64,65,66],[],[4],fun
 | ([.ptr 0 0,.sl (.rose VCd) us,.i .i64 k,.i .i64 i],[some (.box [.i .i64 y0,.s _,.i .i64 _,.b _,.i .i64 _,.sl (.rose LCd) ys])])=>.need (decide (0<=i/\i.toNat<=us.length/\k=us.length/\us.length<=4000000000/\Ak ys<=n/\Ak ys<=1000000/\ys.length=1/\A8 y0 ys=true/\HY us=true)) (.br (sfL (hd0 ys) (us.drop i.toNat)) (.leaf (.exit 1,([],[]))) (.leaf (.ret,([.b false],[]))))
 | _=>.no⟩
def Ie (n:Nat):LoopEnt:=⟨126,[2,3,84,85,86],[2,3],[4],fun
 | ([.ptr 0 0,.ptr 1 0,.sl (.rose VCd) us,.i .i64 k,.i .i64 i],[some (.box [.i .i64 x0,.s x1,.i .i64 x2,.b x3,.sl (.rose VCd) xs]),some (.box [.i .i64 y0,.s y1,.i .i64 y2,.b y3,.i .i64 y4,.sl (.rose LCd) ys])])=>.need (decide (0<=i/\i.toNat<=us.length/\k=us.length/\us.length<=4000000000/\xs.length=us.length/\Ak ys<=n/\Ak ys<=1000000/\A8 y0 ys=true/\HY us=true)) (.br (sfM ys xs i.toNat (us.drop i.toNat)) (.leaf (.exit 3,([.ptr 0 0,.ptr 1 0],[some (.box [.i .i64 x0,.s x1,.i .i64 x2,.b x3,.sl (.rose VCd) xs]),some (.box [.i .i64 y0,.s y1,.i .i64 y2,.b y3,.i .i64 y4,.sl (.rose LCd) ys])]))) (.leaf (.ret,([.b false],[]))))
 | _=>.no⟩
theorem AT (z:Rose Lab):Rose.node (z.lab.1,z.lab.2.1,z.lab.2.2.1,z.lab.2.2.2.1,z.lab.2.2.2.2.1,()) z.kids=z:=by
 obtain ⟨⟨_,_,_,_,_,⟨⟩⟩,ks⟩:=z; rfl
theorem B8 (z:Rose An):Rose.node (z.lab.1,z.lab.2.1,z.lab.2.2.1,z.lab.2.2.2.1,()) z.kids=z:=by
 obtain ⟨⟨_,_,_,_,⟨⟩⟩,ks⟩:=z; rfl
theorem JF {z:Rose An} : ∀ {l:List (Rose An)},HY l=true->z∈l->F3 z=true
 | [],_,h=>by cases h
 | y::l,hn,h=>by
  rw [HY,anE] at hn
  rcases mem_cons.1 h with rfl | h
  ·exact hn.1
  ·exact JF hn.2 h
theorem Gf (t:Rose Lab) : ∀ l,sfL t l=l.all fun v=>v.lab.2.2.1==0&&sfR v t
 | []=>by rw [sfL]; rfl
 | v::l=>by rw [sfL,Gf t l]; rfl
theorem Fo {n:Int} : ∀ {l:List (Rose Lab)},Bu n l=true->byR n l∈l
 | [],h=>by cases h
 | z::l,h=>by
  rw [byR]
  by_cases q:z.lab.2.2.1=n
  ·rw [if_pos q]; exact List.mem_cons_self
  ·rw [if_neg q]
   unfold Bu at h
   rw [any_cons,beq_false_of_ne q,Bool.false_or] at h
   exact List.mem_cons_of_mem _ (Fo h)
theorem YR (x0:Int) (x1:List UInt8) (x2:Int) (x3:Bool) (xs:List (Rose An)) (y0:Int) (y1:List UInt8) (y2:Int) (y3:Bool) (y4:Int) (ys:List (Rose Lab)):sfR (.node (x0,x1,x2,x3,()) xs) (.node (y0,y1,y2,y3,y4,()) ys)=(if Da x0 x1 x3 y0=true then false
  else if y0=1 then BT x0 else if y0=3 then decide (0<=x0/\x0<=y4) else if y0=2 then decide (x1.length<=30)
  else if y0=4 then sfL (hd0 ys) xs else sfM ys xs 0 xs&&B6 xs ys):=by rw [sfR]; rfl
theorem CW {x:Lab} {ks:List (Rose Lab)} (h:B5 x ks=true):x.1=1\/x.1=2\/x.1=3\/(x.1=4/\ks.length=1)\/x.1=5:=by
 unfold B5 at h
 split at h
 ·rename_i q; omega
 ·split at h
  ·rename_i q; omega
  ·split at h
   ·rename_i q
    rw [anE] at h
    exact .inr (.inr (.inr (.inl ⟨q,by simpa using h.2⟩)))
   ·split at h
    ·cases h
    ·rename_i q; omega
abbrev Ra (n:Nat):FuncId->Option Ent:=Ab [(48,.rd1 (sfN n)),(97,.rd1 EC),(98,.rd1 FG),(94,.rd1 AE),(62,.rd1 byG),(99,.rd1 Nq)]
theorem LU (n:Nat) (y0:Int) (y1:List UInt8) (y2:Int) (y3:Bool) (y4:Int) (ys:List (Rose Lab)) (us:List (Rose An)) (k i:Int):A0 prog (Ra n) (Ab [(12,Je n),(19,Ie n)]) 0 (body f48 0) (Je n) ([.ptr 0 0,.sl (.rose VCd) us,.j k,.j i],[some (.box [.j y0,.s y1,.j y2,.b y3,.j y4,.sl (.rose LCd) ys])]) =
 ((ifB (decide (i<k)) (ifT (decide ((0:Int)<=i)&&decide (i<(↑us.length:Int))) (Ap us[i.toNat]? fun z=>ifB ((Rose.lab z).snd.snd.fst != (0:Int)) (some
 (Ex.ret,[V.b false],[])) (ifT (decide ((0:Int)<=(0:Int))&&decide ((0:Int)<(↑ys.length:Int))) (Ap ys[0]? fun z_1=>ifT (decide (Ak (Rose.kids
 z_1)+1<=n/\Ak (Rose.kids z_1)+1<=1000000/\Aj (Rose.node ((Rose.lab z_1).fst,(Rose.lab z_1).snd.fst,(Rose.lab z_1).snd.snd.fst,
 (Rose.lab z_1).snd.snd.snd.fst,(Rose.lab z_1).snd.snd.snd.snd.fst,()) (Rose.kids z_1))=true/\F3 (Rose.node ((Rose.lab z).fst,(Rose.lab z).snd.fst,(Rose.lab
 z).snd.snd.fst,(Rose.lab z).snd.snd.snd.fst,()) (Rose.kids z))=true)) (ifB (!sfR (Rose.node ((Rose.lab z).fst,(Rose.lab z).snd.fst,(Rose.lab z).snd.snd.fst,
 (Rose.lab z).snd.snd.snd.fst,()) (Rose.kids z)) (Rose.node ((Rose.lab z_1).fst,(Rose.lab z_1).snd.fst,(Rose.lab z_1).snd.snd.fst,(Rose.lab z_1).snd.snd.snd.fst,
 (Rose.lab z_1).snd.snd.snd.snd.fst,()) (Rose.kids z_1))) (some (Ex.ret,[V.b false],[])) (some (Ex.normal,[V.ptr 0 0,V.sl VCd.rose us,V.j k,V.i .i64
 (i64.wrap (i+(1:Int)))],[some (Blk.box [V.j y0,V.s y1,V.j y2,V.b y3,V.j y4,V.sl LCd.rose ys])]))))))) (some (Ex.exit 1,[],[]))):_):=by kernel_rfl
theorem LT (n:Nat) (x0:Int) (x1:List UInt8) (x2:Int) (x3:Bool) (xs:List (Rose An)) (y0:Int) (y1:List UInt8) (y2:Int) (y3:Bool) (y4:Int) (ys:List (Rose Lab)) (us:List (Rose An)) (k i:Int):A0 prog (Ra n) (Ab [(12,Je n),(19,Ie n)]) 0 (body f48 1) (Ie n) ([.ptr 0 0,.ptr 1 0,.sl (.rose VCd) us,.j k,.j i],[some (.box [.j x0,.s x1,.j x2,.b x3,.sl (.rose VCd) xs]),some (.box [.j y0,.s y1,.j y2,.b y3,.j y4,.sl (.rose LCd) ys])]) =
 ((ifB (decide (i<k)) (ifT (decide ((0:Int)<=i)&&decide (i<(↑us.length:Int))) (Ap us[i.toNat]? fun z=>shr (Rose.lab z).snd.snd fun sh3=>shr (Rose.node
 ((Rose.lab z).fst,(Rose.lab z).snd.fst,sh3.fst,sh3.snd.fst,()) (Rose.kids z)) fun sh2=>shr (Rose.node ((byR sh3.fst ys).lab.fst,(byR sh3.fst ys).lab.snd.fst,(byR
 sh3.fst ys).lab.snd.snd.fst,(byR sh3.fst ys).lab.snd.snd.snd.fst,(byR sh3.fst ys).lab.snd.snd.snd.snd.fst,()) (byR sh3.fst ys).kids) fun sh1=>ifT (decide (ys.length
 <= maxI)) (ifB (Bu sh3.fst ys) (ifT (decide (Ak (byR sh3.fst ys).kids+1<=n/\Ak (byR sh3.fst ys).kids+1<=1000000/\Aj sh1=true/\
 F3 sh2=true)) (ifB (!sfR sh2 sh1) (some (Ex.ret,[V.b false],[])) (ifB (decide (i>(0:Int))) (ifT (decide ((0:Int)<=i64.wrap (i-(1:Int)))&&decide
 (i64.wrap (i-(1:Int))<(↑xs.length:Int))) (Ap xs[(i64.wrap (i-(1:Int))).toNat]? fun z=>shr sh3 fun sh2=>shr (Rose.lab z).snd.snd fun
 sh1=>ifB (decide (sh1.fst>=sh2.fst)) (some (Ex.ret,[V.b false],[])) (some (Ex.normal,[V.ptr 0 0,V.ptr 1 0,V.sl VCd.rose us,V.j k,V.j (i64.wrap
 (i+(1:Int)))],[some (Blk.box [V.j x0,V.s x1,V.j x2,V.b x3,V.sl VCd.rose xs]),some (Blk.box [V.j y0,V.s y1,V.j y2,V.b y3,V.j y4,
 V.sl LCd.rose ys])])))) (some (Ex.normal,[V.ptr 0 0,V.ptr 1 0,V.sl VCd.rose us,V.j k,V.j (i64.wrap (i+(1:Int)))],[some (Blk.box [V.j x0,
 V.s x1,V.j x2,V.b x3,V.sl VCd.rose xs]),some (Blk.box [V.j y0,V.s y1,V.j y2,V.b y3,V.j y4,V.sl LCd.rose ys])]))))) (some (Ex.ret,[V.b
 false],[]))))) (some (Ex.exit 3,[V.ptr 0 0,V.ptr 1 0],[some (Blk.box [V.j x0,V.s x1,V.j x2,V.b x3,V.sl VCd.rose xs]),some (Blk.box [V.j y0,V.s
 y1,V.j y2,V.b y3,V.j y4,V.sl LCd.rose ys])]))):_):=by kernel_rfl
theorem WM (n:Nat) (x0:Int) (x1:List UInt8) (x2:Int) (x3:Bool) (xs:List (Rose An)) (y0:Int) (y1:List UInt8) (y2:Int) (y3:Bool) (y4:Int) (ys:List (Rose Lab)):CR prog (Ra n) (Ab [(12,Je n),(19,Ie n)]) f48 [.agg [.j x0,.s x1,.j x2,.b x3,.sl (.rose VCd) xs],.agg [.j y0,.s y1,.j y2,.b y3,.j y4,.sl (.rose LCd) ys]] [] =
 ((shr (ifB (y0==(4:Int)) (ifT (decide ((0:Int)<=(0:Int)/\0<=xs.length/\(↑xs.length:Int)=(↑xs.length:Int)/\xs.length<=4000000000/\Ak ys
 <= n/\Ak ys<=1000000/\ys.length=1/\A8 y0 ys=true/\HY xs=true)) (ifB (sfL (hd0 ys) (drop 0 xs)) (some (V.b true,[])) (some
 (V.b false,[])))) (ifT (decide ((0:Int)<=(0:Int)/\0<=xs.length/\(↑xs.length:Int)=(↑xs.length:Int)/\xs.length<=4000000000/\xs.length =
 xs.length/\Ak ys<=n/\Ak ys<=1000000/\A8 y0 ys=true/\HY xs=true)) (ifB (sfM ys xs 0 (drop 0 xs)) (ifT (decide (ys.length<=
 maxI/\xs.length<=maxI)) (some (V.b (B6 xs ys),[]))) (some (V.b false,[]))))) fun sh1=>ifB (!x3==Aw y0) (some (V.b false,[])) (ifB (y0 != (2:Int)) (ifB
 (!x1==Ag UInt8) (some (V.b false,[])) (ifB (y0==(2:Int)) (ifB (x0 != (0:Int)) (some (V.b false,[])) (ifB (y0==(1:Int)) (some (V.b (BT x0),[])) (ifB (y0
 == (3:Int)) (some (V.b (decide ((0:Int)<=x0/\x0<=y4)),[])) (ifB (y0==(2:Int)) (some (V.b (decide ((↑x1.length:Int)<=(30:Int))),[])) sh1)))) (ifB x3 (ifB
 (x0 != (0:Int)) (some (V.b false,[])) (ifB (y0==(1:Int)) (some (V.b (BT x0),[])) (ifB (y0==(3:Int)) (some (V.b (decide ((0:Int)<=x0/\x0<=y4)),[]))
 (ifB (y0==(2:Int)) (some (V.b (decide ((↑x1.length:Int)<=(30:Int))),[])) sh1)))) (ifB (y0==(1:Int)) (some (V.b (BT x0),[])) (ifB (y0==(3:Int)) (some
 (V.b (decide ((0:Int)<=x0/\x0<=y4)),[])) (ifB (y0==(2:Int)) (some (V.b (decide ((↑x1.length:Int)<=(30:Int))),[])) sh1)))))) (ifB (y0==(2:Int)) (ifB
 (x0 != (0:Int)) (some (V.b false,[])) (ifB (y0==(1:Int)) (some (V.b (BT x0),[])) (ifB (y0==(3:Int)) (some (V.b (decide ((0:Int)<=x0/\x0<=y4)),[]))
 (ifB (y0==(2:Int)) (some (V.b (decide ((↑x1.length:Int)<=(30:Int))),[])) sh1)))) (ifB x3 (ifB (x0 != (0:Int)) (some (V.b false,[])) (ifB (y0==(1:Int))
 (some (V.b (BT x0),[])) (ifB (y0==(3:Int)) (some (V.b (decide ((0:Int)<=x0/\x0<=y4)),[])) (ifB (y0==(2:Int)) (some (V.b (decide ((↑x1.length:Int)<=(30
 : Int))),[])) sh1)))) (ifB (y0==(1:Int)) (some (V.b (BT x0),[])) (ifB (y0==(3:Int)) (some (V.b (decide ((0:Int)<=x0/\x0<=y4)),[])) (ifB (y0==(2 :
 Int)) (some (V.b (decide ((↑x1.length:Int)<=(30:Int))),[])) sh1))))))):_):=by kernel_rfl
theorem YU (n:Nat) : ∀ d e d',((Je n).L d).run=some (e,d')->Runs prog (Ra n) (Ab [(12,Je n),(19,Ie n)]) 0 (body f48 0) (Je n) d e d':=fun d ex d' h=>by
 unfold Je at h
 dsimp only at h
 split at h
 ·rename_i us k i y0 y1 y2 y3 y4 ys
  obtain ⟨hc,hx⟩:=Ae h
  clear h
  obtain ⟨h0,h1,rfl,h3,h4,h5,h6,h7,h8⟩:=of_decide_eq_true hc
  obtain ⟨i,rfl⟩:=eq_ofNat_of_zero_le h0
  simp only [ntN] at h1 hx
  have hM:maxI=9223372036854775807:=rfl
  obtain ⟨y,rfl⟩:=List.length_eq_one_iff.1 h6
  rw [Ak,Ak] at h4 h5
  rw [A8,anE,anE] at h7
  have hk:=Be y
  rw [Gf] at hx
  refine Eb (l:=us) (fun v=>v.lab.2.2.1==0&&sfR v (hd0 [y])) (fun i=>([.ptr 0 0,.sl (.rose VCd) us,.j (us.length:Int),.j (i:Int)],[some (.box [.j y0,.s y1,.j y2,.b y3,.j y4,.sl (.rose LCd) [y]])])) (ex:=(.exit 1,([],[]))) (rt:=(.ret,([.b false],[]))) (by simp) (by simp) (fun m hn=>?_) ?_ (us.length-i) i (by omega) ex d' hx
  ·have hr:=LU n y0 y1 y2 y3 y4 [y] us us.length m
   have hw:=JF h8 (getElem_mem hn)
   have hy0:([y]:List (Rose Lab))[(0:Nat)]? = some y:=rfl
   rw [Af (dcT (by omega)),Aa (by simp only [anE,dcE]; omega)] at hr
   rw [ntN,gtE hn,As,hy0,As,Aa (by simp),A3 (n:=m) (by omega),AT,B8,Aa (dcT ⟨by omega,by omega,h7.1.2,hw⟩)] at hr
   refine hr.trans ?_
   show _=some (bif us[m].lab.2.2.1==0&&sfR us[m] y then _ else _)
   by_cases q:us[m].lab.2.2.1=0
   ·rw [q]
    cases sfR us[m] y<;>rfl
   ·have q1:(us[m].lab.2.2.1 != (0:Int))=true:=by simpa using q
    rw [q1,beq_false_of_ne q]; rfl
  ·have hr:=LU n y0 y1 y2 y3 y4 [y] us us.length us.length
   rw [Ac (dcF (by omega))] at hr
   exact hr
 ·cases h
theorem JP (n:Nat) (x0:Int) (x1:List UInt8) (x2:Int) (x3:Bool) (xs:List (Rose An)) (y0:Int) (y1:List UInt8) (y2:Int) (y3:Bool) (y4:Int) (ys:List (Rose Lab)) (us:List (Rose An)) (h3:us.length<=4000000000) (h4:xs.length=us.length) (h5:Ak ys<=n) (h6:Ak ys<=1000000) (h7:A8 y0 ys=true) (h8:HY us=true) : ∀ (j i:Nat),i+j=us.length->∀ ex d,(Br.br (sfM ys xs i (us.drop i)) (.leaf (.exit 3,([.ptr 0 0,.ptr 1 0],[some (.box [.j x0,.s x1,.j x2,.b x3,.sl (.rose VCd) xs]),some (.box [.j y0,.s y1,.j y2,.b y3,.j y4,.sl (.rose LCd) ys])]))) (.leaf (.ret,([.b false],[]))):Br (Ex×Dt)).run=some (ex,d)->
  Runs prog (Ra n) (Ab [(12,Je n),(19,Ie n)]) 0 (body f48 1) (Ie n) ([.ptr 0 0,.ptr 1 0,.sl (.rose VCd) us,.j (us.length:Int),.j (i:Int)],[some (.box [.j x0,.s x1,.j x2,.b x3,.sl (.rose VCd) xs]),some (.box [.j y0,.s y1,.j y2,.b y3,.j y4,.sl (.rose LCd) ys])]) ex d
 | 0,i,hi,ex,d,h=>by
  have hr:=LT n x0 x1 x2 x3 xs y0 y1 y2 y3 y4 ys us us.length i
  dsimp only [shr] at hr
  rw [Ac (dcF (by omega))] at hr
  rw [drop_eq_nil_of_le (by omega),sfM] at h
  have h8:=Ar h
  obtain ⟨rfl,rfl⟩:=Prod.mk.inj h8
  exact .stop _ _ _ hr (by simp)
 | j+1,i,hi,ex,d,h=>by
  have hl:i<us.length:=by omega
  have hM:maxI=9223372036854775807:=rfl
  have hr:=LT n x0 x1 x2 x3 xs y0 y1 y2 y3 y4 ys us us.length i
  dsimp only [shr] at hr
  have hw:=JF h8 (getElem_mem hl)
  have hlen:=Bz ys
  rw [Af (dcT (by omega)),Aa (by simp only [anE,dcE]; omega)] at hr
  rw [ntN,gtE hl,As,A3 (n:=i) (by omega),Aa (dcT (by omega)),AT,B8] at hr
  rw [drop_eq_getElem_cons hl,sfM] at h
  have stop : ∀ {x:Option (Ex×Dt)},x=some (.ret,([.b false],[]))->(Br.br false (.leaf (.exit 3,([.ptr 0 0,.ptr 1 0],[some (.box [.j x0,.s x1,.j x2,.b x3,.sl (.rose VCd) xs]),some (.box [.j y0,.s y1,.j y2,.b y3,.j y4,.sl (.rose LCd) ys])]))) (.leaf (.ret,([.b false],[]))):Br (Ex×Dt)).run=some (ex,d)->x=some (ex,d)/\ex≠.normal:=fun hx h=>by
   have h8:=Ar h
   obtain ⟨rfl,rfl⟩:=Prod.mk.inj h8
   exact ⟨hx,by simp⟩
  cases q1:Bu us[i].lab.2.2.1 ys with
  | false=>
   rw [q1,Bool.false_and,Bool.false_and] at h
   rw [q1,Bd] at hr
   obtain ⟨g1,g2⟩:=stop hr h
   exact .stop _ _ _ g1 g2
  | true=>
   have hb:=Fo q1
   have hcm:=BB hb
   have hck:=Be (byR us[i].lab.2.2.1 ys)
   rw [q1,Bool.true_and] at h
   rw [q1,Bq,Aa (dcT ⟨by omega,by omega,Ca h7 hb,hw⟩)] at hr
   cases q2:sfR us[i] (byR us[i].lab.2.2.1 ys) with
   | false=>
    rw [q2,Bool.false_and,Bool.false_and] at h
    rw [q2,Bool.not_false,Bq] at hr
    obtain ⟨g1,g2⟩:=stop hr h
    exact .stop _ _ _ g1 g2
   | true=>
    rw [q2,Bool.true_and] at h
    rw [q2,Bool.not_true,Bd] at hr
    cases i with
    | zero=>
     rw [Ac (dcF (by omega))] at hr
     rw [IK,Bool.not_false,Bool.true_and] at h
     exact .step _ _ _ _ hr (JP n x0 x1 x2 x3 xs y0 y1 y2 y3 y4 ys us h3 h4 h5 h6 h7 h8 j 1 (by omega) ex d h)
    | succ i=>
     have hl':i<xs.length:=by omega
     have hw2:i64.wrap (((i+1:Nat):Int)-1)=(i:Int):=by rw [Ay (by omega) (by omega)]; omega
     rw [Af (dcT (by omega)),hw2,Aa (by simp only [anE,dcE]; omega),ntN,gtE hl',As] at hr
     have hp:IK xs (i+1) us[i+1].lab.2.2.1=decide (xs[i].lab.2.2.1>=us[i+1].lab.2.2.1):=by unfold IK; simp only [gtE hl']
     rw [hp] at h
     cases h2:decide (xs[i].lab.2.2.1>=us[i+1].lab.2.2.1) with
     | true=>
      rw [h2,Bool.not_true,Bool.false_and] at h
      rw [h2,Bq] at hr
      obtain ⟨g1,g2⟩:=stop hr h
      exact .stop _ _ _ g1 g2
     | false=>
      rw [h2,Bool.not_false,Bool.true_and] at h
      rw [h2,Bd] at hr
      exact .step _ _ _ _ hr (JP n x0 x1 x2 x3 xs y0 y1 y2 y3 y4 ys us h3 h4 h5 h6 h7 h8 j (i+1+1) (by omega) ex d h)
theorem YT (n:Nat) : ∀ d e d',((Ie n).L d).run=some (e,d')->Runs prog (Ra n) (Ab [(12,Je n),(19,Ie n)]) 0 (body f48 1) (Ie n) d e d':=fun d ex d' h=>by
 unfold Ie at h
 dsimp only at h
 split at h
 ·rename_i us k i x0 x1 x2 x3 xs y0 y1 y2 y3 y4 ys
  obtain ⟨hc,hx⟩:=Ae h
  clear h
  obtain ⟨h0,h1,rfl,h3,h4,h5,h6,h7,h8⟩:=of_decide_eq_true hc
  obtain ⟨i,rfl⟩:=eq_ofNat_of_zero_le h0
  simp only [ntN] at h1 hx
  exact JP n x0 x1 x2 x3 xs y0 y1 y2 y3 y4 ys us h3 h4 h5 h6 h7 h8 (us.length-i) i (by omega) ex d' hx
 ·cases h
theorem YP (n:Nat) (x0:Int) (x1:List UInt8) (x2:Int) (x3:Bool) (xs:List (Rose An)) (y0:Int) (y1:List UInt8) (y2:Int) (y3:Bool) (y4:Int) (ys:List (Rose Lab)) (hc:Ak ys+1<=n+1/\Ak ys+1<=1000000/\Aj (.node (y0,y1,y2,y3,y4,()) ys)=true/\F3 (.node (x0,x1,x2,x3,()) xs)=true):CR prog (Ra n) (Ab [(12,Je n),(19,Ie n)]) f48 [.agg [.j x0,.s x1,.j x2,.b x3,.sl (.rose VCd) xs],.agg [.j y0,.s y1,.j y2,.b y3,.j y4,.sl (.rose LCd) ys]] []=some (.b (sfR (.node (x0,x1,x2,x3,()) xs) (.node (y0,y1,y2,y3,y4,()) ys)),[]):=by
 rw [WM,YR]
 dsimp only [shr]
 obtain ⟨h1,h2,h3,h4⟩:=hc
 obtain ⟨hp,hrr⟩:=Ck h3
 rw [F3,anE,dcE] at h4
 obtain ⟨h4,h5⟩:=h4
 have hk:=CW hp
 simp only [Rose.lab,Rose.kids] at hp hrr hk
 have hM:maxI=9223372036854775807:=rfl
 have hlen:=Bz ys
 have e1:(x1 != []) = !(x1==Ag UInt8):=rfl
 unfold Da
 rw [e1]
 rcases hk with rfl | rfl | rfl | ⟨rfl,h6⟩ | rfl
 ·cases x3<;>cases x1==Ag UInt8<;>cases x0 != 0<;>rfl
 ·have hd:decide ((x1.length:Int)<=30)=decide (x1.length<=30):=decide_eq_decide.2 (by omega)
  rw [hd]
  cases x3<;>cases x1==Ag UInt8<;>cases x0 != 0<;>rfl
 ·cases x3<;>cases x1==Ag UInt8<;>cases x0 != 0<;>rfl
 ·rw [drop_zero]
  have d1:decide ((0:Int)<=0/\0<=xs.length/\(xs.length:Int)=(xs.length:Int)/\xs.length<=4000000000/\Ak ys<=n/\Ak ys<=1000000/\ys.length=1/\A8 4 ys=true/\HY xs=true)=true:=dcT ⟨by omega,by omega,rfl,h4,by omega,by omega,h6,hrr,h5⟩
  rw [d1]
  cases x3<;>cases x1==Ag UInt8<;>cases x0 != 0<;>cases sfL (hd0 ys) xs<;>rfl
 ·rw [drop_zero]
  have d1:decide ((0:Int)<=0/\0<=xs.length/\(xs.length:Int)=(xs.length:Int)/\xs.length<=4000000000/\xs.length=xs.length/\Ak ys<=n/\Ak ys<=1000000/\A8 5 ys=true/\HY xs=true)=true:=dcT ⟨by omega,by omega,rfl,h4,rfl,by omega,by omega,hrr,h5⟩
  have d2:decide (ys.length<=maxI/\xs.length<=maxI)=true:=dcT ⟨by omega,by omega⟩
  rw [d1,d2]
  cases x3<;>cases x1==Ag UInt8<;>cases x0 != 0<;>cases sfM ys xs 0 xs<;>cases B6 xs ys<;>rfl
theorem YQ : ∀ n,(∀ m,m<n->Ad prog 48 (Ent.rd1 (sfN m)).F)->Ad prog 48 (Ent.rd1 (sfN n)).F
 | 0,_=>AX fun vs bs=>by
  unfold Ent.F sfN
  dsimp only
  split
  ·rename_i x0 x1 x2 x3 xs y0 y1 y2 y3 y4 ys
   have:decide (Ak ys+1<=0/\Ak ys+1<=1000000/\Aj (.node (y0,y1,y2,y3,y4,()) ys)=true/\F3 (.node (x0,x1,x2,x3,()) xs)=true)=false:=dcF (by omega)
   rw [this]; rfl
  ·rfl
 | n+1,ih=>by
  refine AU (kc func48 (ih n (lt_succ_self n)) (kc func97 J5 (kc func98 RC (kc func94 OW (kc func62 Z3 (kc func99 RA KnowsL.nil)))))).knows (Λ:=(Ab [(12,Je n),(19,Ie n)])) func48 (c:=f48.body.getD .skip) (by kernel_rfl) fun vs bs r hq hv hb=>?_
  unfold Ent.F sfN at hq
  dsimp only at hq
  split at hq
  ·rename_i x0 x1 x2 x3 xs y0 y1 y2 y3 y4 ys
   obtain ⟨hc,hx⟩:=Ae hq
   exact ⟨LoopsI.loops (.cons (a:=body f48 0) (by kernel_rfl) (YU n) (.cons (a:=body f48 1) (by kernel_rfl) (YT n) .nil)) (by kernel_rfl),(YP n x0 x1 x2 x3 xs y0 y1 y2 y3 y4 ys (of_decide_eq_true hc)).trans hx⟩
  ·cases hq
theorem Z1:Ad prog 48 (Ent.rd1 sfG).F:=by
 refine Bb (F:=fun n=>(Ent.rd1 (sfN n)).F) YQ fun vs bs r h=>?_
 unfold Ent.F sfG at h
 dsimp only at h
 split at h
 ·rename_i x0 x1 x2 x3 xs y0 y1 y2 y3 y4 ys
  obtain ⟨hc,hx⟩:=Ae h
  refine ⟨Ak ys+1,?_⟩
  show (Br.need (decide (Ak ys+1<=Ak ys+1/\Ak ys+1<=1000000/\Aj (.node (y0,y1,y2,y3,y4,()) ys)=true/\F3 (.node (x0,x1,x2,x3,()) xs)=true)) (.leaf (.b (sfR (.node (x0,x1,x2,x3,()) xs) (.node (y0,y1,y2,y3,y4,()) ys)),[]))).run=some r
  have:decide (Ak ys+1<=Ak ys+1/\Ak ys+1<=1000000/\Aj (.node (y0,y1,y2,y3,y4,()) ys)=true/\F3 (.node (x0,x1,x2,x3,()) xs)=true)=true:=dcT ⟨Nat.le_refl _,of_decide_eq_true hc⟩
  rw [this]
  exact hx
 ·cases h
instance decNd0:DecidableEq (Int×Bool×Unit):=inferInstance
instance decNd:DecidableEq Nd:=inferInstance
def Mi (l:List Nd) (e:Nat):Option Bool:=(l[e]?).map fun x=>x.2.2.2.2.1
def Dh (v:List Nd) (u:Int):Nat->Int->Bool
 | 0,_=>false
 | f+1,x=>if x<0 then false else (x==u||match upN v x.toNat with | some w=>Dh v u f w | none=>false)
def Dk (l:List Nd) (i:Nat):Bool:=(range i).all fun j=>match upN l j with | some v=>decide (v<(j:Int)) | none=>false
def okN (v:List Nd) (i:Nat):Bool:=match v[i]? with
 | none=>false
 | some x=>if i=0 then x.2.2.2.1==-1&&x.2.2.1==0
  else decide (0<=x.2.2.2.1/\x.2.2.2.1<(i:Int))&&((Mi v x.2.2.2.1.toNat).getD false&&Dh v x.2.2.2.1 i ((i:Int)-1))
def E3 (v:List Nd):Bool:=(range v.length).all (okN v)&&decide (1<=v.length/\v.length<=40)
def Nk:Gm
 | [.agg [.sl NCd v]],[]=>.need (decide (v.length<=4000000000)) (.leaf (.b (E3 v),[]))
 | _,_=>.no
def GO:LoopEnt:=⟨68,[1,8,9,10],[1],[2],fun
 | ([.ptr 0 0,.sl NCd q,.i .i64 m,.i .i64 i],[some (.box [.sl NCd v])])=>.need (decide (0<=i/\i.toNat<=v.length/\m=v.length/\eqT (List Nd) q v/\v.length<=4000000000)&&Dk v i.toNat) (.br (((range v.length).drop i.toNat).all (okN v)) (.leaf (.exit 0,([.ptr 0 0],[some (.box [.sl NCd v])]))) (.leaf (.ret,([.b false],[]))))
 | _=>.no⟩
def Hy:LoopEnt:=⟨68,[1,4,5,6,8,9,10],[1,5,8,9,10],[],fun
 | ([.ptr 0 0,.ptr 1 0,.b ar,.i .i64 x,.sl NCd q,.i .i64 m,.i .i64 i],[some (.box [.sl NCd v]),some (.box [.i .i64 _,.s _,.i .i64 _,.i .i64 y3,.b _])])=>.need (decide (0<=i/\i.toNat<=v.length/\x<i/\v.length<=4000000000)&&Dk v i.toNat) (.leaf (.exit 2,([.ptr 0 0,.b (ar||Dh v y3 (x+1).toNat x),.sl NCd q,.i .i64 m,.i .i64 i],[some (.box [.sl NCd v])])))
 | _=>.no⟩
theorem Mc (v q:List Nd) (m i:Int):A0 prog (Ab [(94,.rd1 AE)]) (Ab [(2,GO),(11,Hy)]) 0 (body f47 0) GO ([.ptr 0 0,.sl NCd q,.j m,.j i],[some (.box [.sl NCd v])]) =
 ((ifB (decide (i<m)) (ifT (decide ((0:Int)<=i)&&decide (i<(↑q.length:Int))) (Ap q[i.toNat]? fun z=>ifB (i==(0:Int)) (ifB (z.snd.snd.snd.fst != (-1 :
 Int)) (some (Ex.ret,[V.b false],[])) (ifB (z.snd.snd.fst != (0:Int)) (some (Ex.ret,[V.b false],[])) (some (Ex.normal,[V.ptr 0 0,V.sl NCd q,V.j m,V.i .i64
 (i64.wrap (i+(1:Int)))],[some (Blk.box [V.sl NCd v])])))) (ifB (decide (z.snd.snd.snd.fst<(0:Int))) (some (Ex.ret,[V.b false],[])) (ifB (decide
 (z.snd.snd.snd.fst>=i)) (some (Ex.ret,[V.b false],[])) (ifT (decide ((0:Int)<=z.snd.snd.snd.fst)&&decide (z.snd.snd.snd.fst<(↑v.length:Int))) (Ap
 v[toNat z.snd.snd.snd.fst]? fun z_1=>ifB (!z_1.snd.snd.snd.snd.fst) (some (Ex.ret,[V.b false],[])) (ifT (decide ((0:Int)<=i/\i.toNat<=v.length/\
 i64.wrap (i-(1:Int))<i/\v.length<=4000000000)&&Dk v i.toNat) (ifB (!(false||Dh v z.snd.snd.snd.fst (i64.wrap (i-(1:Int)) +
 (1:Int)).toNat (i64.wrap (i-(1:Int))))) (some (Ex.ret,[V.b false],[])) (some (Ex.normal,[V.ptr 0 0,V.sl NCd q,V.j m,V.j (i64.wrap (i
 + (1:Int)))],[some (Blk.box [V.sl NCd v])])))))))))) (some (Ex.exit 0,[V.ptr 0 0],[some (Blk.box [V.sl NCd v])]))):_):=by kernel_rfl
theorem S9 (v q:List Nd) (y0:Int) (y1:List UInt8) (y2 y3:Int) (y4:Bool) (ar:Bool) (m i x:Int):A0 prog (Ab [(94,.rd1 AE)]) (Ab [(2,GO),(11,Hy)]) 0 (body f47 1) Hy ([.ptr 0 0,.ptr 1 0,.b ar,.j x,.sl NCd q,.j m,.j i],[some (.box [.sl NCd v]),some (.box [.j y0,.s y1,.j y2,.j y3,.b y4])]) =
 ((ifB (decide (x>=(0:Int))) (ifB ar (ifT (decide ((0:Int)<=x)&&decide (x<(↑v.length:Int))) (Ap v[x.toNat]? fun z=>some (Ex.normal,[V.ptr 0 0,V.ptr 1 0,
 V.b true,V.j z.snd.snd.snd.fst,V.sl NCd q,V.j m,V.j i],[some (Blk.box [V.sl NCd v]),some (Blk.box [V.j y0,V.s y1,V.j y2,V.j y3,V.b
 y4])]))) (ifT (decide ((0:Int)<=x)&&decide (x<(↑v.length:Int))) (Ap v[x.toNat]? fun z=>some (Ex.normal,[V.ptr 0 0,V.ptr 1 0,V.b (x==y3),V.i .i64
 z.snd.snd.snd.fst,V.sl NCd q,V.j m,V.j i],[some (Blk.box [V.sl NCd v]),some (Blk.box [V.j y0,V.s y1,V.j y2,V.j y3,V.b y4])])))) (some
 (Ex.exit 2,[V.ptr 0 0,V.b ar,V.sl NCd q,V.j m,V.j i],[some (Blk.box [V.sl NCd v])]))):_):=by kernel_rfl
theorem Xg (v:List Nd):AQ prog (Ab [(94,.rd1 AE)]) (Ab [(2,GO),(11,Hy)]) f47 [.agg [.sl NCd v]] [] =
 ((ifT (decide ((0:Int)<=(0:Int)/\0<=v.length/\(↑v.length:Int)=(↑v.length:Int)/\eqT (List Nd) v v/\v.length<=4000000000)&&Dk v (0 :
 Nat)) (ifB ((drop 0 (range v.length)).all (okN v)) (some (V.b (decide ((1:Int)<=(↑v.length:Int)/\(↑v.length:Int)<=(40:Int))),[])) (some (V.b
 false,[])))):_):=by kernel_rfl
theorem Rb {l:List Nd} {i j:Nat} (h:Dk l i=true) (hj:j<i) : ∃ v,upN l j=some v/\v<(j:Int):=by
 have:=all_eq_true.1 h j (mem_range.2 hj)
 cases hu:upN l j with
 | none=>rw [hu] at this; cases this
 | some v=>rw [hu] at this; exact ⟨v,rfl,of_decide_eq_true this⟩
theorem NT {l:List Nd} {i:Nat} (h:Dk l i=true) {u:Int} (hu:upN l i=some u) (hlt:u<(i:Int)):Dk l (i+1)=true:=by
 unfold Dk at h ⊢
 rw [List.range_succ,List.all_append,h,Bool.true_and,List.all_cons,List.all_nil,Bool.and_true,hu]
 exact dcT hlt
theorem GE {l:List Nd} {i:Nat} (h:Dk l i=true) (u:Int) : ∀ (f f':Nat) (x:Int),x<(i:Int)->(x+1).toNat<=f->(x+1).toNat<=f'->Dh l u f x=Dh l u f' x
 | 0,0,x,_,_,_=>rfl
 | 0,f'+1,x,hx,h1,h2=>by rw [Dh,Dh,if_pos (by omega)]
 | f+1,0,x,hx,h1,h2=>by rw [Dh,Dh,if_pos (by omega)]
 | f+1,f'+1,x,hx,h1,h2=>by
  rw [Dh,Dh]
  by_cases a:x<0
  ·rw [if_pos a,if_pos a]
  ·rw [if_neg a,if_neg a]
   obtain ⟨v,hv,hv2⟩:=Rb h (j:=x.toNat) (by omega)
   rw [hv]
   dsimp only
   rw [GE h u f f' v (by omega) (by omega) (by omega)]
theorem Ib {l:List Nd} {e:Nat} (h:e<l.length):upN l e=some l[e].2.2.2.1:=by
 unfold upN
 rw [gtE h]; rfl
theorem US (v q:List Nd) (y0:Int) (y1:List UInt8) (y2 y3:Int) (y4:Bool) (m:Int) (i:Nat) (hi:i<=v.length) (_:v.length<=4000000000) (hs:Dk v i=true) : ∀ (j:Nat) (x:Int) (ar:Bool),(x+1).toNat=j->x<(i:Int)->
  Runs prog (Ab [(94,.rd1 AE)]) (Ab [(2,GO),(11,Hy)]) 0 (body f47 1) Hy ([.ptr 0 0,.ptr 1 0,.b ar,.j x,.sl NCd q,.j m,.j (i:Int)],[some (.box [.sl NCd v]),some (.box [.j y0,.s y1,.j y2,.j y3,.b y4])]) (.exit 2) ([.ptr 0 0,.b (ar||Dh v y3 (x+1).toNat x),.sl NCd q,.j m,.j (i:Int)],[some (.box [.sl NCd v])]):=by
 intro j
 induction j using Nat.strongRecOn with
 | ind j ih=>
  intro x ar hj hx
  have hr:=S9 v q y0 y1 y2 y3 y4 ar m i x
  by_cases a:x<0
  ·rw [Ac (dcF (by omega))] at hr
   have e0:(x+1).toNat=0:=by omega
   rw [e0,Dh,Bool.or_false]
   exact .stop _ _ _ hr (by simp)
  ·obtain ⟨x,rfl⟩:=eq_ofNat_of_zero_le (by omega:0<=x)
   have hxl:x<v.length:=by omega
   have hd:(decide ((0:Int)<=(x:Int))&&decide ((x:Int)<(v.length:Int)))=true:=by simp only [anE,dcE]; omega
   rw [Af (dcT (by omega)),hd,ntN,gtE hxl,Dc,As,Dc,As] at hr
   obtain ⟨w,hw,hw2⟩:=Rb hs (j:=x) (by omega)
   have hw3:v[x].2.2.2.1=w:=by rw [Ib hxl] at hw; exact Option.some.inj hw
   rw [hw3] at hr
   have e0:((x:Int)+1).toNat=x+1:=by omega
   rw [e0,Dh,if_neg (by omega),ntN,hw]
   dsimp only
   rw [GE hs y3 x (w+1).toNat w (by omega) (by omega) (Nat.le_refl _),<-Bool.or_assoc]
   refine .step _ _ _ _ (hr.trans ?_) (ih (w+1).toNat (by omega) w (ar||(x:Int)==y3) rfl (by omega))
   cases ar<;>rfl
theorem Zp : ∀ d e d',(Hy.L d).run=some (e,d')->Runs prog (Ab [(94,.rd1 AE)]) (Ab [(2,GO),(11,Hy)]) 0 (body f47 1) Hy d e d':=fun d ex d' h=>by
 unfold Hy at h
 dsimp only at h
 split at h
 ·rename_i ar x q m i v y0 y1 y2 y3 y4
  obtain ⟨hc,hx⟩:=Ae h
  clear h
  rw [anE] at hc
  obtain ⟨hc,hs⟩:=hc
  obtain ⟨h0,h1,h2,h3⟩:=of_decide_eq_true hc
  obtain ⟨i,rfl⟩:=eq_ofNat_of_zero_le h0
  simp only [ntN] at h1 hs
  have h8:=Ar hx
  obtain ⟨rfl,rfl⟩:=Prod.mk.inj h8
  exact US v q y0 y1 y2 y3 y4 m i h1 h3 hs _ x ar rfl h2
 ·cases h
theorem Zn {v:List Nd} {i:Nat} (h:okN v i=true) : ∃ u,upN v i=some u/\u<(i:Int):=by
 unfold okN at h
 cases hx:v[i]? with
 | none=>rw [hx] at h; cases h
 | some x=>
  rw [hx] at h
  dsimp only at h
  refine ⟨x.2.2.2.1,by unfold upN; rw [hx]; rfl,?_⟩
  split at h
  ·rw [anE,beq_iff_eq] at h; omega
  ·rw [anE,dcE] at h; exact h.1.2
theorem UT (v:List Nd) (hl:v.length<=4000000000) (i:Nat) (hi:i<v.length) (hs:Dk v i=true) :
  A0 prog (Ab [(94,.rd1 AE)]) (Ab [(2,GO),(11,Hy)]) 0 (body f47 0) GO ([.ptr 0 0,.sl NCd v,.j (v.length:Int),.j (i:Int)],[some (.box [.sl NCd v])])=some (bif okN v i then (.normal,([.ptr 0 0,.sl NCd v,.j (v.length:Int),.j ((i+1:Nat):Int)],[some (.box [.sl NCd v])])) else (.ret,([.b false],[]))):=by
 have hM:maxI=9223372036854775807:=rfl
 have hr:=Mc v v v.length i
 rw [Af (dcT (by omega)),Aa (by simp only [anE,dcE]; omega),ntN,gtE hi,As,A3 (n:=i) (by omega)] at hr
 refine hr.trans ?_
 clear hr
 unfold okN
 rw [gtE hi]
 dsimp only
 by_cases hz:i=0
 ·subst hz
  rw [if_pos rfl,show (((0:Nat):Int)==0)=true from rfl]
  unfold bne
  cases v[0].2.2.2.1==-1<;>cases v[0].2.2.1==0<;>rfl
 ·rw [if_neg hz,show ((i:Int)==0)=false from beq_false_of_ne (by omega),Bd]
  have hw:i64.wrap ((i:Int)-1)=(i:Int)-1:=Ay (by omega) (by omega)
  rw [hw]
  by_cases c:0<=v[i].2.2.2.1/\v[i].2.2.2.1<(i:Int)
  ·obtain ⟨u,hu⟩:=eq_ofNat_of_zero_le c.1
   rw [hu] at c ⊢
   have hul:u<v.length:=by omega
   rw [dcT c,Ac (dcF (by omega)),Ac (dcF (by omega)),Aa (by simp only [anE,dcE]; omega),ntN,gtE hul,As]
   have hm:Mi v u=some v[u].2.2.2.2.1:=by unfold Mi; rw [gtE hul]; rfl
   rw [hm,Aa (by rw [anE]; exact ⟨dcT ⟨by omega,by omega,by omega,hl⟩,hs⟩)]
   rw [GE hs u ((i:Int)-1+1).toNat i ((i:Int)-1) (by omega) (Nat.le_refl _) (by omega)]
   show _=some (bif true&&(v[u].2.2.2.2.1&&_) then _ else _)
   cases v[u].2.2.2.2.1<;>cases Dh v u i ((i:Int)-1)<;>rfl
  ·rw [dcF c]
   by_cases c1:v[i].2.2.2.1<0
   ·rw [Af (dcT c1)]; rfl
   ·rw [Ac (dcF c1),Af (dcT (by omega))]; rfl
theorem OC (v:List Nd) (hl:v.length<=4000000000) : ∀ (j i:Nat),i+j=v.length->Dk v i=true->∀ ex d,(Br.br (((range v.length).drop i).all (okN v)) (.leaf (.exit 0,([.ptr 0 0],[some (.box [.sl NCd v])]))) (.leaf (.ret,([.b false],[]))):Br (Ex×Dt)).run=some (ex,d)->
  Runs prog (Ab [(94,.rd1 AE)]) (Ab [(2,GO),(11,Hy)]) 0 (body f47 0) GO ([.ptr 0 0,.sl NCd v,.j (v.length:Int),.j (i:Int)],[some (.box [.sl NCd v])]) ex d
 | 0,i,hi,hs,ex,d,h=>by
  have hr:=Mc v v v.length i
  rw [Ac (dcF (by omega))] at hr
  have e1:(range v.length).drop i=[]:=drop_eq_nil_of_le (by simp; omega)
  rw [e1] at h
  have h8:=Ar h
  obtain ⟨rfl,rfl⟩:=Prod.mk.inj h8
  exact .stop _ _ _ hr (by simp)
 | j+1,i,hi,hs,ex,d,h=>by
  have hr:=UT v hl i (by omega) hs
  rw [Kd (by omega),List.all_cons] at h
  cases hk:okN v i with
  | true=>
   rw [hk,cond_true] at hr
   rw [hk,Bool.true_and] at h
   obtain ⟨u,hu,hlt⟩:=Zn hk
   exact .step _ _ _ _ hr (OC v hl j (i+1) (by omega) (NT hs hu hlt) ex d h)
  | false=>
   rw [hk,cond_false] at hr
   rw [hk,Bool.false_and] at h
   have h8:=Ar h
   obtain ⟨rfl,rfl⟩:=Prod.mk.inj h8
   exact .stop _ _ _ hr (by simp)
theorem Zq : ∀ d e d',(GO.L d).run=some (e,d')->Runs prog (Ab [(94,.rd1 AE)]) (Ab [(2,GO),(11,Hy)]) 0 (body f47 0) GO d e d':=fun d ex d' h=>by
 unfold GO at h
 dsimp only at h
 split at h
 ·rename_i q m i v
  obtain ⟨hc,hx⟩:=Ae h
  clear h
  rw [anE] at hc
  obtain ⟨hc,hs⟩:=hc
  obtain ⟨h0,h1,rfl,h3,h4⟩:=of_decide_eq_true hc
  have h3:q=v:=h3
  subst h3
  obtain ⟨i,rfl⟩:=eq_ofNat_of_zero_le h0
  simp only [ntN] at h1 hs hx
  exact OC _ h4 _ i (Nat.add_sub_of_le h1) hs ex d' hx
 ·cases h
theorem Xo:Ad prog 47 (Ent.rd1 Nk).F:=by
 refine Am (kc func94 OW KnowsL.nil).knows (Λ:=(Ab [(2,GO),(11,Hy)])) func47 (c:=f47.body.getD .skip) (by kernel_rfl) fun vs bs r hq hv hb=>?_
 unfold Ent.F Nk at hq
 dsimp only at hq
 split at hq
 ·rename_i v
  obtain ⟨hc,hx⟩:=Ae hq
  have h1:=of_decide_eq_true hc
  refine ⟨LoopsI.loops (.cons (a:=body f47 0) (by kernel_rfl) Zq (.cons (a:=body f47 1) (by kernel_rfl) Zp .nil)) (by kernel_rfl),Eq.trans ?_ hx⟩
  have hu0:Dk v 0=true:=rfl
  have d0:decide ((0:Int)<=0/\0<=v.length/\(v.length:Int)=(v.length:Int)/\eqT (List Nd) v v/\v.length<=4000000000)=true:=dcT ⟨by omega,by omega,rfl,rfl,h1⟩
  have hle:decide (1<=(v.length:Int)/\(v.length:Int)<=40)=decide (1<=v.length/\v.length<=40):=decide_eq_decide.2 (by omega)
  rw [Xg,d0,hu0,drop_zero,hle]
  unfold E3
  cases (range v.length).all (okN v)<;>rfl
 ·cases hq
def Df (v:List Nd) (l:List Ty):Bool:=AC l&&(E3 v&&sfR (v4L v 0) (t2L l 0))
def Id:Gm
 | [.agg [.sl NCd v],.agg [.sl TCd l]],[]=>.need (decide (l.length<=4000000000)&&nmL l&&decide (v.length<=4000000000)) (.leaf (.b (Df v l),[]))
 | _,_=>.no
theorem PZ (v:List Nd) (l:List Ty):AQ prog (Ab [(46,.rd1 HG),(47,.rd1 Nk),(44,.rd1 H6),(45,.rd1 CJ),(48,.rd1 sfG)]) (Ab []) f11 [.agg [.sl NCd v],.agg [.sl TCd l]] [] =
 ((ifT (decide (l.length<=4000000000)&&nmL l) (ifB (AC l) (ifT (decide (v.length<=4000000000)) (ifB (E3 v) (ifT (decide ((0:Int)<=(0:Int)/\(0
 : Nat)<v.length/\v.length<=4000000000)) (ifT (decide ((0:Int)<=(0:Int)/\0<l.length/\l.length<=4000000000)) (ifT (decide (Ak
 (take (t2L l 0).kids.length (drop 0 (t2L l 0).kids))+1<=1000000/\Aj (Rose.node ((t2L l 0).lab.fst,(t2L
 l 0).lab.snd.fst,(t2L l 0).lab.snd.snd.fst,(t2L l 0).lab.snd.snd.snd.fst,(t2L l 0).lab.snd.snd.snd.snd.fst,()) (take (t2L l (0 :
 Nat)).kids.length (drop 0 (t2L l 0).kids)))=true/\F3 (Rose.node ((v4L v 0).lab.fst,(v4L v 0).lab.snd.fst,(v4L v (0 :
 Nat)).lab.snd.snd.fst,(v4L v 0).lab.snd.snd.snd.fst,()) (take (v4L v 0).kids.length (drop 0 (v4L v 0).kids)))=true)) (some
 (V.b (sfR (Rose.node ((v4L v 0).lab.fst,(v4L v 0).lab.snd.fst,(v4L v 0).lab.snd.snd.fst,(v4L v 0).lab.snd.snd.snd.fst,()) (take
 (v4L v 0).kids.length (drop 0 (v4L v 0).kids))) (Rose.node ((t2L l 0).lab.fst,(t2L l 0).lab.snd.fst,(t2L l (0 :
 Nat)).lab.snd.snd.fst,(t2L l 0).lab.snd.snd.snd.fst,(t2L l 0).lab.snd.snd.snd.snd.fst,()) (take (t2L l 0).kids.length (drop 0
 (t2L l 0).kids)))),[]))))) (some (V.b false,[])))) (some (V.b false,[])))):_):=by kernel_rfl
theorem YF {v:List Nd} (hl:v.length<=4000000000) : ∀ (f k:Nat),F3 (v4t v f k)=true:=by
 have all : ∀ l:List (Rose An),(∀ z∈l,F3 z=true)->HY l=true:=fun l=>by
  induction l with
  | nil=>intro _; rfl
  | cons z l ih=>intro h; rw [HY,h z (by simp),ih fun w hw=>h w (by simp [hw])]; rfl
 intro f
 induction f with
 | zero=>intro k; rw [v4t,F3]; rfl
 | succ f ih=>
  intro k
  have h1:=Nn (k:Int) (v.drop (k+1)) (k+1)
  rw [length_drop] at h1
  have h2:(E4 v k).length<=v.length-(k+1):=h1
  rw [v4t,F3,all _ (fun z hz=>by
   obtain ⟨x,_,rfl⟩:=List.mem_map.1 hz
   exact ih _),List.length_map,dcT (by omega)]
  rfl
theorem G1 {l:List Ty} (h:AC l=true):0<l.length/\Ao (t2L l 0)<=1000000/\Aj (t2L l 0)=true/\(kf l 0).1=t2L l 0:=by
 have e:=(J8 l).2 h
 have f:=IV h
 rw [e] at f
 refine ⟨?_,f.1,f.2,e⟩
 unfold AC at h
 simp only [anE,dcE] at h
 omega
theorem Sp (v:List Nd) (l:List Ty) (h1:(decide (l.length<=4000000000)&&nmL l)=true) (h2:v.length<=4000000000):AQ prog (Ab [(46,.rd1 HG),(47,.rd1 Nk),(44,.rd1 H6),(45,.rd1 CJ),(48,.rd1 sfG)]) (Ab []) f11 [.agg [.sl NCd v],.agg [.sl TCd l]] []=some (.b (Df v l),[]):=by
 rw [PZ,h1,Dc]
 unfold Df
 cases hk:AC l with
 | false=>rfl
 | true=>
  obtain ⟨k1,k2,k3,k4⟩:=G1 hk
  rw [Bq,Aa (dcT h2)]
  cases hn:E3 v with
  | false=>rfl
  | true=>
   have hv:0<v.length:=by
    unfold E3 at hn
    simp only [anE,dcE] at hn
    omega
   rw [anE,dcE] at h1
   have hck:=Be (t2L l 0)
   have hw:F3 (v4L v 0)=true:=YF h2 _ _
   rw [Bq,Aa (dcT ⟨by omega,hv,h2⟩),Aa (dcT ⟨by omega,k1,h1.1⟩),Db,HZ,drop_zero,take_length,Aa (dcT ⟨by omega,k3,hw⟩)]
   rfl
theorem Uk:Ad prog 11 (Ent.rd1 Id).F:=by
 refine Am (kc func46 Ou (kc func47 Xo (kc func44 UZ (kc func45 GV (kc func48 Z1 KnowsL.nil))))).knows (Λ:=Ab []) func11 (c:=f11.body.getD .skip) (by kernel_rfl) fun vs bs r hq hv hb=>?_
 unfold Ent.F Id at hq
 dsimp only at hq
 split at hq
 ·rename_i v l
  obtain ⟨hc,hx⟩:=Ae hq
  rw [anE,dcE] at hc
  exact ⟨Aq _,(Sp v l hc.1 hc.2).trans hx⟩
 ·cases hq
def asT (x:Nd):Ty:=(bif x.2.2.2.2.1 then 5 else 1,x.2.1,x.2.2.1,x.2.2.2.2.1,x.2.2.2.1,x.1,())
def tys (v:List Nd):List Ty:=v.map asT
def cvL (x:Lab):An:=(x.2.2.2.2.1,x.2.1,x.2.2.1,x.2.2.2.1,())
mutual
def cv:Rose Lab->Rose An
 | .node x ks=>.node (cvL x) (cvs ks)
def cvs:List (Rose Lab)->List (Rose An)
 | []=>[]
 | z::l=>cv z::cvs l
end
def BD:List (Rose Lab)->List (Rose An)->Bool
 | [],us=>us.isEmpty
 | z::ks,[]=>!z.lab.2.2.2.1&&BD ks []
 | z::ks,u::us=>if u.lab.2.2.1=z.lab.2.2.1 then sfR u z&&BD ks us else !z.lab.2.2.2.1&&BD ks (u::us)
theorem Bh (v:List Nd):(tys v).length=v.length:=by unfold tys; rw [List.length_map]
theorem DW (v:List Nd) (i:Nat):AY (tys v) i=upN v i:=by
 unfold AY upN tys
 rw [List.getElem?_map]
 cases v[i]?<;>rfl
theorem Gi {v:List Nd} {i:Nat} (h:i<v.length):A5 (tys v) i=(bif v[i].2.2.2.2.1 then 5 else 1,v[i].2.1,v[i].2.2.1,v[i].2.2.2.2.1,v[i].1,()):=by
 unfold A5 tys
 rw [List.getElem?_map,gtE h]
 rfl
theorem Iy {v:List Nd} {i:Nat} (h:i<v.length):Aw (A5 (tys v) i).1=v[i].2.2.2.2.1:=by
 rw [Gi h]
 cases v[i].2.2.2.2.1<;>rfl
theorem RW : ∀ l:List (Rose Lab),cvs l=l.map cv
 | []=>by rw [cvs]; rfl
 | z::l=>by rw [cvs,RW l]; rfl
theorem Aaf (z:Rose Lab):(cv z).lab=cvL z.lab:=by cases z; rw [cv]; rfl
theorem Rz (k:Int) : ∀ (l:List Nd) (i:Nat),nkL k i l=C6 k i (l.map asT)
 | [],i=>rfl
 | x::l,i=>by
  rw [nkL,List.map_cons,C6,Rz k l]
  rfl
theorem UU (v:List Nd) (k:Nat):E4 v k=B7 (tys v) k:=by
 unfold E4 B7 tys
 rw [Rz,List.map_drop]
theorem TS {v:List Nd} : ∀ (n k:Nat),v.length-k<=n->k<v.length->v4L v k=cv (t2L (tys v) k)
 | 0,k,h1,h2=>by omega
 | n+1,k,h1,h2=>by
  have hl:=Bh v
  rw [Yy h2,Ud (by omega),cv,RW,List.map_map,UU]
  congr 1
  ·rw [Gi h2]
   unfold Il
   rw [gtE h2]
   rfl
  ·refine List.map_congr_left fun x hx=>?_
   obtain ⟨j,rfl,h3,h4⟩:=EZ hx
   exact TS n _ (by simp; omega) (by simp; omega)
theorem Dq {l:List Ty} {g:Nat->Rose Lab×Nat} {a:Nat} : ∀ (n e:Nat) (ks:List (Rose Lab)),AD g l a n e ks=(ks++(AD g l a n e []).1,(AD g l a n e []).2)
 | 0,e,ks=>by simp [AD]
 | n+1,e,ks=>by
  rw [AD,AD]
  split
  ·rw [Dq n _ (ks++[(g e).1]),Dq n _ ([]++[(g e).1])]
   simp
  ·simp
theorem GN {v:List Nd} {a e:Nat}:C9 v a e=true↔AY (tys v) e=some (a:Int):=by
 rw [DW]
 unfold C9
 exact beq_iff_eq
def KB (v:List Nd) (z:Rose Lab):Prop:=∀ e,e<v.length->vfR v z e=if sfR (cv (kf (tys v) e).1) z=true then ((kf (tys v) e).2:Int) else -1
theorem Kz {v:List Nd} {e:Nat} (h:e<v.length):(cv (kf (tys v) e).1).lab=(v[e].1,v[e].2.1,v[e].2.2.1,v[e].2.2.2.2.1,()):=by
 rw [Aaf,Mt (by rw [Bh]; exact h)]
 show cvL (A5 (tys v) e)=_
 rw [Gi h]
 rfl
theorem TG {v:List Nd} {a:Nat} {y:Rose Lab} (hg:KB v y) : ∀ n e,vfI v a (vfR v y) n e=if sfL y (cvs (AD (kf (tys v)) (tys v) a n e []).1)=true then ((AD (kf (tys v)) (tys v) a n e []).2:Int) else -1
 | 0,e=>by rw [vfI,AD,cvs,sfL,if_pos rfl]
 | n+1,e=>by
  rw [vfI,AD]
  by_cases ho:C9 v a e=true
  ·have hl:=DB ho
   rw [if_pos ho,if_pos (GN.1 ho),Dq n _ ([]++[(kf (tys v) e).1]),FI hl]
   dsimp only
   rw [nil_append,List.singleton_append,cvs,sfL,Kz hl]
   have hv:=hg e hl
   dsimp only
   by_cases q:v[e].2.2.1=0
   ·rw [q,if_pos rfl,beq_self_eq_true,Bool.true_and]
    cases hs:sfR (cv (kf (tys v) e).1) y with
    | false=>
     rw [hs,if_neg (by simp)] at hv
     rw [hv,if_pos (by omega),Bool.false_and,if_neg (by simp)]
    | true=>
     rw [hs,if_pos rfl] at hv
     rw [hv,if_neg (by omega),ntN,Bool.true_and,TG hg n]
   ·rw [if_neg (by simpa using q),beq_false_of_ne q,Bool.false_and,Bool.false_and,if_neg (by simp)]
  ·rw [if_neg ho,if_neg (fun h=>ho (GN.2 h)),cvs,sfL,if_pos rfl]
theorem MK {v:List Nd} {a:Nat} : ∀ ks:List (Rose Lab),(∀ z∈ks,KB v z)->∀ n e,v.length-e<=n->
  (if vfP v ks a e<0 then (-1:Int) else if C9 v a (vfP v ks a e).toNat=true then -1 else vfP v ks a e)=if BD ks (cvs (AD (kf (tys v)) (tys v) a n e []).1)=true then ((AD (kf (tys v)) (tys v) a n e []).2:Int) else -1
 | [],_,n,e,hn=>by
  rw [vfP,if_neg (by omega),ntN]
  by_cases ho:C9 v a e=true
  ·have hl:=DB ho
   obtain ⟨n,rfl⟩ : ∃ m,n=m+1:=⟨n-1,by omega⟩
   rw [if_pos ho,AD,if_pos (GN.1 ho),Dq]
   dsimp only
   rw [nil_append,List.singleton_append,cvs,BD]
   rfl
  ·rw [if_neg ho,Dp (fun h=>ho (GN.2 h)),cvs,BD]
   rfl
 | z::ks,hg,n,e,hn=>by
  have hg2 : ∀ z∈ks,KB v z:=fun w hw=>hg w (List.mem_cons_of_mem _ hw)
  by_cases ho:C9 v a e=true
  ·have hl:=DB ho
   obtain ⟨n,rfl⟩ : ∃ m,n=m+1:=⟨n-1,by omega⟩
   have hk:AD (kf (tys v)) (tys v) a (n+1) e []=((kf (tys v) e).1::(AD (kf (tys v)) (tys v) a n (kf (tys v) e).2 []).1,(AD (kf (tys v)) (tys v) a n (kf (tys v) e).2 []).2):=by
    rw [AD,if_pos (GN.1 ho),Dq]
    rfl
   have ih:=MK (a:=a) ks hg2 (n+1) e hn
   rw [hk] at ih ⊢
   dsimp only at ih ⊢
   rw [cvs] at ih ⊢
   rw [BD,Kz hl]
   dsimp only
   by_cases q:v[e].2.2.1=z.lab.2.2.1
   ·have hv:=hg z List.mem_cons_self e hl
    have hc:C9 v a e=true/\noN v e=some z.lab.2.2.1:=⟨ho,by rw [FI hl,q]⟩
    rw [if_pos q]
    cases hs:sfR (cv (kf (tys v) e).1) z with
    | false=>
     rw [hs,if_neg (by simp)] at hv
     have hV:vfP v (z::ks) a e = -1:=by rw [vfP,if_pos hc,hv,if_pos (by omega)]
     rw [hV,if_pos (by omega),Bool.false_and,if_neg (by simp)]
    | true=>
     have hb:=(Cx (tys v) e (by rw [Bh]; exact hl)).1
     rw [hs,if_pos rfl] at hv
     have hV:vfP v (z::ks) a e=vfP v ks a (kf (tys v) e).2:=by rw [vfP,if_pos hc,hv,if_neg (by omega),ntN]
     rw [hV,Bool.true_and]
     exact MK ks hg2 n _ (by omega)
   ·have hc : ¬(C9 v a e=true/\noN v e=some z.lab.2.2.1):=fun h=>q (Option.some.inj ((FI hl).symm.trans h.2))
    rw [if_neg q]
    cases hm:z.lab.2.2.2.1 with
    | true=>
     have hV:vfP v (z::ks) a e = -1:=by rw [vfP,if_neg hc,if_pos hm]
     rw [hV,if_pos (by omega),Bool.not_true,Bool.false_and,if_neg (by simp)]
    | false=>
     have hV:vfP v (z::ks) a e=vfP v ks a e:=by rw [vfP,if_neg hc,if_neg (by rw [hm]; simp)]
     rw [hV,Bool.not_false,Bool.true_and]
     exact ih
  ·have hk:AD (kf (tys v)) (tys v) a n e []=([],e):=Dp (fun h=>ho (GN.2 h))
   have ih:=MK (a:=a) ks hg2 n e hn
   have hc : ¬(C9 v a e=true/\noN v e=some z.lab.2.2.1):=fun h=>ho h.1
   rw [hk] at ih ⊢
   dsimp only at ih ⊢
   rw [cvs] at ih ⊢
   rw [BD]
   cases hm:z.lab.2.2.2.1 with
   | true=>
    have hV:vfP v (z::ks) a e = -1:=by rw [vfP,if_neg hc,if_pos hm]
    rw [hV,if_pos (by omega),Bool.not_true,Bool.false_and,if_neg (by simp)]
   | false=>
    have hV:vfP v (z::ks) a e=vfP v ks a e:=by rw [vfP,if_neg hc,if_neg (by rw [hm]; simp)]
    rw [hV,Bool.not_false,Bool.true_and]
    exact ih
def VR (y z:Rose An):Prop:=y.lab.2.2.1<z.lab.2.2.1
def KR (y z:Rose Lab):Prop:=y.lab.2.2.1<z.lab.2.2.1
theorem Um (ks:List (Rose Lab)) : ∀ (us pre:List (Rose An)),pre.Pairwise VR->
  (sfM ks (pre++us) pre.length us=true↔(∀ u∈us,Bu u.lab.2.2.1 ks=true/\sfR u (byR u.lab.2.2.1 ks)=true)/\(pre++us).Pairwise VR)
 | [],pre,hp=>by rw [sfM,append_nil]; exact ⟨fun _=>⟨fun _ h=>(by cases h),hp⟩,fun _=>rfl⟩
 | z::l,pre,hp=>by
  have hpg:IK (pre++z::l) pre.length z.lab.2.2.1=true↔∃ y,pre.getLast? = some y/\y.lab.2.2.1>=z.lab.2.2.1:=by
   cases hl:pre.getLast? with
   | none=>
    have:pre=[]:=by simpa using hl
    subst this
    simp [IK]
   | some y=>
    have hne:pre≠[]:=by intro e; subst e; cases hl
    obtain ⟨m,hm⟩ : ∃ m,pre.length=m+1:=⟨pre.length-1,by have:=List.length_pos_iff.2 hne; omega⟩
    have hy:(pre++z::l)[m]? = some y:=by
     rw [List.getElem?_append_left (by omega),<-hl,List.getLast?_eq_getElem?,hm]; rfl
    rw [hm]
    unfold IK
    dsimp only
    rw [hy]
    simp
  have hR:(∀ y∈pre,VR y z)↔IK (pre++z::l) pre.length z.lab.2.2.1=false:=by
   rw [<-Bool.not_eq_true,hpg]
   constructor
   ·rintro h ⟨y,g1,g2⟩
    have:y.lab.2.2.1<z.lab.2.2.1:=h y (List.mem_of_getLast? g1)
    omega
   ·intro h y hy
    show y.lab.2.2.1<z.lab.2.2.1
    cases hl:pre.getLast? with
    | none=>
     have:pre=[]:=by simpa using hl
     subst this; cases hy
    | some w=>
     have h1 : ¬w.lab.2.2.1>=z.lab.2.2.1:=fun g=>h ⟨w,hl,g⟩
     have hne:pre≠[]:=by intro e; subst e; cases hl
     have e:pre=pre.dropLast++[w]:=by
      rw [List.getLast?_eq_some_getLast hne] at hl
      have:=(List.dropLast_concat_getLast hne).symm
      rw [Option.some.inj hl] at this
      exact this
     rw [e] at hy hp
     rcases List.mem_append.1 hy with hy | hy
     ·have:y.lab.2.2.1<w.lab.2.2.1:=(List.pairwise_append.1 hp).2.2 y hy w (by simp)
      omega
     ·simp at hy; subst hy; omega
  rw [sfM,anE,anE,anE,Bool.not_eq_true',<-hR]
  have hstep:(∀ y∈pre,VR y z)->(sfM ks (pre++z::l) (pre.length+1) l=true↔(∀ u∈l,Bu u.lab.2.2.1 ks=true/\sfR u (byR u.lab.2.2.1 ks)=true)/\(pre++z::l).Pairwise VR):=fun hall=>by
   have hp2:(pre++[z]).Pairwise VR:=List.pairwise_append.2 ⟨hp,List.pairwise_singleton _ _,fun y hy w hw=>by simp at hw; subst hw; exact hall y hy⟩
   have ih:=Um ks l (pre++[z]) hp2
   rw [append_assoc] at ih
   simpa using ih
  constructor
  ·rintro ⟨⟨h1,h2,h3⟩,h4⟩
   have:=(hstep h3).1 h4
   refine ⟨fun u hu=>?_,this.2⟩
   rcases mem_cons.1 hu with e | hu
   ·rw [e]; exact ⟨h1,h2⟩
   ·exact this.1 u hu
  ·rintro ⟨h1,h2⟩
   have hall : ∀ y∈pre,VR y z:=fun y hy=>(List.pairwise_append.1 h2).2.2 y hy z (by simp)
   exact ⟨⟨(h1 z (by simp)).1,(h1 z (by simp)).2,hall⟩,(hstep hall).2 ⟨fun u hu=>h1 u (by simp [hu]),h2⟩⟩
theorem DR {n:Int} {ks:List (Rose Lab)}:Bu n ks=true↔∃ y∈ks,y.lab.2.2.1=n:=by
 unfold Bu
 rw [any_eq_true]
 constructor
 ·rintro ⟨y,h1,h2⟩; exact ⟨y,h1,by simpa using h2⟩
 ·rintro ⟨y,h1,h2⟩; exact ⟨y,h1,by simpa using h2⟩
theorem DQ {us:List (Rose An)} {ks:List (Rose Lab)}:B6 us ks=true↔∀ y∈ks,y.lab.2.2.2.1=true->∃ u∈us,u.lab.2.2.1=y.lab.2.2.1:=by
 unfold B6 Dd
 rw [all_eq_true]
 constructor
 ·intro h y hy hm
  have:=h y hy
  rw [hm,Bool.not_true,Bool.false_or,any_eq_true] at this
  obtain ⟨u,h1,h2⟩:=this
  exact ⟨u,h1,by simpa using h2⟩
 ·intro h y hy
  cases hm:y.lab.2.2.2.1 with
  | false=>rfl
  | true=>
   obtain ⟨u,h1,h2⟩:=h y hy hm
   rw [Bool.not_true,Bool.false_or,any_eq_true]
   exact ⟨u,h1,by simpa using h2⟩
theorem Eh {n:Int} {z:Rose Lab} {ks:List (Rose Lab)} (h:n≠z.lab.2.2.1):Bu n (z::ks)=Bu n ks/\byR n (z::ks)=byR n ks:=by
 constructor
 ·unfold Bu
  rw [any_cons,beq_false_of_ne (Ne.symm h),Bool.false_or]
 ·rw [byR,if_neg (Ne.symm h)]
theorem Do : ∀ (ks:List (Rose Lab)),ks.Pairwise KR->∀ us:List (Rose An),(BD ks us=true↔((∀ u∈us,Bu u.lab.2.2.1 ks=true/\sfR u (byR u.lab.2.2.1 ks)=true)/\us.Pairwise VR)/\B6 us ks=true)
 | [],_,us=>by
  rw [BD,List.isEmpty_iff]
  constructor
  ·rintro rfl; exact ⟨⟨fun u h=>(by cases h),Pairwise.nil⟩,rfl⟩
  ·rintro ⟨⟨h,_⟩,_⟩
   cases us with
   | nil=>rfl
   | cons u us=>
    have:=(h u (by simp)).1
    cases this
 | z::ks,hp,[]=>by
  rw [pairwise_cons] at hp
  rw [BD,anE,Do ks hp.2 [],DQ,DQ]
  constructor
  ·rintro ⟨h1,h2,h3⟩
   refine ⟨h2.imp_left fun _ u h=>(by cases h),fun y hy hm=>?_⟩
   rcases mem_cons.1 hy with e | hy
   ·rw [e] at hm; rw [hm] at h1; cases h1
   ·exact h3 y hy hm
  ·rintro ⟨h2,h3⟩
   refine ⟨?_,⟨fun u h=>(by cases h),Pairwise.nil⟩,fun y hy hm=>h3 y (by simp [hy]) hm⟩
   cases hm:z.lab.2.2.2.1 with
   | false=>rfl
   | true=>obtain ⟨u,g,_⟩:=h3 z (by simp) hm; cases g
 | z::ks,hp,u::us=>by
  rw [pairwise_cons] at hp
  have hz : ∀ n,Bu n ks=true->z.lab.2.2.1<n:=fun n h=>by
   obtain ⟨y,h1,h2⟩:=DR.1 h
   have:z.lab.2.2.1<y.lab.2.2.1:=hp.1 y h1
   omega
  rw [BD]
  by_cases q:u.lab.2.2.1=z.lab.2.2.1
  ·have hb:byR u.lab.2.2.1 (z::ks)=z:=by rw [byR,if_pos q.symm]
   rw [if_pos q,anE,Do ks hp.2 us,DQ,DQ]
   constructor
   ·rintro ⟨h1,⟨h2,h3⟩,h4⟩
    refine ⟨⟨fun w hw=>?_,pairwise_cons.2 ⟨fun w hw=>?_,h3⟩⟩,fun y hy hm=>?_⟩
    ·rcases mem_cons.1 hw with e | hw
     ·rw [e,hb]; exact ⟨DR.2 ⟨z,by simp,q.symm⟩,h1⟩
     ·have:=h2 w hw
      have hne:=Eh (ks:=ks) (z:=z) (n:=w.lab.2.2.1) (by have:=hz _ this.1; omega)
      rw [hne.1,hne.2]; exact this
    ·show u.lab.2.2.1<w.lab.2.2.1
     have:=hz _ (h2 w hw).1; omega
    ·rcases mem_cons.1 hy with e | hy
     ·exact ⟨u,by simp,by rw [e,q]⟩
     ·obtain ⟨w,g1,g2⟩:=h4 y hy hm
      exact ⟨w,by simp [g1],g2⟩
   ·rintro ⟨⟨h1,h2⟩,h3⟩
    rw [pairwise_cons] at h2
    refine ⟨by have:=(h1 u (by simp)).2; rw [hb] at this; exact this,⟨fun w hw=>?_,h2.2⟩,fun y hy hm=>?_⟩
    ·have hlt:u.lab.2.2.1<w.lab.2.2.1:=h2.1 w hw
     have:=h1 w (by simp [hw])
     have hne:=Eh (ks:=ks) (z:=z) (n:=w.lab.2.2.1) (by omega)
     rw [hne.1,hne.2] at this; exact this
    ·obtain ⟨w,g1,g2⟩:=h3 y (by simp [hy]) hm
     rcases mem_cons.1 g1 with e | g1
     ·have:z.lab.2.2.1<y.lab.2.2.1:=hp.1 y hy
      rw [e] at g2; omega
     ·exact ⟨w,g1,g2⟩
  ·rw [if_neg q,anE,Do ks hp.2 (u::us),DQ,DQ]
   constructor
   ·rintro ⟨h1,⟨h2,h3⟩,h4⟩
    refine ⟨⟨fun w hw=>?_,h3⟩,fun y hy hm=>?_⟩
    ·have:=h2 w hw
     have hne:=Eh (ks:=ks) (z:=z) (n:=w.lab.2.2.1) (by have:=hz _ this.1; omega)
     rw [hne.1,hne.2]; exact this
    ·rcases mem_cons.1 hy with e | hy
     ·rw [e] at hm; rw [hm] at h1; cases h1
     ·exact h4 y hy hm
   ·rintro ⟨⟨h1,h2⟩,h3⟩
    have hu:z.lab.2.2.1<u.lab.2.2.1:=by
     have:=(h1 u (by simp)).1
     rw [(Eh (ks:=ks) q).1] at this
     exact hz _ this
    have hall : ∀ w∈u::us,z.lab.2.2.1<w.lab.2.2.1:=fun w hw=>by
     rcases mem_cons.1 hw with e | hw
     ·rw [e]; exact hu
     ·have:u.lab.2.2.1<w.lab.2.2.1:=(pairwise_cons.1 h2).1 w hw
      omega
    refine ⟨?_,⟨fun w hw=>?_,h2⟩,fun y hy hm=>h3 y (by simp [hy]) hm⟩
    ·cases hm:z.lab.2.2.2.1 with
     | false=>rfl
     | true=>
      obtain ⟨w,g1,g2⟩:=h3 z (by simp) hm
      have:=hall w g1; omega
    ·have:=h1 w hw
     have hne:=Eh (ks:=ks) (z:=z) (n:=w.lab.2.2.1) (by have:=hall w hw; omega)
     rw [hne.1,hne.2] at this; exact this
theorem Ip {ks:List (Rose Lab)} (h:ks.Pairwise KR) (us:List (Rose An)):BD ks us=(sfM ks us 0 us&&B6 us ks):=by
 have h1:=Um ks us [] Pairwise.nil
 rw [nil_append,List.length_nil] at h1
 rw [Bool.eq_iff_iff,anE,h1]
 exact Do ks h us
def Ct (v:List Nd) (e:Nat) (m:Bool):List (Rose Lab)×Nat:=bif m then AD (kf (tys v)) (tys v) e (tys v).length (e+1) [] else ([],e+1)
theorem RH {v:List Nd} {e:Nat} (h:e<v.length):kf (tys v) e=(.node (A5 (tys v) e) (Ct v e v[e].2.2.2.2.1).1,(Ct v e v[e].2.2.2.2.1).2):=by
 have:=Mt (l:=tys v) (a:=e) (by rw [Bh]; exact h)
 rw [Iy h] at this
 exact this
theorem YS {v:List Nd} {e:Nat} (h:e<v.length) (z:Rose Lab):sfR (cv (kf (tys v) e).1) z=(if Da v[e].1 v[e].2.1 v[e].2.2.2.2.1 z.lab.1=true then false
  else if z.lab.1=1 then BT v[e].1 else if z.lab.1=3 then decide (0<=v[e].1/\v[e].1<=z.lab.2.2.2.2.1) else if z.lab.1=2 then decide (v[e].2.1.length<=30)
  else if z.lab.1=4 then sfL (hd0 z.kids) (cvs (Ct v e v[e].2.2.2.2.1).1) else sfM z.kids (cvs (Ct v e v[e].2.2.2.2.1).1) 0 (cvs (Ct v e v[e].2.2.2.2.1).1)&&B6 (cvs (Ct v e v[e].2.2.2.2.1).1) z.kids):=by
 rw [RH h,cv,sfR,Gi h]
 rfl
theorem Pj (v:List Nd) : ∀ (n:Nat) (z:Rose Lab),Ao z<=n->Aj z=true->KB v z
 | 0,z,hn,_=>by have:=BX z; omega
 | n+1,z,hn,hr=>fun e h=>by
  obtain ⟨hp,hrr⟩:=Ck hr
  have hk:=CW hp
  have hc:=Be z
  have IH : ∀ y∈z.kids,KB v y:=fun y hy=>Pj v n y (by have:=BB hy; omega) (Ca hrr hy)
  have he:(kf (tys v) e).2=(Ct v e v[e].2.2.2.2.1).2:=by rw [RH h]
  rw [PO z h,YS h,he]
  have ht : ∀ s:List UInt8,(s != []) = !(s==[]):=fun s=>rfl
  have hw:(((e+1:Nat)):Int)=(e:Int)+1:=by omega
  have hif : ∀ X:Bool,(if false=true then false else X)=X:=fun X=>if_neg (by simp)
  rcases hk with h1 | h1 | h1 | ⟨h1,h6⟩ | h1
  ·rw [h1,if_pos (by rfl),if_pos rfl]
   cases hm:v[e].2.2.2.2.1 with
   | true=>rw [show Cw z.lab v[e].1 v[e].2.1 true=false from rfl,if_neg (by simp),show Da v[e].1 v[e].2.1 true 1=true from rfl,if_pos rfl,if_neg (by simp)]
   | false=>
    have hl:Cw z.lab v[e].1 v[e].2.1 false=(BT v[e].1&&v[e].2.1==[]):=by unfold Cw; rw [if_neg (by simp),if_neg (by omega),if_neg (by omega)]
    have hb:Da v[e].1 v[e].2.1 false 1 = !(v[e].2.1==[]):=by unfold Da; rw [ht]; cases v[e].2.1==[]<;>rfl
    rw [hl,hb,show (Ct v e false).2=e+1 from rfl,hw]
    cases v[e].2.1==[]<;>cases BT v[e].1<;>simp
  ·rw [h1,if_pos (by rfl),if_neg (show ¬(2:Int)=1 by omega),if_neg (show ¬(2:Int)=3 by omega),if_pos rfl]
   cases hm:v[e].2.2.2.2.1 with
   | true=>rw [show Cw z.lab v[e].1 v[e].2.1 true=false from rfl,if_neg (by simp),show Da v[e].1 v[e].2.1 true 2=true from rfl,if_pos rfl,if_neg (by simp)]
   | false=>
    have hl:Cw z.lab v[e].1 v[e].2.1 false=(v[e].1==0&&decide (v[e].2.1.length<=30)):=by unfold Cw; rw [if_neg (by simp),if_pos h1]
    have hb:Da v[e].1 v[e].2.1 false 2 = !(v[e].1==0):=by unfold Da bne; cases v[e].1==0<;>rfl
    rw [hl,hb,show (Ct v e false).2=e+1 from rfl,hw]
    cases v[e].1==0<;>cases decide (v[e].2.1.length<=30)<;>simp
  ·rw [h1,if_pos (by rfl),if_neg (show ¬(3:Int)=1 by omega),if_pos rfl]
   cases hm:v[e].2.2.2.2.1 with
   | true=>rw [show Cw z.lab v[e].1 v[e].2.1 true=false from rfl,if_neg (by simp),show Da v[e].1 v[e].2.1 true 3=true from rfl,if_pos rfl,if_neg (by simp)]
   | false=>
    have hl:Cw z.lab v[e].1 v[e].2.1 false=(decide (0<=v[e].1/\v[e].1<=z.lab.2.2.2.2.1)&&v[e].2.1==[]):=by unfold Cw; rw [if_neg (by simp),if_neg (by omega),if_pos h1]
    have hb:Da v[e].1 v[e].2.1 false 3 = !(v[e].2.1==[]):=by unfold Da; rw [ht]; cases v[e].2.1==[]<;>rfl
    rw [hl,hb,show (Ct v e false).2=e+1 from rfl,hw]
    cases v[e].2.1==[]<;>cases decide (0<=v[e].1/\v[e].1<=z.lab.2.2.2.2.1)<;>simp
  ·obtain ⟨y,hy⟩:=List.length_eq_one_iff.1 h6
   have hb:Da v[e].1 v[e].2.1 v[e].2.2.2.2.1 4=(!v[e].2.2.2.2.1||v[e].1 != 0||v[e].2.1 != []):=by
    unfold Da
    cases v[e].2.2.2.2.1<;>cases v[e].1 != 0<;>cases v[e].2.1 != []<;>rfl
   have hf:vfH v z.kids=vfR v y:=by funext i; rw [hy,vfH]
   rw [h1,if_neg (show ¬Aw 4=false by decide),hb,if_neg (show ¬(4:Int)=1 by omega),if_neg (show ¬(4:Int)=3 by omega),if_neg (show ¬(4:Int)=2 by omega),if_pos rfl,if_pos rfl,hf]
   cases hbad:(!v[e].2.2.2.2.1||v[e].1 != 0||v[e].2.1 != []) with
   | true=>rw [if_pos rfl,if_pos rfl,if_neg (by simp)]
   | false=>
    have hm:v[e].2.2.2.2.1=true:=by cases hm:v[e].2.2.2.2.1; rw [hm] at hbad; cases hbad; rfl
    have:=TG (a:=e) (IH y (by rw [hy]; simp)) v.length (e+1)
    rw [if_neg (by simp),hif,this,hm,hy]
    unfold Ct
    rw [Bh]
    rfl
  ·have hb:Da v[e].1 v[e].2.1 v[e].2.2.2.2.1 5=(!v[e].2.2.2.2.1||v[e].1 != 0||v[e].2.1 != []):=by
    unfold Da
    cases v[e].2.2.2.2.1<;>cases v[e].1 != 0<;>cases v[e].2.1 != []<;>rfl
   have hpw:z.kids.Pairwise KR:=by
    unfold B5 at hp
    rw [if_neg (by omega),if_neg (by omega),if_neg (by omega)] at hp
    split at hp
    ·cases hp
    ·exact ((H0 _).1 hp).imp fun h=>h.1
   rw [<-Ip hpw,h1,if_neg (show ¬Aw 5=false by decide),hb,if_neg (show ¬(5:Int)=1 by omega),if_neg (show ¬(5:Int)=3 by omega),if_neg (show ¬(5:Int)=2 by omega),if_neg (show ¬(5:Int)=4 by omega),if_neg (show ¬(5:Int)=4 by omega)]
   cases hbad:(!v[e].2.2.2.2.1||v[e].1 != 0||v[e].2.1 != []) with
   | true=>rw [if_pos rfl,if_pos rfl,if_neg (by simp)]
   | false=>
    have hm:v[e].2.2.2.2.1=true:=by cases hm:v[e].2.2.2.2.1; rw [hm] at hbad; cases hbad; rfl
    have:=MK (a:=e) z.kids IH v.length (e+1) (by omega)
    rw [if_neg (by simp),hif,this,hm]
    unfold Ct
    rw [Bh]
    rfl
theorem GF (v:List Nd) (u:Int) : ∀ (f:Nat) (x:Int),Dh v u f x=Dg (tys v) u f x
 | 0,x=>rfl
 | f+1,x=>by
  rw [Dh,Dg,DW]
  by_cases a:x<0
  ·rw [if_pos a,if_pos a]
  ·rw [if_neg a,if_neg a]
   by_cases b:x=u
   ·rw [if_pos b,b,beq_self_eq_true,Bool.true_or]
   ·rw [if_neg b,beq_false_of_ne b,Bool.false_or]
    cases upN v x.toNat with
    | none=>rfl
    | some w=>exact GF v u f w
theorem Gh {v:List Nd} (h0:0<v.length):((range v.length).all (okN v)=true)↔(Ord (tys v)/\noN v 0=some 0):=by
 have hn0:=FI h0
 have hl:=Bh v
 constructor
 ·intro h
  have ok : ∀ i,i<v.length->okN v i=true:=fun i hi=>all_eq_true.1 h i (mem_range.2 hi)
  have z:=ok 0 h0
  unfold okN at z
  rw [gtE h0] at z
  dsimp only at z
  rw [if_pos rfl,anE,beq_iff_eq,beq_iff_eq] at z
  refine ⟨⟨by rw [DW,Ib h0,z.1],fun i hp hi=>?_⟩,by rw [hn0,z.2]⟩
  rw [hl] at hi
  have o:=ok i hi
  unfold okN at o
  rw [gtE hi] at o
  dsimp only at o
  rw [if_neg (by omega),anE,anE,dcE] at o
  obtain ⟨⟨o1,o2⟩,o3,o4⟩:=o
  obtain ⟨u,hu⟩:=eq_ofNat_of_zero_le o1
  rw [hu] at o2 o3 o4
  have hul:u<v.length:=by omega
  refine ⟨u,by rw [DW,Ib hi,hu],by omega,?_,?_⟩
  ·rw [Iy hul]
   unfold Mi at o3
   rw [ntN,gtE hul] at o3
   exact o3
  ·rw [GF,show (i:Int)-1=((i-1:Nat):Int) by omega] at o4
   obtain ⟨y,e,ho⟩:=Lr _ _ _ _ o4
   have:u=y:=by omega
   subst this
   exact ho
 ·rintro ⟨H,hz⟩
  refine all_eq_true.2 fun i hi=>?_
  have hi:=mem_range.1 hi
  unfold okN
  rw [gtE hi]
  dsimp only
  rcases Nat.eq_zero_or_pos i with rfl | hp
  ·have h1:=H.zero
   rw [DW,Ib h0] at h1
   rw [hn0] at hz
   rw [if_pos rfl,Option.some.inj h1,Option.some.inj hz]; rfl
  ·obtain ⟨u,k1,k2,k3,k4⟩:=H.up i hp (by omega)
   have hul:u<v.length:=by omega
   rw [DW,Ib hi] at k1
   have hm:Mi v u=some v[u].2.2.2.2.1:=by unfold Mi; rw [gtE hul]; rfl
   rw [Iy hul] at k3
   rw [if_neg (by omega),Option.some.inj k1,ntN,hm,k3,GF,show (i:Int)-1=((i-1:Nat):Int) by omega,O8 (i:=i) (fun j hj=>H.lt j (by omega)) k4 (by omega) i (by omega),dcT (show (0:Int)<=(u:Int)/\(u:Int)<(i:Int) by omega)]
   rfl
theorem JB (v:List Nd) (l:List Ty):CH v l=Df v l:=by
 unfold CH Df
 cases hk:AC l with
 | false=>rfl
 | true=>
  obtain ⟨k1,k2,k3,k4⟩:=G1 hk
  rw [k4,Bool.true_and,Bool.true_and]
  unfold Ew E3
  by_cases hl:1<=v.length/\v.length<=40
  ·have h0:0<v.length:=by omega
   have hv:=Pj v _ (t2L l 0) (Nat.le_refl _) k3 0 h0
   have ho:=Gh h0
   have ht:v4L v 0=cv (t2L (tys v) 0):=TS _ 0 (Nat.le_refl _) h0
   rw [dcT hl,Bool.true_and,Bool.and_true,Bool.eq_iff_iff]
   simp only [anE,beq_iff_eq,dcE]
   rw [ho]
   constructor
   ·rintro ⟨h1,h2,h3⟩
    cases hs:sfR (cv (kf (tys v) 0).1) (t2L l 0) with
    | false=>rw [hs,if_neg (by simp)] at hv; omega
    | true=>
     rw [hs,if_pos rfl] at hv
     have H:Ord (tys v):=DC (by rw [Bh]; exact h0) (by rw [DW]; exact h1) (by rw [Bh]; omega)
     have e:=H.end' (by rw [Bh]; exact h0)
     refine ⟨⟨H,h2⟩,?_⟩
     rw [ht,<-e.2,hs]
   ·rintro ⟨⟨H,h2⟩,h3⟩
    have e:=H.end' (by rw [Bh]; exact h0)
    have hz:=H.zero
    rw [DW] at hz
    refine ⟨hz,h2,?_⟩
    rw [hv,e.2,<-ht,h3,if_pos rfl,e.1,Bh]
  ·rw [dcF hl,Bool.false_and,Bool.and_false,Bool.false_and]
mutual
def BJ:Rose Lab->Int->Int->Nat->List Nd
 | .node x ks,no,up,s=>(0,[],no,up,Aw x.1,())::(bif x.1==5 then Bf ks s (s+1) else [])
def Bf:List (Rose Lab)->Nat->Nat->List Nd
 | [],_,_=>[]
 | z::ks,s,p=>if z.lab.2.2.2.1=true then BJ z z.lab.2.2.1 s p++Bf ks s (p+(BJ z z.lab.2.2.1 s p).length) else Bf ks s p
end
mutual
theorem GR : ∀ (z:Rose Lab) (no up:Int) (s:Nat),(BJ z no up s).length<=Ao z
 | .node x ks,no,up,s=>by
  rw [BJ,Ao]
  have:=GS ks s (s+1)
  cases x.1==5
  ·simp
  ·simpa using this
theorem GS : ∀ (ks:List (Rose Lab)) (s p:Nat),(Bf ks s p).length<=Ak ks
 | [],_,_=>by rw [Bf]; exact Nat.zero_le _
 | z::ks,s,p=>by
  rw [Bf,Ak]
  split
  ·have:=GR z z.lab.2.2.1 s p
   have:=GS ks s (p+(BJ z z.lab.2.2.1 s p).length)
   rw [length_append]; omega
  ·have:=GS ks s p
   omega
end
theorem Is (z:Rose Lab) (no up:Int) (s:Nat):BJ z no up s=(0,[],no,up,Aw z.lab.1,())::(bif z.lab.1==5 then Bf z.kids s (s+1) else []):=by cases z; rw [BJ]; rfl
mutual
def Bn:Rose Lab->Int->Rose An
 | .node x ks,no=>.node (0,[],no,Aw x.1,()) (bif x.1==5 then Hh ks else [])
def Hh:List (Rose Lab)->List (Rose An)
 | []=>[]
 | z::ks=>if z.lab.2.2.2.1=true then Bn z z.lab.2.2.1::Hh ks else Hh ks
end
def Tv (n:Nat):Gm
 | [.agg [.i .i64 y0,.s y1,.i .i64 y2,.b y3,.i .i64 y4,.sl (.rose LCd) ys]],[]=>.need (decide (Ak ys+1<=1000000/\Ak ys+1<=n)) (.leaf (.agg [.i .i64 (Bn (.node (y0,y1,y2,y3,y4,()) ys) 0).lab.1,.s (Bn (.node (y0,y1,y2,y3,y4,()) ys) 0).lab.2.1,.i .i64 (Bn (.node (y0,y1,y2,y3,y4,()) ys) 0).lab.2.2.1,.b (Bn (.node (y0,y1,y2,y3,y4,()) ys) 0).lab.2.2.2.1,.ref 0 0 (Bn (.node (y0,y1,y2,y3,y4,()) ys) 0).kids.length],[some (.row false none (.rose VCd) (Bn (.node (y0,y1,y2,y3,y4,()) ys) 0).kids)]))
 | _,_=>.no
def XZ:Gm
 | [.agg [.i .i64 y0,.s y1,.i .i64 y2,.b y3,.i .i64 y4,.sl (.rose LCd) ys]],[]=>.need (decide (Ak ys+1<=1000000)) (.leaf (.agg [.i .i64 (Bn (.node (y0,y1,y2,y3,y4,()) ys) 0).lab.1,.s (Bn (.node (y0,y1,y2,y3,y4,()) ys) 0).lab.2.1,.i .i64 (Bn (.node (y0,y1,y2,y3,y4,()) ys) 0).lab.2.2.1,.b (Bn (.node (y0,y1,y2,y3,y4,()) ys) 0).lab.2.2.2.1,.ref 0 0 (Bn (.node (y0,y1,y2,y3,y4,()) ys) 0).kids.length],[some (.row false none (.rose VCd) (Bn (.node (y0,y1,y2,y3,y4,()) ys) 0).kids)]))
 | _,_=>.no
def NC (n:Nat):LoopEnt:=⟨36,[2,3,15,16,17],[2,3],[],fun
 | ([.ptr 0 0,.ptr 1 0,.sl (.rose LCd) ks,.i .i64 k,.i .i64 i],[some (.box [.i .i64 0,.s [],.i .i64 0,.b false,.ref 2 0 0]),some (.box [.i .i64 x0,.s x1,.i .i64 x2,.b x3,.ref 3 0 m]),some (.row false none (.rose VCd) []),some (.row false none (.rose VCd) o)])=>.need (decide (m=o.length/\0<=i/\i.toNat<=ks.length/\k=ks.length/\o.length<=i.toNat/\Ak ks<=n/\Ak ks<=1000000)) (.leaf (.exit 0,([.ptr 0 0,.ptr 1 0],[some (.box [.i .i64 0,.s [],.i .i64 0,.b false,.ref 2 0 0]),some (.box [.i .i64 x0,.s x1,.i .i64 x2,.b x3,.ref 3 0 (o++Hh (ks.drop i.toNat)).length]),some (.row false none (.rose VCd) []),some (.row false none (.rose VCd) (o++Hh (ks.drop i.toNat)))])))
 | _=>.no⟩
abbrev Wu (n:Nat):FuncId->Option Ent:=Ab [(167,.rd1 (Tv n)),(97,.rd1 EC)]
theorem M8 (n:Nat) (x0:Int) (x1:List UInt8) (x2:Int) (x3:Bool) (ks:List (Rose Lab)) (m:Nat) (k i:Int) (o:List (Rose An)):A0 prog (Wu n) (Ab [(4,NC n)]) 0 (body f167 0) (NC n) ([.ptr 0 0,.ptr 1 0,.sl (.rose LCd) ks,.j k,.j i],[some (.box [.j 0,.s [],.j 0,.b false,.ref 2 0 0]),some (.box [.j x0,.s x1,.j x2,.b x3,.ref 3 0 m]),some (.row false none (.rose VCd) []),some (.row false none (.rose VCd) o)]) =
 ((ifB (decide (i<k)) (ifT (decide ((0:Int)<=i)&&decide (i<(↑ks.length:Int))) (Ap ks[i.toNat]? fun z=>ifB (Rose.lab z).snd.snd.snd.fst (ifT (decide (Ak
 (Rose.kids z)+1<=1000000/\Ak (Rose.kids z)+1<=n)) (ifT (decide ((m+1)*64<=140737488355328)&&decide (m+(1
 : Nat)<=maxI)) (some (Ex.normal,[V.ptr 0 0,V.ptr 1 0,V.sl LCd.rose ks,V.j k,V.j (i64.wrap (i+(1:Int)))],[some (Blk.box [V.j 0,V.s (Ag
 UInt8),V.j 0,V.b false,V.ref 2 0 0]),some (Blk.box [V.j x0,V.s x1,V.j x2,V.b x3,V.ref 3 0 (m+1)]),some (Blk.row false none VCd.rose
 (Ag VCd.rose.den)),some (Blk.row false none VCd.rose (take m (drop 0 o)++Rose.node ((Bn (Rose.node ((Rose.lab z).fst,(Rose.lab z).snd.fst,
 (Rose.lab z).snd.snd.fst,(Rose.lab z).snd.snd.snd.fst,(Rose.lab z).snd.snd.snd.snd.fst,()) (Rose.kids z)) (0:Int)).lab.fst,(Bn (Rose.node ((Rose.lab z).fst,
 (Rose.lab z).snd.fst,(Rose.lab z).snd.snd.fst,(Rose.lab z).snd.snd.snd.fst,(Rose.lab z).snd.snd.snd.snd.fst,()) (Rose.kids z)) (0:Int)).lab.snd.fst,(Rose.lab
 z).snd.snd.fst,(Bn (Rose.node ((Rose.lab z).fst,(Rose.lab z).snd.fst,(Rose.lab z).snd.snd.fst,(Rose.lab z).snd.snd.snd.fst,(Rose.lab z).snd.snd.snd.snd.fst,())
 (Rose.kids z)) (0:Int)).lab.snd.snd.snd.fst,()) (take (Bn (Rose.node ((Rose.lab z).fst,(Rose.lab z).snd.fst,(Rose.lab z).snd.snd.fst,(Rose.lab
 z).snd.snd.snd.fst,(Rose.lab z).snd.snd.snd.snd.fst,()) (Rose.kids z)) (0:Int)).kids.length (drop 0 (Bn (Rose.node ((Rose.lab z).fst,(Rose.lab
 z).snd.fst,(Rose.lab z).snd.snd.fst,(Rose.lab z).snd.snd.snd.fst,(Rose.lab z).snd.snd.snd.snd.fst,()) (Rose.kids z)) (0:Int)).kids))::Ag VCd.rose.den))]))))
 (some (Ex.normal,[V.ptr 0 0,V.ptr 1 0,V.sl LCd.rose ks,V.j k,V.j (i64.wrap (i+(1:Int)))],[some (Blk.box [V.j 0,V.s (Ag UInt8),V.i
 .i64 0,V.b false,V.ref 2 0 0]),some (Blk.box [V.j x0,V.s x1,V.j x2,V.b x3,V.ref 3 0 m]),some (Blk.row false none VCd.rose (Ag VCd.rose.den)),some
 (Blk.row false none VCd.rose o)])))) (some (Ex.exit 0,[V.ptr 0 0,V.ptr 1 0],[some (Blk.box [V.j 0,V.s (Ag UInt8),V.j 0,V.b false,V.ref 2 0 0]),some
 (Blk.box [V.j x0,V.s x1,V.j x2,V.b x3,V.ref 3 0 m]),some (Blk.row false none VCd.rose (Ag VCd.rose.den)),some (Blk.row false none VCd.rose o)]))):_):=by kernel_rfl
theorem VW (n:Nat) (y0:Int) (y1:List UInt8) (y2:Int) (y3:Bool) (y4:Int) (ys:List (Rose Lab)):CR prog (Wu n) (Ab [(4,NC n)]) f167 [.agg [.j y0,.s y1,.j y2,.b y3,.j y4,.sl (.rose LCd) ys]] [] =
 ((ifB (y0==(5:Int)) (ifT (decide (0=0/\(0:Int)<=(0:Int)/\0<=ys.length/\(↑ys.length:Int)=(↑ys.length:Int)/\0<=0
 /\ Ak ys<=n/\Ak ys<=1000000)) (some (V.agg [V.j 0,V.s (Ag UInt8),V.j 0,V.b (Aw y0),V.ref 0 0 (Ag VCd.rose.den++Hh (drop (0 :
 Nat) ys)).length],[some (Blk.row false none VCd.rose (Ag VCd.rose.den++Hh (drop 0 ys)))]))) (some (V.agg [V.j 0,V.s (Ag UInt8),V.j 0,
 V.b (Aw y0),V.ref 0 0 0],[some (Blk.row false none VCd.rose (Ag VCd.rose.den))]))):_):=by kernel_rfl
theorem XX (z:Rose Lab) (no:Int):Rose.node ((Bn z 0).lab.1,(Bn z 0).lab.2.1,no,(Bn z 0).lab.2.2.2.1,()) (take (Bn z 0).kids.length (drop 0 (Bn z 0).kids))=Bn z no:=by
 rw [drop_zero,take_length]
 obtain ⟨x,ks⟩:=z
 rw [Bn,Bn]
 rfl
theorem VX (z:Rose Lab) (no:Int):(Rose.node ((Bn (Rose.node (z.lab.1,z.lab.2.1,z.lab.2.2.1,z.lab.2.2.2.1,z.lab.2.2.2.2.1,()) z.kids) 0).lab.1,(Bn (Rose.node (z.lab.1,z.lab.2.1,z.lab.2.2.1,z.lab.2.2.2.1,z.lab.2.2.2.2.1,()) z.kids) 0).lab.2.1,no,(Bn (Rose.node (z.lab.1,z.lab.2.1,z.lab.2.2.1,z.lab.2.2.2.1,z.lab.2.2.2.2.1,()) z.kids) 0).lab.2.2.2.1,()) (take (Bn (Rose.node (z.lab.1,z.lab.2.1,z.lab.2.2.1,z.lab.2.2.2.1,z.lab.2.2.2.2.1,()) z.kids) 0).kids.length (drop 0 (Bn (Rose.node (z.lab.1,z.lab.2.1,z.lab.2.2.1,z.lab.2.2.2.1,z.lab.2.2.2.2.1,()) z.kids) 0).kids)):Rose An)=Bn z no:=by
 rw [AT,XX]
theorem XY (z:Rose Lab) (no:Int):Bn z no = .node (0,[],no,Aw z.lab.1,()) (bif z.lab.1==5 then Hh z.kids else []):=by cases z; rw [Bn]; rfl
theorem KZ (n:Nat) (x0:Int) (x1:List UInt8) (x2:Int) (x3:Bool) (ks:List (Rose Lab)) (h1:Ak ks<=n) (h2:Ak ks<=1000000) : ∀ (j i:Nat) (o:List (Rose An)),i+j=ks.length->o.length<=i->
  Runs prog (Wu n) (Ab [(4,NC n)]) 0 (body f167 0) (NC n) ([.ptr 0 0,.ptr 1 0,.sl (.rose LCd) ks,.j (ks.length:Int),.j (i:Int)],[some (.box [.j 0,.s [],.j 0,.b false,.ref 2 0 0]),some (.box [.j x0,.s x1,.j x2,.b x3,.ref 3 0 o.length]),some (.row false none (.rose VCd) []),some (.row false none (.rose VCd) o)]) (.exit 0) ([.ptr 0 0,.ptr 1 0],[some (.box [.j 0,.s [],.j 0,.b false,.ref 2 0 0]),some (.box [.j x0,.s x1,.j x2,.b x3,.ref 3 0 (o++Hh (ks.drop i)).length]),some (.row false none (.rose VCd) []),some (.row false none (.rose VCd) (o++Hh (ks.drop i)))])
 | 0,i,o,hi,ho=>by
  have hr:=M8 n x0 x1 x2 x3 ks o.length ks.length i o
  rw [Ac (dcF (by omega))] at hr
  rw [drop_eq_nil_of_le (by omega),Hh,append_nil]
  exact .stop _ _ _ hr (by simp)
 | j+1,i,o,hi,ho=>by
  have hl:i<ks.length:=by omega
  have hM:maxI=9223372036854775807:=rfl
  have hlen:=Bz ks
  have hmem:=BB (getElem_mem hl)
  have hck:=Be ks[i]
  have hr:=M8 n x0 x1 x2 x3 ks o.length ks.length i o
  rw [Af (dcT (by omega)),Aa (by simp only [anE,dcE]; omega),ntN,gtE hl,As,A3 (n:=i) (by omega)] at hr
  rw [drop_eq_getElem_cons hl,Hh]
  cases hm:ks[i].lab.2.2.2.1 with
  | true=>
   rw [Af hm,Aa (dcT ⟨by omega,by omega⟩),Aa (by simp only [anE,dcE]; omega),VX,show drop 0 o=o from rfl,take_length] at hr
   have ih:=KZ n x0 x1 x2 x3 ks h1 h2 j (i+1) (o++[Bn ks[i] ks[i].lab.2.2.1]) (by omega) (by simp; omega)
   rw [append_assoc] at ih
   rw [if_pos rfl]
   exact .step _ _ _ _ (hr.trans (by simp [AI])) ih
  | false=>
   rw [hm,Bd] at hr
   rw [if_neg (by simp)]
   exact .step _ _ _ _ hr (KZ n x0 x1 x2 x3 ks h1 h2 j (i+1) o (by omega) (by omega))
theorem ZZ (n:Nat):A4 prog (Wu n) (Ab [(4,NC n)]) 0 (f167.body.getD .skip):=by
 refine Ax (a:=body f167 0) (by kernel_rfl) fun d ex d' h=>?_
 unfold NC at h
 dsimp only at h
 split at h
 ·rename_i ks k i x0 x1 x2 x3 m o
  obtain ⟨hc,hx⟩:=Ae h
  clear h
  obtain ⟨rfl,h0,h1,rfl,h3,h4,h5⟩:=of_decide_eq_true hc
  obtain ⟨i,rfl⟩:=eq_ofNat_of_zero_le h0
  simp only [ntN] at h1 h3 hx
  have h8:=Ar hx
  obtain ⟨rfl,rfl⟩:=Prod.mk.inj h8
  exact KZ n x0 x1 x2 x3 ks h4 h5 (ks.length-i) i o (by omega) h3
 ·cases h
theorem XU (n:Nat) (y0:Int) (y1:List UInt8) (y2:Int) (y3:Bool) (y4:Int) (ys:List (Rose Lab)) (hc:Ak ys+1<=1000000/\Ak ys+1<=n+1):CR prog (Wu n) (Ab [(4,NC n)]) f167 [.agg [.j y0,.s y1,.j y2,.b y3,.j y4,.sl (.rose LCd) ys]] []=some (.agg [.j (Bn (.node (y0,y1,y2,y3,y4,()) ys) 0).lab.1,.s (Bn (.node (y0,y1,y2,y3,y4,()) ys) 0).lab.2.1,.j (Bn (.node (y0,y1,y2,y3,y4,()) ys) 0).lab.2.2.1,.b (Bn (.node (y0,y1,y2,y3,y4,()) ys) 0).lab.2.2.2.1,.ref 0 0 (Bn (.node (y0,y1,y2,y3,y4,()) ys) 0).kids.length],[some (.row false none (.rose VCd) (Bn (.node (y0,y1,y2,y3,y4,()) ys) 0).kids)]):=by
 rw [VW,XY]
 simp only [Rose.lab,Rose.kids]
 cases h5:y0==5 with
 | false=>rfl
 | true=>
  rw [Bq,Aa (dcT (by refine ⟨by trivial,by omega,by omega,by trivial,by omega,by omega,by omega⟩))]
  rfl
theorem XV : ∀ n,(∀ m,m<n->Ad prog 167 (Ent.rd1 (Tv m)).F)->Ad prog 167 (Ent.rd1 (Tv n)).F
 | 0,_=>AX fun vs bs=>by
  unfold Ent.F Tv
  dsimp only
  split
  ·rename_i y0 y1 y2 y3 y4 ys
   have:decide (Ak ys+1<=1000000/\Ak ys+1<=0)=false:=dcF (by omega)
   rw [this]; rfl
  ·rfl
 | n+1,ih=>by
  refine AU (kc func167 (ih n (lt_succ_self n)) (kc func97 J5 KnowsL.nil)).knows (Λ:=(Ab [(4,NC n)])) func167 (c:=f167.body.getD .skip) (by kernel_rfl) fun vs bs r hq hv hb=>?_
  unfold Ent.F Tv at hq
  dsimp only at hq
  split at hq
  ·rename_i y0 y1 y2 y3 y4 ys
   obtain ⟨hc,hx⟩:=Ae hq
   exact ⟨ZZ n,(XU n y0 y1 y2 y3 y4 ys (of_decide_eq_true hc)).trans hx⟩
  ·cases hq
theorem SI:Ad prog 167 (Ent.rd1 XZ).F:=by
 refine Bb (F:=fun n=>(Ent.rd1 (Tv n)).F) XV fun vs bs r h=>?_
 unfold Ent.F XZ at h
 dsimp only at h
 split at h
 ·rename_i y0 y1 y2 y3 y4 ys
  obtain ⟨hc,hx⟩:=Ae h
  refine ⟨Ak ys+1,?_⟩
  show (Br.need (decide (Ak ys+1<=1000000/\Ak ys+1<=Ak ys+1)) (.leaf (.agg [.j (Bn (.node (y0,y1,y2,y3,y4,()) ys) 0).lab.1,.s (Bn (.node (y0,y1,y2,y3,y4,()) ys) 0).lab.2.1,.j (Bn (.node (y0,y1,y2,y3,y4,()) ys) 0).lab.2.2.1,.b (Bn (.node (y0,y1,y2,y3,y4,()) ys) 0).lab.2.2.2.1,.ref 0 0 (Bn (.node (y0,y1,y2,y3,y4,()) ys) 0).kids.length],[some (.row false none (.rose VCd) (Bn (.node (y0,y1,y2,y3,y4,()) ys) 0).kids)]))).run=some r
  have:decide (Ak ys+1<=1000000/\Ak ys+1<=Ak ys+1)=true:=dcT ⟨of_decide_eq_true hc,Nat.le_refl _⟩
  rw [this]
  exact hx
 ·cases h
mutual
def Al:Rose An->Int->Nat->List Nd
 | .node x ks,up,s=>(x.1,x.2.1,x.2.2.1,up,x.2.2.2.1,())::AB ks s (s+1)
def AB:List (Rose An)->Nat->Nat->List Nd
 | [],_,_=>[]
 | z::ks,s,p=>Al z s p++AB ks s (p+(Al z s p).length)
end
mutual
def vcR:Rose An->Nat
 | .node _ ks=>vcL ks+1
def vcL:List (Rose An)->Nat
 | []=>0
 | z::l=>vcR z+vcL l
end
def G5 (n:Nat):Gm
 | [.agg [.i .i64 x0,.s x1,.i .i64 x2,.b x3,.sl (.rose VCd) xs],.i .i64 up,.ref 0 0 m],[.row false _ NCd o]=>.need (decide (m=o.length/\o.length+vcL xs+1<=2000000/\vcL xs+1<=n)) (.leaf (.ref 1 0 (o++Al (.node (x0,x1,x2,x3,()) xs) up o.length).length,[none,some (.row false none NCd (o++Al (.node (x0,x1,x2,x3,()) xs) up o.length))]))
 | _,_=>.no
def K9:Gm
 | [.agg [.i .i64 x0,.s x1,.i .i64 x2,.b x3,.sl (.rose VCd) xs],.i .i64 up,.ref 0 0 m],[.row false _ NCd o]=>.need (decide (m=o.length/\o.length+vcL xs+1<=2000000)) (.leaf (.ref 1 0 (o++Al (.node (x0,x1,x2,x3,()) xs) up o.length).length,[none,some (.row false none NCd (o++Al (.node (x0,x1,x2,x3,()) xs) up o.length))]))
 | _,_=>.no
def HK (n:Nat):LoopEnt:=⟨38,[2,7,26,27,28],[2],[],fun
 | ([.ref 1 0 m,.i .i64 s,.sl (.rose VCd) ks,.i .i64 k,.i .i64 i],[none,some (.row false none NCd o)])=>.need (decide (m=o.length/\0<=i/\i.toNat<=ks.length/\k=ks.length/\0<=s/\o.length+vcL (ks.drop i.toNat)<=2000000/\vcL ks<=n/\vcL ks<=2000000)) (.leaf (.exit 0,([.ref 1 0 (o++AB (ks.drop i.toNat) s.toNat o.length).length],[none,some (.row false none NCd (o++AB (ks.drop i.toNat) s.toNat o.length))])))
 | _=>.no⟩
def QH:Gm
 | [.agg [.i .i64 x0,.s x1,.i .i64 x2,.b x3,.sl (.rose VCd) xs],.i .i64 up,.nl],[]=>.need (decide (vcL xs+1<=2000000)) (.leaf (.ref 0 0 (Al (.node (x0,x1,x2,x3,()) xs) up 0).length,[some (.row false none NCd (Al (.node (x0,x1,x2,x3,()) xs) up 0))]))
 | _,_=>.no
def Fd:LoopEnt:=⟨38,[2,7,26,27,28],[2],[],fun
 | ([.ref 0 0 m,.i .i64 s,.sl (.rose VCd) ks,.i .i64 k,.i .i64 i],[some (.row false none NCd o)])=>.need (decide (m=o.length/\0<=i/\i.toNat<=ks.length/\k=ks.length/\0<=s/\o.length+vcL (ks.drop i.toNat)<=2000000/\vcL ks<=2000000)) (.leaf (.exit 0,([.ref 0 0 (o++AB (ks.drop i.toNat) s.toNat o.length).length],[some (.row false none NCd (o++AB (ks.drop i.toNat) s.toNat o.length))])))
 | _=>.no⟩
def ofG:Gm
 | [.agg [.i .i64 x0,.s x1,.i .i64 x2,.b x3,.sl (.rose VCd) xs]],[]=>.need (decide (vcL xs+1<=2000000)) (.leaf (.agg [.ref 0 0 (Al (.node (x0,x1,x2,x3,()) xs) (-1) 0).length],[some (.row false none NCd (Al (.node (x0,x1,x2,x3,()) xs) (-1) 0))]))
 | _,_=>.no
theorem K6 (n m:Nat) (s:Int) (ks:List (Rose An)) (k i:Int) (o:List Nd):A0 prog (Ab [(110,.own (G5 n))]) (Ab [(4,HK n)]) 1 (body f110 0) (HK n) ([.ref 1 0 m,.j s,.sl (.rose VCd) ks,.j k,.j i],[none,some (.row false none NCd o)]) =
 ((ifB (decide (i<k)) (ifT (decide ((0:Int)<=i)&&decide (i<(↑ks.length:Int))) (Ap ks[i.toNat]? fun z=>ifT (decide (m=o.length/\o.length+vcL (Rose.kids
 z)+1<=2000000/\vcL (Rose.kids z)+1<=n)) (some (Ex.normal,[V.ref 1 0 (o++Al (Rose.node ((Rose.lab z).fst,(Rose.lab z).snd.fst,
 (Rose.lab z).snd.snd.fst,(Rose.lab z).snd.snd.snd.fst,()) (Rose.kids z)) s o.length).length,V.j s,V.sl VCd.rose ks,V.j k,V.j (i64.wrap (i +
 (1:Int)))],[none,some (Blk.row false none NCd (o++Al (Rose.node ((Rose.lab z).fst,(Rose.lab z).snd.fst,(Rose.lab z).snd.snd.fst,(Rose.lab z).snd.snd.snd.fst,
 ()) (Rose.kids z)) s o.length))])))) (some (Ex.exit 0,[V.ref 1 0 m],[none,some (Blk.row false none NCd o)]))):_):=by kernel_rfl
theorem SZ (n:Nat) (x0:Int) (x1:List UInt8) (x2:Int) (x3:Bool) (xs:List (Rose An)) (m:Nat) (up:Int) (nl:Option Bool) (o:List Nd):CR prog (Ab [(110,.own (G5 n))]) (Ab [(4,HK n)]) f110 [.agg [.j x0,.s x1,.j x2,.b x3,.sl (.rose VCd) xs],.j up,.ref 0 0 m] [.row false nl NCd o] =
 ((ifT (decide ((m+1)*48<=140737488355328)&&decide (m+1<=maxI)) (ifT (decide (m+1=(take m (drop 0 o)
 ++ (x0,x1,x2,up,x3,())::Ag NCd.den).length/\(0:Int)<=(0:Int)/\0<=xs.length/\(↑xs.length:Int)=(↑xs.length:Int)/\(0:Int)<=(↑m:Int)/\
 (take m (drop 0 o)++(x0,x1,x2,up,x3,())::Ag NCd.den).length+vcL (drop 0 xs)<=2000000/\vcL xs<=n/\vcL xs<=(2000000
 : Nat))) (some (V.ref 1 0 (take m (drop 0 o)++(x0,x1,x2,up,x3,())::Ag NCd.den++AB (drop 0 xs) (↑m:Int).toNat (take m
 (drop 0 o)++(x0,x1,x2,up,x3,())::Ag NCd.den).length).length,[none,some (Blk.row false none NCd (take m (drop 0 o)++(x0,x1,
 x2,up,x3,())::Ag NCd.den++AB (drop 0 xs) (↑m:Int).toNat (take m (drop 0 o)++(x0,x1,x2,up,x3,())::Ag
 NCd.den).length))])))):_):=by kernel_rfl
mutual
theorem Ch : ∀ (z:Rose An) (up:Int) (s:Nat),(Al z up s).length=vcR z
 | .node x ks,up,s=>by
  rw [Al,vcR,List.length_cons,Mz ks s (s+1)]
theorem Mz : ∀ (ks:List (Rose An)) (s p:Nat),(AB ks s p).length=vcL ks
 | [],_,_=>by rw [AB,vcL]; rfl
 | z::ks,s,p=>by rw [AB,vcL,length_append,Ch z s p,Mz ks s]
end
theorem F5 : ∀ (l:List (Rose An)),l.length<=vcL l
 | []=>Nat.le_refl _
 | z::l=>by
  have:=F5 l
  have:1<=vcR z:=by cases z; rw [vcR]; omega
  rw [vcL,List.length_cons]; omega
theorem GD {z:Rose An} : ∀ {l:List (Rose An)},z∈l->vcR z<=vcL l
 | [],h=>by cases h
 | y::l,h=>by
  rw [vcL]
  rcases mem_cons.1 h with rfl | h
  ·omega
  ·have:=GD h; omega
theorem Du (z:Rose An):vcR z=vcL z.kids+1:=by cases z; rw [vcR]; rfl
theorem My (n s:Nat) (ks:List (Rose An)) (h1:vcL ks<=n) (h2:vcL ks<=2000000) : ∀ (j i:Nat) (o:List Nd),i+j=ks.length->o.length+vcL (ks.drop i)<=2000000->
  Runs prog (Ab [(110,.own (G5 n))]) (Ab [(4,HK n)]) 1 (body f110 0) (HK n) ([.ref 1 0 o.length,.j (s:Int),.sl (.rose VCd) ks,.j (ks.length:Int),.j (i:Int)],[none,some (.row false none NCd o)]) (.exit 0) ([.ref 1 0 (o++AB (ks.drop i) s o.length).length],[none,some (.row false none NCd (o++AB (ks.drop i) s o.length))])
 | 0,i,o,hi,ho=>by
  have hr:=K6 n o.length s ks ks.length i o
  rw [Ac (dcF (by omega))] at hr
  rw [drop_eq_nil_of_le (by omega),AB,append_nil]
  exact .stop _ _ _ hr (by simp)
 | j+1,i,o,hi,ho=>by
  have hl:i<ks.length:=by omega
  have hM:maxI=9223372036854775807:=rfl
  have hlen:=F5 ks
  have hmem:=GD (getElem_mem hl)
  have hck:=Du ks[i]
  have hr:=K6 n o.length s ks ks.length i o
  rw [drop_eq_getElem_cons hl,vcL] at ho
  rw [Af (dcT (by omega)),Aa (by simp only [anE,dcE]; omega),ntN,gtE hl,As,A3 (n:=i) (by omega),B8,Aa (dcT ⟨rfl,by omega,by omega⟩)] at hr
  rw [drop_eq_getElem_cons hl,AB]
  have hk:=Ch ks[i] s o.length
  have ih:=My n s ks h1 h2 j (i+1) (o++Al ks[i] s o.length) (by omega) (by rw [length_append]; omega)
  rw [length_append,append_assoc] at ih
  rw [length_append] at hr
  exact .step _ _ _ _ hr ih
theorem X3 (n:Nat):A4 prog (Ab [(110,.own (G5 n))]) (Ab [(4,HK n)]) 1 (f110.body.getD .skip):=by
 refine Ax (a:=body f110 0) (by kernel_rfl) fun d ex d' h=>?_
 unfold HK at h
 dsimp only at h
 split at h
 ·rename_i m s ks k i o
  obtain ⟨hc,hx⟩:=Ae h
  clear h
  obtain ⟨rfl,h0,h1,rfl,h3,h4,h5,h6⟩:=of_decide_eq_true hc
  obtain ⟨i,rfl⟩:=eq_ofNat_of_zero_le h0
  obtain ⟨s,rfl⟩:=eq_ofNat_of_zero_le h3
  simp only [ntN] at h1 h4 hx
  have h8:=Ar hx
  obtain ⟨rfl,rfl⟩:=Prod.mk.inj h8
  exact My n s ks h5 h6 (ks.length-i) i o (by omega) h4
 ·cases h
theorem K8 (x0:Int) (x1:List UInt8) (x2:Int) (x3:Bool) (xs:List (Rose An)) (up:Int) (s:Nat):Al (.node (x0,x1,x2,x3,()) xs) up s=(x0,x1,x2,up,x3,())::AB xs s (s+1):=by rw [Al]
theorem Vy (n:Nat) (x0:Int) (x1:List UInt8) (x2:Int) (x3:Bool) (xs:List (Rose An)) (m:Nat) (up:Int) (nl:Option Bool) (o:List Nd) (hc:m=o.length/\o.length+vcL xs+1<=2000000/\vcL xs+1<=n+1):CR prog (Ab [(110,.own (G5 n))]) (Ab [(4,HK n)]) f110 [.agg [.j x0,.s x1,.j x2,.b x3,.sl (.rose VCd) xs],.j up,.ref 0 0 m] [.row false nl NCd o]=some (.ref 1 0 (o++Al (.node (x0,x1,x2,x3,()) xs) up o.length).length,[none,some (.row false none NCd (o++Al (.node (x0,x1,x2,x3,()) xs) up o.length))]):=by
 rw [SZ]
 obtain ⟨rfl,h2,h3⟩:=hc
 have hM:maxI=9223372036854775807:=rfl
 have hlen:=F5 xs
 rw [show drop 0 o=o from rfl,show drop 0 xs=xs from rfl,take_length,ntN,K8]
 rw [Aa (by simp only [anE,dcE]; omega)]
 rw [Aa (dcT ⟨by simp [AI],by omega,by omega,rfl,by omega,by simp [AI]; omega,by omega,by omega⟩)]
 simp [AI]
theorem Vz : ∀ n,(∀ m,m<n->Ad prog 110 (Ent.own (G5 m)).F)->Ad prog 110 (Ent.own (G5 n)).F
 | 0,_=>AX fun vs bs=>by
  unfold Ent.F G5
  dsimp only
  split
  ·rename_i x0 x1 x2 x3 xs up m x o
   have:decide (m=o.length/\o.length+vcL xs+1<=2000000/\vcL xs+1<=0)=false:=dcF (by omega)
   rw [this]; rfl
  ·rfl
 | n+1,ih=>by
  refine AU (kc func110 (ih n (lt_succ_self n)) KnowsL.nil).knows (Λ:=(Ab [(4,HK n)])) func110 (c:=f110.body.getD .skip) (by kernel_rfl) fun vs bs r hq hv hb=>?_
  unfold Ent.F G5 at hq
  dsimp only at hq
  split at hq
  ·rename_i x0 x1 x2 x3 xs up m nl o
   obtain ⟨hc,hx⟩:=Ae hq
   exact ⟨X3 n,(Vy n x0 x1 x2 x3 xs m up nl o (of_decide_eq_true hc)).trans hx⟩
  ·cases hq
theorem Z0:Ad prog 110 (Ent.own K9).F:=by
 refine Bb (F:=fun n=>(Ent.own (G5 n)).F) Vz fun vs bs r h=>?_
 unfold Ent.F K9 at h
 dsimp only at h
 split at h
 ·rename_i x0 x1 x2 x3 xs up m nl o
  obtain ⟨hc,hx⟩:=Ae h
  refine ⟨vcL xs+1,?_⟩
  show (Br.need (decide (m=o.length/\o.length+vcL xs+1<=2000000/\vcL xs+1<=vcL xs+1)) (.leaf (.ref 1 0 (o++Al (.node (x0,x1,x2,x3,()) xs) up o.length).length,[none,some (.row false none NCd (o++Al (.node (x0,x1,x2,x3,()) xs) up o.length))]))).run=some r
  obtain ⟨h1,h2⟩:=of_decide_eq_true hc
  have:decide (m=o.length/\o.length+vcL xs+1<=2000000/\vcL xs+1<=vcL xs+1)=true:=dcT ⟨h1,h2,Nat.le_refl _⟩
  rw [this]
  exact hx
 ·cases h
theorem IZ (m:Nat) (s:Int) (ks:List (Rose An)) (k i:Int) (o:List Nd):A0 prog (Ab [(110,.own K9)]) (Ab [(4,Fd)]) 0 (body f110 0) Fd ([.ref 0 0 m,.j s,.sl (.rose VCd) ks,.j k,.j i],[some (.row false none NCd o)]) =
 ((ifB (decide (i<k)) (ifT (decide ((0:Int)<=i)&&decide (i<(↑ks.length:Int))) (Ap ks[i.toNat]? fun z=>ifT (decide (m=o.length/\o.length+vcL (Rose.kids
 z)+1<=2000000)) (some (Ex.normal,[V.ref 0 0 (o++Al (Rose.node ((Rose.lab z).fst,(Rose.lab z).snd.fst,(Rose.lab z).snd.snd.fst,(Rose.lab
 z).snd.snd.snd.fst,()) (Rose.kids z)) s o.length).length,V.j s,V.sl VCd.rose ks,V.j k,V.j (i64.wrap (i+(1:Int)))],[some (Blk.row false
 none NCd (o++Al (Rose.node ((Rose.lab z).fst,(Rose.lab z).snd.fst,(Rose.lab z).snd.snd.fst,(Rose.lab z).snd.snd.snd.fst,()) (Rose.kids z)) s o.length))]))))
 (some (Ex.exit 0,[V.ref 0 0 m],[some (Blk.row false none NCd o)]))):_):=by kernel_rfl
theorem QG (x0:Int) (x1:List UInt8) (x2:Int) (x3:Bool) (xs:List (Rose An)) (up:Int):CR prog (Ab [(110,.own K9)]) (Ab [(4,Fd)]) f110 [.agg [.j x0,.s x1,.j x2,.b x3,.sl (.rose VCd) xs],.j up,.nl] [] =
 ((ifT (decide (1=1/\(0:Int)<=(0:Int)/\0<=xs.length/\(↑xs.length:Int)=(↑xs.length:Int)/\(0:Int)<=(0:Int)/\1+vcL
 (drop 0 xs)<=2000000/\vcL xs<=2000000)) (some (V.ref 0 0 ((x0,x1,x2,up,x3,())::Ag NCd.den++AB (drop 0 xs) (0 :
 Nat) 1).length,[some (Blk.row false none NCd ((x0,x1,x2,up,x3,())::Ag NCd.den++AB (drop 0 xs) 0 1))]))):_):=by kernel_rfl
theorem KA (s:Nat) (ks:List (Rose An)) (h2:vcL ks<=2000000) : ∀ (j i:Nat) (o:List Nd),i+j=ks.length->o.length+vcL (ks.drop i)<=2000000->
  Runs prog (Ab [(110,.own K9)]) (Ab [(4,Fd)]) 0 (body f110 0) Fd ([.ref 0 0 o.length,.j (s:Int),.sl (.rose VCd) ks,.j (ks.length:Int),.j (i:Int)],[some (.row false none NCd o)]) (.exit 0) ([.ref 0 0 (o++AB (ks.drop i) s o.length).length],[some (.row false none NCd (o++AB (ks.drop i) s o.length))])
 | 0,i,o,hi,ho=>by
  have hr:=IZ o.length s ks ks.length i o
  rw [Ac (dcF (by omega))] at hr
  rw [drop_eq_nil_of_le (by omega),AB,append_nil]
  exact .stop _ _ _ hr (by simp)
 | j+1,i,o,hi,ho=>by
  have hl:i<ks.length:=by omega
  have hM:maxI=9223372036854775807:=rfl
  have hlen:=F5 ks
  have hmem:=GD (getElem_mem hl)
  have hck:=Du ks[i]
  have hr:=IZ o.length s ks ks.length i o
  rw [drop_eq_getElem_cons hl,vcL] at ho
  rw [Af (dcT (by omega)),Aa (by simp only [anE,dcE]; omega),ntN,gtE hl,As,A3 (n:=i) (by omega),B8,Aa (dcT ⟨rfl,by omega⟩)] at hr
  rw [drop_eq_getElem_cons hl,AB]
  have hk:=Ch ks[i] s o.length
  have ih:=KA s ks h2 j (i+1) (o++Al ks[i] s o.length) (by omega) (by rw [length_append]; omega)
  rw [length_append,append_assoc] at ih
  rw [length_append] at hr
  exact .step _ _ _ _ hr ih
theorem V0:A4 prog (Ab [(110,.own K9)]) (Ab [(4,Fd)]) 0 (f110.body.getD .skip):=by
 refine Ax (a:=body f110 0) (by kernel_rfl) fun d ex d' h=>?_
 unfold Fd at h
 dsimp only at h
 split at h
 ·rename_i m s ks k i o
  obtain ⟨hc,hx⟩:=Ae h
  clear h
  obtain ⟨rfl,h0,h1,rfl,h3,h4,h6⟩:=of_decide_eq_true hc
  obtain ⟨i,rfl⟩:=eq_ofNat_of_zero_le h0
  obtain ⟨s,rfl⟩:=eq_ofNat_of_zero_le h3
  simp only [ntN] at h1 h4 hx
  have h8:=Ar hx
  obtain ⟨rfl,rfl⟩:=Prod.mk.inj h8
  exact KA s ks h6 (ks.length-i) i o (by omega) h4
 ·cases h
theorem Xf (x0:Int) (x1:List UInt8) (x2:Int) (x3:Bool) (xs:List (Rose An)):CR prog (Ab [(110,.own QH)]) (Ab []) f57 [.agg [.j x0,.s x1,.j x2,.b x3,.sl (.rose VCd) xs]] [] =
 ((ifT (decide (vcL xs+1<=2000000)) (some (V.agg [V.ref 0 0 (Al (Rose.node (x0,x1,x2,x3,()) xs) (-1:Int) 0).length],[some (Blk.row false
 none NCd (Al (Rose.node (x0,x1,x2,x3,()) xs) (-1:Int) 0))]))):_):=by kernel_rfl

theorem Ta (x0:Int) (x1:List UInt8) (x2:Int) (x3:Bool) (xs:List (Rose An)) (up:Int) (hc:vcL xs+1<=2000000):CR prog (Ab [(110,.own K9)]) (Ab [(4,Fd)]) f110 [.agg [.j x0,.s x1,.j x2,.b x3,.sl (.rose VCd) xs],.j up,.nl] []=some (.ref 0 0 (Al (.node (x0,x1,x2,x3,()) xs) up 0).length,[some (.row false none NCd (Al (.node (x0,x1,x2,x3,()) xs) up 0))]):=by
 rw [QG]
 have hM:maxI=9223372036854775807:=rfl
 have hlen:=F5 xs
 rw [show drop 0 xs=xs from rfl,K8]
 rw [Aa (dcT (by refine ⟨by trivial,by omega,by omega,by trivial,by omega,by omega,by omega⟩))]
 simp [AI]
theorem Abu:Ad prog 110 (Ent.own QH).F:=by
 refine AU (kc func110 Z0 KnowsL.nil).knows (Λ:=(Ab [(4,Fd)])) func110 (c:=f110.body.getD .skip) (by kernel_rfl) fun vs bs r hq hv hb=>?_
 unfold Ent.F QH at hq
 dsimp only at hq
 split at hq
 ·rename_i x0 x1 x2 x3 xs up
  obtain ⟨hc,hx⟩:=Ae hq
  exact ⟨V0,(Ta x0 x1 x2 x3 xs up (of_decide_eq_true hc)).trans hx⟩
 ·cases hq
theorem Zy:Ad prog 57 (Ent.rd1 ofG).F:=by
 refine AU (kc func110 Abu KnowsL.nil).knows (Λ:=Ab []) func57 (c:=f57.body.getD .skip) (by kernel_rfl) fun vs bs r hq hv hb=>?_
 unfold Ent.F ofG at hq
 dsimp only at hq
 split at hq
 ·rename_i x0 x1 x2 x3 xs
  obtain ⟨hc,hx⟩:=Ae hq
  refine ⟨Aq _,Eq.trans ?_ hx⟩
  rw [Xf,Aa hc]
  rfl
 ·cases hq
end Go.Proofs.YteninfkgajnfcaaGreat.Den
