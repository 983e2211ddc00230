/- What functions of the program do, by the machine: Dc2 Dc3 Dc4 En2 Wi8 Dc5 En3 Val22 Val23 Val24 Val25 Val26 Dc6. -/
import Derived.Test.YtdocpdfkeohkiaaGreatDoorDB
import Derived.KernelRfl
import Derived.Test.YtdocpdfkeohkiaaGreatDoorRows
open Go.IntKind (i64)
open Go.Proofs.Tryz
open List (all_cons all_eq_true append_assoc append_nil drop drop_eq_getElem_cons drop_eq_nil_of_le drop_zero flatMap flatMap_cons getElem?_map getElem_mem length_append length_singleton map_cons mem_cons mem_map nil_append take take_length)
open Int (eq_ofNat_of_zero_le)
open Nat (add_assoc add_mul le_refl mul_add mul_le_mul_left mul_one mul_pos zero_add zero_le)
open Option (getD isSome map_eq_some_iff map_none map_some)
open Bool (or_eq_true)
namespace Go.Proofs.YtdocpdfkeohkiaaGreatDoor.Den
open Go.Proofs
set_option maxRecDepth 100000
def mxD:List WFd->Nat
 | []=>0
 | f::fs=>max f.2.2.2.1.length (mxD fs)
def dlE (n:Nat):LoopEnt:=⟨74,[1,2,3,10,11],[1],[8,9],fun
 | ([.ref 1 0 m,.s s,.j up,.tp LCd z 0,.j a],[none,R0 NCd o])=>.need (decide (m=o.length/\0<=a/\a.toNat<=s.length/\0<=up/\s.length<=400/\An z=true/\Ao z<=n/\o.length+Ao z*(s.length-a.toNat)<=1000000)) (.br (BD (fkB z) (fun n=>A5 z n 0) (fun d=>AS z d 0) s (s.length-a.toNat) a.toNat).isSome (.leaf (.exit 0,([.ref 1 0 (o++A8 ((BD (fkB z) (fun n=>A5 z n 0) (fun d=>AS z d 0) s (s.length-a.toNat) a.toNat).getD []) up.toNat o.length).length],[none,R0 NCd (o++A8 ((BD (fkB z) (fun n=>A5 z n 0) (fun d=>AS z d 0) s (s.length-a.toNat) a.toNat).getD []) up.toNat o.length)]))) (.leaf (.ret,([.ref 1 0 0,.b false],[none,R0 NCd []]))))
 | _=>.no⟩
def GZ (z:Rose Lab) (s:By) (up:Int) (o:List Nd):List Nd:=match F6 z.kids s with | some vs=>o++A8 vs up.toNat o.length | none=>[]
def dlN (n:Nat):Gm
 | [.tp LCd z 0,.ref 0 0 m,.s s,.j up],[.row false _ NCd o]=>.need (decide (m=o.length/\0<=up/\s.length<=400/\z.kids.length=1/\z.kids.all An=true/\Ao z<=n/\o.length+Ar z.kids*s.length<=1000000)) (.leaf (.tup [.ref 1 0 (GZ z s up o).length,.b (F6 z.kids s).isSome],[none,R0 NCd (GZ z s up o)]))
 | _,_=>.no
def Bm (z:Rose Lab) (s:By) (no up:Int) (o:List Nd):List Nd:=match AS z s no with | some v=>o++A4 v up o.length | none=>if z.lab.1=2 then o++[(0,s,no,up,false,())] else []
def MN (n:Nat):Gm
 | [.tp LCd z 0,.ref 0 0 m,.s s,.j no,.j up],[.row false _ NCd o]=>.need (decide (m=o.length/\s.length<=400/\An z=true/\Ao z<=n/\o.length+Ao z*(s.length+1)<=1000000)) (.leaf (.tup [.ref 1 0 (Bm z s no up o).length,.b (AS z s no).isSome],[none,R0 NCd (Bm z s no up o)]))
 | _,_=>.no
def dmE (n:Nat):LoopEnt:=⟨129,[1,12,14,68,69,70],[1],[10,11],fun
 | ([.ref 1 0 m,.ref 2 0 w,.j up,.sl (.tree LCd) ks,.j c,.j i],[none,R0 NCd o,some (.row ro none PCd fs)])=>.need (decide (m=o.length/\w=fs.length/\c=ks.length/\0<=i/\i.toNat<=ks.length/\ks.length<=1000000/\w<=40/\0<=up/\mxD (fs.map (·.1))<=400/\(fs.all fun x=>AU x.1)=true/\Ar ks<=n/\AL 5 ks=true/\o.length+Ar (ks.drop i.toNat)*(mxD (fs.map (·.1))+1)<=1000000)) (.br (Be (ks.drop i.toNat) (fs.map (·.1))).isSome (.leaf (.exit 1,([.ref 1 0 (o++A8 ((Be (ks.drop i.toNat) (fs.map (·.1))).getD []) up.toNat o.length).length],[none,R0 NCd (o++A8 ((Be (ks.drop i.toNat) (fs.map (·.1))).getD []) up.toNat o.length)]))) (.leaf (.ret,([.ref 1 0 0,.b false],[none,R0 NCd []]))))
 | _=>.no⟩
def Jc (n:Nat):LoopEnt:=⟨129,[1,12,14,68,69,70],[1],[10,11],fun
 | ([.ref 0 0 m,.ref 1 0 w,.j up,.sl (.tree LCd) ks,.j c,.j i],[R0 NCd o,some (.row ro none PCd fs)])=>.need (decide (m=o.length/\w=fs.length/\c=ks.length/\0<=i/\i.toNat<=ks.length/\ks.length<=1000000/\w<=40/\0<=up/\mxD (fs.map (·.1))<=400/\(fs.all fun x=>AU x.1)=true/\Ar ks<=n/\AL 5 ks=true/\o.length+Ar (ks.drop i.toNat)*(mxD (fs.map (·.1))+1)<=1000000)) (.br (Be (ks.drop i.toNat) (fs.map (·.1))).isSome (.leaf (.exit 1,([.ref 0 0 (o++A8 ((Be (ks.drop i.toNat) (fs.map (·.1))).getD []) up.toNat o.length).length],[R0 NCd (o++A8 ((Be (ks.drop i.toNat) (fs.map (·.1))).getD []) up.toNat o.length)]))) (.leaf (.ret,([.ref 0 0 0,.b false],[R0 NCd []]))))
 | _=>.no⟩
def Aa7:Gm
 | [.tp LCd z 0,.nl,.s s,.j no,.j up],[]=>.need (decide (z.lab.1=5/\s.length<=400/\An z=true/\Ao z*(s.length+1)<=1000000)) (.leaf (.tup [.ref 0 0 (Bm z s no up []).length,.b (AS z s no).isSome],[R0 NCd (Bm z s no up [])]))
 | _,_=>.no
abbrev Uc (n:Nat):FuncId->Option Ent:=Aa [(183,.rd1 Tl),(215,.rd1 Se),(216,.rd1 JX),(184,.own O0),(217,.rd1 tbG),(144,.own (MN n))]
theorem Mp (n m:Nat) (s:By) (up:Int) (z:Rose Lab) (a:Int) (o:List Nd):At prog (Uc n) (Aa [(3,dlE n)]) 1 (body f180 0) (dlE n) ([.ref 1 0 m,.s s,.j up,.tp LCd z 0,.j a],[none,R0 NCd o]) =
 ((ifB (decide (a<(↑s.length:Int))) (ifB ((if fkB z=true then (0:Int) else (2:Int))==(0:Int)) (ifT (decide (0<=a/\s.length<=4000000000/\a<=
 4000000000)) (ifT (decide ((0:Int)<=A7 (Aj s a.toNat)/\A7 (Aj s a.toNat)<=(1000000000000:Int))) (ifT (decide (m=o.length/\o.length<=2000000))
 (ifB (A5 z (unf (A7 (Aj s a.toNat))) (0:Int)).isSome (ifB (!BO (Aj s a.toNat)) (some (Ex.ret,[V.ref 1 0 0,V.b false],[none,R0 NCd
 (Ag NCd.den)])) (some (Ex.normal,[V.ref 1 0 (o.length+1),V.s s,V.j up,V.tp LCd z 0,V.j (Az a.toNat (Aj s a.toNat))],[none,R0 NCd (o++(unf (A7 (Aj s a.toNat)),Ag UInt8,(0:Int),up,false,())::Ag (Int×By×Int×Int×Bool×Unit))]))) (some
 (Ex.ret,[V.ref 1 0 0,V.b false],[none,R0 NCd (Ag NCd.den)])))))) (ifT (decide (0<=a/\s.length<=4000000000/\a<=4000000000)) (ifB
 (!(Ba s a.toNat).2.2) (some (Ex.ret,[V.ref 1 0 0,V.b false],[none,R0 NCd (Ag NCd.den)])) (ifT (decide (m=o.length/\(Ba s
 a.toNat).1.length<=400/\An z=true/\Ao z<=n/\o.length+Ao z*((Ba s a.toNat).1.length+1)<=1000000)) (ifB (!(AS z (Ba
 s a.toNat).1 (0:Int)).isSome) (some (Ex.ret,[V.ref 1 0 0,V.b false],[none,R0 NCd (Ag NCd.den)])) (some (Ex.normal,[V.ref 1 0 (Bm z
 (Ba s a.toNat).1 (0:Int) up o).length,V.s s,V.j up,V.tp LCd z 0,V.j (Ba s a.toNat).2.1],[none,R0 NCd (Bm z
 (Ba s a.toNat).1 (0:Int) up o)]))))))) (some (Ex.exit 0,[V.ref 1 0 m],[none,R0 NCd o]))):_):=by kernel_rfl
theorem Ae0 (n:Nat) (z:Rose Lab) (m:Nat) (s:By) (up:Int) (nl:Option Bool) (o:List Nd):Aen prog (Uc n) (Aa [(3,dlE n)]) f180 [.tp LCd z 0,.ref 0 0 m,.s s,.j up] [.row false nl NCd o] =
 ((ifT (decide ((0:Int)<=(0:Int))&&decide (0<(↑z.kids.length:Int))) (Ak z.kids[0]? fun z=>ifT (decide (m=o.length/\(0:Int)<=(0:Int)/\(0 :
 Nat)<=s.length/\0<=up/\s.length<=400/\An z=true/\Ao z<=n/\o.length+Ao z*(s.length-0)<=1000000)) (ifB (BD (fkB z) (fun
 n=>A5 z n (0:Int)) (fun d=>AS z d (0:Int)) s (s.length-0) 0).isSome (some (V.tup [V.ref 1 0 (o++A8 ((BD (fkB z) (fun n=>A5 z
 n (0:Int)) (fun d=>AS z d (0:Int)) s (s.length-0) 0).getD (Ag (Rose AG))) up.toNat o.length).length,V.b true],[none,R0 NCd (o++A8 ((BD (fkB z) (fun n=>A5 z n (0:Int)) (fun d=>AS z d (0:Int)) s (s.length-0) 0).getD (Ag (Rose AG))) up.toNat
 o.length)])) (some (V.tup [V.ref 1 0 0,V.b false],[none,R0 NCd (Ag NCd.den)]))))):_):=by kernel_rfl
abbrev Kk (k n:Nat):FuncId->Option Ent:=Aa [(180,.own (dlN n)),(150,.rd1 VT),(181,.mix Xl),(183,.rd1 Tl),(184,.own O0),(144,.own (MN k))]
theorem R2 (n k m w:Nat) (ro:Bool) (up:Int) (ks:RL) (c i:Int) (o:List Nd) (fs:List Pl):At prog (Kk k n) (Aa [(12,dmE k)]) 1 (body f144 0) (dmE k) ([.ref 1 0 m,.ref 2 0 w,.j up,.sl (.tree LCd) ks,.j c,.j i],[none,R0 NCd o,some (.row ro none PCd fs)]) =
 ((ifB (decide (i<c)) (ifT (decide (0<=i)&&decide (i<(↑ks.length:Int))) (Ak ks[i.toNat]? fun z=>ifB (decide (Aq (fun z_1=>z_1.1.1==(Rose.lab
 z).2.2.1) 0 (take w (drop 0 fs))<(0:Int))) (ifB (Rose.lab z).2.2.2.1 (some (Ex.ret,[V.ref 1 0 0,V.b false],[none,R0 NCd (Ag NCd.den)])) (some (Ex.normal,[V.ref 1 0 m,V.ref 2 0 w,V.j up,V.sl LCd.tree ks,V.j c,V.j (i64.wrap (i+1))],
 [none,R0 NCd o,some (Blk.row true none PCd fs)]))) (ifT (decide ((0:Int)<=Aq (fun z_1=>z_1.1.1==(Rose.lab z).2.2.1) (0 :
 Nat) (take w (drop 0 fs)))&&decide (Aq (fun z_1=>z_1.1.1==(Rose.lab z).2.2.1) 0 (take w (drop 0 fs))<(↑w
 : Int))) (Ak fs[0+(Aq (fun z_1=>z_1.1.1==(Rose.lab z).2.2.1) 0 (take w (drop 0 fs))).toNat]? fun z_1=>ifB
 (z_1.1.2.1 != if fkB z=true then (0:Int) else (2:Int)) (some (Ex.ret,[V.ref 1 0 0,V.b false],[none,R0 NCd (Ag NCd.den)])) (ifB
 (z_1.1.2.1==(0:Int)) (ifT (decide (m=o.length/\o.length<=2000000)) (ifB (!(A5 z z_1.1.2.2.1 (Rose.lab z).2.2.1).isSome) (some
 (Ex.ret,[V.ref 1 0 0,V.b false],[none,R0 NCd (Ag NCd.den)])) (some (Ex.normal,[V.ref 1 0 (o.length+1),V.ref 2 0 w,V.j up,
 V.sl LCd.tree ks,V.j c,V.j (i64.wrap (i+1))],[none,R0 NCd (o++(z_1.1.2.2.1,Ag UInt8,(Rose.lab z).2.2.1,
 up,false,())::Ag (Int×By×Int×Int×Bool×Unit)),some (Blk.row true none PCd fs)])))) (ifT (decide (m=o.length/\List.length
 z_1.1.2.2.2.1<=400/\An z=true/\Ao z<=k/\o.length+Ao z*(List.length z_1.1.2.2.2.1+1)<=1000000)) (ifB
 (!(AS z z_1.1.2.2.2.1 (Rose.lab z).2.2.1).isSome) (some (Ex.ret,[V.ref 1 0 0,V.b false],[none,R0 NCd (Ag NCd.den)])) (some
 (Ex.normal,[V.ref 1 0 (Bm z z_1.1.2.2.2.1 (Rose.lab z).2.2.1 up o).length,V.ref 2 0 w,V.j up,V.sl LCd.tree ks,V.j c,V.i .i64
 (i64.wrap (i+1))],[none,R0 NCd (Bm z z_1.1.2.2.2.1 (Rose.lab z).2.2.1 up o),some (Blk.row true none PCd
 fs)]))))))))) (some (Ex.exit 1,[V.ref 1 0 m],[none,R0 NCd o]))):_):=by kernel_rfl
theorem Aey (n k:Nat) (z:Rose Lab) (m:Nat) (s:By) (no up:Int) (nl:Option Bool) (o:List Nd):BI prog (Kk k n) (Aa [(12,dmE k)]) f144 [.tp LCd z 0,.ref 0 0 m,.s s,.j no,.j up] [.row false nl NCd o] =
 ((ifB (z.lab.1==(2:Int)) (ifT (decide ((m+1)*48<=140737488355328)&&decide (m+1<=maxI)) (some (V.tup [V.ref 1 0 (m+(1 :
 Nat)),V.b (decide ((↑s.length:Int)<=(30:Int)))],[none,R0 NCd (take m (drop 0 o)++((0:Int),s,no,up,false,())::
 Ag NCd.den)]))) (ifB (z.lab.1==(4:Int)) (ifT (decide ((m+1)*48<=140737488355328)&&decide (m+1<=maxI)) (ifT (decide (m +
 1=(take m (drop 0 o)++((0:Int),Ag UInt8,no,up,true,())::Ag NCd.den).length/\0<=(↑m:Int)/\s.length<=400/\
 z.kids.length=1/\z.kids.all An=true/\Ao z<=n/\(take m (drop 0 o)++((0:Int),Ag UInt8,no,up,true,())::Ag
 NCd.den).length+Ar z.kids*s.length<=1000000)) (some (V.tup [V.ref 1 0 (GZ z s (↑m:Int) (take m (drop 0 o)++((0:Int),Ag UInt8,
 no,up,true,())::Ag NCd.den)).length,V.b (F6 z.kids s).isSome],[none,R0 NCd (GZ z s (↑m:Int) (take m (drop 0 o)++
 ((0:Int),Ag UInt8,no,up,true,())::Ag NCd.den))])))) (ifT (decide (s.length<=4000000000)) (ifB (!(BK s).isSome) (some (V.tup [V.ref 1 0 0,V.b
 false],[none,R0 NCd (Ag NCd.den)])) (ifT (decide ((m+1)*48<=140737488355328)&&decide (m+1<=maxI))
 (ifT (decide (m+1=(take m (drop 0 o)++((0:Int),Ag UInt8,no,up,true,())::Ag NCd.den).length/\((BK s).getD (Ag Pl)).length
 = ((BK s).getD (Ag Pl)).length/\(↑z.kids.length:Int)=(↑z.kids.length:Int)/\(0:Int)<=(0:Int)/\0<=z.kids.length/\z.kids.length<=1000000
 /\ ((BK s).getD (Ag Pl)).length<=40/\0<=(↑m:Int)/\mxD (List.map (fun x=>x.1) ((BK s).getD (Ag Pl)))<=400/\(((BK s).getD (Ag
 Pl)).all fun x=>AU x.1)=true/\Ar z.kids<=k/\AL (5:Int) z.kids=true/\(take m (drop 0 o)++((0:Int),Ag UInt8,no,up,true,
 ())::Ag NCd.den).length+Ar (drop 0 z.kids)*(mxD (List.map (fun x=>x.1) ((BK s).getD (Ag Pl)))+1)<=1000000)) (ifB (Be
 (drop 0 z.kids) (List.map (fun x=>x.1) ((BK s).getD (Ag Pl)))).isSome (some (V.tup [V.ref 1 0 (take m (drop 0 o)++((0:Int),
 Ag UInt8,no,up,true,())::Ag NCd.den++A8 ((Be (drop 0 z.kids) (List.map (fun x=>x.1) ((BK s).getD (Ag Pl)))).getD (Ag (Rose AG)))
 (↑m:Int).toNat (take m (drop 0 o)++((0:Int),Ag UInt8,no,up,true,())::Ag NCd.den).length).length,V.b true],[none,R0 NCd (take m (drop 0 o)++((0:Int),Ag UInt8,no,up,true,())::Ag NCd.den++A8 ((Be (drop 0 z.kids) (List.map (fun x
 => x.1) ((BK s).getD (Ag Pl)))).getD (Ag (Rose AG))) (↑m:Int).toNat (take m (drop 0 o)++((0:Int),Ag UInt8,no,up,true,())::Ag
 NCd.den).length)])) (some (V.tup [V.ref 1 0 0,V.b false],[none,R0 NCd (Ag NCd.den)]))))))))):_):=by kernel_rfl
theorem PB (num:Bool) (N:Int->Option (Rose AG)) (D:By->Option (Rose AG)) (s:By) (a:Nat):BD num N D s 0 a=if a<s.length then none else some []:=rfl
theorem Hw (num:Bool) (N:Int->Option (Rose AG)) (D:By->Option (Rose AG)) (s:By) (f a:Nat):BD num N D s (f+1) a=if a<s.length then (match num with
  | true=>(match N (unf (A7 (Aj s a))) with
   | some v=>if BO (Aj s a)=true then (BD num N D s f (Az a (Aj s a)).toNat).map (v::·) else none
   | none=>none)
  | false=>(match (Ba s a).2.2 with
   | true=>(match D (Ba s a).1 with
    | some v=>(BD num N D s f (Ba s a).2.1.toNat).map (v::·)
    | none=>none)
   | false=>none)) else some []:=rfl
theorem OJ {s:By} {a:Nat} (h:(Ba s a).2.2=true):(a:Int)+1+((Ba s a).1.length:Int)<=(Ba s a).2.1/\(Ba s a).2.1<=s.length:=by
 have ⟨⟨u1,u2⟩,u3,u4⟩:=Eu s a;unfold Ba at h ⊢;dsimp only at h ⊢;split at h
 ·rename_i q;have e:=EN q.1;rw [if_pos q];simp only [List.length_take,List.length_drop];omega
 ·cases h
theorem Yd (s:By) (a:Nat):(Ba s a).1.length<=s.length:=by
 unfold Ba;dsimp only;split
 ·simp only [List.length_take,List.length_drop]; omega
 ·simp
theorem G9 {num:Bool} {N:Int->Option (Rose AG)} {D:By->Option (Rose AG)} {s:By} : ∀ (f f' a:Nat),s.length-a<=f->s.length-a<=f'->BD num N D s f a=BD num N D s f' a
 | 0,0,a,_,_=>rfl
 | 0,f'+1,a,h,_=>by rw [PB,Hw,if_neg (by omega),if_neg (by omega)]
 | f+1,0,a,_,h=>by rw [Hw,PB,if_neg (by omega),if_neg (by omega)]
 | f+1,f'+1,a,h,h'=>by
  rw [Hw,Hw]
  by_cases ha:a<s.length
  ·rw [if_pos ha,if_pos ha]
   cases num with
   | true=>
    dsimp only
    cases N (unf (A7 (Aj s a))) with
    | none=>rfl
    | some v=>
     dsimp only
     by_cases h3:BO (Aj s a)=true
     ·have:=EN h3;rw [if_pos h3,if_pos h3,G9 f f' _ (by omega) (by omega)]
     ·rw [if_neg h3,if_neg h3]
   | false=>
    dsimp only
    cases h3:(Ba s a).2.2 with
    | false=>rfl
    | true=>
     have:=OJ h3;dsimp only
     cases D (Ba s a).1 with
     | none=>rfl
     | some v=>dsimp only; rw [G9 f f' _ (by omega) (by omega)]
  ·rw [if_neg ha,if_neg ha]
theorem Gr {num:Bool} {N:Int->Option (Rose AG)} {D:By->Option (Rose AG)} {s:By} {f a:Nat} (h:s.length<=a):BD num N D s f a=some []:=by
 cases f with
 | zero=>rw [PB,if_neg (by omega)]
 | succ f=>rw [Hw,if_neg (by omega)]
theorem Jh {num:Bool} {N:Int->Option (Rose AG)} {D:By->Option (Rose AG)} {s:By} {a:Nat} (h:a<s.length):BD num N D s (s.length-a) a=(match num with
  | true=>(match N (unf (A7 (Aj s a))) with
   | some v=>if BO (Aj s a)=true then (BD num N D s (s.length-(Az a (Aj s a)).toNat) (Az a (Aj s a)).toNat).map (v::·) else none
   | none=>none)
  | false=>(match (Ba s a).2.2 with
   | true=>(match D (Ba s a).1 with
    | some v=>(BD num N D s (s.length-(Ba s a).2.1.toNat) (Ba s a).2.1.toNat).map (v::·)
    | none=>none)
   | false=>none)):=by
 rw [show s.length-a=(s.length-a-1)+1 by omega,Hw,if_pos h]
 cases num with
 | true=>
  dsimp only
  cases N (unf (A7 (Aj s a))) with
  | none=>rfl
  | some v=>
   dsimp only
   by_cases h3:BO (Aj s a)=true
   ·have:=EN h3;rw [if_pos h3,if_pos h3,G9 (s.length-a-1) (s.length-(Az a (Aj s a)).toNat) _ (by omega) (by omega)]
   ·rw [if_neg h3,if_neg h3]
 | false=>
  dsimp only
  cases h3:(Ba s a).2.2 with
  | false=>rfl
  | true=>
   have:=OJ h3;dsimp only
   cases D (Ba s a).1 with
   | none=>rfl
   | some v=>dsimp only; rw [G9 (s.length-a-1) (s.length-(Ba s a).2.1.toNat) _ (by omega) (by omega)]
theorem Ji {num:Bool} {N:Int->Option (Rose AG)} {D:By->Option (Rose AG)} {s:By} (c:Nat) (h1:1<=c) (hN : ∀ n v,N n=some v->vcR v<=c) (hD : ∀ d v,D d=some v->vcR v<=c*(d.length+1)) : ∀ (j a:Nat) (vs:RVL),s.length-a<=j->BD num N D s (s.length-a) a=some vs->vcL vs<=c*(s.length-a)
 | j,a,vs,hj,h=>by
  by_cases ha:a<s.length
  ·rw [Jh ha] at h;have mul : ∀ b:Nat,a<b->b<=s.length->c*(b-a)+c*(s.length-b)=c*(s.length-a):=fun b k1 k2=>by rw [<-mul_add]; congr 1; omega
   obtain ⟨j,rfl⟩ : ∃ i,j=i+1:=⟨j-1,by omega⟩
   cases num with
   | true=>
    dsimp only at h
    cases hn:N (unf (A7 (Aj s a))) with
    | none=>rw [hn] at h; cases h
    | some v=>
     rw [hn] at h;dsimp only at h
     by_cases h3:BO (Aj s a)=true
     ·have e:=EN h3;rw [if_pos h3] at h;obtain ⟨us,h4,rfl⟩:=map_eq_some_iff.1 h;have ih:=Ji c h1 hN hD j _ us (by omega) h4;have k1:=hN _ _ hn;have k2:=mul (Az a (Aj s a)).toNat (by omega) (by omega);have k3:c<=c*((Az a (Aj s a)).toNat-a):=Nat.le_mul_of_pos_right c (by omega);rw [vcL]; omega
     ·rw [if_neg h3] at h; cases h
   | false=>
    dsimp only at h
    cases h3:(Ba s a).2.2 with
    | false=>rw [h3] at h; cases h
    | true=>
     have e:=OJ h3;rw [h3] at h;dsimp only at h
     cases hn:D (Ba s a).1 with
     | none=>rw [hn] at h; cases h
     | some v=>
      rw [hn] at h;obtain ⟨us,h4,rfl⟩:=map_eq_some_iff.1 h;have ih:=Ji c h1 hN hD j _ us (by omega) h4;have k1:=hD _ _ hn;have k2:=mul (Ba s a).2.1.toNat (by omega) (by omega);have k3:c*((Ba s a).1.length+1)<=c*((Ba s a).2.1.toNat-a):=mul_le_mul_left c (by omega);rw [vcL]; omega
  ·rw [Gr (by omega)] at h; cases h; rw [vcL]; omega
termination_by j=>j
theorem L7 {f:WFd} : ∀ {fs:List WFd},f∈fs->f.2.2.2.1.length<=mxD fs
 | g::fs,h=>by
  rw [mxD];rcases mem_cons.1 h with rfl | h
  ·omega
  ·have:=L7 h; omega
theorem U6 {L:Nat} : ∀ {fs:List WFd},(∀ f∈fs,f.2.2.2.1.length<=L)->mxD fs<=L
 | [],_=>zero_le _
 | g::fs,h=>by
  rw [mxD];have h1:=h g (by simp);have h2:=U6 (fun f hf=>h f (List.mem_cons_of_mem _ hf));omega
theorem Agl {s:By} {a:Nat}:(AZ s a).1.2.2.2.1.length<=s.length:=by
 unfold AZ;dsimp only;split
 ·simp
 ·split
  ·exact Yd s _
  ·simp
theorem OW (s:By) : ∀ (f a:Nat) (o l:List WFd),(∀ x∈o,AU x=true/\x.2.2.2.1.length<=s.length)->rdF s f a o=some l->∀ x∈l,AU x=true/\x.2.2.2.1.length<=s.length
 | 0,a,o,l,ho,h=>by
  rw [rdF] at h;split at h
  ·cases h
  ·cases h; exact ho
 | f+1,a,o,l,ho,h=>by
  rw [rdF] at h;split at h
  ·split at h
   ·rename_i q;refine OW s f _ _ l (fun x hx=>?_) h;rcases List.mem_append.1 hx with hx | hx
    ·exact ho x hx
    ·obtain rfl:x=(AZ s a).1:=by simpa using hx
     exact ⟨(Ng q.1).1,Agl⟩
   ·cases h
  ·cases h; exact ho
theorem OT {s:By} {l:List WFd} (h:DT s=some l):(∀ x∈l,AU x=true/\x.2.2.2.1.length<=s.length)/\JZ (CB l)=true/\s.length<=400:=by
 unfold DT CU CA at h;split at h
 ·rename_i l' hl;split at h
  ·rename_i hr;cases h;split at hl
   ·rename_i h4;exact ⟨OW s _ _ [] l (by simp) hl,hr,h4⟩
   ·cases hl
  ·cases h
 ·cases h
mutual
theorem DQ : ∀ (z:Rose Lab) (s:By) (no:Int) (v:Rose AG),AS z s no=some v->vcR v<=Ao z*(s.length+1)
 | .node x ks,s,no,v,h=>by
  rw [AS] at h;rw [Ao];have hm:(Ar ks+1)*(s.length+1)=Ar ks*s.length+Ar ks+s.length+1:=by rw [add_mul,mul_add]; omega
  split at h
  ·split at h
   ·cases h; rw [vcR,vcL]; omega
   ·cases h
  ·split at h
   ·obtain ⟨vs,h1,rfl⟩:=map_eq_some_iff.1 h;have:=Xn ks s vs h1;rw [vcR]; omega
   ·split at h
    ·rename_i fs hf;obtain ⟨vs,h1,rfl⟩:=map_eq_some_iff.1 h;have h2:=Jg ks fs vs h1;have h3:mxD fs<=s.length:=U6 fun f hf'=>((OT hf).1 f hf').2
     have h4:Ar ks*(mxD fs+1)<=Ar ks*(s.length+1):=mul_le_mul_left _ (by omega);have h5:Ar ks*(s.length+1)=Ar ks*s.length+Ar ks:=by rw [mul_add,mul_one]
     rw [vcR]; omega
    ·cases h
theorem Xn : ∀ (ks:RL) (s:By) (vs:RVL),F6 ks s=some vs->vcL vs<=Ar ks*s.length
 | [],s,vs,h=>by rw [F6] at h; cases h
 | z::ks,s,vs,h=>by
  rw [F6] at h;have hz:=Cq z
  have:=Ji (s:=s) (Ao z) hz (fun n v hv=>by
   unfold A5 at hv;split at hv
   ·cases hv; rw [vcR,vcL]; omega
   ·cases hv) (fun d v hv=>DQ z d 0 v hv) s.length 0 vs (by omega) h
  rw [Nat.sub_zero] at this;rw [Ar,add_mul]; omega
theorem Jg : ∀ (ks:RL) (fs:List WFd) (vs:RVL),Be ks fs=some vs->vcL vs<=Ar ks*(mxD fs+1)
 | [],fs,vs,h=>by rw [Be] at h; cases h; rw [vcL]; omega
 | p::ks,fs,vs,h=>by
  rw [Be] at h;rw [Ar,add_mul];split at h
  ·split at h
   ·cases h
   ·have:=Jg ks fs vs h; omega
  ·rename_i f hf;have hmem:=List.mem_of_find?_eq_some hf;have hmx:=L7 hmem;split at h
   ·split at h
    ·rename_i v hv;obtain ⟨us,h1,rfl⟩:=map_eq_some_iff.1 h;have ih:=Jg ks fs us h1;have hp:=Cq p
     have h2:vcR v<=Ao p*(mxD fs+1):=by
      split at hv
      ·unfold A5 at hv;split at hv
       ·cases hv;rw [vcR,vcL];exact mul_pos hp (by omega)
       ·cases hv
      ·have:=DQ p _ _ v hv;exact Nat.le_trans this (mul_le_mul_left _ (by omega))
     rw [vcL]; omega
    ·cases h
   ·cases h
end
theorem Aa1 {z:Rose Lab} {s:By} {a b:Nat} {v:Rose AG} {up:Nat} {o:List Nd} (h:(BD (fkB z) (fun n=>A5 z n 0) (fun d=>AS z d 0) s (s.length-a) a)=(BD (fkB z) (fun n=>A5 z n 0) (fun d=>AS z d 0) s (s.length-b) b).map (v::·)) {ex:Ex} {d:Dt} (hd:(Br.br (BD (fkB z) (fun n=>A5 z n 0) (fun d=>AS z d 0) s (s.length-a) a).isSome (.leaf (.exit 0,([.ref 1 0 (o++A8 ((BD (fkB z) (fun n=>A5 z n 0) (fun d=>AS z d 0) s (s.length-a) a).getD []) up o.length).length],[none,R0 NCd (o++A8 ((BD (fkB z) (fun n=>A5 z n 0) (fun d=>AS z d 0) s (s.length-a) a).getD []) up o.length)]))) (.leaf (.ret,([.ref 1 0 0,.b false],[none,R0 NCd []]))):Br (Ex×Dt)).run=some (ex,d)):(Br.br (BD (fkB z) (fun n=>A5 z n 0) (fun d=>AS z d 0) s (s.length-b) b).isSome (.leaf (.exit 0,([.ref 1 0 ((o++A4 v up o.length)++A8 ((BD (fkB z) (fun n=>A5 z n 0) (fun d=>AS z d 0) s (s.length-b) b).getD []) up (o++A4 v up o.length).length).length],[none,R0 NCd ((o++A4 v up o.length)++A8 ((BD (fkB z) (fun n=>A5 z n 0) (fun d=>AS z d 0) s (s.length-b) b).getD []) up (o++A4 v up o.length).length)]))) (.leaf (.ret,([.ref 1 0 0,.b false],[none,R0 NCd []]))):Br (Ex×Dt)).run=some (ex,d):=by
 rw [h] at hd
 cases e:(BD (fkB z) (fun n=>A5 z n 0) (fun d=>AS z d 0) s (s.length-b) b) with
 | none=>rw [e] at hd; exact hd
 | some vs=>
  rw [e] at hd;refine Eq.trans ?_ hd;show some _=some _;rw [show ((Option.map (v::·) (some vs)).getD [])=v::vs from rfl,show ((some vs).getD [])=vs from rfl];simp only [A8,length_append,append_assoc]
theorem Ae1 (n:Nat) (z:Rose Lab) (hz:An z=true) (hcn:Ao z<=n) (s:By) (hs:s.length<=400) (up:Nat) : ∀ (j a:Nat) (o:List Nd),s.length-a<=j->a<=s.length->o.length+Ao z*(s.length-a)<=1000000->∀ ex d,(Br.br (BD (fkB z) (fun n=>A5 z n 0) (fun d=>AS z d 0) s (s.length-a) a).isSome (.leaf (.exit 0,([.ref 1 0 (o++A8 ((BD (fkB z) (fun n=>A5 z n 0) (fun d=>AS z d 0) s (s.length-a) a).getD []) up o.length).length],[none,R0 NCd (o++A8 ((BD (fkB z) (fun n=>A5 z n 0) (fun d=>AS z d 0) s (s.length-a) a).getD []) up o.length)]))) (.leaf (.ret,([.ref 1 0 0,.b false],[none,R0 NCd []]))):Br (Ex×Dt)).run=some (ex,d)->Runs prog (Uc n) (Aa [(3,dlE n)]) 1 (body f180 0) (dlE n) ([.ref 1 0 o.length,.s s,.j (up:Int),.tp LCd z 0,.j (a:Int)],[none,R0 NCd o]) ex d:=by
 intro j
 induction j with
 | zero=>
  intro a o hj ha ho ex d h;have hr:=Mp n o.length s up z a o;rw [Ac (dcF (by omega))] at hr;rw [Gr (by omega)] at h;have h8:=AO (show (Br.leaf (.exit 0,([.ref 1 0 (o++A8 [] up o.length).length],[none,R0 NCd (o++A8 [] up o.length)])):Br (Ex×Dt)).run=some (ex,d) from h);obtain ⟨rfl,rfl⟩:=Prod.mk.inj h8;rw [A8,append_nil];exact stp hr
 | succ j ih=>
  intro a o hj ha ho ex d h
  by_cases hlt:a<s.length
  ·have hr:=Mp n o.length s up z a o;have ⟨⟨u1,u2⟩,u3,u4⟩:=Eu s a;have hst:=Jh (num:=fkB z) (N:=fun n=>A5 z n 0) (D:=fun d=>AS z d 0) hlt;have hcp:=Cq z;have mul : ∀ b:Nat,a<b->b<=s.length->Ao z*(b-a)+Ao z*(s.length-b)=Ao z*(s.length-a):=fun b k1 k2=>by rw [<-mul_add]; congr 1; omega
   have bad : ∀ {w},At prog (Uc n) (Aa [(3,dlE n)]) 1 (body f180 0) (dlE n) ([.ref 1 0 o.length,.s s,.j (up:Int),.tp LCd z 0,.j (a:Int)],[none,R0 NCd o])=w->w=some ((.ret:Ex),(([.ref 1 0 0,.b false]:List V),[none,R0 NCd []]))->(BD (fkB z) (fun n=>A5 z n 0) (fun d=>AS z d 0) s (s.length-a) a)=none->Runs prog (Uc n) (Aa [(3,dlE n)]) 1 (body f180 0) (dlE n) ([.ref 1 0 o.length,.s s,.j (up:Int),.tp LCd z 0,.j (a:Int)],[none,R0 NCd o]) ex d:=fun e1 e2 e3=>by
    rw [e3] at h;have h8:=AO (show (Br.leaf (.ret,([.ref 1 0 0,.b false],[none,R0 NCd []])):Br (Ex×Dt)).run=some (ex,d) from h);obtain ⟨rfl,rfl⟩:=Prod.mk.inj h8;exact .stop _ _ _ (e1.trans e2) (by simp)
   rw [Ae (dcT (by omega)),ntN] at hr
   cases hf:fkB z with
   | true=>
    rw [hf] at hr hst;dsimp only at hst;rw [if_pos rfl,Ae (show ((0:Int)==0)=true from rfl),Ab (dcT (by omega)),Ab (dcT (by omega)),Ab (dcT ⟨rfl,by omega⟩)] at hr
    cases hn:A5 z (unf (A7 (Aj s a))) 0 with
    | none=>
     rw [hn] at hr hst;refine bad hr rfl (by rw [hf]; exact hst)
    | some v=>
     rw [hn] at hr hst;dsimp only at hst;rw [show (some v).isSome=true from rfl,AR] at hr
     cases h3:BO (Aj s a) with
     | false=>
      rw [h3] at hr hst;exact bad hr rfl (by rw [hf]; exact hst)
     | true=>
      rw [h3] at hr hst;have e:=EN h3;rw [if_pos rfl] at hst;have k2:=mul (Az a (Aj s a)).toNat (by omega) (by omega);have k3:Ao z<=Ao z*((Az a (Aj s a)).toNat-a):=Nat.le_mul_of_pos_right _ (by omega)
      have hv:A4 v up o.length=[(unf (A7 (Aj s a)),[],0,(up:Int),false,())]:=by
       unfold A5 at hn;split at hn
       ·cases hn; rw [A4,A8]
       ·cases hn
      have h':=Aa1 (up:=up) (o:=o) (by rw [hf]; exact hst) h;have ih':=ih (Az a (Aj s a)).toNat (o++A4 v up o.length) (by omega) (by omega) (by rw [hv,length_append,length_singleton]; omega) ex d h';rw [hv,length_append,length_singleton,show (((Az a (Aj s a)).toNat:Nat):Int)=Az a (Aj s a) by omega] at ih';exact sts hr ih'
   | false=>
    rw [hf] at hr hst;dsimp only at hst;rw [if_neg (by simp),Ac (show ((2:Int)==0)=false from rfl),Ab (dcT (by omega))] at hr
    cases h3:(Ba s a).2.2 with
    | false=>
     rw [h3] at hr hst;exact bad hr rfl (by rw [hf]; exact hst)
    | true=>
     rw [h3] at hr hst;dsimp only at hst;have e:=OJ h3;have k2:=mul (Ba s a).2.1.toNat (by omega) (by omega);have k3:Ao z*((Ba s a).1.length+1)<=Ao z*((Ba s a).2.1.toNat-a):=mul_le_mul_left _ (by omega);rw [Bool.not_true,A6,Ab (dcT ⟨rfl,by omega,hz,hcn,by omega⟩)] at hr
     cases hn:AS z (Ba s a).1 0 with
     | none=>
      rw [hn] at hr hst;exact bad hr rfl (by rw [hf]; exact hst)
     | some v=>
      have hsz:=DQ z _ _ v hn;have hdo:Bm z (Ba s a).1 0 up o=o++A4 v up o.length:=by unfold Bm; rw [hn]
      rw [hn,hdo] at hr;rw [hn] at hst;dsimp only at hst;have hl:=C0 v up o.length;have h':=Aa1 (up:=up) (o:=o) (by rw [hf]; exact hst) h;have ih':=ih (Ba s a).2.1.toNat (o++A4 v up o.length) (by omega) (by omega) (by rw [length_append,hl]; omega) ex d h';rw [show (((Ba s a).2.1.toNat:Nat):Int)=(Ba s a).2.1 by omega] at ih';exact sts hr ih'
  ·have hr:=Mp n o.length s up z a o;rw [Ac (dcF (by omega))] at hr;rw [Gr (by omega)] at h;have h8:=AO (show (Br.leaf (.exit 0,([.ref 1 0 (o++A8 [] up o.length).length],[none,R0 NCd (o++A8 [] up o.length)])):Br (Ex×Dt)).run=some (ex,d) from h);obtain ⟨rfl,rfl⟩:=Prod.mk.inj h8;rw [A8,append_nil];exact stp hr
theorem Alc (n:Nat):As prog (Uc n) (Aa [(3,dlE n)]) 1 (f180.body.getD .skip):=by
 refine Am (a:=body f180 0) (by kernel_rfl) fun d ex d' h=>?_
 unfold dlE at h;dsimp only at h;split at h
 ·rename_i m s up z a o;obtain ⟨hc,hx⟩:=Ad h;obtain ⟨rfl,h0,h1,h2,h3,h4,h5,h6⟩:=of_decide_eq_true hc;obtain ⟨a,rfl⟩:=eq_ofNat_of_zero_le h0;obtain ⟨up,rfl⟩:=eq_ofNat_of_zero_le h2;simp only [ntN] at h1 h6 hx;exact Ae1 n z h4 h5 s h3 up _ a o (le_refl _) h1 h6 ex d' hx
 ·cases h
theorem O1 (n k m w:Nat) (ro:Bool) (up:Int) (ks:RL) (c i:Int) (o:List Nd) (fs:List Pl):At prog (Kk k n) (Aa [(12,Jc k)]) 0 (body f144 0) (Jc k) ([.ref 0 0 m,.ref 1 0 w,.j up,.sl (.tree LCd) ks,.j c,.j i],[R0 NCd o,some (.row ro none PCd fs)]) =
 ((ifB (decide (i<c)) (ifT (decide (0<=i)&&decide (i<(↑ks.length:Int))) (Ak ks[i.toNat]? fun z=>ifB (decide (Aq (fun z_1=>z_1.1.1==(Rose.lab
 z).2.2.1) 0 (take w (drop 0 fs))<(0:Int))) (ifB (Rose.lab z).2.2.2.1 (some (Ex.ret,[V.ref 0 0 0,V.b false],[R0 NCd (Ag NCd.den)])) (some (Ex.normal,[V.ref 0 0 m,V.ref 1 0 w,V.j up,V.sl LCd.tree ks,V.j c,V.j (i64.wrap (i+1))],[R0 NCd o,some (Blk.row true none PCd fs)]))) (ifT (decide ((0:Int)<=Aq (fun z_1=>z_1.1.1==(Rose.lab z).2.2.1) 0 (take
 w (drop 0 fs)))&&decide (Aq (fun z_1=>z_1.1.1==(Rose.lab z).2.2.1) 0 (take w (drop 0 fs))<(↑w:Int)))
 (Ak fs[0+(Aq (fun z_1=>z_1.1.1==(Rose.lab z).2.2.1) 0 (take w (drop 0 fs))).toNat]? fun z_1=>ifB
 (z_1.1.2.1 != if fkB z=true then (0:Int) else (2:Int)) (some (Ex.ret,[V.ref 0 0 0,V.b false],[R0 NCd (Ag NCd.den)])) (ifB
 (z_1.1.2.1==(0:Int)) (ifT (decide (m=o.length/\o.length<=2000000)) (ifB (!(A5 z z_1.1.2.2.1 (Rose.lab z).2.2.1).isSome) (some
 (Ex.ret,[V.ref 0 0 0,V.b false],[R0 NCd (Ag NCd.den)])) (some (Ex.normal,[V.ref 0 0 (o.length+1),V.ref 1 0 w,V.j up,V.sl
 LCd.tree ks,V.j c,V.j (i64.wrap (i+1))],[R0 NCd (o++(z_1.1.2.2.1,Ag UInt8,(Rose.lab z).2.2.1,up,false,
 ())::Ag (Int×By×Int×Int×Bool×Unit)),some (Blk.row true none PCd fs)])))) (ifT (decide (m=o.length/\List.length z_1.1.2.2.2.1<=(400 :
 Nat)/\An z=true/\Ao z<=k/\o.length+Ao z*(List.length z_1.1.2.2.2.1+1)<=1000000)) (ifB (!(AS z z_1.1.2.2.2.1
 (Rose.lab z).2.2.1).isSome) (some (Ex.ret,[V.ref 0 0 0,V.b false],[R0 NCd (Ag NCd.den)])) (some (Ex.normal,[V.ref 0 0 (Bm z
 z_1.1.2.2.2.1 (Rose.lab z).2.2.1 up o).length,V.ref 1 0 w,V.j up,V.sl LCd.tree ks,V.j c,V.j (i64.wrap (i+1))],[R0 NCd (Bm z z_1.1.2.2.2.1 (Rose.lab z).2.2.1 up o),some (Blk.row true none PCd fs)]))))))))) (some (Ex.exit 1,[V.ref 0 0 m],
 [R0 NCd o]))):_):=by kernel_rfl
theorem Aa0 (n k:Nat) (z:Rose Lab) (s:By) (no up:Int):BI prog (Kk k n) (Aa [(12,Jc k)]) f144 [.tp LCd z 0,.nl,.s s,.j no,.j up] [] =
 ((ifB (z.lab.1==(2:Int)) (some (V.tup [V.ref 0 0 1,V.b (decide ((↑s.length:Int)<=(30:Int)))],[R0 NCd (((0:Int),s,no,up,false,())::
 Ag NCd.den)])) (ifB (z.lab.1==(4:Int)) (ifT (decide (1=1/\(0:Int)<=(0:Int)/\s.length<=400/\z.kids.length=1/\
 z.kids.all An=true/\Ao z<=n/\1+Ar z.kids*s.length<=1000000)) (some (V.tup [V.ref 0 0 (GZ z s (0:Int) (((0:Int),Ag UInt8,no,
 up,true,())::Ag NCd.den)).length,V.b (F6 z.kids s).isSome],[R0 NCd (GZ z s (0:Int) (((0:Int),Ag UInt8,no,up,true,())::Ag
 NCd.den))]))) (ifT (decide (s.length<=4000000000)) (ifB (!(BK s).isSome) (some (V.tup [V.ref 0 0 0,V.b false],[R0 NCd (Ag
 NCd.den)])) (ifT (decide (1=1/\((BK s).getD (Ag Pl)).length=((BK s).getD (Ag Pl)).length/\(↑z.kids.length:Int)=(↑z.kids.length:Int)/\
 (0:Int)<=(0:Int)/\0<=z.kids.length/\z.kids.length<=1000000/\((BK s).getD (Ag Pl)).length<=40/\(0:Int)<=(0:Int)/\mxD
 (List.map (fun x=>x.1) ((BK s).getD (Ag Pl)))<=400/\(((BK s).getD (Ag Pl)).all fun x=>AU x.1)=true/\Ar z.kids<=k/\AL (5:Int)
 z.kids=true/\1+Ar (drop 0 z.kids)*(mxD (List.map (fun x=>x.1) ((BK s).getD (Ag Pl)))+1)<=1000000)) (ifB (Be
 (drop 0 z.kids) (List.map (fun x=>x.1) ((BK s).getD (Ag Pl)))).isSome (some (V.tup [V.ref 0 0 (((0:Int),Ag UInt8,no,up,true,())::Ag
 NCd.den++A8 ((Be (drop 0 z.kids) (List.map (fun x=>x.1) ((BK s).getD (Ag Pl)))).getD (Ag (Rose AG))) 0 1).length,V.b
 true],[R0 NCd (((0:Int),Ag UInt8,no,up,true,())::Ag NCd.den++A8 ((Be (drop 0 z.kids) (List.map (fun x=>x.1)
 ((BK s).getD (Ag Pl)))).getD (Ag (Rose AG))) 0 1)])) (some (V.tup [V.ref 0 0 0,V.b false],[R0 NCd (Ag NCd.den)])))))))):_):=by kernel_rfl

theorem Ai2 (n:Nat) (z:Rose Lab) (m:Nat) (s:By) (up:Int) (nl:Option Bool) (o:List Nd) (hc:m=o.length/\0<=up/\s.length<=400/\z.kids.length=1/\z.kids.all An=true/\Ao z<=(n+1)/\o.length+Ar z.kids*s.length<=1000000):Aen prog (Uc n) (Aa [(3,dlE n)]) f180 [.tp LCd z 0,.ref 0 0 m,.s s,.j up] [.row false nl NCd o]=some (.tup [.ref 1 0 (GZ z s up o).length,.b (F6 z.kids s).isSome],[none,R0 NCd (GZ z s up o)]):=by
 obtain ⟨rfl,h1,h2,h3,h4,h5,h6⟩:=hc;obtain ⟨up,rfl⟩:=eq_ofNat_of_zero_le h1;rw [Ae0];obtain ⟨x,ks⟩:=z;have h3:ks.length=1:=h3
 match ks,h3 with
 | [y],_=>
  have h4:[y].all An=true:=h4;have h6:o.length+Ar [y]*s.length<=1000000:=h6;have h5:Ao (.node x [y])<=n+1:=h5;have hy:An y=true:=by simpa using h4
  have e:Ar [y]=Ao y:=by rw [Ar,Ar]; rfl
  have e2:Ao (.node x [y])=Ao y+1:=by rw [Ao,e]
  rw [e] at h6;rw [Ab (by rfl)];show Ak (some y) _=_;rw [Ai,Nat.sub_zero,Ab (dcT ⟨rfl,by omega,by omega,h1,h2,hy,by omega,h6⟩)];unfold GZ;dsimp only [Rose.kids];rw [F6]
  cases BD (fkB y) (fun n=>A5 y n 0) (fun d=>AS y d 0) s s.length 0 with
  | none=>rfl
  | some vs=>rfl
theorem Aa2 (n:Nat) (ih:Af prog 144 (Ent.own (MN n)).F):Af prog 180 (Ent.own (dlN (n+1))).F:=by
 refine MG (kc func183 kfk (kc func215 tvi (kc func216 Akt (kc func184 Aiz (kc func217 itb (kc func144 (ih) KnowsL.nil)))))).knows (Λ:=(Aa [(3,dlE n)])) func180 (c:=f180.body.getD .skip) (by kernel_rfl) fun vs bs r hq=>?_
 unfold Ent.F dlN at hq;dsimp only at hq;split at hq
 ·rename_i z m s up nl o;obtain ⟨hc,hx⟩:=Ad hq;exact ⟨Alc n,(Ai2 n z m s up nl o (of_decide_eq_true hc)).trans hx⟩
 ·cases hq
theorem B4 {k:Int} : ∀ {ks:RL},AL k ks=true->∀ z∈ks,Dw k z.lab=true/\An z=true
 | y::ks,h,z,hz=>by
  rw [AL,anE,anE] at h;rcases mem_cons.1 hz with rfl | hz
  ·exact h.1
  ·exact B4 h.2 z hz
theorem Ep {f:WFd} (h:AU f=true):f.2.1=0\/f.2.1=2:=by
 unfold AU at h;rw [anE] at h;have h:=h.2;split at h
 ·rename_i q; exact .inl q
 ·split at h
  ·rename_i q; exact .inr q
  ·cases h
theorem US (fs:List Pl) (no:Int):(fs.map (·.1)).find? (fun f=>f.1==no)=(fs.find? fun z:Pl=>z.1.1==no).map (·.1):=by
 rw [List.find?_map];rfl
theorem Aaz {ks:RL} {fs:List Pl} {i:Nat} {v:Rose AG} {up:Nat} {o:List Nd} (h:(Be (ks.drop i) (fs.map (·.1)))=(Be (ks.drop (i+1)) (fs.map (·.1))).map (v::·)) {ex:Ex} {d:Dt} (hd:(Br.br (Be (ks.drop i) (fs.map (·.1))).isSome (.leaf (.exit 1,([.ref 1 0 (o++A8 ((Be (ks.drop i) (fs.map (·.1))).getD []) up o.length).length],[none,R0 NCd (o++A8 ((Be (ks.drop i) (fs.map (·.1))).getD []) up o.length)]))) (.leaf (.ret,([.ref 1 0 0,.b false],[none,R0 NCd []]))):Br (Ex×Dt)).run=some (ex,d)):(Br.br (Be (ks.drop (i+1)) (fs.map (·.1))).isSome (.leaf (.exit 1,([.ref 1 0 ((o++A4 v up o.length)++A8 ((Be (ks.drop (i+1)) (fs.map (·.1))).getD []) up (o++A4 v up o.length).length).length],[none,R0 NCd ((o++A4 v up o.length)++A8 ((Be (ks.drop (i+1)) (fs.map (·.1))).getD []) up (o++A4 v up o.length).length)]))) (.leaf (.ret,([.ref 1 0 0,.b false],[none,R0 NCd []]))):Br (Ex×Dt)).run=some (ex,d):=by
 rw [h] at hd
 cases e:(Be (ks.drop (i+1)) (fs.map (·.1))) with
 | none=>rw [e] at hd; exact hd
 | some vs=>
  rw [e] at hd;refine Eq.trans ?_ hd;show some _=some _;rw [show ((Option.map (v::·) (some vs)).getD [])=v::vs from rfl,show ((some vs).getD [])=vs from rfl];simp only [A8,length_append,append_assoc]
theorem K2 (n k:Nat) (ks:RL) (hks:AL 5 ks=true) (hcn:Ar ks<=k) (hlen:ks.length<=1000000) (fs:List Pl) (hfs:fs.length<=40) (hmx:mxD (fs.map (·.1))<=400) (hfb:(fs.all fun x=>AU x.1)=true) (up:Nat) : ∀ (j i:Nat) (ro:Bool) (o:List Nd),i+j=ks.length->o.length+Ar (ks.drop i)*(mxD (fs.map (·.1))+1)<=1000000->∀ ex d,(Br.br (Be (ks.drop i) (fs.map (·.1))).isSome (.leaf (.exit 1,([.ref 1 0 (o++A8 ((Be (ks.drop i) (fs.map (·.1))).getD []) up o.length).length],[none,R0 NCd (o++A8 ((Be (ks.drop i) (fs.map (·.1))).getD []) up o.length)]))) (.leaf (.ret,([.ref 1 0 0,.b false],[none,R0 NCd []]))):Br (Ex×Dt)).run=some (ex,d)->Runs prog (Kk k n) (Aa [(12,dmE k)]) 1 (body f144 0) (dmE k) ([.ref 1 0 o.length,.ref 2 0 fs.length,.j (up:Int),.sl (.tree LCd) ks,.j (ks.length:Int),.j (i:Int)],[none,R0 NCd o,some (.row ro none PCd fs)]) ex d
 | 0,i,ro,o,hi,ho,ex,d,h=>by
  have hr:=R2 n k o.length fs.length ro up ks ks.length i o fs;rw [Ac (dcF (by omega))] at hr;rw [drop_eq_nil_of_le (by omega),Be] at h;have h8:=AO (show (Br.leaf (.exit 1,([.ref 1 0 (o++A8 [] up o.length).length],[none,R0 NCd (o++A8 [] up o.length)])):Br (Ex×Dt)).run=some (ex,d) from h);obtain ⟨rfl,rfl⟩:=Prod.mk.inj h8;rw [A8,append_nil];exact stp hr
 | j+1,i,ro,o,hi,ho,ex,d,h=>by
  have hl:i<ks.length:=by omega
  have hr:=R2 n k o.length fs.length ro up ks ks.length i o fs;have W1:i64.wrap ((i:Int)+1)=((i+1:Nat):Int):=by rw [Av (by omega) (by omega)]; omega
  have hd:=drop_eq_getElem_cons hl;have hm:=getElem_mem hl;obtain ⟨hp,hrz⟩:=B4 hks _ hm;have hcz:=BE hm;rw [Ae (dcT (by omega)),T2 (by omega),ntN,gtE hl,Ai,W1,drop_zero,take_length] at hr;have hst:=C3 ks[i] (ks.drop (i+1)) (fs.map (·.1));rw [<-hd,US] at hst;rw [hd,Ar,add_mul] at ho;have hpos:=Cq ks[i];generalize ks[i]=p at hr hst ho hp hrz hcz hpos
  have bad : ∀ {w},At prog (Kk k n) (Aa [(12,dmE k)]) 1 (body f144 0) (dmE k) ([.ref 1 0 o.length,.ref 2 0 fs.length,.j (up:Int),.sl (.tree LCd) ks,.j (ks.length:Int),.j (i:Int)],[none,R0 NCd o,some (.row ro none PCd fs)])=w->w=some ((.ret:Ex),(([.ref 1 0 0,.b false]:List V),[none,R0 NCd []]))->(Be (ks.drop i) (fs.map (·.1)))=none->Runs prog (Kk k n) (Aa [(12,dmE k)]) 1 (body f144 0) (dmE k) ([.ref 1 0 o.length,.ref 2 0 fs.length,.j (up:Int),.sl (.tree LCd) ks,.j (ks.length:Int),.j (i:Int)],[none,R0 NCd o,some (.row ro none PCd fs)]) ex d:=fun e1 e2 e3=>by
   rw [e3] at h;have h8:=AO (show (Br.leaf (.ret,([.ref 1 0 0,.b false],[none,R0 NCd []])):Br (Ex×Dt)).run=some (ex,d) from h);obtain ⟨rfl,rfl⟩:=Prod.mk.inj h8;exact .stop _ _ _ (e1.trans e2) (by simp)
  by_cases q:Aq (fun z:Pl=>z.1.1==p.lab.2.2.1) 0 fs<0
  ·rw [Ja _ _ _ q] at hst;rw [Ae (dcT q)] at hr;dsimp only [map_none] at hst
   cases hmu:p.lab.2.2.2.1 with
   | true=>
    rw [hmu] at hr hst;exact bad hr rfl (hst.trans (if_pos rfl))
   | false=>
    rw [hmu] at hr hst;rw [if_neg (by simp)] at hst;have ih:=K2 n k ks hks hcn hlen fs hfs hmx hfb up j (i+1) true o (by omega) (by omega) ex d (by rw [<-hst]; exact h);exact sts hr ih
  ·obtain ⟨q0,hq0,hq1,hq2,hq3⟩:=Dn (fun z:Pl=>z.1.1==p.lab.2.2.1) fs 0 (by omega);rw [hq3] at hst;dsimp only [map_some] at hst;have hno:fs[q0].1.1=p.lab.2.2.1:=by simpa using hq2
   have hmem:fs[q0].1∈fs.map (·.1):=mem_map.2 ⟨_,getElem_mem hq0,rfl⟩;have hml:=L7 hmem;have hkd:=Ep (all_eq_true.1 hfb _ (getElem_mem hq0));rw [Ac (dcF q),hq1,zero_add,T2 (by omega),ntN,zero_add,gtE hq0,Ai] at hr;generalize fs[q0].1=f at hr hst hno hml hkd;unfold Ix at hst;rw [hno] at hst
   by_cases hk0:f.2.1=0
   ·have hb0:(f.2.1==0)=true:=by rw [hk0]; rfl
    cases hfk:fkB p with
    | false=>
     rw [hfk] at hr hst;rw [if_neg (by rw [hb0]; simp)] at hst;rw [Ae (by rw [hk0]; rfl)] at hr;exact bad hr rfl hst
    | true=>
     rw [hfk] at hr hst;rw [if_pos hb0,if_pos hb0] at hst;rw [Ac (by rw [hk0]; rfl),Ae hb0,Ab (dcT ⟨rfl,by omega⟩)] at hr
     cases hn:A5 p f.2.2.1 p.lab.2.2.1 with
     | none=>
      rw [hn] at hr hst;exact bad hr rfl hst
     | some v=>
      rw [hn] at hr hst;dsimp only at hst
      have hv:A4 v up o.length=[(f.2.2.1,[],p.lab.2.2.1,(up:Int),false,())]:=by
       unfold A5 at hn;split at hn
       ·cases hn; rw [A4,A8]
       ·cases hn
      have h':=Aaz (up:=up) (o:=o) hst h;have hmul:1<=Ao p*(mxD (fs.map (·.1))+1):=mul_pos hpos (by omega);have ih:=K2 n k ks hks hcn hlen fs hfs hmx hfb up j (i+1) true (o++A4 v up o.length) (by omega) (by rw [hv,length_append,length_singleton]; omega) ex d h';rw [hv,length_append,length_singleton] at ih;exact sts hr ih
   ·have hb0:(f.2.1==0)=false:=beq_eq_false_iff_ne.2 hk0
    cases hfk:fkB p with
    | true=>
     rw [hfk] at hr hst;rw [if_neg (by rw [hb0]; simp)] at hst;rw [if_pos rfl,Ae (bne_iff_ne.2 hk0)] at hr;exact bad hr rfl hst
    | false=>
     rw [hfk] at hr hst;rw [if_pos hb0,if_neg (by rw [hb0]; simp)] at hst;rw [if_neg (by simp)] at hr;have hk2:f.2.1=2:=by rcases hkd with e | e; exact absurd e hk0; exact e
     have hml2:Ao p*(f.2.2.2.1.length+1)<=Ao p*(mxD (fs.map (·.1))+1):=mul_le_mul_left _ (by omega);rw [Ac (by rw [hk2]; rfl),Ac hb0,Ab (dcT ⟨rfl,by omega,hrz,by omega,by omega⟩)] at hr
     cases hn:AS p f.2.2.2.1 p.lab.2.2.1 with
     | none=>
      rw [hn] at hr hst;exact bad hr rfl hst
     | some v=>
      have hsz:=DQ p _ _ v hn;have hdo:Bm p f.2.2.2.1 p.lab.2.2.1 up o=o++A4 v up o.length:=by unfold Bm; rw [hn]
      rw [hn,hdo] at hr;rw [hn] at hst;dsimp only at hst;have hl2:=C0 v up o.length;have h':=Aaz (up:=up) (o:=o) hst h;have ih:=K2 n k ks hks hcn hlen fs hfs hmx hfb up j (i+1) true (o++A4 v up o.length) (by omega) (by rw [length_append,hl2]; omega) ex d h';exact sts hr ih
theorem Alb (n k:Nat):As prog (Kk k n) (Aa [(12,dmE k)]) 1 (f144.body.getD .skip):=by
 refine Am (a:=body f144 0) (by kernel_rfl) fun d ex d' h=>?_
 unfold dmE at h;dsimp only at h;split at h
 ·rename_i m w up ks c i o ro fs;obtain ⟨hc,hx⟩:=Ad h;obtain ⟨rfl,rfl,rfl,h1,h2,h3,h4,h5,h6,h7,h8,h9,h10⟩:=of_decide_eq_true hc;obtain ⟨i,rfl⟩:=eq_ofNat_of_zero_le h1;obtain ⟨up,rfl⟩:=eq_ofNat_of_zero_le h5;simp only [ntN] at h2 h10 hx;exact K2 n k ks h9 h8 h3 fs h4 h6 h7 up (ks.length-i) i ro o (by omega) h10 ex d' hx
 ·cases h
theorem UX {ks:RL} {fs:List Pl} {i:Nat} {v:Rose AG} {up:Nat} {o:List Nd} (h:(Be (ks.drop i) (fs.map (·.1)))=(Be (ks.drop (i+1)) (fs.map (·.1))).map (v::·)) {ex:Ex} {d:Dt} (hd:(Br.br (Be (ks.drop i) (fs.map (·.1))).isSome (.leaf (.exit 1,([.ref 0 0 (o++A8 ((Be (ks.drop i) (fs.map (·.1))).getD []) up o.length).length],[R0 NCd (o++A8 ((Be (ks.drop i) (fs.map (·.1))).getD []) up o.length)]))) (.leaf (.ret,([.ref 0 0 0,.b false],[R0 NCd []]))):Br (Ex×Dt)).run=some (ex,d)):(Br.br (Be (ks.drop (i+1)) (fs.map (·.1))).isSome (.leaf (.exit 1,([.ref 0 0 ((o++A4 v up o.length)++A8 ((Be (ks.drop (i+1)) (fs.map (·.1))).getD []) up (o++A4 v up o.length).length).length],[R0 NCd ((o++A4 v up o.length)++A8 ((Be (ks.drop (i+1)) (fs.map (·.1))).getD []) up (o++A4 v up o.length).length)]))) (.leaf (.ret,([.ref 0 0 0,.b false],[R0 NCd []]))):Br (Ex×Dt)).run=some (ex,d):=by
 rw [h] at hd
 cases e:(Be (ks.drop (i+1)) (fs.map (·.1))) with
 | none=>rw [e] at hd; exact hd
 | some vs=>
  rw [e] at hd;refine Eq.trans ?_ hd;show some _=some _;rw [show ((Option.map (v::·) (some vs)).getD [])=v::vs from rfl,show ((some vs).getD [])=vs from rfl];simp only [A8,length_append,append_assoc]
theorem Iv (n k:Nat) (ks:RL) (hks:AL 5 ks=true) (hcn:Ar ks<=k) (hlen:ks.length<=1000000) (fs:List Pl) (hfs:fs.length<=40) (hmx:mxD (fs.map (·.1))<=400) (hfb:(fs.all fun x=>AU x.1)=true) (up:Nat) : ∀ (j i:Nat) (ro:Bool) (o:List Nd),i+j=ks.length->o.length+Ar (ks.drop i)*(mxD (fs.map (·.1))+1)<=1000000->∀ ex d,(Br.br (Be (ks.drop i) (fs.map (·.1))).isSome (.leaf (.exit 1,([.ref 0 0 (o++A8 ((Be (ks.drop i) (fs.map (·.1))).getD []) up o.length).length],[R0 NCd (o++A8 ((Be (ks.drop i) (fs.map (·.1))).getD []) up o.length)]))) (.leaf (.ret,([.ref 0 0 0,.b false],[R0 NCd []]))):Br (Ex×Dt)).run=some (ex,d)->Runs prog (Kk k n) (Aa [(12,Jc k)]) 0 (body f144 0) (Jc k) ([.ref 0 0 o.length,.ref 1 0 fs.length,.j (up:Int),.sl (.tree LCd) ks,.j (ks.length:Int),.j (i:Int)],[R0 NCd o,some (.row ro none PCd fs)]) ex d
 | 0,i,ro,o,hi,ho,ex,d,h=>by
  have hr:=O1 n k o.length fs.length ro up ks ks.length i o fs;rw [Ac (dcF (by omega))] at hr;rw [drop_eq_nil_of_le (by omega),Be] at h;have h8:=AO (show (Br.leaf (.exit 1,([.ref 0 0 (o++A8 [] up o.length).length],[R0 NCd (o++A8 [] up o.length)])):Br (Ex×Dt)).run=some (ex,d) from h);obtain ⟨rfl,rfl⟩:=Prod.mk.inj h8;rw [A8,append_nil];exact stp hr
 | j+1,i,ro,o,hi,ho,ex,d,h=>by
  have hl:i<ks.length:=by omega
  have hr:=O1 n k o.length fs.length ro up ks ks.length i o fs;have W1:i64.wrap ((i:Int)+1)=((i+1:Nat):Int):=by rw [Av (by omega) (by omega)]; omega
  have hd:=drop_eq_getElem_cons hl;have hm:=getElem_mem hl;obtain ⟨hp,hrz⟩:=B4 hks _ hm;have hcz:=BE hm;rw [Ae (dcT (by omega)),T2 (by omega),ntN,gtE hl,Ai,W1,drop_zero,take_length] at hr;have hst:=C3 ks[i] (ks.drop (i+1)) (fs.map (·.1));rw [<-hd,US] at hst;rw [hd,Ar,add_mul] at ho;have hpos:=Cq ks[i];generalize ks[i]=p at hr hst ho hp hrz hcz hpos
  have bad : ∀ {w},At prog (Kk k n) (Aa [(12,Jc k)]) 0 (body f144 0) (Jc k) ([.ref 0 0 o.length,.ref 1 0 fs.length,.j (up:Int),.sl (.tree LCd) ks,.j (ks.length:Int),.j (i:Int)],[R0 NCd o,some (.row ro none PCd fs)])=w->w=some ((.ret:Ex),(([.ref 0 0 0,.b false]:List V),[R0 NCd []]))->(Be (ks.drop i) (fs.map (·.1)))=none->Runs prog (Kk k n) (Aa [(12,Jc k)]) 0 (body f144 0) (Jc k) ([.ref 0 0 o.length,.ref 1 0 fs.length,.j (up:Int),.sl (.tree LCd) ks,.j (ks.length:Int),.j (i:Int)],[R0 NCd o,some (.row ro none PCd fs)]) ex d:=fun e1 e2 e3=>by
   rw [e3] at h;have h8:=AO (show (Br.leaf (.ret,([.ref 0 0 0,.b false],[R0 NCd []])):Br (Ex×Dt)).run=some (ex,d) from h);obtain ⟨rfl,rfl⟩:=Prod.mk.inj h8;exact .stop _ _ _ (e1.trans e2) (by simp)
  by_cases q:Aq (fun z:Pl=>z.1.1==p.lab.2.2.1) 0 fs<0
  ·rw [Ja _ _ _ q] at hst;rw [Ae (dcT q)] at hr;dsimp only [map_none] at hst
   cases hmu:p.lab.2.2.2.1 with
   | true=>
    rw [hmu] at hr hst;exact bad hr rfl (hst.trans (if_pos rfl))
   | false=>
    rw [hmu] at hr hst;rw [if_neg (by simp)] at hst;have ih:=Iv n k ks hks hcn hlen fs hfs hmx hfb up j (i+1) true o (by omega) (by omega) ex d (by rw [<-hst]; exact h);exact sts hr ih
  ·obtain ⟨q0,hq0,hq1,hq2,hq3⟩:=Dn (fun z:Pl=>z.1.1==p.lab.2.2.1) fs 0 (by omega);rw [hq3] at hst;dsimp only [map_some] at hst;have hno:fs[q0].1.1=p.lab.2.2.1:=by simpa using hq2
   have hmem:fs[q0].1∈fs.map (·.1):=mem_map.2 ⟨_,getElem_mem hq0,rfl⟩;have hml:=L7 hmem;have hkd:=Ep (all_eq_true.1 hfb _ (getElem_mem hq0));rw [Ac (dcF q),hq1,zero_add,T2 (by omega),ntN,zero_add,gtE hq0,Ai] at hr;generalize fs[q0].1=f at hr hst hno hml hkd;unfold Ix at hst;rw [hno] at hst
   by_cases hk0:f.2.1=0
   ·have hb0:(f.2.1==0)=true:=by rw [hk0]; rfl
    cases hfk:fkB p with
    | false=>
     rw [hfk] at hr hst;rw [if_neg (by rw [hb0]; simp)] at hst;rw [Ae (by rw [hk0]; rfl)] at hr;exact bad hr rfl hst
    | true=>
     rw [hfk] at hr hst;rw [if_pos hb0,if_pos hb0] at hst;rw [Ac (by rw [hk0]; rfl),Ae hb0,Ab (dcT ⟨rfl,by omega⟩)] at hr
     cases hn:A5 p f.2.2.1 p.lab.2.2.1 with
     | none=>
      rw [hn] at hr hst;exact bad hr rfl hst
     | some v=>
      rw [hn] at hr hst;dsimp only at hst
      have hv:A4 v up o.length=[(f.2.2.1,[],p.lab.2.2.1,(up:Int),false,())]:=by
       unfold A5 at hn;split at hn
       ·cases hn; rw [A4,A8]
       ·cases hn
      have h':=UX (up:=up) (o:=o) hst h;have hmul:1<=Ao p*(mxD (fs.map (·.1))+1):=mul_pos hpos (by omega);have ih:=Iv n k ks hks hcn hlen fs hfs hmx hfb up j (i+1) true (o++A4 v up o.length) (by omega) (by rw [hv,length_append,length_singleton]; omega) ex d h';rw [hv,length_append,length_singleton] at ih;exact sts hr ih
   ·have hb0:(f.2.1==0)=false:=beq_eq_false_iff_ne.2 hk0
    cases hfk:fkB p with
    | true=>
     rw [hfk] at hr hst;rw [if_neg (by rw [hb0]; simp)] at hst;rw [if_pos rfl,Ae (bne_iff_ne.2 hk0)] at hr;exact bad hr rfl hst
    | false=>
     rw [hfk] at hr hst;rw [if_pos hb0,if_neg (by rw [hb0]; simp)] at hst;rw [if_neg (by simp)] at hr;have hk2:f.2.1=2:=by rcases hkd with e | e; exact absurd e hk0; exact e
     have hml2:Ao p*(f.2.2.2.1.length+1)<=Ao p*(mxD (fs.map (·.1))+1):=mul_le_mul_left _ (by omega);rw [Ac (by rw [hk2]; rfl),Ac hb0,Ab (dcT ⟨rfl,by omega,hrz,by omega,by omega⟩)] at hr
     cases hn:AS p f.2.2.2.1 p.lab.2.2.1 with
     | none=>
      rw [hn] at hr hst;exact bad hr rfl hst
     | some v=>
      have hsz:=DQ p _ _ v hn;have hdo:Bm p f.2.2.2.1 p.lab.2.2.1 up o=o++A4 v up o.length:=by unfold Bm; rw [hn]
      rw [hn,hdo] at hr;rw [hn] at hst;dsimp only at hst;have hl2:=C0 v up o.length;have h':=UX (up:=up) (o:=o) hst h;have ih:=Iv n k ks hks hcn hlen fs hfs hmx hfb up j (i+1) true (o++A4 v up o.length) (by omega) (by rw [length_append,hl2]; omega) ex d h';exact sts hr ih
theorem Ai1 (n k:Nat):As prog (Kk k n) (Aa [(12,Jc k)]) 0 (f144.body.getD .skip):=by
 refine Am (a:=body f144 0) (by kernel_rfl) fun d ex d' h=>?_
 unfold Jc at h;dsimp only at h;split at h
 ·rename_i m w up ks c i o ro fs;obtain ⟨hc,hx⟩:=Ad h;obtain ⟨rfl,rfl,rfl,h1,h2,h3,h4,h5,h6,h7,h8,h9,h10⟩:=of_decide_eq_true hc;obtain ⟨i,rfl⟩:=eq_ofNat_of_zero_le h1;obtain ⟨up,rfl⟩:=eq_ofNat_of_zero_le h5;simp only [ntN] at h2 h10 hx;exact Iv n k ks h9 h8 h3 fs h4 h6 h7 up (ks.length-i) i ro o (by omega) h10 ex d' hx
 ·cases h
def Ed (z:Rose Lab) (s:By):Bool:=decide (s.length<=400)&&(AS z s 0).isSome
def I4 (z:Rose Lab) (s:By):List Nd:=bif Ed z s then Bm z s 0 (-1) [] else []
def K9:Gm
 | [.tp LCd z 0,.s s],[]=>.need (decide (BM z=true/\s.length<=4000000000)) (.leaf (.tup [.ref 0 0 (I4 z s).length,.b (Ed z s)],[R0 NCd (I4 z s)]))
 | _,_=>.no
theorem YJ {s:By} {l:List Pl} (h:BK s=some l):DT s=some (l.map (·.1)):=by rw [HD,h]; rfl
theorem N2 {s:By} {l:List Pl} (h:BK s=some l):l.length<=40/\(l.all fun x=>AU x.1)=true/\mxD (l.map (·.1))<=s.length/\mxD (l.map (·.1))<=400:=by
 obtain ⟨h1,h2,h3⟩:=OT (YJ h);have h4:mxD (l.map (·.1))<=s.length:=U6 fun f hf=>(h1 f hf).2
 refine ⟨?_,all_eq_true.2 fun x hx=>(h1 _ (mem_map.2 ⟨x,hx,rfl⟩)).1,h4,by omega⟩;unfold BK at h
 cases e:rdP s with
 | none=>rw [e] at h; cases h
 | some l'=>
  rw [e] at h;dsimp only at h;have:=(Kq e).1;split at h
  ·cases h; exact this
  ·cases h
theorem Ch {z:Rose Lab} (h:An z=true):BV z.lab z.kids=true/\AL z.lab.1 z.kids=true:=by
 obtain ⟨x,ks⟩:=z;rw [An,anE] at h;exact h
theorem Cg {z:Rose Lab} (h:An z=true) (h4:z.lab.1=4):z.kids.length=1/\z.kids.all An=true:=by
 obtain ⟨h1,h2⟩:=Ch h;refine ⟨?_,all_eq_true.2 fun y hy=>(B4 h2 y hy).2⟩;unfold BV at h1;rw [if_neg (by omega),if_neg (by omega),if_pos h4,anE] at h1
 simpa using h1.2
theorem CM {z:Rose Lab} (h:An z=true) (h4:z.lab.1≠4):AL 5 z.kids=true:=by
 obtain ⟨h1,h2⟩:=Ch h
 by_cases h5:z.lab.1=5
 ·rw [h5] at h2; exact h2
 ·unfold BV at h1
  have e:z.kids=[]:=by
   split at h1
   ·rw [anE] at h1; exact List.eq_nil_of_length_eq_zero (by simpa using h1.2)
   ·split at h1
    ·rw [anE] at h1; exact List.eq_nil_of_length_eq_zero (by simpa using h1.2)
    ·rw [if_pos (.inl h5)] at h1; cases h1
  rw [e]; rfl
theorem EG {z:Rose Lab} {s:By} {no:Int} (h:z.lab.1=2):AS z s no=if s.length<=30 then some (.node (0,s,no,false,()) []) else none:=by
 obtain ⟨x,ks⟩:=z;have h:x.1=2:=h;rw [AS,if_pos h]
theorem EI {z:Rose Lab} {s:By} {no:Int} (h:z.lab.1=4):AS z s no=(F6 z.kids s).map fun vs=>.node (0,[],no,true,()) vs:=by
 obtain ⟨x,ks⟩:=z;have h:x.1=4:=h;rw [AS,if_neg (by omega),if_pos h]; rfl
theorem EH {z:Rose Lab} {s:By} {no:Int} (h:z.lab.1≠2) (h4:z.lab.1≠4):AS z s no=(match DT s with
   | some fs=>(Be z.kids fs).map fun vs=>.node (0,[],no,true,()) vs
   | none=>none):=by
 obtain ⟨x,ks⟩:=z;have h:x.1≠2:=h;have h4:x.1≠4:=h4;rw [AS,if_neg h,if_neg h4]; rfl
theorem Ai0 (n:Nat) (z:Rose Lab) (m:Nat) (s:By) (no up:Int) (nl:Option Bool) (o:List Nd) (hc:m=o.length/\s.length<=400/\An z=true/\Ao z<=(n+1)/\o.length+Ao z*(s.length+1)<=1000000):BI prog (Aa [(180,.own (dlN (n+1))),(150,.rd1 VT),(181,.mix Xl),(183,.rd1 Tl),(184,.own O0),(144,.own (MN n))]) (Aa [(12,dmE n)]) f144 [.tp LCd z 0,.ref 0 0 m,.s s,.j no,.j up] [.row false nl NCd o]=some (.tup [.ref 1 0 (Bm z s no up o).length,.b (AS z s no).isSome],[none,R0 NCd (Bm z s no up o)]):=by
 obtain ⟨rfl,h2,h3,h4,h5⟩:=hc;rw [Aey];have hM:=mxI;have hcp:=Cq z;have hck:=Bk z;have hlen:=BS z.kids;have h6:1<=Ao z*(s.length+1):=mul_pos hcp (by omega);have h7:Ao z*(s.length+1)=Ar z.kids*s.length+Ar z.kids+s.length+1:=by rw [hck,add_mul,mul_add]; omega
 have el:(decide ((o.length+1)*48<=140737488355328)&&decide (o.length+1<=maxI))=true:=by simp only [anE,dcE]; omega
 simp only [AX,drop_zero,take_length,Ab el]
 by_cases q2:z.lab.1=2
 ·rw [Ae (beq_iff_eq.2 q2)];unfold Bm;rw [EG q2,if_pos q2]
  by_cases q3:s.length<=30
  ·rw [if_pos q3,dcT (by omega)];dsimp only;rw [A4,A8,length_append,length_singleton];rfl
  ·rw [if_neg q3,dcF (by omega)];dsimp only;rw [length_append,length_singleton];rfl
 ·rw [Ac (beq_eq_false_iff_ne.2 q2)]
  by_cases q4:z.lab.1=4
  ·obtain ⟨k1,k2⟩:=Cg h3 q4;rw [Ae (beq_iff_eq.2 q4),Ab (dcT ⟨by simp,by omega,h2,k1,k2,h4,by simp; omega⟩)];unfold Bm GZ;rw [EI q4,if_neg q2]
   cases F6 z.kids s with
   | none=>rfl
   | some vs=>
    dsimp only [Option.map];rw [A4];simp only [length_append,length_singleton,ntN,append_assoc,List.singleton_append]
    all_goals rfl
  ·rw [Ac (beq_eq_false_iff_ne.2 q4),Ab (dcT (by omega))];unfold Bm;rw [EH q2 q4,if_neg q2]
   cases hr:BK s with
   | none=>rw [HD,hr]; rfl
   | some w=>
    obtain ⟨f1,f2,f3,f4⟩:=N2 hr;rw [YJ hr];have h8:Ar z.kids*(mxD (w.map (·.1))+1)<=Ar z.kids*(s.length+1):=mul_le_mul_left _ (by omega);have h9:Ar z.kids*(s.length+1)=Ar z.kids*s.length+Ar z.kids:=by rw [mul_add,mul_one]
    dsimp only [isSome,getD];rw [Bool.not_true,A6,Ab (dcT ⟨by simp,by first | trivial | rfl,by first | trivial | rfl,by omega,by omega,by omega,f1,by omega,f4,f2,by omega,CM h3 q4,by simp; omega⟩),ntN]
    cases Be z.kids (w.map (·.1)) with
    | none=>rfl
    | some vs=>
     dsimp only [Option.map,isSome,getD];rw [A4,AR];simp only [length_append,length_singleton,append_assoc,List.singleton_append]
     all_goals rfl
theorem Ae3 : ∀ n,(∀ m,m<n->Af prog 144 (Ent.own (MN m)).F)->Af prog 144 (Ent.own (MN n)).F
 | 0,_=>AW fun vs bs=>by
  unfold Ent.F MN;dsimp only;split
  ·rename_i z m s no up nl o;have hz:=Cq z;have:decide (m=o.length/\s.length<=400/\An z=true/\Ao z<=0/\o.length+Ao z*(s.length+1)<=1000000)=false:=dcF (by omega);rw [this]; rfl
  ·rfl
 | n+1,ihs=>by
  have ih:=ihs n (Nat.lt_succ_self n);have hl:=Aa2 n ih;refine fcC (kc func180 hl (kc func150 ris (kc func181 Aa4 (kc func183 kfk (kc func184 Aiz (kc func144 ih KnowsL.nil)))))).knows (Λ:=(Aa [(12,dmE n)])) func144 fun vs bs r hq=>?_
  unfold Ent.F MN at hq;dsimp only at hq;split at hq
  ·rename_i z m s no up nl o;obtain ⟨hc,hx⟩:=Ad hq;exact ⟨Alb (n+1) n,(Ai0 n z m s no up nl o (of_decide_eq_true hc)).trans hx⟩
  ·cases hq
theorem Ae4 (n:Nat):Af prog 144 (Ent.own (MN n)).F:=Nat.strongRecOn n fun n h=>Ae3 n h
theorem Aez (n:Nat) (z:Rose Lab) (s:By) (no up:Int) (h1:z.lab.1=5) (h2:s.length<=400) (h3:An z=true) (h4:Ao z<=n+1) (h5:Ao z*(s.length+1)<=1000000):BI prog (Aa [(180,.own (dlN (n+1))),(150,.rd1 VT),(181,.mix Xl),(183,.rd1 Tl),(184,.own O0),(144,.own (MN n))]) (Aa [(12,Jc n)]) f144 [.tp LCd z 0,.nl,.s s,.j no,.j up] []=some (.tup [.ref 0 0 (Bm z s no up []).length,.b (AS z s no).isSome],[R0 NCd (Bm z s no up [])]):=by
 rw [Aa0];have hck:=Bk z;have hlen:=BS z.kids;have h7:Ao z*(s.length+1)=Ar z.kids*s.length+Ar z.kids+s.length+1:=by rw [hck,add_mul,mul_add]; omega
 have q2:z.lab.1≠2:=by omega
 have q4:z.lab.1≠4:=by omega
 simp only [AX,drop_zero];rw [Ac (beq_eq_false_iff_ne.2 q2),Ac (beq_eq_false_iff_ne.2 q4),Ab (dcT (by omega))];unfold Bm;rw [EH q2 q4,if_neg q2]
 cases hr:BK s with
 | none=>rw [HD,hr]; rfl
 | some w=>
  obtain ⟨f1,f2,f3,f4⟩:=N2 hr;rw [YJ hr];have h8:Ar z.kids*(mxD (w.map (·.1))+1)<=Ar z.kids*(s.length+1):=mul_le_mul_left _ (by omega);have h9:Ar z.kids*(s.length+1)=Ar z.kids*s.length+Ar z.kids:=by rw [mul_add,mul_one]
  dsimp only [isSome,getD];rw [Bool.not_true,A6,Ab (dcT ⟨by first | trivial | rfl,by first | trivial | rfl,by first | trivial | rfl,by omega,by omega,by omega,f1,by omega,f4,f2,by omega,CM h3 q4,by omega⟩)]
  cases Be z.kids (w.map (·.1)) with
  | none=>rfl
  | some vs=>
   dsimp only [Option.map,isSome,getD];rw [A4];rfl
theorem Aa9:Af prog 144 (Ent.own Aa7).F:=by
 have ih:=Ae4 1000000;have hl:=Aa2 1000000 ih;refine fcC (kc func180 hl (kc func150 ris (kc func181 Aa4 (kc func183 kfk (kc func184 Aiz (kc func144 ih KnowsL.nil)))))).knows (Λ:=(Aa [(12,Jc 1000000)])) func144 fun vs bs r hq=>?_
 unfold Ent.F Aa7 at hq;dsimp only at hq;split at hq
 ·rename_i z s no up;obtain ⟨hc,hx⟩:=Ad hq;obtain ⟨h1,h2,h3,h5⟩:=of_decide_eq_true hc;have h6:Ao z<=Ao z*(s.length+1):=Nat.le_mul_of_pos_right _ (by omega);exact ⟨Ai1 (1000000+1) 1000000,(Aez 1000000 z s no up h1 h2 h3 (by omega) h5).trans hx⟩
 ·cases hq
theorem Bw {z:Rose Lab} (h:BM z=true):z.lab.1=5/\An z=true/\Ao z<=30:=by
 unfold BM at h;simp only [anE,dcE,beq_iff_eq] at h;exact ⟨h.1.1.1.1.1.1,h.1.1.2,h.2⟩
theorem Sa (z:Rose Lab) (s:By):BI prog (Aa [(144,.own Aa7)]) (Aa []) f106 [.tp LCd z 0,.s s] [] =
 ((ifB (decide ((↑s.length:Int)>(400:Int))) (some (V.tup [V.ref 0 0 0,V.b false],[R0 NCd (Ag NCd.den)])) (ifT (decide (z.lab.1=(5 :
 (Cd.int .i64).den)/\s.length<=400/\An z=true/\Ao z*(s.length+1)<=1000000)) (some (V.tup [V.ref 0 0 (Bm z s (0:Int) (-1 :
 Int) (Ag Nd)).length,V.b (AS z s (0:Int)).isSome],[R0 NCd (Bm z s (0:Int) (-1:Int) (Ag Nd))])))):_):=by kernel_rfl
theorem I3:Af prog 106 (Ent.rd1 K9).F:=by
 refine fcC (kc func144 Aa9 KnowsL.nil).knows (Λ:=Aa []) func106 fun vs bs r hq=>?_
 unfold Ent.F K9 at hq;dsimp only at hq;split at hq
 ·rename_i z s;obtain ⟨hc,hx⟩:=Ad hq;obtain ⟨h1,h2⟩:=of_decide_eq_true hc;obtain ⟨g1,g2,g3⟩:=Bw h1;refine ⟨Ah _,(Sa z s).trans (Eq.trans ?_ hx)⟩
  try dsimp only [shr]
  show _=some _;unfold I4 Ed
  by_cases q:s.length<=400
  ·have hm:Ao z*(s.length+1)<=30*401:=Nat.mul_le_mul g3 (by omega);rw [Ac (dcF (by omega)),Ab (dcT ⟨g1,q,g2,by omega⟩),dcT q,Bool.true_and]
   cases hd:AS z s 0 with
   | none=>
    have e:Bm z s 0 (-1) []=[]:=by unfold Bm; rw [hd,if_neg (by omega)]
    rw [e]; rfl
   | some v=>rfl
  ·rw [Ae (dcT (by omega)),dcF q];rfl
 ·cases hq
def itm (t:Rose Lab) (b:By):By:=if fkB t=true then b else vbs b.length++b
mutual
def AD:Rose AG->Rose Lab->By
 | .node x vs,t=>if t.lab.1=2 then x.2.1 else if fkB t=true then vbs (fol x.1).toNat else if t.lab.1=5 then Kh t.kids vs else Iu (hd0 t.kids) vs
def Iu (t:Rose Lab):RVL->By
 | []=>[]
 | v::vs=>itm t (AD v t)++Iu t vs
def Kh (ks:RL):RVL->By
 | []=>[]
 | v::vs=>(vbs (8*v.lab.2.2.1+(if fkB (byR v.lab.2.2.1 ks)=true then 0 else 2)).toNat++itm (byR v.lab.2.2.1 ks) (AD v (byR v.lab.2.2.1 ks)))++Kh ks vs
end
def chI (z:Rose Lab) (u:Rose AG):By:=if z.lab.1=5 then vbs (8*u.lab.2.2.1+(if fkB (byR u.lab.2.2.1 z.kids)=true then 0 else 2)).toNat++itm (byR u.lab.2.2.1 z.kids) (AD u (byR u.lab.2.2.1 z.kids)) else itm (hd0 z.kids) (AD u (hd0 z.kids))
def PE (z:Rose Lab) (u:Rose AG):Bool:=if z.lab.1=5 then AY u.lab.2.2.1 z.kids&&sfR u (byR u.lab.2.2.1 z.kids) else sfR u (hd0 z.kids)
def vtr (l:List Nd) (a:Nat):Rose AG:=cv (kf (tys l) a).1
def ven (l:List Nd) (a:Nat):Nat:=(kf (tys l) a).2
def vks (l:List Nd) (a e:Nat):RL×Nat:=AI (kf (tys l)) (tys l) a l.length e []
def Xq (n:Nat):Gm
 | [.tp LCd z 0,.sl NCd l,.j a],[]=>.need (decide (Ao z<=n/\Ao z<=1000000/\An z=true/\0<=a/\a.toNat<l.length/\l.length<=40)&&sfR (vtr l a.toNat) z) (.leaf (.tup [.s (AD (vtr l a.toNat) z),.j (ven l a.toNat:Int)],[]))
 | _,_=>.no
def Ajc:Gm
 | [.tp LCd z 0,.sl NCd l,.j a],[]=>.need (decide (Ao z<=1000000/\An z=true/\0<=a/\a.toNat<l.length/\l.length<=40)&&sfR (vtr l a.toNat) z) (.leaf (.tup [.s (AD (vtr l a.toNat) z),.j (ven l a.toNat:Int)],[]))
 | _,_=>.no
def Mz (n:Nat):LoopEnt:=⟨111,[0,1,2,9,10],[9,10],[],fun
 | ([.tp LCd z 0,.sl NCd l,.j a,.ref 0 0 m,.j e],[R0 (.int .u8) o])=>.need (decide (m=o.length/\0<=a/\a<e/\e.toNat<=l.length/\l.length<=40/\Ar z.kids<=n/\Ao z<=1000000/\An z=true/\A3 z.lab.1=true/\o.length<=52*e.toNat)&&(cvs (vks l a.toNat e.toNat).1).all (PE z)) (.leaf (.exit 1,([.ref 0 0 (o++u8 ((cvs (vks l a.toNat e.toNat).1).flatMap (chI z))).length,.j ((vks l a.toNat e.toNat).2:Int)],[R0 (.int .u8) (o++u8 ((cvs (vks l a.toNat e.toNat).1).flatMap (chI z)))])))
 | _=>.no⟩
theorem FC (n:Nat):(vbs n).length<=11:=by
 have:=OY 10 n;unfold vbs;rw [length_append,length_singleton]; omega
theorem Kz (t:Rose Lab) (b:By):(itm t b).length<=b.length+11:=by
 unfold itm;have:=FC b.length;split
 ·omega
 ·rw [length_append]; omega
theorem Y1 {x:AG} {vs:RVL} {t:Rose Lab} (hr:An t=true) (hf:fkB t=true) (h:sfR (.node x vs) t=true) : -1000000000<=x.1/\x.1<=1000000000:=by
 rw [sfR] at h;obtain ⟨hp,_⟩:=Ch hr;unfold BV at hp;unfold fkB at hf;rw [or_eq_true,beq_iff_eq,beq_iff_eq] at hf;split at h
 ·cases h
 ·rcases hf with hf | hf
  ·rw [if_pos hf] at h;exact IK h
  ·rw [if_neg (by omega),if_pos hf] at h;have:=of_decide_eq_true h;rw [if_neg (by omega),if_pos hf,anE] at hp;have:=of_decide_eq_true hp.1;omega
theorem Acr {x:AG} {vs:RVL} {t:Rose Lab} (h2:t.lab.1=2) (h:sfR (.node x vs) t=true):x.2.1.length<=30:=by
 rw [sfR] at h
 by_cases hb:Jm x.1 x.2.1 x.2.2.2.1 t.lab.1=true
 ·rw [if_pos hb] at h; cases h
 ·rw [if_neg hb,if_neg (by omega),if_neg (by omega),if_pos h2] at h;exact of_decide_eq_true h
theorem OP {x:AG} {vs:RVL} {t:Rose Lab} (h4:t.lab.1=4) (h:sfR (.node x vs) t=true):sfL (hd0 t.kids) vs=true:=by
 rw [sfR] at h
 by_cases hb:Jm x.1 x.2.1 x.2.2.2.1 t.lab.1=true
 ·rw [if_pos hb] at h; cases h
 ·rw [if_neg hb,if_neg (by omega),if_neg (by omega),if_neg (by omega),if_pos h4] at h;exact h
theorem OO {x:AG} {vs:RVL} {t:Rose Lab} (h5:t.lab.1=5) (h:sfR (.node x vs) t=true):sfM t.kids vs 0 vs=true/\Bv vs t.kids=true:=by
 rw [sfR] at h
 by_cases hb:Jm x.1 x.2.1 x.2.2.2.1 t.lab.1=true
 ·rw [if_pos hb] at h; cases h
 ·rw [if_neg hb,if_neg (by omega),if_neg (by omega),if_neg (by omega),if_neg (by omega),anE] at h;exact h
theorem UR {t:Rose Lab} (hr:An t=true) (h2:t.lab.1≠2) (hf:fkB t≠true):t.lab.1=4\/t.lab.1=5:=by
 obtain ⟨hp,_⟩:=Ch hr;have:=Em hp;have hf' : ¬(t.lab.1=1\/t.lab.1=3):=fun hh=>hf (by unfold fkB; simpa using hh)
 omega
theorem Aeg {ks:RL} (h:ks.length=1):ks=[hd0 ks]:=by
 obtain ⟨y,rfl⟩:=List.length_eq_one_iff.1 h;rfl
mutual
theorem EE : ∀ (u:Rose AG) (t:Rose Lab),An t=true->sfR u t=true->(AD u t).length+22<=52*vcR u
 | .node x vs,t,hr,hs=>by
  rw [AD,vcR]
  by_cases h2:t.lab.1=2
  ·rw [if_pos h2];have:=Acr h2 hs;omega
  ·rw [if_neg h2]
   by_cases hf:fkB t=true
   ·rw [if_pos hf];have:=FC (fol x.1).toNat;omega
   ·rw [if_neg hf];rcases UR hr h2 hf with h4 | h5
    ·rw [if_neg (by omega)];have hl:=Cg hr h4;have hy:An (hd0 t.kids)=true:=all_eq_true.1 hl.2 _ (by rw [Aeg hl.1]; exact List.mem_singleton.2 rfl);have:=Ry vs (hd0 t.kids) hy (OP h4 hs);omega
    ·rw [if_pos h5];have:=Rx vs t.kids (CM hr (by omega)) vs 0 (OO h5 hs).1;omega
theorem Ry : ∀ (vs:RVL) (t:Rose Lab),An t=true->sfL t vs=true->(Iu t vs).length<=52*vcL vs
 | [],t,_,_=>by rw [Iu]; exact zero_le _
 | v::vs,t,hr,hs=>by
  rw [sfL,anE,anE] at hs;have h1:=EE v t hr hs.1.2;have h2:=Ry vs t hr hs.2;have h3:=Kz t (AD v t);rw [Iu,vcL,length_append];omega
theorem Rx : ∀ (vs:RVL) (ks:RL),AL 5 ks=true->∀ (zk:RVL) (i:Nat),sfM ks zk i vs=true->(Kh ks vs).length<=52*vcL vs
 | [],ks,_,zk,i,_=>by rw [Kh]; exact zero_le _
 | v::vs,ks,hr,zk,i,hs=>by
  rw [sfM,anE,anE,anE] at hs;have h1:=EE v _ (Di hr (Fs hs.1.1)) hs.1.2.1;have h2:=Rx vs ks hr zk (i+1) hs.2;have h3:=Kz (byR v.lab.2.2.1 ks) (AD v (byR v.lab.2.2.1 ks));have h4:=FC (8*v.lab.2.2.1+(if fkB (byR v.lab.2.2.1 ks)=true then 0 else 2)).toNat;rw [Kh,vcL,length_append,length_append];omega
end
theorem Oz {z:Rose Lab} (h:z.lab.1=4) : ∀ vs:RVL,Iu (hd0 z.kids) vs=vs.flatMap (chI z)
 | []=>by rw [Iu]; rfl
 | v::vs=>by
  rw [Iu,flatMap_cons,Oz h vs];congr 1;unfold chI; rw [if_neg (by omega)]
theorem Oy {z:Rose Lab} (h:z.lab.1=5) : ∀ vs:RVL,Kh z.kids vs=vs.flatMap (chI z)
 | []=>by rw [Kh]; rfl
 | v::vs=>by
  rw [Kh,flatMap_cons,Oy h vs];congr 1;unfold chI; rw [if_pos h]
theorem T9 {t:Rose Lab} (h:t.lab.1=4\/t.lab.1=5):t.lab.1≠2/\¬fkB t=true:=by
 refine ⟨by omega,fun hf=>?_⟩;unfold fkB at hf;rw [or_eq_true,beq_iff_eq,beq_iff_eq] at hf;omega
theorem Rw {x:AG} {vs:RVL} {z:Rose Lab} (h:z.lab.1=4\/z.lab.1=5):AD (.node x vs) z=vs.flatMap (chI z):=by
 obtain ⟨h2,hf⟩:=T9 h;rw [AD,if_neg h2,if_neg hf];rcases h with h4 | h5
 ·rw [if_neg (by omega),Oz h4]
 ·rw [if_pos h5,Oy h5]
theorem OQ {ks:RL} {zk:RVL} : ∀ {vs:RVL} {i:Nat},sfM ks zk i vs=true->∀ v∈vs,AY v.lab.2.2.1 ks=true/\sfR v (byR v.lab.2.2.1 ks)=true
 | [],_,_,v,hv=>by cases hv
 | u::vs,i,h,v,hv=>by
  rw [sfM,anE,anE,anE] at h;rcases mem_cons.1 hv with rfl | hv
  ·exact ⟨h.1.1,h.1.2.1⟩
  ·exact OQ h.2 v hv
theorem Ai8 {x:AG} {vs:RVL} {z:Rose Lab} (h:z.lab.1=4\/z.lab.1=5) (hs:sfR (.node x vs) z=true):vs.all (PE z)=true:=by
 rw [all_eq_true];intro v hv;unfold PE;rcases h with h4 | h5
 ·rw [if_neg (by omega)];have:=OP h4 hs;rw [HA,all_eq_true] at this;have:=this v hv;rw [anE] at this;exact this.2
 ·rw [if_pos h5,anE];exact OQ (OO h5 hs).1 v hv
theorem TX {n:Int} : ∀ {l:RL},AY n l=true->(byR n l).lab.2.2.1=n
 | [],h=>by cases h
 | z::l,h=>by
  rw [byR]
  by_cases q:z.lab.2.2.1=n
  ·rw [if_pos q]; exact q
  ·rw [if_neg q];unfold AY at h;rw [List.any_cons,beq_false_of_ne q,Bool.false_or] at h;exact TX h
theorem H3 {l:List Nd} {e:Nat} (h:e<l.length):e<ven l e/\ven l e<=l.length:=by
 have:=CI (tys l) e (by rw [BL]; exact h);rw [BL] at this;exact this
theorem Ui {l:List Nd} {e:Nat} (h:e<l.length):vcR (vtr l e)=ven l e-e:=by
 have h1:=UQ (l.length-e) e (le_refl _) h;have h2:=C0 (cv (kf (tys l) e).1) l[e].2.2.2.1 e;rw [h1] at h2;exact h2.symm.trans (R7 (H3 h).2)
theorem PR {l:List Nd} {a e:Nat} (h:AT (tys l) e≠some (a:Int)):vks l a e=([],e):=Fh h
theorem PS {l:List Nd} {a e:Nat} (h:AT (tys l) e=some (a:Int)):vks l a e=((kf (tys l) e).1::(vks l a (ven l e)).1,(vks l a (ven l e)).2):=by
 have hl:=Eh h;rw [BL] at hl;have hb:=H3 hl;unfold vks;obtain ⟨n,hn⟩ : ∃ m,l.length=m+1:=⟨l.length-1,by omega⟩
 have e1:AI (kf (tys l)) (tys l) a l.length e []=AI (kf (tys l)) (tys l) a (n+1) e []:=by rw [hn]
 rw [e1,AI,if_pos h,nil_append,G3];have e2:AI (kf (tys l)) (tys l) a n (kf (tys l) e).2 []=AI (kf (tys l)) (tys l) a l.length (ven l e) []:=Hn (CI (tys l)) _ _ _ _ (by rw [BL]; show l.length-ven l e<=n; omega) (by rw [BL]; omega);rw [e2]; rfl
theorem Zo {z y:Rose Lab} (hr:An z=true) (h5:z.lab.1=5) (hy:y∈z.kids):1<=y.lab.2.2.1/\y.lab.2.2.1<=30:=by
 have:=(B4 (CM hr (by omega)) y hy).1;unfold Dw at this;rw [if_pos rfl] at this;simp only [anE,dcE] at this;exact this.2
abbrev X1 (n:Nat):FuncId->Option Ent:=Aa [(192,.rd1 (Xq n)),(225,.rd1 T5),(224,.own Agc),(166,.rd1 Px),(183,.rd1 Tl)]
theorem Jk (n:Nat) (z:Rose Lab) (l:List Nd) (a:Int) (m:Nat) (e:Int) (o:List Int):At prog (X1 n) (Aa [(9,Mz n)]) 0 (body f192 0) (Mz n) ([.tp LCd z 0,.sl NCd l,.j a,.ref 0 0 m,.j e],[R0 (.int .u8) o]) =
 ((ifB (decide (e<(↑l.length:Int))) (ifT (decide (0<=e)&&decide (e<(↑l.length:Int))) (Ak l[e.toNat]? fun z_1=>shr z.kids fun sh1=>ifB (z_1.2.2.2.1
 == a) (ifT (decide ((0:Int)<=(0:Int))&&decide (0<(↑sh1.length:Int))) (Ak sh1[0]? fun z_2=>shr z.lab fun sh1_1=>ifB (sh1_1.1==(5:Int))
 (ifT (decide (0<=e)&&decide (e<(↑l.length:Int))) (Ak l[e.toNat]? fun z_3=>shr sh1 fun sh1=>ifT (decide (sh1.length<=maxI)) (ifB (AY z_3.2.2.1
 sh1) (ifT (decide (0<=e)&&decide (e<(↑l.length:Int))) (Ak l[e.toNat]? fun z_4=>shr z_4.2.2 fun sh2=>shr (byR z_3.2.2.1 sh1) fun sh1=>ifT
 (decide (Ao sh1<=n/\Ao sh1<=1000000/\An sh1=true/\0<=e/\e.toNat<l.length/\l.length<=40)&&sfR (vtr l e.toNat) sh1) (ifB (sh1_1.1
 == (5:Int)) (ifT (decide (m=o.length/\0<=i64.wrap (i64.wrap ((8:Int)*sh2.1)+if fkB sh1=true then (0:Int) else (2:Int))/\
 i64.wrap (i64.wrap ((8:Int)*sh2.1)+if fkB sh1=true then (0:Int) else (2:Int))<=(1000000000000:Int)/\o.length<=1000000)) (ifB
 ((if fkB sh1=true then (0:Int) else (2:Int))==(2:Int)) (ifT (decide ((o++u8 (vbs (i64.wrap (i64.wrap ((8:Int)*sh2.1)+if fkB sh1=true
 then (0:Int) else (2:Int))).toNat)).length=(o++u8 (vbs (i64.wrap (i64.wrap ((8:Int)*sh2.1)+if fkB sh1=true then (0:Int) else (2 :
 Int))).toNat)).length/\0<=(↑(AD (vtr l e.toNat) sh1).length:Int)/\(↑(AD (vtr l e.toNat) sh1).length:Int)<=(1000000000000:Int)/\(o++u8 (vbs
 (i64.wrap (i64.wrap ((8:Int)*sh2.1)+if fkB sh1=true then (0:Int) else (2:Int))).toNat)).length<=1000000)) (ifT (decide (((o++u8
 (vbs (i64.wrap (i64.wrap ((8:Int)*sh2.1)+if fkB sh1=true then (0:Int) else (2:Int))).toNat)++u8 (vbs (↑(AD (vtr l e.toNat) sh1).length :
 Int).toNat)).length+(List.map (fun z=>(↑z.toNat:Int)) (AD (vtr l e.toNat) sh1)).length)*1<=140737488355328)&&decide ((o++u8 (vbs
 (i64.wrap (i64.wrap ((8:Int)*sh2.1)+if fkB sh1=true then (0:Int) else (2:Int))).toNat)++u8 (vbs (↑(AD (vtr l e.toNat) sh1).length :
 Int).toNat)).length+(List.map (fun z=>(↑z.toNat:Int)) (AD (vtr l e.toNat) sh1)).length<=maxI)) (some (Ex.normal,[V.tp LCd z 0,V.sl NCd l,V.j a,
 V.ref 0 0 ((o++u8 (vbs (i64.wrap (i64.wrap ((8:Int)*sh2.1)+if fkB sh1=true then (0:Int) else (2:Int))).toNat)++u8 (vbs (↑(AD (vtr l
 e.toNat) sh1).length:Int).toNat)).length+(List.map (fun z=>(↑z.toNat:Int)) (AD (vtr l e.toNat) sh1)).length),V.j (↑(ven l e.toNat):Int)],[R0 (Cd.int .u8) (take (o++u8 (vbs (i64.wrap (i64.wrap ((8:Int)*sh2.1)+if fkB sh1=true then (0:Int) else (2:Int))).toNat)++
 u8 (vbs (↑(AD (vtr l e.toNat) sh1).length:Int).toNat)).length (drop 0 (o++u8 (vbs (i64.wrap (i64.wrap ((8:Int)*sh2.1)+if fkB
 sh1=true then (0:Int) else (2:Int))).toNat)++u8 (vbs (↑(AD (vtr l e.toNat) sh1).length:Int).toNat)))++List.map (fun z=>(↑z.toNat:Int)) (AD (vtr l
 e.toNat) sh1))])))) (ifT (decide (((o++u8 (vbs (i64.wrap (i64.wrap ((8:Int)*sh2.1)+if fkB sh1=true then (0:Int) else (2 :
 Int))).toNat)).length+(List.map (fun z=>(↑z.toNat:Int)) (AD (vtr l e.toNat) sh1)).length)*1<=140737488355328)&&decide ((o++u8 (vbs
 (i64.wrap (i64.wrap ((8:Int)*sh2.1)+if fkB sh1=true then (0:Int) else (2:Int))).toNat)).length+(List.map (fun z=>(↑z.toNat:Int)) (AD
 (vtr l e.toNat) sh1)).length<=maxI)) (some (Ex.normal,[V.tp LCd z 0,V.sl NCd l,V.j a,V.ref 0 0 ((o++u8 (vbs (i64.wrap (i64.wrap ((8 :
 Int)*sh2.1)+if fkB sh1=true then (0:Int) else (2:Int))).toNat)).length+(List.map (fun z=>(↑z.toNat:Int)) (AD (vtr l e.toNat) sh1)).length),V.i .i64
 (↑(ven l e.toNat):Int)],[R0 (Cd.int .u8) (take (o++u8 (vbs (i64.wrap (i64.wrap ((8:Int)*sh2.1)+if fkB sh1=true
 then (0:Int) else (2:Int))).toNat)).length (drop 0 (o++u8 (vbs (i64.wrap (i64.wrap ((8:Int)*sh2.1)+if fkB sh1=true then (0 :
 Int) else (2:Int))).toNat)))++List.map (fun z=>(↑z.toNat:Int)) (AD (vtr l e.toNat) sh1))]))))) (ifB ((if fkB sh1=true then (0:Int) else (2:Int))==(2 :
 Int)) (ifT (decide (m=o.length/\0<=(↑(AD (vtr l e.toNat) sh1).length:Int)/\(↑(AD (vtr l e.toNat) sh1).length:Int)<=(1000000000000:Int)/\o.length<=
 1000000)) (ifT (decide (((o++u8 (vbs (↑(AD (vtr l e.toNat) sh1).length:Int).toNat)).length+(List.map (fun z=>(↑z.toNat:Int)) (AD (vtr l e.toNat)
 sh1)).length)*1<=140737488355328)&&decide ((o++u8 (vbs (↑(AD (vtr l e.toNat) sh1).length:Int).toNat)).length+(List.map (fun z=>(↑z.toNat :
 Int)) (AD (vtr l e.toNat) sh1)).length<=maxI)) (some (Ex.normal,[V.tp LCd z 0,V.sl NCd l,V.j a,V.ref 0 0 ((o++u8 (vbs (↑(AD (vtr l e.toNat)
 sh1).length:Int).toNat)).length+(List.map (fun z=>(↑z.toNat:Int)) (AD (vtr l e.toNat) sh1)).length),V.j (↑(ven l e.toNat):Int)],[R0 (Cd.int .u8) (take (o++u8 (vbs (↑(AD (vtr l e.toNat) sh1).length:Int).toNat)).length (drop 0 (o++u8 (vbs (↑(AD (vtr l e.toNat)
 sh1).length:Int).toNat)))++List.map (fun z=>(↑z.toNat:Int)) (AD (vtr l e.toNat) sh1))])))) (ifT (decide ((m+(List.map (fun z=>(↑z.toNat:Int)) (AD (vtr
 l e.toNat) sh1)).length)*1<=140737488355328)&&decide (m+(List.map (fun z=>(↑z.toNat:Int)) (AD (vtr l e.toNat) sh1)).length<=maxI)) (some
 (Ex.normal,[V.tp LCd z 0,V.sl NCd l,V.j a,V.ref 0 0 (m+(List.map (fun z=>(↑z.toNat:Int)) (AD (vtr l e.toNat) sh1)).length),V.j (↑(ven l
 e.toNat):Int)],[R0 (Cd.int .u8) (take m (drop 0 o)++List.map (fun z=>(↑z.toNat:Int)) (AD (vtr l e.toNat) sh1))])))))))
 (ifT (decide (0<=e)&&decide (e<(↑l.length:Int))) (Ak l[e.toNat]? fun z=>none))))) (ifT (decide (0<=e)&&decide (e<(↑l.length:Int))) (Ak l[e.toNat]?
 fun z_3=>shr (u8 (vbs (↑(AD (vtr l e.toNat) z_2).length:Int).toNat)) fun sh5=>shr (o++sh5) fun sh4=>shr z_3.2.2 fun sh3=>shr (List.map (fun z=>
 (↑z.toNat:Int)) (AD (vtr l e.toNat) z_2)) fun sh2=>shr (o++u8 (vbs (i64.wrap (i64.wrap ((8:Int)*sh3.1)+if fkB z_2=true then (0:Int)
 else (2:Int))).toNat)) fun sh1=>ifT (decide (Ao z_2<=n/\Ao z_2<=1000000/\An z_2=true/\0<=e/\e.toNat<l.length/\l.length<=40)&&
 sfR (vtr l e.toNat) z_2) (ifB (sh1_1.1==(5:Int)) (ifT (decide (m=o.length/\0<=i64.wrap (i64.wrap ((8:Int)*sh3.1)+if fkB z_2=true then
 (0:Int) else (2:Int))/\i64.wrap (i64.wrap ((8:Int)*sh3.1)+if fkB z_2=true then (0:Int) else (2:Int))<=(1000000000000:Int)/\o.length
 <= 1000000)) (ifB ((if fkB z_2=true then (0:Int) else (2:Int))==(2:Int)) (ifT (decide (sh1.length=sh1.length/\0<=(↑(AD (vtr l e.toNat) z_2).length
 : Int)/\(↑(AD (vtr l e.toNat) z_2).length:Int)<=(1000000000000:Int)/\sh1.length<=1000000)) (ifT (decide (((sh1++sh5).length+sh2.length)*1
 <= 140737488355328)&&decide ((sh1++sh5).length+sh2.length<=maxI)) (some (Ex.normal,[V.tp LCd z 0,V.sl NCd l,V.j a,V.ref 0 0 ((sh1++
 sh5).length+sh2.length),V.j (↑(ven l e.toNat):Int)],[R0 (Cd.int .u8) (take (sh1++sh5).length (drop 0 (sh1++sh5))++
 sh2)])))) (ifT (decide ((sh1.length+sh2.length)*1<=140737488355328)&&decide (sh1.length+sh2.length<=maxI)) (some (Ex.normal,[V.tp LCd z (0 :
 Nat),V.sl NCd l,V.j a,V.ref 0 0 (sh1.length+sh2.length),V.j (↑(ven l e.toNat):Int)],[R0 (Cd.int .u8) (take sh1.length
 (drop 0 sh1)++sh2)]))))) (ifB ((if fkB z_2=true then (0:Int) else (2:Int))==(2:Int)) (ifT (decide (m=o.length/\0<=(↑(AD (vtr l e.toNat)
 z_2).length:Int)/\(↑(AD (vtr l e.toNat) z_2).length:Int)<=(1000000000000:Int)/\o.length<=1000000)) (ifT (decide ((sh4.length+sh2.length)*1
 <= 140737488355328)&&decide (sh4.length+sh2.length<=maxI)) (some (Ex.normal,[V.tp LCd z 0,V.sl NCd l,V.j a,V.ref 0 0 (sh4.length +
 sh2.length),V.j (↑(ven l e.toNat):Int)],[R0 (Cd.int .u8) (take sh4.length (drop 0 sh4)++sh2)])))) (ifT (decide ((m +
 sh2.length)*1<=140737488355328)&&decide (m+sh2.length<=maxI)) (some (Ex.normal,[V.tp LCd z 0,V.sl NCd l,V.j a,V.ref 0 0 (m +
 sh2.length),V.j (↑(ven l e.toNat):Int)],[R0 (Cd.int .u8) (take m (drop 0 o)++sh2)]))))))))) (some (Ex.exit 1,[V.ref 0
 0 m,V.j e],[R0 (Cd.int .u8) o])))) (some (Ex.exit 1,[V.ref 0 0 m,V.j e],[R0 (Cd.int .u8) o]))):_):=by kernel_rfl
theorem Abf (n:Nat) (z:Rose Lab) (l:List Nd) (a:Int):BI prog (X1 n) (Aa [(9,Mz n)]) f192 [.tp LCd z 0,.sl NCd l,.j a] [] =
 ((ifT (decide (0<=a)&&decide (a<(↑l.length:Int))) (Ak l[a.toNat]? fun z_1=>shr (vks l a.toNat (i64.wrap (a+1)).toNat) fun sh5=>shr z.kids fun sh4=>
 shr z.lab fun sh3=>shr (ifT (decide ((-1000000000000:Int)<=z_1.1/\z_1.1<=(1000000000000:Int))) (ifT (decide ((0:Int)<=fol z_1.1/\fol z_1.1<=
 (1000000000000:Int))) (some (V.tup [V.s (List.map (fun n=>UInt8.ofNat n.toNat) (take (u8 (vbs (fol z_1.1).toNat)).length (drop 0 (u8 (vbs (fol
 z_1.1).toNat))))),V.j (i64.wrap (a+1))],[])))) fun sh2=>shr (ifT (decide (0=0/\0<=a/\a<i64.wrap (a+1)/\
 (i64.wrap (a+1)).toNat<=l.length/\l.length<=40/\Ar sh4<=n/\Ao z<=1000000/\An z=true/\A3 sh3.1=true/\0<=(52
 : Nat)*(i64.wrap (a+1)).toNat)&&(cvs sh5.1).all (PE z)) (some (V.tup [V.s (List.map (fun n=>UInt8.ofNat n.toNat) (take (Ag (Cd.int .u8).den++
 u8 (flatMap (chI z) (cvs sh5.1))).length (drop 0 (Ag (Cd.int .u8).den++u8 (flatMap (chI z) (cvs sh5.1)))))),V.j (↑sh5.2:Int)],
 []))) fun sh1=>ifB (sh3.1==(2:Int)) (some (V.tup [V.s z_1.2.1,V.j (i64.wrap (a+1))],[])) (ifB (sh3.1==(1:Int)) (ifB (sh3.1==(1 :
 Int)) sh2 sh1) (ifB (sh3.1==(3:Int)) sh2 sh1)))):_):=by kernel_rfl
theorem Abg (n:Nat) (z:Rose Lab) (l:List Nd) (a:Int) (e:Nat) (o:List Int) (he:e<l.length) (hup:l[e].2.2.2.1=a) (hl:l.length<=40) (hn:Ar z.kids<=n) (hn2:Ao z<=1000000) (hr:An z=true) (hh:z.lab.1=4\/z.lab.1=5) (ho:o.length<=52*e) (hc:PE z (vtr l e)=true) :
  At prog (X1 n) (Aa [(9,Mz n)]) 0 (body f192 0) (Mz n) ([.tp LCd z 0,.sl NCd l,.j a,.ref 0 0 o.length,.j (e:Int)],[R0 (.int .u8) o])=some (.normal,([.tp LCd z 0,.sl NCd l,.j a,.ref 0 0 (o++u8 (chI z (vtr l e))).length,.j (ven l e:Int)],[R0 (.int .u8) (o++u8 (chI z (vtr l e)))]))/\(chI z (vtr l e)).length<=52*(ven l e-e):=by
 have hM:=mxI;have hno:(vtr l e).lab.2.2.1=l[e].2.2.1:=by unfold vtr; rw [ZD he]
 have hcnt:=Ui he;have hvb:=H3 he;have hE:(decide ((0:Int)<=(e:Int))&&decide ((e:Int)<(l.length:Int)))=true:=by simp only [anE,dcE]; omega
 have hown:(l[e].2.2.2.1==a)=true:=by rw [hup]; exact beq_self_eq_true _
 have hlen:=BS z.kids;have hck:=Bk z;have hr0:=Jk n z l a o.length (e:Int) o;dsimp only [shr] at hr0;rcases hh with h4 | h5
 ·obtain ⟨h1,h2⟩:=Cg hr h4;obtain ⟨y,hy⟩:=List.length_eq_one_iff.1 h1;unfold PE at hc;rw [if_neg (by omega),hy] at hc;have hc:sfR (vtr l e) y=true:=hc;rw [hy] at h2 hn hlen;have hry:An y=true:=by simpa using h2
  rw [Ar,Ar] at hn;have hcy:Ao y<=1000000:=by rw [hy,Ar,Ar] at hck; omega
  have hL:=EE _ _ hry hc;have hq:(z.lab.1==(5:Int))=false:=by rw [h4]; rfl
  have hI:chI z (vtr l e)=itm y (AD (vtr l e) y):=by unfold chI; rw [if_neg (by omega),hy]; rfl
  have hIl:=Kz y (AD (vtr l e) y);refine ⟨?_,by rw [hI,<-hcnt]; omega⟩;rw [Ae (dcT (show (e:Int)<(l.length:Int) by omega)),Ab hE,ntN,gtE he,Ai,Ae hown,hy,Ab (by simp),show ([y]:RL)[(0:Nat)]? = some y from rfl,Ai,Ac hq,Ab hE,Ai,Ab (by rw [hc,Bool.and_true]; exact dcT ⟨by omega,by omega,hry,by omega,he,hl⟩),Ac hq] at hr0;rw [hI];simp only [show List.map (fun z:UInt8=>((z.toNat:Nat):Int)) (AD (vtr l e) y)=u8 (AD (vtr l e) y) from rfl,drop_zero,take_length] at hr0;rcases Bool.eq_false_or_eq_true (fkB y) with hf | hf
  rotate_left
  ·have hk:(if fkB y=true then (0:Int) else 2)=2:=by rw [hf]; rfl
   have hi:itm y (AD (vtr l e) y)=vbs (AD (vtr l e) y).length++AD (vtr l e) y:=by unfold itm; rw [hf]; rfl
   rw [hk,Ae (by rfl),Ab (dcT ⟨by first | rfl | trivial,by omega,by omega,by omega⟩),ntN,Ab (by simp only [anE,dcE,length_append,FF]; have:=FC (AD (vtr l e) y).length; omega)] at hr0;rw [hr0,hi,I6,append_assoc];simp only [length_append,add_assoc]
  ·have hk:(if fkB y=true then (0:Int) else 2)=0:=by rw [hf]; rfl
   have hi:itm y (AD (vtr l e) y)=AD (vtr l e) y:=by unfold itm; rw [hf]; rfl
   rw [hk,Ac (by rfl),Ab (by simp only [anE,dcE,FF]; omega)] at hr0;rw [hr0,hi];simp only [length_append]
 ·unfold PE at hc;rw [if_pos h5,anE,hno] at hc;obtain ⟨hh,hc⟩:=hc;have hb:=Fs hh;have hbn:=TX hh;have hrng:=Zo hr h5 hb;rw [hbn] at hrng;have hry:=Di (CM hr (by omega)) hb;have hL:=EE _ _ hry hc;have hcm:=BE hb;have hq:(z.lab.1==(5:Int))=true:=by rw [h5]; rfl
  have hk0:0<z.kids.length:=List.length_pos_of_mem hb;have hI:chI z (vtr l e)=vbs (8*l[e].2.2.1+(if fkB (byR l[e].2.2.1 z.kids)=true then 0 else 2)).toNat++itm (byR l[e].2.2.1 z.kids) (AD (vtr l e) (byR l[e].2.2.1 z.kids)):=by unfold chI; rw [if_pos h5,hno]
  have hIl:=Kz (byR l[e].2.2.1 z.kids) (AD (vtr l e) (byR l[e].2.2.1 z.kids));have hv:=FC (8*l[e].2.2.1+(if fkB (byR l[e].2.2.1 z.kids)=true then 0 else 2)).toNat;refine ⟨?_,by rw [hI,<-hcnt,length_append]; omega⟩;rw [Ae (dcT (show (e:Int)<(l.length:Int) by omega)),Ab hE,ntN,gtE he,Ai,Ae hown,T2 (by omega),gtE hk0,Ai,Ae hq,Ab hE,Ai,Ab (dcT (by omega)),Ae hh,Ab hE,Ai,Ab (by rw [hc,Bool.and_true]; exact dcT ⟨by omega,by omega,hry,by omega,he,hl⟩),Ae hq] at hr0;rw [hI];generalize hY:byR l[e].2.2.1 z.kids=y at hr0 hL hIl hv ⊢;have hw : ∀ k:Int,0<=k->k<=2->i64.wrap (i64.wrap (8*l[e].2.2.1)+k)=8*l[e].2.2.1+k:=fun k h1 h2=>by rw [Av (n:=8*l[e].2.2.1) (by omega) (by omega),Av (by omega) (by omega)]
  simp only [show List.map (fun z:UInt8=>((z.toNat:Nat):Int)) (AD (vtr l e) y)=u8 (AD (vtr l e) y) from rfl,drop_zero,take_length] at hr0;rcases Bool.eq_false_or_eq_true (fkB y) with hf | hf
  rotate_left
  ·have hk:(if fkB y=true then (0:Int) else 2)=2:=by rw [hf]; rfl
   have hi:itm y (AD (vtr l e) y)=vbs (AD (vtr l e) y).length++AD (vtr l e) y:=by unfold itm; rw [hf]; rfl
   rw [hk] at hr0 hv;rw [hw 2 (by omega) (by omega),Ab (dcT ⟨by first | rfl | trivial,by omega,by omega,by omega⟩),Ae (by rfl),Ab (dcT ⟨by first | rfl | trivial,by omega,by omega,by rw [length_append,FF]; omega⟩),ntN,Ab (by simp only [anE,dcE,length_append,FF]; have:=FC (AD (vtr l e) y).length; omega)] at hr0;rw [hr0,hi,hk,I6,I6];simp only [length_append,add_assoc,append_assoc]
  ·have hk:(if fkB y=true then (0:Int) else 2)=0:=by rw [hf]; rfl
   have hi:itm y (AD (vtr l e) y)=AD (vtr l e) y:=by unfold itm; rw [hf]; rfl
   rw [hk] at hr0 hv;rw [hw 0 (by omega) (by omega),Ab (dcT ⟨by first | rfl | trivial,by omega,by omega,by omega⟩),Ac (by rfl),Ab (by simp only [anE,dcE,length_append,FF]; omega)] at hr0;rw [hr0,hi,hk,I6];simp only [length_append,add_assoc,append_assoc]
theorem RD (n:Nat) (z:Rose Lab) (l:List Nd) (a:Nat) (hl:l.length<=40) (hn:Ar z.kids<=n) (hn2:Ao z<=1000000) (hr:An z=true) (hh:z.lab.1=4\/z.lab.1=5) : ∀ (j e:Nat) (o:List Int),l.length-e<=j->e<=l.length->o.length<=52*e->(cvs (vks l a e).1).all (PE z)=true->
  Runs prog (X1 n) (Aa [(9,Mz n)]) 0 (body f192 0) (Mz n) ([.tp LCd z 0,.sl NCd l,.j (a:Int),.ref 0 0 o.length,.j (e:Int)],[R0 (.int .u8) o]) (.exit 1) ([.ref 0 0 (o++u8 ((cvs (vks l a e).1).flatMap (chI z))).length,.j ((vks l a e).2:Int)],[R0 (.int .u8) (o++u8 ((cvs (vks l a e).1).flatMap (chI z)))])
 | j,e,o,hj,he,ho,hc=>by
  have hM:=mxI
  by_cases h1:e<l.length
  ·by_cases hup:l[e].2.2.2.1=(a:Int)
   ·have hup2:AT (tys l) e=some (a:Int):=by rw [EL]; unfold upN; rw [gtE h1,<-hup]; rfl
    have hb:=H3 h1;rw [PS hup2,cvs,all_cons,anE] at hc;obtain ⟨hs,hs2⟩:=Abg n z l (a:Int) e o h1 hup hl hn hn2 hr hh ho hc.1;obtain ⟨j,rfl⟩ : ∃ i,j=i+1:=⟨j-1,by omega⟩
    have ih:=RD n z l a hl hn hn2 hr hh j (ven l e) (o++u8 (chI z (vtr l e))) (by omega) hb.2 (by rw [length_append,FF]; omega) hc.2;rw [PS hup2];dsimp only;rw [cvs,flatMap_cons,I6,<-append_assoc];exact sts hs ih
   ·have hup2:AT (tys l) e≠some (a:Int):=by rw [EL]; unfold upN; rw [gtE h1]; simpa using hup
    have hr0:=Jk n z l (a:Int) o.length (e:Int) o;dsimp only [shr] at hr0;rw [Ae (dcT (show (e:Int)<(l.length:Int) by omega)),T2 (by omega),ntN,gtE h1,Ai,Ac (beq_eq_false_iff_ne.2 hup)] at hr0;rw [PR hup2,show cvs []=[] from by rw [cvs],List.flatMap_nil,show u8 []=[] from rfl,append_nil];exact stp hr0
  ·have hup2:AT (tys l) e≠some (a:Int):=fun h=>by
    have:=Eh h;rw [BL] at this; omega
   have hr0:=Jk n z l (a:Int) o.length (e:Int) o;dsimp only [shr] at hr0;rw [Ac (dcF (show ¬(e:Int)<(l.length:Int) by omega))] at hr0;rw [PR hup2,show cvs []=[] from by rw [cvs],List.flatMap_nil,show u8 []=[] from rfl,append_nil];exact stp hr0
 termination_by j=>j
theorem Ajb (n:Nat):As prog (X1 n) (Aa [(9,Mz n)]) 0 (f192.body.getD .skip):=by
 refine Am (a:=body f192 0) (by kernel_rfl) fun d ex d' h=>?_
 unfold Mz at h;dsimp only at h;split at h
 ·rename_i z l a m e o;obtain ⟨hc,hx⟩:=Ad h;clear h;rw [anE,dcE] at hc;obtain ⟨⟨rfl,h0,h1,h2,h3,h4,h5,h6,h7,h8⟩,h9⟩:=hc;obtain ⟨a,rfl⟩:=eq_ofNat_of_zero_le h0;obtain ⟨e,rfl⟩:=eq_ofNat_of_zero_le (a:=e) (by omega);rw [ntN] at h2 h8 h9 hx;rw [ntN] at h9 hx;obtain ⟨rfl,rfl⟩:=lfP hx;have hh:z.lab.1=4\/z.lab.1=5:=by unfold A3 at h7; simpa using h7
  exact RD n z l a h3 h4 h5 h6 hh _ e o (le_refl _) h2 h8 h9
 ·cases h
theorem X8 {l:List Nd} {a:Nat} (h:a<l.length):vtr l a = .node (l[a].1,l[a].2.1,l[a].2.2.1,l[a].2.2.2.2.1,()) (cvs (bif l[a].2.2.2.2.1 then vks l a (a+1) else ([],a+1)).1)/\ven l a=(bif l[a].2.2.2.2.1 then vks l a (a+1) else ([],a+1)).2:=by
 have e:=Af8 h;unfold Ks at e;rw [BL] at e;have hl:=ZD h;unfold vtr ven;rw [e] at hl ⊢;rw [cv] at hl ⊢;refine ⟨?_,rfl⟩;have hl:cvL (A1 (tys l) a)=_:=hl;rw [hl]; rfl
theorem Afb (n:Nat) (z:Rose Lab) (l:List Nd) (a:Int) (hc:(decide (Ao z<=n+1/\Ao z<=1000000/\An z=true/\0<=a/\a.toNat<l.length/\l.length<=40)&&sfR (vtr l a.toNat) z)=true):BI prog (X1 n) (Aa [(9,Mz n)]) f192 [.tp LCd z 0,.sl NCd l,.j a] []=some (.tup [.s (AD (vtr l a.toNat) z),.j (ven l a.toNat:Int)],[]):=by
 rw [anE,dcE] at hc;obtain ⟨⟨h1,h2,h3,h4,h5,h6⟩,h7⟩:=hc;obtain ⟨a,rfl⟩:=eq_ofNat_of_zero_le h4;rw [ntN] at h5 h7 ⊢;have hM:=mxI;have hck:=Bk z;obtain ⟨e1,e2⟩:=X8 h5;have hk:=Em (DA h3).1;have hw:i64.wrap ((a:Int)+1)=((a+1:Nat):Int):=Ap (by omega);rw [Abf];dsimp only [shr];rw [T2 (by omega),ntN,gtE h5,Ai,hw];rw [e1] at h7 ⊢;rw [e2]
 have hmany:l[a].2.2.2.2.1=A3 z.lab.1:=by
  rw [sfR] at h7
  by_cases hb:Jm l[a].1 l[a].2.1 l[a].2.2.2.2.1 z.lab.1=true
  ·rw [if_pos hb] at h7; cases h7
  ·unfold Jm at hb;rw [or_eq_true] at hb;have:=fun h=>hb (.inl h)
   simpa using this
 have num:fkB z=true->(ifT (decide ((-1000000000000:Int)<=l[a].1/\l[a].1<=1000000000000)) (ifT (decide (0<=fol l[a].1/\fol l[a].1<=1000000000000)) (some (V.tup [.s (List.map (fun n:Int=>UInt8.ofNat n.toNat) (take (u8 (vbs (fol l[a].1).toNat)).length (drop 0 (u8 (vbs (fol l[a].1).toNat))))),.j ((a+1:Nat):Int)],([]:List (Option Blk))))))=some (V.tup [.s (vbs (fol l[a].1).toNat),.j ((a+1:Nat):Int)],[]):=fun hf=>by
  have hr:=Y1 h3 hf h7;have hr : -1000000000<=l[a].1/\l[a].1<=1000000000:=hr;have:=G6 hr;rw [Ab (dcT ⟨by omega,by omega⟩),Ab (dcT ⟨by omega,by omega⟩),drop_zero,take_length,Uk]
 have hold:z.lab.1=4\/z.lab.1=5->ifT (decide ((0:Nat)=0/\(0:Int)<=(a:Int)/\(a:Int)<((a+1:Nat):Int)/\(((a+1:Nat):Int)).toNat<=l.length/\l.length<=40/\Ar z.kids<=n/\Ao z<=1000000/\An z=true/\A3 z.lab.1=true/\0<=52*(((a+1:Nat):Int)).toNat)&&(cvs (vks l a (((a+1:Nat):Int)).toNat).1).all (PE z)) (some (V.tup [.s (List.map (fun n:Int=>UInt8.ofNat n.toNat) (take (Ag (Cd.int .u8).den++u8 (flatMap (chI z) (cvs (vks l a (((a+1:Nat):Int)).toNat).1))).length (drop 0 (Ag (Cd.int .u8).den++u8 (flatMap (chI z) (cvs (vks l a (((a+1:Nat):Int)).toNat).1)))))),.j ((vks l a (((a+1:Nat):Int)).toNat).2:Int)],([]:List (Option Blk))))=some (.tup [.s ((cvs (vks l a (a+1)).1).flatMap (chI z)),.j ((vks l a (a+1)).2:Int)],[]):=fun hh=>by
  have hx:A3 z.lab.1=true:=by unfold A3; rcases hh with h | h<;>rw [h]<;>rfl
  rw [hmany,hx,cond_true] at h7;rw [ntN,Ab (by rw [Ai8 hh h7,Bool.and_true]; exact dcT ⟨rfl,by omega,by omega,by omega,h6,by omega,h2,h3,hx,by omega⟩),AX,nil_append,drop_zero,take_length,Uk]
 rw [hmany];rcases hk with q | q | q | ⟨q,_⟩ | q
 ·have hf:fkB z=true:=by unfold fkB; rw [q]; rfl
  rw [num hf,q,AD,if_neg (by omega),if_pos hf]; rfl
 ·rw [q,AD,if_pos q]; rfl
 ·have hf:fkB z=true:=by unfold fkB; rw [q]; rfl
  rw [num hf,q,AD,if_neg (by omega),if_pos hf]; rfl
 ·rw [hold (.inl q),Rw (.inl q),q]; rfl
 ·rw [hold (.inr q),Rw (.inr q),q]; rfl
theorem Afc : ∀ n,(∀ m,m<n->Af prog 192 (Ent.rd1 (Xq m)).F)->Af prog 192 (Ent.rd1 (Xq n)).F
 | 0,_=>AW fun vs bs=>by
  unfold Ent.F Xq;dsimp only;split
  ·rename_i z l a;have hk:=Bk z;have:(decide (Ao z<=0/\Ao z<=1000000/\An z=true/\0<=a/\a.toNat<l.length/\l.length<=40)&&sfR (vtr l a.toNat) z)=false:=by rw [dcF (by omega)]; rfl
   rw [this]; rfl
  ·rfl
 | n+1,ih=>by
  refine fcC (kc func192 (ih n (Nat.lt_succ_self n)) (kc func225 Alz (kc func224 Alx (kc func166 Af7 (kc func183 kfk KnowsL.nil))))).knows (Λ:=(Aa [(9,Mz n)])) func192 fun vs bs r hq=>?_
  unfold Ent.F Xq at hq;dsimp only at hq;split at hq
  ·rename_i z l a;obtain ⟨hc,hx⟩:=Ad hq;exact ⟨Ajb n,(Afb n z l a hc).trans hx⟩
  ·cases hq
theorem Aif:Af prog 192 (Ent.rd1 Ajc).F:=by
 refine Bd (F:=fun n=>(Ent.rd1 (Xq n)).F) Afc fun vs bs r h=>?_
 unfold Ent.F Ajc at h;dsimp only at h;split at h
 ·rename_i z l a;obtain ⟨hc,hx⟩:=Ad h;refine ⟨Ao z,?_⟩;show (Br.need (decide (Ao z<=Ao z/\Ao z<=1000000/\An z=true/\0<=a/\a.toNat<l.length/\l.length<=40)&&sfR (vtr l a.toNat) z) (.leaf (.tup [.s (AD (vtr l a.toNat) z),.j (ven l a.toNat:Int)],[]))).run=some r
  have:(decide (Ao z<=Ao z/\Ao z<=1000000/\An z=true/\0<=a/\a.toNat<l.length/\l.length<=40)&&sfR (vtr l a.toNat) z)=true:=by
   rw [anE,dcE] at hc ⊢;exact ⟨⟨le_refl _,hc.1⟩,hc.2⟩
  rw [this];exact hx
 ·cases h
def EA (f:WFd):Bool:=AU f&&decide (f.2.2.2.1.length<=100000)
def Aix:Gm
 | [.sl FCd l],[]=>.need (decide (l.length<=100000)&&l.all EA) (.leaf (.s (fbs l),[]))
 | _,_=>.no
def ML:LoopEnt:=⟨41,[3,6,7,8],[3],[],fun
 | ([.s s,.sl FCd l,.j k,.j i],[])=>.need (decide (0<=i/\i.toNat<=l.length/\k=l.length/\l.length<=100000/\s.length<=200000*i.toNat)&&l.all EA) (.leaf (.exit 0,([.s (s++fbs (l.drop i.toNat))],[])))
 | _=>.no⟩
abbrev Abk:FuncId->Option Ent:=Aa [(207,.rd1 Abs),(208,.rd1 T5)]
theorem On (s:By) (l:List WFd) (k i:Int):At prog Abk (Aa [(3,ML)]) 0 (body f209 0) ML ([.s s,.sl FCd l,.j k,.j i],[]) =
 ((ifB (decide (i<k)) (ifT (decide (0<=i)&&decide (i<(↑l.length:Int))) (Ak l[i.toNat]? fun z=>ifT (decide (0<=i64.wrap (i64.wrap ((8:Int) *
 z.1)+z.2.1)/\i64.wrap (i64.wrap ((8:Int)*z.1)+z.2.1)<=(1000000000000:Int))) (ifT (decide (s.length+(vbs (i64.wrap
 (i64.wrap ((8:Int)*z.1)+z.2.1)).toNat).length<=9223372036854775807)) (ifB (z.2.1==(0:Int)) (ifT (decide ((-1000000000000:Int)<=
 z.2.2.1/\z.2.2.1<=(1000000000000:Int))) (ifT (decide ((0:Int)<=fol z.2.2.1/\fol z.2.2.1<=(1000000000000:Int))) (ifT (decide ((s++vbs
 (i64.wrap (i64.wrap ((8:Int)*z.1)+z.2.1)).toNat).length+(vbs (fol z.2.2.1).toNat).length<=9223372036854775807)) (some
 (Ex.normal,[V.s (s++vbs (i64.wrap (i64.wrap ((8:Int)*z.1)+z.2.1)).toNat++vbs (fol z.2.2.1).toNat),V.sl FCd l,V.j k,V.i .i64
 (i64.wrap (i+1))],[]))))) (ifT (decide (0<=(↑(List.length z.2.2.2.1):Int)/\(↑(List.length z.2.2.2.1):Int)<=(1000000000000:Int))) (ifT
 (decide ((vbs (↑(List.length z.2.2.2.1):Int).toNat).length+List.length z.2.2.2.1<=9223372036854775807)) (ifT (decide ((s++vbs
 (i64.wrap (i64.wrap ((8:Int)*z.1)+z.2.1)).toNat).length+(vbs (↑(List.length z.2.2.2.1):Int).toNat++z.2.2.2.1).length<=
 9223372036854775807)) (some (Ex.normal,[V.s (s++vbs (i64.wrap (i64.wrap ((8:Int)*z.1)+z.2.1)).toNat++(vbs (↑(List.length
 z.2.2.2.1):Int).toNat++z.2.2.2.1)),V.sl FCd l,V.j k,V.j (i64.wrap (i+1))],[]))))))))) (some (Ex.exit 0,[V.s s],[]))):_):=by kernel_rfl
theorem Aai (l:List WFd):Aw prog Abk (Aa [(3,ML)]) f209 [.sl FCd l] [] =
 ((ifT (decide ((0:Int)<=(0:Int)/\0<=l.length/\(↑l.length:Int)=(↑l.length:Int)/\l.length<=100000/\0<=0)&&l.all EA)
 (some (V.s (Ag UInt8++fbs (drop 0 l)),[]))):_):=by kernel_rfl
theorem UU {f:WFd} (h:EA f=true):(fb1 f).length<=100100:=by
 unfold EA at h;rw [anE,dcE] at h;obtain ⟨h1,h2⟩:=h;obtain ⟨⟨a1,a2⟩,a3⟩:=JN h1;have b1:=G1 (n:=(8*f.1+f.2.1).toNat) (by omega);unfold fb1;rw [length_append];split
 ·rename_i q;rcases a3 with ⟨_,c2,_⟩ | ⟨c1,_⟩
  ·have c3:=G6 (IK c2);have b2:=G1 (n:=(fol f.2.2.1).toNat) (by omega);omega
  ·omega
 ·have b2:=G1 (n:=f.2.2.2.1.length) (by omega);rw [length_append]; omega
theorem Aes (s:By) (l:List WFd) (i:Nat) (hi:i<l.length) (hl:l.length<=100000) (hs:s.length<=200000*i) (hf:EA l[i]=true) :
  At prog Abk (Aa [(3,ML)]) 0 (body f209 0) ML ([.s s,.sl FCd l,.j (l.length:Int),.j (i:Int)],[])=some (.normal,([.s (s++fb1 l[i]),.sl FCd l,.j (l.length:Int),.j ((i+1:Nat):Int)],[])):=by
 have hb:=UU hf;rw [On];have hM:=mxI;rw [Ae (dcT (by omega)),T2 (by omega),ntN,gtE hi,Ai,Ap (n:=i) (by omega)];generalize l[i]=z at *;have hf0:=hf;unfold EA at hf;rw [anE,dcE] at hf;obtain ⟨h1,h2⟩:=hf;obtain ⟨⟨a1,a2⟩,a3⟩:=JN h1
 have e:i64.wrap (i64.wrap (8*z.1)+z.2.1)=8*z.1+z.2.1:=by
  rw [Av (n:=8*z.1) (by omega) (by omega),Av (by omega) (by omega)]
 have b1:=G1 (n:=(8*z.1+z.2.1).toNat) (by omega);rw [e,Ab (dcT ⟨by omega,by omega⟩),Ab (dcT (by omega))];unfold fb1 at hb ⊢;rcases a3 with ⟨c1,c2,c3⟩ | ⟨c1,c2⟩
 ·have c4:=IK c2;have c5:=G6 c4;have b2:=G1 (n:=(fol z.2.2.1).toNat) (by omega);rw [Ae (by rw [c1]; rfl),Ab (dcT ⟨by omega,by omega⟩),Ab (dcT ⟨by omega,by omega⟩),Ab (dcT (by rw [length_append]; omega)),if_pos c1,append_assoc]
 ·have b2:=G1 (n:=z.2.2.2.1.length) (by omega);rw [Ac (by rw [c1]; rfl),ntN,Ab (dcT ⟨by omega,by omega⟩),Ab (dcT (by omega)),Ab (dcT (by rw [length_append,length_append]; omega)),if_neg (by omega),append_assoc]
theorem Rs (l:List WFd) (hl:l.length<=100000) (hf:l.all EA=true) : ∀ (j i:Nat) (s:By),i+j=l.length->s.length<=200000*i->
  Runs prog Abk (Aa [(3,ML)]) 0 (body f209 0) ML ([.s s,.sl FCd l,.j (l.length:Int),.j (i:Int)],[]) (.exit 0) ([.s (s++fbs (l.drop i))],[])
 | 0,i,s,hi,hs=>by
  have hr:=On s l l.length i;rw [Ac (dcF (by omega))] at hr;rw [drop_eq_nil_of_le (by omega),show fbs []=[] from rfl,append_nil];exact stp hr
 | j+1,i,s,hi,hs=>by
  have hlt:i<l.length:=by omega
  have hfi:=all_eq_true.1 hf _ (getElem_mem hlt);have hr:=Aes s l i hlt hl hs hfi;have hb:=UU hfi;have ih:=Rs l hl hf j (i+1) (s++fb1 l[i]) (by omega) (by rw [length_append]; omega);rw [drop_eq_getElem_cons hlt,Rr];rw [append_assoc] at ih;exact sts hr ih
theorem Aiw:As prog Abk (Aa [(3,ML)]) 0 (f209.body.getD .skip):=by
 refine Am (a:=body f209 0) (by kernel_rfl) fun d ex d' h=>?_
 unfold ML at h;dsimp only at h;split at h
 ·rename_i s l k i;obtain ⟨hc,hx⟩:=Ad h;clear h;rw [anE] at hc;obtain ⟨hc,hf⟩:=hc;obtain ⟨h0,h1,rfl,h3,h4⟩:=of_decide_eq_true hc;obtain ⟨i,rfl⟩:=eq_ofNat_of_zero_le h0;simp only [ntN] at h1 h4 hx;obtain ⟨rfl,rfl⟩:=lfP hx;exact Rs l h3 hf (l.length-i) i s (by omega) h4
 ·cases h
theorem Al3:Af prog 209 (Ent.rd1 Aix).F:=by
 refine fcK (kc func207 sv (kc func208 Aj3 KnowsL.nil)).knows (Λ:=(Aa [(3,ML)])) func209 fun vs bs r hq=>?_
 unfold Ent.F Aix at hq;dsimp only at hq;split at hq
 ·rename_i l;obtain ⟨hc,hx⟩:=Ad hq;rw [anE] at hc;obtain ⟨h1,h2⟩:=hc;have h1:=of_decide_eq_true h1;refine ⟨Aiw,Eq.trans ?_ hx⟩;rw [Aai,Ab (by rw [h2,Bool.and_true]; exact dcT ⟨by omega,by omega,rfl,h1,by omega⟩)];rfl
 ·cases hq
def RU:Rose AG:=.node (0,[],0,false,()) []
def DY (n:Int) (z:Rose Lab):Bool:=z.lab.1 != 3||(decide (0<=n/\n<=z.lab.2.2.2.2.1))
def Bf (z:Rose Lab) (s:By):Rose AG:=match DT s with
 | some fs=>(match Bq z.kids fs with | some vs=>.node (0,[],0,true,()) vs | none=>RU)
 | none=>RU
def B9 (z:Rose Lab) (s:By):Rose AG:=if z.lab.1=2 then .node (0,s,0,false,()) [] else if z.lab.1=5 then Bf z s else (match F6 z.kids s with
 | some vs=>.node (0,[],0,true,()) vs
 | none=>RU)
def rsN (n:Nat):Gm
 | [.s s,.agg (Lt y0 y1 y2 y3 y4 ys)],[]=>.need (decide (s.length<=400/\y0=5/\An (.node (y0,y1,y2,y3,y4,()) ys:Rose Lab)=true/\Ao (.node (y0,y1,y2,y3,y4,()) ys:Rose Lab)<=n/\Ao (.node (y0,y1,y2,y3,y4,()) ys:Rose Lab)<=1000000)) (.leaf (.tup [.agg [.j (Bf (.node (y0,y1,y2,y3,y4,()) ys:Rose Lab) s).lab.1,.s (Bf (.node (y0,y1,y2,y3,y4,()) ys:Rose Lab) s).lab.2.1,.j (Bf (.node (y0,y1,y2,y3,y4,()) ys:Rose Lab) s).lab.2.2.1,.b (Bf (.node (y0,y1,y2,y3,y4,()) ys:Rose Lab) s).lab.2.2.2.1,.ref 0 0 (Bf (.node (y0,y1,y2,y3,y4,()) ys:Rose Lab) s).kids.length],.b (AS (.node (y0,y1,y2,y3,y4,()) ys:Rose Lab) s 0).isSome],[R0 (.rose VCd) (Bf (.node (y0,y1,y2,y3,y4,()) ys:Rose Lab) s).kids]))
 | _,_=>.no
def ptN (n:Nat):Gm
 | [.s s,.agg (Lt y0 y1 y2 y3 y4 ys)],[]=>.need (decide (s.length<=400/\fkB (.node (y0,y1,y2,y3,y4,()) ys:Rose Lab)=false/\An (.node (y0,y1,y2,y3,y4,()) ys:Rose Lab)=true/\Ao (.node (y0,y1,y2,y3,y4,()) ys:Rose Lab)<=n/\Ao (.node (y0,y1,y2,y3,y4,()) ys:Rose Lab)<=1000000)) (.leaf (.tup [.agg [.j (B9 (.node (y0,y1,y2,y3,y4,()) ys:Rose Lab) s).lab.1,.s (B9 (.node (y0,y1,y2,y3,y4,()) ys:Rose Lab) s).lab.2.1,.j (B9 (.node (y0,y1,y2,y3,y4,()) ys:Rose Lab) s).lab.2.2.1,.b (B9 (.node (y0,y1,y2,y3,y4,()) ys:Rose Lab) s).lab.2.2.2.1,.ref 0 0 (B9 (.node (y0,y1,y2,y3,y4,()) ys:Rose Lab) s).kids.length],.b (AS (.node (y0,y1,y2,y3,y4,()) ys:Rose Lab) s 0).isSome],[R0 (.rose VCd) (B9 (.node (y0,y1,y2,y3,y4,()) ys:Rose Lab) s).kids]))
 | _,_=>.no
def MA:Gm
 | [.agg (Lt y0 y1 y2 y3 y4 ys)],[]=>.leaf (.b (fkB (.node (y0,y1,y2,y3,y4,()) ys:Rose Lab)),[])
 | _,_=>.no
def Fd:Gm
 | [.agg (Lv v0 v1 v2 v3 vs),.agg (Lt y0 y1 y2 y3 y4 ys)],[]=>.leaf (.b (DY v0 (.node (y0,y1,y2,y3,y4,()) ys:Rose Lab)),[])
 | _,_=>.no
def E4 (l:List WFd) (i:Nat):Bool:=(List.range l.length).drop i |>.all (BY (CB l))
def rsE (n:Nat):LoopEnt:=⟨95,[3,4,6,8,23,24,25],[3,4,8],[4,5],fun
 | ([.ptr 0 0,.ptr 1 0,.ref 2 0 w,.ptr 3 0,.ref 2 0 w2,.j c,.j i],[some (.box (Lt y0 y1 y2 y3 y4 ys)),some (.box [.j 0,.s [],.j 0,.b false,.ref 4 0 0]),R0 FCd fs,some (.box [.j 0,.s [],.j 0,.b true,.ref 5 0 m]),R0 (.rose VCd) [],R0 (.rose VCd) vs])=>.need (decide (w=fs.length/\w2=fs.length/\c=fs.length/\0<=i/\i.toNat<=fs.length/\fs.length<=40/\m=vs.length/\m<=i/\(fs.all fun x=>AU x)=true/\mxD fs<=400/\AL 5 ys=true/\Ar ys<=n/\Ar ys<=1000000)) (.br ((E4 fs i.toNat)&&(Bq ys (fs.drop i.toNat)).isSome) (.leaf (.exit 0,([.ptr 0 0,.ptr 1 0,.ptr 2 0],[some (.box (Lt y0 y1 y2 y3 y4 ys)),some (.box [.j 0,.s [],.j 0,.b false,.ref 3 0 0]),some (.box [.j 0,.s [],.j 0,.b true,.ref 4 0 (vs++(Bq ys (fs.drop i.toNat)).getD []).length]),R0 (.rose VCd) [],R0 (.rose VCd) (vs++(Bq ys (fs.drop i.toNat)).getD [])]))) (.leaf (.ret,([.ptr 0 0,.b false],[some (.box [.j 0,.s [],.j 0,.b false,.ref 1 0 0]),R0 (.rose VCd) []]))))
 | _=>.no⟩
def ptE (n:Nat):LoopEnt:=⟨100,[0,3,4,6,7],[4,6],[4,5],fun
 | ([.s s,.ptr 0 0,.ptr 1 0,.ptr 2 0,.j a],[some (.box (Lt y0 y1 y2 y3 y4 ys)),some (.box [.j 0,.s [],.j 0,.b false,.ref 3 0 0]),some (.box [.j 0,.s [],.j 0,.b true,.ref 4 0 m]),R0 (.rose VCd) [],R0 (.rose VCd) vs])=>.need (decide (0<=a/\a.toNat<=s.length/\s.length<=400/\m=vs.length/\m<=a/\ys.length=1/\ys.all An=true/\Ar ys<=n/\Ar ys<=1000000)) (.br (BD (fkB (hd0 ys)) (fun n=>A5 (hd0 ys) n 0) (fun d=>AS (hd0 ys) d 0) s (s.length-a.toNat) a.toNat).isSome (.leaf (.exit 1,([.ptr 0 0,.ptr 1 0],[some (.box [.j 0,.s [],.j 0,.b false,.ref 2 0 0]),some (.box [.j 0,.s [],.j 0,.b true,.ref 3 0 (vs++(BD (fkB (hd0 ys)) (fun n=>A5 (hd0 ys) n 0) (fun d=>AS (hd0 ys) d 0) s (s.length-a.toNat) a.toNat).getD []).length]),R0 (.rose VCd) [],R0 (.rose VCd) (vs++(BD (fkB (hd0 ys)) (fun n=>A5 (hd0 ys) n 0) (fun d=>AS (hd0 ys) d 0) s (s.length-a.toNat) a.toNat).getD [])]))) (.leaf (.ret,([.ptr 0 0,.b false],[some (.box [.j 0,.s [],.j 0,.b false,.ref 1 0 0]),R0 (.rose VCd) []]))))
 | _=>.no⟩
theorem Acp (y0:Int) (y1:By) (y2:Int) (y3:Bool) (y4:Int) (ys:RL):Aw prog (Aa []) (Aa []) f168 [.agg (Lt y0 y1 y2 y3 y4 ys)] []=some (.b (fkB (.node (y0,y1,y2,y3,y4,()) ys:Rose Lab)),[]):=by
 have e:Aw prog (Aa []) (Aa []) f168 [.agg (Lt y0 y1 y2 y3 y4 ys)] []=((ifB (y0==1) (some (V.b true,[])) (some (V.b (y0==3),[]))):_):=by kernel_rfl
 rw [e];clear e;show _=some (V.b (y0==1||y0==3),[]);cases y0==1<;>rfl
theorem sfk:Af prog 168 (Ent.rd1 MA).F:=by
 refine fcK KnowsL.nil.knows (Λ:=Aa []) func168 fun vs bs r' hq=>?_
 unfold Ent.F MA at hq;dsimp only at hq;split at hq
 ·exact ⟨Ah _,(Acp _ _ _ _ _ _ ).trans hq⟩
 ·cases hq
theorem QM (v0:Int) (v1:By) (v2:Int) (v3:Bool) (vs:RVL) (y0:Int) (y1:By) (y2:Int) (y3:Bool) (y4:Int) (ys:RL):Aw prog (Aa [(115,.rd1 A0)]) (Aa []) f170 [.agg (Lv v0 v1 v2 v3 vs),.agg (Lt y0 y1 y2 y3 y4 ys)] []=some (.b (DY v0 (.node (y0,y1,y2,y3,y4,()) ys:Rose Lab)),[]):=by
 have e:Aw prog (Aa [(115,.rd1 A0)]) (Aa []) f170 [.agg (Lv v0 v1 v2 v3 vs),.agg (Lt y0 y1 y2 y3 y4 ys)] []=((ifB (y0 != 3) (some (V.b true,[])) (some (V.b (decide (0<=v0/\v0<=y4)),[]))):_):=by kernel_rfl
 rw [e];clear e;show _=some (V.b (y0 != 3||decide (0<=v0/\v0<=y4)),[]);cases y0 != 3<;>rfl
theorem UD:Af prog 170 (Ent.rd1 Fd).F:=by
 refine fcK (kc func115 Ia KnowsL.nil).knows (Λ:=Aa []) func170 fun vs bs r' hq=>?_
 unfold Ent.F Fd at hq;dsimp only at hq;split at hq
 ·exact ⟨Ah _,(QM _ _ _ _ _ _ _ _ _ _ _ ).trans hq⟩
 ·cases hq
abbrev RS (n:Nat):FuncId->Option Ent:=Aa [(167,.rd1 VZ),(159,.rd1 byG),(168,.rd1 MA),(169,.rd1 (ptN n)),(170,.rd1 Fd),(171,.rd1 IO)]
theorem Qs (n:Nat) (y0:Int) (y1:By) (y2:Int) (y3:Bool) (y4:Int) (ys:RL) (w w2 m:Nat) (c i:Int) (fs:List WFd) (vs:RVL):At prog (RS n) (Aa [(6,rsE n)]) 0 (body f133 0) (rsE n) ([.ptr 0 0,.ptr 1 0,.ref 2 0 w,.ptr 3 0,.ref 2 0 w2,.j c,.j i],[some (.box (Lt y0 y1 y2 y3 y4 ys)),some (.box [.j 0,.s [],.j 0,.b false,.ref 4 0 0]),R0 FCd fs,some (.box [.j 0,.s [],.j 0,.b true,.ref 5 0 m]),R0 (.rose VCd) [],R0 (.rose VCd) vs]) =
 ((ifB (decide (i<c)) (ifT (decide (0<=i)&&decide (i<(↑w2:Int))) (Ak fs[0+i.toNat]? fun z=>ifB (decide (i>0)) (ifT (decide (0<=i64.wrap (i
 - 1))&&decide (i64.wrap (i-1)<(↑w:Int))) (Ak fs[0+(i64.wrap (i-1)).toNat]? fun z_1=>ifB (decide (z_1.1>=z.1)) (some
 (Ex.ret,[V.ptr 0 0,V.b false],[some (Blk.box [V.j 0,V.s (Ag UInt8),V.j 0,V.b false,V.ref 1 0 0]),R0 VCd.rose (Ag
 VCd.rose.den)])) (ifT (decide (ys.length<=maxI)) (ifB (AY z.1 ys) (ifB (!fkB (Rose.node ((byR z.1 ys).lab.1,(byR z.1 ys).lab.2.1,(byR z.1
 ys).lab.2.2.1,(byR z.1 ys).lab.2.2.2.1,(byR z.1 ys).lab.2.2.2.2.1,()) (byR z.1 ys).kids)==(z.2.1==(0:Int))) (some (Ex.ret,
 [V.ptr 0 0,V.b false],[some (Blk.box [V.j 0,V.s (Ag UInt8),V.j 0,V.b false,V.ref 1 0 0]),R0 VCd.rose (Ag VCd.rose.den)])) (ifB
 (z.2.1==(2:Int)) (ifT (decide (List.length z.2.2.2.1<=400/\fkB (Rose.node ((byR z.1 ys).lab.1,(byR z.1 ys).lab.2.1,(byR z.1
 ys).lab.2.2.1,(byR z.1 ys).lab.2.2.2.1,(byR z.1 ys).lab.2.2.2.2.1,()) (byR z.1 ys).kids)=false/\An (Rose.node ((byR z.1
 ys).lab.1,(byR z.1 ys).lab.2.1,(byR z.1 ys).lab.2.2.1,(byR z.1 ys).lab.2.2.2.1,(byR z.1 ys).lab.2.2.2.2.1,()) (byR z.1
 ys).kids)=true/\Ao (Rose.node ((byR z.1 ys).lab.1,(byR z.1 ys).lab.2.1,(byR z.1 ys).lab.2.2.1,(byR z.1 ys).lab.2.2.2.1,(byR z.1
 ys).lab.2.2.2.2.1,()) (byR z.1 ys).kids)<=n/\Ao (Rose.node ((byR z.1 ys).lab.1,(byR z.1 ys).lab.2.1,(byR z.1 ys).lab.2.2.1,(byR
 z.1 ys).lab.2.2.2.1,(byR z.1 ys).lab.2.2.2.2.1,()) (byR z.1 ys).kids)<=1000000)) (ifB (!(AS (Rose.node ((byR z.1 ys).lab.1,(byR
 z.1 ys).lab.2.1,(byR z.1 ys).lab.2.2.1,(byR z.1 ys).lab.2.2.2.1,(byR z.1 ys).lab.2.2.2.2.1,()) (byR z.1 ys).kids)
 z.2.2.2.1 (0:Int)).isSome) (some (Ex.ret,[V.ptr 0 0,V.b false],[some (Blk.box [V.j 0,V.s (Ag UInt8),V.j 0,V.b false,V.ref 1 0 0]),R0 VCd.rose (Ag VCd.rose.den)])) (ifB (!DY (B9 (Rose.node ((byR z.1 ys).lab.1,(byR z.1 ys).lab.2.1,(byR z.1 ys).lab.2.2.1,
 (byR z.1 ys).lab.2.2.2.1,(byR z.1 ys).lab.2.2.2.2.1,()) (byR z.1 ys).kids) z.2.2.2.1).lab.1 (Rose.node ((byR z.1 ys).lab.1,(byR
 z.1 ys).lab.2.1,(byR z.1 ys).lab.2.2.1,(byR z.1 ys).lab.2.2.2.1,(byR z.1 ys).lab.2.2.2.2.1,()) (byR z.1 ys).kids)) (some
 (Ex.ret,[V.ptr 0 0,V.b false],[some (Blk.box [V.j 0,V.s (Ag UInt8),V.j 0,V.b false,V.ref 1 0 0]),R0 VCd.rose (Ag
 VCd.rose.den)])) (ifT (decide ((m+1)*64<=140737488355328)&&decide (m+1<=maxI)) (some (Ex.normal,[V.ptr 0 0,V.ptr 1 0,V.ref 2
 0 w,V.ptr 3 0,V.ref 2 0 w2,V.j c,V.j (i64.wrap (i+1))],[some (Blk.box (Lt y0 y1 y2 y3 y4 ys)),
 some (Blk.box [V.j 0,V.s (Ag UInt8),V.j 0,V.b false,V.ref 4 0 0]),R0 FCd fs,some (Blk.box [V.j 0,V.s (Ag UInt8),V.i .i64
 0,V.b true,V.ref 5 0 (m+1)]),R0 VCd.rose (Ag VCd.rose.den),R0 VCd.rose (take m (drop 0 vs)
 ++ Rose.node ((B9 (Rose.node ((byR z.1 ys).lab.1,(byR z.1 ys).lab.2.1,(byR z.1 ys).lab.2.2.1,(byR z.1 ys).lab.2.2.2.1,(byR z.1
 ys).lab.2.2.2.2.1,()) (byR z.1 ys).kids) z.2.2.2.1).lab.1,(B9 (Rose.node ((byR z.1 ys).lab.1,(byR z.1 ys).lab.2.1,(byR z.1
 ys).lab.2.2.1,(byR z.1 ys).lab.2.2.2.1,(byR z.1 ys).lab.2.2.2.2.1,()) (byR z.1 ys).kids) z.2.2.2.1).lab.2.1,z.1,(B9
 (Rose.node ((byR z.1 ys).lab.1,(byR z.1 ys).lab.2.1,(byR z.1 ys).lab.2.2.1,(byR z.1 ys).lab.2.2.2.1,(byR z.1
 ys).lab.2.2.2.2.1,()) (byR z.1 ys).kids) z.2.2.2.1).lab.2.2.2.1,()) (take (B9 (Rose.node ((byR z.1 ys).lab.1,(byR z.1
 ys).lab.2.1,(byR z.1 ys).lab.2.2.1,(byR z.1 ys).lab.2.2.2.1,(byR z.1 ys).lab.2.2.2.2.1,()) (byR z.1 ys).kids)
 z.2.2.2.1).kids.length (drop 0 (B9 (Rose.node ((byR z.1 ys).lab.1,(byR z.1 ys).lab.2.1,(byR z.1 ys).lab.2.2.1,(byR z.1
 ys).lab.2.2.2.1,(byR z.1 ys).lab.2.2.2.2.1,()) (byR z.1 ys).kids) z.2.2.2.1).kids))::Ag VCd.rose.den)])))))) (ifB (!DY
 z.2.2.1 (Rose.node ((byR z.1 ys).lab.1,(byR z.1 ys).lab.2.1,(byR z.1 ys).lab.2.2.1,(byR z.1 ys).lab.2.2.2.1,(byR z.1
 ys).lab.2.2.2.2.1,()) (byR z.1 ys).kids)) (some (Ex.ret,[V.ptr 0 0,V.b false],[some (Blk.box [V.j 0,V.s (Ag UInt8),V.j 0,V.b false,V.ref 1
 0 0]),R0 VCd.rose (Ag VCd.rose.den)])) (ifT (decide ((m+1)*64<=140737488355328)&&decide (m+1<=maxI))
 (some (Ex.normal,[V.ptr 0 0,V.ptr 1 0,V.ref 2 0 w,V.ptr 3 0,V.ref 2 0 w2,V.j c,V.j (i64.wrap (i+1))],[some (Blk.box [V.j y0,V.s y1,V.i
 .i64 y2,V.b y3,V.j y4,V.sl LCd.rose ys]),some (Blk.box [V.j 0,V.s (Ag UInt8),V.j 0,V.b false,V.ref 4 0 0]),R0 FCd fs,
 some (Blk.box [V.j 0,V.s (Ag UInt8),V.j 0,V.b true,V.ref 5 0 (m+1)]),R0 VCd.rose (Ag VCd.rose.den),R0 VCd.rose (take m (drop 0 vs)++Rose.node (z.2.2.1,Ag UInt8,z.1,false,()) (Ag VCd.rose.den)::Ag VCd.rose.den)]))))))
 (some (Ex.normal,[V.ptr 0 0,V.ptr 1 0,V.ref 2 0 w,V.ptr 3 0,V.ref 2 0 w2,V.j c,V.j (i64.wrap (i+1))],[some (Blk.box [V.j y0,V.s y1,V.i
 .i64 y2,V.b y3,V.j y4,V.sl LCd.rose ys]),some (Blk.box [V.j 0,V.s (Ag UInt8),V.j 0,V.b false,V.ref 4 0 0]),R0 FCd fs,
 some (Blk.box [V.j 0,V.s (Ag UInt8),V.j 0,V.b true,V.ref 5 0 m]),R0 VCd.rose (Ag VCd.rose.den),R0 VCd.rose vs])))))) (ifT (decide (ys.length<=maxI)) (ifB (AY z.1 ys) (ifB (!fkB (Rose.node ((byR z.1 ys).lab.1,(byR z.1 ys).lab.2.1,(byR z.1
 ys).lab.2.2.1,(byR z.1 ys).lab.2.2.2.1,(byR z.1 ys).lab.2.2.2.2.1,()) (byR z.1 ys).kids)==(z.2.1==(0:Int))) (some (Ex.ret,
 [V.ptr 0 0,V.b false],[some (Blk.box [V.j 0,V.s (Ag UInt8),V.j 0,V.b false,V.ref 1 0 0]),R0 VCd.rose (Ag VCd.rose.den)])) (ifB
 (z.2.1==(2:Int)) (ifT (decide (List.length z.2.2.2.1<=400/\fkB (Rose.node ((byR z.1 ys).lab.1,(byR z.1 ys).lab.2.1,(byR z.1
 ys).lab.2.2.1,(byR z.1 ys).lab.2.2.2.1,(byR z.1 ys).lab.2.2.2.2.1,()) (byR z.1 ys).kids)=false/\An (Rose.node ((byR z.1
 ys).lab.1,(byR z.1 ys).lab.2.1,(byR z.1 ys).lab.2.2.1,(byR z.1 ys).lab.2.2.2.1,(byR z.1 ys).lab.2.2.2.2.1,()) (byR z.1
 ys).kids)=true/\Ao (Rose.node ((byR z.1 ys).lab.1,(byR z.1 ys).lab.2.1,(byR z.1 ys).lab.2.2.1,(byR z.1 ys).lab.2.2.2.1,(byR z.1
 ys).lab.2.2.2.2.1,()) (byR z.1 ys).kids)<=n/\Ao (Rose.node ((byR z.1 ys).lab.1,(byR z.1 ys).lab.2.1,(byR z.1 ys).lab.2.2.1,(byR
 z.1 ys).lab.2.2.2.1,(byR z.1 ys).lab.2.2.2.2.1,()) (byR z.1 ys).kids)<=1000000)) (ifB (!(AS (Rose.node ((byR z.1 ys).lab.1,(byR
 z.1 ys).lab.2.1,(byR z.1 ys).lab.2.2.1,(byR z.1 ys).lab.2.2.2.1,(byR z.1 ys).lab.2.2.2.2.1,()) (byR z.1 ys).kids)
 z.2.2.2.1 (0:Int)).isSome) (some (Ex.ret,[V.ptr 0 0,V.b false],[some (Blk.box [V.j 0,V.s (Ag UInt8),V.j 0,V.b false,V.ref 1 0 0]),R0 VCd.rose (Ag VCd.rose.den)])) (ifB (!DY (B9 (Rose.node ((byR z.1 ys).lab.1,(byR z.1 ys).lab.2.1,(byR z.1 ys).lab.2.2.1,
 (byR z.1 ys).lab.2.2.2.1,(byR z.1 ys).lab.2.2.2.2.1,()) (byR z.1 ys).kids) z.2.2.2.1).lab.1 (Rose.node ((byR z.1 ys).lab.1,(byR
 z.1 ys).lab.2.1,(byR z.1 ys).lab.2.2.1,(byR z.1 ys).lab.2.2.2.1,(byR z.1 ys).lab.2.2.2.2.1,()) (byR z.1 ys).kids)) (some
 (Ex.ret,[V.ptr 0 0,V.b false],[some (Blk.box [V.j 0,V.s (Ag UInt8),V.j 0,V.b false,V.ref 1 0 0]),R0 VCd.rose (Ag
 VCd.rose.den)])) (ifT (decide ((m+1)*64<=140737488355328)&&decide (m+1<=maxI)) (some (Ex.normal,[V.ptr 0 0,V.ptr 1 0,V.ref 2
 0 w,V.ptr 3 0,V.ref 2 0 w2,V.j c,V.j (i64.wrap (i+1))],[some (Blk.box (Lt y0 y1 y2 y3 y4 ys)),
 some (Blk.box [V.j 0,V.s (Ag UInt8),V.j 0,V.b false,V.ref 4 0 0]),R0 FCd fs,some (Blk.box [V.j 0,V.s (Ag UInt8),V.i .i64
 0,V.b true,V.ref 5 0 (m+1)]),R0 VCd.rose (Ag VCd.rose.den),R0 VCd.rose (take m (drop 0 vs)
 ++ Rose.node ((B9 (Rose.node ((byR z.1 ys).lab.1,(byR z.1 ys).lab.2.1,(byR z.1 ys).lab.2.2.1,(byR z.1 ys).lab.2.2.2.1,(byR z.1
 ys).lab.2.2.2.2.1,()) (byR z.1 ys).kids) z.2.2.2.1).lab.1,(B9 (Rose.node ((byR z.1 ys).lab.1,(byR z.1 ys).lab.2.1,(byR z.1
 ys).lab.2.2.1,(byR z.1 ys).lab.2.2.2.1,(byR z.1 ys).lab.2.2.2.2.1,()) (byR z.1 ys).kids) z.2.2.2.1).lab.2.1,z.1,(B9
 (Rose.node ((byR z.1 ys).lab.1,(byR z.1 ys).lab.2.1,(byR z.1 ys).lab.2.2.1,(byR z.1 ys).lab.2.2.2.1,(byR z.1
 ys).lab.2.2.2.2.1,()) (byR z.1 ys).kids) z.2.2.2.1).lab.2.2.2.1,()) (take (B9 (Rose.node ((byR z.1 ys).lab.1,(byR z.1
 ys).lab.2.1,(byR z.1 ys).lab.2.2.1,(byR z.1 ys).lab.2.2.2.1,(byR z.1 ys).lab.2.2.2.2.1,()) (byR z.1 ys).kids)
 z.2.2.2.1).kids.length (drop 0 (B9 (Rose.node ((byR z.1 ys).lab.1,(byR z.1 ys).lab.2.1,(byR z.1 ys).lab.2.2.1,(byR z.1
 ys).lab.2.2.2.1,(byR z.1 ys).lab.2.2.2.2.1,()) (byR z.1 ys).kids) z.2.2.2.1).kids))::Ag VCd.rose.den)])))))) (ifB (!DY
 z.2.2.1 (Rose.node ((byR z.1 ys).lab.1,(byR z.1 ys).lab.2.1,(byR z.1 ys).lab.2.2.1,(byR z.1 ys).lab.2.2.2.1,(byR z.1
 ys).lab.2.2.2.2.1,()) (byR z.1 ys).kids)) (some (Ex.ret,[V.ptr 0 0,V.b false],[some (Blk.box [V.j 0,V.s (Ag UInt8),V.j 0,V.b false,V.ref 1
 0 0]),R0 VCd.rose (Ag VCd.rose.den)])) (ifT (decide ((m+1)*64<=140737488355328)&&decide (m+1<=maxI))
 (some (Ex.normal,[V.ptr 0 0,V.ptr 1 0,V.ref 2 0 w,V.ptr 3 0,V.ref 2 0 w2,V.j c,V.j (i64.wrap (i+1))],[some (Blk.box [V.j y0,V.s y1,V.i
 .i64 y2,V.b y3,V.j y4,V.sl LCd.rose ys]),some (Blk.box [V.j 0,V.s (Ag UInt8),V.j 0,V.b false,V.ref 4 0 0]),R0 FCd fs,
 some (Blk.box [V.j 0,V.s (Ag UInt8),V.j 0,V.b true,V.ref 5 0 (m+1)]),R0 VCd.rose (Ag VCd.rose.den),R0 VCd.rose (take m (drop 0 vs)++Rose.node (z.2.2.1,Ag UInt8,z.1,false,()) (Ag VCd.rose.den)::Ag VCd.rose.den)]))))))
 (some (Ex.normal,[V.ptr 0 0,V.ptr 1 0,V.ref 2 0 w,V.ptr 3 0,V.ref 2 0 w2,V.j c,V.j (i64.wrap (i+1))],[some (Blk.box [V.j y0,V.s y1,V.i
 .i64 y2,V.b y3,V.j y4,V.sl LCd.rose ys]),some (Blk.box [V.j 0,V.s (Ag UInt8),V.j 0,V.b false,V.ref 4 0 0]),R0 FCd fs,
 some (Blk.box [V.j 0,V.s (Ag UInt8),V.j 0,V.b true,V.ref 5 0 m]),R0 VCd.rose (Ag VCd.rose.den),R0 VCd.rose vs])))))) (some (Ex.exit 0,[V.ptr 0 0,V.ptr 1 0,V.ptr 2 0],[some (Blk.box (Lt y0 y1 y2 y3 y4 ys)),some
 (Blk.box [V.j 0,V.s (Ag UInt8),V.j 0,V.b false,V.ref 3 0 0]),some (Blk.box [V.j 0,V.s (Ag UInt8),V.j 0,V.b true,V.ref 4 0 m]),R0 VCd.rose (Ag VCd.rose.den),R0 VCd.rose vs]))):_):=by kernel_rfl
theorem Acw (n:Nat) (s:By) (y0:Int) (y1:By) (y2:Int) (y3:Bool) (y4:Int) (ys:RL):BI prog (RS n) (Aa [(6,rsE n)]) f133 [.s s,.agg (Lt y0 y1 y2 y3 y4 ys)] [] =
 ((ifT (decide (s.length<=4000000000)) (ifB (!(CA s).isSome) (some (V.tup [V.agg [V.j 0,V.s (Ag UInt8),V.j 0,V.b false,V.ref 0 0 0],V.b false],
 [R0 VCd.rose (Ag VCd.rose.den)])) (ifT (decide (((CA s).getD (Ag WFd)).length=((CA s).getD (Ag WFd)).length/\((CA s).getD (Ag
 WFd)).length=((CA s).getD (Ag WFd)).length/\(↑((CA s).getD (Ag WFd)).length:Int)=(↑((CA s).getD (Ag WFd)).length:Int)/\(0:Int)<=(0:Int)/\(0 :
 Nat)<=((CA s).getD (Ag WFd)).length/\((CA s).getD (Ag WFd)).length<=40/\0=0/\(↑(0:Nat):Int)<=(0:Int)/\(((CA s).getD (Ag
 WFd)).all fun x=>AU x)=true/\mxD ((CA s).getD (Ag WFd))<=400/\AL (5:Int) ys=true/\Ar ys<=n/\Ar ys<=1000000)) (ifB (E4
 ((CA s).getD (Ag WFd)) 0&&(Bq ys (drop 0 ((CA s).getD (Ag WFd)))).isSome) (ifT (decide (ys.length<=maxI/\(take (Ag VCd.rose.den
 ++ (Bq ys (drop 0 ((CA s).getD (Ag WFd)))).getD (Ag (Rose AG))).length (drop 0 (Ag VCd.rose.den++(Bq ys (drop 0
 ((CA s).getD (Ag WFd)))).getD (Ag (Rose AG))))).length<=maxI)) (some (V.tup [V.agg [V.j 0,V.s (Ag UInt8),V.j 0,V.b true,V.ref 0 0 (Ag
 VCd.rose.den++(Bq ys (drop 0 ((CA s).getD (Ag WFd)))).getD (Ag (Rose AG))).length],V.b (Bv (take (Ag VCd.rose.den++(Bq ys
 (drop 0 ((CA s).getD (Ag WFd)))).getD (Ag (Rose AG))).length (drop 0 (Ag VCd.rose.den++(Bq ys (drop 0 ((CA s).getD
 (Ag WFd)))).getD (Ag (Rose AG))))) ys)],[R0 VCd.rose (Ag VCd.rose.den++(Bq ys (drop 0 ((CA s).getD (Ag WFd)))).getD
 (Ag (Rose AG)))]))) (some (V.tup [V.agg [V.j 0,V.s (Ag UInt8),V.j 0,V.b false,V.ref 0 0 0],V.b false],[R0 VCd.rose (Ag
 VCd.rose.den)])))))):_):=by kernel_rfl
theorem Lz (n k:Nat) (s:By) (y0:Int) (y1:By) (y2:Int) (y3:Bool) (y4:Int) (ys:RL) (m:Nat) (a:Int) (vs:RVL):At prog (Aa [(133,.rd1 (rsN k)),(201,.rd1 Sd),(202,.rd1 JX),(168,.rd1 MA),(169,.rd1 (ptN n)),(196,.rd1 EZ),(170,.rd1 Fd)]) (Aa [(8,ptE n)]) 0 (body f169 0) (ptE n) ([.s s,.ptr 0 0,.ptr 1 0,.ptr 2 0,.j a],[some (.box (Lt y0 y1 y2 y3 y4 ys)),some (.box [.j 0,.s [],.j 0,.b false,.ref 3 0 0]),some (.box [.j 0,.s [],.j 0,.b true,.ref 4 0 m]),R0 (.rose VCd) [],R0 (.rose VCd) vs]) =
 ((ifB (decide (a<(↑s.length:Int))) (ifT (decide (0<=a/\s.length<=4000000000/\a<=4000000000)) (ifB (!BO (Aj s a.toNat)) (some (Ex.ret,[V.ptr 0 0,V.b
 false],[some (Blk.box [V.j 0,V.s (Ag UInt8),V.j 0,V.b false,V.ref 1 0 0]),R0 VCd.rose (Ag VCd.rose.den)])) (ifT (decide ((0 :
 Int)<=BZ (Aj s a.toNat)/\BZ (Aj s a.toNat)<=(1000000000000:Int))) (ifT (decide ((0:Int)<=(0:Int))&&decide (0<(↑ys.length:Int))) (Ak ys[(0 :
 Nat)]? fun z=>ifB (!fkB (Rose.node ((Rose.lab z).1,(Rose.lab z).2.1,(Rose.lab z).2.2.1,(Rose.lab z).2.2.2.1,(Rose.lab z).2.2.2.2.1,
 ()) (Rose.kids z))) (ifB (decide (BZ (Aj s a.toNat)>i64.wrap ((↑s.length:Int)-AV a.toNat (Aj s a.toNat)))) (some (Ex.ret,[V.ptr 0 0,V.b false],
 [some (Blk.box [V.j 0,V.s (Ag UInt8),V.j 0,V.b false,V.ref 1 0 0]),R0 VCd.rose (Ag VCd.rose.den)])) (ifT (decide ((0:Int)<=
 AV a.toNat (Aj s a.toNat))&&decide (AV a.toNat (Aj s a.toNat)<=i64.wrap (AV a.toNat (Aj s a.toNat)+BZ (Aj s a.toNat)))&&decide
 (i64.wrap (AV a.toNat (Aj s a.toNat)+BZ (Aj s a.toNat))<=(↑s.length:Int))) (ifT (decide ((0:Int)<=(0:Int))&&decide (0<(↑ys.length:Int)))
 (Ak ys[0]? fun z=>ifT (decide ((take ((i64.wrap (AV a.toNat (Aj s a.toNat)+BZ (Aj s a.toNat))).toNat-(AV a.toNat (Aj s
 a.toNat)).toNat) (drop (AV a.toNat (Aj s a.toNat)).toNat s)).length<=400/\fkB (Rose.node ((Rose.lab z).1,(Rose.lab z).2.1,(Rose.lab
 z).2.2.1,(Rose.lab z).2.2.2.1,(Rose.lab z).2.2.2.2.1,()) (Rose.kids z))=false/\An (Rose.node ((Rose.lab z).1,(Rose.lab z).2.1,
 (Rose.lab z).2.2.1,(Rose.lab z).2.2.2.1,(Rose.lab z).2.2.2.2.1,()) (Rose.kids z))=true/\Ao (Rose.node ((Rose.lab z).1,(Rose.lab
 z).2.1,(Rose.lab z).2.2.1,(Rose.lab z).2.2.2.1,(Rose.lab z).2.2.2.2.1,()) (Rose.kids z))<=n/\Ao (Rose.node ((Rose.lab z).1,
 (Rose.lab z).2.1,(Rose.lab z).2.2.1,(Rose.lab z).2.2.2.1,(Rose.lab z).2.2.2.2.1,()) (Rose.kids z))<=1000000)) (ifB (!(AS
 (Rose.node ((Rose.lab z).1,(Rose.lab z).2.1,(Rose.lab z).2.2.1,(Rose.lab z).2.2.2.1,(Rose.lab z).2.2.2.2.1,()) (Rose.kids z))
 (take ((i64.wrap (AV a.toNat (Aj s a.toNat)+BZ (Aj s a.toNat))).toNat-(AV a.toNat (Aj s a.toNat)).toNat) (drop (AV a.toNat (Aj s
 a.toNat)).toNat s)) (0:Int)).isSome) (some (Ex.ret,[V.ptr 0 0,V.b false],[some (Blk.box [V.j 0,V.s (Ag UInt8),V.j 0,V.b false,V.ref 1 0 0]),R0 VCd.rose (Ag VCd.rose.den)])) (ifT (decide ((0:Int)<=(0:Int))&&decide (0<(↑ys.length:Int))) (Ak ys[0]? fun z_1=>ifB
 (!DY (B9 (Rose.node ((Rose.lab z).1,(Rose.lab z).2.1,(Rose.lab z).2.2.1,(Rose.lab z).2.2.2.1,(Rose.lab z).2.2.2.2.1,())
 (Rose.kids z)) (take ((i64.wrap (AV a.toNat (Aj s a.toNat)+BZ (Aj s a.toNat))).toNat-(AV a.toNat (Aj s a.toNat)).toNat) (drop (AV
 a.toNat (Aj s a.toNat)).toNat s))).lab.1 (Rose.node ((Rose.lab z_1).1,(Rose.lab z_1).2.1,(Rose.lab z_1).2.2.1,(Rose.lab z_1).2.2.2.1,(Rose.lab
 z_1).2.2.2.2.1,()) (Rose.kids z_1))) (some (Ex.ret,[V.ptr 0 0,V.b false],[some (Blk.box [V.j 0,V.s (Ag UInt8),V.j 0,V.b false,V.ref 1 0 0]),
 R0 VCd.rose (Ag VCd.rose.den)])) (ifT (decide ((m+1)*64<=140737488355328)&&decide (m+1<=maxI)) (some
 (Ex.normal,[V.s s,V.ptr 0 0,V.ptr 1 0,V.ptr 2 0,V.j (i64.wrap (AV a.toNat (Aj s a.toNat)+BZ (Aj s a.toNat)))],[some (Blk.box (Lt y0 y1 y2 y3 y4 ys)),some (Blk.box [V.j 0,V.s (Ag UInt8),V.j 0,V.b false,V.ref 3 0 0]),some (Blk.box [V.i .i64
 0,V.s (Ag UInt8),V.j 0,V.b true,V.ref 4 0 (m+1)]),R0 VCd.rose (Ag VCd.rose.den),R0 VCd.rose
 (take m (drop 0 vs)++Rose.node ((B9 (Rose.node ((Rose.lab z).1,(Rose.lab z).2.1,(Rose.lab z).2.2.1,(Rose.lab z).2.2.2.1,
 (Rose.lab z).2.2.2.2.1,()) (Rose.kids z)) (take ((i64.wrap (AV a.toNat (Aj s a.toNat)+BZ (Aj s a.toNat))).toNat-(AV a.toNat (Aj s
 a.toNat)).toNat) (drop (AV a.toNat (Aj s a.toNat)).toNat s))).lab.1,(B9 (Rose.node ((Rose.lab z).1,(Rose.lab z).2.1,(Rose.lab z).2.2.1,
 (Rose.lab z).2.2.2.1,(Rose.lab z).2.2.2.2.1,()) (Rose.kids z)) (take ((i64.wrap (AV a.toNat (Aj s a.toNat)+BZ (Aj s
 a.toNat))).toNat-(AV a.toNat (Aj s a.toNat)).toNat) (drop (AV a.toNat (Aj s a.toNat)).toNat s))).lab.2.1,(B9 (Rose.node ((Rose.lab z).1,
 (Rose.lab z).2.1,(Rose.lab z).2.2.1,(Rose.lab z).2.2.2.1,(Rose.lab z).2.2.2.2.1,()) (Rose.kids z)) (take ((i64.wrap (AV
 a.toNat (Aj s a.toNat)+BZ (Aj s a.toNat))).toNat-(AV a.toNat (Aj s a.toNat)).toNat) (drop (AV a.toNat (Aj s a.toNat)).toNat s))).lab.2.2.1,
 (B9 (Rose.node ((Rose.lab z).1,(Rose.lab z).2.1,(Rose.lab z).2.2.1,(Rose.lab z).2.2.2.1,(Rose.lab z).2.2.2.2.1,()) (Rose.kids z))
 (take ((i64.wrap (AV a.toNat (Aj s a.toNat)+BZ (Aj s a.toNat))).toNat-(AV a.toNat (Aj s a.toNat)).toNat) (drop (AV a.toNat (Aj s
 a.toNat)).toNat s))).lab.2.2.2.1,()) (take (B9 (Rose.node ((Rose.lab z).1,(Rose.lab z).2.1,(Rose.lab z).2.2.1,(Rose.lab
 z).2.2.2.1,(Rose.lab z).2.2.2.2.1,()) (Rose.kids z)) (take ((i64.wrap (AV a.toNat (Aj s a.toNat)+BZ (Aj s a.toNat))).toNat -
 (AV a.toNat (Aj s a.toNat)).toNat) (drop (AV a.toNat (Aj s a.toNat)).toNat s))).kids.length (drop 0 (B9 (Rose.node ((Rose.lab z).1,
 (Rose.lab z).2.1,(Rose.lab z).2.2.1,(Rose.lab z).2.2.2.1,(Rose.lab z).2.2.2.2.1,()) (Rose.kids z)) (take ((i64.wrap (AV
 a.toNat (Aj s a.toNat)+BZ (Aj s a.toNat))).toNat-(AV a.toNat (Aj s a.toNat)).toNat) (drop (AV a.toNat (Aj s a.toNat)).toNat s))).kids))::Ag
 VCd.rose.den)])))))))))) (ifB (!Cm (unf (BZ (Aj s a.toNat)))) (some (Ex.ret,[V.ptr 0 0,V.b false],[some (Blk.box [V.j 0,V.s (Ag UInt8),V.j 0,V.b
 false,V.ref 1 0 0]),R0 VCd.rose (Ag VCd.rose.den)])) (ifT (decide ((0:Int)<=(0:Int))&&decide (0<(↑ys.length:Int))) (Ak ys[(0 :
 Nat)]? fun z=>ifB (!DY (unf (BZ (Aj s a.toNat))) (Rose.node ((Rose.lab z).1,(Rose.lab z).2.1,(Rose.lab z).2.2.1,(Rose.lab z).2.2.2.1,
 (Rose.lab z).2.2.2.2.1,()) (Rose.kids z))) (some (Ex.ret,[V.ptr 0 0,V.b false],[some (Blk.box [V.j 0,V.s (Ag UInt8),V.j 0,V.b false,V.ref 1
 0 0]),R0 VCd.rose (Ag VCd.rose.den)])) (ifT (decide ((m+1)*64<=140737488355328)&&decide (m+1<=maxI))
 (some (Ex.normal,[V.s s,V.ptr 0 0,V.ptr 1 0,V.ptr 2 0,V.j (AV a.toNat (Aj s a.toNat))],[some (Blk.box (Lt y0 y1 y2 y3 y4 ys)),some (Blk.box [V.j 0,V.s (Ag UInt8),V.j 0,V.b false,V.ref 3 0 0]),some (Blk.box [V.j 0,V.s (Ag UInt8),V.j 0,V.b
 true,V.ref 4 0 (m+1)]),R0 VCd.rose (Ag VCd.rose.den),R0 VCd.rose (take m (drop 0 vs)++
 Rose.node (unf (BZ (Aj s a.toNat)),Ag UInt8,(0:Int),false,()) (Ag VCd.rose.den)::Ag VCd.rose.den)]))))))))))) (some (Ex.exit 1,[V.ptr 0 0,V.ptr 1 0],
 [some (Blk.box [V.j 0,V.s (Ag UInt8),V.j 0,V.b false,V.ref 2 0 0]),some (Blk.box [V.j 0,V.s (Ag UInt8),V.j 0,V.b true,V.ref 3 0 m]),R0 VCd.rose (Ag VCd.rose.den),R0 VCd.rose vs]))):_):=by kernel_rfl
theorem Ac5 (n k:Nat) (s:By) (y0:Int) (y1:By) (y2:Int) (y3:Bool) (y4:Int) (ys:RL):BI prog (Aa [(133,.rd1 (rsN k)),(201,.rd1 Sd),(202,.rd1 JX),(168,.rd1 MA),(169,.rd1 (ptN n)),(196,.rd1 EZ),(170,.rd1 Fd)]) (Aa [(8,ptE n)]) f169 [.s s,.agg (Lt y0 y1 y2 y3 y4 ys)] [] =
 ((ifB (y0==2) (some (V.tup [V.agg [V.j 0,V.s s,V.j 0,V.b false,V.ref 0 0 0],V.b (decide ((↑s.length:Int)<=(30:Int)))],[R0 VCd.rose (Ag VCd.rose.den)])) (ifB (y0==5) (ifT (decide (s.length<=400/\y0=5/\An (Rose.node (y0,y1,y2,y3,y4,()) ys)=true/\Ao (Rose.node
 (y0,y1,y2,y3,y4,()) ys)<=k/\Ao (Rose.node (y0,y1,y2,y3,y4,()) ys)<=1000000)) (some (V.tup [V.agg [V.j (Bf (Rose.node (y0,y1,y2,y3,y4,
 ()) ys) s).lab.1,V.s (Bf (Rose.node (y0,y1,y2,y3,y4,()) ys) s).lab.2.1,V.j (Bf (Rose.node (y0,y1,y2,y3,y4,()) ys) s).lab.2.2.1,V.b
 (Bf (Rose.node (y0,y1,y2,y3,y4,()) ys) s).lab.2.2.2.1,V.ref 0 0 (Bf (Rose.node (y0,y1,y2,y3,y4,()) ys) s).kids.length],V.b (AS (Rose.node (y0,
 y1,y2,y3,y4,()) ys) s (0:Int)).isSome],[R0 VCd.rose (Bf (Rose.node (y0,y1,y2,y3,y4,()) ys) s).kids]))) (ifT (decide ((0:Int)<=(0
 : Int)/\0<=s.length/\s.length<=400/\0=0/\(↑(0:Nat):Int)<=(0:Int)/\ys.length=1/\ys.all An=true/\Ar ys<=
 n/\Ar ys<=1000000)) (ifB (BD (fkB (hd0 ys)) (fun n=>A5 (hd0 ys) n (0:Int)) (fun d=>AS (hd0 ys) d (0:Int)) s (s.length-0) (0 :
 Nat)).isSome (some (V.tup [V.agg [V.j 0,V.s (Ag UInt8),V.j 0,V.b true,V.ref 0 0 (Ag VCd.rose.den++(BD (fkB (hd0 ys)) (fun n=>A5 (hd0 ys) n (0
 : Int)) (fun d=>AS (hd0 ys) d (0:Int)) s (s.length-0) 0).getD (Ag (Rose AG))).length],V.b true],[R0 VCd.rose (Ag
 VCd.rose.den++(BD (fkB (hd0 ys)) (fun n=>A5 (hd0 ys) n (0:Int)) (fun d=>AS (hd0 ys) d (0:Int)) s (s.length-0) 0).getD (Ag (Rose
 AG)))])) (some (V.tup [V.agg [V.j 0,V.s (Ag UInt8),V.j 0,V.b false,V.ref 0 0 0],V.b false],[R0 VCd.rose (Ag
 VCd.rose.den)])))))):_):=by kernel_rfl
def F3 (ys:RL) (u:Rose AG):WFd:=if fkB (byR u.lab.2.2.1 ys)=true then (u.lab.2.2.1,0,u.lab.1,[],()) else (u.lab.2.2.1,2,0,AD u (byR u.lab.2.2.1 ys),())
def chM (ys:RL) (u:Rose AG):Bool:=AY u.lab.2.2.1 ys&&sfR u (byR u.lab.2.2.1 ys)
def Wq (n:Nat):Gm
 | [.agg (Lv x0 x1 x2 x3 xs),.agg (Lt y0 y1 y2 y3 y4 ys)],[]=>.need (decide (Ar ys+1<=n/\Ar ys+1<=1000000/\An (.node (y0,y1,y2,y3,y4,()) ys:Rose Lab)=true/\fkB (.node (y0,y1,y2,y3,y4,()) ys:Rose Lab)=false/\vcL xs<=1000/\sfR (.node (x0,x1,x2,x3,()) xs:Rose AG) (.node (y0,y1,y2,y3,y4,()) ys:Rose Lab)=true)) (.leaf (.s (AD (.node (x0,x1,x2,x3,()) xs:Rose AG) (.node (y0,y1,y2,y3,y4,()) ys:Rose Lab)),[]))
 | _,_=>.no
def Ahz:Gm
 | [.agg (Lv x0 x1 x2 x3 xs),.agg (Lt y0 y1 y2 y3 y4 ys)],[]=>.need (decide (Ar ys+1<=1000000/\An (.node (y0,y1,y2,y3,y4,()) ys:Rose Lab)=true/\fkB (.node (y0,y1,y2,y3,y4,()) ys:Rose Lab)=false/\vcL xs<=1000/\sfR (.node (x0,x1,x2,x3,()) xs:Rose AG) (.node (y0,y1,y2,y3,y4,()) ys:Rose Lab)=true)) (.leaf (.s (AD (.node (x0,x1,x2,x3,()) xs:Rose AG) (.node (y0,y1,y2,y3,y4,()) ys:Rose Lab)),[]))
 | _,_=>.no
def HT (n:Nat):LoopEnt:=⟨91,[3,5,23,24,25],[5],[],fun
 | ([.ptr 0 0,.s s,.sl (.rose VCd) us,.j k,.j i],[some (.box (Lt y0 y1 y2 y3 y4 ys))])=>.need (decide (0<=i/\i.toNat<=us.length/\k=us.length/\Ar ys<=n/\Ar ys<=1000000/\ys.length=1/\AL y0 ys=true/\vcL us<=1000/\s.length<=100000*i.toNat/\sfL (hd0 ys) us=true)) (.leaf (.exit 1,([.s (s++Iu (hd0 ys) (us.drop i.toNat))],[])))
 | _=>.no⟩
def HS (n:Nat):LoopEnt:=⟨91,[3,9,56,57,58],[9],[],fun
 | ([.ptr 0 0,.ref 1 0 m,.sl (.rose VCd) us,.j k,.j i],[some (.box (Lt y0 y1 y2 y3 y4 ys)),R0 FCd o])=>.need (decide (0<=i/\i.toNat<=us.length/\k=us.length/\m=o.length/\Ar ys<=n/\Ar ys<=1000000/\AL 5 ys=true/\vcL us<=1000/\o.length<=i.toNat/\us.all (chM ys)=true)) (.leaf (.exit 3,([.ref 0 0 (o++(us.drop i.toNat).map (F3 ys)).length],[R0 FCd (o++(us.drop i.toNat).map (F3 ys))])))
 | _=>.no⟩
theorem Aav {x:AG} {vs:RVL} {z:Rose Lab} (h:z.lab.1=2):AD (.node x vs) z=x.2.1:=by rw [AD,if_pos h]
theorem Aaw {x:AG} {vs:RVL} {z:Rose Lab} (h:z.lab.1=4):AD (.node x vs) z=Iu (hd0 z.kids) vs:=by
 obtain ⟨h2,hf⟩:=T9 (.inl h);rw [AD,if_neg h2,if_neg hf,if_neg (by omega)]
theorem Aex {x:AG} {vs:RVL} {z:Rose Lab} (h:z.lab.1=5):AD (.node x vs) z=Kh z.kids vs:=by
 obtain ⟨h2,hf⟩:=T9 (.inr h);rw [AD,if_neg h2,if_neg hf,if_pos h]
theorem Us {u:Rose AG} {t:Rose Lab} (hr:An t=true) (hf:fkB t=true) (h:sfR u t=true) : -1000000000<=u.lab.1/\u.lab.1<=1000000000:=by
 obtain ⟨x,vs⟩:=u;exact Y1 hr hf h
theorem Aew {u:Rose AG} {t:Rose Lab} (hf:fkB t=true):AD u t=vbs (fol u.lab.1).toNat:=by
 obtain ⟨x,vs⟩:=u;have h2:t.lab.1≠2:=fun h=>by unfold fkB at hf; rw [h] at hf; cases hf
 rw [AD,if_neg h2,if_pos hf]; rfl
theorem UM {u:Rose AG} {t:Rose Lab} (hf:fkB t=true):itm t (AD u t)=vbs (fol u.lab.1).toNat:=by unfold itm; rw [if_pos hf,Aew hf]
theorem UN {u:Rose AG} {t:Rose Lab} (hf:fkB t=false):itm t (AD u t)=vbs (AD u t).length++AD u t:=by unfold itm; rw [hf]; rfl
theorem Wg {ks:RL} {y:Rose Lab} (hr:AL 5 ks=true) (hy:y∈ks):1<=y.lab.2.2.1/\y.lab.2.2.1<=30:=by
 have:=(B4 hr y hy).1;unfold Dw at this;rw [if_pos rfl] at this;simp only [anE,dcE] at this;exact this.2
theorem Aac {ys:RL} {u:Rose AG} (hr:AL 5 ys=true) (hv:vcR u<=1000) (hc:chM ys u=true):EA (F3 ys u)=true/\fb1 (F3 ys u)=vbs (8*u.lab.2.2.1+(if fkB (byR u.lab.2.2.1 ys)=true then 0 else 2)).toNat++itm (byR u.lab.2.2.1 ys) (AD u (byR u.lab.2.2.1 ys)):=by
 unfold chM at hc;rw [anE] at hc;obtain ⟨h1,h2⟩:=hc;have hb:=Fs h1;have hn:=Wg hr hb;rw [TX h1] at hn;have hry:=Di hr hb;have hL:=EE u _ hry h2;unfold F3;generalize byR u.lab.2.2.1 ys=y at *
 by_cases hf:fkB y=true
 ·have hnum:=Us hry hf h2;rw [if_pos hf,if_pos hf];constructor
  ·unfold EA AU Cm;simp; omega
  ·unfold fb1;rw [UM hf]; rfl
 ·have hf':fkB y=false:=by simpa using hf
  rw [if_neg hf,if_neg hf];constructor
  ·unfold EA AU;simp; omega
  ·unfold fb1;rw [UN hf']; rfl
theorem UT {ys:RL} (hr:AL 5 ys=true) : ∀ us:RVL,vcL us<=1000->us.all (chM ys)=true->(us.map (F3 ys)).all EA=true/\fbs (us.map (F3 ys))=Kh ys us
 | [],_,_=>⟨rfl,by rw [Kh]; rfl⟩
 | u::us,hv,hc=>by
  rw [vcL] at hv;rw [all_cons,anE] at hc;obtain ⟨a1,a2⟩:=Aac hr (by omega) hc.1;obtain ⟨b1,b2⟩:=UT hr us (by omega) hc.2;rw [map_cons,all_cons,a1,b1,Rr,a2,b2,Kh];exact ⟨rfl,rfl⟩
theorem Ale {vs:RVL} {ks:RL} {zk:RVL} {i:Nat} (h:sfM ks zk i vs=true):vs.all (chM ks)=true:=by
 rw [all_eq_true];intro v hv;unfold chM;rw [anE];exact OQ h v hv
abbrev RR (n:Nat):FuncId->Option Ent:=Aa [(174,.rd1 (Wq n)),(168,.rd1 MA),(208,.rd1 T5),(207,.rd1 Abs),(159,.rd1 byG),(209,.rd1 Aix)]
theorem NJ (n:Nat) (y0:Int) (y1:By) (y2:Int) (y3:Bool) (y4:Int) (ys:RL) (s:By) (us:RVL) (k i:Int):At prog (RR n) (Aa [(7,HT n),(17,HS n)]) 0 (body f174 0) (HT n) ([.ptr 0 0,.s s,.sl (.rose VCd) us,.j k,.j i],[some (.box (Lt y0 y1 y2 y3 y4 ys))]) =
 ((ifB (decide (i<k)) (ifT (decide (0<=i)&&decide (i<(↑us.length:Int))) (Ak us[i.toNat]? fun z=>ifT (decide ((0:Int)<=(0:Int))&&decide (0<(↑ys.length
 : Int))) (Ak ys[0]? fun z_1=>shr (Rose.lab z_1).2 fun sh2=>shr (Rose.lab z) fun sh1=>ifB (fkB (Rose.node ((Rose.lab z_1).1,sh2.1,sh2.2.1,
 sh2.2.2.1,sh2.2.2.2.1,()) (Rose.kids z_1))) (ifT (decide ((-1000000000000:Int)<=sh1.1/\sh1.1<=(1000000000000:Int))) (ifT (decide ((0:Int)<=
 fol sh1.1/\fol sh1.1<=(1000000000000:Int))) (ifT (decide (s.length+(vbs (fol sh1.1).toNat).length<=9223372036854775807)) (some (Ex.normal,[V.ptr 0
 0,V.s (s++vbs (fol sh1.1).toNat),V.sl VCd.rose us,V.j k,V.j (i64.wrap (i+1))],[some (Blk.box [V.j y0,V.s y1,V.j y2,V.b y3,V.i
 .i64 y4,V.sl LCd.rose ys])]))))) (ifT (decide ((0:Int)<=(0:Int))&&decide (0<(↑ys.length:Int))) (Ak ys[0]? fun z_2=>shr sh1.2 fun sh6=>shr
 (Rose.kids z) fun sh5=>shr (Rose.lab z_2).2 fun sh4=>shr (Rose.kids z_2) fun sh3=>shr (Rose.node (sh1.1,sh6.1,sh6.2.1,sh6.2.2.1,()) sh5) fun sh2
 => shr (Rose.node ((Rose.lab z_2).1,sh4.1,sh4.2.1,sh4.2.2.1,sh4.2.2.2.1,()) sh3) fun sh1=>ifT (decide (Ar sh3+1<=n/\Ar sh3 +
 1<=1000000/\An sh1=true/\fkB sh1=false/\vcL sh5<=1000/\sfR sh2 sh1=true)) (ifT (decide (0<=(↑(AD sh2 sh1).length:Int)/\
 (↑(AD sh2 sh1).length:Int)<=(1000000000000:Int))) (ifT (decide ((vbs (↑(AD sh2 sh1).length:Int).toNat).length+(AD sh2 sh1).length<=(9223372036854775807 :
 Nat))) (ifT (decide (s.length+(vbs (↑(AD sh2 sh1).length:Int).toNat++AD sh2 sh1).length<=9223372036854775807)) (some (Ex.normal,[V.ptr 0 0,V.s (s++
 (vbs (↑(AD sh2 sh1).length:Int).toNat++AD sh2 sh1)),V.sl VCd.rose us,V.j k,V.j (i64.wrap (i+1))],[some (Blk.box [V.j y0,V.s y1,V.i
 .i64 y2,V.b y3,V.j y4,V.sl LCd.rose ys])])))))))))) (some (Ex.exit 1,[V.s s],[]))):_):=by kernel_rfl
theorem NI (n:Nat) (y0:Int) (y1:By) (y2:Int) (y3:Bool) (y4:Int) (ys:RL) (m:Nat) (us:RVL) (k i:Int) (o:List WFd):At prog (RR n) (Aa [(7,HT n),(17,HS n)]) 0 (body f174 1) (HS n) ([.ptr 0 0,.ref 1 0 m,.sl (.rose VCd) us,.j k,.j i],[some (.box (Lt y0 y1 y2 y3 y4 ys)),R0 FCd o]) =
 ((ifB (decide (i<k)) (ifT (decide (0<=i)&&decide (i<(↑us.length:Int))) (Ak us[i.toNat]? fun z=>shr (Rose.lab z) fun sh7=>shr (take m (drop (0 :
 Nat) o)) fun sh6=>shr (Rose.kids z) fun sh5=>shr sh7.2.2 fun sh4=>shr (Rose.node ((0:Int),Ag UInt8,(0:Int),false,(0:Int),()) (Ag LCd.rose.den))
 fun sh3=>shr (Rose.node (sh7.1,sh7.2.1,sh4.1,sh4.2.1,()) sh5) fun sh2=>shr (Rose.node ((byR sh4.1 ys).lab.1,(byR sh4.1 ys).lab.2.1,(byR
 sh4.1 ys).lab.2.2.1,(byR sh4.1 ys).lab.2.2.2.1,(byR sh4.1 ys).lab.2.2.2.2.1,()) (byR sh4.1 ys).kids) fun sh1=>ifT (decide (ys.length
 <= maxI)) (ifB (AY sh4.1 ys) (ifB (fkB sh1) (ifT (decide ((m+1)*40<=140737488355328)&&decide (m+1<=maxI)) (some (Ex.normal,
 [V.ptr 0 0,V.ref 1 0 (m+1),V.sl VCd.rose us,V.j k,V.j (i64.wrap (i+1))],[some (Blk.box [V.j y0,V.s y1,V.j y2,V.b y3,V.i
 .i64 y4,V.sl LCd.rose ys]),R0 FCd (sh6++(sh4.1,(0:Int),sh7.1,Ag UInt8,())::Ag FCd.den)]))) (ifT (decide (Ar (byR sh4.1
 ys).kids+1<=n/\Ar (byR sh4.1 ys).kids+1<=1000000/\An sh1=true/\fkB sh1=false/\vcL sh5<=1000/\sfR sh2 sh1=true))
 (ifT (decide ((m+1)*40<=140737488355328)&&decide (m+1<=maxI)) (some (Ex.normal,[V.ptr 0 0,V.ref 1 0 (m+1),V.sl
 VCd.rose us,V.j k,V.j (i64.wrap (i+1))],[some (Blk.box (Lt y0 y1 y2 y3 y4 ys)),R0 FCd (sh6++(sh4.1,(2:Int),(0:Int),AD sh2 sh1,())::Ag FCd.den)]))))) (ifT (decide (1<=n/\1<=1000000/\An sh3 =
 true/\fkB sh3=false/\vcL sh5<=1000/\sfR sh2 sh3=true)) (ifT (decide ((m+1)*40<=140737488355328)&&decide (m+1<=
 maxI)) (some (Ex.normal,[V.ptr 0 0,V.ref 1 0 (m+1),V.sl VCd.rose us,V.j k,V.j (i64.wrap (i+1))],[some (Blk.box (Lt y0 y1 y2 y3 y4 ys)),R0 FCd (sh6++(sh4.1,(2:Int),(0:Int),AD sh2 sh3,())::Ag FCd.den)])))))))
 (some (Ex.exit 3,[V.ref 0 0 m],[R0 FCd o]))):_):=by kernel_rfl
theorem Z2 (n:Nat) (x0:Int) (x1:By) (x2:Int) (x3:Bool) (xs:RVL) (y0:Int) (y1:By) (y2:Int) (y3:Bool) (y4:Int) (ys:RL):BI prog (RR n) (Aa [(7,HT n),(17,HS n)]) f174 [.agg (Lv x0 x1 x2 x3 xs),.agg (Lt y0 y1 y2 y3 y4 ys)] [] =
 ((shr (Ag FCd.den++List.map (F3 ys) (drop 0 xs)) fun sh2=>shr (take sh2.length (drop 0 sh2)) fun sh1=>ifB (y0==2) (some (V.s x1,
 [])) (ifB (y0==4) (ifT (decide ((0:Int)<=(0:Int)/\0<=xs.length/\(↑xs.length:Int)=(↑xs.length:Int)/\Ar ys<=n/\Ar ys<=1000000/\
 ys.length=1/\AL y0 ys=true/\vcL xs<=1000/\0<=0/\sfL (hd0 ys) xs=true)) (some (V.s (Ag UInt8++Iu (hd0 ys) (drop
 0 xs)),[]))) (ifT (decide ((0:Int)<=(0:Int)/\0<=xs.length/\(↑xs.length:Int)=(↑xs.length:Int)/\0=0/\Ar ys<=n/\Ar
 ys<=1000000/\AL (5:Int) ys=true/\vcL xs<=1000/\0<=0/\xs.all (chM ys)=true)) (ifT (decide (sh1.length<=100000)&&
 sh1.all EA) (some (V.s (fbs sh1),[])))))):_):=by kernel_rfl
theorem QO (n:Nat) (y0:Int) (y1:By) (y2:Int) (y3:Bool) (y4:Int) (ys:RL) (us:RVL) (h1:Ar ys<=n) (h2:Ar ys<=1000000) (h3:ys.length=1) (h4:AL y0 ys=true) (h5:vcL us<=1000) (h6:sfL (hd0 ys) us=true) : ∀ (j i:Nat) (s:By),i+j=us.length->s.length<=100000*i->
  Runs prog (RR n) (Aa [(7,HT n),(17,HS n)]) 0 (body f174 0) (HT n) ([.ptr 0 0,.s s,.sl (.rose VCd) us,.j (us.length:Int),.j (i:Int)],[some (.box (Lt y0 y1 y2 y3 y4 ys))]) (.exit 1) ([.s (s++Iu (hd0 ys) (us.drop i))],[])
 | 0,i,s,hi,hs=>by
  have hr:=NJ n y0 y1 y2 y3 y4 ys s us us.length i;rw [Ac (dcF (by omega))] at hr;rw [drop_eq_nil_of_le (by omega),Iu,append_nil];exact stp hr
 | j+1,i,s,hi,hs=>by
  have hl:i<us.length:=by omega
  have hM:=mxI;have hlen:=FB us;have hmem:=K8 (getElem_mem hl);have hr:=NJ n y0 y1 y2 y3 y4 ys s us us.length i;dsimp only [shr] at hr;obtain ⟨y,rfl⟩:=List.length_eq_one_iff.1 h3;have h6':=h6;rw [HA,all_eq_true] at h6';have hc:=h6' _ (getElem_mem hl);rw [anE] at hc;have hc:sfR us[i] y=true:=hc.2;rw [Ar,Ar] at h1 h2;rw [AL,anE,anE] at h4;have hry:=h4.1.2;have hk:=Bk y;have hL:=EE us[i] y hry hc;have hy0:([y]:RL)[(0:Nat)]? = some y:=rfl;rw [Ae (dcT (by omega)),T2 (by omega),ntN,gtE hl,Ai,Ab (by simp),hy0,Ai,Bc,Ap (n:=i) (by omega)] at hr;have ih:=QO n y0 y1 y2 y3 y4 [y] us (by rw [Ar,Ar]; omega) (by rw [Ar,Ar]; omega) h3 (by rw [AL,anE,anE]; exact h4) h5 h6 j (i+1);rw [drop_eq_getElem_cons hl,Iu];have e0:hd0 [y]=y:=rfl;rw [e0] at ih ⊢;rcases Bool.eq_false_or_eq_true (fkB y) with hf | hf
  ·have hnum:=Us hry hf hc;have hfo:=G6 hnum;have hv:=FC (fol us[i].lab.1).toNat;rw [Ae hf,Ab (dcT ⟨by omega,by omega⟩),Ab (dcT ⟨by omega,by omega⟩),Ab (dcT (by omega))] at hr;rw [UM hf,<-append_assoc];exact sts hr (ih (s++vbs (fol us[i].lab.1).toNat) (by omega) (by rw [length_append]; omega))
  ·have hv:=FC (AD us[i] y).length;have hvk:=G0 us[i];rw [Ac hf,Ab (by simp),Ai,Bc,Cf,Ab (dcT ⟨by omega,by omega,hry,hf,by omega,hc⟩),Ab (dcT ⟨by omega,by omega⟩),ntN,Ab (dcT (by omega)),Ab (dcT (by rw [length_append]; omega))] at hr;rw [UN hf,<-append_assoc];exact sts hr (ih (s++(vbs (AD us[i] y).length++AD us[i] y)) (by omega) (by rw [length_append,length_append]; omega))
theorem QN (n:Nat) (y0:Int) (y1:By) (y2:Int) (y3:Bool) (y4:Int) (ys:RL) (us:RVL) (h1:Ar ys<=n) (h2:Ar ys<=1000000) (h4:AL 5 ys=true) (h5:vcL us<=1000) (h6:us.all (chM ys)=true) : ∀ (j i:Nat) (o:List WFd),i+j=us.length->o.length<=i->
  Runs prog (RR n) (Aa [(7,HT n),(17,HS n)]) 0 (body f174 1) (HS n) ([.ptr 0 0,.ref 1 0 o.length,.sl (.rose VCd) us,.j (us.length:Int),.j (i:Int)],[some (.box (Lt y0 y1 y2 y3 y4 ys)),R0 FCd o]) (.exit 3) ([.ref 0 0 (o++(us.drop i).map (F3 ys)).length],[R0 FCd (o++(us.drop i).map (F3 ys))])
 | 0,i,o,hi,ho=>by
  have hr:=NI n y0 y1 y2 y3 y4 ys o.length us us.length i o
  try dsimp only [shr] at hr
  rw [Ac (dcF (by omega))] at hr;rw [drop_eq_nil_of_le (by omega),List.map_nil,append_nil];exact stp hr
 | j+1,i,o,hi,ho=>by
  have hl:i<us.length:=by omega
  have hM:=mxI;have hlen:=FB us;have hmem:=K8 (getElem_mem hl);have hvk:=G0 us[i];have hyl:=BS ys;have hr:=NI n y0 y1 y2 y3 y4 ys o.length us us.length i o
  try dsimp only [shr] at hr
  have hc:=all_eq_true.1 h6 _ (getElem_mem hl);unfold chM at hc;rw [anE] at hc;obtain ⟨c1,c2⟩:=hc;have hb:=Fs c1;have hry:=Di h4 hb;have hcm:=BE hb;have hk:=Bk (byR us[i].lab.2.2.1 ys);rw [Ae (dcT (by omega)),T2 (by omega),ntN,gtE hl,Ai,Ab (dcT (by omega)),Ae c1,Bc,Cf,Ap (n:=i) (by omega),drop_zero,take_length] at hr;have ih:=QN n y0 y1 y2 y3 y4 ys us h1 h2 h4 h5 h6 j (i+1) (o++[F3 ys us[i]]) (by omega) (by rw [length_append,length_singleton]; omega);rw [length_append,length_singleton,append_assoc,List.singleton_append] at ih;rw [drop_eq_getElem_cons hl,map_cons];refine sts (hr.trans ?_) ih;unfold F3;rcases Bool.eq_false_or_eq_true (fkB (byR us[i].lab.2.2.1 ys)) with hf | hf
  ·rw [Ae hf,T2 (by omega),if_pos hf,AX]
  ·rw [Ac hf,Ab (dcT ⟨by omega,by omega,hry,hf,by omega,c2⟩),T2 (by omega),if_neg (by rw [hf]; simp),AX]
theorem Ahx (n:Nat) : ∀ d e d',((HT n).L d).run=some (e,d')->Runs prog (RR n) (Aa [(7,HT n),(17,HS n)]) 0 (body f174 0) (HT n) d e d':=fun d ex d' h=>by
 unfold HT at h;dsimp only at h;split at h
 ·rename_i s us k i y0 y1 y2 y3 y4 ys;obtain ⟨hc,hx⟩:=Ad h;clear h;obtain ⟨h0,h1,rfl,h3,h4,h5,h6,h7,h8,h9⟩:=of_decide_eq_true hc;obtain ⟨i,rfl⟩:=eq_ofNat_of_zero_le h0;rw [ntN] at h1 h8 hx;obtain ⟨rfl,rfl⟩:=lfP hx;exact QO n y0 y1 y2 y3 y4 ys us h3 h4 h5 h6 h7 h9 (us.length-i) i s (by omega) h8
 ·cases h
theorem Ahw (n:Nat) : ∀ d e d',((HS n).L d).run=some (e,d')->Runs prog (RR n) (Aa [(7,HT n),(17,HS n)]) 0 (body f174 1) (HS n) d e d':=fun d ex d' h=>by
 unfold HS at h;dsimp only at h;split at h
 ·rename_i m us k i y0 y1 y2 y3 y4 ys o;obtain ⟨hc,hx⟩:=Ad h;clear h;obtain ⟨h0,h1,rfl,rfl,h3,h4,h5,h6,h7,h8⟩:=of_decide_eq_true hc;obtain ⟨i,rfl⟩:=eq_ofNat_of_zero_le h0;rw [ntN] at h1 h7 hx;obtain ⟨rfl,rfl⟩:=lfP hx;exact QN n y0 y1 y2 y3 y4 ys us h3 h4 h5 h6 h8 (us.length-i) i o (by omega) h7
 ·cases h
theorem Adv (n:Nat) (x0:Int) (x1:By) (x2:Int) (x3:Bool) (xs:RVL) (y0:Int) (y1:By) (y2:Int) (y3:Bool) (y4:Int) (ys:RL) (hc:Ar ys+1<=n+1/\Ar ys+1<=1000000/\An (.node (y0,y1,y2,y3,y4,()) ys:Rose Lab)=true/\fkB (.node (y0,y1,y2,y3,y4,()) ys:Rose Lab)=false/\vcL xs<=1000/\sfR (.node (x0,x1,x2,x3,()) xs:Rose AG) (.node (y0,y1,y2,y3,y4,()) ys:Rose Lab)=true):BI prog (RR n) (Aa [(7,HT n),(17,HS n)]) f174 [.agg (Lv x0 x1 x2 x3 xs),.agg (Lt y0 y1 y2 y3 y4 ys)] []=some (.s (AD (.node (x0,x1,x2,x3,()) xs:Rose AG) (.node (y0,y1,y2,y3,y4,()) ys:Rose Lab)),[]):=by
 obtain ⟨h1,h2,h3,h4,h5,h6⟩:=hc;have hrp:=DA h3;have hk:=Em hrp.1;have hM:=mxI;have hlen:=FB xs;rw [Z2]
 try dsimp only [shr]
 have hfk : ¬fkB (.node (y0,y1,y2,y3,y4,()) ys:Rose Lab)=true:=by rw [h4]; simp
 simp only [AX,drop_zero,take_length,nil_append];simp only [Rose.lab,Rose.kids] at hk hrp;rcases hk with rfl | rfl | rfl | ⟨rfl,h7⟩ | rfl
 ·cases h4
 ·rw [Aav (z:=(.node (2,y1,y2,y3,y4,()) ys:Rose Lab)) rfl]; rfl
 ·cases h4
 ·rw [Ac (by rfl),Ae (by rfl),Ab (dcT ⟨by omega,by omega,by first | rfl | trivial,by omega,by omega,h7,hrp.2,h5,by omega,OP rfl h6⟩),Aaw (z:=(.node (4,y1,y2,y3,y4,()) ys:Rose Lab)) rfl]; rfl
 ·obtain ⟨b1,b2⟩:=UT hrp.2 xs h5 (Ale (OO rfl h6).1);rw [Ac (by rfl),Ac (by rfl),Ab (dcT ⟨by omega,by omega,by first | rfl | trivial,by first | rfl | trivial,by omega,by omega,hrp.2,h5,by omega,Ale (OO rfl h6).1⟩),Ab (by rw [b1,Bool.and_true]; exact dcT (by rw [List.length_map]; omega)),b2,Aex (z:=(.node (5,y1,y2,y3,y4,()) ys:Rose Lab)) rfl]; rfl
theorem Adw : ∀ n,(∀ m,m<n->Af prog 174 (Ent.rd1 (Wq m)).F)->Af prog 174 (Ent.rd1 (Wq n)).F
 | 0,_=>AW fun vs bs=>by
  unfold Ent.F Wq;dsimp only;split
  ·rename_i x0 x1 x2 x3 xs y0 y1 y2 y3 y4 ys;have:decide (Ar ys+1<=0/\Ar ys+1<=1000000/\An (.node (y0,y1,y2,y3,y4,()) ys:Rose Lab)=true/\fkB (.node (y0,y1,y2,y3,y4,()) ys:Rose Lab)=false/\vcL xs<=1000/\sfR (.node (x0,x1,x2,x3,()) xs:Rose AG) (.node (y0,y1,y2,y3,y4,()) ys:Rose Lab)=true)=false:=dcF (by omega);rw [this]; rfl
  ·rfl
 | n+1,ih=>by
  refine fcC (kc func174 (ih n (Nat.lt_succ_self n)) (kc func168 sfk (kc func208 Aj3 (kc func207 sv (kc func159 Ady (kc func209 Al3 KnowsL.nil)))))).knows (Λ:=(Aa [(7,HT n),(17,HS n)])) func174 fun vs bs r hq=>?_
  unfold Ent.F Wq at hq;dsimp only at hq;split at hq
  ·rename_i x0 x1 x2 x3 xs y0 y1 y2 y3 y4 ys;obtain ⟨hc,hx⟩:=Ad hq;exact ⟨LoopsI.loops (.cons (a:=body f174 0) (by kernel_rfl) (Ahx n) (.cons (a:=body f174 1) (by kernel_rfl) (Ahw n) .nil)) (by kernel_rfl),(Adv n x0 x1 x2 x3 xs y0 y1 y2 y3 y4 ys (of_decide_eq_true hc)).trans hx⟩
  ·cases hq
theorem Adu:Af prog 174 (Ent.rd1 Ahz).F:=by
 refine Bd (F:=fun n=>(Ent.rd1 (Wq n)).F) Adw fun vs bs r h=>?_
 unfold Ent.F Ahz at h;dsimp only at h;split at h
 ·rename_i x0 x1 x2 x3 xs y0 y1 y2 y3 y4 ys;obtain ⟨hc,hx⟩:=Ad h;refine ⟨Ar ys+1,?_⟩;show (Br.need (decide (Ar ys+1<=Ar ys+1/\Ar ys+1<=1000000/\An (.node (y0,y1,y2,y3,y4,()) ys:Rose Lab)=true/\fkB (.node (y0,y1,y2,y3,y4,()) ys:Rose Lab)=false/\vcL xs<=1000/\sfR (.node (x0,x1,x2,x3,()) xs:Rose AG) (.node (y0,y1,y2,y3,y4,()) ys:Rose Lab)=true)) (.leaf (.s (AD (.node (x0,x1,x2,x3,()) xs:Rose AG) (.node (y0,y1,y2,y3,y4,()) ys:Rose Lab)),[]))).run=some r;have:decide (Ar ys+1<=Ar ys+1/\Ar ys+1<=1000000/\An (.node (y0,y1,y2,y3,y4,()) ys:Rose Lab)=true/\fkB (.node (y0,y1,y2,y3,y4,()) ys:Rose Lab)=false/\vcL xs<=1000/\sfR (.node (x0,x1,x2,x3,()) xs:Rose AG) (.node (y0,y1,y2,y3,y4,()) ys:Rose Lab)=true)=true:=dcT ⟨le_refl _,of_decide_eq_true hc⟩;rw [this];exact hx
 ·cases h
mutual
def Dz:Rose Lab->Int->Nat->List Ty
 | .node x ks,up,s=>(x.1,x.2.1,x.2.2.1,x.2.2.2.1,up,x.2.2.2.2.1,())::Df ks s (s+1)
def Df:RL->Nat->Nat->List Ty
 | [],_,_=>[]
 | z::ks,s,p=>Dz z s p++Df ks s (p+(Dz z s p).length)
end
mutual
theorem EM : ∀ (z:Rose Lab) (up:Int) (s:Nat),(Dz z up s).length=Ao z
 | .node x ks,up,s=>by rw [Dz,Ao,List.length_cons,KC ks s (s+1)]
theorem KC : ∀ (ks:RL) (s p:Nat),(Df ks s p).length=Ar ks
 | [],_,_=>by rw [Df,Ar]; rfl
 | z::ks,s,p=>by rw [Df,Ar,length_append,EM z s p,KC ks s]
end
theorem MW (z:Rose Lab) (up:Int) (s:Nat):Dz z up s=(z.lab.1,z.lab.2.1,z.lab.2.2.1,z.lab.2.2.2.1,up,z.lab.2.2.2.2.1,())::Df z.kids s (s+1):=by cases z; rw [Dz]; rfl


def D7 (l:List Ty):Nat->List Ty->Prop
 | _,[]=>True
 | s,x::w=>l[s]? = some x/\D7 l (s+1) w
def Zl (l:List Ty) (s e:Nat):Prop:=∀ j:Nat,s<=j->AT l e≠some (j:Int)
theorem NK {l:List Ty} : ∀ {a:List Ty} {s:Nat} {b:List Ty},D7 l s (a++b)↔D7 l s a/\D7 l (s+a.length) b
 | [],s,b=>by simp [D7]
 | x::a,s,b=>by
  rw [List.cons_append,D7,D7,NK,List.length_cons,and_assoc,show s+1+a.length=s+(a.length+1) by omega]
theorem We {l:List Ty} {s p t:Nat} {ks:RL} (hl:D7 l p (Df ks s p)) (he:Zl l s (p+Ar ks)) (hst:s<t):Zl l t p:=by
 cases ks with
 | nil=>intro j hj; rw [Ar] at he; exact he j (by omega)
 | cons z ks=>
  rw [Df,MW,List.cons_append,D7] at hl;intro j hj hu;unfold AT at hu;rw [hl.1,map_some] at hu;have:=Option.some.inj hu;dsimp only at this;omega
theorem LJ (v:List Ty) : ∀ (w pre:List Ty),v=pre++w->D7 v pre.length w
 | [],pre,h=>by rw [D7]; trivial
 | x::w,pre,h=>by
  rw [D7];refine ⟨by rw [h,List.getElem?_append_right (le_refl _)]; simp,?_⟩;have:=LJ v w (pre++[x]) (by rw [h]; simp);rw [length_append] at this;exact this


mutual
def lfR:Rose Lab->Bool
 | .node x ks=>((A3 x.1||ks.isEmpty)&&x.1==(bif x.2.2.2.1 then 5 else 1))&&lfL ks
def lfL:RL->Bool
 | []=>true
 | z::l=>lfR z&&lfL l
end
mutual
theorem MV (l:List Ty) : ∀ (z:Rose Lab),lfR z=true->∀ (up:Int) (s:Nat),D7 l s (Dz z up s)->Zl l s (s+Ao z)->kf l s=(z,s+Ao z)
 | .node x ks,hr,up,s,hl,he=>by
  rw [lfR,anE,anE] at hr;obtain ⟨⟨hp,_⟩,hrr⟩:=hr;rw [Dz,D7] at hl
  have hs:s<l.length:=by
   by_cases h:s<l.length
   ·exact h
   ·rw [List.getElem?_eq_none (by omega)] at hl; cases hl.1
  have hlab:A1 l s=x:=by unfold A1; rw [hl.1]
  rw [Ao] at he ⊢;rw [NQ hs,hlab]
  cases hh:A3 x.1 with
  | true=>
   have:=H4 l ks hrr s (s+1) (by omega) hl.2 (by rw [show s+1+Ar ks=s+(Ar ks+1) by omega]; exact he) l.length [] (by omega);rw [cond_true,this,nil_append,show s+1+Ar ks=s+(Ar ks+1) by omega]
  | false=>
   rw [hh,Bool.false_or,List.isEmpty_iff] at hp;subst hp;rw [cond_false,Ar]
theorem H4 (l:List Ty) : ∀ (ks:RL),lfL ks=true->∀ (s p:Nat),s<p->D7 l p (Df ks s p)->Zl l s (p+Ar ks)->∀ (n:Nat) (acc:RL),l.length-p<=n->AI (kf l) l s n p acc=(acc++ks,p+Ar ks)
 | [],_,s,p,_,_,he,n,acc,_=>by
  rw [Ar] at he ⊢;rw [Nat.add_zero] at he ⊢;rw [Fh (he s (le_refl _)),append_nil]
 | z::ks,hr,s,p,hsp,hl,he,n,acc,hn=>by
  rw [lfL,anE] at hr;rw [Df,NK,EM] at hl;rw [Ar,<-add_assoc] at he ⊢;have hk:=MV l z hr.1 s p hl.1 (We hl.2 he hsp)
  have hu:AT l p=some (s:Int):=by
   have:=hl.1;rw [MW,D7] at this;unfold AT;rw [this.1]; rfl
  have hpl:=Eh hu;have hb:=CI l p hpl;obtain ⟨n,rfl⟩ : ∃ m,n=m+1:=⟨n-1,by omega⟩
  rw [hk] at hb;dsimp only at hb;rw [AI,if_pos hu,hk];dsimp only;rw [H4 l ks hr.2 s (p+Ao z) (by omega) hl.2 he n _ (by omega),append_assoc];rfl
end
mutual
theorem KB : ∀ (z:Rose Lab),lfR z=true->∀ (up:Int) (s:Nat),Dz z up s=tys (A4 (cv z) up s)
 | .node x ks,hr,up,s=>by
  rw [lfR,anE,anE,beq_iff_eq] at hr;obtain ⟨⟨_,hx⟩,hrr⟩:=hr;have:=Jr ks hrr s (s+1);unfold tys at this ⊢;rw [Dz,cv,A4,map_cons,<-this];congr 1;unfold asT cvL;dsimp only;rw [<-hx]
theorem Jr : ∀ (ks:RL),lfL ks=true->∀ (s p:Nat),Df ks s p=tys (A8 (cvs ks) s p)
 | [],_,s,p=>by rw [Df,cvs,A8]; rfl
 | z::ks,hr,s,p=>by
  rw [lfL,anE] at hr;have h1:=KB z hr.1 s p;have h2:=Jr ks hr.2 s (p+Ao z);have h3:=C0 (cv z) s p;rw [XA] at h3;rw [Df,cvs,A8,EM,h3];unfold tys at *;rw [List.map_append,<-h1,<-h2]
end

theorem QY {z:Rose Lab} (h:An z=true) (h5:z.lab.1=5):z.kids.Pairwise KR:=by
 obtain ⟨hp,_⟩:=Ch h;unfold BV at hp;rw [if_neg (by omega),if_neg (by omega),if_neg (by omega)] at hp;split at hp
 ·cases hp
 ·exact ((QD _).1 hp).imp fun h=>h.1
theorem VQ {ns:List Int} (h : ∀ i,i<ns.length->BY ns i=true):ns.Pairwise (· < ·):=by
 induction ns with
 | nil=>exact .nil
 | cons x ns ih=>
  have ih:=ih fun i hi=>by
   have:=h (i+1) (by simp; omega);unfold BY at this ⊢
   cases i with
   | zero=>rfl
   | succ i=>simpa using this
  refine List.pairwise_cons.2 ⟨fun y hy=>?_,ih⟩
  cases ns with
  | nil=>cases hy
  | cons w ns=>
   have h1:=h 1 (by simp);unfold BY at h1;have h1:x<w:=by simpa using h1
   rcases mem_cons.1 hy with rfl | hy
   ·exact h1
   ·have:=(List.pairwise_cons.1 ih).1 y hy;omega
theorem Acx {l:List WFd} (h:JZ (CB l)=true):l.Pairwise Af1:=by
 have h2:=VQ (ns:=CB l) fun i hi=>all_eq_true.1 h i (List.mem_range.2 hi)
 unfold CB at h2;have h3:l.Pairwise (fun a b=>a.1<b.1):=List.pairwise_map.1 h2;exact h3
def Y4 (no:Int) (v:Rose AG):Rose AG:=.node (v.lab.1,v.lab.2.1,no,v.lab.2.2.2.1,()) v.kids
theorem Mr (z:Rose Lab) (s:By) (no:Int):AS z s no=(AS z s 0).map (Y4 no):=by
 by_cases h2:z.lab.1=2
 ·rw [EG h2,EG h2]; split<;>rfl
 ·by_cases h4:z.lab.1=4
  ·rw [EI h4,EI h4]; cases F6 z.kids s<;>rfl
  ·rw [EH h2 h4,EH h2 h4]
   cases DT s with
   | none=>rfl
   | some fs=>dsimp only; cases Be z.kids fs<;>rfl
theorem R4 {z:Rose Lab} (hr:An z=true) (h5:z.lab.1=5) (s:By) (no:Int):AS z s no=(match DT s with
   | some fs=>(match Bq z.kids fs with | some vs=>if Bv vs z.kids=true then some (.node (0,[],no,true,()) vs) else none | none=>none)
   | none=>none):=by
 rw [EH (by omega) (by omega)]
 cases hf:DT s with
 | none=>rfl
 | some fs=>
  have hp:=Acx (OT hf).2.1;dsimp only;rw [Aa6 _ z.kids fs (le_refl _) (QY hr h5) hp]
  cases Bq z.kids fs with
  | none=>rfl
  | some vs=>dsimp only; split<;>rfl
theorem Uv {z:Rose Lab} (hr:An z=true) (h5:z.lab.1=5) {s:By} {v:Rose AG} (h:AS z s 0=some v):Bf z s=v:=by
 rw [R4 hr h5] at h;unfold Bf
 cases hf:DT s with
 | none=>rw [hf] at h; cases h
 | some fs=>
  rw [hf] at h;dsimp only at h ⊢
  cases hd:Bq z.kids fs with
  | none=>rw [hd] at h; cases h
  | some vs=>
   rw [hd] at h;dsimp only at h ⊢;split at h
   ·exact Option.some.inj h
   ·cases h
theorem Lo {z:Rose Lab} (hr:An z=true) (hf:fkB z=false):z.lab.1=2\/z.lab.1=4\/z.lab.1=5:=by
 obtain ⟨h1,_⟩:=Ch hr;unfold fkB at hf;simp only [Bool.or_eq_false_iff,beq_eq_false_iff_ne] at hf;unfold BV at h1
 by_cases a2:z.lab.1=2
 ·exact .inl a2
 ·by_cases a4:z.lab.1=4
  ·exact .inr (.inl a4)
  ·by_cases a5:z.lab.1=5
   ·exact .inr (.inr a5)
   ·rw [if_neg (by omega),if_neg hf.2,if_neg a4,if_pos (.inl a5)] at h1; cases h1
theorem OX {z:Rose Lab} (hr:An z=true) (hf:fkB z=false) {s:By} {v:Rose AG} (h:AS z s 0=some v):B9 z s=v:=by
 unfold B9;rcases Lo hr hf with q | q | q
 ·rw [if_pos q];rw [EG q] at h;split at h
  ·exact Option.some.inj h
  ·cases h
 ·rw [if_neg (by omega),if_neg (by omega)];rw [EI q] at h;obtain ⟨vs,h1,rfl⟩:=map_eq_some_iff.1 h;rw [h1]
 ·rw [if_neg (by omega),if_pos q];exact Uv hr q h
theorem LH {z:Rose Lab} (hf:fkB z=true) {n:Int} (hn:Cm n=true) (no:Int):A5 z n no=if DY n z=true then some (.node (n,[],no,false,()) []) else none:=by
 unfold A5 DY;unfold fkB at hf;simp only [or_eq_true,beq_iff_eq] at hf;rcases hf with h | h
 ·rw [if_pos ⟨hn,.inl h⟩,h]; rfl
 ·rw [h]
  by_cases q:0<=n/\n<=z.lab.2.2.2.2.1
  ·rw [if_pos ⟨hn,.inr q⟩,if_pos (by simp [q])]
  ·rw [if_neg (fun hh=>hh.2.elim (fun e=>by omega) q),if_neg (by simp [q])]
theorem LI {z:Rose Lab} (hf:fkB z=false) (n:Int):DY n z=true:=by
 unfold DY;unfold fkB at hf;simp only [Bool.or_eq_false_iff,beq_eq_false_iff_ne] at hf;rw [bne_iff_ne.2 hf.2]; rfl
theorem Mc {f:WFd} (h:AU f=true) (h0:f.2.1=0):Cm f.2.2.1=true:=by
 unfold AU at h;rw [anE] at h;have h:=h.2;rw [if_pos h0,anE] at h;exact h.1
theorem VS {l:List WFd} {i:Nat} (h:l.length<=i):E4 l i=true:=by
 unfold E4; rw [drop_eq_nil_of_le (by simpa using h)]; rfl
theorem Lk {l:List WFd} {i:Nat} (h:i<l.length):E4 l i=(BY (CB l) i&&E4 l (i+1)):=by
 unfold E4;rw [drop_eq_getElem_cons (by simpa using h),all_cons,List.getElem_range]
theorem Gw {n:Int} : ∀ {l:RL},AY n l=true->byR n l∈l/\(byR n l).lab.2.2.1=n
 | [],h=>by cases h
 | z::l,h=>by
  rw [byR]
  by_cases q:z.lab.2.2.1=n
  ·rw [if_pos q]; exact ⟨by simp,q⟩
  ·rw [if_neg q]
   have h2:AY n l=true:=by
    unfold AY at h ⊢;rw [List.any_cons,beq_eq_false_iff_ne.2 q,Bool.false_or] at h;exact h
   have:=Gw h2;exact ⟨List.mem_cons_of_mem _ this.1,this.2⟩
theorem Ut (n:Nat) (y0:Int) (y1:By) (y2:Int) (y3:Bool) (y4:Int) (ys:RL) (hks:AL 5 ys=true) (hcn:Ar ys<=n) (hc6:Ar ys<=1000000) (fs:List WFd) (hfs:fs.length<=40) (hfb:(fs.all fun x=>AU x)=true) (hmx:mxD fs<=400) : ∀ (j i:Nat) (vs:RVL),i+j=fs.length->vs.length<=i->∀ ex d,(Br.br (E4 fs i&&(Bq ys (fs.drop i)).isSome) (.leaf (.exit 0,([.ptr 0 0,.ptr 1 0,.ptr 2 0],[some (.box (Lt y0 y1 y2 y3 y4 ys)),some (.box [.j 0,.s [],.j 0,.b false,.ref 3 0 0]),some (.box [.j 0,.s [],.j 0,.b true,.ref 4 0 (vs++(Bq ys (fs.drop i)).getD []).length]),R0 (.rose VCd) [],R0 (.rose VCd) (vs++(Bq ys (fs.drop i)).getD [])]))) (.leaf (.ret,([.ptr 0 0,.b false],[some (.box [.j 0,.s [],.j 0,.b false,.ref 1 0 0]),R0 (.rose VCd) []]))):Br (Ex×Dt)).run=some (ex,d)->Runs prog (RS n) (Aa [(6,rsE n)]) 0 (body f133 0) (rsE n) ([.ptr 0 0,.ptr 1 0,.ref 2 0 fs.length,.ptr 3 0,.ref 2 0 fs.length,.j (fs.length:Int),.j (i:Int)],[some (.box (Lt y0 y1 y2 y3 y4 ys)),some (.box [.j 0,.s [],.j 0,.b false,.ref 4 0 0]),R0 FCd fs,some (.box [.j 0,.s [],.j 0,.b true,.ref 5 0 vs.length]),R0 (.rose VCd) [],R0 (.rose VCd) vs]) ex d
 | 0,i,vs,hi,hv,ex,d,h=>by
  have hr:=Qs n y0 y1 y2 y3 y4 ys fs.length fs.length vs.length fs.length i fs vs
  try dsimp only [shr] at hr
  rw [Ac (dcF (by omega))] at hr;rw [VS (by omega),drop_eq_nil_of_le (by omega),Bq] at h;rw [GN (by rfl),show (some ([]:RVL)).getD []=[] from rfl,append_nil] at h;obtain ⟨rfl,rfl⟩:=lfP h;exact stp hr
 | j+1,i,vs,hi,hv,ex,d,h=>by
  have hl:i<fs.length:=by omega
  have hM:=mxI;have hr:=Qs n y0 y1 y2 y3 y4 ys fs.length fs.length vs.length fs.length i fs vs
  try dsimp only [shr] at hr
  have W1:i64.wrap ((i:Int)+1)=((i+1:Nat):Int):=by rw [Av (by omega) (by omega)]; omega
  have hlen:=BS ys;have eln : ∀ x:Option (Ex×Dt),ifT (decide ((vs.length+1)*64<=140737488355328)&&decide (vs.length+1<=maxI)) x=x:=fun x=>T2 (by omega)
  have hd:=drop_eq_getElem_cons hl;have hm:=getElem_mem hl;have hfbz:=all_eq_true.1 hfb _ hm;have hmz:=L7 hm;rw [Ae (dcT (by omega)),T2 (by omega),ntN,zero_add,gtE hl,Ai] at hr;simp only [W1,Ab (dcT (show ys.length<=maxI by omega)),Bc,AX,drop_zero,take_length] at hr
  have bad : ∀ {w},At prog (RS n) (Aa [(6,rsE n)]) 0 (body f133 0) (rsE n) ([.ptr 0 0,.ptr 1 0,.ref 2 0 fs.length,.ptr 3 0,.ref 2 0 fs.length,.j (fs.length:Int),.j (i:Int)],[some (.box (Lt y0 y1 y2 y3 y4 ys)),some (.box [.j 0,.s [],.j 0,.b false,.ref 4 0 0]),R0 FCd fs,some (.box [.j 0,.s [],.j 0,.b true,.ref 5 0 vs.length]),R0 (.rose VCd) [],R0 (.rose VCd) vs])=w->w=some ((.ret:Ex),(([.ptr 0 0,.b false]:List V),[some (.box [.j 0,.s [],.j 0,.b false,.ref 1 0 0]),R0 (.rose VCd) []]))->(E4 fs i&&(Bq ys (fs.drop i)).isSome)=false->Runs prog (RS n) (Aa [(6,rsE n)]) 0 (body f133 0) (rsE n) ([.ptr 0 0,.ptr 1 0,.ref 2 0 fs.length,.ptr 3 0,.ref 2 0 fs.length,.j (fs.length:Int),.j (i:Int)],[some (.box (Lt y0 y1 y2 y3 y4 ys)),some (.box [.j 0,.s [],.j 0,.b false,.ref 4 0 0]),R0 FCd fs,some (.box [.j 0,.s [],.j 0,.b true,.ref 5 0 vs.length]),R0 (.rose VCd) [],R0 (.rose VCd) vs]) ex d:=fun e1 e2 e3=>by
   rw [Hz e3] at h;obtain ⟨rfl,rfl⟩:=lfP h;exact .stop _ _ _ (e1.trans e2) (by simp)
  have good : ∀ {w} (v:RVL),v.length<=1->At prog (RS n) (Aa [(6,rsE n)]) 0 (body f133 0) (rsE n) ([.ptr 0 0,.ptr 1 0,.ref 2 0 fs.length,.ptr 3 0,.ref 2 0 fs.length,.j (fs.length:Int),.j (i:Int)],[some (.box (Lt y0 y1 y2 y3 y4 ys)),some (.box [.j 0,.s [],.j 0,.b false,.ref 4 0 0]),R0 FCd fs,some (.box [.j 0,.s [],.j 0,.b true,.ref 5 0 vs.length]),R0 (.rose VCd) [],R0 (.rose VCd) vs])=w->w=some ((.normal:Ex),(([.ptr 0 0,.ptr 1 0,.ref 2 0 fs.length,.ptr 3 0,.ref 2 0 fs.length,.j (fs.length:Int),.j ((i+1:Nat):Int)],[some (.box (Lt y0 y1 y2 y3 y4 ys)),some (.box [.j 0,.s [],.j 0,.b false,.ref 4 0 0]),R0 FCd fs,some (.box [.j 0,.s [],.j 0,.b true,.ref 5 0 (vs++v).length]),R0 (.rose VCd) [],R0 (.rose VCd) (vs++v)]):Dt))->BY (CB fs) i=true->(Bq ys (fs.drop i))=(Bq ys (fs.drop (i+1))).map (v++·)->Runs prog (RS n) (Aa [(6,rsE n)]) 0 (body f133 0) (rsE n) ([.ptr 0 0,.ptr 1 0,.ref 2 0 fs.length,.ptr 3 0,.ref 2 0 fs.length,.j (fs.length:Int),.j (i:Int)],[some (.box (Lt y0 y1 y2 y3 y4 ys)),some (.box [.j 0,.s [],.j 0,.b false,.ref 4 0 0]),R0 FCd fs,some (.box [.j 0,.s [],.j 0,.b true,.ref 5 0 vs.length]),R0 (.rose VCd) [],R0 (.rose VCd) vs]) ex d:=fun v hv1 e1 e2 e3 e4=>by
   refine sts (e1.trans e2) (Ut n y0 y1 y2 y3 y4 ys hks hcn hc6 fs hfs hfb hmx j (i+1) (vs++v) (by omega) (by rw [length_append]; omega) ex d ?_);rw [Lk hl,e3,Bool.true_and,e4] at h;refine Eq.trans ?_ h
   cases (Bq ys (fs.drop (i+1))) with
   | none=>cases E4 fs (i+1)<;>rfl
   | some us=>
    cases E4 fs (i+1) with
    | false=>rfl
    | true=>
     show some _=some _;rw [show (Option.map (v++·) (some us)).getD []=v++us from rfl,show (some us).getD []=us from rfl,append_assoc]
  have hnos:(CB fs)[i]? = some fs[i].1:=by unfold CB; rw [getElem?_map,gtE hl]; rfl
  have tail:BY (CB fs) i=true->(∃ w,At prog (RS n) (Aa [(6,rsE n)]) 0 (body f133 0) (rsE n) ([.ptr 0 0,.ptr 1 0,.ref 2 0 fs.length,.ptr 3 0,.ref 2 0 fs.length,.j (fs.length:Int),.j (i:Int)],[some (.box (Lt y0 y1 y2 y3 y4 ys)),some (.box [.j 0,.s [],.j 0,.b false,.ref 4 0 0]),R0 FCd fs,some (.box [.j 0,.s [],.j 0,.b true,.ref 5 0 vs.length]),R0 (.rose VCd) [],R0 (.rose VCd) vs])=w):=fun _=>⟨_,rfl⟩
  by_cases hrise:BY (CB fs) i=true
  ·have hst:(Bq ys (fs.drop i))=(if AY fs[i].1 ys=true then (match Ix (byR fs[i].1 ys) fs[i] with
    | some v=>(Bq ys (fs.drop (i+1))).map (v::·)
    | none=>none) else (Bq ys (fs.drop (i+1)))):=by rw [hd,Bq]; all_goals rfl
   clear tail
   have hi0:i=0\/(0<i/\∃ h1:i-1<fs.length,fs[i-1].1<fs[i].1):=by
    rcases Nat.eq_zero_or_pos i with e | e
    ·exact .inl e
    ·refine .inr ⟨e,by omega,?_⟩;unfold BY at hrise;have h1:(CB fs)[i-1]? = some (fs[i-1]'(by omega)).1:=by unfold CB; rw [getElem?_map,gtE (by omega)]; rfl
     have e0:(i==0)=false:=beq_eq_false_iff_ne.2 (by omega);rw [e0,Bool.false_or,List.getD_eq_getElem?_getD,List.getD_eq_getElem?_getD,h1,hnos] at hrise;exact of_decide_eq_true hrise
   have hr2:=hr;clear hr;rcases hi0 with h0 | ⟨h0,h1,h2⟩
   rotate_left
   ·have W2:i64.wrap ((i:Int)-1)=((i-1:Nat):Int):=by rw [Av (by omega) (by omega)]; omega
    rw [Ae (dcT (by omega)),W2,T2 (by omega),ntN,zero_add,gtE h1,Ai,Ac (dcF (by omega))] at hr2;generalize fs[i]=f at hr2 hst hfbz hmz hnos
    cases hn:AY f.1 ys with
    | false=>
     rw [hn] at hr2 hst;refine good [] (by simp) hr2 ?_ hrise (hst.trans ?_)
     ·rw [append_nil]; rfl
     ·rw [if_neg (by simp)];cases (Bq ys (fs.drop (i+1)))<;>rfl
    | true=>
     rw [hn] at hr2 hst;rw [if_pos rfl] at hst;obtain ⟨bm,bn⟩:=Gw hn;obtain ⟨hp,hrz⟩:=B4 hks _ bm;have hcz:=BE bm;generalize byR f.1 ys=p at hr2 hst bm bn hp hrz hcz;unfold Ix at hst;rw [AR] at hr2
     by_cases hk0:f.2.1=0
     ·have hb0:(f.2.1==0)=true:=by rw [hk0]; rfl
      have hb2:(f.2.1==2)=false:=by rw [hk0]; rfl
      have hnb:=Mc hfbz hk0
      cases hfk:fkB p with
      | false=>
       rw [hfk] at hr2 hst;rw [if_neg (by rw [hb0]; simp)] at hst;rw [hb0] at hr2;exact bad hr2 rfl (by rw [hst]; simp)
      | true=>
       rw [hfk] at hr2 hst;rw [if_pos hb0,if_pos hb0,LH hfk hnb] at hst;rw [hb0,hb2] at hr2
       cases hlf:DY f.2.2.1 p with
       | false=>
        rw [hlf] at hr2 hst;rw [if_neg (by simp)] at hst;exact bad hr2 rfl (by rw [hst]; simp)
       | true=>
        rw [hlf] at hr2 hst;rw [if_pos rfl] at hst;dsimp only at hst;simp only [eln] at hr2;exact good [.node (f.2.2.1,[],f.1,false,()) []] (by simp) hr2 (by rw [length_append,length_singleton]; rfl) hrise hst
     ·have hk2:f.2.1=2:=by rcases Ep hfbz with e | e; exact absurd e hk0; exact e
      have hb0:(f.2.1==0)=false:=beq_eq_false_iff_ne.2 hk0;have hb2:(f.2.1==2)=true:=by rw [hk2]; rfl
      cases hfk:fkB p with
      | true=>
       rw [hfk] at hr2 hst;rw [if_neg (by rw [hb0]; simp)] at hst;rw [hb0] at hr2;exact bad hr2 rfl (by rw [hst]; simp)
      | false=>
       rw [hfk] at hr2 hst;rw [if_pos hb0,if_neg (by rw [hb0]; simp),Mr] at hst;rw [hb0,hb2] at hr2;rw [show (!false==false)=false from rfl,A6,AR,Ab (dcT ⟨by omega,rfl,hrz,by omega,by omega⟩)] at hr2
       cases hdr:AS p f.2.2.2.1 0 with
       | none=>
        rw [hdr] at hr2 hst;exact bad hr2 rfl (by rw [hst]; simp)
       | some v=>
        have hpt:=OX hrz hfk hdr;rw [hdr] at hr2 hst;rw [hpt,LI hfk] at hr2;dsimp only [map_some] at hst;simp only [eln] at hr2;exact good [Y4 f.1 v] (by simp) hr2 (by rw [length_append,length_singleton]; rfl) hrise hst
   ·rw [Ac (dcF (by omega))] at hr2;generalize fs[i]=f at hr2 hst hfbz hmz hnos
    cases hn:AY f.1 ys with
    | false=>
     rw [hn] at hr2 hst;refine good [] (by simp) hr2 ?_ hrise (hst.trans ?_)
     ·rw [append_nil]; rfl
     ·rw [if_neg (by simp)];cases (Bq ys (fs.drop (i+1)))<;>rfl
    | true=>
     rw [hn] at hr2 hst;rw [if_pos rfl] at hst;obtain ⟨bm,bn⟩:=Gw hn;obtain ⟨hp,hrz⟩:=B4 hks _ bm;have hcz:=BE bm;generalize byR f.1 ys=p at hr2 hst bm bn hp hrz hcz;unfold Ix at hst;rw [AR] at hr2
     by_cases hk0:f.2.1=0
     ·have hb0:(f.2.1==0)=true:=by rw [hk0]; rfl
      have hb2:(f.2.1==2)=false:=by rw [hk0]; rfl
      have hnb:=Mc hfbz hk0
      cases hfk:fkB p with
      | false=>
       rw [hfk] at hr2 hst;rw [if_neg (by rw [hb0]; simp)] at hst;rw [hb0] at hr2;exact bad hr2 rfl (by rw [hst]; simp)
      | true=>
       rw [hfk] at hr2 hst;rw [if_pos hb0,if_pos hb0,LH hfk hnb] at hst;rw [hb0,hb2] at hr2
       cases hlf:DY f.2.2.1 p with
       | false=>
        rw [hlf] at hr2 hst;rw [if_neg (by simp)] at hst;exact bad hr2 rfl (by rw [hst]; simp)
       | true=>
        rw [hlf] at hr2 hst;rw [if_pos rfl] at hst;dsimp only at hst;simp only [eln] at hr2;exact good [.node (f.2.2.1,[],f.1,false,()) []] (by simp) hr2 (by rw [length_append,length_singleton]; rfl) hrise hst
     ·have hk2:f.2.1=2:=by rcases Ep hfbz with e | e; exact absurd e hk0; exact e
      have hb0:(f.2.1==0)=false:=beq_eq_false_iff_ne.2 hk0;have hb2:(f.2.1==2)=true:=by rw [hk2]; rfl
      cases hfk:fkB p with
      | true=>
       rw [hfk] at hr2 hst;rw [if_neg (by rw [hb0]; simp)] at hst;rw [hb0] at hr2;exact bad hr2 rfl (by rw [hst]; simp)
      | false=>
       rw [hfk] at hr2 hst;rw [if_pos hb0,if_neg (by rw [hb0]; simp),Mr] at hst;rw [hb0,hb2] at hr2;rw [show (!false==false)=false from rfl,A6,AR,Ab (dcT ⟨by omega,rfl,hrz,by omega,by omega⟩)] at hr2
       cases hdr:AS p f.2.2.2.1 0 with
       | none=>
        rw [hdr] at hr2 hst;exact bad hr2 rfl (by rw [hst]; simp)
       | some v=>
        have hpt:=OX hrz hfk hdr;rw [hdr] at hr2 hst;rw [hpt,LI hfk] at hr2;dsimp only [map_some] at hst;simp only [eln] at hr2;exact good [Y4 f.1 v] (by simp) hr2 (by rw [length_append,length_singleton]; rfl) hrise hst
  ·have hrise:BY (CB fs) i=false:=by simpa using hrise
   have h0:0<i:=by
    rcases Nat.eq_zero_or_pos i with e | e
    ·unfold BY at hrise; rw [e] at hrise; simp at hrise
    ·exact e
   have h1:i-1<fs.length:=by omega
   have h2 : ¬fs[i-1].1<fs[i].1:=by
    unfold BY at hrise;have h1:(CB fs)[i-1]? = some (fs[i-1]'(by omega)).1:=by unfold CB; rw [getElem?_map,gtE (by omega)]; rfl
    have e0:(i==0)=false:=beq_eq_false_iff_ne.2 (by omega);rw [e0,Bool.false_or,List.getD_eq_getElem?_getD,List.getD_eq_getElem?_getD,h1,hnos] at hrise;exact of_decide_eq_false hrise
   have W2:i64.wrap ((i:Int)-1)=((i-1:Nat):Int):=by rw [Av (by omega) (by omega)]; omega
   rw [Ae (dcT (by omega)),W2,T2 (by omega),ntN,zero_add,gtE h1,Ai,Ae (dcT (by omega))] at hr;exact bad hr rfl (by rw [Lk hl,hrise]; rfl)
end Go.Proofs.YtdocpdfkeohkiaaGreatDoor.Den
