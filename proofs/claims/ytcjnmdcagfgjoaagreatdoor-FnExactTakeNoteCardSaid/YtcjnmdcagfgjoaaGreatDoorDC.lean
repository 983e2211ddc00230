/- What functions of the program do, by the machine: Dc6 Dc7 Dc8 Val15 Val16 Val17 Val18 Sub1 Sub2 Fil1 Fil2 Spl Spl2 Top1 Top2 Top3 Top4 Top4b IdxStr Top5. -/
import Derived.Test.YtcjnmdcagfgjoaaGreatDoorDB
import Derived.KernelRfl
import Derived.Test.YtcjnmdcagfgjoaaGreatDoorRows
import Derived.Shelf.Strings.Split
namespace Go.Proofs.YtcjnmdcagfgjoaaGreatDoor.Den
open IntKind (i64)
open Go.Proofs.Tryz
open List (all_eq_true any_cons append_nil drop drop_eq_getElem_cons drop_eq_nil_of_le drop_zero getElem?_map getElem_mem length_append length_cons length_map length_singleton mem_cons replicate take take_length)
open Int (eq_ofNat_of_zero_le toNat)
open Nat (add_sub_of_le sub_zero zero_add)
open Option (map_eq_some_iff map_some)
open Bool (or_eq_true)
open Go.Proofs
set_option maxRecDepth 100000

theorem Xz {z:Rose Lab} (h:Au z=true) (h5:z.lab.1=5):z.kids.Pairwise KR:=by
 obtain ⟨hp,_⟩:=CN h
 unfold Cl at hp
 rw [if_neg (by omega),if_neg (by omega),if_neg (by omega)] at hp
 split at hp
 ·cases hp
 ·exact ((P9 _).1 hp).imp fun h=>h.1
theorem Um {ns:List Int} (h : ∀ i,i<ns.length->CT ns i=true):ns.Pairwise (· < ·):=by
 induction ns with
 | nil=>exact .nil
 | cons x ns ih=>
  have ih:=ih fun i hi=>by
   have:=h (i+1) (by simp; omega)
   unfold CT at this ⊢
   cases i with
   | zero=>rfl
   | succ i=>simpa using this
  refine List.pairwise_cons.2 ⟨fun y hy=>?_,ih⟩
  cases ns with
  | nil=>cases hy
  | cons w ns=>
   have h1:=h 1 (by simp)
   unfold CT at h1
   have h1:x<w:=by simpa using h1
   rcases mem_cons.1 hy with rfl | hy
   ·exact h1
   ·have:=(List.pairwise_cons.1 ih).1 y hy
    omega
theorem YN {l:List WFd} (h:Po (Eb l)=true):l.Pairwise Aar:=by
 have h2:=Um (ns:=Eb l) fun i hi=>all_eq_true.1 h i (List.mem_range.2 hi)
 unfold Eb at h2
 have h3:l.Pairwise (fun a b=>a.1<b.1):=List.pairwise_map.1 h2
 exact h3
def Wx (no:Int) (v:Rose AW):Rose AW:=.node (v.lab.1,v.lab.2.1,no,v.lab.2.2.2.1,()) v.kids
theorem LI (z:Rose Lab) (s:List UInt8) (no:Int):AU z s no=(AU z s 0).map (Wx no):=by
 by_cases h2:z.lab.1=2
 ·rw [E3 h2,E3 h2]; split<;>rfl
 ·by_cases h4:z.lab.1=4
  ·rw [E5 h4,E5 h4]; cases Hi z.kids s<;>rfl
  ·rw [FW h2 h4,FW h2 h4]
   cases GR s with
   | none=>rfl
   | some fs=>dsimp only; cases Bm z.kids fs<;>rfl
theorem Qy {z:Rose Lab} (hr:Au z=true) (h5:z.lab.1=5) (s:List UInt8) (no:Int):AU z s no=(match GR s with
   | some fs=>(match Bu z.kids fs with | some vs=>if Ci vs z.kids=true then some (.node (0,[],no,true,()) vs) else none | none=>none)
   | none=>none):=by
 rw [FW (by omega) (by omega)]
 cases hf:GR s with
 | none=>rfl
 | some fs=>
  have hp:=YN (NY hf).2.1
  dsimp only
  rw [Yo _ z.kids fs (Nat.le_refl _) (Xz hr h5) hp]
  cases Bu z.kids fs with
  | none=>rfl
  | some vs=>dsimp only; split<;>rfl
theorem YR {z:Rose Lab} (hr:Au z=true) (h5:z.lab.1=5) {s:List UInt8} {v:Rose AW} (h:AU z s 0=some v):CC z s=v:=by
 rw [Qy hr h5] at h
 unfold CC
 cases hf:GR s with
 | none=>rw [hf] at h; cases h
 | some fs=>
  rw [hf] at h
  dsimp only at h ⊢
  cases hd:Bu z.kids fs with
  | none=>rw [hd] at h; cases h
  | some vs=>
   rw [hd] at h
   dsimp only at h ⊢
   split at h
   ·exact Option.some.inj h
   ·cases h
theorem K9 {z:Rose Lab} (hr:Au z=true) (hf:fkB z=false):z.lab.1=2\/z.lab.1=4\/z.lab.1=5:=by
 obtain ⟨h1,_⟩:=CN hr
 unfold fkB at hf
 simp only [Bool.or_eq_false_iff,beq_eq_false_iff_ne] at hf
 unfold Cl at h1
 by_cases a2:z.lab.1=2
 ·exact .inl a2
 ·by_cases a4:z.lab.1=4
  ·exact .inr (.inl a4)
  ·by_cases a5:z.lab.1=5
   ·exact .inr (.inr a5)
   ·rw [if_neg (by omega),if_neg hf.2,if_neg a4,if_pos (.inl a5)] at h1; cases h1
theorem Oe {z:Rose Lab} (hr:Au z=true) (hf:fkB z=false) {s:List UInt8} {v:Rose AW} (h:AU z s 0=some v):B3 z s=v:=by
 unfold B3
 rcases K9 hr hf with q | q | q
 ·rw [if_pos q]
  rw [E3 q] at h
  split at h
  ·exact Option.some.inj h
  ·cases h
 ·rw [if_neg (by omega),if_neg (by omega)]
  rw [E5 q] at h
  obtain ⟨vs,h1,rfl⟩:=map_eq_some_iff.1 h
  rw [h1]
 ·rw [if_neg (by omega),if_pos q]
  exact YR hr q h
theorem Lg {z:Rose Lab} (hf:fkB z=true) {n:Int} (hn:Dw n=true) (no:Int):A8 z n no=if DV n z=true then some (.node (n,[],no,false,()) []) else none:=by
 unfold A8 DV
 unfold fkB at hf
 simp only [or_eq_true,beq_iff_eq] at hf
 rcases hf with h | h
 ·rw [if_pos ⟨hn,.inl h⟩,h]; rfl
 ·rw [h]
  by_cases q:0<=n/\n<=z.lab.2.2.2.2.1
  ·rw [if_pos ⟨hn,.inr q⟩,if_pos (by simp [q])]
  ·rw [if_neg (fun hh=>hh.2.elim (fun e=>by omega) q),if_neg (by simp [q])]
theorem Lh {z:Rose Lab} (hf:fkB z=false) (n:Int):DV n z=true:=by
 unfold DV
 unfold fkB at hf
 simp only [Bool.or_eq_false_iff,beq_eq_false_iff_ne] at hf
 rw [bne_iff_ne.2 hf.2]; rfl
theorem L2 {f:WFd} (h:AX f=true) (h0:f.2.1=0):Dw f.2.2.1=true:=by
 unfold AX at h
 rw [anE] at h
 have h:=h.2
 rw [if_pos h0,anE] at h
 exact h.1
theorem Un {l:List WFd} {i:Nat} (h:l.length<=i):Eu l i=true:=by
 unfold Eu; rw [drop_eq_nil_of_le (by simpa using h)]; rfl
theorem K5 {l:List WFd} {i:Nat} (h:i<l.length):Eu l i=(CT (Eb l) i&&Eu l (i+1)):=by
 unfold Eu
 rw [drop_eq_getElem_cons (by simpa using h),List.all_cons,List.getElem_range]
theorem Gc {n:Int} : ∀ {l:List (Rose Lab)},B8 n l=true->byR n l∈l/\(byR n l).lab.2.2.1=n
 | [],h=>by cases h
 | z::l,h=>by
  rw [byR]
  by_cases q:z.lab.2.2.1=n
  ·rw [if_pos q]; exact ⟨by simp,q⟩
  ·rw [if_neg q]
   have h2:B8 n l=true:=by
    unfold B8 at h ⊢
    rw [any_cons,beq_eq_false_iff_ne.2 q,Bool.false_or] at h
    exact h
   have:=Gc h2
   exact ⟨List.mem_cons_of_mem _ this.1,this.2⟩
abbrev QI (n:Nat):FuncId->Option Ent:=Ab [(179,.rd1 WL),(127,.rd1 byG),(180,.rd1 NV),(181,.rd1 (ptN n)),(182,.rd1 EQ),(183,.rd1 KU)]
theorem SY (n:Nat) (y0:Int) (y1:List UInt8) (y2:Int) (y3:Bool) (y4:Int) (ys:List (Rose Lab)) (hks:B9 5 ys=true) (hcn:A1 ys<=n) (hc6:A1 ys<=1000000) (fs:List WFd) (hfs:fs.length<=40) (hfb:(fs.all fun x=>AX x)=true) (hmx:mxD fs<=400) : ∀ (j i:Nat) (vs:List (Rose AW)),i+j=fs.length->vs.length<=i->∀ ex d,(Br.br (Eu fs i&&(Bu ys (fs.drop i)).isSome) (.leaf (.exit 0,([.ptr 0 0,.ptr 1 0,.ptr 2 0],[some (.box [.j y0,.s y1,.j y2,.b y3,.j y4,.sl (.rose LCd) ys]),some (.box [.j 0,.s [],.j 0,.b false,.ref 3 0 0]),some (.box [.j 0,.s [],.j 0,.b true,.ref 4 0 (vs++(Bu ys (fs.drop i)).getD []).length]),some (.row false none (.rose VCd) []),some (.row false none (.rose VCd) (vs++(Bu ys (fs.drop i)).getD []))]))) (.leaf (.ret,([.ptr 0 0,.b false],[some (.box [.j 0,.s [],.j 0,.b false,.ref 1 0 0]),some (.row false none (.rose VCd) [])]))):Br (Ex×Dt)).run=some (ex,d)->Runs prog (QI n) (Ab [(6,rsE n)]) 0 (body f145 0) (rsE n) ([.ptr 0 0,.ptr 1 0,.ref 2 0 fs.length,.ptr 3 0,.ref 2 0 fs.length,.j (fs.length:Int),.j (i:Int)],[some (.box [.j y0,.s y1,.j y2,.b y3,.j y4,.sl (.rose LCd) ys]),some (.box [.j 0,.s [],.j 0,.b false,.ref 4 0 0]),some (.row false none FCd fs),some (.box [.j 0,.s [],.j 0,.b true,.ref 5 0 vs.length]),some (.row false none (.rose VCd) []),some (.row false none (.rose VCd) vs)]) ex d
 | 0,i,vs,hi,hv,ex,d,h=>by
  have hr:=Pn n y0 y1 y2 y3 y4 ys fs.length fs.length vs.length fs.length i fs vs
  try dsimp only [shr] at hr
  rw [Ac (dcF (by omega))] at hr
  rw [Un (by omega),drop_eq_nil_of_le (by omega),Bu] at h
  rw [Id (by rfl),show (some ([]:List (Rose AW))).getD []=[] from rfl,append_nil] at h
  have h8:=Ao h
  obtain ⟨rfl,rfl⟩:=Prod.mk.inj h8
  exact .stop _ _ _ hr (by simp)
 | j+1,i,vs,hi,hv,ex,d,h=>by
  have hl:i<fs.length:=by omega
  have hM:maxI=9223372036854775807:=rfl
  have hr:=Pn n y0 y1 y2 y3 y4 ys fs.length fs.length vs.length fs.length i fs vs
  try dsimp only [shr] at hr
  have W1:i64.wrap ((i:Int)+1)=((i+1:Nat):Int):=by rw [Aw (by omega) (by omega)]; omega
  have hlen:=C7 ys
  have eln : ∀ x:Option (Ex×Dt),ifT (decide ((vs.length+1)*64<=140737488355328)&&decide (vs.length+1<=maxI)) x=x:=fun x=>Aa (by simp only [anE,dcE]; omega)
  have hd:=drop_eq_getElem_cons hl
  have hm:=getElem_mem hl
  have hfbz:=all_eq_true.1 hfb _ hm
  have hmz:=KT hm
  rw [Af (dcT (by omega)),Aa (by simp only [anE,dcE]; omega),ntN,zero_add,gtE hl,Am] at hr
  simp only [W1,Aa (dcT (show ys.length<=maxI by omega)),BV,AQ,drop_zero,take_length] at hr
  have bad : ∀ {w},Av prog (QI n) (Ab [(6,rsE n)]) 0 (body f145 0) (rsE n) ([.ptr 0 0,.ptr 1 0,.ref 2 0 fs.length,.ptr 3 0,.ref 2 0 fs.length,.j (fs.length:Int),.j (i:Int)],[some (.box [.j y0,.s y1,.j y2,.b y3,.j y4,.sl (.rose LCd) ys]),some (.box [.j 0,.s [],.j 0,.b false,.ref 4 0 0]),some (.row false none FCd fs),some (.box [.j 0,.s [],.j 0,.b true,.ref 5 0 vs.length]),some (.row false none (.rose VCd) []),some (.row false none (.rose VCd) vs)])=w->w=some ((.ret:Ex),(([.ptr 0 0,.b false]:List V),[some (.box [.j 0,.s [],.j 0,.b false,.ref 1 0 0]),some (.row false none (.rose VCd) [])]))->(Eu fs i&&(Bu ys (fs.drop i)).isSome)=false->Runs prog (QI n) (Ab [(6,rsE n)]) 0 (body f145 0) (rsE n) ([.ptr 0 0,.ptr 1 0,.ref 2 0 fs.length,.ptr 3 0,.ref 2 0 fs.length,.j (fs.length:Int),.j (i:Int)],[some (.box [.j y0,.s y1,.j y2,.b y3,.j y4,.sl (.rose LCd) ys]),some (.box [.j 0,.s [],.j 0,.b false,.ref 4 0 0]),some (.row false none FCd fs),some (.box [.j 0,.s [],.j 0,.b true,.ref 5 0 vs.length]),some (.row false none (.rose VCd) []),some (.row false none (.rose VCd) vs)]) ex d:=fun e1 e2 e3=>by
   rw [IM e3] at h
   have h8:=Ao h
   obtain ⟨rfl,rfl⟩:=Prod.mk.inj h8
   exact .stop _ _ _ (e1.trans e2) (by simp)
  have good : ∀ {w} (v:List (Rose AW)),v.length<=1->Av prog (QI n) (Ab [(6,rsE n)]) 0 (body f145 0) (rsE n) ([.ptr 0 0,.ptr 1 0,.ref 2 0 fs.length,.ptr 3 0,.ref 2 0 fs.length,.j (fs.length:Int),.j (i:Int)],[some (.box [.j y0,.s y1,.j y2,.b y3,.j y4,.sl (.rose LCd) ys]),some (.box [.j 0,.s [],.j 0,.b false,.ref 4 0 0]),some (.row false none FCd fs),some (.box [.j 0,.s [],.j 0,.b true,.ref 5 0 vs.length]),some (.row false none (.rose VCd) []),some (.row false none (.rose VCd) vs)])=w->w=some ((.normal:Ex),(([.ptr 0 0,.ptr 1 0,.ref 2 0 fs.length,.ptr 3 0,.ref 2 0 fs.length,.j (fs.length:Int),.j ((i+1:Nat):Int)],[some (.box [.j y0,.s y1,.j y2,.b y3,.j y4,.sl (.rose LCd) ys]),some (.box [.j 0,.s [],.j 0,.b false,.ref 4 0 0]),some (.row false none FCd fs),some (.box [.j 0,.s [],.j 0,.b true,.ref 5 0 (vs++v).length]),some (.row false none (.rose VCd) []),some (.row false none (.rose VCd) (vs++v))]):Dt))->CT (Eb fs) i=true->(Bu ys (fs.drop i))=(Bu ys (fs.drop (i+1))).map (v++·)->Runs prog (QI n) (Ab [(6,rsE n)]) 0 (body f145 0) (rsE n) ([.ptr 0 0,.ptr 1 0,.ref 2 0 fs.length,.ptr 3 0,.ref 2 0 fs.length,.j (fs.length:Int),.j (i:Int)],[some (.box [.j y0,.s y1,.j y2,.b y3,.j y4,.sl (.rose LCd) ys]),some (.box [.j 0,.s [],.j 0,.b false,.ref 4 0 0]),some (.row false none FCd fs),some (.box [.j 0,.s [],.j 0,.b true,.ref 5 0 vs.length]),some (.row false none (.rose VCd) []),some (.row false none (.rose VCd) vs)]) ex d:=fun v hv1 e1 e2 e3 e4=>by
   refine .step _ _ _ _ (e1.trans e2) (SY n y0 y1 y2 y3 y4 ys hks hcn hc6 fs hfs hfb hmx j (i+1) (vs++v) (by omega) (by rw [length_append]; omega) ex d ?_)
   rw [K5 hl,e3,Bool.true_and,e4] at h
   refine Eq.trans ?_ h
   cases (Bu ys (fs.drop (i+1))) with
   | none=>cases Eu fs (i+1)<;>rfl
   | some us=>
    cases Eu fs (i+1) with
    | false=>rfl
    | true=>
     show some _=some _
     rw [show (Option.map (v++·) (some us)).getD []=v++us from rfl,show (some us).getD []=us from rfl,List.append_assoc]
  have hnos:(Eb fs)[i]? = some fs[i].1:=by unfold Eb; rw [getElem?_map,gtE hl]; rfl
  have tail:CT (Eb fs) i=true->(∃ w,Av prog (QI n) (Ab [(6,rsE n)]) 0 (body f145 0) (rsE n) ([.ptr 0 0,.ptr 1 0,.ref 2 0 fs.length,.ptr 3 0,.ref 2 0 fs.length,.j (fs.length:Int),.j (i:Int)],[some (.box [.j y0,.s y1,.j y2,.b y3,.j y4,.sl (.rose LCd) ys]),some (.box [.j 0,.s [],.j 0,.b false,.ref 4 0 0]),some (.row false none FCd fs),some (.box [.j 0,.s [],.j 0,.b true,.ref 5 0 vs.length]),some (.row false none (.rose VCd) []),some (.row false none (.rose VCd) vs)])=w):=fun _=>⟨_,rfl⟩
  by_cases hrise:CT (Eb fs) i=true
  ·have hst:(Bu ys (fs.drop i))=(if B8 fs[i].1 ys=true then (match LJ (byR fs[i].1 ys) fs[i] with
    | some v=>(Bu ys (fs.drop (i+1))).map (v::·)
    | none=>none) else (Bu ys (fs.drop (i+1)))):=by rw [hd,Bu]; all_goals rfl
   clear tail
   have hi0:i=0\/(0<i/\∃ h1:i-1<fs.length,fs[i-1].1<fs[i].1):=by
    rcases Nat.eq_zero_or_pos i with e | e
    ·exact .inl e
    ·refine .inr ⟨e,by omega,?_⟩
     unfold CT at hrise
     have h1:(Eb fs)[i-1]? = some (fs[i-1]'(by omega)).1:=by unfold Eb; rw [getElem?_map,gtE (by omega)]; rfl
     have e0:(i==0)=false:=beq_eq_false_iff_ne.2 (by omega)
     rw [e0,Bool.false_or,List.getD_eq_getElem?_getD,List.getD_eq_getElem?_getD,h1,hnos] at hrise
     exact of_decide_eq_true hrise
   have hr2:=hr
   clear hr
   rcases hi0 with h0 | ⟨h0,h1,h2⟩
   rotate_left
   ·have W2:i64.wrap ((i:Int)-1)=((i-1:Nat):Int):=by rw [Aw (by omega) (by omega)]; omega
    rw [Af (dcT (by omega)),W2,Aa (by simp only [anE,dcE]; omega),ntN,zero_add,gtE h1,Am,Ac (dcF (by omega))] at hr2
    generalize fs[i]=f at hr2 hst hfbz hmz hnos
    cases hn:B8 f.1 ys with
    | false=>
     rw [hn] at hr2 hst
     refine good [] (by simp) hr2 ?_ hrise (hst.trans ?_)
     ·rw [append_nil]; rfl
     ·rw [if_neg (by simp)]
      cases (Bu ys (fs.drop (i+1)))<;>rfl
    | true=>
     rw [hn] at hr2 hst
     rw [if_pos rfl] at hst
     obtain ⟨bm,bn⟩:=Gc hn
     obtain ⟨hp,hrz⟩:=BN hks _ bm
     have hcz:=Cb bm
     generalize byR f.1 ys=p at hr2 hst bm bn hp hrz hcz
     unfold LJ at hst
     rw [Be] at hr2
     by_cases hk0:f.2.1=0
     ·have hb0:(f.2.1==0)=true:=by rw [hk0]; rfl
      have hb2:(f.2.1==2)=false:=by rw [hk0]; rfl
      have hnb:=L2 hfbz hk0
      cases hfk:fkB p with
      | false=>
       rw [hfk] at hr2 hst
       rw [if_neg (by rw [hb0]; simp)] at hst
       rw [hb0] at hr2
       exact bad hr2 rfl (by rw [hst]; simp)
      | true=>
       rw [hfk] at hr2 hst
       rw [if_pos hb0,if_pos hb0,Lg hfk hnb] at hst
       rw [hb0,hb2] at hr2
       cases hlf:DV f.2.2.1 p with
       | false=>
        rw [hlf] at hr2 hst
        rw [if_neg (by simp)] at hst
        exact bad hr2 rfl (by rw [hst]; simp)
       | true=>
        rw [hlf] at hr2 hst
        rw [if_pos rfl] at hst
        dsimp only at hst
        simp only [eln] at hr2
        exact good [.node (f.2.2.1,[],f.1,false,()) []] (by simp) hr2 (by rw [length_append,length_singleton]; rfl) hrise hst
     ·have hk2:f.2.1=2:=by rcases Eg hfbz with e | e; exact absurd e hk0; exact e
      have hb0:(f.2.1==0)=false:=beq_eq_false_iff_ne.2 hk0
      have hb2:(f.2.1==2)=true:=by rw [hk2]; rfl
      cases hfk:fkB p with
      | true=>
       rw [hfk] at hr2 hst
       rw [if_neg (by rw [hb0]; simp)] at hst
       rw [hb0] at hr2
       exact bad hr2 rfl (by rw [hst]; simp)
      | false=>
       rw [hfk] at hr2 hst
       rw [if_pos hb0,if_neg (by rw [hb0]; simp),LI] at hst
       rw [hb0,hb2] at hr2
       rw [show (!false==false)=false from rfl,AS,Be,Aa (dcT ⟨by omega,rfl,hrz,by omega,by omega⟩)] at hr2
       cases hdr:AU p f.2.2.2.1 0 with
       | none=>
        rw [hdr] at hr2 hst
        exact bad hr2 rfl (by rw [hst]; simp)
       | some v=>
        have hpt:=Oe hrz hfk hdr
        rw [hdr] at hr2 hst
        rw [hpt,Lh hfk] at hr2
        dsimp only [map_some] at hst
        simp only [eln] at hr2
        exact good [Wx f.1 v] (by simp) hr2 (by rw [length_append,length_singleton]; rfl) hrise hst
   ·rw [Ac (dcF (by omega))] at hr2
    generalize fs[i]=f at hr2 hst hfbz hmz hnos
    cases hn:B8 f.1 ys with
    | false=>
     rw [hn] at hr2 hst
     refine good [] (by simp) hr2 ?_ hrise (hst.trans ?_)
     ·rw [append_nil]; rfl
     ·rw [if_neg (by simp)]
      cases (Bu ys (fs.drop (i+1)))<;>rfl
    | true=>
     rw [hn] at hr2 hst
     rw [if_pos rfl] at hst
     obtain ⟨bm,bn⟩:=Gc hn
     obtain ⟨hp,hrz⟩:=BN hks _ bm
     have hcz:=Cb bm
     generalize byR f.1 ys=p at hr2 hst bm bn hp hrz hcz
     unfold LJ at hst
     rw [Be] at hr2
     by_cases hk0:f.2.1=0
     ·have hb0:(f.2.1==0)=true:=by rw [hk0]; rfl
      have hb2:(f.2.1==2)=false:=by rw [hk0]; rfl
      have hnb:=L2 hfbz hk0
      cases hfk:fkB p with
      | false=>
       rw [hfk] at hr2 hst
       rw [if_neg (by rw [hb0]; simp)] at hst
       rw [hb0] at hr2
       exact bad hr2 rfl (by rw [hst]; simp)
      | true=>
       rw [hfk] at hr2 hst
       rw [if_pos hb0,if_pos hb0,Lg hfk hnb] at hst
       rw [hb0,hb2] at hr2
       cases hlf:DV f.2.2.1 p with
       | false=>
        rw [hlf] at hr2 hst
        rw [if_neg (by simp)] at hst
        exact bad hr2 rfl (by rw [hst]; simp)
       | true=>
        rw [hlf] at hr2 hst
        rw [if_pos rfl] at hst
        dsimp only at hst
        simp only [eln] at hr2
        exact good [.node (f.2.2.1,[],f.1,false,()) []] (by simp) hr2 (by rw [length_append,length_singleton]; rfl) hrise hst
     ·have hk2:f.2.1=2:=by rcases Eg hfbz with e | e; exact absurd e hk0; exact e
      have hb0:(f.2.1==0)=false:=beq_eq_false_iff_ne.2 hk0
      have hb2:(f.2.1==2)=true:=by rw [hk2]; rfl
      cases hfk:fkB p with
      | true=>
       rw [hfk] at hr2 hst
       rw [if_neg (by rw [hb0]; simp)] at hst
       rw [hb0] at hr2
       exact bad hr2 rfl (by rw [hst]; simp)
      | false=>
       rw [hfk] at hr2 hst
       rw [if_pos hb0,if_neg (by rw [hb0]; simp),LI] at hst
       rw [hb0,hb2] at hr2
       rw [show (!false==false)=false from rfl,AS,Be,Aa (dcT ⟨by omega,rfl,hrz,by omega,by omega⟩)] at hr2
       cases hdr:AU p f.2.2.2.1 0 with
       | none=>
        rw [hdr] at hr2 hst
        exact bad hr2 rfl (by rw [hst]; simp)
       | some v=>
        have hpt:=Oe hrz hfk hdr
        rw [hdr] at hr2 hst
        rw [hpt,Lh hfk] at hr2
        dsimp only [map_some] at hst
        simp only [eln] at hr2
        exact good [Wx f.1 v] (by simp) hr2 (by rw [length_append,length_singleton]; rfl) hrise hst
  ·have hrise:CT (Eb fs) i=false:=by simpa using hrise
   have h0:0<i:=by
    rcases Nat.eq_zero_or_pos i with e | e
    ·unfold CT at hrise; rw [e] at hrise; simp at hrise
    ·exact e
   have h1:i-1<fs.length:=by omega
   have h2 : ¬fs[i-1].1<fs[i].1:=by
    unfold CT at hrise
    have h1:(Eb fs)[i-1]? = some (fs[i-1]'(by omega)).1:=by unfold Eb; rw [getElem?_map,gtE (by omega)]; rfl
    have e0:(i==0)=false:=beq_eq_false_iff_ne.2 (by omega)
    rw [e0,Bool.false_or,List.getD_eq_getElem?_getD,List.getD_eq_getElem?_getD,h1,hnos] at hrise
    exact of_decide_eq_false hrise
   have W2:i64.wrap ((i:Int)-1)=((i-1:Nat):Int):=by rw [Aw (by omega) (by omega)]; omega
   rw [Af (dcT (by omega)),W2,Aa (by simp only [anE,dcE]; omega),ntN,zero_add,gtE h1,Am,Af (dcT (by omega))] at hr
   exact bad hr rfl (by rw [K5 hl,hrise]; rfl)

theorem Ad1 (n:Nat):Ar prog (QI n) (Ab [(6,rsE n)]) 0 (f145.body.getD .skip):=by
 refine An (a:=body f145 0) (by kernel_rfl) fun d ex d' h=>?_
 unfold rsE at h
 dsimp only at h
 split at h
 ·rename_i w w2 c i y0 y1 y2 y3 y4 ys fs m vs
  obtain ⟨hc,hx⟩:=Ad h
  obtain ⟨rfl,rfl,rfl,h0,h1,h2,rfl,h3,h4,h5,h6,h7,h8⟩:=of_decide_eq_true hc
  obtain ⟨i,rfl⟩:=eq_ofNat_of_zero_le h0
  simp only [ntN] at h1 hx
  exact SY n y0 y1 y2 y3 y4 ys h6 h7 h8 fs h2 h4 h5 (fs.length-i) i vs (by omega) (by omega) ex d' hx
 ·cases h
theorem YQ {s:List UInt8} (h:s.length<=400):Db s=KE s:=by unfold KE; rw [if_pos h]
theorem YO (l:List WFd):Eu l 0=Po (Eb l):=by
 unfold Eu Po Eb
 rw [drop_zero,length_map]
theorem WK {s:List UInt8} {l:List WFd} (h:KE s=some l):(∀ x∈l,AX x=true/\x.2.2.2.1.length<=s.length)/\l.length<=40:=by
 have e:KE s=(rdP s).map fun l=>l.map (·.1):=by
  unfold KE rdP Db
  split
  ·exact Hw s _ _ []
  ·rfl
 have h2:=h
 rw [e] at h2
 obtain ⟨l',h3,rfl⟩:=map_eq_some_iff.1 h2
 refine ⟨?_,by rw [length_map]; exact (Oc h3).1⟩
 unfold KE Db at h
 split at h
 ·exact Od s _ _ [] _ (by simp) h
 ·cases h
theorem ZR {z:Rose Lab} (hr:Au z=true) (h5:z.lab.1=5) (s:List UInt8):(AU z s 0).isSome=(match GR s with
   | some fs=>(match Bu z.kids fs with | some vs=>Ci vs z.kids | none=>false)
   | none=>false):=by
 rw [Qy hr h5]
 cases GR s with
 | none=>rfl
 | some fs=>
  dsimp only
  cases Bu z.kids fs with
  | none=>rfl
  | some vs=>
   dsimp only
   cases Ci vs z.kids<;>rfl
theorem Abo (n:Nat) (s:List UInt8) (y0:Int) (y1:List UInt8) (y2:Int) (y3:Bool) (y4:Int) (ys:List (Rose Lab)) (hc:s.length<=400/\y0=5/\Au (.node (y0,y1,y2,y3,y4,()) ys:Rose Lab)=true/\As (.node (y0,y1,y2,y3,y4,()) ys:Rose Lab)<=(n+1)/\As (.node (y0,y1,y2,y3,y4,()) ys:Rose Lab)<=1000000):De prog (QI n) (Ab [(6,rsE n)]) f145 [.s s,.agg [.j y0,.s y1,.j y2,.b y3,.j y4,.sl (.rose LCd) ys]] []=some (.tup [.agg [.j (CC (.node (y0,y1,y2,y3,y4,()) ys:Rose Lab) s).lab.1,.s (CC (.node (y0,y1,y2,y3,y4,()) ys:Rose Lab) s).lab.2.1,.j (CC (.node (y0,y1,y2,y3,y4,()) ys:Rose Lab) s).lab.2.2.1,.b (CC (.node (y0,y1,y2,y3,y4,()) ys:Rose Lab) s).lab.2.2.2.1,.ref 0 0 (CC (.node (y0,y1,y2,y3,y4,()) ys:Rose Lab) s).kids.length],.b (AU (.node (y0,y1,y2,y3,y4,()) ys:Rose Lab) s 0).isSome],[some (.row false none (.rose VCd) (CC (.node (y0,y1,y2,y3,y4,()) ys:Rose Lab) s).kids)]):=by
 obtain ⟨h1,h2,h3,h4,h5⟩:=hc
 rw [YM]
 have hck:As (.node (y0,y1,y2,y3,y4,()) ys:Rose Lab)=A1 ys+1:=Cq _
 have hM:maxI=9223372036854775807:=rfl
 have hlen:=C7 ys
 try dsimp only [shr]
 dsimp only [Aj,List.nil_append]
 repeat rw [drop_zero]
 rw [Aa (dcT (by omega)),YQ h1,ZR h3 h2]
 unfold CC GR
 cases hq:KE s with
 | none=>rfl
 | some fs=>
  obtain ⟨f1,f2⟩:=WK hq
  have hmx:mxD fs<=400:=Tj fun f hf=>by have:=(f1 f hf).2; omega
  rw [show (some fs).isSome=true from rfl,show (some fs).getD []=fs from rfl]
  rw [Bool.not_true,AS,Aa (dcT ⟨by first | trivial | rfl,by first | trivial | rfl,by first | trivial | rfl,by omega,by omega,f2,by first | trivial | rfl,by omega,all_eq_true.2 fun x hx=>(f1 x hx).1,hmx,Gg h3 (show y0≠4 by omega),by omega,by omega⟩),YO]
  dsimp only
  cases hr:Po (Eb fs) with
  | false=>rw [if_neg (show ¬(false=true) by simp)]; rfl
  | true=>
   rw [if_pos (rfl:true=true)]
   dsimp only [Rose.kids]
   have hds : ∀ vs,Bu ys fs=some vs->vs.length<=fs.length:=by
    intro vs
    clear hq f1 f2 hmx hr
    induction fs generalizing vs with
    | nil=>intro h; rw [Bu] at h; cases h; simp
    | cons f fs ih=>
     intro h
     rw [Bu] at h
     split at h
     ·split at h
      ·obtain ⟨us,h8,rfl⟩:=map_eq_some_iff.1 h
       have:=ih us h8
       simp only [length_cons]; omega
      ·cases h
     ·have:=ih vs h
      simp only [length_cons]; omega
   cases hd:Bu ys fs with
   | none=>rfl
   | some vs=>
    have hvl:=hds vs hd
    rw [show (true&&(some vs).isSome)=true from rfl,Be]
    rw [show (some vs).getD []=vs from rfl]
    rw [Aa (dcT ⟨by omega,by rw [drop_zero,take_length]; omega⟩),drop_zero,take_length]
    rfl
theorem W8 (n:Nat) (ih:Ag prog 181 (Ent.rd1 (ptN n)).F):Ag prog 145 (Ent.rd1 (rsN (n+1))).F:=by
 refine A6 (kc func179 rdf (kc func127 Aee (kc func180 sfk (kc func181 ih (kc func182 Ts (kc func183 Zq KnowsL.nil)))))).knows (Λ:=(Ab [(6,rsE n)])) func145 (c:=f145.body.getD .skip) (by kernel_rfl) fun vs bs r hq hv hb=>?_
 unfold Ent.F rsN at hq
 dsimp only at hq
 split at hq
 ·rename_i s y0 y1 y2 y3 y4 ys
  obtain ⟨hc,hx⟩:=Ad hq
  exact ⟨Ad1 n,(Abo n s y0 y1 y2 y3 y4 ys (of_decide_eq_true hc)).trans hx⟩
 ·cases hq
abbrev VD (k n:Nat):FuncId->Option Ent:=Ab [(145,.rd1 (rsN k)),(210,.rd1 QU),(211,.rd1 J5),(180,.rd1 NV),(181,.rd1 (ptN n)),(165,.rd1 Fo),(182,.rd1 EQ)]
theorem YV (n k:Nat) (s:List UInt8) (y0:Int) (y1:List UInt8) (y2:Int) (y3:Bool) (y4:Int) (y:Rose Lab) (hy:Au y=true) (hcn:As y<=n) (hc6:As y<=1000000) (hs:s.length<=400) : ∀ (j a:Nat) (vs:List (Rose AW)),s.length-a<=j->a<=s.length->vs.length<=a->∀ ex d,(Br.br (BA (fkB y) (fun n=>A8 y n 0) (fun d=>AU y d 0) s (s.length-a) a).isSome (.leaf (.exit 1,([.ptr 0 0,.ptr 1 0],[some (.box [.j 0,.s [],.j 0,.b false,.ref 2 0 0]),some (.box [.j 0,.s [],.j 0,.b true,.ref 3 0 (vs++(BA (fkB y) (fun n=>A8 y n 0) (fun d=>AU y d 0) s (s.length-a) a).getD []).length]),some (.row false none (.rose VCd) []),some (.row false none (.rose VCd) (vs++(BA (fkB y) (fun n=>A8 y n 0) (fun d=>AU y d 0) s (s.length-a) a).getD []))]))) (.leaf (.ret,([.ptr 0 0,.b false],[some (.box [.j 0,.s [],.j 0,.b false,.ref 1 0 0]),some (.row false none (.rose VCd) [])]))):Br (Ex×Dt)).run=some (ex,d)->Runs prog (VD k n) (Ab [(8,ptE n)]) 0 (body f181 0) (ptE n) ([.s s,.ptr 0 0,.ptr 1 0,.ptr 2 0,.j (a:Int)],[some (.box [.j y0,.s y1,.j y2,.b y3,.j y4,.sl (.rose LCd) [y]]),some (.box [.j 0,.s [],.j 0,.b false,.ref 3 0 0]),some (.box [.j 0,.s [],.j 0,.b true,.ref 4 0 vs.length]),some (.row false none (.rose VCd) []),some (.row false none (.rose VCd) vs)]) ex d:=by
 intro j
 induction j with
 | zero=>
  intro a vs hj ha hv ex d h
  have hr:=KG n k s y0 y1 y2 y3 y4 [y] vs.length a vs
  try dsimp only [shr] at hr
  rw [Ac (dcF (by omega))] at hr
  rw [FX (by omega),Id (by rfl),show (some ([]:List (Rose AW))).getD []=[] from rfl,append_nil] at h
  have h8:=Ao h
  obtain ⟨rfl,rfl⟩:=Prod.mk.inj h8
  exact .stop _ _ _ hr (by simp)
 | succ j ih=>
  intro a vs hj ha hv ex d h
  by_cases hlt:a<s.length
  ·have hr:=KG n k s y0 y1 y2 y3 y4 [y] vs.length a vs
   try dsimp only [shr] at hr
   have hM:maxI=9223372036854775807:=rfl
   have ⟨⟨u1,u2⟩,u3,u4⟩:=El s a
   have hst:=IG (num:=fkB y) (N:=fun n=>A8 y n 0) (D:=fun d=>AU y d 0) hlt
   have eln : ∀ x:Option (Ex×Dt),ifT (decide ((vs.length+1)*64<=140737488355328)&&decide (vs.length+1<=maxI)) x=x:=fun x=>Aa (by simp only [anE,dcE]; omega)
   have bad : ∀ {w},Av prog (VD k n) (Ab [(8,ptE n)]) 0 (body f181 0) (ptE n) ([.s s,.ptr 0 0,.ptr 1 0,.ptr 2 0,.j (a:Int)],[some (.box [.j y0,.s y1,.j y2,.b y3,.j y4,.sl (.rose LCd) [y]]),some (.box [.j 0,.s [],.j 0,.b false,.ref 3 0 0]),some (.box [.j 0,.s [],.j 0,.b true,.ref 4 0 vs.length]),some (.row false none (.rose VCd) []),some (.row false none (.rose VCd) vs)])=w->w=some ((.ret:Ex),(([.ptr 0 0,.b false]:List V),[some (.box [.j 0,.s [],.j 0,.b false,.ref 1 0 0]),some (.row false none (.rose VCd) [])]))->(BA (fkB y) (fun n=>A8 y n 0) (fun d=>AU y d 0) s (s.length-a) a)=none->Runs prog (VD k n) (Ab [(8,ptE n)]) 0 (body f181 0) (ptE n) ([.s s,.ptr 0 0,.ptr 1 0,.ptr 2 0,.j (a:Int)],[some (.box [.j y0,.s y1,.j y2,.b y3,.j y4,.sl (.rose LCd) [y]]),some (.box [.j 0,.s [],.j 0,.b false,.ref 3 0 0]),some (.box [.j 0,.s [],.j 0,.b true,.ref 4 0 vs.length]),some (.row false none (.rose VCd) []),some (.row false none (.rose VCd) vs)]) ex d:=fun e1 e2 e3=>by
    rw [e3,IM (by rfl)] at h
    have h8:=Ao h
    obtain ⟨rfl,rfl⟩:=Prod.mk.inj h8
    exact .stop _ _ _ (e1.trans e2) (by simp)
   have good : ∀ {w} (b:Nat) (v:Rose AW),a<b->b<=s.length->Av prog (VD k n) (Ab [(8,ptE n)]) 0 (body f181 0) (ptE n) ([.s s,.ptr 0 0,.ptr 1 0,.ptr 2 0,.j (a:Int)],[some (.box [.j y0,.s y1,.j y2,.b y3,.j y4,.sl (.rose LCd) [y]]),some (.box [.j 0,.s [],.j 0,.b false,.ref 3 0 0]),some (.box [.j 0,.s [],.j 0,.b true,.ref 4 0 vs.length]),some (.row false none (.rose VCd) []),some (.row false none (.rose VCd) vs)])=w->w=some ((.normal:Ex),(([.s s,.ptr 0 0,.ptr 1 0,.ptr 2 0,.j (b:Int)],[some (.box [.j y0,.s y1,.j y2,.b y3,.j y4,.sl (.rose LCd) [y]]),some (.box [.j 0,.s [],.j 0,.b false,.ref 3 0 0]),some (.box [.j 0,.s [],.j 0,.b true,.ref 4 0 (vs++[v]).length]),some (.row false none (.rose VCd) []),some (.row false none (.rose VCd) (vs++[v]))]):Dt))->(BA (fkB y) (fun n=>A8 y n 0) (fun d=>AU y d 0) s (s.length-a) a)=(BA (fkB y) (fun n=>A8 y n 0) (fun d=>AU y d 0) s (s.length-b) b).map (v::·)->Runs prog (VD k n) (Ab [(8,ptE n)]) 0 (body f181 0) (ptE n) ([.s s,.ptr 0 0,.ptr 1 0,.ptr 2 0,.j (a:Int)],[some (.box [.j y0,.s y1,.j y2,.b y3,.j y4,.sl (.rose LCd) [y]]),some (.box [.j 0,.s [],.j 0,.b false,.ref 3 0 0]),some (.box [.j 0,.s [],.j 0,.b true,.ref 4 0 vs.length]),some (.row false none (.rose VCd) []),some (.row false none (.rose VCd) vs)]) ex d:=fun b v k1 k2 e1 e2 e4=>by
    refine .step _ _ _ _ (e1.trans e2) (ih b (vs++[v]) (by omega) k2 (by rw [length_append,length_singleton]; omega) ex d ?_)
    rw [e4] at h
    refine Eq.trans ?_ h
    cases (BA (fkB y) (fun n=>A8 y n 0) (fun d=>AU y d 0) s (s.length-b) b) with
    | none=>rfl
    | some us=>
     show some _=some _
     rw [show (Option.map (v::·) (some us)).getD []=v::us from rfl,show (some us).getD []=us from rfl,List.append_assoc]
     rfl
   rw [Af (dcT (by omega)),Aa (dcT (by omega)),ntN] at hr
   simp only [AQ,drop_zero,take_length,BV] at hr
   cases h3:BI (Ai s a) with
   | false=>
    rw [h3] at hr
    refine bad hr rfl (hst.trans ?_)
    have hb:(Bb s a).2.2=false:=by unfold Bb; dsimp only; rw [if_neg (fun hh=>by rw [h3] at hh; cases hh.1)]
    cases fkB y with
    | true=>
     dsimp only
     cases A8 y (unf (A9 (Ai s a))) 0 with
     | none=>rfl
     | some v=>dsimp only; rw [h3,if_neg (by simp)]
    | false=>dsimp only; rw [hb]
   | true=>
    have e:=E9 h3
    obtain ⟨s1,s2⟩:=QW (a:=a) h3
    rw [h3,Bool.not_true,AS] at hr
    simp only [s1,s2] at hr
    rw [Aa (dcT (by omega)),Aa (by rfl),show [y][0]? = some y from rfl,Am] at hr
    cases hf:fkB y with
    | true=>
     rw [hf] at hr hst
     dsimp only at hst
     rw [Bool.not_true,AS] at hr
     cases hnb:Dw (unf (A9 (Ai s a))) with
     | false=>
      rw [hnb] at hr
      have hn:A8 y (unf (A9 (Ai s a))) 0=none:=by unfold A8; rw [if_neg (fun hh=>by rw [hnb] at hh; cases hh.1)]
      rw [hn] at hst
      exact bad hr rfl (by rw [hf]; exact hst)
     | true=>
      rw [hnb] at hr
      rw [Lg hf hnb,h3] at hst
      simp only [Aa (show (decide ((0:Int)<=0)&&decide ((0:Int)<(([y]:List (Rose Lab)).length:Int)))=true from rfl),show [y][0]? = some y from rfl,Am,BV,eln] at hr
      cases hlf:DV (unf (A9 (Ai s a))) y with
      | false=>
       rw [hlf] at hr hst
       exact bad hr rfl (by rw [hf]; exact hst)
      | true=>
       rw [hlf] at hr hst
       refine good (A0 a (Ai s a)).toNat (.node (unf (A9 (Ai s a)),[],0,false,()) []) (by omega) (by omega) hr ?_ (by rw [hf]; exact hst)
       rw [show (((A0 a (Ai s a)).toNat:Nat):Int)=A0 a (Ai s a) by omega,length_append,length_singleton]
       rfl
    | false=>
     rw [hf] at hr hst
     dsimp only at hst
     have W1:i64.wrap ((s.length:Int)-A0 a (Ai s a))=(s.length:Int)-A0 a (Ai s a):=Aw (by omega) (by omega)
     have W2:i64.wrap (A0 a (Ai s a)+A9 (Ai s a))=A0 a (Ai s a)+A9 (Ai s a):=Aw (by omega) (by omega)
     simp only [W1,W2] at hr
     rw [Bool.not_false,Be] at hr
     by_cases hn:A9 (Ai s a)<=s.length-A0 a (Ai s a)
     ·have hb:Bb s a=((s.drop (A0 a (Ai s a)).toNat).take (A9 (Ai s a)).toNat,A0 a (Ai s a)+A9 (Ai s a),true):=by unfold Bb; dsimp only; rw [if_pos ⟨h3,hn⟩]
      have hd8:(A0 a (Ai s a)+A9 (Ai s a)).toNat-(A0 a (Ai s a)).toNat=(A9 (Ai s a)).toNat:=by omega
      have htl:=Wc s a
      rw [hb] at hst htl
      dsimp only at hst htl
      rw [Ac (dcF (by omega)),Aa (by simp only [anE,dcE]; omega),hd8] at hr
      generalize (s.drop (A0 a (Ai s a)).toNat).take (A9 (Ai s a)).toNat=dta at hr hst htl
      simp only [Aa (show (decide ((0:Int)<=0)&&decide ((0:Int)<(([y]:List (Rose Lab)).length:Int)))=true from rfl),show [y][0]? = some y from rfl,Am,BV,eln] at hr
      rw [Aa (dcT ⟨by omega,hf,hy,hcn,hc6⟩)] at hr
      cases hdr:AU y dta 0 with
      | none=>
       rw [hdr] at hr hst
       exact bad hr rfl (by rw [hf]; exact hst)
      | some v=>
       have hpt:=Oe hy hf hdr
       rw [hdr] at hr hst
       rw [hpt,Lh hf] at hr
       refine good (A0 a (Ai s a)+A9 (Ai s a)).toNat v (by omega) (by omega) hr ?_ (by rw [hf]; exact hst)
       rw [show (((A0 a (Ai s a)+A9 (Ai s a)).toNat:Nat):Int)=A0 a (Ai s a)+A9 (Ai s a) by omega,length_append,length_singleton]
       simp only [QP]
       rfl
     ·have hb:(Bb s a).2.2=false:=by unfold Bb; dsimp only; rw [if_neg (fun hh=>hn hh.2)]
      rw [hb] at hst
      rw [Af (dcT (by omega))] at hr
      exact bad hr rfl (by rw [hf]; exact hst)
  ·have hr:=KG n k s y0 y1 y2 y3 y4 [y] vs.length a vs
   try dsimp only [shr] at hr
   rw [Ac (dcF (by omega))] at hr
   rw [FX (by omega),Id (by rfl),show (some ([]:List (Rose AW))).getD []=[] from rfl,append_nil] at h
   have h8:=Ao h
   obtain ⟨rfl,rfl⟩:=Prod.mk.inj h8
   exact .stop _ _ _ hr (by simp)
theorem Ad2 (n k:Nat):Ar prog (VD k n) (Ab [(8,ptE n)]) 0 (f181.body.getD .skip):=by
 refine An (a:=body f181 0) (by kernel_rfl) fun d ex d' h=>?_
 unfold ptE at h
 dsimp only at h
 split at h
 ·rename_i s a y0 y1 y2 y3 y4 ys m vs
  obtain ⟨hc,hx⟩:=Ad h
  obtain ⟨h0,h1,h2,rfl,h3,h4,h5,h6,h7⟩:=of_decide_eq_true hc
  obtain ⟨a,rfl⟩:=eq_ofNat_of_zero_le h0
  match ys,h4 with
  | [y],_=>
   have e:A1 [y]=As y:=by rw [A1,A1]; rfl
   simp only [ntN] at h1 hx
   exact YV n k s y0 y1 y2 y3 y4 y (by simpa using h5) (by omega) (by omega) h2 _ a vs (Nat.le_refl _) h1 (by omega) ex d' hx
 ·cases h
theorem Abu (n:Nat) (s:List UInt8) (y0:Int) (y1:List UInt8) (y2:Int) (y3:Bool) (y4:Int) (ys:List (Rose Lab)) (hc:s.length<=400/\fkB (.node (y0,y1,y2,y3,y4,()) ys:Rose Lab)=false/\Au (.node (y0,y1,y2,y3,y4,()) ys:Rose Lab)=true/\As (.node (y0,y1,y2,y3,y4,()) ys:Rose Lab)<=(n+1)/\As (.node (y0,y1,y2,y3,y4,()) ys:Rose Lab)<=1000000):De prog (Ab [(145,.rd1 (rsN (n+1))),(210,.rd1 QU),(211,.rd1 J5),(180,.rd1 NV),(181,.rd1 (ptN n)),(165,.rd1 Fo),(182,.rd1 EQ)]) (Ab [(8,ptE n)]) f181 [.s s,.agg [.j y0,.s y1,.j y2,.b y3,.j y4,.sl (.rose LCd) ys]] []=some (.tup [.agg [.j (B3 (.node (y0,y1,y2,y3,y4,()) ys:Rose Lab) s).lab.1,.s (B3 (.node (y0,y1,y2,y3,y4,()) ys:Rose Lab) s).lab.2.1,.j (B3 (.node (y0,y1,y2,y3,y4,()) ys:Rose Lab) s).lab.2.2.1,.b (B3 (.node (y0,y1,y2,y3,y4,()) ys:Rose Lab) s).lab.2.2.2.1,.ref 0 0 (B3 (.node (y0,y1,y2,y3,y4,()) ys:Rose Lab) s).kids.length],.b (AU (.node (y0,y1,y2,y3,y4,()) ys:Rose Lab) s 0).isSome],[some (.row false none (.rose VCd) (B3 (.node (y0,y1,y2,y3,y4,()) ys:Rose Lab) s).kids)]):=by
 obtain ⟨h1,h2,h3,h4,h5⟩:=hc
 rw [YU]
 have hck:As (.node (y0,y1,y2,y3,y4,()) ys:Rose Lab)=A1 ys+1:=Cq _
 try dsimp only [shr]
 simp only [AQ,List.nil_append,drop_zero]
 unfold B3
 rcases K9 h3 h2 with q | q | q
 ·have q:y0=2:=q
  rw [Af (beq_iff_eq.2 q),E3 (show ((.node (y0,y1,y2,y3,y4,()) ys:Rose Lab)).lab.1=2 from q),if_pos (show ((.node (y0,y1,y2,y3,y4,()) ys:Rose Lab)).lab.1=2 from q)]
  by_cases q3:s.length<=30
  ·rw [if_pos q3,dcT (by omega)]; rfl
  ·rw [if_neg q3,dcF (by omega)]; rfl
 ·obtain ⟨k1,k2⟩:=Dl h3 q
  have k1:ys.length=1:=k1
  have k2:ys.all Au=true:=k2
  have hq:y0=4:=q
  rw [Ac (beq_eq_false_iff_ne.2 (by omega)),Ac (beq_eq_false_iff_ne.2 (by omega)),E5 q,if_neg (show ¬((.node (y0,y1,y2,y3,y4,()) ys:Rose Lab)).lab.1=2 by rw [q]; decide),if_neg (show ¬((.node (y0,y1,y2,y3,y4,()) ys:Rose Lab)).lab.1=5 by rw [q]; decide),Aa (dcT ⟨by omega,by omega,h1,by first | trivial | rfl,by omega,k1,k2,by omega,by omega⟩)]
  dsimp only [Rose.kids]
  match ys,k1 with
  | [y],_=>
   rw [Hi]
   show ifB (BA (fkB y) (fun n=>A8 y n 0) (fun d=>AU y d 0) s (s.length-0) 0).isSome _ _=_
   dsimp only [hd0]
   rw [sub_zero]
   cases BA (fkB y) (fun n=>A8 y n 0) (fun d=>AU y d 0) s s.length 0<;>rfl
 ·have hq:y0=5:=q
  rw [Ac (beq_eq_false_iff_ne.2 (by omega)),Af (beq_iff_eq.2 hq),if_neg (show ¬((.node (y0,y1,y2,y3,y4,()) ys:Rose Lab)).lab.1=2 by rw [q]; decide),if_pos q,Aa (dcT ⟨h1,hq,h3,h4,h5⟩)]
theorem Abv : ∀ n,(∀ m,m<n->Ag prog 181 (Ent.rd1 (ptN m)).F)->Ag prog 181 (Ent.rd1 (ptN n)).F
 | 0,_=>BD fun vs bs=>by
  unfold Ent.F ptN
  dsimp only
  split
  ·rename_i s y0 y1 y2 y3 y4 ys
   have hz:=Cj (.node (y0,y1,y2,y3,y4,()) ys:Rose Lab)
   have:decide (s.length<=400/\fkB (.node (y0,y1,y2,y3,y4,()) ys:Rose Lab)=false/\Au (.node (y0,y1,y2,y3,y4,()) ys:Rose Lab)=true/\As (.node (y0,y1,y2,y3,y4,()) ys:Rose Lab)<=0/\As (.node (y0,y1,y2,y3,y4,()) ys:Rose Lab)<=1000000)=false:=dcF (by omega)
   rw [this]; rfl
  ·rfl
 | n+1,ihs=>by
  have ih:=ihs n (Nat.lt_succ_self n)
  have hr:=W8 n ih
  refine A6 (kc func145 hr (kc func210 tvs (kc func211 Ads (kc func180 sfk (kc func181 ih (kc func165 Xt (kc func182 Ts KnowsL.nil))))))).knows (Λ:=(Ab [(8,ptE n)])) func181 (c:=f181.body.getD .skip) (by kernel_rfl) fun vs bs r hq hv hb=>?_
  unfold Ent.F ptN at hq
  dsimp only at hq
  split at hq
  ·rename_i s y0 y1 y2 y3 y4 ys
   obtain ⟨hc,hx⟩:=Ad hq
   exact ⟨Ad2 n (n+1),(Abu n s y0 y1 y2 y3 y4 ys (of_decide_eq_true hc)).trans hx⟩
  ·cases hq
theorem Abw (n:Nat):Ag prog 181 (Ent.rd1 (ptN n)).F:=Nat.strongRecOn n fun n h=>Abv n h
theorem Abp (n:Nat):Ag prog 145 (Ent.rd1 (rsN (n+1))).F:=W8 n (Abw n)
def UH (l:List Ty) (s:List UInt8):Bool:=decide (s.length<=400)&&Bf l
def Md (l:List Ty) (s:List UInt8):Bool:=UH l s&&(AU (t2L l 0) s 0).isSome
def Aco:Gm
 | [.s s,.agg [.sl TCd l]],[]=>.need (decide (l.length<=4000000000)&&nmL l) (.leaf (.tup [.b (Md l s),.b (UH l s)],[]))
 | _,_=>.no
theorem Ht {l:List Ty} (h:Bf l=true):CY (t2L l 0)=true/\0<l.length/\l.length<=30:=by
 have e:=((HR l).2 h)
 unfold Bf at h
 simp only [anE,dcE,beq_iff_eq] at h
 rw [<-e]
 exact ⟨h.2,by omega,by omega⟩
theorem X8 (s:List UInt8) (l:List Ty):Ax prog (Ab [(77,.rd1 Jv),(83,.rd1 HA),(145,.rd1 (rsN 1000001))]) (Ab []) f99 [.s s,.agg [.sl TCd l]] [] =
 ((ifB (decide ((↑s.length:Int)>(400:Int))) (some (V.tup [V.b false,V.b false],[])) (ifT (decide (l.length<=4000000000)&&nmL l) (ifB (!Bf l) (some
 (V.tup [V.b false,V.b false],[])) (ifT (decide ((0:Int)<=(0:Int)/\0<l.length/\l.length<=4000000000)) (ifT (decide (s.length<=400/\
 (t2L l 0).lab.fst=(5:Int)/\Au (Rose.node ((t2L l 0).lab.fst,(t2L l 0).lab.snd.fst,(t2L l 0).lab.snd.snd.fst,(t2L l (0 :
 Nat)).lab.snd.snd.snd.fst,(t2L l 0).lab.snd.snd.snd.snd.fst,()) (take (t2L l 0).kids.length (drop 0 (t2L l 0).kids)))=true/\
 As (Rose.node ((t2L l 0).lab.fst,(t2L l 0).lab.snd.fst,(t2L l 0).lab.snd.snd.fst,(t2L l 0).lab.snd.snd.snd.fst,(t2L l (0 :
 Nat)).lab.snd.snd.snd.snd.fst,()) (take (t2L l 0).kids.length (drop 0 (t2L l 0).kids)))<=1000001/\As (Rose.node ((t2L l (0
 : Nat)).lab.fst,(t2L l 0).lab.snd.fst,(t2L l 0).lab.snd.snd.fst,(t2L l 0).lab.snd.snd.snd.fst,(t2L l 0).lab.snd.snd.snd.snd.fst,())
 (take (t2L l 0).kids.length (drop 0 (t2L l 0).kids)))<=1000000)) (some (V.tup [V.b (AU (Rose.node ((t2L l 0).lab.fst,
 (t2L l 0).lab.snd.fst,(t2L l 0).lab.snd.snd.fst,(t2L l 0).lab.snd.snd.snd.fst,(t2L l 0).lab.snd.snd.snd.snd.fst,()) (take (t2L l
 0).kids.length (drop 0 (t2L l 0).kids))) s (0:Int)).isSome,V.b true],[]))))))):_):=by kernel_rfl
theorem Aff:Ag prog 99 (Ent.rd1 Aco).F:=by
 refine Ae (kc func77 Wu (kc func83 RX (kc func145 (Abp 1000000) KnowsL.nil))).knows (Λ:=Ab []) func99 (c:=f99.body.getD .skip) (by kernel_rfl) fun vs bs r hq hv hb=>?_
 unfold Ent.F Aco at hq
 dsimp only at hq
 split at hq
 ·rename_i s l
  obtain ⟨hc,hx⟩:=Ad hq
  rw [anE,dcE] at hc
  refine ⟨Ak _,(X8 s l).trans (Eq.trans ?_ hx)⟩
  try dsimp only [shr]
  show _=some _
  unfold Md UH
  have hn:(decide (l.length<=4000000000)&&nmL l)=true:=by rw [hc.2,dcT hc.1]; rfl
  by_cases q:s.length<=400
  ·rw [Ac (dcF (by omega)),dcT q,Bool.true_and,hn,Cn]
   cases hk:Bf l with
   | false=>rfl
   | true=>
    obtain ⟨h1,h2,h3⟩:=Ht hk
    obtain ⟨g1,g2,g3⟩:=Do h1
    rw [Bool.not_true,AS,Aa (dcT ⟨by omega,by omega,hc.1⟩)]
    simp only [drop_zero,take_length,BV]
    rw [Aa (dcT ⟨q,g1,g2,by omega,by omega⟩)]
    rfl
  ·rw [Af (dcT (by omega)),dcF q]
   rfl
 ·cases hq






def kpC:Gm
 | [.tp LCd z 0,.bx [.i .i64 x] 0],[]=>.leaf (.b (z.lab.2.2.1==x),[])
 | _,_=>.no
def kpE  : LoopEnt:=⟨19,[0,1,4,7,8],[],[4],fun
 | ([.sl (.tree LCd) l,.fn 178 [] [.ptr 0 0],.i .i64 r,.i .i64 k,.i .i64 i],[some (.box [.i .i64 x])])=>
  .need (decide (0<=i/\i.toNat<=l.length/\l.length<=maxI/\k=l.length)) (.br (decide (Aq (fun z:Rose Lab=>z.lab.2.2.1==x) i.toNat (l.drop i.toNat)<0)) (.leaf (.exit 0,([],[some (.box [.i .i64 x])]))) (.leaf (.ret,([.i .i64 (Aq (fun z:Rose Lab=>z.lab.2.2.1==x) i.toNat (l.drop i.toNat))],[some (.box [.i .i64 x])]))))
 | _=>.no⟩
def Ach  : Gm
 | [.sl (.tree LCd) l,.fn 178 [] [.ptr 0 0]],[.box [.i .i64 x]]=>.leaf (.i .i64 (Aq (fun z:Rose Lab=>z.lab.2.2.1==x) 0 l),[some (.box [.i .i64 x])])
 | _,_=>.no
def Sc:Gm
 | [.tp LCd z 0,.i .i64 x],[]=>.need (decide (z.kids.length<=maxI)) (.br (B8 x z.kids) (.leaf (.tp LCd (byR x z.kids) 0,[])) (.leaf (.np,[])))
 | _,_=>.no
theorem Zt:Ag prog 178 (Ent.rd1 kpC).F:=by
 refine Ae KnowsL.nil.knows (Λ:=Ab []) func178 (c:=f178.body.getD .skip) (by kernel_rfl) fun vs bs r hq hv hb=>?_
 unfold Ent.F kpC at hq
 dsimp only at hq
 split at hq
 ·rename_i z x
  refine ⟨Ak _,Eq.trans ?_ hq⟩
  have e:Ax prog (Ab []) (Ab []) f178 [.tp LCd z 0,.bx [.j x] 0] []=((some (V.b (z.lab.snd.snd.fst==x),[])):_):=by kernel_rfl
  rw [e]
  rfl
 ·cases hq
theorem PV  (x:Int) (l:List (Rose Lab)) (r k i:Int):Av prog (Ab [(178,.rd1 kpC)]) (Ab [(2,kpE)]) 1 (body f177 0) kpE ([.sl (.tree LCd) l,.fn 178 [] [.ptr 0 0],.j r,.j k,.j i],[some (.box [.j x])]) =
 ((ifB (decide (i<k)) (ifT (decide ((0:Int)<=i)&&decide (i<(↑l.length:Int))) (Ah l[i.toNat]? fun z=>ifB ((Rose.lab z).snd.snd.fst==x) (some (Ex.ret,[V.i
 .i64 i],[some (Blk.box [V.j x])])) (some (Ex.normal,[V.sl LCd.tree l,V.fn 178 [] [V.ptr 0 0],V.j r,V.j k,V.i .i64
 (i64.wrap (i+(1:Int)))],[some (Blk.box [V.j x])])))) (some (Ex.exit 0,[],[some (Blk.box [V.j x])]))):_):=by kernel_rfl
theorem Tv  (x:Int) {l:List (Rose Lab)} {r:Int} (hx:l.length<=maxI) : ∀ (j i:Nat),i+j=l.length->∀ e d',(.br (decide (Aq (fun z:Rose Lab=>z.lab.2.2.1==x) i (l.drop i)<0)) (.leaf (.exit 0,([],[some (.box [.j x])]))) (.leaf (.ret,([.j (Aq (fun z:Rose Lab=>z.lab.2.2.1==x) i (l.drop i))],[some (.box [.j x])]))):Br (Ex×Dt)).run=some (e,d')->
  Runs prog (Ab [(178,.rd1 kpC)]) (Ab [(2,kpE)]) 1 (body f177 0) kpE ([.sl (.tree LCd) l,.fn 178 [] [.ptr 0 0],.j r,.j (l.length:Int),.j (i:Int)],[some (.box [.j x])]) e d'
 | 0,i,hi,e,d',h=>by
  have e1:l.drop i=[]:=drop_eq_nil_of_le (by omega)
  rw [e1,BB,Aq,if_pos (by omega)] at h
  cases h
  have hr:=PV x l r l.length i
  rw [Ac (dcF (by omega))] at hr
  exact .stop _ _ _ hr (by simp)
 | j+1,i,hi,e,d',h=>by
  have h1:i<l.length:=by omega
  have hr:=PV x l r l.length i
  rw [Af (dcT (by omega)),Aa (by simp only [anE,dcE]; omega)] at hr
  simp only [ntN,gtE h1,Am,Ap (n:=i) (by omega)] at hr
  rw [drop_eq_getElem_cons h1,BB,Aq] at h
  by_cases he:(fun z:Rose Lab=>z.lab.2.2.1==x) l[i]=true
  ·rw [if_pos he,if_neg (by omega)] at h
   cases h
   rw [Af he] at hr
   exact .stop _ _ _ hr (by simp)
  ·rw [if_neg he] at h
   rw [Ac (by simpa using he)] at hr
   exact .step _ _ _ _ hr (Tv x hx j (i+1) (by omega) e d' (by rw [BB]; exact h))
theorem Aeh  : Ar prog (Ab [(178,.rd1 kpC)]) (Ab [(2,kpE)]) 1 (f177.body.getD .skip):=by
 refine An (a:=body f177 0) (by kernel_rfl) fun d e d' h=>?_
 unfold kpE at h
 dsimp only at h
 split at h
 ·obtain ⟨hc,h'⟩:=Ad h
  obtain ⟨h0,h1,h2,rfl⟩:=of_decide_eq_true hc
  obtain ⟨i,rfl⟩:=eq_ofNat_of_zero_le h0
  exact Tv _  h2 _ i (add_sub_of_le h1) e d' h'
 ·cases h
theorem Acj  (x:Int) (l:List (Rose Lab)) (hx:l.length<=maxI):Ax prog (Ab [(178,.rd1 kpC)]) (Ab [(2,kpE)]) f177 [.sl (.tree LCd) l,.fn 178 [] [.ptr 0 0]] [.box [.j x]]=some (.j (Aq (fun z:Rose Lab=>z.lab.2.2.1==x) 0 l),[some (.box [.j x])]):=by
 have e:Ax prog (Ab [(178,.rd1 kpC)]) (Ab [(2,kpE)]) f177 [.sl (.tree LCd) l,.fn 178 [] [.ptr 0 0]] [.box [.j x]] =
  ((ifT (decide ((0:Int)<=(0:Int)/\0<=l.length/\l.length<=maxI/\(↑l.length:Int)=(↑l.length:Int))) (ifB (decide (Aq (fun z=>z.lab.snd.snd.fst==
 x) 0 (drop 0 l)<(0:Int))) (some (V.j (-1),[some (Blk.box [V.j x])])) (some (V.j (Aq (fun z=>z.lab.snd.snd.fst==x) (0 :
 Nat) (drop 0 l)),[some (Blk.box [V.j x])])))):_):=by kernel_rfl
 rw [e,Aa (dcT ⟨by omega,by omega,hx,rfl⟩)]
 simp only [Int.toNat_zero,drop_zero]
 by_cases q:Aq (fun z:Rose Lab=>z.lab.2.2.1==x) 0 l<0
 ·rw [Af (dcT q),Cp _ _ _ q]
 ·rw [Ac (dcF q)]
theorem Aci  : Ag prog 177 (Ent.own Ach).F:=by
 refine Ae (kc func178 Zt KnowsL.nil).knows (Λ:=(Ab [(2,kpE)])) func177 (c:=f177.body.getD .skip) (by kernel_rfl) fun vs bs r h hv hb=>?_
 unfold Ent.F Ach at h
 dsimp only at h
 split at h
 ·rename_i l x
  have h':=h
  exact ⟨Aeh ,(Acj x l (hv (.sl (.tree LCd) l) (by simp)).1).trans (by cases h'; rfl)⟩
 ·cases h
theorem Sb (z:Rose Lab) (x:Int):Ax prog (Ab [(177,.own Ach)]) (Ab []) f144 [.tp LCd z 0,.j x] [] =
 ((ifB (decide (Aq (fun z=>z.lab.snd.snd.fst==x) 0 z.kids<(0:Int))) (some (V.np,[])) (ifT (decide ((0:Int)<=Aq (fun z=>z.lab.snd.snd.fst==x)
 0 z.kids)&&decide (Aq (fun z=>z.lab.snd.snd.fst==x) 0 z.kids<(↑z.kids.length:Int))) (Ah z.kids[(Aq (fun z=>z.lab.snd.snd.fst==x)
 0 z.kids).toNat]? fun z=>some (V.tp LCd z 0,[])))):_):=by kernel_rfl
theorem Q5 {x:Int} : ∀ {l:List (Rose Lab)} {y:Rose Lab},l.find? (fun z=>z.lab.2.2.1==x)=some y->B8 x l=true/\byR x l=y
 | [],y,h=>by cases h
 | z::l,y,h=>by
  by_cases q:z.lab.2.2.1=x
  ·have hb:(z.lab.2.2.1==x)=true:=by rw [q]; exact beq_self_eq_true _
   rw [List.find?_cons_of_pos (p:=fun z:Rose Lab=>z.lab.2.2.1==x) hb] at h
   refine ⟨I6.2 ⟨z,by simp,q⟩,?_⟩
   rw [byR,if_pos q]
   exact Option.some.inj h
  ·have hb : ¬(z.lab.2.2.1==x)=true:=by rw [beq_false_of_ne q]; simp
   rw [List.find?_cons_of_neg (p:=fun z:Rose Lab=>z.lab.2.2.1==x) hb] at h
   obtain ⟨h1,h2⟩:=Q5 h
   have hne:=Qk (ks:=l) (z:=z) (n:=x) (Ne.symm q)
   rw [hne.1,hne.2]
   exact ⟨h1,h2⟩
theorem Aeg:Ag prog 144 (Ent.rd1 Sc).F:=by
 refine Ae (kc func177 Aci KnowsL.nil).knows (Λ:=Ab []) func144 (c:=f144.body.getD .skip) (by kernel_rfl) fun vs bs r hq hv hb=>?_
 unfold Ent.F Sc at hq
 dsimp only at hq
 split at hq
 ·rename_i z x
  obtain ⟨hc,hx⟩:=Ad hq
  refine ⟨Ak _,Eq.trans ?_ hx⟩
  rw [Sb]
  have ha:=Hd (fun z:Rose Lab=>z.lab.2.2.1==x) z.kids 0
  have hhas:B8 x z.kids=z.kids.any (fun z:Rose Lab=>z.lab.2.2.1==x):=rfl
  by_cases q:Aq (fun z:Rose Lab=>z.lab.2.2.1==x) 0 z.kids<0
  ·rw [Af (dcT q),hhas,<-ha,dcF (by omega)]
   rfl
  ·obtain ⟨i,h1,h2,h3,h4⟩:=Ez (fun z:Rose Lab=>z.lab.2.2.1==x) z.kids 0 (by omega)
   obtain ⟨h5,h6⟩:=Q5 h4
   rw [Ac (dcF q),h2,zero_add,Aa (by simp only [anE,dcE]; omega),ntN,gtE h1,Am,h5,h6]
   rfl
 ·cases hq
mutual
def CK:Rose Lab->Rose Lab->Bool
 | .node y ks,a=>if a.lab.1≠y.1\/y.2.2.2.2.1<a.lab.2.2.2.2.1 then false else if y.1=4 then Pc ks a.kids else Em a.kids ks
def Pc:List (Rose Lab)->List (Rose Lab)->Bool
 | [],_=>true
 | p::_,zs=>CK p (hd0 zs)
def Em (zs:List (Rose Lab)):List (Rose Lab)->Bool
 | []=>true
 | p::ks=>(B8 p.lab.2.2.1 zs&&((!p.lab.2.2.2.1||(byR p.lab.2.2.1 zs).lab.2.2.2.1)&&CK p (byR p.lab.2.2.1 zs)))&&Em zs ks
end
def Fz (a:Rose Lab) (ks:List (Rose Lab)) (i:Nat):Bool:=if a.lab.1=4 then (if i=0 then Pc ks a.kids else true) else Em a.kids (ks.drop i)
def QT (n:Nat):Gm
 | [.tp LCd a 0,.tp LCd b 0],[]=>.need (decide (Au a=true/\Au b=true/\As b<=n/\As b<=1000000/\As a<=1000000)) (.leaf (.b (CK b a),[]))
 | _,_=>.no
def Ry (n:Nat):Gm
 | [.agg [.i .i64 x0,.s x1,.i .i64 x2,.b x3,.i .i64 x4,.sl (.rose LCd) xs],.agg [.i .i64 y0,.s y1,.i .i64 y2,.b y3,.i .i64 y4,.sl (.rose LCd) ys]],[]=>.need (decide (Au (.node (x0,x1,x2,x3,x4,()) xs:Rose Lab)=true/\Au (.node (y0,y1,y2,y3,y4,()) ys:Rose Lab)=true/\As (.node (y0,y1,y2,y3,y4,()) ys:Rose Lab)<=n/\As (.node (y0,y1,y2,y3,y4,()) ys:Rose Lab)<=1000000/\As (.node (x0,x1,x2,x3,x4,()) xs:Rose Lab)<=1000000)) (.leaf (.b (CK (.node (y0,y1,y2,y3,y4,()) ys:Rose Lab) (.node (x0,x1,x2,x3,x4,()) xs:Rose Lab)),[]))
 | _,_=>.no
def Gx (n:Nat):LoopEnt:=⟨83,[0,32,33,34],[],[4],fun
 | ([.tp LCd a 0,.sl (.tree LCd) ks,.i .i64 c,.i .i64 i],[])=>.need (decide (0<=i/\i.toNat<=ks.length/\c=ks.length/\Au a=true/\ks.all Au=true/\(a.lab.1=4->ks.length=1)/\A1 ks<=n/\A1 ks<=1000000/\As a<=1000000)) (.br (Fz a ks i.toNat) (.leaf (.exit 0,([],[]))) (.leaf (.ret,([.b false],[]))))
 | _=>.no⟩
def Gy (n:Nat):LoopEnt:=⟨70,[2,39,40,41],[],[4],fun
 | ([.ptr 0 0,.sl (.rose LCd) ks,.i .i64 c,.i .i64 i],[some (.box [.i .i64 x0,.s x1,.i .i64 x2,.b x3,.i .i64 x4,.sl (.rose LCd) xs])])=>.need (decide (0<=i/\i.toNat<=ks.length/\c=ks.length/\B9 5 xs=true/\ks.all Au=true/\A1 ks<=n/\A1 ks<=1000000/\A1 xs<=1000000)) (.br (Em xs (ks.drop i.toNat)) (.leaf (.exit 0,([],[]))) (.leaf (.ret,([.b false],[]))))
 | _=>.no⟩
abbrev QH (n:Nat):FuncId->Option Ent:=Ab [(144,.rd1 Sc),(97,.rd1 (QT n))]
theorem Mr (n:Nat) (a:Rose Lab) (ks:List (Rose Lab)) (c i:Int):Av prog (QH n) (Ab [(4,Gx n)]) 0 (body f97 0) (Gx n) ([.tp LCd a 0,.sl (.tree LCd) ks,.j c,.j i],[]) =
 ((ifB (decide (i<c)) (ifT (decide ((0:Int)<=i)&&decide (i<(↑ks.length:Int))) (Ah ks[i.toNat]? fun z=>ifB (a.lab.fst==(4:Int)) (ifT (decide ((0:Int)<=
 i)&&decide (i<(↑a.kids.length:Int))) (Ah a.kids[i.toNat]? fun z_1=>ifT (decide (Au z_1=true/\Au z=true/\As z<=n/\As z<=1000000/\
 As z_1<=1000000)) (ifB (!CK z z_1) (some (Ex.ret,[V.b false],[])) (some (Ex.normal,[V.tp LCd a 0,V.sl LCd.tree ks,V.j c,V.i .i64
 (i64.wrap (i+(1:Int)))],[]))))) (ifT (decide (a.kids.length<=maxI)) (ifB (B8 (Rose.lab z).snd.snd.fst a.kids) (ifB (Rose.lab z).snd.snd.snd.fst (ifB
 (!(byR (Rose.lab z).snd.snd.fst a.kids).lab.snd.snd.snd.fst) (some (Ex.ret,[V.b false],[])) (ifT (decide (Au (byR (Rose.lab z).snd.snd.fst a.kids)=true/\Au z
 = true/\As z<=n/\As z<=1000000/\As (byR (Rose.lab z).snd.snd.fst a.kids)<=1000000)) (ifB (!CK z (byR (Rose.lab z).snd.snd.fst a.kids)) (some
 (Ex.ret,[V.b false],[])) (some (Ex.normal,[V.tp LCd a 0,V.sl LCd.tree ks,V.j c,V.j (i64.wrap (i+(1:Int)))],[]))))) (ifT (decide
 (Au (byR (Rose.lab z).snd.snd.fst a.kids)=true/\Au z=true/\As z<=n/\As z<=1000000/\As (byR (Rose.lab z).snd.snd.fst a.kids)<=(1000000 :
 Nat))) (ifB (!CK z (byR (Rose.lab z).snd.snd.fst a.kids)) (some (Ex.ret,[V.b false],[])) (some (Ex.normal,[V.tp LCd a 0,V.sl LCd.tree ks,V.j c,V.i
 .i64 (i64.wrap (i+(1:Int)))],[]))))) (some (Ex.ret,[V.b false],[])))))) (some (Ex.exit 0,[],[]))):_):=by kernel_rfl
theorem VJ (n:Nat) (a b:Rose Lab):De prog (QH n) (Ab [(4,Gx n)]) f97 [.tp LCd a 0,.tp LCd b 0] [] =
 ((ifB (a.lab.fst != b.lab.fst) (some (V.b false,[])) (ifB (decide (a.lab.snd.snd.snd.snd.fst>b.lab.snd.snd.snd.snd.fst)) (some (V.b false,[])) (ifT (decide ((0:Int)<=
 (0:Int)/\0<=b.kids.length/\(↑b.kids.length:Int)=(↑b.kids.length:Int)/\Au a=true/\b.kids.all Au=true/\(a.lab.fst=(4:(Cd.int
 .i64).den)->b.kids.length=1)/\A1 b.kids<=n/\A1 b.kids<=1000000/\As a<=1000000)) (ifB (Fz a b.kids 0) (some (V.b true,
 [])) (some (V.b false,[])))))):_):=by kernel_rfl
abbrev QG (n:Nat):FuncId->Option Ent:=Ab [(127,.rd1 byG),(82,.rd1 (Ry n))]
theorem M9 (n:Nat) (x0:Int) (x1:List UInt8) (x2:Int) (x3:Bool) (x4:Int) (xs:List (Rose Lab)) (ks:List (Rose Lab)) (c i:Int):Av prog (QG n) (Ab [(6,Gy n)]) 0 (body f82 0) (Gy n) ([.ptr 0 0,.sl (.rose LCd) ks,.j c,.j i],[some (.box [.j x0,.s x1,.j x2,.b x3,.j x4,.sl (.rose LCd) xs])]) =
 ((ifB (decide (i<c)) (ifT (decide ((0:Int)<=i)&&decide (i<(↑ks.length:Int))) (Ah ks[i.toNat]? fun z=>ifT (decide (xs.length<=maxI)) (ifB (B8 (Rose.lab
 z).snd.snd.fst xs) (ifB (Rose.lab z).snd.snd.snd.fst (ifB (!(byR (Rose.lab z).snd.snd.fst xs).lab.snd.snd.snd.fst) (some (Ex.ret,[V.b false],[])) (ifT (decide (Au
 (Rose.node ((byR (Rose.lab z).snd.snd.fst xs).lab.fst,(byR (Rose.lab z).snd.snd.fst xs).lab.snd.fst,(byR (Rose.lab z).snd.snd.fst xs).lab.snd.snd.fst,(byR (Rose.lab
 z).snd.snd.fst xs).lab.snd.snd.snd.fst,(byR (Rose.lab z).snd.snd.fst xs).lab.snd.snd.snd.snd.fst,()) (byR (Rose.lab z).snd.snd.fst xs).kids)=true/\Au (Rose.node
 ((Rose.lab z).fst,(Rose.lab z).snd.fst,(Rose.lab z).snd.snd.fst,(Rose.lab z).snd.snd.snd.fst,(Rose.lab z).snd.snd.snd.snd.fst,()) (Rose.kids z))=true/\As
 (Rose.node ((Rose.lab z).fst,(Rose.lab z).snd.fst,(Rose.lab z).snd.snd.fst,(Rose.lab z).snd.snd.snd.fst,(Rose.lab z).snd.snd.snd.snd.fst,()) (Rose.kids z))<=n/\
 As (Rose.node ((Rose.lab z).fst,(Rose.lab z).snd.fst,(Rose.lab z).snd.snd.fst,(Rose.lab z).snd.snd.snd.fst,(Rose.lab z).snd.snd.snd.snd.fst,()) (Rose.kids z))<=
 1000000/\As (Rose.node ((byR (Rose.lab z).snd.snd.fst xs).lab.fst,(byR (Rose.lab z).snd.snd.fst xs).lab.snd.fst,(byR (Rose.lab z).snd.snd.fst
 xs).lab.snd.snd.fst,(byR (Rose.lab z).snd.snd.fst xs).lab.snd.snd.snd.fst,(byR (Rose.lab z).snd.snd.fst xs).lab.snd.snd.snd.snd.fst,()) (byR (Rose.lab z).snd.snd.fst
 xs).kids)<=1000000)) (ifB (!CK (Rose.node ((Rose.lab z).fst,(Rose.lab z).snd.fst,(Rose.lab z).snd.snd.fst,(Rose.lab z).snd.snd.snd.fst,(Rose.lab
 z).snd.snd.snd.snd.fst,()) (Rose.kids z)) (Rose.node ((byR (Rose.lab z).snd.snd.fst xs).lab.fst,(byR (Rose.lab z).snd.snd.fst xs).lab.snd.fst,(byR (Rose.lab
 z).snd.snd.fst xs).lab.snd.snd.fst,(byR (Rose.lab z).snd.snd.fst xs).lab.snd.snd.snd.fst,(byR (Rose.lab z).snd.snd.fst xs).lab.snd.snd.snd.snd.fst,()) (byR (Rose.lab
 z).snd.snd.fst xs).kids)) (some (Ex.ret,[V.b false],[])) (some (Ex.normal,[V.ptr 0 0,V.sl LCd.rose ks,V.j c,V.j (i64.wrap (i+(1:Int)))],[some
 (Blk.box [V.j x0,V.s x1,V.j x2,V.b x3,V.j x4,V.sl LCd.rose xs])]))))) (ifT (decide (Au (Rose.node ((byR (Rose.lab z).snd.snd.fst xs).lab.fst,(byR
 (Rose.lab z).snd.snd.fst xs).lab.snd.fst,(byR (Rose.lab z).snd.snd.fst xs).lab.snd.snd.fst,(byR (Rose.lab z).snd.snd.fst xs).lab.snd.snd.snd.fst,(byR (Rose.lab
 z).snd.snd.fst xs).lab.snd.snd.snd.snd.fst,()) (byR (Rose.lab z).snd.snd.fst xs).kids)=true/\Au (Rose.node ((Rose.lab z).fst,(Rose.lab z).snd.fst,(Rose.lab
 z).snd.snd.fst,(Rose.lab z).snd.snd.snd.fst,(Rose.lab z).snd.snd.snd.snd.fst,()) (Rose.kids z))=true/\As (Rose.node ((Rose.lab z).fst,(Rose.lab z).snd.fst,
 (Rose.lab z).snd.snd.fst,(Rose.lab z).snd.snd.snd.fst,(Rose.lab z).snd.snd.snd.snd.fst,()) (Rose.kids z))<=n/\As (Rose.node ((Rose.lab z).fst,(Rose.lab
 z).snd.fst,(Rose.lab z).snd.snd.fst,(Rose.lab z).snd.snd.snd.fst,(Rose.lab z).snd.snd.snd.snd.fst,()) (Rose.kids z))<=1000000/\As (Rose.node ((byR
 (Rose.lab z).snd.snd.fst xs).lab.fst,(byR (Rose.lab z).snd.snd.fst xs).lab.snd.fst,(byR (Rose.lab z).snd.snd.fst xs).lab.snd.snd.fst,(byR (Rose.lab z).snd.snd.fst
 xs).lab.snd.snd.snd.fst,(byR (Rose.lab z).snd.snd.fst xs).lab.snd.snd.snd.snd.fst,()) (byR (Rose.lab z).snd.snd.fst xs).kids)<=1000000)) (ifB (!CK (Rose.node
 ((Rose.lab z).fst,(Rose.lab z).snd.fst,(Rose.lab z).snd.snd.fst,(Rose.lab z).snd.snd.snd.fst,(Rose.lab z).snd.snd.snd.snd.fst,()) (Rose.kids z)) (Rose.node ((byR
 (Rose.lab z).snd.snd.fst xs).lab.fst,(byR (Rose.lab z).snd.snd.fst xs).lab.snd.fst,(byR (Rose.lab z).snd.snd.fst xs).lab.snd.snd.fst,(byR (Rose.lab z).snd.snd.fst
 xs).lab.snd.snd.snd.fst,(byR (Rose.lab z).snd.snd.fst xs).lab.snd.snd.snd.snd.fst,()) (byR (Rose.lab z).snd.snd.fst xs).kids)) (some (Ex.ret,[V.b false],[])) (some
 (Ex.normal,[V.ptr 0 0,V.sl LCd.rose ks,V.j c,V.j (i64.wrap (i+(1:Int)))],[some (Blk.box [V.j x0,V.s x1,V.j x2,V.b x3,V.j x4,
 V.sl LCd.rose xs])]))))) (some (Ex.ret,[V.b false],[]))))) (some (Ex.exit 0,[],[]))):_):=by kernel_rfl
theorem Wn (n:Nat) (x0:Int) (x1:List UInt8) (x2:Int) (x3:Bool) (x4:Int) (xs:List (Rose Lab)) (y0:Int) (y1:List UInt8) (y2:Int) (y3:Bool) (y4:Int) (ys:List (Rose Lab)):De prog (QG n) (Ab [(6,Gy n)]) f82 [.agg [.j x0,.s x1,.j x2,.b x3,.j x4,.sl (.rose LCd) xs],.agg [.j y0,.s y1,.j y2,.b y3,.j y4,.sl (.rose LCd) ys]] [] =
 ((ifB (x0 != y0) (some (V.b false,[])) (ifB (x0==(3:Int)) (ifB (decide (x4>y4)) (some (V.b false,[])) (ifB (x0==(4:Int)) (ifT (decide ((0:Int)<=(0:Int))&&
 decide ((0:Int)<(↑xs.length:Int))) (Ah xs[0]? fun z=>ifT (decide ((0:Int)<=(0:Int))&&decide ((0:Int)<(↑ys.length:Int))) (Ah ys[(0 :
 Nat)]? fun z_1=>ifT (decide (Au (Rose.node ((Rose.lab z).fst,(Rose.lab z).snd.fst,(Rose.lab z).snd.snd.fst,(Rose.lab z).snd.snd.snd.fst,(Rose.lab
 z).snd.snd.snd.snd.fst,()) (Rose.kids z))=true/\Au (Rose.node ((Rose.lab z_1).fst,(Rose.lab z_1).snd.fst,(Rose.lab z_1).snd.snd.fst,(Rose.lab
 z_1).snd.snd.snd.fst,(Rose.lab z_1).snd.snd.snd.snd.fst,()) (Rose.kids z_1))=true/\As (Rose.node ((Rose.lab z_1).fst,(Rose.lab z_1).snd.fst,(Rose.lab
 z_1).snd.snd.fst,(Rose.lab z_1).snd.snd.snd.fst,(Rose.lab z_1).snd.snd.snd.snd.fst,()) (Rose.kids z_1))<=n/\As (Rose.node ((Rose.lab z_1).fst,(Rose.lab
 z_1).snd.fst,(Rose.lab z_1).snd.snd.fst,(Rose.lab z_1).snd.snd.snd.fst,(Rose.lab z_1).snd.snd.snd.snd.fst,()) (Rose.kids z_1))<=1000000/\As (Rose.node
 ((Rose.lab z).fst,(Rose.lab z).snd.fst,(Rose.lab z).snd.snd.fst,(Rose.lab z).snd.snd.snd.fst,(Rose.lab z).snd.snd.snd.snd.fst,()) (Rose.kids z))<=1000000))
 (some (V.b (CK (Rose.node ((Rose.lab z_1).fst,(Rose.lab z_1).snd.fst,(Rose.lab z_1).snd.snd.fst,(Rose.lab z_1).snd.snd.snd.fst,(Rose.lab z_1).snd.snd.snd.snd.fst,
 ()) (Rose.kids z_1)) (Rose.node ((Rose.lab z).fst,(Rose.lab z).snd.fst,(Rose.lab z).snd.snd.fst,(Rose.lab z).snd.snd.snd.fst,(Rose.lab z).snd.snd.snd.snd.fst,())
 (Rose.kids z))),[]))))) (ifT (decide ((0:Int)<=(0:Int)/\0<=ys.length/\(↑ys.length:Int)=(↑ys.length:Int)/\B9 (5:Int) xs=true/\ys.all
 Au=true/\A1 ys<=n/\A1 ys<=1000000/\A1 xs<=1000000)) (ifB (Em xs (drop 0 ys)) (some (V.b true,[])) (some (V.b false,
 [])))))) (ifB (x0==(4:Int)) (ifT (decide ((0:Int)<=(0:Int))&&decide ((0:Int)<(↑xs.length:Int))) (Ah xs[0]? fun z=>ifT (decide ((0:Int)<=
 (0:Int))&&decide ((0:Int)<(↑ys.length:Int))) (Ah ys[0]? fun z_1=>ifT (decide (Au (Rose.node ((Rose.lab z).fst,(Rose.lab z).snd.fst,(Rose.lab
 z).snd.snd.fst,(Rose.lab z).snd.snd.snd.fst,(Rose.lab z).snd.snd.snd.snd.fst,()) (Rose.kids z))=true/\Au (Rose.node ((Rose.lab z_1).fst,(Rose.lab z_1).snd.fst,
 (Rose.lab z_1).snd.snd.fst,(Rose.lab z_1).snd.snd.snd.fst,(Rose.lab z_1).snd.snd.snd.snd.fst,()) (Rose.kids z_1))=true/\As (Rose.node ((Rose.lab z_1).fst,
 (Rose.lab z_1).snd.fst,(Rose.lab z_1).snd.snd.fst,(Rose.lab z_1).snd.snd.snd.fst,(Rose.lab z_1).snd.snd.snd.snd.fst,()) (Rose.kids z_1))<=n/\As (Rose.node
 ((Rose.lab z_1).fst,(Rose.lab z_1).snd.fst,(Rose.lab z_1).snd.snd.fst,(Rose.lab z_1).snd.snd.snd.fst,(Rose.lab z_1).snd.snd.snd.snd.fst,()) (Rose.kids z_1))<=
 1000000/\As (Rose.node ((Rose.lab z).fst,(Rose.lab z).snd.fst,(Rose.lab z).snd.snd.fst,(Rose.lab z).snd.snd.snd.fst,(Rose.lab z).snd.snd.snd.snd.fst,())
 (Rose.kids z))<=1000000)) (some (V.b (CK (Rose.node ((Rose.lab z_1).fst,(Rose.lab z_1).snd.fst,(Rose.lab z_1).snd.snd.fst,(Rose.lab z_1).snd.snd.snd.fst,
 (Rose.lab z_1).snd.snd.snd.snd.fst,()) (Rose.kids z_1)) (Rose.node ((Rose.lab z).fst,(Rose.lab z).snd.fst,(Rose.lab z).snd.snd.fst,(Rose.lab z).snd.snd.snd.fst,
 (Rose.lab z).snd.snd.snd.snd.fst,()) (Rose.kids z))),[]))))) (ifT (decide ((0:Int)<=(0:Int)/\0<=ys.length/\(↑ys.length:Int)=(↑ys.length:Int)/\
 B9 (5:Int) xs=true/\ys.all Au=true/\A1 ys<=n/\A1 ys<=1000000/\A1 xs<=1000000)) (ifB (Em xs (drop 0 ys)) (some
 (V.b true,[])) (some (V.b false,[]))))))):_):=by kernel_rfl

theorem OR (n:Nat) (a:Rose Lab) (ha:Au a=true) (ks:List (Rose Lab)) (hks:ks.all Au=true) (h4:a.lab.1=4->ks.length=1) (hcn:A1 ks<=n) (hc6:A1 ks<=1000000) (hca:As a<=1000000) : ∀ (j i:Nat),i+j=ks.length->∀ ex d,(Br.br (Fz a ks i) (.leaf (.exit 0,([],[]))) (.leaf (.ret,([.b false],[]))):Br (Ex×Dt)).run=some (ex,d)->Runs prog (QH n) (Ab [(4,Gx n)]) 0 (body f97 0) (Gx n) ([.tp LCd a 0,.sl (.tree LCd) ks,.j (ks.length:Int),.j (i:Int)],[]) ex d
 | 0,i,hi,ex,d,h=>by
  have hr:=Mr n a ks ks.length i
  rw [Ac (dcF (by omega))] at hr
  have e:Fz a ks i=true:=by
   unfold Fz
   rw [drop_eq_nil_of_le (by omega)]
   split
   ·rename_i q
    have:=h4 q
    rw [if_neg (by omega)]
   ·rfl
  rw [Id e] at h
  have h8:=Ao h
  obtain ⟨rfl,rfl⟩:=Prod.mk.inj h8
  exact .stop _ _ _ hr (by simp)
 | j+1,i,hi,ex,d,h=>by
  have hl:i<ks.length:=by omega
  have hM:maxI=9223372036854775807:=rfl
  have hr:=Mr n a ks ks.length i
  have hlen:=C7 ks
  have W1:i64.wrap ((i:Int)+1)=((i+1:Nat):Int):=by rw [Aw (by omega) (by omega)]; omega
  have hd:=drop_eq_getElem_cons hl
  have hm:=getElem_mem hl
  have hrz:=all_eq_true.1 hks _ hm
  have hcz:=Cb hm
  have hka:=Cq a
  have hla:=C7 a.kids
  have bad : ∀ {w},Av prog (QH n) (Ab [(4,Gx n)]) 0 (body f97 0) (Gx n) ([.tp LCd a 0,.sl (.tree LCd) ks,.j (ks.length:Int),.j (i:Int)],[])=w->w=some ((.ret:Ex),(([.b false]:List V),([]:List (Option Blk))))->Fz a ks i=false->Runs prog (QH n) (Ab [(4,Gx n)]) 0 (body f97 0) (Gx n) ([.tp LCd a 0,.sl (.tree LCd) ks,.j (ks.length:Int),.j (i:Int)],[]) ex d:=fun e1 e2 e3=>by
   rw [IM e3] at h
   have h8:=Ao h
   obtain ⟨rfl,rfl⟩:=Prod.mk.inj h8
   exact .stop _ _ _ (e1.trans e2) (by simp)
  have good : ∀ {w},Av prog (QH n) (Ab [(4,Gx n)]) 0 (body f97 0) (Gx n) ([.tp LCd a 0,.sl (.tree LCd) ks,.j (ks.length:Int),.j (i:Int)],[])=w->w=some ((.normal:Ex),(([.tp LCd a 0,.sl (.tree LCd) ks,.j (ks.length:Int),.j ((i+1:Nat):Int)],[]):Dt))->Fz a ks i=Fz a ks (i+1)->Runs prog (QH n) (Ab [(4,Gx n)]) 0 (body f97 0) (Gx n) ([.tp LCd a 0,.sl (.tree LCd) ks,.j (ks.length:Int),.j (i:Int)],[]) ex d:=fun e1 e2 e3=>
   .step _ _ _ _ (e1.trans e2) (OR n a ha ks hks h4 hcn hc6 hca j (i+1) (by omega) ex d (by rw [<-e3]; exact h))
  rw [Af (dcT (by omega)),Aa (by simp only [anE,dcE]; omega),ntN,gtE hl,Am,W1] at hr
  by_cases q4:a.lab.1=4
  ·have hk1:=h4 q4
   obtain ⟨ka,kb⟩:=Dl ha q4
   obtain rfl:i=0:=by omega
   have e0:Fz a ks 0=CK ks[0] (hd0 a.kids):=by
    unfold Fz
    rw [if_pos q4,if_pos rfl]
    match ks,hl with
    | p::ks,_=>rw [Pc]; rfl
   have e1:Fz a ks (0+1)=true:=by unfold Fz; rw [if_pos q4,if_neg (by omega)]
   have hz:0<a.kids.length:=by omega
   have hx:a.kids[0]=hd0 a.kids:=by
    match hk:a.kids,hz with
    | x::xs,_=>rfl
   have hxr:=all_eq_true.1 kb _ (getElem_mem hz)
   have hxc:=Cb (getElem_mem hz)
   rw [Af (beq_iff_eq.2 q4),Aa (by simp only [anE,dcE]; omega),gtE hz,Am,Aa (dcT ⟨hxr,hrz,by omega,by omega,by omega⟩),hx] at hr
   cases hs:CK ks[0] (hd0 a.kids) with
   | false=>rw [hs] at hr; exact bad hr rfl (e0.trans hs)
   | true=>rw [hs] at hr; exact good hr rfl ((e0.trans hs).trans e1.symm)
  ·have hal:=(CN ha).2
   have e0:Fz a ks i=((B8 ks[i].lab.2.2.1 a.kids&&((!ks[i].lab.2.2.2.1||(byR ks[i].lab.2.2.1 a.kids).lab.2.2.2.1)&&CK ks[i] (byR ks[i].lab.2.2.1 a.kids)))&&Fz a ks (i+1)):=by
    unfold Fz
    rw [if_neg q4,if_neg q4,hd,Em]
   rw [Ac (beq_eq_false_iff_ne.2 q4),Aa (dcT (by omega))] at hr
   generalize ks[i]=p at hr e0 hrz hcz
   cases hn:B8 p.lab.2.2.1 a.kids with
   | false=>rw [hn] at hr e0; exact bad hr rfl (by rw [e0]; rfl)
   | true=>
    obtain ⟨bm,bn⟩:=Gc hn
    have hxr:=(BN hal _ bm).2
    have hxc:=Cb bm
    rw [hn] at hr e0
    simp only [Be,Aa (dcT (show Au (byR p.lab.2.2.1 a.kids)=true/\Au p=true/\As p<=n/\As p<=1000000/\As (byR p.lab.2.2.1 a.kids)<=1000000 from ⟨hxr,hrz,by omega,by omega,by omega⟩))] at hr
    cases hmu:p.lab.2.2.2.1 with
    | true=>
     rw [hmu] at hr e0
     cases hmx:(byR p.lab.2.2.1 a.kids).lab.2.2.2.1 with
     | false=>rw [hmx] at hr e0; exact bad hr rfl (by rw [e0]; rfl)
     | true=>
      rw [hmx] at hr e0
      cases hs:CK p (byR p.lab.2.2.1 a.kids) with
      | false=>rw [hs] at hr e0; exact bad hr rfl (by rw [e0]; rfl)
      | true=>rw [hs] at hr e0; exact good hr rfl (by rw [e0]; rfl)
    | false=>
     rw [hmu] at hr e0
     cases hs:CK p (byR p.lab.2.2.1 a.kids) with
     | false=>rw [hs] at hr e0; exact bad hr rfl (by rw [e0]; rfl)
     | true=>rw [hs] at hr e0; exact good hr rfl (by rw [e0]; rfl)
theorem Aa9 (n:Nat):Ar prog (QH n) (Ab [(4,Gx n)]) 0 (f97.body.getD .skip):=by
 refine An (a:=body f97 0) (by kernel_rfl) fun d ex d' h=>?_
 unfold Gx at h
 dsimp only at h
 split at h
 ·rename_i a ks c i
  obtain ⟨hc,hx⟩:=Ad h
  obtain ⟨h0,h1,rfl,h3,h4,h5,h6,h7,h8⟩:=of_decide_eq_true hc
  obtain ⟨i,rfl⟩:=eq_ofNat_of_zero_le h0
  simp only [ntN] at h1 hx
  exact OR n a h3 ks h4 h5 h6 h7 h8 (ks.length-i) i (by omega) ex d' hx
 ·cases h
theorem YB (b a:Rose Lab):CK b a=if a.lab.1≠b.lab.1\/b.lab.2.2.2.2.1<a.lab.2.2.2.2.1 then false else if b.lab.1=4 then Pc b.kids a.kids else Em a.kids b.kids:=by
 obtain ⟨y,ks⟩:=b
 rw [CK]; rfl
theorem Ii {z:Rose Lab} (h:Au z=true):z.kids.all Au=true:=all_eq_true.2 fun y hy=>(BN (CN h).2 y hy).2
theorem Yy : ∀ n,(∀ m,m<n->Ag prog 97 (Ent.rd1 (QT m)).F)->Ag prog 97 (Ent.rd1 (QT n)).F
 | 0,_=>BD fun vs bs=>by
  unfold Ent.F QT
  dsimp only
  split
  ·rename_i a b
   have hz:=Cj b
   have:decide (Au a=true/\Au b=true/\As b<=0/\As b<=1000000/\As a<=1000000)=false:=dcF (by omega)
   rw [this]; rfl
  ·rfl
 | n+1,ihs=>by
  have ih:=ihs n (Nat.lt_succ_self n)
  refine A6 (kc func144 Aeg (kc func97 ih KnowsL.nil)).knows (Λ:=(Ab [(4,Gx n)])) func97 (c:=f97.body.getD .skip) (by kernel_rfl) fun vs bs r hq hv hb=>?_
  unfold Ent.F QT at hq
  dsimp only at hq
  split at hq
  ·rename_i a b
   obtain ⟨hc,hx⟩:=Ad hq
   obtain ⟨h1,h2,h3,h4,h5⟩:=of_decide_eq_true hc
   refine ⟨Aa9 n,(VJ n a b).trans (Eq.trans ?_ hx)⟩
   show _=some _
   rw [YB]
   have hkb:=Cq b
   by_cases q1:a.lab.1=b.lab.1
   ·rw [Ac (bne_eq_false_iff_eq.2 q1)]
    by_cases q2:b.lab.2.2.2.2.1<a.lab.2.2.2.2.1
    ·rw [Af (dcT q2),if_pos (.inr q2)]
    ·rw [Ac (dcF q2),if_neg (by rintro (h | h); exact h q1; exact q2 h),Aa (dcT ⟨by omega,by omega,rfl,h1,Ii h2,fun h=>(Dl h2 (q1.symm.trans h)).1,by omega,by omega,h5⟩)]
     have e:Fz a b.kids 0=if b.lab.1=4 then Pc b.kids a.kids else Em a.kids b.kids:=by
      unfold Fz
      rw [q1,if_pos rfl,drop_zero]
     rw [e]
     cases (if b.lab.1=4 then Pc b.kids a.kids else Em a.kids b.kids)<;>rfl
   ·rw [Af (bne_iff_ne.2 q1),if_pos (.inl q1)]
  ·cases hq
theorem Yz (n:Nat):Ag prog 97 (Ent.rd1 (QT n)).F:=Nat.strongRecOn n fun n h=>Yy n h
theorem Pf (n:Nat) (x0:Int) (x1:List UInt8) (x2:Int) (x3:Bool) (x4:Int) (xs:List (Rose Lab)) (hxs:B9 5 xs=true) (ks:List (Rose Lab)) (hks:ks.all Au=true) (hcn:A1 ks<=n) (hc6:A1 ks<=1000000) (hca:A1 xs<=1000000) : ∀ (j i:Nat),i+j=ks.length->∀ ex d,(Br.br (Em xs (ks.drop i)) (.leaf (.exit 0,([],[]))) (.leaf (.ret,([.b false],[]))):Br (Ex×Dt)).run=some (ex,d)->Runs prog (QG n) (Ab [(6,Gy n)]) 0 (body f82 0) (Gy n) ([.ptr 0 0,.sl (.rose LCd) ks,.j (ks.length:Int),.j (i:Int)],[some (.box [.j x0,.s x1,.j x2,.b x3,.j x4,.sl (.rose LCd) xs])]) ex d
 | 0,i,hi,ex,d,h=>by
  have hr:=M9 n x0 x1 x2 x3 x4 xs ks ks.length i
  rw [Ac (dcF (by omega))] at hr
  have e:Em xs (ks.drop i)=true:=by rw [drop_eq_nil_of_le (by omega)]; rfl
  rw [Id e] at h
  have h8:=Ao h
  obtain ⟨rfl,rfl⟩:=Prod.mk.inj h8
  exact .stop _ _ _ hr (by simp)
 | j+1,i,hi,ex,d,h=>by
  have hl:i<ks.length:=by omega
  have hM:maxI=9223372036854775807:=rfl
  have hr:=M9 n x0 x1 x2 x3 x4 xs ks ks.length i
  try dsimp only [shr] at hr
  have hlen:=C7 ks
  have hlx:=C7 xs
  have W1:i64.wrap ((i:Int)+1)=((i+1:Nat):Int):=by rw [Aw (by omega) (by omega)]; omega
  have hd:=drop_eq_getElem_cons hl
  have hm:=getElem_mem hl
  have hrz:=all_eq_true.1 hks _ hm
  have hcz:=Cb hm
  have bad : ∀ {w},Av prog (QG n) (Ab [(6,Gy n)]) 0 (body f82 0) (Gy n) ([.ptr 0 0,.sl (.rose LCd) ks,.j (ks.length:Int),.j (i:Int)],[some (.box [.j x0,.s x1,.j x2,.b x3,.j x4,.sl (.rose LCd) xs])])=w->w=some ((.ret:Ex),(([.b false]:List V),([]:List (Option Blk))))->Em xs (ks.drop i)=false->Runs prog (QG n) (Ab [(6,Gy n)]) 0 (body f82 0) (Gy n) ([.ptr 0 0,.sl (.rose LCd) ks,.j (ks.length:Int),.j (i:Int)],[some (.box [.j x0,.s x1,.j x2,.b x3,.j x4,.sl (.rose LCd) xs])]) ex d:=fun e1 e2 e3=>by
   rw [IM e3] at h
   have h8:=Ao h
   obtain ⟨rfl,rfl⟩:=Prod.mk.inj h8
   exact .stop _ _ _ (e1.trans e2) (by simp)
  have good : ∀ {w},Av prog (QG n) (Ab [(6,Gy n)]) 0 (body f82 0) (Gy n) ([.ptr 0 0,.sl (.rose LCd) ks,.j (ks.length:Int),.j (i:Int)],[some (.box [.j x0,.s x1,.j x2,.b x3,.j x4,.sl (.rose LCd) xs])])=w->w=some ((.normal:Ex),(([.ptr 0 0,.sl (.rose LCd) ks,.j (ks.length:Int),.j ((i+1:Nat):Int)],[some (.box [.j x0,.s x1,.j x2,.b x3,.j x4,.sl (.rose LCd) xs])]):Dt))->Em xs (ks.drop i)=Em xs (ks.drop (i+1))->Runs prog (QG n) (Ab [(6,Gy n)]) 0 (body f82 0) (Gy n) ([.ptr 0 0,.sl (.rose LCd) ks,.j (ks.length:Int),.j (i:Int)],[some (.box [.j x0,.s x1,.j x2,.b x3,.j x4,.sl (.rose LCd) xs])]) ex d:=fun e1 e2 e3=>
   .step _ _ _ _ (e1.trans e2) (Pf n x0 x1 x2 x3 x4 xs hxs ks hks hcn hc6 hca j (i+1) (by omega) ex d (by rw [<-e3]; exact h))
  rw [Af (dcT (by omega)),Aa (by simp only [anE,dcE]; omega),ntN,gtE hl,Am,W1,Aa (dcT (by omega))] at hr
  simp only [BV] at hr
  have e0:Em xs (ks.drop i)=((B8 ks[i].lab.2.2.1 xs&&((!ks[i].lab.2.2.2.1||(byR ks[i].lab.2.2.1 xs).lab.2.2.2.1)&&CK ks[i] (byR ks[i].lab.2.2.1 xs)))&&Em xs (ks.drop (i+1))):=by rw [hd,Em]
  generalize ks[i]=p at hr e0 hrz hcz
  cases hn:B8 p.lab.2.2.1 xs with
  | false=>rw [hn] at hr e0; exact bad hr rfl (by rw [e0]; rfl)
  | true=>
   obtain ⟨bm,bn⟩:=Gc hn
   have hxr:=(BN hxs _ bm).2
   have hxc:=Cb bm
   rw [hn] at hr e0
   simp only [Be,Aa (dcT (show Au (byR p.lab.2.2.1 xs)=true/\Au p=true/\As p<=n/\As p<=1000000/\As (byR p.lab.2.2.1 xs)<=1000000 from ⟨hxr,hrz,by omega,by omega,by omega⟩))] at hr
   cases hmu:p.lab.2.2.2.1 with
   | true=>
    rw [hmu] at hr e0
    cases hmx:(byR p.lab.2.2.1 xs).lab.2.2.2.1 with
    | false=>rw [hmx] at hr e0; exact bad hr rfl (by rw [e0]; rfl)
    | true=>
     rw [hmx] at hr e0
     cases hs:CK p (byR p.lab.2.2.1 xs) with
     | false=>rw [hs] at hr e0; exact bad hr rfl (by rw [e0]; rfl)
     | true=>rw [hs] at hr e0; exact good hr rfl (by rw [e0]; rfl)
   | false=>
    rw [hmu] at hr e0
    cases hs:CK p (byR p.lab.2.2.1 xs) with
    | false=>rw [hs] at hr e0; exact bad hr rfl (by rw [e0]; rfl)
    | true=>rw [hs] at hr e0; exact good hr rfl (by rw [e0]; rfl)
theorem Abh (n:Nat):Ar prog (QG n) (Ab [(6,Gy n)]) 0 (f82.body.getD .skip):=by
 refine An (a:=body f82 0) (by kernel_rfl) fun d ex d' h=>?_
 unfold Gy at h
 dsimp only at h
 split at h
 ·rename_i ks c i x0 x1 x2 x3 x4 xs
  obtain ⟨hc,hx⟩:=Ad h
  obtain ⟨h0,h1,rfl,h3,h4,h6,h7,h8⟩:=of_decide_eq_true hc
  obtain ⟨i,rfl⟩:=eq_ofNat_of_zero_le h0
  simp only [ntN] at h1 hx
  exact Pf n x0 x1 x2 x3 x4 xs h3 ks h4 h6 h7 h8 (ks.length-i) i (by omega) ex d' hx
 ·cases h
theorem K8 {z:Rose Lab} (h:Au z=true) (h3:z.lab.1≠3):z.lab.2.2.2.2.1=0:=by
 obtain ⟨h1,_⟩:=CN h
 unfold Cl at h1
 by_cases a1:z.lab.1=1\/z.lab.1=2
 ·rw [if_pos a1,anE] at h1; simpa using h1.1
 ·rw [if_neg a1,if_neg h3] at h1
  by_cases a4:z.lab.1=4
  ·rw [if_pos a4,anE] at h1; simpa using h1.1
  ·rw [if_neg a4] at h1
   by_cases a5:z.lab.1≠5\/z.lab.2.2.2.2.1≠0
   ·rw [if_pos a5] at h1; cases h1
   ·omega
theorem Uc (x0:Int) (x1:List UInt8) (x2:Int) (x3:Bool) (x4:Int) (xs:List (Rose Lab)) (y0:Int) (y1:List UInt8) (y2:Int) (y3:Bool) (y4:Int) (ys:List (Rose Lab)):CK (.node (y0,y1,y2,y3,y4,()) ys:Rose Lab) (.node (x0,x1,x2,x3,x4,()) xs:Rose Lab)=if x0≠y0\/y4<x4 then false else if y0=4 then Pc ys xs else Em xs ys:=by rw [CK]; rfl
theorem YC : ∀ n,(∀ m,m<n->Ag prog 82 (Ent.rd1 (Ry m)).F)->Ag prog 82 (Ent.rd1 (Ry n)).F
 | 0,_=>BD fun vs bs=>by
  unfold Ent.F Ry
  dsimp only
  split
  ·rename_i x0 x1 x2 x3 x4 xs y0 y1 y2 y3 y4 ys
   have hz:=Cj (.node (y0,y1,y2,y3,y4,()) ys:Rose Lab)
   have:decide (Au (.node (x0,x1,x2,x3,x4,()) xs:Rose Lab)=true/\Au (.node (y0,y1,y2,y3,y4,()) ys:Rose Lab)=true/\As (.node (y0,y1,y2,y3,y4,()) ys:Rose Lab)<=0/\As (.node (y0,y1,y2,y3,y4,()) ys:Rose Lab)<=1000000/\As (.node (x0,x1,x2,x3,x4,()) xs:Rose Lab)<=1000000)=false:=dcF (by omega)
   rw [this]; rfl
  ·rfl
 | n+1,ihs=>by
  have ih:=ihs n (Nat.lt_succ_self n)
  refine A6 (kc func127 Aee (kc func82 ih KnowsL.nil)).knows (Λ:=(Ab [(6,Gy n)])) func82 (c:=f82.body.getD .skip) (by kernel_rfl) fun vs bs r hq hv hb=>?_
  unfold Ent.F Ry at hq
  dsimp only at hq
  split at hq
  ·rename_i x0 x1 x2 x3 x4 xs y0 y1 y2 y3 y4 ys
   obtain ⟨hc,hx⟩:=Ad hq
   obtain ⟨h1,h2,h3,h4,h5⟩:=of_decide_eq_true hc
   refine ⟨Abh n,(Wn n x0 x1 x2 x3 x4 xs y0 y1 y2 y3 y4 ys).trans (Eq.trans ?_ hx)⟩
   try dsimp only [shr]
   show _=some _
   rw [Uc]
   have hkb:As (.node (y0,y1,y2,y3,y4,()) ys:Rose Lab)=A1 ys+1:=Cq _
   have hka:As (.node (x0,x1,x2,x3,x4,()) xs:Rose Lab)=A1 xs+1:=Cq _
   have m1:=K8 h1
   have m2:=K8 h2
   have l1:=Dl h1
   have l2:=Dl h2
   have w1:=Gg h1
   dsimp only [Rose.lab,Rose.kids] at m1 m2 l1 l2 w1
   simp only [BV,drop_zero]
   by_cases q1:x0=y0
   ·subst q1
    rw [Ac (bne_eq_false_iff_eq.2 rfl)]
    by_cases q4:x0=4
    ·obtain ⟨k1,k2⟩:=l1 q4
     obtain ⟨k3,k4⟩:=l2 q4
     rw [if_neg (by rintro (h | h); exact h rfl; have:=m1 (by omega); have:=m2 (by omega); omega),if_pos q4,Ac (beq_eq_false_iff_ne.2 (by omega)),Af (beq_iff_eq.2 q4)]
     match xs,k1,ys,k3 with
     | [x],_,[y],_=>
      have e1:A1 [x]=As x:=by rw [A1,A1]; rfl
      have e2:A1 [y]=As y:=by rw [A1,A1]; rfl
      rw [Aa (by rfl),show [x][0]? = some x from rfl,Am,Aa (by rfl),show [y][0]? = some y from rfl,Am]
      try simp only [BV]
      rw [Aa (dcT ⟨by simpa using k2,by simpa using k4,by omega,by omega,by omega⟩),Pc]
      rfl
    ·by_cases q3:x0=3
     ·rw [Af (beq_iff_eq.2 q3)]
      by_cases q5:y4<x4
      ·rw [Af (dcT q5),if_pos (.inr q5)]
      ·rw [Ac (dcF q5),if_neg (by rintro (h | h); exact h rfl; exact q5 h),if_neg q4,Ac (beq_eq_false_iff_ne.2 q4)]
       rw [Aa (dcT ⟨by omega,by omega,by first | trivial | rfl,w1 q4,Ii h2,by omega,by omega,by omega⟩)]
       cases Em xs ys<;>rfl
     ·rw [Ac (beq_eq_false_iff_ne.2 q3),if_neg (by rintro (h | h); exact h rfl; have:=m1 q3; have:=m2 q3; omega),if_neg q4,Ac (beq_eq_false_iff_ne.2 q4)]
      rw [Aa (dcT ⟨by omega,by omega,by first | trivial | rfl,w1 q4,Ii h2,by omega,by omega,by omega⟩)]
      cases Em xs ys<;>rfl
   ·rw [Af (bne_iff_ne.2 q1),if_pos (.inl q1)]
  ·cases hq
theorem YD (n:Nat):Ag prog 82 (Ent.rd1 (Ry n)).F:=Nat.strongRecOn n fun n h=>YC n h
abbrev Wt:=Int×Int×Int×List UInt8×Int×Int×Unit
def Hs (k n:Int) (s:List UInt8):Bool:=if 1<=k/\k<=3 then Dw n&&s==[] else if k=4 then n==0&&s==[] else if k=5 then n==0&&decide (s.length<=30) else false
def Dg (w:Wt) (i:Int):Bool:=
 if w.1=6\/w.1=7 then decide (w.2.1=0/\w.2.2.1=0/\w.2.2.2.1=[]/\0<=w.2.2.2.2.1/\w.2.2.2.2.1<w.2.2.2.2.2.1/\w.2.2.2.2.2.1<i)
 else if w.1=8 then decide (w.2.1=0/\w.2.2.1=0/\w.2.2.2.1=[]/\0<=w.2.2.2.2.1/\w.2.2.2.2.1<i/\w.2.2.2.2.2.1=0)
 else decide (1<=w.2.1/\w.2.1<=30)&&Hs w.1 w.2.2.1 w.2.2.2.1&&decide (w.2.2.2.2.1=0/\w.2.2.2.2.2.1=0)
def HG (u:List Int) (k:Nat):List Int:=u.set k (u.getD k 0+1)
def Kc (w:Wt) (u:List Int):List Int:=if w.1=6\/w.1=7 then HG (HG u w.2.2.2.2.1.toNat) w.2.2.2.2.2.1.toNat else if w.1=8 then HG u w.2.2.2.2.1.toNat else u
def wgo:Nat->List Wt->List Int->Option (List Int)
 | _,[],u=>some u
 | i,w::l,u=>if Dg w (i:Int)=true then wgo (i+1) l (Kc w u) else none
def Hz (u:List Int):Bool:=u.all fun x=>x==1
def DW (l:List Wt):Bool:=decide (1<=l.length/\l.length<=20)&&(match wgo 0 l (replicate l.length 0) with | some u=>Hz (u.take (l.length-1)) | none=>false)
def VH:Gm
 | [.agg [.i .i64 w0,.i .i64 w1,.i .i64 w2,.s w3,.i .i64 w4,.i .i64 w5],.i .i64 i],[]=>.leaf (.b (Dg (w0,w1,w2,w3,w4,w5,()) i),[])
 | _,_=>.no
def I8:Gm
 | [.agg [.sl WCd l]],[]=>.leaf (.b (DW l),[])
 | _,_=>.no
def I9:LoopEnt:=⟨62,[3,4,18,19,20],[3,4],[2],fun
 | ([.i .i64 n,.ref 0 0 m,.sl WCd l,.i .i64 k,.i .i64 i],[some (.row false none (.int .i64) u)])=>.need (decide (0<=i/\i.toNat<=l.length/\k=l.length/\m=l.length/\u.length=l.length/\l.length<=20/\(∀ x∈u,0<=x/\x<=2*i))) (.br (wgo i.toNat (l.drop i.toNat) u).isSome (.leaf (.exit 0,([.i .i64 n,.ref 0 0 ((wgo i.toNat (l.drop i.toNat) u).getD []).length],[some (.row false none (.int .i64) ((wgo i.toNat (l.drop i.toNat) u).getD []))]))) (.leaf (.ret,([.b false],[]))))
 | _=>.no⟩
def JD:LoopEnt:=⟨62,[53,54,55],[],[2],fun
 | ([.ref 0 0 m,.i .i64 k,.i .i64 i],[some (.row false none (.int .i64) u)])=>.need (decide (0<=i/\i.toNat<=m/\k=m/\m<=u.length/\u.length<=20)) (.br (Hz ((u.take m).drop i.toNat)) (.leaf (.exit 2,([],[]))) (.leaf (.ret,([.b false],[]))))
 | _=>.no⟩
theorem Acy {c x y:Bool}:ifB c (some (V.b x,([]:List (Option Blk)))) (some (V.b y,[]))=some (V.b (bif c then x else y),[]):=by cases c<;>rfl
theorem LK {c x y:Bool}:((bif c then x else y)=true)↔((c=true/\x=true)\/(c=false/\y=true)):=by cases c<;>simp
theorem Th {α:Type} [BEq α] [LawfulBEq α] (l:List α):(l==[])=decide (l.length=0):=by cases l<;>simp
theorem Rx (w0 w1 w2:Int) (w3:List UInt8) (w4 w5:Int) (i:Int):Ax prog (Ab [(78,.rd1 A3),(165,.rd1 Fo)]) (Ab []) f125 [.agg [.j w0,.j w1,.j w2,.s w3,.j w4,.j w5],.j i] [] =
 ((ifB (!decide ((1:Int)<=w0/\w0<=(5:Int))==(w1 != (0:Int))) (some (V.b false,[])) (ifB (!decide ((0:Int)<=w1/\w1<=(30:Int))) (some (V.b false,[])) (ifB
 (decide ((↑w3.length:Int)>(30:Int))) (some (V.b false,[])) (ifB (!Dw w2) (some (V.b false,[])) (ifB (decide (w0>(3:Int))) (ifB (w2 != (0:Int)) (some (V.b
 false,[])) (ifB (w0 != (5:Int)) (ifB (!w3==Aj UInt8) (some (V.b false,[])) (ifB (decide ((1:Int)<=w0/\w0<=(5:Int))) (ifB (w4==(0:Int)) (some (V.b (w5
 == (0:Int)),[])) (some (V.b false,[]))) (ifB (w0==(8:Int)) (ifB (decide (w4>=(0:Int))) (ifB (decide (w4<i)) (some (V.b (w5==(0:Int)),[])) (some (V.b
 false,[]))) (some (V.b false,[]))) (ifB (decide ((6:Int)<=w0/\w0<=(7:Int))) (ifB (decide (w4>=(0:Int))) (ifB (decide (w4<w5)) (some (V.b (decide (w5<i)),
 [])) (some (V.b false,[]))) (some (V.b false,[]))) (some (V.b false,[])))))) (ifB (decide ((1:Int)<=w0/\w0<=(5:Int))) (ifB (w4==(0:Int)) (some (V.b (w5==
 (0:Int)),[])) (some (V.b false,[]))) (ifB (w0==(8:Int)) (ifB (decide (w4>=(0:Int))) (ifB (decide (w4<i)) (some (V.b (w5==(0:Int)),[])) (some (V.b false,
 []))) (some (V.b false,[]))) (ifB (decide ((6:Int)<=w0/\w0<=(7:Int))) (ifB (decide (w4>=(0:Int))) (ifB (decide (w4<w5)) (some (V.b (decide (w5<i)),[]))
 (some (V.b false,[]))) (some (V.b false,[]))) (some (V.b false,[]))))))) (ifB (w0 != (5:Int)) (ifB (!w3==Aj UInt8) (some (V.b false,[])) (ifB (decide ((1:Int)
 <= w0/\w0<=(5:Int))) (ifB (w4==(0:Int)) (some (V.b (w5==(0:Int)),[])) (some (V.b false,[]))) (ifB (w0==(8:Int)) (ifB (decide (w4>=(0:Int))) (ifB
 (decide (w4<i)) (some (V.b (w5==(0:Int)),[])) (some (V.b false,[]))) (some (V.b false,[]))) (ifB (decide ((6:Int)<=w0/\w0<=(7:Int))) (ifB (decide (w4>=(0
 : Int))) (ifB (decide (w4<w5)) (some (V.b (decide (w5<i)),[])) (some (V.b false,[]))) (some (V.b false,[]))) (some (V.b false,[])))))) (ifB (decide ((1:Int)<=
 w0/\w0<=(5:Int))) (ifB (w4==(0:Int)) (some (V.b (w5==(0:Int)),[])) (some (V.b false,[]))) (ifB (w0==(8:Int)) (ifB (decide (w4>=(0:Int))) (ifB (decide
 (w4<i)) (some (V.b (w5==(0:Int)),[])) (some (V.b false,[]))) (some (V.b false,[]))) (ifB (decide ((6:Int)<=w0/\w0<=(7:Int))) (ifB (decide (w4>=(0 :
 Int))) (ifB (decide (w4<w5)) (some (V.b (decide (w5<i)),[])) (some (V.b false,[]))) (some (V.b false,[]))) (some (V.b false,[]))))))))))):_):=by kernel_rfl
theorem Ua (w0 w1 w2:Int) (w3:List UInt8) (w4 w5:Int) (i:Int):Ax prog (Ab [(78,.rd1 A3),(165,.rd1 Fo)]) (Ab []) f125 [.agg [.j w0,.j w1,.j w2,.s w3,.j w4,.j w5],.j i] []=(.leaf (.b (Dg (w0,w1,w2,w3,w4,w5,()) i),[]):Br (V×List (Option Blk))).run:=by
 rw [Rx]
 have e3:(w3==Aj UInt8)=decide (w3.length=0):=Th w3
 have e4:(w3==[])=decide (w3.length=0):=Th w3
 have e5:(w3=[])↔w3.length=0:=List.length_eq_zero_iff.symm
 simp only [Acy,e3]
 refine congrArg (fun b=>some (V.b b,([]:List (Option Blk)))) ?_
 unfold Dg Hs Dw
 dsimp only
 simp only [e4,e5]
 generalize w3.length=n
 rw [Bool.eq_iff_iff]
 have hk:w0=1\/w0=2\/w0=3\/w0=4\/w0=5\/w0=6\/w0=7\/w0=8\/w0<1\/8<w0:=by omega
 rcases hk with rfl | rfl | rfl | rfl | rfl | rfl | rfl | rfl | hk | hk
 iterate 8
  ·simp [LK]
   try omega
 ·have f1 : ¬(1<=w0/\w0<=5):=by omega
  have f2 : ¬w0=8:=by omega
  have f3 : ¬(6<=w0/\w0<=7):=by omega
  have f4 : ¬(w0=6\/w0=7):=by omega
  have f5 : ¬(1<=w0/\w0<=3):=by omega
  have f6 : ¬w0=4:=by omega
  have f7 : ¬w0=5:=by omega
  rw [if_neg f4,if_neg f2,if_neg f5,if_neg f6,if_neg f7,dcF f1,dcF f3]
  simp [LK,f2,f7]
 ·have f1 : ¬(1<=w0/\w0<=5):=by omega
  have f2 : ¬w0=8:=by omega
  have f3 : ¬(6<=w0/\w0<=7):=by omega
  have f4 : ¬(w0=6\/w0=7):=by omega
  have f5 : ¬(1<=w0/\w0<=3):=by omega
  have f6 : ¬w0=4:=by omega
  have f7 : ¬w0=5:=by omega
  rw [if_neg f4,if_neg f2,if_neg f5,if_neg f6,if_neg f7,dcF f1,dcF f3]
  simp [LK,f2,f7]
theorem Adr:Ag prog 125 (Ent.rd1 VH).F:=by
 refine Ae (kc func78 JB (kc func165 Xt KnowsL.nil)).knows (Λ:=Ab []) func125 (c:=f125.body.getD .skip) (by kernel_rfl) fun vs bs r' hq hv hb=>?_
 unfold Ent.F VH at hq
 dsimp only at hq
 split at hq
 ·rename_i w0 w1 w2 w3 w4 w5 i
  exact ⟨Ak _,(Ua w0 w1 w2 w3 w4 w5 i).trans hq⟩
 ·cases hq
abbrev SQ:FuncId->Option Ent:=Ab [(78,.rd1 A3),(125,.rd1 VH)]
theorem Np (n:Int) (m:Nat) (l:List Wt) (k i:Int) (u:List Int):Av prog SQ (Ab [(6,I9),(16,JD)]) 0 (body f80 0) I9 ([.j n,.ref 0 0 m,.sl WCd l,.j k,.j i],[some (.row false none (.int .i64) u)]) =
 ((ifB (decide (i<k)) (ifT (decide ((0:Int)<=i)&&decide (i<(↑l.length:Int))) (Ah l[i.toNat]? fun z=>ifB (!Dg (z.fst,z.snd.fst,z.snd.snd.fst,
 z.snd.snd.snd.fst,z.snd.snd.snd.snd.fst,z.snd.snd.snd.snd.snd.fst,()) i) (some (Ex.ret,[V.b false],[])) (ifB (decide (z.fst>=(6:Int))) (ifT (decide ((0:Int)<=
 z.snd.snd.snd.snd.fst)&&decide (z.snd.snd.snd.snd.fst<(↑m:Int))) (Ah u[0+toNat z.snd.snd.snd.snd.fst]? fun z_1=>ifT (decide ((0:Int)<=
 z.snd.snd.snd.snd.fst)&&decide (z.snd.snd.snd.snd.fst<(↑m:Int))) (Ah u[0+toNat z.snd.snd.snd.snd.fst]? fun z_2=>ifB (decide ((6:Int)<=z.fst/\
 z.fst<=(7:Int))) (ifT (decide ((0:Int)<=z.snd.snd.snd.snd.snd.fst)&&decide (z.snd.snd.snd.snd.snd.fst<(↑m:Int))) (Ah (u.set (0+toNat
 z.snd.snd.snd.snd.fst) (i64.wrap (z_1+(1:Int))))[0+toNat z.snd.snd.snd.snd.snd.fst]? fun z_3=>ifT (decide ((0:Int)<=
 z.snd.snd.snd.snd.snd.fst)&&decide (z.snd.snd.snd.snd.snd.fst<(↑m:Int))) (Ah (u.set (0+toNat z.snd.snd.snd.snd.fst) (i64.wrap (z_1+(1 :
 Int))))[0+toNat z.snd.snd.snd.snd.snd.fst]? fun z_4=>some (Ex.normal,[V.j n,V.ref 0 0 m,V.sl WCd l,V.j k,V.j (i64.wrap (i+(1
 : Int)))],[some (Blk.row false none (Cd.int .i64) ((u.set (0+toNat z.snd.snd.snd.snd.fst) (i64.wrap (z_1+(1:Int)))).set (0+toNat
 z.snd.snd.snd.snd.snd.fst) (i64.wrap (z_3+(1:Int)))))])))) (some (Ex.normal,[V.j n,V.ref 0 0 m,V.sl WCd l,V.j k,V.j (i64.wrap (i +
 (1:Int)))],[some (Blk.row false none (Cd.int .i64) (u.set (0+toNat z.snd.snd.snd.snd.fst) (i64.wrap (z_1+(1:Int)))))]))))) (ifB (decide ((6 :
 Int)<=z.fst/\z.fst<=(7:Int))) (ifT (decide ((0:Int)<=z.snd.snd.snd.snd.snd.fst)&&decide (z.snd.snd.snd.snd.snd.fst<(↑m:Int))) (Ah u[0 +
 toNat z.snd.snd.snd.snd.snd.fst]? fun z_1=>ifT (decide ((0:Int)<=z.snd.snd.snd.snd.snd.fst)&&decide (z.snd.snd.snd.snd.snd.fst<(↑m:Int))) (Ah u[(0 :
 Nat)+toNat z.snd.snd.snd.snd.snd.fst]? fun z_2=>some (Ex.normal,[V.j n,V.ref 0 0 m,V.sl WCd l,V.j k,V.j (i64.wrap (i+(1:Int)))],
 [some (Blk.row false none (Cd.int .i64) (u.set (0+toNat z.snd.snd.snd.snd.snd.fst) (i64.wrap (z_1+(1:Int)))))])))) (some (Ex.normal,[V.i .i64
 n,V.ref 0 0 m,V.sl WCd l,V.j k,V.j (i64.wrap (i+(1:Int)))],[some (Blk.row false none (Cd.int .i64) u)])))))) (some (Ex.exit 0,[V.j n,
 V.ref 0 0 m],[some (Blk.row false none (Cd.int .i64) u)]))):_):=by kernel_rfl
theorem Nn (m:Nat) (k i:Int) (u:List Int):Av prog SQ (Ab [(6,I9),(16,JD)]) 0 (body f80 1) JD ([.ref 0 0 m,.j k,.j i],[some (.row false none (.int .i64) u)]) =
 ((ifB (decide (i<k)) (ifT (decide ((0:Int)<=i)&&decide (i<(↑m:Int))) (Ah u[0+i.toNat]? fun z=>ifB (z != (1:Int)) (some (Ex.ret,[V.b false],
 [])) (some (Ex.normal,[V.ref 0 0 m,V.j k,V.j (i64.wrap (i+(1:Int)))],[some (Blk.row false none (Cd.int .i64) u)])))) (some (Ex.exit 2,[],[]))):_):=by kernel_rfl
theorem Z9 (l:List Wt):Ax prog SQ (Ab [(6,I9),(16,JD)]) f80 [.agg [.sl WCd l]] [] =
 ((ifB (!decide ((1:Int)<=(↑l.length:Int)/\(↑l.length:Int)<=(20:Int))) (some (V.b false,[])) (ifT (decide ((0:Int)<=(↑l.length:Int))&&decide ((↑l.length :
 Int)<=(↑l.length:Int))&&decide ((↑l.length:Int)*(↑(8:Nat):Int)<=(140737488355328:Int))&&decide ((↑l.length:Int)<=(9223372036854775807:Int))) (ifT
 (decide ((0:Int)<=(0:Int)/\0<=l.length/\(↑l.length:Int)=(↑l.length:Int)/\(↑l.length:Int).toNat=l.length/\(replicate (↑l.length :
 Int).toNat (0:Int)).length=l.length/\l.length<=20/\∀ (x:(Cd.int .i64).den),x∈replicate (↑l.length:Int).toNat (0:Int)->(0:(Cd.int
 .i64).den)<=x/\x<=(0:Int))) (ifB (wgo 0 (drop 0 l) (replicate (↑l.length:Int).toNat (0:Int))).isSome (ifT (decide ((0:Int)<=
 i64.wrap ((↑l.length:Int)-(1:Int)))&&decide (i64.wrap ((↑l.length:Int)-(1:Int))<=(↑(((wgo 0 (drop 0 l) (replicate
 (↑l.length:Int).toNat (0:Int))).getD (Aj Int)).length-0):Int))) (ifT (decide ((0:Int)<=(0:Int)/\0<=(i64.wrap ((↑l.length:Int) -
 (1:Int))).toNat-0/\(↑((i64.wrap ((↑l.length:Int)-(1:Int))).toNat-0):Int)=(↑((i64.wrap ((↑l.length:Int)-(1 :
 Int))).toNat-0):Int)/\(i64.wrap ((↑l.length:Int)-(1:Int))).toNat-0<=((wgo 0 (drop 0 l) (replicate
 (↑l.length:Int).toNat (0:Int))).getD (Aj Int)).length/\((wgo 0 (drop 0 l) (replicate (↑l.length:Int).toNat (0:Int))).getD (Aj
 Int)).length<=20)) (ifB (Hz (drop 0 (take ((i64.wrap ((↑l.length:Int)-(1:Int))).toNat-0) ((wgo 0 (drop
 0 l) (replicate (↑l.length:Int).toNat (0:Int))).getD (Aj Int))))) (some (V.b true,[])) (some (V.b false,[]))))) (some (V.b false,[])))))):_):=by kernel_rfl
theorem Ka {w:Wt} {i:Int} (h:Dg w i=true):(w.1=6\/w.1=7->0<=w.2.2.2.2.1/\w.2.2.2.2.1<w.2.2.2.2.2.1/\w.2.2.2.2.2.1<i)/\(w.1=8->0<=w.2.2.2.2.1/\w.2.2.2.2.1<i)/\(w.1<=8):=by
 unfold Dg at h
 split at h
 ·rename_i hk
  have h:=of_decide_eq_true h
  exact ⟨fun _=>h.2.2.2,fun e=>by omega,by omega⟩
 ·rename_i hk
  split at h
  ·have h:=of_decide_eq_true h
   exact ⟨fun e=>absurd e hk,fun _=>⟨h.2.2.2.1,h.2.2.2.2.1⟩,by omega⟩
  ·rename_i hk2
   refine ⟨fun e=>absurd e hk,fun e=>absurd e hk2,?_⟩
   simp only [anE] at h
   have:=h.1.2
   unfold Hs at this
   split at this
   ·omega
   ·split at this
    ·omega
    ·split at this
     ·omega
     ·cases this
theorem Ew (u:List Int) (k:Nat):(HG u k).length=u.length:=by unfold HG; simp
theorem HF {u:List Int} {k:Nat} {b:Int} (h : ∀ x∈u,0<=x/\x<=b) (hk:k<u.length) : ∀ x∈HG u k,0<=x/\x<=b+1:=by
 intro x hx
 unfold HG at hx
 rcases List.mem_or_eq_of_mem_set hx with hx | rfl
 ·have:=h x hx; omega
 ·have e:u.getD k 0=u[k]:=by simp [hk]
  rw [e]
  have:=h _ (getElem_mem hk)
  omega
theorem NJ {w:Wt} {i:Int} {u:List Int} (h:Dg w i=true) (hi:i<=u.length) (hu : ∀ x∈u,0<=x/\x<=2*i):(Kc w u).length=u.length/\∀ x∈Kc w u,0<=x/\x<=2*(i+1):=by
 obtain ⟨h1,h2,_⟩:=Ka h
 unfold Kc
 split
 ·rename_i hk
  have:=h1 hk
  refine ⟨by rw [Ew,Ew],?_⟩
  have a:=HF (HF hu (k:=w.2.2.2.2.1.toNat) (by omega)) (k:=w.2.2.2.2.2.1.toNat) (by rw [Ew]; omega)
  exact fun x hx=>by have:=a x hx; omega
 ·split
  ·rename_i hk
   have:=h2 hk
   refine ⟨by rw [Ew],?_⟩
   have a:=HF hu (k:=w.2.2.2.2.1.toNat) (by omega)
   exact fun x hx=>by have:=a x hx; omega
  ·exact ⟨rfl,fun x hx=>by have:=hu x hx; omega⟩
theorem ZA (n:Int) (l:List Wt) (i:Nat) (u:List Int) (hi:i<l.length) (hul:u.length=l.length) (hl:l.length<=20) (hu : ∀ x∈u,0<=x/\x<=2*(i:Int)) :
  Av prog SQ (Ab [(6,I9),(16,JD)]) 0 (body f80 0) I9 ([.j n,.ref 0 0 l.length,.sl WCd l,.j (l.length:Int),.j (i:Int)],[some (.row false none (.int .i64) u)])=if Dg l[i] (i:Int)=true then some (.normal,([.j n,.ref 0 0 l.length,.sl WCd l,.j (l.length:Int),.j ((i+1:Nat):Int)],[some (.row false none (.int .i64) (Kc l[i] u))])) else some (.ret,([.b false],[])):=by
 rw [Np]
 have hM:maxI=9223372036854775807:=rfl
 rw [Af (dcT (by omega)),Aa (by simp only [anE,dcE]; omega),ntN,gtE hi,Am,Ap (n:=i) (by omega)]
 generalize hw:l[i]=w
 obtain ⟨w0,w1,w2,w3,w4,w5,⟨⟩⟩:=w
 dsimp only
 cases hb:Dg (w0,w1,w2,w3,w4,w5,()) (i:Int) with
 | false=>rfl
 | true=>
  obtain ⟨h1,h2,h3⟩:=Ka hb
  dsimp only at h1 h2 h3
  rw [Bool.not_true,AS,if_pos rfl]
  simp only [zero_add]
  unfold Kc HG
  dsimp only
  have wr : ∀ {x:Int},0<=x->x<=100->i64.wrap (x+1)=x+1:=fun h h'=>Aw (by omega) (by omega)
  have at' : ∀ {v:List Int} {k:Nat} (hk:k<v.length),v.getD k 0=v[k]:=fun hk=>by simp [hk]
  by_cases q6:w0=6\/w0=7
  ·obtain ⟨a1,a2,a3⟩:=h1 q6
   have k4:w4.toNat<u.length:=by omega
   have u4:=hu _ (getElem_mem k4)
   have k5:w5.toNat<(u.set w4.toNat (u[w4.toNat]+1)).length:=by rw [List.length_set]; omega
   have u5:=HF hu k4 ((u.set w4.toNat (u[w4.toNat]+1))[w5.toNat]) (by unfold HG; rw [at' k4]; exact getElem_mem k5)
   rw [if_pos q6,Af (dcT (by omega)),Aa (by simp only [anE,dcE]; omega),gtE k4,Am,Aa (by simp only [anE,dcE]; omega),Am,Af (dcT (by omega)),Aa (by simp only [anE,dcE]; omega),wr (by omega) (by omega),gtE k5,Am,Aa (by simp only [anE,dcE]; omega),Am,wr (by omega) (by omega),at' k4,at' k5]
  ·rw [if_neg q6]
   by_cases q8:w0=8
   ·obtain ⟨a1,a2⟩:=h2 q8
    have k4:w4.toNat<u.length:=by omega
    have u4:=hu _ (getElem_mem k4)
    rw [if_pos q8,Af (dcT (by omega)),Aa (by simp only [anE,dcE]; omega),gtE k4,Am,Aa (by simp only [anE,dcE]; omega),Am,Ac (dcF (by omega)),wr (by omega) (by omega),at' k4]
   ·rw [if_neg q8,Ac (dcF (by omega)),Ac (dcF (by omega))]
theorem Qo (n:Int) (l:List Wt) (hl:l.length<=20) : ∀ (j i:Nat) (u:List Int),i+j=l.length->u.length=l.length->(∀ x∈u,0<=x/\x<=2*(i:Int))->∀ ex d,(Br.br (wgo i (l.drop i) u).isSome (.leaf (.exit 0,([.j n,.ref 0 0 ((wgo i (l.drop i) u).getD []).length],[some (.row false none (.int .i64) ((wgo i (l.drop i) u).getD []))]))) (.leaf (.ret,([.b false],[]))):Br (Ex×Dt)).run=some (ex,d)->
  Runs prog SQ (Ab [(6,I9),(16,JD)]) 0 (body f80 0) I9 ([.j n,.ref 0 0 l.length,.sl WCd l,.j (l.length:Int),.j (i:Int)],[some (.row false none (.int .i64) u)]) ex d
 | 0,i,u,hi,hul,hu,ex,d,h=>by
  have hr:=Np n l.length l l.length i u
  rw [Ac (dcF (by omega))] at hr
  rw [drop_eq_nil_of_le (by omega),wgo] at h
  have h8:=Ao (show (Br.leaf (.exit 0,([.j n,.ref 0 0 u.length],[some (.row false none (.int .i64) u)])):Br (Ex×Dt)).run=some (ex,d) from h)
  obtain ⟨rfl,rfl⟩:=Prod.mk.inj h8
  rw [hul]
  exact .stop _ _ _ hr (by simp)
 | j+1,i,u,hi,hul,hu,ex,d,h=>by
  have hlt:i<l.length:=by omega
  have hr:=ZA n l i u hlt hul hl hu
  rw [drop_eq_getElem_cons hlt,wgo] at h
  by_cases q:Dg l[i] (i:Int)=true
  ·rw [if_pos q] at hr h
   obtain ⟨g1,g2⟩:=NJ q (by omega) hu
   exact .step _ _ _ _ hr (Qo n l hl j (i+1) (Kc l[i] u) (by omega) (g1.trans hul) (by push_cast; exact g2) ex d h)
  ·rw [if_neg q] at hr h
   have h8:=Ao (show (Br.leaf (.ret,([.b false],[])):Br (Ex×Dt)).run=some (ex,d) from h)
   obtain ⟨rfl,rfl⟩:=Prod.mk.inj h8
   exact .stop _ _ _ hr (by simp)
theorem Qn (m:Nat) (u:List Int) (hm:m<=u.length) (hu:u.length<=20) : ∀ (j i:Nat),i+j=m->∀ ex d,(Br.br (Hz ((u.take m).drop i)) (.leaf (.exit 2,([],[]))) (.leaf (.ret,([.b false],[]))):Br (Ex×Dt)).run=some (ex,d)->
  Runs prog SQ (Ab [(6,I9),(16,JD)]) 0 (body f80 1) JD ([.ref 0 0 m,.j (m:Int),.j (i:Int)],[some (.row false none (.int .i64) u)]) ex d
 | 0,i,hi,ex,d,h=>by
  have hr:=Nn m m i u
  rw [Ac (dcF (by omega))] at hr
  rw [drop_eq_nil_of_le (by simp; omega)] at h
  have h8:=Ao (show (Br.leaf (.exit 2,([],[])):Br (Ex×Dt)).run=some (ex,d) from h)
  obtain ⟨rfl,rfl⟩:=Prod.mk.inj h8
  exact .stop _ _ _ hr (by simp)
 | j+1,i,hi,ex,d,h=>by
  have hM:maxI=9223372036854775807:=rfl
  have hlt:i<u.length:=by omega
  have hr:=Nn m m i u
  rw [Af (dcT (by omega)),Aa (by simp only [anE,dcE]; omega),ntN,zero_add,gtE hlt,Am,Ap (n:=i) (by omega)] at hr
  have hd:(u.take m).drop i=u[i]::(u.take m).drop (i+1):=by
   rw [drop_eq_getElem_cons (by simp; omega)]
   simp
  have ec:Hz ((u.take m).drop i)=(u[i]==1&&Hz ((u.take m).drop (i+1))):=by rw [hd]; rfl
  rw [ec] at h
  by_cases q:u[i]=1
  ·rw [q] at hr h
   rw [Ac (by rfl)] at hr
   exact .step _ _ _ _ hr (Qn m u hm hu j (i+1) (by omega) ex d h)
  ·rw [Af (by simpa using q)] at hr
   rw [beq_false_of_ne q,Bool.false_and] at h
   have h8:=Ao (show (Br.leaf (.ret,([.b false],[])):Br (Ex×Dt)).run=some (ex,d) from h)
   obtain ⟨rfl,rfl⟩:=Prod.mk.inj h8
   exact .stop _ _ _ hr (by simp)
theorem Aez:Ar prog SQ (Ab [(6,I9),(16,JD)]) 0 (f80.body.getD .skip):=by
 refine LoopsI.loops (cs:=[body f80 0,body f80 1]) ?_ (by kernel_rfl)
 refine .cons (ent:=I9) (by rfl) (fun d ex d' h=>?_) (.cons (ent:=JD) (by rfl) (fun d ex d' h=>?_) .nil)
 ·unfold I9 at h
  dsimp only at h
  split at h
  ·rename_i n m l k i u
   obtain ⟨hc,hx⟩:=Ad h
   clear h
   obtain ⟨h0,h1,rfl,rfl,h4,h5,h6⟩:=of_decide_eq_true hc
   obtain ⟨i,rfl⟩:=eq_ofNat_of_zero_le h0
   simp only [ntN] at h1 hx
   exact Qo n l h5 (l.length-i) i u (by omega) h4 h6 ex d' hx
  ·cases h
 ·unfold JD at h
  dsimp only at h
  split at h
  ·rename_i m k i u
   obtain ⟨hc,hx⟩:=Ad h
   clear h
   obtain ⟨h0,h1,rfl,h4,h5⟩:=of_decide_eq_true hc
   obtain ⟨i,rfl⟩:=eq_ofNat_of_zero_le h0
   simp only [ntN] at h1 hx
   exact Qn m u h4 h5 (m-i) i (by omega) ex d' hx
  ·cases h
theorem NH : ∀ (l:List Wt) (i:Nat) (u:List Int) {v:List Int},i+l.length<=u.length->(∀ x∈u,0<=x/\x<=2*(i:Int))->wgo i l u=some v->v.length=u.length
 | [],i,u,v,hl,hu,h=>by rw [wgo] at h; cases h; rfl
 | w::l,i,u,v,hl,hu,h=>by
  rw [wgo] at h
  split at h
  ·rename_i q
   rw [length_cons] at hl
   obtain ⟨g1,g2⟩:=NJ q (by omega) hu
   rw [NH l (i+1) _ (by omega) (by push_cast; exact g2) h,g1]
  ·cases h
theorem Abk:Ag prog 80 (Ent.rd1 I8).F:=by
 refine Ae (kc func78 JB (kc func125 Adr KnowsL.nil)).knows (Λ:=(Ab [(6,I9),(16,JD)])) func80 (c:=f80.body.getD .skip) (by kernel_rfl) fun vs bs r hq hv hb=>?_
 unfold Ent.F I8 at hq
 dsimp only at hq
 split at hq
 ·rename_i l
  refine ⟨Aez,Eq.trans ?_ hq⟩
  rw [Z9]
  unfold DW
  by_cases q:1<=l.length/\l.length<=20
  rotate_left
  ·rw [Af (by rw [dcF (by omega)]; rfl),dcF q]; rfl
  have hz : ∀ x∈replicate l.length (0:Int),0<=x/\x<=2*((0:Nat):Int):=fun x hx=>by
   have:=List.eq_of_mem_replicate hx
   omega
  have hz0 : ∀ x∈replicate l.length (0:Int),0<=x/\x<=0:=fun x hx=>by
   have:=List.eq_of_mem_replicate hx
   omega
  have w1:i64.wrap ((l.length:Int)-1)=((l.length-1:Nat):Int):=by rw [Aw (by omega) (by omega)]; omega
  simp only [ntN,drop_zero,w1,sub_zero,AQ]
  rw [dcT q,Ac (by rw [dcT (by omega)]; rfl),Aa (by simp only [anE,dcE]; omega),Aa (dcT ⟨by omega,by omega,trivial,trivial,by simp,q.2,hz0⟩)]
  cases e:wgo 0 l (replicate l.length 0) with
  | none=>rfl
  | some u=>
   have hl:=NH l 0 _ (by simp) hz e
   rw [List.length_replicate] at hl
   simp only [Option.isSome_some,Option.getD_some,Be]
   rw [Aa (by simp only [anE,dcE]; omega),Aa (dcT ⟨by omega,by omega,by trivial,by rw [hl]; omega,by rw [hl]; omega⟩)]
   cases Hz (u.take (l.length-1))<;>rfl
 ·cases hq
def BZ (w:Wt):List Int:=if w.1=6\/w.1=7 then [w.2.2.2.2.1,w.2.2.2.2.2.1] else if w.1=8 then [w.2.2.2.2.1] else []
def O7 (ps:List Int) (u:List Int):List Int:=ps.foldl (fun u k=>HG u k.toNat) u
def JV:Gm
 | [.i .i64 k,.i .i64 n,.s s],[]=>.leaf (.b (Hs k n s),[])
 | _,_=>.no
def Sm:Gm
 | [.agg [.i .i64 w0,.i .i64 w1,.i .i64 w2,.s w3,.i .i64 w4,.i .i64 w5],.i .i64 i],[]=>.need (decide (0<=i/\i<=1000)) (.leaf (.b (Dg (w0,w1,w2,w3,w4,w5,()) i),[]))
 | _,_=>.no
def NG:Gm
 | [.agg [.i .i64 w0,.i .i64 w1,.i .i64 w2,.s w3,.i .i64 w4,.i .i64 w5]],[]=>.leaf (.ref 0 0 (BZ (w0,w1,w2,w3,w4,w5,())).length,[some (.row false none (.int .i64) (BZ (w0,w1,w2,w3,w4,w5,())))])
 | _,_=>.no
def RL:Gm
 | [.i .i64 x],[]=>.leaf (.b (x != 1),[])
 | _,_=>.no
def Ow  : LoopEnt:=⟨19,[0,1,4,7,8],[],[4],fun
 | ([.sl (.int .i64) l,.fn 139 [] [],.i .i64 r,.i .i64 k,.i .i64 i],[])=>
  .need (decide (0<=i/\i.toNat<=l.length/\l.length<=maxI/\k=l.length)) (.br (decide (Aq (fun z:Int=>z != 1) i.toNat (l.drop i.toNat)<0)) (.leaf (.exit 0,([],[]))) (.leaf (.ret,([.i .i64 (Aq (fun z:Int=>z != 1) i.toNat (l.drop i.toNat))],[]))))
 | _=>.no⟩
def Ti  : Gm
 | [.sl (.int .i64) l,.fn 139 [] []],[]=>.leaf (.i .i64 (Aq (fun z:Int=>z != 1) 0 l),[])
 | _,_=>.no
def Xe  : Gm
 | [.sl (.int .i64) l,.fn 139 [] []],[]=>.leaf (.b (l.any (fun z:Int=>z != 1)),[])
 | _,_=>.no
def FI:LoopEnt:=⟨51,[3,18,19,20],[3],[2],fun
 | ([.ref 0 0 m,.sl WCd l,.i .i64 k,.i .i64 i],[some (.row false none (.int .i64) u)])=>.need (decide (0<=i/\i.toNat<=l.length/\k=l.length/\m=l.length/\u.length=l.length/\l.length<=20/\(∀ x∈u,0<=x/\x<=2*i))) (.br (wgo i.toNat (l.drop i.toNat) u).isSome (.leaf (.exit 0,([.ref 0 0 ((wgo i.toNat (l.drop i.toNat) u).getD []).length],[some (.row false none (.int .i64) ((wgo i.toNat (l.drop i.toNat) u).getD []))]))) (.leaf (.ret,([.b false],[]))))
 | _=>.no⟩
def FH:LoopEnt:=⟨51,[3,18,19,20,30,31,32],[3,18,19,20],[2],fun
 | ([.ref 0 0 m,.sl WCd l,.i .i64 k,.i .i64 i,.ref 1 0 p,.i .i64 q,.i .i64 j],[some (.row false none (.int .i64) u),some (.row false none (.int .i64) ps)])=>.need (decide (0<=j/\j.toNat<=ps.length/\q=ps.length/\p=ps.length/\m=u.length/\ps.length<=2/\(∀ x∈ps,0<=x/\x.toNat<u.length)/\(∀ x∈u,0<=x/\x<=1000))) (.leaf (.exit 2,([.ref 0 0 (O7 (ps.drop j.toNat) u).length,.sl WCd l,.i .i64 k,.i .i64 i],[some (.row false none (.int .i64) (O7 (ps.drop j.toNat) u))])))
 | _=>.no⟩
theorem UN (c x y:Bool):ifB c (some ((V.b x,[]):V×List (Option Blk))) (some (V.b y,[]))=some (V.b (cond c x y),[]):=by cases c<;>rfl
theorem So (k n:Int) (s:List UInt8):Ax prog (Ab [(206,.rd1 Fo)]) (Ab []) f173 [.j k,.j n,.s s] []=some (.b (Hs k n s),[]):=by
 have e:Ax prog (Ab [(206,.rd1 Fo)]) (Ab []) f173 [.j k,.j n,.s s] []=((ifB (k==(1:Int)) (ifB (k==(1:Int)) (ifB (Dw n) (some (V.b (s==Aj UInt8),[])) (some (V.b false,[]))) (ifB (k==(4:Int)) (ifB (n==(0:Int)) (some (V.b
 (s==Aj UInt8),[])) (some (V.b false,[]))) (ifB (k==(5:Int)) (ifB (n==(0:Int)) (some (V.b (decide ((↑s.length:Int)<=(30:Int))),[])) (some (V.b false,
 []))) (some (V.b false,[]))))) (ifB (k==(2:Int)) (ifB (k==(2:Int)) (ifB (Dw n) (some (V.b (s==Aj UInt8),[])) (some (V.b false,[]))) (ifB (k==(4:Int))
 (ifB (n==(0:Int)) (some (V.b (s==Aj UInt8),[])) (some (V.b false,[]))) (ifB (k==(5:Int)) (ifB (n==(0:Int)) (some (V.b (decide ((↑s.length:Int)<=(30 :
 Int))),[])) (some (V.b false,[]))) (some (V.b false,[]))))) (ifB (k==(3:Int)) (ifB (Dw n) (some (V.b (s==Aj UInt8),[])) (some (V.b false,[]))) (ifB (k==
 (4:Int)) (ifB (n==(0:Int)) (some (V.b (s==Aj UInt8),[])) (some (V.b false,[]))) (ifB (k==(5:Int)) (ifB (n==(0:Int)) (some (V.b (decide ((↑s.length :
 Int)<=(30:Int))),[])) (some (V.b false,[]))) (some (V.b false,[]))))))):_):=by kernel_rfl
 rw [e]
 clear e
 show _=some (V.b (Hs k n s),[])
 simp only [AQ]
 unfold Hs
 by_cases a1:k=1
 ·subst a1; cases hn:Dw n<;>cases s<;>simp [ifB]
 by_cases a2:k=2
 ·subst a2; cases hn:Dw n<;>cases s<;>simp [ifB]
 by_cases a3:k=3
 ·subst a3; cases hn:Dw n<;>cases s<;>simp [ifB]
 have q1:=beq_eq_false_iff_ne.2 a1
 have q2:=beq_eq_false_iff_ne.2 a2
 have q3:=beq_eq_false_iff_ne.2 a3
 rw [if_neg (by omega)]
 by_cases a4:k=4
 ·subst a4
  rw [if_pos rfl]
  cases n==0<;>cases s<;>simp [ifB]
 have q4:=beq_eq_false_iff_ne.2 a4
 rw [if_neg a4]
 by_cases a5:k=5
 ·subst a5
  rw [if_pos rfl]
  by_cases ht:s.length<=30
  ·rw [dcT (show (s.length:Int)<=30 by omega),dcT ht]; cases n==0<;>simp [ifB]
  ·rw [dcF (show ¬(s.length:Int)<=30 by omega),dcF ht]; cases n==0<;>simp [ifB]
 have q5:=beq_eq_false_iff_ne.2 a5
 rw [if_neg a5]
 simp [ifB,q1,q2,q3,q4,q5]
theorem Acn:Ag prog 173 (Ent.rd1 JV).F:=by
 refine Ae (kc func206 Xc KnowsL.nil).knows (Λ:=Ab []) func173 (c:=f173.body.getD .skip) (by kernel_rfl) fun vs bs r' hq hv hb=>?_
 unfold Ent.F JV at hq
 dsimp only at hq
 split at hq
 ·exact ⟨Ak _,(So _ _ _).trans hq⟩
 ·cases hq
theorem UF (w0 w1 w2:Int) (w3:List UInt8) (w4 w5:Int) (i:Int) (h0:0<=i) (h1:i<=1000):Ax prog (Ab [(88,.rd1 A3),(173,.rd1 JV)]) (Ab []) f136 [.agg [.j w0,.j w1,.j w2,.s w3,.j w4,.j w5],.j i] []=some (.b (Dg (w0,w1,w2,w3,w4,w5,()) i),[]):=by
 have e:Ax prog (Ab [(88,.rd1 A3),(173,.rd1 JV)]) (Ab []) f136 [.agg [.j w0,.j w1,.j w2,.s w3,.j w4,.j w5],.j i] []=((ifB (w0==(6:Int)) (ifB (w0==(6:Int)) (ifB (w1==(0:Int)) (ifB (w2==(0:Int)) (ifB (w3==Aj UInt8) (ifB (decide (w4>=(0:Int))) (ifB (decide (w4<w5))
 (some (V.b (decide (w5<i)),[])) (some (V.b false,[]))) (some (V.b false,[]))) (some (V.b false,[]))) (some (V.b false,[]))) (some (V.b false,[]))) (ifB (w0==(8
 : Int)) (ifB (w1==(0:Int)) (ifB (w2==(0:Int)) (ifB (w3==Aj UInt8) (ifB (decide ((0:Int)<=w4/\w4<=i64.wrap (i-(1:Int)))) (some (V.b (w5==(0
 : Int)),[])) (some (V.b false,[]))) (some (V.b false,[]))) (some (V.b false,[]))) (some (V.b false,[]))) (ifB (decide ((1:Int)<=w1/\w1<=(30:Int))) (ifB (Hs
 w0 w2 w3) (ifB (w4==(0:Int)) (some (V.b (w5==(0:Int)),[])) (some (V.b false,[]))) (some (V.b false,[]))) (some (V.b false,[]))))) (ifB (w0==(7:Int)) (ifB
 (w1==(0:Int)) (ifB (w2==(0:Int)) (ifB (w3==Aj UInt8) (ifB (decide (w4>=(0:Int))) (ifB (decide (w4<w5)) (some (V.b (decide (w5<i)),[])) (some (V.b
 false,[]))) (some (V.b false,[]))) (some (V.b false,[]))) (some (V.b false,[]))) (some (V.b false,[]))) (ifB (w0==(8:Int)) (ifB (w1==(0:Int)) (ifB (w2==(0
 : Int)) (ifB (w3==Aj UInt8) (ifB (decide ((0:Int)<=w4/\w4<=i64.wrap (i-(1:Int)))) (some (V.b (w5==(0:Int)),[])) (some (V.b false,[]))) (some
 (V.b false,[]))) (some (V.b false,[]))) (some (V.b false,[]))) (ifB (decide ((1:Int)<=w1/\w1<=(30:Int))) (ifB (Hs w0 w2 w3) (ifB (w4==(0:Int)) (some (V.b
 (w5==(0:Int)),[])) (some (V.b false,[]))) (some (V.b false,[]))) (some (V.b false,[])))))):_):=by kernel_rfl
 rw [e]
 clear e
 have w1:i64.wrap (i-1)=i-1:=Aw (by omega) (by omega)
 simp only [AQ,w1,UN]
 refine congrArg (fun b=>some (V.b b,[])) ?_
 unfold Dg
 dsimp only
 rw [Bool.eq_iff_iff]
 by_cases a6:w0=6
 ·subst a6; simp; try omega
 by_cases a7:w0=7
 ·subst a7; simp; try omega
 by_cases a8:w0=8
 ·subst a8; simp; try omega
 have q6:=beq_eq_false_iff_ne.2 a6
 have q7:=beq_eq_false_iff_ne.2 a7
 have q8:=beq_eq_false_iff_ne.2 a8
 rw [if_neg (by omega),if_neg a8,q6,q7,q8]
 simp [and_assoc]
theorem Aem:Ag prog 136 (Ent.rd1 Sm).F:=by
 refine Ae (kc func88 Dj (kc func173 Acn KnowsL.nil)).knows (Λ:=Ab []) func136 (c:=f136.body.getD .skip) (by kernel_rfl) fun vs bs r' hq hv hb=>?_
 unfold Ent.F Sm at hq
 dsimp only at hq
 split at hq
 ·obtain ⟨hc,hx⟩:=Ad hq
  obtain ⟨h0,h1⟩:=of_decide_eq_true hc
  exact ⟨Ak _,(UF _ _ _ _ _ _ _ h0 h1).trans hx⟩
 ·cases hq
theorem QM (w0 w1 w2:Int) (w3:List UInt8) (w4 w5:Int):De prog (Ab []) (Ab []) f137 [.agg [.j w0,.j w1,.j w2,.s w3,.j w4,.j w5]] []=some (.ref 0 0 (BZ (w0,w1,w2,w3,w4,w5,())).length,[some (.row false none (.int .i64) (BZ (w0,w1,w2,w3,w4,w5,())))]):=by
 have e:De prog (Ab []) (Ab []) f137 [.agg [.j w0,.j w1,.j w2,.s w3,.j w4,.j w5]] []=((ifB (w0==(6:Int)) (ifB (w0==(6:Int)) (some (V.ref 0 0 2,[some (Blk.row false none (Cd.int .i64) (w4::w5::Aj (Cd.int .i64).den))])) (ifB (w0==(8:Int))
 (some (V.ref 0 0 1,[some (Blk.row false none (Cd.int .i64) (w4::Aj (Cd.int .i64).den))])) (some (V.ref 0 0 0,[some (Blk.row false none (Cd.int .i64) (Aj (Cd.int
 .i64).den))])))) (ifB (w0==(7:Int)) (some (V.ref 0 0 2,[some (Blk.row false none (Cd.int .i64) (w4::w5::Aj (Cd.int .i64).den))])) (ifB (w0==(8:Int)) (some
 (V.ref 0 0 1,[some (Blk.row false none (Cd.int .i64) (w4::Aj (Cd.int .i64).den))])) (some (V.ref 0 0 0,[some (Blk.row false none (Cd.int .i64) (Aj (Cd.int
 .i64).den))]))))):_):=by kernel_rfl
 rw [e]
 clear e
 try dsimp only [shr]
 unfold BZ
 dsimp only
 by_cases a6:w0=6
 ·subst a6; rfl
 by_cases a7:w0=7
 ·subst a7; rfl
 rw [if_neg (by omega),Ac (beq_eq_false_iff_ne.2 a6),Ac (beq_eq_false_iff_ne.2 a7)]
 by_cases a8:w0=8
 ·subst a8; rfl
 rw [if_neg a8,Ac (beq_eq_false_iff_ne.2 a8)]
 rfl
theorem QN:Ag prog 137 (Ent.rd1 NG).F:=by
 refine A6 KnowsL.nil.knows (Λ:=Ab []) func137 (c:=f137.body.getD .skip) (by kernel_rfl) fun vs bs r' hq hv hb=>?_
 unfold Ent.F NG at hq
 dsimp only at hq
 split at hq
 ·exact ⟨Ak _,(QM _ _ _ _ _ _).trans hq⟩
 ·cases hq
theorem Zj:Ag prog 139 (Ent.rd1 RL).F:=by
 refine Ae KnowsL.nil.knows (Λ:=Ab []) func139 (c:=f139.body.getD .skip) (by kernel_rfl) fun vs bs r hq hv hb=>?_
 unfold Ent.F RL at hq
 dsimp only at hq
 split at hq
 ·rename_i x
  refine ⟨Ak _,Eq.trans ?_ hq⟩
  have e:Ax prog (Ab []) (Ab []) f139 [.j x] []=((some (V.b (x != (1:Int)),[])):_):=by kernel_rfl
  exact e
 ·cases hq
theorem MN   (l:List (Int)) (r k i:Int):Av prog (Ab [(139,.rd1 RL)]) (Ab [(2,Ow)]) 0 (body f174 0) Ow ([.sl (.int .i64) l,.fn 139 [] [],.j r,.j k,.j i],[]) =
 ((ifB (decide (i<k)) (ifT (decide ((0:Int)<=i)&&decide (i<(↑l.length:Int))) (Ah l[i.toNat]? fun z=>ifB (z != (1:Int)) (some (Ex.ret,[V.j i],[]))
 (some (Ex.normal,[V.sl (Cd.int .i64) l,V.fn 139 [] [],V.j r,V.j k,V.j (i64.wrap (i+(1:Int)))],[])))) (some (Ex.exit 0,
 [],[]))):_):=by kernel_rfl
theorem P4   {l:List (Int)} {r:Int} (hx:l.length<=maxI) : ∀ (j i:Nat),i+j=l.length->∀ e d',(.br (decide (Aq (fun z:Int=>z != 1) i (l.drop i)<0)) (.leaf (.exit 0,([],[]))) (.leaf (.ret,([.j (Aq (fun z:Int=>z != 1) i (l.drop i))],[]))):Br (Ex×Dt)).run=some (e,d')->
  Runs prog (Ab [(139,.rd1 RL)]) (Ab [(2,Ow)]) 0 (body f174 0) Ow ([.sl (.int .i64) l,.fn 139 [] [],.j r,.j (l.length:Int),.j (i:Int)],[]) e d'
 | 0,i,hi,e,d',h=>by
  have e1:l.drop i=[]:=drop_eq_nil_of_le (by omega)
  rw [e1,BB,Aq,if_pos (by omega)] at h
  cases h
  have hr:=MN  l r l.length i
  rw [Ac (dcF (by omega))] at hr
  exact .stop _ _ _ hr (by simp)
 | j+1,i,hi,e,d',h=>by
  have h1:i<l.length:=by omega
  have hr:=MN  l r l.length i
  rw [Af (dcT (by omega)),Aa (by simp only [anE,dcE]; omega)] at hr
  simp only [ntN,gtE h1,Am,Ap (n:=i) (by omega)] at hr
  rw [drop_eq_getElem_cons h1,BB,Aq] at h
  by_cases he:(fun z:Int=>z != 1) l[i]=true
  ·rw [if_pos he,if_neg (by omega)] at h
   cases h
   rw [Af he] at hr
   exact .stop _ _ _ hr (by simp)
  ·rw [if_neg he] at h
   rw [Ac (by simpa using he)] at hr
   exact .step _ _ _ _ hr (P4  hx j (i+1) (by omega) e d' (by rw [BB]; exact h))
theorem Ab6  : Ar prog (Ab [(139,.rd1 RL)]) (Ab [(2,Ow)]) 0 (f174.body.getD .skip):=by
 refine An (a:=body f174 0) (by kernel_rfl) fun d e d' h=>?_
 unfold Ow at h
 dsimp only at h
 split at h
 ·obtain ⟨hc,h'⟩:=Ad h
  obtain ⟨h0,h1,h2,rfl⟩:=of_decide_eq_true hc
  obtain ⟨i,rfl⟩:=eq_ofNat_of_zero_le h0
  exact P4  h2 _ i (add_sub_of_le h1) e d' h'
 ·cases h
theorem Zi   (l:List (Int)) (hx:l.length<=maxI):Ax prog (Ab [(139,.rd1 RL)]) (Ab [(2,Ow)]) f174 [.sl (.int .i64) l,.fn 139 [] []] []=some (.j (Aq (fun z:Int=>z != 1) 0 l),[]):=by
 have e:Ax prog (Ab [(139,.rd1 RL)]) (Ab [(2,Ow)]) f174 [.sl (.int .i64) l,.fn 139 [] []] [] =
  ((ifT (decide ((0:Int)<=(0:Int)/\0<=l.length/\l.length<=maxI/\(↑l.length:Int)=(↑l.length:Int))) (ifB (decide (Aq (fun z=>z != (1:Int)) (0 :
 Nat) (drop 0 l)<(0:Int))) (some (V.j (-1),[])) (some (V.j (Aq (fun z=>z != (1:Int)) 0 (drop 0 l)),[])))):_):=by kernel_rfl
 rw [e,Aa (dcT ⟨by omega,by omega,hx,rfl⟩)]
 simp only [Int.toNat_zero,drop_zero]
 by_cases q:Aq (fun z:Int=>z != 1) 0 l<0
 ·rw [Af (dcT q),Cp _ _ _ q]
 ·rw [Ac (dcF q)]
theorem Zg  : Ag prog 174 (Ent.rd1 Ti).F:=by
 refine Ae (kc func139 Zj KnowsL.nil).knows (Λ:=(Ab [(2,Ow)])) func174 (c:=f174.body.getD .skip) (by kernel_rfl) fun vs bs r h hv hb=>?_
 unfold Ent.F Ti at h
 dsimp only at h
 split at h
 ·rename_i l 
  have h':=h
  exact ⟨Ab6 ,(Zi  l (hv (.sl (.int .i64) l) (by simp)).1).trans (by cases h'; rfl)⟩
 ·cases h
theorem Xf   (l:List (Int)):Ax prog (Ab [(174,.rd1 Ti)]) (Ab []) f138 [.sl (.int .i64) l,.fn 139 [] []] []=some (.b (l.any (fun z:Int=>z != 1)),[]):=by
 have e:Ax prog (Ab [(174,.rd1 Ti)]) (Ab []) f138 [.sl (.int .i64) l,.fn 139 [] []] [] =
  ((some (V.b (decide (Aq (fun z=>z != (1:Int)) 0 l>=(0:Int))),[])):_):=by kernel_rfl
 rw [e]
 skip
 rw [Hd]
theorem Zh  : Ag prog 138 (Ent.rd1 Xe).F:=by
 refine Ae (kc func174 (Zg ) KnowsL.nil).knows (Λ:=Ab []) func138 (c:=f138.body.getD .skip) (by kernel_rfl) fun vs bs r h hv hb=>?_
 unfold Ent.F Xe at h
 dsimp only at h
 split at h
 ·rename_i l 
  have h':=h
  exact ⟨Ak _,(Xf  l).trans (by cases h'; rfl)⟩
 ·cases h
abbrev VC:FuncId->Option Ent:=Ab [(88,.rd1 A3),(136,.rd1 Sm),(137,.rd1 NG),(138,.rd1 Xe)]
theorem Ls (m:Nat) (l:List Wt) (k i:Int) (u:List Int):Av prog VC (Ab [(5,FI),(10,FH)]) 0 (body f94 0) FI ([.ref 0 0 m,.sl WCd l,.j k,.j i],[some (.row false none (.int .i64) u)]) =
 ((ifB (decide (i<k)) (ifT (decide ((0:Int)<=i)&&decide (i<(↑l.length:Int))) (Ah l[i.toNat]? fun z=>ifT (decide ((0:Int)<=i/\i<=(1000:Int))) (ifB
 (!Dg (z.fst,z.snd.fst,z.snd.snd.fst,z.snd.snd.snd.fst,z.snd.snd.snd.snd.fst,z.snd.snd.snd.snd.snd.fst,()) i) (some (Ex.ret,[V.b false],[])) (ifT (decide ((0 :
 Int)<=(0:Int)/\0<=(BZ (z.fst,z.snd.fst,z.snd.snd.fst,z.snd.snd.snd.fst,z.snd.snd.snd.snd.fst,z.snd.snd.snd.snd.snd.fst,())).length/\(↑(BZ
 (z.fst,z.snd.fst,z.snd.snd.fst,z.snd.snd.snd.fst,z.snd.snd.snd.snd.fst,z.snd.snd.snd.snd.snd.fst,())).length:Int)=(↑(BZ (z.fst,z.snd.fst,z.snd.snd.fst,
 z.snd.snd.snd.fst,z.snd.snd.snd.snd.fst,z.snd.snd.snd.snd.snd.fst,())).length:Int)/\(BZ (z.fst,z.snd.fst,z.snd.snd.fst,z.snd.snd.snd.fst,
 z.snd.snd.snd.snd.fst,z.snd.snd.snd.snd.snd.fst,())).length=(BZ (z.fst,z.snd.fst,z.snd.snd.fst,z.snd.snd.snd.fst,z.snd.snd.snd.snd.fst,
 z.snd.snd.snd.snd.snd.fst,())).length/\m=u.length/\(BZ (z.fst,z.snd.fst,z.snd.snd.fst,z.snd.snd.snd.fst,z.snd.snd.snd.snd.fst,z.snd.snd.snd.snd.snd.fst,
 ())).length<=2/\(∀ (x:(Cd.int .i64).den),x∈BZ (z.fst,z.snd.fst,z.snd.snd.fst,z.snd.snd.snd.fst,z.snd.snd.snd.snd.fst,z.snd.snd.snd.snd.snd.fst,
 ())->(0:(Cd.int .i64).den)<=x/\toNat x<u.length)/\∀ (x:(Cd.int .i64).den),x∈u->(0:(Cd.int .i64).den)<=x/\x<=(1000:(Cd.int .i64).den))) (some
 (Ex.normal,[V.ref 0 0 (O7 (drop 0 (BZ (z.fst,z.snd.fst,z.snd.snd.fst,z.snd.snd.snd.fst,z.snd.snd.snd.snd.fst,z.snd.snd.snd.snd.snd.fst,())))
 u).length,V.sl WCd l,V.j k,V.j (i64.wrap (i+(1:Int)))],[some (Blk.row false none (Cd.int .i64) (O7 (drop 0 (BZ (z.fst,
 z.snd.fst,z.snd.snd.fst,z.snd.snd.snd.fst,z.snd.snd.snd.snd.fst,z.snd.snd.snd.snd.snd.fst,()))) u))])))))) (some (Ex.exit 0,[V.ref 0 0 m],[some (Blk.row false none
 (Cd.int .i64) u)]))):_):=by kernel_rfl
theorem Lr (m:Nat) (l:List Wt) (k i:Int) (p:Nat) (q j:Int) (u ps:List Int):Av prog VC (Ab [(5,FI),(10,FH)]) 0 (body f94 1) FH ([.ref 0 0 m,.sl WCd l,.j k,.j i,.ref 1 0 p,.j q,.j j],[some (.row false none (.int .i64) u),some (.row false none (.int .i64) ps)]) =
 ((ifB (decide (j<q)) (ifT (decide ((0:Int)<=j)&&decide (j<(↑p:Int))) (Ah ps[0+j.toNat]? fun z=>ifT (decide ((0:Int)<=z)&&decide (z<(↑m :
 Int))) (Ah u[0+toNat z]? fun z_1=>ifT (decide ((0:Int)<=z)&&decide (z<(↑m:Int))) (Ah u[0+toNat z]? fun z_2=>some
 (Ex.normal,[V.ref 0 0 m,V.sl WCd l,V.j k,V.j i,V.ref 1 0 p,V.j q,V.j (i64.wrap (j+(1:Int)))],[some (Blk.row false none (Cd.int
 .i64) (u.set (0+toNat z) (i64.wrap (z_1+(1:Int))))),some (Blk.row false none (Cd.int .i64) ps)]))))) (some (Ex.exit 2,[V.ref 0 0 m,V.sl WCd
 l,V.j k,V.j i],[some (Blk.row false none (Cd.int .i64) u)]))):_):=by kernel_rfl
theorem XF (l:List Wt):Ax prog VC (Ab [(5,FI),(10,FH)]) f94 [.agg [.sl WCd l]] [] =
 ((ifB (!decide ((1:Int)<=(↑l.length:Int)/\(↑l.length:Int)<=(20:Int))) (some (V.b false,[])) (ifT (decide ((0:Int)<=(↑l.length:Int))&&decide ((↑l.length :
 Int)<=(↑l.length:Int))&&decide ((↑l.length:Int)*(↑(8:Nat):Int)<=(140737488355328:Int))&&decide ((↑l.length:Int)<=(9223372036854775807:Int))) (ifT
 (decide ((0:Int)<=(0:Int)/\0<=l.length/\(↑l.length:Int)=(↑l.length:Int)/\(↑l.length:Int).toNat=l.length/\(replicate (↑l.length :
 Int).toNat (0:Int)).length=l.length/\l.length<=20/\∀ (x:(Cd.int .i64).den),x∈replicate (↑l.length:Int).toNat (0:Int)->(0:(Cd.int
 .i64).den)<=x/\x<=(0:Int))) (ifB (wgo 0 (drop 0 l) (replicate (↑l.length:Int).toNat (0:Int))).isSome (ifT (decide ((0:Int)<=
 i64.wrap ((↑((wgo 0 (drop 0 l) (replicate (↑l.length:Int).toNat (0:Int))).getD (Aj Int)).length:Int)-(1:Int)))&&decide
 (i64.wrap ((↑((wgo 0 (drop 0 l) (replicate (↑l.length:Int).toNat (0:Int))).getD (Aj Int)).length:Int)-(1:Int))<=(↑(((wgo (0
 : Nat) (drop 0 l) (replicate (↑l.length:Int).toNat (0:Int))).getD (Aj Int)).length-0):Int))) (some (V.b !(take ((i64.wrap
 ((↑((wgo 0 (drop 0 l) (replicate (↑l.length:Int).toNat (0:Int))).getD (Aj Int)).length:Int)-(1:Int))).toNat-0) (drop
 0 ((wgo 0 (drop 0 l) (replicate (↑l.length:Int).toNat (0:Int))).getD (Aj Int)))).any fun z=>z != (1:Int),[]))) (some (V.b
 false,[])))))):_):=by kernel_rfl
theorem Zp {i:Nat} {x:Int} (h:0<=x/\x<=2*(i:Int)) (hi:i<=20):0<=x/\x<=1000:=by omega
theorem Afh {x:Int} (h:0<=x/\x<=2*((0:Nat):Int)):0<=x/\x<=0:=by omega
theorem Nc (l:List Wt) (k i:Int) (ps:List Int) (hp:ps.length<=2) : ∀ (n j:Nat) (u:List Int),j+n=ps.length->(∀ x∈ps,0<=x/\x.toNat<u.length)->(∀ x∈u,0<=x/\x<=1000+j)->
  Runs prog VC (Ab [(5,FI),(10,FH)]) 0 (body f94 1) FH ([.ref 0 0 u.length,.sl WCd l,.j k,.j i,.ref 1 0 ps.length,.j (ps.length:Int),.j (j:Int)],[some (.row false none (.int .i64) u),some (.row false none (.int .i64) ps)]) (.exit 2) ([.ref 0 0 (O7 (ps.drop j) u).length,.sl WCd l,.j k,.j i],[some (.row false none (.int .i64) (O7 (ps.drop j) u))])
 | 0,j,u,hj,hps,hu=>by
  have hr:=Lr u.length l k i ps.length ps.length j u ps
  rw [Ac (dcF (by omega))] at hr
  rw [drop_eq_nil_of_le (by omega)]
  exact .stop _ _ _ hr (by simp)
 | n+1,j,u,hj,hps,hu=>by
  have hl:j<ps.length:=by omega
  have hr:=Lr u.length l k i ps.length ps.length j u ps
  have W1:i64.wrap ((j:Int)+1)=((j+1:Nat):Int):=by rw [Aw (by omega) (by omega)]; omega
  obtain ⟨h0,h1⟩:=hps _ (getElem_mem hl)
  have hu1:=hu _ (getElem_mem h1)
  rw [Af (dcT (by omega)),Aa (by simp only [anE,dcE]; omega),ntN,zero_add,gtE hl,Am,Aa (by simp only [anE,dcE]; omega),zero_add,gtE h1,Am,Aa (by simp only [anE,dcE]; omega),Am,W1,Aw (n:=u[(ps[j]).toNat]+1) (by omega) (by omega)] at hr
  have e:u.set (ps[j]).toNat (u[(ps[j]).toNat]+1)=HG u (ps[j]).toNat:=by unfold HG; simp [h1]
  rw [e] at hr
  have hb:=HF hu h1
  have ih:=Nc l k i ps hp n (j+1) (HG u (ps[j]).toNat) (by omega) (fun x hx=>by rw [Ew]; exact hps x hx) (fun x hx=>by have:=hb x hx; omega)
  rw [drop_eq_getElem_cons hl]
  have e2:O7 (ps[j]::ps.drop (j+1)) u=O7 (ps.drop (j+1)) (HG u (ps[j]).toNat):=rfl
  rw [e2]
  rw [Ew] at ih
  exact .step _ _ _ _ hr ih
theorem QL (w:Wt) (u:List Int):O7 (BZ w) u=Kc w u:=by
 unfold BZ Kc
 split
 ·rfl
 ·split<;>rfl
theorem TB {w:Wt} {i:Nat} {u:List Int} (h:Dg w i=true) (hi:i<=u.length):(BZ w).length<=2/\∀ x∈BZ w,0<=x/\x.toNat<u.length:=by
 obtain ⟨h1,h2,_⟩:=Ka h
 unfold BZ
 split
 ·rename_i q
  have:=h1 q
  refine ⟨by simp,fun x hx=>?_⟩
  rcases mem_cons.1 hx with rfl | hx
  ·omega
  ·obtain rfl:=List.mem_singleton.1 hx; omega
 ·split
  ·rename_i q
   have:=h2 q
   refine ⟨by simp,fun x hx=>?_⟩
   obtain rfl:=List.mem_singleton.1 hx; omega
  ·exact ⟨by simp,fun x hx=>by cases hx⟩
theorem Nf (l:List Wt) (hl:l.length<=20) : ∀ (j i:Nat) (u:List Int),i+j=l.length->u.length=l.length->(∀ x∈u,0<=x/\x<=2*(i:Int))->∀ ex d,(Br.br (wgo i (l.drop i) u).isSome (.leaf (.exit 0,([.ref 0 0 ((wgo i (l.drop i) u).getD []).length],[some (.row false none (.int .i64) ((wgo i (l.drop i) u).getD []))]))) (.leaf (.ret,([.b false],[]))):Br (Ex×Dt)).run=some (ex,d)->
  Runs prog VC (Ab [(5,FI),(10,FH)]) 0 (body f94 0) FI ([.ref 0 0 u.length,.sl WCd l,.j (l.length:Int),.j (i:Int)],[some (.row false none (.int .i64) u)]) ex d
 | 0,i,u,hi,hul,hu,ex,d,h=>by
  have hr:=Ls u.length l l.length i u
  try dsimp only [shr] at hr
  rw [Ac (dcF (by omega))] at hr
  rw [drop_eq_nil_of_le (by omega),wgo] at h
  have h8:=Ao (show (Br.leaf (.exit 0,([.ref 0 0 u.length],[some (.row false none (.int .i64) u)])):Br (Ex×Dt)).run=some (ex,d) from h)
  obtain ⟨rfl,rfl⟩:=Prod.mk.inj h8
  exact .stop _ _ _ hr (by simp)
 | j+1,i,u,hi,hul,hu,ex,d,h=>by
  have hlt:i<l.length:=by omega
  have hr:=Ls u.length l l.length i u
  try dsimp only [shr] at hr
  have W1:i64.wrap ((i:Int)+1)=((i+1:Nat):Int):=by rw [Aw (by omega) (by omega)]; omega
  rw [Af (dcT (by omega)),Aa (by simp only [anE,dcE]; omega),ntN,gtE hlt,Am,Aa (dcT (by omega)),W1] at hr
  rw [drop_eq_getElem_cons hlt,wgo] at h
  have eta : ∀ z:Wt,(z.1,z.2.1,z.2.2.1,z.2.2.2.1,z.2.2.2.2.1,z.2.2.2.2.2.1,())=z:=fun z=>rfl
  simp only [eta,drop_zero] at hr
  by_cases q:Dg l[i] (i:Int)=true
  ·obtain ⟨g1,g2⟩:=NJ q (by omega) hu
   obtain ⟨p1,p2⟩:=TB q (by omega:i<=u.length)
   rw [if_pos q] at h
   rw [q,Bool.not_true,AS,Aa (dcT ⟨by omega,by omega,by first | trivial | rfl,by first | trivial | rfl,by first | trivial | rfl,p1,p2,fun x hx=>Zp (hu x hx) (by omega)⟩),QL] at hr
   have hul2:u.length=(Kc l[i] u).length:=by omega
   exact .step _ _ _ _ hr (Nf l hl j (i+1) (Kc l[i] u) (by omega) (g1.trans hul) (by push_cast; exact g2) ex d h)
  ·rw [if_neg q] at h
   rw [show Dg l[i] (i:Int)=false by simpa using q] at hr
   have h8:=Ao (show (Br.leaf (.ret,([.b false],[])):Br (Ex×Dt)).run=some (ex,d) from h)
   obtain ⟨rfl,rfl⟩:=Prod.mk.inj h8
   exact .stop _ _ _ hr (by simp)
theorem Acv:Ar prog VC (Ab [(5,FI),(10,FH)]) 0 (f94.body.getD .skip):=by
 refine LoopsI.loops (cs:=[body f94 0,body f94 1]) ?_ (by kernel_rfl)
 refine .cons (ent:=FI) (by rfl) (fun d ex d' h=>?_) (.cons (ent:=FH) (by rfl) (fun d ex d' h=>?_) .nil)
 ·unfold FI at h
  dsimp only at h
  split at h
  ·rename_i m l k i u
   obtain ⟨hc,hx⟩:=Ad h
   clear h
   obtain ⟨h0,h1,rfl,rfl,h4,h5,h6⟩:=of_decide_eq_true hc
   obtain ⟨i,rfl⟩:=eq_ofNat_of_zero_le h0
   simp only [ntN] at h1 hx
   have:=Nf l h5 (l.length-i) i u (by omega) h4 h6 ex d' hx
   rw [h4] at this
   exact this
  ·cases h
 ·unfold FH at h
  dsimp only at h
  split at h
  ·rename_i m l k i p q j u ps
   obtain ⟨hc,hx⟩:=Ad h
   clear h
   obtain ⟨h0,h1,rfl,rfl,rfl,h5,h6,h7⟩:=of_decide_eq_true hc
   obtain ⟨j,rfl⟩:=eq_ofNat_of_zero_le h0
   simp only [ntN] at h1 hx
   have hx:=Ao hx
   obtain ⟨rfl,rfl⟩:=Prod.mk.inj hx
   exact Nc l k i ps h5 (ps.length-j) j u (by omega) h6 (fun x hx=>by have h8:(0:Int)<=(x:Int)/\(x:Int)<=1000:=h7 x hx; omega)
  ·cases h
theorem Xa (u:List Int):(!(u.any fun z=>z != 1))=Hz u:=by
 unfold Hz
 induction u with
 | nil=>rfl
 | cons x u ih=>rw [any_cons,List.all_cons,<-ih,Bool.not_or]; cases h:x==1<;>simp [bne,h]
theorem Acu:Ag prog 94 (Ent.rd1 I8).F:=by
 refine Ae (kc func88 Dj (kc func136 Aem (kc func137 QN (kc func138 Zh KnowsL.nil)))).knows (Λ:=(Ab [(5,FI),(10,FH)])) func94 (c:=f94.body.getD .skip) (by kernel_rfl) fun vs bs r hq hv hb=>?_
 unfold Ent.F I8 at hq
 dsimp only at hq
 split at hq
 ·rename_i l
  refine ⟨Acv,(XF l).trans (Eq.trans ?_ hq)⟩
  try dsimp only [shr]
  show _=some _
  unfold DW
  by_cases h:1<=l.length/\l.length<=20
  ·have hrep : ∀ x∈replicate l.length (0:Int),0<=x/\x<=2*((0:Nat):Int):=fun x hx=>by
    have:=(List.mem_replicate.1 hx).2; omega
   rw [dcT h,dcT (show (1:Int)<=(l.length:Int)/\(l.length:Int)<=20 by omega),Bool.not_true,AS,Aa (by simp only [anE,dcE]; omega),ntN,Aa (dcT ⟨by omega,by omega,rfl,rfl,by simp,h.2,fun x hx=>Afh (hrep x hx)⟩),Bool.true_and,drop_zero]
   cases hw:wgo 0 l (replicate l.length 0) with
   | none=>rfl
   | some v=>
    have hvl:=NH l 0 (replicate l.length 0) (by simp) hrep hw
    rw [List.length_replicate] at hvl
    rw [show (some v).isSome=true from rfl,Be,show (some v).getD []=v from rfl]
    have W2:i64.wrap ((v.length:Int)-1)=((v.length-1:Nat):Int):=by rw [Aw (by omega) (by omega)]; omega
    rw [W2,Aa (by simp only [anE,dcE]; omega),ntN,sub_zero,drop_zero,hvl,Xa]
  ·rw [dcF h,dcF (show ¬((1:Int)<=(l.length:Int)/\(l.length:Int)<=20) by omega)]
   rfl
 ·cases hq
def cut (c:UInt8):List UInt8->List (List UInt8)
 | []=>[[]]
 | b::l=>if b=c then []::cut c l else match cut c l with
  | []=>[]
  | h::t=>(b::h)::t
def NS:Gm
 | [.s s,.s [c]],[]=>.need (decide (s.length<=4000000000)) (.leaf (.ref 0 0 (cut c s).length,[some (.row false none .str (cut c s))]))
 | _,_=>.no
open Go.Lib in
theorem FG (b c:UInt8) (l:List UInt8):Lib.index (b::l) [c]=if b=c then 0 else if Lib.index l [c] = -1 then -1 else Lib.index l [c]+1:=by
 rw [Lib.index]
 by_cases h:b=c
 ·subst h; simp [List.isPrefixOf]
 ·simp [List.isPrefixOf,Ne.symm h,h]
open Go.Lib in
theorem Lp (c:UInt8) : ∀ l:List UInt8,c∈l->Lib.index l [c]≠-1
 | [],h=>by simp at h
 | b::l,h=>by
  have hge:=Lib.index_ge l [c]
  rw [FG]
  by_cases hb:b=c
  ·simp [hb]
  ·have:=Lp c l (by simpa [Ne.symm hb] using h)
   simp [hb,this]; omega
open Go.Lib in
theorem Ig (c:UInt8) : ∀ s:List UInt8,Lib.splitK [c] 0 (s.count c) s=cut c s
 | []=>rfl
 | b::l=>by
  by_cases h:b=c
  ·subst h
   have hi:Lib.index (b::l) [b]=0:=by rw [FG,if_pos rfl]
   rw [List.count_cons_self,cut,if_pos rfl,<-Ig b l,Lib.splitK]
   simp [hi]
  ·rw [List.count_cons_of_ne (by simpa using h),cut,if_neg h,<-Ig c l]
   cases hk:l.count c with
   | zero=>simp [Lib.splitK]
   | succ k=>
    have hm:c∈l:=List.count_pos_iff.1 (by omega)
    have hne:=Lp c l hm
    have hge:=Lib.index_ge l [c]
    obtain ⟨j,hj⟩ : ∃ j:Nat,Lib.index l [c]=j:=⟨(Lib.index l [c]).toNat,by omega⟩
    have hi:Lib.index (b::l) [c]=((j+1:Nat):Int):=by rw [FG,if_neg h,if_neg hne,hj]; omega
    have e1:((Lib.index l [c])==-1)=false:=by rw [hj]; exact beq_false_of_ne (by omega)
    have e2:((((j+1:Nat):Int))==-1)=false:=beq_false_of_ne (by omega)
    rw [Lib.splitK,Lib.splitK,hi,e1,e2,hj]
    simp [Nat.add_assoc]
theorem SI (c:UInt8) : ∀ s:List UInt8,cut c s≠[]
 | []=>by simp [cut]
 | b::l=>by
  rw [cut]
  split
  ·simp
  ·have:=SI c l
   split
   ·rename_i h; exact absurd h this
   ·simp
theorem OG (c:UInt8) (s:List UInt8):(cut c s).length=s.count c+1:=by
 induction s with
 | nil=>rfl
 | cons b l ih=>
  rw [cut]
  by_cases h:b=c
  ·rw [if_pos h]; subst h; simp [ih]
  ·rw [if_neg h,List.count_cons_of_ne (by simpa using h),<-ih]
   have:=SI c l
   split
   ·rename_i hh; exact absurd hh this
   ·rename_i hh; rw [hh]; rfl
open Go.Lib Go.Shelf Go.RowKit Go.Proofs in
set_option maxHeartbeats 1000000 in
theorem Ud {P:Program} {ρ:Ren} (L:Lays.n146 P ρ) (hi9:(P.info? (ρ.t 9)).map (fun i=>(i.zero,i.size,i.bytes))=some (some (.string ByteArray.empty),1,16)) (s:ByteArray) (b:UInt8) (w:World) (hs:s.size<4294967281) :
  Calls P (ρ.f 146) #[.string s,.string ⟨#[b]⟩] w fun e w'=>
   e = .returned (.slice (some ⟨w.heap.size,0,none⟩) (Lib.countB s ⟨#[b]⟩+1) (Lib.countB s ⟨#[b]⟩+1))/\w'=w.alloc (.cells ((Lib.splitB ⟨#[b]⟩ 0 (Lib.countB s ⟨#[b]⟩) s).map Value.string).toArray (ρ.t 9)):=by
 have h1:1<=(⟨#[b]⟩:ByteArray).size:=Nat.le_refl _
 have hle:=Lib.countB_le ⟨#[b]⟩ h1 s.size s (Nat.le_refl _)
 have hlen:=Lib.splitB_all ⟨#[b]⟩ h1 0 _ s rfl
 have c:=Any.strings_genSplit_core (ρ:=ρ) { L with } hi9 s ⟨#[b]⟩ 0 (-1) (Lib.countB s ⟨#[b]⟩+1) w hs h1 (Nat.zero_le _)
  (fun x cc _=>(Any.strings_Index_one { L with } x b _).mono fun e w' ⟨he,hw⟩=>⟨by rw [he]; show _=Ending.returned (Value.int .i64 (Lib.index x.data.toList [b])); rw [Lib.index_one],hw⟩)
  ((Any.strings_Count_one { L with } s b w).mono fun e w' ⟨he,hw⟩=>⟨by rw [he]; show _=Ending.returned (Value.int .i64 ((Lib.count s.data.toList [b]:Nat):Int)); rw [Lib.count_one]; rfl,hw⟩)
  (by decide) (by decide) (by rw [if_pos (by decide)]; omega)
 rw [Nat.add_sub_cancel,hlen] at c
 have e2:Lib.cellsOf (Lib.splitB ⟨#[b]⟩ 0 (Lib.countB s ⟨#[b]⟩) s) (Lib.countB s ⟨#[b]⟩+1)=((Lib.splitB ⟨#[b]⟩ 0 (Lib.countB s ⟨#[b]⟩) s).map Value.string).toArray:=by rw [<-hlen]; exact Lib.cellsOf_full _
 rw [e2] at c
 have t3:=L.t3; have t9:=L.t9; have t31:=L.t31
 have a3:=L.a3; have a9:=L.a9; have a31:=L.a31
 have z3:=L.z3; have v3:=L.v3; have z9:=L.z9; have v9:=L.v9; have z31:=L.z31; have v31:=L.v31
 have e221 : ∀ args w,(callFunc (ρ.f 221) args).run P w = .ok (.enter (ρ.f 221) args) w:=enters_of L.f221 (by kernel_rfl) rfl
 go_enter L.f146,Body.n146_ntmps ρ
 go_wp2_with (go_at_fn (ρ.f 221); refine c.mono ?_; rintro e w' ⟨rfl,hw⟩; rw [hw])
 go_ret
 exact ⟨rfl,rfl⟩
open Go.Shelf in
noncomputable def Rz:Ren:=⟨fun k=>match k with | 146=>140 | 221=>175 | 138=>208 | 143=>209 | 195=>228 | 197=>229 | 217=>235 | 218=>230 | 219=>231 | 224=>237 | 225=>236 | 260=>234 | 266=>239 | 267=>238 | 268=>207 | 314=>240 | k=>k,
 fun k=>match k with | 0=>0 | 3=>3 | 4=>4 | 5=>5 | 9=>9 | 21=>21 | 31=>136 | 46=>274 | 51=>279 | 105=>271 | 119=>275 | 138=>277 | 139=>278 | 146=>280 | k=>k,
 fun k=>match k with | 1=>0 | 3=>1 | 4=>2 | k=>k⟩
open Go.Shelf in
theorem YE:Lays.n146 prog Rz:=by
 constructor
 all_goals first | kernel_rfl | (intro w; kernel_rfl)

theorem Xq {w:World} {R:Nat->Prop} {μ:Nat->Option RB} {l:List (List UInt8)} {us:Array Value} {e:TypeId}
  (hn : ∀ j,0<=j->μ j=none) (rlt : ∀ x,R x->x<w.heap.size) (hm:l.length<=maxI) (hz:l.length<=us.size)
  (hv : ∀ (i:Nat) (z:List UInt8),l[i]? = some z->us[i]? = some (Value.string ⟨z.toArray⟩)) :
  Left w R μ (fun j=>([]:List Blk)[j]?) (.ref 0 0 l.length) [some (.row false none .str l)] (.slice (some ⟨w.heap.size,0,none⟩) l.length l.length) (w.alloc (.cells us e)) R (B5 μ 0 (.at w.heap.size 0 1 l.length l.length)):=by
 have h0:μ 0=none:=hn 0 (Nat.le_refl _)
 have hR : ¬R w.heap.size:=fun hr=>by have:=rlt _ hr; omega
 have at0 : ∀ j B,(([some (Blk.row false none .str l)]:List (Option Blk))[j]?).join=some B->j=0/\B = .row false none .str l:=fun j B hB=>by
  match j with
  | 0=>simp at hB; exact ⟨rfl,hB.symm⟩
  | j+1=>simp at hB
 refine ⟨?_,⟨?_,?_,?_,fun x hx=>Nat.lt_of_lt_of_le (rlt x hx) (by simp)⟩,rfl,rfl,rfl,by simp,?_,fun x h=>h,fun x h=>.inl h,?_,?_,Da h0 _,?_⟩
 ·exact .ref 0 0 l.length w.heap.size 0 1 l.length l.length ⟨w.heap.size,0,none⟩ (Az _ _ _) (Nat.le_refl _) (by omega) hm (.inr (by simp))
 ·intro id B hB
  obtain ⟨rfl,rfl⟩:=at0 id B hB
  refine ⟨_,Az _ _ _,.row w.heap.size 0 1 l.length l.length false none .str l us e rfl (by simp only [World.alloc]; simp) ⟨rfl,Nat.le_refl _⟩ hm (by omega) ?_ (by simp)⟩
  intro i z j v hi hj
  match j with
  | 0=>
   simp only [enc,List.getElem?_cons_zero,Option.some.injEq] at hj
   subst hj
   exact ⟨_,by simpa using hv i z hi,.s _⟩
  | j+1=>simp [enc] at hj
 ·intro id id' B B' rb1 rb2 x g1 g2 _ _ _ _ _ _
  rw [(at0 id B g1).1,(at0 id' B' g2).1]
 ·intro id B rb1 x g1 o1 m1 e1
  obtain ⟨rfl,rfl⟩:=at0 id B g1
  rw [Az] at m1; simp at m1; subst m1
  simp [Foot,RB.real] at e1; subst e1
  exact hR
 ·intro k hk hno
  exact BR _ _ hk
 ·intro j B rb1 x g1 o1 m1 e1
  obtain ⟨rfl,rfl⟩:=at0 j B g1
  rw [Az] at m1; simp at m1; subst m1
  simp [Foot,RB.real] at e1; subst e1
  exact .inr (Nat.le_refl _)
 ·intro j B rb1 x g1 m1 e1
  obtain ⟨rfl,rfl⟩:=at0 j B g1
  rw [Az] at m1; simp at m1; subst m1
  simp [Foot,RB.real] at e1; subst e1
  exact .inr (Nat.le_refl _)
 ·intro j hj
  have hj:1<=j:=hj
  have hne:j≠0:=by omega
  simp only [B5,hne,if_false]
  exact hn j (by omega)
theorem Abi:Ag prog 140 (Ent.rd1 NS).F:=by
 intro w R μ vs us bs r outs hmem hnone hreps hF
 unfold Ent.F NS at hF
 dsimp only at hF
 split at hF
 rotate_left
 ·cases hF
 rename_i s c
 obtain ⟨hc,h⟩:=Ad hF
 have hc:=of_decide_eq_true hc
 obtain ⟨rfl,rfl⟩:=Prod.mk.inj (Ao h)
 clear h hF
 match us,hreps with
 | [u0,u1],hreps=>
 have v0:=hreps.2 0 _ u0 rfl rfl
 have v1:=hreps.2 1 _ u1 rfl rfl
 cases v0
 cases v1
 have hsz:(⟨s.toArray⟩:ByteArray).size=s.length:=by simp [ByteArray.size]
 refine (Ud (ρ:=Rz) YE (by kernel_rfl) ⟨s.toArray⟩ c w (by rw [hsz]; omega)).mono ?_
 rintro e w' ⟨rfl,rfl⟩
 have hcount:Lib.countB ⟨s.toArray⟩ ⟨#[c]⟩=s.count c:=by
  show Lib.count s.toArray.toList [c]=_
  rw [Lib.count_one]
 have hdata:=Lib.splitB_data ⟨#[c]⟩ 0 (s.count c) ⟨s.toArray⟩
 have hcut:(Lib.splitB ⟨#[c]⟩ 0 (s.count c) ⟨s.toArray⟩).map (·.data.toList)=cut c s:=by rw [hdata]; exact Ig c s
 rw [hcount]
 generalize Lib.splitB ⟨#[c]⟩ 0 (s.count c) ⟨s.toArray⟩=L at *
 have hl:L.length=(cut c s).length:=by rw [<-hcut,length_map]
 have hlc:=OG c s
 have hcs:=List.count_le_length (a:=c) (l:=s)
 have:=Xq (w:=w) (R:=R) (μ:=μ) (l:=cut c s) (us:=(L.map Value.string).toArray) (e:=Rz.t 9) (fun j _=>hnone j (by simp)) hmem.rlt (by unfold maxI; omega) (by simp; omega) (fun i z hi=>by
  rw [<-hcut,getElem?_map] at hi
  obtain ⟨x,hx,rfl⟩:=map_eq_some_iff.1 hi
  simp [hx])
 rw [hlc] at this ⊢
 exact ⟨_,R,_,rfl,this⟩
def Lf (b:UInt8):Bool:=(decide (97<=b.toNat)&&decide (b.toNat<=122))||(decide (48<=b.toNat)&&decide (b.toNat<=57))
def lev (s:List UInt8):Bool:=s.all Lf&&(decide (1<=s.length)&&decide (s.length<=6))
def O2:Gm
 | [.s s],[]=>.need (decide (s.length<=maxI)) (.leaf (.b (lev s),[]))
 | _,_=>.no
def KI:LoopEnt:=⟨35,[0,5,6],[0],[2],fun
 | ([.s s,.i .i64 m,.i .i64 i],[])=>.need (decide (0<=i/\i.toNat<=s.length/\s.length<=maxI/\m=s.length)) (.br ((s.drop i.toNat).all Lf) (.leaf (.exit 0,([.s s],[]))) (.leaf (.ret,([.b false],[]))))
 | _=>.no⟩
def Kw:LoopEnt:=⟨36,[0,3],[0],[2],fun
 | ([.s s,.i .i64 i],[])=>.need (decide (0<=i/\i.toNat<=s.length/\s.length<=maxI)) (.br ((s.drop i.toNat).all Lf) (.leaf (.exit 0,([.s s],[]))) (.leaf (.ret,([.b false],[]))))
 | _=>.no⟩
theorem KH (s:List UInt8) (m i:Int):Av prog (Ab [(88,.rd1 A3)]) (Ab [(2,KI)]) 0 (body f132 0) KI ([.s s,.j m,.j i],[]) =
 ((ifB (decide (i<m)) (ifT (decide ((0:Int)<=i)) (Ah s[i.toNat]? fun z=>ifB (decide ((↑z.toNat:Int)<(97:Int))) (ifT (decide ((0:Int)<=i)) (Ah
 s[i.toNat]? fun z=>ifB (decide ((↑z.toNat:Int)<(48:Int))) (some (Ex.ret,[V.b false],[])) (ifT (decide ((0:Int)<=i)) (Ah s[i.toNat]? fun z=>ifB (decide
 ((↑z.toNat:Int)>(57:Int))) (some (Ex.ret,[V.b false],[])) (some (Ex.normal,[V.s s,V.j m,V.j (i64.wrap (i+(1:Int)))],[])))))) (ifT
 (decide ((0:Int)<=i)) (Ah s[i.toNat]? fun z=>ifB (decide ((↑z.toNat:Int)>(122:Int))) (ifT (decide ((0:Int)<=i)) (Ah s[i.toNat]? fun z=>ifB (decide
 ((↑z.toNat:Int)<(48:Int))) (some (Ex.ret,[V.b false],[])) (ifT (decide ((0:Int)<=i)) (Ah s[i.toNat]? fun z=>ifB (decide ((↑z.toNat:Int)>(57:Int)))
 (some (Ex.ret,[V.b false],[])) (some (Ex.normal,[V.s s,V.j m,V.j (i64.wrap (i+(1:Int)))],[])))))) (some (Ex.normal,[V.s s,V.j m,V.i
 .i64 (i64.wrap (i+(1:Int)))],[])))))) (some (Ex.exit 0,[V.s s],[]))):_):=by kernel_rfl
theorem YX:Ar prog (Ab [(88,.rd1 A3)]) (Ab [(2,KI)]) 0 (f132.body.getD .skip):=by
 refine An (a:=body f132 0) (by kernel_rfl) fun d e d' h=>?_
 unfold KI at h
 dsimp only at h
 split at h
 ·rename_i s m i
  obtain ⟨hc,hx⟩:=Ad h
  clear h
  obtain ⟨h0,h1,h2,rfl⟩:=of_decide_eq_true hc
  obtain ⟨i,rfl⟩:=eq_ofNat_of_zero_le h0
  rw [ntN] at h1 hx
  refine B7 (l:=s) Lf (fun i=>([.s s,.j (↑s.length:Int),.j (i:Int)],[])) (ex:=(.exit 0,([.s s],[]))) (rt:=(.ret,([.b false],[]))) (by simp) (by simp) (fun i hi=>?_) ?_ (s.length-i) i (by omega) e d' hx
  ·have hr:=KH s s.length i
   rw [Af (dcT (by omega))] at hr
   simp only [ntN,gtE hi,Am,Ap (n:=i) (by omega)] at hr
   refine hr.trans ?_
   have hb:=s[i].toNat_lt
   have hz:(0:Int)<=(i:Int):=by omega
   simp only [hz,decide_true,Cn]
   unfold Lf
   generalize s[i].toNat=b at *
   have c1:decide ((b:Int)<97) = !decide (97<=b):=by rw [<-decide_not]; exact decide_eq_decide.2 (by omega)
   have c2:decide ((b:Int)>122) = !decide (b<=122):=by rw [<-decide_not]; exact decide_eq_decide.2 (by omega)
   have c3:decide ((b:Int)<48) = !decide (48<=b):=by rw [<-decide_not]; exact decide_eq_decide.2 (by omega)
   have c4:decide ((b:Int)>57) = !decide (b<=57):=by rw [<-decide_not]; exact decide_eq_decide.2 (by omega)
   have d1:decide ((b:Int)>=97)=decide (97<=b):=decide_eq_decide.2 (by omega)
   have d2:decide ((b:Int)<=122)=decide (b<=122):=decide_eq_decide.2 (by omega)
   have d3:decide ((b:Int)>=48)=decide (48<=b):=decide_eq_decide.2 (by omega)
   have d4:decide ((b:Int)<=57)=decide (b<=57):=decide_eq_decide.2 (by omega)
   simp only [c1,c2,c3,c4,d1,d2,d3,d4]
   clear c1 c2 c3 c4 d1 d2 d3 d4
   generalize decide (97<=b)=x1
   generalize decide (b<=122)=x2
   generalize decide (48<=b)=x3
   generalize decide (b<=57)=x4
   cases x1<;>cases x2<;>cases x3<;>cases x4<;>rfl
  ·have hr:=KH s s.length s.length
   rw [Ac (dcF (by omega))] at hr
   exact hr
 ·cases h
theorem WP (s:List UInt8) (hm:s.length<=maxI):Ax prog (Ab [(88,.rd1 A3)]) (Ab [(2,KI)]) f132 [.s s] []=some (.b (lev s),[]):=by
 have e:Ax prog (Ab [(88,.rd1 A3)]) (Ab [(2,KI)]) f132 [.s s] []=((ifT (decide ((0:Int)<=(0:Int)/\0<=s.length/\s.length<=maxI/\(↑s.length:Int)=(↑s.length:Int))) (ifB ((drop 0 s).all Lf) (some (V.b
 (decide ((1:Int)<=(↑s.length:Int)/\(↑s.length:Int)<=(6:Int))),[])) (some (V.b false,[])))):_):=by kernel_rfl
 rw [e]
 clear e
 rw [Aa (dcT ⟨by omega,by omega,hm,by trivial⟩)]
 unfold lev
 simp only [drop_zero]
 cases s.all Lf with
 | true=>
  rw [Be]
  by_cases q1:1<=s.length<;>by_cases q2:s.length<=6<;>simp [q1,q2]<;>omega
 | false=>rfl
theorem Ad4:Ag prog 132 (Ent.rd1 O2).F:=by
 refine Ae (kc func88 Dj KnowsL.nil).knows (Λ:=(Ab [(2,KI)])) func132 (c:=f132.body.getD .skip) (by kernel_rfl) fun vs bs r' hq hv hb=>?_
 unfold Ent.F O2 at hq
 dsimp only at hq
 split at hq
 ·rename_i s
  obtain ⟨hc,hx⟩:=Ad hq
  exact ⟨YX,(WP s (of_decide_eq_true hc)).trans hx⟩
 ·cases hq
theorem Kv (s:List UInt8) (i:Int):Av prog (Ab [(78,.rd1 A3)]) (Ab [(2,Kw)]) 0 (body f121 0) Kw ([.s s,.j i],[]) =
 ((ifB (decide (i<(↑s.length:Int))) (ifT (decide ((0:Int)<=i)) (Ah s[i.toNat]? fun z=>ifB (decide ((↑z.toNat:Int)>=(97:Int))) (ifT (decide ((0:Int)<=i))
 (Ah s[i.toNat]? fun z=>ifB (decide ((↑z.toNat:Int)<=(122:Int))) (some (Ex.normal,[V.s s,V.j (i64.wrap (i+(1:Int)))],[])) (ifT (decide ((0 :
 Int)<=i)) (Ah s[i.toNat]? fun z=>ifB (decide ((↑z.toNat:Int)>=(48:Int))) (ifT (decide ((0:Int)<=i)) (Ah s[i.toNat]? fun z=>ifB (!decide ((↑z.toNat :
 Int)<=(57:Int))) (some (Ex.ret,[V.b false],[])) (some (Ex.normal,[V.s s,V.j (i64.wrap (i+(1:Int)))],[])))) (some (Ex.ret,[V.b false],[]))))))
 (ifT (decide ((0:Int)<=i)) (Ah s[i.toNat]? fun z=>ifB (decide ((↑z.toNat:Int)>=(48:Int))) (ifT (decide ((0:Int)<=i)) (Ah s[i.toNat]? fun z=>ifB
 (!decide ((↑z.toNat:Int)<=(57:Int))) (some (Ex.ret,[V.b false],[])) (some (Ex.normal,[V.s s,V.j (i64.wrap (i+(1:Int)))],[])))) (some (Ex.ret,
 [V.b false],[])))))) (some (Ex.exit 0,[V.s s],[]))):_):=by kernel_rfl
theorem YG:Ar prog (Ab [(78,.rd1 A3)]) (Ab [(2,Kw)]) 0 (f121.body.getD .skip):=by
 refine An (a:=body f121 0) (by kernel_rfl) fun d e d' h=>?_
 unfold Kw at h
 dsimp only at h
 split at h
 ·rename_i s i
  obtain ⟨hc,hx⟩:=Ad h
  clear h
  obtain ⟨h0,h1,h2⟩:=of_decide_eq_true hc
  obtain ⟨i,rfl⟩:=eq_ofNat_of_zero_le h0
  rw [ntN] at h1 hx
  refine B7 (l:=s) Lf (fun i=>([.s s,.j (i:Int)],[])) (ex:=(.exit 0,([.s s],[]))) (rt:=(.ret,([.b false],[]))) (by simp) (by simp) (fun i hi=>?_) ?_ (s.length-i) i (by omega) e d' hx
  ·have hr:=Kv s i
   rw [Af (dcT (by omega))] at hr
   simp only [ntN,gtE hi,Am,Ap (n:=i) (by omega)] at hr
   refine hr.trans ?_
   have hb:=s[i].toNat_lt
   have hz:(0:Int)<=(i:Int):=by omega
   simp only [hz,decide_true,Cn]
   unfold Lf
   generalize s[i].toNat=b at *
   have c1:decide ((b:Int)<97) = !decide (97<=b):=by rw [<-decide_not]; exact decide_eq_decide.2 (by omega)
   have c2:decide ((b:Int)>122) = !decide (b<=122):=by rw [<-decide_not]; exact decide_eq_decide.2 (by omega)
   have c3:decide ((b:Int)<48) = !decide (48<=b):=by rw [<-decide_not]; exact decide_eq_decide.2 (by omega)
   have c4:decide ((b:Int)>57) = !decide (b<=57):=by rw [<-decide_not]; exact decide_eq_decide.2 (by omega)
   have d1:decide ((b:Int)>=97)=decide (97<=b):=decide_eq_decide.2 (by omega)
   have d2:decide ((b:Int)<=122)=decide (b<=122):=decide_eq_decide.2 (by omega)
   have d3:decide ((b:Int)>=48)=decide (48<=b):=decide_eq_decide.2 (by omega)
   have d4:decide ((b:Int)<=57)=decide (b<=57):=decide_eq_decide.2 (by omega)
   simp only [c1,c2,c3,c4,d1,d2,d3,d4]
   clear c1 c2 c3 c4 d1 d2 d3 d4
   generalize decide (97<=b)=x1
   generalize decide (b<=122)=x2
   generalize decide (48<=b)=x3
   generalize decide (b<=57)=x4
   cases x1<;>cases x2<;>cases x3<;>cases x4<;>rfl
  ·have hr:=Kv s s.length
   rw [Ac (dcF (by omega))] at hr
   exact hr
 ·cases h
theorem Wq (s:List UInt8) (hm:s.length<=maxI):Ax prog (Ab [(78,.rd1 A3)]) (Ab [(2,Kw)]) f121 [.s s] []=some (.b (lev s),[]):=by
 have e:Ax prog (Ab [(78,.rd1 A3)]) (Ab [(2,Kw)]) f121 [.s s] []=((ifT (decide ((0:Int)<=(0:Int)/\0<=s.length/\s.length<=maxI)) (ifB ((drop 0 s).all Lf) (some (V.b (decide ((1:Int)<=(↑s.length:Int)/\
 (↑s.length:Int)<=(6:Int))),[])) (some (V.b false,[])))):_):=by kernel_rfl
 rw [e]
 clear e
 rw [Aa (dcT ⟨by omega,by omega,hm⟩)]
 unfold lev
 simp only [drop_zero]
 cases s.all Lf with
 | true=>
  rw [Be]
  by_cases q1:1<=s.length<;>by_cases q2:s.length<=6<;>simp [q1,q2]<;>omega
 | false=>rfl
theorem Adu:Ag prog 121 (Ent.rd1 O2).F:=by
 refine Ae (kc func78 JB KnowsL.nil).knows (Λ:=(Ab [(2,Kw)])) func121 (c:=f121.body.getD .skip) (by kernel_rfl) fun vs bs r' hq hv hb=>?_
 unfold Ent.F O2 at hq
 dsimp only at hq
 split at hq
 ·rename_i s
  obtain ⟨hc,hx⟩:=Ad hq
  exact ⟨YG,(Wq s (of_decide_eq_true hc)).trans hx⟩
 ·cases hq
def tkS (f:List UInt8->List UInt8->Bool):List (List UInt8)->List (List UInt8)->Option Bool
 | [],_=>none
 | x::p,q=>if x=[35] then some true else match q with
  | []=>some false
  | y::q=>if f x y=true then tkS f p q else some false
def tk (f:List UInt8->List UInt8->Bool) (p q:List (List UInt8)):Bool:=(tkS f p q).getD (decide (p.length=q.length))
def inL (x y:List UInt8):Bool:=x==y||(x==[43]&&!(y==[35]))
def EX (x y:List UInt8):Bool:=x==[43]||x==y
def inG:Gm
 | [.sl .str p,.sl .str q],[]=>.leaf (.b (tk inL p q),[])
 | _,_=>.no
def Ac5:Gm
 | [.sl .str p,.sl .str q],[]=>.leaf (.b (tk EX p q),[])
 | _,_=>.no
def NN:LoopEnt:=⟨47,[0,1,7,8,9],[0,1],[4],fun
 | ([.sl .str p,.sl .str q,.sl .str p2,.i .i64 m,.i .i64 i],[])=>.need (decide (0<=i/\p2=p/\m=p.length/\i.toNat<=p.length/\i.toNat<=q.length/\p.length<=maxI/\q.length<=maxI)) (.br (tkS inL (p.drop i.toNat) (q.drop i.toNat)).isNone (.leaf (.exit 0,([.sl .str p,.sl .str q],[]))) (.leaf (.ret,([.b ((tkS inL (p.drop i.toNat) (q.drop i.toNat)).getD false)],[]))))
 | _=>.no⟩
def HW:LoopEnt:=⟨38,[0,1,7,8,9],[0,1],[4],fun
 | ([.sl .str p,.sl .str q,.sl .str p2,.i .i64 m,.i .i64 i],[])=>.need (decide (0<=i/\p2=p/\m=p.length/\i.toNat<=p.length/\i.toNat<=q.length/\p.length<=maxI/\q.length<=maxI)) (.br (tkS EX (p.drop i.toNat) (q.drop i.toNat)).isNone (.leaf (.exit 0,([.sl .str p,.sl .str q],[]))) (.leaf (.ret,([.b ((tkS EX (p.drop i.toNat) (q.drop i.toNat)).getD false)],[]))))
 | _=>.no⟩
theorem Hr (f:List UInt8->List UInt8->Bool) (x:List UInt8) (p q:List (List UInt8)):tkS f (x::p) q=if x=[35] then some true else match q with
  | []=>some false
  | y::q=>if f x y=true then tkS f p q else some false:=by cases q<;>rfl
theorem Mz (p q p2:List (List UInt8)) (m i:Int):Av prog (Ab []) (Ab [(2,NN)]) 0 (body f95 0) NN ([.sl .str p,.sl .str q,.sl .str p2,.j m,.j i],[]) =
 ((ifB (decide (i<m)) (ifT (decide ((0:Int)<=i)&&decide (i<(↑p2.length:Int))) (Ah p2[i.toNat]? fun z=>ifB (z==[(35:UInt8)]) (some (Ex.ret,[V.b true],
 [])) (ifB (i==(↑q.length:Int)) (some (Ex.ret,[V.b false],[])) (ifT (decide ((0:Int)<=i)&&decide (i<(↑q.length:Int))) (Ah q[i.toNat]? fun z_1=>ifB (!z
 == z_1) (ifB (!z==[(43:UInt8)]) (some (Ex.ret,[V.b false],[])) (ifT (decide ((0:Int)<=i)&&decide (i<(↑q.length:Int))) (Ah q[i.toNat]? fun z=>ifB (z
 == [(35:UInt8)]) (some (Ex.ret,[V.b false],[])) (some (Ex.normal,[V.sl Cd.str p,V.sl Cd.str q,V.sl Cd.str p2,V.j m,V.j (i64.wrap (i+(1 :
 Int)))],[]))))) (some (Ex.normal,[V.sl Cd.str p,V.sl Cd.str q,V.sl Cd.str p2,V.j m,V.j (i64.wrap (i+(1:Int)))],[]))))))) (some (Ex.exit 0,
 [V.sl Cd.str p,V.sl Cd.str q],[]))):_):=by kernel_rfl
theorem Pb (p q:List (List UInt8)) (hp:p.length<=maxI) (hq:q.length<=maxI) : ∀ (j i:Nat),i+j=p.length->i<=q.length->∀ e d',(Br.br (tkS inL (p.drop i) (q.drop i)).isNone (.leaf (.exit 0,([.sl .str p,.sl .str q],[]))) (.leaf (.ret,([.b ((tkS inL (p.drop i) (q.drop i)).getD false)],[]))):Br (Ex×Dt)).run=some (e,d')->Runs prog (Ab []) (Ab [(2,NN)]) 0 (body f95 0) NN ([.sl .str p,.sl .str q,.sl .str p,.j (↑p.length:Int),.j (i:Int)],[]) e d'
 | 0,i,hi,hiq,e,d',hx=>by
  have hr:=Mz p q p p.length i
  rw [Ac (dcF (by omega))] at hr
  rw [drop_eq_nil_of_le (by omega)] at hx
  cases hx
  exact .stop _ _ _ hr (by simp)
 | j+1,i,hi,hiq,e,d',hx=>by
  have hil:i<p.length:=by omega
  have hr:=Mz p q p p.length i
  rw [Af (dcT (by omega)),Aa (by simp only [anE,dcE]; omega)] at hr
  simp only [ntN,gtE hil,Am,Ap (n:=i) (by omega)] at hr
  rw [drop_eq_getElem_cons hil,Hr] at hx
  by_cases q1:p[i]=[35]
  ·rw [if_pos q1] at hx
   cases hx
   rw [Af (by rw [q1]; rfl)] at hr
   exact .stop _ _ _ hr (by simp)
  rw [if_neg q1] at hx
  rw [Ac (beq_false_of_ne q1)] at hr
  by_cases q2:i=q.length
  ·rw [drop_eq_nil_of_le (by omega)] at hx
   cases hx
   rw [Af (by rw [q2]; simp)] at hr
   exact .stop _ _ _ hr (by simp)
  have hiq2:i<q.length:=by omega
  rw [Ac (beq_false_of_ne (by omega))] at hr
  simp only [gtE hiq2,Am] at hr
  have hb:(decide (0<=(i:Int))&&decide ((i:Int)<(q.length:Int)))=true:=by simp only [anE,dcE]; omega
  simp only [hb,Cn] at hr
  rw [drop_eq_getElem_cons hiq2] at hx
  have e35:(p[i]==[35])=false:=beq_false_of_ne q1
  by_cases q3:inL p[i] q[i]=true
  ·simp only [if_pos q3] at hx
   refine .step _ _ _ _ (hr.trans ?_) (Pb p q hp hq j (i+1) (by omega) (by omega) e d' hx)
   revert q3 e35
   unfold inL
   generalize p[i]=x
   generalize q[i]=y
   intro e35 q3
   by_cases z1:x=y
   ·subst z1; simp at q3 ⊢
   ·by_cases z2:x=[43]
    ·subst z2
     by_cases z3:y=[35]
     ·subst z3; simp_all
     ·simp_all
    ·simp_all
  ·simp only [if_neg q3] at hx
   cases hx
   refine .stop _ _ _ (hr.trans ?_) (by simp)
   revert q3 e35
   unfold inL
   generalize p[i]=x
   generalize q[i]=y
   intro e35 q3
   by_cases z1:x=y
   ·subst z1; simp at q3 ⊢
   ·by_cases z2:x=[43]
    ·subst z2
     by_cases z3:y=[35]
     ·subst z3; simp_all
     ·simp_all
    ·simp_all
theorem Abd:Ar prog (Ab []) (Ab [(2,NN)]) 0 (f95.body.getD .skip):=by
 refine An (a:=body f95 0) (by kernel_rfl) fun d e d' h=>?_
 unfold NN at h
 dsimp only at h
 split at h
 ·rename_i p q p2 m i
  obtain ⟨hc,hx⟩:=Ad h
  clear h
  obtain ⟨h0,rfl,rfl,h1,h2,h3,h4⟩:=of_decide_eq_true hc
  obtain ⟨i,rfl⟩:=eq_ofNat_of_zero_le h0
  rw [ntN] at h1 h2 hx
  exact Pb p2 q h3 h4 (p2.length-i) i (by omega) h2 e d' hx
 ·cases h
theorem Y5 (p q:List (List UInt8)) (hp:p.length<=maxI) (hq:q.length<=maxI):Ax prog (Ab []) (Ab [(2,NN)]) f95 [.sl .str p,.sl .str q] []=some (.b (tk inL p q),[]):=by
 have e:Ax prog (Ab []) (Ab [(2,NN)]) f95 [.sl .str p,.sl .str q] []=((ifT (decide ((0:Int)<=(0:Int)/\p=p/\(↑p.length:Int)=(↑p.length:Int)/\0<=p.length/\0<=q.length/\p.length<=maxI/\q.length<=maxI)) (ifB
 (tkS inL (drop 0 p) (drop 0 q)).isNone (some (V.b ((↑p.length:Int)==(↑q.length:Int)),[])) (some (V.b ((tkS inL (drop 0 p)
 (drop 0 q)).getD false),[])))):_):=by kernel_rfl
 rw [e]
 clear e
 rw [Aa (dcT ⟨by omega,by trivial,by trivial,by omega,by omega,hp,hq⟩)]
 unfold tk
 simp only [drop_zero]
 cases tkS inL p q with
 | none=>
  rw [Af (by rfl)]
  by_cases h:p.length=q.length
  ·simp [h]
  ·simp [h]<;>omega
 | some b=>rfl
theorem tin:Ag prog 95 (Ent.rd1 inG).F:=by
 refine Ae KnowsL.nil.knows (Λ:=Ab [(2,NN)]) func95 (c:=f95.body.getD .skip) (by kernel_rfl) fun vs bs r' hq hv hb=>?_
 unfold Ent.F inG at hq
 dsimp only at hq
 split at hq
 ·rename_i p q
  exact ⟨Abd,(Y5 p q (hv (.sl .str p) (by simp)).1 (hv (.sl .str q) (by simp)).1).trans hq⟩
 ·cases hq
theorem L0 (p q p2:List (List UInt8)) (m i:Int):Av prog (Ab []) (Ab [(2,HW)]) 0 (body f126 0) HW ([.sl .str p,.sl .str q,.sl .str p2,.j m,.j i],[]) =
 ((ifB (decide (i<m)) (ifT (decide ((0:Int)<=i)&&decide (i<(↑p2.length:Int))) (Ah p2[i.toNat]? fun z=>ifB (z==[(35:UInt8)]) (some (Ex.ret,[V.b true],
 [])) (ifB (i==(↑q.length:Int)) (some (Ex.ret,[V.b false],[])) (ifB (!z==[(43:UInt8)]) (ifT (decide ((0:Int)<=i)&&decide (i<(↑q.length:Int))) (Ah
 q[i.toNat]? fun z_1=>ifB (!z==z_1) (some (Ex.ret,[V.b false],[])) (some (Ex.normal,[V.sl Cd.str p,V.sl Cd.str q,V.sl Cd.str p2,V.j m,V.i .i64
 (i64.wrap (i+(1:Int)))],[])))) (some (Ex.normal,[V.sl Cd.str p,V.sl Cd.str q,V.sl Cd.str p2,V.j m,V.j (i64.wrap (i+(1:Int)))],
 [])))))) (some (Ex.exit 0,[V.sl Cd.str p,V.sl Cd.str q],[]))):_):=by kernel_rfl
theorem Nv (p q:List (List UInt8)) (hp:p.length<=maxI) (hq:q.length<=maxI) : ∀ (j i:Nat),i+j=p.length->i<=q.length->∀ e d',(Br.br (tkS EX (p.drop i) (q.drop i)).isNone (.leaf (.exit 0,([.sl .str p,.sl .str q],[]))) (.leaf (.ret,([.b ((tkS EX (p.drop i) (q.drop i)).getD false)],[]))):Br (Ex×Dt)).run=some (e,d')->Runs prog (Ab []) (Ab [(2,HW)]) 0 (body f126 0) HW ([.sl .str p,.sl .str q,.sl .str p,.j (↑p.length:Int),.j (i:Int)],[]) e d'
 | 0,i,hi,hiq,e,d',hx=>by
  have hr:=L0 p q p p.length i
  rw [Ac (dcF (by omega))] at hr
  rw [drop_eq_nil_of_le (by omega)] at hx
  cases hx
  exact .stop _ _ _ hr (by simp)
 | j+1,i,hi,hiq,e,d',hx=>by
  have hil:i<p.length:=by omega
  have hr:=L0 p q p p.length i
  rw [Af (dcT (by omega)),Aa (by simp only [anE,dcE]; omega)] at hr
  simp only [ntN,gtE hil,Am,Ap (n:=i) (by omega)] at hr
  rw [drop_eq_getElem_cons hil,Hr] at hx
  by_cases q1:p[i]=[35]
  ·rw [if_pos q1] at hx
   cases hx
   rw [Af (by rw [q1]; rfl)] at hr
   exact .stop _ _ _ hr (by simp)
  rw [if_neg q1] at hx
  rw [Ac (beq_false_of_ne q1)] at hr
  by_cases q2:i=q.length
  ·rw [drop_eq_nil_of_le (by omega)] at hx
   cases hx
   rw [Af (by rw [q2]; simp)] at hr
   exact .stop _ _ _ hr (by simp)
  have hiq2:i<q.length:=by omega
  rw [Ac (beq_false_of_ne (by omega))] at hr
  simp only [gtE hiq2,Am] at hr
  have hb:(decide (0<=(i:Int))&&decide ((i:Int)<(q.length:Int)))=true:=by simp only [anE,dcE]; omega
  simp only [hb,Cn] at hr
  rw [drop_eq_getElem_cons hiq2] at hx
  have e35:(p[i]==[35])=false:=beq_false_of_ne q1
  by_cases q3:EX p[i] q[i]=true
  ·simp only [if_pos q3] at hx
   refine .step _ _ _ _ (hr.trans ?_) (Nv p q hp hq j (i+1) (by omega) (by omega) e d' hx)
   revert q3 e35
   unfold EX
   generalize p[i]=x
   generalize q[i]=y
   intro e35 q3
   by_cases z2:x=[43]
   ·subst z2; simp_all
   ·by_cases z1:x=y
    ·subst z1; simp_all
    ·simp_all
  ·simp only [if_neg q3] at hx
   cases hx
   refine .stop _ _ _ (hr.trans ?_) (by simp)
   revert q3 e35
   unfold EX
   generalize p[i]=x
   generalize q[i]=y
   intro e35 q3
   by_cases z2:x=[43]
   ·subst z2; simp_all
   ·by_cases z1:x=y
    ·subst z1; simp_all
    ·simp_all
theorem ZG:Ar prog (Ab []) (Ab [(2,HW)]) 0 (f126.body.getD .skip):=by
 refine An (a:=body f126 0) (by kernel_rfl) fun d e d' h=>?_
 unfold HW at h
 dsimp only at h
 split at h
 ·rename_i p q p2 m i
  obtain ⟨hc,hx⟩:=Ad h
  clear h
  obtain ⟨h0,rfl,rfl,h1,h2,h3,h4⟩:=of_decide_eq_true hc
  obtain ⟨i,rfl⟩:=eq_ofNat_of_zero_le h0
  rw [ntN] at h1 h2 hx
  exact Nv p2 q h3 h4 (p2.length-i) i (by omega) h2 e d' hx
 ·cases h
theorem XT (p q:List (List UInt8)) (hp:p.length<=maxI) (hq:q.length<=maxI):Ax prog (Ab []) (Ab [(2,HW)]) f126 [.sl .str p,.sl .str q] []=some (.b (tk EX p q),[]):=by
 have e:Ax prog (Ab []) (Ab [(2,HW)]) f126 [.sl .str p,.sl .str q] []=((ifT (decide ((0:Int)<=(0:Int)/\p=p/\(↑p.length:Int)=(↑p.length:Int)/\0<=p.length/\0<=q.length/\p.length<=maxI/\q.length<=maxI)) (ifB
 (tkS EX (drop 0 p) (drop 0 q)).isNone (some (V.b ((↑p.length:Int)==(↑q.length:Int)),[])) (some (V.b ((tkS EX (drop 0 p)
 (drop 0 q)).getD false),[])))):_):=by kernel_rfl
 rw [e]
 clear e
 rw [Aa (dcT ⟨by omega,by trivial,by trivial,by omega,by omega,hp,hq⟩)]
 unfold tk
 simp only [drop_zero]
 cases tkS EX p q with
 | none=>
  rw [Af (by rfl)]
  by_cases h:p.length=q.length
  ·simp [h]
  ·simp [h]<;>omega
 | some b=>rfl
theorem Afm:Ag prog 126 (Ent.rd1 Ac5).F:=by
 refine Ae KnowsL.nil.knows (Λ:=Ab [(2,HW)]) func126 (c:=f126.body.getD .skip) (by kernel_rfl) fun vs bs r' hq hv hb=>?_
 unfold Ent.F Ac5 at hq
 dsimp only at hq
 split at hq
 ·rename_i p q
  exact ⟨ZG,(XT p q (hv (.sl .str p) (by simp)).1 (hv (.sl .str q) (by simp)).1).trans hq⟩
 ·cases hq


def Dy (s:List UInt8):Bool:=s==[43]||(s==[35]||lev s)
def lvB (l:List (List UInt8)):Bool:=decide (l.length<=6)&&(!(l.any fun z=>!Dy z)&&!decide ([35]∈l.take (l.length-1)))
def tpB (l:List (List UInt8)):Bool:=lvB l&&!(l.any fun z=>!lev z)
def Tm:Gm
 | [.s s],[]=>.need (decide (s.length<=maxI)) (.leaf (.b (Dy s),[]))
 | _,_=>.no
def RQ:Gm
 | [.s s],[]=>.need (decide (s.length<=maxI)) (.leaf (.b (!Dy s),[]))
 | _,_=>.no
def QX:Gm
 | [.s s],[]=>.need (decide (s.length<=maxI)) (.leaf (.b (!lev s),[]))
 | _,_=>.no
theorem U0 (s:List UInt8) (hc:s.length<=maxI):Ax prog (Ab [(132,.rd1 O2)]) (Ab []) f142 [.s s] []=(.leaf (.b (Dy s),[]):Br (V×List (Option Blk))).run:=by
 have e:Ax prog (Ab [(132,.rd1 O2)]) (Ab []) f142 [.s s] []=((ifB (s==[(43:UInt8)]) (some (V.b true,[])) (ifB (s==[(35:UInt8)]) (some (V.b true,[])) (ifT (decide (s.length<=maxI)) (some (V.b (lev s),[]))))):_):=by kernel_rfl
 rw [e]
 clear e
 rw [Aa (dcT hc)]
 unfold Dy
 cases s==[43]<;>cases s==[35]<;>cases lev s<;>rfl
theorem Aec:Ag prog 142 (Ent.rd1 Tm).F:=by
 refine Ae (kc func132 Ad4 KnowsL.nil).knows (Λ:=Ab []) func142 (c:=f142.body.getD .skip) (by kernel_rfl) fun vs bs r hq hv hb=>?_
 unfold Ent.F Tm at hq
 dsimp only at hq
 split at hq
 ·rename_i s
  obtain ⟨hc,hq⟩:=Ad hq
  exact ⟨Ak _,(U0 s (of_decide_eq_true hc)).trans hq⟩
 ·cases hq
theorem Zn (s:List UInt8) (hc:s.length<=maxI):Ax prog (Ab [(142,.rd1 Tm)]) (Ab []) f141 [.s s] []=(.leaf (.b (!Dy s),[]):Br (V×List (Option Blk))).run:=by
 have e:Ax prog (Ab [(142,.rd1 Tm)]) (Ab []) f141 [.s s] []=((ifT (decide (s.length<=maxI)) (some (V.b !Dy s,[]))):_):=by kernel_rfl
 rw [e]
 clear e
 rw [Aa (dcT hc)]
 rfl
theorem lv1:Ag prog 141 (Ent.rd1 RQ).F:=by
 refine Ae (kc func142 Aec KnowsL.nil).knows (Λ:=Ab []) func141 (c:=f141.body.getD .skip) (by kernel_rfl) fun vs bs r hq hv hb=>?_
 unfold Ent.F RQ at hq
 dsimp only at hq
 split at hq
 ·rename_i s
  obtain ⟨hc,hq⟩:=Ad hq
  exact ⟨Ak _,(Zn s (of_decide_eq_true hc)).trans hq⟩
 ·cases hq
theorem Y3 (s:List UInt8) (hc:s.length<=maxI):Ax prog (Ab [(132,.rd1 O2)]) (Ab []) f131 [.s s] []=(.leaf (.b (!lev s),[]):Br (V×List (Option Blk))).run:=by
 have e:Ax prog (Ab [(132,.rd1 O2)]) (Ab []) f131 [.s s] []=((ifT (decide (s.length<=maxI)) (some (V.b !lev s,[]))):_):=by kernel_rfl
 rw [e]
 clear e
 rw [Aa (dcT hc)]
 rfl
theorem tp1:Ag prog 131 (Ent.rd1 QX).F:=by
 refine Ae (kc func132 Ad4 KnowsL.nil).knows (Λ:=Ab []) func131 (c:=f131.body.getD .skip) (by kernel_rfl) fun vs bs r hq hv hb=>?_
 unfold Ent.F QX at hq
 dsimp only at hq
 split at hq
 ·rename_i s
  obtain ⟨hc,hq⟩:=Ad hq
  exact ⟨Ak _,(Y3 s (of_decide_eq_true hc)).trans hq⟩
 ·cases hq
def Bk  : List (List UInt8)->Nat->Int
 | [],_=>-1
 | z::l,n=>if (!Dy z)=true then (n:Int) else Bk  l (n+1)
def Dd:LoopEnt:=⟨19,[0,1,4,7,8],[],[4],fun
 | ([.sl .str l,.fn 141 [] [],.i .i64 r,.i .i64 m,.i .i64 n],[])=>
  .need (decide ((∀ z∈l,z.length<=4000000000)/\0<=n/\n.toNat<=l.length/\l.length<=maxI/\m=l.length)) (.br (decide (Bk  (l.drop n.toNat) n.toNat<0)) (.leaf (.exit 0,([],[]))) (.leaf (.ret,([.i .i64 (Bk  (l.drop n.toNat) n.toNat)],[]))))
 | _=>.no⟩
def HL:Gm
 | [.sl .str l,.fn 141 [] []],[]=>.need (decide (∀ z∈l,z.length<=4000000000)) (.leaf (.i .i64 (Bk  l 0),[]))
 | _,_=>.no
def HQ:Gm
 | [.sl .str l,.fn 141 [] []],[]=>.need (decide (∀ z∈l,z.length<=4000000000)) (.leaf (.b (l.any (fun z:(List UInt8)=>!Dy z)),[]))
 | _,_=>.no
def Bh  : List (List UInt8)->Nat->Int
 | [],_=>-1
 | z::l,n=>if (!lev z)=true then (n:Int) else Bh  l (n+1)
def Dc:LoopEnt:=⟨19,[0,1,4,7,8],[],[4],fun
 | ([.sl .str l,.fn 131 [] [],.i .i64 r,.i .i64 m,.i .i64 n],[])=>
  .need (decide ((∀ z∈l,z.length<=4000000000)/\0<=n/\n.toNat<=l.length/\l.length<=maxI/\m=l.length)) (.br (decide (Bh  (l.drop n.toNat) n.toNat<0)) (.leaf (.exit 0,([],[]))) (.leaf (.ret,([.i .i64 (Bh  (l.drop n.toNat) n.toNat)],[]))))
 | _=>.no⟩
def HJ:Gm
 | [.sl .str l,.fn 131 [] []],[]=>.need (decide (∀ z∈l,z.length<=4000000000)) (.leaf (.i .i64 (Bh  l 0),[]))
 | _,_=>.no
def HP:Gm
 | [.sl .str l,.fn 131 [] []],[]=>.need (decide (∀ z∈l,z.length<=4000000000)) (.leaf (.b (l.any (fun z:(List UInt8)=>!lev z)),[]))
 | _,_=>.no
theorem GD  (l:List (List UInt8)) (r:Int) (n:Nat):Av prog (Ab [(141,.rd1 RQ)]) (Ab [(2,Dd)]) 0 (body f168 0) Dd ([.sl .str l,.fn 141 [] [],.j r,.j (↑l.length:Int),.j n],[]) =
 ((ifB (decide ((↑n:Int)<(↑l.length:Int))) (ifT (decide ((0:Int)<=(↑n:Int))&&decide ((↑n:Int)<(↑l.length:Int))) (Ah l[((↑n:Int)).toNat]? fun z=>ifT
 (decide (List.length z<=maxI)) (ifB (!Dy z) (some (Ex.ret,[V.j ((↑n:Int))],[])) (some (Ex.normal,[V.sl Cd.str l,V.fn 141 [] [],V.j r,
 V.j (↑l.length:Int),V.j (i64.wrap ((↑n:Int)+(1:Int)))],[]))))) (some (Ex.exit 0,[],[]))):_):=by kernel_rfl
theorem HK {l:List (List UInt8)} {r:Int} (hs:(∀ z∈l,z.length<=4000000000)) (hx:l.length<=maxI) : ∀ (j n:Nat),n+j=l.length->∀ e d',(.br (decide (Bk  (l.drop n) n<0)) (.leaf (.exit 0,([],[]))) (.leaf (.ret,([.j (Bk  (l.drop n) n)],[]))):Br (Ex×Dt)).run=some (e,d')->
  Runs prog (Ab [(141,.rd1 RQ)]) (Ab [(2,Dd)]) 0 (body f168 0) Dd ([.sl .str l,.fn 141 [] [],.j r,.j (↑l.length:Int),.j n],[]) e d'
 | 0,n,hn,e,d',h=>by
  have e1:l.drop n=[]:=drop_eq_nil_of_le (by omega)
  rw [e1,BB,Bk,if_pos (by omega)] at h
  cases h
  refine .stop _ _ _ ((GD  l r n).trans ?_) (by simp)
  simp [show ¬n<l.length by omega]
 | j+1,n,hn,e,d',h=>by
  have h1:n<l.length:=by omega
  have hr:=GD  l r n
  simp only [ntN,gtE h1,Ap (n:=n) (by omega)] at hr
  rw [Af (by simp [h1]),Aa (by simp [h1]),Am,Aa (dcT (by have:=hs _ (getElem_mem h1); unfold maxI; omega))] at hr
  rw [drop_eq_getElem_cons h1,BB,Bk] at h
  by_cases he:(!Dy l[n])=true
  ·rw [if_pos he,if_neg (by omega)] at h
   cases h
   rw [Af he] at hr
   exact .stop _ _ _ hr (by simp)
  ·rw [if_neg he] at h
   rw [Ac (by simpa using he)] at hr
   exact .step _ _ _ _ hr (HK  hs hx j (n+1) (by omega) e d' (by rw [BB]; exact h))
theorem Ss:Ar prog (Ab [(141,.rd1 RQ)]) (Ab [(2,Dd)]) 0 (f168.body.getD .skip):=by
 refine An (a:=body f168 0) (by kernel_rfl) fun d e d' h=>?_
 unfold Dd at h
 dsimp only at h
 split at h
 ·obtain ⟨hc,h'⟩:=Ad h
  obtain ⟨hs,h0,h1,h2,rfl⟩:=of_decide_eq_true hc
  obtain ⟨n,rfl⟩:=eq_ofNat_of_zero_le h0
  exact HK  hs h2 _ n (add_sub_of_le h1) e d' h'
 ·cases h
theorem Nh  : ∀ (l:List (List UInt8)) (n:Nat),(0<=Bk  l n)=(l.any (fun z:(List UInt8)=>!Dy z)=true)
 | [],n=>by simp [Bk]
 | z::l,n=>by
  rw [Bk,any_cons,or_eq_true]
  by_cases he:(!Dy z)=true
  ·rw [if_pos he]; simp only [he,true_or]; exact eq_true (by omega)
  ·rw [if_neg he,Nh  l (n+1)]; simp only [he,Bool.false_eq_true,false_or]
theorem Jr  : ∀ (l:List (List UInt8)) (n:Nat),Bk  l n<0->Bk  l n = -1
 | [],n,_=>rfl
 | z::l,n,h=>by
  rw [Bk] at h ⊢
  by_cases he:(!Dy z)=true
  ·rw [if_pos he] at h; omega
  ·rw [if_neg he] at h ⊢; exact Jr  l (n+1) h
theorem Qb  (l:List (List UInt8)) (hx:l.length<=maxI) (hs:(∀ z∈l,z.length<=4000000000)):Ax prog (Ab [(141,.rd1 RQ)]) (Ab [(2,Dd)]) f168 [.sl .str l,.fn 141 [] []] []=some (.j (Bk  l 0),[]):=by
 have e:Ax prog (Ab [(141,.rd1 RQ)]) (Ab [(2,Dd)]) f168 [.sl .str l,.fn 141 [] []] [] =
  ((ifT (decide ((∀ (z:Cd.str.den),z∈l->List.length z<=4000000000)/\(0:Int)<=(0:Int)/\0<=l.length/\l.length<=maxI/\(↑l.length:Int) =
 (↑l.length:Int))) (ifB (decide (Bk (drop 0 l) 0<(0:Int))) (some (V.j (-1),[])) (some (V.j (Bk (drop 0 l) (0
 : Nat)),[])))):_):=by kernel_rfl
 rw [e,Aa (dcT ⟨hs,by omega,by omega,hx,rfl⟩),drop_zero]
 by_cases q:Bk  l 0<0
 ·rw [Af (dcT q),Jr  l 0 q]
 ·rw [Ac (dcF q)]
theorem Zl:Ag prog 168 (Ent.rd1 HL).F:=by
 refine Ae (kc func141 lv1 KnowsL.nil).knows (Λ:=(Ab [(2,Dd)])) func168 (c:=f168.body.getD .skip) (by kernel_rfl) fun vs bs r h hv hb=>?_
 unfold Ent.F HL at h
 dsimp only at h
 split at h
 ·rename_i l 
  obtain ⟨hc,h'⟩:=Ad h
  exact ⟨Ss,(Qb  l (hv (.sl .str l) (by simp)).1 (of_decide_eq_true hc)).trans (by cases h'; rfl)⟩
 ·cases h
theorem Qj  (l:List (List UInt8)) (hs:(∀ z∈l,z.length<=4000000000)):Ax prog (Ab [(168,.rd1 HL)]) (Ab []) f130 [.sl .str l,.fn 141 [] []] []=some (.b (l.any (fun z:(List UInt8)=>!Dy z)),[]):=by
 have e:Ax prog (Ab [(168,.rd1 HL)]) (Ab []) f130 [.sl .str l,.fn 141 [] []] [] =
  ((ifT (decide (∀ (z:Cd.str.den),z∈l->List.length z<=4000000000)) (some (V.b (decide (Bk l 0>=(0:Int))),[]))):_):=by kernel_rfl
 rw [e]
 have hv:=Nh  l 0
 rw [Aa (dcT hs)]
 have hd:decide (Bk  l 0>=0)=l.any (fun z:(List UInt8)=>!Dy z):=by
  show decide (0<=Bk  l 0)=_
  cases hq:l.any (fun z:(List UInt8)=>!Dy z) with
  | true=>exact dcT (hv ▸ hq)
  | false=>exact dcF (fun h=>by rw [hv,hq] at h; cases h)
 rw [hd]
theorem Zm:Ag prog 130 (Ent.rd1 HQ).F:=by
 refine Ae (kc func168 Zl KnowsL.nil).knows (Λ:=Ab []) func130 (c:=f130.body.getD .skip) (by kernel_rfl) fun vs bs r h hv hb=>?_
 unfold Ent.F HQ at h
 dsimp only at h
 split at h
 ·rename_i l 
  obtain ⟨hc,h'⟩:=Ad h
  exact ⟨Ak _,(Qj  l (of_decide_eq_true hc)).trans (by cases h'; rfl)⟩
 ·cases h
theorem GC  (l:List (List UInt8)) (r:Int) (n:Nat):Av prog (Ab [(131,.rd1 QX)]) (Ab [(2,Dc)]) 0 (body f168 0) Dc ([.sl .str l,.fn 131 [] [],.j r,.j (↑l.length:Int),.j n],[]) =
 ((ifB (decide ((↑n:Int)<(↑l.length:Int))) (ifT (decide ((0:Int)<=(↑n:Int))&&decide ((↑n:Int)<(↑l.length:Int))) (Ah l[((↑n:Int)).toNat]? fun z=>ifT
 (decide (List.length z<=maxI)) (ifB (!lev z) (some (Ex.ret,[V.j ((↑n:Int))],[])) (some (Ex.normal,[V.sl Cd.str l,V.fn 131 [] [],V.j r,
 V.j (↑l.length:Int),V.j (i64.wrap ((↑n:Int)+(1:Int)))],[]))))) (some (Ex.exit 0,[],[]))):_):=by kernel_rfl
theorem HI {l:List (List UInt8)} {r:Int} (hs:(∀ z∈l,z.length<=4000000000)) (hx:l.length<=maxI) : ∀ (j n:Nat),n+j=l.length->∀ e d',(.br (decide (Bh  (l.drop n) n<0)) (.leaf (.exit 0,([],[]))) (.leaf (.ret,([.j (Bh  (l.drop n) n)],[]))):Br (Ex×Dt)).run=some (e,d')->
  Runs prog (Ab [(131,.rd1 QX)]) (Ab [(2,Dc)]) 0 (body f168 0) Dc ([.sl .str l,.fn 131 [] [],.j r,.j (↑l.length:Int),.j n],[]) e d'
 | 0,n,hn,e,d',h=>by
  have e1:l.drop n=[]:=drop_eq_nil_of_le (by omega)
  rw [e1,BB,Bh,if_pos (by omega)] at h
  cases h
  refine .stop _ _ _ ((GC  l r n).trans ?_) (by simp)
  simp [show ¬n<l.length by omega]
 | j+1,n,hn,e,d',h=>by
  have h1:n<l.length:=by omega
  have hr:=GC  l r n
  simp only [ntN,gtE h1,Ap (n:=n) (by omega)] at hr
  rw [Af (by simp [h1]),Aa (by simp [h1]),Am,Aa (dcT (by have:=hs _ (getElem_mem h1); unfold maxI; omega))] at hr
  rw [drop_eq_getElem_cons h1,BB,Bh] at h
  by_cases he:(!lev l[n])=true
  ·rw [if_pos he,if_neg (by omega)] at h
   cases h
   rw [Af he] at hr
   exact .stop _ _ _ hr (by simp)
  ·rw [if_neg he] at h
   rw [Ac (by simpa using he)] at hr
   exact .step _ _ _ _ hr (HI  hs hx j (n+1) (by omega) e d' (by rw [BB]; exact h))
theorem Sr:Ar prog (Ab [(131,.rd1 QX)]) (Ab [(2,Dc)]) 0 (f168.body.getD .skip):=by
 refine An (a:=body f168 0) (by kernel_rfl) fun d e d' h=>?_
 unfold Dc at h
 dsimp only at h
 split at h
 ·obtain ⟨hc,h'⟩:=Ad h
  obtain ⟨hs,h0,h1,h2,rfl⟩:=of_decide_eq_true hc
  obtain ⟨n,rfl⟩:=eq_ofNat_of_zero_le h0
  exact HI  hs h2 _ n (add_sub_of_le h1) e d' h'
 ·cases h
theorem Ng  : ∀ (l:List (List UInt8)) (n:Nat),(0<=Bh  l n)=(l.any (fun z:(List UInt8)=>!lev z)=true)
 | [],n=>by simp [Bh]
 | z::l,n=>by
  rw [Bh,any_cons,or_eq_true]
  by_cases he:(!lev z)=true
  ·rw [if_pos he]; simp only [he,true_or]; exact eq_true (by omega)
  ·rw [if_neg he,Ng  l (n+1)]; simp only [he,Bool.false_eq_true,false_or]
theorem Jq  : ∀ (l:List (List UInt8)) (n:Nat),Bh  l n<0->Bh  l n = -1
 | [],n,_=>rfl
 | z::l,n,h=>by
  rw [Bh] at h ⊢
  by_cases he:(!lev z)=true
  ·rw [if_pos he] at h; omega
  ·rw [if_neg he] at h ⊢; exact Jq  l (n+1) h
theorem Qa  (l:List (List UInt8)) (hx:l.length<=maxI) (hs:(∀ z∈l,z.length<=4000000000)):Ax prog (Ab [(131,.rd1 QX)]) (Ab [(2,Dc)]) f168 [.sl .str l,.fn 131 [] []] []=some (.j (Bh  l 0),[]):=by
 have e:Ax prog (Ab [(131,.rd1 QX)]) (Ab [(2,Dc)]) f168 [.sl .str l,.fn 131 [] []] [] =
  ((ifT (decide ((∀ (z:Cd.str.den),z∈l->List.length z<=4000000000)/\(0:Int)<=(0:Int)/\0<=l.length/\l.length<=maxI/\(↑l.length:Int) =
 (↑l.length:Int))) (ifB (decide (Bh (drop 0 l) 0<(0:Int))) (some (V.j (-1),[])) (some (V.j (Bh (drop 0 l) (0
 : Nat)),[])))):_):=by kernel_rfl
 rw [e,Aa (dcT ⟨hs,by omega,by omega,hx,rfl⟩),drop_zero]
 by_cases q:Bh  l 0<0
 ·rw [Af (dcT q),Jq  l 0 q]
 ·rw [Ac (dcF q)]
theorem Y1:Ag prog 168 (Ent.rd1 HJ).F:=by
 refine Ae (kc func131 tp1 KnowsL.nil).knows (Λ:=(Ab [(2,Dc)])) func168 (c:=f168.body.getD .skip) (by kernel_rfl) fun vs bs r h hv hb=>?_
 unfold Ent.F HJ at h
 dsimp only at h
 split at h
 ·rename_i l 
  obtain ⟨hc,h'⟩:=Ad h
  exact ⟨Sr,(Qa  l (hv (.sl .str l) (by simp)).1 (of_decide_eq_true hc)).trans (by cases h'; rfl)⟩
 ·cases h
theorem Qi  (l:List (List UInt8)) (hs:(∀ z∈l,z.length<=4000000000)):Ax prog (Ab [(168,.rd1 HJ)]) (Ab []) f130 [.sl .str l,.fn 131 [] []] []=some (.b (l.any (fun z:(List UInt8)=>!lev z)),[]):=by
 have e:Ax prog (Ab [(168,.rd1 HJ)]) (Ab []) f130 [.sl .str l,.fn 131 [] []] [] =
  ((ifT (decide (∀ (z:Cd.str.den),z∈l->List.length z<=4000000000)) (some (V.b (decide (Bh l 0>=(0:Int))),[]))):_):=by kernel_rfl
 rw [e]
 have hv:=Ng  l 0
 rw [Aa (dcT hs)]
 have hd:decide (Bh  l 0>=0)=l.any (fun z:(List UInt8)=>!lev z):=by
  show decide (0<=Bh  l 0)=_
  cases hq:l.any (fun z:(List UInt8)=>!lev z) with
  | true=>exact dcT (hv ▸ hq)
  | false=>exact dcF (fun h=>by rw [hv,hq] at h; cases h)
 rw [hd]
theorem Y2:Ag prog 130 (Ent.rd1 HP).F:=by
 refine Ae (kc func168 Y1 KnowsL.nil).knows (Λ:=Ab []) func130 (c:=f130.body.getD .skip) (by kernel_rfl) fun vs bs r h hv hb=>?_
 unfold Ent.F HP at h
 dsimp only at h
 split at h
 ·rename_i l 
  obtain ⟨hc,h'⟩:=Ad h
  exact ⟨Ak _,(Qi  l (of_decide_eq_true hc)).trans (by cases h'; rfl)⟩
 ·cases h
def Bz (x:List UInt8):Nat->List (List UInt8)->Int
 | _,[]=>-1
 | n,z::l=>if x=z then n else Bz x (n+1) l
def DE:LoopEnt:=⟨19,[0,1,7,8],[],[4],fun
 | ([.sl .str l,.s x,.i .i64 m,.i .i64 n],[])=>
  .need (decide (0<=n/\m=l.length/\n.toNat<=l.length/\l.length<=maxI)) (.br (decide (Bz x n.toNat (l.drop n.toNat) = -1)) (.leaf (.exit 0,([],[]))) (.leaf (.ret,([.i .i64 (Bz x n.toNat (l.drop n.toNat))],[]))))
 | _=>.no⟩
def JW:Gm
 | [.sl .str l,.s x],[]=>.leaf (.i .i64 (Bz x 0 l),[])
 | _,_=>.no
def Ib:Gm
 | [.sl .str l,.s x],[]=>.leaf (.b (decide (x∈l)),[])
 | _,_=>.no
theorem Jw (x:List UInt8) : ∀ (l:List (List UInt8)) (n:Nat),(Bz x n l = -1/\x ∉ l)\/((n:Int)<=Bz x n l/\x∈l)
 | [],n=>.inl ⟨rfl,by simp⟩
 | z::l,n=>by
  unfold Bz
  by_cases h:x=z
  ·rw [if_pos h]; exact .inr ⟨Int.le_refl _,by simp [h]⟩
  ·rw [if_neg h]
   rcases Jw x l (n+1) with ⟨h1,h2⟩ | ⟨h1,h2⟩
   ·exact .inl ⟨h1,by simp [h,h2]⟩
   ·exact .inr ⟨by omega,by simp [h2]⟩
theorem HM (l:List (List UInt8)) (x:List UInt8) (m:Int) (n:Nat):Av prog (Ab []) (Ab [(2,DE)]) 0 (body f176 0) DE ([.sl .str l,.s x,.j m,.j n],[]) =
 ((ifB (decide ((↑n:Int)<m)) (ifT (decide ((0:Int)<=(↑n:Int))&&decide ((↑n:Int)<(↑l.length:Int))) (Ah l[((↑n:Int)).toNat]? fun z=>ifB (x==z) (some
 (Ex.ret,[V.j ((↑n:Int))],[])) (some (Ex.normal,[V.sl Cd.str l,V.s x,V.j m,V.j (i64.wrap ((↑n:Int)+(1:Int)))],[])))) (some (Ex.exit
 0,[],[]))):_):=by kernel_rfl
theorem Js {l:List (List UInt8)} {x:List UInt8} (hm:l.length<=maxI) : ∀ (k n:Nat),n+k=l.length->
  Runs prog (Ab []) (Ab [(2,DE)]) 0 (body f176 0) DE ([.sl .str l,.s x,.j (↑l.length:Int),.j n],[]) (if Bz x n (l.drop n) = -1 then .exit 0 else .ret) (if Bz x n (l.drop n) = -1 then [] else [.j (Bz x n (l.drop n))],[])
 | 0,n,hn=>by
  have e1:l.drop n=[]:=drop_eq_nil_of_le (by omega)
  have hr:=HM l x l.length n
  rw [Ac (dcF (show ¬(n:Int)<(l.length:Int) by omega))] at hr
  rw [e1]
  exact .stop _ _ _ hr (by simp [Bz])
 | k+1,n,hn=>by
  have h1:n<l.length:=by omega
  have hr:=HM l x l.length n
  rw [Af (dcT (show (n:Int)<(l.length:Int) by omega)),Aa (by simp only [anE,dcE]; omega)] at hr
  simp only [ntN,gtE h1,Am,Ap (n:=n) (by omega)] at hr
  rw [drop_eq_getElem_cons h1]
  unfold Bz
  by_cases he:x=l[n]
  ·rw [Af (by simpa using he)] at hr
   rw [if_pos he,if_neg (by omega),if_neg (by omega)]
   exact .stop _ _ _ hr (by simp)
  ·rw [Ac (by simpa using he)] at hr
   rw [if_neg he]
   exact .step _ _ _ _ hr (Js hm k (n+1) (by omega))
theorem UO:Ar prog (Ab []) (Ab [(2,DE)]) 0 (f176.body.getD .skip):=by
 refine An (a:=body f176 0) (by kernel_rfl) fun d e d' h=>?_
 unfold DE at h
 dsimp only at h
 split at h
 ·rename_i l x m n
  obtain ⟨hc,hx⟩:=Ad h
  clear h
  obtain ⟨h0,h1,h2,h3⟩:=of_decide_eq_true hc
  obtain ⟨n,rfl⟩:=eq_ofNat_of_zero_le h0
  subst h1
  rw [ntN] at h2 hx
  have:=Js (x:=x) h3 _ n (add_sub_of_le h2)
  rcases DI hx with ⟨h4,h⟩ | ⟨h4,h⟩
  ·have h4:=of_decide_eq_true h4
   rw [if_pos h4,if_pos h4] at this; cases h; exact this
  ·have h4:=of_decide_eq_false h4
   rw [if_neg h4,if_neg h4] at this; cases h; exact this
 ·cases h
theorem Su (l:List (List UInt8)) (x:List UInt8) (hm:l.length<=maxI):Ax prog (Ab []) (Ab [(2,DE)]) f176 [.sl .str l,.s x] []=some (.j (Bz x 0 l),[]):=by
 have e:Ax prog (Ab []) (Ab [(2,DE)]) f176 [.sl .str l,.s x] [] =
  ((ifT (decide ((0:Int)<=(0:Int)/\(↑l.length:Int)=(↑l.length:Int)/\0<=l.length/\l.length<=maxI)) (ifB (decide (Bz x 0 (drop (0 :
 Nat) l)=(-1:Int))) (some (V.j (-1),[])) (some (V.j (Bz x 0 (drop 0 l)),[])))):_):=by kernel_rfl
 rw [e]
 clear e
 rw [Aa (dcT ⟨by omega,rfl,Nat.zero_le _,hm⟩)]
 simp only [drop_zero]
 by_cases h:Bz x 0 l = -1
 ·rw [Af (dcT h),h]
 ·rw [Ac (dcF h)]
theorem Acz:Ag prog 176 (Ent.rd1 JW).F:=by
 refine Ae KnowsL.nil.knows (Λ:=(Ab [(2,DE)])) func176 (c:=f176.body.getD .skip) (by kernel_rfl) fun vs bs r h hv hb=>?_
 unfold Ent.F JW at h
 dsimp only at h
 split at h
 ·rename_i l x
  exact ⟨UO,(Su l x (hv (.sl .str l) (by simp)).1).trans (by cases h; rfl)⟩
 ·cases h
theorem Q1 (l:List (List UInt8)) (x:List UInt8):Ax prog (Ab [(176,.rd1 JW)]) (Ab []) f143 [.sl .str l,.s x] []=some (.b (decide (x∈l)),[]):=by
 have e:Ax prog (Ab [(176,.rd1 JW)]) (Ab []) f143 [.sl .str l,.s x] [] =
  ((some (V.b (decide (Bz x 0 l>=(0:Int))),[])):_):=by kernel_rfl
 rw [e]
 rcases Jw x l 0 with ⟨h1,h2⟩ | ⟨h1,h2⟩
 ·rw [dcF h2,dcF (by omega)]
 ·rw [dcT h2,dcT (by omega)]
theorem ZU:Ag prog 143 (Ent.rd1 Ib).F:=by
 refine Ae (kc func176 Acz KnowsL.nil).knows (Λ:=Ab []) func143 (c:=f143.body.getD .skip) (by kernel_rfl) fun vs bs r h hv hb=>?_
 unfold Ent.F Ib at h
 dsimp only at h
 split at h
 ·rename_i l x
  exact ⟨Ak _,(Q1 l x).trans h⟩
 ·cases h
def EP:Gm
 | [.s s],[]=>.need (decide (s.length<=4000000000)) (.br (lvB (cut 47 s)) (.leaf (.ref 0 0 (cut 47 s).length,[some (.row false none .str (cut 47 s))])) (.leaf (.ref 0 0 0,[some (.row false (some true) .str [])])))
 | _,_=>.no
def Nj:Gm
 | [.s s],[]=>.need (decide (s.length<=4000000000)) (.leaf (.b (tpB (cut 47 s)),[]))
 | _,_=>.no
def Nm:Gm
 | [.s s],[]=>.need (decide (s.length<=4000000000)) (.leaf (.b (lvB (cut 47 s)),[]))
 | _,_=>.no
theorem NA (c:UInt8) : ∀ (s:List UInt8),∀ z∈cut c s,z.length<=s.length
 | [],z,h=>by simp [cut] at h; simp [h]
 | b::l,z,h=>by
  have ih:=NA c l
  rw [cut] at h
  split at h
  ·rcases mem_cons.1 h with rfl | h
   ·simp
   ·have:=ih z h; simp; omega
  ·split at h
   ·cases h
   ·rename_i x t hh
    rw [hh] at ih
    rcases mem_cons.1 h with rfl | h
    ·have:=ih x (by simp); simp; omega
    ·have:=ih z (by simp [h]); simp; omega
theorem E6 {s:List UInt8} (hc:s.length<=4000000000):(∀ z∈cut 47 s,z.length<=4000000000)/\0<(cut 47 s).length/\(cut 47 s).length<=4000000001:=by
 have h1:=OG 47 s
 have h2:=List.count_le_length (a:=47) (l:=s)
 exact ⟨fun z hz=>Nat.le_trans (NA 47 s z hz) hc,by omega,by omega⟩
theorem RR (s:List UInt8) (hc:s.length<=4000000000):Ax prog (Ab [(140,.rd1 NS),(130,.rd1 HQ),(143,.rd1 Ib)]) (Ab []) f96 [.s s] []=(.br (lvB (cut 47 s)) (.leaf (.ref 0 0 (cut 47 s).length,[some (.row false none .str (cut 47 s))])) (.leaf (.ref 0 0 0,[some (.row false (some true) .str [])])):Br (V×List (Option Blk))).run:=by
 have e:Ax prog (Ab [(140,.rd1 NS),(130,.rd1 HQ),(143,.rd1 Ib)]) (Ab []) f96 [.s s] []=((ifT (decide (s.length<=4000000000)) (ifB (decide ((↑(cut (47:UInt8) s).length:Int)>(6:Int))) (some (V.ref 0 0 0,[some (Blk.row false (some true) Cd.str
 (Aj Cd.str.den))])) (ifT (decide (∀ (z:Cd.str.den),z∈take (cut (47:UInt8) s).length (drop 0 (cut (47:UInt8) s))->List.length z<=(4000000000
 : Nat))) (ifB ((take (cut (47:UInt8) s).length (drop 0 (cut (47:UInt8) s))).any fun z=>!Dy z) (some (V.ref 0 0 0,[some (Blk.row false (some
 true) Cd.str (Aj Cd.str.den))])) (ifT (decide ((0:Int)<=i64.wrap ((↑(cut (47:UInt8) s).length:Int)-(1:Int)))&&decide (i64.wrap ((↑(cut (47
 : UInt8) s).length:Int)-(1:Int))<=(↑((cut (47:UInt8) s).length-0):Int))) (ifB (decide ([(35:UInt8)]∈take ((i64.wrap ((↑(cut (47 :
 UInt8) s).length:Int)-(1:Int))).toNat-0) (drop 0 (cut (47:UInt8) s)))) (some (V.ref 0 0 0,[some (Blk.row false (some true) Cd.str (Aj
 Cd.str.den))])) (some (V.ref 0 0 (cut (47:UInt8) s).length,[some (Blk.row false none Cd.str (cut (47:UInt8) s))])))))))):_):=by kernel_rfl
 rw [e]
 clear e
 obtain ⟨hz,hpos,hle⟩:=E6 hc
 rw [Aa (dcT hc)]
 simp only [drop_zero,take_length,sub_zero,AQ]
 generalize cut 47 s=l at *
 have w:i64.wrap ((l.length:Int)-1)=((l.length-1:Nat):Int):=by rw [Aw (by omega) (by omega)]; omega
 have hzz:decide (∀ z:Cd.str.den,z∈l->List.length z<=4000000000)=true:=dcT hz
 simp only [w,hzz,Cn,ntN]
 rw [Aa (by simp only [anE,dcE]; omega)]
 unfold lvB
 by_cases q1:l.length<=6
 ·rw [Ac (dcF (by omega)),dcT q1]
  cases (l.any fun z=>!Dy z)<;>cases decide ([35]∈l.take (l.length-1))<;>rfl
 ·rw [Af (dcT (by omega)),dcF q1]
  rfl
theorem RS:Ag prog 96 (Ent.rd1 EP).F:=by
 refine Ae (kc func140 Abi (kc func130 Zm (kc func143 ZU KnowsL.nil))).knows (Λ:=Ab []) func96 (c:=f96.body.getD .skip) (by kernel_rfl) fun vs bs r hq hv hb=>?_
 unfold Ent.F EP at hq
 dsimp only at hq
 split at hq
 ·rename_i s
  obtain ⟨hc,hq⟩:=Ad hq
  exact ⟨Ak _,(RR s (of_decide_eq_true hc)).trans hq⟩
 ·cases hq
theorem UM (s:List UInt8) (hc:s.length<=4000000000):Ax prog (Ab [(96,.rd1 EP)]) (Ab []) f93 [.s s] []=(.leaf (.b (lvB (cut 47 s)),[]):Br (V×List (Option Blk))).run:=by
 have e:Ax prog (Ab [(96,.rd1 EP)]) (Ab []) f93 [.s s] []=((ifT (decide (s.length<=4000000000)) (ifB (lvB (cut (47:UInt8) s)) (ifB (decide (0<(cut (47:UInt8) s).length)) (some (V.b true,[])) (some (V.ub,
 []))) (some (V.b false,[])))):_):=by kernel_rfl
 rw [e]
 clear e
 obtain ⟨hz,hpos,hle⟩:=E6 hc
 rw [Aa (dcT hc),dcT hpos,Be]
 cases lvB (cut 47 s)<;>rfl
theorem Aes:Ag prog 93 (Ent.rd1 Nm).F:=by
 refine Ae (kc func96 RS KnowsL.nil).knows (Λ:=Ab []) func93 (c:=f93.body.getD .skip) (by kernel_rfl) fun vs bs r hq hv hb=>?_
 unfold Ent.F Nm at hq
 dsimp only at hq
 split at hq
 ·rename_i s
  obtain ⟨hc,hq⟩:=Ad hq
  exact ⟨Ak _,(UM s (of_decide_eq_true hc)).trans hq⟩
 ·cases hq
theorem UL (s:List UInt8) (hc:s.length<=4000000000):Ax prog (Ab [(96,.rd1 EP),(130,.rd1 HP)]) (Ab []) f86 [.s s] []=(.leaf (.b (tpB (cut 47 s)),[]):Br (V×List (Option Blk))).run:=by
 have e:Ax prog (Ab [(96,.rd1 EP),(130,.rd1 HP)]) (Ab []) f86 [.s s] []=((ifT (decide (s.length<=4000000000)) (ifB (lvB (cut (47:UInt8) s)) (ifB (decide (0<(cut (47:UInt8) s).length)) (ifT (decide (∀ (z:Cd.str.den),z∈
 take (cut (47:UInt8) s).length (drop 0 (cut (47:UInt8) s))->List.length z<=4000000000)) (some (V.b !(take (cut (47:UInt8) s).length
 (drop 0 (cut (47:UInt8) s))).any fun z=>!lev z,[]))) none) (some (V.b false,[])))):_):=by kernel_rfl
 rw [e]
 clear e
 obtain ⟨hz,hpos,hle⟩:=E6 hc
 rw [Aa (dcT hc),dcT hpos,Be]
 simp only [drop_zero,take_length]
 rw [Aa (dcT hz)]
 unfold tpB
 cases lvB (cut 47 s)<;>rfl
theorem Aeq:Ag prog 86 (Ent.rd1 Nj).F:=by
 refine Ae (kc func96 RS (kc func130 Y2 KnowsL.nil)).knows (Λ:=Ab []) func86 (c:=f86.body.getD .skip) (by kernel_rfl) fun vs bs r hq hv hb=>?_
 unfold Ent.F Nj at hq
 dsimp only at hq
 split at hq
 ·rename_i s
  obtain ⟨hc,hq⟩:=Ad hq
  exact ⟨Ak _,(UL s (of_decide_eq_true hc)).trans hq⟩
 ·cases hq
end Go.Proofs.YtcjnmdcagfgjoaaGreatDoor.Den
