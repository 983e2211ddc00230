/- What functions of the program do, by the machine: Dc6 Dc7 Dc8 Val15 Val16 Val17 Val18 Sub1 Sub2 Fil1 Fil2 Spl Spl2 Top1 Top2 Top3 Top4 Top4b IdxStr Top5. -/
import Derived.Test.YtdocpdfkeohkiaaGreatDoorDB
import Derived.KernelRfl
import Derived.Test.YtdocpdfkeohkiaaGreatDoorRows
import Derived.Shelf.Strings.Split
namespace Go.Proofs.YtdocpdfkeohkiaaGreatDoor.Den
open IntKind (i64)
open Go.Proofs.Tryz
open List (all_eq_true any_cons append_nil drop drop_eq_getElem_cons drop_eq_nil_of_le drop_zero getElem?_map getElem_mem length_append length_cons length_map length_singleton mem_cons replicate take take_length)
open Int (eq_ofNat_of_zero_le toNat)
open Nat (add_sub_of_le sub_zero zero_add)
open Option (map_eq_some_iff map_some)
open Bool (or_eq_true)
open Go.Proofs
set_option maxRecDepth 100000

theorem X1 {z:Rose Lab} (h:At z=true) (h5:z.lab.1=5):z.kids.Pairwise KR:=by
 obtain ⟨hp,_⟩:=CM h
 unfold Cm at hp
 rw [if_neg (by omega),if_neg (by omega),if_neg (by omega)] at hp
 split at hp
 ·cases hp
 ·exact ((PE _).1 hp).imp fun h=>h.1
theorem Uv {ns:List Int} (h : ∀ i,i<ns.length->CS ns i=true):ns.Pairwise (· < ·):=by
 induction ns with
 | nil=>exact .nil
 | cons x ns ih=>
  have ih:=ih fun i hi=>by
   have:=h (i+1) (by simp; omega)
   unfold CS at this ⊢
   cases i with
   | zero=>rfl
   | succ i=>simpa using this
  refine List.pairwise_cons.2 ⟨fun y hy=>?_,ih⟩
  cases ns with
  | nil=>cases hy
  | cons w ns=>
   have h1:=h 1 (by simp)
   unfold CS at h1
   have h1:x<w:=by simpa using h1
   rcases mem_cons.1 hy with rfl | hy
   ·exact h1
   ·have:=(List.pairwise_cons.1 ih).1 y hy
    omega
theorem YP {l:List WFd} (h:Pt (Ed l)=true):l.Pairwise Aar:=by
 have h2:=Uv (ns:=Ed l) fun i hi=>all_eq_true.1 h i (List.mem_range.2 hi)
 unfold Ed at h2
 have h3:l.Pairwise (fun a b=>a.1<b.1):=List.pairwise_map.1 h2
 exact h3
def Wz (no:Int) (v:Rose AW):Rose AW:=.node (v.lab.1,v.lab.2.1,no,v.lab.2.2.2.1,()) v.kids
theorem LO (z:Rose Lab) (s:List UInt8) (no:Int):AU z s no=(AU z s 0).map (Wz no):=by
 by_cases h2:z.lab.1=2
 ·rw [E7 h2,E7 h2]; split<;>rfl
 ·by_cases h4:z.lab.1=4
  ·rw [E9 h4,E9 h4]; cases Ho z.kids s<;>rfl
  ·rw [FZ h2 h4,FZ h2 h4]
   cases GX s with
   | none=>rfl
   | some fs=>dsimp only; cases Bm z.kids fs<;>rfl
theorem Q4 {z:Rose Lab} (hr:At z=true) (h5:z.lab.1=5) (s:List UInt8) (no:Int):AU z s no=(match GX s with
   | some fs=>(match Bu z.kids fs with | some vs=>if Ci vs z.kids=true then some (.node (0,[],no,true,()) vs) else none | none=>none)
   | none=>none):=by
 rw [FZ (by omega) (by omega)]
 cases hf:GX s with
 | none=>rfl
 | some fs=>
  have hp:=YP (Ob hf).2.1
  dsimp only
  rw [Yp _ z.kids fs (Nat.le_refl _) (X1 hr h5) hp]
  cases Bu z.kids fs with
  | none=>rfl
  | some vs=>dsimp only; split<;>rfl
theorem YT {z:Rose Lab} (hr:At z=true) (h5:z.lab.1=5) {s:List UInt8} {v:Rose AW} (h:AU z s 0=some v):CA z s=v:=by
 rw [Q4 hr h5] at h
 unfold CA
 cases hf:GX s with
 | none=>rw [hf] at h; cases h
 | some fs=>
  rw [hf] at h
  dsimp only at h ⊢
  cases hd:Bu z.kids fs with
  | none=>rw [hd] at h; cases h
  | some vs=>
   rw [hd] at h
   dsimp only at h ⊢
   split at h
   ·exact Option.some.inj h
   ·cases h
theorem KB {z:Rose Lab} (hr:At z=true) (hf:fkB z=false):z.lab.1=2\/z.lab.1=4\/z.lab.1=5:=by
 obtain ⟨h1,_⟩:=CM hr
 unfold fkB at hf
 simp only [Bool.or_eq_false_iff,beq_eq_false_iff_ne] at hf
 unfold Cm at h1
 by_cases a2:z.lab.1=2
 ·exact .inl a2
 ·by_cases a4:z.lab.1=4
  ·exact .inr (.inl a4)
  ·by_cases a5:z.lab.1=5
   ·exact .inr (.inr a5)
   ·rw [if_neg (by omega),if_neg hf.2,if_neg a4,if_pos (.inl a5)] at h1; cases h1
theorem Oh {z:Rose Lab} (hr:At z=true) (hf:fkB z=false) {s:List UInt8} {v:Rose AW} (h:AU z s 0=some v):B3 z s=v:=by
 unfold B3
 rcases KB hr hf with q | q | q
 ·rw [if_pos q]
  rw [E7 q] at h
  split at h
  ·exact Option.some.inj h
  ·cases h
 ·rw [if_neg (by omega),if_neg (by omega)]
  rw [E9 q] at h
  obtain ⟨vs,h1,rfl⟩:=map_eq_some_iff.1 h
  rw [h1]
 ·rw [if_neg (by omega),if_pos q]
  exact YT hr q h
theorem Ll {z:Rose Lab} (hf:fkB z=true) {n:Int} (hn:Dy n=true) (no:Int):A9 z n no=if DX n z=true then some (.node (n,[],no,false,()) []) else none:=by
 unfold A9 DX
 unfold fkB at hf
 simp only [or_eq_true,beq_iff_eq] at hf
 rcases hf with h | h
 ·rw [if_pos ⟨hn,.inl h⟩,h]; rfl
 ·rw [h]
  by_cases q:0<=n/\n<=z.lab.2.2.2.2.1
  ·rw [if_pos ⟨hn,.inr q⟩,if_pos (by simp [q])]
  ·rw [if_neg (fun hh=>hh.2.elim (fun e=>by omega) q),if_neg (by simp [q])]
theorem Lm {z:Rose Lab} (hf:fkB z=false) (n:Int):DX n z=true:=by
 unfold DX
 unfold fkB at hf
 simp only [Bool.or_eq_false_iff,beq_eq_false_iff_ne] at hf
 rw [bne_iff_ne.2 hf.2]; rfl
theorem L7 {f:WFd} (h:AX f=true) (h0:f.2.1=0):Dy f.2.2.1=true:=by
 unfold AX at h
 rw [anE] at h
 have h:=h.2
 rw [if_pos h0,anE] at h
 exact h.1
theorem Uw {l:List WFd} {i:Nat} (h:l.length<=i):Ez l i=true:=by
 unfold Ez; rw [drop_eq_nil_of_le (by simpa using h)]; rfl
theorem K7 {l:List WFd} {i:Nat} (h:i<l.length):Ez l i=(CS (Ed l) i&&Ez l (i+1)):=by
 unfold Ez
 rw [drop_eq_getElem_cons (by simpa using h),List.all_cons,List.getElem_range]
theorem Gf {n:Int} : ∀ {l:List (Rose Lab)},B8 n l=true->byR n l∈l/\(byR n l).lab.2.2.1=n
 | [],h=>by cases h
 | z::l,h=>by
  rw [byR]
  by_cases q:z.lab.2.2.1=n
  ·rw [if_pos q]; exact ⟨by simp,q⟩
  ·rw [if_neg q]
   have h2:B8 n l=true:=by
    unfold B8 at h ⊢
    rw [any_cons,beq_eq_false_iff_ne.2 q,Bool.false_or] at h
    exact h
   have:=Gf h2
   exact ⟨List.mem_cons_of_mem _ this.1,this.2⟩
abbrev QQ (n:Nat):FuncId->Option Ent:=Ab [(167,.rd1 WN),(159,.rd1 byG),(168,.rd1 NY),(169,.rd1 (ptN n)),(170,.rd1 ES),(171,.rd1 KY)]
theorem Ti (n:Nat) (y0:Int) (y1:List UInt8) (y2:Int) (y3:Bool) (y4:Int) (ys:List (Rose Lab)) (hks:B9 5 ys=true) (hcn:A1 ys<=n) (hc6:A1 ys<=1000000) (fs:List WFd) (hfs:fs.length<=40) (hfb:(fs.all fun x=>AX x)=true) (hmx:mxD fs<=400) : ∀ (j i:Nat) (vs:List (Rose AW)),i+j=fs.length->vs.length<=i->∀ ex d,(Br.br (Ez fs i&&(Bu ys (fs.drop i)).isSome) (.leaf (.exit 0,([.ptr 0 0,.ptr 1 0,.ptr 2 0],[some (.box [.j y0,.s y1,.j y2,.b y3,.j y4,.sl (.rose LCd) ys]),some (.box [.j 0,.s [],.j 0,.b false,.ref 3 0 0]),some (.box [.j 0,.s [],.j 0,.b true,.ref 4 0 (vs++(Bu ys (fs.drop i)).getD []).length]),some (.row false none (.rose VCd) []),some (.row false none (.rose VCd) (vs++(Bu ys (fs.drop i)).getD []))]))) (.leaf (.ret,([.ptr 0 0,.b false],[some (.box [.j 0,.s [],.j 0,.b false,.ref 1 0 0]),some (.row false none (.rose VCd) [])]))):Br (Ex×Dt)).run=some (ex,d)->Runs prog (QQ n) (Ab [(6,rsE n)]) 0 (body f133 0) (rsE n) ([.ptr 0 0,.ptr 1 0,.ref 2 0 fs.length,.ptr 3 0,.ref 2 0 fs.length,.j (fs.length:Int),.j (i:Int)],[some (.box [.j y0,.s y1,.j y2,.b y3,.j y4,.sl (.rose LCd) ys]),some (.box [.j 0,.s [],.j 0,.b false,.ref 4 0 0]),some (.row false none FCd fs),some (.box [.j 0,.s [],.j 0,.b true,.ref 5 0 vs.length]),some (.row false none (.rose VCd) []),some (.row false none (.rose VCd) vs)]) ex d
 | 0,i,vs,hi,hv,ex,d,h=>by
  have hr:=Ps n y0 y1 y2 y3 y4 ys fs.length fs.length vs.length fs.length i fs vs
  try dsimp only [shr] at hr
  rw [Ac (dcF (by omega))] at hr
  rw [Uw (by omega),drop_eq_nil_of_le (by omega),Bu] at h
  rw [IQ (by rfl),show (some ([]:List (Rose AW))).getD []=[] from rfl,append_nil] at h
  have h8:=Ao h
  obtain ⟨rfl,rfl⟩:=Prod.mk.inj h8
  exact .stop _ _ _ hr (by simp)
 | j+1,i,vs,hi,hv,ex,d,h=>by
  have hl:i<fs.length:=by omega
  have hM:maxI=9223372036854775807:=rfl
  have hr:=Ps n y0 y1 y2 y3 y4 ys fs.length fs.length vs.length fs.length i fs vs
  try dsimp only [shr] at hr
  have W1:i64.wrap ((i:Int)+1)=((i+1:Nat):Int):=by rw [Aw (by omega) (by omega)]; omega
  have hlen:=C6 ys
  have eln : ∀ x:Option (Ex×Dt),ifT (decide ((vs.length+1)*64<=140737488355328)&&decide (vs.length+1<=maxI)) x=x:=fun x=>Aa (by simp only [anE,dcE]; omega)
  have hd:=drop_eq_getElem_cons hl
  have hm:=getElem_mem hl
  have hfbz:=all_eq_true.1 hfb _ hm
  have hmz:=KX hm
  rw [Ag (dcT (by omega)),Aa (by simp only [anE,dcE]; omega),ntN,zero_add,gtE hl,Am] at hr
  simp only [W1,Aa (dcT (show ys.length<=maxI by omega)),BV,AN,drop_zero,take_length] at hr
  have bad : ∀ {w},Av prog (QQ n) (Ab [(6,rsE n)]) 0 (body f133 0) (rsE n) ([.ptr 0 0,.ptr 1 0,.ref 2 0 fs.length,.ptr 3 0,.ref 2 0 fs.length,.j (fs.length:Int),.j (i:Int)],[some (.box [.j y0,.s y1,.j y2,.b y3,.j y4,.sl (.rose LCd) ys]),some (.box [.j 0,.s [],.j 0,.b false,.ref 4 0 0]),some (.row false none FCd fs),some (.box [.j 0,.s [],.j 0,.b true,.ref 5 0 vs.length]),some (.row false none (.rose VCd) []),some (.row false none (.rose VCd) vs)])=w->w=some ((.ret:Ex),(([.ptr 0 0,.b false]:List V),[some (.box [.j 0,.s [],.j 0,.b false,.ref 1 0 0]),some (.row false none (.rose VCd) [])]))->(Ez fs i&&(Bu ys (fs.drop i)).isSome)=false->Runs prog (QQ n) (Ab [(6,rsE n)]) 0 (body f133 0) (rsE n) ([.ptr 0 0,.ptr 1 0,.ref 2 0 fs.length,.ptr 3 0,.ref 2 0 fs.length,.j (fs.length:Int),.j (i:Int)],[some (.box [.j y0,.s y1,.j y2,.b y3,.j y4,.sl (.rose LCd) ys]),some (.box [.j 0,.s [],.j 0,.b false,.ref 4 0 0]),some (.row false none FCd fs),some (.box [.j 0,.s [],.j 0,.b true,.ref 5 0 vs.length]),some (.row false none (.rose VCd) []),some (.row false none (.rose VCd) vs)]) ex d:=fun e1 e2 e3=>by
   rw [JH e3] at h
   have h8:=Ao h
   obtain ⟨rfl,rfl⟩:=Prod.mk.inj h8
   exact .stop _ _ _ (e1.trans e2) (by simp)
  have good : ∀ {w} (v:List (Rose AW)),v.length<=1->Av prog (QQ n) (Ab [(6,rsE n)]) 0 (body f133 0) (rsE n) ([.ptr 0 0,.ptr 1 0,.ref 2 0 fs.length,.ptr 3 0,.ref 2 0 fs.length,.j (fs.length:Int),.j (i:Int)],[some (.box [.j y0,.s y1,.j y2,.b y3,.j y4,.sl (.rose LCd) ys]),some (.box [.j 0,.s [],.j 0,.b false,.ref 4 0 0]),some (.row false none FCd fs),some (.box [.j 0,.s [],.j 0,.b true,.ref 5 0 vs.length]),some (.row false none (.rose VCd) []),some (.row false none (.rose VCd) vs)])=w->w=some ((.normal:Ex),(([.ptr 0 0,.ptr 1 0,.ref 2 0 fs.length,.ptr 3 0,.ref 2 0 fs.length,.j (fs.length:Int),.j ((i+1:Nat):Int)],[some (.box [.j y0,.s y1,.j y2,.b y3,.j y4,.sl (.rose LCd) ys]),some (.box [.j 0,.s [],.j 0,.b false,.ref 4 0 0]),some (.row false none FCd fs),some (.box [.j 0,.s [],.j 0,.b true,.ref 5 0 (vs++v).length]),some (.row false none (.rose VCd) []),some (.row false none (.rose VCd) (vs++v))]):Dt))->CS (Ed fs) i=true->(Bu ys (fs.drop i))=(Bu ys (fs.drop (i+1))).map (v++·)->Runs prog (QQ n) (Ab [(6,rsE n)]) 0 (body f133 0) (rsE n) ([.ptr 0 0,.ptr 1 0,.ref 2 0 fs.length,.ptr 3 0,.ref 2 0 fs.length,.j (fs.length:Int),.j (i:Int)],[some (.box [.j y0,.s y1,.j y2,.b y3,.j y4,.sl (.rose LCd) ys]),some (.box [.j 0,.s [],.j 0,.b false,.ref 4 0 0]),some (.row false none FCd fs),some (.box [.j 0,.s [],.j 0,.b true,.ref 5 0 vs.length]),some (.row false none (.rose VCd) []),some (.row false none (.rose VCd) vs)]) ex d:=fun v hv1 e1 e2 e3 e4=>by
   refine .step _ _ _ _ (e1.trans e2) (Ti n y0 y1 y2 y3 y4 ys hks hcn hc6 fs hfs hfb hmx j (i+1) (vs++v) (by omega) (by rw [length_append]; omega) ex d ?_)
   rw [K7 hl,e3,Bool.true_and,e4] at h
   refine Eq.trans ?_ h
   cases (Bu ys (fs.drop (i+1))) with
   | none=>cases Ez fs (i+1)<;>rfl
   | some us=>
    cases Ez fs (i+1) with
    | false=>rfl
    | true=>
     show some _=some _
     rw [show (Option.map (v++·) (some us)).getD []=v++us from rfl,show (some us).getD []=us from rfl,List.append_assoc]
  have hnos:(Ed fs)[i]? = some fs[i].1:=by unfold Ed; rw [getElem?_map,gtE hl]; rfl
  have tail:CS (Ed fs) i=true->(∃ w,Av prog (QQ n) (Ab [(6,rsE n)]) 0 (body f133 0) (rsE n) ([.ptr 0 0,.ptr 1 0,.ref 2 0 fs.length,.ptr 3 0,.ref 2 0 fs.length,.j (fs.length:Int),.j (i:Int)],[some (.box [.j y0,.s y1,.j y2,.b y3,.j y4,.sl (.rose LCd) ys]),some (.box [.j 0,.s [],.j 0,.b false,.ref 4 0 0]),some (.row false none FCd fs),some (.box [.j 0,.s [],.j 0,.b true,.ref 5 0 vs.length]),some (.row false none (.rose VCd) []),some (.row false none (.rose VCd) vs)])=w):=fun _=>⟨_,rfl⟩
  by_cases hrise:CS (Ed fs) i=true
  ·have hst:(Bu ys (fs.drop i))=(if B8 fs[i].1 ys=true then (match LP (byR fs[i].1 ys) fs[i] with
    | some v=>(Bu ys (fs.drop (i+1))).map (v::·)
    | none=>none) else (Bu ys (fs.drop (i+1)))):=by rw [hd,Bu]; all_goals rfl
   clear tail
   have hi0:i=0\/(0<i/\∃ h1:i-1<fs.length,fs[i-1].1<fs[i].1):=by
    rcases Nat.eq_zero_or_pos i with e | e
    ·exact .inl e
    ·refine .inr ⟨e,by omega,?_⟩
     unfold CS at hrise
     have h1:(Ed fs)[i-1]? = some (fs[i-1]'(by omega)).1:=by unfold Ed; rw [getElem?_map,gtE (by omega)]; rfl
     have e0:(i==0)=false:=beq_eq_false_iff_ne.2 (by omega)
     rw [e0,Bool.false_or,List.getD_eq_getElem?_getD,List.getD_eq_getElem?_getD,h1,hnos] at hrise
     exact of_decide_eq_true hrise
   have hr2:=hr
   clear hr
   rcases hi0 with h0 | ⟨h0,h1,h2⟩
   rotate_left
   ·have W2:i64.wrap ((i:Int)-1)=((i-1:Nat):Int):=by rw [Aw (by omega) (by omega)]; omega
    rw [Ag (dcT (by omega)),W2,Aa (by simp only [anE,dcE]; omega),ntN,zero_add,gtE h1,Am,Ac (dcF (by omega))] at hr2
    generalize fs[i]=f at hr2 hst hfbz hmz hnos
    cases hn:B8 f.1 ys with
    | false=>
     rw [hn] at hr2 hst
     refine good [] (by simp) hr2 ?_ hrise (hst.trans ?_)
     ·rw [append_nil]; rfl
     ·rw [if_neg (by simp)]
      cases (Bu ys (fs.drop (i+1)))<;>rfl
    | true=>
     rw [hn] at hr2 hst
     rw [if_pos rfl] at hst
     obtain ⟨bm,bn⟩:=Gf hn
     obtain ⟨hp,hrz⟩:=BM hks _ bm
     have hcz:=Cb bm
     generalize byR f.1 ys=p at hr2 hst bm bn hp hrz hcz
     unfold LP at hst
     rw [Be] at hr2
     by_cases hk0:f.2.1=0
     ·have hb0:(f.2.1==0)=true:=by rw [hk0]; rfl
      have hb2:(f.2.1==2)=false:=by rw [hk0]; rfl
      have hnb:=L7 hfbz hk0
      cases hfk:fkB p with
      | false=>
       rw [hfk] at hr2 hst
       rw [if_neg (by rw [hb0]; simp)] at hst
       rw [hb0] at hr2
       exact bad hr2 rfl (by rw [hst]; simp)
      | true=>
       rw [hfk] at hr2 hst
       rw [if_pos hb0,if_pos hb0,Ll hfk hnb] at hst
       rw [hb0,hb2] at hr2
       cases hlf:DX f.2.2.1 p with
       | false=>
        rw [hlf] at hr2 hst
        rw [if_neg (by simp)] at hst
        exact bad hr2 rfl (by rw [hst]; simp)
       | true=>
        rw [hlf] at hr2 hst
        rw [if_pos rfl] at hst
        dsimp only at hst
        simp only [eln] at hr2
        exact good [.node (f.2.2.1,[],f.1,false,()) []] (by simp) hr2 (by rw [length_append,length_singleton]; rfl) hrise hst
     ·have hk2:f.2.1=2:=by rcases Ej hfbz with e | e; exact absurd e hk0; exact e
      have hb0:(f.2.1==0)=false:=beq_eq_false_iff_ne.2 hk0
      have hb2:(f.2.1==2)=true:=by rw [hk2]; rfl
      cases hfk:fkB p with
      | true=>
       rw [hfk] at hr2 hst
       rw [if_neg (by rw [hb0]; simp)] at hst
       rw [hb0] at hr2
       exact bad hr2 rfl (by rw [hst]; simp)
      | false=>
       rw [hfk] at hr2 hst
       rw [if_pos hb0,if_neg (by rw [hb0]; simp),LO] at hst
       rw [hb0,hb2] at hr2
       rw [show (!false==false)=false from rfl,AS,Be,Aa (dcT ⟨by omega,rfl,hrz,by omega,by omega⟩)] at hr2
       cases hdr:AU p f.2.2.2.1 0 with
       | none=>
        rw [hdr] at hr2 hst
        exact bad hr2 rfl (by rw [hst]; simp)
       | some v=>
        have hpt:=Oh hrz hfk hdr
        rw [hdr] at hr2 hst
        rw [hpt,Lm hfk] at hr2
        dsimp only [map_some] at hst
        simp only [eln] at hr2
        exact good [Wz f.1 v] (by simp) hr2 (by rw [length_append,length_singleton]; rfl) hrise hst
   ·rw [Ac (dcF (by omega))] at hr2
    generalize fs[i]=f at hr2 hst hfbz hmz hnos
    cases hn:B8 f.1 ys with
    | false=>
     rw [hn] at hr2 hst
     refine good [] (by simp) hr2 ?_ hrise (hst.trans ?_)
     ·rw [append_nil]; rfl
     ·rw [if_neg (by simp)]
      cases (Bu ys (fs.drop (i+1)))<;>rfl
    | true=>
     rw [hn] at hr2 hst
     rw [if_pos rfl] at hst
     obtain ⟨bm,bn⟩:=Gf hn
     obtain ⟨hp,hrz⟩:=BM hks _ bm
     have hcz:=Cb bm
     generalize byR f.1 ys=p at hr2 hst bm bn hp hrz hcz
     unfold LP at hst
     rw [Be] at hr2
     by_cases hk0:f.2.1=0
     ·have hb0:(f.2.1==0)=true:=by rw [hk0]; rfl
      have hb2:(f.2.1==2)=false:=by rw [hk0]; rfl
      have hnb:=L7 hfbz hk0
      cases hfk:fkB p with
      | false=>
       rw [hfk] at hr2 hst
       rw [if_neg (by rw [hb0]; simp)] at hst
       rw [hb0] at hr2
       exact bad hr2 rfl (by rw [hst]; simp)
      | true=>
       rw [hfk] at hr2 hst
       rw [if_pos hb0,if_pos hb0,Ll hfk hnb] at hst
       rw [hb0,hb2] at hr2
       cases hlf:DX f.2.2.1 p with
       | false=>
        rw [hlf] at hr2 hst
        rw [if_neg (by simp)] at hst
        exact bad hr2 rfl (by rw [hst]; simp)
       | true=>
        rw [hlf] at hr2 hst
        rw [if_pos rfl] at hst
        dsimp only at hst
        simp only [eln] at hr2
        exact good [.node (f.2.2.1,[],f.1,false,()) []] (by simp) hr2 (by rw [length_append,length_singleton]; rfl) hrise hst
     ·have hk2:f.2.1=2:=by rcases Ej hfbz with e | e; exact absurd e hk0; exact e
      have hb0:(f.2.1==0)=false:=beq_eq_false_iff_ne.2 hk0
      have hb2:(f.2.1==2)=true:=by rw [hk2]; rfl
      cases hfk:fkB p with
      | true=>
       rw [hfk] at hr2 hst
       rw [if_neg (by rw [hb0]; simp)] at hst
       rw [hb0] at hr2
       exact bad hr2 rfl (by rw [hst]; simp)
      | false=>
       rw [hfk] at hr2 hst
       rw [if_pos hb0,if_neg (by rw [hb0]; simp),LO] at hst
       rw [hb0,hb2] at hr2
       rw [show (!false==false)=false from rfl,AS,Be,Aa (dcT ⟨by omega,rfl,hrz,by omega,by omega⟩)] at hr2
       cases hdr:AU p f.2.2.2.1 0 with
       | none=>
        rw [hdr] at hr2 hst
        exact bad hr2 rfl (by rw [hst]; simp)
       | some v=>
        have hpt:=Oh hrz hfk hdr
        rw [hdr] at hr2 hst
        rw [hpt,Lm hfk] at hr2
        dsimp only [map_some] at hst
        simp only [eln] at hr2
        exact good [Wz f.1 v] (by simp) hr2 (by rw [length_append,length_singleton]; rfl) hrise hst
  ·have hrise:CS (Ed fs) i=false:=by simpa using hrise
   have h0:0<i:=by
    rcases Nat.eq_zero_or_pos i with e | e
    ·unfold CS at hrise; rw [e] at hrise; simp at hrise
    ·exact e
   have h1:i-1<fs.length:=by omega
   have h2 : ¬fs[i-1].1<fs[i].1:=by
    unfold CS at hrise
    have h1:(Ed fs)[i-1]? = some (fs[i-1]'(by omega)).1:=by unfold Ed; rw [getElem?_map,gtE (by omega)]; rfl
    have e0:(i==0)=false:=beq_eq_false_iff_ne.2 (by omega)
    rw [e0,Bool.false_or,List.getD_eq_getElem?_getD,List.getD_eq_getElem?_getD,h1,hnos] at hrise
    exact of_decide_eq_false hrise
   have W2:i64.wrap ((i:Int)-1)=((i-1:Nat):Int):=by rw [Aw (by omega) (by omega)]; omega
   rw [Ag (dcT (by omega)),W2,Aa (by simp only [anE,dcE]; omega),ntN,zero_add,gtE h1,Am,Ag (dcT (by omega))] at hr
   exact bad hr rfl (by rw [K7 hl,hrise]; rfl)

theorem Ad2 (n:Nat):Ar prog (QQ n) (Ab [(6,rsE n)]) 0 (f133.body.getD .skip):=by
 refine An (a:=body f133 0) (by kernel_rfl) fun d ex d' h=>?_
 unfold rsE at h
 dsimp only at h
 split at h
 ·rename_i w w2 c i y0 y1 y2 y3 y4 ys fs m vs
  obtain ⟨hc,hx⟩:=Ad h
  obtain ⟨rfl,rfl,rfl,h0,h1,h2,rfl,h3,h4,h5,h6,h7,h8⟩:=of_decide_eq_true hc
  obtain ⟨i,rfl⟩:=eq_ofNat_of_zero_le h0
  simp only [ntN] at h1 hx
  exact Ti n y0 y1 y2 y3 y4 ys h6 h7 h8 fs h2 h4 h5 (fs.length-i) i vs (by omega) (by omega) ex d' hx
 ·cases h
theorem YS {s:List UInt8} (h:s.length<=400):Da s=KG s:=by unfold KG; rw [if_pos h]
theorem YQ (l:List WFd):Ez l 0=Pt (Ed l):=by
 unfold Ez Pt Ed
 rw [drop_zero,length_map]
theorem WM {s:List UInt8} {l:List WFd} (h:KG s=some l):(∀ x∈l,AX x=true/\x.2.2.2.1.length<=s.length)/\l.length<=40:=by
 have e:KG s=(rdP s).map fun l=>l.map (·.1):=by
  unfold KG rdP Da
  split
  ·exact H3 s _ _ []
  ·rfl
 have h2:=h
 rw [e] at h2
 obtain ⟨l',h3,rfl⟩:=map_eq_some_iff.1 h2
 refine ⟨?_,by rw [length_map]; exact (Of h3).1⟩
 unfold KG Da at h
 split at h
 ·exact Og s _ _ [] _ (by simp) h
 ·cases h
theorem ZS {z:Rose Lab} (hr:At z=true) (h5:z.lab.1=5) (s:List UInt8):(AU z s 0).isSome=(match GX s with
   | some fs=>(match Bu z.kids fs with | some vs=>Ci vs z.kids | none=>false)
   | none=>false):=by
 rw [Q4 hr h5]
 cases GX s with
 | none=>rfl
 | some fs=>
  dsimp only
  cases Bu z.kids fs with
  | none=>rfl
  | some vs=>
   dsimp only
   cases Ci vs z.kids<;>rfl
theorem Abo (n:Nat) (s:List UInt8) (y0:Int) (y1:List UInt8) (y2:Int) (y3:Bool) (y4:Int) (ys:List (Rose Lab)) (hc:s.length<=400/\y0=5/\At (.node (y0,y1,y2,y3,y4,()) ys:Rose Lab)=true/\Aq (.node (y0,y1,y2,y3,y4,()) ys:Rose Lab)<=(n+1)/\Aq (.node (y0,y1,y2,y3,y4,()) ys:Rose Lab)<=1000000):Df prog (QQ n) (Ab [(6,rsE n)]) f133 [.s s,.agg [.j y0,.s y1,.j y2,.b y3,.j y4,.sl (.rose LCd) ys]] []=some (.tup [.agg [.j (CA (.node (y0,y1,y2,y3,y4,()) ys:Rose Lab) s).lab.1,.s (CA (.node (y0,y1,y2,y3,y4,()) ys:Rose Lab) s).lab.2.1,.j (CA (.node (y0,y1,y2,y3,y4,()) ys:Rose Lab) s).lab.2.2.1,.b (CA (.node (y0,y1,y2,y3,y4,()) ys:Rose Lab) s).lab.2.2.2.1,.ref 0 0 (CA (.node (y0,y1,y2,y3,y4,()) ys:Rose Lab) s).kids.length],.b (AU (.node (y0,y1,y2,y3,y4,()) ys:Rose Lab) s 0).isSome],[some (.row false none (.rose VCd) (CA (.node (y0,y1,y2,y3,y4,()) ys:Rose Lab) s).kids)]):=by
 obtain ⟨h1,h2,h3,h4,h5⟩:=hc
 rw [YO]
 have hck:Aq (.node (y0,y1,y2,y3,y4,()) ys:Rose Lab)=A1 ys+1:=Cp _
 have hM:maxI=9223372036854775807:=rfl
 have hlen:=C6 ys
 try dsimp only [shr]
 dsimp only [Aj,List.nil_append]
 repeat rw [drop_zero]
 rw [Aa (dcT (by omega)),YS h1,ZS h3 h2]
 unfold CA GX
 cases hq:KG s with
 | none=>rfl
 | some fs=>
  obtain ⟨f1,f2⟩:=WM hq
  have hmx:mxD fs<=400:=Tv fun f hf=>by have:=(f1 f hf).2; omega
  rw [show (some fs).isSome=true from rfl,show (some fs).getD []=fs from rfl]
  rw [Bool.not_true,AS,Aa (dcT ⟨by first | trivial | rfl,by first | trivial | rfl,by first | trivial | rfl,by omega,by omega,f2,by first | trivial | rfl,by omega,all_eq_true.2 fun x hx=>(f1 x hx).1,hmx,Gk h3 (show y0≠4 by omega),by omega,by omega⟩),YQ]
  dsimp only
  cases hr:Pt (Ed fs) with
  | false=>rw [if_neg (show ¬(false=true) by simp)]; rfl
  | true=>
   rw [if_pos (rfl:true=true)]
   dsimp only [Rose.kids]
   have hds : ∀ vs,Bu ys fs=some vs->vs.length<=fs.length:=by
    intro vs
    clear hq f1 f2 hmx hr
    induction fs generalizing vs with
    | nil=>intro h; rw [Bu] at h; cases h; simp
    | cons f fs ih=>
     intro h
     rw [Bu] at h
     split at h
     ·split at h
      ·obtain ⟨us,h8,rfl⟩:=map_eq_some_iff.1 h
       have:=ih us h8
       simp only [length_cons]; omega
      ·cases h
     ·have:=ih vs h
      simp only [length_cons]; omega
   cases hd:Bu ys fs with
   | none=>rfl
   | some vs=>
    have hvl:=hds vs hd
    rw [show (true&&(some vs).isSome)=true from rfl,Be]
    rw [show (some vs).getD []=vs from rfl]
    rw [Aa (dcT ⟨by omega,by rw [drop_zero,take_length]; omega⟩),drop_zero,take_length]
    rfl
theorem WA (n:Nat) (ih:Af prog 169 (Ent.rd1 (ptN n)).F):Af prog 133 (Ent.rd1 (rsN (n+1))).F:=by
 refine A8 (kc func167 rdf (kc func159 Aeh (kc func168 sfk (kc func169 ih (kc func170 T3 (kc func171 Zs KnowsL.nil)))))).knows (Λ:=(Ab [(6,rsE n)])) func133 (c:=f133.body.getD .skip) (by kernel_rfl) fun vs bs r hq hv hb=>?_
 unfold Ent.F rsN at hq
 dsimp only at hq
 split at hq
 ·rename_i s y0 y1 y2 y3 y4 ys
  obtain ⟨hc,hx⟩:=Ad hq
  exact ⟨Ad2 n,(Abo n s y0 y1 y2 y3 y4 ys (of_decide_eq_true hc)).trans hx⟩
 ·cases hq
abbrev VL (k n:Nat):FuncId->Option Ent:=Ab [(133,.rd1 (rsN k)),(201,.rd1 Rc),(202,.rd1 J7),(168,.rd1 NY),(169,.rd1 (ptN n)),(196,.rd1 Fq),(170,.rd1 ES)]
theorem YX (n k:Nat) (s:List UInt8) (y0:Int) (y1:List UInt8) (y2:Int) (y3:Bool) (y4:Int) (y:Rose Lab) (hy:At y=true) (hcn:Aq y<=n) (hc6:Aq y<=1000000) (hs:s.length<=400) : ∀ (j a:Nat) (vs:List (Rose AW)),s.length-a<=j->a<=s.length->vs.length<=a->∀ ex d,(Br.br (BA (fkB y) (fun n=>A9 y n 0) (fun d=>AU y d 0) s (s.length-a) a).isSome (.leaf (.exit 1,([.ptr 0 0,.ptr 1 0],[some (.box [.j 0,.s [],.j 0,.b false,.ref 2 0 0]),some (.box [.j 0,.s [],.j 0,.b true,.ref 3 0 (vs++(BA (fkB y) (fun n=>A9 y n 0) (fun d=>AU y d 0) s (s.length-a) a).getD []).length]),some (.row false none (.rose VCd) []),some (.row false none (.rose VCd) (vs++(BA (fkB y) (fun n=>A9 y n 0) (fun d=>AU y d 0) s (s.length-a) a).getD []))]))) (.leaf (.ret,([.ptr 0 0,.b false],[some (.box [.j 0,.s [],.j 0,.b false,.ref 1 0 0]),some (.row false none (.rose VCd) [])]))):Br (Ex×Dt)).run=some (ex,d)->Runs prog (VL k n) (Ab [(8,ptE n)]) 0 (body f169 0) (ptE n) ([.s s,.ptr 0 0,.ptr 1 0,.ptr 2 0,.j (a:Int)],[some (.box [.j y0,.s y1,.j y2,.b y3,.j y4,.sl (.rose LCd) [y]]),some (.box [.j 0,.s [],.j 0,.b false,.ref 3 0 0]),some (.box [.j 0,.s [],.j 0,.b true,.ref 4 0 vs.length]),some (.row false none (.rose VCd) []),some (.row false none (.rose VCd) vs)]) ex d:=by
 intro j
 induction j with
 | zero=>
  intro a vs hj ha hv ex d h
  have hr:=KI n k s y0 y1 y2 y3 y4 [y] vs.length a vs
  try dsimp only [shr] at hr
  rw [Ac (dcF (by omega))] at hr
  rw [Ga (by omega),IQ (by rfl),show (some ([]:List (Rose AW))).getD []=[] from rfl,append_nil] at h
  have h8:=Ao h
  obtain ⟨rfl,rfl⟩:=Prod.mk.inj h8
  exact .stop _ _ _ hr (by simp)
 | succ j ih=>
  intro a vs hj ha hv ex d h
  by_cases hlt:a<s.length
  ·have hr:=KI n k s y0 y1 y2 y3 y4 [y] vs.length a vs
   try dsimp only [shr] at hr
   have hM:maxI=9223372036854775807:=rfl
   have ⟨⟨u1,u2⟩,u3,u4⟩:=Eo s a
   have hst:=IL (num:=fkB y) (N:=fun n=>A9 y n 0) (D:=fun d=>AU y d 0) hlt
   have eln : ∀ x:Option (Ex×Dt),ifT (decide ((vs.length+1)*64<=140737488355328)&&decide (vs.length+1<=maxI)) x=x:=fun x=>Aa (by simp only [anE,dcE]; omega)
   have bad : ∀ {w},Av prog (VL k n) (Ab [(8,ptE n)]) 0 (body f169 0) (ptE n) ([.s s,.ptr 0 0,.ptr 1 0,.ptr 2 0,.j (a:Int)],[some (.box [.j y0,.s y1,.j y2,.b y3,.j y4,.sl (.rose LCd) [y]]),some (.box [.j 0,.s [],.j 0,.b false,.ref 3 0 0]),some (.box [.j 0,.s [],.j 0,.b true,.ref 4 0 vs.length]),some (.row false none (.rose VCd) []),some (.row false none (.rose VCd) vs)])=w->w=some ((.ret:Ex),(([.ptr 0 0,.b false]:List V),[some (.box [.j 0,.s [],.j 0,.b false,.ref 1 0 0]),some (.row false none (.rose VCd) [])]))->(BA (fkB y) (fun n=>A9 y n 0) (fun d=>AU y d 0) s (s.length-a) a)=none->Runs prog (VL k n) (Ab [(8,ptE n)]) 0 (body f169 0) (ptE n) ([.s s,.ptr 0 0,.ptr 1 0,.ptr 2 0,.j (a:Int)],[some (.box [.j y0,.s y1,.j y2,.b y3,.j y4,.sl (.rose LCd) [y]]),some (.box [.j 0,.s [],.j 0,.b false,.ref 3 0 0]),some (.box [.j 0,.s [],.j 0,.b true,.ref 4 0 vs.length]),some (.row false none (.rose VCd) []),some (.row false none (.rose VCd) vs)]) ex d:=fun e1 e2 e3=>by
    rw [e3,JH (by rfl)] at h
    have h8:=Ao h
    obtain ⟨rfl,rfl⟩:=Prod.mk.inj h8
    exact .stop _ _ _ (e1.trans e2) (by simp)
   have good : ∀ {w} (b:Nat) (v:Rose AW),a<b->b<=s.length->Av prog (VL k n) (Ab [(8,ptE n)]) 0 (body f169 0) (ptE n) ([.s s,.ptr 0 0,.ptr 1 0,.ptr 2 0,.j (a:Int)],[some (.box [.j y0,.s y1,.j y2,.b y3,.j y4,.sl (.rose LCd) [y]]),some (.box [.j 0,.s [],.j 0,.b false,.ref 3 0 0]),some (.box [.j 0,.s [],.j 0,.b true,.ref 4 0 vs.length]),some (.row false none (.rose VCd) []),some (.row false none (.rose VCd) vs)])=w->w=some ((.normal:Ex),(([.s s,.ptr 0 0,.ptr 1 0,.ptr 2 0,.j (b:Int)],[some (.box [.j y0,.s y1,.j y2,.b y3,.j y4,.sl (.rose LCd) [y]]),some (.box [.j 0,.s [],.j 0,.b false,.ref 3 0 0]),some (.box [.j 0,.s [],.j 0,.b true,.ref 4 0 (vs++[v]).length]),some (.row false none (.rose VCd) []),some (.row false none (.rose VCd) (vs++[v]))]):Dt))->(BA (fkB y) (fun n=>A9 y n 0) (fun d=>AU y d 0) s (s.length-a) a)=(BA (fkB y) (fun n=>A9 y n 0) (fun d=>AU y d 0) s (s.length-b) b).map (v::·)->Runs prog (VL k n) (Ab [(8,ptE n)]) 0 (body f169 0) (ptE n) ([.s s,.ptr 0 0,.ptr 1 0,.ptr 2 0,.j (a:Int)],[some (.box [.j y0,.s y1,.j y2,.b y3,.j y4,.sl (.rose LCd) [y]]),some (.box [.j 0,.s [],.j 0,.b false,.ref 3 0 0]),some (.box [.j 0,.s [],.j 0,.b true,.ref 4 0 vs.length]),some (.row false none (.rose VCd) []),some (.row false none (.rose VCd) vs)]) ex d:=fun b v k1 k2 e1 e2 e4=>by
    refine .step _ _ _ _ (e1.trans e2) (ih b (vs++[v]) (by omega) k2 (by rw [length_append,length_singleton]; omega) ex d ?_)
    rw [e4] at h
    refine Eq.trans ?_ h
    cases (BA (fkB y) (fun n=>A9 y n 0) (fun d=>AU y d 0) s (s.length-b) b) with
    | none=>rfl
    | some us=>
     show some _=some _
     rw [show (Option.map (v::·) (some us)).getD []=v::us from rfl,show (some us).getD []=us from rfl,List.append_assoc]
     rfl
   rw [Ag (dcT (by omega)),Aa (dcT (by omega)),ntN] at hr
   simp only [AN,drop_zero,take_length,BV] at hr
   cases h3:BI (Ah s a) with
   | false=>
    rw [h3] at hr
    refine bad hr rfl (hst.trans ?_)
    have hb:(Bb s a).2.2=false:=by unfold Bb; dsimp only; rw [if_neg (fun hh=>by rw [h3] at hh; cases hh.1)]
    cases fkB y with
    | true=>
     dsimp only
     cases A9 y (unf (AA (Ah s a))) 0 with
     | none=>rfl
     | some v=>dsimp only; rw [h3,if_neg (by simp)]
    | false=>dsimp only; rw [hb]
   | true=>
    have e:=EC h3
    obtain ⟨s1,s2⟩:=Re (a:=a) h3
    rw [h3,Bool.not_true,AS] at hr
    simp only [s1,s2] at hr
    rw [Aa (dcT (by omega)),Aa (by rfl),show [y][0]? = some y from rfl,Am] at hr
    cases hf:fkB y with
    | true=>
     rw [hf] at hr hst
     dsimp only at hst
     rw [Bool.not_true,AS] at hr
     cases hnb:Dy (unf (AA (Ah s a))) with
     | false=>
      rw [hnb] at hr
      have hn:A9 y (unf (AA (Ah s a))) 0=none:=by unfold A9; rw [if_neg (fun hh=>by rw [hnb] at hh; cases hh.1)]
      rw [hn] at hst
      exact bad hr rfl (by rw [hf]; exact hst)
     | true=>
      rw [hnb] at hr
      rw [Ll hf hnb,h3] at hst
      simp only [Aa (show (decide ((0:Int)<=0)&&decide ((0:Int)<(([y]:List (Rose Lab)).length:Int)))=true from rfl),Am,eln] at hr
      cases hlf:DX (unf (AA (Ah s a))) y with
      | false=>
       rw [hlf] at hr hst
       exact bad hr rfl (by rw [hf]; exact hst)
      | true=>
       rw [hlf] at hr hst
       refine good (A0 a (Ah s a)).toNat (.node (unf (AA (Ah s a)),[],0,false,()) []) (by omega) (by omega) hr ?_ (by rw [hf]; exact hst)
       rw [show (((A0 a (Ah s a)).toNat:Nat):Int)=A0 a (Ah s a) by omega,length_append,length_singleton]
       rfl
    | false=>
     rw [hf] at hr hst
     dsimp only at hst
     have W1:i64.wrap ((s.length:Int)-A0 a (Ah s a))=(s.length:Int)-A0 a (Ah s a):=Aw (by omega) (by omega)
     have W2:i64.wrap (A0 a (Ah s a)+AA (Ah s a))=A0 a (Ah s a)+AA (Ah s a):=Aw (by omega) (by omega)
     simp only [W1,W2] at hr
     rw [Bool.not_false,Be] at hr
     by_cases hn:AA (Ah s a)<=s.length-A0 a (Ah s a)
     ·have hb:Bb s a=((s.drop (A0 a (Ah s a)).toNat).take (AA (Ah s a)).toNat,A0 a (Ah s a)+AA (Ah s a),true):=by unfold Bb; dsimp only; rw [if_pos ⟨h3,hn⟩]
      have hd8:(A0 a (Ah s a)+AA (Ah s a)).toNat-(A0 a (Ah s a)).toNat=(AA (Ah s a)).toNat:=by omega
      have htl:=Wg s a
      rw [hb] at hst htl
      dsimp only at hst htl
      rw [Ac (dcF (by omega)),Aa (by simp only [anE,dcE]; omega),hd8] at hr
      generalize (s.drop (A0 a (Ah s a)).toNat).take (AA (Ah s a)).toNat=dta at hr hst htl
      simp only [Aa (show (decide ((0:Int)<=0)&&decide ((0:Int)<(([y]:List (Rose Lab)).length:Int)))=true from rfl),Am,eln] at hr
      rw [Aa (dcT ⟨by omega,hf,hy,hcn,hc6⟩)] at hr
      cases hdr:AU y dta 0 with
      | none=>
       rw [hdr] at hr hst
       exact bad hr rfl (by rw [hf]; exact hst)
      | some v=>
       have hpt:=Oh hy hf hdr
       rw [hdr] at hr hst
       rw [hpt,Lm hf] at hr
       refine good (A0 a (Ah s a)+AA (Ah s a)).toNat v (by omega) (by omega) hr ?_ (by rw [hf]; exact hst)
       rw [show (((A0 a (Ah s a)+AA (Ah s a)).toNat:Nat):Int)=A0 a (Ah s a)+AA (Ah s a) by omega,length_append,length_singleton]
       simp only [QX]
       rfl
     ·have hb:(Bb s a).2.2=false:=by unfold Bb; dsimp only; rw [if_neg (fun hh=>hn hh.2)]
      rw [hb] at hst
      rw [Ag (dcT (by omega))] at hr
      exact bad hr rfl (by rw [hf]; exact hst)
  ·have hr:=KI n k s y0 y1 y2 y3 y4 [y] vs.length a vs
   try dsimp only [shr] at hr
   rw [Ac (dcF (by omega))] at hr
   rw [Ga (by omega),IQ (by rfl),show (some ([]:List (Rose AW))).getD []=[] from rfl,append_nil] at h
   have h8:=Ao h
   obtain ⟨rfl,rfl⟩:=Prod.mk.inj h8
   exact .stop _ _ _ hr (by simp)
theorem Ad3 (n k:Nat):Ar prog (VL k n) (Ab [(8,ptE n)]) 0 (f169.body.getD .skip):=by
 refine An (a:=body f169 0) (by kernel_rfl) fun d ex d' h=>?_
 unfold ptE at h
 dsimp only at h
 split at h
 ·rename_i s a y0 y1 y2 y3 y4 ys m vs
  obtain ⟨hc,hx⟩:=Ad h
  obtain ⟨h0,h1,h2,rfl,h3,h4,h5,h6,h7⟩:=of_decide_eq_true hc
  obtain ⟨a,rfl⟩:=eq_ofNat_of_zero_le h0
  match ys,h4 with
  | [y],_=>
   have e:A1 [y]=Aq y:=by rw [A1,A1]; rfl
   simp only [ntN] at h1 hx
   exact YX n k s y0 y1 y2 y3 y4 y (by simpa using h5) (by omega) (by omega) h2 _ a vs (Nat.le_refl _) h1 (by omega) ex d' hx
 ·cases h
theorem Abu (n:Nat) (s:List UInt8) (y0:Int) (y1:List UInt8) (y2:Int) (y3:Bool) (y4:Int) (ys:List (Rose Lab)) (hc:s.length<=400/\fkB (.node (y0,y1,y2,y3,y4,()) ys:Rose Lab)=false/\At (.node (y0,y1,y2,y3,y4,()) ys:Rose Lab)=true/\Aq (.node (y0,y1,y2,y3,y4,()) ys:Rose Lab)<=(n+1)/\Aq (.node (y0,y1,y2,y3,y4,()) ys:Rose Lab)<=1000000):Df prog (Ab [(133,.rd1 (rsN (n+1))),(201,.rd1 Rc),(202,.rd1 J7),(168,.rd1 NY),(169,.rd1 (ptN n)),(196,.rd1 Fq),(170,.rd1 ES)]) (Ab [(8,ptE n)]) f169 [.s s,.agg [.j y0,.s y1,.j y2,.b y3,.j y4,.sl (.rose LCd) ys]] []=some (.tup [.agg [.j (B3 (.node (y0,y1,y2,y3,y4,()) ys:Rose Lab) s).lab.1,.s (B3 (.node (y0,y1,y2,y3,y4,()) ys:Rose Lab) s).lab.2.1,.j (B3 (.node (y0,y1,y2,y3,y4,()) ys:Rose Lab) s).lab.2.2.1,.b (B3 (.node (y0,y1,y2,y3,y4,()) ys:Rose Lab) s).lab.2.2.2.1,.ref 0 0 (B3 (.node (y0,y1,y2,y3,y4,()) ys:Rose Lab) s).kids.length],.b (AU (.node (y0,y1,y2,y3,y4,()) ys:Rose Lab) s 0).isSome],[some (.row false none (.rose VCd) (B3 (.node (y0,y1,y2,y3,y4,()) ys:Rose Lab) s).kids)]):=by
 obtain ⟨h1,h2,h3,h4,h5⟩:=hc
 rw [YW]
 have hck:Aq (.node (y0,y1,y2,y3,y4,()) ys:Rose Lab)=A1 ys+1:=Cp _
 try dsimp only [shr]
 simp only [AN,List.nil_append]
 unfold B3
 rcases KB h3 h2 with q | q | q
 ·have q:y0=2:=q
  rw [Ag (beq_iff_eq.2 q),E7 (show ((.node (y0,y1,y2,y3,y4,()) ys:Rose Lab)).lab.1=2 from q),if_pos (show ((.node (y0,y1,y2,y3,y4,()) ys:Rose Lab)).lab.1=2 from q)]
  by_cases q3:s.length<=30
  ·rw [if_pos q3,dcT (by omega)]; rfl
  ·rw [if_neg q3,dcF (by omega)]; rfl
 ·obtain ⟨k1,k2⟩:=Dn h3 q
  have k1:ys.length=1:=k1
  have k2:ys.all At=true:=k2
  have hq:y0=4:=q
  rw [Ac (beq_eq_false_iff_ne.2 (by omega)),Ac (beq_eq_false_iff_ne.2 (by omega)),E9 q,if_neg (show ¬((.node (y0,y1,y2,y3,y4,()) ys:Rose Lab)).lab.1=2 by rw [q]; decide),if_neg (show ¬((.node (y0,y1,y2,y3,y4,()) ys:Rose Lab)).lab.1=5 by rw [q]; decide),Aa (dcT ⟨by omega,by omega,h1,by first | trivial | rfl,by omega,k1,k2,by omega,by omega⟩)]
  dsimp only [Rose.kids]
  match ys,k1 with
  | [y],_=>
   rw [Ho]
   show ifB (BA (fkB y) (fun n=>A9 y n 0) (fun d=>AU y d 0) s (s.length-0) 0).isSome _ _=_
   dsimp only [hd0]
   rw [sub_zero]
   cases BA (fkB y) (fun n=>A9 y n 0) (fun d=>AU y d 0) s s.length 0<;>rfl
 ·have hq:y0=5:=q
  rw [Ac (beq_eq_false_iff_ne.2 (by omega)),Ag (beq_iff_eq.2 hq),if_neg (show ¬((.node (y0,y1,y2,y3,y4,()) ys:Rose Lab)).lab.1=2 by rw [q]; decide),if_pos q,Aa (dcT ⟨h1,hq,h3,h4,h5⟩)]
theorem Abv : ∀ n,(∀ m,m<n->Af prog 169 (Ent.rd1 (ptN m)).F)->Af prog 169 (Ent.rd1 (ptN n)).F
 | 0,_=>BD fun vs bs=>by
  unfold Ent.F ptN
  dsimp only
  split
  ·rename_i s y0 y1 y2 y3 y4 ys
   have hz:=Ck (.node (y0,y1,y2,y3,y4,()) ys:Rose Lab)
   have:decide (s.length<=400/\fkB (.node (y0,y1,y2,y3,y4,()) ys:Rose Lab)=false/\At (.node (y0,y1,y2,y3,y4,()) ys:Rose Lab)=true/\Aq (.node (y0,y1,y2,y3,y4,()) ys:Rose Lab)<=0/\Aq (.node (y0,y1,y2,y3,y4,()) ys:Rose Lab)<=1000000)=false:=dcF (by omega)
   rw [this]; rfl
  ·rfl
 | n+1,ihs=>by
  have ih:=ihs n (Nat.lt_succ_self n)
  have hr:=WA n ih
  refine A8 (kc func133 hr (kc func201 tvs (kc func202 Adt (kc func168 sfk (kc func169 ih (kc func196 Xv (kc func170 T3 KnowsL.nil))))))).knows (Λ:=(Ab [(8,ptE n)])) func169 (c:=f169.body.getD .skip) (by kernel_rfl) fun vs bs r hq hv hb=>?_
  unfold Ent.F ptN at hq
  dsimp only at hq
  split at hq
  ·rename_i s y0 y1 y2 y3 y4 ys
   obtain ⟨hc,hx⟩:=Ad hq
   exact ⟨Ad3 n (n+1),(Abu n s y0 y1 y2 y3 y4 ys (of_decide_eq_true hc)).trans hx⟩
  ·cases hq
theorem Abw (n:Nat):Af prog 169 (Ent.rd1 (ptN n)).F:=Nat.strongRecOn n fun n h=>Abv n h
theorem Abp (n:Nat):Af prog 133 (Ent.rd1 (rsN (n+1))).F:=WA n (Abw n)
def UR (l:List Ty) (s:List UInt8):Bool:=decide (s.length<=400)&&Bf l
def Mk (l:List Ty) (s:List UInt8):Bool:=UR l s&&(AU (t2L l 0) s 0).isSome
def Aco:Gm
 | [.s s,.agg [.sl TCd l]],[]=>.need (decide (l.length<=4000000000)&&nmL l) (.leaf (.tup [.b (Mk l s),.b (UR l s)],[]))
 | _,_=>.no
theorem Hz {l:List Ty} (h:Bf l=true):CX (t2L l 0)=true/\0<l.length/\l.length<=30:=by
 have e:=((HX l).2 h)
 unfold Bf at h
 simp only [anE,dcE,beq_iff_eq] at h
 rw [<-e]
 exact ⟨h.2,by omega,by omega⟩
theorem XA (s:List UInt8) (l:List Ty):Ax prog (Ab [(114,.rd1 Jx),(119,.rd1 HG),(133,.rd1 (rsN 1000001))]) (Ab []) f97 [.s s,.agg [.sl TCd l]] [] =
 ((ifB (decide ((↑s.length:Int)>(400:Int))) (some (V.tup [V.b false,V.b false],[])) (ifT (decide (l.length<=4000000000)&&nmL l) (ifB (!Bf l) (some
 (V.tup [V.b false,V.b false],[])) (ifT (decide ((0:Int)<=(0:Int)/\0<l.length/\l.length<=4000000000)) (ifT (decide (s.length<=400/\
 (t2L l 0).lab.fst=(5:Int)/\At (Rose.node ((t2L l 0).lab.fst,(t2L l 0).lab.snd.fst,(t2L l 0).lab.snd.snd.fst,(t2L l (0 :
 Nat)).lab.snd.snd.snd.fst,(t2L l 0).lab.snd.snd.snd.snd.fst,()) (take (t2L l 0).kids.length (drop 0 (t2L l 0).kids)))=true/\
 Aq (Rose.node ((t2L l 0).lab.fst,(t2L l 0).lab.snd.fst,(t2L l 0).lab.snd.snd.fst,(t2L l 0).lab.snd.snd.snd.fst,(t2L l (0 :
 Nat)).lab.snd.snd.snd.snd.fst,()) (take (t2L l 0).kids.length (drop 0 (t2L l 0).kids)))<=1000001/\Aq (Rose.node ((t2L l (0
 : Nat)).lab.fst,(t2L l 0).lab.snd.fst,(t2L l 0).lab.snd.snd.fst,(t2L l 0).lab.snd.snd.snd.fst,(t2L l 0).lab.snd.snd.snd.snd.fst,())
 (take (t2L l 0).kids.length (drop 0 (t2L l 0).kids)))<=1000000)) (some (V.tup [V.b (AU (Rose.node ((t2L l 0).lab.fst,
 (t2L l 0).lab.snd.fst,(t2L l 0).lab.snd.snd.fst,(t2L l 0).lab.snd.snd.snd.fst,(t2L l 0).lab.snd.snd.snd.snd.fst,()) (take (t2L l
 0).kids.length (drop 0 (t2L l 0).kids))) s (0:Int)).isSome,V.b true],[]))))))):_):=by kernel_rfl
theorem Afg:Af prog 97 (Ent.rd1 Aco).F:=by
 refine Ae (kc func114 Ww (kc func119 Sh (kc func133 (Abp 1000000) KnowsL.nil))).knows (Λ:=Ab []) func97 (c:=f97.body.getD .skip) (by kernel_rfl) fun vs bs r hq hv hb=>?_
 unfold Ent.F Aco at hq
 dsimp only at hq
 split at hq
 ·rename_i s l
  obtain ⟨hc,hx⟩:=Ad hq
  rw [anE,dcE] at hc
  refine ⟨Ak _,(XA s l).trans (Eq.trans ?_ hx)⟩
  try dsimp only [shr]
  show _=some _
  unfold Mk UR
  have hn:(decide (l.length<=4000000000)&&nmL l)=true:=by rw [hc.2,dcT hc.1]; rfl
  by_cases q:s.length<=400
  ·rw [Ac (dcF (by omega)),dcT q,Bool.true_and,hn,Dc]
   cases hk:Bf l with
   | false=>rfl
   | true=>
    obtain ⟨h1,h2,h3⟩:=Hz hk
    obtain ⟨g1,g2,g3⟩:=Dq h1
    rw [Bool.not_true,AS,Aa (dcT ⟨by omega,by omega,hc.1⟩)]
    simp only [drop_zero,take_length,BV]
    rw [Aa (dcT ⟨q,g1,g2,by omega,by omega⟩)]
    rfl
  ·rw [Ag (dcT (by omega)),dcF q]
   rfl
 ·cases hq






def kpC:Gm
 | [.tp LCd z 0,.bx [.i .i64 x] 0],[]=>.leaf (.b (z.lab.2.2.1==x),[])
 | _,_=>.no
def kpE  : LoopEnt:=⟨19,[0,1,4,7,8],[],[4],fun
 | ([.sl (.tree LCd) l,.fn 200 [] [.ptr 0 0],.i .i64 _,.i .i64 k,.i .i64 i],[some (.box [.i .i64 x])])=>
  .need (decide (0<=i/\i.toNat<=l.length/\l.length<=maxI/\k=l.length)) (.br (decide (Au (fun z:Rose Lab=>z.lab.2.2.1==x) i.toNat (l.drop i.toNat)<0)) (.leaf (.exit 0,([],[some (.box [.i .i64 x])]))) (.leaf (.ret,([.i .i64 (Au (fun z:Rose Lab=>z.lab.2.2.1==x) i.toNat (l.drop i.toNat))],[some (.box [.i .i64 x])]))))
 | _=>.no⟩
def Ach  : Gm
 | [.sl (.tree LCd) l,.fn 200 [] [.ptr 0 0]],[.box [.i .i64 x]]=>.leaf (.i .i64 (Au (fun z:Rose Lab=>z.lab.2.2.1==x) 0 l),[some (.box [.i .i64 x])])
 | _,_=>.no
def Sm:Gm
 | [.tp LCd z 0,.i .i64 x],[]=>.need (decide (z.kids.length<=maxI)) (.br (B8 x z.kids) (.leaf (.tp LCd (byR x z.kids) 0,[])) (.leaf (.np,[])))
 | _,_=>.no
theorem Zv:Af prog 200 (Ent.rd1 kpC).F:=by
 refine Ae KnowsL.nil.knows (Λ:=Ab []) func200 (c:=f200.body.getD .skip) (by kernel_rfl) fun vs bs r hq hv hb=>?_
 unfold Ent.F kpC at hq
 dsimp only at hq
 split at hq
 ·rename_i z x
  refine ⟨Ak _,Eq.trans ?_ hq⟩
  have e:Ax prog (Ab []) (Ab []) f200 [.tp LCd z 0,.bx [.j x] 0] []=((some (V.b (z.lab.snd.snd.fst==x),[])):_):=by kernel_rfl
  rw [e]
  rfl
 ·cases hq
theorem Qb  (x:Int) (l:List (Rose Lab)) (r k i:Int):Av prog (Ab [(200,.rd1 kpC)]) (Ab [(2,kpE)]) 1 (body f199 0) kpE ([.sl (.tree LCd) l,.fn 200 [] [.ptr 0 0],.j r,.j k,.j i],[some (.box [.j x])]) =
 ((ifB (decide (i<k)) (ifT (decide ((0:Int)<=i)&&decide (i<(↑l.length:Int))) (Ai l[i.toNat]? fun z=>ifB ((Rose.lab z).snd.snd.fst==x) (some (Ex.ret,[V.i
 .i64 i],[some (Blk.box [V.j x])])) (some (Ex.normal,[V.sl LCd.tree l,V.fn 200 [] [V.ptr 0 0],V.j r,V.j k,V.i .i64
 (i64.wrap (i+(1:Int)))],[some (Blk.box [V.j x])])))) (some (Ex.exit 0,[],[some (Blk.box [V.j x])]))):_):=by kernel_rfl
theorem T6  (x:Int) {l:List (Rose Lab)} {r:Int} (hx:l.length<=maxI) : ∀ (j i:Nat),i+j=l.length->∀ e d',(.br (decide (Au (fun z:Rose Lab=>z.lab.2.2.1==x) i (l.drop i)<0)) (.leaf (.exit 0,([],[some (.box [.j x])]))) (.leaf (.ret,([.j (Au (fun z:Rose Lab=>z.lab.2.2.1==x) i (l.drop i))],[some (.box [.j x])]))):Br (Ex×Dt)).run=some (e,d')->
  Runs prog (Ab [(200,.rd1 kpC)]) (Ab [(2,kpE)]) 1 (body f199 0) kpE ([.sl (.tree LCd) l,.fn 200 [] [.ptr 0 0],.j r,.j (l.length:Int),.j (i:Int)],[some (.box [.j x])]) e d'
 | 0,i,hi,e,d',h=>by
  have e1:l.drop i=[]:=drop_eq_nil_of_le (by omega)
  rw [e1,BB,Au,if_pos (by omega)] at h
  cases h
  have hr:=Qb x l r l.length i
  rw [Ac (dcF (by omega))] at hr
  exact .stop _ _ _ hr (by simp)
 | j+1,i,hi,e,d',h=>by
  have h1:i<l.length:=by omega
  have hr:=Qb x l r l.length i
  rw [Ag (dcT (by omega)),Aa (by simp only [anE,dcE]; omega)] at hr
  simp only [ntN,gtE h1,Am,Ap (n:=i) (by omega)] at hr
  rw [drop_eq_getElem_cons h1,BB,Au] at h
  by_cases he:(fun z:Rose Lab=>z.lab.2.2.1==x) l[i]=true
  ·rw [if_pos he,if_neg (by omega)] at h
   cases h
   rw [Ag he] at hr
   exact .stop _ _ _ hr (by simp)
  ·rw [if_neg he] at h
   rw [Ac (by simpa using he)] at hr
   exact .step _ _ _ _ hr (T6 x hx j (i+1) (by omega) e d' (by rw [BB]; exact h))
theorem Aek  : Ar prog (Ab [(200,.rd1 kpC)]) (Ab [(2,kpE)]) 1 (f199.body.getD .skip):=by
 refine An (a:=body f199 0) (by kernel_rfl) fun d e d' h=>?_
 unfold kpE at h
 dsimp only at h
 split at h
 ·obtain ⟨hc,h'⟩:=Ad h
  obtain ⟨h0,h1,h2,rfl⟩:=of_decide_eq_true hc
  obtain ⟨i,rfl⟩:=eq_ofNat_of_zero_le h0
  exact T6 _  h2 _ i (add_sub_of_le h1) e d' h'
 ·cases h
theorem Acj  (x:Int) (l:List (Rose Lab)) (hx:l.length<=maxI):Ax prog (Ab [(200,.rd1 kpC)]) (Ab [(2,kpE)]) f199 [.sl (.tree LCd) l,.fn 200 [] [.ptr 0 0]] [.box [.j x]]=some (.j (Au (fun z:Rose Lab=>z.lab.2.2.1==x) 0 l),[some (.box [.j x])]):=by
 have e:Ax prog (Ab [(200,.rd1 kpC)]) (Ab [(2,kpE)]) f199 [.sl (.tree LCd) l,.fn 200 [] [.ptr 0 0]] [.box [.j x]] =
  ((ifT (decide ((0:Int)<=(0:Int)/\0<=l.length/\l.length<=maxI/\(↑l.length:Int)=(↑l.length:Int))) (ifB (decide (Au (fun z=>z.lab.snd.snd.fst==
 x) 0 (drop 0 l)<(0:Int))) (some (V.j (-1),[some (Blk.box [V.j x])])) (some (V.j (Au (fun z=>z.lab.snd.snd.fst==x) (0 :
 Nat) (drop 0 l)),[some (Blk.box [V.j x])])))):_):=by kernel_rfl
 rw [e,Aa (dcT ⟨by omega,by omega,hx,rfl⟩)]
 simp only [drop_zero]
 by_cases q:Au (fun z:Rose Lab=>z.lab.2.2.1==x) 0 l<0
 ·rw [Ag (dcT q),CP _ _ _ q]
 ·rw [Ac (dcF q)]
theorem Aci  : Af prog 199 (Ent.own Ach).F:=by
 refine Ae (kc func200 Zv KnowsL.nil).knows (Λ:=(Ab [(2,kpE)])) func199 (c:=f199.body.getD .skip) (by kernel_rfl) fun vs bs r h hv hb=>?_
 unfold Ent.F Ach at h
 dsimp only at h
 split at h
 ·rename_i l x
  have h':=h
  exact ⟨Aek ,(Acj x l (hv (.sl (.tree LCd) l) (by simp)).1).trans (by cases h'; rfl)⟩
 ·cases h
theorem Sl (z:Rose Lab) (x:Int):Ax prog (Ab [(199,.own Ach)]) (Ab []) f166 [.tp LCd z 0,.j x] [] =
 ((ifB (decide (Au (fun z=>z.lab.snd.snd.fst==x) 0 z.kids<(0:Int))) (some (V.np,[])) (ifT (decide ((0:Int)<=Au (fun z=>z.lab.snd.snd.fst==x)
 0 z.kids)&&decide (Au (fun z=>z.lab.snd.snd.fst==x) 0 z.kids<(↑z.kids.length:Int))) (Ai z.kids[(Au (fun z=>z.lab.snd.snd.fst==x)
 0 z.kids).toNat]? fun z=>some (V.tp LCd z 0,[])))):_):=by kernel_rfl
theorem QB {x:Int} : ∀ {l:List (Rose Lab)} {y:Rose Lab},l.find? (fun z=>z.lab.2.2.1==x)=some y->B8 x l=true/\byR x l=y
 | [],y,h=>by cases h
 | z::l,y,h=>by
  by_cases q:z.lab.2.2.1=x
  ·have hb:(z.lab.2.2.1==x)=true:=by rw [q]; exact beq_self_eq_true _
   rw [List.find?_cons_of_pos (p:=fun z:Rose Lab=>z.lab.2.2.1==x) hb] at h
   refine ⟨IA.2 ⟨z,by simp,q⟩,?_⟩
   rw [byR,if_pos q]
   exact Option.some.inj h
  ·have hb : ¬(z.lab.2.2.1==x)=true:=by rw [beq_false_of_ne q]; simp
   rw [List.find?_cons_of_neg (p:=fun z:Rose Lab=>z.lab.2.2.1==x) hb] at h
   obtain ⟨h1,h2⟩:=QB h
   have hne:=Qq (ks:=l) (z:=z) (n:=x) (Ne.symm q)
   rw [hne.1,hne.2]
   exact ⟨h1,h2⟩
theorem Aej:Af prog 166 (Ent.rd1 Sm).F:=by
 refine Ae (kc func199 Aci KnowsL.nil).knows (Λ:=Ab []) func166 (c:=f166.body.getD .skip) (by kernel_rfl) fun vs bs r hq hv hb=>?_
 unfold Ent.F Sm at hq
 dsimp only at hq
 split at hq
 ·rename_i z x
  obtain ⟨hc,hx⟩:=Ad hq
  refine ⟨Ak _,Eq.trans ?_ hx⟩
  rw [Sl]
  have ha:=Hj (fun z:Rose Lab=>z.lab.2.2.1==x) z.kids 0
  have hhas:B8 x z.kids=z.kids.any (fun z:Rose Lab=>z.lab.2.2.1==x):=rfl
  by_cases q:Au (fun z:Rose Lab=>z.lab.2.2.1==x) 0 z.kids<0
  ·rw [Ag (dcT q),hhas,<-ha,dcF (by omega)]
   rfl
  ·obtain ⟨i,h1,h2,h3,h4⟩:=Gw (fun z:Rose Lab=>z.lab.2.2.1==x) z.kids 0 (by omega)
   obtain ⟨h5,h6⟩:=QB h4
   rw [Ac (dcF q),h2,zero_add,Aa (by simp only [anE,dcE]; omega),ntN,gtE h1,Am,h5,h6]
   rfl
 ·cases hq
mutual
def CJ:Rose Lab->Rose Lab->Bool
 | .node y ks,a=>if a.lab.1≠y.1\/y.2.2.2.2.1<a.lab.2.2.2.2.1 then false else if y.1=4 then Ph ks a.kids else Ep a.kids ks
def Ph:List (Rose Lab)->List (Rose Lab)->Bool
 | [],_=>true
 | p::_,zs=>CJ p (hd0 zs)
def Ep (zs:List (Rose Lab)):List (Rose Lab)->Bool
 | []=>true
 | p::ks=>(B8 p.lab.2.2.1 zs&&((!p.lab.2.2.2.1||(byR p.lab.2.2.1 zs).lab.2.2.2.1)&&CJ p (byR p.lab.2.2.1 zs)))&&Ep zs ks
end
def F0 (a:Rose Lab) (ks:List (Rose Lab)) (i:Nat):Bool:=if a.lab.1=4 then (if i=0 then Ph ks a.kids else true) else Ep a.kids (ks.drop i)
def Rb (n:Nat):Gm
 | [.tp LCd a 0,.tp LCd b 0],[]=>.need (decide (At a=true/\At b=true/\Aq b<=n/\Aq b<=1000000/\Aq a<=1000000)) (.leaf (.b (CJ b a),[]))
 | _,_=>.no
def R8 (n:Nat):Gm
 | [.agg [.i .i64 x0,.s x1,.i .i64 x2,.b x3,.i .i64 x4,.sl (.rose LCd) xs],.agg [.i .i64 y0,.s y1,.i .i64 y2,.b y3,.i .i64 y4,.sl (.rose LCd) ys]],[]=>.need (decide (At (.node (x0,x1,x2,x3,x4,()) xs:Rose Lab)=true/\At (.node (y0,y1,y2,y3,y4,()) ys:Rose Lab)=true/\Aq (.node (y0,y1,y2,y3,y4,()) ys:Rose Lab)<=n/\Aq (.node (y0,y1,y2,y3,y4,()) ys:Rose Lab)<=1000000/\Aq (.node (x0,x1,x2,x3,x4,()) xs:Rose Lab)<=1000000)) (.leaf (.b (CJ (.node (y0,y1,y2,y3,y4,()) ys:Rose Lab) (.node (x0,x1,x2,x3,x4,()) xs:Rose Lab)),[]))
 | _,_=>.no
def G3 (n:Nat):LoopEnt:=⟨83,[0,32,33,34],[],[4],fun
 | ([.tp LCd a 0,.sl (.tree LCd) ks,.i .i64 c,.i .i64 i],[])=>.need (decide (0<=i/\i.toNat<=ks.length/\c=ks.length/\At a=true/\ks.all At=true/\(a.lab.1=4->ks.length=1)/\A1 ks<=n/\A1 ks<=1000000/\Aq a<=1000000)) (.br (F0 a ks i.toNat) (.leaf (.exit 0,([],[]))) (.leaf (.ret,([.b false],[]))))
 | _=>.no⟩
def G4 (n:Nat):LoopEnt:=⟨70,[2,39,40,41],[],[4],fun
 | ([.ptr 0 0,.sl (.rose LCd) ks,.i .i64 c,.i .i64 i],[some (.box [.i .i64 _,.s _,.i .i64 _,.b _,.i .i64 _,.sl (.rose LCd) xs])])=>.need (decide (0<=i/\i.toNat<=ks.length/\c=ks.length/\B9 5 xs=true/\ks.all At=true/\A1 ks<=n/\A1 ks<=1000000/\A1 xs<=1000000)) (.br (Ep xs (ks.drop i.toNat)) (.leaf (.exit 0,([],[]))) (.leaf (.ret,([.b false],[]))))
 | _=>.no⟩
abbrev QP (n:Nat):FuncId->Option Ent:=Ab [(166,.rd1 Sm),(128,.rd1 (Rb n))]
theorem My (n:Nat) (a:Rose Lab) (ks:List (Rose Lab)) (c i:Int):Av prog (QP n) (Ab [(4,G3 n)]) 0 (body f128 0) (G3 n) ([.tp LCd a 0,.sl (.tree LCd) ks,.j c,.j i],[]) =
 ((ifB (decide (i<c)) (ifT (decide ((0:Int)<=i)&&decide (i<(↑ks.length:Int))) (Ai ks[i.toNat]? fun z=>ifB (a.lab.fst==(4:Int)) (ifT (decide ((0:Int)<=
 i)&&decide (i<(↑a.kids.length:Int))) (Ai a.kids[i.toNat]? fun z_1=>ifT (decide (At z_1=true/\At z=true/\Aq z<=n/\Aq z<=1000000/\
 Aq z_1<=1000000)) (ifB (!CJ z z_1) (some (Ex.ret,[V.b false],[])) (some (Ex.normal,[V.tp LCd a 0,V.sl LCd.tree ks,V.j c,V.i .i64
 (i64.wrap (i+(1:Int)))],[]))))) (ifT (decide (a.kids.length<=maxI)) (ifB (B8 (Rose.lab z).snd.snd.fst a.kids) (ifB (Rose.lab z).snd.snd.snd.fst (ifB
 (!(byR (Rose.lab z).snd.snd.fst a.kids).lab.snd.snd.snd.fst) (some (Ex.ret,[V.b false],[])) (ifT (decide (At (byR (Rose.lab z).snd.snd.fst a.kids)=true/\At z
 = true/\Aq z<=n/\Aq z<=1000000/\Aq (byR (Rose.lab z).snd.snd.fst a.kids)<=1000000)) (ifB (!CJ z (byR (Rose.lab z).snd.snd.fst a.kids)) (some
 (Ex.ret,[V.b false],[])) (some (Ex.normal,[V.tp LCd a 0,V.sl LCd.tree ks,V.j c,V.j (i64.wrap (i+(1:Int)))],[]))))) (ifT (decide
 (At (byR (Rose.lab z).snd.snd.fst a.kids)=true/\At z=true/\Aq z<=n/\Aq z<=1000000/\Aq (byR (Rose.lab z).snd.snd.fst a.kids)<=(1000000 :
 Nat))) (ifB (!CJ z (byR (Rose.lab z).snd.snd.fst a.kids)) (some (Ex.ret,[V.b false],[])) (some (Ex.normal,[V.tp LCd a 0,V.sl LCd.tree ks,V.j c,V.i
 .i64 (i64.wrap (i+(1:Int)))],[]))))) (some (Ex.ret,[V.b false],[])))))) (some (Ex.exit 0,[],[]))):_):=by kernel_rfl
theorem VR (n:Nat) (a b:Rose Lab):Df prog (QP n) (Ab [(4,G3 n)]) f128 [.tp LCd a 0,.tp LCd b 0] [] =
 ((ifB (a.lab.fst != b.lab.fst) (some (V.b false,[])) (ifB (decide (a.lab.snd.snd.snd.snd.fst>b.lab.snd.snd.snd.snd.fst)) (some (V.b false,[])) (ifT (decide ((0:Int)<=
 (0:Int)/\0<=b.kids.length/\(↑b.kids.length:Int)=(↑b.kids.length:Int)/\At a=true/\b.kids.all At=true/\(a.lab.fst=(4:(Cd.int
 .i64).den)->b.kids.length=1)/\A1 b.kids<=n/\A1 b.kids<=1000000/\Aq a<=1000000)) (ifB (F0 a b.kids 0) (some (V.b true,
 [])) (some (V.b false,[])))))):_):=by kernel_rfl
abbrev QO (n:Nat):FuncId->Option Ent:=Ab [(159,.rd1 byG),(118,.rd1 (R8 n))]
theorem MC (n:Nat) (x0:Int) (x1:List UInt8) (x2:Int) (x3:Bool) (x4:Int) (xs:List (Rose Lab)) (ks:List (Rose Lab)) (c i:Int):Av prog (QO n) (Ab [(6,G4 n)]) 0 (body f118 0) (G4 n) ([.ptr 0 0,.sl (.rose LCd) ks,.j c,.j i],[some (.box [.j x0,.s x1,.j x2,.b x3,.j x4,.sl (.rose LCd) xs])]) =
 ((ifB (decide (i<c)) (ifT (decide ((0:Int)<=i)&&decide (i<(↑ks.length:Int))) (Ai ks[i.toNat]? fun z=>ifT (decide (xs.length<=maxI)) (ifB (B8 (Rose.lab
 z).snd.snd.fst xs) (ifB (Rose.lab z).snd.snd.snd.fst (ifB (!(byR (Rose.lab z).snd.snd.fst xs).lab.snd.snd.snd.fst) (some (Ex.ret,[V.b false],[])) (ifT (decide (At
 (Rose.node ((byR (Rose.lab z).snd.snd.fst xs).lab.fst,(byR (Rose.lab z).snd.snd.fst xs).lab.snd.fst,(byR (Rose.lab z).snd.snd.fst xs).lab.snd.snd.fst,(byR (Rose.lab
 z).snd.snd.fst xs).lab.snd.snd.snd.fst,(byR (Rose.lab z).snd.snd.fst xs).lab.snd.snd.snd.snd.fst,()) (byR (Rose.lab z).snd.snd.fst xs).kids)=true/\At (Rose.node
 ((Rose.lab z).fst,(Rose.lab z).snd.fst,(Rose.lab z).snd.snd.fst,(Rose.lab z).snd.snd.snd.fst,(Rose.lab z).snd.snd.snd.snd.fst,()) (Rose.kids z))=true/\Aq
 (Rose.node ((Rose.lab z).fst,(Rose.lab z).snd.fst,(Rose.lab z).snd.snd.fst,(Rose.lab z).snd.snd.snd.fst,(Rose.lab z).snd.snd.snd.snd.fst,()) (Rose.kids z))<=n/\
 Aq (Rose.node ((Rose.lab z).fst,(Rose.lab z).snd.fst,(Rose.lab z).snd.snd.fst,(Rose.lab z).snd.snd.snd.fst,(Rose.lab z).snd.snd.snd.snd.fst,()) (Rose.kids z))<=
 1000000/\Aq (Rose.node ((byR (Rose.lab z).snd.snd.fst xs).lab.fst,(byR (Rose.lab z).snd.snd.fst xs).lab.snd.fst,(byR (Rose.lab z).snd.snd.fst
 xs).lab.snd.snd.fst,(byR (Rose.lab z).snd.snd.fst xs).lab.snd.snd.snd.fst,(byR (Rose.lab z).snd.snd.fst xs).lab.snd.snd.snd.snd.fst,()) (byR (Rose.lab z).snd.snd.fst
 xs).kids)<=1000000)) (ifB (!CJ (Rose.node ((Rose.lab z).fst,(Rose.lab z).snd.fst,(Rose.lab z).snd.snd.fst,(Rose.lab z).snd.snd.snd.fst,(Rose.lab
 z).snd.snd.snd.snd.fst,()) (Rose.kids z)) (Rose.node ((byR (Rose.lab z).snd.snd.fst xs).lab.fst,(byR (Rose.lab z).snd.snd.fst xs).lab.snd.fst,(byR (Rose.lab
 z).snd.snd.fst xs).lab.snd.snd.fst,(byR (Rose.lab z).snd.snd.fst xs).lab.snd.snd.snd.fst,(byR (Rose.lab z).snd.snd.fst xs).lab.snd.snd.snd.snd.fst,()) (byR (Rose.lab
 z).snd.snd.fst xs).kids)) (some (Ex.ret,[V.b false],[])) (some (Ex.normal,[V.ptr 0 0,V.sl LCd.rose ks,V.j c,V.j (i64.wrap (i+(1:Int)))],[some
 (Blk.box [V.j x0,V.s x1,V.j x2,V.b x3,V.j x4,V.sl LCd.rose xs])]))))) (ifT (decide (At (Rose.node ((byR (Rose.lab z).snd.snd.fst xs).lab.fst,(byR
 (Rose.lab z).snd.snd.fst xs).lab.snd.fst,(byR (Rose.lab z).snd.snd.fst xs).lab.snd.snd.fst,(byR (Rose.lab z).snd.snd.fst xs).lab.snd.snd.snd.fst,(byR (Rose.lab
 z).snd.snd.fst xs).lab.snd.snd.snd.snd.fst,()) (byR (Rose.lab z).snd.snd.fst xs).kids)=true/\At (Rose.node ((Rose.lab z).fst,(Rose.lab z).snd.fst,(Rose.lab
 z).snd.snd.fst,(Rose.lab z).snd.snd.snd.fst,(Rose.lab z).snd.snd.snd.snd.fst,()) (Rose.kids z))=true/\Aq (Rose.node ((Rose.lab z).fst,(Rose.lab z).snd.fst,
 (Rose.lab z).snd.snd.fst,(Rose.lab z).snd.snd.snd.fst,(Rose.lab z).snd.snd.snd.snd.fst,()) (Rose.kids z))<=n/\Aq (Rose.node ((Rose.lab z).fst,(Rose.lab
 z).snd.fst,(Rose.lab z).snd.snd.fst,(Rose.lab z).snd.snd.snd.fst,(Rose.lab z).snd.snd.snd.snd.fst,()) (Rose.kids z))<=1000000/\Aq (Rose.node ((byR
 (Rose.lab z).snd.snd.fst xs).lab.fst,(byR (Rose.lab z).snd.snd.fst xs).lab.snd.fst,(byR (Rose.lab z).snd.snd.fst xs).lab.snd.snd.fst,(byR (Rose.lab z).snd.snd.fst
 xs).lab.snd.snd.snd.fst,(byR (Rose.lab z).snd.snd.fst xs).lab.snd.snd.snd.snd.fst,()) (byR (Rose.lab z).snd.snd.fst xs).kids)<=1000000)) (ifB (!CJ (Rose.node
 ((Rose.lab z).fst,(Rose.lab z).snd.fst,(Rose.lab z).snd.snd.fst,(Rose.lab z).snd.snd.snd.fst,(Rose.lab z).snd.snd.snd.snd.fst,()) (Rose.kids z)) (Rose.node ((byR
 (Rose.lab z).snd.snd.fst xs).lab.fst,(byR (Rose.lab z).snd.snd.fst xs).lab.snd.fst,(byR (Rose.lab z).snd.snd.fst xs).lab.snd.snd.fst,(byR (Rose.lab z).snd.snd.fst
 xs).lab.snd.snd.snd.fst,(byR (Rose.lab z).snd.snd.fst xs).lab.snd.snd.snd.snd.fst,()) (byR (Rose.lab z).snd.snd.fst xs).kids)) (some (Ex.ret,[V.b false],[])) (some
 (Ex.normal,[V.ptr 0 0,V.sl LCd.rose ks,V.j c,V.j (i64.wrap (i+(1:Int)))],[some (Blk.box [V.j x0,V.s x1,V.j x2,V.b x3,V.j x4,
 V.sl LCd.rose xs])]))))) (some (Ex.ret,[V.b false],[]))))) (some (Ex.exit 0,[],[]))):_):=by kernel_rfl
theorem Wp (n:Nat) (x0:Int) (x1:List UInt8) (x2:Int) (x3:Bool) (x4:Int) (xs:List (Rose Lab)) (y0:Int) (y1:List UInt8) (y2:Int) (y3:Bool) (y4:Int) (ys:List (Rose Lab)):Df prog (QO n) (Ab [(6,G4 n)]) f118 [.agg [.j x0,.s x1,.j x2,.b x3,.j x4,.sl (.rose LCd) xs],.agg [.j y0,.s y1,.j y2,.b y3,.j y4,.sl (.rose LCd) ys]] [] =
 ((ifB (x0 != y0) (some (V.b false,[])) (ifB (x0==(3:Int)) (ifB (decide (x4>y4)) (some (V.b false,[])) (ifB (x0==(4:Int)) (ifT (decide ((0:Int)<=(0:Int))&&
 decide ((0:Int)<(↑xs.length:Int))) (Ai xs[0]? fun z=>ifT (decide ((0:Int)<=(0:Int))&&decide ((0:Int)<(↑ys.length:Int))) (Ai ys[(0 :
 Nat)]? fun z_1=>ifT (decide (At (Rose.node ((Rose.lab z).fst,(Rose.lab z).snd.fst,(Rose.lab z).snd.snd.fst,(Rose.lab z).snd.snd.snd.fst,(Rose.lab
 z).snd.snd.snd.snd.fst,()) (Rose.kids z))=true/\At (Rose.node ((Rose.lab z_1).fst,(Rose.lab z_1).snd.fst,(Rose.lab z_1).snd.snd.fst,(Rose.lab
 z_1).snd.snd.snd.fst,(Rose.lab z_1).snd.snd.snd.snd.fst,()) (Rose.kids z_1))=true/\Aq (Rose.node ((Rose.lab z_1).fst,(Rose.lab z_1).snd.fst,(Rose.lab
 z_1).snd.snd.fst,(Rose.lab z_1).snd.snd.snd.fst,(Rose.lab z_1).snd.snd.snd.snd.fst,()) (Rose.kids z_1))<=n/\Aq (Rose.node ((Rose.lab z_1).fst,(Rose.lab
 z_1).snd.fst,(Rose.lab z_1).snd.snd.fst,(Rose.lab z_1).snd.snd.snd.fst,(Rose.lab z_1).snd.snd.snd.snd.fst,()) (Rose.kids z_1))<=1000000/\Aq (Rose.node
 ((Rose.lab z).fst,(Rose.lab z).snd.fst,(Rose.lab z).snd.snd.fst,(Rose.lab z).snd.snd.snd.fst,(Rose.lab z).snd.snd.snd.snd.fst,()) (Rose.kids z))<=1000000))
 (some (V.b (CJ (Rose.node ((Rose.lab z_1).fst,(Rose.lab z_1).snd.fst,(Rose.lab z_1).snd.snd.fst,(Rose.lab z_1).snd.snd.snd.fst,(Rose.lab z_1).snd.snd.snd.snd.fst,
 ()) (Rose.kids z_1)) (Rose.node ((Rose.lab z).fst,(Rose.lab z).snd.fst,(Rose.lab z).snd.snd.fst,(Rose.lab z).snd.snd.snd.fst,(Rose.lab z).snd.snd.snd.snd.fst,())
 (Rose.kids z))),[]))))) (ifT (decide ((0:Int)<=(0:Int)/\0<=ys.length/\(↑ys.length:Int)=(↑ys.length:Int)/\B9 (5:Int) xs=true/\ys.all
 At=true/\A1 ys<=n/\A1 ys<=1000000/\A1 xs<=1000000)) (ifB (Ep xs (drop 0 ys)) (some (V.b true,[])) (some (V.b false,
 [])))))) (ifB (x0==(4:Int)) (ifT (decide ((0:Int)<=(0:Int))&&decide ((0:Int)<(↑xs.length:Int))) (Ai xs[0]? fun z=>ifT (decide ((0:Int)<=
 (0:Int))&&decide ((0:Int)<(↑ys.length:Int))) (Ai ys[0]? fun z_1=>ifT (decide (At (Rose.node ((Rose.lab z).fst,(Rose.lab z).snd.fst,(Rose.lab
 z).snd.snd.fst,(Rose.lab z).snd.snd.snd.fst,(Rose.lab z).snd.snd.snd.snd.fst,()) (Rose.kids z))=true/\At (Rose.node ((Rose.lab z_1).fst,(Rose.lab z_1).snd.fst,
 (Rose.lab z_1).snd.snd.fst,(Rose.lab z_1).snd.snd.snd.fst,(Rose.lab z_1).snd.snd.snd.snd.fst,()) (Rose.kids z_1))=true/\Aq (Rose.node ((Rose.lab z_1).fst,
 (Rose.lab z_1).snd.fst,(Rose.lab z_1).snd.snd.fst,(Rose.lab z_1).snd.snd.snd.fst,(Rose.lab z_1).snd.snd.snd.snd.fst,()) (Rose.kids z_1))<=n/\Aq (Rose.node
 ((Rose.lab z_1).fst,(Rose.lab z_1).snd.fst,(Rose.lab z_1).snd.snd.fst,(Rose.lab z_1).snd.snd.snd.fst,(Rose.lab z_1).snd.snd.snd.snd.fst,()) (Rose.kids z_1))<=
 1000000/\Aq (Rose.node ((Rose.lab z).fst,(Rose.lab z).snd.fst,(Rose.lab z).snd.snd.fst,(Rose.lab z).snd.snd.snd.fst,(Rose.lab z).snd.snd.snd.snd.fst,())
 (Rose.kids z))<=1000000)) (some (V.b (CJ (Rose.node ((Rose.lab z_1).fst,(Rose.lab z_1).snd.fst,(Rose.lab z_1).snd.snd.fst,(Rose.lab z_1).snd.snd.snd.fst,
 (Rose.lab z_1).snd.snd.snd.snd.fst,()) (Rose.kids z_1)) (Rose.node ((Rose.lab z).fst,(Rose.lab z).snd.fst,(Rose.lab z).snd.snd.fst,(Rose.lab z).snd.snd.snd.fst,
 (Rose.lab z).snd.snd.snd.snd.fst,()) (Rose.kids z))),[]))))) (ifT (decide ((0:Int)<=(0:Int)/\0<=ys.length/\(↑ys.length:Int)=(↑ys.length:Int)/\
 B9 (5:Int) xs=true/\ys.all At=true/\A1 ys<=n/\A1 ys<=1000000/\A1 xs<=1000000)) (ifB (Ep xs (drop 0 ys)) (some
 (V.b true,[])) (some (V.b false,[]))))))):_):=by kernel_rfl

theorem OV (n:Nat) (a:Rose Lab) (ha:At a=true) (ks:List (Rose Lab)) (hks:ks.all At=true) (h4:a.lab.1=4->ks.length=1) (hcn:A1 ks<=n) (hc6:A1 ks<=1000000) (hca:Aq a<=1000000) : ∀ (j i:Nat),i+j=ks.length->∀ ex d,(Br.br (F0 a ks i) (.leaf (.exit 0,([],[]))) (.leaf (.ret,([.b false],[]))):Br (Ex×Dt)).run=some (ex,d)->Runs prog (QP n) (Ab [(4,G3 n)]) 0 (body f128 0) (G3 n) ([.tp LCd a 0,.sl (.tree LCd) ks,.j (ks.length:Int),.j (i:Int)],[]) ex d
 | 0,i,hi,ex,d,h=>by
  have hr:=My n a ks ks.length i
  rw [Ac (dcF (by omega))] at hr
  have e:F0 a ks i=true:=by
   unfold F0
   rw [drop_eq_nil_of_le (by omega)]
   split
   ·rename_i q
    have:=h4 q
    rw [if_neg (by omega)]
   ·rfl
  rw [IQ e] at h
  have h8:=Ao h
  obtain ⟨rfl,rfl⟩:=Prod.mk.inj h8
  exact .stop _ _ _ hr (by simp)
 | j+1,i,hi,ex,d,h=>by
  have hl:i<ks.length:=by omega
  have hM:maxI=9223372036854775807:=rfl
  have hr:=My n a ks ks.length i
  have hlen:=C6 ks
  have W1:i64.wrap ((i:Int)+1)=((i+1:Nat):Int):=by rw [Aw (by omega) (by omega)]; omega
  have hd:=drop_eq_getElem_cons hl
  have hm:=getElem_mem hl
  have hrz:=all_eq_true.1 hks _ hm
  have hcz:=Cb hm
  have hka:=Cp a
  have hla:=C6 a.kids
  have bad : ∀ {w},Av prog (QP n) (Ab [(4,G3 n)]) 0 (body f128 0) (G3 n) ([.tp LCd a 0,.sl (.tree LCd) ks,.j (ks.length:Int),.j (i:Int)],[])=w->w=some ((.ret:Ex),(([.b false]:List V),([]:List (Option Blk))))->F0 a ks i=false->Runs prog (QP n) (Ab [(4,G3 n)]) 0 (body f128 0) (G3 n) ([.tp LCd a 0,.sl (.tree LCd) ks,.j (ks.length:Int),.j (i:Int)],[]) ex d:=fun e1 e2 e3=>by
   rw [JH e3] at h
   have h8:=Ao h
   obtain ⟨rfl,rfl⟩:=Prod.mk.inj h8
   exact .stop _ _ _ (e1.trans e2) (by simp)
  have good : ∀ {w},Av prog (QP n) (Ab [(4,G3 n)]) 0 (body f128 0) (G3 n) ([.tp LCd a 0,.sl (.tree LCd) ks,.j (ks.length:Int),.j (i:Int)],[])=w->w=some ((.normal:Ex),(([.tp LCd a 0,.sl (.tree LCd) ks,.j (ks.length:Int),.j ((i+1:Nat):Int)],[]):Dt))->F0 a ks i=F0 a ks (i+1)->Runs prog (QP n) (Ab [(4,G3 n)]) 0 (body f128 0) (G3 n) ([.tp LCd a 0,.sl (.tree LCd) ks,.j (ks.length:Int),.j (i:Int)],[]) ex d:=fun e1 e2 e3=>
   .step _ _ _ _ (e1.trans e2) (OV n a ha ks hks h4 hcn hc6 hca j (i+1) (by omega) ex d (by rw [<-e3]; exact h))
  rw [Ag (dcT (by omega)),Aa (by simp only [anE,dcE]; omega),ntN,gtE hl,Am,W1] at hr
  by_cases q4:a.lab.1=4
  ·have hk1:=h4 q4
   obtain ⟨ka,kb⟩:=Dn ha q4
   obtain rfl:i=0:=by omega
   have e0:F0 a ks 0=CJ ks[0] (hd0 a.kids):=by
    unfold F0
    rw [if_pos q4,if_pos rfl]
    match ks,hl with
    | p::ks,_=>rw [Ph]; rfl
   have e1:F0 a ks (0+1)=true:=by unfold F0; rw [if_pos q4,if_neg (by omega)]
   have hz:0<a.kids.length:=by omega
   have hx:a.kids[0]=hd0 a.kids:=by
    match hk:a.kids,hz with
    | x::xs,_=>rfl
   have hxr:=all_eq_true.1 kb _ (getElem_mem hz)
   have hxc:=Cb (getElem_mem hz)
   rw [Ag (beq_iff_eq.2 q4),Aa (by simp only [anE,dcE]; omega),gtE hz,Am,Aa (dcT ⟨hxr,hrz,by omega,by omega,by omega⟩),hx] at hr
   cases hs:CJ ks[0] (hd0 a.kids) with
   | false=>rw [hs] at hr; exact bad hr rfl (e0.trans hs)
   | true=>rw [hs] at hr; exact good hr rfl ((e0.trans hs).trans e1.symm)
  ·have hal:=(CM ha).2
   have e0:F0 a ks i=((B8 ks[i].lab.2.2.1 a.kids&&((!ks[i].lab.2.2.2.1||(byR ks[i].lab.2.2.1 a.kids).lab.2.2.2.1)&&CJ ks[i] (byR ks[i].lab.2.2.1 a.kids)))&&F0 a ks (i+1)):=by
    unfold F0
    rw [if_neg q4,if_neg q4,hd,Ep]
   rw [Ac (beq_eq_false_iff_ne.2 q4),Aa (dcT (by omega))] at hr
   generalize ks[i]=p at hr e0 hrz hcz
   cases hn:B8 p.lab.2.2.1 a.kids with
   | false=>rw [hn] at hr e0; exact bad hr rfl (by rw [e0]; rfl)
   | true=>
    obtain ⟨bm,bn⟩:=Gf hn
    have hxr:=(BM hal _ bm).2
    have hxc:=Cb bm
    rw [hn] at hr e0
    simp only [Be,Aa (dcT (show At (byR p.lab.2.2.1 a.kids)=true/\At p=true/\Aq p<=n/\Aq p<=1000000/\Aq (byR p.lab.2.2.1 a.kids)<=1000000 from ⟨hxr,hrz,by omega,by omega,by omega⟩))] at hr
    cases hmu:p.lab.2.2.2.1 with
    | true=>
     rw [hmu] at hr e0
     cases hmx:(byR p.lab.2.2.1 a.kids).lab.2.2.2.1 with
     | false=>rw [hmx] at hr e0; exact bad hr rfl (by rw [e0]; rfl)
     | true=>
      rw [hmx] at hr e0
      cases hs:CJ p (byR p.lab.2.2.1 a.kids) with
      | false=>rw [hs] at hr e0; exact bad hr rfl (by rw [e0]; rfl)
      | true=>rw [hs] at hr e0; exact good hr rfl (by rw [e0]; rfl)
    | false=>
     rw [hmu] at hr e0
     cases hs:CJ p (byR p.lab.2.2.1 a.kids) with
     | false=>rw [hs] at hr e0; exact bad hr rfl (by rw [e0]; rfl)
     | true=>rw [hs] at hr e0; exact good hr rfl (by rw [e0]; rfl)
theorem Aa9 (n:Nat):Ar prog (QP n) (Ab [(4,G3 n)]) 0 (f128.body.getD .skip):=by
 refine An (a:=body f128 0) (by kernel_rfl) fun d ex d' h=>?_
 unfold G3 at h
 dsimp only at h
 split at h
 ·rename_i a ks c i
  obtain ⟨hc,hx⟩:=Ad h
  obtain ⟨h0,h1,rfl,h3,h4,h5,h6,h7,h8⟩:=of_decide_eq_true hc
  obtain ⟨i,rfl⟩:=eq_ofNat_of_zero_le h0
  simp only [ntN] at h1 hx
  exact OV n a h3 ks h4 h5 h6 h7 h8 (ks.length-i) i (by omega) ex d' hx
 ·cases h
theorem YE (b a:Rose Lab):CJ b a=if a.lab.1≠b.lab.1\/b.lab.2.2.2.2.1<a.lab.2.2.2.2.1 then false else if b.lab.1=4 then Ph b.kids a.kids else Ep a.kids b.kids:=by
 obtain ⟨y,ks⟩:=b
 rw [CJ]; rfl
theorem Io {z:Rose Lab} (h:At z=true):z.kids.all At=true:=all_eq_true.2 fun y hy=>(BM (CM h).2 y hy).2
theorem Y2 : ∀ n,(∀ m,m<n->Af prog 128 (Ent.rd1 (Rb m)).F)->Af prog 128 (Ent.rd1 (Rb n)).F
 | 0,_=>BD fun vs bs=>by
  unfold Ent.F Rb
  dsimp only
  split
  ·rename_i a b
   have hz:=Ck b
   have:decide (At a=true/\At b=true/\Aq b<=0/\Aq b<=1000000/\Aq a<=1000000)=false:=dcF (by omega)
   rw [this]; rfl
  ·rfl
 | n+1,ihs=>by
  have ih:=ihs n (Nat.lt_succ_self n)
  refine A8 (kc func166 Aej (kc func128 ih KnowsL.nil)).knows (Λ:=(Ab [(4,G3 n)])) func128 (c:=f128.body.getD .skip) (by kernel_rfl) fun vs bs r hq hv hb=>?_
  unfold Ent.F Rb at hq
  dsimp only at hq
  split at hq
  ·rename_i a b
   obtain ⟨hc,hx⟩:=Ad hq
   obtain ⟨h1,h2,h3,h4,h5⟩:=of_decide_eq_true hc
   refine ⟨Aa9 n,(VR n a b).trans (Eq.trans ?_ hx)⟩
   show _=some _
   rw [YE]
   have hkb:=Cp b
   by_cases q1:a.lab.1=b.lab.1
   ·rw [Ac (bne_eq_false_iff_eq.2 q1)]
    by_cases q2:b.lab.2.2.2.2.1<a.lab.2.2.2.2.1
    ·rw [Ag (dcT q2),if_pos (.inr q2)]
    ·rw [Ac (dcF q2),if_neg (by rintro (h | h); exact h q1; exact q2 h),Aa (dcT ⟨by omega,by omega,rfl,h1,Io h2,fun h=>(Dn h2 (q1.symm.trans h)).1,by omega,by omega,h5⟩)]
     have e:F0 a b.kids 0=if b.lab.1=4 then Ph b.kids a.kids else Ep a.kids b.kids:=by
      unfold F0
      rw [q1,if_pos rfl,drop_zero]
     rw [e]
     cases (if b.lab.1=4 then Ph b.kids a.kids else Ep a.kids b.kids)<;>rfl
   ·rw [Ag (bne_iff_ne.2 q1),if_pos (.inl q1)]
  ·cases hq
theorem Y3 (n:Nat):Af prog 128 (Ent.rd1 (Rb n)).F:=Nat.strongRecOn n fun n h=>Y2 n h
theorem Pk (n:Nat) (x0:Int) (x1:List UInt8) (x2:Int) (x3:Bool) (x4:Int) (xs:List (Rose Lab)) (hxs:B9 5 xs=true) (ks:List (Rose Lab)) (hks:ks.all At=true) (hcn:A1 ks<=n) (hc6:A1 ks<=1000000) (hca:A1 xs<=1000000) : ∀ (j i:Nat),i+j=ks.length->∀ ex d,(Br.br (Ep xs (ks.drop i)) (.leaf (.exit 0,([],[]))) (.leaf (.ret,([.b false],[]))):Br (Ex×Dt)).run=some (ex,d)->Runs prog (QO n) (Ab [(6,G4 n)]) 0 (body f118 0) (G4 n) ([.ptr 0 0,.sl (.rose LCd) ks,.j (ks.length:Int),.j (i:Int)],[some (.box [.j x0,.s x1,.j x2,.b x3,.j x4,.sl (.rose LCd) xs])]) ex d
 | 0,i,hi,ex,d,h=>by
  have hr:=MC n x0 x1 x2 x3 x4 xs ks ks.length i
  rw [Ac (dcF (by omega))] at hr
  have e:Ep xs (ks.drop i)=true:=by rw [drop_eq_nil_of_le (by omega)]; rfl
  rw [IQ e] at h
  have h8:=Ao h
  obtain ⟨rfl,rfl⟩:=Prod.mk.inj h8
  exact .stop _ _ _ hr (by simp)
 | j+1,i,hi,ex,d,h=>by
  have hl:i<ks.length:=by omega
  have hM:maxI=9223372036854775807:=rfl
  have hr:=MC n x0 x1 x2 x3 x4 xs ks ks.length i
  try dsimp only [shr] at hr
  have hlen:=C6 ks
  have hlx:=C6 xs
  have W1:i64.wrap ((i:Int)+1)=((i+1:Nat):Int):=by rw [Aw (by omega) (by omega)]; omega
  have hd:=drop_eq_getElem_cons hl
  have hm:=getElem_mem hl
  have hrz:=all_eq_true.1 hks _ hm
  have hcz:=Cb hm
  have bad : ∀ {w},Av prog (QO n) (Ab [(6,G4 n)]) 0 (body f118 0) (G4 n) ([.ptr 0 0,.sl (.rose LCd) ks,.j (ks.length:Int),.j (i:Int)],[some (.box [.j x0,.s x1,.j x2,.b x3,.j x4,.sl (.rose LCd) xs])])=w->w=some ((.ret:Ex),(([.b false]:List V),([]:List (Option Blk))))->Ep xs (ks.drop i)=false->Runs prog (QO n) (Ab [(6,G4 n)]) 0 (body f118 0) (G4 n) ([.ptr 0 0,.sl (.rose LCd) ks,.j (ks.length:Int),.j (i:Int)],[some (.box [.j x0,.s x1,.j x2,.b x3,.j x4,.sl (.rose LCd) xs])]) ex d:=fun e1 e2 e3=>by
   rw [JH e3] at h
   have h8:=Ao h
   obtain ⟨rfl,rfl⟩:=Prod.mk.inj h8
   exact .stop _ _ _ (e1.trans e2) (by simp)
  have good : ∀ {w},Av prog (QO n) (Ab [(6,G4 n)]) 0 (body f118 0) (G4 n) ([.ptr 0 0,.sl (.rose LCd) ks,.j (ks.length:Int),.j (i:Int)],[some (.box [.j x0,.s x1,.j x2,.b x3,.j x4,.sl (.rose LCd) xs])])=w->w=some ((.normal:Ex),(([.ptr 0 0,.sl (.rose LCd) ks,.j (ks.length:Int),.j ((i+1:Nat):Int)],[some (.box [.j x0,.s x1,.j x2,.b x3,.j x4,.sl (.rose LCd) xs])]):Dt))->Ep xs (ks.drop i)=Ep xs (ks.drop (i+1))->Runs prog (QO n) (Ab [(6,G4 n)]) 0 (body f118 0) (G4 n) ([.ptr 0 0,.sl (.rose LCd) ks,.j (ks.length:Int),.j (i:Int)],[some (.box [.j x0,.s x1,.j x2,.b x3,.j x4,.sl (.rose LCd) xs])]) ex d:=fun e1 e2 e3=>
   .step _ _ _ _ (e1.trans e2) (Pk n x0 x1 x2 x3 x4 xs hxs ks hks hcn hc6 hca j (i+1) (by omega) ex d (by rw [<-e3]; exact h))
  rw [Ag (dcT (by omega)),Aa (by simp only [anE,dcE]; omega),ntN,gtE hl,Am,W1,Aa (dcT (by omega))] at hr
  simp only [BV] at hr
  have e0:Ep xs (ks.drop i)=((B8 ks[i].lab.2.2.1 xs&&((!ks[i].lab.2.2.2.1||(byR ks[i].lab.2.2.1 xs).lab.2.2.2.1)&&CJ ks[i] (byR ks[i].lab.2.2.1 xs)))&&Ep xs (ks.drop (i+1))):=by rw [hd,Ep]
  generalize ks[i]=p at hr e0 hrz hcz
  cases hn:B8 p.lab.2.2.1 xs with
  | false=>rw [hn] at hr e0; exact bad hr rfl (by rw [e0]; rfl)
  | true=>
   obtain ⟨bm,bn⟩:=Gf hn
   have hxr:=(BM hxs _ bm).2
   have hxc:=Cb bm
   rw [hn] at hr e0
   simp only [Be,Aa (dcT (show At (byR p.lab.2.2.1 xs)=true/\At p=true/\Aq p<=n/\Aq p<=1000000/\Aq (byR p.lab.2.2.1 xs)<=1000000 from ⟨hxr,hrz,by omega,by omega,by omega⟩))] at hr
   cases hmu:p.lab.2.2.2.1 with
   | true=>
    rw [hmu] at hr e0
    cases hmx:(byR p.lab.2.2.1 xs).lab.2.2.2.1 with
    | false=>rw [hmx] at hr e0; exact bad hr rfl (by rw [e0]; rfl)
    | true=>
     rw [hmx] at hr e0
     cases hs:CJ p (byR p.lab.2.2.1 xs) with
     | false=>rw [hs] at hr e0; exact bad hr rfl (by rw [e0]; rfl)
     | true=>rw [hs] at hr e0; exact good hr rfl (by rw [e0]; rfl)
   | false=>
    rw [hmu] at hr e0
    cases hs:CJ p (byR p.lab.2.2.1 xs) with
    | false=>rw [hs] at hr e0; exact bad hr rfl (by rw [e0]; rfl)
    | true=>rw [hs] at hr e0; exact good hr rfl (by rw [e0]; rfl)
theorem Abh (n:Nat):Ar prog (QO n) (Ab [(6,G4 n)]) 0 (f118.body.getD .skip):=by
 refine An (a:=body f118 0) (by kernel_rfl) fun d ex d' h=>?_
 unfold G4 at h
 dsimp only at h
 split at h
 ·rename_i ks c i x0 x1 x2 x3 x4 xs
  obtain ⟨hc,hx⟩:=Ad h
  obtain ⟨h0,h1,rfl,h3,h4,h6,h7,h8⟩:=of_decide_eq_true hc
  obtain ⟨i,rfl⟩:=eq_ofNat_of_zero_le h0
  simp only [ntN] at h1 hx
  exact Pk n x0 x1 x2 x3 x4 xs h3 ks h4 h6 h7 h8 (ks.length-i) i (by omega) ex d' hx
 ·cases h
theorem KA {z:Rose Lab} (h:At z=true) (h3:z.lab.1≠3):z.lab.2.2.2.2.1=0:=by
 obtain ⟨h1,_⟩:=CM h
 unfold Cm at h1
 by_cases a1:z.lab.1=1\/z.lab.1=2
 ·rw [if_pos a1,anE] at h1; simpa using h1.1
 ·rw [if_neg a1,if_neg h3] at h1
  by_cases a4:z.lab.1=4
  ·rw [if_pos a4,anE] at h1; simpa using h1.1
  ·rw [if_neg a4] at h1
   by_cases a5:z.lab.1≠5\/z.lab.2.2.2.2.1≠0
   ·rw [if_pos a5] at h1; cases h1
   ·omega
theorem Ul (x0:Int) (x1:List UInt8) (x2:Int) (x3:Bool) (x4:Int) (xs:List (Rose Lab)) (y0:Int) (y1:List UInt8) (y2:Int) (y3:Bool) (y4:Int) (ys:List (Rose Lab)):CJ (.node (y0,y1,y2,y3,y4,()) ys:Rose Lab) (.node (x0,x1,x2,x3,x4,()) xs:Rose Lab)=if x0≠y0\/y4<x4 then false else if y0=4 then Ph ys xs else Ep xs ys:=by rw [CJ]; rfl
theorem YF : ∀ n,(∀ m,m<n->Af prog 118 (Ent.rd1 (R8 m)).F)->Af prog 118 (Ent.rd1 (R8 n)).F
 | 0,_=>BD fun vs bs=>by
  unfold Ent.F R8
  dsimp only
  split
  ·rename_i x0 x1 x2 x3 x4 xs y0 y1 y2 y3 y4 ys
   have hz:=Ck (.node (y0,y1,y2,y3,y4,()) ys:Rose Lab)
   have:decide (At (.node (x0,x1,x2,x3,x4,()) xs:Rose Lab)=true/\At (.node (y0,y1,y2,y3,y4,()) ys:Rose Lab)=true/\Aq (.node (y0,y1,y2,y3,y4,()) ys:Rose Lab)<=0/\Aq (.node (y0,y1,y2,y3,y4,()) ys:Rose Lab)<=1000000/\Aq (.node (x0,x1,x2,x3,x4,()) xs:Rose Lab)<=1000000)=false:=dcF (by omega)
   rw [this]; rfl
  ·rfl
 | n+1,ihs=>by
  have ih:=ihs n (Nat.lt_succ_self n)
  refine A8 (kc func159 Aeh (kc func118 ih KnowsL.nil)).knows (Λ:=(Ab [(6,G4 n)])) func118 (c:=f118.body.getD .skip) (by kernel_rfl) fun vs bs r hq hv hb=>?_
  unfold Ent.F R8 at hq
  dsimp only at hq
  split at hq
  ·rename_i x0 x1 x2 x3 x4 xs y0 y1 y2 y3 y4 ys
   obtain ⟨hc,hx⟩:=Ad hq
   obtain ⟨h1,h2,h3,h4,h5⟩:=of_decide_eq_true hc
   refine ⟨Abh n,(Wp n x0 x1 x2 x3 x4 xs y0 y1 y2 y3 y4 ys).trans (Eq.trans ?_ hx)⟩
   try dsimp only [shr]
   show _=some _
   rw [Ul]
   have hkb:Aq (.node (y0,y1,y2,y3,y4,()) ys:Rose Lab)=A1 ys+1:=Cp _
   have hka:Aq (.node (x0,x1,x2,x3,x4,()) xs:Rose Lab)=A1 xs+1:=Cp _
   have m1:=KA h1
   have m2:=KA h2
   have l1:=Dn h1
   have l2:=Dn h2
   have w1:=Gk h1
   dsimp only [Rose.lab,Rose.kids] at m1 m2 l1 l2 w1
   simp only [BV,drop_zero]
   by_cases q1:x0=y0
   ·subst q1
    rw [Ac (bne_eq_false_iff_eq.2 rfl)]
    by_cases q4:x0=4
    ·obtain ⟨k1,k2⟩:=l1 q4
     obtain ⟨k3,k4⟩:=l2 q4
     rw [if_neg (by rintro (h | h); exact h rfl; have:=m1 (by omega); have:=m2 (by omega); omega),if_pos q4,Ac (beq_eq_false_iff_ne.2 (by omega)),Ag (beq_iff_eq.2 q4)]
     match xs,k1,ys,k3 with
     | [x],_,[y],_=>
      have e1:A1 [x]=Aq x:=by rw [A1,A1]; rfl
      have e2:A1 [y]=Aq y:=by rw [A1,A1]; rfl
      rw [Aa (by rfl),show [x][0]? = some x from rfl,Am,Aa (by rfl),show [y][0]? = some y from rfl,Am]
      try simp only [BV]
      rw [Aa (dcT ⟨by simpa using k2,by simpa using k4,by omega,by omega,by omega⟩),Ph]
      rfl
    ·by_cases q3:x0=3
     ·rw [Ag (beq_iff_eq.2 q3)]
      by_cases q5:y4<x4
      ·rw [Ag (dcT q5),if_pos (.inr q5)]
      ·rw [Ac (dcF q5),if_neg (by rintro (h | h); exact h rfl; exact q5 h),if_neg q4,Ac (beq_eq_false_iff_ne.2 q4)]
       rw [Aa (dcT ⟨by omega,by omega,by first | trivial | rfl,w1 q4,Io h2,by omega,by omega,by omega⟩)]
       cases Ep xs ys<;>rfl
     ·rw [Ac (beq_eq_false_iff_ne.2 q3),if_neg (by rintro (h | h); exact h rfl; have:=m1 q3; have:=m2 q3; omega),if_neg q4,Ac (beq_eq_false_iff_ne.2 q4)]
      rw [Aa (dcT ⟨by omega,by omega,by first | trivial | rfl,w1 q4,Io h2,by omega,by omega,by omega⟩)]
      cases Ep xs ys<;>rfl
   ·rw [Ag (bne_iff_ne.2 q1),if_pos (.inl q1)]
  ·cases hq
theorem YG (n:Nat):Af prog 118 (Ent.rd1 (R8 n)).F:=Nat.strongRecOn n fun n h=>YF n h
abbrev Wt:=Int×Int×Int×List UInt8×Int×Int×Unit
def Hy (k n:Int) (s:List UInt8):Bool:=if 1<=k/\k<=3 then Dy n&&s==[] else if k=4 then n==0&&s==[] else if k=5 then n==0&&decide (s.length<=30) else false
def Di (w:Wt) (i:Int):Bool:=
 if w.1=6\/w.1=7 then decide (w.2.1=0/\w.2.2.1=0/\w.2.2.2.1=[]/\0<=w.2.2.2.2.1/\w.2.2.2.2.1<w.2.2.2.2.2.1/\w.2.2.2.2.2.1<i)
 else if w.1=8 then decide (w.2.1=0/\w.2.2.1=0/\w.2.2.2.1=[]/\0<=w.2.2.2.2.1/\w.2.2.2.2.1<i/\w.2.2.2.2.2.1=0)
 else decide (1<=w.2.1/\w.2.1<=30)&&Hy w.1 w.2.2.1 w.2.2.2.1&&decide (w.2.2.2.2.1=0/\w.2.2.2.2.2.1=0)
def HM (u:List Int) (k:Nat):List Int:=u.set k (u.getD k 0+1)
def Kd (w:Wt) (u:List Int):List Int:=if w.1=6\/w.1=7 then HM (HM u w.2.2.2.2.1.toNat) w.2.2.2.2.2.1.toNat else if w.1=8 then HM u w.2.2.2.2.1.toNat else u
def wgo:Nat->List Wt->List Int->Option (List Int)
 | _,[],u=>some u
 | i,w::l,u=>if Di w (i:Int)=true then wgo (i+1) l (Kd w u) else none
def H6 (u:List Int):Bool:=u.all fun x=>x==1
def DY (l:List Wt):Bool:=decide (1<=l.length/\l.length<=20)&&(match wgo 0 l (replicate l.length 0) with | some u=>H6 (u.take (l.length-1)) | none=>false)
def VP:Gm
 | [.agg [.i .i64 w0,.i .i64 w1,.i .i64 w2,.s w3,.i .i64 w4,.i .i64 w5],.i .i64 i],[]=>.leaf (.b (Di (w0,w1,w2,w3,w4,w5,()) i),[])
 | _,_=>.no
def IC:Gm
 | [.agg [.sl WCd l]],[]=>.leaf (.b (DY l),[])
 | _,_=>.no
def ID:LoopEnt:=⟨62,[3,4,18,19,20],[3,4],[2],fun
 | ([.i .i64 n,.ref 0 0 m,.sl WCd l,.i .i64 k,.i .i64 i],[some (.row false none (.int .i64) u)])=>.need (decide (0<=i/\i.toNat<=l.length/\k=l.length/\m=l.length/\u.length=l.length/\l.length<=20/\(∀ x∈u,0<=x/\x<=2*i))) (.br (wgo i.toNat (l.drop i.toNat) u).isSome (.leaf (.exit 0,([.i .i64 n,.ref 0 0 ((wgo i.toNat (l.drop i.toNat) u).getD []).length],[some (.row false none (.int .i64) ((wgo i.toNat (l.drop i.toNat) u).getD []))]))) (.leaf (.ret,([.b false],[]))))
 | _=>.no⟩
def JF:LoopEnt:=⟨62,[53,54,55],[],[2],fun
 | ([.ref 0 0 m,.i .i64 k,.i .i64 i],[some (.row false none (.int .i64) u)])=>.need (decide (0<=i/\i.toNat<=m/\k=m/\m<=u.length/\u.length<=20)) (.br (H6 ((u.take m).drop i.toNat)) (.leaf (.exit 2,([],[]))) (.leaf (.ret,([.b false],[]))))
 | _=>.no⟩
theorem Acy {c x y:Bool}:ifB c (some (V.b x,([]:List (Option Blk)))) (some (V.b y,[]))=some (V.b (bif c then x else y),[]):=by cases c<;>rfl
theorem LQ {c x y:Bool}:((bif c then x else y)=true)↔((c=true/\x=true)\/(c=false/\y=true)):=by cases c<;>simp
theorem Tt {α:Type} [BEq α] [LawfulBEq α] (l:List α):(l==[])=decide (l.length=0):=by cases l<;>simp
theorem R7 (w0 w1 w2:Int) (w3:List UInt8) (w4 w5:Int) (i:Int):Ax prog (Ab [(115,.rd1 A3),(196,.rd1 Fq)]) (Ab []) f158 [.agg [.j w0,.j w1,.j w2,.s w3,.j w4,.j w5],.j i] [] =
 ((ifB (!decide ((1:Int)<=w0/\w0<=(5:Int))==(w1 != (0:Int))) (some (V.b false,[])) (ifB (!decide ((0:Int)<=w1/\w1<=(30:Int))) (some (V.b false,[])) (ifB
 (decide ((↑w3.length:Int)>(30:Int))) (some (V.b false,[])) (ifB (!Dy w2) (some (V.b false,[])) (ifB (decide (w0>(3:Int))) (ifB (w2 != (0:Int)) (some (V.b
 false,[])) (ifB (w0 != (5:Int)) (ifB (!w3==Aj UInt8) (some (V.b false,[])) (ifB (decide ((1:Int)<=w0/\w0<=(5:Int))) (ifB (w4==(0:Int)) (some (V.b (w5
 == (0:Int)),[])) (some (V.b false,[]))) (ifB (w0==(8:Int)) (ifB (decide (w4>=(0:Int))) (ifB (decide (w4<i)) (some (V.b (w5==(0:Int)),[])) (some (V.b
 false,[]))) (some (V.b false,[]))) (ifB (decide ((6:Int)<=w0/\w0<=(7:Int))) (ifB (decide (w4>=(0:Int))) (ifB (decide (w4<w5)) (some (V.b (decide (w5<i)),
 [])) (some (V.b false,[]))) (some (V.b false,[]))) (some (V.b false,[])))))) (ifB (decide ((1:Int)<=w0/\w0<=(5:Int))) (ifB (w4==(0:Int)) (some (V.b (w5==
 (0:Int)),[])) (some (V.b false,[]))) (ifB (w0==(8:Int)) (ifB (decide (w4>=(0:Int))) (ifB (decide (w4<i)) (some (V.b (w5==(0:Int)),[])) (some (V.b false,
 []))) (some (V.b false,[]))) (ifB (decide ((6:Int)<=w0/\w0<=(7:Int))) (ifB (decide (w4>=(0:Int))) (ifB (decide (w4<w5)) (some (V.b (decide (w5<i)),[]))
 (some (V.b false,[]))) (some (V.b false,[]))) (some (V.b false,[]))))))) (ifB (w0 != (5:Int)) (ifB (!w3==Aj UInt8) (some (V.b false,[])) (ifB (decide ((1:Int)
 <= w0/\w0<=(5:Int))) (ifB (w4==(0:Int)) (some (V.b (w5==(0:Int)),[])) (some (V.b false,[]))) (ifB (w0==(8:Int)) (ifB (decide (w4>=(0:Int))) (ifB
 (decide (w4<i)) (some (V.b (w5==(0:Int)),[])) (some (V.b false,[]))) (some (V.b false,[]))) (ifB (decide ((6:Int)<=w0/\w0<=(7:Int))) (ifB (decide (w4>=(0
 : Int))) (ifB (decide (w4<w5)) (some (V.b (decide (w5<i)),[])) (some (V.b false,[]))) (some (V.b false,[]))) (some (V.b false,[])))))) (ifB (decide ((1:Int)<=
 w0/\w0<=(5:Int))) (ifB (w4==(0:Int)) (some (V.b (w5==(0:Int)),[])) (some (V.b false,[]))) (ifB (w0==(8:Int)) (ifB (decide (w4>=(0:Int))) (ifB (decide
 (w4<i)) (some (V.b (w5==(0:Int)),[])) (some (V.b false,[]))) (some (V.b false,[]))) (ifB (decide ((6:Int)<=w0/\w0<=(7:Int))) (ifB (decide (w4>=(0 :
 Int))) (ifB (decide (w4<w5)) (some (V.b (decide (w5<i)),[])) (some (V.b false,[]))) (some (V.b false,[]))) (some (V.b false,[]))))))))))):_):=by kernel_rfl
theorem Uj (w0 w1 w2:Int) (w3:List UInt8) (w4 w5:Int) (i:Int):Ax prog (Ab [(115,.rd1 A3),(196,.rd1 Fq)]) (Ab []) f158 [.agg [.j w0,.j w1,.j w2,.s w3,.j w4,.j w5],.j i] []=(.leaf (.b (Di (w0,w1,w2,w3,w4,w5,()) i),[]):Br (V×List (Option Blk))).run:=by
 rw [R7]
 have e3:(w3==Aj UInt8)=decide (w3.length=0):=Tt w3
 have e4:(w3==[])=decide (w3.length=0):=Tt w3
 have e5:(w3=[])↔w3.length=0:=List.length_eq_zero_iff.symm
 simp only [Acy,e3]
 refine congrArg (fun b=>some (V.b b,([]:List (Option Blk)))) ?_
 unfold Di Hy Dy
 dsimp only
 simp only [e4,e5]
 generalize w3.length=n
 rw [Bool.eq_iff_iff]
 have hk:w0=1\/w0=2\/w0=3\/w0=4\/w0=5\/w0=6\/w0=7\/w0=8\/w0<1\/8<w0:=by omega
 rcases hk with rfl | rfl | rfl | rfl | rfl | rfl | rfl | rfl | hk | hk
 iterate 8
  ·simp
   try omega
 ·have f1 : ¬(1<=w0/\w0<=5):=by omega
  have f2 : ¬w0=8:=by omega
  have f3 : ¬(6<=w0/\w0<=7):=by omega
  have f4 : ¬(w0=6\/w0=7):=by omega
  have f5 : ¬(1<=w0/\w0<=3):=by omega
  have f6 : ¬w0=4:=by omega
  have f7 : ¬w0=5:=by omega
  rw [if_neg f4,if_neg f2,if_neg f5,if_neg f6,if_neg f7,dcF f1,dcF f3]
  simp [f2,f7]
 ·have f1 : ¬(1<=w0/\w0<=5):=by omega
  have f2 : ¬w0=8:=by omega
  have f3 : ¬(6<=w0/\w0<=7):=by omega
  have f4 : ¬(w0=6\/w0=7):=by omega
  have f5 : ¬(1<=w0/\w0<=3):=by omega
  have f6 : ¬w0=4:=by omega
  have f7 : ¬w0=5:=by omega
  rw [if_neg f4,if_neg f2,if_neg f5,if_neg f6,if_neg f7,dcF f1,dcF f3]
  simp [f2,f7]
theorem Ads:Af prog 158 (Ent.rd1 VP).F:=by
 refine Ae (kc func115 JD (kc func196 Xv KnowsL.nil)).knows (Λ:=Ab []) func158 (c:=f158.body.getD .skip) (by kernel_rfl) fun vs bs r' hq hv hb=>?_
 unfold Ent.F VP at hq
 dsimp only at hq
 split at hq
 ·rename_i w0 w1 w2 w3 w4 w5 i
  exact ⟨Ak _,(Uj w0 w1 w2 w3 w4 w5 i).trans hq⟩
 ·cases hq
abbrev SZ:FuncId->Option Ent:=Ab [(115,.rd1 A3),(158,.rd1 VP)]
theorem Nu (n:Int) (m:Nat) (l:List Wt) (k i:Int) (u:List Int):Av prog SZ (Ab [(6,ID),(16,JF)]) 0 (body f117 0) ID ([.j n,.ref 0 0 m,.sl WCd l,.j k,.j i],[some (.row false none (.int .i64) u)]) =
 ((ifB (decide (i<k)) (ifT (decide ((0:Int)<=i)&&decide (i<(↑l.length:Int))) (Ai l[i.toNat]? fun z=>ifB (!Di (z.fst,z.snd.fst,z.snd.snd.fst,
 z.snd.snd.snd.fst,z.snd.snd.snd.snd.fst,z.snd.snd.snd.snd.snd.fst,()) i) (some (Ex.ret,[V.b false],[])) (ifB (decide (z.fst>=(6:Int))) (ifT (decide ((0:Int)<=
 z.snd.snd.snd.snd.fst)&&decide (z.snd.snd.snd.snd.fst<(↑m:Int))) (Ai u[0+toNat z.snd.snd.snd.snd.fst]? fun z_1=>ifT (decide ((0:Int)<=
 z.snd.snd.snd.snd.fst)&&decide (z.snd.snd.snd.snd.fst<(↑m:Int))) (Ai u[0+toNat z.snd.snd.snd.snd.fst]? fun _=>ifB (decide ((6:Int)<=z.fst/\
 z.fst<=(7:Int))) (ifT (decide ((0:Int)<=z.snd.snd.snd.snd.snd.fst)&&decide (z.snd.snd.snd.snd.snd.fst<(↑m:Int))) (Ai (u.set (0+toNat
 z.snd.snd.snd.snd.fst) (i64.wrap (z_1+(1:Int))))[0+toNat z.snd.snd.snd.snd.snd.fst]? fun z_3=>ifT (decide ((0:Int)<=
 z.snd.snd.snd.snd.snd.fst)&&decide (z.snd.snd.snd.snd.snd.fst<(↑m:Int))) (Ai (u.set (0+toNat z.snd.snd.snd.snd.fst) (i64.wrap (z_1+(1 :
 Int))))[0+toNat z.snd.snd.snd.snd.snd.fst]? fun _=>some (Ex.normal,[V.j n,V.ref 0 0 m,V.sl WCd l,V.j k,V.j (i64.wrap (i+(1
 : Int)))],[some (Blk.row false none (Cd.int .i64) ((u.set (0+toNat z.snd.snd.snd.snd.fst) (i64.wrap (z_1+(1:Int)))).set (0+toNat
 z.snd.snd.snd.snd.snd.fst) (i64.wrap (z_3+(1:Int)))))])))) (some (Ex.normal,[V.j n,V.ref 0 0 m,V.sl WCd l,V.j k,V.j (i64.wrap (i +
 (1:Int)))],[some (Blk.row false none (Cd.int .i64) (u.set (0+toNat z.snd.snd.snd.snd.fst) (i64.wrap (z_1+(1:Int)))))]))))) (ifB (decide ((6 :
 Int)<=z.fst/\z.fst<=(7:Int))) (ifT (decide ((0:Int)<=z.snd.snd.snd.snd.snd.fst)&&decide (z.snd.snd.snd.snd.snd.fst<(↑m:Int))) (Ai u[0 +
 toNat z.snd.snd.snd.snd.snd.fst]? fun z_1=>ifT (decide ((0:Int)<=z.snd.snd.snd.snd.snd.fst)&&decide (z.snd.snd.snd.snd.snd.fst<(↑m:Int))) (Ai u[(0 :
 Nat)+toNat z.snd.snd.snd.snd.snd.fst]? fun _=>some (Ex.normal,[V.j n,V.ref 0 0 m,V.sl WCd l,V.j k,V.j (i64.wrap (i+(1:Int)))],
 [some (Blk.row false none (Cd.int .i64) (u.set (0+toNat z.snd.snd.snd.snd.snd.fst) (i64.wrap (z_1+(1:Int)))))])))) (some (Ex.normal,[V.i .i64
 n,V.ref 0 0 m,V.sl WCd l,V.j k,V.j (i64.wrap (i+(1:Int)))],[some (Blk.row false none (Cd.int .i64) u)])))))) (some (Ex.exit 0,[V.j n,
 V.ref 0 0 m],[some (Blk.row false none (Cd.int .i64) u)]))):_):=by kernel_rfl
theorem Ns (m:Nat) (k i:Int) (u:List Int):Av prog SZ (Ab [(6,ID),(16,JF)]) 0 (body f117 1) JF ([.ref 0 0 m,.j k,.j i],[some (.row false none (.int .i64) u)]) =
 ((ifB (decide (i<k)) (ifT (decide ((0:Int)<=i)&&decide (i<(↑m:Int))) (Ai u[0+i.toNat]? fun z=>ifB (z != (1:Int)) (some (Ex.ret,[V.b false],
 [])) (some (Ex.normal,[V.ref 0 0 m,V.j k,V.j (i64.wrap (i+(1:Int)))],[some (Blk.row false none (Cd.int .i64) u)])))) (some (Ex.exit 2,[],[]))):_):=by kernel_rfl
theorem ZB (l:List Wt):Ax prog SZ (Ab [(6,ID),(16,JF)]) f117 [.agg [.sl WCd l]] [] =
 ((ifB (!decide ((1:Int)<=(↑l.length:Int)/\(↑l.length:Int)<=(20:Int))) (some (V.b false,[])) (ifT (decide ((0:Int)<=(↑l.length:Int))&&decide ((↑l.length :
 Int)<=(↑l.length:Int))&&decide ((↑l.length:Int)*(↑(8:Nat):Int)<=(140737488355328:Int))&&decide ((↑l.length:Int)<=(9223372036854775807:Int))) (ifT
 (decide ((0:Int)<=(0:Int)/\0<=l.length/\(↑l.length:Int)=(↑l.length:Int)/\(↑l.length:Int).toNat=l.length/\(replicate (↑l.length :
 Int).toNat (0:Int)).length=l.length/\l.length<=20/\∀ (x:(Cd.int .i64).den),x∈replicate (↑l.length:Int).toNat (0:Int)->(0:(Cd.int
 .i64).den)<=x/\x<=(0:Int))) (ifB (wgo 0 (drop 0 l) (replicate (↑l.length:Int).toNat (0:Int))).isSome (ifT (decide ((0:Int)<=
 i64.wrap ((↑l.length:Int)-(1:Int)))&&decide (i64.wrap ((↑l.length:Int)-(1:Int))<=(↑(((wgo 0 (drop 0 l) (replicate
 (↑l.length:Int).toNat (0:Int))).getD (Aj Int)).length-0):Int))) (ifT (decide ((0:Int)<=(0:Int)/\0<=(i64.wrap ((↑l.length:Int) -
 (1:Int))).toNat-0/\(↑((i64.wrap ((↑l.length:Int)-(1:Int))).toNat-0):Int)=(↑((i64.wrap ((↑l.length:Int)-(1 :
 Int))).toNat-0):Int)/\(i64.wrap ((↑l.length:Int)-(1:Int))).toNat-0<=((wgo 0 (drop 0 l) (replicate
 (↑l.length:Int).toNat (0:Int))).getD (Aj Int)).length/\((wgo 0 (drop 0 l) (replicate (↑l.length:Int).toNat (0:Int))).getD (Aj
 Int)).length<=20)) (ifB (H6 (drop 0 (take ((i64.wrap ((↑l.length:Int)-(1:Int))).toNat-0) ((wgo 0 (drop
 0 l) (replicate (↑l.length:Int).toNat (0:Int))).getD (Aj Int))))) (some (V.b true,[])) (some (V.b false,[]))))) (some (V.b false,[])))))):_):=by kernel_rfl
theorem Kb {w:Wt} {i:Int} (h:Di w i=true):(w.1=6\/w.1=7->0<=w.2.2.2.2.1/\w.2.2.2.2.1<w.2.2.2.2.2.1/\w.2.2.2.2.2.1<i)/\(w.1=8->0<=w.2.2.2.2.1/\w.2.2.2.2.1<i)/\(w.1<=8):=by
 unfold Di at h
 split at h
 ·rename_i hk
  have h:=of_decide_eq_true h
  exact ⟨fun _=>h.2.2.2,fun e=>by omega,by omega⟩
 ·rename_i hk
  split at h
  ·have h:=of_decide_eq_true h
   exact ⟨fun e=>absurd e hk,fun _=>⟨h.2.2.2.1,h.2.2.2.2.1⟩,by omega⟩
  ·rename_i hk2
   refine ⟨fun e=>absurd e hk,fun e=>absurd e hk2,?_⟩
   simp only [anE] at h
   have:=h.1.2
   unfold Hy at this
   split at this
   ·omega
   ·split at this
    ·omega
    ·split at this
     ·omega
     ·cases this
theorem E2 (u:List Int) (k:Nat):(HM u k).length=u.length:=by unfold HM; simp
theorem HL {u:List Int} {k:Nat} {b:Int} (h : ∀ x∈u,0<=x/\x<=b) (hk:k<u.length) : ∀ x∈HM u k,0<=x/\x<=b+1:=by
 intro x hx
 unfold HM at hx
 rcases List.mem_or_eq_of_mem_set hx with hx | rfl
 ·have:=h x hx; omega
 ·have e:u.getD k 0=u[k]:=by simp [hk]
  rw [e]
  have:=h _ (getElem_mem hk)
  omega
theorem NN {w:Wt} {i:Int} {u:List Int} (h:Di w i=true) (hi:i<=u.length) (hu : ∀ x∈u,0<=x/\x<=2*i):(Kd w u).length=u.length/\∀ x∈Kd w u,0<=x/\x<=2*(i+1):=by
 obtain ⟨h1,h2,_⟩:=Kb h
 unfold Kd
 split
 ·rename_i hk
  have:=h1 hk
  refine ⟨by rw [E2,E2],?_⟩
  have a:=HL (HL hu (k:=w.2.2.2.2.1.toNat) (by omega)) (k:=w.2.2.2.2.2.1.toNat) (by rw [E2]; omega)
  exact fun x hx=>by have:=a x hx; omega
 ·split
  ·rename_i hk
   have:=h2 hk
   refine ⟨by rw [E2],?_⟩
   have a:=HL hu (k:=w.2.2.2.2.1.toNat) (by omega)
   exact fun x hx=>by have:=a x hx; omega
  ·exact ⟨rfl,fun x hx=>by have:=hu x hx; omega⟩
theorem ZC (n:Int) (l:List Wt) (i:Nat) (u:List Int) (hi:i<l.length) (hul:u.length=l.length) (hl:l.length<=20) (hu : ∀ x∈u,0<=x/\x<=2*(i:Int)) :
  Av prog SZ (Ab [(6,ID),(16,JF)]) 0 (body f117 0) ID ([.j n,.ref 0 0 l.length,.sl WCd l,.j (l.length:Int),.j (i:Int)],[some (.row false none (.int .i64) u)])=if Di l[i] (i:Int)=true then some (.normal,([.j n,.ref 0 0 l.length,.sl WCd l,.j (l.length:Int),.j ((i+1:Nat):Int)],[some (.row false none (.int .i64) (Kd l[i] u))])) else some (.ret,([.b false],[])):=by
 rw [Nu]
 have hM:maxI=9223372036854775807:=rfl
 rw [Ag (dcT (by omega)),Aa (by simp only [anE,dcE]; omega),ntN,gtE hi,Am,Ap (n:=i) (by omega)]
 generalize hw:l[i]=w
 obtain ⟨w0,w1,w2,w3,w4,w5,⟨⟩⟩:=w
 dsimp only
 cases hb:Di (w0,w1,w2,w3,w4,w5,()) (i:Int) with
 | false=>rfl
 | true=>
  obtain ⟨h1,h2,h3⟩:=Kb hb
  dsimp only at h1 h2 h3
  rw [Bool.not_true,AS,if_pos rfl]
  simp only [zero_add]
  unfold Kd HM
  dsimp only
  have wr : ∀ {x:Int},0<=x->x<=100->i64.wrap (x+1)=x+1:=fun h h'=>Aw (by omega) (by omega)
  have at' : ∀ {v:List Int} {k:Nat} (hk:k<v.length),v.getD k 0=v[k]:=fun hk=>by simp [hk]
  by_cases q6:w0=6\/w0=7
  ·obtain ⟨a1,a2,a3⟩:=h1 q6
   have k4:w4.toNat<u.length:=by omega
   have u4:=hu _ (getElem_mem k4)
   have k5:w5.toNat<(u.set w4.toNat (u[w4.toNat]+1)).length:=by rw [List.length_set]; omega
   have u5:=HL hu k4 ((u.set w4.toNat (u[w4.toNat]+1))[w5.toNat]) (by unfold HM; rw [at' k4]; exact getElem_mem k5)
   rw [if_pos q6,Ag (dcT (by omega)),Aa (by simp only [anE,dcE]; omega),gtE k4,Am,Aa (by simp only [anE,dcE]; omega),Am,Ag (dcT (by omega)),Aa (by simp only [anE,dcE]; omega),wr (by omega) (by omega),gtE k5,Am,Aa (by simp only [anE,dcE]; omega),Am,wr (by omega) (by omega),at' k4,at' k5]
  ·rw [if_neg q6]
   by_cases q8:w0=8
   ·obtain ⟨a1,a2⟩:=h2 q8
    have k4:w4.toNat<u.length:=by omega
    have u4:=hu _ (getElem_mem k4)
    rw [if_pos q8,Ag (dcT (by omega)),Aa (by simp only [anE,dcE]; omega),gtE k4,Am,Aa (by simp only [anE,dcE]; omega),Am,Ac (dcF (by omega)),wr (by omega) (by omega),at' k4]
   ·rw [if_neg q8,Ac (dcF (by omega)),Ac (dcF (by omega))]
theorem Qu (n:Int) (l:List Wt) (hl:l.length<=20) : ∀ (j i:Nat) (u:List Int),i+j=l.length->u.length=l.length->(∀ x∈u,0<=x/\x<=2*(i:Int))->∀ ex d,(Br.br (wgo i (l.drop i) u).isSome (.leaf (.exit 0,([.j n,.ref 0 0 ((wgo i (l.drop i) u).getD []).length],[some (.row false none (.int .i64) ((wgo i (l.drop i) u).getD []))]))) (.leaf (.ret,([.b false],[]))):Br (Ex×Dt)).run=some (ex,d)->
  Runs prog SZ (Ab [(6,ID),(16,JF)]) 0 (body f117 0) ID ([.j n,.ref 0 0 l.length,.sl WCd l,.j (l.length:Int),.j (i:Int)],[some (.row false none (.int .i64) u)]) ex d
 | 0,i,u,hi,hul,hu,ex,d,h=>by
  have hr:=Nu n l.length l l.length i u
  rw [Ac (dcF (by omega))] at hr
  rw [drop_eq_nil_of_le (by omega),wgo] at h
  have h8:=Ao (show (Br.leaf (.exit 0,([.j n,.ref 0 0 u.length],[some (.row false none (.int .i64) u)])):Br (Ex×Dt)).run=some (ex,d) from h)
  obtain ⟨rfl,rfl⟩:=Prod.mk.inj h8
  rw [hul]
  exact .stop _ _ _ hr (by simp)
 | j+1,i,u,hi,hul,hu,ex,d,h=>by
  have hlt:i<l.length:=by omega
  have hr:=ZC n l i u hlt hul hl hu
  rw [drop_eq_getElem_cons hlt,wgo] at h
  by_cases q:Di l[i] (i:Int)=true
  ·rw [if_pos q] at hr h
   obtain ⟨g1,g2⟩:=NN q (by omega) hu
   exact .step _ _ _ _ hr (Qu n l hl j (i+1) (Kd l[i] u) (by omega) (g1.trans hul) (by push_cast; exact g2) ex d h)
  ·rw [if_neg q] at hr h
   have h8:=Ao (show (Br.leaf (.ret,([.b false],[])):Br (Ex×Dt)).run=some (ex,d) from h)
   obtain ⟨rfl,rfl⟩:=Prod.mk.inj h8
   exact .stop _ _ _ hr (by simp)
theorem Qt (m:Nat) (u:List Int) (hm:m<=u.length) (hu:u.length<=20) : ∀ (j i:Nat),i+j=m->∀ ex d,(Br.br (H6 ((u.take m).drop i)) (.leaf (.exit 2,([],[]))) (.leaf (.ret,([.b false],[]))):Br (Ex×Dt)).run=some (ex,d)->
  Runs prog SZ (Ab [(6,ID),(16,JF)]) 0 (body f117 1) JF ([.ref 0 0 m,.j (m:Int),.j (i:Int)],[some (.row false none (.int .i64) u)]) ex d
 | 0,i,hi,ex,d,h=>by
  have hr:=Ns m m i u
  rw [Ac (dcF (by omega))] at hr
  rw [drop_eq_nil_of_le (by simp; omega)] at h
  have h8:=Ao (show (Br.leaf (.exit 2,([],[])):Br (Ex×Dt)).run=some (ex,d) from h)
  obtain ⟨rfl,rfl⟩:=Prod.mk.inj h8
  exact .stop _ _ _ hr (by simp)
 | j+1,i,hi,ex,d,h=>by
  have hM:maxI=9223372036854775807:=rfl
  have hlt:i<u.length:=by omega
  have hr:=Ns m m i u
  rw [Ag (dcT (by omega)),Aa (by simp only [anE,dcE]; omega),ntN,zero_add,gtE hlt,Am,Ap (n:=i) (by omega)] at hr
  have hd:(u.take m).drop i=u[i]::(u.take m).drop (i+1):=by
   rw [drop_eq_getElem_cons (by simp; omega)]
   simp
  have ec:H6 ((u.take m).drop i)=(u[i]==1&&H6 ((u.take m).drop (i+1))):=by rw [hd]; rfl
  rw [ec] at h
  by_cases q:u[i]=1
  ·rw [q] at hr h
   rw [Ac (by rfl)] at hr
   exact .step _ _ _ _ hr (Qt m u hm hu j (i+1) (by omega) ex d h)
  ·rw [Ag (by simpa using q)] at hr
   rw [beq_false_of_ne q,Bool.false_and] at h
   have h8:=Ao (show (Br.leaf (.ret,([.b false],[])):Br (Ex×Dt)).run=some (ex,d) from h)
   obtain ⟨rfl,rfl⟩:=Prod.mk.inj h8
   exact .stop _ _ _ hr (by simp)
theorem Ae1:Ar prog SZ (Ab [(6,ID),(16,JF)]) 0 (f117.body.getD .skip):=by
 refine LoopsI.loops (cs:=[body f117 0,body f117 1]) ?_ (by kernel_rfl)
 refine .cons (ent:=ID) (by rfl) (fun d ex d' h=>?_) (.cons (ent:=JF) (by rfl) (fun d ex d' h=>?_) .nil)
 ·unfold ID at h
  dsimp only at h
  split at h
  ·rename_i n m l k i u
   obtain ⟨hc,hx⟩:=Ad h
   clear h
   obtain ⟨h0,h1,rfl,rfl,h4,h5,h6⟩:=of_decide_eq_true hc
   obtain ⟨i,rfl⟩:=eq_ofNat_of_zero_le h0
   simp only [ntN] at h1 hx
   exact Qu n l h5 (l.length-i) i u (by omega) h4 h6 ex d' hx
  ·cases h
 ·unfold JF at h
  dsimp only at h
  split at h
  ·rename_i m k i u
   obtain ⟨hc,hx⟩:=Ad h
   clear h
   obtain ⟨h0,h1,rfl,h4,h5⟩:=of_decide_eq_true hc
   obtain ⟨i,rfl⟩:=eq_ofNat_of_zero_le h0
   simp only [ntN] at h1 hx
   exact Qt m u h4 h5 (m-i) i (by omega) ex d' hx
  ·cases h
theorem NL : ∀ (l:List Wt) (i:Nat) (u:List Int) {v:List Int},i+l.length<=u.length->(∀ x∈u,0<=x/\x<=2*(i:Int))->wgo i l u=some v->v.length=u.length
 | [],i,u,v,hl,hu,h=>by rw [wgo] at h; cases h; rfl
 | w::l,i,u,v,hl,hu,h=>by
  rw [wgo] at h
  split at h
  ·rename_i q
   rw [length_cons] at hl
   obtain ⟨g1,g2⟩:=NN q (by omega) hu
   rw [NL l (i+1) _ (by omega) (by push_cast; exact g2) h,g1]
  ·cases h
theorem Abk:Af prog 117 (Ent.rd1 IC).F:=by
 refine Ae (kc func115 JD (kc func158 Ads KnowsL.nil)).knows (Λ:=(Ab [(6,ID),(16,JF)])) func117 (c:=f117.body.getD .skip) (by kernel_rfl) fun vs bs r hq hv hb=>?_
 unfold Ent.F IC at hq
 dsimp only at hq
 split at hq
 ·rename_i l
  refine ⟨Ae1,Eq.trans ?_ hq⟩
  rw [ZB]
  unfold DY
  by_cases q:1<=l.length/\l.length<=20
  rotate_left
  ·rw [Ag (by rw [dcF (by omega)]; rfl),dcF q]; rfl
  have hz : ∀ x∈replicate l.length (0:Int),0<=x/\x<=2*((0:Nat):Int):=fun x hx=>by
   have:=List.eq_of_mem_replicate hx
   omega
  have hz0 : ∀ x∈replicate l.length (0:Int),0<=x/\x<=0:=fun x hx=>by
   have:=List.eq_of_mem_replicate hx
   omega
  have w1:i64.wrap ((l.length:Int)-1)=((l.length-1:Nat):Int):=by rw [Aw (by omega) (by omega)]; omega
  simp only [ntN,drop_zero,w1,sub_zero,AN]
  rw [dcT q,Ac (by rw [dcT (by omega)]; rfl),Aa (by simp only [anE,dcE]; omega),Aa (dcT ⟨by omega,by omega,trivial,trivial,by simp,q.2,hz0⟩)]
  cases e:wgo 0 l (replicate l.length 0) with
  | none=>rfl
  | some u=>
   have hl:=NL l 0 _ (by simp) hz e
   rw [List.length_replicate] at hl
   simp only [Option.isSome_some,Option.getD_some,Be]
   rw [Aa (by simp only [anE,dcE]; omega),Aa (dcT ⟨by omega,by omega,by trivial,by rw [hl]; omega,by rw [hl]; omega⟩)]
   cases H6 (u.take (l.length-1))<;>rfl
 ·cases hq
def BZ (w:Wt):List Int:=if w.1=6\/w.1=7 then [w.2.2.2.2.1,w.2.2.2.2.2.1] else if w.1=8 then [w.2.2.2.2.1] else []
def OB (ps:List Int) (u:List Int):List Int:=ps.foldl (fun u k=>HM u k.toNat) u
def JW:Gm
 | [.i .i64 k,.i .i64 n,.s s],[]=>.leaf (.b (Hy k n s),[])
 | _,_=>.no
def Sx:Gm
 | [.agg [.i .i64 w0,.i .i64 w1,.i .i64 w2,.s w3,.i .i64 w4,.i .i64 w5],.i .i64 i],[]=>.need (decide (0<=i/\i<=1000)) (.leaf (.b (Di (w0,w1,w2,w3,w4,w5,()) i),[]))
 | _,_=>.no
def NK:Gm
 | [.agg [.i .i64 w0,.i .i64 w1,.i .i64 w2,.s w3,.i .i64 w4,.i .i64 w5]],[]=>.leaf (.ref 0 0 (BZ (w0,w1,w2,w3,w4,w5,())).length,[some (.row false none (.int .i64) (BZ (w0,w1,w2,w3,w4,w5,())))])
 | _,_=>.no
def RR:Gm
 | [.i .i64 x],[]=>.leaf (.b (x != 1),[])
 | _,_=>.no
def O0  : LoopEnt:=⟨19,[0,1,4,7,8],[],[4],fun
 | ([.sl (.int .i64) l,.fn 165 [] [],.i .i64 _,.i .i64 k,.i .i64 i],[])=>
  .need (decide (0<=i/\i.toNat<=l.length/\l.length<=maxI/\k=l.length)) (.br (decide (Au (fun z:Int=>z != 1) i.toNat (l.drop i.toNat)<0)) (.leaf (.exit 0,([],[]))) (.leaf (.ret,([.i .i64 (Au (fun z:Int=>z != 1) i.toNat (l.drop i.toNat))],[]))))
 | _=>.no⟩
def Tu  : Gm
 | [.sl (.int .i64) l,.fn 165 [] []],[]=>.leaf (.i .i64 (Au (fun z:Int=>z != 1) 0 l),[])
 | _,_=>.no
def Xg  : Gm
 | [.sl (.int .i64) l,.fn 165 [] []],[]=>.leaf (.b (l.any (fun z:Int=>z != 1)),[])
 | _,_=>.no
def FL:LoopEnt:=⟨51,[3,18,19,20],[3],[2],fun
 | ([.ref 0 0 m,.sl WCd l,.i .i64 k,.i .i64 i],[some (.row false none (.int .i64) u)])=>.need (decide (0<=i/\i.toNat<=l.length/\k=l.length/\m=l.length/\u.length=l.length/\l.length<=20/\(∀ x∈u,0<=x/\x<=2*i))) (.br (wgo i.toNat (l.drop i.toNat) u).isSome (.leaf (.exit 0,([.ref 0 0 ((wgo i.toNat (l.drop i.toNat) u).getD []).length],[some (.row false none (.int .i64) ((wgo i.toNat (l.drop i.toNat) u).getD []))]))) (.leaf (.ret,([.b false],[]))))
 | _=>.no⟩
def FK:LoopEnt:=⟨51,[3,18,19,20,30,31,32],[3,18,19,20],[2],fun
 | ([.ref 0 0 m,.sl WCd l,.i .i64 k,.i .i64 i,.ref 1 0 p,.i .i64 q,.i .i64 j],[some (.row false none (.int .i64) u),some (.row false none (.int .i64) ps)])=>.need (decide (0<=j/\j.toNat<=ps.length/\q=ps.length/\p=ps.length/\m=u.length/\ps.length<=2/\(∀ x∈ps,0<=x/\x.toNat<u.length)/\(∀ x∈u,0<=x/\x<=1000))) (.leaf (.exit 2,([.ref 0 0 (OB (ps.drop j.toNat) u).length,.sl WCd l,.i .i64 k,.i .i64 i],[some (.row false none (.int .i64) (OB (ps.drop j.toNat) u))])))
 | _=>.no⟩
theorem UX (c x y:Bool):ifB c (some ((V.b x,[]):V×List (Option Blk))) (some (V.b y,[]))=some (V.b (cond c x y),[]):=by cases c<;>rfl
theorem Sz (k n:Int) (s:List UInt8):Ax prog (Ab [(218,.rd1 Fq)]) (Ab []) f197 [.j k,.j n,.s s] []=some (.b (Hy k n s),[]):=by
 have e:Ax prog (Ab [(218,.rd1 Fq)]) (Ab []) f197 [.j k,.j n,.s s] []=((ifB (k==(1:Int)) (ifB (k==(1:Int)) (ifB (Dy n) (some (V.b (s==Aj UInt8),[])) (some (V.b false,[]))) (ifB (k==(4:Int)) (ifB (n==(0:Int)) (some (V.b
 (s==Aj UInt8),[])) (some (V.b false,[]))) (ifB (k==(5:Int)) (ifB (n==(0:Int)) (some (V.b (decide ((↑s.length:Int)<=(30:Int))),[])) (some (V.b false,
 []))) (some (V.b false,[]))))) (ifB (k==(2:Int)) (ifB (k==(2:Int)) (ifB (Dy n) (some (V.b (s==Aj UInt8),[])) (some (V.b false,[]))) (ifB (k==(4:Int))
 (ifB (n==(0:Int)) (some (V.b (s==Aj UInt8),[])) (some (V.b false,[]))) (ifB (k==(5:Int)) (ifB (n==(0:Int)) (some (V.b (decide ((↑s.length:Int)<=(30 :
 Int))),[])) (some (V.b false,[]))) (some (V.b false,[]))))) (ifB (k==(3:Int)) (ifB (Dy n) (some (V.b (s==Aj UInt8),[])) (some (V.b false,[]))) (ifB (k==
 (4:Int)) (ifB (n==(0:Int)) (some (V.b (s==Aj UInt8),[])) (some (V.b false,[]))) (ifB (k==(5:Int)) (ifB (n==(0:Int)) (some (V.b (decide ((↑s.length :
 Int)<=(30:Int))),[])) (some (V.b false,[]))) (some (V.b false,[]))))))):_):=by kernel_rfl
 rw [e]
 clear e
 show _=some (V.b (Hy k n s),[])
 simp only [AN]
 unfold Hy
 by_cases a1:k=1
 ·subst a1; cases hn:Dy n<;>cases s<;>simp [ifB]
 by_cases a2:k=2
 ·subst a2; cases hn:Dy n<;>cases s<;>simp [ifB]
 by_cases a3:k=3
 ·subst a3; cases hn:Dy n<;>cases s<;>simp [ifB]
 have q1:=beq_eq_false_iff_ne.2 a1
 have q2:=beq_eq_false_iff_ne.2 a2
 have q3:=beq_eq_false_iff_ne.2 a3
 rw [if_neg (by omega)]
 by_cases a4:k=4
 ·subst a4
  rw [if_pos rfl]
  cases n==0<;>cases s<;>simp [ifB]
 have q4:=beq_eq_false_iff_ne.2 a4
 rw [if_neg a4]
 by_cases a5:k=5
 ·subst a5
  rw [if_pos rfl]
  by_cases ht:s.length<=30
  ·rw [dcT (show (s.length:Int)<=30 by omega),dcT ht]; cases n==0<;>simp [ifB]
  ·rw [dcF (show ¬(s.length:Int)<=30 by omega),dcF ht]; cases n==0<;>simp [ifB]
 have q5:=beq_eq_false_iff_ne.2 a5
 rw [if_neg a5]
 simp [ifB,q1,q2,q3,q4,q5]
theorem Acn:Af prog 197 (Ent.rd1 JW).F:=by
 refine Ae (kc func218 Xe KnowsL.nil).knows (Λ:=Ab []) func197 (c:=f197.body.getD .skip) (by kernel_rfl) fun vs bs r' hq hv hb=>?_
 unfold Ent.F JW at hq
 dsimp only at hq
 split at hq
 ·exact ⟨Ak _,(Sz _ _ _).trans hq⟩
 ·cases hq
theorem UP (w0 w1 w2:Int) (w3:List UInt8) (w4 w5:Int) (i:Int) (h0:0<=i) (h1:i<=1000):Ax prog (Ab [(125,.rd1 A3),(197,.rd1 JW)]) (Ab []) f162 [.agg [.j w0,.j w1,.j w2,.s w3,.j w4,.j w5],.j i] []=some (.b (Di (w0,w1,w2,w3,w4,w5,()) i),[]):=by
 have e:Ax prog (Ab [(125,.rd1 A3),(197,.rd1 JW)]) (Ab []) f162 [.agg [.j w0,.j w1,.j w2,.s w3,.j w4,.j w5],.j i] []=((ifB (w0==(6:Int)) (ifB (w0==(6:Int)) (ifB (w1==(0:Int)) (ifB (w2==(0:Int)) (ifB (w3==Aj UInt8) (ifB (decide (w4>=(0:Int))) (ifB (decide (w4<w5))
 (some (V.b (decide (w5<i)),[])) (some (V.b false,[]))) (some (V.b false,[]))) (some (V.b false,[]))) (some (V.b false,[]))) (some (V.b false,[]))) (ifB (w0==(8
 : Int)) (ifB (w1==(0:Int)) (ifB (w2==(0:Int)) (ifB (w3==Aj UInt8) (ifB (decide ((0:Int)<=w4/\w4<=i64.wrap (i-(1:Int)))) (some (V.b (w5==(0
 : Int)),[])) (some (V.b false,[]))) (some (V.b false,[]))) (some (V.b false,[]))) (some (V.b false,[]))) (ifB (decide ((1:Int)<=w1/\w1<=(30:Int))) (ifB (Hy
 w0 w2 w3) (ifB (w4==(0:Int)) (some (V.b (w5==(0:Int)),[])) (some (V.b false,[]))) (some (V.b false,[]))) (some (V.b false,[]))))) (ifB (w0==(7:Int)) (ifB
 (w1==(0:Int)) (ifB (w2==(0:Int)) (ifB (w3==Aj UInt8) (ifB (decide (w4>=(0:Int))) (ifB (decide (w4<w5)) (some (V.b (decide (w5<i)),[])) (some (V.b
 false,[]))) (some (V.b false,[]))) (some (V.b false,[]))) (some (V.b false,[]))) (some (V.b false,[]))) (ifB (w0==(8:Int)) (ifB (w1==(0:Int)) (ifB (w2==(0
 : Int)) (ifB (w3==Aj UInt8) (ifB (decide ((0:Int)<=w4/\w4<=i64.wrap (i-(1:Int)))) (some (V.b (w5==(0:Int)),[])) (some (V.b false,[]))) (some
 (V.b false,[]))) (some (V.b false,[]))) (some (V.b false,[]))) (ifB (decide ((1:Int)<=w1/\w1<=(30:Int))) (ifB (Hy w0 w2 w3) (ifB (w4==(0:Int)) (some (V.b
 (w5==(0:Int)),[])) (some (V.b false,[]))) (some (V.b false,[]))) (some (V.b false,[])))))):_):=by kernel_rfl
 rw [e]
 clear e
 have w1:i64.wrap (i-1)=i-1:=Aw (by omega) (by omega)
 simp only [AN,w1,UX]
 refine congrArg (fun b=>some (V.b b,[])) ?_
 unfold Di
 dsimp only
 rw [Bool.eq_iff_iff]
 by_cases a6:w0=6
 ·subst a6; simp; try omega
 by_cases a7:w0=7
 ·subst a7; simp; try omega
 by_cases a8:w0=8
 ·subst a8; simp; try omega
 have q6:=beq_eq_false_iff_ne.2 a6
 have q7:=beq_eq_false_iff_ne.2 a7
 have q8:=beq_eq_false_iff_ne.2 a8
 rw [if_neg (by omega),if_neg a8,q6,q7,q8]
 simp [and_assoc]
theorem Aep:Af prog 162 (Ent.rd1 Sx).F:=by
 refine Ae (kc func125 Dl (kc func197 Acn KnowsL.nil)).knows (Λ:=Ab []) func162 (c:=f162.body.getD .skip) (by kernel_rfl) fun vs bs r' hq hv hb=>?_
 unfold Ent.F Sx at hq
 dsimp only at hq
 split at hq
 ·obtain ⟨hc,hx⟩:=Ad hq
  obtain ⟨h0,h1⟩:=of_decide_eq_true hc
  exact ⟨Ak _,(UP _ _ _ _ _ _ _ h0 h1).trans hx⟩
 ·cases hq
theorem QU (w0 w1 w2:Int) (w3:List UInt8) (w4 w5:Int):Df prog (Ab []) (Ab []) f163 [.agg [.j w0,.j w1,.j w2,.s w3,.j w4,.j w5]] []=some (.ref 0 0 (BZ (w0,w1,w2,w3,w4,w5,())).length,[some (.row false none (.int .i64) (BZ (w0,w1,w2,w3,w4,w5,())))]):=by
 have e:Df prog (Ab []) (Ab []) f163 [.agg [.j w0,.j w1,.j w2,.s w3,.j w4,.j w5]] []=((ifB (w0==(6:Int)) (ifB (w0==(6:Int)) (some (V.ref 0 0 2,[some (Blk.row false none (Cd.int .i64) (w4::w5::Aj (Cd.int .i64).den))])) (ifB (w0==(8:Int))
 (some (V.ref 0 0 1,[some (Blk.row false none (Cd.int .i64) (w4::Aj (Cd.int .i64).den))])) (some (V.ref 0 0 0,[some (Blk.row false none (Cd.int .i64) (Aj (Cd.int
 .i64).den))])))) (ifB (w0==(7:Int)) (some (V.ref 0 0 2,[some (Blk.row false none (Cd.int .i64) (w4::w5::Aj (Cd.int .i64).den))])) (ifB (w0==(8:Int)) (some
 (V.ref 0 0 1,[some (Blk.row false none (Cd.int .i64) (w4::Aj (Cd.int .i64).den))])) (some (V.ref 0 0 0,[some (Blk.row false none (Cd.int .i64) (Aj (Cd.int
 .i64).den))]))))):_):=by kernel_rfl
 rw [e]
 clear e
 try dsimp only [shr]
 unfold BZ
 dsimp only
 by_cases a6:w0=6
 ·subst a6; rfl
 by_cases a7:w0=7
 ·subst a7; rfl
 rw [if_neg (by omega),Ac (beq_eq_false_iff_ne.2 a6),Ac (beq_eq_false_iff_ne.2 a7)]
 by_cases a8:w0=8
 ·subst a8; rfl
 rw [if_neg a8,Ac (beq_eq_false_iff_ne.2 a8)]
 rfl
theorem QV:Af prog 163 (Ent.rd1 NK).F:=by
 refine A8 KnowsL.nil.knows (Λ:=Ab []) func163 (c:=f163.body.getD .skip) (by kernel_rfl) fun vs bs r' hq hv hb=>?_
 unfold Ent.F NK at hq
 dsimp only at hq
 split at hq
 ·exact ⟨Ak _,(QU _ _ _ _ _ _).trans hq⟩
 ·cases hq
theorem Zl:Af prog 165 (Ent.rd1 RR).F:=by
 refine Ae KnowsL.nil.knows (Λ:=Ab []) func165 (c:=f165.body.getD .skip) (by kernel_rfl) fun vs bs r hq hv hb=>?_
 unfold Ent.F RR at hq
 dsimp only at hq
 split at hq
 ·rename_i x
  refine ⟨Ak _,Eq.trans ?_ hq⟩
  have e:Ax prog (Ab []) (Ab []) f165 [.j x] []=((some (V.b (x != (1:Int)),[])):_):=by kernel_rfl
  exact e
 ·cases hq
theorem MP   (l:List (Int)) (r k i:Int):Av prog (Ab [(165,.rd1 RR)]) (Ab [(2,O0)]) 0 (body f198 0) O0 ([.sl (.int .i64) l,.fn 165 [] [],.j r,.j k,.j i],[]) =
 ((ifB (decide (i<k)) (ifT (decide ((0:Int)<=i)&&decide (i<(↑l.length:Int))) (Ai l[i.toNat]? fun z=>ifB (z != (1:Int)) (some (Ex.ret,[V.j i],[]))
 (some (Ex.normal,[V.sl (Cd.int .i64) l,V.fn 165 [] [],V.j r,V.j k,V.j (i64.wrap (i+(1:Int)))],[])))) (some (Ex.exit 0,
 [],[]))):_):=by kernel_rfl
theorem P9   {l:List (Int)} {r:Int} (hx:l.length<=maxI) : ∀ (j i:Nat),i+j=l.length->∀ e d',(.br (decide (Au (fun z:Int=>z != 1) i (l.drop i)<0)) (.leaf (.exit 0,([],[]))) (.leaf (.ret,([.j (Au (fun z:Int=>z != 1) i (l.drop i))],[]))):Br (Ex×Dt)).run=some (e,d')->
  Runs prog (Ab [(165,.rd1 RR)]) (Ab [(2,O0)]) 0 (body f198 0) O0 ([.sl (.int .i64) l,.fn 165 [] [],.j r,.j (l.length:Int),.j (i:Int)],[]) e d'
 | 0,i,hi,e,d',h=>by
  have e1:l.drop i=[]:=drop_eq_nil_of_le (by omega)
  rw [e1,BB,Au,if_pos (by omega)] at h
  cases h
  have hr:=MP  l r l.length i
  rw [Ac (dcF (by omega))] at hr
  exact .stop _ _ _ hr (by simp)
 | j+1,i,hi,e,d',h=>by
  have h1:i<l.length:=by omega
  have hr:=MP  l r l.length i
  rw [Ag (dcT (by omega)),Aa (by simp only [anE,dcE]; omega)] at hr
  simp only [ntN,gtE h1,Am,Ap (n:=i) (by omega)] at hr
  rw [drop_eq_getElem_cons h1,BB,Au] at h
  by_cases he:(fun z:Int=>z != 1) l[i]=true
  ·rw [if_pos he,if_neg (by omega)] at h
   cases h
   rw [Ag he] at hr
   exact .stop _ _ _ hr (by simp)
  ·rw [if_neg he] at h
   rw [Ac (by simpa using he)] at hr
   exact .step _ _ _ _ hr (P9  hx j (i+1) (by omega) e d' (by rw [BB]; exact h))
theorem Ab6  : Ar prog (Ab [(165,.rd1 RR)]) (Ab [(2,O0)]) 0 (f198.body.getD .skip):=by
 refine An (a:=body f198 0) (by kernel_rfl) fun d e d' h=>?_
 unfold O0 at h
 dsimp only at h
 split at h
 ·obtain ⟨hc,h'⟩:=Ad h
  obtain ⟨h0,h1,h2,rfl⟩:=of_decide_eq_true hc
  obtain ⟨i,rfl⟩:=eq_ofNat_of_zero_le h0
  exact P9  h2 _ i (add_sub_of_le h1) e d' h'
 ·cases h
theorem Zk   (l:List (Int)) (hx:l.length<=maxI):Ax prog (Ab [(165,.rd1 RR)]) (Ab [(2,O0)]) f198 [.sl (.int .i64) l,.fn 165 [] []] []=some (.j (Au (fun z:Int=>z != 1) 0 l),[]):=by
 have e:Ax prog (Ab [(165,.rd1 RR)]) (Ab [(2,O0)]) f198 [.sl (.int .i64) l,.fn 165 [] []] [] =
  ((ifT (decide ((0:Int)<=(0:Int)/\0<=l.length/\l.length<=maxI/\(↑l.length:Int)=(↑l.length:Int))) (ifB (decide (Au (fun z=>z != (1:Int)) (0 :
 Nat) (drop 0 l)<(0:Int))) (some (V.j (-1),[])) (some (V.j (Au (fun z=>z != (1:Int)) 0 (drop 0 l)),[])))):_):=by kernel_rfl
 rw [e,Aa (dcT ⟨by omega,by omega,hx,rfl⟩)]
 simp only [drop_zero]
 by_cases q:Au (fun z:Int=>z != 1) 0 l<0
 ·rw [Ag (dcT q),CP _ _ _ q]
 ·rw [Ac (dcF q)]
theorem Zi  : Af prog 198 (Ent.rd1 Tu).F:=by
 refine Ae (kc func165 Zl KnowsL.nil).knows (Λ:=(Ab [(2,O0)])) func198 (c:=f198.body.getD .skip) (by kernel_rfl) fun vs bs r h hv hb=>?_
 unfold Ent.F Tu at h
 dsimp only at h
 split at h
 ·rename_i l 
  have h':=h
  exact ⟨Ab6 ,(Zk  l (hv (.sl (.int .i64) l) (by simp)).1).trans (by cases h'; rfl)⟩
 ·cases h
theorem Xh   (l:List (Int)):Ax prog (Ab [(198,.rd1 Tu)]) (Ab []) f164 [.sl (.int .i64) l,.fn 165 [] []] []=some (.b (l.any (fun z:Int=>z != 1)),[]):=by
 have e:Ax prog (Ab [(198,.rd1 Tu)]) (Ab []) f164 [.sl (.int .i64) l,.fn 165 [] []] [] =
  ((some (V.b (decide (Au (fun z=>z != (1:Int)) 0 l>=(0:Int))),[])):_):=by kernel_rfl
 rw [e]
 skip
 rw [Hj]
theorem Zj  : Af prog 164 (Ent.rd1 Xg).F:=by
 refine Ae (kc func198 (Zi ) KnowsL.nil).knows (Λ:=Ab []) func164 (c:=f164.body.getD .skip) (by kernel_rfl) fun vs bs r h hv hb=>?_
 unfold Ent.F Xg at h
 dsimp only at h
 split at h
 ·rename_i l 
  have h':=h
  exact ⟨Ak _,(Xh  l).trans (by cases h'; rfl)⟩
 ·cases h
abbrev VK:FuncId->Option Ent:=Ab [(125,.rd1 A3),(162,.rd1 Sx),(163,.rd1 NK),(164,.rd1 Xg)]
theorem Lx (m:Nat) (l:List Wt) (k i:Int) (u:List Int):Av prog VK (Ab [(5,FL),(10,FK)]) 0 (body f127 0) FL ([.ref 0 0 m,.sl WCd l,.j k,.j i],[some (.row false none (.int .i64) u)]) =
 ((ifB (decide (i<k)) (ifT (decide ((0:Int)<=i)&&decide (i<(↑l.length:Int))) (Ai l[i.toNat]? fun z=>ifT (decide ((0:Int)<=i/\i<=(1000:Int))) (ifB
 (!Di (z.fst,z.snd.fst,z.snd.snd.fst,z.snd.snd.snd.fst,z.snd.snd.snd.snd.fst,z.snd.snd.snd.snd.snd.fst,()) i) (some (Ex.ret,[V.b false],[])) (ifT (decide ((0 :
 Int)<=(0:Int)/\0<=(BZ (z.fst,z.snd.fst,z.snd.snd.fst,z.snd.snd.snd.fst,z.snd.snd.snd.snd.fst,z.snd.snd.snd.snd.snd.fst,())).length/\(↑(BZ
 (z.fst,z.snd.fst,z.snd.snd.fst,z.snd.snd.snd.fst,z.snd.snd.snd.snd.fst,z.snd.snd.snd.snd.snd.fst,())).length:Int)=(↑(BZ (z.fst,z.snd.fst,z.snd.snd.fst,
 z.snd.snd.snd.fst,z.snd.snd.snd.snd.fst,z.snd.snd.snd.snd.snd.fst,())).length:Int)/\(BZ (z.fst,z.snd.fst,z.snd.snd.fst,z.snd.snd.snd.fst,
 z.snd.snd.snd.snd.fst,z.snd.snd.snd.snd.snd.fst,())).length=(BZ (z.fst,z.snd.fst,z.snd.snd.fst,z.snd.snd.snd.fst,z.snd.snd.snd.snd.fst,
 z.snd.snd.snd.snd.snd.fst,())).length/\m=u.length/\(BZ (z.fst,z.snd.fst,z.snd.snd.fst,z.snd.snd.snd.fst,z.snd.snd.snd.snd.fst,z.snd.snd.snd.snd.snd.fst,
 ())).length<=2/\(∀ (x:(Cd.int .i64).den),x∈BZ (z.fst,z.snd.fst,z.snd.snd.fst,z.snd.snd.snd.fst,z.snd.snd.snd.snd.fst,z.snd.snd.snd.snd.snd.fst,
 ())->(0:(Cd.int .i64).den)<=x/\toNat x<u.length)/\∀ (x:(Cd.int .i64).den),x∈u->(0:(Cd.int .i64).den)<=x/\x<=(1000:(Cd.int .i64).den))) (some
 (Ex.normal,[V.ref 0 0 (OB (drop 0 (BZ (z.fst,z.snd.fst,z.snd.snd.fst,z.snd.snd.snd.fst,z.snd.snd.snd.snd.fst,z.snd.snd.snd.snd.snd.fst,())))
 u).length,V.sl WCd l,V.j k,V.j (i64.wrap (i+(1:Int)))],[some (Blk.row false none (Cd.int .i64) (OB (drop 0 (BZ (z.fst,
 z.snd.fst,z.snd.snd.fst,z.snd.snd.snd.fst,z.snd.snd.snd.snd.fst,z.snd.snd.snd.snd.snd.fst,()))) u))])))))) (some (Ex.exit 0,[V.ref 0 0 m],[some (Blk.row false none
 (Cd.int .i64) u)]))):_):=by kernel_rfl
theorem Lw (m:Nat) (l:List Wt) (k i:Int) (p:Nat) (q j:Int) (u ps:List Int):Av prog VK (Ab [(5,FL),(10,FK)]) 0 (body f127 1) FK ([.ref 0 0 m,.sl WCd l,.j k,.j i,.ref 1 0 p,.j q,.j j],[some (.row false none (.int .i64) u),some (.row false none (.int .i64) ps)]) =
 ((ifB (decide (j<q)) (ifT (decide ((0:Int)<=j)&&decide (j<(↑p:Int))) (Ai ps[0+j.toNat]? fun z=>ifT (decide ((0:Int)<=z)&&decide (z<(↑m :
 Int))) (Ai u[0+toNat z]? fun z_1=>ifT (decide ((0:Int)<=z)&&decide (z<(↑m:Int))) (Ai u[0+toNat z]? fun _=>some
 (Ex.normal,[V.ref 0 0 m,V.sl WCd l,V.j k,V.j i,V.ref 1 0 p,V.j q,V.j (i64.wrap (j+(1:Int)))],[some (Blk.row false none (Cd.int
 .i64) (u.set (0+toNat z) (i64.wrap (z_1+(1:Int))))),some (Blk.row false none (Cd.int .i64) ps)]))))) (some (Ex.exit 2,[V.ref 0 0 m,V.sl WCd
 l,V.j k,V.j i],[some (Blk.row false none (Cd.int .i64) u)]))):_):=by kernel_rfl
theorem XH (l:List Wt):Ax prog VK (Ab [(5,FL),(10,FK)]) f127 [.agg [.sl WCd l]] [] =
 ((ifB (!decide ((1:Int)<=(↑l.length:Int)/\(↑l.length:Int)<=(20:Int))) (some (V.b false,[])) (ifT (decide ((0:Int)<=(↑l.length:Int))&&decide ((↑l.length :
 Int)<=(↑l.length:Int))&&decide ((↑l.length:Int)*(↑(8:Nat):Int)<=(140737488355328:Int))&&decide ((↑l.length:Int)<=(9223372036854775807:Int))) (ifT
 (decide ((0:Int)<=(0:Int)/\0<=l.length/\(↑l.length:Int)=(↑l.length:Int)/\(↑l.length:Int).toNat=l.length/\(replicate (↑l.length :
 Int).toNat (0:Int)).length=l.length/\l.length<=20/\∀ (x:(Cd.int .i64).den),x∈replicate (↑l.length:Int).toNat (0:Int)->(0:(Cd.int
 .i64).den)<=x/\x<=(0:Int))) (ifB (wgo 0 (drop 0 l) (replicate (↑l.length:Int).toNat (0:Int))).isSome (ifT (decide ((0:Int)<=
 i64.wrap ((↑((wgo 0 (drop 0 l) (replicate (↑l.length:Int).toNat (0:Int))).getD (Aj Int)).length:Int)-(1:Int)))&&decide
 (i64.wrap ((↑((wgo 0 (drop 0 l) (replicate (↑l.length:Int).toNat (0:Int))).getD (Aj Int)).length:Int)-(1:Int))<=(↑(((wgo (0
 : Nat) (drop 0 l) (replicate (↑l.length:Int).toNat (0:Int))).getD (Aj Int)).length-0):Int))) (some (V.b !(take ((i64.wrap
 ((↑((wgo 0 (drop 0 l) (replicate (↑l.length:Int).toNat (0:Int))).getD (Aj Int)).length:Int)-(1:Int))).toNat-0) (drop
 0 ((wgo 0 (drop 0 l) (replicate (↑l.length:Int).toNat (0:Int))).getD (Aj Int)))).any fun z=>z != (1:Int),[]))) (some (V.b
 false,[])))))):_):=by kernel_rfl
theorem Zr {i:Nat} {x:Int} (h:0<=x/\x<=2*(i:Int)) (hi:i<=20):0<=x/\x<=1000:=by omega
theorem Afi {x:Int} (h:0<=x/\x<=2*((0:Nat):Int)):0<=x/\x<=0:=by omega
theorem Ng (l:List Wt) (k i:Int) (ps:List Int) (hp:ps.length<=2) : ∀ (n j:Nat) (u:List Int),j+n=ps.length->(∀ x∈ps,0<=x/\x.toNat<u.length)->(∀ x∈u,0<=x/\x<=1000+j)->
  Runs prog VK (Ab [(5,FL),(10,FK)]) 0 (body f127 1) FK ([.ref 0 0 u.length,.sl WCd l,.j k,.j i,.ref 1 0 ps.length,.j (ps.length:Int),.j (j:Int)],[some (.row false none (.int .i64) u),some (.row false none (.int .i64) ps)]) (.exit 2) ([.ref 0 0 (OB (ps.drop j) u).length,.sl WCd l,.j k,.j i],[some (.row false none (.int .i64) (OB (ps.drop j) u))])
 | 0,j,u,hj,hps,hu=>by
  have hr:=Lw u.length l k i ps.length ps.length j u ps
  rw [Ac (dcF (by omega))] at hr
  rw [drop_eq_nil_of_le (by omega)]
  exact .stop _ _ _ hr (by simp)
 | n+1,j,u,hj,hps,hu=>by
  have hl:j<ps.length:=by omega
  have hr:=Lw u.length l k i ps.length ps.length j u ps
  have W1:i64.wrap ((j:Int)+1)=((j+1:Nat):Int):=by rw [Aw (by omega) (by omega)]; omega
  obtain ⟨h0,h1⟩:=hps _ (getElem_mem hl)
  have hu1:=hu _ (getElem_mem h1)
  rw [Ag (dcT (by omega)),Aa (by simp only [anE,dcE]; omega),ntN,zero_add,gtE hl,Am,Aa (by simp only [anE,dcE]; omega),zero_add,gtE h1,Am,Aa (by simp only [anE,dcE]; omega),Am,W1,Aw (n:=u[(ps[j]).toNat]+1) (by omega) (by omega)] at hr
  have e:u.set (ps[j]).toNat (u[(ps[j]).toNat]+1)=HM u (ps[j]).toNat:=by unfold HM; simp [h1]
  rw [e] at hr
  have hb:=HL hu h1
  have ih:=Ng l k i ps hp n (j+1) (HM u (ps[j]).toNat) (by omega) (fun x hx=>by rw [E2]; exact hps x hx) (fun x hx=>by have:=hb x hx; omega)
  rw [drop_eq_getElem_cons hl]
  have e2:OB (ps[j]::ps.drop (j+1)) u=OB (ps.drop (j+1)) (HM u (ps[j]).toNat):=rfl
  rw [e2]
  rw [E2] at ih
  exact .step _ _ _ _ hr ih
theorem QT (w:Wt) (u:List Int):OB (BZ w) u=Kd w u:=by
 unfold BZ Kd
 split
 ·rfl
 ·split<;>rfl
theorem TL {w:Wt} {i:Nat} {u:List Int} (h:Di w i=true) (hi:i<=u.length):(BZ w).length<=2/\∀ x∈BZ w,0<=x/\x.toNat<u.length:=by
 obtain ⟨h1,h2,_⟩:=Kb h
 unfold BZ
 split
 ·rename_i q
  have:=h1 q
  refine ⟨by simp,fun x hx=>?_⟩
  rcases mem_cons.1 hx with rfl | hx
  ·omega
  ·obtain rfl:=List.mem_singleton.1 hx; omega
 ·split
  ·rename_i q
   have:=h2 q
   refine ⟨by simp,fun x hx=>?_⟩
   obtain rfl:=List.mem_singleton.1 hx; omega
  ·exact ⟨by simp,fun x hx=>by cases hx⟩
theorem Nh (l:List Wt) (hl:l.length<=20) : ∀ (j i:Nat) (u:List Int),i+j=l.length->u.length=l.length->(∀ x∈u,0<=x/\x<=2*(i:Int))->∀ ex d,(Br.br (wgo i (l.drop i) u).isSome (.leaf (.exit 0,([.ref 0 0 ((wgo i (l.drop i) u).getD []).length],[some (.row false none (.int .i64) ((wgo i (l.drop i) u).getD []))]))) (.leaf (.ret,([.b false],[]))):Br (Ex×Dt)).run=some (ex,d)->
  Runs prog VK (Ab [(5,FL),(10,FK)]) 0 (body f127 0) FL ([.ref 0 0 u.length,.sl WCd l,.j (l.length:Int),.j (i:Int)],[some (.row false none (.int .i64) u)]) ex d
 | 0,i,u,hi,hul,hu,ex,d,h=>by
  have hr:=Lx u.length l l.length i u
  try dsimp only [shr] at hr
  rw [Ac (dcF (by omega))] at hr
  rw [drop_eq_nil_of_le (by omega),wgo] at h
  have h8:=Ao (show (Br.leaf (.exit 0,([.ref 0 0 u.length],[some (.row false none (.int .i64) u)])):Br (Ex×Dt)).run=some (ex,d) from h)
  obtain ⟨rfl,rfl⟩:=Prod.mk.inj h8
  exact .stop _ _ _ hr (by simp)
 | j+1,i,u,hi,hul,hu,ex,d,h=>by
  have hlt:i<l.length:=by omega
  have hr:=Lx u.length l l.length i u
  try dsimp only [shr] at hr
  have W1:i64.wrap ((i:Int)+1)=((i+1:Nat):Int):=by rw [Aw (by omega) (by omega)]; omega
  rw [Ag (dcT (by omega)),Aa (by simp only [anE,dcE]; omega),ntN,gtE hlt,Am,Aa (dcT (by omega)),W1] at hr
  rw [drop_eq_getElem_cons hlt,wgo] at h
  have eta : ∀ z:Wt,(z.1,z.2.1,z.2.2.1,z.2.2.2.1,z.2.2.2.2.1,z.2.2.2.2.2.1,())=z:=fun z=>rfl
  simp only [eta,drop_zero] at hr
  by_cases q:Di l[i] (i:Int)=true
  ·obtain ⟨g1,g2⟩:=NN q (by omega) hu
   obtain ⟨p1,p2⟩:=TL q (by omega:i<=u.length)
   rw [if_pos q] at h
   rw [q,Bool.not_true,AS,Aa (dcT ⟨by omega,by omega,by first | trivial | rfl,by first | trivial | rfl,by first | trivial | rfl,p1,p2,fun x hx=>Zr (hu x hx) (by omega)⟩),QT] at hr
   have hul2:u.length=(Kd l[i] u).length:=by omega
   exact .step _ _ _ _ hr (Nh l hl j (i+1) (Kd l[i] u) (by omega) (g1.trans hul) (by push_cast; exact g2) ex d h)
  ·rw [if_neg q] at h
   rw [show Di l[i] (i:Int)=false by simpa using q] at hr
   have h8:=Ao (show (Br.leaf (.ret,([.b false],[])):Br (Ex×Dt)).run=some (ex,d) from h)
   obtain ⟨rfl,rfl⟩:=Prod.mk.inj h8
   exact .stop _ _ _ hr (by simp)
theorem Acv:Ar prog VK (Ab [(5,FL),(10,FK)]) 0 (f127.body.getD .skip):=by
 refine LoopsI.loops (cs:=[body f127 0,body f127 1]) ?_ (by kernel_rfl)
 refine .cons (ent:=FL) (by rfl) (fun d ex d' h=>?_) (.cons (ent:=FK) (by rfl) (fun d ex d' h=>?_) .nil)
 ·unfold FL at h
  dsimp only at h
  split at h
  ·rename_i m l k i u
   obtain ⟨hc,hx⟩:=Ad h
   clear h
   obtain ⟨h0,h1,rfl,rfl,h4,h5,h6⟩:=of_decide_eq_true hc
   obtain ⟨i,rfl⟩:=eq_ofNat_of_zero_le h0
   simp only [ntN] at h1 hx
   have:=Nh l h5 (l.length-i) i u (by omega) h4 h6 ex d' hx
   rw [h4] at this
   exact this
  ·cases h
 ·unfold FK at h
  dsimp only at h
  split at h
  ·rename_i m l k i p q j u ps
   obtain ⟨hc,hx⟩:=Ad h
   clear h
   obtain ⟨h0,h1,rfl,rfl,rfl,h5,h6,h7⟩:=of_decide_eq_true hc
   obtain ⟨j,rfl⟩:=eq_ofNat_of_zero_le h0
   simp only [ntN] at h1 hx
   have hx:=Ao hx
   obtain ⟨rfl,rfl⟩:=Prod.mk.inj hx
   exact Ng l k i ps h5 (ps.length-j) j u (by omega) h6 (fun x hx=>by have h8:(0:Int)<=(x:Int)/\(x:Int)<=1000:=h7 x hx; omega)
  ·cases h
theorem Xc (u:List Int):(!(u.any fun z=>z != 1))=H6 u:=by
 unfold H6
 induction u with
 | nil=>rfl
 | cons x u ih=>rw [any_cons,List.all_cons,<-ih,Bool.not_or]; cases h:x==1<;>simp [bne,h]
theorem Acu:Af prog 127 (Ent.rd1 IC).F:=by
 refine Ae (kc func125 Dl (kc func162 Aep (kc func163 QV (kc func164 Zj KnowsL.nil)))).knows (Λ:=(Ab [(5,FL),(10,FK)])) func127 (c:=f127.body.getD .skip) (by kernel_rfl) fun vs bs r hq hv hb=>?_
 unfold Ent.F IC at hq
 dsimp only at hq
 split at hq
 ·rename_i l
  refine ⟨Acv,(XH l).trans (Eq.trans ?_ hq)⟩
  try dsimp only [shr]
  show _=some _
  unfold DY
  by_cases h:1<=l.length/\l.length<=20
  ·have hrep : ∀ x∈replicate l.length (0:Int),0<=x/\x<=2*((0:Nat):Int):=fun x hx=>by
    have:=(List.mem_replicate.1 hx).2; omega
   rw [dcT h,dcT (show (1:Int)<=(l.length:Int)/\(l.length:Int)<=20 by omega),Bool.not_true,AS,Aa (by simp only [anE,dcE]; omega),ntN,Aa (dcT ⟨by omega,by omega,rfl,rfl,by simp,h.2,fun x hx=>Afi (hrep x hx)⟩),Bool.true_and,drop_zero]
   cases hw:wgo 0 l (replicate l.length 0) with
   | none=>rfl
   | some v=>
    have hvl:=NL l 0 (replicate l.length 0) (by simp) hrep hw
    rw [List.length_replicate] at hvl
    rw [show (some v).isSome=true from rfl,Be,show (some v).getD []=v from rfl]
    have W2:i64.wrap ((v.length:Int)-1)=((v.length-1:Nat):Int):=by rw [Aw (by omega) (by omega)]; omega
    rw [W2,Aa (by simp only [anE,dcE]; omega),ntN,sub_zero,drop_zero,hvl,Xc]
  ·rw [dcF h,dcF (show ¬((1:Int)<=(l.length:Int)/\(l.length:Int)<=20) by omega)]
   rfl
 ·cases hq
def cut (c:UInt8):List UInt8->List (List UInt8)
 | []=>[[]]
 | b::l=>if b=c then []::cut c l else match cut c l with
  | []=>[]
  | h::t=>(b::h)::t
def NV:Gm
 | [.s s,.s [c]],[]=>.need (decide (s.length<=4000000000)) (.leaf (.ref 0 0 (cut c s).length,[some (.row false none .str (cut c s))]))
 | _,_=>.no
open Go.Lib in
theorem FJ (b c:UInt8) (l:List UInt8):Lib.index (b::l) [c]=if b=c then 0 else if Lib.index l [c] = -1 then -1 else Lib.index l [c]+1:=by
 rw [Lib.index]
 by_cases h:b=c
 ·subst h; simp [List.isPrefixOf]
 ·simp [List.isPrefixOf,Ne.symm h,h]
open Go.Lib in
theorem Lu (c:UInt8) : ∀ l:List UInt8,c∈l->Lib.index l [c]≠-1
 | [],h=>by simp at h
 | b::l,h=>by
  have hge:=Lib.index_ge l [c]
  rw [FJ]
  by_cases hb:b=c
  ·simp [hb]
  ·have:=Lu c l (by simpa [Ne.symm hb] using h)
   simp [hb,this]; omega
open Go.Lib in
theorem Im (c:UInt8) : ∀ s:List UInt8,Lib.splitK [c] 0 (s.count c) s=cut c s
 | []=>rfl
 | b::l=>by
  by_cases h:b=c
  ·subst h
   have hi:Lib.index (b::l) [b]=0:=by rw [FJ,if_pos rfl]
   rw [List.count_cons_self,cut,if_pos rfl,<-Im b l,Lib.splitK]
   simp [hi]
  ·rw [List.count_cons_of_ne (by simpa using h),cut,if_neg h,<-Im c l]
   cases hk:l.count c with
   | zero=>simp [Lib.splitK]
   | succ k=>
    have hm:c∈l:=List.count_pos_iff.1 (by omega)
    have hne:=Lu c l hm
    have hge:=Lib.index_ge l [c]
    obtain ⟨j,hj⟩ : ∃ j:Nat,Lib.index l [c]=j:=⟨(Lib.index l [c]).toNat,by omega⟩
    have hi:Lib.index (b::l) [c]=((j+1:Nat):Int):=by rw [FJ,if_neg h,if_neg hne,hj]; omega
    have e1:((Lib.index l [c])==-1)=false:=by rw [hj]; exact beq_false_of_ne (by omega)
    have e2:((((j+1:Nat):Int))==-1)=false:=beq_false_of_ne (by omega)
    rw [Lib.splitK,Lib.splitK,hi,e1,e2,hj]
    simp [Nat.add_assoc]
theorem SS (c:UInt8) : ∀ s:List UInt8,cut c s≠[]
 | []=>by simp [cut]
 | b::l=>by
  rw [cut]
  split
  ·simp
  ·have:=SS c l
   split
   ·rename_i h; exact absurd h this
   ·simp
theorem OK (c:UInt8) (s:List UInt8):(cut c s).length=s.count c+1:=by
 induction s with
 | nil=>rfl
 | cons b l ih=>
  rw [cut]
  by_cases h:b=c
  ·rw [if_pos h]; subst h; simp [ih]
  ·rw [if_neg h,List.count_cons_of_ne (by simpa using h),<-ih]
   have:=SS c l
   split
   ·rename_i hh; exact absurd hh this
   ·rename_i hh; rw [hh]; rfl
open Go.Lib Go.Shelf Go.RowKit Go.Proofs in
set_option maxHeartbeats 1000000 in
theorem Um {P:Program} {ρ:Ren} (L:Lays.n146 P ρ) (hi9:(P.info? (ρ.t 9)).map (fun i=>(i.zero,i.size,i.bytes))=some (some (.string ByteArray.empty),1,16)) (s:ByteArray) (b:UInt8) (w:World) (hs:s.size<4294967281) :
  Calls P (ρ.f 146) #[.string s,.string ⟨#[b]⟩] w fun e w'=>
   e = .returned (.slice (some ⟨w.heap.size,0,none⟩) (Lib.countB s ⟨#[b]⟩+1) (Lib.countB s ⟨#[b]⟩+1))/\w'=w.alloc (.cells ((Lib.splitB ⟨#[b]⟩ 0 (Lib.countB s ⟨#[b]⟩) s).map Value.string).toArray (ρ.t 9)):=by
 have h1:1<=(⟨#[b]⟩:ByteArray).size:=Nat.le_refl _
 have hle:=Lib.countB_le ⟨#[b]⟩ h1 s.size s (Nat.le_refl _)
 have hlen:=Lib.splitB_all ⟨#[b]⟩ h1 0 _ s rfl
 have c:=Any.strings_genSplit_core (ρ:=ρ) { L with } hi9 s ⟨#[b]⟩ 0 (-1) (Lib.countB s ⟨#[b]⟩+1) w hs h1 (Nat.zero_le _)
  (fun x cc _=>(Any.strings_Index_one { L with } x b _).mono fun e w' ⟨he,hw⟩=>⟨by rw [he]; show _=Ending.returned (Value.int .i64 (Lib.index x.data.toList [b])); rw [Lib.index_one],hw⟩)
  ((Any.strings_Count_one { L with } s b w).mono fun e w' ⟨he,hw⟩=>⟨by rw [he]; show _=Ending.returned (Value.int .i64 ((Lib.count s.data.toList [b]:Nat):Int)); rw [Lib.count_one]; rfl,hw⟩)
  (by decide) (by decide) (by rw [if_pos (by decide)]; omega)
 rw [Nat.add_sub_cancel,hlen] at c
 have e2:Lib.cellsOf (Lib.splitB ⟨#[b]⟩ 0 (Lib.countB s ⟨#[b]⟩) s) (Lib.countB s ⟨#[b]⟩+1)=((Lib.splitB ⟨#[b]⟩ 0 (Lib.countB s ⟨#[b]⟩) s).map Value.string).toArray:=by rw [<-hlen]; exact Lib.cellsOf_full _
 rw [e2] at c
 have t3:=L.t3; have t9:=L.t9; have t31:=L.t31
 have a3:=L.a3; have a9:=L.a9; have a31:=L.a31
 have z3:=L.z3; have v3:=L.v3; have z9:=L.z9; have v9:=L.v9; have z31:=L.z31; have v31:=L.v31
 have e221 : ∀ args w,(callFunc (ρ.f 221) args).run P w = .ok (.enter (ρ.f 221) args) w:=enters_of L.f221 (by kernel_rfl) rfl
 go_enter L.f146,Body.n146_ntmps ρ
 go_wp2_with (go_at_fn (ρ.f 221); refine c.mono ?_; rintro e w' ⟨rfl,hw⟩; rw [hw])
 go_ret
 exact ⟨rfl,rfl⟩
open Go.Shelf in
noncomputable def R9:Ren:=⟨fun k=>match k with | 146=>145 | 221=>185 | 138=>220 | 143=>221 | 195=>227 | 197=>228 | 217=>234 | 218=>229 | 219=>230 | 224=>236 | 225=>235 | 260=>233 | 266=>238 | 267=>237 | 268=>219 | 314=>239 | k=>k,
 fun k=>match k with | 0=>0 | 3=>3 | 4=>4 | 5=>5 | 9=>9 | 21=>21 | 31=>165 | 46=>275 | 51=>284 | 105=>277 | 119=>280 | 138=>282 | 139=>283 | 146=>285 | k=>k,
 fun k=>match k with | 1=>0 | 3=>1 | 4=>2 | k=>k⟩
open Go.Shelf in
theorem YH:Lays.n146 prog R9:=by
 constructor
 all_goals first | kernel_rfl | (intro w; kernel_rfl)

theorem Xs {w:World} {R:Nat->Prop} {μ:Nat->Option RB} {l:List (List UInt8)} {us:Array Value} {e:TypeId}
  (hn : ∀ j,0<=j->μ j=none) (rlt : ∀ x,R x->x<w.heap.size) (hm:l.length<=maxI) (hz:l.length<=us.size)
  (hv : ∀ (i:Nat) (z:List UInt8),l[i]? = some z->us[i]? = some (Value.string ⟨z.toArray⟩)) :
  Left w R μ (fun j=>([]:List Blk)[j]?) (.ref 0 0 l.length) [some (.row false none .str l)] (.slice (some ⟨w.heap.size,0,none⟩) l.length l.length) (w.alloc (.cells us e)) R (B5 μ 0 (.at w.heap.size 0 1 l.length l.length)):=by
 have h0:μ 0=none:=hn 0 (Nat.le_refl _)
 have hR : ¬R w.heap.size:=fun hr=>by have:=rlt _ hr; omega
 have at0 : ∀ j B,(([some (Blk.row false none .str l)]:List (Option Blk))[j]?).join=some B->j=0/\B = .row false none .str l:=fun j B hB=>by
  match j with
  | 0=>simp at hB; exact ⟨rfl,hB.symm⟩
  | j+1=>simp at hB
 refine ⟨?_,⟨?_,?_,?_,fun x hx=>Nat.lt_of_lt_of_le (rlt x hx) (by simp)⟩,rfl,rfl,rfl,by simp,?_,fun x h=>h,fun x h=>.inl h,?_,?_,CZ h0 _,?_⟩
 ·exact .ref 0 0 l.length w.heap.size 0 1 l.length l.length ⟨w.heap.size,0,none⟩ (Az _ _ _) (Nat.le_refl _) (by omega) hm (.inr (by simp))
 ·intro id B hB
  obtain ⟨rfl,rfl⟩:=at0 id B hB
  refine ⟨_,Az _ _ _,.row w.heap.size 0 1 l.length l.length false none .str l us e rfl (by simp only [World.alloc]; simp) ⟨rfl,Nat.le_refl _⟩ hm (by omega) ?_ (by simp)⟩
  intro i z j v hi hj
  match j with
  | 0=>
   simp only [enc,List.getElem?_cons_zero,Option.some.injEq] at hj
   subst hj
   exact ⟨_,by simpa using hv i z hi,.s _⟩
  | j+1=>simp [enc] at hj
 ·intro id id' B B' rb1 rb2 x g1 g2 _ _ _ _ _ _
  rw [(at0 id B g1).1,(at0 id' B' g2).1]
 ·intro id B rb1 x g1 o1 m1 e1
  obtain ⟨rfl,rfl⟩:=at0 id B g1
  rw [Az] at m1; simp at m1; subst m1
  simp [Foot,RB.real] at e1; subst e1
  exact hR
 ·intro k hk hno
  exact BQ _ _ hk
 ·intro j B rb1 x g1 o1 m1 e1
  obtain ⟨rfl,rfl⟩:=at0 j B g1
  rw [Az] at m1; simp at m1; subst m1
  simp [Foot,RB.real] at e1; subst e1
  exact .inr (Nat.le_refl _)
 ·intro j B rb1 x g1 m1 e1
  obtain ⟨rfl,rfl⟩:=at0 j B g1
  rw [Az] at m1; simp at m1; subst m1
  simp [Foot,RB.real] at e1; subst e1
  exact .inr (Nat.le_refl _)
 ·intro j hj
  have hj:1<=j:=hj
  have hne:j≠0:=by omega
  simp only [B5,hne,if_false]
  exact hn j (by omega)
theorem Abi:Af prog 145 (Ent.rd1 NV).F:=by
 intro w R μ vs us bs r outs hmem hnone hreps hF
 unfold Ent.F NV at hF
 dsimp only at hF
 split at hF
 rotate_left
 ·cases hF
 rename_i s c
 obtain ⟨hc,h⟩:=Ad hF
 have hc:=of_decide_eq_true hc
 obtain ⟨rfl,rfl⟩:=Prod.mk.inj (Ao h)
 clear h hF
 match us,hreps with
 | [u0,u1],hreps=>
 have v0:=hreps.2 0 _ u0 rfl rfl
 have v1:=hreps.2 1 _ u1 rfl rfl
 cases v0
 cases v1
 have hsz:(⟨s.toArray⟩:ByteArray).size=s.length:=by simp [ByteArray.size]
 refine (Um (ρ:=R9) YH (by kernel_rfl) ⟨s.toArray⟩ c w (by rw [hsz]; omega)).mono ?_
 rintro e w' ⟨rfl,rfl⟩
 have hcount:Lib.countB ⟨s.toArray⟩ ⟨#[c]⟩=s.count c:=by
  show Lib.count s.toArray.toList [c]=_
  rw [Lib.count_one]
 have hdata:=Lib.splitB_data ⟨#[c]⟩ 0 (s.count c) ⟨s.toArray⟩
 have hcut:(Lib.splitB ⟨#[c]⟩ 0 (s.count c) ⟨s.toArray⟩).map (·.data.toList)=cut c s:=by rw [hdata]; exact Im c s
 rw [hcount]
 generalize Lib.splitB ⟨#[c]⟩ 0 (s.count c) ⟨s.toArray⟩=L at *
 have hl:L.length=(cut c s).length:=by rw [<-hcut,length_map]
 have hlc:=OK c s
 have hcs:=List.count_le_length (a:=c) (l:=s)
 have:=Xs (w:=w) (R:=R) (μ:=μ) (l:=cut c s) (us:=(L.map Value.string).toArray) (e:=R9.t 9) (fun j _=>hnone j (by simp)) hmem.rlt (by unfold maxI; omega) (by simp; omega) (fun i z hi=>by
  rw [<-hcut,getElem?_map] at hi
  obtain ⟨x,hx,rfl⟩:=map_eq_some_iff.1 hi
  simp [hx])
 rw [hlc] at this ⊢
 exact ⟨_,R,_,rfl,this⟩
def Lk (b:UInt8):Bool:=(decide (97<=b.toNat)&&decide (b.toNat<=122))||(decide (48<=b.toNat)&&decide (b.toNat<=57))
def lev (s:List UInt8):Bool:=s.all Lk&&(decide (1<=s.length)&&decide (s.length<=6))
def O6:Gm
 | [.s s],[]=>.need (decide (s.length<=maxI)) (.leaf (.b (lev s),[]))
 | _,_=>.no
def KL:LoopEnt:=⟨35,[0,5,6],[0],[2],fun
 | ([.s s,.i .i64 m,.i .i64 i],[])=>.need (decide (0<=i/\i.toNat<=s.length/\s.length<=maxI/\m=s.length)) (.br ((s.drop i.toNat).all Lk) (.leaf (.exit 0,([.s s],[]))) (.leaf (.ret,([.b false],[]))))
 | _=>.no⟩
def Ky:LoopEnt:=⟨36,[0,3],[0],[2],fun
 | ([.s s,.i .i64 i],[])=>.need (decide (0<=i/\i.toNat<=s.length/\s.length<=maxI)) (.br ((s.drop i.toNat).all Lk) (.leaf (.exit 0,([.s s],[]))) (.leaf (.ret,([.b false],[]))))
 | _=>.no⟩
theorem KJ (s:List UInt8) (m i:Int):Av prog (Ab [(125,.rd1 A3)]) (Ab [(2,KL)]) 0 (body f161 0) KL ([.s s,.j m,.j i],[]) =
 ((ifB (decide (i<m)) (ifT (decide ((0:Int)<=i)) (Ai s[i.toNat]? fun z=>ifB (decide ((↑z.toNat:Int)<(97:Int))) (ifT (decide ((0:Int)<=i)) (Ai
 s[i.toNat]? fun z=>ifB (decide ((↑z.toNat:Int)<(48:Int))) (some (Ex.ret,[V.b false],[])) (ifT (decide ((0:Int)<=i)) (Ai s[i.toNat]? fun z=>ifB (decide
 ((↑z.toNat:Int)>(57:Int))) (some (Ex.ret,[V.b false],[])) (some (Ex.normal,[V.s s,V.j m,V.j (i64.wrap (i+(1:Int)))],[])))))) (ifT
 (decide ((0:Int)<=i)) (Ai s[i.toNat]? fun z=>ifB (decide ((↑z.toNat:Int)>(122:Int))) (ifT (decide ((0:Int)<=i)) (Ai s[i.toNat]? fun z=>ifB (decide
 ((↑z.toNat:Int)<(48:Int))) (some (Ex.ret,[V.b false],[])) (ifT (decide ((0:Int)<=i)) (Ai s[i.toNat]? fun z=>ifB (decide ((↑z.toNat:Int)>(57:Int)))
 (some (Ex.ret,[V.b false],[])) (some (Ex.normal,[V.s s,V.j m,V.j (i64.wrap (i+(1:Int)))],[])))))) (some (Ex.normal,[V.s s,V.j m,V.i
 .i64 (i64.wrap (i+(1:Int)))],[])))))) (some (Ex.exit 0,[V.s s],[]))):_):=by kernel_rfl
theorem YZ:Ar prog (Ab [(125,.rd1 A3)]) (Ab [(2,KL)]) 0 (f161.body.getD .skip):=by
 refine An (a:=body f161 0) (by kernel_rfl) fun d e d' h=>?_
 unfold KL at h
 dsimp only at h
 split at h
 ·rename_i s m i
  obtain ⟨hc,hx⟩:=Ad h
  clear h
  obtain ⟨h0,h1,h2,rfl⟩:=of_decide_eq_true hc
  obtain ⟨i,rfl⟩:=eq_ofNat_of_zero_le h0
  rw [ntN] at h1 hx
  refine B7 (l:=s) Lk (fun i=>([.s s,.j (↑s.length:Int),.j (i:Int)],[])) (ex:=(.exit 0,([.s s],[]))) (rt:=(.ret,([.b false],[]))) (by simp) (by simp) (fun i hi=>?_) ?_ (s.length-i) i (by omega) e d' hx
  ·have hr:=KJ s s.length i
   rw [Ag (dcT (by omega))] at hr
   simp only [ntN,gtE hi,Am,Ap (n:=i) (by omega)] at hr
   refine hr.trans ?_
   have hb:=s[i].toNat_lt
   have hz:(0:Int)<=(i:Int):=by omega
   simp only [hz,decide_true,Dc]
   unfold Lk
   generalize s[i].toNat=b at *
   have c1:decide ((b:Int)<97) = !decide (97<=b):=by rw [<-decide_not]; exact decide_eq_decide.2 (by omega)
   have c2:decide ((b:Int)>122) = !decide (b<=122):=by rw [<-decide_not]; exact decide_eq_decide.2 (by omega)
   have c3:decide ((b:Int)<48) = !decide (48<=b):=by rw [<-decide_not]; exact decide_eq_decide.2 (by omega)
   have c4:decide ((b:Int)>57) = !decide (b<=57):=by rw [<-decide_not]; exact decide_eq_decide.2 (by omega)
   have d1:decide ((b:Int)>=97)=decide (97<=b):=decide_eq_decide.2 (by omega)
   have d2:decide ((b:Int)<=122)=decide (b<=122):=decide_eq_decide.2 (by omega)
   have d3:decide ((b:Int)>=48)=decide (48<=b):=decide_eq_decide.2 (by omega)
   have d4:decide ((b:Int)<=57)=decide (b<=57):=decide_eq_decide.2 (by omega)
   simp only [c1,c2,c3,c4]
   clear c1 c2 c3 c4 d1 d2 d3 d4
   generalize decide (97<=b)=x1
   generalize decide (b<=122)=x2
   generalize decide (48<=b)=x3
   generalize decide (b<=57)=x4
   cases x1<;>cases x2<;>cases x3<;>cases x4<;>rfl
  ·have hr:=KJ s s.length s.length
   rw [Ac (dcF (by omega))] at hr
   exact hr
 ·cases h
theorem WR (s:List UInt8) (hm:s.length<=maxI):Ax prog (Ab [(125,.rd1 A3)]) (Ab [(2,KL)]) f161 [.s s] []=some (.b (lev s),[]):=by
 have e:Ax prog (Ab [(125,.rd1 A3)]) (Ab [(2,KL)]) f161 [.s s] []=((ifT (decide ((0:Int)<=(0:Int)/\0<=s.length/\s.length<=maxI/\(↑s.length:Int)=(↑s.length:Int))) (ifB ((drop 0 s).all Lk) (some (V.b
 (decide ((1:Int)<=(↑s.length:Int)/\(↑s.length:Int)<=(6:Int))),[])) (some (V.b false,[])))):_):=by kernel_rfl
 rw [e]
 clear e
 rw [Aa (dcT ⟨by omega,by omega,hm,by trivial⟩)]
 unfold lev
 simp only [drop_zero]
 cases s.all Lk with
 | true=>
  rw [Be]
  by_cases q1:1<=s.length<;>by_cases q2:s.length<=6<;>simp [q1,q2]<;>omega
 | false=>rfl
theorem Ad5:Af prog 161 (Ent.rd1 O6).F:=by
 refine Ae (kc func125 Dl KnowsL.nil).knows (Λ:=(Ab [(2,KL)])) func161 (c:=f161.body.getD .skip) (by kernel_rfl) fun vs bs r' hq hv hb=>?_
 unfold Ent.F O6 at hq
 dsimp only at hq
 split at hq
 ·rename_i s
  obtain ⟨hc,hx⟩:=Ad hq
  exact ⟨YZ,(WR s (of_decide_eq_true hc)).trans hx⟩
 ·cases hq
theorem Kx (s:List UInt8) (i:Int):Av prog (Ab [(115,.rd1 A3)]) (Ab [(2,Ky)]) 0 (body f154 0) Ky ([.s s,.j i],[]) =
 ((ifB (decide (i<(↑s.length:Int))) (ifT (decide ((0:Int)<=i)) (Ai s[i.toNat]? fun z=>ifB (decide ((↑z.toNat:Int)>=(97:Int))) (ifT (decide ((0:Int)<=i))
 (Ai s[i.toNat]? fun z=>ifB (decide ((↑z.toNat:Int)<=(122:Int))) (some (Ex.normal,[V.s s,V.j (i64.wrap (i+(1:Int)))],[])) (ifT (decide ((0 :
 Int)<=i)) (Ai s[i.toNat]? fun z=>ifB (decide ((↑z.toNat:Int)>=(48:Int))) (ifT (decide ((0:Int)<=i)) (Ai s[i.toNat]? fun z=>ifB (!decide ((↑z.toNat :
 Int)<=(57:Int))) (some (Ex.ret,[V.b false],[])) (some (Ex.normal,[V.s s,V.j (i64.wrap (i+(1:Int)))],[])))) (some (Ex.ret,[V.b false],[]))))))
 (ifT (decide ((0:Int)<=i)) (Ai s[i.toNat]? fun z=>ifB (decide ((↑z.toNat:Int)>=(48:Int))) (ifT (decide ((0:Int)<=i)) (Ai s[i.toNat]? fun z=>ifB
 (!decide ((↑z.toNat:Int)<=(57:Int))) (some (Ex.ret,[V.b false],[])) (some (Ex.normal,[V.s s,V.j (i64.wrap (i+(1:Int)))],[])))) (some (Ex.ret,
 [V.b false],[])))))) (some (Ex.exit 0,[V.s s],[]))):_):=by kernel_rfl
theorem YI:Ar prog (Ab [(115,.rd1 A3)]) (Ab [(2,Ky)]) 0 (f154.body.getD .skip):=by
 refine An (a:=body f154 0) (by kernel_rfl) fun d e d' h=>?_
 unfold Ky at h
 dsimp only at h
 split at h
 ·rename_i s i
  obtain ⟨hc,hx⟩:=Ad h
  clear h
  obtain ⟨h0,h1,h2⟩:=of_decide_eq_true hc
  obtain ⟨i,rfl⟩:=eq_ofNat_of_zero_le h0
  rw [ntN] at h1 hx
  refine B7 (l:=s) Lk (fun i=>([.s s,.j (i:Int)],[])) (ex:=(.exit 0,([.s s],[]))) (rt:=(.ret,([.b false],[]))) (by simp) (by simp) (fun i hi=>?_) ?_ (s.length-i) i (by omega) e d' hx
  ·have hr:=Kx s i
   rw [Ag (dcT (by omega))] at hr
   simp only [ntN,gtE hi,Am,Ap (n:=i) (by omega)] at hr
   refine hr.trans ?_
   have hb:=s[i].toNat_lt
   have hz:(0:Int)<=(i:Int):=by omega
   simp only [hz,decide_true,Dc]
   unfold Lk
   generalize s[i].toNat=b at *
   have c1:decide ((b:Int)<97) = !decide (97<=b):=by rw [<-decide_not]; exact decide_eq_decide.2 (by omega)
   have c2:decide ((b:Int)>122) = !decide (b<=122):=by rw [<-decide_not]; exact decide_eq_decide.2 (by omega)
   have c3:decide ((b:Int)<48) = !decide (48<=b):=by rw [<-decide_not]; exact decide_eq_decide.2 (by omega)
   have c4:decide ((b:Int)>57) = !decide (b<=57):=by rw [<-decide_not]; exact decide_eq_decide.2 (by omega)
   have d1:decide ((b:Int)>=97)=decide (97<=b):=decide_eq_decide.2 (by omega)
   have d2:decide ((b:Int)<=122)=decide (b<=122):=decide_eq_decide.2 (by omega)
   have d3:decide ((b:Int)>=48)=decide (48<=b):=decide_eq_decide.2 (by omega)
   have d4:decide ((b:Int)<=57)=decide (b<=57):=decide_eq_decide.2 (by omega)
   simp only [d1,d2,d3,d4]
   clear c1 c2 c3 c4 d1 d2 d3 d4
   generalize decide (97<=b)=x1
   generalize decide (b<=122)=x2
   generalize decide (48<=b)=x3
   generalize decide (b<=57)=x4
   cases x1<;>cases x2<;>cases x3<;>cases x4<;>rfl
  ·have hr:=Kx s s.length
   rw [Ac (dcF (by omega))] at hr
   exact hr
 ·cases h
theorem Ws (s:List UInt8) (hm:s.length<=maxI):Ax prog (Ab [(115,.rd1 A3)]) (Ab [(2,Ky)]) f154 [.s s] []=some (.b (lev s),[]):=by
 have e:Ax prog (Ab [(115,.rd1 A3)]) (Ab [(2,Ky)]) f154 [.s s] []=((ifT (decide ((0:Int)<=(0:Int)/\0<=s.length/\s.length<=maxI)) (ifB ((drop 0 s).all Lk) (some (V.b (decide ((1:Int)<=(↑s.length:Int)/\
 (↑s.length:Int)<=(6:Int))),[])) (some (V.b false,[])))):_):=by kernel_rfl
 rw [e]
 clear e
 rw [Aa (dcT ⟨by omega,by omega,hm⟩)]
 unfold lev
 simp only [drop_zero]
 cases s.all Lk with
 | true=>
  rw [Be]
  by_cases q1:1<=s.length<;>by_cases q2:s.length<=6<;>simp [q1,q2]<;>omega
 | false=>rfl
theorem Adv:Af prog 154 (Ent.rd1 O6).F:=by
 refine Ae (kc func115 JD KnowsL.nil).knows (Λ:=(Ab [(2,Ky)])) func154 (c:=f154.body.getD .skip) (by kernel_rfl) fun vs bs r' hq hv hb=>?_
 unfold Ent.F O6 at hq
 dsimp only at hq
 split at hq
 ·rename_i s
  obtain ⟨hc,hx⟩:=Ad hq
  exact ⟨YI,(Ws s (of_decide_eq_true hc)).trans hx⟩
 ·cases hq
def tkS (f:List UInt8->List UInt8->Bool):List (List UInt8)->List (List UInt8)->Option Bool
 | [],_=>none
 | x::p,q=>if x=[35] then some true else match q with
  | []=>some false
  | y::q=>if f x y=true then tkS f p q else some false
def tk (f:List UInt8->List UInt8->Bool) (p q:List (List UInt8)):Bool:=(tkS f p q).getD (decide (p.length=q.length))
def inL (x y:List UInt8):Bool:=x==y||(x==[43]&&!(y==[35]))
def EZ (x y:List UInt8):Bool:=x==[43]||x==y
def inG:Gm
 | [.sl .str p,.sl .str q],[]=>.leaf (.b (tk inL p q),[])
 | _,_=>.no
def Ac5:Gm
 | [.sl .str p,.sl .str q],[]=>.leaf (.b (tk EZ p q),[])
 | _,_=>.no
def NR:LoopEnt:=⟨47,[0,1,7,8,9],[0,1],[4],fun
 | ([.sl .str p,.sl .str q,.sl .str p2,.i .i64 m,.i .i64 i],[])=>.need (decide (0<=i/\p2=p/\m=p.length/\i.toNat<=p.length/\i.toNat<=q.length/\p.length<=maxI/\q.length<=maxI)) (.br (tkS inL (p.drop i.toNat) (q.drop i.toNat)).isNone (.leaf (.exit 0,([.sl .str p,.sl .str q],[]))) (.leaf (.ret,([.b ((tkS inL (p.drop i.toNat) (q.drop i.toNat)).getD false)],[]))))
 | _=>.no⟩
def Ib:LoopEnt:=⟨38,[0,1,7,8,9],[0,1],[4],fun
 | ([.sl .str p,.sl .str q,.sl .str p2,.i .i64 m,.i .i64 i],[])=>.need (decide (0<=i/\p2=p/\m=p.length/\i.toNat<=p.length/\i.toNat<=q.length/\p.length<=maxI/\q.length<=maxI)) (.br (tkS EZ (p.drop i.toNat) (q.drop i.toNat)).isNone (.leaf (.exit 0,([.sl .str p,.sl .str q],[]))) (.leaf (.ret,([.b ((tkS EZ (p.drop i.toNat) (q.drop i.toNat)).getD false)],[]))))
 | _=>.no⟩
theorem Hx (f:List UInt8->List UInt8->Bool) (x:List UInt8) (p q:List (List UInt8)):tkS f (x::p) q=if x=[35] then some true else match q with
  | []=>some false
  | y::q=>if f x y=true then tkS f p q else some false:=by cases q<;>rfl
theorem M4 (p q p2:List (List UInt8)) (m i:Int):Av prog (Ab []) (Ab [(2,NR)]) 0 (body f107 0) NR ([.sl .str p,.sl .str q,.sl .str p2,.j m,.j i],[]) =
 ((ifB (decide (i<m)) (ifT (decide ((0:Int)<=i)&&decide (i<(↑p2.length:Int))) (Ai p2[i.toNat]? fun z=>ifB (z==[(35:UInt8)]) (some (Ex.ret,[V.b true],
 [])) (ifB (i==(↑q.length:Int)) (some (Ex.ret,[V.b false],[])) (ifT (decide ((0:Int)<=i)&&decide (i<(↑q.length:Int))) (Ai q[i.toNat]? fun z_1=>ifB (!z
 == z_1) (ifB (!z==[(43:UInt8)]) (some (Ex.ret,[V.b false],[])) (ifT (decide ((0:Int)<=i)&&decide (i<(↑q.length:Int))) (Ai q[i.toNat]? fun z=>ifB (z
 == [(35:UInt8)]) (some (Ex.ret,[V.b false],[])) (some (Ex.normal,[V.sl Cd.str p,V.sl Cd.str q,V.sl Cd.str p2,V.j m,V.j (i64.wrap (i+(1 :
 Int)))],[]))))) (some (Ex.normal,[V.sl Cd.str p,V.sl Cd.str q,V.sl Cd.str p2,V.j m,V.j (i64.wrap (i+(1:Int)))],[]))))))) (some (Ex.exit 0,
 [V.sl Cd.str p,V.sl Cd.str q],[]))):_):=by kernel_rfl
theorem Pf (p q:List (List UInt8)) (hp:p.length<=maxI) (hq:q.length<=maxI) : ∀ (j i:Nat),i+j=p.length->i<=q.length->∀ e d',(Br.br (tkS inL (p.drop i) (q.drop i)).isNone (.leaf (.exit 0,([.sl .str p,.sl .str q],[]))) (.leaf (.ret,([.b ((tkS inL (p.drop i) (q.drop i)).getD false)],[]))):Br (Ex×Dt)).run=some (e,d')->Runs prog (Ab []) (Ab [(2,NR)]) 0 (body f107 0) NR ([.sl .str p,.sl .str q,.sl .str p,.j (↑p.length:Int),.j (i:Int)],[]) e d'
 | 0,i,hi,hiq,e,d',hx=>by
  have hr:=M4 p q p p.length i
  rw [Ac (dcF (by omega))] at hr
  rw [drop_eq_nil_of_le (by omega)] at hx
  cases hx
  exact .stop _ _ _ hr (by simp)
 | j+1,i,hi,hiq,e,d',hx=>by
  have hil:i<p.length:=by omega
  have hr:=M4 p q p p.length i
  rw [Ag (dcT (by omega)),Aa (by simp only [anE,dcE]; omega)] at hr
  simp only [ntN,gtE hil,Am,Ap (n:=i) (by omega)] at hr
  rw [drop_eq_getElem_cons hil,Hx] at hx
  by_cases q1:p[i]=[35]
  ·rw [if_pos q1] at hx
   cases hx
   rw [Ag (by rw [q1]; rfl)] at hr
   exact .stop _ _ _ hr (by simp)
  rw [if_neg q1] at hx
  rw [Ac (beq_false_of_ne q1)] at hr
  by_cases q2:i=q.length
  ·rw [drop_eq_nil_of_le (by omega)] at hx
   cases hx
   rw [Ag (by rw [q2]; simp)] at hr
   exact .stop _ _ _ hr (by simp)
  have hiq2:i<q.length:=by omega
  rw [Ac (beq_false_of_ne (by omega))] at hr
  simp only [gtE hiq2,Am] at hr
  have hb:(decide (0<=(i:Int))&&decide ((i:Int)<(q.length:Int)))=true:=by simp only [anE,dcE]; omega
  simp only [hb,Dc] at hr
  rw [drop_eq_getElem_cons hiq2] at hx
  have e35:(p[i]==[35])=false:=beq_false_of_ne q1
  by_cases q3:inL p[i] q[i]=true
  ·simp only [if_pos q3] at hx
   refine .step _ _ _ _ (hr.trans ?_) (Pf p q hp hq j (i+1) (by omega) (by omega) e d' hx)
   revert q3 e35
   unfold inL
   generalize p[i]=x
   generalize q[i]=y
   intro e35 q3
   by_cases z1:x=y
   ·subst z1; simp at q3 ⊢
   ·by_cases z2:x=[43]
    ·subst z2
     by_cases z3:y=[35]
     ·subst z3; simp_all
     ·simp_all
    ·simp_all
  ·simp only [if_neg q3] at hx
   cases hx
   refine .stop _ _ _ (hr.trans ?_) (by simp)
   revert q3 e35
   unfold inL
   generalize p[i]=x
   generalize q[i]=y
   intro e35 q3
   by_cases z1:x=y
   ·subst z1; simp at q3 ⊢
   ·by_cases z2:x=[43]
    ·subst z2
     by_cases z3:y=[35]
     ·subst z3; simp_all
     ·simp_all
    ·simp_all
theorem Abd:Ar prog (Ab []) (Ab [(2,NR)]) 0 (f107.body.getD .skip):=by
 refine An (a:=body f107 0) (by kernel_rfl) fun d e d' h=>?_
 unfold NR at h
 dsimp only at h
 split at h
 ·rename_i p q p2 m i
  obtain ⟨hc,hx⟩:=Ad h
  clear h
  obtain ⟨h0,rfl,rfl,h1,h2,h3,h4⟩:=of_decide_eq_true hc
  obtain ⟨i,rfl⟩:=eq_ofNat_of_zero_le h0
  rw [ntN] at h1 h2 hx
  exact Pf p2 q h3 h4 (p2.length-i) i (by omega) h2 e d' hx
 ·cases h
theorem Y9 (p q:List (List UInt8)) (hp:p.length<=maxI) (hq:q.length<=maxI):Ax prog (Ab []) (Ab [(2,NR)]) f107 [.sl .str p,.sl .str q] []=some (.b (tk inL p q),[]):=by
 have e:Ax prog (Ab []) (Ab [(2,NR)]) f107 [.sl .str p,.sl .str q] []=((ifT (decide ((0:Int)<=(0:Int)/\p=p/\(↑p.length:Int)=(↑p.length:Int)/\0<=p.length/\0<=q.length/\p.length<=maxI/\q.length<=maxI)) (ifB
 (tkS inL (drop 0 p) (drop 0 q)).isNone (some (V.b ((↑p.length:Int)==(↑q.length:Int)),[])) (some (V.b ((tkS inL (drop 0 p)
 (drop 0 q)).getD false),[])))):_):=by kernel_rfl
 rw [e]
 clear e
 rw [Aa (dcT ⟨by omega,by trivial,by trivial,by omega,by omega,hp,hq⟩)]
 unfold tk
 simp only [drop_zero]
 cases tkS inL p q with
 | none=>
  rw [Ag (by rfl)]
  by_cases h:p.length=q.length
  ·simp [h]
  ·simp [h]<;>omega
 | some b=>rfl
theorem tin:Af prog 107 (Ent.rd1 inG).F:=by
 refine Ae KnowsL.nil.knows (Λ:=Ab [(2,NR)]) func107 (c:=f107.body.getD .skip) (by kernel_rfl) fun vs bs r' hq hv hb=>?_
 unfold Ent.F inG at hq
 dsimp only at hq
 split at hq
 ·rename_i p q
  exact ⟨Abd,(Y9 p q (hv (.sl .str p) (by simp)).1 (hv (.sl .str q) (by simp)).1).trans hq⟩
 ·cases hq
theorem L5 (p q p2:List (List UInt8)) (m i:Int):Av prog (Ab []) (Ab [(2,Ib)]) 0 (body f135 0) Ib ([.sl .str p,.sl .str q,.sl .str p2,.j m,.j i],[]) =
 ((ifB (decide (i<m)) (ifT (decide ((0:Int)<=i)&&decide (i<(↑p2.length:Int))) (Ai p2[i.toNat]? fun z=>ifB (z==[(35:UInt8)]) (some (Ex.ret,[V.b true],
 [])) (ifB (i==(↑q.length:Int)) (some (Ex.ret,[V.b false],[])) (ifB (!z==[(43:UInt8)]) (ifT (decide ((0:Int)<=i)&&decide (i<(↑q.length:Int))) (Ai
 q[i.toNat]? fun z_1=>ifB (!z==z_1) (some (Ex.ret,[V.b false],[])) (some (Ex.normal,[V.sl Cd.str p,V.sl Cd.str q,V.sl Cd.str p2,V.j m,V.i .i64
 (i64.wrap (i+(1:Int)))],[])))) (some (Ex.normal,[V.sl Cd.str p,V.sl Cd.str q,V.sl Cd.str p2,V.j m,V.j (i64.wrap (i+(1:Int)))],
 [])))))) (some (Ex.exit 0,[V.sl Cd.str p,V.sl Cd.str q],[]))):_):=by kernel_rfl
theorem Nz (p q:List (List UInt8)) (hp:p.length<=maxI) (hq:q.length<=maxI) : ∀ (j i:Nat),i+j=p.length->i<=q.length->∀ e d',(Br.br (tkS EZ (p.drop i) (q.drop i)).isNone (.leaf (.exit 0,([.sl .str p,.sl .str q],[]))) (.leaf (.ret,([.b ((tkS EZ (p.drop i) (q.drop i)).getD false)],[]))):Br (Ex×Dt)).run=some (e,d')->Runs prog (Ab []) (Ab [(2,Ib)]) 0 (body f135 0) Ib ([.sl .str p,.sl .str q,.sl .str p,.j (↑p.length:Int),.j (i:Int)],[]) e d'
 | 0,i,hi,hiq,e,d',hx=>by
  have hr:=L5 p q p p.length i
  rw [Ac (dcF (by omega))] at hr
  rw [drop_eq_nil_of_le (by omega)] at hx
  cases hx
  exact .stop _ _ _ hr (by simp)
 | j+1,i,hi,hiq,e,d',hx=>by
  have hil:i<p.length:=by omega
  have hr:=L5 p q p p.length i
  rw [Ag (dcT (by omega)),Aa (by simp only [anE,dcE]; omega)] at hr
  simp only [ntN,gtE hil,Am,Ap (n:=i) (by omega)] at hr
  rw [drop_eq_getElem_cons hil,Hx] at hx
  by_cases q1:p[i]=[35]
  ·rw [if_pos q1] at hx
   cases hx
   rw [Ag (by rw [q1]; rfl)] at hr
   exact .stop _ _ _ hr (by simp)
  rw [if_neg q1] at hx
  rw [Ac (beq_false_of_ne q1)] at hr
  by_cases q2:i=q.length
  ·rw [drop_eq_nil_of_le (by omega)] at hx
   cases hx
   rw [Ag (by rw [q2]; simp)] at hr
   exact .stop _ _ _ hr (by simp)
  have hiq2:i<q.length:=by omega
  rw [Ac (beq_false_of_ne (by omega))] at hr
  simp only [gtE hiq2,Am] at hr
  have hb:(decide (0<=(i:Int))&&decide ((i:Int)<(q.length:Int)))=true:=by simp only [anE,dcE]; omega
  simp only [hb,Dc] at hr
  rw [drop_eq_getElem_cons hiq2] at hx
  have e35:(p[i]==[35])=false:=beq_false_of_ne q1
  by_cases q3:EZ p[i] q[i]=true
  ·simp only [if_pos q3] at hx
   refine .step _ _ _ _ (hr.trans ?_) (Nz p q hp hq j (i+1) (by omega) (by omega) e d' hx)
   revert q3 e35
   unfold EZ
   generalize p[i]=x
   generalize q[i]=y
   intro e35 q3
   by_cases z2:x=[43]
   ·subst z2; simp_all
   ·by_cases z1:x=y
    ·subst z1; simp_all
    ·simp_all
  ·simp only [if_neg q3] at hx
   cases hx
   refine .stop _ _ _ (hr.trans ?_) (by simp)
   revert q3 e35
   unfold EZ
   generalize p[i]=x
   generalize q[i]=y
   intro e35 q3
   by_cases z2:x=[43]
   ·subst z2; simp_all
   ·by_cases z1:x=y
    ·subst z1; simp_all
    ·simp_all
theorem ZI:Ar prog (Ab []) (Ab [(2,Ib)]) 0 (f135.body.getD .skip):=by
 refine An (a:=body f135 0) (by kernel_rfl) fun d e d' h=>?_
 unfold Ib at h
 dsimp only at h
 split at h
 ·rename_i p q p2 m i
  obtain ⟨hc,hx⟩:=Ad h
  clear h
  obtain ⟨h0,rfl,rfl,h1,h2,h3,h4⟩:=of_decide_eq_true hc
  obtain ⟨i,rfl⟩:=eq_ofNat_of_zero_le h0
  rw [ntN] at h1 h2 hx
  exact Nz p2 q h3 h4 (p2.length-i) i (by omega) h2 e d' hx
 ·cases h
theorem XV (p q:List (List UInt8)) (hp:p.length<=maxI) (hq:q.length<=maxI):Ax prog (Ab []) (Ab [(2,Ib)]) f135 [.sl .str p,.sl .str q] []=some (.b (tk EZ p q),[]):=by
 have e:Ax prog (Ab []) (Ab [(2,Ib)]) f135 [.sl .str p,.sl .str q] []=((ifT (decide ((0:Int)<=(0:Int)/\p=p/\(↑p.length:Int)=(↑p.length:Int)/\0<=p.length/\0<=q.length/\p.length<=maxI/\q.length<=maxI)) (ifB
 (tkS EZ (drop 0 p) (drop 0 q)).isNone (some (V.b ((↑p.length:Int)==(↑q.length:Int)),[])) (some (V.b ((tkS EZ (drop 0 p)
 (drop 0 q)).getD false),[])))):_):=by kernel_rfl
 rw [e]
 clear e
 rw [Aa (dcT ⟨by omega,by trivial,by trivial,by omega,by omega,hp,hq⟩)]
 unfold tk
 simp only [drop_zero]
 cases tkS EZ p q with
 | none=>
  rw [Ag (by rfl)]
  by_cases h:p.length=q.length
  ·simp [h]
  ·simp [h]<;>omega
 | some b=>rfl
theorem Afo:Af prog 135 (Ent.rd1 Ac5).F:=by
 refine Ae KnowsL.nil.knows (Λ:=Ab [(2,Ib)]) func135 (c:=f135.body.getD .skip) (by kernel_rfl) fun vs bs r' hq hv hb=>?_
 unfold Ent.F Ac5 at hq
 dsimp only at hq
 split at hq
 ·rename_i p q
  exact ⟨ZI,(XV p q (hv (.sl .str p) (by simp)).1 (hv (.sl .str q) (by simp)).1).trans hq⟩
 ·cases hq


def D0 (s:List UInt8):Bool:=s==[43]||(s==[35]||lev s)
def lvB (l:List (List UInt8)):Bool:=decide (l.length<=6)&&(!(l.any fun z=>!D0 z)&&!decide ([35]∈l.take (l.length-1)))
def tpB (l:List (List UInt8)):Bool:=lvB l&&!(l.any fun z=>!lev z)
def Tz:Gm
 | [.s s],[]=>.need (decide (s.length<=maxI)) (.leaf (.b (D0 s),[]))
 | _,_=>.no
def Sa:Gm
 | [.s s],[]=>.need (decide (s.length<=maxI)) (.leaf (.b (!D0 s),[]))
 | _,_=>.no
def Rf:Gm
 | [.s s],[]=>.need (decide (s.length<=maxI)) (.leaf (.b (!lev s),[]))
 | _,_=>.no
theorem UA (s:List UInt8) (hc:s.length<=maxI):Ax prog (Ab [(161,.rd1 O6)]) (Ab []) f148 [.s s] []=(.leaf (.b (D0 s),[]):Br (V×List (Option Blk))).run:=by
 have e:Ax prog (Ab [(161,.rd1 O6)]) (Ab []) f148 [.s s] []=((ifB (s==[(43:UInt8)]) (some (V.b true,[])) (ifB (s==[(35:UInt8)]) (some (V.b true,[])) (ifT (decide (s.length<=maxI)) (some (V.b (lev s),[]))))):_):=by kernel_rfl
 rw [e]
 clear e
 rw [Aa (dcT hc)]
 unfold D0
 cases s==[43]<;>cases s==[35]<;>cases lev s<;>rfl
theorem Aef:Af prog 148 (Ent.rd1 Tz).F:=by
 refine Ae (kc func161 Ad5 KnowsL.nil).knows (Λ:=Ab []) func148 (c:=f148.body.getD .skip) (by kernel_rfl) fun vs bs r hq hv hb=>?_
 unfold Ent.F Tz at hq
 dsimp only at hq
 split at hq
 ·rename_i s
  obtain ⟨hc,hq⟩:=Ad hq
  exact ⟨Ak _,(UA s (of_decide_eq_true hc)).trans hq⟩
 ·cases hq
theorem Zp (s:List UInt8) (hc:s.length<=maxI):Ax prog (Ab [(148,.rd1 Tz)]) (Ab []) f147 [.s s] []=(.leaf (.b (!D0 s),[]):Br (V×List (Option Blk))).run:=by
 have e:Ax prog (Ab [(148,.rd1 Tz)]) (Ab []) f147 [.s s] []=((ifT (decide (s.length<=maxI)) (some (V.b !D0 s,[]))):_):=by kernel_rfl
 rw [e]
 clear e
 rw [Aa (dcT hc)]
 rfl
theorem lv1:Af prog 147 (Ent.rd1 Sa).F:=by
 refine Ae (kc func148 Aef KnowsL.nil).knows (Λ:=Ab []) func147 (c:=f147.body.getD .skip) (by kernel_rfl) fun vs bs r hq hv hb=>?_
 unfold Ent.F Sa at hq
 dsimp only at hq
 split at hq
 ·rename_i s
  obtain ⟨hc,hq⟩:=Ad hq
  exact ⟨Ak _,(Zp s (of_decide_eq_true hc)).trans hq⟩
 ·cases hq
theorem Y7 (s:List UInt8) (hc:s.length<=maxI):Ax prog (Ab [(161,.rd1 O6)]) (Ab []) f160 [.s s] []=(.leaf (.b (!lev s),[]):Br (V×List (Option Blk))).run:=by
 have e:Ax prog (Ab [(161,.rd1 O6)]) (Ab []) f160 [.s s] []=((ifT (decide (s.length<=maxI)) (some (V.b !lev s,[]))):_):=by kernel_rfl
 rw [e]
 clear e
 rw [Aa (dcT hc)]
 rfl
theorem tp1:Af prog 160 (Ent.rd1 Rf).F:=by
 refine Ae (kc func161 Ad5 KnowsL.nil).knows (Λ:=Ab []) func160 (c:=f160.body.getD .skip) (by kernel_rfl) fun vs bs r hq hv hb=>?_
 unfold Ent.F Rf at hq
 dsimp only at hq
 split at hq
 ·rename_i s
  obtain ⟨hc,hq⟩:=Ad hq
  exact ⟨Ak _,(Y7 s (of_decide_eq_true hc)).trans hq⟩
 ·cases hq
def Bh  : List (List UInt8)->Nat->Int
 | [],_=>-1
 | z::l,n=>if (!D0 z)=true then (n:Int) else Bh  l (n+1)
def De:LoopEnt:=⟨19,[0,1,4,7,8],[],[4],fun
 | ([.sl .str l,.fn 147 [] [],.i .i64 _,.i .i64 m,.i .i64 n],[])=>
  .need (decide ((∀ z∈l,z.length<=4000000000)/\0<=n/\n.toNat<=l.length/\l.length<=maxI/\m=l.length)) (.br (decide (Bh  (l.drop n.toNat) n.toNat<0)) (.leaf (.exit 0,([],[]))) (.leaf (.ret,([.i .i64 (Bh  (l.drop n.toNat) n.toNat)],[]))))
 | _=>.no⟩
def HR:Gm
 | [.sl .str l,.fn 147 [] []],[]=>.need (decide (∀ z∈l,z.length<=4000000000)) (.leaf (.i .i64 (Bh  l 0),[]))
 | _,_=>.no
def HW:Gm
 | [.sl .str l,.fn 147 [] []],[]=>.need (decide (∀ z∈l,z.length<=4000000000)) (.leaf (.b (l.any (fun z:(List UInt8)=>!D0 z)),[]))
 | _,_=>.no
def Bg  : List (List UInt8)->Nat->Int
 | [],_=>-1
 | z::l,n=>if (!lev z)=true then (n:Int) else Bg  l (n+1)
def Dd:LoopEnt:=⟨19,[0,1,4,7,8],[],[4],fun
 | ([.sl .str l,.fn 160 [] [],.i .i64 _,.i .i64 m,.i .i64 n],[])=>
  .need (decide ((∀ z∈l,z.length<=4000000000)/\0<=n/\n.toNat<=l.length/\l.length<=maxI/\m=l.length)) (.br (decide (Bg  (l.drop n.toNat) n.toNat<0)) (.leaf (.exit 0,([],[]))) (.leaf (.ret,([.i .i64 (Bg  (l.drop n.toNat) n.toNat)],[]))))
 | _=>.no⟩
def HP:Gm
 | [.sl .str l,.fn 160 [] []],[]=>.need (decide (∀ z∈l,z.length<=4000000000)) (.leaf (.i .i64 (Bg  l 0),[]))
 | _,_=>.no
def HV:Gm
 | [.sl .str l,.fn 160 [] []],[]=>.need (decide (∀ z∈l,z.length<=4000000000)) (.leaf (.b (l.any (fun z:(List UInt8)=>!lev z)),[]))
 | _,_=>.no
theorem GJ  (l:List (List UInt8)) (r:Int) (n:Nat):Av prog (Ab [(147,.rd1 Sa)]) (Ab [(2,De)]) 0 (body f186 0) De ([.sl .str l,.fn 147 [] [],.j r,.j (↑l.length:Int),.j n],[]) =
 ((ifB (decide ((↑n:Int)<(↑l.length:Int))) (ifT (decide ((0:Int)<=(↑n:Int))&&decide ((↑n:Int)<(↑l.length:Int))) (Ai l[((↑n:Int)).toNat]? fun z=>ifT
 (decide (List.length z<=maxI)) (ifB (!D0 z) (some (Ex.ret,[V.j ((↑n:Int))],[])) (some (Ex.normal,[V.sl Cd.str l,V.fn 147 [] [],V.j r,
 V.j (↑l.length:Int),V.j (i64.wrap ((↑n:Int)+(1:Int)))],[]))))) (some (Ex.exit 0,[],[]))):_):=by kernel_rfl
theorem HQ {l:List (List UInt8)} {r:Int} (hs:(∀ z∈l,z.length<=4000000000)) (hx:l.length<=maxI) : ∀ (j n:Nat),n+j=l.length->∀ e d',(.br (decide (Bh  (l.drop n) n<0)) (.leaf (.exit 0,([],[]))) (.leaf (.ret,([.j (Bh  (l.drop n) n)],[]))):Br (Ex×Dt)).run=some (e,d')->
  Runs prog (Ab [(147,.rd1 Sa)]) (Ab [(2,De)]) 0 (body f186 0) De ([.sl .str l,.fn 147 [] [],.j r,.j (↑l.length:Int),.j n],[]) e d'
 | 0,n,hn,e,d',h=>by
  have e1:l.drop n=[]:=drop_eq_nil_of_le (by omega)
  rw [e1,BB,Bh,if_pos (by omega)] at h
  cases h
  refine .stop _ _ _ ((GJ  l r n).trans ?_) (by simp)
  simp [show ¬n<l.length by omega]
 | j+1,n,hn,e,d',h=>by
  have h1:n<l.length:=by omega
  have hr:=GJ  l r n
  simp only [ntN,gtE h1,Ap (n:=n) (by omega)] at hr
  rw [Ag (by simp [h1]),Aa (by simp [h1]),Am,Aa (dcT (by have:=hs _ (getElem_mem h1); unfold maxI; omega))] at hr
  rw [drop_eq_getElem_cons h1,BB,Bh] at h
  by_cases he:(!D0 l[n])=true
  ·rw [if_pos he,if_neg (by omega)] at h
   cases h
   rw [Ag he] at hr
   exact .stop _ _ _ hr (by simp)
  ·rw [if_neg he] at h
   rw [Ac (by simpa using he)] at hr
   exact .step _ _ _ _ hr (HQ  hs hx j (n+1) (by omega) e d' (by rw [BB]; exact h))
theorem S3:Ar prog (Ab [(147,.rd1 Sa)]) (Ab [(2,De)]) 0 (f186.body.getD .skip):=by
 refine An (a:=body f186 0) (by kernel_rfl) fun d e d' h=>?_
 unfold De at h
 dsimp only at h
 split at h
 ·obtain ⟨hc,h'⟩:=Ad h
  obtain ⟨hs,h0,h1,h2,rfl⟩:=of_decide_eq_true hc
  obtain ⟨n,rfl⟩:=eq_ofNat_of_zero_le h0
  exact HQ  hs h2 _ n (add_sub_of_le h1) e d' h'
 ·cases h
theorem Nj  : ∀ (l:List (List UInt8)) (n:Nat),(0<=Bh  l n)=(l.any (fun z:(List UInt8)=>!D0 z)=true)
 | [],n=>by simp [Bh]
 | z::l,n=>by
  rw [Bh,any_cons,or_eq_true]
  by_cases he:(!D0 z)=true
  ·rw [if_pos he]; simp only [he,true_or]; exact eq_true (by omega)
  ·rw [if_neg he,Nj  l (n+1)]; simp only [he,Bool.false_eq_true,false_or]
theorem Jt  : ∀ (l:List (List UInt8)) (n:Nat),Bh  l n<0->Bh  l n = -1
 | [],n,_=>rfl
 | z::l,n,h=>by
  rw [Bh] at h ⊢
  by_cases he:(!D0 z)=true
  ·rw [if_pos he] at h; omega
  ·rw [if_neg he] at h ⊢; exact Jt  l (n+1) h
theorem Qh  (l:List (List UInt8)) (hx:l.length<=maxI) (hs:(∀ z∈l,z.length<=4000000000)):Ax prog (Ab [(147,.rd1 Sa)]) (Ab [(2,De)]) f186 [.sl .str l,.fn 147 [] []] []=some (.j (Bh  l 0),[]):=by
 have e:Ax prog (Ab [(147,.rd1 Sa)]) (Ab [(2,De)]) f186 [.sl .str l,.fn 147 [] []] [] =
  ((ifT (decide ((∀ (z:Cd.str.den),z∈l->List.length z<=4000000000)/\(0:Int)<=(0:Int)/\0<=l.length/\l.length<=maxI/\(↑l.length:Int) =
 (↑l.length:Int))) (ifB (decide (Bh (drop 0 l) 0<(0:Int))) (some (V.j (-1),[])) (some (V.j (Bh (drop 0 l) (0
 : Nat)),[])))):_):=by kernel_rfl
 rw [e,Aa (dcT ⟨hs,by omega,by omega,hx,rfl⟩),drop_zero]
 by_cases q:Bh  l 0<0
 ·rw [Ag (dcT q),Jt  l 0 q]
 ·rw [Ac (dcF q)]
theorem Zn:Af prog 186 (Ent.rd1 HR).F:=by
 refine Ae (kc func147 lv1 KnowsL.nil).knows (Λ:=(Ab [(2,De)])) func186 (c:=f186.body.getD .skip) (by kernel_rfl) fun vs bs r h hv hb=>?_
 unfold Ent.F HR at h
 dsimp only at h
 split at h
 ·rename_i l 
  obtain ⟨hc,h'⟩:=Ad h
  exact ⟨S3,(Qh  l (hv (.sl .str l) (by simp)).1 (of_decide_eq_true hc)).trans (by cases h'; rfl)⟩
 ·cases h
theorem Qp  (l:List (List UInt8)) (hs:(∀ z∈l,z.length<=4000000000)):Ax prog (Ab [(186,.rd1 HR)]) (Ab []) f146 [.sl .str l,.fn 147 [] []] []=some (.b (l.any (fun z:(List UInt8)=>!D0 z)),[]):=by
 have e:Ax prog (Ab [(186,.rd1 HR)]) (Ab []) f146 [.sl .str l,.fn 147 [] []] [] =
  ((ifT (decide (∀ (z:Cd.str.den),z∈l->List.length z<=4000000000)) (some (V.b (decide (Bh l 0>=(0:Int))),[]))):_):=by kernel_rfl
 rw [e]
 have hv:=Nj  l 0
 rw [Aa (dcT hs)]
 have hd:decide (Bh  l 0>=0)=l.any (fun z:(List UInt8)=>!D0 z):=by
  show decide (0<=Bh  l 0)=_
  cases hq:l.any (fun z:(List UInt8)=>!D0 z) with
  | true=>exact dcT (hv ▸ hq)
  | false=>exact dcF (fun h=>by rw [hv,hq] at h; cases h)
 rw [hd]
theorem Zo:Af prog 146 (Ent.rd1 HW).F:=by
 refine Ae (kc func186 Zn KnowsL.nil).knows (Λ:=Ab []) func146 (c:=f146.body.getD .skip) (by kernel_rfl) fun vs bs r h hv hb=>?_
 unfold Ent.F HW at h
 dsimp only at h
 split at h
 ·rename_i l 
  obtain ⟨hc,h'⟩:=Ad h
  exact ⟨Ak _,(Qp  l (of_decide_eq_true hc)).trans (by cases h'; rfl)⟩
 ·cases h
theorem GI  (l:List (List UInt8)) (r:Int) (n:Nat):Av prog (Ab [(160,.rd1 Rf)]) (Ab [(2,Dd)]) 0 (body f186 0) Dd ([.sl .str l,.fn 160 [] [],.j r,.j (↑l.length:Int),.j n],[]) =
 ((ifB (decide ((↑n:Int)<(↑l.length:Int))) (ifT (decide ((0:Int)<=(↑n:Int))&&decide ((↑n:Int)<(↑l.length:Int))) (Ai l[((↑n:Int)).toNat]? fun z=>ifT
 (decide (List.length z<=maxI)) (ifB (!lev z) (some (Ex.ret,[V.j ((↑n:Int))],[])) (some (Ex.normal,[V.sl Cd.str l,V.fn 160 [] [],V.j r,
 V.j (↑l.length:Int),V.j (i64.wrap ((↑n:Int)+(1:Int)))],[]))))) (some (Ex.exit 0,[],[]))):_):=by kernel_rfl
theorem HO {l:List (List UInt8)} {r:Int} (hs:(∀ z∈l,z.length<=4000000000)) (hx:l.length<=maxI) : ∀ (j n:Nat),n+j=l.length->∀ e d',(.br (decide (Bg  (l.drop n) n<0)) (.leaf (.exit 0,([],[]))) (.leaf (.ret,([.j (Bg  (l.drop n) n)],[]))):Br (Ex×Dt)).run=some (e,d')->
  Runs prog (Ab [(160,.rd1 Rf)]) (Ab [(2,Dd)]) 0 (body f186 0) Dd ([.sl .str l,.fn 160 [] [],.j r,.j (↑l.length:Int),.j n],[]) e d'
 | 0,n,hn,e,d',h=>by
  have e1:l.drop n=[]:=drop_eq_nil_of_le (by omega)
  rw [e1,BB,Bg,if_pos (by omega)] at h
  cases h
  refine .stop _ _ _ ((GI  l r n).trans ?_) (by simp)
  simp [show ¬n<l.length by omega]
 | j+1,n,hn,e,d',h=>by
  have h1:n<l.length:=by omega
  have hr:=GI  l r n
  simp only [ntN,gtE h1,Ap (n:=n) (by omega)] at hr
  rw [Ag (by simp [h1]),Aa (by simp [h1]),Am,Aa (dcT (by have:=hs _ (getElem_mem h1); unfold maxI; omega))] at hr
  rw [drop_eq_getElem_cons h1,BB,Bg] at h
  by_cases he:(!lev l[n])=true
  ·rw [if_pos he,if_neg (by omega)] at h
   cases h
   rw [Ag he] at hr
   exact .stop _ _ _ hr (by simp)
  ·rw [if_neg he] at h
   rw [Ac (by simpa using he)] at hr
   exact .step _ _ _ _ hr (HO  hs hx j (n+1) (by omega) e d' (by rw [BB]; exact h))
theorem S2:Ar prog (Ab [(160,.rd1 Rf)]) (Ab [(2,Dd)]) 0 (f186.body.getD .skip):=by
 refine An (a:=body f186 0) (by kernel_rfl) fun d e d' h=>?_
 unfold Dd at h
 dsimp only at h
 split at h
 ·obtain ⟨hc,h'⟩:=Ad h
  obtain ⟨hs,h0,h1,h2,rfl⟩:=of_decide_eq_true hc
  obtain ⟨n,rfl⟩:=eq_ofNat_of_zero_le h0
  exact HO  hs h2 _ n (add_sub_of_le h1) e d' h'
 ·cases h
theorem Ni  : ∀ (l:List (List UInt8)) (n:Nat),(0<=Bg  l n)=(l.any (fun z:(List UInt8)=>!lev z)=true)
 | [],n=>by simp [Bg]
 | z::l,n=>by
  rw [Bg,any_cons,or_eq_true]
  by_cases he:(!lev z)=true
  ·rw [if_pos he]; simp only [he,true_or]; exact eq_true (by omega)
  ·rw [if_neg he,Ni  l (n+1)]; simp only [he,Bool.false_eq_true,false_or]
theorem Js  : ∀ (l:List (List UInt8)) (n:Nat),Bg  l n<0->Bg  l n = -1
 | [],n,_=>rfl
 | z::l,n,h=>by
  rw [Bg] at h ⊢
  by_cases he:(!lev z)=true
  ·rw [if_pos he] at h; omega
  ·rw [if_neg he] at h ⊢; exact Js  l (n+1) h
theorem Qg  (l:List (List UInt8)) (hx:l.length<=maxI) (hs:(∀ z∈l,z.length<=4000000000)):Ax prog (Ab [(160,.rd1 Rf)]) (Ab [(2,Dd)]) f186 [.sl .str l,.fn 160 [] []] []=some (.j (Bg  l 0),[]):=by
 have e:Ax prog (Ab [(160,.rd1 Rf)]) (Ab [(2,Dd)]) f186 [.sl .str l,.fn 160 [] []] [] =
  ((ifT (decide ((∀ (z:Cd.str.den),z∈l->List.length z<=4000000000)/\(0:Int)<=(0:Int)/\0<=l.length/\l.length<=maxI/\(↑l.length:Int) =
 (↑l.length:Int))) (ifB (decide (Bg (drop 0 l) 0<(0:Int))) (some (V.j (-1),[])) (some (V.j (Bg (drop 0 l) (0
 : Nat)),[])))):_):=by kernel_rfl
 rw [e,Aa (dcT ⟨hs,by omega,by omega,hx,rfl⟩),drop_zero]
 by_cases q:Bg  l 0<0
 ·rw [Ag (dcT q),Js  l 0 q]
 ·rw [Ac (dcF q)]
theorem Y5:Af prog 186 (Ent.rd1 HP).F:=by
 refine Ae (kc func160 tp1 KnowsL.nil).knows (Λ:=(Ab [(2,Dd)])) func186 (c:=f186.body.getD .skip) (by kernel_rfl) fun vs bs r h hv hb=>?_
 unfold Ent.F HP at h
 dsimp only at h
 split at h
 ·rename_i l 
  obtain ⟨hc,h'⟩:=Ad h
  exact ⟨S2,(Qg  l (hv (.sl .str l) (by simp)).1 (of_decide_eq_true hc)).trans (by cases h'; rfl)⟩
 ·cases h
theorem Qo  (l:List (List UInt8)) (hs:(∀ z∈l,z.length<=4000000000)):Ax prog (Ab [(186,.rd1 HP)]) (Ab []) f146 [.sl .str l,.fn 160 [] []] []=some (.b (l.any (fun z:(List UInt8)=>!lev z)),[]):=by
 have e:Ax prog (Ab [(186,.rd1 HP)]) (Ab []) f146 [.sl .str l,.fn 160 [] []] [] =
  ((ifT (decide (∀ (z:Cd.str.den),z∈l->List.length z<=4000000000)) (some (V.b (decide (Bg l 0>=(0:Int))),[]))):_):=by kernel_rfl
 rw [e]
 have hv:=Ni  l 0
 rw [Aa (dcT hs)]
 have hd:decide (Bg  l 0>=0)=l.any (fun z:(List UInt8)=>!lev z):=by
  show decide (0<=Bg  l 0)=_
  cases hq:l.any (fun z:(List UInt8)=>!lev z) with
  | true=>exact dcT (hv ▸ hq)
  | false=>exact dcF (fun h=>by rw [hv,hq] at h; cases h)
 rw [hd]
theorem Y6:Af prog 146 (Ent.rd1 HV).F:=by
 refine Ae (kc func186 Y5 KnowsL.nil).knows (Λ:=Ab []) func146 (c:=f146.body.getD .skip) (by kernel_rfl) fun vs bs r h hv hb=>?_
 unfold Ent.F HV at h
 dsimp only at h
 split at h
 ·rename_i l 
  obtain ⟨hc,h'⟩:=Ad h
  exact ⟨Ak _,(Qo  l (of_decide_eq_true hc)).trans (by cases h'; rfl)⟩
 ·cases h
def Bz (x:List UInt8):Nat->List (List UInt8)->Int
 | _,[]=>-1
 | n,z::l=>if x=z then n else Bz x (n+1) l
def DG:LoopEnt:=⟨19,[0,1,7,8],[],[4],fun
 | ([.sl .str l,.s x,.i .i64 m,.i .i64 n],[])=>
  .need (decide (0<=n/\m=l.length/\n.toNat<=l.length/\l.length<=maxI)) (.br (decide (Bz x n.toNat (l.drop n.toNat) = -1)) (.leaf (.exit 0,([],[]))) (.leaf (.ret,([.i .i64 (Bz x n.toNat (l.drop n.toNat))],[]))))
 | _=>.no⟩
def JX:Gm
 | [.sl .str l,.s x],[]=>.leaf (.i .i64 (Bz x 0 l),[])
 | _,_=>.no
def Ig:Gm
 | [.sl .str l,.s x],[]=>.leaf (.b (decide (x∈l)),[])
 | _,_=>.no
theorem Jy (x:List UInt8) : ∀ (l:List (List UInt8)) (n:Nat),(Bz x n l = -1/\x ∉ l)\/((n:Int)<=Bz x n l/\x∈l)
 | [],n=>.inl ⟨rfl,by simp⟩
 | z::l,n=>by
  unfold Bz
  by_cases h:x=z
  ·rw [if_pos h]; exact .inr ⟨Int.le_refl _,by simp [h]⟩
  ·rw [if_neg h]
   rcases Jy x l (n+1) with ⟨h1,h2⟩ | ⟨h1,h2⟩
   ·exact .inl ⟨h1,by simp [h,h2]⟩
   ·exact .inr ⟨by omega,by simp [h2]⟩
theorem HS (l:List (List UInt8)) (x:List UInt8) (m:Int) (n:Nat):Av prog (Ab []) (Ab [(2,DG)]) 0 (body f187 0) DG ([.sl .str l,.s x,.j m,.j n],[]) =
 ((ifB (decide ((↑n:Int)<m)) (ifT (decide ((0:Int)<=(↑n:Int))&&decide ((↑n:Int)<(↑l.length:Int))) (Ai l[((↑n:Int)).toNat]? fun z=>ifB (x==z) (some
 (Ex.ret,[V.j ((↑n:Int))],[])) (some (Ex.normal,[V.sl Cd.str l,V.s x,V.j m,V.j (i64.wrap ((↑n:Int)+(1:Int)))],[])))) (some (Ex.exit
 0,[],[]))):_):=by kernel_rfl
theorem Ju {l:List (List UInt8)} {x:List UInt8} (hm:l.length<=maxI) : ∀ (k n:Nat),n+k=l.length->
  Runs prog (Ab []) (Ab [(2,DG)]) 0 (body f187 0) DG ([.sl .str l,.s x,.j (↑l.length:Int),.j n],[]) (if Bz x n (l.drop n) = -1 then .exit 0 else .ret) (if Bz x n (l.drop n) = -1 then [] else [.j (Bz x n (l.drop n))],[])
 | 0,n,hn=>by
  have e1:l.drop n=[]:=drop_eq_nil_of_le (by omega)
  have hr:=HS l x l.length n
  rw [Ac (dcF (show ¬(n:Int)<(l.length:Int) by omega))] at hr
  rw [e1]
  exact .stop _ _ _ hr (by simp [Bz])
 | k+1,n,hn=>by
  have h1:n<l.length:=by omega
  have hr:=HS l x l.length n
  rw [Ag (dcT (show (n:Int)<(l.length:Int) by omega)),Aa (by simp only [anE,dcE]; omega)] at hr
  simp only [ntN,gtE h1,Am,Ap (n:=n) (by omega)] at hr
  rw [drop_eq_getElem_cons h1]
  unfold Bz
  by_cases he:x=l[n]
  ·rw [Ag (by simpa using he)] at hr
   rw [if_pos he,if_neg (by omega),if_neg (by omega)]
   exact .stop _ _ _ hr (by simp)
  ·rw [Ac (by simpa using he)] at hr
   rw [if_neg he]
   exact .step _ _ _ _ hr (Ju hm k (n+1) (by omega))
theorem UY:Ar prog (Ab []) (Ab [(2,DG)]) 0 (f187.body.getD .skip):=by
 refine An (a:=body f187 0) (by kernel_rfl) fun d e d' h=>?_
 unfold DG at h
 dsimp only at h
 split at h
 ·rename_i l x m n
  obtain ⟨hc,hx⟩:=Ad h
  clear h
  obtain ⟨h0,h1,h2,h3⟩:=of_decide_eq_true hc
  obtain ⟨n,rfl⟩:=eq_ofNat_of_zero_le h0
  subst h1
  rw [ntN] at h2 hx
  have:=Ju (x:=x) h3 _ n (add_sub_of_le h2)
  rcases DK hx with ⟨h4,h⟩ | ⟨h4,h⟩
  ·have h4:=of_decide_eq_true h4
   rw [if_pos h4,if_pos h4] at this; cases h; exact this
  ·have h4:=of_decide_eq_false h4
   rw [if_neg h4,if_neg h4] at this; cases h; exact this
 ·cases h
theorem S4 (l:List (List UInt8)) (x:List UInt8) (hm:l.length<=maxI):Ax prog (Ab []) (Ab [(2,DG)]) f187 [.sl .str l,.s x] []=some (.j (Bz x 0 l),[]):=by
 have e:Ax prog (Ab []) (Ab [(2,DG)]) f187 [.sl .str l,.s x] [] =
  ((ifT (decide ((0:Int)<=(0:Int)/\(↑l.length:Int)=(↑l.length:Int)/\0<=l.length/\l.length<=maxI)) (ifB (decide (Bz x 0 (drop (0 :
 Nat) l)=(-1:Int))) (some (V.j (-1),[])) (some (V.j (Bz x 0 (drop 0 l)),[])))):_):=by kernel_rfl
 rw [e]
 clear e
 rw [Aa (dcT ⟨by omega,rfl,Nat.zero_le _,hm⟩)]
 simp only [drop_zero]
 by_cases h:Bz x 0 l = -1
 ·rw [Ag (dcT h),h]
 ·rw [Ac (dcF h)]
theorem Acz:Af prog 187 (Ent.rd1 JX).F:=by
 refine Ae KnowsL.nil.knows (Λ:=(Ab [(2,DG)])) func187 (c:=f187.body.getD .skip) (by kernel_rfl) fun vs bs r h hv hb=>?_
 unfold Ent.F JX at h
 dsimp only at h
 split at h
 ·rename_i l x
  exact ⟨UY,(S4 l x (hv (.sl .str l) (by simp)).1).trans (by cases h; rfl)⟩
 ·cases h
theorem Q7 (l:List (List UInt8)) (x:List UInt8):Ax prog (Ab [(187,.rd1 JX)]) (Ab []) f149 [.sl .str l,.s x] []=some (.b (decide (x∈l)),[]):=by
 have e:Ax prog (Ab [(187,.rd1 JX)]) (Ab []) f149 [.sl .str l,.s x] [] =
  ((some (V.b (decide (Bz x 0 l>=(0:Int))),[])):_):=by kernel_rfl
 rw [e]
 rcases Jy x l 0 with ⟨h1,h2⟩ | ⟨h1,h2⟩
 ·rw [dcF h2,dcF (by omega)]
 ·rw [dcT h2,dcT (by omega)]
theorem ZV:Af prog 149 (Ent.rd1 Ig).F:=by
 refine Ae (kc func187 Acz KnowsL.nil).knows (Λ:=Ab []) func149 (c:=f149.body.getD .skip) (by kernel_rfl) fun vs bs r h hv hb=>?_
 unfold Ent.F Ig at h
 dsimp only at h
 split at h
 ·rename_i l x
  exact ⟨Ak _,(Q7 l x).trans h⟩
 ·cases h
def ER:Gm
 | [.s s],[]=>.need (decide (s.length<=4000000000)) (.br (lvB (cut 47 s)) (.leaf (.ref 0 0 (cut 47 s).length,[some (.row false none .str (cut 47 s))])) (.leaf (.ref 0 0 0,[some (.row false (some true) .str [])])))
 | _,_=>.no
def Nm:Gm
 | [.s s],[]=>.need (decide (s.length<=4000000000)) (.leaf (.b (tpB (cut 47 s)),[]))
 | _,_=>.no
def Nq:Gm
 | [.s s],[]=>.need (decide (s.length<=4000000000)) (.leaf (.b (lvB (cut 47 s)),[]))
 | _,_=>.no
theorem NE (c:UInt8) : ∀ (s:List UInt8),∀ z∈cut c s,z.length<=s.length
 | [],z,h=>by simp [cut] at h; simp [h]
 | b::l,z,h=>by
  have ih:=NE c l
  rw [cut] at h
  split at h
  ·rcases mem_cons.1 h with rfl | h
   ·simp
   ·have:=ih z h; simp; omega
  ·split at h
   ·cases h
   ·rename_i x t hh
    rw [hh] at ih
    rcases mem_cons.1 h with rfl | h
    ·have:=ih x (by simp); simp; omega
    ·have:=ih z (by simp [h]); simp; omega
theorem EA {s:List UInt8} (hc:s.length<=4000000000):(∀ z∈cut 47 s,z.length<=4000000000)/\0<(cut 47 s).length/\(cut 47 s).length<=4000000001:=by
 have h1:=OK 47 s
 have h2:=List.count_le_length (a:=47) (l:=s)
 exact ⟨fun z hz=>Nat.le_trans (NE 47 s z hz) hc,by omega,by omega⟩
theorem Sb (s:List UInt8) (hc:s.length<=4000000000):Ax prog (Ab [(145,.rd1 NV),(146,.rd1 HW),(149,.rd1 Ig)]) (Ab []) f108 [.s s] []=(.br (lvB (cut 47 s)) (.leaf (.ref 0 0 (cut 47 s).length,[some (.row false none .str (cut 47 s))])) (.leaf (.ref 0 0 0,[some (.row false (some true) .str [])])):Br (V×List (Option Blk))).run:=by
 have e:Ax prog (Ab [(145,.rd1 NV),(146,.rd1 HW),(149,.rd1 Ig)]) (Ab []) f108 [.s s] []=((ifT (decide (s.length<=4000000000)) (ifB (decide ((↑(cut (47:UInt8) s).length:Int)>(6:Int))) (some (V.ref 0 0 0,[some (Blk.row false (some true) Cd.str
 (Aj Cd.str.den))])) (ifT (decide (∀ (z:Cd.str.den),z∈take (cut (47:UInt8) s).length (drop 0 (cut (47:UInt8) s))->List.length z<=(4000000000
 : Nat))) (ifB ((take (cut (47:UInt8) s).length (drop 0 (cut (47:UInt8) s))).any fun z=>!D0 z) (some (V.ref 0 0 0,[some (Blk.row false (some
 true) Cd.str (Aj Cd.str.den))])) (ifT (decide ((0:Int)<=i64.wrap ((↑(cut (47:UInt8) s).length:Int)-(1:Int)))&&decide (i64.wrap ((↑(cut (47
 : UInt8) s).length:Int)-(1:Int))<=(↑((cut (47:UInt8) s).length-0):Int))) (ifB (decide ([(35:UInt8)]∈take ((i64.wrap ((↑(cut (47 :
 UInt8) s).length:Int)-(1:Int))).toNat-0) (drop 0 (cut (47:UInt8) s)))) (some (V.ref 0 0 0,[some (Blk.row false (some true) Cd.str (Aj
 Cd.str.den))])) (some (V.ref 0 0 (cut (47:UInt8) s).length,[some (Blk.row false none Cd.str (cut (47:UInt8) s))])))))))):_):=by kernel_rfl
 rw [e]
 clear e
 obtain ⟨hz,hpos,hle⟩:=EA hc
 rw [Aa (dcT hc)]
 simp only [drop_zero,take_length,sub_zero,AN]
 generalize cut 47 s=l at *
 have w:i64.wrap ((l.length:Int)-1)=((l.length-1:Nat):Int):=by rw [Aw (by omega) (by omega)]; omega
 have hzz:decide (∀ z:Cd.str.den,z∈l->List.length z<=4000000000)=true:=dcT hz
 simp only [w,hzz,Dc,ntN]
 rw [Aa (by simp only [anE,dcE]; omega)]
 unfold lvB
 by_cases q1:l.length<=6
 ·rw [Ac (dcF (by omega)),dcT q1]
  cases (l.any fun z=>!D0 z)<;>cases decide ([35]∈l.take (l.length-1))<;>rfl
 ·rw [Ag (dcT (by omega)),dcF q1]
  rfl
theorem Sc:Af prog 108 (Ent.rd1 ER).F:=by
 refine Ae (kc func145 Abi (kc func146 Zo (kc func149 ZV KnowsL.nil))).knows (Λ:=Ab []) func108 (c:=f108.body.getD .skip) (by kernel_rfl) fun vs bs r hq hv hb=>?_
 unfold Ent.F ER at hq
 dsimp only at hq
 split at hq
 ·rename_i s
  obtain ⟨hc,hq⟩:=Ad hq
  exact ⟨Ak _,(Sb s (of_decide_eq_true hc)).trans hq⟩
 ·cases hq
theorem UW (s:List UInt8) (hc:s.length<=4000000000):Ax prog (Ab [(108,.rd1 ER)]) (Ab []) f126 [.s s] []=(.leaf (.b (lvB (cut 47 s)),[]):Br (V×List (Option Blk))).run:=by
 have e:Ax prog (Ab [(108,.rd1 ER)]) (Ab []) f126 [.s s] []=((ifT (decide (s.length<=4000000000)) (ifB (lvB (cut (47:UInt8) s)) (ifB (decide (0<(cut (47:UInt8) s).length)) (some (V.b true,[])) (some (V.ub,
 []))) (some (V.b false,[])))):_):=by kernel_rfl
 rw [e]
 clear e
 obtain ⟨hz,hpos,hle⟩:=EA hc
 rw [Aa (dcT hc),dcT hpos,Be]
 cases lvB (cut 47 s)<;>rfl
theorem Aev:Af prog 126 (Ent.rd1 Nq).F:=by
 refine Ae (kc func108 Sc KnowsL.nil).knows (Λ:=Ab []) func126 (c:=f126.body.getD .skip) (by kernel_rfl) fun vs bs r hq hv hb=>?_
 unfold Ent.F Nq at hq
 dsimp only at hq
 split at hq
 ·rename_i s
  obtain ⟨hc,hq⟩:=Ad hq
  exact ⟨Ak _,(UW s (of_decide_eq_true hc)).trans hq⟩
 ·cases hq
theorem UV (s:List UInt8) (hc:s.length<=4000000000):Ax prog (Ab [(108,.rd1 ER),(146,.rd1 HV)]) (Ab []) f123 [.s s] []=(.leaf (.b (tpB (cut 47 s)),[]):Br (V×List (Option Blk))).run:=by
 have e:Ax prog (Ab [(108,.rd1 ER),(146,.rd1 HV)]) (Ab []) f123 [.s s] []=((ifT (decide (s.length<=4000000000)) (ifB (lvB (cut (47:UInt8) s)) (ifB (decide (0<(cut (47:UInt8) s).length)) (ifT (decide (∀ (z:Cd.str.den),z∈
 take (cut (47:UInt8) s).length (drop 0 (cut (47:UInt8) s))->List.length z<=4000000000)) (some (V.b !(take (cut (47:UInt8) s).length
 (drop 0 (cut (47:UInt8) s))).any fun z=>!lev z,[]))) none) (some (V.b false,[])))):_):=by kernel_rfl
 rw [e]
 clear e
 obtain ⟨hz,hpos,hle⟩:=EA hc
 rw [Aa (dcT hc),dcT hpos,Be]
 simp only [drop_zero,take_length]
 rw [Aa (dcT hz)]
 unfold tpB
 cases lvB (cut 47 s)<;>rfl
theorem Aet:Af prog 123 (Ent.rd1 Nm).F:=by
 refine Ae (kc func108 Sc (kc func146 Y6 KnowsL.nil)).knows (Λ:=Ab []) func123 (c:=f123.body.getD .skip) (by kernel_rfl) fun vs bs r hq hv hb=>?_
 unfold Ent.F Nm at hq
 dsimp only at hq
 split at hq
 ·rename_i s
  obtain ⟨hc,hq⟩:=Ad hq
  exact ⟨Ak _,(UV s (of_decide_eq_true hc)).trans hq⟩
 ·cases hq
end Go.Proofs.YtdocpdfkeohkiaaGreatDoor.Den
