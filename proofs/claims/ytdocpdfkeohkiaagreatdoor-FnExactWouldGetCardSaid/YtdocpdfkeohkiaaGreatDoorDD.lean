/- What functions of the program do, by the machine: Dc7 En4 En5 Dc8 En6 Fil1 Fil2 Sub1 Sub2 Spl Spl2 Top1 Top2 Top3 Top4 Top4b IdxStr Top5 Top6. -/
import Derived.Test.YtdocpdfkeohkiaaGreatDoorDC
import Derived.KernelRfl
import Derived.Test.YtdocpdfkeohkiaaGreatDoorRows
import Derived.Shelf.Strings.Split
open Go.IntKind (i64)
open Go.Proofs.Tryz
open List (all_eq_true any_cons append_nil drop drop_eq_getElem_cons drop_eq_nil_of_le drop_zero getElem_mem length_cons length_map mem_cons mem_cons_of_mem nil_append replicate take take_length)
open Int (eq_ofNat_of_zero_le toNat)
open Nat (add_sub_of_le sub_zero zero_add zero_le)
open Option (map_eq_some_iff)
open Bool (or_eq_true)
namespace Go.Proofs.YtdocpdfkeohkiaaGreatDoor.Den
open Go.Proofs
set_option maxRecDepth 100000

theorem Aj7 (n:Nat):As prog (Aa [(167,.rd1 VZ),(159,.rd1 byG),(168,.rd1 MA),(169,.rd1 (ptN n)),(170,.rd1 Fd),(171,.rd1 IO)]) (Aa [(6,rsE n)]) 0 (f133.body.getD .skip):=by
 refine Am (a:=body f133 0) (by kernel_rfl) fun d ex d' h=>?_
 unfold rsE at h;dsimp only at h;split at h
 ·rename_i w w2 c i y0 y1 y2 y3 y4 ys fs m vs;obtain ⟨hc,hx⟩:=Ad h;obtain ⟨rfl,rfl,rfl,h0,h1,h2,rfl,h3,h4,h5,h6,h7,h8⟩:=of_decide_eq_true hc;obtain ⟨i,rfl⟩:=eq_ofNat_of_zero_le h0;simp only [ntN] at h1 hx;exact Ut n y0 y1 y2 y3 y4 ys h6 h7 h8 fs h2 h4 h5 (fs.length-i) i vs (by omega) (by omega) ex d' hx
 ·cases h
theorem Ac1 {s:By} (h:s.length<=400):CA s=CU s:=by unfold CU; rw [if_pos h]
theorem Acz (l:List WFd):E4 l 0=JZ (CB l):=by
 unfold E4 JZ CB;rw [drop_zero,length_map]
theorem Qv {s:By} {l:List WFd} (h:CU s=some l):(∀ x∈l,AU x=true/\x.2.2.2.1.length<=s.length)/\l.length<=40:=by
 have e:CU s=(rdP s).map fun l=>l.map (·.1):=by
  unfold CU rdP CA;split
  ·exact HE s _ _ []
  ·rfl
 have h2:=h;rw [e] at h2;obtain ⟨l',h3,rfl⟩:=map_eq_some_iff.1 h2;refine ⟨?_,by rw [length_map]; exact (Kq h3).1⟩;unfold CU CA at h;split at h
 ·exact OW s _ _ [] _ (by simp) h
 ·cases h
theorem Ae5 {z:Rose Lab} (hr:An z=true) (h5:z.lab.1=5) (s:By):(AS z s 0).isSome=(match DT s with
   | some fs=>(match Bq z.kids fs with | some vs=>Bv vs z.kids | none=>false)
   | none=>false):=by
 rw [R4 hr h5]
 cases DT s with
 | none=>rfl
 | some fs=>
  dsimp only
  cases Bq z.kids fs with
  | none=>rfl
  | some vs=>
   dsimp only;cases Bv vs z.kids<;>rfl
theorem Ag6 (n:Nat) (s:By) (y0:Int) (y1:By) (y2:Int) (y3:Bool) (y4:Int) (ys:RL) (hc:s.length<=400/\y0=5/\An (.node (y0,y1,y2,y3,y4,()) ys:Rose Lab)=true/\Ao (.node (y0,y1,y2,y3,y4,()) ys:Rose Lab)<=(n+1)/\Ao (.node (y0,y1,y2,y3,y4,()) ys:Rose Lab)<=1000000):BI prog (Aa [(167,.rd1 VZ),(159,.rd1 byG),(168,.rd1 MA),(169,.rd1 (ptN n)),(170,.rd1 Fd),(171,.rd1 IO)]) (Aa [(6,rsE n)]) f133 [.s s,.agg (Lt y0 y1 y2 y3 y4 ys)] []=some (.tup [.agg [.j (Bf (.node (y0,y1,y2,y3,y4,()) ys:Rose Lab) s).lab.1,.s (Bf (.node (y0,y1,y2,y3,y4,()) ys:Rose Lab) s).lab.2.1,.j (Bf (.node (y0,y1,y2,y3,y4,()) ys:Rose Lab) s).lab.2.2.1,.b (Bf (.node (y0,y1,y2,y3,y4,()) ys:Rose Lab) s).lab.2.2.2.1,.ref 0 0 (Bf (.node (y0,y1,y2,y3,y4,()) ys:Rose Lab) s).kids.length],.b (AS (.node (y0,y1,y2,y3,y4,()) ys:Rose Lab) s 0).isSome],[R0 (.rose VCd) (Bf (.node (y0,y1,y2,y3,y4,()) ys:Rose Lab) s).kids]):=by
 obtain ⟨h1,h2,h3,h4,h5⟩:=hc;rw [Acw];have hck:Ao (.node (y0,y1,y2,y3,y4,()) ys:Rose Lab)=Ar ys+1:=Bk _;have hM:=mxI;have hlen:=BS ys
 try dsimp only [shr]
 dsimp only [Ag,nil_append]
 repeat rw [drop_zero]
 rw [Ab (dcT (by omega)),Ac1 h1,Ae5 h3 h2];unfold Bf DT
 cases hq:CU s with
 | none=>rfl
 | some fs=>
  obtain ⟨f1,f2⟩:=Qv hq;have hmx:mxD fs<=400:=U6 fun f hf=>by have:=(f1 f hf).2; omega
  rw [show (some fs).isSome=true from rfl,show (some fs).getD []=fs from rfl];rw [Bool.not_true,A6,Ab (dcT ⟨by first | trivial | rfl,by first | trivial | rfl,by first | trivial | rfl,by omega,by omega,f2,by first | trivial | rfl,by omega,all_eq_true.2 fun x hx=>(f1 x hx).1,hmx,CM h3 (show y0≠4 by omega),by omega,by omega⟩),Acz];dsimp only
  cases hr:JZ (CB fs) with
  | false=>rw [if_neg (show ¬(false=true) by simp)]; rfl
  | true=>
   rw [if_pos (rfl:true=true)];dsimp only [Rose.kids]
   have hds : ∀ vs,Bq ys fs=some vs->vs.length<=fs.length:=by
    intro vs;clear hq f1 f2 hmx hr
    induction fs generalizing vs with
    | nil=>intro h; rw [Bq] at h; cases h; simp
    | cons f fs ih=>
     intro h;rw [Bq] at h;split at h
     ·split at h
      ·obtain ⟨us,h8,rfl⟩:=map_eq_some_iff.1 h;have:=ih us h8;simp only [length_cons]; omega
      ·cases h
     ·have:=ih vs h;simp only [length_cons]; omega
   cases hd:Bq ys fs with
   | none=>rfl
   | some vs=>
    have hvl:=hds vs hd;rw [show (true&&(some vs).isSome)=true from rfl,AR];rw [show (some vs).getD []=vs from rfl];rw [Ab (dcT ⟨by omega,by rw [drop_zero,take_length]; omega⟩),drop_zero,take_length];rfl
theorem YF (n:Nat) (ih:Af prog 169 (Ent.rd1 (ptN n)).F):Af prog 133 (Ent.rd1 (rsN (n+1))).F:=by
 refine fcC (kc func167 rdf (kc func159 Ady (kc func168 sfk (kc func169 ih (kc func170 UD (kc func171 UE KnowsL.nil)))))).knows (Λ:=(Aa [(6,rsE n)])) func133 fun vs bs r hq=>?_
 unfold Ent.F rsN at hq;dsimp only at hq;split at hq
 ·rename_i s y0 y1 y2 y3 y4 ys;obtain ⟨hc,hx⟩:=Ad hq;exact ⟨Aj7 n,(Ag6 n s y0 y1 y2 y3 y4 ys (of_decide_eq_true hc)).trans hx⟩
 ·cases hq
abbrev X0 (k n:Nat):FuncId->Option Ent:=Aa [(133,.rd1 (rsN k)),(201,.rd1 Sd),(202,.rd1 JX),(168,.rd1 MA),(169,.rd1 (ptN n)),(196,.rd1 EZ),(170,.rd1 Fd)]
theorem Ac6 (n k:Nat) (s:By) (y0:Int) (y1:By) (y2:Int) (y3:Bool) (y4:Int) (y:Rose Lab) (hy:An y=true) (hcn:Ao y<=n) (hc6:Ao y<=1000000) (hs:s.length<=400) : ∀ (j a:Nat) (vs:RVL),s.length-a<=j->a<=s.length->vs.length<=a->∀ ex d,(Br.br (BD (fkB y) (fun n=>A5 y n 0) (fun d=>AS y d 0) s (s.length-a) a).isSome (.leaf (.exit 1,([.ptr 0 0,.ptr 1 0],[some (.box [.j 0,.s [],.j 0,.b false,.ref 2 0 0]),some (.box [.j 0,.s [],.j 0,.b true,.ref 3 0 (vs++(BD (fkB y) (fun n=>A5 y n 0) (fun d=>AS y d 0) s (s.length-a) a).getD []).length]),R0 (.rose VCd) [],R0 (.rose VCd) (vs++(BD (fkB y) (fun n=>A5 y n 0) (fun d=>AS y d 0) s (s.length-a) a).getD [])]))) (.leaf (.ret,([.ptr 0 0,.b false],[some (.box [.j 0,.s [],.j 0,.b false,.ref 1 0 0]),R0 (.rose VCd) []]))):Br (Ex×Dt)).run=some (ex,d)->Runs prog (X0 k n) (Aa [(8,ptE n)]) 0 (body f169 0) (ptE n) ([.s s,.ptr 0 0,.ptr 1 0,.ptr 2 0,.j (a:Int)],[some (.box (Lt y0 y1 y2 y3 y4 [y])),some (.box [.j 0,.s [],.j 0,.b false,.ref 3 0 0]),some (.box [.j 0,.s [],.j 0,.b true,.ref 4 0 vs.length]),R0 (.rose VCd) [],R0 (.rose VCd) vs]) ex d:=by
 intro j
 induction j with
 | zero=>
  intro a vs hj ha hv ex d h;have hr:=Lz n k s y0 y1 y2 y3 y4 [y] vs.length a vs
  try dsimp only [shr] at hr
  rw [Ac (dcF (by omega))] at hr;rw [Gr (by omega),GN (by rfl),show (some ([]:RVL)).getD []=[] from rfl,append_nil] at h;obtain ⟨rfl,rfl⟩:=lfP h;exact stp hr
 | succ j ih=>
  intro a vs hj ha hv ex d h
  by_cases hlt:a<s.length
  ·have hr:=Lz n k s y0 y1 y2 y3 y4 [y] vs.length a vs
   try dsimp only [shr] at hr
   have hM:=mxI;have ⟨⟨u1,u2⟩,u3,u4⟩:=Eu s a;have hst:=Jh (num:=fkB y) (N:=fun n=>A5 y n 0) (D:=fun d=>AS y d 0) hlt;have eln : ∀ x:Option (Ex×Dt),ifT (decide ((vs.length+1)*64<=140737488355328)&&decide (vs.length+1<=maxI)) x=x:=fun x=>T2 (by omega)
   have bad : ∀ {w},At prog (X0 k n) (Aa [(8,ptE n)]) 0 (body f169 0) (ptE n) ([.s s,.ptr 0 0,.ptr 1 0,.ptr 2 0,.j (a:Int)],[some (.box (Lt y0 y1 y2 y3 y4 [y])),some (.box [.j 0,.s [],.j 0,.b false,.ref 3 0 0]),some (.box [.j 0,.s [],.j 0,.b true,.ref 4 0 vs.length]),R0 (.rose VCd) [],R0 (.rose VCd) vs])=w->w=some ((.ret:Ex),(([.ptr 0 0,.b false]:List V),[some (.box [.j 0,.s [],.j 0,.b false,.ref 1 0 0]),R0 (.rose VCd) []]))->(BD (fkB y) (fun n=>A5 y n 0) (fun d=>AS y d 0) s (s.length-a) a)=none->Runs prog (X0 k n) (Aa [(8,ptE n)]) 0 (body f169 0) (ptE n) ([.s s,.ptr 0 0,.ptr 1 0,.ptr 2 0,.j (a:Int)],[some (.box (Lt y0 y1 y2 y3 y4 [y])),some (.box [.j 0,.s [],.j 0,.b false,.ref 3 0 0]),some (.box [.j 0,.s [],.j 0,.b true,.ref 4 0 vs.length]),R0 (.rose VCd) [],R0 (.rose VCd) vs]) ex d:=fun e1 e2 e3=>by
    rw [e3,Hz (by rfl)] at h;obtain ⟨rfl,rfl⟩:=lfP h;exact .stop _ _ _ (e1.trans e2) (by simp)
   have good : ∀ {w} (b:Nat) (v:Rose AG),a<b->b<=s.length->At prog (X0 k n) (Aa [(8,ptE n)]) 0 (body f169 0) (ptE n) ([.s s,.ptr 0 0,.ptr 1 0,.ptr 2 0,.j (a:Int)],[some (.box (Lt y0 y1 y2 y3 y4 [y])),some (.box [.j 0,.s [],.j 0,.b false,.ref 3 0 0]),some (.box [.j 0,.s [],.j 0,.b true,.ref 4 0 vs.length]),R0 (.rose VCd) [],R0 (.rose VCd) vs])=w->w=some ((.normal:Ex),(([.s s,.ptr 0 0,.ptr 1 0,.ptr 2 0,.j (b:Int)],[some (.box (Lt y0 y1 y2 y3 y4 [y])),some (.box [.j 0,.s [],.j 0,.b false,.ref 3 0 0]),some (.box [.j 0,.s [],.j 0,.b true,.ref 4 0 (vs++[v]).length]),R0 (.rose VCd) [],R0 (.rose VCd) (vs++[v])]):Dt))->(BD (fkB y) (fun n=>A5 y n 0) (fun d=>AS y d 0) s (s.length-a) a)=(BD (fkB y) (fun n=>A5 y n 0) (fun d=>AS y d 0) s (s.length-b) b).map (v::·)->Runs prog (X0 k n) (Aa [(8,ptE n)]) 0 (body f169 0) (ptE n) ([.s s,.ptr 0 0,.ptr 1 0,.ptr 2 0,.j (a:Int)],[some (.box (Lt y0 y1 y2 y3 y4 [y])),some (.box [.j 0,.s [],.j 0,.b false,.ref 3 0 0]),some (.box [.j 0,.s [],.j 0,.b true,.ref 4 0 vs.length]),R0 (.rose VCd) [],R0 (.rose VCd) vs]) ex d:=fun b v k1 k2 e1 e2 e4=>by
    refine sts (e1.trans e2) (ih b (vs++[v]) (by omega) k2 (by rw [List.length_append,List.length_singleton]; omega) ex d ?_);rw [e4] at h;refine Eq.trans ?_ h
    cases (BD (fkB y) (fun n=>A5 y n 0) (fun d=>AS y d 0) s (s.length-b) b) with
    | none=>rfl
    | some us=>
     show some _=some _;rw [show (Option.map (v::·) (some us)).getD []=v::us from rfl,show (some us).getD []=us from rfl,List.append_assoc];rfl
   rw [Ae (dcT (by omega)),Ab (dcT (by omega)),ntN] at hr;simp only [AX,drop_zero,take_length,Bc] at hr
   cases h3:BO (Aj s a) with
   | false=>
    rw [h3] at hr;refine bad hr rfl (hst.trans ?_);have hb:(Ba s a).2.2=false:=by unfold Ba; dsimp only; rw [if_neg (fun hh=>by rw [h3] at hh; cases hh.1)]
    cases fkB y with
    | true=>
     dsimp only
     cases A5 y (unf (A7 (Aj s a))) 0 with
     | none=>rfl
     | some v=>dsimp only; rw [h3,if_neg (by simp)]
    | false=>dsimp only; rw [hb]
   | true=>
    have e:=EN h3;obtain ⟨s1,s2⟩:=Sf (a:=a) h3;rw [h3,Bool.not_true,A6] at hr;simp only [s1,s2] at hr;rw [Ab (dcT (by omega)),Ab (by rfl),show [y][0]? = some y from rfl,Ai] at hr
    cases hf:fkB y with
    | true=>
     rw [hf] at hr hst;dsimp only at hst;rw [Bool.not_true,A6] at hr
     cases hnb:Cm (unf (A7 (Aj s a))) with
     | false=>
      rw [hnb] at hr;have hn:A5 y (unf (A7 (Aj s a))) 0=none:=by unfold A5; rw [if_neg (fun hh=>by rw [hnb] at hh; cases hh.1)]
      rw [hn] at hst;exact bad hr rfl (by rw [hf]; exact hst)
     | true=>
      rw [hnb] at hr;rw [LH hf hnb,h3] at hst;simp only [Ab (show (decide ((0:Int)<=0)&&decide ((0:Int)<(([y]:RL).length:Int)))=true from rfl),show [y][0]? = some y from rfl,Ai,Bc,eln] at hr
      cases hlf:DY (unf (A7 (Aj s a))) y with
      | false=>
       rw [hlf] at hr hst;exact bad hr rfl (by rw [hf]; exact hst)
      | true=>
       rw [hlf] at hr hst;refine good (Az a (Aj s a)).toNat (.node (unf (A7 (Aj s a)),[],0,false,()) []) (by omega) (by omega) hr ?_ (by rw [hf]; exact hst);rw [show (((Az a (Aj s a)).toNat:Nat):Int)=Az a (Aj s a) by omega,List.length_append,List.length_singleton];rfl
    | false=>
     rw [hf] at hr hst;dsimp only at hst;have W1:i64.wrap ((s.length:Int)-Az a (Aj s a))=(s.length:Int)-Az a (Aj s a):=Av (by omega) (by omega);have W2:i64.wrap (Az a (Aj s a)+A7 (Aj s a))=Az a (Aj s a)+A7 (Aj s a):=Av (by omega) (by omega);simp only [W1,W2] at hr;rw [Bool.not_false,AR] at hr
     by_cases hn:A7 (Aj s a)<=s.length-Az a (Aj s a)
     ·have hb:Ba s a=((s.drop (Az a (Aj s a)).toNat).take (A7 (Aj s a)).toNat,Az a (Aj s a)+A7 (Aj s a),true):=by unfold Ba; dsimp only; rw [if_pos ⟨h3,hn⟩]
      have hd8:(Az a (Aj s a)+A7 (Aj s a)).toNat-(Az a (Aj s a)).toNat=(A7 (Aj s a)).toNat:=by omega
      have htl:=Yd s a;rw [hb] at hst htl;dsimp only at hst htl;rw [Ac (dcF (by omega)),Ab (by simp only [anE,dcE]; omega),hd8] at hr;generalize (s.drop (Az a (Aj s a)).toNat).take (A7 (Aj s a)).toNat=dta at hr hst htl;simp only [Ab (show (decide ((0:Int)<=0)&&decide ((0:Int)<(([y]:RL).length:Int)))=true from rfl),show [y][0]? = some y from rfl,Ai,Bc,eln] at hr;rw [Ab (dcT ⟨by omega,hf,hy,hcn,hc6⟩)] at hr
      cases hdr:AS y dta 0 with
      | none=>
       rw [hdr] at hr hst;exact bad hr rfl (by rw [hf]; exact hst)
      | some v=>
       have hpt:=OX hy hf hdr;rw [hdr] at hr hst;rw [hpt,LI hf] at hr;refine good (Az a (Aj s a)+A7 (Aj s a)).toNat v (by omega) (by omega) hr ?_ (by rw [hf]; exact hst);rw [show (((Az a (Aj s a)+A7 (Aj s a)).toNat:Nat):Int)=Az a (Aj s a)+A7 (Aj s a) by omega,List.length_append,List.length_singleton];simp only [Cf];rfl
     ·have hb:(Ba s a).2.2=false:=by unfold Ba; dsimp only; rw [if_neg (fun hh=>hn hh.2)]
      rw [hb] at hst;rw [Ae (dcT (by omega))] at hr;exact bad hr rfl (by rw [hf]; exact hst)
  ·have hr:=Lz n k s y0 y1 y2 y3 y4 [y] vs.length a vs
   try dsimp only [shr] at hr
   rw [Ac (dcF (by omega))] at hr;rw [Gr (by omega),GN (by rfl),show (some ([]:RVL)).getD []=[] from rfl,append_nil] at h;obtain ⟨rfl,rfl⟩:=lfP h;exact stp hr
theorem Aj8 (n k:Nat):As prog (X0 k n) (Aa [(8,ptE n)]) 0 (f169.body.getD .skip):=by
 refine Am (a:=body f169 0) (by kernel_rfl) fun d ex d' h=>?_
 unfold ptE at h;dsimp only at h;split at h
 ·rename_i s a y0 y1 y2 y3 y4 ys m vs;obtain ⟨hc,hx⟩:=Ad h;obtain ⟨h0,h1,h2,rfl,h3,h4,h5,h6,h7⟩:=of_decide_eq_true hc;obtain ⟨a,rfl⟩:=eq_ofNat_of_zero_le h0
  match ys,h4 with
  | [y],_=>
   have e:Ar [y]=Ao y:=by rw [Ar,Ar]; rfl
   simp only [ntN] at h1 hx;exact Ac6 n k s y0 y1 y2 y3 y4 y (by simpa using h5) (by omega) (by omega) h2 _ a vs (Nat.le_refl _) h1 (by omega) ex d' hx
 ·cases h
theorem Aha (n:Nat) (s:By) (y0:Int) (y1:By) (y2:Int) (y3:Bool) (y4:Int) (ys:RL) (hc:s.length<=400/\fkB (.node (y0,y1,y2,y3,y4,()) ys:Rose Lab)=false/\An (.node (y0,y1,y2,y3,y4,()) ys:Rose Lab)=true/\Ao (.node (y0,y1,y2,y3,y4,()) ys:Rose Lab)<=(n+1)/\Ao (.node (y0,y1,y2,y3,y4,()) ys:Rose Lab)<=1000000):BI prog (Aa [(133,.rd1 (rsN (n+1))),(201,.rd1 Sd),(202,.rd1 JX),(168,.rd1 MA),(169,.rd1 (ptN n)),(196,.rd1 EZ),(170,.rd1 Fd)]) (Aa [(8,ptE n)]) f169 [.s s,.agg (Lt y0 y1 y2 y3 y4 ys)] []=some (.tup [.agg [.j (B9 (.node (y0,y1,y2,y3,y4,()) ys:Rose Lab) s).lab.1,.s (B9 (.node (y0,y1,y2,y3,y4,()) ys:Rose Lab) s).lab.2.1,.j (B9 (.node (y0,y1,y2,y3,y4,()) ys:Rose Lab) s).lab.2.2.1,.b (B9 (.node (y0,y1,y2,y3,y4,()) ys:Rose Lab) s).lab.2.2.2.1,.ref 0 0 (B9 (.node (y0,y1,y2,y3,y4,()) ys:Rose Lab) s).kids.length],.b (AS (.node (y0,y1,y2,y3,y4,()) ys:Rose Lab) s 0).isSome],[R0 (.rose VCd) (B9 (.node (y0,y1,y2,y3,y4,()) ys:Rose Lab) s).kids]):=by
 obtain ⟨h1,h2,h3,h4,h5⟩:=hc;rw [Ac5];have hck:Ao (.node (y0,y1,y2,y3,y4,()) ys:Rose Lab)=Ar ys+1:=Bk _
 try dsimp only [shr]
 simp only [AX,nil_append,drop_zero];unfold B9;rcases Lo h3 h2 with q | q | q
 ·have q:y0=2:=q;rw [Ae (beq_iff_eq.2 q),EG (show ((.node (y0,y1,y2,y3,y4,()) ys:Rose Lab)).lab.1=2 from q),if_pos (show ((.node (y0,y1,y2,y3,y4,()) ys:Rose Lab)).lab.1=2 from q)]
  by_cases q3:s.length<=30
  ·rw [if_pos q3,dcT (by omega)]; rfl
  ·rw [if_neg q3,dcF (by omega)]; rfl
 ·obtain ⟨k1,k2⟩:=Cg h3 q;have k1:ys.length=1:=k1;have k2:ys.all An=true:=k2;have hq:y0=4:=q;rw [Ac (beq_eq_false_iff_ne.2 (by omega)),Ac (beq_eq_false_iff_ne.2 (by omega)),EI q,if_neg (show ¬((.node (y0,y1,y2,y3,y4,()) ys:Rose Lab)).lab.1=2 by rw [q]; decide),if_neg (show ¬((.node (y0,y1,y2,y3,y4,()) ys:Rose Lab)).lab.1=5 by rw [q]; decide),Ab (dcT ⟨by omega,by omega,h1,by first | trivial | rfl,by omega,k1,k2,by omega,by omega⟩)];dsimp only [Rose.kids]
  match ys,k1 with
  | [y],_=>
   rw [F6];show ifB (BD (fkB y) (fun n=>A5 y n 0) (fun d=>AS y d 0) s (s.length-0) 0).isSome _ _=_;dsimp only [hd0];rw [sub_zero];cases BD (fkB y) (fun n=>A5 y n 0) (fun d=>AS y d 0) s s.length 0<;>rfl
 ·have hq:y0=5:=q;rw [Ac (beq_eq_false_iff_ne.2 (by omega)),Ae (beq_iff_eq.2 hq),if_neg (show ¬((.node (y0,y1,y2,y3,y4,()) ys:Rose Lab)).lab.1=2 by rw [q]; decide),if_pos q,Ab (dcT ⟨h1,hq,h3,h4,h5⟩)]
theorem Ahb : ∀ n,(∀ m,m<n->Af prog 169 (Ent.rd1 (ptN m)).F)->Af prog 169 (Ent.rd1 (ptN n)).F
 | 0,_=>AW fun vs bs=>by
  unfold Ent.F ptN;dsimp only;split
  ·rename_i s y0 y1 y2 y3 y4 ys;have hz:=Cq (.node (y0,y1,y2,y3,y4,()) ys:Rose Lab);have:decide (s.length<=400/\fkB (.node (y0,y1,y2,y3,y4,()) ys:Rose Lab)=false/\An (.node (y0,y1,y2,y3,y4,()) ys:Rose Lab)=true/\Ao (.node (y0,y1,y2,y3,y4,()) ys:Rose Lab)<=0/\Ao (.node (y0,y1,y2,y3,y4,()) ys:Rose Lab)<=1000000)=false:=dcF (by omega);rw [this]; rfl
  ·rfl
 | n+1,ihs=>by
  have ih:=ihs n (Nat.lt_succ_self n);have hr:=YF n ih;refine fcC (kc func133 hr (kc func201 tvs (kc func202 Aju (kc func168 sfk (kc func169 ih (kc func196 UF (kc func170 UD KnowsL.nil))))))).knows (Λ:=(Aa [(8,ptE n)])) func169 fun vs bs r hq=>?_
  unfold Ent.F ptN at hq;dsimp only at hq;split at hq
  ·rename_i s y0 y1 y2 y3 y4 ys;obtain ⟨hc,hx⟩:=Ad hq;exact ⟨Aj8 n (n+1),(Aha n s y0 y1 y2 y3 y4 ys (of_decide_eq_true hc)).trans hx⟩
  ·cases hq
theorem Ahc (n:Nat):Af prog 169 (Ent.rd1 (ptN n)).F:=Nat.strongRecOn n fun n h=>Ahb n h
theorem YG (n:Nat):Af prog 133 (Ent.rd1 (rsN (n+1))).F:=YF n (Ahc n)
mutual
def wfR:Rose AG->Bool
 | .node x vs=>(x.2.2.2.1||vs.isEmpty)&&wfL vs
def wfL:RVL->Bool
 | []=>true
 | v::vs=>wfR v&&wfL vs
end
mutual
def unR:Rose AG->Rose Lab
 | .node x vs=>.node (bif x.2.2.2.1 then 5 else 1,x.2.1,x.2.2.1,x.2.2.2.1,x.1,()) (unL vs)
def unL:RVL->RL
 | []=>[]
 | v::vs=>unR v::unL vs
end
theorem Ug : ∀ vs:RVL,wfL vs=vs.all wfR
 | []=>by rw [wfL]; rfl
 | v::vs=>by rw [wfL,Ug vs]; rfl
mutual
theorem Va : ∀ v:Rose AG,cv (unR v)=v
 | .node x vs=>by
  rw [unR,cv,Aba vs];rfl
theorem Aba : ∀ vs:RVL,cvs (unL vs)=vs
 | []=>by rw [unL,cvs]
 | v::vs=>by rw [unL,cvs,Va v,Aba vs]
end
theorem Abx {vs:RVL}:(unL vs).isEmpty=vs.isEmpty:=by cases vs<;>rw [unL]<;>rfl
mutual
theorem Afv : ∀ v:Rose AG,wfR v=true->lfR (unR v)=true
 | .node x vs,h=>by
  rw [wfR,anE] at h;rw [unR,lfR,XL vs h.2,Abx];obtain ⟨a,b,c,m,⟨⟩⟩:=x;have h1:(m||vs.isEmpty)=true:=h.1;cases m
  ·rw [Bool.false_or] at h1; rw [h1]; rfl
  ·rfl
theorem XL : ∀ vs:RVL,wfL vs=true->lfL (unL vs)=true
 | [],_=>by rw [unL,lfL]
 | v::vs,h=>by
  rw [wfL,anE] at h;rw [unL,lfL,Afv v h.1,XL vs h.2]; rfl
end
theorem Agg (v:Rose AG):Ao (unR v)=vcR v:=by
 have:=XA (unR v);rw [Va] at this;exact this.symm
theorem Oi {v:Rose AG} (h:wfR v=true):vtr (A4 v (-1) 0) 0=v/\ven (A4 v (-1) 0) 0=(A4 v (-1) 0).length/\(A4 v (-1) 0).length=vcR v:=by
 have hlf:=Afv v h;have ht:=KB (unR v) hlf (-1) 0;rw [Va] at ht;have hlen:=EM (unR v) (-1) 0
 have hoff:Zl (Dz (unR v) (-1) 0) 0 (0+Ao (unR v)):=fun j _ hu=>by
  have:=Eh hu;omega
 have hk:=MV (Dz (unR v) (-1) 0) (unR v) hlf (-1) 0 (LJ _ _ [] rfl) hoff;have hl:=C0 v (-1) 0;unfold vtr ven;rw [<-ht,hk,hl,Agg,zero_add];exact ⟨Va v,rfl,rfl⟩
theorem Ms : ∀ (ks:RL) (fs:List WFd) (vs:RVL),Be ks fs=some vs->∀ v∈vs,∃ p∈ks,v.lab.2.2.1=p.lab.2.2.1
 | [],fs,vs,h,v,hv=>by rw [Be] at h; cases h; cases hv
 | p::ks,fs,vs,h,v,hv=>by
  rw [C3] at h;split at h
  ·split at h
   ·cases h
   ·obtain ⟨q,hq,e⟩:=Ms ks fs vs h v hv;exact ⟨q,mem_cons_of_mem _ hq,e⟩
  ·rename_i f hf;have hfn:=List.find?_some hf;have hfn:f.1=p.lab.2.2.1:=by simpa using hfn
   split at h
   ·rename_i w hw;obtain ⟨us,hu,rfl⟩:=map_eq_some_iff.1 h;rcases mem_cons.1 hv with rfl | hv
    ·exact ⟨p,List.mem_cons_self,(K3 hw).trans hfn⟩
    ·obtain ⟨q,hq,e⟩:=Ms ks fs us hu v hv;exact ⟨q,mem_cons_of_mem _ hq,e⟩
   ·cases h
theorem Zm {z:Rose Lab} {n no:Int} {v:Rose AG} (hr:An z=true) (hf:fkB z=true) (h:A5 z n no=some v):sfR v z=true/\wfR v=true:=by
 unfold A5 at h;split at h
 ·rename_i hc;cases h;refine ⟨?_,by rw [wfR,wfL]; rfl⟩;unfold fkB at hf;rw [or_eq_true,beq_iff_eq,beq_iff_eq] at hf;rw [sfR];rcases hf with hf | hf
  ·rw [if_neg (by rw [hf]; simp [Jm,A3]),if_pos hf];exact hc.1
  ·rw [if_neg (by rw [hf]; simp [Jm,A3]),if_neg (by omega),if_pos hf];rcases hc.2 with h1 | h1
   ·omega
   ·exact dcT h1
 ·cases h
theorem Mt {num:Bool} {N:Int->Option (Rose AG)} {D:By->Option (Rose AG)} {s:By} (Q:Rose AG->Prop) (hN:num=true->∀ n v,N n=some v->Q v) (hD:num=false->∀ d v,D d=some v->Q v) : ∀ (f a:Nat) (vs:RVL),BD num N D s f a=some vs->∀ v∈vs,Q v
 | 0,a,vs,h,v,hv=>by
  rw [PB] at h;split at h
  ·cases h
  ·cases h; cases hv
 | f+1,a,vs,h,v,hv=>by
  rw [Hw] at h;split at h
  ·cases num with
   | true=>
    dsimp only at h;split at h
    ·rename_i w hw;split at h
     ·obtain ⟨us,hu,rfl⟩:=map_eq_some_iff.1 h;rcases mem_cons.1 hv with rfl | hv
      ·exact hN rfl _ _ hw
      ·exact Mt Q hN hD f _ us hu v hv
     ·cases h
    ·cases h
   | false=>
    dsimp only at h;split at h
    ·split at h
     ·rename_i w hw;obtain ⟨us,hu,rfl⟩:=map_eq_some_iff.1 h;rcases mem_cons.1 hv with rfl | hv
      ·exact hD rfl _ _ hw
      ·exact Mt Q hN hD f _ us hu v hv
     ·cases h
    ·cases h
  ·cases h; cases hv
mutual
theorem TQ : ∀ (z:Rose Lab),An z=true->fkB z=false->∀ (s:By) (no:Int) (v:Rose AG),AS z s no=some v->sfR v z=true/\wfR v=true
 | .node x ks,hr,hf,s,no,v,h=>by
  have hp:=DA hr;simp only [Rose.lab,Rose.kids] at hp;have hkd:=UR (t:=.node x ks) hr;have hbad : ∀ k:Int,k=4\/k=5->¬Jm 0 [] true k=true:=fun k hk=>by rcases hk with rfl | rfl<;>simp [Jm,A3]
  by_cases h2:x.1=2
  ·rw [AS,if_pos h2] at h;split at h
   ·rename_i hl;cases h;refine ⟨?_,by rw [wfR,wfL]; rfl⟩;have h2':(Rose.node x ks:Rose Lab).lab.1=2:=h2;rw [sfR,h2',if_neg (by simp [Jm,A3]),if_neg (by omega),if_neg (by omega),if_pos rfl];exact dcT hl
   ·cases h
  ·have hk:=hkd h2 (by rw [hf]; simp);have hk:x.1=4\/x.1=5:=hk
   by_cases h4:x.1=4
   ·rw [AS,if_neg h2,if_pos h4] at h;obtain ⟨vs,hv,rfl⟩:=map_eq_some_iff.1 h;have hl:=Cg hr h4;obtain ⟨y,hy⟩:=List.length_eq_one_iff.1 hl.1;have hy:ks=[y]:=hy;have hall:=Ae2 ks hl.2 s vs hv;have h4':(Rose.node x ks:Rose Lab).lab.1=4:=h4;refine ⟨?_,by rw [wfR,Ug]; simp only [Bool.true_or,Bool.true_and,all_eq_true]; exact fun v hv=>(hall v hv).2.2⟩;rw [sfR,h4',if_neg (hbad 4 (.inl rfl)),if_neg (by omega),if_neg (by omega),if_neg (by omega),if_pos rfl,HA,all_eq_true];intro v hv;obtain ⟨a1,a2,_⟩:=hall v hv;rw [anE,beq_iff_eq];exact ⟨a1,a2⟩
   ·have h5:x.1=5:=by omega
    rw [AS,if_neg h2,if_neg h4] at h;split at h
    ·rename_i fs _;obtain ⟨vs,hv,rfl⟩:=map_eq_some_iff.1 h;have h5':(Rose.node x ks:Rose Lab).lab.1=5:=h5;have hpw:ks.Pairwise KR:=QY (z:=.node x ks) hr h5';obtain ⟨a1,a2⟩:=P9 ks (CM (z:=.node x ks) hr (by omega)) hpw fs vs hv;refine ⟨?_,by rw [wfR,a2]; rfl⟩;rw [Wk hpw] at a1;rw [sfR,h5',if_neg (hbad 5 (.inr rfl)),if_neg (by omega),if_neg (by omega),if_neg (by omega),if_neg (by omega)];exact a1
    ·cases h
theorem Ae2 : ∀ (ks:RL),ks.all An=true->∀ (s:By) (vs:RVL),F6 ks s=some vs->∀ v∈vs,v.lab.2.2.1=0/\sfR v (hd0 ks)=true/\wfR v=true
 | [],_,s,vs,h=>by rw [F6] at h; cases h
 | z::ks,hr,s,vs,h=>by
  rw [List.all_cons,anE] at hr;rw [F6] at h;exact Mt (fun v=>v.lab.2.2.1=0/\sfR v (hd0 (z::ks))=true/\wfR v=true) (fun hf n v hv=>⟨O3 hv,Zm hr.1 hf hv⟩) (fun hf d v hv=>⟨PA hv,TQ z hr.1 hf d 0 v hv⟩) _ _ vs h
theorem P9 : ∀ (ks:RL),AL 5 ks=true->ks.Pairwise KR->∀ (fs:List WFd) (vs:RVL),Be ks fs=some vs->Dk ks vs=true/\wfL vs=true
 | [],_,_,fs,vs,h=>by
  rw [Be] at h; cases h;exact ⟨by rw [Dk]; rfl,by rw [wfL]⟩
 | p::ks,hr,hpw,fs,vs,h=>by
  rw [AL,anE,anE] at hr;rw [List.pairwise_cons] at hpw;rw [C3] at h;split at h
  ·split at h
   ·cases h
   ·rename_i hm;have ih:=P9 ks hr.2 hpw.2 fs vs h;refine ⟨?_,ih.2⟩;have hm:p.lab.2.2.2.1=false:=by simpa using hm
    cases vs with
    | nil=>rw [Dk,hm,ih.1]; rfl
    | cons u us=>
     obtain ⟨q,hq,e⟩:=Ms ks fs (u::us) h u List.mem_cons_self;have:=hpw.1 q hq;unfold KR at this;rw [Dk,if_neg (by omega),hm,ih.1]; rfl
  ·rename_i f hf;have hfn:=List.find?_some hf;have hfn:f.1=p.lab.2.2.1:=by simpa using hfn
   split at h
   ·rename_i w hw;obtain ⟨us,hu,rfl⟩:=map_eq_some_iff.1 h;have ih:=P9 ks hr.2 hpw.2 fs us hu
    have key:sfR w p=true/\wfR w=true:=by
     unfold Ix at hw;split at hw
     ·rename_i hk;split at hw
      ·rename_i hn;exact Zm hr.1.2 (by rw [<-hk]; exact hn) hw
      ·rename_i hn;exact TQ p hr.1.2 (by rw [<-hk]; simpa using hn) _ _ w hw
     ·cases hw
    rw [Dk,if_pos ((K3 hw).trans hfn),key.1,ih.1,wfL,key.2,ih.2];exact ⟨rfl,rfl⟩
   ·cases h
end
def dvB (z:Rose Lab) (s:By):Bool:=Ed z s&&decide ((I4 z s).length<=40)
def dvL (z:Rose Lab) (s:By):List Nd:=bif dvB z s then I4 z s else []
def ecL (z:Rose Lab) (l:List Nd):By:=AD (vtr l 0) z
def ecB (z:Rose Lab) (l:List Nd):Bool:=decide ((ecL z l).length<=400)
def dtB (z:Rose Lab) (s:By):Bool:=dvB z s&&ecB z (dvL z s)
def dtL (z:Rose Lab) (s:By):By:=bif dtB z s then ecL z (dvL z s) else []
def Z8:Gm
 | [.tp LCd z 0,.s s],[]=>.need (decide (BM z=true/\s.length<=4000000000)) (.leaf (.tup [.agg [.ref 0 0 (dvL z s).length],.b (dvB z s)],[R0 NCd (dvL z s)]))
 | _,_=>.no
def ZE:Gm
 | [.tp LCd z 0,.agg [.sl NCd l]],[]=>.need (decide (Ao z<=1000000/\An z=true/\0<l.length/\l.length<=40)&&sfR (vtr l 0) z) (.leaf (.tup [.s (bif ecB z l then ecL z l else []),.b (ecB z l)],[]))
 | _,_=>.no
def Aid:Gm
 | [.tp LCd z 0,.s s],[]=>.need (decide (BM z=true/\s.length<=4000000000)) (.leaf (.tup [.s (dtL z s),.b (dtB z s)],[]))
 | _,_=>.no
theorem W0 (z:Rose Lab) (s:By):BI prog (Aa [(106,.rd1 K9)]) (Aa []) f152 [.tp LCd z 0,.s s] [] =
 ((ifT (decide (BM z=true/\s.length<=4000000000)) (ifB (!Ed z s) (some (V.tup [V.agg [V.ref 0 0 0],V.b false],[R0 NCd (Ag
 NCd.den)])) (ifB (decide ((↑(I4 z s).length:Int)>(40:Int))) (some (V.tup [V.agg [V.ref 0 0 0],V.b false],[R0 NCd (Ag NCd.den)])) (some
 (V.tup [V.agg [V.ref 0 0 (I4 z s).length],V.b true],[R0 NCd (I4 z s)]))))):_):=by kernel_rfl
theorem W3 (z:Rose Lab) (l:List Nd):BI prog (Aa [(192,.rd1 Ajc)]) (Aa []) f153 [.tp LCd z 0,.agg [.sl NCd l]] [] =
 ((ifT (decide (Ao z<=1000000/\An z=true/\(0:Int)<=(0:Int)/\0<l.length/\l.length<=40)&&sfR (vtr l 0) z) (ifB (decide
 ((↑(AD (vtr l 0) z).length:Int)>(400:Int))) (some (V.tup [V.s (Ag UInt8),V.b false],[])) (some (V.tup [V.s (AD (vtr l 0) z),V.b true],
 [])))):_):=by kernel_rfl
theorem ZF (z:Rose Lab) (s:By):BI prog (Aa [(152,.rd1 Z8),(153,.rd1 ZE)]) (Aa []) f110 [.tp LCd z 0,.s s] [] =
 ((shr (take (dvL z s).length (drop 0 (dvL z s))) fun sh1=>ifT (decide (BM z=true/\s.length<=4000000000)) (ifB (!dvB z s) (some (V.tup [V.s
 (Ag UInt8),V.b false],[])) (ifT (decide (Ao z<=1000000/\An z=true/\0<sh1.length/\sh1.length<=40)&&sfR (vtr sh1 0) z)
 (some (V.tup [V.s (bif ecB z sh1 then ecL z sh1 else Ag UInt8),V.b (ecB z sh1)],[]))))):_):=by kernel_rfl
theorem UP {z:Rose Lab} (h:BM z=true):fkB z=false:=by
 unfold fkB; rw [(Bw h).1]; rfl
theorem TP {z:Rose Lab} {s:By}:(dvL z s).length<=40:=by
 unfold dvL dvB;cases h:Ed z s&&decide ((I4 z s).length<=40)
 ·exact zero_le _
 ·rw [anE] at h;exact of_decide_eq_true h.2
theorem Aax {z:Rose Lab} {s:By} (hg:BM z=true) (h:dvB z s=true):0<(dvL z s).length/\sfR (vtr (dvL z s) 0) z=true/\∃ v,AS z s 0=some v/\wfR v=true/\dvL z s=A4 v (-1) 0/\vtr (dvL z s) 0=v:=by
 have h':=h;unfold dvB Ed at h';rw [anE,anE] at h';obtain ⟨⟨h1,h2⟩,h3⟩:=h';obtain ⟨g1,g2,g3⟩:=Bw hg
 cases hd:AS z s 0 with
 | none=>rw [hd] at h2; cases h2
 | some v=>
  obtain ⟨a1,a2⟩:=TQ z g2 (UP hg) s 0 v hd;obtain ⟨b1,b2,b3⟩:=Oi a2
  have e:dvL z s=A4 v (-1) 0:=by
   unfold dvL I4;rw [h];have hv:Ed z s=true:=by unfold Ed; rw [h1,hd]; rfl
   rw [hv];unfold Bm;rw [hd]; rfl
  have hk:=G0 v;rw [e,b1,b3];exact ⟨by omega,a1,v,rfl,a2,rfl,rfl⟩
theorem Alv:Af prog 152 (Ent.rd1 Z8).F:=by
 refine B7 (kc func106 I3 KnowsL.nil).knows (Λ:=Aa []) func152 (c:=f152.body.getD .skip) (by kernel_rfl) fun vs bs r hq hv hb=>?_
 unfold Ent.F Z8 at hq;dsimp only at hq;split at hq
 ·rename_i z s;obtain ⟨hc,hx⟩:=Ad hq;refine ⟨Ah _,(W0 z s).trans (Eq.trans ?_ hx)⟩
  try dsimp only [shr]
  show _=some _;rw [Ab hc];unfold dvL dvB;cases hv:Ed z s
  ·rfl
  ·by_cases q:(I4 z s).length<=40
   ·rw [Bool.not_true,A6,Ac (dcF (by omega)),dcT q]; rfl
   ·rw [Bool.not_true,A6,Ae (dcT (by omega)),dcF q]; rfl
 ·cases hq
theorem Alw:Af prog 153 (Ent.rd1 ZE).F:=by
 refine fcC (kc func192 Aif KnowsL.nil).knows (Λ:=Aa []) func153 fun vs bs r hq=>?_
 unfold Ent.F ZE at hq;dsimp only at hq;split at hq
 ·rename_i z l;obtain ⟨hc,hx⟩:=Ad hq;refine ⟨Ah _,(W3 z l).trans (Eq.trans ?_ hx)⟩
  try dsimp only [shr]
  show _=some _;rw [anE,dcE] at hc;obtain ⟨⟨h1,h2,h3,h4⟩,h5⟩:=hc;rw [Ab (by rw [h5,Bool.and_true]; exact dcT ⟨h1,h2,by omega,h3,h4⟩)];unfold ecB ecL
  by_cases q:(AD (vtr l 0) z).length<=400
  ·rw [Ac (dcF (by omega)),dcT q]; rfl
  ·rw [Ae (dcT (by omega)),dcF q]; rfl
 ·cases hq
theorem kdt:Af prog 110 (Ent.rd1 Aid).F:=by
 refine B7 (kc func152 Alv (kc func153 Alw KnowsL.nil)).knows (Λ:=Aa []) func110 (c:=f110.body.getD .skip) (by kernel_rfl) fun vs bs r hq hv hb=>?_
 unfold Ent.F Aid at hq;dsimp only at hq;split at hq
 ·rename_i z s;obtain ⟨hc,hx⟩:=Ad hq;refine ⟨Ah _,(ZF z s).trans (Eq.trans ?_ hx)⟩
  try dsimp only [shr]
  show _=some _;rw [Ab hc];obtain ⟨hg,hs⟩:=of_decide_eq_true hc;obtain ⟨g1,g2,g3⟩:=Bw hg;rw [drop_zero,take_length];unfold dtL dtB;cases hv:dvB z s
  ·rfl
  ·obtain ⟨d1,d2,_⟩:=Aax hg hv;have d3:=TP (z:=z) (s:=s);rw [Bool.not_true,A6,Ab (by rw [d2,Bool.and_true]; exact dcT ⟨by omega,g2,d1,d3⟩),Bool.true_and]
 ·cases hq
def Tx (l:List Ty) (s:By):Bool:=decide (s.length<=400)&&AN l
def F5 (l:List Ty) (s:By):Bool:=Tx l s&&(AS (t2L l 0) s 0).isSome
def Aea:Gm
 | [.s s,.agg [.sl TCd l]],[]=>.need (decide (l.length<=4000000000)&&nmL l) (.leaf (.tup [.b (F5 l s),.b (Tx l s)],[]))
 | _,_=>.no
theorem CC {l:List Ty} (h:AN l=true):BM (t2L l 0)=true/\0<l.length/\l.length<=30:=by
 have e:=((Fk l).2 h)
 unfold AN at h;simp only [anE,dcE,beq_iff_eq] at h;rw [<-e];exact ⟨h.2,by omega,by omega⟩
theorem ZK (s:By) (l:List Ty):Aw prog (Aa [(114,.rd1 Ge),(119,.rd1 DD),(133,.rd1 (rsN 1000001))]) (Aa []) f97 [.s s,.agg [.sl TCd l]] [] =
 ((ifB (decide ((↑s.length:Int)>(400:Int))) (some (V.tup [V.b false,V.b false],[])) (ifT (decide (l.length<=4000000000)&&nmL l) (ifB (!AN l) (some
 (V.tup [V.b false,V.b false],[])) (ifT (decide ((0:Int)<=(0:Int)/\0<l.length/\l.length<=4000000000)) (ifT (decide (s.length<=400/\
 (t2L l 0).lab.1=(5:Int)/\An (Rose.node ((t2L l 0).lab.1,(t2L l 0).lab.2.1,(t2L l 0).lab.2.2.1,(t2L l (0 :
 Nat)).lab.2.2.2.1,(t2L l 0).lab.2.2.2.2.1,()) (take (t2L l 0).kids.length (drop 0 (t2L l 0).kids)))=true/\
 Ao (Rose.node ((t2L l 0).lab.1,(t2L l 0).lab.2.1,(t2L l 0).lab.2.2.1,(t2L l 0).lab.2.2.2.1,(t2L l (0 :
 Nat)).lab.2.2.2.2.1,()) (take (t2L l 0).kids.length (drop 0 (t2L l 0).kids)))<=1000001/\Ao (Rose.node ((t2L l (0
 : Nat)).lab.1,(t2L l 0).lab.2.1,(t2L l 0).lab.2.2.1,(t2L l 0).lab.2.2.2.1,(t2L l 0).lab.2.2.2.2.1,())
 (take (t2L l 0).kids.length (drop 0 (t2L l 0).kids)))<=1000000)) (some (V.tup [V.b (AS (Rose.node ((t2L l 0).lab.1,
 (t2L l 0).lab.2.1,(t2L l 0).lab.2.2.1,(t2L l 0).lab.2.2.2.1,(t2L l 0).lab.2.2.2.2.1,()) (take (t2L l
 0).kids.length (drop 0 (t2L l 0).kids))) s (0:Int)).isSome,V.b true],[]))))))):_):=by kernel_rfl
theorem Ajy:Af prog 97 (Ent.rd1 Aea).F:=by
 refine fcK (kc func114 Qm (kc func119 IS (kc func133 (YG 1000000) KnowsL.nil))).knows (Λ:=Aa []) func97 fun vs bs r hq=>?_
 unfold Ent.F Aea at hq;dsimp only at hq;split at hq
 ·rename_i s l;obtain ⟨hc,hx⟩:=Ad hq;rw [anE,dcE] at hc;refine ⟨Ah _,(ZK s l).trans (Eq.trans ?_ hx)⟩
  try dsimp only [shr]
  show _=some _;unfold F5 Tx;have hn:(decide (l.length<=4000000000)&&nmL l)=true:=by rw [hc.2,dcT hc.1]; rfl
  by_cases q:s.length<=400
  ·rw [Ac (dcF (by omega)),dcT q,Bool.true_and,hn,CP]
   cases hk:AN l with
   | false=>rfl
   | true=>
    obtain ⟨h1,h2,h3⟩:=CC hk;obtain ⟨g1,g2,g3⟩:=Bw h1;rw [Bool.not_true,A6,Ab (dcT ⟨by omega,by omega,hc.1⟩)];simp only [drop_zero,take_length,Bc];rw [Ab (dcT ⟨q,g1,g2,by omega,by omega⟩)];rfl
  ·rw [Ae (dcT (by omega)),dcF q];rfl
 ·cases hq
def sdB (l:List Ty) (s:By):Bool:=AN l&&dvB (t2L l 0) s
def sdL (l:List Ty) (s:By):List Nd:=bif sdB l s then dvL (t2L l 0) s else []
def sdG:Gm
 | [.s s,.agg [.sl TCd l]],[]=>.need (decide (l.length<=4000000000)&&nmL l) (.leaf (.tup [.agg [.ref 0 0 (sdL l s).length],.b (sdB l s)],[R0 NCd (sdL l s)]))
 | _,_=>.no
def seB (v:List Nd) (l:List Ty):Bool:=Gg v l&&ecB (t2L l 0) v
def seL (v:List Nd) (l:List Ty):By:=bif seB v l then ecL (t2L l 0) v else []
def seG:Gm
 | [.agg [.sl NCd v],.agg [.sl TCd l]],[]=>.need (decide (l.length<=4000000000)&&nmL l&&decide (v.length<=4000000000)) (.leaf (.tup [.s (seL v l),.b (seB v l)],[]))
 | _,_=>.no
def Lg (l:List Ty) (s:By):Bool:=AN l&&dtB (t2L l 0) s
def VM (l:List Ty) (s:By):By:=bif Lg l s then dtL (t2L l 0) s else []
def Ag4:Gm
 | [.s s,.agg [.sl TCd l]],[]=>.need (decide (l.length<=4000000000)&&nmL l) (.leaf (.tup [.s (VM l s),.b (Lg l s)],[]))
 | _,_=>.no
theorem VP (s:By) (l:List Ty):BI prog (Aa [(114,.rd1 Ge),(119,.rd1 DD),(133,.rd1 (rsN 1000001)),(172,.rd1 ofG)]) (Aa []) f138 [.s s,.agg [.sl TCd l]] [] =
 ((shr (Ag NCd.den) fun sh3=>shr (t2L l 0).lab fun sh2=>shr (Rose.node (sh2.1,sh2.2.1,sh2.2.2.1,sh2.2.2.2.1,sh2.2.2.2.2.1,())
 (take (t2L l 0).kids.length (drop 0 (t2L l 0).kids))) fun sh1=>ifB (decide ((↑s.length:Int)>(400:Int))) (some (V.tup [V.agg
 [V.ref 0 0 0],V.b false],[R0 NCd sh3])) (ifT (decide (l.length<=4000000000)&&nmL l) (ifB (!AN l) (some (V.tup [V.agg [V.ref 0 0 0],
 V.b false],[R0 NCd sh3])) (ifT (decide ((0:Int)<=(0:Int)/\0<l.length/\l.length<=4000000000)) (ifT (decide (s.length<=
 400/\sh2.1=(5:Int)/\An sh1=true/\Ao sh1<=1000001/\Ao sh1<=1000000)) (ifT (decide (vcL (take (Bf sh1 s).kids.length
 (drop 0 (Bf sh1 s).kids))+1<=2000000)) (ifB (!(AS sh1 s (0:Int)).isSome) (some (V.tup [V.agg [V.ref 0 0 0],V.b false],[R0 NCd sh3])) (ifB (decide ((↑(A4 (Rose.node ((Bf sh1 s).lab.1,(Bf sh1 s).lab.2.1,(Bf sh1 s).lab.2.2.1,(Bf sh1
 s).lab.2.2.2.1,()) (take (Bf sh1 s).kids.length (drop 0 (Bf sh1 s).kids))) (-1:Int) 0).length:Int)>(40:Int))) (some
 (V.tup [V.agg [V.ref 0 0 0],V.b false],[R0 NCd sh3])) (some (V.tup [V.agg [V.ref 0 0 (A4 (Rose.node ((Bf sh1 s).lab.1,(Bf sh1
 s).lab.2.1,(Bf sh1 s).lab.2.2.1,(Bf sh1 s).lab.2.2.2.1,()) (take (Bf sh1 s).kids.length (drop 0 (Bf sh1 s).kids))) (-1
 : Int) 0).length],V.b true],[R0 NCd (A4 (Rose.node ((Bf sh1 s).lab.1,(Bf sh1 s).lab.2.1,(Bf sh1 s).lab.2.2.1,
 (Bf sh1 s).lab.2.2.2.1,()) (take (Bf sh1 s).kids.length (drop 0 (Bf sh1 s).kids))) (-1:Int) 0)])))))))))):_):=by kernel_rfl
theorem VL (v:List Nd) (l:List Ty):BI prog (Aa [(173,.rd1 SD),(175,.rd1 HV),(119,.rd1 DD),(174,.rd1 Ahz)]) (Aa []) f139 [.agg [.sl NCd v],.agg [.sl TCd l]] [] =
 ((shr (v4L v 0).lab.2 fun sh6=>shr (t2L l 0).lab.2 fun sh5=>shr (take (t2L l 0).kids.length (drop 0 (t2L l (0 :
 Nat)).kids)) fun sh4=>shr (take (v4L v 0).kids.length (drop 0 (v4L v 0).kids)) fun sh3=>shr (Rose.node ((v4L v 0).lab.1,
 sh6.1,sh6.2.1,sh6.2.2.1,()) sh3) fun sh2=>shr (Rose.node ((t2L l 0).lab.1,sh5.1,sh5.2.1,sh5.2.2.1,sh5.2.2.2.1,()) sh4)
 fun sh1=>ifT (decide (l.length<=4000000000)&&nmL l&&decide (v.length<=4000000000)) (ifB (!Gg v l) (some (V.tup [V.s (Ag UInt8),V.b false],
 [])) (ifT (decide ((0:Int)<=(0:Int)/\0<v.length/\v.length<=4000000000)) (ifT (decide ((0:Int)<=(0:Int)/\0<l.length/\l.length<=
 4000000000)) (ifT (decide (Ar sh4+1<=1000000/\An sh1=true/\fkB sh1=false/\vcL sh3<=1000/\sfR sh2 sh1=true)) (ifB
 (decide ((↑(AD sh2 sh1).length:Int)>(400:Int))) (some (V.tup [V.s (Ag UInt8),V.b false],[])) (some (V.tup [V.s (AD sh2 sh1),V.b true],[])))))))):_):=by kernel_rfl
theorem Y5 (s:By) (l:List Ty):BI prog (Aa [(138,.rd1 sdG),(139,.rd1 seG)]) (Aa []) f101 [.s s,.agg [.sl TCd l]] [] =
 ((shr (take (sdL l s).length (drop 0 (sdL l s))) fun sh1=>ifT (decide (l.length<=4000000000)&&nmL l) (ifB (!sdB l s) (some (V.tup [V.s (Ag
 UInt8),V.b false],[])) (ifT (decide (l.length<=4000000000)&&nmL l&&decide (sh1.length<=4000000000)) (some (V.tup [V.s (seL sh1 l),V.b (seB sh1
 l)],[]))))):_):=by kernel_rfl
theorem Xo {p:Rose Lab} {f:WFd} {v:Rose AG} {C:Nat} (hC:1<=C) (hp:Ao p*401<=C) (hf:f.2.2.2.1.length<=400) (h:Ix p f=some v):vcR v<=C:=by
 unfold Ix at h;split at h
 ·split at h
  ·unfold A5 at h;split at h
   ·cases h; rw [vcR,vcL]; omega
   ·cases h
  ·have:=DQ _ _ _ _ h;have h2:Ao p*(f.2.2.2.1.length+1)<=Ao p*401:=Nat.mul_le_mul_left _ (by omega);omega
 ·cases h
theorem Je {ks:RL} {C:Nat} (hC:1<=C) (hk : ∀ p∈ks,Ao p*401<=C) : ∀ (fs:List WFd) (vs:RVL),(∀ f∈fs,f.2.2.2.1.length<=400)->Bq ks fs=some vs->vcL vs<=fs.length*C
 | [],vs,_,h=>by rw [Bq] at h; cases h; rw [vcL]; exact zero_le _
 | f::fs,vs,hf,h=>by
  rw [Bq] at h;rw [length_cons,Nat.succ_mul];split at h
  ·rename_i hn;split at h
   ·rename_i v hv;obtain ⟨us,hu,rfl⟩:=map_eq_some_iff.1 h;have h1:=Xo hC (hk _ (Fs hn)) (hf f List.mem_cons_self) hv;have h2:=Je hC hk fs us (fun g hg=>hf g (mem_cons_of_mem _ hg)) hu;rw [vcL]; omega
   ·cases h
  ·have h2:=Je hC hk fs vs (fun g hg=>hf g (mem_cons_of_mem _ hg)) h;omega
theorem Ac2 {z:Rose Lab} (hg:BM z=true) {s:By} (hs:s.length<=400):vcL (Bf z s).kids+1<=2000000:=by
 obtain ⟨g1,g2,g3⟩:=Bw hg;have hck:=Bk z;unfold Bf;split
 ·rename_i fs hf;split
  ·rename_i vs hv;show vcL vs+1<=2000000;unfold DT at hf;split at hf
   ·rename_i l hl;split at hf
    ·cases hf;obtain ⟨a1,a2⟩:=Qv hl;have:=Je (C:=12030) (by omega) (fun p hp=>by have:=BE hp; omega) _ vs (fun f hf=>by have:=(a1 f hf).2; omega) hv;omega
    ·cases hf
   ·cases hf
  ·show vcL []+1<=2000000;rw [vcL]; omega
 ·show vcL []+1<=2000000;rw [vcL]; omega
theorem XG {z:Rose Lab} {s:By} {v:Rose AG} (q:s.length<=400) (hd:AS z s 0=some v):Ed z s=true/\I4 z s=A4 v (-1) 0:=by
 have hv:Ed z s=true:=by unfold Ed; rw [hd,dcT q]; rfl
 refine ⟨hv,?_⟩;unfold I4 Bm;rw [hv,hd]; rfl
theorem Ol {v:List Nd} {l:List Ty} (h:Gg v l=true):AN l=true/\0<v.length/\v.length<=40/\Ord (tys v)/\sfR (v4L v 0) (t2L l 0)=true:=by
 unfold Gg FU at h;simp only [anE,dcE] at h;obtain ⟨h1,⟨h2,h3⟩,h4⟩:=h;exact ⟨h1,by omega,h3.2,((N9 (by omega)).1 h2).1,h4⟩
theorem XH {v:List Nd} (h0:0<v.length) (H:Ord (tys v)):v4L v 0=vtr v 0:=by
 have e:=H.end' (by rw [BL]; exact h0);unfold vtr;rw [Afu _ 0 (Nat.le_refl _) h0,e.2]
theorem Age {v:List Nd} {l:List Ty} (h:Gg v l=true):v4L v 0=vtr v 0:=by
 obtain ⟨_,h0,_,H,_⟩:=Ol h;exact XH h0 H
theorem Acu {l:List Ty} {s:By} (h:sdB l s=true):Gg (sdL l s) l=true:=by
 have h':=h;unfold sdB at h';rw [anE] at h';obtain ⟨hk,hd⟩:=h';have e:sdL l s=dvL (t2L l 0) s:=by unfold sdL; rw [h]; rfl
 have hg:=(CC hk).1;obtain ⟨d1,d2,v,d3,d4,d5,d6⟩:=Aax hg hd;have d7:=TP (z:=t2L l 0) (s:=s);obtain ⟨b1,b2,b3⟩:=Oi d4;have hno:=PA d3;rw [e,d5];rw [d5] at d1 d2 d7
 have key:AT (tys (A4 v (-1) 0)) 0=some (-1)/\noN (A4 v (-1) 0) 0=some 0:=by
  obtain ⟨⟨x0,x1,x2,x3,⟨⟩⟩,xs⟩:=v;have hno:x2=0:=hno;subst hno;rw [LX]; exact ⟨rfl,rfl⟩
 have H:Ord (tys (A4 v (-1) 0)):=HG (by rw [BL]; exact d1) key.1 (by rw [BL]; exact b2);unfold Gg FU;rw [hk,XH d1 H,d2,(N9 d1).2 ⟨H,key.2⟩,dcT (show 1<=(A4 v (-1) 0).length/\(A4 v (-1) 0).length<=40 from ⟨d1,d7⟩)];rfl
theorem Alq:Af prog 138 (Ent.rd1 sdG).F:=by
 refine B7 (kc func114 Qm (kc func119 IS (kc func133 (YG 1000000) (kc func172 Alt KnowsL.nil)))).knows (Λ:=Aa []) func138 (c:=f138.body.getD .skip) (by kernel_rfl) fun vs bs r hq hv hb=>?_
 unfold Ent.F sdG at hq;dsimp only at hq;split at hq
 ·rename_i s l;obtain ⟨hc,hx⟩:=Ad hq;refine ⟨Ah _,(VP s l).trans (Eq.trans ?_ hx)⟩
  try dsimp only [shr]
  show _=some _;have hc':=hc;rw [anE,dcE] at hc'
  have no:sdB l s=false->some (V.tup [.agg [.ref 0 0 0],.b false],[R0 NCd (Ag _)])=some (V.tup [.agg [.ref 0 0 (sdL l s).length],.b (sdB l s)],[R0 NCd (sdL l s)]):=fun h=>by
   unfold sdL; rw [h]; rfl
  by_cases q:s.length<=400
  ·rw [Ac (dcF (by omega)),Ab hc];cases hk:AN l
   ·exact no (by unfold sdB; rw [hk]; rfl)
   ·obtain ⟨h1,h2,h3⟩:=CC hk;obtain ⟨g1,g2,g3⟩:=Bw h1;rw [Bool.not_true,A6,Ab (dcT ⟨by omega,by omega,hc'.1⟩)];simp only [drop_zero,take_length,Bc,Cf];rw [Ab (dcT ⟨q,g1,g2,by omega,by omega⟩),Ab (dcT (Ac2 h1 q))]
    cases hd:AS (t2L l 0) s 0 with
    | none=>exact no (by unfold sdB dvB Ed; rw [hd]; simp)
    | some v=>
     obtain ⟨a1,a2⟩:=XG q hd;rw [Uv g2 g1 hd];have hb:sdB l s=decide ((A4 v (-1) 0).length<=40):=by unfold sdB dvB; rw [hk,a1,a2]; rfl
     by_cases q2:(A4 v (-1) 0).length<=40
     ·rw [dcT q2] at hb
      have hl:sdL l s=A4 v (-1) 0:=by
       unfold sdL dvL;have:dvB (t2L l 0) s=true:=by unfold dvB; rw [a1,a2,dcT q2]; rfl
       rw [hb,this,a2]; rfl
      rw [hl,hb];show ifB (decide (((A4 v (-1) 0).length:Int)>40)) _ _=_;rw [Ac (dcF (by omega))]
     ·rw [dcF q2] at hb;show ifB (decide (((A4 v (-1) 0).length:Int)>40)) _ _=_;rw [Ae (dcT (by omega))];exact no hb
  ·rw [Ae (dcT (by omega))];exact no (by unfold sdB dvB Ed; rw [dcF q]; simp)
 ·cases hq
theorem Alp:Af prog 139 (Ent.rd1 seG).F:=by
 refine B7 (kc func173 Agw (kc func175 Z3 (kc func119 IS (kc func174 Adu KnowsL.nil)))).knows (Λ:=Aa []) func139 (c:=f139.body.getD .skip) (by kernel_rfl) fun vs bs r hq hv hb=>?_
 unfold Ent.F seG at hq;dsimp only at hq;split at hq
 ·rename_i v l;obtain ⟨hc,hx⟩:=Ad hq;refine ⟨Ah _,(VL v l).trans (Eq.trans ?_ hx)⟩
  try dsimp only [shr]
  show _=some _;have hc':=hc;rw [anE,anE,dcE,dcE] at hc';rw [Ab hc];unfold seL seB;cases hv:Gg v l
  ·rfl
  ·obtain ⟨hk,h0,h40,H,hsf⟩:=Ol hv;obtain ⟨k1,k2,k3,k4⟩:=ZB hk;have hg:=UP (CC hk).1;have h4:=Age hv;have hcn:=Ui h0;have hvb:=H3 h0;have hvk:=G0 (vtr v 0);have hck:=Bk (t2L l 0);have hg3:=(Bw (CC hk).1).2.2;rw [Bool.not_true,A6,Ab (dcT ⟨by omega,h0,hc'.2⟩),Ab (dcT ⟨by omega,k1,hc'.1.1⟩)];simp only [drop_zero,take_length,Bc,Cf];rw [h4] at hsf;rw [h4,Ab (dcT ⟨by omega,k3,hg,by omega,hsf⟩)];unfold ecB ecL
   by_cases q:(AD (vtr v 0) (t2L l 0)).length<=400
   ·rw [Ac (dcF (by omega)),dcT q]; rfl
   ·rw [Ae (dcT (by omega)),dcF q]; rfl
 ·cases hq
theorem sdt:Af prog 101 (Ent.rd1 Ag4).F:=by
 refine fcC (kc func138 Alq (kc func139 Alp KnowsL.nil)).knows (Λ:=Aa []) func101 fun vs bs r hq=>?_
 unfold Ent.F Ag4 at hq;dsimp only at hq;split at hq
 ·rename_i s l;obtain ⟨hc,hx⟩:=Ad hq;refine ⟨Ah _,(Y5 s l).trans (Eq.trans ?_ hx)⟩
  try dsimp only [shr]
  show _=some _;rw [Ab hc,drop_zero,take_length];cases hd:sdB l s
  ·have e:Lg l s=false:=by
    unfold sdB at hd;unfold Lg dtB;cases hk:AN l
    ·rfl
    ·rw [hk,Bool.true_and] at hd;rw [hd]; rfl
   unfold VM;rw [e]; rfl
  ·have hf:=Acu hd
   have hl:(sdL l s).length<=40:=by
    unfold sdL;rw [hd];exact TP
   rw [Bool.not_true,A6,Ab (by rw [hc,dcT (by omega)]; rfl)];have e:sdL l s=dvL (t2L l 0) s:=by unfold sdL; rw [hd]; rfl
   have e2:seB (sdL l s) l=Lg l s:=by
    unfold seB Lg dtB;unfold sdB at hd;rw [anE] at hd;rw [hf,hd.1,hd.2,e]; rfl
   have e3:seL (sdL l s) l=VM l s:=by
    unfold seL VM;rw [e2];cases h:Lg l s
    ·rfl
    ·have h':=h;unfold Lg at h';rw [anE] at h';unfold dtL;rw [h'.2,e]; rfl
   rw [e2,e3]
 ·cases hq
abbrev Wt:=Int×Int×Int×By×Int×Int×Unit
def H7 (k n:Int) (s:By):Bool:=if 1<=k/\k<=3 then Cm n&&s==[] else if k=4 then n==0&&s==[] else if k=5 then n==0&&decide (s.length<=30) else false
def CK (w:Wt) (i:Int):Bool:=
 if w.1=6\/w.1=7 then decide (w.2.1=0/\w.2.2.1=0/\w.2.2.2.1=[]/\0<=w.2.2.2.2.1/\w.2.2.2.2.1<w.2.2.2.2.2.1/\w.2.2.2.2.2.1<i)
 else if w.1=8 then decide (w.2.1=0/\w.2.2.1=0/\w.2.2.2.1=[]/\0<=w.2.2.2.2.1/\w.2.2.2.2.1<i/\w.2.2.2.2.2.1=0)
 else decide (1<=w.2.1/\w.2.1<=30)&&H7 w.1 w.2.2.1 w.2.2.2.1&&decide (w.2.2.2.2.1=0/\w.2.2.2.2.2.1=0)
def Id (u:List Int) (k:Nat):List Int:=u.set k (u.getD k 0+1)
def KA (w:Wt) (u:List Int):List Int:=if w.1=6\/w.1=7 then Id (Id u w.2.2.2.2.1.toNat) w.2.2.2.2.2.1.toNat else if w.1=8 then Id u w.2.2.2.2.1.toNat else u
def wgo:Nat->List Wt->List Int->Option (List Int)
 | _,[],u=>some u
 | i,w::l,u=>if CK w (i:Int)=true then wgo (i+1) l (KA w u) else none
def HI (u:List Int):Bool:=u.all fun x=>x==1
def B6 (l:List Wt):Bool:=decide (1<=l.length/\l.length<=20)&&(match wgo 0 l (replicate l.length 0) with | some u=>HI (u.take (l.length-1)) | none=>false)
def X7:Gm
 | [.agg (Lw w0 w1 w2 w3 w4 w5),.j i],[]=>.leaf (.b (CK (w0,w1,w2,w3,w4,w5,()) i),[])
 | _,_=>.no
def Hp:Gm
 | [.agg [.sl WCd l]],[]=>.leaf (.b (B6 l),[])
 | _,_=>.no
def IZ:LoopEnt:=⟨62,[3,4,18,19,20],[3,4],[2],fun
 | ([.j n,.ref 0 0 m,.sl WCd l,.j k,.j i],[R0 (.int .i64) u])=>.need (decide (0<=i/\i.toNat<=l.length/\k=l.length/\m=l.length/\u.length=l.length/\l.length<=20/\(∀ x∈u,0<=x/\x<=2*i))) (.br (wgo i.toNat (l.drop i.toNat) u).isSome (.leaf (.exit 0,([.j n,.ref 0 0 ((wgo i.toNat (l.drop i.toNat) u).getD []).length],[R0 (.int .i64) ((wgo i.toNat (l.drop i.toNat) u).getD [])]))) (.leaf (.ret,([.b false],[]))))
 | _=>.no⟩
def Kf:LoopEnt:=⟨62,[53,54,55],[],[2],fun
 | ([.ref 0 0 m,.j k,.j i],[R0 (.int .i64) u])=>.need (decide (0<=i/\i.toNat<=m/\k=m/\m<=u.length/\u.length<=20)) (.br (HI ((u.take m).drop i.toNat)) (.leaf (.exit 2,([],[]))) (.leaf (.ret,([.b false],[]))))
 | _=>.no⟩
theorem Aio {c x y:Bool}:ifB c (some (V.b x,([]:List (Option Blk)))) (some (V.b y,[]))=some (V.b (bif c then x else y),[]):=by cases c<;>rfl
theorem Mu {c x y:Bool}:((bif c then x else y)=true)↔((c=true/\x=true)\/(c=false/\y=true)):=by cases c<;>simp
theorem U4 {α:Type} [BEq α] [LawfulBEq α] (l:List α):(l==[])=decide (l.length=0):=by cases l<;>simp
theorem S7 (w0 w1 w2:Int) (w3:By) (w4 w5:Int) (i:Int):Aw prog (Aa [(115,.rd1 A0),(196,.rd1 EZ)]) (Aa []) f158 [.agg (Lw w0 w1 w2 w3 w4 w5),.j i] [] =
 ((ifB (!decide (1<=w0/\w0<=5)==(w1 != 0)) nF (ifB (!decide (0<=w1/\w1<=30)) nF (ifB (decide ((↑w3.length:Int)>(30 :
 Int))) nF (ifB (!Cm w2) nF (ifB (decide (w0>3)) (ifB (w2 != 0) nF (ifB (w0 != 5) (ifB (!w3==Ag UInt8)
 nF (ifB (decide (1<=w0/\w0<=5)) (ifB (w4==0) (some (V.b (w5==0),[])) nF) (ifB (w0==8) (ifB (decide (w4>=0)) (ifB
 (decide (w4<i)) (some (V.b (w5==0),[])) nF) nF) (ifB (decide (6<=w0/\w0<=7)) (ifB (decide (w4>=0)) (ifB (decide (w4 <
 w5)) (some (V.b (decide (w5<i)),[])) nF) nF) nF)))) (ifB (decide (1<=w0/\w0<=5)) (ifB (w4==0) (some
 (V.b (w5==0),[])) nF) (ifB (w0==8) (ifB (decide (w4>=0)) (ifB (decide (w4<i)) (some (V.b (w5==0),[])) nF) nF) (ifB (decide (6<=w0/\w0<=7)) (ifB (decide (w4>=0)) (ifB (decide (w4<w5)) (some (V.b (decide (w5<i)),[])) nF) nF) nF))))) (ifB (w0 != 5) (ifB (!w3==Ag UInt8) nF (ifB (decide (1<=w0/\w0<=5)) (ifB (w4==0) (some (V.b (w5==0),[]))
 nF) (ifB (w0==8) (ifB (decide (w4>=0)) (ifB (decide (w4<i)) (some (V.b (w5==0),[])) nF) nF) (ifB
 (decide (6<=w0/\w0<=7)) (ifB (decide (w4>=0)) (ifB (decide (w4<w5)) (some (V.b (decide (w5<i)),[])) nF) nF) nF)))) (ifB (decide (1<=w0/\w0<=5)) (ifB (w4==0) (some (V.b (w5==0),[])) nF) (ifB (w0==8) (ifB (decide (w4>=0)) (ifB (decide (w4 <
 i)) (some (V.b (w5==0),[])) nF) nF) (ifB (decide (6<=w0/\w0<=7)) (ifB (decide (w4>=0)) (ifB (decide (w4<w5)) (some (V.b
 (decide (w5<i)),[])) nF) nF) nF))))))))):_):=by kernel_rfl
theorem V8 (w0 w1 w2:Int) (w3:By) (w4 w5:Int) (i:Int):Aw prog (Aa [(115,.rd1 A0),(196,.rd1 EZ)]) (Aa []) f158 [.agg (Lw w0 w1 w2 w3 w4 w5),.j i] []=(.leaf (.b (CK (w0,w1,w2,w3,w4,w5,()) i),[]):Br (V×List (Option Blk))).run:=by
 rw [S7];have e3:(w3==Ag UInt8)=decide (w3.length=0):=U4 w3;have e4:(w3==[])=decide (w3.length=0):=U4 w3;have e5:(w3=[])↔w3.length=0:=List.length_eq_zero_iff.symm;simp only [Aio,e3];refine congrArg (fun b=>some (V.b b,([]:List (Option Blk)))) ?_;unfold CK H7 Cm;dsimp only;simp only [e4,e5];generalize w3.length=n;rw [Bool.eq_iff_iff];have hk:w0=1\/w0=2\/w0=3\/w0=4\/w0=5\/w0=6\/w0=7\/w0=8\/w0<1\/8<w0:=by omega
 rcases hk with rfl | rfl | rfl | rfl | rfl | rfl | rfl | rfl | hk | hk
 iterate 8
  ·simp [Mu]
   try omega
 ·have f1 : ¬(1<=w0/\w0<=5):=by omega
  have f2 : ¬w0=8:=by omega
  have f3 : ¬(6<=w0/\w0<=7):=by omega
  have f4 : ¬(w0=6\/w0=7):=by omega
  have f5 : ¬(1<=w0/\w0<=3):=by omega
  have f6 : ¬w0=4:=by omega
  have f7 : ¬w0=5:=by omega
  rw [if_neg f4,if_neg f2,if_neg f5,if_neg f6,if_neg f7,dcF f1,dcF f3];simp [Mu,f2,f7]
 ·have f1 : ¬(1<=w0/\w0<=5):=by omega
  have f2 : ¬w0=8:=by omega
  have f3 : ¬(6<=w0/\w0<=7):=by omega
  have f4 : ¬(w0=6\/w0=7):=by omega
  have f5 : ¬(1<=w0/\w0<=3):=by omega
  have f6 : ¬w0=4:=by omega
  have f7 : ¬w0=5:=by omega
  rw [if_neg f4,if_neg f2,if_neg f5,if_neg f6,if_neg f7,dcF f1,dcF f3];simp [Mu,f2,f7]
theorem Ajs:Af prog 158 (Ent.rd1 X7).F:=by
 refine fcK (kc func115 Ia (kc func196 UF KnowsL.nil)).knows (Λ:=Aa []) func158 fun vs bs r' hq=>?_
 unfold Ent.F X7 at hq;dsimp only at hq;split at hq
 ·rename_i w0 w1 w2 w3 w4 w5 i;exact ⟨Ah _,(V8 w0 w1 w2 w3 w4 w5 i).trans hq⟩
 ·cases hq
abbrev Ub:FuncId->Option Ent:=Aa [(115,.rd1 A0),(158,.rd1 X7)]
theorem Od (n:Int) (m:Nat) (l:List Wt) (k i:Int) (u:List Int):At prog Ub (Aa [(6,IZ),(16,Kf)]) 0 (body f117 0) IZ ([.j n,.ref 0 0 m,.sl WCd l,.j k,.j i],[R0 (.int .i64) u]) =
 ((ifB (decide (i<k)) (ifT (decide (0<=i)&&decide (i<(↑l.length:Int))) (Ak l[i.toNat]? fun z=>ifB (!CK (z.1,z.2.1,z.2.2.1,z.2.2.2.1,
 z.2.2.2.2.1,z.2.2.2.2.2.1,()) i) rF (ifB (decide (z.1>=(6:Int))) (ifT (decide ((0:Int)<=
 z.2.2.2.2.1)&&decide (z.2.2.2.2.1<(↑m:Int))) (Ak u[0+toNat z.2.2.2.2.1]? fun z_1=>ifT (decide ((0:Int)<=
 z.2.2.2.2.1)&&decide (z.2.2.2.2.1<(↑m:Int))) (Ak u[0+toNat z.2.2.2.2.1]? fun z_2=>ifB (decide ((6:Int)<=z.1/\
 z.1<=(7:Int))) (ifT (decide ((0:Int)<=z.2.2.2.2.2.1)&&decide (z.2.2.2.2.2.1<(↑m:Int))) (Ak (u.set (0+toNat
 z.2.2.2.2.1) (i64.wrap (z_1+(1:Int))))[0+toNat z.2.2.2.2.2.1]? fun z_3=>ifT (decide ((0:Int)<=
 z.2.2.2.2.2.1)&&decide (z.2.2.2.2.2.1<(↑m:Int))) (Ak (u.set (0+toNat z.2.2.2.2.1) (i64.wrap (z_1+(1 :
 Int))))[0+toNat z.2.2.2.2.2.1]? fun z_4=>some (Ex.normal,[V.j n,V.ref 0 0 m,V.sl WCd l,V.j k,V.j (i64.wrap (i +
 1))],[R0 (Cd.int .i64) ((u.set (0+toNat z.2.2.2.2.1) (i64.wrap (z_1+(1:Int)))).set (0+toNat
 z.2.2.2.2.2.1) (i64.wrap (z_3+(1:Int))))])))) (some (Ex.normal,[V.j n,V.ref 0 0 m,V.sl WCd l,V.j k,V.j (i64.wrap (i +
 1))],[R0 (Cd.int .i64) (u.set (0+toNat z.2.2.2.2.1) (i64.wrap (z_1+(1:Int))))]))))) (ifB (decide ((6:Int)<=
 z.1/\z.1<=(7:Int))) (ifT (decide ((0:Int)<=z.2.2.2.2.2.1)&&decide (z.2.2.2.2.2.1<(↑m:Int))) (Ak u[0+toNat
 z.2.2.2.2.2.1]? fun z_1=>ifT (decide ((0:Int)<=z.2.2.2.2.2.1)&&decide (z.2.2.2.2.2.1<(↑m:Int))) (Ak u[0 +
 toNat z.2.2.2.2.2.1]? fun z_2=>some (Ex.normal,[V.j n,V.ref 0 0 m,V.sl WCd l,V.j k,V.j (i64.wrap (i+1))],[R0 (Cd.int .i64) (u.set (0+toNat z.2.2.2.2.2.1) (i64.wrap (z_1+(1:Int))))])))) (some (Ex.normal,[V.j n,V.ref 0 0 m,
 V.sl WCd l,V.j k,V.j (i64.wrap (i+1))],[R0 (Cd.int .i64) u])))))) (some (Ex.exit 0,[V.j n,V.ref 0 0 m],[R0 (Cd.int .i64) u]))):_):=by kernel_rfl
theorem Oc (m:Nat) (k i:Int) (u:List Int):At prog Ub (Aa [(6,IZ),(16,Kf)]) 0 (body f117 1) Kf ([.ref 0 0 m,.j k,.j i],[R0 (.int .i64) u]) =
 ((ifB (decide (i<k)) (ifT (decide (0<=i)&&decide (i<(↑m:Int))) (Ak u[0+i.toNat]? fun z=>ifB (z != (1:Int)) rF (some
 (Ex.normal,[V.ref 0 0 m,V.j k,V.j (i64.wrap (i+1))],[R0 (Cd.int .i64) u])))) (some (Ex.exit 2,[],[]))):_):=by kernel_rfl
theorem Aej (l:List Wt):Aw prog Ub (Aa [(6,IZ),(16,Kf)]) f117 [.agg [.sl WCd l]] [] =
 ((ifB (!decide (1<=(↑l.length:Int)/\(↑l.length:Int)<=(20:Int))) nF (ifT (decide (0<=(↑l.length:Int))&&decide ((↑l.length:Int)<=
 (↑l.length:Int))&&decide ((↑l.length:Int)*(↑(8:Nat):Int)<=(140737488355328:Int))&&decide ((↑l.length:Int)<=(9223372036854775807:Int))) (ifT (decide
 ((0:Int)<=(0:Int)/\0<=l.length/\(↑l.length:Int)=(↑l.length:Int)/\(↑l.length:Int).toNat=l.length/\(replicate (↑l.length:Int).toNat (0 :
 Int)).length=l.length/\l.length<=20/\∀ (x:(Cd.int .i64).den),x∈replicate (↑l.length:Int).toNat (0:Int)->(0:(Cd.int .i64).den)<=x/\x<=(0 :
 Int))) (ifB (wgo 0 (drop 0 l) (replicate (↑l.length:Int).toNat (0:Int))).isSome (ifT (decide (0<=i64.wrap ((↑l.length:Int)-(1 :
 Int)))&&decide (i64.wrap ((↑l.length:Int)-(1:Int))<=(↑(((wgo 0 (drop 0 l) (replicate (↑l.length:Int).toNat (0:Int))).getD
 (Ag Int)).length-0):Int))) (ifT (decide ((0:Int)<=(0:Int)/\0<=(i64.wrap ((↑l.length:Int)-(1:Int))).toNat-0/\
 (↑((i64.wrap ((↑l.length:Int)-(1:Int))).toNat-0):Int)=(↑((i64.wrap ((↑l.length:Int)-(1:Int))).toNat-0):Int)/\
 (i64.wrap ((↑l.length:Int)-(1:Int))).toNat-0<=((wgo 0 (drop 0 l) (replicate (↑l.length:Int).toNat (0:Int))).getD
 (Ag Int)).length/\((wgo 0 (drop 0 l) (replicate (↑l.length:Int).toNat (0:Int))).getD (Ag Int)).length<=20)) (ifB (HI
 (drop 0 (take ((i64.wrap ((↑l.length:Int)-(1:Int))).toNat-0) ((wgo 0 (drop 0 l) (replicate (↑l.length
 : Int).toNat (0:Int))).getD (Ag Int))))) (some (V.b true,[])) nF))) nF)))):_):=by kernel_rfl
theorem K7 {w:Wt} {i:Int} (h:CK w i=true):(w.1=6\/w.1=7->0<=w.2.2.2.2.1/\w.2.2.2.2.1<w.2.2.2.2.2.1/\w.2.2.2.2.2.1<i)/\(w.1=8->0<=w.2.2.2.2.1/\w.2.2.2.2.1<i)/\(w.1<=8):=by
 unfold CK at h;split at h
 ·rename_i hk;have h:=of_decide_eq_true h;exact ⟨fun _=>h.2.2.2,fun e=>by omega,by omega⟩
 ·rename_i hk;split at h
  ·have h:=of_decide_eq_true h;exact ⟨fun e=>absurd e hk,fun _=>⟨h.2.2.2.1,h.2.2.2.2.1⟩,by omega⟩
  ·rename_i hk2;refine ⟨fun e=>absurd e hk,fun e=>absurd e hk2,?_⟩;simp only [anE] at h;have:=h.1.2;unfold H7 at this;split at this
   ·omega
   ·split at this
    ·omega
    ·split at this
     ·omega
     ·cases this
theorem E6 (u:List Int) (k:Nat):(Id u k).length=u.length:=by unfold Id; simp
theorem Ic {u:List Int} {k:Nat} {b:Int} (h : ∀ x∈u,0<=x/\x<=b) (hk:k<u.length) : ∀ x∈Id u k,0<=x/\x<=b+1:=by
 intro x hx;unfold Id at hx;rcases List.mem_or_eq_of_mem_set hx with hx | rfl
 ·have:=h x hx; omega
 ·have e:u.getD k 0=u[k]:=by simp [hk]
  rw [e];have:=h _ (getElem_mem hk);omega
theorem OF {w:Wt} {i:Int} {u:List Int} (h:CK w i=true) (hi:i<=u.length) (hu : ∀ x∈u,0<=x/\x<=2*i):(KA w u).length=u.length/\∀ x∈KA w u,0<=x/\x<=2*(i+1):=by
 obtain ⟨h1,h2,_⟩:=K7 h;unfold KA;split
 ·rename_i hk;have:=h1 hk;refine ⟨by rw [E6,E6],?_⟩;have a:=Ic (Ic hu (k:=w.2.2.2.2.1.toNat) (by omega)) (k:=w.2.2.2.2.2.1.toNat) (by rw [E6]; omega);exact fun x hx=>by have:=a x hx; omega
 ·split
  ·rename_i hk;have:=h2 hk;refine ⟨by rw [E6],?_⟩;have a:=Ic hu (k:=w.2.2.2.2.1.toNat) (by omega);exact fun x hx=>by have:=a x hx; omega
  ·exact ⟨rfl,fun x hx=>by have:=hu x hx; omega⟩
theorem Aek (n:Int) (l:List Wt) (i:Nat) (u:List Int) (hi:i<l.length) (hul:u.length=l.length) (hl:l.length<=20) (hu : ∀ x∈u,0<=x/\x<=2*(i:Int)) :
  At prog Ub (Aa [(6,IZ),(16,Kf)]) 0 (body f117 0) IZ ([.j n,.ref 0 0 l.length,.sl WCd l,.j (l.length:Int),.j (i:Int)],[R0 (.int .i64) u])=if CK l[i] (i:Int)=true then some (.normal,([.j n,.ref 0 0 l.length,.sl WCd l,.j (l.length:Int),.j ((i+1:Nat):Int)],[R0 (.int .i64) (KA l[i] u)])) else some (.ret,([.b false],[])):=by
 rw [Od];have hM:=mxI;rw [Ae (dcT (by omega)),T2 (by omega),ntN,gtE hi,Ai,Ap (n:=i) (by omega)];generalize hw:l[i]=w;obtain ⟨w0,w1,w2,w3,w4,w5,⟨⟩⟩:=w;dsimp only
 cases hb:CK (w0,w1,w2,w3,w4,w5,()) (i:Int) with
 | false=>rfl
 | true=>
  obtain ⟨h1,h2,h3⟩:=K7 hb;dsimp only at h1 h2 h3;rw [Bool.not_true,A6,if_pos rfl];simp only [zero_add];unfold KA Id;dsimp only;have wr : ∀ {x:Int},0<=x->x<=100->i64.wrap (x+1)=x+1:=fun h h'=>Av (by omega) (by omega)
  have at' : ∀ {v:List Int} {k:Nat} (hk:k<v.length),v.getD k 0=v[k]:=fun hk=>by simp [hk]
  by_cases q6:w0=6\/w0=7
  ·obtain ⟨a1,a2,a3⟩:=h1 q6;have k4:w4.toNat<u.length:=by omega
   have u4:=hu _ (getElem_mem k4);have k5:w5.toNat<(u.set w4.toNat (u[w4.toNat]+1)).length:=by rw [List.length_set]; omega
   have u5:=Ic hu k4 ((u.set w4.toNat (u[w4.toNat]+1))[w5.toNat]) (by unfold Id; rw [at' k4]; exact getElem_mem k5);rw [if_pos q6,Ae (dcT (by omega)),T2 (by omega),gtE k4,Ai,T2 (by omega),Ai,Ae (dcT (by omega)),T2 (by omega),wr (by omega) (by omega),gtE k5,Ai,T2 (by omega),Ai,wr (by omega) (by omega),at' k4,at' k5]
  ·rw [if_neg q6]
   by_cases q8:w0=8
   ·obtain ⟨a1,a2⟩:=h2 q8;have k4:w4.toNat<u.length:=by omega
    have u4:=hu _ (getElem_mem k4);rw [if_pos q8,Ae (dcT (by omega)),T2 (by omega),gtE k4,Ai,T2 (by omega),Ai,Ac (dcF (by omega)),wr (by omega) (by omega),at' k4]
   ·rw [if_neg q8,Ac (dcF (by omega)),Ac (dcF (by omega))]
theorem Ro (n:Int) (l:List Wt) (hl:l.length<=20) : ∀ (j i:Nat) (u:List Int),i+j=l.length->u.length=l.length->(∀ x∈u,0<=x/\x<=2*(i:Int))->∀ ex d,(Br.br (wgo i (l.drop i) u).isSome (.leaf (.exit 0,([.j n,.ref 0 0 ((wgo i (l.drop i) u).getD []).length],[R0 (.int .i64) ((wgo i (l.drop i) u).getD [])]))) (.leaf (.ret,([.b false],[]))):Br (Ex×Dt)).run=some (ex,d)->
  Runs prog Ub (Aa [(6,IZ),(16,Kf)]) 0 (body f117 0) IZ ([.j n,.ref 0 0 l.length,.sl WCd l,.j (l.length:Int),.j (i:Int)],[R0 (.int .i64) u]) ex d
 | 0,i,u,hi,hul,hu,ex,d,h=>by
  have hr:=Od n l.length l l.length i u;rw [Ac (dcF (by omega))] at hr;rw [drop_eq_nil_of_le (by omega),wgo] at h;have h8:=AO (show (Br.leaf (.exit 0,([.j n,.ref 0 0 u.length],[R0 (.int .i64) u])):Br (Ex×Dt)).run=some (ex,d) from h);obtain ⟨rfl,rfl⟩:=Prod.mk.inj h8;rw [hul];exact stp hr
 | j+1,i,u,hi,hul,hu,ex,d,h=>by
  have hlt:i<l.length:=by omega
  have hr:=Aek n l i u hlt hul hl hu;rw [drop_eq_getElem_cons hlt,wgo] at h
  by_cases q:CK l[i] (i:Int)=true
  ·rw [if_pos q] at hr h;obtain ⟨g1,g2⟩:=OF q (by omega) hu;exact sts hr (Ro n l hl j (i+1) (KA l[i] u) (by omega) (g1.trans hul) (by push_cast; exact g2) ex d h)
  ·rw [if_neg q] at hr h;have h8:=AO (show (Br.leaf (.ret,([.b false],[])):Br (Ex×Dt)).run=some (ex,d) from h);obtain ⟨rfl,rfl⟩:=Prod.mk.inj h8;exact stp hr
theorem Rn (m:Nat) (u:List Int) (hm:m<=u.length) (hu:u.length<=20) : ∀ (j i:Nat),i+j=m->∀ ex d,(Br.br (HI ((u.take m).drop i)) (.leaf (.exit 2,([],[]))) (.leaf (.ret,([.b false],[]))):Br (Ex×Dt)).run=some (ex,d)->
  Runs prog Ub (Aa [(6,IZ),(16,Kf)]) 0 (body f117 1) Kf ([.ref 0 0 m,.j (m:Int),.j (i:Int)],[R0 (.int .i64) u]) ex d
 | 0,i,hi,ex,d,h=>by
  have hr:=Oc m m i u;rw [Ac (dcF (by omega))] at hr;rw [drop_eq_nil_of_le (by simp; omega)] at h;have h8:=AO (show (Br.leaf (.exit 2,([],[])):Br (Ex×Dt)).run=some (ex,d) from h);obtain ⟨rfl,rfl⟩:=Prod.mk.inj h8;exact stp hr
 | j+1,i,hi,ex,d,h=>by
  have hM:=mxI;have hlt:i<u.length:=by omega
  have hr:=Oc m m i u;rw [Ae (dcT (by omega)),T2 (by omega),ntN,zero_add,gtE hlt,Ai,Ap (n:=i) (by omega)] at hr
  have hd:(u.take m).drop i=u[i]::(u.take m).drop (i+1):=by
   rw [drop_eq_getElem_cons (by simp; omega)];simp
  have ec:HI ((u.take m).drop i)=(u[i]==1&&HI ((u.take m).drop (i+1))):=by rw [hd]; rfl
  rw [ec] at h
  by_cases q:u[i]=1
  ·rw [q] at hr h;rw [Ac (by rfl)] at hr;exact sts hr (Rn m u hm hu j (i+1) (by omega) ex d h)
  ·rw [Ae (by simpa using q)] at hr;rw [beq_false_of_ne q,Bool.false_and] at h;have h8:=AO (show (Br.leaf (.ret,([.b false],[])):Br (Ex×Dt)).run=some (ex,d) from h);obtain ⟨rfl,rfl⟩:=Prod.mk.inj h8;exact stp hr
theorem Ak6:As prog Ub (Aa [(6,IZ),(16,Kf)]) 0 (f117.body.getD .skip):=by
 refine LoopsI.loops (cs:=[body f117 0,body f117 1]) ?_ (by kernel_rfl);refine .cons (ent:=IZ) (by rfl) (fun d ex d' h=>?_) (.cons (ent:=Kf) (by rfl) (fun d ex d' h=>?_) .nil)
 ·unfold IZ at h;dsimp only at h;split at h
  ·rename_i n m l k i u;obtain ⟨hc,hx⟩:=Ad h;clear h;obtain ⟨h0,h1,rfl,rfl,h4,h5,h6⟩:=of_decide_eq_true hc;obtain ⟨i,rfl⟩:=eq_ofNat_of_zero_le h0;simp only [ntN] at h1 hx;exact Ro n l h5 (l.length-i) i u (by omega) h4 h6 ex d' hx
  ·cases h
 ·unfold Kf at h;dsimp only at h;split at h
  ·rename_i m k i u;obtain ⟨hc,hx⟩:=Ad h;clear h;obtain ⟨h0,h1,rfl,h4,h5⟩:=of_decide_eq_true hc;obtain ⟨i,rfl⟩:=eq_ofNat_of_zero_le h0;simp only [ntN] at h1 hx;exact Rn m u h4 h5 (m-i) i (by omega) ex d' hx
  ·cases h
theorem OD : ∀ (l:List Wt) (i:Nat) (u:List Int) {v:List Int},i+l.length<=u.length->(∀ x∈u,0<=x/\x<=2*(i:Int))->wgo i l u=some v->v.length=u.length
 | [],i,u,v,hl,hu,h=>by rw [wgo] at h; cases h; rfl
 | w::l,i,u,v,hl,hu,h=>by
  rw [wgo] at h;split at h
  ·rename_i q;rw [length_cons] at hl;obtain ⟨g1,g2⟩:=OF q (by omega) hu;rw [OD l (i+1) _ (by omega) (by push_cast; exact g2) h,g1]
  ·cases h
theorem Agv:Af prog 117 (Ent.rd1 Hp).F:=by
 refine fcK (kc func115 Ia (kc func158 Ajs KnowsL.nil)).knows (Λ:=(Aa [(6,IZ),(16,Kf)])) func117 fun vs bs r hq=>?_
 unfold Ent.F Hp at hq;dsimp only at hq;split at hq
 ·rename_i l;refine ⟨Ak6,Eq.trans ?_ hq⟩;rw [Aej];unfold B6
  by_cases q:1<=l.length/\l.length<=20
  rotate_left
  ·rw [Ae (by rw [dcF (by omega)]; rfl),dcF q]; rfl
  have hz : ∀ x∈replicate l.length (0:Int),0<=x/\x<=2*((0:Nat):Int):=fun x hx=>by
   have:=List.eq_of_mem_replicate hx;omega
  have hz0 : ∀ x∈replicate l.length (0:Int),0<=x/\x<=0:=fun x hx=>by
   have:=List.eq_of_mem_replicate hx;omega
  have w1:i64.wrap ((l.length:Int)-1)=((l.length-1:Nat):Int):=by rw [Av (by omega) (by omega)]; omega
  simp only [ntN,drop_zero,w1,sub_zero,AX];rw [dcT q,Ac (by rw [dcT (by omega)]; rfl),Ab (by simp only [anE,dcE]; omega),Ab (dcT ⟨by omega,by omega,trivial,trivial,by simp,q.2,hz0⟩)]
  cases e:wgo 0 l (replicate l.length 0) with
  | none=>rfl
  | some u=>
   have hl:=OD l 0 _ (by simp) hz e;rw [List.length_replicate] at hl;simp only [Option.isSome_some,Option.getD_some,AR];rw [Ab (by simp only [anE,dcE]; omega),Ab (dcT ⟨by omega,by omega,by trivial,by rw [hl]; omega,by rw [hl]; omega⟩)];cases HI (u.take (l.length-1))<;>rfl
 ·cases hq
def Ce (w:Wt):List Int:=if w.1=6\/w.1=7 then [w.2.2.2.2.1,w.2.2.2.2.2.1] else if w.1=8 then [w.2.2.2.2.1] else []
def P2 (ps:List Int) (u:List Int):List Int:=ps.foldl (fun u k=>Id u k.toNat) u
def K0:Gm
 | [.j k,.j n,.s s],[]=>.leaf (.b (H7 k n s),[])
 | _,_=>.no
def Tt:Gm
 | [.agg (Lw w0 w1 w2 w3 w4 w5),.j i],[]=>.need (decide (0<=i/\i<=1000)) (.leaf (.b (CK (w0,w1,w2,w3,w4,w5,()) i),[]))
 | _,_=>.no
def OC:Gm
 | [.agg (Lw w0 w1 w2 w3 w4 w5)],[]=>.leaf (.ref 0 0 (Ce (w0,w1,w2,w3,w4,w5,())).length,[R0 (.int .i64) (Ce (w0,w1,w2,w3,w4,w5,()))])
 | _,_=>.no
def SU:Gm
 | [.j x],[]=>.leaf (.b (x != 1),[])
 | _,_=>.no
def Pp  : LoopEnt:=⟨19,[0,1,4,7,8],[],[4],fun
 | ([.sl (.int .i64) l,.fn 165 [] [],.j r,.j k,.j i],[])=>
  .need (decide (0<=i/\i.toNat<=l.length/\l.length<=maxI/\k=l.length)) (.br (decide (Aq (fun z:Int=>z != 1) i.toNat (l.drop i.toNat)<0)) (.leaf (.exit 0,([],[]))) (.leaf (.ret,([.j (Aq (fun z:Int=>z != 1) i.toNat (l.drop i.toNat))],[]))))
 | _=>.no⟩
def U5  : Gm
 | [.sl (.int .i64) l,.fn 165 [] []],[]=>.leaf (.j (Aq (fun z:Int=>z != 1) 0 l),[])
 | _,_=>.no
def Zt  : Gm
 | [.sl (.int .i64) l,.fn 165 [] []],[]=>.leaf (.b (l.any (fun z:Int=>z != 1)),[])
 | _,_=>.no
def Gd:LoopEnt:=⟨51,[3,18,19,20],[3],[2],fun
 | ([.ref 0 0 m,.sl WCd l,.j k,.j i],[R0 (.int .i64) u])=>.need (decide (0<=i/\i.toNat<=l.length/\k=l.length/\m=l.length/\u.length=l.length/\l.length<=20/\(∀ x∈u,0<=x/\x<=2*i))) (.br (wgo i.toNat (l.drop i.toNat) u).isSome (.leaf (.exit 0,([.ref 0 0 ((wgo i.toNat (l.drop i.toNat) u).getD []).length],[R0 (.int .i64) ((wgo i.toNat (l.drop i.toNat) u).getD [])]))) (.leaf (.ret,([.b false],[]))))
 | _=>.no⟩
def Gc:LoopEnt:=⟨51,[3,18,19,20,30,31,32],[3,18,19,20],[2],fun
 | ([.ref 0 0 m,.sl WCd l,.j k,.j i,.ref 1 0 p,.j q,.j j],[R0 (.int .i64) u,R0 (.int .i64) ps])=>.need (decide (0<=j/\j.toNat<=ps.length/\q=ps.length/\p=ps.length/\m=u.length/\ps.length<=2/\(∀ x∈ps,0<=x/\x.toNat<u.length)/\(∀ x∈u,0<=x/\x<=1000))) (.leaf (.exit 2,([.ref 0 0 (P2 (ps.drop j.toNat) u).length,.sl WCd l,.j k,.j i],[R0 (.int .i64) (P2 (ps.drop j.toNat) u)])))
 | _=>.no⟩
theorem WF (c x y:Bool):ifB c (some ((V.b x,[]):V×List (Option Blk))) (some (V.b y,[]))=some (V.b (cond c x y),[]):=by cases c<;>rfl
theorem Tw (k n:Int) (s:By):Aw prog (Aa [(218,.rd1 EZ)]) (Aa []) f197 [.j k,.j n,.s s] []=some (.b (H7 k n s),[]):=by
 have e:Aw prog (Aa [(218,.rd1 EZ)]) (Aa []) f197 [.j k,.j n,.s s] []=((ifB (k==1) (ifB (k==1) (ifB (Cm n) (some (V.b (s==Ag UInt8),[])) nF) (ifB (k==4) (ifB (n==0) (some (V.b (s==Ag UInt8),[])) nF) (ifB (k==5) (ifB (n==0) (some (V.b (decide ((↑s.length:Int)<=(30:Int))),[])) nF) nF))) (ifB (k==2)
 (ifB (k==2) (ifB (Cm n) (some (V.b (s==Ag UInt8),[])) nF) (ifB (k==4) (ifB (n==0) (some (V.b (s==Ag UInt8),[])) nF) (ifB (k==5) (ifB (n==0) (some (V.b (decide ((↑s.length:Int)<=(30:Int))),[])) nF) nF))) (ifB (k==3) (ifB (Cm n)
 (some (V.b (s==Ag UInt8),[])) nF) (ifB (k==4) (ifB (n==0) (some (V.b (s==Ag UInt8),[])) nF) (ifB (k==5) (ifB (n==
 0) (some (V.b (decide ((↑s.length:Int)<=(30:Int))),[])) nF) nF))))):_):=by kernel_rfl
 rw [e];clear e;show _=some (V.b (H7 k n s),[]);simp only [AX];unfold H7
 by_cases a1:k=1
 ·subst a1; cases hn:Cm n<;>cases s<;>simp [ifB]
 by_cases a2:k=2
 ·subst a2; cases hn:Cm n<;>cases s<;>simp [ifB]
 by_cases a3:k=3
 ·subst a3; cases hn:Cm n<;>cases s<;>simp [ifB]
 have q1:=beq_eq_false_iff_ne.2 a1;have q2:=beq_eq_false_iff_ne.2 a2;have q3:=beq_eq_false_iff_ne.2 a3;rw [if_neg (by omega)]
 by_cases a4:k=4
 ·subst a4;rw [if_pos rfl];cases n==0<;>cases s<;>simp [ifB]
 have q4:=beq_eq_false_iff_ne.2 a4;rw [if_neg a4]
 by_cases a5:k=5
 ·subst a5;rw [if_pos rfl]
  by_cases ht:s.length<=30
  ·rw [dcT (show (s.length:Int)<=30 by omega),dcT ht]; cases n==0<;>simp [ifB]
  ·rw [dcF (show ¬(s.length:Int)<=30 by omega),dcF ht]; cases n==0<;>simp [ifB]
 have q5:=beq_eq_false_iff_ne.2 a5;rw [if_neg a5];simp [ifB,q1,q2,q3,q4,q5]
theorem Aig:Af prog 197 (Ent.rd1 K0).F:=by
 refine fcK (kc func218 Zn KnowsL.nil).knows (Λ:=Aa []) func197 fun vs bs r' hq=>?_
 unfold Ent.F K0 at hq;dsimp only at hq;split at hq
 ·exact ⟨Ah _,(Tw _ _ _).trans hq⟩
 ·cases hq
theorem W7 (w0 w1 w2:Int) (w3:By) (w4 w5:Int) (i:Int) (h0:0<=i) (h1:i<=1000):Aw prog (Aa [(125,.rd1 A0),(197,.rd1 K0)]) (Aa []) f162 [.agg (Lw w0 w1 w2 w3 w4 w5),.j i] []=some (.b (CK (w0,w1,w2,w3,w4,w5,()) i),[]):=by
 have e:Aw prog (Aa [(125,.rd1 A0),(197,.rd1 K0)]) (Aa []) f162 [.agg (Lw w0 w1 w2 w3 w4 w5),.j i] []=((ifB (w0==6) (ifB (w0==6) (ifB (w1==0) (ifB (w2==0) (ifB (w3==Ag UInt8) (ifB (decide (w4>=0)) (ifB (decide (w4<w5)) (some (V.b (decide (w5<i)),[])) nF) nF) nF) nF) nF) (ifB (w0==8) (ifB (w1==0) (ifB (w2==0) (ifB (w3==
 Ag UInt8) (ifB (decide (0<=w4/\w4<=i64.wrap (i-1))) (some (V.b (w5==0),[])) nF) nF) nF)
 nF) (ifB (decide (1<=w1/\w1<=30)) (ifB (H7 w0 w2 w3) (ifB (w4==0) (some (V.b (w5==0),[])) nF) nF)
 nF))) (ifB (w0==7) (ifB (w1==0) (ifB (w2==0) (ifB (w3==Ag UInt8) (ifB (decide (w4>=0)) (ifB (decide (w4<w5)) (some (V.b (decide (w5 <
 i)),[])) nF) nF) nF) nF) nF) (ifB (w0==8) (ifB (w1==0) (ifB (w2
 == 0) (ifB (w3==Ag UInt8) (ifB (decide (0<=w4/\w4<=i64.wrap (i-1))) (some (V.b (w5==0),[])) nF) nF) nF) nF) (ifB (decide (1<=w1/\w1<=30)) (ifB (H7 w0 w2 w3) (ifB (w4==0) (some (V.b (w5==0),[])) nF) nF) nF)))):_):=by kernel_rfl
 rw [e];clear e;have w1:i64.wrap (i-1)=i-1:=Av (by omega) (by omega);simp only [AX,w1,WF];refine congrArg (fun b=>some (V.b b,[])) ?_;unfold CK;dsimp only;rw [Bool.eq_iff_iff]
 by_cases a6:w0=6
 ·subst a6; simp; try omega
 by_cases a7:w0=7
 ·subst a7; simp; try omega
 by_cases a8:w0=8
 ·subst a8; simp; try omega
 have q6:=beq_eq_false_iff_ne.2 a6;have q7:=beq_eq_false_iff_ne.2 a7;have q8:=beq_eq_false_iff_ne.2 a8;rw [if_neg (by omega),if_neg a8,q6,q7,q8];simp [and_assoc]
theorem Akq:Af prog 162 (Ent.rd1 Tt).F:=by
 refine fcK (kc func125 Dd (kc func197 Aig KnowsL.nil)).knows (Λ:=Aa []) func162 fun vs bs r' hq=>?_
 unfold Ent.F Tt at hq;dsimp only at hq;split at hq
 ·obtain ⟨hc,hx⟩:=Ad hq;obtain ⟨h0,h1⟩:=of_decide_eq_true hc;exact ⟨Ah _,(W7 _ _ _ _ _ _ _ h0 h1).trans hx⟩
 ·cases hq
theorem RW (w0 w1 w2:Int) (w3:By) (w4 w5:Int):BI prog (Aa []) (Aa []) f163 [.agg (Lw w0 w1 w2 w3 w4 w5)] []=some (.ref 0 0 (Ce (w0,w1,w2,w3,w4,w5,())).length,[R0 (.int .i64) (Ce (w0,w1,w2,w3,w4,w5,()))]):=by
 have e:BI prog (Aa []) (Aa []) f163 [.agg (Lw w0 w1 w2 w3 w4 w5)] []=((ifB (w0==6) (ifB (w0==6) (some (V.ref 0 0 2,[R0 (Cd.int .i64) (w4::w5::Ag (Cd.int .i64).den)])) (ifB (w0==8) (some (V.ref 0 0 1,[R0 (Cd.int .i64) (w4::Ag (Cd.int .i64).den)])) (some (V.ref 0 0 0,[R0 (Cd.int .i64) (Ag (Cd.int .i64).den)])))) (ifB (w0
 == 7) (some (V.ref 0 0 2,[R0 (Cd.int .i64) (w4::w5::Ag (Cd.int .i64).den)])) (ifB (w0==8) (some (V.ref 0 0 1,[R0 (Cd.int .i64) (w4::Ag (Cd.int .i64).den)])) (some (V.ref 0 0 0,[R0 (Cd.int .i64) (Ag (Cd.int .i64).den)]))))):_):=by kernel_rfl
 rw [e];clear e
 try dsimp only [shr]
 unfold Ce;dsimp only
 by_cases a6:w0=6
 ·subst a6; rfl
 by_cases a7:w0=7
 ·subst a7; rfl
 rw [if_neg (by omega),Ac (beq_eq_false_iff_ne.2 a6),Ac (beq_eq_false_iff_ne.2 a7)]
 by_cases a8:w0=8
 ·subst a8; rfl
 rw [if_neg a8,Ac (beq_eq_false_iff_ne.2 a8)];rfl
theorem RX:Af prog 163 (Ent.rd1 OC).F:=by
 refine fcC KnowsL.nil.knows (Λ:=Aa []) func163 fun vs bs r' hq=>?_
 unfold Ent.F OC at hq;dsimp only at hq;split at hq
 ·exact ⟨Ah _,(RW _ _ _ _ _ _).trans hq⟩
 ·cases hq
theorem Adm:Af prog 165 (Ent.rd1 SU).F:=by
 refine fcK KnowsL.nil.knows (Λ:=Aa []) func165 fun vs bs r hq=>?_
 unfold Ent.F SU at hq;dsimp only at hq;split at hq
 ·rename_i x;refine ⟨Ah _,Eq.trans ?_ hq⟩;have e:Aw prog (Aa []) (Aa []) f165 [.j x] []=((some (V.b (x != (1:Int)),[])):_):=by kernel_rfl
  exact e
 ·cases hq
theorem NB   (l:List (Int)) (r k i:Int):At prog (Aa [(165,.rd1 SU)]) (Aa [(2,Pp)]) 0 (body f198 0) Pp ([.sl (.int .i64) l,.fn 165 [] [],.j r,.j k,.j i],[]) =
 ((ifB (decide (i<k)) (ifT (decide (0<=i)&&decide (i<(↑l.length:Int))) (Ak l[i.toNat]? fun z=>ifB (z != (1:Int)) (some (Ex.ret,[V.j i],[])) (some
 (Ex.normal,[V.sl (Cd.int .i64) l,V.fn 165 [] [],V.j r,V.j k,V.j (i64.wrap (i+1))],[])))) (some (Ex.exit 0,[],[]))):_):=by kernel_rfl
theorem Q9   {l:List (Int)} {r:Int} (hx:l.length<=maxI) : ∀ (j i:Nat),i+j=l.length->∀ e d',(.br (decide (Aq (fun z:Int=>z != 1) i (l.drop i)<0)) (.leaf (.exit 0,([],[]))) (.leaf (.ret,([.j (Aq (fun z:Int=>z != 1) i (l.drop i))],[]))):Br (Ex×Dt)).run=some (e,d')->
  Runs prog (Aa [(165,.rd1 SU)]) (Aa [(2,Pp)]) 0 (body f198 0) Pp ([.sl (.int .i64) l,.fn 165 [] [],.j r,.j (l.length:Int),.j (i:Int)],[]) e d'
 | 0,i,hi,e,d',h=>by
  have e1:l.drop i=[]:=drop_eq_nil_of_le (by omega);rw [e1,Bz,Aq,if_pos (by omega)] at h;cases h;have hr:=NB  l r l.length i;rw [Ac (dcF (by omega))] at hr;exact stp hr
 | j+1,i,hi,e,d',h=>by
  have h1:i<l.length:=by omega
  have hr:=NB  l r l.length i;rw [Ae (dcT (by omega)),T2 (by omega)] at hr;simp only [ntN,gtE h1,Ai,Ap (n:=i) (by omega)] at hr;rw [drop_eq_getElem_cons h1,Bz,Aq] at h
  by_cases he:(fun z:Int=>z != 1) l[i]=true
  ·rw [if_pos he,if_neg (by omega)] at h;cases h;rw [Ae he] at hr;exact stp hr
  ·rw [if_neg he] at h;rw [Ac (by simpa using he)] at hr;exact sts hr (Q9  hx j (i+1) (by omega) e d' (by rw [Bz]; exact h))
theorem Ahp  : As prog (Aa [(165,.rd1 SU)]) (Aa [(2,Pp)]) 0 (f198.body.getD .skip):=by
 refine Am (a:=body f198 0) (by kernel_rfl) fun d e d' h=>?_
 unfold Pp at h;dsimp only at h;split at h
 ·obtain ⟨hc,h'⟩:=Ad h;obtain ⟨h0,h1,h2,rfl⟩:=of_decide_eq_true hc;obtain ⟨i,rfl⟩:=eq_ofNat_of_zero_le h0;exact Q9  h2 _ i (add_sub_of_le h1) e d' h'
 ·cases h
theorem Adl   (l:List (Int)) (hx:l.length<=maxI):Aw prog (Aa [(165,.rd1 SU)]) (Aa [(2,Pp)]) f198 [.sl (.int .i64) l,.fn 165 [] []] []=some (.j (Aq (fun z:Int=>z != 1) 0 l),[]):=by
 have e:Aw prog (Aa [(165,.rd1 SU)]) (Aa [(2,Pp)]) f198 [.sl (.int .i64) l,.fn 165 [] []] [] =
  ((ifT (decide ((0:Int)<=(0:Int)/\0<=l.length/\l.length<=maxI/\(↑l.length:Int)=(↑l.length:Int))) (ifB (decide (Aq (fun z=>z != (1:Int)) (0 :
 Nat) (drop 0 l)<(0:Int))) (some (V.j (-1),[])) (some (V.j (Aq (fun z=>z != (1:Int)) 0 (drop 0 l)),[])))):_):=by kernel_rfl
 rw [e,Ab (dcT ⟨by omega,by omega,hx,rfl⟩)];simp only [Int.toNat_zero,drop_zero]
 by_cases q:Aq (fun z:Int=>z != 1) 0 l<0
 ·rw [Ae (dcT q),Ci _ _ _ q]
 ·rw [Ac (dcF q)]
theorem Adj  : Af prog 198 (Ent.rd1 U5).F:=by
 refine AB (kc func165 Adm KnowsL.nil).knows (Λ:=(Aa [(2,Pp)])) func198 (c:=f198.body.getD .skip) (by kernel_rfl) fun vs bs r h hv hb=>?_
 unfold Ent.F U5 at h;dsimp only at h;split at h
 ·rename_i l ;have h':=h;exact ⟨Ahp ,(Adl  l (hv (.sl (.int .i64) l) (by simp)).1).trans (by cases h'; rfl)⟩
 ·cases h
theorem Zu   (l:List (Int)):Aw prog (Aa [(198,.rd1 U5)]) (Aa []) f164 [.sl (.int .i64) l,.fn 165 [] []] []=some (.b (l.any (fun z:Int=>z != 1)),[]):=by
 have e:Aw prog (Aa [(198,.rd1 U5)]) (Aa []) f164 [.sl (.int .i64) l,.fn 165 [] []] [] =
  ((some (V.b (decide (Aq (fun z=>z != (1:Int)) 0 l>=(0:Int))),[])):_):=by kernel_rfl
 rw [e]
 skip
 rw [Fo]
theorem Adk  : Af prog 164 (Ent.rd1 Zt).F:=by
 refine fcK (kc func198 (Adj ) KnowsL.nil).knows (Λ:=Aa []) func164 fun vs bs r h=>?_
 unfold Ent.F Zt at h;dsimp only at h;split at h
 ·rename_i l ;have h':=h;exact ⟨Ah _,(Zu  l).trans (by cases h'; rfl)⟩
 ·cases h
abbrev Xz:FuncId->Option Ent:=Aa [(125,.rd1 A0),(162,.rd1 Tt),(163,.rd1 OC),(164,.rd1 Zt)]
theorem LR (m:Nat) (l:List Wt) (k i:Int) (u:List Int):At prog Xz (Aa [(5,Gd),(10,Gc)]) 0 (body f127 0) Gd ([.ref 0 0 m,.sl WCd l,.j k,.j i],[R0 (.int .i64) u]) =
 ((ifB (decide (i<k)) (ifT (decide (0<=i)&&decide (i<(↑l.length:Int))) (Ak l[i.toNat]? fun z=>ifT (decide (0<=i/\i<=1000)) (ifB (!CK (z.1,z.2.1,
 z.2.2.1,z.2.2.2.1,z.2.2.2.2.1,z.2.2.2.2.2.1,()) i) rF (ifT (decide ((0:Int)<=(0:Int)/\(0 :
 Nat)<=(Ce (z.1,z.2.1,z.2.2.1,z.2.2.2.1,z.2.2.2.2.1,z.2.2.2.2.2.1,())).length/\(↑(Ce (z.1,z.2.1,
 z.2.2.1,z.2.2.2.1,z.2.2.2.2.1,z.2.2.2.2.2.1,())).length:Int)=(↑(Ce (z.1,z.2.1,z.2.2.1,z.2.2.2.1,
 z.2.2.2.2.1,z.2.2.2.2.2.1,())).length:Int)/\(Ce (z.1,z.2.1,z.2.2.1,z.2.2.2.1,z.2.2.2.2.1,
 z.2.2.2.2.2.1,())).length=(Ce (z.1,z.2.1,z.2.2.1,z.2.2.2.1,z.2.2.2.2.1,z.2.2.2.2.2.1,())).length/\m =
 u.length/\(Ce (z.1,z.2.1,z.2.2.1,z.2.2.2.1,z.2.2.2.2.1,z.2.2.2.2.2.1,())).length<=2/\(∀ (x:(Cd.int
 .i64).den),x∈Ce (z.1,z.2.1,z.2.2.1,z.2.2.2.1,z.2.2.2.2.1,z.2.2.2.2.2.1,())->(0:(Cd.int .i64).den)<=x/\
 toNat x<u.length)/\∀ (x:(Cd.int .i64).den),x∈u->(0:(Cd.int .i64).den)<=x/\x<=(1000:(Cd.int .i64).den))) (some (Ex.normal,[V.ref 0 0 (P2 (drop
 0 (Ce (z.1,z.2.1,z.2.2.1,z.2.2.2.1,z.2.2.2.2.1,z.2.2.2.2.2.1,()))) u).length,V.sl WCd l,V.j k,V.i .i64
 (i64.wrap (i+1))],[R0 (Cd.int .i64) (P2 (drop 0 (Ce (z.1,z.2.1,z.2.2.1,z.2.2.2.1,
 z.2.2.2.2.1,z.2.2.2.2.2.1,()))) u)])))))) (some (Ex.exit 0,[V.ref 0 0 m],[R0 (Cd.int .i64) u]))):_):=by kernel_rfl
theorem LQ (m:Nat) (l:List Wt) (k i:Int) (p:Nat) (q j:Int) (u ps:List Int):At prog Xz (Aa [(5,Gd),(10,Gc)]) 0 (body f127 1) Gc ([.ref 0 0 m,.sl WCd l,.j k,.j i,.ref 1 0 p,.j q,.j j],[R0 (.int .i64) u,R0 (.int .i64) ps]) =
 ((ifB (decide (j<q)) (ifT (decide (0<=j)&&decide (j<(↑p:Int))) (Ak ps[0+j.toNat]? fun z=>ifT (decide ((0:Int)<=z)&&decide (z<(↑m:Int)))
 (Ak u[0+toNat z]? fun z_1=>ifT (decide ((0:Int)<=z)&&decide (z<(↑m:Int))) (Ak u[0+toNat z]? fun z_2=>some (Ex.normal,
 [V.ref 0 0 m,V.sl WCd l,V.j k,V.j i,V.ref 1 0 p,V.j q,V.j (i64.wrap (j+1))],[R0 (Cd.int .i64) (u.set (0
 + toNat z) (i64.wrap (z_1+(1:Int)))),R0 (Cd.int .i64) ps]))))) (some (Ex.exit 2,[V.ref 0 0 m,V.sl WCd l,V.j k,V.i .i64
 i],[R0 (Cd.int .i64) u]))):_):=by kernel_rfl
theorem ZS (l:List Wt):Aw prog Xz (Aa [(5,Gd),(10,Gc)]) f127 [.agg [.sl WCd l]] [] =
 ((ifB (!decide (1<=(↑l.length:Int)/\(↑l.length:Int)<=(20:Int))) nF (ifT (decide (0<=(↑l.length:Int))&&decide ((↑l.length:Int)<=
 (↑l.length:Int))&&decide ((↑l.length:Int)*(↑(8:Nat):Int)<=(140737488355328:Int))&&decide ((↑l.length:Int)<=(9223372036854775807:Int))) (ifT (decide
 ((0:Int)<=(0:Int)/\0<=l.length/\(↑l.length:Int)=(↑l.length:Int)/\(↑l.length:Int).toNat=l.length/\(replicate (↑l.length:Int).toNat (0 :
 Int)).length=l.length/\l.length<=20/\∀ (x:(Cd.int .i64).den),x∈replicate (↑l.length:Int).toNat (0:Int)->(0:(Cd.int .i64).den)<=x/\x<=(0 :
 Int))) (ifB (wgo 0 (drop 0 l) (replicate (↑l.length:Int).toNat (0:Int))).isSome (ifT (decide (0<=i64.wrap ((↑((wgo 0
 (drop 0 l) (replicate (↑l.length:Int).toNat (0:Int))).getD (Ag Int)).length:Int)-(1:Int)))&&decide (i64.wrap ((↑((wgo 0
 (drop 0 l) (replicate (↑l.length:Int).toNat (0:Int))).getD (Ag Int)).length:Int)-(1:Int))<=(↑(((wgo 0 (drop 0 l)
 (replicate (↑l.length:Int).toNat (0:Int))).getD (Ag Int)).length-0):Int))) (some (V.b !(take ((i64.wrap ((↑((wgo 0 (drop
 0 l) (replicate (↑l.length:Int).toNat (0:Int))).getD (Ag Int)).length:Int)-(1:Int))).toNat-0) (drop 0 ((wgo 0
 (drop 0 l) (replicate (↑l.length:Int).toNat (0:Int))).getD (Ag Int)))).any fun z=>z != (1:Int),[]))) nF)))):_):=by kernel_rfl
theorem Adt {i:Nat} {x:Int} (h:0<=x/\x<=2*(i:Int)) (hi:i<=20):0<=x/\x<=1000:=by omega
theorem Als {x:Int} (h:0<=x/\x<=2*((0:Nat):Int)):0<=x/\x<=0:=by omega
theorem NU (l:List Wt) (k i:Int) (ps:List Int) (hp:ps.length<=2) : ∀ (n j:Nat) (u:List Int),j+n=ps.length->(∀ x∈ps,0<=x/\x.toNat<u.length)->(∀ x∈u,0<=x/\x<=1000+j)->
  Runs prog Xz (Aa [(5,Gd),(10,Gc)]) 0 (body f127 1) Gc ([.ref 0 0 u.length,.sl WCd l,.j k,.j i,.ref 1 0 ps.length,.j (ps.length:Int),.j (j:Int)],[R0 (.int .i64) u,R0 (.int .i64) ps]) (.exit 2) ([.ref 0 0 (P2 (ps.drop j) u).length,.sl WCd l,.j k,.j i],[R0 (.int .i64) (P2 (ps.drop j) u)])
 | 0,j,u,hj,hps,hu=>by
  have hr:=LQ u.length l k i ps.length ps.length j u ps;rw [Ac (dcF (by omega))] at hr;rw [drop_eq_nil_of_le (by omega)];exact stp hr
 | n+1,j,u,hj,hps,hu=>by
  have hl:j<ps.length:=by omega
  have hr:=LQ u.length l k i ps.length ps.length j u ps;have W1:i64.wrap ((j:Int)+1)=((j+1:Nat):Int):=by rw [Av (by omega) (by omega)]; omega
  obtain ⟨h0,h1⟩:=hps _ (getElem_mem hl);have hu1:=hu _ (getElem_mem h1);rw [Ae (dcT (by omega)),T2 (by omega),ntN,zero_add,gtE hl,Ai,T2 (by omega),zero_add,gtE h1,Ai,T2 (by omega),Ai,W1,Av (n:=u[(ps[j]).toNat]+1) (by omega) (by omega)] at hr;have e:u.set (ps[j]).toNat (u[(ps[j]).toNat]+1)=Id u (ps[j]).toNat:=by unfold Id; simp [h1]
  rw [e] at hr;have hb:=Ic hu h1;have ih:=NU l k i ps hp n (j+1) (Id u (ps[j]).toNat) (by omega) (fun x hx=>by rw [E6]; exact hps x hx) (fun x hx=>by have:=hb x hx; omega);rw [drop_eq_getElem_cons hl];have e2:P2 (ps[j]::ps.drop (j+1)) u=P2 (ps.drop (j+1)) (Id u (ps[j]).toNat):=rfl;rw [e2];rw [E6] at ih;exact sts hr ih
theorem RV (w:Wt) (u:List Int):P2 (Ce w) u=KA w u:=by
 unfold Ce KA;split
 ·rfl
 ·split<;>rfl
theorem Vh {w:Wt} {i:Nat} {u:List Int} (h:CK w i=true) (hi:i<=u.length):(Ce w).length<=2/\∀ x∈Ce w,0<=x/\x.toNat<u.length:=by
 obtain ⟨h1,h2,_⟩:=K7 h;unfold Ce;split
 ·rename_i q;have:=h1 q;refine ⟨by simp,fun x hx=>?_⟩;rcases mem_cons.1 hx with rfl | hx
  ·omega
  ·obtain rfl:=List.mem_singleton.1 hx; omega
 ·split
  ·rename_i q;have:=h2 q;refine ⟨by simp,fun x hx=>?_⟩;obtain rfl:=List.mem_singleton.1 hx; omega
  ·exact ⟨by simp,fun x hx=>by cases hx⟩
theorem NV (l:List Wt) (hl:l.length<=20) : ∀ (j i:Nat) (u:List Int),i+j=l.length->u.length=l.length->(∀ x∈u,0<=x/\x<=2*(i:Int))->∀ ex d,(Br.br (wgo i (l.drop i) u).isSome (.leaf (.exit 0,([.ref 0 0 ((wgo i (l.drop i) u).getD []).length],[R0 (.int .i64) ((wgo i (l.drop i) u).getD [])]))) (.leaf (.ret,([.b false],[]))):Br (Ex×Dt)).run=some (ex,d)->
  Runs prog Xz (Aa [(5,Gd),(10,Gc)]) 0 (body f127 0) Gd ([.ref 0 0 u.length,.sl WCd l,.j (l.length:Int),.j (i:Int)],[R0 (.int .i64) u]) ex d
 | 0,i,u,hi,hul,hu,ex,d,h=>by
  have hr:=LR u.length l l.length i u
  try dsimp only [shr] at hr
  rw [Ac (dcF (by omega))] at hr;rw [drop_eq_nil_of_le (by omega),wgo] at h;have h8:=AO (show (Br.leaf (.exit 0,([.ref 0 0 u.length],[R0 (.int .i64) u])):Br (Ex×Dt)).run=some (ex,d) from h);obtain ⟨rfl,rfl⟩:=Prod.mk.inj h8;exact stp hr
 | j+1,i,u,hi,hul,hu,ex,d,h=>by
  have hlt:i<l.length:=by omega
  have hr:=LR u.length l l.length i u
  try dsimp only [shr] at hr
  have W1:i64.wrap ((i:Int)+1)=((i+1:Nat):Int):=by rw [Av (by omega) (by omega)]; omega
  rw [Ae (dcT (by omega)),T2 (by omega),ntN,gtE hlt,Ai,Ab (dcT (by omega)),W1] at hr;rw [drop_eq_getElem_cons hlt,wgo] at h;have eta : ∀ z:Wt,(z.1,z.2.1,z.2.2.1,z.2.2.2.1,z.2.2.2.2.1,z.2.2.2.2.2.1,())=z:=fun z=>rfl
  simp only [eta,drop_zero] at hr
  by_cases q:CK l[i] (i:Int)=true
  ·obtain ⟨g1,g2⟩:=OF q (by omega) hu;obtain ⟨p1,p2⟩:=Vh q (by omega:i<=u.length);rw [if_pos q] at h;rw [q,Bool.not_true,A6,Ab (dcT ⟨by omega,by omega,by first | trivial | rfl,by first | trivial | rfl,by first | trivial | rfl,p1,p2,fun x hx=>Adt (hu x hx) (by omega)⟩),RV] at hr;have hul2:u.length=(KA l[i] u).length:=by omega
   exact sts hr (NV l hl j (i+1) (KA l[i] u) (by omega) (g1.trans hul) (by push_cast; exact g2) ex d h)
  ·rw [if_neg q] at h;rw [show CK l[i] (i:Int)=false by simpa using q] at hr;have h8:=AO (show (Br.leaf (.ret,([.b false],[])):Br (Ex×Dt)).run=some (ex,d) from h);obtain ⟨rfl,rfl⟩:=Prod.mk.inj h8;exact stp hr
theorem Ail:As prog Xz (Aa [(5,Gd),(10,Gc)]) 0 (f127.body.getD .skip):=by
 refine LoopsI.loops (cs:=[body f127 0,body f127 1]) ?_ (by kernel_rfl);refine .cons (ent:=Gd) (by rfl) (fun d ex d' h=>?_) (.cons (ent:=Gc) (by rfl) (fun d ex d' h=>?_) .nil)
 ·unfold Gd at h;dsimp only at h;split at h
  ·rename_i m l k i u;obtain ⟨hc,hx⟩:=Ad h;clear h;obtain ⟨h0,h1,rfl,rfl,h4,h5,h6⟩:=of_decide_eq_true hc;obtain ⟨i,rfl⟩:=eq_ofNat_of_zero_le h0;simp only [ntN] at h1 hx;have:=NV l h5 (l.length-i) i u (by omega) h4 h6 ex d' hx;rw [h4] at this;exact this
  ·cases h
 ·unfold Gc at h;dsimp only at h;split at h
  ·rename_i m l k i p q j u ps;obtain ⟨hc,hx⟩:=Ad h;clear h;obtain ⟨h0,h1,rfl,rfl,rfl,h5,h6,h7⟩:=of_decide_eq_true hc;obtain ⟨j,rfl⟩:=eq_ofNat_of_zero_le h0;simp only [ntN] at h1 hx;obtain ⟨rfl,rfl⟩:=lfP hx;exact NU l k i ps h5 (ps.length-j) j u (by omega) h6 (fun x hx=>by have h8:(0:Int)<=(x:Int)/\(x:Int)<=1000:=h7 x hx; omega)
  ·cases h
theorem Zi (u:List Int):(!(u.any fun z=>z != 1))=HI u:=by
 unfold HI
 induction u with
 | nil=>rfl
 | cons x u ih=>rw [any_cons,List.all_cons,<-ih,Bool.not_or]; cases h:x==1<;>simp [bne,h]
theorem ZR:Af prog 127 (Ent.rd1 Hp).F:=by
 refine fcK (kc func125 Dd (kc func162 Akq (kc func163 RX (kc func164 Adk KnowsL.nil)))).knows (Λ:=(Aa [(5,Gd),(10,Gc)])) func127 fun vs bs r hq=>?_
 unfold Ent.F Hp at hq;dsimp only at hq;split at hq
 ·rename_i l;refine ⟨Ail,(ZS l).trans (Eq.trans ?_ hq)⟩
  try dsimp only [shr]
  show _=some _;unfold B6
  by_cases h:1<=l.length/\l.length<=20
  ·have hrep : ∀ x∈replicate l.length (0:Int),0<=x/\x<=2*((0:Nat):Int):=fun x hx=>by
    have:=(List.mem_replicate.1 hx).2; omega
   rw [dcT h,dcT (show (1:Int)<=(l.length:Int)/\(l.length:Int)<=20 by omega),Bool.not_true,A6,Ab (by simp only [anE,dcE]; omega),ntN,Ab (dcT ⟨by omega,by omega,rfl,rfl,by simp,h.2,fun x hx=>Als (hrep x hx)⟩),Bool.true_and,drop_zero]
   cases hw:wgo 0 l (replicate l.length 0) with
   | none=>rfl
   | some v=>
    have hvl:=OD l 0 (replicate l.length 0) (by simp) hrep hw;rw [List.length_replicate] at hvl;rw [show (some v).isSome=true from rfl,AR,show (some v).getD []=v from rfl];have W2:i64.wrap ((v.length:Int)-1)=((v.length-1:Nat):Int):=by rw [Av (by omega) (by omega)]; omega
    rw [W2,Ab (by simp only [anE,dcE]; omega),ntN,sub_zero,drop_zero,hvl,Zi]
  ·rw [dcF h,dcF (show ¬((1:Int)<=(l.length:Int)/\(l.length:Int)<=20) by omega)];rfl
 ·cases hq
mutual
def CE:Rose Lab->Rose Lab->Bool
 | .node y ks,a=>if a.lab.1≠y.1\/y.2.2.2.2.1<a.lab.2.2.2.2.1 then false else if y.1=4 then Qf ks a.kids else Ew a.kids ks
def Qf:RL->RL->Bool
 | [],_=>true
 | p::_,zs=>CE p (hd0 zs)
def Ew (zs:RL):RL->Bool
 | []=>true
 | p::ks=>(AY p.lab.2.2.1 zs&&((!p.lab.2.2.2.1||(byR p.lab.2.2.1 zs).lab.2.2.2.1)&&CE p (byR p.lab.2.2.1 zs)))&&Ew zs ks
end
def FN (a:Rose Lab) (ks:RL) (i:Nat):Bool:=if a.lab.1=4 then (if i=0 then Qf ks a.kids else true) else Ew a.kids (ks.drop i)
def Sc (n:Nat):Gm
 | [.tp LCd a 0,.tp LCd b 0],[]=>.need (decide (An a=true/\An b=true/\Ao b<=n/\Ao b<=1000000/\Ao a<=1000000)) (.leaf (.b (CE b a),[]))
 | _,_=>.no
def S8 (n:Nat):Gm
 | [.agg (Lt x0 x1 x2 x3 x4 xs),.agg (Lt y0 y1 y2 y3 y4 ys)],[]=>.need (decide (An (.node (x0,x1,x2,x3,x4,()) xs:Rose Lab)=true/\An (.node (y0,y1,y2,y3,y4,()) ys:Rose Lab)=true/\Ao (.node (y0,y1,y2,y3,y4,()) ys:Rose Lab)<=n/\Ao (.node (y0,y1,y2,y3,y4,()) ys:Rose Lab)<=1000000/\Ao (.node (x0,x1,x2,x3,x4,()) xs:Rose Lab)<=1000000)) (.leaf (.b (CE (.node (y0,y1,y2,y3,y4,()) ys:Rose Lab) (.node (x0,x1,x2,x3,x4,()) xs:Rose Lab)),[]))
 | _,_=>.no
def GF (n:Nat):LoopEnt:=⟨83,[0,32,33,34],[],[4],fun
 | ([.tp LCd a 0,.sl (.tree LCd) ks,.j c,.j i],[])=>.need (decide (0<=i/\i.toNat<=ks.length/\c=ks.length/\An a=true/\ks.all An=true/\(a.lab.1=4->ks.length=1)/\Ar ks<=n/\Ar ks<=1000000/\Ao a<=1000000)) (.br (FN a ks i.toNat) (.leaf (.exit 0,([],[]))) (.leaf (.ret,([.b false],[]))))
 | _=>.no⟩
def GG (n:Nat):LoopEnt:=⟨70,[2,39,40,41],[],[4],fun
 | ([.ptr 0 0,.sl (.rose LCd) ks,.j c,.j i],[some (.box (Lt x0 x1 x2 x3 x4 xs))])=>.need (decide (0<=i/\i.toNat<=ks.length/\c=ks.length/\AL 5 xs=true/\ks.all An=true/\Ar ks<=n/\Ar ks<=1000000/\Ar xs<=1000000)) (.br (Ew xs (ks.drop i.toNat)) (.leaf (.exit 0,([],[]))) (.leaf (.ret,([.b false],[]))))
 | _=>.no⟩
abbrev RQ (n:Nat):FuncId->Option Ent:=Aa [(166,.rd1 Px),(128,.rd1 (Sc n))]
theorem MU (n:Nat) (a:Rose Lab) (ks:RL) (c i:Int):At prog (RQ n) (Aa [(4,GF n)]) 0 (body f128 0) (GF n) ([.tp LCd a 0,.sl (.tree LCd) ks,.j c,.j i],[]) =
 ((ifB (decide (i<c)) (ifT (decide (0<=i)&&decide (i<(↑ks.length:Int))) (Ak ks[i.toNat]? fun z=>ifB (a.lab.1==(4:Int)) (ifT (decide (0<=i)&&decide (i
 < (↑a.kids.length:Int))) (Ak a.kids[i.toNat]? fun z_1=>ifT (decide (An z_1=true/\An z=true/\Ao z<=n/\Ao z<=1000000/\Ao z_1<=
 1000000)) (ifB (!CE z z_1) rF (some (Ex.normal,[V.tp LCd a 0,V.sl LCd.tree ks,V.j c,V.j (i64.wrap (i
 + 1))],[]))))) (ifT (decide (a.kids.length<=maxI)) (ifB (AY (Rose.lab z).2.2.1 a.kids) (ifB (Rose.lab z).2.2.2.1 (ifB (!(byR (Rose.lab z).2.2.1
 a.kids).lab.2.2.2.1) rF (ifT (decide (An (byR (Rose.lab z).2.2.1 a.kids)=true/\An z=true/\Ao z<=n/\Ao z<=
 1000000/\Ao (byR (Rose.lab z).2.2.1 a.kids)<=1000000)) (ifB (!CE z (byR (Rose.lab z).2.2.1 a.kids)) rF
 (some (Ex.normal,[V.tp LCd a 0,V.sl LCd.tree ks,V.j c,V.j (i64.wrap (i+1))],[]))))) (ifT (decide (An (byR (Rose.lab z).2.2.1
 a.kids)=true/\An z=true/\Ao z<=n/\Ao z<=1000000/\Ao (byR (Rose.lab z).2.2.1 a.kids)<=1000000)) (ifB (!CE z (byR (Rose.lab
 z).2.2.1 a.kids)) rF (some (Ex.normal,[V.tp LCd a 0,V.sl LCd.tree ks,V.j c,V.j (i64.wrap (i+1))],
 []))))) rF)))) (some (Ex.exit 0,[],[]))):_):=by kernel_rfl
theorem XJ (n:Nat) (a b:Rose Lab):BI prog (RQ n) (Aa [(4,GF n)]) f128 [.tp LCd a 0,.tp LCd b 0] [] =
 ((ifB (a.lab.1 != b.lab.1) nF (ifB (decide (a.lab.2.2.2.2.1>b.lab.2.2.2.2.1)) nF (ifT (decide ((0:Int)<=
 (0:Int)/\0<=b.kids.length/\(↑b.kids.length:Int)=(↑b.kids.length:Int)/\An a=true/\b.kids.all An=true/\(a.lab.1=(4:(Cd.int
 .i64).den)->b.kids.length=1)/\Ar b.kids<=n/\Ar b.kids<=1000000/\Ao a<=1000000)) (ifB (FN a b.kids 0) (some (V.b true,
 [])) nF)))):_):=by kernel_rfl
abbrev RP (n:Nat):FuncId->Option Ent:=Aa [(159,.rd1 byG),(118,.rd1 (S8 n))]
theorem Nq (n:Nat) (x0:Int) (x1:By) (x2:Int) (x3:Bool) (x4:Int) (xs:RL) (ks:RL) (c i:Int):At prog (RP n) (Aa [(6,GG n)]) 0 (body f118 0) (GG n) ([.ptr 0 0,.sl (.rose LCd) ks,.j c,.j i],[some (.box (Lt x0 x1 x2 x3 x4 xs))]) =
 ((ifB (decide (i<c)) (ifT (decide (0<=i)&&decide (i<(↑ks.length:Int))) (Ak ks[i.toNat]? fun z=>ifT (decide (xs.length<=maxI)) (ifB (AY (Rose.lab
 z).2.2.1 xs) (ifB (Rose.lab z).2.2.2.1 (ifB (!(byR (Rose.lab z).2.2.1 xs).lab.2.2.2.1) rF (ifT (decide (An
 (Rose.node ((byR (Rose.lab z).2.2.1 xs).lab.1,(byR (Rose.lab z).2.2.1 xs).lab.2.1,(byR (Rose.lab z).2.2.1 xs).lab.2.2.1,(byR (Rose.lab
 z).2.2.1 xs).lab.2.2.2.1,(byR (Rose.lab z).2.2.1 xs).lab.2.2.2.2.1,()) (byR (Rose.lab z).2.2.1 xs).kids)=true/\An (Rose.node
 ((Rose.lab z).1,(Rose.lab z).2.1,(Rose.lab z).2.2.1,(Rose.lab z).2.2.2.1,(Rose.lab z).2.2.2.2.1,()) (Rose.kids z))=true/\Ao
 (Rose.node ((Rose.lab z).1,(Rose.lab z).2.1,(Rose.lab z).2.2.1,(Rose.lab z).2.2.2.1,(Rose.lab z).2.2.2.2.1,()) (Rose.kids z))<=n/\
 Ao (Rose.node ((Rose.lab z).1,(Rose.lab z).2.1,(Rose.lab z).2.2.1,(Rose.lab z).2.2.2.1,(Rose.lab z).2.2.2.2.1,()) (Rose.kids z))<=
 1000000/\Ao (Rose.node ((byR (Rose.lab z).2.2.1 xs).lab.1,(byR (Rose.lab z).2.2.1 xs).lab.2.1,(byR (Rose.lab z).2.2.1
 xs).lab.2.2.1,(byR (Rose.lab z).2.2.1 xs).lab.2.2.2.1,(byR (Rose.lab z).2.2.1 xs).lab.2.2.2.2.1,()) (byR (Rose.lab z).2.2.1
 xs).kids)<=1000000)) (ifB (!CE (Rose.node ((Rose.lab z).1,(Rose.lab z).2.1,(Rose.lab z).2.2.1,(Rose.lab z).2.2.2.1,(Rose.lab
 z).2.2.2.2.1,()) (Rose.kids z)) (Rose.node ((byR (Rose.lab z).2.2.1 xs).lab.1,(byR (Rose.lab z).2.2.1 xs).lab.2.1,(byR (Rose.lab
 z).2.2.1 xs).lab.2.2.1,(byR (Rose.lab z).2.2.1 xs).lab.2.2.2.1,(byR (Rose.lab z).2.2.1 xs).lab.2.2.2.2.1,()) (byR (Rose.lab
 z).2.2.1 xs).kids)) rF (some (Ex.normal,[V.ptr 0 0,V.sl LCd.rose ks,V.j c,V.j (i64.wrap (i+1))],[some
 (Blk.box (Lt x0 x1 x2 x3 x4 xs))]))))) (ifT (decide (An (Rose.node ((byR (Rose.lab z).2.2.1 xs).lab.1,(byR
 (Rose.lab z).2.2.1 xs).lab.2.1,(byR (Rose.lab z).2.2.1 xs).lab.2.2.1,(byR (Rose.lab z).2.2.1 xs).lab.2.2.2.1,(byR (Rose.lab
 z).2.2.1 xs).lab.2.2.2.2.1,()) (byR (Rose.lab z).2.2.1 xs).kids)=true/\An (Rose.node ((Rose.lab z).1,(Rose.lab z).2.1,(Rose.lab
 z).2.2.1,(Rose.lab z).2.2.2.1,(Rose.lab z).2.2.2.2.1,()) (Rose.kids z))=true/\Ao (Rose.node ((Rose.lab z).1,(Rose.lab z).2.1,
 (Rose.lab z).2.2.1,(Rose.lab z).2.2.2.1,(Rose.lab z).2.2.2.2.1,()) (Rose.kids z))<=n/\Ao (Rose.node ((Rose.lab z).1,(Rose.lab
 z).2.1,(Rose.lab z).2.2.1,(Rose.lab z).2.2.2.1,(Rose.lab z).2.2.2.2.1,()) (Rose.kids z))<=1000000/\Ao (Rose.node ((byR
 (Rose.lab z).2.2.1 xs).lab.1,(byR (Rose.lab z).2.2.1 xs).lab.2.1,(byR (Rose.lab z).2.2.1 xs).lab.2.2.1,(byR (Rose.lab z).2.2.1
 xs).lab.2.2.2.1,(byR (Rose.lab z).2.2.1 xs).lab.2.2.2.2.1,()) (byR (Rose.lab z).2.2.1 xs).kids)<=1000000)) (ifB (!CE (Rose.node
 ((Rose.lab z).1,(Rose.lab z).2.1,(Rose.lab z).2.2.1,(Rose.lab z).2.2.2.1,(Rose.lab z).2.2.2.2.1,()) (Rose.kids z)) (Rose.node ((byR
 (Rose.lab z).2.2.1 xs).lab.1,(byR (Rose.lab z).2.2.1 xs).lab.2.1,(byR (Rose.lab z).2.2.1 xs).lab.2.2.1,(byR (Rose.lab z).2.2.1
 xs).lab.2.2.2.1,(byR (Rose.lab z).2.2.1 xs).lab.2.2.2.2.1,()) (byR (Rose.lab z).2.2.1 xs).kids)) rF (some
 (Ex.normal,[V.ptr 0 0,V.sl LCd.rose ks,V.j c,V.j (i64.wrap (i+1))],[some (Blk.box (Lt x0 x1 x2 x3 x4 xs))]))))) rF))) (some (Ex.exit 0,[],[]))):_):=by kernel_rfl
theorem Yr (n:Nat) (x0:Int) (x1:By) (x2:Int) (x3:Bool) (x4:Int) (xs:RL) (y0:Int) (y1:By) (y2:Int) (y3:Bool) (y4:Int) (ys:RL):BI prog (RP n) (Aa [(6,GG n)]) f118 [.agg (Lt x0 x1 x2 x3 x4 xs),.agg (Lt y0 y1 y2 y3 y4 ys)] [] =
 ((ifB (x0 != y0) nF (ifB (x0==3) (ifB (decide (x4>y4)) nF (ifB (x0==4) (ifT (decide ((0:Int)<=(0:Int))&&decide (0 <
 (↑xs.length:Int))) (Ak xs[0]? fun z=>ifT (decide ((0:Int)<=(0:Int))&&decide (0<(↑ys.length:Int))) (Ak ys[0]? fun z_1=>ifT (decide
 (An (Rose.node ((Rose.lab z).1,(Rose.lab z).2.1,(Rose.lab z).2.2.1,(Rose.lab z).2.2.2.1,(Rose.lab z).2.2.2.2.1,()) (Rose.kids z)) =
 true/\An (Rose.node ((Rose.lab z_1).1,(Rose.lab z_1).2.1,(Rose.lab z_1).2.2.1,(Rose.lab z_1).2.2.2.1,(Rose.lab z_1).2.2.2.2.1,())
 (Rose.kids z_1))=true/\Ao (Rose.node ((Rose.lab z_1).1,(Rose.lab z_1).2.1,(Rose.lab z_1).2.2.1,(Rose.lab z_1).2.2.2.1,(Rose.lab
 z_1).2.2.2.2.1,()) (Rose.kids z_1))<=n/\Ao (Rose.node ((Rose.lab z_1).1,(Rose.lab z_1).2.1,(Rose.lab z_1).2.2.1,(Rose.lab
 z_1).2.2.2.1,(Rose.lab z_1).2.2.2.2.1,()) (Rose.kids z_1))<=1000000/\Ao (Rose.node ((Rose.lab z).1,(Rose.lab z).2.1,(Rose.lab
 z).2.2.1,(Rose.lab z).2.2.2.1,(Rose.lab z).2.2.2.2.1,()) (Rose.kids z))<=1000000)) (some (V.b (CE (Rose.node ((Rose.lab z_1).1,
 (Rose.lab z_1).2.1,(Rose.lab z_1).2.2.1,(Rose.lab z_1).2.2.2.1,(Rose.lab z_1).2.2.2.2.1,()) (Rose.kids z_1)) (Rose.node ((Rose.lab z).1,
 (Rose.lab z).2.1,(Rose.lab z).2.2.1,(Rose.lab z).2.2.2.1,(Rose.lab z).2.2.2.2.1,()) (Rose.kids z))),[]))))) (ifT (decide ((0:Int)<=(0
 : Int)/\0<=ys.length/\(↑ys.length:Int)=(↑ys.length:Int)/\AL (5:Int) xs=true/\ys.all An=true/\Ar ys<=n/\Ar ys<=1000000/\
 Ar xs<=1000000)) (ifB (Ew xs (drop 0 ys)) (some (V.b true,[])) nF)))) (ifB (x0==4) (ifT (decide ((0:Int)<=(0:Int))
 && decide (0<(↑xs.length:Int))) (Ak xs[0]? fun z=>ifT (decide ((0:Int)<=(0:Int))&&decide (0<(↑ys.length:Int))) (Ak ys[0]? fun z_1
 => ifT (decide (An (Rose.node ((Rose.lab z).1,(Rose.lab z).2.1,(Rose.lab z).2.2.1,(Rose.lab z).2.2.2.1,(Rose.lab z).2.2.2.2.1,())
 (Rose.kids z))=true/\An (Rose.node ((Rose.lab z_1).1,(Rose.lab z_1).2.1,(Rose.lab z_1).2.2.1,(Rose.lab z_1).2.2.2.1,(Rose.lab
 z_1).2.2.2.2.1,()) (Rose.kids z_1))=true/\Ao (Rose.node ((Rose.lab z_1).1,(Rose.lab z_1).2.1,(Rose.lab z_1).2.2.1,(Rose.lab
 z_1).2.2.2.1,(Rose.lab z_1).2.2.2.2.1,()) (Rose.kids z_1))<=n/\Ao (Rose.node ((Rose.lab z_1).1,(Rose.lab z_1).2.1,(Rose.lab
 z_1).2.2.1,(Rose.lab z_1).2.2.2.1,(Rose.lab z_1).2.2.2.2.1,()) (Rose.kids z_1))<=1000000/\Ao (Rose.node ((Rose.lab z).1,
 (Rose.lab z).2.1,(Rose.lab z).2.2.1,(Rose.lab z).2.2.2.1,(Rose.lab z).2.2.2.2.1,()) (Rose.kids z))<=1000000)) (some (V.b (CE
 (Rose.node ((Rose.lab z_1).1,(Rose.lab z_1).2.1,(Rose.lab z_1).2.2.1,(Rose.lab z_1).2.2.2.1,(Rose.lab z_1).2.2.2.2.1,()) (Rose.kids
 z_1)) (Rose.node ((Rose.lab z).1,(Rose.lab z).2.1,(Rose.lab z).2.2.1,(Rose.lab z).2.2.2.1,(Rose.lab z).2.2.2.2.1,()) (Rose.kids z))),
 []))))) (ifT (decide ((0:Int)<=(0:Int)/\0<=ys.length/\(↑ys.length:Int)=(↑ys.length:Int)/\AL (5:Int) xs=true/\ys.all An=true/\Ar
 ys<=n/\Ar ys<=1000000/\Ar xs<=1000000)) (ifB (Ew xs (drop 0 ys)) (some (V.b true,[])) nF))))):_):=by kernel_rfl

theorem PT (n:Nat) (a:Rose Lab) (ha:An a=true) (ks:RL) (hks:ks.all An=true) (h4:a.lab.1=4->ks.length=1) (hcn:Ar ks<=n) (hc6:Ar ks<=1000000) (hca:Ao a<=1000000) : ∀ (j i:Nat),i+j=ks.length->∀ ex d,(Br.br (FN a ks i) (.leaf (.exit 0,([],[]))) (.leaf (.ret,([.b false],[]))):Br (Ex×Dt)).run=some (ex,d)->Runs prog (RQ n) (Aa [(4,GF n)]) 0 (body f128 0) (GF n) ([.tp LCd a 0,.sl (.tree LCd) ks,.j (ks.length:Int),.j (i:Int)],[]) ex d
 | 0,i,hi,ex,d,h=>by
  have hr:=MU n a ks ks.length i;rw [Ac (dcF (by omega))] at hr
  have e:FN a ks i=true:=by
   unfold FN;rw [drop_eq_nil_of_le (by omega)];split
   ·rename_i q;have:=h4 q;rw [if_neg (by omega)]
   ·rfl
  rw [GN e] at h;obtain ⟨rfl,rfl⟩:=lfP h;exact stp hr
 | j+1,i,hi,ex,d,h=>by
  have hl:i<ks.length:=by omega
  have hM:=mxI;have hr:=MU n a ks ks.length i;have hlen:=BS ks;have W1:i64.wrap ((i:Int)+1)=((i+1:Nat):Int):=by rw [Av (by omega) (by omega)]; omega
  have hd:=drop_eq_getElem_cons hl;have hm:=getElem_mem hl;have hrz:=all_eq_true.1 hks _ hm;have hcz:=BE hm;have hka:=Bk a;have hla:=BS a.kids
  have bad : ∀ {w},At prog (RQ n) (Aa [(4,GF n)]) 0 (body f128 0) (GF n) ([.tp LCd a 0,.sl (.tree LCd) ks,.j (ks.length:Int),.j (i:Int)],[])=w->w=some ((.ret:Ex),(([.b false]:List V),([]:List (Option Blk))))->FN a ks i=false->Runs prog (RQ n) (Aa [(4,GF n)]) 0 (body f128 0) (GF n) ([.tp LCd a 0,.sl (.tree LCd) ks,.j (ks.length:Int),.j (i:Int)],[]) ex d:=fun e1 e2 e3=>by
   rw [Hz e3] at h;obtain ⟨rfl,rfl⟩:=lfP h;exact .stop _ _ _ (e1.trans e2) (by simp)
  have good : ∀ {w},At prog (RQ n) (Aa [(4,GF n)]) 0 (body f128 0) (GF n) ([.tp LCd a 0,.sl (.tree LCd) ks,.j (ks.length:Int),.j (i:Int)],[])=w->w=some ((.normal:Ex),(([.tp LCd a 0,.sl (.tree LCd) ks,.j (ks.length:Int),.j ((i+1:Nat):Int)],[]):Dt))->FN a ks i=FN a ks (i+1)->Runs prog (RQ n) (Aa [(4,GF n)]) 0 (body f128 0) (GF n) ([.tp LCd a 0,.sl (.tree LCd) ks,.j (ks.length:Int),.j (i:Int)],[]) ex d:=fun e1 e2 e3=>
   sts (e1.trans e2) (PT n a ha ks hks h4 hcn hc6 hca j (i+1) (by omega) ex d (by rw [<-e3]; exact h))
  rw [Ae (dcT (by omega)),T2 (by omega),ntN,gtE hl,Ai,W1] at hr
  by_cases q4:a.lab.1=4
  ·have hk1:=h4 q4;obtain ⟨ka,kb⟩:=Cg ha q4;obtain rfl:i=0:=by omega
   have e0:FN a ks 0=CE ks[0] (hd0 a.kids):=by
    unfold FN;rw [if_pos q4,if_pos rfl]
    match ks,hl with
    | p::ks,_=>rw [Qf]; rfl
   have e1:FN a ks (0+1)=true:=by unfold FN; rw [if_pos q4,if_neg (by omega)]
   have hz:0<a.kids.length:=by omega
   have hx:a.kids[0]=hd0 a.kids:=by
    match hk:a.kids,hz with
    | x::xs,_=>rfl
   have hxr:=all_eq_true.1 kb _ (getElem_mem hz);have hxc:=BE (getElem_mem hz);rw [Ae (beq_iff_eq.2 q4),T2 (by omega),gtE hz,Ai,Ab (dcT ⟨hxr,hrz,by omega,by omega,by omega⟩),hx] at hr
   cases hs:CE ks[0] (hd0 a.kids) with
   | false=>rw [hs] at hr; exact bad hr rfl (e0.trans hs)
   | true=>rw [hs] at hr; exact good hr rfl ((e0.trans hs).trans e1.symm)
  ·have hal:=(Ch ha).2
   have e0:FN a ks i=((AY ks[i].lab.2.2.1 a.kids&&((!ks[i].lab.2.2.2.1||(byR ks[i].lab.2.2.1 a.kids).lab.2.2.2.1)&&CE ks[i] (byR ks[i].lab.2.2.1 a.kids)))&&FN a ks (i+1)):=by
    unfold FN;rw [if_neg q4,if_neg q4,hd,Ew]
   rw [Ac (beq_eq_false_iff_ne.2 q4),Ab (dcT (by omega))] at hr;generalize ks[i]=p at hr e0 hrz hcz
   cases hn:AY p.lab.2.2.1 a.kids with
   | false=>rw [hn] at hr e0; exact bad hr rfl (by rw [e0]; rfl)
   | true=>
    obtain ⟨bm,bn⟩:=Gw hn;have hxr:=(B4 hal _ bm).2;have hxc:=BE bm;rw [hn] at hr e0;simp only [AR,Ab (dcT (show An (byR p.lab.2.2.1 a.kids)=true/\An p=true/\Ao p<=n/\Ao p<=1000000/\Ao (byR p.lab.2.2.1 a.kids)<=1000000 from ⟨hxr,hrz,by omega,by omega,by omega⟩))] at hr
    cases hmu:p.lab.2.2.2.1 with
    | true=>
     rw [hmu] at hr e0
     cases hmx:(byR p.lab.2.2.1 a.kids).lab.2.2.2.1 with
     | false=>rw [hmx] at hr e0; exact bad hr rfl (by rw [e0]; rfl)
     | true=>
      rw [hmx] at hr e0
      cases hs:CE p (byR p.lab.2.2.1 a.kids) with
      | false=>rw [hs] at hr e0; exact bad hr rfl (by rw [e0]; rfl)
      | true=>rw [hs] at hr e0; exact good hr rfl (by rw [e0]; rfl)
    | false=>
     rw [hmu] at hr e0
     cases hs:CE p (byR p.lab.2.2.1 a.kids) with
     | false=>rw [hs] at hr e0; exact bad hr rfl (by rw [e0]; rfl)
     | true=>rw [hs] at hr e0; exact good hr rfl (by rw [e0]; rfl)
theorem Agf (n:Nat):As prog (RQ n) (Aa [(4,GF n)]) 0 (f128.body.getD .skip):=by
 refine Am (a:=body f128 0) (by kernel_rfl) fun d ex d' h=>?_
 unfold GF at h;dsimp only at h;split at h
 ·rename_i a ks c i;obtain ⟨hc,hx⟩:=Ad h;obtain ⟨h0,h1,rfl,h3,h4,h5,h6,h7,h8⟩:=of_decide_eq_true hc;obtain ⟨i,rfl⟩:=eq_ofNat_of_zero_le h0;simp only [ntN] at h1 hx;exact PT n a h3 ks h4 h5 h6 h7 h8 (ks.length-i) i (by omega) ex d' hx
 ·cases h
theorem Acb (b a:Rose Lab):CE b a=if a.lab.1≠b.lab.1\/b.lab.2.2.2.2.1<a.lab.2.2.2.2.1 then false else if b.lab.1=4 then Qf b.kids a.kids else Ew a.kids b.kids:=by
 obtain ⟨y,ks⟩:=b;rw [CE]; rfl
theorem IC {z:Rose Lab} (h:An z=true):z.kids.all An=true:=all_eq_true.2 fun y hy=>(B4 (Ch h).2 y hy).2
theorem Abv : ∀ n,(∀ m,m<n->Af prog 128 (Ent.rd1 (Sc m)).F)->Af prog 128 (Ent.rd1 (Sc n)).F
 | 0,_=>AW fun vs bs=>by
  unfold Ent.F Sc;dsimp only;split
  ·rename_i a b;have hz:=Cq b;have:decide (An a=true/\An b=true/\Ao b<=0/\Ao b<=1000000/\Ao a<=1000000)=false:=dcF (by omega);rw [this]; rfl
  ·rfl
 | n+1,ihs=>by
  have ih:=ihs n (Nat.lt_succ_self n);refine fcC (kc func166 Af7 (kc func128 ih KnowsL.nil)).knows (Λ:=(Aa [(4,GF n)])) func128 fun vs bs r hq=>?_
  unfold Ent.F Sc at hq;dsimp only at hq;split at hq
  ·rename_i a b;obtain ⟨hc,hx⟩:=Ad hq;obtain ⟨h1,h2,h3,h4,h5⟩:=of_decide_eq_true hc;refine ⟨Agf n,(XJ n a b).trans (Eq.trans ?_ hx)⟩;show _=some _;rw [Acb];have hkb:=Bk b
   by_cases q1:a.lab.1=b.lab.1
   ·rw [Ac (bne_eq_false_iff_eq.2 q1)]
    by_cases q2:b.lab.2.2.2.2.1<a.lab.2.2.2.2.1
    ·rw [Ae (dcT q2),if_pos (.inr q2)]
    ·rw [Ac (dcF q2),if_neg (by rintro (h | h); exact h q1; exact q2 h),Ab (dcT ⟨by omega,by omega,rfl,h1,IC h2,fun h=>(Cg h2 (q1.symm.trans h)).1,by omega,by omega,h5⟩)]
     have e:FN a b.kids 0=if b.lab.1=4 then Qf b.kids a.kids else Ew a.kids b.kids:=by
      unfold FN;rw [q1,if_pos rfl,drop_zero]
     rw [e];cases (if b.lab.1=4 then Qf b.kids a.kids else Ew a.kids b.kids)<;>rfl
   ·rw [Ae (bne_iff_ne.2 q1),if_pos (.inl q1)]
  ·cases hq
theorem Abw (n:Nat):Af prog 128 (Ent.rd1 (Sc n)).F:=Nat.strongRecOn n fun n h=>Abv n h
theorem Qi (n:Nat) (x0:Int) (x1:By) (x2:Int) (x3:Bool) (x4:Int) (xs:RL) (hxs:AL 5 xs=true) (ks:RL) (hks:ks.all An=true) (hcn:Ar ks<=n) (hc6:Ar ks<=1000000) (hca:Ar xs<=1000000) : ∀ (j i:Nat),i+j=ks.length->∀ ex d,(Br.br (Ew xs (ks.drop i)) (.leaf (.exit 0,([],[]))) (.leaf (.ret,([.b false],[]))):Br (Ex×Dt)).run=some (ex,d)->Runs prog (RP n) (Aa [(6,GG n)]) 0 (body f118 0) (GG n) ([.ptr 0 0,.sl (.rose LCd) ks,.j (ks.length:Int),.j (i:Int)],[some (.box (Lt x0 x1 x2 x3 x4 xs))]) ex d
 | 0,i,hi,ex,d,h=>by
  have hr:=Nq n x0 x1 x2 x3 x4 xs ks ks.length i;rw [Ac (dcF (by omega))] at hr;have e:Ew xs (ks.drop i)=true:=by rw [drop_eq_nil_of_le (by omega)]; rfl
  rw [GN e] at h;obtain ⟨rfl,rfl⟩:=lfP h;exact stp hr
 | j+1,i,hi,ex,d,h=>by
  have hl:i<ks.length:=by omega
  have hM:=mxI;have hr:=Nq n x0 x1 x2 x3 x4 xs ks ks.length i
  try dsimp only [shr] at hr
  have hlen:=BS ks;have hlx:=BS xs;have W1:i64.wrap ((i:Int)+1)=((i+1:Nat):Int):=by rw [Av (by omega) (by omega)]; omega
  have hd:=drop_eq_getElem_cons hl;have hm:=getElem_mem hl;have hrz:=all_eq_true.1 hks _ hm;have hcz:=BE hm
  have bad : ∀ {w},At prog (RP n) (Aa [(6,GG n)]) 0 (body f118 0) (GG n) ([.ptr 0 0,.sl (.rose LCd) ks,.j (ks.length:Int),.j (i:Int)],[some (.box (Lt x0 x1 x2 x3 x4 xs))])=w->w=some ((.ret:Ex),(([.b false]:List V),([]:List (Option Blk))))->Ew xs (ks.drop i)=false->Runs prog (RP n) (Aa [(6,GG n)]) 0 (body f118 0) (GG n) ([.ptr 0 0,.sl (.rose LCd) ks,.j (ks.length:Int),.j (i:Int)],[some (.box (Lt x0 x1 x2 x3 x4 xs))]) ex d:=fun e1 e2 e3=>by
   rw [Hz e3] at h;obtain ⟨rfl,rfl⟩:=lfP h;exact .stop _ _ _ (e1.trans e2) (by simp)
  have good : ∀ {w},At prog (RP n) (Aa [(6,GG n)]) 0 (body f118 0) (GG n) ([.ptr 0 0,.sl (.rose LCd) ks,.j (ks.length:Int),.j (i:Int)],[some (.box (Lt x0 x1 x2 x3 x4 xs))])=w->w=some ((.normal:Ex),(([.ptr 0 0,.sl (.rose LCd) ks,.j (ks.length:Int),.j ((i+1:Nat):Int)],[some (.box (Lt x0 x1 x2 x3 x4 xs))]):Dt))->Ew xs (ks.drop i)=Ew xs (ks.drop (i+1))->Runs prog (RP n) (Aa [(6,GG n)]) 0 (body f118 0) (GG n) ([.ptr 0 0,.sl (.rose LCd) ks,.j (ks.length:Int),.j (i:Int)],[some (.box (Lt x0 x1 x2 x3 x4 xs))]) ex d:=fun e1 e2 e3=>
   sts (e1.trans e2) (Qi n x0 x1 x2 x3 x4 xs hxs ks hks hcn hc6 hca j (i+1) (by omega) ex d (by rw [<-e3]; exact h))
  rw [Ae (dcT (by omega)),T2 (by omega),ntN,gtE hl,Ai,W1,Ab (dcT (by omega))] at hr;simp only [Bc] at hr;have e0:Ew xs (ks.drop i)=((AY ks[i].lab.2.2.1 xs&&((!ks[i].lab.2.2.2.1||(byR ks[i].lab.2.2.1 xs).lab.2.2.2.1)&&CE ks[i] (byR ks[i].lab.2.2.1 xs)))&&Ew xs (ks.drop (i+1))):=by rw [hd,Ew]
  generalize ks[i]=p at hr e0 hrz hcz
  cases hn:AY p.lab.2.2.1 xs with
  | false=>rw [hn] at hr e0; exact bad hr rfl (by rw [e0]; rfl)
  | true=>
   obtain ⟨bm,bn⟩:=Gw hn;have hxr:=(B4 hxs _ bm).2;have hxc:=BE bm;rw [hn] at hr e0;simp only [AR,Ab (dcT (show An (byR p.lab.2.2.1 xs)=true/\An p=true/\Ao p<=n/\Ao p<=1000000/\Ao (byR p.lab.2.2.1 xs)<=1000000 from ⟨hxr,hrz,by omega,by omega,by omega⟩))] at hr
   cases hmu:p.lab.2.2.2.1 with
   | true=>
    rw [hmu] at hr e0
    cases hmx:(byR p.lab.2.2.1 xs).lab.2.2.2.1 with
    | false=>rw [hmx] at hr e0; exact bad hr rfl (by rw [e0]; rfl)
    | true=>
     rw [hmx] at hr e0
     cases hs:CE p (byR p.lab.2.2.1 xs) with
     | false=>rw [hs] at hr e0; exact bad hr rfl (by rw [e0]; rfl)
     | true=>rw [hs] at hr e0; exact good hr rfl (by rw [e0]; rfl)
   | false=>
    rw [hmu] at hr e0
    cases hs:CE p (byR p.lab.2.2.1 xs) with
    | false=>rw [hs] at hr e0; exact bad hr rfl (by rw [e0]; rfl)
    | true=>rw [hs] at hr e0; exact good hr rfl (by rw [e0]; rfl)
theorem Agn (n:Nat):As prog (RP n) (Aa [(6,GG n)]) 0 (f118.body.getD .skip):=by
 refine Am (a:=body f118 0) (by kernel_rfl) fun d ex d' h=>?_
 unfold GG at h;dsimp only at h;split at h
 ·rename_i ks c i x0 x1 x2 x3 x4 xs;obtain ⟨hc,hx⟩:=Ad h;obtain ⟨h0,h1,rfl,h3,h4,h6,h7,h8⟩:=of_decide_eq_true hc;obtain ⟨i,rfl⟩:=eq_ofNat_of_zero_le h0;simp only [ntN] at h1 hx;exact Qi n x0 x1 x2 x3 x4 xs h3 ks h4 h6 h7 h8 (ks.length-i) i (by omega) ex d' hx
 ·cases h
theorem Ln {z:Rose Lab} (h:An z=true) (h3:z.lab.1≠3):z.lab.2.2.2.2.1=0:=by
 obtain ⟨h1,_⟩:=Ch h;unfold BV at h1
 by_cases a1:z.lab.1=1\/z.lab.1=2
 ·rw [if_pos a1,anE] at h1; simpa using h1.1
 ·rw [if_neg a1,if_neg h3] at h1
  by_cases a4:z.lab.1=4
  ·rw [if_pos a4,anE] at h1; simpa using h1.1
  ·rw [if_neg a4] at h1
   by_cases a5:z.lab.1≠5\/z.lab.2.2.2.2.1≠0
   ·rw [if_pos a5] at h1; cases h1
   ·omega
theorem VA (x0:Int) (x1:By) (x2:Int) (x3:Bool) (x4:Int) (xs:RL) (y0:Int) (y1:By) (y2:Int) (y3:Bool) (y4:Int) (ys:RL):CE (.node (y0,y1,y2,y3,y4,()) ys:Rose Lab) (.node (x0,x1,x2,x3,x4,()) xs:Rose Lab)=if x0≠y0\/y4<x4 then false else if y0=4 then Qf ys xs else Ew xs ys:=by rw [CE]; rfl
theorem Acc : ∀ n,(∀ m,m<n->Af prog 118 (Ent.rd1 (S8 m)).F)->Af prog 118 (Ent.rd1 (S8 n)).F
 | 0,_=>AW fun vs bs=>by
  unfold Ent.F S8;dsimp only;split
  ·rename_i x0 x1 x2 x3 x4 xs y0 y1 y2 y3 y4 ys;have hz:=Cq (.node (y0,y1,y2,y3,y4,()) ys:Rose Lab);have:decide (An (.node (x0,x1,x2,x3,x4,()) xs:Rose Lab)=true/\An (.node (y0,y1,y2,y3,y4,()) ys:Rose Lab)=true/\Ao (.node (y0,y1,y2,y3,y4,()) ys:Rose Lab)<=0/\Ao (.node (y0,y1,y2,y3,y4,()) ys:Rose Lab)<=1000000/\Ao (.node (x0,x1,x2,x3,x4,()) xs:Rose Lab)<=1000000)=false:=dcF (by omega);rw [this]; rfl
  ·rfl
 | n+1,ihs=>by
  have ih:=ihs n (Nat.lt_succ_self n);refine fcC (kc func159 Ady (kc func118 ih KnowsL.nil)).knows (Λ:=(Aa [(6,GG n)])) func118 fun vs bs r hq=>?_
  unfold Ent.F S8 at hq;dsimp only at hq;split at hq
  ·rename_i x0 x1 x2 x3 x4 xs y0 y1 y2 y3 y4 ys;obtain ⟨hc,hx⟩:=Ad hq;obtain ⟨h1,h2,h3,h4,h5⟩:=of_decide_eq_true hc;refine ⟨Agn n,(Yr n x0 x1 x2 x3 x4 xs y0 y1 y2 y3 y4 ys).trans (Eq.trans ?_ hx)⟩
   try dsimp only [shr]
   show _=some _;rw [VA];have hkb:Ao (.node (y0,y1,y2,y3,y4,()) ys:Rose Lab)=Ar ys+1:=Bk _;have hka:Ao (.node (x0,x1,x2,x3,x4,()) xs:Rose Lab)=Ar xs+1:=Bk _;have m1:=Ln h1;have m2:=Ln h2;have l1:=Cg h1;have l2:=Cg h2;have w1:=CM h1;dsimp only [Rose.lab,Rose.kids] at m1 m2 l1 l2 w1;simp only [Bc,drop_zero]
   by_cases q1:x0=y0
   ·subst q1;rw [Ac (bne_eq_false_iff_eq.2 rfl)]
    by_cases q4:x0=4
    ·obtain ⟨k1,k2⟩:=l1 q4;obtain ⟨k3,k4⟩:=l2 q4;rw [if_neg (by rintro (h | h); exact h rfl; have:=m1 (by omega); have:=m2 (by omega); omega),if_pos q4,Ac (beq_eq_false_iff_ne.2 (by omega)),Ae (beq_iff_eq.2 q4)]
     match xs,k1,ys,k3 with
     | [x],_,[y],_=>
      have e1:Ar [x]=Ao x:=by rw [Ar,Ar]; rfl
      have e2:Ar [y]=Ao y:=by rw [Ar,Ar]; rfl
      rw [Ab (by rfl),show [x][0]? = some x from rfl,Ai,Ab (by rfl),show [y][0]? = some y from rfl,Ai]
      try simp only [Bc]
      rw [Ab (dcT ⟨by simpa using k2,by simpa using k4,by omega,by omega,by omega⟩),Qf];rfl
    ·by_cases q3:x0=3
     ·rw [Ae (beq_iff_eq.2 q3)]
      by_cases q5:y4<x4
      ·rw [Ae (dcT q5),if_pos (.inr q5)]
      ·rw [Ac (dcF q5),if_neg (by rintro (h | h); exact h rfl; exact q5 h),if_neg q4,Ac (beq_eq_false_iff_ne.2 q4)];rw [Ab (dcT ⟨by omega,by omega,by first | trivial | rfl,w1 q4,IC h2,by omega,by omega,by omega⟩)];cases Ew xs ys<;>rfl
     ·rw [Ac (beq_eq_false_iff_ne.2 q3),if_neg (by rintro (h | h); exact h rfl; have:=m1 q3; have:=m2 q3; omega),if_neg q4,Ac (beq_eq_false_iff_ne.2 q4)];rw [Ab (dcT ⟨by omega,by omega,by first | trivial | rfl,w1 q4,IC h2,by omega,by omega,by omega⟩)];cases Ew xs ys<;>rfl
   ·rw [Ae (bne_iff_ne.2 q1),if_pos (.inl q1)]
  ·cases hq
theorem Acd (n:Nat):Af prog 118 (Ent.rd1 (S8 n)).F:=Nat.strongRecOn n fun n h=>Acc n h
def cut (c:UInt8):By->List (By)
 | []=>[[]]
 | b::l=>if b=c then []::cut c l else match cut c l with
  | []=>[]
  | h::t=>(b::h)::t
def OM:Gm
 | [.s s,.s [c]],[]=>.need (decide (s.length<=4000000000)) (.leaf (.ref 0 0 (cut c s).length,[R0 .str (cut c s)]))
 | _,_=>.no
open Go.Lib in
theorem Gb (b c:UInt8) (l:By):Lib.index (b::l) [c]=if b=c then 0 else if Lib.index l [c] = -1 then -1 else Lib.index l [c]+1:=by
 rw [Lib.index]
 by_cases h:b=c
 ·subst h; simp [List.isPrefixOf]
 ·simp [List.isPrefixOf,Ne.symm h,h]
open Go.Lib in
theorem LO (c:UInt8) : ∀ l:By,c∈l->Lib.index l [c]≠-1
 | [],h=>by simp at h
 | b::l,h=>by
  have hge:=Lib.index_ge l [c];rw [Gb]
  by_cases hb:b=c
  ·simp [hb]
  ·have:=LO c l (by simpa [Ne.symm hb] using h);simp [hb,this]; omega
open Go.Lib in
theorem I9 (c:UInt8) : ∀ s:By,Lib.splitK [c] 0 (s.count c) s=cut c s
 | []=>rfl
 | b::l=>by
  by_cases h:b=c
  ·subst h;have hi:Lib.index (b::l) [b]=0:=by rw [Gb,if_pos rfl]
   rw [List.count_cons_self,cut,if_pos rfl,<-I9 b l,Lib.splitK];simp [hi]
  ·rw [List.count_cons_of_ne (by simpa using h),cut,if_neg h,<-I9 c l]
   cases hk:l.count c with
   | zero=>simp [Lib.splitK]
   | succ k=>
    have hm:c∈l:=List.count_pos_iff.1 (by omega);have hne:=LO c l hm;have hge:=Lib.index_ge l [c];obtain ⟨j,hj⟩ : ∃ j:Nat,Lib.index l [c]=j:=⟨(Lib.index l [c]).toNat,by omega⟩
    have hi:Lib.index (b::l) [c]=((j+1:Nat):Int):=by rw [Gb,if_neg h,if_neg hne,hj]; omega
    have e1:((Lib.index l [c])==-1)=false:=by rw [hj]; exact beq_false_of_ne (by omega)
    have e2:((((j+1:Nat):Int))==-1)=false:=beq_false_of_ne (by omega);rw [Lib.splitK,Lib.splitK,hi,e1,e2,hj];simp [Nat.add_assoc]
theorem TT (c:UInt8) : ∀ s:By,cut c s≠[]
 | []=>by simp [cut]
 | b::l=>by
  rw [cut];split
  ·simp
  ·have:=TT c l;split
   ·rename_i h; exact absurd h this
   ·simp
theorem PD (c:UInt8) (s:By):(cut c s).length=s.count c+1:=by
 induction s with
 | nil=>rfl
 | cons b l ih=>
  rw [cut]
  by_cases h:b=c
  ·rw [if_pos h]; subst h; simp [ih]
  ·rw [if_neg h,List.count_cons_of_ne (by simpa using h),<-ih];have:=TT c l;split
   ·rename_i hh; exact absurd hh this
   ·rename_i hh; rw [hh]; rfl
open Go.Lib Go.Shelf Go.RowKit Go.Proofs in
set_option maxHeartbeats 1000000 in
theorem VC {P:Program} {ρ:Ren} (L:Lays.n146 P ρ) (hi9:(P.info? (ρ.t 9)).map (fun i=>(i.zero,i.size,i.bytes))=some (some (.string ByteArray.empty),1,16)) (s:ByteArray) (b:UInt8) (w:World) (hs:s.size<4294967281) :
  Calls P (ρ.f 146) #[.string s,.string ⟨#[b]⟩] w fun e w'=>
   e = .returned (.slice (some ⟨w.heap.size,0,none⟩) (Lib.countB s ⟨#[b]⟩+1) (Lib.countB s ⟨#[b]⟩+1))/\w'=w.alloc (.cells ((Lib.splitB ⟨#[b]⟩ 0 (Lib.countB s ⟨#[b]⟩) s).map Value.string).toArray (ρ.t 9)):=by
 have h1:1<=(⟨#[b]⟩:ByteArray).size:=Nat.le_refl _;have hle:=Lib.countB_le ⟨#[b]⟩ h1 s.size s (Nat.le_refl _);have hlen:=Lib.splitB_all ⟨#[b]⟩ h1 0 _ s rfl
 have c:=Any.strings_genSplit_core (ρ:=ρ) { L with } hi9 s ⟨#[b]⟩ 0 (-1) (Lib.countB s ⟨#[b]⟩+1) w hs h1 (zero_le _)
  (fun x cc _=>(Any.strings_Index_one { L with } x b _).mono fun e w' ⟨he,hw⟩=>⟨by rw [he]; show _=Ending.returned (Value.int .i64 (Lib.index x.data.toList [b])); rw [Lib.index_one],hw⟩)
  ((Any.strings_Count_one { L with } s b w).mono fun e w' ⟨he,hw⟩=>⟨by rw [he]; show _=Ending.returned (Value.int .i64 ((Lib.count s.data.toList [b]:Nat):Int)); rw [Lib.count_one]; rfl,hw⟩)
  (by decide) (by decide) (by rw [if_pos (by decide)]; omega)
 rw [Nat.add_sub_cancel,hlen] at c;have e2:Lib.cellsOf (Lib.splitB ⟨#[b]⟩ 0 (Lib.countB s ⟨#[b]⟩) s) (Lib.countB s ⟨#[b]⟩+1)=((Lib.splitB ⟨#[b]⟩ 0 (Lib.countB s ⟨#[b]⟩) s).map Value.string).toArray:=by rw [<-hlen]; exact Lib.cellsOf_full _
 rw [e2] at c;have t3:=L.t3; have t9:=L.t9; have t31:=L.t31;have a3:=L.a3; have a9:=L.a9; have a31:=L.a31;have z3:=L.z3; have v3:=L.v3; have z9:=L.z9; have v9:=L.v9; have z31:=L.z31; have v31:=L.v31;have e221 : ∀ args w,(callFunc (ρ.f 221) args).run P w = .ok (.enter (ρ.f 221) args) w:=enters_of L.f221 (by kernel_rfl) rfl
 go_enter L.f146,Body.n146_ntmps ρ
 go_wp2_with (go_at_fn (ρ.f 221); refine c.mono ?_; rintro e w' ⟨rfl,hw⟩; rw [hw])
 go_ret
 exact ⟨rfl,rfl⟩
open Go.Shelf in
noncomputable def S9:Ren:=⟨fun k=>match k with | 146=>145 | 221=>185 | 138=>220 | 143=>221 | 195=>227 | 197=>228 | 217=>234 | 218=>229 | 219=>230 | 224=>236 | 225=>235 | 260=>233 | 266=>238 | 267=>237 | 268=>219 | 314=>239 | k=>k,
 fun k=>match k with | 0=>0 | 3=>3 | 4=>4 | 5=>5 | 9=>9 | 21=>21 | 31=>165 | 46=>275 | 51=>284 | 105=>277 | 119=>280 | 138=>282 | 139=>283 | 146=>285 | k=>k,
 fun k=>match k with | 1=>0 | 3=>1 | 4=>2 | k=>k⟩
open Go.Shelf in
theorem Acf:Lays.n146 prog S9:=by
 constructor
 all_goals first | kernel_rfl | (intro w; kernel_rfl)

theorem Z0 {w:World} {R:Nat->Prop} {μ:Nat->Option RB} {l:List (By)} {us:Array Value} {e:TypeId}
  (hn : ∀ j,0<=j->μ j=none) (rlt : ∀ x,R x->x<w.heap.size) (hm:l.length<=maxI) (hz:l.length<=us.size)
  (hv : ∀ (i:Nat) (z:By),l[i]? = some z->us[i]? = some (Value.string ⟨z.toArray⟩)) :
  Left w R μ (fun j=>([]:List Blk)[j]?) (.ref 0 0 l.length) [R0 .str l] (.slice (some ⟨w.heap.size,0,none⟩) l.length l.length) (w.alloc (.cells us e)) R (BB μ 0 (.at w.heap.size 0 1 l.length l.length)):=by
 have h0:μ 0=none:=hn 0 (Nat.le_refl _);have hR : ¬R w.heap.size:=fun hr=>by have:=rlt _ hr; omega
 have at0 : ∀ j B,(([R0 .str l]:List (Option Blk))[j]?).join=some B->j=0/\B = .row false none .str l:=fun j B hB=>by
  match j with
  | 0=>simp at hB; exact ⟨rfl,hB.symm⟩
  | j+1=>simp at hB
 refine ⟨?_,⟨?_,?_,?_,fun x hx=>Nat.lt_of_lt_of_le (rlt x hx) (by simp)⟩,rfl,rfl,rfl,by simp,?_,fun x h=>h,fun x h=>.inl h,?_,?_,CT h0 _,?_⟩
 ·exact .ref 0 0 l.length w.heap.size 0 1 l.length l.length ⟨w.heap.size,0,none⟩ (Ay _ _ _) (Nat.le_refl _) (by omega) hm (.inr (by simp))
 ·intro id B hB;obtain ⟨rfl,rfl⟩:=at0 id B hB;refine ⟨_,Ay _ _ _,.row w.heap.size 0 1 l.length l.length false none .str l us e rfl (by simp only [World.alloc]; simp) ⟨rfl,Nat.le_refl _⟩ hm (by omega) ?_ (by simp)⟩;intro i z j v hi hj
  match j with
  | 0=>
   simp only [enc,List.getElem?_cons_zero,Option.some.injEq] at hj;subst hj;exact ⟨_,by simpa using hv i z hi,.s _⟩
  | j+1=>simp [enc] at hj
 ·intro id id' B B' rb1 rb2 x g1 g2 _ _ _ _ _ _;rw [(at0 id B g1).1,(at0 id' B' g2).1]
 ·intro id B rb1 x g1 o1 m1 e1;obtain ⟨rfl,rfl⟩:=at0 id B g1;rw [Ay] at m1; simp at m1; subst m1;simp [Foot,RB.real] at e1; subst e1;exact hR
 ·intro k hk hno;exact BW _ _ hk
 ·intro j B rb1 x g1 o1 m1 e1;obtain ⟨rfl,rfl⟩:=at0 j B g1;rw [Ay] at m1; simp at m1; subst m1;simp [Foot,RB.real] at e1; subst e1;exact .inr (Nat.le_refl _)
 ·intro j B rb1 x g1 m1 e1;obtain ⟨rfl,rfl⟩:=at0 j B g1;rw [Ay] at m1; simp at m1; subst m1;simp [Foot,RB.real] at e1; subst e1;exact .inr (Nat.le_refl _)
 ·intro j hj;have hj:1<=j:=hj;have hne:j≠0:=by omega
  simp only [BB,hne,if_false];exact hn j (by omega)
theorem Ago:Af prog 145 (Ent.rd1 OM).F:=by
 intro w R μ vs us bs r outs hmem hnone hreps hF;unfold Ent.F OM at hF;dsimp only at hF;split at hF
 rotate_left
 ·cases hF
 rename_i s c;obtain ⟨hc,h⟩:=Ad hF;have hc:=of_decide_eq_true hc;obtain ⟨rfl,rfl⟩:=Prod.mk.inj (AO h);clear h hF
 match us,hreps with
 | [u0,u1],hreps=>
 have v0:=hreps.2 0 _ u0 rfl rfl;have v1:=hreps.2 1 _ u1 rfl rfl;cases v0;cases v1;have hsz:(⟨s.toArray⟩:ByteArray).size=s.length:=by simp [ByteArray.size]
 refine (VC (ρ:=S9) Acf (by kernel_rfl) ⟨s.toArray⟩ c w (by rw [hsz]; omega)).mono ?_
 rintro e w' ⟨rfl,rfl⟩
 have hcount:Lib.countB ⟨s.toArray⟩ ⟨#[c]⟩=s.count c:=by
  show Lib.count s.toArray.toList [c]=_;rw [Lib.count_one]
 have hdata:=Lib.splitB_data ⟨#[c]⟩ 0 (s.count c) ⟨s.toArray⟩;have hcut:(Lib.splitB ⟨#[c]⟩ 0 (s.count c) ⟨s.toArray⟩).map (·.data.toList)=cut c s:=by rw [hdata]; exact I9 c s
 rw [hcount];generalize Lib.splitB ⟨#[c]⟩ 0 (s.count c) ⟨s.toArray⟩=L at *;have hl:L.length=(cut c s).length:=by rw [<-hcut,length_map]
 have hlc:=PD c s;have hcs:=List.count_le_length (a:=c) (l:=s)
 have:=Z0 (w:=w) (R:=R) (μ:=μ) (l:=cut c s) (us:=(L.map Value.string).toArray) (e:=S9.t 9) (fun j _=>hnone j (by simp)) hmem.rlt (by unfold maxI; omega) (by simp; omega) (fun i z hi=>by
  rw [<-hcut,List.getElem?_map] at hi;obtain ⟨x,hx,rfl⟩:=map_eq_some_iff.1 hi
  simp [hx])
 rw [hlc] at this ⊢;exact ⟨_,R,_,rfl,this⟩
def LG (b:UInt8):Bool:=(decide (97<=b.toNat)&&decide (b.toNat<=122))||(decide (48<=b.toNat)&&decide (b.toNat<=57))
def lev (s:By):Bool:=s.all LG&&(decide (1<=s.length)&&decide (s.length<=6))
def Ps:Gm
 | [.s s],[]=>.need (decide (s.length<=maxI)) (.leaf (.b (lev s),[]))
 | _,_=>.no
def L1:LoopEnt:=⟨35,[0,5,6],[0],[2],fun
 | ([.s s,.j m,.j i],[])=>.need (decide (0<=i/\i.toNat<=s.length/\s.length<=maxI/\m=s.length)) (.br ((s.drop i.toNat).all LG) (.leaf (.exit 0,([.s s],[]))) (.leaf (.ret,([.b false],[]))))
 | _=>.no⟩
def La:LoopEnt:=⟨36,[0,3],[0],[2],fun
 | ([.s s,.j i],[])=>.need (decide (0<=i/\i.toNat<=s.length/\s.length<=maxI)) (.br ((s.drop i.toNat).all LG) (.leaf (.exit 0,([.s s],[]))) (.leaf (.ret,([.b false],[]))))
 | _=>.no⟩
theorem L0 (s:By) (m i:Int):At prog (Aa [(125,.rd1 A0)]) (Aa [(2,L1)]) 0 (body f161 0) L1 ([.s s,.j m,.j i],[]) =
 ((ifB (decide (i<m)) (ifT (decide (0<=i)) (Ak s[i.toNat]? fun z=>ifB (decide ((↑z.toNat:Int)<(97:Int))) (ifT (decide (0<=i)) (Ak s[i.toNat]? fun z=>ifB
 (decide ((↑z.toNat:Int)<(48:Int))) rF (ifT (decide (0<=i)) (Ak s[i.toNat]? fun z=>ifB (decide ((↑z.toNat:Int)>(57:Int)))
 rF (some (Ex.normal,[V.s s,V.j m,V.j (i64.wrap (i+1))],[])))))) (ifT (decide (0<=i)) (Ak s[i.toNat]? fun z=>
 ifB (decide ((↑z.toNat:Int)>(122:Int))) (ifT (decide (0<=i)) (Ak s[i.toNat]? fun z=>ifB (decide ((↑z.toNat:Int)<(48:Int))) rF (ifT (decide (0<=i)) (Ak s[i.toNat]? fun z=>ifB (decide ((↑z.toNat:Int)>(57:Int))) rF (some (Ex.normal,[V.s s,V.i .i64
 m,V.j (i64.wrap (i+1))],[])))))) (some (Ex.normal,[V.s s,V.j m,V.j (i64.wrap (i+1))],[])))))) (some (Ex.exit 0,[V.s s],[]))):_):=by kernel_rfl
theorem Ac8:As prog (Aa [(125,.rd1 A0)]) (Aa [(2,L1)]) 0 (f161.body.getD .skip):=by
 refine Am (a:=body f161 0) (by kernel_rfl) fun d e d' h=>?_
 unfold L1 at h;dsimp only at h;split at h
 ·rename_i s m i;obtain ⟨hc,hx⟩:=Ad h;clear h;obtain ⟨h0,h1,h2,rfl⟩:=of_decide_eq_true hc;obtain ⟨i,rfl⟩:=eq_ofNat_of_zero_le h0;rw [ntN] at h1 hx;refine B3 (l:=s) LG (fun i=>([.s s,.j (↑s.length:Int),.j (i:Int)],[])) (ex:=(.exit 0,([.s s],[]))) (rt:=(.ret,([.b false],[]))) (by simp) (by simp) (fun i hi=>?_) ?_ (s.length-i) i (by omega) e d' hx
  ·have hr:=L0 s s.length i;rw [Ae (dcT (by omega))] at hr;simp only [ntN,gtE hi,Ai,Ap (n:=i) (by omega)] at hr;refine hr.trans ?_;have hb:=s[i].toNat_lt;have hz:(0:Int)<=(i:Int):=by omega
   simp only [hz,decide_true,CP];unfold LG;generalize s[i].toNat=b at *;have c1:decide ((b:Int)<97) = !decide (97<=b):=by rw [<-decide_not]; exact decide_eq_decide.2 (by omega)
   have c2:decide ((b:Int)>122) = !decide (b<=122):=by rw [<-decide_not]; exact decide_eq_decide.2 (by omega)
   have c3:decide ((b:Int)<48) = !decide (48<=b):=by rw [<-decide_not]; exact decide_eq_decide.2 (by omega)
   have c4:decide ((b:Int)>57) = !decide (b<=57):=by rw [<-decide_not]; exact decide_eq_decide.2 (by omega)
   have d1:decide ((b:Int)>=97)=decide (97<=b):=decide_eq_decide.2 (by omega);have d2:decide ((b:Int)<=122)=decide (b<=122):=decide_eq_decide.2 (by omega);have d3:decide ((b:Int)>=48)=decide (48<=b):=decide_eq_decide.2 (by omega);have d4:decide ((b:Int)<=57)=decide (b<=57):=decide_eq_decide.2 (by omega);simp only [c1,c2,c3,c4,d1,d2,d3,d4];clear c1 c2 c3 c4 d1 d2 d3 d4;generalize decide (97<=b)=x1;generalize decide (b<=122)=x2;generalize decide (48<=b)=x3;generalize decide (b<=57)=x4;cases x1<;>cases x2<;>cases x3<;>cases x4<;>rfl
  ·have hr:=L0 s s.length s.length;rw [Ac (dcF (by omega))] at hr;exact hr
 ·cases h
theorem YX (s:By) (hm:s.length<=maxI):Aw prog (Aa [(125,.rd1 A0)]) (Aa [(2,L1)]) f161 [.s s] []=some (.b (lev s),[]):=by
 have e:Aw prog (Aa [(125,.rd1 A0)]) (Aa [(2,L1)]) f161 [.s s] []=((ifT (decide ((0:Int)<=(0:Int)/\0<=s.length/\s.length<=maxI/\(↑s.length:Int)=(↑s.length:Int))) (ifB ((drop 0 s).all LG) (some (V.b
 (decide (1<=(↑s.length:Int)/\(↑s.length:Int)<=(6:Int))),[])) nF)):_):=by kernel_rfl
 rw [e];clear e;rw [Ab (dcT ⟨by omega,by omega,hm,by trivial⟩)];unfold lev;simp only [drop_zero]
 cases s.all LG with
 | true=>
  rw [AR]
  by_cases q1:1<=s.length<;>by_cases q2:s.length<=6<;>simp [q1,q2]<;>omega
 | false=>rfl
theorem Aka:Af prog 161 (Ent.rd1 Ps).F:=by
 refine fcK (kc func125 Dd KnowsL.nil).knows (Λ:=(Aa [(2,L1)])) func161 fun vs bs r' hq=>?_
 unfold Ent.F Ps at hq;dsimp only at hq;split at hq
 ·rename_i s;obtain ⟨hc,hx⟩:=Ad hq;exact ⟨Ac8,(YX s (of_decide_eq_true hc)).trans hx⟩
 ·cases hq
theorem KZ (s:By) (i:Int):At prog (Aa [(115,.rd1 A0)]) (Aa [(2,La)]) 0 (body f154 0) La ([.s s,.j i],[]) =
 ((ifB (decide (i<(↑s.length:Int))) (ifT (decide (0<=i)) (Ak s[i.toNat]? fun z=>ifB (decide ((↑z.toNat:Int)>=(97:Int))) (ifT (decide (0<=i)) (Ak
 s[i.toNat]? fun z=>ifB (decide ((↑z.toNat:Int)<=(122:Int))) (some (Ex.normal,[V.s s,V.j (i64.wrap (i+1))],[])) (ifT (decide (0<=i)) (Ak
 s[i.toNat]? fun z=>ifB (decide ((↑z.toNat:Int)>=(48:Int))) (ifT (decide (0<=i)) (Ak s[i.toNat]? fun z=>ifB (!decide ((↑z.toNat:Int)<=(57:Int))) rF (some (Ex.normal,[V.s s,V.j (i64.wrap (i+1))],[])))) rF)))) (ifT (decide (0<=i)) (Ak
 s[i.toNat]? fun z=>ifB (decide ((↑z.toNat:Int)>=(48:Int))) (ifT (decide (0<=i)) (Ak s[i.toNat]? fun z=>ifB (!decide ((↑z.toNat:Int)<=(57:Int))) rF (some (Ex.normal,[V.s s,V.j (i64.wrap (i+1))],[])))) rF)))) (some (Ex.exit 0,[V.s s],[]))):_):=by kernel_rfl
theorem Acl:As prog (Aa [(115,.rd1 A0)]) (Aa [(2,La)]) 0 (f154.body.getD .skip):=by
 refine Am (a:=body f154 0) (by kernel_rfl) fun d e d' h=>?_
 unfold La at h;dsimp only at h;split at h
 ·rename_i s i;obtain ⟨hc,hx⟩:=Ad h;clear h;obtain ⟨h0,h1,h2⟩:=of_decide_eq_true hc;obtain ⟨i,rfl⟩:=eq_ofNat_of_zero_le h0;rw [ntN] at h1 hx;refine B3 (l:=s) LG (fun i=>([.s s,.j (i:Int)],[])) (ex:=(.exit 0,([.s s],[]))) (rt:=(.ret,([.b false],[]))) (by simp) (by simp) (fun i hi=>?_) ?_ (s.length-i) i (by omega) e d' hx
  ·have hr:=KZ s i;rw [Ae (dcT (by omega))] at hr;simp only [ntN,gtE hi,Ai,Ap (n:=i) (by omega)] at hr;refine hr.trans ?_;have hb:=s[i].toNat_lt;have hz:(0:Int)<=(i:Int):=by omega
   simp only [hz,decide_true,CP];unfold LG;generalize s[i].toNat=b at *;have c1:decide ((b:Int)<97) = !decide (97<=b):=by rw [<-decide_not]; exact decide_eq_decide.2 (by omega)
   have c2:decide ((b:Int)>122) = !decide (b<=122):=by rw [<-decide_not]; exact decide_eq_decide.2 (by omega)
   have c3:decide ((b:Int)<48) = !decide (48<=b):=by rw [<-decide_not]; exact decide_eq_decide.2 (by omega)
   have c4:decide ((b:Int)>57) = !decide (b<=57):=by rw [<-decide_not]; exact decide_eq_decide.2 (by omega)
   have d1:decide ((b:Int)>=97)=decide (97<=b):=decide_eq_decide.2 (by omega);have d2:decide ((b:Int)<=122)=decide (b<=122):=decide_eq_decide.2 (by omega);have d3:decide ((b:Int)>=48)=decide (48<=b):=decide_eq_decide.2 (by omega);have d4:decide ((b:Int)<=57)=decide (b<=57):=decide_eq_decide.2 (by omega);simp only [c1,c2,c3,c4,d1,d2,d3,d4];clear c1 c2 c3 c4 d1 d2 d3 d4;generalize decide (97<=b)=x1;generalize decide (b<=122)=x2;generalize decide (48<=b)=x3;generalize decide (b<=57)=x4;cases x1<;>cases x2<;>cases x3<;>cases x4<;>rfl
  ·have hr:=KZ s s.length;rw [Ac (dcF (by omega))] at hr;exact hr
 ·cases h
theorem Yw (s:By) (hm:s.length<=maxI):Aw prog (Aa [(115,.rd1 A0)]) (Aa [(2,La)]) f154 [.s s] []=some (.b (lev s),[]):=by
 have e:Aw prog (Aa [(115,.rd1 A0)]) (Aa [(2,La)]) f154 [.s s] []=((ifT (decide ((0:Int)<=(0:Int)/\0<=s.length/\s.length<=maxI)) (ifB ((drop 0 s).all LG) (some (V.b (decide (1<=(↑s.length:Int)/\
 (↑s.length:Int)<=(6:Int))),[])) nF)):_):=by kernel_rfl
 rw [e];clear e;rw [Ab (dcT ⟨by omega,by omega,hm⟩)];unfold lev;simp only [drop_zero]
 cases s.all LG with
 | true=>
  rw [AR]
  by_cases q1:1<=s.length<;>by_cases q2:s.length<=6<;>simp [q1,q2]<;>omega
 | false=>rfl
theorem Ajx:Af prog 154 (Ent.rd1 Ps).F:=by
 refine fcK (kc func115 Ia KnowsL.nil).knows (Λ:=(Aa [(2,La)])) func154 fun vs bs r' hq=>?_
 unfold Ent.F Ps at hq;dsimp only at hq;split at hq
 ·rename_i s;obtain ⟨hc,hx⟩:=Ad hq;exact ⟨Acl,(Yw s (of_decide_eq_true hc)).trans hx⟩
 ·cases hq
def tkS (f:By->By->Bool):List (By)->List (By)->Option Bool
 | [],_=>none
 | x::p,q=>if x=[35] then some true else match q with
  | []=>some false
  | y::q=>if f x y=true then tkS f p q else some false
def tk (f:By->By->Bool) (p q:List (By)):Bool:=(tkS f p q).getD (decide (p.length=q.length))
def inL (x y:By):Bool:=x==y||(x==[43]&&!(y==[35]))
def E9 (x y:By):Bool:=x==[43]||x==y
def inG:Gm
 | [.sl .str p,.sl .str q],[]=>.leaf (.b (tk inL p q),[])
 | _,_=>.no
def Aiv:Gm
 | [.sl .str p,.sl .str q],[]=>.leaf (.b (tk E9 p q),[])
 | _,_=>.no
def OI:LoopEnt:=⟨47,[0,1,7,8,9],[0,1],[4],fun
 | ([.sl .str p,.sl .str q,.sl .str p2,.j m,.j i],[])=>.need (decide (0<=i/\p2=p/\m=p.length/\i.toNat<=p.length/\i.toNat<=q.length/\p.length<=maxI/\q.length<=maxI)) (.br (tkS inL (p.drop i.toNat) (q.drop i.toNat)).isNone (.leaf (.exit 0,([.sl .str p,.sl .str q],[]))) (.leaf (.ret,([.b ((tkS inL (p.drop i.toNat) (q.drop i.toNat)).getD false)],[]))))
 | _=>.no⟩
def Ir:LoopEnt:=⟨38,[0,1,7,8,9],[0,1],[4],fun
 | ([.sl .str p,.sl .str q,.sl .str p2,.j m,.j i],[])=>.need (decide (0<=i/\p2=p/\m=p.length/\i.toNat<=p.length/\i.toNat<=q.length/\p.length<=maxI/\q.length<=maxI)) (.br (tkS E9 (p.drop i.toNat) (q.drop i.toNat)).isNone (.leaf (.exit 0,([.sl .str p,.sl .str q],[]))) (.leaf (.ret,([.b ((tkS E9 (p.drop i.toNat) (q.drop i.toNat)).getD false)],[]))))
 | _=>.no⟩
theorem H6 (f:By->By->Bool) (x:By) (p q:List (By)):tkS f (x::p) q=if x=[35] then some true else match q with
  | []=>some false
  | y::q=>if f x y=true then tkS f p q else some false:=by cases q<;>rfl
theorem Nf (p q p2:List (By)) (m i:Int):At prog (Aa []) (Aa [(2,OI)]) 0 (body f107 0) OI ([.sl .str p,.sl .str q,.sl .str p2,.j m,.j i],[]) =
 ((ifB (decide (i<m)) (ifT (decide (0<=i)&&decide (i<(↑p2.length:Int))) (Ak p2[i.toNat]? fun z=>ifB (z==[(35:UInt8)]) (some (Ex.ret,[V.b true],[])) (ifB
 (i==(↑q.length:Int)) rF (ifT (decide (0<=i)&&decide (i<(↑q.length:Int))) (Ak q[i.toNat]? fun z_1=>ifB (!z==z_1) (ifB (!z
 == [(43:UInt8)]) rF (ifT (decide (0<=i)&&decide (i<(↑q.length:Int))) (Ak q[i.toNat]? fun z=>ifB (z==[(35:UInt8)]) rF (some (Ex.normal,[V.sl Cd.str p,V.sl Cd.str q,V.sl Cd.str p2,V.j m,V.j (i64.wrap (i+1))],[]))))) (some (Ex.normal,
 [V.sl Cd.str p,V.sl Cd.str q,V.sl Cd.str p2,V.j m,V.j (i64.wrap (i+1))],[]))))))) (some (Ex.exit 0,[V.sl Cd.str p,V.sl Cd.str q],[]))):_):=by kernel_rfl
theorem Qd (p q:List (By)) (hp:p.length<=maxI) (hq:q.length<=maxI) : ∀ (j i:Nat),i+j=p.length->i<=q.length->∀ e d',(Br.br (tkS inL (p.drop i) (q.drop i)).isNone (.leaf (.exit 0,([.sl .str p,.sl .str q],[]))) (.leaf (.ret,([.b ((tkS inL (p.drop i) (q.drop i)).getD false)],[]))):Br (Ex×Dt)).run=some (e,d')->Runs prog (Aa []) (Aa [(2,OI)]) 0 (body f107 0) OI ([.sl .str p,.sl .str q,.sl .str p,.j (↑p.length:Int),.j (i:Int)],[]) e d'
 | 0,i,hi,hiq,e,d',hx=>by
  have hr:=Nf p q p p.length i;rw [Ac (dcF (by omega))] at hr;rw [drop_eq_nil_of_le (by omega)] at hx;cases hx;exact stp hr
 | j+1,i,hi,hiq,e,d',hx=>by
  have hil:i<p.length:=by omega
  have hr:=Nf p q p p.length i;rw [Ae (dcT (by omega)),T2 (by omega)] at hr;simp only [ntN,gtE hil,Ai,Ap (n:=i) (by omega)] at hr;rw [drop_eq_getElem_cons hil,H6] at hx
  by_cases q1:p[i]=[35]
  ·rw [if_pos q1] at hx;cases hx;rw [Ae (by rw [q1]; rfl)] at hr;exact stp hr
  rw [if_neg q1] at hx;rw [Ac (beq_false_of_ne q1)] at hr
  by_cases q2:i=q.length
  ·rw [drop_eq_nil_of_le (by omega)] at hx;cases hx;rw [Ae (by rw [q2]; simp)] at hr;exact stp hr
  have hiq2:i<q.length:=by omega
  rw [Ac (beq_false_of_ne (by omega))] at hr;simp only [gtE hiq2,Ai] at hr;have hb:(decide (0<=(i:Int))&&decide ((i:Int)<(q.length:Int)))=true:=by simp only [anE,dcE]; omega
  simp only [hb,CP] at hr;rw [drop_eq_getElem_cons hiq2] at hx;have e35:(p[i]==[35])=false:=beq_false_of_ne q1
  by_cases q3:inL p[i] q[i]=true
  ·simp only [if_pos q3] at hx;refine sts (hr.trans ?_) (Qd p q hp hq j (i+1) (by omega) (by omega) e d' hx)
   revert q3 e35
   unfold inL;generalize p[i]=x;generalize q[i]=y;intro e35 q3
   by_cases z1:x=y
   ·subst z1; simp at q3 ⊢
   ·by_cases z2:x=[43]
    ·subst z2
     by_cases z3:y=[35]
     ·subst z3; simp_all
     ·simp_all
    ·simp_all
  ·simp only [if_neg q3] at hx;cases hx;refine .stop _ _ _ (hr.trans ?_) (by simp)
   revert q3 e35
   unfold inL;generalize p[i]=x;generalize q[i]=y;intro e35 q3
   by_cases z1:x=y
   ·subst z1; simp at q3 ⊢
   ·by_cases z2:x=[43]
    ·subst z2
     by_cases z3:y=[35]
     ·subst z3; simp_all
     ·simp_all
    ·simp_all
theorem Agj:As prog (Aa []) (Aa [(2,OI)]) 0 (f107.body.getD .skip):=by
 refine Am (a:=body f107 0) (by kernel_rfl) fun d e d' h=>?_
 unfold OI at h;dsimp only at h;split at h
 ·rename_i p q p2 m i;obtain ⟨hc,hx⟩:=Ad h;clear h;obtain ⟨h0,rfl,rfl,h1,h2,h3,h4⟩:=of_decide_eq_true hc;obtain ⟨i,rfl⟩:=eq_ofNat_of_zero_le h0;rw [ntN] at h1 h2 hx;exact Qd p2 q h3 h4 (p2.length-i) i (by omega) h2 e d' hx
 ·cases h
theorem Ab4 (p q:List (By)) (hp:p.length<=maxI) (hq:q.length<=maxI):Aw prog (Aa []) (Aa [(2,OI)]) f107 [.sl .str p,.sl .str q] []=some (.b (tk inL p q),[]):=by
 have e:Aw prog (Aa []) (Aa [(2,OI)]) f107 [.sl .str p,.sl .str q] []=((ifT (decide ((0:Int)<=(0:Int)/\p=p/\(↑p.length:Int)=(↑p.length:Int)/\0<=p.length/\0<=q.length/\p.length<=maxI/\q.length<=maxI)) (ifB
 (tkS inL (drop 0 p) (drop 0 q)).isNone (some (V.b ((↑p.length:Int)==(↑q.length:Int)),[])) (some (V.b ((tkS inL (drop 0 p)
 (drop 0 q)).getD false),[])))):_):=by kernel_rfl
 rw [e];clear e;rw [Ab (dcT ⟨by omega,by trivial,by trivial,by omega,by omega,hp,hq⟩)];unfold tk;simp only [drop_zero]
 cases tkS inL p q with
 | none=>
  rw [Ae (by rfl)]
  by_cases h:p.length=q.length
  ·simp [h]
  ·simp [h]<;>omega
 | some b=>rfl
theorem tin:Af prog 107 (Ent.rd1 inG).F:=by
 refine AB KnowsL.nil.knows (Λ:=Aa [(2,OI)]) func107 (c:=f107.body.getD .skip) (by kernel_rfl) fun vs bs r' hq hv hb=>?_
 unfold Ent.F inG at hq;dsimp only at hq;split at hq
 ·rename_i p q;exact ⟨Agj,(Ab4 p q (hv (.sl .str p) (by simp)).1 (hv (.sl .str q) (by simp)).1).trans hq⟩
 ·cases hq
theorem Ma (p q p2:List (By)) (m i:Int):At prog (Aa []) (Aa [(2,Ir)]) 0 (body f135 0) Ir ([.sl .str p,.sl .str q,.sl .str p2,.j m,.j i],[]) =
 ((ifB (decide (i<m)) (ifT (decide (0<=i)&&decide (i<(↑p2.length:Int))) (Ak p2[i.toNat]? fun z=>ifB (z==[(35:UInt8)]) (some (Ex.ret,[V.b true],[])) (ifB
 (i==(↑q.length:Int)) rF (ifB (!z==[(43:UInt8)]) (ifT (decide (0<=i)&&decide (i<(↑q.length:Int))) (Ak q[i.toNat]? fun z_1
 => ifB (!z==z_1) rF (some (Ex.normal,[V.sl Cd.str p,V.sl Cd.str q,V.sl Cd.str p2,V.j m,V.j (i64.wrap (i+1))],
 [])))) (some (Ex.normal,[V.sl Cd.str p,V.sl Cd.str q,V.sl Cd.str p2,V.j m,V.j (i64.wrap (i+1))],[])))))) (some (Ex.exit 0,[V.sl Cd.str p,V.sl
 Cd.str q],[]))):_):=by kernel_rfl
theorem Ok (p q:List (By)) (hp:p.length<=maxI) (hq:q.length<=maxI) : ∀ (j i:Nat),i+j=p.length->i<=q.length->∀ e d',(Br.br (tkS E9 (p.drop i) (q.drop i)).isNone (.leaf (.exit 0,([.sl .str p,.sl .str q],[]))) (.leaf (.ret,([.b ((tkS E9 (p.drop i) (q.drop i)).getD false)],[]))):Br (Ex×Dt)).run=some (e,d')->Runs prog (Aa []) (Aa [(2,Ir)]) 0 (body f135 0) Ir ([.sl .str p,.sl .str q,.sl .str p,.j (↑p.length:Int),.j (i:Int)],[]) e d'
 | 0,i,hi,hiq,e,d',hx=>by
  have hr:=Ma p q p p.length i;rw [Ac (dcF (by omega))] at hr;rw [drop_eq_nil_of_le (by omega)] at hx;cases hx;exact stp hr
 | j+1,i,hi,hiq,e,d',hx=>by
  have hil:i<p.length:=by omega
  have hr:=Ma p q p p.length i;rw [Ae (dcT (by omega)),T2 (by omega)] at hr;simp only [ntN,gtE hil,Ai,Ap (n:=i) (by omega)] at hr;rw [drop_eq_getElem_cons hil,H6] at hx
  by_cases q1:p[i]=[35]
  ·rw [if_pos q1] at hx;cases hx;rw [Ae (by rw [q1]; rfl)] at hr;exact stp hr
  rw [if_neg q1] at hx;rw [Ac (beq_false_of_ne q1)] at hr
  by_cases q2:i=q.length
  ·rw [drop_eq_nil_of_le (by omega)] at hx;cases hx;rw [Ae (by rw [q2]; simp)] at hr;exact stp hr
  have hiq2:i<q.length:=by omega
  rw [Ac (beq_false_of_ne (by omega))] at hr;simp only [gtE hiq2,Ai] at hr;have hb:(decide (0<=(i:Int))&&decide ((i:Int)<(q.length:Int)))=true:=by simp only [anE,dcE]; omega
  simp only [hb,CP] at hr;rw [drop_eq_getElem_cons hiq2] at hx;have e35:(p[i]==[35])=false:=beq_false_of_ne q1
  by_cases q3:E9 p[i] q[i]=true
  ·simp only [if_pos q3] at hx;refine sts (hr.trans ?_) (Ok p q hp hq j (i+1) (by omega) (by omega) e d' hx)
   revert q3 e35
   unfold E9;generalize p[i]=x;generalize q[i]=y;intro e35 q3
   by_cases z2:x=[43]
   ·subst z2; simp_all
   ·by_cases z1:x=y
    ·subst z1; simp_all
    ·simp_all
  ·simp only [if_neg q3] at hx;cases hx;refine .stop _ _ _ (hr.trans ?_) (by simp)
   revert q3 e35
   unfold E9;generalize p[i]=x;generalize q[i]=y;intro e35 q3
   by_cases z2:x=[43]
   ·subst z2; simp_all
   ·by_cases z1:x=y
    ·subst z1; simp_all
    ·simp_all
theorem Aer:As prog (Aa []) (Aa [(2,Ir)]) 0 (f135.body.getD .skip):=by
 refine Am (a:=body f135 0) (by kernel_rfl) fun d e d' h=>?_
 unfold Ir at h;dsimp only at h;split at h
 ·rename_i p q p2 m i;obtain ⟨hc,hx⟩:=Ad h;clear h;obtain ⟨h0,rfl,rfl,h1,h2,h3,h4⟩:=of_decide_eq_true hc;obtain ⟨i,rfl⟩:=eq_ofNat_of_zero_le h0;rw [ntN] at h1 h2 hx;exact Ok p2 q h3 h4 (p2.length-i) i (by omega) h2 e d' hx
 ·cases h
theorem Aag (p q:List (By)) (hp:p.length<=maxI) (hq:q.length<=maxI):Aw prog (Aa []) (Aa [(2,Ir)]) f135 [.sl .str p,.sl .str q] []=some (.b (tk E9 p q),[]):=by
 have e:Aw prog (Aa []) (Aa [(2,Ir)]) f135 [.sl .str p,.sl .str q] []=((ifT (decide ((0:Int)<=(0:Int)/\p=p/\(↑p.length:Int)=(↑p.length:Int)/\0<=p.length/\0<=q.length/\p.length<=maxI/\q.length<=maxI)) (ifB
 (tkS E9 (drop 0 p) (drop 0 q)).isNone (some (V.b ((↑p.length:Int)==(↑q.length:Int)),[])) (some (V.b ((tkS E9 (drop 0 p)
 (drop 0 q)).getD false),[])))):_):=by kernel_rfl
 rw [e];clear e;rw [Ab (dcT ⟨by omega,by trivial,by trivial,by omega,by omega,hp,hq⟩)];unfold tk;simp only [drop_zero]
 cases tkS E9 p q with
 | none=>
  rw [Ae (by rfl)]
  by_cases h:p.length=q.length
  ·simp [h]
  ·simp [h]<;>omega
 | some b=>rfl
theorem Al2:Af prog 135 (Ent.rd1 Aiv).F:=by
 refine AB KnowsL.nil.knows (Λ:=Aa [(2,Ir)]) func135 (c:=f135.body.getD .skip) (by kernel_rfl) fun vs bs r' hq hv hb=>?_
 unfold Ent.F Aiv at hq;dsimp only at hq;split at hq
 ·rename_i p q;exact ⟨Aer,(Aag p q (hv (.sl .str p) (by simp)).1 (hv (.sl .str q) (by simp)).1).trans hq⟩
 ·cases hq


def Dy (s:By):Bool:=s==[43]||(s==[35]||lev s)
def lvB (l:List (By)):Bool:=decide (l.length<=6)&&(!(l.any fun z=>!Dy z)&&!decide ([35]∈l.take (l.length-1)))
def tpB (l:List (By)):Bool:=lvB l&&!(l.any fun z=>!lev z)
def U9:Gm
 | [.s s],[]=>.need (decide (s.length<=maxI)) (.leaf (.b (Dy s),[]))
 | _,_=>.no
def SV:Gm
 | [.s s],[]=>.need (decide (s.length<=maxI)) (.leaf (.b (!Dy s),[]))
 | _,_=>.no
def Sg:Gm
 | [.s s],[]=>.need (decide (s.length<=maxI)) (.leaf (.b (!lev s),[]))
 | _,_=>.no
theorem Wl (s:By) (hc:s.length<=maxI):Aw prog (Aa [(161,.rd1 Ps)]) (Aa []) f148 [.s s] []=(.leaf (.b (Dy s),[]):Br (V×List (Option Blk))).run:=by
 have e:Aw prog (Aa [(161,.rd1 Ps)]) (Aa []) f148 [.s s] []=((ifB (s==[(43:UInt8)]) (some (V.b true,[])) (ifB (s==[(35:UInt8)]) (some (V.b true,[])) (ifT (decide (s.length<=maxI)) (some (V.b (lev s),[]))))):_):=by kernel_rfl
 rw [e];clear e;rw [Ab (dcT hc)];unfold Dy;cases s==[43]<;>cases s==[35]<;>cases lev s<;>rfl
theorem Akf:Af prog 148 (Ent.rd1 U9).F:=by
 refine fcK (kc func161 Aka KnowsL.nil).knows (Λ:=Aa []) func148 fun vs bs r hq=>?_
 unfold Ent.F U9 at hq;dsimp only at hq;split at hq
 ·rename_i s;obtain ⟨hc,hq⟩:=Ad hq;exact ⟨Ah _,(Wl s (of_decide_eq_true hc)).trans hq⟩
 ·cases hq
theorem Adr (s:By) (hc:s.length<=maxI):Aw prog (Aa [(148,.rd1 U9)]) (Aa []) f147 [.s s] []=(.leaf (.b (!Dy s),[]):Br (V×List (Option Blk))).run:=by
 have e:Aw prog (Aa [(148,.rd1 U9)]) (Aa []) f147 [.s s] []=((ifT (decide (s.length<=maxI)) (some (V.b !Dy s,[]))):_):=by kernel_rfl
 rw [e];clear e;rw [Ab (dcT hc)];rfl
theorem lv1:Af prog 147 (Ent.rd1 SV).F:=by
 refine fcK (kc func148 Akf KnowsL.nil).knows (Λ:=Aa []) func147 fun vs bs r hq=>?_
 unfold Ent.F SV at hq;dsimp only at hq;split at hq
 ·rename_i s;obtain ⟨hc,hq⟩:=Ad hq;exact ⟨Ah _,(Adr s (of_decide_eq_true hc)).trans hq⟩
 ·cases hq
theorem Ab1 (s:By) (hc:s.length<=maxI):Aw prog (Aa [(161,.rd1 Ps)]) (Aa []) f160 [.s s] []=(.leaf (.b (!lev s),[]):Br (V×List (Option Blk))).run:=by
 have e:Aw prog (Aa [(161,.rd1 Ps)]) (Aa []) f160 [.s s] []=((ifT (decide (s.length<=maxI)) (some (V.b !lev s,[]))):_):=by kernel_rfl
 rw [e];clear e;rw [Ab (dcT hc)];rfl
theorem tp1:Af prog 160 (Ent.rd1 Sg).F:=by
 refine fcK (kc func161 Aka KnowsL.nil).knows (Λ:=Aa []) func160 fun vs bs r hq=>?_
 unfold Ent.F Sg at hq;dsimp only at hq;split at hq
 ·rename_i s;obtain ⟨hc,hq⟩:=Ad hq;exact ⟨Ah _,(Ab1 s (of_decide_eq_true hc)).trans hq⟩
 ·cases hq
def Bh  : List (By)->Nat->Int
 | [],_=>-1
 | z::l,n=>if (!Dy z)=true then (n:Int) else Bh  l (n+1)
def CW:LoopEnt:=⟨19,[0,1,4,7,8],[],[4],fun
 | ([.sl .str l,.fn 147 [] [],.j r,.j m,.j n],[])=>
  .need (decide ((∀ z∈l,z.length<=4000000000)/\0<=n/\n.toNat<=l.length/\l.length<=maxI/\m=l.length)) (.br (decide (Bh  (l.drop n.toNat) n.toNat<0)) (.leaf (.exit 0,([],[]))) (.leaf (.ret,([.j (Bh  (l.drop n.toNat) n.toNat)],[]))))
 | _=>.no⟩
def Ii:Gm
 | [.sl .str l,.fn 147 [] []],[]=>.need (decide (∀ z∈l,z.length<=4000000000)) (.leaf (.j (Bh  l 0),[]))
 | _,_=>.no
def Il:Gm
 | [.sl .str l,.fn 147 [] []],[]=>.need (decide (∀ z∈l,z.length<=4000000000)) (.leaf (.b (l.any (fun z:(By)=>!Dy z)),[]))
 | _,_=>.no
def Bg  : List (By)->Nat->Int
 | [],_=>-1
 | z::l,n=>if (!lev z)=true then (n:Int) else Bg  l (n+1)
def CV:LoopEnt:=⟨19,[0,1,4,7,8],[],[4],fun
 | ([.sl .str l,.fn 160 [] [],.j r,.j m,.j n],[])=>
  .need (decide ((∀ z∈l,z.length<=4000000000)/\0<=n/\n.toNat<=l.length/\l.length<=maxI/\m=l.length)) (.br (decide (Bg  (l.drop n.toNat) n.toNat<0)) (.leaf (.exit 0,([],[]))) (.leaf (.ret,([.j (Bg  (l.drop n.toNat) n.toNat)],[]))))
 | _=>.no⟩
def Ig:Gm
 | [.sl .str l,.fn 160 [] []],[]=>.need (decide (∀ z∈l,z.length<=4000000000)) (.leaf (.j (Bg  l 0),[]))
 | _,_=>.no
def Ik:Gm
 | [.sl .str l,.fn 160 [] []],[]=>.need (decide (∀ z∈l,z.length<=4000000000)) (.leaf (.b (l.any (fun z:(By)=>!lev z)),[]))
 | _,_=>.no
theorem GS  (l:List (By)) (r:Int) (n:Nat):At prog (Aa [(147,.rd1 SV)]) (Aa [(2,CW)]) 0 (body f186 0) CW ([.sl .str l,.fn 147 [] [],.j r,.j (↑l.length:Int),.j n],[]) =
 ((ifB (decide ((↑n:Int)<(↑l.length:Int))) (ifT (decide (0<=(↑n:Int))&&decide ((↑n:Int)<(↑l.length:Int))) (Ak l[((↑n:Int)).toNat]? fun z=>ifT (decide
 (List.length z<=maxI)) (ifB (!Dy z) (some (Ex.ret,[V.j ((↑n:Int))],[])) (some (Ex.normal,[V.sl Cd.str l,V.fn 147 [] [],V.j r,V.i .i64
 (↑l.length:Int),V.j (i64.wrap ((↑n:Int)+(1:Int)))],[]))))) (some (Ex.exit 0,[],[]))):_):=by kernel_rfl
theorem Ih {l:List (By)} {r:Int} (hs:(∀ z∈l,z.length<=4000000000)) (hx:l.length<=maxI) : ∀ (j n:Nat),n+j=l.length->∀ e d',(.br (decide (Bh  (l.drop n) n<0)) (.leaf (.exit 0,([],[]))) (.leaf (.ret,([.j (Bh  (l.drop n) n)],[]))):Br (Ex×Dt)).run=some (e,d')->
  Runs prog (Aa [(147,.rd1 SV)]) (Aa [(2,CW)]) 0 (body f186 0) CW ([.sl .str l,.fn 147 [] [],.j r,.j (↑l.length:Int),.j n],[]) e d'
 | 0,n,hn,e,d',h=>by
  have e1:l.drop n=[]:=drop_eq_nil_of_le (by omega);rw [e1,Bz,Bh,if_pos (by omega)] at h;cases h;refine .stop _ _ _ ((GS  l r n).trans ?_) (by simp);simp [show ¬n<l.length by omega]
 | j+1,n,hn,e,d',h=>by
  have h1:n<l.length:=by omega
  have hr:=GS  l r n;simp only [ntN,gtE h1,Ap (n:=n) (by omega)] at hr;rw [Ae (by simp [h1]),Ab (by simp [h1]),Ai,Ab (dcT (by have:=hs _ (getElem_mem h1); unfold maxI; omega))] at hr;rw [drop_eq_getElem_cons h1,Bz,Bh] at h
  by_cases he:(!Dy l[n])=true
  ·rw [if_pos he,if_neg (by omega)] at h;cases h;rw [Ae he] at hr;exact stp hr
  ·rw [if_neg he] at h;rw [Ac (by simpa using he)] at hr;exact sts hr (Ih  hs hx j (n+1) (by omega) e d' (by rw [Bz]; exact h))
theorem T3:As prog (Aa [(147,.rd1 SV)]) (Aa [(2,CW)]) 0 (f186.body.getD .skip):=by
 refine Am (a:=body f186 0) (by kernel_rfl) fun d e d' h=>?_
 unfold CW at h;dsimp only at h;split at h
 ·obtain ⟨hc,h'⟩:=Ad h;obtain ⟨hs,h0,h1,h2,rfl⟩:=of_decide_eq_true hc;obtain ⟨n,rfl⟩:=eq_ofNat_of_zero_le h0;exact Ih  hs h2 _ n (add_sub_of_le h1) e d' h'
 ·cases h
theorem NX  : ∀ (l:List (By)) (n:Nat),(0<=Bh  l n)=(l.any (fun z:(By)=>!Dy z)=true)
 | [],n=>by simp [Bh]
 | z::l,n=>by
  rw [Bh,any_cons,or_eq_true]
  by_cases he:(!Dy z)=true
  ·rw [if_pos he]; simp only [he,true_or]; exact eq_true (by omega)
  ·rw [if_neg he,NX  l (n+1)]; simp only [he,Bool.false_eq_true,false_or]
theorem JI  : ∀ (l:List (By)) (n:Nat),Bh  l n<0->Bh  l n = -1
 | [],n,_=>rfl
 | z::l,n,h=>by
  rw [Bh] at h ⊢
  by_cases he:(!Dy z)=true
  ·rw [if_pos he] at h; omega
  ·rw [if_neg he] at h ⊢; exact JI  l (n+1) h
theorem Rf  (l:List (By)) (hx:l.length<=maxI) (hs:(∀ z∈l,z.length<=4000000000)):Aw prog (Aa [(147,.rd1 SV)]) (Aa [(2,CW)]) f186 [.sl .str l,.fn 147 [] []] []=some (.j (Bh  l 0),[]):=by
 have e:Aw prog (Aa [(147,.rd1 SV)]) (Aa [(2,CW)]) f186 [.sl .str l,.fn 147 [] []] [] =
  ((ifT (decide ((∀ (z:Cd.str.den),z∈l->List.length z<=4000000000)/\(0:Int)<=(0:Int)/\0<=l.length/\l.length<=maxI/\(↑l.length:Int) =
 (↑l.length:Int))) (ifB (decide (Bh (drop 0 l) 0<(0:Int))) (some (V.j (-1),[])) (some (V.j (Bh (drop 0 l) (0
 : Nat)),[])))):_):=by kernel_rfl
 rw [e,Ab (dcT ⟨hs,by omega,by omega,hx,rfl⟩),drop_zero]
 by_cases q:Bh  l 0<0
 ·rw [Ae (dcT q),JI  l 0 q]
 ·rw [Ac (dcF q)]
theorem Adp:Af prog 186 (Ent.rd1 Ii).F:=by
 refine AB (kc func147 lv1 KnowsL.nil).knows (Λ:=(Aa [(2,CW)])) func186 (c:=f186.body.getD .skip) (by kernel_rfl) fun vs bs r h hv hb=>?_
 unfold Ent.F Ii at h;dsimp only at h;split at h
 ·rename_i l ;obtain ⟨hc,h'⟩:=Ad h;exact ⟨T3,(Rf  l (hv (.sl .str l) (by simp)).1 (of_decide_eq_true hc)).trans (by cases h'; rfl)⟩
 ·cases h
theorem Ri  (l:List (By)) (hs:(∀ z∈l,z.length<=4000000000)):Aw prog (Aa [(186,.rd1 Ii)]) (Aa []) f146 [.sl .str l,.fn 147 [] []] []=some (.b (l.any (fun z:(By)=>!Dy z)),[]):=by
 have e:Aw prog (Aa [(186,.rd1 Ii)]) (Aa []) f146 [.sl .str l,.fn 147 [] []] [] =
  ((ifT (decide (∀ (z:Cd.str.den),z∈l->List.length z<=4000000000)) (some (V.b (decide (Bh l 0>=(0:Int))),[]))):_):=by kernel_rfl
 rw [e];have hv:=NX  l 0;rw [Ab (dcT hs)]
 have hd:decide (Bh  l 0>=0)=l.any (fun z:(By)=>!Dy z):=by
  show decide (0<=Bh  l 0)=_
  cases hq:l.any (fun z:(By)=>!Dy z) with
  | true=>exact dcT (hv ▸ hq)
  | false=>exact dcF (fun h=>by rw [hv,hq] at h; cases h)
 rw [hd]
theorem Adq:Af prog 146 (Ent.rd1 Il).F:=by
 refine fcK (kc func186 Adp KnowsL.nil).knows (Λ:=Aa []) func146 fun vs bs r h=>?_
 unfold Ent.F Il at h;dsimp only at h;split at h
 ·rename_i l ;obtain ⟨hc,h'⟩:=Ad h;exact ⟨Ah _,(Ri  l (of_decide_eq_true hc)).trans (by cases h'; rfl)⟩
 ·cases h
theorem GR  (l:List (By)) (r:Int) (n:Nat):At prog (Aa [(160,.rd1 Sg)]) (Aa [(2,CV)]) 0 (body f186 0) CV ([.sl .str l,.fn 160 [] [],.j r,.j (↑l.length:Int),.j n],[]) =
 ((ifB (decide ((↑n:Int)<(↑l.length:Int))) (ifT (decide (0<=(↑n:Int))&&decide ((↑n:Int)<(↑l.length:Int))) (Ak l[((↑n:Int)).toNat]? fun z=>ifT (decide
 (List.length z<=maxI)) (ifB (!lev z) (some (Ex.ret,[V.j ((↑n:Int))],[])) (some (Ex.normal,[V.sl Cd.str l,V.fn 160 [] [],V.j r,V.i
 .i64 (↑l.length:Int),V.j (i64.wrap ((↑n:Int)+(1:Int)))],[]))))) (some (Ex.exit 0,[],[]))):_):=by kernel_rfl
theorem If {l:List (By)} {r:Int} (hs:(∀ z∈l,z.length<=4000000000)) (hx:l.length<=maxI) : ∀ (j n:Nat),n+j=l.length->∀ e d',(.br (decide (Bg  (l.drop n) n<0)) (.leaf (.exit 0,([],[]))) (.leaf (.ret,([.j (Bg  (l.drop n) n)],[]))):Br (Ex×Dt)).run=some (e,d')->
  Runs prog (Aa [(160,.rd1 Sg)]) (Aa [(2,CV)]) 0 (body f186 0) CV ([.sl .str l,.fn 160 [] [],.j r,.j (↑l.length:Int),.j n],[]) e d'
 | 0,n,hn,e,d',h=>by
  have e1:l.drop n=[]:=drop_eq_nil_of_le (by omega);rw [e1,Bz,Bg,if_pos (by omega)] at h;cases h;refine .stop _ _ _ ((GR  l r n).trans ?_) (by simp);simp [show ¬n<l.length by omega]
 | j+1,n,hn,e,d',h=>by
  have h1:n<l.length:=by omega
  have hr:=GR  l r n;simp only [ntN,gtE h1,Ap (n:=n) (by omega)] at hr;rw [Ae (by simp [h1]),Ab (by simp [h1]),Ai,Ab (dcT (by have:=hs _ (getElem_mem h1); unfold maxI; omega))] at hr;rw [drop_eq_getElem_cons h1,Bz,Bg] at h
  by_cases he:(!lev l[n])=true
  ·rw [if_pos he,if_neg (by omega)] at h;cases h;rw [Ae he] at hr;exact stp hr
  ·rw [if_neg he] at h;rw [Ac (by simpa using he)] at hr;exact sts hr (If  hs hx j (n+1) (by omega) e d' (by rw [Bz]; exact h))
theorem T1:As prog (Aa [(160,.rd1 Sg)]) (Aa [(2,CV)]) 0 (f186.body.getD .skip):=by
 refine Am (a:=body f186 0) (by kernel_rfl) fun d e d' h=>?_
 unfold CV at h;dsimp only at h;split at h
 ·obtain ⟨hc,h'⟩:=Ad h;obtain ⟨hs,h0,h1,h2,rfl⟩:=of_decide_eq_true hc;obtain ⟨n,rfl⟩:=eq_ofNat_of_zero_le h0;exact If  hs h2 _ n (add_sub_of_le h1) e d' h'
 ·cases h
theorem NW  : ∀ (l:List (By)) (n:Nat),(0<=Bg  l n)=(l.any (fun z:(By)=>!lev z)=true)
 | [],n=>by simp [Bg]
 | z::l,n=>by
  rw [Bg,any_cons,or_eq_true]
  by_cases he:(!lev z)=true
  ·rw [if_pos he]; simp only [he,true_or]; exact eq_true (by omega)
  ·rw [if_neg he,NW  l (n+1)]; simp only [he,Bool.false_eq_true,false_or]
theorem JH  : ∀ (l:List (By)) (n:Nat),Bg  l n<0->Bg  l n = -1
 | [],n,_=>rfl
 | z::l,n,h=>by
  rw [Bg] at h ⊢
  by_cases he:(!lev z)=true
  ·rw [if_pos he] at h; omega
  ·rw [if_neg he] at h ⊢; exact JH  l (n+1) h
theorem Re  (l:List (By)) (hx:l.length<=maxI) (hs:(∀ z∈l,z.length<=4000000000)):Aw prog (Aa [(160,.rd1 Sg)]) (Aa [(2,CV)]) f186 [.sl .str l,.fn 160 [] []] []=some (.j (Bg  l 0),[]):=by
 have e:Aw prog (Aa [(160,.rd1 Sg)]) (Aa [(2,CV)]) f186 [.sl .str l,.fn 160 [] []] [] =
  ((ifT (decide ((∀ (z:Cd.str.den),z∈l->List.length z<=4000000000)/\(0:Int)<=(0:Int)/\0<=l.length/\l.length<=maxI/\(↑l.length:Int) =
 (↑l.length:Int))) (ifB (decide (Bg (drop 0 l) 0<(0:Int))) (some (V.j (-1),[])) (some (V.j (Bg (drop 0 l) (0
 : Nat)),[])))):_):=by kernel_rfl
 rw [e,Ab (dcT ⟨hs,by omega,by omega,hx,rfl⟩),drop_zero]
 by_cases q:Bg  l 0<0
 ·rw [Ae (dcT q),JH  l 0 q]
 ·rw [Ac (dcF q)]
theorem Abz:Af prog 186 (Ent.rd1 Ig).F:=by
 refine AB (kc func160 tp1 KnowsL.nil).knows (Λ:=(Aa [(2,CV)])) func186 (c:=f186.body.getD .skip) (by kernel_rfl) fun vs bs r h hv hb=>?_
 unfold Ent.F Ig at h;dsimp only at h;split at h
 ·rename_i l ;obtain ⟨hc,h'⟩:=Ad h;exact ⟨T1,(Re  l (hv (.sl .str l) (by simp)).1 (of_decide_eq_true hc)).trans (by cases h'; rfl)⟩
 ·cases h
theorem Rh  (l:List (By)) (hs:(∀ z∈l,z.length<=4000000000)):Aw prog (Aa [(186,.rd1 Ig)]) (Aa []) f146 [.sl .str l,.fn 160 [] []] []=some (.b (l.any (fun z:(By)=>!lev z)),[]):=by
 have e:Aw prog (Aa [(186,.rd1 Ig)]) (Aa []) f146 [.sl .str l,.fn 160 [] []] [] =
  ((ifT (decide (∀ (z:Cd.str.den),z∈l->List.length z<=4000000000)) (some (V.b (decide (Bg l 0>=(0:Int))),[]))):_):=by kernel_rfl
 rw [e];have hv:=NW  l 0;rw [Ab (dcT hs)]
 have hd:decide (Bg  l 0>=0)=l.any (fun z:(By)=>!lev z):=by
  show decide (0<=Bg  l 0)=_
  cases hq:l.any (fun z:(By)=>!lev z) with
  | true=>exact dcT (hv ▸ hq)
  | false=>exact dcF (fun h=>by rw [hv,hq] at h; cases h)
 rw [hd]
theorem Ab0:Af prog 146 (Ent.rd1 Ik).F:=by
 refine fcK (kc func186 Abz KnowsL.nil).knows (Λ:=Aa []) func146 fun vs bs r h=>?_
 unfold Ent.F Ik at h;dsimp only at h;split at h
 ·rename_i l ;obtain ⟨hc,h'⟩:=Ad h;exact ⟨Ah _,(Rh  l (of_decide_eq_true hc)).trans (by cases h'; rfl)⟩
 ·cases h
def B8 (x:By):Nat->List (By)->Int
 | _,[]=>-1
 | n,z::l=>if x=z then n else B8 x (n+1) l
def DI:LoopEnt:=⟨19,[0,1,7,8],[],[4],fun
 | ([.sl .str l,.s x,.j m,.j n],[])=>
  .need (decide (0<=n/\m=l.length/\n.toNat<=l.length/\l.length<=maxI)) (.br (decide (B8 x n.toNat (l.drop n.toNat) = -1)) (.leaf (.exit 0,([],[]))) (.leaf (.ret,([.j (B8 x n.toNat (l.drop n.toNat))],[]))))
 | _=>.no⟩
def K1:Gm
 | [.sl .str l,.s x],[]=>.leaf (.j (B8 x 0 l),[])
 | _,_=>.no
def Iy:Gm
 | [.sl .str l,.s x],[]=>.leaf (.b (decide (x∈l)),[])
 | _,_=>.no
theorem JM (x:By) : ∀ (l:List (By)) (n:Nat),(B8 x n l = -1/\x ∉ l)\/((n:Int)<=B8 x n l/\x∈l)
 | [],n=>.inl ⟨rfl,by simp⟩
 | z::l,n=>by
  unfold B8
  by_cases h:x=z
  ·rw [if_pos h]; exact .inr ⟨Int.le_refl _,by simp [h]⟩
  ·rw [if_neg h];rcases JM x l (n+1) with ⟨h1,h2⟩ | ⟨h1,h2⟩
   ·exact .inl ⟨h1,by simp [h,h2]⟩
   ·exact .inr ⟨by omega,by simp [h2]⟩
theorem Ij (l:List (By)) (x:By) (m:Int) (n:Nat):At prog (Aa []) (Aa [(2,DI)]) 0 (body f187 0) DI ([.sl .str l,.s x,.j m,.j n],[]) =
 ((ifB (decide ((↑n:Int)<m)) (ifT (decide (0<=(↑n:Int))&&decide ((↑n:Int)<(↑l.length:Int))) (Ak l[((↑n:Int)).toNat]? fun z=>ifB (x==z) (some (Ex.ret,
 [V.j ((↑n:Int))],[])) (some (Ex.normal,[V.sl Cd.str l,V.s x,V.j m,V.j (i64.wrap ((↑n:Int)+(1:Int)))],[])))) (some (Ex.exit 0,[],
 []))):_):=by kernel_rfl
theorem JJ {l:List (By)} {x:By} (hm:l.length<=maxI) : ∀ (k n:Nat),n+k=l.length->
  Runs prog (Aa []) (Aa [(2,DI)]) 0 (body f187 0) DI ([.sl .str l,.s x,.j (↑l.length:Int),.j n],[]) (if B8 x n (l.drop n) = -1 then .exit 0 else .ret) (if B8 x n (l.drop n) = -1 then [] else [.j (B8 x n (l.drop n))],[])
 | 0,n,hn=>by
  have e1:l.drop n=[]:=drop_eq_nil_of_le (by omega);have hr:=Ij l x l.length n;rw [Ac (dcF (show ¬(n:Int)<(l.length:Int) by omega))] at hr;rw [e1];exact .stop _ _ _ hr (by simp [B8])
 | k+1,n,hn=>by
  have h1:n<l.length:=by omega
  have hr:=Ij l x l.length n;rw [Ae (dcT (show (n:Int)<(l.length:Int) by omega)),T2 (by omega)] at hr;simp only [ntN,gtE h1,Ai,Ap (n:=n) (by omega)] at hr;rw [drop_eq_getElem_cons h1];unfold B8
  by_cases he:x=l[n]
  ·rw [Ae (by simpa using he)] at hr;rw [if_pos he,if_neg (by omega),if_neg (by omega)];exact stp hr
  ·rw [Ac (by simpa using he)] at hr;rw [if_neg he];exact sts hr (JJ hm k (n+1) (by omega))
theorem WG:As prog (Aa []) (Aa [(2,DI)]) 0 (f187.body.getD .skip):=by
 refine Am (a:=body f187 0) (by kernel_rfl) fun d e d' h=>?_
 unfold DI at h;dsimp only at h;split at h
 ·rename_i l x m n;obtain ⟨hc,hx⟩:=Ad h;clear h;obtain ⟨h0,h1,h2,h3⟩:=of_decide_eq_true hc;obtain ⟨n,rfl⟩:=eq_ofNat_of_zero_le h0;subst h1;rw [ntN] at h2 hx;have:=JJ (x:=x) h3 _ n (add_sub_of_le h2);rcases Afg hx with ⟨h4,h⟩ | ⟨h4,h⟩
  ·have h4:=of_decide_eq_true h4;rw [if_pos h4,if_pos h4] at this; cases h; exact this
  ·have h4:=of_decide_eq_false h4;rw [if_neg h4,if_neg h4] at this; cases h; exact this
 ·cases h
theorem T4 (l:List (By)) (x:By) (hm:l.length<=maxI):Aw prog (Aa []) (Aa [(2,DI)]) f187 [.sl .str l,.s x] []=some (.j (B8 x 0 l),[]):=by
 have e:Aw prog (Aa []) (Aa [(2,DI)]) f187 [.sl .str l,.s x] [] =
  ((ifT (decide ((0:Int)<=(0:Int)/\(↑l.length:Int)=(↑l.length:Int)/\0<=l.length/\l.length<=maxI)) (ifB (decide (B8 x 0 (drop (0 :
 Nat) l)=(-1:Int))) (some (V.j (-1),[])) (some (V.j (B8 x 0 (drop 0 l)),[])))):_):=by kernel_rfl
 rw [e];clear e;rw [Ab (dcT ⟨by omega,rfl,zero_le _,hm⟩)];simp only [drop_zero]
 by_cases h:B8 x 0 l = -1
 ·rw [Ae (dcT h),h]
 ·rw [Ac (dcF h)]
theorem Aip:Af prog 187 (Ent.rd1 K1).F:=by
 refine AB KnowsL.nil.knows (Λ:=(Aa [(2,DI)])) func187 (c:=f187.body.getD .skip) (by kernel_rfl) fun vs bs r h hv hb=>?_
 unfold Ent.F K1 at h;dsimp only at h;split at h
 ·rename_i l x;exact ⟨WG,(T4 l x (hv (.sl .str l) (by simp)).1).trans (by cases h; rfl)⟩
 ·cases h
theorem R9 (l:List (By)) (x:By):Aw prog (Aa [(187,.rd1 K1)]) (Aa []) f149 [.sl .str l,.s x] []=some (.b (decide (x∈l)),[]):=by
 have e:Aw prog (Aa [(187,.rd1 K1)]) (Aa []) f149 [.sl .str l,.s x] [] =
  ((some (V.b (decide (B8 x 0 l>=(0:Int))),[])):_):=by kernel_rfl
 rw [e];rcases JM x l 0 with ⟨h1,h2⟩ | ⟨h1,h2⟩
 ·rw [dcF h2,dcF (by omega)]
 ·rw [dcT h2,dcT (by omega)]
theorem Ae9:Af prog 149 (Ent.rd1 Iy).F:=by
 refine fcK (kc func187 Aip KnowsL.nil).knows (Λ:=Aa []) func149 fun vs bs r h=>?_
 unfold Ent.F Iy at h;dsimp only at h;split at h
 ·rename_i l x;exact ⟨Ah _,(R9 l x).trans h⟩
 ·cases h
def Eo:Gm
 | [.s s],[]=>.need (decide (s.length<=4000000000)) (.br (lvB (cut 47 s)) (.leaf (.ref 0 0 (cut 47 s).length,[R0 .str (cut 47 s)])) (.leaf (.ref 0 0 0,[some (.row false (some true) .str [])])))
 | _,_=>.no
def NY:Gm
 | [.s s],[]=>.need (decide (s.length<=4000000000)) (.leaf (.b (tpB (cut 47 s)),[]))
 | _,_=>.no
def Ob:Gm
 | [.s s],[]=>.need (decide (s.length<=4000000000)) (.leaf (.b (lvB (cut 47 s)),[]))
 | _,_=>.no
theorem O6 (c:UInt8) : ∀ (s:By),∀ z∈cut c s,z.length<=s.length
 | [],z,h=>by simp [cut] at h; simp [h]
 | b::l,z,h=>by
  have ih:=O6 c l;rw [cut] at h;split at h
  ·rcases mem_cons.1 h with rfl | h
   ·simp
   ·have:=ih z h; simp; omega
  ·split at h
   ·cases h
   ·rename_i x t hh;rw [hh] at ih;rcases mem_cons.1 h with rfl | h
    ·have:=ih x (by simp); simp; omega
    ·have:=ih z (by simp [h]); simp; omega
theorem EJ {s:By} (hc:s.length<=4000000000):(∀ z∈cut 47 s,z.length<=4000000000)/\0<(cut 47 s).length/\(cut 47 s).length<=4000000001:=by
 have h1:=PD 47 s;have h2:=List.count_le_length (a:=47) (l:=s);exact ⟨fun z hz=>Nat.le_trans (O6 47 s z hz) hc,by omega,by omega⟩
theorem SW (s:By) (hc:s.length<=4000000000):Aw prog (Aa [(145,.rd1 OM),(146,.rd1 Il),(149,.rd1 Iy)]) (Aa []) f108 [.s s] []=(.br (lvB (cut 47 s)) (.leaf (.ref 0 0 (cut 47 s).length,[R0 .str (cut 47 s)])) (.leaf (.ref 0 0 0,[some (.row false (some true) .str [])])):Br (V×List (Option Blk))).run:=by
 have e:Aw prog (Aa [(145,.rd1 OM),(146,.rd1 Il),(149,.rd1 Iy)]) (Aa []) f108 [.s s] []=((ifT (decide (s.length<=4000000000)) (ifB (decide ((↑(cut (47:UInt8) s).length:Int)>(6:Int))) (some (V.ref 0 0 0,[some (Blk.row false (some true) Cd.str
 (Ag Cd.str.den))])) (ifT (decide (∀ (z:Cd.str.den),z∈take (cut (47:UInt8) s).length (drop 0 (cut (47:UInt8) s))->List.length z<=(4000000000
 : Nat))) (ifB ((take (cut (47:UInt8) s).length (drop 0 (cut (47:UInt8) s))).any fun z=>!Dy z) (some (V.ref 0 0 0,[some (Blk.row false (some
 true) Cd.str (Ag Cd.str.den))])) (ifT (decide (0<=i64.wrap ((↑(cut (47:UInt8) s).length:Int)-(1:Int)))&&decide (i64.wrap ((↑(cut (47:UInt8)
 s).length:Int)-(1:Int))<=(↑((cut (47:UInt8) s).length-0):Int))) (ifB (decide ([(35:UInt8)]∈take ((i64.wrap ((↑(cut (47:UInt8)
 s).length:Int)-(1:Int))).toNat-0) (drop 0 (cut (47:UInt8) s)))) (some (V.ref 0 0 0,[some (Blk.row false (some true) Cd.str (Ag
 Cd.str.den))])) (some (V.ref 0 0 (cut (47:UInt8) s).length,[R0 Cd.str (cut (47:UInt8) s)])))))))):_):=by kernel_rfl
 rw [e];clear e;obtain ⟨hz,hpos,hle⟩:=EJ hc;rw [Ab (dcT hc)];simp only [drop_zero,take_length,sub_zero,AX];generalize cut 47 s=l at *;have w:i64.wrap ((l.length:Int)-1)=((l.length-1:Nat):Int):=by rw [Av (by omega) (by omega)]; omega
 have hzz:decide (∀ z:Cd.str.den,z∈l->List.length z<=4000000000)=true:=dcT hz;simp only [w,hzz,CP,ntN];rw [T2 (by omega)];unfold lvB
 by_cases q1:l.length<=6
 ·rw [Ac (dcF (by omega)),dcT q1];cases (l.any fun z=>!Dy z)<;>cases decide ([35]∈l.take (l.length-1))<;>rfl
 ·rw [Ae (dcT (by omega)),dcF q1];rfl
theorem Pr:Af prog 108 (Ent.rd1 Eo).F:=by
 refine fcK (kc func145 Ago (kc func146 Adq (kc func149 Ae9 KnowsL.nil))).knows (Λ:=Aa []) func108 fun vs bs r hq=>?_
 unfold Ent.F Eo at hq;dsimp only at hq;split at hq
 ·rename_i s;obtain ⟨hc,hq⟩:=Ad hq;exact ⟨Ah _,(SW s (of_decide_eq_true hc)).trans hq⟩
 ·cases hq
theorem WD (s:By) (hc:s.length<=4000000000):Aw prog (Aa [(108,.rd1 Eo)]) (Aa []) f126 [.s s] []=(.leaf (.b (lvB (cut 47 s)),[]):Br (V×List (Option Blk))).run:=by
 have e:Aw prog (Aa [(108,.rd1 Eo)]) (Aa []) f126 [.s s] []=((ifT (decide (s.length<=4000000000)) (ifB (lvB (cut (47:UInt8) s)) (ifB (decide (0<(cut (47:UInt8) s).length)) (some (V.b true,[])) (some (V.ub,
 []))) nF)):_):=by kernel_rfl
 rw [e];clear e;obtain ⟨hz,hpos,hle⟩:=EJ hc;rw [Ab (dcT hc),dcT hpos,AR];cases lvB (cut 47 s)<;>rfl
theorem Aky:Af prog 126 (Ent.rd1 Ob).F:=by
 refine fcK (kc func108 Pr KnowsL.nil).knows (Λ:=Aa []) func126 fun vs bs r hq=>?_
 unfold Ent.F Ob at hq;dsimp only at hq;split at hq
 ·rename_i s;obtain ⟨hc,hq⟩:=Ad hq;exact ⟨Ah _,(WD s (of_decide_eq_true hc)).trans hq⟩
 ·cases hq
theorem WC (s:By) (hc:s.length<=4000000000):Aw prog (Aa [(108,.rd1 Eo),(146,.rd1 Ik)]) (Aa []) f123 [.s s] []=(.leaf (.b (tpB (cut 47 s)),[]):Br (V×List (Option Blk))).run:=by
 have e:Aw prog (Aa [(108,.rd1 Eo),(146,.rd1 Ik)]) (Aa []) f123 [.s s] []=((ifT (decide (s.length<=4000000000)) (ifB (lvB (cut (47:UInt8) s)) (ifB (decide (0<(cut (47:UInt8) s).length)) (ifT (decide (∀ (z:Cd.str.den),z∈
 take (cut (47:UInt8) s).length (drop 0 (cut (47:UInt8) s))->List.length z<=4000000000)) (some (V.b !(take (cut (47:UInt8) s).length
 (drop 0 (cut (47:UInt8) s))).any fun z=>!lev z,[]))) none) nF)):_):=by kernel_rfl
 rw [e];clear e;obtain ⟨hz,hpos,hle⟩:=EJ hc;rw [Ab (dcT hc),dcT hpos,AR];simp only [drop_zero,take_length];rw [Ab (dcT hz)];unfold tpB;cases lvB (cut 47 s)<;>rfl
theorem Akw:Af prog 123 (Ent.rd1 NY).F:=by
 refine fcK (kc func108 Pr (kc func146 Ab0 KnowsL.nil)).knows (Λ:=Aa []) func123 fun vs bs r hq=>?_
 unfold Ent.F NY at hq;dsimp only at hq;split at hq
 ·rename_i s;obtain ⟨hc,hq⟩:=Ad hq;exact ⟨Ah _,(WC s (of_decide_eq_true hc)).trans hq⟩
 ·cases hq
def D3 (c:UInt8) (s:By):By->Nat->Nat->List (By)->List (By)×Nat
 | [],_,fr,r=>(r,fr)
 | b::l,i,fr,r=>if b=c then D3 c s l (i+1) (i+1) (r++[(s.drop fr).take (i-fr)]) else D3 c s l (i+1) fr r
def WK (x:By):List (By)->List (By)
 | []=>[]
 | h::t=>(x++h)::t
def UA:Gm
 | [.s s,.i .u8 b],[]=>.need (decide (b=47/\s.length<=4000000000)) (.leaf (.ref 0 0 (cut 47 s).length,[R0 .str (cut 47 s)]))
 | _,_=>.no
def Pq:LoopEnt:=⟨34,[0,1,5,6,7],[0,5,6],[],fun
 | ([.s s,.i .u8 b,.ref 0 0 k,.j fr,.j i],[R0 .str r])=>.need (decide (b=47/\k=r.length/\(0<=fr/\fr<=i)/\i.toNat<=s.length/\s.length<=4000000000/\(r.length:Int)<=i)) (.leaf (.exit 0,([.s s,.ref 0 0 (D3 47 s (s.drop i.toNat) i.toNat fr.toNat r).1.length,.j ((D3 47 s (s.drop i.toNat) i.toNat fr.toNat r).2:Int)],[R0 .str (D3 47 s (s.drop i.toNat) i.toNat fr.toNat r).1])))
 | _=>.no⟩
theorem Hy (c:UInt8) (s:By) : ∀ (l:By) (i fr:Nat) (r:List (By)),s.drop i=l->fr<=i->i<=s.length->(D3 c s l i fr r).1++[s.drop (D3 c s l i fr r).2]=r++WK ((s.drop fr).take (i-fr)) (cut c l)/\(D3 c s l i fr r).2<=s.length
 | [],i,fr,r,h,h1,h2=>by
  have hi:i=s.length:=by have:=congrArg List.length h; simp at this; omega
  simp only [D3,cut,WK,append_nil];rw [List.take_of_length_le (by rw [List.length_drop]; omega)];exact ⟨rfl,by omega⟩
 | b::l,i,fr,r,h,h1,h2=>by
  have hlt:i<s.length:=by have:=congrArg List.length h; simp at this; omega
  have hd:s.drop (i+1)=l:=by rw [<-List.drop_drop,h]; rfl
  have hb:s[i]=b:=by have:=drop_eq_getElem_cons hlt; rw [h] at this; exact (List.cons.inj this).1.symm
  rw [D3,cut]
  by_cases hc:b=c
  ·rw [if_pos hc,if_pos hc];obtain ⟨e1,e2⟩:=Hy c s l (i+1) (i+1) (r++[(s.drop fr).take (i-fr)]) hd (Nat.le_refl _) (by omega);refine ⟨?_,e2⟩;rw [e1,Nat.sub_self,List.take_zero];have hg:WK [] (cut c l)=cut c l:=by cases cut c l<;>rfl
   rw [hg];simp [WK]
  ·rw [if_neg hc,if_neg hc];obtain ⟨e1,e2⟩:=Hy c s l (i+1) fr r hd (by omega) (by omega);refine ⟨?_,e2⟩;rw [e1];congr 1;have hne:=TT c l
   have ht:(s.drop fr).take (i+1-fr)=(s.drop fr).take (i-fr)++[b]:=by
    have hk:i-fr<(s.drop fr).length:=by rw [List.length_drop]; omega
    rw [show i+1-fr=(i-fr)+1 by omega,List.take_succ_eq_append_getElem hk,List.getElem_drop];congr 2;rw [<-hb];congr 1; omega
   rw [ht]
   cases hl:cut c l with
   | nil=>exact absurd hl hne
   | cons x t=>simp [WK]
theorem NG (s:By) (b:Int) (k:Nat) (fr i:Int) (r:List (By)):At prog (Aa []) (Aa [(4,Pq)]) 0 (body f136 0) Pq ([.s s,.i .u8 b,.ref 0 0 k,.j fr,.j i],[R0 .str r]) =
 ((ifB (decide (i<(↑s.length:Int))) (ifT (decide (0<=i)) (Ak s[i.toNat]? fun z=>ifB ((↑z.toNat:Int)==b) (ifT (decide (0<=fr)&&decide (fr<=i)&&decide (i<=
 (↑s.length:Int))) (ifT (decide ((k+1)*16<=140737488355328)&&decide (k+1<=maxI)) (some (Ex.normal,[V.s s,V.i .u8 b,V.ref 0 0
 (k+1),V.j (i64.wrap (i+1)),V.j (i64.wrap (i+1))],[R0 Cd.str (take k (drop 0 r)++
 take (i.toNat-fr.toNat) (drop fr.toNat s)::Ag Cd.str.den)])))) (some (Ex.normal,[V.s s,V.i .u8 b,V.ref 0 0 k,V.j fr,V.j (i64.wrap
 (i+1))],[R0 Cd.str r])))) (some (Ex.exit 0,[V.s s,V.ref 0 0 k,V.j fr],[R0 Cd.str r]))):_):=by kernel_rfl
theorem LB (s:By) (hs:s.length<=4000000000) : ∀ (j i fr:Nat) (r:List (By)),i+j=s.length->fr<=i->r.length<=i->
  Runs prog (Aa []) (Aa [(4,Pq)]) 0 (body f136 0) Pq ([.s s,.i .u8 47,.ref 0 0 r.length,.j (fr:Int),.j (i:Int)],[R0 .str r]) (.exit 0) ([.s s,.ref 0 0 (D3 47 s (s.drop i) i fr r).1.length,.j ((D3 47 s (s.drop i) i fr r).2:Int)],[R0 .str (D3 47 s (s.drop i) i fr r).1])
 | 0,i,fr,r,hi,h1,h2=>by
  have hr:=NG s 47 r.length fr i r;rw [Ac (dcF (by omega))] at hr;rw [drop_eq_nil_of_le (by omega),D3];exact stp hr
 | j+1,i,fr,r,hi,h1,h2=>by
  have hM:=mxI;have hil:i<s.length:=by omega
  have hr:=NG s 47 r.length fr i r;rw [Ae (dcT (by omega)),Ab (by simp only [dcE]; omega)] at hr;simp only [ntN,gtE hil,Ai,Ap (n:=i) (by omega),drop_zero,take_length,AX,zero_add] at hr;rw [drop_eq_getElem_cons hil,D3]
  by_cases hc:s[i]=47
  ·rw [if_pos hc];rw [Ae (by rw [hc]; rfl),Ab (by simp only [anE,dcE]; omega),Ab (by simp only [anE,dcE]; omega)] at hr;have ih:=LB s hs j (i+1) (i+1) (r++[(s.drop fr).take (i-fr)]) (by omega) (Nat.le_refl _) (by simp; omega);exact sts (hr.trans (by simp)) ih
  ·rw [if_neg hc];have hb47 : ¬(s[i].toNat=47):=fun h=>hc (UInt8.toNat_inj.1 (by rw [h]; rfl))
   rw [Ac (beq_false_of_ne (by omega))] at hr;exact sts hr (LB s hs j (i+1) fr r (by omega) (by omega) (by omega))
theorem Ahu:As prog (Aa []) (Aa [(4,Pq)]) 0 (f136.body.getD .skip):=by
 refine Am (a:=body f136 0) (by kernel_rfl) fun x e y h=>?_
 unfold Pq at h;dsimp only at h;split at h
 ·rename_i s b k fr i r;obtain ⟨hc,hx⟩:=Ad h;clear h;obtain ⟨rfl,rfl,⟨h0,h1⟩,h2,h3,h4⟩:=of_decide_eq_true hc;obtain ⟨fr,rfl⟩:=eq_ofNat_of_zero_le h0;obtain ⟨i,rfl⟩:=eq_ofNat_of_zero_le (by omega:0<=i);rw [ntN] at h2 hx;rw [ntN] at hx;obtain ⟨rfl,rfl⟩:=lfP hx;exact LB s h3 (s.length-i) i fr r (by omega) (by omega) (by omega)
 ·cases h
theorem Zy (s:By) (b:Int) (hc:b=47/\s.length<=4000000000):CS prog (Aa []) (Aa [(4,Pq)]) f136 [.s s,.i .u8 b] []=some (.ref 0 0 (cut 47 s).length,[R0 .str (cut 47 s)]):=by
 have e:CS prog (Aa []) (Aa [(4,Pq)]) f136 [.s s,.i .u8 b] []=((ifT (decide (b=47/\0=0/\((0:Int)<=(0:Int)/\(0:Int)<=(0:Int))/\0<=s.length/\s.length<=4000000000/\(↑(0:Nat):Int)<=
 (0:Int))) (ifT (decide (0<=(↑(D3 (47:UInt8) s (drop 0 s) 0 0 (Ag Cd.str.den)).2:Int))&&decide ((↑(D3 (47:UInt8) s
 (drop 0 s) 0 0 (Ag Cd.str.den)).2:Int)<=(↑s.length:Int))) (ifT (decide (((D3 (47:UInt8) s (drop 0 s) 0 (0 :
 Nat) (Ag Cd.str.den)).1.length+1)*16<=140737488355328)&&decide ((D3 (47:UInt8) s (drop 0 s) 0 0 (Ag
 Cd.str.den)).1.length+1<=maxI)) (some (V.ref 0 0 ((D3 (47:UInt8) s (drop 0 s) 0 0 (Ag Cd.str.den)).1.length+(1 :
 Nat)),[R0 Cd.str (take (D3 (47:UInt8) s (drop 0 s) 0 0 (Ag Cd.str.den)).1.length (drop 0
 (D3 (47:UInt8) s (drop 0 s) 0 0 (Ag Cd.str.den)).1)++take (s.length-(↑(D3 (47:UInt8) s (drop 0 s) 0
 0 (Ag Cd.str.den)).2:Int).toNat) (drop (↑(D3 (47:UInt8) s (drop 0 s) 0 0 (Ag Cd.str.den)).2:Int).toNat s)::
 Ag Cd.str.den)]))))):_):=by kernel_rfl
 rw [e];clear e;obtain ⟨rfl,hs⟩:=hc;have hM:=mxI;rw [Ab (dcT ⟨by trivial,by rfl,⟨by omega,by omega⟩,by omega,hs,by simp⟩)];obtain ⟨e1,e2⟩:=Hy 47 s s 0 0 [] rfl (Nat.le_refl _) (zero_le _);have hg:WK ((s.drop 0).take (0-0)) (cut 47 s)=cut 47 s:=by cases cut 47 s<;>rfl
 rw [hg,nil_append] at e1;have e4:=PD 47 s;have e5:=List.count_le_length (a:=47) (l:=s);simp only [drop_zero,Int.toNat_zero,AX,ntN,take_length,zero_add,sub_zero] at *;generalize D3 47 s s 0 0 []=y at *;have e3:y.1.length+1=(cut 47 s).length:=by rw [<-e1]; simp
 have e6:take (s.length-y.2) (drop y.2 s)=drop y.2 s:=List.take_of_length_le (by simp);rw [T2 (by omega),T2 (by omega)];simp only [e6,e1,e3]
theorem Aht:Af prog 136 (Ent.rd1 UA).F:=by
 refine fcN KnowsL.nil.knows (Λ:=Aa [(4,Pq)]) func136 fun vs bs r hq=>?_
 unfold Ent.F UA at hq;dsimp only at hq;split at hq
 ·rename_i s b;obtain ⟨hc,hq⟩:=Ad hq;exact ⟨Ahu,(Zy s b (of_decide_eq_true hc)).trans hq⟩
 ·cases hq
end Go.Proofs.YtdocpdfkeohkiaaGreatDoor.Den
