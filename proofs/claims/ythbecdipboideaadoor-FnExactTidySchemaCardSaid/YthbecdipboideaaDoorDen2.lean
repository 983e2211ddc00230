/- The abstract machine: operations and calls are sound. -/
import Derived.Test.YthbecdipboideaaDoorDen1
import Derived.IntWalk
/- Stores, literals, makes. -/
open List (all_eq_true eq_nil_of_length_eq_zero flatMap_cons getElem?_eq_getElem getElem?_map getElem?_toArray getElem_mem getElem_of_mem length_drop length_replicate length_take mem_append mem_of_getElem? replicate size_toArray)
open Nat (add_assoc add_mul add_zero beq eq_of_beq_eq_true le_refl le_trans mod_eq_of_lt mul_add_mod mul_le_mul_right one_mul zero_add)
open Option (map_eq_some_iff)
open Bool (and_eq_true)
namespace Go.Proofs.YthbecdipboideaaDoor.Den

section
variable {P:Program} {E:Env} {R:Nat->Prop} {μ:Nat->Option RB} {sl:List V} {bl blr:Nat->Option Blk} {fr:Nat->Prop} {a:Act} {w:World}

theorem Gq {c:Cd} : ∀ (n:Nat) (vs:List V) (l:List c.den) (us:List Value),Reps w R μ vs us->Hk c n vs=some l->l.length=n/\us.length=n*c.size/\RAt w R μ (fun m=>us[m]?) c l
 | 0,[],l,us,hr,h=>by simp [Hk] at h; subst h; have:=hr.nil_inv; subst this; exact ⟨rfl,by simp,RAt.nil _ _⟩
 | 0,v::vs,l,us,hr,h=>by simp [Hk] at h
 | n+1,vs,l,us,hr,h=>by
  unfold Hk at h
  split at h
  ·rename_i z r h1
   split at h
   ·rename_i zs h2
    simp at h; subst h
    obtain ⟨us1,us2,rfl,g1,g2,g3⟩:=Ia c vs z r us hr h1
    obtain ⟨e1,e2,e3⟩:=Gq n r zs us2 g3 h2
    refine ⟨by simp [e1],by simp [g1,e2,add_mul]; omega,fun i z' j v hz hv=>?_⟩
    have hj:j<c.size:=by have:=(List.getElem?_eq_some_iff.1 hv).1; rwa [A8] at this
    cases i with
    | zero=>
     simp at hz; subst hz
     have hju:j<us1.length:=by omega
     refine ⟨us1[j],by simp [List.getElem?_append_left hju,hju],g2.2 j v _ hv (by simp [hju])⟩
    | succ i=>
     simp at hz
     obtain ⟨u,h3,h4⟩:=e3 i z' j v hz hv
     refine ⟨u,?_,h4⟩
     dsimp only at h3 ⊢
     rw [List.getElem?_append_right (by rw [g1,add_mul]; omega),g1,show (i+1)*c.size+j-c.size=i*c.size+j by rw [add_mul]; omega]
     exact h3
   ·cases h
  ·cases h

theorem HY (off:Nat) : ∀ (us:List Value) (i:Nat) (cells:Array Value),((us.zipIdx i).foldl (fun cs (x:Value×Nat)=>cs.setIfInBounds (off+x.2) x.1) cells).toList=Ai cells.toList (off+i) us
 | [],i,cells=>rfl
 | u::us,i,cells=>by
  simp only [List.zipIdx_cons,List.foldl_cons,Ai]
  rw [HY off us (i+1)]
  simp [add_assoc]
theorem Db {place:Nat->Option (Nat×Nat)} : ∀ (ps:List (Nat×V)) (qs:List (Nat×Value)) (cells cs:List V) (ucells:Array Value),ps.map (·.1)=qs.map (·.1)->Reps w R μ (ps.map (·.2)) (qs.map (·.2))->Reps w R μ cells ucells.toList->F3 place cells ps=some cs->
  ∃ us,Instr.fill place ucells qs=some us/\Reps w R μ cs us.toList
 | [],qs,cells,cs,ucells,h1,h2,h3,h=>by
  cases qs with
  | nil=>simp [F3] at h; subst h; exact ⟨ucells,rfl,h3⟩
  | cons q qs=>simp at h1
 | (j,v)::ps,qs,cells,cs,ucells,h1,h2,h3,h=>by
  cases qs with
  | nil=>simp at h1
  | cons q qs=>
   obtain ⟨j',u⟩:=q
   simp at h1
   obtain ⟨rfl,h1⟩:=h1
   unfold F3 at h
   split at h
   ·cases h
   ·rename_i off size hp
    split at h
    ·rename_i hb
     simp only [and_eq_true] at hb
     obtain ⟨hk,hb⟩:=hb
     have e1:=eq_of_beq_eq_true hb.1
     have e2:=Nat.le_of_ble_eq_true hb.2
     have hv:VRep w R μ v u:=h2.2 0 v u (by simp) (by simp)
     have hvc:=hv.cells (by intro e; subst e; cases hk)
     have e3:u.cells.size=v.cells.length:=by have:=hvc.1; simpa using this
     have e4:ucells.size=cells.length:=by have:=h3.1; simpa using this
     have hset:=h3.set hvc (o:=off) e2
     have e5:((u.cells.zipIdx.foldl (fun cs (x:Value×Nat)=>cs.setIfInBounds (off+x.2) x.1) ucells)).toList=Ai ucells.toList off u.cells.toList:=by
      rw [<-Array.foldl_toList]
      have:=HY off u.cells.toList 0 ucells
      simpa using this
     have ih:=Db ps qs (Ai cells off v.cells) cs (u.cells.zipIdx.foldl (fun cs (x:Value×Nat)=>cs.setIfInBounds (off+x.2) x.1) ucells) h1
      ⟨by have:=h2.1; simpa using this,fun j v u h5 h6=>h2.2 (j+1) v u (by simpa using h5) (by simpa using h6)⟩ (by rw [e5]; exact hset) h
     obtain ⟨us,h7,h8⟩:=ih
     refine ⟨us,?_,h8⟩
     unfold Instr.fill
     rw [hp]
     dsimp only
     rw [if_neg (by simp [e3,e4,e1]; omega)]
     exact h7
    ·cases h
end
end Go.Proofs.YthbecdipboideaaDoor.Den
/- Stores, literals, makes, appends. -/
namespace Go.Proofs.YthbecdipboideaaDoor.Den

section
variable {P:Program} {E:Env} {R:Nat->Prop} {μ:Nat->Option RB} {sl:List V} {bl blr:Nat->Option Blk} {fr:Nat->Prop} {a:Act} {w:World}

theorem EX (ids:List Nat) : ∀ p∈AP blr ids,p.1∈ids:=by
 intro p hp
 simp only [AP,List.mem_filterMap] at hp
 obtain ⟨id,h1,h2⟩:=hp
 split at h2
 ·simp at h2; subst h2; exact h1
 ·simp at h2; subst h2; exact h1
 ·simp at h2; subst h2; exact h1
 ·cases h2
theorem Et : ∀ (d:Nat) (v v':V) (ids:List Nat),Cx blr d v=some (v',ids)->∀ id∈ids,∃ B,blr id=some B/\(∀ kc vc l,B≠.mp kc vc l)/\∀ c l op,B≠.drow c l op
 | 0,v,v',ids,h=>by simp [Cx] at h
 | d+1,v,v',ids,h=>by
  have : ∀ (vs vs':List V) (ids:List Nat),C7 (Cx blr d) vs=some (vs',ids)->∀ id∈ids,∃ B,blr id=some B/\(∀ kc vc l,B≠.mp kc vc l)/\∀ c l op,B≠.drow c l op:=by
   intro vs
   induction vs with
   | nil=>intro vs' ids h; simp [C7] at h; obtain ⟨_,rfl⟩:=h; simp
   | cons v vs ih=>
    intro vs' ids h
    unfold C7 at h
    split at h
    ·rename_i v1 a1 hv1
     split at h
     ·rename_i vs1 b1 hvs1
      simp at h; obtain ⟨_,rfl⟩:=h
      intro id hi
      rcases mem_append.1 hi with hi | hi
      ·exact Et d v v1 a1 hv1 id hi
      ·exact ih vs1 b1 hvs1 id hi
     ·cases h
    ·cases h
  unfold Cx at h
  split at h
  ·split at h
   ·rename_i ro nl c l hb
    simp at h; obtain ⟨_,rfl⟩:=h
    intro id' hi; simp at hi; subst hi
    exact ⟨_,hb,by simp,by simp⟩
   ·cases h
  ·split at h
   ·rename_i cs l ids' hl
    simp at h; obtain ⟨_,rfl⟩:=h
    exact this _ _ _ hl
   ·cases h
  ·split at h
   ·rename_i cs hb
    split at h
    ·rename_i l ids' hl
     split at h
     ·simp at h; obtain ⟨_,rfl⟩:=h
      intro id' hi
      rcases List.mem_cons.1 hi with rfl | hi
      ·exact ⟨_,hb,by simp,by simp⟩
      ·exact this _ _ _ hl id' hi
     ·simp at h; obtain ⟨_,rfl⟩:=h; simp
    ·simp at h; obtain ⟨_,rfl⟩:=h; simp
   ·simp at h; obtain ⟨_,rfl⟩:=h; simp
  ·simp at h; obtain ⟨_,rfl⟩:=h; simp
theorem Fr {d:Nat} : ∀ (vs vs':List V) (ids:List Nat),C7 (Cx blr d) vs=some (vs',ids)->∀ id∈ids,∃ B,blr id=some B/\(∀ kc vc l,B≠.mp kc vc l)/\∀ c l op,B≠.drow c l op:=by
 intro vs
 induction vs with
 | nil=>intro vs' ids h; simp [C7] at h; obtain ⟨_,rfl⟩:=h; simp
 | cons v vs ih=>
  intro vs' ids h
  unfold C7 at h
  split at h
  ·rename_i v1 a1 hv1
   split at h
   ·rename_i vs1 b1 hvs1
    simp at h; obtain ⟨_,rfl⟩:=h
    intro id hi
    rcases mem_append.1 hi with hi | hi
    ·exact Et d v v1 a1 hv1 id hi
    ·exact ih vs1 b1 hvs1 id hi
   ·cases h
  ·cases h

theorem Dv {cs cs':List V} {ids:List Nat} {us:List Value} (h:SimAt E R μ sl bl fr a w) (hs : ∀ id B,blr id=some B->bl id=some B) (hr:Reps w R μ cs us) (hc:FY blr cs=some (cs',ids)) :
  ∃ R',SimAt E R' μ sl (Av bl (AP blr ids)) fr a w/\(∀ x,R x->R' x)/\Reps w R' μ cs' us:=by
 obtain ⟨R',h1,h2,h3⟩:=CK blr ids R bl h (fun id ro nl c l _ hb=>⟨ro,hs _ _ hb⟩) (fun id cs _ hb=>.inl (hs _ _ hb)) (fun id c l op hi hb=>by
  obtain ⟨B,k1,_,k3⟩:=Fr cs cs' ids hc id hi
  rw [k1] at hb; cases hb; exact absurd rfl (k3 c l op))
 have hrow:=Fr cs cs' ids hc
 refine ⟨R',h1,h2,Cb (fun v v' ids u hv hf hi=>CN (h.mem.sub hs) h2 3 v v' ids u hv hf hi) cs cs' ids us hr hc (fun id hi=>h3 id hi (fun kc vc l e=>by
  obtain ⟨B,k1,k2,_⟩:=hrow id hi
  rw [k1] at e; cases e; exact absurd rfl (k2 kc vc l)))⟩

theorem Ht {t:TypeId} {id i o:Nat} {nl:Option Bool} {c:Cd} {l:List c.den} {z z':c.den} {cs:List V} {ua u:Value} (h:SimAt E R μ sl bl fr a w) (hb:bl id=some (.row false nl c l)) (ha:VRep w R μ (.el id i o) ua) (hz:l[i]? = some z)
  (hr:Reps w R μ cs u.cells.toList) (hsz:Dd P t cs.length=true) (ho:o+cs.length<=c.size) (hd:Ec c (Ai (enc c z) o cs)=some z') (h1 : ∀ u'∈u.cells.toList,u'.oneCell'=true) :
  ∃ w',(Instr.storeAt t ua u).run P w = .ok () w'/\SimAt E R μ sl (Au bl id (some (.row false nl c (l.set i z')))) fr a w':=by
 obtain ⟨rb,hmu,hrep⟩:=h.mem.blk id _ hb
 cases ha with
 | el _ _ _ b off k cap len hm=>
 rw [hm] at hmu; simp at hmu; subst hmu
 cases hrep with
 | row _ _ _ _ _ _ _ _ _ us e hk hh g1 g2 g3 g4 g5=>
 subst hk
 obtain ⟨it,hi,hsz⟩:=Bq hsz
 have hil:i<l.length:=(List.getElem?_eq_some_iff.1 hz).1
 have hlen:u.cells.toList.length=cs.length:=hr.1
 have hcap:(i+1)*c.size<=cap*c.size:=mul_le_mul_right _ (by omega)
 rw [add_mul] at hcap
 have hfit:off+(i*c.size+o)+0+u.cells.toList.length<=us.size:=by omega
 have hst:=run_storeCells_at P b (off+(i*c.size+o)) e u.cells.toList 0 us w hh hfit h1
 simp only [add_zero] at hst
 have e2:us.toList.take (off+(i*c.size+o))++u.cells.toList++us.toList.drop (off+(i*c.size+o)+u.cells.toList.length)=Ai us.toList (off+(i*c.size+o)) u.cells.toList:=(BB _ _ _ (by simpa using hfit)).symm
 rw [e2] at hst
 have hw : ∀ k,R k->(w.setRow b (Ai us.toList (off+(i*c.size+o)) u.cells.toList).toArray).heap[k]? = w.heap[k]?:=fun k hR=>setRow_other _ _ _ _ (fun e=>by subst e; exact h.mem.sep id _ _ k hb rfl hm rfl hR)
 refine ⟨w.setRow b (Ai us.toList (off+(i*c.size+o)) u.cells.toList).toArray,?_,h.setBlk hb rfl hm rfl (setRow_size _ _ _) (fun k hk=>setRow_other _ _ _ _ hk) rfl rfl rfl (B':=.row false nl c (l.set i z')) (.row b off c.size cap len false nl c (l.set i z') _ e rfl (setRow_heap w b us _ e _ hh) (by simpa using g1) g2 (by simpa [AI] using g3) (fun i' z2 j v hz2 hv=>?_) (by simp))⟩
 ·have e1 : ¬(u.cells.size≠szT P t):=by rw [<-hsz]; simpa using hlen
  simp only [Instr.storeAt,Instr.sureAddr,Sem.run_bind,Sem.run_pure,Result.andThen_ok,storeVar,Ca hi,e1,if_false,hst]
 ·have hj:j<c.size:=by have:=(List.getElem?_eq_some_iff.1 hv).1; rwa [A8] at this
  by_cases e3:i'=i
  ·subst e3
   rw [List.getElem?_set_self hil] at hz2
   simp at hz2; subst hz2
   -- the element's own cells, ahead and behind
   have hold:Reps w R μ (enc c z) ((us.toList.drop (off+i'*c.size)).take c.size):=by
    refine ⟨by rw [A8]; simp; omega,fun j v u h5 h6=>?_⟩
    have hj:j<c.size:=by have:=(List.getElem?_eq_some_iff.1 h5).1; rwa [A8] at this
    obtain ⟨u2,h7,h8⟩:=g4 i' z j v hz h5
    rw [List.getElem?_take,if_pos hj,List.getElem?_drop] at h6
    rw [show off+i'*c.size+j=off+(i'*c.size+j) by omega] at h6
    simp at h6
    rw [h7] at h6; simp at h6; subst h6; exact h8
   have hnew:=Ce (hold.set hr (by rw [A8]; exact ho)) hd
   have hju:j<(Ai ((us.toList.drop (off+i'*c.size)).take c.size) o u.cells.toList).length:=by rw [hnew.1,A8]; exact hj
   refine ⟨_,?_,(hnew.2 j v _ hv (getElem?_eq_getElem hju)).mono hw (fun _ h=>h) (fun _ _ h=>h)⟩
   rw [<-getElem?_eq_getElem hju]
   simp only [getElem?_toArray]
   rw [A3 _ _ _ _ (by simpa using hfit),A3 _ _ _ _ (by rw [hlen]; simp; omega)]
   by_cases h9:o<=j/\j<o+u.cells.toList.length
   ·rw [if_pos h9,if_pos (by omega)]; congr 1; omega
   ·rw [if_neg h9,if_neg (by omega),List.getElem?_take,if_pos hj,List.getElem?_drop]; congr 1; omega
  ·rw [List.getElem?_set_ne (Ne.symm e3)] at hz2
   obtain ⟨u2,h7,h8⟩:=g4 i' z2 j v hz2 hv
   refine ⟨u2,?_,h8.mono hw (fun _ h=>h) (fun _ _ h=>h)⟩
   simp only [getElem?_toArray]
   rw [A3 _ _ _ _ (by simpa using hfit),if_neg]
   ·simpa using h7
   ·intro ⟨h9,h10⟩
    rcases Nat.lt_or_gt_of_ne e3 with h11 | h11
    ·have:(i'+1)*c.size<=i*c.size:=mul_le_mul_right _ h11
     rw [add_mul] at this; omega
    ·have:(i+1)*c.size<=i'*c.size:=mul_le_mul_right _ h11
     rw [add_mul] at this; omega

def ElemD (c:Cd) (l:List c.den) (op:Option (Nat×List V)) (i:Nat) (row:List V):Prop:=(op=none/\∃ z,l[i]? = some z/\row=enc c z)\/op=some (i,row)
theorem Hg {β:Type} {c:Cd} {l:List c.den} {op:Option (Nat×List V)} {i:Nat} {k:List V->Option β} {r:β} (h:Hh c l op i k=some r) : ∃ row,ElemD c l op i row/\k row=some r:=by
 unfold Hh at h
 split at h
 ·obtain ⟨z,h1,h2⟩:=A5 h
  exact ⟨_,.inl ⟨rfl,z,h1,rfl⟩,h2⟩
 ·rename_i j row
  obtain ⟨h1,h2⟩:=Ac h
  have:=eq_of_beq_eq_true h1
  subst this
  exact ⟨_,.inr rfl,h2⟩
theorem ElemD.at {c:Cd} {l:List c.den} {op:Option (Nat×List V)} {i:Nat} {row:List V} (h:ElemD c l op i row):AW c l op i=some row:=by
 rcases h with ⟨rfl,z,h1,rfl⟩ | rfl
 ·exact BM h1
 ·simp [AW]
theorem ElemD.ne {c:Cd} {l:List c.den} {op:Option (Nat×List V)} {i:Nat} {row:List V} (h:ElemD c l op i row) (row':List V) {i':Nat} (hi:i'≠i):AW c l (some (i,row')) i'=AW c l op i':=by
 rcases h with ⟨rfl,z,h1,rfl⟩ | rfl
 ·simp [AW,hi]
 ·simp [AW,hi]
theorem ElemD.ne_len {c:Cd} {l:List c.den} {op:Option (Nat×List V)} {i:Nat} {row:List V} (h:ElemD c l op i row) {i':Nat} (hi:i'≠i) {row':List V} (h':AW c l op i'=some row'):row'.length=c.size:=by
 have:AW c l op i'=(l[i']?).map (enc c):=by
  rcases h with ⟨rfl,z,h1,rfl⟩ | rfl
  ·rfl
  ·simp [AW,hi]
 rw [this] at h'
 obtain ⟨z,_,rfl⟩:=map_eq_some_iff.1 h'
 exact A8 c z
theorem ElemD.len {c:Cd} {l:List c.den} {op:Option (Nat×List V)} {i:Nat} {row:List V} (h:ElemD c l op i row) {len:Nat} (hl:l.length=len) (h5 : ∀ p,op=some p->p.1<len/\p.2.length=c.size):i<len/\row.length=c.size:=by
 rcases h with ⟨rfl,z,h1,rfl⟩ | rfl
 ·exact ⟨by rw [<-hl]; exact (List.getElem?_eq_some_iff.1 h1).1,A8 c z⟩
 ·exact h5 _ rfl
theorem CRep.of_rep {v:V} {u:Value} (h:VRep w R μ v u) (hs:v.stor=true):CRep w R μ v u:=by
 cases v<;>first | exact h | simp [V.stor] at hs
theorem CRep.rep {v:V} {u:Value} (h:CRep w R μ v u) (hs : ∀ c l,v≠.sl c l):VRep w R μ v u:=by
 cases v<;>first | exact h | exact absurd rfl (hs _ _)
theorem Jg {v:V} (h:v.stor=true):v.single=true:=by
 cases v<;>first | exact h | rfl
theorem Gw {vs:List V} (h:vs.all V.stor=true):vs.all V.single=true:=all_eq_true.2 fun v hv=>Jg (all_eq_true.1 h v hv)

theorem Ij {t:TypeId} {id i o:Nat} {c:Cd} {l:List c.den} {op:Option (Nat×List V)} {row cs:List V} {ua u:Value} (h:SimAt E R μ sl bl fr a w) (hb:bl id=some (.drow c l op)) (ha:VRep w R μ (.el id i o) ua) (hel:ElemD c l op i row)
  (hr:Reps w R μ cs u.cells.toList) (hsz:Dd P t cs.length=true) (ho:o+cs.length<=row.length) (hst:cs.all V.stor=true) :
  ∃ w',(Instr.storeAt t ua u).run P w = .ok () w'/\SimAt E R μ sl (Au bl id (some (.drow c l (some (i,Ai row o cs))))) fr a w':=by
 have h1:=hr.one (Gw hst)
 obtain ⟨rb,hmu,hrep⟩:=h.mem.blk id _ hb
 cases ha with
 | el _ _ _ b off k cap len hm=>
 rw [hm] at hmu; simp at hmu; subst hmu
 cases hrep with
 | drow _ _ _ _ _ _ _ _ us e hk hh g1 g2 g3 g4 g5 g6 g7=>
 subst hk
 obtain ⟨it,hi,hsz⟩:=Bq hsz
 obtain ⟨hil,hrl⟩:=hel.len g1.1 g5
 have hlen:u.cells.toList.length=cs.length:=hr.1
 have hcap:(i+1)*c.size<=cap*c.size:=mul_le_mul_right _ (by omega)
 rw [add_mul] at hcap
 have hfit:off+(i*c.size+o)+0+u.cells.toList.length<=us.size:=by omega
 have hst2:=run_storeCells_at P b (off+(i*c.size+o)) e u.cells.toList 0 us w hh hfit h1
 simp only [add_zero] at hst2
 have e2:us.toList.take (off+(i*c.size+o))++u.cells.toList++us.toList.drop (off+(i*c.size+o)+u.cells.toList.length)=Ai us.toList (off+(i*c.size+o)) u.cells.toList:=(BB _ _ _ (by simpa using hfit)).symm
 rw [e2] at hst2
 have hw : ∀ k,R k->(w.setRow b (Ai us.toList (off+(i*c.size+o)) u.cells.toList).toArray).heap[k]? = w.heap[k]?:=fun k hR=>setRow_other _ _ _ _ (fun e=>by subst e; exact h.mem.sep id _ _ k hb rfl hm (Foot.main rfl) hR)
 have hb':=setRow_heap w b us (Ai us.toList (off+(i*c.size+o)) u.cells.toList).toArray e (0,0) hh
 -- where a cell lies that was not written
 have away : ∀ i' j,j<c.size->(i'≠i\/¬(o<=j/\j<o+cs.length))->(Ai us.toList (off+(i*c.size+o)) u.cells.toList).toArray[off+(i'*c.size+j)]? = us[off+(i'*c.size+j)]?:=fun i' j hj hne=>by
  simp only [getElem?_toArray]
  rw [A3 _ _ _ _ (by simpa using hfit),if_neg]
  ·simp
  ·intro ⟨h9,h10⟩
   rw [hlen] at h10
   rcases hne with hne | hne
   ·rcases Nat.lt_or_gt_of_ne hne with h11 | h11
    ·have:(i'+1)*c.size<=i*c.size:=mul_le_mul_right _ h11
     rw [add_mul] at this; omega
    ·have:(i+1)*c.size<=i'*c.size:=mul_le_mul_right _ h11
     rw [add_mul] at this; omega
   ·by_cases e3:i'=i
    ·subst e3; exact hne ⟨by omega,by omega⟩
    ·rcases Nat.lt_or_gt_of_ne e3 with h11 | h11
     ·have:(i'+1)*c.size<=i*c.size:=mul_le_mul_right _ h11
      rw [add_mul] at this; omega
     ·have:(i+1)*c.size<=i'*c.size:=mul_le_mul_right _ h11
      rw [add_mul] at this; omega
 have hnl:(Ai row o cs).length=c.size:=by rw [AI]; exact hrl
 -- slices that are owned now were owned
 have hsub : ∀ i' j x,AS (Ai us.toList (off+(i*c.size+o)) u.cells.toList).toArray off c.size c l (some (i,Ai row o cs)) i' j x->AS us off c.size c l op i' j x:=by
  rintro i' j x ⟨row1,c1,l1,a1,n,q,k1,k2,k3,k4⟩
  by_cases e3:i'=i
  ·subst e3
   have:row1=Ai row o cs:=by simpa [AW] using k1.symm
   subst this
   have hj:j<c.size:=by rw [<-hnl]; exact (List.getElem?_eq_some_iff.1 k2).1
   rw [A3 _ _ _ _ ho] at k2
   by_cases h9:o<=j/\j<o+cs.length
   ·rw [if_pos h9] at k2
    have:=all_eq_true.1 hst _ (mem_of_getElem? k2)
    simp [V.stor] at this
   ·rw [if_neg h9] at k2
    rw [away i' j hj (.inr h9)] at k3
    exact ⟨row,c1,l1,a1,n,q,hel.at,k2,k3,k4⟩
  ·rw [hel.ne _ e3] at k1
   have hj:j<c.size:=by rw [<-hel.ne_len e3 k1]; exact (List.getElem?_eq_some_iff.1 k2).1
   rw [away i' j hj (.inl e3)] at k3
   exact ⟨row1,c1,l1,a1,n,q,k1,k2,k3,k4⟩
 refine ⟨w.setRow b (Ai us.toList (off+(i*c.size+o)) u.cells.toList).toArray,?_,h.setBlk (B':=.drow c l (some (i,Ai row o cs))) hb rfl hm rfl (setRow_size _ _ _) (fun k hk=>setRow_other _ _ _ _ hk) rfl rfl rfl ?_ ?_⟩
 ·have e1 : ¬(u.cells.size≠szT P t):=by rw [<-hsz]; simpa using hlen
  simp only [Instr.storeAt,Instr.sureAddr,Sem.run_bind,Sem.run_pure,Result.andThen_ok,storeVar,Ca hi,e1,if_false,hst2]
 ·refine .drow b off c.size cap len c l _ _ e rfl hb' g1 g2 (by simpa [AI] using g3) (fun i' row1 j v k1 k2=>?_) (fun p hp=>by cases hp; exact ⟨hil,hnl⟩) (fun i1 i2 j1 j2 x s1 s2=>g6 i1 i2 j1 j2 x (hsub _ _ _ s1) (hsub _ _ _ s2)) (fun i1 j1 x s1=>g7 i1 j1 x (hsub _ _ _ s1))
  have old : ∀ row0,AW c l op i'=some row0->row0[j]? = some v->(Ai us.toList (off+(i*c.size+o)) u.cells.toList).toArray[off+(i'*c.size+j)]? = us[off+(i'*c.size+j)]?->∃ u2,(Ai us.toList (off+(i*c.size+o)) u.cells.toList).toArray[off+(i'*c.size+j)]? = some u2/\CRep (w.setRow b (Ai us.toList (off+(i*c.size+o)) u.cells.toList).toArray) R μ v u2:=fun row0 q1 q2 q3=>by
   obtain ⟨u2,q4,q5⟩:=g4 i' row0 j v q1 q2
   refine ⟨u2,q3.trans q4,q5.mono hw (fun _ h=>h) (fun _ _ h=>h) (fun c1 l1 a1 n q e1 e2=>setRow_other _ _ _ _ (g7 i' j _ ⟨row0,c1,l1,a1,n,q,q1,by rw [q2,e1],by rw [q4,e2],rfl⟩))⟩
  by_cases e3:i'=i
  ·subst e3
   have:row1=Ai row o cs:=by simpa [AW] using k1.symm
   subst this
   have hj:j<c.size:=by rw [<-hnl]; exact (List.getElem?_eq_some_iff.1 k2).1
   rw [A3 _ _ _ _ ho] at k2
   by_cases h9:o<=j/\j<o+cs.length
   ·rw [if_pos h9] at k2
    have hju:j-o<u.cells.toList.length:=by omega
    have hv:=hr.2 (j-o) v _ k2 (getElem?_eq_getElem hju)
    refine ⟨u.cells.toList[j-o],?_,CRep.of_rep (hv.mono hw (fun _ h=>h) (fun _ _ h=>h)) (all_eq_true.1 hst _ (mem_of_getElem? k2))⟩
    rw [<-getElem?_eq_getElem hju]
    simp only [getElem?_toArray]
    rw [A3 _ _ _ _ (by simpa using hfit),if_pos (by omega)]
    congr 1; omega
   ·rw [if_neg h9] at k2
    exact old row hel.at k2 (away i' j hj (.inr h9))
  ·rw [hel.ne _ e3] at k1
   have hj:j<c.size:=by rw [<-hel.ne_len e3 k1]; exact (List.getElem?_eq_some_iff.1 k2).1
   exact old row1 k1 k2 (away i' j hj (.inl e3))
 ·intro y hy
  rcases hy with hy | ⟨us',e',i',j,k1,k2⟩
  ·exact .inl hy
  ·rw [hb'] at k1
   simp at k1; obtain ⟨rfl,_⟩:=k1
   exact .inr ⟨us,e,i',j,hh,hsub i' j y k2⟩

theorem SimAt.openSub {id i j new b off k cap len:Nat} {c c':Cd} {l:List c.den} {l':List c'.den} {op:Option (Nat×List V)} {row:List V} (h:SimAt E R μ sl bl fr a w) (hb:bl id=some (.drow c l op)) (hm:μ id=some (.at b off k cap len)) (hel:ElemD c l op i row) (hj:row[j]? = some (.sl c' l')) (_hfl:c'.flat=true) (hf:fr new) :
  ∃ rb' u0,SimAt E R (Bg μ new rb') sl (Au (Au bl id (some (.drow c l (some (i,row.set j (.ref new 0 l'.length)))))) new (some (.row false none c' l'))) (fun x=>fr x/\x≠new) a w/\w.cell? ⟨b,off+(i*k+j),none⟩=some u0/\VRep w R (Bg μ new rb') (.ref new 0 l'.length) u0:=by
 obtain ⟨rb,hmu,hrep⟩:=h.mem.blk id _ hb
 rw [hm] at hmu; simp at hmu; subst hmu
 cases hrep with
 | drow _ _ _ _ _ _ _ _ us e hk hh g1 g2 g3 g4 g5 g6 g7=>
 subst hk
 obtain ⟨hil,hrl⟩:=hel.len g1.1 g5
 obtain ⟨u0,hu0,hc0⟩:=g4 i row j _ hel.at hj
 have hjl:j<row.length:=(List.getElem?_eq_some_iff.1 hj).1
 have hcell:w.cell? ⟨b,off+(i*c.size+j),none⟩=some u0:=by rw [cell_of_row w b _ us e (0,0) hh,hu0]
 have hnl:(row.set j (.ref new 0 l'.length)).length=c.size:=by rw [List.length_set]; exact hrl
 have hsub : ∀ i' j' x,AS us off c.size c l (some (i,row.set j (.ref new 0 l'.length))) i' j' x->AS us off c.size c l op i' j' x/\¬(i'=i/\j'=j):=by
  rintro i' j' x ⟨row1,c1,l1,a1,n,q,k1,k2,k3,k4⟩
  by_cases e3:i'=i
  ·subst e3
   have:row1=row.set j (.ref new 0 l'.length):=by simpa [AW] using k1.symm
   subst this
   by_cases e4:j=j'
   ·subst e4; rw [List.getElem?_set_self hjl] at k2; simp at k2
   ·rw [List.getElem?_set_ne e4] at k2
    exact ⟨⟨row,c1,l1,a1,n,q,hel.at,k2,k3,k4⟩,fun h=>e4 h.2.symm⟩
  ·rw [hel.ne _ e3] at k1
   exact ⟨⟨row1,c1,l1,a1,n,q,k1,k2,k3,k4⟩,fun h=>e3 h.1⟩
 -- whatever number the slice's block gets
 have go : ∀ rb':RB,(∀ y,rb'.real=some y->AS us off c.size c l op i j y)->BRep w R (Bg μ new rb') rb' (.row false none c' l')->VRep w R (Bg μ new rb') (.ref new 0 l'.length) u0->
   SimAt E R (Bg μ new rb') sl (Au (Au bl id (some (.drow c l (some (i,row.set j (.ref new 0 l'.length)))))) new (some (.row false none c' l'))) (fun x=>fr x/\x≠new) a w:=fun rb' hrr hB2 hv=>by
  have hx:=C0 (h.free new hf) rb'
  refine h.split hb rfl hm hf ?_ hB2 ?_ ?_ ?_
  ·refine .drow b off c.size cap len c l _ us e rfl hh g1 g2 g3 (fun i' row1 j' v k1 k2=>?_) (fun p hp=>by cases hp; exact ⟨hil,hnl⟩) (fun i1 i2 j1 j2 x s1 s2=>g6 i1 i2 j1 j2 x (hsub _ _ _ s1).1 (hsub _ _ _ s2).1) (fun i1 j1 x s1=>g7 i1 j1 x (hsub _ _ _ s1).1)
   have old : ∀ row0,AW c l op i'=some row0->row0[j']? = some v->∃ u2,us[off+(i'*c.size+j')]? = some u2/\CRep w R (Bg μ new rb') v u2:=fun row0 q1 q2=>by
    obtain ⟨u2,q4,q5⟩:=g4 i' row0 j' v q1 q2
    exact ⟨u2,q4,q5.mono (fun _ _=>rfl) (fun _ h=>h) hx (fun _ _ _ _ _ _ _=>rfl)⟩
   by_cases e3:i'=i
   ·subst e3
    have:row1=row.set j (.ref new 0 l'.length):=by simpa [AW] using k1.symm
    subst this
    by_cases e4:j=j'
    ·subst e4
     rw [List.getElem?_set_self hjl] at k2
     simp at k2; subst k2
     exact ⟨u0,hu0,hv⟩
    ·rw [List.getElem?_set_ne e4] at k2
     exact old row hel.at k2
   ·rw [hel.ne _ e3] at k1
    exact old row1 k1 k2
  ·intro y hy
   rcases hy with hy | ⟨us',e',i',j',k1,k2⟩
   ·exact .inl hy
   ·rw [hh] at k1; simp at k1; obtain ⟨rfl,_⟩:=k1
    exact .inr ⟨us,e,i',j',hh,(hsub i' j' y k2).1⟩
  ·intro y hy
   exact .inr ⟨us,e,i,j,hh,hrr y hy⟩
  ·intro y hy hy2
   have s1:=hrr y hy2
   rcases hy with hy | ⟨us',e',i',j',k1,k2⟩
   ·simp [RB.real] at hy; subst hy; exact g7 i j b s1 rfl
   ·rw [hh] at k1; simp at k1; obtain ⟨rfl,_⟩:=k1
    obtain ⟨s2,s3⟩:=hsub i' j' y k2
    exact s3 (g6 i' i j' j y s2 s1)
 have hc1:Nest w c' l' u0:=hc0
 cases hc1 with
 | vac ao=>exact ⟨.vac ao,_,go (.vac ao) (fun y hy=>by simp [RB.real] at hy) (.vac ao false none c') (.vac new ao (Am _ _ _)),hcell,.vac new ao (Am _ _ _)⟩
 | row l2 b2 off2 cap2 us2 e3 hf2 q1 q2 q3 q4 q5=>
  have hv:VRep w R (Bg μ new (.at b2 off2 c'.size (cap2+1) l'.length)) (.ref new 0 l'.length) (.slice (some ⟨b2,off2,none⟩) l'.length (cap2+1)):=
   .ref new 0 l'.length b2 off2 c'.size (cap2+1) l'.length _ (Am _ _ _) q2 (by omega) q3 (.inr (by simp))
  refine ⟨.at b2 off2 c'.size (cap2+1) l'.length,_,go _ (fun y hy=>?_) (.row b2 off2 c'.size (cap2+1) l'.length false none c' l' us2 e3 rfl q1 ⟨rfl,q2⟩ q3 q4 (fun i z j v hz hv=>?_) (by simp)) hv,hcell,hv⟩
  ·simp [RB.real] at hy; subst hy
   exact ⟨row,c',l',⟨b2,off2,none⟩,l'.length,cap2,hel.at,hj,hu0,rfl⟩
  ·obtain ⟨u,hu,hr⟩:=q5 i z j v hz hv
   exact ⟨u,hu,hr.mono (fun _ h=>h.elim) (fun _ h=>h.elim) (fun _ _ h=>by cases h)⟩

theorem Jf {new:Nat} {t:TypeId} {x v:V} {ua u:Value} {us:Upd} (h:SimAt E R μ sl bl fr a w) (hs : ∀ id B,blr id=some B->bl id=some B) (hf : ∀ c,c<16->fr (new+c)) (ha:VRep w R μ x ua) (hv:VRep w R μ v u) (hk:Ed P blr new t x v some=some us) :
  ∃ w' R' μ',(Instr.storeAt t ua u).run P w = .ok () w'/\SimAt E R' μ' sl (Av bl us) (fun j=>fr j/\(j<new\/new+16<=j)) a w':=by
 unfold Ed at hk
 split at hk
 ·rename_i id o
  split at hk
  ·rename_i row hb
   dsimp only at hk
   obtain ⟨h1,hk⟩:=Ac hk
   simp at hk; subst hk
   simp only [and_eq_true] at h1
   obtain ⟨⟨h1,h2⟩,h3⟩:=h1
   have h2:=Nat.le_of_ble_eq_true h2
   have hx:v≠.unk:=by intro e; subst e; simp [V.cells,V.single] at h3
   have hcr:=hv.cells hx
   obtain ⟨μ',g1,g2,g3⟩:=BI (P:=P) (t:=t) (id:=new) h (fun c hc=>hf c (by omega)) hcr
   have hb':Av bl (Bm P new t v.cells).2 id=some (.box row):=by
    rw [Bw]
    ·exact hs _ _ hb
    ·intro p hp e
     have:=Hv p hp
     obtain ⟨rb,hmu,_⟩:=h.mem.blk id _ (hs _ _ hb)
     have hfr:=h.free (new+(p.1-new)) (hf _ (by omega))
     rw [show new+(p.1-new)=id by omega,hmu] at hfr
     cases hfr
   cases ha with
   | ptr _ _ b hm=>
   obtain ⟨w',g4,g5⟩:=GC (P:=P) (t:=t) (o:=o) g1 hb' (g3 _ _ hm) g2 h1 h2 (hcr.one h3)
   refine ⟨w',R,μ',g4,?_⟩
   rw [Bl]
   exact g5.fr_mono (fun j hj=>⟨hj.1,by omega⟩)
  ·cases hk
 ·rename_i id i o
  split at hk
  ·rename_i nl c l hb
   split at hk
   ·rename_i cs ids hc
    split at hk
    ·cases hk
    ·rename_i hni
     obtain ⟨z,hz,hk⟩:=A5 hk
     obtain ⟨h1,hk⟩:=Ac hk
     simp only [and_eq_true] at h1
     obtain ⟨⟨h1,h2⟩,h3⟩:=h1
     have h2:=Nat.le_of_ble_eq_true h2
     split at hk
     ·rename_i z' hd
      simp at hk; subst hk
      have hx:v≠.unk:=by
       intro e; subst e
       simp [V.cells,FY,C7,Cx] at hc
       obtain ⟨rfl,_⟩:=hc
       simp [V.single] at h3
      obtain ⟨R',g1,g2,g3⟩:=Dv h hs (hv.cells hx) hc
      have hb':Av bl (AP blr ids) id=some (.row false nl c l):=by
       rw [Bw]
       ·exact hs _ _ hb
       ·intro p hp e
        have:=EX ids p hp
        rw [e] at this
        simp at hni; exact hni this
      obtain ⟨w',g4,g5⟩:=Ht (P:=P) (t:=t) g1 hb' (ha.mono (fun _ _=>rfl) g2 (fun _ _ h=>h)) hz g3 h1 h2 hd (g3.one h3)
      refine ⟨w',R',μ,g4,?_⟩
      rw [Bl]
      exact g5.fr_mono (fun j hj=>hj.1)
     ·cases hk
   ·cases hk
  ·rename_i c l op hb
   obtain ⟨row,hel,hk⟩:=Hg hk
   obtain ⟨h1,hk⟩:=Ac hk
   simp only [and_eq_true] at h1
   obtain ⟨⟨h1,h2⟩,h3⟩:=h1
   have h2:=Nat.le_of_ble_eq_true h2
   simp at hk; subst hk
   have hx:v≠.unk:=by intro e; subst e; simp [V.cells,V.stor,V.single] at h3
   obtain ⟨w',g4,g5⟩:=Ij (P:=P) (t:=t) h (hs _ _ hb) ha hel (hv.cells hx) h1 h2 h3
   exact ⟨w',R,μ,g4,g5.fr_mono (fun j hj=>hj.1)⟩
  ·cases hk
 ·cases hk

theorem Gh (v:Value):VRep w R μ (AO v) v:=by
 unfold AO
 split
 ·exact .b _
 ·exact .i _ _
 ·rename_i s; have:=VRep.s (w:=w) (R:=R) (μ:=μ) s.data.toList; simpa using this
 ·exact .nl
 ·exact .np
 ·rename_i f first cap
  split
  ·rename_i h1 h2
   have e1:first = #[]:=by apply Array.ext'; simpa using h1
   have e2:cap = #[]:=by apply Array.ext'; simpa using h2
   subst e1 e2
   exact .fn f [] [] #[] #[] rfl rfl (by simp) (by simp)
  ·exact .unk _
 ·exact .unk _
theorem Bt (us:List Value):Reps w R μ (us.map AO) us:=
 ⟨by simp,fun j v u h1 h2=>by rw [getElem?_map,h2] at h1; simp at h1; subst h1; exact Gh u⟩
end
end Go.Proofs.YthbecdipboideaaDoor.Den
/- Literals, makes, appends, conversions. -/
namespace Go.Proofs.YthbecdipboideaaDoor.Den

section
variable {P:Program} {E:Env} {R:Nat->Prop} {μ:Nat->Option RB} {sl:List V} {bl blr:Nat->Option Blk} {fr:Nat->Prop} {a:Act} {w:World}

theorem Ki {t:TypeId} {ps:List (Nat×V)} {qs:Array (Nat×Value)} {cs:List V} (h1:ps.map (·.1)=qs.toList.map (·.1)) (h2:Reps w R μ (ps.map (·.2)) (qs.toList.map (·.2))) (h:Ls P t ps=some cs) :
  ∃ us,(Instr.build t qs).run P w = .ok (.agg us) w/\Reps w R μ cs us.toList:=by
 unfold Ls at h
 split at h
 ·rename_i it n e hi hu
  split at h
  ·rename_i z ie hz hie
   obtain ⟨us,h3,h4⟩:=Db (w:=w) (R:=R) (μ:=μ) ps qs.toList _ cs z.cells h1 h2 (Bt _) h
   exact ⟨us,run_build w t qs us (by unfold Program.built; simp [hi,hu,hz,hie,h3]),h4⟩
  ·cases h
 ·rename_i it fs hi hu
  split at h
  ·rename_i z places hz hp
   obtain ⟨us,h3,h4⟩:=Db (w:=w) (R:=R) (μ:=μ) ps qs.toList _ cs z.cells h1 h2 (Bt _) h
   exact ⟨us,run_build w t qs us (by unfold Program.built; simp only [hi,hu,hz,hp]; exact h3),h4⟩
  ·cases h
 ·cases h

theorem D1 {α:Type} (l:List α) : ∀ (n i:Nat),((replicate n ()).flatMap fun _=>l)[i]? = if i<n*l.length then l[i % l.length]? else none
 | 0,i=>by simp
 | n+1,i=>by
  rw [List.replicate_succ,flatMap_cons,List.getElem?_append]
  by_cases h:i<l.length
  ·rw [if_pos h,if_pos (by rw [add_mul]; omega),mod_eq_of_lt h]
  ·rw [if_neg h,D1 l n (i-l.length)]
   rw [add_mul,one_mul]
   by_cases h2:i<n*l.length+l.length
   ·rw [if_pos (by omega),if_pos h2]
    congr 1
    conv=>rhs; rw [show i=(i-l.length)+l.length by omega,Nat.add_mod_right]
   ·rw [if_neg (by omega),if_neg h2]
theorem CR (zs:Array Value) (n:Nat):((Array.range (n*zs.size)).map fun i=>zs[i % zs.size]!).toList=(replicate n ()).flatMap fun _=>zs.toList:=by
 apply List.ext_getElem?
 intro i
 rw [D1]
 simp only [Array.toList_map,Array.toList_range,getElem?_map,Array.length_toList]
 by_cases h:i<n*zs.size
 ·rw [if_pos h,List.getElem?_range h]
  have hz:0<zs.size:=by rcases Nat.eq_zero_or_pos zs.size with e | e; simp [e] at h; exact e
  have:=Nat.mod_lt i hz
  simp [this]
 ·rw [if_neg h,List.getElem?_eq_none (by simpa using h)]; rfl

theorem FZ {new n:Nat} {t e:TypeId} {ie:TypeInfo} {z:Value} {c:Cd} {ps:List (Nat×V)} {qs:Array (Nat×Value)} {cells cs:List V} {ids:List Nat} {l:List c.den} (h:SimAt E R μ sl bl fr a w) (hs : ∀ id B,blr id=some B->bl id=some B) (hf : ∀ c,c<16->fr (new+c))
  (hu:P.underlying t=some (.slice e)) (hi:P.info? e=some ie) (hz:ie.zero=some z) (h1:ps.map (·.1)=qs.toList.map (·.1)) (h2:Reps w R μ (ps.map (·.2)) (qs.toList.map (·.2)))
  (hfill:F3 (fun j=>some (j*ie.size,ie.size)) ((replicate n ()).flatMap fun _=>z.cells.toList.map AO) ps=some cells) (hc:FY blr cells=some (cs,ids)) (hch:Hk c n cs=some l) (hz2:z.cells.size=ie.size) (_hc2:c.size=ie.size) (hle:n*ie.size<=16777216) (hpos:0<ie.size) :
  ∃ u w' R' μ',(Instr.buildSlice t n qs).run P w = .ok u w'/\SimAt E R' μ' sl (Av bl (AP blr ids++[(new,some (.row false (some false) c l))])) (fun j=>fr j/\(j<new\/new+16<=j)) a w'/\VRep w' R' μ' (.ref new 0 n) u:=by
 have hbase:Reps w R μ ((replicate n ()).flatMap fun _=>z.cells.toList.map AO) ((Array.range (n*ie.size)).map fun i=>z.cells[i % z.cells.size]!).toList:=by
  rw [<-hz2,CR]
  have : ∀ n,Reps w R μ ((replicate n ()).flatMap fun _=>z.cells.toList.map AO) ((replicate n ()).flatMap fun _=>z.cells.toList):=fun n=>by
   induction n with
   | zero=>exact .nil
   | succ n ih=>simp only [List.replicate_succ,flatMap_cons]; exact (Bt _).append ih
  exact this n
 obtain ⟨us,h3,h4⟩:=Db ps qs.toList _ cells _ h1 h2 hbase hfill
 obtain ⟨R',g1,g2,g3⟩:=Dv h hs h4 hc
 obtain ⟨e1,e2,e3⟩:=Gq n cs l us.toList g3 hch
 have hmx:n<=maxI:=by
  have:n*1<=n*ie.size:=Nat.mul_le_mul_left _ hpos
  unfold maxI; omega
 have hrun:(Instr.buildSlice t n qs).run P w = .ok (.slice (some ⟨w.heap.size,0,none⟩) n n) (w.alloc (.cells us e)):=by
  have hsm : ¬n*ie.size>2 ^ 24:=by omega
  by_cases h0:n*ie.size=0
  ·have e0:((Array.range (n*ie.size)).map fun i=>z.cells[i % z.cells.size]!) = #[]:=by rw [h0]; simp
   rw [e0] at h3
   simp only [Instr.buildSlice,run_underlying hu,sizeOf,typeInfo,hi,Sem.run_bind,run_program,Sem.run_pure,Result.andThen_ok,hsm,if_false]
   have e1:((Array.range 0).map fun i=>(#[]:Array Value)[i % (#[]:Array Value).size]!) = #[]:=by simp
   simp only [h0,if_true,Sem.run_bind,Sem.run_pure,Result.andThen_ok,e1,h3]
   rfl
  ·simp only [Instr.buildSlice,run_underlying hu,sizeOf,typeInfo,zeroValue,hi,hz,Sem.run_bind,run_program,Sem.run_pure,Result.andThen_ok,hsm,if_false,h0,h3]
   rfl
 have hfr:=g1.newRow_sound' (us:=us) (l:=l) (c:=c) (len:=n) (nl:=some false) n e (hf 0 (by omega)) (by simpa using e3) e1 (le_refl _) hmx (by simpa using Nat.le_of_eq e2.symm)
 refine ⟨_,_,R',Bg μ new (.at w.heap.size 0 c.size n n),hrun,?_,.ref new 0 n w.heap.size 0 c.size n n ⟨w.heap.size,0,none⟩ (Am _ _ _) (le_refl _) (by omega) hmx (.inr (by simp))⟩
 rw [Bl]
 exact hfr.fr_mono (fun j hj=>⟨hj.1,by omega⟩)

theorem BX {t:TypeId} {i:TypeInfo} {z:Value} (hi:P.info? t=some i) (hz:i.zero=some z) (w:World):(zeroValue t).run P w = .ok z w:=by simp [zeroValue,typeInfo,hi,hz]

theorem DX {new:Nat} {t e:TypeId} {ie:TypeInfo} {z:Value} {c:Cd} {zc:c.den} {k1 k2:IntKind} {L M:Int} (h:SimAt E R μ sl bl fr a w) (hf : ∀ c,c<16->fr (new+c))
  (hu:P.underlying t=some (.slice e)) (hi:P.info? e=some ie) (hz:ie.zero=some z) (hd:Ec c (z.cells.toList.map AO)=some zc) (hc:Dd P e c.size=true) (hb:0<=L/\L<=M/\M*P.bytesOf e<=140737488355328/\M<=9223372036854775807) :
  ∃ u w' μ',(Instr.makeSlice t (.int k1 L) (.int k2 M)).run P w = .ok u w'/\SimAt E R μ' sl (Av bl [(new,some (.row false (some false) c (replicate L.toNat zc)))]) (fun j=>fr j/\(j<new\/new+16<=j)) a w'/\VRep w' R μ' (.ref new 0 L.toNat) u/\∃ us b cap,μ' new=some (.at b 0 c.size cap L.toNat)/\w'.heap[b]? = some (.cells us e (0,0))/\∀ i j,i<L.toNat->j<c.size->us[0+(i*c.size+j)]? = z.cells[j]?:=by
 obtain ⟨b1,b2,b3,b4⟩:=hb
 obtain ⟨i',hi',hsz⟩:=Bq hc
 rw [hi] at hi'; simp at hi'; subst hi'
 have hsz':ie.size=c.size:=by rw [hsz]; simp [szT,Program.cellsOf,hi]
 have hby:P.bytesOf e=ie.bytes:=by simp [Program.bytesOf,hi]
 have hzc:=Ce (w:=w) (R:=R) (μ:=μ) (Bt z.cells.toList) hd
 have hzs:z.cells.size=c.size:=by have:=hzc.1; rw [A8] at this; simpa using this
 have w1:IntKind.i64.wrap L=L:=IntWalk.i64_in _ (by omega)
 have w2:IntKind.i64.wrap M=M:=IntWalk.i64_in _ (by omega)
 have hbig : ¬((ie.bytes:Int)*M>2 ^ 48):=by rw [hby] at b3; rw [Int.mul_comm]; omega
 have e0:((Array.range (M.toNat*c.size)).map fun i=>(if M.toNat*c.size=0 then #[] else z.cells)[i % (if M.toNat*c.size=0 then #[] else z.cells).size]!)=((Array.range (M.toNat*z.cells.size)).map fun i=>z.cells[i % z.cells.size]!):=by
  by_cases h0:M.toNat*c.size=0
  ·rw [hzs]; simp [h0]
  ·rw [if_neg h0,hzs]
 have hrun:(Instr.makeSlice t (.int k1 L) (.int k2 M)).run P w = .ok (.slice (some ⟨w.heap.size,0,none⟩) L.toNat M.toNat) (w.alloc (.cells ((Array.range (M.toNat*z.cells.size)).map fun i=>z.cells[i % z.cells.size]!) e)):=by
  rw [<-e0]
  have c1:((decide (M<0)||decide ((ie.bytes:Int)*M>2 ^ 48))||decide (L<0)||decide (L>M))=false:=by
   simp; omega
  by_cases h0:M.toNat*c.size=0
  ·simp only [Instr.makeSlice,run_underlying hu,asInt,asIntOf,Sem.run_bind,Sem.run_pure,Result.andThen_ok,typeInfo,hi,run_program,w1,w2,c1]
   simp [run_askRoom,sizeOf,typeInfo,hi,hsz',h0,newRow]
  ·simp only [Instr.makeSlice,run_underlying hu,asInt,asIntOf,Sem.run_bind,Sem.run_pure,Result.andThen_ok,typeInfo,hi,run_program,w1,w2,c1]
   simp [run_askRoom,sizeOf,typeInfo,hi,hsz',h0,newRow,BX hi hz]
 have hL:L.toNat<=M.toNat:=by omega
 have hM:M.toNat<=maxI:=by unfold maxI; omega
 have hR:RAt w R μ (fun m=>((Array.range (M.toNat*z.cells.size)).map fun i=>z.cells[i % z.cells.size]!)[m]?) c (replicate L.toNat zc):=by
  intro i z2 j v hz2 hv
  have hi2:i<L.toNat:=by have:=(List.getElem?_eq_some_iff.1 hz2).1; simpa using this
  rw [List.getElem?_replicate,if_pos hi2] at hz2
  simp at hz2; subst hz2
  have hj:j<c.size:=by have:=(List.getElem?_eq_some_iff.1 hv).1; rwa [A8] at this
  have hju:j<z.cells.toList.length:=by simpa [hzs] using hj
  refine ⟨z.cells.toList[j],?_,hzc.2 j v _ hv (by simp)⟩
  have:=CR z.cells M.toNat
  dsimp only
  rw [<-Array.getElem?_toList,this,D1]
  have hlt:(i+1)*c.size<=M.toNat*c.size:=mul_le_mul_right _ (by omega)
  rw [add_mul] at hlt
  simp only [Array.length_toList,hzs]
  rw [if_pos (by omega),Nat.mul_comm i,mul_add_mod,mod_eq_of_lt hj]
  simp
 have hfr:=h.newRow_sound' (us:=(Array.range (M.toNat*z.cells.size)).map fun i=>z.cells[i % z.cells.size]!) (l:=replicate L.toNat zc) (c:=c) (len:=L.toNat) (nl:=some false) M.toNat e (hf 0 (by omega)) hR (by simp) hL hM (by simp [hzs])
 refine ⟨_,_,_,hrun,hfr.fr_mono (fun j hj=>⟨hj.1,by omega⟩),.ref new 0 L.toNat w.heap.size 0 c.size M.toNat L.toNat ⟨w.heap.size,0,none⟩ (Am _ _ _) hL (by omega) hM (.inr (by simp)),_,w.heap.size,M.toNat,Am _ _ _,heap_alloc_new w _,fun i j hi2 hj=>?_⟩
 have:=CR z.cells M.toNat
 rw [<-Array.getElem?_toList,this,D1]
 have hlt:(i+1)*c.size<=M.toNat*c.size:=mul_le_mul_right _ (by omega)
 rw [add_mul] at hlt
 simp only [Array.length_toList,hzs]
 rw [if_pos (by omega),zero_add,Nat.mul_comm i,mul_add_mod,mod_eq_of_lt hj]
 simp
def Near (xs ys:List V):Prop:=xs.length=ys.length/\∀ (j:Nat) v,xs[j]? = some v->ys[j]? = some v\/(ys[j]? = some .nl/\∃ c,v = .sl c [])
theorem Near.one {v:V} {y:V} (h:v=y\/(y = .nl/\∃ c,v = .sl c [])):Near [v] [y]:=⟨rfl,fun j v' h'=>by
 cases j with
 | zero=>
  simp at h'; subst h'
  rcases h with rfl | ⟨rfl,h⟩
  ·exact .inl rfl
  ·exact .inr ⟨rfl,h⟩
 | succ j=>simp at h'⟩
theorem Near.append {xs ys xs' ys':List V} (h:Near xs ys) (h':Near xs' ys'):Near (xs++xs') (ys++ys'):=⟨by simp [h.1,h'.1],fun j v hv=>by
 rw [List.getElem?_append] at hv
 split at hv
 ·rename_i hj
  rw [List.getElem?_append_left (by rw [<-h.1]; exact hj)]
  exact h.2 j v hv
 ·rename_i hj
  rw [List.getElem?_append_right (by rw [<-h.1]; omega),<-h.1]
  exact h'.2 _ v hv⟩
theorem Ib {c:Cd} {vs:List V} {l:List c.den} {r:List V} (h:MV c vs=some (l,r)) : ∃ y,vs=y::r/\Near [.sl c l] [y]:=by
 unfold MV at h
 split at h
 ·simp at h; obtain ⟨rfl,rfl⟩:=h
  exact ⟨_,rfl,.one (.inr ⟨rfl,c,rfl⟩)⟩
 ·split at h
  ·rename_i hc
   subst hc
   simp at h; obtain ⟨rfl,rfl⟩:=h
   exact ⟨_,rfl,.one (.inl rfl)⟩
  ·cases h
 ·cases h
theorem OK : ∀ (c:Cd) (vs:List V) (z:c.den) (r:List V),dec c vs=some (z,r)->∃ pre,vs=pre++r/\Near (enc c z) pre:=by
 intro c
 induction c with
 | int k=>
  intro vs z r h
  simp only [dec] at h
  split at h
  ·split at h
   ·rename_i hk
    simp at h; obtain ⟨rfl,rfl⟩:=h
    subst hk
    exact ⟨[_],rfl,.one (.inl rfl)⟩
   ·cases h
  ·cases h
 | bool=>
  intro vs z r h
  simp only [dec] at h
  split at h
  ·simp at h; obtain ⟨rfl,rfl⟩:=h
   exact ⟨[_],rfl,.one (.inl rfl)⟩
  ·cases h
 | str=>
  intro vs z r h
  simp only [dec] at h
  split at h
  ·simp at h; obtain ⟨rfl,rfl⟩:=h
   exact ⟨[_],rfl,.one (.inl rfl)⟩
  ·cases h
 | slice c=>
  intro vs z r h
  simp only [dec] at h
  obtain ⟨y,rfl,g⟩:=Ib (c:=c) (show MV c vs=some (z,r) from h)
  exact ⟨[y],rfl,g⟩
 | unit=>
  intro vs z r h
  simp only [dec] at h
  simp at h; subst h
  exact ⟨[],rfl,rfl,by simp [enc]⟩
 | pair a b iha ihb=>
  intro vs z r h
  simp only [dec] at h
  split at h
  ·rename_i u r1 h1
   split at h
   ·rename_i v r2 h2
    simp at h; obtain ⟨rfl,rfl⟩:=h
    obtain ⟨p1,rfl,g1⟩:=iha vs u r1 h1
    obtain ⟨p2,rfl,g2⟩:=ihb r1 v r2 h2
    exact ⟨p1++p2,by simp,g1.append g2⟩
   ·cases h
  ·cases h
 | rose c ih=>
  intro vs z r h
  simp only [dec] at h
  split at h
  ·rename_i u r1 h1
   split at h
   ·rename_i v r2 h2
    simp at h; obtain ⟨rfl,rfl⟩:=h
    obtain ⟨p1,rfl,g1⟩:=ih vs u r1 h1
    obtain ⟨y,rfl,g2⟩:=Ib h2
    exact ⟨p1++[y],by simp,g1.append g2⟩
   ·cases h
  ·cases h
 | tree c ih=>
  intro vs z r h
  simp only [dec] at h
  split at h
  ·split at h
   ·rename_i hc
    subst hc
    simp at h; obtain ⟨rfl,rfl⟩:=h
    exact ⟨[_],rfl,.one (.inl rfl)⟩
   ·cases h
  ·cases h
theorem Ic {c:Cd} {vs:List V} {z:c.den} (h:Ec c vs=some z):Near (enc c z) vs:=by
 unfold Ec at h
 split at h
 ·rename_i z' h1
  simp at h; subst h
  obtain ⟨p,rfl,g⟩:=OK c vs z' [] h1
  simpa using g
 ·cases h
theorem CRep.nil {u:Value} (h:CRep w R μ .nl u) (c:Cd):CRep w R μ (.sl c []) u:=by
 cases (show VRep w R μ .nl u from h)
 exact Nest.vac c none
theorem F8 {new:Nat} {t e:TypeId} {ie:TypeInfo} {z:Value} {c:Cd} {ps:List (Nat×V)} {qs:Array (Nat×Value)} {cells:List V} (h:SimAt E R μ sl bl fr a w) (hf : ∀ c,c<16->fr (new+c))
  (hu:P.underlying t=some (.slice e)) (hi:P.info? e=some ie) (hz:ie.zero=some z) (h1:ps.map (·.1)=qs.toList.map (·.1)) (h2:Reps w R μ (ps.map (·.2)) (qs.toList.map (·.2)))
  (hfill:F3 (fun j=>some (j*ie.size,ie.size)) ((replicate 1 ()).flatMap fun _=>z.cells.toList.map AO) ps=some cells) (hst:cells.all V.stor=true) (hz2:z.cells.size=ie.size) (hc2:c.size=ie.size) (hle:ie.size<=16777216) (hpos:0<ie.size) (hcl:cells.length=c.size) :
  ∃ u w' μ',(Instr.buildSlice t 1 qs).run P w = .ok u w'/\SimAt E R μ' sl (Au bl new (some (.drow c [c.dflt] (some (0,cells))))) (fun j=>fr j/\(j<new\/new+16<=j)) a w'/\VRep w' R μ' (.ref new 0 1) u:=by
 have hbase:Reps w R μ ((replicate 1 ()).flatMap fun _=>z.cells.toList.map AO) ((Array.range (1*ie.size)).map fun i=>z.cells[i % z.cells.size]!).toList:=by
  rw [<-hz2,CR]
  simp only [List.replicate_succ,List.replicate_zero,flatMap_cons,List.flatMap_nil]
  exact (Bt _).append .nil
 obtain ⟨us,h3,h4⟩:=Db ps qs.toList _ cells _ h1 h2 hbase hfill
 have husz:us.size=c.size:=by have:=h4.1; rw [hcl] at this; simpa using this
 have hrun:(Instr.buildSlice t 1 qs).run P w = .ok (.slice (some ⟨w.heap.size,0,none⟩) 1 1) (w.alloc (.cells us e)):=by
  have hsm : ¬1*ie.size>2 ^ 24:=by omega
  have h0 : ¬1*ie.size=0:=by omega
  simp only [Instr.buildSlice,run_underlying hu,sizeOf,typeInfo,zeroValue,hi,hz,Sem.run_bind,run_program,Sem.run_pure,Result.andThen_ok,hsm,if_false,h0,h3]
  rfl
 have hw : ∀ k,R k->(w.alloc (.cells us e)).heap[k]? = w.heap[k]?:=fun k hR=>BL _ _ (h.mem.rlt k hR)
 have rows : ∀ i row,AW c [c.dflt] (some (0,cells)) i=some row->i=0/\row=cells:=fun i row hr=>by
  by_cases e0:i=0
  ·subst e0; simp [AW] at hr; exact ⟨rfl,hr.symm⟩
  ·simp [AW,e0] at hr
 have nosub : ∀ i j x,¬AS us 0 c.size c [c.dflt] (some (0,cells)) i j x:=by
  rintro i j x ⟨row,c1,l1,a1,n,q,k1,k2,_⟩
  obtain ⟨_,rfl⟩:=rows i row k1
  have:=all_eq_true.1 hst _ (mem_of_getElem? k2)
  simp [V.stor] at this
 have g:=h.newBlk (id:=new) (by simpa using hf 0 (by omega)) (.cells us e) (.drow c [c.dflt] (some (0,cells))) (.at w.heap.size 0 c.size 1 1) rfl (.drow w.heap.size 0 c.size 1 1 c _ _ us e rfl (heap_alloc_new w _) ⟨rfl,le_refl _⟩ (by decide) (by omega) (fun i row j v k1 k2=>by
   obtain ⟨rfl,rfl⟩:=rows i row k1
   have hj:j<row.length:=(List.getElem?_eq_some_iff.1 k2).1
   have hju:j<us.toList.length:=by simp; omega
   have hv:=h4.2 j v _ k2 (getElem?_eq_getElem hju)
   exact ⟨us.toList[j],by rw [<-getElem?_eq_getElem hju]; simp,CRep.of_rep (hv.mono hw (fun _ h=>h) (fun _ _ h=>h)) (all_eq_true.1 hst _ (mem_of_getElem? k2))⟩) (fun p hp=>by cases hp; exact ⟨Nat.one_pos,hcl⟩) (fun i i' j j' x s1=>(nosub _ _ _ s1).elim) (fun i j x s1=>(nosub _ _ _ s1).elim)) (fun y hy=>by
   rcases hy with hy | ⟨us',e',i,j,k1,k2⟩
   ·exact hy
   ·rw [heap_alloc_new] at k1
    have k1:=Option.some.inj k1
    injection k1 with k1 _ _
    subst k1
    exact (nosub _ _ _ k2).elim)
 exact ⟨_,_,Bg μ new (.at w.heap.size 0 c.size 1 1),hrun,g.fr_mono (fun j hj=>⟨hj.1,by omega⟩),.ref new 0 1 w.heap.size 0 c.size 1 1 ⟨w.heap.size,0,none⟩ (Am _ _ _) (le_refl _) (by omega) (by decide) (.inr (by simp))⟩
theorem SimAt.ownRow {id:Nat} {c:Cd} {l:List c.den} (h:SimAt E R μ sl bl fr a w) {nl:Option Bool} (hb:bl id=some (.row false nl c l)) (hv : ∀ z∈l,∀ v∈enc c z,∀ c' l',v = .sl c' l'->l'=[])
  (hz : ∀ rb,μ id=some rb->∀ b off k cap len us e,rb = .at b off k cap len->w.heap[b]? = some (.cells us e (0,0))->∀ i z j c',l[i]? = some z->(enc c z)[j]? = some (.sl c' [])->us[off+(i*k+j)]? = some (.slice none 0 0)):SimAt E R μ sl (Au bl id (some (.drow c l none))) fr a w:=by
 obtain ⟨rb,hmu,hrep⟩:=h.mem.blk id _ hb
 have hz:=hz rb hmu
 cases hrep with
 | vac ao=>exact h.say hb rfl hmu (.dvac ao c) (fun y hy=>by simp [Foot,RB.real,Kq] at hy)
 | row b off k cap len _ _ _ _ us e hk hh h1 h2 h3 h4 h5=>
  have nosub : ∀ i j x,¬AS us off k c l none i j x:=by
   rintro i j x ⟨row,c1,l1,a1,n,q,k1,k2,k3,_⟩
   obtain ⟨z,hz1,rfl⟩:=map_eq_some_iff.1 (show (l[i]?).map (enc c)=some row from k1)
   have:=hv z (mem_of_getElem? hz1) _ (mem_of_getElem? k2) c1 l1 rfl
   subst this
   rw [hz b off k cap len us e rfl hh i z j c1 hz1 k2] at k3
   simp at k3
  refine h.say hb rfl hmu (.drow b off k cap len c l none us e hk hh h1 h2 h3 (fun i row j v k1 k2=>?_) (fun p hp=>by cases hp) (fun i i' j j' x s1=>(nosub _ _ _ s1).elim) (fun i j x s1=>(nosub _ _ _ s1).elim)) (fun y hy=>?_)
  ·obtain ⟨z,hz1,rfl⟩:=map_eq_some_iff.1 (show (l[i]?).map (enc c)=some row from k1)
   obtain ⟨u,hu,hr⟩:=h4 i z j v hz1 k2
   refine ⟨u,hu,?_⟩
   cases v with
   | sl c1 l1=>
    have:=hv z (mem_of_getElem? hz1) _ (mem_of_getElem? k2) c1 l1 rfl
    subst this
    rw [hz b off k cap len us e rfl hh i z j c1 hz1 k2] at hu
    simp at hu; subst hu
    exact Nest.vac c1 none
   | _=>exact hr
  ·rcases hy with hy | ⟨us',e',i,j,k1,k2⟩
   ·exact hy
   ·rw [hh] at k1
    have k1:=Option.some.inj k1
    injection k1 with k1 _ _
    subst k1
    exact (nosub _ _ _ k2).elim
theorem KG {u:Value} (h:AO u = .nl):u = .slice none 0 0:=by
 unfold AO at h
 split at h<;>first | rfl | cases h | (split at h<;>cases h)
theorem KF {u:Value} {c:Cd} {l:List c.den} (h:AO u = .sl c l):False:=by
 unfold AO at h
 split at h<;>first | cases h | (split at h<;>cases h)
theorem FO {new:Nat} {t e:TypeId} {ie:TypeInfo} {z:Value} {c:Cd} {zc:c.den} {k1 k2:IntKind} {L M:Int} (h:SimAt E R μ sl bl fr a w) (hf : ∀ c,c<16->fr (new+c))
  (hu:P.underlying t=some (.slice e)) (hi:P.info? e=some ie) (hz:ie.zero=some z) (hd:Ec c (z.cells.toList.map AO)=some zc) (hc:Dd P e c.size=true) (hb:0<=L/\L<=M/\M*P.bytesOf e<=140737488355328/\M<=9223372036854775807) :
  ∃ u w' μ',(Instr.makeSlice t (.int k1 L) (.int k2 M)).run P w = .ok u w'/\SimAt E R μ' sl (Au bl new (some (.drow c (replicate L.toNat zc) none))) (fun j=>fr j/\(j<new\/new+16<=j)) a w'/\VRep w' R μ' (.ref new 0 L.toNat) u:=by
 obtain ⟨u,w',μ',g1,g2,g3,us,b,cap,g4,g5,g6⟩:=DX (P:=P) (k1:=k1) (k2:=k2) h hf hu hi hz hd hc hb
 have hn:=Ic hd
 have ez : ∀ (j:Nat) (c':Cd) (l':List c'.den),(enc c zc)[j]? = some (V.sl c' l')->l'=[]/\z.cells[j]? = some (Value.slice none 0 0):=fun j c' l' hj=>by
  rcases hn.2 j _ hj with h1 | ⟨h1,c2,h2⟩
  ·rw [getElem?_map] at h1
   obtain ⟨u,_,h3⟩:=map_eq_some_iff.1 h1
   exact (KF h3).elim
  ·rw [getElem?_map] at h1
   obtain ⟨u,h3,h4⟩:=map_eq_some_iff.1 h1
   have:=KG h4
   subst this
   injection h2 with h5 h6
   subst h5
   exact ⟨eq_of_heq h6,by simpa using h3⟩
 have g:=g2.ownRow (id:=new) (c:=c) (l:=replicate L.toNat zc) (nl:=some false) (by simp only [Av]; exact Ah _ _ _) (fun y hy v hv c' l' e=>by
   rw [List.eq_of_mem_replicate hy] at hv
   obtain ⟨j,hj,e2⟩:=getElem_of_mem hv
   subst e
   exact (ez j c' l' (by rw [getElem?_eq_getElem hj,e2])).1) (fun rb hrb b2 off k cap2 len us2 e2 e3 hh i y j c' hy hj=>by
   rw [g4] at hrb
   injection hrb with hrb
   rw [<-hrb] at e3
   injection e3 with e4 e5 e6 e7 e8
   subst e4 e5 e6
   rw [g5] at hh
   have hh:=Option.some.inj hh
   injection hh with hh _ _
   subst hh
   have hy2:=List.getElem?_eq_some_iff.1 hy
   obtain ⟨hi2,hy3⟩:=hy2
   rw [List.getElem_replicate] at hy3
   subst hy3
   have hj2:j<c.size:=by have:=(List.getElem?_eq_some_iff.1 hj).1; rwa [A8] at this
   rw [g6 i j (by simpa using hi2) hj2]
   exact (ez j c' [] hj).2)
 refine ⟨u,w',μ',g1,?_,g3⟩
 have e:Au (Av bl [(new,some (.row false (some false) c (replicate L.toNat zc)))]) new (some (.drow c (replicate L.toNat zc) none))=Au bl new (some (.drow c (replicate L.toNat zc) none)):=by
  funext j
  simp only [Av]
  by_cases ej:j=new
  ·subst ej; rw [Ah,Ah]
  ·rw [Aw _ _ ej,Aw _ _ ej,Aw _ _ ej]
 rw [<-e]; exact g
end
end Go.Proofs.YthbecdipboideaaDoor.Den
/- Appends and conversions. -/
namespace Go.Proofs.YthbecdipboideaaDoor.Den

section
variable {P:Program} {E:Env} {R:Nat->Prop} {μ:Nat->Option RB} {sl:List V} {bl blr:Nat->Option Blk} {fr:Nat->Prop} {a:Act} {w:World}

theorem Bs {size n:Nat} {A:Addr} {cap m:Nat} {nc:List Value} (h:nc.length=n*size) (hc : ∀ j,j<nc.length->w.cell? (A.add j)=nc[j]?):(Builtin.firstCells size n (.slice (some A) m cap)).run P w = .ok nc.toArray w:=
 run_firstCells_some w size n A m cap nc h (fun j v hv=>by rw [hc j (List.getElem?_eq_some_iff.1 hv).1]; exact hv)

theorem DG {c:Cd} {y:V} {uy:Value} {news:List c.den} (hm:Mem w R μ blr) (hy:VRep w R μ y uy) (h:Dr blr c y=some news) :
  ∃ nc:List Value,(∀ w2:World,(Builtin.lenOf uy).run P w2 = .ok news.length w2)/\(∀ w2:World,w2.heap=w.heap->(Builtin.firstCells c.size news.length uy).run P w2 = .ok nc.toArray w2)/\nc.length=news.length*c.size/\RAt w R μ (fun m=>nc[m]?) c news/\(∀ u∈nc,u.oneCell'=true):=by
 have heapCell : ∀ {w2:World},w2.heap=w.heap->∀ A,w2.cell? A=w.cell? A:=fun {w2} e A=>by simp [World.cell?,e]
 unfold Dr at h
 split at h
 ·rename_i l
  split at h
  ·rename_i hc
   subst hc
   simp at h; subst h
   cases hy
   have e3:(⟨l.toArray⟩:ByteArray).size=l.length:=by simp [ByteArray.size]
   refine ⟨l.map fun z=>.int .u8 z.toNat,fun w2=>by simp [Builtin.lenOf,e3],fun w2 _=>?_,by simp [Cd.size],?_,by simp; intro z _; rfl⟩
   ·have:(⟨l.toArray⟩:ByteArray).extract 0 l.length=⟨l.toArray⟩:=by
     have:=ByteArray.extract_mk l 0 l.length; simpa using this
    simp [Builtin.firstCells,this]
   ·intro i z j v hz hv
    rw [getElem?_map] at hz
    obtain ⟨z0,hz0,rfl⟩:=map_eq_some_iff.1 hz
    simp only [enc] at hv
    cases j with
    | zero=>simp at hv; subst hv; exact ⟨.int .u8 z0.toNat,by simp [Cd.size,hz0],.i _ _⟩
    | succ j=>simp at hv
  ·cases h
 ·simp at h; subst h
  cases hy
  exact ⟨[],fun w2=>by simp [Builtin.lenOf],fun w2 _=>by simp [Builtin.firstCells],by simp,RAt.nil _ _,by simp⟩
 ·rename_i c' l
  split at h
  ·rename_i hc
   subst hc
   simp at h; subst h
   cases hy with
   | sl _ _ ao cap U h1 h2 h3 h4=>
   rcases h3 with h3 | ⟨b,off,rfl,hR,hcell⟩
   ·have:l=[]:=eq_nil_of_length_eq_zero h3
    subst this
    refine ⟨[],fun w2=>by simp [Builtin.lenOf],fun w2 _=>?_,by simp,RAt.nil _ _,by simp⟩
    cases ao<;>simp [Builtin.firstCells,loadCells,loadCellsFrom]
   ·have hat:RAt w R μ (fun m=>w.cell? ⟨b,off+m,none⟩) c' l:=fun i z j v hz hv=>⟨U i j,hcell i z j v hz hv,h4 i z j v hz hv⟩
    obtain ⟨nc,g1,g2,g3,g4⟩:=hat.list
    exact ⟨nc,fun w2=>by simp [Builtin.lenOf],fun w2 e=>Bs g1 (fun j hj=>by rw [heapCell e,AL]; exact g2 j hj),g1,g3,g4⟩
  ·cases h
 ·rename_i id lo n
  split at h
  ·rename_i ro nl c' l hb
   split at h
   ·rename_i hc
    subst hc
    simp at h; subst h
    obtain ⟨rb,hmu,hrep⟩:=hm.blk id _ hb
    cases hy with
    | vac _ ao hr=>
     refine ⟨[],fun w2=>by simp [Builtin.lenOf],fun w2 _=>?_,by simp,by simpa using RAt.nil _ _,by simp⟩
     cases ao<;>simp [Builtin.firstCells,loadCells,loadCellsFrom]
    | ref _ _ _ b off k cap len A hr h0 h3 h4 h5=>
     rw [hmu] at hr; simp at hr; subst hr
     cases hrep with
     | row _ _ _ _ _ _ _ _ _ us e hk hh h1 h2 h6 h7=>
     subst hk
     have hlen:((l.drop lo).take n).length=n:=by rw [length_take,length_drop]; omega
     have hat0:RAt w R μ (fun m=>us[off+m]?) c' l:=fun i z j v hz hv=>h7 i z j v hz hv
     have hat:=hat0.sub lo n
     obtain ⟨nc,g1,g2,g3,g4⟩:=hat.list
     refine ⟨nc,fun w2=>by simp only [Builtin.lenOf,Sem.run_pure,hlen],fun w2 e=>?_,g1,g3,g4⟩
     rw [hlen] at g1 ⊢
     by_cases hz:n=0
     ·subst hz
      have:nc=[]:=eq_nil_of_length_eq_zero (by simpa using g1)
      subst this
      simp [Builtin.firstCells,loadCells,loadCellsFrom]
     ·rcases h5 with h5 | rfl
      ·omega
      ·refine Bs g1 (fun j hj=>?_)
       rw [heapCell e,AL,cell_of_row w b _ us _ (0,0) hh,<-g2 j hj]
       congr 1; omega
   ·cases h
  ·cases h
 ·cases h

theorem BQ {t t2 ty e:TypeId} {d2:TypeDesc} {i:TypeInfo} {base:Option Addr} {sLen sCap n:Nat} {uy:Value} {nc:List Value} (ht:P.underlying t=some (.slice e)) (ht2:P.underlying t2=some d2) (hd2:(∃ e',d2 = .slice e')\/d2 = .string) (hi:P.info? e=some i)
  (hl:(Builtin.lenOf uy).run P w = .ok n w) (hf:(Builtin.firstCells i.size n uy).run P w = .ok nc.toArray w) (hr:sLen+n<=sCap) :
  (Builtin.append_ #[t,t2] ty #[.slice base sLen sCap,uy]).run P w=match base with
   | some a=>((storeCells (a.add (sLen*i.size)) nc).run P w).andThen fun _ w'=>.ok (.slice base (sLen+n) sCap) w'
   | none=>.ok (.slice none (sLen+n) sCap) w:=by
 rcases hd2 with ⟨e',rfl⟩ | rfl<;>cases base<;>simp [Builtin.append_,run_underlying ht,run_underlying ht2,sizeOf,typeInfo,hi,hl,hr,hf]

theorem Fj {t t2 ty e:TypeId} {d2:TypeDesc} {i:TypeInfo} {z:Value} {base:Option Addr} {sLen sCap n:Nat} {uy:Value} {nc olds:List Value} (ht:P.underlying t=some (.slice e)) (ht2:P.underlying t2=some d2) (hd2:(∃ e',d2 = .slice e')\/d2 = .string) (hi:P.info? e=some i) (hz:i.zero=some z)
  (hl:(Builtin.lenOf uy).run P w = .ok n w) (hf:(Builtin.firstCells i.size n uy).run P w.drew = .ok nc.toArray w.drew) (ho:(Builtin.firstCells i.size sLen (.slice base sLen sCap)).run P w.drew = .ok olds.toArray w.drew) (hr:sCap<sLen+n)
  (hb:(sLen+n)*i.bytes<=140737488355328) (h63:sLen+n<=maxI) :
  (Builtin.append_ #[t,t2] ty #[.slice base sLen sCap,uy]).run P w =
   .ok (.slice (some ⟨w.heap.size,0,none⟩) (sLen+n) (grownCap w (sLen+n) sCap e)) (w.drew.alloc (.cells (olds.toArray++nc.toArray++Builtin.zeroCells z.cells (grownCap w (sLen+n) sCap e-(sLen+n))) e)):=by
 have hn : ¬(sLen+n<=sCap):=by omega
 have h63' : ¬(9223372036854775807<((sLen:Int)+(n:Int))):=by unfold maxI at h63; omega
 have h48' : ¬(281474976710656<Builtin.nextslicecap (sLen+n) sCap*i.bytes):=by have:=growslice_fits hr hb; omega
 rcases hd2 with ⟨e',rfl⟩ | rfl
 ·simp [Builtin.append_,run_underlying ht,run_underlying ht2,sizeOf,typeInfo,zeroValue,hi,hz,hl,hn,h63',h48',Question.forced,hf,ho,newRow,grownCap]
  try (congr 2; apply Array.ext'; simp [List.append_assoc])
 ·simp [Builtin.append_,run_underlying ht,run_underlying ht2,sizeOf,typeInfo,zeroValue,hi,hz,hl,hn,h63',h48',Question.forced,hf,ho,newRow,grownCap]
  try (congr 2; apply Array.ext'; simp [List.append_assoc])

theorem D3 {e:TypeId} {n:Nat} (h:Ll P e n=true) : ∃ i z,P.info? e=some i/\i.size=n/\i.zero=some z/\z.cells.size=n:=by
 unfold Ll at h
 split at h
 ·rename_i i hi
  simp only [and_eq_true] at h
  obtain ⟨h1,h2⟩:=h
  have h1:=eq_of_beq_eq_true h1
  split at h2
  ·rename_i z hz
   exact ⟨i,z,hi,h1,hz,by rw [<-h1]; exact eq_of_beq_eq_true h2⟩
  ·cases h2
 ·cases h
theorem Ld {t:TypeId} (h:OC P t=true) : ∃ d,P.underlying t=some d/\((∃ e',d = .slice e')\/d = .string):=by
 unfold OC at h
 split at h
 ·rename_i e he; exact ⟨_,he,.inl ⟨e,rfl⟩⟩
 ·rename_i he; exact ⟨_,he,.inr rfl⟩
 ·cases h

theorem FW {t t2 ty e new sLen sCap:Nat} {i:TypeInfo} {z:Value} {d2:TypeDesc} {c:Cd} {base:Option Addr} {uy:Value} {nc olds:List Value} {old news:List c.den} {nl:Option Bool} (h:SimAt E R μ sl bl fr a w) (hf:fr new)
  (ht:P.underlying t=some (.slice e)) (ht2:P.underlying t2=some d2) (hd2:(∃ e',d2 = .slice e')\/d2 = .string) (hi:P.info? e=some i) (hsz:i.size=c.size) (hz:i.zero=some z) (hzs:z.cells.size=c.size)
  (hl : ∀ w2:World,(Builtin.lenOf uy).run P w2 = .ok news.length w2) (hfc : ∀ w2:World,w2.heap=w.heap->(Builtin.firstCells c.size news.length uy).run P w2 = .ok nc.toArray w2) (hnl:nc.length=news.length*c.size) (hna:RAt w R μ (fun m=>nc[m]?) c news)
  (hol:old.length=sLen) (ho : ∀ w2:World,w2.heap=w.heap->(Builtin.firstCells c.size sLen (.slice base sLen sCap)).run P w2 = .ok olds.toArray w2) (hoc:olds.length=sLen*c.size) (hoa:RAt w R μ (fun m=>olds[m]?) c old)
  (hr:sCap<sLen+news.length) (hb:(sLen+news.length)*i.bytes<=140737488355328) (h63:sLen+news.length<=maxI) (hnl2:nl≠some true:=by first | assumption | (simp; done)) :
  ∃ u w' μ',(Builtin.append_ #[t,t2] ty #[.slice base sLen sCap,uy]).run P w = .ok u w'/\SimAt E R μ' sl (Au bl new (some (.row false nl c (old++news)))) (fun j=>fr j/\j≠new) a w'/\VRep w' R μ' (.ref new 0 (sLen+news.length)) u:=by
 have hrun:=Fj (P:=P) (w:=w) (ty:=ty) ht ht2 hd2 hi hz (hl w) (by rw [hsz]; exact hfc _ rfl) (by rw [hsz]; exact ho _ rfl) hr hb h63
 have hge:=grownCap_ge w (sLen+news.length) sCap e
 have hle:grownCap w (sLen+news.length) sCap e<=maxI:=by have:=grownCap_le_maxLen w (sLen+news.length) sCap e (by unfold maxLen; unfold maxI at h63; omega); unfold maxLen at this; unfold maxI; omega
 have hzc : ∀ n,(Builtin.zeroCells z.cells n).size=n*c.size:=fun n=>by simp [Builtin.zeroCells,hzs]
 have hD:=h.sameHeap (w':=w.drew) rfl rfl rfl rfl
 have hat:RAt w.drew R μ (fun m=>(olds.toArray++nc.toArray++Builtin.zeroCells z.cells (grownCap w (sLen+news.length) sCap e-(sLen+news.length)))[m]?) c (old++news):=by
  refine (hoa.append hna (h:=fun m=>(olds.toArray++nc.toArray++Builtin.zeroCells z.cells (grownCap w (sLen+news.length) sCap e-(sLen+news.length)))[m]?) ?_ ?_).mono (fun _ _ _ h=>h) (fun _ _=>rfl) (fun _ h=>h) (fun _ _ h=>h)
  ·intro m u hm hu
   rw [hol,<-hoc] at hm
   rw [Array.getElem?_append_left (by simp; omega),Array.getElem?_append_left (by simpa using hm)]
   simpa using hu
  ·intro m u hm hu
   rw [<-hnl] at hm
   rw [hol,<-hoc]
   rw [Array.getElem?_append_left (by simp; omega),Array.getElem?_append_right (by simp)]
   simpa using hu
 have hnew:=hD.newRow_sound' (us:=olds.toArray++nc.toArray++Builtin.zeroCells z.cells (grownCap w (sLen+news.length) sCap e-(sLen+news.length))) (l:=old++news) (len:=sLen+news.length) (nl:=nl) (grownCap w (sLen+news.length) sCap e) e hf hat (by simp [hol]) hge hle (by
  simp only [Array.size_append,size_toArray,hzc,hoc,hnl,<-add_mul]
  exact mul_le_mul_right _ (by omega))
 exact ⟨_,_,Bg μ new (.at w.heap.size 0 c.size (grownCap w (sLen+news.length) sCap e) (sLen+news.length)),hrun,hnew,.ref new 0 _ w.heap.size 0 c.size _ _ ⟨w.heap.size,0,none⟩ (Am _ _ _) hge (by omega) hle (.inr (by simp))⟩

theorem SimAt.overRow {id p b off k cap len:Nat} {nl:Option Bool} {c:Cd} {l news:List c.den} {nc:List Value} {cur:Array Value} {e:TypeId} (h:SimAt E R μ sl bl fr a w) (hb:bl id=some (.row false nl c l)) (hmu:μ id=some (.at b off k cap len)) (hk:k=c.size)
  (hh:w.heap[b]? = some (.cells cur e (0,0))) (q1:l.length=len/\len<=cap) (q2:cap<=maxI) (q3:off+cap*k<=cur.size) (q4 : ∀ i z j v,l[i]? = some z->(enc c z)[j]? = some v->∃ u,cur[off+(i*k+j)]? = some u/\VRep w R μ v u)
  (n3:nc.length=news.length*c.size) (n4:RAt w R μ (fun m=>nc[m]?) c news) (hp:p+news.length<=l.length) :
  SimAt E R μ sl (Au bl id (some (.row false nl c (l.take p++news++l.drop (p+news.length))))) fr a (w.setRow b (Ai cur.toList (off+p*c.size) nc).toArray):=by
 have h6:nl≠some true:=by
  obtain ⟨rb,g1,g2⟩:=h.mem.blk id _ hb
  rw [hmu] at g1; simp at g1; subst g1
  cases g2; assumption
 subst hk
 have hpk:p*c.size+nc.length<=l.length*c.size:=by rw [n3,<-add_mul]; exact mul_le_mul_right _ hp
 have hlc:l.length*c.size<=cap*c.size:=mul_le_mul_right _ (by omega)
 have hfit:off+p*c.size+nc.length<=cur.toList.length:=by simp; omega
 have hw : ∀ k,R k->(w.setRow b (Ai cur.toList (off+p*c.size) nc).toArray).heap[k]? = w.heap[k]?:=fun k hR=>setRow_other _ _ _ _ (fun e=>by subst e; exact h.mem.sep id _ _ k hb rfl hmu rfl hR)
 refine h.setBlk (B':=.row false nl c (l.take p++news++l.drop (p+news.length))) hb rfl hmu rfl (setRow_size _ _ _) (fun k hk=>setRow_other _ _ _ _ hk) rfl rfl rfl ?_
 refine .row b off c.size cap len false nl c _ _ e rfl (setRow_heap w b cur _ e _ hh) ⟨by simp; omega,q1.2⟩ q2 (by simp [AI]; omega) ?_ (by simp)
 have hat0:RAt w R μ (fun m=>cur[off+m]?) c l:=fun i z j v hz hv=>q4 i z j v hz hv
 have hat1:=hat0.sub 0 p
 rw [List.drop_zero,Nat.zero_mul] at hat1
 have hat2:=hat0.sub (p+news.length) l.length
 rw [List.take_of_length_le (by simp)] at hat2
 have hpn:(p+news.length)*c.size=p*c.size+nc.length:=by rw [n3,add_mul]
 have hlt:(l.take p).length=p:=by rw [length_take]; omega
 have hall:RAt (w.setRow b (Ai cur.toList (off+p*c.size) nc).toArray) R μ (fun m=>(Ai cur.toList (off+p*c.size) nc)[off+m]?) c (l.take p++news++l.drop (p+news.length)):=by
  refine ((hat1.append n4 (h:=fun m=>if m<(p+news.length)*c.size then (Ai cur.toList (off+p*c.size) nc)[off+m]? else none) ?_ ?_).append hat2 (h:=fun m=>(Ai cur.toList (off+p*c.size) nc)[off+m]?) ?_ ?_).mono (fun _ _ _ h=>h) hw (fun _ h=>h) (fun _ _ h=>h)
  ·intro m u hm hu
   rw [hlt] at hm
   rw [if_pos (by omega),A3 _ _ _ _ hfit,if_neg (by omega),<-hu]
   simp
  ·intro m u hm hu
   rw [<-n3] at hm
   rw [hlt,if_pos (by omega),A3 _ _ _ _ hfit,if_pos (by omega),<-hu]
   congr 1; omega
  ·intro m u hm hu
   split at hu
   ·exact hu
   ·cases hu
  ·intro m u hm hu
   have e1:(l.take p++news).length=p+news.length:=by simp; omega
   rw [e1,hpn]
   rw [hpn] at hu
   rw [A3 _ _ _ _ hfit,if_neg (by omega),<-hu]
   simp [add_assoc]
 intro i z j v hz hv
 obtain ⟨u,hu1,hu2⟩:=hall i z j v hz hv
 exact ⟨u,by simpa using hu1,hu2⟩

theorem Kg {t e ty:TypeId} {id lo n:Nat} {nl:Option Bool} {c:Cd} {l:List c.den} {ie:TypeInfo} {zv:Value} {z:c.den} {u:Value} (h:SimAt E R μ sl bl fr a w) (hb:bl id=some (.row false nl c l)) (hv:VRep w R μ (.ref id lo n) u)
  (ht:P.underlying t=some (.slice e)) (hi:P.info? e=some ie) (hz:ie.zero=some zv) (hd:Ec c (zv.cells.toList.map AO)=some z) :
  ∃ w',(Builtin.clear_ #[t] ty #[u]).run P w = .ok (.tuple #[]) w'/\SimAt E R μ sl (Au bl id (some (.row false nl c (l.take lo++replicate n z++l.drop (lo+n))))) fr a w':=by
 have hzc:=Ce (w:=w) (R:=R) (μ:=μ) (Bt zv.cells.toList) hd
 have hzs:zv.cells.size=c.size:=by have:=hzc.1; rw [A8] at this; simpa using this
 have hone : ∀ u∈zv.cells.toList,u.oneCell'=true:=hzc.one (all_eq_true.2 fun v hv=>Dc c z v hv)
 obtain ⟨rb,hmu,hrep⟩:=h.mem.blk id _ hb
 by_cases hn0:n=0
 ·subst hn0
  have e1:l.take lo++replicate 0 z++l.drop (lo+0)=l:=by simp
  rw [e1]
  have e2:Au bl id (some (.row false nl c l))=bl:=by
   funext j
   unfold Au
   cases ej:beq j id with
   | true=>have:=eq_of_beq_eq_true ej; subst this; exact hb.symm
   | false=>rfl
  rw [e2]
  refine ⟨w,?_,h⟩
  cases hv with
  | vac _ ao hr=>cases ao<;>simp [Builtin.clear_,run_underlying ht]
  | ref _ _ _ b off k cap len A hr h0 h3 h4 h5=>simp [Builtin.clear_,run_underlying ht]
 ·cases hv with
  | vac=>exact absurd rfl hn0
  | ref _ _ _ b off k cap len A hr h0 h3 h4 h5=>
   rw [hmu] at hr; simp at hr; subst hr
   cases hrep with
   | row _ _ _ _ _ _ _ _ _ cur e' hk' hh q1 q2 q3 q4 q5=>
   rcases h5 with h5 | rfl
   ·omega
   ·subst hk'
    have hzl:(Builtin.zeroCells zv.cells n).toList.length=n*c.size:=by simp [Builtin.zeroCells,hzs]
    have hR:RAt w R μ (fun m=>(Builtin.zeroCells zv.cells n).toList[m]?) c (replicate n z):=by
     intro i z2 j v hz2 hv
     have hi2:i<n:=by have:=(List.getElem?_eq_some_iff.1 hz2).1; simpa using this
     rw [List.getElem?_replicate,if_pos hi2] at hz2
     simp at hz2; subst hz2
     have hj:j<c.size:=by have:=(List.getElem?_eq_some_iff.1 hv).1; rwa [A8] at this
     have hju:j<zv.cells.toList.length:=by simpa [hzs] using hj
     refine ⟨zv.cells.toList[j],?_,hzc.2 j v _ hv (by simp)⟩
     have:=CR zv.cells n
     have hlt:(i+1)*c.size<=n*c.size:=mul_le_mul_right _ hi2
     rw [add_mul] at hlt
     dsimp only
     have ez:(Builtin.zeroCells zv.cells n).toList=(replicate n ()).flatMap fun _=>zv.cells.toList:=by rw [<-this]; rfl
     rw [ez,D1]
     simp only [Array.length_toList,hzs]
     rw [if_pos (by omega),Nat.mul_comm i,mul_add_mod,mod_eq_of_lt hj]
     simp
    have hnc : ∀ u∈(Builtin.zeroCells zv.cells n).toList,u.oneCell'=true:=by
     intro u hu
     obtain ⟨j,hj,rfl⟩:=getElem_of_mem hu
     obtain ⟨u2,g1,g2⟩:=hR.all (m:=j) (by rw [length_replicate,<-hzl]; exact hj)
     rw [getElem?_eq_getElem hj] at g1
     injection g1 with g1; rw [g1]; exact g2
    have hlc:(lo+n)*c.size<=cap*c.size:=mul_le_mul_right _ (by omega)
    rw [add_mul] at hlc
    have hfit:off+lo*c.size+0+(Builtin.zeroCells zv.cells n).toList.length<=cur.size:=by rw [hzl]; omega
    have hst:=run_storeCells_at P b (off+lo*c.size) e' (Builtin.zeroCells zv.cells n).toList 0 cur w hh hfit hnc
    simp only [add_zero] at hst
    have e2:cur.toList.take (off+lo*c.size)++(Builtin.zeroCells zv.cells n).toList++cur.toList.drop (off+lo*c.size+(Builtin.zeroCells zv.cells n).toList.length)=Ai cur.toList (off+lo*c.size) (Builtin.zeroCells zv.cells n).toList:=(BB _ _ _ (by simpa using hfit)).symm
    rw [e2] at hst
    have hov:=h.overRow (p:=lo) (news:=replicate n z) hb hmu rfl hh q1 q2 q3 q4 (by rw [length_replicate]; exact hzl) hR (by rw [length_replicate]; omega)
    rw [length_replicate] at hov
    refine ⟨_,?_,hov⟩
    obtain ⟨n',rfl⟩:=Nat.exists_eq_succ_of_ne_zero hn0
    simp only [Builtin.clear_]
    simp [run_underlying ht,BX hi hz,hst]

theorem Il {id lo n:Nat} {y:V} (h:Im id y=some (lo,n)):y = .ref id lo n:=by
 unfold Im at h
 split at h
 ·split at h
  ·rename_i e
   have:=eq_of_beq_eq_true e
   simp at h
   obtain ⟨rfl,rfl⟩:=h
   rw [this]
  ·cases h
 ·cases h
theorem CRep.one {v:V} {u:Value} (h:CRep w R μ v u) (hs:v.single=true):u.oneCell'=true:=by
 cases v with
 | sl c l=>cases (show Nest w c l u from h)<;>rfl
 | _=>exact VRep.one h hs
theorem Ko {w':World} {us us2 us':Array Value} {off off2 off' k cap' n x:Nat} {c c2:Cd} {l:List c.den} {l2:List c2.den} {cs2:List V} {e':TypeId} (hk:k=c.size) (hl:l.length=n) (hcs:cs2.length=k)
  (hbase : ∀ i row j v,AW c l none i=some row->row[j]? = some v->∃ u,us[off+(i*k+j)]? = some u/\CRep w R μ v u)
  (hsrc : ∀ j v,cs2[j]? = some v->∃ u,us2[off2+(0*k+j)]? = some u/\CRep w R μ v u)
  (hinb : ∀ i i' j j' y,AS us off k c l none i j y->AS us off k c l none i' j' y->i=i'/\j=j')
  (hins : ∀ j j' y,AS us2 off2 k c2 l2 (some (0,cs2)) 0 j y->AS us2 off2 k c2 l2 (some (0,cs2)) 0 j' y->j=j')
  (hdis : ∀ i j j' y,AS us off k c l none i j y->AS us2 off2 k c2 l2 (some (0,cs2)) 0 j' y->False)
  (hx : ∀ i j y,AS us off k c l none i j y->y≠x) (hx2 : ∀ j y,AS us2 off2 k c2 l2 (some (0,cs2)) 0 j y->y≠x)
  (hh:w'.heap[x]? = some (.cells us' e' (0,0))) (hsame : ∀ y,y≠x->y<w.heap.size->w'.heap[y]? = w.heap[y]?) (hR : ∀ b,R b->w'.heap[b]? = w.heap[b]?)
  (hold : ∀ m,m<n*k->us'[off'+m]? = us[off+m]?) (hnew : ∀ j,j<k->us'[off'+(n*k+j)]? = us2[off2+(0*k+j)]?) (hc1:n+1<=cap') (hc2:cap'<=maxI) (hc3:off'+cap'*k<=us'.size) :
  BRep w' R μ (.at x off' k cap' (n+1)) (.drow c (l++[c.dflt]) (some (n,cs2)))/\∀ i j y,AS us' off' k c (l++[c.dflt]) (some (n,cs2)) i j y->(i<n/\AS us off k c l none i j y)\/(i=n/\AS us2 off2 k c2 l2 (some (0,cs2)) 0 j y):=by
 have src0:AW c2 l2 (some (0,cs2)) 0=some cs2:=by simp [AW]
 have rows : ∀ i row,AW c (l++[c.dflt]) (some (n,cs2)) i=some row->(i<n/\AW c l none i=some row)\/(i=n/\row=cs2):=fun i row h=>by
  by_cases e:i=n
  ·subst e; right; simp [AW] at h; exact ⟨rfl,h.symm⟩
  ·left
   have hlt:i<n:=by
    rcases Nat.lt_or_gt_of_ne e with h1 | h1
    ·exact h1
    ·simp [AW,e,List.getElem?_eq_none (show (l++[c.dflt]).length<=i by simp; omega)] at h
   refine ⟨hlt,?_⟩
   simp only [AW,e,if_false] at h
   rw [List.getElem?_append_left (by omega)] at h
   exact h
 have inN : ∀ i j row,i<n->AW c l none i=some row->j<row.length->i*k+j<n*k:=fun i j row hi hr hj=>by
  obtain ⟨z,_,rfl⟩:=map_eq_some_iff.1 hr
  rw [A8] at hj
  have:(i+1)*k<=n*k:=mul_le_mul_right _ hi
  rw [add_mul] at this; omega
 have hsub : ∀ i j y,AS us' off' k c (l++[c.dflt]) (some (n,cs2)) i j y->(i<n/\AS us off k c l none i j y)\/(i=n/\AS us2 off2 k c2 l2 (some (0,cs2)) 0 j y):=by
  rintro i j y ⟨row,c1,l1,a1,n1,q,k1,k2,k3,k4⟩
  have hj:j<row.length:=(List.getElem?_eq_some_iff.1 k2).1
  rcases rows i row k1 with ⟨hi,hr⟩ | ⟨rfl,rfl⟩
  ·rw [hold _ (inN i j row hi hr hj)] at k3
   exact .inl ⟨hi,row,c1,l1,a1,n1,q,hr,k2,k3,k4⟩
  ·rw [hnew j (by omega)] at k3
   exact .inr ⟨rfl,row,c1,l1,a1,n1,q,src0,k2,k3,k4⟩
 refine ⟨.drow x off' k cap' (n+1) c _ _ us' e' hk hh ⟨by simp [hl],hc1⟩ hc2 hc3 (fun i row j v k1 k2=>?_) (fun p hp=>by cases hp; exact ⟨Nat.lt_succ_self n,hcs⟩) (fun i i' j j' y s1 s2=>?_) (fun i j y s1=>?_),hsub⟩
 ·have hj:j<row.length:=(List.getElem?_eq_some_iff.1 k2).1
  rcases rows i row k1 with ⟨hi,hr⟩ | ⟨rfl,rfl⟩
  ·obtain ⟨u,q1,q2⟩:=hbase i row j v hr k2
   exact ⟨u,by rw [hold _ (inN i j row hi hr hj)]; exact q1,q2.mono hR (fun _ h=>h) (fun _ _ h=>h) (fun c1 l1 a1 n1 q e1 e2=>hsame _ (hx i j _ ⟨row,c1,l1,a1,n1,q,hr,by rw [k2,e1],by rw [q1,e2],rfl⟩) (by subst e1; exact Nest.lt q2 e2))⟩
  ·obtain ⟨u,q1,q2⟩:=hsrc j v k2
   exact ⟨u,by rw [hnew j (by omega)]; exact q1,q2.mono hR (fun _ h=>h) (fun _ _ h=>h) (fun c1 l1 a1 n1 q e1 e2=>hsame _ (hx2 j _ ⟨row,c1,l1,a1,n1,q,src0,by rw [k2,e1],by rw [q1,e2],rfl⟩) (by subst e1; exact Nest.lt q2 e2))⟩
 ·rcases hsub i j y s1 with ⟨h1,h2⟩ | ⟨h1,h2⟩<;>rcases hsub i' j' y s2 with ⟨h3,h4⟩ | ⟨h3,h4⟩
  ·exact hinb i i' j j' y h2 h4
  ·exact (hdis i j j' y h2 h4).elim
  ·exact (hdis i' j' j y h4 h2).elim
  ·exact ⟨h1.trans h3.symm,hins j j' y h2 h4⟩
 ·rcases hsub i j y s1 with ⟨_,h2⟩ | ⟨_,h2⟩
  ·exact hx i j y h2
  ·exact hx2 j y h2

theorem Cr {b off k cap len:Nat} {c:Cd} {l:List c.den} {op:Option (Nat×List V)} {us:Array Value} {e:TypeId} (h:w.heap[b]? = some (.cells us e (0,0))) {i j y:Nat} (hs:AS us off k c l op i j y):Foot w (.at b off k cap len) (.drow c l op) y:=.inr ⟨us,e,i,j,h,hs⟩
theorem B3 {us:Array Value} {off m j:Nat} (h:off+m<=us.size):(((us.toList.drop off).take m).length=m)/\(j<m->((us.toList.drop off).take m)[j]? = us[off+j]?):=by
 refine ⟨by simp; omega,fun hj=>?_⟩
 rw [List.getElem?_take,if_pos hj,List.getElem?_drop]; simp
theorem H8 {new t t2 ty e id id2 n:Nat} {c c2:Cd} {l:List c.den} {l2:List c2.den} {cs2:List V} {i:TypeInfo} {z:Value} {d2:TypeDesc} {uv uy:Value} (h:SimAt E R μ sl bl fr a w) (hf:fr new) (hb:bl id=some (.drow c l none)) (hb2:bl id2=some (.drow c2 l2 (some (0,cs2)))) (hne:id2≠id) (hv:VRep w R μ (.ref id 0 n) uv) (hy:VRep w R μ (.ref id2 0 1) uy)
  (ht:P.underlying t=some (.slice e)) (ht2:P.underlying t2=some d2) (hd2:(∃ e',d2 = .slice e')\/d2 = .string) (hi:P.info? e=some i) (hsz:i.size=c.size) (hz:i.zero=some z) (hzs:z.cells.size=c.size)
  (hn:n=l.length) (hcs:c2.size=c.size) (hsi:cs2.all V.single=true) (hby:(n+1)*i.bytes<=140737488355328) (h63:n+1<=maxI) :
  ∃ u w' μ',(Builtin.append_ #[t,t2] ty #[uv,uy]).run P w = .ok u w'/\SimAt E R μ' sl (Au (Au (Au bl id none) id2 none) new (some (.drow c (l++[c.dflt]) (some (n,cs2))))) (fun j=>fr j/\j≠new) a w'/\VRep w' R μ' (.ref new 0 (n+1)) u:=by
 obtain ⟨rb2,hmu2,hrep2⟩:=h.mem.blk id2 _ hb2
 obtain ⟨rb,hmu,hrep⟩:=h.mem.blk id _ hb
 have hfl : ∀ y,Foot w rb (.drow c l none) y->y<w.heap.size:=fun y hy=>hrep.lt hy
 have hfl2 : ∀ y,Foot w rb2 (.drow c2 l2 (some (0,cs2))) y->y<w.heap.size:=fun y hy=>hrep2.lt hy
 cases hy with
 | ref _ _ _ b2 off2 k2 cap2 len2 A2 hr2 h20 h23 h24 h25=>
 rw [hmu2] at hr2; simp at hr2; subst hr2
 cases hrep2 with
 | drow _ _ _ _ _ _ _ _ us2 e2 hk2 hh2 q1 q2 q3 q4 q5 q6 q7=>
 have hA2:A2=⟨b2,off2+0*k2,none⟩:=by rcases h25 with h25 | h25; omega; exact h25
 subst hA2
 have hcl:cs2.length=c.size:=by rw [(q5 _ rfl).2,hk2,hcs]
 have hk2':k2=c.size:=hk2.trans hcs
 subst hk2'
 have src0:AW c2 l2 (some (0,cs2)) 0=some cs2:=by simp [AW]
 have hcap2:1*c.size<=cap2*c.size:=mul_le_mul_right _ (by omega)
 rw [one_mul] at hcap2
 generalize hnc:(us2.toList.drop off2).take c.size=nc
 have hncl:nc.length=c.size:=by rw [<-hnc]; exact (B3 (j:=0) (by omega)).1
 have hncg : ∀ j,j<c.size->nc[j]? = us2[off2+j]?:=fun j hj=>by rw [<-hnc]; exact (B3 (by omega)).2 hj
 have hone : ∀ u∈nc,u.oneCell'=true:=fun u hu=>by
  obtain ⟨j,hj,rfl⟩:=getElem_of_mem hu
  rw [hncl] at hj
  have hjc:j<cs2.length:=by omega
  obtain ⟨u,g1,g2⟩:=q4 0 cs2 j cs2[j] src0 (by simp [hjc])
  have:=hncg j hj
  rw [show off2+(0*c.size+j)=off2+j by omega] at g1
  rw [g1,getElem?_eq_getElem (by omega)] at this
  injection this with this
  rw [this]
  exact g2.one (all_eq_true.1 hsi _ (getElem_mem hjc))
 have hlen : ∀ w2:World,(Builtin.lenOf (.slice (some ⟨b2,off2+0*c.size,none⟩) 1 (cap2-0))).run P w2 = .ok 1 w2:=fun w2=>by simp [Builtin.lenOf]
 have heapCell : ∀ {w2:World},w2.heap=w.heap->∀ A,w2.cell? A=w.cell? A:=fun {w2} e A=>by simp [World.cell?,e]
 have hfc : ∀ w2:World,w2.heap=w.heap->(Builtin.firstCells c.size 1 (.slice (some ⟨b2,off2+0*c.size,none⟩) 1 (cap2-0))).run P w2 = .ok nc.toArray w2:=fun w2 e3=>by
  refine Bs (by rw [hncl,one_mul]) (fun j hj=>?_)
  rw [heapCell e3,AL,cell_of_row w b2 _ us2 _ (0,0) hh2,hncg j (by omega)]
  congr 1; omega
 have hins : ∀ j j' y,AS us2 off2 c.size c2 l2 (some (0,cs2)) 0 j y->AS us2 off2 c.size c2 l2 (some (0,cs2)) 0 j' y->j=j':=fun j j' y s1 s2=>(q6 0 0 j j' y s1 s2).2
 have hsrc : ∀ j v,cs2[j]? = some v->∃ u,us2[off2+(0*c.size+j)]? = some u/\CRep w R μ v u:=fun j v hv=>q4 0 cs2 j v src0 hv
 -- the grown row
 have grow : ∀ (base:Option Addr) (sCap:Nat) (us:Array Value) (off:Nat) (olds:List Value),uv = .slice base n sCap->sCap<n+1->(∀ w2:World,w2.heap=w.heap->(Builtin.firstCells c.size n (.slice base n sCap)).run P w2 = .ok olds.toArray w2)->olds.length=n*c.size->(∀ m,m<n*c.size->olds[m]? = us[off+m]?)->
   (∀ i row j v,AW c l none i=some row->row[j]? = some v->∃ u,us[off+(i*c.size+j)]? = some u/\CRep w R μ v u)->(∀ i i' j j' y,AS us off c.size c l none i j y->AS us off c.size c l none i' j' y->i=i'/\j=j')->(∀ i j y,AS us off c.size c l none i j y->Foot w rb (.drow c l none) y)->
   ∃ u w' μ',(Builtin.append_ #[t,t2] ty #[uv,.slice (some ⟨b2,off2+0*c.size,none⟩) 1 (cap2-0)]).run P w = .ok u w'/\SimAt E R μ' sl (Au (Au (Au bl id none) id2 none) new (some (.drow c (l++[c.dflt]) (some (n,cs2))))) (fun j=>fr j/\j≠new) a w'/\VRep w' R μ' (.ref new 0 (n+1)) u:=fun base sCap us off olds huv hsc hof hol hog hbase hinb hft=>by
  subst huv
  have hrun:=Fj (P:=P) (w:=w) (ty:=ty) ht ht2 hd2 hi hz (hlen w) (by rw [hsz]; exact hfc _ rfl) (by rw [hsz]; exact hof _ rfl) hsc hby h63
  have hge:=grownCap_ge w (n+1) sCap e
  have hle:grownCap w (n+1) sCap e<=maxI:=by have:=grownCap_le_maxLen w (n+1) sCap e (by unfold maxLen; unfold maxI at h63; omega); unfold maxLen at this; unfold maxI; omega
  have hzc : ∀ n,(Builtin.zeroCells z.cells n).size=n*c.size:=fun n=>by simp [Builtin.zeroCells,hzs]
  have hD:=h.sameHeap (w':=w.drew) rfl rfl rfl rfl
  have hsame : ∀ y,y<w.heap.size->(w.drew.alloc (.cells (olds.toArray++nc.toArray++Builtin.zeroCells z.cells (grownCap w (n+1) sCap e-(n+1))) e)).heap[y]? = w.heap[y]?:=fun y hy=>BL _ _ hy
  obtain ⟨g1,g2⟩:=Ko (w:=w) (R:=R) (μ:=μ) (w':=w.drew.alloc (.cells (olds.toArray++nc.toArray++Builtin.zeroCells z.cells (grownCap w (n+1) sCap e-(n+1))) e)) (us:=us) (us2:=us2) (us':=olds.toArray++nc.toArray++Builtin.zeroCells z.cells (grownCap w (n+1) sCap e-(n+1))) (off:=off) (off2:=off2) (off':=0) (k:=c.size) (cap':=grownCap w (n+1) sCap e) (n:=n) (x:=w.heap.size) (c:=c) (c2:=c2) (l:=l) (l2:=l2) (cs2:=cs2) (e':=e) rfl hn.symm hcl hbase hsrc hinb hins
   (fun i j j' y s1 s2=>hne (h.mem.inj id2 id _ _ _ _ y hb2 hb rfl rfl hmu2 hmu (Cr hh2 s2) (hft i j y s1)))
   (fun i j y s1 e3=>by have:=hfl y (hft i j y s1); omega) (fun j y s1 e3=>by have:=hfl2 y (Cr hh2 s1); omega) (heap_alloc_new _ _) (fun y _ hy=>hsame y hy) (fun b hR=>hsame b (h.mem.rlt b hR))
   (fun m hm=>by
    rw [zero_add,Array.getElem?_append_left (by simp; omega),Array.getElem?_append_left (by simp; omega)]
    simpa using hog m hm)
   (fun j hj=>by
    rw [zero_add,Array.getElem?_append_left (by simp; omega),Array.getElem?_append_right (by simp; omega)]
    simp only [size_toArray,hol,Nat.add_sub_cancel_left]
    rw [show off2+(0*c.size+j)=off2+j by omega]
    simpa using hncg j hj)
   hge hle (by simp only [Array.size_append,size_toArray,hzc,hol,hncl]; rw [show n*c.size+c.size=(n+1)*c.size by rw [add_mul,one_mul],<-add_mul,zero_add]; exact mul_le_mul_right _ (by omega))
  have hre:=hD.rehome (B':=.drow c (l++[c.dflt]) (some (n,cs2))) (rb':=.at w.heap.size 0 c.size (grownCap w (n+1) sCap e) (n+1)) (.cells (olds.toArray++nc.toArray++Builtin.zeroCells z.cells (grownCap w (n+1) sCap e-(n+1))) e) hb rfl hmu hb2 rfl hmu2 hf g1 (fun y hy=>by
   rcases hy with hy | ⟨us3,e3,i3,j3,k1,k2⟩
   ·simp [RB.real] at hy; exact .inl hy.symm
   ·have:(w.drew.alloc (.cells (olds.toArray++nc.toArray++Builtin.zeroCells z.cells (grownCap w (n+1) sCap e-(n+1))) e)).heap[w.heap.size]? = _:=heap_alloc_new w.drew _
    have k1:=Option.some.inj (this.symm.trans k1)
    injection k1 with k1 _ _
    subst k1
    rcases g2 i3 j3 y k2 with ⟨_,k3⟩ | ⟨_,k3⟩
    ·exact .inr (.inl ((Cl (w:=w) (w':=w.drew) (fun _ _=>rfl)).2 (hft _ _ _ k3)))
    ·exact .inr (.inr ((Cl (w:=w) (w':=w.drew) (fun _ _=>rfl)).2 (Cr hh2 k3))))
  exact ⟨_,_,Bg μ new (.at w.heap.size 0 c.size (grownCap w (n+1) sCap e) (n+1)),hrun,hre,.ref new 0 _ w.heap.size 0 c.size _ _ ⟨w.heap.size,0,none⟩ (Am _ _ _) hge (by omega) hle (.inr (by simp))⟩
 cases hv with
 | vac _ ao hr=>
  rw [hmu] at hr; simp at hr; subst hr
  cases hrep with
  | dvac=>
  refine grow ao 0 #[] 0 [] rfl (by omega) (fun w2 _=>by cases ao<;>simp [Builtin.firstCells,loadCells,loadCellsFrom]) (by simp) (fun m hm=>by omega) (fun i row j v h1=>by simp [AW] at h1) ?_ ?_
  ·rintro i i' j j' y ⟨row,c1,l1,a1,n1,q,k1,_⟩; simp [AW] at k1
  ·rintro i j y ⟨row,c1,l1,a1,n1,q,k1,_⟩; simp [AW] at k1
 | ref _ _ _ b off k cap len A hr h0 h3 h4 h5=>
  rw [hmu] at hr; simp at hr; subst hr
  cases hrep with
  | drow _ _ _ _ _ _ _ _ us e' hk hh p1 p2 p3 p4 p5 p6 p7=>
  subst hk
  have hlenn:len=n:=by omega
  have hnc2:n*c.size<=cap*c.size:=mul_le_mul_right _ (by omega)
  by_cases hroom:n+1<=cap
  ·have hA:A=⟨b,off+0*c.size,none⟩:=by rcases h5 with h5 | h5; omega; exact h5
   subst hA
   have hrun:=BQ (P:=P) (w:=w) (ty:=ty) (base:=some ⟨b,off+0*c.size,none⟩) (sLen:=n) (sCap:=cap-0) ht ht2 hd2 hi (hlen w) (by rw [hsz]; exact hfc _ rfl) (by omega)
   have hrm:(n+1)*c.size<=cap*c.size:=mul_le_mul_right _ hroom
   rw [add_mul,one_mul] at hrm
   have hfit:off+n*c.size+0+nc.length<=us.size:=by rw [hncl]; omega
   have hst:=run_storeCells_at P b (off+n*c.size) e' nc 0 us w hh hfit hone
   simp only [add_zero] at hst
   have e3:us.toList.take (off+n*c.size)++nc++us.toList.drop (off+n*c.size+nc.length)=Ai us.toList (off+n*c.size) nc:=(BB _ _ _ (by simpa using hfit)).symm
   rw [e3] at hst
   have hbh:=setRow_heap w b us (Ai us.toList (off+n*c.size) nc).toArray e' (0,0) hh
   have hw : ∀ k,R k->(w.setRow b (Ai us.toList (off+n*c.size) nc).toArray).heap[k]? = w.heap[k]?:=fun k hR=>setRow_other _ _ _ _ (fun e=>by subst e; exact h.mem.sep id _ _ k hb rfl hmu (Foot.main rfl) hR)
   obtain ⟨g1,g2⟩:=Ko (w:=w) (R:=R) (μ:=μ) (w':=w.setRow b (Ai us.toList (off+n*c.size) nc).toArray) (us:=us) (us2:=us2) (us':=(Ai us.toList (off+n*c.size) nc).toArray) (off:=off) (off2:=off2) (off':=off) (k:=c.size) (cap':=cap) (n:=n) (x:=b) (c:=c) (c2:=c2) (l:=l) (l2:=l2) (cs2:=cs2) (e':=e') rfl hn.symm hcl p4 hsrc p6 hins
    (fun i j j' y s1 s2=>hne (h.mem.inj id2 id _ _ _ _ y hb2 hb rfl rfl hmu2 hmu (Cr hh2 s2) (Cr hh s1)))
    (fun i j y s1=>p7 i j y s1) (fun j y s1 e3=>by subst e3; exact hne (h.mem.inj id2 id _ _ _ _ y hb2 hb rfl rfl hmu2 hmu (Cr hh2 s1) (Foot.main rfl))) hbh (fun y hy _=>setRow_other _ _ _ _ hy) hw
    (fun m hm=>by
     simp only [getElem?_toArray]
     rw [A3 _ _ _ _ (by simpa using hfit),if_neg (by omega)]; simp)
    (fun j hj=>by
     simp only [getElem?_toArray]
     rw [A3 _ _ _ _ (by simpa using hfit),if_pos (by omega),show off2+(0*c.size+j)=off2+j by omega,<-hncg j hj]
     congr 1; omega)
    hroom p2 (by simpa [AI] using p3)
   have hmv:=h.move2 (B':=.drow c (l++[c.dflt]) (some (n,cs2))) (rb':=.at b off c.size cap (n+1)) (w':=w.setRow b (Ai us.toList (off+n*c.size) nc).toArray) hb rfl hmu rfl hf rfl hb2 rfl hmu2 (setRow_size _ _ _) (fun k hk=>setRow_other _ _ _ _ hk) rfl rfl rfl g1 rfl (fun y hy=>by
    rcases hy with hy | ⟨us3,e3,i3,j3,k1,k2⟩
    ·exact .inl (.inl hy)
    ·rw [hbh] at k1
     simp at k1; obtain ⟨rfl,_⟩:=k1
     rcases g2 i3 j3 y k2 with ⟨_,k3⟩ | ⟨_,k3⟩
     ·exact .inl (Cr hh k3)
     ·exact .inr (Cr hh2 k3))
   refine ⟨.slice (some ⟨b,off+0*c.size,none⟩) (n+1) (cap-0),_,_,?_,hmv,.ref new 0 _ b off c.size cap (n+1) _ (Am _ _ _) hroom (by omega) h4 (.inr rfl)⟩
   rw [hrun]
   simp only [AL,hsz]
   rw [show off+0*c.size+n*c.size=off+n*c.size by omega,hst]
   rfl
  ·refine grow (some A) (cap-0) us off ((us.toList.drop off).take (n*c.size)) rfl (by omega) (fun w2 e2=>?_) (B3 (j:=0) (by omega)).1 (fun m hm=>(B3 (by omega)).2 hm) p4 p6 (fun i j y s1=>Cr hh s1)
   by_cases hn0:n=0
   ·subst hn0; simp [Builtin.firstCells,loadCells,loadCellsFrom]
   ·rcases h5 with h5 | rfl
    ·omega
    ·refine Bs (B3 (j:=0) (by omega)).1 (fun j hj=>?_)
     rw [(B3 (j:=0) (by omega)).1] at hj
     rw [heapCell e2,AL,cell_of_row w b _ us _ (0,0) hh,(B3 (by omega)).2 hj]
     congr 1; omega

theorem IR {new t t2 ty:Nat} {v y v':V} {uv uy:Value} {us:Upd} (h:SimAt E R μ sl bl fr a w) (hs : ∀ id B,blr id=some B->bl id=some B) (hf : ∀ c,c<16->fr (new+c)) (hv:VRep w R μ v uv) (hy:VRep w R μ y uy)
  (hk:E4 P blr new t t2 v y (fun v us=>some (v,us))=some (v',us)) :
  ∃ u w' μ',(Builtin.append_ #[t,t2] ty #[uv,uy]).run P w = .ok u w'/\SimAt E R μ' sl (Av bl us) (fun j=>fr j/\(j<new\/new+16<=j)) a w'/\VRep w' R μ' v' u:=by
 have hm:=h.mem.sub hs
 have hnf:=hf 0 (by omega)
 rw [add_zero] at hnf
 unfold E4 at hk
 split at hk
 ·rename_i e he
  obtain ⟨hsrc,hk⟩:=Ac hk
  obtain ⟨d2,ht2,hd2⟩:=Ld hsrc
  have ht:P.underlying t=some (.slice e):=by
   unfold Ct at he
   split at he
   ·simp at he; subst he; assumption
   ·cases he
  split at hk
  ·rename_i id lo n _
   split at hk
   ·rename_i nl c l hb
    split at hk
    ·rename_i lo2 n2 hself
     rw [Il hself] at hy
     obtain ⟨hel,hk⟩:=Ac hk
     obtain ⟨hbd,hk⟩:=Ac hk
     simp only [Option.some.injEq,Prod.mk.injEq] at hk; obtain ⟨rfl,rfl⟩:=hk
     have hbd:=of_decide_eq_true hbd
     obtain ⟨i,z,hi,hsz,hz,hzs⟩:=D3 hel
     have hl2:((l.drop lo2).take n2).length=n2:=by rw [length_take,length_drop]; omega
     have hnews:Dr blr c (.ref id lo2 n2)=some ((l.drop lo2).take n2):=by simp [Dr,hb]
     obtain ⟨nc,n1,m2,n3,n4,n5⟩:=DG (P:=P) hm hy hnews
     rw [hl2] at n1 m2 n3
     have hbl:=hs _ _ hb
     obtain ⟨rb,hmu,hrep⟩:=h.mem.blk id _ hbl
     simp only [Av]
     by_cases hn0:n2=0
     ·subst hn0
      have:nc=[]:=eq_nil_of_length_eq_zero (by simpa using n3)
      subst this
      have e1:l.take (lo+n)++(l.drop lo2).take 0++l.drop (lo+n+0)=l:=by simp
      rw [e1,add_zero]
      have e2:Au bl id (some (.row false nl c l))=bl:=by
       funext j
       unfold Au
       cases ej:beq j id with
       | true=>have:=eq_of_beq_eq_true ej; subst this; exact hbl.symm
       | false=>rfl
      rw [e2]
      have hv':=hv
      have key : ∀ base cap,uv = .slice base n cap->n<=cap->(Builtin.append_ #[t,t2] ty #[uv,uy]).run P w = .ok uv w:=by
       intro base cap e hc
       subst e
       rw [BQ (P:=P) (w:=w) (ty:=ty) ht ht2 hd2 hi (n1 w) (by rw [hsz]; exact m2 w rfl) (by simpa using hc)]
       cases base<;>simp [storeCells]
      refine ⟨uv,w,μ,?_,h.fr_mono (fun j hj=>hj.1),hv'⟩
      cases hv with
      | vac _ ao hr=>exact key _ _ rfl (le_refl _)
      | ref _ _ _ b off k cap len A hr h0 h3 h4 h5=>exact key _ _ rfl (by omega)
     ·cases hv with
      | vac _ ao hr=>
       rw [hmu] at hr; simp at hr; subst hr
       cases hrep
       simp at hbd; omega
      | ref _ _ _ b off k cap len A hr h0 h3 h4 h5=>
       rw [hmu] at hr; simp at hr; subst hr
       cases hrep with
       | row _ _ _ _ _ _ _ _ _ cur e' hk' hh q1 q2 q3 q4 q5=>
       rcases h5 with h5 | rfl
       ·omega
       ·have hrun:=BQ (P:=P) (w:=w) (ty:=ty) (base:=some ⟨b,off+lo*k,none⟩) (sLen:=n) (sCap:=cap-lo) ht ht2 hd2 hi (n1 w) (by rw [hsz]; exact m2 w rfl) (by omega)
        have hlc:(lo+n+n2)*c.size<=cap*c.size:=mul_le_mul_right _ (by omega)
        rw [add_mul] at hlc
        subst hk'
        have hfit:off+(lo+n)*c.size+0+nc.length<=cur.size:=by rw [n3]; omega
        have hst:=run_storeCells_at P b (off+(lo+n)*c.size) e' nc 0 cur w hh hfit n5
        simp only [add_zero] at hst
        have e2:cur.toList.take (off+(lo+n)*c.size)++nc++cur.toList.drop (off+(lo+n)*c.size+nc.length)=Ai cur.toList (off+(lo+n)*c.size) nc:=(BB _ _ _ (by simpa using hfit)).symm
        rw [e2] at hst
        have hov:=h.overRow (p:=lo+n) (news:=(l.drop lo2).take n2) hbl hmu rfl hh q1 q2 q3 q4 (by rw [hl2]; exact n3) n4 (by rw [hl2]; exact hbd.1)
        rw [hl2] at hov
        refine ⟨.slice (some ⟨b,off+lo*c.size,none⟩) (n+n2) (cap-lo),_,μ,?_,hov.fr_mono (fun j hj=>hj.1),.ref id lo (n+n2) b off c.size cap len _ hmu h0 (by omega) h4 (.inr rfl)⟩
        rw [hrun]
        simp only [AL,hsz]
        rw [show off+lo*c.size+n*c.size=off+(lo+n)*c.size by rw [add_mul,add_assoc],hst]
        rfl
    split at hk
    ·rename_i news hnews
     obtain ⟨hel,hk⟩:=Ac hk
     obtain ⟨hbd,hk⟩:=Ac hk
     simp at hk; obtain ⟨rfl,rfl⟩:=hk
     simp only [and_eq_true,decide_eq_true_eq] at hbd
     obtain ⟨i,z,hi,hsz,hz,hzs⟩:=D3 hel
     have hby:P.bytesOf e=i.bytes:=by simp [Program.bytesOf,hi]
     rw [hby] at hbd
     obtain ⟨nc,n1,n2,n3,n4,n5⟩:=DG (P:=P) hm hy hnews
     have hbl:=hs _ _ hb
     obtain ⟨rb,hmu,hrep⟩:=h.mem.blk id _ hbl
     have hkill:=h.kill id
     have hne : ∀ j,(fr j/\j≠new)->True:=fun _ _=>trivial
     simp only [Av]
     cases hv with
     | vac _ ao hr=>
      rw [hmu] at hr; simp at hr; subst hr
      cases hrep with
      | vac=>
      by_cases hz0:news.length=0
      ·have:news=[]:=eq_nil_of_length_eq_zero hz0
       subst this
       have:nc=[]:=eq_nil_of_length_eq_zero (by simpa using n3)
       subst this
       have hrun:=BQ (P:=P) (w:=w) (ty:=ty) (base:=ao) (sLen:=0) (sCap:=0) ht ht2 hd2 hi (n1 w) (by rw [hsz]; exact n2 w rfl) (by simp)
       refine ⟨.slice ao 0 0,w,_,?_,(hkill.newVac hnf ao false (some false) c).fr_mono (fun j hj=>⟨hj.1,by omega⟩),.vac new ao (Am _ _ _)⟩
       rw [hrun]
       cases ao<;>simp [storeCells]
      ·obtain ⟨u,w',μ',g1,g2,g3⟩:=FW (P:=P) (w:=w) (ty:=ty) (old:=([]:List c.den)) (olds:=[]) (base:=ao) (sLen:=0) (sCap:=0) (nl:=some false) hkill hnf ht ht2 hd2 hi hsz hz hzs n1 n2 n3 n4 rfl (fun w2 _=>by cases ao<;>simp [Builtin.firstCells,loadCells,loadCellsFrom]) (by simp) (RAt.nil _ _) (by omega) (by simpa using hbd.1) (by simpa using hbd.2)
       exact ⟨u,w',μ',g1,by simpa using g2.fr_mono (fun j hj=>⟨hj.1,by omega⟩),by simpa using g3⟩
     | ref _ _ _ b off k cap len A hr h0 h3 h4 h5=>
      rw [hmu] at hr; simp at hr; subst hr
      cases hrep with
      | row _ _ _ _ _ _ _ _ _ cur e' hk' hh q1 q2 q3 q4 q5=>
      subst hk'
      have hlen:((l.drop lo).take n).length=n:=by rw [length_take,length_drop]; omega
      have hat0:RAt w R μ (fun m=>cur[off+m]?) c l:=fun i z j v hz hv=>q4 i z j v hz hv
      have hat:=hat0.sub lo n
      by_cases hroom:n+news.length<=cap-lo
      ·have hrun:=BQ (P:=P) (w:=w) (ty:=ty) (base:=some A) (sLen:=n) (sCap:=cap-lo) ht ht2 hd2 hi (n1 w) (by rw [hsz]; exact n2 w rfl) hroom
       by_cases hc0:cap-lo=0
       ·have hn0:n=0:=by omega
        have hnw:news=[]:=eq_nil_of_length_eq_zero (by omega)
        subst hn0 hnw
        have:nc=[]:=eq_nil_of_length_eq_zero (by simpa using n3)
        subst this
        refine ⟨.slice (some A) 0 0,w,Bg μ new (.vac (some A)),?_,?_,.vac new (some A) (Am _ _ _)⟩
        ·rw [hrun]; simp [storeCells,hc0]
        ·have:=(hkill.newVac hnf (some A) false (some false) c).fr_mono (fr':=fun j=>fr j/\(j<new\/new+16<=j)) (fun j hj=>⟨hj.1,by omega⟩)
         simpa using this
       ·rcases h5 with h5 | rfl
        ·exact absurd h5 hc0
        ·have hcl:(cap-lo)*c.size+lo*c.size=cap*c.size:=by rw [<-add_mul]; congr 1; omega
         have hrm:(n+news.length)*c.size<=(cap-lo)*c.size:=mul_le_mul_right _ hroom
         rw [add_mul] at hrm
         have hfit:off+lo*c.size+n*c.size+0+nc.length<=cur.size:=by rw [n3]; omega
         have hst:=run_storeCells_at P b (off+lo*c.size+n*c.size) e' nc 0 cur w hh hfit n5
         simp only [add_zero] at hst
         have e2:cur.toList.take (off+lo*c.size+n*c.size)++nc++cur.toList.drop (off+lo*c.size+n*c.size+nc.length)=Ai cur.toList (off+lo*c.size+n*c.size) nc:=(BB _ _ _ (by simpa using hfit)).symm
         rw [e2] at hst
         have hw : ∀ k,R k->(w.setRow b (Ai cur.toList (off+lo*c.size+n*c.size) nc).toArray).heap[k]? = w.heap[k]?:=fun k hR=>setRow_other _ _ _ _ (fun e=>by subst e; exact h.mem.sep id _ _ k hbl rfl hmu rfl hR)
         refine ⟨.slice (some ⟨b,off+lo*c.size,none⟩) (n+news.length) (cap-lo),w.setRow b (Ai cur.toList (off+lo*c.size+n*c.size) nc).toArray,Bg μ new (.at b (off+lo*c.size) c.size (cap-lo) (n+news.length)),?_,?_,.ref new 0 _ b (off+lo*c.size) c.size (cap-lo) (n+news.length) _ (Am _ _ _) hroom (by omega) (by omega) (.inr (by simp))⟩
         ·rw [hrun]
          simp only [AL,hsz,hst,Result.andThen_ok]
         ·refine (h.move (B':=.row false (some false) c ((l.drop lo).take n++news)) hbl rfl hmu rfl hnf rfl (setRow_size _ _ _) (fun k hk=>setRow_other _ _ _ _ hk) rfl rfl rfl ?_ rfl).fr_mono (fun j hj=>⟨hj.1,by omega⟩)
          refine .row b (off+lo*c.size) c.size (cap-lo) (n+news.length) false _ c _ _ e' rfl (setRow_heap w b cur _ e' _ hh) ⟨by simp [hlen],hroom⟩ (by omega) (by simp [AI]; omega) ?_ (by simp)
          have hall:RAt (w.setRow b (Ai cur.toList (off+lo*c.size+n*c.size) nc).toArray) R μ (fun m=>(Ai cur.toList (off+lo*c.size+n*c.size) nc)[off+lo*c.size+m]?) c ((l.drop lo).take n++news):=by
           refine (hat.append n4 (h:=fun m=>(Ai cur.toList (off+lo*c.size+n*c.size) nc)[off+lo*c.size+m]?) ?_ ?_).mono (fun _ _ _ h=>h) hw (fun _ h=>h) (fun _ _ h=>h)
           ·intro m u hm hu
            rw [hlen] at hm
            rw [A3 _ _ _ _ (by simpa using hfit),if_neg (by omega),<-hu]
            simp [add_assoc]
           ·intro m u hm hu
            rw [<-n3] at hm
            rw [hlen,A3 _ _ _ _ (by simpa using hfit),if_pos (by omega),<-hu]
            congr 1; omega
          intro i z j v hz hv
          obtain ⟨u,hu1,hu2⟩:=hall i z j v hz hv
          exact ⟨u,by simpa using hu1,hu2⟩
      ·obtain ⟨olds,o1,o2,o3,o4⟩:=hat.list
       rw [hlen] at o1
       have hof : ∀ w2:World,w2.heap=w.heap->(Builtin.firstCells c.size n (.slice (some A) n (cap-lo))).run P w2 = .ok olds.toArray w2:=fun w2 e2=>by
        by_cases hn0:n=0
        ·subst hn0
         have:olds=[]:=eq_nil_of_length_eq_zero (by simpa using o1)
         subst this
         simp [Builtin.firstCells,loadCells,loadCellsFrom]
        ·rcases h5 with h5 | rfl
         ·omega
         ·refine Bs o1 (fun j hj=>?_)
          have heapCell : ∀ B,w2.cell? B=w.cell? B:=fun B=>by simp [World.cell?,e2]
          rw [heapCell,AL,cell_of_row w b _ cur _ (0,0) hh,<-o2 j hj]
          congr 1; omega
       obtain ⟨u,w',μ',g1,g2,g3⟩:=FW (P:=P) (w:=w) (ty:=ty) (old:=(l.drop lo).take n) (olds:=olds) (base:=some A) (sLen:=n) (sCap:=cap-lo) (nl:=some false) hkill hnf ht ht2 hd2 hi hsz hz hzs n1 n2 n3 n4 hlen hof o1 o3 (by omega) hbd.1 hbd.2
       exact ⟨u,w',μ',g1,g2.fr_mono (fun j hj=>⟨hj.1,by omega⟩),g3⟩
    ·cases hk
   ·rename_i c l hb
    split at hk
    ·rename_i id2 lo2 n2 _
     split at hk
     ·rename_i c2 l2 p1 p2 hnb hb2
      obtain ⟨hel,hk⟩:=Ac hk
      obtain ⟨hbd,hk⟩:=Ac hk
      simp only [Option.some.injEq,Prod.mk.injEq] at hk; obtain ⟨rfl,rfl⟩:=hk
      simp only [and_eq_true] at hbd
      obtain ⟨hd,⟨hb3,hb4⟩,hb5,hb6⟩:=hbd
      obtain ⟨rfl,hn,rfl,rfl,hl2,hp⟩:=of_decide_eq_true hd
      obtain ⟨i,z,hi,hsz,hz,hzs⟩:=D3 hel
      have hby:P.bytesOf e=i.bytes:=by simp [Program.bytesOf,hi]
      rw [hby] at hb5
      have hp:p1=0:=hp
      subst hp
      have hne:id2≠id:=fun e=>by subst e; simp at hnb
      obtain ⟨u,w',μ',g1,g2,g3⟩:=H8 (P:=P) (ty:=ty) h hnf (hs _ _ hb) (hs _ _ hb2) hne hv hy ht ht2 hd2 hi hsz hz hzs hn (eq_of_beq_eq_true hb3) hb4 (of_decide_eq_true hb5) (of_decide_eq_true hb6)
      exact ⟨u,w',μ',g1,by rw [<-hn]; exact g2.fr_mono (fun j hj=>⟨hj.1,by omega⟩),g3⟩
     ·cases hk
    ·cases hk
   ·cases hk
  ·cases hv
   split at hk
   ·rename_i c hc
    split at hk
    ·rename_i news hnews
     obtain ⟨hel,hk⟩:=Ac hk
     obtain ⟨hbd,hk⟩:=Ac hk
     simp at hk; obtain ⟨rfl,rfl⟩:=hk
     simp only [and_eq_true,decide_eq_true_eq] at hbd
     obtain ⟨i,z,hi,hsz,hz,hzs⟩:=D3 hel
     have hby:P.bytesOf e=i.bytes:=by simp [Program.bytesOf,hi]
     rw [hby] at hbd
     obtain ⟨nc,n1,n2,n3,n4,n5⟩:=DG (P:=P) hm hy hnews
     simp only [Av]
     by_cases hz0:news.length=0
     ·have:news=[]:=eq_nil_of_length_eq_zero hz0
      subst this
      have:nc=[]:=eq_nil_of_length_eq_zero (by simpa using n3)
      subst this
      have hrun:=BQ (P:=P) (w:=w) (ty:=ty) (base:=none) (sLen:=0) (sCap:=0) ht ht2 hd2 hi (n1 w) (by rw [hsz]; exact n2 w rfl) (by simp)
      exact ⟨.slice none 0 0,w,_,by rw [hrun]; simp,(h.newVac hnf none false none c).fr_mono (fun j hj=>⟨hj.1,by omega⟩),.vac new none (Am _ _ _)⟩
     ·obtain ⟨u,w',μ',g1,g2,g3⟩:=FW (P:=P) (w:=w) (ty:=ty) (old:=([]:List c.den)) (olds:=[]) (base:=none) (sLen:=0) (sCap:=0) (nl:=none) h hnf ht ht2 hd2 hi hsz hz hzs n1 n2 n3 n4 rfl (fun w2 _=>by simp [Builtin.firstCells]) (by simp) (RAt.nil _ _) (by omega) (by simpa using hbd.1) (by simpa using hbd.2)
      exact ⟨u,w',μ',g1,by simpa using g2.fr_mono (fun j hj=>⟨hj.1,by omega⟩),by simpa using g3⟩
    ·cases hk
   ·cases hk
  ·cases hk
 ·cases hk
theorem GE {t t2 ty e:TypeId} {kd kd2:IntKind} {i:TypeInfo} {z:Value} {base:Option Addr} {sLen sCap:Nat} {m:Int} (ht:P.underlying t=some (.slice e)) (ht2:P.underlying t2=some (.int kd2)) (hi:P.info? e=some i) (hz:i.zero=some z) (hzs:z.cells.size=i.size)
  (hm:0<=m/\m<=1000000) (hb:(sLen+m.toNat)*i.bytes<=140737488355328) (hr:sLen+m.toNat<=sCap) :
  (Builtin.append_ #[t,t2] ty #[.slice base sLen sCap,.int kd m]).run P w=match base with
   | some a=>((storeCells (a.add (sLen*i.size)) (Builtin.zeroCells z.cells m.toNat).toList).run P w).andThen fun _ w'=>.ok (.slice base (sLen+m.toNat) sCap) w'
   | none=>.ok (.slice none (sLen+m.toNat) sCap) w:=by
 have w1:IntKind.i64.wrap m=m:=IntWalk.i64_in _ (by omega)
 have hlt : ¬(m<0):=by omega
 have hbig : ¬((281474976710656:Int)<m*(i.bytes:Int)):=by
  have h1:m.toNat*i.bytes<=(sLen+m.toNat)*i.bytes:=mul_le_mul_right _ (by omega)
  have h2:m*(i.bytes:Int)=((m.toNat*i.bytes:Nat):Int):=by rw [Int.natCast_mul,Int.toNat_of_nonneg hm.1]
  rw [h2]; omega
 by_cases h0:m.toNat*i.size=0
 ·have e0:Builtin.zeroCells z.cells m.toNat = #[]:=by
   unfold Builtin.zeroCells
   rw [hzs,h0]
   simp
  cases base<;>simp [Builtin.append_,run_underlying ht,run_underlying ht2,sizeOf,typeInfo,asInt,asIntOf,w1,hlt,hbig,hi,hr,h0,e0]
 ·cases base<;>simp [Builtin.append_,run_underlying ht,run_underlying ht2,sizeOf,typeInfo,asInt,asIntOf,w1,hlt,hbig,hi,hr,h0,BX hi hz]
theorem GF {t t2 ty e:TypeId} {kd kd2:IntKind} {i:TypeInfo} {z:Value} {base:Option Addr} {sLen sCap:Nat} {m:Int} {olds:List Value} (ht:P.underlying t=some (.slice e)) (ht2:P.underlying t2=some (.int kd2)) (hi:P.info? e=some i) (hz:i.zero=some z) (hzs:z.cells.size=i.size)
  (hm:0<=m/\m<=1000000) (ho:(Builtin.firstCells i.size sLen (.slice base sLen sCap)).run P w.drew = .ok olds.toArray w.drew) (hr:sCap<sLen+m.toNat)
  (hb:(sLen+m.toNat)*i.bytes<=140737488355328) (h63:sLen+m.toNat<=maxI) :
  (Builtin.append_ #[t,t2] ty #[.slice base sLen sCap,.int kd m]).run P w =
   .ok (.slice (some ⟨w.heap.size,0,none⟩) (sLen+m.toNat) (grownCap w (sLen+m.toNat) sCap e)) (w.drew.alloc (.cells (olds.toArray++(Builtin.zeroCells z.cells m.toNat).toList.toArray++Builtin.zeroCells z.cells (grownCap w (sLen+m.toNat) sCap e-(sLen+m.toNat))) e)):=by
 have hn : ¬(sLen+m.toNat<=sCap):=by omega
 have h63' : ¬(9223372036854775807<((sLen:Int)+(m.toNat:Int))):=by unfold maxI at h63; omega
 have h48' : ¬(281474976710656<Builtin.nextslicecap (sLen+m.toNat) sCap*i.bytes):=by have:=growslice_fits hr hb; omega
 have w1:IntKind.i64.wrap m=m:=IntWalk.i64_in _ (by omega)
 have hlt : ¬(m<0):=by omega
 have hbig : ¬((281474976710656:Int)<m*(i.bytes:Int)):=by
  have h1:m.toNat*i.bytes<=(sLen+m.toNat)*i.bytes:=mul_le_mul_right _ (by omega)
  have h2:m*(i.bytes:Int)=((m.toNat*i.bytes:Nat):Int):=by rw [Int.natCast_mul,Int.toNat_of_nonneg hm.1]
  rw [h2]; omega
 have hmm:max m 0=m:=by omega
 by_cases h0:m.toNat*i.size=0
 ·have e0:Builtin.zeroCells z.cells m.toNat = #[]:=by
   unfold Builtin.zeroCells
   rw [hzs,h0]
   simp
  simp [Builtin.append_,run_underlying ht,run_underlying ht2,sizeOf,typeInfo,zeroValue,asInt,asIntOf,w1,hlt,hbig,hi,hz,hn,h48',e0,Question.forced,ho,newRow,grownCap]
  try (intro hx; exfalso; omega)
 ·simp [Builtin.append_,run_underlying ht,run_underlying ht2,sizeOf,typeInfo,zeroValue,asInt,asIntOf,w1,hlt,hbig,hi,hz,hn,h48',h0,Question.forced,ho,newRow,grownCap]
  try (intro hx; exfalso; omega)
theorem EA {t t2 ty e new sLen sCap:Nat} {z:Value} {c:Cd} {base:Option Addr} {uy:Value} {nc olds:List Value} {old news:List c.den} {nl:Option Bool} (h:SimAt E R μ sl bl fr a w) (hf:fr new)
  (hzs:z.cells.size=c.size)
  (hrun:(Builtin.append_ #[t,t2] ty #[.slice base sLen sCap,uy]).run P w = .ok (.slice (some ⟨w.heap.size,0,none⟩) (sLen+news.length) (grownCap w (sLen+news.length) sCap e)) (w.drew.alloc (.cells (olds.toArray++nc.toArray++Builtin.zeroCells z.cells (grownCap w (sLen+news.length) sCap e-(sLen+news.length))) e)))
  (hnl:nc.length=news.length*c.size) (hna:RAt w R μ (fun m=>nc[m]?) c news)
  (hol:old.length=sLen) (hoc:olds.length=sLen*c.size) (hoa:RAt w R μ (fun m=>olds[m]?) c old)
  (h63:sLen+news.length<=maxI) (hnl2:nl≠some true:=by first | assumption | (simp; done)) :
  ∃ u w' μ',(Builtin.append_ #[t,t2] ty #[.slice base sLen sCap,uy]).run P w = .ok u w'/\SimAt E R μ' sl (Au bl new (some (.row false nl c (old++news)))) (fun j=>fr j/\j≠new) a w'/\VRep w' R μ' (.ref new 0 (sLen+news.length)) u:=by
 have hge:=grownCap_ge w (sLen+news.length) sCap e
 have hle:grownCap w (sLen+news.length) sCap e<=maxI:=by have:=grownCap_le_maxLen w (sLen+news.length) sCap e (by unfold maxLen; unfold maxI at h63; omega); unfold maxLen at this; unfold maxI; omega
 have hzc : ∀ n,(Builtin.zeroCells z.cells n).size=n*c.size:=fun n=>by simp [Builtin.zeroCells,hzs]
 have hD:=h.sameHeap (w':=w.drew) rfl rfl rfl rfl
 have hat:RAt w.drew R μ (fun m=>(olds.toArray++nc.toArray++Builtin.zeroCells z.cells (grownCap w (sLen+news.length) sCap e-(sLen+news.length)))[m]?) c (old++news):=by
  refine (hoa.append hna (h:=fun m=>(olds.toArray++nc.toArray++Builtin.zeroCells z.cells (grownCap w (sLen+news.length) sCap e-(sLen+news.length)))[m]?) ?_ ?_).mono (fun _ _ _ h=>h) (fun _ _=>rfl) (fun _ h=>h) (fun _ _ h=>h)
  ·intro m u hm hu
   rw [hol,<-hoc] at hm
   rw [Array.getElem?_append_left (by simp; omega),Array.getElem?_append_left (by simpa using hm)]
   simpa using hu
  ·intro m u hm hu
   rw [<-hnl] at hm
   rw [hol,<-hoc]
   rw [Array.getElem?_append_left (by simp; omega),Array.getElem?_append_right (by simp)]
   simpa using hu
 have hnew:=hD.newRow_sound' (us:=olds.toArray++nc.toArray++Builtin.zeroCells z.cells (grownCap w (sLen+news.length) sCap e-(sLen+news.length))) (l:=old++news) (len:=sLen+news.length) (nl:=nl) (grownCap w (sLen+news.length) sCap e) e hf hat (by simp [hol]) hge hle (by
  simp only [Array.size_append,size_toArray,hzc,hoc,hnl,<-add_mul]
  exact mul_le_mul_right _ (by omega))
 exact ⟨_,_,Bg μ new (.at w.heap.size 0 c.size (grownCap w (sLen+news.length) sCap e) (sLen+news.length)),hrun,hnew,.ref new 0 _ w.heap.size 0 c.size _ _ ⟨w.heap.size,0,none⟩ (Am _ _ _) hge (by omega) hle (.inr (by simp))⟩

theorem DT {t t2 ty e k:Nat} {kd kd2:IntKind} {i:TypeInfo} {z:Value} {base:Option Addr} {sLen sCap:Nat} {m:Int} {nc:List Value} (ht:P.underlying t=some (.slice e)) (ht2:P.underlying t2=some (.int kd2)) (hi:P.info? e=some i) (hz:i.zero=some z) (hzs:z.cells.size=i.size)
  (hm:0<=m/\m<=1000000) (hk:k=m.toNat) (hn:(Builtin.zeroCells z.cells m.toNat).toList=nc) (hb:(sLen+k)*i.bytes<=140737488355328) (hr:sLen+k<=sCap) :
  (Builtin.append_ #[t,t2] ty #[.slice base sLen sCap,.int kd m]).run P w=match base with
   | some a=>((storeCells (a.add (sLen*i.size)) nc).run P w).andThen fun _ w'=>.ok (.slice base (sLen+k) sCap) w'
   | none=>.ok (.slice none (sLen+k) sCap) w:=by
 subst hk hn
 exact GE ht ht2 hi hz hzs hm hb hr
theorem DU {t t2 ty e k:Nat} {kd kd2:IntKind} {i:TypeInfo} {z:Value} {base:Option Addr} {sLen sCap:Nat} {m:Int} {olds nc:List Value} (ht:P.underlying t=some (.slice e)) (ht2:P.underlying t2=some (.int kd2)) (hi:P.info? e=some i) (hz:i.zero=some z) (hzs:z.cells.size=i.size)
  (hm:0<=m/\m<=1000000) (hk:k=m.toNat) (hn:(Builtin.zeroCells z.cells m.toNat).toList=nc) (ho:(Builtin.firstCells i.size sLen (.slice base sLen sCap)).run P w.drew = .ok olds.toArray w.drew) (hr:sCap<sLen+k)
  (hb:(sLen+k)*i.bytes<=140737488355328) (h63:sLen+k<=maxI) :
  (Builtin.append_ #[t,t2] ty #[.slice base sLen sCap,.int kd m]).run P w =
   .ok (.slice (some ⟨w.heap.size,0,none⟩) (sLen+k) (grownCap w (sLen+k) sCap e)) (w.drew.alloc (.cells (olds.toArray++nc.toArray++Builtin.zeroCells z.cells (grownCap w (sLen+k) sCap e-(sLen+k))) e)):=by
 subst hk hn
 exact GF ht ht2 hi hz hzs hm ho hr hb h63
theorem IS {new t t2 ty e id lo n:Nat} {kd kd2:IntKind} {m:Int} {nl:Option Bool} {c:Cd} {l:List c.den} {i:TypeInfo} {z:Value} {z0:c.den} {uv:Value} (h:SimAt E R μ sl bl fr a w) (hs : ∀ id B,blr id=some B->bl id=some B) (hnf:fr new) (hv:VRep w R μ (.ref id lo n) uv) (hb:blr id=some (.row false nl c l))
  (ht:P.underlying t=some (.slice e)) (ht2:P.underlying t2=some (.int kd2)) (hi:P.info? e=some i) (hsz:i.size=c.size) (hz:i.zero=some z) (hzs:z.cells.size=c.size) (hzs':z.cells.size=i.size) (hm2:0<=m/\m<=1000000)
  (hbd:(n+m.toNat)*i.bytes<=140737488355328/\n+m.toNat<=maxI) (hd:Ec c (z.cells.toList.map AO)=some z0) :
  ∃ u w' μ',(Builtin.append_ #[t,t2] ty #[uv,.int kd m]).run P w = .ok u w'/\SimAt E R μ' sl (Av bl [(id,none),(new,some (.row false (some false) c ((l.drop lo).take n++replicate m.toNat z0)))]) (fun j=>fr j/\(j<new\/new+16<=j)) a w'/\VRep w' R μ' (.ref new 0 (n+m.toNat)) u:=by
 have hzc:=Ce (w:=w) (R:=R) (μ:=μ) (Bt z.cells.toList) hd
 have hzl:(Builtin.zeroCells z.cells m.toNat).toList.length=m.toNat*c.size:=by simp [Builtin.zeroCells,hzs]
 have n4:RAt w R μ (fun k=>(Builtin.zeroCells z.cells m.toNat).toList[k]?) c (replicate m.toNat z0):=by
  intro i z2 j v hz2 hv
  have hi2:i<m.toNat:=by have:=(List.getElem?_eq_some_iff.1 hz2).1; simpa using this
  rw [List.getElem?_replicate,if_pos hi2] at hz2
  simp at hz2; subst hz2
  have hj:j<c.size:=by have:=(List.getElem?_eq_some_iff.1 hv).1; rwa [A8] at this
  have hju:j<z.cells.toList.length:=by simpa [hzs] using hj
  refine ⟨z.cells.toList[j],?_,hzc.2 j v _ hv (by simp)⟩
  have:=CR z.cells m.toNat
  have hlt:(i+1)*c.size<=m.toNat*c.size:=mul_le_mul_right _ hi2
  rw [add_mul] at hlt
  dsimp only
  have ez:(Builtin.zeroCells z.cells m.toNat).toList=(replicate m.toNat ()).flatMap fun _=>z.cells.toList:=by rw [<-this]; rfl
  rw [ez,D1]
  simp only [Array.length_toList,hzs]
  rw [if_pos (by omega),Nat.mul_comm i,mul_add_mod,mod_eq_of_lt hj]
  simp
 have n5 : ∀ u∈(Builtin.zeroCells z.cells m.toNat).toList,u.oneCell'=true:=by
  intro u hu
  obtain ⟨j,hj,rfl⟩:=getElem_of_mem hu
  obtain ⟨u2,g1,g2⟩:=n4.all (m:=j) (by rw [length_replicate,<-hzl]; exact hj)
  rw [getElem?_eq_getElem hj] at g1
  injection g1 with g1; rw [g1]; exact g2
 have hlw:(replicate m.toNat z0).length=m.toNat:=length_replicate
 have n3:(Builtin.zeroCells z.cells m.toNat).toList.length=(replicate m.toNat z0).length*c.size:=by rw [hlw]; exact hzl
 rw [<-hlw] at hbd
 have e0:(.ref new 0 (n+m.toNat):V) = .ref new 0 (n+(replicate m.toNat z0).length):=by rw [hlw]
 rw [e0]
 clear e0
 generalize hnews:replicate m.toNat z0=news at *
 generalize hncs:(Builtin.zeroCells z.cells m.toNat).toList=nc at *
 have hbl:=hs _ _ hb
 obtain ⟨rb,hmu,hrep⟩:=h.mem.blk id _ hbl
 have hkill:=h.kill id
 have hne : ∀ j,(fr j/\j≠new)->True:=fun _ _=>trivial
 simp only [Av]
 cases hv with
 | vac _ ao hr=>
  rw [hmu] at hr; simp at hr; subst hr
  cases hrep with
  | vac=>
  by_cases hz0:news.length=0
  ·have:news=[]:=eq_nil_of_length_eq_zero hz0
   subst this
   have:nc=[]:=eq_nil_of_length_eq_zero (by simpa using n3)
   subst this
   have hrun:=DT (P:=P) (w:=w) (ty:=ty) (kd:=kd) (base:=ao) (sLen:=0) (sCap:=0) ht ht2 hi hz hzs' hm2 hlw hncs (by simp) (by simp)
   refine ⟨.slice ao 0 0,w,_,?_,(hkill.newVac hnf ao false (some false) c).fr_mono (fun j hj=>⟨hj.1,by omega⟩),.vac new ao (Am _ _ _)⟩
   rw [hrun]
   cases ao<;>simp [storeCells]
  ·obtain ⟨u,w',μ',g1,g2,g3⟩:=EA (P:=P) (w:=w) (ty:=ty) (old:=([]:List c.den)) (olds:=[]) (base:=ao) (sLen:=0) (sCap:=0) (nl:=some false) hkill hnf hzs (DU (olds:=[]) ht ht2 hi hz hzs' hm2 hlw hncs (by cases ao<;>simp [Builtin.firstCells,loadCells,loadCellsFrom]) (by omega) (by simpa using hbd.1) (by simpa using hbd.2)) n3 n4 rfl (by simp) (RAt.nil _ _) (by simpa using hbd.2)
   exact ⟨u,w',μ',g1,by simpa using g2.fr_mono (fun j hj=>⟨hj.1,by omega⟩),by simpa using g3⟩
 | ref _ _ _ b off k cap len A hr h0 h3 h4 h5=>
  rw [hmu] at hr; simp at hr; subst hr
  cases hrep with
  | row _ _ _ _ _ _ _ _ _ cur e' hk' hh q1 q2 q3 q4 q5=>
  subst hk'
  have hlen:((l.drop lo).take n).length=n:=by rw [length_take,length_drop]; omega
  have hat0:RAt w R μ (fun m=>cur[off+m]?) c l:=fun i z j v hz hv=>q4 i z j v hz hv
  have hat:=hat0.sub lo n
  by_cases hroom:n+news.length<=cap-lo
  ·have hrun:=DT (P:=P) (w:=w) (ty:=ty) (kd:=kd) (base:=some A) (sLen:=n) (sCap:=cap-lo) ht ht2 hi hz hzs' hm2 hlw hncs hbd.1 hroom
   by_cases hc0:cap-lo=0
   ·have hn0:n=0:=by omega
    have hnw:news=[]:=eq_nil_of_length_eq_zero (by omega)
    subst hn0 hnw
    have:nc=[]:=eq_nil_of_length_eq_zero (by simpa using n3)
    subst this
    refine ⟨.slice (some A) 0 0,w,Bg μ new (.vac (some A)),?_,?_,.vac new (some A) (Am _ _ _)⟩
    ·rw [hrun]; simp [storeCells,hc0]
    ·have:=(hkill.newVac hnf (some A) false (some false) c).fr_mono (fr':=fun j=>fr j/\(j<new\/new+16<=j)) (fun j hj=>⟨hj.1,by omega⟩)
     simpa using this
   ·rcases h5 with h5 | rfl
    ·exact absurd h5 hc0
    ·have hcl:(cap-lo)*c.size+lo*c.size=cap*c.size:=by rw [<-add_mul]; congr 1; omega
     have hrm:(n+news.length)*c.size<=(cap-lo)*c.size:=mul_le_mul_right _ hroom
     rw [add_mul] at hrm
     have hfit:off+lo*c.size+n*c.size+0+nc.length<=cur.size:=by rw [n3]; omega
     have hst:=run_storeCells_at P b (off+lo*c.size+n*c.size) e' nc 0 cur w hh hfit n5
     simp only [add_zero] at hst
     have e2:cur.toList.take (off+lo*c.size+n*c.size)++nc++cur.toList.drop (off+lo*c.size+n*c.size+nc.length)=Ai cur.toList (off+lo*c.size+n*c.size) nc:=(BB _ _ _ (by simpa using hfit)).symm
     rw [e2] at hst
     have hw : ∀ k,R k->(w.setRow b (Ai cur.toList (off+lo*c.size+n*c.size) nc).toArray).heap[k]? = w.heap[k]?:=fun k hR=>setRow_other _ _ _ _ (fun e=>by subst e; exact h.mem.sep id _ _ k hbl rfl hmu rfl hR)
     refine ⟨.slice (some ⟨b,off+lo*c.size,none⟩) (n+news.length) (cap-lo),w.setRow b (Ai cur.toList (off+lo*c.size+n*c.size) nc).toArray,Bg μ new (.at b (off+lo*c.size) c.size (cap-lo) (n+news.length)),?_,?_,.ref new 0 _ b (off+lo*c.size) c.size (cap-lo) (n+news.length) _ (Am _ _ _) hroom (by omega) (by omega) (.inr (by simp))⟩
     ·rw [hrun]
      simp only [AL,hsz,hst,Result.andThen_ok]
     ·refine (h.move (B':=.row false (some false) c ((l.drop lo).take n++news)) hbl rfl hmu rfl hnf rfl (setRow_size _ _ _) (fun k hk=>setRow_other _ _ _ _ hk) rfl rfl rfl ?_ rfl).fr_mono (fun j hj=>⟨hj.1,by omega⟩)
      refine .row b (off+lo*c.size) c.size (cap-lo) (n+news.length) false _ c _ _ e' rfl (setRow_heap w b cur _ e' _ hh) ⟨by simp [hlen],hroom⟩ (by omega) (by simp [AI]; omega) ?_ (by simp)
      have hall:RAt (w.setRow b (Ai cur.toList (off+lo*c.size+n*c.size) nc).toArray) R μ (fun m=>(Ai cur.toList (off+lo*c.size+n*c.size) nc)[off+lo*c.size+m]?) c ((l.drop lo).take n++news):=by
       refine (hat.append n4 (h:=fun m=>(Ai cur.toList (off+lo*c.size+n*c.size) nc)[off+lo*c.size+m]?) ?_ ?_).mono (fun _ _ _ h=>h) hw (fun _ h=>h) (fun _ _ h=>h)
       ·intro m u hm hu
        rw [hlen] at hm
        rw [A3 _ _ _ _ (by simpa using hfit),if_neg (by omega),<-hu]
        simp [add_assoc]
       ·intro m u hm hu
        rw [<-n3] at hm
        rw [hlen,A3 _ _ _ _ (by simpa using hfit),if_pos (by omega),<-hu]
        congr 1; omega
      intro i z j v hz hv
      obtain ⟨u,hu1,hu2⟩:=hall i z j v hz hv
      exact ⟨u,by simpa using hu1,hu2⟩
  ·obtain ⟨olds,o1,o2,o3,o4⟩:=hat.list
   rw [hlen] at o1
   have hof : ∀ w2:World,w2.heap=w.heap->(Builtin.firstCells c.size n (.slice (some A) n (cap-lo))).run P w2 = .ok olds.toArray w2:=fun w2 e2=>by
    by_cases hn0:n=0
    ·subst hn0
     have:olds=[]:=eq_nil_of_length_eq_zero (by simpa using o1)
     subst this
     simp [Builtin.firstCells,loadCells,loadCellsFrom]
    ·rcases h5 with h5 | rfl
     ·omega
     ·refine Bs o1 (fun j hj=>?_)
      have heapCell : ∀ B,w2.cell? B=w.cell? B:=fun B=>by simp [World.cell?,e2]
      rw [heapCell,AL,cell_of_row w b _ cur _ (0,0) hh,<-o2 j hj]
      congr 1; omega
   obtain ⟨u,w',μ',g1,g2,g3⟩:=EA (P:=P) (w:=w) (ty:=ty) (old:=(l.drop lo).take n) (olds:=olds) (base:=some A) (sLen:=n) (sCap:=cap-lo) (nl:=some false) hkill hnf hzs (DU (kd:=kd) ht ht2 hi hz hzs' hm2 hlw hncs (by rw [hsz]; exact hof _ rfl) (by omega) hbd.1 hbd.2) n3 n4 hlen o1 o3 hbd.2
   exact ⟨u,w',μ',g1,g2.fr_mono (fun j hj=>⟨hj.1,by omega⟩),g3⟩
theorem H7 {new t t2 ty:Nat} {kd:IntKind} {v v':V} {m:Int} {uv uy:Value} {us:Upd} (h:SimAt E R μ sl bl fr a w) (hs : ∀ id B,blr id=some B->bl id=some B) (hf : ∀ c,c<16->fr (new+c)) (hv:VRep w R μ v uv) (hy:VRep w R μ (.i kd m) uy)
  (hk:E3 P blr new t t2 v m (fun v us=>some (v,us))=some (v',us)) :
  ∃ u w' μ',(Builtin.append_ #[t,t2] ty #[uv,uy]).run P w = .ok u w'/\SimAt E R μ' sl (Av bl us) (fun j=>fr j/\(j<new\/new+16<=j)) a w'/\VRep w' R μ' v' u:=by
 have hnf:=hf 0 (by omega)
 rw [add_zero] at hnf
 cases hy
 unfold E3 at hk
 split at hk
 ·rename_i e he
  have ht:P.underlying t=some (.slice e):=by
   unfold Ct at he
   split at he
   ·simp at he; subst he; assumption
   ·cases he
  split at hk
  ·rename_i kd2 ht2
   split at hk
   ·rename_i id lo n
    split at hk
    ·rename_i nl c l hb
     split at hk
     ·rename_i zs hrow
      split at hk
      ·rename_i z0 hd
       obtain ⟨hel,hk⟩:=Ac hk
       obtain ⟨hbd,hk⟩:=Ac hk
       simp at hk; obtain ⟨rfl,rfl⟩:=hk
       simp only [and_eq_true,decide_eq_true_eq] at hbd
       obtain ⟨i,z,hi,hsz,hz,hzs⟩:=D3 hel
       have hby:P.bytesOf e=i.bytes:=by simp [Program.bytesOf,hi]
       rw [hby] at hbd
       obtain ⟨hm2,hbd⟩:=hbd
       have hzs':z.cells.size=i.size:=by rw [hzs,hsz]
       have hdd:Ec c (z.cells.toList.map AO)=some z0:=by
        unfold Df at hrow
        rw [hi] at hrow
        simp [hz] at hrow
        rw [hrow]; exact hd
       exact IS h hs hnf hv hb ht ht2 hi hsz hz hzs hzs' hm2 hbd hdd
      ·cases hk
     ·cases hk
    ·cases hk
   ·cases hk
  ·cases hk
 ·cases hk
end
end Go.Proofs.YthbecdipboideaaDoor.Den
/- A call: what goes along, what comes back. -/
namespace Go.Proofs.YthbecdipboideaaDoor.Den

theorem D2 : ∀ (c:Cd) (z:c.den) (v:V),v∈enc c z->v.plain=true
 | .int _,_,v,h=>by simp [enc] at h; subst h; rfl
 | .bool,_,v,h=>by simp [enc] at h; subst h; rfl
 | .str,_,v,h=>by simp [enc] at h; subst h; rfl
 | .slice _,_,v,h=>by simp [enc] at h; subst h; rfl
 | .unit,_,v,h=>by simp [enc] at h
 | .pair a b,z,v,h=>by
  simp only [enc,mem_append] at h
  rcases h with h | h
  ·exact D2 a z.1 v h
  ·exact D2 b z.2 v h
 | .rose c,z,v,h=>by
  simp only [enc,mem_append,List.mem_singleton] at h
  rcases h with h | h
  ·exact D2 c z.lab v h
  ·subst h; rfl
 | .tree _,_,v,h=>by simp [enc] at h; subst h; rfl
theorem H6 {c:Cd} {z:Rose c.den} {j:Nat} {v:V} (h:(IK c z)[j]? = some v):v.plain=true:=by
 have:=mem_of_getElem? h
 simp only [IK,mem_append,List.mem_singleton] at this
 rcases this with h | h
 ·exact D2 c z.lab v h
 ·subst h; rfl
theorem BE {c:Cd} {z:c.den} {j:Nat} {v:V} (h:(enc c z)[j]? = some v):v.plain=true:=D2 c z v (mem_of_getElem? h)

section
variable {P:Program} {E:Env} {R:Nat->Prop} {μ μ':Nat->Option RB} {sl:List V} {bl blr:Nat->Option Blk} {fr:Nat->Prop} {a:Act} {w:World}

theorem VRep.anyM {v:V} {u:Value} (h:VRep w R μ v u) (μ':Nat->Option RB) (hp:v.plain=true):VRep w R μ' v u:=by
 induction h with
 | b c=>exact .b c
 | i k n=>exact .i k n
 | s l=>exact .s l
 | sl c l ao cap U h1 h2 h3 h4 ih=>exact .sl c l ao cap U h1 h2 h3 (fun i z j v hz hv=>ih i z j v hz hv (BE hv))
 | np=>exact .np
 | tp c z o b U h1 h3 h4 ih=>exact .tp c z o b U h1 h3 (fun j v hv=>ih j v hv (H6 hv))
 | _=>simp [V.plain] at hp

theorem Cg {ρ:Nat->Option Nat} (hρ : ∀ id j rb,ρ id=some j->μ id=some rb->μ' j=some rb) : ∀ (d:Nat) (v:V) (u:Value),VRep w R μ v u->VRep w R μ' (BU ρ d v) u
 | 0,v,u,_=>.unk u
 | d+1,v,u,h=>by
  have many : ∀ (vs:List V) (us:Array Value),us.size=vs.length->(∀ (j:Nat) v u,vs[j]? = some v->us[j]? = some u->VRep w R μ v u)->us.size=(vs.map (BU ρ d)).length/\∀ (j:Nat) v u,(vs.map (BU ρ d))[j]? = some v->us[j]? = some u->VRep w R μ' v u:=fun vs us h1 h2=>
   ⟨by simpa using h1,fun j v u hv hu=>by
    rw [getElem?_map] at hv
    obtain ⟨v0,hv0,rfl⟩:=map_eq_some_iff.1 hv
    exact Cg hρ d v0 u (h2 j v0 u hv0 hu)⟩
  cases h with
  | unk=>exact .unk _
  | b c=>exact .b c
  | ub c=>exact .ub c
  | i k n=>exact .i k n
  | s l=>exact .s l
  | nl=>exact .nl
  | sl c l ao cap U h1 h2 h3 h4=>exact (VRep.sl c l ao cap U h1 h2 h3 h4).anyM μ' rfl
  | vac id ao h=>
   simp only [BU]
   cases e:ρ id with
   | none=>exact .unk _
   | some j=>exact .vac j ao (hρ _ _ _ e h)
  | ref id lo n b off k cap len A h h0 h1 h2 h3=>
   simp only [BU]
   cases e:ρ id with
   | none=>exact .unk _
   | some j=>exact .ref j lo n b off k cap len A (hρ _ _ _ e h) h0 h1 h2 h3
  | ptr id o b h=>
   simp only [BU]
   cases e:ρ id with
   | none=>exact .unk _
   | some j=>exact .ptr j o b (hρ _ _ _ e h)
  | el id i o b off k cap len h=>
   simp only [BU]
   cases e:ρ id with
   | none=>exact .unk _
   | some j=>exact .el j i o b off k cap len (hρ _ _ _ e h)
  | rp c l i o b off U h1 h3 h4=>exact .rp c l i o b off U h1 h3 (fun i z j v hz hv=>(h4 i z j v hz hv).anyM μ' (BE hv))
  | bx cs o b U h1 hp h3 h4=>exact .bx cs o b U h1 hp h3 (fun j v hv=>(h4 j v hv).anyM μ' (all_eq_true.1 hp v (mem_of_getElem? hv)))
  | np=>exact .np
  | tp c z o b U h1 h3 h4=>exact (VRep.tp c z o b U h1 h3 h4).anyM μ' rfl
  | mref id b h=>
   simp only [BU]
   cases e:ρ id with
   | none=>exact .unk _
   | some j=>exact .mref j b (hρ _ _ _ e h)
  | fn f a c ua uc h1 h2 h3 h4=>
   obtain ⟨g1,g2⟩:=many a ua h1 h3
   obtain ⟨g3,g4⟩:=many c uc h2 h4
   exact .fn f _ _ ua uc g1 g3 g2 g4
  | agg cs us h1 h2=>obtain ⟨g1,g2⟩:=many cs us h1 h2; exact .agg _ us g1 g2
  | tup cs us h1 h2=>obtain ⟨g1,g2⟩:=many cs us h1 h2; exact .tup _ us g1 g2
theorem Jo {ρ:Nat->Option Nat} (hρ : ∀ id j rb,ρ id=some j->μ id=some rb->μ' j=some rb) (d:Nat) {vs:List V} {us:List Value} (h:Reps w R μ vs us):Reps w R μ' (vs.map (BU ρ d)) us:=
 ⟨by simpa using h.1,fun j v u hv hu=>by
  rw [getElem?_map] at hv
  obtain ⟨v0,hv0,rfl⟩:=map_eq_some_iff.1 hv
  exact Cg hρ d v0 u (h.2 j v0 u hv0 hu)⟩
theorem N5 {ρ:Nat->Option Nat} {d:Nat} {v:V} {c:Cd} {l:List c.den} (h:BU ρ (d+1) v = .sl c l):v = .sl c l:=by
 cases v<;>first | exact h | (simp only [BU] at h; first | cases h | (split at h<;>cases h))
theorem N6 {ρ:Nat->Option Nat} (hρ : ∀ id j rb,ρ id=some j->μ id=some rb->μ' j=some rb) {d:Nat} {v:V} {u:Value} (h:CRep w R μ v u):CRep w R μ' (BU ρ (d+1) v) u:=by
 by_cases hs : ∃ c l,v = .sl c l
 ·obtain ⟨c,l,rfl⟩:=hs; exact h
 ·have h1:=Cg hρ (d+1) v u (h.rep fun c l e=>hs ⟨c,l,e⟩)
  generalize e:BU ρ (d+1) v=v' at h1
  cases v' with
  | sl c l=>exact absurd ⟨c,l,N5 e⟩ hs
  | _=>exact h1
theorem Kd {c:Cd} {l:List c.den} {op:Option (Nat×List V)} {f:V->V} {i:Nat} {row:List V} (h:AW c l (op.map fun p=>(p.1,p.2.map f)) i=some row) : ∃ row0,AW c l op i=some row0/\((∃ p,op=some p/\i=p.1/\row=row0.map f)\/((∀ p,op=some p->i≠p.1)/\row=row0)):=by
 cases op with
 | none=>exact ⟨row,h,.inr ⟨fun p hp=>(by cases hp),rfl⟩⟩
 | some p=>
  simp only [Option.map_some,AW] at h ⊢
  by_cases e:i=p.1
  ·rw [if_pos e] at h ⊢
   simp at h
   exact ⟨p.2,rfl,.inl ⟨p,rfl,e,h.symm⟩⟩
  ·rw [if_neg e] at h ⊢
   exact ⟨row,h,.inr ⟨fun q hq=>by cases hq; exact e,rfl⟩⟩
theorem Gz {ρ:Nat->Option Nat} {d:Nat} {us:Array Value} {off k:Nat} {c:Cd} {l:List c.den} {op:Option (Nat×List V)} {i j x:Nat} (h:AS us off k c l (op.map fun p=>(p.1,p.2.map (BU ρ (d+1)))) i j x):AS us off k c l op i j x:=by
 obtain ⟨row,c1,l1,a1,n,q,k1,k2,k3,k4⟩:=h
 obtain ⟨row0,g1,g2⟩:=Kd k1
 refine ⟨row0,c1,l1,a1,n,q,g1,?_,k3,k4⟩
 rcases g2 with ⟨_,_,_,rfl⟩ | ⟨_,rfl⟩
 ·rw [getElem?_map] at k2
  obtain ⟨v0,hv0,e⟩:=map_eq_some_iff.1 k2
  rw [hv0,N5 e]
 ·exact k2
theorem AF {ρ:Nat->Option Nat} {rb:RB} {B:Blk} {x:Nat} (h:Foot w rb (BV ρ B) x):Foot w rb B x:=by
 cases B with
 | drow c l op=>
  rcases h with h | h
  ·exact .inl h
  ·cases rb with
   | «at» b off k cap len=>
    obtain ⟨us,e,i,j,k1,k2⟩:=h
    exact .inr ⟨us,e,i,j,k1,Gz k2⟩
   | _=>exact h.elim
 | _=>exact h
theorem DC {ρ:Nat->Option Nat} (hρ : ∀ id j rb,ρ id=some j->μ id=some rb->μ' j=some rb) {rb:RB} {B:Blk} (h:BRep w R μ rb B):BRep w R μ' rb (BV ρ B):=by
 cases h with
 | box b cs us e h h1 h2=>
  have:=Jo hρ 5 (vs:=cs) (us:=us.toList) ⟨by simpa using h1,fun j v u hv hu=>h2 j v u hv (by simpa using hu)⟩
  exact .box b _ us e h (by simpa using this.1) (fun j v u hv hu=>this.2 j v u hv (by simpa using hu))
 | vac ao ro nl c=>exact .vac ao ro nl c
 | row b off k cap len ro nl c l us e hk h h1 h2 h3 h4 h5=>exact .row b off k cap len ro nl c l us e hk h h1 h2 h3 (fun i z j v hz hv=>by obtain ⟨u,hu,hr⟩:=h4 i z j v hz hv; exact ⟨u,hu,hr.anyM μ' (BE hv)⟩) h5
 | mp b kc vc l es clock h hk h1 h2 h3=>exact .mp b kc vc l es clock h hk h1 (fun i e z v he hz hv=>(h2 i e z v he hz hv).anyM μ' (BE hv)) (fun i e z v he hz hv=>(h3 i e z v he hz hv).anyM μ' (BE hv))
 | dvac ao c=>exact .dvac ao c
 | drow b off k cap len c l op us e hk h h1 h2 h3 h4 h5 h6 h7=>
  refine .drow b off k cap len c l _ us e hk h h1 h2 h3 (fun i row j v k1 k2=>?_) (fun p hp=>?_) (fun i i' j j' x s1 s2=>h6 i i' j j' x (Gz s1) (Gz s2)) (fun i j x s1=>h7 i j x (Gz s1))
  ·obtain ⟨row0,g1,g2⟩:=Kd k1
   rcases g2 with ⟨p,rfl,rfl,rfl⟩ | ⟨hp,rfl⟩
   ·rw [getElem?_map] at k2
    obtain ⟨v0,hv0,rfl⟩:=map_eq_some_iff.1 k2
    obtain ⟨u,q1,q2⟩:=h4 p.1 row0 j v0 g1 hv0
    exact ⟨u,q1,N6 hρ q2⟩
   ·obtain ⟨u,q1,q2⟩:=h4 i row j v g1 k2
    refine ⟨u,q1,?_⟩
    have : ∃ z,row=enc c z:=by
     cases op with
     | none=>obtain ⟨z,_,rfl⟩:=map_eq_some_iff.1 (show (l[i]?).map (enc c)=some row from g1); exact ⟨z,rfl⟩
     | some p=>
      simp only [AW,hp p rfl,if_false] at g1
      obtain ⟨z,_,rfl⟩:=map_eq_some_iff.1 g1; exact ⟨z,rfl⟩
    obtain ⟨z,rfl⟩:=this
    cases v with
    | sl c1 l1=>exact q2
    | _=>exact VRep.anyM q2 μ' (BE k2)
  ·cases op with
   | none=>cases hp
   | some p0=>
    simp at hp; subst hp
    exact ⟨(h5 p0 rfl).1,by simpa using (h5 p0 rfl).2⟩
theorem B7 (ρ:Nat->Option Nat) (B:Blk):(BV ρ B).own=B.own:=by cases B<;>rfl

theorem Ev {R':Nat->Prop} : ∀ (d:Nat) (v:V) (u:Value),BF d v=true->VRep w R μ v u->VRep w R' μ v u
 | 0,v,u,hc,_=>by simp [BF] at hc
 | d+1,v,u,hc,h=>by
  have many : ∀ (vs:List V) (us:Array Value),vs.all (BF d)=true->(∀ (j:Nat) v u,vs[j]? = some v->us[j]? = some u->VRep w R μ v u)->∀ (j:Nat) v u,vs[j]? = some v->us[j]? = some u->VRep w R' μ v u:=fun vs us h1 h2 j v u hv hu=>
   Ev d v u (all_eq_true.1 h1 v (mem_of_getElem? hv)) (h2 j v u hv hu)
  cases h with
  | unk=>exact .unk _
  | b c=>exact .b c
  | ub c=>exact .ub c
  | i k n=>exact .i k n
  | s l=>exact .s l
  | nl=>exact .nl
  | sl=>simp [BF] at hc
  | vac id ao h=>exact .vac id ao h
  | ref id lo n b off k cap len A h h0 h1 h2 h3=>exact .ref id lo n b off k cap len A h h0 h1 h2 h3
  | ptr id o b h=>exact .ptr id o b h
  | el id i o b off k cap len h=>exact .el id i o b off k cap len h
  | rp=>simp [BF] at hc
  | bx=>simp [BF] at hc
  | np=>exact .np
  | tp=>simp [BF] at hc
  | mref id b h=>exact .mref id b h
  | fn f a c ua uc h1 h2 h3 h4=>
   simp only [BF,and_eq_true] at hc
   exact .fn f _ _ ua uc h1 h2 (many a ua hc.1 h3) (many c uc hc.2 h4)
  | agg cs us h1 h2=>exact .agg _ us h1 (many cs us hc h2)
  | tup cs us h1 h2=>exact .tup _ us h1 (many cs us hc h2)
theorem EY : ∀ (c:Cd) (z:c.den) (v:V),c.flat=true->v∈enc c z->(∃ k n,v = .i k n)\/(∃ b,v = .b b)\/∃ l,v = .s l
 | .int _,_,v,_,h=>by simp [enc] at h; exact .inl ⟨_,_,h⟩
 | .bool,_,v,_,h=>by simp [enc] at h; exact .inr (.inl ⟨_,h⟩)
 | .str,_,v,_,h=>by simp [enc] at h; exact .inr (.inr ⟨_,h⟩)
 | .slice _,_,v,hf,h=>by simp [Cd.flat] at hf
 | .unit,_,v,_,h=>by simp [enc] at h
 | .rose _,_,v,hf,h=>by simp [Cd.flat] at hf
 | .tree _,_,v,hf,h=>by simp [Cd.flat] at hf
 | .pair a b,z,v,hf,h=>by
  simp only [Cd.flat,and_eq_true] at hf
  simp only [enc,mem_append] at h
  rcases h with h | h
  ·exact EY a z.1 v hf.1 h
  ·exact EY b z.2 v hf.2 h
theorem Kb {R':Nat->Prop} {c:Cd} {z:c.den} {j:Nat} {v:V} {u:Value} (hf:c.flat=true) (hv:(enc c z)[j]? = some v) (h:VRep w R μ v u):VRep w R' μ v u:=by
 rcases EY c z v hf (mem_of_getElem? hv) with ⟨k,n,rfl⟩ | ⟨b,rfl⟩ | ⟨l,rfl⟩
 ·cases h; exact .i _ _
 ·cases h; exact .b _
 ·cases h; exact .s _

theorem Ee {pt:Bool} {R':Nat->Prop} (hm:Mem w R μ bl) (hRR : ∀ b,R b->R' b) : ∀ (d:Nat) (v v':V) (ids:List Nat) (u:Value),VRep w R μ v u->DS bl pt d v=some (v',ids)->(∀ id∈ids,Gr w μ bl R' id)->VRep w R' μ v' u
 | 0,v,v',ids,u,_,h,_=>by simp [DS] at h
 | d+1,v,v',ids,u,hv,h,hR=>by
  have same : ∀ v'',some (v'',([]:List Nat))=some (v',ids)->VRep w R μ v'' u->VRep w R' μ v' u:=fun v'' e hq=>by
   simp at e; obtain ⟨rfl,rfl⟩:=e; exact hq.mono (fun _ _=>rfl) hRR (fun _ _ h=>h)
  unfold DS at h
  split at h
  ·rename_i id lo n
   split at h
   ·rename_i ro nl c l hb
    exact CN hm hRR 1 (.ref id lo n) v' ids u hv (by rw [Cx,hb]; exact h) hR
   ·rename_i c l hb
    simp at h; obtain ⟨rfl,rfl⟩:=h
    obtain ⟨rb,hmu,hrep⟩:=hm.blk id _ hb
    have hR : ∀ x,bl id=some (.drow c l none)->μ id=some rb->Foot w rb (.drow c l none) x->R' x:=fun x=>hR id (by simp) _ rb x
    cases hv with
    | vac _ ao hr=>
     simpa using VRep.slNil (w:=w) (R:=R') (μ:=μ) c ao
    | ref _ _ _ b off k cap len A hr h0 h3 h4 h5=>
     rw [hmu] at hr; simp at hr; subst hr
     cases hrep with
     | drow _ _ _ _ _ _ _ _ us e hk hh h1 h2 h6 h7=>
     subst hk
     have hlen:((l.drop lo).take n).length=n:=by rw [length_take,length_drop]; omega
     have:=VRep.sl (w:=w) (R:=R') (μ:=μ) c ((l.drop lo).take n) (some A) (cap-lo) (fun i j=>us[off+((lo+i)*c.size+j)]?.getD undef) (by rw [hlen]; omega) (by omega) ?_ ?_
     ·rw [hlen] at this; exact this
     ·by_cases hz:n=0
      ·left; rw [hlen]; exact hz
      ·right
       rcases h5 with h5 | rfl
       ·omega
       ·refine ⟨b,off+lo*c.size,rfl,hR b hb hmu (.inl rfl),fun i z j v hz' hv=>?_⟩
        obtain ⟨hz2,_⟩:=Bk hz'
        obtain ⟨u,hu,_⟩:=h7 (lo+i) _ j v (BM hz2) hv
        rw [cell_of_row w b _ us e (0,0) hh,show off+lo*c.size+(i*c.size+j)=off+((lo+i)*c.size+j) by rw [add_mul]; omega,hu]; rfl
     ·intro i z j v hz' hv
      obtain ⟨hz2,_⟩:=Bk hz'
      obtain ⟨u,hu,hr⟩:=h7 (lo+i) _ j v (BM hz2) hv
      rw [hu]
      exact hr.frozen hRR (fun c1 l1 a n q e1 e2=>hR _ hb hmu (.inr ⟨us,e,lo+i,j,hh,_,c1,l1,a,n,q,BM hz2,by rw [hv,e1],by rw [hu,e2],rfl⟩))
   ·cases h
  ·rename_i id i o
   split at h
   ·exact same _ h hv
   split at h
   ·rename_i c l hb
    simp at h; obtain ⟨rfl,rfl⟩:=h
    obtain ⟨rb,hmu,hrep⟩:=hm.blk id _ hb
    have hR : ∀ x,bl id=some (.drow c l none)->μ id=some rb->Foot w rb (.drow c l none) x->R' x:=fun x=>hR id (by simp) _ rb x
    cases hv with
    | el _ _ _ b off k cap len hr=>
    rw [hmu] at hr; simp at hr; subst hr
    cases hrep with
    | drow _ _ _ _ _ _ _ _ us e hk hh h1 h2 h6 h7=>
    subst hk
    refine .rp c l i o b off (fun i j=>us[off+(i*c.size+j)]?.getD undef) (hR b hb hmu (.inl rfl)) (fun i' z j v hz' hv=>?_) (fun i' z j v hz' hv=>?_)
    ·obtain ⟨u,hu,_⟩:=h7 i' _ j v (BM hz') hv
     rw [cell_of_row w b _ us e (0,0) hh,hu]; rfl
    ·obtain ⟨u,hu,hr⟩:=h7 i' _ j v (BM hz') hv
     rw [hu]
     exact hr.frozen hRR (fun c1 l1 a n q e1 e2=>hR _ hb hmu (.inr ⟨us,e,i',j,hh,_,c1,l1,a,n,q,BM hz',by rw [hv,e1],by rw [hu,e2],rfl⟩))
   ·exact same _ h hv
  ·rename_i cs
   split at h
   ·rename_i l ids hl
    simp at h; obtain ⟨rfl,rfl⟩:=h
    cases hv with
    | agg _ us h1 h2=>
    have:=Cb (w:=w) (R:=R) (R':=R') (μ:=μ) (fun v v' ids u hv hf hi=>Ee hm hRR d v v' ids u hv hf hi) cs l ids us.toList ⟨by simp [h1],fun j v u hv hu=>h2 j v u hv (by simpa using hu)⟩ hl hR
    exact .agg l us (by have:=this.1; simpa using this) (fun j v u hv hu=>this.2 j v u hv (by simpa using hu))
   ·cases h
  ·rename_i id o
   split at h
   ·exact same _ h hv
   split at h
   ·rename_i cs hb
    split at h
    ·rename_i l ids' hl
     split at h
     ·rename_i hp
      obtain ⟨rb,hmu,hrep⟩:=hm.blk id _ hb
      cases hv with
      | ptr _ _ b hr=>
      rw [hmu] at hr; simp at hr; subst hr
      cases hrep with
      | box _ _ us e hh h1 h2=>
      have hids:(∀ i∈id::ids',Gr w μ bl R' i)->R' b/\Reps w R' μ l us.toList:=fun hR=>⟨hR id (List.mem_cons_self ..) _ _ b hb hmu rfl,
       Cb (w:=w) (R:=R) (R':=R') (μ:=μ) (fun v v' ids u hv hf hi=>Ee hm hRR d v v' ids u hv hf hi) cs l ids' us.toList ⟨by simp [h1],fun j v u hv hu=>h2 j v u hv (by simpa using hu)⟩ hl (fun id' hi=>hR id' (List.mem_cons_of_mem _ hi))⟩
      split at h
      ·rename_i v2 hn
       simp at h; obtain ⟨rfl,rfl⟩:=h
       obtain ⟨hb',this⟩:=hids hR
       obtain ⟨c,z,rfl,g2⟩:=Fn this hn
       refine .tp c z 0 b (fun j=>us[j]!) hb' (fun j v hv=>?_) (fun j v hv=>?_)
       ·have hj:j<us.size:=by have:=(List.getElem?_eq_some_iff.1 hv).1; rw [<-g2.1] at this; simpa using this
        rw [cell_of_row w b j us e (0,0) hh]; simp [hj]
       ·have hj:j<us.size:=by have:=(List.getElem?_eq_some_iff.1 hv).1; rw [<-g2.1] at this; simpa using this
        exact g2.2 j v _ hv (by simp [hj])
      ·simp at h; obtain ⟨rfl,rfl⟩:=h
       obtain ⟨hb',this⟩:=hids hR
       have hlen:us.size=l.length:=by have:=this.1; simpa using this
       refine .bx l _ b (fun j=>us[j]!) hb' hp (fun j v hv=>?_) (fun j v hv=>?_)
       ·have hj:j<us.size:=by rw [hlen]; exact (List.getElem?_eq_some_iff.1 hv).1
        rw [cell_of_row w b j us e (0,0) hh]
        simp [hj]
       ·have hj:j<us.size:=by rw [hlen]; exact (List.getElem?_eq_some_iff.1 hv).1
        exact this.2 j v _ hv (by simp [hj])
     ·exact same _ h hv
    ·exact same _ h hv
   ·exact same _ h hv
  ·exact same _ h hv
end
end Go.Proofs.YthbecdipboideaaDoor.Den
/- What a call does to the memory that the machine knows. -/
namespace Go.Proofs.YthbecdipboideaaDoor.Den

def ED (w:World) (bl:Nat->Option Blk) (μ:Nat->Option RB) (x:Nat):Prop:=∃ j B rb,bl j=some B/\B.own=true/\μ j=some rb/\Foot w rb B x

def Was (w:World) (bl:Nat->Option Blk) (μ:Nat->Option RB) (x:Nat):Prop:=∃ j B rb,bl j=some B/\μ j=some rb/\Foot w rb B x
structure Left (w:World) (R:Nat->Prop) (μ:Nat->Option RB) (bl:Nat->Option Blk) (r:V) (outs:List (Option Blk)) (u:Value) (w':World) (R':Nat->Prop) (μ':Nat->Option RB):Prop where
 val:VRep w' R' μ' r u
 mem:Mem w' R' μ' (fun j=>(outs[j]?).join)
 os:w'.os=w.os
 tape:w'.tape=w.tape
 output:w'.output=w.output
 grow:w.heap.size<=w'.heap.size
 same : ∀ k,k<w.heap.size->¬ED w bl μ k->w'.heap[k]? = w.heap[k]?
 r0 : ∀ x,R x->R' x
 rT : ∀ x,R' x->R x\/ED w bl μ x\/w.heap.size<=x
 ownT : ∀ j B rb x,(outs[j]?).join=some B->B.own=true->μ' j=some rb->Foot w' rb B x->ED w bl μ x\/w.heap.size<=x
 allT : ∀ j B rb x,(outs[j]?).join=some B->μ' j=some rb->Foot w' rb B x->Was w bl μ x\/w.heap.size<=x
 ext : ∀ j rb,μ j=some rb->μ' j=some rb
 none : ∀ j,outs.length<=j->μ' j=none

def Ad (P:Program) (K:FuncId) (F:List V->List Blk->Option (V×List (Option Blk))):Prop:=
 ∀ (w:World) (R:Nat->Prop) (μ:Nat->Option RB) (vs:List V) (us:List Value) (bs:List Blk) (r:V) (outs:List (Option Blk)),
  Mem w R μ (fun j=>bs[j]?)->(∀ j,bs.length<=j->μ j=none)->Reps w R μ vs us->F vs bs=some (r,outs)->
  Calls P K us.toArray w fun e w'=>∃ u R' μ',e = .returned u/\Left w R μ (fun j=>bs[j]?) r outs u w' R' μ'

section
variable {P:Program} {E:Env} {R:Nat->Prop} {μ:Nat->Option RB} {sl:List V} {bl:Nat->Option Blk} {fr:Nat->Prop} {a:Act} {w:World}

theorem Fb : ∀ (c:Cd) (z:c.den) (v:V),c.deep=true->v∈enc c z->(∃ k n,v = .i k n)\/(∃ b,v = .b b)\/(∃ l,v = .s l)\/∃ c l,v = .sl c l
 | .int _,_,v,_,h=>by simp [enc] at h; exact .inl ⟨_,_,h⟩
 | .bool,_,v,_,h=>by simp [enc] at h; exact .inr (.inl ⟨_,h⟩)
 | .str,_,v,_,h=>by simp [enc] at h; exact .inr (.inr (.inl ⟨_,h⟩))
 | .slice _,_,v,_,h=>by simp [enc] at h; exact .inr (.inr (.inr ⟨_,_,h⟩))
 | .unit,_,v,_,h=>by simp [enc] at h
 | .rose _,_,v,hf,h=>by simp [Cd.deep] at hf
 | .tree _,_,v,hf,h=>by simp [Cd.deep] at hf
 | .pair a b,z,v,hf,h=>by
  simp only [Cd.deep,and_eq_true] at hf
  simp only [enc,mem_append] at h
  rcases h with h | h
  ·exact Fb a z.1 v hf.1 h
  ·exact Fb b z.2 v hf.2 h
theorem Na {ids:List Nat} {new:Nat} {bs:List Blk} {L:Nat->Prop} {r:V} {outs:List (Option Blk)} {u:Value} {w':World} {R':Nat->Prop} {μc μ':Nat->Option RB} {back:Nat->Option Nat}
  (h:SimAt E R μ sl bl fr a w) (hf : ∀ c,c<16->fr (new+c)) (_hnd:ids.Nodup) (hbs : ∀ (j:Nat) id,ids[j]? = some id->∃ B,bl id=some B/\∃ ρ,bs[j]? = some (BV ρ B)) (hbl:bs.length=ids.length)
  (hμc : ∀ j,μc j=(ids[j]?).bind μ) (hL : ∀ x,L x->¬R x->∃ id B rb,bl id=some B/\B.own=true/\μ id=some rb/\Foot w rb B x/\id ∉ ids)
  (hleft:Left w (fun x=>R x\/L x) μc (fun j=>bs[j]?) r outs u w' R' μ') (hlen1:outs.length<ids.length+15) (hlen2:ids.length<=outs.length)
  (hback : ∀ j,back j=if j<ids.length then ids[j]? else some (new+(j-ids.length)))
  (bl'':Nat->Option Blk) (hb1 : ∀ (j:Nat) o id,outs[j]? = some o->back j=some id->bl'' id=o.map (BV back)) (hb2 : ∀ id,(∀ j,j<outs.length->back j≠some id)->bl'' id=bl id)
  (hclean:(∀ x,L x->R x)\/(BF 6 r=true/\∀ (j:Nat) o,outs[j]? = some o->match o with | some (.row _ _ c _)=>c.flat=true | some (.box cs)=>cs.all (BF 5)=true | some (.mp _ _ _)=>False | some (.drow c _ op)=>op=none/\c.deep=true | none=>True)) :
  ∃ R'' μ'',SimAt E R'' μ'' sl bl'' (fun j=>fr j/\(j<new\/new+16<=j)) a w'/\VRep w' R'' μ'' (BU back 6 r) u:=by
 -- the passed blocks' owners
 have owned : ∀ x,ED w (fun j=>bs[j]?) μc x->∃ id B rb,id∈ids/\bl id=some B/\B.own=true/\μ id=some rb/\Foot w rb B x:=by
  rintro x ⟨j,B,rb,h1,h2,h3,h4⟩
  have hj:j<ids.length:=by rw [<-hbl]; exact (List.getElem?_eq_some_iff.1 h1).1
  obtain ⟨B0,g1,ρ,g2⟩:=hbs j ids[j] (by simp [hj])
  dsimp only at h1
  rw [g2] at h1; simp at h1; subst h1
  rw [hμc] at h3
  simp [hj] at h3
  exact ⟨ids[j],B0,rb,getElem_mem hj,g1,by rw [B7] at h2; exact h2,h3,AF h4⟩
 have ownedOld : ∀ id B rb x,bl id=some B->B.own=true->id ∉ ids->μ id=some rb->Foot w rb B x->¬ED w (fun j=>bs[j]?) μc x:=by
  intro id B rb x h1 h2 h3 h4 h5 h6
  obtain ⟨id',B',rb',g1,g2,g3,g4,g5⟩:=owned x h6
  exact h3 (h.mem.inj id id' B B' rb rb' x h1 g2 h2 g3 h4 g4 h5 g5 ▸ g1)
 have ownedR : ∀ x,R x->¬ED w (fun j=>bs[j]?) μc x:=by
  intro x hR h6
  obtain ⟨id',B',rb',g1,g2,g3,g4,g5⟩:=owned x h6
  exact h.mem.sep id' B' rb' x g2 g3 g4 g5 hR
 let μ'':Nat->Option RB:=fun id=>match μ id with | some rb=>some rb | none=>if new<=id/\id<new+16 then μ' (ids.length+(id-new)) else none
 let R'':Nat->Prop:=fun x=>R' x/\(L x->R x)
 have hx : ∀ id rb,μ id=some rb->μ'' id=some rb:=fun id rb e=>by simp only [μ'']; rw [e]
 have hfresh : ∀ c,c<16->μ'' (new+c)=μ' (ids.length+c):=fun c hc=>by
  simp only [μ'']
  rw [h.free _ (hf c hc)]
  dsimp only
  rw [if_pos ⟨by omega,by omega⟩]
  congr 1; omega
 have hρ : ∀ j id rb,back j=some id->μ' j=some rb->μ'' id=some rb:=by
  intro j id rb e1 e2
  rw [hback] at e1
  split at e1
  ·rename_i hj
   have hc:μc j=μ id:=by rw [hμc,e1]; rfl
   cases em:μ id with
   | none=>
    -- then nothing is known of it
    obtain ⟨B,g1,_⟩:=hbs j id e1
    obtain ⟨rb0,g2,_⟩:=h.mem.blk id B g1
    rw [em] at g2; cases g2
   | some rb0=>
    rw [em] at hc
    have:=hleft.ext j rb0 hc
    rw [this] at e2
    rw [hx id rb0 em,<-e2]
  ·rename_i hj
   simp at e1; subst e1
   have hjl:j<outs.length:=by
    rcases Nat.lt_or_ge j outs.length with h1 | h1
    ·exact h1
    ·rw [hleft.none j h1] at e2; cases e2
   rw [hfresh _ (by omega),<-e2]
   congr 1; omega
 have hRR : ∀ x,R x->R'' x:=fun x hR=>⟨hleft.r0 x (.inl hR),fun _=>hR⟩
 have hwR : ∀ x,R x->w'.heap[x]? = w.heap[x]?:=fun x hR=>hleft.same x (h.mem.rlt x hR) (ownedR x hR)
 -- what leans on what stays, leans on less
 have lean : ∀ v u,VRep w' R' μ' v u->(BF 6 v=true\/∀ x,L x->R x)->VRep w' R'' μ' v u:=fun v u hv hc=>by
  rcases hc with hc | hc
  ·exact Ev 6 v u hc hv
  ·exact hv.mono (fun _ _=>rfl) (fun x hx=>⟨hx,hc x⟩) (fun _ _ h=>h)
 have was : ∀ x,Was w (fun j=>bs[j]?) μc x->∃ id B rb,id∈ids/\bl id=some B/\μ id=some rb/\Foot w rb B x:=by
  rintro x ⟨j,B,rb,h1,h3,h4⟩
  have hj:j<ids.length:=by rw [<-hbl]; exact (List.getElem?_eq_some_iff.1 h1).1
  obtain ⟨B0,g1,ρ,g2⟩:=hbs j ids[j] (by simp [hj])
  dsimp only at h1
  rw [g2] at h1; simp at h1; subst h1
  rw [hμc] at h3
  simp [hj] at h3
  exact ⟨ids[j],B0,rb,getElem_mem hj,g1,h3,AF h4⟩
 -- what is lent is not among what comes back
 have notL : ∀ x,L x->¬R x->(Was w (fun j=>bs[j]?) μc x\/w.heap.size<=x)->False:=by
  intro x hLx hRx hw
  obtain ⟨id,B1,rb1,g1,g2,g3,g4,g5⟩:=hL x hLx hRx
  obtain ⟨rb1',g6,g7⟩:=h.mem.blk id B1 g1
  rw [g3] at g6; simp at g6; subst g6
  rcases hw with hw | hw
  ·obtain ⟨id2,B2,rb2,k1,k2,k3,k4⟩:=was x hw
   obtain ⟨rb2',k6,k7⟩:=h.mem.blk id2 B2 k2
   rw [k3] at k6; simp at k6; subst k6
   by_cases o2:B2.own=true
   ·exact g5 (h.mem.inj id2 id B2 B1 rb2 rb1 x k2 g1 o2 g2 k3 g3 k4 g4 ▸ k1)
   ·cases k7 with
    | box=>simp [Blk.own] at o2
    | mp=>simp [Blk.own] at o2
    | dvac=>simp [Blk.own] at o2
    | drow=>simp [Blk.own] at o2
    | vac=>simp [Foot,RB.real] at k4
    | row b off k cap len ro nl c l us e hk h1 h2 h3 h4 h5 h6=>
     simp [Blk.own] at o2
     simp [Foot,RB.real] at k4; subst k4
     exact hRx (h6 o2)
  ·have:=g7.lt g4; omega
 have leanB : ∀ (j:Nat) B rb,outs[j]? = some (some B)->BRep w' R' μ' rb B->μ' j=some rb->BRep w' R'' μ' rb B:=fun j B rb ho hB hmj=>by
  rcases hclean with hc | ⟨_,hc⟩
  ·exact hB.mono (fun _ _=>rfl) (fun _ _=>rfl) (fun x hx=>⟨hx,hc x⟩) (fun _ _ h=>h)
  ·have hcj:=hc j _ ho
   have hall:=hleft.allT j B rb
   cases hB with
   | box b cs us e h1 h2 h3=>exact .box b cs us e h1 h2 (fun i v u hv hu=>Ev 5 v u (all_eq_true.1 hcj v (mem_of_getElem? hv)) (h3 i v u hv hu))
   | vac ao ro nl c=>exact .vac ao ro nl c
   | mp=>exact hcj.elim
   | dvac ao c=>exact .dvac ao c
   | drow b off k cap len c l op us e hk h1 h2 h3 h4 h5 h6 h7 h8=>
    obtain ⟨rfl,hdp⟩:op=none/\c.deep=true:=hcj
    refine .drow b off k cap len c l none us e hk h1 h2 h3 h4 (fun i row j v k1 k2=>?_) h6 h7 h8
    obtain ⟨z,_,rfl⟩:=map_eq_some_iff.1 (show (l[i]?).map (enc c)=some row from k1)
    obtain ⟨u,hu,hr⟩:=h5 i _ j v k1 k2
    refine ⟨u,hu,?_⟩
    rcases Fb c z v hdp (mem_of_getElem? k2) with ⟨k,n,rfl⟩ | ⟨b,rfl⟩ | ⟨l,rfl⟩ | ⟨c1,l1,rfl⟩
    ·cases (show VRep w' R' μ' (.i k n) u from hr); exact VRep.i _ _
    ·cases (show VRep w' R' μ' (.b b) u from hr); exact VRep.b _
    ·cases (show VRep w' R' μ' (.s l) u from hr); exact VRep.s _
    ·exact hr
   | row b off k cap len ro nl c l us e hk h1 h2 h3 h4 h5 h6=>
    refine .row b off k cap len ro nl c l us e hk h1 h2 h3 h4 (fun i z j v hz hv=>by obtain ⟨u,hu,hr⟩:=h5 i z j v hz hv; exact ⟨u,hu,Kb hcj hv hr⟩) (fun hro=>⟨h6 hro,fun hLb=>?_⟩)
    by_cases hRb:R b
    ·exact hRb
    ·exact (notL b hLb hRb (hall b (by rw [ho]; rfl) hmj rfl)).elim
 -- which number a block bears behind the call
 have split : ∀ id B,bl'' id=some B->(∃ j B0,j<outs.length/\back j=some id/\outs[j]? = some (some B0)/\B=BV back B0)\/((∀ j,j<outs.length->back j≠some id)/\bl id=some B):=by
  intro id B hB
  by_cases he : ∃ j,j<outs.length/\back j=some id
  ·obtain ⟨j,h1,h2⟩:=he
   have h3:outs[j]? = some outs[j]:=by simp [h1]
   have h4:=hb1 j outs[j] id h3 h2
   rw [hB] at h4
   cases ho:outs[j] with
   | none=>rw [ho] at h4; cases h4
   | some B0=>rw [ho] at h4 h3; simp at h4; exact .inl ⟨j,B0,h1,h2,h3,h4⟩
  ·have hn : ∀ j,j<outs.length->back j≠some id:=fun j h1 h2=>he ⟨j,h1,h2⟩
   rw [hb2 id hn] at hB
   exact .inr ⟨hn,hB⟩
 have notIds : ∀ id,(∀ j,j<outs.length->back j≠some id)->id ∉ ids:=by
  intro id hn hi
  obtain ⟨j,hj,rfl⟩:=getElem_of_mem hi
  exact hn j (by omega) (by rw [hback,if_pos hj]; simp [hj])
 have known : ∀ id B,bl id=some B->∃ rb,μ id=some rb:=fun id B h1=>by obtain ⟨rb,h2,_⟩:=h.mem.blk id B h1; exact ⟨rb,h2⟩
 -- of a block that came back, its place
 have place : ∀ j B0 id,outs[j]? = some (some B0)->back j=some id->∃ rb,μ' j=some rb/\μ'' id=some rb/\BRep w' R' μ' rb B0:=fun j B0 id h1 h2=>by
  obtain ⟨rb,g1,g2⟩:=hleft.mem.blk j B0 (by rw [h1]; rfl)
  exact ⟨rb,g1,hρ j id rb h2 g1,g2⟩
 -- a block that did not go along lies where it lay
 have sameB : ∀ id B rb,(∀ j,j<outs.length->back j≠some id)->bl id=some B->μ id=some rb->BRep w R μ rb B->∀ b,Foot w rb B b->w'.heap[b]? = w.heap[b]?:=fun id B rb hn hB g1 g2 b hb=>hleft.same b (g2.lt hb) (by
  intro ho
  by_cases o1:B.own=true
  ·exact ownedOld id B rb b hB o1 (notIds id hn) g1 hb ho
  ·cases g2 with
   | box=>simp [Blk.own] at o1
   | mp=>simp [Blk.own] at o1
   | dvac=>simp [Blk.own] at o1
   | drow=>simp [Blk.own] at o1
   | vac=>simp [Foot,RB.real] at hb
   | row b' off k cap len ro nl c l us e hk h1 h2 h3 h4 h5 h6=>
    simp [Blk.own] at o1
    simp [Foot,RB.real] at hb; subst hb
    exact ownedR b' (h6 o1) ho)
 have oldReal : ∀ id B rb x,(∀ j,j<outs.length->back j≠some id)->bl id=some B->μ'' id=some rb->Foot w' rb B x->μ id=some rb/\x<w.heap.size/\Foot w rb B x:=fun id B rb x hn h1 h2 h3=>by
  obtain ⟨rb0,g1⟩:=known id B h1
  have:=hx id rb0 g1
  rw [h2] at this; simp at this; subst this
  obtain ⟨rb1,g2,g3⟩:=h.mem.blk id B h1
  rw [g1] at g2; simp at g2; subst g2
  have:=(Cl (fun y hy=>sameB id B rb hn h1 g1 g3 y (Foot.main hy))).1 h3
  exact ⟨g1,g3.lt this,this⟩
 refine ⟨R'',μ'',⟨⟨?_,?_,?_,fun x hx=>hleft.mem.rlt x hx.1⟩,h.size,fun t v u h1 h2=>(h.slot t v u h1 h2).mono hwR hRR hx,h.dfr,?_,hleft.os.trans h.os,hleft.tape.trans h.tape,hleft.output.trans h.output,le_trans h.grow hleft.grow,?_,?_,?_,fun x hx'=>hRR x (h.r0 x hx'),?_,fun j rb hj=>hx j rb (h.ext j rb hj)⟩,?_⟩
 ·intro id B hB
  rcases split id B hB with ⟨j,B0,h1,h2,h3,rfl⟩ | ⟨hn,hB⟩
  ·obtain ⟨rb,g1,g2,g3⟩:=place j B0 id h3 h2
   exact ⟨rb,g2,DC (fun i k rb' e1 e2=>hρ i k rb' e1 e2) (leanB j B0 rb h3 g3 g1)⟩
  ·obtain ⟨rb,g1,g2⟩:=h.mem.blk id B hB
   exact ⟨rb,hx id rb g1,g2.mono hwR (sameB id B rb hn hB g1 g2) hRR hx⟩
 ·intro id id' B B' rb rb' x h1 h2 o1 o2 m1 m2 e1 e2
  rcases split id B h1 with ⟨j,B0,a1,a2,a3,rfl⟩ | ⟨hn,hB⟩
  ·obtain ⟨r1,g1,g2,g3⟩:=place j B0 id a3 a2
   rw [m1] at g2; simp at g2; subst g2
   rw [B7] at o1
   rcases split id' B' h2 with ⟨j',B0',b1,b2,b3,rfl⟩ | ⟨hn',hB'⟩
   ·obtain ⟨r2,k1,k2,k3⟩:=place j' B0' id' b3 b2
    rw [m2] at k2; simp at k2; subst k2
    rw [B7] at o2
    have:=hleft.mem.inj j j' B0 B0' rb rb' x (by rw [a3]; rfl) (by rw [b3]; rfl) o1 o2 g1 k1 (AF e1) (AF e2)
    subst this
    rw [a2] at b2; simp at b2; exact b2
   ·exfalso
    obtain ⟨q1,q2,q3⟩:=oldReal id' B' rb' x hn' hB' m2 e2
    rcases hleft.ownT j B0 rb x (by rw [a3]; rfl) o1 g1 (AF e1) with h5 | h5
    ·exact ownedOld id' B' rb' x hB' o2 (notIds id' hn') q1 q3 h5
    ·omega
  ·obtain ⟨q1,q2,q5⟩:=oldReal id B rb x hn hB m1 e1
   rcases split id' B' h2 with ⟨j',B0',b1,b2,b3,rfl⟩ | ⟨hn',hB'⟩
   ·exfalso
    obtain ⟨r2,k1,k2,k3⟩:=place j' B0' id' b3 b2
    rw [m2] at k2; simp at k2; subst k2
    rw [B7] at o2
    rcases hleft.ownT j' B0' rb' x (by rw [b3]; rfl) o2 k1 (AF e2) with h5 | h5
    ·exact ownedOld id B rb x hB o1 (notIds id hn) q1 q5 h5
    ·omega
   ·obtain ⟨q3,q4,q6⟩:=oldReal id' B' rb' x hn' hB' m2 e2
    exact h.mem.inj id id' B B' rb rb' x hB hB' o1 o2 q1 q3 q5 q6
 ·intro id B rb x h1 o1 m1 e1 hR2
  rcases split id B h1 with ⟨j,B0,a1,a2,a3,rfl⟩ | ⟨hn,hB⟩
  ·obtain ⟨r1,g1,g2,g3⟩:=place j B0 id a3 a2
   rw [m1] at g2; simp at g2; subst g2
   rw [B7] at o1
   exact hleft.mem.sep j B0 rb x (by rw [a3]; rfl) o1 g1 (AF e1) hR2.1
  ·obtain ⟨q1,q2,q5⟩:=oldReal id B rb x hn hB m1 e1
   have hnR:=h.mem.sep id B rb x hB o1 q1 q5
   rcases hleft.rT x hR2.1 with (h5 | h5) | h5 | h5
   ·exact hnR h5
   ·exact hnR (hR2.2 h5)
   ·exact ownedOld id B rb x hB o1 (notIds id hn) q1 q5 h5
   ·omega
 ·intro id ⟨h1,h2⟩
  simp only [μ'']
  rw [h.free id h1]
  dsimp only
  rw [if_neg (by omega)]
 ·intro k hk hn
  rw [hleft.same k (Nat.lt_of_lt_of_le hk h.grow) ?_]
  ·exact h.same k hk hn
  ·intro ho
   obtain ⟨id,B,rb,g1,g2,g3,g4,g5⟩:=owned k ho
   rcases h.ownT id B rb k g2 g3 g4 g5 with h5 | h5
   ·exact hn h5
   ·omega
 ·intro id B rb x h1 o1 m1 e1
  rcases split id B h1 with ⟨j,B0,a1,a2,a3,rfl⟩ | ⟨hn,hB⟩
  ·obtain ⟨r1,g1,g2,g3⟩:=place j B0 id a3 a2
   rw [m1] at g2; simp at g2; subst g2
   rw [B7] at o1
   rcases hleft.ownT j B0 rb x (by rw [a3]; rfl) o1 g1 (AF e1) with h5 | h5
   ·obtain ⟨id2,B2,rb2,k1,k2,k3,k4,k5⟩:=owned x h5
    exact h.ownT id2 B2 rb2 x k2 k3 k4 k5
   ·exact .inr (le_trans h.grow h5)
  ·obtain ⟨q1,q2,q5⟩:=oldReal id B rb x hn hB m1 e1
   exact h.ownT id B rb x hB o1 q1 q5
 ·intro id B rb x h1 m1 e1
  rcases split id B h1 with ⟨j,B0,a1,a2,a3,rfl⟩ | ⟨hn,hB⟩
  ·obtain ⟨r1,g1,g2,g3⟩:=place j B0 id a3 a2
   rw [m1] at g2; simp at g2; subst g2
   rcases hleft.allT j B0 rb x (by rw [a3]; rfl) g1 (AF e1) with h5 | h5
   ·obtain ⟨id2,B2,rb2,k1,k2,k4,k5⟩:=was x h5
    exact h.allT id2 B2 rb2 x k2 k4 k5
   ·exact .inr (le_trans h.grow h5)
  ·obtain ⟨q1,q2,q5⟩:=oldReal id B rb x hn hB m1 e1
   exact h.allT id B rb x hB q1 q5
 ·intro x hR2
  rcases hleft.rT x hR2.1 with (h5 | h5) | h5 | h5
  ·exact h.rT x h5
  ·exact h.rT x (hR2.2 h5)
  ·obtain ⟨id2,B2,rb2,k1,k2,k3,k4,k5⟩:=owned x h5
   exact .inr (h.ownT id2 B2 rb2 x k2 k3 k4 k5)
  ·exact .inr (.inr (le_trans h.grow h5))
 ·have hv:VRep w' R'' μ' r u:=lean r u hleft.val (by rcases hclean with hc | ⟨hc,_⟩; exact .inr hc; exact .inl hc)
  exact Cg (fun i k rb' e1 e2=>hρ i k rb' e1 e2) 6 r u hv
end
end Go.Proofs.YthbecdipboideaaDoor.Den
