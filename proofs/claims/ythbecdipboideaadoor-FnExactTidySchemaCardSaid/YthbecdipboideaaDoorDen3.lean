/- The abstract machine: every operation is sound. -/
import Derived.Test.YthbecdipboideaaDoorDen2
import Derived.Laws.BytesString
import Derived.MapKept
/- The call. -/
open List (getD getElem?_eq_none getElem?_map mem_append mem_map)
open Nat (add_assoc blt eq_of_beq_eq_true le_of_ble_eq_true le_refl)
open Option (bind_eq_some_iff bind_some map_eq_some_iff)
open Bool (and_eq_true)
namespace Go.Proofs.YthbecdipboideaaDoor.Den

theorem Bx : ∀ (m l:List Nat),l.Nodup->(A7 l m).Nodup
 | [],l,h=>h
 | j::m,l,h=>by
  unfold A7
  simp only [List.foldl_cons]
  split
  ·exact Bx m l h
  ·rename_i hc
   refine Bx m (l++[j]) (List.nodup_append.2 ⟨h,by simp,?_⟩)
   intro a ha b hb
   simp at hb; subst hb
   intro e; subst e
   simp at hc; exact hc ha
theorem Ch (bl:Nat->Option Blk) : ∀ (d:Nat) (acc todo:List Nat),acc.Nodup->(Ba bl d acc todo).Nodup
 | 0,acc,todo,h=>h
 | d+1,acc,[],h=>h
 | d+1,acc,t::todo,h=>by
  unfold Ba
  exact Ch bl d _ _ (Bx _ _ h)
theorem Cw {l:List Nat} {id j:Nat} (h:Bd l id=some j):l[j]? = some id:=by
 unfold Bd at h
 rw [List.findIdx?_eq_some_iff_getElem] at h
 obtain ⟨hj,h1,_⟩:=h
 have:=eq_of_beq_eq_true h1
 simp [hj,this]
theorem HM {α β:Type} {f:α->Option β} : ∀ {l:List α} {r:List β},l.mapM f=some r->r.length=l.length/\∀ (j:Nat) a,l[j]? = some a->∃ b,f a=some b/\r[j]? = some b
 | [],r,h=>by simp at h; subst h; simp
 | a::l,r,h=>by
  simp only [List.mapM_cons,Option.bind_eq_bind,Option.pure_def] at h
  obtain ⟨b,h1,h⟩:=bind_eq_some_iff.1 h
  obtain ⟨r',h2,h⟩:=bind_eq_some_iff.1 h
  simp at h; subst h
  obtain ⟨g1,g2⟩:=HM h2
  refine ⟨by simp [g1],fun j x hx=>?_⟩
  cases j with
  | zero=>simp at hx; subst hx; exact ⟨b,h1,by simp⟩
  | succ j=>simp at hx; obtain ⟨c,g3,g4⟩:=g2 j x hx; exact ⟨c,g3,by simpa using g4⟩

theorem Ho {key:Nat->Nat} {f:Option Blk->Option Blk} : ∀ (outs:List (Option Blk)) (i:Nat) (bl:Nat->Option Blk),(∀ j j',i<=j->i<=j'->j<i+outs.length->j'<i+outs.length->key j=key j'->j=j')->
  ∀ (j:Nat) o,outs[j]? = some o->Av bl ((outs.zipIdx i).map fun p=>(key p.2,f p.1)) (key (i+j))=f o
 | [],i,bl,_,j,o,h=>by simp at h
 | o1::outs,i,bl,hk,j,o,h=>by
  simp only [List.zipIdx_cons,List.map_cons,Av]
  cases j with
  | zero=>
   simp at h; subst h
   rw [Bw]
   ·exact Ah _ _ _
   ·intro p hp e
    simp only [mem_map] at hp
    obtain ⟨q,hq,rfl⟩:=hp
    have hq2:=List.mem_zipIdx hq
    have:=hk q.2 i (by omega) (by omega) (by simp; omega) (by simp) (by simpa using e)
    omega
  | succ j=>
   simp at h
   have:=Ho (f:=f) outs (i+1) (Au bl (key i) (f o1)) (fun a b h1 h2 h3 h4=>hk a b (by omega) (by omega) (by simp; omega) (by simp; omega)) j o h
   rwa [show i+1+j=i+(j+1) by omega] at this

section
variable {P:Program} {E:Env} {R:Nat->Prop} {μ:Nat->Option RB} {sl:List V} {bl blr:Nat->Option Blk} {fr:Nat->Prop} {a:Act} {w:World}

theorem Mem.pass {ids:List Nat} {bs:List Blk} {R':Nat->Prop} {μc:Nat->Option RB} {ρ:Nat->Option Nat} (hm:Mem w R μ bl) (hnd:ids.Nodup) (hbs : ∀ (j:Nat) id,ids[j]? = some id->∃ B,bl id=some B/\bs[j]? = some (BV ρ B)) (hbl:bs.length=ids.length)
  (hμc : ∀ j,μc j=(ids[j]?).bind μ) (hρ : ∀ id j rb,ρ id=some j->μ id=some rb->μc j=some rb) (hRR : ∀ x,R x->R' x) (hlt : ∀ x,R' x->x<w.heap.size) (hsep : ∀ id B rb x,id∈ids->bl id=some B->B.own=true->μ id=some rb->Foot w rb B x->¬R' x) :
  Mem w R' μc (fun j=>bs[j]?):=by
 have get : ∀ j B,bs[j]? = some B->∃ (hj:j<ids.length) (B0:Blk),bl ids[j]=some B0/\B=BV ρ B0:=fun j B h=>by
  have hj:j<ids.length:=by rw [<-hbl]; exact (List.getElem?_eq_some_iff.1 h).1
  obtain ⟨B0,g1,g2⟩:=hbs j ids[j] (by simp [hj])
  rw [g2] at h; simp at h
  exact ⟨hj,B0,g1,h.symm⟩
 refine ⟨?_,?_,?_,hlt⟩
 ·intro j B h
  obtain ⟨hj,B0,g1,rfl⟩:=get j B h
  obtain ⟨rb,g2,g3⟩:=hm.blk _ _ g1
  refine ⟨rb,by rw [hμc]; simp [hj,g2],DC hρ (g3.mono (fun _ _=>rfl) (fun _ _=>rfl) hRR (fun _ _ h=>h))⟩
 ·intro j j' B B' rb rb' x h1 h2 o1 o2 m1 m2 e1 e2
  obtain ⟨hj,B0,g1,rfl⟩:=get j B h1
  obtain ⟨hj',B0',g1',rfl⟩:=get j' B' h2
  rw [hμc] at m1 m2
  simp [hj] at m1; simp [hj'] at m2
  rw [B7] at o1 o2
  have:=hm.inj _ _ B0 B0' rb rb' x g1 g1' o1 o2 m1 m2 (AF e1) (AF e2)
  exact (List.getElem_inj hnd).1 this
 ·intro j B rb x h1 o1 m1 e1
  obtain ⟨hj,B0,g1,rfl⟩:=get j B h1
  rw [hμc] at m1
  simp [hj] at m1
  rw [B7] at o1
  exact hsep _ B0 rb x (List.getElem_mem hj) g1 o1 m1 (AF e1)

structure Knows (P:Program) (Γ:FuncId->Option Ent):Prop where
 enters : ∀ f ent,Γ f=some ent->∀ (args:Array Value) (W:World),(callFunc f args).run P W = .ok (.enter f args) W
 holds : ∀ f ent,Γ f=some ent->Ad P f ent.F

def If (blr:Nat->Option Blk) (id:Nat):Prop:=(∃ ro nl c l,blr id=some (.row ro nl c l))\/(∃ cs,blr id=some (.box cs))\/∃ c l,blr id=some (.drow c l none)
theorem D9 {pt:Bool} : ∀ (d:Nat) (v v':V) (ids:List Nat),DS blr pt d v=some (v',ids)->∀ id∈ids,If blr id
 | 0,v,v',ids,h=>by simp [DS] at h
 | d+1,v,v',ids,h=>by
  unfold DS at h
  split at h
  ·split at h
   ·rename_i ro nl c l hb
    simp at h; obtain ⟨_,rfl⟩:=h
    intro id' hi; simp at hi; subst hi
    exact .inl ⟨_,_,_,_,hb⟩
   ·rename_i c l hb
    simp at h; obtain ⟨_,rfl⟩:=h
    intro id' hi; simp at hi; subst hi
    exact .inr (.inr ⟨_,_,hb⟩)
   ·cases h
  ·split at h
   ·simp at h; obtain ⟨_,rfl⟩:=h; simp
   split at h
   ·rename_i c l hb
    simp at h; obtain ⟨_,rfl⟩:=h
    intro id' hi; simp at hi; subst hi
    exact .inr (.inr ⟨_,_,hb⟩)
   ·simp at h; obtain ⟨_,rfl⟩:=h; simp
  ·split at h
   ·rename_i cs l ids' hl
    simp at h; obtain ⟨_,rfl⟩:=h
    have : ∀ (vs vs':List V) (ids:List Nat),C7 (DS blr pt d) vs=some (vs',ids)->∀ id∈ids,If blr id:=by
     intro vs
     induction vs with
     | nil=>intro vs' ids h; simp [C7] at h; obtain ⟨_,rfl⟩:=h; simp
     | cons v vs ih=>
      intro vs' ids h
      unfold C7 at h
      split at h
      ·rename_i v1 a1 hv1
       split at h
       ·rename_i vs1 b1 hvs1
        simp at h; obtain ⟨_,rfl⟩:=h
        intro id hi
        rcases mem_append.1 hi with hi | hi
        ·exact D9 d v v1 a1 hv1 id hi
        ·exact ih vs1 b1 hvs1 id hi
       ·cases h
      ·cases h
    exact this _ _ _ hl
   ·cases h
  ·split at h
   ·simp at h; obtain ⟨_,rfl⟩:=h; simp
   split at h
   ·rename_i id o _ cs hb
    split at h
    ·rename_i l ids' hl
     split at h
     ·have : ∀ (vs vs':List V) (ids:List Nat),C7 (DS blr true d) vs=some (vs',ids)->∀ id∈ids,If blr id:=by
       intro vs
       induction vs with
       | nil=>intro vs' ids h; simp [C7] at h; obtain ⟨_,rfl⟩:=h; simp
       | cons v vs ih=>
        intro vs' ids h
        unfold C7 at h
        split at h
        ·rename_i v1 a1 hv1
         split at h
         ·rename_i vs1 b1 hvs1
          simp at h; obtain ⟨_,rfl⟩:=h
          intro id hi
          rcases mem_append.1 hi with hi | hi
          ·exact D9 d v v1 a1 hv1 id hi
          ·exact ih vs1 b1 hvs1 id hi
         ·cases h
        ·cases h
      have two : ∀ {i0:Nat},blr i0=some (.box cs)->∀ id'∈i0::ids',If blr id':=fun hb id' hi=>by
       rcases List.mem_cons.1 hi with rfl | hi
       ·exact .inr (.inl ⟨cs,hb⟩)
       ·exact this _ _ _ hl id' hi
      split at h
      ·simp at h; obtain ⟨_,rfl⟩:=h; exact two hb
      ·simp at h; obtain ⟨_,rfl⟩:=h; exact two hb
     ·simp at h; obtain ⟨_,rfl⟩:=h; simp
    ·simp at h; obtain ⟨_,rfl⟩:=h; simp
   ·simp at h; obtain ⟨_,rfl⟩:=h; simp
  ·simp at h; obtain ⟨_,rfl⟩:=h; simp
theorem Gt {pt:Bool} {d:Nat} : ∀ (vs vs':List V) (ids:List Nat),C7 (DS blr pt d) vs=some (vs',ids)->∀ id∈ids,If blr id:=by
 intro vs
 induction vs with
 | nil=>intro vs' ids h; simp [C7] at h; obtain ⟨_,rfl⟩:=h; simp
 | cons v vs ih=>
  intro vs' ids h
  unfold C7 at h
  split at h
  ·rename_i v1 a1 hv1
   split at h
   ·rename_i vs1 b1 hvs1
    simp at h; obtain ⟨_,rfl⟩:=h
    intro id hi
    rcases mem_append.1 hi with hi | hi
    ·exact D9 d v v1 a1 hv1 id hi
    ·exact ih vs1 b1 hvs1 id hi
   ·cases h
  ·cases h

theorem Id {f:FuncId} {F:List V->List Blk->Option (V×List (Option Blk))} {ids:List Nat} {new:Nat} {bs0:List Blk} {L:Nat->Prop} {vs:List V} {us:List Value} {r:V} {outs:List (Option Blk)} {back:Nat->Option Nat}
  (hC:Ad P f F) (h:SimAt E R μ sl bl fr a w) (hf : ∀ c,c<16->fr (new+c)) (hnd:ids.Nodup) (hids : ∀ (j:Nat) id,ids[j]? = some id->∃ B,bl id=some B/\bs0[j]? = some B) (hbl:bs0.length=ids.length)
  (hL : ∀ x,L x->¬R x->∃ id B rb,bl id=some B/\B.own=true/\μ id=some rb/\Foot w rb B x/\id ∉ ids) (hr:Reps w (fun x=>R x\/L x) μ vs us)
  (hF:F (vs.map (BU (Bd ids) 5)) (bs0.map (BV (Bd ids)))=some (r,outs)) (hlen1:outs.length<ids.length+15) (hlen2:ids.length<=outs.length)
  (hback : ∀ j,back j=if j<ids.length then ids[j]? else some (new+(j-ids.length)))
  (hclean:(∀ x,L x->R x)\/(BF 6 r=true/\∀ (j:Nat) o,outs[j]? = some o->match o with | some (.row _ _ c _)=>c.flat=true | some (.box cs)=>cs.all (BF 5)=true | some (.mp _ _ _)=>False | some (.drow c _ op)=>op=none/\c.deep=true | none=>True)) :
  Calls P f us.toArray w fun e w'=>∃ u R'' μ'',e = .returned u/\SimAt E R'' μ'' sl (Av bl (outs.zipIdx.map fun p=>((back p.2).getD 0,p.1.map (BV back)))) (fun j=>fr j/\(j<new\/new+16<=j)) a w'/\VRep w' R'' μ'' (BU back 6 r) u:=by
 have known : ∀ id B,bl id=some B->∃ rb,μ id=some rb:=fun id B h1=>by obtain ⟨rb,h2,_⟩:=h.mem.blk id B h1; exact ⟨rb,h2⟩
 have hρ : ∀ id j rb,Bd ids id=some j->μ id=some rb->(ids[j]?).bind μ=some rb:=fun id j rb e1 e2=>by rw [Cw e1]; exact e2
 have hbs : ∀ (j:Nat) id,ids[j]? = some id->∃ B,bl id=some B/\(bs0.map (BV (Bd ids)))[j]? = some (BV (Bd ids) B):=fun j id e=>by
  obtain ⟨B,g1,g2⟩:=hids j id e
  exact ⟨B,g1,by simp [g2]⟩
 have lreal : ∀ x,L x->x<w.heap.size\/R x:=fun x hx=>by
  by_cases hRx:R x
  ·exact .inr hRx
  ·obtain ⟨id,B,rb,g1,g2,g3,g4,g5⟩:=hL x hx hRx
   obtain ⟨rb',g6,g7⟩:=h.mem.blk id B g1
   rw [g3] at g6; simp at g6; subst g6
   exact .inl (g7.lt g4)
 have hmem:Mem w (fun x=>R x\/L x) (fun j=>(ids[j]?).bind μ) (fun j=>(bs0.map (BV (Bd ids)))[j]?):=by
  refine h.mem.pass hnd hbs (by simpa using hbl) (fun _=>rfl) hρ (fun x hx=>.inl hx) (fun x hx=>?_) (fun id B rb x hi g1 g2 g3 g4 hx=>?_)
  ·rcases hx with hx | hx
   ·exact h.mem.rlt x hx
   ·rcases lreal x hx with h1 | h1
    ·exact h1
    ·exact h.mem.rlt x h1
  ·have hnR:=h.mem.sep id B rb x g1 g2 g3 g4
   rcases hx with hx | hx
   ·exact hnR hx
   ·obtain ⟨id',B',rb',k1,k2,k3,k4,k5⟩:=hL x hx hnR
    exact k5 (h.mem.inj id id' B B' rb rb' x g1 k1 g2 k2 g3 k3 g4 k4 ▸ hi)
 have hcall:=hC w (fun x=>R x\/L x) (fun j=>(ids[j]?).bind μ) (vs.map (BU (Bd ids) 5)) us (bs0.map (BV (Bd ids))) r outs hmem (fun j hj=>by
  have:ids[j]? = none:=getElem?_eq_none (by simp at hj; omega)
  simp [this]) (Jo hρ 5 hr) hF
 refine hcall.mono fun e w' ⟨u,R',μ',he,hleft⟩=>?_
 have inj : ∀ j j',j<outs.length->j'<outs.length->(back j).getD 0=(back j').getD 0->j=j':=by
  intro j j' h1 h2 h3
  rw [hback,hback] at h3
  have fresh : ∀ i c,ids[i]? = some (new+c)->c<16->False:=fun i c e1 e2=>by
   obtain ⟨B,g1,_⟩:=hids i _ e1
   obtain ⟨rb,g2⟩:=known _ B g1
   rw [h.free _ (hf c e2)] at g2; cases g2
  by_cases c1:j<ids.length
  ·rw [if_pos c1] at h3
   by_cases c2:j'<ids.length
   ·rw [if_pos c2] at h3
    simp [c1,c2] at h3
    exact (List.getElem_inj hnd).1 h3
   ·rw [if_neg c2] at h3
    simp [c1] at h3
    exact (fresh j (j'-ids.length) (by simp [c1,h3]) (by omega)).elim
  ·rw [if_neg c1] at h3
   by_cases c2:j'<ids.length
   ·rw [if_pos c2] at h3
    simp [c2] at h3
    exact (fresh j' (j-ids.length) (by simp [c2,<-h3]) (by omega)).elim
   ·rw [if_neg c2] at h3
    simp at h3; omega
 have total : ∀ j,j<outs.length->∃ id,back j=some id:=fun j hj=>by
  rw [hback]
  by_cases c1:j<ids.length
  ·exact ⟨ids[j],by simp [c1]⟩
  ·exact ⟨_,by rw [if_neg c1]⟩
 obtain ⟨R'',μ'',g1,g2⟩:=Na (ids:=ids) (new:=new) (bs:=bs0.map (BV (Bd ids))) (L:=L) (r:=r) (outs:=outs) (μc:=fun j=>(ids[j]?).bind μ) (back:=back) h hf hnd (fun j id e=>by obtain ⟨B,k1,k2⟩:=hbs j id e; exact ⟨B,k1,_,k2⟩) (by simpa using hbl) (fun _=>rfl) hL hleft hlen1 hlen2 hback
  (Av bl (outs.zipIdx.map fun p=>((back p.2).getD 0,p.1.map (BV back)))) (fun j o id e1 e2=>by
   have:=Ho (key:=fun j=>(back j).getD 0) (f:=fun o=>o.map (BV back)) outs 0 bl (fun a b h1 h2 h3 h4=>inj a b (by omega) (by omega)) j o e1
   simp only [Nat.zero_add,e2,Option.getD_some] at this
   exact this) (fun id hn=>by
   rw [Bw]
   intro p hp e2
   simp only [mem_map] at hp
   obtain ⟨q,hq,rfl⟩:=hp
   have hq2:=List.mem_zipIdx hq
   obtain ⟨id',e3⟩:=total q.2 (by omega)
   simp [e3] at e2
   exact hn q.2 (by omega) (by rw [e3,e2])) hclean
 exact ⟨u,R'',μ'',he,g1,g2⟩

theorem Lq {Γ:FuncId->Option Ent} (hK:Knows P Γ) {f:FuncId} {new:Nat} {args:List V} {us:List Value} {v:V} {upd:Upd} (h:SimAt E R μ sl bl fr a w) (hs : ∀ id B,blr id=some B->bl id=some B) (hf : ∀ c,c<16->fr (new+c)) (hr:Reps w R μ args us)
  (hk:Hm Γ blr new f args (fun v us=>some (v,us))=some (v,upd)) :
  Calls P f us.toArray w fun e w'=>∃ u R'' μ'',e = .returned u/\SimAt E R'' μ'' sl (Av bl upd) (fun j=>fr j/\(j<new\/new+16<=j)) a w'/\VRep w' R'' μ'' v u:=by
 unfold Hm at hk
 split at hk
 ·cases hk
 ·rename_i ent hent
  have hC:=hK.holds f ent hent
  split at hk
  ·cases hk
  ·rename_i vs lent hsn
   dsimp only at hk
   split at hk
   ·rename_i bs0 hmap hdis
    obtain ⟨⟨r,outs⟩,hF,hk⟩:=Br.k_some hk
    dsimp only at hk
    split at hk
    ·rename_i hlen
     simp only [and_eq_true] at hlen
     have hlen2:=le_of_ble_eq_true hlen.2
     have hlen1:outs.length<(Ba blr 4 (A7 [] (vs.flatMap (BW 5))) (A7 [] (vs.flatMap (BW 5)))).length+15:=le_of_ble_eq_true hlen.1
     generalize hids:Ba blr 4 (A7 [] (vs.flatMap (BW 5))) (A7 [] (vs.flatMap (BW 5)))=ids at *
     have hnd:ids.Nodup:=by rw [<-hids]; exact Ch blr 4 _ _ (Bx _ [] List.nodup_nil)
     obtain ⟨m1,m2⟩:=HM hmap
     simp only [Option.some.injEq,Prod.mk.injEq] at hk
     obtain ⟨rfl,rfl⟩:=hk
     have hlent : ∀ id∈lent,If blr id:=by
      split at hsn
      ·exact Gt args vs lent hsn
      ·simp at hsn; obtain ⟨_,rfl⟩:=hsn; simp
     have hni : ∀ id∈lent,id ∉ ids:=fun id h1 h2=>by
      have:(lent.any ids.contains)=true:=List.any_eq_true.2 ⟨id,h1,by simpa using h2⟩
      rw [hdis] at this; cases this
     have hvs : ∀ R':Nat->Prop,(∀ x,R x->R' x)->(∀ id∈lent,Gr w μ blr R' id)->Reps w R' μ vs us:=fun R' h1 h2=>by
      split at hsn
      ·exact Cb (fun v v' ids u hv hf hi=>Ee (h.mem.sub hs) h1 4 v v' ids u hv hf hi) args vs lent us hr hsn h2
      ·simp at hsn; obtain ⟨rfl,_⟩:=hsn; exact hr.mono (fun _ _=>rfl) h1 (fun _ _ h=>h)
     have hback : ∀ j,(match blt j ids.length with | true=>ids[j]? | false=>some (new+(j-ids.length)))=if j<ids.length then ids[j]? else some (new+(j-ids.length)):=fun j=>by
      by_cases c1:j<ids.length
      ·have:blt j ids.length=true:=Nat.ble_eq_true_of_le c1
       rw [this,if_pos c1]
      ·have:blt j ids.length=false:=by
        cases e:blt j ids.length with
        | false=>rfl
        | true=>exact absurd (le_of_ble_eq_true e) c1
       rw [this,if_neg c1]
     split
     ·rename_i hcl
      simp only [and_eq_true] at hcl
      rw [List.nil_append]
      refine Id (L:=fun x=>∃ id∈lent,∃ B rb,blr id=some B/\μ id=some rb/\Foot w rb B x) hC h hf hnd (fun j id e=>by obtain ⟨B,g1,g2⟩:=m2 j id e; exact ⟨B,hs _ _ g1,g2⟩) m1 ?_ (hvs _ (fun x hx=>.inl hx) (fun id hi B rb x e0 e1 e2=>.inr ⟨id,hi,B,rb,e0,e1,e2⟩)) hF hlen1 hlen2 hback (.inr ⟨hcl.1,fun j o e=>?_⟩)
      ·rintro x ⟨id,hi,B,rb,e0,e1,e2⟩ hnR
       have hb:=hs _ _ e0
       refine ⟨id,B,rb,hb,?_,e1,e2,hni id hi⟩
       rcases hlent id hi with ⟨ro,nl,c,l,hb2⟩ | ⟨cs,hb2⟩ | ⟨c,l,hb2⟩
       ·rw [e0] at hb2; cases hb2
        cases ro with
        | false=>rfl
        | true=>
         exfalso
         obtain ⟨rb',k1,k2⟩:=h.mem.blk id _ hb
         rw [e1] at k1; simp at k1; subst k1
         cases k2 with
         | vac=>simp [Foot,RB.real] at e2
         | row b off k cap len _ _ _ _ us e hk h1 h2 h3 h4 h5 h6=>simp [Foot,RB.real] at e2; subst e2; exact hnR (h6 rfl)
       ·rw [e0] at hb2; cases hb2; rfl
       ·rw [e0] at hb2; cases hb2; rfl
      ·have:=List.all_eq_true.1 hcl.2 o (List.mem_of_getElem? e)
       split at this
       ·exact this
       ·exact this
       ·cases this
       ·exact ⟨rfl,this⟩
       ·cases this
       ·trivial
     ·rename_i hcl
      obtain ⟨R1,g1,g2,g3⟩:=CK blr lent R bl h (fun id ro nl c l _ hb=>⟨ro,hs _ _ hb⟩) (fun id cs _ hb=>.inl (hs _ _ hb)) (fun id c l op hi hb=>by
       rcases hlent id hi with ⟨ro,nl,c2,l2,hb2⟩ | ⟨cs,hb2⟩ | ⟨c2,l2,hb2⟩
       ·rw [hb] at hb2; cases hb2
       ·rw [hb] at hb2; cases hb2
       ·rw [hb] at hb2; cases hb2; exact ⟨rfl,.inl (hs _ _ hb)⟩)
      have hsame : ∀ id,id∈ids->Av bl (AP blr lent) id=bl id:=fun id hi=>Bw _ _ _ (fun p hp e=>hni p.1 (EX lent p hp) (e ▸ hi))
      have:=Id (L:=fun _=>False) hC g1 hf hnd (fun j id e=>by obtain ⟨B,k1,k2⟩:=m2 j id e; exact ⟨B,by rw [hsame id (List.mem_of_getElem? e)]; exact hs _ _ k1,k2⟩) m1 (fun x hx=>hx.elim) (hvs _ (fun x hx=>.inl (g2 x hx)) (fun id hi B rb x e0 e1 e2=>.inl (g3 id hi (fun kc vc l e=>by
       rcases hlent id hi with ⟨ro,nl,c2,l2,hb2⟩ | ⟨cs,hb2⟩ | ⟨c2,l2,hb2⟩<;>(rw [e] at hb2; cases hb2)) B rb x e0 e1 e2))) hF hlen1 hlen2 hback (.inl (fun x hx=>hx.elim))
      rw [Bl]
      exact this
    ·cases hk
   ·cases hk
end
end Go.Proofs.YthbecdipboideaaDoor.Den
/- One operation. -/
namespace Go.Proofs.YthbecdipboideaaDoor.Den

section
variable {P:Program} {Γ:FuncId->Option Ent} {E:Env} {R:Nat->Prop} {μ:Nat->Option RB} {sl:List V} {bl blr:Nat->Option Blk} {fr:Nat->Prop} {a:Act} {w:World}

def OpOk (P:Program) (E:Env) (sl:List V) (bl:Nat->Option Blk) (fr:Nat->Prop) (new:Nat) (a:Act) (w:World) (o:Oper) (v:V) (us:Upd):Prop:=
 ∃ nx w' R' μ' u,(execOp a.eval o).run P w = .ok nx w'/\(nx = .value u\/(nx = .skip/\u=undef))/\SimAt E R' μ' sl (Av bl us) (fun j=>fr j/\(j<new\/new+16<=j)) a w'/\VRep w' R' μ' v u

theorem OpOk.pure' {new:Nat} {o:Oper} {v:V} {u:Value} (h:SimAt E R μ sl bl fr a w) (hr:(execOp a.eval o).run P w = .ok (.value u) w) (hv:VRep w R μ v u):OpOk P E sl bl fr new a w o v []:=
 ⟨_,w,R,μ,u,hr,.inl rfl,h.fr_mono (fun _ h=>h.1),hv⟩
theorem A9 {s:Sem Value} {u:Value} {w w':World} (h:s.run P w = .ok u w'):(do pure (Next.value (<-s)):Sem Next).run P w = .ok (.value u) w':=by simp [h]
theorem Jk {s:Sem Unit} {w w':World} (h:s.run P w = .ok () w'):(do s; pure Next.skip:Sem Next).run P w = .ok .skip w':=by simp [h]

theorem MX (l:List Int):l.foldl (fun (r:ByteArray) n=>r.push (UInt8.ofNat n.toNat)) ByteArray.empty=⟨(l.map fun n=>UInt8.ofNat n.toNat).toArray⟩:=by
 have : ∀ (l:List Int) (m:List UInt8),l.foldl (fun (r:ByteArray) n=>r.push (UInt8.ofNat n.toNat)) ⟨m.toArray⟩=⟨(m++l.map fun n=>UInt8.ofNat n.toNat).toArray⟩:=by
  intro l
  induction l with
  | nil=>intro m; simp
  | cons n l ih=>
   intro m
   simp only [List.foldl_cons]
   have:(⟨m.toArray⟩:ByteArray).push (UInt8.ofNat n.toNat)=⟨(m++[UInt8.ofNat n.toNat]).toArray⟩:=by simp [ByteArray.push]
   rw [this,ih]
   simp
 exact this l []

theorem Pu {x:Operand} {o:Oper} {v:V} {us:Upd} {new:Nat} (h:SimAt E R μ sl bl fr a w) (ho:o.op = .move x) (hk:opK P Γ sl blr new o (fun v us=>some (v,us))=some (v,us)):OpOk P E sl bl fr new a w o v us:=by
 simp only [opK,ho] at hk
 simp at hk; obtain ⟨rfl,rfl⟩:=hk
 exact .pure' h (by simp only [execOp,ho,Sem.run_pure]) (Ay h x)

theorem M6 {x:Operand} {o:Oper} {v:V} {us:Upd} {new:Nat} (h:SimAt E R μ sl bl fr a w) (hf : ∀ c,c<16->fr (new+c)) (ho:o.op = .assign x) (hk:opK P Γ sl blr new o (fun v us=>some (v,us))=some (v,us)):OpOk P E sl bl fr new a w o v us:=by
 have hx:=Ay h x
 have hrun:(execOp a.eval o).run P w = .ok (.value (a.eval x)) w:=by simp only [execOp,ho,Sem.run_pure]
 simp only [opK,ho] at hk
 split at hk
 ·rename_i hnl
  rw [hnl] at hx
  obtain ⟨μ',g1,g2,g3⟩:=BI (P:=P) (t:=o.type) (id:=new) h (fun c hc=>hf c (by omega)) (Reps.cons hx .nil)
  split at hk
  ·rename_i v' us' heq
   simp at hk; obtain ⟨rfl,rfl⟩:=hk
   rw [heq] at g1 g2
   obtain ⟨u,us2,e1,e2,_⟩:=g2.inv
   simp at e1; obtain ⟨rfl,_⟩:=e1
   exact ⟨_,w,R,μ',_,hrun,.inl rfl,g1.fr_mono (fun j hj=>⟨hj.1,by omega⟩),e2⟩
  ·cases hk
 ·rename_i cs hagg
  rw [hagg] at hx
  generalize a.eval x=ux at hx hrun
  cases hx with
  | agg _ us0 h1 h2=>
  obtain ⟨μ',g1,g2,g3⟩:=BI (P:=P) (t:=o.type) (id:=new) (cs:=cs) (us:=us0.toList) h (fun c hc=>hf c (by omega)) ⟨by simpa using h1,fun j v u hv hu=>h2 j v u hv (by simpa using hu)⟩
  simp only [Option.some.injEq,Prod.mk.injEq] at hk
  obtain ⟨rfl,rfl⟩:=hk
  exact ⟨_,w,R,μ',_,hrun,.inl rfl,g1.fr_mono (fun j hj=>⟨hj.1,by omega⟩),.agg _ us0 (by simpa using g2.1) (fun j v u hv hu=>g2.2 j v u hv (by simpa using hu))⟩
 ·simp at hk; obtain ⟨rfl,rfl⟩:=hk
  exact .pure' h hrun hx

theorem Pt {c x y:Operand} {o:Oper} {v:V} {us:Upd} {new:Nat} (h:SimAt E R μ sl bl fr a w) (ho:o.op = .pick c x y) (hk:opK P Γ sl blr new o (fun v us=>some (v,us))=some (v,us)):OpOk P E sl bl fr new a w o v us:=by
 have hc:=Ay h c
 simp only [opK,ho] at hk
 split at hk
 ·rename_i t ht
  rw [ht] at hc
  generalize hcu:a.eval c=uc at hc
  cases hc
  cases t with
  | true=>
   simp [ifB] at hk; obtain ⟨rfl,rfl⟩:=hk
   exact .pure' h (by simp [execOp,ho,hcu,asBool]) (Ay h x)
  | false=>
   simp [ifB] at hk; obtain ⟨rfl,rfl⟩:=hk
   exact .pure' h (by simp [execOp,ho,hcu,asBool]) (Ay h y)
 ·cases hk

theorem Od {t:TypeId} {o:Oper} {v:V} {us:Upd} {new:Nat} (h:SimAt E R μ sl bl fr a w) (hf : ∀ c,c<16->fr (new+c)) (ho:o.op = .alloc t) (hk:opK P Γ sl blr new o (fun v us=>some (v,us))=some (v,us)):OpOk P E sl bl fr new a w o v us:=by
 simp only [opK,ho] at hk
 split at hk
 ·rename_i row hrow
  simp at hk; obtain ⟨rfl,rfl⟩:=hk
  unfold Df at hrow
  split at hrow
  ·rename_i z hz
   simp at hrow; subst hrow
   obtain ⟨i,hi,hz⟩:=bind_eq_some_iff.1 hz
   obtain ⟨μ',g1,g2,g3⟩:=BI (P:=P) (t:=t) (id:=new+1) h (fun c hc=>by have:=hf (c+1) (by omega); rwa [show new+1+c=new+(c+1) by omega]) (Bt z.cells.toList)
   have g4:=Fo (us:=z.cells) t g1 (id:=new) ⟨by simpa using hf 0 (by omega),by omega⟩ g2
   refine ⟨_,w.alloc (.cells z.cells t),R,Bg μ' new (.box w.heap.size),.pointer (some ⟨w.heap.size,0,none⟩),?_,.inl rfl,?_,.ptr _ _ _ (Am _ _ _)⟩
   ·simp only [execOp,ho]
    refine A9 ?_
    simp only [Instr.alloc,Sem.run_bind,BX hi hz,Result.andThen_ok,newVar,newRow,run_newObj,Sem.run_pure]
    rfl
   ·rw [Bl]
    exact g4.fr_mono (fun j hj=>⟨⟨hj.1,by omega⟩,by omega⟩)
  ·cases hrow
 ·cases hk

theorem Q6 {t:TypeId} {x:Operand} {o:Oper} {v:V} {us:Upd} {new:Nat} (h:SimAt E R μ sl bl fr a w) (hf : ∀ c,c<16->fr (new+c)) (ho:o.op = .box t x) (hk:opK P Γ sl blr new o (fun v us=>some (v,us))=some (v,us)):OpOk P E sl bl fr new a w o v us:=by
 simp only [opK,ho] at hk
 by_cases hx:opd sl x = .unk
 ·rw [hx] at hk; cases hk
 ·have hk2:some (V.ptr new 0,(Bm P (new+1) t (opd sl x).cells).2++[(new,some (Blk.box (Bm P (new+1) t (opd sl x).cells).1))])=some (v,us):=by
   split at hk
   ·rename_i e; exact absurd e hx
   ·exact hk
  simp at hk2; obtain ⟨rfl,rfl⟩:=hk2
  have hr:=(Ay h x).cells hx
  obtain ⟨μ',g1,g2,g3⟩:=BI (P:=P) (t:=t) (id:=new+1) h (fun c hc=>by have:=hf (c+1) (by omega); rwa [show new+1+c=new+(c+1) by omega]) hr
  have g4:=Fo (us:=(a.eval x).cells) t g1 (id:=new) ⟨by simpa using hf 0 (by omega),by omega⟩ g2
  refine ⟨_,w.alloc (.cells (a.eval x).cells t),R,Bg μ' new (.box w.heap.size),.pointer (some ⟨w.heap.size,0,none⟩),?_,.inl rfl,?_,.ptr _ _ _ (Am _ _ _)⟩
  ·simp only [execOp,ho]
   refine A9 ?_
   simp only [Instr.box,newVar,newRow,Sem.run_bind,run_newObj,Sem.run_pure,Result.andThen_ok]
   rfl
  ·rw [Bl]
   exact g4.fr_mono (fun j hj=>⟨⟨hj.1,by omega⟩,by omega⟩)

theorem EO {parts:Array (Nat×Operand)} (h:SimAt E R μ sl bl fr a w):(parts.toList.map fun p=>(p.1,opd sl p.2)).map (·.1)=(parts.map fun (i,x)=>(i,a.eval x)).toList.map (·.1)/\Reps w R μ ((parts.toList.map fun p=>(p.1,opd sl p.2)).map (·.2)) ((parts.map fun (i,x)=>(i,a.eval x)).toList.map (·.2)):=by
 constructor
 ·simp
 ·refine ⟨by simp,fun j v u hv hu=>?_⟩
  simp only [List.map_map,Array.toList_map,getElem?_map] at hv hu
  obtain ⟨p,hp,rfl⟩:=map_eq_some_iff.1 hv
  rw [hp] at hu; simp at hu; subst hu
  exact Ay h p.2

theorem Oc {t:TypeId} {parts:Array (Nat×Operand)} {o:Oper} {v:V} {us:Upd} {new:Nat} (h:SimAt E R μ sl bl fr a w) (ho:o.op = .build t parts) (hk:opK P Γ sl blr new o (fun v us=>some (v,us))=some (v,us)):OpOk P E sl bl fr new a w o v us:=by
 simp only [opK,ho] at hk
 split at hk
 ·rename_i cs hb
  simp at hk; obtain ⟨rfl,rfl⟩:=hk
  obtain ⟨h1,h2⟩:=EO (parts:=parts) h
  obtain ⟨us0,g1,g2⟩:=Ki (P:=P) (t:=t) (qs:=parts.map fun (i,x)=>(i,a.eval x)) h1 h2 hb
  exact .pure' h (by simp only [execOp,ho]; exact A9 g1) (.agg _ us0 (by simpa using g2.1) (fun j v u hv hu=>g2.2 j v u hv (by simpa using hu)))
 ·cases hk

theorem Hw {t:TypeId} {n:Nat} {parts:Array (Nat×Operand)} {o:Oper} {v:V} {us:Upd} {new:Nat} (h:SimAt E R μ sl bl fr a w) (hs : ∀ id B,blr id=some B->bl id=some B) (hf : ∀ c,c<16->fr (new+c)) (ho:o.op = .buildSlice t n parts) (hk:opK P Γ sl blr new o (fun v us=>some (v,us))=some (v,us)):OpOk P E sl bl fr new a w o v us:=by
 simp only [opK,ho] at hk
 split at hk
 ·rename_i e he
  split at hk
  ·rename_i ie c hie hc
   split at hk
   ·rename_i z hz
    split at hk
    ·rename_i cells hfill
     split at hk
     ·rename_i hcond
      obtain ⟨h1,hk⟩:=Ac hk
      simp at hk; obtain ⟨rfl,rfl⟩:=hk
      simp only [and_eq_true] at h1
      obtain ⟨⟨⟨⟨h1,h2⟩,h3⟩,h4⟩,h5⟩:=h1
      have hn1:n=1/\cells.all V.stor=true:=by
       split at hcond
       ·rename_i e1 e2
        exact ⟨eq_of_beq_eq_true hcond,e2⟩
       ·cases hcond
      obtain ⟨rfl,hst⟩:=hn1
      obtain ⟨p1,p2⟩:=EO (parts:=parts) h
      obtain ⟨u,w',μ',g1,g2,g3⟩:=F8 (P:=P) (c:=c) (qs:=parts.map fun (i,x)=>(i,a.eval x)) h hf (Dk he) hie hz p1 p2 hfill hst (eq_of_beq_eq_true h1) (eq_of_beq_eq_true h2) (le_of_ble_eq_true h3) (le_of_ble_eq_true h4) (eq_of_beq_eq_true h5)
      exact ⟨_,w',R,μ',u,by simp only [execOp,ho]; exact A9 g1,.inl rfl,g2,g3⟩
     split at hk
     ·rename_i cs ids hcl
      split at hk
      ·rename_i l hch
       obtain ⟨h1,hk⟩:=Ac hk
       simp at hk; obtain ⟨rfl,rfl⟩:=hk
       simp only [and_eq_true] at h1
       obtain ⟨⟨⟨h1,h2⟩,h3⟩,h4⟩:=h1
       have hu:P.underlying t=some (.slice e):=by
        unfold Ct at he
        split at he
        ·simp at he; subst he; assumption
        ·cases he
       obtain ⟨p1,p2⟩:=EO (parts:=parts) h
       obtain ⟨u,w',R',μ',g1,g2,g3⟩:=FZ (P:=P) (qs:=parts.map fun (i,x)=>(i,a.eval x)) h hs hf hu hie hz p1 p2 hfill hcl hch (eq_of_beq_eq_true h1) (eq_of_beq_eq_true h2) (le_of_ble_eq_true h3) (le_of_ble_eq_true h4)
       exact ⟨_,w',R',μ',u,by simp only [execOp,ho]; exact A9 g1,.inl rfl,g2,g3⟩
      ·cases hk
     ·cases hk
    ·cases hk
   ·cases hk
  ·cases hk
 ·cases hk

theorem MC {t:TypeId} {x v:V} {us:Upd} (hk:Dj P blr t x (fun v=>some (v,([]:Upd)))=some (v,us)):Dj P blr t x some=some v/\us=[]:=by
 have tk : ∀ (row:List V) (o:Nat),BT P t row o (fun v=>some (v,([]:Upd)))=some (v,us)->BT P t row o some=some v/\us=[]:=by
  intro row o hk
  unfold BT at hk ⊢
  split at hk
  ·split at hk
   ·obtain ⟨h1,h2⟩:=Ac hk
    simp at h2; obtain ⟨rfl,rfl⟩:=h2
    exact ⟨by simp [h1,ifT],rfl⟩
   ·cases hk
  ·obtain ⟨v',h1,h2⟩:=A5 hk
   simp at h2; obtain ⟨rfl,rfl⟩:=h2
   exact ⟨by simp [h1,Ap],rfl⟩
  ·cases hk
 unfold Dj at hk ⊢
 split at hk
 ·split at hk
  ·exact tk _ _ hk
  ·cases hk
 ·split at hk
  ·obtain ⟨z,h1,h2⟩:=A5 hk
   obtain ⟨g1,g2⟩:=tk _ _ h2
   exact ⟨by simp [h1,Ap,g1],g2⟩
  ·cases hk
 ·obtain ⟨z,h1,h2⟩:=A5 hk
  obtain ⟨g1,g2⟩:=tk _ _ h2
  exact ⟨by simp [h1,Ap,g1],g2⟩
 ·exact tk _ _ hk
 ·exact tk _ _ hk
 ·cases hk
theorem HB {t:TypeId} {row:List V} {o:Nat} {v:V} {us:Upd} (hk:BT P t row o (fun v=>some (v,([]:Upd)))=some (v,us)):BT P t row o some=some v/\us=[]:=by
 unfold BT at hk ⊢
 split at hk
 ·split at hk
  ·obtain ⟨h1,h2⟩:=Ac hk
   simp at h2; obtain ⟨rfl,rfl⟩:=h2
   exact ⟨by simp [h1,ifT],rfl⟩
  ·cases hk
 ·obtain ⟨v',h1,h2⟩:=A5 hk
  simp at h2; obtain ⟨rfl,rfl⟩:=h2
  exact ⟨by simp [h1,Ap],rfl⟩
 ·cases hk

theorem JE {t:TypeId} {id i o new:Nat} {c:Cd} {l:List c.den} {op:Option (Nat×List V)} {row:List V} {v:V} {us:Upd} {ua:Value} (h:SimAt E R μ sl bl fr a w) (hf : ∀ c,c<16->fr (new+c)) (hb:bl id=some (.drow c l op)) (ha:VRep w R μ (.el id i o) ua) (hel:ElemD c l op i row)
  (hk:HN P new t id i o c l row (fun v us=>some (v,us))=some (v,us)) :
  ∃ u μ',(Instr.loadAt t ua).run P w = .ok u w/\SimAt E R μ' sl (Av bl us) (fun j=>fr j/\(j<new\/new+16<=j)) a w/\VRep w R μ' v u:=by
 obtain ⟨rb,hmu,hrep⟩:=h.mem.blk id _ hb
 cases ha with
 | el _ _ _ b off k cap len hm=>
 rw [hm] at hmu; simp at hmu; subst hmu
 have hrep2:=hrep
 cases hrep with
 | drow _ _ _ _ _ _ _ _ us0 e hkk hh g1 g2 g3 g4 g5 g6 g7=>
 have cell : ∀ (j:Nat) (v':V),row[j]? = some v'->(∀ (c:Cd) (l:List c.den),v'≠V.sl c l)->∃ u,w.cell? ⟨b,off+i*k+j,none⟩=some u/\VRep w R μ v' u:=fun j v' hj hns=>by
  obtain ⟨u,q1,q2⟩:=g4 i row j v' hel.at hj
  exact ⟨u,by rw [cell_of_row w b _ us0 e (0,0) hh,add_assoc]; exact q1,q2.rep hns⟩
 unfold HN at hk
 split at hk
 ·rename_i hagg
  split at hk
  ·rename_i n hn
   obtain ⟨h1,h2⟩:=Ac hk
   simp only [and_eq_true] at h1
   obtain ⟨h1,h3⟩:=h1
   simp at h2; obtain ⟨rfl,rfl⟩:=h2
   have h1:=le_of_ble_eq_true h1
   -- the cells that are read hold no slice
   have hns : ∀ (j:Nat) (v':V),((row.drop o).take n.size)[j]? = some v'->∀ (c:Cd) (l:List c.den),v'≠V.sl c l:=fun j v' hj c l e=>by
    subst e
    have:=List.all_eq_true.1 h3 _ (List.mem_of_getElem? hj)
    simp [V.isSl] at this
   have tk:BT P t ((row.drop o).take n.size) 0 some=some (.agg ((row.drop o).take n.size)):=by
    unfold BT
    rw [hagg]
    dsimp only
    rw [hn]
    dsimp only
    have hl:((row.drop o).take n.size).length=n.size:=by simp; omega
    rw [show Nat.ble (0+n.size) ((row.drop o).take n.size).length=true from by rw [hl,Nat.zero_add]; exact Nat.ble_eq_true_of_le (le_refl _)]
    simp only [ifT,List.drop_zero]
    rw [List.take_of_length_le (by rw [hl]; exact le_refl _)]
   obtain ⟨u,q1,q2⟩:=Cu (P:=P) (w:=w) (R:=R) (μ:=μ) (b:=b) (base:=off+i*k+o) (row:=(row.drop o).take n.size) (t:=t) (o:=0) (fun j v' hj=>by
    have hj2:=hj
    rw [List.getElem?_take] at hj
    split at hj
    ·rw [List.getElem?_drop] at hj
     obtain ⟨u,r1,r2⟩:=cell (o+j) v' hj (hns j v' hj2)
     exact ⟨u,by rw [add_assoc (off+i*k)]; exact r1,r2⟩
    ·cases hj) tk
   exact ⟨u,μ,by rw [Nat.add_zero,add_assoc] at q1; exact q1,h.fr_mono (fun j hj=>hj.1),q2⟩
  ·cases hk
 ·rename_i hagg
  split at hk
  ·rename_i c' l' hj
   obtain ⟨hfl,hk⟩:=Ac hk
   simp at hk; obtain ⟨rfl,rfl⟩:=hk
   obtain ⟨rb',u0,q1,q2,q3⟩:=h.openSub (k:=k) (new:=new) hb hm hel hj hfl (by simpa using hf 0 (by omega))
   refine ⟨u0,_,by simp [Instr.loadAt,Instr.sureAddr,loadVar,CQ hagg,q2],q1.fr_mono (fun j hj=>⟨hj.1,by omega⟩),q3⟩
  ·rename_i v' hns hj
   simp at hk; obtain ⟨rfl,rfl⟩:=hk
   obtain ⟨u,q1,q2⟩:=cell o v' hj (fun c l e=>hns c l (by rw [e]))
   rw [add_assoc] at q1
   exact ⟨u,μ,by simp [Instr.loadAt,Instr.sureAddr,loadVar,CQ hagg,q1],h.fr_mono (fun j hj=>hj.1),q2⟩
  ·cases hk
 ·cases hk
theorem Pv {t:TypeId} {x:Operand} {o:Oper} {v:V} {us:Upd} {new:Nat} (h:SimAt E R μ sl bl fr a w) (hs : ∀ id B,blr id=some B->bl id=some B) (hf : ∀ c,c<16->fr (new+c)) (ho:o.op = .load t x) (hk:opK P Γ sl blr new o (fun v us=>some (v,us))=some (v,us)):OpOk P E sl bl fr new a w o v us:=by
 simp only [opK,ho] at hk
 have plain : ∀ y,opd sl x=y->Dj P blr t y (fun v=>some (v,([]:Upd)))=some (v,us)->OpOk P E sl bl fr new a w o v us:=fun y ey hk=>by
  subst ey
  obtain ⟨h1,rfl⟩:=MC hk
  obtain ⟨u,g1,g2⟩:=GU (h.mem.sub hs) (Ay h x) h1
  exact .pure' h (by simp only [execOp,ho]; exact A9 g1) g2
 unfold JD at hk
 split at hk
 ·rename_i id i p he
  split at hk
  ·rename_i c l op hb
   obtain ⟨row,hel,hk⟩:=Hg hk
   have hx:=Ay h x
   rw [he] at hx
   obtain ⟨u,μ',g1,g2,g3⟩:=JE (P:=P) h hf (hs _ _ hb) hx hel hk
   exact ⟨_,w,R,μ',u,by simp only [execOp,ho]; exact A9 g1,.inl rfl,g2,g3⟩
  ·exact plain _ he hk
 ·exact plain _ rfl hk

theorem NX {t:TypeId} {x y:Operand} {o:Oper} {v:V} {us:Upd} {new:Nat} (h:SimAt E R μ sl bl fr a w) (hs : ∀ id B,blr id=some B->bl id=some B) (hf : ∀ c,c<16->fr (new+c)) (ho:o.op = .store t x y) (hk:opK P Γ sl blr new o (fun v us=>some (v,us))=some (v,us)):OpOk P E sl bl fr new a w o v us:=by
 simp only [opK,ho] at hk
 have hn:Ed P blr new t (opd sl x) (opd sl y) some=some us/\v = .unk:=by
  unfold Ed at hk ⊢
  split at hk
  ·split at hk
   ·dsimp only at hk ⊢
    obtain ⟨h1,h2⟩:=Ac hk
    simp at h2; obtain ⟨rfl,rfl⟩:=h2
    exact ⟨by rw [h1]; rfl,rfl⟩
   ·cases hk
  ·split at hk
   ·split at hk
    ·split at hk
     ·cases hk
     ·obtain ⟨z,h1,h2⟩:=A5 hk
      obtain ⟨h3,h4⟩:=Ac h2
      split at h4
      ·rename_i z' hz'
       simp at h4; obtain ⟨rfl,rfl⟩:=h4
       refine ⟨?_,rfl⟩
       rw [h1]
       simp only [Ap,h3,ifT,hz']
      ·cases h4
    ·cases hk
   ·unfold Hh at hk ⊢
    split at hk
    ·obtain ⟨z,h1,h2⟩:=A5 hk
     obtain ⟨h3,h4⟩:=Ac h2
     simp at h4; obtain ⟨rfl,rfl⟩:=h4
     exact ⟨by simp only [h1,Ap,h3,ifT],rfl⟩
    ·obtain ⟨h1,h2⟩:=Ac hk
     obtain ⟨h3,h4⟩:=Ac h2
     simp at h4; obtain ⟨rfl,rfl⟩:=h4
     exact ⟨by simp only [h1,h3,ifT],rfl⟩
   ·cases hk
  ·cases hk
 obtain ⟨h1,rfl⟩:=hn
 obtain ⟨w',R',μ',g1,g2⟩:=Jf (P:=P) h hs hf (Ay h x) (Ay h y) h1
 exact ⟨_,w',R',μ',undef,by simp only [execOp,ho]; exact Jk g1,.inr ⟨rfl,rfl⟩,g2,.unk _⟩

theorem Jz {x:Operand} {o:Oper} {v:V} {us:Upd} {new:Nat} (h:SimAt E R μ sl bl fr a w) (ho:o.op = .nilCheck x) (hk:opK P Γ sl blr new o (fun v us=>some (v,us))=some (v,us)):OpOk P E sl bl fr new a w o v us:=by
  have hx:=Ay h x
  simp only [opK,ho] at hk
  generalize hux:a.eval x=ux at hx
  split at hk<;>first
    | cases hk; done
    | (rename_i e; rw [e] at hx; simp at hk; obtain ⟨rfl,rfl⟩:=hk
       have hx':=hx
       cases hx
       exact .pure' h (by simp [execOp,ho,hux]) hx')

theorem Pz {v:V} {u:Value} (hm:Mem w R μ bl) (hs : ∀ id B,blr id=some B->bl id=some B) (hv:VRep w R μ v u):VRep w R μ (nlV blr v) u:=by
 unfold nlV
 split
 ·rename_i id lo n
  split
  ·rename_i ro c l hb
   obtain ⟨rb,h1,h2⟩:=hm.blk id _ (hs _ _ hb)
   cases hv with
   | vac _ ao hr=>
    rw [h1] at hr; simp at hr; subst hr
    cases h2 with
    | vac _ _ _ _ hn=>
    have:=hn rfl
    subst this
    exact .nl
   | ref _ _ _ b off k cap len A hr g0 g3 g4 g5=>
    rw [h1] at hr; simp at hr; subst hr
    cases h2 with
    | row _ _ _ _ _ _ _ _ _ us e hk hh q1 q2 q3 q4 q5 q6=>exact absurd rfl q6
  ·exact hv
 ·exact hv
theorem Q7 {op:BinOp} {t t2:TypeId} {x y:Operand} {o:Oper} {v:V} {us:Upd} {new:Nat} (h:SimAt E R μ sl bl fr a w) (hs : ∀ id B,blr id=some B->bl id=some B) (ho:o.op = .binOp op t x y t2) (hk:opK P Γ sl blr new o (fun v us=>some (v,us))=some (v,us)):OpOk P E sl bl fr new a w o v us:=by
  simp only [opK,ho] at hk
  have hn:Kk P op t (nlV blr (opd sl x)) (opd sl y) some=some v/\us=[]:=by
    unfold Kk at hk ⊢
    split at hk
    · split at hk
      · obtain ⟨h1,h2⟩:=Ac hk; simp only [Option.some.injEq,Prod.mk.injEq] at h2; obtain ⟨rfl,rfl⟩:=h2; exact ⟨by simp only [h1,ifT],rfl⟩
      · obtain ⟨h1,h2⟩:=Ac hk; simp only [Option.some.injEq,Prod.mk.injEq] at h2; obtain ⟨rfl,rfl⟩:=h2; exact ⟨by simp only [h1,ifT],rfl⟩
      · obtain ⟨h1,h2⟩:=Ac hk
        split at h2<;>first
          | (cases h2; done)
          | (simp only [Option.some.injEq,Prod.mk.injEq] at h2; obtain ⟨rfl,rfl⟩:=h2; exact ⟨by simp only [h1,ifT],rfl⟩)
          | (obtain ⟨h3,h4⟩:=Ac h2; simp only [Option.some.injEq,Prod.mk.injEq] at h4; obtain ⟨rfl,rfl⟩:=h4; exact ⟨by simp only [h1,h3,ifT],rfl⟩)
    · split at hk<;>first
        | (cases hk; done)
        | (simp only [Option.some.injEq,Prod.mk.injEq] at hk; obtain ⟨rfl,rfl⟩:=hk; exact ⟨rfl,rfl⟩)
        | (obtain ⟨h3,h4⟩:=Ac hk; simp only [Option.some.injEq,Prod.mk.injEq] at h4; obtain ⟨rfl,rfl⟩:=h4; exact ⟨by simp only [h3,ifT],rfl⟩)
    · split at hk
      · split at hk<;>first
          | (cases hk; done)
          | (simp only [Option.some.injEq,Prod.mk.injEq] at hk; obtain ⟨rfl,rfl⟩:=hk; exact ⟨rfl,rfl⟩)
      · cases hk
    · split at hk
      · unfold I3 at hk ⊢
        split at hk<;>first
          | (cases hk; done)
          | (cases hb:decide (0<_) with
             | true=>rw [hb] at hk; simp only [ifB,Option.some.injEq,Prod.mk.injEq] at hk ⊢; exact ⟨hk.1,hk.2.symm⟩
             | false=>rw [hb] at hk; simp only [ifB,Option.some.injEq,Prod.mk.injEq] at hk ⊢; exact ⟨hk.1,hk.2.symm⟩)
      · cases hk
    · split at hk
      · unfold I3 at hk ⊢
        split at hk<;>first
          | (cases hk; done)
          | (cases hb:decide (0<_) with
             | true=>rw [hb] at hk; simp only [ifB,Option.some.injEq,Prod.mk.injEq] at hk ⊢; exact ⟨hk.1,hk.2.symm⟩
             | false=>rw [hb] at hk; simp only [ifB,Option.some.injEq,Prod.mk.injEq] at hk ⊢; exact ⟨hk.1,hk.2.symm⟩)
      · cases hk
    · unfold Mc at hk ⊢
      split at hk
      · split at hk
        · split at hk<;>first
            | (cases hk; done)
            | (simp only [Option.some.injEq,Prod.mk.injEq] at hk ⊢; exact ⟨hk.1,hk.2.symm⟩)
        · cases hk
      · cases hk
    · unfold GK at hk ⊢
      split at hk
      · split at hk<;>first
          | (cases hk; done)
          | (simp only [Option.some.injEq,Prod.mk.injEq] at hk ⊢; exact ⟨hk.1,hk.2.symm⟩)
      · cases hk
    · unfold GK at hk ⊢
      split at hk
      · split at hk<;>first
          | (cases hk; done)
          | (simp only [Option.some.injEq,Prod.mk.injEq] at hk ⊢; exact ⟨hk.1,hk.2.symm⟩)
      · cases hk
    · unfold GK at hk ⊢
      split at hk
      · split at hk<;>first
          | (cases hk; done)
          | (simp only [Option.some.injEq,Prod.mk.injEq] at hk ⊢; exact ⟨hk.1,hk.2.symm⟩)
      · cases hk
    · split at hk
      · split at hk<;>first
          | (cases hk; done)
          | (simp only [Option.some.injEq,Prod.mk.injEq] at hk ⊢; exact ⟨hk.1,hk.2.symm⟩)
      · cases hk
    · split at hk
      · split at hk<;>first
          | (cases hk; done)
          | (simp only [Option.some.injEq,Prod.mk.injEq] at hk ⊢; exact ⟨hk.1,hk.2.symm⟩)
      · cases hk
    · cases hk
  obtain ⟨h1,rfl⟩:=hn
  obtain ⟨u,g1,g2⟩:=MZ (P:=P) (t:=t) (ox:=x) (oy:=y) (Pz h.mem hs (Ay h x)) (Ay h y) h1
  exact .pure' h (by simp only [execOp,ho]; exact A9 g1) g2

theorem Rr {op:UnOp} {t:TypeId} {x:Operand} {o:Oper} {v:V} {us:Upd} {new:Nat} (h:SimAt E R μ sl bl fr a w) (ho:o.op = .unOp op t x) (hk:opK P Γ sl blr new o (fun v us=>some (v,us))=some (v,us)):OpOk P E sl bl fr new a w o v us:=by
 simp only [opK,ho] at hk
 have hn:unK op (opd sl x) some=some v/\us=[]:=by
  unfold unK at hk ⊢
  split at hk<;>first
   | (cases hk; done)
   | (simp only [Option.some.injEq,Prod.mk.injEq] at hk; obtain ⟨rfl,rfl⟩:=hk; exact ⟨rfl,rfl⟩)
 obtain ⟨h1,rfl⟩:=hn
 obtain ⟨u,g1,g2⟩:=Nl (P:=P) (Ay h x) h1
 exact .pure' h (by simp only [execOp,ho]; exact A9 g1) g2
end
end Go.Proofs.YthbecdipboideaaDoor.Den
/- One operation, the rest. -/
namespace Go.Proofs.YthbecdipboideaaDoor.Den

section
variable {P:Program} {Γ:FuncId->Option Ent} {E:Env} {R:Nat->Prop} {μ:Nat->Option RB} {sl:List V} {bl blr:Nat->Option Blk} {fr:Nat->Prop} {a:Act} {w:World}

theorem DO {t e:TypeId} (he:Ct P t=some e):P.underlying t=some (.slice e):=by
 unfold Ct at he
 split at he
 ·simp at he; subst he; assumption
 ·cases he

theorem KD {s d:TypeId} {x:Operand} {o:Oper} {v:V} {us:Upd} {new:Nat} (h:SimAt E R μ sl bl fr a w) (hs : ∀ id B,blr id=some B->bl id=some B) (ho:o.op = .convert s d x) (hk:opK P Γ sl blr new o (fun v us=>some (v,us))=some (v,us)):OpOk P E sl bl fr new a w o v us:=by
 have hx:=Ay h x
 simp only [opK,ho] at hk
 split at hk
 ·rename_i ds kd k0 n h1 h2 h3
  simp only [Option.some.injEq,Prod.mk.injEq] at hk; obtain ⟨rfl,rfl⟩:=hk
  rw [h3] at hx
  generalize hux:a.eval x=ux at hx
  cases hx
  refine .pure' h ?_ (.i kd _)
  simp only [execOp,ho,hux]
  refine A9 ?_
  simp only [convert,Sem.run_bind,run_underlying h1,run_underlying h2,Result.andThen_ok]
  rfl
 ·rename_i l h1 h2 h3
  simp only [Option.some.injEq,Prod.mk.injEq] at hk; obtain ⟨rfl,rfl⟩:=hk
  rw [h3] at hx
  generalize hux:a.eval x=ux at hx
  have hx':=hx
  cases hx
  refine .pure' h ?_ hx'
  simp only [execOp,ho,hux]
  refine A9 ?_
  simp only [convert,Sem.run_bind,run_underlying h1,run_underlying h2,Result.andThen_ok]
  rfl
 ·rename_i v' e h1 h2
  split at hk
  ·rename_i he
   split at hk
   ·rename_i l hl
    simp only [Option.some.injEq,Prod.mk.injEq] at hk; obtain ⟨rfl,rfl⟩:=hk
    refine .pure' (u:=.string ⟨(l.map fun (n:Int)=>UInt8.ofNat n.toNat).toArray⟩) h ?_ (.s _)
    simp only [execOp,ho]
    refine A9 ?_
    have hns : ∀ q,opd sl x≠.s q:=fun q e0=>by rw [e0] at hl; simp [Dr] at hl
    have hl:Dr blr (.int .u8) (opd sl x)=some l:=by
     split at hl
     ·rename_i q e0; exact absurd e0 (hns q)
     ·exact hl
    obtain ⟨nc,n1,n2,n3,n4,n5⟩:=DG (P:=P) (h.mem.sub hs) hx hl
    -- the cells are the numbers
    have hcs:nc=l.map fun (n:Int)=>Value.int .u8 n:=by
     apply List.ext_getElem?
     intro j
     by_cases hj:j<l.length
     ·obtain ⟨u,g1,g2⟩:=n4 j l[j] 0 (.i .u8 l[j]) (by simp [hj]) (by simp [enc])
      simp only [Cd.size,Nat.mul_one,Nat.add_zero] at g1
      rw [g1]
      cases g2
      simp [hj]
     ·rw [getElem?_eq_none (by rw [n3]; simp [Cd.size]; omega),getElem?_eq_none (by simpa using hj)]
    generalize hux:a.eval x=ux at hx n1 n2
    have hsl:(∃ ao m cap,ux = .slice ao m cap):=by
     generalize opd sl x=xv at hl hx hns
     unfold Dr at hl
     split at hl
     ·rename_i l2; exact absurd rfl (hns l2)
     ·cases hx; exact ⟨_,_,_,rfl⟩
     ·cases hx; exact ⟨_,_,_,rfl⟩
     ·cases hx<;>exact ⟨_,_,_,rfl⟩
     ·cases hl
    obtain ⟨ao,m,cap,rfl⟩:=hsl
    have hm:m=l.length:=by have:=n1 w; simpa [Builtin.lenOf] using this
    subst hm
    rw [run_convert_bytes_string w s d e ao _ cap h1 he h2]
    have hf:=n2 w rfl
    simp only [Cd.size] at hf
    cases ao with
    | none=>
     simp [Builtin.firstCells] at hf
     have:l=[]:=by
      have hnc:nc=[]:=by first | exact hf | exact hf.symm | simpa using hf
      have:=n3; rw [hnc] at this; simp [Cd.size] at this; exact List.eq_nil_of_length_eq_zero (by first | exact this.symm | simpa using this)
     subst this
     simp [Conv.bytesToString]
     rfl
    | some A=>
     simp only [Builtin.firstCells,Nat.mul_one] at hf
     rw [run_bytesToString w A l.length cap l (by rw [hf,hcs])]
     rw [MX]
   ·cases hk
  ·cases hk
 ·cases hk

theorem J0 {f:FuncId} {first cap:Array Operand} {o:Oper} {v:V} {us:Upd} {new:Nat} (h:SimAt E R μ sl bl fr a w) (ho:o.op = .makeFunc (.func f) first cap) (hk:opK P Γ sl blr new o (fun v us=>some (v,us))=some (v,us)):OpOk P E sl bl fr new a w o v us:=by
 simp only [opK,ho] at hk
 simp only [Option.some.injEq,Prod.mk.injEq] at hk; obtain ⟨rfl,rfl⟩:=hk
 refine .pure' (u:=.func (.func f) (first.map a.eval) (cap.map a.eval)) h (by simp only [execOp,ho]; exact A9 rfl) (.fn f _ _ _ _ (by simp) (by simp) (fun j v u hv hu=>?_) (fun j v u hv hu=>?_))
 ·rw [getElem?_map] at hv
  obtain ⟨x,hx,rfl⟩:=map_eq_some_iff.1 hv
  simp only [Array.getElem?_map] at hu
  rw [Array.getElem?_toList] at hx
  rw [hx] at hu; simp at hu; subst hu
  exact Ay h x
 ·rw [getElem?_map] at hv
  obtain ⟨x,hx,rfl⟩:=map_eq_some_iff.1 hv
  simp only [Array.getElem?_map] at hu
  rw [Array.getElem?_toList] at hx
  rw [hx] at hu; simp at hu; subst hu
  exact Ay h x

theorem Iw {t:TypeId} {n c:Operand} {o:Oper} {v:V} {us:Upd} {new:Nat} (h:SimAt E R μ sl bl fr a w) (hf : ∀ c,c<16->fr (new+c)) (ho:o.op = .makeSlice t n c) (hk:opK P Γ sl blr new o (fun v us=>some (v,us))=some (v,us)):OpOk P E sl bl fr new a w o v us:=by
 have hn:=Ay h n
 have hc:=Ay h c
 simp only [opK,ho] at hk
 split at hk
 ·rename_i e k1 l k2 m he h1 h2
  rw [h1] at hn; rw [h2] at hc
  generalize hun:a.eval n=un at hn
  generalize huc:a.eval c=uc at hc
  cases hn; cases hc
  split at hk
  ·rename_i row cd hrow hcd
   split at hk
   ·rename_i z hz
    obtain ⟨g1,hk⟩:=Ac hk
    obtain ⟨g2,hk⟩:=Ac hk
    simp only [Option.some.injEq,Prod.mk.injEq] at hk; obtain ⟨rfl,rfl⟩:=hk
    simp only [and_eq_true,decide_eq_true_eq] at g2
    unfold Df at hrow
    split at hrow
    ·rename_i zv hzv
     simp at hrow; subst hrow
     obtain ⟨ie,hie,hzv⟩:=bind_eq_some_iff.1 hzv
     cases hown:cd.own with
     | true=>
      obtain ⟨u,w',μ',q1,q2,q3⟩:=FO (P:=P) (k1:=k1) (k2:=k2) h hf (DO he) hie hzv hz g1 ⟨g2.1.1.1,g2.1.1.2,g2.1.2,g2.2⟩
      exact ⟨_,w',R,μ',u,by simp only [execOp,ho,hun,huc]; exact A9 q1,.inl rfl,q2,q3⟩
     | false=>
      obtain ⟨u,w',μ',q1,q2,q3,_⟩:=DX (P:=P) (k1:=k1) (k2:=k2) h hf (DO he) hie hzv hz g1 ⟨g2.1.1.1,g2.1.1.2,g2.1.2,g2.2⟩
      exact ⟨_,w',R,μ',u,by simp only [execOp,ho,hun,huc]; exact A9 q1,.inl rfl,q2,q3⟩
    ·cases hrow
   ·cases hk
  ·cases hk
 ·cases hk

theorem Kz {t:TypeId} {x v:V} {l r:Option Int} {us:Upd} (hk:DA P blr t x l r (fun v=>some (v,([]:Upd)))=some (v,us)):DA P blr t x l r some=some v/\us=[]:=by
 have cut : ∀ (m:Nat) (g:Nat->Nat->V),Er m l r (fun a b=>some (g a b,([]:Upd)))=some (v,us)->Er m l r (fun a b=>some (g a b))=some v/\us=[]:=fun m g hk=>by
  unfold Er at hk ⊢
  split at hk
  ·simp only [Option.some.injEq,Prod.mk.injEq] at hk; obtain ⟨rfl,rfl⟩:=hk; exact ⟨rfl,rfl⟩
  all_goals
   obtain ⟨h1,h2⟩:=Ac hk
   simp only [Option.some.injEq,Prod.mk.injEq] at h2; obtain ⟨rfl,rfl⟩:=h2
   exact ⟨by simp only [h1,ifT],rfl⟩
 unfold DA at hk ⊢
 split at hk
 ·split at hk
  ·exact cut _ _ hk
  ·cases hk
 ·split at hk
  ·split at hk
   ·obtain ⟨h1,h2⟩:=Ac hk
    obtain ⟨g1,g2⟩:=cut _ _ h2
    exact ⟨by simp only [h1,ifT]; exact g1,g2⟩
   ·cases hk
  ·obtain ⟨h1,h2⟩:=Ac hk
   obtain ⟨g1,g2⟩:=cut _ _ h2
   exact ⟨by simp only [h1,ifT]; exact g1,g2⟩
  ·cases hk
 ·cases hk

theorem NZ {t:TypeId} {x:Operand} {lo hi:Option Operand} {o:Oper} {v:V} {us:Upd} {new:Nat} (h:SimAt E R μ sl bl fr a w) (hs : ∀ id B,blr id=some B->bl id=some B) (ho:o.op = .slice t x lo hi none) (hk:opK P Γ sl blr new o (fun v us=>some (v,us))=some (v,us)):OpOk P E sl bl fr new a w o v us:=by
 simp only [opK,ho] at hk
 split at hk
 ·rename_i l r hl hr
  obtain ⟨h1,rfl⟩:=Kz hk
  have op : ∀ q:Option Operand,(∀ v,q.map (opd sl)=some v->∃ u,q.map a.eval=some u/\VRep w R μ v u)/\(q.map (opd sl)=none->q.map a.eval=none):=fun q=>by
   cases q with
   | none=>exact ⟨by simp,by simp⟩
   | some y=>exact ⟨fun v hv=>by simp at hv; subst hv; exact ⟨_,rfl,Ay h y⟩,by simp⟩
  obtain ⟨u,g1,g2⟩:=Jh (P:=P) (h.mem.sub hs) (Ay h x) hl hr (op lo).1 (op hi).1 (op lo).2 (op hi).2 h1
  exact .pure' h (by simp only [execOp,ho]; exact A9 g1) g2
 ·cases hk

theorem M4 {t:TypeId} {x lo hi mx:Operand} {o:Oper} {v:V} {us:Upd} {new:Nat} (h:SimAt E R μ sl bl fr a w) (ho:o.op = .slice t x (some lo) (some hi) (some mx)) (hk:opK P Γ sl blr new o (fun v us=>some (v,us))=some (v,us)):OpOk P E sl bl fr new a w o v us:=by
 simp only [opK,ho] at hk
 have hx:=Ay h x
 have hlo:=Ay h lo
 have hhi:=Ay h hi
 have hmx:=Ay h mx
 have key : ∀ {k1 k2 k3:IntKind} {l q m:Int} {e:TypeId} {ao:Option Addr} {n cap N:Nat},P.underlying t=some (.slice e)->Dd P e (szT P e)=true->(0<=l/\l<=q/\q<=m/\m<=N)->N<=cap->∃ u,(Instr.sliceAt t (.slice ao n cap) (some (.int k1 l)) (some (.int k2 q)) (some (.int k3 m))).run P w = .ok u w:=by
  intro k1 k2 k3 l q m e ao n cap N ht hs hb hN
  obtain ⟨i,hie,hsz⟩:=Bq hs
  have h1:0<=m/\m<=(cap:Int):=by omega
  have h2:0<=q/\q<=(m.toNat:Int):=by omega
  have h3:0<=l/\l<=(q.toNat:Int):=by omega
  refine ⟨.slice (if m.toNat=l.toNat then ao else ao.map (·.add (l.toNat*szT P e))) (q.toNat-l.toNat) (m.toNat-l.toNat),?_⟩
  simp only [Instr.sliceAt,Instr.slice,Sem.run_bind,run_underlying ht,Result.andThen_ok,Instr.sliceBounds,Instr.sliceBound,asIntOf,Sem.run_pure,h1,h2,h3,and_self,if_true,Ca hie]
 split at hk
 ·rename_i k1 l k2 q k3 m e e1 e2 e3 he
  rw [e1] at hlo; rw [e2] at hhi; rw [e3] at hmx
  have ht:=DO he
  have el:a.eval lo = .int k1 l:=by generalize a.eval lo=u at hlo; cases hlo; rfl
  have eh:a.eval hi = .int k2 q:=by generalize a.eval hi=u at hhi; cases hhi; rfl
  have em:a.eval mx = .int k3 m:=by generalize a.eval mx=u at hmx; cases hmx; rfl
  have fin : ∀ ao n cap,a.eval x = .slice ao n cap->(∃ u,(Instr.sliceAt t (.slice ao n cap) (some (.int k1 l)) (some (.int k2 q)) (some (.int k3 m))).run P w = .ok u w)->OpOk P E sl bl fr new a w o .unk []:=fun ao n cap ex ⟨u,hu⟩=>
   .pure' h (by simp only [execOp,ho,ex,Option.map_some,el,eh,em]; exact A9 hu) (.unk u)
  split at hk
  ·rename_i id p n ex
   obtain ⟨g1,hk⟩:=Ac hk
   obtain ⟨g2,hk⟩:=Ac hk
   simp only [Option.some.injEq,Prod.mk.injEq] at hk; obtain ⟨rfl,rfl⟩:=hk
   rw [ex] at hx
   generalize hux:a.eval x=ux at hx
   cases hx with
   | vac _ ao hr=>exact fin _ _ _ hux (key ht g1 (of_decide_eq_true g2) (le_refl _))
   | ref _ _ _ b off k cap len A hr h0 h3 h4 h5=>exact fin _ _ _ hux (key ht g1 (of_decide_eq_true g2) (by omega))
  ·rename_i c r ex
   obtain ⟨g1,hk⟩:=Ac hk
   obtain ⟨g2,hk⟩:=Ac hk
   simp only [Option.some.injEq,Prod.mk.injEq] at hk; obtain ⟨rfl,rfl⟩:=hk
   rw [ex] at hx
   generalize hux:a.eval x=ux at hx
   cases hx with
   | sl _ _ ao cap U h1 h2 h3 h4=>exact fin _ _ _ hux (key ht g1 (of_decide_eq_true g2) h1)
  ·cases hk
 ·cases hk

theorem Iy {s:TypeId} {x:Operand} {f:Nat} {o:Oper} {v:V} {us:Upd} {new:Nat} (h:SimAt E R μ sl bl fr a w) (ho:o.op = .fieldAddr s x f) (hk:opK P Γ sl blr new o (fun v us=>some (v,us))=some (v,us)):OpOk P E sl bl fr new a w o v us:=by
 have hx:=Ay h x
 simp only [opK,ho] at hk
 split at hk
 ·rename_i off ft hf
  obtain ⟨h1,hk⟩:=Ac hk
  have hsz:szT P ft≠0:=by have:=le_of_ble_eq_true h1; omega
  obtain ⟨f1,f2,f3,f4,f5⟩:=Gv (P:=P) hf hsz hx
  split at hk
  ·rename_i id p e
   simp only [Option.some.injEq,Prod.mk.injEq] at hk; obtain ⟨rfl,rfl⟩:=hk
   obtain ⟨u,g1,g2⟩:=f1 id p e
   exact .pure' h (by simp only [execOp,ho]; exact A9 g1) g2
  ·rename_i id i p e
   simp only [Option.some.injEq,Prod.mk.injEq] at hk; obtain ⟨rfl,rfl⟩:=hk
   obtain ⟨u,g1,g2⟩:=f2 id i p e
   exact .pure' h (by simp only [execOp,ho]; exact A9 g1) g2
  ·rename_i c l i p e
   simp only [Option.some.injEq,Prod.mk.injEq] at hk; obtain ⟨rfl,rfl⟩:=hk
   obtain ⟨u,g1,g2⟩:=f3 c l i p e
   exact .pure' h (by simp only [execOp,ho]; exact A9 g1) g2
  ·rename_i cs p e
   simp only [Option.some.injEq,Prod.mk.injEq] at hk; obtain ⟨rfl,rfl⟩:=hk
   obtain ⟨u,g1,g2⟩:=f4 cs p e
   exact .pure' h (by simp only [execOp,ho]; exact A9 g1) g2
  ·rename_i c z p e
   simp only [Option.some.injEq,Prod.mk.injEq] at hk; obtain ⟨rfl,rfl⟩:=hk
   obtain ⟨u,g1,g2⟩:=f5 c z p e
   exact .pure' h (by simp only [execOp,ho]; exact A9 g1) g2
  ·cases hk
 ·cases hk

theorem Ob {s:TypeId} {x:Operand} {f:Nat} {o:Oper} {v:V} {us:Upd} {new:Nat} (h:SimAt E R μ sl bl fr a w) (ho:o.op = .field s x f) (hk:opK P Γ sl blr new o (fun v us=>some (v,us))=some (v,us)):OpOk P E sl bl fr new a w o v us:=by
 have hx:=Ay h x
 simp only [opK,ho] at hk
 split at hk
 ·rename_i off t cs hf e
  rw [e] at hx
  generalize hux:a.eval x=ux at hx
  cases hx with
  | agg _ uu h1 h2=>
  obtain ⟨h3,rfl⟩:=HB hk
  obtain ⟨u,g1,g2⟩:=GM (P:=P) (w:=w) h1 h2 h3
  refine .pure' h ?_ g2
  simp only [execOp,ho,hux]
  refine A9 ?_
  unfold He at hf
  split at hf
  ·rename_i fs hu
   split at hf
   ·rename_i g hg
    simp at hf; obtain ⟨rfl,rfl⟩:=hf
    have hg':fs[f]? = some g:=by simpa using hg
    simp [Instr.field,run_underlying hu,hg',asAgg,g1]
   ·cases hf
  ·cases hf
 ·cases hk

theorem Ix {t:TypeId} {x ix:Operand} {o:Oper} {v:V} {us:Upd} {new:Nat} (h:SimAt E R μ sl bl fr a w) (hs : ∀ id B,blr id=some B->bl id=some B) (ho:o.op = .indexAddr t x ix) (hk:opK P Γ sl blr new o (fun v us=>some (v,us))=some (v,us)):OpOk P E sl bl fr new a w o v us:=by
 have hx:=Ay h x
 have hi:=Ay h ix
 simp only [opK,ho] at hk
 split at hk
 ·rename_i v' e k n hu hie
  rw [hie] at hi
  generalize hui:a.eval ix=ui at hi
  cases hi
  have hn:Dl P blr e (opd sl x) n some=some v/\us=[]:=by
   unfold Dl at hk ⊢
   split at hk
   ·split at hk
    ·obtain ⟨h1,h2⟩:=Ac hk
     obtain ⟨h3,h4⟩:=Ac h2
     simp only [Option.some.injEq,Prod.mk.injEq] at h4; obtain ⟨rfl,rfl⟩:=h4
     exact ⟨by simp only [h1,h3,ifT],rfl⟩
    ·obtain ⟨h1,h2⟩:=Ac hk
     obtain ⟨h3,h4⟩:=Ac h2
     simp only [Option.some.injEq,Prod.mk.injEq] at h4; obtain ⟨rfl,rfl⟩:=h4
     exact ⟨by simp only [h1,h3,ifT],rfl⟩
    ·cases hk
   ·obtain ⟨h1,h2⟩:=Ac hk
    obtain ⟨h3,h4⟩:=Ac h2
    simp only [Option.some.injEq,Prod.mk.injEq] at h4; obtain ⟨rfl,rfl⟩:=h4
    exact ⟨by simp only [h1,h3,ifT],rfl⟩
   ·cases hk
  obtain ⟨h1,rfl⟩:=hn
  obtain ⟨u,g1,g2⟩:=IL (P:=P) (k:=k) (h.mem.sub hs) hu hx h1
  exact .pure' h (by simp only [execOp,ho,hui]; exact A9 g1) g2
 ·rename_i len e id p k n hu hxe hie
  rw [hie] at hi; rw [hxe] at hx
  generalize hui:a.eval ix=ui at hi
  generalize hux:a.eval x=ux at hx
  cases hi
  cases hx with
  | ptr _ _ b hb=>
  obtain ⟨h1,hk⟩:=Ac hk
  obtain ⟨h2,hk⟩:=Ac hk
  simp only [Option.some.injEq,Prod.mk.injEq] at hk; obtain ⟨rfl,rfl⟩:=hk
  obtain ⟨i,hinfo,_⟩:=Bq h1
  have h2:(0:Int)<=n/\n<(len:Int):=by simpa using h2
  refine .pure' h ?_ (.ptr id _ b hb)
  simp only [execOp,ho,hui,hux]
  refine A9 ?_
  simp [Instr.indexAt,asIntOf,run_underlying hu,Instr.sureAddr,h2,Ca hinfo,AL]
 ·cases hk

theorem Oa {t:TypeId} {x ix:Operand} {o:Oper} {v:V} {us:Upd} {new:Nat} (h:SimAt E R μ sl bl fr a w) (ho:o.op = .index t x ix) (hk:opK P Γ sl blr new o (fun v us=>some (v,us))=some (v,us)):OpOk P E sl bl fr new a w o v us:=by
 have hx:=Ay h x
 have hi:=Ay h ix
 simp only [opK,ho] at hk
 split at hk
 ·rename_i l k n hu hxe hie
  rw [hie] at hi; rw [hxe] at hx
  generalize hui:a.eval ix=ui at hi
  generalize hux:a.eval x=ux at hx
  cases hi; cases hx
  obtain ⟨h1,hk⟩:=Ac hk
  obtain ⟨z,hz,hk⟩:=A5 hk
  simp only [Option.some.injEq,Prod.mk.injEq] at hk; obtain ⟨rfl,rfl⟩:=hk
  have h1:(0:Int)<=n:=by simpa using h1
  refine .pure' h ?_ (.i .u8 _)
  simp only [execOp,ho,hui,hux]
  refine A9 ?_
  have hget:(⟨l.toArray⟩:ByteArray)[n.toNat]? = some z:=by
   obtain ⟨hj,rfl⟩:=List.getElem?_eq_some_iff.1 hz
   have:n.toNat<(⟨l.toArray⟩:ByteArray).size:=by simpa [ByteArray.size] using hj
   rw [getElem?_pos (⟨l.toArray⟩:ByteArray) n.toNat this]
   rfl
  simp [Instr.index,asIntOf,run_underlying hu,h1,hget]
 ·rename_i len e cs k n hu hxe hie
  rw [hie] at hi; rw [hxe] at hx
  generalize hui:a.eval ix=ui at hi
  generalize hux:a.eval x=ux at hx
  cases hi
  cases hx with
  | agg _ uu g1 g2=>
  obtain ⟨h1,hk⟩:=Ac hk
  obtain ⟨h2,hk⟩:=Ac hk
  obtain ⟨h3,rfl⟩:=HB hk
  obtain ⟨i,hinfo,_⟩:=Bq h1
  have h2:(0:Int)<=n/\n<(len:Int):=by simpa using h2
  obtain ⟨u,q1,q2⟩:=GM (P:=P) (w:=w) g1 g2 h3
  refine .pure' h ?_ q2
  simp only [execOp,ho,hui,hux]
  refine A9 ?_
  simp [Instr.index,asIntOf,run_underlying hu,h2,Ca hinfo,q1]
 ·cases hk

theorem KC {x:Operand} {j:Nat} {o:Oper} {v:V} {us:Upd} {new:Nat} (h:SimAt E R μ sl bl fr a w) (ho:o.op = .extract x j) (hk:opK P Γ sl blr new o (fun v us=>some (v,us))=some (v,us)):OpOk P E sl bl fr new a w o v us:=by
 have hx:=Ay h x
 simp only [opK,ho] at hk
 split at hk
 ·rename_i vs e
  rw [e] at hx
  generalize hux:a.eval x=ux at hx
  cases hx with
  | tup _ uu h1 h2=>
  obtain ⟨v',h3,hk⟩:=A5 hk
  simp only [Option.some.injEq,Prod.mk.injEq] at hk; obtain ⟨rfl,rfl⟩:=hk
  have hj:j<uu.size:=by rw [h1]; exact (List.getElem?_eq_some_iff.1 h3).1
  refine .pure' h ?_ (h2 j v' uu[j] h3 (by simp [hj]))
  simp only [execOp,ho,hux]
  refine A9 ?_
  simp [Instr.extract,hj]
 ·cases hk

theorem Ie {args:Array Operand} (h:SimAt E R μ sl bl fr a w):Reps w R μ (args.toList.map (opd sl)) (args.map a.eval).toList:=
 ⟨by simp,fun j v u hv hu=>by
  rw [getElem?_map] at hv
  obtain ⟨x,hx,rfl⟩:=map_eq_some_iff.1 hv
  simp only [Array.toList_map,getElem?_map,hx] at hu
  simp at hu; subst hu
  exact Ay h x⟩

theorem KE {c:Call} {b:Builtin} {o:Oper} {v:V} {us:Upd} {new:Nat} (h:SimAt E R μ sl bl fr a w) (hs : ∀ id B,blr id=some B->bl id=some B) (hf : ∀ c,c<16->fr (new+c)) (ho:o.op = .call c) (hb:c.callee = .builtin b) (hk:opK P Γ sl blr new o (fun v us=>some (v,us))=some (v,us)):OpOk P E sl bl fr new a w o v us:=by
 have hr:=Ie (args:=c.args) h
 simp only [opK,ho,hb] at hk
 obtain ⟨cq,hex⟩ : ∃ cq,(execOp a.eval o).run P w=(builtin b c.argTypes o.type cq (c.args.map a.eval)).run P w:=⟨_,by
  simp only [execOp,ho,resolve,hb,Sem.run_bind,Sem.run_pure,Result.andThen_ok,invoke]; rfl⟩
 unfold Ew at hk
 split at hk
 ·-- len
  split at hk
  ·rename_i x t rest h1 h2
   rw [h1] at hr
   obtain ⟨u,us1,e1,r1,r2⟩:=hr.inv
   have:=r2.nil_inv; subst this
   have hargs:c.args.map a.eval = #[u]:=by apply Array.ext'; simpa using e1
   have hts:c.argTypes[0]? = some t:=by rw [<-Array.getElem?_toList,h2]; rfl
   have hn : ∃ n,JF P t x some=some n/\v = .i .i64 n/\us=[]:=by
    unfold JF at hk ⊢
    split at hk
    ·split at hk
     ·simp only [Option.some.injEq,Prod.mk.injEq] at hk; obtain ⟨rfl,rfl⟩:=hk; exact ⟨_,rfl,rfl,rfl⟩
     ·cases hk
    ·split at hk<;>first
      | (cases hk; done)
      | (simp only [Option.some.injEq,Prod.mk.injEq] at hk; obtain ⟨rfl,rfl⟩:=hk; exact ⟨_,rfl,rfl,rfl⟩)
    ·simp only [Option.some.injEq,Prod.mk.injEq] at hk; obtain ⟨rfl,rfl⟩:=hk; exact ⟨_,rfl,rfl,rfl⟩
    ·cases hk
   obtain ⟨n,g1,rfl,rfl⟩:=hn
   refine .pure' h ?_ (.i .i64 n)
   rw [hex,hargs]
   simp only [builtin]
   exact A9 (MD r1 g1 hts)
  ·cases hk
 ·-- append
  split at hk
  ·rename_i x kd m t t2 h1 h2
   rw [h1] at hr
   obtain ⟨u1,us1,e1,r1,r2⟩:=hr.inv
   obtain ⟨u2,us2,rfl,r3,r4⟩:=r2.inv
   have:=r4.nil_inv; subst this
   have hargs:c.args.map a.eval = #[u1,u2]:=by apply Array.ext'; simpa using e1
   have hts:c.argTypes = #[t,t2]:=by apply Array.ext'; simpa using h2
   obtain ⟨u,w',μ',g1,g2,g3⟩:=H7 (P:=P) (ty:=o.type) h hs hf r1 r3 hk
   refine ⟨_,w',R,μ',u,?_,.inl rfl,g2,g3⟩
   rw [hex,hargs,hts]
   simp only [builtin]
   exact A9 g1
  ·rename_i x y t t2 _ h1 h2
   rw [h1] at hr
   obtain ⟨u1,us1,e1,r1,r2⟩:=hr.inv
   obtain ⟨u2,us2,rfl,r3,r4⟩:=r2.inv
   have:=r4.nil_inv; subst this
   have hargs:c.args.map a.eval = #[u1,u2]:=by apply Array.ext'; simpa using e1
   have hts:c.argTypes = #[t,t2]:=by apply Array.ext'; simpa using h2
   obtain ⟨u,w',μ',g1,g2,g3⟩:=IR (P:=P) (ty:=o.type) h hs hf r1 r3 hk
   refine ⟨_,w',R,μ',u,?_,.inl rfl,g2,g3⟩
   rw [hex,hargs,hts]
   simp only [builtin]
   exact A9 g1
  ·cases hk
 ·-- clear
  split at hk
  ·rename_i id lo n t rest h1 h2
   rw [h1] at hr
   obtain ⟨u,us1,e1,r1,r2⟩:=hr.inv
   have:=r2.nil_inv; subst this
   have hargs:c.args.map a.eval = #[u]:=by apply Array.ext'; simpa using e1
   have hts:c.argTypes=(t::rest).toArray:=by apply Array.ext'; simpa using h2
   split at hk
   ·rename_i e nl cd l he hb
    split at hk
    ·rename_i row hrow
     split at hk
     ·rename_i z hz
      obtain ⟨g1,hk⟩:=Ac hk
      simp only [Option.some.injEq,Prod.mk.injEq] at hk; obtain ⟨rfl,rfl⟩:=hk
      unfold Df at hrow
      split at hrow
      ·rename_i zv hzv
       simp at hrow; subst hrow
       obtain ⟨ie,hie,hzv⟩:=bind_eq_some_iff.1 hzv
       obtain ⟨w',q1,q2⟩:=Kg (P:=P) (ty:=o.type) h (hs _ _ hb) r1 (DO he) hie hzv hz
       have q3:(Builtin.clear_ c.argTypes o.type #[u]).run P w = .ok (.tuple #[]) w':=by
        rw [hts]
        simpa [Builtin.clear_] using q1
       refine ⟨_,w',R,μ,.tuple #[],?_,.inl rfl,q2.fr_mono (fun j hj=>hj.1),.unk _⟩
       rw [hex,hargs]
       simp only [builtin]
       exact A9 q3
      ·cases hrow
     ·cases hk
    ·cases hk
   ·cases hk
  ·cases hk
 ·-- min
  unfold FN at hk
  split at hk
  ·rename_i k x k2 y h1
   simp only [Option.some.injEq,Prod.mk.injEq] at hk; obtain ⟨rfl,rfl⟩:=hk
   rw [h1] at hr
   obtain ⟨u1,us1,e1,r1,r2⟩:=hr.inv
   obtain ⟨u2,us2,rfl,r3,r4⟩:=r2.inv
   have:=r4.nil_inv; subst this
   have hargs:c.args.map a.eval = #[u1,u2]:=by apply Array.ext'; simpa using e1
   cases r1; cases r3
   refine .pure' h ?_ (.i k _)
   rw [hex,hargs]
   simp only [builtin]
   exact A9 (by simp [Builtin.min_,Builtin.min2])
  ·cases hk
 ·-- max
  unfold FN at hk
  split at hk
  ·rename_i k x k2 y h1
   simp only [Option.some.injEq,Prod.mk.injEq] at hk; obtain ⟨rfl,rfl⟩:=hk
   rw [h1] at hr
   obtain ⟨u1,us1,e1,r1,r2⟩:=hr.inv
   obtain ⟨u2,us2,rfl,r3,r4⟩:=r2.inv
   have:=r4.nil_inv; subst this
   have hargs:c.args.map a.eval = #[u1,u2]:=by apply Array.ext'; simpa using e1
   cases r1; cases r3
   refine .pure' h ?_ (.i k _)
   rw [hex,hargs]
   simp only [builtin]
   exact A9 (by simp [Builtin.max_,Builtin.max2])
  ·cases hk
 ·cases hk
def B8:(c:Cd)->c.den->Value
 | .int k,n=>.int k n
 | .str,l=>.string ⟨l.toArray⟩
 | _,_=>undef
theorem GY {kt:TypeId} {kc:Cd} {x:V} {key:kc.den} {u:Value} (h:LU P kt kc x=some key) (hx:VRep w R μ x u) :
  ∃ d,P.underlying kt=some d/\u=B8 kc key/\(∀ z:kc.den,MapKept.IsKey d (B8 kc z))/\(∀ a b:kc.den,CC kc a b=true↔B8 kc a=B8 kc b)/\
   (∀ (z:kc.den) (w:World) (R:Nat->Prop) (μ:Nat->Option RB) e,(∀ v,(enc kc z)[0]? = some v->VRep w R μ v e)->e=B8 kc z)/\(∀ (z:kc.den) (w:World) (R:Nat->Prop) (μ:Nat->Option RB) v,(enc kc z)[0]? = some v->VRep w R μ v (B8 kc z)):=by
 unfold LU at h
 cases hu:P.underlying kt with
 | none=>rw [hu] at h; cases h
 | some d=>
  rw [hu] at h
  cases kc with
  | int k'=>
   cases d with
   | int k=>
    cases hx with
    | i k2 n=>
     dsimp only at h
     split at h
     ·rename_i h1 h2
      have h1:=of_decide_eq_true h1
      have h2:=of_decide_eq_true h2
      subst h1 h2
      simp at h; subst h
      refine ⟨_,rfl,rfl,fun z=>?_,fun a b=>?_,fun z w R μ e he=>?_,fun z w R μ v hv=>?_⟩
      ·simp [B8,MapKept.IsKey]
      ·simp [B8,CC]
      ·cases he _ rfl; rfl
      ·simp [enc] at hv; subst hv; exact .i _ _
     ·cases h
    | _=>cases h
   | _=>cases h
  | str=>
   cases d with
   | string=>
    cases hx with
    | s l=>
     simp at h; subst h
     refine ⟨_,rfl,rfl,fun z=>?_,fun a b=>?_,fun z w R μ e he=>?_,fun z w R μ v hv=>?_⟩
     ·simp [B8,MapKept.IsKey]
     ·simp [B8,CC]
     ·cases he _ rfl; rfl
     ·simp [enc] at hv; subst hv; exact .s _
    | _=>cases h
   | _=>cases h
  | _=>cases d<;>cases h
theorem EZ {α:Type} {d:TypeDesc} {kc:Cd} (hk : ∀ z:kc.den,MapKept.IsKey d (B8 kc z)) (he : ∀ a b:kc.den,CC kc a b=true↔B8 kc a=B8 kc b) (key:kc.den) :
  ∀ (es:List MapEntry) (l:List (kc.den×α)) (i:Nat),es.length=l.length->(∀ (j:Nat) e z,es[j]? = some e->l[j]? = some z->e.key=B8 kc z.1)->
  (Dy kc l key=none/\Instr.findNow d (B8 kc key) es i=some none/\∀ v,Eb kc l key v=l++[(key,v)])\/
  ∃ j e z,es[j]? = some e/\l[j]? = some z/\Dy kc l key=some z.2/\Instr.findNow d (B8 kc key) es i=some (some (i+j,e.val))/\e.key=B8 kc key/\∀ v,Eb kc l key v=l.set j (key,v)
 | [],[],i,_,_=>.inl ⟨rfl,rfl,fun _=>rfl⟩
 | [],_::_,i,h,_=>by simp at h
 | _::_,[],i,h,_=>by simp at h
 | e::es,z::l,i,h,hkeys=>by
  have h0:e.key=B8 kc z.1:=hkeys 0 e z rfl rfl
  obtain ⟨r,hr,hiff⟩:=MapKept.sameNow_of_keys (hk key) (hk z.1)
  rw [<-h0] at hr
  cases hq:CC kc key z.1 with
  | true=>
   have e1:=(he key z.1).1 hq
   have:r=true:=hiff.2 e1
   subst this
   exact .inr ⟨0,e,z,rfl,rfl,by simp [Dy,hq],by simp [Instr.findNow,hr],by rw [h0,e1],fun v=>by simp [Eb,hq]⟩
  | false=>
   have:r=false:=by
    cases r with
    | false=>rfl
    | true=>have:=(he key z.1).2 (hiff.1 rfl); rw [hq] at this; cases this
   subst this
   rcases EZ hk he key es l (i+1) (by simpa using h) (fun j e z h1 h2=>hkeys (j+1) e z (by simpa using h1) (by simpa using h2)) with ⟨h1,h2,h3⟩ | ⟨j,e',z',h1,h2,h3,h4,h5,h6⟩
   ·exact .inl ⟨by simp [Dy,hq,h1],by simp [Instr.findNow,hr,h2],fun v=>by simp [Eb,hq,h3]⟩
   ·exact .inr ⟨j+1,e',z',by simpa using h1,by simpa using h2,by simp [Dy,hq,h3],by simp [Instr.findNow,hr,h4]; omega,h5,fun v=>by simp [Eb,hq,h6]⟩

theorem KB {t:TypeId} {o:Oper} {v:V} {us:Upd} {new:Nat} (h:SimAt E R μ sl bl fr a w) (hf : ∀ c,c<16->fr (new+c)) (ho:o.op = .makeMap t none) (hk:opK P Γ sl blr new o (fun v us=>some (v,us))=some (v,us)):OpOk P E sl bl fr new a w o v us:=by
 simp only [opK,ho] at hk
 split at hk
 ·rename_i us' hm
  simp at hk; obtain ⟨rfl,rfl⟩:=hk
  unfold JA at hm
  split at hm
  ·split at hm
   ·rename_i kc vc hkc hvc
    split at hm
    ·rename_i h1
     simp at hm; subst hm
     have g:=h.newBlk (id:=new) (by simpa using hf 0 (by omega)) (.map #[] 0) (.mp kc vc []) (.box w.heap.size) rfl (.mp _ kc vc [] #[] 0 (MapKept.heap_alloc w _).1 (eq_of_beq_eq_true h1) rfl (by simp) (by simp))
     refine ⟨_,_,R,_,.map (some w.heap.size),?_,.inl rfl,g.fr_mono (fun j hj=>⟨hj.1,by omega⟩),.mref _ _ (Am _ _ _)⟩
     simp only [execOp,ho]
     exact A9 rfl
    ·cases hm
   ·cases hm
  ·cases hm
 ·cases hk

theorem M5 {t:TypeId} {m x:Operand} {ok:Bool} {o:Oper} {v:V} {us:Upd} {new:Nat} (h:SimAt E R μ sl bl fr a w) (hs : ∀ id B,blr id=some B->bl id=some B) (ho:o.op = .lookup t m x ok) (hk:opK P Γ sl blr new o (fun v us=>some (v,us))=some (v,us)):OpOk P E sl bl fr new a w o v us:=by
 simp only [opK,ho] at hk
 have hm:=Ay h m
 have hx:=Ay h x
 split at hk
 ·rename_i v' hl
  simp at hk; obtain ⟨rfl,rfl⟩:=hk
  unfold LK at hl
  split at hl
  ·rename_i kt et id hu em
   rw [em] at hm
   generalize hmu:a.eval m=um at hm
   cases hm with
   | mref _ b hr=>
   split at hl
   ·rename_i kc vc l hb
    obtain ⟨rb,g1,g2⟩:=h.mem.blk id _ (hs _ _ hb)
    rw [hr] at g1; simp at g1; subst g1
    cases g2 with
    | mp _ _ _ _ es clock hh hsz hlen hkeys hvals=>
    split at hl
    ·rename_i key z hkey hz
     obtain ⟨d,hd,e1,k1,k2,k3,k4⟩:=GY hkey hx
     obtain ⟨zv,hzv,hz⟩:=bind_eq_some_iff.1 hz
     unfold PZ at hzv
     split at hzv
     ·rename_i zz hzz
      simp at hzv; subst hzv
      obtain ⟨i,hi,hzz⟩:=bind_eq_some_iff.1 hzz
      have hzr:=Ce (w:=w) (R:=R) (μ:=μ) (.cons (Gh zz) .nil) hz
      have hkeys' : ∀ (j:Nat) e z,es.toList[j]? = some e->l[j]? = some z->e.key=B8 kc z.1:=fun j e z h1 h2=>k3 z.1 w _ μ e.key (fun v h3=>hkeys j e z v (by simpa using h1) h2 h3)
      have hc : ∀ em,(Instr.checkKey em 10000 kt (a.eval x)).run P w = .ok () w:=fun em=>by rw [e1]; exact MapKept.run_checkKey hd (k1 key) em 9999
      have fin : ∀ (zc:vc.den) (u:Value) (r:Option (Nat×Value)) (okv:Bool),Reps w R μ (enc vc zc) [u]->Ol (enc vc zc) ok okv=some v'->
        (Instr.lookup t (.map (some b)) (a.eval x) ok).run P w = .ok (if ok then .tuple #[u,.bool okv] else u) w->OpOk P E sl bl fr new a w o v' []:=fun zc u r okv hr hl hrun=>by
       have hl1:(enc vc zc).length=1:=by rw [A8]; exact hsz
       match e0:enc vc zc,hl1 with
       | [v0],_=>
        rw [e0] at hl hr
        unfold Ol at hl
        have hv:=hr.2 0 v0 u rfl rfl
        cases ok with
        | true=>
         simp at hl; subst hl
         refine .pure' h (by simp only [execOp,ho,hmu]; exact A9 hrun) ?_
         exact .tup _ _ rfl (fun j v u h1 h2=>by
          match j with
          | 0=>simp at h1 h2; subst h1 h2; exact hv
          | 1=>simp at h1 h2; subst h1 h2; exact .b _
          | j+2=>simp at h1)
        | false=>
         simp at hl; subst hl
         exact .pure' h (by simp only [execOp,ho,hmu]; exact A9 hrun) hv
      rcases EZ k1 k2 key es.toList l 0 (by simpa using hlen) hkeys' with ⟨h1,h2,h3⟩ | ⟨j,e,y,h1,h2,h3,h4,h5,h6⟩
      ·rw [h1] at hl
       refine fin z zz none false hzr hl ?_
       rw [<-e1] at h2
       simp [Instr.lookup,run_underlying hu,MapKept.run_getObj_map hh,hc,MapKept.run_findKey hd h2,BX hi hzz]
      ·rw [h3] at hl
       have hlen2:(enc vc y.2).length=1:=by rw [A8]; exact hsz
       refine fin y.2 e.val (some (j,e.val)) true ⟨by simpa using hlen2.symm,fun j' v u q1 q2=>?_⟩ hl ?_
       ·cases j' with
        | zero=>simp at q2; subst q2; exact hvals j e y v (by simpa using h1) h2 q1
        | succ=>simp at q2
       ·rw [<-e1] at h4
        simp [Instr.lookup,run_underlying hu,MapKept.run_getObj_map hh,hc,MapKept.run_findKey hd h4]
     ·cases hzv
    ·cases hl
   ·cases hl
  ·cases hl
 ·cases hk

theorem Iv {t:TypeId} {m x y:Operand} {o:Oper} {v:V} {us:Upd} {new:Nat} (h:SimAt E R μ sl bl fr a w) (hs : ∀ id B,blr id=some B->bl id=some B) (ho:o.op = .mapUpdate t m x y) (hk:opK P Γ sl blr new o (fun v us=>some (v,us))=some (v,us)):OpOk P E sl bl fr new a w o v us:=by
 simp only [opK,ho] at hk
 have hm:=Ay h m
 have hx:=Ay h x
 have hy:=Ay h y
 split at hk
 ·rename_i us' hl
  simp at hk; obtain ⟨rfl,rfl⟩:=hk
  unfold LI at hl
  split at hl
  ·rename_i kt et id hu em
   rw [em] at hm
   generalize hmu:a.eval m=um at hm
   cases hm with
   | mref _ b hr=>
   split at hl
   ·rename_i kc vc l hb
    split at hl
    ·rename_i key cs ids hkey hcl
     split at hl
     ·rename_i z hni hdec
      simp at hl; subst hl
      obtain ⟨d,hd,e1,k1,k2,k3,k4⟩:=GY hkey hx
      obtain ⟨R',g1,g2,g3⟩:=Dv h hs (.cons hy .nil) hcl
      have hzr:=Ce g3 hdec
      have hb':Av bl (AP blr ids) id=some (.mp kc vc l):=by
       rw [Bw _ _ _ (fun p hp e=>by
        have:=EX ids p hp
        rw [e] at this
        simp at hni; exact hni this)]
       exact hs _ _ hb
      obtain ⟨rb,q1,q2⟩:=g1.mem.blk id _ hb'
      rw [hr] at q1; simp at q1; subst q1
      cases q2 with
      | mp _ _ _ _ es clock hh hsz hlen hkeys hvals=>
      have hkeys' : ∀ (j:Nat) e z,es.toList[j]? = some e->l[j]? = some z->e.key=B8 kc z.1:=fun j e z h1 h2=>k3 z.1 w _ μ e.key (fun v h3=>hkeys j e z v (by simpa using h1) h2 h3)
      have hc : ∀ em,(Instr.checkKey em 10000 kt (a.eval x)).run P w = .ok () w:=fun em=>by rw [e1]; exact MapKept.run_checkKey hd (k1 key) em 9999
      -- the new world
      have fin : ∀ (es':Array MapEntry) (clock':Nat),(Instr.mapUpdate t (.map (some b)) (a.eval x) (a.eval y)).run P w = .ok () { w with heap:=w.heap.setIfInBounds b (.map es' clock') }->
        es'.size=(Eb kc l key z).length->(∀ (i:Nat) e q v,es'[i]? = some e->(Eb kc l key z)[i]? = some q->(enc kc q.1)[0]? = some v->VRep w R' μ v e.key)->(∀ (i:Nat) e q v,es'[i]? = some e->(Eb kc l key z)[i]? = some q->(enc vc q.2)[0]? = some v->VRep w R' μ v e.val)->
        OpOk P E sl bl fr new a w o .unk (AP blr ids++[(id,some (.mp kc vc (Eb kc l key z)))]):=fun es' clock' hrun n1 n2 n3=>by
       obtain ⟨s1,s2⟩:=MapKept.heap_set (w:=w) (o':=.map es' clock') hh
       have hw : ∀ k,R' k->({ w with heap:=w.heap.setIfInBounds b (.map es' clock') }:World).heap[k]? = w.heap[k]?:=fun k hk'=>s2 k (fun e=>by subst e; exact g1.mem.sep id _ _ k hb' rfl hr rfl hk')
       have g:=g1.setBlk (w':={ w with heap:=w.heap.setIfInBounds b (.map es' clock') }) (B':=.mp kc vc (Eb kc l key z)) hb' rfl hr rfl (by simp) (fun k hk'=>s2 k hk') rfl rfl rfl
        (.mp b kc vc _ es' clock' s1 hsz n1 (fun i e q v a1 a2 a3=>(n2 i e q v a1 a2 a3).mono hw (fun _ h=>h) (fun _ _ h=>h)) (fun i e q v a1 a2 a3=>(n3 i e q v a1 a2 a3).mono hw (fun _ h=>h) (fun _ _ h=>h)))
       refine ⟨_,_,R',μ,undef,by simp only [execOp,ho,hmu]; exact Jk hrun,.inr ⟨rfl,rfl⟩,?_,.unk _⟩
       rw [Bl]
       exact g.fr_mono (fun j hj=>hj.1)
      have hnew : ∀ v,(enc vc z)[0]? = some v->VRep w R' μ v (a.eval y):=fun v hv=>hzr.2 0 v _ hv rfl
      rcases EZ k1 k2 key es.toList l 0 (by simpa using hlen) hkeys' with ⟨h1,h2,h3⟩ | ⟨j,e,q,h1,h2,h3,h4,h5,h6⟩
      ·rw [<-e1] at h2
       refine fin (es.push { key:=a.eval x,val:=a.eval y,born:=clock }) (clock+1) ?_ ?_ ?_ ?_
       ·simp [Instr.mapUpdate,run_underlying hu,MapKept.run_getObj_map hh,hc,MapKept.run_findKey hd h2,MapKept.run_setObj_map _ hh]
       ·rw [h3]; simp [hlen]
       ·intro i e q v a1 a2 a3
        rw [h3] at a2
        rw [Array.getElem?_push] at a1
        by_cases hi:i=es.size
        ·subst hi
         simp at a1; subst a1
         rw [hlen] at a2; simp at a2; subst a2
         dsimp only
         rw [e1]; exact k4 key w R' μ v a3
        ·rw [if_neg hi] at a1
         have:i<l.length:=by have:=(Array.getElem?_eq_some_iff.1 a1).1; omega
         rw [List.getElem?_append_left this] at a2
         exact hkeys i e q v a1 a2 a3
       ·intro i e q v a1 a2 a3
        rw [h3] at a2
        rw [Array.getElem?_push] at a1
        by_cases hi:i=es.size
        ·subst hi
         simp at a1; subst a1
         rw [hlen] at a2; simp at a2; subst a2
         exact hnew v a3
        ·rw [if_neg hi] at a1
         have:i<l.length:=by have:=(Array.getElem?_eq_some_iff.1 a1).1; omega
         rw [List.getElem?_append_left this] at a2
         exact hvals i e q v a1 a2 a3
      ·rw [<-e1] at h4 h5
       have hj:es[j]? = some e:=by simpa using h1
       refine fin (es.modify j fun e=>{ e with key:=a.eval x,val:=a.eval y }) clock ?_ ?_ ?_ ?_
       ·simp [Instr.mapUpdate,run_underlying hu,MapKept.run_getObj_map hh,hc,MapKept.run_findKey hd h4,hj,h5,MapKept.run_keyThatStays (e1 ▸ k1 key:MapKept.IsKey d (a.eval x)),MapKept.run_setObj_map _ hh]
       ·rw [h6]; simp [hlen]
       ·intro i e' q' v a1 a2 a3
        rw [h6] at a2
        rw [Array.getElem?_modify] at a1
        by_cases hi:j=i
        ·subst hi
         rw [if_pos rfl,hj] at a1
         simp at a1; subst a1
         rw [List.getElem?_set_self (List.getElem?_eq_some_iff.1 h2).1] at a2
         simp at a2; subst a2
         dsimp only
         rw [e1]; exact k4 key w R' μ v a3
        ·rw [if_neg hi] at a1
         rw [List.getElem?_set_ne hi] at a2
         exact hkeys i e' q' v a1 a2 a3
       ·intro i e' q' v a1 a2 a3
        rw [h6] at a2
        rw [Array.getElem?_modify] at a1
        by_cases hi:j=i
        ·subst hi
         rw [if_pos rfl,hj] at a1
         simp at a1; subst a1
         rw [List.getElem?_set_self (List.getElem?_eq_some_iff.1 h2).1] at a2
         simp at a2; subst a2
         exact hnew v a3
        ·rw [if_neg hi] at a1
         rw [List.getElem?_set_ne hi] at a2
         exact hvals i e' q' v a1 a2 a3
     ·cases hl
    ·cases hl
   ·cases hl
  ·cases hl
 ·cases hk
end
end Go.Proofs.YthbecdipboideaaDoor.Den
/- What comes behind an operation hangs on its value and its change alone. -/
namespace Go.Proofs.YthbecdipboideaaDoor.Den

section
variable {P:Program} {Γ:FuncId->Option Ent} {β:Type} {r:β} {sl:List V} {bl blr:Nat->Option Blk}

theorem A0 {β:Type} {c:Bool} {k:Option β} (h:c=true):ifT c k=k:=by rw [h]; rfl
theorem Ck {α β:Type} {o:Option α} {a:α} {k:α->Option β} (h:o=some a):Ap o k=k a:=by rw [h]; rfl

theorem D8 {t:TypeId} {row:List V} {o:Nat} {k:V->Option β} (h:BT P t row o k=some r) : ∃ v,(∀ {γ:Type} (k:V->Option γ),BT P t row o k=k v)/\k v=some r:=by
 unfold BT at h ⊢
 split at h
 ·split at h
  ·obtain ⟨h1,h2⟩:=Ac h; exact ⟨_,fun k=>A0 h1,h2⟩
  ·cases h
 ·obtain ⟨v,h1,h2⟩:=A5 h; exact ⟨v,fun k=>Ck h1,h2⟩
 ·cases h
theorem G4 {t:TypeId} {x:V} {k:V->Option β} (h:Dj P bl t x k=some r) : ∃ v,(∀ {γ:Type} (k:V->Option γ),Dj P bl t x k=k v)/\k v=some r:=by
 unfold Dj at h ⊢
 split at h
 ·split at h
  ·exact D8 h
  ·cases h
 ·split at h
  ·obtain ⟨z,h1,h2⟩:=A5 h
   obtain ⟨v,g1,g2⟩:=D8 h2
   exact ⟨v,fun k=>by rw [Ck h1]; exact g1 k,g2⟩
  ·cases h
 ·obtain ⟨z,h1,h2⟩:=A5 h
  obtain ⟨v,g1,g2⟩:=D8 h2
  exact ⟨v,fun k=>by rw [Ck h1]; exact g1 k,g2⟩
 ·exact D8 h
 ·exact D8 h
 ·cases h
theorem Nu {new:Nat} {t:TypeId} {x y:V} {k:Upd->Option β} (h:Ed P bl new t x y k=some r) : ∃ us,(∀ {γ:Type} (k:Upd->Option γ),Ed P bl new t x y k=k us)/\k us=some r:=by
 unfold Ed at h ⊢
 split at h
 ·split at h
  ·dsimp only at h ⊢
   obtain ⟨h1,h2⟩:=Ac h
   exact ⟨_,fun k=>A0 h1,h2⟩
  ·cases h
 ·split at h
  ·split at h
   ·split at h
    ·cases h
    ·obtain ⟨z,h1,h2⟩:=A5 h
     obtain ⟨h3,h4⟩:=Ac h2
     split at h4
     ·rename_i z' hz'
      exact ⟨_,fun k=>by rw [Ck h1,A0 h3,hz'],h4⟩
     ·cases h4
   ·cases h
  ·unfold Hh at h ⊢
   split at h
   ·obtain ⟨z,h1,h2⟩:=A5 h
    obtain ⟨h3,h4⟩:=Ac h2
    exact ⟨_,fun k=>by rw [Ck h1]; exact A0 h3,h4⟩
   ·obtain ⟨h1,h2⟩:=Ac h
    obtain ⟨h3,h4⟩:=Ac h2
    exact ⟨_,fun k=>by rw [A0 h1]; exact A0 h3,h4⟩
  ·cases h
 ·cases h
theorem LL {new:Nat} {t:TypeId} {id i o:Nat} {c:Cd} {l:List c.den} {cs:List V} {k:V->Upd->Option β} (h:HN P new t id i o c l cs k=some r) : ∃ v us,(∀ {γ:Type} (k:V->Upd->Option γ),HN P new t id i o c l cs k=k v us)/\k v us=some r:=by
 unfold HN at h ⊢
 split at h
 ·split at h
  ·obtain ⟨h1,h2⟩:=Ac h
   exact ⟨_,_,fun k=>A0 h1,h2⟩
  ·cases h
 ·split at h
  ·obtain ⟨h1,h2⟩:=Ac h
   exact ⟨_,_,fun k=>A0 h1,h2⟩
  ·exact ⟨_,_,fun k=>rfl,h⟩
  ·cases h
 ·cases h
theorem P3 {new:Nat} {t:TypeId} {x:V} {k:V->Upd->Option β} (h:JD P bl new t x k=some r) : ∃ v us,(∀ {γ:Type} (k:V->Upd->Option γ),JD P bl new t x k=k v us)/\k v us=some r:=by
 unfold JD at h ⊢
 split at h
 ·split at h
  ·unfold Hh at h ⊢
   split at h
   ·obtain ⟨z,h1,h2⟩:=A5 h
    obtain ⟨v,us,g1,g2⟩:=LL h2
    exact ⟨v,us,fun k=>by rw [Ck h1]; exact g1 k,g2⟩
   ·obtain ⟨h1,h2⟩:=Ac h
    obtain ⟨v,us,g1,g2⟩:=LL h2
    exact ⟨v,us,fun k=>by rw [A0 h1]; exact g1 k,g2⟩
  ·obtain ⟨v,h1,h2⟩:=G4 h
   exact ⟨v,[],fun k=>h1 _,h2⟩
 ·obtain ⟨v,h1,h2⟩:=G4 h
  exact ⟨v,[],fun k=>h1 _,h2⟩
theorem Oh {op:BinOp} {big:Bool} {k:V->Option β} (h:I3 op big k=some r) : ∃ v,(∀ {γ:Type} (k:V->Option γ),I3 op big k=k v)/\k v=some r:=by
  unfold I3 at h ⊢
  split at h<;>first
    | (cases h; done)
    | (cases big with
       | true=>exact ⟨_,fun k=>rfl,h⟩
       | false=>exact ⟨_,fun k=>rfl,h⟩)
theorem K8 {op:BinOp} {t:TypeId} {k:V->Option β} (h:GK P op t k=some r) : ∃ v,(∀ {γ:Type} (k:V->Option γ),GK P op t k=k v)/\k v=some r:=by
 unfold GK at h ⊢
 split at h
 ·split at h<;>first
   | (cases h; done)
   | exact ⟨_,fun k=>rfl,h⟩
 ·cases h
theorem QZ {op:BinOp} {t:TypeId} {x y:V} {k:V->Option β} (h:Kk P op t x y k=some r) : ∃ v,(∀ {γ:Type} (k:V->Option γ),Kk P op t x y k=k v)/\k v=some r:=by
 unfold Kk at h ⊢
 split at h
 ·split at h
  ·obtain ⟨h1,h2⟩:=Ac h; exact ⟨_,fun k=>A0 h1,h2⟩
  ·obtain ⟨h1,h2⟩:=Ac h; exact ⟨_,fun k=>A0 h1,h2⟩
  ·obtain ⟨h1,h2⟩:=Ac h
   split at h2<;>first
    | (cases h2; done)
    | exact ⟨_,fun k=>by rw [A0 h1],h2⟩
    | (obtain ⟨h3,h4⟩:=Ac h2; exact ⟨_,fun k=>by rw [A0 h1]; exact A0 h3,h4⟩)
 ·split at h<;>first
   | (cases h; done)
   | exact ⟨_,fun k=>rfl,h⟩
   | (obtain ⟨h3,h4⟩:=Ac h; exact ⟨_,fun k=>A0 h3,h4⟩)
 ·split at h
  ·split at h<;>first
    | (cases h; done)
    | exact ⟨_,fun k=>rfl,h⟩
  ·cases h
 ·split at h
  ·exact Oh h
  ·cases h
 ·split at h
  ·exact Oh h
  ·cases h
 ·unfold Mc at h ⊢
  split at h
  ·split at h
   ·split at h<;>first
     | (cases h; done)
     | exact ⟨_,fun k=>rfl,h⟩
   ·cases h
  ·cases h
 ·exact K8 h
 ·exact K8 h
 ·exact K8 h
 ·split at h
  ·split at h<;>first
    | (cases h; done)
    | exact ⟨_,fun k=>rfl,h⟩
  ·cases h
 ·split at h
  ·split at h<;>first
    | (cases h; done)
    | exact ⟨_,fun k=>rfl,h⟩
  ·cases h
 ·cases h
theorem Rf {op:UnOp} {x:V} {k:V->Option β} (h:unK op x k=some r) : ∃ v,(∀ {γ:Type} (k:V->Option γ),unK op x k=k v)/\k v=some r:=by
 unfold unK at h ⊢
 split at h<;>first
  | (cases h; done)
  | exact ⟨_,fun k=>rfl,h⟩
theorem MT {e:TypeId} {x:V} {n:Int} {k:V->Option β} (h:Dl P bl e x n k=some r) : ∃ v,(∀ {γ:Type} (k:V->Option γ),Dl P bl e x n k=k v)/\k v=some r:=by
 unfold Dl at h ⊢
 split at h
 ·split at h
  ·obtain ⟨h1,h2⟩:=Ac h; obtain ⟨h3,h4⟩:=Ac h2; exact ⟨_,fun k=>by rw [A0 h1,A0 h3],h4⟩
  ·obtain ⟨h1,h2⟩:=Ac h; obtain ⟨h3,h4⟩:=Ac h2; exact ⟨_,fun k=>by rw [A0 h1,A0 h3],h4⟩
  ·cases h
 ·obtain ⟨h1,h2⟩:=Ac h; obtain ⟨h3,h4⟩:=Ac h2; exact ⟨_,fun k=>by rw [A0 h1,A0 h3],h4⟩
 ·cases h
theorem QB {t:TypeId} {x:V} {k:Int->Option β} (h:JF P t x k=some r) : ∃ v,(∀ {γ:Type} (k:Int->Option γ),JF P t x k=k v)/\k v=some r:=by
 unfold JF at h ⊢
 split at h
 ·split at h
  ·exact ⟨_,fun k=>rfl,h⟩
  ·cases h
 ·split at h<;>first
   | (cases h; done)
   | exact ⟨_,fun k=>rfl,h⟩
 ·exact ⟨_,fun k=>rfl,h⟩
 ·cases h
theorem Ln {m:Nat} {lo hi:Option Int} {k:Nat->Nat->Option β} (h:Er m lo hi k=some r) : ∃ x y,(∀ {γ:Type} (k':Nat->Nat->Option γ),Er m lo hi k'=k' x y)/\k x y=some r:=by
 unfold Er at h
 split at h
 ·exact ⟨_,_,fun k'=>by unfold Er; rfl,h⟩
 all_goals
  obtain ⟨h1,h2⟩:=Ac h
  exact ⟨_,_,fun k'=>by unfold Er; exact A0 h1,h2⟩
theorem Nw {t:TypeId} {x:V} {l q:Option Int} {k:V->Option β} (h:DA P bl t x l q k=some r) : ∃ v,(∀ {γ:Type} (k:V->Option γ),DA P bl t x l q k=k v)/\k v=some r:=by
 unfold DA at h ⊢
 split at h
 ·split at h
  ·obtain ⟨a,b,h1,h2⟩:=Ln h; exact ⟨_,fun k=>h1 _,h2⟩
  ·cases h
 ·split at h
  ·split at h
   ·obtain ⟨h3,h4⟩:=Ac h
    obtain ⟨a,b,h1,h2⟩:=Ln h4; exact ⟨_,fun k=>by rw [A0 h3]; exact h1 _,h2⟩
   ·cases h
  ·obtain ⟨h3,h4⟩:=Ac h
   obtain ⟨a,b,h1,h2⟩:=Ln h4; exact ⟨_,fun k=>by rw [A0 h3]; exact h1 _,h2⟩
  ·cases h
 ·cases h

abbrev mk2 (v:V) (us:Upd):Option (V×Upd):=some (v,us)
theorem Nc {new:Nat} {t t2:TypeId} {x y:V} {k:V->Upd->Option β} (h:E4 P bl new t t2 x y k=some r) : ∃ v us,(∀ {γ:Type} (k:V->Upd->Option γ),E4 P bl new t t2 x y k=k v us)/\k v us=some r:=by
 unfold E4 at h ⊢
 split at h
 ·obtain ⟨h1,h⟩:=Ac h
  split at h
  ·split at h
   ·split at h
    ·obtain ⟨h3,h4⟩:=Ac h; obtain ⟨h5,h6⟩:=Ac h4
     exact ⟨_,_,fun k=>by rw [A0 h1,A0 h3,A0 h5],h6⟩
    ·split at h
     ·obtain ⟨h3,h4⟩:=Ac h; obtain ⟨h5,h6⟩:=Ac h4
      exact ⟨_,_,fun k=>by rw [A0 h1,A0 h3,A0 h5],h6⟩
     ·cases h
   ·split at h
    ·split at h
     ·obtain ⟨h3,h4⟩:=Ac h; obtain ⟨h5,h6⟩:=Ac h4
      exact ⟨_,_,fun k=>by rw [A0 h1,A0 h3,A0 h5],h6⟩
     ·cases h
    ·cases h
   ·cases h
  ·split at h
   ·split at h
    ·obtain ⟨h3,h4⟩:=Ac h; obtain ⟨h5,h6⟩:=Ac h4
     exact ⟨_,_,fun k=>by rw [A0 h1,A0 h3,A0 h5],h6⟩
    ·cases h
   ·cases h
  ·cases h
 ·cases h
theorem Nb {new:Nat} {t t2:TypeId} {x:V} {m:Int} {k:V->Upd->Option β} (h:E3 P bl new t t2 x m k=some r) : ∃ v us,(∀ {γ:Type} (k:V->Upd->Option γ),E3 P bl new t t2 x m k=k v us)/\k v us=some r:=by
 unfold E3 at h ⊢
 split at h
 ·split at h
  ·split at h
   ·split at h
    ·split at h
     ·split at h
      ·obtain ⟨h3,h4⟩:=Ac h; obtain ⟨h5,h6⟩:=Ac h4
       exact ⟨_,_,fun k=>by rw [A0 h3,A0 h5],h6⟩
      ·cases h
     ·cases h
    ·cases h
   ·cases h
  ·cases h
 ·cases h
theorem PV {new f:Nat} {args:List V} {k:V->Upd->Option β} (h:Hm Γ bl new f args k=some r) : ∃ v us,(∀ {γ:Type} (k:V->Upd->Option γ),Hm Γ bl new f args k=k v us)/\k v us=some r:=by
 unfold Hm at h ⊢
 split at h
 ·cases h
 ·split at h
  ·cases h
  ·dsimp only at h
   split at h
   ·rename_i bs0 hmap hdis
    obtain ⟨q,h1,h2⟩:=Br.k_some h
    split at h2
    ·rename_i hq
     exact ⟨_,_,fun k=>by dsimp only; rw [hmap,hdis]; dsimp only; rw [Br.k_mk h1,hq],h2⟩
    ·cases h2
   ·cases h
theorem Lr {new:Nat} {op:Builtin} {ts:Array TypeId} {vs:List V} {k:V->Upd->Option β} (h:Ew P bl new op ts vs k=some r) : ∃ v us,(∀ {γ:Type} (k:V->Upd->Option γ),Ew P bl new op ts vs k=k v us)/\k v us=some r:=by
 unfold Ew at h ⊢
 split at h
 ·split at h
  ·obtain ⟨n,h1,h2⟩:=QB h
   exact ⟨_,_,fun k=>h1 _,h2⟩
  ·cases h
 ·split at h
  ·exact Nb h
  ·exact Nc h
  ·cases h
 ·split at h
  ·split at h
   ·split at h
    ·split at h
     ·obtain ⟨h3,h4⟩:=Ac h
      exact ⟨_,_,fun k=>A0 h3,h4⟩
     ·cases h
    ·cases h
   ·cases h
  ·cases h
 ·unfold FN at h ⊢
  split at h
  ·exact ⟨_,_,fun k=>rfl,h⟩
  ·cases h
 ·unfold FN at h ⊢
  split at h
  ·exact ⟨_,_,fun k=>rfl,h⟩
  ·cases h
 ·cases h


theorem Rs {new:Nat} {o:Oper} {k:V->Upd->Option β} (h:opK P Γ sl bl new o k=some r) : ∃ v us,(∀ {γ:Type} (k:V->Upd->Option γ),opK P Γ sl bl new o k=k v us)/\k v us=some r:=by
 cases ho:o.op with
 | move x=>simp only [opK,ho] at h ⊢; exact ⟨_,_,fun k=>rfl,h⟩
 | assign x=>
  simp only [opK,ho] at h ⊢
  split at h
  ·split at h
   ·exact ⟨_,_,fun k=>rfl,h⟩
   ·cases h
  ·exact ⟨_,_,fun k=>rfl,h⟩
  ·exact ⟨_,_,fun k=>rfl,h⟩
 | pick c x y=>
  simp only [opK,ho] at h ⊢
  split at h
  ·rename_i t _
   cases t with
   | true=>exact ⟨_,_,fun k=>rfl,h⟩
   | false=>exact ⟨_,_,fun k=>rfl,h⟩
  ·cases h
 | alloc t=>
  simp only [opK,ho] at h ⊢
  split at h
  ·exact ⟨_,_,fun k=>rfl,h⟩
  ·cases h
 | box t v=>
  simp only [opK,ho] at h ⊢
  split at h
  ·cases h
  ·exact ⟨_,_,fun k=>rfl,h⟩
 | build t parts=>
  simp only [opK,ho] at h ⊢
  split at h
  ·exact ⟨_,_,fun k=>rfl,h⟩
  ·cases h
 | buildSlice t n parts=>
  simp only [opK,ho] at h ⊢
  split at h
  ·split at h
   ·split at h
    ·split at h
     ·split at h
      ·obtain ⟨h1,h2⟩:=Ac h
       exact ⟨_,_,fun k=>A0 h1,h2⟩
      split at h
      ·split at h
       ·obtain ⟨h1,h2⟩:=Ac h
        exact ⟨_,_,fun k=>A0 h1,h2⟩
       ·cases h
      ·cases h
     ·cases h
    ·cases h
   ·cases h
  ·cases h
 | load t x=>
  simp only [opK,ho] at h ⊢
  exact P3 h
 | store t x y=>
  simp only [opK,ho] at h ⊢
  obtain ⟨v,h1,h2⟩:=Nu h
  exact ⟨_,_,fun k=>h1 _,h2⟩
 | nilCheck x=>
  simp only [opK,ho] at h ⊢
  split at h<;>first
   | (cases h; done)
   | exact ⟨_,_,fun k=>rfl,h⟩
 | binOp op t x y t2=>
  simp only [opK,ho] at h ⊢
  obtain ⟨v,h1,h2⟩:=QZ h
  exact ⟨_,_,fun k=>h1 _,h2⟩
 | unOp op t x=>
  simp only [opK,ho] at h ⊢
  obtain ⟨v,h1,h2⟩:=Rf h
  exact ⟨_,_,fun k=>h1 _,h2⟩
 | convert s d x=>
  simp only [opK,ho] at h ⊢
  split at h
  ·exact ⟨_,_,fun k=>rfl,h⟩
  ·exact ⟨_,_,fun k=>rfl,h⟩
  ·split at h
   ·split at h
    ·exact ⟨_,_,fun k=>rfl,h⟩
    ·cases h
   ·cases h
  ·cases h
 | makeFunc fn first cap=>
  cases fn with
  | func f=>simp only [opK,ho] at h ⊢; exact ⟨_,_,fun k=>rfl,h⟩
  | _=>simp only [opK,ho] at h; cases h
 | makeSlice t n c=>
  simp only [opK,ho] at h ⊢
  split at h
  ·split at h
   ·split at h
    ·obtain ⟨h1,h2⟩:=Ac h; obtain ⟨h3,h4⟩:=Ac h2
     exact ⟨_,_,fun k=>by rw [A0 h1]; exact A0 h3,h4⟩
    ·cases h
   ·cases h
  ·cases h
 | slice t x lo hi mx=>
  cases mx with
  | some m=>
   cases lo with
   | none=>simp only [opK,ho] at h; cases h
   | some lo=>
    cases hi with
    | none=>simp only [opK,ho] at h; cases h
    | some hi=>
     simp only [opK,ho] at h ⊢
     split at h
     ·split at h
      ·obtain ⟨h3,h4⟩:=Ac h; obtain ⟨h5,h6⟩:=Ac h4
       exact ⟨_,_,fun k=>by rw [A0 h3,A0 h5],h6⟩
      ·obtain ⟨h3,h4⟩:=Ac h; obtain ⟨h5,h6⟩:=Ac h4
       exact ⟨_,_,fun k=>by rw [A0 h3,A0 h5],h6⟩
      ·cases h
     ·cases h
  | none=>
   simp only [opK,ho] at h ⊢
   split at h
   ·obtain ⟨v,h1,h2⟩:=Nw h
    exact ⟨_,_,fun k=>h1 _,h2⟩
   ·cases h
 | fieldAddr s x f=>
  simp only [opK,ho] at h ⊢
  split at h
  ·obtain ⟨h1,h⟩:=Ac h
   split at h<;>first
    | (cases h; done)
    | exact ⟨_,_,fun k=>A0 h1,h⟩
  ·cases h
 | field s x f=>
  simp only [opK,ho] at h ⊢
  split at h
  ·obtain ⟨v,h1,h2⟩:=D8 h
   exact ⟨_,_,fun k=>h1 _,h2⟩
  ·cases h
 | indexAddr t x ix=>
  simp only [opK,ho] at h ⊢
  split at h
  ·obtain ⟨v,h1,h2⟩:=MT h
   exact ⟨_,_,fun k=>h1 _,h2⟩
  ·obtain ⟨h1,h2⟩:=Ac h; obtain ⟨h3,h4⟩:=Ac h2
   exact ⟨_,_,fun k=>by rw [A0 h1]; exact A0 h3,h4⟩
  ·cases h
 | index t x ix=>
  simp only [opK,ho] at h ⊢
  split at h
  ·obtain ⟨h1,h2⟩:=Ac h; obtain ⟨z,h3,h4⟩:=A5 h2
   exact ⟨_,_,fun k=>by rw [A0 h1]; exact Ck h3,h4⟩
  ·obtain ⟨h1,h2⟩:=Ac h; obtain ⟨h3,h4⟩:=Ac h2
   obtain ⟨v,h5,h6⟩:=D8 h4
   exact ⟨_,_,fun k=>by rw [A0 h1,A0 h3]; exact h5 _,h6⟩
  ·cases h
 | makeMap t rv=>
  cases rv with
  | some x=>simp only [opK,ho] at h; cases h
  | none=>
   simp only [opK,ho] at h ⊢
   split at h
   ·exact ⟨_,_,fun k=>rfl,h⟩
   ·cases h
 | lookup t m x ok=>
  simp only [opK,ho] at h ⊢
  split at h
  ·exact ⟨_,_,fun k=>rfl,h⟩
  ·cases h
 | mapUpdate t m x v=>
  simp only [opK,ho] at h ⊢
  split at h
  ·exact ⟨_,_,fun k=>rfl,h⟩
  ·cases h
 | extract x j=>
  simp only [opK,ho] at h ⊢
  split at h
  ·obtain ⟨z,h3,h4⟩:=A5 h
   exact ⟨_,_,fun k=>Ck h3,h4⟩
  ·cases h
 | call c=>
  cases hb:c.callee with
  | builtin b=>simp only [opK,ho,hb] at h ⊢; exact Lr h
  | invoke r m=>simp only [opK,ho,hb] at h; cases h
  | value f=>
   simp only [opK,ho,hb] at h ⊢
   split at h
   ·exact PV h
   ·cases h
 | _=>simp only [opK,ho] at h; cases h
end
end Go.Proofs.YthbecdipboideaaDoor.Den
/- One operation of the model does what the machine's does. -/
namespace Go.Proofs.YthbecdipboideaaDoor.Den

section
variable {P:Program} {Γ:FuncId->Option Ent} {E:Env} {sl:List V} {bl blr:Nat->Option Blk} {fr:Nat->Prop} {a:Act} {w:World}

theorem OpOk.wp {new:Nat} {o:Oper} {v:V} {us:Upd} {K:Act->World->Prop} {Q:Exit->Act->World->Prop} (h:OpOk P E sl bl fr new a w o v us) (hK : ∀ a' w',Sim E (Do sl o.dst v) (Av bl us) (fun j=>fr j/\(j<new\/new+16<=j)) a' w'->K a' w'):o.wp P a w K Q:=by
 obtain ⟨nx,w',R',μ',u,h1,h2,h3,h4⟩:=h
 unfold Oper.wp
 rw [h1]
 rcases h2 with rfl | ⟨rfl,rfl⟩
 ·exact hK _ _ ⟨R',μ',h3.put o.dst h4⟩
 ·exact hK _ _ ⟨R',μ',h3.put o.dst h4⟩

theorem NY (hG:Knows P Γ) {new:Nat} {o:Oper} {v:V} {us:Upd} {K:Act->World->Prop} {Q:Exit->Act->World->Prop} (h:Sim E sl bl fr a w) (hs : ∀ id B,blr id=some B->bl id=some B) (hf : ∀ c,c<16->fr (new+c)) (hk:opK P Γ sl blr new o mk2=some (v,us))
  (hK : ∀ a' w',Sim E (Do sl o.dst v) (Av bl us) (fun j=>fr j/\(j<new\/new+16<=j)) a' w'->K a' w'):o.wp P a w K Q:=by
 obtain ⟨R,μ,h⟩:=h
 cases ho:o.op with
 | move x=>exact (Pu h ho hk).wp hK
 | assign x=>exact (M6 h hf ho hk).wp hK
 | pick c x y=>exact (Pt h ho hk).wp hK
 | alloc t=>exact (Od h hf ho hk).wp hK
 | box t v=>exact (Q6 h hf ho hk).wp hK
 | build t parts=>exact (Oc h ho hk).wp hK
 | buildSlice t n parts=>exact (Hw h hs hf ho hk).wp hK
 | load t x=>exact (Pv h hs hf ho hk).wp hK
 | store t x y=>exact (NX h hs hf ho hk).wp hK
 | nilCheck x=>exact (Jz h ho hk).wp hK
 | binOp op t x y t2=>exact (Q7 h hs ho hk).wp hK
 | unOp op t x=>exact (Rr h ho hk).wp hK
 | convert s d x=>exact (KD h hs ho hk).wp hK
 | makeFunc fn first cap=>
  cases fn with
  | func f=>exact (J0 h ho hk).wp hK
  | _=>simp only [opK,ho] at hk; cases hk
 | makeSlice t n c=>exact (Iw h hf ho hk).wp hK
 | slice t x lo hi mx=>
  cases mx with
  | some m=>
   cases lo with
   | none=>simp only [opK,ho] at hk; cases hk
   | some lo=>
    cases hi with
    | none=>simp only [opK,ho] at hk; cases hk
    | some hi=>exact (M4 h ho hk).wp hK
  | none=>exact (NZ h hs ho hk).wp hK
 | fieldAddr s x f=>exact (Iy h ho hk).wp hK
 | field s x f=>exact (Ob h ho hk).wp hK
 | indexAddr t x ix=>exact (Ix h hs ho hk).wp hK
 | index t x ix=>exact (Oa h ho hk).wp hK
 | extract x j=>exact (KC h ho hk).wp hK
 | makeMap t rv=>
  cases rv with
  | none=>exact (KB h hf ho hk).wp hK
  | some x=>simp only [opK,ho] at hk; cases hk
 | lookup t m x ok=>exact (M5 h hs ho hk).wp hK
 | mapUpdate t m x v=>exact (Iv h hs ho hk).wp hK
 | call c=>
  cases hb:c.callee with
  | builtin b=>exact (KE h hs hf ho hb hk).wp hK
  | invoke r m=>simp only [opK,ho,hb] at hk; cases hk
  | value f=>
   have hfv:=Ay h f
   have hargs:=Ie (args:=c.args) h
   simp only [opK,ho,hb] at hk
   split at hk
   ·rename_i g first cap e
    rw [e] at hfv
    generalize huf:a.eval f=uf at hfv
    cases hfv with
    | fn _ _ _ ua uc h1 h2 h3 h4=>
    have hr:Reps w R μ (first++c.args.toList.map (opd sl)++cap) (ua.toList++(c.args.map a.eval).toList++uc.toList):=
     (Reps.append ⟨by simpa using h1,fun j v u hv hu=>h3 j v u hv (by simpa using hu)⟩ hargs).append ⟨by simpa using h2,fun j v u hv hu=>h4 j v u hv (by simpa using hu)⟩
    have hcall:=Lq hG h hs hf hr hk
    obtain ⟨ent,hent⟩ : ∃ ent,Γ g=some ent:=by
     unfold Hm at hk
     cases hg:Γ g with
     | none=>rw [hg] at hk; cases hk
     | some ent=>exact ⟨ent,rfl⟩
    have hrun:(execOp a.eval o).run P w = .ok (.enter g (ua++c.args.map a.eval++uc)) w:=by
     simp only [execOp,ho,resolve,hb,huf,Deferred.ofValue,Sem.run_bind,Sem.run_pure,Result.andThen_ok,invoke]
     exact hG.enters g ent hent _ w
    unfold Oper.wp
    rw [hrun]
    have e2:(ua.toList++(c.args.map a.eval).toList++uc.toList).toArray=ua++c.args.map a.eval++uc:=by apply Array.ext'; simp
    rw [e2] at hcall
    refine hcall.mono ?_
    rintro _ w' ⟨u,R'',μ'',rfl,g1,g2⟩
    exact hK _ _ ⟨R'',μ'',g1.put o.dst g2⟩
   ·cases hk
 | _=>simp only [opK,ho] at hk; cases hk

theorem K0 {o:Oper} (h:Sim E sl bl fr a w):Sim E (Do sl o.dst (.tup [])) bl fr (a.put o.dst undef) w:=by
 obtain ⟨R,μ,h⟩:=h
 exact ⟨R,μ,h.put o.dst (.tup [] #[] rfl (by simp))⟩

theorem M0 {T:List Nat} : ∀ id B,GJ bl T id=some B->bl id=some B:=by
 intro id B h
 unfold GJ at h
 split at h
 ·exact h
 ·cases h

theorem MQ {ops:Array Oper} {g t:Nat} {vs:List V} (h:Sim E sl bl fr a w) (hd:(ops[g]?).bind (·.dst)=some t) (hb:sl.getD t .unk = .tup vs):yielded ops a.tmps g=none:=by
 obtain ⟨R,μ,h⟩:=h
 have ht:t<sl.length:=by
  rcases Nat.lt_or_ge t sl.length with h1 | h1
  ·exact h1
  ·simp [getD,getElem?_eq_none h1] at hb
 have ht':t<a.tmps.size:=by rw [h.size]; exact ht
 have hr:=h.slot t sl[t] a.tmps[t] (by simp [ht]) (by simp [ht'])
 have he:sl[t] = .tup vs:=by simpa [getD,ht] using hb
 rw [he] at hr
 unfold yielded
 rw [hd]
 simp only [bind_some]
 rw [show a.tmps[t]? = some a.tmps[t] by simp [ht']]
 generalize a.tmps[t]=u at hr
 cases hr
 rfl
theorem JZ {ops:Array Oper} {g t:Nat} {c:Bool} (h:Sim E sl bl fr a w) (hd:(ops[g]?).bind (·.dst)=some t) (hb:sl.getD t .unk = .b c):yielded ops a.tmps g=some c:=by
 obtain ⟨R,μ,h⟩:=h
 have ht:t<sl.length:=by
  rcases Nat.lt_or_ge t sl.length with h1 | h1
  ·exact h1
  ·simp [getD,getElem?_eq_none h1] at hb
 have ht':t<a.tmps.size:=by rw [h.size]; exact ht
 have hr:=h.slot t sl[t] a.tmps[t] (by simp [ht]) (by simp [ht'])
 have he:sl[t] = .b c:=by simpa [getD,ht] using hb
 rw [he] at hr
 unfold yielded
 rw [hd]
 simp only [bind_some]
 rw [show a.tmps[t]? = some a.tmps[t] by simp [ht']]
 generalize a.tmps[t]=u at hr
 cases hr
 rfl
theorem Ny {t:Nat} {v:V} (h:sl.getD t .unk=v) (_hv:v≠.unk):sl.set t v=sl:=by
 apply List.ext_getElem?
 intro i
 rw [List.getElem?_set]
 split
 ·rename_i e; subst e
  split
  ·rename_i ht
   simp [getD,ht] at h
   simp [ht,h]
  ·rename_i ht; simp [getElem?_eq_none (Nat.le_of_not_lt ht)]
 ·rfl
end
end Go.Proofs.YthbecdipboideaaDoor.Den
