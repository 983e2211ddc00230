/- The abstract machine: operations and calls are sound. -/
import Derived.Test.YtcjnmdcagfgjoaaGreatDoorDen1
import Derived.IntWalk
/- Stores, literals, makes. -/
namespace Go.Proofs.YtcjnmdcagfgjoaaGreatDoor.Den

section
variable {P : Program} {E : Env} {R : Nat → Prop} {μ : Nat → Option RB} {sl : List V} {bl blr : Nat → Option Blk} {fr : Nat → Prop} {a : Act} {w : World}

theorem chunk_sound {c : Cd} : ∀ (n : Nat) (vs : List V) (l : List c.den) (us : List Value), Reps w R μ vs us → chunk c n vs = some l → l.length = n ∧ us.length = n * c.size ∧ RAt w R μ (fun m => us[m]?) c l
 | 0, [], l, us, hr, h => by simp [chunk] at h; subst h; have := hr.nil_inv; subst this; exact ⟨rfl, by simp, RAt.nil _ _⟩
 | 0, v :: vs, l, us, hr, h => by simp [chunk] at h
 | n + 1, vs, l, us, hr, h => by
  unfold chunk at h
  split at h
  ·rename_i z r h1
   split at h
   ·rename_i zs h2
    simp at h; subst h
    obtain ⟨us1, us2, rfl, g1, g2, g3⟩ := dec_sound c vs z r us hr h1
    obtain ⟨e1, e2, e3⟩ := chunk_sound n r zs us2 g3 h2
    refine ⟨by simp [e1], by simp [g1, e2, Nat.add_mul]; omega, fun i z' j v hz hv => ?_⟩
    have hj : j < c.size := by have := (List.getElem?_eq_some_iff.1 hv).1; rwa [enc_length] at this
    cases i with
    | zero =>
     simp at hz; subst hz
     have hju : j < us1.length := by omega
     refine ⟨us1[j], by simp [List.getElem?_append_left hju, hju], g2.2 j v _ hv (by simp [hju])⟩
    | succ i =>
     simp at hz
     obtain ⟨u, h3, h4⟩ := e3 i z' j v hz hv
     refine ⟨u, ?_, h4⟩
     dsimp only at h3 ⊢
     rw [List.getElem?_append_right (by rw [g1, Nat.add_mul]; omega), g1, show (i + 1) * c.size + j - c.size = i * c.size + j by rw [Nat.add_mul]; omega]
     exact h3
   ·cases h
  ·cases h

theorem foldl_set (off : Nat) : ∀ (us : List Value) (i : Nat) (cells : Array Value), ((us.zipIdx i).foldl (fun cs (x : Value × Nat) => cs.setIfInBounds (off + x.2) x.1) cells).toList = setCells cells.toList (off + i) us
 | [], i, cells => rfl
 | u :: us, i, cells => by
  simp only [List.zipIdx_cons, List.foldl_cons, setCells]
  rw [foldl_set off us (i + 1)]
  simp [Nat.add_assoc]
theorem fill_sound {place : Nat → Option (Nat × Nat)} : ∀ (ps : List (Nat × V)) (qs : List (Nat × Value)) (cells cs : List V) (ucells : Array Value), ps.map (·.1) = qs.map (·.1) → Reps w R μ (ps.map (·.2)) (qs.map (·.2)) → Reps w R μ cells ucells.toList → fillV place cells ps = some cs →
  ∃ us, Instr.fill place ucells qs = some us ∧ Reps w R μ cs us.toList
 | [], qs, cells, cs, ucells, h1, h2, h3, h => by
  cases qs with
  | nil => simp [fillV] at h; subst h; exact ⟨ucells, rfl, h3⟩
  | cons q qs => simp at h1
 | (j, v) :: ps, qs, cells, cs, ucells, h1, h2, h3, h => by
  cases qs with
  | nil => simp at h1
  | cons q qs =>
   obtain ⟨j', u⟩ := q
   simp at h1
   obtain ⟨rfl, h1⟩ := h1
   unfold fillV at h
   split at h
   ·cases h
   ·rename_i off size hp
    split at h
    ·rename_i hb
     simp only [Bool.and_eq_true] at hb
     obtain ⟨hk, hb⟩ := hb
     have e1 := Nat.eq_of_beq_eq_true hb.1
     have e2 := Nat.le_of_ble_eq_true hb.2
     have hv : VRep w R μ v u := h2.2 0 v u (by simp) (by simp)
     have hvc := hv.cells (by intro e; subst e; cases hk)
     have e3 : u.cells.size = v.cells.length := by have := hvc.1; simpa using this
     have e4 : ucells.size = cells.length := by have := h3.1; simpa using this
     have hset := h3.set hvc (o := off) e2
     have e5 : ((u.cells.zipIdx.foldl (fun cs (x : Value × Nat) => cs.setIfInBounds (off + x.2) x.1) ucells)).toList = setCells ucells.toList off u.cells.toList := by
      rw [← Array.foldl_toList]
      have := foldl_set off u.cells.toList 0 ucells
      simpa using this
     have ih := fill_sound ps qs (setCells cells off v.cells) cs (u.cells.zipIdx.foldl (fun cs (x : Value × Nat) => cs.setIfInBounds (off + x.2) x.1) ucells) h1
      ⟨by have := h2.1; simpa using this, fun j v u h5 h6 => h2.2 (j + 1) v u (by simpa using h5) (by simpa using h6)⟩ (by rw [e5]; exact hset) h
     obtain ⟨us, h7, h8⟩ := ih
     refine ⟨us, ?_, h8⟩
     unfold Instr.fill
     rw [hp]
     dsimp only
     rw [if_neg (by simp [e3, e4, e1]; omega)]
     exact h7
    ·cases h
end
end Go.Proofs.YtcjnmdcagfgjoaaGreatDoor.Den
/- Stores, literals, makes, appends. -/
namespace Go.Proofs.YtcjnmdcagfgjoaaGreatDoor.Den

section
variable {P : Program} {E : Env} {R : Nat → Prop} {μ : Nat → Option RB} {sl : List V} {bl blr : Nat → Option Blk} {fr : Nat → Prop} {a : Act} {w : World}

theorem freeze_ids (ids : List Nat) : ∀ p ∈ freeze blr ids, p.1 ∈ ids := by
 intro p hp
 simp only [freeze, List.mem_filterMap] at hp
 obtain ⟨id, h1, h2⟩ := hp
 split at h2
 ·simp at h2; subst h2; exact h1
 ·simp at h2; subst h2; exact h1
 ·cases h2
theorem closeL_ids_row : ∀ (d : Nat) (v v' : V) (ids : List Nat), closeV blr d v = some (v', ids) → ∀ id ∈ ids, ∃ B, blr id = some B ∧ ∀ kc vc l, B ≠ .mp kc vc l
 | 0, v, v', ids, h => by simp [closeV] at h
 | d + 1, v, v', ids, h => by
  have : ∀ (vs vs' : List V) (ids : List Nat), mapO (closeV blr d) vs = some (vs', ids) → ∀ id ∈ ids, ∃ B, blr id = some B ∧ ∀ kc vc l, B ≠ .mp kc vc l := by
   intro vs
   induction vs with
   | nil => intro vs' ids h; simp [mapO] at h; obtain ⟨_, rfl⟩ := h; simp
   | cons v vs ih =>
    intro vs' ids h
    unfold mapO at h
    split at h
    ·rename_i v1 a1 hv1
     split at h
     ·rename_i vs1 b1 hvs1
      simp at h; obtain ⟨_, rfl⟩ := h
      intro id hi
      rcases List.mem_append.1 hi with hi | hi
      ·exact closeL_ids_row d v v1 a1 hv1 id hi
      ·exact ih vs1 b1 hvs1 id hi
     ·cases h
    ·cases h
  unfold closeV at h
  split at h
  ·split at h
   ·rename_i ro nl c l hb
    simp at h; obtain ⟨_, rfl⟩ := h
    intro id' hi; simp at hi; subst hi
    exact ⟨_, hb, by simp⟩
   ·cases h
  ·split at h
   ·rename_i cs l ids' hl
    simp at h; obtain ⟨_, rfl⟩ := h
    exact this _ _ _ hl
   ·cases h
  ·split at h
   ·rename_i cs hb
    split at h
    ·rename_i l ids' hl
     split at h
     ·simp at h; obtain ⟨_, rfl⟩ := h
      intro id' hi
      rcases List.mem_cons.1 hi with rfl | hi
      ·exact ⟨_, hb, by simp⟩
      ·exact this _ _ _ hl id' hi
     ·simp at h; obtain ⟨_, rfl⟩ := h; simp
    ·simp at h; obtain ⟨_, rfl⟩ := h; simp
   ·simp at h; obtain ⟨_, rfl⟩ := h; simp
  ·simp at h; obtain ⟨_, rfl⟩ := h; simp
theorem mapO_ids_row {d : Nat} : ∀ (vs vs' : List V) (ids : List Nat), mapO (closeV blr d) vs = some (vs', ids) → ∀ id ∈ ids, ∃ B, blr id = some B ∧ ∀ kc vc l, B ≠ .mp kc vc l := by
 intro vs
 induction vs with
 | nil => intro vs' ids h; simp [mapO] at h; obtain ⟨_, rfl⟩ := h; simp
 | cons v vs ih =>
  intro vs' ids h
  unfold mapO at h
  split at h
  ·rename_i v1 a1 hv1
   split at h
   ·rename_i vs1 b1 hvs1
    simp at h; obtain ⟨_, rfl⟩ := h
    intro id hi
    rcases List.mem_append.1 hi with hi | hi
    ·exact closeL_ids_row d v v1 a1 hv1 id hi
    ·exact ih vs1 b1 hvs1 id hi
   ·cases h
  ·cases h

theorem closeL_freeze {cs cs' : List V} {ids : List Nat} {us : List Value} (h : SimAt E R μ sl bl fr a w) (hs : ∀ id B, blr id = some B → bl id = some B) (hr : Reps w R μ cs us) (hc : closeL blr cs = some (cs', ids)) :
  ∃ R', SimAt E R' μ sl (applyU bl (freeze blr ids)) fr a w ∧ (∀ x, R x → R' x) ∧ Reps w R' μ cs' us := by
 obtain ⟨R', h1, h2, h3⟩ := freeze_sound blr ids R bl h (fun id ro nl c l _ hb => ⟨ro, hs _ _ hb⟩) (fun id cs _ hb => .inl (hs _ _ hb))
 have hrow := mapO_ids_row cs cs' ids hc
 refine ⟨R', h1, h2, mapO_sound (fun v v' ids u hv hf hi => closeV_sound (h.mem.sub hs) h2 3 v v' ids u hv hf hi) cs cs' ids us hr hc (fun id hi rb x m1 r1 => h3 id hi (hrow id hi) rb x m1 r1)⟩

theorem storeEl_sound {t : TypeId} {id i o : Nat} {nl : Option Bool} {c : Cd} {l : List c.den} {z z' : c.den} {cs : List V} {ua u : Value} (h : SimAt E R μ sl bl fr a w) (hb : bl id = some (.row false nl c l)) (ha : VRep w R μ (.el id i o) ua) (hz : l[i]? = some z)
  (hr : Reps w R μ cs u.cells.toList) (hsz : okSz P t cs.length = true) (ho : o + cs.length ≤ c.size) (hd : dec1 c (setCells (enc c z) o cs) = some z') (h1 : ∀ u' ∈ u.cells.toList, u'.oneCell' = true) :
  ∃ w', (Instr.storeAt t ua u).run P w = .ok () w' ∧ SimAt E R μ sl (putB bl id (some (.row false nl c (l.set i z')))) fr a w' := by
 obtain ⟨rb, hmu, hrep⟩ := h.mem.blk id _ hb
 cases ha with
 | el _ _ _ b off k cap len hm =>
 rw [hm] at hmu; simp at hmu; subst hmu
 cases hrep with
 | row _ _ _ _ _ _ _ _ _ us e hk hh g1 g2 g3 g4 g5 =>
 subst hk
 obtain ⟨it, hi, hsz⟩ := okSz_spec hsz
 have hil : i < l.length := (List.getElem?_eq_some_iff.1 hz).1
 have hlen : u.cells.toList.length = cs.length := hr.1
 have hcap : (i + 1) * c.size ≤ cap * c.size := Nat.mul_le_mul_right _ (by omega)
 rw [Nat.add_mul] at hcap
 have hfit : off + (i * c.size + o) + 0 + u.cells.toList.length ≤ us.size := by omega
 have hst := run_storeCells_at P b (off + (i * c.size + o)) e u.cells.toList 0 us w hh hfit h1
 simp only [Nat.add_zero] at hst
 have e2 : us.toList.take (off + (i * c.size + o)) ++ u.cells.toList ++ us.toList.drop (off + (i * c.size + o) + u.cells.toList.length) = setCells us.toList (off + (i * c.size + o)) u.cells.toList := (setCells_eq _ _ _ (by simpa using hfit)).symm
 rw [e2] at hst
 have hw : ∀ k, R k → (w.setRow b (setCells us.toList (off + (i * c.size + o)) u.cells.toList).toArray).heap[k]? = w.heap[k]? := fun k hR => setRow_other _ _ _ _ (fun e => by subst e; exact h.mem.sep id _ _ k hb rfl hm rfl hR)
 refine ⟨w.setRow b (setCells us.toList (off + (i * c.size + o)) u.cells.toList).toArray, ?_, h.setBlk hb rfl hm rfl (setRow_size _ _ _) (fun k hk => setRow_other _ _ _ _ hk) rfl rfl rfl (B' := .row false nl c (l.set i z')) (.row b off c.size cap len false nl c (l.set i z') _ e rfl (setRow_heap w b us _ e _ hh) (by simpa using g1) g2 (by simpa [setCells_length] using g3) (fun i' z2 j v hz2 hv => ?_) (by simp))⟩
 ·have e1 : ¬ (u.cells.size ≠ szT P t) := by rw [← hsz]; simpa using hlen
  simp only [Instr.storeAt, Instr.sureAddr, Sem.run_bind, Sem.run_pure, Result.andThen_ok, storeVar, run_sz hi, e1, if_false, hst]
 ·have hj : j < c.size := by have := (List.getElem?_eq_some_iff.1 hv).1; rwa [enc_length] at this
  by_cases e3 : i' = i
  ·subst e3
   rw [List.getElem?_set_self hil] at hz2
   simp at hz2; subst hz2
   -- the element's own cells, ahead and behind
   have hold : Reps w R μ (enc c z) ((us.toList.drop (off + i' * c.size)).take c.size) := by
    refine ⟨by rw [enc_length]; simp; omega, fun j v u h5 h6 => ?_⟩
    have hj : j < c.size := by have := (List.getElem?_eq_some_iff.1 h5).1; rwa [enc_length] at this
    obtain ⟨u2, h7, h8⟩ := g4 i' z j v hz h5
    rw [List.getElem?_take, if_pos hj, List.getElem?_drop] at h6
    rw [show off + i' * c.size + j = off + (i' * c.size + j) by omega] at h6
    simp at h6
    rw [h7] at h6; simp at h6; subst h6; exact h8
   have hnew := dec1_sound (hold.set hr (by rw [enc_length]; exact ho)) hd
   have hju : j < (setCells ((us.toList.drop (off + i' * c.size)).take c.size) o u.cells.toList).length := by rw [hnew.1, enc_length]; exact hj
   refine ⟨_, ?_, (hnew.2 j v _ hv (List.getElem?_eq_getElem hju)).mono hw (fun _ h => h) (fun _ _ h => h)⟩
   rw [← List.getElem?_eq_getElem hju]
   simp only [List.getElem?_toArray]
   rw [setCells_get _ _ _ _ (by simpa using hfit), setCells_get _ _ _ _ (by rw [hlen]; simp; omega)]
   by_cases h9 : o ≤ j ∧ j < o + u.cells.toList.length
   ·rw [if_pos h9, if_pos (by omega)]; congr 1; omega
   ·rw [if_neg h9, if_neg (by omega), List.getElem?_take, if_pos hj, List.getElem?_drop]; congr 1; omega
  ·rw [List.getElem?_set_ne (Ne.symm e3)] at hz2
   obtain ⟨u2, h7, h8⟩ := g4 i' z2 j v hz2 hv
   refine ⟨u2, ?_, h8.mono hw (fun _ h => h) (fun _ _ h => h)⟩
   simp only [List.getElem?_toArray]
   rw [setCells_get _ _ _ _ (by simpa using hfit), if_neg]
   ·simpa using h7
   ·intro ⟨h9, h10⟩
    rcases Nat.lt_or_gt_of_ne e3 with h11 | h11
    ·have : (i' + 1) * c.size ≤ i * c.size := Nat.mul_le_mul_right _ h11
     rw [Nat.add_mul] at this; omega
    ·have : (i + 1) * c.size ≤ i' * c.size := Nat.mul_le_mul_right _ h11
     rw [Nat.add_mul] at this; omega

theorem store_sound {new : Nat} {t : TypeId} {x v : V} {ua u : Value} {us : Upd} (h : SimAt E R μ sl bl fr a w) (hs : ∀ id B, blr id = some B → bl id = some B) (hf : ∀ c, c < 16 → fr (new + c)) (ha : VRep w R μ x ua) (hv : VRep w R μ v u) (hk : storeK P blr new t x v some = some us) :
  ∃ w' R' μ', (Instr.storeAt t ua u).run P w = .ok () w' ∧ SimAt E R' μ' sl (applyU bl us) (fun j => fr j ∧ (j < new ∨ new + 16 ≤ j)) a w' := by
 unfold storeK at hk
 split at hk
 ·rename_i id o
  split at hk
  ·rename_i row hb
   dsimp only at hk
   obtain ⟨h1, hk⟩ := ifT_some hk
   simp at hk; subst hk
   simp only [Bool.and_eq_true] at h1
   obtain ⟨⟨h1, h2⟩, h3⟩ := h1
   have h2 := Nat.le_of_ble_eq_true h2
   have hx : v ≠ .unk := by intro e; subst e; simp [V.cells, V.single] at h3
   have hcr := hv.cells hx
   obtain ⟨μ', g1, g2, g3⟩ := openCells_sound (P := P) (t := t) (id := new) h (fun c hc => hf c (by omega)) hcr
   have hb' : applyU bl (openCells P new t v.cells).2 id = some (.box row) := by
    rw [applyU_other]
    ·exact hs _ _ hb
    ·intro p hp e
     have := openCells_ids p hp
     obtain ⟨rb, hmu, _⟩ := h.mem.blk id _ (hs _ _ hb)
     have hfr := h.free (new + (p.1 - new)) (hf _ (by omega))
     rw [show new + (p.1 - new) = id by omega, hmu] at hfr
     cases hfr
   cases ha with
   | ptr _ _ b hm =>
   obtain ⟨w', g4, g5⟩ := storeBox_sound (P := P) (t := t) (o := o) g1 hb' (g3 _ _ hm) g2 h1 h2 (hcr.one h3)
   refine ⟨w', R, μ', g4, ?_⟩
   rw [applyU_append]
   exact g5.fr_mono (fun j hj => ⟨hj.1, by omega⟩)
  ·cases hk
 ·rename_i id i o
  split at hk
  ·rename_i nl c l hb
   split at hk
   ·rename_i cs ids hc
    split at hk
    ·cases hk
    ·rename_i hni
     obtain ⟨z, hz, hk⟩ := ifSome_some hk
     obtain ⟨h1, hk⟩ := ifT_some hk
     simp only [Bool.and_eq_true] at h1
     obtain ⟨⟨h1, h2⟩, h3⟩ := h1
     have h2 := Nat.le_of_ble_eq_true h2
     split at hk
     ·rename_i z' hd
      simp at hk; subst hk
      have hx : v ≠ .unk := by
       intro e; subst e
       simp [V.cells, closeL, mapO, closeV] at hc
       obtain ⟨rfl, _⟩ := hc
       simp [V.single] at h3
      obtain ⟨R', g1, g2, g3⟩ := closeL_freeze h hs (hv.cells hx) hc
      have hb' : applyU bl (freeze blr ids) id = some (.row false nl c l) := by
       rw [applyU_other]
       ·exact hs _ _ hb
       ·intro p hp e
        have := freeze_ids ids p hp
        rw [e] at this
        simp at hni; exact hni this
      obtain ⟨w', g4, g5⟩ := storeEl_sound (P := P) (t := t) g1 hb' (ha.mono (fun _ _ => rfl) g2 (fun _ _ h => h)) hz g3 h1 h2 hd (g3.one h3)
      refine ⟨w', R', μ, g4, ?_⟩
      rw [applyU_append]
      exact g5.fr_mono (fun j hj => hj.1)
     ·cases hk
   ·cases hk
  ·cases hk
 ·cases hk

theorem ofConst_rep (v : Value) : VRep w R μ (ofConst v) v := by
 unfold ofConst
 split
 ·exact .b _
 ·exact .i _ _
 ·rename_i s; have := VRep.s (w := w) (R := R) (μ := μ) s.data.toList; simpa using this
 ·exact .nl
 ·exact .np
 ·rename_i f first cap
  split
  ·rename_i h1 h2
   have e1 : first = #[] := by apply Array.ext'; simpa using h1
   have e2 : cap = #[] := by apply Array.ext'; simpa using h2
   subst e1 e2
   exact .fn f [] [] #[] #[] rfl rfl (by simp) (by simp)
  ·exact .unk _
 ·exact .unk _
theorem ofConst_reps (us : List Value) : Reps w R μ (us.map ofConst) us :=
 ⟨by simp, fun j v u h1 h2 => by rw [List.getElem?_map, h2] at h1; simp at h1; subst h1; exact ofConst_rep u⟩
end
end Go.Proofs.YtcjnmdcagfgjoaaGreatDoor.Den
/- Literals, makes, appends, conversions. -/
namespace Go.Proofs.YtcjnmdcagfgjoaaGreatDoor.Den

section
variable {P : Program} {E : Env} {R : Nat → Prop} {μ : Nat → Option RB} {sl : List V} {bl blr : Nat → Option Blk} {fr : Nat → Prop} {a : Act} {w : World}

theorem build_sound {t : TypeId} {ps : List (Nat × V)} {qs : Array (Nat × Value)} {cs : List V} (h1 : ps.map (·.1) = qs.toList.map (·.1)) (h2 : Reps w R μ (ps.map (·.2)) (qs.toList.map (·.2))) (h : builtV P t ps = some cs) :
  ∃ us, (Instr.build t qs).run P w = .ok (.agg us) w ∧ Reps w R μ cs us.toList := by
 unfold builtV at h
 split at h
 ·rename_i it n e hi hu
  split at h
  ·rename_i z ie hz hie
   obtain ⟨us, h3, h4⟩ := fill_sound (w := w) (R := R) (μ := μ) ps qs.toList _ cs z.cells h1 h2 (ofConst_reps _) h
   exact ⟨us, run_build w t qs us (by unfold Program.built; simp [hi, hu, hz, hie, h3]), h4⟩
  ·cases h
 ·rename_i it fs hi hu
  split at h
  ·rename_i z places hz hp
   obtain ⟨us, h3, h4⟩ := fill_sound (w := w) (R := R) (μ := μ) ps qs.toList _ cs z.cells h1 h2 (ofConst_reps _) h
   exact ⟨us, run_build w t qs us (by unfold Program.built; simp only [hi, hu, hz, hp]; exact h3), h4⟩
  ·cases h
 ·cases h

theorem flat_get {α : Type} (l : List α) : ∀ (n i : Nat), ((List.replicate n ()).flatMap fun _ => l)[i]? = if i < n * l.length then l[i % l.length]? else none
 | 0, i => by simp
 | n + 1, i => by
  rw [List.replicate_succ, List.flatMap_cons, List.getElem?_append]
  by_cases h : i < l.length
  ·rw [if_pos h, if_pos (by rw [Nat.add_mul]; omega), Nat.mod_eq_of_lt h]
  ·rw [if_neg h, flat_get l n (i - l.length)]
   rw [Nat.add_mul, Nat.one_mul]
   by_cases h2 : i < n * l.length + l.length
   ·rw [if_pos (by omega), if_pos h2]
    congr 1
    conv => rhs; rw [show i = (i - l.length) + l.length by omega, Nat.add_mod_right]
   ·rw [if_neg (by omega), if_neg h2]
theorem range_mod (zs : Array Value) (n : Nat) : ((Array.range (n * zs.size)).map fun i => zs[i % zs.size]!).toList = (List.replicate n ()).flatMap fun _ => zs.toList := by
 apply List.ext_getElem?
 intro i
 rw [flat_get]
 simp only [Array.toList_map, Array.toList_range, List.getElem?_map, Array.length_toList]
 by_cases h : i < n * zs.size
 ·rw [if_pos h, List.getElem?_range h]
  have hz : 0 < zs.size := by rcases Nat.eq_zero_or_pos zs.size with e | e; simp [e] at h; exact e
  have := Nat.mod_lt i hz
  simp [this]
 ·rw [if_neg h, List.getElem?_eq_none (by simpa using h)]; rfl

theorem buildSlice_sound {new n : Nat} {t e : TypeId} {ie : TypeInfo} {z : Value} {c : Cd} {ps : List (Nat × V)} {qs : Array (Nat × Value)} {cells cs : List V} {ids : List Nat} {l : List c.den} (h : SimAt E R μ sl bl fr a w) (hs : ∀ id B, blr id = some B → bl id = some B) (hf : ∀ c, c < 16 → fr (new + c))
  (hu : P.underlying t = some (.slice e)) (hi : P.info? e = some ie) (hz : ie.zero = some z) (h1 : ps.map (·.1) = qs.toList.map (·.1)) (h2 : Reps w R μ (ps.map (·.2)) (qs.toList.map (·.2)))
  (hfill : fillV (fun j => some (j * ie.size, ie.size)) ((List.replicate n ()).flatMap fun _ => z.cells.toList.map ofConst) ps = some cells) (hc : closeL blr cells = some (cs, ids)) (hch : chunk c n cs = some l) (hz2 : z.cells.size = ie.size) (hc2 : c.size = ie.size) (hle : n * ie.size ≤ 16777216) (hpos : 0 < ie.size) :
  ∃ u w' R' μ', (Instr.buildSlice t n qs).run P w = .ok u w' ∧ SimAt E R' μ' sl (applyU bl (freeze blr ids ++ [(new, some (.row false (some false) c l))])) (fun j => fr j ∧ (j < new ∨ new + 16 ≤ j)) a w' ∧ VRep w' R' μ' (.ref new 0 n) u := by
 have hbase : Reps w R μ ((List.replicate n ()).flatMap fun _ => z.cells.toList.map ofConst) ((Array.range (n * ie.size)).map fun i => z.cells[i % z.cells.size]!).toList := by
  rw [← hz2, range_mod]
  have : ∀ n, Reps w R μ ((List.replicate n ()).flatMap fun _ => z.cells.toList.map ofConst) ((List.replicate n ()).flatMap fun _ => z.cells.toList) := fun n => by
   induction n with
   | zero => exact .nil
   | succ n ih => simp only [List.replicate_succ, List.flatMap_cons]; exact (ofConst_reps _).append ih
  exact this n
 obtain ⟨us, h3, h4⟩ := fill_sound ps qs.toList _ cells _ h1 h2 hbase hfill
 obtain ⟨R', g1, g2, g3⟩ := closeL_freeze h hs h4 hc
 obtain ⟨e1, e2, e3⟩ := chunk_sound n cs l us.toList g3 hch
 have hmx : n ≤ maxI := by
  have : n * 1 ≤ n * ie.size := Nat.mul_le_mul_left _ hpos
  unfold maxI; omega
 have hrun : (Instr.buildSlice t n qs).run P w = .ok (.slice (some ⟨w.heap.size, 0, none⟩) n n) (w.alloc (.cells us e)) := by
  have hsm : ¬ n * ie.size > 2 ^ 24 := by omega
  by_cases h0 : n * ie.size = 0
  ·have e0 : ((Array.range (n * ie.size)).map fun i => z.cells[i % z.cells.size]!) = #[] := by rw [h0]; simp
   rw [e0] at h3
   simp only [Instr.buildSlice, run_underlying hu, sizeOf, typeInfo, hi, Sem.run_bind, run_program, Sem.run_pure, Result.andThen_ok, hsm, if_false]
   have e1 : ((Array.range 0).map fun i => (#[] : Array Value)[i % (#[] : Array Value).size]!) = #[] := by simp
   simp only [h0, if_true, Sem.run_bind, Sem.run_pure, Result.andThen_ok, e1, h3]
   rfl
  ·simp only [Instr.buildSlice, run_underlying hu, sizeOf, typeInfo, zeroValue, hi, hz, Sem.run_bind, run_program, Sem.run_pure, Result.andThen_ok, hsm, if_false, h0, h3]
   rfl
 have hfr := g1.newRow_sound' (us := us) (l := l) (c := c) (len := n) (nl := some false) n e (hf 0 (by omega)) (by simpa using e3) e1 (Nat.le_refl _) hmx (by simpa using Nat.le_of_eq e2.symm)
 refine ⟨_, _, R', updM μ new (.at w.heap.size 0 c.size n n), hrun, ?_, .ref new 0 n w.heap.size 0 c.size n n ⟨w.heap.size, 0, none⟩ (updM_self _ _ _) (Nat.le_refl _) (by omega) hmx (.inr (by simp))⟩
 rw [applyU_append]
 exact hfr.fr_mono (fun j hj => ⟨hj.1, by omega⟩)

theorem run_zeroValue {t : TypeId} {i : TypeInfo} {z : Value} (hi : P.info? t = some i) (hz : i.zero = some z) (w : World) : (zeroValue t).run P w = .ok z w := by simp [zeroValue, typeInfo, hi, hz]

theorem makeSlice_sound {new : Nat} {t e : TypeId} {ie : TypeInfo} {z : Value} {c : Cd} {zc : c.den} {k1 k2 : IntKind} {L M : Int} (h : SimAt E R μ sl bl fr a w) (hf : ∀ c, c < 16 → fr (new + c))
  (hu : P.underlying t = some (.slice e)) (hi : P.info? e = some ie) (hz : ie.zero = some z) (hd : dec1 c (z.cells.toList.map ofConst) = some zc) (hc : okSz P e c.size = true) (hb : 0 ≤ L ∧ L ≤ M ∧ M * P.bytesOf e ≤ 140737488355328 ∧ M ≤ 9223372036854775807) :
  ∃ u w' μ', (Instr.makeSlice t (.int k1 L) (.int k2 M)).run P w = .ok u w' ∧ SimAt E R μ' sl (applyU bl [(new, some (.row false (some false) c (List.replicate L.toNat zc)))]) (fun j => fr j ∧ (j < new ∨ new + 16 ≤ j)) a w' ∧ VRep w' R μ' (.ref new 0 L.toNat) u := by
 obtain ⟨b1, b2, b3, b4⟩ := hb
 obtain ⟨i', hi', hsz⟩ := okSz_spec hc
 rw [hi] at hi'; simp at hi'; subst hi'
 have hsz' : ie.size = c.size := by rw [hsz]; simp [szT, Program.cellsOf, hi]
 have hby : P.bytesOf e = ie.bytes := by simp [Program.bytesOf, hi]
 have hzc := dec1_sound (w := w) (R := R) (μ := μ) (ofConst_reps z.cells.toList) hd
 have hzs : z.cells.size = c.size := by have := hzc.1; rw [enc_length] at this; simpa using this
 have w1 : IntKind.i64.wrap L = L := IntWalk.i64_in _ (by omega)
 have w2 : IntKind.i64.wrap M = M := IntWalk.i64_in _ (by omega)
 have hbig : ¬ ((ie.bytes : Int) * M > 2 ^ 48) := by rw [hby] at b3; rw [Int.mul_comm]; omega
 have e0 : ((Array.range (M.toNat * c.size)).map fun i => (if M.toNat * c.size = 0 then #[] else z.cells)[i % (if M.toNat * c.size = 0 then #[] else z.cells).size]!) = ((Array.range (M.toNat * z.cells.size)).map fun i => z.cells[i % z.cells.size]!) := by
  by_cases h0 : M.toNat * c.size = 0
  ·rw [hzs]; simp [h0]
  ·rw [if_neg h0, hzs]
 have hrun : (Instr.makeSlice t (.int k1 L) (.int k2 M)).run P w = .ok (.slice (some ⟨w.heap.size, 0, none⟩) L.toNat M.toNat) (w.alloc (.cells ((Array.range (M.toNat * z.cells.size)).map fun i => z.cells[i % z.cells.size]!) e)) := by
  rw [← e0]
  have c1 : ((decide (M < 0) || decide ((ie.bytes : Int) * M > 2 ^ 48)) || decide (L < 0) || decide (L > M)) = false := by
   simp; omega
  by_cases h0 : M.toNat * c.size = 0
  ·simp only [Instr.makeSlice, run_underlying hu, asInt, asIntOf, Sem.run_bind, Sem.run_pure, Result.andThen_ok, typeInfo, hi, run_program, w1, w2, c1]
   simp [run_askRoom, sizeOf, typeInfo, hi, hsz', h0, newRow]
  ·simp only [Instr.makeSlice, run_underlying hu, asInt, asIntOf, Sem.run_bind, Sem.run_pure, Result.andThen_ok, typeInfo, hi, run_program, w1, w2, c1]
   simp [run_askRoom, sizeOf, typeInfo, hi, hsz', h0, newRow, run_zeroValue hi hz]
 have hL : L.toNat ≤ M.toNat := by omega
 have hM : M.toNat ≤ maxI := by unfold maxI; omega
 have hR : RAt w R μ (fun m => ((Array.range (M.toNat * z.cells.size)).map fun i => z.cells[i % z.cells.size]!)[m]?) c (List.replicate L.toNat zc) := by
  intro i z2 j v hz2 hv
  have hi2 : i < L.toNat := by have := (List.getElem?_eq_some_iff.1 hz2).1; simpa using this
  rw [List.getElem?_replicate, if_pos hi2] at hz2
  simp at hz2; subst hz2
  have hj : j < c.size := by have := (List.getElem?_eq_some_iff.1 hv).1; rwa [enc_length] at this
  have hju : j < z.cells.toList.length := by simpa [hzs] using hj
  refine ⟨z.cells.toList[j], ?_, hzc.2 j v _ hv (by simp [hju])⟩
  have := range_mod z.cells M.toNat
  dsimp only
  rw [← Array.getElem?_toList, this, flat_get]
  have hlt : (i + 1) * c.size ≤ M.toNat * c.size := Nat.mul_le_mul_right _ (by omega)
  rw [Nat.add_mul] at hlt
  simp only [Array.length_toList, hzs]
  rw [if_pos (by omega), Nat.mul_comm i, Nat.mul_add_mod, Nat.mod_eq_of_lt hj]
  simp [hju]
 have hfr := h.newRow_sound' (us := (Array.range (M.toNat * z.cells.size)).map fun i => z.cells[i % z.cells.size]!) (l := List.replicate L.toNat zc) (c := c) (len := L.toNat) (nl := some false) M.toNat e (hf 0 (by omega)) hR (by simp) hL hM (by simp [hzs])
 refine ⟨_, _, _, hrun, hfr.fr_mono (fun j hj => ⟨hj.1, by omega⟩), .ref new 0 L.toNat w.heap.size 0 c.size M.toNat L.toNat ⟨w.heap.size, 0, none⟩ (updM_self _ _ _) hL (by omega) hM (.inr (by simp))⟩
end
end Go.Proofs.YtcjnmdcagfgjoaaGreatDoor.Den
/- Appends and conversions. -/
namespace Go.Proofs.YtcjnmdcagfgjoaaGreatDoor.Den

section
variable {P : Program} {E : Env} {R : Nat → Prop} {μ : Nat → Option RB} {sl : List V} {bl blr : Nat → Option Blk} {fr : Nat → Prop} {a : Act} {w : World}

theorem firstCells_some {size n : Nat} {A : Addr} {cap m : Nat} {nc : List Value} (h : nc.length = n * size) (hc : ∀ j, j < nc.length → w.cell? (A.add j) = nc[j]?) : (Builtin.firstCells size n (.slice (some A) m cap)).run P w = .ok nc.toArray w :=
 run_firstCells_some w size n A m cap nc h (fun j v hv => by rw [hc j (List.getElem?_eq_some_iff.1 hv).1]; exact hv)

theorem news_sound {c : Cd} {y : V} {uy : Value} {news : List c.den} (hm : Mem w R μ blr) (hy : VRep w R μ y uy) (h : newsOf blr c y = some news) :
  ∃ nc : List Value, (∀ w2 : World, (Builtin.lenOf uy).run P w2 = .ok news.length w2) ∧ (∀ w2 : World, w2.heap = w.heap → (Builtin.firstCells c.size news.length uy).run P w2 = .ok nc.toArray w2) ∧ nc.length = news.length * c.size ∧ RAt w R μ (fun m => nc[m]?) c news ∧ (∀ u ∈ nc, u.oneCell' = true) := by
 have heapCell : ∀ {w2 : World}, w2.heap = w.heap → ∀ A, w2.cell? A = w.cell? A := fun {w2} e A => by simp [World.cell?, e]
 unfold newsOf at h
 split at h
 ·rename_i l
  split at h
  ·rename_i hc
   subst hc
   simp at h; subst h
   cases hy
   have e3 : (⟨l.toArray⟩ : ByteArray).size = l.length := by simp [ByteArray.size]
   refine ⟨l.map fun z => .int .u8 z.toNat, fun w2 => by simp [Builtin.lenOf, e3], fun w2 _ => ?_, by simp [Cd.size], ?_, by simp; intro z _; rfl⟩
   ·have : (⟨l.toArray⟩ : ByteArray).extract 0 l.length = ⟨l.toArray⟩ := by
     have := ByteArray.extract_mk l 0 l.length; simpa using this
    simp [Builtin.firstCells, this]
   ·intro i z j v hz hv
    rw [List.getElem?_map] at hz
    obtain ⟨z0, hz0, rfl⟩ := Option.map_eq_some_iff.1 hz
    simp only [enc] at hv
    cases j with
    | zero => simp at hv; subst hv; exact ⟨.int .u8 z0.toNat, by simp [Cd.size, hz0], .i _ _⟩
    | succ j => simp at hv
  ·cases h
 ·simp at h; subst h
  cases hy
  exact ⟨[], fun w2 => by simp [Builtin.lenOf], fun w2 _ => by simp [Builtin.firstCells], by simp, RAt.nil _ _, by simp⟩
 ·rename_i c' l
  split at h
  ·rename_i hc
   subst hc
   simp at h; subst h
   cases hy with
   | sl _ _ ao cap U h1 h2 h3 h4 =>
   rcases h3 with h3 | ⟨b, off, rfl, hR, hcell⟩
   ·have : l = [] := List.eq_nil_of_length_eq_zero h3
    subst this
    refine ⟨[], fun w2 => by simp [Builtin.lenOf], fun w2 _ => ?_, by simp, RAt.nil _ _, by simp⟩
    cases ao <;> simp [Builtin.firstCells, loadCells, loadCellsFrom]
   ·have hat : RAt w R μ (fun m => w.cell? ⟨b, off + m, none⟩) c' l := fun i z j v hz hv => ⟨U i j, hcell i z j v hz hv, h4 i z j v hz hv⟩
    obtain ⟨nc, g1, g2, g3, g4⟩ := hat.list
    exact ⟨nc, fun w2 => by simp [Builtin.lenOf], fun w2 e => firstCells_some g1 (fun j hj => by rw [heapCell e, addr_add]; exact g2 j hj), g1, g3, g4⟩
  ·cases h
 ·rename_i id lo n
  split at h
  ·rename_i ro nl c' l hb
   split at h
   ·rename_i hc
    subst hc
    simp at h; subst h
    obtain ⟨rb, hmu, hrep⟩ := hm.blk id _ hb
    cases hy with
    | vac _ ao hr =>
     refine ⟨[], fun w2 => by simp [Builtin.lenOf], fun w2 _ => ?_, by simp, by simpa using RAt.nil _ _, by simp⟩
     cases ao <;> simp [Builtin.firstCells, loadCells, loadCellsFrom]
    | ref _ _ _ b off k cap len A hr h0 h3 h4 h5 =>
     rw [hmu] at hr; simp at hr; subst hr
     cases hrep with
     | row _ _ _ _ _ _ _ _ _ us e hk hh h1 h2 h6 h7 =>
     subst hk
     have hlen : ((l.drop lo).take n).length = n := by rw [List.length_take, List.length_drop]; omega
     have hat0 : RAt w R μ (fun m => us[off + m]?) c' l := fun i z j v hz hv => h7 i z j v hz hv
     have hat := hat0.sub lo n
     obtain ⟨nc, g1, g2, g3, g4⟩ := hat.list
     refine ⟨nc, fun w2 => by simp only [Builtin.lenOf, Sem.run_pure, hlen], fun w2 e => ?_, g1, g3, g4⟩
     rw [hlen] at g1 ⊢
     by_cases hz : n = 0
     ·subst hz
      have : nc = [] := List.eq_nil_of_length_eq_zero (by simpa using g1)
      subst this
      simp [Builtin.firstCells, loadCells, loadCellsFrom]
     ·rcases h5 with h5 | rfl
      ·omega
      ·refine firstCells_some g1 (fun j hj => ?_)
       rw [heapCell e, addr_add, cell_of_row w b _ us _ (0, 0) hh, ← g2 j hj]
       congr 1; omega
   ·cases h
  ·cases h
 ·cases h

theorem run_app_room {t t2 ty e : TypeId} {d2 : TypeDesc} {i : TypeInfo} {base : Option Addr} {sLen sCap n : Nat} {uy : Value} {nc : List Value} (ht : P.underlying t = some (.slice e)) (ht2 : P.underlying t2 = some d2) (hd2 : (∃ e', d2 = .slice e') ∨ d2 = .string) (hi : P.info? e = some i)
  (hl : (Builtin.lenOf uy).run P w = .ok n w) (hf : (Builtin.firstCells i.size n uy).run P w = .ok nc.toArray w) (hr : sLen + n ≤ sCap) :
  (Builtin.append_ #[t, t2] ty #[.slice base sLen sCap, uy]).run P w = match base with
   | some a => ((storeCells (a.add (sLen * i.size)) nc).run P w).andThen fun _ w' => .ok (.slice base (sLen + n) sCap) w'
   | none => .ok (.slice none (sLen + n) sCap) w := by
 rcases hd2 with ⟨e', rfl⟩ | rfl <;> cases base <;> simp [Builtin.append_, run_underlying ht, run_underlying ht2, sizeOf, typeInfo, hi, hl, hr, hf]

theorem run_app_grow {t t2 ty e : TypeId} {d2 : TypeDesc} {i : TypeInfo} {z : Value} {base : Option Addr} {sLen sCap n : Nat} {uy : Value} {nc olds : List Value} (ht : P.underlying t = some (.slice e)) (ht2 : P.underlying t2 = some d2) (hd2 : (∃ e', d2 = .slice e') ∨ d2 = .string) (hi : P.info? e = some i) (hz : i.zero = some z)
  (hl : (Builtin.lenOf uy).run P w = .ok n w) (hf : (Builtin.firstCells i.size n uy).run P w.drew = .ok nc.toArray w.drew) (ho : (Builtin.firstCells i.size sLen (.slice base sLen sCap)).run P w.drew = .ok olds.toArray w.drew) (hr : sCap < sLen + n)
  (hb : (sLen + n) * i.bytes ≤ 140737488355328) (h63 : sLen + n ≤ maxI) :
  (Builtin.append_ #[t, t2] ty #[.slice base sLen sCap, uy]).run P w =
   .ok (.slice (some ⟨w.heap.size, 0, none⟩) (sLen + n) (grownCap w (sLen + n) sCap e)) (w.drew.alloc (.cells (olds.toArray ++ nc.toArray ++ Builtin.zeroCells z.cells (grownCap w (sLen + n) sCap e - (sLen + n))) e)) := by
 have hn : ¬ (sLen + n ≤ sCap) := by omega
 have h63' : ¬ (9223372036854775807 < ((sLen : Int) + (n : Int))) := by unfold maxI at h63; omega
 have h48' : ¬ (281474976710656 < Builtin.nextslicecap (sLen + n) sCap * i.bytes) := by have := growslice_fits hr hb; omega
 rcases hd2 with ⟨e', rfl⟩ | rfl
 ·simp [Builtin.append_, run_underlying ht, run_underlying ht2, sizeOf, typeInfo, zeroValue, hi, hz, hl, hn, h63', h48', Question.forced, hf, ho, newRow, grownCap]
  try (congr 2; apply Array.ext'; simp [List.append_assoc])
 ·simp [Builtin.append_, run_underlying ht, run_underlying ht2, sizeOf, typeInfo, zeroValue, hi, hz, hl, hn, h63', h48', Question.forced, hf, ho, newRow, grownCap]
  try (congr 2; apply Array.ext'; simp [List.append_assoc])

theorem elOk_spec {e : TypeId} {n : Nat} (h : elOk P e n = true) : ∃ i z, P.info? e = some i ∧ i.size = n ∧ i.zero = some z ∧ z.cells.size = n := by
 unfold elOk at h
 split at h
 ·rename_i i hi
  simp only [Bool.and_eq_true] at h
  obtain ⟨h1, h2⟩ := h
  have h1 := Nat.eq_of_beq_eq_true h1
  split at h2
  ·rename_i z hz
   exact ⟨i, z, hi, h1, hz, by rw [← h1]; exact Nat.eq_of_beq_eq_true h2⟩
  ·cases h2
 ·cases h
theorem isSrc_spec {t : TypeId} (h : isSrc P t = true) : ∃ d, P.underlying t = some d ∧ ((∃ e', d = .slice e') ∨ d = .string) := by
 unfold isSrc at h
 split at h
 ·rename_i e he; exact ⟨_, he, .inl ⟨e, rfl⟩⟩
 ·rename_i he; exact ⟨_, he, .inr rfl⟩
 ·cases h

theorem grown_row {t t2 ty e new sLen sCap : Nat} {i : TypeInfo} {z : Value} {d2 : TypeDesc} {c : Cd} {base : Option Addr} {uy : Value} {nc olds : List Value} {old news : List c.den} {nl : Option Bool} (h : SimAt E R μ sl bl fr a w) (hf : fr new)
  (ht : P.underlying t = some (.slice e)) (ht2 : P.underlying t2 = some d2) (hd2 : (∃ e', d2 = .slice e') ∨ d2 = .string) (hi : P.info? e = some i) (hsz : i.size = c.size) (hz : i.zero = some z) (hzs : z.cells.size = c.size)
  (hl : ∀ w2 : World, (Builtin.lenOf uy).run P w2 = .ok news.length w2) (hfc : ∀ w2 : World, w2.heap = w.heap → (Builtin.firstCells c.size news.length uy).run P w2 = .ok nc.toArray w2) (hnl : nc.length = news.length * c.size) (hna : RAt w R μ (fun m => nc[m]?) c news)
  (hol : old.length = sLen) (ho : ∀ w2 : World, w2.heap = w.heap → (Builtin.firstCells c.size sLen (.slice base sLen sCap)).run P w2 = .ok olds.toArray w2) (hoc : olds.length = sLen * c.size) (hoa : RAt w R μ (fun m => olds[m]?) c old)
  (hr : sCap < sLen + news.length) (hb : (sLen + news.length) * i.bytes ≤ 140737488355328) (h63 : sLen + news.length ≤ maxI) (hnl2 : nl ≠ some true := by first | assumption | (simp; done)) :
  ∃ u w' μ', (Builtin.append_ #[t, t2] ty #[.slice base sLen sCap, uy]).run P w = .ok u w' ∧ SimAt E R μ' sl (putB bl new (some (.row false nl c (old ++ news)))) (fun j => fr j ∧ j ≠ new) a w' ∧ VRep w' R μ' (.ref new 0 (sLen + news.length)) u := by
 have hrun := run_app_grow (P := P) (w := w) (ty := ty) ht ht2 hd2 hi hz (hl w) (by rw [hsz]; exact hfc _ rfl) (by rw [hsz]; exact ho _ rfl) hr hb h63
 have hge := grownCap_ge w (sLen + news.length) sCap e
 have hle : grownCap w (sLen + news.length) sCap e ≤ maxI := by have := grownCap_le_maxLen w (sLen + news.length) sCap e (by unfold maxLen; unfold maxI at h63; omega); unfold maxLen at this; unfold maxI; omega
 have hzc : ∀ n, (Builtin.zeroCells z.cells n).size = n * c.size := fun n => by simp [Builtin.zeroCells, hzs]
 have hD := h.sameHeap (w' := w.drew) rfl rfl rfl rfl
 have hat : RAt w.drew R μ (fun m => (olds.toArray ++ nc.toArray ++ Builtin.zeroCells z.cells (grownCap w (sLen + news.length) sCap e - (sLen + news.length)))[m]?) c (old ++ news) := by
  refine (hoa.append hna (h := fun m => (olds.toArray ++ nc.toArray ++ Builtin.zeroCells z.cells (grownCap w (sLen + news.length) sCap e - (sLen + news.length)))[m]?) ?_ ?_).mono (fun _ _ _ h => h) (fun _ _ => rfl) (fun _ h => h) (fun _ _ h => h)
  ·intro m u hm hu
   rw [hol, ← hoc] at hm
   rw [Array.getElem?_append_left (by simp; omega), Array.getElem?_append_left (by simpa using hm)]
   simpa using hu
  ·intro m u hm hu
   rw [← hnl] at hm
   rw [hol, ← hoc]
   rw [Array.getElem?_append_left (by simp; omega), Array.getElem?_append_right (by simp)]
   simpa using hu
 have hnew := hD.newRow_sound' (us := olds.toArray ++ nc.toArray ++ Builtin.zeroCells z.cells (grownCap w (sLen + news.length) sCap e - (sLen + news.length))) (l := old ++ news) (len := sLen + news.length) (nl := nl) (grownCap w (sLen + news.length) sCap e) e hf hat (by simp [hol]) hge hle (by
  simp only [Array.size_append, List.size_toArray, hzc, hoc, hnl, ← Nat.add_mul]
  exact Nat.mul_le_mul_right _ (by omega))
 exact ⟨_, _, updM μ new (.at w.heap.size 0 c.size (grownCap w (sLen + news.length) sCap e) (sLen + news.length)), hrun, hnew, .ref new 0 _ w.heap.size 0 c.size _ _ ⟨w.heap.size, 0, none⟩ (updM_self _ _ _) hge (by omega) hle (.inr (by simp))⟩

theorem SimAt.overRow {id p b off k cap len : Nat} {nl : Option Bool} {c : Cd} {l news : List c.den} {nc : List Value} {cur : Array Value} {e : TypeId} (h : SimAt E R μ sl bl fr a w) (hb : bl id = some (.row false nl c l)) (hmu : μ id = some (.at b off k cap len)) (hk : k = c.size)
  (hh : w.heap[b]? = some (.cells cur e (0, 0))) (q1 : l.length = len ∧ len ≤ cap) (q2 : cap ≤ maxI) (q3 : off + cap * k ≤ cur.size) (q4 : ∀ i z j v, l[i]? = some z → (enc c z)[j]? = some v → ∃ u, cur[off + (i * k + j)]? = some u ∧ VRep w R μ v u)
  (n3 : nc.length = news.length * c.size) (n4 : RAt w R μ (fun m => nc[m]?) c news) (hp : p + news.length ≤ l.length) :
  SimAt E R μ sl (putB bl id (some (.row false nl c (l.take p ++ news ++ l.drop (p + news.length))))) fr a (w.setRow b (setCells cur.toList (off + p * c.size) nc).toArray) := by
 have h6 : nl ≠ some true := by
  obtain ⟨rb, g1, g2⟩ := h.mem.blk id _ hb
  rw [hmu] at g1; simp at g1; subst g1
  cases g2; assumption
 subst hk
 have hpk : p * c.size + nc.length ≤ l.length * c.size := by rw [n3, ← Nat.add_mul]; exact Nat.mul_le_mul_right _ hp
 have hlc : l.length * c.size ≤ cap * c.size := Nat.mul_le_mul_right _ (by omega)
 have hfit : off + p * c.size + nc.length ≤ cur.toList.length := by simp; omega
 have hw : ∀ k, R k → (w.setRow b (setCells cur.toList (off + p * c.size) nc).toArray).heap[k]? = w.heap[k]? := fun k hR => setRow_other _ _ _ _ (fun e => by subst e; exact h.mem.sep id _ _ k hb rfl hmu rfl hR)
 refine h.setBlk (B' := .row false nl c (l.take p ++ news ++ l.drop (p + news.length))) hb rfl hmu rfl (setRow_size _ _ _) (fun k hk => setRow_other _ _ _ _ hk) rfl rfl rfl ?_
 refine .row b off c.size cap len false nl c _ _ e rfl (setRow_heap w b cur _ e _ hh) ⟨by simp; omega, q1.2⟩ q2 (by simp [setCells_length]; omega) ?_ (by simp)
 have hat0 : RAt w R μ (fun m => cur[off + m]?) c l := fun i z j v hz hv => q4 i z j v hz hv
 have hat1 := hat0.sub 0 p
 rw [List.drop_zero, Nat.zero_mul] at hat1
 have hat2 := hat0.sub (p + news.length) l.length
 rw [List.take_of_length_le (by simp)] at hat2
 have hpn : (p + news.length) * c.size = p * c.size + nc.length := by rw [n3, Nat.add_mul]
 have hlt : (l.take p).length = p := by rw [List.length_take]; omega
 have hall : RAt (w.setRow b (setCells cur.toList (off + p * c.size) nc).toArray) R μ (fun m => (setCells cur.toList (off + p * c.size) nc)[off + m]?) c (l.take p ++ news ++ l.drop (p + news.length)) := by
  refine ((hat1.append n4 (h := fun m => if m < (p + news.length) * c.size then (setCells cur.toList (off + p * c.size) nc)[off + m]? else none) ?_ ?_).append hat2 (h := fun m => (setCells cur.toList (off + p * c.size) nc)[off + m]?) ?_ ?_).mono (fun _ _ _ h => h) hw (fun _ h => h) (fun _ _ h => h)
  ·intro m u hm hu
   rw [hlt] at hm
   rw [if_pos (by omega), setCells_get _ _ _ _ hfit, if_neg (by omega), ← hu]
   simp
  ·intro m u hm hu
   rw [← n3] at hm
   rw [hlt, if_pos (by omega), setCells_get _ _ _ _ hfit, if_pos (by omega), ← hu]
   congr 1; omega
  ·intro m u hm hu
   split at hu
   ·exact hu
   ·cases hu
  ·intro m u hm hu
   have e1 : (l.take p ++ news).length = p + news.length := by simp; omega
   rw [e1, hpn]
   rw [hpn] at hu
   rw [setCells_get _ _ _ _ hfit, if_neg (by omega), ← hu]
   simp [Nat.add_assoc]
 intro i z j v hz hv
 obtain ⟨u, hu1, hu2⟩ := hall i z j v hz hv
 exact ⟨u, by simpa using hu1, hu2⟩

theorem clear_sound {t e ty : TypeId} {id lo n : Nat} {nl : Option Bool} {c : Cd} {l : List c.den} {ie : TypeInfo} {zv : Value} {z : c.den} {u : Value} (h : SimAt E R μ sl bl fr a w) (hb : bl id = some (.row false nl c l)) (hv : VRep w R μ (.ref id lo n) u)
  (ht : P.underlying t = some (.slice e)) (hi : P.info? e = some ie) (hz : ie.zero = some zv) (hd : dec1 c (zv.cells.toList.map ofConst) = some z) :
  ∃ w', (Builtin.clear_ #[t] ty #[u]).run P w = .ok (.tuple #[]) w' ∧ SimAt E R μ sl (putB bl id (some (.row false nl c (l.take lo ++ List.replicate n z ++ l.drop (lo + n))))) fr a w' := by
 have hzc := dec1_sound (w := w) (R := R) (μ := μ) (ofConst_reps zv.cells.toList) hd
 have hzs : zv.cells.size = c.size := by have := hzc.1; rw [enc_length] at this; simpa using this
 have hone : ∀ u ∈ zv.cells.toList, u.oneCell' = true := hzc.one (List.all_eq_true.2 fun v hv => enc_single c z v hv)
 obtain ⟨rb, hmu, hrep⟩ := h.mem.blk id _ hb
 by_cases hn0 : n = 0
 ·subst hn0
  have e1 : l.take lo ++ List.replicate 0 z ++ l.drop (lo + 0) = l := by simp
  rw [e1]
  have e2 : putB bl id (some (.row false nl c l)) = bl := by
   funext j
   unfold putB
   cases ej : Nat.beq j id with
   | true => have := Nat.eq_of_beq_eq_true ej; subst this; exact hb.symm
   | false => rfl
  rw [e2]
  refine ⟨w, ?_, h⟩
  cases hv with
  | vac _ ao hr => cases ao <;> simp [Builtin.clear_, run_underlying ht]
  | ref _ _ _ b off k cap len A hr h0 h3 h4 h5 => simp [Builtin.clear_, run_underlying ht]
 ·cases hv with
  | vac => exact absurd rfl hn0
  | ref _ _ _ b off k cap len A hr h0 h3 h4 h5 =>
   rw [hmu] at hr; simp at hr; subst hr
   cases hrep with
   | row _ _ _ _ _ _ _ _ _ cur e' hk' hh q1 q2 q3 q4 q5 =>
   rcases h5 with h5 | rfl
   ·omega
   ·subst hk'
    have hzl : (Builtin.zeroCells zv.cells n).toList.length = n * c.size := by simp [Builtin.zeroCells, hzs]
    have hR : RAt w R μ (fun m => (Builtin.zeroCells zv.cells n).toList[m]?) c (List.replicate n z) := by
     intro i z2 j v hz2 hv
     have hi2 : i < n := by have := (List.getElem?_eq_some_iff.1 hz2).1; simpa using this
     rw [List.getElem?_replicate, if_pos hi2] at hz2
     simp at hz2; subst hz2
     have hj : j < c.size := by have := (List.getElem?_eq_some_iff.1 hv).1; rwa [enc_length] at this
     have hju : j < zv.cells.toList.length := by simpa [hzs] using hj
     refine ⟨zv.cells.toList[j], ?_, hzc.2 j v _ hv (by simp [hju])⟩
     have := range_mod zv.cells n
     have hlt : (i + 1) * c.size ≤ n * c.size := Nat.mul_le_mul_right _ hi2
     rw [Nat.add_mul] at hlt
     dsimp only
     have ez : (Builtin.zeroCells zv.cells n).toList = (List.replicate n ()).flatMap fun _ => zv.cells.toList := by rw [← this]; rfl
     rw [ez, flat_get]
     simp only [Array.length_toList, hzs]
     rw [if_pos (by omega), Nat.mul_comm i, Nat.mul_add_mod, Nat.mod_eq_of_lt hj]
     simp [hju]
    have hnc : ∀ u ∈ (Builtin.zeroCells zv.cells n).toList, u.oneCell' = true := by
     intro u hu
     obtain ⟨j, hj, rfl⟩ := List.getElem_of_mem hu
     obtain ⟨u2, g1, g2⟩ := hR.all (m := j) (by rw [List.length_replicate, ← hzl]; exact hj)
     rw [List.getElem?_eq_getElem hj] at g1
     injection g1 with g1; rw [g1]; exact g2
    have hlc : (lo + n) * c.size ≤ cap * c.size := Nat.mul_le_mul_right _ (by omega)
    rw [Nat.add_mul] at hlc
    have hfit : off + lo * c.size + 0 + (Builtin.zeroCells zv.cells n).toList.length ≤ cur.size := by rw [hzl]; omega
    have hst := run_storeCells_at P b (off + lo * c.size) e' (Builtin.zeroCells zv.cells n).toList 0 cur w hh hfit hnc
    simp only [Nat.add_zero] at hst
    have e2 : cur.toList.take (off + lo * c.size) ++ (Builtin.zeroCells zv.cells n).toList ++ cur.toList.drop (off + lo * c.size + (Builtin.zeroCells zv.cells n).toList.length) = setCells cur.toList (off + lo * c.size) (Builtin.zeroCells zv.cells n).toList := (setCells_eq _ _ _ (by simpa using hfit)).symm
    rw [e2] at hst
    have hov := h.overRow (p := lo) (news := List.replicate n z) hb hmu rfl hh q1 q2 q3 q4 (by rw [List.length_replicate]; exact hzl) hR (by rw [List.length_replicate]; omega)
    rw [List.length_replicate] at hov
    refine ⟨_, ?_, hov⟩
    obtain ⟨n', rfl⟩ := Nat.exists_eq_succ_of_ne_zero hn0
    simp only [Builtin.clear_]
    simp [run_underlying ht, run_zeroValue hi hz, hst]

theorem selfRef_spec {id lo n : Nat} {y : V} (h : selfRef id y = some (lo, n)) : y = .ref id lo n := by
 unfold selfRef at h
 split at h
 ·split at h
  ·rename_i e
   have := Nat.eq_of_beq_eq_true e
   simp at h
   obtain ⟨rfl, rfl⟩ := h
   rw [this]
  ·cases h
 ·cases h
theorem append_sound {new t t2 ty : Nat} {v y v' : V} {uv uy : Value} {us : Upd} (h : SimAt E R μ sl bl fr a w) (hs : ∀ id B, blr id = some B → bl id = some B) (hf : ∀ c, c < 16 → fr (new + c)) (hv : VRep w R μ v uv) (hy : VRep w R μ y uy)
  (hk : appendK P blr new t t2 v y (fun v us => some (v, us)) = some (v', us)) :
  ∃ u w' μ', (Builtin.append_ #[t, t2] ty #[uv, uy]).run P w = .ok u w' ∧ SimAt E R μ' sl (applyU bl us) (fun j => fr j ∧ (j < new ∨ new + 16 ≤ j)) a w' ∧ VRep w' R μ' v' u := by
 have hm := h.mem.sub hs
 have hnf := hf 0 (by omega)
 rw [Nat.add_zero] at hnf
 unfold appendK at hk
 split at hk
 ·rename_i e he
  obtain ⟨hsrc, hk⟩ := ifT_some hk
  obtain ⟨d2, ht2, hd2⟩ := isSrc_spec hsrc
  have ht : P.underlying t = some (.slice e) := by
   unfold elemT at he
   split at he
   ·simp at he; subst he; assumption
   ·cases he
  split at hk
  ·rename_i id lo n _
   split at hk
   ·rename_i nl c l hb
    split at hk
    ·rename_i lo2 n2 hself
     rw [selfRef_spec hself] at hy
     obtain ⟨hel, hk⟩ := ifT_some hk
     obtain ⟨hbd, hk⟩ := ifT_some hk
     simp only [Option.some.injEq, Prod.mk.injEq] at hk; obtain ⟨rfl, rfl⟩ := hk
     have hbd := of_decide_eq_true hbd
     obtain ⟨i, z, hi, hsz, hz, hzs⟩ := elOk_spec hel
     have hl2 : ((l.drop lo2).take n2).length = n2 := by rw [List.length_take, List.length_drop]; omega
     have hnews : newsOf blr c (.ref id lo2 n2) = some ((l.drop lo2).take n2) := by simp [newsOf, hb]
     obtain ⟨nc, n1, m2, n3, n4, n5⟩ := news_sound (P := P) hm hy hnews
     rw [hl2] at n1 m2 n3
     have hbl := hs _ _ hb
     obtain ⟨rb, hmu, hrep⟩ := h.mem.blk id _ hbl
     simp only [applyU]
     by_cases hn0 : n2 = 0
     ·subst hn0
      have : nc = [] := List.eq_nil_of_length_eq_zero (by simpa using n3)
      subst this
      have e1 : l.take (lo + n) ++ (l.drop lo2).take 0 ++ l.drop (lo + n + 0) = l := by simp
      rw [e1, Nat.add_zero]
      have e2 : putB bl id (some (.row false nl c l)) = bl := by
       funext j
       unfold putB
       cases ej : Nat.beq j id with
       | true => have := Nat.eq_of_beq_eq_true ej; subst this; exact hbl.symm
       | false => rfl
      rw [e2]
      have hv' := hv
      have key : ∀ base cap, uv = .slice base n cap → n ≤ cap → (Builtin.append_ #[t, t2] ty #[uv, uy]).run P w = .ok uv w := by
       intro base cap e hc
       subst e
       rw [run_app_room (P := P) (w := w) (ty := ty) ht ht2 hd2 hi (n1 w) (by rw [hsz]; exact m2 w rfl) (by simpa using hc)]
       cases base <;> simp [storeCells]
      refine ⟨uv, w, μ, ?_, h.fr_mono (fun j hj => hj.1), hv'⟩
      cases hv with
      | vac _ ao hr => exact key _ _ rfl (Nat.le_refl _)
      | ref _ _ _ b off k cap len A hr h0 h3 h4 h5 => exact key _ _ rfl (by omega)
     ·cases hv with
      | vac _ ao hr =>
       rw [hmu] at hr; simp at hr; subst hr
       cases hrep
       simp at hbd; omega
      | ref _ _ _ b off k cap len A hr h0 h3 h4 h5 =>
       rw [hmu] at hr; simp at hr; subst hr
       cases hrep with
       | row _ _ _ _ _ _ _ _ _ cur e' hk' hh q1 q2 q3 q4 q5 =>
       rcases h5 with h5 | rfl
       ·omega
       ·have hrun := run_app_room (P := P) (w := w) (ty := ty) (base := some ⟨b, off + lo * k, none⟩) (sLen := n) (sCap := cap - lo) ht ht2 hd2 hi (n1 w) (by rw [hsz]; exact m2 w rfl) (by omega)
        have hlc : (lo + n + n2) * c.size ≤ cap * c.size := Nat.mul_le_mul_right _ (by omega)
        rw [Nat.add_mul] at hlc
        subst hk'
        have hfit : off + (lo + n) * c.size + 0 + nc.length ≤ cur.size := by rw [n3]; omega
        have hst := run_storeCells_at P b (off + (lo + n) * c.size) e' nc 0 cur w hh hfit n5
        simp only [Nat.add_zero] at hst
        have e2 : cur.toList.take (off + (lo + n) * c.size) ++ nc ++ cur.toList.drop (off + (lo + n) * c.size + nc.length) = setCells cur.toList (off + (lo + n) * c.size) nc := (setCells_eq _ _ _ (by simpa using hfit)).symm
        rw [e2] at hst
        have hov := h.overRow (p := lo + n) (news := (l.drop lo2).take n2) hbl hmu rfl hh q1 q2 q3 q4 (by rw [hl2]; exact n3) n4 (by rw [hl2]; exact hbd.1)
        rw [hl2] at hov
        refine ⟨.slice (some ⟨b, off + lo * c.size, none⟩) (n + n2) (cap - lo), _, μ, ?_, hov.fr_mono (fun j hj => hj.1), .ref id lo (n + n2) b off c.size cap len _ hmu h0 (by omega) h4 (.inr rfl)⟩
        rw [hrun]
        simp only [addr_add, hsz]
        rw [show off + lo * c.size + n * c.size = off + (lo + n) * c.size by rw [Nat.add_mul, Nat.add_assoc], hst]
        rfl
    split at hk
    ·rename_i news hnews
     obtain ⟨hel, hk⟩ := ifT_some hk
     obtain ⟨hbd, hk⟩ := ifT_some hk
     simp at hk; obtain ⟨rfl, rfl⟩ := hk
     simp only [Bool.and_eq_true, decide_eq_true_eq] at hbd
     obtain ⟨i, z, hi, hsz, hz, hzs⟩ := elOk_spec hel
     have hby : P.bytesOf e = i.bytes := by simp [Program.bytesOf, hi]
     rw [hby] at hbd
     obtain ⟨nc, n1, n2, n3, n4, n5⟩ := news_sound (P := P) hm hy hnews
     have hbl := hs _ _ hb
     obtain ⟨rb, hmu, hrep⟩ := h.mem.blk id _ hbl
     have hkill := h.kill id
     have hne : ∀ j, (fr j ∧ j ≠ new) → True := fun _ _ => trivial
     simp only [applyU]
     cases hv with
     | vac _ ao hr =>
      rw [hmu] at hr; simp at hr; subst hr
      cases hrep with
      | vac =>
      by_cases hz0 : news.length = 0
      ·have : news = [] := List.eq_nil_of_length_eq_zero hz0
       subst this
       have : nc = [] := List.eq_nil_of_length_eq_zero (by simpa using n3)
       subst this
       have hrun := run_app_room (P := P) (w := w) (ty := ty) (base := ao) (sLen := 0) (sCap := 0) ht ht2 hd2 hi (n1 w) (by rw [hsz]; exact n2 w rfl) (by simp)
       refine ⟨.slice ao 0 0, w, _, ?_, (hkill.newVac hnf ao false (some false) c).fr_mono (fun j hj => ⟨hj.1, by omega⟩), .vac new ao (updM_self _ _ _)⟩
       rw [hrun]
       cases ao <;> simp [storeCells]
      ·obtain ⟨u, w', μ', g1, g2, g3⟩ := grown_row (P := P) (w := w) (ty := ty) (old := ([] : List c.den)) (olds := []) (base := ao) (sLen := 0) (sCap := 0) (nl := some false) hkill hnf ht ht2 hd2 hi hsz hz hzs n1 n2 n3 n4 rfl (fun w2 _ => by cases ao <;> simp [Builtin.firstCells, loadCells, loadCellsFrom]) (by simp) (RAt.nil _ _) (by omega) (by simpa using hbd.1) (by simpa using hbd.2)
       exact ⟨u, w', μ', g1, by simpa using g2.fr_mono (fun j hj => ⟨hj.1, by omega⟩), by simpa using g3⟩
     | ref _ _ _ b off k cap len A hr h0 h3 h4 h5 =>
      rw [hmu] at hr; simp at hr; subst hr
      cases hrep with
      | row _ _ _ _ _ _ _ _ _ cur e' hk' hh q1 q2 q3 q4 q5 =>
      subst hk'
      have hlen : ((l.drop lo).take n).length = n := by rw [List.length_take, List.length_drop]; omega
      have hat0 : RAt w R μ (fun m => cur[off + m]?) c l := fun i z j v hz hv => q4 i z j v hz hv
      have hat := hat0.sub lo n
      by_cases hroom : n + news.length ≤ cap - lo
      ·have hrun := run_app_room (P := P) (w := w) (ty := ty) (base := some A) (sLen := n) (sCap := cap - lo) ht ht2 hd2 hi (n1 w) (by rw [hsz]; exact n2 w rfl) hroom
       by_cases hc0 : cap - lo = 0
       ·have hn0 : n = 0 := by omega
        have hnw : news = [] := List.eq_nil_of_length_eq_zero (by omega)
        subst hn0 hnw
        have : nc = [] := List.eq_nil_of_length_eq_zero (by simpa using n3)
        subst this
        refine ⟨.slice (some A) 0 0, w, updM μ new (.vac (some A)), ?_, ?_, .vac new (some A) (updM_self _ _ _)⟩
        ·rw [hrun]; simp [storeCells, hc0]
        ·have := (hkill.newVac hnf (some A) false (some false) c).fr_mono (fr' := fun j => fr j ∧ (j < new ∨ new + 16 ≤ j)) (fun j hj => ⟨hj.1, by omega⟩)
         simpa using this
       ·rcases h5 with h5 | rfl
        ·exact absurd h5 hc0
        ·have hcl : (cap - lo) * c.size + lo * c.size = cap * c.size := by rw [← Nat.add_mul]; congr 1; omega
         have hrm : (n + news.length) * c.size ≤ (cap - lo) * c.size := Nat.mul_le_mul_right _ hroom
         rw [Nat.add_mul] at hrm
         have hfit : off + lo * c.size + n * c.size + 0 + nc.length ≤ cur.size := by rw [n3]; omega
         have hst := run_storeCells_at P b (off + lo * c.size + n * c.size) e' nc 0 cur w hh hfit n5
         simp only [Nat.add_zero] at hst
         have e2 : cur.toList.take (off + lo * c.size + n * c.size) ++ nc ++ cur.toList.drop (off + lo * c.size + n * c.size + nc.length) = setCells cur.toList (off + lo * c.size + n * c.size) nc := (setCells_eq _ _ _ (by simpa using hfit)).symm
         rw [e2] at hst
         have hw : ∀ k, R k → (w.setRow b (setCells cur.toList (off + lo * c.size + n * c.size) nc).toArray).heap[k]? = w.heap[k]? := fun k hR => setRow_other _ _ _ _ (fun e => by subst e; exact h.mem.sep id _ _ k hbl rfl hmu rfl hR)
         refine ⟨.slice (some ⟨b, off + lo * c.size, none⟩) (n + news.length) (cap - lo), w.setRow b (setCells cur.toList (off + lo * c.size + n * c.size) nc).toArray, updM μ new (.at b (off + lo * c.size) c.size (cap - lo) (n + news.length)), ?_, ?_, .ref new 0 _ b (off + lo * c.size) c.size (cap - lo) (n + news.length) _ (updM_self _ _ _) hroom (by omega) (by omega) (.inr (by simp))⟩
         ·rw [hrun]
          simp only [addr_add, hsz, hst, Result.andThen_ok]
         ·refine (h.move (B' := .row false (some false) c ((l.drop lo).take n ++ news)) hbl rfl hmu rfl hnf rfl (setRow_size _ _ _) (fun k hk => setRow_other _ _ _ _ hk) rfl rfl rfl ?_ rfl).fr_mono (fun j hj => ⟨hj.1, by omega⟩)
          refine .row b (off + lo * c.size) c.size (cap - lo) (n + news.length) false _ c _ _ e' rfl (setRow_heap w b cur _ e' _ hh) ⟨by simp [hlen], hroom⟩ (by omega) (by simp [setCells_length]; omega) ?_ (by simp)
          have hall : RAt (w.setRow b (setCells cur.toList (off + lo * c.size + n * c.size) nc).toArray) R μ (fun m => (setCells cur.toList (off + lo * c.size + n * c.size) nc)[off + lo * c.size + m]?) c ((l.drop lo).take n ++ news) := by
           refine (hat.append n4 (h := fun m => (setCells cur.toList (off + lo * c.size + n * c.size) nc)[off + lo * c.size + m]?) ?_ ?_).mono (fun _ _ _ h => h) hw (fun _ h => h) (fun _ _ h => h)
           ·intro m u hm hu
            rw [hlen] at hm
            rw [setCells_get _ _ _ _ (by simpa using hfit), if_neg (by omega), ← hu]
            simp [Nat.add_assoc]
           ·intro m u hm hu
            rw [← n3] at hm
            rw [hlen, setCells_get _ _ _ _ (by simpa using hfit), if_pos (by omega), ← hu]
            congr 1; omega
          intro i z j v hz hv
          obtain ⟨u, hu1, hu2⟩ := hall i z j v hz hv
          exact ⟨u, by simpa using hu1, hu2⟩
      ·obtain ⟨olds, o1, o2, o3, o4⟩ := hat.list
       rw [hlen] at o1
       have hof : ∀ w2 : World, w2.heap = w.heap → (Builtin.firstCells c.size n (.slice (some A) n (cap - lo))).run P w2 = .ok olds.toArray w2 := fun w2 e2 => by
        by_cases hn0 : n = 0
        ·subst hn0
         have : olds = [] := List.eq_nil_of_length_eq_zero (by simpa using o1)
         subst this
         simp [Builtin.firstCells, loadCells, loadCellsFrom]
        ·rcases h5 with h5 | rfl
         ·omega
         ·refine firstCells_some o1 (fun j hj => ?_)
          have heapCell : ∀ B, w2.cell? B = w.cell? B := fun B => by simp [World.cell?, e2]
          rw [heapCell, addr_add, cell_of_row w b _ cur _ (0, 0) hh, ← o2 j hj]
          congr 1; omega
       obtain ⟨u, w', μ', g1, g2, g3⟩ := grown_row (P := P) (w := w) (ty := ty) (old := (l.drop lo).take n) (olds := olds) (base := some A) (sLen := n) (sCap := cap - lo) (nl := some false) hkill hnf ht ht2 hd2 hi hsz hz hzs n1 n2 n3 n4 hlen hof o1 o3 (by omega) hbd.1 hbd.2
       exact ⟨u, w', μ', g1, g2.fr_mono (fun j hj => ⟨hj.1, by omega⟩), g3⟩
    ·cases hk
   ·cases hk
  ·cases hv
   split at hk
   ·rename_i c hc
    split at hk
    ·rename_i news hnews
     obtain ⟨hel, hk⟩ := ifT_some hk
     obtain ⟨hbd, hk⟩ := ifT_some hk
     simp at hk; obtain ⟨rfl, rfl⟩ := hk
     simp only [Bool.and_eq_true, decide_eq_true_eq] at hbd
     obtain ⟨i, z, hi, hsz, hz, hzs⟩ := elOk_spec hel
     have hby : P.bytesOf e = i.bytes := by simp [Program.bytesOf, hi]
     rw [hby] at hbd
     obtain ⟨nc, n1, n2, n3, n4, n5⟩ := news_sound (P := P) hm hy hnews
     simp only [applyU]
     by_cases hz0 : news.length = 0
     ·have : news = [] := List.eq_nil_of_length_eq_zero hz0
      subst this
      have : nc = [] := List.eq_nil_of_length_eq_zero (by simpa using n3)
      subst this
      have hrun := run_app_room (P := P) (w := w) (ty := ty) (base := none) (sLen := 0) (sCap := 0) ht ht2 hd2 hi (n1 w) (by rw [hsz]; exact n2 w rfl) (by simp)
      exact ⟨.slice none 0 0, w, _, by rw [hrun]; simp, (h.newVac hnf none false none c).fr_mono (fun j hj => ⟨hj.1, by omega⟩), .vac new none (updM_self _ _ _)⟩
     ·obtain ⟨u, w', μ', g1, g2, g3⟩ := grown_row (P := P) (w := w) (ty := ty) (old := ([] : List c.den)) (olds := []) (base := none) (sLen := 0) (sCap := 0) (nl := none) h hnf ht ht2 hd2 hi hsz hz hzs n1 n2 n3 n4 rfl (fun w2 _ => by simp [Builtin.firstCells]) (by simp) (RAt.nil _ _) (by omega) (by simpa using hbd.1) (by simpa using hbd.2)
      exact ⟨u, w', μ', g1, by simpa using g2.fr_mono (fun j hj => ⟨hj.1, by omega⟩), by simpa using g3⟩
    ·cases hk
   ·cases hk
  ·cases hk
 ·cases hk
theorem run_app_room_z {t t2 ty e : TypeId} {kd kd2 : IntKind} {i : TypeInfo} {z : Value} {base : Option Addr} {sLen sCap : Nat} {m : Int} (ht : P.underlying t = some (.slice e)) (ht2 : P.underlying t2 = some (.int kd2)) (hi : P.info? e = some i) (hz : i.zero = some z) (hzs : z.cells.size = i.size)
  (hm : 0 ≤ m ∧ m ≤ 1000000) (hb : (sLen + m.toNat) * i.bytes ≤ 140737488355328) (hr : sLen + m.toNat ≤ sCap) :
  (Builtin.append_ #[t, t2] ty #[.slice base sLen sCap, .int kd m]).run P w = match base with
   | some a => ((storeCells (a.add (sLen * i.size)) (Builtin.zeroCells z.cells m.toNat).toList).run P w).andThen fun _ w' => .ok (.slice base (sLen + m.toNat) sCap) w'
   | none => .ok (.slice none (sLen + m.toNat) sCap) w := by
 have w1 : IntKind.i64.wrap m = m := IntWalk.i64_in _ (by omega)
 have hlt : ¬ (m < 0) := by omega
 have hbig : ¬ ((281474976710656 : Int) < m * (i.bytes : Int)) := by
  have h1 : m.toNat * i.bytes ≤ (sLen + m.toNat) * i.bytes := Nat.mul_le_mul_right _ (by omega)
  have h2 : m * (i.bytes : Int) = ((m.toNat * i.bytes : Nat) : Int) := by rw [Int.natCast_mul, Int.toNat_of_nonneg hm.1]
  rw [h2]; omega
 by_cases h0 : m.toNat * i.size = 0
 ·have e0 : Builtin.zeroCells z.cells m.toNat = #[] := by
   unfold Builtin.zeroCells
   rw [hzs, h0]
   simp
  cases base <;> simp [Builtin.append_, run_underlying ht, run_underlying ht2, sizeOf, typeInfo, asInt, asIntOf, w1, hlt, hbig, hi, hr, h0, e0]
 ·cases base <;> simp [Builtin.append_, run_underlying ht, run_underlying ht2, sizeOf, typeInfo, asInt, asIntOf, w1, hlt, hbig, hi, hr, h0, run_zeroValue hi hz]
theorem run_app_grow_z {t t2 ty e : TypeId} {kd kd2 : IntKind} {i : TypeInfo} {z : Value} {base : Option Addr} {sLen sCap : Nat} {m : Int} {olds : List Value} (ht : P.underlying t = some (.slice e)) (ht2 : P.underlying t2 = some (.int kd2)) (hi : P.info? e = some i) (hz : i.zero = some z) (hzs : z.cells.size = i.size)
  (hm : 0 ≤ m ∧ m ≤ 1000000) (ho : (Builtin.firstCells i.size sLen (.slice base sLen sCap)).run P w.drew = .ok olds.toArray w.drew) (hr : sCap < sLen + m.toNat)
  (hb : (sLen + m.toNat) * i.bytes ≤ 140737488355328) (h63 : sLen + m.toNat ≤ maxI) :
  (Builtin.append_ #[t, t2] ty #[.slice base sLen sCap, .int kd m]).run P w =
   .ok (.slice (some ⟨w.heap.size, 0, none⟩) (sLen + m.toNat) (grownCap w (sLen + m.toNat) sCap e)) (w.drew.alloc (.cells (olds.toArray ++ (Builtin.zeroCells z.cells m.toNat).toList.toArray ++ Builtin.zeroCells z.cells (grownCap w (sLen + m.toNat) sCap e - (sLen + m.toNat))) e)) := by
 have hn : ¬ (sLen + m.toNat ≤ sCap) := by omega
 have h63' : ¬ (9223372036854775807 < ((sLen : Int) + (m.toNat : Int))) := by unfold maxI at h63; omega
 have h48' : ¬ (281474976710656 < Builtin.nextslicecap (sLen + m.toNat) sCap * i.bytes) := by have := growslice_fits hr hb; omega
 have w1 : IntKind.i64.wrap m = m := IntWalk.i64_in _ (by omega)
 have hlt : ¬ (m < 0) := by omega
 have hbig : ¬ ((281474976710656 : Int) < m * (i.bytes : Int)) := by
  have h1 : m.toNat * i.bytes ≤ (sLen + m.toNat) * i.bytes := Nat.mul_le_mul_right _ (by omega)
  have h2 : m * (i.bytes : Int) = ((m.toNat * i.bytes : Nat) : Int) := by rw [Int.natCast_mul, Int.toNat_of_nonneg hm.1]
  rw [h2]; omega
 have hmm : max m 0 = m := by omega
 by_cases h0 : m.toNat * i.size = 0
 ·have e0 : Builtin.zeroCells z.cells m.toNat = #[] := by
   unfold Builtin.zeroCells
   rw [hzs, h0]
   simp
  simp [Builtin.append_, run_underlying ht, run_underlying ht2, sizeOf, typeInfo, zeroValue, asInt, asIntOf, w1, hlt, hbig, hi, hz, hn, h63', h48', h0, e0, Question.forced, ho, newRow, grownCap]
  try (intro hx; exfalso; omega)
 ·simp [Builtin.append_, run_underlying ht, run_underlying ht2, sizeOf, typeInfo, zeroValue, asInt, asIntOf, w1, hlt, hbig, hi, hz, hn, h63', h48', h0, Question.forced, ho, newRow, grownCap]
  try (intro hx; exfalso; omega)
theorem grown_row_run {t t2 ty e new sLen sCap : Nat} {z : Value} {c : Cd} {base : Option Addr} {uy : Value} {nc olds : List Value} {old news : List c.den} {nl : Option Bool} (h : SimAt E R μ sl bl fr a w) (hf : fr new)
  (hzs : z.cells.size = c.size)
  (hrun : (Builtin.append_ #[t, t2] ty #[.slice base sLen sCap, uy]).run P w = .ok (.slice (some ⟨w.heap.size, 0, none⟩) (sLen + news.length) (grownCap w (sLen + news.length) sCap e)) (w.drew.alloc (.cells (olds.toArray ++ nc.toArray ++ Builtin.zeroCells z.cells (grownCap w (sLen + news.length) sCap e - (sLen + news.length))) e)))
  (hnl : nc.length = news.length * c.size) (hna : RAt w R μ (fun m => nc[m]?) c news)
  (hol : old.length = sLen) (hoc : olds.length = sLen * c.size) (hoa : RAt w R μ (fun m => olds[m]?) c old)
  (h63 : sLen + news.length ≤ maxI) (hnl2 : nl ≠ some true := by first | assumption | (simp; done)) :
  ∃ u w' μ', (Builtin.append_ #[t, t2] ty #[.slice base sLen sCap, uy]).run P w = .ok u w' ∧ SimAt E R μ' sl (putB bl new (some (.row false nl c (old ++ news)))) (fun j => fr j ∧ j ≠ new) a w' ∧ VRep w' R μ' (.ref new 0 (sLen + news.length)) u := by
 have hge := grownCap_ge w (sLen + news.length) sCap e
 have hle : grownCap w (sLen + news.length) sCap e ≤ maxI := by have := grownCap_le_maxLen w (sLen + news.length) sCap e (by unfold maxLen; unfold maxI at h63; omega); unfold maxLen at this; unfold maxI; omega
 have hzc : ∀ n, (Builtin.zeroCells z.cells n).size = n * c.size := fun n => by simp [Builtin.zeroCells, hzs]
 have hD := h.sameHeap (w' := w.drew) rfl rfl rfl rfl
 have hat : RAt w.drew R μ (fun m => (olds.toArray ++ nc.toArray ++ Builtin.zeroCells z.cells (grownCap w (sLen + news.length) sCap e - (sLen + news.length)))[m]?) c (old ++ news) := by
  refine (hoa.append hna (h := fun m => (olds.toArray ++ nc.toArray ++ Builtin.zeroCells z.cells (grownCap w (sLen + news.length) sCap e - (sLen + news.length)))[m]?) ?_ ?_).mono (fun _ _ _ h => h) (fun _ _ => rfl) (fun _ h => h) (fun _ _ h => h)
  ·intro m u hm hu
   rw [hol, ← hoc] at hm
   rw [Array.getElem?_append_left (by simp; omega), Array.getElem?_append_left (by simpa using hm)]
   simpa using hu
  ·intro m u hm hu
   rw [← hnl] at hm
   rw [hol, ← hoc]
   rw [Array.getElem?_append_left (by simp; omega), Array.getElem?_append_right (by simp)]
   simpa using hu
 have hnew := hD.newRow_sound' (us := olds.toArray ++ nc.toArray ++ Builtin.zeroCells z.cells (grownCap w (sLen + news.length) sCap e - (sLen + news.length))) (l := old ++ news) (len := sLen + news.length) (nl := nl) (grownCap w (sLen + news.length) sCap e) e hf hat (by simp [hol]) hge hle (by
  simp only [Array.size_append, List.size_toArray, hzc, hoc, hnl, ← Nat.add_mul]
  exact Nat.mul_le_mul_right _ (by omega))
 exact ⟨_, _, updM μ new (.at w.heap.size 0 c.size (grownCap w (sLen + news.length) sCap e) (sLen + news.length)), hrun, hnew, .ref new 0 _ w.heap.size 0 c.size _ _ ⟨w.heap.size, 0, none⟩ (updM_self _ _ _) hge (by omega) hle (.inr (by simp))⟩

theorem run_app_room_z' {t t2 ty e k : Nat} {kd kd2 : IntKind} {i : TypeInfo} {z : Value} {base : Option Addr} {sLen sCap : Nat} {m : Int} {nc : List Value} (ht : P.underlying t = some (.slice e)) (ht2 : P.underlying t2 = some (.int kd2)) (hi : P.info? e = some i) (hz : i.zero = some z) (hzs : z.cells.size = i.size)
  (hm : 0 ≤ m ∧ m ≤ 1000000) (hk : k = m.toNat) (hn : (Builtin.zeroCells z.cells m.toNat).toList = nc) (hb : (sLen + k) * i.bytes ≤ 140737488355328) (hr : sLen + k ≤ sCap) :
  (Builtin.append_ #[t, t2] ty #[.slice base sLen sCap, .int kd m]).run P w = match base with
   | some a => ((storeCells (a.add (sLen * i.size)) nc).run P w).andThen fun _ w' => .ok (.slice base (sLen + k) sCap) w'
   | none => .ok (.slice none (sLen + k) sCap) w := by
 subst hk hn
 exact run_app_room_z ht ht2 hi hz hzs hm hb hr
theorem run_app_grow_z' {t t2 ty e k : Nat} {kd kd2 : IntKind} {i : TypeInfo} {z : Value} {base : Option Addr} {sLen sCap : Nat} {m : Int} {olds nc : List Value} (ht : P.underlying t = some (.slice e)) (ht2 : P.underlying t2 = some (.int kd2)) (hi : P.info? e = some i) (hz : i.zero = some z) (hzs : z.cells.size = i.size)
  (hm : 0 ≤ m ∧ m ≤ 1000000) (hk : k = m.toNat) (hn : (Builtin.zeroCells z.cells m.toNat).toList = nc) (ho : (Builtin.firstCells i.size sLen (.slice base sLen sCap)).run P w.drew = .ok olds.toArray w.drew) (hr : sCap < sLen + k)
  (hb : (sLen + k) * i.bytes ≤ 140737488355328) (h63 : sLen + k ≤ maxI) :
  (Builtin.append_ #[t, t2] ty #[.slice base sLen sCap, .int kd m]).run P w =
   .ok (.slice (some ⟨w.heap.size, 0, none⟩) (sLen + k) (grownCap w (sLen + k) sCap e)) (w.drew.alloc (.cells (olds.toArray ++ nc.toArray ++ Builtin.zeroCells z.cells (grownCap w (sLen + k) sCap e - (sLen + k))) e)) := by
 subst hk hn
 exact run_app_grow_z ht ht2 hi hz hzs hm ho hr hb h63
theorem appendZ_core {new t t2 ty e id lo n : Nat} {kd kd2 : IntKind} {m : Int} {nl : Option Bool} {c : Cd} {l : List c.den} {i : TypeInfo} {z : Value} {z0 : c.den} {uv : Value} (h : SimAt E R μ sl bl fr a w) (hs : ∀ id B, blr id = some B → bl id = some B) (hnf : fr new) (hv : VRep w R μ (.ref id lo n) uv) (hb : blr id = some (.row false nl c l))
  (ht : P.underlying t = some (.slice e)) (ht2 : P.underlying t2 = some (.int kd2)) (hi : P.info? e = some i) (hsz : i.size = c.size) (hz : i.zero = some z) (hzs : z.cells.size = c.size) (hzs' : z.cells.size = i.size) (hm2 : 0 ≤ m ∧ m ≤ 1000000)
  (hbd : (n + m.toNat) * i.bytes ≤ 140737488355328 ∧ n + m.toNat ≤ maxI) (hd : dec1 c (z.cells.toList.map ofConst) = some z0) :
  ∃ u w' μ', (Builtin.append_ #[t, t2] ty #[uv, .int kd m]).run P w = .ok u w' ∧ SimAt E R μ' sl (applyU bl [(id, none), (new, some (.row false (some false) c ((l.drop lo).take n ++ List.replicate m.toNat z0)))]) (fun j => fr j ∧ (j < new ∨ new + 16 ≤ j)) a w' ∧ VRep w' R μ' (.ref new 0 (n + m.toNat)) u := by
 have hzc := dec1_sound (w := w) (R := R) (μ := μ) (ofConst_reps z.cells.toList) hd
 have hzl : (Builtin.zeroCells z.cells m.toNat).toList.length = m.toNat * c.size := by simp [Builtin.zeroCells, hzs]
 have n4 : RAt w R μ (fun k => (Builtin.zeroCells z.cells m.toNat).toList[k]?) c (List.replicate m.toNat z0) := by
  intro i z2 j v hz2 hv
  have hi2 : i < m.toNat := by have := (List.getElem?_eq_some_iff.1 hz2).1; simpa using this
  rw [List.getElem?_replicate, if_pos hi2] at hz2
  simp at hz2; subst hz2
  have hj : j < c.size := by have := (List.getElem?_eq_some_iff.1 hv).1; rwa [enc_length] at this
  have hju : j < z.cells.toList.length := by simpa [hzs] using hj
  refine ⟨z.cells.toList[j], ?_, hzc.2 j v _ hv (by simp [hju])⟩
  have := range_mod z.cells m.toNat
  have hlt : (i + 1) * c.size ≤ m.toNat * c.size := Nat.mul_le_mul_right _ hi2
  rw [Nat.add_mul] at hlt
  dsimp only
  have ez : (Builtin.zeroCells z.cells m.toNat).toList = (List.replicate m.toNat ()).flatMap fun _ => z.cells.toList := by rw [← this]; rfl
  rw [ez, flat_get]
  simp only [Array.length_toList, hzs]
  rw [if_pos (by omega), Nat.mul_comm i, Nat.mul_add_mod, Nat.mod_eq_of_lt hj]
  simp [hju]
 have n5 : ∀ u ∈ (Builtin.zeroCells z.cells m.toNat).toList, u.oneCell' = true := by
  intro u hu
  obtain ⟨j, hj, rfl⟩ := List.getElem_of_mem hu
  obtain ⟨u2, g1, g2⟩ := n4.all (m := j) (by rw [List.length_replicate, ← hzl]; exact hj)
  rw [List.getElem?_eq_getElem hj] at g1
  injection g1 with g1; rw [g1]; exact g2
 have hlw : (List.replicate m.toNat z0).length = m.toNat := List.length_replicate
 have n3 : (Builtin.zeroCells z.cells m.toNat).toList.length = (List.replicate m.toNat z0).length * c.size := by rw [hlw]; exact hzl
 rw [← hlw] at hbd
 have e0 : (.ref new 0 (n + m.toNat) : V) = .ref new 0 (n + (List.replicate m.toNat z0).length) := by rw [hlw]
 rw [e0]
 clear e0
 generalize hnews : List.replicate m.toNat z0 = news at *
 generalize hncs : (Builtin.zeroCells z.cells m.toNat).toList = nc at *
 have hbl := hs _ _ hb
 obtain ⟨rb, hmu, hrep⟩ := h.mem.blk id _ hbl
 have hkill := h.kill id
 have hne : ∀ j, (fr j ∧ j ≠ new) → True := fun _ _ => trivial
 simp only [applyU]
 cases hv with
 | vac _ ao hr =>
  rw [hmu] at hr; simp at hr; subst hr
  cases hrep with
  | vac =>
  by_cases hz0 : news.length = 0
  ·have : news = [] := List.eq_nil_of_length_eq_zero hz0
   subst this
   have : nc = [] := List.eq_nil_of_length_eq_zero (by simpa using n3)
   subst this
   have hrun := run_app_room_z' (P := P) (w := w) (ty := ty) (kd := kd) (base := ao) (sLen := 0) (sCap := 0) ht ht2 hi hz hzs' hm2 hlw hncs (by simp) (by simp)
   refine ⟨.slice ao 0 0, w, _, ?_, (hkill.newVac hnf ao false (some false) c).fr_mono (fun j hj => ⟨hj.1, by omega⟩), .vac new ao (updM_self _ _ _)⟩
   rw [hrun]
   cases ao <;> simp [storeCells]
  ·obtain ⟨u, w', μ', g1, g2, g3⟩ := grown_row_run (P := P) (w := w) (ty := ty) (old := ([] : List c.den)) (olds := []) (base := ao) (sLen := 0) (sCap := 0) (nl := some false) hkill hnf hzs (run_app_grow_z' (olds := []) ht ht2 hi hz hzs' hm2 hlw hncs (by cases ao <;> simp [Builtin.firstCells, loadCells, loadCellsFrom]) (by omega) (by simpa using hbd.1) (by simpa using hbd.2)) n3 n4 rfl (by simp) (RAt.nil _ _) (by simpa using hbd.2)
   exact ⟨u, w', μ', g1, by simpa using g2.fr_mono (fun j hj => ⟨hj.1, by omega⟩), by simpa using g3⟩
 | ref _ _ _ b off k cap len A hr h0 h3 h4 h5 =>
  rw [hmu] at hr; simp at hr; subst hr
  cases hrep with
  | row _ _ _ _ _ _ _ _ _ cur e' hk' hh q1 q2 q3 q4 q5 =>
  subst hk'
  have hlen : ((l.drop lo).take n).length = n := by rw [List.length_take, List.length_drop]; omega
  have hat0 : RAt w R μ (fun m => cur[off + m]?) c l := fun i z j v hz hv => q4 i z j v hz hv
  have hat := hat0.sub lo n
  by_cases hroom : n + news.length ≤ cap - lo
  ·have hrun := run_app_room_z' (P := P) (w := w) (ty := ty) (kd := kd) (base := some A) (sLen := n) (sCap := cap - lo) ht ht2 hi hz hzs' hm2 hlw hncs hbd.1 hroom
   by_cases hc0 : cap - lo = 0
   ·have hn0 : n = 0 := by omega
    have hnw : news = [] := List.eq_nil_of_length_eq_zero (by omega)
    subst hn0 hnw
    have : nc = [] := List.eq_nil_of_length_eq_zero (by simpa using n3)
    subst this
    refine ⟨.slice (some A) 0 0, w, updM μ new (.vac (some A)), ?_, ?_, .vac new (some A) (updM_self _ _ _)⟩
    ·rw [hrun]; simp [storeCells, hc0]
    ·have := (hkill.newVac hnf (some A) false (some false) c).fr_mono (fr' := fun j => fr j ∧ (j < new ∨ new + 16 ≤ j)) (fun j hj => ⟨hj.1, by omega⟩)
     simpa using this
   ·rcases h5 with h5 | rfl
    ·exact absurd h5 hc0
    ·have hcl : (cap - lo) * c.size + lo * c.size = cap * c.size := by rw [← Nat.add_mul]; congr 1; omega
     have hrm : (n + news.length) * c.size ≤ (cap - lo) * c.size := Nat.mul_le_mul_right _ hroom
     rw [Nat.add_mul] at hrm
     have hfit : off + lo * c.size + n * c.size + 0 + nc.length ≤ cur.size := by rw [n3]; omega
     have hst := run_storeCells_at P b (off + lo * c.size + n * c.size) e' nc 0 cur w hh hfit n5
     simp only [Nat.add_zero] at hst
     have e2 : cur.toList.take (off + lo * c.size + n * c.size) ++ nc ++ cur.toList.drop (off + lo * c.size + n * c.size + nc.length) = setCells cur.toList (off + lo * c.size + n * c.size) nc := (setCells_eq _ _ _ (by simpa using hfit)).symm
     rw [e2] at hst
     have hw : ∀ k, R k → (w.setRow b (setCells cur.toList (off + lo * c.size + n * c.size) nc).toArray).heap[k]? = w.heap[k]? := fun k hR => setRow_other _ _ _ _ (fun e => by subst e; exact h.mem.sep id _ _ k hbl rfl hmu rfl hR)
     refine ⟨.slice (some ⟨b, off + lo * c.size, none⟩) (n + news.length) (cap - lo), w.setRow b (setCells cur.toList (off + lo * c.size + n * c.size) nc).toArray, updM μ new (.at b (off + lo * c.size) c.size (cap - lo) (n + news.length)), ?_, ?_, .ref new 0 _ b (off + lo * c.size) c.size (cap - lo) (n + news.length) _ (updM_self _ _ _) hroom (by omega) (by omega) (.inr (by simp))⟩
     ·rw [hrun]
      simp only [addr_add, hsz, hst, Result.andThen_ok]
     ·refine (h.move (B' := .row false (some false) c ((l.drop lo).take n ++ news)) hbl rfl hmu rfl hnf rfl (setRow_size _ _ _) (fun k hk => setRow_other _ _ _ _ hk) rfl rfl rfl ?_ rfl).fr_mono (fun j hj => ⟨hj.1, by omega⟩)
      refine .row b (off + lo * c.size) c.size (cap - lo) (n + news.length) false _ c _ _ e' rfl (setRow_heap w b cur _ e' _ hh) ⟨by simp [hlen], hroom⟩ (by omega) (by simp [setCells_length]; omega) ?_ (by simp)
      have hall : RAt (w.setRow b (setCells cur.toList (off + lo * c.size + n * c.size) nc).toArray) R μ (fun m => (setCells cur.toList (off + lo * c.size + n * c.size) nc)[off + lo * c.size + m]?) c ((l.drop lo).take n ++ news) := by
       refine (hat.append n4 (h := fun m => (setCells cur.toList (off + lo * c.size + n * c.size) nc)[off + lo * c.size + m]?) ?_ ?_).mono (fun _ _ _ h => h) hw (fun _ h => h) (fun _ _ h => h)
       ·intro m u hm hu
        rw [hlen] at hm
        rw [setCells_get _ _ _ _ (by simpa using hfit), if_neg (by omega), ← hu]
        simp [Nat.add_assoc]
       ·intro m u hm hu
        rw [← n3] at hm
        rw [hlen, setCells_get _ _ _ _ (by simpa using hfit), if_pos (by omega), ← hu]
        congr 1; omega
      intro i z j v hz hv
      obtain ⟨u, hu1, hu2⟩ := hall i z j v hz hv
      exact ⟨u, by simpa using hu1, hu2⟩
  ·obtain ⟨olds, o1, o2, o3, o4⟩ := hat.list
   rw [hlen] at o1
   have hof : ∀ w2 : World, w2.heap = w.heap → (Builtin.firstCells c.size n (.slice (some A) n (cap - lo))).run P w2 = .ok olds.toArray w2 := fun w2 e2 => by
    by_cases hn0 : n = 0
    ·subst hn0
     have : olds = [] := List.eq_nil_of_length_eq_zero (by simpa using o1)
     subst this
     simp [Builtin.firstCells, loadCells, loadCellsFrom]
    ·rcases h5 with h5 | rfl
     ·omega
     ·refine firstCells_some o1 (fun j hj => ?_)
      have heapCell : ∀ B, w2.cell? B = w.cell? B := fun B => by simp [World.cell?, e2]
      rw [heapCell, addr_add, cell_of_row w b _ cur _ (0, 0) hh, ← o2 j hj]
      congr 1; omega
   obtain ⟨u, w', μ', g1, g2, g3⟩ := grown_row_run (P := P) (w := w) (ty := ty) (old := (l.drop lo).take n) (olds := olds) (base := some A) (sLen := n) (sCap := cap - lo) (nl := some false) hkill hnf hzs (run_app_grow_z' (kd := kd) ht ht2 hi hz hzs' hm2 hlw hncs (by rw [hsz]; exact hof _ rfl) (by omega) hbd.1 hbd.2) n3 n4 hlen o1 o3 hbd.2
   exact ⟨u, w', μ', g1, g2.fr_mono (fun j hj => ⟨hj.1, by omega⟩), g3⟩
theorem appendZ_sound {new t t2 ty : Nat} {kd : IntKind} {v v' : V} {m : Int} {uv uy : Value} {us : Upd} (h : SimAt E R μ sl bl fr a w) (hs : ∀ id B, blr id = some B → bl id = some B) (hf : ∀ c, c < 16 → fr (new + c)) (hv : VRep w R μ v uv) (hy : VRep w R μ (.i kd m) uy)
  (hk : appendZ P blr new t t2 v m (fun v us => some (v, us)) = some (v', us)) :
  ∃ u w' μ', (Builtin.append_ #[t, t2] ty #[uv, uy]).run P w = .ok u w' ∧ SimAt E R μ' sl (applyU bl us) (fun j => fr j ∧ (j < new ∨ new + 16 ≤ j)) a w' ∧ VRep w' R μ' v' u := by
 have hnf := hf 0 (by omega)
 rw [Nat.add_zero] at hnf
 cases hy
 unfold appendZ at hk
 split at hk
 ·rename_i e he
  have ht : P.underlying t = some (.slice e) := by
   unfold elemT at he
   split at he
   ·simp at he; subst he; assumption
   ·cases he
  split at hk
  ·rename_i kd2 ht2
   split at hk
   ·rename_i id lo n
    split at hk
    ·rename_i nl c l hb
     split at hk
     ·rename_i zs hrow
      split at hk
      ·rename_i z0 hd
       obtain ⟨hel, hk⟩ := ifT_some hk
       obtain ⟨hbd, hk⟩ := ifT_some hk
       simp at hk; obtain ⟨rfl, rfl⟩ := hk
       simp only [Bool.and_eq_true, decide_eq_true_eq] at hbd
       obtain ⟨i, z, hi, hsz, hz, hzs⟩ := elOk_spec hel
       have hby : P.bytesOf e = i.bytes := by simp [Program.bytesOf, hi]
       rw [hby] at hbd
       obtain ⟨hm2, hbd⟩ := hbd
       have hzs' : z.cells.size = i.size := by rw [hzs, hsz]
       have hdd : dec1 c (z.cells.toList.map ofConst) = some z0 := by
        unfold zeroRow at hrow
        rw [hi] at hrow
        simp [hz] at hrow
        rw [hrow]; exact hd
       exact appendZ_core h hs hnf hv hb ht ht2 hi hsz hz hzs hzs' hm2 hbd hdd
      ·cases hk
     ·cases hk
    ·cases hk
   ·cases hk
  ·cases hk
 ·cases hk
end
end Go.Proofs.YtcjnmdcagfgjoaaGreatDoor.Den
/- A call: what goes along, what comes back. -/
namespace Go.Proofs.YtcjnmdcagfgjoaaGreatDoor.Den

theorem enc_plain : ∀ (c : Cd) (z : c.den) (v : V), v ∈ enc c z → v.plain = true
 | .int _, _, v, h => by simp [enc] at h; subst h; rfl
 | .bool, _, v, h => by simp [enc] at h; subst h; rfl
 | .str, _, v, h => by simp [enc] at h; subst h; rfl
 | .slice _, _, v, h => by simp [enc] at h; subst h; rfl
 | .unit, _, v, h => by simp [enc] at h
 | .pair a b, z, v, h => by
  simp only [enc, List.mem_append] at h
  rcases h with h | h
  ·exact enc_plain a z.1 v h
  ·exact enc_plain b z.2 v h
 | .rose c, z, v, h => by
  simp only [enc, List.mem_append, List.mem_singleton] at h
  rcases h with h | h
  ·exact enc_plain c z.lab v h
  ·subst h; rfl
 | .tree _, _, v, h => by simp [enc] at h; subst h; rfl
theorem encN_at_plain {c : Cd} {z : Rose c.den} {j : Nat} {v : V} (h : (encN c z)[j]? = some v) : v.plain = true := by
 have := List.mem_of_getElem? h
 simp only [encN, List.mem_append, List.mem_singleton] at this
 rcases this with h | h
 ·exact enc_plain c z.lab v h
 ·subst h; rfl
theorem enc_at_plain {c : Cd} {z : c.den} {j : Nat} {v : V} (h : (enc c z)[j]? = some v) : v.plain = true := enc_plain c z v (List.mem_of_getElem? h)

section
variable {P : Program} {E : Env} {R : Nat → Prop} {μ μ' : Nat → Option RB} {sl : List V} {bl blr : Nat → Option Blk} {fr : Nat → Prop} {a : Act} {w : World}

theorem VRep.anyM {v : V} {u : Value} (h : VRep w R μ v u) (μ' : Nat → Option RB) (hp : v.plain = true) : VRep w R μ' v u := by
 induction h with
 | b c => exact .b c
 | i k n => exact .i k n
 | s l => exact .s l
 | sl c l ao cap U h1 h2 h3 h4 ih => exact .sl c l ao cap U h1 h2 h3 (fun i z j v hz hv => ih i z j v hz hv (enc_at_plain hv))
 | np => exact .np
 | tp c z o b U h1 h3 h4 ih => exact .tp c z o b U h1 h3 (fun j v hv => ih j v hv (encN_at_plain hv))
 | _ => simp [V.plain] at hp

theorem ren_sound {ρ : Nat → Option Nat} (hρ : ∀ id j rb, ρ id = some j → μ id = some rb → μ' j = some rb) : ∀ (d : Nat) (v : V) (u : Value), VRep w R μ v u → VRep w R μ' (renV ρ d v) u
 | 0, v, u, _ => .unk u
 | d + 1, v, u, h => by
  have many : ∀ (vs : List V) (us : Array Value), us.size = vs.length → (∀ (j : Nat) v u, vs[j]? = some v → us[j]? = some u → VRep w R μ v u) → us.size = (vs.map (renV ρ d)).length ∧ ∀ (j : Nat) v u, (vs.map (renV ρ d))[j]? = some v → us[j]? = some u → VRep w R μ' v u := fun vs us h1 h2 =>
   ⟨by simpa using h1, fun j v u hv hu => by
    rw [List.getElem?_map] at hv
    obtain ⟨v0, hv0, rfl⟩ := Option.map_eq_some_iff.1 hv
    exact ren_sound hρ d v0 u (h2 j v0 u hv0 hu)⟩
  cases h with
  | unk => exact .unk _
  | b c => exact .b c
  | ub c => exact .ub c
  | i k n => exact .i k n
  | s l => exact .s l
  | nl => exact .nl
  | sl c l ao cap U h1 h2 h3 h4 => exact (VRep.sl c l ao cap U h1 h2 h3 h4).anyM μ' rfl
  | vac id ao h =>
   simp only [renV]
   cases e : ρ id with
   | none => exact .unk _
   | some j => exact .vac j ao (hρ _ _ _ e h)
  | ref id lo n b off k cap len A h h0 h1 h2 h3 =>
   simp only [renV]
   cases e : ρ id with
   | none => exact .unk _
   | some j => exact .ref j lo n b off k cap len A (hρ _ _ _ e h) h0 h1 h2 h3
  | ptr id o b h =>
   simp only [renV]
   cases e : ρ id with
   | none => exact .unk _
   | some j => exact .ptr j o b (hρ _ _ _ e h)
  | el id i o b off k cap len h =>
   simp only [renV]
   cases e : ρ id with
   | none => exact .unk _
   | some j => exact .el j i o b off k cap len (hρ _ _ _ e h)
  | rp c l i o b off U h1 h3 h4 => exact .rp c l i o b off U h1 h3 (fun i z j v hz hv => (h4 i z j v hz hv).anyM μ' (enc_at_plain hv))
  | bx cs o b U h1 hp h3 h4 => exact .bx cs o b U h1 hp h3 (fun j v hv => (h4 j v hv).anyM μ' (List.all_eq_true.1 hp v (List.mem_of_getElem? hv)))
  | np => exact .np
  | tp c z o b U h1 h3 h4 => exact (VRep.tp c z o b U h1 h3 h4).anyM μ' rfl
  | mref id b h =>
   simp only [renV]
   cases e : ρ id with
   | none => exact .unk _
   | some j => exact .mref j b (hρ _ _ _ e h)
  | fn f a c ua uc h1 h2 h3 h4 =>
   obtain ⟨g1, g2⟩ := many a ua h1 h3
   obtain ⟨g3, g4⟩ := many c uc h2 h4
   exact .fn f _ _ ua uc g1 g3 g2 g4
  | agg cs us h1 h2 => obtain ⟨g1, g2⟩ := many cs us h1 h2; exact .agg _ us g1 g2
  | tup cs us h1 h2 => obtain ⟨g1, g2⟩ := many cs us h1 h2; exact .tup _ us g1 g2
theorem ren_reps {ρ : Nat → Option Nat} (hρ : ∀ id j rb, ρ id = some j → μ id = some rb → μ' j = some rb) (d : Nat) {vs : List V} {us : List Value} (h : Reps w R μ vs us) : Reps w R μ' (vs.map (renV ρ d)) us :=
 ⟨by simpa using h.1, fun j v u hv hu => by
  rw [List.getElem?_map] at hv
  obtain ⟨v0, hv0, rfl⟩ := Option.map_eq_some_iff.1 hv
  exact ren_sound hρ d v0 u (h.2 j v0 u hv0 hu)⟩
theorem renB_sound {ρ : Nat → Option Nat} (hρ : ∀ id j rb, ρ id = some j → μ id = some rb → μ' j = some rb) {rb : RB} {B : Blk} (h : BRep w R μ rb B) : BRep w R μ' rb (renB ρ B) := by
 cases h with
 | box b cs us e h h1 h2 =>
  have := ren_reps hρ 5 (vs := cs) (us := us.toList) ⟨by simpa using h1, fun j v u hv hu => h2 j v u hv (by simpa using hu)⟩
  exact .box b _ us e h (by simpa using this.1) (fun j v u hv hu => this.2 j v u hv (by simpa using hu))
 | vac ao ro nl c => exact .vac ao ro nl c
 | row b off k cap len ro nl c l us e hk h h1 h2 h3 h4 h5 => exact .row b off k cap len ro nl c l us e hk h h1 h2 h3 (fun i z j v hz hv => by obtain ⟨u, hu, hr⟩ := h4 i z j v hz hv; exact ⟨u, hu, hr.anyM μ' (enc_at_plain hv)⟩) h5
 | mp b kc vc l es clock h hk h1 h2 h3 => exact .mp b kc vc l es clock h hk h1 (fun i e z v he hz hv => (h2 i e z v he hz hv).anyM μ' (enc_at_plain hv)) (fun i e z v he hz hv => (h3 i e z v he hz hv).anyM μ' (enc_at_plain hv))
theorem renB_own (ρ : Nat → Option Nat) (B : Blk) : (renB ρ B).own = B.own := by cases B <;> rfl

theorem clean_sound {R' : Nat → Prop} : ∀ (d : Nat) (v : V) (u : Value), cleanV d v = true → VRep w R μ v u → VRep w R' μ v u
 | 0, v, u, hc, _ => by simp [cleanV] at hc
 | d + 1, v, u, hc, h => by
  have many : ∀ (vs : List V) (us : Array Value), vs.all (cleanV d) = true → (∀ (j : Nat) v u, vs[j]? = some v → us[j]? = some u → VRep w R μ v u) → ∀ (j : Nat) v u, vs[j]? = some v → us[j]? = some u → VRep w R' μ v u := fun vs us h1 h2 j v u hv hu =>
   clean_sound d v u (List.all_eq_true.1 h1 v (List.mem_of_getElem? hv)) (h2 j v u hv hu)
  cases h with
  | unk => exact .unk _
  | b c => exact .b c
  | ub c => exact .ub c
  | i k n => exact .i k n
  | s l => exact .s l
  | nl => exact .nl
  | sl => simp [cleanV] at hc
  | vac id ao h => exact .vac id ao h
  | ref id lo n b off k cap len A h h0 h1 h2 h3 => exact .ref id lo n b off k cap len A h h0 h1 h2 h3
  | ptr id o b h => exact .ptr id o b h
  | el id i o b off k cap len h => exact .el id i o b off k cap len h
  | rp => simp [cleanV] at hc
  | bx => simp [cleanV] at hc
  | np => exact .np
  | tp => simp [cleanV] at hc
  | mref id b h => exact .mref id b h
  | fn f a c ua uc h1 h2 h3 h4 =>
   simp only [cleanV, Bool.and_eq_true] at hc
   exact .fn f _ _ ua uc h1 h2 (many a ua hc.1 h3) (many c uc hc.2 h4)
  | agg cs us h1 h2 => exact .agg _ us h1 (many cs us hc h2)
  | tup cs us h1 h2 => exact .tup _ us h1 (many cs us hc h2)
theorem flat_plain : ∀ (c : Cd) (z : c.den) (v : V), c.flat = true → v ∈ enc c z → (∃ k n, v = .i k n) ∨ (∃ b, v = .b b) ∨ ∃ l, v = .s l
 | .int _, _, v, _, h => by simp [enc] at h; exact .inl ⟨_, _, h⟩
 | .bool, _, v, _, h => by simp [enc] at h; exact .inr (.inl ⟨_, h⟩)
 | .str, _, v, _, h => by simp [enc] at h; exact .inr (.inr ⟨_, h⟩)
 | .slice _, _, v, hf, h => by simp [Cd.flat] at hf
 | .unit, _, v, _, h => by simp [enc] at h
 | .rose _, _, v, hf, h => by simp [Cd.flat] at hf
 | .tree _, _, v, hf, h => by simp [Cd.flat] at hf
 | .pair a b, z, v, hf, h => by
  simp only [Cd.flat, Bool.and_eq_true] at hf
  simp only [enc, List.mem_append] at h
  rcases h with h | h
  ·exact flat_plain a z.1 v hf.1 h
  ·exact flat_plain b z.2 v hf.2 h
theorem flat_any {R' : Nat → Prop} {c : Cd} {z : c.den} {j : Nat} {v : V} {u : Value} (hf : c.flat = true) (hv : (enc c z)[j]? = some v) (h : VRep w R μ v u) : VRep w R' μ v u := by
 rcases flat_plain c z v hf (List.mem_of_getElem? hv) with ⟨k, n, rfl⟩ | ⟨b, rfl⟩ | ⟨l, rfl⟩
 ·cases h; exact .i _ _
 ·cases h; exact .b _
 ·cases h; exact .s _

theorem snapV_sound {pt : Bool} {R' : Nat → Prop} (hm : Mem w R μ bl) (hRR : ∀ b, R b → R' b) : ∀ (d : Nat) (v v' : V) (ids : List Nat) (u : Value), VRep w R μ v u → snapV bl pt d v = some (v', ids) → (∀ id ∈ ids, ∀ rb x, μ id = some rb → rb.real = some x → R' x) → VRep w R' μ v' u
 | 0, v, v', ids, u, _, h, _ => by simp [snapV] at h
 | d + 1, v, v', ids, u, hv, h, hR => by
  have same : ∀ v'', some (v'', ([] : List Nat)) = some (v', ids) → VRep w R μ v'' u → VRep w R' μ v' u := fun v'' e hq => by
   simp at e; obtain ⟨rfl, rfl⟩ := e; exact hq.mono (fun _ _ => rfl) hRR (fun _ _ h => h)
  unfold snapV at h
  split at h
  ·rename_i id lo n
   exact closeV_sound hm hRR 1 (.ref id lo n) v' ids u hv (by simpa [closeV] using h) hR
  ·rename_i cs
   split at h
   ·rename_i l ids hl
    simp at h; obtain ⟨rfl, rfl⟩ := h
    cases hv with
    | agg _ us h1 h2 =>
    have := mapO_sound (w := w) (R := R) (R' := R') (μ := μ) (fun v v' ids u hv hf hi => snapV_sound hm hRR d v v' ids u hv hf hi) cs l ids us.toList ⟨by simp [h1], fun j v u hv hu => h2 j v u hv (by simpa using hu)⟩ hl hR
    exact .agg l us (by have := this.1; simpa using this) (fun j v u hv hu => this.2 j v u hv (by simpa using hu))
   ·cases h
  ·rename_i id o
   split at h
   ·exact same _ h hv
   split at h
   ·rename_i cs hb
    split at h
    ·rename_i l ids' hl
     split at h
     ·rename_i hp
      obtain ⟨rb, hmu, hrep⟩ := hm.blk id _ hb
      cases hv with
      | ptr _ _ b hr =>
      rw [hmu] at hr; simp at hr; subst hr
      cases hrep with
      | box _ _ us e hh h1 h2 =>
      have hids : (∀ i ∈ id :: ids', ∀ rb x, μ i = some rb → rb.real = some x → R' x) → R' b ∧ Reps w R' μ l us.toList := fun hR => ⟨hR id (List.mem_cons_self ..) _ b hmu rfl,
       mapO_sound (w := w) (R := R) (R' := R') (μ := μ) (fun v v' ids u hv hf hi => snapV_sound hm hRR d v v' ids u hv hf hi) cs l ids' us.toList ⟨by simp [h1], fun j v u hv hu => h2 j v u hv (by simpa using hu)⟩ hl (fun id' hi => hR id' (List.mem_cons_of_mem _ hi))⟩
      split at h
      ·rename_i v2 hn
       simp at h; obtain ⟨rfl, rfl⟩ := h
       obtain ⟨hb', this⟩ := hids hR
       obtain ⟨c, z, rfl, g2⟩ := nodeOf_sound this hn
       refine .tp c z 0 b (fun j => us[j]!) hb' (fun j v hv => ?_) (fun j v hv => ?_)
       ·have hj : j < us.size := by have := (List.getElem?_eq_some_iff.1 hv).1; rw [← g2.1] at this; simpa using this
        rw [cell_of_row w b j us e (0, 0) hh]; simp [hj]
       ·have hj : j < us.size := by have := (List.getElem?_eq_some_iff.1 hv).1; rw [← g2.1] at this; simpa using this
        exact g2.2 j v _ hv (by simp [hj])
      ·simp at h; obtain ⟨rfl, rfl⟩ := h
       obtain ⟨hb', this⟩ := hids hR
       have hlen : us.size = l.length := by have := this.1; simpa using this
       refine .bx l _ b (fun j => us[j]!) hb' hp (fun j v hv => ?_) (fun j v hv => ?_)
       ·have hj : j < us.size := by rw [hlen]; exact (List.getElem?_eq_some_iff.1 hv).1
        rw [cell_of_row w b j us e (0, 0) hh]
        simp [hj]
       ·have hj : j < us.size := by rw [hlen]; exact (List.getElem?_eq_some_iff.1 hv).1
        exact this.2 j v _ hv (by simp [hj])
     ·exact same _ h hv
    ·exact same _ h hv
   ·exact same _ h hv
  ·exact same _ h hv
end
end Go.Proofs.YtcjnmdcagfgjoaaGreatDoor.Den
/- What a call does to the memory that the machine knows. -/
namespace Go.Proofs.YtcjnmdcagfgjoaaGreatDoor.Den

def Owned (bl : Nat → Option Blk) (μ : Nat → Option RB) (x : Nat) : Prop := ∃ j B rb, bl j = some B ∧ B.own = true ∧ μ j = some rb ∧ rb.real = some x

def Was (bl : Nat → Option Blk) (μ : Nat → Option RB) (x : Nat) : Prop := ∃ j B rb, bl j = some B ∧ μ j = some rb ∧ rb.real = some x
structure Left (w : World) (R : Nat → Prop) (μ : Nat → Option RB) (bl : Nat → Option Blk) (r : V) (outs : List (Option Blk)) (u : Value) (w' : World) (R' : Nat → Prop) (μ' : Nat → Option RB) : Prop where
 val : VRep w' R' μ' r u
 mem : Mem w' R' μ' (fun j => (outs[j]?).join)
 os : w'.os = w.os
 tape : w'.tape = w.tape
 output : w'.output = w.output
 grow : w.heap.size ≤ w'.heap.size
 same : ∀ k, k < w.heap.size → ¬ Owned bl μ k → w'.heap[k]? = w.heap[k]?
 r0 : ∀ x, R x → R' x
 rT : ∀ x, R' x → R x ∨ Owned bl μ x ∨ w.heap.size ≤ x
 ownT : ∀ j B rb x, (outs[j]?).join = some B → B.own = true → μ' j = some rb → rb.real = some x → Owned bl μ x ∨ w.heap.size ≤ x
 allT : ∀ j B rb x, (outs[j]?).join = some B → μ' j = some rb → rb.real = some x → Was bl μ x ∨ w.heap.size ≤ x
 ext : ∀ j rb, μ j = some rb → μ' j = some rb
 none : ∀ j, outs.length ≤ j → μ' j = none

def Contract (P : Program) (K : FuncId) (F : List V → List Blk → Option (V × List (Option Blk))) : Prop :=
 ∀ (w : World) (R : Nat → Prop) (μ : Nat → Option RB) (vs : List V) (us : List Value) (bs : List Blk) (r : V) (outs : List (Option Blk)),
  Mem w R μ (fun j => bs[j]?) → (∀ j, bs.length ≤ j → μ j = none) → Reps w R μ vs us → F vs bs = some (r, outs) →
  Calls P K us.toArray w fun e w' => ∃ u R' μ', e = .returned u ∧ Left w R μ (fun j => bs[j]?) r outs u w' R' μ'

section
variable {P : Program} {E : Env} {R : Nat → Prop} {μ : Nat → Option RB} {sl : List V} {bl : Nat → Option Blk} {fr : Nat → Prop} {a : Act} {w : World}

theorem back_core {ids : List Nat} {new : Nat} {bs : List Blk} {L : Nat → Prop} {r : V} {outs : List (Option Blk)} {u : Value} {w' : World} {R' : Nat → Prop} {μc μ' : Nat → Option RB} {back : Nat → Option Nat}
  (h : SimAt E R μ sl bl fr a w) (hf : ∀ c, c < 16 → fr (new + c)) (hnd : ids.Nodup) (hbs : ∀ (j : Nat) id, ids[j]? = some id → ∃ B, bl id = some B ∧ ∃ ρ, bs[j]? = some (renB ρ B)) (hbl : bs.length = ids.length)
  (hμc : ∀ j, μc j = (ids[j]?).bind μ) (hL : ∀ x, L x → ¬ R x → ∃ id B rb, bl id = some B ∧ B.own = true ∧ μ id = some rb ∧ rb.real = some x ∧ id ∉ ids)
  (hleft : Left w (fun x => R x ∨ L x) μc (fun j => bs[j]?) r outs u w' R' μ') (hlen1 : outs.length < ids.length + 15) (hlen2 : ids.length ≤ outs.length)
  (hback : ∀ j, back j = if j < ids.length then ids[j]? else some (new + (j - ids.length)))
  (bl'' : Nat → Option Blk) (hb1 : ∀ (j : Nat) o id, outs[j]? = some o → back j = some id → bl'' id = o.map (renB back)) (hb2 : ∀ id, (∀ j, j < outs.length → back j ≠ some id) → bl'' id = bl id)
  (hclean : (∀ x, L x → R x) ∨ (cleanV 6 r = true ∧ ∀ (j : Nat) o, outs[j]? = some o → match o with | some (.row _ _ c _) => c.flat = true | some (.box cs) => cs.all (cleanV 5) = true | some (.mp _ _ _) => False | none => True)) :
  ∃ R'' μ'', SimAt E R'' μ'' sl bl'' (fun j => fr j ∧ (j < new ∨ new + 16 ≤ j)) a w' ∧ VRep w' R'' μ'' (renV back 6 r) u := by
 -- the passed blocks' owners
 have owned : ∀ x, Owned (fun j => bs[j]?) μc x → ∃ id B rb, id ∈ ids ∧ bl id = some B ∧ B.own = true ∧ μ id = some rb ∧ rb.real = some x := by
  rintro x ⟨j, B, rb, h1, h2, h3, h4⟩
  have hj : j < ids.length := by rw [← hbl]; exact (List.getElem?_eq_some_iff.1 h1).1
  obtain ⟨B0, g1, ρ, g2⟩ := hbs j ids[j] (by simp [hj])
  dsimp only at h1
  rw [g2] at h1; simp at h1; subst h1
  rw [hμc] at h3
  simp [hj] at h3
  exact ⟨ids[j], B0, rb, List.getElem_mem hj, g1, by rw [renB_own] at h2; exact h2, h3, h4⟩
 have ownedOld : ∀ id B rb x, bl id = some B → B.own = true → id ∉ ids → μ id = some rb → rb.real = some x → ¬ Owned (fun j => bs[j]?) μc x := by
  intro id B rb x h1 h2 h3 h4 h5 h6
  obtain ⟨id', B', rb', g1, g2, g3, g4, g5⟩ := owned x h6
  exact h3 (h.mem.inj id id' B B' rb rb' x h1 g2 h2 g3 h4 g4 h5 g5 ▸ g1)
 have ownedR : ∀ x, R x → ¬ Owned (fun j => bs[j]?) μc x := by
  intro x hR h6
  obtain ⟨id', B', rb', g1, g2, g3, g4, g5⟩ := owned x h6
  exact h.mem.sep id' B' rb' x g2 g3 g4 g5 hR
 let μ'' : Nat → Option RB := fun id => match μ id with | some rb => some rb | none => if new ≤ id ∧ id < new + 16 then μ' (ids.length + (id - new)) else none
 let R'' : Nat → Prop := fun x => R' x ∧ (L x → R x)
 have hx : ∀ id rb, μ id = some rb → μ'' id = some rb := fun id rb e => by simp only [μ'']; rw [e]
 have hfresh : ∀ c, c < 16 → μ'' (new + c) = μ' (ids.length + c) := fun c hc => by
  simp only [μ'']
  rw [h.free _ (hf c hc)]
  dsimp only
  rw [if_pos ⟨by omega, by omega⟩]
  congr 1; omega
 have hρ : ∀ j id rb, back j = some id → μ' j = some rb → μ'' id = some rb := by
  intro j id rb e1 e2
  rw [hback] at e1
  split at e1
  ·rename_i hj
   have hc : μc j = μ id := by rw [hμc, e1]; rfl
   cases em : μ id with
   | none =>
    -- then nothing is known of it
    obtain ⟨B, g1, _⟩ := hbs j id e1
    obtain ⟨rb0, g2, _⟩ := h.mem.blk id B g1
    rw [em] at g2; cases g2
   | some rb0 =>
    rw [em] at hc
    have := hleft.ext j rb0 hc
    rw [this] at e2
    rw [hx id rb0 em, ← e2]
  ·rename_i hj
   simp at e1; subst e1
   have hjl : j < outs.length := by
    rcases Nat.lt_or_ge j outs.length with h1 | h1
    ·exact h1
    ·rw [hleft.none j h1] at e2; cases e2
   rw [hfresh _ (by omega), ← e2]
   congr 1; omega
 have hRR : ∀ x, R x → R'' x := fun x hR => ⟨hleft.r0 x (.inl hR), fun _ => hR⟩
 have hwR : ∀ x, R x → w'.heap[x]? = w.heap[x]? := fun x hR => hleft.same x (h.mem.rlt x hR) (ownedR x hR)
 -- what leans on what stays, leans on less
 have lean : ∀ v u, VRep w' R' μ' v u → (cleanV 6 v = true ∨ ∀ x, L x → R x) → VRep w' R'' μ' v u := fun v u hv hc => by
  rcases hc with hc | hc
  ·exact clean_sound 6 v u hc hv
  ·exact hv.mono (fun _ _ => rfl) (fun x hx => ⟨hx, hc x⟩) (fun _ _ h => h)
 have was : ∀ x, Was (fun j => bs[j]?) μc x → ∃ id B rb, id ∈ ids ∧ bl id = some B ∧ μ id = some rb ∧ rb.real = some x := by
  rintro x ⟨j, B, rb, h1, h3, h4⟩
  have hj : j < ids.length := by rw [← hbl]; exact (List.getElem?_eq_some_iff.1 h1).1
  obtain ⟨B0, g1, ρ, g2⟩ := hbs j ids[j] (by simp [hj])
  rw [hμc] at h3
  simp [hj] at h3
  exact ⟨ids[j], B0, rb, List.getElem_mem hj, g1, h3, h4⟩
 -- what is lent is not among what comes back
 have notL : ∀ x, L x → ¬ R x → (Was (fun j => bs[j]?) μc x ∨ w.heap.size ≤ x) → False := by
  intro x hLx hRx hw
  obtain ⟨id, B1, rb1, g1, g2, g3, g4, g5⟩ := hL x hLx hRx
  obtain ⟨rb1', g6, g7⟩ := h.mem.blk id B1 g1
  rw [g3] at g6; simp at g6; subst g6
  rcases hw with hw | hw
  ·obtain ⟨id2, B2, rb2, k1, k2, k3, k4⟩ := was x hw
   obtain ⟨rb2', k6, k7⟩ := h.mem.blk id2 B2 k2
   rw [k3] at k6; simp at k6; subst k6
   by_cases o2 : B2.own = true
   ·exact g5 (h.mem.inj id2 id B2 B1 rb2 rb1 x k2 g1 o2 g2 k3 g3 k4 g4 ▸ k1)
   ·cases k7 with
    | box => simp [Blk.own] at o2
    | mp => simp [Blk.own] at o2
    | vac => simp [RB.real] at k4
    | row b off k cap len ro nl c l us e hk h1 h2 h3 h4 h5 h6 =>
     simp [Blk.own] at o2
     simp [RB.real] at k4; subst k4
     exact hRx (h6 o2)
  ·have := g7.lt g4; omega
 have leanB : ∀ (j : Nat) B rb, outs[j]? = some (some B) → BRep w' R' μ' rb B → μ' j = some rb → BRep w' R'' μ' rb B := fun j B rb ho hB hmj => by
  rcases hclean with hc | ⟨_, hc⟩
  ·exact hB.mono (fun _ _ => rfl) (fun _ _ => rfl) (fun x hx => ⟨hx, hc x⟩) (fun _ _ h => h)
  ·have hcj := hc j _ ho
   have hall := hleft.allT j B rb
   cases hB with
   | box b cs us e h1 h2 h3 => exact .box b cs us e h1 h2 (fun i v u hv hu => clean_sound 5 v u (List.all_eq_true.1 hcj v (List.mem_of_getElem? hv)) (h3 i v u hv hu))
   | vac ao ro nl c => exact .vac ao ro nl c
   | mp => exact hcj.elim
   | row b off k cap len ro nl c l us e hk h1 h2 h3 h4 h5 h6 =>
    refine .row b off k cap len ro nl c l us e hk h1 h2 h3 h4 (fun i z j v hz hv => by obtain ⟨u, hu, hr⟩ := h5 i z j v hz hv; exact ⟨u, hu, flat_any hcj hv hr⟩) (fun hro => ⟨h6 hro, fun hLb => ?_⟩)
    by_cases hRb : R b
    ·exact hRb
    ·exact (notL b hLb hRb (hall b (by rw [ho]; rfl) hmj rfl)).elim
 -- which number a block bears behind the call
 have split : ∀ id B, bl'' id = some B → (∃ j B0, j < outs.length ∧ back j = some id ∧ outs[j]? = some (some B0) ∧ B = renB back B0) ∨ ((∀ j, j < outs.length → back j ≠ some id) ∧ bl id = some B) := by
  intro id B hB
  by_cases he : ∃ j, j < outs.length ∧ back j = some id
  ·obtain ⟨j, h1, h2⟩ := he
   have h3 : outs[j]? = some outs[j] := by simp [h1]
   have h4 := hb1 j outs[j] id h3 h2
   rw [hB] at h4
   cases ho : outs[j] with
   | none => rw [ho] at h4; cases h4
   | some B0 => rw [ho] at h4 h3; simp at h4; exact .inl ⟨j, B0, h1, h2, h3, h4⟩
  ·have hn : ∀ j, j < outs.length → back j ≠ some id := fun j h1 h2 => he ⟨j, h1, h2⟩
   rw [hb2 id hn] at hB
   exact .inr ⟨hn, hB⟩
 have notIds : ∀ id, (∀ j, j < outs.length → back j ≠ some id) → id ∉ ids := by
  intro id hn hi
  obtain ⟨j, hj, rfl⟩ := List.getElem_of_mem hi
  exact hn j (by omega) (by rw [hback, if_pos hj]; simp [hj])
 have known : ∀ id B, bl id = some B → ∃ rb, μ id = some rb := fun id B h1 => by obtain ⟨rb, h2, _⟩ := h.mem.blk id B h1; exact ⟨rb, h2⟩
 -- of a block that came back, its place
 have place : ∀ j B0 id, outs[j]? = some (some B0) → back j = some id → ∃ rb, μ' j = some rb ∧ μ'' id = some rb ∧ BRep w' R' μ' rb B0 := fun j B0 id h1 h2 => by
  obtain ⟨rb, g1, g2⟩ := hleft.mem.blk j B0 (by rw [h1]; rfl)
  exact ⟨rb, g1, hρ j id rb h2 g1, g2⟩
 have oldReal : ∀ id B rb x, bl id = some B → μ'' id = some rb → rb.real = some x → μ id = some rb ∧ x < w.heap.size := fun id B rb x h1 h2 h3 => by
  obtain ⟨rb0, g1⟩ := known id B h1
  have := hx id rb0 g1
  rw [h2] at this; simp at this; subst this
  obtain ⟨rb1, g2, g3⟩ := h.mem.blk id B h1
  rw [g1] at g2; simp at g2; subst g2
  exact ⟨g1, g3.lt h3⟩
 refine ⟨R'', μ'', ⟨⟨?_, ?_, ?_, fun x hx => hleft.mem.rlt x hx.1⟩, h.size, fun t v u h1 h2 => (h.slot t v u h1 h2).mono hwR hRR hx, h.dfr, ?_, hleft.os.trans h.os, hleft.tape.trans h.tape, hleft.output.trans h.output, Nat.le_trans h.grow hleft.grow, ?_, ?_, ?_, fun x hx' => hRR x (h.r0 x hx'), ?_, fun j rb hj => hx j rb (h.ext j rb hj)⟩, ?_⟩
 ·intro id B hB
  rcases split id B hB with ⟨j, B0, h1, h2, h3, rfl⟩ | ⟨hn, hB⟩
  ·obtain ⟨rb, g1, g2, g3⟩ := place j B0 id h3 h2
   exact ⟨rb, g2, renB_sound (fun i k rb' e1 e2 => hρ i k rb' e1 e2) (leanB j B0 rb h3 g3 g1)⟩
  ·obtain ⟨rb, g1, g2⟩ := h.mem.blk id B hB
   refine ⟨rb, hx id rb g1, g2.mono hwR (fun b hb => hleft.same b (g2.lt hb) ?_) hRR hx⟩
   intro ho
   by_cases o1 : B.own = true
   ·exact ownedOld id B rb b hB o1 (notIds id hn) g1 hb ho
   ·cases g2 with
    | box => simp [Blk.own] at o1
    | mp => simp [Blk.own] at o1
    | vac => simp [RB.real] at hb
    | row b' off k cap len ro nl c l us e hk h1 h2 h3 h4 h5 h6 =>
     simp [Blk.own] at o1
     simp [RB.real] at hb; subst hb
     exact ownedR b' (h6 o1) ho
 ·intro id id' B B' rb rb' x h1 h2 o1 o2 m1 m2 e1 e2
  rcases split id B h1 with ⟨j, B0, a1, a2, a3, rfl⟩ | ⟨hn, hB⟩
  ·obtain ⟨r1, g1, g2, g3⟩ := place j B0 id a3 a2
   rw [m1] at g2; simp at g2; subst g2
   rw [renB_own] at o1
   rcases split id' B' h2 with ⟨j', B0', b1, b2, b3, rfl⟩ | ⟨hn', hB'⟩
   ·obtain ⟨r2, k1, k2, k3⟩ := place j' B0' id' b3 b2
    rw [m2] at k2; simp at k2; subst k2
    rw [renB_own] at o2
    have := hleft.mem.inj j j' B0 B0' rb rb' x (by rw [a3]; rfl) (by rw [b3]; rfl) o1 o2 g1 k1 e1 e2
    subst this
    rw [a2] at b2; simp at b2; exact b2
   ·exfalso
    obtain ⟨q1, q2⟩ := oldReal id' B' rb' x hB' m2 e2
    rcases hleft.ownT j B0 rb x (by rw [a3]; rfl) o1 g1 e1 with h5 | h5
    ·exact ownedOld id' B' rb' x hB' o2 (notIds id' hn') q1 e2 h5
    ·omega
  ·obtain ⟨q1, q2⟩ := oldReal id B rb x hB m1 e1
   rcases split id' B' h2 with ⟨j', B0', b1, b2, b3, rfl⟩ | ⟨hn', hB'⟩
   ·exfalso
    obtain ⟨r2, k1, k2, k3⟩ := place j' B0' id' b3 b2
    rw [m2] at k2; simp at k2; subst k2
    rw [renB_own] at o2
    rcases hleft.ownT j' B0' rb' x (by rw [b3]; rfl) o2 k1 e2 with h5 | h5
    ·exact ownedOld id B rb x hB o1 (notIds id hn) q1 e1 h5
    ·omega
   ·obtain ⟨q3, q4⟩ := oldReal id' B' rb' x hB' m2 e2
    exact h.mem.inj id id' B B' rb rb' x hB hB' o1 o2 q1 q3 e1 e2
 ·intro id B rb x h1 o1 m1 e1 hR2
  rcases split id B h1 with ⟨j, B0, a1, a2, a3, rfl⟩ | ⟨hn, hB⟩
  ·obtain ⟨r1, g1, g2, g3⟩ := place j B0 id a3 a2
   rw [m1] at g2; simp at g2; subst g2
   rw [renB_own] at o1
   exact hleft.mem.sep j B0 rb x (by rw [a3]; rfl) o1 g1 e1 hR2.1
  ·obtain ⟨q1, q2⟩ := oldReal id B rb x hB m1 e1
   have hnR := h.mem.sep id B rb x hB o1 q1 e1
   rcases hleft.rT x hR2.1 with (h5 | h5) | h5 | h5
   ·exact hnR h5
   ·exact hnR (hR2.2 h5)
   ·exact ownedOld id B rb x hB o1 (notIds id hn) q1 e1 h5
   ·omega
 ·intro id ⟨h1, h2⟩
  simp only [μ'']
  rw [h.free id h1]
  dsimp only
  rw [if_neg (by omega)]
 ·intro k hk hn
  rw [hleft.same k (Nat.lt_of_lt_of_le hk h.grow) ?_]
  ·exact h.same k hk hn
  ·intro ho
   obtain ⟨id, B, rb, g1, g2, g3, g4, g5⟩ := owned k ho
   rcases h.ownT id B rb k g2 g3 g4 g5 with h5 | h5
   ·exact hn h5
   ·omega
 ·intro id B rb x h1 o1 m1 e1
  rcases split id B h1 with ⟨j, B0, a1, a2, a3, rfl⟩ | ⟨hn, hB⟩
  ·obtain ⟨r1, g1, g2, g3⟩ := place j B0 id a3 a2
   rw [m1] at g2; simp at g2; subst g2
   rw [renB_own] at o1
   rcases hleft.ownT j B0 rb x (by rw [a3]; rfl) o1 g1 e1 with h5 | h5
   ·obtain ⟨id2, B2, rb2, k1, k2, k3, k4, k5⟩ := owned x h5
    exact h.ownT id2 B2 rb2 x k2 k3 k4 k5
   ·exact .inr (Nat.le_trans h.grow h5)
  ·obtain ⟨q1, q2⟩ := oldReal id B rb x hB m1 e1
   exact h.ownT id B rb x hB o1 q1 e1
 ·intro id B rb x h1 m1 e1
  rcases split id B h1 with ⟨j, B0, a1, a2, a3, rfl⟩ | ⟨hn, hB⟩
  ·obtain ⟨r1, g1, g2, g3⟩ := place j B0 id a3 a2
   rw [m1] at g2; simp at g2; subst g2
   rcases hleft.allT j B0 rb x (by rw [a3]; rfl) g1 e1 with h5 | h5
   ·obtain ⟨id2, B2, rb2, k1, k2, k4, k5⟩ := was x h5
    exact h.allT id2 B2 rb2 x k2 k4 k5
   ·exact .inr (Nat.le_trans h.grow h5)
  ·obtain ⟨q1, q2⟩ := oldReal id B rb x hB m1 e1
   exact h.allT id B rb x hB q1 e1
 ·intro x hR2
  rcases hleft.rT x hR2.1 with (h5 | h5) | h5 | h5
  ·exact h.rT x h5
  ·exact h.rT x (hR2.2 h5)
  ·obtain ⟨id2, B2, rb2, k1, k2, k3, k4, k5⟩ := owned x h5
   exact .inr (h.ownT id2 B2 rb2 x k2 k3 k4 k5)
  ·exact .inr (.inr (Nat.le_trans h.grow h5))
 ·have hv : VRep w' R'' μ' r u := lean r u hleft.val (by rcases hclean with hc | ⟨hc, _⟩; exact .inr hc; exact .inl hc)
  exact ren_sound (fun i k rb' e1 e2 => hρ i k rb' e1 e2) 6 r u hv
end
end Go.Proofs.YtcjnmdcagfgjoaaGreatDoor.Den
