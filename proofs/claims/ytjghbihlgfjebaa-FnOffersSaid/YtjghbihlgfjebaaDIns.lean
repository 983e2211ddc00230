/- What functions of the program do, by the machine: Ins. -/
import Derived.Test.YtjghbihlgfjebaaDQueC
import Derived.KernelRfl
import Derived.Test.YtjghbihlgfjebaaRows
import Derived.Shelf.Spec.SlicesInsertGrow
namespace Go.Proofs.Ytjghbihlgfjebaa.Den
open Go.Proofs
set_option maxRecDepth 100000
/-- A list with one more at a place. -/
def insAt {α : Type} (l : List α) (i : Nat) (x : α) : List α := l.take i ++ x :: l.drop i
def insIG : List V → List Blk → Br (V × List (Option Blk))
  | [.ref 0 lo n, .i .i64 i, .ref 1 0 1], [.row false _ (.int .i64) l, .row false _ (.int .i64) [x]] => .need (decide (0 ≤ i ∧ i ≤ n ∧ n ≤ 1000000000)) (.leaf (.ref 2 0 (n + 1), [none, none, some (.row false none (.int .i64) (insAt ((l.drop lo).take n) i.toNat x))]))
  | _, _ => .no
theorem insAt_length {α : Type} {l : List α} {i : Nat} {x : α} (h : i ≤ l.length) : (insAt l i x).length = l.length + 1 := by
  unfold insAt; simp; omega
theorem setCells_heap (b : Nat) : ∀ (vs : List Value) (o : Nat) (w : World) (us : Array Value) (e : TypeId) (fr : Nat × Nat), w.heap[b]? = some (.cells us e fr) → (w.setCells b o vs).heap[b]? = some (.cells (setCells us.toList o vs).toArray e fr)
  | [], o, w, us, e, fr, h => by simpa [World.setCells, setCells] using h
  | v :: vs, o, w, us, e, fr, h => by
    rw [World.setCells]
    have h1 : (w.setCell ⟨b, o, none⟩ v).heap[b]? = some (.cells (us.setIfInBounds o v) e fr) := by
      have hlt : b < w.heap.size := (Array.getElem?_eq_some_iff.1 h).1
      have hv : w.heap[b] = .cells us e fr := (Array.getElem?_eq_some_iff.1 h).2
      unfold World.setCell
      rw [Array.getElem?_eq_getElem (by simpa using hlt), Array.getElem_modify]
      simp [hv]
    have h2 := setCells_heap b vs (o + 1) _ _ e fr h1
    rw [h2]
    simp [setCells]
theorem setCells_heap_other (b : Nat) : ∀ (vs : List Value) (o : Nat) (w : World) (k : Nat), k ≠ b → (w.setCells b o vs).heap[k]? = w.heap[k]?
  | [], o, w, k, h => rfl
  | v :: vs, o, w, k, h => by
    rw [World.setCells, setCells_heap_other b vs (o + 1) _ k h]
    simp [World.setCell, Array.getElem?_modify, Ne.symm h]
theorem alloc_at (w : World) (o : Obj) : (w.alloc o).heap[w.heap.size]? = some o := by
  simp only [World.alloc]; simp
theorem setCells_rest (b : Nat) : ∀ (vs : List Value) (o : Nat) (w : World), (w.setCells b o vs).heap.size = w.heap.size ∧ (w.setCells b o vs).os = w.os ∧ (w.setCells b o vs).tape = w.tape ∧ (w.setCells b o vs).output = w.output
  | [], o, w => ⟨rfl, rfl, rfl, rfl⟩
  | v :: vs, o, w => by
    rw [World.setCells]
    obtain ⟨h1, h2, h3, h4⟩ := setCells_rest b vs (o + 1) (w.setCell ⟨b, o, none⟩ v)
    refine ⟨h1.trans ?_, h2, h3, h4⟩
    simp [World.setCell]
/-- What an insertion leaves. -/
theorem left_row {w w' : World} {R : Nat → Prop} {μ : Nat → Option RB} {bl : Nat → Option Blk} {l : List Int} {b off cap : Nat} {us : Array Value} {e : TypeId}
    (hn : ∀ j, 2 ≤ j → μ j = none) (rlt : ∀ x, R x → x < w.heap.size) (ho : w'.os = w.os) (ht : w'.tape = w.tape) (hp : w'.output = w.output) (hg : w.heap.size ≤ w'.heap.size)
    (hs : ∀ k, k < w.heap.size → k ≠ b → w'.heap[k]? = w.heap[k]?) (hb : (Owned bl μ b ∧ Was bl μ b ∧ ¬ R b) ∨ w.heap.size ≤ b)
    (hh : w'.heap[b]? = some (.cells us e (0, 0))) (hl : 0 < l.length) (hc : l.length ≤ cap) (hm : cap ≤ maxI) (hz : off + cap ≤ us.size)
    (hv : ∀ i z, l[i]? = some z → us[off + i]? = some (.int .i64 z)) :
    Left w R μ bl (.ref 2 0 l.length) [none, none, some (.row false none (.int .i64) l)] (.slice (some ⟨b, off, none⟩) l.length cap) w' R (updM μ 2 (.at b off 1 cap l.length)) := by
  have h2 : μ 2 = none := hn 2 (Nat.le_refl _)
  have hR : ¬ R b := by
    rcases hb with ⟨_, _, h⟩ | h
    · exact h
    · intro hr; have := rlt b hr; omega
  have at2 : ∀ j B, (([none, none, some (Blk.row false none (.int .i64) l)] : List (Option Blk))[j]?).join = some B → j = 2 ∧ B = .row false none (.int .i64) l := fun j B hB => by
    match j with
    | 0 => simp at hB
    | 1 => simp at hB
    | 2 => simp at hB; exact ⟨rfl, hB.symm⟩
    | j + 3 => simp at hB
  refine ⟨?_, ⟨?_, ?_, ?_, fun x hx => Nat.lt_of_lt_of_le (rlt x hx) hg⟩, ho, ht, hp, hg, ?_, fun x h => h, fun x h => .inl h, ?_, ?_, updM_ext h2 _, ?_⟩
  · exact .ref 2 0 l.length b off 1 cap l.length ⟨b, off, none⟩ (updM_self _ _ _) hc (by omega) hm (.inr (by simp))
  · intro id B hB
    obtain ⟨rfl, rfl⟩ := at2 id B hB
    refine ⟨_, updM_self _ _ _, .row b off 1 cap l.length false none (.int .i64) l us e rfl hh ⟨rfl, hc⟩ hm (by omega) ?_ (by simp)⟩
    intro i z j v hi hj
    match j with
    | 0 =>
      simp only [enc, List.getElem?_cons_zero, Option.some.injEq] at hj
      subst hj
      exact ⟨_, by simpa using hv i z hi, .i _ _⟩
    | j + 1 => simp [enc] at hj
  · intro id id' B B' rb1 rb2 x g1 g2 _ _ _ _ _ _
    rw [(at2 id B g1).1, (at2 id' B' g2).1]
  · intro id B rb1 x g1 o1 m1 e1
    obtain ⟨rfl, rfl⟩ := at2 id B g1
    rw [updM_self] at m1; simp at m1; subst m1
    simp [RB.real] at e1; subst e1
    exact hR
  · intro k hk hno
    refine hs k hk fun e => ?_
    subst e
    rcases hb with ⟨h, _, _⟩ | h
    · exact hno h
    · omega
  · intro j B rb1 x g1 o1 m1 e1
    obtain ⟨rfl, rfl⟩ := at2 j B g1
    rw [updM_self] at m1; simp at m1; subst m1
    simp [RB.real] at e1; subst e1
    rcases hb with ⟨h, _, _⟩ | h
    · exact .inl h
    · exact .inr h
  · intro j B rb1 x g1 m1 e1
    obtain ⟨rfl, rfl⟩ := at2 j B g1
    rw [updM_self] at m1; simp at m1; subst m1
    simp [RB.real] at e1; subst e1
    rcases hb with ⟨_, h, _⟩ | h
    · exact .inl h
    · exact .inr h
  · intro j hj
    have hj : 3 ≤ j := hj
    have hne : j ≠ 2 := by omega
    simp only [updM, hne, if_false]
    exact hn j (by omega)
open Go.Shelf in
def insRen : Ren := ⟨fun k => match k with | 21 => 150 | 27 => 161 | 28 => 162 | 35 => 165 | 39 => 166 | k => k,
  fun k => match k with | 0 => 0 | 3 => 3 | 4 => 4 | 22 => 64 | k => k, fun k => k⟩
open Go.Shelf in
theorem insLays : Lays2.n21 Try.prog insRen := by
  refine ⟨by kernel_rfl, by kernel_rfl, by kernel_rfl, by kernel_rfl, by kernel_rfl, by kernel_rfl, ?_, ?_, ?_, ?_, ?_, ?_, ?_, ?_, ?_, ?_, ?_, ?_, ?_, ?_, ?_, ?_, by kernel_rfl⟩
  all_goals first | kernel_rfl | (intro w; kernel_rfl)

set_option maxHeartbeats 1000000 in
theorem insI : Contract Try.prog 150 (Ent.own insIG).F := by
  intro w R μ vs us bs r outs hmem hnone hreps hF
  unfold Ent.F insIG at hF
  dsimp only at hF
  split at hF
  rotate_left
  · cases hF
  rename_i lo n i nl l nl2 x
  obtain ⟨hc, h⟩ := need_some hF
  obtain ⟨hi0, hin, hn⟩ := of_decide_eq_true hc
  obtain ⟨rfl, rfl⟩ := Prod.mk.inj (leaf_some h)
  clear h hF hc
  have hM : maxI = 9223372036854775807 := rfl
  match us, hreps with
  | [u0, u1, u2], hreps =>
  have v0 := hreps.2 0 _ u0 rfl rfl
  have v1 := hreps.2 1 _ u1 rfl rfl
  have v2 := hreps.2 2 _ u2 rfl rfl
  cases v1
  obtain ⟨rb0, hm0, hB0⟩ := hmem.blk 0 _ rfl
  obtain ⟨rb1, hm1, hB1⟩ := hmem.blk 1 _ rfl
  cases v2 with
  | ref _ _ _ b1 off1 k1 cap1 len1 a1 hv2 q0 q1 q2 q3 =>
  rw [hm1] at hv2; simp at hv2; subst hv2
  cases hB1 with
  | row _ _ _ _ _ _ _ _ _ us1 e1 hk1 hh1 p1 p2 p3 p4 p5 =>
  simp [Cd.size] at hk1; subst hk1
  obtain ⟨n, rfl⟩ : ∃ m : Nat, n = m := ⟨n, rfl⟩
  obtain ⟨i, rfl⟩ := Int.eq_ofNat_of_zero_le hi0
  have hlen1 : 1 ≤ cap1 := by omega
  have ha1 : a1 = ⟨b1, off1, none⟩ := by
    rcases q3 with h | h
    · omega
    · simpa using h
  subst ha1
  have hx : us1[off1]? = some (Value.int .i64 x) := by
    obtain ⟨u, g1, g2⟩ := p4 0 x 0 (.i .i64 x) rfl rfl
    cases g2
    simpa using g1
  have hxc : w.cell? ⟨b1, off1 + 0, none⟩ = some (Value.int .i64 x) := by
    simp only [World.cell?, hh1, Nat.add_zero]; exact hx
  have hvs : ∀ (j : Nat) v, [Value.int .i64 x][j]? = some v → w.cell? ⟨b1, off1 + j, none⟩ = some v := fun j v h => by
    match j with
    | 0 => simp at h; subst h; exact hxc
    | j + 1 => simp at h
  have h1v : ∀ v ∈ [Value.int .i64 x], v.oneCell' = true := by simp [Value.oneCell']
  have rlt := hmem.rlt
  have hout : ∀ (L : List Int), L.length = n → L = (l.drop lo).take n → (((insAt L i x).length = n + 1)) := fun L h _ => by rw [insAt_length (by omega)]; omega
  -- a new row
  have fresh : ∀ (L : List Int), L.length = n → ∀ (w' : World) (cap : Nat) (us : Array Value) (e : TypeId), w'.os = w.os → w'.tape = w.tape → w'.output = w.output → w.heap.size ≤ w'.heap.size → (∀ k, k < w.heap.size → w'.heap[k]? = w.heap[k]?) →
      w'.heap[w.heap.size]? = some (.cells us e (0, 0)) → n + 1 ≤ cap → cap ≤ maxI → cap ≤ us.size → (∀ (j : Nat) (z : Int), (insAt L i x)[j]? = some z → us[j]? = some (Value.int .i64 z)) →
      ∃ u R' μ', Ending.returned (.slice (some ⟨w.heap.size, 0, none⟩) (n + 1) cap) = .returned u ∧ Left w R μ (fun j => ([.row false nl (.int .i64) l, .row false nl2 (.int .i64) [x]] : List Blk)[j]?) (.ref 2 0 (n + 1)) [none, none, some (.row false none (.int .i64) (insAt L i x))] u w' R' μ' := by
    intro L hL w' cap us e h1 h2 h3 h4 h5 h6 h7 h8 h9 h10
    have hl := insAt_length (x := x) (show i ≤ L.length by omega)
    have := left_row (w := w) (w' := w') (R := R) (μ := μ) (bl := fun j => ([.row false nl (.int .i64) l, .row false nl2 (.int .i64) [x]] : List Blk)[j]?) (l := insAt L i x) (b := w.heap.size) (off := 0) (cap := cap) (us := us) (e := e) hnone rlt h1 h2 h3 h4 (fun k hk _ => h5 k hk) (.inr (Nat.le_refl _)) h6 (by omega) (by omega) h8 (by omega) (fun j z hj => by simpa using h10 j z hj)
    rw [hl, hL] at this
    exact ⟨_, R, _, rfl, this⟩
  have hdl : ∀ L : List Int, L.length = n → ∀ (j : Nat) (z : Int), (insAt L i x)[j]? = some z → ((L.map (Value.int .i64)).take i ++ [Value.int .i64 x] ++ (L.map (Value.int .i64)).drop i)[j]? = some (Value.int .i64 z) := fun L hL j z h => by
    have e : (L.map (Value.int .i64)).take i ++ [Value.int .i64 x] ++ (L.map (Value.int .i64)).drop i = (insAt L i x).map (Value.int .i64) := by unfold insAt; simp
    rw [e, List.getElem?_map, h]; rfl
  cases v0 with
  | vac _ ao hv0 =>
    rw [hm0] at hv0; simp at hv0; subst hv0
    cases hB0
    have hi : i = 0 := by omega
    subst hi
    refine (Any2.slices_Insert_int_end_grow insLays ao 0 0 b1 off1 1 (cap1 - 0) [] [.int .i64 x] w (by omega) (by omega) (by omega) (by omega) rfl rfl (fun _ => rfl) (fun _ _ j v h => by simp at h) hvs h1v).mono ?_
    rintro e w' ⟨rfl, rfl⟩
    have hG := grownCap_ge w (0 + 1) 0 (insRen.t 3)
    have hG2 := grownCap_le_maxLen w (0 + 1) 0 (insRen.t 3) (by unfold maxLen; omega)
    have hG3 : grownCap w (0 + 1) 0 (insRen.t 3) ≤ maxI := hG2
    generalize grownCap w (0 + 1) 0 (insRen.t 3) = G at *
    refine fresh [] rfl _ G _ _ rfl rfl rfl (by simp) (fun k hk => heap_alloc_lt w.drew _ hk) (alloc_at _ _) hG hG3 ?_ ?_
    · simp [Builtin.zeroCells, Value.cells]; omega
    · intro j z h
      match j with
      | 0 => simp [insAt] at h; subst h; rw [Array.getElem?_append_left (by simp)]; rfl
      | j + 1 => simp [insAt] at h
  | ref _ _ _ b off k cap len a hv0 r0 r1 r2 r3 =>
    rw [hm0] at hv0; simp at hv0; subst hv0
    cases hB0 with
    | row _ _ _ _ _ _ _ _ _ us0 e0 hk0 hh0 s1 s2 s3 s4 s5 =>
    simp [Cd.size] at hk0; subst hk0
    have hll : lo + n ≤ l.length := by omega
    obtain ⟨L, hLd⟩ : ∃ L : List Int, L = (l.drop lo).take n := ⟨_, rfl⟩
    have hL : L.length = n := by rw [hLd, List.length_take, List.length_drop]; omega
    rw [← hLd]
    have hne : b1 ≠ b := fun e => by
      have := hmem.inj 0 1 _ _ _ _ b rfl rfl rfl rfl hm0 hm1 rfl (by rw [← e]; rfl)
      omega
    have hbo : Owned (fun j => ([.row false nl (.int .i64) l, .row false nl2 (.int .i64) [x]] : List Blk)[j]?) μ b := ⟨0, _, _, rfl, rfl, hm0, rfl⟩
    have hbw : Was (fun j => ([.row false nl (.int .i64) l, .row false nl2 (.int .i64) [x]] : List Blk)[j]?) μ b := ⟨0, _, _, rfl, hm0, rfl⟩
    have hbR : ¬ R b := hmem.sep 0 _ _ b rfl rfl hm0 rfl
    have hus : ∀ (j : Nat) (z : Int), L[j]? = some z → us0[off + lo + j]? = some (Value.int .i64 z) := fun j z h => by
      have hj : j < n := by rw [← hL]; exact (List.getElem?_eq_some_iff.1 h).1
      rw [hLd, List.getElem?_take_of_lt hj, List.getElem?_drop] at h
      obtain ⟨u, g1, g2⟩ := s4 (lo + j) z 0 (.i .i64 z) h rfl
      cases g2
      rw [← g1]; congr 1; omega
    have hcell : ∀ j, w.cell? ⟨b, j, none⟩ = us0[j]? := fun j => by simp [World.cell?, hh0]
    have hcs : ∀ (j : Nat) v, (L.map (Value.int .i64))[j]? = some v → w.cell? ⟨b, off + lo + j, none⟩ = some v := fun j v h => by
      rw [List.getElem?_map] at h
      obtain ⟨z, h1, rfl⟩ := Option.map_eq_some_iff.1 h
      rw [hcell]; exact hus j z h1
    have h1c : ∀ v ∈ L.map (Value.int .i64), v.oneCell' = true := by simp [Value.oneCell']
    have hfz : ∀ j, w.frozen? ⟨b, j, none⟩ = false := fun j => by simp [World.frozen?, hh0]
    have hml : (L.map (Value.int .i64)).length = n := by rw [List.length_map, hL]
    have hcn : n ≤ cap - lo := by omega
    by_cases hroom : n + 1 ≤ cap - lo
    · -- there is room
      have ha : a = ⟨b, off + lo, none⟩ := by
        rcases r3 with h | h
        · omega
        · simpa using h
      subst ha
      have hsp : ∀ j, j < n + 1 → (w.cell? ⟨b, off + lo + j, none⟩).isSome = true := fun j hj => by rw [hcell, Array.getElem?_eq_getElem (by omega)]; rfl
      have hll2 := insAt_length (x := x) (show i ≤ L.length by omega)
      have fin : ∀ (w' : World) (us' : Array Value), w'.os = w.os → w'.tape = w.tape → w'.output = w.output → w'.heap.size = w.heap.size → (∀ k, k ≠ b → w'.heap[k]? = w.heap[k]?) → w'.heap[b]? = some (.cells us' e0 (0, 0)) → us'.size = us0.size →
          (∀ (j : Nat) (z : Int), (insAt L i x)[j]? = some z → us'[off + lo + j]? = some (Value.int .i64 z)) →
          ∃ u R' μ', Ending.returned (.slice (some ⟨b, off + lo, none⟩) (n + 1) (cap - lo)) = .returned u ∧ Left w R μ (fun j => ([.row false nl (.int .i64) l, .row false nl2 (.int .i64) [x]] : List Blk)[j]?) (.ref 2 0 (n + 1)) [none, none, some (.row false none (.int .i64) (insAt L i x))] u w' R' μ' := by
        intro w' us' h1 h2 h3 h4 h5 h6 h7 h8
        have := left_row (w := w) (w' := w') (R := R) (μ := μ) (bl := fun j => ([.row false nl (.int .i64) l, .row false nl2 (.int .i64) [x]] : List Blk)[j]?) (l := insAt L i x) (b := b) (off := off + lo) (cap := cap - lo) (us := us') (e := e0) hnone rlt h1 h2 h3 (by omega) (fun k _ hk => h5 k hk) (.inl ⟨hbo, hbw, hbR⟩) h6 (by omega) (by omega) (by omega) (by omega) h8
        rw [hll2, hL] at this
        exact ⟨_, R, _, rfl, this⟩
      by_cases hend : i = n
      · subst hend
        refine (Any2.slices_Insert_int_end_room insLays b (off + lo) i (cap - lo) b1 off1 1 (cap1 - 0) [.int .i64 x] w (by omega) hroom (by omega) rfl (fun j hj => ?_) (fun j _ => hfz _) hvs h1v).mono ?_
        · rw [show off + lo + i + j = off + lo + (i + j) by omega]; exact hsp _ (by omega)
        rintro e w' ⟨rfl, rfl⟩
        obtain ⟨g1, g2, g3, g4⟩ := setCells_rest b [.int .i64 x] (off + lo + i) w
        have hfit : off + lo + i + [Value.int .i64 x].length ≤ us0.toList.length := by simp; omega
        refine fin _ _ g2 g3 g4 g1 (fun k hk => setCells_heap_other b _ _ w k hk) (setCells_heap b _ _ w us0 e0 _ hh0) (by simp [setCells_length]) fun j z h => ?_
        rw [List.getElem?_toArray, setCells_get _ _ _ _ hfit]
        unfold insAt at h
        rw [List.take_of_length_le (by omega), List.drop_of_length_le (by omega), List.getElem?_append] at h
        split at h
        · rename_i hj
          rw [if_neg (by omega), Array.getElem?_toList]; exact hus j z h
        · rename_i hj
          have hj2 : j = i := by
            have := (List.getElem?_eq_some_iff.1 h).1
            simp at this; omega
          subst hj2
          rw [hL, Nat.sub_self] at h
          simp at h; subst h
          rw [if_pos (by simp)]
          simp
      · refine (Any2.slices_Insert_int_shift insLays b (off + lo) n (cap - lo) i b1 off1 1 (cap1 - 0) (L.map (Value.int .i64)) [.int .i64 x] w (by omega) (by omega) hroom (by omega) hne hml rfl hcs hsp (fun j _ => hfz _) hvs h1c h1v e1 e0 us1.size us0.size (by simp [World.shape?, hh1]) (by simp [World.shape?, hh0]) (by omega) (by simp [World.frozen?, hh1]) (by simp [World.frozen?, hh1])).mono ?_
        rintro e w' ⟨rfl, rfl⟩
        obtain ⟨g1, g2, g3, g4⟩ := setCells_rest b ((L.map (Value.int .i64)).drop i) (off + lo + (i + 1)) w.drew
        obtain ⟨k1, k2, k3, k4⟩ := setCells_rest b [.int .i64 x] (off + lo + i) (w.drew.setCells b (off + lo + (i + 1)) ((L.map (Value.int .i64)).drop i))
        have hdl2 : ((L.map (Value.int .i64)).drop i).length = n - i := by rw [List.length_drop, hml]
        have hfit1 : off + lo + (i + 1) + ((L.map (Value.int .i64)).drop i).length ≤ us0.toList.length := by rw [hdl2, Array.length_toList]; omega
        have hfit2 : off + lo + i + [Value.int .i64 x].length ≤ (setCells us0.toList (off + lo + (i + 1)) ((L.map (Value.int .i64)).drop i)).length := by rw [setCells_length, Array.length_toList]; simp; omega
        refine fin _ _ (k2.trans g2) (k3.trans g3) (k4.trans g4) (k1.trans g1) (fun k hk => (setCells_heap_other b _ _ _ k hk).trans (setCells_heap_other b _ _ _ k hk)) (setCells_heap b _ _ _ _ e0 _ (setCells_heap b _ _ w.drew us0 e0 _ hh0)) (by simp [setCells_length]) fun j z h => ?_
        rw [List.getElem?_toArray, setCells_get _ _ _ _ hfit2, setCells_get _ _ _ _ hfit1]
        have h' := hdl L hL j z h
        have hj : j < n + 1 := by have := (List.getElem?_eq_some_iff.1 h).1; omega
        have hti : ((L.map (Value.int .i64)).take i).length = i := by rw [List.length_take, hml]; omega
        rw [List.append_assoc, List.getElem?_append, hti] at h'
        split at h'
        · rename_i hj
          rw [if_neg (by omega), if_neg (by omega), Array.getElem?_toList, ← hcell]
          rw [List.getElem?_take_of_lt hj] at h'
          exact hcs j _ h'
        · rename_i hj2
          rw [List.getElem?_append] at h'
          split at h'
          · rename_i hj3
            simp at hj3
            rw [if_pos (by simp; omega), show off + lo + j - (off + lo + i) = j - i by omega]
            exact h'
          · rename_i hj3
            simp at hj3
            rw [if_neg (by simp; omega), if_pos (by rw [hdl2]; omega), show off + lo + j - (off + lo + (i + 1)) = j - i - 1 by omega]
            exact h'
    · -- no room
      have hcapn : cap - lo = n := by omega
      by_cases hend : i = n
      · subst hend
        have hcsa : ∀ a', some a = some a' → ∀ (j : Nat) v, (L.map (Value.int .i64))[j]? = some v → w.cell? (a'.add j) = some v := fun a' ea j v h => by
          cases ea
          have hj : j < i := by rw [← hml]; exact (List.getElem?_eq_some_iff.1 h).1
          have ha : a = ⟨b, off + lo, none⟩ := by
            rcases r3 with h | h
            · omega
            · simpa using h
          subst ha
          have : (⟨b, off + lo, none⟩ : Addr).add j = ⟨b, off + lo + j, none⟩ := by simp [Addr.add]
          rw [this]
          exact hcs j v h
        refine (Any2.slices_Insert_int_end_grow insLays (some a) i (cap - lo) b1 off1 1 (cap1 - 0) (L.map (Value.int .i64)) [.int .i64 x] w (by omega) (by omega) (by omega) (by omega) hml rfl (fun h => by cases h) hcsa hvs h1v).mono ?_
        rintro e w' ⟨rfl, rfl⟩
        have hG := grownCap_ge w (i + 1) (cap - lo) (insRen.t 3)
        have hG3 : grownCap w (i + 1) (cap - lo) (insRen.t 3) ≤ maxI := grownCap_le_maxLen w (i + 1) (cap - lo) (insRen.t 3) (by unfold maxLen; omega)
        generalize grownCap w (i + 1) (cap - lo) (insRen.t 3) = G at *
        refine fresh L hL _ G _ _ rfl rfl rfl (by simp) (fun k hk => heap_alloc_lt w.drew _ hk) (alloc_at _ _) hG hG3 ?_ ?_
        · simp [Builtin.zeroCells, Value.cells, hL]; omega
        · intro j z h
          have h' := hdl L hL j z h
          have hj : j < i + 1 := by have := (List.getElem?_eq_some_iff.1 h).1; rw [insAt_length (by omega)] at this; omega
          rw [List.take_of_length_le (by omega), List.drop_of_length_le (by omega), List.append_nil] at h'
          rw [Array.getElem?_append_left (by simp [hL]; omega), List.getElem?_toArray]
          exact h'
      · have ha : a = ⟨b, off + lo, none⟩ := by
          rcases r3 with h | h
          · omega
          · simpa using h
        subst ha
        refine (Any2.slices_Insert_int_grow insLays b (off + lo) n (cap - lo) i b1 off1 1 (cap1 - 0) (L.map (Value.int .i64)) [.int .i64 x] w (by omega) (by omega) (by omega) (by omega) (by omega) hml rfl hcs hvs h1c h1v).mono ?_
        rintro e w' ⟨rfl, rfl⟩
        have hG := grownCap_ge w (n + 1) (cap - lo) (insRen.t 3)
        have hG3 : grownCap w (n + 1) (cap - lo) (insRen.t 3) ≤ maxI := grownCap_le_maxLen w (n + 1) (cap - lo) (insRen.t 3) (by unfold maxLen; omega)
        generalize grownCap w (n + 1) (cap - lo) (insRen.t 3) = G at *
        obtain ⟨A, hA⟩ : ∃ A : Array Value, A = ((L.map (Value.int .i64)).take i).toArray ++ Builtin.zeroCells (Value.int .i64 0).cells (n + 1 - i) ++ Builtin.zeroCells (Value.int .i64 0).cells (G - (n + 1)) := ⟨_, rfl⟩
        rw [← hA]
        have hAs : A.size = G := by rw [hA]; simp [Builtin.zeroCells, Value.cells, hL]; omega
        have hA1 : ∀ j v, j < i → (L.map (Value.int .i64))[j]? = some v → A[j]? = some v := fun j v hj h => by
          rw [hA, Array.append_assoc, Array.getElem?_append_left (by simp [hL]; omega), List.getElem?_toArray, List.getElem?_take_of_lt hj]; exact h
        clear hA
        obtain ⟨X, hX⟩ : ∃ X, X = ((w.alloc (.cells A (insRen.t 3))).drew.setCells w.heap.size i [Value.int .i64 x]).drew := ⟨_, rfl⟩
        rw [← hX]
        have X1 : X.heap[w.heap.size]? = some (.cells (setCells A.toList i [Value.int .i64 x]).toArray (insRen.t 3) (0, 0)) := by
          rw [hX]
          exact setCells_heap _ _ _ _ A _ _ (alloc_at _ _)
        obtain ⟨g1, g2, g3, g4⟩ := setCells_rest w.heap.size [Value.int .i64 x] i (w.alloc (.cells A (insRen.t 3))).drew
        obtain ⟨k1, k2, k3, k4⟩ := setCells_rest w.heap.size ((L.map (Value.int .i64)).drop i) (i + 1) X
        have X2 : ∀ k, k < w.heap.size → X.heap[k]? = w.heap[k]? := fun k hk => by
          rw [hX]
          exact (setCells_heap_other _ _ _ _ k (by omega)).trans (heap_alloc_lt w _ hk)
        have X3 : X.os = w.os ∧ X.tape = w.tape ∧ X.output = w.output ∧ X.heap.size = w.heap.size + 1 := by
          rw [hX]
          exact ⟨g2, g3, g4, g1.trans (by simp [World.drew])⟩
        have hdl2 : ((L.map (Value.int .i64)).drop i).length = n - i := by rw [List.length_drop, hml]
        have hfit1 : i + [Value.int .i64 x].length ≤ A.toList.length := by rw [Array.length_toList]; simp; omega
        have hfit2 : i + 1 + ((L.map (Value.int .i64)).drop i).length ≤ (setCells A.toList i [Value.int .i64 x]).length := by rw [hdl2, setCells_length, Array.length_toList]; omega
        refine fresh L hL _ G _ _ (k2.trans X3.1) (k3.trans X3.2.1) (k4.trans X3.2.2.1) (by rw [k1, X3.2.2.2]; omega) (fun k hk => (setCells_heap_other _ _ _ _ k (by omega)).trans (X2 k hk)) (setCells_heap _ _ _ _ _ _ _ X1) hG hG3 (by simp [setCells_length, hAs]) fun j z h => ?_
        rw [List.getElem?_toArray, setCells_get _ _ _ _ (by simpa using hfit2)]
        have h' := hdl L hL j z h
        have hj : j < n + 1 := by have := (List.getElem?_eq_some_iff.1 h).1; rw [insAt_length (by omega)] at this; omega
        have hti : ((L.map (Value.int .i64)).take i).length = i := by rw [List.length_take, hml]; omega
        rw [List.append_assoc, List.getElem?_append, hti] at h'
        split at h'
        · rename_i hj
          rw [if_neg (by omega), List.toList_toArray, setCells_get _ _ _ _ hfit1, if_neg (by omega), Array.getElem?_toList]
          rw [List.getElem?_take_of_lt hj] at h'
          exact hA1 j _ hj h'
        · rename_i hj2
          rw [List.getElem?_append] at h'
          split at h'
          · rename_i hj3
            simp at hj3
            rw [if_neg (by omega), List.toList_toArray, setCells_get _ _ _ _ hfit1, if_pos (by simp; omega)]
            exact h'
          · rename_i hj3
            simp at hj3
            rw [if_pos (by rw [hdl2]; omega), show j - (i + 1) = j - i - 1 by omega]
            exact h'
end Go.Proofs.Ytjghbihlgfjebaa.Den
