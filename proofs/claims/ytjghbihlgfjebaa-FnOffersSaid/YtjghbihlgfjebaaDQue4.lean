/- What functions of the program do, by the machine: Que4. -/
import Derived.Test.YtjghbihlgfjebaaDQue3
import Derived.KernelRfl
import Derived.Test.YtjghbihlgfjebaaRows
namespace Go.Proofs.Ytjghbihlgfjebaa.Den
open Go.Proofs
set_option maxRecDepth 100000
/-- A queue's value. -/
structure Que where
  c : Int
  r : Int
  n : Int
  w : List Int
  h : List Int
  d : List Int
def Que.zero : Que := ⟨0, 0, 0, [], [], []⟩
def Que.good (q : Que) : Bool := goodQ q.c q.r q.n q.w q.h q.d
/-- One more is offered; which one is dropped, -1 for none. -/
def Que.off (q : Que) : Que × Int :=
  if (q.w.length : Int) < q.c then (⟨q.c, q.r, q.n + 1, q.w ++ [q.n], q.h, q.d⟩, -1)
  else if q.r = 3 then (⟨q.c, q.r, q.n + 1, q.w, q.h, putL q.d q.n⟩, q.n)
  else if q.r = 1 then (⟨q.c, q.r, q.n + 1, q.w.drop 1 ++ [q.n], q.h, putL q.d (q.w.getD 0 0)⟩, q.w.getD 0 0)
  else (⟨q.c, q.r, q.n + 1, q.w.take (q.w.length - 1) ++ [q.n], q.h, putL q.d (q.w.getD (q.w.length - 1) 0)⟩, q.w.getD (q.w.length - 1) 0)
/-- The one that waits longest is handed on. -/
def Que.hnd (q : Que) : Que × Int := (⟨q.c, q.r, q.n, q.w.drop 1, putL q.h (q.w.getD 0 0), q.d⟩, q.w.getD 0 0)
theorem getD_set {s : List Bool} {i j : Nat} (hi : i < s.length) (hj : j < s.length) : (s.set i true).getD j true = (s.getD j true || decide (j = i)) := by
  simp only [List.getD_eq_getElem?_getD, List.getElem?_set]
  by_cases h : i = j
  · subst h; simp [hi]
  · simp [h, Ne.symm h]
theorem seenL_facts : ∀ {l : List Int} {p : Option Int} {s s1 : List Bool}, seenL p l s = some s1 →
    l.Pairwise (· < ·) ∧ (∀ z ∈ l, before p z = true) ∧ (∀ z ∈ l, 0 ≤ z ∧ z < s.length ∧ s.getD z.toNat true = false) ∧ (∀ i : Nat, i < s.length → s1.getD i true = (s.getD i true || decide ((i : Int) ∈ l)))
  | [], p, s, s1, h => by cases h; simp
  | x :: l, p, s, s1, h => by
    unfold seenL at h
    split at h
    · rename_i hh
      obtain ⟨⟨x0, x1⟩, x2, x3⟩ := hh
      obtain ⟨h1, h2, h3, h4⟩ := seenL_facts h
      have hx : x.toNat < s.length := by omega
      have h2' : ∀ z ∈ l, x < z := fun z hz => by simpa [before] using h2 z hz
      refine ⟨List.pairwise_cons.2 ⟨h2', h1⟩, ?_, ?_, ?_⟩
      · intro z hz
        rcases List.mem_cons.1 hz with rfl | hz
        · exact x3
        · unfold before at *
          cases p with
          | none => rfl
          | some q => simp at x3 ⊢; have := h2' z hz; omega
      · intro z hz
        rcases List.mem_cons.1 hz with rfl | hz
        · exact ⟨x0, x1, x2⟩
        · obtain ⟨a1, a2, a3⟩ := h3 z hz
          rw [List.length_set] at a2
          refine ⟨a1, a2, ?_⟩
          rw [getD_set hx (by omega)] at a3
          exact (Bool.or_eq_false_iff.1 a3).1
      · intro i hi
        rw [h4 i (by rw [List.length_set]; exact hi), getD_set hx hi]
        have e : (i = x.toNat) = ((i : Int) = x) := by apply propext; omega
        simp only [e, List.mem_cons, Bool.or_assoc, Bool.decide_or]
    · cases h
theorem seenL_some : ∀ {l : List Int} {p : Option Int} {s : List Bool}, l.Pairwise (· < ·) → (∀ z ∈ l, before p z = true) → (∀ z ∈ l, 0 ≤ z ∧ z < s.length ∧ s.getD z.toNat true = false) → ∃ s1, seenL p l s = some s1
  | [], p, s, _, _, _ => ⟨s, rfl⟩
  | x :: l, p, s, h1, h2, h3 => by
    obtain ⟨x0, x1, x2⟩ := h3 x (by simp)
    have hx : x.toNat < s.length := by omega
    unfold seenL
    rw [if_pos ⟨⟨x0, x1⟩, x2, h2 x (by simp)⟩]
    obtain ⟨h4, h5⟩ := List.pairwise_cons.1 h1
    refine seenL_some h5 (fun z hz => by simpa [before] using h4 z hz) fun z hz => ?_
    obtain ⟨a1, a2, a3⟩ := h3 z (by simp [hz])
    refine ⟨a1, by rw [List.length_set]; exact a2, ?_⟩
    rw [getD_set hx (by omega), a3]
    have := h4 z hz
    simp; omega
/-- What a good queue keeps. -/
structure Que.Fine (q : Que) : Prop where
  c : 1 ≤ q.c ∧ q.c ≤ 10
  r : 1 ≤ q.r ∧ q.r ≤ 3
  n : 0 ≤ q.n ∧ q.n ≤ 100
  wc : (q.w.length : Int) ≤ q.c
  sum : (q.w.length : Int) + q.h.length + q.d.length = q.n
  sw : q.w.Pairwise (· < ·)
  sh : q.h.Pairwise (· < ·)
  sd : q.d.Pairwise (· < ·)
  lo : ∀ z ∈ q.w ++ q.h ++ q.d, 0 ≤ z ∧ z < q.n
  nd : (q.w ++ q.h ++ q.d).Nodup
theorem nodup_of_lt {l : List Int} (h : l.Pairwise (· < ·)) : l.Nodup := h.imp (fun h => by omega)
theorem Que.fine {q : Que} (h : q.good = true) : q.Fine := by
  unfold Que.good goodQ at h
  rw [Bool.and_eq_true] at h
  obtain ⟨h, hs⟩ := h
  obtain ⟨h1, h2, h3, h4, h5⟩ := of_decide_eq_true h
  obtain ⟨m, hm⟩ := Int.eq_ofNat_of_zero_le h3.1
  unfold seenLL at hs
  split at hs
  rotate_left
  · cases hs
  rename_i s1 e1
  unfold seenLL at hs
  split at hs
  rotate_left
  · cases hs
  rename_i s2 e2
  unfold seenLL at hs
  split at hs
  rotate_left
  · cases hs
  rename_i s3 e3
  rw [hm, Int.toNat_natCast] at e1
  have l1 := seenL_length e1
  have l2 := seenL_length e2
  obtain ⟨a1, a2, a3, a4⟩ := seenL_facts e1
  obtain ⟨b1, b2, b3, b4⟩ := seenL_facts e2
  obtain ⟨c1, c2, c3, c4⟩ := seenL_facts e3
  rw [List.length_replicate] at l1 a3 a4
  rw [l1] at l2 b3 b4
  rw [l2] at c3 c4
  have r0 : ∀ i, i < m → (List.replicate m false).getD i true = false := fun i hi => by simp [List.getD, hi]
  have hw : ∀ z ∈ q.h, z ∉ q.w := fun z hz hc => by
    obtain ⟨d1, d2, d3⟩ := b3 z hz
    rw [a4 z.toNat (by omega), show ((z.toNat : Nat) : Int) = z by omega, decide_eq_true hc, Bool.or_true] at d3
    cases d3
  have hd : ∀ z ∈ q.d, z ∉ q.w ∧ z ∉ q.h := fun z hz => by
    obtain ⟨d1, d2, d3⟩ := c3 z hz
    rw [b4 z.toNat (by omega), a4 z.toNat (by omega), show ((z.toNat : Nat) : Int) = z by omega] at d3
    simp at d3
    exact ⟨d3.1.2, d3.2⟩
  refine ⟨h1, h2, by omega, h4, by omega, a1, b1, c1, ?_, ?_⟩
  · intro z hz
    simp only [List.mem_append] at hz
    rcases hz with (hz | hz) | hz
    · have := a3 z hz; omega
    · have := b3 z hz; omega
    · have := c3 z hz; omega
  · rw [List.nodup_append, List.nodup_append]
    refine ⟨⟨nodup_of_lt a1, nodup_of_lt b1, fun x hx y hy e => ?_⟩, nodup_of_lt c1, fun x hx y hy e => ?_⟩
    · subst e; exact hw x hy hx
    · subst e
      rcases List.mem_append.1 hx with hx | hx
      · exact (hd x hy).1 hx
      · exact (hd x hy).2 hx
theorem Que.Fine.good {q : Que} (f : q.Fine) : q.good = true := by
  obtain ⟨h1, h2, h3, h4, h5, a1, b1, c1, hlo, hnd⟩ := f
  obtain ⟨m, hm⟩ := Int.eq_ofNat_of_zero_le h3.1
  rw [List.nodup_append, List.nodup_append] at hnd
  obtain ⟨⟨_, _, n1⟩, _, n2⟩ := hnd
  rw [hm] at hlo
  have rng : ∀ z ∈ q.w ++ q.h ++ q.d, 0 ≤ z ∧ z.toNat < m := fun z hz => by have := hlo z hz; omega
  have r0 : ∀ i, i < m → (List.replicate m false).getD i true = false := fun i hi => by simp [List.getD, hi]
  obtain ⟨s1, e1⟩ := seenL_some (l := q.w) (p := none) (s := List.replicate m false) a1 (fun _ _ => rfl) (fun z hz => by
    have := rng z (by simp [hz])
    exact ⟨this.1, by simp; omega, r0 _ this.2⟩)
  have l1 := seenL_length e1
  rw [List.length_replicate] at l1
  have a4 := (seenL_facts e1).2.2.2
  rw [List.length_replicate] at a4
  obtain ⟨s2, e2⟩ := seenL_some (l := q.h) (p := none) (s := s1) b1 (fun _ _ => rfl) (fun z hz => by
    have := rng z (by simp [hz])
    refine ⟨this.1, by omega, ?_⟩
    rw [a4 _ this.2, r0 _ this.2, show ((z.toNat : Nat) : Int) = z by omega, decide_eq_false (fun hc => n1 z hc z hz rfl)]; rfl)
  have l2 := seenL_length e2
  have b4 := (seenL_facts e2).2.2.2
  obtain ⟨s3, e3⟩ := seenL_some (l := q.d) (p := none) (s := s2) c1 (fun _ _ => rfl) (fun z hz => by
    have := rng z (by simp [hz])
    refine ⟨this.1, by omega, ?_⟩
    rw [b4 _ (by omega), a4 _ this.2, r0 _ this.2, show ((z.toNat : Nat) : Int) = z by omega, decide_eq_false (fun hc => n2 z (by simp [hc]) z hz rfl), decide_eq_false (fun hc => n2 z (by simp [hc]) z hz rfl)]; rfl)
  unfold Que.good
  exact goodQ_all ⟨h1, h2, h3, h4, h5⟩ (s := s3) (by rw [hm, Int.toNat_natCast]; simp [seenLL, e1, e2, e3])
theorem putL_new {l : List Int} {x : Int} (h : x ∉ l) : putL l x = insAt l (cntLt l x) x := by unfold putL; rw [if_neg h]
theorem insAt_perm {α : Type} (l : List α) (i : Nat) (x : α) : (insAt l i x).Perm (x :: l) := by
  unfold insAt
  have := List.perm_middle (l₁ := l.take i) (a := x) (l₂ := l.drop i)
  rwa [List.take_append_drop] at this
theorem putL_srt {l : List Int} {x : Int} (h : x ∉ l) (hs : l.Pairwise (· < ·)) : (putL l x).Pairwise (· < ·) := by
  have hs' : srt l = true := decide_eq_true hs
  rw [putL_new h]
  unfold insAt
  have hm : ∀ {z}, z ∈ l → z ≠ x := fun hz e => h (e ▸ hz)
  refine List.pairwise_append.2 ⟨hs.sublist (List.take_sublist _ _), List.pairwise_cons.2 ⟨fun z hz => ?_, hs.sublist (List.drop_sublist _ _)⟩, fun a ha b hb => ?_⟩
  · obtain ⟨i, hi, rfl⟩ := List.getElem_of_mem hz
    rw [List.length_drop] at hi
    have h2 : cntLt l x + i < l.length := by omega
    have := cntLt_ge hs' (x := x) (List.getElem?_eq_getElem h2) (by omega)
    rw [List.getElem_drop] at hz ⊢
    have := hm (List.mem_of_mem_drop hz)
    omega
  · obtain ⟨i, hi, rfl⟩ := List.getElem_of_mem ha
    rw [List.length_take] at hi
    have ha2 : (l.take (cntLt l x))[i] < x := by
      refine cntLt_lt (l := l) (i := i) (by omega) ?_
      rw [List.getElem_take, List.getElem?_eq_getElem (by omega)]
    rcases List.mem_cons.1 hb with rfl | hb
    · exact ha2
    · have := List.pairwise_append.1 ((List.take_append_drop (cntLt l x) l).symm ▸ hs)
      exact this.2.2 _ ha _ hb
theorem Que.Fine.srt_h {q : Que} (f : q.Fine) : srt q.h = true := decide_eq_true f.sh
theorem Que.Fine.srt_d {q : Que} (f : q.Fine) : srt q.d = true := decide_eq_true f.sd
theorem Que.Fine.no_d {q : Que} (f : q.Fine) {z : Int} (h : z ∈ q.w) : z ∉ q.d := fun hc => (List.nodup_append.1 f.nd).2.2 z (by simp [h]) z hc rfl
theorem Que.Fine.no_h {q : Que} (f : q.Fine) {z : Int} (h : z ∈ q.w) : z ∉ q.h := fun hc => (List.nodup_append.1 (List.nodup_append.1 f.nd).1).2.2 z h z hc rfl
theorem Que.Fine.new {q : Que} (f : q.Fine) : q.n ∉ q.w ++ q.h ++ q.d := fun hc => by have := f.lo _ hc; omega
/-- What a change that only moves keeps. -/
theorem Que.Fine.moved {q q' : Que} (f : q.Fine) {new : List Int} (hn : new = [] ∨ new = [q.n]) (hc : q'.c = q.c) (hr : q'.r = q.r) (hq : q'.n = q.n + new.length) (h100 : q'.n ≤ 100) (hw : (q'.w.length : Int) ≤ q.c)
    (sw : q'.w.Pairwise (· < ·)) (sh : q'.h.Pairwise (· < ·)) (sd : q'.d.Pairwise (· < ·)) (hp : (q'.w ++ q'.h ++ q'.d).Perm (new ++ (q.w ++ q.h ++ q.d))) : q'.Fine := by
  have hl := hp.length_eq
  simp only [List.length_append] at hl
  have hsum := f.sum
  have h0 := f.n
  refine ⟨by rw [hc]; exact f.c, by rw [hr]; exact f.r, by omega, by rw [hc]; exact hw, by omega, sw, sh, sd, ?_, ?_⟩
  · intro z hz
    rcases List.mem_append.1 (hp.mem_iff.1 hz) with hz | hz
    · rcases hn with rfl | rfl
      · cases hz
      · simp at hz hq; omega
    · have := f.lo z hz; omega
  · refine hp.nodup_iff.2 ?_
    rcases hn with rfl | rfl
    · exact f.nd
    · exact List.nodup_cons.2 ⟨f.new, f.nd⟩
theorem Que.off_fine {q : Que} (f : q.Fine) (h : q.n ≠ 100) : q.off.1.Fine := by
  obtain ⟨c, r, n, w, hh, d⟩ := q
  have hc := f.c; have hr := f.r; have hn := f.n; have hwc := f.wc
  have hlo := f.lo; have hnew := f.new
  dsimp only at hc hr hn hwc hlo hnew h
  have wn : ∀ z ∈ w, z < n := fun z hz => (hlo z (by simp [hz])).2
  have app : ∀ {w' : List Int}, w'.Pairwise (· < ·) → (∀ z ∈ w', z ∈ w) → (w' ++ [n]).Pairwise (· < ·) := fun {w'} h1 h2 => List.pairwise_append.2 ⟨h1, List.pairwise_singleton _ _, fun a ha b hb => by simp at hb; subst hb; exact wn a (h2 a ha)⟩
  unfold Que.off
  dsimp only
  split
  · refine f.moved (new := [n]) (.inr rfl) rfl rfl rfl (by dsimp only; omega) (by simp; omega) (app f.sw (fun _ h => h)) f.sh f.sd ?_
    dsimp only
    simp only [List.append_assoc]
    exact List.perm_middle
  · rename_i hlt
    have hpos : 0 < w.length := by omega
    split
    · have hnd : n ∉ d := fun hc => hnew (by simp [hc])
      refine f.moved (new := [n]) (.inr rfl) rfl rfl rfl (by dsimp only; omega) hwc f.sw f.sh (putL_srt hnd f.sd) ?_
      dsimp only
      rw [putL_new hnd]
      exact ((insAt_perm d _ n).append_left _).trans List.perm_middle
    · split
      · match w, hpos with
        | g :: w', _ =>
          have hg : g ∉ d := f.no_d (z := g) (by simp)
          simp only [List.drop_succ_cons, List.drop_zero, List.getD_cons_zero]
          have sw := List.pairwise_cons.1 f.sw
          refine f.moved (new := [n]) (.inr rfl) rfl rfl rfl (by dsimp only; omega) (by simp at hwc ⊢; omega) (app sw.2 (fun z h => by simp [h])) f.sh (putL_srt hg f.sd) ?_
          dsimp only
          rw [putL_new hg]
          refine ((insAt_perm d _ g).append_left _).trans (List.perm_middle.trans ?_)
          simp only [List.append_assoc, List.cons_append, List.nil_append]
          refine (List.Perm.cons g List.perm_middle).trans (List.Perm.swap n g _)
      · have hl : w = w.take (w.length - 1) ++ [w.getD (w.length - 1) 0] := by
          have h1 : w.length - 1 < w.length := by omega
          have e : w.getD (w.length - 1) 0 = w[w.length - 1] := by simp [List.getD, h1]
          rw [e, List.take_append_getElem h1]
          exact (List.take_of_length_le (by omega)).symm
        obtain ⟨g, hge⟩ : ∃ g, g = w.getD (w.length - 1) 0 := ⟨_, rfl⟩
        obtain ⟨v, hve⟩ : ∃ v, v = w.take (w.length - 1) := ⟨_, rfl⟩
        rw [← hge, ← hve] at hl ⊢
        subst hl
        clear hge hve
        have hg : g ∉ d := f.no_d (z := g) (by simp)
        have sw := List.pairwise_append.1 f.sw
        refine f.moved (new := [n]) (.inr rfl) rfl rfl rfl (by dsimp only; omega) (by simp at hwc ⊢; omega) (app sw.1 (fun z h => by simp [h])) f.sh (putL_srt hg f.sd) ?_
        dsimp only
        rw [putL_new hg]
        refine ((insAt_perm d _ g).append_left _).trans (List.perm_middle.trans ?_)
        simp only [List.append_assoc, List.cons_append, List.nil_append]
        refine (List.Perm.cons g List.perm_middle).trans ((List.Perm.swap n g _).trans (List.Perm.cons n List.perm_middle.symm))
theorem Que.hnd_fine {q : Que} (f : q.Fine) (h : q.w ≠ []) : q.hnd.1.Fine := by
  obtain ⟨c, r, n, w, hh, d⟩ := q
  have hwc := f.wc; have hn := f.n
  dsimp only at hwc hn h
  match w, h with
  | g :: w', _ =>
    have hg : g ∉ hh := f.no_h (z := g) (by simp)
    unfold Que.hnd
    simp only [List.drop_succ_cons, List.drop_zero, List.getD_cons_zero]
    have sw := List.pairwise_cons.1 f.sw
    refine f.moved (new := []) (.inl rfl) rfl rfl (by simp) (by dsimp only; omega) (by simp at hwc ⊢; omega) sw.2 (putL_srt hg f.sh) f.sd ?_
    dsimp only
    rw [putL_new hg]
    simp only [List.append_assoc, List.nil_append]
    refine (((insAt_perm hh _ g).append_right d).append_left w').trans ?_
    simp only [List.cons_append]
    exact List.perm_middle
end Go.Proofs.Ytjghbihlgfjebaa.Den
