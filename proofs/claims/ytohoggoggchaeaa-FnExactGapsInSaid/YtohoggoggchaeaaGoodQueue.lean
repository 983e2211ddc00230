/- GoodQueue; spec and impl -/
import Derived.Test.YtohoggoggchaeaaNewQueue
import Derived.Test.YtohoggoggchaeaaBools
import Derived.Test.YtohoggoggchaeaaFind
namespace Go.Proofs.Ytohoggoggchaeaa
open Go.ChangeShapes Go.WideShapes Go.ChangeAt Go.RowKit

def prevAt (l : List Int) : Nat → Option Int
  | 0 => none
  | j + 1 => l[j]?
def badNo (m : Nat) (sn : List Bool) (p : Option Int) (n : Int) : Bool := decide (n < 0) || decide ((m : Int) ≤ n) || sn[n.toNat]?.getD false || p.any (fun q => decide (n ≤ q))
/-- The numbers of a list marked in sn; none where one is bad. -/
def scan (m : Nat) : List Bool → Option Int → List Int → Option (List Bool)
  | sn, _, [] => some sn
  | sn, p, n :: t => if badNo m sn p n = true then none else scan m (sn.set n.toNat true) (some n) t
def scans (m : Nat) : List Bool → List (List Int) → Option (List Bool)
  | sn, [] => some sn
  | sn, l :: r => (scan m sn none l).bind fun s => scans m s r
theorem scan_at {m : Nat} {sn : List Bool} {l : List Int} {j : Nat} {n : Int} (h : l[j]? = some n) :
    scan m sn (prevAt l j) (l.drop j) = if badNo m sn (prevAt l j) n = true then none else scan m (sn.set n.toNat true) (prevAt l (j + 1)) (l.drop (j + 1)) := by
  obtain ⟨hj, rfl⟩ := List.getElem?_eq_some_iff.1 h
  rw [List.drop_eq_getElem_cons hj, scan]
  simp only [prevAt, List.getElem?_eq_getElem hj]
  rfl
theorem bad_none {m : Nat} {sn : List Bool} {l : List Int} {j : Nat} {n : Int} {f : List Bool → Option (List Bool)} {R : Option (List Bool)} (h : l[j]? = some n) (hb : badNo m sn (prevAt l j) n = true)
    (hR : (scan m sn (prevAt l j) (l.drop j)).bind f = R) : R = none := by
  rw [scan_at h, if_pos hb] at hR
  exact hR.symm
theorem good_next {m : Nat} {sn : List Bool} {l : List Int} {j : Nat} {n : Int} {f : List Bool → Option (List Bool)} {R : Option (List Bool)} (h : l[j]? = some n) (hb : badNo m sn (prevAt l j) n = false)
    (hR : (scan m sn (prevAt l j) (l.drop j)).bind f = R) : (scan m (sn.set n.toNat true) (prevAt l (j + 1)) (l.drop (j + 1))).bind f = R := by
  rw [scan_at h, if_neg (by rw [hb]; simp)] at hR
  exact hR
theorem set_other {w : World} {a : Addr} {u : Value} {b o : Nat} (h : b ≠ a.block) : (w.setCell a u).cell? ⟨b, o, none⟩ = w.cell? ⟨b, o, none⟩ :=
  World.cell?_of_block (w := w) (a := ⟨b, o, none⟩) (Below.heap_setCell _ _ _ _ h)
/-- A queue is right. -/
def gq (x0 x1 x2 : Int) (zs3 zs4 zs5 : List Int) : Bool :=
  inB x0 1 10 && inB x1 1 3 && inB x2 0 100 && decide ((zs3.length : Int) ≤ x0) && decide ((zs3.length : Int) + zs4.length + zs5.length = x2) && (scans x2.toNat (List.replicate x2.toNat false) [zs3, zs4, zs5]).isSome

/-- A list of slices of ints, each read in a world. -/
abbrev SI := Option Addr × Nat × Nat × List Int
def SI.v (t : SI) : Value := .slice t.1 t.2.1 t.2.2.1

set_option maxHeartbeats 1600000 in
set_option maxRecDepth 20000 in
theorem s_GoodQueue {x0 x1 x2 : Int} {zs3 zs4 zs5 : List Int} {ao3 ao4 ao5 : Option Addr} {n3 n4 n5 c3 c4 c5 lo hi : Nat} {w : World} (h3 : Sl w lo hi 1 ao3 n3 c3 (zs3.map cI)) (h4 : Sl w lo hi 1 ao4 n4 c4 (zs4.map cI)) (h5 : Sl w lo hi 1 ao5 n5 c5 (zs5.map cI)) (hhi : hi ≤ w.heap.size)
    (b3 : n3 ≤ 1048576) (b4 : n4 ≤ 1048576) (b5 : n5 ≤ 1048576) :
    Calls Try.prog 35 #[.agg #[.int .i64 x0, .int .i64 x1, .int .i64 x2, .slice ao3 n3 c3, .slice ao4 n4 c4, .slice ao5 n5 c5]] w fun e w' => e = .returned (.bool (gq x0 x1 x2 zs3 zs4 zs5)) ∧ Chg [] w w' := by
  have e3 : Hid (zs3.length = n3) := h3.length
  have e4 : Hid (zs4.length = n4) := h4.length
  have e5 : Hid (zs5.length = n5) := h5.length
  generalize hG : gq x0 x1 x2 zs3 zs4 zs5 = G
  have HG := hid hG
  clear hG
  go_enter Try.func35, Try.ntmps35
  go_wp2_with fail
  refine (s_l1In (x := inB x0 1 10) rfl).mono ?_
  rintro e w' ⟨rfl, rfl⟩
  cases g1 : inB x0 1 10
  · go_wp2
    go_ret
    exact ⟨ret_bool (by rw [← HG.out]; simp [gq, g1]), (Chg.refl _ _).alloc _⟩
  go_wp2_with fail
  refine (s_l1In (x := inB x1 1 3) rfl).mono ?_
  rintro e w' ⟨rfl, rfl⟩
  cases g2 : inB x1 1 3
  · go_wp2
    go_ret
    exact ⟨ret_bool (by rw [← HG.out]; simp [gq, g1, g2]), (Chg.refl _ _).alloc _⟩
  go_wp2_with fail
  refine (s_l1In (x := inB x2 0 100) rfl).mono ?_
  rintro e w' ⟨rfl, rfl⟩
  cases g3 : inB x2 0 100
  · go_wp2
    go_ret
    exact ⟨ret_bool (by rw [← HG.out]; simp [gq, g1, g2, g3]), (Chg.refl _ _).alloc _⟩
  have i1 : 1 ≤ x0 ∧ x0 ≤ 10 := by simpa [inB] using g1
  have i3 : 0 ≤ x2 ∧ x2 ≤ 100 := by simpa [inB] using g3
  obtain ⟨m, rfl⟩ : ∃ m : Nat, x2 = m := ⟨x2.toNat, by omega⟩
  by_cases g4 : (x0 : Int) < n3
  · go_wp2
    go_ret
    exact ⟨ret_bool (by have := e3.out; rw [← HG.out]; simp [gq, g1, g2, g3, this, show ¬ (n3 : Int) ≤ x0 by omega]), (Chg.refl _ _).alloc _⟩
  by_cases g5 : (n3 : Int) + n4 + n5 = m
  case neg =>
    have g5b : ((n3 : Int) + n4 + n5 != m) = true := by simpa using g5
    go_wp2
    go_ret
    exact ⟨ret_bool (by have t3 := e3.out; have t4 := e4.out; have t5 := e5.out; rw [← HG.out]; simp [gq, t3, t4, t5, g5]), (Chg.refl _ _).alloc _⟩
  have g5b : ((n3 : Int) + n4 + n5 != m) = false := by simpa using g5
  have hG2 : Hid (G = (scans m (List.replicate m false) [zs3, zs4, zs5]).isSome) := by
    have t3 := e3.out
    have t4 := e4.out
    have t5 := e5.out
    show G = _
    rw [← HG.out]
    simp [gq, g1, g2, g3, t3, t4, t5, g5]
    omega
  clear HG
  have g5 := hid g5
  go_wp2_with (at_make; (refine wpList_make rfl _ _ _ rfl etBools _ _ m rfl rfl rfl rfl (by omega) (by omega) ?_; intro w1 hown1 hchg1; have B1 := (hchg1.at (k := w.heap.size) (by simp) (by simp)).1; have z1 : w.heap.size + 1 < w1.heap.size := (by (have := hown1.lt _ (List.mem_singleton.2 rfl); simpa using this))))
  obtain ⟨R, hR0⟩ : ∃ R, R = scans m (List.replicate m false) [zs3, zs4, zs5] := ⟨_, rfl⟩
  rw [← hR0] at hG2
  have hR0 := hid hR0.symm
  obtain ⟨LL, hLL⟩ : ∃ LL : List SI, LL = [(ao3, n3, c3, zs3), (ao4, n4, c4, zs4), (ao5, n5, c5, zs5)] := ⟨_, rfl⟩
  have hL3 : LL.length = 3 := by rw [hLL]; rfl
  have hsl : Hid (∀ t ∈ LL, Sl w lo hi 1 t.1 t.2.1 t.2.2.1 (t.2.2.2.map cI) ∧ t.2.1 ≤ 1048576) := by
    show ∀ t ∈ LL, _
    rw [hLL]
    intro t ht
    simp only [List.mem_cons, List.not_mem_nil, or_false] at ht
    rcases ht with rfl | rfl | rfl
    · exact ⟨h3, b3⟩
    · exact ⟨h4, b4⟩
    · exact ⟨h5, b5⟩
  go_loopw [57] (fun i wr => ∃ (j : Nat) (sn : List Bool), j ≤ 3 ∧ i = .int .i64 j ∧ Chg [] w wr ∧ wr.cell? ⟨w.heap.size, 2, none⟩ = some (.int .i64 m) ∧ Hid (∀ (k : Nat) (t : SI), LL[k]? = some t → wr.cell? ⟨w1.heap.size, k, none⟩ = some t.v) ∧
      Own wr 4 1 (some ⟨w.heap.size + 1, 0, none⟩) m m (sn.map cB) [w.heap.size + 1] ∧ Hid (scans m sn ((LL.drop j).map fun t => t.2.2.2) = R)) (fun i _ => 3 - (intOf i).toNat)
  case atStart =>
    have hch : Chg [] w w1 := ((Chg.refl [] w).alloc _).trans hchg1
    refine ⟨0, List.replicate m false, by omega, rfl, hch.alloc _, ?_, ?_, ?_, ?_⟩
    · rw [((Chg.refl [] w1).alloc _).cells.1 _ _ (by omega), B1]; simp
    · intro k t ht
      rw [hLL] at ht
      match k, ht with
      | 0, ht => simp at ht; subst ht; simp [SI.v]
      | 1, ht => simp at ht; subst ht; simp [SI.v]
      | 2, ht => simp at ht; subst ht; simp [SI.v]
      | k + 3, ht => simp at ht
    · rw [show (Value.bool false).cells = #[Value.bool false] from rfl, made_one] at hown1
      have := hown1.ext ((Chg.refl [] w1).alloc (.cells #[Value.slice ao3 n3 c3, Value.slice ao4 n4 c4, Value.slice ao5 n5 c5] 22))
      simpa using this
    · rw [hLL]; exact hR0
  case round =>
    obtain ⟨j, sn, hj, rfl, hc, hc2, hcs, ho, hR⟩ := hrel
    by_cases hlt : j < 3
    · obtain ⟨⟨ao, n, c, zs⟩, ht⟩ := get_ex (l := LL) (k := j) (by omega)
      have hcell := hcs.out _ _ ht
      simp only [SI.v] at hcell
      obtain ⟨hS, hnb⟩ := hsl.out _ (List.mem_of_getElem? ht)
      simp only at hS hnb
      have hRR : Hid ((scan m sn (prevAt zs 0) (zs.drop 0)).bind (fun s => scans m s ((LL.drop (j + 1)).map fun t => t.2.2.2)) = R) := by
        have := hR.out
        obtain ⟨hj2, he⟩ := List.getElem?_eq_some_iff.1 ht
        rw [List.drop_eq_getElem_cons hj2, he] at this
        exact this
      have HT := hid ht
      clear ht
      go_wp2
      go_loopw [63] (fun i wr => ∃ (j2 : Nat) (sn : List Bool), j2 ≤ n ∧ i = .int .i64 j2 ∧ Chg [] w wr ∧ wr.cell? ⟨w.heap.size, 2, none⟩ = some (.int .i64 m) ∧ Hid (∀ (k : Nat) (t : SI), LL[k]? = some t → wr.cell? ⟨w1.heap.size, k, none⟩ = some t.v) ∧
          Own wr 4 1 (some ⟨w.heap.size + 1, 0, none⟩) m m (sn.map cB) [w.heap.size + 1] ∧ Hid ((scan m sn (prevAt zs j2) (zs.drop j2)).bind (fun s => scans m s ((LL.drop (j + 1)).map fun t => t.2.2.2)) = R)) (fun i _ => n - (intOf i).toNat)
      case atStart => exact ⟨0, sn, by omega, rfl, hc, hc2, hcs, ho, hRR⟩
      case round =>
        clear hc hc2 hcs ho hR hRR hcell
        obtain ⟨j2, sn, hj2, rfl, hc, hc2, hcs, ho, hR⟩ := hrel
        by_cases hlt2 : j2 < n
        · obtain ⟨b, off, z, rfl, hb1, hb2, hz, hcell⟩ := (hS.ext hc hhi).at hlt2
          by_cases e1 : z < 0
          · go_wp2
            go_ret
            exact ⟨ret_bool (by rw [hG2.out, bad_none hz.out (by simp [badNo, e1]) hR.out]; rfl), hc⟩
          by_cases e2 : (m : Int) ≤ z
          · go_wp2
            go_ret
            exact ⟨ret_bool (by rw [hG2.out, bad_none hz.out (by simp [badNo, e2]) hR.out]; rfl), hc⟩
          obtain ⟨k, rfl⟩ : ∃ k : Nat, z = k := ⟨z.toNat, by omega⟩
          have hk : k < m := by omega
          obtain ⟨b', off', s, he, hS', hs, hcell', hfr'⟩ := ho.at hk
          simp only [Option.some.injEq, Addr.mk.injEq, and_true] at he
          obtain ⟨rfl, rfl⟩ := he
          clear hS'
          simp only [Nat.zero_add] at hcell' hfr'
          cases s
          case true =>
            go_wp2
            go_ret
            exact ⟨ret_bool (by have := hs.out; rw [hG2.out, bad_none hz.out (by simp [badNo, this]) hR.out]; rfl), hc⟩
          have hp := ho.put hk true
          simp only [Nat.zero_add] at hp
          cases j2 with
          | zero =>
            simp only [Nat.add_zero] at hcell
            go_wp2
            go_roundw
            case rel =>
              refine ⟨1, sn.set k true, by omega, by go_num, hc.setCell (Or.inr (by dsimp only; omega)) _, by rw [set_other (by dsimp only; omega)]; exact hc2, fun k' t ht => by rw [set_other (by dsimp only; omega)]; exact hcs.out k' t ht, hp, ?_⟩
              have := good_next hz.out (by have := hs.out; simp [badNo, prevAt, this]; omega) hR.out
              exact this
            case measure => simp [intOf]; omega
          | succ j3 =>
            obtain ⟨b2, off2, y, he2, hb3, hb4, hy, hcell2⟩ := (hS.ext hc hhi).at (j := j3) (by omega)
            simp only [Option.some.injEq, Addr.mk.injEq, and_true] at he2
            obtain ⟨rfl, rfl⟩ := he2
            by_cases e3 : (k : Int) ≤ y
            · go_wp2
              go_ret
              exact ⟨ret_bool (by rw [hG2.out, bad_none hz.out (by simp [badNo, prevAt, hy.out, e3]) hR.out]; rfl), hc⟩
            · go_wp2
              go_roundw
              case rel =>
                refine ⟨j3 + 1 + 1, sn.set k true, by omega, by go_num, hc.setCell (Or.inr (by dsimp only; omega)) _, by rw [set_other (by dsimp only; omega)]; exact hc2, fun k' t ht => by rw [set_other (by dsimp only; omega)]; exact hcs.out k' t ht, hp, ?_⟩
                have := good_next hz.out (by have := hs.out; simp [badNo, prevAt, hy.out, this]; omega) hR.out
                exact this
              case measure => simp [intOf]; omega
        · go_wp2
          go_roundw
          case rel =>
            refine ⟨j + 1, sn, by omega, by go_num, hc, hc2, hcs, ho, ?_⟩
            have h1 := hR.out
            have h2 : zs.length = n := hS.length
            rw [List.drop_of_length_le (by omega)] at h1
            exact h1
          case measure => simp [intOf]; omega
    · go_wp2
      go_ret
      obtain rfl : j = 3 := by omega
      have := hR.out
      rw [hLL] at this
      exact ⟨ret_bool (by rw [hG2.out, ← this]; rfl), hc⟩
theorem scan_count {m : Nat} : ∀ {l : List Int} {sn sn' : List Bool} {p : Option Int}, scan m sn p l = some sn' → sn.length = m → sn'.length = m ∧ sn'.count true = sn.count true + l.length
  | [], sn, sn', p, h, hm => by simp [scan] at h; subst h; simp [hm]
  | n :: t, sn, sn', p, h, hm => by
    rw [scan] at h
    by_cases hb : badNo m sn p n = true
    · rw [if_pos hb] at h; cases h
    · rw [if_neg hb] at h
      have ih := scan_count h (by simpa using hm)
      have hb' : badNo m sn p n = false := by simpa using hb
      simp only [badNo, Bool.or_eq_false_iff, decide_eq_false_iff_not] at hb'
      obtain ⟨⟨⟨h1, h2⟩, h3⟩, _⟩ := hb'
      have hlt : n.toNat < sn.length := by omega
      have hg : sn[n.toNat] = false := by
        rw [List.getElem?_eq_getElem hlt] at h3
        simpa using h3
      refine ⟨ih.1, ?_⟩
      rw [ih.2, List.count_set hlt, hg]
      simp
      omega
theorem scans_count {m : Nat} : ∀ {L : List (List Int)} {sn sn' : List Bool}, scans m sn L = some sn' → sn.length = m → sn'.length = m ∧ sn'.count true = sn.count true + (L.map List.length).sum
  | [], sn, sn', h, hm => by simp [scans] at h; subst h; simp [hm]
  | l :: r, sn, sn', h, hm => by
    rw [scans] at h
    obtain ⟨s, h1, h2⟩ := Option.bind_eq_some_iff.1 h
    have i1 := scan_count h1 hm
    have i2 := scans_count h2 i1.1
    refine ⟨i2.1, ?_⟩
    rw [i2.2, i1.2]
    simp
    omega
theorem full_iff {m : Nat} {L : List (List Int)} {sn : List Bool} (h : scans m (List.replicate m false) L = some sn) : false ∉ sn ↔ (L.map List.length).sum = m := by
  obtain ⟨h1, h2⟩ := scans_count h (by simp)
  have h3 : (List.replicate m false).count true = 0 := by simp [List.count_replicate]
  rw [h3] at h2
  have h4 : false ∉ sn ↔ ∀ b ∈ sn, true = b := ⟨fun h b hb => by cases b with | true => rfl | false => exact absurd hb h, fun h hb => by have := h _ hb; cases this⟩
  rw [h4, ← List.count_eq_length]
  omega

set_option maxHeartbeats 1600000 in
set_option maxRecDepth 20000 in
theorem i_GoodQueue {x0 x1 x2 : Int} {zs3 zs4 zs5 : List Int} {ao3 ao4 ao5 : Option Addr} {n3 n4 n5 c3 c4 c5 lo hi : Nat} {w : World} (h3 : Sl w lo hi 1 ao3 n3 c3 (zs3.map cI)) (h4 : Sl w lo hi 1 ao4 n4 c4 (zs4.map cI)) (h5 : Sl w lo hi 1 ao5 n5 c5 (zs5.map cI)) (hhi : hi ≤ w.heap.size)
    (b3 : n3 ≤ 1048576) (b4 : n4 ≤ 1048576) (b5 : n5 ≤ 1048576) :
    Calls Try.prog 37 #[.agg #[.int .i64 x0, .int .i64 x1, .int .i64 x2, .slice ao3 n3 c3, .slice ao4 n4 c4, .slice ao5 n5 c5]] w fun e w' => e = .returned (.bool (gq x0 x1 x2 zs3 zs4 zs5)) ∧ Chg [] w w' := by
  have e3 : Hid (zs3.length = n3) := h3.length
  have e4 : Hid (zs4.length = n4) := h4.length
  have e5 : Hid (zs5.length = n5) := h5.length
  generalize hG : gq x0 x1 x2 zs3 zs4 zs5 = G
  have HG := hid hG
  clear hG
  go_enter Try.func37, Try.ntmps37
  go_wp2_with fail
  refine (i_NewQueue x0 x1).mono ?_
  rintro e w1 ⟨v0, rfl, hk1, hv0⟩
  obtain ⟨pa3, pn3, pc3, pS3, pa4, pn4, pc4, pS4, pa5, pn5, pc5, pS5, rfl, _⟩ := hv0
  have A1 := (hk1.at (k := w.heap.size) (by simp) (by simp)).1
  have y1 : w.heap.size + 1 ≤ w1.heap.size := by have := hk1.size; simpa using this
  have y2 : w.heap.size < w1.heap.size := y1
  have hK1 : Chg [] w w1 := ((Chg.refl _ _).alloc _).trans hk1
  have hok : nqOk x0 x1 = (inB x0 1 10 && inB x1 1 3) := rfl
  have hok := hid hok
  cases g1 : nqOk x0 x1
  · go_wp2
    go_ret
    have h := hok.out
    rw [g1] at h
    exact ⟨ret_bool (by rw [← HG.out]; simp [gq, ← h]), hK1.alloc _⟩
  go_wp2_with fail
  refine (i_within (x := inB x2 0 100) rfl).mono ?_
  rintro e w' ⟨rfl, rfl⟩
  have g1' : (inB x0 1 10 && inB x1 1 3) = true := by rw [← hok.out]; exact g1
  cases g3 : inB x2 0 100
  · go_wp2
    go_ret
    exact ⟨ret_bool (by rw [← HG.out]; simp [gq, g3]), hK1.alloc _⟩
  have i1 : 1 ≤ x0 ∧ x0 ≤ 10 := by simp [inB] at g1'; omega
  have i3 : 0 ≤ x2 ∧ x2 ≤ 100 := by simpa [inB] using g3
  obtain ⟨m, rfl⟩ : ∃ m : Nat, x2 = m := ⟨x2.toNat, by omega⟩
  by_cases g4 : (x0 : Int) < n3
  · go_wp2
    go_ret
    exact ⟨ret_bool (by have := e3.out; rw [← HG.out]; simp [gq, this, show ¬ (n3 : Int) ≤ x0 by omega]), hK1.alloc _⟩
  have hG2 : Hid (G = (decide (n3 + n4 + n5 = m) && (scans m (List.replicate m false) [zs3, zs4, zs5]).isSome)) := by
    have t3 := e3.out
    have t4 := e4.out
    have t5 := e5.out
    show G = _
    rw [← HG.out]
    simp only [gq, g1', g3, t3, t4, t5, Bool.true_and, show decide ((n3 : Int) ≤ x0) = true by simp; omega, show (m : Int).toNat = m from rfl]
    congr 1
    simp
    omega
  clear HG
  go_wp2_with (at_make; (refine wpList_make rfl _ _ _ rfl etBools _ _ m rfl rfl rfl rfl (by omega) (by omega) ?_; intro w2 hown1 hchg1; have B1 := (hchg1.at (k := w.heap.size) (by simp only [World.size_alloc]; omega) (by simp)).1; have z0 : w.heap.size < w2.heap.size := (by (have := hown1.lt _ (List.mem_singleton.2 rfl); simp at this; omega)); have z1 : w1.heap.size + 1 < w2.heap.size := (by (have := hown1.lt _ (List.mem_singleton.2 rfl); simpa using this))))
  obtain ⟨R, hR0⟩ : ∃ R, R = scans m (List.replicate m false) [zs3, zs4, zs5] := ⟨_, rfl⟩
  rw [← hR0] at hG2
  have hR0 := hid hR0.symm
  obtain ⟨LL, hLL⟩ : ∃ LL : List SI, LL = [(ao3, n3, c3, zs3), (ao4, n4, c4, zs4), (ao5, n5, c5, zs5)] := ⟨_, rfl⟩
  have hL3 : LL.length = 3 := by rw [hLL]; rfl
  have hsl : Hid (∀ t ∈ LL, Sl w lo hi 1 t.1 t.2.1 t.2.2.1 (t.2.2.2.map cI) ∧ t.2.1 ≤ 1048576) := by
    show ∀ t ∈ LL, _
    rw [hLL]
    intro t ht
    simp only [List.mem_cons, List.not_mem_nil, or_false] at ht
    rcases ht with rfl | rfl | rfl
    · exact ⟨h3, b3⟩
    · exact ⟨h4, b4⟩
    · exact ⟨h5, b5⟩
  go_loopw [45] (fun i wr => ∃ (j : Nat) (sn : List Bool), j ≤ 3 ∧ i = .int .i64 j ∧ Chg [] w wr ∧ wr.cell? ⟨w.heap.size, 2, none⟩ = some (.int .i64 m) ∧ Hid (∀ (k : Nat) (t : SI), LL[k]? = some t → wr.cell? ⟨w2.heap.size, k, none⟩ = some t.v) ∧
      Own wr 4 1 (some ⟨w1.heap.size + 1, 0, none⟩) m m (sn.map cB) [w1.heap.size + 1] ∧ Hid (scans m sn ((LL.drop j).map fun t => t.2.2.2) = R)) (fun i _ => 3 - (intOf i).toNat)
  case atStart =>
    have hch : Chg [] w w2 := (hK1.alloc _).trans hchg1
    refine ⟨0, List.replicate m false, by omega, rfl, hch.alloc _, ?_, ?_, ?_, ?_⟩
    · rw [((Chg.refl [] w2).alloc _).cells.1 _ _ (by omega), B1, ((Chg.refl [] w1).alloc _).cells.1 _ _ (by omega), A1]; simp
    · intro k t ht
      rw [hLL] at ht
      match k, ht with
      | 0, ht => simp at ht; subst ht; simp [SI.v]
      | 1, ht => simp at ht; subst ht; simp [SI.v]
      | 2, ht => simp at ht; subst ht; simp [SI.v]
      | k + 3, ht => simp at ht
    · rw [show (Value.bool false).cells = #[Value.bool false] from rfl, made_one] at hown1
      have := hown1.ext ((Chg.refl [] w2).alloc (.cells #[Value.slice ao3 n3 c3, Value.slice ao4 n4 c4, Value.slice ao5 n5 c5] 22))
      simpa using this
    · rw [hLL]; exact hR0
  case round =>
    obtain ⟨j, sn, hj, rfl, hc, hc2, hcs, ho, hR⟩ := hrel
    by_cases hlt : j < 3
    · have hltI : (j : Int) < 3 := by omega
      have hltD : decide ((j : Int) < 3) = true := decide_eq_true hltI
      obtain ⟨⟨ao, n, c, zs⟩, ht⟩ := get_ex (l := LL) (k := j) (by omega)
      have hcell := hcs.out _ _ ht
      simp only [SI.v] at hcell
      obtain ⟨hS, hnb⟩ := hsl.out _ (List.mem_of_getElem? ht)
      simp only at hS hnb
      have hRR : Hid ((scan m sn (prevAt zs 0) (zs.drop 0)).bind (fun s => scans m s ((LL.drop (j + 1)).map fun t => t.2.2.2)) = R) := by
        have := hR.out
        obtain ⟨hj2, he⟩ := List.getElem?_eq_some_iff.1 ht
        rw [List.drop_eq_getElem_cons hj2, he] at this
        exact this
      have HT := hid ht
      clear ht
      go_wp2
      go_loopw [51] (fun i wr => ∃ (j2 : Nat) (sn : List Bool), j2 ≤ n ∧ i = .int .i64 j2 ∧ Chg [] w wr ∧ wr.cell? ⟨w.heap.size, 2, none⟩ = some (.int .i64 m) ∧ Hid (∀ (k : Nat) (t : SI), LL[k]? = some t → wr.cell? ⟨w2.heap.size, k, none⟩ = some t.v) ∧
          Own wr 4 1 (some ⟨w1.heap.size + 1, 0, none⟩) m m (sn.map cB) [w1.heap.size + 1] ∧ Hid ((scan m sn (prevAt zs j2) (zs.drop j2)).bind (fun s => scans m s ((LL.drop (j + 1)).map fun t => t.2.2.2)) = R)) (fun i _ => n - (intOf i).toNat)
      case atStart => exact ⟨0, sn, by omega, rfl, hc, hc2, hcs, ho, hRR⟩
      case round =>
        clear hc hc2 hcs ho hR hRR hcell
        obtain ⟨j2, sn, hj2, rfl, hc, hc2, hcs, ho, hR⟩ := hrel
        by_cases hlt2 : j2 < n
        · obtain ⟨b, off, z, rfl, hb1, hb2, hz, hcell⟩ := (hS.ext hc hhi).at hlt2
          go_wp2_with fail
          refine (i_within (x := inB z 0 (m - 1)) rfl).mono ?_
          rintro e w' ⟨rfl, rfl⟩
          cases e1 : inB z 0 (m - 1)
          · have e1' : badNo m sn (prevAt zs j2) z = true := by
              simp only [inB, Bool.and_eq_false_iff, decide_eq_false_iff_not] at e1
              simp only [badNo, Bool.or_eq_true, decide_eq_true_eq]
              omega
            go_wp2
            go_ret
            exact ⟨ret_bool (by rw [hG2.out, bad_none hz.out e1' hR.out]; simp), hc⟩
          have e2 : 0 ≤ z ∧ z < m := by simp [inB] at e1; omega
          obtain ⟨k, rfl⟩ : ∃ k : Nat, z = k := ⟨z.toNat, by omega⟩
          have hk : k < m := by omega
          obtain ⟨b', off', s, he, hS', hs, hcell', hfr'⟩ := ho.at hk
          simp only [Option.some.injEq, Addr.mk.injEq, and_true] at he
          obtain ⟨rfl, rfl⟩ := he
          clear hS'
          simp only [Nat.zero_add] at hcell' hfr'
          cases s
          case true =>
            go_wp2
            go_ret
            exact ⟨ret_bool (by have := hs.out; rw [hG2.out, bad_none hz.out (by simp [badNo, this]) hR.out]; simp), hc⟩
          have hp := ho.put hk true
          simp only [Nat.zero_add] at hp
          cases j2 with
          | zero =>
            simp only [Nat.add_zero] at hcell
            go_wp2
            go_roundw
            case rel =>
              refine ⟨1, sn.set k true, by omega, by go_num, hc.setCell (Or.inr (by dsimp only; omega)) _, by rw [set_other (by dsimp only; omega)]; exact hc2, fun k' t ht => by rw [set_other (by dsimp only; omega)]; exact hcs.out k' t ht, hp, ?_⟩
              have := good_next hz.out (by have := hs.out; simp [badNo, prevAt, this]; omega) hR.out
              exact this
            case measure => simp [intOf]; omega
          | succ j3 =>
            obtain ⟨b2, off2, y, he2, hb3, hb4, hy, hcell2⟩ := (hS.ext hc hhi).at (j := j3) (by omega)
            simp only [Option.some.injEq, Addr.mk.injEq, and_true] at he2
            obtain ⟨rfl, rfl⟩ := he2
            by_cases e3 : (k : Int) ≤ y
            · go_wp2
              go_ret
              exact ⟨ret_bool (by rw [hG2.out, bad_none hz.out (by simp [badNo, prevAt, hy.out, e3]) hR.out]; simp), hc⟩
            · go_wp2
              go_roundw
              case rel =>
                refine ⟨j3 + 1 + 1, sn.set k true, by omega, by go_num, hc.setCell (Or.inr (by dsimp only; omega)) _, by rw [set_other (by dsimp only; omega)]; exact hc2, fun k' t ht => by rw [set_other (by dsimp only; omega)]; exact hcs.out k' t ht, hp, ?_⟩
                have := good_next hz.out (by have := hs.out; simp [badNo, prevAt, hy.out, this]; omega) hR.out
                exact this
              case measure => simp [intOf]; omega
        · go_wp2
          go_roundw
          case rel =>
            refine ⟨j + 1, sn, by omega, by go_num, hc, hc2, hcs, ho, ?_⟩
            have h1 := hR.out
            have h2 : zs.length = n := hS.length
            rw [List.drop_of_length_le (by omega)] at h1
            exact h1
          case measure => simp [intOf]; omega
    · go_wp2_with fail
      refine (containsBools (v := false) (ho.sl (lo := 0) (fun _ _ => Nat.zero_le _) ho.lt)).mono ?_
      rintro e w3 ⟨rfl, hq⟩
      go_wp2
      go_ret
      obtain rfl : j = 3 := by omega
      have h1 := hR.out
      rw [hLL] at h1
      have h2 : R = some sn := by rw [← h1]; rfl
      have h3 := full_iff (hR0.out.trans h2)
      have t3 := e3.out
      have t4 := e4.out
      have t5 := e5.out
      simp only [List.map_cons, List.map_nil, List.sum_cons, List.sum_nil, t3, t4, t5] at h3
      refine ⟨ret_bool ?_, hc.qt hq⟩
      rw [hG2.out, h2]
      by_cases hf : false ∈ sn
      · have : ¬ (n3 + n4 + n5 = m) := fun e => (h3.2 (by omega)) hf
        simp [hf, this]
      · have := h3.1 hf
        simp [hf, show n3 + n4 + n5 = m by omega]

end Go.Proofs.Ytohoggoggchaeaa
