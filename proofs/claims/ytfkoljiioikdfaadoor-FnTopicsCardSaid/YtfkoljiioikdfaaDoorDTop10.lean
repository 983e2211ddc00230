/- What functions of the program do, by the machine: Top10. -/
import Derived.Test.YtfkoljiioikdfaaDoorDTop9
import Derived.KernelRfl
import Derived.Test.YtfkoljiioikdfaaDoorRows
namespace Go.Proofs.YtfkoljiioikdfaaDoor.Den
open Go.Proofs
set_option maxRecDepth 100000
def ctopG : List V → List Blk → Br (V × List (Option Blk))
  | [.ptr 0 0], [.box [.sl (.int .u8) l, .i .i64 a, .i .u64 s]] => .need (decide ((Cur.mk l a s).good 500000000)) (.leaf (.s (Cur.mk l a s).top.1, [some (.box [.sl (.int .u8) (Cur.mk l a s).top.2.l, .i .i64 (Cur.mk l a s).top.2.a, .i .u64 (Cur.mk l a s).top.2.s])]))
  | _, _ => .no
def cpatG : List V → List Blk → Br (V × List (Option Blk))
  | [.ptr 0 0], [.box [.sl (.int .u8) l, .i .i64 a, .i .u64 s]] => .need (decide ((Cur.mk l a s).good 500000000)) (.leaf (.s (Cur.mk l a s).pat.1, [some (.box [.sl (.int .u8) (Cur.mk l a s).pat.2.l, .i .i64 (Cur.mk l a s).pat.2.a, .i .u64 (Cur.mk l a s).pat.2.s])]))
  | _, _ => .no
theorem wd_ne {L : List (List UInt8)} {c : Cur} (hL : ∀ z ∈ L, z ≠ []) (h0 : L ≠ []) (hr : 0 ≤ c.pickV L.length ∧ c.pickV L.length < L.length) : c.wd L ≠ [] := by
  unfold Cur.wd
  have h : (c.pickV L.length).toNat < L.length := by omega
  have e : L.getD (c.pickV L.length).toNat [] = L[(c.pickV L.length).toNat] := by simp only [List.getD, List.getElem?_eq_getElem h, Option.getD_some]
  rw [e]; exact hL _ (List.getElem_mem h)
theorem Cur.topL_facts : ∀ (n : Nat) {c : Cur} {m : Int} (t : List UInt8), c.good m → (c.topL n t).1.length ≤ t.length + 3 * n ∧ (c.topL n t).2.good (m + 2 * n)
  | 0, c, m, t, h => ⟨by simp [Cur.topL], Cur.good_mono h (by omega)⟩
  | n + 1, c, m, t, h => by
    have hw : (c.wd [[97], [98], [99, 49], [120]]).length ≤ 2 := wd_len (by decide) c
    obtain ⟨h1, h2⟩ := Cur.topL_facts n (t ++ 47 :: c.wd [[97], [98], [99, 49], [120]]) (Cur.pickC_good (k := 4) h)
    have e3 : (t ++ 47 :: c.wd [[97], [98], [99, 49], [120]]).length = t.length + 1 + (c.wd [[97], [98], [99, 49], [120]]).length := by simp; omega
    rw [Cur.topL]
    skip
    skip
    exact ⟨by omega, Cur.good_mono h2 (by omega)⟩
theorem Cur.top0_facts {c : Cur} {m : Int} (h : c.good m) : c.top0.1.length ≤ 20 ∧ c.top0.2.good (m + 20) := by
  have hw : (c.wd [[97], [98], [99, 49]]).length ≤ 2 := wd_len (by decide) c
  have g1 : (c.pickC 3).good (m + 2) := Cur.pickC_good h
  have r := Cur.pickV_range (k := 4) g1 (by omega)
  obtain ⟨h1, h2⟩ := Cur.topL_facts ((c.pickC 3).pickV 4).toNat (c.wd [[97], [98], [99, 49]]) (Cur.pickC_good (k := 4) g1)
  unfold Cur.top0
  exact ⟨by omega, Cur.good_mono h2 (by omega)⟩
theorem Cur.top_facts {c : Cur} {m : Int} (h : c.good m) : c.top.1.length ≤ 40 ∧ c.top.2.good (m + 30) := by
  obtain ⟨h1, h2⟩ := Cur.top0_facts h
  have hw : ((c.top0.2.pickC 20).wd [[], [97, 47, 47, 98], [65], [97, 47, 98, 47, 99, 47, 100, 47, 101, 47, 102], [97, 47, 98, 47, 99, 47, 100, 47, 101, 47, 102, 47, 103], [116, 111, 111, 108, 111, 110, 103]]).length ≤ 13 := wd_len (by decide) _
  unfold Cur.top
  split
  · exact ⟨by dsimp only; omega, by dsimp only; (repeat with_reducible apply Cur.pick_le); exact Cur.good_mono h2 (by omega)⟩
  · exact ⟨by dsimp only; omega, by dsimp only; (repeat with_reducible apply Cur.pick_le); exact Cur.good_mono h2 (by omega)⟩
theorem ctop_fun (l : List Int) (a s : Int) (hc : (Cur.mk l a s).good 500000000) : funN Tryd.prog (look [(58, .own cofG), (59, .own cpickG), (40, .own coneG)]) (look [(3, toplE)]) Tryd.f31 [.ptr 0 0] [.box [.sl (.int .u8) l, .i .i64 a, .i .u64 s]] = (.leaf (.s (Cur.mk l a s).top.1, [some (.box [.sl (.int .u8) (Cur.mk l a s).top.2.l, .i .i64 (Cur.mk l a s).top.2.a, .i .u64 (Cur.mk l a s).top.2.s])]) : Br (V × List (Option Blk))).run := by
  have e : funN Tryd.prog (look [(58, .own cofG), (59, .own cpickG), (40, .own coneG)]) (look [(3, toplE)]) Tryd.f31 [.ptr 0 0] [.box [.sl (.int .u8) l, .i .i64 a, .i .u64 s]] = ((ifT (decide ((Cur.mk l a s).good (900000000 : Int) ∧ (1 : Nat) ≤ (3 : Nat) ∧ (3 : Nat) ≤ (3 : Nat)))
  (ifT (decide (((Cur.mk l a s).pickC (↑(3 : Nat) : Int)).good (900000000 : Int)))
  (ifT
  (decide
  (((0 : Int) ≤ ((Cur.mk l a s).pickC (↑(3 : Nat) : Int)).pickV (4 : Int) ∧
  ((Cur.mk l a s).pickC (↑(3 : Nat) : Int)).pickV (4 : Int) ≤ (100 : Int)) ∧
  (↑(List.length
  (([(97 : UInt8)] :: [(98 : UInt8)] :: [(99 : UInt8), (49 : UInt8)] :: nilT Cd.str.den).getD
  ((0 : Nat) + ((Cur.mk l a s).pickV (↑(3 : Nat) : Int)).toNat) (nilT UInt8))) :
  Int) +
  (20 : Int) * ((Cur.mk l a s).pickC (↑(3 : Nat) : Int)).pickV (4 : Int) ≤
  (10000 : Int) ∧
  (((Cur.mk l a s).pickC (↑(3 : Nat) : Int)).pickC (4 : Int)).good
  ((700000000 : Int) - (6 : Int) * ((Cur.mk l a s).pickC (↑(3 : Nat) : Int)).pickV (4 : Int))))
  (ifT
  (decide
  ((Cur.topL (((Cur.mk l a s).pickC (↑(3 : Nat) : Int)).pickV (4 : Int)).toNat
  (((Cur.mk l a s).pickC (↑(3 : Nat) : Int)).pickC (4 : Int))
  (([(97 : UInt8)] :: [(98 : UInt8)] :: [(99 : UInt8), (49 : UInt8)] :: nilT Cd.str.den).getD
  ((0 : Nat) + ((Cur.mk l a s).pickV (↑(3 : Nat) : Int)).toNat) (nilT UInt8))).snd.good
  (900000000 : Int)))
  (ifB
  ((Cur.topL (((Cur.mk l a s).pickC (↑(3 : Nat) : Int)).pickV (4 : Int)).toNat
  (((Cur.mk l a s).pickC (↑(3 : Nat) : Int)).pickC (4 : Int))
  (([(97 : UInt8)] :: [(98 : UInt8)] :: [(99 : UInt8), (49 : UInt8)] :: nilT Cd.str.den).getD
  ((0 : Nat) + ((Cur.mk l a s).pickV (↑(3 : Nat) : Int)).toNat) (nilT UInt8))).snd.pickV
  (20 : Int) ==
  (0 : Int))
  (ifT
  (decide
  (((Cur.topL (((Cur.mk l a s).pickC (↑(3 : Nat) : Int)).pickV (4 : Int)).toNat
  (((Cur.mk l a s).pickC (↑(3 : Nat) : Int)).pickC (4 : Int))
  (([(97 : UInt8)] :: [(98 : UInt8)] :: [(99 : UInt8), (49 : UInt8)] :: nilT Cd.str.den).getD
  ((0 : Nat) + ((Cur.mk l a s).pickV (↑(3 : Nat) : Int)).toNat) (nilT UInt8))).snd.pickC
  (20 : Int)).good
  (900000000 : Int) ∧
  (1 : Nat) ≤ (6 : Nat) ∧ (6 : Nat) ≤ (6 : Nat)))
  (some
  (V.s
  ((nilT UInt8 ::
  [(97 : UInt8), (47 : UInt8), (47 : UInt8), (98 : UInt8)] ::
  [(65 : UInt8)] ::
  [(97 : UInt8), (47 : UInt8), (98 : UInt8), (47 : UInt8), (99 : UInt8), (47 : UInt8),
  (100 : UInt8), (47 : UInt8), (101 : UInt8), (47 : UInt8), (102 : UInt8)] ::
  [(97 : UInt8), (47 : UInt8), (98 : UInt8), (47 : UInt8), (99 : UInt8), (47 : UInt8),
  (100 : UInt8), (47 : UInt8), (101 : UInt8), (47 : UInt8), (102 : UInt8), (47 : UInt8),
  (103 : UInt8)] ::
  [(116 : UInt8), (111 : UInt8), (111 : UInt8), (108 : UInt8), (111 : UInt8),
  (110 : UInt8), (103 : UInt8)] ::
  nilT Cd.str.den).getD
  ((0 : Nat) +
  (((Cur.topL (((Cur.mk l a s).pickC (↑(3 : Nat) : Int)).pickV (4 : Int)).toNat
  (((Cur.mk l a s).pickC (↑(3 : Nat) : Int)).pickC (4 : Int))
  (([(97 : UInt8)] ::
  [(98 : UInt8)] :: [(99 : UInt8), (49 : UInt8)] :: nilT Cd.str.den).getD
  ((0 : Nat) + ((Cur.mk l a s).pickV (↑(3 : Nat) : Int)).toNat)
  (nilT UInt8))).snd.pickC
  (20 : Int)).pickV
  (↑(6 : Nat) : Int)).toNat)
  (nilT UInt8)),
  [some
  (Blk.box
  [V.sl (Cd.int IntKind.u8)
  (((Cur.topL (((Cur.mk l a s).pickC (↑(3 : Nat) : Int)).pickV (4 : Int)).toNat
  (((Cur.mk l a s).pickC (↑(3 : Nat) : Int)).pickC (4 : Int))
  (([(97 : UInt8)] ::
  [(98 : UInt8)] :: [(99 : UInt8), (49 : UInt8)] :: nilT Cd.str.den).getD
  ((0 : Nat) + ((Cur.mk l a s).pickV (↑(3 : Nat) : Int)).toNat)
  (nilT UInt8))).snd.pickC
  (20 : Int)).pickC
  (↑(6 : Nat) : Int)).l,
  V.i IntKind.i64
  (((Cur.topL (((Cur.mk l a s).pickC (↑(3 : Nat) : Int)).pickV (4 : Int)).toNat
  (((Cur.mk l a s).pickC (↑(3 : Nat) : Int)).pickC (4 : Int))
  (([(97 : UInt8)] ::
  [(98 : UInt8)] :: [(99 : UInt8), (49 : UInt8)] :: nilT Cd.str.den).getD
  ((0 : Nat) + ((Cur.mk l a s).pickV (↑(3 : Nat) : Int)).toNat)
  (nilT UInt8))).snd.pickC
  (20 : Int)).pickC
  (↑(6 : Nat) : Int)).a,
  V.i IntKind.u64
  (((Cur.topL (((Cur.mk l a s).pickC (↑(3 : Nat) : Int)).pickV (4 : Int)).toNat
  (((Cur.mk l a s).pickC (↑(3 : Nat) : Int)).pickC (4 : Int))
  (([(97 : UInt8)] ::
  [(98 : UInt8)] :: [(99 : UInt8), (49 : UInt8)] :: nilT Cd.str.den).getD
  ((0 : Nat) + ((Cur.mk l a s).pickV (↑(3 : Nat) : Int)).toNat)
  (nilT UInt8))).snd.pickC
  (20 : Int)).pickC
  (↑(6 : Nat) : Int)).s])])))
  (some
  (V.s
  (Cur.topL (((Cur.mk l a s).pickC (↑(3 : Nat) : Int)).pickV (4 : Int)).toNat
  (((Cur.mk l a s).pickC (↑(3 : Nat) : Int)).pickC (4 : Int))
  (([(97 : UInt8)] :: [(98 : UInt8)] :: [(99 : UInt8), (49 : UInt8)] :: nilT Cd.str.den).getD
  ((0 : Nat) + ((Cur.mk l a s).pickV (↑(3 : Nat) : Int)).toNat) (nilT UInt8))).fst,
  [some
  (Blk.box
  [V.sl (Cd.int IntKind.u8)
  ((Cur.topL (((Cur.mk l a s).pickC (↑(3 : Nat) : Int)).pickV (4 : Int)).toNat
  (((Cur.mk l a s).pickC (↑(3 : Nat) : Int)).pickC (4 : Int))
  (([(97 : UInt8)] ::
  [(98 : UInt8)] :: [(99 : UInt8), (49 : UInt8)] :: nilT Cd.str.den).getD
  ((0 : Nat) + ((Cur.mk l a s).pickV (↑(3 : Nat) : Int)).toNat)
  (nilT UInt8))).snd.pickC
  (20 : Int)).l,
  V.i IntKind.i64
  ((Cur.topL (((Cur.mk l a s).pickC (↑(3 : Nat) : Int)).pickV (4 : Int)).toNat
  (((Cur.mk l a s).pickC (↑(3 : Nat) : Int)).pickC (4 : Int))
  (([(97 : UInt8)] ::
  [(98 : UInt8)] :: [(99 : UInt8), (49 : UInt8)] :: nilT Cd.str.den).getD
  ((0 : Nat) + ((Cur.mk l a s).pickV (↑(3 : Nat) : Int)).toNat)
  (nilT UInt8))).snd.pickC
  (20 : Int)).a,
  V.i IntKind.u64
  ((Cur.topL (((Cur.mk l a s).pickC (↑(3 : Nat) : Int)).pickV (4 : Int)).toNat
  (((Cur.mk l a s).pickC (↑(3 : Nat) : Int)).pickC (4 : Int))
  (([(97 : UInt8)] ::
  [(98 : UInt8)] :: [(99 : UInt8), (49 : UInt8)] :: nilT Cd.str.den).getD
  ((0 : Nat) + ((Cur.mk l a s).pickV (↑(3 : Nat) : Int)).toNat)
  (nilT UInt8))).snd.pickC
  (20 : Int)).s])]))))))) : _) := by kernel_rfl
  rw [e]
  clear e
  simp only [Nat.zero_add]
  have hw : ((Cur.mk l a s).wd [[97], [98], [99, 49]]).length ≤ 2 := wd_len (by decide) _
  skip
  have g0 : (Cur.mk l a s).good 900000000 := Cur.good_mono hc (by omega)
  have g1 : ((Cur.mk l a s).pickC 3).good 900000000 := by (repeat with_reducible apply Cur.pick_le); exact Cur.good_mono hc (by omega)
  have r1 := Cur.pickV_range (k := 4) g1 (by omega)
  have g2 : (((Cur.mk l a s).pickC 3).pickC 4).good 600000000 := by (repeat with_reducible apply Cur.pick_le); exact Cur.good_mono hc (by omega)
  obtain ⟨h1, h2⟩ := Cur.top0_facts hc
  have g3 : (Cur.mk l a s).top0.2.good 900000000 := Cur.good_mono h2 (by omega)
  have g4 : ((Cur.mk l a s).top0.2.pickC 20).good 900000000 := by (repeat with_reducible apply Cur.pick_le); exact Cur.good_mono h2 (by omega)
  refine (ifT_true (decide_eq_true ⟨g0, by omega, by omega⟩)).trans ?_
  refine (ifT_true (decide_eq_true g1)).trans ?_
  refine (ifT_true (decide_eq_true (show ((0 : Int) ≤ ((Cur.mk l a s).pickC 3).pickV 4 ∧ ((Cur.mk l a s).pickC 3).pickV 4 ≤ 100) ∧ (((Cur.mk l a s).wd [[97], [98], [99, 49]]).length : Int) + 20 * ((Cur.mk l a s).pickC 3).pickV 4 ≤ 10000 ∧ (((Cur.mk l a s).pickC 3).pickC 4).good (700000000 - 6 * ((Cur.mk l a s).pickC 3).pickV 4) from ⟨⟨by omega, by omega⟩, by omega, Cur.good_mono g2 (by omega)⟩))).trans ?_
  refine (ifT_true (decide_eq_true (show (Cur.mk l a s).top0.2.good 900000000 from g3))).trans ?_
  unfold Cur.top
  by_cases q : (Cur.mk l a s).top0.2.pickV 20 = 0
  · refine (ifB_true (show ((Cur.mk l a s).top0.2.pickV 20 == 0) = true by rw [q]; rfl)).trans ?_
    rw [if_pos q]
    refine (ifT_true (decide_eq_true (show ((Cur.mk l a s).top0.2.pickC 20).good 900000000 ∧ _ from ⟨g4, by omega, by omega⟩))).trans ?_
    show _ = _
    kernel_rfl
  · refine (ifB_false (show ((Cur.mk l a s).top0.2.pickV 20 == 0) = false by simpa using q)).trans ?_
    rw [if_neg q]
    show _ = _
    kernel_rfl
theorem ctop : Contract Tryd.prog 31 (Ent.own ctopG).F := by
  refine fun_contractN' (KnowsL.cons (enters_fn Tryd.func58 (by kernel_rfl) (by kernel_rfl)) cof (KnowsL.cons (enters_fn Tryd.func59 (by kernel_rfl) (by kernel_rfl)) cpick (KnowsL.cons (enters_fn Tryd.func40 (by kernel_rfl) (by kernel_rfl)) cone KnowsL.nil))).knows (Λ := (look [(3, toplE)])) Tryd.func31 (c := Tryd.f31.body.getD .skip) (by kernel_rfl) fun vs bs r h hv hb => ?_
  unfold Ent.F ctopG at h
  dsimp only at h
  split at h
  · rename_i l a s
    obtain ⟨hc, h⟩ := need_some h
    exact ⟨topl_ok, (ctop_fun l a s (of_decide_eq_true hc)).trans h⟩
  · cases h
theorem Cur.patL_facts : ∀ (n : Nat) {c : Cur} {m : Int} (t : List UInt8), c.good m → (c.patL n t).1.length ≤ t.length + 3 * n ∧ (c.patL n t).2.good (m + 2 * n)
  | 0, c, m, t, h => ⟨by simp [Cur.patL], Cur.good_mono h (by omega)⟩
  | n + 1, c, m, t, h => by
    have hw : (c.wd [[97], [98], [43], [120], [35]]).length ≤ 2 := wd_len (by decide) c
    obtain ⟨h1, h2⟩ := Cur.patL_facts n (t ++ 47 :: c.wd [[97], [98], [43], [120], [35]]) (Cur.pickC_good (k := 5) h)
    have e3 : (t ++ 47 :: c.wd [[97], [98], [43], [120], [35]]).length = t.length + 1 + (c.wd [[97], [98], [43], [120], [35]]).length := by simp; omega
    rw [Cur.patL]
    split
    · exact ⟨by dsimp only; omega, Cur.good_mono h (by omega)⟩
    · exact ⟨by omega, Cur.good_mono h2 (by omega)⟩
theorem Cur.pat0_facts {c : Cur} {m : Int} (h : c.good m) : c.pat0.1.length ≤ 20 ∧ c.pat0.2.good (m + 20) := by
  have hw : (c.wd [[97], [98], [43], [43], [97], [35]]).length ≤ 2 := wd_len (by decide) c
  have g1 : (c.pickC 6).good (m + 2) := Cur.pickC_good h
  have r := Cur.pickV_range (k := 3) g1 (by omega)
  obtain ⟨h1, h2⟩ := Cur.patL_facts ((c.pickC 6).pickV 3).toNat (c.wd [[97], [98], [43], [43], [97], [35]]) (Cur.pickC_good (k := 3) g1)
  unfold Cur.pat0
  exact ⟨by omega, Cur.good_mono h2 (by omega)⟩
theorem Cur.pat_facts {c : Cur} {m : Int} (h : c.good m) : c.pat.1.length ≤ 40 ∧ c.pat.2.good (m + 30) := by
  obtain ⟨h1, h2⟩ := Cur.pat0_facts h
  have hw : ((c.pat0.2.pickC 30).wd [[], [35, 47, 97], [97, 43], [43, 47, 43, 47, 43, 47, 43, 47, 43, 47, 35], [97, 47, 98, 47, 99, 47, 100, 47, 101, 47, 102, 47, 35]]).length ≤ 13 := wd_len (by decide) _
  unfold Cur.pat
  split
  · exact ⟨by dsimp only; omega, by dsimp only; (repeat with_reducible apply Cur.pick_le); exact Cur.good_mono h2 (by omega)⟩
  · exact ⟨by dsimp only; omega, by dsimp only; (repeat with_reducible apply Cur.pick_le); exact Cur.good_mono h2 (by omega)⟩
theorem cpat_fun (l : List Int) (a s : Int) (hc : (Cur.mk l a s).good 500000000) : funN Tryd.prog (look [(58, .own cofG), (59, .own cpickG), (40, .own coneG)]) (look [(3, patlE)]) Tryd.f30 [.ptr 0 0] [.box [.sl (.int .u8) l, .i .i64 a, .i .u64 s]] = (.leaf (.s (Cur.mk l a s).pat.1, [some (.box [.sl (.int .u8) (Cur.mk l a s).pat.2.l, .i .i64 (Cur.mk l a s).pat.2.a, .i .u64 (Cur.mk l a s).pat.2.s])]) : Br (V × List (Option Blk))).run := by
  have e : funN Tryd.prog (look [(58, .own cofG), (59, .own cpickG), (40, .own coneG)]) (look [(3, patlE)]) Tryd.f30 [.ptr 0 0] [.box [.sl (.int .u8) l, .i .i64 a, .i .u64 s]] = ((ifT (decide ((Cur.mk l a s).good (900000000 : Int) ∧ (1 : Nat) ≤ (6 : Nat) ∧ (6 : Nat) ≤ (6 : Nat)))
  (ifT (decide (((Cur.mk l a s).pickC (↑(6 : Nat) : Int)).good (900000000 : Int)))
  (ifT
  (decide
  (((0 : Int) ≤ ((Cur.mk l a s).pickC (↑(6 : Nat) : Int)).pickV (3 : Int) ∧
  ((Cur.mk l a s).pickC (↑(6 : Nat) : Int)).pickV (3 : Int) ≤ (100 : Int)) ∧
  (↑(List.length
  (([(97 : UInt8)] ::
  [(98 : UInt8)] ::
  [(43 : UInt8)] ::
  [(43 : UInt8)] :: [(97 : UInt8)] :: [(35 : UInt8)] :: nilT Cd.str.den).getD
  ((0 : Nat) + ((Cur.mk l a s).pickV (↑(6 : Nat) : Int)).toNat) (nilT UInt8))) :
  Int) +
  (20 : Int) * ((Cur.mk l a s).pickC (↑(6 : Nat) : Int)).pickV (3 : Int) ≤
  (10000 : Int) ∧
  ([(97 : UInt8)] ::
  [(98 : UInt8)] ::
  [(43 : UInt8)] :: [(43 : UInt8)] :: [(97 : UInt8)] :: [(35 : UInt8)] :: nilT Cd.str.den).getD
  ((0 : Nat) + ((Cur.mk l a s).pickV (↑(6 : Nat) : Int)).toNat) (nilT UInt8) ≠
  nilT UInt8 ∧
  (((Cur.mk l a s).pickC (↑(6 : Nat) : Int)).pickC (3 : Int)).good
  ((700000000 : Int) - (6 : Int) * ((Cur.mk l a s).pickC (↑(6 : Nat) : Int)).pickV (3 : Int))))
  (ifT
  (decide
  ((Cur.patL (((Cur.mk l a s).pickC (↑(6 : Nat) : Int)).pickV (3 : Int)).toNat
  (((Cur.mk l a s).pickC (↑(6 : Nat) : Int)).pickC (3 : Int))
  (([(97 : UInt8)] ::
  [(98 : UInt8)] ::
  [(43 : UInt8)] :: [(43 : UInt8)] :: [(97 : UInt8)] :: [(35 : UInt8)] :: nilT Cd.str.den).getD
  ((0 : Nat) + ((Cur.mk l a s).pickV (↑(6 : Nat) : Int)).toNat) (nilT UInt8))).snd.good
  (900000000 : Int)))
  (ifB
  ((Cur.patL (((Cur.mk l a s).pickC (↑(6 : Nat) : Int)).pickV (3 : Int)).toNat
  (((Cur.mk l a s).pickC (↑(6 : Nat) : Int)).pickC (3 : Int))
  (([(97 : UInt8)] ::
  [(98 : UInt8)] ::
  [(43 : UInt8)] ::
  [(43 : UInt8)] :: [(97 : UInt8)] :: [(35 : UInt8)] :: nilT Cd.str.den).getD
  ((0 : Nat) + ((Cur.mk l a s).pickV (↑(6 : Nat) : Int)).toNat) (nilT UInt8))).snd.pickV
  (30 : Int) ==
  (0 : Int))
  (ifT
  (decide
  (((Cur.patL (((Cur.mk l a s).pickC (↑(6 : Nat) : Int)).pickV (3 : Int)).toNat
  (((Cur.mk l a s).pickC (↑(6 : Nat) : Int)).pickC (3 : Int))
  (([(97 : UInt8)] ::
  [(98 : UInt8)] ::
  [(43 : UInt8)] ::
  [(43 : UInt8)] :: [(97 : UInt8)] :: [(35 : UInt8)] :: nilT Cd.str.den).getD
  ((0 : Nat) + ((Cur.mk l a s).pickV (↑(6 : Nat) : Int)).toNat) (nilT UInt8))).snd.pickC
  (30 : Int)).good
  (900000000 : Int) ∧
  (1 : Nat) ≤ (5 : Nat) ∧ (5 : Nat) ≤ (5 : Nat)))
  (some
  (V.s
  ((nilT UInt8 ::
  [(35 : UInt8), (47 : UInt8), (97 : UInt8)] ::
  [(97 : UInt8), (43 : UInt8)] ::
  [(43 : UInt8), (47 : UInt8), (43 : UInt8), (47 : UInt8), (43 : UInt8), (47 : UInt8),
  (43 : UInt8), (47 : UInt8), (43 : UInt8), (47 : UInt8), (35 : UInt8)] ::
  [(97 : UInt8), (47 : UInt8), (98 : UInt8), (47 : UInt8), (99 : UInt8), (47 : UInt8),
  (100 : UInt8), (47 : UInt8), (101 : UInt8), (47 : UInt8), (102 : UInt8), (47 : UInt8),
  (35 : UInt8)] ::
  nilT Cd.str.den).getD
  ((0 : Nat) +
  (((Cur.patL (((Cur.mk l a s).pickC (↑(6 : Nat) : Int)).pickV (3 : Int)).toNat
  (((Cur.mk l a s).pickC (↑(6 : Nat) : Int)).pickC (3 : Int))
  (([(97 : UInt8)] ::
  [(98 : UInt8)] ::
  [(43 : UInt8)] ::
  [(43 : UInt8)] ::
  [(97 : UInt8)] :: [(35 : UInt8)] :: nilT Cd.str.den).getD
  ((0 : Nat) + ((Cur.mk l a s).pickV (↑(6 : Nat) : Int)).toNat)
  (nilT UInt8))).snd.pickC
  (30 : Int)).pickV
  (↑(5 : Nat) : Int)).toNat)
  (nilT UInt8)),
  [some
  (Blk.box
  [V.sl (Cd.int IntKind.u8)
  (((Cur.patL (((Cur.mk l a s).pickC (↑(6 : Nat) : Int)).pickV (3 : Int)).toNat
  (((Cur.mk l a s).pickC (↑(6 : Nat) : Int)).pickC (3 : Int))
  (([(97 : UInt8)] ::
  [(98 : UInt8)] ::
  [(43 : UInt8)] ::
  [(43 : UInt8)] ::
  [(97 : UInt8)] :: [(35 : UInt8)] :: nilT Cd.str.den).getD
  ((0 : Nat) + ((Cur.mk l a s).pickV (↑(6 : Nat) : Int)).toNat)
  (nilT UInt8))).snd.pickC
  (30 : Int)).pickC
  (↑(5 : Nat) : Int)).l,
  V.i IntKind.i64
  (((Cur.patL (((Cur.mk l a s).pickC (↑(6 : Nat) : Int)).pickV (3 : Int)).toNat
  (((Cur.mk l a s).pickC (↑(6 : Nat) : Int)).pickC (3 : Int))
  (([(97 : UInt8)] ::
  [(98 : UInt8)] ::
  [(43 : UInt8)] ::
  [(43 : UInt8)] ::
  [(97 : UInt8)] :: [(35 : UInt8)] :: nilT Cd.str.den).getD
  ((0 : Nat) + ((Cur.mk l a s).pickV (↑(6 : Nat) : Int)).toNat)
  (nilT UInt8))).snd.pickC
  (30 : Int)).pickC
  (↑(5 : Nat) : Int)).a,
  V.i IntKind.u64
  (((Cur.patL (((Cur.mk l a s).pickC (↑(6 : Nat) : Int)).pickV (3 : Int)).toNat
  (((Cur.mk l a s).pickC (↑(6 : Nat) : Int)).pickC (3 : Int))
  (([(97 : UInt8)] ::
  [(98 : UInt8)] ::
  [(43 : UInt8)] ::
  [(43 : UInt8)] ::
  [(97 : UInt8)] :: [(35 : UInt8)] :: nilT Cd.str.den).getD
  ((0 : Nat) + ((Cur.mk l a s).pickV (↑(6 : Nat) : Int)).toNat)
  (nilT UInt8))).snd.pickC
  (30 : Int)).pickC
  (↑(5 : Nat) : Int)).s])])))
  (some
  (V.s
  (Cur.patL (((Cur.mk l a s).pickC (↑(6 : Nat) : Int)).pickV (3 : Int)).toNat
  (((Cur.mk l a s).pickC (↑(6 : Nat) : Int)).pickC (3 : Int))
  (([(97 : UInt8)] ::
  [(98 : UInt8)] ::
  [(43 : UInt8)] ::
  [(43 : UInt8)] :: [(97 : UInt8)] :: [(35 : UInt8)] :: nilT Cd.str.den).getD
  ((0 : Nat) + ((Cur.mk l a s).pickV (↑(6 : Nat) : Int)).toNat) (nilT UInt8))).fst,
  [some
  (Blk.box
  [V.sl (Cd.int IntKind.u8)
  ((Cur.patL (((Cur.mk l a s).pickC (↑(6 : Nat) : Int)).pickV (3 : Int)).toNat
  (((Cur.mk l a s).pickC (↑(6 : Nat) : Int)).pickC (3 : Int))
  (([(97 : UInt8)] ::
  [(98 : UInt8)] ::
  [(43 : UInt8)] ::
  [(43 : UInt8)] :: [(97 : UInt8)] :: [(35 : UInt8)] :: nilT Cd.str.den).getD
  ((0 : Nat) + ((Cur.mk l a s).pickV (↑(6 : Nat) : Int)).toNat)
  (nilT UInt8))).snd.pickC
  (30 : Int)).l,
  V.i IntKind.i64
  ((Cur.patL (((Cur.mk l a s).pickC (↑(6 : Nat) : Int)).pickV (3 : Int)).toNat
  (((Cur.mk l a s).pickC (↑(6 : Nat) : Int)).pickC (3 : Int))
  (([(97 : UInt8)] ::
  [(98 : UInt8)] ::
  [(43 : UInt8)] ::
  [(43 : UInt8)] :: [(97 : UInt8)] :: [(35 : UInt8)] :: nilT Cd.str.den).getD
  ((0 : Nat) + ((Cur.mk l a s).pickV (↑(6 : Nat) : Int)).toNat)
  (nilT UInt8))).snd.pickC
  (30 : Int)).a,
  V.i IntKind.u64
  ((Cur.patL (((Cur.mk l a s).pickC (↑(6 : Nat) : Int)).pickV (3 : Int)).toNat
  (((Cur.mk l a s).pickC (↑(6 : Nat) : Int)).pickC (3 : Int))
  (([(97 : UInt8)] ::
  [(98 : UInt8)] ::
  [(43 : UInt8)] ::
  [(43 : UInt8)] :: [(97 : UInt8)] :: [(35 : UInt8)] :: nilT Cd.str.den).getD
  ((0 : Nat) + ((Cur.mk l a s).pickV (↑(6 : Nat) : Int)).toNat)
  (nilT UInt8))).snd.pickC
  (30 : Int)).s])]))))))) : _) := by kernel_rfl
  rw [e]
  clear e
  simp only [Nat.zero_add]
  have hw : ((Cur.mk l a s).wd [[97], [98], [43], [43], [97], [35]]).length ≤ 2 := wd_len (by decide) _
  have hw0 : (Cur.mk l a s).wd [[97], [98], [43], [43], [97], [35]] ≠ [] := wd_ne (by decide) (by decide) (Cur.pickV_range (k := 6) hc (by omega))
  have g0 : (Cur.mk l a s).good 900000000 := Cur.good_mono hc (by omega)
  have g1 : ((Cur.mk l a s).pickC 6).good 900000000 := by (repeat with_reducible apply Cur.pick_le); exact Cur.good_mono hc (by omega)
  have r1 := Cur.pickV_range (k := 3) g1 (by omega)
  have g2 : (((Cur.mk l a s).pickC 6).pickC 3).good 600000000 := by (repeat with_reducible apply Cur.pick_le); exact Cur.good_mono hc (by omega)
  obtain ⟨h1, h2⟩ := Cur.pat0_facts hc
  have g3 : (Cur.mk l a s).pat0.2.good 900000000 := Cur.good_mono h2 (by omega)
  have g4 : ((Cur.mk l a s).pat0.2.pickC 30).good 900000000 := by (repeat with_reducible apply Cur.pick_le); exact Cur.good_mono h2 (by omega)
  refine (ifT_true (decide_eq_true ⟨g0, by omega, by omega⟩)).trans ?_
  refine (ifT_true (decide_eq_true g1)).trans ?_
  refine (ifT_true (decide_eq_true (show ((0 : Int) ≤ ((Cur.mk l a s).pickC 6).pickV 3 ∧ ((Cur.mk l a s).pickC 6).pickV 3 ≤ 100) ∧ (((Cur.mk l a s).wd [[97], [98], [43], [43], [97], [35]]).length : Int) + 20 * ((Cur.mk l a s).pickC 6).pickV 3 ≤ 10000 ∧ (Cur.mk l a s).wd [[97], [98], [43], [43], [97], [35]] ≠ [] ∧ (((Cur.mk l a s).pickC 6).pickC 3).good (700000000 - 6 * ((Cur.mk l a s).pickC 6).pickV 3) from ⟨⟨by omega, by omega⟩, by omega, hw0, Cur.good_mono g2 (by omega)⟩))).trans ?_
  refine (ifT_true (decide_eq_true (show (Cur.mk l a s).pat0.2.good 900000000 from g3))).trans ?_
  unfold Cur.pat
  by_cases q : (Cur.mk l a s).pat0.2.pickV 30 = 0
  · refine (ifB_true (show ((Cur.mk l a s).pat0.2.pickV 30 == 0) = true by rw [q]; rfl)).trans ?_
    rw [if_pos q]
    refine (ifT_true (decide_eq_true (show ((Cur.mk l a s).pat0.2.pickC 30).good 900000000 ∧ _ from ⟨g4, by omega, by omega⟩))).trans ?_
    show _ = _
    kernel_rfl
  · refine (ifB_false (show ((Cur.mk l a s).pat0.2.pickV 30 == 0) = false by simpa using q)).trans ?_
    rw [if_neg q]
    show _ = _
    kernel_rfl
theorem cpat : Contract Tryd.prog 30 (Ent.own cpatG).F := by
  refine fun_contractN' (KnowsL.cons (enters_fn Tryd.func58 (by kernel_rfl) (by kernel_rfl)) cof (KnowsL.cons (enters_fn Tryd.func59 (by kernel_rfl) (by kernel_rfl)) cpick (KnowsL.cons (enters_fn Tryd.func40 (by kernel_rfl) (by kernel_rfl)) cone KnowsL.nil))).knows (Λ := (look [(3, patlE)])) Tryd.func30 (c := Tryd.f30.body.getD .skip) (by kernel_rfl) fun vs bs r h hv hb => ?_
  unfold Ent.F cpatG at h
  dsimp only at h
  split at h
  · rename_i l a s
    obtain ⟨hc, h⟩ := need_some h
    exact ⟨patl_ok, (cpat_fun l a s (of_decide_eq_true hc)).trans h⟩
  · cases h
end Go.Proofs.YtfkoljiioikdfaaDoor.Den
