/- What functions of the program do, by the machine: Top9. -/
import Derived.Test.YtfkoljiioikdfaaDoorDCur2
import Derived.KernelRfl
import Derived.Test.YtfkoljiioikdfaaDoorRows
namespace Go.Proofs.YtfkoljiioikdfaaDoor.Den
open Go.Proofs
set_option maxRecDepth 100000
/-- A drawn word. -/
def Cur.wd (c : Cur) (L : List (List UInt8)) : List UInt8 := L.getD (c.pickV L.length).toNat []
def Cur.topL : Nat → Cur → List UInt8 → List UInt8 × Cur
  | 0, c, s => (s, c)
  | n + 1, c, s => Cur.topL n (c.pickC 4) (s ++ 47 :: c.wd [[97], [98], [99, 49], [120]])
def Cur.patL : Nat → Cur → List UInt8 → List UInt8 × Cur
  | 0, c, s => (s, c)
  | n + 1, c, s => if s.getD (s.length - 1) 0 = 35 then (s, c) else Cur.patL n (c.pickC 5) (s ++ 47 :: c.wd [[97], [98], [43], [120], [35]])
def Cur.top0 (c : Cur) : List UInt8 × Cur := Cur.topL ((c.pickC 3).pickV 4).toNat ((c.pickC 3).pickC 4) (c.wd [[97], [98], [99, 49]])
def Cur.top (c : Cur) : List UInt8 × Cur := if c.top0.2.pickV 20 = 0 then ((c.top0.2.pickC 20).wd [[], [97, 47, 47, 98], [65], [97, 47, 98, 47, 99, 47, 100, 47, 101, 47, 102], [97, 47, 98, 47, 99, 47, 100, 47, 101, 47, 102, 47, 103], [116, 111, 111, 108, 111, 110, 103]], (c.top0.2.pickC 20).pickC 6) else (c.top0.1, c.top0.2.pickC 20)
def Cur.pat0 (c : Cur) : List UInt8 × Cur := Cur.patL ((c.pickC 6).pickV 3).toNat ((c.pickC 6).pickC 3) (c.wd [[97], [98], [43], [43], [97], [35]])
def Cur.pat (c : Cur) : List UInt8 × Cur := if c.pat0.2.pickV 30 = 0 then ((c.pat0.2.pickC 30).wd [[], [35, 47, 97], [97, 43], [43, 47, 43, 47, 43, 47, 43, 47, 43, 47, 35], [97, 47, 98, 47, 99, 47, 100, 47, 101, 47, 102, 47, 35]], (c.pat0.2.pickC 30).pickC 5) else (c.pat0.1, c.pat0.2.pickC 30)
def toplE : LoopEnt := ⟨26, [0,3,4], [0,3], [], fun
  | ([.ptr 0 0, .s t, .i .i64 n], [some (.box [.sl (.int .u8) l, .i .i64 a, .i .u64 s])]) => .need (decide ((0 ≤ n ∧ n ≤ 100) ∧ (t.length : Int) + 20 * n ≤ 10000 ∧ (Cur.mk l a s).good (700000000 - 6 * n))) (.leaf (.exit 0, ([.ptr 0 0, .s ((Cur.mk l a s).topL n.toNat t).1], [some (.box [.sl (.int .u8) ((Cur.mk l a s).topL n.toNat t).2.l, .i .i64 ((Cur.mk l a s).topL n.toNat t).2.a, .i .u64 ((Cur.mk l a s).topL n.toNat t).2.s])])))
  | _ => .no⟩
def patlE : LoopEnt := ⟨34, [0,3,4], [0,3], [], fun
  | ([.ptr 0 0, .s t, .i .i64 n], [some (.box [.sl (.int .u8) l, .i .i64 a, .i .u64 s])]) => .need (decide ((0 ≤ n ∧ n ≤ 100) ∧ (t.length : Int) + 20 * n ≤ 10000 ∧ t ≠ [] ∧ (Cur.mk l a s).good (700000000 - 6 * n))) (.leaf (.exit 0, ([.ptr 0 0, .s ((Cur.mk l a s).patL n.toNat t).1], [some (.box [.sl (.int .u8) ((Cur.mk l a s).patL n.toNat t).2.l, .i .i64 ((Cur.mk l a s).patL n.toNat t).2.a, .i .u64 ((Cur.mk l a s).patL n.toNat t).2.s])])))
  | _ => .no⟩
theorem Cur.pick_le {c : Cur} {m k : Int} (h : c.good (m - 2)) : (c.pickC k).good m := by
  have := Cur.pickC_good (k := k) h
  rwa [Int.sub_add_cancel] at this
theorem wd_len {L : List (List UInt8)} {m : Nat} (hL : ∀ z ∈ L, z.length ≤ m) (c : Cur) : (c.wd L).length ≤ m := by
  unfold Cur.wd
  generalize (c.pickV L.length).toNat = k
  by_cases h : k < L.length
  · have e : L.getD k [] = L[k] := by simp only [List.getD, List.getElem?_eq_getElem h, Option.getD_some]
    rw [e]; exact hL _ (List.getElem_mem h)
  · have e : L.getD k [] = [] := by simp only [List.getD, List.getElem?_eq_none (Nat.le_of_not_lt h), Option.getD_none]
    rw [e]; simp
theorem topl_round (t : List UInt8) (n : Int) (l : List Int) (a s : Int) : roundK Tryd.prog (look [(58, .own cofG), (59, .own cpickG), (40, .own coneG)]) (look [(3, toplE)]) 1 (body Tryd.f31 0) toplE ([.ptr 0 0, .s t, .i .i64 n], [some (.box [.sl (.int .u8) l, .i .i64 a, .i .u64 s])]) =
  ((ifB (decide (n > (0 : Int)))
  (ifT (decide ((Cur.mk l a s).good (900000000 : Int) ∧ (1 : Nat) ≤ (4 : Nat) ∧ (4 : Nat) ≤ (4 : Nat)))
  (ifT
  (decide
  ((1 : Nat) +
  List.length
  (([(97 : UInt8)] ::
  [(98 : UInt8)] :: [(99 : UInt8), (49 : UInt8)] :: [(120 : UInt8)] :: nilT Cd.str.den).getD
  ((0 : Nat) + ((Cur.mk l a s).pickV (↑(4 : Nat) : Int)).toNat) (nilT UInt8)) ≤
  (9223372036854775807 : Nat)))
  (ifT
  (decide
  (t.length +
  ([(47 : UInt8)] ++
  ([(97 : UInt8)] ::
  [(98 : UInt8)] :: [(99 : UInt8), (49 : UInt8)] :: [(120 : UInt8)] :: nilT Cd.str.den).getD
  ((0 : Nat) + ((Cur.mk l a s).pickV (↑(4 : Nat) : Int)).toNat) (nilT UInt8)).length ≤
  (9223372036854775807 : Nat)))
  (some
  (Ex.normal,
  [V.ptr (0 : Nat) (0 : Nat),
  V.s
  (t ++
  ([(47 : UInt8)] ++
  ([(97 : UInt8)] ::
  [(98 : UInt8)] :: [(99 : UInt8), (49 : UInt8)] :: [(120 : UInt8)] :: nilT Cd.str.den).getD
  ((0 : Nat) + ((Cur.mk l a s).pickV (↑(4 : Nat) : Int)).toNat) (nilT UInt8))),
  V.i IntKind.i64 (IntKind.i64.wrap (n - (1 : Int)))],
  [some
  (Blk.box
  [V.sl (Cd.int IntKind.u8) ((Cur.mk l a s).pickC (↑(4 : Nat) : Int)).l,
  V.i IntKind.i64 ((Cur.mk l a s).pickC (↑(4 : Nat) : Int)).a,
  V.i IntKind.u64 ((Cur.mk l a s).pickC (↑(4 : Nat) : Int)).s])])))))
  (some
  (Ex.exit (0 : Nat), [V.ptr (0 : Nat) (0 : Nat), V.s t],
  [some (Blk.box [V.sl (Cd.int IntKind.u8) l, V.i IntKind.i64 a, V.i IntKind.u64 s])]))) : _) := by kernel_rfl
theorem patl_round (t : List UInt8) (n : Int) (l : List Int) (a s : Int) : roundK Tryd.prog (look [(58, .own cofG), (59, .own cpickG), (40, .own coneG)]) (look [(3, patlE)]) 1 (body Tryd.f30 0) patlE ([.ptr 0 0, .s t, .i .i64 n], [some (.box [.sl (.int .u8) l, .i .i64 a, .i .u64 s])]) =
  ((ifB (decide (n > (0 : Int)))
  (ifT (decide ((0 : Int) ≤ IntKind.i64.wrap ((↑t.length : Int) - (1 : Int))))
  (ifSome t[(IntKind.i64.wrap ((↑t.length : Int) - (1 : Int))).toNat]? fun z =>
  ifB ((↑z.toNat : Int) != (35 : Int))
  (ifT (decide ((Cur.mk l a s).good (900000000 : Int) ∧ (1 : Nat) ≤ (5 : Nat) ∧ (5 : Nat) ≤ (5 : Nat)))
  (ifT
  (decide
  ((1 : Nat) +
  List.length
  (([(97 : UInt8)] ::
  [(98 : UInt8)] :: [(43 : UInt8)] :: [(120 : UInt8)] :: [(35 : UInt8)] :: nilT Cd.str.den).getD
  ((0 : Nat) + ((Cur.mk l a s).pickV (↑(5 : Nat) : Int)).toNat) (nilT UInt8)) ≤
  (9223372036854775807 : Nat)))
  (ifT
  (decide
  (t.length +
  ([(47 : UInt8)] ++
  ([(97 : UInt8)] ::
  [(98 : UInt8)] ::
  [(43 : UInt8)] :: [(120 : UInt8)] :: [(35 : UInt8)] :: nilT Cd.str.den).getD
  ((0 : Nat) + ((Cur.mk l a s).pickV (↑(5 : Nat) : Int)).toNat) (nilT UInt8)).length ≤
  (9223372036854775807 : Nat)))
  (some
  (Ex.normal,
  [V.ptr (0 : Nat) (0 : Nat),
  V.s
  (t ++
  ([(47 : UInt8)] ++
  ([(97 : UInt8)] ::
  [(98 : UInt8)] ::
  [(43 : UInt8)] :: [(120 : UInt8)] :: [(35 : UInt8)] :: nilT Cd.str.den).getD
  ((0 : Nat) + ((Cur.mk l a s).pickV (↑(5 : Nat) : Int)).toNat) (nilT UInt8))),
  V.i IntKind.i64 (IntKind.i64.wrap (n - (1 : Int)))],
  [some
  (Blk.box
  [V.sl (Cd.int IntKind.u8) ((Cur.mk l a s).pickC (↑(5 : Nat) : Int)).l,
  V.i IntKind.i64 ((Cur.mk l a s).pickC (↑(5 : Nat) : Int)).a,
  V.i IntKind.u64 ((Cur.mk l a s).pickC (↑(5 : Nat) : Int)).s])])))))
  (some
  (Ex.exit (0 : Nat), [V.ptr (0 : Nat) (0 : Nat), V.s t],
  [some (Blk.box [V.sl (Cd.int IntKind.u8) l, V.i IntKind.i64 a, V.i IntKind.u64 s])]))))
  (some
  (Ex.exit (0 : Nat), [V.ptr (0 : Nat) (0 : Nat), V.s t],
  [some (Blk.box [V.sl (Cd.int IntKind.u8) l, V.i IntKind.i64 a, V.i IntKind.u64 s])]))) : _) := by kernel_rfl
theorem topl_loop : ∀ (n : Nat) (c : Cur) (t : List UInt8), n ≤ 100 → (t.length : Int) + 20 * n ≤ 10000 → c.good (700000000 - 6 * n) →
    Runs Tryd.prog (look [(58, .own cofG), (59, .own cpickG), (40, .own coneG)]) (look [(3, toplE)]) 1 (body Tryd.f31 0) toplE ([.ptr 0 0, .s t, .i .i64 (n : Int)], [some (.box [.sl (.int .u8) c.l, .i .i64 c.a, .i .u64 c.s])]) (.exit 0) ([.ptr 0 0, .s (c.topL n t).1], [some (.box [.sl (.int .u8) (c.topL n t).2.l, .i .i64 (c.topL n t).2.a, .i .u64 (c.topL n t).2.s])])
  | 0, c, t, hn, hl, hc => by
    have hr := topl_round t ((0 : Nat) : Int) c.l c.a c.s
    rw [ifB_false (by simp)] at hr
    exact .stop _ _ _ hr (by simp)
  | n + 1, c, t, hn, hl, hc => by
    have hw : (c.wd [[97], [98], [99, 49], [120]]).length ≤ 2 := wd_len (by decide) c
    have hg : c.good 900000000 := Cur.good_mono hc (by omega)
    have hs := topl_round t ((n + 1 : Nat) : Int) c.l c.a c.s
    have e2 : IntKind.i64.wrap (((n + 1 : Nat) : Int) - 1) = n := by rw [wrap_id (by omega) (by omega)]; omega
    have e3 : (t ++ 47 :: c.wd [[97], [98], [99, 49], [120]]).length = t.length + 1 + (c.wd [[97], [98], [99, 49], [120]]).length := by simp; omega
    have ih := topl_loop n (c.pickC 4) (t ++ 47 :: c.wd [[97], [98], [99, 49], [120]]) (by omega) (by rw [e3]; omega) (by (repeat with_reducible apply Cur.pick_le); exact Cur.good_mono hc (by omega))
    rw [e2] at hs
    simp only [Nat.zero_add] at hs
    rw [ifB_true (decide_eq_true (by omega))] at hs
    refine .step _ _ _ _ ?_ ih
    refine hs.trans ?_
    refine (ifT_true (decide_eq_true ⟨hg, by omega, by omega⟩)).trans ?_
    refine (ifT_true (decide_eq_true (show 1 + (c.wd [[97], [98], [99, 49], [120]]).length ≤ 9223372036854775807 by omega))).trans ?_
    refine (ifT_true (decide_eq_true (show t.length + ([47] ++ c.wd [[97], [98], [99, 49], [120]]).length ≤ 9223372036854775807 by simp; omega))).trans ?_
    show _ = _
    kernel_rfl
theorem topl_ok : LoopsOk Tryd.prog (look [(58, .own cofG), (59, .own cpickG), (40, .own coneG)]) (look [(3, toplE)]) 1 (Tryd.f31.body.getD .skip) := by
  refine loopsOk_one (a := body Tryd.f31 0) (by kernel_rfl) fun d e d' h => ?_
  unfold toplE at h
  dsimp only at h
  split at h
  · rename_i t n l a s
    obtain ⟨hc, h'⟩ := need_some h
    obtain ⟨⟨h0, h1⟩, h2, h3⟩ := of_decide_eq_true hc
    obtain ⟨n, rfl⟩ := Int.eq_ofNat_of_zero_le h0
    have h6 := leaf_some h'
    obtain ⟨rfl, rfl⟩ := Prod.mk.inj h6
    exact topl_loop n (Cur.mk l a s) t (by omega) h2 h3
  · cases h
theorem patl_loop : ∀ (n : Nat) (c : Cur) (t : List UInt8), n ≤ 100 → (t.length : Int) + 20 * n ≤ 10000 → t ≠ [] → c.good (700000000 - 6 * n) →
    Runs Tryd.prog (look [(58, .own cofG), (59, .own cpickG), (40, .own coneG)]) (look [(3, patlE)]) 1 (body Tryd.f30 0) patlE ([.ptr 0 0, .s t, .i .i64 (n : Int)], [some (.box [.sl (.int .u8) c.l, .i .i64 c.a, .i .u64 c.s])]) (.exit 0) ([.ptr 0 0, .s (c.patL n t).1], [some (.box [.sl (.int .u8) (c.patL n t).2.l, .i .i64 (c.patL n t).2.a, .i .u64 (c.patL n t).2.s])])
  | 0, c, t, hn, hl, ht, hc => by
    have hr := patl_round t ((0 : Nat) : Int) c.l c.a c.s
    rw [ifB_false (by simp)] at hr
    exact .stop _ _ _ hr (by simp)
  | n + 1, c, t, hn, hl, ht, hc => by
    have hw : (c.wd [[97], [98], [43], [120], [35]]).length ≤ 2 := wd_len (by decide) c
    have hg : c.good 900000000 := Cur.good_mono hc (by omega)
    have hs := patl_round t ((n + 1 : Nat) : Int) c.l c.a c.s
    have e2 : IntKind.i64.wrap (((n + 1 : Nat) : Int) - 1) = n := by rw [wrap_id (by omega) (by omega)]; omega
    have e3 : (t ++ 47 :: c.wd [[97], [98], [43], [120], [35]]).length = t.length + 1 + (c.wd [[97], [98], [43], [120], [35]]).length := by simp; omega
    have ih := patl_loop n (c.pickC 5) (t ++ 47 :: c.wd [[97], [98], [43], [120], [35]]) (by omega) (by rw [e3]; omega) (by simp) (by (repeat with_reducible apply Cur.pick_le); exact Cur.good_mono hc (by omega))
    rw [e2] at hs
    simp only [Nat.zero_add] at hs
    rw [ifB_true (decide_eq_true (by omega))] at hs
    have hpos : 0 < t.length := List.length_pos_iff.2 ht
    have hlt : t.length - 1 < t.length := by omega
    have w : IntKind.i64.wrap ((t.length : Int) - 1) = ((t.length - 1 : Nat) : Int) := by rw [wrap_id (by omega) (by omega)]; omega
    have eg : t.getD (t.length - 1) 0 = t[t.length - 1] := by simp [List.getD, hlt]
    rw [w, ifT_true (decide_eq_true (by omega)), Int.toNat_natCast, List.getElem?_eq_getElem hlt, ifSome_s] at hs
    rw [Cur.patL, eg]
    by_cases q : t[t.length - 1] = 35
    · rw [if_pos q]
      rw [ifB_false (by rw [q]; rfl)] at hs
      exact .stop _ _ _ hs (by simp)
    have q47 : ¬ (t[t.length - 1].toNat = 35) := fun h => q (UInt8.toNat_inj.1 (by rw [h]; rfl))
    rw [if_neg q]
    rw [ifB_true (by rw [bne_iff_ne]; omega)] at hs
    refine .step _ _ _ _ ?_ ih
    refine hs.trans ?_
    refine (ifT_true (decide_eq_true ⟨hg, by omega, by omega⟩)).trans ?_
    refine (ifT_true (decide_eq_true (show 1 + (c.wd [[97], [98], [43], [120], [35]]).length ≤ 9223372036854775807 by omega))).trans ?_
    refine (ifT_true (decide_eq_true (show t.length + ([47] ++ c.wd [[97], [98], [43], [120], [35]]).length ≤ 9223372036854775807 by simp; omega))).trans ?_
    show _ = _
    kernel_rfl
theorem patl_ok : LoopsOk Tryd.prog (look [(58, .own cofG), (59, .own cpickG), (40, .own coneG)]) (look [(3, patlE)]) 1 (Tryd.f30.body.getD .skip) := by
  refine loopsOk_one (a := body Tryd.f30 0) (by kernel_rfl) fun d e d' h => ?_
  unfold patlE at h
  dsimp only at h
  split at h
  · rename_i t n l a s
    obtain ⟨hc, h'⟩ := need_some h
    obtain ⟨⟨h0, h1⟩, h2, h4, h3⟩ := of_decide_eq_true hc
    obtain ⟨n, rfl⟩ := Int.eq_ofNat_of_zero_le h0
    have h6 := leaf_some h'
    obtain ⟨rfl, rfl⟩ := Prod.mk.inj h6
    exact patl_loop n (Cur.mk l a s) t (by omega) h2 h4 h3
  · cases h
end Go.Proofs.YtfkoljiioikdfaaDoor.Den
