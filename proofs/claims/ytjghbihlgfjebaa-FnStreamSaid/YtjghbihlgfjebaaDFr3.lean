/- What functions of the program do, by the machine: Fr3. -/
import Derived.Test.YtjghbihlgfjebaaDFr2
import Derived.KernelRfl
import Derived.Test.YtjghbihlgfjebaaRows
namespace Go.Proofs.Ytjghbihlgfjebaa.Den
open Go.Proofs
set_option maxRecDepth 100000
/-- Whether a reader is good. -/
def goodR (a : List UInt8) (q : List (List UInt8)) (b : Bool) : Bool :=
  decide (q.length ≤ 40) && (!q.any (fun z => decide (60 < z.length)) && (!(b && !(a == [])) && (!(unf a).2.2 && (unf a).2.1 == a)))
def rdr1G : List V → List Blk → Br (V × List (Option Blk))
  | [.s l], [] => .leaf (.b (decide (60 < l.length)), [])
  | _, _ => .no
def unfaG : List V → List Blk → Br (V × List (Option Blk))
  | [.s s], [] => .leaf (.tup [.ref 0 0 (if s.length ≤ 300 then (unf s).1 else []).length, .s (if s.length ≤ 300 then (unf s).2.1 else []), .b (if s.length ≤ 300 then (unf s).2.2 else false), .b (decide (s.length ≤ 300))], [some (.row false none .str (if s.length ≤ 300 then (unf s).1 else []))])
  | _, _ => .no
def goodRG : List V → List Blk → Br (V × List (Option Blk))
  | [.agg [.s a, .sl .str q, .b b]], [] => .need (decide (a.length ≤ 100000)) (.leaf (.b (goodR a q b), []))
  | _, _ => .no
def newRG : List V → List Blk → Br (V × List (Option Blk))
  | [], [] => .leaf (.agg [.s [], .ref 0 0 1, .b false], [some (.row false none .str [[]])])
  | _, _ => .no
/-- The first that p takes, counted from n; -1: none. -/
def idx_rdr1V  : List (List UInt8) → Nat → Int
  | [], _ => -1
  | z :: l, n => if (decide (60 < z.length)) = true then (n : Int) else idx_rdr1V  l (n + 1)
def idx_rdr1E : LoopEnt := ⟨19, [0,1,4,7,8], [], [4], fun
  | ([.sl .str l, .fn 87 [] [], .i .i64 r, .i .i64 m, .i .i64 n], []) =>
    .need (decide (0 ≤ n ∧ n.toNat ≤ l.length ∧ l.length ≤ maxI ∧ m = l.length)) (.br (decide (idx_rdr1V  (l.drop n.toNat) n.toNat < 0)) (.leaf (.exit 0, ([], []))) (.leaf (.ret, ([.i .i64 (idx_rdr1V  (l.drop n.toNat) n.toNat)], []))))
  | _ => .no⟩
def idx_rdr1G : List V → List Blk → Br (V × List (Option Blk))
  | [.sl .str l, .fn 87 [] []], [] => .leaf (.i .i64 (idx_rdr1V  l 0), [])
  | _, _ => .no
def has_rdr1G : List V → List Blk → Br (V × List (Option Blk))
  | [.sl .str l, .fn 87 [] []], [] => .leaf (.b (l.any (fun z : (List UInt8) => decide (60 < z.length))), [])
  | _, _ => .no
theorem unf1_len {s t r : List UInt8} (h : unf1 s = .inl (t, r)) : r.length < s.length := by have := unf1_inl h; omega
/-- What is left is shorter, if a frame was read. -/
theorem unf_left : ∀ (n : Nat) (s : List UInt8), s.length ≤ n → (unf s).2.1.length ≤ s.length ∧ ((unf s).1 ≠ [] → (unf s).2.1.length < s.length) ∧ (∀ z ∈ (unf s).1, z.length ≤ 60) ∧ (unf s).1.length ≤ s.length
  | 0, s, h => by
    obtain rfl : s = [] := List.length_eq_zero_iff.1 (by omega)
    simp [unf_nil]
  | n + 1, s, h => by
    by_cases hne : s = []
    · subst hne; simp [unf_nil]
    · cases e : unf1 s with
      | inl x =>
        obtain ⟨t, r⟩ := x
        have hl := unf1_inl e
        obtain ⟨i1, i2, i3, i4⟩ := unf_left n r (by omega)
        rw [unf_inl e]
        refine ⟨by dsimp only; omega, fun _ => by dsimp only; omega, fun z hz => ?_, by simp; omega⟩
        rcases List.mem_cons.1 hz with rfl | hz
        · exact hl.2
        · exact i3 z hz
      | inr x =>
        rw [unf_inr hne e]
        refine ⟨?_, by simp, by simp, by simp⟩
        unfold unf1 at e
        split at e
        · cases e; simp
        · split at e
          · cases e; simp
          · split at e
            · cases e; simp
            · cases e
theorem rdr1_fun (l : List UInt8) : funN Try.prog (look []) (look []) Try.f87 [.s l] [] = (.leaf (.b (decide (60 < l.length)), []) : Br (V × List (Option Blk))).run := by
  have e : funN Try.prog (look []) (look []) Try.f87 [.s l] [] = ((some (V.b (decide ((↑l.length : Int) > (60 : Int))), [])) : _) := by kernel_rfl
  rw [e]
  clear e
  by_cases q : 60 < l.length <;> simp [q, Br.run] <;> omega
theorem rdr1 : Contract Try.prog 87 (Ent.rd1 rdr1G).F := by
  refine fun_contractN' KnowsL.nil.knows (Λ := look []) Try.func87 (c := Try.f87.body.getD .skip) (by kernel_rfl) fun vs bs r hq hv hb => ?_
  unfold Ent.F rdr1G at hq
  dsimp only at hq
  split at hq
  · rename_i l
    exact ⟨loopsOk_nil _, (rdr1_fun l).trans hq⟩
  · cases hq
theorem iunfa_fun (s : List UInt8) : funN Try.prog (look [(88, .rd1 unfG)]) (look []) Try.f22 [.s s] [] = (.leaf (.tup [.ref 0 0 (if s.length ≤ 300 then (unf s).1 else []).length, .s (if s.length ≤ 300 then (unf s).2.1 else []), .b (if s.length ≤ 300 then (unf s).2.2 else false), .b (decide (s.length ≤ 300))], [some (.row false none .str (if s.length ≤ 300 then (unf s).1 else []))]) : Br (V × List (Option Blk))).run := by
  have e : funN Try.prog (look [(88, .rd1 unfG)]) (look []) Try.f22 [.s s] [] = ((ifB (decide ((↑s.length : Int) > (300 : Int)))
  (some
  (V.tup [V.ref (0 : Nat) (0 : Nat) (0 : Nat), V.s (nilT UInt8), V.b false, V.b false],
  [some (Blk.row false none Cd.str (nilT Cd.str.den))]))
  (ifT (decide (s.length ≤ (100000 : Nat)))
  (some
  (V.tup [V.ref (0 : Nat) (0 : Nat) (unf s).fst.length, V.s (unf s).snd.fst, V.b (unf s).snd.snd, V.b true],
  [some (Blk.row false none Cd.str (unf s).fst)])))) : _) := by kernel_rfl
  rw [e]
  clear e
  by_cases q : s.length ≤ 300
  · rw [ifB_false (decide_eq_false (by omega)), ifT_true (decide_eq_true (by omega))]
    simp only [if_pos q, decide_eq_true q, List.drop_zero, List.take_length]
    rfl
  · rw [ifB_true (decide_eq_true (by omega))]
    simp only [if_neg q, decide_eq_false q]
    rfl
theorem iunfa : Contract Try.prog 22 (Ent.rd1 unfaG).F := by
  refine fun_contractN' (KnowsL.cons (enters_fn Try.func88 (by kernel_rfl) (by kernel_rfl)) iunf KnowsL.nil).knows (Λ := look []) Try.func22 (c := Try.f22.body.getD .skip) (by kernel_rfl) fun vs bs r hq hv hb => ?_
  unfold Ent.F unfaG at hq
  dsimp only at hq
  split at hq
  · rename_i s
    exact ⟨loopsOk_nil _, (iunfa_fun s).trans hq⟩
  · cases hq
theorem sunfa_fun (s : List UInt8) : funN Try.prog (look [(90, .rd1 unfG)]) (look []) Try.f23 [.s s] [] = (.leaf (.tup [.ref 0 0 (if s.length ≤ 300 then (unf s).1 else []).length, .s (if s.length ≤ 300 then (unf s).2.1 else []), .b (if s.length ≤ 300 then (unf s).2.2 else false), .b (decide (s.length ≤ 300))], [some (.row false none .str (if s.length ≤ 300 then (unf s).1 else []))]) : Br (V × List (Option Blk))).run := by
  have e : funN Try.prog (look [(90, .rd1 unfG)]) (look []) Try.f23 [.s s] [] = ((ifB (decide ((↑s.length : Int) > (300 : Int)))
  (some
  (V.tup [V.ref (0 : Nat) (0 : Nat) (0 : Nat), V.s (nilT UInt8), V.b false, V.b false],
  [some (Blk.row false none Cd.str (nilT Cd.str.den))]))
  (ifT (decide (s.length ≤ (100000 : Nat)))
  (some
  (V.tup [V.ref (0 : Nat) (0 : Nat) (unf s).fst.length, V.s (unf s).snd.fst, V.b (unf s).snd.snd, V.b true],
  [some (Blk.row false none Cd.str (unf s).fst)])))) : _) := by kernel_rfl
  rw [e]
  clear e
  by_cases q : s.length ≤ 300
  · rw [ifB_false (decide_eq_false (by omega)), ifT_true (decide_eq_true (by omega))]
    simp only [if_pos q, decide_eq_true q, List.drop_zero, List.take_length]
    rfl
  · rw [ifB_true (decide_eq_true (by omega))]
    simp only [if_neg q, decide_eq_false q]
    rfl
theorem sunfa : Contract Try.prog 23 (Ent.rd1 unfaG).F := by
  refine fun_contractN' (KnowsL.cons (enters_fn Try.func90 (by kernel_rfl) (by kernel_rfl)) sunf KnowsL.nil).knows (Λ := look []) Try.func23 (c := Try.f23.body.getD .skip) (by kernel_rfl) fun vs bs r hq hv hb => ?_
  unfold Ent.F unfaG at hq
  dsimp only at hq
  split at hq
  · rename_i s
    exact ⟨loopsOk_nil _, (sunfa_fun s).trans hq⟩
  · cases hq
theorem idx_rdr1_round  (l : List (List UInt8)) (r : Int) (n : Nat) : roundK Try.prog (look [(87, .rd1 rdr1G)]) (look [(2, idx_rdr1E)]) 0 (body Try.f139 0) idx_rdr1E ([.sl .str l, .fn 87 [] [], .i .i64 r, .i .i64 (↑l.length : Int), .i .i64 n], []) =
  ((ifB (decide ((↑n : Int) < (↑l.length : Int)))
  (ifT (decide ((0 : Int) ≤ (↑n : Int)) && decide ((↑n : Int) < (↑l.length : Int)))
  (ifSome l[((↑n : Int)).toNat]? fun z =>
  ifB (decide ((60 : Nat) < List.length z)) (some (Ex.ret, [V.i IntKind.i64 ((↑n : Int))], []))
  (some
  (Ex.normal,
  [V.sl Cd.str l, V.fn 87 [] [], V.i IntKind.i64 r, V.i IntKind.i64 (↑l.length : Int),
  V.i IntKind.i64 (IntKind.i64.wrap ((↑n : Int) + (1 : Int)))],
  []))))
  (some (Ex.exit (0 : Nat), [], []))) : _) := by kernel_rfl
theorem idx_rdr1_loop  {l : List (List UInt8)} {r : Int} (hx : l.length ≤ maxI) : ∀ (j n : Nat), n + j = l.length → ∀ e d', (.br (decide (idx_rdr1V  (l.drop n) n < 0)) (.leaf (.exit 0, ([], []))) (.leaf (.ret, ([.i .i64 (idx_rdr1V  (l.drop n) n)], []))) : Br (Ex × Dt)).run = some (e, d') →
    Runs Try.prog (look [(87, .rd1 rdr1G)]) (look [(2, idx_rdr1E)]) 0 (body Try.f139 0) idx_rdr1E ([.sl .str l, .fn 87 [] [], .i .i64 r, .i .i64 (↑l.length : Int), .i .i64 n], []) e d'
  | 0, n, hn, e, d', h => by
    have e1 : l.drop n = [] := List.drop_eq_nil_of_le (by omega)
    rw [e1, br_run, idx_rdr1V, if_pos (by omega)] at h
    cases h
    refine .stop _ _ _ ((idx_rdr1_round  l r n).trans ?_) (by simp)
    simp [show ¬ n < l.length by omega]
  | j + 1, n, hn, e, d', h => by
    have h1 : n < l.length := by omega
    have hr := idx_rdr1_round  l r n
    simp only [Int.toNat_natCast, List.getElem?_eq_getElem h1, wrap_succ (n := n) (by omega)] at hr
    rw [ifB_true (by simp [h1]), ifT_true (by simp [h1]), ifSome_s] at hr
    rw [List.drop_eq_getElem_cons h1, br_run, idx_rdr1V] at h
    by_cases he : (decide (60 < l[n].length)) = true
    · rw [if_pos he, if_neg (by omega)] at h
      cases h
      rw [ifB_true he] at hr
      exact .stop _ _ _ hr (by simp)
    · rw [if_neg he] at h
      rw [ifB_false (by simpa using he)] at hr
      exact .step _ _ _ _ hr (idx_rdr1_loop  hx j (n + 1) (by omega) e d' (by rw [br_run]; exact h))
theorem idx_rdr1_ok : LoopsOk Try.prog (look [(87, .rd1 rdr1G)]) (look [(2, idx_rdr1E)]) 0 (Try.f139.body.getD .skip) := by
  refine loopsOk_one (a := body Try.f139 0) (by kernel_rfl) fun d e d' h => ?_
  unfold idx_rdr1E at h
  dsimp only at h
  split at h
  · obtain ⟨hc, h'⟩ := need_some h
    obtain ⟨h0, h1, h2, rfl⟩ := of_decide_eq_true hc
    obtain ⟨n, rfl⟩ := Int.eq_ofNat_of_zero_le h0
    exact idx_rdr1_loop  h2 _ n (Nat.add_sub_of_le h1) e d' h'
  · cases h
theorem idx_rdr1_V  : ∀ (l : List (List UInt8)) (n : Nat), (0 ≤ idx_rdr1V  l n) = (l.any (fun z : (List UInt8) => decide (60 < z.length)) = true)
  | [], n => by simp [idx_rdr1V]
  | z :: l, n => by
    rw [idx_rdr1V, List.any_cons, Bool.or_eq_true]
    by_cases he : (decide (60 < z.length)) = true
    · rw [if_pos he]; simp only [he, true_or]; exact eq_true (by omega)
    · rw [if_neg he, idx_rdr1_V  l (n + 1)]; simp only [he, Bool.false_eq_true, false_or]
theorem idx_rdr1_neg  : ∀ (l : List (List UInt8)) (n : Nat), idx_rdr1V  l n < 0 → idx_rdr1V  l n = -1
  | [], n, _ => rfl
  | z :: l, n, h => by
    rw [idx_rdr1V] at h ⊢
    by_cases he : (decide (60 < z.length)) = true
    · rw [if_pos he] at h; omega
    · rw [if_neg he] at h ⊢; exact idx_rdr1_neg  l (n + 1) h
theorem idx_rdr1_fun  (l : List (List UInt8)) (hx : l.length ≤ maxI) : funK Try.prog (look [(87, .rd1 rdr1G)]) (look [(2, idx_rdr1E)]) Try.f139 [.sl .str l, .fn 87 [] []] [] = some (.i .i64 (idx_rdr1V  l 0), []) := by
  have e : funK Try.prog (look [(87, .rd1 rdr1G)]) (look [(2, idx_rdr1E)]) Try.f139 [.sl .str l, .fn 87 [] []] [] =
    ((ifT (decide ((0 : Int) ≤ (0 : Int) ∧ (0 : Nat) ≤ l.length ∧ l.length ≤ maxI ∧ (↑l.length : Int) = (↑l.length : Int)))
  (ifB (decide (idx_rdr1V (List.drop (0 : Nat) l) (0 : Nat) < (0 : Int))) (some (V.i IntKind.i64 (-1 : Int), []))
  (some (V.i IntKind.i64 (idx_rdr1V (List.drop (0 : Nat) l) (0 : Nat)), [])))) : _) := by kernel_rfl
  rw [e, ifT_true (decide_eq_true ⟨by omega, by omega, hx, rfl⟩), List.drop_zero]
  by_cases q : idx_rdr1V  l 0 < 0
  · rw [ifB_true (decide_eq_true q), idx_rdr1_neg  l 0 q]
  · rw [ifB_false (decide_eq_false q)]
theorem rdr1_idx : Contract Try.prog 139 (Ent.rd1 idx_rdr1G).F := by
  refine fun_contract' (KnowsL.cons (enters_fn Try.func87 (by kernel_rfl) (by kernel_rfl)) rdr1 KnowsL.nil).knows (Λ := (look [(2, idx_rdr1E)])) Try.func139 (c := Try.f139.body.getD .skip) (by kernel_rfl) fun vs bs r h hv hb => ?_
  unfold Ent.F idx_rdr1G at h
  dsimp only at h
  split at h
  · rename_i l 
    have h' := h
    exact ⟨idx_rdr1_ok, (idx_rdr1_fun  l (hv (.sl .str l) (by simp)).1).trans (by cases h'; rfl)⟩
  · cases h
theorem has_rdr1_fun  (l : List (List UInt8)) : funK Try.prog (look [(139, .rd1 idx_rdr1G)]) (look []) Try.f86 [.sl .str l, .fn 87 [] []] [] = some (.b (l.any (fun z : (List UInt8) => decide (60 < z.length))), []) := by
  have e : funK Try.prog (look [(139, .rd1 idx_rdr1G)]) (look []) Try.f86 [.sl .str l, .fn 87 [] []] [] =
    ((some (V.b (decide (idx_rdr1V l (0 : Nat) ≥ (0 : Int))), [])) : _) := by kernel_rfl
  rw [e]
  have hv := idx_rdr1_V  l 0
  skip
  have hd : decide (idx_rdr1V  l 0 ≥ 0) = l.any (fun z : (List UInt8) => decide (60 < z.length)) := by
    show decide (0 ≤ idx_rdr1V  l 0) = _
    cases hq : l.any (fun z : (List UInt8) => decide (60 < z.length)) with
    | true => exact decide_eq_true (hv ▸ hq)
    | false => exact decide_eq_false (fun h => by rw [hv, hq] at h; cases h)
  rw [hd]
theorem rdr1_has : Contract Try.prog 86 (Ent.rd1 has_rdr1G).F := by
  refine fun_contract' (KnowsL.cons (enters_fn Try.func139 (by kernel_rfl) (by kernel_rfl)) rdr1_idx KnowsL.nil).knows (Λ := look []) Try.func86 (c := Try.f86.body.getD .skip) (by kernel_rfl) fun vs bs r h hv hb => ?_
  unfold Ent.F has_rdr1G at h
  dsimp only at h
  split at h
  · rename_i l 
    have h' := h
    exact ⟨loopsOk_nil _, (has_rdr1_fun  l).trans (by cases h'; rfl)⟩
  · cases h
end Go.Proofs.Ytjghbihlgfjebaa.Den
