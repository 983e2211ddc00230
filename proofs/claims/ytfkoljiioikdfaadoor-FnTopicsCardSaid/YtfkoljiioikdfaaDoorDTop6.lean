/- What functions of the program do, by the machine: Top6. -/
import Derived.Test.YtfkoljiioikdfaaDoorDTop5
import Derived.KernelRfl
import Derived.Test.YtfkoljiioikdfaaDoorRows
namespace Go.Proofs.YtfkoljiioikdfaaDoor.Den
open Go.Proofs
set_option maxRecDepth 100000
/-- The cuts of what is left of a text. -/
def cutL (c : UInt8) (s : List UInt8) : List UInt8 → Nat → Nat → List (List UInt8) → List (List UInt8) × Nat
  | [], _, fr, r => (r, fr)
  | b :: l, i, fr, r => if b = c then cutL c s l (i + 1) (i + 1) (r ++ [(s.drop fr).take (i - fr)]) else cutL c s l (i + 1) fr r
def glue (x : List UInt8) : List (List UInt8) → List (List UInt8)
  | [] => []
  | h :: t => (x ++ h) :: t
def lsplG : List V → List Blk → Br (V × List (Option Blk))
  | [.s s, .i .u8 b], [] => .need (decide (b = 47 ∧ s.length ≤ 4000000000)) (.leaf (.ref 0 0 (cut 47 s).length, [some (.row false none .str (cut 47 s))]))
  | _, _ => .no
def lspE : LoopEnt := ⟨34, [0,1,5,6,7], [0,5,6], [], fun
  | ([.s s, .i .u8 b, .ref 0 0 k, .i .i64 fr, .i .i64 i], [some (.row false none .str r)]) => .need (decide (b = 47 ∧ k = r.length ∧ (0 ≤ fr ∧ fr ≤ i) ∧ i.toNat ≤ s.length ∧ s.length ≤ 4000000000 ∧ (r.length : Int) ≤ i)) (.leaf (.exit 0, ([.s s, .ref 0 0 (cutL 47 s (s.drop i.toNat) i.toNat fr.toNat r).1.length, .i .i64 ((cutL 47 s (s.drop i.toNat) i.toNat fr.toNat r).2 : Int)], [some (.row false none .str (cutL 47 s (s.drop i.toNat) i.toNat fr.toNat r).1)])))
  | _ => .no⟩
theorem cutL_facts (c : UInt8) (s : List UInt8) : ∀ (l : List UInt8) (i fr : Nat) (r : List (List UInt8)), s.drop i = l → fr ≤ i → i ≤ s.length → (cutL c s l i fr r).1 ++ [s.drop (cutL c s l i fr r).2] = r ++ glue ((s.drop fr).take (i - fr)) (cut c l) ∧ (cutL c s l i fr r).2 ≤ s.length
  | [], i, fr, r, h, h1, h2 => by
    have hi : i = s.length := by have := congrArg List.length h; simp at this; omega
    simp only [cutL, cut, glue, List.append_nil]
    rw [List.take_of_length_le (by rw [List.length_drop]; omega)]
    exact ⟨rfl, by omega⟩
  | b :: l, i, fr, r, h, h1, h2 => by
    have hlt : i < s.length := by have := congrArg List.length h; simp at this; omega
    have hd : s.drop (i + 1) = l := by rw [← List.drop_drop, h]; rfl
    have hb : s[i] = b := by have := List.drop_eq_getElem_cons hlt; rw [h] at this; exact (List.cons.inj this).1.symm
    rw [cutL, cut]
    by_cases hc : b = c
    · rw [if_pos hc, if_pos hc]
      obtain ⟨e1, e2⟩ := cutL_facts c s l (i + 1) (i + 1) (r ++ [(s.drop fr).take (i - fr)]) hd (Nat.le_refl _) (by omega)
      refine ⟨?_, e2⟩
      rw [e1, Nat.sub_self, List.take_zero]
      have hg : glue [] (cut c l) = cut c l := by cases cut c l <;> rfl
      rw [hg]
      simp [glue]
    · rw [if_neg hc, if_neg hc]
      obtain ⟨e1, e2⟩ := cutL_facts c s l (i + 1) fr r hd (by omega) (by omega)
      refine ⟨?_, e2⟩
      rw [e1]
      congr 1
      have hne := cut_ne c l
      have ht : (s.drop fr).take (i + 1 - fr) = (s.drop fr).take (i - fr) ++ [b] := by
        have hk : i - fr < (s.drop fr).length := by rw [List.length_drop]; omega
        rw [show i + 1 - fr = (i - fr) + 1 by omega, List.take_succ_eq_append_getElem hk, List.getElem_drop]
        congr 2
        rw [← hb]
        congr 1; omega
      rw [ht]
      cases hl : cut c l with
      | nil => exact absurd hl hne
      | cons x t => simp [glue]
theorem lsp_round (s : List UInt8) (b : Int) (k : Nat) (fr i : Int) (r : List (List UInt8)) : roundK Tryd.prog (look []) (look [(4, lspE)]) 0 (body Tryd.f35 0) lspE ([.s s, .i .u8 b, .ref 0 0 k, .i .i64 fr, .i .i64 i], [some (.row false none .str r)]) =
  ((ifB (decide (i < (↑s.length : Int)))
  (ifT (decide ((0 : Int) ≤ i))
  (ifSome s[i.toNat]? fun z =>
  ifB ((↑z.toNat : Int) == b)
  (ifT (decide ((0 : Int) ≤ fr) && decide (fr ≤ i) && decide (i ≤ (↑s.length : Int)))
  (ifT (decide ((k + (1 : Nat)) * (16 : Nat) ≤ (140737488355328 : Nat)) && decide (k + (1 : Nat) ≤ maxI))
  (some
  (Ex.normal,
  [V.s s, V.i IntKind.u8 b, V.ref (0 : Nat) (0 : Nat) (k + (1 : Nat)),
  V.i IntKind.i64 (IntKind.i64.wrap (i + (1 : Int))),
  V.i IntKind.i64 (IntKind.i64.wrap (i + (1 : Int)))],
  [some
  (Blk.row false none Cd.str
  (List.take k (List.drop (0 : Nat) r) ++
  List.take (i.toNat - fr.toNat) (List.drop fr.toNat s) :: nilT Cd.str.den))]))))
  (some
  (Ex.normal,
  [V.s s, V.i IntKind.u8 b, V.ref (0 : Nat) (0 : Nat) k, V.i IntKind.i64 fr,
  V.i IntKind.i64 (IntKind.i64.wrap (i + (1 : Int)))],
  [some (Blk.row false none Cd.str r)]))))
  (some
  (Ex.exit (0 : Nat), [V.s s, V.ref (0 : Nat) (0 : Nat) k, V.i IntKind.i64 fr], [some (Blk.row false none Cd.str r)]))) : _) := by kernel_rfl
theorem lsp_loop (s : List UInt8) (hs : s.length ≤ 4000000000) : ∀ (j i fr : Nat) (r : List (List UInt8)), i + j = s.length → fr ≤ i → r.length ≤ i →
    Runs Tryd.prog (look []) (look [(4, lspE)]) 0 (body Tryd.f35 0) lspE ([.s s, .i .u8 47, .ref 0 0 r.length, .i .i64 (fr : Int), .i .i64 (i : Int)], [some (.row false none .str r)]) (.exit 0) ([.s s, .ref 0 0 (cutL 47 s (s.drop i) i fr r).1.length, .i .i64 ((cutL 47 s (s.drop i) i fr r).2 : Int)], [some (.row false none .str (cutL 47 s (s.drop i) i fr r).1)])
  | 0, i, fr, r, hi, h1, h2 => by
    have hr := lsp_round s 47 r.length fr i r
    rw [ifB_false (decide_eq_false (by omega))] at hr
    rw [List.drop_eq_nil_of_le (by omega), cutL]
    exact .stop _ _ _ hr (by simp)
  | j + 1, i, fr, r, hi, h1, h2 => by
    have hM : maxI = 9223372036854775807 := rfl
    have hil : i < s.length := by omega
    have hr := lsp_round s 47 r.length fr i r
    rw [ifB_true (decide_eq_true (by omega)), ifT_true (by simp only [decide_eq_true_eq]; omega)] at hr
    simp only [Int.toNat_natCast, List.getElem?_eq_getElem hil, ifSome_s, wrap_succ (n := i) (by omega), List.drop_zero, List.take_length, nilT_eq, Nat.zero_add] at hr
    rw [List.drop_eq_getElem_cons hil, cutL]
    by_cases hc : s[i] = 47
    · rw [if_pos hc]
      rw [ifB_true (by rw [hc]; rfl), ifT_true (by simp only [Bool.and_eq_true, decide_eq_true_eq]; omega), ifT_true (by simp only [Bool.and_eq_true, decide_eq_true_eq]; omega)] at hr
      have ih := lsp_loop s hs j (i + 1) (i + 1) (r ++ [(s.drop fr).take (i - fr)]) (by omega) (Nat.le_refl _) (by simp; omega)
      exact .step _ _ _ _ (hr.trans (by simp)) ih
    · rw [if_neg hc]
      have hb47 : ¬ (s[i].toNat = 47) := fun h => hc (UInt8.toNat_inj.1 (by rw [h]; rfl))
      rw [ifB_false (beq_false_of_ne (by omega))] at hr
      exact .step _ _ _ _ hr (lsp_loop s hs j (i + 1) fr r (by omega) (by omega) (by omega))
theorem lsp_ok : LoopsOk Tryd.prog (look []) (look [(4, lspE)]) 0 (Tryd.f35.body.getD .skip) := by
  refine loopsOk_one (a := body Tryd.f35 0) (by kernel_rfl) fun x e y h => ?_
  unfold lspE at h
  dsimp only at h
  split at h
  · rename_i s b k fr i r
    obtain ⟨hc, hx⟩ := need_some h
    clear h
    obtain ⟨rfl, rfl, ⟨h0, h1⟩, h2, h3, h4⟩ := of_decide_eq_true hc
    obtain ⟨fr, rfl⟩ := Int.eq_ofNat_of_zero_le h0
    obtain ⟨i, rfl⟩ := Int.eq_ofNat_of_zero_le (by omega : 0 ≤ i)
    rw [Int.toNat_natCast] at h2 hx
    rw [Int.toNat_natCast] at hx
    have h6 := leaf_some hx
    obtain ⟨rfl, rfl⟩ := Prod.mk.inj h6
    exact lsp_loop s h3 (s.length - i) i fr r (by omega) (by omega) (by omega)
  · cases h
theorem lspl_fun (s : List UInt8) (b : Int) (hc : b = 47 ∧ s.length ≤ 4000000000) : funN Tryd.prog (look []) (look [(4, lspE)]) Tryd.f35 [.s s, .i .u8 b] [] = some (.ref 0 0 (cut 47 s).length, [some (.row false none .str (cut 47 s))]) := by
  have e : funN Tryd.prog (look []) (look [(4, lspE)]) Tryd.f35 [.s s, .i .u8 b] [] = ((ifT
  (decide
  (b = (47 : Int) ∧
  (0 : Nat) = (0 : Nat) ∧
  ((0 : Int) ≤ (0 : Int) ∧ (0 : Int) ≤ (0 : Int)) ∧
  (0 : Nat) ≤ s.length ∧ s.length ≤ (4000000000 : Nat) ∧ (↑(0 : Nat) : Int) ≤ (0 : Int)))
  (ifT
  (decide
  ((0 : Int) ≤
  (↑(cutL (47 : UInt8) s (List.drop (0 : Nat) s) (0 : Nat) (0 : Nat) (nilT Cd.str.den)).snd : Int)) &&
  decide
  ((↑(cutL (47 : UInt8) s (List.drop (0 : Nat) s) (0 : Nat) (0 : Nat) (nilT Cd.str.den)).snd : Int) ≤
  (↑s.length : Int)))
  (ifT
  (decide
  (((cutL (47 : UInt8) s (List.drop (0 : Nat) s) (0 : Nat) (0 : Nat) (nilT Cd.str.den)).fst.length +
  (1 : Nat)) *
  (16 : Nat) ≤
  (140737488355328 : Nat)) &&
  decide
  ((cutL (47 : UInt8) s (List.drop (0 : Nat) s) (0 : Nat) (0 : Nat) (nilT Cd.str.den)).fst.length + (1 : Nat) ≤
  maxI))
  (some
  (V.ref (0 : Nat) (0 : Nat)
  ((cutL (47 : UInt8) s (List.drop (0 : Nat) s) (0 : Nat) (0 : Nat) (nilT Cd.str.den)).fst.length +
  (1 : Nat)),
  [some
  (Blk.row false none Cd.str
  (List.take
  (cutL (47 : UInt8) s (List.drop (0 : Nat) s) (0 : Nat) (0 : Nat) (nilT Cd.str.den)).fst.length
  (List.drop (0 : Nat)
  (cutL (47 : UInt8) s (List.drop (0 : Nat) s) (0 : Nat) (0 : Nat) (nilT Cd.str.den)).fst) ++
  List.take
  (s.length -
  (↑(cutL (47 : UInt8) s (List.drop (0 : Nat) s) (0 : Nat) (0 : Nat) (nilT Cd.str.den)).snd :
  Int).toNat)
  (List.drop
  (↑(cutL (47 : UInt8) s (List.drop (0 : Nat) s) (0 : Nat) (0 : Nat) (nilT Cd.str.den)).snd :
  Int).toNat
  s) ::
  nilT Cd.str.den))]))))) : _) := by kernel_rfl
  rw [e]
  clear e
  obtain ⟨rfl, hs⟩ := hc
  have hM : maxI = 9223372036854775807 := rfl
  rw [ifT_true (decide_eq_true ⟨by trivial, by rfl, ⟨by omega, by omega⟩, by omega, hs, by simp⟩)]
  obtain ⟨e1, e2⟩ := cutL_facts 47 s s 0 0 [] rfl (Nat.le_refl _) (Nat.zero_le _)
  have hg : glue ((s.drop 0).take (0 - 0)) (cut 47 s) = cut 47 s := by cases cut 47 s <;> rfl
  rw [hg, List.nil_append] at e1
  have e4 := cut_len 47 s
  have e5 := List.count_le_length (a := 47) (l := s)
  simp only [List.drop_zero, Int.toNat_zero, nilT_eq, Int.toNat_natCast, List.take_length, Nat.zero_add, Nat.sub_zero] at *
  generalize cutL 47 s s 0 0 [] = y at *
  have e3 : y.1.length + 1 = (cut 47 s).length := by rw [← e1]; simp
  have e6 : List.take (s.length - y.2) (List.drop y.2 s) = List.drop y.2 s := List.take_of_length_le (by simp)
  rw [ifT_true (by simp only [Bool.and_eq_true, decide_eq_true_eq]; omega), ifT_true (by simp only [Bool.and_eq_true, decide_eq_true_eq]; omega)]
  simp only [e6, e1, e3]
theorem lspl : Contract Tryd.prog 35 (Ent.rd1 lsplG).F := by
  refine fun_contractN' KnowsL.nil.knows (Λ := look [(4, lspE)]) Tryd.func35 (c := Tryd.f35.body.getD .skip) (by kernel_rfl) fun vs bs r hq hv hb => ?_
  unfold Ent.F lsplG at hq
  dsimp only at hq
  split at hq
  · rename_i s b
    obtain ⟨hc, hq⟩ := need_some hq
    exact ⟨lsp_ok, (lspl_fun s b (of_decide_eq_true hc)).trans hq⟩
  · cases hq
end Go.Proofs.YtfkoljiioikdfaaDoor.Den
