/- What functions of the program do, by the machine: Fr10. -/
import Derived.Test.YtjghbihlgfjebaaDFr9
import Derived.KernelRfl
import Derived.Test.YtjghbihlgfjebaaRows
namespace Go.Proofs.Ytjghbihlgfjebaa.Den
open Go.Proofs
set_option maxRecDepth 100000
/-- Drawn pieces, and a drawn stream. -/
def dfa (l : List Int) : List (List UInt8) := if (Cur.mk l 0 0).pcs.2.pickV 30 = 0 then (Cur.mk l 0 0).pcs.1 ++ List.replicate 60 [] else (Cur.mk l 0 0).pcs.1
def dfeedG : List V → List Blk → Br (V × List (Option Blk))
  | [.sl (.int .u8) l], [] => .need (decide ((Cur.mk l 0 0).good 0)) (.leaf (.ref 0 0 (dfa l).length, [some (.row false none .str (dfa l))]))
  | _, _ => .no
def dunfG : List V → List Blk → Br (V × List (Option Blk))
  | [.sl (.int .u8) l], [] => .need (decide ((Cur.mk l 0 0).good 0)) (.leaf (.s (Cur.mk l 0 0).strm.1, []))
  | _, _ => .no
theorem Cur.cuts_facts : ∀ (f : Nat) {c : Cur} {m : Int} (t : List UInt8) (r : List (List UInt8)), c.good m → (c.cuts f t r).1.length ≤ r.length + f ∧ (c.cuts f t r).2.good (m + 2 * f)
  | 0, c, m, t, r, h => ⟨by simp [Cur.cuts], Cur.good_mono h (by omega)⟩
  | f + 1, c, m, t, r, h => by
    rw [Cur.cuts]
    split
    · exact ⟨by dsimp only; omega, Cur.good_mono h (by omega)⟩
    · obtain ⟨h1, h2⟩ := Cur.cuts_facts f (t.drop (c.cutN t r.length)) (r ++ [t.take (c.cutN t r.length)]) (Cur.pickC_good (k := 7) h)
      rw [List.length_append, List.length_singleton] at h1
      exact ⟨by omega, Cur.good_mono h2 (by omega)⟩
theorem Cur.pcs_facts {c : Cur} {m : Int} (h : c.good m) : c.pcs.1.length ≤ 500 ∧ c.pcs.2.good (m + 2000) := by
  obtain ⟨h1, h2⟩ := Cur.strm_facts h
  obtain ⟨h3, h4⟩ := Cur.cuts_facts c.strm.1.length c.strm.1 [] h2
  unfold Cur.pcs
  exact ⟨by simp at h3; omega, Cur.good_mono h4 (by omega)⟩
theorem dfeed_fun (l : List Int) (hc : (Cur.mk l 0 0).good 0) : funN Try.prog (look [(80, .own cpcsG), (81, .own coneG)]) (look []) Try.f16 [.sl (.int .u8) l] [] = (.leaf (.ref 0 0 (dfa l).length, [some (.row false none .str (dfa l))]) : Br (V × List (Option Blk))).run := by
  have e : funN Try.prog (look [(80, .own cpcsG), (81, .own coneG)]) (look []) Try.f16 [.sl (.int .u8) l] [] = ((ifT (decide ((Cur.mk l (0 : Int) (0 : Int)).good (400000000 : Int)))
  (ifT (decide ((Cur.mk l (0 : Int) (0 : Int)).pcs.snd.good (900000000 : Int)))
  (ifB ((Cur.mk l (0 : Int) (0 : Int)).pcs.snd.pickV (30 : Int) == (0 : Int))
  (ifT
  (decide ((0 : Int) ≤ (60 : Int) ∧ (60 : Int) ≤ (1000000 : Int)) &&
  (decide
  (((Cur.mk l (0 : Int) (0 : Int)).pcs.fst.length + (60 : Nat)) * (16 : Nat) ≤ (140737488355328 : Nat)) &&
  decide ((Cur.mk l (0 : Int) (0 : Int)).pcs.fst.length + (60 : Nat) ≤ maxI)))
  (some
  (V.ref (0 : Nat) (0 : Nat) ((Cur.mk l (0 : Int) (0 : Int)).pcs.fst.length + (60 : Nat)),
  [some
  (Blk.row false none Cd.str
  (List.take (Cur.mk l (0 : Int) (0 : Int)).pcs.fst.length
  (List.drop (0 : Nat) (Cur.mk l (0 : Int) (0 : Int)).pcs.fst) ++
  List.replicate (60 : Nat) (nilT UInt8)))])))
  (some
  (V.ref (0 : Nat) (0 : Nat) (Cur.mk l (0 : Int) (0 : Int)).pcs.fst.length,
  [some (Blk.row false none Cd.str (Cur.mk l (0 : Int) (0 : Int)).pcs.fst)]))))) : _) := by kernel_rfl
  rw [e]
  clear e
  have hM : maxI = 9223372036854775807 := rfl
  obtain ⟨h1, h2⟩ := Cur.pcs_facts hc
  rw [ifT_true (decide_eq_true (Cur.good_mono hc (by omega))), ifT_true (decide_eq_true (Cur.good_mono h2 (by omega)))]
  unfold dfa
  by_cases q : (Cur.mk l 0 0).pcs.2.pickV 30 = 0
  · rw [ifB_true (by rw [q]; rfl), if_pos q]
    rw [ifT_true (by simp; omega)]
    simp only [nilT_eq, List.drop_zero, List.take_length, List.length_append, List.length_replicate]
    rfl
  · rw [ifB_false (by simpa using q), if_neg q]
    rfl
theorem dfeed : Contract Try.prog 16 (Ent.rd1 dfeedG).F := by
  refine fun_contractN' (KnowsL.cons (enters_fn Try.func80 (by kernel_rfl) (by kernel_rfl)) cpcs (KnowsL.cons (enters_fn Try.func81 (by kernel_rfl) (by kernel_rfl)) cone KnowsL.nil)).knows (Λ := look []) Try.func16 (c := Try.f16.body.getD .skip) (by kernel_rfl) fun vs bs r h hv hb => ?_
  unfold Ent.F dfeedG at h
  dsimp only at h
  split at h
  · rename_i l
    obtain ⟨hc, h⟩ := need_some h
    exact ⟨loopsOk_nil _, (dfeed_fun l (of_decide_eq_true hc)).trans h⟩
  · cases h
theorem dunf_fun (l : List Int) (hc : (Cur.mk l 0 0).good 0) : funN Try.prog (look [(89, .own cstrmG)]) (look []) Try.f21 [.sl (.int .u8) l] [] = (.leaf (.s (Cur.mk l 0 0).strm.1, []) : Br (V × List (Option Blk))).run := by
  have e : funN Try.prog (look [(89, .own cstrmG)]) (look []) Try.f21 [.sl (.int .u8) l] [] = ((ifT (decide ((Cur.mk l (0 : Int) (0 : Int)).good (500000000 : Int)))
  (some (V.s (Cur.mk l (0 : Int) (0 : Int)).strm.fst, []))) : _) := by kernel_rfl
  rw [e]
  clear e
  rw [ifT_true (decide_eq_true (Cur.good_mono hc (by omega)))]
  rfl
theorem dunf : Contract Try.prog 21 (Ent.rd1 dunfG).F := by
  refine fun_contractN' (KnowsL.cons (enters_fn Try.func89 (by kernel_rfl) (by kernel_rfl)) cstrm KnowsL.nil).knows (Λ := look []) Try.func21 (c := Try.f21.body.getD .skip) (by kernel_rfl) fun vs bs r h hv hb => ?_
  unfold Ent.F dunfG at h
  dsimp only at h
  split at h
  · rename_i l
    obtain ⟨hc, h⟩ := need_some h
    exact ⟨loopsOk_nil _, (dunf_fun l (of_decide_eq_true hc)).trans h⟩
  · cases h
end Go.Proofs.Ytjghbihlgfjebaa.Den
