/- What functions of the program do, by the machine: Fr9. -/
import Derived.Test.YtjghbihlgfjebaaDFr8
import Derived.KernelRfl
import Derived.Test.YtjghbihlgfjebaaRows
namespace Go.Proofs.Ytjghbihlgfjebaa.Den
open Go.Proofs
set_option maxRecDepth 100000
/-- A drawn stream. -/
def Cur.frm (c : Cur) : List UInt8 × Cur := Cur.frs (if (c.pickC 6).pickV 20 = 0 then 16 else (c.pickV 6).toNat) ((c.pickC 6).pickC 20) []
def Cur.spo (c : Cur) : List UInt8 × Cur := if c.frm.2.pickV 4 = 0 then (c.frm.2.pickC 4).spoilt c.frm.1 [126, 0, 61, 1, 97] else (c.frm.1, c.frm.2.pickC 4)
def Cur.strm (c : Cur) : List UInt8 × Cur :=
  if 300 < c.spo.1.length then (if c.spo.2.pickV 4 = 0 then c.spo.1 else c.spo.1.take 300, c.spo.2.pickC 4) else c.spo
def frsE : LoopEnt := ⟨40, [0,3,4], [0,3], [], fun
  | ([.ptr 0 0, .s t, .i .i64 n], [some (.box [.sl (.int .u8) l, .i .i64 a, .i .u64 s])]) => .need (decide ((0 ≤ n ∧ n ≤ 100) ∧ (t.length : Int) + 20 * n ≤ 10000 ∧ (Cur.mk l a s).good (700000000 - 6 * n))) (.leaf (.exit 0, ([.ptr 0 0, .s ((Cur.mk l a s).frs n.toNat t).1], [some (.box [.sl (.int .u8) ((Cur.mk l a s).frs n.toNat t).2.l, .i .i64 ((Cur.mk l a s).frs n.toNat t).2.a, .i .u64 ((Cur.mk l a s).frs n.toNat t).2.s])])))
  | _ => .no⟩
def cstrmG : List V → List Blk → Br (V × List (Option Blk))
  | [.ptr 0 0], [.box [.sl (.int .u8) l, .i .i64 a, .i .u64 s]] => .need (decide ((Cur.mk l a s).good 500000000)) (.leaf (.s (Cur.mk l a s).strm.1, [some (.box [.sl (.int .u8) (Cur.mk l a s).strm.2.l, .i .i64 (Cur.mk l a s).strm.2.a, .i .u64 (Cur.mk l a s).strm.2.s])]))
  | _, _ => .no
def cutE : LoopEnt := ⟨34, [0,3,4], [4], [], fun
  | ([.ptr 0 0, .s t, .ref 1 0 k], [some (.box [.sl (.int .u8) l, .i .i64 a, .i .u64 s]), some (.row false none .str r)]) => .need (decide (k = r.length ∧ t.length ≤ 10000 ∧ r.length ≤ 10000 ∧ (Cur.mk l a s).good (800000000 - 2 * t.length))) (.leaf (.exit 0, ([.ref 1 0 ((Cur.mk l a s).cuts t.length t r).1.length], [some (.box [.sl (.int .u8) ((Cur.mk l a s).cuts t.length t r).2.l, .i .i64 ((Cur.mk l a s).cuts t.length t r).2.a, .i .u64 ((Cur.mk l a s).cuts t.length t r).2.s]), some (.row false none .str ((Cur.mk l a s).cuts t.length t r).1)])))
  | _ => .no⟩
/-- Drawn pieces. -/
def Cur.pcs (c : Cur) : List (List UInt8) × Cur := Cur.cuts c.strm.1.length c.strm.2 c.strm.1 []
def cpcsG : List V → List Blk → Br (V × List (Option Blk))
  | [.ptr 0 0], [.box [.sl (.int .u8) l, .i .i64 a, .i .u64 s]] => .need (decide ((Cur.mk l a s).good 400000000)) (.leaf (.ref 1 0 (Cur.mk l a s).pcs.1.length, [some (.box [.sl (.int .u8) (Cur.mk l a s).pcs.2.l, .i .i64 (Cur.mk l a s).pcs.2.a, .i .u64 (Cur.mk l a s).pcs.2.s]), some (.row false none .str (Cur.mk l a s).pcs.1)]))
  | _, _ => .no
theorem frs_round (t : List UInt8) (n : Int) (l : List Int) (a s : Int) : roundK Try.prog (look [(104, .own cpickG), (81, .own coneG), (142, .own cpayG), (141, .rd1 frameOfG), (143, .own cspoilG)]) (look [(5, frsE)]) 1 (body Try.f89 0) frsE ([.ptr 0 0, .s t, .i .i64 n], [some (.box [.sl (.int .u8) l, .i .i64 a, .i .u64 s])]) =
  ((ifB (decide (n > (0 : Int)))
  (ifT (decide ((Cur.mk l a s).good (900000000 : Int)))
  (ifT
  (decide
  (t.length + (if (Cur.mk l a s).pay.length ≤ (60 : Nat) then frB (Cur.mk l a s).pay else nilT UInt8).length ≤
  (9223372036854775807 : Nat)))
  (some
  (Ex.normal,
  [V.ptr (0 : Nat) (0 : Nat),
  V.s (t ++ if (Cur.mk l a s).pay.length ≤ (60 : Nat) then frB (Cur.mk l a s).pay else nilT UInt8),
  V.i IntKind.i64 (IntKind.i64.wrap (n - (1 : Int)))],
  [some
  (Blk.box
  [V.sl (Cd.int IntKind.u8) ((Cur.mk l a s).pickC (6 : Int)).l,
  V.i IntKind.i64 ((Cur.mk l a s).pickC (6 : Int)).a,
  V.i IntKind.u64 ((Cur.mk l a s).pickC (6 : Int)).s])]))))
  (some
  (Ex.exit (0 : Nat), [V.ptr (0 : Nat) (0 : Nat), V.s t],
  [some (Blk.box [V.sl (Cd.int IntKind.u8) l, V.i IntKind.i64 a, V.i IntKind.u64 s])]))) : _) := by kernel_rfl
theorem Cur.pay_len (c : Cur) : c.pay.length ≤ 14 := by
  unfold Cur.pay
  generalize (c.pickV 6).toNat = k
  by_cases h : k < ([[], [97], [104, 101, 108, 108, 111], [126, 126], [0, 255], [115, 111, 109, 101, 32, 109, 111, 114, 101, 32, 116, 101, 120, 116]] : List (List UInt8)).length
  · have e : ([[], [97], [104, 101, 108, 108, 111], [126, 126], [0, 255], [115, 111, 109, 101, 32, 109, 111, 114, 101, 32, 116, 101, 120, 116]] : List (List UInt8)).getD k [] = ([[], [97], [104, 101, 108, 108, 111], [126, 126], [0, 255], [115, 111, 109, 101, 32, 109, 111, 114, 101, 32, 116, 101, 120, 116]] : List (List UInt8))[k] := by simp only [List.getD, List.getElem?_eq_getElem h, Option.getD_some]
    rw [e]
    exact (by decide : ∀ z ∈ ([[], [97], [104, 101, 108, 108, 111], [126, 126], [0, 255], [115, 111, 109, 101, 32, 109, 111, 114, 101, 32, 116, 101, 120, 116]] : List (List UInt8)), z.length ≤ 14) _ (List.getElem_mem h)
  · have e : ([[], [97], [104, 101, 108, 108, 111], [126, 126], [0, 255], [115, 111, 109, 101, 32, 109, 111, 114, 101, 32, 116, 101, 120, 116]] : List (List UInt8)).getD k [] = [] := by simp only [List.getD, List.getElem?_eq_none (Nat.le_of_not_lt h), Option.getD_none]
    rw [e]
    simp
theorem frB_len (l : List UInt8) : (frB l).length = l.length + 3 := by unfold frB; simp
theorem Cur.frs_facts : ∀ (n : Nat) {c : Cur} {m : Int} (t : List UInt8), c.good m → (c.frs n t).1.length ≤ t.length + 20 * n ∧ (c.frs n t).2.good (m + 2 * n)
  | 0, c, m, t, h => ⟨by simp [Cur.frs], Cur.good_mono h (by omega)⟩
  | n + 1, c, m, t, h => by
    obtain ⟨h1, h2⟩ := Cur.frs_facts n (t ++ frB c.pay) (Cur.pickC_good (k := 6) h)
    have hp := Cur.pay_len c
    rw [List.length_append, frB_len] at h1
    exact ⟨by rw [Cur.frs]; omega, by rw [Cur.frs]; exact Cur.good_mono h2 (by omega)⟩
theorem frs_loop : ∀ (n : Nat) (c : Cur) (t : List UInt8), n ≤ 100 → (t.length : Int) + 20 * n ≤ 10000 → c.good (700000000 - 6 * n) →
    Runs Try.prog (look [(104, .own cpickG), (81, .own coneG), (142, .own cpayG), (141, .rd1 frameOfG), (143, .own cspoilG)]) (look [(5, frsE)]) 1 (body Try.f89 0) frsE ([.ptr 0 0, .s t, .i .i64 (n : Int)], [some (.box [.sl (.int .u8) c.l, .i .i64 c.a, .i .u64 c.s])]) (.exit 0) ([.ptr 0 0, .s (c.frs n t).1], [some (.box [.sl (.int .u8) (c.frs n t).2.l, .i .i64 (c.frs n t).2.a, .i .u64 (c.frs n t).2.s])])
  | 0, c, t, hn, hl, hc => by
    have hr := frs_round t ((0 : Nat) : Int) c.l c.a c.s
    rw [ifB_false (by simp)] at hr
    exact .stop _ _ _ hr (by simp)
  | n + 1, c, t, hn, hl, hc => by
    have hp := Cur.pay_len c
    have hf := frB_len c.pay
    have hs := frs_round t ((n + 1 : Nat) : Int) c.l c.a c.s
    have eta : Cur.mk c.l c.a c.s = c := rfl
    have e2 : IntKind.i64.wrap (((n + 1 : Nat) : Int) - 1) = n := by rw [wrap_id (by omega) (by omega)]; omega
    rw [ifB_true (decide_eq_true (by omega))] at hs
    simp only [eta, if_pos (show c.pay.length ≤ 60 by omega), e2, hf] at hs
    rw [ifT_true (decide_eq_true (Cur.good_mono hc (by omega))), ifT_true (decide_eq_true (by omega))] at hs
    exact .step _ _ _ _ hs (frs_loop n (c.pickC 6) (t ++ frB c.pay) (by omega) (by rw [List.length_append]; omega) (by (repeat with_reducible apply Cur.pick_le); exact Cur.good_mono hc (by omega)))
theorem frs_ok : LoopsOk Try.prog (look [(104, .own cpickG), (81, .own coneG), (142, .own cpayG), (141, .rd1 frameOfG), (143, .own cspoilG)]) (look [(5, frsE)]) 1 (Try.f89.body.getD .skip) := by
  refine loopsOk_one (a := body Try.f89 0) (by kernel_rfl) fun d e d' h => ?_
  unfold frsE at h
  dsimp only at h
  split at h
  · rename_i t n l a s
    obtain ⟨hc, h'⟩ := need_some h
    obtain ⟨⟨h0, h1⟩, h2, h3⟩ := of_decide_eq_true hc
    obtain ⟨n, rfl⟩ := Int.eq_ofNat_of_zero_le h0
    have h6 := leaf_some h'
    obtain ⟨rfl, rfl⟩ := Prod.mk.inj h6
    exact frs_loop n (Cur.mk l a s) t (by omega) h2 h3
  · cases h
theorem Cur.spoil_facts (mu : List UInt8) : ∀ (n : Nat) {c : Cur} {m : Int} (t : List UInt8), c.good m → (c.spoil n t mu).1.length ≤ t.length + n ∧ (c.spoil n t mu).2.good (m + 6 * n)
  | 0, c, m, t, h => ⟨by simp [Cur.spoil], Cur.good_mono h (by omega)⟩
  | n + 1, c, m, t, h => by
    rw [Cur.spoil]
    split
    · exact ⟨by dsimp only; omega, Cur.good_mono h (by omega)⟩
    · obtain ⟨h1, h2⟩ := Cur.spoil_facts mu n (c.sp1 t mu) (Cur.sp1_good t mu h)
      have := Cur.sp1_len (c := c) (m := 0) t mu
      exact ⟨by omega, Cur.good_mono h2 (by omega)⟩
theorem Cur.spoilt_facts {c : Cur} {m : Int} (t mu : List UInt8) (h : c.good m) : (c.spoilt t mu).1.length ≤ t.length + 3 ∧ (c.spoilt t mu).2.good (m + 50) := by
  have r := Cur.pickV_range (k := 3) h (by omega)
  obtain ⟨h1, h2⟩ := Cur.spoil_facts mu (c.pickV 3).toNat t (Cur.pickC_good (k := 3) h)
  exact ⟨by unfold Cur.spoilt; omega, by unfold Cur.spoilt; exact Cur.good_mono h2 (by omega)⟩
theorem Cur.frm_facts {c : Cur} {m : Int} (h : c.good m) : c.frm.1.length ≤ 400 ∧ c.frm.2.good (m + 50) := by
  have r := Cur.pickV_range (k := 6) h (by omega)
  have h2 : ((c.pickC 6).pickC 20).good (m + 4) := by (repeat with_reducible apply Cur.pick_le); exact Cur.good_mono h (by omega)
  unfold Cur.frm
  split
  · obtain ⟨a, b⟩ := Cur.frs_facts 16 [] h2
    exact ⟨by simp at a; omega, Cur.good_mono b (by omega)⟩
  · obtain ⟨a, b⟩ := Cur.frs_facts (c.pickV 6).toNat [] h2
    exact ⟨by simp at a; omega, Cur.good_mono b (by omega)⟩
theorem Cur.strm_facts {c : Cur} {m : Int} (h : c.good m) : c.strm.1.length ≤ 500 ∧ c.strm.2.good (m + 200) := by
  obtain ⟨h1, h2⟩ := Cur.frm_facts h
  have hs : c.spo.1.length ≤ 500 ∧ c.spo.2.good (m + 150) := by
    unfold Cur.spo
    split
    · obtain ⟨a, b⟩ := Cur.spoilt_facts c.frm.1 [126, 0, 61, 1, 97] (Cur.pickC_good (k := 4) h2)
      exact ⟨by omega, Cur.good_mono b (by omega)⟩
    · exact ⟨by dsimp only; omega, by dsimp only; (repeat with_reducible apply Cur.pick_le); exact Cur.good_mono h2 (by omega)⟩
  unfold Cur.strm
  split
  · refine ⟨?_, by dsimp only; (repeat with_reducible apply Cur.pick_le); exact Cur.good_mono hs.2 (by omega)⟩
    dsimp only
    split
    · exact hs.1
    · rw [List.length_take]; omega
  · exact ⟨hs.1, Cur.good_mono hs.2 (by omega)⟩
theorem cstrm_fun (l : List Int) (a s : Int) (hc : (Cur.mk l a s).good 500000000) : funN Try.prog (look [(104, .own cpickG), (81, .own coneG), (142, .own cpayG), (141, .rd1 frameOfG), (143, .own cspoilG)]) (look [(5, frsE)]) Try.f89 [.ptr 0 0] [.box [.sl (.int .u8) l, .i .i64 a, .i .u64 s]] = (.leaf (.s (Cur.mk l a s).strm.1, [some (.box [.sl (.int .u8) (Cur.mk l a s).strm.2.l, .i .i64 (Cur.mk l a s).strm.2.a, .i .u64 (Cur.mk l a s).strm.2.s])]) : Br (V × List (Option Blk))).run := by
  have e : funN Try.prog (look [(104, .own cpickG), (81, .own coneG), (142, .own cpayG), (141, .rd1 frameOfG), (143, .own cspoilG)]) (look [(5, frsE)]) Try.f89 [.ptr 0 0] [.box [.sl (.int .u8) l, .i .i64 a, .i .u64 s]] = ((ifT (decide ((Cur.mk l a s).good (900000000 : Int)))
  (ifT (decide (((Cur.mk l a s).pickC (6 : Int)).good (900000000 : Int)))
  (ifB (((Cur.mk l a s).pickC (6 : Int)).pickV (20 : Int) == (0 : Int))
  (ifT
  (decide
  (((0 : Int) ≤ (16 : Int) ∧ (16 : Int) ≤ (100 : Int)) ∧
  (320 : Int) ≤ (10000 : Int) ∧ (((Cur.mk l a s).pickC (6 : Int)).pickC (20 : Int)).good (699999904 : Int)))
  (ifT
  (decide
  ((Cur.frs (16 : Nat) (((Cur.mk l a s).pickC (6 : Int)).pickC (20 : Int)) (nilT UInt8)).snd.good
  (900000000 : Int)))
  (ifB
  ((Cur.frs (16 : Nat) (((Cur.mk l a s).pickC (6 : Int)).pickC (20 : Int)) (nilT UInt8)).snd.pickV
  (4 : Int) ==
  (0 : Int))
  (ifT
  (decide
  (((1 : Nat) ≤ (5 : Nat) ∧ (5 : Nat) ≤ (200 : Nat)) ∧
  (Cur.frs (16 : Nat) (((Cur.mk l a s).pickC (6 : Int)).pickC (20 : Int)) (nilT UInt8)).fst.length ≤
  (90000 : Nat) ∧
  ((Cur.frs (16 : Nat) (((Cur.mk l a s).pickC (6 : Int)).pickC (20 : Int)) (nilT UInt8)).snd.pickC
  (4 : Int)).good
  (600000000 : Int)))
  (ifB
  (decide
  ((↑(((Cur.frs (16 : Nat) (((Cur.mk l a s).pickC (6 : Int)).pickC (20 : Int)) (nilT UInt8)).snd.pickC
  (4 : Int)).spoilt
  (Cur.frs (16 : Nat) (((Cur.mk l a s).pickC (6 : Int)).pickC (20 : Int)) (nilT UInt8)).fst
  [(126 : UInt8), (0 : UInt8), (61 : UInt8), (1 : UInt8), (97 : UInt8)]).fst.length :
  Int) >
  (300 : Int)))
  (ifT
  (decide
  ((((Cur.frs (16 : Nat) (((Cur.mk l a s).pickC (6 : Int)).pickC (20 : Int)) (nilT UInt8)).snd.pickC
  (4 : Int)).spoilt
  (Cur.frs (16 : Nat) (((Cur.mk l a s).pickC (6 : Int)).pickC (20 : Int)) (nilT UInt8)).fst
  [(126 : UInt8), (0 : UInt8), (61 : UInt8), (1 : UInt8), (97 : UInt8)]).snd.good
  (900000000 : Int)))
  (ifB
  (!(((Cur.frs (16 : Nat) (((Cur.mk l a s).pickC (6 : Int)).pickC (20 : Int)) (nilT UInt8)).snd.pickC
  (4 : Int)).spoilt
  (Cur.frs (16 : Nat) (((Cur.mk l a s).pickC (6 : Int)).pickC (20 : Int))
  (nilT UInt8)).fst
  [(126 : UInt8), (0 : UInt8), (61 : UInt8), (1 : UInt8), (97 : UInt8)]).snd.pickV
  (4 : Int) ==
  (0 : Int))
  (ifT
  (decide ((0 : Int) ≤ (300 : Int)) &&
  decide
  ((300 : Int) ≤
  (↑(((Cur.frs (16 : Nat) (((Cur.mk l a s).pickC (6 : Int)).pickC (20 : Int))
  (nilT UInt8)).snd.pickC
  (4 : Int)).spoilt
  (Cur.frs (16 : Nat) (((Cur.mk l a s).pickC (6 : Int)).pickC (20 : Int))
  (nilT UInt8)).fst
  [(126 : UInt8), (0 : UInt8), (61 : UInt8), (1 : UInt8),
  (97 : UInt8)]).fst.length :
  Int)))
  (some
  (V.s
  (List.take (300 : Nat)
  (List.drop (0 : Nat)
  (((Cur.frs (16 : Nat) (((Cur.mk l a s).pickC (6 : Int)).pickC (20 : Int))
  (nilT UInt8)).snd.pickC
  (4 : Int)).spoilt
  (Cur.frs (16 : Nat) (((Cur.mk l a s).pickC (6 : Int)).pickC (20 : Int))
  (nilT UInt8)).fst
  [(126 : UInt8), (0 : UInt8), (61 : UInt8), (1 : UInt8), (97 : UInt8)]).fst)),
  [some
  (Blk.box
  [V.sl (Cd.int IntKind.u8)
  ((((Cur.frs (16 : Nat) (((Cur.mk l a s).pickC (6 : Int)).pickC (20 : Int))
  (nilT UInt8)).snd.pickC
  (4 : Int)).spoilt
  (Cur.frs (16 : Nat) (((Cur.mk l a s).pickC (6 : Int)).pickC (20 : Int))
  (nilT UInt8)).fst
  [(126 : UInt8), (0 : UInt8), (61 : UInt8), (1 : UInt8),
  (97 : UInt8)]).snd.pickC
  (4 : Int)).l,
  V.i IntKind.i64
  ((((Cur.frs (16 : Nat) (((Cur.mk l a s).pickC (6 : Int)).pickC (20 : Int))
  (nilT UInt8)).snd.pickC
  (4 : Int)).spoilt
  (Cur.frs (16 : Nat) (((Cur.mk l a s).pickC (6 : Int)).pickC (20 : Int))
  (nilT UInt8)).fst
  [(126 : UInt8), (0 : UInt8), (61 : UInt8), (1 : UInt8),
  (97 : UInt8)]).snd.pickC
  (4 : Int)).a,
  V.i IntKind.u64
  ((((Cur.frs (16 : Nat) (((Cur.mk l a s).pickC (6 : Int)).pickC (20 : Int))
  (nilT UInt8)).snd.pickC
  (4 : Int)).spoilt
  (Cur.frs (16 : Nat) (((Cur.mk l a s).pickC (6 : Int)).pickC (20 : Int))
  (nilT UInt8)).fst
  [(126 : UInt8), (0 : UInt8), (61 : UInt8), (1 : UInt8),
  (97 : UInt8)]).snd.pickC
  (4 : Int)).s])])))
  (some
  (V.s
  (((Cur.frs (16 : Nat) (((Cur.mk l a s).pickC (6 : Int)).pickC (20 : Int))
  (nilT UInt8)).snd.pickC
  (4 : Int)).spoilt
  (Cur.frs (16 : Nat) (((Cur.mk l a s).pickC (6 : Int)).pickC (20 : Int)) (nilT UInt8)).fst
  [(126 : UInt8), (0 : UInt8), (61 : UInt8), (1 : UInt8), (97 : UInt8)]).fst,
  [some
  (Blk.box
  [V.sl (Cd.int IntKind.u8)
  ((((Cur.frs (16 : Nat) (((Cur.mk l a s).pickC (6 : Int)).pickC (20 : Int))
  (nilT UInt8)).snd.pickC
  (4 : Int)).spoilt
  (Cur.frs (16 : Nat) (((Cur.mk l a s).pickC (6 : Int)).pickC (20 : Int))
  (nilT UInt8)).fst
  [(126 : UInt8), (0 : UInt8), (61 : UInt8), (1 : UInt8),
  (97 : UInt8)]).snd.pickC
  (4 : Int)).l,
  V.i IntKind.i64
  ((((Cur.frs (16 : Nat) (((Cur.mk l a s).pickC (6 : Int)).pickC (20 : Int))
  (nilT UInt8)).snd.pickC
  (4 : Int)).spoilt
  (Cur.frs (16 : Nat) (((Cur.mk l a s).pickC (6 : Int)).pickC (20 : Int))
  (nilT UInt8)).fst
  [(126 : UInt8), (0 : UInt8), (61 : UInt8), (1 : UInt8),
  (97 : UInt8)]).snd.pickC
  (4 : Int)).a,
  V.i IntKind.u64
  ((((Cur.frs (16 : Nat) (((Cur.mk l a s).pickC (6 : Int)).pickC (20 : Int))
  (nilT UInt8)).snd.pickC
  (4 : Int)).spoilt
  (Cur.frs (16 : Nat) (((Cur.mk l a s).pickC (6 : Int)).pickC (20 : Int))
  (nilT UInt8)).fst
  [(126 : UInt8), (0 : UInt8), (61 : UInt8), (1 : UInt8),
  (97 : UInt8)]).snd.pickC
  (4 : Int)).s])]))))
  (some
  (V.s
  (((Cur.frs (16 : Nat) (((Cur.mk l a s).pickC (6 : Int)).pickC (20 : Int)) (nilT UInt8)).snd.pickC
  (4 : Int)).spoilt
  (Cur.frs (16 : Nat) (((Cur.mk l a s).pickC (6 : Int)).pickC (20 : Int)) (nilT UInt8)).fst
  [(126 : UInt8), (0 : UInt8), (61 : UInt8), (1 : UInt8), (97 : UInt8)]).fst,
  [some
  (Blk.box
  [V.sl (Cd.int IntKind.u8)
  (((Cur.frs (16 : Nat) (((Cur.mk l a s).pickC (6 : Int)).pickC (20 : Int))
  (nilT UInt8)).snd.pickC
  (4 : Int)).spoilt
  (Cur.frs (16 : Nat) (((Cur.mk l a s).pickC (6 : Int)).pickC (20 : Int))
  (nilT UInt8)).fst
  [(126 : UInt8), (0 : UInt8), (61 : UInt8), (1 : UInt8), (97 : UInt8)]).snd.l,
  V.i IntKind.i64
  (((Cur.frs (16 : Nat) (((Cur.mk l a s).pickC (6 : Int)).pickC (20 : Int))
  (nilT UInt8)).snd.pickC
  (4 : Int)).spoilt
  (Cur.frs (16 : Nat) (((Cur.mk l a s).pickC (6 : Int)).pickC (20 : Int))
  (nilT UInt8)).fst
  [(126 : UInt8), (0 : UInt8), (61 : UInt8), (1 : UInt8), (97 : UInt8)]).snd.a,
  V.i IntKind.u64
  (((Cur.frs (16 : Nat) (((Cur.mk l a s).pickC (6 : Int)).pickC (20 : Int))
  (nilT UInt8)).snd.pickC
  (4 : Int)).spoilt
  (Cur.frs (16 : Nat) (((Cur.mk l a s).pickC (6 : Int)).pickC (20 : Int))
  (nilT UInt8)).fst
  [(126 : UInt8), (0 : UInt8), (61 : UInt8), (1 : UInt8), (97 : UInt8)]).snd.s])]))))
  (ifB
  (decide
  ((↑(Cur.frs (16 : Nat) (((Cur.mk l a s).pickC (6 : Int)).pickC (20 : Int)) (nilT UInt8)).fst.length :
  Int) >
  (300 : Int)))
  (ifT
  (decide
  (((Cur.frs (16 : Nat) (((Cur.mk l a s).pickC (6 : Int)).pickC (20 : Int)) (nilT UInt8)).snd.pickC
  (4 : Int)).good
  (900000000 : Int)))
  (ifB
  (!((Cur.frs (16 : Nat) (((Cur.mk l a s).pickC (6 : Int)).pickC (20 : Int)) (nilT UInt8)).snd.pickC
  (4 : Int)).pickV
  (4 : Int) ==
  (0 : Int))
  (ifT
  (decide ((0 : Int) ≤ (300 : Int)) &&
  decide
  ((300 : Int) ≤
  (↑(Cur.frs (16 : Nat) (((Cur.mk l a s).pickC (6 : Int)).pickC (20 : Int))
  (nilT UInt8)).fst.length :
  Int)))
  (some
  (V.s
  (List.take (300 : Nat)
  (List.drop (0 : Nat)
  (Cur.frs (16 : Nat) (((Cur.mk l a s).pickC (6 : Int)).pickC (20 : Int))
  (nilT UInt8)).fst)),
  [some
  (Blk.box
  [V.sl (Cd.int IntKind.u8)
  (((Cur.frs (16 : Nat) (((Cur.mk l a s).pickC (6 : Int)).pickC (20 : Int))
  (nilT UInt8)).snd.pickC
  (4 : Int)).pickC
  (4 : Int)).l,
  V.i IntKind.i64
  (((Cur.frs (16 : Nat) (((Cur.mk l a s).pickC (6 : Int)).pickC (20 : Int))
  (nilT UInt8)).snd.pickC
  (4 : Int)).pickC
  (4 : Int)).a,
  V.i IntKind.u64
  (((Cur.frs (16 : Nat) (((Cur.mk l a s).pickC (6 : Int)).pickC (20 : Int))
  (nilT UInt8)).snd.pickC
  (4 : Int)).pickC
  (4 : Int)).s])])))
  (some
  (V.s (Cur.frs (16 : Nat) (((Cur.mk l a s).pickC (6 : Int)).pickC (20 : Int)) (nilT UInt8)).fst,
  [some
  (Blk.box
  [V.sl (Cd.int IntKind.u8)
  (((Cur.frs (16 : Nat) (((Cur.mk l a s).pickC (6 : Int)).pickC (20 : Int))
  (nilT UInt8)).snd.pickC
  (4 : Int)).pickC
  (4 : Int)).l,
  V.i IntKind.i64
  (((Cur.frs (16 : Nat) (((Cur.mk l a s).pickC (6 : Int)).pickC (20 : Int))
  (nilT UInt8)).snd.pickC
  (4 : Int)).pickC
  (4 : Int)).a,
  V.i IntKind.u64
  (((Cur.frs (16 : Nat) (((Cur.mk l a s).pickC (6 : Int)).pickC (20 : Int))
  (nilT UInt8)).snd.pickC
  (4 : Int)).pickC
  (4 : Int)).s])]))))
  (some
  (V.s (Cur.frs (16 : Nat) (((Cur.mk l a s).pickC (6 : Int)).pickC (20 : Int)) (nilT UInt8)).fst,
  [some
  (Blk.box
  [V.sl (Cd.int IntKind.u8)
  ((Cur.frs (16 : Nat) (((Cur.mk l a s).pickC (6 : Int)).pickC (20 : Int))
  (nilT UInt8)).snd.pickC
  (4 : Int)).l,
  V.i IntKind.i64
  ((Cur.frs (16 : Nat) (((Cur.mk l a s).pickC (6 : Int)).pickC (20 : Int))
  (nilT UInt8)).snd.pickC
  (4 : Int)).a,
  V.i IntKind.u64
  ((Cur.frs (16 : Nat) (((Cur.mk l a s).pickC (6 : Int)).pickC (20 : Int))
  (nilT UInt8)).snd.pickC
  (4 : Int)).s])]))))))
  (ifT
  (decide
  (((0 : Int) ≤ (Cur.mk l a s).pickV (6 : Int) ∧ (Cur.mk l a s).pickV (6 : Int) ≤ (100 : Int)) ∧
  (↑(0 : Nat) : Int) + (20 : Int) * (Cur.mk l a s).pickV (6 : Int) ≤ (10000 : Int) ∧
  (((Cur.mk l a s).pickC (6 : Int)).pickC (20 : Int)).good
  ((700000000 : Int) - (6 : Int) * (Cur.mk l a s).pickV (6 : Int))))
  (ifT
  (decide
  ((Cur.frs ((Cur.mk l a s).pickV (6 : Int)).toNat (((Cur.mk l a s).pickC (6 : Int)).pickC (20 : Int))
  (nilT UInt8)).snd.good
  (900000000 : Int)))
  (ifB
  ((Cur.frs ((Cur.mk l a s).pickV (6 : Int)).toNat (((Cur.mk l a s).pickC (6 : Int)).pickC (20 : Int))
  (nilT UInt8)).snd.pickV
  (4 : Int) ==
  (0 : Int))
  (ifT
  (decide
  (((1 : Nat) ≤ (5 : Nat) ∧ (5 : Nat) ≤ (200 : Nat)) ∧
  (Cur.frs ((Cur.mk l a s).pickV (6 : Int)).toNat (((Cur.mk l a s).pickC (6 : Int)).pickC (20 : Int))
  (nilT UInt8)).fst.length ≤
  (90000 : Nat) ∧
  ((Cur.frs ((Cur.mk l a s).pickV (6 : Int)).toNat (((Cur.mk l a s).pickC (6 : Int)).pickC (20 : Int))
  (nilT UInt8)).snd.pickC
  (4 : Int)).good
  (600000000 : Int)))
  (ifB
  (decide
  ((↑(((Cur.frs ((Cur.mk l a s).pickV (6 : Int)).toNat
  (((Cur.mk l a s).pickC (6 : Int)).pickC (20 : Int)) (nilT UInt8)).snd.pickC
  (4 : Int)).spoilt
  (Cur.frs ((Cur.mk l a s).pickV (6 : Int)).toNat
  (((Cur.mk l a s).pickC (6 : Int)).pickC (20 : Int)) (nilT UInt8)).fst
  [(126 : UInt8), (0 : UInt8), (61 : UInt8), (1 : UInt8), (97 : UInt8)]).fst.length :
  Int) >
  (300 : Int)))
  (ifT
  (decide
  ((((Cur.frs ((Cur.mk l a s).pickV (6 : Int)).toNat
  (((Cur.mk l a s).pickC (6 : Int)).pickC (20 : Int)) (nilT UInt8)).snd.pickC
  (4 : Int)).spoilt
  (Cur.frs ((Cur.mk l a s).pickV (6 : Int)).toNat
  (((Cur.mk l a s).pickC (6 : Int)).pickC (20 : Int)) (nilT UInt8)).fst
  [(126 : UInt8), (0 : UInt8), (61 : UInt8), (1 : UInt8), (97 : UInt8)]).snd.good
  (900000000 : Int)))
  (ifB
  (!(((Cur.frs ((Cur.mk l a s).pickV (6 : Int)).toNat
  (((Cur.mk l a s).pickC (6 : Int)).pickC (20 : Int)) (nilT UInt8)).snd.pickC
  (4 : Int)).spoilt
  (Cur.frs ((Cur.mk l a s).pickV (6 : Int)).toNat
  (((Cur.mk l a s).pickC (6 : Int)).pickC (20 : Int)) (nilT UInt8)).fst
  [(126 : UInt8), (0 : UInt8), (61 : UInt8), (1 : UInt8), (97 : UInt8)]).snd.pickV
  (4 : Int) ==
  (0 : Int))
  (ifT
  (decide ((0 : Int) ≤ (300 : Int)) &&
  decide
  ((300 : Int) ≤
  (↑(((Cur.frs ((Cur.mk l a s).pickV (6 : Int)).toNat
  (((Cur.mk l a s).pickC (6 : Int)).pickC (20 : Int))
  (nilT UInt8)).snd.pickC
  (4 : Int)).spoilt
  (Cur.frs ((Cur.mk l a s).pickV (6 : Int)).toNat
  (((Cur.mk l a s).pickC (6 : Int)).pickC (20 : Int)) (nilT UInt8)).fst
  [(126 : UInt8), (0 : UInt8), (61 : UInt8), (1 : UInt8),
  (97 : UInt8)]).fst.length :
  Int)))
  (some
  (V.s
  (List.take (300 : Nat)
  (List.drop (0 : Nat)
  (((Cur.frs ((Cur.mk l a s).pickV (6 : Int)).toNat
  (((Cur.mk l a s).pickC (6 : Int)).pickC (20 : Int))
  (nilT UInt8)).snd.pickC
  (4 : Int)).spoilt
  (Cur.frs ((Cur.mk l a s).pickV (6 : Int)).toNat
  (((Cur.mk l a s).pickC (6 : Int)).pickC (20 : Int)) (nilT UInt8)).fst
  [(126 : UInt8), (0 : UInt8), (61 : UInt8), (1 : UInt8), (97 : UInt8)]).fst)),
  [some
  (Blk.box
  [V.sl (Cd.int IntKind.u8)
  ((((Cur.frs ((Cur.mk l a s).pickV (6 : Int)).toNat
  (((Cur.mk l a s).pickC (6 : Int)).pickC (20 : Int))
  (nilT UInt8)).snd.pickC
  (4 : Int)).spoilt
  (Cur.frs ((Cur.mk l a s).pickV (6 : Int)).toNat
  (((Cur.mk l a s).pickC (6 : Int)).pickC (20 : Int)) (nilT UInt8)).fst
  [(126 : UInt8), (0 : UInt8), (61 : UInt8), (1 : UInt8),
  (97 : UInt8)]).snd.pickC
  (4 : Int)).l,
  V.i IntKind.i64
  ((((Cur.frs ((Cur.mk l a s).pickV (6 : Int)).toNat
  (((Cur.mk l a s).pickC (6 : Int)).pickC (20 : Int))
  (nilT UInt8)).snd.pickC
  (4 : Int)).spoilt
  (Cur.frs ((Cur.mk l a s).pickV (6 : Int)).toNat
  (((Cur.mk l a s).pickC (6 : Int)).pickC (20 : Int)) (nilT UInt8)).fst
  [(126 : UInt8), (0 : UInt8), (61 : UInt8), (1 : UInt8),
  (97 : UInt8)]).snd.pickC
  (4 : Int)).a,
  V.i IntKind.u64
  ((((Cur.frs ((Cur.mk l a s).pickV (6 : Int)).toNat
  (((Cur.mk l a s).pickC (6 : Int)).pickC (20 : Int))
  (nilT UInt8)).snd.pickC
  (4 : Int)).spoilt
  (Cur.frs ((Cur.mk l a s).pickV (6 : Int)).toNat
  (((Cur.mk l a s).pickC (6 : Int)).pickC (20 : Int)) (nilT UInt8)).fst
  [(126 : UInt8), (0 : UInt8), (61 : UInt8), (1 : UInt8),
  (97 : UInt8)]).snd.pickC
  (4 : Int)).s])])))
  (some
  (V.s
  (((Cur.frs ((Cur.mk l a s).pickV (6 : Int)).toNat
  (((Cur.mk l a s).pickC (6 : Int)).pickC (20 : Int)) (nilT UInt8)).snd.pickC
  (4 : Int)).spoilt
  (Cur.frs ((Cur.mk l a s).pickV (6 : Int)).toNat
  (((Cur.mk l a s).pickC (6 : Int)).pickC (20 : Int)) (nilT UInt8)).fst
  [(126 : UInt8), (0 : UInt8), (61 : UInt8), (1 : UInt8), (97 : UInt8)]).fst,
  [some
  (Blk.box
  [V.sl (Cd.int IntKind.u8)
  ((((Cur.frs ((Cur.mk l a s).pickV (6 : Int)).toNat
  (((Cur.mk l a s).pickC (6 : Int)).pickC (20 : Int))
  (nilT UInt8)).snd.pickC
  (4 : Int)).spoilt
  (Cur.frs ((Cur.mk l a s).pickV (6 : Int)).toNat
  (((Cur.mk l a s).pickC (6 : Int)).pickC (20 : Int)) (nilT UInt8)).fst
  [(126 : UInt8), (0 : UInt8), (61 : UInt8), (1 : UInt8),
  (97 : UInt8)]).snd.pickC
  (4 : Int)).l,
  V.i IntKind.i64
  ((((Cur.frs ((Cur.mk l a s).pickV (6 : Int)).toNat
  (((Cur.mk l a s).pickC (6 : Int)).pickC (20 : Int))
  (nilT UInt8)).snd.pickC
  (4 : Int)).spoilt
  (Cur.frs ((Cur.mk l a s).pickV (6 : Int)).toNat
  (((Cur.mk l a s).pickC (6 : Int)).pickC (20 : Int)) (nilT UInt8)).fst
  [(126 : UInt8), (0 : UInt8), (61 : UInt8), (1 : UInt8),
  (97 : UInt8)]).snd.pickC
  (4 : Int)).a,
  V.i IntKind.u64
  ((((Cur.frs ((Cur.mk l a s).pickV (6 : Int)).toNat
  (((Cur.mk l a s).pickC (6 : Int)).pickC (20 : Int))
  (nilT UInt8)).snd.pickC
  (4 : Int)).spoilt
  (Cur.frs ((Cur.mk l a s).pickV (6 : Int)).toNat
  (((Cur.mk l a s).pickC (6 : Int)).pickC (20 : Int)) (nilT UInt8)).fst
  [(126 : UInt8), (0 : UInt8), (61 : UInt8), (1 : UInt8),
  (97 : UInt8)]).snd.pickC
  (4 : Int)).s])]))))
  (some
  (V.s
  (((Cur.frs ((Cur.mk l a s).pickV (6 : Int)).toNat
  (((Cur.mk l a s).pickC (6 : Int)).pickC (20 : Int)) (nilT UInt8)).snd.pickC
  (4 : Int)).spoilt
  (Cur.frs ((Cur.mk l a s).pickV (6 : Int)).toNat
  (((Cur.mk l a s).pickC (6 : Int)).pickC (20 : Int)) (nilT UInt8)).fst
  [(126 : UInt8), (0 : UInt8), (61 : UInt8), (1 : UInt8), (97 : UInt8)]).fst,
  [some
  (Blk.box
  [V.sl (Cd.int IntKind.u8)
  (((Cur.frs ((Cur.mk l a s).pickV (6 : Int)).toNat
  (((Cur.mk l a s).pickC (6 : Int)).pickC (20 : Int))
  (nilT UInt8)).snd.pickC
  (4 : Int)).spoilt
  (Cur.frs ((Cur.mk l a s).pickV (6 : Int)).toNat
  (((Cur.mk l a s).pickC (6 : Int)).pickC (20 : Int)) (nilT UInt8)).fst
  [(126 : UInt8), (0 : UInt8), (61 : UInt8), (1 : UInt8), (97 : UInt8)]).snd.l,
  V.i IntKind.i64
  (((Cur.frs ((Cur.mk l a s).pickV (6 : Int)).toNat
  (((Cur.mk l a s).pickC (6 : Int)).pickC (20 : Int))
  (nilT UInt8)).snd.pickC
  (4 : Int)).spoilt
  (Cur.frs ((Cur.mk l a s).pickV (6 : Int)).toNat
  (((Cur.mk l a s).pickC (6 : Int)).pickC (20 : Int)) (nilT UInt8)).fst
  [(126 : UInt8), (0 : UInt8), (61 : UInt8), (1 : UInt8), (97 : UInt8)]).snd.a,
  V.i IntKind.u64
  (((Cur.frs ((Cur.mk l a s).pickV (6 : Int)).toNat
  (((Cur.mk l a s).pickC (6 : Int)).pickC (20 : Int))
  (nilT UInt8)).snd.pickC
  (4 : Int)).spoilt
  (Cur.frs ((Cur.mk l a s).pickV (6 : Int)).toNat
  (((Cur.mk l a s).pickC (6 : Int)).pickC (20 : Int)) (nilT UInt8)).fst
  [(126 : UInt8), (0 : UInt8), (61 : UInt8), (1 : UInt8), (97 : UInt8)]).snd.s])]))))
  (ifB
  (decide
  ((↑(Cur.frs ((Cur.mk l a s).pickV (6 : Int)).toNat (((Cur.mk l a s).pickC (6 : Int)).pickC (20 : Int))
  (nilT UInt8)).fst.length :
  Int) >
  (300 : Int)))
  (ifT
  (decide
  (((Cur.frs ((Cur.mk l a s).pickV (6 : Int)).toNat (((Cur.mk l a s).pickC (6 : Int)).pickC (20 : Int))
  (nilT UInt8)).snd.pickC
  (4 : Int)).good
  (900000000 : Int)))
  (ifB
  (!((Cur.frs ((Cur.mk l a s).pickV (6 : Int)).toNat (((Cur.mk l a s).pickC (6 : Int)).pickC (20 : Int))
  (nilT UInt8)).snd.pickC
  (4 : Int)).pickV
  (4 : Int) ==
  (0 : Int))
  (ifT
  (decide ((0 : Int) ≤ (300 : Int)) &&
  decide
  ((300 : Int) ≤
  (↑(Cur.frs ((Cur.mk l a s).pickV (6 : Int)).toNat
  (((Cur.mk l a s).pickC (6 : Int)).pickC (20 : Int)) (nilT UInt8)).fst.length :
  Int)))
  (some
  (V.s
  (List.take (300 : Nat)
  (List.drop (0 : Nat)
  (Cur.frs ((Cur.mk l a s).pickV (6 : Int)).toNat
  (((Cur.mk l a s).pickC (6 : Int)).pickC (20 : Int)) (nilT UInt8)).fst)),
  [some
  (Blk.box
  [V.sl (Cd.int IntKind.u8)
  (((Cur.frs ((Cur.mk l a s).pickV (6 : Int)).toNat
  (((Cur.mk l a s).pickC (6 : Int)).pickC (20 : Int))
  (nilT UInt8)).snd.pickC
  (4 : Int)).pickC
  (4 : Int)).l,
  V.i IntKind.i64
  (((Cur.frs ((Cur.mk l a s).pickV (6 : Int)).toNat
  (((Cur.mk l a s).pickC (6 : Int)).pickC (20 : Int))
  (nilT UInt8)).snd.pickC
  (4 : Int)).pickC
  (4 : Int)).a,
  V.i IntKind.u64
  (((Cur.frs ((Cur.mk l a s).pickV (6 : Int)).toNat
  (((Cur.mk l a s).pickC (6 : Int)).pickC (20 : Int))
  (nilT UInt8)).snd.pickC
  (4 : Int)).pickC
  (4 : Int)).s])])))
  (some
  (V.s
  (Cur.frs ((Cur.mk l a s).pickV (6 : Int)).toNat
  (((Cur.mk l a s).pickC (6 : Int)).pickC (20 : Int)) (nilT UInt8)).fst,
  [some
  (Blk.box
  [V.sl (Cd.int IntKind.u8)
  (((Cur.frs ((Cur.mk l a s).pickV (6 : Int)).toNat
  (((Cur.mk l a s).pickC (6 : Int)).pickC (20 : Int))
  (nilT UInt8)).snd.pickC
  (4 : Int)).pickC
  (4 : Int)).l,
  V.i IntKind.i64
  (((Cur.frs ((Cur.mk l a s).pickV (6 : Int)).toNat
  (((Cur.mk l a s).pickC (6 : Int)).pickC (20 : Int))
  (nilT UInt8)).snd.pickC
  (4 : Int)).pickC
  (4 : Int)).a,
  V.i IntKind.u64
  (((Cur.frs ((Cur.mk l a s).pickV (6 : Int)).toNat
  (((Cur.mk l a s).pickC (6 : Int)).pickC (20 : Int))
  (nilT UInt8)).snd.pickC
  (4 : Int)).pickC
  (4 : Int)).s])]))))
  (some
  (V.s
  (Cur.frs ((Cur.mk l a s).pickV (6 : Int)).toNat (((Cur.mk l a s).pickC (6 : Int)).pickC (20 : Int))
  (nilT UInt8)).fst,
  [some
  (Blk.box
  [V.sl (Cd.int IntKind.u8)
  ((Cur.frs ((Cur.mk l a s).pickV (6 : Int)).toNat
  (((Cur.mk l a s).pickC (6 : Int)).pickC (20 : Int)) (nilT UInt8)).snd.pickC
  (4 : Int)).l,
  V.i IntKind.i64
  ((Cur.frs ((Cur.mk l a s).pickV (6 : Int)).toNat
  (((Cur.mk l a s).pickC (6 : Int)).pickC (20 : Int)) (nilT UInt8)).snd.pickC
  (4 : Int)).a,
  V.i IntKind.u64
  ((Cur.frs ((Cur.mk l a s).pickV (6 : Int)).toNat
  (((Cur.mk l a s).pickC (6 : Int)).pickC (20 : Int)) (nilT UInt8)).snd.pickC
  (4 : Int)).s])]))))))))) : _) := by kernel_rfl
  rw [e]
  clear e
  obtain ⟨f1, f2⟩ := Cur.frm_facts hc
  have g0 : (Cur.mk l a s).good 900000000 := Cur.good_mono hc (by omega)
  have g1 : ((Cur.mk l a s).pickC 6).good 900000000 := by (repeat with_reducible apply Cur.pick_le); exact Cur.good_mono hc (by omega)
  have r0 := Cur.pickV_range (k := 6) g0 (by omega)
  have g2 : (((Cur.mk l a s).pickC 6).pickC 20).good 600000000 := by (repeat with_reducible apply Cur.pick_le); exact Cur.good_mono hc (by omega)
  rw [ifT_true (decide_eq_true g0), ifT_true (decide_eq_true g1)]
  by_cases q0 : ((Cur.mk l a s).pickC 6).pickV 20 = 0
  · have hf : Cur.frs 16 (((Cur.mk l a s).pickC 6).pickC 20) (nilT UInt8) = (Cur.mk l a s).frm := by unfold Cur.frm; rw [if_pos q0]
    rw [ifB_true (by rw [q0]; rfl), ifT_true (decide_eq_true ⟨⟨by omega, by omega⟩, by omega, Cur.good_mono g2 (by omega)⟩)]
    rw [hf]
    rw [ifT_true (decide_eq_true (Cur.good_mono f2 (by omega)))]
    unfold Cur.strm Cur.spo
    generalize (Cur.mk l a s).frm = x at *
    by_cases q1 : x.2.pickV 4 = 0
    · have hy := Cur.spoilt_facts x.1 [126, 0, 61, 1, 97] (Cur.pickC_good (k := 4) f2)
      have gx : (x.2.pickC 4).good 600000000 := by (repeat with_reducible apply Cur.pick_le); exact Cur.good_mono f2 (by omega)
      simp only [if_pos q1]
      rw [ifB_true (by rw [q1]; rfl), ifT_true (decide_eq_true ⟨⟨by omega, by omega⟩, by omega, gx⟩)]
      generalize (x.2.pickC 4).spoilt x.1 [126, 0, 61, 1, 97] = y at *
      have gy : y.2.good 900000000 := Cur.good_mono hy.2 (by omega)
      by_cases q2 : 300 < y.1.length
      · rw [ifB_true (decide_eq_true (by omega)), ifT_true (decide_eq_true gy), if_pos q2]
        by_cases q3 : y.2.pickV 4 = 0
        · rw [ifB_false (by rw [q3]; rfl), if_pos q3]; rfl
        · rw [ifB_true (by simpa using q3), ifT_true (by simp only [Bool.and_eq_true, decide_eq_true_eq]; omega), if_neg q3]; rfl
      · rw [ifB_false (decide_eq_false (by omega)), if_neg q2]; rfl
    · have gy : (x.2.pickC 4).good 900000000 := by (repeat with_reducible apply Cur.pick_le); exact Cur.good_mono f2 (by omega)
      simp only [if_neg q1]
      rw [ifB_false (by simpa using q1)]
      by_cases q2 : 300 < x.1.length
      · rw [ifB_true (decide_eq_true (by omega)), ifT_true (decide_eq_true gy), if_pos q2]
        by_cases q3 : (x.2.pickC 4).pickV 4 = 0
        · rw [ifB_false (by rw [q3]; rfl), if_pos q3]; rfl
        · rw [ifB_true (by simpa using q3), ifT_true (by simp only [Bool.and_eq_true, decide_eq_true_eq]; omega), if_neg q3]; rfl
      · rw [ifB_false (decide_eq_false (by omega)), if_neg q2]; rfl
  · have hf : Cur.frs ((Cur.mk l a s).pickV 6).toNat (((Cur.mk l a s).pickC 6).pickC 20) (nilT UInt8) = (Cur.mk l a s).frm := by unfold Cur.frm; rw [if_neg q0]
    rw [ifB_false (by simpa using q0), ifT_true (decide_eq_true ⟨⟨by omega, by omega⟩, by simp; omega, Cur.good_mono g2 (by omega)⟩)]
    rw [hf]
    rw [ifT_true (decide_eq_true (Cur.good_mono f2 (by omega)))]
    unfold Cur.strm Cur.spo
    generalize (Cur.mk l a s).frm = x at *
    by_cases q1 : x.2.pickV 4 = 0
    · have hy := Cur.spoilt_facts x.1 [126, 0, 61, 1, 97] (Cur.pickC_good (k := 4) f2)
      have gx : (x.2.pickC 4).good 600000000 := by (repeat with_reducible apply Cur.pick_le); exact Cur.good_mono f2 (by omega)
      simp only [if_pos q1]
      rw [ifB_true (by rw [q1]; rfl), ifT_true (decide_eq_true ⟨⟨by omega, by omega⟩, by omega, gx⟩)]
      generalize (x.2.pickC 4).spoilt x.1 [126, 0, 61, 1, 97] = y at *
      have gy : y.2.good 900000000 := Cur.good_mono hy.2 (by omega)
      by_cases q2 : 300 < y.1.length
      · rw [ifB_true (decide_eq_true (by omega)), ifT_true (decide_eq_true gy), if_pos q2]
        by_cases q3 : y.2.pickV 4 = 0
        · rw [ifB_false (by rw [q3]; rfl), if_pos q3]; rfl
        · rw [ifB_true (by simpa using q3), ifT_true (by simp only [Bool.and_eq_true, decide_eq_true_eq]; omega), if_neg q3]; rfl
      · rw [ifB_false (decide_eq_false (by omega)), if_neg q2]; rfl
    · have gy : (x.2.pickC 4).good 900000000 := by (repeat with_reducible apply Cur.pick_le); exact Cur.good_mono f2 (by omega)
      simp only [if_neg q1]
      rw [ifB_false (by simpa using q1)]
      by_cases q2 : 300 < x.1.length
      · rw [ifB_true (decide_eq_true (by omega)), ifT_true (decide_eq_true gy), if_pos q2]
        by_cases q3 : (x.2.pickC 4).pickV 4 = 0
        · rw [ifB_false (by rw [q3]; rfl), if_pos q3]; rfl
        · rw [ifB_true (by simpa using q3), ifT_true (by simp only [Bool.and_eq_true, decide_eq_true_eq]; omega), if_neg q3]; rfl
      · rw [ifB_false (decide_eq_false (by omega)), if_neg q2]; rfl
theorem cstrm : Contract Try.prog 89 (Ent.own cstrmG).F := by
  refine fun_contractN' (KnowsL.cons (enters_fn Try.func104 (by kernel_rfl) (by kernel_rfl)) cpick (KnowsL.cons (enters_fn Try.func81 (by kernel_rfl) (by kernel_rfl)) cone (KnowsL.cons (enters_fn Try.func142 (by kernel_rfl) (by kernel_rfl)) cpay (KnowsL.cons (enters_fn Try.func141 (by kernel_rfl) (by kernel_rfl)) frameOf (KnowsL.cons (enters_fn Try.func143 (by kernel_rfl) (by kernel_rfl)) cspoil KnowsL.nil))))).knows (Λ := (look [(5, frsE)])) Try.func89 (c := Try.f89.body.getD .skip) (by kernel_rfl) fun vs bs r h hv hb => ?_
  unfold Ent.F cstrmG at h
  dsimp only at h
  split at h
  · rename_i l a s
    obtain ⟨hc, h⟩ := need_some h
    exact ⟨frs_ok, (cstrm_fun l a s (of_decide_eq_true hc)).trans h⟩
  · cases h
theorem cut_round (t : List UInt8) (k : Nat) (l : List Int) (a s : Int) (r : List (List UInt8)) : roundK Try.prog (look [(89, .own cstrmG), (104, .own cpickG)]) (look [(3, cutE)]) 1 (body Try.f80 0) cutE ([.ptr 0 0, .s t, .ref 1 0 k], [some (.box [.sl (.int .u8) l, .i .i64 a, .i .u64 s]), some (.row false none .str r)]) =
  ((ifB (!t == nilT UInt8)
  (ifT (decide ((Cur.mk l a s).good (900000000 : Int)))
  (ifB (decide (IntKind.i64.wrap ((1 : Int) + (Cur.mk l a s).pickV (7 : Int)) > (↑t.length : Int)))
  (ifT (decide ((0 : Int) ≤ (↑t.length : Int)) && decide ((↑t.length : Int) ≤ (↑t.length : Int)))
  (ifT (decide ((k + (1 : Nat)) * (16 : Nat) ≤ (140737488355328 : Nat)) && decide (k + (1 : Nat) ≤ maxI))
  (ifT (decide ((0 : Int) ≤ (↑t.length : Int)) && decide ((↑t.length : Int) ≤ (↑t.length : Int)))
  (some
  (Ex.normal,
  [V.ptr (0 : Nat) (0 : Nat),
  V.s (List.take (t.length - (↑t.length : Int).toNat) (List.drop (↑t.length : Int).toNat t)),
  V.ref (1 : Nat) (0 : Nat) (k + (1 : Nat))],
  [some
  (Blk.box
  [V.sl (Cd.int IntKind.u8) ((Cur.mk l a s).pickC (7 : Int)).l,
  V.i IntKind.i64 ((Cur.mk l a s).pickC (7 : Int)).a,
  V.i IntKind.u64 ((Cur.mk l a s).pickC (7 : Int)).s]),
  some
  (Blk.row false none Cd.str
  (List.take k (List.drop (0 : Nat) r) ++
  List.take ((↑t.length : Int).toNat - (0 : Nat)) (List.drop (0 : Nat) t) ::
  nilT Cd.str.den))])))))
  (ifB ((↑k : Int) == (59 : Int))
  (ifT (decide ((0 : Int) ≤ (↑t.length : Int)) && decide ((↑t.length : Int) ≤ (↑t.length : Int)))
  (ifT (decide ((k + (1 : Nat)) * (16 : Nat) ≤ (140737488355328 : Nat)) && decide (k + (1 : Nat) ≤ maxI))
  (ifT (decide ((0 : Int) ≤ (↑t.length : Int)) && decide ((↑t.length : Int) ≤ (↑t.length : Int)))
  (some
  (Ex.normal,
  [V.ptr (0 : Nat) (0 : Nat),
  V.s (List.take (t.length - (↑t.length : Int).toNat) (List.drop (↑t.length : Int).toNat t)),
  V.ref (1 : Nat) (0 : Nat) (k + (1 : Nat))],
  [some
  (Blk.box
  [V.sl (Cd.int IntKind.u8) ((Cur.mk l a s).pickC (7 : Int)).l,
  V.i IntKind.i64 ((Cur.mk l a s).pickC (7 : Int)).a,
  V.i IntKind.u64 ((Cur.mk l a s).pickC (7 : Int)).s]),
  some
  (Blk.row false none Cd.str
  (List.take k (List.drop (0 : Nat) r) ++
  List.take ((↑t.length : Int).toNat - (0 : Nat)) (List.drop (0 : Nat) t) ::
  nilT Cd.str.den))])))))
  (ifT
  (decide ((0 : Int) ≤ IntKind.i64.wrap ((1 : Int) + (Cur.mk l a s).pickV (7 : Int))) &&
  decide (IntKind.i64.wrap ((1 : Int) + (Cur.mk l a s).pickV (7 : Int)) ≤ (↑t.length : Int)))
  (ifT (decide ((k + (1 : Nat)) * (16 : Nat) ≤ (140737488355328 : Nat)) && decide (k + (1 : Nat) ≤ maxI))
  (ifT
  (decide ((0 : Int) ≤ IntKind.i64.wrap ((1 : Int) + (Cur.mk l a s).pickV (7 : Int))) &&
  decide (IntKind.i64.wrap ((1 : Int) + (Cur.mk l a s).pickV (7 : Int)) ≤ (↑t.length : Int)))
  (some
  (Ex.normal,
  [V.ptr (0 : Nat) (0 : Nat),
  V.s
  (List.take (t.length - (IntKind.i64.wrap ((1 : Int) + (Cur.mk l a s).pickV (7 : Int))).toNat)
  (List.drop (IntKind.i64.wrap ((1 : Int) + (Cur.mk l a s).pickV (7 : Int))).toNat t)),
  V.ref (1 : Nat) (0 : Nat) (k + (1 : Nat))],
  [some
  (Blk.box
  [V.sl (Cd.int IntKind.u8) ((Cur.mk l a s).pickC (7 : Int)).l,
  V.i IntKind.i64 ((Cur.mk l a s).pickC (7 : Int)).a,
  V.i IntKind.u64 ((Cur.mk l a s).pickC (7 : Int)).s]),
  some
  (Blk.row false none Cd.str
  (List.take k (List.drop (0 : Nat) r) ++
  List.take ((IntKind.i64.wrap ((1 : Int) + (Cur.mk l a s).pickV (7 : Int))).toNat - (0 : Nat))
  (List.drop (0 : Nat) t) ::
  nilT Cd.str.den))]))))))))
  (some
  (Ex.exit (0 : Nat), [V.ref (1 : Nat) (0 : Nat) k],
  [some (Blk.box [V.sl (Cd.int IntKind.u8) l, V.i IntKind.i64 a, V.i IntKind.u64 s]),
  some (Blk.row false none Cd.str r)]))) : _) := by kernel_rfl
theorem cut_step (t : List UInt8) (k : Nat) (l : List Int) (a s : Int) (r : List (List UInt8)) (hk : k = r.length) (ht : t ≠ []) (hl : t.length ≤ 10000) (hr : r.length ≤ 100000) (hc : (Cur.mk l a s).good 900000000) :
    roundK Try.prog (look [(89, .own cstrmG), (104, .own cpickG)]) (look [(3, cutE)]) 1 (body Try.f80 0) cutE ([.ptr 0 0, .s t, .ref 1 0 k], [some (.box [.sl (.int .u8) l, .i .i64 a, .i .u64 s]), some (.row false none .str r)]) = some (.normal, ([.ptr 0 0, .s (t.drop ((Cur.mk l a s).cutN t r.length)), .ref 1 0 (r ++ [t.take ((Cur.mk l a s).cutN t r.length)]).length], [some (.box [.sl (.int .u8) ((Cur.mk l a s).pickC 7).l, .i .i64 ((Cur.mk l a s).pickC 7).a, .i .u64 ((Cur.mk l a s).pickC 7).s]), some (.row false none .str (r ++ [t.take ((Cur.mk l a s).cutN t r.length)]))])) ∧ 1 ≤ (Cur.mk l a s).cutN t r.length := by
  have hM : maxI = 9223372036854775807 := rfl
  have hpos : 0 < t.length := List.length_pos_iff.2 ht
  rw [cut_round]
  subst hk
  have r0 := Cur.pickV_range (k := 7) hc (by omega)
  rw [ifB_true (by simpa using ht), ifT_true (decide_eq_true hc)]
  generalize (Cur.mk l a s) = c at *
  unfold Cur.cutN
  have w1 : IntKind.i64.wrap (1 + c.pickV 7) = ((1 + c.pickV 7).toNat : Int) := by rw [wrap_id (by omega) (by omega)]; omega
  obtain ⟨p, hp⟩ := Int.eq_ofNat_of_zero_le r0.1
  have e3 : (1 + c.pickV 7).toNat = 1 + p := by omega
  rw [w1, e3]
  have cd1 : ((t.length : Int) < 1 + c.pickV 7) ↔ t.length < 1 + p := by omega
  simp only [cd1, Int.toNat_natCast, Nat.sub_zero, List.drop_zero, List.take_length, nilT_eq, List.length_append, List.length_singleton, List.length_cons, List.length_nil]
  have full : List.take (t.length - t.length) (List.drop t.length t) = List.drop t.length t := List.take_of_length_le (by simp)
  have part : List.take (t.length - (1 + p)) (List.drop (1 + p) t) = List.drop (1 + p) t := List.take_of_length_le (by simp)
  simp only [full, part]
  by_cases q1 : t.length < 1 + p
  · rw [ifB_true (decide_eq_true (by omega)), if_pos (.inl q1)]
    refine ⟨?_, by omega⟩
    repeat rw [ifT_true (by simp only [Bool.and_eq_true, decide_eq_true_eq]; omega)]
    simp
  rw [ifB_false (decide_eq_false (by omega))]
  by_cases q2 : r.length = 59
  · rw [ifB_true (by rw [q2]; rfl), if_pos (.inr q2)]
    refine ⟨?_, by omega⟩
    repeat rw [ifT_true (by simp only [Bool.and_eq_true, decide_eq_true_eq]; omega)]
    simp
  · rw [ifB_false (beq_false_of_ne (by omega)), if_neg (by omega)]
    refine ⟨?_, by omega⟩
    repeat rw [ifT_true (by simp only [Bool.and_eq_true, decide_eq_true_eq]; omega)]
theorem cut_loop : ∀ (f : Nat) (c : Cur) (t : List UInt8) (r : List (List UInt8)), t.length ≤ f → f ≤ 10000 → r.length + f ≤ 50000 → c.good (800000000 - 2 * f) →
    Runs Try.prog (look [(89, .own cstrmG), (104, .own cpickG)]) (look [(3, cutE)]) 1 (body Try.f80 0) cutE ([.ptr 0 0, .s t, .ref 1 0 r.length], [some (.box [.sl (.int .u8) c.l, .i .i64 c.a, .i .u64 c.s]), some (.row false none .str r)]) (.exit 0) ([.ref 1 0 (c.cuts f t r).1.length], [some (.box [.sl (.int .u8) (c.cuts f t r).2.l, .i .i64 (c.cuts f t r).2.a, .i .u64 (c.cuts f t r).2.s]), some (.row false none .str (c.cuts f t r).1)])
  | 0, c, t, r, hf, hm, hr, hc => by
    obtain rfl : t = [] := List.length_eq_zero_iff.1 (by omega)
    have h1 := cut_round [] r.length c.l c.a c.s r
    rw [ifB_false (by rfl)] at h1
    exact .stop _ _ _ h1 (by simp)
  | f + 1, c, t, r, hf, hm, hr, hc => by
    by_cases ht : t = []
    · subst ht
      have h1 := cut_round [] r.length c.l c.a c.s r
      rw [ifB_false (by rfl)] at h1
      exact .stop _ _ _ h1 (by simp)
    · obtain ⟨hs, hk⟩ := cut_step t r.length c.l c.a c.s r rfl ht (by omega) (by omega) (Cur.good_mono hc (by omega))
      have ih := cut_loop f (c.pickC 7) (t.drop (c.cutN t r.length)) (r ++ [t.take (c.cutN t r.length)]) (by rw [List.length_drop]; have : 1 ≤ c.cutN t r.length := hk; omega) (by omega) (by rw [List.length_append, List.length_singleton]; omega) (by (repeat with_reducible apply Cur.pick_le); exact Cur.good_mono hc (by omega))
      have e : c.cuts (f + 1) t r = Cur.cuts f (c.pickC 7) (t.drop (c.cutN t r.length)) (r ++ [t.take (c.cutN t r.length)]) := by rw [Cur.cuts, if_neg ht]
      rw [e]
      exact .step _ _ _ _ hs ih
theorem cut_ok : LoopsOk Try.prog (look [(89, .own cstrmG), (104, .own cpickG)]) (look [(3, cutE)]) 1 (Try.f80.body.getD .skip) := by
  refine loopsOk_one (a := body Try.f80 0) (by kernel_rfl) fun d e d' h => ?_
  unfold cutE at h
  dsimp only at h
  split at h
  · rename_i t k l a s r
    obtain ⟨hc, h'⟩ := need_some h
    obtain ⟨rfl, h1, h2, h3⟩ := of_decide_eq_true hc
    have h6 := leaf_some h'
    obtain ⟨rfl, rfl⟩ := Prod.mk.inj h6
    exact cut_loop t.length (Cur.mk l a s) t r (Nat.le_refl _) h1 (by omega) h3
  · cases h
theorem cpcs_fun (l : List Int) (a s : Int) (hc : (Cur.mk l a s).good 400000000) : funN Try.prog (look [(89, .own cstrmG), (104, .own cpickG)]) (look [(3, cutE)]) Try.f80 [.ptr 0 0] [.box [.sl (.int .u8) l, .i .i64 a, .i .u64 s]] = (.leaf (.ref 1 0 (Cur.mk l a s).pcs.1.length, [some (.box [.sl (.int .u8) (Cur.mk l a s).pcs.2.l, .i .i64 (Cur.mk l a s).pcs.2.a, .i .u64 (Cur.mk l a s).pcs.2.s]), some (.row false none .str (Cur.mk l a s).pcs.1)]) : Br (V × List (Option Blk))).run := by
  have e : funN Try.prog (look [(89, .own cstrmG), (104, .own cpickG)]) (look [(3, cutE)]) Try.f80 [.ptr 0 0] [.box [.sl (.int .u8) l, .i .i64 a, .i .u64 s]] = ((ifT (decide ((Cur.mk l a s).good (500000000 : Int)))
  (ifT
  (decide
  ((0 : Nat) = (0 : Nat) ∧
  (Cur.mk l a s).strm.fst.length ≤ (10000 : Nat) ∧
  (0 : Nat) ≤ (10000 : Nat) ∧
  (Cur.mk l a s).strm.snd.good ((800000000 : Int) - (2 : Int) * (↑(Cur.mk l a s).strm.fst.length : Int))))
  (some
  (V.ref (1 : Nat) (0 : Nat)
  (Cur.cuts (Cur.mk l a s).strm.fst.length (Cur.mk l a s).strm.snd (Cur.mk l a s).strm.fst
  (nilT Cd.str.den)).fst.length,
  [some
  (Blk.box
  [V.sl (Cd.int IntKind.u8)
  (Cur.cuts (Cur.mk l a s).strm.fst.length (Cur.mk l a s).strm.snd (Cur.mk l a s).strm.fst
  (nilT Cd.str.den)).snd.l,
  V.i IntKind.i64
  (Cur.cuts (Cur.mk l a s).strm.fst.length (Cur.mk l a s).strm.snd (Cur.mk l a s).strm.fst
  (nilT Cd.str.den)).snd.a,
  V.i IntKind.u64
  (Cur.cuts (Cur.mk l a s).strm.fst.length (Cur.mk l a s).strm.snd (Cur.mk l a s).strm.fst
  (nilT Cd.str.den)).snd.s]),
  some
  (Blk.row false none Cd.str
  (Cur.cuts (Cur.mk l a s).strm.fst.length (Cur.mk l a s).strm.snd (Cur.mk l a s).strm.fst
  (nilT Cd.str.den)).fst)])))) : _) := by kernel_rfl
  rw [e]
  clear e
  obtain ⟨f1, f2⟩ := Cur.strm_facts hc
  rw [ifT_true (decide_eq_true (Cur.good_mono hc (by omega))), ifT_true (decide_eq_true ⟨by rfl, by omega, by simp, Cur.good_mono f2 (by omega)⟩)]
  rfl
theorem cpcs : Contract Try.prog 80 (Ent.own cpcsG).F := by
  refine fun_contractN' (KnowsL.cons (enters_fn Try.func89 (by kernel_rfl) (by kernel_rfl)) cstrm (KnowsL.cons (enters_fn Try.func104 (by kernel_rfl) (by kernel_rfl)) cpick KnowsL.nil)).knows (Λ := (look [(3, cutE)])) Try.func80 (c := Try.f80.body.getD .skip) (by kernel_rfl) fun vs bs r h hv hb => ?_
  unfold Ent.F cpcsG at h
  dsimp only at h
  split at h
  · rename_i l a s
    obtain ⟨hc, h⟩ := need_some h
    exact ⟨cut_ok, (cpcs_fun l a s (of_decide_eq_true hc)).trans h⟩
  · cases h
end Go.Proofs.Ytjghbihlgfjebaa.Den
