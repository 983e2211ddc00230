/- What functions of the program do, by the machine: Sess2. -/
import Derived.Test.YtjghbihlgfjebaaDSess
import Derived.KernelRfl
import Derived.Test.YtjghbihlgfjebaaRows
namespace Go.Proofs.Ytjghbihlgfjebaa.Den
open Go.Proofs
set_option maxRecDepth 100000
/-- The session drawn. -/
def dses (l : List Int) : Ses := (Cur.mk l 0 0).sess.1
def drawGoodG : List V → List Blk → Br (V × List (Option Blk))
  | [.sl (.int .u8) l], [] => .need (decide ((Cur.mk l 0 0).good 0)) (.leaf (.agg [.i .i64 (dses l).e, .ref 0 0 (dses l).it.length, .i .i64 (dses l).b, .ref 1 0 (dses l).ha.length, .ref 2 0 (dses l).w.length, .ref 3 0 (dses l).a.length], [some (.row false none .str (dses l).it), some (.row false none .str (dses l).ha), some (.row false none (.pair (.int .i64) (.pair (.int .i64) (.pair .str .unit))) (dses l).w), some (.row false none (.pair (.int .i64) (.pair (.int .i64) .unit)) (dses l).a)]))
  | _, _ => .no
def drawCalmG : List V → List Blk → Br (V × List (Option Blk))
  | [.sl (.int .u8) l], [] => .need (decide ((Cur.mk l 0 0).good 0)) (.leaf (.agg [.i .i64 (dses l).e, .ref 0 0 (dses l).it.length, .i .i64 (dses l).b, .ref 1 0 (dses l).ha.length, .ref 2 0 (dses l).w.length, .ref 3 0 (dses l).a.length], [some (.row false none .str (dses l).it), some (.row false none .str (dses l).ha), some (.row false none (.pair (.int .i64) (.pair (.int .i64) (.pair .str .unit))) (dses l).w), some (.row false none (.pair (.int .i64) (.pair (.int .i64) .unit)) (dses l).a)]))
  | _, _ => .no
/-- The step drawn. -/
def dsk (l : List Int) : Int := (Cur.mk l 0 0).sess.2.pickV 9
def dsn (l : List Int) : Int := ((Cur.mk l 0 0).sess.2.pickC 9).pickV 6
def dst (l : List Int) : List UInt8 := ([[], [110, 101, 119]] : List (List UInt8)).getD ((((Cur.mk l 0 0).sess.2.pickC 9).pickC 6).pickV 2).toNat []
def drawStepG : List V → List Blk → Br (V × List (Option Blk))
  | [.sl (.int .u8) l], [] => .need (decide ((Cur.mk l 0 0).good 0)) (.leaf (.tup [.agg [.i .i64 (dses l).e, .ref 0 0 (dses l).it.length, .i .i64 (dses l).b, .ref 1 0 (dses l).ha.length, .ref 2 0 (dses l).w.length, .ref 3 0 (dses l).a.length], .agg [.i .i64 (dsk l), .i .i64 (dsn l), .s (dst l)]], [some (.row false none .str (dses l).it), some (.row false none .str (dses l).ha), some (.row false none (.pair (.int .i64) (.pair (.int .i64) (.pair .str .unit))) (dses l).w), some (.row false none (.pair (.int .i64) (.pair (.int .i64) .unit)) (dses l).a)]))
  | _, _ => .no
/-- The first text drawn. -/
def dnew (l : List Int) : List UInt8 := ([[], [97], [116, 119, 101, 110, 116, 121, 32, 98, 121, 116, 101, 115, 32, 111, 102, 32, 116, 101, 120, 116], [116, 119, 101, 110, 116, 121, 45, 111, 110, 101, 32, 98, 121, 116, 101, 115, 44, 32, 111, 110, 101]] : List (List UInt8)).getD ((Cur.mk l 0 0).pickV 4).toNat []
def drawNewG : List V → List Blk → Br (V × List (Option Blk))
  | [.sl (.int .u8) l], [] => .need (decide ((Cur.mk l 0 0).good 0)) (.leaf (.s (dnew l), []))
  | _, _ => .no
theorem Cur.sess_good {c : Cur} (h : c.good 0) : c.sess.2.good 700000000 := by
  have hs := Cur.steps_good h
  have g1 : (c.steps.2.pickC 40).good 700000000 := by (repeat with_reducible apply Cur.pick_le); exact Cur.good_mono hs (by omega)
  have g2 : ((c.steps.2.pickC 40).pickC 3).good 700000000 := by (repeat with_reducible apply Cur.pick_le); exact Cur.good_mono hs (by omega)
  unfold Cur.sess
  split
  · exact g1
  · split
    · exact g1
    · split
      · exact g2
      · exact g1
theorem drawGood_fun (l : List Int) (hc : (Cur.mk l 0 0).good 0) : funN Try.prog (look [(115, .own csessG)]) (look []) Try.f119 [.sl (.int .u8) l] [] = (.leaf (.agg [.i .i64 (dses l).e, .ref 0 0 (dses l).it.length, .i .i64 (dses l).b, .ref 1 0 (dses l).ha.length, .ref 2 0 (dses l).w.length, .ref 3 0 (dses l).a.length], [some (.row false none .str (dses l).it), some (.row false none .str (dses l).ha), some (.row false none (.pair (.int .i64) (.pair (.int .i64) (.pair .str .unit))) (dses l).w), some (.row false none (.pair (.int .i64) (.pair (.int .i64) .unit)) (dses l).a)]) : Br (V × List (Option Blk))).run := by
  have e : funN Try.prog (look [(115, .own csessG)]) (look []) Try.f119 [.sl (.int .u8) l] [] =
    ((ifT (decide ((Cur.mk l (0 : Int) (0 : Int)).good (600000000 : Int)))
  (some
  (V.agg
  [V.i IntKind.i64 (Cur.mk l (0 : Int) (0 : Int)).sess.fst.e,
  V.ref (0 : Nat) (0 : Nat) (Cur.mk l (0 : Int) (0 : Int)).sess.fst.it.length,
  V.i IntKind.i64 (Cur.mk l (0 : Int) (0 : Int)).sess.fst.b,
  V.ref (1 : Nat) (0 : Nat) (Cur.mk l (0 : Int) (0 : Int)).sess.fst.ha.length,
  V.ref (2 : Nat) (0 : Nat) (Cur.mk l (0 : Int) (0 : Int)).sess.fst.w.length,
  V.ref (3 : Nat) (0 : Nat) (Cur.mk l (0 : Int) (0 : Int)).sess.fst.a.length],
  [some (Blk.row false none Cd.str (Cur.mk l (0 : Int) (0 : Int)).sess.fst.it),
  some (Blk.row false none Cd.str (Cur.mk l (0 : Int) (0 : Int)).sess.fst.ha),
  some
  (Blk.row false none ((Cd.int IntKind.i64).pair ((Cd.int IntKind.i64).pair (Cd.str.pair Cd.unit)))
  (Cur.mk l (0 : Int) (0 : Int)).sess.fst.w),
  some
  (Blk.row false none ((Cd.int IntKind.i64).pair ((Cd.int IntKind.i64).pair Cd.unit))
  (Cur.mk l (0 : Int) (0 : Int)).sess.fst.a)]))) : _) := by kernel_rfl
  rw [e]
  clear e
  rw [ifT_true (decide_eq_true (Cur.good_mono hc (by omega)))]
  rfl
theorem drawGood : Contract Try.prog 119 (Ent.rd1 drawGoodG).F := by
  refine fun_contractN' (KnowsL.cons (enters_fn Try.func115 (by kernel_rfl) (by kernel_rfl)) csess KnowsL.nil).knows (Λ := look []) Try.func119 (c := Try.f119.body.getD .skip) (by kernel_rfl) fun vs bs r h hv hb => ?_
  unfold Ent.F drawGoodG at h
  dsimp only at h
  split at h
  · rename_i l
    obtain ⟨hc, h⟩ := need_some h
    exact ⟨loopsOk_nil _, (drawGood_fun l (of_decide_eq_true hc)).trans h⟩
  · cases h
theorem drawCalm_fun (l : List Int) (hc : (Cur.mk l 0 0).good 0) : funN Try.prog (look [(119, .rd1 drawGoodG)]) (look []) Try.f44 [.sl (.int .u8) l] [] = (.leaf (.agg [.i .i64 (dses l).e, .ref 0 0 (dses l).it.length, .i .i64 (dses l).b, .ref 1 0 (dses l).ha.length, .ref 2 0 (dses l).w.length, .ref 3 0 (dses l).a.length], [some (.row false none .str (dses l).it), some (.row false none .str (dses l).ha), some (.row false none (.pair (.int .i64) (.pair (.int .i64) (.pair .str .unit))) (dses l).w), some (.row false none (.pair (.int .i64) (.pair (.int .i64) .unit)) (dses l).a)]) : Br (V × List (Option Blk))).run := by
  have e : funN Try.prog (look [(119, .rd1 drawGoodG)]) (look []) Try.f44 [.sl (.int .u8) l] [] =
    ((ifT (decide ((Cur.mk l (0 : Int) (0 : Int)).good (0 : Int)))
  (some
  (V.agg
  [V.i IntKind.i64 (dses l).e, V.ref (0 : Nat) (0 : Nat) (dses l).it.length, V.i IntKind.i64 (dses l).b,
  V.ref (1 : Nat) (0 : Nat) (dses l).ha.length, V.ref (2 : Nat) (0 : Nat) (dses l).w.length,
  V.ref (3 : Nat) (0 : Nat) (dses l).a.length],
  [some (Blk.row false none Cd.str (dses l).it), some (Blk.row false none Cd.str (dses l).ha),
  some
  (Blk.row false none ((Cd.int IntKind.i64).pair ((Cd.int IntKind.i64).pair (Cd.str.pair Cd.unit))) (dses l).w),
  some (Blk.row false none ((Cd.int IntKind.i64).pair ((Cd.int IntKind.i64).pair Cd.unit)) (dses l).a)]))) : _) := by kernel_rfl
  rw [e]
  clear e
  rw [ifT_true (decide_eq_true hc)]
  rfl
theorem drawCalm : Contract Try.prog 44 (Ent.rd1 drawCalmG).F := by
  refine fun_contractN' (KnowsL.cons (enters_fn Try.func119 (by kernel_rfl) (by kernel_rfl)) drawGood KnowsL.nil).knows (Λ := look []) Try.func44 (c := Try.f44.body.getD .skip) (by kernel_rfl) fun vs bs r h hv hb => ?_
  unfold Ent.F drawCalmG at h
  dsimp only at h
  split at h
  · rename_i l
    obtain ⟨hc, h⟩ := need_some h
    exact ⟨loopsOk_nil _, (drawCalm_fun l (of_decide_eq_true hc)).trans h⟩
  · cases h
theorem drawStep_fun (l : List Int) (hc : (Cur.mk l 0 0).good 0) : funN Try.prog (look [(115, .own csessG), (104, .own cpickG), (91, .own cofG)]) (look []) Try.f40 [.sl (.int .u8) l] [] = (.leaf (.tup [.agg [.i .i64 (dses l).e, .ref 0 0 (dses l).it.length, .i .i64 (dses l).b, .ref 1 0 (dses l).ha.length, .ref 2 0 (dses l).w.length, .ref 3 0 (dses l).a.length], .agg [.i .i64 (dsk l), .i .i64 (dsn l), .s (dst l)]], [some (.row false none .str (dses l).it), some (.row false none .str (dses l).ha), some (.row false none (.pair (.int .i64) (.pair (.int .i64) (.pair .str .unit))) (dses l).w), some (.row false none (.pair (.int .i64) (.pair (.int .i64) .unit)) (dses l).a)]) : Br (V × List (Option Blk))).run := by
  have e : funN Try.prog (look [(115, .own csessG), (104, .own cpickG), (91, .own cofG)]) (look []) Try.f40 [.sl (.int .u8) l] [] =
    ((ifT (decide ((Cur.mk l (0 : Int) (0 : Int)).good (600000000 : Int)))
  (ifT (decide ((Cur.mk l (0 : Int) (0 : Int)).sess.snd.good (900000000 : Int)))
  (ifT (decide (((Cur.mk l (0 : Int) (0 : Int)).sess.snd.pickC (9 : Int)).good (900000000 : Int)))
  (ifT
  (decide
  ((((Cur.mk l (0 : Int) (0 : Int)).sess.snd.pickC (9 : Int)).pickC (6 : Int)).good (900000000 : Int) ∧
  (1 : Nat) ≤ (2 : Nat) ∧ (2 : Nat) ≤ (2 : Nat)))
  (some
  (V.tup
  [V.agg
  [V.i IntKind.i64 (Cur.mk l (0 : Int) (0 : Int)).sess.fst.e,
  V.ref (0 : Nat) (0 : Nat) (Cur.mk l (0 : Int) (0 : Int)).sess.fst.it.length,
  V.i IntKind.i64 (Cur.mk l (0 : Int) (0 : Int)).sess.fst.b,
  V.ref (1 : Nat) (0 : Nat) (Cur.mk l (0 : Int) (0 : Int)).sess.fst.ha.length,
  V.ref (2 : Nat) (0 : Nat) (Cur.mk l (0 : Int) (0 : Int)).sess.fst.w.length,
  V.ref (3 : Nat) (0 : Nat) (Cur.mk l (0 : Int) (0 : Int)).sess.fst.a.length],
  V.agg
  [V.i IntKind.i64 ((Cur.mk l (0 : Int) (0 : Int)).sess.snd.pickV (9 : Int)),
  V.i IntKind.i64 (((Cur.mk l (0 : Int) (0 : Int)).sess.snd.pickC (9 : Int)).pickV (6 : Int)),
  V.s
  ((nilT UInt8 :: [(110 : UInt8), (101 : UInt8), (119 : UInt8)] :: nilT Cd.str.den).getD
  ((0 : Nat) +
  ((((Cur.mk l (0 : Int) (0 : Int)).sess.snd.pickC (9 : Int)).pickC (6 : Int)).pickV
  (↑(2 : Nat) : Int)).toNat)
  (nilT UInt8))]],
  [some (Blk.row false none Cd.str (Cur.mk l (0 : Int) (0 : Int)).sess.fst.it),
  some (Blk.row false none Cd.str (Cur.mk l (0 : Int) (0 : Int)).sess.fst.ha),
  some
  (Blk.row false none ((Cd.int IntKind.i64).pair ((Cd.int IntKind.i64).pair (Cd.str.pair Cd.unit)))
  (Cur.mk l (0 : Int) (0 : Int)).sess.fst.w),
  some
  (Blk.row false none ((Cd.int IntKind.i64).pair ((Cd.int IntKind.i64).pair Cd.unit))
  (Cur.mk l (0 : Int) (0 : Int)).sess.fst.a)])))))) : _) := by kernel_rfl
  rw [e]
  clear e
  have hs : (Cur.mk l 0 0).sess.2.good 700000000 := Cur.sess_good hc
  have g1 : ((Cur.mk l 0 0).sess.2.pickC 9).good 900000000 := by (repeat with_reducible apply Cur.pick_le); exact Cur.good_mono hs (by omega)
  have g2 : (((Cur.mk l 0 0).sess.2.pickC 9).pickC 6).good 900000000 := by (repeat with_reducible apply Cur.pick_le); exact Cur.good_mono hs (by omega)
  rw [ifT_true (decide_eq_true (Cur.good_mono hc (by omega))), ifT_true (decide_eq_true (Cur.good_mono hs (by omega))), ifT_true (decide_eq_true g1), ifT_true (decide_eq_true ⟨g2, by omega, by omega⟩)]
  simp only [Nat.zero_add]
  rfl
theorem drawStep : Contract Try.prog 40 (Ent.rd1 drawStepG).F := by
  refine fun_contractN' (KnowsL.cons (enters_fn Try.func115 (by kernel_rfl) (by kernel_rfl)) csess (KnowsL.cons (enters_fn Try.func104 (by kernel_rfl) (by kernel_rfl)) cpick (KnowsL.cons (enters_fn Try.func91 (by kernel_rfl) (by kernel_rfl)) cof KnowsL.nil))).knows (Λ := look []) Try.func40 (c := Try.f40.body.getD .skip) (by kernel_rfl) fun vs bs r h hv hb => ?_
  unfold Ent.F drawStepG at h
  dsimp only at h
  split at h
  · rename_i l
    obtain ⟨hc, h⟩ := need_some h
    exact ⟨loopsOk_nil _, (drawStep_fun l (of_decide_eq_true hc)).trans h⟩
  · cases h
theorem drawNew_fun (l : List Int) (hc : (Cur.mk l 0 0).good 0) : funN Try.prog (look [(91, .own cofG)]) (look []) Try.f45 [.sl (.int .u8) l] [] = (.leaf (.s (dnew l), []) : Br (V × List (Option Blk))).run := by
  have e : funN Try.prog (look [(91, .own cofG)]) (look []) Try.f45 [.sl (.int .u8) l] [] =
    ((ifT (decide ((Cur.mk l (0 : Int) (0 : Int)).good (900000000 : Int) ∧ (1 : Nat) ≤ (4 : Nat) ∧ (4 : Nat) ≤ (4 : Nat)))
  (some
  (V.s
  ((nilT UInt8 ::
  [(97 : UInt8)] ::
  [(116 : UInt8), (119 : UInt8), (101 : UInt8), (110 : UInt8), (116 : UInt8), (121 : UInt8), (32 : UInt8),
  (98 : UInt8), (121 : UInt8), (116 : UInt8), (101 : UInt8), (115 : UInt8), (32 : UInt8),
  (111 : UInt8), (102 : UInt8), (32 : UInt8), (116 : UInt8), (101 : UInt8), (120 : UInt8),
  (116 : UInt8)] ::
  [(116 : UInt8), (119 : UInt8), (101 : UInt8), (110 : UInt8), (116 : UInt8), (121 : UInt8),
  (45 : UInt8), (111 : UInt8), (110 : UInt8), (101 : UInt8), (32 : UInt8), (98 : UInt8),
  (121 : UInt8), (116 : UInt8), (101 : UInt8), (115 : UInt8), (44 : UInt8), (32 : UInt8),
  (111 : UInt8), (110 : UInt8), (101 : UInt8)] ::
  nilT Cd.str.den).getD
  ((0 : Nat) + ((Cur.mk l (0 : Int) (0 : Int)).pickV (↑(4 : Nat) : Int)).toNat) (nilT UInt8)),
  []))) : _) := by kernel_rfl
  rw [e]
  clear e
  rw [ifT_true (decide_eq_true ⟨Cur.good_mono hc (by omega), by omega, by omega⟩)]
  simp only [Nat.zero_add]
  rfl
theorem drawNew : Contract Try.prog 45 (Ent.rd1 drawNewG).F := by
  refine fun_contractN' (KnowsL.cons (enters_fn Try.func91 (by kernel_rfl) (by kernel_rfl)) cof KnowsL.nil).knows (Λ := look []) Try.func45 (c := Try.f45.body.getD .skip) (by kernel_rfl) fun vs bs r h hv hb => ?_
  unfold Ent.F drawNewG at h
  dsimp only at h
  split at h
  · rename_i l
    obtain ⟨hc, h⟩ := need_some h
    exact ⟨loopsOk_nil _, (drawNew_fun l (of_decide_eq_true hc)).trans h⟩
  · cases h
end Go.Proofs.Ytjghbihlgfjebaa.Den
