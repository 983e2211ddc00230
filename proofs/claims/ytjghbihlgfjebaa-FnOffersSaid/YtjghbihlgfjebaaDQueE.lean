/- What functions of the program do, by the machine: QueE. -/
import Derived.Test.YtjghbihlgfjebaaDQueD
import Derived.KernelRfl
import Derived.Test.YtjghbihlgfjebaaRows
namespace Go.Proofs.Ytjghbihlgfjebaa.Den
open Go.Proofs
set_option maxRecDepth 100000
/-- A drawn queue, and a number. -/
def dque (l : List Int) : Que := (Cur.mk l 0 0).que.1
def dno (l : List Int) : Int := IntKind.i64.wrap ((Cur.mk l 0 0).que.2.pickV (IntKind.i64.wrap ((dque l).n.tmod 1000 + 3)) - 1)
def dgqG : List V → List Blk → Br (V × List (Option Blk))
  | [.sl (.int .u8) l], [] => .need (decide ((Cur.mk l 0 0).good 0)) (.leaf (.agg [.i .i64 (dque l).c, .i .i64 (dque l).r, .i .i64 (dque l).n, .ref 0 0 (dque l).w.length, .ref 1 0 (dque l).h.length, .ref 2 0 (dque l).d.length], [some (.row false none (.int .i64) (dque l).w), some (.row false none (.int .i64) (dque l).h), some (.row false none (.int .i64) (dque l).d)]))
  | _, _ => .no
def dwhereG : List V → List Blk → Br (V × List (Option Blk))
  | [.sl (.int .u8) l], [] => .need (decide ((Cur.mk l 0 0).good 0)) (.leaf (.tup [.agg [.i .i64 (dque l).c, .i .i64 (dque l).r, .i .i64 (dque l).n, .ref 0 0 (dque l).w.length, .ref 1 0 (dque l).h.length, .ref 2 0 (dque l).d.length], .i .i64 (dno l)], [some (.row false none (.int .i64) (dque l).w), some (.row false none (.int .i64) (dque l).h), some (.row false none (.int .i64) (dque l).d)]))
  | _, _ => .no
theorem Cur.que_good {c : Cur} {m : Int} (h : c.good m) : c.que.2.good (m + 600) := by
  have h1 := Cur.offs_good h
  unfold Cur.que Cur.queC
  repeat' split
  all_goals (dsimp only; (repeat with_reducible apply Cur.pick_le); exact Cur.good_mono h1 (by omega))
theorem dgq_fun (l : List Int) (hc : (Cur.mk l 0 0).good 0) : funN Try.prog (look [(122, .own cqueG)]) (look []) Try.f120 [.sl (.int .u8) l] [] = (.leaf (.agg [.i .i64 (dque l).c, .i .i64 (dque l).r, .i .i64 (dque l).n, .ref 0 0 (dque l).w.length, .ref 1 0 (dque l).h.length, .ref 2 0 (dque l).d.length], [some (.row false none (.int .i64) (dque l).w), some (.row false none (.int .i64) (dque l).h), some (.row false none (.int .i64) (dque l).d)]) : Br (V × List (Option Blk))).run := by
  have e : funN Try.prog (look [(122, .own cqueG)]) (look []) Try.f120 [.sl (.int .u8) l] [] = ((ifT (decide ((Cur.mk l (0 : Int) (0 : Int)).good (600000000 : Int)))
  (some
  (V.agg
  [V.i IntKind.i64 (Cur.mk l (0 : Int) (0 : Int)).que.fst.c,
  V.i IntKind.i64 (Cur.mk l (0 : Int) (0 : Int)).que.fst.r,
  V.i IntKind.i64 (Cur.mk l (0 : Int) (0 : Int)).que.fst.n,
  V.ref (0 : Nat) (0 : Nat) (Cur.mk l (0 : Int) (0 : Int)).que.fst.w.length,
  V.ref (1 : Nat) (0 : Nat) (Cur.mk l (0 : Int) (0 : Int)).que.fst.h.length,
  V.ref (2 : Nat) (0 : Nat) (Cur.mk l (0 : Int) (0 : Int)).que.fst.d.length],
  [some (Blk.row false none (Cd.int IntKind.i64) (Cur.mk l (0 : Int) (0 : Int)).que.fst.w),
  some (Blk.row false none (Cd.int IntKind.i64) (Cur.mk l (0 : Int) (0 : Int)).que.fst.h),
  some (Blk.row false none (Cd.int IntKind.i64) (Cur.mk l (0 : Int) (0 : Int)).que.fst.d)]))) : _) := by kernel_rfl
  rw [e]
  clear e
  rw [ifT_true (decide_eq_true (Cur.good_mono hc (by omega)))]
  rfl
theorem dgq : Contract Try.prog 120 (Ent.rd1 dgqG).F := by
  refine fun_contractN' (KnowsL.cons (enters_fn Try.func122 (by kernel_rfl) (by kernel_rfl)) cque KnowsL.nil).knows (Λ := look []) Try.func120 (c := Try.f120.body.getD .skip) (by kernel_rfl) fun vs bs r h hv hb => ?_
  unfold Ent.F dgqG at h
  dsimp only at h
  split at h
  · rename_i l
    obtain ⟨hc, h⟩ := need_some h
    exact ⟨loopsOk_nil _, (dgq_fun l (of_decide_eq_true hc)).trans h⟩
  · cases h
theorem doffer_fun (l : List Int) (hc : (Cur.mk l 0 0).good 0) : funN Try.prog (look [(120, .rd1 dgqG)]) (look []) Try.f48 [.sl (.int .u8) l] [] = (.leaf (.agg [.i .i64 (dque l).c, .i .i64 (dque l).r, .i .i64 (dque l).n, .ref 0 0 (dque l).w.length, .ref 1 0 (dque l).h.length, .ref 2 0 (dque l).d.length], [some (.row false none (.int .i64) (dque l).w), some (.row false none (.int .i64) (dque l).h), some (.row false none (.int .i64) (dque l).d)]) : Br (V × List (Option Blk))).run := by
  have e : funN Try.prog (look [(120, .rd1 dgqG)]) (look []) Try.f48 [.sl (.int .u8) l] [] = ((ifT (decide ((Cur.mk l (0 : Int) (0 : Int)).good (0 : Int)))
  (some
  (V.agg
  [V.i IntKind.i64 (dque l).c, V.i IntKind.i64 (dque l).r, V.i IntKind.i64 (dque l).n,
  V.ref (0 : Nat) (0 : Nat) (dque l).w.length, V.ref (1 : Nat) (0 : Nat) (dque l).h.length,
  V.ref (2 : Nat) (0 : Nat) (dque l).d.length],
  [some (Blk.row false none (Cd.int IntKind.i64) (dque l).w),
  some (Blk.row false none (Cd.int IntKind.i64) (dque l).h),
  some (Blk.row false none (Cd.int IntKind.i64) (dque l).d)]))) : _) := by kernel_rfl
  rw [e]
  clear e
  rw [ifT_true (decide_eq_true hc)]
  rfl
theorem doffer : Contract Try.prog 48 (Ent.rd1 dgqG).F := by
  refine fun_contractN' (KnowsL.cons (enters_fn Try.func120 (by kernel_rfl) (by kernel_rfl)) dgq KnowsL.nil).knows (Λ := look []) Try.func48 (c := Try.f48.body.getD .skip) (by kernel_rfl) fun vs bs r h hv hb => ?_
  unfold Ent.F dgqG at h
  dsimp only at h
  split at h
  · rename_i l
    obtain ⟨hc, h⟩ := need_some h
    exact ⟨loopsOk_nil _, (doffer_fun l (of_decide_eq_true hc)).trans h⟩
  · cases h
theorem dhand_fun (l : List Int) (hc : (Cur.mk l 0 0).good 0) : funN Try.prog (look [(120, .rd1 dgqG)]) (look []) Try.f52 [.sl (.int .u8) l] [] = (.leaf (.agg [.i .i64 (dque l).c, .i .i64 (dque l).r, .i .i64 (dque l).n, .ref 0 0 (dque l).w.length, .ref 1 0 (dque l).h.length, .ref 2 0 (dque l).d.length], [some (.row false none (.int .i64) (dque l).w), some (.row false none (.int .i64) (dque l).h), some (.row false none (.int .i64) (dque l).d)]) : Br (V × List (Option Blk))).run := by
  have e : funN Try.prog (look [(120, .rd1 dgqG)]) (look []) Try.f52 [.sl (.int .u8) l] [] = ((ifT (decide ((Cur.mk l (0 : Int) (0 : Int)).good (0 : Int)))
  (some
  (V.agg
  [V.i IntKind.i64 (dque l).c, V.i IntKind.i64 (dque l).r, V.i IntKind.i64 (dque l).n,
  V.ref (0 : Nat) (0 : Nat) (dque l).w.length, V.ref (1 : Nat) (0 : Nat) (dque l).h.length,
  V.ref (2 : Nat) (0 : Nat) (dque l).d.length],
  [some (Blk.row false none (Cd.int IntKind.i64) (dque l).w),
  some (Blk.row false none (Cd.int IntKind.i64) (dque l).h),
  some (Blk.row false none (Cd.int IntKind.i64) (dque l).d)]))) : _) := by kernel_rfl
  rw [e]
  clear e
  rw [ifT_true (decide_eq_true hc)]
  rfl
theorem dhand : Contract Try.prog 52 (Ent.rd1 dgqG).F := by
  refine fun_contractN' (KnowsL.cons (enters_fn Try.func120 (by kernel_rfl) (by kernel_rfl)) dgq KnowsL.nil).knows (Λ := look []) Try.func52 (c := Try.f52.body.getD .skip) (by kernel_rfl) fun vs bs r h hv hb => ?_
  unfold Ent.F dgqG at h
  dsimp only at h
  split at h
  · rename_i l
    obtain ⟨hc, h⟩ := need_some h
    exact ⟨loopsOk_nil _, (dhand_fun l (of_decide_eq_true hc)).trans h⟩
  · cases h
theorem dwhere_fun (l : List Int) (hc : (Cur.mk l 0 0).good 0) : funN Try.prog (look [(122, .own cqueG), (104, .own cpickG)]) (look []) Try.f57 [.sl (.int .u8) l] [] = (.leaf (.tup [.agg [.i .i64 (dque l).c, .i .i64 (dque l).r, .i .i64 (dque l).n, .ref 0 0 (dque l).w.length, .ref 1 0 (dque l).h.length, .ref 2 0 (dque l).d.length], .i .i64 (dno l)], [some (.row false none (.int .i64) (dque l).w), some (.row false none (.int .i64) (dque l).h), some (.row false none (.int .i64) (dque l).d)]) : Br (V × List (Option Blk))).run := by
  have e : funN Try.prog (look [(122, .own cqueG), (104, .own cpickG)]) (look []) Try.f57 [.sl (.int .u8) l] [] = ((ifT (decide ((Cur.mk l (0 : Int) (0 : Int)).good (600000000 : Int)))
  (ifT (decide ((Cur.mk l (0 : Int) (0 : Int)).que.snd.good (900000000 : Int)))
  (some
  (V.tup
  [V.agg
  [V.i IntKind.i64 (Cur.mk l (0 : Int) (0 : Int)).que.fst.c,
  V.i IntKind.i64 (Cur.mk l (0 : Int) (0 : Int)).que.fst.r,
  V.i IntKind.i64 (Cur.mk l (0 : Int) (0 : Int)).que.fst.n,
  V.ref (0 : Nat) (0 : Nat) (Cur.mk l (0 : Int) (0 : Int)).que.fst.w.length,
  V.ref (1 : Nat) (0 : Nat) (Cur.mk l (0 : Int) (0 : Int)).que.fst.h.length,
  V.ref (2 : Nat) (0 : Nat) (Cur.mk l (0 : Int) (0 : Int)).que.fst.d.length],
  V.i IntKind.i64
  (IntKind.i64.wrap
  ((Cur.mk l (0 : Int) (0 : Int)).que.snd.pickV
  (IntKind.i64.wrap ((Cur.mk l (0 : Int) (0 : Int)).que.fst.n.tmod (1000 : Int) + (3 : Int))) -
  (1 : Int)))],
  [some (Blk.row false none (Cd.int IntKind.i64) (Cur.mk l (0 : Int) (0 : Int)).que.fst.w),
  some (Blk.row false none (Cd.int IntKind.i64) (Cur.mk l (0 : Int) (0 : Int)).que.fst.h),
  some (Blk.row false none (Cd.int IntKind.i64) (Cur.mk l (0 : Int) (0 : Int)).que.fst.d)])))) : _) := by kernel_rfl
  rw [e]
  clear e
  have g1 := Cur.que_good hc
  rw [ifT_true (decide_eq_true (Cur.good_mono hc (by omega))), ifT_true (decide_eq_true (Cur.good_mono g1 (by omega)))]
  rfl
theorem dwhere : Contract Try.prog 57 (Ent.rd1 dwhereG).F := by
  refine fun_contractN' (KnowsL.cons (enters_fn Try.func122 (by kernel_rfl) (by kernel_rfl)) cque (KnowsL.cons (enters_fn Try.func104 (by kernel_rfl) (by kernel_rfl)) cpick KnowsL.nil)).knows (Λ := look []) Try.func57 (c := Try.f57.body.getD .skip) (by kernel_rfl) fun vs bs r h hv hb => ?_
  unfold Ent.F dwhereG at h
  dsimp only at h
  split at h
  · rename_i l
    obtain ⟨hc, h⟩ := need_some h
    exact ⟨loopsOk_nil _, (dwhere_fun l (of_decide_eq_true hc)).trans h⟩
  · cases h
end Go.Proofs.Ytjghbihlgfjebaa.Den
