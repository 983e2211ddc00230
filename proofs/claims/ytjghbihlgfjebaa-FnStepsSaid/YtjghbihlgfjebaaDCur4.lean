/- What functions of the program do, by the machine: Cur4. -/
import Derived.Test.YtjghbihlgfjebaaDCur3
import Derived.KernelRfl
import Derived.Test.YtjghbihlgfjebaaRows
namespace Go.Proofs.Ytjghbihlgfjebaa.Den
open Go.Proofs
set_option maxRecDepth 100000
/-- Drawn steps. -/
def Cur.steps (c : Cur) : List ((Int × Int × List UInt8 × Unit)) × Cur :=
  if (c.pickC 40).pickV 12 = 0 then Cur.sesL (170 + ((c.pickC 40).pickC 12).pickV 32).toNat (((c.pickC 40).pickC 12).pickC 32)
  else Cur.sesL (c.pickV 40).toNat ((c.pickC 40).pickC 12)
def cstepsG : List V → List Blk → Br (V × List (Option Blk))
  | [.ptr 0 0], [.box [.sl (.int .u8) l, .i .i64 a, .i .u64 s]] => .need (decide ((Cur.mk l a s).good 700000000)) (.leaf (.ref 1 0 (Cur.mk l a s).steps.1.length, [some (.box [.sl (.int .u8) (Cur.mk l a s).steps.2.l, .i .i64 (Cur.mk l a s).steps.2.a, .i .u64 (Cur.mk l a s).steps.2.s]), some (.row false none (.pair (.int .i64) (.pair (.int .i64) (.pair .str .unit))) (Cur.mk l a s).steps.1)]))
  | _, _ => .no
theorem Cur.sesL_len : ∀ (n : Nat) (c : Cur), (c.sesL n).1.length = n
  | 0, c => rfl
  | n + 1, c => by rw [Cur.sesL, List.length_cons, Cur.sesL_len n]
theorem Cur.sesL_good : ∀ (n : Nat) {c : Cur} {m : Int}, c.good m → (c.sesL n).2.good (m + 12 * n)
  | 0, c, m, h => Cur.good_mono h (by omega)
  | n + 1, c, m, h => Cur.good_mono (Cur.sesL_good n (Cur.ses1_good h)) (by omega)
theorem Cur.steps_len {c : Cur} {m : Int} (h : c.good m) : c.steps.1.length ≤ 210 := by
  unfold Cur.steps
  split
  · rw [Cur.sesL_len]
    have hg : ((c.pickC 40).pickC 12).good (m + 4) := by (repeat with_reducible apply Cur.pick_le); exact Cur.good_mono h (by omega)
    have := Cur.pickV_range (k := 32) hg (by omega)
    omega
  · rw [Cur.sesL_len]
    have := Cur.pickV_range (k := 40) h (by omega)
    omega
theorem Cur.steps_good {c : Cur} {m : Int} (h : c.good m) : c.steps.2.good (m + 3000) := by
  have hg : ((c.pickC 40).pickC 12).good (m + 4) := by (repeat with_reducible apply Cur.pick_le); exact Cur.good_mono h (by omega)
  have hg2 : (((c.pickC 40).pickC 12).pickC 32).good (m + 6) := by (repeat with_reducible apply Cur.pick_le); exact Cur.good_mono h (by omega)
  unfold Cur.steps
  split
  · have := Cur.pickV_range (k := 32) hg (by omega)
    exact Cur.good_mono (Cur.sesL_good _ hg2) (by omega)
  · have := Cur.pickV_range (k := 40) h (by omega)
    exact Cur.good_mono (Cur.sesL_good _ hg) (by omega)
theorem csteps_fun (l : List Int) (a s : Int) (hc : (Cur.mk l a s).good 700000000) : funN Try.prog (look [(104, .own cpickG), (81, .own coneG), (103, .own camongG), (91, .own cofG)]) (look [(5, sesE)]) Try.f92 [.ptr 0 0] [.box [.sl (.int .u8) l, .i .i64 a, .i .u64 s]] = (.leaf (.ref 1 0 (Cur.mk l a s).steps.1.length, [some (.box [.sl (.int .u8) (Cur.mk l a s).steps.2.l, .i .i64 (Cur.mk l a s).steps.2.a, .i .u64 (Cur.mk l a s).steps.2.s]), some (.row false none (.pair (.int .i64) (.pair (.int .i64) (.pair .str .unit))) (Cur.mk l a s).steps.1)]) : Br (V × List (Option Blk))).run := by
  rw [ses_fun0]
  have g0 : ((Cur.mk l a s).pickC 40).good 900000000 := by (repeat with_reducible apply Cur.pick_le); exact Cur.good_mono hc (by omega)
  have g1 : (((Cur.mk l a s).pickC 40).pickC 12).good 900000000 := by (repeat with_reducible apply Cur.pick_le); exact Cur.good_mono hc (by omega)
  have r0 := Cur.pickV_range (k := 40) hc (by omega)
  have r1 := Cur.pickV_range (k := 32) g1 (by omega)
  rw [ifT_true (decide_eq_true (Cur.good_mono hc (by omega))), ifT_true (decide_eq_true g0)]
  by_cases q : ((Cur.mk l a s).pickC 40).pickV 12 = 0
  · have e : (Cur.mk l a s).steps = Cur.sesL (170 + (((Cur.mk l a s).pickC 40).pickC 12).pickV 32).toNat ((((Cur.mk l a s).pickC 40).pickC 12).pickC 32) := by unfold Cur.steps; rw [if_pos q]
    rw [e, Cur.sesL_len, ifB_true (by rw [q]; rfl), ifT_true (decide_eq_true g1), wrap_id (by omega) (by omega)]
    have g2 : ((((Cur.mk l a s).pickC 40).pickC 12).pickC 32).good (800000000 - 12 * (170 + (((Cur.mk l a s).pickC 40).pickC 12).pickV 32)) := by (repeat with_reducible apply Cur.pick_le); exact Cur.good_mono hc (by omega)
    rw [ifT_true (decide_eq_true ⟨rfl, ⟨by omega, by omega⟩, by omega, g2⟩), Nat.zero_add]
    rfl
  · have e : (Cur.mk l a s).steps = Cur.sesL ((Cur.mk l a s).pickV 40).toNat (((Cur.mk l a s).pickC 40).pickC 12) := by unfold Cur.steps; rw [if_neg q]
    rw [e, Cur.sesL_len, ifB_false (by simpa using q)]
    have g2 : (((Cur.mk l a s).pickC 40).pickC 12).good (800000000 - 12 * (Cur.mk l a s).pickV 40) := by (repeat with_reducible apply Cur.pick_le); exact Cur.good_mono hc (by omega)
    rw [ifT_true (decide_eq_true ⟨rfl, ⟨by omega, by omega⟩, by omega, g2⟩), Nat.zero_add]
    rfl
theorem csteps : Contract Try.prog 92 (Ent.own cstepsG).F := by
  refine fun_contractN' (KnowsL.cons (enters_fn Try.func104 (by kernel_rfl) (by kernel_rfl)) cpick (KnowsL.cons (enters_fn Try.func81 (by kernel_rfl) (by kernel_rfl)) cone (KnowsL.cons (enters_fn Try.func103 (by kernel_rfl) (by kernel_rfl)) camong (KnowsL.cons (enters_fn Try.func91 (by kernel_rfl) (by kernel_rfl)) cof KnowsL.nil)))).knows (Λ := (look [(5, sesE)])) Try.func92 (c := Try.f92.body.getD .skip) (by kernel_rfl) fun vs bs r h hv hb => ?_
  unfold Ent.F cstepsG at h
  dsimp only at h
  split at h
  · rename_i l a s
    obtain ⟨hc, h⟩ := need_some h
    exact ⟨ses_ok, (csteps_fun l a s (of_decide_eq_true hc)).trans h⟩
  · cases h
end Go.Proofs.Ytjghbihlgfjebaa.Den
