/- What functions of the program do, by the machine: QueC. -/
import Derived.Test.YtjghbihlgfjebaaDCur3
import Derived.KernelRfl
import Derived.Test.YtjghbihlgfjebaaRows
namespace Go.Proofs.Ytjghbihlgfjebaa.Den
open Go.Proofs
set_option maxRecDepth 100000
/-- Drawn offers. -/
def Cur.offL : Nat → Cur → List Bool × Cur
  | 0, c => ([], c)
  | n + 1, c => ((!(c.pickV 3 == 0)) :: (Cur.offL n (c.pickC 3)).1, (Cur.offL n (c.pickC 3)).2)
def Cur.offs (c : Cur) : List Bool × Cur :=
  if (c.pickC 30).pickV 12 = 0 then Cur.offL (190 + ((c.pickC 30).pickC 12).pickV 12).toNat (((c.pickC 30).pickC 12).pickC 12)
  else Cur.offL (c.pickV 30).toNat ((c.pickC 30).pickC 12)
def offE : LoopEnt := ⟨23, [0,3,4], [3], [], fun
  | ([.ptr 0 0, .ref 1 0 k, .i .i64 n], [some (.box [.sl (.int .u8) l, .i .i64 a, .i .u64 s]), some (.row false none .bool r)]) =>
    .need (decide (k = r.length ∧ (0 ≤ n ∧ n ≤ 1000) ∧ (r.length : Int) + n ≤ 1000000 ∧ (Cur.mk l a s).good (800000000 - 2 * n))) (.leaf (.exit 0, ([.ref 1 0 (r.length + n.toNat)], [some (.box [.sl (.int .u8) ((Cur.mk l a s).offL n.toNat).2.l, .i .i64 ((Cur.mk l a s).offL n.toNat).2.a, .i .u64 ((Cur.mk l a s).offL n.toNat).2.s]), some (.row false none .bool (r ++ ((Cur.mk l a s).offL n.toNat).1))])))
  | _ => .no⟩
def coffsG : List V → List Blk → Br (V × List (Option Blk))
  | [.ptr 0 0], [.box [.sl (.int .u8) l, .i .i64 a, .i .u64 s]] => .need (decide ((Cur.mk l a s).good 700000000)) (.leaf (.ref 1 0 (Cur.mk l a s).offs.1.length, [some (.box [.sl (.int .u8) (Cur.mk l a s).offs.2.l, .i .i64 (Cur.mk l a s).offs.2.a, .i .u64 (Cur.mk l a s).offs.2.s]), some (.row false none .bool (Cur.mk l a s).offs.1)]))
  | _, _ => .no
theorem off_round (k : Nat) (n : Int) (l : List Int) (a s : Int) (r : List Bool) : roundK Try.prog (look [(104, .own cpickG), (81, .own coneG)]) (look [(5, offE)]) 1 (body Try.f105 0) offE ([.ptr 0 0, .ref 1 0 k, .i .i64 n], [some (.box [.sl (.int .u8) l, .i .i64 a, .i .u64 s]), some (.row false none .bool r)]) =
  ((ifB (decide (n > (0 : Int)))
  (ifT (decide ((Cur.mk l a s).good (900000000 : Int)))
  (ifT (decide ((k + (1 : Nat)) * (1 : Nat) ≤ (140737488355328 : Nat)) && decide (k + (1 : Nat) ≤ maxI))
  (some
  (Ex.normal,
  [V.ptr (0 : Nat) (0 : Nat), V.ref (1 : Nat) (0 : Nat) (k + (1 : Nat)),
  V.i IntKind.i64 (IntKind.i64.wrap (n - (1 : Int)))],
  [some
  (Blk.box
  [V.sl (Cd.int IntKind.u8) ((Cur.mk l a s).pickC (3 : Int)).l,
  V.i IntKind.i64 ((Cur.mk l a s).pickC (3 : Int)).a,
  V.i IntKind.u64 ((Cur.mk l a s).pickC (3 : Int)).s]),
  some
  (Blk.row false none Cd.bool
  (List.take k (List.drop (0 : Nat) r) ++
  (!(Cur.mk l a s).pickV (3 : Int) == (0 : Int)) :: nilT Cd.bool.den))]))))
  (some
  (Ex.exit (0 : Nat), [V.ref (1 : Nat) (0 : Nat) k],
  [some (Blk.box [V.sl (Cd.int IntKind.u8) l, V.i IntKind.i64 a, V.i IntKind.u64 s]),
  some (Blk.row false none Cd.bool r)]))) : _) := by kernel_rfl
theorem off_loop : ∀ (n : Nat) (c : Cur) (r : List Bool), n ≤ 1000 → (r.length : Int) + n ≤ 1000000 → c.good (800000000 - 2 * n) →
    Runs Try.prog (look [(104, .own cpickG), (81, .own coneG)]) (look [(5, offE)]) 1 (body Try.f105 0) offE ([.ptr 0 0, .ref 1 0 r.length, .i .i64 (n : Int)], [some (.box [.sl (.int .u8) c.l, .i .i64 c.a, .i .u64 c.s]), some (.row false none .bool r)]) (.exit 0) ([.ref 1 0 (r.length + n)], [some (.box [.sl (.int .u8) (c.offL n).2.l, .i .i64 (c.offL n).2.a, .i .u64 (c.offL n).2.s]), some (.row false none .bool (r ++ (c.offL n).1))]) := by
  intro n
  induction n with
  | zero =>
    intro c r hn hr hc
    refine .stop _ _ _ ((off_round r.length ((0 : Nat) : Int) c.l c.a c.s r).trans ?_) (by simp)
    rw [ifB_false (by simp), Cur.offL, List.append_nil]
    rfl
  | succ n ihn =>
    intro c r hn hr hc
    have hM : maxI = 9223372036854775807 := rfl
    have hg := Cur.pickC_good (k := 3) hc
    have ih := ihn (c.pickC 3) (r ++ [!(c.pickV 3 == 0)]) (by omega) (by simp; omega) (Cur.good_mono hg (by omega))
    have hs := off_round r.length ((n + 1 : Nat) : Int) c.l c.a c.s r
    have e0 : IntKind.i64.wrap (((n + 1 : Nat) : Int) - 1) = (n : Int) := by rw [wrap_id (by omega) (by omega)]; omega
    rw [ifB_true (decide_eq_true (by omega)), ifT_true (decide_eq_true (Cur.good_mono hc (by omega))), ifT_true (by simp only [Bool.and_eq_true, decide_eq_true_eq]; omega), e0] at hs
    simp only [List.drop_zero, List.take_length, nilT_eq] at hs
    have e1 : (r ++ [!(c.pickV 3 == 0)]).length + n = r.length + (n + 1) := by simp; omega
    rw [e1, List.append_assoc] at ih
    rw [Cur.offL]
    rw [show r.length + 1 = (r ++ [!(c.pickV 3 == 0)]).length by simp] at hs
    exact .step _ _ _ _ hs ih
theorem off_ok : LoopsOk Try.prog (look [(104, .own cpickG), (81, .own coneG)]) (look [(5, offE)]) 1 (Try.f105.body.getD .skip) := by
  refine loopsOk_one (a := body Try.f105 0) (by kernel_rfl) fun d e d' h => ?_
  unfold offE at h
  dsimp only at h
  split at h
  · rename_i k n l a s r
    obtain ⟨hc, h'⟩ := need_some h
    obtain ⟨rfl, ⟨h0, h1⟩, h2, h3⟩ := of_decide_eq_true hc
    obtain ⟨n, rfl⟩ := Int.eq_ofNat_of_zero_le h0
    have h5 := leaf_some h'
    obtain ⟨rfl, rfl⟩ := Prod.mk.inj h5
    exact off_loop n (Cur.mk l a s) r (by omega) h2 h3
  · cases h
theorem Cur.offL_len : ∀ (n : Nat) (c : Cur), (c.offL n).1.length = n
  | 0, c => rfl
  | n + 1, c => by rw [Cur.offL, List.length_cons, Cur.offL_len n]
theorem Cur.offL_good : ∀ (n : Nat) {c : Cur} {m : Int}, c.good m → (c.offL n).2.good (m + 2 * n)
  | 0, c, m, h => Cur.good_mono h (by omega)
  | n + 1, c, m, h => Cur.good_mono (Cur.offL_good n (Cur.pickC_good h)) (by omega)
theorem Cur.offs_len {c : Cur} {m : Int} (h : c.good m) : c.offs.1.length ≤ 210 := by
  unfold Cur.offs
  split
  · rw [Cur.offL_len]
    have hg : ((c.pickC 30).pickC 12).good (m + 4) := by (repeat with_reducible apply Cur.pick_le); exact Cur.good_mono h (by omega)
    have := Cur.pickV_range (k := 12) hg (by omega)
    omega
  · rw [Cur.offL_len]
    have := Cur.pickV_range (k := 30) h (by omega)
    omega
theorem Cur.offs_good {c : Cur} {m : Int} (h : c.good m) : c.offs.2.good (m + 500) := by
  have hg : ((c.pickC 30).pickC 12).good (m + 4) := by (repeat with_reducible apply Cur.pick_le); exact Cur.good_mono h (by omega)
  have hg2 : (((c.pickC 30).pickC 12).pickC 12).good (m + 6) := by (repeat with_reducible apply Cur.pick_le); exact Cur.good_mono h (by omega)
  unfold Cur.offs
  split
  · have := Cur.pickV_range (k := 12) hg (by omega)
    exact Cur.good_mono (Cur.offL_good _ hg2) (by omega)
  · have := Cur.pickV_range (k := 30) h (by omega)
    exact Cur.good_mono (Cur.offL_good _ hg) (by omega)
theorem coffs_fun (l : List Int) (a s : Int) (hc : (Cur.mk l a s).good 700000000) : funN Try.prog (look [(104, .own cpickG), (81, .own coneG)]) (look [(5, offE)]) Try.f105 [.ptr 0 0] [.box [.sl (.int .u8) l, .i .i64 a, .i .u64 s]] = (.leaf (.ref 1 0 (Cur.mk l a s).offs.1.length, [some (.box [.sl (.int .u8) (Cur.mk l a s).offs.2.l, .i .i64 (Cur.mk l a s).offs.2.a, .i .u64 (Cur.mk l a s).offs.2.s]), some (.row false none .bool (Cur.mk l a s).offs.1)]) : Br (V × List (Option Blk))).run := by
  have e : funN Try.prog (look [(104, .own cpickG), (81, .own coneG)]) (look [(5, offE)]) Try.f105 [.ptr 0 0] [.box [.sl (.int .u8) l, .i .i64 a, .i .u64 s]] = ((ifT (decide ((Cur.mk l a s).good (900000000 : Int)))
  (ifT (decide (((Cur.mk l a s).pickC (30 : Int)).good (900000000 : Int)))
  (ifB (((Cur.mk l a s).pickC (30 : Int)).pickV (12 : Int) == (0 : Int))
  (ifT (decide ((((Cur.mk l a s).pickC (30 : Int)).pickC (12 : Int)).good (900000000 : Int)))
  (ifT
  (decide
  ((0 : Nat) = (0 : Nat) ∧
  ((0 : Int) ≤
  IntKind.i64.wrap
  ((190 : Int) + (((Cur.mk l a s).pickC (30 : Int)).pickC (12 : Int)).pickV (12 : Int)) ∧
  IntKind.i64.wrap
  ((190 : Int) + (((Cur.mk l a s).pickC (30 : Int)).pickC (12 : Int)).pickV (12 : Int)) ≤
  (1000 : Int)) ∧
  (↑(0 : Nat) : Int) +
  IntKind.i64.wrap
  ((190 : Int) + (((Cur.mk l a s).pickC (30 : Int)).pickC (12 : Int)).pickV (12 : Int)) ≤
  (1000000 : Int) ∧
  ((((Cur.mk l a s).pickC (30 : Int)).pickC (12 : Int)).pickC (12 : Int)).good
  ((800000000 : Int) -
  (2 : Int) *
  IntKind.i64.wrap
  ((190 : Int) + (((Cur.mk l a s).pickC (30 : Int)).pickC (12 : Int)).pickV (12 : Int)))))
  (some
  (V.ref (1 : Nat) (0 : Nat)
  ((0 : Nat) +
  (IntKind.i64.wrap
  ((190 : Int) + (((Cur.mk l a s).pickC (30 : Int)).pickC (12 : Int)).pickV (12 : Int))).toNat),
  [some
  (Blk.box
  [V.sl (Cd.int IntKind.u8)
  (Cur.offL
  (IntKind.i64.wrap
  ((190 : Int) +
  (((Cur.mk l a s).pickC (30 : Int)).pickC (12 : Int)).pickV (12 : Int))).toNat
  ((((Cur.mk l a s).pickC (30 : Int)).pickC (12 : Int)).pickC (12 : Int))).snd.l,
  V.i IntKind.i64
  (Cur.offL
  (IntKind.i64.wrap
  ((190 : Int) +
  (((Cur.mk l a s).pickC (30 : Int)).pickC (12 : Int)).pickV (12 : Int))).toNat
  ((((Cur.mk l a s).pickC (30 : Int)).pickC (12 : Int)).pickC (12 : Int))).snd.a,
  V.i IntKind.u64
  (Cur.offL
  (IntKind.i64.wrap
  ((190 : Int) +
  (((Cur.mk l a s).pickC (30 : Int)).pickC (12 : Int)).pickV (12 : Int))).toNat
  ((((Cur.mk l a s).pickC (30 : Int)).pickC (12 : Int)).pickC (12 : Int))).snd.s]),
  some
  (Blk.row false none Cd.bool
  (nilT Cd.bool.den ++
  (Cur.offL
  (IntKind.i64.wrap
  ((190 : Int) +
  (((Cur.mk l a s).pickC (30 : Int)).pickC (12 : Int)).pickV (12 : Int))).toNat
  ((((Cur.mk l a s).pickC (30 : Int)).pickC (12 : Int)).pickC (12 : Int))).fst))]))))
  (ifT
  (decide
  ((0 : Nat) = (0 : Nat) ∧
  ((0 : Int) ≤ (Cur.mk l a s).pickV (30 : Int) ∧ (Cur.mk l a s).pickV (30 : Int) ≤ (1000 : Int)) ∧
  (↑(0 : Nat) : Int) + (Cur.mk l a s).pickV (30 : Int) ≤ (1000000 : Int) ∧
  (((Cur.mk l a s).pickC (30 : Int)).pickC (12 : Int)).good
  ((800000000 : Int) - (2 : Int) * (Cur.mk l a s).pickV (30 : Int))))
  (some
  (V.ref (1 : Nat) (0 : Nat) ((0 : Nat) + ((Cur.mk l a s).pickV (30 : Int)).toNat),
  [some
  (Blk.box
  [V.sl (Cd.int IntKind.u8)
  (Cur.offL ((Cur.mk l a s).pickV (30 : Int)).toNat
  (((Cur.mk l a s).pickC (30 : Int)).pickC (12 : Int))).snd.l,
  V.i IntKind.i64
  (Cur.offL ((Cur.mk l a s).pickV (30 : Int)).toNat
  (((Cur.mk l a s).pickC (30 : Int)).pickC (12 : Int))).snd.a,
  V.i IntKind.u64
  (Cur.offL ((Cur.mk l a s).pickV (30 : Int)).toNat
  (((Cur.mk l a s).pickC (30 : Int)).pickC (12 : Int))).snd.s]),
  some
  (Blk.row false none Cd.bool
  (nilT Cd.bool.den ++
  (Cur.offL ((Cur.mk l a s).pickV (30 : Int)).toNat
  (((Cur.mk l a s).pickC (30 : Int)).pickC (12 : Int))).fst))])))))) : _) := by kernel_rfl
  rw [e]
  clear e
  have g0 : ((Cur.mk l a s).pickC 30).good 900000000 := by (repeat with_reducible apply Cur.pick_le); exact Cur.good_mono hc (by omega)
  have g1 : (((Cur.mk l a s).pickC 30).pickC 12).good 900000000 := by (repeat with_reducible apply Cur.pick_le); exact Cur.good_mono hc (by omega)
  have r0 := Cur.pickV_range (k := 30) hc (by omega)
  have r1 := Cur.pickV_range (k := 12) g1 (by omega)
  rw [ifT_true (decide_eq_true (Cur.good_mono hc (by omega))), ifT_true (decide_eq_true g0)]
  by_cases q : ((Cur.mk l a s).pickC 30).pickV 12 = 0
  · have e : (Cur.mk l a s).offs = Cur.offL (190 + (((Cur.mk l a s).pickC 30).pickC 12).pickV 12).toNat ((((Cur.mk l a s).pickC 30).pickC 12).pickC 12) := by unfold Cur.offs; rw [if_pos q]
    rw [e, Cur.offL_len, ifB_true (by rw [q]; rfl), ifT_true (decide_eq_true g1), wrap_id (by omega) (by omega)]
    have g2 : ((((Cur.mk l a s).pickC 30).pickC 12).pickC 12).good (800000000 - 2 * (190 + (((Cur.mk l a s).pickC 30).pickC 12).pickV 12)) := by (repeat with_reducible apply Cur.pick_le); exact Cur.good_mono hc (by omega)
    rw [ifT_true (decide_eq_true ⟨rfl, ⟨by omega, by omega⟩, by omega, g2⟩), Nat.zero_add]
    rfl
  · have e : (Cur.mk l a s).offs = Cur.offL ((Cur.mk l a s).pickV 30).toNat (((Cur.mk l a s).pickC 30).pickC 12) := by unfold Cur.offs; rw [if_neg q]
    rw [e, Cur.offL_len, ifB_false (by simpa using q)]
    have g2 : (((Cur.mk l a s).pickC 30).pickC 12).good (800000000 - 2 * (Cur.mk l a s).pickV 30) := by (repeat with_reducible apply Cur.pick_le); exact Cur.good_mono hc (by omega)
    rw [ifT_true (decide_eq_true ⟨rfl, ⟨by omega, by omega⟩, by omega, g2⟩), Nat.zero_add]
    rfl
theorem coffs : Contract Try.prog 105 (Ent.own coffsG).F := by
  refine fun_contractN' (KnowsL.cons (enters_fn Try.func104 (by kernel_rfl) (by kernel_rfl)) cpick (KnowsL.cons (enters_fn Try.func81 (by kernel_rfl) (by kernel_rfl)) cone KnowsL.nil)).knows (Λ := (look [(5, offE)])) Try.func105 (c := Try.f105.body.getD .skip) (by kernel_rfl) fun vs bs r h hv hb => ?_
  unfold Ent.F coffsG at h
  dsimp only at h
  split at h
  · rename_i l a s
    obtain ⟨hc, h⟩ := need_some h
    exact ⟨off_ok, (coffs_fun l a s (of_decide_eq_true hc)).trans h⟩
  · cases h
end Go.Proofs.Ytjghbihlgfjebaa.Den
