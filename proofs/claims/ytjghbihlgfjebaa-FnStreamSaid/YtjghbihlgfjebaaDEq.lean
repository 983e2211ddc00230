/- What functions of the program do, by the machine: Eq. -/
import Derived.Test.YtjghbihlgfjebaaDen4
import Derived.KernelRfl
import Derived.Test.YtjghbihlgfjebaaRows
namespace Go.Proofs.Ytjghbihlgfjebaa.Den
open Go.Proofs
set_option maxRecDepth 100000
def eqStrsE : LoopEnt := ⟨26, [0,1,4,5], [4], [4], fun
  | ([.sl .str a, .sl .str b, .b r, .i .i64 n], []) =>
    .need (decide (0 ≤ n ∧ a.length = b.length ∧ n.toNat ≤ a.length ∧ a.length ≤ maxI)) (.br (decide (a.drop n.toNat = b.drop n.toNat)) (.leaf (.exit 0, ([.b r], []))) (.leaf (.ret, ([.b false], []))))
  | _ => .no⟩
def eqStrsG : List V → List Blk → Br (V × List (Option Blk))
  | [.sl .str a, .sl .str b], [] => .leaf (.b (decide (a = b)), [])
  | _, _ => .no
def eqPacketG : List V → List Blk → Br (V × List (Option Blk))
  | [.agg [.i .i64 a0, .i .i64 a1, .s a2], .agg [.i .i64 b0, .i .i64 b1, .s b2]], [] => .leaf (.b (decide (a0 = b0 ∧ a1 = b1 ∧ a2 = b2)), [])
  | _, _ => .no
def eqPacketsE : LoopEnt := ⟨27, [0,1,4,5], [4], [4], fun
  | ([.sl (.pair (.int .i64) (.pair (.int .i64) (.pair .str .unit))) a, .sl (.pair (.int .i64) (.pair (.int .i64) (.pair .str .unit))) b, .b r, .i .i64 n], []) =>
    .need (decide (0 ≤ n ∧ a.length = b.length ∧ n.toNat ≤ a.length ∧ a.length ≤ maxI)) (.br (decide (a.drop n.toNat = b.drop n.toNat)) (.leaf (.exit 0, ([.b r], []))) (.leaf (.ret, ([.b false], []))))
  | _ => .no⟩
def eqPacketsG : List V → List Blk → Br (V × List (Option Blk))
  | [.sl (.pair (.int .i64) (.pair (.int .i64) (.pair .str .unit))) a, .sl (.pair (.int .i64) (.pair (.int .i64) (.pair .str .unit))) b], [] => .leaf (.b (decide (a = b)), [])
  | _, _ => .no
def eqAckG : List V → List Blk → Br (V × List (Option Blk))
  | [.agg [.i .i64 a0, .i .i64 a1], .agg [.i .i64 b0, .i .i64 b1]], [] => .leaf (.b (decide (a0 = b0 ∧ a1 = b1)), [])
  | _, _ => .no
def eqAcksE : LoopEnt := ⟨27, [0,1,4,5], [4], [4], fun
  | ([.sl (.pair (.int .i64) (.pair (.int .i64) .unit)) a, .sl (.pair (.int .i64) (.pair (.int .i64) .unit)) b, .b r, .i .i64 n], []) =>
    .need (decide (0 ≤ n ∧ a.length = b.length ∧ n.toNat ≤ a.length ∧ a.length ≤ maxI)) (.br (decide (a.drop n.toNat = b.drop n.toNat)) (.leaf (.exit 0, ([.b r], []))) (.leaf (.ret, ([.b false], []))))
  | _ => .no⟩
def eqAcksG : List V → List Blk → Br (V × List (Option Blk))
  | [.sl (.pair (.int .i64) (.pair (.int .i64) .unit)) a, .sl (.pair (.int .i64) (.pair (.int .i64) .unit)) b], [] => .leaf (.b (decide (a = b)), [])
  | _, _ => .no
theorem eqStrs_round (a b : List (List UInt8)) (r : Bool) (n : Nat) : roundK Try.prog (look []) (look [(4, eqStrsE)]) 0 (body Try.f71 0) eqStrsE ([.sl .str a, .sl .str b, .b r, .i .i64 n], []) =
  ((ifB (decide ((↑n : Int) < (↑a.length : Int)))
  (ifT (decide ((0 : Int) ≤ (↑n : Int)) && decide ((↑n : Int) < (↑a.length : Int)))
  (ifSome a[((↑n : Int)).toNat]? fun z =>
  ifT (decide ((0 : Int) ≤ (↑n : Int)) && decide ((↑n : Int) < (↑b.length : Int)))
  (ifSome b[((↑n : Int)).toNat]? fun z_1 =>
  ifB (!z == z_1) (some (Ex.ret, [V.b false], []))
  (some
  (Ex.normal,
  [V.sl Cd.str a, V.sl Cd.str b, V.b r, V.i IntKind.i64 (IntKind.i64.wrap ((↑n : Int) + (1 : Int)))],
  [])))))
  (some (Ex.exit (0 : Nat), [V.b r], []))) : _) := by kernel_rfl
theorem eqStrs_loop {a b : List (List UInt8)} {r : Bool} (hl : a.length = b.length) (hm : a.length ≤ maxI) : ∀ (k n : Nat), n + k = a.length →
    Runs Try.prog (look []) (look [(4, eqStrsE)]) 0 (body Try.f71 0) eqStrsE ([.sl .str a, .sl .str b, .b r, .i .i64 n], []) (if a.drop n = b.drop n then .exit 0 else .ret) ([.b (if a.drop n = b.drop n then r else false)], [])
  | 0, n, hn => by
    have e1 : a.drop n = [] := List.drop_eq_nil_of_le (by omega)
    have e2 : b.drop n = [] := List.drop_eq_nil_of_le (by omega)
    refine .stop _ _ _ ((eqStrs_round a b r n).trans ?_) (by simp [e1, e2])
    simp [e1, e2, show ¬ n < a.length by omega]
  | k + 1, n, hn => by
    have h1 : n < a.length := by omega
    have h2 : n < b.length := by omega
    have hd : (a.drop n = b.drop n) = (a[n] = b[n] ∧ a.drop (n+1) = b.drop (n+1)) := by rw [List.drop_eq_getElem_cons h1, List.drop_eq_getElem_cons h2, List.cons.injEq]
    have hr := eqStrs_round a b r n
    simp only [Int.toNat_natCast, List.getElem?_eq_getElem h1, List.getElem?_eq_getElem h2, wrap_succ (n := n) (by omega)] at hr
    by_cases he : a[n] = b[n]
    · refine .step _ _ _ (d1 := ([.sl .str a, .sl .str b, .b r, .i .i64 ((n + 1 : Nat) : Int)], [])) (hr.trans (by simp [h1, h2, he])) ?_
      simp only [hd, he, true_and]
      exact eqStrs_loop hl hm k (n + 1) (by omega)
    · exact .stop _ _ _ (hr.trans (by simp [h1, h2, hd, he])) (by simp [hd, he])
theorem eqStrs_ok : LoopsOk Try.prog (look []) (look [(4, eqStrsE)]) 0 (Try.f71.body.getD .skip) := by
  refine loopsOk_one (a := body Try.f71 0) (by kernel_rfl) fun d e d' h => ?_
  unfold eqStrsE at h
  dsimp only at h
  split at h
  · rename_i a b r n
    obtain ⟨hc, h⟩ := need_some h
    have hc := of_decide_eq_true hc
    obtain ⟨n, rfl⟩ := Int.eq_ofNat_of_zero_le hc.1
    have := eqStrs_loop (r := r) hc.2.1 hc.2.2.2 _ n (Nat.add_sub_of_le hc.2.2.1)
    rcases br_some h with ⟨h1, h⟩ | ⟨h1, h⟩
    · have h1 := of_decide_eq_true h1
      simp only [Int.toNat_natCast] at h1 h
      cases h
      rw [if_pos h1, if_pos h1] at this; exact this
    · have h1 := of_decide_eq_false h1
      simp only [Int.toNat_natCast] at h1 h
      cases h
      rw [if_neg h1, if_neg h1] at this; exact this
  · cases h
theorem eqStrs_fun (a b : List (List UInt8)) (hm : a.length ≤ maxI) : funK Try.prog (look []) (look [(4, eqStrsE)]) Try.f71 [.sl .str a, .sl .str b] [] = some (.b (decide (a = b)), []) := by
  have e : funK Try.prog (look []) (look [(4, eqStrsE)]) Try.f71 [.sl .str a, .sl .str b] [] =
    ((ifB ((↑a.length : Int) != (↑b.length : Int)) (some (V.b false, []))
  (ifT (decide ((0 : Int) ≤ (0 : Int) ∧ a.length = b.length ∧ (0 : Nat) ≤ a.length ∧ a.length ≤ maxI))
  (ifB (decide (List.drop (0 : Nat) a = List.drop (0 : Nat) b)) (some (V.b true, [])) (some (V.b false, []))))) : _) := by kernel_rfl
  rw [e]
  by_cases h1 : a.length = b.length
  · by_cases h2 : a = b <;> simp [h1, h2, show b.length ≤ maxI by omega]
  · have h2 : a ≠ b := fun e => h1 (by rw [e])
    simp [h1, h2]
theorem eqStrs : Contract Try.prog 71 (Ent.rd1 eqStrsG).F := by
  refine fun_contract' KnowsL.nil.knows (Λ := (look [(4, eqStrsE)])) Try.func71 (c := Try.f71.body.getD .skip) (by kernel_rfl) fun vs bs r h hv hb => ?_
  unfold Ent.F eqStrsG at h
  dsimp only at h
  split at h
  · rename_i a b
    exact ⟨eqStrs_ok, (eqStrs_fun a b (hv (.sl .str a) (by simp)).1).trans (by cases h; rfl)⟩
  · cases h
theorem eqPacket_fun (a0 b0 : Int) (a1 b1 : Int) (a2 b2 : List UInt8) : funK Try.prog (look []) (look []) Try.f134 [.agg [.i .i64 a0, .i .i64 a1, .s a2], .agg [.i .i64 b0, .i .i64 b1, .s b2]] [] = some (.b (decide (a0 = b0 ∧ a1 = b1 ∧ a2 = b2)), []) := by
  have e : funK Try.prog (look []) (look []) Try.f134 [.agg [.i .i64 a0, .i .i64 a1, .s a2], .agg [.i .i64 b0, .i .i64 b1, .s b2]] [] =
    ((ifB (a0 != b0) (some (V.b false, []))
  (ifB (a1 != b1) (some (V.b false, [])) (ifB (!a2 == b2) (some (V.b false, [])) (some (V.b true, []))))) : _) := by kernel_rfl
  rw [e]
  by_cases h0 : a0 = b0 <;> by_cases h1 : a1 = b1 <;> by_cases h2 : a2 = b2 <;> simp [h0, h1, h2]
theorem eqPacket : Contract Try.prog 134 (Ent.rd1 eqPacketG).F := by
  refine fun_contract' (KnowsL.nil).knows (Λ := look []) Try.func134 (c := Try.f134.body.getD .skip) (by kernel_rfl) fun vs bs r h hv hb => ?_
  unfold Ent.F eqPacketG at h
  dsimp only at h
  split at h
  · exact ⟨loopsOk_nil _, (eqPacket_fun _ _ _ _ _ _ ).trans (by cases h; rfl)⟩
  · cases h
theorem eqPackets_round (a b : List (Int × Int × List UInt8 × Unit)) (r : Bool) (n : Nat) : roundK Try.prog (look [(134, .rd1 eqPacketG)]) (look [(4, eqPacketsE)]) 0 (body Try.f72 0) eqPacketsE ([.sl (.pair (.int .i64) (.pair (.int .i64) (.pair .str .unit))) a, .sl (.pair (.int .i64) (.pair (.int .i64) (.pair .str .unit))) b, .b r, .i .i64 n], []) =
  ((ifB (decide ((↑n : Int) < (↑a.length : Int)))
  (ifT (decide ((0 : Int) ≤ (↑n : Int)) && decide ((↑n : Int) < (↑a.length : Int)))
  (ifSome a[((↑n : Int)).toNat]? fun z =>
  ifT (decide ((0 : Int) ≤ (↑n : Int)) && decide ((↑n : Int) < (↑b.length : Int)))
  (ifSome b[((↑n : Int)).toNat]? fun z_1 =>
  ifB (!decide (z.fst = z_1.fst ∧ z.snd.fst = z_1.snd.fst ∧ z.snd.snd.fst = z_1.snd.snd.fst))
  (some (Ex.ret, [V.b false], []))
  (some
  (Ex.normal,
  [V.sl ((Cd.int IntKind.i64).pair ((Cd.int IntKind.i64).pair (Cd.str.pair Cd.unit))) a,
  V.sl ((Cd.int IntKind.i64).pair ((Cd.int IntKind.i64).pair (Cd.str.pair Cd.unit))) b, V.b r,
  V.i IntKind.i64 (IntKind.i64.wrap ((↑n : Int) + (1 : Int)))],
  [])))))
  (some (Ex.exit (0 : Nat), [V.b r], []))) : _) := by kernel_rfl
theorem eqPackets_loop {a b : List (Int × Int × List UInt8 × Unit)} {r : Bool} (hl : a.length = b.length) (hm : a.length ≤ maxI) : ∀ (k n : Nat), n + k = a.length →
    Runs Try.prog (look [(134, .rd1 eqPacketG)]) (look [(4, eqPacketsE)]) 0 (body Try.f72 0) eqPacketsE ([.sl (.pair (.int .i64) (.pair (.int .i64) (.pair .str .unit))) a, .sl (.pair (.int .i64) (.pair (.int .i64) (.pair .str .unit))) b, .b r, .i .i64 n], []) (if a.drop n = b.drop n then .exit 0 else .ret) ([.b (if a.drop n = b.drop n then r else false)], [])
  | 0, n, hn => by
    have e1 : a.drop n = [] := List.drop_eq_nil_of_le (by omega)
    have e2 : b.drop n = [] := List.drop_eq_nil_of_le (by omega)
    refine .stop _ _ _ ((eqPackets_round a b r n).trans ?_) (by simp [e1, e2])
    simp [e1, e2, show ¬ n < a.length by omega]
  | k + 1, n, hn => by
    have h1 : n < a.length := by omega
    have h2 : n < b.length := by omega
    have hd : (a.drop n = b.drop n) = (a[n] = b[n] ∧ a.drop (n+1) = b.drop (n+1)) := by rw [List.drop_eq_getElem_cons h1, List.drop_eq_getElem_cons h2, List.cons.injEq]
    have hr := eqPackets_round a b r n
    simp only [Int.toNat_natCast, List.getElem?_eq_getElem h1, List.getElem?_eq_getElem h2, wrap_succ (n := n) (by omega)] at hr
    by_cases he : a[n] = b[n]
    · refine .step _ _ _ (d1 := ([.sl (.pair (.int .i64) (.pair (.int .i64) (.pair .str .unit))) a, .sl (.pair (.int .i64) (.pair (.int .i64) (.pair .str .unit))) b, .b r, .i .i64 ((n + 1 : Nat) : Int)], [])) (hr.trans (by simp [h1, h2, he])) ?_
      simp only [hd, he, true_and]
      exact eqPackets_loop hl hm k (n + 1) (by omega)
    · exact .stop _ _ _ (hr.trans (by simp [h1, h2, hd, he]; exact fun q0 q1 q2 => he (Prod.ext q0 (Prod.ext q1 (Prod.ext q2 rfl))))) (by simp [hd, he])
theorem eqPackets_ok : LoopsOk Try.prog (look [(134, .rd1 eqPacketG)]) (look [(4, eqPacketsE)]) 0 (Try.f72.body.getD .skip) := by
  refine loopsOk_one (a := body Try.f72 0) (by kernel_rfl) fun d e d' h => ?_
  unfold eqPacketsE at h
  dsimp only at h
  split at h
  · rename_i a b r n
    obtain ⟨hc, h⟩ := need_some h
    have hc := of_decide_eq_true hc
    obtain ⟨n, rfl⟩ := Int.eq_ofNat_of_zero_le hc.1
    have := eqPackets_loop (r := r) hc.2.1 hc.2.2.2 _ n (Nat.add_sub_of_le hc.2.2.1)
    rcases br_some h with ⟨h1, h⟩ | ⟨h1, h⟩
    · have h1 := of_decide_eq_true h1
      simp only [Int.toNat_natCast] at h1 h
      cases h
      rw [if_pos h1, if_pos h1] at this; exact this
    · have h1 := of_decide_eq_false h1
      simp only [Int.toNat_natCast] at h1 h
      cases h
      rw [if_neg h1, if_neg h1] at this; exact this
  · cases h
theorem eqPackets_fun (a b : List (Int × Int × List UInt8 × Unit)) (hm : a.length ≤ maxI) : funK Try.prog (look [(134, .rd1 eqPacketG)]) (look [(4, eqPacketsE)]) Try.f72 [.sl (.pair (.int .i64) (.pair (.int .i64) (.pair .str .unit))) a, .sl (.pair (.int .i64) (.pair (.int .i64) (.pair .str .unit))) b] [] = some (.b (decide (a = b)), []) := by
  have e : funK Try.prog (look [(134, .rd1 eqPacketG)]) (look [(4, eqPacketsE)]) Try.f72 [.sl (.pair (.int .i64) (.pair (.int .i64) (.pair .str .unit))) a, .sl (.pair (.int .i64) (.pair (.int .i64) (.pair .str .unit))) b] [] =
    ((ifB ((↑a.length : Int) != (↑b.length : Int)) (some (V.b false, []))
  (ifT (decide ((0 : Int) ≤ (0 : Int) ∧ a.length = b.length ∧ (0 : Nat) ≤ a.length ∧ a.length ≤ maxI))
  (ifB (decide (List.drop (0 : Nat) a = List.drop (0 : Nat) b)) (some (V.b true, [])) (some (V.b false, []))))) : _) := by kernel_rfl
  rw [e]
  by_cases h1 : a.length = b.length
  · by_cases h2 : a = b <;> simp [h1, h2, show b.length ≤ maxI by omega]
  · have h2 : a ≠ b := fun e => h1 (by rw [e])
    simp [h1, h2]
theorem eqPackets : Contract Try.prog 72 (Ent.rd1 eqPacketsG).F := by
  refine fun_contract' (KnowsL.cons (enters_fn Try.func134 (by kernel_rfl) (by kernel_rfl)) eqPacket KnowsL.nil).knows (Λ := (look [(4, eqPacketsE)])) Try.func72 (c := Try.f72.body.getD .skip) (by kernel_rfl) fun vs bs r h hv hb => ?_
  unfold Ent.F eqPacketsG at h
  dsimp only at h
  split at h
  · rename_i a b
    exact ⟨eqPackets_ok, (eqPackets_fun a b (hv (.sl (.pair (.int .i64) (.pair (.int .i64) (.pair .str .unit))) a) (by simp)).1).trans (by cases h; rfl)⟩
  · cases h
theorem eqAck_fun (a0 b0 : Int) (a1 b1 : Int) : funK Try.prog (look []) (look []) Try.f135 [.agg [.i .i64 a0, .i .i64 a1], .agg [.i .i64 b0, .i .i64 b1]] [] = some (.b (decide (a0 = b0 ∧ a1 = b1)), []) := by
  have e : funK Try.prog (look []) (look []) Try.f135 [.agg [.i .i64 a0, .i .i64 a1], .agg [.i .i64 b0, .i .i64 b1]] [] =
    ((ifB (a0 != b0) (some (V.b false, [])) (ifB (a1 != b1) (some (V.b false, [])) (some (V.b true, [])))) : _) := by kernel_rfl
  rw [e]
  by_cases h0 : a0 = b0 <;> by_cases h1 : a1 = b1 <;> simp [h0, h1]
theorem eqAck : Contract Try.prog 135 (Ent.rd1 eqAckG).F := by
  refine fun_contract' (KnowsL.nil).knows (Λ := look []) Try.func135 (c := Try.f135.body.getD .skip) (by kernel_rfl) fun vs bs r h hv hb => ?_
  unfold Ent.F eqAckG at h
  dsimp only at h
  split at h
  · exact ⟨loopsOk_nil _, (eqAck_fun _ _ _ _ ).trans (by cases h; rfl)⟩
  · cases h
theorem eqAcks_round (a b : List (Int × Int × Unit)) (r : Bool) (n : Nat) : roundK Try.prog (look [(135, .rd1 eqAckG)]) (look [(4, eqAcksE)]) 0 (body Try.f73 0) eqAcksE ([.sl (.pair (.int .i64) (.pair (.int .i64) .unit)) a, .sl (.pair (.int .i64) (.pair (.int .i64) .unit)) b, .b r, .i .i64 n], []) =
  ((ifB (decide ((↑n : Int) < (↑a.length : Int)))
  (ifT (decide ((0 : Int) ≤ (↑n : Int)) && decide ((↑n : Int) < (↑a.length : Int)))
  (ifSome a[((↑n : Int)).toNat]? fun z =>
  ifT (decide ((0 : Int) ≤ (↑n : Int)) && decide ((↑n : Int) < (↑b.length : Int)))
  (ifSome b[((↑n : Int)).toNat]? fun z_1 =>
  ifB (!decide (z.fst = z_1.fst ∧ z.snd.fst = z_1.snd.fst)) (some (Ex.ret, [V.b false], []))
  (some
  (Ex.normal,
  [V.sl ((Cd.int IntKind.i64).pair ((Cd.int IntKind.i64).pair Cd.unit)) a,
  V.sl ((Cd.int IntKind.i64).pair ((Cd.int IntKind.i64).pair Cd.unit)) b, V.b r,
  V.i IntKind.i64 (IntKind.i64.wrap ((↑n : Int) + (1 : Int)))],
  [])))))
  (some (Ex.exit (0 : Nat), [V.b r], []))) : _) := by kernel_rfl
theorem eqAcks_loop {a b : List (Int × Int × Unit)} {r : Bool} (hl : a.length = b.length) (hm : a.length ≤ maxI) : ∀ (k n : Nat), n + k = a.length →
    Runs Try.prog (look [(135, .rd1 eqAckG)]) (look [(4, eqAcksE)]) 0 (body Try.f73 0) eqAcksE ([.sl (.pair (.int .i64) (.pair (.int .i64) .unit)) a, .sl (.pair (.int .i64) (.pair (.int .i64) .unit)) b, .b r, .i .i64 n], []) (if a.drop n = b.drop n then .exit 0 else .ret) ([.b (if a.drop n = b.drop n then r else false)], [])
  | 0, n, hn => by
    have e1 : a.drop n = [] := List.drop_eq_nil_of_le (by omega)
    have e2 : b.drop n = [] := List.drop_eq_nil_of_le (by omega)
    refine .stop _ _ _ ((eqAcks_round a b r n).trans ?_) (by simp [e1, e2])
    simp [e1, e2, show ¬ n < a.length by omega]
  | k + 1, n, hn => by
    have h1 : n < a.length := by omega
    have h2 : n < b.length := by omega
    have hd : (a.drop n = b.drop n) = (a[n] = b[n] ∧ a.drop (n+1) = b.drop (n+1)) := by rw [List.drop_eq_getElem_cons h1, List.drop_eq_getElem_cons h2, List.cons.injEq]
    have hr := eqAcks_round a b r n
    simp only [Int.toNat_natCast, List.getElem?_eq_getElem h1, List.getElem?_eq_getElem h2, wrap_succ (n := n) (by omega)] at hr
    by_cases he : a[n] = b[n]
    · refine .step _ _ _ (d1 := ([.sl (.pair (.int .i64) (.pair (.int .i64) .unit)) a, .sl (.pair (.int .i64) (.pair (.int .i64) .unit)) b, .b r, .i .i64 ((n + 1 : Nat) : Int)], [])) (hr.trans (by simp [h1, h2, he])) ?_
      simp only [hd, he, true_and]
      exact eqAcks_loop hl hm k (n + 1) (by omega)
    · exact .stop _ _ _ (hr.trans (by simp [h1, h2, hd, he]; exact fun q0 q1 => he (Prod.ext q0 (Prod.ext q1 rfl)))) (by simp [hd, he])
theorem eqAcks_ok : LoopsOk Try.prog (look [(135, .rd1 eqAckG)]) (look [(4, eqAcksE)]) 0 (Try.f73.body.getD .skip) := by
  refine loopsOk_one (a := body Try.f73 0) (by kernel_rfl) fun d e d' h => ?_
  unfold eqAcksE at h
  dsimp only at h
  split at h
  · rename_i a b r n
    obtain ⟨hc, h⟩ := need_some h
    have hc := of_decide_eq_true hc
    obtain ⟨n, rfl⟩ := Int.eq_ofNat_of_zero_le hc.1
    have := eqAcks_loop (r := r) hc.2.1 hc.2.2.2 _ n (Nat.add_sub_of_le hc.2.2.1)
    rcases br_some h with ⟨h1, h⟩ | ⟨h1, h⟩
    · have h1 := of_decide_eq_true h1
      simp only [Int.toNat_natCast] at h1 h
      cases h
      rw [if_pos h1, if_pos h1] at this; exact this
    · have h1 := of_decide_eq_false h1
      simp only [Int.toNat_natCast] at h1 h
      cases h
      rw [if_neg h1, if_neg h1] at this; exact this
  · cases h
theorem eqAcks_fun (a b : List (Int × Int × Unit)) (hm : a.length ≤ maxI) : funK Try.prog (look [(135, .rd1 eqAckG)]) (look [(4, eqAcksE)]) Try.f73 [.sl (.pair (.int .i64) (.pair (.int .i64) .unit)) a, .sl (.pair (.int .i64) (.pair (.int .i64) .unit)) b] [] = some (.b (decide (a = b)), []) := by
  have e : funK Try.prog (look [(135, .rd1 eqAckG)]) (look [(4, eqAcksE)]) Try.f73 [.sl (.pair (.int .i64) (.pair (.int .i64) .unit)) a, .sl (.pair (.int .i64) (.pair (.int .i64) .unit)) b] [] =
    ((ifB ((↑a.length : Int) != (↑b.length : Int)) (some (V.b false, []))
  (ifT (decide ((0 : Int) ≤ (0 : Int) ∧ a.length = b.length ∧ (0 : Nat) ≤ a.length ∧ a.length ≤ maxI))
  (ifB (decide (List.drop (0 : Nat) a = List.drop (0 : Nat) b)) (some (V.b true, [])) (some (V.b false, []))))) : _) := by kernel_rfl
  rw [e]
  by_cases h1 : a.length = b.length
  · by_cases h2 : a = b <;> simp [h1, h2, show b.length ≤ maxI by omega]
  · have h2 : a ≠ b := fun e => h1 (by rw [e])
    simp [h1, h2]
theorem eqAcks : Contract Try.prog 73 (Ent.rd1 eqAcksG).F := by
  refine fun_contract' (KnowsL.cons (enters_fn Try.func135 (by kernel_rfl) (by kernel_rfl)) eqAck KnowsL.nil).knows (Λ := (look [(4, eqAcksE)])) Try.func73 (c := Try.f73.body.getD .skip) (by kernel_rfl) fun vs bs r h hv hb => ?_
  unfold Ent.F eqAcksG at h
  dsimp only at h
  split at h
  · rename_i a b
    exact ⟨eqAcks_ok, (eqAcks_fun a b (hv (.sl (.pair (.int .i64) (.pair (.int .i64) .unit)) a) (by simp)).1).trans (by cases h; rfl)⟩
  · cases h
end Go.Proofs.Ytjghbihlgfjebaa.Den
