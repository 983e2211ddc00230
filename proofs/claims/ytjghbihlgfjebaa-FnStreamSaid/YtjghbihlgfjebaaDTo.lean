/- What functions of the program do, by the machine: To. -/
import Derived.Test.YtjghbihlgfjebaaDSes
import Derived.KernelRfl
import Derived.Test.YtjghbihlgfjebaaRows
namespace Go.Proofs.Ytjghbihlgfjebaa.Den
open Go.Proofs
set_option maxRecDepth 100000
def toStrsE : LoopEnt := ⟨22, [0,3,4], [3], [], fun
  | ([.sl .str l, .ref 0 0 m, .i .i64 n], [some (.row false none .str r)]) =>
    .need (decide (0 ≤ n ∧ m = l.length ∧ r.length = l.length ∧ n.toNat ≤ l.length ∧ l.length ≤ maxI)) (.leaf (.exit 0, ([.ref 0 0 m], [some (.row false none .str (r.take n.toNat ++ l.drop n.toNat))])))
  | _ => .no⟩
def toStrsG : List V → List Blk → Br (V × List (Option Blk))
  | [.sl .str l], [] => .need (decide (l.length ≤ 1000000000)) (.leaf (.ref 0 0 l.length, [some (.row false none .str l)]))
  | _, _ => .no
def toPacketG : List V → List Blk → Br (V × List (Option Blk))
  | [.agg [.i .i64 a0, .i .i64 a1, .s a2]], [] => .leaf (.agg [.i .i64 a0, .i .i64 a1, .s a2], [])
  | _, _ => .no
def toPacketsE : LoopEnt := ⟨23, [0,3,4], [3], [], fun
  | ([.sl (.pair (.int .i64) (.pair (.int .i64) (.pair .str .unit))) l, .ref 0 0 m, .i .i64 n], [some (.row false none (.pair (.int .i64) (.pair (.int .i64) (.pair .str .unit))) r)]) =>
    .need (decide (0 ≤ n ∧ m = l.length ∧ r.length = l.length ∧ n.toNat ≤ l.length ∧ l.length ≤ maxI)) (.leaf (.exit 0, ([.ref 0 0 m], [some (.row false none (.pair (.int .i64) (.pair (.int .i64) (.pair .str .unit))) (r.take n.toNat ++ l.drop n.toNat))])))
  | _ => .no⟩
def toPacketsG : List V → List Blk → Br (V × List (Option Blk))
  | [.sl (.pair (.int .i64) (.pair (.int .i64) (.pair .str .unit))) l], [] => .need (decide (l.length ≤ 1000000000)) (.leaf (.ref 0 0 l.length, [some (.row false none (.pair (.int .i64) (.pair (.int .i64) (.pair .str .unit))) l)]))
  | _, _ => .no
def toAckG : List V → List Blk → Br (V × List (Option Blk))
  | [.agg [.i .i64 a0, .i .i64 a1]], [] => .leaf (.agg [.i .i64 a0, .i .i64 a1], [])
  | _, _ => .no
def toAcksE : LoopEnt := ⟨23, [0,3,4], [3], [], fun
  | ([.sl (.pair (.int .i64) (.pair (.int .i64) .unit)) l, .ref 0 0 m, .i .i64 n], [some (.row false none (.pair (.int .i64) (.pair (.int .i64) .unit)) r)]) =>
    .need (decide (0 ≤ n ∧ m = l.length ∧ r.length = l.length ∧ n.toNat ≤ l.length ∧ l.length ≤ maxI)) (.leaf (.exit 0, ([.ref 0 0 m], [some (.row false none (.pair (.int .i64) (.pair (.int .i64) .unit)) (r.take n.toNat ++ l.drop n.toNat))])))
  | _ => .no⟩
def toAcksG : List V → List Blk → Br (V × List (Option Blk))
  | [.sl (.pair (.int .i64) (.pair (.int .i64) .unit)) l], [] => .need (decide (l.length ≤ 1000000000)) (.leaf (.ref 0 0 l.length, [some (.row false none (.pair (.int .i64) (.pair (.int .i64) .unit)) l)]))
  | _, _ => .no
theorem toStrs_round (l r : List (List UInt8)) (m n : Nat) : roundK Try.prog (look []) (look [(3, toStrsE)]) 0 (body Try.f65 0) toStrsE ([.sl .str l, .ref 0 0 m, .i .i64 n], [some (.row false none .str r)]) =
  ((ifB (decide ((↑n : Int) < (↑l.length : Int)))
  (ifT (decide ((0 : Int) ≤ (↑n : Int)) && decide ((↑n : Int) < (↑l.length : Int)))
  (ifSome l[((↑n : Int)).toNat]? fun z =>
  ifT (decide ((0 : Int) ≤ (↑n : Int)) && decide ((↑n : Int) < (↑m : Int)))
  (ifSome r[(0 : Nat) + ((↑n : Int)).toNat]? fun z_1 =>
  some
  (Ex.normal,
  [V.sl Cd.str l, V.ref (0 : Nat) (0 : Nat) m,
  V.i IntKind.i64 (IntKind.i64.wrap ((↑n : Int) + (1 : Int)))],
  [some (Blk.row false none Cd.str (r.set ((0 : Nat) + ((↑n : Int)).toNat) z))]))))
  (some (Ex.exit (0 : Nat), [V.ref (0 : Nat) (0 : Nat) m], [some (Blk.row false none Cd.str r)]))) : _) := by kernel_rfl
theorem toStrs_loop {l : List (List UInt8)} {m : Nat} (hm : m = l.length) (hx : l.length ≤ maxI) : ∀ (k n : Nat) (r : List (List UInt8)), n + k = l.length → r.length = l.length →
    Runs Try.prog (look []) (look [(3, toStrsE)]) 0 (body Try.f65 0) toStrsE ([.sl .str l, .ref 0 0 m, .i .i64 n], [some (.row false none .str r)]) (.exit 0) ([.ref 0 0 m], [some (.row false none .str (r.take n ++ l.drop n))])
  | 0, n, r, hn, hr => by
    refine .stop _ _ _ ((toStrs_round l r m n).trans ?_) (by simp)
    simp [show ¬ n < l.length by omega, show r.take n = r from List.take_of_length_le (by omega), show l.drop n = [] from List.drop_eq_nil_of_le (by omega)]
  | k + 1, n, r, hn, hr => by
    have h1 : n < l.length := by omega
    have h2 : n < r.length := by omega
    have h3 : n < m := by omega
    have hq := toStrs_round l r m n
    simp only [Int.toNat_natCast, List.getElem?_eq_getElem h1, Nat.zero_add, List.getElem?_eq_getElem h2, wrap_succ (n := n) (by omega)] at hq
    refine .step _ _ _ (d1 := ([.sl .str l, .ref 0 0 m, .i .i64 ((n + 1 : Nat) : Int)], [some (.row false none .str (r.set n l[n]))])) (hq.trans ?_) ?_
    · simp [h1, h2, h3]
    · have := toStrs_loop hm hx k (n + 1) (r.set n l[n]) (by omega) (by simp; omega)
      rw [set_take h2, List.append_assoc, List.singleton_append, ← List.drop_eq_getElem_cons h1] at this
      exact this
theorem toStrs_ok : LoopsOk Try.prog (look []) (look [(3, toStrsE)]) 0 (Try.f65.body.getD .skip) := by
  refine loopsOk_one (a := body Try.f65 0) (by kernel_rfl) fun d e d' h => ?_
  unfold toStrsE at h
  dsimp only at h
  split at h
  · obtain ⟨hc, h⟩ := need_some h
    have hc := of_decide_eq_true hc
    obtain ⟨n, rfl⟩ := Int.eq_ofNat_of_zero_le hc.1
    cases h
    exact toStrs_loop hc.2.1 hc.2.2.2.2 _ n _ (Nat.add_sub_of_le hc.2.2.2.1) hc.2.2.1
  · cases h
theorem toStrs_fun (l : List (List UInt8)) (hx : l.length ≤ 1000000000) : funK Try.prog (look []) (look [(3, toStrsE)]) Try.f65 [.sl .str l] [] = some (.ref 0 0 l.length, [some (.row false none .str l)]) := by
  have e : funK Try.prog (look []) (look [(3, toStrsE)]) Try.f65 [.sl .str l] [] =
    ((ifT
  (decide ((0 : Int) ≤ (↑l.length : Int)) && decide ((↑l.length : Int) ≤ (↑l.length : Int)) &&
  decide ((↑l.length : Int) * (↑(16 : Nat) : Int) ≤ (140737488355328 : Int)) &&
  decide ((↑l.length : Int) ≤ (9223372036854775807 : Int)))
  (ifT
  (decide
  ((0 : Int) ≤ (0 : Int) ∧
  (↑l.length : Int).toNat = l.length ∧
  (List.replicate (↑l.length : Int).toNat (nilT UInt8)).length = l.length ∧
  (0 : Nat) ≤ l.length ∧ l.length ≤ maxI))
  (some
  (V.ref (0 : Nat) (0 : Nat) (↑l.length : Int).toNat,
  [some (Blk.row false none Cd.str (nilT Cd.str.den ++ List.drop (0 : Nat) l))])))) : _) := by kernel_rfl
  rw [e]
  have hx' : l.length ≤ maxI := Nat.le_trans hx (by decide)
  simp [hx']
  omega
theorem toStrs : Contract Try.prog 65 (Ent.rd1 toStrsG).F := by
  refine fun_contract' KnowsL.nil.knows (Λ := (look [(3, toStrsE)])) Try.func65 (c := Try.f65.body.getD .skip) (by kernel_rfl) fun vs bs r h hv hb => ?_
  unfold Ent.F toStrsG at h
  dsimp only at h
  split at h
  · rename_i l
    obtain ⟨hc, h⟩ := need_some h
    exact ⟨toStrs_ok, (toStrs_fun l (of_decide_eq_true hc)).trans (by cases h; rfl)⟩
  · cases h
theorem toPacket_fun (a0 : Int) (a1 : Int) (a2 : List UInt8) : funK Try.prog (look []) (look []) Try.f126 [.agg [.i .i64 a0, .i .i64 a1, .s a2]] [] = some (.agg [.i .i64 a0, .i .i64 a1, .s a2], []) := by kernel_rfl
theorem toPacket : Contract Try.prog 126 (Ent.rd1 toPacketG).F := by
  refine fun_contract' (KnowsL.nil).knows (Λ := look []) Try.func126 (c := Try.f126.body.getD .skip) (by kernel_rfl) fun vs bs r h _ _ => ?_
  unfold Ent.F toPacketG at h
  dsimp only at h
  split at h
  · exact ⟨loopsOk_nil _, (toPacket_fun _ _ _ ).trans (by cases h; rfl)⟩
  · cases h
theorem toPackets_round (l r : List (Int × Int × List UInt8 × Unit)) (m n : Nat) : roundK Try.prog (look [(126, .rd1 toPacketG)]) (look [(3, toPacketsE)]) 0 (body Try.f66 0) toPacketsE ([.sl (.pair (.int .i64) (.pair (.int .i64) (.pair .str .unit))) l, .ref 0 0 m, .i .i64 n], [some (.row false none (.pair (.int .i64) (.pair (.int .i64) (.pair .str .unit))) r)]) =
  ((ifB (decide ((↑n : Int) < (↑l.length : Int)))
  (ifT (decide ((0 : Int) ≤ (↑n : Int)) && decide ((↑n : Int) < (↑l.length : Int)))
  (ifSome l[((↑n : Int)).toNat]? fun z =>
  ifT (decide ((0 : Int) ≤ (↑n : Int)) && decide ((↑n : Int) < (↑m : Int)))
  (ifSome r[(0 : Nat) + ((↑n : Int)).toNat]? fun z_1 =>
  some
  (Ex.normal,
  [V.sl ((Cd.int IntKind.i64).pair ((Cd.int IntKind.i64).pair (Cd.str.pair Cd.unit))) l,
  V.ref (0 : Nat) (0 : Nat) m, V.i IntKind.i64 (IntKind.i64.wrap ((↑n : Int) + (1 : Int)))],
  [some
  (Blk.row false none ((Cd.int IntKind.i64).pair ((Cd.int IntKind.i64).pair (Cd.str.pair Cd.unit)))
  (r.set ((0 : Nat) + ((↑n : Int)).toNat) (z.fst, z.snd.fst, z.snd.snd.fst, ())))]))))
  (some
  (Ex.exit (0 : Nat), [V.ref (0 : Nat) (0 : Nat) m],
  [some (Blk.row false none ((Cd.int IntKind.i64).pair ((Cd.int IntKind.i64).pair (Cd.str.pair Cd.unit))) r)]))) : _) := by kernel_rfl
theorem toPackets_loop {l : List (Int × Int × List UInt8 × Unit)} {m : Nat} (hm : m = l.length) (hx : l.length ≤ maxI) : ∀ (k n : Nat) (r : List (Int × Int × List UInt8 × Unit)), n + k = l.length → r.length = l.length →
    Runs Try.prog (look [(126, .rd1 toPacketG)]) (look [(3, toPacketsE)]) 0 (body Try.f66 0) toPacketsE ([.sl (.pair (.int .i64) (.pair (.int .i64) (.pair .str .unit))) l, .ref 0 0 m, .i .i64 n], [some (.row false none (.pair (.int .i64) (.pair (.int .i64) (.pair .str .unit))) r)]) (.exit 0) ([.ref 0 0 m], [some (.row false none (.pair (.int .i64) (.pair (.int .i64) (.pair .str .unit))) (r.take n ++ l.drop n))])
  | 0, n, r, hn, hr => by
    refine .stop _ _ _ ((toPackets_round l r m n).trans ?_) (by simp)
    simp [show ¬ n < l.length by omega, show r.take n = r from List.take_of_length_le (by omega), show l.drop n = [] from List.drop_eq_nil_of_le (by omega)]
  | k + 1, n, r, hn, hr => by
    have h1 : n < l.length := by omega
    have h2 : n < r.length := by omega
    have h3 : n < m := by omega
    have hq := toPackets_round l r m n
    simp only [Int.toNat_natCast, List.getElem?_eq_getElem h1, Nat.zero_add, List.getElem?_eq_getElem h2, wrap_succ (n := n) (by omega)] at hq
    refine .step _ _ _ (d1 := ([.sl (.pair (.int .i64) (.pair (.int .i64) (.pair .str .unit))) l, .ref 0 0 m, .i .i64 ((n + 1 : Nat) : Int)], [some (.row false none (.pair (.int .i64) (.pair (.int .i64) (.pair .str .unit))) (r.set n l[n]))])) (hq.trans ?_) ?_
    · simp [h1, h2, h3]
    · have := toPackets_loop hm hx k (n + 1) (r.set n l[n]) (by omega) (by simp; omega)
      rw [set_take h2, List.append_assoc, List.singleton_append, ← List.drop_eq_getElem_cons h1] at this
      exact this
theorem toPackets_ok : LoopsOk Try.prog (look [(126, .rd1 toPacketG)]) (look [(3, toPacketsE)]) 0 (Try.f66.body.getD .skip) := by
  refine loopsOk_one (a := body Try.f66 0) (by kernel_rfl) fun d e d' h => ?_
  unfold toPacketsE at h
  dsimp only at h
  split at h
  · obtain ⟨hc, h⟩ := need_some h
    have hc := of_decide_eq_true hc
    obtain ⟨n, rfl⟩ := Int.eq_ofNat_of_zero_le hc.1
    cases h
    exact toPackets_loop hc.2.1 hc.2.2.2.2 _ n _ (Nat.add_sub_of_le hc.2.2.2.1) hc.2.2.1
  · cases h
theorem toPackets_fun (l : List (Int × Int × List UInt8 × Unit)) (hx : l.length ≤ 1000000000) : funK Try.prog (look [(126, .rd1 toPacketG)]) (look [(3, toPacketsE)]) Try.f66 [.sl (.pair (.int .i64) (.pair (.int .i64) (.pair .str .unit))) l] [] = some (.ref 0 0 l.length, [some (.row false none (.pair (.int .i64) (.pair (.int .i64) (.pair .str .unit))) l)]) := by
  have e : funK Try.prog (look [(126, .rd1 toPacketG)]) (look [(3, toPacketsE)]) Try.f66 [.sl (.pair (.int .i64) (.pair (.int .i64) (.pair .str .unit))) l] [] =
    ((ifT
  (decide ((0 : Int) ≤ (↑l.length : Int)) && decide ((↑l.length : Int) ≤ (↑l.length : Int)) &&
  decide ((↑l.length : Int) * (↑(32 : Nat) : Int) ≤ (140737488355328 : Int)) &&
  decide ((↑l.length : Int) ≤ (9223372036854775807 : Int)))
  (ifT
  (decide
  ((0 : Int) ≤ (0 : Int) ∧
  (↑l.length : Int).toNat = l.length ∧
  (List.replicate (↑l.length : Int).toNat ((0 : Int), (0 : Int), nilT UInt8, ())).length = l.length ∧
  (0 : Nat) ≤ l.length ∧ l.length ≤ maxI))
  (some
  (V.ref (0 : Nat) (0 : Nat) (↑l.length : Int).toNat,
  [some
  (Blk.row false none ((Cd.int IntKind.i64).pair ((Cd.int IntKind.i64).pair (Cd.str.pair Cd.unit)))
  (nilT ((Cd.int IntKind.i64).pair ((Cd.int IntKind.i64).pair (Cd.str.pair Cd.unit))).den ++
  List.drop (0 : Nat) l))])))) : _) := by kernel_rfl
  rw [e]
  have hx' : l.length ≤ maxI := Nat.le_trans hx (by decide)
  simp [hx']
  omega
theorem toPackets : Contract Try.prog 66 (Ent.rd1 toPacketsG).F := by
  refine fun_contract' (KnowsL.cons (enters_fn Try.func126 (by kernel_rfl) (by kernel_rfl)) toPacket KnowsL.nil).knows (Λ := (look [(3, toPacketsE)])) Try.func66 (c := Try.f66.body.getD .skip) (by kernel_rfl) fun vs bs r h hv hb => ?_
  unfold Ent.F toPacketsG at h
  dsimp only at h
  split at h
  · rename_i l
    obtain ⟨hc, h⟩ := need_some h
    exact ⟨toPackets_ok, (toPackets_fun l (of_decide_eq_true hc)).trans (by cases h; rfl)⟩
  · cases h
theorem toAck_fun (a0 : Int) (a1 : Int) : funK Try.prog (look []) (look []) Try.f127 [.agg [.i .i64 a0, .i .i64 a1]] [] = some (.agg [.i .i64 a0, .i .i64 a1], []) := by kernel_rfl
theorem toAck : Contract Try.prog 127 (Ent.rd1 toAckG).F := by
  refine fun_contract' (KnowsL.nil).knows (Λ := look []) Try.func127 (c := Try.f127.body.getD .skip) (by kernel_rfl) fun vs bs r h _ _ => ?_
  unfold Ent.F toAckG at h
  dsimp only at h
  split at h
  · exact ⟨loopsOk_nil _, (toAck_fun _ _ ).trans (by cases h; rfl)⟩
  · cases h
theorem toAcks_round (l r : List (Int × Int × Unit)) (m n : Nat) : roundK Try.prog (look [(127, .rd1 toAckG)]) (look [(3, toAcksE)]) 0 (body Try.f67 0) toAcksE ([.sl (.pair (.int .i64) (.pair (.int .i64) .unit)) l, .ref 0 0 m, .i .i64 n], [some (.row false none (.pair (.int .i64) (.pair (.int .i64) .unit)) r)]) =
  ((ifB (decide ((↑n : Int) < (↑l.length : Int)))
  (ifT (decide ((0 : Int) ≤ (↑n : Int)) && decide ((↑n : Int) < (↑l.length : Int)))
  (ifSome l[((↑n : Int)).toNat]? fun z =>
  ifT (decide ((0 : Int) ≤ (↑n : Int)) && decide ((↑n : Int) < (↑m : Int)))
  (ifSome r[(0 : Nat) + ((↑n : Int)).toNat]? fun z_1 =>
  some
  (Ex.normal,
  [V.sl ((Cd.int IntKind.i64).pair ((Cd.int IntKind.i64).pair Cd.unit)) l, V.ref (0 : Nat) (0 : Nat) m,
  V.i IntKind.i64 (IntKind.i64.wrap ((↑n : Int) + (1 : Int)))],
  [some
  (Blk.row false none ((Cd.int IntKind.i64).pair ((Cd.int IntKind.i64).pair Cd.unit))
  (r.set ((0 : Nat) + ((↑n : Int)).toNat) (z.fst, z.snd.fst, ())))]))))
  (some
  (Ex.exit (0 : Nat), [V.ref (0 : Nat) (0 : Nat) m],
  [some (Blk.row false none ((Cd.int IntKind.i64).pair ((Cd.int IntKind.i64).pair Cd.unit)) r)]))) : _) := by kernel_rfl
theorem toAcks_loop {l : List (Int × Int × Unit)} {m : Nat} (hm : m = l.length) (hx : l.length ≤ maxI) : ∀ (k n : Nat) (r : List (Int × Int × Unit)), n + k = l.length → r.length = l.length →
    Runs Try.prog (look [(127, .rd1 toAckG)]) (look [(3, toAcksE)]) 0 (body Try.f67 0) toAcksE ([.sl (.pair (.int .i64) (.pair (.int .i64) .unit)) l, .ref 0 0 m, .i .i64 n], [some (.row false none (.pair (.int .i64) (.pair (.int .i64) .unit)) r)]) (.exit 0) ([.ref 0 0 m], [some (.row false none (.pair (.int .i64) (.pair (.int .i64) .unit)) (r.take n ++ l.drop n))])
  | 0, n, r, hn, hr => by
    refine .stop _ _ _ ((toAcks_round l r m n).trans ?_) (by simp)
    simp [show ¬ n < l.length by omega, show r.take n = r from List.take_of_length_le (by omega), show l.drop n = [] from List.drop_eq_nil_of_le (by omega)]
  | k + 1, n, r, hn, hr => by
    have h1 : n < l.length := by omega
    have h2 : n < r.length := by omega
    have h3 : n < m := by omega
    have hq := toAcks_round l r m n
    simp only [Int.toNat_natCast, List.getElem?_eq_getElem h1, Nat.zero_add, List.getElem?_eq_getElem h2, wrap_succ (n := n) (by omega)] at hq
    refine .step _ _ _ (d1 := ([.sl (.pair (.int .i64) (.pair (.int .i64) .unit)) l, .ref 0 0 m, .i .i64 ((n + 1 : Nat) : Int)], [some (.row false none (.pair (.int .i64) (.pair (.int .i64) .unit)) (r.set n l[n]))])) (hq.trans ?_) ?_
    · simp [h1, h2, h3]
    · have := toAcks_loop hm hx k (n + 1) (r.set n l[n]) (by omega) (by simp; omega)
      rw [set_take h2, List.append_assoc, List.singleton_append, ← List.drop_eq_getElem_cons h1] at this
      exact this
theorem toAcks_ok : LoopsOk Try.prog (look [(127, .rd1 toAckG)]) (look [(3, toAcksE)]) 0 (Try.f67.body.getD .skip) := by
  refine loopsOk_one (a := body Try.f67 0) (by kernel_rfl) fun d e d' h => ?_
  unfold toAcksE at h
  dsimp only at h
  split at h
  · obtain ⟨hc, h⟩ := need_some h
    have hc := of_decide_eq_true hc
    obtain ⟨n, rfl⟩ := Int.eq_ofNat_of_zero_le hc.1
    cases h
    exact toAcks_loop hc.2.1 hc.2.2.2.2 _ n _ (Nat.add_sub_of_le hc.2.2.2.1) hc.2.2.1
  · cases h
theorem toAcks_fun (l : List (Int × Int × Unit)) (hx : l.length ≤ 1000000000) : funK Try.prog (look [(127, .rd1 toAckG)]) (look [(3, toAcksE)]) Try.f67 [.sl (.pair (.int .i64) (.pair (.int .i64) .unit)) l] [] = some (.ref 0 0 l.length, [some (.row false none (.pair (.int .i64) (.pair (.int .i64) .unit)) l)]) := by
  have e : funK Try.prog (look [(127, .rd1 toAckG)]) (look [(3, toAcksE)]) Try.f67 [.sl (.pair (.int .i64) (.pair (.int .i64) .unit)) l] [] =
    ((ifT
  (decide ((0 : Int) ≤ (↑l.length : Int)) && decide ((↑l.length : Int) ≤ (↑l.length : Int)) &&
  decide ((↑l.length : Int) * (↑(16 : Nat) : Int) ≤ (140737488355328 : Int)) &&
  decide ((↑l.length : Int) ≤ (9223372036854775807 : Int)))
  (ifT
  (decide
  ((0 : Int) ≤ (0 : Int) ∧
  (↑l.length : Int).toNat = l.length ∧
  (List.replicate (↑l.length : Int).toNat ((0 : Int), (0 : Int), ())).length = l.length ∧
  (0 : Nat) ≤ l.length ∧ l.length ≤ maxI))
  (some
  (V.ref (0 : Nat) (0 : Nat) (↑l.length : Int).toNat,
  [some
  (Blk.row false none ((Cd.int IntKind.i64).pair ((Cd.int IntKind.i64).pair Cd.unit))
  (nilT ((Cd.int IntKind.i64).pair ((Cd.int IntKind.i64).pair Cd.unit)).den ++ List.drop (0 : Nat) l))])))) : _) := by kernel_rfl
  rw [e]
  have hx' : l.length ≤ maxI := Nat.le_trans hx (by decide)
  simp [hx']
  omega
theorem toAcks : Contract Try.prog 67 (Ent.rd1 toAcksG).F := by
  refine fun_contract' (KnowsL.cons (enters_fn Try.func127 (by kernel_rfl) (by kernel_rfl)) toAck KnowsL.nil).knows (Λ := (look [(3, toAcksE)])) Try.func67 (c := Try.f67.body.getD .skip) (by kernel_rfl) fun vs bs r h hv hb => ?_
  unfold Ent.F toAcksG at h
  dsimp only at h
  split at h
  · rename_i l
    obtain ⟨hc, h⟩ := need_some h
    exact ⟨toAcks_ok, (toAcks_fun l (of_decide_eq_true hc)).trans (by cases h; rfl)⟩
  · cases h
end Go.Proofs.Ytjghbihlgfjebaa.Den
