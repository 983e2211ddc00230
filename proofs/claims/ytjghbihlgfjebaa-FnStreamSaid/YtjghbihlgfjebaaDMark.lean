/- What functions of the program do, by the machine: Mark. -/
import Derived.Test.YtjghbihlgfjebaaDText
import Derived.KernelRfl
import Derived.Test.YtjghbihlgfjebaaRows
namespace Go.Proofs.Ytjghbihlgfjebaa.Den
open Go.Proofs
set_option maxRecDepth 100000
/-- n elements, the numbers going up by st. -/
def marks {α : Type} (g : Int → α) (st : Int) : Int → Nat → List α
  | _, 0 => []
  | k, n + 1 => g k :: marks g st (k + st) n
/-- The elements that laws.markStringS writes. -/
def markStr1 (k : Int) : (List UInt8) := mtext k
def markStrE : LoopEnt := ⟨20, [0,1,5], [1], [], fun
  | ([.ref 0 lo m, .i .i64 k, .i .i64 n], [some (.row false none .str l)]) =>
    .need (decide (0 ≤ n ∧ n.toNat ≤ m ∧ lo + m ≤ l.length ∧ m ≤ maxI ∧ 0 ≤ k ∧ k + 1 * (↑(m - n.toNat) : Int) ≤ lim))
      (.leaf (.exit 0, ([.i .i64 (k + 1 * (↑(m - n.toNat) : Int))], [some (.row false none .str (l.take (lo + n.toNat) ++ marks markStr1 1 k (m - n.toNat) ++ l.drop (lo + m)))])))
  | _ => .no⟩
def markStrG : List V → List Blk → Br (V × List (Option Blk))
  | [.ref 0 lo m, .i .i64 k], [.row false _ .str l] =>
    .need (decide (lo + m ≤ l.length ∧ 0 ≤ k ∧ k + 1 * (↑m : Int) ≤ lim)) (.leaf (.i .i64 (k + 1 * (↑m : Int)), [some (.row false none .str (l.take lo ++ marks markStr1 1 k m ++ l.drop (lo + m)))]))
  | _, _ => .no
/-- The elements that laws.markPacketS writes. -/
def markPacket1 (k : Int) : (Int × Int × List UInt8 × Unit) := (k, k + 1, mtext (k + 2), ())
def markPacketE : LoopEnt := ⟨35, [0,1,5], [1], [], fun
  | ([.ref 0 lo m, .i .i64 k, .i .i64 n], [some (.row false none (.pair (.int .i64) (.pair (.int .i64) (.pair .str .unit))) l)]) =>
    .need (decide (0 ≤ n ∧ n.toNat ≤ m ∧ lo + m ≤ l.length ∧ m ≤ maxI ∧ 0 ≤ k ∧ k + 3 * (↑(m - n.toNat) : Int) ≤ lim))
      (.leaf (.exit 0, ([.i .i64 (k + 3 * (↑(m - n.toNat) : Int))], [some (.row false none (.pair (.int .i64) (.pair (.int .i64) (.pair .str .unit))) (l.take (lo + n.toNat) ++ marks markPacket1 3 k (m - n.toNat) ++ l.drop (lo + m)))])))
  | _ => .no⟩
def markPacketG : List V → List Blk → Br (V × List (Option Blk))
  | [.ref 0 lo m, .i .i64 k], [.row false _ (.pair (.int .i64) (.pair (.int .i64) (.pair .str .unit))) l] =>
    .need (decide (lo + m ≤ l.length ∧ 0 ≤ k ∧ k + 3 * (↑m : Int) ≤ lim)) (.leaf (.i .i64 (k + 3 * (↑m : Int)), [some (.row false none (.pair (.int .i64) (.pair (.int .i64) (.pair .str .unit))) (l.take lo ++ marks markPacket1 3 k m ++ l.drop (lo + m)))]))
  | _, _ => .no
/-- The elements that laws.markAckS writes. -/
def markAck1 (k : Int) : (Int × Int × Unit) := (k, k + 1, ())
def markAckE : LoopEnt := ⟨27, [0,1,5], [1], [], fun
  | ([.ref 0 lo m, .i .i64 k, .i .i64 n], [some (.row false none (.pair (.int .i64) (.pair (.int .i64) .unit)) l)]) =>
    .need (decide (0 ≤ n ∧ n.toNat ≤ m ∧ lo + m ≤ l.length ∧ m ≤ maxI ∧ 0 ≤ k ∧ k + 2 * (↑(m - n.toNat) : Int) ≤ lim))
      (.leaf (.exit 0, ([.i .i64 (k + 2 * (↑(m - n.toNat) : Int))], [some (.row false none (.pair (.int .i64) (.pair (.int .i64) .unit)) (l.take (lo + n.toNat) ++ marks markAck1 2 k (m - n.toNat) ++ l.drop (lo + m)))])))
  | _ => .no⟩
def markAckG : List V → List Blk → Br (V × List (Option Blk))
  | [.ref 0 lo m, .i .i64 k], [.row false _ (.pair (.int .i64) (.pair (.int .i64) .unit)) l] =>
    .need (decide (lo + m ≤ l.length ∧ 0 ≤ k ∧ k + 2 * (↑m : Int) ≤ lim)) (.leaf (.i .i64 (k + 2 * (↑m : Int)), [some (.row false none (.pair (.int .i64) (.pair (.int .i64) .unit)) (l.take lo ++ marks markAck1 2 k m ++ l.drop (lo + m)))]))
  | _, _ => .no
theorem set_take {α : Type} {l : List α} {p : Nat} {e : α} (h : p < l.length) : (l.set p e).take (p + 1) = l.take p ++ [e] := by
  rw [List.take_add_one, List.getElem?_set_self h, List.take_set_of_le (Nat.le_refl p)]; rfl
theorem set_drop {α : Type} {l : List α} {p q : Nat} {e : α} (h : p < q) : (l.set p e).drop q = l.drop q := List.drop_set_of_lt h
theorem markStr_round (lo m : Nat) (k : Int) (l : List (List UInt8)) (n : Nat) : roundK Try.prog (look [(136, .rd1 markTextG)]) (look [(2, markStrE)]) 1 (body Try.f74 0) markStrE ([.ref 0 lo m, .i .i64 k, .i .i64 n], [some (.row false none .str l)]) =
  ((ifB (decide ((↑n : Int) < (↑m : Int)))
  (ifT (decide (k ≤ lim))
  (ifT (decide ((0 : Int) ≤ (↑n : Int)) && decide ((↑n : Int) < (↑m : Int)))
  (ifSome l[lo + ((↑n : Int)).toNat]? fun z =>
  some
  (Ex.normal,
  [V.ref (0 : Nat) lo m, V.i IntKind.i64 (IntKind.i64.wrap (k + (1 : Int))),
  V.i IntKind.i64 (IntKind.i64.wrap ((↑n : Int) + (1 : Int)))],
  [some (Blk.row false none Cd.str (l.set (lo + ((↑n : Int)).toNat) (mtext k)))]))))
  (some (Ex.exit (0 : Nat), [V.i IntKind.i64 k], [some (Blk.row false none Cd.str l)]))) : _) := by kernel_rfl
theorem markStr_loop {lo m : Nat} (hm : m ≤ maxI) : ∀ (j n : Nat) (k : Int) (l : List (List UInt8)), n + j = m → lo + m ≤ l.length → 0 ≤ k → k + 1 * (j : Int) ≤ lim →
    Runs Try.prog (look [(136, .rd1 markTextG)]) (look [(2, markStrE)]) 1 (body Try.f74 0) markStrE ([.ref 0 lo m, .i .i64 k, .i .i64 n], [some (.row false none .str l)]) (.exit 0) ([.i .i64 (k + 1 * (j : Int))], [some (.row false none .str (l.take (lo + n) ++ marks markStr1 1 k j ++ l.drop (lo + m)))])
  | 0, n, k, l, hn, hl, h0, hk => by
    obtain rfl : n = m := by omega
    refine .stop _ _ _ ((markStr_round lo n k l n).trans ?_) (by simp)
    simp [marks]
  | j + 1, n, k, l, hn, hl, h0, hk => by
    have h1 : n < m := by omega
    have h2 : lo + n < l.length := by omega
    unfold lim at hk
    have hr := markStr_round lo m k l n
    have hw : ∀ i : Int, 0 ≤ i → i ≤ 1 → IntKind.i64.wrap (k + i) = k + i := fun i hi hi' => wrap_id (by omega) (by omega)
    simp only [Int.toNat_natCast, List.getElem?_eq_getElem h2, wrap_succ (n := n) (by omega)] at hr
    refine .step _ _ _ (d1 := ([.ref 0 lo m, .i .i64 (k + 1), .i .i64 ((n + 1 : Nat) : Int)], [some (.row false none .str (l.set (lo + n) (markStr1 k)))])) (hr.trans ?_) ?_
    · simp [h1, h2, markStr1, lim, hw 1 (by omega) (by omega), Int.add_assoc, show k ≤ 1000000000000 by omega]
    · have := markStr_loop hm j (n + 1) (k + 1) (l.set (lo + n) (markStr1 k)) (by omega) (by simp; omega) (by omega) (by unfold lim; push_cast at hk; omega)
      rw [show lo + (n + 1) = lo + n + 1 from rfl, set_take h2, set_drop (show lo + n < lo + m by omega)] at this
      have e : k + 1 + 1 * (j : Int) = k + 1 * ((j + 1 : Nat) : Int) := by push_cast; omega
      rw [e] at this
      simpa [marks] using this
theorem markStr_ok : LoopsOk Try.prog (look [(136, .rd1 markTextG)]) (look [(2, markStrE)]) 1 (Try.f74.body.getD .skip) := by
  refine loopsOk_one (a := body Try.f74 0) (by kernel_rfl) fun d e d' h => ?_
  unfold markStrE at h
  dsimp only at h
  split at h
  · rename_i lo m k n l
    obtain ⟨hc, h⟩ := need_some h
    have hc := of_decide_eq_true hc
    obtain ⟨n, rfl⟩ := Int.eq_ofNat_of_zero_le hc.1
    cases h
    exact markStr_loop hc.2.2.2.1 _ _ _ _ (Nat.add_sub_of_le hc.2.1) hc.2.2.1 hc.2.2.2.2.1 hc.2.2.2.2.2
  · cases h
theorem markStr_fun (lo m : Nat) (k : Int) (nl : Option Bool) (l : List (List UInt8)) (hm : m ≤ maxI) (hl : lo + m ≤ l.length) (h0 : 0 ≤ k) (hk : k + 1 * (m : Int) ≤ lim) : funK Try.prog (look [(136, .rd1 markTextG)]) (look [(2, markStrE)]) Try.f74 [.ref 0 lo m, .i .i64 k] [.row false nl .str l] =
    some (.i .i64 (k + 1 * (m : Int)), [some (.row false none .str (l.take lo ++ marks markStr1 1 k m ++ l.drop (lo + m)))]) := by
  have e : funK Try.prog (look [(136, .rd1 markTextG)]) (look [(2, markStrE)]) Try.f74 [.ref 0 lo m, .i .i64 k] [.row false nl .str l] =
    ((ifT
  (decide
  ((0 : Int) ≤ (0 : Int) ∧
  (0 : Nat) ≤ m ∧ lo + m ≤ l.length ∧ m ≤ maxI ∧ (0 : Int) ≤ k ∧ k + (1 : Int) * (↑(m - (0 : Nat)) : Int) ≤ lim))
  (some
  (V.i IntKind.i64 (k + (1 : Int) * (↑(m - (0 : Nat)) : Int)),
  [some
  (Blk.row false none Cd.str
  (List.take (lo + (0 : Nat)) l ++ marks markStr1 (1 : Int) k (m - (0 : Nat)) ++ List.drop (lo + m) l))]))) : _) := by kernel_rfl
  rw [e, ifT_true (decide_eq_true ⟨by omega, by omega, hl, hm, h0, hk⟩)]
  rfl
theorem markStr : Contract Try.prog 74 (Ent.own markStrG).F := by
  refine fun_contract' (KnowsL.cons (enters_fn Try.func136 (by kernel_rfl) (by kernel_rfl)) markText (KnowsL.nil)).knows (Λ := (look [(2, markStrE)])) Try.func74 (c := Try.f74.body.getD .skip) (by kernel_rfl) fun vs bs r h hv hb => ?_
  unfold Ent.F markStrG at h
  dsimp only at h
  split at h
  · rename_i lo m k nl l
    obtain ⟨hc, h⟩ := need_some h
    have hc := of_decide_eq_true hc
    exact ⟨markStr_ok, (markStr_fun lo m k nl l (hv (.ref 0 lo m) (by simp)) hc.1 hc.2.1 hc.2.2).trans (by cases h; rfl)⟩
  · cases h
theorem markPacket_round (lo m : Nat) (k : Int) (l : List (Int × Int × List UInt8 × Unit)) (n : Nat) : roundK Try.prog (look [(136, .rd1 markTextG)]) (look [(2, markPacketE)]) 1 (body Try.f75 0) markPacketE ([.ref 0 lo m, .i .i64 k, .i .i64 n], [some (.row false none (.pair (.int .i64) (.pair (.int .i64) (.pair .str .unit))) l)]) =
  ((ifB (decide ((↑n : Int) < (↑m : Int)))
  (ifT (decide ((0 : Int) ≤ (↑n : Int)) && decide ((↑n : Int) < (↑m : Int)))
  (ifSome l[lo + ((↑n : Int)).toNat]? fun z =>
  ifT (decide ((0 : Int) ≤ (↑n : Int)) && decide ((↑n : Int) < (↑m : Int)))
  (ifSome (l.set (lo + ((↑n : Int)).toNat) (k, z.snd.fst, z.snd.snd.fst, ()))[lo + ((↑n : Int)).toNat]?
  fun z_1 =>
  ifT (decide (IntKind.i64.wrap (IntKind.i64.wrap (k + (1 : Int)) + (1 : Int)) ≤ lim))
  (ifT (decide ((0 : Int) ≤ (↑n : Int)) && decide ((↑n : Int) < (↑m : Int)))
  (ifSome
  ((l.set (lo + ((↑n : Int)).toNat) (k, z.snd.fst, z.snd.snd.fst, ())).set (lo + ((↑n : Int)).toNat)
  (z_1.fst, IntKind.i64.wrap (k + (1 : Int)), z_1.snd.snd.fst, ()))[lo + ((↑n : Int)).toNat]?
  fun z_2 =>
  some
  (Ex.normal,
  [V.ref (0 : Nat) lo m,
  V.i IntKind.i64
  (IntKind.i64.wrap
  (IntKind.i64.wrap (IntKind.i64.wrap (k + (1 : Int)) + (1 : Int)) + (1 : Int))),
  V.i IntKind.i64 (IntKind.i64.wrap ((↑n : Int) + (1 : Int)))],
  [some
  (Blk.row false none
  ((Cd.int IntKind.i64).pair ((Cd.int IntKind.i64).pair (Cd.str.pair Cd.unit)))
  (((l.set (lo + ((↑n : Int)).toNat) (k, z.snd.fst, z.snd.snd.fst, ())).set
  (lo + ((↑n : Int)).toNat)
  (z_1.fst, IntKind.i64.wrap (k + (1 : Int)), z_1.snd.snd.fst, ())).set
  (lo + ((↑n : Int)).toNat)
  (z_2.fst, z_2.snd.fst,
  mtext (IntKind.i64.wrap (IntKind.i64.wrap (k + (1 : Int)) + (1 : Int))), ())))]))))))
  (some
  (Ex.exit (0 : Nat), [V.i IntKind.i64 k],
  [some (Blk.row false none ((Cd.int IntKind.i64).pair ((Cd.int IntKind.i64).pair (Cd.str.pair Cd.unit))) l)]))) : _) := by kernel_rfl
theorem markPacket_loop {lo m : Nat} (hm : m ≤ maxI) : ∀ (j n : Nat) (k : Int) (l : List (Int × Int × List UInt8 × Unit)), n + j = m → lo + m ≤ l.length → 0 ≤ k → k + 3 * (j : Int) ≤ lim →
    Runs Try.prog (look [(136, .rd1 markTextG)]) (look [(2, markPacketE)]) 1 (body Try.f75 0) markPacketE ([.ref 0 lo m, .i .i64 k, .i .i64 n], [some (.row false none (.pair (.int .i64) (.pair (.int .i64) (.pair .str .unit))) l)]) (.exit 0) ([.i .i64 (k + 3 * (j : Int))], [some (.row false none (.pair (.int .i64) (.pair (.int .i64) (.pair .str .unit))) (l.take (lo + n) ++ marks markPacket1 3 k j ++ l.drop (lo + m)))])
  | 0, n, k, l, hn, hl, h0, hk => by
    obtain rfl : n = m := by omega
    refine .stop _ _ _ ((markPacket_round lo n k l n).trans ?_) (by simp)
    simp [marks]
  | j + 1, n, k, l, hn, hl, h0, hk => by
    have h1 : n < m := by omega
    have h2 : lo + n < l.length := by omega
    unfold lim at hk
    have hr := markPacket_round lo m k l n
    have hw : ∀ i : Int, 0 ≤ i → i ≤ 3 → IntKind.i64.wrap (k + i) = k + i := fun i hi hi' => wrap_id (by omega) (by omega)
    simp only [Int.toNat_natCast, List.getElem?_eq_getElem h2, wrap_succ (n := n) (by omega)] at hr
    refine .step _ _ _ (d1 := ([.ref 0 lo m, .i .i64 (k + 3), .i .i64 ((n + 1 : Nat) : Int)], [some (.row false none (.pair (.int .i64) (.pair (.int .i64) (.pair .str .unit))) (l.set (lo + n) (markPacket1 k)))])) (hr.trans ?_) ?_
    · simp [h1, h2, markPacket1, lim, hw 1 (by omega) (by omega), hw 2 (by omega) (by omega), hw 3 (by omega) (by omega), Int.add_assoc, show k ≤ 1000000000000 by omega, show k + 1 ≤ 1000000000000 by omega, show k + 2 ≤ 1000000000000 by omega]
    · have := markPacket_loop hm j (n + 1) (k + 3) (l.set (lo + n) (markPacket1 k)) (by omega) (by simp; omega) (by omega) (by unfold lim; push_cast at hk; omega)
      rw [show lo + (n + 1) = lo + n + 1 from rfl, set_take h2, set_drop (show lo + n < lo + m by omega)] at this
      have e : k + 3 + 3 * (j : Int) = k + 3 * ((j + 1 : Nat) : Int) := by push_cast; omega
      rw [e] at this
      simpa [marks] using this
theorem markPacket_ok : LoopsOk Try.prog (look [(136, .rd1 markTextG)]) (look [(2, markPacketE)]) 1 (Try.f75.body.getD .skip) := by
  refine loopsOk_one (a := body Try.f75 0) (by kernel_rfl) fun d e d' h => ?_
  unfold markPacketE at h
  dsimp only at h
  split at h
  · rename_i lo m k n l
    obtain ⟨hc, h⟩ := need_some h
    have hc := of_decide_eq_true hc
    obtain ⟨n, rfl⟩ := Int.eq_ofNat_of_zero_le hc.1
    cases h
    exact markPacket_loop hc.2.2.2.1 _ _ _ _ (Nat.add_sub_of_le hc.2.1) hc.2.2.1 hc.2.2.2.2.1 hc.2.2.2.2.2
  · cases h
theorem markPacket_fun (lo m : Nat) (k : Int) (nl : Option Bool) (l : List (Int × Int × List UInt8 × Unit)) (hm : m ≤ maxI) (hl : lo + m ≤ l.length) (h0 : 0 ≤ k) (hk : k + 3 * (m : Int) ≤ lim) : funK Try.prog (look [(136, .rd1 markTextG)]) (look [(2, markPacketE)]) Try.f75 [.ref 0 lo m, .i .i64 k] [.row false nl (.pair (.int .i64) (.pair (.int .i64) (.pair .str .unit))) l] =
    some (.i .i64 (k + 3 * (m : Int)), [some (.row false none (.pair (.int .i64) (.pair (.int .i64) (.pair .str .unit))) (l.take lo ++ marks markPacket1 3 k m ++ l.drop (lo + m)))]) := by
  have e : funK Try.prog (look [(136, .rd1 markTextG)]) (look [(2, markPacketE)]) Try.f75 [.ref 0 lo m, .i .i64 k] [.row false nl (.pair (.int .i64) (.pair (.int .i64) (.pair .str .unit))) l] =
    ((ifT
  (decide
  ((0 : Int) ≤ (0 : Int) ∧
  (0 : Nat) ≤ m ∧ lo + m ≤ l.length ∧ m ≤ maxI ∧ (0 : Int) ≤ k ∧ k + (3 : Int) * (↑(m - (0 : Nat)) : Int) ≤ lim))
  (some
  (V.i IntKind.i64 (k + (3 : Int) * (↑(m - (0 : Nat)) : Int)),
  [some
  (Blk.row false none ((Cd.int IntKind.i64).pair ((Cd.int IntKind.i64).pair (Cd.str.pair Cd.unit)))
  (List.take (lo + (0 : Nat)) l ++ marks markPacket1 (3 : Int) k (m - (0 : Nat)) ++ List.drop (lo + m) l))]))) : _) := by kernel_rfl
  rw [e, ifT_true (decide_eq_true ⟨by omega, by omega, hl, hm, h0, hk⟩)]
  rfl
theorem markPacket : Contract Try.prog 75 (Ent.own markPacketG).F := by
  refine fun_contract' (KnowsL.cons (enters_fn Try.func136 (by kernel_rfl) (by kernel_rfl)) markText (KnowsL.nil)).knows (Λ := (look [(2, markPacketE)])) Try.func75 (c := Try.f75.body.getD .skip) (by kernel_rfl) fun vs bs r h hv hb => ?_
  unfold Ent.F markPacketG at h
  dsimp only at h
  split at h
  · rename_i lo m k nl l
    obtain ⟨hc, h⟩ := need_some h
    have hc := of_decide_eq_true hc
    exact ⟨markPacket_ok, (markPacket_fun lo m k nl l (hv (.ref 0 lo m) (by simp)) hc.1 hc.2.1 hc.2.2).trans (by cases h; rfl)⟩
  · cases h
theorem markAck_round (lo m : Nat) (k : Int) (l : List (Int × Int × Unit)) (n : Nat) : roundK Try.prog (look []) (look [(2, markAckE)]) 1 (body Try.f76 0) markAckE ([.ref 0 lo m, .i .i64 k, .i .i64 n], [some (.row false none (.pair (.int .i64) (.pair (.int .i64) .unit)) l)]) =
  ((ifB (decide ((↑n : Int) < (↑m : Int)))
  (ifT (decide ((0 : Int) ≤ (↑n : Int)) && decide ((↑n : Int) < (↑m : Int)))
  (ifSome l[lo + ((↑n : Int)).toNat]? fun z =>
  ifT (decide ((0 : Int) ≤ (↑n : Int)) && decide ((↑n : Int) < (↑m : Int)))
  (ifSome (l.set (lo + ((↑n : Int)).toNat) (k, z.snd.fst, ()))[lo + ((↑n : Int)).toNat]? fun z_1 =>
  some
  (Ex.normal,
  [V.ref (0 : Nat) lo m, V.i IntKind.i64 (IntKind.i64.wrap (IntKind.i64.wrap (k + (1 : Int)) + (1 : Int))),
  V.i IntKind.i64 (IntKind.i64.wrap ((↑n : Int) + (1 : Int)))],
  [some
  (Blk.row false none ((Cd.int IntKind.i64).pair ((Cd.int IntKind.i64).pair Cd.unit))
  ((l.set (lo + ((↑n : Int)).toNat) (k, z.snd.fst, ())).set (lo + ((↑n : Int)).toNat)
  (z_1.fst, IntKind.i64.wrap (k + (1 : Int)), ())))]))))
  (some
  (Ex.exit (0 : Nat), [V.i IntKind.i64 k],
  [some (Blk.row false none ((Cd.int IntKind.i64).pair ((Cd.int IntKind.i64).pair Cd.unit)) l)]))) : _) := by kernel_rfl
theorem markAck_loop {lo m : Nat} (hm : m ≤ maxI) : ∀ (j n : Nat) (k : Int) (l : List (Int × Int × Unit)), n + j = m → lo + m ≤ l.length → 0 ≤ k → k + 2 * (j : Int) ≤ lim →
    Runs Try.prog (look []) (look [(2, markAckE)]) 1 (body Try.f76 0) markAckE ([.ref 0 lo m, .i .i64 k, .i .i64 n], [some (.row false none (.pair (.int .i64) (.pair (.int .i64) .unit)) l)]) (.exit 0) ([.i .i64 (k + 2 * (j : Int))], [some (.row false none (.pair (.int .i64) (.pair (.int .i64) .unit)) (l.take (lo + n) ++ marks markAck1 2 k j ++ l.drop (lo + m)))])
  | 0, n, k, l, hn, hl, h0, hk => by
    obtain rfl : n = m := by omega
    refine .stop _ _ _ ((markAck_round lo n k l n).trans ?_) (by simp)
    simp [marks]
  | j + 1, n, k, l, hn, hl, h0, hk => by
    have h1 : n < m := by omega
    have h2 : lo + n < l.length := by omega
    unfold lim at hk
    have hr := markAck_round lo m k l n
    have hw : ∀ i : Int, 0 ≤ i → i ≤ 2 → IntKind.i64.wrap (k + i) = k + i := fun i hi hi' => wrap_id (by omega) (by omega)
    simp only [Int.toNat_natCast, List.getElem?_eq_getElem h2, wrap_succ (n := n) (by omega)] at hr
    refine .step _ _ _ (d1 := ([.ref 0 lo m, .i .i64 (k + 2), .i .i64 ((n + 1 : Nat) : Int)], [some (.row false none (.pair (.int .i64) (.pair (.int .i64) .unit)) (l.set (lo + n) (markAck1 k)))])) (hr.trans ?_) ?_
    · simp [h1, h2, markAck1, lim, hw 1 (by omega) (by omega), hw 2 (by omega) (by omega), Int.add_assoc, show k ≤ 1000000000000 by omega, show k + 1 ≤ 1000000000000 by omega]
    · have := markAck_loop hm j (n + 1) (k + 2) (l.set (lo + n) (markAck1 k)) (by omega) (by simp; omega) (by omega) (by unfold lim; push_cast at hk; omega)
      rw [show lo + (n + 1) = lo + n + 1 from rfl, set_take h2, set_drop (show lo + n < lo + m by omega)] at this
      have e : k + 2 + 2 * (j : Int) = k + 2 * ((j + 1 : Nat) : Int) := by push_cast; omega
      rw [e] at this
      simpa [marks] using this
theorem markAck_ok : LoopsOk Try.prog (look []) (look [(2, markAckE)]) 1 (Try.f76.body.getD .skip) := by
  refine loopsOk_one (a := body Try.f76 0) (by kernel_rfl) fun d e d' h => ?_
  unfold markAckE at h
  dsimp only at h
  split at h
  · rename_i lo m k n l
    obtain ⟨hc, h⟩ := need_some h
    have hc := of_decide_eq_true hc
    obtain ⟨n, rfl⟩ := Int.eq_ofNat_of_zero_le hc.1
    cases h
    exact markAck_loop hc.2.2.2.1 _ _ _ _ (Nat.add_sub_of_le hc.2.1) hc.2.2.1 hc.2.2.2.2.1 hc.2.2.2.2.2
  · cases h
theorem markAck_fun (lo m : Nat) (k : Int) (nl : Option Bool) (l : List (Int × Int × Unit)) (hm : m ≤ maxI) (hl : lo + m ≤ l.length) (h0 : 0 ≤ k) (hk : k + 2 * (m : Int) ≤ lim) : funK Try.prog (look []) (look [(2, markAckE)]) Try.f76 [.ref 0 lo m, .i .i64 k] [.row false nl (.pair (.int .i64) (.pair (.int .i64) .unit)) l] =
    some (.i .i64 (k + 2 * (m : Int)), [some (.row false none (.pair (.int .i64) (.pair (.int .i64) .unit)) (l.take lo ++ marks markAck1 2 k m ++ l.drop (lo + m)))]) := by
  have e : funK Try.prog (look []) (look [(2, markAckE)]) Try.f76 [.ref 0 lo m, .i .i64 k] [.row false nl (.pair (.int .i64) (.pair (.int .i64) .unit)) l] =
    ((ifT
  (decide
  ((0 : Int) ≤ (0 : Int) ∧
  (0 : Nat) ≤ m ∧ lo + m ≤ l.length ∧ m ≤ maxI ∧ (0 : Int) ≤ k ∧ k + (2 : Int) * (↑(m - (0 : Nat)) : Int) ≤ lim))
  (some
  (V.i IntKind.i64 (k + (2 : Int) * (↑(m - (0 : Nat)) : Int)),
  [some
  (Blk.row false none ((Cd.int IntKind.i64).pair ((Cd.int IntKind.i64).pair Cd.unit))
  (List.take (lo + (0 : Nat)) l ++ marks markAck1 (2 : Int) k (m - (0 : Nat)) ++ List.drop (lo + m) l))]))) : _) := by kernel_rfl
  rw [e, ifT_true (decide_eq_true ⟨by omega, by omega, hl, hm, h0, hk⟩)]
  rfl
theorem markAck : Contract Try.prog 76 (Ent.own markAckG).F := by
  refine fun_contract' (KnowsL.nil).knows (Λ := (look [(2, markAckE)])) Try.func76 (c := Try.f76.body.getD .skip) (by kernel_rfl) fun vs bs r h hv hb => ?_
  unfold Ent.F markAckG at h
  dsimp only at h
  split at h
  · rename_i lo m k nl l
    obtain ⟨hc, h⟩ := need_some h
    have hc := of_decide_eq_true hc
    exact ⟨markAck_ok, (markAck_fun lo m k nl l (hv (.ref 0 lo m) (by simp)) hc.1 hc.2.1 hc.2.2).trans (by cases h; rfl)⟩
  · cases h
end Go.Proofs.Ytjghbihlgfjebaa.Den
