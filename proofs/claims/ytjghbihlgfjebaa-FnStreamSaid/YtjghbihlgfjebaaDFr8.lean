/- What functions of the program do, by the machine: Fr8. -/
import Derived.Test.YtjghbihlgfjebaaDQueC
import Derived.KernelRfl
import Derived.Test.YtjghbihlgfjebaaRows
namespace Go.Proofs.Ytjghbihlgfjebaa.Den
open Go.Proofs
set_option maxRecDepth 100000
/-- A drawn text. -/
def Cur.pay (c : Cur) : List UInt8 := ([[], [97], [104, 101, 108, 108, 111], [126, 126], [0, 255], [115, 111, 109, 101, 32, 109, 111, 114, 101, 32, 116, 101, 120, 116]] : List (List UInt8)).getD (c.pickV 6).toNat []
/-- A text spoilt once. -/
def Cur.sp1C (c : Cur) (t mu : List UInt8) : Cur := (c.pickC t.length).pickC mu.length
def Cur.sp1 (c : Cur) (t mu : List UInt8) : List UInt8 :=
  if (c.sp1C t mu).pickV 3 = 0 then t.take (c.pickV t.length).toNat ++ [mu.getD ((c.pickC t.length).pickV mu.length).toNat 0] ++ t.drop (c.pickV t.length).toNat
  else if (c.sp1C t mu).pickV 3 = 1 then t.take (c.pickV t.length).toNat ++ [mu.getD ((c.pickC t.length).pickV mu.length).toNat 0] ++ t.drop ((c.pickV t.length).toNat + 1)
  else t.take (c.pickV t.length).toNat ++ t.drop ((c.pickV t.length).toNat + 1)
def Cur.spoil : Nat → Cur → List UInt8 → List UInt8 → List UInt8 × Cur
  | 0, c, t, _ => (t, c)
  | n + 1, c, t, mu => if t = [] then (t, c) else Cur.spoil n ((c.sp1C t mu).pickC 3) (c.sp1 t mu) mu
def Cur.spoilt (c : Cur) (t mu : List UInt8) : List UInt8 × Cur := (c.pickC 3).spoil (c.pickV 3).toNat t mu
/-- Drawn frames. -/
def Cur.frs : Nat → Cur → List UInt8 → List UInt8 × Cur
  | 0, c, t => (t, c)
  | n + 1, c, t => Cur.frs n (c.pickC 6) (t ++ frB c.pay)
/-- Pieces of a text. -/
def Cur.cutN (c : Cur) (t : List UInt8) (k : Nat) : Nat := if (t.length : Int) < 1 + c.pickV 7 ∨ k = 59 then t.length else (1 + c.pickV 7).toNat
def Cur.cuts : Nat → Cur → List UInt8 → List (List UInt8) → List (List UInt8) × Cur
  | 0, c, _, r => (r, c)
  | f + 1, c, t, r => if t = [] then (r, c) else Cur.cuts f (c.pickC 7) (t.drop (c.cutN t r.length)) (r ++ [t.take (c.cutN t r.length)])
def cpayG : List V → List Blk → Br (V × List (Option Blk))
  | [.ptr 0 0], [.box [.sl (.int .u8) l, .i .i64 a, .i .u64 s]] => .need (decide ((Cur.mk l a s).good 900000000)) (.leaf (.s (Cur.mk l a s).pay, [some (.box [.sl (.int .u8) ((Cur.mk l a s).pickC 6).l, .i .i64 ((Cur.mk l a s).pickC 6).a, .i .u64 ((Cur.mk l a s).pickC 6).s])]))
  | _, _ => .no
def spoE : LoopEnt := ⟨67, [0,1,2,7], [1], [], fun
  | ([.ptr 0 0, .s t, .s mu, .i .i64 n], [some (.box [.sl (.int .u8) l, .i .i64 a, .i .u64 s])]) => .need (decide ((0 ≤ n ∧ n ≤ 100) ∧ 1 ≤ mu.length ∧ mu.length ≤ 200 ∧ t.length ≤ 100000 ∧ (Cur.mk l a s).good (700000000 - 6 * n))) (.leaf (.exit 0, ([.s ((Cur.mk l a s).spoil n.toNat t mu).1], [some (.box [.sl (.int .u8) ((Cur.mk l a s).spoil n.toNat t mu).2.l, .i .i64 ((Cur.mk l a s).spoil n.toNat t mu).2.a, .i .u64 ((Cur.mk l a s).spoil n.toNat t mu).2.s])])))
  | _ => .no⟩
def cspoilG : List V → List Blk → Br (V × List (Option Blk))
  | [.ptr 0 0, .s t, .s mu], [.box [.sl (.int .u8) l, .i .i64 a, .i .u64 s]] => .need (decide ((1 ≤ mu.length ∧ mu.length ≤ 200) ∧ t.length ≤ 90000 ∧ (Cur.mk l a s).good 600000000)) (.leaf (.s ((Cur.mk l a s).spoilt t mu).1, [some (.box [.sl (.int .u8) ((Cur.mk l a s).spoilt t mu).2.l, .i .i64 ((Cur.mk l a s).spoilt t mu).2.a, .i .u64 ((Cur.mk l a s).spoilt t mu).2.s])]))
  | _, _ => .no
theorem cpay_fun (l : List Int) (a s : Int) (hc : (Cur.mk l a s).good 900000000) : funN Try.prog (look [(91, .own cofG)]) (look []) Try.f142 [.ptr 0 0] [.box [.sl (.int .u8) l, .i .i64 a, .i .u64 s]] = (.leaf (.s (Cur.mk l a s).pay, [some (.box [.sl (.int .u8) ((Cur.mk l a s).pickC 6).l, .i .i64 ((Cur.mk l a s).pickC 6).a, .i .u64 ((Cur.mk l a s).pickC 6).s])]) : Br (V × List (Option Blk))).run := by
  have e : funN Try.prog (look [(91, .own cofG)]) (look []) Try.f142 [.ptr 0 0] [.box [.sl (.int .u8) l, .i .i64 a, .i .u64 s]] = ((ifT (decide ((Cur.mk l a s).good (900000000 : Int) ∧ (1 : Nat) ≤ (6 : Nat) ∧ (6 : Nat) ≤ (6 : Nat)))
  (some
  (V.s
  ((nilT UInt8 ::
  [(97 : UInt8)] ::
  [(104 : UInt8), (101 : UInt8), (108 : UInt8), (108 : UInt8), (111 : UInt8)] ::
  [(126 : UInt8), (126 : UInt8)] ::
  [(0 : UInt8), (255 : UInt8)] ::
  [(115 : UInt8), (111 : UInt8), (109 : UInt8), (101 : UInt8), (32 : UInt8), (109 : UInt8),
  (111 : UInt8), (114 : UInt8), (101 : UInt8), (32 : UInt8), (116 : UInt8), (101 : UInt8),
  (120 : UInt8), (116 : UInt8)] ::
  nilT Cd.str.den).getD
  ((0 : Nat) + ((Cur.mk l a s).pickV (↑(6 : Nat) : Int)).toNat) (nilT UInt8)),
  [some
  (Blk.box
  [V.sl (Cd.int IntKind.u8) ((Cur.mk l a s).pickC (↑(6 : Nat) : Int)).l,
  V.i IntKind.i64 ((Cur.mk l a s).pickC (↑(6 : Nat) : Int)).a,
  V.i IntKind.u64 ((Cur.mk l a s).pickC (↑(6 : Nat) : Int)).s])]))) : _) := by kernel_rfl
  rw [e]
  clear e
  rw [ifT_true (decide_eq_true ⟨hc, by omega, by omega⟩)]
  simp only [Nat.zero_add]
  rfl
theorem cpay : Contract Try.prog 142 (Ent.own cpayG).F := by
  refine fun_contractN' (KnowsL.cons (enters_fn Try.func91 (by kernel_rfl) (by kernel_rfl)) cof KnowsL.nil).knows (Λ := look []) Try.func142 (c := Try.f142.body.getD .skip) (by kernel_rfl) fun vs bs r h hv hb => ?_
  unfold Ent.F cpayG at h
  dsimp only at h
  split at h
  · rename_i l a s
    obtain ⟨hc, h⟩ := need_some h
    exact ⟨loopsOk_nil _, (cpay_fun l a s (of_decide_eq_true hc)).trans h⟩
  · cases h
theorem spo_round (t mu : List UInt8) (n : Int) (l : List Int) (a s : Int) : roundK Try.prog (look [(104, .own cpickG)]) (look [(2, spoE)]) 1 (body Try.f143 0) spoE ([.ptr 0 0, .s t, .s mu, .i .i64 n], [some (.box [.sl (.int .u8) l, .i .i64 a, .i .u64 s])]) =
  ((ifB (decide (n > (0 : Int)))
  (ifB (decide ((↑t.length : Int) > (0 : Int)))
  (ifT (decide ((Cur.mk l a s).good (900000000 : Int)))
  (ifT (decide (((Cur.mk l a s).pickC (↑t.length : Int)).good (900000000 : Int)))
  (ifT (decide ((0 : Int) ≤ ((Cur.mk l a s).pickC (↑t.length : Int)).pickV (↑mu.length : Int)))
  (ifSome mu[(((Cur.mk l a s).pickC (↑t.length : Int)).pickV (↑mu.length : Int)).toNat]? fun z =>
  ifT (decide ((((Cur.mk l a s).pickC (↑t.length : Int)).pickC (↑mu.length : Int)).good (900000000 : Int)))
  (ifB ((((Cur.mk l a s).pickC (↑t.length : Int)).pickC (↑mu.length : Int)).pickV (3 : Int) == (0 : Int))
  (ifT
  (decide ((0 : Int) ≤ (Cur.mk l a s).pickV (↑t.length : Int)) &&
  decide ((Cur.mk l a s).pickV (↑t.length : Int) ≤ (↑t.length : Int)))
  (ifT
  (decide
  ((List.take (((Cur.mk l a s).pickV (↑t.length : Int)).toNat - (0 : Nat))
  (List.drop (0 : Nat) t)).length +
  (1 : Nat) ≤
  (9223372036854775807 : Nat)))
  (ifT
  (decide ((0 : Int) ≤ (Cur.mk l a s).pickV (↑t.length : Int)) &&
  decide ((Cur.mk l a s).pickV (↑t.length : Int) ≤ (↑t.length : Int)))
  (ifT
  (decide
  ((List.take (((Cur.mk l a s).pickV (↑t.length : Int)).toNat - (0 : Nat))
  (List.drop (0 : Nat) t) ++
  List.map (fun n => UInt8.ofNat n.toNat)
  ((↑z.toNat : Int) :: nilT (Cd.int IntKind.u8).den)).length +
  (List.take (t.length - ((Cur.mk l a s).pickV (↑t.length : Int)).toNat)
  (List.drop ((Cur.mk l a s).pickV (↑t.length : Int)).toNat t)).length ≤
  (9223372036854775807 : Nat)))
  (some
  (Ex.normal,
  [V.ptr (0 : Nat) (0 : Nat),
  V.s
  (List.take (((Cur.mk l a s).pickV (↑t.length : Int)).toNat - (0 : Nat))
  (List.drop (0 : Nat) t) ++
  List.map (fun n => UInt8.ofNat n.toNat)
  ((↑z.toNat : Int) :: nilT (Cd.int IntKind.u8).den) ++
  List.take (t.length - ((Cur.mk l a s).pickV (↑t.length : Int)).toNat)
  (List.drop ((Cur.mk l a s).pickV (↑t.length : Int)).toNat t)),
  V.s mu, V.i IntKind.i64 (IntKind.i64.wrap (n - (1 : Int)))],
  [some
  (Blk.box
  [V.sl (Cd.int IntKind.u8)
  ((((Cur.mk l a s).pickC (↑t.length : Int)).pickC (↑mu.length : Int)).pickC
  (3 : Int)).l,
  V.i IntKind.i64
  ((((Cur.mk l a s).pickC (↑t.length : Int)).pickC (↑mu.length : Int)).pickC
  (3 : Int)).a,
  V.i IntKind.u64
  ((((Cur.mk l a s).pickC (↑t.length : Int)).pickC (↑mu.length : Int)).pickC
  (3 : Int)).s])]))))))
  (ifB ((((Cur.mk l a s).pickC (↑t.length : Int)).pickC (↑mu.length : Int)).pickV (3 : Int) == (1 : Int))
  (ifT
  (decide ((0 : Int) ≤ (Cur.mk l a s).pickV (↑t.length : Int)) &&
  decide ((Cur.mk l a s).pickV (↑t.length : Int) ≤ (↑t.length : Int)))
  (ifT
  (decide
  ((List.take (((Cur.mk l a s).pickV (↑t.length : Int)).toNat - (0 : Nat))
  (List.drop (0 : Nat) t)).length +
  (1 : Nat) ≤
  (9223372036854775807 : Nat)))
  (ifT
  (decide ((0 : Int) ≤ IntKind.i64.wrap ((Cur.mk l a s).pickV (↑t.length : Int) + (1 : Int))) &&
  decide
  (IntKind.i64.wrap ((Cur.mk l a s).pickV (↑t.length : Int) + (1 : Int)) ≤ (↑t.length : Int)))
  (ifT
  (decide
  ((List.take (((Cur.mk l a s).pickV (↑t.length : Int)).toNat - (0 : Nat))
  (List.drop (0 : Nat) t) ++
  List.map (fun n => UInt8.ofNat n.toNat)
  ((↑z.toNat : Int) :: nilT (Cd.int IntKind.u8).den)).length +
  (List.take
  (t.length -
  (IntKind.i64.wrap ((Cur.mk l a s).pickV (↑t.length : Int) + (1 : Int))).toNat)
  (List.drop
  (IntKind.i64.wrap ((Cur.mk l a s).pickV (↑t.length : Int) + (1 : Int))).toNat
  t)).length ≤
  (9223372036854775807 : Nat)))
  (some
  (Ex.normal,
  [V.ptr (0 : Nat) (0 : Nat),
  V.s
  (List.take (((Cur.mk l a s).pickV (↑t.length : Int)).toNat - (0 : Nat))
  (List.drop (0 : Nat) t) ++
  List.map (fun n => UInt8.ofNat n.toNat)
  ((↑z.toNat : Int) :: nilT (Cd.int IntKind.u8).den) ++
  List.take
  (t.length -
  (IntKind.i64.wrap ((Cur.mk l a s).pickV (↑t.length : Int) + (1 : Int))).toNat)
  (List.drop
  (IntKind.i64.wrap ((Cur.mk l a s).pickV (↑t.length : Int) + (1 : Int))).toNat
  t)),
  V.s mu, V.i IntKind.i64 (IntKind.i64.wrap (n - (1 : Int)))],
  [some
  (Blk.box
  [V.sl (Cd.int IntKind.u8)
  ((((Cur.mk l a s).pickC (↑t.length : Int)).pickC (↑mu.length : Int)).pickC
  (3 : Int)).l,
  V.i IntKind.i64
  ((((Cur.mk l a s).pickC (↑t.length : Int)).pickC (↑mu.length : Int)).pickC
  (3 : Int)).a,
  V.i IntKind.u64
  ((((Cur.mk l a s).pickC (↑t.length : Int)).pickC (↑mu.length : Int)).pickC
  (3 : Int)).s])]))))))
  (ifT
  (decide ((0 : Int) ≤ (Cur.mk l a s).pickV (↑t.length : Int)) &&
  decide ((Cur.mk l a s).pickV (↑t.length : Int) ≤ (↑t.length : Int)))
  (ifT
  (decide ((0 : Int) ≤ IntKind.i64.wrap ((Cur.mk l a s).pickV (↑t.length : Int) + (1 : Int))) &&
  decide
  (IntKind.i64.wrap ((Cur.mk l a s).pickV (↑t.length : Int) + (1 : Int)) ≤ (↑t.length : Int)))
  (ifT
  (decide
  ((List.take (((Cur.mk l a s).pickV (↑t.length : Int)).toNat - (0 : Nat))
  (List.drop (0 : Nat) t)).length +
  (List.take
  (t.length -
  (IntKind.i64.wrap ((Cur.mk l a s).pickV (↑t.length : Int) + (1 : Int))).toNat)
  (List.drop
  (IntKind.i64.wrap ((Cur.mk l a s).pickV (↑t.length : Int) + (1 : Int))).toNat
  t)).length ≤
  (9223372036854775807 : Nat)))
  (some
  (Ex.normal,
  [V.ptr (0 : Nat) (0 : Nat),
  V.s
  (List.take (((Cur.mk l a s).pickV (↑t.length : Int)).toNat - (0 : Nat))
  (List.drop (0 : Nat) t) ++
  List.take
  (t.length -
  (IntKind.i64.wrap ((Cur.mk l a s).pickV (↑t.length : Int) + (1 : Int))).toNat)
  (List.drop
  (IntKind.i64.wrap ((Cur.mk l a s).pickV (↑t.length : Int) + (1 : Int))).toNat t)),
  V.s mu, V.i IntKind.i64 (IntKind.i64.wrap (n - (1 : Int)))],
  [some
  (Blk.box
  [V.sl (Cd.int IntKind.u8)
  ((((Cur.mk l a s).pickC (↑t.length : Int)).pickC (↑mu.length : Int)).pickC
  (3 : Int)).l,
  V.i IntKind.i64
  ((((Cur.mk l a s).pickC (↑t.length : Int)).pickC (↑mu.length : Int)).pickC
  (3 : Int)).a,
  V.i IntKind.u64
  ((((Cur.mk l a s).pickC (↑t.length : Int)).pickC (↑mu.length : Int)).pickC
  (3 : Int)).s])])))))))))))
  (some
  (Ex.exit (0 : Nat), [V.s t],
  [some (Blk.box [V.sl (Cd.int IntKind.u8) l, V.i IntKind.i64 a, V.i IntKind.u64 s])])))
  (some
  (Ex.exit (0 : Nat), [V.s t], [some (Blk.box [V.sl (Cd.int IntKind.u8) l, V.i IntKind.i64 a, V.i IntKind.u64 s])]))) : _) := by kernel_rfl
theorem spo_step (t mu : List UInt8) (n : Int) (l : List Int) (a s : Int) (hn : 0 < n ∧ n ≤ 100) (ht : t ≠ []) (hl : t.length ≤ 110000) (hm : 1 ≤ mu.length ∧ mu.length ≤ 200) (hc : (Cur.mk l a s).good (700000000 - 6 * n)) :
    roundK Try.prog (look [(104, .own cpickG)]) (look [(2, spoE)]) 1 (body Try.f143 0) spoE ([.ptr 0 0, .s t, .s mu, .i .i64 n], [some (.box [.sl (.int .u8) l, .i .i64 a, .i .u64 s])]) = some (.normal, ([.ptr 0 0, .s ((Cur.mk l a s).sp1 t mu), .s mu, .i .i64 (n - 1)], [some (.box [.sl (.int .u8) (((Cur.mk l a s).sp1C t mu).pickC 3).l, .i .i64 (((Cur.mk l a s).sp1C t mu).pickC 3).a, .i .u64 (((Cur.mk l a s).sp1C t mu).pickC 3).s])])) := by
  rw [spo_round]
  have hpos : 0 < t.length := List.length_pos_iff.2 ht
  have w1 : IntKind.i64.wrap (n - 1) = n - 1 := wrap_id (by omega) (by omega)
  rw [ifB_true (decide_eq_true (by omega)), ifB_true (decide_eq_true (by omega)), w1]
  unfold Cur.sp1 Cur.sp1C
  generalize (Cur.mk l a s) = c at *
  have g0 : c.good 900000000 := Cur.good_mono hc (by omega)
  have g1 : (c.pickC t.length).good 900000000 := by (repeat with_reducible apply Cur.pick_le); exact Cur.good_mono hc (by omega)
  have g2 : ((c.pickC t.length).pickC mu.length).good 900000000 := by (repeat with_reducible apply Cur.pick_le); exact Cur.good_mono hc (by omega)
  have r0 := Cur.pickV_range (k := t.length) g0 (by omega)
  have r1 := Cur.pickV_range (k := mu.length) g1 (by omega)
  have r2 := Cur.pickV_range (k := 3) g2 (by omega)
  generalize hc2 : (c.pickC t.length).pickC mu.length = c2 at *
  generalize (c.pickC t.length).pickV mu.length = ch at *
  generalize c.pickV t.length = p at *
  obtain ⟨p, rfl⟩ := Int.eq_ofNat_of_zero_le r0.1
  obtain ⟨ch, rfl⟩ := Int.eq_ofNat_of_zero_le r1.1
  have hch : ch < mu.length := by omega
  have w2 : IntKind.i64.wrap ((p : Int) + 1) = ((p + 1 : Nat) : Int) := by rw [wrap_id (by omega) (by omega)]; omega
  have e1 : List.take (t.length - p) (List.drop p t) = List.drop p t := List.take_of_length_le (by simp)
  have e2 : List.take (t.length - (p + 1)) (List.drop (p + 1) t) = List.drop (p + 1) t := List.take_of_length_le (by simp)
  have e3 : mu.getD ch 0 = mu[ch] := by simp [List.getD, hch]
  simp only [w2, Int.toNat_natCast, Nat.sub_zero, List.drop_zero, e1, e2, e3, List.getElem?_eq_getElem hch, ifSome_s, List.map_cons, List.map_nil, nilT_eq, UInt8.ofNat_toNat]
  have l1 : (List.take p t).length = p := by rw [List.length_take]; omega
  have l2 : (List.drop p t).length = t.length - p := List.length_drop
  have l3 : (List.drop (p + 1) t).length = t.length - (p + 1) := List.length_drop
  simp only [List.length_append, l1, l2, l3, List.length_singleton, List.length_cons, List.length_nil]
  rw [ifT_true (decide_eq_true g0), ifT_true (decide_eq_true g1), ifT_true (decide_eq_true (by omega)), ifT_true (decide_eq_true g2)]
  by_cases k0 : c2.pickV 3 = 0
  · rw [ifB_true (by rw [k0]; rfl), if_pos k0]
    repeat rw [ifT_true (by simp only [Bool.and_eq_true, decide_eq_true_eq]; omega)]
  rw [ifB_false (by simpa using k0), if_neg k0]
  by_cases k1 : c2.pickV 3 = 1
  · rw [ifB_true (by rw [k1]; rfl), if_pos k1]
    repeat rw [ifT_true (by simp only [Bool.and_eq_true, decide_eq_true_eq]; omega)]
  · rw [ifB_false (by simpa using k1), if_neg k1]
    repeat rw [ifT_true (by simp only [Bool.and_eq_true, decide_eq_true_eq]; omega)]
theorem Cur.sp1_len {c : Cur} {m : Int} (t mu : List UInt8) : (c.sp1 t mu).length ≤ t.length + 1 := by
  unfold Cur.sp1
  split
  · simp only [List.length_append, List.length_take, List.length_drop, List.length_singleton]; omega
  · split
    · simp only [List.length_append, List.length_take, List.length_drop, List.length_singleton]; omega
    · simp only [List.length_append, List.length_take, List.length_drop]; omega
theorem Cur.sp1_good {c : Cur} {m : Int} (t mu : List UInt8) (h : c.good m) : ((c.sp1C t mu).pickC 3).good (m + 6) := by
  unfold Cur.sp1C
  (repeat with_reducible apply Cur.pick_le); exact Cur.good_mono h (by omega)
theorem spo_loop (mu : List UInt8) (hm : 1 ≤ mu.length ∧ mu.length ≤ 200) : ∀ (n : Nat) (c : Cur) (t : List UInt8), n ≤ 100 → t.length + n ≤ 110000 → c.good (700000000 - 6 * n) →
    Runs Try.prog (look [(104, .own cpickG)]) (look [(2, spoE)]) 1 (body Try.f143 0) spoE ([.ptr 0 0, .s t, .s mu, .i .i64 (n : Int)], [some (.box [.sl (.int .u8) c.l, .i .i64 c.a, .i .u64 c.s])]) (.exit 0) ([.s (c.spoil n t mu).1], [some (.box [.sl (.int .u8) (c.spoil n t mu).2.l, .i .i64 (c.spoil n t mu).2.a, .i .u64 (c.spoil n t mu).2.s])])
  | 0, c, t, hn, hl, hc => by
    have hr := spo_round t mu ((0 : Nat) : Int) c.l c.a c.s
    rw [ifB_false (by simp)] at hr
    exact .stop _ _ _ hr (by simp)
  | n + 1, c, t, hn, hl, hc => by
    by_cases ht : t = []
    · subst ht
      have hr := spo_round [] mu ((n + 1 : Nat) : Int) c.l c.a c.s
      rw [ifB_true (decide_eq_true (by omega)), ifB_false (by simp)] at hr
      exact .stop _ _ _ hr (by simp)
    · have hs := spo_step t mu ((n + 1 : Nat) : Int) c.l c.a c.s (by omega) ht (by omega) hm hc
      have ih := spo_loop mu hm n ((c.sp1C t mu).pickC 3) (c.sp1 t mu) (by omega) (by have := Cur.sp1_len (c := c) (m := 0) t mu; omega) (Cur.good_mono (Cur.sp1_good t mu hc) (by omega))
      have e : c.spoil (n + 1) t mu = Cur.spoil n ((c.sp1C t mu).pickC 3) (c.sp1 t mu) mu := by rw [Cur.spoil, if_neg ht]
      rw [e]
      have e2 : ((n + 1 : Nat) : Int) - 1 = n := by omega
      rw [e2] at hs
      exact .step _ _ _ _ hs ih
theorem spo_ok : LoopsOk Try.prog (look [(104, .own cpickG)]) (look [(2, spoE)]) 1 (Try.f143.body.getD .skip) := by
  refine loopsOk_one (a := body Try.f143 0) (by kernel_rfl) fun d e d' h => ?_
  unfold spoE at h
  dsimp only at h
  split at h
  · rename_i t mu n l a s
    obtain ⟨hc, h'⟩ := need_some h
    obtain ⟨⟨h0, h1⟩, h2, h3, h4, h5⟩ := of_decide_eq_true hc
    obtain ⟨n, rfl⟩ := Int.eq_ofNat_of_zero_le h0
    have h6 := leaf_some h'
    obtain ⟨rfl, rfl⟩ := Prod.mk.inj h6
    exact spo_loop mu ⟨h2, h3⟩ n (Cur.mk l a s) t (by omega) (by omega) h5
  · cases h
theorem cspoil_fun (t mu : List UInt8) (l : List Int) (a s : Int) (hc : (1 ≤ mu.length ∧ mu.length ≤ 200) ∧ t.length ≤ 90000 ∧ (Cur.mk l a s).good 600000000) : funN Try.prog (look [(104, .own cpickG)]) (look [(2, spoE)]) Try.f143 [.ptr 0 0, .s t, .s mu] [.box [.sl (.int .u8) l, .i .i64 a, .i .u64 s]] = (.leaf (.s ((Cur.mk l a s).spoilt t mu).1, [some (.box [.sl (.int .u8) ((Cur.mk l a s).spoilt t mu).2.l, .i .i64 ((Cur.mk l a s).spoilt t mu).2.a, .i .u64 ((Cur.mk l a s).spoilt t mu).2.s])]) : Br (V × List (Option Blk))).run := by
  have e : funN Try.prog (look [(104, .own cpickG)]) (look [(2, spoE)]) Try.f143 [.ptr 0 0, .s t, .s mu] [.box [.sl (.int .u8) l, .i .i64 a, .i .u64 s]] = ((ifT (decide ((Cur.mk l a s).good (900000000 : Int)))
  (ifT
  (decide
  (((0 : Int) ≤ (Cur.mk l a s).pickV (3 : Int) ∧ (Cur.mk l a s).pickV (3 : Int) ≤ (100 : Int)) ∧
  (1 : Nat) ≤ mu.length ∧
  mu.length ≤ (200 : Nat) ∧
  t.length ≤ (100000 : Nat) ∧
  ((Cur.mk l a s).pickC (3 : Int)).good ((700000000 : Int) - (6 : Int) * (Cur.mk l a s).pickV (3 : Int))))
  (some
  (V.s (Cur.spoil ((Cur.mk l a s).pickV (3 : Int)).toNat ((Cur.mk l a s).pickC (3 : Int)) t mu).fst,
  [some
  (Blk.box
  [V.sl (Cd.int IntKind.u8)
  (Cur.spoil ((Cur.mk l a s).pickV (3 : Int)).toNat ((Cur.mk l a s).pickC (3 : Int)) t mu).snd.l,
  V.i IntKind.i64
  (Cur.spoil ((Cur.mk l a s).pickV (3 : Int)).toNat ((Cur.mk l a s).pickC (3 : Int)) t mu).snd.a,
  V.i IntKind.u64
  (Cur.spoil ((Cur.mk l a s).pickV (3 : Int)).toNat ((Cur.mk l a s).pickC (3 : Int)) t mu).snd.s])])))) : _) := by kernel_rfl
  rw [e]
  clear e
  obtain ⟨h1, h2, hc⟩ := hc
  have g0 : (Cur.mk l a s).good 900000000 := Cur.good_mono hc (by omega)
  have r0 := Cur.pickV_range (k := 3) g0 (by omega)
  have g1 : ((Cur.mk l a s).pickC 3).good (700000000 - 6 * (Cur.mk l a s).pickV 3) := by (repeat with_reducible apply Cur.pick_le); exact Cur.good_mono hc (by omega)
  rw [ifT_true (decide_eq_true g0), ifT_true (decide_eq_true ⟨⟨by omega, by omega⟩, by omega, by omega, by omega, g1⟩)]
  rfl
theorem cspoil : Contract Try.prog 143 (Ent.own cspoilG).F := by
  refine fun_contractN' (KnowsL.cons (enters_fn Try.func104 (by kernel_rfl) (by kernel_rfl)) cpick KnowsL.nil).knows (Λ := (look [(2, spoE)])) Try.func143 (c := Try.f143.body.getD .skip) (by kernel_rfl) fun vs bs r h hv hb => ?_
  unfold Ent.F cspoilG at h
  dsimp only at h
  split at h
  · rename_i t mu l a s
    obtain ⟨hc, h⟩ := need_some h
    exact ⟨spo_ok, (cspoil_fun t mu l a s (of_decide_eq_true hc)).trans h⟩
  · cases h
end Go.Proofs.Ytjghbihlgfjebaa.Den
