/- What functions of the program do, by the machine: Cur3. -/
import Derived.Test.YtjghbihlgfjebaaDCur2
import Derived.KernelRfl
import Derived.Test.YtjghbihlgfjebaaRows
namespace Go.Proofs.Ytjghbihlgfjebaa.Den
open Go.Proofs
set_option maxRecDepth 100000
/-- A drawn step, ahead of the last draw. -/
def Cur.sesA (c : Cur) : ((Int × Int × List UInt8 × Unit)) × Cur :=
  if ([1, 2, 2, 2, 3, 3, 3, 4, 5, 6, 6] : List Int).getD (c.pickV 11).toNat 0 = 1 then ((([1, 2, 2, 2, 3, 3, 3, 4, 5, 6, 6] : List Int).getD (c.pickV 11).toNat 0, (c.pickC 11).pickV 3, ([[97], [98], [105, 116, 101, 109], []] : List (List UInt8)).getD (((c.pickC 11).pickC 3).pickV 4).toNat [], ()), ((c.pickC 11).pickC 3).pickC 4)
  else if ([1, 2, 2, 2, 3, 3, 3, 4, 5, 6, 6] : List Int).getD (c.pickV 11).toNat 0 = 2 then ((([1, 2, 2, 2, 3, 3, 3, 4, 5, 6, 6] : List Int).getD (c.pickV 11).toNat 0, ((c.pickC 11).pickC 3).pickV 8, [], ()), ((c.pickC 11).pickC 3).pickC 8)
  else if ((c.pickC 11).pickC 3).pickV 20 = 0 then ((7, 0, [], ()), ((c.pickC 11).pickC 3).pickC 20)
  else ((([1, 2, 2, 2, 3, 3, 3, 4, 5, 6, 6] : List Int).getD (c.pickV 11).toNat 0, (c.pickC 11).pickV 3, [], ()), ((c.pickC 11).pickC 3).pickC 20)
/-- A drawn step. -/
def Cur.ses1 (c : Cur) : ((Int × Int × List UInt8 × Unit)) × Cur :=
  if c.sesA.2.pickV 60 = 0 then (((c.sesA.2.pickC 60).pickV 9, ((c.sesA.2.pickC 60).pickC 9).pickV 6 - 1, [97, 32, 116, 101, 120, 116, 32, 111, 102, 32, 109, 111, 114, 101, 32, 116, 104, 97, 110, 32, 116, 119, 101, 110, 116, 121], ()), ((c.sesA.2.pickC 60).pickC 9).pickC 6)
  else (c.sesA.1, c.sesA.2.pickC 60)
/-- n drawn steps. -/
def Cur.sesL : Nat → Cur → List ((Int × Int × List UInt8 × Unit)) × Cur
  | 0, c => ([], c)
  | n + 1, c => (c.ses1.1 :: (Cur.sesL n c.ses1.2).1, (Cur.sesL n c.ses1.2).2)
def sesE : LoopEnt := ⟨55, [0,3,4], [3], [], fun
  | ([.ptr 0 0, .ref 1 0 k, .i .i64 n], [some (.box [.sl (.int .u8) l, .i .i64 a, .i .u64 s]), some (.row false none (.pair (.int .i64) (.pair (.int .i64) (.pair .str .unit))) r)]) =>
    .need (decide (k = r.length ∧ (0 ≤ n ∧ n ≤ 1000) ∧ (r.length : Int) + n ≤ 1000000 ∧ (Cur.mk l a s).good (800000000 - 12 * n))) (.leaf (.exit 0, ([.ref 1 0 (r.length + n.toNat)], [some (.box [.sl (.int .u8) ((Cur.mk l a s).sesL n.toNat).2.l, .i .i64 ((Cur.mk l a s).sesL n.toNat).2.a, .i .u64 ((Cur.mk l a s).sesL n.toNat).2.s]), some (.row false none (.pair (.int .i64) (.pair (.int .i64) (.pair .str .unit))) (r ++ ((Cur.mk l a s).sesL n.toNat).1))])))
  | _ => .no⟩
theorem Cur.pick_le {c : Cur} {m k : Int} (h : c.good (m - 2)) : (c.pickC k).good m := by
  have := Cur.pickC_good (k := k) h
  rwa [Int.sub_add_cancel] at this
theorem ifB_case {β : Type} {c : Bool} {x y R : Option β} (h1 : c = true → x = R) (h2 : c = false → y = R) : ifB c x y = R := by
  cases c with
  | true => exact h1 rfl
  | false => exact h2 rfl
theorem ifT_case {β : Type} {c : Bool} {x R : Option β} (h1 : c = true) (h2 : x = R) : ifT c x = R := by subst h1; exact h2
theorem ses_round (k : Nat) (n : Int) (l : List Int) (a s : Int) (r : List (Int × Int × List UInt8 × Unit)) : roundK Try.prog (look [(104, .own cpickG), (81, .own coneG), (103, .own camongG), (91, .own cofG)]) (look [(5, sesE)]) 1 (body Try.f92 0) sesE ([.ptr 0 0, .ref 1 0 k, .i .i64 n], [some (.box [.sl (.int .u8) l, .i .i64 a, .i .u64 s]), some (.row false none (.pair (.int .i64) (.pair (.int .i64) (.pair .str .unit))) r)]) =
    ((ifB (decide (n > (0 : Int)))
  (ifT (decide ((Cur.mk l a s).good (900000000 : Int) ∧ (1 : Nat) ≤ (11 : Nat) ∧ (11 : Nat) ≤ (11 : Nat)))
  (ifT (decide (((Cur.mk l a s).pickC (↑(11 : Nat) : Int)).good (900000000 : Int)))
  (ifB
  (((1 : Int) ::
  (2 : Int) ::
  (2 : Int) ::
  (2 : Int) ::
  (3 : Int) ::
  (3 : Int) ::
  (3 : Int) ::
  (4 : Int) :: (5 : Int) :: (6 : Int) :: (6 : Int) :: nilT (Cd.int IntKind.i64).den).getD
  ((0 : Nat) + ((Cur.mk l a s).pickV (↑(11 : Nat) : Int)).toNat) (0 : (Cd.int IntKind.i64).den) ==
  (1 : Int))
  (ifT
  (decide
  ((((Cur.mk l a s).pickC (↑(11 : Nat) : Int)).pickC (3 : Int)).good (900000000 : Int) ∧
  (1 : Nat) ≤ (4 : Nat) ∧ (4 : Nat) ≤ (4 : Nat)))
  (ifT
  (decide
  (((((Cur.mk l a s).pickC (↑(11 : Nat) : Int)).pickC (3 : Int)).pickC (↑(4 : Nat) : Int)).good
  (900000000 : Int)))
  (ifB
  (((((Cur.mk l a s).pickC (↑(11 : Nat) : Int)).pickC (3 : Int)).pickC (↑(4 : Nat) : Int)).pickV
  (60 : Int) ==
  (0 : Int))
  (ifT
  (decide
  ((((((Cur.mk l a s).pickC (↑(11 : Nat) : Int)).pickC (3 : Int)).pickC (↑(4 : Nat) : Int)).pickC
  (60 : Int)).good
  (900000000 : Int)))
  (ifT
  (decide
  (((((((Cur.mk l a s).pickC (↑(11 : Nat) : Int)).pickC (3 : Int)).pickC (↑(4 : Nat) : Int)).pickC
  (60 : Int)).pickC
  (9 : Int)).good
  (900000000 : Int)))
  (ifT
  (decide ((k + (1 : Nat)) * (32 : Nat) ≤ (140737488355328 : Nat)) && decide (k + (1 : Nat) ≤ maxI))
  (some
  (Ex.normal,
  [V.ptr (0 : Nat) (0 : Nat), V.ref (1 : Nat) (0 : Nat) (k + (1 : Nat)),
  V.i IntKind.i64 (IntKind.i64.wrap (n - (1 : Int)))],
  [some
  (Blk.box
  [V.sl (Cd.int IntKind.u8)
  (((((((Cur.mk l a s).pickC (↑(11 : Nat) : Int)).pickC (3 : Int)).pickC
  (↑(4 : Nat) : Int)).pickC
  (60 : Int)).pickC
  (9 : Int)).pickC
  (6 : Int)).l,
  V.i IntKind.i64
  (((((((Cur.mk l a s).pickC (↑(11 : Nat) : Int)).pickC (3 : Int)).pickC
  (↑(4 : Nat) : Int)).pickC
  (60 : Int)).pickC
  (9 : Int)).pickC
  (6 : Int)).a,
  V.i IntKind.u64
  (((((((Cur.mk l a s).pickC (↑(11 : Nat) : Int)).pickC (3 : Int)).pickC
  (↑(4 : Nat) : Int)).pickC
  (60 : Int)).pickC
  (9 : Int)).pickC
  (6 : Int)).s]),
  some
  (Blk.row false none
  ((Cd.int IntKind.i64).pair ((Cd.int IntKind.i64).pair (Cd.str.pair Cd.unit)))
  (List.take k (List.drop (0 : Nat) r) ++
  ((((((Cur.mk l a s).pickC (↑(11 : Nat) : Int)).pickC (3 : Int)).pickC
  (↑(4 : Nat) : Int)).pickC
  (60 : Int)).pickV
  (9 : Int),
  IntKind.i64.wrap
  (((((((Cur.mk l a s).pickC (↑(11 : Nat) : Int)).pickC (3 : Int)).pickC
  (↑(4 : Nat) : Int)).pickC
  (60 : Int)).pickC
  (9 : Int)).pickV
  (6 : Int) -
  (1 : Int)),
  (97 : UInt8) ::
  (32 : UInt8) ::
  (116 : UInt8) ::
  (101 : UInt8) ::
  (120 : UInt8) ::
  (116 : UInt8) ::
  (32 : UInt8) ::
  (111 : UInt8) ::
  (102 : UInt8) ::
  (32 : UInt8) ::
  (109 : UInt8) ::
  (111 : UInt8) ::
  (114 : UInt8) ::
  (101 : UInt8) ::
  (32 : UInt8) ::
  (116 : UInt8) ::
  (104 : UInt8) ::
  (97 : UInt8) ::
  (110 : UInt8) ::
  (32 : UInt8) ::
  (116 : UInt8) ::
  (119 : UInt8) ::
  (101 : UInt8) ::
  (110 : UInt8) ::
  (116 : UInt8) ::
  (121 : UInt8) :: nilT UInt8,
  ()) ::
  nilT
  ((Cd.int IntKind.i64).pair
  ((Cd.int IntKind.i64).pair (Cd.str.pair Cd.unit))).den))])))))
  (ifT (decide ((k + (1 : Nat)) * (32 : Nat) ≤ (140737488355328 : Nat)) && decide (k + (1 : Nat) ≤ maxI))
  (some
  (Ex.normal,
  [V.ptr (0 : Nat) (0 : Nat), V.ref (1 : Nat) (0 : Nat) (k + (1 : Nat)),
  V.i IntKind.i64 (IntKind.i64.wrap (n - (1 : Int)))],
  [some
  (Blk.box
  [V.sl (Cd.int IntKind.u8)
  (((((Cur.mk l a s).pickC (↑(11 : Nat) : Int)).pickC (3 : Int)).pickC
  (↑(4 : Nat) : Int)).pickC
  (60 : Int)).l,
  V.i IntKind.i64
  (((((Cur.mk l a s).pickC (↑(11 : Nat) : Int)).pickC (3 : Int)).pickC
  (↑(4 : Nat) : Int)).pickC
  (60 : Int)).a,
  V.i IntKind.u64
  (((((Cur.mk l a s).pickC (↑(11 : Nat) : Int)).pickC (3 : Int)).pickC
  (↑(4 : Nat) : Int)).pickC
  (60 : Int)).s]),
  some
  (Blk.row false none
  ((Cd.int IntKind.i64).pair ((Cd.int IntKind.i64).pair (Cd.str.pair Cd.unit)))
  (List.take k (List.drop (0 : Nat) r) ++
  (((1 : Int) ::
  (2 : Int) ::
  (2 : Int) ::
  (2 : Int) ::
  (3 : Int) ::
  (3 : Int) ::
  (3 : Int) ::
  (4 : Int) ::
  (5 : Int) ::
  (6 : Int) :: (6 : Int) :: nilT (Cd.int IntKind.i64).den).getD
  ((0 : Nat) + ((Cur.mk l a s).pickV (↑(11 : Nat) : Int)).toNat)
  (0 : (Cd.int IntKind.i64).den),
  ((Cur.mk l a s).pickC (↑(11 : Nat) : Int)).pickV (3 : Int),
  (((97 : UInt8) :: nilT UInt8) ::
  ((98 : UInt8) :: nilT UInt8) ::
  ((105 : UInt8) ::
  (116 : UInt8) :: (101 : UInt8) :: (109 : UInt8) :: nilT UInt8) ::
  nilT UInt8 :: nilT Cd.str.den).getD
  ((0 : Nat) +
  ((((Cur.mk l a s).pickC (↑(11 : Nat) : Int)).pickC (3 : Int)).pickV
  (↑(4 : Nat) : Int)).toNat)
  (nilT UInt8),
  ()) ::
  nilT
  ((Cd.int IntKind.i64).pair
  ((Cd.int IntKind.i64).pair (Cd.str.pair Cd.unit))).den))]))))))
  (ifB
  (((1 : Int) ::
  (2 : Int) ::
  (2 : Int) ::
  (2 : Int) ::
  (3 : Int) ::
  (3 : Int) ::
  (3 : Int) ::
  (4 : Int) :: (5 : Int) :: (6 : Int) :: (6 : Int) :: nilT (Cd.int IntKind.i64).den).getD
  ((0 : Nat) + ((Cur.mk l a s).pickV (↑(11 : Nat) : Int)).toNat) (0 : (Cd.int IntKind.i64).den) ==
  (2 : Int))
  (ifT (decide ((((Cur.mk l a s).pickC (↑(11 : Nat) : Int)).pickC (3 : Int)).good (900000000 : Int)))
  (ifT
  (decide
  (((((Cur.mk l a s).pickC (↑(11 : Nat) : Int)).pickC (3 : Int)).pickC (8 : Int)).good (900000000 : Int)))
  (ifB
  (((((Cur.mk l a s).pickC (↑(11 : Nat) : Int)).pickC (3 : Int)).pickC (8 : Int)).pickV (60 : Int) ==
  (0 : Int))
  (ifT
  (decide
  ((((((Cur.mk l a s).pickC (↑(11 : Nat) : Int)).pickC (3 : Int)).pickC (8 : Int)).pickC
  (60 : Int)).good
  (900000000 : Int)))
  (ifT
  (decide
  (((((((Cur.mk l a s).pickC (↑(11 : Nat) : Int)).pickC (3 : Int)).pickC (8 : Int)).pickC
  (60 : Int)).pickC
  (9 : Int)).good
  (900000000 : Int)))
  (ifT
  (decide ((k + (1 : Nat)) * (32 : Nat) ≤ (140737488355328 : Nat)) && decide (k + (1 : Nat) ≤ maxI))
  (some
  (Ex.normal,
  [V.ptr (0 : Nat) (0 : Nat), V.ref (1 : Nat) (0 : Nat) (k + (1 : Nat)),
  V.i IntKind.i64 (IntKind.i64.wrap (n - (1 : Int)))],
  [some
  (Blk.box
  [V.sl (Cd.int IntKind.u8)
  (((((((Cur.mk l a s).pickC (↑(11 : Nat) : Int)).pickC (3 : Int)).pickC
  (8 : Int)).pickC
  (60 : Int)).pickC
  (9 : Int)).pickC
  (6 : Int)).l,
  V.i IntKind.i64
  (((((((Cur.mk l a s).pickC (↑(11 : Nat) : Int)).pickC (3 : Int)).pickC
  (8 : Int)).pickC
  (60 : Int)).pickC
  (9 : Int)).pickC
  (6 : Int)).a,
  V.i IntKind.u64
  (((((((Cur.mk l a s).pickC (↑(11 : Nat) : Int)).pickC (3 : Int)).pickC
  (8 : Int)).pickC
  (60 : Int)).pickC
  (9 : Int)).pickC
  (6 : Int)).s]),
  some
  (Blk.row false none
  ((Cd.int IntKind.i64).pair ((Cd.int IntKind.i64).pair (Cd.str.pair Cd.unit)))
  (List.take k (List.drop (0 : Nat) r) ++
  ((((((Cur.mk l a s).pickC (↑(11 : Nat) : Int)).pickC (3 : Int)).pickC (8 : Int)).pickC
  (60 : Int)).pickV
  (9 : Int),
  IntKind.i64.wrap
  (((((((Cur.mk l a s).pickC (↑(11 : Nat) : Int)).pickC (3 : Int)).pickC
  (8 : Int)).pickC
  (60 : Int)).pickC
  (9 : Int)).pickV
  (6 : Int) -
  (1 : Int)),
  (97 : UInt8) ::
  (32 : UInt8) ::
  (116 : UInt8) ::
  (101 : UInt8) ::
  (120 : UInt8) ::
  (116 : UInt8) ::
  (32 : UInt8) ::
  (111 : UInt8) ::
  (102 : UInt8) ::
  (32 : UInt8) ::
  (109 : UInt8) ::
  (111 : UInt8) ::
  (114 : UInt8) ::
  (101 : UInt8) ::
  (32 : UInt8) ::
  (116 : UInt8) ::
  (104 : UInt8) ::
  (97 : UInt8) ::
  (110 : UInt8) ::
  (32 : UInt8) ::
  (116 : UInt8) ::
  (119 : UInt8) ::
  (101 : UInt8) ::
  (110 : UInt8) ::
  (116 : UInt8) ::
  (121 : UInt8) :: nilT UInt8,
  ()) ::
  nilT
  ((Cd.int IntKind.i64).pair
  ((Cd.int IntKind.i64).pair (Cd.str.pair Cd.unit))).den))])))))
  (ifT (decide ((k + (1 : Nat)) * (32 : Nat) ≤ (140737488355328 : Nat)) && decide (k + (1 : Nat) ≤ maxI))
  (some
  (Ex.normal,
  [V.ptr (0 : Nat) (0 : Nat), V.ref (1 : Nat) (0 : Nat) (k + (1 : Nat)),
  V.i IntKind.i64 (IntKind.i64.wrap (n - (1 : Int)))],
  [some
  (Blk.box
  [V.sl (Cd.int IntKind.u8)
  (((((Cur.mk l a s).pickC (↑(11 : Nat) : Int)).pickC (3 : Int)).pickC (8 : Int)).pickC
  (60 : Int)).l,
  V.i IntKind.i64
  (((((Cur.mk l a s).pickC (↑(11 : Nat) : Int)).pickC (3 : Int)).pickC (8 : Int)).pickC
  (60 : Int)).a,
  V.i IntKind.u64
  (((((Cur.mk l a s).pickC (↑(11 : Nat) : Int)).pickC (3 : Int)).pickC (8 : Int)).pickC
  (60 : Int)).s]),
  some
  (Blk.row false none
  ((Cd.int IntKind.i64).pair ((Cd.int IntKind.i64).pair (Cd.str.pair Cd.unit)))
  (List.take k (List.drop (0 : Nat) r) ++
  (((1 : Int) ::
  (2 : Int) ::
  (2 : Int) ::
  (2 : Int) ::
  (3 : Int) ::
  (3 : Int) ::
  (3 : Int) ::
  (4 : Int) ::
  (5 : Int) ::
  (6 : Int) :: (6 : Int) :: nilT (Cd.int IntKind.i64).den).getD
  ((0 : Nat) + ((Cur.mk l a s).pickV (↑(11 : Nat) : Int)).toNat)
  (0 : (Cd.int IntKind.i64).den),
  (((Cur.mk l a s).pickC (↑(11 : Nat) : Int)).pickC (3 : Int)).pickV (8 : Int),
  nilT UInt8, ()) ::
  nilT
  ((Cd.int IntKind.i64).pair
  ((Cd.int IntKind.i64).pair (Cd.str.pair Cd.unit))).den))]))))))
  (ifT (decide ((((Cur.mk l a s).pickC (↑(11 : Nat) : Int)).pickC (3 : Int)).good (900000000 : Int)))
  (ifB ((((Cur.mk l a s).pickC (↑(11 : Nat) : Int)).pickC (3 : Int)).pickV (20 : Int) == (0 : Int))
  (ifT
  (decide
  (((((Cur.mk l a s).pickC (↑(11 : Nat) : Int)).pickC (3 : Int)).pickC (20 : Int)).good
  (900000000 : Int)))
  (ifB
  (((((Cur.mk l a s).pickC (↑(11 : Nat) : Int)).pickC (3 : Int)).pickC (20 : Int)).pickV (60 : Int) ==
  (0 : Int))
  (ifT
  (decide
  ((((((Cur.mk l a s).pickC (↑(11 : Nat) : Int)).pickC (3 : Int)).pickC (20 : Int)).pickC
  (60 : Int)).good
  (900000000 : Int)))
  (ifT
  (decide
  (((((((Cur.mk l a s).pickC (↑(11 : Nat) : Int)).pickC (3 : Int)).pickC (20 : Int)).pickC
  (60 : Int)).pickC
  (9 : Int)).good
  (900000000 : Int)))
  (ifT
  (decide ((k + (1 : Nat)) * (32 : Nat) ≤ (140737488355328 : Nat)) &&
  decide (k + (1 : Nat) ≤ maxI))
  (some
  (Ex.normal,
  [V.ptr (0 : Nat) (0 : Nat), V.ref (1 : Nat) (0 : Nat) (k + (1 : Nat)),
  V.i IntKind.i64 (IntKind.i64.wrap (n - (1 : Int)))],
  [some
  (Blk.box
  [V.sl (Cd.int IntKind.u8)
  (((((((Cur.mk l a s).pickC (↑(11 : Nat) : Int)).pickC (3 : Int)).pickC
  (20 : Int)).pickC
  (60 : Int)).pickC
  (9 : Int)).pickC
  (6 : Int)).l,
  V.i IntKind.i64
  (((((((Cur.mk l a s).pickC (↑(11 : Nat) : Int)).pickC (3 : Int)).pickC
  (20 : Int)).pickC
  (60 : Int)).pickC
  (9 : Int)).pickC
  (6 : Int)).a,
  V.i IntKind.u64
  (((((((Cur.mk l a s).pickC (↑(11 : Nat) : Int)).pickC (3 : Int)).pickC
  (20 : Int)).pickC
  (60 : Int)).pickC
  (9 : Int)).pickC
  (6 : Int)).s]),
  some
  (Blk.row false none
  ((Cd.int IntKind.i64).pair ((Cd.int IntKind.i64).pair (Cd.str.pair Cd.unit)))
  (List.take k (List.drop (0 : Nat) r) ++
  ((((((Cur.mk l a s).pickC (↑(11 : Nat) : Int)).pickC (3 : Int)).pickC
  (20 : Int)).pickC
  (60 : Int)).pickV
  (9 : Int),
  IntKind.i64.wrap
  (((((((Cur.mk l a s).pickC (↑(11 : Nat) : Int)).pickC (3 : Int)).pickC
  (20 : Int)).pickC
  (60 : Int)).pickC
  (9 : Int)).pickV
  (6 : Int) -
  (1 : Int)),
  (97 : UInt8) ::
  (32 : UInt8) ::
  (116 : UInt8) ::
  (101 : UInt8) ::
  (120 : UInt8) ::
  (116 : UInt8) ::
  (32 : UInt8) ::
  (111 : UInt8) ::
  (102 : UInt8) ::
  (32 : UInt8) ::
  (109 : UInt8) ::
  (111 : UInt8) ::
  (114 : UInt8) ::
  (101 : UInt8) ::
  (32 : UInt8) ::
  (116 : UInt8) ::
  (104 : UInt8) ::
  (97 : UInt8) ::
  (110 : UInt8) ::
  (32 : UInt8) ::
  (116 : UInt8) ::
  (119 : UInt8) ::
  (101 : UInt8) ::
  (110 : UInt8) ::
  (116 : UInt8) ::
  (121 : UInt8) :: nilT UInt8,
  ()) ::
  nilT
  ((Cd.int IntKind.i64).pair
  ((Cd.int IntKind.i64).pair (Cd.str.pair Cd.unit))).den))])))))
  (ifT
  (decide ((k + (1 : Nat)) * (32 : Nat) ≤ (140737488355328 : Nat)) && decide (k + (1 : Nat) ≤ maxI))
  (some
  (Ex.normal,
  [V.ptr (0 : Nat) (0 : Nat), V.ref (1 : Nat) (0 : Nat) (k + (1 : Nat)),
  V.i IntKind.i64 (IntKind.i64.wrap (n - (1 : Int)))],
  [some
  (Blk.box
  [V.sl (Cd.int IntKind.u8)
  (((((Cur.mk l a s).pickC (↑(11 : Nat) : Int)).pickC (3 : Int)).pickC (20 : Int)).pickC
  (60 : Int)).l,
  V.i IntKind.i64
  (((((Cur.mk l a s).pickC (↑(11 : Nat) : Int)).pickC (3 : Int)).pickC (20 : Int)).pickC
  (60 : Int)).a,
  V.i IntKind.u64
  (((((Cur.mk l a s).pickC (↑(11 : Nat) : Int)).pickC (3 : Int)).pickC (20 : Int)).pickC
  (60 : Int)).s]),
  some
  (Blk.row false none
  ((Cd.int IntKind.i64).pair ((Cd.int IntKind.i64).pair (Cd.str.pair Cd.unit)))
  (List.take k (List.drop (0 : Nat) r) ++
  ((7 : Int), (0 : Int), nilT UInt8, ()) ::
  nilT
  ((Cd.int IntKind.i64).pair
  ((Cd.int IntKind.i64).pair (Cd.str.pair Cd.unit))).den))])))))
  (ifT
  (decide
  (((((Cur.mk l a s).pickC (↑(11 : Nat) : Int)).pickC (3 : Int)).pickC (20 : Int)).good
  (900000000 : Int)))
  (ifB
  (((((Cur.mk l a s).pickC (↑(11 : Nat) : Int)).pickC (3 : Int)).pickC (20 : Int)).pickV (60 : Int) ==
  (0 : Int))
  (ifT
  (decide
  ((((((Cur.mk l a s).pickC (↑(11 : Nat) : Int)).pickC (3 : Int)).pickC (20 : Int)).pickC
  (60 : Int)).good
  (900000000 : Int)))
  (ifT
  (decide
  (((((((Cur.mk l a s).pickC (↑(11 : Nat) : Int)).pickC (3 : Int)).pickC (20 : Int)).pickC
  (60 : Int)).pickC
  (9 : Int)).good
  (900000000 : Int)))
  (ifT
  (decide ((k + (1 : Nat)) * (32 : Nat) ≤ (140737488355328 : Nat)) &&
  decide (k + (1 : Nat) ≤ maxI))
  (some
  (Ex.normal,
  [V.ptr (0 : Nat) (0 : Nat), V.ref (1 : Nat) (0 : Nat) (k + (1 : Nat)),
  V.i IntKind.i64 (IntKind.i64.wrap (n - (1 : Int)))],
  [some
  (Blk.box
  [V.sl (Cd.int IntKind.u8)
  (((((((Cur.mk l a s).pickC (↑(11 : Nat) : Int)).pickC (3 : Int)).pickC
  (20 : Int)).pickC
  (60 : Int)).pickC
  (9 : Int)).pickC
  (6 : Int)).l,
  V.i IntKind.i64
  (((((((Cur.mk l a s).pickC (↑(11 : Nat) : Int)).pickC (3 : Int)).pickC
  (20 : Int)).pickC
  (60 : Int)).pickC
  (9 : Int)).pickC
  (6 : Int)).a,
  V.i IntKind.u64
  (((((((Cur.mk l a s).pickC (↑(11 : Nat) : Int)).pickC (3 : Int)).pickC
  (20 : Int)).pickC
  (60 : Int)).pickC
  (9 : Int)).pickC
  (6 : Int)).s]),
  some
  (Blk.row false none
  ((Cd.int IntKind.i64).pair ((Cd.int IntKind.i64).pair (Cd.str.pair Cd.unit)))
  (List.take k (List.drop (0 : Nat) r) ++
  ((((((Cur.mk l a s).pickC (↑(11 : Nat) : Int)).pickC (3 : Int)).pickC
  (20 : Int)).pickC
  (60 : Int)).pickV
  (9 : Int),
  IntKind.i64.wrap
  (((((((Cur.mk l a s).pickC (↑(11 : Nat) : Int)).pickC (3 : Int)).pickC
  (20 : Int)).pickC
  (60 : Int)).pickC
  (9 : Int)).pickV
  (6 : Int) -
  (1 : Int)),
  (97 : UInt8) ::
  (32 : UInt8) ::
  (116 : UInt8) ::
  (101 : UInt8) ::
  (120 : UInt8) ::
  (116 : UInt8) ::
  (32 : UInt8) ::
  (111 : UInt8) ::
  (102 : UInt8) ::
  (32 : UInt8) ::
  (109 : UInt8) ::
  (111 : UInt8) ::
  (114 : UInt8) ::
  (101 : UInt8) ::
  (32 : UInt8) ::
  (116 : UInt8) ::
  (104 : UInt8) ::
  (97 : UInt8) ::
  (110 : UInt8) ::
  (32 : UInt8) ::
  (116 : UInt8) ::
  (119 : UInt8) ::
  (101 : UInt8) ::
  (110 : UInt8) ::
  (116 : UInt8) ::
  (121 : UInt8) :: nilT UInt8,
  ()) ::
  nilT
  ((Cd.int IntKind.i64).pair
  ((Cd.int IntKind.i64).pair (Cd.str.pair Cd.unit))).den))])))))
  (ifT
  (decide ((k + (1 : Nat)) * (32 : Nat) ≤ (140737488355328 : Nat)) && decide (k + (1 : Nat) ≤ maxI))
  (some
  (Ex.normal,
  [V.ptr (0 : Nat) (0 : Nat), V.ref (1 : Nat) (0 : Nat) (k + (1 : Nat)),
  V.i IntKind.i64 (IntKind.i64.wrap (n - (1 : Int)))],
  [some
  (Blk.box
  [V.sl (Cd.int IntKind.u8)
  (((((Cur.mk l a s).pickC (↑(11 : Nat) : Int)).pickC (3 : Int)).pickC (20 : Int)).pickC
  (60 : Int)).l,
  V.i IntKind.i64
  (((((Cur.mk l a s).pickC (↑(11 : Nat) : Int)).pickC (3 : Int)).pickC (20 : Int)).pickC
  (60 : Int)).a,
  V.i IntKind.u64
  (((((Cur.mk l a s).pickC (↑(11 : Nat) : Int)).pickC (3 : Int)).pickC (20 : Int)).pickC
  (60 : Int)).s]),
  some
  (Blk.row false none
  ((Cd.int IntKind.i64).pair ((Cd.int IntKind.i64).pair (Cd.str.pair Cd.unit)))
  (List.take k (List.drop (0 : Nat) r) ++
  (((1 : Int) ::
  (2 : Int) ::
  (2 : Int) ::
  (2 : Int) ::
  (3 : Int) ::
  (3 : Int) ::
  (3 : Int) ::
  (4 : Int) ::
  (5 : Int) ::
  (6 : Int) :: (6 : Int) :: nilT (Cd.int IntKind.i64).den).getD
  ((0 : Nat) + ((Cur.mk l a s).pickV (↑(11 : Nat) : Int)).toNat)
  (0 : (Cd.int IntKind.i64).den),
  ((Cur.mk l a s).pickC (↑(11 : Nat) : Int)).pickV (3 : Int), nilT UInt8, ()) ::
  nilT
  ((Cd.int IntKind.i64).pair
  ((Cd.int IntKind.i64).pair (Cd.str.pair Cd.unit))).den))])))))))))))
  (some
  (Ex.exit (0 : Nat), [V.ref (1 : Nat) (0 : Nat) k],
  [some (Blk.box [V.sl (Cd.int IntKind.u8) l, V.i IntKind.i64 a, V.i IntKind.u64 s]),
  some (Blk.row false none ((Cd.int IntKind.i64).pair ((Cd.int IntKind.i64).pair (Cd.str.pair Cd.unit))) r)]))) : _) := by kernel_rfl
theorem ses_fun0 (l : List Int) (a s : Int) : funN Try.prog (look [(104, .own cpickG), (81, .own coneG), (103, .own camongG), (91, .own cofG)]) (look [(5, sesE)]) Try.f92 [.ptr 0 0] [.box [.sl (.int .u8) l, .i .i64 a, .i .u64 s]] =
    ((ifT (decide ((Cur.mk l a s).good (900000000 : Int)))
  (ifT (decide (((Cur.mk l a s).pickC (40 : Int)).good (900000000 : Int)))
  (ifB (((Cur.mk l a s).pickC (40 : Int)).pickV (12 : Int) == (0 : Int))
  (ifT (decide ((((Cur.mk l a s).pickC (40 : Int)).pickC (12 : Int)).good (900000000 : Int)))
  (ifT
  (decide
  ((0 : Nat) = (0 : Nat) ∧
  ((0 : Int) ≤
  IntKind.i64.wrap
  ((170 : Int) + (((Cur.mk l a s).pickC (40 : Int)).pickC (12 : Int)).pickV (32 : Int)) ∧
  IntKind.i64.wrap
  ((170 : Int) + (((Cur.mk l a s).pickC (40 : Int)).pickC (12 : Int)).pickV (32 : Int)) ≤
  (1000 : Int)) ∧
  (↑(0 : Nat) : Int) +
  IntKind.i64.wrap
  ((170 : Int) + (((Cur.mk l a s).pickC (40 : Int)).pickC (12 : Int)).pickV (32 : Int)) ≤
  (1000000 : Int) ∧
  ((((Cur.mk l a s).pickC (40 : Int)).pickC (12 : Int)).pickC (32 : Int)).good
  ((800000000 : Int) -
  (12 : Int) *
  IntKind.i64.wrap
  ((170 : Int) + (((Cur.mk l a s).pickC (40 : Int)).pickC (12 : Int)).pickV (32 : Int)))))
  (some
  (V.ref (1 : Nat) (0 : Nat)
  ((0 : Nat) +
  (IntKind.i64.wrap
  ((170 : Int) + (((Cur.mk l a s).pickC (40 : Int)).pickC (12 : Int)).pickV (32 : Int))).toNat),
  [some
  (Blk.box
  [V.sl (Cd.int IntKind.u8)
  (Cur.sesL
  (IntKind.i64.wrap
  ((170 : Int) +
  (((Cur.mk l a s).pickC (40 : Int)).pickC (12 : Int)).pickV (32 : Int))).toNat
  ((((Cur.mk l a s).pickC (40 : Int)).pickC (12 : Int)).pickC (32 : Int))).snd.l,
  V.i IntKind.i64
  (Cur.sesL
  (IntKind.i64.wrap
  ((170 : Int) +
  (((Cur.mk l a s).pickC (40 : Int)).pickC (12 : Int)).pickV (32 : Int))).toNat
  ((((Cur.mk l a s).pickC (40 : Int)).pickC (12 : Int)).pickC (32 : Int))).snd.a,
  V.i IntKind.u64
  (Cur.sesL
  (IntKind.i64.wrap
  ((170 : Int) +
  (((Cur.mk l a s).pickC (40 : Int)).pickC (12 : Int)).pickV (32 : Int))).toNat
  ((((Cur.mk l a s).pickC (40 : Int)).pickC (12 : Int)).pickC (32 : Int))).snd.s]),
  some
  (Blk.row false none ((Cd.int IntKind.i64).pair ((Cd.int IntKind.i64).pair (Cd.str.pair Cd.unit)))
  (nilT ((Cd.int IntKind.i64).pair ((Cd.int IntKind.i64).pair (Cd.str.pair Cd.unit))).den ++
  (Cur.sesL
  (IntKind.i64.wrap
  ((170 : Int) +
  (((Cur.mk l a s).pickC (40 : Int)).pickC (12 : Int)).pickV (32 : Int))).toNat
  ((((Cur.mk l a s).pickC (40 : Int)).pickC (12 : Int)).pickC (32 : Int))).fst))]))))
  (ifT
  (decide
  ((0 : Nat) = (0 : Nat) ∧
  ((0 : Int) ≤ (Cur.mk l a s).pickV (40 : Int) ∧ (Cur.mk l a s).pickV (40 : Int) ≤ (1000 : Int)) ∧
  (↑(0 : Nat) : Int) + (Cur.mk l a s).pickV (40 : Int) ≤ (1000000 : Int) ∧
  (((Cur.mk l a s).pickC (40 : Int)).pickC (12 : Int)).good
  ((800000000 : Int) - (12 : Int) * (Cur.mk l a s).pickV (40 : Int))))
  (some
  (V.ref (1 : Nat) (0 : Nat) ((0 : Nat) + ((Cur.mk l a s).pickV (40 : Int)).toNat),
  [some
  (Blk.box
  [V.sl (Cd.int IntKind.u8)
  (Cur.sesL ((Cur.mk l a s).pickV (40 : Int)).toNat
  (((Cur.mk l a s).pickC (40 : Int)).pickC (12 : Int))).snd.l,
  V.i IntKind.i64
  (Cur.sesL ((Cur.mk l a s).pickV (40 : Int)).toNat
  (((Cur.mk l a s).pickC (40 : Int)).pickC (12 : Int))).snd.a,
  V.i IntKind.u64
  (Cur.sesL ((Cur.mk l a s).pickV (40 : Int)).toNat
  (((Cur.mk l a s).pickC (40 : Int)).pickC (12 : Int))).snd.s]),
  some
  (Blk.row false none ((Cd.int IntKind.i64).pair ((Cd.int IntKind.i64).pair (Cd.str.pair Cd.unit)))
  (nilT ((Cd.int IntKind.i64).pair ((Cd.int IntKind.i64).pair (Cd.str.pair Cd.unit))).den ++
  (Cur.sesL ((Cur.mk l a s).pickV (40 : Int)).toNat
  (((Cur.mk l a s).pickC (40 : Int)).pickC (12 : Int))).fst))])))))) : _) := by kernel_rfl
set_option maxHeartbeats 4000000 in
theorem ses_step (n : Int) (l : List Int) (a s : Int) (r : List (Int × Int × List UInt8 × Unit)) (h0 : 0 < n) (h1 : n ≤ 1000) (hr : (r.length : Int) + n ≤ 1000000) (hc : (Cur.mk l a s).good (800000000 - 12 * n)) :
    roundK Try.prog (look [(104, .own cpickG), (81, .own coneG), (103, .own camongG), (91, .own cofG)]) (look [(5, sesE)]) 1 (body Try.f92 0) sesE ([.ptr 0 0, .ref 1 0 r.length, .i .i64 n], [some (.box [.sl (.int .u8) (Cur.mk l a s).l, .i .i64 (Cur.mk l a s).a, .i .u64 (Cur.mk l a s).s]), some (.row false none (.pair (.int .i64) (.pair (.int .i64) (.pair .str .unit))) r)]) = some (.normal, ([.ptr 0 0, .ref 1 0 (r ++ [(Cur.mk l a s).ses1.1]).length, .i .i64 (n - 1)], [some (.box [.sl (.int .u8) (Cur.mk l a s).ses1.2.l, .i .i64 (Cur.mk l a s).ses1.2.a, .i .u64 (Cur.mk l a s).ses1.2.s]), some (.row false none (.pair (.int .i64) (.pair (.int .i64) (.pair .str .unit))) (r ++ [(Cur.mk l a s).ses1.1]))])) := by
  refine (ses_round r.length n l a s r).trans ?_
  have hM : maxI = 9223372036854775807 := rfl
  have h21 : ((2 : Int) = 1) = False := eq_false (by decide)
  have w1 : IntKind.i64.wrap (n - 1) = n - 1 := wrap_id (by omega) (by omega)
  have pv : ∀ (c : Cur), c.good 900000000 → IntKind.i64.wrap (c.pickV 6 - 1) = c.pickV 6 - 1 := fun c h => by
    have := Cur.pickV_range (k := 6) h (by omega)
    exact wrap_id (by omega) (by omega)
  simp only [show ((11 : Nat) : Int) = 11 from rfl, show ((4 : Nat) : Int) = 4 from rfl, Nat.zero_add, List.drop_zero, List.take_length, w1]
  rw [ifB_true (decide_eq_true (by omega))]
  rw [List.length_append]
  repeat' first
    | ((with_reducible refine ifB_case (fun h => ?_) (fun h => ?_)) <;> (try simp only [beq_iff_eq, beq_eq_false_iff_ne, ne_eq] at h))
    | with_reducible refine ifT_case ?_ ?_
  all_goals try (simp only [decide_eq_true_eq]; first
    | ((repeat with_reducible apply Cur.pick_le); exact Cur.good_mono hc (by omega))
    | (refine ⟨?_, by omega, by omega⟩; (repeat with_reducible apply Cur.pick_le); exact Cur.good_mono hc (by omega)))
  all_goals try (simp only [Bool.and_eq_true, decide_eq_true_eq]; omega)
  all_goals try rw [pv _ (by (repeat with_reducible apply Cur.pick_le); exact Cur.good_mono hc (by omega))]
  all_goals try simp only [Cur.ses1, Cur.sesA, nilT_eq, *, ite_true, ite_false, reduceIte]
  all_goals (show _ = _; kernel_rfl)
theorem Cur.ses1_good {c : Cur} {m : Int} (h : c.good m) : c.ses1.2.good (m + 12) := by
  have hA : c.sesA.2.good (m + 6) := by
    unfold Cur.sesA
    repeat' split
    all_goals ((repeat with_reducible apply Cur.pick_le); exact Cur.good_mono h (by omega))
  unfold Cur.ses1
  split
  all_goals ((repeat with_reducible apply Cur.pick_le); exact Cur.good_mono hA (by omega))
theorem ses_loop : ∀ (n : Nat) (c : Cur) (r : List (Int × Int × List UInt8 × Unit)), n ≤ 1000 → (r.length : Int) + n ≤ 1000000 → c.good (800000000 - 12 * n) →
    Runs Try.prog (look [(104, .own cpickG), (81, .own coneG), (103, .own camongG), (91, .own cofG)]) (look [(5, sesE)]) 1 (body Try.f92 0) sesE (([.ptr 0 0, .ref 1 0 r.length, .i .i64 (n : Int)], [some (.box [.sl (.int .u8) c.l, .i .i64 c.a, .i .u64 c.s]), some (.row false none (.pair (.int .i64) (.pair (.int .i64) (.pair .str .unit))) r)])) (.exit 0) ([.ref 1 0 (r.length + n)], [some (.box [.sl (.int .u8) (c.sesL n).2.l, .i .i64 (c.sesL n).2.a, .i .u64 (c.sesL n).2.s]), some (.row false none (.pair (.int .i64) (.pair (.int .i64) (.pair .str .unit))) (r ++ (c.sesL n).1))]) := by
  intro n
  induction n with
  | zero =>
    intro c r hn hr hc
    refine .stop _ _ _ ((ses_round r.length ((0 : Nat) : Int) c.l c.a c.s r).trans ?_) (by simp)
    rw [ifB_false (by simp), Cur.sesL, List.append_nil]
    rfl
  | succ n ihn =>
    intro c r hn hr hc
    have hg := Cur.ses1_good hc
    have ih := ihn c.ses1.2 (r ++ [c.ses1.1]) (by omega) (by simp; omega) (Cur.good_mono hg (by omega))
    have hs := ses_step (n := ((n + 1 : Nat) : Int)) c.l c.a c.s r (by omega) (by omega) hr hc
    rw [show (((n + 1 : Nat) : Int) - 1) = (n : Int) by omega] at hs
    have e1 : (r ++ [c.ses1.1]).length + n = r.length + (n + 1) := by simp; omega
    rw [e1, List.append_assoc] at ih
    rw [Cur.sesL]
    exact .step _ _ _ _ hs ih
theorem ses_ok : LoopsOk Try.prog (look [(104, .own cpickG), (81, .own coneG), (103, .own camongG), (91, .own cofG)]) (look [(5, sesE)]) 1 (Try.f92.body.getD .skip) := by
  refine loopsOk_one (a := body Try.f92 0) (by kernel_rfl) fun d e d' h => ?_
  unfold sesE at h
  dsimp only at h
  split at h
  · rename_i k n l a s r
    obtain ⟨hc, h'⟩ := need_some h
    obtain ⟨rfl, ⟨h0, h1⟩, h2, h3⟩ := of_decide_eq_true hc
    obtain ⟨n, rfl⟩ := Int.eq_ofNat_of_zero_le h0
    have h5 := leaf_some h'
    obtain ⟨rfl, rfl⟩ := Prod.mk.inj h5
    exact ses_loop n (Cur.mk l a s) r (by omega) h2 h3
  · cases h
end Go.Proofs.Ytjghbihlgfjebaa.Den
