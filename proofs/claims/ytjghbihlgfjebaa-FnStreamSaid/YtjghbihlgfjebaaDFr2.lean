/- What functions of the program do, by the machine: Fr2. -/
import Derived.Test.YtjghbihlgfjebaaDFr1
import Derived.KernelRfl
import Derived.Test.YtjghbihlgfjebaaRows
namespace Go.Proofs.Ytjghbihlgfjebaa.Den
open Go.Proofs
set_option maxRecDepth 100000
/-- The first frame of bytes: what is left behind it; or what is left, and whether it is bad. -/
def unf1 (s : List UInt8) : Sum (List UInt8 × List UInt8) (List UInt8 × Bool) :=
  if (s.getD 0 0).toNat ≠ 126 ∨ (1 < s.length ∧ 60 < (s.getD 1 0).toNat) then .inr ([], true)
  else if s.length = 1 ∨ s.length < (s.getD 1 0).toNat + 3 then .inr (s, false)
  else if ((s.getD (2 + (s.getD 1 0).toNat) 0).toNat : Int) ≠ sumB ((s.drop 2).take (s.getD 1 0).toNat) then .inr ([], true)
  else .inl ((s.drop 2).take (s.getD 1 0).toNat, s.drop (3 + (s.getD 1 0).toNat))
/-- The frames of bytes, what is left, and whether it is bad. -/
def unfF : Nat → List UInt8 → List (List UInt8) × List UInt8 × Bool
  | 0, s => ([], s, false)
  | f + 1, s => if s = [] then ([], [], false) else match unf1 s with
    | .inl (t, r) => (t :: (unfF f r).1, (unfF f r).2)
    | .inr x => ([], x)
def unf (s : List UInt8) : List (List UInt8) × List UInt8 × Bool := unfF s.length s
def unfG : List V → List Blk → Br (V × List (Option Blk))
  | [.s s], [] => .need (decide (s.length ≤ 100000)) (.leaf (.tup [.ref 0 0 (unf s).1.length, .s (unf s).2.1, .b (unf s).2.2], [some (.row false none .str (unf s).1)]))
  | _, _ => .no
def iunfE : LoopEnt := ⟨65, [0, 5], [5], [2, 3, 4], fun
  | ([.s s, .ref 0 0 k], [some (.row false none .str r)]) =>
    .need (decide (k = r.length ∧ s.length ≤ 100000 ∧ r.length ≤ 1000000 ∧ r.length + s.length ≤ 1000000)) (.br (decide ((unf s).2 = ([], false))) (.leaf (.exit 0, ([.ref 0 0 (r ++ (unf s).1).length], [some (.row false none .str (r ++ (unf s).1))]))) (.leaf (.ret, ([.ref 0 0 (r ++ (unf s).1).length, .s (unf s).2.1, .b (unf s).2.2], [some (.row false none .str (r ++ (unf s).1))]))))
  | _ => .no⟩
def sunfE : LoopEnt := ⟨63, [0, 5], [5], [2, 3, 4], fun
  | ([.s s, .ref 0 0 k], [some (.row false none .str r)]) =>
    .need (decide (k = r.length ∧ s.length ≤ 100000 ∧ r.length ≤ 1000000 ∧ r.length + s.length ≤ 1000000)) (.br (decide ((unf s).2 = ([], false))) (.leaf (.exit 0, ([.ref 0 0 (r ++ (unf s).1).length], [some (.row false none .str (r ++ (unf s).1))]))) (.leaf (.ret, ([.ref 0 0 (r ++ (unf s).1).length, .s (unf s).2.1, .b (unf s).2.2], [some (.row false none .str (r ++ (unf s).1))]))))
  | _ => .no⟩
theorem iunf_round (s : List UInt8) (k : Nat) (r : List (List UInt8)) : roundK Try.prog (look [(140, .rd1 sumG)]) (look [(2, iunfE)]) 0 (body Try.f88 0) iunfE ([.s s, .ref 0 0 k], [some (.row false none .str r)]) =
  ((ifB (!s == nilT UInt8)
  (ifSome s[(0 : Nat)]? fun z =>
  ifB ((↑z.toNat : Int) != (126 : Int))
  (ifB ((↑z.toNat : Int) != (126 : Int))
  (some (Ex.ret, [V.ref (0 : Nat) (0 : Nat) k, V.s (nilT UInt8), V.b true], [some (Blk.row false none Cd.str r)]))
  (ifB ((↑s.length : Int) == (1 : Int))
  (some (Ex.ret, [V.ref (0 : Nat) (0 : Nat) k, V.s s, V.b false], [some (Blk.row false none Cd.str r)]))
  (ifSome s[(1 : Nat)]? fun z =>
  ifB (decide ((↑s.length : Int) < IntKind.i64.wrap (IntKind.i64.wrap (↑z.toNat : Int) + (3 : Int))))
  (some (Ex.ret, [V.ref (0 : Nat) (0 : Nat) k, V.s s, V.b false], [some (Blk.row false none Cd.str r)]))
  (ifSome s[(1 : Nat)]? fun z =>
  ifT
  (decide ((0 : Int) ≤ (2 : Int)) &&
  decide ((2 : Int) ≤ IntKind.i64.wrap ((2 : Int) + IntKind.i64.wrap (↑z.toNat : Int))) &&
  decide (IntKind.i64.wrap ((2 : Int) + IntKind.i64.wrap (↑z.toNat : Int)) ≤ (↑s.length : Int)))
  (ifT (decide ((0 : Int) ≤ IntKind.i64.wrap ((2 : Int) + IntKind.i64.wrap (↑z.toNat : Int))))
  (ifSome s[(IntKind.i64.wrap ((2 : Int) + IntKind.i64.wrap (↑z.toNat : Int))).toNat]? fun z_1 =>
  ifT
  (decide
  ((List.take
  ((IntKind.i64.wrap ((2 : Int) + IntKind.i64.wrap (↑z.toNat : Int))).toNat - (2 : Nat))
  (List.drop (2 : Nat) s)).length ≤
  maxI))
  (ifB
  (IntKind.i64.wrap (↑z_1.toNat : Int) !=
  sumB
  (List.take
  ((IntKind.i64.wrap ((2 : Int) + IntKind.i64.wrap (↑z.toNat : Int))).toNat - (2 : Nat))
  (List.drop (2 : Nat) s)))
  (some
  (Ex.ret, [V.ref (0 : Nat) (0 : Nat) k, V.s (nilT UInt8), V.b true],
  [some (Blk.row false none Cd.str r)]))
  (ifT
  (decide ((k + (1 : Nat)) * (16 : Nat) ≤ (140737488355328 : Nat)) &&
  decide (k + (1 : Nat) ≤ maxI))
  (ifT
  (decide ((0 : Int) ≤ IntKind.i64.wrap ((3 : Int) + IntKind.i64.wrap (↑z.toNat : Int))) &&
  decide
  (IntKind.i64.wrap ((3 : Int) + IntKind.i64.wrap (↑z.toNat : Int)) ≤
  (↑s.length : Int)))
  (some
  (Ex.normal,
  [V.s
  (List.take
  (s.length -
  (IntKind.i64.wrap ((3 : Int) + IntKind.i64.wrap (↑z.toNat : Int))).toNat)
  (List.drop
  (IntKind.i64.wrap ((3 : Int) + IntKind.i64.wrap (↑z.toNat : Int))).toNat s)),
  V.ref (0 : Nat) (0 : Nat) (k + (1 : Nat))],
  [some
  (Blk.row false none Cd.str
  (List.take k (List.drop (0 : Nat) r) ++
  List.take
  ((IntKind.i64.wrap
  ((2 : Int) + IntKind.i64.wrap (↑z.toNat : Int))).toNat -
  (2 : Nat))
  (List.drop (2 : Nat) s) ::
  nilT Cd.str.den))])))))))))))
  (ifB (decide ((↑s.length : Int) > (1 : Int)))
  (ifSome s[(1 : Nat)]? fun z =>
  ifB (decide (IntKind.i64.wrap (↑z.toNat : Int) > (60 : Int)))
  (some
  (Ex.ret, [V.ref (0 : Nat) (0 : Nat) k, V.s (nilT UInt8), V.b true], [some (Blk.row false none Cd.str r)]))
  (ifB ((↑s.length : Int) == (1 : Int))
  (some (Ex.ret, [V.ref (0 : Nat) (0 : Nat) k, V.s s, V.b false], [some (Blk.row false none Cd.str r)]))
  (ifSome s[(1 : Nat)]? fun z =>
  ifB (decide ((↑s.length : Int) < IntKind.i64.wrap (IntKind.i64.wrap (↑z.toNat : Int) + (3 : Int))))
  (some (Ex.ret, [V.ref (0 : Nat) (0 : Nat) k, V.s s, V.b false], [some (Blk.row false none Cd.str r)]))
  (ifSome s[(1 : Nat)]? fun z =>
  ifT
  (decide ((0 : Int) ≤ (2 : Int)) &&
  decide ((2 : Int) ≤ IntKind.i64.wrap ((2 : Int) + IntKind.i64.wrap (↑z.toNat : Int))) &&
  decide (IntKind.i64.wrap ((2 : Int) + IntKind.i64.wrap (↑z.toNat : Int)) ≤ (↑s.length : Int)))
  (ifT (decide ((0 : Int) ≤ IntKind.i64.wrap ((2 : Int) + IntKind.i64.wrap (↑z.toNat : Int))))
  (ifSome s[(IntKind.i64.wrap ((2 : Int) + IntKind.i64.wrap (↑z.toNat : Int))).toNat]? fun z_1 =>
  ifT
  (decide
  ((List.take
  ((IntKind.i64.wrap ((2 : Int) + IntKind.i64.wrap (↑z.toNat : Int))).toNat -
  (2 : Nat))
  (List.drop (2 : Nat) s)).length ≤
  maxI))
  (ifB
  (IntKind.i64.wrap (↑z_1.toNat : Int) !=
  sumB
  (List.take
  ((IntKind.i64.wrap ((2 : Int) + IntKind.i64.wrap (↑z.toNat : Int))).toNat -
  (2 : Nat))
  (List.drop (2 : Nat) s)))
  (some
  (Ex.ret, [V.ref (0 : Nat) (0 : Nat) k, V.s (nilT UInt8), V.b true],
  [some (Blk.row false none Cd.str r)]))
  (ifT
  (decide ((k + (1 : Nat)) * (16 : Nat) ≤ (140737488355328 : Nat)) &&
  decide (k + (1 : Nat) ≤ maxI))
  (ifT
  (decide
  ((0 : Int) ≤ IntKind.i64.wrap ((3 : Int) + IntKind.i64.wrap (↑z.toNat : Int))) &&
  decide
  (IntKind.i64.wrap ((3 : Int) + IntKind.i64.wrap (↑z.toNat : Int)) ≤
  (↑s.length : Int)))
  (some
  (Ex.normal,
  [V.s
  (List.take
  (s.length -
  (IntKind.i64.wrap ((3 : Int) + IntKind.i64.wrap (↑z.toNat : Int))).toNat)
  (List.drop
  (IntKind.i64.wrap ((3 : Int) + IntKind.i64.wrap (↑z.toNat : Int))).toNat
  s)),
  V.ref (0 : Nat) (0 : Nat) (k + (1 : Nat))],
  [some
  (Blk.row false none Cd.str
  (List.take k (List.drop (0 : Nat) r) ++
  List.take
  ((IntKind.i64.wrap
  ((2 : Int) + IntKind.i64.wrap (↑z.toNat : Int))).toNat -
  (2 : Nat))
  (List.drop (2 : Nat) s) ::
  nilT Cd.str.den))])))))))))))
  (ifB ((↑s.length : Int) == (1 : Int))
  (some (Ex.ret, [V.ref (0 : Nat) (0 : Nat) k, V.s s, V.b false], [some (Blk.row false none Cd.str r)]))
  (ifSome s[(1 : Nat)]? fun z =>
  ifB (decide ((↑s.length : Int) < IntKind.i64.wrap (IntKind.i64.wrap (↑z.toNat : Int) + (3 : Int))))
  (some (Ex.ret, [V.ref (0 : Nat) (0 : Nat) k, V.s s, V.b false], [some (Blk.row false none Cd.str r)]))
  (ifSome s[(1 : Nat)]? fun z =>
  ifT
  (decide ((0 : Int) ≤ (2 : Int)) &&
  decide ((2 : Int) ≤ IntKind.i64.wrap ((2 : Int) + IntKind.i64.wrap (↑z.toNat : Int))) &&
  decide (IntKind.i64.wrap ((2 : Int) + IntKind.i64.wrap (↑z.toNat : Int)) ≤ (↑s.length : Int)))
  (ifT (decide ((0 : Int) ≤ IntKind.i64.wrap ((2 : Int) + IntKind.i64.wrap (↑z.toNat : Int))))
  (ifSome s[(IntKind.i64.wrap ((2 : Int) + IntKind.i64.wrap (↑z.toNat : Int))).toNat]? fun z_1 =>
  ifT
  (decide
  ((List.take
  ((IntKind.i64.wrap ((2 : Int) + IntKind.i64.wrap (↑z.toNat : Int))).toNat - (2 : Nat))
  (List.drop (2 : Nat) s)).length ≤
  maxI))
  (ifB
  (IntKind.i64.wrap (↑z_1.toNat : Int) !=
  sumB
  (List.take
  ((IntKind.i64.wrap ((2 : Int) + IntKind.i64.wrap (↑z.toNat : Int))).toNat - (2 : Nat))
  (List.drop (2 : Nat) s)))
  (some
  (Ex.ret, [V.ref (0 : Nat) (0 : Nat) k, V.s (nilT UInt8), V.b true],
  [some (Blk.row false none Cd.str r)]))
  (ifT
  (decide ((k + (1 : Nat)) * (16 : Nat) ≤ (140737488355328 : Nat)) &&
  decide (k + (1 : Nat) ≤ maxI))
  (ifT
  (decide ((0 : Int) ≤ IntKind.i64.wrap ((3 : Int) + IntKind.i64.wrap (↑z.toNat : Int))) &&
  decide
  (IntKind.i64.wrap ((3 : Int) + IntKind.i64.wrap (↑z.toNat : Int)) ≤
  (↑s.length : Int)))
  (some
  (Ex.normal,
  [V.s
  (List.take
  (s.length -
  (IntKind.i64.wrap ((3 : Int) + IntKind.i64.wrap (↑z.toNat : Int))).toNat)
  (List.drop
  (IntKind.i64.wrap ((3 : Int) + IntKind.i64.wrap (↑z.toNat : Int))).toNat s)),
  V.ref (0 : Nat) (0 : Nat) (k + (1 : Nat))],
  [some
  (Blk.row false none Cd.str
  (List.take k (List.drop (0 : Nat) r) ++
  List.take
  ((IntKind.i64.wrap
  ((2 : Int) + IntKind.i64.wrap (↑z.toNat : Int))).toNat -
  (2 : Nat))
  (List.drop (2 : Nat) s) ::
  nilT Cd.str.den))]))))))))))))
  (some (Ex.exit (0 : Nat), [V.ref (0 : Nat) (0 : Nat) k], [some (Blk.row false none Cd.str r)]))) : _) := by kernel_rfl
theorem sunf_round (s : List UInt8) (k : Nat) (r : List (List UInt8)) : roundK Try.prog (look [(144, .rd1 frameG)]) (look [(2, sunfE)]) 0 (body Try.f90 0) sunfE ([.s s, .ref 0 0 k], [some (.row false none .str r)]) =
  ((ifB (!s == nilT UInt8)
  (ifSome s[(0 : Nat)]? fun z =>
  ifB ((↑z.toNat : Int) != (126 : Int))
  (some (Ex.ret, [V.ref (0 : Nat) (0 : Nat) k, V.s (nilT UInt8), V.b true], [some (Blk.row false none Cd.str r)]))
  (ifB (decide ((↑s.length : Int) > (1 : Int)))
  (ifSome s[(1 : Nat)]? fun z =>
  ifB (decide (IntKind.i64.wrap (↑z.toNat : Int) > (60 : Int)))
  (some
  (Ex.ret, [V.ref (0 : Nat) (0 : Nat) k, V.s (nilT UInt8), V.b true], [some (Blk.row false none Cd.str r)]))
  (ifB (decide ((↑s.length : Int) < (2 : Int)))
  (some (Ex.ret, [V.ref (0 : Nat) (0 : Nat) k, V.s s, V.b false], [some (Blk.row false none Cd.str r)]))
  (ifSome s[(1 : Nat)]? fun z =>
  ifB (decide ((↑s.length : Int) < IntKind.i64.wrap (IntKind.i64.wrap (↑z.toNat : Int) + (3 : Int))))
  (some (Ex.ret, [V.ref (0 : Nat) (0 : Nat) k, V.s s, V.b false], [some (Blk.row false none Cd.str r)]))
  (ifSome s[(1 : Nat)]? fun z =>
  ifT
  (decide ((0 : Int) ≤ (2 : Int)) &&
  decide ((2 : Int) ≤ IntKind.i64.wrap ((2 : Int) + IntKind.i64.wrap (↑z.toNat : Int))) &&
  decide (IntKind.i64.wrap ((2 : Int) + IntKind.i64.wrap (↑z.toNat : Int)) ≤ (↑s.length : Int)))
  (ifT
  (decide
  ((List.take
  ((IntKind.i64.wrap ((2 : Int) + IntKind.i64.wrap (↑z.toNat : Int))).toNat - (2 : Nat))
  (List.drop (2 : Nat) s)).length ≤
  (255 : Nat)))
  (ifT
  (decide ((0 : Int) ≤ IntKind.i64.wrap (IntKind.i64.wrap (↑z.toNat : Int) + (3 : Int))) &&
  decide
  (IntKind.i64.wrap (IntKind.i64.wrap (↑z.toNat : Int) + (3 : Int)) ≤ (↑s.length : Int)))
  (ifB
  (!frB
  (List.take
  ((IntKind.i64.wrap ((2 : Int) + IntKind.i64.wrap (↑z.toNat : Int))).toNat -
  (2 : Nat))
  (List.drop (2 : Nat) s)) ==
  List.take
  ((IntKind.i64.wrap (IntKind.i64.wrap (↑z.toNat : Int) + (3 : Int))).toNat - (0 : Nat))
  (List.drop (0 : Nat) s))
  (some
  (Ex.ret, [V.ref (0 : Nat) (0 : Nat) k, V.s (nilT UInt8), V.b true],
  [some (Blk.row false none Cd.str r)]))
  (ifT
  (decide ((k + (1 : Nat)) * (16 : Nat) ≤ (140737488355328 : Nat)) &&
  decide (k + (1 : Nat) ≤ maxI))
  (ifT
  (decide
  ((0 : Int) ≤ IntKind.i64.wrap (IntKind.i64.wrap (↑z.toNat : Int) + (3 : Int))) &&
  decide
  (IntKind.i64.wrap (IntKind.i64.wrap (↑z.toNat : Int) + (3 : Int)) ≤
  (↑s.length : Int)))
  (some
  (Ex.normal,
  [V.s
  (List.take
  (s.length -
  (IntKind.i64.wrap (IntKind.i64.wrap (↑z.toNat : Int) + (3 : Int))).toNat)
  (List.drop
  (IntKind.i64.wrap (IntKind.i64.wrap (↑z.toNat : Int) + (3 : Int))).toNat
  s)),
  V.ref (0 : Nat) (0 : Nat) (k + (1 : Nat))],
  [some
  (Blk.row false none Cd.str
  (List.take k (List.drop (0 : Nat) r) ++
  List.take
  ((IntKind.i64.wrap
  ((2 : Int) + IntKind.i64.wrap (↑z.toNat : Int))).toNat -
  (2 : Nat))
  (List.drop (2 : Nat) s) ::
  nilT Cd.str.den))])))))))))))
  (ifB (decide ((↑s.length : Int) < (2 : Int)))
  (some (Ex.ret, [V.ref (0 : Nat) (0 : Nat) k, V.s s, V.b false], [some (Blk.row false none Cd.str r)]))
  (ifSome s[(1 : Nat)]? fun z =>
  ifB (decide ((↑s.length : Int) < IntKind.i64.wrap (IntKind.i64.wrap (↑z.toNat : Int) + (3 : Int))))
  (some (Ex.ret, [V.ref (0 : Nat) (0 : Nat) k, V.s s, V.b false], [some (Blk.row false none Cd.str r)]))
  (ifSome s[(1 : Nat)]? fun z =>
  ifT
  (decide ((0 : Int) ≤ (2 : Int)) &&
  decide ((2 : Int) ≤ IntKind.i64.wrap ((2 : Int) + IntKind.i64.wrap (↑z.toNat : Int))) &&
  decide (IntKind.i64.wrap ((2 : Int) + IntKind.i64.wrap (↑z.toNat : Int)) ≤ (↑s.length : Int)))
  (ifT
  (decide
  ((List.take ((IntKind.i64.wrap ((2 : Int) + IntKind.i64.wrap (↑z.toNat : Int))).toNat - (2 : Nat))
  (List.drop (2 : Nat) s)).length ≤
  (255 : Nat)))
  (ifT
  (decide ((0 : Int) ≤ IntKind.i64.wrap (IntKind.i64.wrap (↑z.toNat : Int) + (3 : Int))) &&
  decide (IntKind.i64.wrap (IntKind.i64.wrap (↑z.toNat : Int) + (3 : Int)) ≤ (↑s.length : Int)))
  (ifB
  (!frB
  (List.take
  ((IntKind.i64.wrap ((2 : Int) + IntKind.i64.wrap (↑z.toNat : Int))).toNat - (2 : Nat))
  (List.drop (2 : Nat) s)) ==
  List.take
  ((IntKind.i64.wrap (IntKind.i64.wrap (↑z.toNat : Int) + (3 : Int))).toNat - (0 : Nat))
  (List.drop (0 : Nat) s))
  (some
  (Ex.ret, [V.ref (0 : Nat) (0 : Nat) k, V.s (nilT UInt8), V.b true],
  [some (Blk.row false none Cd.str r)]))
  (ifT
  (decide ((k + (1 : Nat)) * (16 : Nat) ≤ (140737488355328 : Nat)) &&
  decide (k + (1 : Nat) ≤ maxI))
  (ifT
  (decide ((0 : Int) ≤ IntKind.i64.wrap (IntKind.i64.wrap (↑z.toNat : Int) + (3 : Int))) &&
  decide
  (IntKind.i64.wrap (IntKind.i64.wrap (↑z.toNat : Int) + (3 : Int)) ≤ (↑s.length : Int)))
  (some
  (Ex.normal,
  [V.s
  (List.take
  (s.length -
  (IntKind.i64.wrap (IntKind.i64.wrap (↑z.toNat : Int) + (3 : Int))).toNat)
  (List.drop
  (IntKind.i64.wrap (IntKind.i64.wrap (↑z.toNat : Int) + (3 : Int))).toNat s)),
  V.ref (0 : Nat) (0 : Nat) (k + (1 : Nat))],
  [some
  (Blk.row false none Cd.str
  (List.take k (List.drop (0 : Nat) r) ++
  List.take
  ((IntKind.i64.wrap ((2 : Int) + IntKind.i64.wrap (↑z.toNat : Int))).toNat -
  (2 : Nat))
  (List.drop (2 : Nat) s) ::
  nilT Cd.str.den))]))))))))))))
  (some (Ex.exit (0 : Nat), [V.ref (0 : Nat) (0 : Nat) k], [some (Blk.row false none Cd.str r)]))) : _) := by kernel_rfl
theorem unf1_inl {s t r : List UInt8} (h : unf1 s = .inl (t, r)) : r.length + t.length + 3 = s.length ∧ t.length ≤ 60 := by
  unfold unf1 at h
  split at h
  · cases h
  · rename_i h1
    split at h
    · cases h
    · rename_i h2
      split at h
      · cases h
      · cases h
        simp only [List.length_take, List.length_drop]
        omega
theorem unfF_fuel : ∀ (f g : Nat) (s : List UInt8), s.length ≤ f → s.length ≤ g → unfF f s = unfF g s
  | 0, 0, s, _, _ => rfl
  | 0, g + 1, s, h, _ => by
    have : s = [] := List.length_eq_zero_iff.1 (by omega)
    subst this; simp [unfF]
  | f + 1, 0, s, _, h => by
    have : s = [] := List.length_eq_zero_iff.1 (by omega)
    subst this; simp [unfF]
  | f + 1, g + 1, s, h1, h2 => by
    unfold unfF
    split
    · rfl
    · cases e : unf1 s with
      | inl x =>
        obtain ⟨t, r⟩ := x
        have := unf1_inl e
        dsimp only
        rw [unfF_fuel f g r (by omega) (by omega)]
      | inr x => rfl
theorem unfF_succ (f : Nat) (s : List UInt8) : unfF (f + 1) s = if s = [] then ([], [], false) else match unf1 s with
    | .inl (t, r) => (t :: (unfF f r).1, (unfF f r).2)
    | .inr x => ([], x) := rfl
theorem unf_nil : unf [] = ([], [], false) := rfl
theorem unf_inl {s t r : List UInt8} (h : unf1 s = .inl (t, r)) : unf s = (t :: (unf r).1, (unf r).2) := by
  have hl := unf1_inl h
  have hne : s ≠ [] := fun e => by rw [e] at hl; simp at hl
  obtain ⟨n, hs⟩ : ∃ n, s.length = n + 1 := ⟨s.length - 1, by omega⟩
  unfold unf
  rw [hs, unfF_succ, if_neg hne, h]
  dsimp only
  rw [unfF_fuel n r.length r (by omega) (Nat.le_refl _)]
theorem unf_inr {s : List UInt8} {x : List UInt8 × Bool} (hne : s ≠ []) (h : unf1 s = .inr x) : unf s = ([], x) := by
  obtain ⟨n, hs⟩ : ∃ n, s.length = n + 1 := ⟨s.length - 1, by have := List.length_pos_iff.2 hne; omega⟩
  unfold unf
  rw [hs, unfF_succ, if_neg hne, h]
theorem unf1_inr {s : List UInt8} {x : List UInt8 × Bool} (hne : s ≠ []) (h : unf1 s = .inr x) : x ≠ ([], false) := by
  unfold unf1 at h
  split at h
  · cases h; simp
  · split at h
    · cases h; intro e; exact hne (Prod.mk.inj e).1
    · split at h
      · cases h; simp
      · cases h
theorem iunf_step (s : List UInt8) (r : List (List UInt8)) (hne : s ≠ []) (hs : s.length ≤ 100000) (hr2 : r.length ≤ 1000000) : roundK Try.prog (look [(140, .rd1 sumG)]) (look [(2, iunfE)]) 0 (body Try.f88 0) iunfE ([.s s, .ref 0 0 r.length], [some (.row false none .str r)]) = some (match unf1 s with
    | .inl (t, s') => (.normal, ([.s s', .ref 0 0 (r ++ [t]).length], [some (.row false none .str (r ++ [t]))]))
    | .inr x => (.ret, ([.ref 0 0 r.length, .s x.1, .b x.2], [some (.row false none .str r)]))) := by
  have hr := iunf_round s r.length r
  have hM : maxI = 9223372036854775807 := rfl
  have hpos : 0 < s.length := List.length_pos_iff.2 hne
  have h0 : s[0]? = some (s.getD 0 0) := by simp [List.getD, hpos]
  rw [ifB_true (by simpa using hne)] at hr
  simp only [h0, ifSome_s, nilT_eq] at hr
  unfold unf1
  by_cases qA : (s.getD 0 0).toNat = 126
  rotate_left
  · rw [if_pos (.inl qA)]
    rw [ifB_true (by simp only [bne_iff_ne, ne_eq]; omega), ifB_true (by simp only [bne_iff_ne, ne_eq]; omega)] at hr
    exact hr
  rw [ifB_false (by simp only [bne_eq_false_iff_eq]; omega)] at hr
  by_cases q1 : 1 < s.length
  rotate_left
  · have hl : s.length = 1 := by omega
    rw [if_neg (by omega), if_pos (.inl hl)]
    rw [ifB_false (decide_eq_false (by omega)), ifB_true (by simp [hl])] at hr
    exact hr
  have h1 : s[1]? = some (s.getD 1 0) := by simp [List.getD, q1]
  have hb := (s.getD 1 0).toNat_lt
  generalize s.getD 1 0 = b at *
  have w1 : IntKind.i64.wrap ((b.toNat : Nat) : Int) = (b.toNat : Int) := wrap_id (by omega) (by omega)
  have w2 : IntKind.i64.wrap ((b.toNat : Int) + 3) = (b.toNat : Int) + 3 := wrap_id (by omega) (by omega)
  have w3 : IntKind.i64.wrap (2 + (b.toNat : Int)) = ((2 + b.toNat : Nat) : Int) := by rw [wrap_id (by omega) (by omega)]; omega
  have w4 : IntKind.i64.wrap (3 + (b.toNat : Int)) = ((3 + b.toNat : Nat) : Int) := by rw [wrap_id (by omega) (by omega)]; omega
  rw [ifB_true (decide_eq_true (by omega))] at hr
  simp only [h1, ifSome_s, w1, w2, w3, w4, Int.toNat_natCast] at hr
  by_cases qB : 60 < b.toNat
  · rw [if_pos (.inr ⟨q1, qB⟩)]
    rw [ifB_true (decide_eq_true (by omega))] at hr
    exact hr
  rw [if_neg (by omega)]
  rw [ifB_false (decide_eq_false (by omega)), ifB_false (beq_false_of_ne (by omega))] at hr
  by_cases qD : s.length < b.toNat + 3
  · rw [if_pos (.inr qD)]
    rw [ifB_true (decide_eq_true (by omega))] at hr
    exact hr
  rw [if_neg (by omega)]
  rw [ifB_false (decide_eq_false (by omega)), ifT_true (by simp only [Bool.and_eq_true, decide_eq_true_eq]; omega), ifT_true (decide_eq_true (by omega))] at hr
  have hlt : 2 + b.toNat < s.length := by omega
  have h2 : s[2 + b.toNat]? = some (s.getD (2 + b.toNat) 0) := by simp [List.getD, hlt]
  have e2 : 2 + b.toNat - 2 = b.toNat := by omega
  simp only [h2, ifSome_s, e2] at hr
  have hz := (s.getD (2 + b.toNat) 0).toNat_lt
  rw [wrap_id (n := ((s.getD (2 + b.toNat) 0).toNat : Int)) (by omega) (by omega), ifT_true (decide_eq_true (by rw [List.length_take]; omega))] at hr
  by_cases qE : ((s.getD (2 + b.toNat) 0).toNat : Int) = sumB ((s.drop 2).take b.toNat)
  rotate_left
  · rw [if_pos qE]
    rw [ifB_true (by simpa using qE)] at hr
    exact hr
  rw [if_neg (fun hh => hh qE)]
  rw [ifB_false (by simpa using qE), ifT_true (by simp only [Bool.and_eq_true, decide_eq_true_eq]; omega), ifT_true (by simp only [Bool.and_eq_true, decide_eq_true_eq]; omega)] at hr
  refine hr.trans ?_
  have e3 : List.take (s.length - (3 + b.toNat)) (List.drop (3 + b.toNat) s) = List.drop (3 + b.toNat) s := List.take_of_length_le (by simp)
  simp only [e3, List.drop_zero, List.take_length, nilT_eq]
  simp
theorem iunf_loop : ∀ (f : Nat) (s : List UInt8) (r : List (List UInt8)), s.length < f → s.length ≤ 100000 → r.length ≤ 1000000 → r.length + s.length ≤ 1000000 →
    Runs Try.prog (look [(140, .rd1 sumG)]) (look [(2, iunfE)]) 0 (body Try.f88 0) iunfE ([.s s, .ref 0 0 r.length], [some (.row false none .str r)]) (if (unf s).2 = ([], false) then .exit 0 else .ret) (if (unf s).2 = ([], false) then [.ref 0 0 (r ++ (unf s).1).length] else [.ref 0 0 (r ++ (unf s).1).length, .s (unf s).2.1, .b (unf s).2.2], [some (.row false none .str (r ++ (unf s).1))])
  | 0, s, r, h, _, _, _ => by omega
  | f + 1, s, r, h, hs, hr, hrs => by
    by_cases hne : s = []
    · subst hne
      have h1 := iunf_round [] r.length r
      rw [ifB_false (by rfl)] at h1
      rw [unf_nil]
      simp only [if_true, List.append_nil]
      exact .stop _ _ _ h1 (by simp)
    · have h1 := iunf_step s r hne hs hr
      cases e : unf1 s with
      | inl x =>
        obtain ⟨t, s'⟩ := x
        rw [e] at h1
        have hl := unf1_inl e
        rw [unf_inl e]
        have ih := iunf_loop f s' (r ++ [t]) (by omega) (by omega) (by simp; omega) (by simp; omega)
        simp only [List.append_assoc, List.singleton_append] at ih
        dsimp only at h1 ⊢
        exact .step _ _ _ _ h1 (by simpa using ih)
      | inr x =>
        rw [e] at h1
        rw [unf_inr hne e]
        have hx := unf1_inr hne e
        simp only [if_neg hx, List.append_nil]
        exact .stop _ _ _ h1 (by simp)
theorem iunf_ok : LoopsOk Try.prog (look [(140, .rd1 sumG)]) (look [(2, iunfE)]) 0 (Try.f88.body.getD .skip) := by
  refine loopsOk_one (a := body Try.f88 0) (by kernel_rfl) fun d e d' hq => ?_
  unfold iunfE at hq
  dsimp only at hq
  split at hq
  · rename_i s k r
    obtain ⟨hc, hx⟩ := need_some hq
    clear hq
    obtain ⟨rfl, h1, h2, h3⟩ := of_decide_eq_true hc
    have := iunf_loop (s.length + 1) s r (by omega) h1 h2 h3
    rcases br_some hx with ⟨h4, hx⟩ | ⟨h4, hx⟩
    · have h4 := of_decide_eq_true h4
      simp only [if_pos h4] at this
      cases leaf_some hx; exact this
    · have h4 := of_decide_eq_false h4
      simp only [if_neg h4] at this
      cases leaf_some hx; exact this
  · cases hq
theorem iunf_fun (s : List UInt8) (hs : s.length ≤ 100000) : funN Try.prog (look [(140, .rd1 sumG)]) (look [(2, iunfE)]) Try.f88 [.s s] [] = some (.tup [.ref 0 0 (unf s).1.length, .s (unf s).2.1, .b (unf s).2.2], [some (.row false none .str (unf s).1)]) := by
  have e : funN Try.prog (look [(140, .rd1 sumG)]) (look [(2, iunfE)]) Try.f88 [.s s] [] = ((ifT
  (decide
  ((0 : Nat) = (0 : Nat) ∧
  s.length ≤ (100000 : Nat) ∧ (0 : Nat) ≤ (1000000 : Nat) ∧ (0 : Nat) + s.length ≤ (1000000 : Nat)))
  (ifB (decide ((unf s).snd = (nilT UInt8, false)))
  (some
  (V.tup [V.ref (0 : Nat) (0 : Nat) (nilT Cd.str.den ++ (unf s).fst).length, V.s (nilT UInt8), V.b false],
  [some (Blk.row false none Cd.str (nilT Cd.str.den ++ (unf s).fst))]))
  (some
  (V.tup
  [V.ref (0 : Nat) (0 : Nat) (nilT Cd.str.den ++ (unf s).fst).length, V.s (unf s).snd.fst, V.b (unf s).snd.snd],
  [some (Blk.row false none Cd.str (nilT Cd.str.den ++ (unf s).fst))])))) : _) := by kernel_rfl
  rw [e]
  clear e
  rw [ifT_true (decide_eq_true ⟨rfl, hs, by simp, by simp; omega⟩)]
  by_cases h : (unf s).2 = ([], false)
  · rw [ifB_true (decide_eq_true h)]
    simp [h]
  · rw [ifB_false (decide_eq_false h)]
    simp
theorem iunf : Contract Try.prog 88 (Ent.rd1 unfG).F := by
  refine fun_contractN' (KnowsL.cons (enters_fn Try.func140 (by kernel_rfl) (by kernel_rfl)) fsum KnowsL.nil).knows (Λ := (look [(2, iunfE)])) Try.func88 (c := Try.f88.body.getD .skip) (by kernel_rfl) fun vs bs r' hq hv hb => ?_
  unfold Ent.F unfG at hq
  dsimp only at hq
  split at hq
  · rename_i s
    obtain ⟨hc, hx⟩ := need_some hq
    exact ⟨iunf_ok, (iunf_fun s (of_decide_eq_true hc)).trans hx⟩
  · cases hq
theorem sunf_step (s : List UInt8) (r : List (List UInt8)) (hne : s ≠ []) (hs : s.length ≤ 100000) (hr2 : r.length ≤ 1000000) : roundK Try.prog (look [(144, .rd1 frameG)]) (look [(2, sunfE)]) 0 (body Try.f90 0) sunfE ([.s s, .ref 0 0 r.length], [some (.row false none .str r)]) = some (match unf1 s with
    | .inl (t, s') => (.normal, ([.s s', .ref 0 0 (r ++ [t]).length], [some (.row false none .str (r ++ [t]))]))
    | .inr x => (.ret, ([.ref 0 0 r.length, .s x.1, .b x.2], [some (.row false none .str r)]))) := by
  have hr := sunf_round s r.length r
  have hM : maxI = 9223372036854775807 := rfl
  have hpos : 0 < s.length := List.length_pos_iff.2 hne
  have h0 : s[0]? = some (s.getD 0 0) := by simp [List.getD, hpos]
  rw [ifB_true (by simpa using hne)] at hr
  simp only [h0, ifSome_s, nilT_eq] at hr
  unfold unf1
  by_cases qA : (s.getD 0 0).toNat = 126
  rotate_left
  · rw [if_pos (.inl qA)]
    rw [ifB_true (by simp only [bne_iff_ne, ne_eq]; omega)] at hr
    exact hr
  rw [ifB_false (by simp only [bne_eq_false_iff_eq]; omega)] at hr
  by_cases q1 : 1 < s.length
  rotate_left
  · have hl : s.length = 1 := by omega
    rw [if_neg (by omega), if_pos (.inl hl)]
    rw [ifB_false (decide_eq_false (by omega)), ifB_true (decide_eq_true (by omega))] at hr
    exact hr
  have h1 : s[1]? = some (s.getD 1 0) := by simp [List.getD, q1]
  have hb := (s.getD 1 0).toNat_lt
  have hsh : ∃ s2, s = s.getD 0 0 :: s.getD 1 0 :: s2 := by
    match s, q1 with
    | a :: b :: s2, _ => exact ⟨s2, rfl⟩
  have h00 : s.getD 0 0 = 126 := UInt8.toNat_inj.1 qA
  generalize hbe : s.getD 1 0 = b at *
  have w1 : IntKind.i64.wrap ((b.toNat : Nat) : Int) = (b.toNat : Int) := wrap_id (by omega) (by omega)
  have w2 : IntKind.i64.wrap ((b.toNat : Int) + 3) = ((b.toNat + 3 : Nat) : Int) := by rw [wrap_id (by omega) (by omega)]; omega
  have w3 : IntKind.i64.wrap (2 + (b.toNat : Int)) = ((2 + b.toNat : Nat) : Int) := by rw [wrap_id (by omega) (by omega)]; omega
  rw [ifB_true (decide_eq_true (by omega))] at hr
  simp only [h1, ifSome_s, w1, w2, w3, Int.toNat_natCast] at hr
  by_cases qB : 60 < b.toNat
  · rw [if_pos (.inr ⟨q1, qB⟩)]
    rw [ifB_true (decide_eq_true (by omega))] at hr
    exact hr
  rw [if_neg (by omega)]
  rw [ifB_false (decide_eq_false (by omega)), ifB_false (decide_eq_false (by omega))] at hr
  by_cases qD : s.length < b.toNat + 3
  · rw [if_pos (.inr qD)]
    rw [ifB_true (decide_eq_true (by omega))] at hr
    exact hr
  rw [if_neg (by omega)]
  have e2 : 2 + b.toNat - 2 = b.toNat := by omega
  have e3 : List.take (s.length - (b.toNat + 3)) (List.drop (b.toNat + 3) s) = List.drop (b.toNat + 3) s := List.take_of_length_le (by simp)
  have hlt : 2 + b.toNat < s.length := by omega
  simp only [e2, e3, Nat.sub_zero, List.drop_zero, List.take_length, nilT_eq] at hr
  rw [ifB_false (decide_eq_false (by omega)), ifT_true (by simp only [Bool.and_eq_true, decide_eq_true_eq]; omega), ifT_true (decide_eq_true (by rw [List.length_take]; omega)), ifT_true (by simp only [Bool.and_eq_true, decide_eq_true_eq]; omega)] at hr
  have key : (frB ((s.drop 2).take b.toNat) = s.take (b.toNat + 3)) ↔ ((s.getD (2 + b.toNat) 0).toNat : Int) = sumB ((s.drop 2).take b.toNat) := by
    obtain ⟨s2, hs2⟩ := hsh
    rw [h00] at hs2
    have hl2 : s.length = s2.length + 2 := by rw [hs2]; simp
    have hg : s.getD (2 + b.toNat) 0 = s2.getD b.toNat 0 := by rw [hs2, Nat.add_comm]; rfl
    have hd : s.drop 2 = s2 := by rw [hs2]; rfl
    have ht : s.take (b.toNat + 3) = 126 :: b :: s2.take (b.toNat + 1) := by rw [hs2]; rfl
    rw [hg, hd, ht]
    have hbl : b.toNat < s2.length := by omega
    have htl : (s2.take b.toNat).length = b.toNat := by rw [List.length_take]; omega
    have hgs : s2.getD b.toNat 0 = s2[b.toNat] := by simp [List.getD, hbl]
    have hr1 := sumB_range (s2.take b.toNat)
    unfold frB
    rw [htl, UInt8.ofNat_toNat, List.take_succ_eq_append_getElem hbl, hgs]
    simp only [List.cons.injEq, true_and, List.append_cancel_left_eq, and_true]
    constructor
    · intro e
      rw [← e, UInt8.toNat_ofNat']
      omega
    · intro e
      apply UInt8.toNat_inj.1
      rw [UInt8.toNat_ofNat']
      omega
  by_cases qE : ((s.getD (2 + b.toNat) 0).toNat : Int) = sumB ((s.drop 2).take b.toNat)
  rotate_left
  · rw [if_pos qE]
    rw [ifB_true (by rw [beq_false_of_ne (fun hh => qE (key.1 hh))]; rfl)] at hr
    exact hr
  rw [if_neg (fun hh => hh qE)]
  rw [ifB_false (by rw [key.2 qE]; simp), ifT_true (by simp only [Bool.and_eq_true, decide_eq_true_eq]; omega), ifT_true (by simp only [Bool.and_eq_true, decide_eq_true_eq]; omega)] at hr
  refine hr.trans ?_
  rw [Nat.add_comm b.toNat 3]
  simp
theorem sunf_loop : ∀ (f : Nat) (s : List UInt8) (r : List (List UInt8)), s.length < f → s.length ≤ 100000 → r.length ≤ 1000000 → r.length + s.length ≤ 1000000 →
    Runs Try.prog (look [(144, .rd1 frameG)]) (look [(2, sunfE)]) 0 (body Try.f90 0) sunfE ([.s s, .ref 0 0 r.length], [some (.row false none .str r)]) (if (unf s).2 = ([], false) then .exit 0 else .ret) (if (unf s).2 = ([], false) then [.ref 0 0 (r ++ (unf s).1).length] else [.ref 0 0 (r ++ (unf s).1).length, .s (unf s).2.1, .b (unf s).2.2], [some (.row false none .str (r ++ (unf s).1))])
  | 0, s, r, h, _, _, _ => by omega
  | f + 1, s, r, h, hs, hr, hrs => by
    by_cases hne : s = []
    · subst hne
      have h1 := sunf_round [] r.length r
      rw [ifB_false (by rfl)] at h1
      rw [unf_nil]
      simp only [if_true, List.append_nil]
      exact .stop _ _ _ h1 (by simp)
    · have h1 := sunf_step s r hne hs hr
      cases e : unf1 s with
      | inl x =>
        obtain ⟨t, s'⟩ := x
        rw [e] at h1
        have hl := unf1_inl e
        rw [unf_inl e]
        have ih := sunf_loop f s' (r ++ [t]) (by omega) (by omega) (by simp; omega) (by simp; omega)
        simp only [List.append_assoc, List.singleton_append] at ih
        dsimp only at h1 ⊢
        exact .step _ _ _ _ h1 (by simpa using ih)
      | inr x =>
        rw [e] at h1
        rw [unf_inr hne e]
        have hx := unf1_inr hne e
        simp only [if_neg hx, List.append_nil]
        exact .stop _ _ _ h1 (by simp)
theorem sunf_ok : LoopsOk Try.prog (look [(144, .rd1 frameG)]) (look [(2, sunfE)]) 0 (Try.f90.body.getD .skip) := by
  refine loopsOk_one (a := body Try.f90 0) (by kernel_rfl) fun d e d' hq => ?_
  unfold sunfE at hq
  dsimp only at hq
  split at hq
  · rename_i s k r
    obtain ⟨hc, hx⟩ := need_some hq
    clear hq
    obtain ⟨rfl, h1, h2, h3⟩ := of_decide_eq_true hc
    have := sunf_loop (s.length + 1) s r (by omega) h1 h2 h3
    rcases br_some hx with ⟨h4, hx⟩ | ⟨h4, hx⟩
    · have h4 := of_decide_eq_true h4
      simp only [if_pos h4] at this
      cases leaf_some hx; exact this
    · have h4 := of_decide_eq_false h4
      simp only [if_neg h4] at this
      cases leaf_some hx; exact this
  · cases hq
theorem sunf_fun (s : List UInt8) (hs : s.length ≤ 100000) : funN Try.prog (look [(144, .rd1 frameG)]) (look [(2, sunfE)]) Try.f90 [.s s] [] = some (.tup [.ref 0 0 (unf s).1.length, .s (unf s).2.1, .b (unf s).2.2], [some (.row false none .str (unf s).1)]) := by
  have e : funN Try.prog (look [(144, .rd1 frameG)]) (look [(2, sunfE)]) Try.f90 [.s s] [] = ((ifT
  (decide
  ((0 : Nat) = (0 : Nat) ∧
  s.length ≤ (100000 : Nat) ∧ (0 : Nat) ≤ (1000000 : Nat) ∧ (0 : Nat) + s.length ≤ (1000000 : Nat)))
  (ifB (decide ((unf s).snd = (nilT UInt8, false)))
  (some
  (V.tup [V.ref (0 : Nat) (0 : Nat) (nilT Cd.str.den ++ (unf s).fst).length, V.s (nilT UInt8), V.b false],
  [some (Blk.row false none Cd.str (nilT Cd.str.den ++ (unf s).fst))]))
  (some
  (V.tup
  [V.ref (0 : Nat) (0 : Nat) (nilT Cd.str.den ++ (unf s).fst).length, V.s (unf s).snd.fst, V.b (unf s).snd.snd],
  [some (Blk.row false none Cd.str (nilT Cd.str.den ++ (unf s).fst))])))) : _) := by kernel_rfl
  rw [e]
  clear e
  rw [ifT_true (decide_eq_true ⟨rfl, hs, by simp, by simp; omega⟩)]
  by_cases h : (unf s).2 = ([], false)
  · rw [ifB_true (decide_eq_true h)]
    simp [h]
  · rw [ifB_false (decide_eq_false h)]
    simp
theorem sunf : Contract Try.prog 90 (Ent.rd1 unfG).F := by
  refine fun_contractN' (KnowsL.cons (enters_fn Try.func144 (by kernel_rfl) (by kernel_rfl)) frame KnowsL.nil).knows (Λ := (look [(2, sunfE)])) Try.func90 (c := Try.f90.body.getD .skip) (by kernel_rfl) fun vs bs r' hq hv hb => ?_
  unfold Ent.F unfG at hq
  dsimp only at hq
  split at hq
  · rename_i s
    obtain ⟨hc, hx⟩ := need_some hq
    exact ⟨sunf_ok, (sunf_fun s (of_decide_eq_true hc)).trans hx⟩
  · cases hq
end Go.Proofs.Ytjghbihlgfjebaa.Den
