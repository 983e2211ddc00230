/- What functions of the program do, by the machine: Calm5. -/
import Derived.Test.YtjghbihlgfjebaaDCalm4
import Derived.KernelRfl
import Derived.Test.YtjghbihlgfjebaaRows
namespace Go.Proofs.Ytjghbihlgfjebaa.Den
open Go.Proofs
set_option maxRecDepth 100000
/-- What comes of a calm session. -/
def calmO (s : Ses) : Ses := bif goodS s.e s.it s.b s.ha s.w s.a then s.calm.run s.it.length else ⟨0, [], 0, [], [], []⟩
/-- How many are sent. -/
def calmN (s : Ses) : Int := bif goodS s.e s.it s.b s.ha s.w s.a then ((s.calm.runs s.it.length : Nat) : Int) else 0
def ciE : LoopEnt := ⟨28, [2,5,6], [2,5,6], [], fun
  | ([.ptr 0 0, .ptr 1 0, .i .i64 k], [some (.box [.i .i64 0, .ref 2 0 0, .i .i64 0, .ref 3 0 0, .ref 4 0 0, .ref 5 0 0]), some (.box [.i .i64 s0, .ref 6 0 m1, .i .i64 s2, .ref 7 0 m3, .ref 8 0 m4, .ref 9 0 m5]), some (.row false none .str []), some (.row false none .str []), some (.row false none (.pair (.int .i64) (.pair (.int .i64) (.pair .str .unit))) []), some (.row false none (.pair (.int .i64) (.pair (.int .i64) .unit)) []), some (.row false none .str s1), some (.row false none .str s3), some (.row false none (.pair (.int .i64) (.pair (.int .i64) (.pair .str .unit))) s4), some (.row false none (.pair (.int .i64) (.pair (.int .i64) .unit)) s5)]) => .need (decide ((m1 = s1.length ∧ m3 = s3.length ∧ m4 = s4.length ∧ m5 = s5.length) ∧ (s4.length = 0 ∧ s5.length = 0) ∧ s1.length ≤ 1000 ∧ (0 ≤ k ∧ k + ((s1.length - s2.toNat : Nat) : Int) ≤ 1000000) ∧ (Ses.mk s0 s1 s2 s3 s4 s5).inv (100000 - 2 * (s1.length - s2.toNat)))) (.leaf (.exit 0, ([.ptr 0 0, .ptr 1 0, .i .i64 (k + ((Ses.mk s0 s1 s2 s3 s4 s5).runs s1.length : Nat))], [some (.box [.i .i64 0, .ref 2 0 0, .i .i64 0, .ref 3 0 0, .ref 4 0 0, .ref 5 0 0]), some (.box [.i .i64 ((Ses.mk s0 s1 s2 s3 s4 s5).run s1.length).e, .ref 6 0 ((Ses.mk s0 s1 s2 s3 s4 s5).run s1.length).it.length, .i .i64 ((Ses.mk s0 s1 s2 s3 s4 s5).run s1.length).b, .ref 7 0 ((Ses.mk s0 s1 s2 s3 s4 s5).run s1.length).ha.length, .ref 8 0 ((Ses.mk s0 s1 s2 s3 s4 s5).run s1.length).w.length, .ref 9 0 ((Ses.mk s0 s1 s2 s3 s4 s5).run s1.length).a.length]), some (.row false none .str []), some (.row false none .str []), some (.row false none (.pair (.int .i64) (.pair (.int .i64) (.pair .str .unit))) []), some (.row false none (.pair (.int .i64) (.pair (.int .i64) .unit)) []), some (.row false none .str ((Ses.mk s0 s1 s2 s3 s4 s5).run s1.length).it), some (.row false none .str ((Ses.mk s0 s1 s2 s3 s4 s5).run s1.length).ha), some (.row false none (.pair (.int .i64) (.pair (.int .i64) (.pair .str .unit))) ((Ses.mk s0 s1 s2 s3 s4 s5).run s1.length).w), some (.row false none (.pair (.int .i64) (.pair (.int .i64) .unit)) ((Ses.mk s0 s1 s2 s3 s4 s5).run s1.length).a)])))
  | _ => .no⟩
def csE : LoopEnt := ⟨34, [1,2,5], [1,2,5], [], fun
  | ([.ptr 0 0, .ptr 1 0, .i .i64 k], [some (.box [.i .i64 s0, .ref 2 0 m1, .i .i64 s2, .ref 3 0 m3, .ref 4 0 m4, .ref 5 0 m5]), some (.box [.i .i64 0, .ref 6 0 0, .i .i64 0, .ref 7 0 0, .ref 8 0 0, .ref 9 0 0]), some (.row false none .str s1), some (.row false none .str s3), some (.row false none (.pair (.int .i64) (.pair (.int .i64) (.pair .str .unit))) s4), some (.row false none (.pair (.int .i64) (.pair (.int .i64) .unit)) s5), some (.row false none .str []), some (.row false none .str []), some (.row false none (.pair (.int .i64) (.pair (.int .i64) (.pair .str .unit))) []), some (.row false none (.pair (.int .i64) (.pair (.int .i64) .unit)) [])]) => .need (decide ((m1 = s1.length ∧ m3 = s3.length ∧ m4 = s4.length ∧ m5 = s5.length) ∧ (s4.length = 0 ∧ s5.length = 0) ∧ s1.length ≤ 1000 ∧ (0 ≤ k ∧ k + ((s1.length - s2.toNat : Nat) : Int) ≤ 1000000) ∧ (Ses.mk s0 s1 s2 s3 s4 s5).inv (100000 - 2 * (s1.length - s2.toNat)))) (.leaf (.exit 0, ([.ptr 0 0, .ptr 1 0, .i .i64 (k + ((Ses.mk s0 s1 s2 s3 s4 s5).runs s1.length : Nat))], [some (.box [.i .i64 ((Ses.mk s0 s1 s2 s3 s4 s5).run s1.length).e, .ref 2 0 ((Ses.mk s0 s1 s2 s3 s4 s5).run s1.length).it.length, .i .i64 ((Ses.mk s0 s1 s2 s3 s4 s5).run s1.length).b, .ref 3 0 ((Ses.mk s0 s1 s2 s3 s4 s5).run s1.length).ha.length, .ref 4 0 ((Ses.mk s0 s1 s2 s3 s4 s5).run s1.length).w.length, .ref 5 0 ((Ses.mk s0 s1 s2 s3 s4 s5).run s1.length).a.length]), some (.box [.i .i64 0, .ref 6 0 0, .i .i64 0, .ref 7 0 0, .ref 8 0 0, .ref 9 0 0]), some (.row false none .str ((Ses.mk s0 s1 s2 s3 s4 s5).run s1.length).it), some (.row false none .str ((Ses.mk s0 s1 s2 s3 s4 s5).run s1.length).ha), some (.row false none (.pair (.int .i64) (.pair (.int .i64) (.pair .str .unit))) ((Ses.mk s0 s1 s2 s3 s4 s5).run s1.length).w), some (.row false none (.pair (.int .i64) (.pair (.int .i64) .unit)) ((Ses.mk s0 s1 s2 s3 s4 s5).run s1.length).a), some (.row false none .str []), some (.row false none .str []), some (.row false none (.pair (.int .i64) (.pair (.int .i64) (.pair .str .unit))) []), some (.row false none (.pair (.int .i64) (.pair (.int .i64) .unit)) [])])))
  | _ => .no⟩
theorem Ses.run_inv : ∀ (f : Nat) {s : Ses} {n : Nat}, s.inv n → s.w = [] → s.a = [] → (s.run f).inv (n + 2 * f)
  | 0, s, n, h, _, _ => h
  | f + 1, s, n, h, hw, ha => by
    unfold Ses.run
    split
    · rename_i hb
      obtain ⟨g1, g2, g3, g4, g5⟩ := Ses.round_inv h hw ha hb
      have := Ses.run_inv f g1 g2 g3
      rwa [show n + 2 * (f + 1) = n + 2 + 2 * f by omega]
    · exact Ses.inv_mono h (by omega)
theorem good_inv {s0 : Int} {s1 : List (List UInt8)} {s2 : Int} {s3 : List (List UInt8)} {s4 : List (Int × Int × List UInt8 × Unit)} {s5 : List (Int × Int × Unit)} (h : goodS s0 s1 s2 s3 s4 s5 = true) : (Ses.mk s0 s1 s2 s3 s4 s5).inv 30 := by
  obtain ⟨he, h1, -, h2, -, hb, h4, h5, -, h6⟩ := good_len h
  exact ⟨he, hb, fun z hz => (h6 z hz).2, h1, by dsimp only; omega, by dsimp only; omega, by dsimp only; omega⟩
theorem ci_round (s0 : Int) (m1 : Nat) (s2 : Int) (m3 m4 m5 : Nat) (s1 s3 : List (List UInt8)) (s4 : List (Int × Int × List UInt8 × Unit)) (s5 : List (Int × Int × Unit)) (k : Int) : roundK Try.prog (look [(30, .rd1 implGoodG), (68, .rd1 cloneSessionG), (69, .own settleG), (70, .own oSendCG)]) (look [(5, ciE)]) 0 (body Try.f12 0) ciE ([.ptr 0 0, .ptr 1 0, .i .i64 k], [some (.box [.i .i64 0, .ref 2 0 0, .i .i64 0, .ref 3 0 0, .ref 4 0 0, .ref 5 0 0]), some (.box [.i .i64 s0, .ref 6 0 m1, .i .i64 s2, .ref 7 0 m3, .ref 8 0 m4, .ref 9 0 m5]), some (.row false none .str []), some (.row false none .str []), some (.row false none (.pair (.int .i64) (.pair (.int .i64) (.pair .str .unit))) []), some (.row false none (.pair (.int .i64) (.pair (.int .i64) .unit)) []), some (.row false none .str s1), some (.row false none .str s3), some (.row false none (.pair (.int .i64) (.pair (.int .i64) (.pair .str .unit))) s4), some (.row false none (.pair (.int .i64) (.pair (.int .i64) .unit)) s5)]) =
    ((ifB (decide (s2 < (↑m1 : Int)))
  (ifT
  (decide
  (m1 = s1.length ∧
  m3 = s3.length ∧
  m4 = s4.length ∧
  m5 = s5.length ∧
  ((0 : Int) ≤ s2 ∧ s2 ≤ (1000000000 : Int)) ∧
  ((0 : Int) ≤ s0 ∧ s0 ≤ (1000000000 : Int)) ∧
  s1.length ≤ (1000000000 : Nat) ∧
  s3.length ≤ (1000000000 : Nat) ∧ s4.length ≤ (1000000000 : Nat) ∧ s5.length ≤ (1000000000 : Nat)))
  (ifB ((Ses.mk s0 s1 s2 s3 s4 s5).ok (2 : Int) s2 (nilT UInt8))
  (ifT
  (decide
  ((((Ses.mk s0 s1 s2 s3 s4 s5).next (2 : Int) s2 (nilT UInt8)).it.length =
  ((Ses.mk s0 s1 s2 s3 s4 s5).next (2 : Int) s2 (nilT UInt8)).it.length ∧
  ((Ses.mk s0 s1 s2 s3 s4 s5).next (2 : Int) s2 (nilT UInt8)).ha.length =
  ((Ses.mk s0 s1 s2 s3 s4 s5).next (2 : Int) s2 (nilT UInt8)).ha.length ∧
  ((Ses.mk s0 s1 s2 s3 s4 s5).next (2 : Int) s2 (nilT UInt8)).w.length =
  ((Ses.mk s0 s1 s2 s3 s4 s5).next (2 : Int) s2 (nilT UInt8)).w.length ∧
  ((Ses.mk s0 s1 s2 s3 s4 s5).next (2 : Int) s2 (nilT UInt8)).a.length =
  ((Ses.mk s0 s1 s2 s3 s4 s5).next (2 : Int) s2 (nilT UInt8)).a.length) ∧
  ((Ses.mk s0 s1 s2 s3 s4 s5).next (2 : Int) s2 (nilT UInt8)).w.length ≤ (500000 : Nat) ∧
  ((Ses.mk s0 s1 s2 s3 s4 s5).next (2 : Int) s2 (nilT UInt8)).inv
  ((1000000 : Nat) - ((Ses.mk s0 s1 s2 s3 s4 s5).next (2 : Int) s2 (nilT UInt8)).w.length)))
  (some
  (Ex.normal,
  [V.ptr (0 : Nat) (0 : Nat), V.ptr (1 : Nat) (0 : Nat), V.i IntKind.i64 (IntKind.i64.wrap (k + (1 : Int)))],
  [some
  (Blk.box
  [V.i IntKind.i64 (0 : Int), V.ref (2 : Nat) (0 : Nat) (0 : Nat), V.i IntKind.i64 (0 : Int),
  V.ref (3 : Nat) (0 : Nat) (0 : Nat), V.ref (4 : Nat) (0 : Nat) (0 : Nat),
  V.ref (5 : Nat) (0 : Nat) (0 : Nat)]),
  some
  (Blk.box
  [V.i IntKind.i64 ((Ses.mk s0 s1 s2 s3 s4 s5).next (2 : Int) s2 (nilT UInt8)).calm.e,
  V.ref (6 : Nat) (0 : Nat)
  ((Ses.mk s0 s1 s2 s3 s4 s5).next (2 : Int) s2 (nilT UInt8)).calm.it.length,
  V.i IntKind.i64 ((Ses.mk s0 s1 s2 s3 s4 s5).next (2 : Int) s2 (nilT UInt8)).calm.b,
  V.ref (7 : Nat) (0 : Nat)
  ((Ses.mk s0 s1 s2 s3 s4 s5).next (2 : Int) s2 (nilT UInt8)).calm.ha.length,
  V.ref (8 : Nat) (0 : Nat) ((Ses.mk s0 s1 s2 s3 s4 s5).next (2 : Int) s2 (nilT UInt8)).calm.w.length,
  V.ref (9 : Nat) (0 : Nat)
  ((Ses.mk s0 s1 s2 s3 s4 s5).next (2 : Int) s2 (nilT UInt8)).calm.a.length]),
  some (Blk.row false none Cd.str (nilT Cd.str.den)), some (Blk.row false none Cd.str (nilT Cd.str.den)),
  some
  (Blk.row false none ((Cd.int IntKind.i64).pair ((Cd.int IntKind.i64).pair (Cd.str.pair Cd.unit)))
  (nilT ((Cd.int IntKind.i64).pair ((Cd.int IntKind.i64).pair (Cd.str.pair Cd.unit))).den)),
  some
  (Blk.row false none ((Cd.int IntKind.i64).pair ((Cd.int IntKind.i64).pair Cd.unit))
  (nilT ((Cd.int IntKind.i64).pair ((Cd.int IntKind.i64).pair Cd.unit)).den)),
  some (Blk.row false none Cd.str ((Ses.mk s0 s1 s2 s3 s4 s5).next (2 : Int) s2 (nilT UInt8)).calm.it),
  some (Blk.row false none Cd.str ((Ses.mk s0 s1 s2 s3 s4 s5).next (2 : Int) s2 (nilT UInt8)).calm.ha),
  some
  (Blk.row false none ((Cd.int IntKind.i64).pair ((Cd.int IntKind.i64).pair (Cd.str.pair Cd.unit)))
  ((Ses.mk s0 s1 s2 s3 s4 s5).next (2 : Int) s2 (nilT UInt8)).calm.w),
  some
  (Blk.row false none ((Cd.int IntKind.i64).pair ((Cd.int IntKind.i64).pair Cd.unit))
  ((Ses.mk s0 s1 s2 s3 s4 s5).next (2 : Int) s2 (nilT UInt8)).calm.a)])))
  (ifT
  (decide
  (((Ses.mk s0 s1 s2 s3 s4 s5).it.length = (Ses.mk s0 s1 s2 s3 s4 s5).it.length ∧
  (Ses.mk s0 s1 s2 s3 s4 s5).ha.length = (Ses.mk s0 s1 s2 s3 s4 s5).ha.length ∧
  (Ses.mk s0 s1 s2 s3 s4 s5).w.length = (Ses.mk s0 s1 s2 s3 s4 s5).w.length ∧
  (Ses.mk s0 s1 s2 s3 s4 s5).a.length = (Ses.mk s0 s1 s2 s3 s4 s5).a.length) ∧
  (Ses.mk s0 s1 s2 s3 s4 s5).w.length ≤ (500000 : Nat) ∧
  (Ses.mk s0 s1 s2 s3 s4 s5).inv ((1000000 : Nat) - (Ses.mk s0 s1 s2 s3 s4 s5).w.length)))
  (some
  (Ex.normal,
  [V.ptr (0 : Nat) (0 : Nat), V.ptr (1 : Nat) (0 : Nat), V.i IntKind.i64 (IntKind.i64.wrap (k + (1 : Int)))],
  [some
  (Blk.box
  [V.i IntKind.i64 (0 : Int), V.ref (2 : Nat) (0 : Nat) (0 : Nat), V.i IntKind.i64 (0 : Int),
  V.ref (3 : Nat) (0 : Nat) (0 : Nat), V.ref (4 : Nat) (0 : Nat) (0 : Nat),
  V.ref (5 : Nat) (0 : Nat) (0 : Nat)]),
  some
  (Blk.box
  [V.i IntKind.i64 (Ses.mk s0 s1 s2 s3 s4 s5).calm.e,
  V.ref (6 : Nat) (0 : Nat) (Ses.mk s0 s1 s2 s3 s4 s5).calm.it.length,
  V.i IntKind.i64 (Ses.mk s0 s1 s2 s3 s4 s5).calm.b,
  V.ref (7 : Nat) (0 : Nat) (Ses.mk s0 s1 s2 s3 s4 s5).calm.ha.length,
  V.ref (8 : Nat) (0 : Nat) (Ses.mk s0 s1 s2 s3 s4 s5).calm.w.length,
  V.ref (9 : Nat) (0 : Nat) (Ses.mk s0 s1 s2 s3 s4 s5).calm.a.length]),
  some (Blk.row false none Cd.str (nilT Cd.str.den)), some (Blk.row false none Cd.str (nilT Cd.str.den)),
  some
  (Blk.row false none ((Cd.int IntKind.i64).pair ((Cd.int IntKind.i64).pair (Cd.str.pair Cd.unit)))
  (nilT ((Cd.int IntKind.i64).pair ((Cd.int IntKind.i64).pair (Cd.str.pair Cd.unit))).den)),
  some
  (Blk.row false none ((Cd.int IntKind.i64).pair ((Cd.int IntKind.i64).pair Cd.unit))
  (nilT ((Cd.int IntKind.i64).pair ((Cd.int IntKind.i64).pair Cd.unit)).den)),
  some (Blk.row false none Cd.str (Ses.mk s0 s1 s2 s3 s4 s5).calm.it),
  some (Blk.row false none Cd.str (Ses.mk s0 s1 s2 s3 s4 s5).calm.ha),
  some
  (Blk.row false none ((Cd.int IntKind.i64).pair ((Cd.int IntKind.i64).pair (Cd.str.pair Cd.unit)))
  (Ses.mk s0 s1 s2 s3 s4 s5).calm.w),
  some
  (Blk.row false none ((Cd.int IntKind.i64).pair ((Cd.int IntKind.i64).pair Cd.unit))
  (Ses.mk s0 s1 s2 s3 s4 s5).calm.a)])))))
  (some
  (Ex.exit (0 : Nat), [V.ptr (0 : Nat) (0 : Nat), V.ptr (1 : Nat) (0 : Nat), V.i IntKind.i64 k],
  [some
  (Blk.box
  [V.i IntKind.i64 (0 : Int), V.ref (2 : Nat) (0 : Nat) (0 : Nat), V.i IntKind.i64 (0 : Int),
  V.ref (3 : Nat) (0 : Nat) (0 : Nat), V.ref (4 : Nat) (0 : Nat) (0 : Nat),
  V.ref (5 : Nat) (0 : Nat) (0 : Nat)]),
  some
  (Blk.box
  [V.i IntKind.i64 s0, V.ref (6 : Nat) (0 : Nat) m1, V.i IntKind.i64 s2, V.ref (7 : Nat) (0 : Nat) m3,
  V.ref (8 : Nat) (0 : Nat) m4, V.ref (9 : Nat) (0 : Nat) m5]),
  some (Blk.row false none Cd.str (nilT Cd.str.den)), some (Blk.row false none Cd.str (nilT Cd.str.den)),
  some
  (Blk.row false none ((Cd.int IntKind.i64).pair ((Cd.int IntKind.i64).pair (Cd.str.pair Cd.unit)))
  (nilT ((Cd.int IntKind.i64).pair ((Cd.int IntKind.i64).pair (Cd.str.pair Cd.unit))).den)),
  some
  (Blk.row false none ((Cd.int IntKind.i64).pair ((Cd.int IntKind.i64).pair Cd.unit))
  (nilT ((Cd.int IntKind.i64).pair ((Cd.int IntKind.i64).pair Cd.unit)).den)),
  some (Blk.row false none Cd.str s1), some (Blk.row false none Cd.str s3),
  some (Blk.row false none ((Cd.int IntKind.i64).pair ((Cd.int IntKind.i64).pair (Cd.str.pair Cd.unit))) s4),
  some (Blk.row false none ((Cd.int IntKind.i64).pair ((Cd.int IntKind.i64).pair Cd.unit)) s5)]))) : _) := by kernel_rfl
theorem ci_fun0 (s0 : Int) (s1 : List (List UInt8)) (s2 : Int) (s3 : List (List UInt8)) (s4 : List (Int × Int × List UInt8 × Unit)) (s5 : List (Int × Int × Unit)) : funN Try.prog (look [(30, .rd1 implGoodG), (68, .rd1 cloneSessionG), (69, .own settleG), (70, .own oSendCG)]) (look [(5, ciE)]) Try.f12 [.agg [.i .i64 s0, .sl .str s1, .i .i64 s2, .sl .str s3, .sl (.pair (.int .i64) (.pair (.int .i64) (.pair .str .unit))) s4, .sl (.pair (.int .i64) (.pair (.int .i64) .unit)) s5]] [] =
    ((ifB (!goodS s0 s1 s2 s3 s4 s5)
  (some
  (V.tup
  [V.agg
  [V.i IntKind.i64 (0 : Int), V.ref (0 : Nat) (0 : Nat) (0 : Nat), V.i IntKind.i64 (0 : Int),
  V.ref (1 : Nat) (0 : Nat) (0 : Nat), V.ref (2 : Nat) (0 : Nat) (0 : Nat),
  V.ref (3 : Nat) (0 : Nat) (0 : Nat)],
  V.i IntKind.i64 (0 : Int), V.b false],
  [some (Blk.row false none Cd.str (nilT Cd.str.den)), some (Blk.row false none Cd.str (nilT Cd.str.den)),
  some
  (Blk.row false none ((Cd.int IntKind.i64).pair ((Cd.int IntKind.i64).pair (Cd.str.pair Cd.unit)))
  (nilT ((Cd.int IntKind.i64).pair ((Cd.int IntKind.i64).pair (Cd.str.pair Cd.unit))).den)),
  some
  (Blk.row false none ((Cd.int IntKind.i64).pair ((Cd.int IntKind.i64).pair Cd.unit))
  (nilT ((Cd.int IntKind.i64).pair ((Cd.int IntKind.i64).pair Cd.unit)).den))]))
  (ifT (decide (s1.length ≤ (1000000000 : Nat)))
  (ifT (decide (s3.length ≤ (1000000000 : Nat)))
  (ifT (decide (s4.length ≤ (1000000000 : Nat)))
  (ifT (decide (s5.length ≤ (1000000000 : Nat)))
  (ifT
  (decide
  ((s1.length = s1.length ∧ s3.length = s3.length ∧ s4.length = s4.length ∧ s5.length = s5.length) ∧
  s4.length ≤ (500000 : Nat) ∧ (Ses.mk s0 s1 s2 s3 s4 s5).inv ((1000000 : Nat) - s4.length)))
  (ifT
  (decide
  (((Ses.mk s0 s1 s2 s3 s4 s5).calm.it.length = (Ses.mk s0 s1 s2 s3 s4 s5).calm.it.length ∧
  (Ses.mk s0 s1 s2 s3 s4 s5).calm.ha.length = (Ses.mk s0 s1 s2 s3 s4 s5).calm.ha.length ∧
  (Ses.mk s0 s1 s2 s3 s4 s5).calm.w.length = (Ses.mk s0 s1 s2 s3 s4 s5).calm.w.length ∧
  (Ses.mk s0 s1 s2 s3 s4 s5).calm.a.length = (Ses.mk s0 s1 s2 s3 s4 s5).calm.a.length) ∧
  ((Ses.mk s0 s1 s2 s3 s4 s5).calm.w.length = (0 : Nat) ∧
  (Ses.mk s0 s1 s2 s3 s4 s5).calm.a.length = (0 : Nat)) ∧
  (Ses.mk s0 s1 s2 s3 s4 s5).calm.it.length ≤ (1000 : Nat) ∧
  ((0 : Int) ≤ (0 : Int) ∧
  (0 : Int) +
  (↑((Ses.mk s0 s1 s2 s3 s4 s5).calm.it.length - (Ses.mk s0 s1 s2 s3 s4 s5).calm.b.toNat) :
  Int) ≤
  (1000000 : Int)) ∧
  (Ses.mk s0 s1 s2 s3 s4 s5).calm.inv
  ((100000 : Nat) -
  (2 : Nat) *
  ((Ses.mk s0 s1 s2 s3 s4 s5).calm.it.length - (Ses.mk s0 s1 s2 s3 s4 s5).calm.b.toNat))))
  (some
  (V.tup
  [V.agg
  [V.i IntKind.i64
  (Ses.run (Ses.mk s0 s1 s2 s3 s4 s5).calm.it.length (Ses.mk s0 s1 s2 s3 s4 s5).calm).e,
  V.ref (0 : Nat) (0 : Nat)
  (Ses.run (Ses.mk s0 s1 s2 s3 s4 s5).calm.it.length
  (Ses.mk s0 s1 s2 s3 s4 s5).calm).it.length,
  V.i IntKind.i64
  (Ses.run (Ses.mk s0 s1 s2 s3 s4 s5).calm.it.length (Ses.mk s0 s1 s2 s3 s4 s5).calm).b,
  V.ref (1 : Nat) (0 : Nat)
  (Ses.run (Ses.mk s0 s1 s2 s3 s4 s5).calm.it.length
  (Ses.mk s0 s1 s2 s3 s4 s5).calm).ha.length,
  V.ref (2 : Nat) (0 : Nat)
  (Ses.run (Ses.mk s0 s1 s2 s3 s4 s5).calm.it.length
  (Ses.mk s0 s1 s2 s3 s4 s5).calm).w.length,
  V.ref (3 : Nat) (0 : Nat)
  (Ses.run (Ses.mk s0 s1 s2 s3 s4 s5).calm.it.length
  (Ses.mk s0 s1 s2 s3 s4 s5).calm).a.length],
  V.i IntKind.i64
  ((0 : Int) +
  (↑(Ses.runs (Ses.mk s0 s1 s2 s3 s4 s5).calm.it.length (Ses.mk s0 s1 s2 s3 s4 s5).calm) :
  Int)),
  V.b true],
  [some
  (Blk.row false none Cd.str
  (Ses.run (Ses.mk s0 s1 s2 s3 s4 s5).calm.it.length (Ses.mk s0 s1 s2 s3 s4 s5).calm).it),
  some
  (Blk.row false none Cd.str
  (Ses.run (Ses.mk s0 s1 s2 s3 s4 s5).calm.it.length (Ses.mk s0 s1 s2 s3 s4 s5).calm).ha),
  some
  (Blk.row false none ((Cd.int IntKind.i64).pair ((Cd.int IntKind.i64).pair (Cd.str.pair Cd.unit)))
  (Ses.run (Ses.mk s0 s1 s2 s3 s4 s5).calm.it.length (Ses.mk s0 s1 s2 s3 s4 s5).calm).w),
  some
  (Blk.row false none ((Cd.int IntKind.i64).pair ((Cd.int IntKind.i64).pair Cd.unit))
  (Ses.run (Ses.mk s0 s1 s2 s3 s4 s5).calm.it.length (Ses.mk s0 s1 s2 s3 s4 s5).calm).a)]))))))))) : _) := by kernel_rfl
theorem ci_loop : ∀ (f : Nat) (s : Ses) (k : Int), s.it.length - s.b.toNat ≤ f → s.w = [] → s.a = [] → s.it.length ≤ 1000 → 0 ≤ k → k + ((s.it.length - s.b.toNat : Nat) : Int) ≤ 1000000 → s.inv (100000 - 2 * (s.it.length - s.b.toNat)) →
    Runs Try.prog (look [(30, .rd1 implGoodG), (68, .rd1 cloneSessionG), (69, .own settleG), (70, .own oSendCG)]) (look [(5, ciE)]) 0 (body Try.f12 0) ciE (([.ptr 0 0, .ptr 1 0, .i .i64 k], [some (.box [.i .i64 0, .ref 2 0 0, .i .i64 0, .ref 3 0 0, .ref 4 0 0, .ref 5 0 0]), some (.box [.i .i64 s.e, .ref 6 0 s.it.length, .i .i64 s.b, .ref 7 0 s.ha.length, .ref 8 0 s.w.length, .ref 9 0 s.a.length]), some (.row false none .str []), some (.row false none .str []), some (.row false none (.pair (.int .i64) (.pair (.int .i64) (.pair .str .unit))) []), some (.row false none (.pair (.int .i64) (.pair (.int .i64) .unit)) []), some (.row false none .str s.it), some (.row false none .str s.ha), some (.row false none (.pair (.int .i64) (.pair (.int .i64) (.pair .str .unit))) s.w), some (.row false none (.pair (.int .i64) (.pair (.int .i64) .unit)) s.a)])) (.exit 0) (([.ptr 0 0, .ptr 1 0, .i .i64 (k + (s.runs f : Nat))], [some (.box [.i .i64 0, .ref 2 0 0, .i .i64 0, .ref 3 0 0, .ref 4 0 0, .ref 5 0 0]), some (.box [.i .i64 (s.run f).e, .ref 6 0 (s.run f).it.length, .i .i64 (s.run f).b, .ref 7 0 (s.run f).ha.length, .ref 8 0 (s.run f).w.length, .ref 9 0 (s.run f).a.length]), some (.row false none .str []), some (.row false none .str []), some (.row false none (.pair (.int .i64) (.pair (.int .i64) (.pair .str .unit))) []), some (.row false none (.pair (.int .i64) (.pair (.int .i64) .unit)) []), some (.row false none .str (s.run f).it), some (.row false none .str (s.run f).ha), some (.row false none (.pair (.int .i64) (.pair (.int .i64) (.pair .str .unit))) (s.run f).w), some (.row false none (.pair (.int .i64) (.pair (.int .i64) .unit)) (s.run f).a)]))
  | 0, s, k, hf, hw, ha, hl, h0, hk, hi => by
    have hb : ¬ s.b < (s.it.length : Int) := by
      have := hi.2.1.1
      omega
    refine .stop _ _ _ ((ci_round s.e s.it.length s.b s.ha.length s.w.length s.a.length s.it s.ha s.w s.a k).trans ?_) (by simp)
    rw [ifB_false (decide_eq_false hb)]
    simp only [Ses.run, Ses.runs, Int.natCast_zero, Int.add_zero]
  | f + 1, s, k, hf, hw, ha, hl, h0, hk, hi => by
    by_cases hb : s.b < (s.it.length : Int)
    · have hb0 := hi.2.1.1
      have hok : s.ok 2 s.b [] = true := by simp [Ses.ok, hw]; omega
      have hn := Ses.next_inv hi hok
      have hwn : (s.next 2 s.b []).w.length = 1 := by simp [Ses.next, hw]
      obtain ⟨g1, g2, g3, g4, g5⟩ := Ses.round_inv hi hw ha hb
      have hN : (s.next 2 s.b []).inv (1000000 - (s.next 2 s.b []).w.length) := Ses.inv_mono hn (by omega)
      have ih := ci_loop f s.round (k + 1) (by rw [g4]; omega) g2 g3 (by rw [g4]; exact hl) (by omega) (by rw [g4]; omega) (Ses.inv_mono g1 (by rw [g4]; omega))
      have e1 : s.run (f + 1) = s.round.run f := by rw [Ses.run, if_pos hb]
      have e2 : k + ((s.runs (f + 1) : Nat) : Int) = k + 1 + ((s.round.runs f : Nat) : Int) := by rw [Ses.runs, if_pos hb]; omega
      rw [e1, e2]
      refine .step _ _ _ _ ((ci_round s.e s.it.length s.b s.ha.length s.w.length s.a.length s.it s.ha s.w s.a k).trans ?_) ih
      have hw0 : s.w.length = 0 := by rw [hw]; rfl
      have ha0 : s.a.length = 0 := by rw [ha]; rfl
      obtain ⟨i1, i2, -, i4, i5, i6, i7⟩ := hi
      rw [ifB_true (decide_eq_true hb), ifT_true (by simp only [true_and, decide_eq_true_eq]; omega), ifB_true hok]
      rw [ifT_true (decide_eq_true ⟨⟨by first | trivial | rfl, by first | trivial | rfl, by first | trivial | rfl, by first | trivial | rfl⟩, by show (s.next 2 s.b []).w.length ≤ 500000; omega, hN⟩)]
      rw [wrap_id (n := k + 1) (by omega) (by omega)]
      rfl
    · refine .stop _ _ _ ((ci_round s.e s.it.length s.b s.ha.length s.w.length s.a.length s.it s.ha s.w s.a k).trans ?_) (by simp)
      rw [ifB_false (decide_eq_false hb), Ses.run, if_neg hb, Ses.runs, if_neg hb]
      simp only [Int.natCast_zero, Int.add_zero]
theorem ci_ok : LoopsOk Try.prog (look [(30, .rd1 implGoodG), (68, .rd1 cloneSessionG), (69, .own settleG), (70, .own oSendCG)]) (look [(5, ciE)]) 0 (Try.f12.body.getD .skip) := by
  refine loopsOk_one (a := body Try.f12 0) (by kernel_rfl) fun d e d' h => ?_
  unfold ciE at h
  dsimp only at h
  split at h
  · rename_i s0 m1 s2 m3 m4 m5 s1 s3 s4 s5
    obtain ⟨hc, h'⟩ := need_some h
    obtain ⟨⟨rfl, rfl, rfl, rfl⟩, ⟨hw, ha⟩, hl, ⟨h0, hk⟩, hi⟩ := of_decide_eq_true hc
    have h5 := leaf_some h'
    obtain ⟨rfl, rfl⟩ := Prod.mk.inj h5
    exact ci_loop _ _ _ (by dsimp only; omega) (List.eq_nil_of_length_eq_zero hw) (List.eq_nil_of_length_eq_zero ha) hl h0 hk hi
  · cases h
theorem cs_round (s0 : Int) (m1 : Nat) (s2 : Int) (m3 m4 m5 : Nat) (s1 s3 : List (List UInt8)) (s4 : List (Int × Int × List UInt8 × Unit)) (s5 : List (Int × Int × Unit)) (k : Int) : roundK Try.prog (look [(43, .rd1 specGoodG), (63, .rd1 l15OwnG), (62, .own l15CalmG), (64, .own l15StepCG)]) (look [(5, csE)]) 0 (body Try.f10 0) csE ([.ptr 0 0, .ptr 1 0, .i .i64 k], [some (.box [.i .i64 s0, .ref 2 0 m1, .i .i64 s2, .ref 3 0 m3, .ref 4 0 m4, .ref 5 0 m5]), some (.box [.i .i64 0, .ref 6 0 0, .i .i64 0, .ref 7 0 0, .ref 8 0 0, .ref 9 0 0]), some (.row false none .str s1), some (.row false none .str s3), some (.row false none (.pair (.int .i64) (.pair (.int .i64) (.pair .str .unit))) s4), some (.row false none (.pair (.int .i64) (.pair (.int .i64) .unit)) s5), some (.row false none .str []), some (.row false none .str []), some (.row false none (.pair (.int .i64) (.pair (.int .i64) (.pair .str .unit))) []), some (.row false none (.pair (.int .i64) (.pair (.int .i64) .unit)) [])]) =
    ((ifB (decide (s2 < (↑m1 : Int)))
  (ifT
  (decide
  (m1 = s1.length ∧
  m3 = s3.length ∧
  m4 = s4.length ∧
  m5 = s5.length ∧
  ((0 : Int) ≤ s2 ∧ s2 ≤ (1000000000 : Int)) ∧
  ((0 : Int) ≤ s0 ∧ s0 ≤ (1000000000 : Int)) ∧
  s1.length ≤ (1000000000 : Nat) ∧
  s3.length ≤ (1000000000 : Nat) ∧ s4.length ≤ (1000000000 : Nat) ∧ s5.length ≤ (1000000000 : Nat)))
  (ifB ((Ses.mk s0 s1 s2 s3 s4 s5).ok (2 : Int) s2 (nilT UInt8))
  (ifT
  (decide
  ((((Ses.mk s0 s1 s2 s3 s4 s5).next (2 : Int) s2 (nilT UInt8)).it.length =
  ((Ses.mk s0 s1 s2 s3 s4 s5).next (2 : Int) s2 (nilT UInt8)).it.length ∧
  ((Ses.mk s0 s1 s2 s3 s4 s5).next (2 : Int) s2 (nilT UInt8)).ha.length =
  ((Ses.mk s0 s1 s2 s3 s4 s5).next (2 : Int) s2 (nilT UInt8)).ha.length ∧
  ((Ses.mk s0 s1 s2 s3 s4 s5).next (2 : Int) s2 (nilT UInt8)).w.length =
  ((Ses.mk s0 s1 s2 s3 s4 s5).next (2 : Int) s2 (nilT UInt8)).w.length ∧
  ((Ses.mk s0 s1 s2 s3 s4 s5).next (2 : Int) s2 (nilT UInt8)).a.length =
  ((Ses.mk s0 s1 s2 s3 s4 s5).next (2 : Int) s2 (nilT UInt8)).a.length) ∧
  ((Ses.mk s0 s1 s2 s3 s4 s5).next (2 : Int) s2 (nilT UInt8)).w.length ≤ (500000 : Nat) ∧
  ((Ses.mk s0 s1 s2 s3 s4 s5).next (2 : Int) s2 (nilT UInt8)).inv
  ((1000000 : Nat) - ((Ses.mk s0 s1 s2 s3 s4 s5).next (2 : Int) s2 (nilT UInt8)).w.length)))
  (some
  (Ex.normal,
  [V.ptr (0 : Nat) (0 : Nat), V.ptr (1 : Nat) (0 : Nat), V.i IntKind.i64 (IntKind.i64.wrap (k + (1 : Int)))],
  [some
  (Blk.box
  [V.i IntKind.i64 ((Ses.mk s0 s1 s2 s3 s4 s5).next (2 : Int) s2 (nilT UInt8)).calm.e,
  V.ref (2 : Nat) (0 : Nat)
  ((Ses.mk s0 s1 s2 s3 s4 s5).next (2 : Int) s2 (nilT UInt8)).calm.it.length,
  V.i IntKind.i64 ((Ses.mk s0 s1 s2 s3 s4 s5).next (2 : Int) s2 (nilT UInt8)).calm.b,
  V.ref (3 : Nat) (0 : Nat)
  ((Ses.mk s0 s1 s2 s3 s4 s5).next (2 : Int) s2 (nilT UInt8)).calm.ha.length,
  V.ref (4 : Nat) (0 : Nat) ((Ses.mk s0 s1 s2 s3 s4 s5).next (2 : Int) s2 (nilT UInt8)).calm.w.length,
  V.ref (5 : Nat) (0 : Nat)
  ((Ses.mk s0 s1 s2 s3 s4 s5).next (2 : Int) s2 (nilT UInt8)).calm.a.length]),
  some
  (Blk.box
  [V.i IntKind.i64 (0 : Int), V.ref (6 : Nat) (0 : Nat) (0 : Nat), V.i IntKind.i64 (0 : Int),
  V.ref (7 : Nat) (0 : Nat) (0 : Nat), V.ref (8 : Nat) (0 : Nat) (0 : Nat),
  V.ref (9 : Nat) (0 : Nat) (0 : Nat)]),
  some (Blk.row false none Cd.str ((Ses.mk s0 s1 s2 s3 s4 s5).next (2 : Int) s2 (nilT UInt8)).calm.it),
  some (Blk.row false none Cd.str ((Ses.mk s0 s1 s2 s3 s4 s5).next (2 : Int) s2 (nilT UInt8)).calm.ha),
  some
  (Blk.row false none ((Cd.int IntKind.i64).pair ((Cd.int IntKind.i64).pair (Cd.str.pair Cd.unit)))
  ((Ses.mk s0 s1 s2 s3 s4 s5).next (2 : Int) s2 (nilT UInt8)).calm.w),
  some
  (Blk.row false none ((Cd.int IntKind.i64).pair ((Cd.int IntKind.i64).pair Cd.unit))
  ((Ses.mk s0 s1 s2 s3 s4 s5).next (2 : Int) s2 (nilT UInt8)).calm.a),
  some (Blk.row false none Cd.str (nilT Cd.str.den)), some (Blk.row false none Cd.str (nilT Cd.str.den)),
  some
  (Blk.row false none ((Cd.int IntKind.i64).pair ((Cd.int IntKind.i64).pair (Cd.str.pair Cd.unit)))
  (nilT ((Cd.int IntKind.i64).pair ((Cd.int IntKind.i64).pair (Cd.str.pair Cd.unit))).den)),
  some
  (Blk.row false none ((Cd.int IntKind.i64).pair ((Cd.int IntKind.i64).pair Cd.unit))
  (nilT ((Cd.int IntKind.i64).pair ((Cd.int IntKind.i64).pair Cd.unit)).den))])))
  (ifT
  (decide
  (((Ses.mk s0 s1 s2 s3 s4 s5).it.length = (Ses.mk s0 s1 s2 s3 s4 s5).it.length ∧
  (Ses.mk s0 s1 s2 s3 s4 s5).ha.length = (Ses.mk s0 s1 s2 s3 s4 s5).ha.length ∧
  (Ses.mk s0 s1 s2 s3 s4 s5).w.length = (Ses.mk s0 s1 s2 s3 s4 s5).w.length ∧
  (Ses.mk s0 s1 s2 s3 s4 s5).a.length = (Ses.mk s0 s1 s2 s3 s4 s5).a.length) ∧
  (Ses.mk s0 s1 s2 s3 s4 s5).w.length ≤ (500000 : Nat) ∧
  (Ses.mk s0 s1 s2 s3 s4 s5).inv ((1000000 : Nat) - (Ses.mk s0 s1 s2 s3 s4 s5).w.length)))
  (some
  (Ex.normal,
  [V.ptr (0 : Nat) (0 : Nat), V.ptr (1 : Nat) (0 : Nat), V.i IntKind.i64 (IntKind.i64.wrap (k + (1 : Int)))],
  [some
  (Blk.box
  [V.i IntKind.i64 (Ses.mk s0 s1 s2 s3 s4 s5).calm.e,
  V.ref (2 : Nat) (0 : Nat) (Ses.mk s0 s1 s2 s3 s4 s5).calm.it.length,
  V.i IntKind.i64 (Ses.mk s0 s1 s2 s3 s4 s5).calm.b,
  V.ref (3 : Nat) (0 : Nat) (Ses.mk s0 s1 s2 s3 s4 s5).calm.ha.length,
  V.ref (4 : Nat) (0 : Nat) (Ses.mk s0 s1 s2 s3 s4 s5).calm.w.length,
  V.ref (5 : Nat) (0 : Nat) (Ses.mk s0 s1 s2 s3 s4 s5).calm.a.length]),
  some
  (Blk.box
  [V.i IntKind.i64 (0 : Int), V.ref (6 : Nat) (0 : Nat) (0 : Nat), V.i IntKind.i64 (0 : Int),
  V.ref (7 : Nat) (0 : Nat) (0 : Nat), V.ref (8 : Nat) (0 : Nat) (0 : Nat),
  V.ref (9 : Nat) (0 : Nat) (0 : Nat)]),
  some (Blk.row false none Cd.str (Ses.mk s0 s1 s2 s3 s4 s5).calm.it),
  some (Blk.row false none Cd.str (Ses.mk s0 s1 s2 s3 s4 s5).calm.ha),
  some
  (Blk.row false none ((Cd.int IntKind.i64).pair ((Cd.int IntKind.i64).pair (Cd.str.pair Cd.unit)))
  (Ses.mk s0 s1 s2 s3 s4 s5).calm.w),
  some
  (Blk.row false none ((Cd.int IntKind.i64).pair ((Cd.int IntKind.i64).pair Cd.unit))
  (Ses.mk s0 s1 s2 s3 s4 s5).calm.a),
  some (Blk.row false none Cd.str (nilT Cd.str.den)), some (Blk.row false none Cd.str (nilT Cd.str.den)),
  some
  (Blk.row false none ((Cd.int IntKind.i64).pair ((Cd.int IntKind.i64).pair (Cd.str.pair Cd.unit)))
  (nilT ((Cd.int IntKind.i64).pair ((Cd.int IntKind.i64).pair (Cd.str.pair Cd.unit))).den)),
  some
  (Blk.row false none ((Cd.int IntKind.i64).pair ((Cd.int IntKind.i64).pair Cd.unit))
  (nilT ((Cd.int IntKind.i64).pair ((Cd.int IntKind.i64).pair Cd.unit)).den))])))))
  (some
  (Ex.exit (0 : Nat), [V.ptr (0 : Nat) (0 : Nat), V.ptr (1 : Nat) (0 : Nat), V.i IntKind.i64 k],
  [some
  (Blk.box
  [V.i IntKind.i64 s0, V.ref (2 : Nat) (0 : Nat) m1, V.i IntKind.i64 s2, V.ref (3 : Nat) (0 : Nat) m3,
  V.ref (4 : Nat) (0 : Nat) m4, V.ref (5 : Nat) (0 : Nat) m5]),
  some
  (Blk.box
  [V.i IntKind.i64 (0 : Int), V.ref (6 : Nat) (0 : Nat) (0 : Nat), V.i IntKind.i64 (0 : Int),
  V.ref (7 : Nat) (0 : Nat) (0 : Nat), V.ref (8 : Nat) (0 : Nat) (0 : Nat),
  V.ref (9 : Nat) (0 : Nat) (0 : Nat)]),
  some (Blk.row false none Cd.str s1), some (Blk.row false none Cd.str s3),
  some (Blk.row false none ((Cd.int IntKind.i64).pair ((Cd.int IntKind.i64).pair (Cd.str.pair Cd.unit))) s4),
  some (Blk.row false none ((Cd.int IntKind.i64).pair ((Cd.int IntKind.i64).pair Cd.unit)) s5),
  some (Blk.row false none Cd.str (nilT Cd.str.den)), some (Blk.row false none Cd.str (nilT Cd.str.den)),
  some
  (Blk.row false none ((Cd.int IntKind.i64).pair ((Cd.int IntKind.i64).pair (Cd.str.pair Cd.unit)))
  (nilT ((Cd.int IntKind.i64).pair ((Cd.int IntKind.i64).pair (Cd.str.pair Cd.unit))).den)),
  some
  (Blk.row false none ((Cd.int IntKind.i64).pair ((Cd.int IntKind.i64).pair Cd.unit))
  (nilT ((Cd.int IntKind.i64).pair ((Cd.int IntKind.i64).pair Cd.unit)).den))]))) : _) := by kernel_rfl
theorem cs_fun0 (s0 : Int) (s1 : List (List UInt8)) (s2 : Int) (s3 : List (List UInt8)) (s4 : List (Int × Int × List UInt8 × Unit)) (s5 : List (Int × Int × Unit)) : funN Try.prog (look [(43, .rd1 specGoodG), (63, .rd1 l15OwnG), (62, .own l15CalmG), (64, .own l15StepCG)]) (look [(5, csE)]) Try.f10 [.agg [.i .i64 s0, .sl .str s1, .i .i64 s2, .sl .str s3, .sl (.pair (.int .i64) (.pair (.int .i64) (.pair .str .unit))) s4, .sl (.pair (.int .i64) (.pair (.int .i64) .unit)) s5]] [] =
    ((ifT (decide ((↑s3.length : Int) ≤ lim))
  (ifB (!goodS s0 s1 s2 s3 s4 s5)
  (some
  (V.tup
  [V.agg
  [V.i IntKind.i64 (0 : Int), V.ref (0 : Nat) (0 : Nat) (0 : Nat), V.i IntKind.i64 (0 : Int),
  V.ref (1 : Nat) (0 : Nat) (0 : Nat), V.ref (2 : Nat) (0 : Nat) (0 : Nat),
  V.ref (3 : Nat) (0 : Nat) (0 : Nat)],
  V.i IntKind.i64 (0 : Int), V.b false],
  [some (Blk.row false none Cd.str (nilT Cd.str.den)), some (Blk.row false none Cd.str (nilT Cd.str.den)),
  some
  (Blk.row false none ((Cd.int IntKind.i64).pair ((Cd.int IntKind.i64).pair (Cd.str.pair Cd.unit)))
  (nilT ((Cd.int IntKind.i64).pair ((Cd.int IntKind.i64).pair (Cd.str.pair Cd.unit))).den)),
  some
  (Blk.row false none ((Cd.int IntKind.i64).pair ((Cd.int IntKind.i64).pair Cd.unit))
  (nilT ((Cd.int IntKind.i64).pair ((Cd.int IntKind.i64).pair Cd.unit)).den))]))
  (ifT
  (decide (((0 : Nat) + s1.length) * (16 : Nat) ≤ (140737488355328 : Nat)) && decide ((0 : Nat) + s1.length ≤ maxI))
  (ifT
  (decide (((0 : Nat) + s3.length) * (16 : Nat) ≤ (140737488355328 : Nat)) &&
  decide ((0 : Nat) + s3.length ≤ maxI))
  (ifT
  (decide (((0 : Nat) + s4.length) * (32 : Nat) ≤ (140737488355328 : Nat)) &&
  decide ((0 : Nat) + s4.length ≤ maxI))
  (ifT
  (decide (((0 : Nat) + s5.length) * (16 : Nat) ≤ (140737488355328 : Nat)) &&
  decide ((0 : Nat) + s5.length ≤ maxI))
  (ifT
  (decide
  (((0 : Nat) + s1.length = (nilT Cd.str.den ++ s1).length ∧
  (0 : Nat) + s3.length = (nilT Cd.str.den ++ s3).length ∧
  (0 : Nat) + s4.length =
  (nilT ((Cd.int IntKind.i64).pair ((Cd.int IntKind.i64).pair (Cd.str.pair Cd.unit))).den ++
  s4).length ∧
  (0 : Nat) + s5.length =
  (nilT ((Cd.int IntKind.i64).pair ((Cd.int IntKind.i64).pair Cd.unit)).den ++ s5).length) ∧
  (nilT ((Cd.int IntKind.i64).pair ((Cd.int IntKind.i64).pair (Cd.str.pair Cd.unit))).den ++
  s4).length ≤
  (500000 : Nat) ∧
  (Ses.mk s0 (nilT Cd.str.den ++ s1) s2 (nilT Cd.str.den ++ s3)
  (nilT ((Cd.int IntKind.i64).pair ((Cd.int IntKind.i64).pair (Cd.str.pair Cd.unit))).den ++ s4)
  (nilT ((Cd.int IntKind.i64).pair ((Cd.int IntKind.i64).pair Cd.unit)).den ++ s5)).inv
  ((1000000 : Nat) -
  (nilT ((Cd.int IntKind.i64).pair ((Cd.int IntKind.i64).pair (Cd.str.pair Cd.unit))).den ++
  s4).length)))
  (ifT
  (decide
  (((Ses.mk s0 (nilT Cd.str.den ++ s1) s2 (nilT Cd.str.den ++ s3)
  (nilT
  ((Cd.int IntKind.i64).pair ((Cd.int IntKind.i64).pair (Cd.str.pair Cd.unit))).den ++
  s4)
  (nilT ((Cd.int IntKind.i64).pair ((Cd.int IntKind.i64).pair Cd.unit)).den ++
  s5)).calm.it.length =
  (Ses.mk s0 (nilT Cd.str.den ++ s1) s2 (nilT Cd.str.den ++ s3)
  (nilT
  ((Cd.int IntKind.i64).pair ((Cd.int IntKind.i64).pair (Cd.str.pair Cd.unit))).den ++
  s4)
  (nilT ((Cd.int IntKind.i64).pair ((Cd.int IntKind.i64).pair Cd.unit)).den ++
  s5)).calm.it.length ∧
  (Ses.mk s0 (nilT Cd.str.den ++ s1) s2 (nilT Cd.str.den ++ s3)
  (nilT
  ((Cd.int IntKind.i64).pair
  ((Cd.int IntKind.i64).pair (Cd.str.pair Cd.unit))).den ++
  s4)
  (nilT ((Cd.int IntKind.i64).pair ((Cd.int IntKind.i64).pair Cd.unit)).den ++
  s5)).calm.ha.length =
  (Ses.mk s0 (nilT Cd.str.den ++ s1) s2 (nilT Cd.str.den ++ s3)
  (nilT
  ((Cd.int IntKind.i64).pair
  ((Cd.int IntKind.i64).pair (Cd.str.pair Cd.unit))).den ++
  s4)
  (nilT ((Cd.int IntKind.i64).pair ((Cd.int IntKind.i64).pair Cd.unit)).den ++
  s5)).calm.ha.length ∧
  (Ses.mk s0 (nilT Cd.str.den ++ s1) s2 (nilT Cd.str.den ++ s3)
  (nilT
  ((Cd.int IntKind.i64).pair
  ((Cd.int IntKind.i64).pair (Cd.str.pair Cd.unit))).den ++
  s4)
  (nilT ((Cd.int IntKind.i64).pair ((Cd.int IntKind.i64).pair Cd.unit)).den ++
  s5)).calm.w.length =
  (Ses.mk s0 (nilT Cd.str.den ++ s1) s2 (nilT Cd.str.den ++ s3)
  (nilT
  ((Cd.int IntKind.i64).pair
  ((Cd.int IntKind.i64).pair (Cd.str.pair Cd.unit))).den ++
  s4)
  (nilT ((Cd.int IntKind.i64).pair ((Cd.int IntKind.i64).pair Cd.unit)).den ++
  s5)).calm.w.length ∧
  (Ses.mk s0 (nilT Cd.str.den ++ s1) s2 (nilT Cd.str.den ++ s3)
  (nilT
  ((Cd.int IntKind.i64).pair
  ((Cd.int IntKind.i64).pair (Cd.str.pair Cd.unit))).den ++
  s4)
  (nilT ((Cd.int IntKind.i64).pair ((Cd.int IntKind.i64).pair Cd.unit)).den ++
  s5)).calm.a.length =
  (Ses.mk s0 (nilT Cd.str.den ++ s1) s2 (nilT Cd.str.den ++ s3)
  (nilT
  ((Cd.int IntKind.i64).pair
  ((Cd.int IntKind.i64).pair (Cd.str.pair Cd.unit))).den ++
  s4)
  (nilT ((Cd.int IntKind.i64).pair ((Cd.int IntKind.i64).pair Cd.unit)).den ++
  s5)).calm.a.length) ∧
  ((Ses.mk s0 (nilT Cd.str.den ++ s1) s2 (nilT Cd.str.den ++ s3)
  (nilT
  ((Cd.int IntKind.i64).pair
  ((Cd.int IntKind.i64).pair (Cd.str.pair Cd.unit))).den ++
  s4)
  (nilT ((Cd.int IntKind.i64).pair ((Cd.int IntKind.i64).pair Cd.unit)).den ++
  s5)).calm.w.length =
  (0 : Nat) ∧
  (Ses.mk s0 (nilT Cd.str.den ++ s1) s2 (nilT Cd.str.den ++ s3)
  (nilT
  ((Cd.int IntKind.i64).pair
  ((Cd.int IntKind.i64).pair (Cd.str.pair Cd.unit))).den ++
  s4)
  (nilT ((Cd.int IntKind.i64).pair ((Cd.int IntKind.i64).pair Cd.unit)).den ++
  s5)).calm.a.length =
  (0 : Nat)) ∧
  (Ses.mk s0 (nilT Cd.str.den ++ s1) s2 (nilT Cd.str.den ++ s3)
  (nilT
  ((Cd.int IntKind.i64).pair
  ((Cd.int IntKind.i64).pair (Cd.str.pair Cd.unit))).den ++
  s4)
  (nilT ((Cd.int IntKind.i64).pair ((Cd.int IntKind.i64).pair Cd.unit)).den ++
  s5)).calm.it.length ≤
  (1000 : Nat) ∧
  ((0 : Int) ≤ (0 : Int) ∧
  (0 : Int) +
  (↑((Ses.mk s0 (nilT Cd.str.den ++ s1) s2 (nilT Cd.str.den ++ s3)
  (nilT
  ((Cd.int IntKind.i64).pair
  ((Cd.int IntKind.i64).pair (Cd.str.pair Cd.unit))).den ++
  s4)
  (nilT
  ((Cd.int IntKind.i64).pair ((Cd.int IntKind.i64).pair Cd.unit)).den ++
  s5)).calm.it.length -
  (Ses.mk s0 (nilT Cd.str.den ++ s1) s2 (nilT Cd.str.den ++ s3)
  (nilT
  ((Cd.int IntKind.i64).pair
  ((Cd.int IntKind.i64).pair (Cd.str.pair Cd.unit))).den ++
  s4)
  (nilT
  ((Cd.int IntKind.i64).pair ((Cd.int IntKind.i64).pair Cd.unit)).den ++
  s5)).calm.b.toNat) :
  Int) ≤
  (1000000 : Int)) ∧
  (Ses.mk s0 (nilT Cd.str.den ++ s1) s2 (nilT Cd.str.den ++ s3)
  (nilT
  ((Cd.int IntKind.i64).pair
  ((Cd.int IntKind.i64).pair (Cd.str.pair Cd.unit))).den ++
  s4)
  (nilT ((Cd.int IntKind.i64).pair ((Cd.int IntKind.i64).pair Cd.unit)).den ++
  s5)).calm.inv
  ((100000 : Nat) -
  (2 : Nat) *
  ((Ses.mk s0 (nilT Cd.str.den ++ s1) s2 (nilT Cd.str.den ++ s3)
  (nilT
  ((Cd.int IntKind.i64).pair
  ((Cd.int IntKind.i64).pair (Cd.str.pair Cd.unit))).den ++
  s4)
  (nilT ((Cd.int IntKind.i64).pair ((Cd.int IntKind.i64).pair Cd.unit)).den ++
  s5)).calm.it.length -
  (Ses.mk s0 (nilT Cd.str.den ++ s1) s2 (nilT Cd.str.den ++ s3)
  (nilT
  ((Cd.int IntKind.i64).pair
  ((Cd.int IntKind.i64).pair (Cd.str.pair Cd.unit))).den ++
  s4)
  (nilT ((Cd.int IntKind.i64).pair ((Cd.int IntKind.i64).pair Cd.unit)).den ++
  s5)).calm.b.toNat))))
  (ifT
  (decide
  (((0 : Nat) +
  (List.take
  (Ses.run
  (Ses.mk s0 (nilT Cd.str.den ++ s1) s2 (nilT Cd.str.den ++ s3)
  (nilT
  ((Cd.int IntKind.i64).pair
  ((Cd.int IntKind.i64).pair (Cd.str.pair Cd.unit))).den ++
  s4)
  (nilT
  ((Cd.int IntKind.i64).pair ((Cd.int IntKind.i64).pair Cd.unit)).den ++
  s5)).calm.it.length
  (Ses.mk s0 (nilT Cd.str.den ++ s1) s2 (nilT Cd.str.den ++ s3)
  (nilT
  ((Cd.int IntKind.i64).pair
  ((Cd.int IntKind.i64).pair (Cd.str.pair Cd.unit))).den ++
  s4)
  (nilT ((Cd.int IntKind.i64).pair ((Cd.int IntKind.i64).pair Cd.unit)).den ++
  s5)).calm).it.length
  (List.drop (0 : Nat)
  (Ses.run
  (Ses.mk s0 (nilT Cd.str.den ++ s1) s2 (nilT Cd.str.den ++ s3)
  (nilT
  ((Cd.int IntKind.i64).pair
  ((Cd.int IntKind.i64).pair (Cd.str.pair Cd.unit))).den ++
  s4)
  (nilT
  ((Cd.int IntKind.i64).pair ((Cd.int IntKind.i64).pair Cd.unit)).den ++
  s5)).calm.it.length
  (Ses.mk s0 (nilT Cd.str.den ++ s1) s2 (nilT Cd.str.den ++ s3)
  (nilT
  ((Cd.int IntKind.i64).pair
  ((Cd.int IntKind.i64).pair (Cd.str.pair Cd.unit))).den ++
  s4)
  (nilT ((Cd.int IntKind.i64).pair ((Cd.int IntKind.i64).pair Cd.unit)).den ++
  s5)).calm).it)).length) *
  (16 : Nat) ≤
  (140737488355328 : Nat)) &&
  decide
  ((0 : Nat) +
  (List.take
  (Ses.run
  (Ses.mk s0 (nilT Cd.str.den ++ s1) s2 (nilT Cd.str.den ++ s3)
  (nilT
  ((Cd.int IntKind.i64).pair
  ((Cd.int IntKind.i64).pair (Cd.str.pair Cd.unit))).den ++
  s4)
  (nilT ((Cd.int IntKind.i64).pair ((Cd.int IntKind.i64).pair Cd.unit)).den ++
  s5)).calm.it.length
  (Ses.mk s0 (nilT Cd.str.den ++ s1) s2 (nilT Cd.str.den ++ s3)
  (nilT
  ((Cd.int IntKind.i64).pair
  ((Cd.int IntKind.i64).pair (Cd.str.pair Cd.unit))).den ++
  s4)
  (nilT ((Cd.int IntKind.i64).pair ((Cd.int IntKind.i64).pair Cd.unit)).den ++
  s5)).calm).it.length
  (List.drop (0 : Nat)
  (Ses.run
  (Ses.mk s0 (nilT Cd.str.den ++ s1) s2 (nilT Cd.str.den ++ s3)
  (nilT
  ((Cd.int IntKind.i64).pair
  ((Cd.int IntKind.i64).pair (Cd.str.pair Cd.unit))).den ++
  s4)
  (nilT ((Cd.int IntKind.i64).pair ((Cd.int IntKind.i64).pair Cd.unit)).den ++
  s5)).calm.it.length
  (Ses.mk s0 (nilT Cd.str.den ++ s1) s2 (nilT Cd.str.den ++ s3)
  (nilT
  ((Cd.int IntKind.i64).pair
  ((Cd.int IntKind.i64).pair (Cd.str.pair Cd.unit))).den ++
  s4)
  (nilT ((Cd.int IntKind.i64).pair ((Cd.int IntKind.i64).pair Cd.unit)).den ++
  s5)).calm).it)).length ≤
  maxI))
  (ifT
  (decide
  (((0 : Nat) +
  (List.take
  (Ses.run
  (Ses.mk s0 (nilT Cd.str.den ++ s1) s2 (nilT Cd.str.den ++ s3)
  (nilT
  ((Cd.int IntKind.i64).pair
  ((Cd.int IntKind.i64).pair (Cd.str.pair Cd.unit))).den ++
  s4)
  (nilT
  ((Cd.int IntKind.i64).pair
  ((Cd.int IntKind.i64).pair Cd.unit)).den ++
  s5)).calm.it.length
  (Ses.mk s0 (nilT Cd.str.den ++ s1) s2 (nilT Cd.str.den ++ s3)
  (nilT
  ((Cd.int IntKind.i64).pair
  ((Cd.int IntKind.i64).pair (Cd.str.pair Cd.unit))).den ++
  s4)
  (nilT ((Cd.int IntKind.i64).pair ((Cd.int IntKind.i64).pair Cd.unit)).den ++
  s5)).calm).ha.length
  (List.drop (0 : Nat)
  (Ses.run
  (Ses.mk s0 (nilT Cd.str.den ++ s1) s2 (nilT Cd.str.den ++ s3)
  (nilT
  ((Cd.int IntKind.i64).pair
  ((Cd.int IntKind.i64).pair (Cd.str.pair Cd.unit))).den ++
  s4)
  (nilT
  ((Cd.int IntKind.i64).pair
  ((Cd.int IntKind.i64).pair Cd.unit)).den ++
  s5)).calm.it.length
  (Ses.mk s0 (nilT Cd.str.den ++ s1) s2 (nilT Cd.str.den ++ s3)
  (nilT
  ((Cd.int IntKind.i64).pair
  ((Cd.int IntKind.i64).pair (Cd.str.pair Cd.unit))).den ++
  s4)
  (nilT ((Cd.int IntKind.i64).pair ((Cd.int IntKind.i64).pair Cd.unit)).den ++
  s5)).calm).ha)).length) *
  (16 : Nat) ≤
  (140737488355328 : Nat)) &&
  decide
  ((0 : Nat) +
  (List.take
  (Ses.run
  (Ses.mk s0 (nilT Cd.str.den ++ s1) s2 (nilT Cd.str.den ++ s3)
  (nilT
  ((Cd.int IntKind.i64).pair
  ((Cd.int IntKind.i64).pair (Cd.str.pair Cd.unit))).den ++
  s4)
  (nilT
  ((Cd.int IntKind.i64).pair ((Cd.int IntKind.i64).pair Cd.unit)).den ++
  s5)).calm.it.length
  (Ses.mk s0 (nilT Cd.str.den ++ s1) s2 (nilT Cd.str.den ++ s3)
  (nilT
  ((Cd.int IntKind.i64).pair
  ((Cd.int IntKind.i64).pair (Cd.str.pair Cd.unit))).den ++
  s4)
  (nilT ((Cd.int IntKind.i64).pair ((Cd.int IntKind.i64).pair Cd.unit)).den ++
  s5)).calm).ha.length
  (List.drop (0 : Nat)
  (Ses.run
  (Ses.mk s0 (nilT Cd.str.den ++ s1) s2 (nilT Cd.str.den ++ s3)
  (nilT
  ((Cd.int IntKind.i64).pair
  ((Cd.int IntKind.i64).pair (Cd.str.pair Cd.unit))).den ++
  s4)
  (nilT
  ((Cd.int IntKind.i64).pair ((Cd.int IntKind.i64).pair Cd.unit)).den ++
  s5)).calm.it.length
  (Ses.mk s0 (nilT Cd.str.den ++ s1) s2 (nilT Cd.str.den ++ s3)
  (nilT
  ((Cd.int IntKind.i64).pair
  ((Cd.int IntKind.i64).pair (Cd.str.pair Cd.unit))).den ++
  s4)
  (nilT ((Cd.int IntKind.i64).pair ((Cd.int IntKind.i64).pair Cd.unit)).den ++
  s5)).calm).ha)).length ≤
  maxI))
  (ifT
  (decide
  (((0 : Nat) +
  (List.take
  (Ses.run
  (Ses.mk s0 (nilT Cd.str.den ++ s1) s2 (nilT Cd.str.den ++ s3)
  (nilT
  ((Cd.int IntKind.i64).pair
  ((Cd.int IntKind.i64).pair (Cd.str.pair Cd.unit))).den ++
  s4)
  (nilT
  ((Cd.int IntKind.i64).pair
  ((Cd.int IntKind.i64).pair Cd.unit)).den ++
  s5)).calm.it.length
  (Ses.mk s0 (nilT Cd.str.den ++ s1) s2 (nilT Cd.str.den ++ s3)
  (nilT
  ((Cd.int IntKind.i64).pair
  ((Cd.int IntKind.i64).pair (Cd.str.pair Cd.unit))).den ++
  s4)
  (nilT
  ((Cd.int IntKind.i64).pair ((Cd.int IntKind.i64).pair Cd.unit)).den ++
  s5)).calm).w.length
  (List.drop (0 : Nat)
  (Ses.run
  (Ses.mk s0 (nilT Cd.str.den ++ s1) s2 (nilT Cd.str.den ++ s3)
  (nilT
  ((Cd.int IntKind.i64).pair
  ((Cd.int IntKind.i64).pair (Cd.str.pair Cd.unit))).den ++
  s4)
  (nilT
  ((Cd.int IntKind.i64).pair
  ((Cd.int IntKind.i64).pair Cd.unit)).den ++
  s5)).calm.it.length
  (Ses.mk s0 (nilT Cd.str.den ++ s1) s2 (nilT Cd.str.den ++ s3)
  (nilT
  ((Cd.int IntKind.i64).pair
  ((Cd.int IntKind.i64).pair (Cd.str.pair Cd.unit))).den ++
  s4)
  (nilT
  ((Cd.int IntKind.i64).pair ((Cd.int IntKind.i64).pair Cd.unit)).den ++
  s5)).calm).w)).length) *
  (32 : Nat) ≤
  (140737488355328 : Nat)) &&
  decide
  ((0 : Nat) +
  (List.take
  (Ses.run
  (Ses.mk s0 (nilT Cd.str.den ++ s1) s2 (nilT Cd.str.den ++ s3)
  (nilT
  ((Cd.int IntKind.i64).pair
  ((Cd.int IntKind.i64).pair (Cd.str.pair Cd.unit))).den ++
  s4)
  (nilT
  ((Cd.int IntKind.i64).pair
  ((Cd.int IntKind.i64).pair Cd.unit)).den ++
  s5)).calm.it.length
  (Ses.mk s0 (nilT Cd.str.den ++ s1) s2 (nilT Cd.str.den ++ s3)
  (nilT
  ((Cd.int IntKind.i64).pair
  ((Cd.int IntKind.i64).pair (Cd.str.pair Cd.unit))).den ++
  s4)
  (nilT ((Cd.int IntKind.i64).pair ((Cd.int IntKind.i64).pair Cd.unit)).den ++
  s5)).calm).w.length
  (List.drop (0 : Nat)
  (Ses.run
  (Ses.mk s0 (nilT Cd.str.den ++ s1) s2 (nilT Cd.str.den ++ s3)
  (nilT
  ((Cd.int IntKind.i64).pair
  ((Cd.int IntKind.i64).pair (Cd.str.pair Cd.unit))).den ++
  s4)
  (nilT
  ((Cd.int IntKind.i64).pair
  ((Cd.int IntKind.i64).pair Cd.unit)).den ++
  s5)).calm.it.length
  (Ses.mk s0 (nilT Cd.str.den ++ s1) s2 (nilT Cd.str.den ++ s3)
  (nilT
  ((Cd.int IntKind.i64).pair
  ((Cd.int IntKind.i64).pair (Cd.str.pair Cd.unit))).den ++
  s4)
  (nilT ((Cd.int IntKind.i64).pair ((Cd.int IntKind.i64).pair Cd.unit)).den ++
  s5)).calm).w)).length ≤
  maxI))
  (ifT
  (decide
  (((0 : Nat) +
  (List.take
  (Ses.run
  (Ses.mk s0 (nilT Cd.str.den ++ s1) s2 (nilT Cd.str.den ++ s3)
  (nilT
  ((Cd.int IntKind.i64).pair
  ((Cd.int IntKind.i64).pair (Cd.str.pair Cd.unit))).den ++
  s4)
  (nilT
  ((Cd.int IntKind.i64).pair
  ((Cd.int IntKind.i64).pair Cd.unit)).den ++
  s5)).calm.it.length
  (Ses.mk s0 (nilT Cd.str.den ++ s1) s2 (nilT Cd.str.den ++ s3)
  (nilT
  ((Cd.int IntKind.i64).pair
  ((Cd.int IntKind.i64).pair (Cd.str.pair Cd.unit))).den ++
  s4)
  (nilT
  ((Cd.int IntKind.i64).pair
  ((Cd.int IntKind.i64).pair Cd.unit)).den ++
  s5)).calm).a.length
  (List.drop (0 : Nat)
  (Ses.run
  (Ses.mk s0 (nilT Cd.str.den ++ s1) s2 (nilT Cd.str.den ++ s3)
  (nilT
  ((Cd.int IntKind.i64).pair
  ((Cd.int IntKind.i64).pair (Cd.str.pair Cd.unit))).den ++
  s4)
  (nilT
  ((Cd.int IntKind.i64).pair
  ((Cd.int IntKind.i64).pair Cd.unit)).den ++
  s5)).calm.it.length
  (Ses.mk s0 (nilT Cd.str.den ++ s1) s2 (nilT Cd.str.den ++ s3)
  (nilT
  ((Cd.int IntKind.i64).pair
  ((Cd.int IntKind.i64).pair (Cd.str.pair Cd.unit))).den ++
  s4)
  (nilT
  ((Cd.int IntKind.i64).pair
  ((Cd.int IntKind.i64).pair Cd.unit)).den ++
  s5)).calm).a)).length) *
  (16 : Nat) ≤
  (140737488355328 : Nat)) &&
  decide
  ((0 : Nat) +
  (List.take
  (Ses.run
  (Ses.mk s0 (nilT Cd.str.den ++ s1) s2 (nilT Cd.str.den ++ s3)
  (nilT
  ((Cd.int IntKind.i64).pair
  ((Cd.int IntKind.i64).pair (Cd.str.pair Cd.unit))).den ++
  s4)
  (nilT
  ((Cd.int IntKind.i64).pair
  ((Cd.int IntKind.i64).pair Cd.unit)).den ++
  s5)).calm.it.length
  (Ses.mk s0 (nilT Cd.str.den ++ s1) s2 (nilT Cd.str.den ++ s3)
  (nilT
  ((Cd.int IntKind.i64).pair
  ((Cd.int IntKind.i64).pair (Cd.str.pair Cd.unit))).den ++
  s4)
  (nilT
  ((Cd.int IntKind.i64).pair ((Cd.int IntKind.i64).pair Cd.unit)).den ++
  s5)).calm).a.length
  (List.drop (0 : Nat)
  (Ses.run
  (Ses.mk s0 (nilT Cd.str.den ++ s1) s2 (nilT Cd.str.den ++ s3)
  (nilT
  ((Cd.int IntKind.i64).pair
  ((Cd.int IntKind.i64).pair (Cd.str.pair Cd.unit))).den ++
  s4)
  (nilT
  ((Cd.int IntKind.i64).pair
  ((Cd.int IntKind.i64).pair Cd.unit)).den ++
  s5)).calm.it.length
  (Ses.mk s0 (nilT Cd.str.den ++ s1) s2 (nilT Cd.str.den ++ s3)
  (nilT
  ((Cd.int IntKind.i64).pair
  ((Cd.int IntKind.i64).pair (Cd.str.pair Cd.unit))).den ++
  s4)
  (nilT
  ((Cd.int IntKind.i64).pair ((Cd.int IntKind.i64).pair Cd.unit)).den ++
  s5)).calm).a)).length ≤
  maxI))
  (some
  (V.tup
  [V.agg
  [V.i IntKind.i64
  (Ses.run
  (Ses.mk s0 (nilT Cd.str.den ++ s1) s2 (nilT Cd.str.den ++ s3)
  (nilT
  ((Cd.int IntKind.i64).pair
  ((Cd.int IntKind.i64).pair (Cd.str.pair Cd.unit))).den ++
  s4)
  (nilT
  ((Cd.int IntKind.i64).pair
  ((Cd.int IntKind.i64).pair Cd.unit)).den ++
  s5)).calm.it.length
  (Ses.mk s0 (nilT Cd.str.den ++ s1) s2 (nilT Cd.str.den ++ s3)
  (nilT
  ((Cd.int IntKind.i64).pair
  ((Cd.int IntKind.i64).pair (Cd.str.pair Cd.unit))).den ++
  s4)
  (nilT
  ((Cd.int IntKind.i64).pair ((Cd.int IntKind.i64).pair Cd.unit)).den ++
  s5)).calm).e,
  V.ref (0 : Nat) (0 : Nat)
  ((0 : Nat) +
  (List.take
  (Ses.run
  (Ses.mk s0 (nilT Cd.str.den ++ s1) s2 (nilT Cd.str.den ++ s3)
  (nilT
  ((Cd.int IntKind.i64).pair
  ((Cd.int IntKind.i64).pair
  (Cd.str.pair Cd.unit))).den ++
  s4)
  (nilT
  ((Cd.int IntKind.i64).pair
  ((Cd.int IntKind.i64).pair Cd.unit)).den ++
  s5)).calm.it.length
  (Ses.mk s0 (nilT Cd.str.den ++ s1) s2 (nilT Cd.str.den ++ s3)
  (nilT
  ((Cd.int IntKind.i64).pair
  ((Cd.int IntKind.i64).pair (Cd.str.pair Cd.unit))).den ++
  s4)
  (nilT
  ((Cd.int IntKind.i64).pair
  ((Cd.int IntKind.i64).pair Cd.unit)).den ++
  s5)).calm).it.length
  (List.drop (0 : Nat)
  (Ses.run
  (Ses.mk s0 (nilT Cd.str.den ++ s1) s2 (nilT Cd.str.den ++ s3)
  (nilT
  ((Cd.int IntKind.i64).pair
  ((Cd.int IntKind.i64).pair
  (Cd.str.pair Cd.unit))).den ++
  s4)
  (nilT
  ((Cd.int IntKind.i64).pair
  ((Cd.int IntKind.i64).pair Cd.unit)).den ++
  s5)).calm.it.length
  (Ses.mk s0 (nilT Cd.str.den ++ s1) s2 (nilT Cd.str.den ++ s3)
  (nilT
  ((Cd.int IntKind.i64).pair
  ((Cd.int IntKind.i64).pair (Cd.str.pair Cd.unit))).den ++
  s4)
  (nilT
  ((Cd.int IntKind.i64).pair
  ((Cd.int IntKind.i64).pair Cd.unit)).den ++
  s5)).calm).it)).length),
  V.i IntKind.i64
  (Ses.run
  (Ses.mk s0 (nilT Cd.str.den ++ s1) s2 (nilT Cd.str.den ++ s3)
  (nilT
  ((Cd.int IntKind.i64).pair
  ((Cd.int IntKind.i64).pair (Cd.str.pair Cd.unit))).den ++
  s4)
  (nilT
  ((Cd.int IntKind.i64).pair
  ((Cd.int IntKind.i64).pair Cd.unit)).den ++
  s5)).calm.it.length
  (Ses.mk s0 (nilT Cd.str.den ++ s1) s2 (nilT Cd.str.den ++ s3)
  (nilT
  ((Cd.int IntKind.i64).pair
  ((Cd.int IntKind.i64).pair (Cd.str.pair Cd.unit))).den ++
  s4)
  (nilT
  ((Cd.int IntKind.i64).pair ((Cd.int IntKind.i64).pair Cd.unit)).den ++
  s5)).calm).b,
  V.ref (1 : Nat) (0 : Nat)
  ((0 : Nat) +
  (List.take
  (Ses.run
  (Ses.mk s0 (nilT Cd.str.den ++ s1) s2 (nilT Cd.str.den ++ s3)
  (nilT
  ((Cd.int IntKind.i64).pair
  ((Cd.int IntKind.i64).pair
  (Cd.str.pair Cd.unit))).den ++
  s4)
  (nilT
  ((Cd.int IntKind.i64).pair
  ((Cd.int IntKind.i64).pair Cd.unit)).den ++
  s5)).calm.it.length
  (Ses.mk s0 (nilT Cd.str.den ++ s1) s2 (nilT Cd.str.den ++ s3)
  (nilT
  ((Cd.int IntKind.i64).pair
  ((Cd.int IntKind.i64).pair (Cd.str.pair Cd.unit))).den ++
  s4)
  (nilT
  ((Cd.int IntKind.i64).pair
  ((Cd.int IntKind.i64).pair Cd.unit)).den ++
  s5)).calm).ha.length
  (List.drop (0 : Nat)
  (Ses.run
  (Ses.mk s0 (nilT Cd.str.den ++ s1) s2 (nilT Cd.str.den ++ s3)
  (nilT
  ((Cd.int IntKind.i64).pair
  ((Cd.int IntKind.i64).pair
  (Cd.str.pair Cd.unit))).den ++
  s4)
  (nilT
  ((Cd.int IntKind.i64).pair
  ((Cd.int IntKind.i64).pair Cd.unit)).den ++
  s5)).calm.it.length
  (Ses.mk s0 (nilT Cd.str.den ++ s1) s2 (nilT Cd.str.den ++ s3)
  (nilT
  ((Cd.int IntKind.i64).pair
  ((Cd.int IntKind.i64).pair (Cd.str.pair Cd.unit))).den ++
  s4)
  (nilT
  ((Cd.int IntKind.i64).pair
  ((Cd.int IntKind.i64).pair Cd.unit)).den ++
  s5)).calm).ha)).length),
  V.ref (2 : Nat) (0 : Nat)
  ((0 : Nat) +
  (List.take
  (Ses.run
  (Ses.mk s0 (nilT Cd.str.den ++ s1) s2 (nilT Cd.str.den ++ s3)
  (nilT
  ((Cd.int IntKind.i64).pair
  ((Cd.int IntKind.i64).pair
  (Cd.str.pair Cd.unit))).den ++
  s4)
  (nilT
  ((Cd.int IntKind.i64).pair
  ((Cd.int IntKind.i64).pair Cd.unit)).den ++
  s5)).calm.it.length
  (Ses.mk s0 (nilT Cd.str.den ++ s1) s2 (nilT Cd.str.den ++ s3)
  (nilT
  ((Cd.int IntKind.i64).pair
  ((Cd.int IntKind.i64).pair (Cd.str.pair Cd.unit))).den ++
  s4)
  (nilT
  ((Cd.int IntKind.i64).pair
  ((Cd.int IntKind.i64).pair Cd.unit)).den ++
  s5)).calm).w.length
  (List.drop (0 : Nat)
  (Ses.run
  (Ses.mk s0 (nilT Cd.str.den ++ s1) s2 (nilT Cd.str.den ++ s3)
  (nilT
  ((Cd.int IntKind.i64).pair
  ((Cd.int IntKind.i64).pair
  (Cd.str.pair Cd.unit))).den ++
  s4)
  (nilT
  ((Cd.int IntKind.i64).pair
  ((Cd.int IntKind.i64).pair Cd.unit)).den ++
  s5)).calm.it.length
  (Ses.mk s0 (nilT Cd.str.den ++ s1) s2 (nilT Cd.str.den ++ s3)
  (nilT
  ((Cd.int IntKind.i64).pair
  ((Cd.int IntKind.i64).pair (Cd.str.pair Cd.unit))).den ++
  s4)
  (nilT
  ((Cd.int IntKind.i64).pair
  ((Cd.int IntKind.i64).pair Cd.unit)).den ++
  s5)).calm).w)).length),
  V.ref (3 : Nat) (0 : Nat)
  ((0 : Nat) +
  (List.take
  (Ses.run
  (Ses.mk s0 (nilT Cd.str.den ++ s1) s2 (nilT Cd.str.den ++ s3)
  (nilT
  ((Cd.int IntKind.i64).pair
  ((Cd.int IntKind.i64).pair
  (Cd.str.pair Cd.unit))).den ++
  s4)
  (nilT
  ((Cd.int IntKind.i64).pair
  ((Cd.int IntKind.i64).pair Cd.unit)).den ++
  s5)).calm.it.length
  (Ses.mk s0 (nilT Cd.str.den ++ s1) s2 (nilT Cd.str.den ++ s3)
  (nilT
  ((Cd.int IntKind.i64).pair
  ((Cd.int IntKind.i64).pair (Cd.str.pair Cd.unit))).den ++
  s4)
  (nilT
  ((Cd.int IntKind.i64).pair
  ((Cd.int IntKind.i64).pair Cd.unit)).den ++
  s5)).calm).a.length
  (List.drop (0 : Nat)
  (Ses.run
  (Ses.mk s0 (nilT Cd.str.den ++ s1) s2 (nilT Cd.str.den ++ s3)
  (nilT
  ((Cd.int IntKind.i64).pair
  ((Cd.int IntKind.i64).pair
  (Cd.str.pair Cd.unit))).den ++
  s4)
  (nilT
  ((Cd.int IntKind.i64).pair
  ((Cd.int IntKind.i64).pair Cd.unit)).den ++
  s5)).calm.it.length
  (Ses.mk s0 (nilT Cd.str.den ++ s1) s2 (nilT Cd.str.den ++ s3)
  (nilT
  ((Cd.int IntKind.i64).pair
  ((Cd.int IntKind.i64).pair (Cd.str.pair Cd.unit))).den ++
  s4)
  (nilT
  ((Cd.int IntKind.i64).pair
  ((Cd.int IntKind.i64).pair Cd.unit)).den ++
  s5)).calm).a)).length)],
  V.i IntKind.i64
  ((0 : Int) +
  (↑(Ses.runs
  (Ses.mk s0 (nilT Cd.str.den ++ s1) s2 (nilT Cd.str.den ++ s3)
  (nilT
  ((Cd.int IntKind.i64).pair
  ((Cd.int IntKind.i64).pair (Cd.str.pair Cd.unit))).den ++
  s4)
  (nilT
  ((Cd.int IntKind.i64).pair
  ((Cd.int IntKind.i64).pair Cd.unit)).den ++
  s5)).calm.it.length
  (Ses.mk s0 (nilT Cd.str.den ++ s1) s2 (nilT Cd.str.den ++ s3)
  (nilT
  ((Cd.int IntKind.i64).pair
  ((Cd.int IntKind.i64).pair (Cd.str.pair Cd.unit))).den ++
  s4)
  (nilT
  ((Cd.int IntKind.i64).pair ((Cd.int IntKind.i64).pair Cd.unit)).den ++
  s5)).calm) :
  Int)),
  V.b true],
  [some
  (Blk.row false none Cd.str
  (nilT Cd.str.den ++
  List.take
  (Ses.run
  (Ses.mk s0 (nilT Cd.str.den ++ s1) s2 (nilT Cd.str.den ++ s3)
  (nilT
  ((Cd.int IntKind.i64).pair
  ((Cd.int IntKind.i64).pair (Cd.str.pair Cd.unit))).den ++
  s4)
  (nilT
  ((Cd.int IntKind.i64).pair
  ((Cd.int IntKind.i64).pair Cd.unit)).den ++
  s5)).calm.it.length
  (Ses.mk s0 (nilT Cd.str.den ++ s1) s2 (nilT Cd.str.den ++ s3)
  (nilT
  ((Cd.int IntKind.i64).pair
  ((Cd.int IntKind.i64).pair (Cd.str.pair Cd.unit))).den ++
  s4)
  (nilT
  ((Cd.int IntKind.i64).pair
  ((Cd.int IntKind.i64).pair Cd.unit)).den ++
  s5)).calm).it.length
  (List.drop (0 : Nat)
  (Ses.run
  (Ses.mk s0 (nilT Cd.str.den ++ s1) s2 (nilT Cd.str.den ++ s3)
  (nilT
  ((Cd.int IntKind.i64).pair
  ((Cd.int IntKind.i64).pair (Cd.str.pair Cd.unit))).den ++
  s4)
  (nilT
  ((Cd.int IntKind.i64).pair
  ((Cd.int IntKind.i64).pair Cd.unit)).den ++
  s5)).calm.it.length
  (Ses.mk s0 (nilT Cd.str.den ++ s1) s2 (nilT Cd.str.den ++ s3)
  (nilT
  ((Cd.int IntKind.i64).pair
  ((Cd.int IntKind.i64).pair (Cd.str.pair Cd.unit))).den ++
  s4)
  (nilT
  ((Cd.int IntKind.i64).pair
  ((Cd.int IntKind.i64).pair Cd.unit)).den ++
  s5)).calm).it))),
  some
  (Blk.row false none Cd.str
  (nilT Cd.str.den ++
  List.take
  (Ses.run
  (Ses.mk s0 (nilT Cd.str.den ++ s1) s2 (nilT Cd.str.den ++ s3)
  (nilT
  ((Cd.int IntKind.i64).pair
  ((Cd.int IntKind.i64).pair (Cd.str.pair Cd.unit))).den ++
  s4)
  (nilT
  ((Cd.int IntKind.i64).pair
  ((Cd.int IntKind.i64).pair Cd.unit)).den ++
  s5)).calm.it.length
  (Ses.mk s0 (nilT Cd.str.den ++ s1) s2 (nilT Cd.str.den ++ s3)
  (nilT
  ((Cd.int IntKind.i64).pair
  ((Cd.int IntKind.i64).pair (Cd.str.pair Cd.unit))).den ++
  s4)
  (nilT
  ((Cd.int IntKind.i64).pair
  ((Cd.int IntKind.i64).pair Cd.unit)).den ++
  s5)).calm).ha.length
  (List.drop (0 : Nat)
  (Ses.run
  (Ses.mk s0 (nilT Cd.str.den ++ s1) s2 (nilT Cd.str.den ++ s3)
  (nilT
  ((Cd.int IntKind.i64).pair
  ((Cd.int IntKind.i64).pair (Cd.str.pair Cd.unit))).den ++
  s4)
  (nilT
  ((Cd.int IntKind.i64).pair
  ((Cd.int IntKind.i64).pair Cd.unit)).den ++
  s5)).calm.it.length
  (Ses.mk s0 (nilT Cd.str.den ++ s1) s2 (nilT Cd.str.den ++ s3)
  (nilT
  ((Cd.int IntKind.i64).pair
  ((Cd.int IntKind.i64).pair (Cd.str.pair Cd.unit))).den ++
  s4)
  (nilT
  ((Cd.int IntKind.i64).pair
  ((Cd.int IntKind.i64).pair Cd.unit)).den ++
  s5)).calm).ha))),
  some
  (Blk.row false none
  ((Cd.int IntKind.i64).pair ((Cd.int IntKind.i64).pair (Cd.str.pair Cd.unit)))
  (nilT
  ((Cd.int IntKind.i64).pair
  ((Cd.int IntKind.i64).pair (Cd.str.pair Cd.unit))).den ++
  List.take
  (Ses.run
  (Ses.mk s0 (nilT Cd.str.den ++ s1) s2 (nilT Cd.str.den ++ s3)
  (nilT
  ((Cd.int IntKind.i64).pair
  ((Cd.int IntKind.i64).pair (Cd.str.pair Cd.unit))).den ++
  s4)
  (nilT
  ((Cd.int IntKind.i64).pair
  ((Cd.int IntKind.i64).pair Cd.unit)).den ++
  s5)).calm.it.length
  (Ses.mk s0 (nilT Cd.str.den ++ s1) s2 (nilT Cd.str.den ++ s3)
  (nilT
  ((Cd.int IntKind.i64).pair
  ((Cd.int IntKind.i64).pair (Cd.str.pair Cd.unit))).den ++
  s4)
  (nilT
  ((Cd.int IntKind.i64).pair
  ((Cd.int IntKind.i64).pair Cd.unit)).den ++
  s5)).calm).w.length
  (List.drop (0 : Nat)
  (Ses.run
  (Ses.mk s0 (nilT Cd.str.den ++ s1) s2 (nilT Cd.str.den ++ s3)
  (nilT
  ((Cd.int IntKind.i64).pair
  ((Cd.int IntKind.i64).pair (Cd.str.pair Cd.unit))).den ++
  s4)
  (nilT
  ((Cd.int IntKind.i64).pair
  ((Cd.int IntKind.i64).pair Cd.unit)).den ++
  s5)).calm.it.length
  (Ses.mk s0 (nilT Cd.str.den ++ s1) s2 (nilT Cd.str.den ++ s3)
  (nilT
  ((Cd.int IntKind.i64).pair
  ((Cd.int IntKind.i64).pair (Cd.str.pair Cd.unit))).den ++
  s4)
  (nilT
  ((Cd.int IntKind.i64).pair
  ((Cd.int IntKind.i64).pair Cd.unit)).den ++
  s5)).calm).w))),
  some
  (Blk.row false none ((Cd.int IntKind.i64).pair ((Cd.int IntKind.i64).pair Cd.unit))
  (nilT ((Cd.int IntKind.i64).pair ((Cd.int IntKind.i64).pair Cd.unit)).den ++
  List.take
  (Ses.run
  (Ses.mk s0 (nilT Cd.str.den ++ s1) s2 (nilT Cd.str.den ++ s3)
  (nilT
  ((Cd.int IntKind.i64).pair
  ((Cd.int IntKind.i64).pair (Cd.str.pair Cd.unit))).den ++
  s4)
  (nilT
  ((Cd.int IntKind.i64).pair
  ((Cd.int IntKind.i64).pair Cd.unit)).den ++
  s5)).calm.it.length
  (Ses.mk s0 (nilT Cd.str.den ++ s1) s2 (nilT Cd.str.den ++ s3)
  (nilT
  ((Cd.int IntKind.i64).pair
  ((Cd.int IntKind.i64).pair (Cd.str.pair Cd.unit))).den ++
  s4)
  (nilT
  ((Cd.int IntKind.i64).pair
  ((Cd.int IntKind.i64).pair Cd.unit)).den ++
  s5)).calm).a.length
  (List.drop (0 : Nat)
  (Ses.run
  (Ses.mk s0 (nilT Cd.str.den ++ s1) s2 (nilT Cd.str.den ++ s3)
  (nilT
  ((Cd.int IntKind.i64).pair
  ((Cd.int IntKind.i64).pair (Cd.str.pair Cd.unit))).den ++
  s4)
  (nilT
  ((Cd.int IntKind.i64).pair
  ((Cd.int IntKind.i64).pair Cd.unit)).den ++
  s5)).calm.it.length
  (Ses.mk s0 (nilT Cd.str.den ++ s1) s2 (nilT Cd.str.den ++ s3)
  (nilT
  ((Cd.int IntKind.i64).pair
  ((Cd.int IntKind.i64).pair (Cd.str.pair Cd.unit))).den ++
  s4)
  (nilT
  ((Cd.int IntKind.i64).pair
  ((Cd.int IntKind.i64).pair Cd.unit)).den ++
  s5)).calm).a)))])))))))))))))) : _) := by kernel_rfl
theorem cs_loop : ∀ (f : Nat) (s : Ses) (k : Int), s.it.length - s.b.toNat ≤ f → s.w = [] → s.a = [] → s.it.length ≤ 1000 → 0 ≤ k → k + ((s.it.length - s.b.toNat : Nat) : Int) ≤ 1000000 → s.inv (100000 - 2 * (s.it.length - s.b.toNat)) →
    Runs Try.prog (look [(43, .rd1 specGoodG), (63, .rd1 l15OwnG), (62, .own l15CalmG), (64, .own l15StepCG)]) (look [(5, csE)]) 0 (body Try.f10 0) csE (([.ptr 0 0, .ptr 1 0, .i .i64 k], [some (.box [.i .i64 s.e, .ref 2 0 s.it.length, .i .i64 s.b, .ref 3 0 s.ha.length, .ref 4 0 s.w.length, .ref 5 0 s.a.length]), some (.box [.i .i64 0, .ref 6 0 0, .i .i64 0, .ref 7 0 0, .ref 8 0 0, .ref 9 0 0]), some (.row false none .str s.it), some (.row false none .str s.ha), some (.row false none (.pair (.int .i64) (.pair (.int .i64) (.pair .str .unit))) s.w), some (.row false none (.pair (.int .i64) (.pair (.int .i64) .unit)) s.a), some (.row false none .str []), some (.row false none .str []), some (.row false none (.pair (.int .i64) (.pair (.int .i64) (.pair .str .unit))) []), some (.row false none (.pair (.int .i64) (.pair (.int .i64) .unit)) [])])) (.exit 0) (([.ptr 0 0, .ptr 1 0, .i .i64 (k + (s.runs f : Nat))], [some (.box [.i .i64 (s.run f).e, .ref 2 0 (s.run f).it.length, .i .i64 (s.run f).b, .ref 3 0 (s.run f).ha.length, .ref 4 0 (s.run f).w.length, .ref 5 0 (s.run f).a.length]), some (.box [.i .i64 0, .ref 6 0 0, .i .i64 0, .ref 7 0 0, .ref 8 0 0, .ref 9 0 0]), some (.row false none .str (s.run f).it), some (.row false none .str (s.run f).ha), some (.row false none (.pair (.int .i64) (.pair (.int .i64) (.pair .str .unit))) (s.run f).w), some (.row false none (.pair (.int .i64) (.pair (.int .i64) .unit)) (s.run f).a), some (.row false none .str []), some (.row false none .str []), some (.row false none (.pair (.int .i64) (.pair (.int .i64) (.pair .str .unit))) []), some (.row false none (.pair (.int .i64) (.pair (.int .i64) .unit)) [])]))
  | 0, s, k, hf, hw, ha, hl, h0, hk, hi => by
    have hb : ¬ s.b < (s.it.length : Int) := by
      have := hi.2.1.1
      omega
    refine .stop _ _ _ ((cs_round s.e s.it.length s.b s.ha.length s.w.length s.a.length s.it s.ha s.w s.a k).trans ?_) (by simp)
    rw [ifB_false (decide_eq_false hb)]
    simp only [Ses.run, Ses.runs, Int.natCast_zero, Int.add_zero]
  | f + 1, s, k, hf, hw, ha, hl, h0, hk, hi => by
    by_cases hb : s.b < (s.it.length : Int)
    · have hb0 := hi.2.1.1
      have hok : s.ok 2 s.b [] = true := by simp [Ses.ok, hw]; omega
      have hn := Ses.next_inv hi hok
      have hwn : (s.next 2 s.b []).w.length = 1 := by simp [Ses.next, hw]
      obtain ⟨g1, g2, g3, g4, g5⟩ := Ses.round_inv hi hw ha hb
      have hN : (s.next 2 s.b []).inv (1000000 - (s.next 2 s.b []).w.length) := Ses.inv_mono hn (by omega)
      have ih := cs_loop f s.round (k + 1) (by rw [g4]; omega) g2 g3 (by rw [g4]; exact hl) (by omega) (by rw [g4]; omega) (Ses.inv_mono g1 (by rw [g4]; omega))
      have e1 : s.run (f + 1) = s.round.run f := by rw [Ses.run, if_pos hb]
      have e2 : k + ((s.runs (f + 1) : Nat) : Int) = k + 1 + ((s.round.runs f : Nat) : Int) := by rw [Ses.runs, if_pos hb]; omega
      rw [e1, e2]
      refine .step _ _ _ _ ((cs_round s.e s.it.length s.b s.ha.length s.w.length s.a.length s.it s.ha s.w s.a k).trans ?_) ih
      have hw0 : s.w.length = 0 := by rw [hw]; rfl
      have ha0 : s.a.length = 0 := by rw [ha]; rfl
      obtain ⟨i1, i2, -, i4, i5, i6, i7⟩ := hi
      rw [ifB_true (decide_eq_true hb), ifT_true (by simp only [true_and, decide_eq_true_eq]; omega), ifB_true hok]
      rw [ifT_true (decide_eq_true ⟨⟨by first | trivial | rfl, by first | trivial | rfl, by first | trivial | rfl, by first | trivial | rfl⟩, by show (s.next 2 s.b []).w.length ≤ 500000; omega, hN⟩)]
      rw [wrap_id (n := k + 1) (by omega) (by omega)]
      rfl
    · refine .stop _ _ _ ((cs_round s.e s.it.length s.b s.ha.length s.w.length s.a.length s.it s.ha s.w s.a k).trans ?_) (by simp)
      rw [ifB_false (decide_eq_false hb), Ses.run, if_neg hb, Ses.runs, if_neg hb]
      simp only [Int.natCast_zero, Int.add_zero]
theorem cs_ok : LoopsOk Try.prog (look [(43, .rd1 specGoodG), (63, .rd1 l15OwnG), (62, .own l15CalmG), (64, .own l15StepCG)]) (look [(5, csE)]) 0 (Try.f10.body.getD .skip) := by
  refine loopsOk_one (a := body Try.f10 0) (by kernel_rfl) fun d e d' h => ?_
  unfold csE at h
  dsimp only at h
  split at h
  · rename_i s0 m1 s2 m3 m4 m5 s1 s3 s4 s5
    obtain ⟨hc, h'⟩ := need_some h
    obtain ⟨⟨rfl, rfl, rfl, rfl⟩, ⟨hw, ha⟩, hl, ⟨h0, hk⟩, hi⟩ := of_decide_eq_true hc
    have h5 := leaf_some h'
    obtain ⟨rfl, rfl⟩ := Prod.mk.inj h5
    exact cs_loop _ _ _ (by dsimp only; omega) (List.eq_nil_of_length_eq_zero hw) (List.eq_nil_of_length_eq_zero ha) hl h0 hk hi
  · cases h
end Go.Proofs.Ytjghbihlgfjebaa.Den
