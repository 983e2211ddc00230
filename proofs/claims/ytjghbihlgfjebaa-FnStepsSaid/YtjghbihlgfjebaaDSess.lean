/- What functions of the program do, by the machine: Sess. -/
import Derived.Test.YtjghbihlgfjebaaDFine2
import Derived.KernelRfl
import Derived.Test.YtjghbihlgfjebaaRows
namespace Go.Proofs.Ytjghbihlgfjebaa.Den
open Go.Proofs
set_option maxRecDepth 100000
/-- A drawn session, as it is played. -/
def Cur.sesP (c : Cur) : Ses := playS [102, 105, 114, 115, 116] (c.steps.1.take 60)
/-- A drawn session, some spoilt. -/
def Cur.sess (c : Cur) : Ses × Cur :=
  if c.steps.2.pickV 40 = 0 then (⟨c.sesP.e, c.sesP.it, c.sesP.b + 1, c.sesP.ha, c.sesP.w, c.sesP.a⟩, c.steps.2.pickC 40)
  else if c.steps.2.pickV 40 = 1 then (⟨c.sesP.e, c.sesP.it, c.sesP.b, c.sesP.ha ++ [[120]], c.sesP.w, c.sesP.a⟩, c.steps.2.pickC 40)
  else if c.steps.2.pickV 40 = 2 then (⟨([0, 1000, 1001] : List Int).getD ((c.steps.2.pickC 40).pickV 3).toNat 0, c.sesP.it, c.sesP.b, c.sesP.ha, c.sesP.w, c.sesP.a⟩, (c.steps.2.pickC 40).pickC 3)
  else (c.sesP, c.steps.2.pickC 40)
def csessG : List V → List Blk → Br (V × List (Option Blk))
  | [.ptr 0 0], [.box [.sl (.int .u8) l, .i .i64 a, .i .u64 s]] => .need (decide ((Cur.mk l a s).good 600000000)) (.leaf (.agg [.i .i64 (Cur.mk l a s).sess.1.e, .ref 1 0 (Cur.mk l a s).sess.1.it.length, .i .i64 (Cur.mk l a s).sess.1.b, .ref 2 0 (Cur.mk l a s).sess.1.ha.length, .ref 3 0 (Cur.mk l a s).sess.1.w.length, .ref 4 0 (Cur.mk l a s).sess.1.a.length], [some (.box [.sl (.int .u8) (Cur.mk l a s).sess.2.l, .i .i64 (Cur.mk l a s).sess.2.a, .i .u64 (Cur.mk l a s).sess.2.s]), some (.row false none .str (Cur.mk l a s).sess.1.it), some (.row false none .str (Cur.mk l a s).sess.1.ha), some (.row false none (.pair (.int .i64) (.pair (.int .i64) (.pair .str .unit))) (Cur.mk l a s).sess.1.w), some (.row false none (.pair (.int .i64) (.pair (.int .i64) .unit)) (Cur.mk l a s).sess.1.a)]))
  | _, _ => .no
theorem Cur.sesP_inv (c : Cur) : c.sesP.inv 61 := by
  unfold Cur.sesP playS
  have h1 : (c.steps.1.take 60).length ≤ 60 := by rw [List.length_take]; omega
  have h2 : ([102, 105, 114, 115, 116] : List UInt8).length = 5 := rfl
  rw [if_pos ⟨by rw [h2]; omega, by omega⟩]
  have hi : (Ses.mk 1 [[102, 105, 114, 115, 116]] 0 [] [] []).inv 1 := ⟨by simp, by simp, by simp, by simp, by simp, by simp, by simp⟩
  obtain ⟨i1, i2, i3, i4, i5, i6, i7⟩ := Ses.play_inv (c.steps.1.take 60) hi
  exact ⟨i1, i2, i3, by omega, by omega, by omega, by omega⟩
theorem sess_fun0 (l : List Int) (a s : Int) : funN Try.prog (look [(92, .own cstepsG), (27, .rd1 playG), (104, .own cpickG), (103, .own camongG)]) (look []) Try.f115 [.ptr 0 0] [.box [.sl (.int .u8) l, .i .i64 a, .i .u64 s]] =
    ((ifT (decide ((Cur.mk l a s).good (700000000 : Int)))
  (ifB (decide ((↑(Cur.mk l a s).steps.fst.length : Int) > (60 : Int)))
  (ifT
  (decide ((0 : Int) ≤ (60 : Int)) && decide ((60 : Int) ≤ (↑((Cur.mk l a s).steps.fst.length - (0 : Nat)) : Int)))
  (ifT (decide ((Cur.mk l a s).steps.snd.good (900000000 : Int)))
  (ifB ((Cur.mk l a s).steps.snd.pickV (40 : Int) == (0 : Int))
  (some
  (V.agg
  [V.i IntKind.i64
  (playS [(102 : UInt8), (105 : UInt8), (114 : UInt8), (115 : UInt8), (116 : UInt8)]
  (List.take (60 : Nat) (List.drop (0 : Nat) (Cur.mk l a s).steps.fst))).e,
  V.ref (1 : Nat) (0 : Nat)
  (playS [(102 : UInt8), (105 : UInt8), (114 : UInt8), (115 : UInt8), (116 : UInt8)]
  (List.take (60 : Nat) (List.drop (0 : Nat) (Cur.mk l a s).steps.fst))).it.length,
  V.i IntKind.i64
  (IntKind.i64.wrap
  ((playS [(102 : UInt8), (105 : UInt8), (114 : UInt8), (115 : UInt8), (116 : UInt8)]
  (List.take (60 : Nat) (List.drop (0 : Nat) (Cur.mk l a s).steps.fst))).b +
  (1 : Int))),
  V.ref (2 : Nat) (0 : Nat)
  (playS [(102 : UInt8), (105 : UInt8), (114 : UInt8), (115 : UInt8), (116 : UInt8)]
  (List.take (60 : Nat) (List.drop (0 : Nat) (Cur.mk l a s).steps.fst))).ha.length,
  V.ref (3 : Nat) (0 : Nat)
  (playS [(102 : UInt8), (105 : UInt8), (114 : UInt8), (115 : UInt8), (116 : UInt8)]
  (List.take (60 : Nat) (List.drop (0 : Nat) (Cur.mk l a s).steps.fst))).w.length,
  V.ref (4 : Nat) (0 : Nat)
  (playS [(102 : UInt8), (105 : UInt8), (114 : UInt8), (115 : UInt8), (116 : UInt8)]
  (List.take (60 : Nat) (List.drop (0 : Nat) (Cur.mk l a s).steps.fst))).a.length],
  [some
  (Blk.box
  [V.sl (Cd.int IntKind.u8) ((Cur.mk l a s).steps.snd.pickC (40 : Int)).l,
  V.i IntKind.i64 ((Cur.mk l a s).steps.snd.pickC (40 : Int)).a,
  V.i IntKind.u64 ((Cur.mk l a s).steps.snd.pickC (40 : Int)).s]),
  some
  (Blk.row false none Cd.str
  (playS [(102 : UInt8), (105 : UInt8), (114 : UInt8), (115 : UInt8), (116 : UInt8)]
  (List.take (60 : Nat) (List.drop (0 : Nat) (Cur.mk l a s).steps.fst))).it),
  some
  (Blk.row false none Cd.str
  (playS [(102 : UInt8), (105 : UInt8), (114 : UInt8), (115 : UInt8), (116 : UInt8)]
  (List.take (60 : Nat) (List.drop (0 : Nat) (Cur.mk l a s).steps.fst))).ha),
  some
  (Blk.row false none ((Cd.int IntKind.i64).pair ((Cd.int IntKind.i64).pair (Cd.str.pair Cd.unit)))
  (playS [(102 : UInt8), (105 : UInt8), (114 : UInt8), (115 : UInt8), (116 : UInt8)]
  (List.take (60 : Nat) (List.drop (0 : Nat) (Cur.mk l a s).steps.fst))).w),
  some
  (Blk.row false none ((Cd.int IntKind.i64).pair ((Cd.int IntKind.i64).pair Cd.unit))
  (playS [(102 : UInt8), (105 : UInt8), (114 : UInt8), (115 : UInt8), (116 : UInt8)]
  (List.take (60 : Nat) (List.drop (0 : Nat) (Cur.mk l a s).steps.fst))).a)]))
  (ifB ((Cur.mk l a s).steps.snd.pickV (40 : Int) == (1 : Int))
  (ifT
  (decide
  (((playS [(102 : UInt8), (105 : UInt8), (114 : UInt8), (115 : UInt8), (116 : UInt8)]
  (List.take (60 : Nat) (List.drop (0 : Nat) (Cur.mk l a s).steps.fst))).ha.length +
  (1 : Nat)) *
  (16 : Nat) ≤
  (140737488355328 : Nat)) &&
  decide
  ((playS [(102 : UInt8), (105 : UInt8), (114 : UInt8), (115 : UInt8), (116 : UInt8)]
  (List.take (60 : Nat) (List.drop (0 : Nat) (Cur.mk l a s).steps.fst))).ha.length +
  (1 : Nat) ≤
  maxI))
  (some
  (V.agg
  [V.i IntKind.i64
  (playS [(102 : UInt8), (105 : UInt8), (114 : UInt8), (115 : UInt8), (116 : UInt8)]
  (List.take (60 : Nat) (List.drop (0 : Nat) (Cur.mk l a s).steps.fst))).e,
  V.ref (1 : Nat) (0 : Nat)
  (playS [(102 : UInt8), (105 : UInt8), (114 : UInt8), (115 : UInt8), (116 : UInt8)]
  (List.take (60 : Nat) (List.drop (0 : Nat) (Cur.mk l a s).steps.fst))).it.length,
  V.i IntKind.i64
  (playS [(102 : UInt8), (105 : UInt8), (114 : UInt8), (115 : UInt8), (116 : UInt8)]
  (List.take (60 : Nat) (List.drop (0 : Nat) (Cur.mk l a s).steps.fst))).b,
  V.ref (2 : Nat) (0 : Nat)
  ((playS [(102 : UInt8), (105 : UInt8), (114 : UInt8), (115 : UInt8), (116 : UInt8)]
  (List.take (60 : Nat) (List.drop (0 : Nat) (Cur.mk l a s).steps.fst))).ha.length +
  (1 : Nat)),
  V.ref (3 : Nat) (0 : Nat)
  (playS [(102 : UInt8), (105 : UInt8), (114 : UInt8), (115 : UInt8), (116 : UInt8)]
  (List.take (60 : Nat) (List.drop (0 : Nat) (Cur.mk l a s).steps.fst))).w.length,
  V.ref (4 : Nat) (0 : Nat)
  (playS [(102 : UInt8), (105 : UInt8), (114 : UInt8), (115 : UInt8), (116 : UInt8)]
  (List.take (60 : Nat) (List.drop (0 : Nat) (Cur.mk l a s).steps.fst))).a.length],
  [some
  (Blk.box
  [V.sl (Cd.int IntKind.u8) ((Cur.mk l a s).steps.snd.pickC (40 : Int)).l,
  V.i IntKind.i64 ((Cur.mk l a s).steps.snd.pickC (40 : Int)).a,
  V.i IntKind.u64 ((Cur.mk l a s).steps.snd.pickC (40 : Int)).s]),
  some
  (Blk.row false none Cd.str
  (playS [(102 : UInt8), (105 : UInt8), (114 : UInt8), (115 : UInt8), (116 : UInt8)]
  (List.take (60 : Nat) (List.drop (0 : Nat) (Cur.mk l a s).steps.fst))).it),
  some
  (Blk.row false none Cd.str
  (List.take
  (playS [(102 : UInt8), (105 : UInt8), (114 : UInt8), (115 : UInt8), (116 : UInt8)]
  (List.take (60 : Nat) (List.drop (0 : Nat) (Cur.mk l a s).steps.fst))).ha.length
  (List.drop (0 : Nat)
  (playS [(102 : UInt8), (105 : UInt8), (114 : UInt8), (115 : UInt8), (116 : UInt8)]
  (List.take (60 : Nat) (List.drop (0 : Nat) (Cur.mk l a s).steps.fst))).ha) ++
  ((120 : UInt8) :: nilT UInt8) :: nilT Cd.str.den)),
  some
  (Blk.row false none ((Cd.int IntKind.i64).pair ((Cd.int IntKind.i64).pair (Cd.str.pair Cd.unit)))
  (playS [(102 : UInt8), (105 : UInt8), (114 : UInt8), (115 : UInt8), (116 : UInt8)]
  (List.take (60 : Nat) (List.drop (0 : Nat) (Cur.mk l a s).steps.fst))).w),
  some
  (Blk.row false none ((Cd.int IntKind.i64).pair ((Cd.int IntKind.i64).pair Cd.unit))
  (playS [(102 : UInt8), (105 : UInt8), (114 : UInt8), (115 : UInt8), (116 : UInt8)]
  (List.take (60 : Nat) (List.drop (0 : Nat) (Cur.mk l a s).steps.fst))).a)])))
  (ifB ((Cur.mk l a s).steps.snd.pickV (40 : Int) == (2 : Int))
  (ifT
  (decide
  (((Cur.mk l a s).steps.snd.pickC (40 : Int)).good (900000000 : Int) ∧
  (1 : Nat) ≤ (3 : Nat) ∧ (3 : Nat) ≤ (3 : Nat)))
  (some
  (V.agg
  [V.i IntKind.i64
  (((0 : Int) :: (1000 : Int) :: (1001 : Int) :: nilT (Cd.int IntKind.i64).den).getD
  ((0 : Nat) + (((Cur.mk l a s).steps.snd.pickC (40 : Int)).pickV (↑(3 : Nat) : Int)).toNat)
  (0 : (Cd.int IntKind.i64).den)),
  V.ref (1 : Nat) (0 : Nat)
  (playS [(102 : UInt8), (105 : UInt8), (114 : UInt8), (115 : UInt8), (116 : UInt8)]
  (List.take (60 : Nat) (List.drop (0 : Nat) (Cur.mk l a s).steps.fst))).it.length,
  V.i IntKind.i64
  (playS [(102 : UInt8), (105 : UInt8), (114 : UInt8), (115 : UInt8), (116 : UInt8)]
  (List.take (60 : Nat) (List.drop (0 : Nat) (Cur.mk l a s).steps.fst))).b,
  V.ref (2 : Nat) (0 : Nat)
  (playS [(102 : UInt8), (105 : UInt8), (114 : UInt8), (115 : UInt8), (116 : UInt8)]
  (List.take (60 : Nat) (List.drop (0 : Nat) (Cur.mk l a s).steps.fst))).ha.length,
  V.ref (3 : Nat) (0 : Nat)
  (playS [(102 : UInt8), (105 : UInt8), (114 : UInt8), (115 : UInt8), (116 : UInt8)]
  (List.take (60 : Nat) (List.drop (0 : Nat) (Cur.mk l a s).steps.fst))).w.length,
  V.ref (4 : Nat) (0 : Nat)
  (playS [(102 : UInt8), (105 : UInt8), (114 : UInt8), (115 : UInt8), (116 : UInt8)]
  (List.take (60 : Nat) (List.drop (0 : Nat) (Cur.mk l a s).steps.fst))).a.length],
  [some
  (Blk.box
  [V.sl (Cd.int IntKind.u8)
  (((Cur.mk l a s).steps.snd.pickC (40 : Int)).pickC (↑(3 : Nat) : Int)).l,
  V.i IntKind.i64 (((Cur.mk l a s).steps.snd.pickC (40 : Int)).pickC (↑(3 : Nat) : Int)).a,
  V.i IntKind.u64 (((Cur.mk l a s).steps.snd.pickC (40 : Int)).pickC (↑(3 : Nat) : Int)).s]),
  some
  (Blk.row false none Cd.str
  (playS [(102 : UInt8), (105 : UInt8), (114 : UInt8), (115 : UInt8), (116 : UInt8)]
  (List.take (60 : Nat) (List.drop (0 : Nat) (Cur.mk l a s).steps.fst))).it),
  some
  (Blk.row false none Cd.str
  (playS [(102 : UInt8), (105 : UInt8), (114 : UInt8), (115 : UInt8), (116 : UInt8)]
  (List.take (60 : Nat) (List.drop (0 : Nat) (Cur.mk l a s).steps.fst))).ha),
  some
  (Blk.row false none
  ((Cd.int IntKind.i64).pair ((Cd.int IntKind.i64).pair (Cd.str.pair Cd.unit)))
  (playS [(102 : UInt8), (105 : UInt8), (114 : UInt8), (115 : UInt8), (116 : UInt8)]
  (List.take (60 : Nat) (List.drop (0 : Nat) (Cur.mk l a s).steps.fst))).w),
  some
  (Blk.row false none ((Cd.int IntKind.i64).pair ((Cd.int IntKind.i64).pair Cd.unit))
  (playS [(102 : UInt8), (105 : UInt8), (114 : UInt8), (115 : UInt8), (116 : UInt8)]
  (List.take (60 : Nat) (List.drop (0 : Nat) (Cur.mk l a s).steps.fst))).a)])))
  (some
  (V.agg
  [V.i IntKind.i64
  (playS [(102 : UInt8), (105 : UInt8), (114 : UInt8), (115 : UInt8), (116 : UInt8)]
  (List.take (60 : Nat) (List.drop (0 : Nat) (Cur.mk l a s).steps.fst))).e,
  V.ref (1 : Nat) (0 : Nat)
  (playS [(102 : UInt8), (105 : UInt8), (114 : UInt8), (115 : UInt8), (116 : UInt8)]
  (List.take (60 : Nat) (List.drop (0 : Nat) (Cur.mk l a s).steps.fst))).it.length,
  V.i IntKind.i64
  (playS [(102 : UInt8), (105 : UInt8), (114 : UInt8), (115 : UInt8), (116 : UInt8)]
  (List.take (60 : Nat) (List.drop (0 : Nat) (Cur.mk l a s).steps.fst))).b,
  V.ref (2 : Nat) (0 : Nat)
  (playS [(102 : UInt8), (105 : UInt8), (114 : UInt8), (115 : UInt8), (116 : UInt8)]
  (List.take (60 : Nat) (List.drop (0 : Nat) (Cur.mk l a s).steps.fst))).ha.length,
  V.ref (3 : Nat) (0 : Nat)
  (playS [(102 : UInt8), (105 : UInt8), (114 : UInt8), (115 : UInt8), (116 : UInt8)]
  (List.take (60 : Nat) (List.drop (0 : Nat) (Cur.mk l a s).steps.fst))).w.length,
  V.ref (4 : Nat) (0 : Nat)
  (playS [(102 : UInt8), (105 : UInt8), (114 : UInt8), (115 : UInt8), (116 : UInt8)]
  (List.take (60 : Nat) (List.drop (0 : Nat) (Cur.mk l a s).steps.fst))).a.length],
  [some
  (Blk.box
  [V.sl (Cd.int IntKind.u8) ((Cur.mk l a s).steps.snd.pickC (40 : Int)).l,
  V.i IntKind.i64 ((Cur.mk l a s).steps.snd.pickC (40 : Int)).a,
  V.i IntKind.u64 ((Cur.mk l a s).steps.snd.pickC (40 : Int)).s]),
  some
  (Blk.row false none Cd.str
  (playS [(102 : UInt8), (105 : UInt8), (114 : UInt8), (115 : UInt8), (116 : UInt8)]
  (List.take (60 : Nat) (List.drop (0 : Nat) (Cur.mk l a s).steps.fst))).it),
  some
  (Blk.row false none Cd.str
  (playS [(102 : UInt8), (105 : UInt8), (114 : UInt8), (115 : UInt8), (116 : UInt8)]
  (List.take (60 : Nat) (List.drop (0 : Nat) (Cur.mk l a s).steps.fst))).ha),
  some
  (Blk.row false none ((Cd.int IntKind.i64).pair ((Cd.int IntKind.i64).pair (Cd.str.pair Cd.unit)))
  (playS [(102 : UInt8), (105 : UInt8), (114 : UInt8), (115 : UInt8), (116 : UInt8)]
  (List.take (60 : Nat) (List.drop (0 : Nat) (Cur.mk l a s).steps.fst))).w),
  some
  (Blk.row false none ((Cd.int IntKind.i64).pair ((Cd.int IntKind.i64).pair Cd.unit))
  (playS [(102 : UInt8), (105 : UInt8), (114 : UInt8), (115 : UInt8), (116 : UInt8)]
  (List.take (60 : Nat) (List.drop (0 : Nat) (Cur.mk l a s).steps.fst))).a)])))))))
  (ifT (decide ((Cur.mk l a s).steps.snd.good (900000000 : Int)))
  (ifB ((Cur.mk l a s).steps.snd.pickV (40 : Int) == (0 : Int))
  (some
  (V.agg
  [V.i IntKind.i64
  (playS [(102 : UInt8), (105 : UInt8), (114 : UInt8), (115 : UInt8), (116 : UInt8)]
  (List.take (Cur.mk l a s).steps.fst.length (List.drop (0 : Nat) (Cur.mk l a s).steps.fst))).e,
  V.ref (1 : Nat) (0 : Nat)
  (playS [(102 : UInt8), (105 : UInt8), (114 : UInt8), (115 : UInt8), (116 : UInt8)]
  (List.take (Cur.mk l a s).steps.fst.length
  (List.drop (0 : Nat) (Cur.mk l a s).steps.fst))).it.length,
  V.i IntKind.i64
  (IntKind.i64.wrap
  ((playS [(102 : UInt8), (105 : UInt8), (114 : UInt8), (115 : UInt8), (116 : UInt8)]
  (List.take (Cur.mk l a s).steps.fst.length
  (List.drop (0 : Nat) (Cur.mk l a s).steps.fst))).b +
  (1 : Int))),
  V.ref (2 : Nat) (0 : Nat)
  (playS [(102 : UInt8), (105 : UInt8), (114 : UInt8), (115 : UInt8), (116 : UInt8)]
  (List.take (Cur.mk l a s).steps.fst.length
  (List.drop (0 : Nat) (Cur.mk l a s).steps.fst))).ha.length,
  V.ref (3 : Nat) (0 : Nat)
  (playS [(102 : UInt8), (105 : UInt8), (114 : UInt8), (115 : UInt8), (116 : UInt8)]
  (List.take (Cur.mk l a s).steps.fst.length
  (List.drop (0 : Nat) (Cur.mk l a s).steps.fst))).w.length,
  V.ref (4 : Nat) (0 : Nat)
  (playS [(102 : UInt8), (105 : UInt8), (114 : UInt8), (115 : UInt8), (116 : UInt8)]
  (List.take (Cur.mk l a s).steps.fst.length
  (List.drop (0 : Nat) (Cur.mk l a s).steps.fst))).a.length],
  [some
  (Blk.box
  [V.sl (Cd.int IntKind.u8) ((Cur.mk l a s).steps.snd.pickC (40 : Int)).l,
  V.i IntKind.i64 ((Cur.mk l a s).steps.snd.pickC (40 : Int)).a,
  V.i IntKind.u64 ((Cur.mk l a s).steps.snd.pickC (40 : Int)).s]),
  some
  (Blk.row false none Cd.str
  (playS [(102 : UInt8), (105 : UInt8), (114 : UInt8), (115 : UInt8), (116 : UInt8)]
  (List.take (Cur.mk l a s).steps.fst.length (List.drop (0 : Nat) (Cur.mk l a s).steps.fst))).it),
  some
  (Blk.row false none Cd.str
  (playS [(102 : UInt8), (105 : UInt8), (114 : UInt8), (115 : UInt8), (116 : UInt8)]
  (List.take (Cur.mk l a s).steps.fst.length (List.drop (0 : Nat) (Cur.mk l a s).steps.fst))).ha),
  some
  (Blk.row false none ((Cd.int IntKind.i64).pair ((Cd.int IntKind.i64).pair (Cd.str.pair Cd.unit)))
  (playS [(102 : UInt8), (105 : UInt8), (114 : UInt8), (115 : UInt8), (116 : UInt8)]
  (List.take (Cur.mk l a s).steps.fst.length (List.drop (0 : Nat) (Cur.mk l a s).steps.fst))).w),
  some
  (Blk.row false none ((Cd.int IntKind.i64).pair ((Cd.int IntKind.i64).pair Cd.unit))
  (playS [(102 : UInt8), (105 : UInt8), (114 : UInt8), (115 : UInt8), (116 : UInt8)]
  (List.take (Cur.mk l a s).steps.fst.length (List.drop (0 : Nat) (Cur.mk l a s).steps.fst))).a)]))
  (ifB ((Cur.mk l a s).steps.snd.pickV (40 : Int) == (1 : Int))
  (ifT
  (decide
  (((playS [(102 : UInt8), (105 : UInt8), (114 : UInt8), (115 : UInt8), (116 : UInt8)]
  (List.take (Cur.mk l a s).steps.fst.length
  (List.drop (0 : Nat) (Cur.mk l a s).steps.fst))).ha.length +
  (1 : Nat)) *
  (16 : Nat) ≤
  (140737488355328 : Nat)) &&
  decide
  ((playS [(102 : UInt8), (105 : UInt8), (114 : UInt8), (115 : UInt8), (116 : UInt8)]
  (List.take (Cur.mk l a s).steps.fst.length
  (List.drop (0 : Nat) (Cur.mk l a s).steps.fst))).ha.length +
  (1 : Nat) ≤
  maxI))
  (some
  (V.agg
  [V.i IntKind.i64
  (playS [(102 : UInt8), (105 : UInt8), (114 : UInt8), (115 : UInt8), (116 : UInt8)]
  (List.take (Cur.mk l a s).steps.fst.length (List.drop (0 : Nat) (Cur.mk l a s).steps.fst))).e,
  V.ref (1 : Nat) (0 : Nat)
  (playS [(102 : UInt8), (105 : UInt8), (114 : UInt8), (115 : UInt8), (116 : UInt8)]
  (List.take (Cur.mk l a s).steps.fst.length
  (List.drop (0 : Nat) (Cur.mk l a s).steps.fst))).it.length,
  V.i IntKind.i64
  (playS [(102 : UInt8), (105 : UInt8), (114 : UInt8), (115 : UInt8), (116 : UInt8)]
  (List.take (Cur.mk l a s).steps.fst.length (List.drop (0 : Nat) (Cur.mk l a s).steps.fst))).b,
  V.ref (2 : Nat) (0 : Nat)
  ((playS [(102 : UInt8), (105 : UInt8), (114 : UInt8), (115 : UInt8), (116 : UInt8)]
  (List.take (Cur.mk l a s).steps.fst.length
  (List.drop (0 : Nat) (Cur.mk l a s).steps.fst))).ha.length +
  (1 : Nat)),
  V.ref (3 : Nat) (0 : Nat)
  (playS [(102 : UInt8), (105 : UInt8), (114 : UInt8), (115 : UInt8), (116 : UInt8)]
  (List.take (Cur.mk l a s).steps.fst.length
  (List.drop (0 : Nat) (Cur.mk l a s).steps.fst))).w.length,
  V.ref (4 : Nat) (0 : Nat)
  (playS [(102 : UInt8), (105 : UInt8), (114 : UInt8), (115 : UInt8), (116 : UInt8)]
  (List.take (Cur.mk l a s).steps.fst.length
  (List.drop (0 : Nat) (Cur.mk l a s).steps.fst))).a.length],
  [some
  (Blk.box
  [V.sl (Cd.int IntKind.u8) ((Cur.mk l a s).steps.snd.pickC (40 : Int)).l,
  V.i IntKind.i64 ((Cur.mk l a s).steps.snd.pickC (40 : Int)).a,
  V.i IntKind.u64 ((Cur.mk l a s).steps.snd.pickC (40 : Int)).s]),
  some
  (Blk.row false none Cd.str
  (playS [(102 : UInt8), (105 : UInt8), (114 : UInt8), (115 : UInt8), (116 : UInt8)]
  (List.take (Cur.mk l a s).steps.fst.length
  (List.drop (0 : Nat) (Cur.mk l a s).steps.fst))).it),
  some
  (Blk.row false none Cd.str
  (List.take
  (playS [(102 : UInt8), (105 : UInt8), (114 : UInt8), (115 : UInt8), (116 : UInt8)]
  (List.take (Cur.mk l a s).steps.fst.length
  (List.drop (0 : Nat) (Cur.mk l a s).steps.fst))).ha.length
  (List.drop (0 : Nat)
  (playS [(102 : UInt8), (105 : UInt8), (114 : UInt8), (115 : UInt8), (116 : UInt8)]
  (List.take (Cur.mk l a s).steps.fst.length
  (List.drop (0 : Nat) (Cur.mk l a s).steps.fst))).ha) ++
  ((120 : UInt8) :: nilT UInt8) :: nilT Cd.str.den)),
  some
  (Blk.row false none ((Cd.int IntKind.i64).pair ((Cd.int IntKind.i64).pair (Cd.str.pair Cd.unit)))
  (playS [(102 : UInt8), (105 : UInt8), (114 : UInt8), (115 : UInt8), (116 : UInt8)]
  (List.take (Cur.mk l a s).steps.fst.length
  (List.drop (0 : Nat) (Cur.mk l a s).steps.fst))).w),
  some
  (Blk.row false none ((Cd.int IntKind.i64).pair ((Cd.int IntKind.i64).pair Cd.unit))
  (playS [(102 : UInt8), (105 : UInt8), (114 : UInt8), (115 : UInt8), (116 : UInt8)]
  (List.take (Cur.mk l a s).steps.fst.length
  (List.drop (0 : Nat) (Cur.mk l a s).steps.fst))).a)])))
  (ifB ((Cur.mk l a s).steps.snd.pickV (40 : Int) == (2 : Int))
  (ifT
  (decide
  (((Cur.mk l a s).steps.snd.pickC (40 : Int)).good (900000000 : Int) ∧
  (1 : Nat) ≤ (3 : Nat) ∧ (3 : Nat) ≤ (3 : Nat)))
  (some
  (V.agg
  [V.i IntKind.i64
  (((0 : Int) :: (1000 : Int) :: (1001 : Int) :: nilT (Cd.int IntKind.i64).den).getD
  ((0 : Nat) + (((Cur.mk l a s).steps.snd.pickC (40 : Int)).pickV (↑(3 : Nat) : Int)).toNat)
  (0 : (Cd.int IntKind.i64).den)),
  V.ref (1 : Nat) (0 : Nat)
  (playS [(102 : UInt8), (105 : UInt8), (114 : UInt8), (115 : UInt8), (116 : UInt8)]
  (List.take (Cur.mk l a s).steps.fst.length
  (List.drop (0 : Nat) (Cur.mk l a s).steps.fst))).it.length,
  V.i IntKind.i64
  (playS [(102 : UInt8), (105 : UInt8), (114 : UInt8), (115 : UInt8), (116 : UInt8)]
  (List.take (Cur.mk l a s).steps.fst.length
  (List.drop (0 : Nat) (Cur.mk l a s).steps.fst))).b,
  V.ref (2 : Nat) (0 : Nat)
  (playS [(102 : UInt8), (105 : UInt8), (114 : UInt8), (115 : UInt8), (116 : UInt8)]
  (List.take (Cur.mk l a s).steps.fst.length
  (List.drop (0 : Nat) (Cur.mk l a s).steps.fst))).ha.length,
  V.ref (3 : Nat) (0 : Nat)
  (playS [(102 : UInt8), (105 : UInt8), (114 : UInt8), (115 : UInt8), (116 : UInt8)]
  (List.take (Cur.mk l a s).steps.fst.length
  (List.drop (0 : Nat) (Cur.mk l a s).steps.fst))).w.length,
  V.ref (4 : Nat) (0 : Nat)
  (playS [(102 : UInt8), (105 : UInt8), (114 : UInt8), (115 : UInt8), (116 : UInt8)]
  (List.take (Cur.mk l a s).steps.fst.length
  (List.drop (0 : Nat) (Cur.mk l a s).steps.fst))).a.length],
  [some
  (Blk.box
  [V.sl (Cd.int IntKind.u8)
  (((Cur.mk l a s).steps.snd.pickC (40 : Int)).pickC (↑(3 : Nat) : Int)).l,
  V.i IntKind.i64 (((Cur.mk l a s).steps.snd.pickC (40 : Int)).pickC (↑(3 : Nat) : Int)).a,
  V.i IntKind.u64 (((Cur.mk l a s).steps.snd.pickC (40 : Int)).pickC (↑(3 : Nat) : Int)).s]),
  some
  (Blk.row false none Cd.str
  (playS [(102 : UInt8), (105 : UInt8), (114 : UInt8), (115 : UInt8), (116 : UInt8)]
  (List.take (Cur.mk l a s).steps.fst.length
  (List.drop (0 : Nat) (Cur.mk l a s).steps.fst))).it),
  some
  (Blk.row false none Cd.str
  (playS [(102 : UInt8), (105 : UInt8), (114 : UInt8), (115 : UInt8), (116 : UInt8)]
  (List.take (Cur.mk l a s).steps.fst.length
  (List.drop (0 : Nat) (Cur.mk l a s).steps.fst))).ha),
  some
  (Blk.row false none ((Cd.int IntKind.i64).pair ((Cd.int IntKind.i64).pair (Cd.str.pair Cd.unit)))
  (playS [(102 : UInt8), (105 : UInt8), (114 : UInt8), (115 : UInt8), (116 : UInt8)]
  (List.take (Cur.mk l a s).steps.fst.length
  (List.drop (0 : Nat) (Cur.mk l a s).steps.fst))).w),
  some
  (Blk.row false none ((Cd.int IntKind.i64).pair ((Cd.int IntKind.i64).pair Cd.unit))
  (playS [(102 : UInt8), (105 : UInt8), (114 : UInt8), (115 : UInt8), (116 : UInt8)]
  (List.take (Cur.mk l a s).steps.fst.length
  (List.drop (0 : Nat) (Cur.mk l a s).steps.fst))).a)])))
  (some
  (V.agg
  [V.i IntKind.i64
  (playS [(102 : UInt8), (105 : UInt8), (114 : UInt8), (115 : UInt8), (116 : UInt8)]
  (List.take (Cur.mk l a s).steps.fst.length (List.drop (0 : Nat) (Cur.mk l a s).steps.fst))).e,
  V.ref (1 : Nat) (0 : Nat)
  (playS [(102 : UInt8), (105 : UInt8), (114 : UInt8), (115 : UInt8), (116 : UInt8)]
  (List.take (Cur.mk l a s).steps.fst.length
  (List.drop (0 : Nat) (Cur.mk l a s).steps.fst))).it.length,
  V.i IntKind.i64
  (playS [(102 : UInt8), (105 : UInt8), (114 : UInt8), (115 : UInt8), (116 : UInt8)]
  (List.take (Cur.mk l a s).steps.fst.length (List.drop (0 : Nat) (Cur.mk l a s).steps.fst))).b,
  V.ref (2 : Nat) (0 : Nat)
  (playS [(102 : UInt8), (105 : UInt8), (114 : UInt8), (115 : UInt8), (116 : UInt8)]
  (List.take (Cur.mk l a s).steps.fst.length
  (List.drop (0 : Nat) (Cur.mk l a s).steps.fst))).ha.length,
  V.ref (3 : Nat) (0 : Nat)
  (playS [(102 : UInt8), (105 : UInt8), (114 : UInt8), (115 : UInt8), (116 : UInt8)]
  (List.take (Cur.mk l a s).steps.fst.length
  (List.drop (0 : Nat) (Cur.mk l a s).steps.fst))).w.length,
  V.ref (4 : Nat) (0 : Nat)
  (playS [(102 : UInt8), (105 : UInt8), (114 : UInt8), (115 : UInt8), (116 : UInt8)]
  (List.take (Cur.mk l a s).steps.fst.length
  (List.drop (0 : Nat) (Cur.mk l a s).steps.fst))).a.length],
  [some
  (Blk.box
  [V.sl (Cd.int IntKind.u8) ((Cur.mk l a s).steps.snd.pickC (40 : Int)).l,
  V.i IntKind.i64 ((Cur.mk l a s).steps.snd.pickC (40 : Int)).a,
  V.i IntKind.u64 ((Cur.mk l a s).steps.snd.pickC (40 : Int)).s]),
  some
  (Blk.row false none Cd.str
  (playS [(102 : UInt8), (105 : UInt8), (114 : UInt8), (115 : UInt8), (116 : UInt8)]
  (List.take (Cur.mk l a s).steps.fst.length
  (List.drop (0 : Nat) (Cur.mk l a s).steps.fst))).it),
  some
  (Blk.row false none Cd.str
  (playS [(102 : UInt8), (105 : UInt8), (114 : UInt8), (115 : UInt8), (116 : UInt8)]
  (List.take (Cur.mk l a s).steps.fst.length
  (List.drop (0 : Nat) (Cur.mk l a s).steps.fst))).ha),
  some
  (Blk.row false none ((Cd.int IntKind.i64).pair ((Cd.int IntKind.i64).pair (Cd.str.pair Cd.unit)))
  (playS [(102 : UInt8), (105 : UInt8), (114 : UInt8), (115 : UInt8), (116 : UInt8)]
  (List.take (Cur.mk l a s).steps.fst.length
  (List.drop (0 : Nat) (Cur.mk l a s).steps.fst))).w),
  some
  (Blk.row false none ((Cd.int IntKind.i64).pair ((Cd.int IntKind.i64).pair Cd.unit))
  (playS [(102 : UInt8), (105 : UInt8), (114 : UInt8), (115 : UInt8), (116 : UInt8)]
  (List.take (Cur.mk l a s).steps.fst.length
  (List.drop (0 : Nat) (Cur.mk l a s).steps.fst))).a)])))))))) : _) := by kernel_rfl
theorem csess_fun (l : List Int) (a s : Int) (hc : (Cur.mk l a s).good 600000000) : funN Try.prog (look [(92, .own cstepsG), (27, .rd1 playG), (104, .own cpickG), (103, .own camongG)]) (look []) Try.f115 [.ptr 0 0] [.box [.sl (.int .u8) l, .i .i64 a, .i .u64 s]] = (.leaf (.agg [.i .i64 (Cur.mk l a s).sess.1.e, .ref 1 0 (Cur.mk l a s).sess.1.it.length, .i .i64 (Cur.mk l a s).sess.1.b, .ref 2 0 (Cur.mk l a s).sess.1.ha.length, .ref 3 0 (Cur.mk l a s).sess.1.w.length, .ref 4 0 (Cur.mk l a s).sess.1.a.length], [some (.box [.sl (.int .u8) (Cur.mk l a s).sess.2.l, .i .i64 (Cur.mk l a s).sess.2.a, .i .u64 (Cur.mk l a s).sess.2.s]), some (.row false none .str (Cur.mk l a s).sess.1.it), some (.row false none .str (Cur.mk l a s).sess.1.ha), some (.row false none (.pair (.int .i64) (.pair (.int .i64) (.pair .str .unit))) (Cur.mk l a s).sess.1.w), some (.row false none (.pair (.int .i64) (.pair (.int .i64) .unit)) (Cur.mk l a s).sess.1.a)]) : Br (V × List (Option Blk))).run := by
  rw [sess_fun0]
  have hs := Cur.steps_good hc
  obtain ⟨⟨e1, e2⟩, ⟨b1, b2⟩, -, i4, i5, i6, i7⟩ := Cur.sesP_inv (Cur.mk l a s)
  have g1 : ((Cur.mk l a s).steps.2.pickC 40).good 900000000 := by (repeat with_reducible apply Cur.pick_le); exact Cur.good_mono hs (by omega)
  have hM : maxI = 9223372036854775807 := rfl
  rw [ifT_true (decide_eq_true (Cur.good_mono hc (by omega)))]
  have key : ∀ L : List ((Int × Int × List UInt8 × Unit)), L = (Cur.mk l a s).steps.1.take 60 → playS [102, 105, 114, 115, 116] L = (Cur.mk l a s).sesP := fun L h => by rw [h]; rfl
  have k1 := key (List.take (60 : Nat) (List.drop (0 : Nat) (Cur.mk l a s).steps.1)) (by rw [List.drop_zero])
  have k2 : ¬ ((↑(Cur.mk l a s).steps.1.length : Int) > 60) → playS [102, 105, 114, 115, 116] (List.take (Cur.mk l a s).steps.1.length (List.drop 0 (Cur.mk l a s).steps.1)) = (Cur.mk l a s).sesP := fun h => key _ (by
    rw [List.drop_zero, List.take_length, List.take_of_length_le (by omega)])
  simp only [k1]
  by_cases q : (↑(Cur.mk l a s).steps.1.length : Int) > 60
  · rw [ifB_true (decide_eq_true q), ifT_true (by simp only [Bool.and_eq_true, decide_eq_true_eq]; omega)]
    rw [ifT_true (decide_eq_true (Cur.good_mono hs (by omega)))]
    unfold Cur.sess
    by_cases q0 : (Cur.mk l a s).steps.2.pickV 40 = 0
    · rw [ifB_true (by rw [q0]; rfl), if_pos q0, wrap_id (by omega) (by omega)]
      rfl
    · rw [ifB_false (by simpa using q0), if_neg q0]
      by_cases q1 : (Cur.mk l a s).steps.2.pickV 40 = 1
      · rw [ifB_true (by rw [q1]; rfl), if_pos q1, ifT_true (by simp only [Bool.and_eq_true, decide_eq_true_eq]; omega)]
        simp only [List.drop_zero, List.take_length, Br.run, List.length_append, List.length_cons, List.length_nil]
      · rw [ifB_false (by simpa using q1), if_neg q1]
        by_cases q2 : (Cur.mk l a s).steps.2.pickV 40 = 2
        · rw [ifB_true (by rw [q2]; rfl), if_pos q2, ifT_true (decide_eq_true ⟨g1, by omega, by omega⟩)]
          simp only [Nat.zero_add]
          rfl
        · rw [ifB_false (by simpa using q2), if_neg q2]
          rfl
  · rw [ifB_false (decide_eq_false q)]
    simp only [k2 q]
    rw [ifT_true (decide_eq_true (Cur.good_mono hs (by omega)))]
    unfold Cur.sess
    by_cases q0 : (Cur.mk l a s).steps.2.pickV 40 = 0
    · rw [ifB_true (by rw [q0]; rfl), if_pos q0, wrap_id (by omega) (by omega)]
      rfl
    · rw [ifB_false (by simpa using q0), if_neg q0]
      by_cases q1 : (Cur.mk l a s).steps.2.pickV 40 = 1
      · rw [ifB_true (by rw [q1]; rfl), if_pos q1, ifT_true (by simp only [Bool.and_eq_true, decide_eq_true_eq]; omega)]
        simp only [List.drop_zero, List.take_length, Br.run, List.length_append, List.length_cons, List.length_nil]
      · rw [ifB_false (by simpa using q1), if_neg q1]
        by_cases q2 : (Cur.mk l a s).steps.2.pickV 40 = 2
        · rw [ifB_true (by rw [q2]; rfl), if_pos q2, ifT_true (decide_eq_true ⟨g1, by omega, by omega⟩)]
          simp only [Nat.zero_add]
          rfl
        · rw [ifB_false (by simpa using q2), if_neg q2]
          rfl
theorem csess : Contract Try.prog 115 (Ent.own csessG).F := by
  refine fun_contractN' (KnowsL.cons (enters_fn Try.func92 (by kernel_rfl) (by kernel_rfl)) csteps (KnowsL.cons (enters_fn Try.func27 (by kernel_rfl) (by kernel_rfl)) specPlay (KnowsL.cons (enters_fn Try.func104 (by kernel_rfl) (by kernel_rfl)) cpick (KnowsL.cons (enters_fn Try.func103 (by kernel_rfl) (by kernel_rfl)) camong KnowsL.nil)))).knows (Λ := look []) Try.func115 (c := Try.f115.body.getD .skip) (by kernel_rfl) fun vs bs r h hv hb => ?_
  unfold Ent.F csessG at h
  dsimp only at h
  split at h
  · rename_i l a s
    obtain ⟨hc, h⟩ := need_some h
    exact ⟨loopsOk_nil _, (csess_fun l a s (of_decide_eq_true hc)).trans h⟩
  · cases h
end Go.Proofs.Ytjghbihlgfjebaa.Den
