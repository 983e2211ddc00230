/- What functions of the program do, by the machine: QueC2. -/
import Derived.Test.YtjghbihlgfjebaaDQue9
import Derived.KernelRfl
import Derived.Test.YtjghbihlgfjebaaRows
namespace Go.Proofs.Ytjghbihlgfjebaa.Den
open Go.Proofs
set_option maxRecDepth 100000
/-- A drawn queue as it is played. -/
def Cur.queP (c : Cur) : Que := (playO (1 + c.offs.2.pickV 5) (1 + (c.offs.2.pickC 5).pickV 3) (c.offs.1.take 200)).1
def Cur.queC (c : Cur) : Cur := ((c.offs.2.pickC 5).pickC 3).pickC 30
/-- A drawn queue, some spoilt. -/
def Cur.que (c : Cur) : Que × Cur :=
  if ((c.offs.2.pickC 5).pickC 3).pickV 30 = 0 then (⟨c.queP.c, c.queP.r, c.queP.n + 1, c.queP.w, c.queP.h, c.queP.d⟩, c.queC)
  else if ((c.offs.2.pickC 5).pickC 3).pickV 30 = 1 then (⟨c.queP.c, c.queP.r, c.queP.n, c.queP.w ++ [c.queC.pickV 9], c.queP.h, c.queP.d⟩, c.queC.pickC 9)
  else if ((c.offs.2.pickC 5).pickC 3).pickV 30 = 2 then (⟨([0, 10, 11] : List Int).getD (c.queC.pickV 3).toNat 0, c.queP.r, c.queP.n, c.queP.w, c.queP.h, c.queP.d⟩, c.queC.pickC 3)
  else (c.queP, c.queC)
/-- A drawn play of a queue. -/
def dqC (l : List Int) : Int := ([0, 1, 2, 4, 10, 11] : List Int).getD ((Cur.mk l 0 0).pickV 6).toNat 0
def dqR (l : List Int) : Int := 1 + ((Cur.mk l 0 0).pickC 6).pickV 3
def dqL (l : List Int) : List Bool := (((Cur.mk l 0 0).pickC 6).pickC 3).offs.1
def cqueG : List V → List Blk → Br (V × List (Option Blk))
  | [.ptr 0 0], [.box [.sl (.int .u8) l, .i .i64 a, .i .u64 s]] => .need (decide ((Cur.mk l a s).good 600000000)) (.leaf (.agg [.i .i64 (Cur.mk l a s).que.1.c, .i .i64 (Cur.mk l a s).que.1.r, .i .i64 (Cur.mk l a s).que.1.n, .ref 1 0 (Cur.mk l a s).que.1.w.length, .ref 2 0 (Cur.mk l a s).que.1.h.length, .ref 3 0 (Cur.mk l a s).que.1.d.length], [some (.box [.sl (.int .u8) (Cur.mk l a s).que.2.l, .i .i64 (Cur.mk l a s).que.2.a, .i .u64 (Cur.mk l a s).que.2.s]), some (.row false none (.int .i64) (Cur.mk l a s).que.1.w), some (.row false none (.int .i64) (Cur.mk l a s).que.1.h), some (.row false none (.int .i64) (Cur.mk l a s).que.1.d)]))
  | _, _ => .no
def dplayqG : List V → List Blk → Br (V × List (Option Blk))
  | [.sl (.int .u8) l], [] => .need (decide ((Cur.mk l 0 0).good 0)) (.leaf (.tup [.i .i64 (dqC l), .i .i64 (dqR l), .ref 0 0 (dqL l).length], [some (.row false none .bool (dqL l))]))
  | _, _ => .no
theorem Cur.queP_fine {c : Cur} {m : Int} (h : c.good m) : c.queP.Fine := by
  have h1 := Cur.offs_good h
  have r1 := Cur.pickV_range (k := 5) h1 (by omega)
  have r2 := Cur.pickV_range (k := 3) (Cur.pickC_good (k := 5) h1) (by omega)
  unfold Cur.queP playO
  rw [if_pos ⟨⟨⟨by omega, by omega⟩, by omega, by omega⟩, by rw [List.length_take]; omega⟩]
  have hng : goodQ (1 + c.offs.2.pickV 5) (1 + (c.offs.2.pickC 5).pickV 3) 0 [] [] [] = true := Que.new_good ⟨⟨by omega, by omega⟩, by omega, by omega⟩
  exact Que.fine (Que.play_good _ (q := Que.mk (1 + c.offs.2.pickV 5) (1 + (c.offs.2.pickC 5).pickV 3) 0 [] [] []) hng)
theorem cque_fun (l : List Int) (a s : Int) (hc : (Cur.mk l a s).good 600000000) : funN Try.prog (look [(105, .own coffsG), (104, .own cpickG), (103, .own camongG), (34, .rd1 splayG)]) (look []) Try.f122 [.ptr 0 0] [.box [.sl (.int .u8) l, .i .i64 a, .i .u64 s]] = (.leaf (.agg [.i .i64 (Cur.mk l a s).que.1.c, .i .i64 (Cur.mk l a s).que.1.r, .i .i64 (Cur.mk l a s).que.1.n, .ref 1 0 (Cur.mk l a s).que.1.w.length, .ref 2 0 (Cur.mk l a s).que.1.h.length, .ref 3 0 (Cur.mk l a s).que.1.d.length], [some (.box [.sl (.int .u8) (Cur.mk l a s).que.2.l, .i .i64 (Cur.mk l a s).que.2.a, .i .u64 (Cur.mk l a s).que.2.s]), some (.row false none (.int .i64) (Cur.mk l a s).que.1.w), some (.row false none (.int .i64) (Cur.mk l a s).que.1.h), some (.row false none (.int .i64) (Cur.mk l a s).que.1.d)]) : Br (V × List (Option Blk))).run := by
  have e : funN Try.prog (look [(105, .own coffsG), (104, .own cpickG), (103, .own camongG), (34, .rd1 splayG)]) (look []) Try.f122 [.ptr 0 0] [.box [.sl (.int .u8) l, .i .i64 a, .i .u64 s]] = ((ifT (decide ((Cur.mk l a s).good (700000000 : Int)))
  (ifB (decide ((↑(Cur.mk l a s).offs.fst.length : Int) > (200 : Int)))
  (ifT
  (decide ((0 : Int) ≤ (200 : Int)) && decide ((200 : Int) ≤ (↑((Cur.mk l a s).offs.fst.length - (0 : Nat)) : Int)))
  (ifT (decide ((Cur.mk l a s).offs.snd.good (900000000 : Int)))
  (ifT (decide (((Cur.mk l a s).offs.snd.pickC (5 : Int)).good (900000000 : Int)))
  (ifT (decide ((((Cur.mk l a s).offs.snd.pickC (5 : Int)).pickC (3 : Int)).good (900000000 : Int)))
  (ifB ((((Cur.mk l a s).offs.snd.pickC (5 : Int)).pickC (3 : Int)).pickV (30 : Int) == (0 : Int))
  (some
  (V.agg
  [V.i IntKind.i64
  (playO (IntKind.i64.wrap ((1 : Int) + (Cur.mk l a s).offs.snd.pickV (5 : Int)))
  (IntKind.i64.wrap ((1 : Int) + ((Cur.mk l a s).offs.snd.pickC (5 : Int)).pickV (3 : Int)))
  (List.take (200 : Nat) (List.drop (0 : Nat) (Cur.mk l a s).offs.fst))).fst.c,
  V.i IntKind.i64
  (playO (IntKind.i64.wrap ((1 : Int) + (Cur.mk l a s).offs.snd.pickV (5 : Int)))
  (IntKind.i64.wrap ((1 : Int) + ((Cur.mk l a s).offs.snd.pickC (5 : Int)).pickV (3 : Int)))
  (List.take (200 : Nat) (List.drop (0 : Nat) (Cur.mk l a s).offs.fst))).fst.r,
  V.i IntKind.i64
  (IntKind.i64.wrap
  ((playO (IntKind.i64.wrap ((1 : Int) + (Cur.mk l a s).offs.snd.pickV (5 : Int)))
  (IntKind.i64.wrap
  ((1 : Int) + ((Cur.mk l a s).offs.snd.pickC (5 : Int)).pickV (3 : Int)))
  (List.take (200 : Nat) (List.drop (0 : Nat) (Cur.mk l a s).offs.fst))).fst.n +
  (1 : Int))),
  V.ref (1 : Nat) (0 : Nat)
  (playO (IntKind.i64.wrap ((1 : Int) + (Cur.mk l a s).offs.snd.pickV (5 : Int)))
  (IntKind.i64.wrap
  ((1 : Int) + ((Cur.mk l a s).offs.snd.pickC (5 : Int)).pickV (3 : Int)))
  (List.take (200 : Nat) (List.drop (0 : Nat) (Cur.mk l a s).offs.fst))).fst.w.length,
  V.ref (2 : Nat) (0 : Nat)
  (playO (IntKind.i64.wrap ((1 : Int) + (Cur.mk l a s).offs.snd.pickV (5 : Int)))
  (IntKind.i64.wrap
  ((1 : Int) + ((Cur.mk l a s).offs.snd.pickC (5 : Int)).pickV (3 : Int)))
  (List.take (200 : Nat) (List.drop (0 : Nat) (Cur.mk l a s).offs.fst))).fst.h.length,
  V.ref (3 : Nat) (0 : Nat)
  (playO (IntKind.i64.wrap ((1 : Int) + (Cur.mk l a s).offs.snd.pickV (5 : Int)))
  (IntKind.i64.wrap
  ((1 : Int) + ((Cur.mk l a s).offs.snd.pickC (5 : Int)).pickV (3 : Int)))
  (List.take (200 : Nat) (List.drop (0 : Nat) (Cur.mk l a s).offs.fst))).fst.d.length],
  [some
  (Blk.box
  [V.sl (Cd.int IntKind.u8)
  ((((Cur.mk l a s).offs.snd.pickC (5 : Int)).pickC (3 : Int)).pickC (30 : Int)).l,
  V.i IntKind.i64
  ((((Cur.mk l a s).offs.snd.pickC (5 : Int)).pickC (3 : Int)).pickC (30 : Int)).a,
  V.i IntKind.u64
  ((((Cur.mk l a s).offs.snd.pickC (5 : Int)).pickC (3 : Int)).pickC (30 : Int)).s]),
  some
  (Blk.row false none (Cd.int IntKind.i64)
  (playO (IntKind.i64.wrap ((1 : Int) + (Cur.mk l a s).offs.snd.pickV (5 : Int)))
  (IntKind.i64.wrap ((1 : Int) + ((Cur.mk l a s).offs.snd.pickC (5 : Int)).pickV (3 : Int)))
  (List.take (200 : Nat) (List.drop (0 : Nat) (Cur.mk l a s).offs.fst))).fst.w),
  some
  (Blk.row false none (Cd.int IntKind.i64)
  (playO (IntKind.i64.wrap ((1 : Int) + (Cur.mk l a s).offs.snd.pickV (5 : Int)))
  (IntKind.i64.wrap ((1 : Int) + ((Cur.mk l a s).offs.snd.pickC (5 : Int)).pickV (3 : Int)))
  (List.take (200 : Nat) (List.drop (0 : Nat) (Cur.mk l a s).offs.fst))).fst.h),
  some
  (Blk.row false none (Cd.int IntKind.i64)
  (playO (IntKind.i64.wrap ((1 : Int) + (Cur.mk l a s).offs.snd.pickV (5 : Int)))
  (IntKind.i64.wrap ((1 : Int) + ((Cur.mk l a s).offs.snd.pickC (5 : Int)).pickV (3 : Int)))
  (List.take (200 : Nat) (List.drop (0 : Nat) (Cur.mk l a s).offs.fst))).fst.d)]))
  (ifB ((((Cur.mk l a s).offs.snd.pickC (5 : Int)).pickC (3 : Int)).pickV (30 : Int) == (1 : Int))
  (ifT
  (decide
  (((((Cur.mk l a s).offs.snd.pickC (5 : Int)).pickC (3 : Int)).pickC (30 : Int)).good
  (900000000 : Int)))
  (ifT
  (decide
  (((playO (IntKind.i64.wrap ((1 : Int) + (Cur.mk l a s).offs.snd.pickV (5 : Int)))
  (IntKind.i64.wrap
  ((1 : Int) + ((Cur.mk l a s).offs.snd.pickC (5 : Int)).pickV (3 : Int)))
  (List.take (200 : Nat)
  (List.drop (0 : Nat) (Cur.mk l a s).offs.fst))).fst.w.length +
  (1 : Nat)) *
  (8 : Nat) ≤
  (140737488355328 : Nat)) &&
  decide
  ((playO (IntKind.i64.wrap ((1 : Int) + (Cur.mk l a s).offs.snd.pickV (5 : Int)))
  (IntKind.i64.wrap
  ((1 : Int) + ((Cur.mk l a s).offs.snd.pickC (5 : Int)).pickV (3 : Int)))
  (List.take (200 : Nat)
  (List.drop (0 : Nat) (Cur.mk l a s).offs.fst))).fst.w.length +
  (1 : Nat) ≤
  maxI))
  (some
  (V.agg
  [V.i IntKind.i64
  (playO (IntKind.i64.wrap ((1 : Int) + (Cur.mk l a s).offs.snd.pickV (5 : Int)))
  (IntKind.i64.wrap
  ((1 : Int) + ((Cur.mk l a s).offs.snd.pickC (5 : Int)).pickV (3 : Int)))
  (List.take (200 : Nat) (List.drop (0 : Nat) (Cur.mk l a s).offs.fst))).fst.c,
  V.i IntKind.i64
  (playO (IntKind.i64.wrap ((1 : Int) + (Cur.mk l a s).offs.snd.pickV (5 : Int)))
  (IntKind.i64.wrap
  ((1 : Int) + ((Cur.mk l a s).offs.snd.pickC (5 : Int)).pickV (3 : Int)))
  (List.take (200 : Nat) (List.drop (0 : Nat) (Cur.mk l a s).offs.fst))).fst.r,
  V.i IntKind.i64
  (playO (IntKind.i64.wrap ((1 : Int) + (Cur.mk l a s).offs.snd.pickV (5 : Int)))
  (IntKind.i64.wrap
  ((1 : Int) + ((Cur.mk l a s).offs.snd.pickC (5 : Int)).pickV (3 : Int)))
  (List.take (200 : Nat) (List.drop (0 : Nat) (Cur.mk l a s).offs.fst))).fst.n,
  V.ref (1 : Nat) (0 : Nat)
  ((playO (IntKind.i64.wrap ((1 : Int) + (Cur.mk l a s).offs.snd.pickV (5 : Int)))
  (IntKind.i64.wrap
  ((1 : Int) + ((Cur.mk l a s).offs.snd.pickC (5 : Int)).pickV (3 : Int)))
  (List.take (200 : Nat)
  (List.drop (0 : Nat) (Cur.mk l a s).offs.fst))).fst.w.length +
  (1 : Nat)),
  V.ref (2 : Nat) (0 : Nat)
  (playO (IntKind.i64.wrap ((1 : Int) + (Cur.mk l a s).offs.snd.pickV (5 : Int)))
  (IntKind.i64.wrap
  ((1 : Int) + ((Cur.mk l a s).offs.snd.pickC (5 : Int)).pickV (3 : Int)))
  (List.take (200 : Nat)
  (List.drop (0 : Nat) (Cur.mk l a s).offs.fst))).fst.h.length,
  V.ref (3 : Nat) (0 : Nat)
  (playO (IntKind.i64.wrap ((1 : Int) + (Cur.mk l a s).offs.snd.pickV (5 : Int)))
  (IntKind.i64.wrap
  ((1 : Int) + ((Cur.mk l a s).offs.snd.pickC (5 : Int)).pickV (3 : Int)))
  (List.take (200 : Nat)
  (List.drop (0 : Nat) (Cur.mk l a s).offs.fst))).fst.d.length],
  [some
  (Blk.box
  [V.sl (Cd.int IntKind.u8)
  (((((Cur.mk l a s).offs.snd.pickC (5 : Int)).pickC (3 : Int)).pickC (30 : Int)).pickC
  (9 : Int)).l,
  V.i IntKind.i64
  (((((Cur.mk l a s).offs.snd.pickC (5 : Int)).pickC (3 : Int)).pickC (30 : Int)).pickC
  (9 : Int)).a,
  V.i IntKind.u64
  (((((Cur.mk l a s).offs.snd.pickC (5 : Int)).pickC (3 : Int)).pickC (30 : Int)).pickC
  (9 : Int)).s]),
  some
  (Blk.row false none (Cd.int IntKind.i64)
  (List.take
  (playO (IntKind.i64.wrap ((1 : Int) + (Cur.mk l a s).offs.snd.pickV (5 : Int)))
  (IntKind.i64.wrap
  ((1 : Int) + ((Cur.mk l a s).offs.snd.pickC (5 : Int)).pickV (3 : Int)))
  (List.take (200 : Nat)
  (List.drop (0 : Nat) (Cur.mk l a s).offs.fst))).fst.w.length
  (List.drop (0 : Nat)
  (playO (IntKind.i64.wrap ((1 : Int) + (Cur.mk l a s).offs.snd.pickV (5 : Int)))
  (IntKind.i64.wrap
  ((1 : Int) + ((Cur.mk l a s).offs.snd.pickC (5 : Int)).pickV (3 : Int)))
  (List.take (200 : Nat)
  (List.drop (0 : Nat) (Cur.mk l a s).offs.fst))).fst.w) ++
  ((((Cur.mk l a s).offs.snd.pickC (5 : Int)).pickC (3 : Int)).pickC (30 : Int)).pickV
  (9 : Int) ::
  nilT (Cd.int IntKind.i64).den)),
  some
  (Blk.row false none (Cd.int IntKind.i64)
  (playO (IntKind.i64.wrap ((1 : Int) + (Cur.mk l a s).offs.snd.pickV (5 : Int)))
  (IntKind.i64.wrap
  ((1 : Int) + ((Cur.mk l a s).offs.snd.pickC (5 : Int)).pickV (3 : Int)))
  (List.take (200 : Nat) (List.drop (0 : Nat) (Cur.mk l a s).offs.fst))).fst.h),
  some
  (Blk.row false none (Cd.int IntKind.i64)
  (playO (IntKind.i64.wrap ((1 : Int) + (Cur.mk l a s).offs.snd.pickV (5 : Int)))
  (IntKind.i64.wrap
  ((1 : Int) + ((Cur.mk l a s).offs.snd.pickC (5 : Int)).pickV (3 : Int)))
  (List.take (200 : Nat) (List.drop (0 : Nat) (Cur.mk l a s).offs.fst))).fst.d)]))))
  (ifB ((((Cur.mk l a s).offs.snd.pickC (5 : Int)).pickC (3 : Int)).pickV (30 : Int) == (2 : Int))
  (ifT
  (decide
  (((((Cur.mk l a s).offs.snd.pickC (5 : Int)).pickC (3 : Int)).pickC (30 : Int)).good
  (900000000 : Int) ∧
  (1 : Nat) ≤ (3 : Nat) ∧ (3 : Nat) ≤ (3 : Nat)))
  (some
  (V.agg
  [V.i IntKind.i64
  (((0 : Int) :: (10 : Int) :: (11 : Int) :: nilT (Cd.int IntKind.i64).den).getD
  ((0 : Nat) +
  (((((Cur.mk l a s).offs.snd.pickC (5 : Int)).pickC (3 : Int)).pickC (30 : Int)).pickV
  (↑(3 : Nat) : Int)).toNat)
  (0 : (Cd.int IntKind.i64).den)),
  V.i IntKind.i64
  (playO (IntKind.i64.wrap ((1 : Int) + (Cur.mk l a s).offs.snd.pickV (5 : Int)))
  (IntKind.i64.wrap
  ((1 : Int) + ((Cur.mk l a s).offs.snd.pickC (5 : Int)).pickV (3 : Int)))
  (List.take (200 : Nat) (List.drop (0 : Nat) (Cur.mk l a s).offs.fst))).fst.r,
  V.i IntKind.i64
  (playO (IntKind.i64.wrap ((1 : Int) + (Cur.mk l a s).offs.snd.pickV (5 : Int)))
  (IntKind.i64.wrap
  ((1 : Int) + ((Cur.mk l a s).offs.snd.pickC (5 : Int)).pickV (3 : Int)))
  (List.take (200 : Nat) (List.drop (0 : Nat) (Cur.mk l a s).offs.fst))).fst.n,
  V.ref (1 : Nat) (0 : Nat)
  (playO (IntKind.i64.wrap ((1 : Int) + (Cur.mk l a s).offs.snd.pickV (5 : Int)))
  (IntKind.i64.wrap
  ((1 : Int) + ((Cur.mk l a s).offs.snd.pickC (5 : Int)).pickV (3 : Int)))
  (List.take (200 : Nat)
  (List.drop (0 : Nat) (Cur.mk l a s).offs.fst))).fst.w.length,
  V.ref (2 : Nat) (0 : Nat)
  (playO (IntKind.i64.wrap ((1 : Int) + (Cur.mk l a s).offs.snd.pickV (5 : Int)))
  (IntKind.i64.wrap
  ((1 : Int) + ((Cur.mk l a s).offs.snd.pickC (5 : Int)).pickV (3 : Int)))
  (List.take (200 : Nat)
  (List.drop (0 : Nat) (Cur.mk l a s).offs.fst))).fst.h.length,
  V.ref (3 : Nat) (0 : Nat)
  (playO (IntKind.i64.wrap ((1 : Int) + (Cur.mk l a s).offs.snd.pickV (5 : Int)))
  (IntKind.i64.wrap
  ((1 : Int) + ((Cur.mk l a s).offs.snd.pickC (5 : Int)).pickV (3 : Int)))
  (List.take (200 : Nat)
  (List.drop (0 : Nat) (Cur.mk l a s).offs.fst))).fst.d.length],
  [some
  (Blk.box
  [V.sl (Cd.int IntKind.u8)
  (((((Cur.mk l a s).offs.snd.pickC (5 : Int)).pickC (3 : Int)).pickC (30 : Int)).pickC
  (↑(3 : Nat) : Int)).l,
  V.i IntKind.i64
  (((((Cur.mk l a s).offs.snd.pickC (5 : Int)).pickC (3 : Int)).pickC (30 : Int)).pickC
  (↑(3 : Nat) : Int)).a,
  V.i IntKind.u64
  (((((Cur.mk l a s).offs.snd.pickC (5 : Int)).pickC (3 : Int)).pickC (30 : Int)).pickC
  (↑(3 : Nat) : Int)).s]),
  some
  (Blk.row false none (Cd.int IntKind.i64)
  (playO (IntKind.i64.wrap ((1 : Int) + (Cur.mk l a s).offs.snd.pickV (5 : Int)))
  (IntKind.i64.wrap
  ((1 : Int) + ((Cur.mk l a s).offs.snd.pickC (5 : Int)).pickV (3 : Int)))
  (List.take (200 : Nat) (List.drop (0 : Nat) (Cur.mk l a s).offs.fst))).fst.w),
  some
  (Blk.row false none (Cd.int IntKind.i64)
  (playO (IntKind.i64.wrap ((1 : Int) + (Cur.mk l a s).offs.snd.pickV (5 : Int)))
  (IntKind.i64.wrap
  ((1 : Int) + ((Cur.mk l a s).offs.snd.pickC (5 : Int)).pickV (3 : Int)))
  (List.take (200 : Nat) (List.drop (0 : Nat) (Cur.mk l a s).offs.fst))).fst.h),
  some
  (Blk.row false none (Cd.int IntKind.i64)
  (playO (IntKind.i64.wrap ((1 : Int) + (Cur.mk l a s).offs.snd.pickV (5 : Int)))
  (IntKind.i64.wrap
  ((1 : Int) + ((Cur.mk l a s).offs.snd.pickC (5 : Int)).pickV (3 : Int)))
  (List.take (200 : Nat) (List.drop (0 : Nat) (Cur.mk l a s).offs.fst))).fst.d)])))
  (some
  (V.agg
  [V.i IntKind.i64
  (playO (IntKind.i64.wrap ((1 : Int) + (Cur.mk l a s).offs.snd.pickV (5 : Int)))
  (IntKind.i64.wrap
  ((1 : Int) + ((Cur.mk l a s).offs.snd.pickC (5 : Int)).pickV (3 : Int)))
  (List.take (200 : Nat) (List.drop (0 : Nat) (Cur.mk l a s).offs.fst))).fst.c,
  V.i IntKind.i64
  (playO (IntKind.i64.wrap ((1 : Int) + (Cur.mk l a s).offs.snd.pickV (5 : Int)))
  (IntKind.i64.wrap
  ((1 : Int) + ((Cur.mk l a s).offs.snd.pickC (5 : Int)).pickV (3 : Int)))
  (List.take (200 : Nat) (List.drop (0 : Nat) (Cur.mk l a s).offs.fst))).fst.r,
  V.i IntKind.i64
  (playO (IntKind.i64.wrap ((1 : Int) + (Cur.mk l a s).offs.snd.pickV (5 : Int)))
  (IntKind.i64.wrap
  ((1 : Int) + ((Cur.mk l a s).offs.snd.pickC (5 : Int)).pickV (3 : Int)))
  (List.take (200 : Nat) (List.drop (0 : Nat) (Cur.mk l a s).offs.fst))).fst.n,
  V.ref (1 : Nat) (0 : Nat)
  (playO (IntKind.i64.wrap ((1 : Int) + (Cur.mk l a s).offs.snd.pickV (5 : Int)))
  (IntKind.i64.wrap
  ((1 : Int) + ((Cur.mk l a s).offs.snd.pickC (5 : Int)).pickV (3 : Int)))
  (List.take (200 : Nat) (List.drop (0 : Nat) (Cur.mk l a s).offs.fst))).fst.w.length,
  V.ref (2 : Nat) (0 : Nat)
  (playO (IntKind.i64.wrap ((1 : Int) + (Cur.mk l a s).offs.snd.pickV (5 : Int)))
  (IntKind.i64.wrap
  ((1 : Int) + ((Cur.mk l a s).offs.snd.pickC (5 : Int)).pickV (3 : Int)))
  (List.take (200 : Nat) (List.drop (0 : Nat) (Cur.mk l a s).offs.fst))).fst.h.length,
  V.ref (3 : Nat) (0 : Nat)
  (playO (IntKind.i64.wrap ((1 : Int) + (Cur.mk l a s).offs.snd.pickV (5 : Int)))
  (IntKind.i64.wrap
  ((1 : Int) + ((Cur.mk l a s).offs.snd.pickC (5 : Int)).pickV (3 : Int)))
  (List.take (200 : Nat)
  (List.drop (0 : Nat) (Cur.mk l a s).offs.fst))).fst.d.length],
  [some
  (Blk.box
  [V.sl (Cd.int IntKind.u8)
  ((((Cur.mk l a s).offs.snd.pickC (5 : Int)).pickC (3 : Int)).pickC (30 : Int)).l,
  V.i IntKind.i64
  ((((Cur.mk l a s).offs.snd.pickC (5 : Int)).pickC (3 : Int)).pickC (30 : Int)).a,
  V.i IntKind.u64
  ((((Cur.mk l a s).offs.snd.pickC (5 : Int)).pickC (3 : Int)).pickC (30 : Int)).s]),
  some
  (Blk.row false none (Cd.int IntKind.i64)
  (playO (IntKind.i64.wrap ((1 : Int) + (Cur.mk l a s).offs.snd.pickV (5 : Int)))
  (IntKind.i64.wrap
  ((1 : Int) + ((Cur.mk l a s).offs.snd.pickC (5 : Int)).pickV (3 : Int)))
  (List.take (200 : Nat) (List.drop (0 : Nat) (Cur.mk l a s).offs.fst))).fst.w),
  some
  (Blk.row false none (Cd.int IntKind.i64)
  (playO (IntKind.i64.wrap ((1 : Int) + (Cur.mk l a s).offs.snd.pickV (5 : Int)))
  (IntKind.i64.wrap
  ((1 : Int) + ((Cur.mk l a s).offs.snd.pickC (5 : Int)).pickV (3 : Int)))
  (List.take (200 : Nat) (List.drop (0 : Nat) (Cur.mk l a s).offs.fst))).fst.h),
  some
  (Blk.row false none (Cd.int IntKind.i64)
  (playO (IntKind.i64.wrap ((1 : Int) + (Cur.mk l a s).offs.snd.pickV (5 : Int)))
  (IntKind.i64.wrap
  ((1 : Int) + ((Cur.mk l a s).offs.snd.pickC (5 : Int)).pickV (3 : Int)))
  (List.take (200 : Nat)
  (List.drop (0 : Nat) (Cur.mk l a s).offs.fst))).fst.d)])))))))))
  (ifT (decide ((Cur.mk l a s).offs.snd.good (900000000 : Int)))
  (ifT (decide (((Cur.mk l a s).offs.snd.pickC (5 : Int)).good (900000000 : Int)))
  (ifT (decide ((((Cur.mk l a s).offs.snd.pickC (5 : Int)).pickC (3 : Int)).good (900000000 : Int)))
  (ifB ((((Cur.mk l a s).offs.snd.pickC (5 : Int)).pickC (3 : Int)).pickV (30 : Int) == (0 : Int))
  (some
  (V.agg
  [V.i IntKind.i64
  (playO (IntKind.i64.wrap ((1 : Int) + (Cur.mk l a s).offs.snd.pickV (5 : Int)))
  (IntKind.i64.wrap ((1 : Int) + ((Cur.mk l a s).offs.snd.pickC (5 : Int)).pickV (3 : Int)))
  (List.take (Cur.mk l a s).offs.fst.length
  (List.drop (0 : Nat) (Cur.mk l a s).offs.fst))).fst.c,
  V.i IntKind.i64
  (playO (IntKind.i64.wrap ((1 : Int) + (Cur.mk l a s).offs.snd.pickV (5 : Int)))
  (IntKind.i64.wrap ((1 : Int) + ((Cur.mk l a s).offs.snd.pickC (5 : Int)).pickV (3 : Int)))
  (List.take (Cur.mk l a s).offs.fst.length
  (List.drop (0 : Nat) (Cur.mk l a s).offs.fst))).fst.r,
  V.i IntKind.i64
  (IntKind.i64.wrap
  ((playO (IntKind.i64.wrap ((1 : Int) + (Cur.mk l a s).offs.snd.pickV (5 : Int)))
  (IntKind.i64.wrap
  ((1 : Int) + ((Cur.mk l a s).offs.snd.pickC (5 : Int)).pickV (3 : Int)))
  (List.take (Cur.mk l a s).offs.fst.length
  (List.drop (0 : Nat) (Cur.mk l a s).offs.fst))).fst.n +
  (1 : Int))),
  V.ref (1 : Nat) (0 : Nat)
  (playO (IntKind.i64.wrap ((1 : Int) + (Cur.mk l a s).offs.snd.pickV (5 : Int)))
  (IntKind.i64.wrap ((1 : Int) + ((Cur.mk l a s).offs.snd.pickC (5 : Int)).pickV (3 : Int)))
  (List.take (Cur.mk l a s).offs.fst.length
  (List.drop (0 : Nat) (Cur.mk l a s).offs.fst))).fst.w.length,
  V.ref (2 : Nat) (0 : Nat)
  (playO (IntKind.i64.wrap ((1 : Int) + (Cur.mk l a s).offs.snd.pickV (5 : Int)))
  (IntKind.i64.wrap ((1 : Int) + ((Cur.mk l a s).offs.snd.pickC (5 : Int)).pickV (3 : Int)))
  (List.take (Cur.mk l a s).offs.fst.length
  (List.drop (0 : Nat) (Cur.mk l a s).offs.fst))).fst.h.length,
  V.ref (3 : Nat) (0 : Nat)
  (playO (IntKind.i64.wrap ((1 : Int) + (Cur.mk l a s).offs.snd.pickV (5 : Int)))
  (IntKind.i64.wrap ((1 : Int) + ((Cur.mk l a s).offs.snd.pickC (5 : Int)).pickV (3 : Int)))
  (List.take (Cur.mk l a s).offs.fst.length
  (List.drop (0 : Nat) (Cur.mk l a s).offs.fst))).fst.d.length],
  [some
  (Blk.box
  [V.sl (Cd.int IntKind.u8)
  ((((Cur.mk l a s).offs.snd.pickC (5 : Int)).pickC (3 : Int)).pickC (30 : Int)).l,
  V.i IntKind.i64
  ((((Cur.mk l a s).offs.snd.pickC (5 : Int)).pickC (3 : Int)).pickC (30 : Int)).a,
  V.i IntKind.u64
  ((((Cur.mk l a s).offs.snd.pickC (5 : Int)).pickC (3 : Int)).pickC (30 : Int)).s]),
  some
  (Blk.row false none (Cd.int IntKind.i64)
  (playO (IntKind.i64.wrap ((1 : Int) + (Cur.mk l a s).offs.snd.pickV (5 : Int)))
  (IntKind.i64.wrap ((1 : Int) + ((Cur.mk l a s).offs.snd.pickC (5 : Int)).pickV (3 : Int)))
  (List.take (Cur.mk l a s).offs.fst.length
  (List.drop (0 : Nat) (Cur.mk l a s).offs.fst))).fst.w),
  some
  (Blk.row false none (Cd.int IntKind.i64)
  (playO (IntKind.i64.wrap ((1 : Int) + (Cur.mk l a s).offs.snd.pickV (5 : Int)))
  (IntKind.i64.wrap ((1 : Int) + ((Cur.mk l a s).offs.snd.pickC (5 : Int)).pickV (3 : Int)))
  (List.take (Cur.mk l a s).offs.fst.length
  (List.drop (0 : Nat) (Cur.mk l a s).offs.fst))).fst.h),
  some
  (Blk.row false none (Cd.int IntKind.i64)
  (playO (IntKind.i64.wrap ((1 : Int) + (Cur.mk l a s).offs.snd.pickV (5 : Int)))
  (IntKind.i64.wrap ((1 : Int) + ((Cur.mk l a s).offs.snd.pickC (5 : Int)).pickV (3 : Int)))
  (List.take (Cur.mk l a s).offs.fst.length
  (List.drop (0 : Nat) (Cur.mk l a s).offs.fst))).fst.d)]))
  (ifB ((((Cur.mk l a s).offs.snd.pickC (5 : Int)).pickC (3 : Int)).pickV (30 : Int) == (1 : Int))
  (ifT
  (decide
  (((((Cur.mk l a s).offs.snd.pickC (5 : Int)).pickC (3 : Int)).pickC (30 : Int)).good
  (900000000 : Int)))
  (ifT
  (decide
  (((playO (IntKind.i64.wrap ((1 : Int) + (Cur.mk l a s).offs.snd.pickV (5 : Int)))
  (IntKind.i64.wrap
  ((1 : Int) + ((Cur.mk l a s).offs.snd.pickC (5 : Int)).pickV (3 : Int)))
  (List.take (Cur.mk l a s).offs.fst.length
  (List.drop (0 : Nat) (Cur.mk l a s).offs.fst))).fst.w.length +
  (1 : Nat)) *
  (8 : Nat) ≤
  (140737488355328 : Nat)) &&
  decide
  ((playO (IntKind.i64.wrap ((1 : Int) + (Cur.mk l a s).offs.snd.pickV (5 : Int)))
  (IntKind.i64.wrap
  ((1 : Int) + ((Cur.mk l a s).offs.snd.pickC (5 : Int)).pickV (3 : Int)))
  (List.take (Cur.mk l a s).offs.fst.length
  (List.drop (0 : Nat) (Cur.mk l a s).offs.fst))).fst.w.length +
  (1 : Nat) ≤
  maxI))
  (some
  (V.agg
  [V.i IntKind.i64
  (playO (IntKind.i64.wrap ((1 : Int) + (Cur.mk l a s).offs.snd.pickV (5 : Int)))
  (IntKind.i64.wrap
  ((1 : Int) + ((Cur.mk l a s).offs.snd.pickC (5 : Int)).pickV (3 : Int)))
  (List.take (Cur.mk l a s).offs.fst.length
  (List.drop (0 : Nat) (Cur.mk l a s).offs.fst))).fst.c,
  V.i IntKind.i64
  (playO (IntKind.i64.wrap ((1 : Int) + (Cur.mk l a s).offs.snd.pickV (5 : Int)))
  (IntKind.i64.wrap
  ((1 : Int) + ((Cur.mk l a s).offs.snd.pickC (5 : Int)).pickV (3 : Int)))
  (List.take (Cur.mk l a s).offs.fst.length
  (List.drop (0 : Nat) (Cur.mk l a s).offs.fst))).fst.r,
  V.i IntKind.i64
  (playO (IntKind.i64.wrap ((1 : Int) + (Cur.mk l a s).offs.snd.pickV (5 : Int)))
  (IntKind.i64.wrap
  ((1 : Int) + ((Cur.mk l a s).offs.snd.pickC (5 : Int)).pickV (3 : Int)))
  (List.take (Cur.mk l a s).offs.fst.length
  (List.drop (0 : Nat) (Cur.mk l a s).offs.fst))).fst.n,
  V.ref (1 : Nat) (0 : Nat)
  ((playO (IntKind.i64.wrap ((1 : Int) + (Cur.mk l a s).offs.snd.pickV (5 : Int)))
  (IntKind.i64.wrap
  ((1 : Int) + ((Cur.mk l a s).offs.snd.pickC (5 : Int)).pickV (3 : Int)))
  (List.take (Cur.mk l a s).offs.fst.length
  (List.drop (0 : Nat) (Cur.mk l a s).offs.fst))).fst.w.length +
  (1 : Nat)),
  V.ref (2 : Nat) (0 : Nat)
  (playO (IntKind.i64.wrap ((1 : Int) + (Cur.mk l a s).offs.snd.pickV (5 : Int)))
  (IntKind.i64.wrap
  ((1 : Int) + ((Cur.mk l a s).offs.snd.pickC (5 : Int)).pickV (3 : Int)))
  (List.take (Cur.mk l a s).offs.fst.length
  (List.drop (0 : Nat) (Cur.mk l a s).offs.fst))).fst.h.length,
  V.ref (3 : Nat) (0 : Nat)
  (playO (IntKind.i64.wrap ((1 : Int) + (Cur.mk l a s).offs.snd.pickV (5 : Int)))
  (IntKind.i64.wrap
  ((1 : Int) + ((Cur.mk l a s).offs.snd.pickC (5 : Int)).pickV (3 : Int)))
  (List.take (Cur.mk l a s).offs.fst.length
  (List.drop (0 : Nat) (Cur.mk l a s).offs.fst))).fst.d.length],
  [some
  (Blk.box
  [V.sl (Cd.int IntKind.u8)
  (((((Cur.mk l a s).offs.snd.pickC (5 : Int)).pickC (3 : Int)).pickC (30 : Int)).pickC
  (9 : Int)).l,
  V.i IntKind.i64
  (((((Cur.mk l a s).offs.snd.pickC (5 : Int)).pickC (3 : Int)).pickC (30 : Int)).pickC
  (9 : Int)).a,
  V.i IntKind.u64
  (((((Cur.mk l a s).offs.snd.pickC (5 : Int)).pickC (3 : Int)).pickC (30 : Int)).pickC
  (9 : Int)).s]),
  some
  (Blk.row false none (Cd.int IntKind.i64)
  (List.take
  (playO (IntKind.i64.wrap ((1 : Int) + (Cur.mk l a s).offs.snd.pickV (5 : Int)))
  (IntKind.i64.wrap
  ((1 : Int) + ((Cur.mk l a s).offs.snd.pickC (5 : Int)).pickV (3 : Int)))
  (List.take (Cur.mk l a s).offs.fst.length
  (List.drop (0 : Nat) (Cur.mk l a s).offs.fst))).fst.w.length
  (List.drop (0 : Nat)
  (playO (IntKind.i64.wrap ((1 : Int) + (Cur.mk l a s).offs.snd.pickV (5 : Int)))
  (IntKind.i64.wrap
  ((1 : Int) + ((Cur.mk l a s).offs.snd.pickC (5 : Int)).pickV (3 : Int)))
  (List.take (Cur.mk l a s).offs.fst.length
  (List.drop (0 : Nat) (Cur.mk l a s).offs.fst))).fst.w) ++
  ((((Cur.mk l a s).offs.snd.pickC (5 : Int)).pickC (3 : Int)).pickC (30 : Int)).pickV
  (9 : Int) ::
  nilT (Cd.int IntKind.i64).den)),
  some
  (Blk.row false none (Cd.int IntKind.i64)
  (playO (IntKind.i64.wrap ((1 : Int) + (Cur.mk l a s).offs.snd.pickV (5 : Int)))
  (IntKind.i64.wrap
  ((1 : Int) + ((Cur.mk l a s).offs.snd.pickC (5 : Int)).pickV (3 : Int)))
  (List.take (Cur.mk l a s).offs.fst.length
  (List.drop (0 : Nat) (Cur.mk l a s).offs.fst))).fst.h),
  some
  (Blk.row false none (Cd.int IntKind.i64)
  (playO (IntKind.i64.wrap ((1 : Int) + (Cur.mk l a s).offs.snd.pickV (5 : Int)))
  (IntKind.i64.wrap
  ((1 : Int) + ((Cur.mk l a s).offs.snd.pickC (5 : Int)).pickV (3 : Int)))
  (List.take (Cur.mk l a s).offs.fst.length
  (List.drop (0 : Nat) (Cur.mk l a s).offs.fst))).fst.d)]))))
  (ifB ((((Cur.mk l a s).offs.snd.pickC (5 : Int)).pickC (3 : Int)).pickV (30 : Int) == (2 : Int))
  (ifT
  (decide
  (((((Cur.mk l a s).offs.snd.pickC (5 : Int)).pickC (3 : Int)).pickC (30 : Int)).good
  (900000000 : Int) ∧
  (1 : Nat) ≤ (3 : Nat) ∧ (3 : Nat) ≤ (3 : Nat)))
  (some
  (V.agg
  [V.i IntKind.i64
  (((0 : Int) :: (10 : Int) :: (11 : Int) :: nilT (Cd.int IntKind.i64).den).getD
  ((0 : Nat) +
  (((((Cur.mk l a s).offs.snd.pickC (5 : Int)).pickC (3 : Int)).pickC (30 : Int)).pickV
  (↑(3 : Nat) : Int)).toNat)
  (0 : (Cd.int IntKind.i64).den)),
  V.i IntKind.i64
  (playO (IntKind.i64.wrap ((1 : Int) + (Cur.mk l a s).offs.snd.pickV (5 : Int)))
  (IntKind.i64.wrap
  ((1 : Int) + ((Cur.mk l a s).offs.snd.pickC (5 : Int)).pickV (3 : Int)))
  (List.take (Cur.mk l a s).offs.fst.length
  (List.drop (0 : Nat) (Cur.mk l a s).offs.fst))).fst.r,
  V.i IntKind.i64
  (playO (IntKind.i64.wrap ((1 : Int) + (Cur.mk l a s).offs.snd.pickV (5 : Int)))
  (IntKind.i64.wrap
  ((1 : Int) + ((Cur.mk l a s).offs.snd.pickC (5 : Int)).pickV (3 : Int)))
  (List.take (Cur.mk l a s).offs.fst.length
  (List.drop (0 : Nat) (Cur.mk l a s).offs.fst))).fst.n,
  V.ref (1 : Nat) (0 : Nat)
  (playO (IntKind.i64.wrap ((1 : Int) + (Cur.mk l a s).offs.snd.pickV (5 : Int)))
  (IntKind.i64.wrap
  ((1 : Int) + ((Cur.mk l a s).offs.snd.pickC (5 : Int)).pickV (3 : Int)))
  (List.take (Cur.mk l a s).offs.fst.length
  (List.drop (0 : Nat) (Cur.mk l a s).offs.fst))).fst.w.length,
  V.ref (2 : Nat) (0 : Nat)
  (playO (IntKind.i64.wrap ((1 : Int) + (Cur.mk l a s).offs.snd.pickV (5 : Int)))
  (IntKind.i64.wrap
  ((1 : Int) + ((Cur.mk l a s).offs.snd.pickC (5 : Int)).pickV (3 : Int)))
  (List.take (Cur.mk l a s).offs.fst.length
  (List.drop (0 : Nat) (Cur.mk l a s).offs.fst))).fst.h.length,
  V.ref (3 : Nat) (0 : Nat)
  (playO (IntKind.i64.wrap ((1 : Int) + (Cur.mk l a s).offs.snd.pickV (5 : Int)))
  (IntKind.i64.wrap
  ((1 : Int) + ((Cur.mk l a s).offs.snd.pickC (5 : Int)).pickV (3 : Int)))
  (List.take (Cur.mk l a s).offs.fst.length
  (List.drop (0 : Nat) (Cur.mk l a s).offs.fst))).fst.d.length],
  [some
  (Blk.box
  [V.sl (Cd.int IntKind.u8)
  (((((Cur.mk l a s).offs.snd.pickC (5 : Int)).pickC (3 : Int)).pickC (30 : Int)).pickC
  (↑(3 : Nat) : Int)).l,
  V.i IntKind.i64
  (((((Cur.mk l a s).offs.snd.pickC (5 : Int)).pickC (3 : Int)).pickC (30 : Int)).pickC
  (↑(3 : Nat) : Int)).a,
  V.i IntKind.u64
  (((((Cur.mk l a s).offs.snd.pickC (5 : Int)).pickC (3 : Int)).pickC (30 : Int)).pickC
  (↑(3 : Nat) : Int)).s]),
  some
  (Blk.row false none (Cd.int IntKind.i64)
  (playO (IntKind.i64.wrap ((1 : Int) + (Cur.mk l a s).offs.snd.pickV (5 : Int)))
  (IntKind.i64.wrap
  ((1 : Int) + ((Cur.mk l a s).offs.snd.pickC (5 : Int)).pickV (3 : Int)))
  (List.take (Cur.mk l a s).offs.fst.length
  (List.drop (0 : Nat) (Cur.mk l a s).offs.fst))).fst.w),
  some
  (Blk.row false none (Cd.int IntKind.i64)
  (playO (IntKind.i64.wrap ((1 : Int) + (Cur.mk l a s).offs.snd.pickV (5 : Int)))
  (IntKind.i64.wrap
  ((1 : Int) + ((Cur.mk l a s).offs.snd.pickC (5 : Int)).pickV (3 : Int)))
  (List.take (Cur.mk l a s).offs.fst.length
  (List.drop (0 : Nat) (Cur.mk l a s).offs.fst))).fst.h),
  some
  (Blk.row false none (Cd.int IntKind.i64)
  (playO (IntKind.i64.wrap ((1 : Int) + (Cur.mk l a s).offs.snd.pickV (5 : Int)))
  (IntKind.i64.wrap
  ((1 : Int) + ((Cur.mk l a s).offs.snd.pickC (5 : Int)).pickV (3 : Int)))
  (List.take (Cur.mk l a s).offs.fst.length
  (List.drop (0 : Nat) (Cur.mk l a s).offs.fst))).fst.d)])))
  (some
  (V.agg
  [V.i IntKind.i64
  (playO (IntKind.i64.wrap ((1 : Int) + (Cur.mk l a s).offs.snd.pickV (5 : Int)))
  (IntKind.i64.wrap
  ((1 : Int) + ((Cur.mk l a s).offs.snd.pickC (5 : Int)).pickV (3 : Int)))
  (List.take (Cur.mk l a s).offs.fst.length
  (List.drop (0 : Nat) (Cur.mk l a s).offs.fst))).fst.c,
  V.i IntKind.i64
  (playO (IntKind.i64.wrap ((1 : Int) + (Cur.mk l a s).offs.snd.pickV (5 : Int)))
  (IntKind.i64.wrap
  ((1 : Int) + ((Cur.mk l a s).offs.snd.pickC (5 : Int)).pickV (3 : Int)))
  (List.take (Cur.mk l a s).offs.fst.length
  (List.drop (0 : Nat) (Cur.mk l a s).offs.fst))).fst.r,
  V.i IntKind.i64
  (playO (IntKind.i64.wrap ((1 : Int) + (Cur.mk l a s).offs.snd.pickV (5 : Int)))
  (IntKind.i64.wrap
  ((1 : Int) + ((Cur.mk l a s).offs.snd.pickC (5 : Int)).pickV (3 : Int)))
  (List.take (Cur.mk l a s).offs.fst.length
  (List.drop (0 : Nat) (Cur.mk l a s).offs.fst))).fst.n,
  V.ref (1 : Nat) (0 : Nat)
  (playO (IntKind.i64.wrap ((1 : Int) + (Cur.mk l a s).offs.snd.pickV (5 : Int)))
  (IntKind.i64.wrap
  ((1 : Int) + ((Cur.mk l a s).offs.snd.pickC (5 : Int)).pickV (3 : Int)))
  (List.take (Cur.mk l a s).offs.fst.length
  (List.drop (0 : Nat) (Cur.mk l a s).offs.fst))).fst.w.length,
  V.ref (2 : Nat) (0 : Nat)
  (playO (IntKind.i64.wrap ((1 : Int) + (Cur.mk l a s).offs.snd.pickV (5 : Int)))
  (IntKind.i64.wrap
  ((1 : Int) + ((Cur.mk l a s).offs.snd.pickC (5 : Int)).pickV (3 : Int)))
  (List.take (Cur.mk l a s).offs.fst.length
  (List.drop (0 : Nat) (Cur.mk l a s).offs.fst))).fst.h.length,
  V.ref (3 : Nat) (0 : Nat)
  (playO (IntKind.i64.wrap ((1 : Int) + (Cur.mk l a s).offs.snd.pickV (5 : Int)))
  (IntKind.i64.wrap
  ((1 : Int) + ((Cur.mk l a s).offs.snd.pickC (5 : Int)).pickV (3 : Int)))
  (List.take (Cur.mk l a s).offs.fst.length
  (List.drop (0 : Nat) (Cur.mk l a s).offs.fst))).fst.d.length],
  [some
  (Blk.box
  [V.sl (Cd.int IntKind.u8)
  ((((Cur.mk l a s).offs.snd.pickC (5 : Int)).pickC (3 : Int)).pickC (30 : Int)).l,
  V.i IntKind.i64
  ((((Cur.mk l a s).offs.snd.pickC (5 : Int)).pickC (3 : Int)).pickC (30 : Int)).a,
  V.i IntKind.u64
  ((((Cur.mk l a s).offs.snd.pickC (5 : Int)).pickC (3 : Int)).pickC (30 : Int)).s]),
  some
  (Blk.row false none (Cd.int IntKind.i64)
  (playO (IntKind.i64.wrap ((1 : Int) + (Cur.mk l a s).offs.snd.pickV (5 : Int)))
  (IntKind.i64.wrap
  ((1 : Int) + ((Cur.mk l a s).offs.snd.pickC (5 : Int)).pickV (3 : Int)))
  (List.take (Cur.mk l a s).offs.fst.length
  (List.drop (0 : Nat) (Cur.mk l a s).offs.fst))).fst.w),
  some
  (Blk.row false none (Cd.int IntKind.i64)
  (playO (IntKind.i64.wrap ((1 : Int) + (Cur.mk l a s).offs.snd.pickV (5 : Int)))
  (IntKind.i64.wrap
  ((1 : Int) + ((Cur.mk l a s).offs.snd.pickC (5 : Int)).pickV (3 : Int)))
  (List.take (Cur.mk l a s).offs.fst.length
  (List.drop (0 : Nat) (Cur.mk l a s).offs.fst))).fst.h),
  some
  (Blk.row false none (Cd.int IntKind.i64)
  (playO (IntKind.i64.wrap ((1 : Int) + (Cur.mk l a s).offs.snd.pickV (5 : Int)))
  (IntKind.i64.wrap
  ((1 : Int) + ((Cur.mk l a s).offs.snd.pickC (5 : Int)).pickV (3 : Int)))
  (List.take (Cur.mk l a s).offs.fst.length
  (List.drop (0 : Nat) (Cur.mk l a s).offs.fst))).fst.d)])))))))))) : _) := by kernel_rfl
  rw [e]
  clear e
  have hM : maxI = 9223372036854775807 := rfl
  have f := Cur.queP_fine hc
  have f1 := f.c; have f3 := f.n; have f4 := f.wc; have f5 := f.sum
  have g1 := Cur.offs_good hc
  have g2 : (Cur.mk l a s).offs.2.good 900000000 := Cur.good_mono g1 (by omega)
  have g3 : ((Cur.mk l a s).offs.2.pickC 5).good 900000000 := by (repeat with_reducible apply Cur.pick_le); exact Cur.good_mono g1 (by omega)
  have g4 : (((Cur.mk l a s).offs.2.pickC 5).pickC 3).good 900000000 := by (repeat with_reducible apply Cur.pick_le); exact Cur.good_mono g1 (by omega)
  have g5 : ((((Cur.mk l a s).offs.2.pickC 5).pickC 3).pickC 30).good 900000000 := by (repeat with_reducible apply Cur.pick_le); exact Cur.good_mono g1 (by omega)
  have r1 := Cur.pickV_range (k := 5) g1 (by omega)
  have r2 := Cur.pickV_range (k := 3) g3 (by omega)
  have w1 : IntKind.i64.wrap (1 + (Cur.mk l a s).offs.2.pickV 5) = 1 + (Cur.mk l a s).offs.2.pickV 5 := wrap_id (by omega) (by omega)
  have w2 : IntKind.i64.wrap (1 + ((Cur.mk l a s).offs.2.pickC 5).pickV 3) = 1 + ((Cur.mk l a s).offs.2.pickC 5).pickV 3 := wrap_id (by omega) (by omega)
  rw [ifT_true (decide_eq_true (Cur.good_mono hc (by omega)))]
  simp only [w1, w2, List.drop_zero]
  by_cases q : (↑(Cur.mk l a s).offs.1.length : Int) > 200
  · rw [ifB_true (decide_eq_true q), ifT_true (by simp only [Bool.and_eq_true, decide_eq_true_eq]; omega)]
    have hk : True = True := rfl
    rw [ifT_true (decide_eq_true g2), ifT_true (decide_eq_true g3), ifT_true (decide_eq_true g4)]
    have hq : (playO (1 + (Cur.mk l a s).offs.2.pickV 5) (1 + ((Cur.mk l a s).offs.2.pickC 5).pickV 3) ((Cur.mk l a s).offs.1.take 200)).1 = (Cur.mk l a s).queP := rfl
    simp only [hq]
    unfold Cur.que
    by_cases q0 : (((Cur.mk l a s).offs.2.pickC 5).pickC 3).pickV 30 = 0
    · rw [ifB_true (by rw [q0]; rfl), if_pos q0, wrap_id (by omega) (by omega)]
      rfl
    rw [ifB_false (by simpa using q0), if_neg q0]
    by_cases q1 : (((Cur.mk l a s).offs.2.pickC 5).pickC 3).pickV 30 = 1
    · rw [ifB_true (by rw [q1]; rfl), if_pos q1, ifT_true (decide_eq_true g5), ifT_true (by simp only [Bool.and_eq_true, decide_eq_true_eq]; omega)]
      simp only [List.drop_zero, List.take_length, nilT_eq, Br.run, List.length_append, List.length_cons, List.length_nil]
      rfl
    rw [ifB_false (by simpa using q1), if_neg q1]
    by_cases q2 : (((Cur.mk l a s).offs.2.pickC 5).pickC 3).pickV 30 = 2
    · rw [ifB_true (by rw [q2]; rfl), if_pos q2, ifT_true (decide_eq_true ⟨g5, by omega, by omega⟩)]
      simp only [Nat.zero_add]
      rfl
    · rw [ifB_false (by simpa using q2), if_neg q2]
      rfl
  · rw [ifB_false (decide_eq_false q)]
    have hk : List.take (Cur.mk l a s).offs.1.length (Cur.mk l a s).offs.1 = List.take 200 (Cur.mk l a s).offs.1 := by rw [List.take_length, List.take_of_length_le (by omega)]
    simp only [hk]
    clear hk
    have hk : True = True := rfl
    rw [ifT_true (decide_eq_true g2), ifT_true (decide_eq_true g3), ifT_true (decide_eq_true g4)]
    have hq : (playO (1 + (Cur.mk l a s).offs.2.pickV 5) (1 + ((Cur.mk l a s).offs.2.pickC 5).pickV 3) ((Cur.mk l a s).offs.1.take 200)).1 = (Cur.mk l a s).queP := rfl
    simp only [hq]
    unfold Cur.que
    by_cases q0 : (((Cur.mk l a s).offs.2.pickC 5).pickC 3).pickV 30 = 0
    · rw [ifB_true (by rw [q0]; rfl), if_pos q0, wrap_id (by omega) (by omega)]
      rfl
    rw [ifB_false (by simpa using q0), if_neg q0]
    by_cases q1 : (((Cur.mk l a s).offs.2.pickC 5).pickC 3).pickV 30 = 1
    · rw [ifB_true (by rw [q1]; rfl), if_pos q1, ifT_true (decide_eq_true g5), ifT_true (by simp only [Bool.and_eq_true, decide_eq_true_eq]; omega)]
      simp only [List.drop_zero, List.take_length, nilT_eq, Br.run, List.length_append, List.length_cons, List.length_nil]
      rfl
    rw [ifB_false (by simpa using q1), if_neg q1]
    by_cases q2 : (((Cur.mk l a s).offs.2.pickC 5).pickC 3).pickV 30 = 2
    · rw [ifB_true (by rw [q2]; rfl), if_pos q2, ifT_true (decide_eq_true ⟨g5, by omega, by omega⟩)]
      simp only [Nat.zero_add]
      rfl
    · rw [ifB_false (by simpa using q2), if_neg q2]
      rfl
theorem cque : Contract Try.prog 122 (Ent.own cqueG).F := by
  refine fun_contractN' (KnowsL.cons (enters_fn Try.func105 (by kernel_rfl) (by kernel_rfl)) coffs (KnowsL.cons (enters_fn Try.func104 (by kernel_rfl) (by kernel_rfl)) cpick (KnowsL.cons (enters_fn Try.func103 (by kernel_rfl) (by kernel_rfl)) camong (KnowsL.cons (enters_fn Try.func34 (by kernel_rfl) (by kernel_rfl)) splay KnowsL.nil)))).knows (Λ := look []) Try.func122 (c := Try.f122.body.getD .skip) (by kernel_rfl) fun vs bs r h hv hb => ?_
  unfold Ent.F cqueG at h
  dsimp only at h
  split at h
  · rename_i l a s
    obtain ⟨hc, h⟩ := need_some h
    exact ⟨loopsOk_nil _, (cque_fun l a s (of_decide_eq_true hc)).trans h⟩
  · cases h
theorem dplayq_fun (l : List Int) (hc : (Cur.mk l 0 0).good 0) : funN Try.prog (look [(105, .own coffsG), (104, .own cpickG), (103, .own camongG)]) (look []) Try.f32 [.sl (.int .u8) l] [] = (.leaf (.tup [.i .i64 (dqC l), .i .i64 (dqR l), .ref 0 0 (dqL l).length], [some (.row false none .bool (dqL l))]) : Br (V × List (Option Blk))).run := by
  have e : funN Try.prog (look [(105, .own coffsG), (104, .own cpickG), (103, .own camongG)]) (look []) Try.f32 [.sl (.int .u8) l] [] = ((ifT (decide ((Cur.mk l (0 : Int) (0 : Int)).good (900000000 : Int) ∧ (1 : Nat) ≤ (6 : Nat) ∧ (6 : Nat) ≤ (6 : Nat)))
  (ifT (decide (((Cur.mk l (0 : Int) (0 : Int)).pickC (↑(6 : Nat) : Int)).good (900000000 : Int)))
  (ifT (decide ((((Cur.mk l (0 : Int) (0 : Int)).pickC (↑(6 : Nat) : Int)).pickC (3 : Int)).good (700000000 : Int)))
  (some
  (V.tup
  [V.i IntKind.i64
  (((0 : Int) ::
  (1 : Int) ::
  (2 : Int) :: (4 : Int) :: (10 : Int) :: (11 : Int) :: nilT (Cd.int IntKind.i64).den).getD
  ((0 : Nat) + ((Cur.mk l (0 : Int) (0 : Int)).pickV (↑(6 : Nat) : Int)).toNat)
  (0 : (Cd.int IntKind.i64).den)),
  V.i IntKind.i64
  (IntKind.i64.wrap
  ((1 : Int) + ((Cur.mk l (0 : Int) (0 : Int)).pickC (↑(6 : Nat) : Int)).pickV (3 : Int))),
  V.ref (0 : Nat) (0 : Nat)
  (((Cur.mk l (0 : Int) (0 : Int)).pickC (↑(6 : Nat) : Int)).pickC (3 : Int)).offs.fst.length],
  [some
  (Blk.row false none Cd.bool
  (((Cur.mk l (0 : Int) (0 : Int)).pickC (↑(6 : Nat) : Int)).pickC (3 : Int)).offs.fst)]))))) : _) := by kernel_rfl
  rw [e]
  clear e
  have g1 : ((Cur.mk l 0 0).pickC ((6 : Nat) : Int)).good 700000000 := by (repeat with_reducible apply Cur.pick_le); exact Cur.good_mono hc (by omega)
  have g2 : (((Cur.mk l 0 0).pickC ((6 : Nat) : Int)).pickC 3).good 700000000 := by (repeat with_reducible apply Cur.pick_le); exact Cur.good_mono hc (by omega)
  have r2 := Cur.pickV_range (k := 3) g1 (by omega)
  rw [ifT_true (decide_eq_true ⟨Cur.good_mono hc (by omega), by omega, by omega⟩), ifT_true (decide_eq_true (Cur.good_mono g1 (by omega))), ifT_true (decide_eq_true g2), wrap_id (by omega) (by omega)]
  simp only [Nat.zero_add]
  rfl
theorem dplayq : Contract Try.prog 32 (Ent.rd1 dplayqG).F := by
  refine fun_contractN' (KnowsL.cons (enters_fn Try.func105 (by kernel_rfl) (by kernel_rfl)) coffs (KnowsL.cons (enters_fn Try.func104 (by kernel_rfl) (by kernel_rfl)) cpick (KnowsL.cons (enters_fn Try.func103 (by kernel_rfl) (by kernel_rfl)) camong KnowsL.nil))).knows (Λ := look []) Try.func32 (c := Try.f32.body.getD .skip) (by kernel_rfl) fun vs bs r h hv hb => ?_
  unfold Ent.F dplayqG at h
  dsimp only at h
  split at h
  · rename_i l
    obtain ⟨hc, h⟩ := need_some h
    exact ⟨loopsOk_nil _, (dplayq_fun l (of_decide_eq_true hc)).trans h⟩
  · cases h
end Go.Proofs.Ytjghbihlgfjebaa.Den
