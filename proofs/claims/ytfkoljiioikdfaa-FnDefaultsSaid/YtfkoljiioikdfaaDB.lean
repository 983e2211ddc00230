/- What functions of the program do, by the machine: Dr1 Dr2 Val1 Val2 Val3 Val4 Val5 Val6 Val7 Val8 Val9 Val10 Val11 Val12. -/
import Derived.Test.YtfkoljiioikdfaaDA
import Derived.KernelRfl
import Derived.Test.YtfkoljiioikdfaaRows
namespace Go.Proofs.Ytfkoljiioikdfaa.Den
open Go.Proofs
set_option maxRecDepth 100000
/-- What a drawn tree keeps. -/
def drT (n : Nat) (z : Rose Lab) : Prop := cntR z ≤ n ∧ namR z = true
def dtyG (d m : Int) (f : Cur → Rose Lab × Cur) : List V → List Blk → Br (V × List (Option Blk))
  | [.ptr 0 0, .i .i64 x], [.box [.sl (.int .u8) l, .i .i64 a, .i .u64 s]] => .need (decide (x = d ∧ 0 ≤ d ∧ (Cur.mk l a s).good m)) (.leaf (.agg [.i .i64 (f (Cur.mk l a s)).1.lab.1, .s (f (Cur.mk l a s)).1.lab.2.1, .i .i64 (f (Cur.mk l a s)).1.lab.2.2.1, .b (f (Cur.mk l a s)).1.lab.2.2.2.1, .i .i64 (f (Cur.mk l a s)).1.lab.2.2.2.2.1, .ref 1 0 (f (Cur.mk l a s)).1.kids.length], [some (cB (f (Cur.mk l a s)).2), some (.row false none (.rose (.pair (.int .i64) (.pair .str (.pair (.int .i64) (.pair .bool (.pair (.int .i64) .unit)))))) (f (Cur.mk l a s)).1.kids)]))
  | _, _ => .no
def dmsgG (d m : Int) (f : Cur → Rose Lab × Cur) : List V → List Blk → Br (V × List (Option Blk))
  | [.ptr 0 0, .i .i64 x], [.box [.sl (.int .u8) l, .i .i64 a, .i .u64 s]] => .need (decide (x = d ∧ 0 ≤ d ∧ (Cur.mk l a s).good m)) (.leaf (.agg [.i .i64 (f (Cur.mk l a s)).1.lab.1, .s (f (Cur.mk l a s)).1.lab.2.1, .i .i64 (f (Cur.mk l a s)).1.lab.2.2.1, .b (f (Cur.mk l a s)).1.lab.2.2.2.1, .i .i64 (f (Cur.mk l a s)).1.lab.2.2.2.2.1, .ref 1 0 (f (Cur.mk l a s)).1.kids.length], [some (cB (f (Cur.mk l a s)).2), some (.row false none (.rose (.pair (.int .i64) (.pair .str (.pair (.int .i64) (.pair .bool (.pair (.int .i64) .unit)))))) (f (Cur.mk l a s)).1.kids)]))
  | _, _ => .no
def dmsgE (e m q : Int) (o : Cur × List (Rose Lab) × Nat × List (List UInt8) → List (Rose Lab) × Cur) : LoopEnt := ⟨39, [0,1,4,5,10,11,12], [4,5], [], fun
  | ([.ptr 0 0, .i .i64 d, .ptr 1 0, .ptr 2 0, .ref 3 0 5, .i .i64 k, .i .i64 i], [some (.box [.sl (.int .u8) l, .i .i64 a, .i .u64 s]), some (.box [.i .i64 0, .s [], .i .i64 0, .b false, .i .i64 0, .ref 4 0 0]), some (.box [.i .i64 5, .s [], .i .i64 0, .b false, .i .i64 0, .ref 5 0 n]), some (.row false none .str nm), some (.row false none (.rose (.pair (.int .i64) (.pair .str (.pair (.int .i64) (.pair .bool (.pair (.int .i64) .unit)))))) []), some (.row false none (.rose (.pair (.int .i64) (.pair .str (.pair (.int .i64) (.pair .bool (.pair (.int .i64) .unit)))))) ks)]) => .need (decide (d = e ∧ k = 5 ∧ 0 ≤ i ∧ i ≤ 5 ∧ n = ks.length ∧ ks.length ≤ i.toNat ∧ nm.length = 5 ∧ (Cur.mk l a s).good (m + i * q)) && nm.all (fun x => decide (x.length ≤ 10))) (.leaf (.exit 0, ([.ptr 1 0, .ptr 2 0], [some (cB (o (Cur.mk l a s, ks, i.toNat, nm)).2), some (.box [.i .i64 0, .s [], .i .i64 0, .b false, .i .i64 0, .ref 3 0 0]), some (.box [.i .i64 5, .s [], .i .i64 0, .b false, .i .i64 0, .ref 4 0 (o (Cur.mk l a s, ks, i.toNat, nm)).1.length]), some (.row false none (.rose (.pair (.int .i64) (.pair .str (.pair (.int .i64) (.pair .bool (.pair (.int .i64) .unit)))))) []), some (.row false none (.rose (.pair (.int .i64) (.pair .str (.pair (.int .i64) (.pair .bool (.pair (.int .i64) .unit)))))) (o (Cur.mk l a s, ks, i.toNat, nm)).1)])))
  | _ => .no⟩
theorem dmsg_round (d m m' q : Int) (f : Cur → Rose Lab × Cur) (o : Cur × List (Rose Lab) × Nat × List (List UInt8) → List (Rose Lab) × Cur) (k i : Int) (l : List Int) (a s : Int) (n : Nat) (nm : List (List UInt8)) (ks : List (Rose Lab)) : roundK Try.prog (look [(85, .own coneG), (195, .own (dtyG d m' f))]) (look [(3, dmsgE d m q o)]) 1 (body Try.f161 0) (dmsgE d m q o) ([.ptr 0 0, .i .i64 d, .ptr 1 0, .ptr 2 0, .ref 3 0 5, .i .i64 k, .i .i64 i], [some (.box [.sl (.int .u8) l, .i .i64 a, .i .u64 s]), some (.box [.i .i64 0, .s [], .i .i64 0, .b false, .i .i64 0, .ref 4 0 0]), some (.box [.i .i64 5, .s [], .i .i64 0, .b false, .i .i64 0, .ref 5 0 n]), some (.row false none .str nm), some (.row false none (.rose LCd) []), some (.row false none (.rose LCd) ks)]) =
  ((ifB (decide (i < k)) (ifT (decide ((0 : Int) ≤ i) && decide (i < (↑(5 : Nat) : Int))) (ifSome nm[(0 : Nat) + i.toNat]? fun z => ifT (decide ((Cur.mk l a s).good (900000000
 : Int))) (ifB (!(Cur.mk l a s).pickV (2 : Int) == (0 : Int)) (some (Ex.normal, [V.ptr 0 0, V.i .i64 d, V.ptr 1 0, V.ptr 2 0, V.ref 3 0 5, V.i .i64 k, V.i .i64
 (IntKind.i64.wrap (i + (1 : Int)))], [some (Blk.box [V.sl (Cd.int .u8) ((Cur.mk l a s).pickC (2 : Int)).l, V.i .i64 ((Cur.mk l a s).pickC (2 : Int)).a, V.i .u64 ((Cur.mk
 l a s).pickC (2 : Int)).s]), some (Blk.box [V.i .i64 0, V.s (nilT UInt8), V.i .i64 0, V.b false, V.i .i64 0, V.ref 4 0 0]), some (Blk.box [V.i .i64 5, V.s (nilT UInt8),
 V.i .i64 0, V.b false, V.i .i64 0, V.ref 5 0 n]), some (Blk.row false none Cd.str nm), some (Blk.row false none LCd.rose (nilT LCd.rose.den)), some (Blk.row false none
 LCd.rose ks)])) (ifT (decide (d = d ∧ (0 : Int) ≤ d ∧ ((Cur.mk l a s).pickC (2 : Int)).good m')) (ifT (decide ((f ((Cur.mk l a s).pickC (2 : Int))).snd.good (900000000 :
 Int))) (ifT (decide ((n + (1 : Nat)) * (72 : Nat) ≤ (140737488355328 : Nat)) && decide (n + (1 : Nat) ≤ maxI)) (some (Ex.normal, [V.ptr 0 0, V.i .i64 d, V.ptr 1 0, V.ptr
 2 0, V.ref 3 0 5, V.i .i64 k, V.i .i64 (IntKind.i64.wrap (i + (1 : Int)))], [some (Blk.box [V.sl (Cd.int .u8) ((f ((Cur.mk l a s).pickC (2 : Int))).snd.pickC (3 :
 Int)).l, V.i .i64 ((f ((Cur.mk l a s).pickC (2 : Int))).snd.pickC (3 : Int)).a, V.i .u64 ((f ((Cur.mk l a s).pickC (2 : Int))).snd.pickC (3 : Int)).s]), some (Blk.box
 [V.i .i64 0, V.s (nilT UInt8), V.i .i64 0, V.b false, V.i .i64 0, V.ref 4 0 0]), some (Blk.box [V.i .i64 5, V.s (nilT UInt8), V.i .i64 0, V.b false, V.i .i64 0, V.ref 5 0
 (n + (1 : Nat))]), some (Blk.row false none Cd.str nm), some (Blk.row false none LCd.rose (nilT LCd.rose.den)), some (Blk.row false none LCd.rose (List.take n (List.drop
 (0 : Nat) ks) ++ Rose.node ((f ((Cur.mk l a s).pickC (2 : Int))).fst.lab.fst, z, IntKind.i64.wrap (i + (1 : Int)), (f ((Cur.mk l a s).pickC (2 : Int))).snd.pickV (3 :
 Int) == (0 : Int), (f ((Cur.mk l a s).pickC (2 : Int))).fst.lab.snd.snd.snd.snd.fst, ()) (List.take (f ((Cur.mk l a s).pickC (2 : Int))).fst.kids.length (List.drop (0 :
 Nat) (f ((Cur.mk l a s).pickC (2 : Int))).fst.kids)) :: nilT LCd.rose.den))])))))))) (some (Ex.exit 0, [V.ptr 1 0, V.ptr 2 0], [some (Blk.box [V.sl (Cd.int .u8) l, V.i
 .i64 a, V.i .u64 s]), some (Blk.box [V.i .i64 0, V.s (nilT UInt8), V.i .i64 0, V.b false, V.i .i64 0, V.ref 3 0 0]), some (Blk.box [V.i .i64 5, V.s (nilT UInt8), V.i .i64
 0, V.b false, V.i .i64 0, V.ref 4 0 n]), some (Blk.row false none LCd.rose (nilT LCd.rose.den)), some (Blk.row false none LCd.rose ks)]))) : _) := by kernel_rfl
theorem dty_tree (d m : Int) (f : Cur → Rose Lab × Cur) (g : Cur → Rose Lab × Cur) (l : List Int) (a s : Int) : funC Try.prog (look [(56, .own cpickG), (195, .own (dtyG (d - 1) m f)), (161, .own (dmsgG (d - 1) m g))]) (look []) Try.f195 [.ptr 0 0, .i .i64 d] [.box [.sl (.int .u8) l, .i .i64 a, .i .u64 s]] =
  ((ifT (decide ((Cur.mk l a s).good (900000000 : Int))) (ifB ((Cur.mk l a s).pickV (6 : Int) == (0 : Int)) (ifB ((Cur.mk l a s).pickV (6 : Int) == (0 : Int)) (some (V.agg
 [V.i .i64 1, V.s (nilT UInt8), V.i .i64 0, V.b false, V.i .i64 0, V.ref 1 0 0], [some (Blk.box [V.sl (Cd.int .u8) ((Cur.mk l a s).pickC (6 : Int)).l, V.i .i64 ((Cur.mk l
 a s).pickC (6 : Int)).a, V.i .u64 ((Cur.mk l a s).pickC (6 : Int)).s]), some (Blk.row false none LCd.rose (nilT LCd.rose.den))])) (ifB ((Cur.mk l a s).pickV (6 : Int) ==
 (2 : Int)) (some (V.agg [V.i .i64 2, V.s (nilT UInt8), V.i .i64 0, V.b false, V.i .i64 0, V.ref 1 0 0], [some (Blk.box [V.sl (Cd.int .u8) ((Cur.mk l a s).pickC (6 :
 Int)).l, V.i .i64 ((Cur.mk l a s).pickC (6 : Int)).a, V.i .u64 ((Cur.mk l a s).pickC (6 : Int)).s]), some (Blk.row false none LCd.rose (nilT LCd.rose.den))])) (ifB
 ((Cur.mk l a s).pickV (6 : Int) == (3 : Int)) (ifT (decide (((Cur.mk l a s).pickC (6 : Int)).good (900000000 : Int))) (some (V.agg [V.i .i64 3, V.s (nilT UInt8), V.i .i64
 0, V.b false, V.i .i64 (((Cur.mk l a s).pickC (6 : Int)).pickV (5 : Int)), V.ref 1 0 0], [some (Blk.box [V.sl (Cd.int .u8) (((Cur.mk l a s).pickC (6 : Int)).pickC (5 :
 Int)).l, V.i .i64 (((Cur.mk l a s).pickC (6 : Int)).pickC (5 : Int)).a, V.i .u64 (((Cur.mk l a s).pickC (6 : Int)).pickC (5 : Int)).s]), some (Blk.row false none LCd.rose
 (nilT LCd.rose.den))]))) (ifB ((Cur.mk l a s).pickV (6 : Int) == (4 : Int)) (ifB (decide (d > (0 : Int))) (ifT (decide (IntKind.i64.wrap (d - (1 : Int)) = d - (1 : Int) ∧
 (0 : Int) ≤ d - (1 : Int) ∧ ((Cur.mk l a s).pickC (6 : Int)).good m)) (some (V.agg [V.i .i64 4, V.s (nilT UInt8), V.i .i64 0, V.b false, V.i .i64 0, V.ref 1 0 1], [some
 (Blk.box [V.sl (Cd.int .u8) (f ((Cur.mk l a s).pickC (6 : Int))).snd.l, V.i .i64 (f ((Cur.mk l a s).pickC (6 : Int))).snd.a, V.i .u64 (f ((Cur.mk l a s).pickC (6 :
 Int))).snd.s]), some (Blk.row false none LCd.rose (Rose.node ((f ((Cur.mk l a s).pickC (6 : Int))).fst.lab.fst, (f ((Cur.mk l a s).pickC (6 : Int))).fst.lab.snd.fst, (f
 ((Cur.mk l a s).pickC (6 : Int))).fst.lab.snd.snd.fst, (f ((Cur.mk l a s).pickC (6 : Int))).fst.lab.snd.snd.snd.fst, (f ((Cur.mk l a s).pickC (6 :
 Int))).fst.lab.snd.snd.snd.snd.fst, ()) (List.take (f ((Cur.mk l a s).pickC (6 : Int))).fst.kids.length (List.drop (0 : Nat) (f ((Cur.mk l a s).pickC (6 :
 Int))).fst.kids)) :: nilT LCd.rose.den))]))) (some (V.agg [V.i .i64 1, V.s (nilT UInt8), V.i .i64 0, V.b false, V.i .i64 0, V.ref 1 0 0], [some (Blk.box [V.sl (Cd.int
 .u8) ((Cur.mk l a s).pickC (6 : Int)).l, V.i .i64 ((Cur.mk l a s).pickC (6 : Int)).a, V.i .u64 ((Cur.mk l a s).pickC (6 : Int)).s]), some (Blk.row false none LCd.rose
 (nilT LCd.rose.den))]))) (ifB (decide (d > (0 : Int))) (ifT (decide (IntKind.i64.wrap (d - (1 : Int)) = d - (1 : Int) ∧ (0 : Int) ≤ d - (1 : Int) ∧ ((Cur.mk l a s).pickC
 (6 : Int)).good m)) (some (V.agg [V.i .i64 (g ((Cur.mk l a s).pickC (6 : Int))).fst.lab.fst, V.s (g ((Cur.mk l a s).pickC (6 : Int))).fst.lab.snd.fst, V.i .i64 (g
 ((Cur.mk l a s).pickC (6 : Int))).fst.lab.snd.snd.fst, V.b (g ((Cur.mk l a s).pickC (6 : Int))).fst.lab.snd.snd.snd.fst, V.i .i64 (g ((Cur.mk l a s).pickC (6 :
 Int))).fst.lab.snd.snd.snd.snd.fst, V.ref 1 0 (g ((Cur.mk l a s).pickC (6 : Int))).fst.kids.length], [some (Blk.box [V.sl (Cd.int .u8) (g ((Cur.mk l a s).pickC (6 :
 Int))).snd.l, V.i .i64 (g ((Cur.mk l a s).pickC (6 : Int))).snd.a, V.i .u64 (g ((Cur.mk l a s).pickC (6 : Int))).snd.s]), some (Blk.row false none LCd.rose (g ((Cur.mk l
 a s).pickC (6 : Int))).fst.kids)]))) (some (V.agg [V.i .i64 1, V.s (nilT UInt8), V.i .i64 0, V.b false, V.i .i64 0, V.ref 1 0 0], [some (Blk.box [V.sl (Cd.int .u8)
 ((Cur.mk l a s).pickC (6 : Int)).l, V.i .i64 ((Cur.mk l a s).pickC (6 : Int)).a, V.i .u64 ((Cur.mk l a s).pickC (6 : Int)).s]), some (Blk.row false none LCd.rose (nilT
 LCd.rose.den))]))))))) (ifB ((Cur.mk l a s).pickV (6 : Int) == (1 : Int)) (some (V.agg [V.i .i64 1, V.s (nilT UInt8), V.i .i64 0, V.b false, V.i .i64 0, V.ref 1 0 0],
 [some (Blk.box [V.sl (Cd.int .u8) ((Cur.mk l a s).pickC (6 : Int)).l, V.i .i64 ((Cur.mk l a s).pickC (6 : Int)).a, V.i .u64 ((Cur.mk l a s).pickC (6 : Int)).s]), some
 (Blk.row false none LCd.rose (nilT LCd.rose.den))])) (ifB ((Cur.mk l a s).pickV (6 : Int) == (2 : Int)) (some (V.agg [V.i .i64 2, V.s (nilT UInt8), V.i .i64 0, V.b false,
 V.i .i64 0, V.ref 1 0 0], [some (Blk.box [V.sl (Cd.int .u8) ((Cur.mk l a s).pickC (6 : Int)).l, V.i .i64 ((Cur.mk l a s).pickC (6 : Int)).a, V.i .u64 ((Cur.mk l a
 s).pickC (6 : Int)).s]), some (Blk.row false none LCd.rose (nilT LCd.rose.den))])) (ifB ((Cur.mk l a s).pickV (6 : Int) == (3 : Int)) (ifT (decide (((Cur.mk l a s).pickC
 (6 : Int)).good (900000000 : Int))) (some (V.agg [V.i .i64 3, V.s (nilT UInt8), V.i .i64 0, V.b false, V.i .i64 (((Cur.mk l a s).pickC (6 : Int)).pickV (5 : Int)), V.ref
 1 0 0], [some (Blk.box [V.sl (Cd.int .u8) (((Cur.mk l a s).pickC (6 : Int)).pickC (5 : Int)).l, V.i .i64 (((Cur.mk l a s).pickC (6 : Int)).pickC (5 : Int)).a, V.i .u64
 (((Cur.mk l a s).pickC (6 : Int)).pickC (5 : Int)).s]), some (Blk.row false none LCd.rose (nilT LCd.rose.den))]))) (ifB ((Cur.mk l a s).pickV (6 : Int) == (4 : Int)) (ifB
 (decide (d > (0 : Int))) (ifT (decide (IntKind.i64.wrap (d - (1 : Int)) = d - (1 : Int) ∧ (0 : Int) ≤ d - (1 : Int) ∧ ((Cur.mk l a s).pickC (6 : Int)).good m)) (some
 (V.agg [V.i .i64 4, V.s (nilT UInt8), V.i .i64 0, V.b false, V.i .i64 0, V.ref 1 0 1], [some (Blk.box [V.sl (Cd.int .u8) (f ((Cur.mk l a s).pickC (6 : Int))).snd.l, V.i
 .i64 (f ((Cur.mk l a s).pickC (6 : Int))).snd.a, V.i .u64 (f ((Cur.mk l a s).pickC (6 : Int))).snd.s]), some (Blk.row false none LCd.rose (Rose.node ((f ((Cur.mk l a
 s).pickC (6 : Int))).fst.lab.fst, (f ((Cur.mk l a s).pickC (6 : Int))).fst.lab.snd.fst, (f ((Cur.mk l a s).pickC (6 : Int))).fst.lab.snd.snd.fst, (f ((Cur.mk l a s).pickC
 (6 : Int))).fst.lab.snd.snd.snd.fst, (f ((Cur.mk l a s).pickC (6 : Int))).fst.lab.snd.snd.snd.snd.fst, ()) (List.take (f ((Cur.mk l a s).pickC (6 : Int))).fst.kids.length
 (List.drop (0 : Nat) (f ((Cur.mk l a s).pickC (6 : Int))).fst.kids)) :: nilT LCd.rose.den))]))) (some (V.agg [V.i .i64 1, V.s (nilT UInt8), V.i .i64 0, V.b false, V.i
 .i64 0, V.ref 1 0 0], [some (Blk.box [V.sl (Cd.int .u8) ((Cur.mk l a s).pickC (6 : Int)).l, V.i .i64 ((Cur.mk l a s).pickC (6 : Int)).a, V.i .u64 ((Cur.mk l a s).pickC (6
 : Int)).s]), some (Blk.row false none LCd.rose (nilT LCd.rose.den))]))) (ifB (decide (d > (0 : Int))) (ifT (decide (IntKind.i64.wrap (d - (1 : Int)) = d - (1 : Int) ∧ (0
 : Int) ≤ d - (1 : Int) ∧ ((Cur.mk l a s).pickC (6 : Int)).good m)) (some (V.agg [V.i .i64 (g ((Cur.mk l a s).pickC (6 : Int))).fst.lab.fst, V.s (g ((Cur.mk l a s).pickC
 (6 : Int))).fst.lab.snd.fst, V.i .i64 (g ((Cur.mk l a s).pickC (6 : Int))).fst.lab.snd.snd.fst, V.b (g ((Cur.mk l a s).pickC (6 : Int))).fst.lab.snd.snd.snd.fst, V.i .i64
 (g ((Cur.mk l a s).pickC (6 : Int))).fst.lab.snd.snd.snd.snd.fst, V.ref 1 0 (g ((Cur.mk l a s).pickC (6 : Int))).fst.kids.length], [some (Blk.box [V.sl (Cd.int .u8) (g
 ((Cur.mk l a s).pickC (6 : Int))).snd.l, V.i .i64 (g ((Cur.mk l a s).pickC (6 : Int))).snd.a, V.i .u64 (g ((Cur.mk l a s).pickC (6 : Int))).snd.s]), some (Blk.row false
 none LCd.rose (g ((Cur.mk l a s).pickC (6 : Int))).fst.kids)]))) (some (V.agg [V.i .i64 1, V.s (nilT UInt8), V.i .i64 0, V.b false, V.i .i64 0, V.ref 1 0 0], [some
 (Blk.box [V.sl (Cd.int .u8) ((Cur.mk l a s).pickC (6 : Int)).l, V.i .i64 ((Cur.mk l a s).pickC (6 : Int)).a, V.i .u64 ((Cur.mk l a s).pickC (6 : Int)).s]), some (Blk.row
 false none LCd.rose (nilT LCd.rose.den))]))))))))) : _) := by kernel_rfl
theorem dmsg_tree (d m m' q : Int) (f : Cur → Rose Lab × Cur) (o : Cur × List (Rose Lab) × Nat × List (List UInt8) → List (Rose Lab) × Cur) (l : List Int) (a s : Int) : funC Try.prog (look [(85, .own coneG), (195, .own (dtyG d m' f))]) (look [(3, dmsgE d m q o)]) Try.f161 [.ptr 0 0, .i .i64 d] [.box [.sl (.int .u8) l, .i .i64 a, .i .u64 s]] =
  ((ifT (decide (d = d ∧ (↑(5 : Nat) : Int) = (5 : Int) ∧ (0 : Int) ≤ (0 : Int) ∧ (0 : Int) ≤ (5 : Int) ∧ (0 : Nat) = (0 : Nat) ∧ (0 : Nat) ≤ (0 : Nat) ∧ (5 : Nat) = (5 : Nat)
 ∧ (Cur.mk l a s).good (m + (0 : Int) * q)) && ([(97 : UInt8)] :: [(98 : UInt8)] :: [(110 : UInt8), (97 : UInt8), (109 : UInt8), (101 : UInt8)] :: [(108 : UInt8), (105 :
 UInt8), (115 : UInt8), (116 : UInt8)] :: [(107 : UInt8), (105 : UInt8), (110 : UInt8), (100 : UInt8)] :: nilT Cd.str.den).all fun x => decide (List.length x ≤ (10 :
 Nat))) (some (V.agg [V.i .i64 5, V.s (nilT UInt8), V.i .i64 0, V.b false, V.i .i64 0, V.ref 1 0 (o (Cur.mk l a s, nilT LCd.rose.den, (0 : Nat), [(97 : UInt8)] :: [(98 :
 UInt8)] :: [(110 : UInt8), (97 : UInt8), (109 : UInt8), (101 : UInt8)] :: [(108 : UInt8), (105 : UInt8), (115 : UInt8), (116 : UInt8)] :: [(107 : UInt8), (105 : UInt8),
 (110 : UInt8), (100 : UInt8)] :: nilT Cd.str.den)).fst.length], [some (Blk.box [V.sl (Cd.int .u8) (o (Cur.mk l a s, nilT LCd.rose.den, (0 : Nat), [(97 : UInt8)] :: [(98 :
 UInt8)] :: [(110 : UInt8), (97 : UInt8), (109 : UInt8), (101 : UInt8)] :: [(108 : UInt8), (105 : UInt8), (115 : UInt8), (116 : UInt8)] :: [(107 : UInt8), (105 : UInt8),
 (110 : UInt8), (100 : UInt8)] :: nilT Cd.str.den)).snd.l, V.i .i64 (o (Cur.mk l a s, nilT LCd.rose.den, (0 : Nat), [(97 : UInt8)] :: [(98 : UInt8)] :: [(110 : UInt8), (97
 : UInt8), (109 : UInt8), (101 : UInt8)] :: [(108 : UInt8), (105 : UInt8), (115 : UInt8), (116 : UInt8)] :: [(107 : UInt8), (105 : UInt8), (110 : UInt8), (100 : UInt8)] ::
 nilT Cd.str.den)).snd.a, V.i .u64 (o (Cur.mk l a s, nilT LCd.rose.den, (0 : Nat), [(97 : UInt8)] :: [(98 : UInt8)] :: [(110 : UInt8), (97 : UInt8), (109 : UInt8), (101 :
 UInt8)] :: [(108 : UInt8), (105 : UInt8), (115 : UInt8), (116 : UInt8)] :: [(107 : UInt8), (105 : UInt8), (110 : UInt8), (100 : UInt8)] :: nilT Cd.str.den)).snd.s]), some
 (Blk.row false none LCd.rose (o (Cur.mk l a s, nilT LCd.rose.den, (0 : Nat), [(97 : UInt8)] :: [(98 : UInt8)] :: [(110 : UInt8), (97 : UInt8), (109 : UInt8), (101 :
 UInt8)] :: [(108 : UInt8), (105 : UInt8), (115 : UInt8), (116 : UInt8)] :: [(107 : UInt8), (105 : UInt8), (110 : UInt8), (100 : UInt8)] :: nilT Cd.str.den)).fst)]))) : _) := by kernel_rfl
theorem cntL_app : ∀ (ks : List (Rose Lab)) (z : Rose Lab), cntL (ks ++ [z]) = cntL ks + cntR z
  | [], z => by rw [List.nil_append, cntL, cntL, cntL]; omega
  | y :: ks, z => by rw [List.cons_append, cntL, cntL_app ks z, cntL]; omega
theorem drT_leaf (x : Lab) (h : x.2.1.length ≤ 10) (n : Nat) : drT (n + 1) (.node x []) := by
  have hM : maxI = 9223372036854775807 := rfl
  exact ⟨by rw [cntR, cntL]; omega, by rw [namR, namL, decide_eq_true (by omega)]; rfl⟩
theorem drT_one {n : Nat} {z : Rose Lab} (h : drT n z) : drT (n + 1) (.node (4, [], 0, false, 0, ()) [z]) := by
  obtain ⟨h1, h2⟩ := h
  exact ⟨by rw [cntR, cntL, cntL]; omega, by rw [namR, namL, namL, h2]; rfl⟩
theorem drT_mono {n m : Nat} {z : Rose Lab} (h : drT n z) (hm : n ≤ m) : drT m z := ⟨Nat.le_trans h.1 hm, h.2⟩
theorem drT_eta {n : Nat} {z : Rose Lab} (h : drT n z) : drT n (.node (z.lab.1, z.lab.2.1, z.lab.2.2.1, z.lab.2.2.2.1, z.lab.2.2.2.2.1, ()) z.kids) := by cases z; exact h
theorem drT_re {n : Nat} {z : Rose Lab} (h : drT n z) (x : Lab) (hx : x.2.1.length ≤ 10) : drT n (.node x z.kids) := by
  have hM : maxI = 9223372036854775807 := rfl
  obtain ⟨y, ks⟩ := z
  obtain ⟨h1, h2⟩ := h
  refine ⟨by rw [cntR] at h1 ⊢; exact h1, ?_⟩
  rw [namR, Bool.and_eq_true] at h2 ⊢
  exact ⟨decide_eq_true (by omega), h2.2⟩
theorem dty_ex (d m m' K : Int) (N : Nat) (h0 : m + 2 ≤ m') (h1 : m' ≤ 800000000) (hK : 0 ≤ K) (hd : 0 ≤ d ∧ d ≤ 100) (f g : Cur → Rose Lab × Cur) (pf : 0 < d → ∀ c n, c.good n → n ≤ m' → (f c).2.good (n + K) ∧ drT N (f c).1) (pg : 0 < d → ∀ c n, c.good n → n ≤ m' → (g c).2.good (n + K) ∧ drT N (g c).1)
    (l : List Int) (a s : Int) (hc : (Cur.mk l a s).good m) : Ex1 (funC Try.prog (look [(56, .own cpickG), (195, .own (dtyG (d - 1) m' f)), (161, .own (dmsgG (d - 1) m' g))]) (look []) Try.f195 [.ptr 0 0, .i .i64 d] [.box [.sl (.int .u8) l, .i .i64 a, .i .u64 s]]) (fun y : Rose Lab × Cur => ((.agg [.i .i64 y.1.lab.1, .s y.1.lab.2.1, .i .i64 y.1.lab.2.2.1, .b y.1.lab.2.2.2.1, .i .i64 y.1.lab.2.2.2.2.1, .ref 1 0 y.1.kids.length], [some (cB y.2), some (.row false none (.rose LCd) y.1.kids)]) : V × List (Option Blk))) (fun y => ∀ n, (Cur.mk l a s).good n → n ≤ m → y.2.good (n + (K + 4)) ∧ drT (N + 1) y.1) := by
  refine Ex1.of (dty_tree d m' f g l a s) ?_
  have w1 : IntKind.i64.wrap (d - 1) = d - 1 := wrap_id (by omega) (by omega)
  have g1 : (Cur.mk l a s).good 900000000 := Cur.good_mono hc (by omega)
  have g2 : ((Cur.mk l a s).pickC 6).good 900000000 := Cur.pk (Cur.good_mono hc (by omega))
  have g3 : ((Cur.mk l a s).pickC 6).good m' := Cur.pk (Cur.good_mono hc (by omega))
  simp only [w1, cB_fold, cB_0, nilT_eq, List.drop_zero, List.take_length]
  repeat' first
    | ((with_reducible refine Ex1.B (fun h => ?_) (fun h => ?_)))
    | with_reducible refine Ex1.T ?_ ?_
  all_goals first
    | exact decide_eq_true g1
    | exact decide_eq_true g2
    | (refine decide_eq_true ⟨trivial, ?_, g3⟩; have := of_decide_eq_true ‹decide (d > 0) = true›; omega)
    | (refine decide_eq_true ⟨rfl, ?_, g3⟩; have := of_decide_eq_true ‹decide (d > 0) = true›; omega)
    | refine Ex1.P (.node (_, _, _, _, _, ()) _, _) rfl rfl fun n hn hm => ⟨?_, ?_⟩
  all_goals try first
    | exact drT_leaf _ (by simp) _
    | exact Cur.good_mono (Cur.pickC_good hn) (by omega)
    | exact Cur.good_mono (Cur.pickC_good (Cur.pickC_good hn)) (by omega)
    | (have hp := of_decide_eq_true ‹decide (d > 0) = true›
       first
       | exact Cur.good_mono (pf hp _ _ (Cur.pickC_good hn) (by omega)).1 (by omega)
       | exact Cur.good_mono (pg hp _ _ (Cur.pickC_good hn) (by omega)).1 (by omega)
       | exact drT_mono (drT_eta (pg hp _ _ (Cur.pickC_good hn) (by omega)).2) (by omega)
       | exact drT_one (drT_eta (pf hp _ _ (Cur.pickC_good hn) (by omega)).2))
theorem drL_app {ks : List (Rose Lab)} {z : Rose Lab} {n m : Nat} (h1 : cntL ks ≤ n) (h2 : namL ks = true) (h : drT m z) : cntL (ks ++ [z]) ≤ n + m ∧ namL (ks ++ [z]) = true := by
  obtain ⟨h3, h4⟩ := h
  exact ⟨by rw [cntL_app]; omega, namL_app _ _ h2 h4⟩
theorem dmsg_runs (d m m' K : Int) (N : Nat) (h0 : m + 5 * (K + 4) ≤ m') (h1 : m' ≤ 800000000) (hK : 0 ≤ K) (hd : 0 ≤ d) (f : Cur → Rose Lab × Cur) (pf : ∀ c n, c.good n → n ≤ m' → (f c).2.good (n + K) ∧ drT N (f c).1) :
    ∀ x : Cur × List (Rose Lab) × Nat × List (List UInt8), (x.1.good (m + (x.2.2.1 : Int) * (K + 4)) ∧ x.2.2.1 ≤ 5 ∧ x.2.1.length ≤ x.2.2.1 ∧ x.2.2.2.length = 5 ∧ ∀ z ∈ x.2.2.2, z.length ≤ 10) →
      ∃ y : List (Rose Lab) × Cur, (∀ o, Runs Try.prog (look [(85, .own coneG), (195, .own (dtyG d m' f))]) (look [(3, dmsgE d m (K + 4) o)]) 1 (body Try.f161 0) (dmsgE d m (K + 4) o) ((fun x : Cur × List (Rose Lab) × Nat × List (List UInt8) => ([.ptr 0 0, .i .i64 d, .ptr 1 0, .ptr 2 0, .ref 3 0 5, .i .i64 5, .i .i64 (x.2.2.1 : Int)], [some (cB x.1), some (.box [.i .i64 0, .s [], .i .i64 0, .b false, .i .i64 0, .ref 4 0 0]), some (.box [.i .i64 5, .s [], .i .i64 0, .b false, .i .i64 0, .ref 5 0 x.2.1.length]), some (.row false none .str x.2.2.2), some (.row false none (.rose LCd) []), some (.row false none (.rose LCd) x.2.1)])) x) ((fun y : List (Rose Lab) × Cur => (((.exit 0 : Ex), ([.ptr 1 0, .ptr 2 0], [some (cB y.2), some (.box [.i .i64 0, .s [], .i .i64 0, .b false, .i .i64 0, .ref 3 0 0]), some (.box [.i .i64 5, .s [], .i .i64 0, .b false, .i .i64 0, .ref 4 0 y.1.length]), some (.row false none (.rose LCd) []), some (.row false none (.rose LCd) y.1)])) : Ex × Dt)) y).1 ((fun y : List (Rose Lab) × Cur => (((.exit 0 : Ex), ([.ptr 1 0, .ptr 2 0], [some (cB y.2), some (.box [.i .i64 0, .s [], .i .i64 0, .b false, .i .i64 0, .ref 3 0 0]), some (.box [.i .i64 5, .s [], .i .i64 0, .b false, .i .i64 0, .ref 4 0 y.1.length]), some (.row false none (.rose LCd) []), some (.row false none (.rose LCd) y.1)])) : Ex × Dt)) y).2) ∧
        ((∀ n, x.1.good n → n ≤ m + (x.2.2.1 : Int) * (K + 4) → y.2.good (n + (5 - (x.2.2.1 : Int)) * (K + 4))) ∧ ∀ n, cntL x.2.1 ≤ n → namL x.2.1 = true → cntL y.1 ≤ n + (5 - x.2.2.1) * N ∧ namL y.1 = true) := by
  refine loop_exo (ι := Cur × List (Rose Lab) × Nat × List (List UInt8) → List (Rose Lab) × Cur) (fun _ => ([], Cur.mk [] 0 0)) (Λ := fun o => (look [(3, dmsgE d m (K + 4) o)])) (ent := fun o => dmsgE d m (K + 4) o) (fun x : Cur × List (Rose Lab) × Nat × List (List UInt8) => ([.ptr 0 0, .i .i64 d, .ptr 1 0, .ptr 2 0, .ref 3 0 5, .i .i64 5, .i .i64 (x.2.2.1 : Int)], [some (cB x.1), some (.box [.i .i64 0, .s [], .i .i64 0, .b false, .i .i64 0, .ref 4 0 0]), some (.box [.i .i64 5, .s [], .i .i64 0, .b false, .i .i64 0, .ref 5 0 x.2.1.length]), some (.row false none .str x.2.2.2), some (.row false none (.rose LCd) []), some (.row false none (.rose LCd) x.2.1)])) (fun y : List (Rose Lab) × Cur => (((.exit 0 : Ex), ([.ptr 1 0, .ptr 2 0], [some (cB y.2), some (.box [.i .i64 0, .s [], .i .i64 0, .b false, .i .i64 0, .ref 3 0 0]), some (.box [.i .i64 5, .s [], .i .i64 0, .b false, .i .i64 0, .ref 4 0 y.1.length]), some (.row false none (.rose LCd) []), some (.row false none (.rose LCd) y.1)])) : Ex × Dt)) (fun y => by simp) _ _ (fun x => 5 - x.2.2.1) (fun o x _ => (dmsg_round d m m' (K + 4) f o 5 (x.2.2.1 : Int) x.1.l x.1.a x.1.s x.2.1.length x.2.2.2 x.2.1).trans (dmsg_round d m m' (K + 4) f _ 5 (x.2.2.1 : Int) x.1.l x.1.a x.1.s x.2.1.length x.2.2.2 x.2.1).symm) ?_
  rintro ⟨c, ks, i, nm⟩ ⟨hc, hi, hk, h5, hnm⟩
  dsimp only at hc hi hk h5 hnm ⊢
  have hM : maxI = 9223372036854775807 := rfl
  have hq : 0 ≤ (i : Int) * (K + 4) := Int.mul_nonneg (by omega) (by omega)
  have hq5 : (i : Int) * (K + 4) ≤ 5 * (K + 4) := Int.mul_le_mul_of_nonneg_right (by omega) (by omega)
  by_cases h : i < 5
  · right
    refine Ex1.of (dmsg_round d m m' (K + 4) f _ 5 (i : Int) c.l c.a c.s ks.length nm ks) ?_
    have hq4 : (i : Int) * (K + 4) + (K + 4) ≤ 5 * (K + 4) := by
      have : ((i : Int) + 1) * (K + 4) ≤ 5 * (K + 4) := Int.mul_le_mul_of_nonneg_right (by omega) (by omega)
      rw [Int.add_mul] at this; omega
    have e1 : ((i : Int) + 1) * (K + 4) = (i : Int) * (K + 4) + (K + 4) := by rw [Int.add_mul]; omega
    rw [ifB_true (decide_eq_true (by omega))]
    simp only [cB_fold, show Cur.mk c.l c.a c.s = c from rfl, wrap_succ (n := i) (by omega), nilT_eq, List.drop_zero, List.take_length, Int.toNat_natCast, Nat.zero_add]
    have g0 : c.good 900000000 := Cur.good_mono hc (by omega)
    have g1 : (c.pickC 2).good m' := Cur.pk (Cur.good_mono hc (by omega))
    have pf1 := pf _ _ (Cur.pickC_good (k := 2) hc) (by omega)
    refine Ex1.T (by simp; omega) (Ex1.S ⟨nm[i], List.getElem?_eq_getElem (by omega)⟩ fun z hz => Ex1.T (decide_eq_true g0) (Ex1.B (fun _ => ?_) (fun _ => Ex1.T (decide_eq_true ⟨trivial, hd, g1⟩) (Ex1.T (decide_eq_true (Cur.good_mono pf1.1 (by omega))) (Ex1.T (by simp; omega) ?_)))))
    · refine Ex1.P3 (c.pickC 2, ks, i + 1, nm) rfl rfl rfl ⟨⟨?_, by dsimp only; omega, by dsimp only; omega, h5, hnm⟩, by dsimp only; omega, fun y hy => ⟨fun n hn hl => ?_, fun n hn hl => ?_⟩⟩
      · exact Cur.good_mono (Cur.pickC_good hc) (by dsimp only; push_cast; rw [e1]; omega)
      · refine Cur.good_mono (hy.1 (n + 2) (Cur.pickC_good hn) (by dsimp only; push_cast; rw [e1]; omega)) ?_
        dsimp only; push_cast; rw [show (5 - ((i : Int) + 1)) * (K + 4) = (5 - (i : Int)) * (K + 4) - (K + 4) by rw [show (5 - ((i : Int) + 1)) = (5 - (i : Int)) - 1 by omega, Int.sub_mul]; omega]; omega
      · have := hy.2 n hn hl
        refine ⟨Nat.le_trans this.1 (Nat.add_le_add_left (Nat.mul_le_mul_right _ (by dsimp only; omega)) _), this.2⟩
    · have hzl : z.length ≤ 10 := hnm z (List.mem_of_getElem? hz)
      have dz := drT_re pf1.2 ((f (c.pickC 2)).1.lab.1, z, ((i + 1 : Nat) : Int), (f (c.pickC 2)).2.pickV 3 == 0, (f (c.pickC 2)).1.lab.2.2.2.2.1, ()) hzl
      refine Ex1.P3 ((f (c.pickC 2)).2.pickC 3, ks ++ [.node ((f (c.pickC 2)).1.lab.1, z, ((i + 1 : Nat) : Int), (f (c.pickC 2)).2.pickV 3 == 0, (f (c.pickC 2)).1.lab.2.2.2.2.1, ()) (f (c.pickC 2)).1.kids], i + 1, nm) (by simp) rfl rfl ⟨⟨?_, by dsimp only; omega, by simp; omega, h5, hnm⟩, by dsimp only; omega, fun y hy => ⟨fun n hn hl => ?_, fun n hn hl => ?_⟩⟩
      · exact Cur.good_mono (Cur.pickC_good pf1.1) (by dsimp only; push_cast; rw [e1]; omega)
      · refine Cur.good_mono (hy.1 (n + (K + 4)) (Cur.good_mono (Cur.pickC_good (pf _ _ (Cur.pickC_good (k := 2) hn) (by omega)).1) (by omega)) (by dsimp only; push_cast; rw [e1]; omega)) ?_
        dsimp only; push_cast; rw [show (5 - ((i : Int) + 1)) * (K + 4) = (5 - (i : Int)) * (K + 4) - (K + 4) by rw [show (5 - ((i : Int) + 1)) = (5 - (i : Int)) - 1 by omega, Int.sub_mul]; omega]; omega
      · obtain ⟨q1, q2⟩ := drL_app hn hl dz
        have := hy.2 (n + N) q1 q2
        refine ⟨Nat.le_trans this.1 ?_, this.2⟩
        dsimp only
        rw [show 5 - i = (5 - (i + 1)) + 1 by omega, Nat.add_mul]; omega
  · left
    refine Ex1.of (dmsg_round d m m' (K + 4) f _ 5 (i : Int) c.l c.a c.s ks.length nm ks) ?_
    rw [ifB_false (decide_eq_false (by omega))]
    refine Ex1.L (ks, c) rfl ⟨fun n hn hl => Cur.good_mono hn ?_, fun n hn hl => ⟨Nat.le_trans hn (Nat.le_add_right _ _), hl⟩⟩
    have : (5 - (i : Int)) = 0 := by omega
    rw [this]; omega
theorem dty_con (d m m' K : Int) (N : Nat) (h0 : m + 2 ≤ m') (h1 : m' ≤ 800000000) (hK : 0 ≤ K) (hd : 0 ≤ d ∧ d ≤ 100) (f g : Cur → Rose Lab × Cur) (hf : Contract Try.prog 195 (Ent.own (dtyG (d - 1) m' f)).F) (hg : Contract Try.prog 161 (Ent.own (dmsgG (d - 1) m' g)).F) (pf : 0 < d → ∀ c n, c.good n → n ≤ m' → (f c).2.good (n + K) ∧ drT N (f c).1) (pg : 0 < d → ∀ c n, c.good n → n ≤ m' → (g c).2.good (n + K) ∧ drT N (g c).1) :
    ∃ h : Cur → Rose Lab × Cur, Contract Try.prog 195 (Ent.own (dtyG d m h)).F ∧ ∀ c n, c.good n → n ≤ m → (h c).2.good (n + (K + 4)) ∧ drT (N + 1) (h c).1 := by
  obtain ⟨h, hh⟩ := pick_fn (Y := Rose Lab × Cur) (.node (0, [], 0, false, 0, ()) [], Cur.mk [] 0 0) (fun (c : Cur) (hc : c.good m) => dty_ex d m m' K N h0 h1 hK hd f g pf pg c.l c.a c.s hc)
  refine ⟨h, ?_, fun c n hc hn => (hh c (Cur.good_mono hc hn)).2 n hc hn⟩
  refine fun_contractC' (KnowsL.cons (enters_fn Try.func56 (by kernel_rfl) (by kernel_rfl)) cpick (KnowsL.cons (enters_fn Try.func195 (by kernel_rfl) (by kernel_rfl)) hf (KnowsL.cons (enters_fn Try.func161 (by kernel_rfl) (by kernel_rfl)) hg KnowsL.nil))).knows (Λ := look []) Try.func195 (c := Try.f195.body.getD .skip) (by kernel_rfl) fun vs bs r hq hv hb => ?_
  unfold Ent.F dtyG at hq
  dsimp only at hq
  split at hq
  · rename_i x l a s
    obtain ⟨hc, hx⟩ := need_some hq
    obtain ⟨rfl, _, hc⟩ := of_decide_eq_true hc
    exact ⟨loopsOk_nil _, (hh (Cur.mk l a s) hc).1.trans hx⟩
  · cases hq
theorem dmsg_con (d m m' K : Int) (N : Nat) (h0 : m + 5 * (K + 4) ≤ m') (h1 : m' ≤ 100000000) (hK : 0 ≤ K) (hd : 0 ≤ d ∧ d ≤ 100) (f : Cur → Rose Lab × Cur) (hf : Contract Try.prog 195 (Ent.own (dtyG d m' f)).F) (pf : ∀ c n, c.good n → n ≤ m' → (f c).2.good (n + K) ∧ drT N (f c).1) :
    ∃ h : Cur → Rose Lab × Cur, Contract Try.prog 161 (Ent.own (dmsgG d m h)).F ∧ ∀ c n, c.good n → n ≤ m → (h c).2.good (n + 5 * (K + 4)) ∧ drT (5 * N + 1) (h c).1 := by
  obtain ⟨o, ho⟩ := pick_fn (Y := List (Rose Lab) × Cur) ([], Cur.mk [] 0 0) (dmsg_runs d m m' K N h0 (by omega) hK hd.1 f pf)
  have ex : ∀ c : Cur, c.good m → Ex1 (funC Try.prog (look [(85, .own coneG), (195, .own (dtyG d m' f))]) (look [(3, dmsgE d m (K + 4) o)]) Try.f161 [.ptr 0 0, .i .i64 d] [.box [.sl (.int .u8) c.l, .i .i64 c.a, .i .u64 c.s]]) (fun y : Rose Lab × Cur => ((.agg [.i .i64 y.1.lab.1, .s y.1.lab.2.1, .i .i64 y.1.lab.2.2.1, .b y.1.lab.2.2.2.1, .i .i64 y.1.lab.2.2.2.2.1, .ref 1 0 y.1.kids.length], [some (cB y.2), some (.row false none (.rose LCd) y.1.kids)]) : V × List (Option Blk))) (fun y => ∀ n, c.good n → n ≤ m → y.2.good (n + 5 * (K + 4)) ∧ drT (5 * N + 1) y.1) := fun c hc => by
    refine Ex1.of (dmsg_tree d m m' (K + 4) f o c.l c.a c.s) ?_
    have hI : (c.good (m + ((0 : Nat) : Int) * (K + 4)) ∧ (0 : Nat) ≤ 5 ∧ ([] : List (Rose Lab)).length ≤ 0 ∧ ([[97], [98], [110, 97, 109, 101], [108, 105, 115, 116], [107, 105, 110, 100]] : List (List UInt8)).length = 5 ∧ ∀ z ∈ ([[97], [98], [110, 97, 109, 101], [108, 105, 115, 116], [107, 105, 110, 100]] : List (List UInt8)), z.length ≤ 10) := ⟨Cur.good_mono hc (by omega), by omega, by simp, rfl, by simp⟩
    have := (ho (c, [], 0, [[97], [98], [110, 97, 109, 101], [108, 105, 115, 116], [107, 105, 110, 100]]) hI).2
    refine Ex1.T (by simp only [Bool.and_eq_true, decide_eq_true_eq]; exact ⟨⟨trivial, rfl, by omega, by omega, trivial, by omega, trivial, Cur.good_mono hc (by omega)⟩, by rfl⟩) ?_
    refine Ex1.P (.node (5, [], 0, false, 0, ()) (o (c, [], 0, [[97], [98], [110, 97, 109, 101], [108, 105, 115, 116], [107, 105, 110, 100]])).1, (o (c, [], 0, [[97], [98], [110, 97, 109, 101], [108, 105, 115, 116], [107, 105, 110, 100]])).2) rfl rfl fun n hn hm => ⟨?_, ?_⟩
    · exact Cur.good_mono (this.1 n hn (by dsimp only; omega)) (by dsimp only; omega)
    · obtain ⟨q1, q2⟩ := this.2 0 (by dsimp only; rw [cntL]; omega) rfl
      dsimp only at q1 q2
      exact ⟨by dsimp only; rw [cntR]; omega, by dsimp only; rw [namR, q2]; rfl⟩
  obtain ⟨h, hh⟩ := pick_fn (Y := Rose Lab × Cur) (.node (0, [], 0, false, 0, ()) [], Cur.mk [] 0 0) ex
  refine ⟨h, ?_, fun c n hc hn => (hh c (Cur.good_mono hc hn)).2 n hc hn⟩
  refine fun_contractC' (KnowsL.cons (enters_fn Try.func85 (by kernel_rfl) (by kernel_rfl)) cone (KnowsL.cons (enters_fn Try.func195 (by kernel_rfl) (by kernel_rfl)) hf KnowsL.nil)).knows (Λ := (look [(3, dmsgE d m (K + 4) o)])) Try.func161 (c := Try.f161.body.getD .skip) (by kernel_rfl) fun vs bs r hq hv hb => ?_
  unfold Ent.F dmsgG at hq
  dsimp only at hq
  split at hq
  · rename_i x l a s
    obtain ⟨hc, hx⟩ := need_some hq
    obtain ⟨rfl, _, hc⟩ := of_decide_eq_true hc
    refine ⟨loopsOk_one (a := body Try.f161 0) (by kernel_rfl) fun d ex d' h => ?_, (hh (Cur.mk l a s) hc).1.trans hx⟩
    unfold dmsgE at h
    dsimp only at h
    split at h
    · rename_i d0 k i l a s n nm ks
      obtain ⟨hc, hx⟩ := need_some h
      rw [Bool.and_eq_true] at hc
      obtain ⟨hc, hall⟩ := hc
      obtain ⟨rfl, rfl, q1, q2, rfl, q4, q5, q6⟩ := of_decide_eq_true hc
      obtain ⟨i, rfl⟩ := Int.eq_ofNat_of_zero_le q1
      simp only [Int.toNat_natCast] at q4 hx
      have h8 := leaf_some hx
      obtain ⟨rfl, rfl⟩ := Prod.mk.inj h8
      exact (ho (Cur.mk l a s, ks, i, nm) ⟨q6, by dsimp only; omega, q4, q5, fun z hz => of_decide_eq_true (List.all_eq_true.1 hall z hz)⟩).1 o
    · cases h
  · cases hq
def dmsG (g : Int → Cur → Rose Lab × Cur) : List V → List Blk → Br (V × List (Option Blk))
  | [.ptr 0 0, .i .i64 x], [.box [.sl (.int .u8) l, .i .i64 a, .i .u64 s]] => .need (decide (0 ≤ x ∧ x ≤ 3 ∧ (Cur.mk l a s).good 83000000)) (.leaf (.agg [.i .i64 (g x (Cur.mk l a s)).1.lab.1, .s (g x (Cur.mk l a s)).1.lab.2.1, .i .i64 (g x (Cur.mk l a s)).1.lab.2.2.1, .b (g x (Cur.mk l a s)).1.lab.2.2.2.1, .i .i64 (g x (Cur.mk l a s)).1.lab.2.2.2.2.1, .ref 1 0 (g x (Cur.mk l a s)).1.kids.length], [some (cB (g x (Cur.mk l a s)).2), some (.row false none (.rose (.pair (.int .i64) (.pair .str (.pair (.int .i64) (.pair .bool (.pair (.int .i64) .unit)))))) (g x (Cur.mk l a s)).1.kids)]))
  | _, _ => .no
def TyEx (d m K : Int) (N : Nat) : Prop := ∃ f : Cur → Rose Lab × Cur, Contract Try.prog 195 (Ent.own (dtyG d m f)).F ∧ (0 ≤ d → ∀ c n, c.good n → n ≤ m → (f c).2.good (n + K) ∧ drT N (f c).1)
def MsEx (d m K : Int) (N : Nat) : Prop := ∃ f : Cur → Rose Lab × Cur, Contract Try.prog 161 (Ent.own (dmsgG d m f)).F ∧ (0 ≤ d → ∀ c n, c.good n → n ≤ m → (f c).2.good (n + K) ∧ drT N (f c).1)
theorem TyEx.weak {d m K m2 K2 : Int} {N N2 : Nat} (h : TyEx d m K N) (h1 : m2 ≤ m) (h2 : K ≤ K2) (h3 : N ≤ N2) : TyEx d m2 K2 N2 := by
  obtain ⟨f, hf, pf⟩ := h
  refine ⟨f, contract_weak hf fun vs bs r hq => ?_, fun hd c n hc hn => ?_⟩
  · unfold Ent.F dtyG at hq ⊢
    dsimp only at hq ⊢
    split at hq
    · rename_i x l a s
      obtain ⟨hc, hx⟩ := need_some hq
      obtain ⟨q1, q2, q3⟩ := of_decide_eq_true hc
      have : decide (x = d ∧ 0 ≤ d ∧ (Cur.mk l a s).good m) = true := decide_eq_true ⟨q1, q2, Cur.good_mono q3 h1⟩
      rw [this]
      exact hx
    · cases hq
  · have := pf hd c n hc (by omega)
    exact ⟨Cur.good_mono this.1 (by omega), drT_mono this.2 h3⟩
theorem TyEx.none (m K : Int) (N : Nat) : TyEx (-1) m K N := by
  refine ⟨fun c => (.node (0, [], 0, false, 0, ()) [], c), contract_no fun vs bs => ?_, fun h => by omega⟩
  unfold Ent.F dtyG
  dsimp only
  split
  · rename_i x l a s
    have : decide (x = (-1 : Int) ∧ (0 : Int) ≤ -1 ∧ (Cur.mk l a s).good m) = false := decide_eq_false (by omega)
    rw [this]; rfl
  · rfl
theorem MsEx.weak {d m K m2 K2 : Int} {N N2 : Nat} (h : MsEx d m K N) (h1 : m2 ≤ m) (h2 : K ≤ K2) (h3 : N ≤ N2) : MsEx d m2 K2 N2 := by
  obtain ⟨f, hf, pf⟩ := h
  refine ⟨f, contract_weak hf fun vs bs r hq => ?_, fun hd c n hc hn => ?_⟩
  · unfold Ent.F dmsgG at hq ⊢
    dsimp only at hq ⊢
    split at hq
    · rename_i x l a s
      obtain ⟨hc, hx⟩ := need_some hq
      obtain ⟨q1, q2, q3⟩ := of_decide_eq_true hc
      have : decide (x = d ∧ 0 ≤ d ∧ (Cur.mk l a s).good m) = true := decide_eq_true ⟨q1, q2, Cur.good_mono q3 h1⟩
      rw [this]
      exact hx
    · cases hq
  · have := pf hd c n hc (by omega)
    exact ⟨Cur.good_mono this.1 (by omega), drT_mono this.2 h3⟩
theorem MsEx.none (m K : Int) (N : Nat) : MsEx (-1) m K N := by
  refine ⟨fun c => (.node (0, [], 0, false, 0, ()) [], c), contract_no fun vs bs => ?_, fun h => by omega⟩
  unfold Ent.F dmsgG
  dsimp only
  split
  · rename_i x l a s
    have : decide (x = (-1 : Int) ∧ (0 : Int) ≤ -1 ∧ (Cur.mk l a s).good m) = false := decide_eq_false (by omega)
    rw [this]; rfl
  · rfl
theorem ty_step {d d' m m' K : Int} {N : Nat} (h1 : TyEx d' m' K N) (h2 : MsEx d' m' K N) (hd : d' = d - 1) (hd2 : 0 ≤ d ∧ d ≤ 100) (h0 : m + 2 ≤ m') (hm : m' ≤ 800000000) (hK : 0 ≤ K) : TyEx d m (K + 4) (N + 1) := by
  subst hd
  obtain ⟨f, hf, pf⟩ := h1
  obtain ⟨g, hg, pg⟩ := h2
  obtain ⟨h, hh, ph⟩ := dty_con d m m' K N h0 hm hK hd2 f g hf hg (fun h => pf (by omega)) (fun h => pg (by omega))
  exact ⟨h, hh, fun _ => ph⟩
theorem ms_step {d m m' K : Int} {N : Nat} (h1 : TyEx d m' K N) (hd2 : 0 ≤ d ∧ d ≤ 100) (h0 : m + 5 * (K + 4) ≤ m') (hm : m' ≤ 100000000) (hK : 0 ≤ K) : MsEx d m (5 * (K + 4)) (5 * N + 1) := by
  obtain ⟨f, hf, pf⟩ := h1
  obtain ⟨h, hh, ph⟩ := dmsg_con d m m' K N h0 hm hK hd2 f hf (pf hd2.1)
  exact ⟨h, hh, fun _ => ph⟩
theorem dty0 : TyEx 0 90000000 4 1 := ty_step (m' := 90000002) (K := 0) (N := 0) (TyEx.none _ _ _) (MsEx.none _ _ _) (by omega) (by omega) (by omega) (by omega) (by omega)
theorem dms0 : MsEx 0 89000000 40 6 := ms_step dty0 (by omega) (by omega) (by omega) (by omega)
theorem dty1 : TyEx 1 88000000 44 7 := ty_step (dty0.weak (m2 := 89000000) (K2 := 40) (N2 := 6) (by omega) (by omega) (by omega)) dms0 (by omega) (by omega) (by omega) (by omega) (by omega)
theorem dms1 : MsEx 1 87000000 240 36 := ms_step dty1 (by omega) (by omega) (by omega) (by omega)
theorem dty2 : TyEx 2 86000000 244 37 := ty_step (dty1.weak (m2 := 87000000) (K2 := 240) (N2 := 36) (by omega) (by omega) (by omega)) dms1 (by omega) (by omega) (by omega) (by omega) (by omega)
theorem dms2 : MsEx 2 85000000 1240 186 := ms_step dty2 (by omega) (by omega) (by omega) (by omega)
theorem dty3 : TyEx 3 84000000 1244 187 := ty_step (dty2.weak (m2 := 85000000) (K2 := 1240) (N2 := 186) (by omega) (by omega) (by omega)) dms2 (by omega) (by omega) (by omega) (by omega) (by omega)
theorem dms3 : MsEx 3 83000000 6240 936 := ms_step dty3 (by omega) (by omega) (by omega) (by omega)
theorem dms_all (x : Int) (h : 0 ≤ x ∧ x ≤ 3) : MsEx x 83000000 6240 936 := by
  have : x = 0 ∨ x = 1 ∨ x = 2 ∨ x = 3 := by omega
  rcases this with rfl | rfl | rfl | rfl
  · exact dms0.weak (by omega) (by omega) (by omega)
  · exact dms1.weak (by omega) (by omega) (by omega)
  · exact dms2.weak (by omega) (by omega) (by omega)
  · exact dms3
theorem dms_ex : ∃ g : Int → Cur → Rose Lab × Cur, Contract Try.prog 161 (Ent.own (dmsG g)).F ∧ ∀ x c n, 0 ≤ x → x ≤ 3 → c.good n → n ≤ 83000000 → (g x c).2.good (n + 6240) ∧ drT 936 (g x c).1 := by
  obtain ⟨g, hg⟩ := pick_fn (Y := Cur → Rose Lab × Cur) (fun c => (.node (0, [], 0, false, 0, ()) [], c)) dms_all
  refine ⟨g, ?_, fun x c n h0 h3 hc hn => (hg x ⟨h0, h3⟩).2 h0 c n hc hn⟩
  refine contract_rec (F := fun n => (Ent.own (bif decide (n ≤ 3) then dmsgG (n : Int) 83000000 (g n) else fun _ _ => .no)).F) (fun n _ => ?_) fun vs bs r hq => ?_
  · by_cases h : n ≤ 3
    · rw [decide_eq_true h]
      exact (hg n (by omega)).1
    · rw [decide_eq_false h]
      exact contract_no fun vs bs => rfl
  · unfold Ent.F dmsG at hq
    dsimp only at hq
    split at hq
    · rename_i x l a s
      obtain ⟨hc, hx⟩ := need_some hq
      obtain ⟨q1, q2, q3⟩ := of_decide_eq_true hc
      obtain ⟨x, rfl⟩ := Int.eq_ofNat_of_zero_le q1
      refine ⟨x, ?_⟩
      rw [decide_eq_true (show x ≤ 3 by omega)]
      show (Br.need (decide ((x : Int) = (x : Int) ∧ 0 ≤ (x : Int) ∧ (Cur.mk l a s).good 83000000)) (.leaf (.agg [.i .i64 (g (x : Int) (Cur.mk l a s)).1.lab.1, .s (g (x : Int) (Cur.mk l a s)).1.lab.2.1, .i .i64 (g (x : Int) (Cur.mk l a s)).1.lab.2.2.1, .b (g (x : Int) (Cur.mk l a s)).1.lab.2.2.2.1, .i .i64 (g (x : Int) (Cur.mk l a s)).1.lab.2.2.2.2.1, .ref 1 0 (g (x : Int) (Cur.mk l a s)).1.kids.length], [some (cB (g (x : Int) (Cur.mk l a s)).2), some (.row false none (.rose LCd) (g (x : Int) (Cur.mk l a s)).1.kids)]))).run = some r
      rw [decide_eq_true ⟨rfl, q1, q3⟩]
      exact hx
    · cases hq
noncomputable def dms_f : Int → Cur → Rose Lab × Cur := dms_ex.choose
theorem dms_con : Contract Try.prog 161 (Ent.own (dmsG dms_f)).F := dms_ex.choose_spec.1
theorem dms_pr : ∀ x c n, 0 ≤ x → x ≤ 3 → c.good n → n ≤ 83000000 → (dms_f x c).2.good (n + 6240) ∧ drT 936 (dms_f x c).1 := dms_ex.choose_spec.2
/-- A value's node: number, text, no, up, many. -/
abbrev Nd := Int × List UInt8 × Int × Int × Bool × Unit
def numB (n : Int) : Bool := decide (-1000000000 ≤ n) && decide (n ≤ 1000000000)
/-- Whether a node that holds no others fits. -/
def leafB (x : Lab) (n : Int) (s : List UInt8) (many : Bool) : Bool :=
  if many = true then false else if x.1 = 2 then n == 0 && decide (s.length ≤ 30)
  else if x.1 = 3 then (decide (0 ≤ n ∧ n ≤ x.2.2.2.2.1)) && s == [] else numB n && s == []
def upN (l : List Nd) (e : Nat) : Option Int := (l[e]?).map fun x => x.2.2.2.1
def noN (l : List Nd) (e : Nat) : Option Int := (l[e]?).map fun x => x.2.2.1
/-- Whether what is at e belongs to what is at a. -/
def ownB (l : List Nd) (a e : Nat) : Bool := upN l e == some (a : Int)
/-- The items of a list, from e on: where they end, -1 where one does not fit. -/
def vfI (l : List Nd) (a : Nat) (g : Nat → Int) : Nat → Nat → Int
  | 0, e => e
  | f + 1, e => if ownB l a e = true then (if noN l e = some 0 then (if g e < 0 then -1 else vfI l a g f (g e).toNat) else -1) else e
mutual
/-- Where what begins at a node ends, if it fits; -1 where it does not. -/
def vfR (l : List Nd) : Rose Lab → Nat → Int
  | .node x ks, a =>
    match l[a]? with
    | none => -1
    | some y =>
      if holdsK x.1 = false then (if leafB x y.1 y.2.1 y.2.2.2.2.1 = true then (a : Int) + 1 else -1)
      else if (!y.2.2.2.2.1 || y.1 != 0 || y.2.1 != []) = true then -1
      else if x.1 = 4 then vfI l a (vfH l ks) l.length (a + 1) else (if vfP l ks a (a + 1) < 0 then -1 else if ownB l a (vfP l ks a (a + 1)).toNat = true then -1 else vfP l ks a (a + 1))
def vfH (l : List Nd) : List (Rose Lab) → Nat → Int
  | [], _ => -1
  | z :: _, e => vfR l z e
def vfP (l : List Nd) : List (Rose Lab) → Nat → Nat → Int
  | [], _, e => e
  | z :: ks, a, e =>
    if ownB l a e = true ∧ noN l e = some z.lab.2.2.1 then (if vfR l z e < 0 then -1 else vfP l ks a (vfR l z e).toNat)
    else if z.lab.2.2.2.1 = true then -1 else vfP l ks a e
end
def numG : List V → List Blk → Br (V × List (Option Blk))
  | [.i .i64 n], [] => .leaf (.b (numB n), [])
  | _, _ => .no
def leafOKG : List V → List Blk → Br (V × List (Option Blk))
  | [.tp (.pair (.int .i64) (.pair .str (.pair (.int .i64) (.pair .bool (.pair (.int .i64) .unit))))) z 0, .agg [.i .i64 y0, .s y1, .i .i64 y2, .i .i64 y3, .b y4]], [] => .leaf (.b (leafB z.lab y0 y1 y4), [])
  | _, _ => .no
def fitOwnG : List V → List Blk → Br (V × List (Option Blk))
  | [.bx [.i .i64 e] 0, .bx [.sl (.pair (.int .i64) (.pair .str (.pair (.int .i64) (.pair (.int .i64) (.pair .bool .unit))))) l] 0, .bx [.i .i64 a] 0], [] => .need (decide (0 ≤ e ∧ 0 ≤ a)) (.leaf (.b (ownB l a.toNat e.toNat), []))
  | _, _ => .no
theorem numOK_fun (n : Int) : funK Try.prog (look [(66, .rd1 withinG)]) (look []) Try.f164 [.i .i64 n] [] = (.leaf (.b (numB n), []) : Br (V × List (Option Blk))).run := by
  have e : funK Try.prog (look [(66, .rd1 withinG)]) (look []) Try.f164 [.i .i64 n] [] = ((some (V.b (decide ((-1000000000 : Int) ≤ n ∧ n ≤ (1000000000 : Int))), [])) : _) := by kernel_rfl
  rw [e]
  clear e
  unfold numB
  rw [Bool.decide_and]
  rfl
theorem numOK : Contract Try.prog 164 (Ent.rd1 numG).F := by
  refine fun_contract' (KnowsL.cons (enters_fn Try.func66 (by kernel_rfl) (by kernel_rfl)) within KnowsL.nil).knows (Λ := look []) Try.func164 (c := Try.f164.body.getD .skip) (by kernel_rfl) fun vs bs r' hq hv hb => ?_
  unfold Ent.F numG at hq
  dsimp only at hq
  split at hq
  · rename_i n
    exact ⟨loopsOk_nil _, (numOK_fun n).trans hq⟩
  · cases hq
theorem l1Num_fun (n : Int) : funK Try.prog (look [(111, .rd1 withinG)]) (look []) Try.f165 [.i .i64 n] [] = (.leaf (.b (numB n), []) : Br (V × List (Option Blk))).run := by
  have e : funK Try.prog (look [(111, .rd1 withinG)]) (look []) Try.f165 [.i .i64 n] [] = ((some (V.b (decide ((-1000000000 : Int) ≤ n ∧ n ≤ (1000000000 : Int))), [])) : _) := by kernel_rfl
  rw [e]
  clear e
  unfold numB
  rw [Bool.decide_and]
  rfl
theorem l1Num : Contract Try.prog 165 (Ent.rd1 numG).F := by
  refine fun_contract' (KnowsL.cons (enters_fn Try.func111 (by kernel_rfl) (by kernel_rfl)) l1In KnowsL.nil).knows (Λ := look []) Try.func165 (c := Try.f165.body.getD .skip) (by kernel_rfl) fun vs bs r' hq hv hb => ?_
  unfold Ent.F numG at hq
  dsimp only at hq
  split at hq
  · rename_i n
    exact ⟨loopsOk_nil _, (l1Num_fun n).trans hq⟩
  · cases hq
theorem leafOK_fun (z : Rose Lab) (y0 : Int) (y1 : List UInt8) (y2 y3 : Int) (y4 : Bool) : funK Try.prog (look [(66, .rd1 withinG), (164, .rd1 numG)]) (look []) Try.f122 [.tp LCd z 0, .agg [.i .i64 y0, .s y1, .i .i64 y2, .i .i64 y3, .b y4]] [] = (.leaf (.b (leafB z.lab y0 y1 y4), []) : Br (V × List (Option Blk))).run := by
  have e : funK Try.prog (look [(66, .rd1 withinG), (164, .rd1 numG)]) (look []) Try.f122 [.tp LCd z 0, .agg [.i .i64 y0, .s y1, .i .i64 y2, .i .i64 y3, .b y4]] [] = ((ifB y4 (some (V.b false, [])) (ifB (z.lab.fst == (2 : Int)) (ifB (y0 == (0 : Int)) (some (V.b (decide ((↑y1.length : Int) ≤ (30 : Int))), [])) (some (V.b false, []))) (ifB
 (z.lab.fst == (3 : Int)) (ifB (decide ((0 : Int) ≤ y0 ∧ y0 ≤ z.lab.snd.snd.snd.snd.fst)) (some (V.b (y1 == nilT UInt8), [])) (some (V.b false, []))) (ifB (numB y0) (some
 (V.b (y1 == nilT UInt8), [])) (some (V.b false, [])))))) : _) := by kernel_rfl
  rw [e]
  clear e
  unfold leafB
  cases y4 with
  | true => rfl
  | false =>
    rw [if_neg (by simp)]
    by_cases a2 : z.lab.1 = 2
    · rw [if_pos a2, a2]
      cases h : y0 == 0
      · rfl
      · have : decide ((y1.length : Int) ≤ 30) = decide (y1.length ≤ 30) := decide_eq_decide.2 (by omega)
        simp [Br.run, this]
    · rw [if_neg a2, ifB_f, ifB_false (beq_false_of_ne a2)]
      by_cases a3 : z.lab.1 = 3
      · rw [if_pos a3, a3]
        by_cases q : 0 ≤ y0 ∧ y0 ≤ z.lab.2.2.2.2.1
        · rw [decide_eq_true q]; cases y1 == [] <;> rfl
        · rw [decide_eq_false q]; rfl
      · rw [if_neg a3, ifB_false (beq_false_of_ne a3)]
        cases numB y0 <;> cases y1 == [] <;> rfl
theorem leafOK : Contract Try.prog 122 (Ent.rd1 leafOKG).F := by
  refine fun_contract' (KnowsL.cons (enters_fn Try.func66 (by kernel_rfl) (by kernel_rfl)) within (KnowsL.cons (enters_fn Try.func164 (by kernel_rfl) (by kernel_rfl)) numOK KnowsL.nil)).knows (Λ := look []) Try.func122 (c := Try.f122.body.getD .skip) (by kernel_rfl) fun vs bs r' hq hv hb => ?_
  unfold Ent.F leafOKG at hq
  dsimp only at hq
  split at hq
  · rename_i z y0 y1 y2 y3 y4
    exact ⟨loopsOk_nil _, (leafOK_fun z y0 y1 y2 y3 y4).trans hq⟩
  · cases hq
theorem fitOwn_tree (l : List Nd) (a e : Int) : funK Try.prog (look []) (look []) Try.f123 [.bx [.i .i64 e] 0, .bx [.sl NCd l] 0, .bx [.i .i64 a] 0] [] =
  ((ifB (decide (e < (↑l.length : Int))) (ifT (decide ((0 : Int) ≤ e) && decide (e < (↑l.length : Int))) (ifSome l[e.toNat]? fun z => some (V.b (z.snd.snd.snd.fst == a), [])))
 (some (V.b false, []))) : _) := by kernel_rfl
theorem ownB_of {l : List Nd} {a e : Nat} (h : e < l.length) : ownB l a e = (l[e].2.2.2.1 == (a : Int)) := by
  unfold ownB upN
  rw [List.getElem?_eq_getElem h, Option.map_some]
  by_cases q : l[e].2.2.2.1 = (a : Int)
  · rw [q]; simp
  · rw [beq_false_of_ne q, beq_false_of_ne (fun h => q (Option.some.inj h))]
theorem ownB_ge {l : List Nd} {a e : Nat} (h : l.length ≤ e) : ownB l a e = false := by
  unfold ownB upN
  rw [List.getElem?_eq_none h]; rfl
theorem ownB_lt {l : List Nd} {a e : Nat} (h : ownB l a e = true) : e < l.length := by
  by_cases q : e < l.length
  · exact q
  · rw [ownB_ge (by omega)] at h; cases h
theorem fitOwn : Contract Try.prog 123 (Ent.rd1 fitOwnG).F := by
  refine fun_contract' KnowsL.nil.knows (Λ := look []) Try.func123 (c := Try.f123.body.getD .skip) (by kernel_rfl) fun vs bs r hq hv hb => ?_
  unfold Ent.F fitOwnG at hq
  dsimp only at hq
  split at hq
  · rename_i e l a
    obtain ⟨hc, hx⟩ := need_some hq
    obtain ⟨h0, h1⟩ := of_decide_eq_true hc
    obtain ⟨e, rfl⟩ := Int.eq_ofNat_of_zero_le h0
    obtain ⟨a, rfl⟩ := Int.eq_ofNat_of_zero_le h1
    refine ⟨loopsOk_nil _, Eq.trans ?_ hx⟩
    rw [fitOwn_tree]
    simp only [Int.toNat_natCast]
    by_cases q : e < l.length
    · rw [ifB_true (decide_eq_true (by omega)), ifT_true (by simp only [Bool.and_eq_true, decide_eq_true_eq]; omega), List.getElem?_eq_getElem q, ownB_of q]
      rfl
    · rw [ifB_false (decide_eq_false (by omega)), ownB_ge (by omega)]
      rfl
  · cases hq
def vfitN (n : Nat) : List V → List Blk → Br (V × List (Option Blk))
  | [.tp (.pair (.int .i64) (.pair .str (.pair (.int .i64) (.pair .bool (.pair (.int .i64) .unit))))) z 0, .sl (.pair (.int .i64) (.pair .str (.pair (.int .i64) (.pair (.int .i64) (.pair .bool .unit))))) l, .i .i64 a], [] => .need (decide (cntR z ≤ n ∧ cntR z ≤ 1000000 ∧ rightR z = true ∧ 0 ≤ a ∧ a.toNat < l.length ∧ l.length ≤ 4000000000)) (.leaf (.i .i64 (vfR l z a.toNat), []))
  | _, _ => .no
def vfitG : List V → List Blk → Br (V × List (Option Blk))
  | [.tp (.pair (.int .i64) (.pair .str (.pair (.int .i64) (.pair .bool (.pair (.int .i64) .unit))))) z 0, .sl (.pair (.int .i64) (.pair .str (.pair (.int .i64) (.pair (.int .i64) (.pair .bool .unit))))) l, .i .i64 a], [] => .need (decide (cntR z ≤ 1000000 ∧ rightR z = true ∧ 0 ≤ a ∧ a.toNat < l.length ∧ l.length ≤ 4000000000)) (.leaf (.i .i64 (vfR l z a.toNat), []))
  | _, _ => .no
def vfAE (n : Nat) : LoopEnt := ⟨105, [0,4,5,8,9], [8], [6], fun
  | ([.tp (.pair (.int .i64) (.pair .str (.pair (.int .i64) (.pair .bool (.pair (.int .i64) .unit))))) z 0, .ptr 0 0, .ptr 1 0, .ptr 2 0, .fn 123 [] [.ptr 2 0, .ptr 0 0, .ptr 1 0]], [some (.box [.sl (.pair (.int .i64) (.pair .str (.pair (.int .i64) (.pair (.int .i64) (.pair .bool .unit))))) l]), some (.box [.i .i64 a]), some (.box [.i .i64 e])]) => .need (decide (cntL z.kids ≤ n ∧ cntL z.kids ≤ 1000000 ∧ z.kids.length = 1 ∧ rightL z.lab.1 z.kids = true ∧ 0 ≤ a ∧ a < e ∧ e.toNat ≤ l.length ∧ l.length ≤ 4000000000)) (.br (decide (vfI l a.toNat (vfH l z.kids) (l.length - e.toNat) e.toNat < 0)) (.leaf (.ret, ([.i .i64 (-1)], []))) (.leaf (.exit 0, ([.ptr 0 0], [some (.box [.i .i64 (vfI l a.toNat (vfH l z.kids) (l.length - e.toNat) e.toNat)])]))))
  | _ => .no⟩
def vfBE (n : Nat) : LoopEnt := ⟨105, [4,5,8,9,69,70,71], [4,5,8,9], [6], fun
  | ([.ptr 0 0, .ptr 1 0, .ptr 2 0, .fn 123 [] [.ptr 2 0, .ptr 0 0, .ptr 1 0], .sl (.tree (.pair (.int .i64) (.pair .str (.pair (.int .i64) (.pair .bool (.pair (.int .i64) .unit)))))) ks, .i .i64 k, .i .i64 i], [some (.box [.sl (.pair (.int .i64) (.pair .str (.pair (.int .i64) (.pair (.int .i64) (.pair .bool .unit))))) l]), some (.box [.i .i64 a]), some (.box [.i .i64 e])]) => .need (decide (cntL ks ≤ n ∧ cntL ks ≤ 1000000 ∧ rightL 5 ks = true ∧ 0 ≤ i ∧ i.toNat ≤ ks.length ∧ k = ks.length ∧ 0 ≤ a ∧ a < e ∧ e.toNat ≤ l.length ∧ l.length ≤ 4000000000)) (.br (decide (vfP l (ks.drop i.toNat) a.toNat e.toNat < 0)) (.leaf (.ret, ([.i .i64 (-1)], []))) (.leaf (.exit 2, ([.ptr 0 0, .ptr 1 0, .ptr 2 0, .fn 123 [] [.ptr 2 0, .ptr 0 0, .ptr 1 0]], [some (.box [.sl (.pair (.int .i64) (.pair .str (.pair (.int .i64) (.pair (.int .i64) (.pair .bool .unit))))) l]), some (.box [.i .i64 a]), some (.box [.i .i64 (vfP l (ks.drop i.toNat) a.toNat e.toNat)])]))))
  | _ => .no⟩
def vfOn (l : List Nd) (g : Nat → Int) : Prop := ∀ e, e < l.length → g e = -1 ∨ ((e : Int) < g e ∧ g e ≤ l.length)
theorem vfI_bnd {l : List Nd} {a : Nat} {g : Nat → Int} (hg : vfOn l g) : ∀ f e, e ≤ l.length → vfI l a g f e = -1 ∨ ((e : Int) ≤ vfI l a g f e ∧ vfI l a g f e ≤ l.length)
  | 0, e, h => .inr ⟨Int.le_refl _, by rw [vfI]; omega⟩
  | f + 1, e, h => by
    rw [vfI]
    split
    · rename_i ho
      have hl := ownB_lt ho
      split
      · split
        · exact .inl rfl
        · rename_i hn
          rcases hg e hl with h1 | ⟨h1, h2⟩
          · omega
          · rcases vfI_bnd (a := a) hg f (g e).toNat (by omega) with h3 | ⟨h3, h4⟩
            · exact .inl h3
            · exact .inr ⟨by omega, h4⟩
      · exact .inl rfl
    · exact .inr ⟨Int.le_refl _, by omega⟩
theorem vfI_fuel {l : List Nd} {a : Nat} {g : Nat → Int} (hg : vfOn l g) : ∀ f m e, l.length - e ≤ f → l.length - e ≤ m → vfI l a g f e = vfI l a g m e
  | 0, 0, e, _, _ => rfl
  | 0, m + 1, e, h, _ => by rw [vfI, vfI, if_neg (by rw [ownB_ge (by omega)]; simp)]
  | f + 1, 0, e, _, h => by rw [vfI, vfI, if_neg (by rw [ownB_ge (by omega)]; simp)]
  | f + 1, m + 1, e, h1, h2 => by
    rw [vfI, vfI]
    split
    · rename_i ho
      have hl := ownB_lt ho
      split
      · split
        · rfl
        · rename_i hn
          rcases hg e hl with h1 | ⟨h1, h2⟩
          · omega
          · exact vfI_fuel hg f m _ (by omega) (by omega)
      · rfl
    · rfl
mutual
theorem vfR_bnd (l : List Nd) : ∀ z : Rose Lab, vfOn l (vfR l z)
  | .node x ks => fun a h => by
    rw [vfR, List.getElem?_eq_getElem h]
    dsimp only
    split
    · split
      · exact .inr ⟨by omega, by omega⟩
      · exact .inl rfl
    · split
      · exact .inl rfl
      · split
        · rcases vfI_bnd (a := a) (vfH_bnd l ks) l.length (a + 1) h with h3 | ⟨h3, h4⟩
          · exact .inl h3
          · exact .inr ⟨by omega, h4⟩
        · split
          · exact .inl rfl
          · split
            · exact .inl rfl
            · rcases vfP_bnd l ks a (a + 1) h with h3 | ⟨h3, h4⟩
              · exact .inl h3
              · exact .inr ⟨by omega, h4⟩
theorem vfH_bnd (l : List Nd) : ∀ ks : List (Rose Lab), vfOn l (vfH l ks)
  | [] => fun a h => .inl (by rw [vfH])
  | z :: _ => fun a h => by rw [vfH]; exact vfR_bnd l z a h
theorem vfP_bnd (l : List Nd) : ∀ (ks : List (Rose Lab)) (a e : Nat), e ≤ l.length → vfP l ks a e = -1 ∨ ((e : Int) ≤ vfP l ks a e ∧ vfP l ks a e ≤ l.length)
  | [], a, e, h => .inr (by rw [vfP]; omega)
  | z :: ks, a, e, h => by
    rw [vfP]
    split
    · rename_i ho
      have hl := ownB_lt ho.1
      split
      · exact .inl rfl
      · rcases vfR_bnd l z e hl with h1 | ⟨h1, h2⟩
        · omega
        · rcases vfP_bnd l ks a (vfR l z e).toNat (by omega) with h3 | ⟨h3, h4⟩
          · exact .inl h3
          · exact .inr ⟨by omega, h4⟩
    · split
      · exact .inl rfl
      · exact vfP_bnd l ks a e h
end
theorem rightL_mem {k : Int} {z : Rose Lab} : ∀ {l : List (Rose Lab)}, rightL k l = true → z ∈ l → rightR z = true
  | [], _, h => by cases h
  | y :: l, hn, h => by
    rw [rightL, Bool.and_eq_true, Bool.and_eq_true] at hn
    rcases List.mem_cons.1 h with rfl | h
    · exact hn.1.2
    · exact rightL_mem hn.2 h
theorem noN_of {l : List Nd} {e : Nat} (h : e < l.length) : noN l e = some l[e].2.2.1 := by
  unfold noN
  rw [List.getElem?_eq_getElem h]; rfl
theorem vfA_round (n : Nat) (z : Rose Lab) (l : List Nd) (a e : Int) : roundK Try.prog (look [(61, .rd1 (vfitN n)), (110, .rd1 kholdsG), (122, .rd1 leafOKG), (123, .rd1 fitOwnG)]) (look [(11, vfAE n), (19, vfBE n)]) 0 (body Try.f61 0) (vfAE n) ([.tp LCd z 0, .ptr 0 0, .ptr 1 0, .ptr 2 0, .fn 123 [] [.ptr 2 0, .ptr 0 0, .ptr 1 0]], [some (.box [.sl NCd l]), some (.box [.i .i64 a]), some (.box [.i .i64 e])]) =
  ((ifT (decide ((0 : Int) ≤ e ∧ (0 : Int) ≤ a)) (ifB (ownB l a.toNat e.toNat) (ifT (decide ((0 : Int) ≤ e) && decide (e < (↑l.length : Int))) (ifSome l[e.toNat]? fun z_1 =>
 ifB (z_1.snd.snd.fst != (0 : Int)) (some (Ex.ret, [V.i .i64 (-1)], [])) (ifT (decide ((0 : Int) ≤ (0 : Int)) && decide ((0 : Int) < (↑z.kids.length : Int))) (ifSome
 z.kids[(0 : Nat)]? fun z_2 => ifT (decide (cntR z_2 ≤ n ∧ cntR z_2 ≤ (1000000 : Nat) ∧ rightR z_2 = true ∧ (0 : Int) ≤ e ∧ e.toNat < l.length ∧ l.length ≤ (4000000000 :
 Nat))) (ifB (decide (vfR l z_2 e.toNat < (0 : Int))) (some (Ex.ret, [V.i .i64 (-1)], [])) (some (Ex.normal, [V.tp LCd z (0 : Nat), V.ptr 0 0, V.ptr 1 0, V.ptr 2 0, V.fn
 123 [] [V.ptr 2 0, V.ptr 0 0, V.ptr 1 0]], [some (Blk.box [V.sl NCd l]), some (Blk.box [V.i .i64 a]), some (Blk.box [V.i .i64 (vfR l z_2
 e.toNat)])]))))))) (some (Ex.exit 0, [V.ptr 0 0], [some (Blk.box [V.i .i64 e])])))) : _) := by kernel_rfl
theorem vfB_round (n : Nat) (ks : List (Rose Lab)) (l : List Nd) (k i a e : Int) : roundK Try.prog (look [(61, .rd1 (vfitN n)), (110, .rd1 kholdsG), (122, .rd1 leafOKG), (123, .rd1 fitOwnG)]) (look [(11, vfAE n), (19, vfBE n)]) 0 (body Try.f61 1) (vfBE n) ([.ptr 0 0, .ptr 1 0, .ptr 2 0, .fn 123 [] [.ptr 2 0, .ptr 0 0, .ptr 1 0], .sl (.tree LCd) ks, .i .i64 k, .i .i64 i], [some (.box [.sl NCd l]), some (.box [.i .i64 a]), some (.box [.i .i64 e])]) =
  ((ifB (decide (i < k)) (ifT (decide ((0 : Int) ≤ i) && decide (i < (↑ks.length : Int))) (ifSome ks[i.toNat]? fun z => ifT (decide ((0 : Int) ≤ e ∧ (0 : Int) ≤ a)) (ifB (ownB
 l a.toNat e.toNat) (ifT (decide ((0 : Int) ≤ e) && decide (e < (↑l.length : Int))) (ifSome l[e.toNat]? fun z_1 => ifB (z_1.snd.snd.fst == (Rose.lab z).snd.snd.fst) (ifT
 (decide (cntR z ≤ n ∧ cntR z ≤ (1000000 : Nat) ∧ rightR z = true ∧ (0 : Int) ≤ e ∧ e.toNat < l.length ∧ l.length ≤ (4000000000 : Nat))) (ifB (decide (vfR l z e.toNat < (0
 : Int))) (some (Ex.ret, [V.i .i64 (-1)], [])) (some (Ex.normal, [V.ptr 0 0, V.ptr 1 0, V.ptr 2 0, V.fn 123 [] [V.ptr 2 0, V.ptr 0 0, V.ptr 1 0], V.sl
 LCd.tree ks, V.i .i64 k, V.i .i64 (IntKind.i64.wrap (i + (1 : Int)))], [some (Blk.box [V.sl NCd l]), some (Blk.box [V.i .i64 a]), some (Blk.box [V.i .i64 (vfR l z
 e.toNat)])])))) (ifB (Rose.lab z).snd.snd.snd.fst (some (Ex.ret, [V.i .i64 (-1)], [])) (some (Ex.normal, [V.ptr 0 0, V.ptr 1 0, V.ptr 2 0, V.fn 123 []
 [V.ptr 2 0, V.ptr 0 0, V.ptr 1 0], V.sl LCd.tree ks, V.i .i64 k, V.i .i64 (IntKind.i64.wrap (i + (1 : Int)))], [some (Blk.box [V.sl NCd l]), some (Blk.box [V.i .i64 a]),
 some (Blk.box [V.i .i64 e])]))))) (ifB (Rose.lab z).snd.snd.snd.fst (some (Ex.ret, [V.i .i64 (-1)], [])) (some (Ex.normal, [V.ptr 0 0, V.ptr 1 0, V.ptr 2 0, V.fn
 123 [] [V.ptr 2 0, V.ptr 0 0, V.ptr 1 0], V.sl LCd.tree ks, V.i .i64 k, V.i .i64 (IntKind.i64.wrap (i + (1 : Int)))], [some (Blk.box [V.sl NCd l]),
 some (Blk.box [V.i .i64 a]), some (Blk.box [V.i .i64 e])])))))) (some (Ex.exit 2, [V.ptr 0 0, V.ptr 1 0, V.ptr 2 0, V.fn 123 [] [V.ptr 2 0, V.ptr 0 0,
 V.ptr 1 0]], [some (Blk.box [V.sl NCd l]), some (Blk.box [V.i .i64 a]), some (Blk.box [V.i .i64 e])]))) : _) := by kernel_rfl
theorem vf_tree (n : Nat) (z : Rose Lab) (l : List Nd) (a : Int) : funK Try.prog (look [(61, .rd1 (vfitN n)), (110, .rd1 kholdsG), (122, .rd1 leafOKG), (123, .rd1 fitOwnG)]) (look [(11, vfAE n), (19, vfBE n)]) Try.f61 [.tp LCd z 0, .sl NCd l, .i .i64 a] [] =
  ((ifT (decide ((0 : Int) ≤ a) && decide (a < (↑l.length : Int))) (ifSome l[a.toNat]? fun z_1 => ifB (!holdsK z.lab.fst) (ifB (!leafB z.lab z_1.fst z_1.snd.fst
 z_1.snd.snd.snd.snd.fst) (some (V.i .i64 (-1), [])) (some (V.i .i64 (IntKind.i64.wrap (a + (1 : Int))), []))) (ifB (!z_1.snd.snd.snd.snd.fst) (some (V.i .i64 (-1), []))
 (ifB (z_1.fst != (0 : Int)) (some (V.i .i64 (-1), [])) (ifB (!z_1.snd.fst == nilT UInt8) (some (V.i .i64 (-1), [])) (ifB (z.lab.fst == (4 : Int)) (ifT (decide (cntL
 z.kids ≤ n ∧ cntL z.kids ≤ (1000000 : Nat) ∧ z.kids.length = (1 : Nat) ∧ rightL z.lab.fst z.kids = true ∧ (0 : Int) ≤ a ∧ a < IntKind.i64.wrap (a + (1 : Int)) ∧
 (IntKind.i64.wrap (a + (1 : Int))).toNat ≤ l.length ∧ l.length ≤ (4000000000 : Nat))) (ifB (decide (vfI l a.toNat (vfH l z.kids) (l.length - (IntKind.i64.wrap (a + (1 :
 Int))).toNat) (IntKind.i64.wrap (a + (1 : Int))).toNat < (0 : Int))) (some (V.i .i64 (-1), [])) (some (V.i .i64 (vfI l a.toNat (vfH l z.kids) (l.length -
 (IntKind.i64.wrap (a + (1 : Int))).toNat) (IntKind.i64.wrap (a + (1 : Int))).toNat), [])))) (ifT (decide (cntL z.kids ≤ n ∧ cntL z.kids ≤ (1000000 : Nat) ∧ rightL (5 :
 Int) z.kids = true ∧ (0 : Int) ≤ (0 : Int) ∧ (0 : Nat) ≤ z.kids.length ∧ (↑z.kids.length : Int) = (↑z.kids.length : Int) ∧ (0 : Int) ≤ a ∧ a < IntKind.i64.wrap (a + (1 :
 Int)) ∧ (IntKind.i64.wrap (a + (1 : Int))).toNat ≤ l.length ∧ l.length ≤ (4000000000 : Nat))) (ifB (decide (vfP l (List.drop (0 : Nat) z.kids) a.toNat (IntKind.i64.wrap
 (a + (1 : Int))).toNat < (0 : Int))) (some (V.i .i64 (-1), [])) (ifT (decide ((0 : Int) ≤ vfP l (List.drop (0 : Nat) z.kids) a.toNat (IntKind.i64.wrap (a + (1 :
 Int))).toNat ∧ (0 : Int) ≤ a)) (ifB (ownB l a.toNat (vfP l (List.drop (0 : Nat) z.kids) a.toNat (IntKind.i64.wrap (a + (1 : Int))).toNat).toNat) (some (V.i .i64 (-1),
 [])) (some (V.i .i64 (vfP l (List.drop (0 : Nat) z.kids) a.toNat (IntKind.i64.wrap (a + (1 : Int))).toNat), [])))))))))))) : _) := by kernel_rfl
theorem vfA_loop (n : Nat) (z y : Rose Lab) (l : List Nd) (a : Nat) (hk : z.kids = [y]) (g1 : cntR y ≤ n) (g2 : cntR y ≤ 1000000) (g3 : rightR y = true) (hl : l.length ≤ 4000000000) : ∀ (j e : Nat), e + j = l.length → a < e → ∀ ex d, (.br (decide (vfI l a (vfH l z.kids) (l.length - e) e < 0)) (.leaf (.ret, ([.i .i64 (-1)], []))) (.leaf (.exit 0, ([.ptr 0 0], [some (.box [.i .i64 (vfI l a (vfH l z.kids) (l.length - e) e)])]))) : Br (Ex × Dt)).run = some (ex, d) →
    Runs Try.prog (look [(61, .rd1 (vfitN n)), (110, .rd1 kholdsG), (122, .rd1 leafOKG), (123, .rd1 fitOwnG)]) (look [(11, vfAE n), (19, vfBE n)]) 0 (body Try.f61 0) (vfAE n) ([.tp LCd z 0, .ptr 0 0, .ptr 1 0, .ptr 2 0, .fn 123 [] [.ptr 2 0, .ptr 0 0, .ptr 1 0]], [some (.box [.sl NCd l]), some (.box [.i .i64 (a : Int)]), some (.box [.i .i64 (e : Int)])]) ex d := by
  intro j
  induction j using Nat.strongRecOn with
  | ind j ih =>
    intro e he hae ex d h
    have hr := vfA_round n z l a e
    rw [br_run] at h
    rw [ifT_true (decide_eq_true (by omega))] at hr
    simp only [Int.toNat_natCast] at hr
    cases ho : ownB l a e with
    | false =>
      have hv : ∀ f, vfI l a (vfH l z.kids) f e = e := fun f => by cases f <;> rw [vfI]; rw [if_neg (by rw [ho]; simp)]
      rw [hv, if_neg (by omega)] at h
      have h8 := leaf_some h
      obtain ⟨rfl, rfl⟩ := Prod.mk.inj h8
      rw [ho, ifB_f] at hr
      exact .stop _ _ _ hr (by simp)
    | true =>
      have h1 := ownB_lt ho
      obtain ⟨f, hf⟩ : ∃ f, l.length - e = f + 1 := ⟨l.length - e - 1, by omega⟩
      rw [hf, vfI, if_pos ho, noN_of h1, hk, vfH] at h
      rw [ho, ifB_t, ifT_true (by simp only [Bool.and_eq_true, decide_eq_true_eq]; omega), List.getElem?_eq_getElem h1, ifSome_s] at hr
      by_cases q : l[e].2.2.1 = 0
      · have hk0 : z.kids[(0 : Nat)]? = some y := by rw [hk]; rfl
        have hk1 : z.kids.length = 1 := by rw [hk]; rfl
        rw [ifB_false (by simp [q]), ifT_true (by rw [hk1]; rfl), hk0, ifSome_s, ifT_true (decide_eq_true ⟨g1, g2, g3, by omega, h1, hl⟩)] at hr
        rw [q, if_pos rfl] at h
        by_cases q2 : vfR l y e < 0
        · rw [if_pos q2, if_pos (by omega)] at h
          have h8 := leaf_some h
          obtain ⟨rfl, rfl⟩ := Prod.mk.inj h8
          rw [ifB_true (decide_eq_true q2)] at hr
          exact .stop _ _ _ hr (by simp)
        · rw [if_neg q2] at h
          rw [ifB_false (decide_eq_false q2)] at hr
          rcases vfR_bnd l y e h1 with b1 | ⟨b1, b2⟩
          · omega
          obtain ⟨e', he'⟩ := Int.eq_ofNat_of_zero_le (by omega : 0 ≤ vfR l y e)
          rw [he'] at hr h b1 b2
          rw [Int.toNat_natCast, vfI_fuel (vfH_bnd l [y]) f (l.length - e') e' (by omega) (by omega), ← hk] at h
          exact .step _ _ _ _ hr (ih (l.length - e') (by omega) e' (by omega) (by omega) ex d (by rw [br_run]; exact h))
      · have hv : (if some l[e].2.2.1 = some (0 : Int) then (if vfR l y e < 0 then (-1 : Int) else vfI l a (vfH l [y]) f (vfR l y e).toNat) else -1) = -1 := if_neg (by simpa using q)
        rw [hv, if_pos (by omega)] at h
        have h8 := leaf_some h
        obtain ⟨rfl, rfl⟩ := Prod.mk.inj h8
        rw [ifB_true (by simpa using q)] at hr
        exact .stop _ _ _ hr (by simp)
theorem vfA_ok (n : Nat) : ∀ d e d', ((vfAE n).L d).run = some (e, d') → Runs Try.prog (look [(61, .rd1 (vfitN n)), (110, .rd1 kholdsG), (122, .rd1 leafOKG), (123, .rd1 fitOwnG)]) (look [(11, vfAE n), (19, vfBE n)]) 0 (body Try.f61 0) (vfAE n) d e d' := fun d ex d' h => by
  unfold vfAE at h
  dsimp only at h
  split at h
  · rename_i z l a e
    obtain ⟨hc, hx⟩ := need_some h
    clear h
    obtain ⟨g1, g2, g3, g4, h0, h1, h2, h3⟩ := of_decide_eq_true hc
    obtain ⟨a, rfl⟩ := Int.eq_ofNat_of_zero_le h0
    obtain ⟨e, rfl⟩ := Int.eq_ofNat_of_zero_le (by omega : 0 ≤ e)
    obtain ⟨y, hy⟩ := List.length_eq_one_iff.1 g3
    rw [hy] at g1 g2 g4
    rw [cntL, cntL] at g1 g2
    rw [rightL, Bool.and_eq_true, Bool.and_eq_true] at g4
    simp only [Int.toNat_natCast] at h2 hx
    exact vfA_loop n z y l a hy (by omega) (by omega) g4.1.2 h3 (l.length - e) e (by omega) (by omega) ex d' hx
  · cases h
theorem vfB_loop (n : Nat) (ks : List (Rose Lab)) (l : List Nd) (a : Nat) (g1 : cntL ks ≤ n) (g2 : cntL ks ≤ 1000000) (g3 : rightL 5 ks = true) (hl : l.length ≤ 4000000000) : ∀ (j i e : Nat), i + j = ks.length → a < e → e ≤ l.length → ∀ ex d, (.br (decide (vfP l (ks.drop i) a e < 0)) (.leaf (.ret, ([.i .i64 (-1)], []))) (.leaf (.exit 2, ([.ptr 0 0, .ptr 1 0, .ptr 2 0, .fn 123 [] [.ptr 2 0, .ptr 0 0, .ptr 1 0]], [some (.box [.sl NCd l]), some (.box [.i .i64 (a : Int)]), some (.box [.i .i64 (vfP l (ks.drop i) a e)])]))) : Br (Ex × Dt)).run = some (ex, d) →
    Runs Try.prog (look [(61, .rd1 (vfitN n)), (110, .rd1 kholdsG), (122, .rd1 leafOKG), (123, .rd1 fitOwnG)]) (look [(11, vfAE n), (19, vfBE n)]) 0 (body Try.f61 1) (vfBE n) ([.ptr 0 0, .ptr 1 0, .ptr 2 0, .fn 123 [] [.ptr 2 0, .ptr 0 0, .ptr 1 0], .sl (.tree LCd) ks, .i .i64 (ks.length : Int), .i .i64 (i : Int)], [some (.box [.sl NCd l]), some (.box [.i .i64 (a : Int)]), some (.box [.i .i64 (e : Int)])]) ex d
  | 0, i, e, hi, hae, he, ex, d, h => by
    have hr := vfB_round n ks l ks.length i a e
    rw [List.drop_eq_nil_of_le (by omega), vfP, br_run, if_neg (by omega)] at h
    have h8 := leaf_some h
    obtain ⟨rfl, rfl⟩ := Prod.mk.inj h8
    rw [ifB_false (decide_eq_false (by omega))] at hr
    exact .stop _ _ _ hr (by simp)
  | j + 1, i, e, hi, hae, he, ex, d, h => by
    have hil : i < ks.length := by omega
    have hlen := cnt_len ks
    have hmem := cnt_mem (List.getElem_mem hil)
    have hM : maxI = 9223372036854775807 := rfl
    have hri : rightR ks[i] = true := rightL_mem g3 (List.getElem_mem hil)
    have hr := vfB_round n ks l ks.length i a e
    rw [ifB_true (decide_eq_true (by omega)), ifT_true (by simp only [Bool.and_eq_true, decide_eq_true_eq]; omega)] at hr
    simp only [Int.toNat_natCast, List.getElem?_eq_getElem hil, ifSome_s, wrap_succ (n := i) (by omega)] at hr
    rw [ifT_true (decide_eq_true (by omega))] at hr
    rw [List.drop_eq_getElem_cons hil, vfP] at h
    have must : ∀ {x : Option (Ex × Dt)}, x = (bif ks[i].lab.2.2.2.1 then some (Ex.ret, [V.i .i64 (-1)], []) else some (Ex.normal, [.ptr 0 0, .ptr 1 0, .ptr 2 0, .fn 123 [] [.ptr 2 0, .ptr 0 0, .ptr 1 0], .sl (.tree LCd) ks, .i .i64 (ks.length : Int), .i .i64 ((i + 1 : Nat) : Int)], [some (.box [.sl NCd l]), some (.box [.i .i64 (a : Int)]), some (.box [.i .i64 (e : Int)])])) →
        (Br.br (decide ((if ks[i].lab.2.2.2.1 = true then -1 else vfP l (ks.drop (i + 1)) a e) < 0)) (.leaf (.ret, ([.i .i64 (-1)], []))) (.leaf (.exit 2, ([.ptr 0 0, .ptr 1 0, .ptr 2 0, .fn 123 [] [.ptr 2 0, .ptr 0 0, .ptr 1 0]], [some (.box [.sl NCd l]), some (.box [.i .i64 (a : Int)]), some (.box [.i .i64 (if ks[i].lab.2.2.2.1 = true then -1 else vfP l (ks.drop (i + 1)) a e)])]))) : Br (Ex × Dt)).run = some (ex, d) →
        roundK Try.prog (look [(61, .rd1 (vfitN n)), (110, .rd1 kholdsG), (122, .rd1 leafOKG), (123, .rd1 fitOwnG)]) (look [(11, vfAE n), (19, vfBE n)]) 0 (body Try.f61 1) (vfBE n) ([.ptr 0 0, .ptr 1 0, .ptr 2 0, .fn 123 [] [.ptr 2 0, .ptr 0 0, .ptr 1 0], .sl (.tree LCd) ks, .i .i64 (ks.length : Int), .i .i64 (i : Int)], [some (.box [.sl NCd l]), some (.box [.i .i64 (a : Int)]), some (.box [.i .i64 (e : Int)])]) = x → Runs Try.prog (look [(61, .rd1 (vfitN n)), (110, .rd1 kholdsG), (122, .rd1 leafOKG), (123, .rd1 fitOwnG)]) (look [(11, vfAE n), (19, vfBE n)]) 0 (body Try.f61 1) (vfBE n) ([.ptr 0 0, .ptr 1 0, .ptr 2 0, .fn 123 [] [.ptr 2 0, .ptr 0 0, .ptr 1 0], .sl (.tree LCd) ks, .i .i64 (ks.length : Int), .i .i64 (i : Int)], [some (.box [.sl NCd l]), some (.box [.i .i64 (a : Int)]), some (.box [.i .i64 (e : Int)])]) ex d := fun hx h hr => by
      cases hm : ks[i].lab.2.2.2.1 with
      | true =>
        rw [hm, if_pos rfl, br_run, if_pos (by omega)] at h
        have h8 := leaf_some h
        obtain ⟨rfl, rfl⟩ := Prod.mk.inj h8
        rw [hm, cond_true] at hx
        exact .stop _ _ _ (hr.trans hx) (by simp)
      | false =>
        rw [hm, if_neg (by simp)] at h
        rw [hm, cond_false] at hx
        exact .step _ _ _ _ (hr.trans hx) (vfB_loop n ks l a g1 g2 g3 hl j (i + 1) e (by omega) hae he ex d h)
    cases ho : ownB l a e with
    | false =>
      rw [ho, if_neg (by simp)] at h
      rw [ho, ifB_f] at hr
      exact must rfl h (hr.trans (by cases ks[i].lab.2.2.2.1 <;> rfl))
    | true =>
      have h1 := ownB_lt ho
      rw [ho, ifB_t, ifT_true (by simp only [Bool.and_eq_true, decide_eq_true_eq]; omega), List.getElem?_eq_getElem h1, ifSome_s] at hr
      rw [ho, noN_of h1] at h
      by_cases q : l[e].2.2.1 = ks[i].lab.2.2.1
      · rw [ifB_true (by rw [q]; exact beq_self_eq_true _), ifT_true (decide_eq_true ⟨by omega, by omega, hri, by omega, h1, hl⟩)] at hr
        rw [q, if_pos ⟨rfl, rfl⟩] at h
        by_cases q2 : vfR l ks[i] e < 0
        · rw [if_pos q2, br_run, if_pos (by omega)] at h
          have h8 := leaf_some h
          obtain ⟨rfl, rfl⟩ := Prod.mk.inj h8
          rw [ifB_true (decide_eq_true q2)] at hr
          exact .stop _ _ _ hr (by simp)
        · rw [if_neg q2] at h
          rw [ifB_false (decide_eq_false q2)] at hr
          rcases vfR_bnd l ks[i] e h1 with b1 | ⟨b1, b2⟩
          · omega
          obtain ⟨e', he'⟩ := Int.eq_ofNat_of_zero_le (by omega : 0 ≤ vfR l ks[i] e)
          rw [he'] at hr h b1 b2
          rw [Int.toNat_natCast] at h
          exact .step _ _ _ _ hr (vfB_loop n ks l a g1 g2 g3 hl j (i + 1) e' (by omega) (by omega) (by omega) ex d h)
      · rw [if_neg (fun hh => q (Option.some.inj hh.2))] at h
        rw [ifB_false (beq_false_of_ne q)] at hr
        exact must rfl h (hr.trans (by cases ks[i].lab.2.2.2.1 <;> rfl))
theorem vfB_ok (n : Nat) : ∀ d e d', ((vfBE n).L d).run = some (e, d') → Runs Try.prog (look [(61, .rd1 (vfitN n)), (110, .rd1 kholdsG), (122, .rd1 leafOKG), (123, .rd1 fitOwnG)]) (look [(11, vfAE n), (19, vfBE n)]) 0 (body Try.f61 1) (vfBE n) d e d' := fun d ex d' h => by
  unfold vfBE at h
  dsimp only at h
  split at h
  · rename_i ks k i l a e
    obtain ⟨hc, hx⟩ := need_some h
    clear h
    obtain ⟨g1, g2, g3, h0, h1, rfl, h2, h3, h4, h5⟩ := of_decide_eq_true hc
    obtain ⟨a, rfl⟩ := Int.eq_ofNat_of_zero_le h2
    obtain ⟨e, rfl⟩ := Int.eq_ofNat_of_zero_le (by omega : 0 ≤ e)
    obtain ⟨i, rfl⟩ := Int.eq_ofNat_of_zero_le h0
    simp only [Int.toNat_natCast] at h1 h4 hx
    exact vfB_loop n ks l a g1 g2 g3 h5 (ks.length - i) i e (by omega) (by omega) h4 ex d' hx
  · cases h
theorem vf_ok (n : Nat) : LoopsOk Try.prog (look [(61, .rd1 (vfitN n)), (110, .rd1 kholdsG), (122, .rd1 leafOKG), (123, .rd1 fitOwnG)]) (look [(11, vfAE n), (19, vfBE n)]) 0 (Try.f61.body.getD .skip) :=
  LoopsI.loops (.cons (a := body Try.f61 0) (by kernel_rfl) (vfA_ok n) (.cons (a := body Try.f61 1) (by kernel_rfl) (vfB_ok n) .nil)) (by kernel_rfl)
theorem vfR_eq {l : List Nd} {a : Nat} (z : Rose Lab) (h : a < l.length) : vfR l z a = (if holdsK z.lab.1 = false then (if leafB z.lab l[a].1 l[a].2.1 l[a].2.2.2.2.1 = true then (a : Int) + 1 else -1)
      else if (!l[a].2.2.2.2.1 || l[a].1 != 0 || l[a].2.1 != []) = true then -1
      else if z.lab.1 = 4 then vfI l a (vfH l z.kids) l.length (a + 1) else (if vfP l z.kids a (a + 1) < 0 then -1 else if ownB l a (vfP l z.kids a (a + 1)).toNat = true then -1 else vfP l z.kids a (a + 1))) := by
  cases z
  rw [vfR, List.getElem?_eq_getElem h]
  rfl
theorem rightR_parts {z : Rose Lab} (h : rightR z = true) : partsB z.lab z.kids = true ∧ rightL z.lab.1 z.kids = true := by
  cases z
  rw [rightR, Bool.and_eq_true] at h
  exact h
theorem vf_fun (n : Nat) (z : Rose Lab) (l : List Nd) (a : Int) (hc : cntR z ≤ n + 1 ∧ cntR z ≤ 1000000 ∧ rightR z = true ∧ 0 ≤ a ∧ a.toNat < l.length ∧ l.length ≤ 4000000000) : funK Try.prog (look [(61, .rd1 (vfitN n)), (110, .rd1 kholdsG), (122, .rd1 leafOKG), (123, .rd1 fitOwnG)]) (look [(11, vfAE n), (19, vfBE n)]) Try.f61 [.tp LCd z 0, .sl NCd l, .i .i64 a] [] = some (.i .i64 (vfR l z a.toNat), []) := by
  rw [vf_tree]
  obtain ⟨g1, g2, g3, h0, h1, h2⟩ := hc
  obtain ⟨a, rfl⟩ := Int.eq_ofNat_of_zero_le h0
  rw [Int.toNat_natCast] at h1
  obtain ⟨hp, hrr⟩ := rightR_parts g3
  have hM : maxI = 9223372036854775807 := rfl
  have hw : IntKind.i64.wrap ((a : Int) + 1) = ((a + 1 : Nat) : Int) := wrap_succ (by omega)
  rw [ifT_true (by simp only [Bool.and_eq_true, decide_eq_true_eq]; omega), hw, Int.toNat_natCast, Int.toNat_natCast, List.getElem?_eq_getElem h1, ifSome_s, vfR_eq z h1]
  have hlen := cnt_len z.kids
  have hck := cnt_kids z
  cases hh : holdsK z.lab.1 with
  | false =>
    cases leafB z.lab l[a].1 l[a].2.1 l[a].2.2.2.2.1 <;> rfl
  | true =>
    rw [Bool.not_true, ifB_f, if_neg (by simp)]
    cases l[a].2.2.2.2.1 with
    | false => rfl
    | true =>
      cases q1 : l[a].1 != 0 with
      | true => rfl
      | false =>
        have e2 : (l[a].2.1 != ([] : List UInt8)) = !(l[a].2.1 == nilT UInt8) := rfl
        rw [e2]
        cases q2 : l[a].2.1 == nilT UInt8 with
        | false => rfl
        | true =>
          rw [Bool.not_true, ifB_f, ifB_f, ifB_f, if_neg (by simp)]
          by_cases q4 : z.lab.1 = 4
          · have hk1 : z.kids.length = 1 := by
              unfold partsB at hp
              rw [if_neg (by omega), if_neg (by omega), if_pos q4, Bool.and_eq_true] at hp
              simpa using hp.2
            rw [if_pos q4, ifB_true (by rw [q4]; rfl), ifT_true (decide_eq_true ⟨by omega, by omega, hk1, hrr, by omega, by omega, by omega, h2⟩)]
            rw [vfI_fuel (vfH_bnd l z.kids) l.length (l.length - (a + 1)) (a + 1) (by omega) (by omega)]
            by_cases q5 : vfI l a (vfH l z.kids) (l.length - (a + 1)) (a + 1) < 0
            · rw [ifB_true (decide_eq_true q5)]
              rcases vfI_bnd (a := a) (vfH_bnd l z.kids) (l.length - (a + 1)) (a + 1) (by omega) with b | b
              · rw [b]
              · omega
            · rw [ifB_false (decide_eq_false q5)]
          · have h5 : z.lab.1 = 5 := by
              unfold holdsK at hh
              simp only [Bool.or_eq_true, beq_iff_eq] at hh
              omega
            rw [h5] at hrr
            rw [if_neg q4, ifB_false (beq_false_of_ne q4), ifT_true (decide_eq_true ⟨by omega, by omega, hrr, by omega, by omega, rfl, by omega, by omega, by omega, h2⟩), List.drop_zero]
            rcases vfP_bnd l z.kids a (a + 1) (by omega) with b | ⟨b1, b2⟩
            · rw [b]; rfl
            · rw [ifB_false (decide_eq_false (by omega)), if_neg (by omega), ifT_true (decide_eq_true ⟨by omega, by omega⟩)]
              cases ownB l a (vfP l z.kids a (a + 1)).toNat <;> rfl
theorem vf_con : ∀ n, (∀ m, m < n → Contract Try.prog 61 (Ent.rd1 (vfitN m)).F) → Contract Try.prog 61 (Ent.rd1 (vfitN n)).F
  | 0, _ => contract_no fun vs bs => by
    unfold Ent.F vfitN
    dsimp only
    split
    · rename_i z l a
      have : decide (cntR z ≤ 0 ∧ cntR z ≤ 1000000 ∧ rightR z = true ∧ 0 ≤ a ∧ a.toNat < l.length ∧ l.length ≤ 4000000000) = false := decide_eq_false (by have := cnt_pos z; omega)
      rw [this]; rfl
    · rfl
  | n + 1, ih => by
    refine fun_contract' (KnowsL.cons (enters_fn Try.func61 (by kernel_rfl) (by kernel_rfl)) (ih n (Nat.lt_succ_self n)) (KnowsL.cons (enters_fn Try.func110 (by kernel_rfl) (by kernel_rfl)) kholds (KnowsL.cons (enters_fn Try.func122 (by kernel_rfl) (by kernel_rfl)) leafOK (KnowsL.cons (enters_fn Try.func123 (by kernel_rfl) (by kernel_rfl)) fitOwn KnowsL.nil)))).knows (Λ := (look [(11, vfAE n), (19, vfBE n)])) Try.func61 (c := Try.f61.body.getD .skip) (by kernel_rfl) fun vs bs r hq hv hb => ?_
    unfold Ent.F vfitN at hq
    dsimp only at hq
    split at hq
    · rename_i z l a
      obtain ⟨hc, hx⟩ := need_some hq
      exact ⟨vf_ok n, (vf_fun n z l a (of_decide_eq_true hc)).trans hx⟩
    · cases hq
theorem vfit : Contract Try.prog 61 (Ent.rd1 vfitG).F := by
  refine contract_rec (F := fun n => (Ent.rd1 (vfitN n)).F) vf_con fun vs bs r h => ?_
  unfold Ent.F vfitG at h
  dsimp only at h
  split at h
  · rename_i z l a
    obtain ⟨hc, hx⟩ := need_some h
    refine ⟨cntR z, ?_⟩
    show (Br.need (decide (cntR z ≤ cntR z ∧ cntR z ≤ 1000000 ∧ rightR z = true ∧ 0 ≤ a ∧ a.toNat < l.length ∧ l.length ≤ 4000000000)) (.leaf (.i .i64 (vfR l z a.toNat), []))).run = some r
    have : decide (cntR z ≤ cntR z ∧ cntR z ≤ 1000000 ∧ rightR z = true ∧ 0 ≤ a ∧ a.toNat < l.length ∧ l.length ≤ 4000000000) = true := decide_eq_true ⟨Nat.le_refl _, of_decide_eq_true hc⟩
    rw [this]
    exact hx
  · cases h
def upIs (v : List Nd) (e : Nat) (x : Int) : Bool := upN v e == some x
/-- Whether nodes fit a type as a whole. -/
def vfitsB (z : Rose Lab) (v : List Nd) : Bool := decide (1 ≤ v.length ∧ v.length ≤ 40) && (upN v 0 == some (-1) && (noN v 0 == some 0 && decide (vfR v z 0 = v.length)))
def fitsB (v : List Nd) (l : List Ty) : Bool := kindB l && vfitsB (kf l 0).1 v
def kfitsG : List V → List Blk → Br (V × List (Option Blk))
  | [.tp (.pair (.int .i64) (.pair .str (.pair (.int .i64) (.pair .bool (.pair (.int .i64) .unit))))) z 0, .agg [.sl (.pair (.int .i64) (.pair .str (.pair (.int .i64) (.pair (.int .i64) (.pair .bool .unit))))) v]], [] => .need (decide (cntR z ≤ 1000000 ∧ rightR z = true)) (.leaf (.b (vfitsB z v), []))
  | _, _ => .no
def fitsG : List V → List Blk → Br (V × List (Option Blk))
  | [.agg [.sl (.pair (.int .i64) (.pair .str (.pair (.int .i64) (.pair (.int .i64) (.pair .bool .unit))))) v], .agg [.sl (.pair (.int .i64) (.pair .str (.pair (.int .i64) (.pair .bool (.pair (.int .i64) (.pair (.int .i64) .unit)))))) l]], [] => .need (decide (l.length ≤ 4000000000) && nmL l) (.leaf (.b (fitsB v l), []))
  | _, _ => .no
theorem kfits_fun (z : Rose Lab) (v : List Nd) (hc : cntR z ≤ 1000000 ∧ rightR z = true) : funK Try.prog (look [(66, .rd1 withinG), (61, .rd1 vfitG)]) (look []) Try.f54 [.tp LCd z 0, .agg [.sl NCd v]] [] = some (.b (vfitsB z v), []) := by
  have e : funK Try.prog (look [(66, .rd1 withinG), (61, .rd1 vfitG)]) (look []) Try.f54 [.tp LCd z 0, .agg [.sl NCd v]] [] = ((ifB (decide ((1 : Int) ≤ (↑v.length : Int) ∧ (↑v.length : Int) ≤ (40 : Int))) (ifT (decide ((0 : Int) ≤ (0 : Int)) && decide ((0 : Int) < (↑v.length : Int))) (ifSome v[(0
 : Nat)]? fun z_1 => ifB (z_1.snd.snd.snd.fst == (-1 : Int)) (ifT (decide ((0 : Int) ≤ (0 : Int)) && decide ((0 : Int) < (↑v.length : Int))) (ifSome v[(0 : Nat)]? fun z_2
 => ifB (z_2.snd.snd.fst == (0 : Int)) (ifT (decide (cntR z ≤ (1000000 : Nat) ∧ rightR z = true ∧ (0 : Int) ≤ (0 : Int) ∧ (0 : Nat) < v.length ∧ v.length ≤ (4000000000 :
 Nat))) (some (V.b (vfR v z (0 : Nat) == (↑v.length : Int)), []))) (some (V.b false, [])))) (some (V.b false, [])))) (some (V.b false, []))) : _) := by kernel_rfl
  rw [e]
  clear e
  unfold vfitsB
  have d1 : decide ((1 : Int) ≤ (v.length : Int) ∧ (v.length : Int) ≤ 40) = decide (1 ≤ v.length ∧ v.length ≤ 40) := decide_eq_decide.2 (by omega)
  rw [d1]
  by_cases a1 : 1 ≤ v.length ∧ v.length ≤ 40
  · have h0 : 0 < v.length := by omega
    rw [decide_eq_true a1]
    have hz : decide ((0 : Int) < (v.length : Int)) = true := decide_eq_true (by omega)
    have hn : decide (cntR z ≤ 1000000 ∧ rightR z = true ∧ (0 : Int) ≤ 0 ∧ 0 < v.length ∧ v.length ≤ 4000000000) = true := decide_eq_true ⟨hc.1, hc.2, by omega, h0, by omega⟩
    have hu : upN v 0 = some v[0].2.2.2.1 := by unfold upN; rw [List.getElem?_eq_getElem h0]; rfl
    have he : (vfR v z 0 == (v.length : Int)) = decide (vfR v z 0 = v.length) := Bool.eq_iff_iff.2 (by simp)
    have h1 : ∀ a b : Int, (some a == some b) = (a == b) := fun a b => rfl
    rw [hz, hn, List.getElem?_eq_getElem h0, hu, noN_of h0, he, h1, h1]
    simp only [ifB_t, ifSome_s, Bool.true_and]
    cases v[0].2.2.2.1 == -1 <;> cases v[0].2.2.1 == 0 <;> rfl
  · rw [decide_eq_false a1]; rfl
theorem kfits : Contract Try.prog 54 (Ent.rd1 kfitsG).F := by
  refine fun_contract' (KnowsL.cons (enters_fn Try.func66 (by kernel_rfl) (by kernel_rfl)) within (KnowsL.cons (enters_fn Try.func61 (by kernel_rfl) (by kernel_rfl)) vfit KnowsL.nil)).knows (Λ := look []) Try.func54 (c := Try.f54.body.getD .skip) (by kernel_rfl) fun vs bs r hq hv hb => ?_
  unfold Ent.F kfitsG at hq
  dsimp only at hq
  split at hq
  · rename_i z v
    obtain ⟨hc, hx⟩ := need_some hq
    exact ⟨loopsOk_nil _, (kfits_fun z v (of_decide_eq_true hc)).trans hx⟩
  · cases hq
theorem fits_tree (v : List Nd) (l : List Ty) : funK Try.prog (look [(48, .rd1 kindOfG), (54, .rd1 kfitsG)]) (look []) Try.f11 [.agg [.sl NCd v], .agg [.sl TCd l]] [] =
  ((ifT (decide (l.length ≤ (4000000000 : Nat)) && nmL l) (ifB (kindB l) (ifT (decide (cntR (Rose.node ((kf l (0 : Nat)).fst.lab.fst, (kf l (0 : Nat)).fst.lab.snd.fst, (kf l
 (0 : Nat)).fst.lab.snd.snd.fst, (kf l (0 : Nat)).fst.lab.snd.snd.snd.fst, (kf l (0 : Nat)).fst.lab.snd.snd.snd.snd.fst, ()) (List.take (kf l (0 : Nat)).fst.kids.length
 (List.drop (0 : Nat) (kf l (0 : Nat)).fst.kids))) ≤ (1000000 : Nat) ∧ rightR (Rose.node ((kf l (0 : Nat)).fst.lab.fst, (kf l (0 : Nat)).fst.lab.snd.fst, (kf l (0 :
 Nat)).fst.lab.snd.snd.fst, (kf l (0 : Nat)).fst.lab.snd.snd.snd.fst, (kf l (0 : Nat)).fst.lab.snd.snd.snd.snd.fst, ()) (List.take (kf l (0 : Nat)).fst.kids.length
 (List.drop (0 : Nat) (kf l (0 : Nat)).fst.kids))) = true)) (some (V.b (vfitsB (Rose.node ((kf l (0 : Nat)).fst.lab.fst, (kf l (0 : Nat)).fst.lab.snd.fst, (kf l (0 :
 Nat)).fst.lab.snd.snd.fst, (kf l (0 : Nat)).fst.lab.snd.snd.snd.fst, (kf l (0 : Nat)).fst.lab.snd.snd.snd.snd.fst, ()) (List.take (kf l (0 : Nat)).fst.kids.length
 (List.drop (0 : Nat) (kf l (0 : Nat)).fst.kids))) v), []))) (some (V.b false, [])))) : _) := by kernel_rfl
theorem kindB_facts {l : List Ty} (h : kindB l = true) : cntR (kf l 0).1 ≤ 1000000 ∧ rightR (kf l 0).1 = true := by
  unfold kindB at h
  simp only [Bool.and_eq_true, decide_eq_true_eq] at h
  obtain ⟨⟨⟨h1, _⟩, h3⟩, h4⟩ := h
  have hl : 0 < l.length := by omega
  have hc := kf_cnt hl
  have hb := kf_bnd l 0 hl
  refine ⟨by omega, ?_⟩
  unfold goodR at h4
  simp only [Bool.and_eq_true] at h4
  exact h4.1.1.2
theorem ifits : Contract Try.prog 11 (Ent.rd1 fitsG).F := by
  refine fun_contract' (KnowsL.cons (enters_fn Try.func48 (by kernel_rfl) (by kernel_rfl)) kindOf (KnowsL.cons (enters_fn Try.func54 (by kernel_rfl) (by kernel_rfl)) kfits KnowsL.nil)).knows (Λ := look []) Try.func11 (c := Try.f11.body.getD .skip) (by kernel_rfl) fun vs bs r hq hv hb => ?_
  unfold Ent.F fitsG at hq
  dsimp only at hq
  split at hq
  · rename_i v l
    obtain ⟨hc, hx⟩ := need_some hq
    refine ⟨loopsOk_nil _, Eq.trans ?_ hx⟩
    rw [fits_tree, hc, ifT_t, rose_eta]
    unfold fitsB
    cases hk : kindB l with
    | false => rfl
    | true =>
      rw [decide_eq_true (kindB_facts hk)]
      rfl
  · cases hq
/-- A node of a value by itself. -/
abbrev VLab := Int × List UInt8 × Int × Bool × Unit
def nlabAt (l : List Nd) (i : Nat) : VLab := match l[i]? with | some x => (x.1, x.2.1, x.2.2.1, x.2.2.2.2.1, ()) | none => (0, [], 0, false, ())
/-- The places of the parts of a type, from a place on. -/
def nkL (k : Int) : Nat → List Nd → List Int
  | _, [] => []
  | i, x :: l => if x.2.2.2.1 = k then (i : Int) :: nkL k (i + 1) l else nkL k (i + 1) l
def nkAt (l : List Nd) (k : Nat) : List Int := nkL k (k + 1) (l.drop (k + 1))
/-- The tree of a type, by the places of its parts. -/
def v4t (l : List Nd) : Nat → Nat → Rose VLab
  | 0, k => .node (nlabAt l k) []
  | f + 1, k => .node (nlabAt l k) ((nkAt l k).map fun i => v4t l f i.toNat)
def v4L (l : List Nd) (k : Nat) : Rose VLab := v4t l l.length k
def l4KidsE : LoopEnt := ⟨29, [1,2,5,6], [5], [], fun
  | ([.i .i64 k, .ptr 0 0, .ref 1 0 n, .i .i64 i], [some (.box [.sl (.pair (.int .i64) (.pair .str (.pair (.int .i64) (.pair (.int .i64) (.pair .bool .unit))))) l]), some (.row false none (.int .i64) o)]) => .need (decide (0 ≤ i ∧ i.toNat ≤ l.length ∧ l.length ≤ 4000000000 ∧ n = o.length ∧ o.length ≤ i.toNat)) (.leaf (.exit 0, ([.ref 0 0 (o ++ nkL k i.toNat (l.drop i.toNat)).length], [some (.row false none (.int .i64) (o ++ nkL k i.toNat (l.drop i.toNat)))])))
  | _ => .no⟩
def l4KidsG : List V → List Blk → Br (V × List (Option Blk))
  | [.agg [.sl (.pair (.int .i64) (.pair .str (.pair (.int .i64) (.pair (.int .i64) (.pair .bool .unit))))) l], .i .i64 k], [] => .need (decide (0 ≤ k ∧ k.toNat < l.length ∧ l.length ≤ 4000000000)) (.leaf (.ref 0 0 (nkAt l k.toNat).length, [some (.row false none (.int .i64) (nkAt l k.toNat))]))
  | _, _ => .no
def l4TreeN (n : Nat) : List V → List Blk → Br (V × List (Option Blk))
  | [.agg [.sl (.pair (.int .i64) (.pair .str (.pair (.int .i64) (.pair (.int .i64) (.pair .bool .unit))))) l], .i .i64 k], [] => .need (decide (0 ≤ k ∧ k.toNat < l.length ∧ l.length ≤ 4000000000 ∧ l.length - k.toNat ≤ n)) (.leaf (.agg [.i .i64 (v4L l k.toNat).lab.1, .s (v4L l k.toNat).lab.2.1, .i .i64 (v4L l k.toNat).lab.2.2.1, .b (v4L l k.toNat).lab.2.2.2.1, .ref 0 0 (v4L l k.toNat).kids.length], [some (.row false none (.rose (.pair (.int .i64) (.pair .str (.pair (.int .i64) (.pair .bool .unit))))) (v4L l k.toNat).kids)]))
  | _, _ => .no
def l4TreeG : List V → List Blk → Br (V × List (Option Blk))
  | [.agg [.sl (.pair (.int .i64) (.pair .str (.pair (.int .i64) (.pair (.int .i64) (.pair .bool .unit))))) l], .i .i64 k], [] => .need (decide (0 ≤ k ∧ k.toNat < l.length ∧ l.length ≤ 4000000000)) (.leaf (.agg [.i .i64 (v4L l k.toNat).lab.1, .s (v4L l k.toNat).lab.2.1, .i .i64 (v4L l k.toNat).lab.2.2.1, .b (v4L l k.toNat).lab.2.2.2.1, .ref 0 0 (v4L l k.toNat).kids.length], [some (.row false none (.rose (.pair (.int .i64) (.pair .str (.pair (.int .i64) (.pair .bool .unit))))) (v4L l k.toNat).kids)]))
  | _, _ => .no
def l4TreeE (n : Nat) : LoopEnt := ⟨41, [2,4,6,25,26,27], [4,6], [], fun
  | ([.ptr 0 0, .ptr 1 0, .ptr 2 0, .ref 3 0 p, .i .i64 m, .i .i64 i], [some (.box [.sl (.pair (.int .i64) (.pair .str (.pair (.int .i64) (.pair (.int .i64) (.pair .bool .unit))))) l]), some (.box [.i .i64 0, .s [], .i .i64 0, .b false, .ref 4 0 0]), some (.box [.i .i64 x0, .s x1, .i .i64 x2, .b x3, .ref 5 0 k]), some (.row false none (.int .i64) q), some (.row false none (.rose (.pair (.int .i64) (.pair .str (.pair (.int .i64) (.pair .bool .unit))))) []), some (.row false none (.rose (.pair (.int .i64) (.pair .str (.pair (.int .i64) (.pair .bool .unit))))) ks)]) => .need (decide (0 ≤ i ∧ i.toNat ≤ q.length ∧ m = q.length ∧ p = q.length ∧ k = ks.length ∧ ks.length ≤ i.toNat ∧ q.length ≤ 4000000000 ∧ l.length ≤ 4000000000) && (q.all fun i : Int => decide (0 ≤ i ∧ i.toNat < l.length ∧ l.length - i.toNat ≤ n))) (.leaf (.exit 0, ([.ptr 0 0, .ptr 1 0], [some (.box [.i .i64 0, .s [], .i .i64 0, .b false, .ref 2 0 0]), some (.box [.i .i64 x0, .s x1, .i .i64 x2, .b x3, .ref 3 0 (ks ++ (q.drop i.toNat).map fun i => v4L l i.toNat).length]), some (.row false none (.rose (.pair (.int .i64) (.pair .str (.pair (.int .i64) (.pair .bool .unit))))) []), some (.row false none (.rose (.pair (.int .i64) (.pair .str (.pair (.int .i64) (.pair .bool .unit))))) (ks ++ (q.drop i.toNat).map fun i => v4L l i.toNat))])))
  | _ => .no⟩
theorem vrose_eta (z : Rose VLab) : Rose.node (z.lab.1, z.lab.2.1, z.lab.2.2.1, z.lab.2.2.2.1, ()) (List.take z.kids.length (List.drop 0 z.kids)) = z := by
  obtain ⟨⟨_, _, _, _, ⟨⟩⟩, ks⟩ := z
  simp [Rose.lab, Rose.kids]
theorem nkL_mem {k : Int} : ∀ {l : List Nd} {i : Nat} {x : Int}, x ∈ nkL k i l → ∃ j : Nat, x = (j : Int) ∧ i ≤ j ∧ j < i + l.length
  | [], i, x, h => by simp [nkL] at h
  | y :: l, i, x, h => by
    rw [nkL] at h
    have rest : x ∈ nkL k (i + 1) l → ∃ j : Nat, x = (j : Int) ∧ i ≤ j ∧ j < i + (y :: l).length := fun h => by
      obtain ⟨j, h1, h2, h3⟩ := nkL_mem h
      exact ⟨j, h1, by omega, by simp; omega⟩
    split at h
    · rcases List.mem_cons.1 h with rfl | h
      · exact ⟨i, rfl, Nat.le_refl _, by simp⟩
      · exact rest h
    · exact rest h
theorem nkAt_mem {l : List Nd} {k : Nat} {x : Int} (h : x ∈ nkAt l k) : ∃ j : Nat, x = (j : Int) ∧ k < j ∧ j < l.length := by
  obtain ⟨j, h1, h2, h3⟩ := nkL_mem h
  rw [List.length_drop] at h3
  exact ⟨j, h1, by omega, by omega⟩
theorem nkL_len (k : Int) : ∀ (l : List Nd) (i : Nat), (nkL k i l).length ≤ l.length
  | [], i => Nat.le_refl _
  | y :: l, i => by
    rw [nkL]
    have := nkL_len k l (i + 1)
    split <;> simp <;> omega
theorem v4_fuel (l : List Nd) : ∀ (f f' k : Nat), l.length - k ≤ f → l.length - k ≤ f' → k < l.length → v4t l f k = v4t l f' k
  | 0, f', k, h1, _, h => by omega
  | f + 1, 0, k, _, h1, h => by omega
  | f + 1, f' + 1, k, h1, h2, h => by
    unfold v4t
    congr 1
    refine List.map_congr_left fun x hx => ?_
    obtain ⟨j, rfl, h3, h4⟩ := nkAt_mem hx
    exact v4_fuel l f f' _ (by simp; omega) (by simp; omega) (by simpa using h4)
theorem v4_eq {l : List Nd} {k : Nat} (h : k < l.length) : v4L l k = .node (nlabAt l k) ((nkAt l k).map fun i => v4L l i.toNat) := by
  obtain ⟨m, hm⟩ : ∃ m, l.length = m + 1 := ⟨l.length - 1, by omega⟩
  unfold v4L
  conv => lhs; rw [hm]
  rw [v4t]
  congr 1
  refine List.map_congr_left fun x hx => ?_
  obtain ⟨j, rfl, h3, h4⟩ := nkAt_mem hx
  exact v4_fuel l m l.length _ (by simp; omega) (by simp) (by simpa using h4)
theorem l4Kids_round (l : List Nd) (k : Int) (n : Nat) (i : Int) (o : List Int) : roundK Try.prog (look []) (look [(3, l4KidsE)]) 0 (body Try.f126 0) l4KidsE ([.i .i64 k, .ptr 0 0, .ref 1 0 n, .i .i64 i], [some (.box [.sl NCd l]), some (.row false none (.int .i64) o)]) =
  ((ifB (decide (i < (↑l.length : Int))) (ifT (decide ((0 : Int) ≤ i) && decide (i < (↑l.length : Int))) (ifSome l[i.toNat]? fun z => ifB (z.snd.snd.snd.fst == k) (ifT (decide
 ((n + (1 : Nat)) * (8 : Nat) ≤ (140737488355328 : Nat)) && decide (n + (1 : Nat) ≤ maxI)) (some (Ex.normal, [V.i .i64 k, V.ptr 0 0, V.ref 1 0 (n + (1 : Nat)), V.i .i64
 (IntKind.i64.wrap (i + (1 : Int)))], [some (Blk.box [V.sl NCd l]), some (Blk.row false none (Cd.int .i64) (List.take n (List.drop (0 : Nat) o) ++ i :: nilT (Cd.int
 .i64).den))]))) (some (Ex.normal, [V.i .i64 k, V.ptr 0 0, V.ref 1 0 n, V.i .i64 (IntKind.i64.wrap (i + (1 : Int)))], [some (Blk.box [V.sl NCd l]), some (Blk.row false
 none (Cd.int .i64) o)])))) (some (Ex.exit 0, [V.ref 0 0 n], [some (Blk.row false none (Cd.int .i64) o)]))) : _) := by kernel_rfl
theorem l4Kids_loop (l : List Nd) (k : Int) (hl : l.length ≤ 4000000000) : ∀ (j i : Nat) (o : List Int), i + j = l.length → o.length ≤ i →
    Runs Try.prog (look []) (look [(3, l4KidsE)]) 0 (body Try.f126 0) l4KidsE ([.i .i64 k, .ptr 0 0, .ref 1 0 o.length, .i .i64 (i : Int)], [some (.box [.sl NCd l]), some (.row false none (.int .i64) o)]) (.exit 0) ([.ref 0 0 (o ++ nkL k i (l.drop i)).length], [some (.row false none (.int .i64) (o ++ nkL k i (l.drop i)))])
  | 0, i, o, hi, ho => by
    have hr := l4Kids_round l k o.length i o
    rw [ifB_false (decide_eq_false (by omega))] at hr
    rw [List.drop_eq_nil_of_le (by omega), nkL, List.append_nil]
    exact .stop _ _ _ hr (by simp)
  | j + 1, i, o, hi, ho => by
    have h1 : i < l.length := by omega
    have hM : maxI = 9223372036854775807 := rfl
    have hr := l4Kids_round l k o.length i o
    rw [ifB_true (decide_eq_true (by omega)), ifT_true (by simp only [Bool.and_eq_true, decide_eq_true_eq]; omega)] at hr
    simp only [Int.toNat_natCast, List.getElem?_eq_getElem h1, ifSome_s, wrap_succ (n := i) (by omega), List.drop_zero, List.take_length] at hr
    rw [List.drop_eq_getElem_cons h1, nkL]
    by_cases h2 : l[i].2.2.2.1 = k
    · rw [ifB_true (by rw [h2]; exact beq_self_eq_true _), ifT_true (by simp only [Bool.and_eq_true, decide_eq_true_eq]; omega)] at hr
      rw [if_pos h2]
      have ih := l4Kids_loop l k hl j (i + 1) (o ++ [(i : Int)]) (by omega) (by simp; omega)
      rw [List.append_assoc] at ih
      exact .step _ _ _ _ (hr.trans (by simp)) ih
    · rw [ifB_false (beq_false_of_ne h2)] at hr
      rw [if_neg h2]
      exact .step _ _ _ _ hr (l4Kids_loop l k hl j (i + 1) o (by omega) (by omega))
theorem l4Kids_ok : LoopsOk Try.prog (look []) (look [(3, l4KidsE)]) 0 (Try.f126.body.getD .skip) := by
  refine loopsOk_one (a := body Try.f126 0) (by kernel_rfl) fun d ex d' h => ?_
  unfold l4KidsE at h
  dsimp only at h
  split at h
  · rename_i k n i l o
    obtain ⟨hc, hx⟩ := need_some h
    clear h
    obtain ⟨h0, h1, h2, rfl, h4⟩ := of_decide_eq_true hc
    obtain ⟨i, rfl⟩ := Int.eq_ofNat_of_zero_le h0
    simp only [Int.toNat_natCast] at h1 h4 hx
    have h8 := leaf_some hx
    obtain ⟨rfl, rfl⟩ := Prod.mk.inj h8
    exact l4Kids_loop l k h2 (l.length - i) i o (by omega) h4
  · cases h
theorem l4Kids_fun (l : List Nd) (k : Int) (hc : 0 ≤ k ∧ k.toNat < l.length ∧ l.length ≤ 4000000000) : funN Try.prog (look []) (look [(3, l4KidsE)]) Try.f126 [.agg [.sl NCd l], .i .i64 k] [] = some (.ref 0 0 (nkAt l k.toNat).length, [some (.row false none (.int .i64) (nkAt l k.toNat))]) := by
  have e : funN Try.prog (look []) (look [(3, l4KidsE)]) Try.f126 [.agg [.sl NCd l], .i .i64 k] [] = ((ifT (decide ((0 : Int) ≤ IntKind.i64.wrap (k + (1 : Int)) ∧ (IntKind.i64.wrap (k + (1 : Int))).toNat ≤ l.length ∧ l.length ≤ (4000000000 : Nat) ∧ (0 : Nat) = (0 : Nat) ∧
 (0 : Nat) ≤ (IntKind.i64.wrap (k + (1 : Int))).toNat)) (some (V.ref 0 0 (nilT (Cd.int .i64).den ++ nkL k (IntKind.i64.wrap (k + (1 : Int))).toNat (List.drop
 (IntKind.i64.wrap (k + (1 : Int))).toNat l)).length, [some (Blk.row false none (Cd.int .i64) (nilT (Cd.int .i64).den ++ nkL k (IntKind.i64.wrap (k + (1 : Int))).toNat
 (List.drop (IntKind.i64.wrap (k + (1 : Int))).toNat l)))]))) : _) := by kernel_rfl
  rw [e]
  clear e
  obtain ⟨h0, h1, h2⟩ := hc
  obtain ⟨k, rfl⟩ := Int.eq_ofNat_of_zero_le h0
  rw [Int.toNat_natCast] at h1
  have hM : maxI = 9223372036854775807 := rfl
  rw [wrap_succ (n := k) (by omega), ifT_true (decide_eq_true ⟨by omega, by omega, h2, by simp, by simp⟩)]
  simp only [Int.toNat_natCast, nilT_eq, List.nil_append]
  rfl
theorem l4Kids : Contract Try.prog 126 (Ent.rd1 l4KidsG).F := by
  refine fun_contractN' KnowsL.nil.knows (Λ := (look [(3, l4KidsE)])) Try.func126 (c := Try.f126.body.getD .skip) (by kernel_rfl) fun vs bs r hq hv hb => ?_
  unfold Ent.F l4KidsG at hq
  dsimp only at hq
  split at hq
  · rename_i l k
    obtain ⟨hc, hx⟩ := need_some hq
    exact ⟨l4Kids_ok, (l4Kids_fun l k (of_decide_eq_true hc)).trans hx⟩
  · cases hq
theorem l4Tree_round (n : Nat) (l : List Nd) (x0 : Int) (x1 : List UInt8) (x2 : Int) (x3 : Bool) (p : Nat) (m i : Int) (k : Nat) (q : List Int) (ks : List (Rose VLab)) : roundK Try.prog (look [(126, .rd1 l4KidsG), (64, .rd1 (l4TreeN n))]) (look [(4, l4TreeE n)]) 0 (body Try.f64 0) (l4TreeE n) ([.ptr 0 0, .ptr 1 0, .ptr 2 0, .ref 3 0 p, .i .i64 m, .i .i64 i], [some (.box [.sl NCd l]), some (.box [.i .i64 0, .s [], .i .i64 0, .b false, .ref 4 0 0]), some (.box [.i .i64 x0, .s x1, .i .i64 x2, .b x3, .ref 5 0 k]), some (.row false none (.int .i64) q), some (.row false none (.rose VCd) []), some (.row false none (.rose VCd) ks)]) =
  ((ifB (decide (i < m)) (ifT (decide ((0 : Int) ≤ i) && decide (i < (↑p : Int))) (ifSome q[(0 : Nat) + i.toNat]? fun z => ifT (decide ((0 : Int) ≤ z ∧ Int.toNat z < l.length
 ∧ l.length ≤ (4000000000 : Nat) ∧ l.length - Int.toNat z ≤ n)) (ifT (decide ((k + (1 : Nat)) * (64 : Nat) ≤ (140737488355328 : Nat)) && decide (k + (1 : Nat) ≤ maxI))
 (some (Ex.normal, [V.ptr 0 0, V.ptr 1 0, V.ptr 2 0, V.ref 3 0 p, V.i .i64 m, V.i .i64 (IntKind.i64.wrap (i + (1 : Int)))], [some (Blk.box [V.sl NCd l]), some (Blk.box
 [V.i .i64 0, V.s (nilT UInt8), V.i .i64 0, V.b false, V.ref 4 0 0]), some (Blk.box [V.i .i64 x0, V.s x1, V.i .i64 x2, V.b x3, V.ref 5 0 (k + (1 : Nat))]), some (Blk.row
 false none (Cd.int .i64) q), some (Blk.row false none VCd.rose (nilT VCd.rose.den)), some (Blk.row false none VCd.rose (List.take k (List.drop (0 : Nat) ks) ++ Rose.node
 ((v4L l (Int.toNat z)).lab.fst, (v4L l (Int.toNat z)).lab.snd.fst, (v4L l (Int.toNat z)).lab.snd.snd.fst, (v4L l (Int.toNat z)).lab.snd.snd.snd.fst, ()) (List.take (v4L l
 (Int.toNat z)).kids.length (List.drop (0 : Nat) (v4L l (Int.toNat z)).kids)) :: nilT VCd.rose.den))]))))) (some (Ex.exit 0, [V.ptr 0 0, V.ptr 1 0], [some (Blk.box [V.i
 .i64 0, V.s (nilT UInt8), V.i .i64 0, V.b false, V.ref 2 0 0]), some (Blk.box [V.i .i64 x0, V.s x1, V.i .i64 x2, V.b x3, V.ref 3 0 k]), some (Blk.row false none VCd.rose
 (nilT VCd.rose.den)), some (Blk.row false none VCd.rose ks)]))) : _) := by kernel_rfl
theorem l4Tree_tree (n : Nat) (l : List Nd) (k : Int) : funN Try.prog (look [(126, .rd1 l4KidsG), (64, .rd1 (l4TreeN n))]) (look [(4, l4TreeE n)]) Try.f64 [.agg [.sl NCd l], .i .i64 k] [] =
  ((ifT (decide ((0 : Int) ≤ k) && decide (k < (↑l.length : Int))) (ifSome l[k.toNat]? fun z => ifT (decide ((0 : Int) ≤ k ∧ k.toNat < l.length ∧ l.length ≤ (4000000000 :
 Nat))) (ifT (decide ((0 : Int) ≤ (0 : Int) ∧ (0 : Nat) ≤ (nkAt l k.toNat).length ∧ (↑(nkAt l k.toNat).length : Int) = (↑(nkAt l k.toNat).length : Int) ∧ (nkAt l
 k.toNat).length = (nkAt l k.toNat).length ∧ (0 : Nat) = (0 : Nat) ∧ (0 : Nat) ≤ (0 : Nat) ∧ (nkAt l k.toNat).length ≤ (4000000000 : Nat) ∧ l.length ≤ (4000000000 : Nat))
 && (nkAt l k.toNat).all fun i => decide ((0 : Int) ≤ i ∧ i.toNat < l.length ∧ l.length - i.toNat ≤ n)) (some (V.agg [V.i .i64 z.fst, V.s z.snd.fst, V.i .i64
 z.snd.snd.fst, V.b z.snd.snd.snd.snd.fst, V.ref 0 0 (nilT VCd.rose.den ++ List.map (fun i => v4L l (Int.toNat i)) (List.drop (0 : Nat) (nkAt l k.toNat))).length], [some
 (Blk.row false none VCd.rose (nilT VCd.rose.den ++ List.map (fun i => v4L l (Int.toNat i)) (List.drop (0 : Nat) (nkAt l k.toNat))))]))))) : _) := by kernel_rfl
theorem l4Tree_loop (n : Nat) (l : List Nd) (x0 : Int) (x1 : List UInt8) (x2 : Int) (x3 : Bool) (q : List Int) (hl : l.length ≤ 4000000000) (hq : q.length ≤ 4000000000) (hs : (q.all fun i : Int => decide (0 ≤ i ∧ i.toNat < l.length ∧ l.length - i.toNat ≤ n)) = true) : ∀ (j i : Nat) (ks : List (Rose VLab)), i + j = q.length → ks.length ≤ i →
    Runs Try.prog (look [(126, .rd1 l4KidsG), (64, .rd1 (l4TreeN n))]) (look [(4, l4TreeE n)]) 0 (body Try.f64 0) (l4TreeE n) ([.ptr 0 0, .ptr 1 0, .ptr 2 0, .ref 3 0 q.length, .i .i64 (q.length : Int), .i .i64 (i : Int)], [some (.box [.sl NCd l]), some (.box [.i .i64 0, .s [], .i .i64 0, .b false, .ref 4 0 0]), some (.box [.i .i64 x0, .s x1, .i .i64 x2, .b x3, .ref 5 0 ks.length]), some (.row false none (.int .i64) q), some (.row false none (.rose VCd) []), some (.row false none (.rose VCd) ks)]) (.exit 0) ([.ptr 0 0, .ptr 1 0], [some (.box [.i .i64 0, .s [], .i .i64 0, .b false, .ref 2 0 0]), some (.box [.i .i64 x0, .s x1, .i .i64 x2, .b x3, .ref 3 0 (ks ++ (q.drop i).map fun i => v4L l i.toNat).length]), some (.row false none (.rose VCd) []), some (.row false none (.rose VCd) (ks ++ (q.drop i).map fun i => v4L l i.toNat))])
  | 0, i, ks, hi, hk => by
    have hr := l4Tree_round n l x0 x1 x2 x3 q.length q.length i ks.length q ks
    rw [ifB_false (decide_eq_false (by omega))] at hr
    rw [List.drop_eq_nil_of_le (by omega), List.map_nil, List.append_nil]
    exact .stop _ _ _ hr (by simp)
  | j + 1, i, ks, hi, hk => by
    have h1 : i < q.length := by omega
    have hM : maxI = 9223372036854775807 := rfl
    have hr := l4Tree_round n l x0 x1 x2 x3 q.length q.length i ks.length q ks
    have hz := of_decide_eq_true (List.all_eq_true.1 hs _ (List.getElem_mem h1))
    rw [ifB_true (decide_eq_true (by omega)), ifT_true (by simp only [Bool.and_eq_true, decide_eq_true_eq]; omega)] at hr
    simp only [Int.toNat_natCast, Nat.zero_add, List.getElem?_eq_getElem h1, ifSome_s, wrap_succ (n := i) (by omega), List.drop_zero, List.take_length] at hr
    rw [ifT_true (decide_eq_true ⟨hz.1, hz.2.1, hl, hz.2.2⟩), ifT_true (by simp only [Bool.and_eq_true, decide_eq_true_eq]; omega)] at hr
    have ht := vrose_eta (v4L l q[i].toNat)
    rw [List.drop_zero, List.take_length] at ht
    rw [ht] at hr
    rw [List.drop_eq_getElem_cons h1, List.map_cons]
    have ih := l4Tree_loop n l x0 x1 x2 x3 q hl hq hs j (i + 1) (ks ++ [v4L l q[i].toNat]) (by omega) (by simp; omega)
    rw [List.append_assoc] at ih
    exact .step _ _ _ _ (hr.trans (by simp)) ih
theorem l4Tree_ok (n : Nat) : LoopsOk Try.prog (look [(126, .rd1 l4KidsG), (64, .rd1 (l4TreeN n))]) (look [(4, l4TreeE n)]) 0 (Try.f64.body.getD .skip) := by
  refine loopsOk_one (a := body Try.f64 0) (by kernel_rfl) fun d ex d' h => ?_
  unfold l4TreeE at h
  dsimp only at h
  split at h
  · rename_i p m i l x0 x1 x2 x3 k q ks
    obtain ⟨hc, hx⟩ := need_some h
    clear h
    rw [Bool.and_eq_true] at hc
    obtain ⟨hc, hs⟩ := hc
    obtain ⟨h0, h1, rfl, rfl, rfl, h5, h6, h7⟩ := of_decide_eq_true hc
    obtain ⟨i, rfl⟩ := Int.eq_ofNat_of_zero_le h0
    simp only [Int.toNat_natCast] at h1 h5 hx
    have h8 := leaf_some hx
    obtain ⟨rfl, rfl⟩ := Prod.mk.inj h8
    exact l4Tree_loop n l x0 x1 x2 x3 q h7 h6 hs (q.length - i) i ks (by omega) h5
  · cases h
theorem l4Tree_fun (n : Nat) (l : List Nd) (k : Int) (hc : 0 ≤ k ∧ k.toNat < l.length ∧ l.length ≤ 4000000000 ∧ l.length - k.toNat ≤ n + 1) : funN Try.prog (look [(126, .rd1 l4KidsG), (64, .rd1 (l4TreeN n))]) (look [(4, l4TreeE n)]) Try.f64 [.agg [.sl NCd l], .i .i64 k] [] = some (.agg [.i .i64 (v4L l k.toNat).lab.1, .s (v4L l k.toNat).lab.2.1, .i .i64 (v4L l k.toNat).lab.2.2.1, .b (v4L l k.toNat).lab.2.2.2.1, .ref 0 0 (v4L l k.toNat).kids.length], [some (.row false none (.rose VCd) (v4L l k.toNat).kids)]) := by
  rw [l4Tree_tree]
  obtain ⟨h0, h1, h2, h3⟩ := hc
  obtain ⟨k, rfl⟩ := Int.eq_ofNat_of_zero_le h0
  rw [Int.toNat_natCast] at h1 h3
  have hkl := nkL_len (k : Int) (l.drop (k + 1)) (k + 1)
  rw [List.length_drop] at hkl
  have hkl2 : (nkAt l k).length ≤ l.length - (k + 1) := hkl
  rw [ifT_true (by simp only [Bool.and_eq_true, decide_eq_true_eq]; omega)]
  simp only [Int.toNat_natCast, List.getElem?_eq_getElem h1, ifSome_s]
  rw [ifT_true (decide_eq_true ⟨by omega, h1, h2⟩)]
  have hall : ((nkAt l k).all fun i : Int => decide (0 ≤ i ∧ i.toNat < l.length ∧ l.length - i.toNat ≤ n)) = true := List.all_eq_true.2 fun x hx => by
    obtain ⟨j, rfl, h5, h6⟩ := nkAt_mem hx
    exact decide_eq_true ⟨by omega, by simpa using h6, by simp; omega⟩
  rw [ifT_true (by rw [Bool.and_eq_true]; exact ⟨decide_eq_true ⟨by omega, by simp, by simp, by simp, by simp, by simp, by omega, h2⟩, hall⟩)]
  have hlab : nlabAt l k = (l[k].1, l[k].2.1, l[k].2.2.1, l[k].2.2.2.2.1, ()) := by unfold nlabAt; rw [List.getElem?_eq_getElem h1]
  rw [v4_eq h1, hlab]
  simp [Rose.lab, Rose.kids]
theorem l4Tree_con : ∀ n, (∀ m, m < n → Contract Try.prog 64 (Ent.rd1 (l4TreeN m)).F) → Contract Try.prog 64 (Ent.rd1 (l4TreeN n)).F
  | 0, _ => contract_no fun vs bs => by
    unfold Ent.F l4TreeN
    dsimp only
    split
    · rename_i l a
      have : decide (0 ≤ a ∧ a.toNat < l.length ∧ l.length ≤ 4000000000 ∧ l.length - a.toNat ≤ 0) = false := decide_eq_false (by omega)
      rw [this]; rfl
    · rfl
  | n + 1, ih => by
    refine fun_contractN' (KnowsL.cons (enters_fn Try.func126 (by kernel_rfl) (by kernel_rfl)) l4Kids (KnowsL.cons (enters_fn Try.func64 (by kernel_rfl) (by kernel_rfl)) (ih n (Nat.lt_succ_self n)) KnowsL.nil)).knows (Λ := (look [(4, l4TreeE n)])) Try.func64 (c := Try.f64.body.getD .skip) (by kernel_rfl) fun vs bs r hq hv hb => ?_
    unfold Ent.F l4TreeN at hq
    dsimp only at hq
    split at hq
    · rename_i l a
      obtain ⟨hc, hx⟩ := need_some hq
      exact ⟨l4Tree_ok n, (l4Tree_fun n l a (of_decide_eq_true hc)).trans hx⟩
    · cases hq
theorem l4Tree : Contract Try.prog 64 (Ent.rd1 l4TreeG).F := by
  refine contract_rec (F := fun n => (Ent.rd1 (l4TreeN n)).F) l4Tree_con fun vs bs r h => ?_
  unfold Ent.F l4TreeG at h
  dsimp only at h
  split at h
  · rename_i l a
    obtain ⟨hc, hx⟩ := need_some h
    obtain ⟨h0, h1, h2⟩ := of_decide_eq_true hc
    refine ⟨l.length, ?_⟩
    unfold Ent.F l4TreeN
    dsimp only
    have : decide (0 ≤ a ∧ a.toNat < l.length ∧ l.length ≤ 4000000000 ∧ l.length - a.toNat ≤ l.length) = true := decide_eq_true ⟨h0, h1, h2, by omega⟩
    rw [this]
    exact hx
  · cases h
/-- The part with a number; an empty one where there is none. -/
def byR (n : Int) : List (Rose Lab) → Rose Lab
  | [] => .node (0, [], 0, false, 0, ()) []
  | z :: l => if z.lab.2.2.1 = n then z else byR n l
def hasNo (n : Int) (l : List (Rose Lab)) : Bool := l.any fun z => z.lab.2.2.1 == n
def hasVN (n : Int) (l : List (Rose VLab)) : Bool := l.any fun x => x.lab.2.2.1 == n
/-- Whether all that must be is there. -/
def mustsB (vs : List (Rose VLab)) (ks : List (Rose Lab)) : Bool := ks.all fun y => !y.lab.2.2.2.1 || hasVN y.lab.2.2.1 vs
def byG : List V → List Blk → Br (V × List (Option Blk))
  | [.agg [.i .i64 y0, .s y1, .i .i64 y2, .b y3, .i .i64 y4, .sl (.rose (.pair (.int .i64) (.pair .str (.pair (.int .i64) (.pair .bool (.pair (.int .i64) .unit)))))) ys], .i .i64 n], [] => .need (decide (ys.length ≤ maxI)) (.br (hasNo n ys) (.leaf (.tup [.agg [.i .i64 (byR n ys).lab.1, .s (byR n ys).lab.2.1, .i .i64 (byR n ys).lab.2.2.1, .b (byR n ys).lab.2.2.2.1, .i .i64 (byR n ys).lab.2.2.2.2.1, .sl (.rose (.pair (.int .i64) (.pair .str (.pair (.int .i64) (.pair .bool (.pair (.int .i64) .unit)))))) (byR n ys).kids], .b true], [])) (.leaf (.tup [.agg [.i .i64 0, .s [], .i .i64 0, .b false, .i .i64 0, .ref 0 0 0], .b false], [some (.row false none (.rose (.pair (.int .i64) (.pair .str (.pair (.int .i64) (.pair .bool (.pair (.int .i64) .unit)))))) [])])))
  | _, _ => .no
def byE : LoopEnt := ⟨22, [1,4,9,10,11], [4], [4,5], fun
  | ([.i .i64 n, .ptr 0 0, .sl (.rose (.pair (.int .i64) (.pair .str (.pair (.int .i64) (.pair .bool (.pair (.int .i64) .unit)))))) ks, .i .i64 k, .i .i64 i], [some (.box [.i .i64 0, .s [], .i .i64 0, .b false, .i .i64 0, .ref 1 0 0]), some (.row false none (.rose (.pair (.int .i64) (.pair .str (.pair (.int .i64) (.pair .bool (.pair (.int .i64) .unit)))))) [])]) => .need (decide (0 ≤ i ∧ i.toNat ≤ ks.length ∧ k = ks.length ∧ ks.length ≤ maxI)) (.br (hasNo n (ks.drop i.toNat)) (.leaf (.ret, ([.ptr 0 0, .b true], [some (.box [.i .i64 (byR n (ks.drop i.toNat)).lab.1, .s (byR n (ks.drop i.toNat)).lab.2.1, .i .i64 (byR n (ks.drop i.toNat)).lab.2.2.1, .b (byR n (ks.drop i.toNat)).lab.2.2.2.1, .i .i64 (byR n (ks.drop i.toNat)).lab.2.2.2.2.1, .sl (.rose (.pair (.int .i64) (.pair .str (.pair (.int .i64) (.pair .bool (.pair (.int .i64) .unit)))))) (byR n (ks.drop i.toNat)).kids])]))) (.leaf (.exit 0, ([.ptr 0 0], [some (.box [.i .i64 0, .s [], .i .i64 0, .b false, .i .i64 0, .ref 1 0 0]), some (.row false none (.rose (.pair (.int .i64) (.pair .str (.pair (.int .i64) (.pair .bool (.pair (.int .i64) .unit)))))) [])]))))
  | _ => .no⟩
def mustsG : List V → List Blk → Br (V × List (Option Blk))
  | [.agg [.i .i64 x0, .s x1, .i .i64 x2, .b x3, .sl (.rose (.pair (.int .i64) (.pair .str (.pair (.int .i64) (.pair .bool .unit))))) xs], .agg [.i .i64 y0, .s y1, .i .i64 y2, .b y3, .i .i64 y4, .sl (.rose (.pair (.int .i64) (.pair .str (.pair (.int .i64) (.pair .bool (.pair (.int .i64) .unit)))))) ys]], [] => .need (decide (ys.length ≤ maxI ∧ xs.length ≤ maxI)) (.leaf (.b (mustsB xs ys), []))
  | _, _ => .no
def mu1E : LoopEnt := ⟨39, [2,11,12,13], [], [4], fun
  | ([.ptr 0 0, .sl (.rose (.pair (.int .i64) (.pair .str (.pair (.int .i64) (.pair .bool (.pair (.int .i64) .unit)))))) ks, .i .i64 k, .i .i64 i], [some (.box [.i .i64 x0, .s x1, .i .i64 x2, .b x3, .sl (.rose (.pair (.int .i64) (.pair .str (.pair (.int .i64) (.pair .bool .unit))))) xs])]) => .need (decide (0 ≤ i ∧ i.toNat ≤ ks.length ∧ k = ks.length ∧ ks.length ≤ maxI ∧ xs.length ≤ maxI)) (.br (mustsB xs (ks.drop i.toNat)) (.leaf (.exit 0, ([], []))) (.leaf (.ret, ([.b false], []))))
  | _ => .no⟩
def mu2E : LoopEnt := ⟨39, [2,6,7,11,12,13,21,22,23], [2,7,11,12,13], [], fun
  | ([.ptr 0 0, .ptr 1 0, .b f, .sl (.rose (.pair (.int .i64) (.pair .str (.pair (.int .i64) (.pair .bool (.pair (.int .i64) .unit)))))) ks, .i .i64 k, .i .i64 i, .sl (.rose (.pair (.int .i64) (.pair .str (.pair (.int .i64) (.pair .bool .unit))))) us, .i .i64 m, .i .i64 j], [some (.box [.i .i64 x0, .s x1, .i .i64 x2, .b x3, .sl (.rose (.pair (.int .i64) (.pair .str (.pair (.int .i64) (.pair .bool .unit))))) xs]), some (.box [.i .i64 y0, .s y1, .i .i64 y2, .b y3, .i .i64 y4, .sl (.rose (.pair (.int .i64) (.pair .str (.pair (.int .i64) (.pair .bool (.pair (.int .i64) .unit)))))) ys])]) => .need (decide (0 ≤ j ∧ j.toNat ≤ us.length ∧ m = us.length ∧ us.length ≤ maxI)) (.leaf (.exit 2, ([.ptr 0 0, .b (f || hasVN y2 (us.drop j.toNat)), .sl (.rose (.pair (.int .i64) (.pair .str (.pair (.int .i64) (.pair .bool (.pair (.int .i64) .unit)))))) ks, .i .i64 k, .i .i64 i], [some (.box [.i .i64 x0, .s x1, .i .i64 x2, .b x3, .sl (.rose (.pair (.int .i64) (.pair .str (.pair (.int .i64) (.pair .bool .unit))))) xs])])))
  | _ => .no⟩
theorem by_round (n : Int) (ks : List (Rose Lab)) (k i : Int) : roundK Try.prog (look []) (look [(2, byE)]) 0 (body Try.f63 0) byE ([.i .i64 n, .ptr 0 0, .sl (.rose LCd) ks, .i .i64 k, .i .i64 i], [some (.box [.i .i64 0, .s [], .i .i64 0, .b false, .i .i64 0, .ref 1 0 0]), some (.row false none (.rose LCd) [])]) =
  ((ifB (decide (i < k)) (ifT (decide ((0 : Int) ≤ i) && decide (i < (↑ks.length : Int))) (ifSome ks[i.toNat]? fun z => ifB ((Rose.lab z).snd.snd.fst == n) (some (Ex.ret,
 [V.ptr 0 0, V.b true], [some (Blk.box [V.i .i64 (Rose.lab z).fst, V.s (Rose.lab z).snd.fst, V.i .i64 (Rose.lab z).snd.snd.fst, V.b (Rose.lab z).snd.snd.snd.fst, V.i .i64
 (Rose.lab z).snd.snd.snd.snd.fst, V.sl LCd.rose (Rose.kids z)])])) (some (Ex.normal, [V.i .i64 n, V.ptr 0 0, V.sl LCd.rose ks, V.i .i64 k, V.i .i64 (IntKind.i64.wrap (i +
 (1 : Int)))], [some (Blk.box [V.i .i64 0, V.s (nilT UInt8), V.i .i64 0, V.b false, V.i .i64 0, V.ref 1 0 0]), some (Blk.row false none LCd.rose (nilT LCd.rose.den))]))))
 (some (Ex.exit 0, [V.ptr 0 0], [some (Blk.box [V.i .i64 0, V.s (nilT UInt8), V.i .i64 0, V.b false, V.i .i64 0, V.ref 1 0 0]), some (Blk.row false none LCd.rose (nilT
 LCd.rose.den))]))) : _) := by kernel_rfl
theorem by_tree (y0 : Int) (y1 : List UInt8) (y2 : Int) (y3 : Bool) (y4 : Int) (ys : List (Rose Lab)) (n : Int) : funN Try.prog (look []) (look [(2, byE)]) Try.f63 [.agg [.i .i64 y0, .s y1, .i .i64 y2, .b y3, .i .i64 y4, .sl (.rose LCd) ys], .i .i64 n] [] =
  ((ifT (decide ((0 : Int) ≤ (0 : Int) ∧ (0 : Nat) ≤ ys.length ∧ (↑ys.length : Int) = (↑ys.length : Int) ∧ ys.length ≤ maxI)) (ifB (hasNo n (List.drop (0 : Nat) ys)) (some
 (V.tup [V.agg [V.i .i64 (byR n (List.drop (0 : Nat) ys)).lab.fst, V.s (byR n (List.drop (0 : Nat) ys)).lab.snd.fst, V.i .i64 (byR n (List.drop (0 : Nat)
 ys)).lab.snd.snd.fst, V.b (byR n (List.drop (0 : Nat) ys)).lab.snd.snd.snd.fst, V.i .i64 (byR n (List.drop (0 : Nat) ys)).lab.snd.snd.snd.snd.fst, V.sl LCd.rose (byR n
 (List.drop (0 : Nat) ys)).kids], V.b true], [])) (some (V.tup [V.agg [V.i .i64 0, V.s (nilT UInt8), V.i .i64 0, V.b false, V.i .i64 0, V.ref 0 0 0], V.b false], [some
 (Blk.row false none LCd.rose (nilT LCd.rose.den))])))) : _) := by kernel_rfl
theorem by_loop (n : Int) (ks : List (Rose Lab)) (hm : ks.length ≤ maxI) : ∀ (j i : Nat), i + j = ks.length → ∀ ex d, (Br.br (hasNo n (ks.drop i)) (.leaf (.ret, ([.ptr 0 0, .b true], [some (.box [.i .i64 (byR n (ks.drop i)).lab.1, .s (byR n (ks.drop i)).lab.2.1, .i .i64 (byR n (ks.drop i)).lab.2.2.1, .b (byR n (ks.drop i)).lab.2.2.2.1, .i .i64 (byR n (ks.drop i)).lab.2.2.2.2.1, .sl (.rose LCd) (byR n (ks.drop i)).kids])]))) (.leaf (.exit 0, ([.ptr 0 0], [some (.box [.i .i64 0, .s [], .i .i64 0, .b false, .i .i64 0, .ref 1 0 0]), some (.row false none (.rose LCd) [])]))) : Br (Ex × Dt)).run = some (ex, d) →
    Runs Try.prog (look []) (look [(2, byE)]) 0 (body Try.f63 0) byE ([.i .i64 n, .ptr 0 0, .sl (.rose LCd) ks, .i .i64 (ks.length : Int), .i .i64 (i : Int)], [some (.box [.i .i64 0, .s [], .i .i64 0, .b false, .i .i64 0, .ref 1 0 0]), some (.row false none (.rose LCd) [])]) ex d
  | 0, i, hi, ex, d, h => by
    have hr := by_round n ks ks.length i
    rw [ifB_false (decide_eq_false (by omega))] at hr
    rw [List.drop_eq_nil_of_le (by omega)] at h
    have h8 := leaf_some h
    obtain ⟨rfl, rfl⟩ := Prod.mk.inj h8
    exact .stop _ _ _ hr (by simp)
  | j + 1, i, hi, ex, d, h => by
    have hl : i < ks.length := by omega
    have hM : maxI = 9223372036854775807 := rfl
    have hr := by_round n ks ks.length i
    rw [ifB_true (decide_eq_true (by omega)), ifT_true (by simp only [Bool.and_eq_true, decide_eq_true_eq]; omega)] at hr
    simp only [Int.toNat_natCast, List.getElem?_eq_getElem hl, ifSome_s, wrap_succ (n := i) (by omega)] at hr
    rw [List.drop_eq_getElem_cons hl] at h
    unfold hasNo at h
    rw [List.any_cons, byR] at h
    by_cases q : ks[i].lab.2.2.1 = n
    · have qb : (ks[i].lab.2.2.1 == n) = true := by rw [q]; exact beq_self_eq_true _
      rw [qb, Bool.true_or, if_pos q] at h
      rw [qb, ifB_t] at hr
      have h8 := leaf_some h
      obtain ⟨rfl, rfl⟩ := Prod.mk.inj h8
      exact .stop _ _ _ hr (by simp)
    · rw [beq_false_of_ne q, Bool.false_or, if_neg q] at h
      rw [beq_false_of_ne q, ifB_f] at hr
      exact .step _ _ _ _ hr (by_loop n ks hm j (i + 1) (by omega) ex d h)
theorem by_ok : LoopsOk Try.prog (look []) (look [(2, byE)]) 0 (Try.f63.body.getD .skip) := by
  refine loopsOk_one (a := body Try.f63 0) (by kernel_rfl) fun d ex d' h => ?_
  unfold byE at h
  dsimp only at h
  split at h
  · rename_i n ks k i
    obtain ⟨hc, hx⟩ := need_some h
    clear h
    obtain ⟨h0, h1, rfl, h3⟩ := of_decide_eq_true hc
    obtain ⟨i, rfl⟩ := Int.eq_ofNat_of_zero_le h0
    simp only [Int.toNat_natCast] at h1 hx
    exact by_loop n ks h3 (ks.length - i) i (by omega) ex d' hx
  · cases h
theorem l2By : Contract Try.prog 63 (Ent.rd1 byG).F := by
  refine fun_contractN' KnowsL.nil.knows (Λ := (look [(2, byE)])) Try.func63 (c := Try.f63.body.getD .skip) (by kernel_rfl) fun vs bs r hq hv hb => ?_
  unfold Ent.F byG at hq
  dsimp only at hq
  split at hq
  · rename_i y0 y1 y2 y3 y4 ys n
    obtain ⟨hc, hx⟩ := need_some hq
    refine ⟨by_ok, Eq.trans ?_ hx⟩
    rw [by_tree, ifT_true (decide_eq_true ⟨by omega, by omega, rfl, of_decide_eq_true hc⟩), List.drop_zero]
    cases hasNo n ys <;> rfl
  · cases hq
theorem mu1_round (x0 : Int) (x1 : List UInt8) (x2 : Int) (x3 : Bool) (xs : List (Rose VLab)) (ks : List (Rose Lab)) (k i : Int) : roundK Try.prog (look []) (look [(2, mu1E), (6, mu2E)]) 0 (body Try.f166 0) mu1E ([.ptr 0 0, .sl (.rose LCd) ks, .i .i64 k, .i .i64 i], [some (.box [.i .i64 x0, .s x1, .i .i64 x2, .b x3, .sl (.rose VCd) xs])]) =
  ((ifB (decide (i < k)) (ifT (decide ((0 : Int) ≤ i) && decide (i < (↑ks.length : Int))) (ifSome ks[i.toNat]? fun z => ifT (decide ((0 : Int) ≤ (0 : Int) ∧ (0 : Nat) ≤
 xs.length ∧ (↑xs.length : Int) = (↑xs.length : Int) ∧ xs.length ≤ maxI)) (ifB (!(!(Rose.lab z).snd.snd.snd.fst || hasVN (Rose.lab z).snd.snd.fst (List.drop (0 : Nat)
 xs))) (some (Ex.ret, [V.b false], [])) (some (Ex.normal, [V.ptr 0 0, V.sl LCd.rose ks, V.i .i64 k, V.i .i64 (IntKind.i64.wrap (i + (1 : Int)))], [some (Blk.box [V.i .i64
 x0, V.s x1, V.i .i64 x2, V.b x3, V.sl VCd.rose xs])]))))) (some (Ex.exit 0, [], []))) : _) := by kernel_rfl
theorem mu2_round (x0 : Int) (x1 : List UInt8) (x2 : Int) (x3 : Bool) (xs : List (Rose VLab)) (y0 : Int) (y1 : List UInt8) (y2 : Int) (y3 : Bool) (y4 : Int) (ys : List (Rose Lab)) (f : Bool) (ks : List (Rose Lab)) (k i : Int) (us : List (Rose VLab)) (m j : Int) : roundK Try.prog (look []) (look [(2, mu1E), (6, mu2E)]) 0 (body Try.f166 1) mu2E ([.ptr 0 0, .ptr 1 0, .b f, .sl (.rose LCd) ks, .i .i64 k, .i .i64 i, .sl (.rose VCd) us, .i .i64 m, .i .i64 j], [some (.box [.i .i64 x0, .s x1, .i .i64 x2, .b x3, .sl (.rose VCd) xs]), some (.box [.i .i64 y0, .s y1, .i .i64 y2, .b y3, .i .i64 y4, .sl (.rose LCd) ys])]) =
  ((ifB (decide (j < m)) (ifT (decide ((0 : Int) ≤ j) && decide (j < (↑us.length : Int))) (ifSome us[j.toNat]? fun z => ifB f (some (Ex.normal, [V.ptr 0 0, V.ptr 1 0, V.b
 true, V.sl LCd.rose ks, V.i .i64 k, V.i .i64 i, V.sl VCd.rose us, V.i .i64 m, V.i .i64 (IntKind.i64.wrap (j + (1 : Int)))], [some (Blk.box [V.i .i64 x0, V.s x1, V.i .i64
 x2, V.b x3, V.sl VCd.rose xs]), some (Blk.box [V.i .i64 y0, V.s y1, V.i .i64 y2, V.b y3, V.i .i64 y4, V.sl LCd.rose ys])])) (some (Ex.normal, [V.ptr 0 0, V.ptr 1 0, V.b
 ((Rose.lab z).snd.snd.fst == y2), V.sl LCd.rose ks, V.i .i64 k, V.i .i64 i, V.sl VCd.rose us, V.i .i64 m, V.i .i64 (IntKind.i64.wrap (j + (1 : Int)))], [some (Blk.box
 [V.i .i64 x0, V.s x1, V.i .i64 x2, V.b x3, V.sl VCd.rose xs]), some (Blk.box [V.i .i64 y0, V.s y1, V.i .i64 y2, V.b y3, V.i .i64 y4, V.sl LCd.rose ys])])))) (some
 (Ex.exit 2, [V.ptr 0 0, V.b f, V.sl LCd.rose ks, V.i .i64 k, V.i .i64 i], [some (Blk.box [V.i .i64 x0, V.s x1, V.i .i64 x2, V.b x3, V.sl VCd.rose xs])]))) : _) := by kernel_rfl
theorem mu_tree (x0 : Int) (x1 : List UInt8) (x2 : Int) (x3 : Bool) (xs : List (Rose VLab)) (y0 : Int) (y1 : List UInt8) (y2 : Int) (y3 : Bool) (y4 : Int) (ys : List (Rose Lab)) : funK Try.prog (look []) (look [(2, mu1E), (6, mu2E)]) Try.f166 [.agg [.i .i64 x0, .s x1, .i .i64 x2, .b x3, .sl (.rose VCd) xs], .agg [.i .i64 y0, .s y1, .i .i64 y2, .b y3, .i .i64 y4, .sl (.rose LCd) ys]] [] =
  ((ifT (decide ((0 : Int) ≤ (0 : Int) ∧ (0 : Nat) ≤ ys.length ∧ (↑ys.length : Int) = (↑ys.length : Int) ∧ ys.length ≤ maxI ∧ xs.length ≤ maxI)) (ifB (mustsB xs (List.drop (0
 : Nat) ys)) (some (V.b true, [])) (some (V.b false, [])))) : _) := by kernel_rfl
theorem mu1_ok : ∀ d e d', (mu1E.L d).run = some (e, d') → Runs Try.prog (look []) (look [(2, mu1E), (6, mu2E)]) 0 (body Try.f166 0) mu1E d e d' := fun d ex d' h => by
  unfold mu1E at h
  dsimp only at h
  split at h
  · rename_i ks k i x0 x1 x2 x3 xs
    obtain ⟨hc, hx⟩ := need_some h
    clear h
    obtain ⟨h0, h1, rfl, h3, h4⟩ := of_decide_eq_true hc
    obtain ⟨i, rfl⟩ := Int.eq_ofNat_of_zero_le h0
    simp only [Int.toNat_natCast] at h1 hx
    have hM : maxI = 9223372036854775807 := rfl
    refine runs_all (l := ks) (fun y : Rose Lab => !y.lab.2.2.2.1 || hasVN y.lab.2.2.1 xs) (fun i => ([.ptr 0 0, .sl (.rose LCd) ks, .i .i64 (ks.length : Int), .i .i64 (i : Int)], [some (.box [.i .i64 x0, .s x1, .i .i64 x2, .b x3, .sl (.rose VCd) xs])])) (ex := (.exit 0, ([], []))) (rt := (.ret, ([.b false], []))) (by simp) (by simp) (fun n hn => ?_) ?_ (ks.length - i) i (by omega) ex d' hx
    · have hr := mu1_round x0 x1 x2 x3 xs ks ks.length n
      rw [ifB_true (decide_eq_true (by omega)), ifT_true (by simp only [Bool.and_eq_true, decide_eq_true_eq]; omega)] at hr
      rw [Int.toNat_natCast, List.getElem?_eq_getElem hn, ifSome_s, wrap_succ (n := n) (by omega), ifT_true (decide_eq_true ⟨by omega, by omega, rfl, h4⟩), List.drop_zero] at hr
      refine hr.trans ?_
      cases ks[n].lab.2.2.2.1 <;> cases hasVN ks[n].lab.2.2.1 xs <;> rfl
    · have hr := mu1_round x0 x1 x2 x3 xs ks ks.length ks.length
      rw [ifB_false (decide_eq_false (by omega))] at hr
      exact hr
  · cases h
theorem mu2_loop (x0 : Int) (x1 : List UInt8) (x2 : Int) (x3 : Bool) (xs : List (Rose VLab)) (y0 : Int) (y1 : List UInt8) (y2 : Int) (y3 : Bool) (y4 : Int) (ys : List (Rose Lab)) (ks : List (Rose Lab)) (k i : Int) (us : List (Rose VLab)) (hm : us.length ≤ maxI) : ∀ (c j : Nat) (f : Bool), j + c = us.length →
    Runs Try.prog (look []) (look [(2, mu1E), (6, mu2E)]) 0 (body Try.f166 1) mu2E ([.ptr 0 0, .ptr 1 0, .b f, .sl (.rose LCd) ks, .i .i64 k, .i .i64 i, .sl (.rose VCd) us, .i .i64 (us.length : Int), .i .i64 (j : Int)], [some (.box [.i .i64 x0, .s x1, .i .i64 x2, .b x3, .sl (.rose VCd) xs]), some (.box [.i .i64 y0, .s y1, .i .i64 y2, .b y3, .i .i64 y4, .sl (.rose LCd) ys])]) (.exit 2) ([.ptr 0 0, .b (f || hasVN y2 (us.drop j)), .sl (.rose LCd) ks, .i .i64 k, .i .i64 i], [some (.box [.i .i64 x0, .s x1, .i .i64 x2, .b x3, .sl (.rose VCd) xs])])
  | 0, j, f, hj => by
    have hr := mu2_round x0 x1 x2 x3 xs y0 y1 y2 y3 y4 ys f ks k i us us.length j
    rw [ifB_false (decide_eq_false (by omega))] at hr
    rw [List.drop_eq_nil_of_le (by omega), show hasVN y2 [] = false from rfl, Bool.or_false]
    exact .stop _ _ _ hr (by simp)
  | c + 1, j, f, hj => by
    have hl : j < us.length := by omega
    have hM : maxI = 9223372036854775807 := rfl
    have hr := mu2_round x0 x1 x2 x3 xs y0 y1 y2 y3 y4 ys f ks k i us us.length j
    rw [ifB_true (decide_eq_true (by omega)), ifT_true (by simp only [Bool.and_eq_true, decide_eq_true_eq]; omega)] at hr
    simp only [Int.toNat_natCast, List.getElem?_eq_getElem hl, ifSome_s, wrap_succ (n := j) (by omega)] at hr
    have ih := mu2_loop x0 x1 x2 x3 xs y0 y1 y2 y3 y4 ys ks k i us hm c (j + 1) (f || us[j].lab.2.2.1 == y2) (by omega)
    rw [List.drop_eq_getElem_cons hl, show hasVN y2 (us[j] :: us.drop (j + 1)) = (us[j].lab.2.2.1 == y2 || hasVN y2 (us.drop (j + 1))) from rfl, ← Bool.or_assoc]
    refine .step _ _ _ _ (hr.trans ?_) ih
    cases f <;> rfl
theorem mu2_ok : ∀ d e d', (mu2E.L d).run = some (e, d') → Runs Try.prog (look []) (look [(2, mu1E), (6, mu2E)]) 0 (body Try.f166 1) mu2E d e d' := fun d ex d' h => by
  unfold mu2E at h
  dsimp only at h
  split at h
  · rename_i f ks k i us m j x0 x1 x2 x3 xs y0 y1 y2 y3 y4 ys
    obtain ⟨hc, hx⟩ := need_some h
    clear h
    obtain ⟨h0, h1, rfl, h3⟩ := of_decide_eq_true hc
    obtain ⟨j, rfl⟩ := Int.eq_ofNat_of_zero_le h0
    simp only [Int.toNat_natCast] at h1 hx
    have h8 := leaf_some hx
    obtain ⟨rfl, rfl⟩ := Prod.mk.inj h8
    exact mu2_loop x0 x1 x2 x3 xs y0 y1 y2 y3 y4 ys ks k i us h3 (us.length - j) j f (by omega)
  · cases h
theorem l4Musts : Contract Try.prog 166 (Ent.rd1 mustsG).F := by
  refine fun_contract' KnowsL.nil.knows (Λ := (look [(2, mu1E), (6, mu2E)])) Try.func166 (c := Try.f166.body.getD .skip) (by kernel_rfl) fun vs bs r hq hv hb => ?_
  unfold Ent.F mustsG at hq
  dsimp only at hq
  split at hq
  · rename_i x0 x1 x2 x3 xs y0 y1 y2 y3 y4 ys
    obtain ⟨hc, hx⟩ := need_some hq
    obtain ⟨h1, h2⟩ := of_decide_eq_true hc
    refine ⟨LoopsI.loops (.cons (a := body Try.f166 0) (by kernel_rfl) mu1_ok (.cons (a := body Try.f166 1) (by kernel_rfl) mu2_ok .nil)) (by kernel_rfl), Eq.trans ?_ hx⟩
    rw [mu_tree, ifT_true (decide_eq_true ⟨by omega, by omega, rfl, h1, h2⟩), List.drop_zero]
    cases mustsB xs ys <;> rfl
  · cases hq
mutual
/-- No more than 4e9 in any row of a tree. -/
def widR : Rose VLab → Bool
  | .node _ ks => decide (ks.length ≤ 4000000000) && widL ks
def widL : List (Rose VLab) → Bool
  | [] => true
  | z :: l => widR z && widL l
end
/-- The number of the one ahead of a place is as great or greater. -/
def vprev (zk : List (Rose VLab)) (i : Nat) (n : Int) : Bool := match i with
  | 0 => false
  | i + 1 => match zk[i]? with | some y => decide (y.lab.2.2.1 ≥ n) | none => false
/-- The first type, an empty one where there is none. -/
def hd0 : List (Rose Lab) → Rose Lab
  | [] => .node (0, [], 0, false, 0, ()) []
  | z :: _ => z
def badV (x0 : Int) (x1 : List UInt8) (x3 : Bool) (k : Int) : Bool := (x3 != holdsK k) || ((k != 2 && x1 != []) || ((k == 2 || x3) && x0 != 0))
mutual
/-- Whether a value's tree fits a type's. -/
def sfR : Rose VLab → Rose Lab → Bool
  | .node x vs, t =>
    if badV x.1 x.2.1 x.2.2.2.1 t.lab.1 = true then false
    else if t.lab.1 = 1 then numB x.1
    else if t.lab.1 = 3 then decide (0 ≤ x.1 ∧ x.1 ≤ t.lab.2.2.2.2.1)
    else if t.lab.1 = 2 then decide (x.2.1.length ≤ 30)
    else if t.lab.1 = 4 then sfL (hd0 t.kids) vs
    else sfM t.kids vs 0 vs && mustsB vs t.kids
def sfL (t : Rose Lab) : List (Rose VLab) → Bool
  | [] => true
  | v :: vs => (v.lab.2.2.1 == 0 && sfR v t) && sfL t vs
def sfM (ks : List (Rose Lab)) (zk : List (Rose VLab)) (i : Nat) : List (Rose VLab) → Bool
  | [] => true
  | v :: vs => (hasNo v.lab.2.2.1 ks && (sfR v (byR v.lab.2.2.1 ks) && !vprev zk i v.lab.2.2.1)) && sfM ks zk (i + 1) vs
end
def sfN (n : Nat) : List V → List Blk → Br (V × List (Option Blk))
  | [.agg [.i .i64 x0, .s x1, .i .i64 x2, .b x3, .sl (.rose (.pair (.int .i64) (.pair .str (.pair (.int .i64) (.pair .bool .unit))))) xs], .agg [.i .i64 y0, .s y1, .i .i64 y2, .b y3, .i .i64 y4, .sl (.rose (.pair (.int .i64) (.pair .str (.pair (.int .i64) (.pair .bool (.pair (.int .i64) .unit)))))) ys]], [] => .need (decide (cntL ys + 1 ≤ n ∧ cntL ys + 1 ≤ 1000000 ∧ rightR (.node (y0, y1, y2, y3, y4, ()) ys) = true ∧ widR (.node (x0, x1, x2, x3, ()) xs) = true)) (.leaf (.b (sfR (.node (x0, x1, x2, x3, ()) xs) (.node (y0, y1, y2, y3, y4, ()) ys)), []))
  | _, _ => .no
def sfG : List V → List Blk → Br (V × List (Option Blk))
  | [.agg [.i .i64 x0, .s x1, .i .i64 x2, .b x3, .sl (.rose (.pair (.int .i64) (.pair .str (.pair (.int .i64) (.pair .bool .unit))))) xs], .agg [.i .i64 y0, .s y1, .i .i64 y2, .b y3, .i .i64 y4, .sl (.rose (.pair (.int .i64) (.pair .str (.pair (.int .i64) (.pair .bool (.pair (.int .i64) .unit)))))) ys]], [] => .need (decide (cntL ys + 1 ≤ 1000000 ∧ rightR (.node (y0, y1, y2, y3, y4, ()) ys) = true ∧ widR (.node (x0, x1, x2, x3, ()) xs) = true)) (.leaf (.b (sfR (.node (x0, x1, x2, x3, ()) xs) (.node (y0, y1, y2, y3, y4, ()) ys)), []))
  | _, _ => .no
def sf1E (n : Nat) : LoopEnt := ⟨126, [3,64,65,66], [], [4], fun
  | ([.ptr 0 0, .sl (.rose (.pair (.int .i64) (.pair .str (.pair (.int .i64) (.pair .bool .unit))))) us, .i .i64 k, .i .i64 i], [some (.box [.i .i64 y0, .s y1, .i .i64 y2, .b y3, .i .i64 y4, .sl (.rose (.pair (.int .i64) (.pair .str (.pair (.int .i64) (.pair .bool (.pair (.int .i64) .unit)))))) ys])]) => .need (decide (0 ≤ i ∧ i.toNat ≤ us.length ∧ k = us.length ∧ us.length ≤ 4000000000 ∧ cntL ys ≤ n ∧ cntL ys ≤ 1000000 ∧ ys.length = 1 ∧ rightL y0 ys = true ∧ widL us = true)) (.br (sfL (hd0 ys) (us.drop i.toNat)) (.leaf (.exit 1, ([], []))) (.leaf (.ret, ([.b false], []))))
  | _ => .no⟩
def sf2E (n : Nat) : LoopEnt := ⟨126, [2,3,84,85,86], [2,3], [4], fun
  | ([.ptr 0 0, .ptr 1 0, .sl (.rose (.pair (.int .i64) (.pair .str (.pair (.int .i64) (.pair .bool .unit))))) us, .i .i64 k, .i .i64 i], [some (.box [.i .i64 x0, .s x1, .i .i64 x2, .b x3, .sl (.rose (.pair (.int .i64) (.pair .str (.pair (.int .i64) (.pair .bool .unit))))) xs]), some (.box [.i .i64 y0, .s y1, .i .i64 y2, .b y3, .i .i64 y4, .sl (.rose (.pair (.int .i64) (.pair .str (.pair (.int .i64) (.pair .bool (.pair (.int .i64) .unit)))))) ys])]) => .need (decide (0 ≤ i ∧ i.toNat ≤ us.length ∧ k = us.length ∧ us.length ≤ 4000000000 ∧ xs.length = us.length ∧ cntL ys ≤ n ∧ cntL ys ≤ 1000000 ∧ rightL y0 ys = true ∧ widL us = true)) (.br (sfM ys xs i.toNat (us.drop i.toNat)) (.leaf (.exit 3, ([.ptr 0 0, .ptr 1 0], [some (.box [.i .i64 x0, .s x1, .i .i64 x2, .b x3, .sl (.rose (.pair (.int .i64) (.pair .str (.pair (.int .i64) (.pair .bool .unit))))) xs]), some (.box [.i .i64 y0, .s y1, .i .i64 y2, .b y3, .i .i64 y4, .sl (.rose (.pair (.int .i64) (.pair .str (.pair (.int .i64) (.pair .bool (.pair (.int .i64) .unit)))))) ys])]))) (.leaf (.ret, ([.b false], []))))
  | _ => .no⟩
theorem rose_eta' (z : Rose Lab) : Rose.node (z.lab.1, z.lab.2.1, z.lab.2.2.1, z.lab.2.2.2.1, z.lab.2.2.2.2.1, ()) z.kids = z := by
  obtain ⟨⟨_, _, _, _, _, ⟨⟩⟩, ks⟩ := z; rfl
theorem vrose_eta' (z : Rose VLab) : Rose.node (z.lab.1, z.lab.2.1, z.lab.2.2.1, z.lab.2.2.2.1, ()) z.kids = z := by
  obtain ⟨⟨_, _, _, _, ⟨⟩⟩, ks⟩ := z; rfl
theorem widL_mem {z : Rose VLab} : ∀ {l : List (Rose VLab)}, widL l = true → z ∈ l → widR z = true
  | [], _, h => by cases h
  | y :: l, hn, h => by
    rw [widL, Bool.and_eq_true] at hn
    rcases List.mem_cons.1 h with rfl | h
    · exact hn.1
    · exact widL_mem hn.2 h
theorem sfL_all (t : Rose Lab) : ∀ l, sfL t l = l.all fun v => v.lab.2.2.1 == 0 && sfR v t
  | [] => by rw [sfL]; rfl
  | v :: l => by rw [sfL, sfL_all t l]; rfl
theorem byR_mem {n : Int} : ∀ {l : List (Rose Lab)}, hasNo n l = true → byR n l ∈ l
  | [], h => by cases h
  | z :: l, h => by
    rw [byR]
    by_cases q : z.lab.2.2.1 = n
    · rw [if_pos q]; exact List.mem_cons_self
    · rw [if_neg q]
      unfold hasNo at h
      rw [List.any_cons, beq_false_of_ne q, Bool.false_or] at h
      exact List.mem_cons_of_mem _ (byR_mem h)
theorem sfR_eq (x0 : Int) (x1 : List UInt8) (x2 : Int) (x3 : Bool) (xs : List (Rose VLab)) (y0 : Int) (y1 : List UInt8) (y2 : Int) (y3 : Bool) (y4 : Int) (ys : List (Rose Lab)) : sfR (.node (x0, x1, x2, x3, ()) xs) (.node (y0, y1, y2, y3, y4, ()) ys) = (if badV x0 x1 x3 y0 = true then false
    else if y0 = 1 then numB x0 else if y0 = 3 then decide (0 ≤ x0 ∧ x0 ≤ y4) else if y0 = 2 then decide (x1.length ≤ 30)
    else if y0 = 4 then sfL (hd0 ys) xs else sfM ys xs 0 xs && mustsB xs ys) := by rw [sfR]; rfl
theorem partsB_kind {x : Lab} {ks : List (Rose Lab)} (h : partsB x ks = true) : x.1 = 1 ∨ x.1 = 2 ∨ x.1 = 3 ∨ (x.1 = 4 ∧ ks.length = 1) ∨ x.1 = 5 := by
  unfold partsB at h
  split at h
  · rename_i q; omega
  · split at h
    · rename_i q; omega
    · split at h
      · rename_i q
        rw [Bool.and_eq_true] at h
        exact .inr (.inr (.inr (.inl ⟨q, by simpa using h.2⟩)))
      · split at h
        · cases h
        · rename_i q; omega
theorem sf1_round (n : Nat) (y0 : Int) (y1 : List UInt8) (y2 : Int) (y3 : Bool) (y4 : Int) (ys : List (Rose Lab)) (us : List (Rose VLab)) (k i : Int) : roundK Try.prog (look [(125, .rd1 (sfN n)), (116, .rd1 l2HoldsG), (165, .rd1 numG), (111, .rd1 withinG), (63, .rd1 byG), (166, .rd1 mustsG)]) (look [(12, sf1E n), (19, sf2E n)]) 0 (body Try.f125 0) (sf1E n) ([.ptr 0 0, .sl (.rose VCd) us, .i .i64 k, .i .i64 i], [some (.box [.i .i64 y0, .s y1, .i .i64 y2, .b y3, .i .i64 y4, .sl (.rose LCd) ys])]) =
  ((ifB (decide (i < k)) (ifT (decide ((0 : Int) ≤ i) && decide (i < (↑us.length : Int))) (ifSome us[i.toNat]? fun z => ifB ((Rose.lab z).snd.snd.fst != (0 : Int)) (some
 (Ex.ret, [V.b false], [])) (ifT (decide ((0 : Int) ≤ (0 : Int)) && decide ((0 : Int) < (↑ys.length : Int))) (ifSome ys[(0 : Nat)]? fun z_1 => ifT (decide (cntL (Rose.kids
 z_1) + (1 : Nat) ≤ n ∧ cntL (Rose.kids z_1) + (1 : Nat) ≤ (1000000 : Nat) ∧ rightR (Rose.node ((Rose.lab z_1).fst, (Rose.lab z_1).snd.fst, (Rose.lab z_1).snd.snd.fst,
 (Rose.lab z_1).snd.snd.snd.fst, (Rose.lab z_1).snd.snd.snd.snd.fst, ()) (Rose.kids z_1)) = true ∧ widR (Rose.node ((Rose.lab z).fst, (Rose.lab z).snd.fst, (Rose.lab
 z).snd.snd.fst, (Rose.lab z).snd.snd.snd.fst, ()) (Rose.kids z)) = true)) (ifB (!sfR (Rose.node ((Rose.lab z).fst, (Rose.lab z).snd.fst, (Rose.lab z).snd.snd.fst,
 (Rose.lab z).snd.snd.snd.fst, ()) (Rose.kids z)) (Rose.node ((Rose.lab z_1).fst, (Rose.lab z_1).snd.fst, (Rose.lab z_1).snd.snd.fst, (Rose.lab z_1).snd.snd.snd.fst,
 (Rose.lab z_1).snd.snd.snd.snd.fst, ()) (Rose.kids z_1))) (some (Ex.ret, [V.b false], [])) (some (Ex.normal, [V.ptr 0 0, V.sl VCd.rose us, V.i .i64 k, V.i .i64
 (IntKind.i64.wrap (i + (1 : Int)))], [some (Blk.box [V.i .i64 y0, V.s y1, V.i .i64 y2, V.b y3, V.i .i64 y4, V.sl LCd.rose ys])]))))))) (some (Ex.exit 1, [], []))) : _) := by kernel_rfl
theorem sf2_round (n : Nat) (x0 : Int) (x1 : List UInt8) (x2 : Int) (x3 : Bool) (xs : List (Rose VLab)) (y0 : Int) (y1 : List UInt8) (y2 : Int) (y3 : Bool) (y4 : Int) (ys : List (Rose Lab)) (us : List (Rose VLab)) (k i : Int) : roundK Try.prog (look [(125, .rd1 (sfN n)), (116, .rd1 l2HoldsG), (165, .rd1 numG), (111, .rd1 withinG), (63, .rd1 byG), (166, .rd1 mustsG)]) (look [(12, sf1E n), (19, sf2E n)]) 0 (body Try.f125 1) (sf2E n) ([.ptr 0 0, .ptr 1 0, .sl (.rose VCd) us, .i .i64 k, .i .i64 i], [some (.box [.i .i64 x0, .s x1, .i .i64 x2, .b x3, .sl (.rose VCd) xs]), some (.box [.i .i64 y0, .s y1, .i .i64 y2, .b y3, .i .i64 y4, .sl (.rose LCd) ys])]) =
  ((ifB (decide (i < k)) (ifT (decide ((0 : Int) ≤ i) && decide (i < (↑us.length : Int))) (ifSome us[i.toNat]? fun z => ifT (decide (ys.length ≤ maxI)) (ifB (hasNo (Rose.lab
 z).snd.snd.fst ys) (ifT (decide (cntL (byR (Rose.lab z).snd.snd.fst ys).kids + (1 : Nat) ≤ n ∧ cntL (byR (Rose.lab z).snd.snd.fst ys).kids + (1 : Nat) ≤ (1000000 : Nat) ∧
 rightR (Rose.node ((byR (Rose.lab z).snd.snd.fst ys).lab.fst, (byR (Rose.lab z).snd.snd.fst ys).lab.snd.fst, (byR (Rose.lab z).snd.snd.fst ys).lab.snd.snd.fst, (byR
 (Rose.lab z).snd.snd.fst ys).lab.snd.snd.snd.fst, (byR (Rose.lab z).snd.snd.fst ys).lab.snd.snd.snd.snd.fst, ()) (byR (Rose.lab z).snd.snd.fst ys).kids) = true ∧ widR
 (Rose.node ((Rose.lab z).fst, (Rose.lab z).snd.fst, (Rose.lab z).snd.snd.fst, (Rose.lab z).snd.snd.snd.fst, ()) (Rose.kids z)) = true)) (ifB (!sfR (Rose.node ((Rose.lab
 z).fst, (Rose.lab z).snd.fst, (Rose.lab z).snd.snd.fst, (Rose.lab z).snd.snd.snd.fst, ()) (Rose.kids z)) (Rose.node ((byR (Rose.lab z).snd.snd.fst ys).lab.fst, (byR
 (Rose.lab z).snd.snd.fst ys).lab.snd.fst, (byR (Rose.lab z).snd.snd.fst ys).lab.snd.snd.fst, (byR (Rose.lab z).snd.snd.fst ys).lab.snd.snd.snd.fst, (byR (Rose.lab
 z).snd.snd.fst ys).lab.snd.snd.snd.snd.fst, ()) (byR (Rose.lab z).snd.snd.fst ys).kids)) (some (Ex.ret, [V.b false], [])) (ifB (decide (i > (0 : Int))) (ifT (decide ((0 :
 Int) ≤ IntKind.i64.wrap (i - (1 : Int))) && decide (IntKind.i64.wrap (i - (1 : Int)) < (↑xs.length : Int))) (ifSome xs[(IntKind.i64.wrap (i - (1 : Int))).toNat]? fun z_1
 => ifB (decide ((Rose.lab z_1).snd.snd.fst ≥ (Rose.lab z).snd.snd.fst)) (some (Ex.ret, [V.b false], [])) (some (Ex.normal, [V.ptr 0 0, V.ptr 1 0, V.sl VCd.rose us, V.i
 .i64 k, V.i .i64 (IntKind.i64.wrap (i + (1 : Int)))], [some (Blk.box [V.i .i64 x0, V.s x1, V.i .i64 x2, V.b x3, V.sl VCd.rose xs]), some (Blk.box [V.i .i64 y0, V.s y1,
 V.i .i64 y2, V.b y3, V.i .i64 y4, V.sl LCd.rose ys])])))) (some (Ex.normal, [V.ptr 0 0, V.ptr 1 0, V.sl VCd.rose us, V.i .i64 k, V.i .i64 (IntKind.i64.wrap (i + (1 :
 Int)))], [some (Blk.box [V.i .i64 x0, V.s x1, V.i .i64 x2, V.b x3, V.sl VCd.rose xs]), some (Blk.box [V.i .i64 y0, V.s y1, V.i .i64 y2, V.b y3, V.i .i64 y4, V.sl LCd.rose
 ys])]))))) (some (Ex.ret, [V.b false], []))))) (some (Ex.exit 3, [V.ptr 0 0, V.ptr 1 0], [some (Blk.box [V.i .i64 x0, V.s x1, V.i .i64 x2, V.b x3, V.sl VCd.rose xs]),
 some (Blk.box [V.i .i64 y0, V.s y1, V.i .i64 y2, V.b y3, V.i .i64 y4, V.sl LCd.rose ys])]))) : _) := by kernel_rfl
theorem sf_tree (n : Nat) (x0 : Int) (x1 : List UInt8) (x2 : Int) (x3 : Bool) (xs : List (Rose VLab)) (y0 : Int) (y1 : List UInt8) (y2 : Int) (y3 : Bool) (y4 : Int) (ys : List (Rose Lab)) : funN Try.prog (look [(125, .rd1 (sfN n)), (116, .rd1 l2HoldsG), (165, .rd1 numG), (111, .rd1 withinG), (63, .rd1 byG), (166, .rd1 mustsG)]) (look [(12, sf1E n), (19, sf2E n)]) Try.f125 [.agg [.i .i64 x0, .s x1, .i .i64 x2, .b x3, .sl (.rose VCd) xs], .agg [.i .i64 y0, .s y1, .i .i64 y2, .b y3, .i .i64 y4, .sl (.rose LCd) ys]] [] =
  ((ifB (!x3 == holdsK y0) (some (V.b false, [])) (ifB (y0 != (2 : Int)) (ifB (!x1 == nilT UInt8) (some (V.b false, [])) (ifB (y0 == (2 : Int)) (ifB (x0 != (0 : Int)) (some
 (V.b false, [])) (ifB (y0 == (1 : Int)) (some (V.b (numB x0), [])) (ifB (y0 == (3 : Int)) (some (V.b (decide ((0 : Int) ≤ x0 ∧ x0 ≤ y4)), [])) (ifB (y0 == (2 : Int))
 (some (V.b (decide ((↑x1.length : Int) ≤ (30 : Int))), [])) (ifB (y0 == (4 : Int)) (ifT (decide ((0 : Int) ≤ (0 : Int) ∧ (0 : Nat) ≤ xs.length ∧ (↑xs.length : Int) =
 (↑xs.length : Int) ∧ xs.length ≤ (4000000000 : Nat) ∧ cntL ys ≤ n ∧ cntL ys ≤ (1000000 : Nat) ∧ ys.length = (1 : Nat) ∧ rightL y0 ys = true ∧ widL xs = true)) (ifB (sfL
 (hd0 ys) (List.drop (0 : Nat) xs)) (some (V.b true, [])) (some (V.b false, [])))) (ifT (decide ((0 : Int) ≤ (0 : Int) ∧ (0 : Nat) ≤ xs.length ∧ (↑xs.length : Int) =
 (↑xs.length : Int) ∧ xs.length ≤ (4000000000 : Nat) ∧ xs.length = xs.length ∧ cntL ys ≤ n ∧ cntL ys ≤ (1000000 : Nat) ∧ rightL y0 ys = true ∧ widL xs = true)) (ifB (sfM
 ys xs (0 : Nat) (List.drop (0 : Nat) xs)) (ifT (decide (ys.length ≤ maxI ∧ xs.length ≤ maxI)) (some (V.b (mustsB xs ys), []))) (some (V.b false, []))))))))) (ifB x3 (ifB
 (x0 != (0 : Int)) (some (V.b false, [])) (ifB (y0 == (1 : Int)) (some (V.b (numB x0), [])) (ifB (y0 == (3 : Int)) (some (V.b (decide ((0 : Int) ≤ x0 ∧ x0 ≤ y4)), []))
 (ifB (y0 == (2 : Int)) (some (V.b (decide ((↑x1.length : Int) ≤ (30 : Int))), [])) (ifB (y0 == (4 : Int)) (ifT (decide ((0 : Int) ≤ (0 : Int) ∧ (0 : Nat) ≤ xs.length ∧
 (↑xs.length : Int) = (↑xs.length : Int) ∧ xs.length ≤ (4000000000 : Nat) ∧ cntL ys ≤ n ∧ cntL ys ≤ (1000000 : Nat) ∧ ys.length = (1 : Nat) ∧ rightL y0 ys = true ∧ widL xs
 = true)) (ifB (sfL (hd0 ys) (List.drop (0 : Nat) xs)) (some (V.b true, [])) (some (V.b false, [])))) (ifT (decide ((0 : Int) ≤ (0 : Int) ∧ (0 : Nat) ≤ xs.length ∧
 (↑xs.length : Int) = (↑xs.length : Int) ∧ xs.length ≤ (4000000000 : Nat) ∧ xs.length = xs.length ∧ cntL ys ≤ n ∧ cntL ys ≤ (1000000 : Nat) ∧ rightL y0 ys = true ∧ widL xs
 = true)) (ifB (sfM ys xs (0 : Nat) (List.drop (0 : Nat) xs)) (ifT (decide (ys.length ≤ maxI ∧ xs.length ≤ maxI)) (some (V.b (mustsB xs ys), []))) (some (V.b false,
 []))))))))) (ifB (y0 == (1 : Int)) (some (V.b (numB x0), [])) (ifB (y0 == (3 : Int)) (some (V.b (decide ((0 : Int) ≤ x0 ∧ x0 ≤ y4)), [])) (ifB (y0 == (2 : Int)) (some
 (V.b (decide ((↑x1.length : Int) ≤ (30 : Int))), [])) (ifB (y0 == (4 : Int)) (ifT (decide ((0 : Int) ≤ (0 : Int) ∧ (0 : Nat) ≤ xs.length ∧ (↑xs.length : Int) =
 (↑xs.length : Int) ∧ xs.length ≤ (4000000000 : Nat) ∧ cntL ys ≤ n ∧ cntL ys ≤ (1000000 : Nat) ∧ ys.length = (1 : Nat) ∧ rightL y0 ys = true ∧ widL xs = true)) (ifB (sfL
 (hd0 ys) (List.drop (0 : Nat) xs)) (some (V.b true, [])) (some (V.b false, [])))) (ifT (decide ((0 : Int) ≤ (0 : Int) ∧ (0 : Nat) ≤ xs.length ∧ (↑xs.length : Int) =
 (↑xs.length : Int) ∧ xs.length ≤ (4000000000 : Nat) ∧ xs.length = xs.length ∧ cntL ys ≤ n ∧ cntL ys ≤ (1000000 : Nat) ∧ rightL y0 ys = true ∧ widL xs = true)) (ifB (sfM
 ys xs (0 : Nat) (List.drop (0 : Nat) xs)) (ifT (decide (ys.length ≤ maxI ∧ xs.length ≤ maxI)) (some (V.b (mustsB xs ys), []))) (some (V.b false, []))))))))))) (ifB (y0 ==
 (2 : Int)) (ifB (x0 != (0 : Int)) (some (V.b false, [])) (ifB (y0 == (1 : Int)) (some (V.b (numB x0), [])) (ifB (y0 == (3 : Int)) (some (V.b (decide ((0 : Int) ≤ x0 ∧ x0
 ≤ y4)), [])) (ifB (y0 == (2 : Int)) (some (V.b (decide ((↑x1.length : Int) ≤ (30 : Int))), [])) (ifB (y0 == (4 : Int)) (ifT (decide ((0 : Int) ≤ (0 : Int) ∧ (0 : Nat) ≤
 xs.length ∧ (↑xs.length : Int) = (↑xs.length : Int) ∧ xs.length ≤ (4000000000 : Nat) ∧ cntL ys ≤ n ∧ cntL ys ≤ (1000000 : Nat) ∧ ys.length = (1 : Nat) ∧ rightL y0 ys =
 true ∧ widL xs = true)) (ifB (sfL (hd0 ys) (List.drop (0 : Nat) xs)) (some (V.b true, [])) (some (V.b false, [])))) (ifT (decide ((0 : Int) ≤ (0 : Int) ∧ (0 : Nat) ≤
 xs.length ∧ (↑xs.length : Int) = (↑xs.length : Int) ∧ xs.length ≤ (4000000000 : Nat) ∧ xs.length = xs.length ∧ cntL ys ≤ n ∧ cntL ys ≤ (1000000 : Nat) ∧ rightL y0 ys =
 true ∧ widL xs = true)) (ifB (sfM ys xs (0 : Nat) (List.drop (0 : Nat) xs)) (ifT (decide (ys.length ≤ maxI ∧ xs.length ≤ maxI)) (some (V.b (mustsB xs ys), []))) (some
 (V.b false, []))))))))) (ifB x3 (ifB (x0 != (0 : Int)) (some (V.b false, [])) (ifB (y0 == (1 : Int)) (some (V.b (numB x0), [])) (ifB (y0 == (3 : Int)) (some (V.b (decide
 ((0 : Int) ≤ x0 ∧ x0 ≤ y4)), [])) (ifB (y0 == (2 : Int)) (some (V.b (decide ((↑x1.length : Int) ≤ (30 : Int))), [])) (ifB (y0 == (4 : Int)) (ifT (decide ((0 : Int) ≤ (0 :
 Int) ∧ (0 : Nat) ≤ xs.length ∧ (↑xs.length : Int) = (↑xs.length : Int) ∧ xs.length ≤ (4000000000 : Nat) ∧ cntL ys ≤ n ∧ cntL ys ≤ (1000000 : Nat) ∧ ys.length = (1 : Nat)
 ∧ rightL y0 ys = true ∧ widL xs = true)) (ifB (sfL (hd0 ys) (List.drop (0 : Nat) xs)) (some (V.b true, [])) (some (V.b false, [])))) (ifT (decide ((0 : Int) ≤ (0 : Int) ∧
 (0 : Nat) ≤ xs.length ∧ (↑xs.length : Int) = (↑xs.length : Int) ∧ xs.length ≤ (4000000000 : Nat) ∧ xs.length = xs.length ∧ cntL ys ≤ n ∧ cntL ys ≤ (1000000 : Nat) ∧
 rightL y0 ys = true ∧ widL xs = true)) (ifB (sfM ys xs (0 : Nat) (List.drop (0 : Nat) xs)) (ifT (decide (ys.length ≤ maxI ∧ xs.length ≤ maxI)) (some (V.b (mustsB xs ys),
 []))) (some (V.b false, []))))))))) (ifB (y0 == (1 : Int)) (some (V.b (numB x0), [])) (ifB (y0 == (3 : Int)) (some (V.b (decide ((0 : Int) ≤ x0 ∧ x0 ≤ y4)), [])) (ifB (y0
 == (2 : Int)) (some (V.b (decide ((↑x1.length : Int) ≤ (30 : Int))), [])) (ifB (y0 == (4 : Int)) (ifT (decide ((0 : Int) ≤ (0 : Int) ∧ (0 : Nat) ≤ xs.length ∧ (↑xs.length
 : Int) = (↑xs.length : Int) ∧ xs.length ≤ (4000000000 : Nat) ∧ cntL ys ≤ n ∧ cntL ys ≤ (1000000 : Nat) ∧ ys.length = (1 : Nat) ∧ rightL y0 ys = true ∧ widL xs = true))
 (ifB (sfL (hd0 ys) (List.drop (0 : Nat) xs)) (some (V.b true, [])) (some (V.b false, [])))) (ifT (decide ((0 : Int) ≤ (0 : Int) ∧ (0 : Nat) ≤ xs.length ∧ (↑xs.length :
 Int) = (↑xs.length : Int) ∧ xs.length ≤ (4000000000 : Nat) ∧ xs.length = xs.length ∧ cntL ys ≤ n ∧ cntL ys ≤ (1000000 : Nat) ∧ rightL y0 ys = true ∧ widL xs = true)) (ifB
 (sfM ys xs (0 : Nat) (List.drop (0 : Nat) xs)) (ifT (decide (ys.length ≤ maxI ∧ xs.length ≤ maxI)) (some (V.b (mustsB xs ys), []))) (some (V.b false, [])))))))))))) : _) := by kernel_rfl
theorem sf1_ok (n : Nat) : ∀ d e d', ((sf1E n).L d).run = some (e, d') → Runs Try.prog (look [(125, .rd1 (sfN n)), (116, .rd1 l2HoldsG), (165, .rd1 numG), (111, .rd1 withinG), (63, .rd1 byG), (166, .rd1 mustsG)]) (look [(12, sf1E n), (19, sf2E n)]) 0 (body Try.f125 0) (sf1E n) d e d' := fun d ex d' h => by
  unfold sf1E at h
  dsimp only at h
  split at h
  · rename_i us k i y0 y1 y2 y3 y4 ys
    obtain ⟨hc, hx⟩ := need_some h
    clear h
    obtain ⟨h0, h1, rfl, h3, h4, h5, h6, h7, h8⟩ := of_decide_eq_true hc
    obtain ⟨i, rfl⟩ := Int.eq_ofNat_of_zero_le h0
    simp only [Int.toNat_natCast] at h1 hx
    have hM : maxI = 9223372036854775807 := rfl
    obtain ⟨y, rfl⟩ := List.length_eq_one_iff.1 h6
    rw [cntL, cntL] at h4 h5
    rw [rightL, Bool.and_eq_true, Bool.and_eq_true] at h7
    have hk := cnt_kids y
    rw [sfL_all] at hx
    refine runs_all (l := us) (fun v => v.lab.2.2.1 == 0 && sfR v (hd0 [y])) (fun i => ([.ptr 0 0, .sl (.rose VCd) us, .i .i64 (us.length : Int), .i .i64 (i : Int)], [some (.box [.i .i64 y0, .s y1, .i .i64 y2, .b y3, .i .i64 y4, .sl (.rose LCd) [y]])])) (ex := (.exit 1, ([], []))) (rt := (.ret, ([.b false], []))) (by simp) (by simp) (fun m hn => ?_) ?_ (us.length - i) i (by omega) ex d' hx
    · have hr := sf1_round n y0 y1 y2 y3 y4 [y] us us.length m
      have hw := widL_mem h8 (List.getElem_mem hn)
      have hy0 : ([y] : List (Rose Lab))[(0 : Nat)]? = some y := rfl
      rw [ifB_true (decide_eq_true (by omega)), ifT_true (by simp only [Bool.and_eq_true, decide_eq_true_eq]; omega)] at hr
      rw [Int.toNat_natCast, List.getElem?_eq_getElem hn, ifSome_s, hy0, ifSome_s, ifT_true (by simp), wrap_succ (n := m) (by omega), rose_eta', vrose_eta', ifT_true (decide_eq_true ⟨by omega, by omega, h7.1.2, hw⟩)] at hr
      refine hr.trans ?_
      show _ = some (bif us[m].lab.2.2.1 == 0 && sfR us[m] y then _ else _)
      by_cases q : us[m].lab.2.2.1 = 0
      · rw [q]
        cases sfR us[m] y <;> rfl
      · have q1 : (us[m].lab.2.2.1 != (0 : Int)) = true := by simpa using q
        rw [q1, beq_false_of_ne q]; rfl
    · have hr := sf1_round n y0 y1 y2 y3 y4 [y] us us.length us.length
      rw [ifB_false (decide_eq_false (by omega))] at hr
      exact hr
  · cases h
theorem sf2_loop (n : Nat) (x0 : Int) (x1 : List UInt8) (x2 : Int) (x3 : Bool) (xs : List (Rose VLab)) (y0 : Int) (y1 : List UInt8) (y2 : Int) (y3 : Bool) (y4 : Int) (ys : List (Rose Lab)) (us : List (Rose VLab)) (h3 : us.length ≤ 4000000000) (h4 : xs.length = us.length) (h5 : cntL ys ≤ n) (h6 : cntL ys ≤ 1000000) (h7 : rightL y0 ys = true) (h8 : widL us = true) : ∀ (j i : Nat), i + j = us.length → ∀ ex d, (Br.br (sfM ys xs i (us.drop i)) (.leaf (.exit 3, ([.ptr 0 0, .ptr 1 0], [some (.box [.i .i64 x0, .s x1, .i .i64 x2, .b x3, .sl (.rose VCd) xs]), some (.box [.i .i64 y0, .s y1, .i .i64 y2, .b y3, .i .i64 y4, .sl (.rose LCd) ys])]))) (.leaf (.ret, ([.b false], []))) : Br (Ex × Dt)).run = some (ex, d) →
    Runs Try.prog (look [(125, .rd1 (sfN n)), (116, .rd1 l2HoldsG), (165, .rd1 numG), (111, .rd1 withinG), (63, .rd1 byG), (166, .rd1 mustsG)]) (look [(12, sf1E n), (19, sf2E n)]) 0 (body Try.f125 1) (sf2E n) ([.ptr 0 0, .ptr 1 0, .sl (.rose VCd) us, .i .i64 (us.length : Int), .i .i64 (i : Int)], [some (.box [.i .i64 x0, .s x1, .i .i64 x2, .b x3, .sl (.rose VCd) xs]), some (.box [.i .i64 y0, .s y1, .i .i64 y2, .b y3, .i .i64 y4, .sl (.rose LCd) ys])]) ex d
  | 0, i, hi, ex, d, h => by
    have hr := sf2_round n x0 x1 x2 x3 xs y0 y1 y2 y3 y4 ys us us.length i
    rw [ifB_false (decide_eq_false (by omega))] at hr
    rw [List.drop_eq_nil_of_le (by omega), sfM] at h
    have h8 := leaf_some h
    obtain ⟨rfl, rfl⟩ := Prod.mk.inj h8
    exact .stop _ _ _ hr (by simp)
  | j + 1, i, hi, ex, d, h => by
    have hl : i < us.length := by omega
    have hM : maxI = 9223372036854775807 := rfl
    have hr := sf2_round n x0 x1 x2 x3 xs y0 y1 y2 y3 y4 ys us us.length i
    have hw := widL_mem h8 (List.getElem_mem hl)
    have hlen := cnt_len ys
    rw [ifB_true (decide_eq_true (by omega)), ifT_true (by simp only [Bool.and_eq_true, decide_eq_true_eq]; omega)] at hr
    rw [Int.toNat_natCast, List.getElem?_eq_getElem hl, ifSome_s, wrap_succ (n := i) (by omega), ifT_true (decide_eq_true (by omega)), rose_eta', vrose_eta'] at hr
    rw [List.drop_eq_getElem_cons hl, sfM] at h
    have stop : ∀ {x : Option (Ex × Dt)}, x = some (.ret, ([.b false], [])) → (Br.br false (.leaf (.exit 3, ([.ptr 0 0, .ptr 1 0], [some (.box [.i .i64 x0, .s x1, .i .i64 x2, .b x3, .sl (.rose VCd) xs]), some (.box [.i .i64 y0, .s y1, .i .i64 y2, .b y3, .i .i64 y4, .sl (.rose LCd) ys])]))) (.leaf (.ret, ([.b false], []))) : Br (Ex × Dt)).run = some (ex, d) → x = some (ex, d) ∧ ex ≠ .normal := fun hx h => by
      have h8 := leaf_some h
      obtain ⟨rfl, rfl⟩ := Prod.mk.inj h8
      exact ⟨hx, by simp⟩
    cases q1 : hasNo us[i].lab.2.2.1 ys with
    | false =>
      rw [q1, Bool.false_and, Bool.false_and] at h
      rw [q1, ifB_f] at hr
      obtain ⟨g1, g2⟩ := stop hr h
      exact .stop _ _ _ g1 g2
    | true =>
      have hb := byR_mem q1
      have hcm := cnt_mem hb
      have hck := cnt_kids (byR us[i].lab.2.2.1 ys)
      rw [q1, Bool.true_and] at h
      rw [q1, ifB_t, ifT_true (decide_eq_true ⟨by omega, by omega, rightL_mem h7 hb, hw⟩)] at hr
      cases q2 : sfR us[i] (byR us[i].lab.2.2.1 ys) with
      | false =>
        rw [q2, Bool.false_and, Bool.false_and] at h
        rw [q2, Bool.not_false, ifB_t] at hr
        obtain ⟨g1, g2⟩ := stop hr h
        exact .stop _ _ _ g1 g2
      | true =>
        rw [q2, Bool.true_and] at h
        rw [q2, Bool.not_true, ifB_f] at hr
        cases i with
        | zero =>
          rw [ifB_false (decide_eq_false (by omega))] at hr
          rw [vprev, Bool.not_false, Bool.true_and] at h
          exact .step _ _ _ _ hr (sf2_loop n x0 x1 x2 x3 xs y0 y1 y2 y3 y4 ys us h3 h4 h5 h6 h7 h8 j 1 (by omega) ex d h)
        | succ i =>
          have hl' : i < xs.length := by omega
          have hw2 : IntKind.i64.wrap (((i + 1 : Nat) : Int) - 1) = (i : Int) := by rw [wrap_id (by omega) (by omega)]; omega
          rw [ifB_true (decide_eq_true (by omega)), hw2, ifT_true (by simp only [Bool.and_eq_true, decide_eq_true_eq]; omega), Int.toNat_natCast, List.getElem?_eq_getElem hl', ifSome_s] at hr
          have hp : vprev xs (i + 1) us[i + 1].lab.2.2.1 = decide (xs[i].lab.2.2.1 ≥ us[i + 1].lab.2.2.1) := by unfold vprev; simp only [List.getElem?_eq_getElem hl']
          rw [hp] at h
          cases h2 : decide (xs[i].lab.2.2.1 ≥ us[i + 1].lab.2.2.1) with
          | true =>
            rw [h2, Bool.not_true, Bool.false_and] at h
            rw [h2, ifB_t] at hr
            obtain ⟨g1, g2⟩ := stop hr h
            exact .stop _ _ _ g1 g2
          | false =>
            rw [h2, Bool.not_false, Bool.true_and] at h
            rw [h2, ifB_f] at hr
            exact .step _ _ _ _ hr (sf2_loop n x0 x1 x2 x3 xs y0 y1 y2 y3 y4 ys us h3 h4 h5 h6 h7 h8 j (i + 1 + 1) (by omega) ex d h)
theorem sf2_ok (n : Nat) : ∀ d e d', ((sf2E n).L d).run = some (e, d') → Runs Try.prog (look [(125, .rd1 (sfN n)), (116, .rd1 l2HoldsG), (165, .rd1 numG), (111, .rd1 withinG), (63, .rd1 byG), (166, .rd1 mustsG)]) (look [(12, sf1E n), (19, sf2E n)]) 0 (body Try.f125 1) (sf2E n) d e d' := fun d ex d' h => by
  unfold sf2E at h
  dsimp only at h
  split at h
  · rename_i us k i x0 x1 x2 x3 xs y0 y1 y2 y3 y4 ys
    obtain ⟨hc, hx⟩ := need_some h
    clear h
    obtain ⟨h0, h1, rfl, h3, h4, h5, h6, h7, h8⟩ := of_decide_eq_true hc
    obtain ⟨i, rfl⟩ := Int.eq_ofNat_of_zero_le h0
    simp only [Int.toNat_natCast] at h1 hx
    exact sf2_loop n x0 x1 x2 x3 xs y0 y1 y2 y3 y4 ys us h3 h4 h5 h6 h7 h8 (us.length - i) i (by omega) ex d' hx
  · cases h
theorem sf_fun (n : Nat) (x0 : Int) (x1 : List UInt8) (x2 : Int) (x3 : Bool) (xs : List (Rose VLab)) (y0 : Int) (y1 : List UInt8) (y2 : Int) (y3 : Bool) (y4 : Int) (ys : List (Rose Lab)) (hc : cntL ys + 1 ≤ n + 1 ∧ cntL ys + 1 ≤ 1000000 ∧ rightR (.node (y0, y1, y2, y3, y4, ()) ys) = true ∧ widR (.node (x0, x1, x2, x3, ()) xs) = true) : funN Try.prog (look [(125, .rd1 (sfN n)), (116, .rd1 l2HoldsG), (165, .rd1 numG), (111, .rd1 withinG), (63, .rd1 byG), (166, .rd1 mustsG)]) (look [(12, sf1E n), (19, sf2E n)]) Try.f125 [.agg [.i .i64 x0, .s x1, .i .i64 x2, .b x3, .sl (.rose VCd) xs], .agg [.i .i64 y0, .s y1, .i .i64 y2, .b y3, .i .i64 y4, .sl (.rose LCd) ys]] [] = some (.b (sfR (.node (x0, x1, x2, x3, ()) xs) (.node (y0, y1, y2, y3, y4, ()) ys)), []) := by
  rw [sf_tree, sfR_eq]
  obtain ⟨h1, h2, h3, h4⟩ := hc
  obtain ⟨hp, hrr⟩ := rightR_parts h3
  rw [widR, Bool.and_eq_true, decide_eq_true_eq] at h4
  obtain ⟨h4, h5⟩ := h4
  have hk := partsB_kind hp
  simp only [Rose.lab, Rose.kids] at hp hrr hk
  have hM : maxI = 9223372036854775807 := rfl
  have hlen := cnt_len ys
  have e1 : (x1 != []) = !(x1 == nilT UInt8) := rfl
  unfold badV
  rw [e1]
  rcases hk with rfl | rfl | rfl | ⟨rfl, h6⟩ | rfl
  · cases x3 <;> cases x1 == nilT UInt8 <;> cases x0 != 0 <;> rfl
  · have hd : decide ((x1.length : Int) ≤ 30) = decide (x1.length ≤ 30) := decide_eq_decide.2 (by omega)
    rw [hd]
    cases x3 <;> cases x1 == nilT UInt8 <;> cases x0 != 0 <;> rfl
  · cases x3 <;> cases x1 == nilT UInt8 <;> cases x0 != 0 <;> rfl
  · rw [List.drop_zero]
    have d1 : decide ((0 : Int) ≤ 0 ∧ 0 ≤ xs.length ∧ (xs.length : Int) = (xs.length : Int) ∧ xs.length ≤ 4000000000 ∧ cntL ys ≤ n ∧ cntL ys ≤ 1000000 ∧ ys.length = 1 ∧ rightL 4 ys = true ∧ widL xs = true) = true := decide_eq_true ⟨by omega, by omega, rfl, h4, by omega, by omega, h6, hrr, h5⟩
    rw [d1]
    cases x3 <;> cases x1 == nilT UInt8 <;> cases x0 != 0 <;> cases sfL (hd0 ys) xs <;> rfl
  · rw [List.drop_zero]
    have d1 : decide ((0 : Int) ≤ 0 ∧ 0 ≤ xs.length ∧ (xs.length : Int) = (xs.length : Int) ∧ xs.length ≤ 4000000000 ∧ xs.length = xs.length ∧ cntL ys ≤ n ∧ cntL ys ≤ 1000000 ∧ rightL 5 ys = true ∧ widL xs = true) = true := decide_eq_true ⟨by omega, by omega, rfl, h4, rfl, by omega, by omega, hrr, h5⟩
    have d2 : decide (ys.length ≤ maxI ∧ xs.length ≤ maxI) = true := decide_eq_true ⟨by omega, by omega⟩
    rw [d1, d2]
    cases x3 <;> cases x1 == nilT UInt8 <;> cases x0 != 0 <;> cases sfM ys xs 0 xs <;> cases mustsB xs ys <;> rfl
theorem sf_con : ∀ n, (∀ m, m < n → Contract Try.prog 125 (Ent.rd1 (sfN m)).F) → Contract Try.prog 125 (Ent.rd1 (sfN n)).F
  | 0, _ => contract_no fun vs bs => by
    unfold Ent.F sfN
    dsimp only
    split
    · rename_i x0 x1 x2 x3 xs y0 y1 y2 y3 y4 ys
      have : decide (cntL ys + 1 ≤ 0 ∧ cntL ys + 1 ≤ 1000000 ∧ rightR (.node (y0, y1, y2, y3, y4, ()) ys) = true ∧ widR (.node (x0, x1, x2, x3, ()) xs) = true) = false := decide_eq_false (by omega)
      rw [this]; rfl
    · rfl
  | n + 1, ih => by
    refine fun_contractN' (KnowsL.cons (enters_fn Try.func125 (by kernel_rfl) (by kernel_rfl)) (ih n (Nat.lt_succ_self n)) (KnowsL.cons (enters_fn Try.func116 (by kernel_rfl) (by kernel_rfl)) l2Holds (KnowsL.cons (enters_fn Try.func165 (by kernel_rfl) (by kernel_rfl)) l1Num (KnowsL.cons (enters_fn Try.func111 (by kernel_rfl) (by kernel_rfl)) l1In (KnowsL.cons (enters_fn Try.func63 (by kernel_rfl) (by kernel_rfl)) l2By (KnowsL.cons (enters_fn Try.func166 (by kernel_rfl) (by kernel_rfl)) l4Musts KnowsL.nil)))))).knows (Λ := (look [(12, sf1E n), (19, sf2E n)])) Try.func125 (c := Try.f125.body.getD .skip) (by kernel_rfl) fun vs bs r hq hv hb => ?_
    unfold Ent.F sfN at hq
    dsimp only at hq
    split at hq
    · rename_i x0 x1 x2 x3 xs y0 y1 y2 y3 y4 ys
      obtain ⟨hc, hx⟩ := need_some hq
      exact ⟨LoopsI.loops (.cons (a := body Try.f125 0) (by kernel_rfl) (sf1_ok n) (.cons (a := body Try.f125 1) (by kernel_rfl) (sf2_ok n) .nil)) (by kernel_rfl), (sf_fun n x0 x1 x2 x3 xs y0 y1 y2 y3 y4 ys (of_decide_eq_true hc)).trans hx⟩
    · cases hq
theorem l4Fits : Contract Try.prog 125 (Ent.rd1 sfG).F := by
  refine contract_rec (F := fun n => (Ent.rd1 (sfN n)).F) sf_con fun vs bs r h => ?_
  unfold Ent.F sfG at h
  dsimp only at h
  split at h
  · rename_i x0 x1 x2 x3 xs y0 y1 y2 y3 y4 ys
    obtain ⟨hc, hx⟩ := need_some h
    refine ⟨cntL ys + 1, ?_⟩
    show (Br.need (decide (cntL ys + 1 ≤ cntL ys + 1 ∧ cntL ys + 1 ≤ 1000000 ∧ rightR (.node (y0, y1, y2, y3, y4, ()) ys) = true ∧ widR (.node (x0, x1, x2, x3, ()) xs) = true)) (.leaf (.b (sfR (.node (x0, x1, x2, x3, ()) xs) (.node (y0, y1, y2, y3, y4, ()) ys)), []))).run = some r
    have : decide (cntL ys + 1 ≤ cntL ys + 1 ∧ cntL ys + 1 ≤ 1000000 ∧ rightR (.node (y0, y1, y2, y3, y4, ()) ys) = true ∧ widR (.node (x0, x1, x2, x3, ()) xs) = true) = true := decide_eq_true ⟨Nat.le_refl _, of_decide_eq_true hc⟩
    rw [this]
    exact hx
  · cases h
instance decNd0 : DecidableEq (Int × Bool × Unit) := inferInstance
instance decNd : DecidableEq Nd := inferInstance
def manyN (l : List Nd) (e : Nat) : Option Bool := (l[e]?).map fun x => x.2.2.2.2.1
/-- Whether a place is met on the way out from another one. -/
def varnd (v : List Nd) (u : Int) : Nat → Int → Bool
  | 0, _ => false
  | f + 1, x => if x < 0 then false else (x == u || match upN v x.toNat with | some w => varnd v u f w | none => false)
/-- All ahead of a place lie behind those around them. -/
def vupsOK (l : List Nd) (i : Nat) : Bool := (List.range i).all fun j => match upN l j with | some v => decide (v < (j : Int)) | none => false
/-- Whether a node stands where it may. -/
def okN (v : List Nd) (i : Nat) : Bool := match v[i]? with
  | none => false
  | some x => if i = 0 then x.2.2.2.1 == -1 && x.2.2.1 == 0
    else decide (0 ≤ x.2.2.2.1 ∧ x.2.2.2.1 < (i : Int)) && ((manyN v x.2.2.2.1.toNat).getD false && varnd v x.2.2.2.1 i ((i : Int) - 1))
def nodesB (v : List Nd) : Bool := (List.range v.length).all (okN v) && decide (1 ≤ v.length ∧ v.length ≤ 40)
def nodesG : List V → List Blk → Br (V × List (Option Blk))
  | [.agg [.sl (.pair (.int .i64) (.pair .str (.pair (.int .i64) (.pair (.int .i64) (.pair .bool .unit))))) v]], [] => .need (decide (v.length ≤ 4000000000)) (.leaf (.b (nodesB v), []))
  | _, _ => .no
def no1E : LoopEnt := ⟨68, [1,8,9,10], [1], [2], fun
  | ([.ptr 0 0, .sl (.pair (.int .i64) (.pair .str (.pair (.int .i64) (.pair (.int .i64) (.pair .bool .unit))))) q, .i .i64 m, .i .i64 i], [some (.box [.sl (.pair (.int .i64) (.pair .str (.pair (.int .i64) (.pair (.int .i64) (.pair .bool .unit))))) v])]) => .need (decide (0 ≤ i ∧ i.toNat ≤ v.length ∧ m = v.length ∧ eqT (List Nd) q v ∧ v.length ≤ 4000000000) && vupsOK v i.toNat) (.br (((List.range v.length).drop i.toNat).all (okN v)) (.leaf (.exit 0, ([.ptr 0 0], [some (.box [.sl (.pair (.int .i64) (.pair .str (.pair (.int .i64) (.pair (.int .i64) (.pair .bool .unit))))) v])]))) (.leaf (.ret, ([.b false], []))))
  | _ => .no⟩
def no2E : LoopEnt := ⟨68, [1,4,5,6,8,9,10], [1,5,8,9,10], [], fun
  | ([.ptr 0 0, .ptr 1 0, .b ar, .i .i64 x, .sl (.pair (.int .i64) (.pair .str (.pair (.int .i64) (.pair (.int .i64) (.pair .bool .unit))))) q, .i .i64 m, .i .i64 i], [some (.box [.sl (.pair (.int .i64) (.pair .str (.pair (.int .i64) (.pair (.int .i64) (.pair .bool .unit))))) v]), some (.box [.i .i64 y0, .s y1, .i .i64 y2, .i .i64 y3, .b y4])]) => .need (decide (0 ≤ i ∧ i.toNat ≤ v.length ∧ x < i ∧ v.length ≤ 4000000000) && vupsOK v i.toNat) (.leaf (.exit 2, ([.ptr 0 0, .b (ar || varnd v y3 (x + 1).toNat x), .sl (.pair (.int .i64) (.pair .str (.pair (.int .i64) (.pair (.int .i64) (.pair .bool .unit))))) q, .i .i64 m, .i .i64 i], [some (.box [.sl (.pair (.int .i64) (.pair .str (.pair (.int .i64) (.pair (.int .i64) (.pair .bool .unit))))) v])])))
  | _ => .no⟩
theorem no1_round (v q : List Nd) (m i : Int) : roundK Try.prog (look [(111, .rd1 withinG)]) (look [(2, no1E), (11, no2E)]) 0 (body Try.f124 0) no1E ([.ptr 0 0, .sl NCd q, .i .i64 m, .i .i64 i], [some (.box [.sl NCd v])]) =
  ((ifB (decide (i < m)) (ifT (decide ((0 : Int) ≤ i) && decide (i < (↑q.length : Int))) (ifSome q[i.toNat]? fun z => ifB (i == (0 : Int)) (ifB (z.snd.snd.snd.fst != (-1 :
 Int)) (some (Ex.ret, [V.b false], [])) (ifB (z.snd.snd.fst != (0 : Int)) (some (Ex.ret, [V.b false], [])) (some (Ex.normal, [V.ptr 0 0, V.sl NCd q, V.i .i64 m, V.i .i64
 (IntKind.i64.wrap (i + (1 : Int)))], [some (Blk.box [V.sl NCd v])])))) (ifB (decide (z.snd.snd.snd.fst < (0 : Int))) (some (Ex.ret, [V.b false], [])) (ifB (decide
 (z.snd.snd.snd.fst ≥ i)) (some (Ex.ret, [V.b false], [])) (ifT (decide ((0 : Int) ≤ z.snd.snd.snd.fst) && decide (z.snd.snd.snd.fst < (↑v.length : Int))) (ifSome
 v[Int.toNat z.snd.snd.snd.fst]? fun z_1 => ifB (!z_1.snd.snd.snd.snd.fst) (some (Ex.ret, [V.b false], [])) (ifT (decide ((0 : Int) ≤ i ∧ i.toNat ≤ v.length ∧
 IntKind.i64.wrap (i - (1 : Int)) < i ∧ v.length ≤ (4000000000 : Nat)) && vupsOK v i.toNat) (ifB (!(false || varnd v z.snd.snd.snd.fst (IntKind.i64.wrap (i - (1 : Int)) +
 (1 : Int)).toNat (IntKind.i64.wrap (i - (1 : Int))))) (some (Ex.ret, [V.b false], [])) (some (Ex.normal, [V.ptr 0 0, V.sl NCd q, V.i .i64 m, V.i .i64 (IntKind.i64.wrap (i
 + (1 : Int)))], [some (Blk.box [V.sl NCd v])])))))))))) (some (Ex.exit 0, [V.ptr 0 0], [some (Blk.box [V.sl NCd v])]))) : _) := by kernel_rfl
theorem no2_round (v q : List Nd) (y0 : Int) (y1 : List UInt8) (y2 y3 : Int) (y4 : Bool) (ar : Bool) (m i x : Int) : roundK Try.prog (look [(111, .rd1 withinG)]) (look [(2, no1E), (11, no2E)]) 0 (body Try.f124 1) no2E ([.ptr 0 0, .ptr 1 0, .b ar, .i .i64 x, .sl NCd q, .i .i64 m, .i .i64 i], [some (.box [.sl NCd v]), some (.box [.i .i64 y0, .s y1, .i .i64 y2, .i .i64 y3, .b y4])]) =
  ((ifB (decide (x ≥ (0 : Int))) (ifB ar (ifT (decide ((0 : Int) ≤ x) && decide (x < (↑v.length : Int))) (ifSome v[x.toNat]? fun z => some (Ex.normal, [V.ptr 0 0, V.ptr 1 0,
 V.b true, V.i .i64 z.snd.snd.snd.fst, V.sl NCd q, V.i .i64 m, V.i .i64 i], [some (Blk.box [V.sl NCd v]), some (Blk.box [V.i .i64 y0, V.s y1, V.i .i64 y2, V.i .i64 y3, V.b
 y4])]))) (ifT (decide ((0 : Int) ≤ x) && decide (x < (↑v.length : Int))) (ifSome v[x.toNat]? fun z => some (Ex.normal, [V.ptr 0 0, V.ptr 1 0, V.b (x == y3), V.i .i64
 z.snd.snd.snd.fst, V.sl NCd q, V.i .i64 m, V.i .i64 i], [some (Blk.box [V.sl NCd v]), some (Blk.box [V.i .i64 y0, V.s y1, V.i .i64 y2, V.i .i64 y3, V.b y4])])))) (some
 (Ex.exit 2, [V.ptr 0 0, V.b ar, V.sl NCd q, V.i .i64 m, V.i .i64 i], [some (Blk.box [V.sl NCd v])]))) : _) := by kernel_rfl
theorem no_tree (v : List Nd) : funK Try.prog (look [(111, .rd1 withinG)]) (look [(2, no1E), (11, no2E)]) Try.f124 [.agg [.sl NCd v]] [] =
  ((ifT (decide ((0 : Int) ≤ (0 : Int) ∧ (0 : Nat) ≤ v.length ∧ (↑v.length : Int) = (↑v.length : Int) ∧ eqT (List Nd) v v ∧ v.length ≤ (4000000000 : Nat)) && vupsOK v (0 :
 Nat)) (ifB ((List.drop (0 : Nat) (List.range v.length)).all (okN v)) (some (V.b (decide ((1 : Int) ≤ (↑v.length : Int) ∧ (↑v.length : Int) ≤ (40 : Int))), [])) (some (V.b
 false, [])))) : _) := by kernel_rfl
theorem vups_at {l : List Nd} {i j : Nat} (h : vupsOK l i = true) (hj : j < i) : ∃ v, upN l j = some v ∧ v < (j : Int) := by
  have := List.all_eq_true.1 h j (List.mem_range.2 hj)
  cases hu : upN l j with
  | none => rw [hu] at this; cases this
  | some v => rw [hu] at this; exact ⟨v, rfl, of_decide_eq_true this⟩
theorem vupsOK_succ {l : List Nd} {i : Nat} (h : vupsOK l i = true) {u : Int} (hu : upN l i = some u) (hlt : u < (i : Int)) : vupsOK l (i + 1) = true := by
  unfold vupsOK at h ⊢
  rw [List.range_succ, List.all_append, h, Bool.true_and, List.all_cons, List.all_nil, Bool.and_true, hu]
  exact decide_eq_true hlt
theorem varnd_fuel {l : List Nd} {i : Nat} (h : vupsOK l i = true) (u : Int) : ∀ (f f' : Nat) (x : Int), x < (i : Int) → (x + 1).toNat ≤ f → (x + 1).toNat ≤ f' → varnd l u f x = varnd l u f' x
  | 0, 0, x, _, _, _ => rfl
  | 0, f' + 1, x, hx, h1, h2 => by rw [varnd, varnd, if_pos (by omega)]
  | f + 1, 0, x, hx, h1, h2 => by rw [varnd, varnd, if_pos (by omega)]
  | f + 1, f' + 1, x, hx, h1, h2 => by
    rw [varnd, varnd]
    by_cases a : x < 0
    · rw [if_pos a, if_pos a]
    · rw [if_neg a, if_neg a]
      obtain ⟨v, hv, hv2⟩ := vups_at h (j := x.toNat) (by omega)
      rw [hv]
      dsimp only
      rw [varnd_fuel h u f f' v (by omega) (by omega) (by omega)]
theorem upN_of {l : List Nd} {e : Nat} (h : e < l.length) : upN l e = some l[e].2.2.2.1 := by
  unfold upN
  rw [List.getElem?_eq_getElem h]; rfl
theorem no2_loop (v q : List Nd) (y0 : Int) (y1 : List UInt8) (y2 y3 : Int) (y4 : Bool) (m : Int) (i : Nat) (hi : i ≤ v.length) (hl : v.length ≤ 4000000000) (hs : vupsOK v i = true) : ∀ (j : Nat) (x : Int) (ar : Bool), (x + 1).toNat = j → x < (i : Int) →
    Runs Try.prog (look [(111, .rd1 withinG)]) (look [(2, no1E), (11, no2E)]) 0 (body Try.f124 1) no2E ([.ptr 0 0, .ptr 1 0, .b ar, .i .i64 x, .sl NCd q, .i .i64 m, .i .i64 (i : Int)], [some (.box [.sl NCd v]), some (.box [.i .i64 y0, .s y1, .i .i64 y2, .i .i64 y3, .b y4])]) (.exit 2) ([.ptr 0 0, .b (ar || varnd v y3 (x + 1).toNat x), .sl NCd q, .i .i64 m, .i .i64 (i : Int)], [some (.box [.sl NCd v])]) := by
  intro j
  induction j using Nat.strongRecOn with
  | ind j ih =>
    intro x ar hj hx
    have hr := no2_round v q y0 y1 y2 y3 y4 ar m i x
    by_cases a : x < 0
    · rw [ifB_false (decide_eq_false (by omega))] at hr
      have e0 : (x + 1).toNat = 0 := by omega
      rw [e0, varnd, Bool.or_false]
      exact .stop _ _ _ hr (by simp)
    · obtain ⟨x, rfl⟩ := Int.eq_ofNat_of_zero_le (by omega : 0 ≤ x)
      have hxl : x < v.length := by omega
      have hd : (decide ((0 : Int) ≤ (x : Int)) && decide ((x : Int) < (v.length : Int))) = true := by simp only [Bool.and_eq_true, decide_eq_true_eq]; omega
      rw [ifB_true (decide_eq_true (by omega)), hd, Int.toNat_natCast, List.getElem?_eq_getElem hxl, ifT_t, ifSome_s, ifT_t, ifSome_s] at hr
      obtain ⟨w, hw, hw2⟩ := vups_at hs (j := x) (by omega)
      have hw3 : v[x].2.2.2.1 = w := by rw [upN_of hxl] at hw; exact Option.some.inj hw
      rw [hw3] at hr
      have e0 : ((x : Int) + 1).toNat = x + 1 := by omega
      rw [e0, varnd, if_neg (by omega), Int.toNat_natCast, hw]
      dsimp only
      rw [varnd_fuel hs y3 x (w + 1).toNat w (by omega) (by omega) (Nat.le_refl _), ← Bool.or_assoc]
      refine .step _ _ _ _ (hr.trans ?_) (ih (w + 1).toNat (by omega) w (ar || (x : Int) == y3) rfl (by omega))
      cases ar <;> rfl
theorem no2_ok : ∀ d e d', (no2E.L d).run = some (e, d') → Runs Try.prog (look [(111, .rd1 withinG)]) (look [(2, no1E), (11, no2E)]) 0 (body Try.f124 1) no2E d e d' := fun d ex d' h => by
  unfold no2E at h
  dsimp only at h
  split at h
  · rename_i ar x q m i v y0 y1 y2 y3 y4
    obtain ⟨hc, hx⟩ := need_some h
    clear h
    rw [Bool.and_eq_true] at hc
    obtain ⟨hc, hs⟩ := hc
    obtain ⟨h0, h1, h2, h3⟩ := of_decide_eq_true hc
    obtain ⟨i, rfl⟩ := Int.eq_ofNat_of_zero_le h0
    simp only [Int.toNat_natCast] at h1 hs
    have h8 := leaf_some hx
    obtain ⟨rfl, rfl⟩ := Prod.mk.inj h8
    exact no2_loop v q y0 y1 y2 y3 y4 m i h1 h3 hs _ x ar rfl h2
  · cases h
theorem okN_up {v : List Nd} {i : Nat} (h : okN v i = true) : ∃ u, upN v i = some u ∧ u < (i : Int) := by
  unfold okN at h
  cases hx : v[i]? with
  | none => rw [hx] at h; cases h
  | some x =>
    rw [hx] at h
    dsimp only at h
    refine ⟨x.2.2.2.1, by unfold upN; rw [hx]; rfl, ?_⟩
    split at h
    · rw [Bool.and_eq_true, beq_iff_eq] at h; omega
    · rw [Bool.and_eq_true, decide_eq_true_eq] at h; exact h.1.2
theorem no1_step (v : List Nd) (hl : v.length ≤ 4000000000) (i : Nat) (hi : i < v.length) (hs : vupsOK v i = true) :
    roundK Try.prog (look [(111, .rd1 withinG)]) (look [(2, no1E), (11, no2E)]) 0 (body Try.f124 0) no1E ([.ptr 0 0, .sl NCd v, .i .i64 (v.length : Int), .i .i64 (i : Int)], [some (.box [.sl NCd v])]) = some (bif okN v i then (.normal, ([.ptr 0 0, .sl NCd v, .i .i64 (v.length : Int), .i .i64 ((i + 1 : Nat) : Int)], [some (.box [.sl NCd v])])) else (.ret, ([.b false], []))) := by
  have hM : maxI = 9223372036854775807 := rfl
  have hr := no1_round v v v.length i
  rw [ifB_true (decide_eq_true (by omega)), ifT_true (by simp only [Bool.and_eq_true, decide_eq_true_eq]; omega), Int.toNat_natCast, List.getElem?_eq_getElem hi, ifSome_s, wrap_succ (n := i) (by omega)] at hr
  refine hr.trans ?_
  clear hr
  unfold okN
  rw [List.getElem?_eq_getElem hi]
  dsimp only
  by_cases hz : i = 0
  · subst hz
    rw [if_pos rfl, show (((0 : Nat) : Int) == 0) = true from rfl]
    unfold bne
    cases v[0].2.2.2.1 == -1 <;> cases v[0].2.2.1 == 0 <;> rfl
  · rw [if_neg hz, show ((i : Int) == 0) = false from beq_false_of_ne (by omega), ifB_f]
    have hw : IntKind.i64.wrap ((i : Int) - 1) = (i : Int) - 1 := wrap_id (by omega) (by omega)
    rw [hw]
    by_cases c : 0 ≤ v[i].2.2.2.1 ∧ v[i].2.2.2.1 < (i : Int)
    · obtain ⟨u, hu⟩ := Int.eq_ofNat_of_zero_le c.1
      rw [hu] at c ⊢
      have hul : u < v.length := by omega
      rw [decide_eq_true c, ifB_false (decide_eq_false (by omega)), ifB_false (decide_eq_false (by omega)), ifT_true (by simp only [Bool.and_eq_true, decide_eq_true_eq]; omega), Int.toNat_natCast, List.getElem?_eq_getElem hul, ifSome_s]
      have hm : manyN v u = some v[u].2.2.2.2.1 := by unfold manyN; rw [List.getElem?_eq_getElem hul]; rfl
      rw [hm, ifT_true (by rw [Bool.and_eq_true]; exact ⟨decide_eq_true ⟨by omega, by omega, by omega, hl⟩, hs⟩)]
      rw [varnd_fuel hs u ((i : Int) - 1 + 1).toNat i ((i : Int) - 1) (by omega) (Nat.le_refl _) (by omega)]
      show _ = some (bif true && (v[u].2.2.2.2.1 && _) then _ else _)
      cases v[u].2.2.2.2.1 <;> cases varnd v u i ((i : Int) - 1) <;> rfl
    · rw [decide_eq_false c]
      by_cases c1 : v[i].2.2.2.1 < 0
      · rw [ifB_true (decide_eq_true c1)]; rfl
      · rw [ifB_false (decide_eq_false c1), ifB_true (decide_eq_true (by omega))]; rfl
theorem no1_loop (v : List Nd) (hl : v.length ≤ 4000000000) : ∀ (j i : Nat), i + j = v.length → vupsOK v i = true → ∀ ex d, (Br.br (((List.range v.length).drop i).all (okN v)) (.leaf (.exit 0, ([.ptr 0 0], [some (.box [.sl NCd v])]))) (.leaf (.ret, ([.b false], []))) : Br (Ex × Dt)).run = some (ex, d) →
    Runs Try.prog (look [(111, .rd1 withinG)]) (look [(2, no1E), (11, no2E)]) 0 (body Try.f124 0) no1E ([.ptr 0 0, .sl NCd v, .i .i64 (v.length : Int), .i .i64 (i : Int)], [some (.box [.sl NCd v])]) ex d
  | 0, i, hi, hs, ex, d, h => by
    have hr := no1_round v v v.length i
    rw [ifB_false (decide_eq_false (by omega))] at hr
    have e1 : (List.range v.length).drop i = [] := List.drop_eq_nil_of_le (by simp; omega)
    rw [e1] at h
    have h8 := leaf_some h
    obtain ⟨rfl, rfl⟩ := Prod.mk.inj h8
    exact .stop _ _ _ hr (by simp)
  | j + 1, i, hi, hs, ex, d, h => by
    have hr := no1_step v hl i (by omega) hs
    rw [range_drop (by omega), List.all_cons] at h
    cases hk : okN v i with
    | true =>
      rw [hk, cond_true] at hr
      rw [hk, Bool.true_and] at h
      obtain ⟨u, hu, hlt⟩ := okN_up hk
      exact .step _ _ _ _ hr (no1_loop v hl j (i + 1) (by omega) (vupsOK_succ hs hu hlt) ex d h)
    | false =>
      rw [hk, cond_false] at hr
      rw [hk, Bool.false_and] at h
      have h8 := leaf_some h
      obtain ⟨rfl, rfl⟩ := Prod.mk.inj h8
      exact .stop _ _ _ hr (by simp)
theorem no1_ok : ∀ d e d', (no1E.L d).run = some (e, d') → Runs Try.prog (look [(111, .rd1 withinG)]) (look [(2, no1E), (11, no2E)]) 0 (body Try.f124 0) no1E d e d' := fun d ex d' h => by
  unfold no1E at h
  dsimp only at h
  split at h
  · rename_i q m i v
    obtain ⟨hc, hx⟩ := need_some h
    clear h
    rw [Bool.and_eq_true] at hc
    obtain ⟨hc, hs⟩ := hc
    obtain ⟨h0, h1, rfl, h3, h4⟩ := of_decide_eq_true hc
    have h3 : q = v := h3
    subst h3
    obtain ⟨i, rfl⟩ := Int.eq_ofNat_of_zero_le h0
    simp only [Int.toNat_natCast] at h1 hs hx
    exact no1_loop _ h4 _ i (Nat.add_sub_of_le h1) hs ex d' hx
  · cases h
theorem l4Nodes : Contract Try.prog 124 (Ent.rd1 nodesG).F := by
  refine fun_contract' (KnowsL.cons (enters_fn Try.func111 (by kernel_rfl) (by kernel_rfl)) l1In KnowsL.nil).knows (Λ := (look [(2, no1E), (11, no2E)])) Try.func124 (c := Try.f124.body.getD .skip) (by kernel_rfl) fun vs bs r hq hv hb => ?_
  unfold Ent.F nodesG at hq
  dsimp only at hq
  split at hq
  · rename_i v
    obtain ⟨hc, hx⟩ := need_some hq
    have h1 := of_decide_eq_true hc
    refine ⟨LoopsI.loops (.cons (a := body Try.f124 0) (by kernel_rfl) no1_ok (.cons (a := body Try.f124 1) (by kernel_rfl) no2_ok .nil)) (by kernel_rfl), Eq.trans ?_ hx⟩
    have hu0 : vupsOK v 0 = true := rfl
    have d0 : decide ((0 : Int) ≤ 0 ∧ 0 ≤ v.length ∧ (v.length : Int) = (v.length : Int) ∧ eqT (List Nd) v v ∧ v.length ≤ 4000000000) = true := decide_eq_true ⟨by omega, by omega, rfl, rfl, h1⟩
    have hle : decide (1 ≤ (v.length : Int) ∧ (v.length : Int) ≤ 40) = decide (1 ≤ v.length ∧ v.length ≤ 40) := decide_eq_decide.2 (by omega)
    rw [no_tree, d0, hu0, List.drop_zero, hle]
    unfold nodesB
    cases (List.range v.length).all (okN v) <;> rfl
  · cases hq
def fitsS (v : List Nd) (l : List Ty) : Bool := kindB l && (nodesB v && sfR (v4L v 0) (t2L l 0))
def sfitsG : List V → List Blk → Br (V × List (Option Blk))
  | [.agg [.sl (.pair (.int .i64) (.pair .str (.pair (.int .i64) (.pair (.int .i64) (.pair .bool .unit))))) v], .agg [.sl (.pair (.int .i64) (.pair .str (.pair (.int .i64) (.pair .bool (.pair (.int .i64) (.pair (.int .i64) .unit)))))) l]], [] => .need (decide (l.length ≤ 4000000000) && nmL l && decide (v.length ≤ 4000000000)) (.leaf (.b (fitsS v l), []))
  | _, _ => .no
theorem sfits_tree (v : List Nd) (l : List Ty) : funK Try.prog (look [(50, .rd1 gschG), (124, .rd1 nodesG), (64, .rd1 l4TreeG), (53, .rd1 l2TreeG), (125, .rd1 sfG)]) (look []) Try.f62 [.agg [.sl NCd v], .agg [.sl TCd l]] [] =
  ((ifT (decide (l.length ≤ (4000000000 : Nat)) && nmL l) (ifB (kindB l) (ifT (decide (v.length ≤ (4000000000 : Nat))) (ifB (nodesB v) (ifT (decide ((0 : Int) ≤ (0 : Int) ∧ (0
 : Nat) < v.length ∧ v.length ≤ (4000000000 : Nat))) (ifT (decide ((0 : Int) ≤ (0 : Int) ∧ (0 : Nat) < l.length ∧ l.length ≤ (4000000000 : Nat))) (ifT (decide (cntL
 (List.take (t2L l (0 : Nat)).kids.length (List.drop (0 : Nat) (t2L l (0 : Nat)).kids)) + (1 : Nat) ≤ (1000000 : Nat) ∧ rightR (Rose.node ((t2L l (0 : Nat)).lab.fst, (t2L
 l (0 : Nat)).lab.snd.fst, (t2L l (0 : Nat)).lab.snd.snd.fst, (t2L l (0 : Nat)).lab.snd.snd.snd.fst, (t2L l (0 : Nat)).lab.snd.snd.snd.snd.fst, ()) (List.take (t2L l (0 :
 Nat)).kids.length (List.drop (0 : Nat) (t2L l (0 : Nat)).kids))) = true ∧ widR (Rose.node ((v4L v (0 : Nat)).lab.fst, (v4L v (0 : Nat)).lab.snd.fst, (v4L v (0 :
 Nat)).lab.snd.snd.fst, (v4L v (0 : Nat)).lab.snd.snd.snd.fst, ()) (List.take (v4L v (0 : Nat)).kids.length (List.drop (0 : Nat) (v4L v (0 : Nat)).kids))) = true)) (some
 (V.b (sfR (Rose.node ((v4L v (0 : Nat)).lab.fst, (v4L v (0 : Nat)).lab.snd.fst, (v4L v (0 : Nat)).lab.snd.snd.fst, (v4L v (0 : Nat)).lab.snd.snd.snd.fst, ()) (List.take
 (v4L v (0 : Nat)).kids.length (List.drop (0 : Nat) (v4L v (0 : Nat)).kids))) (Rose.node ((t2L l (0 : Nat)).lab.fst, (t2L l (0 : Nat)).lab.snd.fst, (t2L l (0 :
 Nat)).lab.snd.snd.fst, (t2L l (0 : Nat)).lab.snd.snd.snd.fst, (t2L l (0 : Nat)).lab.snd.snd.snd.snd.fst, ()) (List.take (t2L l (0 : Nat)).kids.length (List.drop (0 : Nat)
 (t2L l (0 : Nat)).kids)))), []))))) (some (V.b false, [])))) (some (V.b false, [])))) : _) := by kernel_rfl
theorem v4_wid {v : List Nd} (hl : v.length ≤ 4000000000) : ∀ (f k : Nat), widR (v4t v f k) = true := by
  have all : ∀ l : List (Rose VLab), (∀ z ∈ l, widR z = true) → widL l = true := fun l => by
    induction l with
    | nil => intro _; rfl
    | cons z l ih => intro h; rw [widL, h z (by simp), ih fun w hw => h w (by simp [hw])]; rfl
  intro f
  induction f with
  | zero => intro k; rw [v4t, widR]; rfl
  | succ f ih =>
    intro k
    have h1 := nkL_len (k : Int) (v.drop (k + 1)) (k + 1)
    rw [List.length_drop] at h1
    have h2 : (nkAt v k).length ≤ v.length - (k + 1) := h1
    rw [v4t, widR, all _ (fun z hz => by
      obtain ⟨x, _, rfl⟩ := List.mem_map.1 hz
      exact ih _), List.length_map, decide_eq_true (by omega)]
    rfl
theorem kf_t2 {l : List Ty} (h : kindB l = true) : 0 < l.length ∧ cntR (t2L l 0) ≤ 1000000 ∧ rightR (t2L l 0) = true ∧ (kf l 0).1 = t2L l 0 := by
  have e := (gsch_eq l).2 h
  have f := kindB_facts h
  rw [e] at f
  refine ⟨?_, f.1, f.2, e⟩
  unfold kindB at h
  simp only [Bool.and_eq_true, decide_eq_true_eq] at h
  omega
theorem sfits_fun (v : List Nd) (l : List Ty) (h1 : (decide (l.length ≤ 4000000000) && nmL l) = true) (h2 : v.length ≤ 4000000000) : funK Try.prog (look [(50, .rd1 gschG), (124, .rd1 nodesG), (64, .rd1 l4TreeG), (53, .rd1 l2TreeG), (125, .rd1 sfG)]) (look []) Try.f62 [.agg [.sl NCd v], .agg [.sl TCd l]] [] = some (.b (fitsS v l), []) := by
  rw [sfits_tree, h1, ifT_t]
  unfold fitsS
  cases hk : kindB l with
  | false => rfl
  | true =>
    obtain ⟨k1, k2, k3, k4⟩ := kf_t2 hk
    rw [ifB_t, ifT_true (decide_eq_true h2)]
    cases hn : nodesB v with
    | false => rfl
    | true =>
      have hv : 0 < v.length := by
        unfold nodesB at hn
        simp only [Bool.and_eq_true, decide_eq_true_eq] at hn
        omega
      rw [Bool.and_eq_true, decide_eq_true_eq] at h1
      have hck := cnt_kids (t2L l 0)
      have hw : widR (v4L v 0) = true := v4_wid h2 _ _
      rw [ifB_t, ifT_true (decide_eq_true ⟨by omega, hv, h2⟩), ifT_true (decide_eq_true ⟨by omega, k1, h1.1⟩), rose_eta, vrose_eta, List.drop_zero, List.take_length, ifT_true (decide_eq_true ⟨by omega, k3, hw⟩)]
      rfl
theorem sfitsS : Contract Try.prog 62 (Ent.rd1 sfitsG).F := by
  refine fun_contract' (KnowsL.cons (enters_fn Try.func50 (by kernel_rfl) (by kernel_rfl)) sgsch (KnowsL.cons (enters_fn Try.func124 (by kernel_rfl) (by kernel_rfl)) l4Nodes (KnowsL.cons (enters_fn Try.func64 (by kernel_rfl) (by kernel_rfl)) l4Tree (KnowsL.cons (enters_fn Try.func53 (by kernel_rfl) (by kernel_rfl)) l2Tree (KnowsL.cons (enters_fn Try.func125 (by kernel_rfl) (by kernel_rfl)) l4Fits KnowsL.nil))))).knows (Λ := look []) Try.func62 (c := Try.f62.body.getD .skip) (by kernel_rfl) fun vs bs r hq hv hb => ?_
  unfold Ent.F sfitsG at hq
  dsimp only at hq
  split at hq
  · rename_i v l
    obtain ⟨hc, hx⟩ := need_some hq
    rw [Bool.and_eq_true, decide_eq_true_eq] at hc
    exact ⟨loopsOk_nil _, (sfits_fun v l hc.1 hc.2).trans hx⟩
  · cases hq
/-- A node as a type: nodes are read as types are read. -/
def asT (x : Nd) : Ty := (bif x.2.2.2.2.1 then 5 else 1, x.2.1, x.2.2.1, x.2.2.2.2.1, x.2.2.2.1, x.1, ())
def tys (v : List Nd) : List Ty := v.map asT
def cvL (x : Lab) : VLab := (x.2.2.2.2.1, x.2.1, x.2.2.1, x.2.2.2.1, ())
mutual
def cv : Rose Lab → Rose VLab
  | .node x ks => .node (cvL x) (cvs ks)
def cvs : List (Rose Lab) → List (Rose VLab)
  | [] => []
  | z :: l => cv z :: cvs l
end
/-- The parts of a message against those of its type, one behind the other. -/
def matchM : List (Rose Lab) → List (Rose VLab) → Bool
  | [], us => us.isEmpty
  | z :: ks, [] => !z.lab.2.2.2.1 && matchM ks []
  | z :: ks, u :: us => if u.lab.2.2.1 = z.lab.2.2.1 then sfR u z && matchM ks us else !z.lab.2.2.2.1 && matchM ks (u :: us)
theorem tys_len (v : List Nd) : (tys v).length = v.length := by unfold tys; rw [List.length_map]
theorem up_tys (v : List Nd) (i : Nat) : upAt (tys v) i = upN v i := by
  unfold upAt upN tys
  rw [List.getElem?_map]
  cases v[i]? <;> rfl
theorem lab_tys {v : List Nd} {i : Nat} (h : i < v.length) : labAt (tys v) i = (bif v[i].2.2.2.2.1 then 5 else 1, v[i].2.1, v[i].2.2.1, v[i].2.2.2.2.1, v[i].1, ()) := by
  unfold labAt tys
  rw [List.getElem?_map, List.getElem?_eq_getElem h]
  rfl
theorem holds_tys {v : List Nd} {i : Nat} (h : i < v.length) : holdsK (labAt (tys v) i).1 = v[i].2.2.2.2.1 := by
  rw [lab_tys h]
  cases v[i].2.2.2.2.1 <;> rfl
theorem cvs_map : ∀ l : List (Rose Lab), cvs l = l.map cv
  | [] => by rw [cvs]; rfl
  | z :: l => by rw [cvs, cvs_map l]; rfl
theorem cv_lab (z : Rose Lab) : (cv z).lab = cvL z.lab := by cases z; rw [cv]; rfl
theorem nk_kids (k : Int) : ∀ (l : List Nd) (i : Nat), nkL k i l = kidsL k i (l.map asT)
  | [], i => rfl
  | x :: l, i => by
    rw [nkL, List.map_cons, kidsL, nk_kids k l]
    rfl
theorem nkAt_tys (v : List Nd) (k : Nat) : nkAt v k = kidsAt (tys v) k := by
  unfold nkAt kidsAt tys
  rw [nk_kids, List.map_drop]
theorem v4_cv {v : List Nd} : ∀ (n k : Nat), v.length - k ≤ n → k < v.length → v4L v k = cv (t2L (tys v) k)
  | 0, k, h1, h2 => by omega
  | n + 1, k, h1, h2 => by
    have hl := tys_len v
    rw [v4_eq h2, t2_eq (by omega), cv, cvs_map, List.map_map, nkAt_tys]
    congr 1
    · rw [lab_tys h2]
      unfold nlabAt
      rw [List.getElem?_eq_getElem h2]
      rfl
    · refine List.map_congr_left fun x hx => ?_
      obtain ⟨j, rfl, h3, h4⟩ := kidsAt_mem hx
      exact v4_cv n _ (by simp; omega) (by simp; omega)
theorem kloop_acc {l : List Ty} {g : Nat → Rose Lab × Nat} {a : Nat} : ∀ (n e : Nat) (ks : List (Rose Lab)), kloop g l a n e ks = (ks ++ (kloop g l a n e []).1, (kloop g l a n e []).2)
  | 0, e, ks => by simp [kloop]
  | n + 1, e, ks => by
    rw [kloop, kloop]
    split
    · rw [kloop_acc n _ (ks ++ [(g e).1]), kloop_acc n _ ([] ++ [(g e).1])]
      simp
    · simp
theorem own_up {v : List Nd} {a e : Nat} : ownB v a e = true ↔ upAt (tys v) e = some (a : Int) := by
  rw [up_tys]
  unfold ownB
  exact beq_iff_eq
/-- A type reads what begins at a node as the tree of the node fits. -/
def fitsAs (v : List Nd) (z : Rose Lab) : Prop := ∀ e, e < v.length → vfR v z e = if sfR (cv (kf (tys v) e).1) z = true then ((kf (tys v) e).2 : Int) else -1
theorem kf_lab {v : List Nd} {e : Nat} (h : e < v.length) : (cv (kf (tys v) e).1).lab = (v[e].1, v[e].2.1, v[e].2.2.1, v[e].2.2.2.2.1, ()) := by
  rw [cv_lab, kf_eq (by rw [tys_len]; exact h)]
  show cvL (labAt (tys v) e) = _
  rw [lab_tys h]
  rfl
theorem vfI_kf {v : List Nd} {a : Nat} {y : Rose Lab} (hg : fitsAs v y) : ∀ n e, vfI v a (vfR v y) n e = if sfL y (cvs (kloop (kf (tys v)) (tys v) a n e []).1) = true then ((kloop (kf (tys v)) (tys v) a n e []).2 : Int) else -1
  | 0, e => by rw [vfI, kloop, cvs, sfL, if_pos rfl]
  | n + 1, e => by
    rw [vfI, kloop]
    by_cases ho : ownB v a e = true
    · have hl := ownB_lt ho
      rw [if_pos ho, if_pos (own_up.1 ho), kloop_acc n _ ([] ++ [(kf (tys v) e).1]), noN_of hl]
      dsimp only
      rw [List.nil_append, List.singleton_append, cvs, sfL, kf_lab hl]
      have hv := hg e hl
      dsimp only
      by_cases q : v[e].2.2.1 = 0
      · rw [q, if_pos rfl, beq_self_eq_true, Bool.true_and]
        cases hs : sfR (cv (kf (tys v) e).1) y with
        | false =>
          rw [hs, if_neg (by simp)] at hv
          rw [hv, if_pos (by omega), Bool.false_and, if_neg (by simp)]
        | true =>
          rw [hs, if_pos rfl] at hv
          rw [hv, if_neg (by omega), Int.toNat_natCast, Bool.true_and, vfI_kf hg n]
      · rw [if_neg (by simpa using q), beq_false_of_ne q, Bool.false_and, Bool.false_and, if_neg (by simp)]
    · rw [if_neg ho, if_neg (fun h => ho (own_up.2 h)), cvs, sfL, if_pos rfl]
theorem vfP_kf {v : List Nd} {a : Nat} : ∀ ks : List (Rose Lab), (∀ z ∈ ks, fitsAs v z) → ∀ n e, v.length - e ≤ n →
    (if vfP v ks a e < 0 then (-1 : Int) else if ownB v a (vfP v ks a e).toNat = true then -1 else vfP v ks a e) = if matchM ks (cvs (kloop (kf (tys v)) (tys v) a n e []).1) = true then ((kloop (kf (tys v)) (tys v) a n e []).2 : Int) else -1
  | [], _, n, e, hn => by
    rw [vfP, if_neg (by omega), Int.toNat_natCast]
    by_cases ho : ownB v a e = true
    · have hl := ownB_lt ho
      obtain ⟨n, rfl⟩ : ∃ m, n = m + 1 := ⟨n - 1, by omega⟩
      rw [if_pos ho, kloop, if_pos (own_up.1 ho), kloop_acc]
      dsimp only
      rw [List.nil_append, List.singleton_append, cvs, matchM]
      rfl
    · rw [if_neg ho, kloop_stop (fun h => ho (own_up.2 h)), cvs, matchM]
      rfl
  | z :: ks, hg, n, e, hn => by
    have hg2 : ∀ z ∈ ks, fitsAs v z := fun w hw => hg w (List.mem_cons_of_mem _ hw)
    by_cases ho : ownB v a e = true
    · have hl := ownB_lt ho
      obtain ⟨n, rfl⟩ : ∃ m, n = m + 1 := ⟨n - 1, by omega⟩
      have hk : kloop (kf (tys v)) (tys v) a (n + 1) e [] = ((kf (tys v) e).1 :: (kloop (kf (tys v)) (tys v) a n (kf (tys v) e).2 []).1, (kloop (kf (tys v)) (tys v) a n (kf (tys v) e).2 []).2) := by
        rw [kloop, if_pos (own_up.1 ho), kloop_acc]
        rfl
      have ih := vfP_kf (a := a) ks hg2 (n + 1) e hn
      rw [hk] at ih ⊢
      dsimp only at ih ⊢
      rw [cvs] at ih ⊢
      rw [matchM, kf_lab hl]
      dsimp only
      by_cases q : v[e].2.2.1 = z.lab.2.2.1
      · have hv := hg z List.mem_cons_self e hl
        have hc : ownB v a e = true ∧ noN v e = some z.lab.2.2.1 := ⟨ho, by rw [noN_of hl, q]⟩
        rw [if_pos q]
        cases hs : sfR (cv (kf (tys v) e).1) z with
        | false =>
          rw [hs, if_neg (by simp)] at hv
          have hV : vfP v (z :: ks) a e = -1 := by rw [vfP, if_pos hc, hv, if_pos (by omega)]
          rw [hV, if_pos (by omega), Bool.false_and, if_neg (by simp)]
        | true =>
          have hb := (kf_bnd (tys v) e (by rw [tys_len]; exact hl)).1
          rw [hs, if_pos rfl] at hv
          have hV : vfP v (z :: ks) a e = vfP v ks a (kf (tys v) e).2 := by rw [vfP, if_pos hc, hv, if_neg (by omega), Int.toNat_natCast]
          rw [hV, Bool.true_and]
          exact vfP_kf ks hg2 n _ (by omega)
      · have hc : ¬ (ownB v a e = true ∧ noN v e = some z.lab.2.2.1) := fun h => q (Option.some.inj ((noN_of hl).symm.trans h.2))
        rw [if_neg q]
        cases hm : z.lab.2.2.2.1 with
        | true =>
          have hV : vfP v (z :: ks) a e = -1 := by rw [vfP, if_neg hc, if_pos hm]
          rw [hV, if_pos (by omega), Bool.not_true, Bool.false_and, if_neg (by simp)]
        | false =>
          have hV : vfP v (z :: ks) a e = vfP v ks a e := by rw [vfP, if_neg hc, if_neg (by rw [hm]; simp)]
          rw [hV, Bool.not_false, Bool.true_and]
          exact ih
    · have hk : kloop (kf (tys v)) (tys v) a n e [] = ([], e) := kloop_stop (fun h => ho (own_up.2 h))
      have ih := vfP_kf (a := a) ks hg2 n e hn
      have hc : ¬ (ownB v a e = true ∧ noN v e = some z.lab.2.2.1) := fun h => ho h.1
      rw [hk] at ih ⊢
      dsimp only at ih ⊢
      rw [cvs] at ih ⊢
      rw [matchM]
      cases hm : z.lab.2.2.2.1 with
      | true =>
        have hV : vfP v (z :: ks) a e = -1 := by rw [vfP, if_neg hc, if_pos hm]
        rw [hV, if_pos (by omega), Bool.not_true, Bool.false_and, if_neg (by simp)]
      | false =>
        have hV : vfP v (z :: ks) a e = vfP v ks a e := by rw [vfP, if_neg hc, if_neg (by rw [hm]; simp)]
        rw [hV, Bool.not_false, Bool.true_and]
        exact ih
def VR (y z : Rose VLab) : Prop := y.lab.2.2.1 < z.lab.2.2.1
def KR (y z : Rose Lab) : Prop := y.lab.2.2.1 < z.lab.2.2.1
theorem sfM_pw (ks : List (Rose Lab)) : ∀ (us pre : List (Rose VLab)), pre.Pairwise VR →
    (sfM ks (pre ++ us) pre.length us = true ↔ (∀ u ∈ us, hasNo u.lab.2.2.1 ks = true ∧ sfR u (byR u.lab.2.2.1 ks) = true) ∧ (pre ++ us).Pairwise VR)
  | [], pre, hp => by rw [sfM, List.append_nil]; exact ⟨fun _ => ⟨fun _ h => (by cases h), hp⟩, fun _ => rfl⟩
  | z :: l, pre, hp => by
    have hpg : vprev (pre ++ z :: l) pre.length z.lab.2.2.1 = true ↔ ∃ y, pre.getLast? = some y ∧ y.lab.2.2.1 ≥ z.lab.2.2.1 := by
      cases hl : pre.getLast? with
      | none =>
        have : pre = [] := by simpa using hl
        subst this
        simp [vprev]
      | some y =>
        have hne : pre ≠ [] := by intro e; subst e; cases hl
        obtain ⟨m, hm⟩ : ∃ m, pre.length = m + 1 := ⟨pre.length - 1, by have := List.length_pos_iff.2 hne; omega⟩
        have hy : (pre ++ z :: l)[m]? = some y := by
          rw [List.getElem?_append_left (by omega), ← hl, List.getLast?_eq_getElem?, hm]; rfl
        rw [hm]
        unfold vprev
        dsimp only
        rw [hy]
        simp
    have hR : (∀ y ∈ pre, VR y z) ↔ vprev (pre ++ z :: l) pre.length z.lab.2.2.1 = false := by
      rw [← Bool.not_eq_true, hpg]
      constructor
      · rintro h ⟨y, g1, g2⟩
        have : y.lab.2.2.1 < z.lab.2.2.1 := h y (List.mem_of_getLast? g1)
        omega
      · intro h y hy
        show y.lab.2.2.1 < z.lab.2.2.1
        cases hl : pre.getLast? with
        | none =>
          have : pre = [] := by simpa using hl
          subst this; cases hy
        | some w =>
          have h1 : ¬ w.lab.2.2.1 ≥ z.lab.2.2.1 := fun g => h ⟨w, hl, g⟩
          have hne : pre ≠ [] := by intro e; subst e; cases hl
          have e : pre = pre.dropLast ++ [w] := by
            rw [List.getLast?_eq_some_getLast hne] at hl
            have := (List.dropLast_concat_getLast hne).symm
            rw [Option.some.inj hl] at this
            exact this
          rw [e] at hy hp
          rcases List.mem_append.1 hy with hy | hy
          · have : y.lab.2.2.1 < w.lab.2.2.1 := (List.pairwise_append.1 hp).2.2 y hy w (by simp)
            omega
          · simp at hy; subst hy; omega
    rw [sfM, Bool.and_eq_true, Bool.and_eq_true, Bool.and_eq_true, Bool.not_eq_true', ← hR]
    have hstep : (∀ y ∈ pre, VR y z) → (sfM ks (pre ++ z :: l) (pre.length + 1) l = true ↔ (∀ u ∈ l, hasNo u.lab.2.2.1 ks = true ∧ sfR u (byR u.lab.2.2.1 ks) = true) ∧ (pre ++ z :: l).Pairwise VR) := fun hall => by
      have hp2 : (pre ++ [z]).Pairwise VR := List.pairwise_append.2 ⟨hp, List.pairwise_singleton _ _, fun y hy w hw => by simp at hw; subst hw; exact hall y hy⟩
      have ih := sfM_pw ks l (pre ++ [z]) hp2
      rw [List.append_assoc] at ih
      simpa using ih
    constructor
    · rintro ⟨⟨h1, h2, h3⟩, h4⟩
      have := (hstep h3).1 h4
      refine ⟨fun u hu => ?_, this.2⟩
      rcases List.mem_cons.1 hu with e | hu
      · rw [e]; exact ⟨h1, h2⟩
      · exact this.1 u hu
    · rintro ⟨h1, h2⟩
      have hall : ∀ y ∈ pre, VR y z := fun y hy => (List.pairwise_append.1 h2).2.2 y hy z (by simp)
      exact ⟨⟨(h1 z (by simp)).1, (h1 z (by simp)).2, hall⟩, (hstep hall).2 ⟨fun u hu => h1 u (by simp [hu]), h2⟩⟩
theorem hasNo_iff {n : Int} {ks : List (Rose Lab)} : hasNo n ks = true ↔ ∃ y ∈ ks, y.lab.2.2.1 = n := by
  unfold hasNo
  rw [List.any_eq_true]
  constructor
  · rintro ⟨y, h1, h2⟩; exact ⟨y, h1, by simpa using h2⟩
  · rintro ⟨y, h1, h2⟩; exact ⟨y, h1, by simpa using h2⟩
theorem musts_iff {us : List (Rose VLab)} {ks : List (Rose Lab)} : mustsB us ks = true ↔ ∀ y ∈ ks, y.lab.2.2.2.1 = true → ∃ u ∈ us, u.lab.2.2.1 = y.lab.2.2.1 := by
  unfold mustsB hasVN
  rw [List.all_eq_true]
  constructor
  · intro h y hy hm
    have := h y hy
    rw [hm, Bool.not_true, Bool.false_or, List.any_eq_true] at this
    obtain ⟨u, h1, h2⟩ := this
    exact ⟨u, h1, by simpa using h2⟩
  · intro h y hy
    cases hm : y.lab.2.2.2.1 with
    | false => rfl
    | true =>
      obtain ⟨u, h1, h2⟩ := h y hy hm
      rw [Bool.not_true, Bool.false_or, List.any_eq_true]
      exact ⟨u, h1, by simpa using h2⟩
theorem hasNo_ne {n : Int} {z : Rose Lab} {ks : List (Rose Lab)} (h : n ≠ z.lab.2.2.1) : hasNo n (z :: ks) = hasNo n ks ∧ byR n (z :: ks) = byR n ks := by
  constructor
  · unfold hasNo
    rw [List.any_cons, beq_false_of_ne (Ne.symm h), Bool.false_or]
  · rw [byR, if_neg (Ne.symm h)]
theorem matchM_iff : ∀ (ks : List (Rose Lab)), ks.Pairwise KR → ∀ us : List (Rose VLab), (matchM ks us = true ↔ ((∀ u ∈ us, hasNo u.lab.2.2.1 ks = true ∧ sfR u (byR u.lab.2.2.1 ks) = true) ∧ us.Pairwise VR) ∧ mustsB us ks = true)
  | [], _, us => by
    rw [matchM, List.isEmpty_iff]
    constructor
    · rintro rfl; exact ⟨⟨fun u h => (by cases h), List.Pairwise.nil⟩, rfl⟩
    · rintro ⟨⟨h, _⟩, _⟩
      cases us with
      | nil => rfl
      | cons u us =>
        have := (h u (by simp)).1
        cases this
  | z :: ks, hp, [] => by
    rw [List.pairwise_cons] at hp
    rw [matchM, Bool.and_eq_true, matchM_iff ks hp.2 [], musts_iff, musts_iff]
    constructor
    · rintro ⟨h1, h2, h3⟩
      refine ⟨h2.imp_left fun _ u h => (by cases h), fun y hy hm => ?_⟩
      rcases List.mem_cons.1 hy with e | hy
      · rw [e] at hm; rw [hm] at h1; cases h1
      · exact h3 y hy hm
    · rintro ⟨h2, h3⟩
      refine ⟨?_, ⟨fun u h => (by cases h), List.Pairwise.nil⟩, fun y hy hm => h3 y (by simp [hy]) hm⟩
      cases hm : z.lab.2.2.2.1 with
      | false => rfl
      | true => obtain ⟨u, g, _⟩ := h3 z (by simp) hm; cases g
  | z :: ks, hp, u :: us => by
    rw [List.pairwise_cons] at hp
    have hz : ∀ n, hasNo n ks = true → z.lab.2.2.1 < n := fun n h => by
      obtain ⟨y, h1, h2⟩ := hasNo_iff.1 h
      have : z.lab.2.2.1 < y.lab.2.2.1 := hp.1 y h1
      omega
    rw [matchM]
    by_cases q : u.lab.2.2.1 = z.lab.2.2.1
    · have hb : byR u.lab.2.2.1 (z :: ks) = z := by rw [byR, if_pos q.symm]
      rw [if_pos q, Bool.and_eq_true, matchM_iff ks hp.2 us, musts_iff, musts_iff]
      constructor
      · rintro ⟨h1, ⟨h2, h3⟩, h4⟩
        refine ⟨⟨fun w hw => ?_, List.pairwise_cons.2 ⟨fun w hw => ?_, h3⟩⟩, fun y hy hm => ?_⟩
        · rcases List.mem_cons.1 hw with e | hw
          · rw [e, hb]; exact ⟨hasNo_iff.2 ⟨z, by simp, q.symm⟩, h1⟩
          · have := h2 w hw
            have hne := hasNo_ne (ks := ks) (z := z) (n := w.lab.2.2.1) (by have := hz _ this.1; omega)
            rw [hne.1, hne.2]; exact this
        · show u.lab.2.2.1 < w.lab.2.2.1
          have := hz _ (h2 w hw).1; omega
        · rcases List.mem_cons.1 hy with e | hy
          · exact ⟨u, by simp, by rw [e, q]⟩
          · obtain ⟨w, g1, g2⟩ := h4 y hy hm
            exact ⟨w, by simp [g1], g2⟩
      · rintro ⟨⟨h1, h2⟩, h3⟩
        rw [List.pairwise_cons] at h2
        refine ⟨by have := (h1 u (by simp)).2; rw [hb] at this; exact this, ⟨fun w hw => ?_, h2.2⟩, fun y hy hm => ?_⟩
        · have hlt : u.lab.2.2.1 < w.lab.2.2.1 := h2.1 w hw
          have := h1 w (by simp [hw])
          have hne := hasNo_ne (ks := ks) (z := z) (n := w.lab.2.2.1) (by omega)
          rw [hne.1, hne.2] at this; exact this
        · obtain ⟨w, g1, g2⟩ := h3 y (by simp [hy]) hm
          rcases List.mem_cons.1 g1 with e | g1
          · have : z.lab.2.2.1 < y.lab.2.2.1 := hp.1 y hy
            rw [e] at g2; omega
          · exact ⟨w, g1, g2⟩
    · rw [if_neg q, Bool.and_eq_true, matchM_iff ks hp.2 (u :: us), musts_iff, musts_iff]
      constructor
      · rintro ⟨h1, ⟨h2, h3⟩, h4⟩
        refine ⟨⟨fun w hw => ?_, h3⟩, fun y hy hm => ?_⟩
        · have := h2 w hw
          have hne := hasNo_ne (ks := ks) (z := z) (n := w.lab.2.2.1) (by have := hz _ this.1; omega)
          rw [hne.1, hne.2]; exact this
        · rcases List.mem_cons.1 hy with e | hy
          · rw [e] at hm; rw [hm] at h1; cases h1
          · exact h4 y hy hm
      · rintro ⟨⟨h1, h2⟩, h3⟩
        have hu : z.lab.2.2.1 < u.lab.2.2.1 := by
          have := (h1 u (by simp)).1
          rw [(hasNo_ne (ks := ks) q).1] at this
          exact hz _ this
        have hall : ∀ w ∈ u :: us, z.lab.2.2.1 < w.lab.2.2.1 := fun w hw => by
          rcases List.mem_cons.1 hw with e | hw
          · rw [e]; exact hu
          · have : u.lab.2.2.1 < w.lab.2.2.1 := (List.pairwise_cons.1 h2).1 w hw
            omega
        refine ⟨?_, ⟨fun w hw => ?_, h2⟩, fun y hy hm => h3 y (by simp [hy]) hm⟩
        · cases hm : z.lab.2.2.2.1 with
          | false => rfl
          | true =>
            obtain ⟨w, g1, g2⟩ := h3 z (by simp) hm
            have := hall w g1; omega
        · have := h1 w hw
          have hne := hasNo_ne (ks := ks) (z := z) (n := w.lab.2.2.1) (by have := hall w hw; omega)
          rw [hne.1, hne.2] at this; exact this
theorem matchM_eq {ks : List (Rose Lab)} (h : ks.Pairwise KR) (us : List (Rose VLab)) : matchM ks us = (sfM ks us 0 us && mustsB us ks) := by
  have h1 := sfM_pw ks us [] List.Pairwise.nil
  rw [List.nil_append, List.length_nil] at h1
  rw [Bool.eq_iff_iff, Bool.and_eq_true, h1]
  exact matchM_iff ks h us
/-- What lies within a node: the trees, and where it ends. -/
def partsAt (v : List Nd) (e : Nat) (m : Bool) : List (Rose Lab) × Nat := bif m then kloop (kf (tys v)) (tys v) e (tys v).length (e + 1) [] else ([], e + 1)
theorem kf_at {v : List Nd} {e : Nat} (h : e < v.length) : kf (tys v) e = (.node (labAt (tys v) e) (partsAt v e v[e].2.2.2.2.1).1, (partsAt v e v[e].2.2.2.2.1).2) := by
  have := kf_eq (l := tys v) (a := e) (by rw [tys_len]; exact h)
  rw [holds_tys h] at this
  exact this
theorem sfR_at {v : List Nd} {e : Nat} (h : e < v.length) (z : Rose Lab) : sfR (cv (kf (tys v) e).1) z = (if badV v[e].1 v[e].2.1 v[e].2.2.2.2.1 z.lab.1 = true then false
    else if z.lab.1 = 1 then numB v[e].1 else if z.lab.1 = 3 then decide (0 ≤ v[e].1 ∧ v[e].1 ≤ z.lab.2.2.2.2.1) else if z.lab.1 = 2 then decide (v[e].2.1.length ≤ 30)
    else if z.lab.1 = 4 then sfL (hd0 z.kids) (cvs (partsAt v e v[e].2.2.2.2.1).1) else sfM z.kids (cvs (partsAt v e v[e].2.2.2.2.1).1) 0 (cvs (partsAt v e v[e].2.2.2.2.1).1) && mustsB (cvs (partsAt v e v[e].2.2.2.2.1).1) z.kids) := by
  rw [kf_at h, cv, sfR, lab_tys h]
  rfl
theorem fits_all (v : List Nd) : ∀ (n : Nat) (z : Rose Lab), cntR z ≤ n → rightR z = true → fitsAs v z
  | 0, z, hn, _ => by have := cnt_pos z; omega
  | n + 1, z, hn, hr => fun e h => by
    obtain ⟨hp, hrr⟩ := rightR_parts hr
    have hk := partsB_kind hp
    have hc := cnt_kids z
    have IH : ∀ y ∈ z.kids, fitsAs v y := fun y hy => fits_all v n y (by have := cnt_mem hy; omega) (rightL_mem hrr hy)
    have he : (kf (tys v) e).2 = (partsAt v e v[e].2.2.2.2.1).2 := by rw [kf_at h]
    rw [vfR_eq z h, sfR_at h, he]
    have ht : ∀ s : List UInt8, (s != []) = !(s == []) := fun s => rfl
    have hw : (((e + 1 : Nat)) : Int) = (e : Int) + 1 := by omega
    have hif : ∀ X : Bool, (if false = true then false else X) = X := fun X => if_neg (by simp)
    rcases hk with h1 | h1 | h1 | ⟨h1, h6⟩ | h1
    · rw [h1, if_pos (by rfl), if_pos rfl]
      cases hm : v[e].2.2.2.2.1 with
      | true => rw [show leafB z.lab v[e].1 v[e].2.1 true = false from rfl, if_neg (by simp), show badV v[e].1 v[e].2.1 true 1 = true from rfl, if_pos rfl, if_neg (by simp)]
      | false =>
        have hl : leafB z.lab v[e].1 v[e].2.1 false = (numB v[e].1 && v[e].2.1 == []) := by unfold leafB; rw [if_neg (by simp), if_neg (by omega), if_neg (by omega)]
        have hb : badV v[e].1 v[e].2.1 false 1 = !(v[e].2.1 == []) := by unfold badV; rw [ht]; cases v[e].2.1 == [] <;> rfl
        rw [hl, hb, show (partsAt v e false).2 = e + 1 from rfl, hw]
        cases v[e].2.1 == [] <;> cases numB v[e].1 <;> simp
    · rw [h1, if_pos (by rfl), if_neg (show ¬ (2 : Int) = 1 by omega), if_neg (show ¬ (2 : Int) = 3 by omega), if_pos rfl]
      cases hm : v[e].2.2.2.2.1 with
      | true => rw [show leafB z.lab v[e].1 v[e].2.1 true = false from rfl, if_neg (by simp), show badV v[e].1 v[e].2.1 true 2 = true from rfl, if_pos rfl, if_neg (by simp)]
      | false =>
        have hl : leafB z.lab v[e].1 v[e].2.1 false = (v[e].1 == 0 && decide (v[e].2.1.length ≤ 30)) := by unfold leafB; rw [if_neg (by simp), if_pos h1]
        have hb : badV v[e].1 v[e].2.1 false 2 = !(v[e].1 == 0) := by unfold badV bne; cases v[e].1 == 0 <;> rfl
        rw [hl, hb, show (partsAt v e false).2 = e + 1 from rfl, hw]
        cases v[e].1 == 0 <;> cases decide (v[e].2.1.length ≤ 30) <;> simp
    · rw [h1, if_pos (by rfl), if_neg (show ¬ (3 : Int) = 1 by omega), if_pos rfl]
      cases hm : v[e].2.2.2.2.1 with
      | true => rw [show leafB z.lab v[e].1 v[e].2.1 true = false from rfl, if_neg (by simp), show badV v[e].1 v[e].2.1 true 3 = true from rfl, if_pos rfl, if_neg (by simp)]
      | false =>
        have hl : leafB z.lab v[e].1 v[e].2.1 false = (decide (0 ≤ v[e].1 ∧ v[e].1 ≤ z.lab.2.2.2.2.1) && v[e].2.1 == []) := by unfold leafB; rw [if_neg (by simp), if_neg (by omega), if_pos h1]
        have hb : badV v[e].1 v[e].2.1 false 3 = !(v[e].2.1 == []) := by unfold badV; rw [ht]; cases v[e].2.1 == [] <;> rfl
        rw [hl, hb, show (partsAt v e false).2 = e + 1 from rfl, hw]
        cases v[e].2.1 == [] <;> cases decide (0 ≤ v[e].1 ∧ v[e].1 ≤ z.lab.2.2.2.2.1) <;> simp
    · obtain ⟨y, hy⟩ := List.length_eq_one_iff.1 h6
      have hb : badV v[e].1 v[e].2.1 v[e].2.2.2.2.1 4 = (!v[e].2.2.2.2.1 || v[e].1 != 0 || v[e].2.1 != []) := by
        unfold badV
        cases v[e].2.2.2.2.1 <;> cases v[e].1 != 0 <;> cases v[e].2.1 != [] <;> rfl
      have hf : vfH v z.kids = vfR v y := by funext i; rw [hy, vfH]
      rw [h1, if_neg (show ¬ holdsK 4 = false by decide), hb, if_neg (show ¬ (4 : Int) = 1 by omega), if_neg (show ¬ (4 : Int) = 3 by omega), if_neg (show ¬ (4 : Int) = 2 by omega), if_pos rfl, if_pos rfl, hf]
      cases hbad : (!v[e].2.2.2.2.1 || v[e].1 != 0 || v[e].2.1 != []) with
      | true => rw [if_pos rfl, if_pos rfl, if_neg (by simp)]
      | false =>
        have hm : v[e].2.2.2.2.1 = true := by cases hm : v[e].2.2.2.2.1; rw [hm] at hbad; cases hbad; rfl
        have := vfI_kf (a := e) (IH y (by rw [hy]; simp)) v.length (e + 1)
        rw [if_neg (by simp), hif, this, hm, hy]
        unfold partsAt
        rw [tys_len]
        rfl
    · have hb : badV v[e].1 v[e].2.1 v[e].2.2.2.2.1 5 = (!v[e].2.2.2.2.1 || v[e].1 != 0 || v[e].2.1 != []) := by
        unfold badV
        cases v[e].2.2.2.2.1 <;> cases v[e].1 != 0 <;> cases v[e].2.1 != [] <;> rfl
      have hpw : z.kids.Pairwise KR := by
        unfold partsB at hp
        rw [if_neg (by omega), if_neg (by omega), if_neg (by omega)] at hp
        split at hp
        · cases hp
        · exact ((msgL_iff _).1 hp).imp fun h => h.1
      rw [← matchM_eq hpw, h1, if_neg (show ¬ holdsK 5 = false by decide), hb, if_neg (show ¬ (5 : Int) = 1 by omega), if_neg (show ¬ (5 : Int) = 3 by omega), if_neg (show ¬ (5 : Int) = 2 by omega), if_neg (show ¬ (5 : Int) = 4 by omega), if_neg (show ¬ (5 : Int) = 4 by omega)]
      cases hbad : (!v[e].2.2.2.2.1 || v[e].1 != 0 || v[e].2.1 != []) with
      | true => rw [if_pos rfl, if_pos rfl, if_neg (by simp)]
      | false =>
        have hm : v[e].2.2.2.2.1 = true := by cases hm : v[e].2.2.2.2.1; rw [hm] at hbad; cases hbad; rfl
        have := vfP_kf (a := e) z.kids IH v.length (e + 1) (by omega)
        rw [if_neg (by simp), hif, this, hm]
        unfold partsAt
        rw [tys_len]
        rfl
theorem varnd_arnd (v : List Nd) (u : Int) : ∀ (f : Nat) (x : Int), varnd v u f x = arnd (tys v) u f x
  | 0, x => rfl
  | f + 1, x => by
    rw [varnd, arnd, up_tys]
    by_cases a : x < 0
    · rw [if_pos a, if_pos a]
    · rw [if_neg a, if_neg a]
      by_cases b : x = u
      · rw [if_pos b, b, beq_self_eq_true, Bool.true_or]
      · rw [if_neg b, beq_false_of_ne b, Bool.false_or]
        cases upN v x.toNat with
        | none => rfl
        | some w => exact varnd_arnd v u f w
theorem nodes_ord {v : List Nd} (h0 : 0 < v.length) : ((List.range v.length).all (okN v) = true) ↔ (Ord (tys v) ∧ noN v 0 = some 0) := by
  have hn0 := noN_of h0
  have hl := tys_len v
  constructor
  · intro h
    have ok : ∀ i, i < v.length → okN v i = true := fun i hi => List.all_eq_true.1 h i (List.mem_range.2 hi)
    have z := ok 0 h0
    unfold okN at z
    rw [List.getElem?_eq_getElem h0] at z
    dsimp only at z
    rw [if_pos rfl, Bool.and_eq_true, beq_iff_eq, beq_iff_eq] at z
    refine ⟨⟨by rw [up_tys, upN_of h0, z.1], fun i hp hi => ?_⟩, by rw [hn0, z.2]⟩
    rw [hl] at hi
    have o := ok i hi
    unfold okN at o
    rw [List.getElem?_eq_getElem hi] at o
    dsimp only at o
    rw [if_neg (by omega), Bool.and_eq_true, Bool.and_eq_true, decide_eq_true_eq] at o
    obtain ⟨⟨o1, o2⟩, o3, o4⟩ := o
    obtain ⟨u, hu⟩ := Int.eq_ofNat_of_zero_le o1
    rw [hu] at o2 o3 o4
    have hul : u < v.length := by omega
    refine ⟨u, by rw [up_tys, upN_of hi, hu], by omega, ?_, ?_⟩
    · rw [holds_tys hul]
      unfold manyN at o3
      rw [Int.toNat_natCast, List.getElem?_eq_getElem hul] at o3
      exact o3
    · rw [varnd_arnd, show (i : Int) - 1 = ((i - 1 : Nat) : Int) by omega] at o4
      obtain ⟨y, e, ho⟩ := arnd_out _ _ _ _ o4
      have : u = y := by omega
      subst this
      exact ho
  · rintro ⟨H, hz⟩
    refine List.all_eq_true.2 fun i hi => ?_
    have hi := List.mem_range.1 hi
    unfold okN
    rw [List.getElem?_eq_getElem hi]
    dsimp only
    rcases Nat.eq_zero_or_pos i with rfl | hp
    · have h1 := H.zero
      rw [up_tys, upN_of h0] at h1
      rw [hn0] at hz
      rw [if_pos rfl, Option.some.inj h1, Option.some.inj hz]; rfl
    · obtain ⟨u, k1, k2, k3, k4⟩ := H.up i hp (by omega)
      have hul : u < v.length := by omega
      rw [up_tys, upN_of hi] at k1
      have hm : manyN v u = some v[u].2.2.2.2.1 := by unfold manyN; rw [List.getElem?_eq_getElem hul]; rfl
      rw [holds_tys hul] at k3
      rw [if_neg (by omega), Option.some.inj k1, Int.toNat_natCast, hm, k3, varnd_arnd, show (i : Int) - 1 = ((i - 1 : Nat) : Int) by omega, out_arnd (i := i) (fun j hj => H.lt j (by omega)) k4 (by omega) i (by omega), decide_eq_true (show (0 : Int) ≤ (u : Int) ∧ (u : Int) < (i : Int) by omega)]
      rfl
/-- The two ways to tell whether a value fits are one. -/
theorem fits_eq (v : List Nd) (l : List Ty) : fitsB v l = fitsS v l := by
  unfold fitsB fitsS
  cases hk : kindB l with
  | false => rfl
  | true =>
    obtain ⟨k1, k2, k3, k4⟩ := kf_t2 hk
    rw [k4, Bool.true_and, Bool.true_and]
    unfold vfitsB nodesB
    by_cases hl : 1 ≤ v.length ∧ v.length ≤ 40
    · have h0 : 0 < v.length := by omega
      have hv := fits_all v _ (t2L l 0) (Nat.le_refl _) k3 0 h0
      have ho := nodes_ord h0
      have ht : v4L v 0 = cv (t2L (tys v) 0) := v4_cv _ 0 (Nat.le_refl _) h0
      rw [decide_eq_true hl, Bool.true_and, Bool.and_true, Bool.eq_iff_iff]
      simp only [Bool.and_eq_true, beq_iff_eq, decide_eq_true_eq]
      rw [ho]
      constructor
      · rintro ⟨h1, h2, h3⟩
        cases hs : sfR (cv (kf (tys v) 0).1) (t2L l 0) with
        | false => rw [hs, if_neg (by simp)] at hv; omega
        | true =>
          rw [hs, if_pos rfl] at hv
          have H : Ord (tys v) := ord_of_parse (by rw [tys_len]; exact h0) (by rw [up_tys]; exact h1) (by rw [tys_len]; omega)
          have e := H.end' (by rw [tys_len]; exact h0)
          refine ⟨⟨H, h2⟩, ?_⟩
          rw [ht, ← e.2, hs]
      · rintro ⟨⟨H, h2⟩, h3⟩
        have e := H.end' (by rw [tys_len]; exact h0)
        have hz := H.zero
        rw [up_tys] at hz
        refine ⟨hz, h2, ?_⟩
        rw [hv, e.2, ← ht, h3, if_pos rfl, e.1, tys_len]
    · rw [decide_eq_false hl, Bool.false_and, Bool.and_false, Bool.false_and]
def sfits2G : List V → List Blk → Br (V × List (Option Blk))
  | [.agg [.sl (.pair (.int .i64) (.pair .str (.pair (.int .i64) (.pair (.int .i64) (.pair .bool .unit))))) v], .agg [.sl (.pair (.int .i64) (.pair .str (.pair (.int .i64) (.pair .bool (.pair (.int .i64) (.pair (.int .i64) .unit)))))) l]], [] => .need (decide (l.length ≤ 4000000000) && nmL l && decide (v.length ≤ 4000000000)) (.leaf (.b (fitsB v l), []))
  | _, _ => .no
mutual
/-- The nodes of the least value of a type, from a place on. -/
def leastL : Rose Lab → Int → Int → Nat → List Nd
  | .node x ks, no, up, s => (0, [], no, up, holdsK x.1, ()) :: (bif x.1 == 5 then leastK ks s (s + 1) else [])
def leastK : List (Rose Lab) → Nat → Nat → List Nd
  | [], _, _ => []
  | z :: ks, s, p => if z.lab.2.2.2.1 = true then leastL z z.lab.2.2.1 s p ++ leastK ks s (p + (leastL z z.lab.2.2.1 s p).length) else leastK ks s p
end
def leastN (n : Nat) : List V → List Blk → Br (V × List (Option Blk))
  | [.tp (.pair (.int .i64) (.pair .str (.pair (.int .i64) (.pair .bool (.pair (.int .i64) .unit))))) z 0, .ref 0 0 m, .i .i64 no, .i .i64 up], [.row false _ (.pair (.int .i64) (.pair .str (.pair (.int .i64) (.pair (.int .i64) (.pair .bool .unit))))) o] => .need (decide (m = o.length ∧ o.length + cntR z ≤ 2000000 ∧ cntR z ≤ n)) (.leaf (.ref 1 0 (o ++ leastL z no up o.length).length, [none, some (.row false none (.pair (.int .i64) (.pair .str (.pair (.int .i64) (.pair (.int .i64) (.pair .bool .unit))))) (o ++ leastL z no up o.length))]))
  | _, _ => .no
def leastG : List V → List Blk → Br (V × List (Option Blk))
  | [.tp (.pair (.int .i64) (.pair .str (.pair (.int .i64) (.pair .bool (.pair (.int .i64) .unit))))) z 0, .ref 0 0 m, .i .i64 no, .i .i64 up], [.row false _ (.pair (.int .i64) (.pair .str (.pair (.int .i64) (.pair (.int .i64) (.pair .bool .unit))))) o] => .need (decide (m = o.length ∧ o.length + cntR z ≤ 2000000)) (.leaf (.ref 1 0 (o ++ leastL z no up o.length).length, [none, some (.row false none (.pair (.int .i64) (.pair .str (.pair (.int .i64) (.pair (.int .i64) (.pair .bool .unit))))) (o ++ leastL z no up o.length))]))
  | _, _ => .no
def leastE (n : Nat) : LoopEnt := ⟨50, [1,9,30,31,32], [1], [], fun
  | ([.ref 1 0 m, .i .i64 s, .sl (.tree (.pair (.int .i64) (.pair .str (.pair (.int .i64) (.pair .bool (.pair (.int .i64) .unit)))))) ks, .i .i64 k, .i .i64 i], [none, some (.row false none (.pair (.int .i64) (.pair .str (.pair (.int .i64) (.pair (.int .i64) (.pair .bool .unit))))) o)]) => .need (decide (m = o.length ∧ 0 ≤ i ∧ i.toNat ≤ ks.length ∧ k = ks.length ∧ 0 ≤ s ∧ o.length + cntL (ks.drop i.toNat) ≤ 2000000 ∧ cntL ks ≤ n ∧ cntL ks ≤ 2000000)) (.leaf (.exit 0, ([.ref 1 0 (o ++ leastK (ks.drop i.toNat) s.toNat o.length).length], [none, some (.row false none (.pair (.int .i64) (.pair .str (.pair (.int .i64) (.pair (.int .i64) (.pair .bool .unit))))) (o ++ leastK (ks.drop i.toNat) s.toNat o.length))])))
  | _ => .no⟩
theorem sfits : Contract Try.prog 62 (Ent.rd1 sfits2G).F := by
  refine fun_contract' (KnowsL.cons (enters_fn Try.func50 (by kernel_rfl) (by kernel_rfl)) sgsch (KnowsL.cons (enters_fn Try.func124 (by kernel_rfl) (by kernel_rfl)) l4Nodes (KnowsL.cons (enters_fn Try.func64 (by kernel_rfl) (by kernel_rfl)) l4Tree (KnowsL.cons (enters_fn Try.func53 (by kernel_rfl) (by kernel_rfl)) l2Tree (KnowsL.cons (enters_fn Try.func125 (by kernel_rfl) (by kernel_rfl)) l4Fits KnowsL.nil))))).knows (Λ := look []) Try.func62 (c := Try.f62.body.getD .skip) (by kernel_rfl) fun vs bs r hq hv hb => ?_
  unfold Ent.F sfits2G at hq
  dsimp only at hq
  split at hq
  · rename_i v l
    obtain ⟨hc, hx⟩ := need_some hq
    rw [Bool.and_eq_true, decide_eq_true_eq] at hc
    rw [fits_eq] at hx
    exact ⟨loopsOk_nil _, (sfits_fun v l hc.1 hc.2).trans hx⟩
  · cases hq
mutual
theorem leastL_len : ∀ (z : Rose Lab) (no up : Int) (s : Nat), (leastL z no up s).length ≤ cntR z
  | .node x ks, no, up, s => by
    rw [leastL, cntR]
    have := leastK_len ks s (s + 1)
    cases x.1 == 5
    · simp
    · simpa using this
theorem leastK_len : ∀ (ks : List (Rose Lab)) (s p : Nat), (leastK ks s p).length ≤ cntL ks
  | [], _, _ => by rw [leastK]; exact Nat.zero_le _
  | z :: ks, s, p => by
    rw [leastK, cntL]
    split
    · have := leastL_len z z.lab.2.2.1 s p
      have := leastK_len ks s (p + (leastL z z.lab.2.2.1 s p).length)
      rw [List.length_append]; omega
    · have := leastK_len ks s p
      omega
end
theorem least_round (n m : Nat) (s : Int) (ks : List (Rose Lab)) (k i : Int) (o : List Nd) : roundK Try.prog (look [(49, .own (leastN n)), (110, .rd1 kholdsG)]) (look [(5, leastE n)]) 1 (body Try.f49 0) (leastE n) ([.ref 1 0 m, .i .i64 s, .sl (.tree LCd) ks, .i .i64 k, .i .i64 i], [none, some (.row false none NCd o)]) =
  ((ifB (decide (i < k)) (ifT (decide ((0 : Int) ≤ i) && decide (i < (↑ks.length : Int))) (ifSome ks[i.toNat]? fun z => ifB (Rose.lab z).snd.snd.snd.fst (ifT (decide (m =
 o.length ∧ o.length + cntR z ≤ (2000000 : Nat) ∧ cntR z ≤ n)) (some (Ex.normal, [V.ref 1 0 (o ++ leastL z (Rose.lab z).snd.snd.fst s o.length).length, V.i .i64 s, V.sl
 LCd.tree ks, V.i .i64 k, V.i .i64 (IntKind.i64.wrap (i + (1 : Int)))], [none, some (Blk.row false none NCd (o ++ leastL z (Rose.lab z).snd.snd.fst s o.length))]))) (some
 (Ex.normal, [V.ref 1 0 m, V.i .i64 s, V.sl LCd.tree ks, V.i .i64 k, V.i .i64 (IntKind.i64.wrap (i + (1 : Int)))], [none, some (Blk.row false none NCd o)])))) (some
 (Ex.exit 0, [V.ref 1 0 m], [none, some (Blk.row false none NCd o)]))) : _) := by kernel_rfl
theorem least_tree (n : Nat) (z : Rose Lab) (m : Nat) (no up : Int) (nl : Option Bool) (o : List Nd) : funN Try.prog (look [(49, .own (leastN n)), (110, .rd1 kholdsG)]) (look [(5, leastE n)]) Try.f49 [.tp LCd z 0, .ref 0 0 m, .i .i64 no, .i .i64 up] [.row false nl NCd o] =
  ((ifT (decide ((m + (1 : Nat)) * (48 : Nat) ≤ (140737488355328 : Nat)) && decide (m + (1 : Nat) ≤ maxI)) (ifB (z.lab.fst == (5 : Int)) (ifT (decide (m + (1 : Nat) =
 (List.take m (List.drop (0 : Nat) o) ++ ((0 : Int), nilT UInt8, no, up, holdsK z.lab.fst, ()) :: nilT NCd.den).length ∧ (0 : Int) ≤ (0 : Int) ∧ (0 : Nat) ≤ z.kids.length
 ∧ (↑z.kids.length : Int) = (↑z.kids.length : Int) ∧ (0 : Int) ≤ (↑m : Int) ∧ (List.take m (List.drop (0 : Nat) o) ++ ((0 : Int), nilT UInt8, no, up, holdsK z.lab.fst, ())
 :: nilT NCd.den).length + cntL (List.drop (0 : Nat) z.kids) ≤ (2000000 : Nat) ∧ cntL z.kids ≤ n ∧ cntL z.kids ≤ (2000000 : Nat))) (some (V.ref 1 0 (List.take m (List.drop
 (0 : Nat) o) ++ ((0 : Int), nilT UInt8, no, up, holdsK z.lab.fst, ()) :: nilT NCd.den ++ leastK (List.drop (0 : Nat) z.kids) (↑m : Int).toNat (List.take m (List.drop (0 :
 Nat) o) ++ ((0 : Int), nilT UInt8, no, up, holdsK z.lab.fst, ()) :: nilT NCd.den).length).length, [none, some (Blk.row false none NCd (List.take m (List.drop (0 : Nat) o)
 ++ ((0 : Int), nilT UInt8, no, up, holdsK z.lab.fst, ()) :: nilT NCd.den ++ leastK (List.drop (0 : Nat) z.kids) (↑m : Int).toNat (List.take m (List.drop (0 : Nat) o) ++
 ((0 : Int), nilT UInt8, no, up, holdsK z.lab.fst, ()) :: nilT NCd.den).length))]))) (some (V.ref 1 0 (m + (1 : Nat)), [none, some (Blk.row false none NCd (List.take m
 (List.drop (0 : Nat) o) ++ ((0 : Int), nilT UInt8, no, up, holdsK z.lab.fst, ()) :: nilT NCd.den))])))) : _) := by kernel_rfl
theorem leastL_eq (z : Rose Lab) (no up : Int) (s : Nat) : leastL z no up s = (0, [], no, up, holdsK z.lab.1, ()) :: (bif z.lab.1 == 5 then leastK z.kids s (s + 1) else []) := by cases z; rw [leastL]; rfl
theorem least_loop (n s : Nat) (ks : List (Rose Lab)) (h1 : cntL ks ≤ n) (h2 : cntL ks ≤ 2000000) : ∀ (j i : Nat) (o : List Nd), i + j = ks.length → o.length + cntL (ks.drop i) ≤ 2000000 →
    Runs Try.prog (look [(49, .own (leastN n)), (110, .rd1 kholdsG)]) (look [(5, leastE n)]) 1 (body Try.f49 0) (leastE n) ([.ref 1 0 o.length, .i .i64 (s : Int), .sl (.tree LCd) ks, .i .i64 (ks.length : Int), .i .i64 (i : Int)], [none, some (.row false none NCd o)]) (.exit 0) ([.ref 1 0 (o ++ leastK (ks.drop i) s o.length).length], [none, some (.row false none NCd (o ++ leastK (ks.drop i) s o.length))])
  | 0, i, o, hi, ho => by
    have hr := least_round n o.length s ks ks.length i o
    rw [ifB_false (decide_eq_false (by omega))] at hr
    rw [List.drop_eq_nil_of_le (by omega), leastK, List.append_nil]
    exact .stop _ _ _ hr (by simp)
  | j + 1, i, o, hi, ho => by
    have hl : i < ks.length := by omega
    have hM : maxI = 9223372036854775807 := rfl
    have hlen := cnt_len ks
    have hmem := cnt_mem (List.getElem_mem hl)
    have hr := least_round n o.length s ks ks.length i o
    rw [List.drop_eq_getElem_cons hl, cntL] at ho
    rw [ifB_true (decide_eq_true (by omega)), ifT_true (by simp only [Bool.and_eq_true, decide_eq_true_eq]; omega), Int.toNat_natCast, List.getElem?_eq_getElem hl, ifSome_s, wrap_succ (n := i) (by omega)] at hr
    rw [List.drop_eq_getElem_cons hl, leastK]
    cases hm : ks[i].lab.2.2.2.1 with
    | true =>
      rw [hm, ifB_t, ifT_true (decide_eq_true ⟨rfl, by omega, by omega⟩)] at hr
      have hk := leastL_len ks[i] ks[i].lab.2.2.1 s o.length
      have ih := least_loop n s ks h1 h2 j (i + 1) (o ++ leastL ks[i] ks[i].lab.2.2.1 s o.length) (by omega) (by rw [List.length_append]; omega)
      rw [List.length_append, List.append_assoc] at ih
      rw [if_pos rfl]
      rw [List.length_append] at hr
      exact .step _ _ _ _ hr ih
    | false =>
      rw [hm, ifB_f] at hr
      rw [if_neg (by simp)]
      exact .step _ _ _ _ hr (least_loop n s ks h1 h2 j (i + 1) o (by omega) (by omega))
theorem least_ok (n : Nat) : LoopsOk Try.prog (look [(49, .own (leastN n)), (110, .rd1 kholdsG)]) (look [(5, leastE n)]) 1 (Try.f49.body.getD .skip) := by
  refine loopsOk_one (a := body Try.f49 0) (by kernel_rfl) fun d ex d' h => ?_
  unfold leastE at h
  dsimp only at h
  split at h
  · rename_i m s ks k i o
    obtain ⟨hc, hx⟩ := need_some h
    clear h
    obtain ⟨rfl, h0, h1, rfl, h3, h4, h5, h6⟩ := of_decide_eq_true hc
    obtain ⟨i, rfl⟩ := Int.eq_ofNat_of_zero_le h0
    obtain ⟨s, rfl⟩ := Int.eq_ofNat_of_zero_le h3
    simp only [Int.toNat_natCast] at h1 h4 hx
    have h8 := leaf_some hx
    obtain ⟨rfl, rfl⟩ := Prod.mk.inj h8
    exact least_loop n s ks h5 h6 (ks.length - i) i o (by omega) h4
  · cases h
theorem least_fun (n : Nat) (z : Rose Lab) (m : Nat) (no up : Int) (nl : Option Bool) (o : List Nd) (hc : m = o.length ∧ o.length + cntR z ≤ 2000000 ∧ cntR z ≤ n + 1) : funN Try.prog (look [(49, .own (leastN n)), (110, .rd1 kholdsG)]) (look [(5, leastE n)]) Try.f49 [.tp LCd z 0, .ref 0 0 m, .i .i64 no, .i .i64 up] [.row false nl NCd o] = some (.ref 1 0 (o ++ leastL z no up o.length).length, [none, some (.row false none NCd (o ++ leastL z no up o.length))]) := by
  rw [least_tree]
  obtain ⟨rfl, h2, h3⟩ := hc
  have hM : maxI = 9223372036854775807 := rfl
  have hck := cnt_kids z
  have hlen := cnt_len z.kids
  rw [show List.drop 0 o = o from rfl, show List.drop 0 z.kids = z.kids from rfl, List.take_length, Int.toNat_natCast, leastL_eq]
  rw [ifT_true (by simp only [Bool.and_eq_true, decide_eq_true_eq]; omega)]
  cases h5 : z.lab.1 == 5 with
  | false => rw [ifB_f, cond_false]; simp [nilT_eq]
  | true =>
    rw [ifB_t, cond_true, ifT_true (decide_eq_true ⟨by simp [nilT_eq], by omega, by omega, rfl, by omega, by simp [nilT_eq]; omega, by omega, by omega⟩)]
    simp [nilT_eq]
theorem least_con : ∀ n, (∀ m, m < n → Contract Try.prog 49 (Ent.own (leastN m)).F) → Contract Try.prog 49 (Ent.own (leastN n)).F
  | 0, _ => contract_no fun vs bs => by
    unfold Ent.F leastN
    dsimp only
    split
    · rename_i z m no up x o
      have : decide (m = o.length ∧ o.length + cntR z ≤ 2000000 ∧ cntR z ≤ 0) = false := decide_eq_false (by have := cnt_pos z; omega)
      rw [this]; rfl
    · rfl
  | n + 1, ih => by
    refine fun_contractN' (KnowsL.cons (enters_fn Try.func49 (by kernel_rfl) (by kernel_rfl)) (ih n (Nat.lt_succ_self n)) (KnowsL.cons (enters_fn Try.func110 (by kernel_rfl) (by kernel_rfl)) kholds KnowsL.nil)).knows (Λ := (look [(5, leastE n)])) Try.func49 (c := Try.f49.body.getD .skip) (by kernel_rfl) fun vs bs r hq hv hb => ?_
    unfold Ent.F leastN at hq
    dsimp only at hq
    split at hq
    · rename_i z m no up nl o
      obtain ⟨hc, hx⟩ := need_some hq
      exact ⟨least_ok n, (least_fun n z m no up nl o (of_decide_eq_true hc)).trans hx⟩
    · cases hq
theorem least : Contract Try.prog 49 (Ent.own leastG).F := by
  refine contract_rec (F := fun n => (Ent.own (leastN n)).F) least_con fun vs bs r h => ?_
  unfold Ent.F leastG at h
  dsimp only at h
  split at h
  · rename_i z m no up nl o
    obtain ⟨hc, hx⟩ := need_some h
    refine ⟨cntR z, ?_⟩
    show (Br.need (decide (m = o.length ∧ o.length + cntR z ≤ 2000000 ∧ cntR z ≤ cntR z)) (.leaf (.ref 1 0 (o ++ leastL z no up o.length).length, [none, some (.row false none NCd (o ++ leastL z no up o.length))]))).run = some r
    obtain ⟨h1, h2⟩ := of_decide_eq_true hc
    have : decide (m = o.length ∧ o.length + cntR z ≤ 2000000 ∧ cntR z ≤ cntR z) = true := decide_eq_true ⟨h1, h2, Nat.le_refl _⟩
    rw [this]
    exact hx
  · cases h
end Go.Proofs.Ytfkoljiioikdfaa.Den
