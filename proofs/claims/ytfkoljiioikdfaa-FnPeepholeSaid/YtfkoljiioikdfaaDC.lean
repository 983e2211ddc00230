/- What functions of the program do, by the machine: Pr14 Pr15 DrW DrW2 Pr2 Pr3 Wi6 Wi7 DrS Dr1. -/
import Derived.Test.YtfkoljiioikdfaaDB
import Derived.KernelRfl
import Derived.Test.YtfkoljiioikdfaaRows
namespace Go.Proofs.Ytfkoljiioikdfaa.Den
open Go.Proofs
set_option maxRecDepth 100000
/-- The parts of a bettering: two seeks, two jumps. -/
def bet8 (l : List Ins) (i : Nat) : Option (List Ins) :=
  if (atI l i).1 = 1 ∧ (atI l (i + 1)).1 = 2 ∧ (atI l (i + 2)).1 = 1 ∧ (atI l (i + 2)).no = (atI l i).no ∧ ledB l ((i + 1 : Nat) : Int) = false ∧ ledB l ((i + 2 : Nat) : Int) = false then some (cutI l (i + 2) 1) else none
def bet4 (l : List Ins) (i : Nat) : Option (List Ins) :=
  if (atI l i).1 = 3 ∧ (atI l (atI l i).to.toNat).1 = 3 ∧ (atI l (atI l i).to.toNat).num = (atI l i).num then some (l.set i (setTo (atI l i) (atI l (atI l i).to.toNat).to)) else bet8 l i
def betL (l : List Ins) (i : Nat) : List Ins := (betB l i).getD []
def betG : List V → List Blk → Br (V × List (Option Blk))
  | [.sl (.pair (.int .i64) (.pair (.int .i64) (.pair (.int .i64) (.pair (.int .i64) (.pair .str (.pair (.int .i64) .unit)))))) l, .i .i64 i], [] => .need (decide (0 ≤ i ∧ i < l.length ∧ goodPB l = true)) (.leaf (.tup [.ref 0 0 (betL l i.toNat).length, .b (betB l i.toNat).isSome], [some (.row false none (.pair (.int .i64) (.pair (.int .i64) (.pair (.int .i64) (.pair (.int .i64) (.pair .str (.pair (.int .i64) .unit)))))) (betL l i.toNat))]))
  | _, _ => .no
def ibE8 : LoopEnt := ⟨114, [0,1,6], [], [4,5], fun
  | ([.sl (.pair (.int .i64) (.pair (.int .i64) (.pair (.int .i64) (.pair (.int .i64) (.pair .str (.pair (.int .i64) .unit)))))) l, .i .i64 i, .ptr 0 0], [some (.box [.i .i64 c, .i .i64 kd, .i .i64 no, .i .i64 nm, .s tx, .i .i64 to])]) => .need (decide (0 ≤ i ∧ i < l.length ∧ goodPB l = true ∧ eqT Ins (c, kd, no, nm, tx, to, ()) (atI l i.toNat))) (.leaf (.ret, ([.ref 0 0 ((bet8 l i.toNat).getD []).length, .b (bet8 l i.toNat).isSome], [some (.row false none (.pair (.int .i64) (.pair (.int .i64) (.pair (.int .i64) (.pair (.int .i64) (.pair .str (.pair (.int .i64) .unit)))))) ((bet8 l i.toNat).getD []))])))
  | _ => .no⟩
def ibE4 : LoopEnt := ⟨114, [0,1,6], [], [4,5], fun
  | ([.sl (.pair (.int .i64) (.pair (.int .i64) (.pair (.int .i64) (.pair (.int .i64) (.pair .str (.pair (.int .i64) .unit)))))) l, .i .i64 i, .ptr 0 0], [some (.box [.i .i64 c, .i .i64 kd, .i .i64 no, .i .i64 nm, .s tx, .i .i64 to])]) => .need (decide (0 ≤ i ∧ i < l.length ∧ goodPB l = true ∧ eqT Ins (c, kd, no, nm, tx, to, ()) (atI l i.toNat))) (.leaf (.ret, ([.ref 0 0 ((bet4 l i.toNat).getD []).length, .b (bet4 l i.toNat).isSome], [some (.row false none (.pair (.int .i64) (.pair (.int .i64) (.pair (.int .i64) (.pair (.int .i64) (.pair .str (.pair (.int .i64) .unit)))))) ((bet4 l i.toNat).getD []))])))
  | _ => .no⟩
def sbE9 : LoopEnt := ⟨128, [0,1,6,7], [], [4,5], fun
  | ([.sl (.pair (.int .i64) (.pair (.int .i64) (.pair (.int .i64) (.pair (.int .i64) (.pair .str (.pair (.int .i64) .unit)))))) l, .i .i64 i, .i .i64 n, .ptr 0 0], [some (.box [.i .i64 c, .i .i64 kd, .i .i64 no, .i .i64 nm, .s tx, .i .i64 to])]) => .need (decide (0 ≤ i ∧ i < l.length ∧ goodPB l = true ∧ eqT Ins (c, kd, no, nm, tx, to, ()) (atI l i.toNat) ∧ n = l.length)) (.br (bet8 l i.toNat).isSome (.leaf (.ret, ([.ref 0 0 ((bet8 l i.toNat).getD []).length, .b true], [some (.row false none (.pair (.int .i64) (.pair (.int .i64) (.pair (.int .i64) (.pair (.int .i64) (.pair .str (.pair (.int .i64) .unit)))))) ((bet8 l i.toNat).getD []))]))) (.leaf (.normal, ([], []))))
  | _ => .no⟩
def sbE5 : LoopEnt := ⟨128, [0,1,6,7], [], [4,5], fun
  | ([.sl (.pair (.int .i64) (.pair (.int .i64) (.pair (.int .i64) (.pair (.int .i64) (.pair .str (.pair (.int .i64) .unit)))))) l, .i .i64 i, .i .i64 n, .ptr 0 0], [some (.box [.i .i64 c, .i .i64 kd, .i .i64 no, .i .i64 nm, .s tx, .i .i64 to])]) => .need (decide (0 ≤ i ∧ i < l.length ∧ goodPB l = true ∧ eqT Ins (c, kd, no, nm, tx, to, ()) (atI l i.toNat) ∧ n = l.length)) (.br (bet4 l i.toNat).isSome (.leaf (.ret, ([.ref 0 0 ((bet4 l i.toNat).getD []).length, .b true], [some (.row false none (.pair (.int .i64) (.pair (.int .i64) (.pair (.int .i64) (.pair (.int .i64) (.pair .str (.pair (.int .i64) .unit)))))) ((bet4 l i.toNat).getD []))]))) (.leaf (.normal, ([], []))))
  | _ => .no⟩

theorem ib8_tree (l : List Ins) (i c kd no nm : Int) (tx : List UInt8) (to : Int) : pieceK Try.prog (look [(96, .rd1 cloneInsG), (146, .rd1 codeAtG), (147, .rd1 iledG), (148, .rd1 cutG)]) (look [(1000004, ibE4), (1000008, ibE8)]) 0 (pieceOf Try.f97 1000008) ibE8 ([.sl (.pair (.int .i64) (.pair (.int .i64) (.pair (.int .i64) (.pair (.int .i64) (.pair .str (.pair (.int .i64) .unit)))))) l, .i .i64 i, .ptr 0 0], [some (.box [.i .i64 c, .i .i64 kd, .i .i64 no, .i .i64 nm, .s tx, .i .i64 to])]) =
  ((shr (nilT ((Cd.int .i64).pair ((Cd.int .i64).pair ((Cd.int .i64).pair ((Cd.int .i64).pair (Cd.str.pair ((Cd.int .i64).pair Cd.unit)))))).den) fun sh1 => ifB (c == (1 :
 Int)) (ifT (decide ((0 : Int) ≤ IntKind.i64.wrap (i + (1 : Int)))) (ifB ((atI l (IntKind.i64.wrap (i + (1 : Int))).toNat).fst == (2 : Int)) (ifT (decide ((0 : Int) ≤
 IntKind.i64.wrap (i + (2 : Int)))) (ifB ((atI l (IntKind.i64.wrap (i + (2 : Int))).toNat).fst == (1 : Int)) (ifT (decide ((0 : Int) ≤ IntKind.i64.wrap (i + (2 : Int))) &&
 decide (IntKind.i64.wrap (i + (2 : Int)) < (↑l.length : Int))) (ifSome l[(IntKind.i64.wrap (i + (2 : Int))).toNat]? fun z => shr sh1 fun sh1 => ifB (z.snd.snd.fst == no)
 (ifB (!ledB l (IntKind.i64.wrap (i + (1 : Int)))) (ifB (!ledB l (IntKind.i64.wrap (i + (2 : Int)))) (ifT (decide ((0 : Int) ≤ IntKind.i64.wrap (i + (2 : Int)) ∧ (1 : Int)
 ≤ (1 : Int) ∧ IntKind.i64.wrap (i + (2 : Int)) + (1 : Int) ≤ (↑l.length : Int) ∧ l.length ≤ (60 : Nat)) && okCut l (IntKind.i64.wrap (i + (2 : Int))) (1 : Int)) (some
 (Ex.ret, [V.ref 0 0 (cutI l (IntKind.i64.wrap (i + (2 : Int))).toNat (1 : Nat)).length, V.b true], [some (Blk.row false none ((Cd.int .i64).pair ((Cd.int .i64).pair
 ((Cd.int .i64).pair ((Cd.int .i64).pair (Cd.str.pair ((Cd.int .i64).pair Cd.unit)))))) (cutI l (IntKind.i64.wrap (i + (2 : Int))).toNat (1 : Nat)))]))) (some (Ex.ret,
 [V.ref 0 0 0, V.b false], [some (Blk.row false none ((Cd.int .i64).pair ((Cd.int .i64).pair ((Cd.int .i64).pair ((Cd.int .i64).pair (Cd.str.pair ((Cd.int .i64).pair
 Cd.unit)))))) sh1)]))) (some (Ex.ret, [V.ref 0 0 0, V.b false], [some (Blk.row false none ((Cd.int .i64).pair ((Cd.int .i64).pair ((Cd.int .i64).pair ((Cd.int .i64).pair
 (Cd.str.pair ((Cd.int .i64).pair Cd.unit)))))) sh1)]))) (some (Ex.ret, [V.ref 0 0 0, V.b false], [some (Blk.row false none ((Cd.int .i64).pair ((Cd.int .i64).pair
 ((Cd.int .i64).pair ((Cd.int .i64).pair (Cd.str.pair ((Cd.int .i64).pair Cd.unit)))))) sh1)])))) (some (Ex.ret, [V.ref 0 0 0, V.b false], [some (Blk.row false none
 ((Cd.int .i64).pair ((Cd.int .i64).pair ((Cd.int .i64).pair ((Cd.int .i64).pair (Cd.str.pair ((Cd.int .i64).pair Cd.unit)))))) sh1)])))) (some (Ex.ret, [V.ref 0 0 0, V.b
 false], [some (Blk.row false none ((Cd.int .i64).pair ((Cd.int .i64).pair ((Cd.int .i64).pair ((Cd.int .i64).pair (Cd.str.pair ((Cd.int .i64).pair Cd.unit)))))) sh1)]))))
 (some (Ex.ret, [V.ref 0 0 0, V.b false], [some (Blk.row false none ((Cd.int .i64).pair ((Cd.int .i64).pair ((Cd.int .i64).pair ((Cd.int .i64).pair (Cd.str.pair ((Cd.int
 .i64).pair Cd.unit)))))) sh1)]))) : _) := by kernel_rfl
theorem ib4_tree (l : List Ins) (i c kd no nm : Int) (tx : List UInt8) (to : Int) : pieceK Try.prog (look [(96, .rd1 cloneInsG), (146, .rd1 codeAtG), (147, .rd1 iledG), (148, .rd1 cutG)]) (look [(1000004, ibE4), (1000008, ibE8)]) 0 (pieceOf Try.f97 1000004) ibE4 ([.sl (.pair (.int .i64) (.pair (.int .i64) (.pair (.int .i64) (.pair (.int .i64) (.pair .str (.pair (.int .i64) .unit)))))) l, .i .i64 i, .ptr 0 0], [some (.box [.i .i64 c, .i .i64 kd, .i .i64 no, .i .i64 nm, .s tx, .i .i64 to])]) =
  ((shr (ifT (decide ((0 : Int) ≤ i ∧ i < (↑l.length : Int) ∧ goodPB l = true ∧ eqT Ins (c, kd, no, nm, tx, to, ()) (atI l i.toNat))) (some (Ex.ret, [V.ref 0 0 ((bet8 l
 i.toNat).getD (nilT Ins)).length, V.b (bet8 l i.toNat).isSome], [some (Blk.row false none ((Cd.int .i64).pair ((Cd.int .i64).pair ((Cd.int .i64).pair ((Cd.int .i64).pair
 (Cd.str.pair ((Cd.int .i64).pair Cd.unit)))))) ((bet8 l i.toNat).getD (nilT Ins)))]))) fun sh1 => ifB (c == (3 : Int)) (ifT (decide ((0 : Int) ≤ to) && decide (to <
 (↑l.length : Int))) (ifSome l[to.toNat]? fun z => shr sh1 fun sh1 => ifB (z.fst == (3 : Int)) (ifT (decide ((0 : Int) ≤ to) && decide (to < (↑l.length : Int))) (ifSome
 l[to.toNat]? fun z => ifB (z.snd.snd.snd.fst == nm) (ifT (decide (l.length ≤ (1000000000 : Nat))) (ifT (decide ((0 : Int) ≤ to) && decide (to < (↑l.length : Int)))
 (ifSome l[to.toNat]? fun z => ifT (decide ((0 : Int) ≤ i) && decide (i < (↑l.length : Int))) (ifSome l[(0 : Nat) + i.toNat]? fun z_1 => shr z_1.snd.snd fun sh1 => some
 (Ex.ret, [V.ref 0 0 l.length, V.b true], [some (Blk.row false none ((Cd.int .i64).pair ((Cd.int .i64).pair ((Cd.int .i64).pair ((Cd.int .i64).pair (Cd.str.pair ((Cd.int
 .i64).pair Cd.unit)))))) (l.set ((0 : Nat) + i.toNat) (z_1.fst, z_1.snd.fst, sh1.fst, sh1.snd.fst, sh1.snd.snd.fst, z.snd.snd.snd.snd.snd.fst, ())))]))))) sh1)) sh1)) sh1) : _) := by kernel_rfl
theorem sb9_tree (l : List Ins) (i n c kd no nm : Int) (tx : List UInt8) (to : Int) : pieceK Try.prog (look [(149, .rd1 ledG), (150, .rd1 cutG)]) (look [(3000005, sbE5), (3000009, sbE9)]) 0 (pieceOf Try.f98 3000009) sbE9 ([.sl (.pair (.int .i64) (.pair (.int .i64) (.pair (.int .i64) (.pair (.int .i64) (.pair .str (.pair (.int .i64) .unit)))))) l, .i .i64 i, .i .i64 n, .ptr 0 0], [some (.box [.i .i64 c, .i .i64 kd, .i .i64 no, .i .i64 nm, .s tx, .i .i64 to])]) =
  ((ifB (c == (1 : Int)) (ifB (decide (IntKind.i64.wrap (i + (2 : Int)) < n)) (ifT (decide ((0 : Int) ≤ IntKind.i64.wrap (i + (1 : Int))) && decide (IntKind.i64.wrap (i + (1 :
 Int)) < (↑l.length : Int))) (ifSome l[(IntKind.i64.wrap (i + (1 : Int))).toNat]? fun z => ifB (z.fst == (2 : Int)) (ifT (decide ((0 : Int) ≤ IntKind.i64.wrap (i + (2 :
 Int))) && decide (IntKind.i64.wrap (i + (2 : Int)) < (↑l.length : Int))) (ifSome l[(IntKind.i64.wrap (i + (2 : Int))).toNat]? fun z => shr z.snd.snd fun sh1 => ifB (z.fst
 == c && (z.snd.fst == kd && (sh1.fst == no && (sh1.snd.fst == nm && (sh1.snd.snd.fst == tx && (sh1.snd.snd.snd.fst == to && true)))))) (ifT (decide (l.length ≤ (8000000 :
 Nat))) (ifB (!ledB l (IntKind.i64.wrap (i + (2 : Int)))) (ifT (decide (l.length ≤ (8000000 : Nat))) (ifB (!ledB l (IntKind.i64.wrap (i + (1 : Int)))) (ifT (decide ((0 :
 Int) ≤ IntKind.i64.wrap (i + (2 : Int)) ∧ (1 : Int) ≤ (1 : Int) ∧ IntKind.i64.wrap (i + (2 : Int)) + (1 : Int) ≤ (↑l.length : Int) ∧ l.length ≤ (60 : Nat)) && okCut l
 (IntKind.i64.wrap (i + (2 : Int))) (1 : Int)) (some (Ex.ret, [V.ref 0 0 (cutI l (IntKind.i64.wrap (i + (2 : Int))).toNat (1 : Nat)).length, V.b true], [some (Blk.row
 false none ((Cd.int .i64).pair ((Cd.int .i64).pair ((Cd.int .i64).pair ((Cd.int .i64).pair (Cd.str.pair ((Cd.int .i64).pair Cd.unit)))))) (cutI l (IntKind.i64.wrap (i +
 (2 : Int))).toNat (1 : Nat)))]))) (some (Ex.normal, [], [])))) (some (Ex.normal, [], [])))) (some (Ex.normal, [], [])))) (some (Ex.normal, [], [])))) (some (Ex.normal,
 [], []))) (some (Ex.normal, [], []))) : _) := by kernel_rfl
theorem sb5_tree (l : List Ins) (i n c kd no nm : Int) (tx : List UInt8) (to : Int) : pieceK Try.prog (look [(149, .rd1 ledG), (150, .rd1 cutG)]) (look [(3000005, sbE5), (3000009, sbE9)]) 0 (pieceOf Try.f98 3000005) sbE5 ([.sl (.pair (.int .i64) (.pair (.int .i64) (.pair (.int .i64) (.pair (.int .i64) (.pair .str (.pair (.int .i64) .unit)))))) l, .i .i64 i, .i .i64 n, .ptr 0 0], [some (.box [.i .i64 c, .i .i64 kd, .i .i64 no, .i .i64 nm, .s tx, .i .i64 to])]) =
  ((shr (ifT (decide ((0 : Int) ≤ i ∧ i < (↑l.length : Int) ∧ goodPB l = true ∧ eqT Ins (c, kd, no, nm, tx, to, ()) (atI l i.toNat) ∧ n = (↑l.length : Int))) (ifB (bet8 l
 i.toNat).isSome (some (Ex.ret, [V.ref 0 0 ((bet8 l i.toNat).getD (nilT Ins)).length, V.b true], [some (Blk.row false none ((Cd.int .i64).pair ((Cd.int .i64).pair ((Cd.int
 .i64).pair ((Cd.int .i64).pair (Cd.str.pair ((Cd.int .i64).pair Cd.unit)))))) ((bet8 l i.toNat).getD (nilT Ins)))])) (some (Ex.normal, [], [])))) fun sh1 => ifB (c == (3
 : Int)) (ifT (decide ((0 : Int) ≤ to) && decide (to < (↑l.length : Int))) (ifSome l[to.toNat]? fun z => shr sh1 fun sh1 => ifB (z.fst == (3 : Int)) (ifT (decide ((0 :
 Int) ≤ to) && decide (to < (↑l.length : Int))) (ifSome l[to.toNat]? fun z => ifB (z.snd.snd.snd.fst == nm) (ifT (decide (((0 : Nat) + l.length) * (56 : Nat) ≤
 (140737488355328 : Nat)) && decide ((0 : Nat) + l.length ≤ maxI)) (ifT (decide ((0 : Int) ≤ to) && decide (to < (↑l.length : Int))) (ifSome l[to.toNat]? fun z => shr
 (nilT ((Cd.int .i64).pair ((Cd.int .i64).pair ((Cd.int .i64).pair ((Cd.int .i64).pair (Cd.str.pair ((Cd.int .i64).pair Cd.unit)))))).den ++ l) fun sh1 => ifT (decide ((0
 : Int) ≤ i) && decide (i < (↑((0 : Nat) + l.length) : Int))) (ifSome sh1[(0 : Nat) + i.toNat]? fun z_1 => shr z_1.snd.snd fun sh1_1 => some (Ex.ret, [V.ref 0 0 ((0 : Nat)
 + l.length), V.b true], [some (Blk.row false none ((Cd.int .i64).pair ((Cd.int .i64).pair ((Cd.int .i64).pair ((Cd.int .i64).pair (Cd.str.pair ((Cd.int .i64).pair
 Cd.unit)))))) (sh1.set ((0 : Nat) + i.toNat) (z_1.fst, z_1.snd.fst, sh1_1.fst, sh1_1.snd.fst, sh1_1.snd.snd.fst, z.snd.snd.snd.snd.snd.fst, ())))]))))) sh1)) sh1)) sh1) : _) := by kernel_rfl
theorem ibet_tree (l : List Ins) (i : Int) : funC Try.prog (look [(96, .rd1 cloneInsG), (146, .rd1 codeAtG), (147, .rd1 iledG), (148, .rd1 cutG)]) (look [(1000004, ibE4), (1000008, ibE8)]) Try.f97 [.sl (.pair (.int .i64) (.pair (.int .i64) (.pair (.int .i64) (.pair (.int .i64) (.pair .str (.pair (.int .i64) .unit)))))) l, .i .i64 i] [] =
  ((ifT (decide ((0 : Int) ≤ i) && decide (i < (↑l.length : Int))) (ifSome l[i.toNat]? fun z => shr z.snd fun sh3 => shr sh3.snd.snd fun sh2 => shr (ifT (decide ((0 : Int) ≤ i
 ∧ i < (↑l.length : Int) ∧ goodPB l = true ∧ eqT Ins (z.fst, sh3.fst, sh3.snd.fst, sh2.fst, sh2.snd.fst, sh2.snd.snd.fst, ()) (atI l i.toNat))) (some (V.tup [V.ref 0 0
 ((bet4 l i.toNat).getD (nilT Ins)).length, V.b (bet4 l i.toNat).isSome], [some (Blk.row false none ((Cd.int .i64).pair ((Cd.int .i64).pair ((Cd.int .i64).pair ((Cd.int
 .i64).pair (Cd.str.pair ((Cd.int .i64).pair Cd.unit)))))) ((bet4 l i.toNat).getD (nilT Ins)))]))) fun sh1 => ifB (z.fst == (4 : Int)) (ifT (decide ((0 : Int) ≤
 IntKind.i64.wrap (i + (1 : Int)))) (ifB ((atI l (IntKind.i64.wrap (i + (1 : Int))).toNat).fst == (4 : Int)) (ifB (!ledB l (IntKind.i64.wrap (i + (1 : Int)))) (ifT (decide
 ((0 : Int) ≤ i ∧ (1 : Int) ≤ (2 : Int) ∧ i + (2 : Int) ≤ (↑l.length : Int) ∧ l.length ≤ (60 : Nat)) && okCut l i (2 : Int)) (some (V.tup [V.ref 0 0 (cutI l i.toNat (2 :
 Nat)).length, V.b true], [some (Blk.row false none ((Cd.int .i64).pair ((Cd.int .i64).pair ((Cd.int .i64).pair ((Cd.int .i64).pair (Cd.str.pair ((Cd.int .i64).pair
 Cd.unit)))))) (cutI l i.toNat (2 : Nat)))]))) sh1) sh1)) sh1)) : _) := by kernel_rfl
theorem sbet_tree (l : List Ins) (i : Int) : funC Try.prog (look [(149, .rd1 ledG), (150, .rd1 cutG)]) (look [(3000005, sbE5), (3000009, sbE9)]) Try.f98 [.sl (.pair (.int .i64) (.pair (.int .i64) (.pair (.int .i64) (.pair (.int .i64) (.pair .str (.pair (.int .i64) .unit)))))) l, .i .i64 i] [] =
  ((ifT (decide ((0 : Int) ≤ i) && decide (i < (↑l.length : Int))) (ifSome l[i.toNat]? fun z => shr (ifB (bet4 l i.toNat).isSome (some (V.tup [V.ref 0 0 ((bet4 l i.toNat).getD
 (nilT Ins)).length, V.b true], [some (Blk.row false none ((Cd.int .i64).pair ((Cd.int .i64).pair ((Cd.int .i64).pair ((Cd.int .i64).pair (Cd.str.pair ((Cd.int .i64).pair
 Cd.unit)))))) ((bet4 l i.toNat).getD (nilT Ins)))])) (some (V.tup [V.ref 0 0 0, V.b false], [some (Blk.row false none ((Cd.int .i64).pair ((Cd.int .i64).pair ((Cd.int
 .i64).pair ((Cd.int .i64).pair (Cd.str.pair ((Cd.int .i64).pair Cd.unit)))))) (nilT ((Cd.int .i64).pair ((Cd.int .i64).pair ((Cd.int .i64).pair ((Cd.int .i64).pair
 (Cd.str.pair ((Cd.int .i64).pair Cd.unit)))))).den))]))) fun sh3 => shr z.snd fun sh2 => shr sh2.snd.snd fun sh1 => ifB (z.fst == (4 : Int)) (ifB (decide
 (IntKind.i64.wrap (i + (1 : Int)) < (↑l.length : Int))) (ifT (decide ((0 : Int) ≤ IntKind.i64.wrap (i + (1 : Int))) && decide (IntKind.i64.wrap (i + (1 : Int)) <
 (↑l.length : Int))) (ifSome l[(IntKind.i64.wrap (i + (1 : Int))).toNat]? fun z_1 => shr sh3 fun sh3 => shr sh2 fun sh2 => shr sh2.snd.snd fun sh1 => ifB (z_1.fst == (4 :
 Int)) (ifT (decide (l.length ≤ (8000000 : Nat))) (ifB (!ledB l (IntKind.i64.wrap (i + (1 : Int)))) (ifT (decide ((0 : Int) ≤ i ∧ (1 : Int) ≤ (2 : Int) ∧ i + (2 : Int) ≤
 (↑l.length : Int) ∧ l.length ≤ (60 : Nat)) && okCut l i (2 : Int)) (some (V.tup [V.ref 0 0 (cutI l i.toNat (2 : Nat)).length, V.b true], [some (Blk.row false none
 ((Cd.int .i64).pair ((Cd.int .i64).pair ((Cd.int .i64).pair ((Cd.int .i64).pair (Cd.str.pair ((Cd.int .i64).pair Cd.unit)))))) (cutI l i.toNat (2 : Nat)))]))) (ifT
 (decide ((0 : Int) ≤ i ∧ i < (↑l.length : Int) ∧ goodPB l = true ∧ eqT Ins (z.fst, sh2.fst, sh2.snd.fst, sh1.fst, sh1.snd.fst, sh1.snd.snd.fst, ()) (atI l i.toNat) ∧
 (↑l.length : Int) = (↑l.length : Int))) sh3))) (ifT (decide ((0 : Int) ≤ i ∧ i < (↑l.length : Int) ∧ goodPB l = true ∧ eqT Ins (z.fst, sh2.fst, sh2.snd.fst, sh1.fst,
 sh1.snd.fst, sh1.snd.snd.fst, ()) (atI l i.toNat) ∧ (↑l.length : Int) = (↑l.length : Int))) sh3))) (ifT (decide ((0 : Int) ≤ i ∧ i < (↑l.length : Int) ∧ goodPB l = true ∧
 eqT Ins (z.fst, sh2.fst, sh2.snd.fst, sh1.fst, sh1.snd.fst, sh1.snd.snd.fst, ()) (atI l i.toNat) ∧ (↑l.length : Int) = (↑l.length : Int))) sh3)) (ifT (decide ((0 : Int) ≤
 i ∧ i < (↑l.length : Int) ∧ goodPB l = true ∧ eqT Ins (z.fst, sh2.fst, sh2.snd.fst, sh1.fst, sh1.snd.fst, sh1.snd.snd.fst, ()) (atI l i.toNat) ∧ (↑l.length : Int) =
 (↑l.length : Int))) sh3))) : _) := by kernel_rfl
theorem okCut_of {l : List Ins} (hg : goodPB l = true) {a m : Nat} (h : ∀ (k : Nat) (z : Ins), l[k]? = some z → z.1 = 3 → z.to ≤ a ∨ (a : Int) + m ≤ z.to) : okCut l (a : Int) (m : Int) = true := by
  have hlen := (goodPB_iff.1 hg).1
  unfold okCut
  refine List.all_eq_true.2 fun z hz => ?_
  by_cases h3 : z.1 = 3
  · obtain ⟨k, hk⟩ := List.getElem?_of_mem hz
    have h1 := okI_jump ((goodPB_iff.1 hg).2 k z hk) h3
    have h2 := h k z hk h3
    rw [show (!(z.1 == 3)) = false by rw [h3]; rfl, Bool.false_or]
    have h1a : (k : Int) < z.2.2.2.2.2.1 := h1.1
    have h1b : z.2.2.2.2.2.1 < (l.length : Int) := h1.2.1
    exact decide_eq_true ⟨by omega, by omega, h2⟩
  · rw [show (!(z.1 == 3)) = true by rw [beq_eq_false_iff_ne.2 h3]; rfl, Bool.true_or]
theorem seek_cut {l : List Ins} (hg : goodPB l = true) (i : Nat) : okCut l ((i + 2 : Nat) : Int) 1 = true :=
  okCut_of hg (a := i + 2) (m := 1) fun k z _ _ => by omega
theorem flip_cut {l : List Ins} (hg : goodPB l = true) {i : Nat} (hl : ledB l ((i + 1 : Nat) : Int) = false) : okCut l (i : Int) 2 = true :=
  okCut_of hg (a := i) (m := 2) fun k z hz h3 => by
    have := led_no hl hz h3
    omega
theorem okI_seek {n k : Nat} {z : Ins} (h : okI n k z) (hz : z.1 = 1) : z = (1, 0, z.no, 0, [], 0, ()) := by
  obtain ⟨c, kd, no, nm, tx, to, ⟨⟩⟩ := z
  obtain ⟨h1, h2⟩ := h
  unfold insM at h2
  have := of_decide_eq_true h2
  dsimp only at this hz ⊢
  subst hz
  rcases this with h | h | h | h
  · obtain ⟨_, _, _, rfl, rfl, rfl, rfl⟩ := h; rfl
  · exact absurd h.1 (by decide)
  · exact absurd h.1 (by decide)
  · rcases h.1 with h | h <;> exact absurd h (by decide)
theorem ib8_fun (l : List Ins) (i : Nat) (hg : goodPB l = true) (hi : i < l.length) (c kd no nm : Int) (tx : List UInt8) (to : Int) (hx : (c, kd, no, nm, tx, to, ()) = atI l i) : pieceK Try.prog (look [(96, .rd1 cloneInsG), (146, .rd1 codeAtG), (147, .rd1 iledG), (148, .rd1 cutG)]) (look [(1000004, ibE4), (1000008, ibE8)]) 0 (pieceOf Try.f97 1000008) ibE8 ([.sl (.pair (.int .i64) (.pair (.int .i64) (.pair (.int .i64) (.pair (.int .i64) (.pair .str (.pair (.int .i64) .unit)))))) l, .i .i64 (i : Int), .ptr 0 0], [some (.box [.i .i64 c, .i .i64 kd, .i .i64 no, .i .i64 nm, .s tx, .i .i64 to])]) = some ((.ret : Ex), (([.ref 0 0 ((bet8 l i).getD []).length, .b (bet8 l i).isSome] : List V), [some (.row false none (.pair (.int .i64) (.pair (.int .i64) (.pair (.int .i64) (.pair (.int .i64) (.pair .str (.pair (.int .i64) .unit)))))) ((bet8 l i).getD []))])) := by
  rw [ib8_tree]
  have hlen := (goodPB_iff.1 hg).1
  have ho := (goodPB_iff.1 hg).2 i _ (atI_get hi)
  have xc : c = (atI l i).1 := congrArg (fun z : Ins => z.1) hx
  have xno : no = (atI l i).no := congrArg (fun z : Ins => z.2.2.1) hx
  have xnm : nm = (atI l i).num := congrArg (fun z : Ins => z.2.2.2.1) hx
  have xto : to = (atI l i).to := congrArg (fun z : Ins => z.2.2.2.2.2.1) hx
  have W1 : IntKind.i64.wrap ((i : Int) + 1) = ((i + 1 : Nat) : Int) := by rw [wrap_id (by omega) (by omega)]; omega
  have W2 : IntKind.i64.wrap ((i : Int) + 2) = ((i + 2 : Nat) : Int) := by rw [wrap_id (by omega) (by omega)]; omega
  dsimp only [shr]
  simp only [W1, W2, Int.toNat_natCast, nilT_eq]
  by_cases q1 : c = 1
  · rw [ifB_true (beq_iff_eq.2 q1), ifT_true (decide_eq_true (by omega))]
    by_cases q2 : (atI l (i + 1)).1 = 2
    · rw [ifB_true (beq_iff_eq.2 q2), ifT_true (decide_eq_true (by omega))]
      by_cases q3 : (atI l (i + 2)).1 = 1
      · have hk : i + 2 < l.length := atI_lt (by omega)
        rw [ifB_true (beq_iff_eq.2 q3), ifT_true (by simp only [Bool.and_eq_true, decide_eq_true_eq]; omega), atI_get hk, ifSome_s]
        by_cases q4 : (atI l (i + 2)).2.2.1 = no
        · rw [ifB_true (beq_iff_eq.2 q4)]
          cases q5 : ledB l ((i + 1 : Nat) : Int) with
          | false =>
            cases q6 : ledB l ((i + 2 : Nat) : Int) with
            | false =>
              have hb : bet8 l i = some (cutI l (i + 2) 1) := by unfold bet8; rw [if_pos ⟨by omega, q2, q3, by rw [← xno]; exact q4, q5, q6⟩]
              rw [Bool.not_false, ifB_t, ifB_t, ifT_true (by rw [seek_cut hg, decide_eq_true (by omega)]; rfl), hb]
              rfl
            | true =>
              have hb : bet8 l i = none := by unfold bet8; rw [if_neg (fun h => (show ¬ (ledB l ((i + 2 : Nat) : Int) = false) by rw [q6]; simp) h.2.2.2.2.2)]
              rw [hb]; rfl
          | true =>
            have hb : bet8 l i = none := by unfold bet8; rw [if_neg (fun h => (show ¬ (ledB l ((i + 1 : Nat) : Int) = false) by rw [q5]; simp) h.2.2.2.2.1)]
            rw [hb]; rfl
        · have hb : bet8 l i = none := by unfold bet8; rw [if_neg (fun h => q4 (h.2.2.2.1.trans xno.symm))]
          rw [ifB_false (beq_eq_false_iff_ne.2 q4), hb]; rfl
      · have hb : bet8 l i = none := by unfold bet8; rw [if_neg (fun h => q3 h.2.2.1)]
        rw [ifB_false (beq_eq_false_iff_ne.2 q3), hb]; rfl
    · have hb : bet8 l i = none := by unfold bet8; rw [if_neg (fun h => q2 h.2.1)]
      rw [ifB_false (beq_eq_false_iff_ne.2 q2), hb]; rfl
  · have hb : bet8 l i = none := by unfold bet8; rw [if_neg (fun h => q1 (xc.trans h.1))]
    rw [ifB_false (beq_eq_false_iff_ne.2 q1), hb]; rfl
theorem sb9_fun (l : List Ins) (i : Nat) (hg : goodPB l = true) (hi : i < l.length) (c kd no nm : Int) (tx : List UInt8) (to : Int) (hx : (c, kd, no, nm, tx, to, ()) = atI l i) : pieceK Try.prog (look [(149, .rd1 ledG), (150, .rd1 cutG)]) (look [(3000005, sbE5), (3000009, sbE9)]) 0 (pieceOf Try.f98 3000009) sbE9 ([.sl (.pair (.int .i64) (.pair (.int .i64) (.pair (.int .i64) (.pair (.int .i64) (.pair .str (.pair (.int .i64) .unit)))))) l, .i .i64 (i : Int), .i .i64 (l.length : Int), .ptr 0 0], [some (.box [.i .i64 c, .i .i64 kd, .i .i64 no, .i .i64 nm, .s tx, .i .i64 to])]) = (ifB (bet8 l i).isSome (some ((.ret : Ex), (([.ref 0 0 ((bet8 l i).getD []).length, .b true] : List V), [some (.row false none (.pair (.int .i64) (.pair (.int .i64) (.pair (.int .i64) (.pair (.int .i64) (.pair .str (.pair (.int .i64) .unit)))))) ((bet8 l i).getD []))]))) (some (.normal, ([], [])))) := by
  rw [sb9_tree]
  have hlen := (goodPB_iff.1 hg).1
  have ho := (goodPB_iff.1 hg).2 i _ (atI_get hi)
  have xc : c = (atI l i).1 := congrArg (fun z : Ins => z.1) hx
  have xno : no = (atI l i).no := congrArg (fun z : Ins => z.2.2.1) hx
  have xnm : nm = (atI l i).num := congrArg (fun z : Ins => z.2.2.2.1) hx
  have xto : to = (atI l i).to := congrArg (fun z : Ins => z.2.2.2.2.2.1) hx
  have W1 : IntKind.i64.wrap ((i : Int) + 1) = ((i + 1 : Nat) : Int) := by rw [wrap_id (by omega) (by omega)]; omega
  have W2 : IntKind.i64.wrap ((i : Int) + 2) = ((i + 2 : Nat) : Int) := by rw [wrap_id (by omega) (by omega)]; omega
  try dsimp only [shr]
  simp only [W1, W2, Int.toNat_natCast]
  by_cases q1 : c = 1
  · rw [ifB_true (beq_iff_eq.2 q1)]
    by_cases hk : i + 2 < l.length
    · rw [ifB_true (decide_eq_true (by omega)), ifT_true (by simp only [Bool.and_eq_true, decide_eq_true_eq]; omega), atI_get (k := i + 1) (by omega), ifSome_s]
      by_cases q2 : (atI l (i + 1)).1 = 2
      · rw [ifB_true (beq_iff_eq.2 q2), ifT_true (by simp only [Bool.and_eq_true, decide_eq_true_eq]; omega), atI_get hk, ifSome_s]
        have hz := (goodPB_iff.1 hg).2 _ _ (atI_get hk)
        rw [show ((atI l (i + 2)).1 == c && ((atI l (i + 2)).2.1 == kd && ((atI l (i + 2)).2.2.1 == no && ((atI l (i + 2)).2.2.2.1 == nm && ((atI l (i + 2)).2.2.2.2.1 == tx && ((atI l (i + 2)).2.2.2.2.2.1 == to && true)))))) = decide (eqT Ins (atI l (i + 2)) (c, kd, no, nm, tx, to, ())) from ins_eq _ (c, kd, no, nm, tx, to, ())]
        by_cases q3 : eqT Ins (atI l (i + 2)) (c, kd, no, nm, tx, to, ())
        · have q3' : (atI l (i + 2)).1 = 1 := (congrArg (fun z : Ins => z.1) q3).trans q1
          have q4' : (atI l (i + 2)).no = (atI l i).no := (congrArg (fun z : Ins => z.2.2.1) q3).trans xno
          rw [ifB_true (decide_eq_true q3), ifT_true (decide_eq_true (by omega))]
          cases q6 : ledB l ((i + 2 : Nat) : Int) with
          | false =>
            rw [Bool.not_false, ifB_t, ifT_true (decide_eq_true (by omega))]
            cases q5 : ledB l ((i + 1 : Nat) : Int) with
            | false =>
              have hb : bet8 l i = some (cutI l (i + 2) 1) := by unfold bet8; rw [if_pos ⟨by omega, q2, q3', q4', q5, q6⟩]
              rw [Bool.not_false, ifB_t, ifT_true (by rw [seek_cut hg, decide_eq_true (by omega)]; rfl), hb]
              rfl
            | true =>
              have hb : bet8 l i = none := by unfold bet8; rw [if_neg (fun h => (show ¬ (ledB l ((i + 1 : Nat) : Int) = false) by rw [q5]; simp) h.2.2.2.2.1)]
              rw [hb]; rfl
          | true =>
            have hb : bet8 l i = none := by unfold bet8; rw [if_neg (fun h => (show ¬ (ledB l ((i + 2 : Nat) : Int) = false) by rw [q6]; simp) h.2.2.2.2.2)]
            rw [hb]; rfl
        · have hb : bet8 l i = none := by
            unfold bet8
            rw [if_neg (fun h => q3 ?_)]
            have e1 := okI_seek hz h.2.2.1
            have e2 := okI_seek ho h.1
            show atI l (i + 2) = (c, kd, no, nm, tx, to, ())
            rw [hx, e1, e2, h.2.2.2.1]
          rw [ifB_false (decide_eq_false q3), hb]; rfl
      · have hb : bet8 l i = none := by unfold bet8; rw [if_neg (fun h => q2 h.2.1)]
        rw [ifB_false (beq_eq_false_iff_ne.2 q2), hb]; rfl
    · have hb : bet8 l i = none := by unfold bet8; rw [if_neg (fun h => hk (atI_lt (k := i + 2) (by have := h.2.2.1; omega)))]
      rw [ifB_false (decide_eq_false (by omega)), hb]; rfl
  · have hb : bet8 l i = none := by unfold bet8; rw [if_neg (fun h => q1 (xc.trans h.1))]
    rw [ifB_false (beq_eq_false_iff_ne.2 q1), hb]; rfl
theorem ib4_fun (l : List Ins) (i : Nat) (hg : goodPB l = true) (hi : i < l.length) (c kd no nm : Int) (tx : List UInt8) (to : Int) (hx : (c, kd, no, nm, tx, to, ()) = atI l i) : pieceK Try.prog (look [(96, .rd1 cloneInsG), (146, .rd1 codeAtG), (147, .rd1 iledG), (148, .rd1 cutG)]) (look [(1000004, ibE4), (1000008, ibE8)]) 0 (pieceOf Try.f97 1000004) ibE4 ([.sl (.pair (.int .i64) (.pair (.int .i64) (.pair (.int .i64) (.pair (.int .i64) (.pair .str (.pair (.int .i64) .unit)))))) l, .i .i64 (i : Int), .ptr 0 0], [some (.box [.i .i64 c, .i .i64 kd, .i .i64 no, .i .i64 nm, .s tx, .i .i64 to])]) = some ((.ret : Ex), (([.ref 0 0 ((bet4 l i).getD []).length, .b (bet4 l i).isSome] : List V), [some (.row false none (.pair (.int .i64) (.pair (.int .i64) (.pair (.int .i64) (.pair (.int .i64) (.pair .str (.pair (.int .i64) .unit)))))) ((bet4 l i).getD []))])) := by
  rw [ib4_tree]
  have hlen := (goodPB_iff.1 hg).1
  have ho := (goodPB_iff.1 hg).2 i _ (atI_get hi)
  have xc : c = (atI l i).1 := congrArg (fun z : Ins => z.1) hx
  have xno : no = (atI l i).no := congrArg (fun z : Ins => z.2.2.1) hx
  have xnm : nm = (atI l i).num := congrArg (fun z : Ins => z.2.2.2.1) hx
  have xto : to = (atI l i).to := congrArg (fun z : Ins => z.2.2.2.2.2.1) hx
  have W1 : IntKind.i64.wrap ((i : Int) + 1) = ((i + 1 : Nat) : Int) := by rw [wrap_id (by omega) (by omega)]; omega
  have W2 : IntKind.i64.wrap ((i : Int) + 2) = ((i + 2 : Nat) : Int) := by rw [wrap_id (by omega) (by omega)]; omega
  have hr : decide (0 ≤ (i : Int) ∧ (i : Int) < l.length ∧ goodPB l = true ∧ eqT Ins (c, kd, no, nm, tx, to, ()) (atI l (i : Int).toNat)) = true := decide_eq_true (⟨by omega, by omega, hg, hx⟩)
  dsimp only [shr]
  simp only [Int.toNat_natCast] at hr ⊢
  rw [hr, ifT_t]
  by_cases q1 : c = 3
  · obtain ⟨j1, j2, j3⟩ := okI_jump ho (xc.symm.trans q1)
    rw [← xto] at j1 j2
    obtain ⟨t, rfl⟩ := Int.eq_ofNat_of_zero_le (show 0 ≤ to by omega)
    have ht : t < l.length := by omega
    have ett : (atI l i).to.toNat = t := by rw [← xto]; exact Int.toNat_natCast t
    rw [ifB_true (beq_iff_eq.2 q1)]
    simp only [ifT_true (show (decide (0 ≤ (t : Int)) && decide ((t : Int) < (l.length : Int))) = true by simp only [Bool.and_eq_true, decide_eq_true_eq]; omega), Int.toNat_natCast, atI_get ht, ifSome_s]
    by_cases q2 : (atI l t).1 = 3
    · rw [ifB_true (beq_iff_eq.2 q2)]
      by_cases q3 : (atI l t).2.2.2.1 = nm
      · have hb : bet4 l i = some (l.set i (setTo (atI l i) (atI l t).to)) := by unfold bet4; rw [ett, if_pos ⟨by omega, q2, q3.trans xnm⟩]
        rw [ifB_true (beq_iff_eq.2 q3)]
        rw [ifT_true (decide_eq_true (by omega)), ifT_true (by simp only [Bool.and_eq_true, decide_eq_true_eq]; omega), Nat.zero_add, atI_get hi, ifSome_s, hb]
        simp only [Option.getD_some, Option.isSome_some, List.length_set]
        rfl
      · have hb : bet4 l i = bet8 l i := by unfold bet4; rw [ett, if_neg (fun h => q3 (h.2.2.trans xnm.symm))]
        rw [ifB_false (beq_eq_false_iff_ne.2 q3), hb]
    · have hb : bet4 l i = bet8 l i := by unfold bet4; rw [ett, if_neg (fun h => q2 h.2.1)]
      rw [ifB_false (beq_eq_false_iff_ne.2 q2), hb]
  · have hb : bet4 l i = bet8 l i := by unfold bet4; rw [if_neg (fun h => q1 (xc.trans h.1))]
    rw [ifB_false (beq_eq_false_iff_ne.2 q1), hb]
theorem sb5_fun (l : List Ins) (i : Nat) (hg : goodPB l = true) (hi : i < l.length) (c kd no nm : Int) (tx : List UInt8) (to : Int) (hx : (c, kd, no, nm, tx, to, ()) = atI l i) : pieceK Try.prog (look [(149, .rd1 ledG), (150, .rd1 cutG)]) (look [(3000005, sbE5), (3000009, sbE9)]) 0 (pieceOf Try.f98 3000005) sbE5 ([.sl (.pair (.int .i64) (.pair (.int .i64) (.pair (.int .i64) (.pair (.int .i64) (.pair .str (.pair (.int .i64) .unit)))))) l, .i .i64 (i : Int), .i .i64 (l.length : Int), .ptr 0 0], [some (.box [.i .i64 c, .i .i64 kd, .i .i64 no, .i .i64 nm, .s tx, .i .i64 to])]) = (ifB (bet4 l i).isSome (some ((.ret : Ex), (([.ref 0 0 ((bet4 l i).getD []).length, .b true] : List V), [some (.row false none (.pair (.int .i64) (.pair (.int .i64) (.pair (.int .i64) (.pair (.int .i64) (.pair .str (.pair (.int .i64) .unit)))))) ((bet4 l i).getD []))]))) (some (.normal, ([], [])))) := by
  rw [sb5_tree]
  have hlen := (goodPB_iff.1 hg).1
  have ho := (goodPB_iff.1 hg).2 i _ (atI_get hi)
  have xc : c = (atI l i).1 := congrArg (fun z : Ins => z.1) hx
  have xno : no = (atI l i).no := congrArg (fun z : Ins => z.2.2.1) hx
  have xnm : nm = (atI l i).num := congrArg (fun z : Ins => z.2.2.2.1) hx
  have xto : to = (atI l i).to := congrArg (fun z : Ins => z.2.2.2.2.2.1) hx
  have W1 : IntKind.i64.wrap ((i : Int) + 1) = ((i + 1 : Nat) : Int) := by rw [wrap_id (by omega) (by omega)]; omega
  have W2 : IntKind.i64.wrap ((i : Int) + 2) = ((i + 2 : Nat) : Int) := by rw [wrap_id (by omega) (by omega)]; omega
  have hr : decide (0 ≤ (i : Int) ∧ (i : Int) < l.length ∧ goodPB l = true ∧ eqT Ins (c, kd, no, nm, tx, to, ()) (atI l (i : Int).toNat) ∧ (l.length : Int) = l.length) = true := decide_eq_true (⟨by omega, by omega, hg, hx, rfl⟩)
  dsimp only [shr]
  simp only [Int.toNat_natCast] at hr ⊢
  rw [hr, ifT_t]
  by_cases q1 : c = 3
  · obtain ⟨j1, j2, j3⟩ := okI_jump ho (xc.symm.trans q1)
    rw [← xto] at j1 j2
    obtain ⟨t, rfl⟩ := Int.eq_ofNat_of_zero_le (show 0 ≤ to by omega)
    have ht : t < l.length := by omega
    have ett : (atI l i).to.toNat = t := by rw [← xto]; exact Int.toNat_natCast t
    rw [ifB_true (beq_iff_eq.2 q1)]
    simp only [ifT_true (show (decide (0 ≤ (t : Int)) && decide ((t : Int) < (l.length : Int))) = true by simp only [Bool.and_eq_true, decide_eq_true_eq]; omega), Int.toNat_natCast, atI_get ht, ifSome_s]
    by_cases q2 : (atI l t).1 = 3
    · rw [ifB_true (beq_iff_eq.2 q2)]
      by_cases q3 : (atI l t).2.2.2.1 = nm
      · have hb : bet4 l i = some (l.set i (setTo (atI l i) (atI l t).to)) := by unfold bet4; rw [ett, if_pos ⟨by omega, q2, q3.trans xnm⟩]
        rw [ifB_true (beq_iff_eq.2 q3)]
        have hM : maxI = 9223372036854775807 := rfl
        rw [ifT_true (by simp only [Bool.and_eq_true, decide_eq_true_eq]; omega), Nat.zero_add, ifT_true (by simp only [Bool.and_eq_true, decide_eq_true_eq]; omega), Nat.zero_add, nilT_eq, List.nil_append, atI_get hi, ifSome_s, hb]
        simp only [Option.getD_some, Option.isSome_some, List.length_set, ifB_t]
        rfl
      · have hb : bet4 l i = bet8 l i := by unfold bet4; rw [ett, if_neg (fun h => q3 (h.2.2.trans xnm.symm))]
        rw [ifB_false (beq_eq_false_iff_ne.2 q3), hb]
    · have hb : bet4 l i = bet8 l i := by unfold bet4; rw [ett, if_neg (fun h => q2 h.2.1)]
      rw [ifB_false (beq_eq_false_iff_ne.2 q2), hb]
  · have hb : bet4 l i = bet8 l i := by unfold bet4; rw [if_neg (fun h => q1 (xc.trans h.1))]
    rw [ifB_false (beq_eq_false_iff_ne.2 q1), hb]
theorem betB_of4 (l : List Ins) (i : Nat) (h : ¬ ((atI l i).1 = 4 ∧ (atI l (i + 1)).1 = 4 ∧ ledB l ((i + 1 : Nat) : Int) = false)) : betB l i = bet4 l i := by
  unfold betB
  rw [if_neg h]
  rfl
theorem ib8_ok : ∀ d e d', (ibE8.L d).run = some (e, d') → pieceK Try.prog (look [(96, .rd1 cloneInsG), (146, .rd1 codeAtG), (147, .rd1 iledG), (148, .rd1 cutG)]) (look [(1000004, ibE4), (1000008, ibE8)]) 0 (pieceOf Try.f97 1000008) ibE8 d = some (e, d') := fun d e d' h => by
  unfold ibE8 at h
  dsimp only at h
  split at h
  · rename_i l i c kd no nm tx to
    obtain ⟨hc, hx⟩ := need_some h
    obtain ⟨h0, h1, h2, h3⟩ := of_decide_eq_true hc
    obtain ⟨i, rfl⟩ := Int.eq_ofNat_of_zero_le h0
    refine (ib8_fun l i h2 (by omega) c kd no nm tx to (by simpa only [Int.toNat_natCast] using h3)).trans ?_
    simp only [Int.toNat_natCast] at hx
    exact hx
  · cases h
theorem ib4_ok : ∀ d e d', (ibE4.L d).run = some (e, d') → pieceK Try.prog (look [(96, .rd1 cloneInsG), (146, .rd1 codeAtG), (147, .rd1 iledG), (148, .rd1 cutG)]) (look [(1000004, ibE4), (1000008, ibE8)]) 0 (pieceOf Try.f97 1000004) ibE4 d = some (e, d') := fun d e d' h => by
  unfold ibE4 at h
  dsimp only at h
  split at h
  · rename_i l i c kd no nm tx to
    obtain ⟨hc, hx⟩ := need_some h
    obtain ⟨h0, h1, h2, h3⟩ := of_decide_eq_true hc
    obtain ⟨i, rfl⟩ := Int.eq_ofNat_of_zero_le h0
    refine (ib4_fun l i h2 (by omega) c kd no nm tx to (by simpa only [Int.toNat_natCast] using h3)).trans ?_
    simp only [Int.toNat_natCast] at hx
    exact hx
  · cases h
theorem sb9_ok : ∀ d e d', (sbE9.L d).run = some (e, d') → pieceK Try.prog (look [(149, .rd1 ledG), (150, .rd1 cutG)]) (look [(3000005, sbE5), (3000009, sbE9)]) 0 (pieceOf Try.f98 3000009) sbE9 d = some (e, d') := fun d e d' h => by
  unfold sbE9 at h
  dsimp only at h
  split at h
  · rename_i l i nn c kd no nm tx to
    obtain ⟨hc, hx⟩ := need_some h
    obtain ⟨h0, h1, h2, h3, rfl⟩ := of_decide_eq_true hc
    obtain ⟨i, rfl⟩ := Int.eq_ofNat_of_zero_le h0
    refine (sb9_fun l i h2 (by omega) c kd no nm tx to (by simpa only [Int.toNat_natCast] using h3)).trans ?_
    simp only [Int.toNat_natCast] at hx
    rw [← hx]; cases (bet8 l i).isSome <;> rfl
  · cases h
theorem sb5_ok : ∀ d e d', (sbE5.L d).run = some (e, d') → pieceK Try.prog (look [(149, .rd1 ledG), (150, .rd1 cutG)]) (look [(3000005, sbE5), (3000009, sbE9)]) 0 (pieceOf Try.f98 3000005) sbE5 d = some (e, d') := fun d e d' h => by
  unfold sbE5 at h
  dsimp only at h
  split at h
  · rename_i l i nn c kd no nm tx to
    obtain ⟨hc, hx⟩ := need_some h
    obtain ⟨h0, h1, h2, h3, rfl⟩ := of_decide_eq_true hc
    obtain ⟨i, rfl⟩ := Int.eq_ofNat_of_zero_le h0
    refine (sb5_fun l i h2 (by omega) c kd no nm tx to (by simpa only [Int.toNat_natCast] using h3)).trans ?_
    simp only [Int.toNat_natCast] at hx
    rw [← hx]; cases (bet4 l i).isSome <;> rfl
  · cases h
theorem ibet_fun (l : List Ins) (i : Nat) (hg : goodPB l = true) (hi : i < l.length) : funC Try.prog (look [(96, .rd1 cloneInsG), (146, .rd1 codeAtG), (147, .rd1 iledG), (148, .rd1 cutG)]) (look [(1000004, ibE4), (1000008, ibE8)]) Try.f97 [.sl (.pair (.int .i64) (.pair (.int .i64) (.pair (.int .i64) (.pair (.int .i64) (.pair .str (.pair (.int .i64) .unit)))))) l, .i .i64 (i : Int)] [] = some (.tup [.ref 0 0 (betL l i).length, .b (betB l i).isSome], [some (.row false none (.pair (.int .i64) (.pair (.int .i64) (.pair (.int .i64) (.pair (.int .i64) (.pair .str (.pair (.int .i64) .unit)))))) (betL l i))]) := by
  rw [ibet_tree]
  have hlen := (goodPB_iff.1 hg).1
  have W1 : IntKind.i64.wrap ((i : Int) + 1) = ((i + 1 : Nat) : Int) := by rw [wrap_id (by omega) (by omega)]; omega
  dsimp only [shr]
  unfold betL
  rw [ifT_true (by simp only [Bool.and_eq_true, decide_eq_true_eq]; omega), Int.toNat_natCast, atI_get hi, ifSome_s, W1]
  have hneed : decide (0 ≤ (i : Int) ∧ (i : Int) < (l.length : Int) ∧ goodPB l = true ∧ eqT Ins ((atI l i).1, (atI l i).2.1, (atI l i).2.2.1, (atI l i).2.2.2.1, (atI l i).2.2.2.2.1, (atI l i).2.2.2.2.2.1, ()) (atI l i)) = true := decide_eq_true ⟨by omega, by omega, hg, rfl⟩
  rw [hneed, ifT_t]
  by_cases q1 : (atI l i).1 = 4
  · rw [ifB_true (beq_iff_eq.2 q1), ifT_true (decide_eq_true (by omega)), Int.toNat_natCast]
    by_cases q2 : (atI l (i + 1)).1 = 4
    · have hk : i + 1 < l.length := atI_lt (by omega)
      rw [ifB_true (beq_iff_eq.2 q2)]
      cases q3 : ledB l ((i + 1 : Nat) : Int) with
      | false =>
        have hb : betB l i = some (cutI l i 2) := by unfold betB; rw [if_pos ⟨q1, q2, q3⟩]
        rw [Bool.not_false, ifB_t, ifT_true (by rw [flip_cut hg q3, decide_eq_true (by omega)]; rfl), hb]
        rfl
      | true =>
        rw [betB_of4 l i (fun h => by rw [q3] at h; exact absurd h.2.2 (by simp))]; rfl
    · rw [ifB_false (beq_eq_false_iff_ne.2 q2), betB_of4 l i (fun h => q2 h.2.1)]; all_goals rfl
  · rw [ifB_false (beq_eq_false_iff_ne.2 q1), betB_of4 l i (fun h => q1 h.1)]; all_goals rfl
theorem ibet : Contract Try.prog 97 (Ent.rd1 betG).F := by
  refine fun_contractC' (KnowsL.cons (enters_fn Try.func96 (by kernel_rfl) (by kernel_rfl)) cloneIns (KnowsL.cons (enters_fn Try.func146 (by kernel_rfl) (by kernel_rfl)) codeAt (KnowsL.cons (enters_fn Try.func147 (by kernel_rfl) (by kernel_rfl)) iled (KnowsL.cons (enters_fn Try.func148 (by kernel_rfl) (by kernel_rfl)) iCut KnowsL.nil)))).knows (Λ := (look [(1000004, ibE4), (1000008, ibE8)])) Try.func97 (c := Try.f97.body.getD .skip) (by kernel_rfl) fun vs bs r hq hv hb => ?_
  unfold Ent.F betG at hq
  dsimp only at hq
  split at hq
  · rename_i l i
    obtain ⟨hc, hx⟩ := need_some hq
    obtain ⟨h0, h1, h2⟩ := of_decide_eq_true hc
    obtain ⟨i, rfl⟩ := Int.eq_ofNat_of_zero_le h0
    refine ⟨CutsI.loops (cs := [(pieceOf Try.f97 1000004, ibE4), (pieceOf Try.f97 1000008, ibE8)]) (.cons ib4_ok (.cons ib8_ok .nil)) .nil (by kernel_rfl) (by kernel_rfl), (ibet_fun l i h2 (by omega)).trans ?_⟩
    simp only [Int.toNat_natCast] at hx
    exact hx
  · cases hq
theorem sbet_fun (l : List Ins) (i : Nat) (hg : goodPB l = true) (hi : i < l.length) : funC Try.prog (look [(149, .rd1 ledG), (150, .rd1 cutG)]) (look [(3000005, sbE5), (3000009, sbE9)]) Try.f98 [.sl (.pair (.int .i64) (.pair (.int .i64) (.pair (.int .i64) (.pair (.int .i64) (.pair .str (.pair (.int .i64) .unit)))))) l, .i .i64 (i : Int)] [] = some (.tup [.ref 0 0 (betL l i).length, .b (betB l i).isSome], [some (.row false none (.pair (.int .i64) (.pair (.int .i64) (.pair (.int .i64) (.pair (.int .i64) (.pair .str (.pair (.int .i64) .unit)))))) (betL l i))]) := by
  rw [sbet_tree]
  have hlen := (goodPB_iff.1 hg).1
  have W1 : IntKind.i64.wrap ((i : Int) + 1) = ((i + 1 : Nat) : Int) := by rw [wrap_id (by omega) (by omega)]; omega
  dsimp only [shr]
  unfold betL
  rw [ifT_true (by simp only [Bool.and_eq_true, decide_eq_true_eq]; omega), Int.toNat_natCast, atI_get hi, ifSome_s, W1]
  have hneed : decide (0 ≤ (i : Int) ∧ (i : Int) < (l.length : Int) ∧ goodPB l = true ∧ eqT Ins ((atI l i).1, (atI l i).2.1, (atI l i).2.2.1, (atI l i).2.2.2.1, (atI l i).2.2.2.2.1, (atI l i).2.2.2.2.2.1, ()) (atI l i) ∧ (l.length : Int) = l.length) = true := decide_eq_true ⟨by omega, by omega, hg, rfl, rfl⟩
  rw [hneed]
  simp only [ifT_t]
  have fin : betB l i = bet4 l i → ifB (bet4 l i).isSome (some ((V.tup [.ref 0 0 ((bet4 l i).getD []).length, .b true], [some (.row false none (.pair (.int .i64) (.pair (.int .i64) (.pair (.int .i64) (.pair (.int .i64) (.pair .str (.pair (.int .i64) .unit)))))) ((bet4 l i).getD []))]) : V × List (Option Blk))) (some (.tup [.ref 0 0 0, .b false], [some (.row false none (.pair (.int .i64) (.pair (.int .i64) (.pair (.int .i64) (.pair (.int .i64) (.pair .str (.pair (.int .i64) .unit)))))) [])])) = some (.tup [.ref 0 0 ((betB l i).getD []).length, .b (betB l i).isSome], [some (.row false none (.pair (.int .i64) (.pair (.int .i64) (.pair (.int .i64) (.pair (.int .i64) (.pair .str (.pair (.int .i64) .unit)))))) ((betB l i).getD []))]) := fun h => by
    rw [h]; cases bet4 l i <;> rfl
  by_cases q1 : (atI l i).1 = 4
  · rw [ifB_true (beq_iff_eq.2 q1)]
    by_cases hk : i + 1 < l.length
    · rw [ifB_true (decide_eq_true (by omega)), ifT_true (by simp only [Bool.and_eq_true, decide_eq_true_eq]; omega), Int.toNat_natCast, atI_get hk, ifSome_s]
      by_cases q2 : (atI l (i + 1)).1 = 4
      · rw [ifB_true (beq_iff_eq.2 q2), ifT_true (decide_eq_true (by omega))]
        cases q3 : ledB l ((i + 1 : Nat) : Int) with
        | false =>
          have hb : betB l i = some (cutI l i 2) := by unfold betB; rw [if_pos ⟨q1, q2, q3⟩]
          rw [Bool.not_false, ifB_t, ifT_true (by rw [flip_cut hg q3, decide_eq_true (by omega)]; rfl), hb]
          rfl
        | true => exact fin (betB_of4 l i (fun h => by rw [q3] at h; exact absurd h.2.2 (by simp)))
      · rw [ifB_false (beq_eq_false_iff_ne.2 q2)]; exact fin (betB_of4 l i (fun h => q2 h.2.1))
    · rw [ifB_false (decide_eq_false (by omega))]; exact fin (betB_of4 l i (fun h => hk (atI_lt (by omega))))
  · rw [ifB_false (beq_eq_false_iff_ne.2 q1)]; exact fin (betB_of4 l i (fun h => q1 h.1))
theorem sbet : Contract Try.prog 98 (Ent.rd1 betG).F := by
  refine fun_contractC' (KnowsL.cons (enters_fn Try.func149 (by kernel_rfl) (by kernel_rfl)) sled (KnowsL.cons (enters_fn Try.func150 (by kernel_rfl) (by kernel_rfl)) sCut KnowsL.nil)).knows (Λ := (look [(3000005, sbE5), (3000009, sbE9)])) Try.func98 (c := Try.f98.body.getD .skip) (by kernel_rfl) fun vs bs r hq hv hb => ?_
  unfold Ent.F betG at hq
  dsimp only at hq
  split at hq
  · rename_i l i
    obtain ⟨hc, hx⟩ := need_some hq
    obtain ⟨h0, h1, h2⟩ := of_decide_eq_true hc
    obtain ⟨i, rfl⟩ := Int.eq_ofNat_of_zero_le h0
    refine ⟨CutsI.loops (cs := [(pieceOf Try.f98 3000005, sbE5), (pieceOf Try.f98 3000009, sbE9)]) (.cons sb5_ok (.cons sb9_ok .nil)) .nil (by kernel_rfl) (by kernel_rfl), (sbet_fun l i h2 (by omega)).trans ?_⟩
    simp only [Int.toNat_natCast] at hx
    exact hx
  · cases hq

def peepB (l : List Ins) : List Ins := bif goodPB l then peep l 0 else []
def peepG : List V → List Blk → Br (V × List (Option Blk))
  | [.agg [.sl (.pair (.int .i64) (.pair (.int .i64) (.pair (.int .i64) (.pair (.int .i64) (.pair .str (.pair (.int .i64) .unit)))))) l]], [] => .need (decide (l.length ≤ 8000000)) (.leaf (.tup [.agg [.ref 0 0 (peepB l).length], .b (goodPB l)], [some (.row false none (.pair (.int .i64) (.pair (.int .i64) (.pair (.int .i64) (.pair (.int .i64) (.pair .str (.pair (.int .i64) .unit)))))) (peepB l))]))
  | _, _ => .no
def ipeE : LoopEnt := ⟨31, [2,4,5], [2,4], [], fun
  | ([.ptr 0 0, .ref 1 0 n, .i .i64 i], [some (.box [.ref 2 0 0]), some (.row false none (.pair (.int .i64) (.pair (.int .i64) (.pair (.int .i64) (.pair (.int .i64) (.pair .str (.pair (.int .i64) .unit)))))) l), some (.row false none (.pair (.int .i64) (.pair (.int .i64) (.pair (.int .i64) (.pair (.int .i64) (.pair .str (.pair (.int .i64) .unit)))))) [])]) => .need (decide (0 ≤ i ∧ i.toNat ≤ l.length ∧ n = l.length ∧ goodPB l = true)) (.leaf (.exit 0, ([.ptr 0 0, .ref 1 0 (peep l i.toNat).length], [some (.box [.ref 2 0 0]), some (.row false none (.pair (.int .i64) (.pair (.int .i64) (.pair (.int .i64) (.pair (.int .i64) (.pair .str (.pair (.int .i64) .unit)))))) (peep l i.toNat)), some (.row false none (.pair (.int .i64) (.pair (.int .i64) (.pair (.int .i64) (.pair (.int .i64) (.pair .str (.pair (.int .i64) .unit)))))) [])])))
  | _ => .no⟩
def speE : LoopEnt := ⟨33, [2,4,5], [2,4], [], fun
  | ([.ptr 0 0, .ref 1 0 n, .i .i64 i], [some (.box [.ref 2 0 0]), some (.row false none (.pair (.int .i64) (.pair (.int .i64) (.pair (.int .i64) (.pair (.int .i64) (.pair .str (.pair (.int .i64) .unit)))))) l), some (.row false none (.pair (.int .i64) (.pair (.int .i64) (.pair (.int .i64) (.pair (.int .i64) (.pair .str (.pair (.int .i64) .unit)))))) [])]) => .need (decide (0 ≤ i ∧ i.toNat ≤ l.length ∧ n = l.length ∧ goodPB l = true)) (.leaf (.exit 0, ([.ptr 0 0, .ref 1 0 (peep l i.toNat).length], [some (.box [.ref 2 0 0]), some (.row false none (.pair (.int .i64) (.pair (.int .i64) (.pair (.int .i64) (.pair (.int .i64) (.pair .str (.pair (.int .i64) .unit)))))) (peep l i.toNat)), some (.row false none (.pair (.int .i64) (.pair (.int .i64) (.pair (.int .i64) (.pair (.int .i64) (.pair .str (.pair (.int .i64) .unit)))))) [])])))
  | _ => .no⟩

theorem ipe_round (n : Nat) (l : List Ins) (i : Int) : roundK Try.prog (look [(96, .rd1 cloneInsG), (35, .rd1 goodPG), (97, .rd1 betG)]) (look [(5, ipeE)]) 0 (body Try.f30 0) ipeE ([.ptr 0 0, .ref 1 0 n, .i .i64 i], [some (.box [.ref 2 0 0]), some (.row false none (.pair (.int .i64) (.pair (.int .i64) (.pair (.int .i64) (.pair (.int .i64) (.pair .str (.pair (.int .i64) .unit)))))) l), some (.row false none (.pair (.int .i64) (.pair (.int .i64) (.pair (.int .i64) (.pair (.int .i64) (.pair .str (.pair (.int .i64) .unit)))))) [])]) =
  ((shr (nilT ((Cd.int .i64).pair ((Cd.int .i64).pair ((Cd.int .i64).pair ((Cd.int .i64).pair (Cd.str.pair ((Cd.int .i64).pair Cd.unit)))))).den) fun sh2 => shr (List.take n
 (List.drop (0 : Nat) l)) fun sh1 => ifB (decide (i < (↑n : Int))) (ifT (decide ((0 : Int) ≤ i ∧ i < (↑sh1.length : Int) ∧ goodPB sh1 = true)) (ifB (betB sh1
 i.toNat).isSome (some (Ex.normal, [V.ptr 0 0, V.ref 1 0 (betL sh1 i.toNat).length, V.i .i64 (IntKind.i64.wrap (0 : Int))], [some (Blk.box [V.ref 2 0 0]), some (Blk.row
 false none ((Cd.int .i64).pair ((Cd.int .i64).pair ((Cd.int .i64).pair ((Cd.int .i64).pair (Cd.str.pair ((Cd.int .i64).pair Cd.unit)))))) (betL sh1 i.toNat)), some
 (Blk.row false none ((Cd.int .i64).pair ((Cd.int .i64).pair ((Cd.int .i64).pair ((Cd.int .i64).pair (Cd.str.pair ((Cd.int .i64).pair Cd.unit)))))) sh2)])) (some
 (Ex.normal, [V.ptr 0 0, V.ref 1 0 n, V.i .i64 (IntKind.i64.wrap (i + (1 : Int)))], [some (Blk.box [V.ref 2 0 0]), some (Blk.row false none ((Cd.int .i64).pair ((Cd.int
 .i64).pair ((Cd.int .i64).pair ((Cd.int .i64).pair (Cd.str.pair ((Cd.int .i64).pair Cd.unit)))))) l), some (Blk.row false none ((Cd.int .i64).pair ((Cd.int .i64).pair
 ((Cd.int .i64).pair ((Cd.int .i64).pair (Cd.str.pair ((Cd.int .i64).pair Cd.unit)))))) sh2)])))) (some (Ex.exit 0, [V.ptr 0 0, V.ref 1 0 n], [some (Blk.box [V.ref 2 0
 0]), some (Blk.row false none ((Cd.int .i64).pair ((Cd.int .i64).pair ((Cd.int .i64).pair ((Cd.int .i64).pair (Cd.str.pair ((Cd.int .i64).pair Cd.unit)))))) l), some
 (Blk.row false none ((Cd.int .i64).pair ((Cd.int .i64).pair ((Cd.int .i64).pair ((Cd.int .i64).pair (Cd.str.pair ((Cd.int .i64).pair Cd.unit)))))) sh2)]))) : _) := by kernel_rfl
theorem ipe_tree (l : List Ins) : funC Try.prog (look [(96, .rd1 cloneInsG), (35, .rd1 goodPG), (97, .rd1 betG)]) (look [(5, ipeE)]) Try.f30 [.agg [.sl (.pair (.int .i64) (.pair (.int .i64) (.pair (.int .i64) (.pair (.int .i64) (.pair .str (.pair (.int .i64) .unit)))))) l]] [] =
  ((ifB (!goodPB l) (some (V.tup [V.agg [V.ref 0 0 0], V.b false], [some (Blk.row false none ((Cd.int .i64).pair ((Cd.int .i64).pair ((Cd.int .i64).pair ((Cd.int .i64).pair
 (Cd.str.pair ((Cd.int .i64).pair Cd.unit)))))) (nilT ((Cd.int .i64).pair ((Cd.int .i64).pair ((Cd.int .i64).pair ((Cd.int .i64).pair (Cd.str.pair ((Cd.int .i64).pair
 Cd.unit)))))).den))])) (ifT (decide (l.length ≤ (1000000000 : Nat))) (ifT (decide ((0 : Int) ≤ (0 : Int) ∧ (0 : Nat) ≤ l.length ∧ l.length = l.length ∧ goodPB l = true))
 (some (V.tup [V.agg [V.ref 0 0 (peep l (0 : Nat)).length], V.b true], [some (Blk.row false none ((Cd.int .i64).pair ((Cd.int .i64).pair ((Cd.int .i64).pair ((Cd.int
 .i64).pair (Cd.str.pair ((Cd.int .i64).pair Cd.unit)))))) (peep l (0 : Nat)))]))))) : _) := by kernel_rfl
theorem spe_round (n : Nat) (l : List Ins) (i : Int) : roundK Try.prog (look [(94, .rd1 goodPG), (98, .rd1 betG)]) (look [(5, speE)]) 0 (body Try.f31 0) speE ([.ptr 0 0, .ref 1 0 n, .i .i64 i], [some (.box [.ref 2 0 0]), some (.row false none (.pair (.int .i64) (.pair (.int .i64) (.pair (.int .i64) (.pair (.int .i64) (.pair .str (.pair (.int .i64) .unit)))))) l), some (.row false none (.pair (.int .i64) (.pair (.int .i64) (.pair (.int .i64) (.pair (.int .i64) (.pair .str (.pair (.int .i64) .unit)))))) [])]) =
  ((shr (nilT ((Cd.int .i64).pair ((Cd.int .i64).pair ((Cd.int .i64).pair ((Cd.int .i64).pair (Cd.str.pair ((Cd.int .i64).pair Cd.unit)))))).den) fun sh2 => shr (List.take n
 (List.drop (0 : Nat) l)) fun sh1 => ifB (decide (i < (↑n : Int))) (ifT (decide ((0 : Int) ≤ i ∧ i < (↑sh1.length : Int) ∧ goodPB sh1 = true)) (ifB (!(betB sh1
 i.toNat).isSome) (some (Ex.normal, [V.ptr 0 0, V.ref 1 0 n, V.i .i64 (IntKind.i64.wrap (i + (1 : Int)))], [some (Blk.box [V.ref 2 0 0]), some (Blk.row false none ((Cd.int
 .i64).pair ((Cd.int .i64).pair ((Cd.int .i64).pair ((Cd.int .i64).pair (Cd.str.pair ((Cd.int .i64).pair Cd.unit)))))) l), some (Blk.row false none ((Cd.int .i64).pair
 ((Cd.int .i64).pair ((Cd.int .i64).pair ((Cd.int .i64).pair (Cd.str.pair ((Cd.int .i64).pair Cd.unit)))))) sh2)])) (some (Ex.normal, [V.ptr 0 0, V.ref 1 0 (betL sh1
 i.toNat).length, V.i .i64 0], [some (Blk.box [V.ref 2 0 0]), some (Blk.row false none ((Cd.int .i64).pair ((Cd.int .i64).pair ((Cd.int .i64).pair ((Cd.int .i64).pair
 (Cd.str.pair ((Cd.int .i64).pair Cd.unit)))))) (betL sh1 i.toNat)), some (Blk.row false none ((Cd.int .i64).pair ((Cd.int .i64).pair ((Cd.int .i64).pair ((Cd.int
 .i64).pair (Cd.str.pair ((Cd.int .i64).pair Cd.unit)))))) sh2)])))) (some (Ex.exit 0, [V.ptr 0 0, V.ref 1 0 n], [some (Blk.box [V.ref 2 0 0]), some (Blk.row false none
 ((Cd.int .i64).pair ((Cd.int .i64).pair ((Cd.int .i64).pair ((Cd.int .i64).pair (Cd.str.pair ((Cd.int .i64).pair Cd.unit)))))) l), some (Blk.row false none ((Cd.int
 .i64).pair ((Cd.int .i64).pair ((Cd.int .i64).pair ((Cd.int .i64).pair (Cd.str.pair ((Cd.int .i64).pair Cd.unit)))))) sh2)]))) : _) := by kernel_rfl
theorem spe_tree (l : List Ins) : funC Try.prog (look [(94, .rd1 goodPG), (98, .rd1 betG)]) (look [(5, speE)]) Try.f31 [.agg [.sl (.pair (.int .i64) (.pair (.int .i64) (.pair (.int .i64) (.pair (.int .i64) (.pair .str (.pair (.int .i64) .unit)))))) l]] [] =
  ((shr (nilT ((Cd.int .i64).pair ((Cd.int .i64).pair ((Cd.int .i64).pair ((Cd.int .i64).pair (Cd.str.pair ((Cd.int .i64).pair Cd.unit)))))).den ++ l) fun sh1 => ifB (!goodPB
 l) (some (V.tup [V.agg [V.ref 0 0 0], V.b false], [some (Blk.row false none ((Cd.int .i64).pair ((Cd.int .i64).pair ((Cd.int .i64).pair ((Cd.int .i64).pair (Cd.str.pair
 ((Cd.int .i64).pair Cd.unit)))))) (nilT ((Cd.int .i64).pair ((Cd.int .i64).pair ((Cd.int .i64).pair ((Cd.int .i64).pair (Cd.str.pair ((Cd.int .i64).pair
 Cd.unit)))))).den))])) (ifT (decide (((0 : Nat) + l.length) * (56 : Nat) ≤ (140737488355328 : Nat)) && decide ((0 : Nat) + l.length ≤ maxI)) (ifT (decide ((0 : Int) ≤ (0
 : Int) ∧ (0 : Nat) ≤ sh1.length ∧ (0 : Nat) + l.length = sh1.length ∧ goodPB sh1 = true)) (some (V.tup [V.agg [V.ref 0 0 (peep sh1 (0 : Nat)).length], V.b true], [some
 (Blk.row false none ((Cd.int .i64).pair ((Cd.int .i64).pair ((Cd.int .i64).pair ((Cd.int .i64).pair (Cd.str.pair ((Cd.int .i64).pair Cd.unit)))))) (peep sh1 (0 :
 Nat)))]))))) : _) := by kernel_rfl
theorem ipe_rd (l : List Ins) (hg : goodPB l = true) (i : Nat) (hi : i < l.length) : roundK Try.prog (look [(96, .rd1 cloneInsG), (35, .rd1 goodPG), (97, .rd1 betG)]) (look [(5, ipeE)]) 0 (body Try.f30 0) ipeE ([.ptr 0 0, .ref 1 0 l.length, .i .i64 (i : Int)], [some (.box [.ref 2 0 0]), some (.row false none (.pair (.int .i64) (.pair (.int .i64) (.pair (.int .i64) (.pair (.int .i64) (.pair .str (.pair (.int .i64) .unit)))))) l), some (.row false none (.pair (.int .i64) (.pair (.int .i64) (.pair (.int .i64) (.pair (.int .i64) (.pair .str (.pair (.int .i64) .unit)))))) [])]) = (match betB l i with | some l' => some ((.normal : Ex), (([.ptr 0 0, .ref 1 0 l'.length, .i .i64 ((0 : Nat) : Int)], [some (.box [.ref 2 0 0]), some (.row false none (.pair (.int .i64) (.pair (.int .i64) (.pair (.int .i64) (.pair (.int .i64) (.pair .str (.pair (.int .i64) .unit)))))) l'), some (.row false none (.pair (.int .i64) (.pair (.int .i64) (.pair (.int .i64) (.pair (.int .i64) (.pair .str (.pair (.int .i64) .unit)))))) [])]) : Dt)) | none => some (.normal, ([.ptr 0 0, .ref 1 0 l.length, .i .i64 ((i + 1 : Nat) : Int)], [some (.box [.ref 2 0 0]), some (.row false none (.pair (.int .i64) (.pair (.int .i64) (.pair (.int .i64) (.pair (.int .i64) (.pair .str (.pair (.int .i64) .unit)))))) l), some (.row false none (.pair (.int .i64) (.pair (.int .i64) (.pair (.int .i64) (.pair (.int .i64) (.pair .str (.pair (.int .i64) .unit)))))) [])]))) := by
  rw [ipe_round]
  have hlen := (goodPB_iff.1 hg).1
  have W1 : IntKind.i64.wrap ((i : Int) + 1) = ((i + 1 : Nat) : Int) := by rw [wrap_id (by omega) (by omega)]; omega
  dsimp only [shr]
  rw [List.drop_zero, List.take_length, ifB_true (decide_eq_true (by omega)), ifT_true (decide_eq_true ⟨by omega, by omega, hg⟩), Int.toNat_natCast, W1]
  unfold betL
  cases betB l i with
  | none => rfl
  | some l' => rfl
theorem ipe_loop (N : Nat) : ∀ (l : List Ins) (i : Nat), goodPB l = true → measI l i ≤ N → Runs Try.prog (look [(96, .rd1 cloneInsG), (35, .rd1 goodPG), (97, .rd1 betG)]) (look [(5, ipeE)]) 0 (body Try.f30 0) ipeE ([.ptr 0 0, .ref 1 0 l.length, .i .i64 (i : Int)], [some (.box [.ref 2 0 0]), some (.row false none (.pair (.int .i64) (.pair (.int .i64) (.pair (.int .i64) (.pair (.int .i64) (.pair .str (.pair (.int .i64) .unit)))))) l), some (.row false none (.pair (.int .i64) (.pair (.int .i64) (.pair (.int .i64) (.pair (.int .i64) (.pair .str (.pair (.int .i64) .unit)))))) [])]) (.exit 0) ([.ptr 0 0, .ref 1 0 (peep l i).length], [some (.box [.ref 2 0 0]), some (.row false none (.pair (.int .i64) (.pair (.int .i64) (.pair (.int .i64) (.pair (.int .i64) (.pair .str (.pair (.int .i64) .unit)))))) (peep l i)), some (.row false none (.pair (.int .i64) (.pair (.int .i64) (.pair (.int .i64) (.pair (.int .i64) (.pair .str (.pair (.int .i64) .unit)))))) [])]) := by
  induction N with
  | zero =>
    intro l i hg hn
    have q2 := (goodPB_iff.1 hg).1
    unfold measI at hn
    omega
  | succ N ih =>
    intro l i hg hn
    by_cases hi : i < l.length
    · have hr := ipe_rd l hg i hi
      cases hb : betB l i with
      | some l' =>
        rw [hb] at hr
        rw [peep_yes hg hi hb]
        have hm := betB_meas hg hb
        exact .step _ _ _ _ hr (ih l' 0 (betB_good hg hb).1 (by omega))
      | none =>
        rw [hb] at hr
        rw [peep_no hg hi hb]
        have hm : measI l (i + 1) < measI l i := by unfold measI; omega
        exact .step _ _ _ _ hr (ih l (i + 1) hg (by omega))
    · have hr := ipe_round l.length l i
      dsimp only [shr] at hr
      rw [ifB_false (decide_eq_false (by omega))] at hr
      rw [peep_end (by omega)]
      exact .stop _ _ _ hr (by simp)
theorem ipe_ok : LoopsOk Try.prog (look [(96, .rd1 cloneInsG), (35, .rd1 goodPG), (97, .rd1 betG)]) (look [(5, ipeE)]) 0 (Try.f30.body.getD .skip) := by
  refine loopsOk_one (a := body Try.f30 0) (by kernel_rfl) fun d ex d' h => ?_
  unfold ipeE at h
  dsimp only at h
  split at h
  · rename_i n i l
    obtain ⟨hc, hx⟩ := need_some h
    obtain ⟨h0, h1, rfl, h3⟩ := of_decide_eq_true hc
    obtain ⟨i, rfl⟩ := Int.eq_ofNat_of_zero_le h0
    simp only [Int.toNat_natCast] at hx
    have hx := leaf_some hx
    obtain ⟨rfl, rfl⟩ := Prod.mk.inj hx
    exact ipe_loop _ l i h3 (Nat.le_refl _)
  · cases h
theorem ipeep : Contract Try.prog 30 (Ent.rd1 peepG).F := by
  refine fun_contractC' (KnowsL.cons (enters_fn Try.func96 (by kernel_rfl) (by kernel_rfl)) cloneIns (KnowsL.cons (enters_fn Try.func35 (by kernel_rfl) (by kernel_rfl)) igoodP (KnowsL.cons (enters_fn Try.func97 (by kernel_rfl) (by kernel_rfl)) ibet KnowsL.nil))).knows (Λ := (look [(5, ipeE)])) Try.func30 (c := Try.f30.body.getD .skip) (by kernel_rfl) fun vs bs r hq hv hb => ?_
  unfold Ent.F peepG at hq
  dsimp only at hq
  split at hq
  · rename_i l
    obtain ⟨hc, hx⟩ := need_some hq
    have hl := of_decide_eq_true hc
    have hM : maxI = 9223372036854775807 := rfl
    refine ⟨ipe_ok, (ipe_tree l).trans (Eq.trans ?_ hx)⟩
    try dsimp only [shr]
    show _ = some _
    unfold peepB
    cases hg : goodPB l with
    | false => rfl
    | true =>
      try simp only [nilT_eq, List.nil_append, Nat.zero_add]
      try rw [hg]
      rw [Bool.not_true, ifB_f, ifT_true (decide_eq_true (by omega)), ifT_true (decide_eq_true ⟨by omega, by omega, by first | trivial | rfl, by first | trivial | rfl⟩)]
      rfl
  · cases hq
theorem spe_rd (l : List Ins) (hg : goodPB l = true) (i : Nat) (hi : i < l.length) : roundK Try.prog (look [(94, .rd1 goodPG), (98, .rd1 betG)]) (look [(5, speE)]) 0 (body Try.f31 0) speE ([.ptr 0 0, .ref 1 0 l.length, .i .i64 (i : Int)], [some (.box [.ref 2 0 0]), some (.row false none (.pair (.int .i64) (.pair (.int .i64) (.pair (.int .i64) (.pair (.int .i64) (.pair .str (.pair (.int .i64) .unit)))))) l), some (.row false none (.pair (.int .i64) (.pair (.int .i64) (.pair (.int .i64) (.pair (.int .i64) (.pair .str (.pair (.int .i64) .unit)))))) [])]) = (match betB l i with | some l' => some ((.normal : Ex), (([.ptr 0 0, .ref 1 0 l'.length, .i .i64 ((0 : Nat) : Int)], [some (.box [.ref 2 0 0]), some (.row false none (.pair (.int .i64) (.pair (.int .i64) (.pair (.int .i64) (.pair (.int .i64) (.pair .str (.pair (.int .i64) .unit)))))) l'), some (.row false none (.pair (.int .i64) (.pair (.int .i64) (.pair (.int .i64) (.pair (.int .i64) (.pair .str (.pair (.int .i64) .unit)))))) [])]) : Dt)) | none => some (.normal, ([.ptr 0 0, .ref 1 0 l.length, .i .i64 ((i + 1 : Nat) : Int)], [some (.box [.ref 2 0 0]), some (.row false none (.pair (.int .i64) (.pair (.int .i64) (.pair (.int .i64) (.pair (.int .i64) (.pair .str (.pair (.int .i64) .unit)))))) l), some (.row false none (.pair (.int .i64) (.pair (.int .i64) (.pair (.int .i64) (.pair (.int .i64) (.pair .str (.pair (.int .i64) .unit)))))) [])]))) := by
  rw [spe_round]
  have hlen := (goodPB_iff.1 hg).1
  have W1 : IntKind.i64.wrap ((i : Int) + 1) = ((i + 1 : Nat) : Int) := by rw [wrap_id (by omega) (by omega)]; omega
  dsimp only [shr]
  rw [List.drop_zero, List.take_length, ifB_true (decide_eq_true (by omega)), ifT_true (decide_eq_true ⟨by omega, by omega, hg⟩), Int.toNat_natCast, W1]
  unfold betL
  cases betB l i with
  | none => rfl
  | some l' => rfl
theorem spe_loop (N : Nat) : ∀ (l : List Ins) (i : Nat), goodPB l = true → measI l i ≤ N → Runs Try.prog (look [(94, .rd1 goodPG), (98, .rd1 betG)]) (look [(5, speE)]) 0 (body Try.f31 0) speE ([.ptr 0 0, .ref 1 0 l.length, .i .i64 (i : Int)], [some (.box [.ref 2 0 0]), some (.row false none (.pair (.int .i64) (.pair (.int .i64) (.pair (.int .i64) (.pair (.int .i64) (.pair .str (.pair (.int .i64) .unit)))))) l), some (.row false none (.pair (.int .i64) (.pair (.int .i64) (.pair (.int .i64) (.pair (.int .i64) (.pair .str (.pair (.int .i64) .unit)))))) [])]) (.exit 0) ([.ptr 0 0, .ref 1 0 (peep l i).length], [some (.box [.ref 2 0 0]), some (.row false none (.pair (.int .i64) (.pair (.int .i64) (.pair (.int .i64) (.pair (.int .i64) (.pair .str (.pair (.int .i64) .unit)))))) (peep l i)), some (.row false none (.pair (.int .i64) (.pair (.int .i64) (.pair (.int .i64) (.pair (.int .i64) (.pair .str (.pair (.int .i64) .unit)))))) [])]) := by
  induction N with
  | zero =>
    intro l i hg hn
    have q2 := (goodPB_iff.1 hg).1
    unfold measI at hn
    omega
  | succ N ih =>
    intro l i hg hn
    by_cases hi : i < l.length
    · have hr := spe_rd l hg i hi
      cases hb : betB l i with
      | some l' =>
        rw [hb] at hr
        rw [peep_yes hg hi hb]
        have hm := betB_meas hg hb
        exact .step _ _ _ _ hr (ih l' 0 (betB_good hg hb).1 (by omega))
      | none =>
        rw [hb] at hr
        rw [peep_no hg hi hb]
        have hm : measI l (i + 1) < measI l i := by unfold measI; omega
        exact .step _ _ _ _ hr (ih l (i + 1) hg (by omega))
    · have hr := spe_round l.length l i
      dsimp only [shr] at hr
      rw [ifB_false (decide_eq_false (by omega))] at hr
      rw [peep_end (by omega)]
      exact .stop _ _ _ hr (by simp)
theorem spe_ok : LoopsOk Try.prog (look [(94, .rd1 goodPG), (98, .rd1 betG)]) (look [(5, speE)]) 0 (Try.f31.body.getD .skip) := by
  refine loopsOk_one (a := body Try.f31 0) (by kernel_rfl) fun d ex d' h => ?_
  unfold speE at h
  dsimp only at h
  split at h
  · rename_i n i l
    obtain ⟨hc, hx⟩ := need_some h
    obtain ⟨h0, h1, rfl, h3⟩ := of_decide_eq_true hc
    obtain ⟨i, rfl⟩ := Int.eq_ofNat_of_zero_le h0
    simp only [Int.toNat_natCast] at hx
    have hx := leaf_some hx
    obtain ⟨rfl, rfl⟩ := Prod.mk.inj hx
    exact spe_loop _ l i h3 (Nat.le_refl _)
  · cases h
theorem speep : Contract Try.prog 31 (Ent.rd1 peepG).F := by
  refine fun_contractC' (KnowsL.cons (enters_fn Try.func94 (by kernel_rfl) (by kernel_rfl)) sgoodP (KnowsL.cons (enters_fn Try.func98 (by kernel_rfl) (by kernel_rfl)) sbet KnowsL.nil)).knows (Λ := (look [(5, speE)])) Try.func31 (c := Try.f31.body.getD .skip) (by kernel_rfl) fun vs bs r hq hv hb => ?_
  unfold Ent.F peepG at hq
  dsimp only at hq
  split at hq
  · rename_i l
    obtain ⟨hc, hx⟩ := need_some hq
    have hl := of_decide_eq_true hc
    have hM : maxI = 9223372036854775807 := rfl
    refine ⟨spe_ok, (spe_tree l).trans (Eq.trans ?_ hx)⟩
    try dsimp only [shr]
    show _ = some _
    unfold peepB
    cases hg : goodPB l with
    | false => rfl
    | true =>
      try simp only [nilT_eq, List.nil_append, Nat.zero_add]
      try rw [hg]
      rw [Bool.not_true, ifB_f, ifT_true (by simp only [Bool.and_eq_true, decide_eq_true_eq]; omega), ifT_true (decide_eq_true ⟨by omega, by omega, by first | trivial | rfl, by first | trivial | rfl⟩)]
      rfl
  · cases hq

def dw0G (d m : Int) (B : Nat) (f : Cur → List Wt × Cur) : List V → List Blk → Br (V × List (Option Blk))
  | [.ptr 0 0, .i .i64 x, .nl], [.box [.sl (.int .u8) l, .i .i64 a, .i .u64 s]] => .need (decide (x = d ∧ 0 ≤ d ∧ (Cur.mk l a s).good m)) (.leaf (.ref 1 0 (f (Cur.mk l a s)).1.length, [some (cB (f (Cur.mk l a s)).2), some (.row false none (.pair (.int .i64) (.pair (.int .i64) (.pair (.int .i64) (.pair .str (.pair (.int .i64) (.pair (.int .i64) .unit)))))) (f (Cur.mk l a s)).1)]))
  | _, _ => .no
def dw1G (d m : Int) (B : Nat) (f : List Wt → Cur → List Wt × Cur) : List V → List Blk → Br (V × List (Option Blk))
  | [.ptr 0 0, .i .i64 x, .ref 1 0 n], [.box [.sl (.int .u8) l, .i .i64 a, .i .u64 s], .row false _ (.pair (.int .i64) (.pair (.int .i64) (.pair (.int .i64) (.pair .str (.pair (.int .i64) (.pair (.int .i64) .unit)))))) o] => .need (decide (x = d ∧ 0 ≤ d ∧ (Cur.mk l a s).good m ∧ n = o.length ∧ o.length ≤ B)) (.leaf (.ref 2 0 (f o (Cur.mk l a s)).1.length, [some (cB (f o (Cur.mk l a s)).2), none, some (.row false none (.pair (.int .i64) (.pair (.int .i64) (.pair (.int .i64) (.pair .str (.pair (.int .i64) (.pair (.int .i64) .unit)))))) (f o (Cur.mk l a s)).1)]))
  | _, _ => .no
def dwG (d m : Int) (B : Nat) (f : Cur → List Wt × Cur) (g : List Wt → Cur → List Wt × Cur) (vs : List V) (bs : List Blk) : Br (V × List (Option Blk)) := match vs with
  | [_, _, .nl] => dw0G d m B f vs bs
  | _ => dw1G d m B g vs bs

theorem dw0_tree (d m : Int) (B : Nat) (f : Cur → List Wt × Cur) (g : List Wt → Cur → List Wt × Cur) (l : List Int) (a s : Int) : funC Try.prog (look [(56, .own cpickG), (137, .own cofG), (180, .own (dwG (d - 1) m B f g))]) (look []) Try.f180 [.ptr 0 0, .i .i64 d, .nl] [.box [.sl (.int .u8) l, .i .i64 a, .i .u64 s]] =
  ((shr (nilT ((Cd.int .i64).pair ((Cd.int .i64).pair ((Cd.int .i64).pair (Cd.str.pair ((Cd.int .i64).pair ((Cd.int .i64).pair Cd.unit)))))).den) fun sh2 => shr ((Cur.mk l a
 s).pickC (8 : Int)) fun sh1 => ifT (decide ((Cur.mk l a s).good (900000000 : Int))) (ifB (decide (d ≤ (0 : Int))) (ifT (decide (sh1.good (900000000 : Int))) (ifB (decide
 (IntKind.i64.wrap ((1 : Int) + sh1.pickV (5 : Int)) ≤ (5 : Int))) (ifT (decide ((sh1.pickC (5 : Int)).good (900000000 : Int))) (ifB (decide (IntKind.i64.wrap ((1 : Int) +
 sh1.pickV (5 : Int)) ≤ (3 : Int))) (ifT (decide (((sh1.pickC (5 : Int)).pickC (6 : Int)).good (900000000 : Int))) (ifB (IntKind.i64.wrap ((1 : Int) + sh1.pickV (5 : Int))
 == (5 : Int)) (ifT (decide ((((sh1.pickC (5 : Int)).pickC (6 : Int)).pickC (12 : Int)).good (900000000 : Int) ∧ (1 : Nat) ≤ (4 : Nat) ∧ (4 : Nat) ≤ (4 : Nat))) (some
 (V.ref 1 0 1, [some (Blk.box [V.sl (Cd.int .u8) ((((sh1.pickC (5 : Int)).pickC (6 : Int)).pickC (12 : Int)).pickC (↑(4 : Nat) : Int)).l, V.i .i64 ((((sh1.pickC (5 :
 Int)).pickC (6 : Int)).pickC (12 : Int)).pickC (↑(4 : Nat) : Int)).a, V.i .u64 ((((sh1.pickC (5 : Int)).pickC (6 : Int)).pickC (12 : Int)).pickC (↑(4 : Nat) : Int)).s]),
 some (Blk.row false none ((Cd.int .i64).pair ((Cd.int .i64).pair ((Cd.int .i64).pair (Cd.str.pair ((Cd.int .i64).pair ((Cd.int .i64).pair Cd.unit)))))) ((IntKind.i64.wrap
 ((1 : Int) + sh1.pickV (5 : Int)), IntKind.i64.wrap ((1 : Int) + (sh1.pickC (5 : Int)).pickV (6 : Int)), IntKind.i64.wrap (((sh1.pickC (5 : Int)).pickC (6 : Int)).pickV
 (12 : Int) - (4 : Int)), (nilT UInt8 :: ((97 : UInt8) :: nilT UInt8) :: ((115 : UInt8) :: (111 : UInt8) :: (109 : UInt8) :: (101 : UInt8) :: nilT UInt8) :: ((120 : UInt8)
 :: nilT UInt8) :: nilT Cd.str.den).getD ((0 : Nat) + ((((sh1.pickC (5 : Int)).pickC (6 : Int)).pickC (12 : Int)).pickV (↑(4 : Nat) : Int)).toNat) (nilT UInt8), (0 : Int),
 (0 : Int), ()) :: sh2))]))) (some (V.ref 1 0 1, [some (Blk.box [V.sl (Cd.int .u8) (((sh1.pickC (5 : Int)).pickC (6 : Int)).pickC (12 : Int)).l, V.i .i64 (((sh1.pickC (5 :
 Int)).pickC (6 : Int)).pickC (12 : Int)).a, V.i .u64 (((sh1.pickC (5 : Int)).pickC (6 : Int)).pickC (12 : Int)).s]), some (Blk.row false none ((Cd.int .i64).pair ((Cd.int
 .i64).pair ((Cd.int .i64).pair (Cd.str.pair ((Cd.int .i64).pair ((Cd.int .i64).pair Cd.unit)))))) ((IntKind.i64.wrap ((1 : Int) + sh1.pickV (5 : Int)), IntKind.i64.wrap
 ((1 : Int) + (sh1.pickC (5 : Int)).pickV (6 : Int)), IntKind.i64.wrap (((sh1.pickC (5 : Int)).pickC (6 : Int)).pickV (12 : Int) - (4 : Int)), nilT UInt8, (0 : Int), (0 :
 Int), ()) :: sh2))])))) (ifB (IntKind.i64.wrap ((1 : Int) + sh1.pickV (5 : Int)) == (5 : Int)) (ifT (decide (((sh1.pickC (5 : Int)).pickC (6 : Int)).good (900000000 :
 Int) ∧ (1 : Nat) ≤ (4 : Nat) ∧ (4 : Nat) ≤ (4 : Nat))) (some (V.ref 1 0 1, [some (Blk.box [V.sl (Cd.int .u8) (((sh1.pickC (5 : Int)).pickC (6 : Int)).pickC (↑(4 : Nat) :
 Int)).l, V.i .i64 (((sh1.pickC (5 : Int)).pickC (6 : Int)).pickC (↑(4 : Nat) : Int)).a, V.i .u64 (((sh1.pickC (5 : Int)).pickC (6 : Int)).pickC (↑(4 : Nat) : Int)).s]),
 some (Blk.row false none ((Cd.int .i64).pair ((Cd.int .i64).pair ((Cd.int .i64).pair (Cd.str.pair ((Cd.int .i64).pair ((Cd.int .i64).pair Cd.unit)))))) ((IntKind.i64.wrap
 ((1 : Int) + sh1.pickV (5 : Int)), IntKind.i64.wrap ((1 : Int) + (sh1.pickC (5 : Int)).pickV (6 : Int)), (0 : Int), (nilT UInt8 :: ((97 : UInt8) :: nilT UInt8) :: ((115 :
 UInt8) :: (111 : UInt8) :: (109 : UInt8) :: (101 : UInt8) :: nilT UInt8) :: ((120 : UInt8) :: nilT UInt8) :: nilT Cd.str.den).getD ((0 : Nat) + (((sh1.pickC (5 :
 Int)).pickC (6 : Int)).pickV (↑(4 : Nat) : Int)).toNat) (nilT UInt8), (0 : Int), (0 : Int), ()) :: sh2))]))) (some (V.ref 1 0 1, [some (Blk.box [V.sl (Cd.int .u8)
 ((sh1.pickC (5 : Int)).pickC (6 : Int)).l, V.i .i64 ((sh1.pickC (5 : Int)).pickC (6 : Int)).a, V.i .u64 ((sh1.pickC (5 : Int)).pickC (6 : Int)).s]), some (Blk.row false
 none ((Cd.int .i64).pair ((Cd.int .i64).pair ((Cd.int .i64).pair (Cd.str.pair ((Cd.int .i64).pair ((Cd.int .i64).pair Cd.unit)))))) ((IntKind.i64.wrap ((1 : Int) +
 sh1.pickV (5 : Int)), IntKind.i64.wrap ((1 : Int) + (sh1.pickC (5 : Int)).pickV (6 : Int)), (0 : Int), nilT UInt8, (0 : Int), (0 : Int), ()) :: sh2))]))))) (ifB
 (IntKind.i64.wrap ((1 : Int) + sh1.pickV (5 : Int)) == (8 : Int)) (ifT (decide (IntKind.i64.wrap (d - (1 : Int)) = d - (1 : Int) ∧ (0 : Int) ≤ d - (1 : Int) ∧ (sh1.pickC
 (5 : Int)).good m)) (ifT (decide (((f (sh1.pickC (5 : Int))).fst.length + (1 : Nat)) * (56 : Nat) ≤ (140737488355328 : Nat)) && decide ((f (sh1.pickC (5 :
 Int))).fst.length + (1 : Nat) ≤ maxI)) (some (V.ref 1 0 ((f (sh1.pickC (5 : Int))).fst.length + (1 : Nat)), [some (Blk.box [V.sl (Cd.int .u8) (f (sh1.pickC (5 :
 Int))).snd.l, V.i .i64 (f (sh1.pickC (5 : Int))).snd.a, V.i .u64 (f (sh1.pickC (5 : Int))).snd.s]), some (Blk.row false none ((Cd.int .i64).pair ((Cd.int .i64).pair
 ((Cd.int .i64).pair (Cd.str.pair ((Cd.int .i64).pair ((Cd.int .i64).pair Cd.unit)))))) (List.take (f (sh1.pickC (5 : Int))).fst.length (List.drop (0 : Nat) (f (sh1.pickC
 (5 : Int))).fst) ++ (IntKind.i64.wrap ((1 : Int) + sh1.pickV (5 : Int)), (0 : Int), (0 : Int), nilT UInt8, IntKind.i64.wrap ((↑(f (sh1.pickC (5 : Int))).fst.length : Int)
 - (1 : Int)), (0 : Int), ()) :: sh2))])))) (ifT (decide (IntKind.i64.wrap (d - (1 : Int)) = d - (1 : Int) ∧ (0 : Int) ≤ d - (1 : Int) ∧ (sh1.pickC (5 : Int)).good m))
 (ifT (decide (IntKind.i64.wrap (d - (1 : Int)) = d - (1 : Int) ∧ (0 : Int) ≤ d - (1 : Int) ∧ (f (sh1.pickC (5 : Int))).snd.good m ∧ (f (sh1.pickC (5 : Int))).fst.length =
 (f (sh1.pickC (5 : Int))).fst.length ∧ (f (sh1.pickC (5 : Int))).fst.length ≤ B)) (ifT (decide (((g (f (sh1.pickC (5 : Int))).fst (f (sh1.pickC (5 :
 Int))).snd).fst.length + (1 : Nat)) * (56 : Nat) ≤ (140737488355328 : Nat)) && decide ((g (f (sh1.pickC (5 : Int))).fst (f (sh1.pickC (5 : Int))).snd).fst.length + (1 :
 Nat) ≤ maxI)) (some (V.ref 1 0 ((g (f (sh1.pickC (5 : Int))).fst (f (sh1.pickC (5 : Int))).snd).fst.length + (1 : Nat)), [some (Blk.box [V.sl (Cd.int .u8) (g (f
 (sh1.pickC (5 : Int))).fst (f (sh1.pickC (5 : Int))).snd).snd.l, V.i .i64 (g (f (sh1.pickC (5 : Int))).fst (f (sh1.pickC (5 : Int))).snd).snd.a, V.i .u64 (g (f (sh1.pickC
 (5 : Int))).fst (f (sh1.pickC (5 : Int))).snd).snd.s]), some (Blk.row false none ((Cd.int .i64).pair ((Cd.int .i64).pair ((Cd.int .i64).pair (Cd.str.pair ((Cd.int
 .i64).pair ((Cd.int .i64).pair Cd.unit)))))) (List.take (g (f (sh1.pickC (5 : Int))).fst (f (sh1.pickC (5 : Int))).snd).fst.length (List.drop (0 : Nat) (g (f (sh1.pickC
 (5 : Int))).fst (f (sh1.pickC (5 : Int))).snd).fst) ++ (IntKind.i64.wrap ((1 : Int) + sh1.pickV (5 : Int)), (0 : Int), (0 : Int), nilT UInt8, IntKind.i64.wrap ((↑(f
 (sh1.pickC (5 : Int))).fst.length : Int) - (1 : Int)), IntKind.i64.wrap ((↑(g (f (sh1.pickC (5 : Int))).fst (f (sh1.pickC (5 : Int))).snd).fst.length : Int) - (1 : Int)),
 ()) :: sh2))])))))))) (ifB (decide (IntKind.i64.wrap ((1 : Int) + (Cur.mk l a s).pickV (8 : Int)) ≤ (5 : Int))) (ifT (decide (sh1.good (900000000 : Int))) (ifB (decide
 (IntKind.i64.wrap ((1 : Int) + (Cur.mk l a s).pickV (8 : Int)) ≤ (3 : Int))) (ifT (decide ((sh1.pickC (6 : Int)).good (900000000 : Int))) (ifB (IntKind.i64.wrap ((1 :
 Int) + (Cur.mk l a s).pickV (8 : Int)) == (5 : Int)) (ifT (decide (((sh1.pickC (6 : Int)).pickC (12 : Int)).good (900000000 : Int) ∧ (1 : Nat) ≤ (4 : Nat) ∧ (4 : Nat) ≤
 (4 : Nat))) (some (V.ref 1 0 1, [some (Blk.box [V.sl (Cd.int .u8) (((sh1.pickC (6 : Int)).pickC (12 : Int)).pickC (↑(4 : Nat) : Int)).l, V.i .i64 (((sh1.pickC (6 :
 Int)).pickC (12 : Int)).pickC (↑(4 : Nat) : Int)).a, V.i .u64 (((sh1.pickC (6 : Int)).pickC (12 : Int)).pickC (↑(4 : Nat) : Int)).s]), some (Blk.row false none ((Cd.int
 .i64).pair ((Cd.int .i64).pair ((Cd.int .i64).pair (Cd.str.pair ((Cd.int .i64).pair ((Cd.int .i64).pair Cd.unit)))))) ((IntKind.i64.wrap ((1 : Int) + (Cur.mk l a s).pickV
 (8 : Int)), IntKind.i64.wrap ((1 : Int) + sh1.pickV (6 : Int)), IntKind.i64.wrap ((sh1.pickC (6 : Int)).pickV (12 : Int) - (4 : Int)), (nilT UInt8 :: ((97 : UInt8) ::
 nilT UInt8) :: ((115 : UInt8) :: (111 : UInt8) :: (109 : UInt8) :: (101 : UInt8) :: nilT UInt8) :: ((120 : UInt8) :: nilT UInt8) :: nilT Cd.str.den).getD ((0 : Nat) +
 (((sh1.pickC (6 : Int)).pickC (12 : Int)).pickV (↑(4 : Nat) : Int)).toNat) (nilT UInt8), (0 : Int), (0 : Int), ()) :: sh2))]))) (some (V.ref 1 0 1, [some (Blk.box [V.sl
 (Cd.int .u8) ((sh1.pickC (6 : Int)).pickC (12 : Int)).l, V.i .i64 ((sh1.pickC (6 : Int)).pickC (12 : Int)).a, V.i .u64 ((sh1.pickC (6 : Int)).pickC (12 : Int)).s]), some
 (Blk.row false none ((Cd.int .i64).pair ((Cd.int .i64).pair ((Cd.int .i64).pair (Cd.str.pair ((Cd.int .i64).pair ((Cd.int .i64).pair Cd.unit)))))) ((IntKind.i64.wrap ((1
 : Int) + (Cur.mk l a s).pickV (8 : Int)), IntKind.i64.wrap ((1 : Int) + sh1.pickV (6 : Int)), IntKind.i64.wrap ((sh1.pickC (6 : Int)).pickV (12 : Int) - (4 : Int)), nilT
 UInt8, (0 : Int), (0 : Int), ()) :: sh2))])))) (ifB (IntKind.i64.wrap ((1 : Int) + (Cur.mk l a s).pickV (8 : Int)) == (5 : Int)) (ifT (decide ((sh1.pickC (6 : Int)).good
 (900000000 : Int) ∧ (1 : Nat) ≤ (4 : Nat) ∧ (4 : Nat) ≤ (4 : Nat))) (some (V.ref 1 0 1, [some (Blk.box [V.sl (Cd.int .u8) ((sh1.pickC (6 : Int)).pickC (↑(4 : Nat) :
 Int)).l, V.i .i64 ((sh1.pickC (6 : Int)).pickC (↑(4 : Nat) : Int)).a, V.i .u64 ((sh1.pickC (6 : Int)).pickC (↑(4 : Nat) : Int)).s]), some (Blk.row false none ((Cd.int
 .i64).pair ((Cd.int .i64).pair ((Cd.int .i64).pair (Cd.str.pair ((Cd.int .i64).pair ((Cd.int .i64).pair Cd.unit)))))) ((IntKind.i64.wrap ((1 : Int) + (Cur.mk l a s).pickV
 (8 : Int)), IntKind.i64.wrap ((1 : Int) + sh1.pickV (6 : Int)), (0 : Int), (nilT UInt8 :: ((97 : UInt8) :: nilT UInt8) :: ((115 : UInt8) :: (111 : UInt8) :: (109 : UInt8)
 :: (101 : UInt8) :: nilT UInt8) :: ((120 : UInt8) :: nilT UInt8) :: nilT Cd.str.den).getD ((0 : Nat) + ((sh1.pickC (6 : Int)).pickV (↑(4 : Nat) : Int)).toNat) (nilT
 UInt8), (0 : Int), (0 : Int), ()) :: sh2))]))) (some (V.ref 1 0 1, [some (Blk.box [V.sl (Cd.int .u8) (sh1.pickC (6 : Int)).l, V.i .i64 (sh1.pickC (6 : Int)).a, V.i .u64
 (sh1.pickC (6 : Int)).s]), some (Blk.row false none ((Cd.int .i64).pair ((Cd.int .i64).pair ((Cd.int .i64).pair (Cd.str.pair ((Cd.int .i64).pair ((Cd.int .i64).pair
 Cd.unit)))))) ((IntKind.i64.wrap ((1 : Int) + (Cur.mk l a s).pickV (8 : Int)), IntKind.i64.wrap ((1 : Int) + sh1.pickV (6 : Int)), (0 : Int), nilT UInt8, (0 : Int), (0 :
 Int), ()) :: sh2))]))))) (ifB (IntKind.i64.wrap ((1 : Int) + (Cur.mk l a s).pickV (8 : Int)) == (8 : Int)) (ifT (decide (IntKind.i64.wrap (d - (1 : Int)) = d - (1 : Int)
 ∧ (0 : Int) ≤ d - (1 : Int) ∧ sh1.good m)) (ifT (decide (((f sh1).fst.length + (1 : Nat)) * (56 : Nat) ≤ (140737488355328 : Nat)) && decide ((f sh1).fst.length + (1 :
 Nat) ≤ maxI)) (some (V.ref 1 0 ((f sh1).fst.length + (1 : Nat)), [some (Blk.box [V.sl (Cd.int .u8) (f sh1).snd.l, V.i .i64 (f sh1).snd.a, V.i .u64 (f sh1).snd.s]), some
 (Blk.row false none ((Cd.int .i64).pair ((Cd.int .i64).pair ((Cd.int .i64).pair (Cd.str.pair ((Cd.int .i64).pair ((Cd.int .i64).pair Cd.unit)))))) (List.take (f
 sh1).fst.length (List.drop (0 : Nat) (f sh1).fst) ++ (IntKind.i64.wrap ((1 : Int) + (Cur.mk l a s).pickV (8 : Int)), (0 : Int), (0 : Int), nilT UInt8, IntKind.i64.wrap
 ((↑(f sh1).fst.length : Int) - (1 : Int)), (0 : Int), ()) :: sh2))])))) (ifT (decide (IntKind.i64.wrap (d - (1 : Int)) = d - (1 : Int) ∧ (0 : Int) ≤ d - (1 : Int) ∧
 sh1.good m)) (ifT (decide (IntKind.i64.wrap (d - (1 : Int)) = d - (1 : Int) ∧ (0 : Int) ≤ d - (1 : Int) ∧ (f sh1).snd.good m ∧ (f sh1).fst.length = (f sh1).fst.length ∧
 (f sh1).fst.length ≤ B)) (ifT (decide (((g (f sh1).fst (f sh1).snd).fst.length + (1 : Nat)) * (56 : Nat) ≤ (140737488355328 : Nat)) && decide ((g (f sh1).fst (f
 sh1).snd).fst.length + (1 : Nat) ≤ maxI)) (some (V.ref 1 0 ((g (f sh1).fst (f sh1).snd).fst.length + (1 : Nat)), [some (Blk.box [V.sl (Cd.int .u8) (g (f sh1).fst (f
 sh1).snd).snd.l, V.i .i64 (g (f sh1).fst (f sh1).snd).snd.a, V.i .u64 (g (f sh1).fst (f sh1).snd).snd.s]), some (Blk.row false none ((Cd.int .i64).pair ((Cd.int
 .i64).pair ((Cd.int .i64).pair (Cd.str.pair ((Cd.int .i64).pair ((Cd.int .i64).pair Cd.unit)))))) (List.take (g (f sh1).fst (f sh1).snd).fst.length (List.drop (0 : Nat)
 (g (f sh1).fst (f sh1).snd).fst) ++ (IntKind.i64.wrap ((1 : Int) + (Cur.mk l a s).pickV (8 : Int)), (0 : Int), (0 : Int), nilT UInt8, IntKind.i64.wrap ((↑(f
 sh1).fst.length : Int) - (1 : Int)), IntKind.i64.wrap ((↑(g (f sh1).fst (f sh1).snd).fst.length : Int) - (1 : Int)), ()) :: sh2))]))))))))) : _) := by kernel_rfl
theorem dw1_tree (d m : Int) (B : Nat) (f : Cur → List Wt × Cur) (g : List Wt → Cur → List Wt × Cur) (l : List Int) (a s : Int) (n : Nat) (nl : Option Bool) (o : List Wt) : funC Try.prog (look [(56, .own cpickG), (137, .own cofG), (180, .own (dwG (d - 1) m B f g))]) (look []) Try.f180 [.ptr 0 0, .i .i64 d, .ref 1 0 n] [.box [.sl (.int .u8) l, .i .i64 a, .i .u64 s], .row false nl (.pair (.int .i64) (.pair (.int .i64) (.pair (.int .i64) (.pair .str (.pair (.int .i64) (.pair (.int .i64) .unit)))))) o] =
  ((shr (nilT ((Cd.int .i64).pair ((Cd.int .i64).pair ((Cd.int .i64).pair (Cd.str.pair ((Cd.int .i64).pair ((Cd.int .i64).pair Cd.unit)))))).den) fun sh3 => shr (List.take n
 (List.drop (0 : Nat) o)) fun sh2 => shr ((Cur.mk l a s).pickC (8 : Int)) fun sh1 => ifT (decide ((Cur.mk l a s).good (900000000 : Int))) (ifB (decide (d ≤ (0 : Int)))
 (ifT (decide (sh1.good (900000000 : Int))) (ifB (decide (IntKind.i64.wrap ((1 : Int) + sh1.pickV (5 : Int)) ≤ (5 : Int))) (ifT (decide ((sh1.pickC (5 : Int)).good
 (900000000 : Int))) (ifB (decide (IntKind.i64.wrap ((1 : Int) + sh1.pickV (5 : Int)) ≤ (3 : Int))) (ifT (decide (((sh1.pickC (5 : Int)).pickC (6 : Int)).good (900000000 :
 Int))) (ifB (IntKind.i64.wrap ((1 : Int) + sh1.pickV (5 : Int)) == (5 : Int)) (ifT (decide ((((sh1.pickC (5 : Int)).pickC (6 : Int)).pickC (12 : Int)).good (900000000 :
 Int) ∧ (1 : Nat) ≤ (4 : Nat) ∧ (4 : Nat) ≤ (4 : Nat))) (ifT (decide ((n + (1 : Nat)) * (56 : Nat) ≤ (140737488355328 : Nat)) && decide (n + (1 : Nat) ≤ maxI)) (some
 (V.ref 2 0 (n + (1 : Nat)), [some (Blk.box [V.sl (Cd.int .u8) ((((sh1.pickC (5 : Int)).pickC (6 : Int)).pickC (12 : Int)).pickC (↑(4 : Nat) : Int)).l, V.i .i64
 ((((sh1.pickC (5 : Int)).pickC (6 : Int)).pickC (12 : Int)).pickC (↑(4 : Nat) : Int)).a, V.i .u64 ((((sh1.pickC (5 : Int)).pickC (6 : Int)).pickC (12 : Int)).pickC (↑(4 :
 Nat) : Int)).s]), none, some (Blk.row false none ((Cd.int .i64).pair ((Cd.int .i64).pair ((Cd.int .i64).pair (Cd.str.pair ((Cd.int .i64).pair ((Cd.int .i64).pair
 Cd.unit)))))) (sh2 ++ (IntKind.i64.wrap ((1 : Int) + sh1.pickV (5 : Int)), IntKind.i64.wrap ((1 : Int) + (sh1.pickC (5 : Int)).pickV (6 : Int)), IntKind.i64.wrap
 (((sh1.pickC (5 : Int)).pickC (6 : Int)).pickV (12 : Int) - (4 : Int)), (nilT UInt8 :: ((97 : UInt8) :: nilT UInt8) :: ((115 : UInt8) :: (111 : UInt8) :: (109 : UInt8) ::
 (101 : UInt8) :: nilT UInt8) :: ((120 : UInt8) :: nilT UInt8) :: nilT Cd.str.den).getD ((0 : Nat) + ((((sh1.pickC (5 : Int)).pickC (6 : Int)).pickC (12 : Int)).pickV (↑(4
 : Nat) : Int)).toNat) (nilT UInt8), (0 : Int), (0 : Int), ()) :: sh3))])))) (ifT (decide ((n + (1 : Nat)) * (56 : Nat) ≤ (140737488355328 : Nat)) && decide (n + (1 : Nat)
 ≤ maxI)) (some (V.ref 2 0 (n + (1 : Nat)), [some (Blk.box [V.sl (Cd.int .u8) (((sh1.pickC (5 : Int)).pickC (6 : Int)).pickC (12 : Int)).l, V.i .i64 (((sh1.pickC (5 :
 Int)).pickC (6 : Int)).pickC (12 : Int)).a, V.i .u64 (((sh1.pickC (5 : Int)).pickC (6 : Int)).pickC (12 : Int)).s]), none, some (Blk.row false none ((Cd.int .i64).pair
 ((Cd.int .i64).pair ((Cd.int .i64).pair (Cd.str.pair ((Cd.int .i64).pair ((Cd.int .i64).pair Cd.unit)))))) (sh2 ++ (IntKind.i64.wrap ((1 : Int) + sh1.pickV (5 : Int)),
 IntKind.i64.wrap ((1 : Int) + (sh1.pickC (5 : Int)).pickV (6 : Int)), IntKind.i64.wrap (((sh1.pickC (5 : Int)).pickC (6 : Int)).pickV (12 : Int) - (4 : Int)), nilT UInt8,
 (0 : Int), (0 : Int), ()) :: sh3))]))))) (ifB (IntKind.i64.wrap ((1 : Int) + sh1.pickV (5 : Int)) == (5 : Int)) (ifT (decide (((sh1.pickC (5 : Int)).pickC (6 : Int)).good
 (900000000 : Int) ∧ (1 : Nat) ≤ (4 : Nat) ∧ (4 : Nat) ≤ (4 : Nat))) (ifT (decide ((n + (1 : Nat)) * (56 : Nat) ≤ (140737488355328 : Nat)) && decide (n + (1 : Nat) ≤
 maxI)) (some (V.ref 2 0 (n + (1 : Nat)), [some (Blk.box [V.sl (Cd.int .u8) (((sh1.pickC (5 : Int)).pickC (6 : Int)).pickC (↑(4 : Nat) : Int)).l, V.i .i64 (((sh1.pickC (5
 : Int)).pickC (6 : Int)).pickC (↑(4 : Nat) : Int)).a, V.i .u64 (((sh1.pickC (5 : Int)).pickC (6 : Int)).pickC (↑(4 : Nat) : Int)).s]), none, some (Blk.row false none
 ((Cd.int .i64).pair ((Cd.int .i64).pair ((Cd.int .i64).pair (Cd.str.pair ((Cd.int .i64).pair ((Cd.int .i64).pair Cd.unit)))))) (sh2 ++ (IntKind.i64.wrap ((1 : Int) +
 sh1.pickV (5 : Int)), IntKind.i64.wrap ((1 : Int) + (sh1.pickC (5 : Int)).pickV (6 : Int)), (0 : Int), (nilT UInt8 :: ((97 : UInt8) :: nilT UInt8) :: ((115 : UInt8) ::
 (111 : UInt8) :: (109 : UInt8) :: (101 : UInt8) :: nilT UInt8) :: ((120 : UInt8) :: nilT UInt8) :: nilT Cd.str.den).getD ((0 : Nat) + (((sh1.pickC (5 : Int)).pickC (6 :
 Int)).pickV (↑(4 : Nat) : Int)).toNat) (nilT UInt8), (0 : Int), (0 : Int), ()) :: sh3))])))) (ifT (decide ((n + (1 : Nat)) * (56 : Nat) ≤ (140737488355328 : Nat)) &&
 decide (n + (1 : Nat) ≤ maxI)) (some (V.ref 2 0 (n + (1 : Nat)), [some (Blk.box [V.sl (Cd.int .u8) ((sh1.pickC (5 : Int)).pickC (6 : Int)).l, V.i .i64 ((sh1.pickC (5 :
 Int)).pickC (6 : Int)).a, V.i .u64 ((sh1.pickC (5 : Int)).pickC (6 : Int)).s]), none, some (Blk.row false none ((Cd.int .i64).pair ((Cd.int .i64).pair ((Cd.int .i64).pair
 (Cd.str.pair ((Cd.int .i64).pair ((Cd.int .i64).pair Cd.unit)))))) (sh2 ++ (IntKind.i64.wrap ((1 : Int) + sh1.pickV (5 : Int)), IntKind.i64.wrap ((1 : Int) + (sh1.pickC
 (5 : Int)).pickV (6 : Int)), (0 : Int), nilT UInt8, (0 : Int), (0 : Int), ()) :: sh3))])))))) (ifB (IntKind.i64.wrap ((1 : Int) + sh1.pickV (5 : Int)) == (8 : Int)) (ifT
 (decide (IntKind.i64.wrap (d - (1 : Int)) = d - (1 : Int) ∧ (0 : Int) ≤ d - (1 : Int) ∧ (sh1.pickC (5 : Int)).good m ∧ n = o.length ∧ o.length ≤ B)) (ifT (decide (((g o
 (sh1.pickC (5 : Int))).fst.length + (1 : Nat)) * (56 : Nat) ≤ (140737488355328 : Nat)) && decide ((g o (sh1.pickC (5 : Int))).fst.length + (1 : Nat) ≤ maxI)) (some (V.ref
 2 0 ((g o (sh1.pickC (5 : Int))).fst.length + (1 : Nat)), [some (Blk.box [V.sl (Cd.int .u8) (g o (sh1.pickC (5 : Int))).snd.l, V.i .i64 (g o (sh1.pickC (5 : Int))).snd.a,
 V.i .u64 (g o (sh1.pickC (5 : Int))).snd.s]), none, some (Blk.row false none ((Cd.int .i64).pair ((Cd.int .i64).pair ((Cd.int .i64).pair (Cd.str.pair ((Cd.int .i64).pair
 ((Cd.int .i64).pair Cd.unit)))))) (List.take (g o (sh1.pickC (5 : Int))).fst.length (List.drop (0 : Nat) (g o (sh1.pickC (5 : Int))).fst) ++ (IntKind.i64.wrap ((1 : Int)
 + sh1.pickV (5 : Int)), (0 : Int), (0 : Int), nilT UInt8, IntKind.i64.wrap ((↑(g o (sh1.pickC (5 : Int))).fst.length : Int) - (1 : Int)), (0 : Int), ()) :: sh3))]))))
 (ifT (decide (IntKind.i64.wrap (d - (1 : Int)) = d - (1 : Int) ∧ (0 : Int) ≤ d - (1 : Int) ∧ (sh1.pickC (5 : Int)).good m ∧ n = o.length ∧ o.length ≤ B)) (ifT (decide
 (IntKind.i64.wrap (d - (1 : Int)) = d - (1 : Int) ∧ (0 : Int) ≤ d - (1 : Int) ∧ (g o (sh1.pickC (5 : Int))).snd.good m ∧ (g o (sh1.pickC (5 : Int))).fst.length = (g o
 (sh1.pickC (5 : Int))).fst.length ∧ (g o (sh1.pickC (5 : Int))).fst.length ≤ B)) (ifT (decide (((g (g o (sh1.pickC (5 : Int))).fst (g o (sh1.pickC (5 :
 Int))).snd).fst.length + (1 : Nat)) * (56 : Nat) ≤ (140737488355328 : Nat)) && decide ((g (g o (sh1.pickC (5 : Int))).fst (g o (sh1.pickC (5 : Int))).snd).fst.length + (1
 : Nat) ≤ maxI)) (some (V.ref 2 0 ((g (g o (sh1.pickC (5 : Int))).fst (g o (sh1.pickC (5 : Int))).snd).fst.length + (1 : Nat)), [some (Blk.box [V.sl (Cd.int .u8) (g (g o
 (sh1.pickC (5 : Int))).fst (g o (sh1.pickC (5 : Int))).snd).snd.l, V.i .i64 (g (g o (sh1.pickC (5 : Int))).fst (g o (sh1.pickC (5 : Int))).snd).snd.a, V.i .u64 (g (g o
 (sh1.pickC (5 : Int))).fst (g o (sh1.pickC (5 : Int))).snd).snd.s]), none, some (Blk.row false none ((Cd.int .i64).pair ((Cd.int .i64).pair ((Cd.int .i64).pair
 (Cd.str.pair ((Cd.int .i64).pair ((Cd.int .i64).pair Cd.unit)))))) (List.take (g (g o (sh1.pickC (5 : Int))).fst (g o (sh1.pickC (5 : Int))).snd).fst.length (List.drop (0
 : Nat) (g (g o (sh1.pickC (5 : Int))).fst (g o (sh1.pickC (5 : Int))).snd).fst) ++ (IntKind.i64.wrap ((1 : Int) + sh1.pickV (5 : Int)), (0 : Int), (0 : Int), nilT UInt8,
 IntKind.i64.wrap ((↑(g o (sh1.pickC (5 : Int))).fst.length : Int) - (1 : Int)), IntKind.i64.wrap ((↑(g (g o (sh1.pickC (5 : Int))).fst (g o (sh1.pickC (5 :
 Int))).snd).fst.length : Int) - (1 : Int)), ()) :: sh3))])))))))) (ifB (decide (IntKind.i64.wrap ((1 : Int) + (Cur.mk l a s).pickV (8 : Int)) ≤ (5 : Int))) (ifT (decide
 (sh1.good (900000000 : Int))) (ifB (decide (IntKind.i64.wrap ((1 : Int) + (Cur.mk l a s).pickV (8 : Int)) ≤ (3 : Int))) (ifT (decide ((sh1.pickC (6 : Int)).good
 (900000000 : Int))) (ifB (IntKind.i64.wrap ((1 : Int) + (Cur.mk l a s).pickV (8 : Int)) == (5 : Int)) (ifT (decide (((sh1.pickC (6 : Int)).pickC (12 : Int)).good
 (900000000 : Int) ∧ (1 : Nat) ≤ (4 : Nat) ∧ (4 : Nat) ≤ (4 : Nat))) (ifT (decide ((n + (1 : Nat)) * (56 : Nat) ≤ (140737488355328 : Nat)) && decide (n + (1 : Nat) ≤
 maxI)) (some (V.ref 2 0 (n + (1 : Nat)), [some (Blk.box [V.sl (Cd.int .u8) (((sh1.pickC (6 : Int)).pickC (12 : Int)).pickC (↑(4 : Nat) : Int)).l, V.i .i64 (((sh1.pickC (6
 : Int)).pickC (12 : Int)).pickC (↑(4 : Nat) : Int)).a, V.i .u64 (((sh1.pickC (6 : Int)).pickC (12 : Int)).pickC (↑(4 : Nat) : Int)).s]), none, some (Blk.row false none
 ((Cd.int .i64).pair ((Cd.int .i64).pair ((Cd.int .i64).pair (Cd.str.pair ((Cd.int .i64).pair ((Cd.int .i64).pair Cd.unit)))))) (sh2 ++ (IntKind.i64.wrap ((1 : Int) +
 (Cur.mk l a s).pickV (8 : Int)), IntKind.i64.wrap ((1 : Int) + sh1.pickV (6 : Int)), IntKind.i64.wrap ((sh1.pickC (6 : Int)).pickV (12 : Int) - (4 : Int)), (nilT UInt8 ::
 ((97 : UInt8) :: nilT UInt8) :: ((115 : UInt8) :: (111 : UInt8) :: (109 : UInt8) :: (101 : UInt8) :: nilT UInt8) :: ((120 : UInt8) :: nilT UInt8) :: nilT Cd.str.den).getD
 ((0 : Nat) + (((sh1.pickC (6 : Int)).pickC (12 : Int)).pickV (↑(4 : Nat) : Int)).toNat) (nilT UInt8), (0 : Int), (0 : Int), ()) :: sh3))])))) (ifT (decide ((n + (1 :
 Nat)) * (56 : Nat) ≤ (140737488355328 : Nat)) && decide (n + (1 : Nat) ≤ maxI)) (some (V.ref 2 0 (n + (1 : Nat)), [some (Blk.box [V.sl (Cd.int .u8) ((sh1.pickC (6 :
 Int)).pickC (12 : Int)).l, V.i .i64 ((sh1.pickC (6 : Int)).pickC (12 : Int)).a, V.i .u64 ((sh1.pickC (6 : Int)).pickC (12 : Int)).s]), none, some (Blk.row false none
 ((Cd.int .i64).pair ((Cd.int .i64).pair ((Cd.int .i64).pair (Cd.str.pair ((Cd.int .i64).pair ((Cd.int .i64).pair Cd.unit)))))) (sh2 ++ (IntKind.i64.wrap ((1 : Int) +
 (Cur.mk l a s).pickV (8 : Int)), IntKind.i64.wrap ((1 : Int) + sh1.pickV (6 : Int)), IntKind.i64.wrap ((sh1.pickC (6 : Int)).pickV (12 : Int) - (4 : Int)), nilT UInt8, (0
 : Int), (0 : Int), ()) :: sh3))]))))) (ifB (IntKind.i64.wrap ((1 : Int) + (Cur.mk l a s).pickV (8 : Int)) == (5 : Int)) (ifT (decide ((sh1.pickC (6 : Int)).good
 (900000000 : Int) ∧ (1 : Nat) ≤ (4 : Nat) ∧ (4 : Nat) ≤ (4 : Nat))) (ifT (decide ((n + (1 : Nat)) * (56 : Nat) ≤ (140737488355328 : Nat)) && decide (n + (1 : Nat) ≤
 maxI)) (some (V.ref 2 0 (n + (1 : Nat)), [some (Blk.box [V.sl (Cd.int .u8) ((sh1.pickC (6 : Int)).pickC (↑(4 : Nat) : Int)).l, V.i .i64 ((sh1.pickC (6 : Int)).pickC (↑(4
 : Nat) : Int)).a, V.i .u64 ((sh1.pickC (6 : Int)).pickC (↑(4 : Nat) : Int)).s]), none, some (Blk.row false none ((Cd.int .i64).pair ((Cd.int .i64).pair ((Cd.int
 .i64).pair (Cd.str.pair ((Cd.int .i64).pair ((Cd.int .i64).pair Cd.unit)))))) (sh2 ++ (IntKind.i64.wrap ((1 : Int) + (Cur.mk l a s).pickV (8 : Int)), IntKind.i64.wrap ((1
 : Int) + sh1.pickV (6 : Int)), (0 : Int), (nilT UInt8 :: ((97 : UInt8) :: nilT UInt8) :: ((115 : UInt8) :: (111 : UInt8) :: (109 : UInt8) :: (101 : UInt8) :: nilT UInt8)
 :: ((120 : UInt8) :: nilT UInt8) :: nilT Cd.str.den).getD ((0 : Nat) + ((sh1.pickC (6 : Int)).pickV (↑(4 : Nat) : Int)).toNat) (nilT UInt8), (0 : Int), (0 : Int), ()) ::
 sh3))])))) (ifT (decide ((n + (1 : Nat)) * (56 : Nat) ≤ (140737488355328 : Nat)) && decide (n + (1 : Nat) ≤ maxI)) (some (V.ref 2 0 (n + (1 : Nat)), [some (Blk.box [V.sl
 (Cd.int .u8) (sh1.pickC (6 : Int)).l, V.i .i64 (sh1.pickC (6 : Int)).a, V.i .u64 (sh1.pickC (6 : Int)).s]), none, some (Blk.row false none ((Cd.int .i64).pair ((Cd.int
 .i64).pair ((Cd.int .i64).pair (Cd.str.pair ((Cd.int .i64).pair ((Cd.int .i64).pair Cd.unit)))))) (sh2 ++ (IntKind.i64.wrap ((1 : Int) + (Cur.mk l a s).pickV (8 : Int)),
 IntKind.i64.wrap ((1 : Int) + sh1.pickV (6 : Int)), (0 : Int), nilT UInt8, (0 : Int), (0 : Int), ()) :: sh3))])))))) (ifB (IntKind.i64.wrap ((1 : Int) + (Cur.mk l a
 s).pickV (8 : Int)) == (8 : Int)) (ifT (decide (IntKind.i64.wrap (d - (1 : Int)) = d - (1 : Int) ∧ (0 : Int) ≤ d - (1 : Int) ∧ sh1.good m ∧ n = o.length ∧ o.length ≤ B))
 (ifT (decide (((g o sh1).fst.length + (1 : Nat)) * (56 : Nat) ≤ (140737488355328 : Nat)) && decide ((g o sh1).fst.length + (1 : Nat) ≤ maxI)) (some (V.ref 2 0 ((g o
 sh1).fst.length + (1 : Nat)), [some (Blk.box [V.sl (Cd.int .u8) (g o sh1).snd.l, V.i .i64 (g o sh1).snd.a, V.i .u64 (g o sh1).snd.s]), none, some (Blk.row false none
 ((Cd.int .i64).pair ((Cd.int .i64).pair ((Cd.int .i64).pair (Cd.str.pair ((Cd.int .i64).pair ((Cd.int .i64).pair Cd.unit)))))) (List.take (g o sh1).fst.length (List.drop
 (0 : Nat) (g o sh1).fst) ++ (IntKind.i64.wrap ((1 : Int) + (Cur.mk l a s).pickV (8 : Int)), (0 : Int), (0 : Int), nilT UInt8, IntKind.i64.wrap ((↑(g o sh1).fst.length :
 Int) - (1 : Int)), (0 : Int), ()) :: sh3))])))) (ifT (decide (IntKind.i64.wrap (d - (1 : Int)) = d - (1 : Int) ∧ (0 : Int) ≤ d - (1 : Int) ∧ sh1.good m ∧ n = o.length ∧
 o.length ≤ B)) (ifT (decide (IntKind.i64.wrap (d - (1 : Int)) = d - (1 : Int) ∧ (0 : Int) ≤ d - (1 : Int) ∧ (g o sh1).snd.good m ∧ (g o sh1).fst.length = (g o
 sh1).fst.length ∧ (g o sh1).fst.length ≤ B)) (ifT (decide (((g (g o sh1).fst (g o sh1).snd).fst.length + (1 : Nat)) * (56 : Nat) ≤ (140737488355328 : Nat)) && decide ((g
 (g o sh1).fst (g o sh1).snd).fst.length + (1 : Nat) ≤ maxI)) (some (V.ref 2 0 ((g (g o sh1).fst (g o sh1).snd).fst.length + (1 : Nat)), [some (Blk.box [V.sl (Cd.int .u8)
 (g (g o sh1).fst (g o sh1).snd).snd.l, V.i .i64 (g (g o sh1).fst (g o sh1).snd).snd.a, V.i .u64 (g (g o sh1).fst (g o sh1).snd).snd.s]), none, some (Blk.row false none
 ((Cd.int .i64).pair ((Cd.int .i64).pair ((Cd.int .i64).pair (Cd.str.pair ((Cd.int .i64).pair ((Cd.int .i64).pair Cd.unit)))))) (List.take (g (g o sh1).fst (g o
 sh1).snd).fst.length (List.drop (0 : Nat) (g (g o sh1).fst (g o sh1).snd).fst) ++ (IntKind.i64.wrap ((1 : Int) + (Cur.mk l a s).pickV (8 : Int)), (0 : Int), (0 : Int),
 nilT UInt8, IntKind.i64.wrap ((↑(g o sh1).fst.length : Int) - (1 : Int)), IntKind.i64.wrap ((↑(g (g o sh1).fst (g o sh1).snd).fst.length : Int) - (1 : Int)), ()) ::
 sh3))]))))))))) : _) := by kernel_rfl
theorem dw0_ex (d m m' K : Int) (L : Nat) (h0 : m + 10 + K ≤ m') (h1 : m' ≤ 800000000) (hK : 0 ≤ K) (hL : L ≤ 100) (B B' : Nat) (hB : B + 100 ≤ B') (hB2 : B' ≤ 1000) (hd : 0 ≤ d ∧ d ≤ 100) (f : Cur → List Wt × Cur) (g : List Wt → Cur → List Wt × Cur) (pf : 0 < d → ∀ c n, c.good n → n ≤ m' → (f c).2.good (n + K) ∧ 1 ≤ (f c).1.length ∧ (f c).1.length ≤ L) (pg : 0 < d → ∀ o c n, o.length ≤ B' → c.good n → n ≤ m' → (g o c).2.good (n + K) ∧ 1 ≤ (g o c).1.length ∧ (g o c).1.length ≤ o.length + L) (l : List Int) (a s : Int)  (hc : (Cur.mk l a s).good m) : Ex1 (funC Try.prog (look [(56, .own cpickG), (137, .own cofG), (180, .own (dwG (d - 1) m' B' f g))]) (look []) Try.f180 [.ptr 0 0, .i .i64 d, .nl] [.box [.sl (.int .u8) l, .i .i64 a, .i .u64 s]]) (fun y : List Wt × Cur => ((.ref 1 0 y.1.length, [some (cB y.2), some (.row false none (.pair (.int .i64) (.pair (.int .i64) (.pair (.int .i64) (.pair .str (.pair (.int .i64) (.pair (.int .i64) .unit)))))) y.1)]) : V × List (Option Blk))) (fun y => ∀ n, (Cur.mk l a s).good n → n ≤ m → y.2.good (n + (10 + 2 * K)) ∧ 1 ≤ y.1.length ∧ y.1.length ≤ 2 * L + 1) := by
  refine Ex1.of (dw0_tree d m' B' f g l a s ) ?_
  have hM : maxI = 9223372036854775807 := rfl
  have w1 : IntKind.i64.wrap (d - 1) = d - 1 := wrap_id (by omega) (by omega)
  have g9 : ((Cur.mk l a s).pickC 8).good 900000000 := Cur.pk (Cur.good_mono hc (by omega))
  have r5 := Cur.pickV_range (k := 5) g9 (by omega)
  have bad : decide (d ≤ 0) = true → decide (IntKind.i64.wrap (1 + ((Cur.mk l a s).pickC 8).pickV 5) ≤ 5) = false → False := fun _ h => by
    have := of_decide_eq_false h
    rw [wrap_id (by omega) (by omega)] at this
    omega
  have G : ∀ {c : Cur} {k : Int}, (∀ n, (Cur.mk l a s).good n → c.good (n + k)) → k ≤ 10 → c.good m' ∧ c.good 900000000 := fun h hk => ⟨Cur.good_mono (h m hc) (by omega), Cur.good_mono (h m hc) (by omega)⟩
  repeat with_reducible refine Ex1.sh ?_
  simp only [w1, cB_fold, nilT_eq, List.drop_zero, List.take_length]
  repeat' first
    | (exfalso; exact bad ‹_› ‹_›)
    | with_reducible refine Ex1.B (fun h => ?_) (fun h => ?_)
    | with_reducible refine Ex1.T ?_ ?_
  all_goals first
    | (exfalso; exact bad ‹_› ‹_›)
    | (refine decide_eq_true ?_; (repeat with_reducible apply Cur.pk); exact Cur.good_mono hc (by omega))
    | (refine decide_eq_true ⟨?_, by omega, by omega⟩; (repeat with_reducible apply Cur.pk); exact Cur.good_mono hc (by omega))
    | (simp only [Bool.and_eq_true, decide_eq_true_eq]; omega)
    | skip
  all_goals try have hp : 0 < d := (by have := of_decide_eq_false ‹decide (d ≤ 0) = false›; omega)
  all_goals first
    | (refine decide_eq_true ⟨trivial, by omega, ?_⟩; (repeat with_reducible apply Cur.pk); exact Cur.good_mono hc (by omega))
    | (refine decide_eq_true ⟨rfl, by omega, ?_⟩; (repeat with_reducible apply Cur.pk); exact Cur.good_mono hc (by omega))
    | exact Ex1.c _ rfl rfl fun n hn hm => ⟨(by (repeat with_reducible apply Cur.pk); exact Cur.good_mono hn (by omega)), by simp, by simp; try omega⟩
    | (have q := pf hp ((Cur.mk l a s).pickC 8) (m + 2) (Cur.pickC_good hc) (by omega)
       first
         | (refine decide_eq_true ⟨trivial, by omega, Cur.good_mono q.1 (by omega), trivial, ?_⟩; have := q.2.2; omega)
         | (simp only [Bool.and_eq_true, decide_eq_true_eq]; have := q.2.2; exact ⟨by omega, by omega⟩)
         | (have q2 := pg hp (f ((Cur.mk l a s).pickC 8)).1 (f ((Cur.mk l a s).pickC 8)).2 (m + 2 + K) (by have := q.2.2; omega) q.1 (by omega); simp only [Bool.and_eq_true, decide_eq_true_eq]; have := q.2.2; have := q2.2.2; exact ⟨by omega, by omega⟩)
         | (refine Ex1.c ((f ((Cur.mk l a s).pickC 8)).1 ++ [_]) rfl (by simp) fun n hn hm => ?_
            have q := pf hp ((Cur.mk l a s).pickC 8) (n + 2) (Cur.pickC_good hn) (by omega)
            exact ⟨Cur.good_mono q.1 (by omega), by simp, by have := q.2.2; simp; omega⟩)
         | (refine Ex1.c ((g (f ((Cur.mk l a s).pickC 8)).1 (f ((Cur.mk l a s).pickC 8)).2).1 ++ [_]) rfl (by simp) fun n hn hm => ?_
            have q := pf hp ((Cur.mk l a s).pickC 8) (n + 2) (Cur.pickC_good hn) (by omega)
            have q2 := pg hp (f ((Cur.mk l a s).pickC 8)).1 (f ((Cur.mk l a s).pickC 8)).2 (n + 2 + K) (by have := q.2.2; omega) q.1 (by omega)
            exact ⟨Cur.good_mono q2.1 (by omega), by simp, by have := q.2.2; have := q2.2.2; simp; omega⟩))
theorem dw1_ex (d m m' K : Int) (L : Nat) (h0 : m + 10 + K ≤ m') (h1 : m' ≤ 800000000) (hK : 0 ≤ K) (hL : L ≤ 100) (B B' : Nat) (hB : B + 100 ≤ B') (hB2 : B' ≤ 1000) (hd : 0 ≤ d ∧ d ≤ 100) (f : Cur → List Wt × Cur) (g : List Wt → Cur → List Wt × Cur) (pf : 0 < d → ∀ c n, c.good n → n ≤ m' → (f c).2.good (n + K) ∧ 1 ≤ (f c).1.length ∧ (f c).1.length ≤ L) (pg : 0 < d → ∀ o c n, o.length ≤ B' → c.good n → n ≤ m' → (g o c).2.good (n + K) ∧ 1 ≤ (g o c).1.length ∧ (g o c).1.length ≤ o.length + L) (l : List Int) (a s : Int) (nl : Option Bool) (o : List Wt) (hc : (Cur.mk l a s).good m) (ho : o.length ≤ B) : Ex1 (funC Try.prog (look [(56, .own cpickG), (137, .own cofG), (180, .own (dwG (d - 1) m' B' f g))]) (look []) Try.f180 [.ptr 0 0, .i .i64 d, .ref 1 0 o.length] [.box [.sl (.int .u8) l, .i .i64 a, .i .u64 s], .row false nl (.pair (.int .i64) (.pair (.int .i64) (.pair (.int .i64) (.pair .str (.pair (.int .i64) (.pair (.int .i64) .unit)))))) o]) (fun y : List Wt × Cur => ((.ref 2 0 y.1.length, [some (cB y.2), none, some (.row false none (.pair (.int .i64) (.pair (.int .i64) (.pair (.int .i64) (.pair .str (.pair (.int .i64) (.pair (.int .i64) .unit)))))) y.1)]) : V × List (Option Blk))) (fun y => ∀ n, (Cur.mk l a s).good n → n ≤ m → y.2.good (n + (10 + 2 * K)) ∧ 1 ≤ y.1.length ∧ y.1.length ≤ o.length + 2 * L + 1) := by
  refine Ex1.of (dw1_tree d m' B' f g l a s o.length nl o) ?_
  have hM : maxI = 9223372036854775807 := rfl
  have w1 : IntKind.i64.wrap (d - 1) = d - 1 := wrap_id (by omega) (by omega)
  have g9 : ((Cur.mk l a s).pickC 8).good 900000000 := Cur.pk (Cur.good_mono hc (by omega))
  have r5 := Cur.pickV_range (k := 5) g9 (by omega)
  have bad : decide (d ≤ 0) = true → decide (IntKind.i64.wrap (1 + ((Cur.mk l a s).pickC 8).pickV 5) ≤ 5) = false → False := fun _ h => by
    have := of_decide_eq_false h
    rw [wrap_id (by omega) (by omega)] at this
    omega
  have G : ∀ {c : Cur} {k : Int}, (∀ n, (Cur.mk l a s).good n → c.good (n + k)) → k ≤ 10 → c.good m' ∧ c.good 900000000 := fun h hk => ⟨Cur.good_mono (h m hc) (by omega), Cur.good_mono (h m hc) (by omega)⟩
  repeat with_reducible refine Ex1.sh ?_
  simp only [w1, cB_fold, nilT_eq, List.drop_zero, List.take_length]
  repeat' first
    | (exfalso; exact bad ‹_› ‹_›)
    | with_reducible refine Ex1.B (fun h => ?_) (fun h => ?_)
    | with_reducible refine Ex1.T ?_ ?_
  all_goals first
    | (exfalso; exact bad ‹_› ‹_›)
    | (refine decide_eq_true ?_; (repeat with_reducible apply Cur.pk); exact Cur.good_mono hc (by omega))
    | (refine decide_eq_true ⟨?_, by omega, by omega⟩; (repeat with_reducible apply Cur.pk); exact Cur.good_mono hc (by omega))
    | (simp only [Bool.and_eq_true, decide_eq_true_eq]; omega)
    | skip
  all_goals try have hp : 0 < d := (by have := of_decide_eq_false ‹decide (d ≤ 0) = false›; omega)
  all_goals first
    | (refine decide_eq_true ⟨trivial, by omega, ?_, trivial, by omega⟩; (repeat with_reducible apply Cur.pk); exact Cur.good_mono hc (by omega))
    | (refine decide_eq_true ⟨rfl, by omega, ?_, trivial, by omega⟩; (repeat with_reducible apply Cur.pk); exact Cur.good_mono hc (by omega))
    | (refine decide_eq_true ⟨trivial, by omega, ?_, rfl, by omega⟩; (repeat with_reducible apply Cur.pk); exact Cur.good_mono hc (by omega))
    | exact Ex1.c2 (o ++ [_]) rfl (by simp) fun n hn hm => ⟨(by (repeat with_reducible apply Cur.pk); exact Cur.good_mono hn (by omega)), by simp, by simp; try omega⟩
    | (have q := pg hp o ((Cur.mk l a s).pickC 8) (m + 2) (by omega) (Cur.pickC_good hc) (by omega)
       first
         | (refine decide_eq_true ⟨trivial, by omega, Cur.good_mono q.1 (by omega), trivial, ?_⟩; have := q.2.2; omega)
         | (simp only [Bool.and_eq_true, decide_eq_true_eq]; have := q.2.2; exact ⟨by omega, by omega⟩)
         | (have q2 := pg hp (g o ((Cur.mk l a s).pickC 8)).1 (g o ((Cur.mk l a s).pickC 8)).2 (m + 2 + K) (by have := q.2.2; omega) q.1 (by omega); simp only [Bool.and_eq_true, decide_eq_true_eq]; have := q.2.2; have := q2.2.2; exact ⟨by omega, by omega⟩)
         | (refine Ex1.c2 ((g o ((Cur.mk l a s).pickC 8)).1 ++ [_]) rfl (by simp) fun n hn hm => ?_
            have q := pg hp o ((Cur.mk l a s).pickC 8) (n + 2) (by omega) (Cur.pickC_good hn) (by omega)
            exact ⟨Cur.good_mono q.1 (by omega), by simp, by have := q.2.2; simp; omega⟩)
         | (refine Ex1.c2 ((g (g o ((Cur.mk l a s).pickC 8)).1 (g o ((Cur.mk l a s).pickC 8)).2).1 ++ [_]) rfl (by simp) fun n hn hm => ?_
            have q := pg hp o ((Cur.mk l a s).pickC 8) (n + 2) (by omega) (Cur.pickC_good hn) (by omega)
            have q2 := pg hp (g o ((Cur.mk l a s).pickC 8)).1 (g o ((Cur.mk l a s).pickC 8)).2 (n + 2 + K) (by have := q.2.2; omega) q.1 (by omega)
            exact ⟨Cur.good_mono q2.1 (by omega), by simp, by have := q.2.2; have := q2.2.2; simp; omega⟩))

def dwaG (f : Int → Cur → List Wt × Cur) : List V → List Blk → Br (V × List (Option Blk))
  | [.ptr 0 0, .i .i64 x, .nl], [.box [.sl (.int .u8) l, .i .i64 a, .i .u64 s]] => .need (decide (0 ≤ x ∧ x ≤ 3 ∧ (Cur.mk l a s).good 86000000)) (.leaf (.ref 1 0 (f x (Cur.mk l a s)).1.length, [some (cB (f x (Cur.mk l a s)).2), some (.row false none (.pair (.int .i64) (.pair (.int .i64) (.pair (.int .i64) (.pair .str (.pair (.int .i64) (.pair (.int .i64) .unit)))))) (f x (Cur.mk l a s)).1)]))
  | _, _ => .no
def dfltG (f : Cur → (List Wt) × Cur) : List V → List Blk → Br (V × List (Option Blk))
  | [.ptr 0 0], [.box [.sl (.int .u8) l, .i .i64 a, .i .u64 s]] => .need (decide ((Cur.mk l a s).good 80000000)) (.leaf (.agg [.ref 1 0 (f  (Cur.mk l a s)).1.length], [some (cB (f  (Cur.mk l a s)).2), some (.row false none (.pair (.int .i64) (.pair (.int .i64) (.pair (.int .i64) (.pair .str (.pair (.int .i64) (.pair (.int .i64) .unit)))))) (f  (Cur.mk l a s)).1)]))
  | _, _ => .no

def WEx (d m K : Int) (L B : Nat) : Prop := ∃ (f : Cur → List Wt × Cur) (g : List Wt → Cur → List Wt × Cur), Contract Try.prog 180 (Ent.own (dwG d m B f g)).F ∧ (0 ≤ d → ∀ c n, c.good n → n ≤ m → (f c).2.good (n + K) ∧ 1 ≤ (f c).1.length ∧ (f c).1.length ≤ L) ∧ (0 ≤ d → ∀ o c n, o.length ≤ B → c.good n → n ≤ m → (g o c).2.good (n + K) ∧ 1 ≤ (g o c).1.length ∧ (g o c).1.length ≤ o.length + L)
theorem we_no (m K : Int) (L B : Nat) : WEx (-1) m K L B := by
  refine ⟨fun c => ([], c), fun o c => ([], c), contract_no fun vs bs => ?_, fun h => by omega, fun h => by omega⟩
  unfold Ent.F dwG
  dsimp only
  split
  · unfold dw0G
    dsimp only
    split
    · rename_i l a s
      rw [decide_eq_false (by omega)]; rfl
    · rfl
  · unfold dw1G
    dsimp only
    split
    · rw [decide_eq_false (by omega)]; rfl
    · rfl
set_option maxHeartbeats 4000000 in
theorem w_step {d d' m m' K : Int} {L B B' : Nat} (h : WEx d' m' K L B') (hdd : d' = d - 1) (h0 : m + 10 + K ≤ m') (h1 : m' ≤ 800000000) (hK : 0 ≤ K) (hL : L ≤ 100) (hB : B + 100 ≤ B') (hB2 : B' ≤ 1000) (hd : 0 ≤ d ∧ d ≤ 100) : WEx d m (10 + 2 * K) (2 * L + 1) B := by
  subst hdd
  obtain ⟨f, g, hw, pf, pg⟩ := h
  have pf := fun (h : 0 < d) => pf (by omega)
  have pg : 0 < d → ∀ o c n, o.length ≤ B' → c.good n → n ≤ m' → (g o c).2.good (n + K) ∧ 1 ≤ (g o c).1.length ∧ (g o c).1.length ≤ o.length + L := fun h => pg (by omega)
  have ex0 := fun (c : Cur) (hc : c.good m) => dw0_ex d m m' K L h0 h1 hK hL B B' hB hB2 hd f g pf pg c.l c.a c.s hc
  have ex1 := fun (o : List Wt) (c : Cur) (nl : Option Bool) (h : c.good m ∧ o.length ≤ B) => dw1_ex d m m' K L h0 h1 hK hL B B' hB hB2 hd f g pf pg c.l c.a c.s nl o h.1 h.2
  have nlq : ∀ (o : List Wt) (c : Cur) (nl : Option Bool), funC Try.prog (look [(56, .own cpickG), (137, .own cofG), (180, .own (dwG (d - 1) m' B' f g))]) (look []) Try.f180 [.ptr 0 0, .i .i64 d, .ref 1 0 o.length] [.box [.sl (.int .u8) c.l, .i .i64 c.a, .i .u64 c.s], .row false nl (.pair (.int .i64) (.pair (.int .i64) (.pair (.int .i64) (.pair .str (.pair (.int .i64) (.pair (.int .i64) .unit)))))) o] = funC Try.prog (look [(56, .own cpickG), (137, .own cofG), (180, .own (dwG (d - 1) m' B' f g))]) (look []) Try.f180 [.ptr 0 0, .i .i64 d, .ref 1 0 o.length] [.box [.sl (.int .u8) c.l, .i .i64 c.a, .i .u64 c.s], .row false none (.pair (.int .i64) (.pair (.int .i64) (.pair (.int .i64) (.pair .str (.pair (.int .i64) (.pair (.int .i64) .unit)))))) o] := fun o c nl => (dw1_tree d m' B' f g c.l c.a c.s o.length nl o).trans (dw1_tree d m' B' f g c.l c.a c.s o.length none o).symm
  classical
  refine ⟨fun c => if h : c.good m then (ex0 c h).choose else ([], c), fun o c => if h : c.good m ∧ o.length ≤ B then (ex1 o c none h).choose else ([], c), ?_, fun _ c n hc hn => ?_, fun _ o c n ho hc hn => ?_⟩
  rotate_left
  · have h := Cur.good_mono hc hn
    simp only [dif_pos h]
    exact (ex0 c h).choose_spec.2 n hc hn
  · have h : c.good m ∧ o.length ≤ B := ⟨Cur.good_mono hc hn, ho⟩
    simp only [dif_pos h]
    exact (ex1 o c none h).choose_spec.2 n hc hn
  refine fun_contractC' (KnowsL.cons (enters_fn Try.func56 (by kernel_rfl) (by kernel_rfl)) cpick (KnowsL.cons (enters_fn Try.func137 (by kernel_rfl) (by kernel_rfl)) cof (KnowsL.cons (enters_fn Try.func180 (by kernel_rfl) (by kernel_rfl)) hw KnowsL.nil))).knows (Λ := look []) Try.func180 (c := Try.f180.body.getD .skip) (by kernel_rfl) fun vs bs r hq hv hb => ?_
  unfold Ent.F dwG at hq
  dsimp only at hq
  split at hq
  · unfold dw0G at hq
    dsimp only at hq
    split at hq
    · rename_i x l a s heq
      obtain ⟨hc, hx⟩ := need_some hq
      obtain ⟨hxd, h1, h2⟩ := of_decide_eq_true hc
      rw [heq, hxd]
      refine ⟨loopsOk_nil _, ((ex0 (Cur.mk l a s) h2).choose_spec.1).trans ?_⟩
      rw [dif_pos h2] at hx
      exact hx
    · cases hq
  · unfold dw1G at hq
    dsimp only at hq
    split at hq
    · rename_i x n l a s nl o _
      obtain ⟨hc, hx⟩ := need_some hq
      obtain ⟨hxd, h1, h2, hno, h4⟩ := of_decide_eq_true hc
      rw [hxd, hno]
      refine ⟨loopsOk_nil _, ((nlq o (Cur.mk l a s) nl).trans (ex1 o (Cur.mk l a s) none ⟨h2, h4⟩).choose_spec.1).trans ?_⟩
      rw [dif_pos ⟨h2, h4⟩] at hx
      exact hx
    · cases hq
theorem WEx.weak {d m K m2 K2 : Int} {L B L2 : Nat} (h : WEx d m K L B) (h1 : m2 ≤ m) (h2 : K ≤ K2) (h3 : L ≤ L2) : ∃ f : Cur → List Wt × Cur, Contract Try.prog 180 (Ent.own (dw0G d m2 B f)).F ∧ (0 ≤ d → ∀ c n, c.good n → n ≤ m2 → (f c).2.good (n + K2) ∧ 1 ≤ (f c).1.length ∧ (f c).1.length ≤ L2) := by
  obtain ⟨f, g, hw, pf, _⟩ := h
  refine ⟨f, contract_weak hw fun vs bs r hq => ?_, fun hd c n hc hn => ?_⟩
  · unfold Ent.F dw0G at hq
    dsimp only at hq
    split at hq
    · rename_i x l a s
      obtain ⟨hc, hx⟩ := need_some hq
      obtain ⟨q1, q2, q3⟩ := of_decide_eq_true hc
      show (Br.need (decide (x = d ∧ 0 ≤ d ∧ (Cur.mk l a s).good m)) (.leaf (.ref 1 0 (f (Cur.mk l a s)).1.length, [some (cB (f (Cur.mk l a s)).2), some (.row false none (.pair (.int .i64) (.pair (.int .i64) (.pair (.int .i64) (.pair .str (.pair (.int .i64) (.pair (.int .i64) .unit)))))) (f (Cur.mk l a s)).1)]))).run = some r
      rw [decide_eq_true ⟨q1, q2, Cur.good_mono q3 h1⟩]
      exact hx
    · cases hq
  · have := pf hd c n hc (by omega)
    exact ⟨Cur.good_mono this.1 (by omega), this.2.1, by omega⟩
theorem we0 : WEx 0 89000000 10 1 900 := w_step (m' := 90000000) (K := 0) (L := 0) (B' := 1000) (we_no _ _ _ _) (by omega) (by omega) (by omega) (by omega) (by omega) (by omega) (by omega) (by omega)
theorem we1 : WEx 1 88000000 30 3 800 := w_step we0 (by omega) (by omega) (by omega) (by omega) (by omega) (by omega) (by omega) (by omega)
theorem we2 : WEx 2 87000000 70 7 700 := w_step we1 (by omega) (by omega) (by omega) (by omega) (by omega) (by omega) (by omega) (by omega)
theorem we3 : WEx 3 86000000 150 15 600 := w_step we2 (by omega) (by omega) (by omega) (by omega) (by omega) (by omega) (by omega) (by omega)
theorem we_all (x : Int) (h : 0 ≤ x ∧ x ≤ 3) : ∃ f : Cur → List Wt × Cur, Contract Try.prog 180 (Ent.own (dw0G x 86000000 0 f)).F ∧ ∀ c n, c.good n → n ≤ 86000000 → (f c).2.good (n + 150) ∧ 1 ≤ (f c).1.length ∧ (f c).1.length ≤ 15 := by
  have hx : x = 0 ∨ x = 1 ∨ x = 2 ∨ x = 3 := by omega
  rcases hx with rfl | rfl | rfl | rfl
  · obtain ⟨f, h1, h2⟩ := we0.weak (m2 := 86000000) (K2 := 150) (L2 := 15) (by omega) (by omega) (by omega); exact ⟨f, h1, h2 (by omega)⟩
  · obtain ⟨f, h1, h2⟩ := we1.weak (m2 := 86000000) (K2 := 150) (L2 := 15) (by omega) (by omega) (by omega); exact ⟨f, h1, h2 (by omega)⟩
  · obtain ⟨f, h1, h2⟩ := we2.weak (m2 := 86000000) (K2 := 150) (L2 := 15) (by omega) (by omega) (by omega); exact ⟨f, h1, h2 (by omega)⟩
  · obtain ⟨f, h1, h2⟩ := we3.weak (m2 := 86000000) (K2 := 150) (L2 := 15) (by omega) (by omega) (by omega); exact ⟨f, h1, h2 (by omega)⟩
theorem dwa_ex : ∃ g : Int → Cur → List Wt × Cur, Contract Try.prog 180 (Ent.own (dwaG g)).F ∧ ∀ x c n, 0 ≤ x → x ≤ 3 → c.good n → n ≤ 86000000 → (g x c).2.good (n + 150) ∧ 1 ≤ (g x c).1.length ∧ (g x c).1.length ≤ 15 := by
  obtain ⟨g, hg⟩ := pick_fn (Y := Cur → List Wt × Cur) (fun c => ([], c)) we_all
  refine ⟨g, ?_, fun x c n h0 h3 hc hn => (hg x ⟨h0, h3⟩).2 c n hc hn⟩
  refine contract_rec (F := fun n => (Ent.own (bif decide (n ≤ 3) then dw0G (n : Int) 86000000 0 (g n) else fun _ _ => .no)).F) (fun n _ => ?_) fun vs bs r hq => ?_
  · by_cases h : n ≤ 3
    · rw [decide_eq_true h]
      exact (hg n (by omega)).1
    · rw [decide_eq_false h]
      exact contract_no fun vs bs => rfl
  · unfold Ent.F dwaG at hq
    dsimp only at hq
    split at hq
    · rename_i x l a s
      obtain ⟨hc, hx⟩ := need_some hq
      obtain ⟨q1, q2, q3⟩ := of_decide_eq_true hc
      obtain ⟨x, rfl⟩ := Int.eq_ofNat_of_zero_le q1
      refine ⟨x, ?_⟩
      rw [decide_eq_true (show x ≤ 3 by omega)]
      show (Br.need (decide ((x : Int) = (x : Int) ∧ 0 ≤ (x : Int) ∧ (Cur.mk l a s).good 86000000)) (.leaf (.ref 1 0 (g (x : Int) (Cur.mk l a s)).1.length, [some (cB (g (x : Int) (Cur.mk l a s)).2), some (.row false none (.pair (.int .i64) (.pair (.int .i64) (.pair (.int .i64) (.pair .str (.pair (.int .i64) (.pair (.int .i64) .unit)))))) (g (x : Int) (Cur.mk l a s)).1)]))).run = some r
      rw [decide_eq_true ⟨rfl, q1, q3⟩]
      exact hx
    · cases hq
noncomputable def dwa_f : Int → Cur → List Wt × Cur := dwa_ex.choose
theorem dwa_con : Contract Try.prog 180 (Ent.own (dwaG dwa_f)).F := dwa_ex.choose_spec.1
theorem dwa_pr : ∀ x c n, 0 ≤ x → x ≤ 3 → c.good n → n ≤ 86000000 → (dwa_f x c).2.good (n + 150) ∧ 1 ≤ (dwa_f x c).1.length ∧ (dwa_f x c).1.length ≤ 15 := dwa_ex.choose_spec.2
theorem dflt_tree (g : Int → Cur → List Wt × Cur)  (l : List Int) (a s : Int) : funC Try.prog (look [(56, .own cpickG), (85, .own coneG), (180, .own (dwaG g))]) (look []) Try.f135 [.ptr 0 0] [.box [.sl (.int .u8) l, .i .i64 a, .i .u64 s]] =
  ((shr ((Cur.mk l a s).pickC (4 : Int)) fun sh2 => shr (g ((Cur.mk l a s).pickV (4 : Int)) sh2) fun sh1 => ifT (decide ((Cur.mk l a s).good (900000000 : Int))) (ifT (decide
 ((0 : Int) ≤ (Cur.mk l a s).pickV (4 : Int) ∧ (Cur.mk l a s).pickV (4 : Int) ≤ (3 : Int) ∧ sh2.good (86000000 : Int))) (ifB (decide ((↑sh1.fst.length : Int) > (20 :
 Int))) (ifT (decide (sh1.snd.good (900000000 : Int))) (ifB (!sh1.snd.pickV (6 : Int) == (0 : Int)) (ifT (decide ((0 : Int) ≤ (0 : Int) ∧ (0 : Int) ≤ (3 : Int) ∧
 (sh1.snd.pickC (6 : Int)).good (86000000 : Int))) (ifT (decide ((g (0 : Int) (sh1.snd.pickC (6 : Int))).snd.good (900000000 : Int))) (ifB ((g (0 : Int) (sh1.snd.pickC (6
 : Int))).snd.pickV (20 : Int) == (0 : Int)) (ifT (decide (((g (0 : Int) (sh1.snd.pickC (6 : Int))).snd.pickC (20 : Int)).good (900000000 : Int))) (ifT (decide ((((g (0 :
 Int) (sh1.snd.pickC (6 : Int))).snd.pickC (20 : Int)).pickC (↑(g (0 : Int) (sh1.snd.pickC (6 : Int))).fst.length : Int)).good (900000000 : Int))) (ifB ((((g (0 : Int)
 (sh1.snd.pickC (6 : Int))).snd.pickC (20 : Int)).pickC (↑(g (0 : Int) (sh1.snd.pickC (6 : Int))).fst.length : Int)).pickV (3 : Int) == (0 : Int)) (ifT (decide (((((g (0 :
 Int) (sh1.snd.pickC (6 : Int))).snd.pickC (20 : Int)).pickC (↑(g (0 : Int) (sh1.snd.pickC (6 : Int))).fst.length : Int)).pickC (3 : Int)).good (900000000 : Int))) (ifT
 (decide ((0 : Int) ≤ ((g (0 : Int) (sh1.snd.pickC (6 : Int))).snd.pickC (20 : Int)).pickV (↑(g (0 : Int) (sh1.snd.pickC (6 : Int))).fst.length : Int)) && decide (((g (0 :
 Int) (sh1.snd.pickC (6 : Int))).snd.pickC (20 : Int)).pickV (↑(g (0 : Int) (sh1.snd.pickC (6 : Int))).fst.length : Int) < (↑(g (0 : Int) (sh1.snd.pickC (6 :
 Int))).fst.length : Int))) (ifSome (g (0 : Int) (sh1.snd.pickC (6 : Int))).fst[(0 : Nat) + (((g (0 : Int) (sh1.snd.pickC (6 : Int))).snd.pickC (20 : Int)).pickV (↑(g (0 :
 Int) (sh1.snd.pickC (6 : Int))).fst.length : Int)).toNat]? fun z => some (V.agg [V.ref 1 0 (g (0 : Int) (sh1.snd.pickC (6 : Int))).fst.length], [some (Blk.box [V.sl
 (Cd.int .u8) (((((g (0 : Int) (sh1.snd.pickC (6 : Int))).snd.pickC (20 : Int)).pickC (↑(g (0 : Int) (sh1.snd.pickC (6 : Int))).fst.length : Int)).pickC (3 : Int)).pickC
 (10 : Int)).l, V.i .i64 (((((g (0 : Int) (sh1.snd.pickC (6 : Int))).snd.pickC (20 : Int)).pickC (↑(g (0 : Int) (sh1.snd.pickC (6 : Int))).fst.length : Int)).pickC (3 :
 Int)).pickC (10 : Int)).a, V.i .u64 (((((g (0 : Int) (sh1.snd.pickC (6 : Int))).snd.pickC (20 : Int)).pickC (↑(g (0 : Int) (sh1.snd.pickC (6 : Int))).fst.length :
 Int)).pickC (3 : Int)).pickC (10 : Int)).s]), some (Blk.row false none ((Cd.int .i64).pair ((Cd.int .i64).pair ((Cd.int .i64).pair (Cd.str.pair ((Cd.int .i64).pair
 ((Cd.int .i64).pair Cd.unit)))))) ((g (0 : Int) (sh1.snd.pickC (6 : Int))).fst.set ((0 : Nat) + (((g (0 : Int) (sh1.snd.pickC (6 : Int))).snd.pickC (20 : Int)).pickV (↑(g
 (0 : Int) (sh1.snd.pickC (6 : Int))).fst.length : Int)).toNat) (((((g (0 : Int) (sh1.snd.pickC (6 : Int))).snd.pickC (20 : Int)).pickC (↑(g (0 : Int) (sh1.snd.pickC (6 :
 Int))).fst.length : Int)).pickC (3 : Int)).pickV (10 : Int), z.snd.fst, z.snd.snd.fst, z.snd.snd.snd.fst, z.snd.snd.snd.snd.fst, z.snd.snd.snd.snd.snd.fst, ())))]))))
 (ifB ((((g (0 : Int) (sh1.snd.pickC (6 : Int))).snd.pickC (20 : Int)).pickC (↑(g (0 : Int) (sh1.snd.pickC (6 : Int))).fst.length : Int)).pickV (3 : Int) == (1 : Int))
 (ifT (decide (((((g (0 : Int) (sh1.snd.pickC (6 : Int))).snd.pickC (20 : Int)).pickC (↑(g (0 : Int) (sh1.snd.pickC (6 : Int))).fst.length : Int)).pickC (3 : Int)).good
 (900000000 : Int))) (ifT (decide ((0 : Int) ≤ ((g (0 : Int) (sh1.snd.pickC (6 : Int))).snd.pickC (20 : Int)).pickV (↑(g (0 : Int) (sh1.snd.pickC (6 : Int))).fst.length :
 Int)) && decide (((g (0 : Int) (sh1.snd.pickC (6 : Int))).snd.pickC (20 : Int)).pickV (↑(g (0 : Int) (sh1.snd.pickC (6 : Int))).fst.length : Int) < (↑(g (0 : Int)
 (sh1.snd.pickC (6 : Int))).fst.length : Int))) (ifSome (g (0 : Int) (sh1.snd.pickC (6 : Int))).fst[(0 : Nat) + (((g (0 : Int) (sh1.snd.pickC (6 : Int))).snd.pickC (20 :
 Int)).pickV (↑(g (0 : Int) (sh1.snd.pickC (6 : Int))).fst.length : Int)).toNat]? fun z => some (V.agg [V.ref 1 0 (g (0 : Int) (sh1.snd.pickC (6 : Int))).fst.length],
 [some (Blk.box [V.sl (Cd.int .u8) (((((g (0 : Int) (sh1.snd.pickC (6 : Int))).snd.pickC (20 : Int)).pickC (↑(g (0 : Int) (sh1.snd.pickC (6 : Int))).fst.length :
 Int)).pickC (3 : Int)).pickC (4 : Int)).l, V.i .i64 (((((g (0 : Int) (sh1.snd.pickC (6 : Int))).snd.pickC (20 : Int)).pickC (↑(g (0 : Int) (sh1.snd.pickC (6 :
 Int))).fst.length : Int)).pickC (3 : Int)).pickC (4 : Int)).a, V.i .u64 (((((g (0 : Int) (sh1.snd.pickC (6 : Int))).snd.pickC (20 : Int)).pickC (↑(g (0 : Int)
 (sh1.snd.pickC (6 : Int))).fst.length : Int)).pickC (3 : Int)).pickC (4 : Int)).s]), some (Blk.row false none ((Cd.int .i64).pair ((Cd.int .i64).pair ((Cd.int .i64).pair
 (Cd.str.pair ((Cd.int .i64).pair ((Cd.int .i64).pair Cd.unit)))))) ((g (0 : Int) (sh1.snd.pickC (6 : Int))).fst.set ((0 : Nat) + (((g (0 : Int) (sh1.snd.pickC (6 :
 Int))).snd.pickC (20 : Int)).pickV (↑(g (0 : Int) (sh1.snd.pickC (6 : Int))).fst.length : Int)).toNat) (z.fst, z.snd.fst, z.snd.snd.fst, z.snd.snd.snd.fst,
 IntKind.i64.wrap (((((g (0 : Int) (sh1.snd.pickC (6 : Int))).snd.pickC (20 : Int)).pickC (↑(g (0 : Int) (sh1.snd.pickC (6 : Int))).fst.length : Int)).pickC (3 :
 Int)).pickV (4 : Int) - (1 : Int)), z.snd.snd.snd.snd.snd.fst, ())))])))) (ifT (decide (((((g (0 : Int) (sh1.snd.pickC (6 : Int))).snd.pickC (20 : Int)).pickC (↑(g (0 :
 Int) (sh1.snd.pickC (6 : Int))).fst.length : Int)).pickC (3 : Int)).good (900000000 : Int))) (ifT (decide ((0 : Int) ≤ ((g (0 : Int) (sh1.snd.pickC (6 : Int))).snd.pickC
 (20 : Int)).pickV (↑(g (0 : Int) (sh1.snd.pickC (6 : Int))).fst.length : Int)) && decide (((g (0 : Int) (sh1.snd.pickC (6 : Int))).snd.pickC (20 : Int)).pickV (↑(g (0 :
 Int) (sh1.snd.pickC (6 : Int))).fst.length : Int) < (↑(g (0 : Int) (sh1.snd.pickC (6 : Int))).fst.length : Int))) (ifSome (g (0 : Int) (sh1.snd.pickC (6 : Int))).fst[(0 :
 Nat) + (((g (0 : Int) (sh1.snd.pickC (6 : Int))).snd.pickC (20 : Int)).pickV (↑(g (0 : Int) (sh1.snd.pickC (6 : Int))).fst.length : Int)).toNat]? fun z => some (V.agg
 [V.ref 1 0 (g (0 : Int) (sh1.snd.pickC (6 : Int))).fst.length], [some (Blk.box [V.sl (Cd.int .u8) (((((g (0 : Int) (sh1.snd.pickC (6 : Int))).snd.pickC (20 : Int)).pickC
 (↑(g (0 : Int) (sh1.snd.pickC (6 : Int))).fst.length : Int)).pickC (3 : Int)).pickC (32 : Int)).l, V.i .i64 (((((g (0 : Int) (sh1.snd.pickC (6 : Int))).snd.pickC (20 :
 Int)).pickC (↑(g (0 : Int) (sh1.snd.pickC (6 : Int))).fst.length : Int)).pickC (3 : Int)).pickC (32 : Int)).a, V.i .u64 (((((g (0 : Int) (sh1.snd.pickC (6 :
 Int))).snd.pickC (20 : Int)).pickC (↑(g (0 : Int) (sh1.snd.pickC (6 : Int))).fst.length : Int)).pickC (3 : Int)).pickC (32 : Int)).s]), some (Blk.row false none ((Cd.int
 .i64).pair ((Cd.int .i64).pair ((Cd.int .i64).pair (Cd.str.pair ((Cd.int .i64).pair ((Cd.int .i64).pair Cd.unit)))))) ((g (0 : Int) (sh1.snd.pickC (6 : Int))).fst.set ((0
 : Nat) + (((g (0 : Int) (sh1.snd.pickC (6 : Int))).snd.pickC (20 : Int)).pickV (↑(g (0 : Int) (sh1.snd.pickC (6 : Int))).fst.length : Int)).toNat) (z.fst, ((((g (0 : Int)
 (sh1.snd.pickC (6 : Int))).snd.pickC (20 : Int)).pickC (↑(g (0 : Int) (sh1.snd.pickC (6 : Int))).fst.length : Int)).pickC (3 : Int)).pickV (32 : Int), z.snd.snd.fst,
 z.snd.snd.snd.fst, z.snd.snd.snd.snd.fst, z.snd.snd.snd.snd.snd.fst, ())))])))))))) (some (V.agg [V.ref 1 0 (g (0 : Int) (sh1.snd.pickC (6 : Int))).fst.length], [some
 (Blk.box [V.sl (Cd.int .u8) ((g (0 : Int) (sh1.snd.pickC (6 : Int))).snd.pickC (20 : Int)).l, V.i .i64 ((g (0 : Int) (sh1.snd.pickC (6 : Int))).snd.pickC (20 : Int)).a,
 V.i .u64 ((g (0 : Int) (sh1.snd.pickC (6 : Int))).snd.pickC (20 : Int)).s]), some (Blk.row false none ((Cd.int .i64).pair ((Cd.int .i64).pair ((Cd.int .i64).pair
 (Cd.str.pair ((Cd.int .i64).pair ((Cd.int .i64).pair Cd.unit)))))) (g (0 : Int) (sh1.snd.pickC (6 : Int))).fst)]))))) (ifT (decide ((sh1.snd.pickC (6 : Int)).good
 (900000000 : Int))) (ifB ((sh1.snd.pickC (6 : Int)).pickV (20 : Int) == (0 : Int)) (ifT (decide (((sh1.snd.pickC (6 : Int)).pickC (20 : Int)).good (900000000 : Int)))
 (ifT (decide ((((sh1.snd.pickC (6 : Int)).pickC (20 : Int)).pickC (↑sh1.fst.length : Int)).good (900000000 : Int))) (ifB ((((sh1.snd.pickC (6 : Int)).pickC (20 :
 Int)).pickC (↑sh1.fst.length : Int)).pickV (3 : Int) == (0 : Int)) (ifT (decide (((((sh1.snd.pickC (6 : Int)).pickC (20 : Int)).pickC (↑sh1.fst.length : Int)).pickC (3 :
 Int)).good (900000000 : Int))) (ifT (decide ((0 : Int) ≤ ((sh1.snd.pickC (6 : Int)).pickC (20 : Int)).pickV (↑sh1.fst.length : Int)) && decide (((sh1.snd.pickC (6 :
 Int)).pickC (20 : Int)).pickV (↑sh1.fst.length : Int) < (↑sh1.fst.length : Int))) (ifSome sh1.fst[(0 : Nat) + (((sh1.snd.pickC (6 : Int)).pickC (20 : Int)).pickV
 (↑sh1.fst.length : Int)).toNat]? fun z => some (V.agg [V.ref 1 0 sh1.fst.length], [some (Blk.box [V.sl (Cd.int .u8) (((((sh1.snd.pickC (6 : Int)).pickC (20 : Int)).pickC
 (↑sh1.fst.length : Int)).pickC (3 : Int)).pickC (10 : Int)).l, V.i .i64 (((((sh1.snd.pickC (6 : Int)).pickC (20 : Int)).pickC (↑sh1.fst.length : Int)).pickC (3 :
 Int)).pickC (10 : Int)).a, V.i .u64 (((((sh1.snd.pickC (6 : Int)).pickC (20 : Int)).pickC (↑sh1.fst.length : Int)).pickC (3 : Int)).pickC (10 : Int)).s]), some (Blk.row
 false none ((Cd.int .i64).pair ((Cd.int .i64).pair ((Cd.int .i64).pair (Cd.str.pair ((Cd.int .i64).pair ((Cd.int .i64).pair Cd.unit)))))) (sh1.fst.set ((0 : Nat) +
 (((sh1.snd.pickC (6 : Int)).pickC (20 : Int)).pickV (↑sh1.fst.length : Int)).toNat) (((((sh1.snd.pickC (6 : Int)).pickC (20 : Int)).pickC (↑sh1.fst.length : Int)).pickC
 (3 : Int)).pickV (10 : Int), z.snd.fst, z.snd.snd.fst, z.snd.snd.snd.fst, z.snd.snd.snd.snd.fst, z.snd.snd.snd.snd.snd.fst, ())))])))) (ifB ((((sh1.snd.pickC (6 :
 Int)).pickC (20 : Int)).pickC (↑sh1.fst.length : Int)).pickV (3 : Int) == (1 : Int)) (ifT (decide (((((sh1.snd.pickC (6 : Int)).pickC (20 : Int)).pickC (↑sh1.fst.length :
 Int)).pickC (3 : Int)).good (900000000 : Int))) (ifT (decide ((0 : Int) ≤ ((sh1.snd.pickC (6 : Int)).pickC (20 : Int)).pickV (↑sh1.fst.length : Int)) && decide
 (((sh1.snd.pickC (6 : Int)).pickC (20 : Int)).pickV (↑sh1.fst.length : Int) < (↑sh1.fst.length : Int))) (ifSome sh1.fst[(0 : Nat) + (((sh1.snd.pickC (6 : Int)).pickC (20
 : Int)).pickV (↑sh1.fst.length : Int)).toNat]? fun z => some (V.agg [V.ref 1 0 sh1.fst.length], [some (Blk.box [V.sl (Cd.int .u8) (((((sh1.snd.pickC (6 : Int)).pickC (20
 : Int)).pickC (↑sh1.fst.length : Int)).pickC (3 : Int)).pickC (4 : Int)).l, V.i .i64 (((((sh1.snd.pickC (6 : Int)).pickC (20 : Int)).pickC (↑sh1.fst.length : Int)).pickC
 (3 : Int)).pickC (4 : Int)).a, V.i .u64 (((((sh1.snd.pickC (6 : Int)).pickC (20 : Int)).pickC (↑sh1.fst.length : Int)).pickC (3 : Int)).pickC (4 : Int)).s]), some
 (Blk.row false none ((Cd.int .i64).pair ((Cd.int .i64).pair ((Cd.int .i64).pair (Cd.str.pair ((Cd.int .i64).pair ((Cd.int .i64).pair Cd.unit)))))) (sh1.fst.set ((0 : Nat)
 + (((sh1.snd.pickC (6 : Int)).pickC (20 : Int)).pickV (↑sh1.fst.length : Int)).toNat) (z.fst, z.snd.fst, z.snd.snd.fst, z.snd.snd.snd.fst, IntKind.i64.wrap
 (((((sh1.snd.pickC (6 : Int)).pickC (20 : Int)).pickC (↑sh1.fst.length : Int)).pickC (3 : Int)).pickV (4 : Int) - (1 : Int)), z.snd.snd.snd.snd.snd.fst, ())))])))) (ifT
 (decide (((((sh1.snd.pickC (6 : Int)).pickC (20 : Int)).pickC (↑sh1.fst.length : Int)).pickC (3 : Int)).good (900000000 : Int))) (ifT (decide ((0 : Int) ≤ ((sh1.snd.pickC
 (6 : Int)).pickC (20 : Int)).pickV (↑sh1.fst.length : Int)) && decide (((sh1.snd.pickC (6 : Int)).pickC (20 : Int)).pickV (↑sh1.fst.length : Int) < (↑sh1.fst.length :
 Int))) (ifSome sh1.fst[(0 : Nat) + (((sh1.snd.pickC (6 : Int)).pickC (20 : Int)).pickV (↑sh1.fst.length : Int)).toNat]? fun z => some (V.agg [V.ref 1 0 sh1.fst.length],
 [some (Blk.box [V.sl (Cd.int .u8) (((((sh1.snd.pickC (6 : Int)).pickC (20 : Int)).pickC (↑sh1.fst.length : Int)).pickC (3 : Int)).pickC (32 : Int)).l, V.i .i64
 (((((sh1.snd.pickC (6 : Int)).pickC (20 : Int)).pickC (↑sh1.fst.length : Int)).pickC (3 : Int)).pickC (32 : Int)).a, V.i .u64 (((((sh1.snd.pickC (6 : Int)).pickC (20 :
 Int)).pickC (↑sh1.fst.length : Int)).pickC (3 : Int)).pickC (32 : Int)).s]), some (Blk.row false none ((Cd.int .i64).pair ((Cd.int .i64).pair ((Cd.int .i64).pair
 (Cd.str.pair ((Cd.int .i64).pair ((Cd.int .i64).pair Cd.unit)))))) (sh1.fst.set ((0 : Nat) + (((sh1.snd.pickC (6 : Int)).pickC (20 : Int)).pickV (↑sh1.fst.length :
 Int)).toNat) (z.fst, ((((sh1.snd.pickC (6 : Int)).pickC (20 : Int)).pickC (↑sh1.fst.length : Int)).pickC (3 : Int)).pickV (32 : Int), z.snd.snd.fst, z.snd.snd.snd.fst,
 z.snd.snd.snd.snd.fst, z.snd.snd.snd.snd.snd.fst, ())))])))))))) (some (V.agg [V.ref 1 0 sh1.fst.length], [some (Blk.box [V.sl (Cd.int .u8) ((sh1.snd.pickC (6 :
 Int)).pickC (20 : Int)).l, V.i .i64 ((sh1.snd.pickC (6 : Int)).pickC (20 : Int)).a, V.i .u64 ((sh1.snd.pickC (6 : Int)).pickC (20 : Int)).s]), some (Blk.row false none
 ((Cd.int .i64).pair ((Cd.int .i64).pair ((Cd.int .i64).pair (Cd.str.pair ((Cd.int .i64).pair ((Cd.int .i64).pair Cd.unit)))))) sh1.fst)])))))) (ifT (decide (sh1.snd.good
 (900000000 : Int))) (ifB (sh1.snd.pickV (20 : Int) == (0 : Int)) (ifT (decide ((sh1.snd.pickC (20 : Int)).good (900000000 : Int))) (ifT (decide (((sh1.snd.pickC (20 :
 Int)).pickC (↑sh1.fst.length : Int)).good (900000000 : Int))) (ifB (((sh1.snd.pickC (20 : Int)).pickC (↑sh1.fst.length : Int)).pickV (3 : Int) == (0 : Int)) (ifT (decide
 ((((sh1.snd.pickC (20 : Int)).pickC (↑sh1.fst.length : Int)).pickC (3 : Int)).good (900000000 : Int))) (ifT (decide ((0 : Int) ≤ (sh1.snd.pickC (20 : Int)).pickV
 (↑sh1.fst.length : Int)) && decide ((sh1.snd.pickC (20 : Int)).pickV (↑sh1.fst.length : Int) < (↑sh1.fst.length : Int))) (ifSome sh1.fst[(0 : Nat) + ((sh1.snd.pickC (20 :
 Int)).pickV (↑sh1.fst.length : Int)).toNat]? fun z => some (V.agg [V.ref 1 0 sh1.fst.length], [some (Blk.box [V.sl (Cd.int .u8) ((((sh1.snd.pickC (20 : Int)).pickC
 (↑sh1.fst.length : Int)).pickC (3 : Int)).pickC (10 : Int)).l, V.i .i64 ((((sh1.snd.pickC (20 : Int)).pickC (↑sh1.fst.length : Int)).pickC (3 : Int)).pickC (10 : Int)).a,
 V.i .u64 ((((sh1.snd.pickC (20 : Int)).pickC (↑sh1.fst.length : Int)).pickC (3 : Int)).pickC (10 : Int)).s]), some (Blk.row false none ((Cd.int .i64).pair ((Cd.int
 .i64).pair ((Cd.int .i64).pair (Cd.str.pair ((Cd.int .i64).pair ((Cd.int .i64).pair Cd.unit)))))) (sh1.fst.set ((0 : Nat) + ((sh1.snd.pickC (20 : Int)).pickV
 (↑sh1.fst.length : Int)).toNat) ((((sh1.snd.pickC (20 : Int)).pickC (↑sh1.fst.length : Int)).pickC (3 : Int)).pickV (10 : Int), z.snd.fst, z.snd.snd.fst,
 z.snd.snd.snd.fst, z.snd.snd.snd.snd.fst, z.snd.snd.snd.snd.snd.fst, ())))])))) (ifB (((sh1.snd.pickC (20 : Int)).pickC (↑sh1.fst.length : Int)).pickV (3 : Int) == (1 :
 Int)) (ifT (decide ((((sh1.snd.pickC (20 : Int)).pickC (↑sh1.fst.length : Int)).pickC (3 : Int)).good (900000000 : Int))) (ifT (decide ((0 : Int) ≤ (sh1.snd.pickC (20 :
 Int)).pickV (↑sh1.fst.length : Int)) && decide ((sh1.snd.pickC (20 : Int)).pickV (↑sh1.fst.length : Int) < (↑sh1.fst.length : Int))) (ifSome sh1.fst[(0 : Nat) +
 ((sh1.snd.pickC (20 : Int)).pickV (↑sh1.fst.length : Int)).toNat]? fun z => some (V.agg [V.ref 1 0 sh1.fst.length], [some (Blk.box [V.sl (Cd.int .u8) ((((sh1.snd.pickC
 (20 : Int)).pickC (↑sh1.fst.length : Int)).pickC (3 : Int)).pickC (4 : Int)).l, V.i .i64 ((((sh1.snd.pickC (20 : Int)).pickC (↑sh1.fst.length : Int)).pickC (3 :
 Int)).pickC (4 : Int)).a, V.i .u64 ((((sh1.snd.pickC (20 : Int)).pickC (↑sh1.fst.length : Int)).pickC (3 : Int)).pickC (4 : Int)).s]), some (Blk.row false none ((Cd.int
 .i64).pair ((Cd.int .i64).pair ((Cd.int .i64).pair (Cd.str.pair ((Cd.int .i64).pair ((Cd.int .i64).pair Cd.unit)))))) (sh1.fst.set ((0 : Nat) + ((sh1.snd.pickC (20 :
 Int)).pickV (↑sh1.fst.length : Int)).toNat) (z.fst, z.snd.fst, z.snd.snd.fst, z.snd.snd.snd.fst, IntKind.i64.wrap ((((sh1.snd.pickC (20 : Int)).pickC (↑sh1.fst.length :
 Int)).pickC (3 : Int)).pickV (4 : Int) - (1 : Int)), z.snd.snd.snd.snd.snd.fst, ())))])))) (ifT (decide ((((sh1.snd.pickC (20 : Int)).pickC (↑sh1.fst.length : Int)).pickC
 (3 : Int)).good (900000000 : Int))) (ifT (decide ((0 : Int) ≤ (sh1.snd.pickC (20 : Int)).pickV (↑sh1.fst.length : Int)) && decide ((sh1.snd.pickC (20 : Int)).pickV
 (↑sh1.fst.length : Int) < (↑sh1.fst.length : Int))) (ifSome sh1.fst[(0 : Nat) + ((sh1.snd.pickC (20 : Int)).pickV (↑sh1.fst.length : Int)).toNat]? fun z => some (V.agg
 [V.ref 1 0 sh1.fst.length], [some (Blk.box [V.sl (Cd.int .u8) ((((sh1.snd.pickC (20 : Int)).pickC (↑sh1.fst.length : Int)).pickC (3 : Int)).pickC (32 : Int)).l, V.i .i64
 ((((sh1.snd.pickC (20 : Int)).pickC (↑sh1.fst.length : Int)).pickC (3 : Int)).pickC (32 : Int)).a, V.i .u64 ((((sh1.snd.pickC (20 : Int)).pickC (↑sh1.fst.length :
 Int)).pickC (3 : Int)).pickC (32 : Int)).s]), some (Blk.row false none ((Cd.int .i64).pair ((Cd.int .i64).pair ((Cd.int .i64).pair (Cd.str.pair ((Cd.int .i64).pair
 ((Cd.int .i64).pair Cd.unit)))))) (sh1.fst.set ((0 : Nat) + ((sh1.snd.pickC (20 : Int)).pickV (↑sh1.fst.length : Int)).toNat) (z.fst, (((sh1.snd.pickC (20 : Int)).pickC
 (↑sh1.fst.length : Int)).pickC (3 : Int)).pickV (32 : Int), z.snd.snd.fst, z.snd.snd.snd.fst, z.snd.snd.snd.snd.fst, z.snd.snd.snd.snd.snd.fst, ())))])))))))) (some
 (V.agg [V.ref 1 0 sh1.fst.length], [some (Blk.box [V.sl (Cd.int .u8) (sh1.snd.pickC (20 : Int)).l, V.i .i64 (sh1.snd.pickC (20 : Int)).a, V.i .u64 (sh1.snd.pickC (20 :
 Int)).s]), some (Blk.row false none ((Cd.int .i64).pair ((Cd.int .i64).pair ((Cd.int .i64).pair (Cd.str.pair ((Cd.int .i64).pair ((Cd.int .i64).pair Cd.unit))))))
 sh1.fst)]))))))) : _) := by kernel_rfl
theorem dflt_ex  (l : List Int) (a s : Int) (hc : (Cur.mk l a s).good 80000000) : Ex1 (funC Try.prog (look [(56, .own cpickG), (85, .own coneG), (180, .own (dwaG dwa_f))]) (look []) Try.f135 [.ptr 0 0] [.box [.sl (.int .u8) l, .i .i64 a, .i .u64 s]]) (fun y : (List Wt) × Cur => ((.agg [.ref 1 0 y.1.length], [some (cB y.2), some (.row false none (.pair (.int .i64) (.pair (.int .i64) (.pair (.int .i64) (.pair .str (.pair (.int .i64) (.pair (.int .i64) .unit)))))) y.1)]) : V × List (Option Blk))) (fun y => (∀ n, (Cur.mk l a s).good n → n ≤ 80000000 → y.2.good (n + 400)) ∧ 1 ≤ y.1.length ∧ y.1.length ≤ 15) := by
  refine Ex1.of (dflt_tree dwa_f  l a s) ?_
  have r4 := Cur.pickV_range (k := 4) hc (by omega)
  have pa : ∀ n, (Cur.mk l a s).good n → n ≤ 80000000 → (dwa_f ((Cur.mk l a s).pickV 4) ((Cur.mk l a s).pickC 4)).2.good (n + 152) := fun n h hm => Cur.good_mono (dwa_pr _ _ _ r4.1 (by omega) (Cur.pickC_good h) (by omega)).1 (by omega)
  have la := (dwa_pr _ _ _ r4.1 (by omega) (Cur.pickC_good (k := 4) hc) (by omega)).2
  have g1 := pa 80000000 hc (by omega)
  have g0 : ((Cur.mk l a s).pickC 4).good 86000000 := Cur.pk (Cur.good_mono hc (by omega))
  have lb := fun (c : Cur) (h : c.good 80001000) => (dwa_pr 0 c _ (by omega) (by omega) h (by omega)).2
  have pb := fun (c : Cur) (n : Int) (h : c.good n) (hm : n ≤ 80001000) => (dwa_pr 0 c n (by omega) (by omega) h (by omega)).1
  repeat with_reducible refine Ex1.sh ?_
  simp only [cB_fold, nilT_eq, List.drop_zero, List.take_length, Nat.zero_add]
  generalize hF : dwa_f ((Cur.mk l a s).pickV 4) ((Cur.mk l a s).pickC 4) = F at *
  obtain ⟨w, c⟩ := F
  dsimp only at *
  have hw2 := lb (c.pickC 6) (Cur.pk (Cur.good_mono g1 (by omega)))
  have pw2 : ∀ n, (Cur.mk l a s).good n → n ≤ 80000000 → (dwa_f 0 (c.pickC 6)).2.good (n + 304) := fun n h hm => Cur.good_mono (pb (c.pickC 6) _ (Cur.pickC_good (pa n h hm)) (by omega)) (by omega)
  have g2 := pw2 80000000 hc (by omega)
  have g3 : (c.pickC 6).good 86000000 := Cur.pk (Cur.good_mono g1 (by omega))
  generalize dwa_f 0 (c.pickC 6) = F2 at *
  obtain ⟨w2, c2⟩ := F2
  dsimp only at *
  repeat' first
    | with_reducible refine Ex1.B (fun h => ?_) (fun h => ?_)
    | with_reducible refine Ex1.T ?_ ?_
    | with_reducible refine Ex1.S (ex_at ?_) fun z hz => ?_
  all_goals try simp only [cB_fold]
  all_goals first
    | exact decide_eq_true (Cur.good_mono hc (by omega))
    | exact decide_eq_true ⟨r4.1, by omega, g0⟩
    | exact decide_eq_true ⟨by omega, by omega, g3⟩
    | (refine decide_eq_true ?_; (repeat with_reducible apply Cur.pk); first | exact Cur.good_mono g1 (by omega) | exact Cur.good_mono g2 (by omega))
    | exact pick_b (n := 81000000) (by (repeat with_reducible apply Cur.pk); first | exact Cur.good_mono g1 (by omega) | exact Cur.good_mono g2 (by omega)) (by omega)
    | exact pick_at (n := 81000000) (by (repeat with_reducible apply Cur.pk); first | exact Cur.good_mono g1 (by omega) | exact Cur.good_mono g2 (by omega)) (by omega)
    | exact Ex1.c _ rfl rfl ⟨fun n hn hm => by (repeat with_reducible apply Cur.pk); first | exact Cur.good_mono (pa n hn hm) (by omega) | exact Cur.good_mono (pw2 n hn hm) (by omega), by dsimp only; omega⟩
    | exact Ex1.c _ rfl (by simp only [List.length_set]) ⟨fun n hn hm => by (repeat with_reducible apply Cur.pk); first | exact Cur.good_mono (pa n hn hm) (by omega) | exact Cur.good_mono (pw2 n hn hm) (by omega), by simp only [List.length_set]; omega⟩

theorem dflt_exf : ∃ f : Cur → (List Wt) × Cur, Contract Try.prog 135 (Ent.own (dfltG f)).F ∧ ∀  (c : Cur), (c.good 80000000) → (∀ n, c.good n → n ≤ 80000000 → (f  c).2.good (n + 400)) ∧ 1 ≤ (f  c).1.length ∧ (f  c).1.length ≤ 15 := by
  have ex := fun  (c : Cur) (hc : c.good 80000000) => dflt_ex  c.l c.a c.s hc
  classical
  refine ⟨fun  c => if h : c.good 80000000 then (ex  c h).choose else ([], c), ?_, fun  c hc => ?_⟩
  rotate_left
  · simp only [dif_pos hc]
    exact (ex  c hc).choose_spec.2
  refine fun_contractC' (KnowsL.cons (enters_fn Try.func56 (by kernel_rfl) (by kernel_rfl)) cpick (KnowsL.cons (enters_fn Try.func85 (by kernel_rfl) (by kernel_rfl)) cone (KnowsL.cons (enters_fn Try.func180 (by kernel_rfl) (by kernel_rfl)) dwa_con KnowsL.nil))).knows (Λ := (look [])) Try.func135 (c := Try.f135.body.getD .skip) (by kernel_rfl) fun vs bs r hq hv hb => ?_
  unfold Ent.F dfltG at hq
  dsimp only at hq
  split at hq
  · rename_i  l a s
    obtain ⟨hc, hx⟩ := need_some hq
    have hc := of_decide_eq_true hc
    refine ⟨loopsOk_nil _, ((ex  (Cur.mk l a s) hc).choose_spec.1).trans ?_⟩
    rw [dif_pos hc] at hx
    exact hx
  · cases hq
noncomputable def dflt_f : Cur → (List Wt) × Cur := dflt_exf.choose
theorem dflt_con : Contract Try.prog 135 (Ent.own (dfltG dflt_f)).F := dflt_exf.choose_spec.1
theorem dflt_pr : ∀  (c : Cur), (c.good 80000000) → (∀ n, c.good n → n ≤ 80000000 → (dflt_f  c).2.good (n + 400)) ∧ 1 ≤ (dflt_f  c).1.length ∧ (dflt_f  c).1.length ≤ 15 := dflt_exf.choose_spec.2

def prE (o : Cur × Nat × Nat × List Ins → List Ins × Cur) : LoopEnt := ⟨113, [0,2,3,5,6], [0,2,3], [], fun
  | ([.ptr 0 0, .ptr 1 0, .ptr 2 0, .i .i64 n, .i .i64 i], [some (.box [.sl (.int .u8) l, .i .i64 a, .i .u64 s]), some (.box [.ref 3 0 0]), some (.box [.ref 4 0 0]), some (.row false none (.pair (.int .i64) (.pair (.int .i64) (.pair (.int .i64) (.pair (.int .i64) (.pair .str (.pair (.int .i64) .unit)))))) []), some (.row false none (.pair (.int .i64) (.pair (.int .i64) (.pair (.int .i64) (.pair (.int .i64) (.pair .str (.pair (.int .i64) .unit)))))) [])]) => .need (decide (i = 0 ∧ 1 ≤ n ∧ n ≤ 8 ∧ (Cur.mk l a s).good (80000100 - 10 * n))) (.leaf (.exit 0, ([.ptr 0 0, .ptr 1 0, .ptr 2 0], [some (cB (o ((Cur.mk l a s), n.toNat, 0, [])).2), some (.box [.ref 3 0 0]), some (.box [.ref 4 0 (o ((Cur.mk l a s), n.toNat, 0, [])).1.length]), some (.row false none (.pair (.int .i64) (.pair (.int .i64) (.pair (.int .i64) (.pair (.int .i64) (.pair .str (.pair (.int .i64) .unit)))))) []), some (.row false none (.pair (.int .i64) (.pair (.int .i64) (.pair (.int .i64) (.pair (.int .i64) (.pair .str (.pair (.int .i64) .unit)))))) (o ((Cur.mk l a s), n.toNat, 0, [])).1)])))
  | _ => .no⟩

theorem pr_round1 (fl : Cur → List Wt × Cur) (cf : List Wt → List Ins) (o : Cur × Nat × Nat × List Ins → List Ins × Cur) (l : List Int) (a s : Int) (n i : Int) (m : Nat) (w : List Ins) : roundK Try.prog (look [(135, .own (dfltG fl)), (134, .rd1 (cmpG cf)), (85, .own coneG), (56, .own cpickG)]) (look [(6, prE o)]) 1 (body Try.f87 0) (prE o) ([.ptr 0 0, .ptr 1 0, .ptr 2 0, .i .i64 n, .i .i64 i], [some (.box [.sl (.int .u8) l, .i .i64 a, .i .u64 s]), some (.box [.ref 3 0 0]), some (.box [.ref 4 0 m]), some (.row false none (.pair (.int .i64) (.pair (.int .i64) (.pair (.int .i64) (.pair (.int .i64) (.pair .str (.pair (.int .i64) .unit)))))) []), some (.row false none (.pair (.int .i64) (.pair (.int .i64) (.pair (.int .i64) (.pair (.int .i64) (.pair .str (.pair (.int .i64) .unit)))))) w)]) =
  ((shr (List.take m (List.drop (0 : Nat) w)) fun sh3 => shr (nilT ((Cd.int .i64).pair ((Cd.int .i64).pair ((Cd.int .i64).pair ((Cd.int .i64).pair (Cd.str.pair ((Cd.int
 .i64).pair Cd.unit)))))).den) fun sh2 => shr ((Cur.mk l a s).pickC (4 : Int)) fun sh1 => ifB (decide (i < n)) (ifT (decide ((Cur.mk l a s).good (900000000 : Int))) (ifB
 (IntKind.i64.wrap ((1 : Int) + (Cur.mk l a s).pickV (4 : Int)) == (1 : Int)) (ifT (decide (sh1.good (900000000 : Int))) (ifT (decide ((m + (1 : Nat)) * (56 : Nat) ≤
 (140737488355328 : Nat)) && decide (m + (1 : Nat) ≤ maxI)) (some (Ex.normal, [V.ptr 0 0, V.ptr 1 0, V.ptr 2 0, V.i .i64 n, V.i .i64 (IntKind.i64.wrap (i + (1 : Int)))],
 [some (Blk.box [V.sl (Cd.int .u8) (sh1.pickC (4 : Int)).l, V.i .i64 (sh1.pickC (4 : Int)).a, V.i .u64 (sh1.pickC (4 : Int)).s]), some (Blk.box [V.ref 3 0 0]), some
 (Blk.box [V.ref 4 0 (m + (1 : Nat))]), some (Blk.row false none ((Cd.int .i64).pair ((Cd.int .i64).pair ((Cd.int .i64).pair ((Cd.int .i64).pair (Cd.str.pair ((Cd.int
 .i64).pair Cd.unit)))))) sh2), some (Blk.row false none ((Cd.int .i64).pair ((Cd.int .i64).pair ((Cd.int .i64).pair ((Cd.int .i64).pair (Cd.str.pair ((Cd.int .i64).pair
 Cd.unit)))))) (sh3 ++ (IntKind.i64.wrap ((1 : Int) + (Cur.mk l a s).pickV (4 : Int)), (0 : Int), IntKind.i64.wrap ((1 : Int) + sh1.pickV (4 : Int)), (0 : Int), nilT
 UInt8, (0 : Int), ()) :: sh2))])))) (ifB (IntKind.i64.wrap ((1 : Int) + (Cur.mk l a s).pickV (4 : Int)) == (2 : Int)) (ifT (decide (sh1.good (900000000 : Int))) (ifB
 (decide (IntKind.i64.wrap ((1 : Int) + sh1.pickV (4 : Int)) ≤ (3 : Int))) (ifT (decide ((sh1.pickC (4 : Int)).good (900000000 : Int))) (ifT (decide ((m + (1 : Nat)) * (56
 : Nat) ≤ (140737488355328 : Nat)) && decide (m + (1 : Nat) ≤ maxI)) (some (Ex.normal, [V.ptr 0 0, V.ptr 1 0, V.ptr 2 0, V.i .i64 n, V.i .i64 (IntKind.i64.wrap (i + (1 :
 Int)))], [some (Blk.box [V.sl (Cd.int .u8) ((sh1.pickC (4 : Int)).pickC (8 : Int)).l, V.i .i64 ((sh1.pickC (4 : Int)).pickC (8 : Int)).a, V.i .u64 ((sh1.pickC (4 :
 Int)).pickC (8 : Int)).s]), some (Blk.box [V.ref 3 0 0]), some (Blk.box [V.ref 4 0 (m + (1 : Nat))]), some (Blk.row false none ((Cd.int .i64).pair ((Cd.int .i64).pair
 ((Cd.int .i64).pair ((Cd.int .i64).pair (Cd.str.pair ((Cd.int .i64).pair Cd.unit)))))) sh2), some (Blk.row false none ((Cd.int .i64).pair ((Cd.int .i64).pair ((Cd.int
 .i64).pair ((Cd.int .i64).pair (Cd.str.pair ((Cd.int .i64).pair Cd.unit)))))) (sh3 ++ (IntKind.i64.wrap ((1 : Int) + (Cur.mk l a s).pickV (4 : Int)), IntKind.i64.wrap ((1
 : Int) + sh1.pickV (4 : Int)), (0 : Int), (sh1.pickC (4 : Int)).pickV (8 : Int), nilT UInt8, (0 : Int), ()) :: sh2))])))) (ifT (decide ((m + (1 : Nat)) * (56 : Nat) ≤
 (140737488355328 : Nat)) && decide (m + (1 : Nat) ≤ maxI)) (some (Ex.normal, [V.ptr 0 0, V.ptr 1 0, V.ptr 2 0, V.i .i64 n, V.i .i64 (IntKind.i64.wrap (i + (1 : Int)))],
 [some (Blk.box [V.sl (Cd.int .u8) (sh1.pickC (4 : Int)).l, V.i .i64 (sh1.pickC (4 : Int)).a, V.i .u64 (sh1.pickC (4 : Int)).s]), some (Blk.box [V.ref 3 0 0]), some
 (Blk.box [V.ref 4 0 (m + (1 : Nat))]), some (Blk.row false none ((Cd.int .i64).pair ((Cd.int .i64).pair ((Cd.int .i64).pair ((Cd.int .i64).pair (Cd.str.pair ((Cd.int
 .i64).pair Cd.unit)))))) sh2), some (Blk.row false none ((Cd.int .i64).pair ((Cd.int .i64).pair ((Cd.int .i64).pair ((Cd.int .i64).pair (Cd.str.pair ((Cd.int .i64).pair
 Cd.unit)))))) (sh3 ++ (IntKind.i64.wrap ((1 : Int) + (Cur.mk l a s).pickV (4 : Int)), IntKind.i64.wrap ((1 : Int) + sh1.pickV (4 : Int)), (0 : Int), (0 : Int), nilT
 UInt8, (0 : Int), ()) :: sh2))]))))) (ifB (IntKind.i64.wrap ((1 : Int) + (Cur.mk l a s).pickV (4 : Int)) == (3 : Int)) (ifT (decide (sh1.good (900000000 : Int))) (ifT
 (decide ((sh1.pickC (2 : Int)).good (900000000 : Int))) (ifT (decide ((m + (1 : Nat)) * (56 : Nat) ≤ (140737488355328 : Nat)) && decide (m + (1 : Nat) ≤ maxI)) (some
 (Ex.normal, [V.ptr 0 0, V.ptr 1 0, V.ptr 2 0, V.i .i64 n, V.i .i64 (IntKind.i64.wrap (i + (1 : Int)))], [some (Blk.box [V.sl (Cd.int .u8) ((sh1.pickC (2 : Int)).pickC
 (IntKind.i64.wrap (n - i))).l, V.i .i64 ((sh1.pickC (2 : Int)).pickC (IntKind.i64.wrap (n - i))).a, V.i .u64 ((sh1.pickC (2 : Int)).pickC (IntKind.i64.wrap (n - i))).s]),
 some (Blk.box [V.ref 3 0 0]), some (Blk.box [V.ref 4 0 (m + (1 : Nat))]), some (Blk.row false none ((Cd.int .i64).pair ((Cd.int .i64).pair ((Cd.int .i64).pair ((Cd.int
 .i64).pair (Cd.str.pair ((Cd.int .i64).pair Cd.unit)))))) sh2), some (Blk.row false none ((Cd.int .i64).pair ((Cd.int .i64).pair ((Cd.int .i64).pair ((Cd.int .i64).pair
 (Cd.str.pair ((Cd.int .i64).pair Cd.unit)))))) (sh3 ++ (IntKind.i64.wrap ((1 : Int) + (Cur.mk l a s).pickV (4 : Int)), (0 : Int), (0 : Int), sh1.pickV (2 : Int), nilT
 UInt8, IntKind.i64.wrap (IntKind.i64.wrap (i + (1 : Int)) + (sh1.pickC (2 : Int)).pickV (IntKind.i64.wrap (n - i))), ()) :: sh2))]))))) (ifT (decide ((m + (1 : Nat)) *
 (56 : Nat) ≤ (140737488355328 : Nat)) && decide (m + (1 : Nat) ≤ maxI)) (some (Ex.normal, [V.ptr 0 0, V.ptr 1 0, V.ptr 2 0, V.i .i64 n, V.i .i64 (IntKind.i64.wrap (i + (1
 : Int)))], [some (Blk.box [V.sl (Cd.int .u8) sh1.l, V.i .i64 sh1.a, V.i .u64 sh1.s]), some (Blk.box [V.ref 3 0 0]), some (Blk.box [V.ref 4 0 (m + (1 : Nat))]), some
 (Blk.row false none ((Cd.int .i64).pair ((Cd.int .i64).pair ((Cd.int .i64).pair ((Cd.int .i64).pair (Cd.str.pair ((Cd.int .i64).pair Cd.unit)))))) sh2), some (Blk.row
 false none ((Cd.int .i64).pair ((Cd.int .i64).pair ((Cd.int .i64).pair ((Cd.int .i64).pair (Cd.str.pair ((Cd.int .i64).pair Cd.unit)))))) (sh3 ++ (IntKind.i64.wrap ((1 :
 Int) + (Cur.mk l a s).pickV (4 : Int)), (0 : Int), (0 : Int), (0 : Int), nilT UInt8, (0 : Int), ()) :: sh2))]))))))) (some (Ex.exit 0, [V.ptr 0 0, V.ptr 1 0, V.ptr 2 0],
 [some (Blk.box [V.sl (Cd.int .u8) l, V.i .i64 a, V.i .u64 s]), some (Blk.box [V.ref 3 0 0]), some (Blk.box [V.ref 4 0 m]), some (Blk.row false none ((Cd.int .i64).pair
 ((Cd.int .i64).pair ((Cd.int .i64).pair ((Cd.int .i64).pair (Cd.str.pair ((Cd.int .i64).pair Cd.unit)))))) sh2), some (Blk.row false none ((Cd.int .i64).pair ((Cd.int
 .i64).pair ((Cd.int .i64).pair ((Cd.int .i64).pair (Cd.str.pair ((Cd.int .i64).pair Cd.unit)))))) w)]))) : _) := by kernel_rfl
def prH (x : Cur × Nat × Nat × List Ins) : Dt := match x with
  | (c, n, i, w) => ([.ptr 0 0, .ptr 1 0, .ptr 2 0, .i .i64 (n : Int), .i .i64 (i : Int)], [some (cB c), some (.box [.ref 3 0 0]), some (.box [.ref 4 0 w.length]), some (.row false none (.pair (.int .i64) (.pair (.int .i64) (.pair (.int .i64) (.pair (.int .i64) (.pair .str (.pair (.int .i64) .unit)))))) []), some (.row false none (.pair (.int .i64) (.pair (.int .i64) (.pair (.int .i64) (.pair (.int .i64) (.pair .str (.pair (.int .i64) .unit)))))) w)])
theorem prH_one (c : Cur) (n i : Nat) (w : List Ins) : prH (c, n, i, w) = ([.ptr 0 0, .ptr 1 0, .ptr 2 0, .i .i64 (n : Int), .i .i64 (i : Int)], [some (cB c), some (.box [.ref 3 0 0]), some (.box [.ref 4 0 w.length]), some (.row false none (.pair (.int .i64) (.pair (.int .i64) (.pair (.int .i64) (.pair (.int .i64) (.pair .str (.pair (.int .i64) .unit)))))) []), some (.row false none (.pair (.int .i64) (.pair (.int .i64) (.pair (.int .i64) (.pair (.int .i64) (.pair .str (.pair (.int .i64) .unit)))))) w)]) := rfl
theorem pr_go {c : Cur} {n i m : Nat} {w : List Ins} {Q : Cur × Nat × Nat × List Ins → Prop} (hm : m = w.length) (q : Q (c, n, i, w)) : Ex1 (some (Ex.normal, [.ptr 0 0, .ptr 1 0, .ptr 2 0, .i .i64 (n : Int), .i .i64 (i : Int)], [some (cB c), some (.box [.ref 3 0 0]), some (.box [.ref 4 0 m]), some (.row false none (.pair (.int .i64) (.pair (.int .i64) (.pair (.int .i64) (.pair (.int .i64) (.pair .str (.pair (.int .i64) .unit)))))) []), some (.row false none (.pair (.int .i64) (.pair (.int .i64) (.pair (.int .i64) (.pair (.int .i64) (.pair .str (.pair (.int .i64) .unit)))))) w)])) (fun x => (.normal, prH x)) Q :=
  ⟨(c, n, i, w), by subst hm; exact congrArg (fun z => some (Ex.normal, z)) (prH_one c n i w).symm, q⟩
theorem prs_runs : ∀ x : Cur × Nat × Nat × List Ins, (x.2.2.1 ≤ x.2.1 ∧ 1 ≤ x.2.1 ∧ x.2.1 ≤ 8 ∧ x.2.2.2.length = x.2.2.1 ∧ x.1.good (80000100 - 10 * ((x.2.1 - x.2.2.1 : Nat) : Int))) → ∃ y : List Ins × Cur, (∀ o, Runs Try.prog (look [(135, .own (dfltG dflt_f)), (134, .rd1 (cmpG cmp_f)), (85, .own coneG), (56, .own cpickG)]) (look [(6, prE o)]) 1 (body Try.f87 0) (prE o) (prH x) ((fun y : List Ins × Cur => (((.exit 0 : Ex), (([.ptr 0 0, .ptr 1 0, .ptr 2 0] : List V), [some (cB y.2), some (.box [.ref 3 0 0]), some (.box [.ref 4 0 y.1.length]), some (.row false none (.pair (.int .i64) (.pair (.int .i64) (.pair (.int .i64) (.pair (.int .i64) (.pair .str (.pair (.int .i64) .unit)))))) []), some (.row false none (.pair (.int .i64) (.pair (.int .i64) (.pair (.int .i64) (.pair (.int .i64) (.pair .str (.pair (.int .i64) .unit)))))) y.1)])) : Ex × Dt)) y).1 ((fun y : List Ins × Cur => (((.exit 0 : Ex), (([.ptr 0 0, .ptr 1 0, .ptr 2 0] : List V), [some (cB y.2), some (.box [.ref 3 0 0]), some (.box [.ref 4 0 y.1.length]), some (.row false none (.pair (.int .i64) (.pair (.int .i64) (.pair (.int .i64) (.pair (.int .i64) (.pair .str (.pair (.int .i64) .unit)))))) []), some (.row false none (.pair (.int .i64) (.pair (.int .i64) (.pair (.int .i64) (.pair (.int .i64) (.pair .str (.pair (.int .i64) .unit)))))) y.1)])) : Ex × Dt)) y).2) ∧ ((∀ m, x.1.good m → m ≤ 80000100 - 10 * ((x.2.1 - x.2.2.1 : Nat) : Int) → y.2.good (m + 10 * ((x.2.1 - x.2.2.1 : Nat) : Int))) ∧ y.1.length = x.2.1) := by
  refine loop_exo (ι := Cur × Nat × Nat × List Ins → List Ins × Cur) (fun _ => ([], Cur.mk [] 0 0)) (Λ := fun o => (look [(6, prE o)])) (ent := fun o => prE o) prH (fun y : List Ins × Cur => (((.exit 0 : Ex), (([.ptr 0 0, .ptr 1 0, .ptr 2 0] : List V), [some (cB y.2), some (.box [.ref 3 0 0]), some (.box [.ref 4 0 y.1.length]), some (.row false none (.pair (.int .i64) (.pair (.int .i64) (.pair (.int .i64) (.pair (.int .i64) (.pair .str (.pair (.int .i64) .unit)))))) []), some (.row false none (.pair (.int .i64) (.pair (.int .i64) (.pair (.int .i64) (.pair (.int .i64) (.pair .str (.pair (.int .i64) .unit)))))) y.1)])) : Ex × Dt)) (fun y => by simp) _ _ (fun x => x.2.1 - x.2.2.1) (fun o x _ => ?_) ?_
  · obtain ⟨c, n, i, w⟩ := x
    exact (pr_round1 dflt_f cmp_f o c.l c.a c.s (n : Int) (i : Int) w.length w).trans (pr_round1 dflt_f cmp_f _ c.l c.a c.s (n : Int) (i : Int) w.length w).symm
  rintro ⟨c, n, i, w⟩ ⟨h1, h2, h3, h4, h5⟩
  dsimp only at h1 h2 h3 h4 h5 ⊢
  have hM : maxI = 9223372036854775807 := rfl
  have w1 : IntKind.i64.wrap ((i : Int) + 1) = ((i + 1 : Nat) : Int) := by rw [wrap_id (by omega) (by omega)]; omega
  by_cases hi : i < n
  · right
    have fin : ∀ (c' : Cur) (w' : List Ins), (∀ m, c.good m → c'.good (m + 10)) → w'.length = i + 1 →
        ((i + 1 ≤ n ∧ 1 ≤ n ∧ n ≤ 8 ∧ w'.length = i + 1 ∧ c'.good (80000100 - 10 * ((n - (i + 1) : Nat) : Int))) ∧ n - (i + 1) < n - i ∧ ∀ y : List Ins × Cur, ((∀ m, c'.good m → m ≤ 80000100 - 10 * ((n - (i + 1) : Nat) : Int) → y.2.good (m + 10 * ((n - (i + 1) : Nat) : Int))) ∧ y.1.length = n) → ((∀ m, c.good m → m ≤ 80000100 - 10 * ((n - i : Nat) : Int) → y.2.good (m + 10 * ((n - i : Nat) : Int))) ∧ y.1.length = n)) := fun c' w' k1 k2 => by
      refine ⟨⟨by omega, h2, h3, k2, Cur.good_mono (k1 _ h5) (by omega)⟩, by omega, fun y hy => ⟨fun m hm hl => ?_, hy.2⟩⟩
      exact Cur.good_mono (hy.1 (m + 10) (k1 m hm) (by omega)) (by omega)
    refine Ex1.of (pr_round1 dflt_f cmp_f _ c.l c.a c.s (n : Int) (i : Int) w.length w) ?_
    repeat with_reducible refine Ex1.sh ?_
    rw [ifB_true (decide_eq_true (by omega))]
    simp only [cB_fold, show Cur.mk c.l c.a c.s = c from rfl, w1, nilT_eq, List.drop_zero, List.take_length]
    repeat' first
      | with_reducible refine Ex1.B (fun h => ?_) (fun h => ?_)
      | with_reducible refine Ex1.T ?_ ?_
    all_goals try simp only [cB_fold]
    all_goals first
      | (refine decide_eq_true ?_; (repeat with_reducible apply Cur.pk); exact Cur.good_mono h5 (by omega))
      | (simp only [Bool.and_eq_true, decide_eq_true_eq]; omega)
      | (refine pr_go (by rw [List.length_append, List.length_singleton]) (fin _ _ (fun m hm => ?_) (by rw [List.length_append, List.length_singleton]; omega))
         (repeat with_reducible apply Cur.pk); exact Cur.good_mono hm (by omega))
  · left
    refine Ex1.of (pr_round1 dflt_f cmp_f _ c.l c.a c.s (n : Int) (i : Int) w.length w) ?_
    repeat with_reducible refine Ex1.sh ?_
    rw [ifB_false (decide_eq_false (by omega))]
    exact Ex1.L (w, c) rfl ⟨fun m hm hl => Cur.good_mono hm (by omega), by dsimp only; omega⟩
noncomputable def pr_o : Cur × Nat × Nat × List Ins → List Ins × Cur := (pick_fn (Y := List Ins × Cur) ([], Cur.mk [] 0 0) prs_runs).choose
theorem pr_os : ∀ x : Cur × Nat × Nat × List Ins, (x.2.2.1 ≤ x.2.1 ∧ 1 ≤ x.2.1 ∧ x.2.1 ≤ 8 ∧ x.2.2.2.length = x.2.2.1 ∧ x.1.good (80000100 - 10 * ((x.2.1 - x.2.2.1 : Nat) : Int))) → (∀ o, Runs Try.prog (look [(135, .own (dfltG dflt_f)), (134, .rd1 (cmpG cmp_f)), (85, .own coneG), (56, .own cpickG)]) (look [(6, prE o)]) 1 (body Try.f87 0) (prE o) (prH x) ((fun y : List Ins × Cur => (((.exit 0 : Ex), (([.ptr 0 0, .ptr 1 0, .ptr 2 0] : List V), [some (cB y.2), some (.box [.ref 3 0 0]), some (.box [.ref 4 0 y.1.length]), some (.row false none (.pair (.int .i64) (.pair (.int .i64) (.pair (.int .i64) (.pair (.int .i64) (.pair .str (.pair (.int .i64) .unit)))))) []), some (.row false none (.pair (.int .i64) (.pair (.int .i64) (.pair (.int .i64) (.pair (.int .i64) (.pair .str (.pair (.int .i64) .unit)))))) y.1)])) : Ex × Dt)) (pr_o x)).1 ((fun y : List Ins × Cur => (((.exit 0 : Ex), (([.ptr 0 0, .ptr 1 0, .ptr 2 0] : List V), [some (cB y.2), some (.box [.ref 3 0 0]), some (.box [.ref 4 0 y.1.length]), some (.row false none (.pair (.int .i64) (.pair (.int .i64) (.pair (.int .i64) (.pair (.int .i64) (.pair .str (.pair (.int .i64) .unit)))))) []), some (.row false none (.pair (.int .i64) (.pair (.int .i64) (.pair (.int .i64) (.pair (.int .i64) (.pair .str (.pair (.int .i64) .unit)))))) y.1)])) : Ex × Dt)) (pr_o x)).2) ∧ ((∀ m, x.1.good m → m ≤ 80000100 - 10 * ((x.2.1 - x.2.2.1 : Nat) : Int) → (pr_o x).2.good (m + 10 * ((x.2.1 - x.2.2.1 : Nat) : Int))) ∧ (pr_o x).1.length = x.2.1) := (pick_fn (Y := List Ins × Cur) ([], Cur.mk [] 0 0) prs_runs).choose_spec
theorem pr_ok : LoopsOk Try.prog (look [(135, .own (dfltG dflt_f)), (134, .rd1 (cmpG cmp_f)), (85, .own coneG), (56, .own cpickG)]) (look [(6, prE pr_o)]) 1 (Try.f87.body.getD .skip) := by
  refine loopsOk_one (a := body Try.f87 0) (by kernel_rfl) fun d ex d' h => ?_
  unfold prE at h
  dsimp only at h
  split at h
  · rename_i n i l a s
    obtain ⟨hc, hx⟩ := need_some h
    obtain ⟨k1, k2, k3, k4⟩ := of_decide_eq_true hc
    obtain ⟨n, rfl⟩ := Int.eq_ofNat_of_zero_le (show 0 ≤ n by omega)
    simp only [Int.toNat_natCast] at hx
    have h8 := leaf_some hx
    obtain ⟨rfl, rfl⟩ := Prod.mk.inj h8
    rw [k1]
    exact (pr_os ((Cur.mk l a s), n, 0, []) ⟨by dsimp only; omega, by dsimp only; omega, by dsimp only; omega, rfl, by simpa using k4⟩).1 pr_o
  · cases h

def dprgG (f : Cur → (List Ins) × Cur) : List V → List Blk → Br (V × List (Option Blk))
  | [.ptr 0 0], [.box [.sl (.int .u8) l, .i .i64 a, .i .u64 s]] => .need (decide ((Cur.mk l a s).good 70000000)) (.leaf (.agg [.ref 1 0 (f  (Cur.mk l a s)).1.length], [some (cB (f  (Cur.mk l a s)).2), some (.row false none (.pair (.int .i64) (.pair (.int .i64) (.pair (.int .i64) (.pair (.int .i64) (.pair .str (.pair (.int .i64) .unit)))))) (f  (Cur.mk l a s)).1)]))
  | _, _ => .no

theorem dprg_tree (fl : Cur → List Wt × Cur) (cf : List Wt → List Ins) (o : Cur × Nat × Nat × List Ins → List Ins × Cur)  (l : List Int) (a s : Int) : funC Try.prog (look [(135, .own (dfltG fl)), (134, .rd1 (cmpG cf)), (85, .own coneG), (56, .own cpickG)]) (look [(6, prE o)]) Try.f87 [.ptr 0 0] [.box [.sl (.int .u8) l, .i .i64 a, .i .u64 s]] =
  ((shr (fl (Cur.mk l a s)).snd fun sh6 => shr (nilT ((Cd.int .i64).pair ((Cd.int .i64).pair ((Cd.int .i64).pair ((Cd.int .i64).pair (Cd.str.pair ((Cd.int .i64).pair
 Cd.unit)))))).den) fun sh5 => shr (sh6.pickC (4 : Int)) fun sh4 => shr (List.take (fl (Cur.mk l a s)).fst.length (List.drop (0 : Nat) (fl (Cur.mk l a s)).fst)) fun sh3 =>
 shr (o (sh6.pickC (8 : Int), (IntKind.i64.wrap ((1 : Int) + sh6.pickV (8 : Int))).toNat, (0 : Nat), nilT Ins)) fun sh2 => shr (o (sh4.pickC (8 : Int), (IntKind.i64.wrap
 ((1 : Int) + sh4.pickV (8 : Int))).toNat, (0 : Nat), nilT Ins)) fun sh1 => ifT (decide ((Cur.mk l a s).good (80000000 : Int))) (ifB (!goodFB sh3) (ifT (decide (sh6.good
 (900000000 : Int))) (ifT (decide ((0 : Int) = (0 : Int) ∧ (1 : Int) ≤ IntKind.i64.wrap ((1 : Int) + sh6.pickV (8 : Int)) ∧ IntKind.i64.wrap ((1 : Int) + sh6.pickV (8 :
 Int)) ≤ (8 : Int) ∧ (sh6.pickC (8 : Int)).good ((80000100 : Int) - (10 : Int) * IntKind.i64.wrap ((1 : Int) + sh6.pickV (8 : Int))))) (ifT (decide ((sh2.fst.length + (1 :
 Nat)) * (56 : Nat) ≤ (140737488355328 : Nat)) && decide (sh2.fst.length + (1 : Nat) ≤ maxI)) (ifT (decide (sh2.snd.good (900000000 : Int))) (ifB (sh2.snd.pickV (20 : Int)
 == (0 : Int)) (ifT (decide ((sh2.snd.pickC (20 : Int)).good (900000000 : Int))) (ifT (decide (((sh2.snd.pickC (20 : Int)).pickC (↑(sh2.fst.length + (1 : Nat)) :
 Int)).good (900000000 : Int))) (ifB (((sh2.snd.pickC (20 : Int)).pickC (↑(sh2.fst.length + (1 : Nat)) : Int)).pickV (3 : Int) == (0 : Int)) (ifT (decide ((((sh2.snd.pickC
 (20 : Int)).pickC (↑(sh2.fst.length + (1 : Nat)) : Int)).pickC (3 : Int)).good (900000000 : Int))) (ifT (decide ((0 : Int) ≤ (sh2.snd.pickC (20 : Int)).pickV
 (↑(sh2.fst.length + (1 : Nat)) : Int)) && decide ((sh2.snd.pickC (20 : Int)).pickV (↑(sh2.fst.length + (1 : Nat)) : Int) < (↑(sh2.fst.length + (1 : Nat)) : Int))) (ifSome
 (List.take sh2.fst.length (List.drop (0 : Nat) sh2.fst) ++ ((5 : Int), (0 : Int), (0 : Int), (0 : Int), nilT UInt8, (0 : Int), ()) :: sh5)[(0 : Nat) + ((sh2.snd.pickC (20
 : Int)).pickV (↑(sh2.fst.length + (1 : Nat)) : Int)).toNat]? fun z => some (V.agg [V.ref 1 0 (sh2.fst.length + (1 : Nat))], [some (Blk.box [V.sl (Cd.int .u8)
 ((((sh2.snd.pickC (20 : Int)).pickC (↑(sh2.fst.length + (1 : Nat)) : Int)).pickC (3 : Int)).pickC (7 : Int)).l, V.i .i64 ((((sh2.snd.pickC (20 : Int)).pickC
 (↑(sh2.fst.length + (1 : Nat)) : Int)).pickC (3 : Int)).pickC (7 : Int)).a, V.i .u64 ((((sh2.snd.pickC (20 : Int)).pickC (↑(sh2.fst.length + (1 : Nat)) : Int)).pickC (3 :
 Int)).pickC (7 : Int)).s]), some (Blk.row false none ((Cd.int .i64).pair ((Cd.int .i64).pair ((Cd.int .i64).pair ((Cd.int .i64).pair (Cd.str.pair ((Cd.int .i64).pair
 Cd.unit)))))) ((List.take sh2.fst.length (List.drop (0 : Nat) sh2.fst) ++ ((5 : Int), (0 : Int), (0 : Int), (0 : Int), nilT UInt8, (0 : Int), ()) :: sh5).set ((0 : Nat) +
 ((sh2.snd.pickC (20 : Int)).pickV (↑(sh2.fst.length + (1 : Nat)) : Int)).toNat) ((((sh2.snd.pickC (20 : Int)).pickC (↑(sh2.fst.length + (1 : Nat)) : Int)).pickC (3 :
 Int)).pickV (7 : Int), z.snd.fst, z.snd.snd.fst, z.snd.snd.snd.fst, z.snd.snd.snd.snd.fst, z.snd.snd.snd.snd.snd.fst, ())))])))) (ifB (((sh2.snd.pickC (20 : Int)).pickC
 (↑(sh2.fst.length + (1 : Nat)) : Int)).pickV (3 : Int) == (1 : Int)) (ifT (decide ((((sh2.snd.pickC (20 : Int)).pickC (↑(sh2.fst.length + (1 : Nat)) : Int)).pickC (3 :
 Int)).good (900000000 : Int))) (ifT (decide ((0 : Int) ≤ (sh2.snd.pickC (20 : Int)).pickV (↑(sh2.fst.length + (1 : Nat)) : Int)) && decide ((sh2.snd.pickC (20 :
 Int)).pickV (↑(sh2.fst.length + (1 : Nat)) : Int) < (↑(sh2.fst.length + (1 : Nat)) : Int))) (ifSome (List.take sh2.fst.length (List.drop (0 : Nat) sh2.fst) ++ ((5 : Int),
 (0 : Int), (0 : Int), (0 : Int), nilT UInt8, (0 : Int), ()) :: sh5)[(0 : Nat) + ((sh2.snd.pickC (20 : Int)).pickV (↑(sh2.fst.length + (1 : Nat)) : Int)).toNat]? fun z =>
 some (V.agg [V.ref 1 0 (sh2.fst.length + (1 : Nat))], [some (Blk.box [V.sl (Cd.int .u8) ((((sh2.snd.pickC (20 : Int)).pickC (↑(sh2.fst.length + (1 : Nat)) : Int)).pickC
 (3 : Int)).pickC (9 : Int)).l, V.i .i64 ((((sh2.snd.pickC (20 : Int)).pickC (↑(sh2.fst.length + (1 : Nat)) : Int)).pickC (3 : Int)).pickC (9 : Int)).a, V.i .u64
 ((((sh2.snd.pickC (20 : Int)).pickC (↑(sh2.fst.length + (1 : Nat)) : Int)).pickC (3 : Int)).pickC (9 : Int)).s]), some (Blk.row false none ((Cd.int .i64).pair ((Cd.int
 .i64).pair ((Cd.int .i64).pair ((Cd.int .i64).pair (Cd.str.pair ((Cd.int .i64).pair Cd.unit)))))) ((List.take sh2.fst.length (List.drop (0 : Nat) sh2.fst) ++ ((5 : Int),
 (0 : Int), (0 : Int), (0 : Int), nilT UInt8, (0 : Int), ()) :: sh5).set ((0 : Nat) + ((sh2.snd.pickC (20 : Int)).pickV (↑(sh2.fst.length + (1 : Nat)) : Int)).toNat)
 (z.fst, z.snd.fst, z.snd.snd.fst, z.snd.snd.snd.fst, z.snd.snd.snd.snd.fst, (((sh2.snd.pickC (20 : Int)).pickC (↑(sh2.fst.length + (1 : Nat)) : Int)).pickC (3 :
 Int)).pickV (9 : Int), ())))])))) (ifT (decide ((0 : Int) ≤ (sh2.snd.pickC (20 : Int)).pickV (↑(sh2.fst.length + (1 : Nat)) : Int)) && decide ((sh2.snd.pickC (20 :
 Int)).pickV (↑(sh2.fst.length + (1 : Nat)) : Int) < (↑(sh2.fst.length + (1 : Nat)) : Int))) (ifSome (List.take sh2.fst.length (List.drop (0 : Nat) sh2.fst) ++ ((5 : Int),
 (0 : Int), (0 : Int), (0 : Int), nilT UInt8, (0 : Int), ()) :: sh5)[(0 : Nat) + ((sh2.snd.pickC (20 : Int)).pickV (↑(sh2.fst.length + (1 : Nat)) : Int)).toNat]? fun z =>
 some (V.agg [V.ref 1 0 (sh2.fst.length + (1 : Nat))], [some (Blk.box [V.sl (Cd.int .u8) (((sh2.snd.pickC (20 : Int)).pickC (↑(sh2.fst.length + (1 : Nat)) : Int)).pickC (3
 : Int)).l, V.i .i64 (((sh2.snd.pickC (20 : Int)).pickC (↑(sh2.fst.length + (1 : Nat)) : Int)).pickC (3 : Int)).a, V.i .u64 (((sh2.snd.pickC (20 : Int)).pickC
 (↑(sh2.fst.length + (1 : Nat)) : Int)).pickC (3 : Int)).s]), some (Blk.row false none ((Cd.int .i64).pair ((Cd.int .i64).pair ((Cd.int .i64).pair ((Cd.int .i64).pair
 (Cd.str.pair ((Cd.int .i64).pair Cd.unit)))))) ((List.take sh2.fst.length (List.drop (0 : Nat) sh2.fst) ++ ((5 : Int), (0 : Int), (0 : Int), (0 : Int), nilT UInt8, (0 :
 Int), ()) :: sh5).set ((0 : Nat) + ((sh2.snd.pickC (20 : Int)).pickV (↑(sh2.fst.length + (1 : Nat)) : Int)).toNat) (z.fst, z.snd.fst, z.snd.snd.fst, (2 : Int),
 z.snd.snd.snd.snd.fst, z.snd.snd.snd.snd.snd.fst, ())))]))))))) (some (V.agg [V.ref 1 0 (sh2.fst.length + (1 : Nat))], [some (Blk.box [V.sl (Cd.int .u8) (sh2.snd.pickC
 (20 : Int)).l, V.i .i64 (sh2.snd.pickC (20 : Int)).a, V.i .u64 (sh2.snd.pickC (20 : Int)).s]), some (Blk.row false none ((Cd.int .i64).pair ((Cd.int .i64).pair ((Cd.int
 .i64).pair ((Cd.int .i64).pair (Cd.str.pair ((Cd.int .i64).pair Cd.unit)))))) (List.take sh2.fst.length (List.drop (0 : Nat) sh2.fst) ++ ((5 : Int), (0 : Int), (0 : Int),
 (0 : Int), nilT UInt8, (0 : Int), ()) :: sh5))]))))))) (ifT (decide (sh6.good (900000000 : Int))) (ifB (sh6.pickV (4 : Int) == (0 : Int)) (ifT (decide (sh4.good
 (900000000 : Int))) (ifT (decide ((0 : Int) = (0 : Int) ∧ (1 : Int) ≤ IntKind.i64.wrap ((1 : Int) + sh4.pickV (8 : Int)) ∧ IntKind.i64.wrap ((1 : Int) + sh4.pickV (8 :
 Int)) ≤ (8 : Int) ∧ (sh4.pickC (8 : Int)).good ((80000100 : Int) - (10 : Int) * IntKind.i64.wrap ((1 : Int) + sh4.pickV (8 : Int))))) (ifT (decide ((sh1.fst.length + (1 :
 Nat)) * (56 : Nat) ≤ (140737488355328 : Nat)) && decide (sh1.fst.length + (1 : Nat) ≤ maxI)) (ifT (decide (sh1.snd.good (900000000 : Int))) (ifB (sh1.snd.pickV (20 : Int)
 == (0 : Int)) (ifT (decide ((sh1.snd.pickC (20 : Int)).good (900000000 : Int))) (ifT (decide (((sh1.snd.pickC (20 : Int)).pickC (↑(sh1.fst.length + (1 : Nat)) :
 Int)).good (900000000 : Int))) (ifB (((sh1.snd.pickC (20 : Int)).pickC (↑(sh1.fst.length + (1 : Nat)) : Int)).pickV (3 : Int) == (0 : Int)) (ifT (decide ((((sh1.snd.pickC
 (20 : Int)).pickC (↑(sh1.fst.length + (1 : Nat)) : Int)).pickC (3 : Int)).good (900000000 : Int))) (ifT (decide ((0 : Int) ≤ (sh1.snd.pickC (20 : Int)).pickV
 (↑(sh1.fst.length + (1 : Nat)) : Int)) && decide ((sh1.snd.pickC (20 : Int)).pickV (↑(sh1.fst.length + (1 : Nat)) : Int) < (↑(sh1.fst.length + (1 : Nat)) : Int))) (ifSome
 (List.take sh1.fst.length (List.drop (0 : Nat) sh1.fst) ++ ((5 : Int), (0 : Int), (0 : Int), (0 : Int), nilT UInt8, (0 : Int), ()) :: sh5)[(0 : Nat) + ((sh1.snd.pickC (20
 : Int)).pickV (↑(sh1.fst.length + (1 : Nat)) : Int)).toNat]? fun z => some (V.agg [V.ref 1 0 (sh1.fst.length + (1 : Nat))], [some (Blk.box [V.sl (Cd.int .u8)
 ((((sh1.snd.pickC (20 : Int)).pickC (↑(sh1.fst.length + (1 : Nat)) : Int)).pickC (3 : Int)).pickC (7 : Int)).l, V.i .i64 ((((sh1.snd.pickC (20 : Int)).pickC
 (↑(sh1.fst.length + (1 : Nat)) : Int)).pickC (3 : Int)).pickC (7 : Int)).a, V.i .u64 ((((sh1.snd.pickC (20 : Int)).pickC (↑(sh1.fst.length + (1 : Nat)) : Int)).pickC (3 :
 Int)).pickC (7 : Int)).s]), some (Blk.row false none ((Cd.int .i64).pair ((Cd.int .i64).pair ((Cd.int .i64).pair ((Cd.int .i64).pair (Cd.str.pair ((Cd.int .i64).pair
 Cd.unit)))))) ((List.take sh1.fst.length (List.drop (0 : Nat) sh1.fst) ++ ((5 : Int), (0 : Int), (0 : Int), (0 : Int), nilT UInt8, (0 : Int), ()) :: sh5).set ((0 : Nat) +
 ((sh1.snd.pickC (20 : Int)).pickV (↑(sh1.fst.length + (1 : Nat)) : Int)).toNat) ((((sh1.snd.pickC (20 : Int)).pickC (↑(sh1.fst.length + (1 : Nat)) : Int)).pickC (3 :
 Int)).pickV (7 : Int), z.snd.fst, z.snd.snd.fst, z.snd.snd.snd.fst, z.snd.snd.snd.snd.fst, z.snd.snd.snd.snd.snd.fst, ())))])))) (ifB (((sh1.snd.pickC (20 : Int)).pickC
 (↑(sh1.fst.length + (1 : Nat)) : Int)).pickV (3 : Int) == (1 : Int)) (ifT (decide ((((sh1.snd.pickC (20 : Int)).pickC (↑(sh1.fst.length + (1 : Nat)) : Int)).pickC (3 :
 Int)).good (900000000 : Int))) (ifT (decide ((0 : Int) ≤ (sh1.snd.pickC (20 : Int)).pickV (↑(sh1.fst.length + (1 : Nat)) : Int)) && decide ((sh1.snd.pickC (20 :
 Int)).pickV (↑(sh1.fst.length + (1 : Nat)) : Int) < (↑(sh1.fst.length + (1 : Nat)) : Int))) (ifSome (List.take sh1.fst.length (List.drop (0 : Nat) sh1.fst) ++ ((5 : Int),
 (0 : Int), (0 : Int), (0 : Int), nilT UInt8, (0 : Int), ()) :: sh5)[(0 : Nat) + ((sh1.snd.pickC (20 : Int)).pickV (↑(sh1.fst.length + (1 : Nat)) : Int)).toNat]? fun z =>
 some (V.agg [V.ref 1 0 (sh1.fst.length + (1 : Nat))], [some (Blk.box [V.sl (Cd.int .u8) ((((sh1.snd.pickC (20 : Int)).pickC (↑(sh1.fst.length + (1 : Nat)) : Int)).pickC
 (3 : Int)).pickC (9 : Int)).l, V.i .i64 ((((sh1.snd.pickC (20 : Int)).pickC (↑(sh1.fst.length + (1 : Nat)) : Int)).pickC (3 : Int)).pickC (9 : Int)).a, V.i .u64
 ((((sh1.snd.pickC (20 : Int)).pickC (↑(sh1.fst.length + (1 : Nat)) : Int)).pickC (3 : Int)).pickC (9 : Int)).s]), some (Blk.row false none ((Cd.int .i64).pair ((Cd.int
 .i64).pair ((Cd.int .i64).pair ((Cd.int .i64).pair (Cd.str.pair ((Cd.int .i64).pair Cd.unit)))))) ((List.take sh1.fst.length (List.drop (0 : Nat) sh1.fst) ++ ((5 : Int),
 (0 : Int), (0 : Int), (0 : Int), nilT UInt8, (0 : Int), ()) :: sh5).set ((0 : Nat) + ((sh1.snd.pickC (20 : Int)).pickV (↑(sh1.fst.length + (1 : Nat)) : Int)).toNat)
 (z.fst, z.snd.fst, z.snd.snd.fst, z.snd.snd.snd.fst, z.snd.snd.snd.snd.fst, (((sh1.snd.pickC (20 : Int)).pickC (↑(sh1.fst.length + (1 : Nat)) : Int)).pickC (3 :
 Int)).pickV (9 : Int), ())))])))) (ifT (decide ((0 : Int) ≤ (sh1.snd.pickC (20 : Int)).pickV (↑(sh1.fst.length + (1 : Nat)) : Int)) && decide ((sh1.snd.pickC (20 :
 Int)).pickV (↑(sh1.fst.length + (1 : Nat)) : Int) < (↑(sh1.fst.length + (1 : Nat)) : Int))) (ifSome (List.take sh1.fst.length (List.drop (0 : Nat) sh1.fst) ++ ((5 : Int),
 (0 : Int), (0 : Int), (0 : Int), nilT UInt8, (0 : Int), ()) :: sh5)[(0 : Nat) + ((sh1.snd.pickC (20 : Int)).pickV (↑(sh1.fst.length + (1 : Nat)) : Int)).toNat]? fun z =>
 some (V.agg [V.ref 1 0 (sh1.fst.length + (1 : Nat))], [some (Blk.box [V.sl (Cd.int .u8) (((sh1.snd.pickC (20 : Int)).pickC (↑(sh1.fst.length + (1 : Nat)) : Int)).pickC (3
 : Int)).l, V.i .i64 (((sh1.snd.pickC (20 : Int)).pickC (↑(sh1.fst.length + (1 : Nat)) : Int)).pickC (3 : Int)).a, V.i .u64 (((sh1.snd.pickC (20 : Int)).pickC
 (↑(sh1.fst.length + (1 : Nat)) : Int)).pickC (3 : Int)).s]), some (Blk.row false none ((Cd.int .i64).pair ((Cd.int .i64).pair ((Cd.int .i64).pair ((Cd.int .i64).pair
 (Cd.str.pair ((Cd.int .i64).pair Cd.unit)))))) ((List.take sh1.fst.length (List.drop (0 : Nat) sh1.fst) ++ ((5 : Int), (0 : Int), (0 : Int), (0 : Int), nilT UInt8, (0 :
 Int), ()) :: sh5).set ((0 : Nat) + ((sh1.snd.pickC (20 : Int)).pickV (↑(sh1.fst.length + (1 : Nat)) : Int)).toNat) (z.fst, z.snd.fst, z.snd.snd.fst, (2 : Int),
 z.snd.snd.snd.snd.fst, z.snd.snd.snd.snd.snd.fst, ())))]))))))) (some (V.agg [V.ref 1 0 (sh1.fst.length + (1 : Nat))], [some (Blk.box [V.sl (Cd.int .u8) (sh1.snd.pickC
 (20 : Int)).l, V.i .i64 (sh1.snd.pickC (20 : Int)).a, V.i .u64 (sh1.snd.pickC (20 : Int)).s]), some (Blk.row false none ((Cd.int .i64).pair ((Cd.int .i64).pair ((Cd.int
 .i64).pair ((Cd.int .i64).pair (Cd.str.pair ((Cd.int .i64).pair Cd.unit)))))) (List.take sh1.fst.length (List.drop (0 : Nat) sh1.fst) ++ ((5 : Int), (0 : Int), (0 : Int),
 (0 : Int), nilT UInt8, (0 : Int), ()) :: sh5))]))))))) (ifT (decide (sh4.good (900000000 : Int))) (ifB (sh4.pickV (20 : Int) == (0 : Int)) (ifT (decide ((sh4.pickC (20 :
 Int)).good (900000000 : Int))) (ifT (decide (((sh4.pickC (20 : Int)).pickC (↑(cf sh3).length : Int)).good (900000000 : Int))) (ifB (((sh4.pickC (20 : Int)).pickC (↑(cf
 sh3).length : Int)).pickV (3 : Int) == (0 : Int)) (ifT (decide ((((sh4.pickC (20 : Int)).pickC (↑(cf sh3).length : Int)).pickC (3 : Int)).good (900000000 : Int))) (ifT
 (decide ((0 : Int) ≤ (sh4.pickC (20 : Int)).pickV (↑(cf sh3).length : Int)) && decide ((sh4.pickC (20 : Int)).pickV (↑(cf sh3).length : Int) < (↑(cf sh3).length : Int)))
 (ifSome (cf sh3)[(0 : Nat) + ((sh4.pickC (20 : Int)).pickV (↑(cf sh3).length : Int)).toNat]? fun z => some (V.agg [V.ref 1 0 (cf sh3).length], [some (Blk.box [V.sl
 (Cd.int .u8) ((((sh4.pickC (20 : Int)).pickC (↑(cf sh3).length : Int)).pickC (3 : Int)).pickC (7 : Int)).l, V.i .i64 ((((sh4.pickC (20 : Int)).pickC (↑(cf sh3).length :
 Int)).pickC (3 : Int)).pickC (7 : Int)).a, V.i .u64 ((((sh4.pickC (20 : Int)).pickC (↑(cf sh3).length : Int)).pickC (3 : Int)).pickC (7 : Int)).s]), some (Blk.row false
 none ((Cd.int .i64).pair ((Cd.int .i64).pair ((Cd.int .i64).pair ((Cd.int .i64).pair (Cd.str.pair ((Cd.int .i64).pair Cd.unit)))))) ((cf sh3).set ((0 : Nat) + ((sh4.pickC
 (20 : Int)).pickV (↑(cf sh3).length : Int)).toNat) ((((sh4.pickC (20 : Int)).pickC (↑(cf sh3).length : Int)).pickC (3 : Int)).pickV (7 : Int), z.snd.fst, z.snd.snd.fst,
 z.snd.snd.snd.fst, z.snd.snd.snd.snd.fst, z.snd.snd.snd.snd.snd.fst, ())))])))) (ifB (((sh4.pickC (20 : Int)).pickC (↑(cf sh3).length : Int)).pickV (3 : Int) == (1 :
 Int)) (ifT (decide ((((sh4.pickC (20 : Int)).pickC (↑(cf sh3).length : Int)).pickC (3 : Int)).good (900000000 : Int))) (ifT (decide ((0 : Int) ≤ (sh4.pickC (20 :
 Int)).pickV (↑(cf sh3).length : Int)) && decide ((sh4.pickC (20 : Int)).pickV (↑(cf sh3).length : Int) < (↑(cf sh3).length : Int))) (ifSome (cf sh3)[(0 : Nat) +
 ((sh4.pickC (20 : Int)).pickV (↑(cf sh3).length : Int)).toNat]? fun z => some (V.agg [V.ref 1 0 (cf sh3).length], [some (Blk.box [V.sl (Cd.int .u8) ((((sh4.pickC (20 :
 Int)).pickC (↑(cf sh3).length : Int)).pickC (3 : Int)).pickC (9 : Int)).l, V.i .i64 ((((sh4.pickC (20 : Int)).pickC (↑(cf sh3).length : Int)).pickC (3 : Int)).pickC (9 :
 Int)).a, V.i .u64 ((((sh4.pickC (20 : Int)).pickC (↑(cf sh3).length : Int)).pickC (3 : Int)).pickC (9 : Int)).s]), some (Blk.row false none ((Cd.int .i64).pair ((Cd.int
 .i64).pair ((Cd.int .i64).pair ((Cd.int .i64).pair (Cd.str.pair ((Cd.int .i64).pair Cd.unit)))))) ((cf sh3).set ((0 : Nat) + ((sh4.pickC (20 : Int)).pickV (↑(cf
 sh3).length : Int)).toNat) (z.fst, z.snd.fst, z.snd.snd.fst, z.snd.snd.snd.fst, z.snd.snd.snd.snd.fst, (((sh4.pickC (20 : Int)).pickC (↑(cf sh3).length : Int)).pickC (3 :
 Int)).pickV (9 : Int), ())))])))) (ifT (decide ((0 : Int) ≤ (sh4.pickC (20 : Int)).pickV (↑(cf sh3).length : Int)) && decide ((sh4.pickC (20 : Int)).pickV (↑(cf
 sh3).length : Int) < (↑(cf sh3).length : Int))) (ifSome (cf sh3)[(0 : Nat) + ((sh4.pickC (20 : Int)).pickV (↑(cf sh3).length : Int)).toNat]? fun z => some (V.agg [V.ref 1
 0 (cf sh3).length], [some (Blk.box [V.sl (Cd.int .u8) (((sh4.pickC (20 : Int)).pickC (↑(cf sh3).length : Int)).pickC (3 : Int)).l, V.i .i64 (((sh4.pickC (20 : Int)).pickC
 (↑(cf sh3).length : Int)).pickC (3 : Int)).a, V.i .u64 (((sh4.pickC (20 : Int)).pickC (↑(cf sh3).length : Int)).pickC (3 : Int)).s]), some (Blk.row false none ((Cd.int
 .i64).pair ((Cd.int .i64).pair ((Cd.int .i64).pair ((Cd.int .i64).pair (Cd.str.pair ((Cd.int .i64).pair Cd.unit)))))) ((cf sh3).set ((0 : Nat) + ((sh4.pickC (20 :
 Int)).pickV (↑(cf sh3).length : Int)).toNat) (z.fst, z.snd.fst, z.snd.snd.fst, (2 : Int), z.snd.snd.snd.snd.fst, z.snd.snd.snd.snd.snd.fst, ())))]))))))) (some (V.agg
 [V.ref 1 0 (cf sh3).length], [some (Blk.box [V.sl (Cd.int .u8) (sh4.pickC (20 : Int)).l, V.i .i64 (sh4.pickC (20 : Int)).a, V.i .u64 (sh4.pickC (20 : Int)).s]), some
 (Blk.row false none ((Cd.int .i64).pair ((Cd.int .i64).pair ((Cd.int .i64).pair ((Cd.int .i64).pair (Cd.str.pair ((Cd.int .i64).pair Cd.unit)))))) (cf sh3))])))))))) : _) := by kernel_rfl
theorem dprg_ex  (l : List Int) (a s : Int) (hc : (Cur.mk l a s).good 70000000) : Ex1 (funC Try.prog (look [(135, .own (dfltG dflt_f)), (134, .rd1 (cmpG cmp_f)), (85, .own coneG), (56, .own cpickG)]) (look [(6, prE pr_o)]) Try.f87 [.ptr 0 0] [.box [.sl (.int .u8) l, .i .i64 a, .i .u64 s]]) (fun y : (List Ins) × Cur => ((.agg [.ref 1 0 y.1.length], [some (cB y.2), some (.row false none (.pair (.int .i64) (.pair (.int .i64) (.pair (.int .i64) (.pair (.int .i64) (.pair .str (.pair (.int .i64) .unit)))))) y.1)]) : V × List (Option Blk))) (fun y => (∀ n, (Cur.mk l a s).good n → n ≤ 70000000 → y.2.good (n + 1000)) ∧ 1 ≤ y.1.length ∧ y.1.length ≤ 2000010) := by
  refine Ex1.of (dprg_tree dflt_f cmp_f pr_o  l a s) ?_
  have hM : maxI = 9223372036854775807 := rfl
  have gD : ∀ n, (Cur.mk l a s).good n → n ≤ 70000000 → (dflt_f (Cur.mk l a s)).2.good (n + 400) := fun n h hm => (dflt_pr (Cur.mk l a s) (Cur.good_mono hc (by omega))).1 n h (by omega)
  have os := pr_os
  have cp := cmp_pr
  generalize pr_o = o at os ⊢
  generalize cmp_f = cf at cp ⊢
  generalize dflt_f (Cur.mk l a s) = D at gD ⊢
  obtain ⟨w, c⟩ := D
  dsimp only at gD
  have gc : c.good 70000400 := gD 70000000 hc (by omega)
  repeat with_reducible refine Ex1.sh ?_
  simp only [cB_fold, nilT_eq, List.drop_zero, List.take_length, Nat.zero_add]
  refine Ex1.T (decide_eq_true (Cur.good_mono hc (by omega))) (Ex1.B (fun hg => ?_) (fun hg => ?_))
  · refine Ex1.T (decide_eq_true (Cur.good_mono gc (by omega))) ?_
    have r := Cur.pickV_range (c := c) (k := 8) gc (by omega)
    obtain ⟨N, hN2⟩ : ∃ N : Nat, 1 + c.pickV 8 = (N : Int) := ⟨(1 + c.pickV 8).toNat, by omega⟩
    have hN : IntKind.i64.wrap (N : Int) = (N : Int) := wrap_id (by omega) (by omega)
    simp only [hN2, hN, Int.toNat_natCast]
    have g8 : (c.pickC 8).good (80000100 - 10 * (N : Int)) := Cur.pk (Cur.good_mono gc (by omega))
    have q := (os (c.pickC 8, N, 0, []) ⟨Nat.zero_le _, by show 1 ≤ N; omega, by show N ≤ 8; omega, rfl, g8⟩).2
    have pD : ∀ n, (Cur.mk l a s).good n → n ≤ 70000000 → (c.pickC 8).good (n + 410) := fun n h hm => Cur.pk (Cur.good_mono (gD n h hm) (by omega))
    generalize o (c.pickC 8, N, 0, []) = R at q ⊢
    obtain ⟨W, c2⟩ := R
    dsimp only at q
    obtain ⟨q1, q2⟩ := q
    have pt : ∀ n, (Cur.mk l a s).good n → n ≤ 70000000 → c2.good (n + 700) := fun n h hm => Cur.good_mono (q1 (n + 410) (pD n h hm) (by omega)) (by omega)
    have gt : c2.good 70000700 := pt 70000000 hc (by omega)
    refine Ex1.T (decide_eq_true ⟨trivial, by omega, by omega, g8⟩) (Ex1.T (by simp only [Bool.and_eq_true, decide_eq_true_eq]; omega) ?_)
    have hl : W.length + 1 = (W ++ [((5, 0, 0, 0, [], 0, ()) : Ins)]).length := by rw [List.length_append, List.length_singleton]
    have hV1 : 1 ≤ (W ++ [((5, 0, 0, 0, [], 0, ()) : Ins)]).length := by omega
    have hV2 : (W ++ [((5, 0, 0, 0, [], 0, ()) : Ins)]).length ≤ 2000010 := by omega
    simp only [hl]
    generalize W ++ [((5, 0, 0, 0, [], 0, ()) : Ins)] = V at hV1 hV2 ⊢
    repeat' first
      | with_reducible refine Ex1.B (fun h => ?_) (fun h => ?_)
      | with_reducible refine Ex1.T ?_ ?_
      | with_reducible refine Ex1.S (ex_at ?_) fun z hz => ?_
    all_goals try simp only [cB_fold]
    all_goals first
      | (refine decide_eq_true ?_; (repeat with_reducible apply Cur.pk); exact Cur.good_mono gt (by omega))
      | exact pick_b (n := 81000000) (by (repeat with_reducible apply Cur.pk); exact Cur.good_mono gt (by omega)) hV1
      | exact pick_at (n := 81000000) (by (repeat with_reducible apply Cur.pk); exact Cur.good_mono gt (by omega)) hV1
      | exact Ex1.c _ rfl rfl ⟨fun n hn hm => by (repeat with_reducible apply Cur.pk); exact Cur.good_mono (pt n hn hm) (by omega), by dsimp only; omega⟩
      | exact Ex1.c _ rfl (by simp only [List.length_set]) ⟨fun n hn hm => by (repeat with_reducible apply Cur.pk); exact Cur.good_mono (pt n hn hm) (by omega), by simp only [List.length_set]; omega⟩
  · have hgood : goodFB w = true := by simpa using hg
    refine Ex1.T (decide_eq_true (Cur.good_mono gc (by omega))) (Ex1.B (fun h4 => ?_) (fun h4 => ?_))
    · have gc4 : (c.pickC 4).good 70000402 := Cur.pk gc
      refine Ex1.T (decide_eq_true (Cur.good_mono gc4 (by omega))) ?_
      have gD4 : ∀ n, (Cur.mk l a s).good n → n ≤ 70000000 → (c.pickC 4).good (n + 402) := fun n h hm => Cur.pk (Cur.good_mono (gD n h hm) (by omega))
      generalize c.pickC 4 = c4 at gc4 gD4 ⊢
      have r := Cur.pickV_range (c := c4) (k := 8) gc4 (by omega)
      obtain ⟨N, hN2⟩ : ∃ N : Nat, 1 + c4.pickV 8 = (N : Int) := ⟨(1 + c4.pickV 8).toNat, by omega⟩
      have hN : IntKind.i64.wrap (N : Int) = (N : Int) := wrap_id (by omega) (by omega)
      simp only [hN2, hN, Int.toNat_natCast]
      have g8 : (c4.pickC 8).good (80000100 - 10 * (N : Int)) := Cur.pk (Cur.good_mono gc4 (by omega))
      have q := (os (c4.pickC 8, N, 0, []) ⟨Nat.zero_le _, by show 1 ≤ N; omega, by show N ≤ 8; omega, rfl, g8⟩).2
      have pD : ∀ n, (Cur.mk l a s).good n → n ≤ 70000000 → (c4.pickC 8).good (n + 410) := fun n h hm => Cur.pk (Cur.good_mono (gD4 n h hm) (by omega))
      generalize o (c4.pickC 8, N, 0, []) = R at q ⊢
      obtain ⟨W, c2⟩ := R
      dsimp only at q
      obtain ⟨q1, q2⟩ := q
      have pt : ∀ n, (Cur.mk l a s).good n → n ≤ 70000000 → c2.good (n + 700) := fun n h hm => Cur.good_mono (q1 (n + 410) (pD n h hm) (by omega)) (by omega)
      have gt : c2.good 70000700 := pt 70000000 hc (by omega)
      refine Ex1.T (decide_eq_true ⟨trivial, by omega, by omega, g8⟩) (Ex1.T (by simp only [Bool.and_eq_true, decide_eq_true_eq]; omega) ?_)
      have hl : W.length + 1 = (W ++ [((5, 0, 0, 0, [], 0, ()) : Ins)]).length := by rw [List.length_append, List.length_singleton]
      have hV1 : 1 ≤ (W ++ [((5, 0, 0, 0, [], 0, ()) : Ins)]).length := by omega
      have hV2 : (W ++ [((5, 0, 0, 0, [], 0, ()) : Ins)]).length ≤ 2000010 := by omega
      simp only [hl]
      generalize W ++ [((5, 0, 0, 0, [], 0, ()) : Ins)] = V at hV1 hV2 ⊢
      repeat' first
        | with_reducible refine Ex1.B (fun h => ?_) (fun h => ?_)
        | with_reducible refine Ex1.T ?_ ?_
        | with_reducible refine Ex1.S (ex_at ?_) fun z hz => ?_
      all_goals try simp only [cB_fold]
      all_goals first
        | (refine decide_eq_true ?_; (repeat with_reducible apply Cur.pk); exact Cur.good_mono gt (by omega))
        | exact pick_b (n := 81000000) (by (repeat with_reducible apply Cur.pk); exact Cur.good_mono gt (by omega)) hV1
        | exact pick_at (n := 81000000) (by (repeat with_reducible apply Cur.pk); exact Cur.good_mono gt (by omega)) hV1
        | exact Ex1.c _ rfl rfl ⟨fun n hn hm => by (repeat with_reducible apply Cur.pk); exact Cur.good_mono (pt n hn hm) (by omega), by dsimp only; omega⟩
        | exact Ex1.c _ rfl (by simp only [List.length_set]) ⟨fun n hn hm => by (repeat with_reducible apply Cur.pk); exact Cur.good_mono (pt n hn hm) (by omega), by simp only [List.length_set]; omega⟩
    · have hl := cp w
      have hV1 : 1 ≤ (cf w).length := hl.2 hgood
      have hV2 : (cf w).length ≤ 2000010 := by omega
      generalize cf w = V at hV1 hV2 ⊢
      have gt : (c.pickC 4).good 70000700 := Cur.pk (Cur.good_mono gc (by omega))
      have pt : ∀ n, (Cur.mk l a s).good n → n ≤ 70000000 → (c.pickC 4).good (n + 700) := fun n h hm => Cur.pk (Cur.good_mono (gD n h hm) (by omega))
      generalize c.pickC 4 = c2 at gt pt ⊢
      repeat' first
        | with_reducible refine Ex1.B (fun h => ?_) (fun h => ?_)
        | with_reducible refine Ex1.T ?_ ?_
        | with_reducible refine Ex1.S (ex_at ?_) fun z hz => ?_
      all_goals try simp only [cB_fold]
      all_goals first
        | (refine decide_eq_true ?_; (repeat with_reducible apply Cur.pk); exact Cur.good_mono gt (by omega))
        | exact pick_b (n := 81000000) (by (repeat with_reducible apply Cur.pk); exact Cur.good_mono gt (by omega)) hV1
        | exact pick_at (n := 81000000) (by (repeat with_reducible apply Cur.pk); exact Cur.good_mono gt (by omega)) hV1
        | exact Ex1.c _ rfl rfl ⟨fun n hn hm => by (repeat with_reducible apply Cur.pk); exact Cur.good_mono (pt n hn hm) (by omega), by dsimp only; omega⟩
        | exact Ex1.c _ rfl (by simp only [List.length_set]) ⟨fun n hn hm => by (repeat with_reducible apply Cur.pk); exact Cur.good_mono (pt n hn hm) (by omega), by simp only [List.length_set]; omega⟩
theorem dprg_exf : ∃ f : Cur → (List Ins) × Cur, Contract Try.prog 87 (Ent.own (dprgG f)).F ∧ ∀  (c : Cur), (c.good 70000000) → (∀ n, c.good n → n ≤ 70000000 → (f  c).2.good (n + 1000)) ∧ 1 ≤ (f  c).1.length ∧ (f  c).1.length ≤ 2000010 := by
  have ex := fun  (c : Cur) (hc : c.good 70000000) => dprg_ex  c.l c.a c.s hc
  classical
  refine ⟨fun  c => if h : c.good 70000000 then (ex  c h).choose else ([], c), ?_, fun  c hc => ?_⟩
  rotate_left
  · simp only [dif_pos hc]
    exact (ex  c hc).choose_spec.2
  refine fun_contractC' (KnowsL.cons (enters_fn Try.func135 (by kernel_rfl) (by kernel_rfl)) dflt_con (KnowsL.cons (enters_fn Try.func134 (by kernel_rfl) (by kernel_rfl)) cmp_con (KnowsL.cons (enters_fn Try.func85 (by kernel_rfl) (by kernel_rfl)) cone (KnowsL.cons (enters_fn Try.func56 (by kernel_rfl) (by kernel_rfl)) cpick KnowsL.nil)))).knows (Λ := (look [(6, prE pr_o)])) Try.func87 (c := Try.f87.body.getD .skip) (by kernel_rfl) fun vs bs r hq hv hb => ?_
  unfold Ent.F dprgG at hq
  dsimp only at hq
  split at hq
  · rename_i  l a s
    obtain ⟨hc, hx⟩ := need_some hq
    have hc := of_decide_eq_true hc
    refine ⟨pr_ok, ((ex  (Cur.mk l a s) hc).choose_spec.1).trans ?_⟩
    rw [dif_pos hc] at hx
    exact hx
  · cases hq
noncomputable def dprg_f : Cur → (List Ins) × Cur := dprg_exf.choose
theorem dprg_con : Contract Try.prog 87 (Ent.own (dprgG dprg_f)).F := dprg_exf.choose_spec.1
theorem dprg_pr : ∀  (c : Cur), (c.good 70000000) → (∀ n, c.good n → n ≤ 70000000 → (dprg_f  c).2.good (n + 1000)) ∧ 1 ≤ (dprg_f  c).1.length ∧ (dprg_f  c).1.length ≤ 2000010 := dprg_exf.choose_spec.2

/-- A number's bytes but the last, and what the last tells. -/
def vpre : Nat → Nat → List UInt8 × Nat
  | 0, n => ([], n)
  | f + 1, n => if 128 ≤ n then (UInt8.ofNat (n % 128 + 128) :: (vpre f (n / 128)).1, (vpre f (n / 128)).2) else ([], n)
def vbs (n : Nat) : List UInt8 := (vpre 10 n).1 ++ [UInt8.ofNat (vpre 10 n).2]
def fol (n : Int) : Int := if n < 0 then -2 * n - 1 else 2 * n
def svE : LoopEnt := ⟨22, [0,3], [0,3], [], fun
  | ([.i .i64 n, .s s], []) => .need (decide (0 ≤ n ∧ n ≤ 1000000000000 ∧ s.length ≤ 1000)) (.leaf (.exit 0, ([.i .i64 ((vpre 10 n.toNat).2 : Int), .s (s ++ (vpre 10 n.toNat).1)], [])))
  | _ => .no⟩
def vbsG : List V → List Blk → Br (V × List (Option Blk))
  | [.i .i64 n], [] => .need (decide (0 ≤ n ∧ n ≤ 1000000000000)) (.leaf (.s (vbs n.toNat), []))
  | _, _ => .no
def folG : List V → List Blk → Br (V × List (Option Blk))
  | [.i .i64 n], [] => .need (decide (-1000000000000 ≤ n ∧ n ≤ 1000000000000)) (.leaf (.i .i64 (fol n), []))
  | _, _ => .no

theorem sv_round (n : Int) (s : List UInt8) : roundK Try.prog (look []) (look [(2, svE)]) 0 (body Try.f203 0) svE ([.i .i64 n, .s s], []) =
  ((ifB (decide (n ≥ (128 : Int))) (ifT (decide (s.length + (1 : Nat) ≤ (9223372036854775807 : Nat))) (some (Ex.normal, [V.i .i64 (n.fdiv ((2 : Int) ^ min (7 : Nat)
 IntKind.i64.bits)), V.s (s ++ List.map (fun n => UInt8.ofNat n.toNat) (IntKind.u8.wrap (↑(BitVec.ofInt IntKind.u8.bits (IntKind.u8.wrap (IntKind.i64.wrap (↑(BitVec.ofInt
 IntKind.i64.bits n &&& BitVec.ofInt IntKind.i64.bits (127 : Int)).toNat : Int))) ||| BitVec.ofInt IntKind.u8.bits (128 : Int)).toNat : Int) :: nilT (Cd.int .u8).den))],
 []))) (some (Ex.exit 0, [V.i .i64 n, V.s s], []))) : _) := by kernel_rfl
theorem sv_tree (n : Int) : funK Try.prog (look []) (look [(2, svE)]) Try.f203 [.i .i64 n] [] =
  ((ifT (decide ((0 : Int) ≤ n ∧ n ≤ (1000000000000 : Int) ∧ (0 : Nat) ≤ (1000 : Nat))) (ifT (decide ((nilT UInt8 ++ (vpre (10 : Nat) n.toNat).fst).length + (1 : Nat) ≤
 (9223372036854775807 : Nat))) (some (V.s (nilT UInt8 ++ (vpre (10 : Nat) n.toNat).fst ++ List.map (fun n => UInt8.ofNat n.toNat) (IntKind.u8.wrap (↑(vpre (10 : Nat)
 n.toNat).snd : Int) :: nilT (Cd.int .u8).den)), [])))) : _) := by kernel_rfl
theorem low7b (n : Nat) : IntKind.i64.wrap ((BitVec.ofInt IntKind.i64.bits (n : Int) &&& BitVec.ofInt IntKind.i64.bits (127 : Int)).toNat : Int) = ((n % 128 : Nat) : Int) := by
  have e : (BitVec.ofInt IntKind.i64.bits (n : Int) &&& BitVec.ofInt IntKind.i64.bits (127 : Int)).toNat = n % 128 := by
    show (BitVec.ofInt 64 (n : Int) &&& BitVec.ofInt 64 ((127 : Nat) : Int)).toNat = n % 128
    rw [BitVec.toNat_and, BitVec.ofInt_natCast, BitVec.ofInt_natCast, BitVec.toNat_ofNat, BitVec.toNat_ofNat, show 127 % 2 ^ 64 = 2 ^ 7 - 1 by decide, Nat.and_two_pow_sub_one_eq_mod]
    show n % 18446744073709551616 % 128 = n % 128
    omega
  rw [e, wrap_id (by omega) (by omega)]
theorem u8_id {n : Nat} (h : n < 256) : IntKind.u8.wrap (n : Int) = (n : Int) := by
  unfold IntKind.wrap
  simp [IntKind.bits, IntKind.signed]
  omega
theorem or128 (x : Nat) (hx : x < 128) : IntKind.u8.wrap ((BitVec.ofInt IntKind.u8.bits (x : Int) ||| BitVec.ofInt IntKind.u8.bits (128 : Int)).toNat : Int) = ((x + 128 : Nat) : Int) := by
  have e : (BitVec.ofInt IntKind.u8.bits (x : Int) ||| BitVec.ofInt IntKind.u8.bits (128 : Int)).toNat = x + 128 := by
    show (BitVec.ofInt 8 (x : Int) ||| BitVec.ofInt 8 ((128 : Nat) : Int)).toNat = _
    rw [BitVec.toNat_or, BitVec.ofInt_natCast, BitVec.ofInt_natCast, BitVec.toNat_ofNat, BitVec.toNat_ofNat, Nat.mod_eq_of_lt (by omega), Nat.mod_eq_of_lt (by omega), Nat.or_comm, show (128 : Nat) = 2 ^ 7 * 1 by decide, ← Nat.two_pow_add_eq_or_of_lt (by omega) 1]
    omega
  rw [e, u8_id (by omega)]
theorem vpre_lt : ∀ (f n : Nat), n < 128 ^ (f + 1) → (vpre f n).2 < 128 ∧ (vpre f n).1.length ≤ f
  | 0, n, h => ⟨by simpa [vpre] using h, by simp [vpre]⟩
  | f + 1, n, h => by
    rw [vpre]
    split
    · rw [Nat.pow_succ] at h
      have := vpre_lt f (n / 128) (Nat.div_lt_of_lt_mul (by omega))
      exact ⟨this.1, by simp; omega⟩
    · exact ⟨by dsimp only; omega, by simp⟩
theorem vbs_len {n : Nat} (h : n ≤ 1000000000000) : 1 ≤ (vbs n).length ∧ (vbs n).length ≤ 11 := by
  have := (vpre_lt 10 n (by have : (128 : Nat) ^ 11 = 151115727451828646838272 := by decide
                            omega)).2
  unfold vbs
  rw [List.length_append, List.length_singleton]
  omega
theorem sv_loop : ∀ (f n : Nat) (s : List UInt8), n < 128 ^ f → f ≤ 10 → s.length ≤ 1000 + (10 - f) →
    Runs Try.prog (look []) (look [(2, svE)]) 0 (body Try.f203 0) svE ([.i .i64 (n : Int), .s s], []) (.exit 0) ([.i .i64 ((vpre f n).2 : Int), .s (s ++ (vpre f n).1)], [])
  | 0, n, s, h, hf, hs => by
    have : n = 0 := by simpa using h
    subst this
    have hr := sv_round ((0 : Nat) : Int) s
    rw [ifB_false (decide_eq_false (by omega))] at hr
    rw [vpre, List.append_nil]
    exact .stop _ _ _ hr (by simp)
  | f + 1, n, s, h, hf, hs => by
    have hr := sv_round (n : Int) s
    by_cases q : 128 ≤ n
    · have hn : n < 128 ^ 10 := Nat.lt_of_lt_of_le h (Nat.pow_le_pow_right (by omega) hf)
      have hn2 : n < 2 ^ 63 ∨ 2 ^ 63 ≤ n := by omega
      rw [ifB_true (decide_eq_true (by omega)), ifT_true (decide_eq_true (by omega)), low7b n, u8_id (n := n % 128) (by omega), or128 (n % 128) (by omega)] at hr
      have e1 : Int.fdiv (n : Int) ((2 : Int) ^ min 7 IntKind.i64.bits) = ((n / 128 : Nat) : Int) := by
        show Int.fdiv (n : Int) ((128 : Nat) : Int) = _
        rw [Int.fdiv_eq_ediv_of_nonneg _ (by omega)]
        rfl
      rw [e1] at hr
      rw [Nat.pow_succ] at h
      have ih := sv_loop f (n / 128) (s ++ [UInt8.ofNat (n % 128 + 128)]) (Nat.div_lt_of_lt_mul (by omega)) (by omega) (by simp; omega)
      rw [vpre, if_pos q]
      dsimp only
      rw [List.append_assoc] at ih
      exact .step _ _ _ _ hr ih
    · rw [ifB_false (decide_eq_false (by omega))] at hr
      rw [vpre, if_neg q, List.append_nil]
      exact .stop _ _ _ hr (by simp)
theorem sv_ok : LoopsOk Try.prog (look []) (look [(2, svE)]) 0 (Try.f203.body.getD .skip) := by
  refine loopsOk_one (a := body Try.f203 0) (by kernel_rfl) fun d ex d' h => ?_
  unfold svE at h
  dsimp only at h
  split at h
  · rename_i n s
    obtain ⟨hc, hx⟩ := need_some h
    clear h
    obtain ⟨h0, h1, h2⟩ := of_decide_eq_true hc
    obtain ⟨n, rfl⟩ := Int.eq_ofNat_of_zero_le h0
    rw [Int.toNat_natCast] at hx
    have h8 := leaf_some hx
    obtain ⟨rfl, rfl⟩ := Prod.mk.inj h8
    exact sv_loop 10 n s (by have : (128 : Nat) ^ 10 = 1180591620717411303424 := by decide
                             omega) (by omega) (by omega)
  · cases h
theorem sv : Contract Try.prog 203 (Ent.rd1 vbsG).F := by
  refine fun_contract' KnowsL.nil.knows (Λ := look [(2, svE)]) Try.func203 (c := Try.f203.body.getD .skip) (by kernel_rfl) fun vs bs r hq hv hb => ?_
  unfold Ent.F vbsG at hq
  dsimp only at hq
  split at hq
  · rename_i n
    obtain ⟨hc, hx⟩ := need_some hq
    obtain ⟨h0, h1⟩ := of_decide_eq_true hc
    obtain ⟨n, rfl⟩ := Int.eq_ofNat_of_zero_le h0
    rw [Int.toNat_natCast] at hx
    refine ⟨sv_ok, Eq.trans ?_ hx⟩
    have hl := vpre_lt 10 n (by have : (128 : Nat) ^ 11 = 151115727451828646838272 := by decide
                                omega)
    rw [sv_tree, ifT_true (decide_eq_true ⟨h0, h1, by simp⟩), Int.toNat_natCast]
    simp only [nilT_eq, List.nil_append]
    rw [ifT_true (decide_eq_true (by omega)), u8_id (by omega)]
    rfl
  · cases hq
theorem sfol_tree (n : Int) : funK Try.prog (look []) (look []) Try.f204 [.i .i64 n] [] =
  ((ifB (decide (n ≥ (0 : Int))) (some (V.i .i64 (IntKind.i64.wrap ((2 : Int) * n)), [])) (some (V.i .i64 (IntKind.i64.wrap (IntKind.i64.wrap ((-2 : Int) * n) - (1 : Int))),
 []))) : _) := by kernel_rfl
theorem sfol_fun (n : Int) (hc : -1000000000000 ≤ n ∧ n ≤ 1000000000000) : funK Try.prog (look []) (look []) Try.f204 [.i .i64 n] [] = (.leaf (.i .i64 (fol n), []) : Br (V × List (Option Blk))).run := by
  rw [sfol_tree]
  unfold fol
  by_cases q : n < 0
  · rw [ifB_false (decide_eq_false (by omega)), if_pos q, wrap_id (n := -2 * n) (by omega) (by omega), wrap_id (by omega) (by omega)]; rfl
  · rw [ifB_true (decide_eq_true (by omega)), if_neg q, wrap_id (by omega) (by omega)]; rfl
theorem sfol : Contract Try.prog 204 (Ent.rd1 folG).F := by
  refine fun_contract' KnowsL.nil.knows (Λ := look []) Try.func204 (c := Try.f204.body.getD .skip) (by kernel_rfl) fun vs bs r' hq hv hb => ?_
  unfold Ent.F folG at hq
  dsimp only at hq
  split at hq
  · rename_i n
    obtain ⟨hc, hx⟩ := need_some hq
    exact ⟨loopsOk_nil _, (sfol_fun n (of_decide_eq_true hc)).trans hx⟩
  · cases hq

def fb1 (f : WFd) : List UInt8 := vbs (8 * f.1 + f.2.1).toNat ++ (if f.2.1 = 0 then vbs (fol f.2.2.1).toNat else vbs f.2.2.2.1.length ++ f.2.2.2.1)
/-- The bytes of fields. -/
def fbs (l : List WFd) : List UInt8 := l.flatMap fb1
def fineB (f : WFd) : Bool := fieldB f && decide (f.2.2.2.1.length ≤ 400)
def fbOK (l : List WFd) : Bool := l.all fineB && (decide (l.length ≤ 40) && decide ((fbs l).length ≤ 400))
def fbsG : List V → List Blk → Br (V × List (Option Blk))
  | [.sl (.pair (.int .i64) (.pair (.int .i64) (.pair (.int .i64) (.pair .str .unit)))) l], [] => .need (decide (l.length ≤ 100000) && l.all fineB) (.leaf (.s (fbs l), []))
  | _, _ => .no
def fbsE : LoopEnt := ⟨41, [3,6,7,8], [3], [], fun
  | ([.s s, .sl (.pair (.int .i64) (.pair (.int .i64) (.pair (.int .i64) (.pair .str .unit)))) l, .i .i64 k, .i .i64 i], []) => .need (decide (0 ≤ i ∧ i.toNat ≤ l.length ∧ k = l.length ∧ l.length ≤ 100000 ∧ s.length ≤ 1000 * i.toNat) && l.all fineB) (.leaf (.exit 0, ([.s (s ++ fbs (l.drop i.toNat))], [])))
  | _ => .no⟩
def fbyG : List V → List Blk → Br (V × List (Option Blk))
  | [.sl (.pair (.int .i64) (.pair (.int .i64) (.pair (.int .i64) (.pair .str .unit)))) l], [] => .leaf (.tup [.s (bif fbOK l then fbs l else []), .b (fbOK l)], [])
  | _, _ => .no
def fbyE : LoopEnt := ⟨32, [0,7,8,9], [0], [2,3], fun
  | ([.sl (.pair (.int .i64) (.pair (.int .i64) (.pair (.int .i64) (.pair .str .unit)))) l0, .sl (.pair (.int .i64) (.pair (.int .i64) (.pair (.int .i64) (.pair .str .unit)))) l, .i .i64 k, .i .i64 i], []) => .need (decide (0 ≤ i ∧ i.toNat ≤ l.length ∧ k = l.length ∧ l.length ≤ maxI)) (.br ((l.drop i.toNat).all fineB) (.leaf (.exit 0, ([.sl (.pair (.int .i64) (.pair (.int .i64) (.pair (.int .i64) (.pair .str .unit)))) l0], []))) (.leaf (.ret, ([.s [], .b false], []))))
  | _ => .no⟩

theorem fbs_round (s : List UInt8) (l : List WFd) (k i : Int) : roundK Try.prog (look [(203, .rd1 vbsG), (204, .rd1 folG)]) (look [(3, fbsE)]) 0 (body Try.f182 0) fbsE ([.s s, .sl (.pair (.int .i64) (.pair (.int .i64) (.pair (.int .i64) (.pair .str .unit)))) l, .i .i64 k, .i .i64 i], []) =
  ((ifB (decide (i < k)) (ifT (decide ((0 : Int) ≤ i) && decide (i < (↑l.length : Int))) (ifSome l[i.toNat]? fun z => ifT (decide ((0 : Int) ≤ IntKind.i64.wrap
 (IntKind.i64.wrap ((8 : Int) * z.fst) + z.snd.fst) ∧ IntKind.i64.wrap (IntKind.i64.wrap ((8 : Int) * z.fst) + z.snd.fst) ≤ (1000000000000 : Int))) (ifT (decide (s.length
 + (vbs (IntKind.i64.wrap (IntKind.i64.wrap ((8 : Int) * z.fst) + z.snd.fst)).toNat).length ≤ (9223372036854775807 : Nat))) (ifB (z.snd.fst == (0 : Int)) (ifT (decide
 ((-1000000000000 : Int) ≤ z.snd.snd.fst ∧ z.snd.snd.fst ≤ (1000000000000 : Int))) (ifT (decide ((0 : Int) ≤ fol z.snd.snd.fst ∧ fol z.snd.snd.fst ≤ (1000000000000 :
 Int))) (ifT (decide ((s ++ vbs (IntKind.i64.wrap (IntKind.i64.wrap ((8 : Int) * z.fst) + z.snd.fst)).toNat).length + (vbs (fol z.snd.snd.fst).toNat).length ≤
 (9223372036854775807 : Nat))) (some (Ex.normal, [V.s (s ++ vbs (IntKind.i64.wrap (IntKind.i64.wrap ((8 : Int) * z.fst) + z.snd.fst)).toNat ++ vbs (fol
 z.snd.snd.fst).toNat), V.sl ((Cd.int .i64).pair ((Cd.int .i64).pair ((Cd.int .i64).pair (Cd.str.pair Cd.unit)))) l, V.i .i64 k, V.i .i64 (IntKind.i64.wrap (i + (1 :
 Int)))], []))))) (ifT (decide ((0 : Int) ≤ (↑(List.length z.snd.snd.snd.fst) : Int) ∧ (↑(List.length z.snd.snd.snd.fst) : Int) ≤ (1000000000000 : Int))) (ifT (decide
 ((vbs (↑(List.length z.snd.snd.snd.fst) : Int).toNat).length + List.length z.snd.snd.snd.fst ≤ (9223372036854775807 : Nat))) (ifT (decide ((s ++ vbs (IntKind.i64.wrap
 (IntKind.i64.wrap ((8 : Int) * z.fst) + z.snd.fst)).toNat).length + (vbs (↑(List.length z.snd.snd.snd.fst) : Int).toNat ++ z.snd.snd.snd.fst).length ≤
 (9223372036854775807 : Nat))) (some (Ex.normal, [V.s (s ++ vbs (IntKind.i64.wrap (IntKind.i64.wrap ((8 : Int) * z.fst) + z.snd.fst)).toNat ++ (vbs (↑(List.length
 z.snd.snd.snd.fst) : Int).toNat ++ z.snd.snd.snd.fst)), V.sl ((Cd.int .i64).pair ((Cd.int .i64).pair ((Cd.int .i64).pair (Cd.str.pair Cd.unit)))) l, V.i .i64 k, V.i .i64
 (IntKind.i64.wrap (i + (1 : Int)))], []))))))))) (some (Ex.exit 0, [V.s s], []))) : _) := by kernel_rfl
theorem fbs_tree (l : List WFd) : funK Try.prog (look [(203, .rd1 vbsG), (204, .rd1 folG)]) (look [(3, fbsE)]) Try.f182 [.sl (.pair (.int .i64) (.pair (.int .i64) (.pair (.int .i64) (.pair .str .unit)))) l] [] =
  ((ifT (decide ((0 : Int) ≤ (0 : Int) ∧ (0 : Nat) ≤ l.length ∧ (↑l.length : Int) = (↑l.length : Int) ∧ l.length ≤ (100000 : Nat) ∧ (0 : Nat) ≤ (0 : Nat)) && l.all fineB)
 (some (V.s (nilT UInt8 ++ fbs (List.drop (0 : Nat) l)), []))) : _) := by kernel_rfl
theorem fby_round (l0 l : List WFd) (k i : Int) : roundK Try.prog (look [(181, .rd1 fieldG), (182, .rd1 fbsG)]) (look [(2, fbyE)]) 0 (body Try.f138 0) fbyE ([.sl (.pair (.int .i64) (.pair (.int .i64) (.pair (.int .i64) (.pair .str .unit)))) l0, .sl (.pair (.int .i64) (.pair (.int .i64) (.pair (.int .i64) (.pair .str .unit)))) l, .i .i64 k, .i .i64 i], []) =
  ((ifB (decide (i < k)) (ifT (decide ((0 : Int) ≤ i) && decide (i < (↑l.length : Int))) (ifSome l[i.toNat]? fun z => ifB (!fieldB (z.fst, z.snd.fst, z.snd.snd.fst,
 z.snd.snd.snd.fst, ())) (some (Ex.ret, [V.s (nilT UInt8), V.b false], [])) (ifB (decide ((↑(List.length z.snd.snd.snd.fst) : Int) > (400 : Int))) (some (Ex.ret, [V.s
 (nilT UInt8), V.b false], [])) (some (Ex.normal, [V.sl ((Cd.int .i64).pair ((Cd.int .i64).pair ((Cd.int .i64).pair (Cd.str.pair Cd.unit)))) l0, V.sl ((Cd.int .i64).pair
 ((Cd.int .i64).pair ((Cd.int .i64).pair (Cd.str.pair Cd.unit)))) l, V.i .i64 k, V.i .i64 (IntKind.i64.wrap (i + (1 : Int)))], []))))) (some (Ex.exit 0, [V.sl ((Cd.int
 .i64).pair ((Cd.int .i64).pair ((Cd.int .i64).pair (Cd.str.pair Cd.unit)))) l0], []))) : _) := by kernel_rfl
theorem fby_tree (l : List WFd) : funK Try.prog (look [(181, .rd1 fieldG), (182, .rd1 fbsG)]) (look [(2, fbyE)]) Try.f138 [.sl (.pair (.int .i64) (.pair (.int .i64) (.pair (.int .i64) (.pair .str .unit)))) l] [] =
  ((ifT (decide ((0 : Int) ≤ (0 : Int) ∧ (0 : Nat) ≤ l.length ∧ (↑l.length : Int) = (↑l.length : Int) ∧ l.length ≤ maxI)) (ifB ((List.drop (0 : Nat) l).all fineB) (ifB (decide
 ((↑l.length : Int) > (40 : Int))) (some (V.tup [V.s (nilT UInt8), V.b false], [])) (ifT (decide (l.length ≤ (100000 : Nat)) && l.all fineB) (ifB (decide ((↑(fbs l).length
 : Int) > (400 : Int))) (some (V.tup [V.s (nilT UInt8), V.b false], [])) (some (V.tup [V.s (fbs l), V.b true], []))))) (some (V.tup [V.s (nilT UInt8), V.b false], [])))) : _) := by kernel_rfl
theorem field_facts {f : WFd} (h : fieldB f = true) : (1 ≤ f.1 ∧ f.1 ≤ 30) ∧ ((f.2.1 = 0 ∧ numB f.2.2.1 = true ∧ f.2.2.2.1 = []) ∨ (f.2.1 = 2 ∧ f.2.2.1 = 0)) := by
  unfold fieldB at h
  simp only [Bool.and_eq_true, decide_eq_true_eq] at h
  obtain ⟨h1, h2⟩ := h
  refine ⟨h1, ?_⟩
  split at h2
  · rename_i q
    simp only [Bool.and_eq_true, beq_iff_eq] at h2
    exact .inl ⟨q, h2.1, h2.2⟩
  · split at h2
    · rename_i q
      exact .inr ⟨q, by simpa using h2⟩
    · cases h2
theorem num_range {n : Int} (h : numB n = true) : -1000000000 ≤ n ∧ n ≤ 1000000000 := by
  unfold numB at h
  simpa only [Bool.and_eq_true, decide_eq_true_eq] using h
theorem fol_range {n : Int} (h : -1000000000 ≤ n ∧ n ≤ 1000000000) : 0 ≤ fol n ∧ fol n ≤ 2000000000 := by
  unfold fol; split <;> omega
theorem fb1_len {f : WFd} (h : fineB f = true) : (fb1 f).length ≤ 500 := by
  unfold fineB at h
  rw [Bool.and_eq_true, decide_eq_true_eq] at h
  obtain ⟨h1, h2⟩ := h
  obtain ⟨⟨a1, a2⟩, a3⟩ := field_facts h1
  have b1 := vbs_len (n := (8 * f.1 + f.2.1).toNat) (by omega)
  unfold fb1
  rw [List.length_append]
  split
  · rename_i q
    rcases a3 with ⟨_, c2, _⟩ | ⟨c1, _⟩
    · have c3 := fol_range (num_range c2)
      have b2 := vbs_len (n := (fol f.2.2.1).toNat) (by omega)
      omega
    · omega
  · have b2 := vbs_len (n := f.2.2.2.1.length) (by omega)
    rw [List.length_append]; omega
theorem fbs_cons (f : WFd) (l : List WFd) : fbs (f :: l) = fb1 f ++ fbs l := by unfold fbs; rw [List.flatMap_cons]
theorem fbs_one (s : List UInt8) (l : List WFd) (i : Nat) (hi : i < l.length) (hl : l.length ≤ 100000) (hs : s.length ≤ 1000 * i) (hf : fineB l[i] = true) :
    roundK Try.prog (look [(203, .rd1 vbsG), (204, .rd1 folG)]) (look [(3, fbsE)]) 0 (body Try.f182 0) fbsE ([.s s, .sl (.pair (.int .i64) (.pair (.int .i64) (.pair (.int .i64) (.pair .str .unit)))) l, .i .i64 (l.length : Int), .i .i64 (i : Int)], []) = some (.normal, ([.s (s ++ fb1 l[i]), .sl (.pair (.int .i64) (.pair (.int .i64) (.pair (.int .i64) (.pair .str .unit)))) l, .i .i64 (l.length : Int), .i .i64 ((i + 1 : Nat) : Int)], [])) := by
  have hb := fb1_len hf
  rw [fbs_round]
  have hM : maxI = 9223372036854775807 := rfl
  rw [ifB_true (decide_eq_true (by omega)), ifT_true (by simp only [Bool.and_eq_true, decide_eq_true_eq]; omega), Int.toNat_natCast, List.getElem?_eq_getElem hi, ifSome_s, wrap_succ (n := i) (by omega)]
  generalize l[i] = z at *
  have hf0 := hf
  unfold fineB at hf
  rw [Bool.and_eq_true, decide_eq_true_eq] at hf
  obtain ⟨h1, h2⟩ := hf
  obtain ⟨⟨a1, a2⟩, a3⟩ := field_facts h1
  have e : IntKind.i64.wrap (IntKind.i64.wrap (8 * z.1) + z.2.1) = 8 * z.1 + z.2.1 := by
    rw [wrap_id (n := 8 * z.1) (by omega) (by omega), wrap_id (by omega) (by omega)]
  have b1 := vbs_len (n := (8 * z.1 + z.2.1).toNat) (by omega)
  rw [e, ifT_true (decide_eq_true ⟨by omega, by omega⟩), ifT_true (decide_eq_true (by omega))]
  unfold fb1 at hb ⊢
  rcases a3 with ⟨c1, c2, c3⟩ | ⟨c1, c2⟩
  · have c4 := num_range c2
    have c5 := fol_range c4
    have b2 := vbs_len (n := (fol z.2.2.1).toNat) (by omega)
    rw [ifB_true (by rw [c1]; rfl), ifT_true (decide_eq_true ⟨by omega, by omega⟩), ifT_true (decide_eq_true ⟨by omega, by omega⟩), ifT_true (decide_eq_true (by rw [List.length_append]; omega)), if_pos c1, List.append_assoc]
  · have b2 := vbs_len (n := z.2.2.2.1.length) (by omega)
    rw [ifB_false (by rw [c1]; rfl), Int.toNat_natCast, ifT_true (decide_eq_true ⟨by omega, by omega⟩), ifT_true (decide_eq_true (by omega)), ifT_true (decide_eq_true (by rw [List.length_append, List.length_append]; omega)), if_neg (by omega), List.append_assoc]
theorem fbs_loop (l : List WFd) (hl : l.length ≤ 100000) (hf : l.all fineB = true) : ∀ (j i : Nat) (s : List UInt8), i + j = l.length → s.length ≤ 1000 * i →
    Runs Try.prog (look [(203, .rd1 vbsG), (204, .rd1 folG)]) (look [(3, fbsE)]) 0 (body Try.f182 0) fbsE ([.s s, .sl (.pair (.int .i64) (.pair (.int .i64) (.pair (.int .i64) (.pair .str .unit)))) l, .i .i64 (l.length : Int), .i .i64 (i : Int)], []) (.exit 0) ([.s (s ++ fbs (l.drop i))], [])
  | 0, i, s, hi, hs => by
    have hr := fbs_round s l l.length i
    rw [ifB_false (decide_eq_false (by omega))] at hr
    rw [List.drop_eq_nil_of_le (by omega), show fbs [] = [] from rfl, List.append_nil]
    exact .stop _ _ _ hr (by simp)
  | j + 1, i, s, hi, hs => by
    have hlt : i < l.length := by omega
    have hfi := List.all_eq_true.1 hf _ (List.getElem_mem hlt)
    have hr := fbs_one s l i hlt hl hs hfi
    have hb := fb1_len hfi
    have ih := fbs_loop l hl hf j (i + 1) (s ++ fb1 l[i]) (by omega) (by rw [List.length_append]; omega)
    rw [List.drop_eq_getElem_cons hlt, fbs_cons]
    rw [List.append_assoc] at ih
    exact .step _ _ _ _ hr ih
theorem fbs_ok : LoopsOk Try.prog (look [(203, .rd1 vbsG), (204, .rd1 folG)]) (look [(3, fbsE)]) 0 (Try.f182.body.getD .skip) := by
  refine loopsOk_one (a := body Try.f182 0) (by kernel_rfl) fun d ex d' h => ?_
  unfold fbsE at h
  dsimp only at h
  split at h
  · rename_i s l k i
    obtain ⟨hc, hx⟩ := need_some h
    clear h
    rw [Bool.and_eq_true] at hc
    obtain ⟨hc, hf⟩ := hc
    obtain ⟨h0, h1, rfl, h3, h4⟩ := of_decide_eq_true hc
    obtain ⟨i, rfl⟩ := Int.eq_ofNat_of_zero_le h0
    simp only [Int.toNat_natCast] at h1 h4 hx
    have h8 := leaf_some hx
    obtain ⟨rfl, rfl⟩ := Prod.mk.inj h8
    exact fbs_loop l h3 hf (l.length - i) i s (by omega) h4
  · cases h
theorem fbsC : Contract Try.prog 182 (Ent.rd1 fbsG).F := by
  refine fun_contract' (KnowsL.cons (enters_fn Try.func203 (by kernel_rfl) (by kernel_rfl)) sv (KnowsL.cons (enters_fn Try.func204 (by kernel_rfl) (by kernel_rfl)) sfol KnowsL.nil)).knows (Λ := (look [(3, fbsE)])) Try.func182 (c := Try.f182.body.getD .skip) (by kernel_rfl) fun vs bs r hq hv hb => ?_
  unfold Ent.F fbsG at hq
  dsimp only at hq
  split at hq
  · rename_i l
    obtain ⟨hc, hx⟩ := need_some hq
    rw [Bool.and_eq_true] at hc
    obtain ⟨h1, h2⟩ := hc
    have h1 := of_decide_eq_true h1
    refine ⟨fbs_ok, Eq.trans ?_ hx⟩
    rw [fbs_tree, ifT_true (by rw [h2, Bool.and_true]; exact decide_eq_true ⟨by omega, by omega, rfl, h1, by omega⟩)]
    rfl
  · cases hq
theorem fby_ok : LoopsOk Try.prog (look [(181, .rd1 fieldG), (182, .rd1 fbsG)]) (look [(2, fbyE)]) 0 (Try.f138.body.getD .skip) := by
  refine loopsOk_one (a := body Try.f138 0) (by kernel_rfl) fun d ex d' h => ?_
  unfold fbyE at h
  dsimp only at h
  split at h
  · rename_i l0 l k i
    obtain ⟨hc, hx⟩ := need_some h
    clear h
    obtain ⟨h0, h1, rfl, h3⟩ := of_decide_eq_true hc
    obtain ⟨i, rfl⟩ := Int.eq_ofNat_of_zero_le h0
    rw [Int.toNat_natCast] at h1 hx
    refine runs_all (l := l) fineB (fun i => ([.sl (.pair (.int .i64) (.pair (.int .i64) (.pair (.int .i64) (.pair .str .unit)))) l0, .sl (.pair (.int .i64) (.pair (.int .i64) (.pair (.int .i64) (.pair .str .unit)))) l, .i .i64 (l.length : Int), .i .i64 (i : Int)], [])) (ex := (.exit 0, ([.sl (.pair (.int .i64) (.pair (.int .i64) (.pair (.int .i64) (.pair .str .unit)))) l0], []))) (rt := (.ret, ([.s [], .b false], []))) (by simp) (by simp) (fun i hi => ?_) ?_ (l.length - i) i (by omega) ex d' hx
    · have hr := fby_round l0 l l.length i
      have hM : maxI = 9223372036854775807 := rfl
      rw [ifB_true (decide_eq_true (by omega)), ifT_true (by simp only [Bool.and_eq_true, decide_eq_true_eq]; omega), Int.toNat_natCast, List.getElem?_eq_getElem hi, ifSome_s, wrap_succ (n := i) (by omega)] at hr
      refine hr.trans ?_
      generalize l[i] = z
      obtain ⟨z0, z1, z2, z3, ⟨⟩⟩ := z
      unfold fineB
      dsimp only
      cases fieldB (z0, z1, z2, z3, ()) with
      | false => rfl
      | true =>
        by_cases q : z3.length ≤ 400
        · rw [Bool.not_true, ifB_f, ifB_false (decide_eq_false (by omega)), decide_eq_true q]; rfl
        · rw [Bool.not_true, ifB_f, ifB_true (decide_eq_true (by omega)), decide_eq_false q]; rfl
    · have hr := fby_round l0 l l.length l.length
      rw [ifB_false (decide_eq_false (by omega))] at hr
      exact hr
  · cases h
theorem fby : Contract Try.prog 138 (Ent.rd1 fbyG).F := by
  refine fun_contract' (KnowsL.cons (enters_fn Try.func181 (by kernel_rfl) (by kernel_rfl)) sfield (KnowsL.cons (enters_fn Try.func182 (by kernel_rfl) (by kernel_rfl)) fbsC KnowsL.nil)).knows (Λ := (look [(2, fbyE)])) Try.func138 (c := Try.f138.body.getD .skip) (by kernel_rfl) fun vs bs r hq hv hb => ?_
  unfold Ent.F fbyG at hq
  dsimp only at hq
  split at hq
  · rename_i l
    have hm : l.length ≤ maxI := (hv (.sl (.pair (.int .i64) (.pair (.int .i64) (.pair (.int .i64) (.pair .str .unit)))) l) (by simp)).1
    refine ⟨fby_ok, Eq.trans ?_ hq⟩
    rw [fby_tree, ifT_true (decide_eq_true ⟨by omega, by omega, rfl, hm⟩), List.drop_zero]
    unfold fbOK
    cases hf : l.all fineB with
    | false => rfl
    | true =>
      rw [ifB_t]
      by_cases q : l.length ≤ 40
      · rw [ifB_false (decide_eq_false (by omega)), ifT_true (by rw [decide_eq_true (by omega)]; rfl), decide_eq_true q]
        by_cases q2 : (fbs l).length ≤ 400
        · rw [ifB_false (decide_eq_false (by omega)), decide_eq_true q2]; rfl
        · rw [ifB_true (decide_eq_true (by omega)), decide_eq_false q2]; rfl
      · rw [ifB_true (decide_eq_true (by omega)), decide_eq_false q]; rfl
  · cases hq

def spE (o : Cur × List UInt8 × List UInt8 × Nat → List UInt8 × Cur) : LoopEnt := ⟨67, [0,1,2,7], [1], [], fun
  | ([.ptr 0 0, .s t, .s w, .i .i64 n], [some (.box [.sl (.int .u8) l, .i .i64 a, .i .u64 s])]) => .need (decide (0 ≤ n ∧ n ≤ 2 ∧ 1 ≤ w.length ∧ w.length ≤ 100 ∧ t.length ≤ 100000 - n.toNat ∧ (Cur.mk l a s).good (80000100 - 6 * n))) (.leaf (.exit 0, ([.s (o ((Cur.mk l a s), t, w, n.toNat)).1], [some (cB (o ((Cur.mk l a s), t, w, n.toNat)).2)])))
  | _ => .no⟩
def dspG (f : (List UInt8) → (List UInt8) → Cur → (List UInt8) × Cur) : List V → List Blk → Br (V × List (Option Blk))
  | [.ptr 0 0, .s t, .s w], [.box [.sl (.int .u8) l, .i .i64 a, .i .u64 s]] => .need (decide (1 ≤ w.length ∧ w.length ≤ 100 ∧ t.length ≤ 90000 ∧ (Cur.mk l a s).good 80000000)) (.leaf (.s (f t w (Cur.mk l a s)).1, [some (cB (f t w (Cur.mk l a s)).2)]))
  | _, _ => .no

theorem sp_round (o : Cur × List UInt8 × List UInt8 × Nat → List UInt8 × Cur) (l : List Int) (a s : Int) (t w : List UInt8) (n : Int) : roundK Try.prog (look [(56, .own cpickG)]) (look [(2, spE o)]) 1 (body Try.f139 0) (spE o) ([.ptr 0 0, .s t, .s w, .i .i64 n], [some (.box [.sl (.int .u8) l, .i .i64 a, .i .u64 s])]) =
  ((shr ((Cur.mk l a s).pickC (↑t.length : Int)) fun sh5 => shr (List.take (t.length - ((Cur.mk l a s).pickV (↑t.length : Int)).toNat) (List.drop ((Cur.mk l a s).pickV
 (↑t.length : Int)).toNat t)) fun sh4 => shr (sh5.pickC (↑w.length : Int)) fun sh3 => shr (List.take (t.length - (IntKind.i64.wrap ((Cur.mk l a s).pickV (↑t.length : Int)
 + (1 : Int))).toNat) (List.drop (IntKind.i64.wrap ((Cur.mk l a s).pickV (↑t.length : Int) + (1 : Int))).toNat t)) fun sh2 => shr (List.take (((Cur.mk l a s).pickV
 (↑t.length : Int)).toNat - (0 : Nat)) (List.drop (0 : Nat) t)) fun sh1 => ifB (decide (n > (0 : Int))) (ifB (decide ((↑t.length : Int) > (0 : Int))) (ifT (decide ((Cur.mk
 l a s).good (900000000 : Int))) (ifT (decide (sh5.good (900000000 : Int))) (ifT (decide ((0 : Int) ≤ sh5.pickV (↑w.length : Int))) (ifSome w[(sh5.pickV (↑w.length :
 Int)).toNat]? fun z => ifT (decide (sh3.good (900000000 : Int))) (ifB (sh3.pickV (3 : Int) == (0 : Int)) (ifT (decide ((0 : Int) ≤ (Cur.mk l a s).pickV (↑t.length : Int))
 && decide ((Cur.mk l a s).pickV (↑t.length : Int) ≤ (↑t.length : Int))) (ifT (decide (sh1.length + (1 : Nat) ≤ (9223372036854775807 : Nat))) (ifT (decide ((0 : Int) ≤
 (Cur.mk l a s).pickV (↑t.length : Int)) && decide ((Cur.mk l a s).pickV (↑t.length : Int) ≤ (↑t.length : Int))) (ifT (decide ((sh1 ++ List.map (fun n => UInt8.ofNat
 n.toNat) ((↑z.toNat : Int) :: nilT (Cd.int .u8).den)).length + sh4.length ≤ (9223372036854775807 : Nat))) (some (Ex.normal, [V.ptr 0 0, V.s (sh1 ++ List.map (fun n =>
 UInt8.ofNat n.toNat) ((↑z.toNat : Int) :: nilT (Cd.int .u8).den) ++ sh4), V.s w, V.i .i64 (IntKind.i64.wrap (n - (1 : Int)))], [some (Blk.box [V.sl (Cd.int .u8)
 (sh3.pickC (3 : Int)).l, V.i .i64 (sh3.pickC (3 : Int)).a, V.i .u64 (sh3.pickC (3 : Int)).s])])))))) (ifB (sh3.pickV (3 : Int) == (1 : Int)) (ifT (decide ((0 : Int) ≤
 (Cur.mk l a s).pickV (↑t.length : Int)) && decide ((Cur.mk l a s).pickV (↑t.length : Int) ≤ (↑t.length : Int))) (ifT (decide (sh1.length + (1 : Nat) ≤
 (9223372036854775807 : Nat))) (ifT (decide ((0 : Int) ≤ IntKind.i64.wrap ((Cur.mk l a s).pickV (↑t.length : Int) + (1 : Int))) && decide (IntKind.i64.wrap ((Cur.mk l a
 s).pickV (↑t.length : Int) + (1 : Int)) ≤ (↑t.length : Int))) (ifT (decide ((sh1 ++ List.map (fun n => UInt8.ofNat n.toNat) ((↑z.toNat : Int) :: nilT (Cd.int
 .u8).den)).length + sh2.length ≤ (9223372036854775807 : Nat))) (some (Ex.normal, [V.ptr 0 0, V.s (sh1 ++ List.map (fun n => UInt8.ofNat n.toNat) ((↑z.toNat : Int) :: nilT
 (Cd.int .u8).den) ++ sh2), V.s w, V.i .i64 (IntKind.i64.wrap (n - (1 : Int)))], [some (Blk.box [V.sl (Cd.int .u8) (sh3.pickC (3 : Int)).l, V.i .i64 (sh3.pickC (3 :
 Int)).a, V.i .u64 (sh3.pickC (3 : Int)).s])])))))) (ifT (decide ((0 : Int) ≤ (Cur.mk l a s).pickV (↑t.length : Int)) && decide ((Cur.mk l a s).pickV (↑t.length : Int) ≤
 (↑t.length : Int))) (ifT (decide ((0 : Int) ≤ IntKind.i64.wrap ((Cur.mk l a s).pickV (↑t.length : Int) + (1 : Int))) && decide (IntKind.i64.wrap ((Cur.mk l a s).pickV
 (↑t.length : Int) + (1 : Int)) ≤ (↑t.length : Int))) (ifT (decide (sh1.length + sh2.length ≤ (9223372036854775807 : Nat))) (some (Ex.normal, [V.ptr 0 0, V.s (sh1 ++ sh2),
 V.s w, V.i .i64 (IntKind.i64.wrap (n - (1 : Int)))], [some (Blk.box [V.sl (Cd.int .u8) (sh3.pickC (3 : Int)).l, V.i .i64 (sh3.pickC (3 : Int)).a, V.i .u64 (sh3.pickC (3 :
 Int)).s])]))))))))))) (some (Ex.exit 0, [V.s t], [some (Blk.box [V.sl (Cd.int .u8) l, V.i .i64 a, V.i .u64 s])]))) (some (Ex.exit 0, [V.s t], [some (Blk.box [V.sl (Cd.int
 .u8) l, V.i .i64 a, V.i .u64 s])]))) : _) := by kernel_rfl
theorem sp_runs : ∀ x : Cur × List UInt8 × List UInt8 × Nat, (x.2.2.2 ≤ 2 ∧ 1 ≤ x.2.2.1.length ∧ x.2.2.1.length ≤ 100 ∧ x.2.1.length ≤ 100000 - x.2.2.2 ∧ x.1.good (80000100 - 6 * (x.2.2.2 : Int))) →
    ∃ y : List UInt8 × Cur, (∀ o, Runs Try.prog (look [(56, .own cpickG)]) (look [(2, spE o)]) 1 (body Try.f139 0) (spE o) ((fun x : Cur × List UInt8 × List UInt8 × Nat => ([.ptr 0 0, .s x.2.1, .s x.2.2.1, .i .i64 (x.2.2.2 : Int)], [some (cB x.1)])) x) ((fun y : List UInt8 × Cur => (((.exit 0 : Ex), ([.s y.1], [some (cB y.2)])) : Ex × Dt)) y).1 ((fun y : List UInt8 × Cur => (((.exit 0 : Ex), ([.s y.1], [some (cB y.2)])) : Ex × Dt)) y).2) ∧ ((∀ n, x.1.good n → n ≤ 80000100 - 6 * (x.2.2.2 : Int) → y.2.good (n + 6 * (x.2.2.2 : Int))) ∧ y.1.length ≤ x.2.1.length + x.2.2.2) := by
  refine loop_exo (ι := Cur × List UInt8 × List UInt8 × Nat → List UInt8 × Cur) (fun _ => ([], Cur.mk [] 0 0)) (Λ := fun o => (look [(2, spE o)])) (ent := fun o => spE o) (fun x : Cur × List UInt8 × List UInt8 × Nat => ([.ptr 0 0, .s x.2.1, .s x.2.2.1, .i .i64 (x.2.2.2 : Int)], [some (cB x.1)])) (fun y : List UInt8 × Cur => (((.exit 0 : Ex), ([.s y.1], [some (cB y.2)])) : Ex × Dt)) (fun y => by simp) _ _ (fun x => x.2.2.2) (fun o x _ => (sp_round o x.1.l x.1.a x.1.s x.2.1 x.2.2.1 (x.2.2.2 : Int)).trans (sp_round _ x.1.l x.1.a x.1.s x.2.1 x.2.2.1 (x.2.2.2 : Int)).symm) ?_
  rintro ⟨c, t, w, n⟩ ⟨h1, h2, h3, h4, h5⟩
  dsimp only at h1 h2 h3 h4 h5 ⊢
  by_cases hn : 0 < n ∧ 0 < t.length
  · right
    obtain ⟨n, rfl⟩ : ∃ m, n = m + 1 := ⟨n - 1, by omega⟩
    refine Ex1.of (sp_round _ c.l c.a c.s t w ((n + 1 : Nat) : Int)) ?_
    have hpt := Cur.pickV_range (c := c) (k := (t.length : Int)) h5 (by omega)
    have w1 : IntKind.i64.wrap (((n + 1 : Nat) : Int) - 1) = (n : Int) := by rw [wrap_id (by omega) (by omega)]; omega
    have w2 : IntKind.i64.wrap (c.pickV (t.length : Int) + 1) = c.pickV (t.length : Int) + 1 := wrap_id (by omega) (by omega)
    have pw := pick_at (W := w) (c := c.pickC (t.length : Int)) (n := 80000200) (Cur.pk (Cur.good_mono h5 (by omega))) h2
    have pw0 := (Cur.pickV_range (c := c.pickC (t.length : Int)) (n := 80000200) (k := (w.length : Int)) (Cur.pk (Cur.good_mono h5 (by omega))) (by omega)).1
    repeat with_reducible refine Ex1.sh ?_
    rw [ifB_true (decide_eq_true (by omega)), ifB_true (decide_eq_true (by omega))]
    simp only [cB_fold, show Cur.mk c.l c.a c.s = c from rfl, w1, w2]
    have fin : ∀ (c' : Cur) (t' : List UInt8), (∀ m, c.good m → c'.good (m + 6)) → t'.length ≤ t.length + 1 →
        ((n ≤ 2 ∧ 1 ≤ w.length ∧ w.length ≤ 100 ∧ t'.length ≤ 100000 - n ∧ c'.good (80000100 - 6 * (n : Int))) ∧ n < n + 1 ∧ ∀ y : List UInt8 × Cur, ((∀ m, c'.good m → m ≤ 80000100 - 6 * (n : Int) → y.2.good (m + 6 * (n : Int))) ∧ y.1.length ≤ t'.length + n) → ((∀ m, c.good m → m ≤ 80000100 - 6 * ((n + 1 : Nat) : Int) → y.2.good (m + 6 * ((n + 1 : Nat) : Int))) ∧ y.1.length ≤ t.length + (n + 1))) := fun c' t' k1 k2 => by
      refine ⟨⟨by omega, h2, h3, by omega, Cur.good_mono (k1 _ h5) (by push_cast; omega)⟩, by omega, fun y hy => ⟨fun m hm hl => ?_, by have := hy.2; omega⟩⟩
      exact Cur.good_mono (hy.1 (m + 6) (k1 m hm) (by push_cast at hl; omega)) (by push_cast; omega)
    repeat' first
      | with_reducible refine Ex1.B (fun h => ?_) (fun h => ?_)
      | with_reducible refine Ex1.T ?_ ?_
      | with_reducible refine Ex1.S (ex_at pw) fun z hz => ?_
    all_goals try simp only [cB_fold]
    all_goals first
      | (refine decide_eq_true ?_; (repeat with_reducible apply Cur.pk); exact Cur.good_mono h5 (by omega))
      | exact decide_eq_true pw0
      | (simp only [Bool.and_eq_true, decide_eq_true_eq]; omega)
      | (simp only [decide_eq_true_eq, List.length_append, List.length_take, List.length_drop, List.length_map, List.length_cons, List.length_nil, nilT_eq]; omega)
      | (refine Ex1.lc (_, w, n) rfl rfl rfl (fin _ _ (fun m hm => ?_) ?_)
         · (repeat with_reducible apply Cur.pk); exact Cur.good_mono hm (by omega)
         · simp only [List.length_append, List.length_take, List.length_drop, List.length_map, List.length_cons, List.length_nil, nilT_eq]; omega)
  · left
    refine Ex1.of (sp_round _ c.l c.a c.s t w (n : Int)) ?_
    repeat with_reducible refine Ex1.sh ?_
    have e : ∀ a b : Option (Ex × Dt), ifB (decide ((n : Int) > 0)) (ifB (decide ((t.length : Int) > 0)) a b) b = b := fun a b => by
      by_cases q : 0 < n
      · rw [ifB_true (decide_eq_true (by omega)), ifB_false (decide_eq_false (by omega))]
      · rw [ifB_false (decide_eq_false (by omega))]
    rw [e]
    exact Ex1.L (t, c) rfl ⟨fun m hm hl => Cur.good_mono hm (by omega), by dsimp only; omega⟩
noncomputable def sp_o : Cur × List UInt8 × List UInt8 × Nat → List UInt8 × Cur := (pick_fn (Y := List UInt8 × Cur) ([], Cur.mk [] 0 0) sp_runs).choose
theorem sp_os : ∀ x : Cur × List UInt8 × List UInt8 × Nat, (x.2.2.2 ≤ 2 ∧ 1 ≤ x.2.2.1.length ∧ x.2.2.1.length ≤ 100 ∧ x.2.1.length ≤ 100000 - x.2.2.2 ∧ x.1.good (80000100 - 6 * (x.2.2.2 : Int))) → (∀ o, Runs Try.prog (look [(56, .own cpickG)]) (look [(2, spE o)]) 1 (body Try.f139 0) (spE o) ((fun x : Cur × List UInt8 × List UInt8 × Nat => ([.ptr 0 0, .s x.2.1, .s x.2.2.1, .i .i64 (x.2.2.2 : Int)], [some (cB x.1)])) x) ((fun y : List UInt8 × Cur => (((.exit 0 : Ex), ([.s y.1], [some (cB y.2)])) : Ex × Dt)) (sp_o x)).1 ((fun y : List UInt8 × Cur => (((.exit 0 : Ex), ([.s y.1], [some (cB y.2)])) : Ex × Dt)) (sp_o x)).2) ∧ ((∀ n, x.1.good n → n ≤ 80000100 - 6 * (x.2.2.2 : Int) → (sp_o x).2.good (n + 6 * (x.2.2.2 : Int))) ∧ (sp_o x).1.length ≤ x.2.1.length + x.2.2.2) := (pick_fn (Y := List UInt8 × Cur) ([], Cur.mk [] 0 0) sp_runs).choose_spec
theorem sp_ok : LoopsOk Try.prog (look [(56, .own cpickG)]) (look [(2, spE sp_o)]) 1 (Try.f139.body.getD .skip) := by
  refine loopsOk_one (a := body Try.f139 0) (by kernel_rfl) fun d ex d' h => ?_
  unfold spE at h
  dsimp only at h
  split at h
  · rename_i t w n l a s
    obtain ⟨hc, hx⟩ := need_some h
    obtain ⟨k1, k2, k3, k4, k5, k6⟩ := of_decide_eq_true hc
    obtain ⟨n, rfl⟩ := Int.eq_ofNat_of_zero_le k1
    simp only [Int.toNat_natCast] at k5 hx
    have h8 := leaf_some hx
    obtain ⟨rfl, rfl⟩ := Prod.mk.inj h8
    exact (sp_os ((Cur.mk l a s), t, w, n) ⟨by dsimp only; omega, k3, k4, k5, k6⟩).1 sp_o
  · cases h
theorem dsp_tree (o : Cur × List UInt8 × List UInt8 × Nat → List UInt8 × Cur) (t w : List UInt8) (l : List Int) (a s : Int) : funC Try.prog (look [(56, .own cpickG)]) (look [(2, spE o)]) Try.f139 [.ptr 0 0, .s t, .s w] [.box [.sl (.int .u8) l, .i .i64 a, .i .u64 s]] =
  ((shr ((Cur.mk l a s).pickC (3 : Int)) fun sh2 => shr (o (sh2, t, w, ((Cur.mk l a s).pickV (3 : Int)).toNat)) fun sh1 => ifT (decide ((Cur.mk l a s).good (900000000 : Int)))
 (ifT (decide ((0 : Int) ≤ (Cur.mk l a s).pickV (3 : Int) ∧ (Cur.mk l a s).pickV (3 : Int) ≤ (2 : Int) ∧ (1 : Nat) ≤ w.length ∧ w.length ≤ (100 : Nat) ∧ t.length ≤ (100000
 : Nat) - ((Cur.mk l a s).pickV (3 : Int)).toNat ∧ sh2.good ((80000100 : Int) - (6 : Int) * (Cur.mk l a s).pickV (3 : Int)))) (some (V.s sh1.fst, [some (Blk.box [V.sl
 (Cd.int .u8) sh1.snd.l, V.i .i64 sh1.snd.a, V.i .u64 sh1.snd.s])])))) : _) := by kernel_rfl
theorem dsp_ex (t w : List UInt8) (l : List Int) (a s : Int) (hc : 1 ≤ w.length ∧ w.length ≤ 100 ∧ t.length ≤ 90000 ∧ (Cur.mk l a s).good 80000000) : Ex1 (funC Try.prog (look [(56, .own cpickG)]) (look [(2, spE sp_o)]) Try.f139 [.ptr 0 0, .s t, .s w] [.box [.sl (.int .u8) l, .i .i64 a, .i .u64 s]]) (fun y : (List UInt8) × Cur => ((.s y.1, [some (cB y.2)]) : V × List (Option Blk))) (fun y => (∀ n, (Cur.mk l a s).good n → n ≤ 80000000 → y.2.good (n + 20)) ∧ y.1.length ≤ t.length + 2) := by
  refine Ex1.of (dsp_tree sp_o t w l a s) ?_
  obtain ⟨h1, h2, h3, h4⟩ := hc
  have r3 := Cur.pickV_range (k := 3) h4 (by omega)
  obtain ⟨n, hn⟩ := Int.eq_ofNat_of_zero_le r3.1
  repeat with_reducible refine Ex1.sh ?_
  simp only [cB_fold]
  rw [hn] at r3 ⊢
  have g1 : (Cur.pickC (Cur.mk l a s) 3).good (80000100 - 6 * (n : Int)) := Cur.pk (Cur.good_mono h4 (by omega))
  have q := (sp_os ((Cur.mk l a s).pickC 3, t, w, n) ⟨by dsimp only; omega, h1, h2, by dsimp only; omega, g1⟩).2
  refine Ex1.T (decide_eq_true (Cur.good_mono h4 (by omega))) (Ex1.T (decide_eq_true ⟨by omega, by omega, h1, h2, by omega, g1⟩) ?_)
  refine Ex1.c (sp_o ((Cur.mk l a s).pickC 3, t, w, n)).1 rfl rfl ⟨fun m hm hl => ?_, by have := q.2; dsimp only at this ⊢; omega⟩
  exact Cur.good_mono (q.1 (m + 2) (Cur.pickC_good hm) (by dsimp only; omega)) (by dsimp only; omega)
theorem dsp_exf : ∃ f : (List UInt8) → (List UInt8) → Cur → (List UInt8) × Cur, Contract Try.prog 139 (Ent.own (dspG f)).F ∧ ∀ (t w : List UInt8) (c : Cur), (1 ≤ w.length ∧ w.length ≤ 100 ∧ t.length ≤ 90000 ∧ c.good 80000000) → (∀ n, c.good n → n ≤ 80000000 → (f t w c).2.good (n + 20)) ∧ (f t w c).1.length ≤ t.length + 2 := by
  have ex := fun (t w : List UInt8) (c : Cur) (hc : 1 ≤ w.length ∧ w.length ≤ 100 ∧ t.length ≤ 90000 ∧ c.good 80000000) => dsp_ex t w c.l c.a c.s hc
  classical
  refine ⟨fun t w c => if h : 1 ≤ w.length ∧ w.length ≤ 100 ∧ t.length ≤ 90000 ∧ c.good 80000000 then (ex t w c h).choose else ([], c), ?_, fun t w c hc => ?_⟩
  rotate_left
  · simp only [dif_pos hc]
    exact (ex t w c hc).choose_spec.2
  refine fun_contractC' (KnowsL.cons (enters_fn Try.func56 (by kernel_rfl) (by kernel_rfl)) cpick KnowsL.nil).knows (Λ := (look [(2, spE sp_o)])) Try.func139 (c := Try.f139.body.getD .skip) (by kernel_rfl) fun vs bs r hq hv hb => ?_
  unfold Ent.F dspG at hq
  dsimp only at hq
  split at hq
  · rename_i t w l a s
    obtain ⟨hc, hx⟩ := need_some hq
    have hc := of_decide_eq_true hc
    refine ⟨sp_ok, ((ex t w (Cur.mk l a s) hc).choose_spec.1).trans ?_⟩
    rw [dif_pos hc] at hx
    exact hx
  · cases hq
noncomputable def dsp_f : (List UInt8) → (List UInt8) → Cur → (List UInt8) × Cur := dsp_exf.choose
theorem dsp_con : Contract Try.prog 139 (Ent.own (dspG dsp_f)).F := dsp_exf.choose_spec.1
theorem dsp_pr : ∀ (t w : List UInt8) (c : Cur), (1 ≤ w.length ∧ w.length ≤ 100 ∧ t.length ≤ 90000 ∧ c.good 80000000) → (∀ n, c.good n → n ≤ 80000000 → (dsp_f t w c).2.good (n + 20)) ∧ (dsp_f t w c).1.length ≤ t.length + 2 := dsp_exf.choose_spec.2

/-- What a drawn tree keeps. -/
def drT (n : Nat) (z : Rose Lab) : Prop := cntR z ≤ n ∧ namR z = true
def dtyG (d m : Int) (f : Cur → Rose Lab × Cur) : List V → List Blk → Br (V × List (Option Blk))
  | [.ptr 0 0, .i .i64 x], [.box [.sl (.int .u8) l, .i .i64 a, .i .u64 s]] => .need (decide (x = d ∧ 0 ≤ d ∧ (Cur.mk l a s).good m)) (.leaf (.agg [.i .i64 (f (Cur.mk l a s)).1.lab.1, .s (f (Cur.mk l a s)).1.lab.2.1, .i .i64 (f (Cur.mk l a s)).1.lab.2.2.1, .b (f (Cur.mk l a s)).1.lab.2.2.2.1, .i .i64 (f (Cur.mk l a s)).1.lab.2.2.2.2.1, .ref 1 0 (f (Cur.mk l a s)).1.kids.length], [some (cB (f (Cur.mk l a s)).2), some (.row false none (.rose (.pair (.int .i64) (.pair .str (.pair (.int .i64) (.pair .bool (.pair (.int .i64) .unit)))))) (f (Cur.mk l a s)).1.kids)]))
  | _, _ => .no
def dmsgG (d m : Int) (f : Cur → Rose Lab × Cur) : List V → List Blk → Br (V × List (Option Blk))
  | [.ptr 0 0, .i .i64 x], [.box [.sl (.int .u8) l, .i .i64 a, .i .u64 s]] => .need (decide (x = d ∧ 0 ≤ d ∧ (Cur.mk l a s).good m)) (.leaf (.agg [.i .i64 (f (Cur.mk l a s)).1.lab.1, .s (f (Cur.mk l a s)).1.lab.2.1, .i .i64 (f (Cur.mk l a s)).1.lab.2.2.1, .b (f (Cur.mk l a s)).1.lab.2.2.2.1, .i .i64 (f (Cur.mk l a s)).1.lab.2.2.2.2.1, .ref 1 0 (f (Cur.mk l a s)).1.kids.length], [some (cB (f (Cur.mk l a s)).2), some (.row false none (.rose (.pair (.int .i64) (.pair .str (.pair (.int .i64) (.pair .bool (.pair (.int .i64) .unit)))))) (f (Cur.mk l a s)).1.kids)]))
  | _, _ => .no
theorem drT_mono {n m : Nat} {z : Rose Lab} (h : drT n z) (hm : n ≤ m) : drT m z := ⟨Nat.le_trans h.1 hm, h.2⟩
end Go.Proofs.Ytfkoljiioikdfaa.Den
