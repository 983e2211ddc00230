/- What functions of the program do, by the machine: LPlay. -/
import Derived.Test.YtpoepgnhdhpkjaaDEqB
import Derived.KernelRfl
import Derived.Test.YtpoepgnhdhpkjaaRows
namespace Go.Proofs.Ytpoepgnhdhpkjaa.Den
open Go.Proofs
set_option maxRecDepth 100000
theorem marks_length {α : Type} (g : Int → α) (st : Int) : ∀ (k : Int) (n : Nat), (marks g st k n).length = n
  | _, 0 => rfl
  | k, n + 1 => by simp [marks, marks_length g st (k + st) n]
theorem law_knows : Knows Try.prog (look [(35, .rd1 szSesStepsG), (36, .rd1 playG), (37, .rd1 toSesStepsG), (38, .rd1 playG), (14, .rd1 eqSessionG), (31, .rd1 eqBoolsG), (39, .rd1 eqSesStepsG), (40, .own markSesStepG), (15, .own markSessionG), (32, .own markBoolG), (41, .rd1 heldSessionG), (42, .rd1 heldBoolG)]) := KnowsL.knows (KnowsL.cons (enters_fn Try.func35 (by kernel_rfl) (by kernel_rfl)) szSesSteps (KnowsL.cons (enters_fn Try.func36 (by kernel_rfl) (by kernel_rfl)) specPlay (KnowsL.cons (enters_fn Try.func37 (by kernel_rfl) (by kernel_rfl)) toSesSteps (KnowsL.cons (enters_fn Try.func38 (by kernel_rfl) (by kernel_rfl)) implPlay (KnowsL.cons (enters_fn Try.func14 (by kernel_rfl) (by kernel_rfl)) eqSession (KnowsL.cons (enters_fn Try.func31 (by kernel_rfl) (by kernel_rfl)) eqBools (KnowsL.cons (enters_fn Try.func39 (by kernel_rfl) (by kernel_rfl)) eqSesSteps (KnowsL.cons (enters_fn Try.func40 (by kernel_rfl) (by kernel_rfl)) markSesStep (KnowsL.cons (enters_fn Try.func15 (by kernel_rfl) (by kernel_rfl)) markSession (KnowsL.cons (enters_fn Try.func32 (by kernel_rfl) (by kernel_rfl)) markBool (KnowsL.cons (enters_fn Try.func41 (by kernel_rfl) (by kernel_rfl)) heldSession (KnowsL.cons (enters_fn Try.func42 (by kernel_rfl) (by kernel_rfl)) heldBool KnowsL.nil))))))))))))
theorem law_fun (f : List UInt8) (l : List (Int × Int × List UInt8 × Unit)) (hl : ∀ z ∈ l, z.2.2.1.length ≤ maxI) : funK Try.prog (look [(35, .rd1 szSesStepsG), (36, .rd1 playG), (37, .rd1 toSesStepsG), (38, .rd1 playG), (14, .rd1 eqSessionG), (31, .rd1 eqBoolsG), (39, .rd1 eqSesStepsG), (40, .own markSesStepG), (15, .own markSessionG), (32, .own markBoolG), (41, .rd1 heldSessionG), (42, .rd1 heldBoolG)]) (look []) Try.f7 [.s f, .sl (.pair (.int .i64) (.pair (.int .i64) (.pair .str .unit))) l] [] = some (.b true, []) := by
  have e : funK Try.prog (look [(35, .rd1 szSesStepsG), (36, .rd1 playG), (37, .rd1 toSesStepsG), (38, .rd1 playG), (14, .rd1 eqSessionG), (31, .rd1 eqBoolsG), (39, .rd1 eqSesStepsG), (40, .own markSesStepG), (15, .own markSessionG), (32, .own markBoolG), (41, .rd1 heldSessionG), (42, .rd1 heldBoolG)]) (look []) Try.f7 [.s f, .sl (.pair (.int .i64) (.pair (.int .i64) (.pair .str .unit))) l] [] = ((ifB (decide ((↑f.length : Int) > (1048576 : Int))) (some (V.b true, []))
  (ifT
  (decide
  ((0 : Int) ≤ (1048576 : Int) ∧
  (1048576 : Int) ≤ lim ∧
  ∀ (z : ((Cd.int IntKind.i64).pair ((Cd.int IntKind.i64).pair (Cd.str.pair Cd.unit))).den),
  z ∈ l → List.length z.snd.snd.fst ≤ maxI))
  (ifB (decide ((1048576 : Int) - (↑l.length : Int) - szSesStepsW l < (0 : Int))) (some (V.b true, []))
  (ifB (decide ((1048576 : Int) - (↑l.length : Int) - szSesStepsW l < (0 : Int))) (some (V.b true, []))
  (ifT (decide (l.length ≤ (1000000000 : Nat)))
  (ifT (decide (l.length ≤ (1000000000 : Nat)))
  (ifB
  (!decide
  ((playS f (List.take l.length (List.drop (0 : Nat) l))).e =
  (playS f (List.take l.length (List.drop (0 : Nat) l))).e ∧
  List.take (playS f (List.take l.length (List.drop (0 : Nat) l))).it.length
  (List.drop (0 : Nat) (playS f (List.take l.length (List.drop (0 : Nat) l))).it) =
  List.take (playS f (List.take l.length (List.drop (0 : Nat) l))).it.length
  (List.drop (0 : Nat) (playS f (List.take l.length (List.drop (0 : Nat) l))).it) ∧
  (playS f (List.take l.length (List.drop (0 : Nat) l))).b =
  (playS f (List.take l.length (List.drop (0 : Nat) l))).b ∧
  List.take (playS f (List.take l.length (List.drop (0 : Nat) l))).ha.length
  (List.drop (0 : Nat) (playS f (List.take l.length (List.drop (0 : Nat) l))).ha) =
  List.take (playS f (List.take l.length (List.drop (0 : Nat) l))).ha.length
  (List.drop (0 : Nat) (playS f (List.take l.length (List.drop (0 : Nat) l))).ha) ∧
  List.take (playS f (List.take l.length (List.drop (0 : Nat) l))).w.length
  (List.drop (0 : Nat) (playS f (List.take l.length (List.drop (0 : Nat) l))).w) =
  List.take (playS f (List.take l.length (List.drop (0 : Nat) l))).w.length
  (List.drop (0 : Nat) (playS f (List.take l.length (List.drop (0 : Nat) l))).w) ∧
  List.take (playS f (List.take l.length (List.drop (0 : Nat) l))).a.length
  (List.drop (0 : Nat) (playS f (List.take l.length (List.drop (0 : Nat) l))).a) =
  List.take (playS f (List.take l.length (List.drop (0 : Nat) l))).a.length
  (List.drop (0 : Nat) (playS f (List.take l.length (List.drop (0 : Nat) l))).a)))
  (some (V.b false, []))
  (ifB
  (!decide
  (List.take (playT f (List.take l.length (List.drop (0 : Nat) l))).length
  (List.drop (0 : Nat) (playT f (List.take l.length (List.drop (0 : Nat) l)))) =
  List.take (playT f (List.take l.length (List.drop (0 : Nat) l))).length
  (List.drop (0 : Nat) (playT f (List.take l.length (List.drop (0 : Nat) l))))))
  (some (V.b false, []))
  (ifB
  (!decide
  (f.length ≤ (20 : Nat) ∧ (List.take l.length (List.drop (0 : Nat) l)).length ≤ (200 : Nat)) ==
  decide
  (f.length ≤ (20 : Nat) ∧ (List.take l.length (List.drop (0 : Nat) l)).length ≤ (200 : Nat)))
  (some (V.b false, []))
  (ifT (decide (l.length ≤ (1000000000 : Nat)))
  (ifB
  (!decide
  (List.take l.length (List.drop (0 : Nat) l) = List.take l.length (List.drop (0 : Nat) l)))
  (some (V.b false, []))
  (ifT
  (decide
  ((0 : Nat) + l.length ≤ l.length ∧
  (0 : Int) ≤ (1 : Int) ∧ (1 : Int) + (3 : Int) * (↑l.length : Int) ≤ lim))
  (ifB
  (!decide
  ((playS f (List.take l.length (List.drop (0 : Nat) l))).e =
  (playS f (List.take l.length (List.drop (0 : Nat) l))).e ∧
  List.take (playS f (List.take l.length (List.drop (0 : Nat) l))).it.length
  (List.drop (0 : Nat) (playS f (List.take l.length (List.drop (0 : Nat) l))).it) =
  List.take (playS f (List.take l.length (List.drop (0 : Nat) l))).it.length
  (List.drop (0 : Nat) (playS f (List.take l.length (List.drop (0 : Nat) l))).it) ∧
  (playS f (List.take l.length (List.drop (0 : Nat) l))).b =
  (playS f (List.take l.length (List.drop (0 : Nat) l))).b ∧
  List.take (playS f (List.take l.length (List.drop (0 : Nat) l))).ha.length
  (List.drop (0 : Nat)
  (playS f (List.take l.length (List.drop (0 : Nat) l))).ha) =
  List.take (playS f (List.take l.length (List.drop (0 : Nat) l))).ha.length
  (List.drop (0 : Nat)
  (playS f (List.take l.length (List.drop (0 : Nat) l))).ha) ∧
  List.take (playS f (List.take l.length (List.drop (0 : Nat) l))).w.length
  (List.drop (0 : Nat)
  (playS f (List.take l.length (List.drop (0 : Nat) l))).w) =
  List.take (playS f (List.take l.length (List.drop (0 : Nat) l))).w.length
  (List.drop (0 : Nat)
  (playS f (List.take l.length (List.drop (0 : Nat) l))).w) ∧
  List.take (playS f (List.take l.length (List.drop (0 : Nat) l))).a.length
  (List.drop (0 : Nat)
  (playS f (List.take l.length (List.drop (0 : Nat) l))).a) =
  List.take (playS f (List.take l.length (List.drop (0 : Nat) l))).a.length
  (List.drop (0 : Nat)
  (playS f (List.take l.length (List.drop (0 : Nat) l))).a)))
  (some (V.b false, []))
  (ifB
  (!decide
  (List.take (playT f (List.take l.length (List.drop (0 : Nat) l))).length
  (List.drop (0 : Nat) (playT f (List.take l.length (List.drop (0 : Nat) l)))) =
  List.take (playT f (List.take l.length (List.drop (0 : Nat) l))).length
  (List.drop (0 : Nat) (playT f (List.take l.length (List.drop (0 : Nat) l))))))
  (some (V.b false, []))
  (ifB
  (!decide
  (f.length ≤ (20 : Nat) ∧
  (List.take l.length (List.drop (0 : Nat) l)).length ≤ (200 : Nat)) ==
  decide
  (f.length ≤ (20 : Nat) ∧
  (List.take l.length (List.drop (0 : Nat) l)).length ≤ (200 : Nat)))
  (some (V.b false, []))
  (ifT
  (decide
  ((0 : Nat) + (playS f (List.take l.length (List.drop (0 : Nat) l))).it.length ≤
  (playS f (List.take l.length (List.drop (0 : Nat) l))).it.length ∧
  (0 : Nat) + (playS f (List.take l.length (List.drop (0 : Nat) l))).ha.length ≤
  (playS f (List.take l.length (List.drop (0 : Nat) l))).ha.length ∧
  (0 : Nat) + (playS f (List.take l.length (List.drop (0 : Nat) l))).w.length ≤
  (playS f (List.take l.length (List.drop (0 : Nat) l))).w.length ∧
  (0 : Nat) + (playS f (List.take l.length (List.drop (0 : Nat) l))).a.length ≤
  (playS f (List.take l.length (List.drop (0 : Nat) l))).a.length ∧
  (0 : Int) ≤ (1 : Int) ∧
  (1 : Int) +
  (1 : Int) *
  (↑(playS f
  (List.take l.length
  (List.drop (0 : Nat) l))).it.length :
  Int) +
  (1 : Int) *
  (↑(playS f
  (List.take l.length
  (List.drop (0 : Nat) l))).ha.length :
  Int) +
  (3 : Int) *
  (↑(playS f (List.take l.length (List.drop (0 : Nat) l))).w.length :
  Int) +
  (2 : Int) *
  (↑(playS f (List.take l.length (List.drop (0 : Nat) l))).a.length :
  Int) ≤
  lim))
  (ifT
  (decide
  ((0 : Nat) + (playT f (List.take l.length (List.drop (0 : Nat) l))).length ≤
  (playT f (List.take l.length (List.drop (0 : Nat) l))).length ∧
  (0 : Int) ≤
  (1 : Int) +
  (1 : Int) *
  (↑(playS f (List.take l.length (List.drop (0 : Nat) l))).it.length :
  Int) +
  (1 : Int) *
  (↑(playS f (List.take l.length (List.drop (0 : Nat) l))).ha.length :
  Int) +
  (3 : Int) *
  (↑(playS f (List.take l.length (List.drop (0 : Nat) l))).w.length :
  Int) +
  (2 : Int) *
  (↑(playS f (List.take l.length (List.drop (0 : Nat) l))).a.length : Int) ∧
  (1 : Int) +
  (1 : Int) *
  (↑(playS f
  (List.take l.length
  (List.drop (0 : Nat) l))).it.length :
  Int) +
  (1 : Int) *
  (↑(playS f (List.take l.length (List.drop (0 : Nat) l))).ha.length :
  Int) +
  (3 : Int) *
  (↑(playS f (List.take l.length (List.drop (0 : Nat) l))).w.length :
  Int) +
  (2 : Int) *
  (↑(playS f (List.take l.length (List.drop (0 : Nat) l))).a.length :
  Int) +
  (1 : Int) *
  (↑(playT f (List.take l.length (List.drop (0 : Nat) l))).length : Int) ≤
  lim))
  (ifT
  (decide
  ((0 : Int) ≤ (1 : Int) ∧
  (1 : Int) +
  (1 : Int) *
  (↑(List.take
  (playS f
  (List.take l.length
  (List.drop (0 : Nat) l))).it.length
  (List.drop (0 : Nat)
  (nilT Cd.str.den ++
  marks markStr1 (1 : Int) (1 : Int)
  (playS f
  (List.take l.length
  (List.drop (0 : Nat) l))).it.length ++
  List.drop
  ((0 : Nat) +
  (playS f
  (List.take l.length
  (List.drop (0 : Nat) l))).it.length)
  (playS f
  (List.take l.length
  (List.drop (0 : Nat) l))).it))).length :
  Int) +
  (1 : Int) *
  (↑(List.take
  (playS f
  (List.take l.length (List.drop (0 : Nat) l))).ha.length
  (List.drop (0 : Nat)
  (nilT Cd.str.den ++
  marks markStr1 (1 : Int)
  ((1 : Int) +
  (1 : Int) *
  (↑(playS f
  (List.take l.length
  (List.drop (0 : Nat) l))).it.length :
  Int))
  (playS f
  (List.take l.length
  (List.drop (0 : Nat) l))).ha.length ++
  List.drop
  ((0 : Nat) +
  (playS f
  (List.take l.length
  (List.drop (0 : Nat) l))).ha.length)
  (playS f
  (List.take l.length
  (List.drop (0 : Nat) l))).ha))).length :
  Int) +
  (3 : Int) *
  (↑(List.take
  (playS f (List.take l.length (List.drop (0 : Nat) l))).w.length
  (List.drop (0 : Nat)
  (nilT
  ((Cd.int IntKind.i64).pair
  ((Cd.int IntKind.i64).pair
  (Cd.str.pair Cd.unit))).den ++
  marks markPacket1 (3 : Int)
  ((1 : Int) +
  (1 : Int) *
  (↑(playS f
  (List.take l.length
  (List.drop (0 : Nat) l))).it.length :
  Int) +
  (1 : Int) *
  (↑(playS f
  (List.take l.length
  (List.drop (0 : Nat) l))).ha.length :
  Int))
  (playS f
  (List.take l.length
  (List.drop (0 : Nat) l))).w.length ++
  List.drop
  ((0 : Nat) +
  (playS f
  (List.take l.length
  (List.drop (0 : Nat) l))).w.length)
  (playS f
  (List.take l.length
  (List.drop (0 : Nat) l))).w))).length :
  Int) +
  (2 : Int) *
  (↑(List.take
  (playS f (List.take l.length (List.drop (0 : Nat) l))).a.length
  (List.drop (0 : Nat)
  (nilT
  ((Cd.int IntKind.i64).pair
  ((Cd.int IntKind.i64).pair Cd.unit)).den ++
  marks markAck1 (2 : Int)
  ((1 : Int) +
  (1 : Int) *
  (↑(playS f
  (List.take l.length
  (List.drop (0 : Nat) l))).it.length :
  Int) +
  (1 : Int) *
  (↑(playS f
  (List.take l.length
  (List.drop (0 : Nat) l))).ha.length :
  Int) +
  (3 : Int) *
  (↑(playS f
  (List.take l.length
  (List.drop (0 : Nat) l))).w.length :
  Int))
  (playS f
  (List.take l.length
  (List.drop (0 : Nat) l))).a.length ++
  List.drop
  ((0 : Nat) +
  (playS f
  (List.take l.length
  (List.drop (0 : Nat) l))).a.length)
  (playS f
  (List.take l.length
  (List.drop (0 : Nat) l))).a))).length :
  Int) ≤
  lim))
  (ifB
  (decide
  (List.take (playS f (List.take l.length (List.drop (0 : Nat) l))).it.length
  (List.drop (0 : Nat)
  (nilT Cd.str.den ++
  marks markStr1 (1 : Int) (1 : Int)
  (playS f
  (List.take l.length (List.drop (0 : Nat) l))).it.length ++
  List.drop
  ((0 : Nat) +
  (playS f (List.take l.length (List.drop (0 : Nat) l))).it.length)
  (playS f (List.take l.length (List.drop (0 : Nat) l))).it)) =
  marks markStr1 (1 : Int) (1 : Int)
  (List.take
  (playS f (List.take l.length (List.drop (0 : Nat) l))).it.length
  (List.drop (0 : Nat)
  (nilT Cd.str.den ++
  marks markStr1 (1 : Int) (1 : Int)
  (playS f
  (List.take l.length
  (List.drop (0 : Nat) l))).it.length ++
  List.drop
  ((0 : Nat) +
  (playS f
  (List.take l.length (List.drop (0 : Nat) l))).it.length)
  (playS f
  (List.take l.length (List.drop (0 : Nat) l))).it))).length ∧
  List.take (playS f (List.take l.length (List.drop (0 : Nat) l))).ha.length
  (List.drop (0 : Nat)
  (nilT Cd.str.den ++
  marks markStr1 (1 : Int)
  ((1 : Int) +
  (1 : Int) *
  (↑(playS f
  (List.take l.length
  (List.drop (0 : Nat) l))).it.length :
  Int))
  (playS f
  (List.take l.length (List.drop (0 : Nat) l))).ha.length ++
  List.drop
  ((0 : Nat) +
  (playS f
  (List.take l.length (List.drop (0 : Nat) l))).ha.length)
  (playS f (List.take l.length (List.drop (0 : Nat) l))).ha)) =
  marks markStr1 (1 : Int)
  ((1 : Int) +
  (1 : Int) *
  (↑(List.take
  (playS f
  (List.take l.length
  (List.drop (0 : Nat) l))).it.length
  (List.drop (0 : Nat)
  (nilT Cd.str.den ++
  marks markStr1 (1 : Int) (1 : Int)
  (playS f
  (List.take l.length
  (List.drop (0 : Nat) l))).it.length ++
  List.drop
  ((0 : Nat) +
  (playS f
  (List.take l.length
  (List.drop (0 : Nat) l))).it.length)
  (playS f
  (List.take l.length
  (List.drop (0 : Nat) l))).it))).length :
  Int))
  (List.take
  (playS f (List.take l.length (List.drop (0 : Nat) l))).ha.length
  (List.drop (0 : Nat)
  (nilT Cd.str.den ++
  marks markStr1 (1 : Int)
  ((1 : Int) +
  (1 : Int) *
  (↑(playS f
  (List.take l.length
  (List.drop (0 : Nat) l))).it.length :
  Int))
  (playS f
  (List.take l.length
  (List.drop (0 : Nat) l))).ha.length ++
  List.drop
  ((0 : Nat) +
  (playS f
  (List.take l.length
  (List.drop (0 : Nat) l))).ha.length)
  (playS f
  (List.take l.length
  (List.drop (0 : Nat) l))).ha))).length ∧
  List.take (playS f (List.take l.length (List.drop (0 : Nat) l))).w.length
  (List.drop (0 : Nat)
  (nilT
  ((Cd.int IntKind.i64).pair
  ((Cd.int IntKind.i64).pair (Cd.str.pair Cd.unit))).den ++
  marks markPacket1 (3 : Int)
  ((1 : Int) +
  (1 : Int) *
  (↑(playS f
  (List.take l.length
  (List.drop (0 : Nat) l))).it.length :
  Int) +
  (1 : Int) *
  (↑(playS f
  (List.take l.length
  (List.drop (0 : Nat) l))).ha.length :
  Int))
  (playS f
  (List.take l.length
  (List.drop (0 : Nat) l))).w.length ++
  List.drop
  ((0 : Nat) +
  (playS f
  (List.take l.length (List.drop (0 : Nat) l))).w.length)
  (playS f (List.take l.length (List.drop (0 : Nat) l))).w)) =
  marks markPacket1 (3 : Int)
  ((1 : Int) +
  (1 : Int) *
  (↑(List.take
  (playS f
  (List.take l.length
  (List.drop (0 : Nat) l))).it.length
  (List.drop (0 : Nat)
  (nilT Cd.str.den ++
  marks markStr1 (1 : Int) (1 : Int)
  (playS f
  (List.take l.length
  (List.drop (0 : Nat) l))).it.length ++
  List.drop
  ((0 : Nat) +
  (playS f
  (List.take l.length
  (List.drop (0 : Nat) l))).it.length)
  (playS f
  (List.take l.length
  (List.drop (0 : Nat) l))).it))).length :
  Int) +
  (1 : Int) *
  (↑(List.take
  (playS f
  (List.take l.length
  (List.drop (0 : Nat) l))).ha.length
  (List.drop (0 : Nat)
  (nilT Cd.str.den ++
  marks markStr1 (1 : Int)
  ((1 : Int) +
  (1 : Int) *
  (↑(playS f
  (List.take l.length
  (List.drop (0 : Nat)
  l))).it.length :
  Int))
  (playS f
  (List.take l.length
  (List.drop (0 : Nat) l))).ha.length ++
  List.drop
  ((0 : Nat) +
  (playS f
  (List.take l.length
  (List.drop (0 : Nat) l))).ha.length)
  (playS f
  (List.take l.length
  (List.drop (0 : Nat) l))).ha))).length :
  Int))
  (List.take
  (playS f (List.take l.length (List.drop (0 : Nat) l))).w.length
  (List.drop (0 : Nat)
  (nilT
  ((Cd.int IntKind.i64).pair
  ((Cd.int IntKind.i64).pair
  (Cd.str.pair Cd.unit))).den ++
  marks markPacket1 (3 : Int)
  ((1 : Int) +
  (1 : Int) *
  (↑(playS f
  (List.take l.length
  (List.drop (0 : Nat) l))).it.length :
  Int) +
  (1 : Int) *
  (↑(playS f
  (List.take l.length
  (List.drop (0 : Nat) l))).ha.length :
  Int))
  (playS f
  (List.take l.length
  (List.drop (0 : Nat) l))).w.length ++
  List.drop
  ((0 : Nat) +
  (playS f
  (List.take l.length
  (List.drop (0 : Nat) l))).w.length)
  (playS f
  (List.take l.length
  (List.drop (0 : Nat) l))).w))).length ∧
  List.take (playS f (List.take l.length (List.drop (0 : Nat) l))).a.length
  (List.drop (0 : Nat)
  (nilT
  ((Cd.int IntKind.i64).pair
  ((Cd.int IntKind.i64).pair Cd.unit)).den ++
  marks markAck1 (2 : Int)
  ((1 : Int) +
  (1 : Int) *
  (↑(playS f
  (List.take l.length
  (List.drop (0 : Nat) l))).it.length :
  Int) +
  (1 : Int) *
  (↑(playS f
  (List.take l.length
  (List.drop (0 : Nat) l))).ha.length :
  Int) +
  (3 : Int) *
  (↑(playS f
  (List.take l.length
  (List.drop (0 : Nat) l))).w.length :
  Int))
  (playS f
  (List.take l.length
  (List.drop (0 : Nat) l))).a.length ++
  List.drop
  ((0 : Nat) +
  (playS f
  (List.take l.length (List.drop (0 : Nat) l))).a.length)
  (playS f (List.take l.length (List.drop (0 : Nat) l))).a)) =
  marks markAck1 (2 : Int)
  ((1 : Int) +
  (1 : Int) *
  (↑(List.take
  (playS f
  (List.take l.length
  (List.drop (0 : Nat) l))).it.length
  (List.drop (0 : Nat)
  (nilT Cd.str.den ++
  marks markStr1 (1 : Int) (1 : Int)
  (playS f
  (List.take l.length
  (List.drop (0 : Nat) l))).it.length ++
  List.drop
  ((0 : Nat) +
  (playS f
  (List.take l.length
  (List.drop (0 : Nat) l))).it.length)
  (playS f
  (List.take l.length
  (List.drop (0 : Nat) l))).it))).length :
  Int) +
  (1 : Int) *
  (↑(List.take
  (playS f
  (List.take l.length
  (List.drop (0 : Nat) l))).ha.length
  (List.drop (0 : Nat)
  (nilT Cd.str.den ++
  marks markStr1 (1 : Int)
  ((1 : Int) +
  (1 : Int) *
  (↑(playS f
  (List.take l.length
  (List.drop (0 : Nat)
  l))).it.length :
  Int))
  (playS f
  (List.take l.length
  (List.drop (0 : Nat) l))).ha.length ++
  List.drop
  ((0 : Nat) +
  (playS f
  (List.take l.length
  (List.drop (0 : Nat) l))).ha.length)
  (playS f
  (List.take l.length
  (List.drop (0 : Nat) l))).ha))).length :
  Int) +
  (3 : Int) *
  (↑(List.take
  (playS f
  (List.take l.length
  (List.drop (0 : Nat) l))).w.length
  (List.drop (0 : Nat)
  (nilT
  ((Cd.int IntKind.i64).pair
  ((Cd.int IntKind.i64).pair
  (Cd.str.pair Cd.unit))).den ++
  marks markPacket1 (3 : Int)
  ((1 : Int) +
  (1 : Int) *
  (↑(playS f
  (List.take l.length
  (List.drop (0 : Nat)
  l))).it.length :
  Int) +
  (1 : Int) *
  (↑(playS f
  (List.take l.length
  (List.drop (0 : Nat)
  l))).ha.length :
  Int))
  (playS f
  (List.take l.length
  (List.drop (0 : Nat) l))).w.length ++
  List.drop
  ((0 : Nat) +
  (playS f
  (List.take l.length
  (List.drop (0 : Nat) l))).w.length)
  (playS f
  (List.take l.length
  (List.drop (0 : Nat) l))).w))).length :
  Int))
  (List.take
  (playS f (List.take l.length (List.drop (0 : Nat) l))).a.length
  (List.drop (0 : Nat)
  (nilT
  ((Cd.int IntKind.i64).pair
  ((Cd.int IntKind.i64).pair Cd.unit)).den ++
  marks markAck1 (2 : Int)
  ((1 : Int) +
  (1 : Int) *
  (↑(playS f
  (List.take l.length
  (List.drop (0 : Nat) l))).it.length :
  Int) +
  (1 : Int) *
  (↑(playS f
  (List.take l.length
  (List.drop (0 : Nat) l))).ha.length :
  Int) +
  (3 : Int) *
  (↑(playS f
  (List.take l.length
  (List.drop (0 : Nat) l))).w.length :
  Int))
  (playS f
  (List.take l.length
  (List.drop (0 : Nat) l))).a.length ++
  List.drop
  ((0 : Nat) +
  (playS f
  (List.take l.length
  (List.drop (0 : Nat) l))).a.length)
  (playS f
  (List.take l.length
  (List.drop (0 : Nat) l))).a))).length))
  (ifT
  (decide
  ((0 : Int) ≤
  (1 : Int) +
  (1 : Int) *
  (↑(List.take
  (playS f
  (List.take l.length
  (List.drop (0 : Nat) l))).it.length
  (List.drop (0 : Nat)
  (nilT Cd.str.den ++
  marks markStr1 (1 : Int) (1 : Int)
  (playS f
  (List.take l.length
  (List.drop (0 : Nat) l))).it.length ++
  List.drop
  ((0 : Nat) +
  (playS f
  (List.take l.length
  (List.drop (0 : Nat) l))).it.length)
  (playS f
  (List.take l.length
  (List.drop (0 : Nat) l))).it))).length :
  Int) +
  (1 : Int) *
  (↑(List.take
  (playS f
  (List.take l.length
  (List.drop (0 : Nat) l))).ha.length
  (List.drop (0 : Nat)
  (nilT Cd.str.den ++
  marks markStr1 (1 : Int)
  ((1 : Int) +
  (1 : Int) *
  (↑(playS f
  (List.take l.length
  (List.drop (0 : Nat)
  l))).it.length :
  Int))
  (playS f
  (List.take l.length
  (List.drop (0 : Nat) l))).ha.length ++
  List.drop
  ((0 : Nat) +
  (playS f
  (List.take l.length
  (List.drop (0 : Nat) l))).ha.length)
  (playS f
  (List.take l.length
  (List.drop (0 : Nat) l))).ha))).length :
  Int) +
  (3 : Int) *
  (↑(List.take
  (playS f
  (List.take l.length (List.drop (0 : Nat) l))).w.length
  (List.drop (0 : Nat)
  (nilT
  ((Cd.int IntKind.i64).pair
  ((Cd.int IntKind.i64).pair
  (Cd.str.pair Cd.unit))).den ++
  marks markPacket1 (3 : Int)
  ((1 : Int) +
  (1 : Int) *
  (↑(playS f
  (List.take l.length
  (List.drop (0 : Nat)
  l))).it.length :
  Int) +
  (1 : Int) *
  (↑(playS f
  (List.take l.length
  (List.drop (0 : Nat)
  l))).ha.length :
  Int))
  (playS f
  (List.take l.length
  (List.drop (0 : Nat) l))).w.length ++
  List.drop
  ((0 : Nat) +
  (playS f
  (List.take l.length
  (List.drop (0 : Nat) l))).w.length)
  (playS f
  (List.take l.length
  (List.drop (0 : Nat) l))).w))).length :
  Int) +
  (2 : Int) *
  (↑(List.take
  (playS f
  (List.take l.length (List.drop (0 : Nat) l))).a.length
  (List.drop (0 : Nat)
  (nilT
  ((Cd.int IntKind.i64).pair
  ((Cd.int IntKind.i64).pair Cd.unit)).den ++
  marks markAck1 (2 : Int)
  ((1 : Int) +
  (1 : Int) *
  (↑(playS f
  (List.take l.length
  (List.drop (0 : Nat)
  l))).it.length :
  Int) +
  (1 : Int) *
  (↑(playS f
  (List.take l.length
  (List.drop (0 : Nat)
  l))).ha.length :
  Int) +
  (3 : Int) *
  (↑(playS f
  (List.take l.length
  (List.drop (0 : Nat) l))).w.length :
  Int))
  (playS f
  (List.take l.length
  (List.drop (0 : Nat) l))).a.length ++
  List.drop
  ((0 : Nat) +
  (playS f
  (List.take l.length
  (List.drop (0 : Nat) l))).a.length)
  (playS f
  (List.take l.length
  (List.drop (0 : Nat) l))).a))).length :
  Int) ∧
  (1 : Int) +
  (1 : Int) *
  (↑(List.take
  (playS f
  (List.take l.length
  (List.drop (0 : Nat) l))).it.length
  (List.drop (0 : Nat)
  (nilT Cd.str.den ++
  marks markStr1 (1 : Int) (1 : Int)
  (playS f
  (List.take l.length
  (List.drop (0 : Nat) l))).it.length ++
  List.drop
  ((0 : Nat) +
  (playS f
  (List.take l.length
  (List.drop (0 : Nat) l))).it.length)
  (playS f
  (List.take l.length
  (List.drop (0 : Nat) l))).it))).length :
  Int) +
  (1 : Int) *
  (↑(List.take
  (playS f
  (List.take l.length
  (List.drop (0 : Nat) l))).ha.length
  (List.drop (0 : Nat)
  (nilT Cd.str.den ++
  marks markStr1 (1 : Int)
  ((1 : Int) +
  (1 : Int) *
  (↑(playS f
  (List.take l.length
  (List.drop (0 : Nat)
  l))).it.length :
  Int))
  (playS f
  (List.take l.length
  (List.drop (0 : Nat) l))).ha.length ++
  List.drop
  ((0 : Nat) +
  (playS f
  (List.take l.length
  (List.drop (0 : Nat) l))).ha.length)
  (playS f
  (List.take l.length
  (List.drop (0 : Nat) l))).ha))).length :
  Int) +
  (3 : Int) *
  (↑(List.take
  (playS f
  (List.take l.length
  (List.drop (0 : Nat) l))).w.length
  (List.drop (0 : Nat)
  (nilT
  ((Cd.int IntKind.i64).pair
  ((Cd.int IntKind.i64).pair
  (Cd.str.pair Cd.unit))).den ++
  marks markPacket1 (3 : Int)
  ((1 : Int) +
  (1 : Int) *
  (↑(playS f
  (List.take l.length
  (List.drop (0 : Nat)
  l))).it.length :
  Int) +
  (1 : Int) *
  (↑(playS f
  (List.take l.length
  (List.drop (0 : Nat)
  l))).ha.length :
  Int))
  (playS f
  (List.take l.length
  (List.drop (0 : Nat) l))).w.length ++
  List.drop
  ((0 : Nat) +
  (playS f
  (List.take l.length
  (List.drop (0 : Nat) l))).w.length)
  (playS f
  (List.take l.length
  (List.drop (0 : Nat) l))).w))).length :
  Int) +
  (2 : Int) *
  (↑(List.take
  (playS f
  (List.take l.length (List.drop (0 : Nat) l))).a.length
  (List.drop (0 : Nat)
  (nilT
  ((Cd.int IntKind.i64).pair
  ((Cd.int IntKind.i64).pair Cd.unit)).den ++
  marks markAck1 (2 : Int)
  ((1 : Int) +
  (1 : Int) *
  (↑(playS f
  (List.take l.length
  (List.drop (0 : Nat)
  l))).it.length :
  Int) +
  (1 : Int) *
  (↑(playS f
  (List.take l.length
  (List.drop (0 : Nat)
  l))).ha.length :
  Int) +
  (3 : Int) *
  (↑(playS f
  (List.take l.length
  (List.drop (0 : Nat) l))).w.length :
  Int))
  (playS f
  (List.take l.length
  (List.drop (0 : Nat) l))).a.length ++
  List.drop
  ((0 : Nat) +
  (playS f
  (List.take l.length
  (List.drop (0 : Nat) l))).a.length)
  (playS f
  (List.take l.length
  (List.drop (0 : Nat) l))).a))).length :
  Int) +
  (1 : Int) *
  (↑(List.take
  (playT f (List.take l.length (List.drop (0 : Nat) l))).length
  (List.drop (0 : Nat)
  (nilT Cd.bool.den ++
  marks markBool1 (1 : Int)
  ((1 : Int) +
  (1 : Int) *
  (↑(playS f
  (List.take l.length
  (List.drop (0 : Nat)
  l))).it.length :
  Int) +
  (1 : Int) *
  (↑(playS f
  (List.take l.length
  (List.drop (0 : Nat)
  l))).ha.length :
  Int) +
  (3 : Int) *
  (↑(playS f
  (List.take l.length
  (List.drop (0 : Nat) l))).w.length :
  Int) +
  (2 : Int) *
  (↑(playS f
  (List.take l.length
  (List.drop (0 : Nat) l))).a.length :
  Int))
  (playT f
  (List.take l.length
  (List.drop (0 : Nat) l))).length ++
  List.drop
  ((0 : Nat) +
  (playT f
  (List.take l.length
  (List.drop (0 : Nat) l))).length)
  (playT f
  (List.take l.length
  (List.drop (0 : Nat) l)))))).length :
  Int) ≤
  lim))
  (ifB
  (decide
  (List.take (playT f (List.take l.length (List.drop (0 : Nat) l))).length
  (List.drop (0 : Nat)
  (nilT Cd.bool.den ++
  marks markBool1 (1 : Int)
  ((1 : Int) +
  (1 : Int) *
  (↑(playS f
  (List.take l.length
  (List.drop (0 : Nat) l))).it.length :
  Int) +
  (1 : Int) *
  (↑(playS f
  (List.take l.length
  (List.drop (0 : Nat) l))).ha.length :
  Int) +
  (3 : Int) *
  (↑(playS f
  (List.take l.length
  (List.drop (0 : Nat) l))).w.length :
  Int) +
  (2 : Int) *
  (↑(playS f
  (List.take l.length
  (List.drop (0 : Nat) l))).a.length :
  Int))
  (playT f (List.take l.length (List.drop (0 : Nat) l))).length ++
  List.drop
  ((0 : Nat) +
  (playT f (List.take l.length (List.drop (0 : Nat) l))).length)
  (playT f (List.take l.length (List.drop (0 : Nat) l))))) =
  marks markBool1 (1 : Int)
  ((1 : Int) +
  (1 : Int) *
  (↑(List.take
  (playS f
  (List.take l.length
  (List.drop (0 : Nat) l))).it.length
  (List.drop (0 : Nat)
  (nilT Cd.str.den ++
  marks markStr1 (1 : Int) (1 : Int)
  (playS f
  (List.take l.length
  (List.drop (0 : Nat) l))).it.length ++
  List.drop
  ((0 : Nat) +
  (playS f
  (List.take l.length
  (List.drop (0 : Nat) l))).it.length)
  (playS f
  (List.take l.length
  (List.drop (0 : Nat) l))).it))).length :
  Int) +
  (1 : Int) *
  (↑(List.take
  (playS f
  (List.take l.length
  (List.drop (0 : Nat) l))).ha.length
  (List.drop (0 : Nat)
  (nilT Cd.str.den ++
  marks markStr1 (1 : Int)
  ((1 : Int) +
  (1 : Int) *
  (↑(playS f
  (List.take l.length
  (List.drop (0 : Nat)
  l))).it.length :
  Int))
  (playS f
  (List.take l.length
  (List.drop (0 : Nat) l))).ha.length ++
  List.drop
  ((0 : Nat) +
  (playS f
  (List.take l.length
  (List.drop (0 : Nat) l))).ha.length)
  (playS f
  (List.take l.length
  (List.drop (0 : Nat) l))).ha))).length :
  Int) +
  (3 : Int) *
  (↑(List.take
  (playS f
  (List.take l.length
  (List.drop (0 : Nat) l))).w.length
  (List.drop (0 : Nat)
  (nilT
  ((Cd.int IntKind.i64).pair
  ((Cd.int IntKind.i64).pair
  (Cd.str.pair Cd.unit))).den ++
  marks markPacket1 (3 : Int)
  ((1 : Int) +
  (1 : Int) *
  (↑(playS f
  (List.take l.length
  (List.drop (0 : Nat)
  l))).it.length :
  Int) +
  (1 : Int) *
  (↑(playS f
  (List.take l.length
  (List.drop (0 : Nat)
  l))).ha.length :
  Int))
  (playS f
  (List.take l.length
  (List.drop (0 : Nat) l))).w.length ++
  List.drop
  ((0 : Nat) +
  (playS f
  (List.take l.length
  (List.drop (0 : Nat) l))).w.length)
  (playS f
  (List.take l.length
  (List.drop (0 : Nat) l))).w))).length :
  Int) +
  (2 : Int) *
  (↑(List.take
  (playS f
  (List.take l.length (List.drop (0 : Nat) l))).a.length
  (List.drop (0 : Nat)
  (nilT
  ((Cd.int IntKind.i64).pair
  ((Cd.int IntKind.i64).pair Cd.unit)).den ++
  marks markAck1 (2 : Int)
  ((1 : Int) +
  (1 : Int) *
  (↑(playS f
  (List.take l.length
  (List.drop (0 : Nat)
  l))).it.length :
  Int) +
  (1 : Int) *
  (↑(playS f
  (List.take l.length
  (List.drop (0 : Nat)
  l))).ha.length :
  Int) +
  (3 : Int) *
  (↑(playS f
  (List.take l.length
  (List.drop (0 : Nat) l))).w.length :
  Int))
  (playS f
  (List.take l.length
  (List.drop (0 : Nat) l))).a.length ++
  List.drop
  ((0 : Nat) +
  (playS f
  (List.take l.length
  (List.drop (0 : Nat) l))).a.length)
  (playS f
  (List.take l.length
  (List.drop (0 : Nat) l))).a))).length :
  Int))
  (List.take (playT f (List.take l.length (List.drop (0 : Nat) l))).length
  (List.drop (0 : Nat)
  (nilT Cd.bool.den ++
  marks markBool1 (1 : Int)
  ((1 : Int) +
  (1 : Int) *
  (↑(playS f
  (List.take l.length
  (List.drop (0 : Nat) l))).it.length :
  Int) +
  (1 : Int) *
  (↑(playS f
  (List.take l.length
  (List.drop (0 : Nat) l))).ha.length :
  Int) +
  (3 : Int) *
  (↑(playS f
  (List.take l.length
  (List.drop (0 : Nat) l))).w.length :
  Int) +
  (2 : Int) *
  (↑(playS f
  (List.take l.length
  (List.drop (0 : Nat) l))).a.length :
  Int))
  (playT f
  (List.take l.length (List.drop (0 : Nat) l))).length ++
  List.drop
  ((0 : Nat) +
  (playT f
  (List.take l.length (List.drop (0 : Nat) l))).length)
  (playT f
  (List.take l.length (List.drop (0 : Nat) l)))))).length))
  (ifB
  ((1 : Int) +
  (1 : Int) *
  (↑(List.take
  (playS f
  (List.take l.length
  (List.drop (0 : Nat) l))).it.length
  (List.drop (0 : Nat)
  (nilT Cd.str.den ++
  marks markStr1 (1 : Int) (1 : Int)
  (playS f
  (List.take l.length
  (List.drop (0 : Nat) l))).it.length ++
  List.drop
  ((0 : Nat) +
  (playS f
  (List.take l.length
  (List.drop (0 : Nat) l))).it.length)
  (playS f
  (List.take l.length
  (List.drop (0 : Nat) l))).it))).length :
  Int) +
  (1 : Int) *
  (↑(List.take
  (playS f
  (List.take l.length
  (List.drop (0 : Nat) l))).ha.length
  (List.drop (0 : Nat)
  (nilT Cd.str.den ++
  marks markStr1 (1 : Int)
  ((1 : Int) +
  (1 : Int) *
  (↑(playS f
  (List.take l.length
  (List.drop (0 : Nat)
  l))).it.length :
  Int))
  (playS f
  (List.take l.length
  (List.drop (0 : Nat) l))).ha.length ++
  List.drop
  ((0 : Nat) +
  (playS f
  (List.take l.length
  (List.drop (0 : Nat) l))).ha.length)
  (playS f
  (List.take l.length
  (List.drop (0 : Nat) l))).ha))).length :
  Int) +
  (3 : Int) *
  (↑(List.take
  (playS f
  (List.take l.length
  (List.drop (0 : Nat) l))).w.length
  (List.drop (0 : Nat)
  (nilT
  ((Cd.int IntKind.i64).pair
  ((Cd.int IntKind.i64).pair
  (Cd.str.pair Cd.unit))).den ++
  marks markPacket1 (3 : Int)
  ((1 : Int) +
  (1 : Int) *
  (↑(playS f
  (List.take l.length
  (List.drop (0 : Nat)
  l))).it.length :
  Int) +
  (1 : Int) *
  (↑(playS f
  (List.take l.length
  (List.drop (0 : Nat)
  l))).ha.length :
  Int))
  (playS f
  (List.take l.length
  (List.drop (0 : Nat) l))).w.length ++
  List.drop
  ((0 : Nat) +
  (playS f
  (List.take l.length
  (List.drop (0 : Nat) l))).w.length)
  (playS f
  (List.take l.length
  (List.drop (0 : Nat) l))).w))).length :
  Int) +
  (2 : Int) *
  (↑(List.take
  (playS f
  (List.take l.length (List.drop (0 : Nat) l))).a.length
  (List.drop (0 : Nat)
  (nilT
  ((Cd.int IntKind.i64).pair
  ((Cd.int IntKind.i64).pair Cd.unit)).den ++
  marks markAck1 (2 : Int)
  ((1 : Int) +
  (1 : Int) *
  (↑(playS f
  (List.take l.length
  (List.drop (0 : Nat)
  l))).it.length :
  Int) +
  (1 : Int) *
  (↑(playS f
  (List.take l.length
  (List.drop (0 : Nat)
  l))).ha.length :
  Int) +
  (3 : Int) *
  (↑(playS f
  (List.take l.length
  (List.drop (0 : Nat) l))).w.length :
  Int))
  (playS f
  (List.take l.length
  (List.drop (0 : Nat) l))).a.length ++
  List.drop
  ((0 : Nat) +
  (playS f
  (List.take l.length
  (List.drop (0 : Nat) l))).a.length)
  (playS f
  (List.take l.length
  (List.drop (0 : Nat) l))).a))).length :
  Int) +
  (1 : Int) *
  (↑(List.take
  (playT f (List.take l.length (List.drop (0 : Nat) l))).length
  (List.drop (0 : Nat)
  (nilT Cd.bool.den ++
  marks markBool1 (1 : Int)
  ((1 : Int) +
  (1 : Int) *
  (↑(playS f
  (List.take l.length
  (List.drop (0 : Nat)
  l))).it.length :
  Int) +
  (1 : Int) *
  (↑(playS f
  (List.take l.length
  (List.drop (0 : Nat)
  l))).ha.length :
  Int) +
  (3 : Int) *
  (↑(playS f
  (List.take l.length
  (List.drop (0 : Nat) l))).w.length :
  Int) +
  (2 : Int) *
  (↑(playS f
  (List.take l.length
  (List.drop (0 : Nat) l))).a.length :
  Int))
  (playT f
  (List.take l.length
  (List.drop (0 : Nat) l))).length ++
  List.drop
  ((0 : Nat) +
  (playT f
  (List.take l.length
  (List.drop (0 : Nat) l))).length)
  (playT f
  (List.take l.length
  (List.drop (0 : Nat) l)))))).length :
  Int) !=
  (1 : Int) +
  (1 : Int) *
  (↑(playS f
  (List.take l.length
  (List.drop (0 : Nat) l))).it.length :
  Int) +
  (1 : Int) *
  (↑(playS f
  (List.take l.length
  (List.drop (0 : Nat) l))).ha.length :
  Int) +
  (3 : Int) *
  (↑(playS f
  (List.take l.length (List.drop (0 : Nat) l))).w.length :
  Int) +
  (2 : Int) *
  (↑(playS f (List.take l.length (List.drop (0 : Nat) l))).a.length :
  Int) +
  (1 : Int) *
  (↑(playT f (List.take l.length (List.drop (0 : Nat) l))).length :
  Int))
  (some (V.b false, []))
  (ifT (decide (l.length ≤ (1000000000 : Nat)))
  (ifB
  (!decide
  ((playS f (List.take l.length (List.drop (0 : Nat) l))).e =
  (playS f (List.take l.length (List.drop (0 : Nat) l))).e ∧
  List.take
  (playS f
  (List.take l.length
  (List.drop (0 : Nat) l))).it.length
  (List.drop (0 : Nat)
  (playS f
  (List.take l.length (List.drop (0 : Nat) l))).it) =
  List.take
  (playS f
  (List.take l.length
  (List.drop (0 : Nat) l))).it.length
  (List.drop (0 : Nat)
  (playS f
  (List.take l.length (List.drop (0 : Nat) l))).it) ∧
  (playS f (List.take l.length (List.drop (0 : Nat) l))).b =
  (playS f (List.take l.length (List.drop (0 : Nat) l))).b ∧
  List.take
  (playS f
  (List.take l.length
  (List.drop (0 : Nat) l))).ha.length
  (List.drop (0 : Nat)
  (playS f
  (List.take l.length
  (List.drop (0 : Nat) l))).ha) =
  List.take
  (playS f
  (List.take l.length
  (List.drop (0 : Nat) l))).ha.length
  (List.drop (0 : Nat)
  (playS f
  (List.take l.length
  (List.drop (0 : Nat) l))).ha) ∧
  List.take
  (playS f
  (List.take l.length
  (List.drop (0 : Nat) l))).w.length
  (List.drop (0 : Nat)
  (playS f
  (List.take l.length
  (List.drop (0 : Nat) l))).w) =
  List.take
  (playS f
  (List.take l.length
  (List.drop (0 : Nat) l))).w.length
  (List.drop (0 : Nat)
  (playS f
  (List.take l.length
  (List.drop (0 : Nat) l))).w) ∧
  List.take
  (playS f
  (List.take l.length
  (List.drop (0 : Nat) l))).a.length
  (List.drop (0 : Nat)
  (playS f
  (List.take l.length
  (List.drop (0 : Nat) l))).a) =
  List.take
  (playS f
  (List.take l.length
  (List.drop (0 : Nat) l))).a.length
  (List.drop (0 : Nat)
  (playS f
  (List.take l.length
  (List.drop (0 : Nat) l))).a)))
  (some (V.b false, []))
  (ifB
  (!decide
  (List.take
  (playT f (List.take l.length (List.drop (0 : Nat) l))).length
  (List.drop (0 : Nat)
  (playT f (List.take l.length (List.drop (0 : Nat) l)))) =
  List.take
  (playT f (List.take l.length (List.drop (0 : Nat) l))).length
  (List.drop (0 : Nat)
  (playT f (List.take l.length (List.drop (0 : Nat) l))))))
  (some (V.b false, []))
  (ifB
  (!decide
  (f.length ≤ (20 : Nat) ∧
  (List.take l.length (List.drop (0 : Nat) l)).length ≤
  (200 : Nat)) ==
  decide
  (f.length ≤ (20 : Nat) ∧
  (List.take l.length (List.drop (0 : Nat) l)).length ≤
  (200 : Nat)))
  (some (V.b false, []))
  (ifT
  (decide
  ((0 : Int) ≤ (1 : Int) ∧
  (1 : Int) +
  (1 : Int) *
  (↑(List.take
  (playS f
  (List.take l.length
  (List.drop (0 : Nat)
  l))).it.length
  (List.drop (0 : Nat)
  (nilT Cd.str.den ++
  marks markStr1 (1 : Int) (1 : Int)
  (playS f
  (List.take l.length
  (List.drop (0 : Nat)
  l))).it.length ++
  List.drop
  ((0 : Nat) +
  (playS f
  (List.take l.length
  (List.drop (0 : Nat)
  l))).it.length)
  (playS f
  (List.take l.length
  (List.drop (0 : Nat)
  l))).it))).length :
  Int) +
  (1 : Int) *
  (↑(List.take
  (playS f
  (List.take l.length
  (List.drop (0 : Nat) l))).ha.length
  (List.drop (0 : Nat)
  (nilT Cd.str.den ++
  marks markStr1 (1 : Int)
  ((1 : Int) +
  (1 : Int) *
  (↑(playS f
  (List.take l.length
  (List.drop (0 : Nat)
  l))).it.length :
  Int))
  (playS f
  (List.take l.length
  (List.drop (0 : Nat)
  l))).ha.length ++
  List.drop
  ((0 : Nat) +
  (playS f
  (List.take l.length
  (List.drop (0 : Nat)
  l))).ha.length)
  (playS f
  (List.take l.length
  (List.drop (0 : Nat)
  l))).ha))).length :
  Int) +
  (3 : Int) *
  (↑(List.take
  (playS f
  (List.take l.length
  (List.drop (0 : Nat) l))).w.length
  (List.drop (0 : Nat)
  (nilT
  ((Cd.int IntKind.i64).pair
  ((Cd.int IntKind.i64).pair
  (Cd.str.pair Cd.unit))).den ++
  marks markPacket1 (3 : Int)
  ((1 : Int) +
  (1 : Int) *
  (↑(playS f
  (List.take l.length
  (List.drop (0 : Nat)
  l))).it.length :
  Int) +
  (1 : Int) *
  (↑(playS f
  (List.take l.length
  (List.drop (0 : Nat)
  l))).ha.length :
  Int))
  (playS f
  (List.take l.length
  (List.drop (0 : Nat)
  l))).w.length ++
  List.drop
  ((0 : Nat) +
  (playS f
  (List.take l.length
  (List.drop (0 : Nat)
  l))).w.length)
  (playS f
  (List.take l.length
  (List.drop (0 : Nat)
  l))).w))).length :
  Int) +
  (2 : Int) *
  (↑(List.take
  (playS f
  (List.take l.length
  (List.drop (0 : Nat) l))).a.length
  (List.drop (0 : Nat)
  (nilT
  ((Cd.int IntKind.i64).pair
  ((Cd.int IntKind.i64).pair
  Cd.unit)).den ++
  marks markAck1 (2 : Int)
  ((1 : Int) +
  (1 : Int) *
  (↑(playS f
  (List.take l.length
  (List.drop (0 : Nat)
  l))).it.length :
  Int) +
  (1 : Int) *
  (↑(playS f
  (List.take l.length
  (List.drop (0 : Nat)
  l))).ha.length :
  Int) +
  (3 : Int) *
  (↑(playS f
  (List.take l.length
  (List.drop (0 : Nat)
  l))).w.length :
  Int))
  (playS f
  (List.take l.length
  (List.drop (0 : Nat)
  l))).a.length ++
  List.drop
  ((0 : Nat) +
  (playS f
  (List.take l.length
  (List.drop (0 : Nat)
  l))).a.length)
  (playS f
  (List.take l.length
  (List.drop (0 : Nat)
  l))).a))).length :
  Int) ≤
  lim))
  (ifB
  (decide
  (List.take
  (playS f
  (List.take l.length
  (List.drop (0 : Nat) l))).it.length
  (List.drop (0 : Nat)
  (nilT Cd.str.den ++
  marks markStr1 (1 : Int) (1 : Int)
  (playS f
  (List.take l.length
  (List.drop (0 : Nat) l))).it.length ++
  List.drop
  ((0 : Nat) +
  (playS f
  (List.take l.length
  (List.drop (0 : Nat) l))).it.length)
  (playS f
  (List.take l.length
  (List.drop (0 : Nat) l))).it)) =
  marks markStr1 (1 : Int) (1 : Int)
  (List.take
  (playS f
  (List.take l.length
  (List.drop (0 : Nat) l))).it.length
  (List.drop (0 : Nat)
  (nilT Cd.str.den ++
  marks markStr1 (1 : Int) (1 : Int)
  (playS f
  (List.take l.length
  (List.drop (0 : Nat)
  l))).it.length ++
  List.drop
  ((0 : Nat) +
  (playS f
  (List.take l.length
  (List.drop (0 : Nat) l))).it.length)
  (playS f
  (List.take l.length
  (List.drop (0 : Nat) l))).it))).length ∧
  List.take
  (playS f
  (List.take l.length
  (List.drop (0 : Nat) l))).ha.length
  (List.drop (0 : Nat)
  (nilT Cd.str.den ++
  marks markStr1 (1 : Int)
  ((1 : Int) +
  (1 : Int) *
  (↑(playS f
  (List.take l.length
  (List.drop (0 : Nat)
  l))).it.length :
  Int))
  (playS f
  (List.take l.length
  (List.drop (0 : Nat) l))).ha.length ++
  List.drop
  ((0 : Nat) +
  (playS f
  (List.take l.length
  (List.drop (0 : Nat) l))).ha.length)
  (playS f
  (List.take l.length
  (List.drop (0 : Nat) l))).ha)) =
  marks markStr1 (1 : Int)
  ((1 : Int) +
  (1 : Int) *
  (↑(List.take
  (playS f
  (List.take l.length
  (List.drop (0 : Nat)
  l))).it.length
  (List.drop (0 : Nat)
  (nilT Cd.str.den ++
  marks markStr1 (1 : Int) (1 : Int)
  (playS f
  (List.take l.length
  (List.drop (0 : Nat)
  l))).it.length ++
  List.drop
  ((0 : Nat) +
  (playS f
  (List.take l.length
  (List.drop (0 : Nat)
  l))).it.length)
  (playS f
  (List.take l.length
  (List.drop (0 : Nat)
  l))).it))).length :
  Int))
  (List.take
  (playS f
  (List.take l.length
  (List.drop (0 : Nat) l))).ha.length
  (List.drop (0 : Nat)
  (nilT Cd.str.den ++
  marks markStr1 (1 : Int)
  ((1 : Int) +
  (1 : Int) *
  (↑(playS f
  (List.take l.length
  (List.drop (0 : Nat)
  l))).it.length :
  Int))
  (playS f
  (List.take l.length
  (List.drop (0 : Nat)
  l))).ha.length ++
  List.drop
  ((0 : Nat) +
  (playS f
  (List.take l.length
  (List.drop (0 : Nat)
  l))).ha.length)
  (playS f
  (List.take l.length
  (List.drop (0 : Nat)
  l))).ha))).length ∧
  List.take
  (playS f
  (List.take l.length
  (List.drop (0 : Nat) l))).w.length
  (List.drop (0 : Nat)
  (nilT
  ((Cd.int IntKind.i64).pair
  ((Cd.int IntKind.i64).pair
  (Cd.str.pair Cd.unit))).den ++
  marks markPacket1 (3 : Int)
  ((1 : Int) +
  (1 : Int) *
  (↑(playS f
  (List.take l.length
  (List.drop (0 : Nat)
  l))).it.length :
  Int) +
  (1 : Int) *
  (↑(playS f
  (List.take l.length
  (List.drop (0 : Nat)
  l))).ha.length :
  Int))
  (playS f
  (List.take l.length
  (List.drop (0 : Nat)
  l))).w.length ++
  List.drop
  ((0 : Nat) +
  (playS f
  (List.take l.length
  (List.drop (0 : Nat) l))).w.length)
  (playS f
  (List.take l.length
  (List.drop (0 : Nat) l))).w)) =
  marks markPacket1 (3 : Int)
  ((1 : Int) +
  (1 : Int) *
  (↑(List.take
  (playS f
  (List.take l.length
  (List.drop (0 : Nat)
  l))).it.length
  (List.drop (0 : Nat)
  (nilT Cd.str.den ++
  marks markStr1 (1 : Int)
  (1 : Int)
  (playS f
  (List.take l.length
  (List.drop (0 : Nat)
  l))).it.length ++
  List.drop
  ((0 : Nat) +
  (playS f
  (List.take l.length
  (List.drop (0 : Nat)
  l))).it.length)
  (playS f
  (List.take l.length
  (List.drop (0 : Nat)
  l))).it))).length :
  Int) +
  (1 : Int) *
  (↑(List.take
  (playS f
  (List.take l.length
  (List.drop (0 : Nat)
  l))).ha.length
  (List.drop (0 : Nat)
  (nilT Cd.str.den ++
  marks markStr1 (1 : Int)
  ((1 : Int) +
  (1 : Int) *
  (↑(playS f
  (List.take
  l.length
  (List.drop
  (0 : Nat)
  l))).it.length :
  Int))
  (playS f
  (List.take l.length
  (List.drop (0 : Nat)
  l))).ha.length ++
  List.drop
  ((0 : Nat) +
  (playS f
  (List.take l.length
  (List.drop (0 : Nat)
  l))).ha.length)
  (playS f
  (List.take l.length
  (List.drop (0 : Nat)
  l))).ha))).length :
  Int))
  (List.take
  (playS f
  (List.take l.length
  (List.drop (0 : Nat) l))).w.length
  (List.drop (0 : Nat)
  (nilT
  ((Cd.int IntKind.i64).pair
  ((Cd.int IntKind.i64).pair
  (Cd.str.pair Cd.unit))).den ++
  marks markPacket1 (3 : Int)
  ((1 : Int) +
  (1 : Int) *
  (↑(playS f
  (List.take l.length
  (List.drop (0 : Nat)
  l))).it.length :
  Int) +
  (1 : Int) *
  (↑(playS f
  (List.take l.length
  (List.drop (0 : Nat)
  l))).ha.length :
  Int))
  (playS f
  (List.take l.length
  (List.drop (0 : Nat)
  l))).w.length ++
  List.drop
  ((0 : Nat) +
  (playS f
  (List.take l.length
  (List.drop (0 : Nat)
  l))).w.length)
  (playS f
  (List.take l.length
  (List.drop (0 : Nat)
  l))).w))).length ∧
  List.take
  (playS f
  (List.take l.length
  (List.drop (0 : Nat) l))).a.length
  (List.drop (0 : Nat)
  (nilT
  ((Cd.int IntKind.i64).pair
  ((Cd.int IntKind.i64).pair
  Cd.unit)).den ++
  marks markAck1 (2 : Int)
  ((1 : Int) +
  (1 : Int) *
  (↑(playS f
  (List.take l.length
  (List.drop (0 : Nat)
  l))).it.length :
  Int) +
  (1 : Int) *
  (↑(playS f
  (List.take l.length
  (List.drop (0 : Nat)
  l))).ha.length :
  Int) +
  (3 : Int) *
  (↑(playS f
  (List.take l.length
  (List.drop (0 : Nat)
  l))).w.length :
  Int))
  (playS f
  (List.take l.length
  (List.drop (0 : Nat)
  l))).a.length ++
  List.drop
  ((0 : Nat) +
  (playS f
  (List.take l.length
  (List.drop (0 : Nat) l))).a.length)
  (playS f
  (List.take l.length
  (List.drop (0 : Nat) l))).a)) =
  marks markAck1 (2 : Int)
  ((1 : Int) +
  (1 : Int) *
  (↑(List.take
  (playS f
  (List.take l.length
  (List.drop (0 : Nat)
  l))).it.length
  (List.drop (0 : Nat)
  (nilT Cd.str.den ++
  marks markStr1 (1 : Int)
  (1 : Int)
  (playS f
  (List.take l.length
  (List.drop (0 : Nat)
  l))).it.length ++
  List.drop
  ((0 : Nat) +
  (playS f
  (List.take l.length
  (List.drop (0 : Nat)
  l))).it.length)
  (playS f
  (List.take l.length
  (List.drop (0 : Nat)
  l))).it))).length :
  Int) +
  (1 : Int) *
  (↑(List.take
  (playS f
  (List.take l.length
  (List.drop (0 : Nat)
  l))).ha.length
  (List.drop (0 : Nat)
  (nilT Cd.str.den ++
  marks markStr1 (1 : Int)
  ((1 : Int) +
  (1 : Int) *
  (↑(playS f
  (List.take
  l.length
  (List.drop
  (0 : Nat)
  l))).it.length :
  Int))
  (playS f
  (List.take l.length
  (List.drop (0 : Nat)
  l))).ha.length ++
  List.drop
  ((0 : Nat) +
  (playS f
  (List.take l.length
  (List.drop (0 : Nat)
  l))).ha.length)
  (playS f
  (List.take l.length
  (List.drop (0 : Nat)
  l))).ha))).length :
  Int) +
  (3 : Int) *
  (↑(List.take
  (playS f
  (List.take l.length
  (List.drop (0 : Nat)
  l))).w.length
  (List.drop (0 : Nat)
  (nilT
  ((Cd.int IntKind.i64).pair
  ((Cd.int IntKind.i64).pair
  (Cd.str.pair
  Cd.unit))).den ++
  marks markPacket1 (3 : Int)
  ((1 : Int) +
  (1 : Int) *
  (↑(playS f
  (List.take
  l.length
  (List.drop
  (0 : Nat)
  l))).it.length :
  Int) +
  (1 : Int) *
  (↑(playS f
  (List.take
  l.length
  (List.drop
  (0 : Nat)
  l))).ha.length :
  Int))
  (playS f
  (List.take l.length
  (List.drop (0 : Nat)
  l))).w.length ++
  List.drop
  ((0 : Nat) +
  (playS f
  (List.take l.length
  (List.drop (0 : Nat)
  l))).w.length)
  (playS f
  (List.take l.length
  (List.drop (0 : Nat)
  l))).w))).length :
  Int))
  (List.take
  (playS f
  (List.take l.length
  (List.drop (0 : Nat) l))).a.length
  (List.drop (0 : Nat)
  (nilT
  ((Cd.int IntKind.i64).pair
  ((Cd.int IntKind.i64).pair
  Cd.unit)).den ++
  marks markAck1 (2 : Int)
  ((1 : Int) +
  (1 : Int) *
  (↑(playS f
  (List.take l.length
  (List.drop (0 : Nat)
  l))).it.length :
  Int) +
  (1 : Int) *
  (↑(playS f
  (List.take l.length
  (List.drop (0 : Nat)
  l))).ha.length :
  Int) +
  (3 : Int) *
  (↑(playS f
  (List.take l.length
  (List.drop (0 : Nat)
  l))).w.length :
  Int))
  (playS f
  (List.take l.length
  (List.drop (0 : Nat)
  l))).a.length ++
  List.drop
  ((0 : Nat) +
  (playS f
  (List.take l.length
  (List.drop (0 : Nat)
  l))).a.length)
  (playS f
  (List.take l.length
  (List.drop (0 : Nat)
  l))).a))).length))
  (ifT
  (decide
  ((0 : Int) ≤
  (1 : Int) +
  (1 : Int) *
  (↑(List.take
  (playS f
  (List.take l.length
  (List.drop (0 : Nat)
  l))).it.length
  (List.drop (0 : Nat)
  (nilT Cd.str.den ++
  marks markStr1 (1 : Int)
  (1 : Int)
  (playS f
  (List.take l.length
  (List.drop (0 : Nat)
  l))).it.length ++
  List.drop
  ((0 : Nat) +
  (playS f
  (List.take l.length
  (List.drop (0 : Nat)
  l))).it.length)
  (playS f
  (List.take l.length
  (List.drop (0 : Nat)
  l))).it))).length :
  Int) +
  (1 : Int) *
  (↑(List.take
  (playS f
  (List.take l.length
  (List.drop (0 : Nat)
  l))).ha.length
  (List.drop (0 : Nat)
  (nilT Cd.str.den ++
  marks markStr1 (1 : Int)
  ((1 : Int) +
  (1 : Int) *
  (↑(playS f
  (List.take
  l.length
  (List.drop
  (0 : Nat)
  l))).it.length :
  Int))
  (playS f
  (List.take l.length
  (List.drop (0 : Nat)
  l))).ha.length ++
  List.drop
  ((0 : Nat) +
  (playS f
  (List.take l.length
  (List.drop (0 : Nat)
  l))).ha.length)
  (playS f
  (List.take l.length
  (List.drop (0 : Nat)
  l))).ha))).length :
  Int) +
  (3 : Int) *
  (↑(List.take
  (playS f
  (List.take l.length
  (List.drop (0 : Nat) l))).w.length
  (List.drop (0 : Nat)
  (nilT
  ((Cd.int IntKind.i64).pair
  ((Cd.int IntKind.i64).pair
  (Cd.str.pair
  Cd.unit))).den ++
  marks markPacket1 (3 : Int)
  ((1 : Int) +
  (1 : Int) *
  (↑(playS f
  (List.take
  l.length
  (List.drop
  (0 : Nat)
  l))).it.length :
  Int) +
  (1 : Int) *
  (↑(playS f
  (List.take l.length
  (List.drop
  (0 : Nat)
  l))).ha.length :
  Int))
  (playS f
  (List.take l.length
  (List.drop (0 : Nat)
  l))).w.length ++
  List.drop
  ((0 : Nat) +
  (playS f
  (List.take l.length
  (List.drop (0 : Nat)
  l))).w.length)
  (playS f
  (List.take l.length
  (List.drop (0 : Nat)
  l))).w))).length :
  Int) +
  (2 : Int) *
  (↑(List.take
  (playS f
  (List.take l.length
  (List.drop (0 : Nat) l))).a.length
  (List.drop (0 : Nat)
  (nilT
  ((Cd.int IntKind.i64).pair
  ((Cd.int IntKind.i64).pair
  Cd.unit)).den ++
  marks markAck1 (2 : Int)
  ((1 : Int) +
  (1 : Int) *
  (↑(playS f
  (List.take
  l.length
  (List.drop
  (0 : Nat)
  l))).it.length :
  Int) +
  (1 : Int) *
  (↑(playS f
  (List.take l.length
  (List.drop
  (0 : Nat)
  l))).ha.length :
  Int) +
  (3 : Int) *
  (↑(playS f
  (List.take l.length
  (List.drop (0 : Nat)
  l))).w.length :
  Int))
  (playS f
  (List.take l.length
  (List.drop (0 : Nat)
  l))).a.length ++
  List.drop
  ((0 : Nat) +
  (playS f
  (List.take l.length
  (List.drop (0 : Nat)
  l))).a.length)
  (playS f
  (List.take l.length
  (List.drop (0 : Nat)
  l))).a))).length :
  Int) ∧
  (1 : Int) +
  (1 : Int) *
  (↑(List.take
  (playS f
  (List.take l.length
  (List.drop (0 : Nat)
  l))).it.length
  (List.drop (0 : Nat)
  (nilT Cd.str.den ++
  marks markStr1 (1 : Int)
  (1 : Int)
  (playS f
  (List.take l.length
  (List.drop (0 : Nat)
  l))).it.length ++
  List.drop
  ((0 : Nat) +
  (playS f
  (List.take l.length
  (List.drop (0 : Nat)
  l))).it.length)
  (playS f
  (List.take l.length
  (List.drop (0 : Nat)
  l))).it))).length :
  Int) +
  (1 : Int) *
  (↑(List.take
  (playS f
  (List.take l.length
  (List.drop (0 : Nat)
  l))).ha.length
  (List.drop (0 : Nat)
  (nilT Cd.str.den ++
  marks markStr1 (1 : Int)
  ((1 : Int) +
  (1 : Int) *
  (↑(playS f
  (List.take
  l.length
  (List.drop
  (0 : Nat)
  l))).it.length :
  Int))
  (playS f
  (List.take l.length
  (List.drop (0 : Nat)
  l))).ha.length ++
  List.drop
  ((0 : Nat) +
  (playS f
  (List.take l.length
  (List.drop (0 : Nat)
  l))).ha.length)
  (playS f
  (List.take l.length
  (List.drop (0 : Nat)
  l))).ha))).length :
  Int) +
  (3 : Int) *
  (↑(List.take
  (playS f
  (List.take l.length
  (List.drop (0 : Nat)
  l))).w.length
  (List.drop (0 : Nat)
  (nilT
  ((Cd.int IntKind.i64).pair
  ((Cd.int IntKind.i64).pair
  (Cd.str.pair
  Cd.unit))).den ++
  marks markPacket1 (3 : Int)
  ((1 : Int) +
  (1 : Int) *
  (↑(playS f
  (List.take
  l.length
  (List.drop
  (0 : Nat)
  l))).it.length :
  Int) +
  (1 : Int) *
  (↑(playS f
  (List.take
  l.length
  (List.drop
  (0 : Nat)
  l))).ha.length :
  Int))
  (playS f
  (List.take l.length
  (List.drop (0 : Nat)
  l))).w.length ++
  List.drop
  ((0 : Nat) +
  (playS f
  (List.take l.length
  (List.drop (0 : Nat)
  l))).w.length)
  (playS f
  (List.take l.length
  (List.drop (0 : Nat)
  l))).w))).length :
  Int) +
  (2 : Int) *
  (↑(List.take
  (playS f
  (List.take l.length
  (List.drop (0 : Nat) l))).a.length
  (List.drop (0 : Nat)
  (nilT
  ((Cd.int IntKind.i64).pair
  ((Cd.int IntKind.i64).pair
  Cd.unit)).den ++
  marks markAck1 (2 : Int)
  ((1 : Int) +
  (1 : Int) *
  (↑(playS f
  (List.take
  l.length
  (List.drop
  (0 : Nat)
  l))).it.length :
  Int) +
  (1 : Int) *
  (↑(playS f
  (List.take
  l.length
  (List.drop
  (0 : Nat)
  l))).ha.length :
  Int) +
  (3 : Int) *
  (↑(playS f
  (List.take l.length
  (List.drop
  (0 : Nat)
  l))).w.length :
  Int))
  (playS f
  (List.take l.length
  (List.drop (0 : Nat)
  l))).a.length ++
  List.drop
  ((0 : Nat) +
  (playS f
  (List.take l.length
  (List.drop (0 : Nat)
  l))).a.length)
  (playS f
  (List.take l.length
  (List.drop (0 : Nat)
  l))).a))).length :
  Int) +
  (1 : Int) *
  (↑(List.take
  (playT f
  (List.take l.length
  (List.drop (0 : Nat) l))).length
  (List.drop (0 : Nat)
  (nilT Cd.bool.den ++
  marks markBool1 (1 : Int)
  ((1 : Int) +
  (1 : Int) *
  (↑(playS f
  (List.take
  l.length
  (List.drop
  (0 : Nat)
  l))).it.length :
  Int) +
  (1 : Int) *
  (↑(playS f
  (List.take
  l.length
  (List.drop
  (0 : Nat)
  l))).ha.length :
  Int) +
  (3 : Int) *
  (↑(playS f
  (List.take l.length
  (List.drop
  (0 : Nat)
  l))).w.length :
  Int) +
  (2 : Int) *
  (↑(playS f
  (List.take l.length
  (List.drop (0 : Nat)
  l))).a.length :
  Int))
  (playT f
  (List.take l.length
  (List.drop (0 : Nat)
  l))).length ++
  List.drop
  ((0 : Nat) +
  (playT f
  (List.take l.length
  (List.drop (0 : Nat)
  l))).length)
  (playT f
  (List.take l.length
  (List.drop (0 : Nat)
  l)))))).length :
  Int) ≤
  lim))
  (ifB
  (decide
  (List.take
  (playT f
  (List.take l.length
  (List.drop (0 : Nat) l))).length
  (List.drop (0 : Nat)
  (nilT Cd.bool.den ++
  marks markBool1 (1 : Int)
  ((1 : Int) +
  (1 : Int) *
  (↑(playS f
  (List.take l.length
  (List.drop (0 : Nat)
  l))).it.length :
  Int) +
  (1 : Int) *
  (↑(playS f
  (List.take l.length
  (List.drop (0 : Nat)
  l))).ha.length :
  Int) +
  (3 : Int) *
  (↑(playS f
  (List.take l.length
  (List.drop (0 : Nat)
  l))).w.length :
  Int) +
  (2 : Int) *
  (↑(playS f
  (List.take l.length
  (List.drop (0 : Nat)
  l))).a.length :
  Int))
  (playT f
  (List.take l.length
  (List.drop (0 : Nat) l))).length ++
  List.drop
  ((0 : Nat) +
  (playT f
  (List.take l.length
  (List.drop (0 : Nat) l))).length)
  (playT f
  (List.take l.length
  (List.drop (0 : Nat) l))))) =
  marks markBool1 (1 : Int)
  ((1 : Int) +
  (1 : Int) *
  (↑(List.take
  (playS f
  (List.take l.length
  (List.drop (0 : Nat)
  l))).it.length
  (List.drop (0 : Nat)
  (nilT Cd.str.den ++
  marks markStr1 (1 : Int)
  (1 : Int)
  (playS f
  (List.take l.length
  (List.drop (0 : Nat)
  l))).it.length ++
  List.drop
  ((0 : Nat) +
  (playS f
  (List.take l.length
  (List.drop (0 : Nat)
  l))).it.length)
  (playS f
  (List.take l.length
  (List.drop (0 : Nat)
  l))).it))).length :
  Int) +
  (1 : Int) *
  (↑(List.take
  (playS f
  (List.take l.length
  (List.drop (0 : Nat)
  l))).ha.length
  (List.drop (0 : Nat)
  (nilT Cd.str.den ++
  marks markStr1 (1 : Int)
  ((1 : Int) +
  (1 : Int) *
  (↑(playS f
  (List.take
  l.length
  (List.drop
  (0 : Nat)
  l))).it.length :
  Int))
  (playS f
  (List.take l.length
  (List.drop (0 : Nat)
  l))).ha.length ++
  List.drop
  ((0 : Nat) +
  (playS f
  (List.take l.length
  (List.drop (0 : Nat)
  l))).ha.length)
  (playS f
  (List.take l.length
  (List.drop (0 : Nat)
  l))).ha))).length :
  Int) +
  (3 : Int) *
  (↑(List.take
  (playS f
  (List.take l.length
  (List.drop (0 : Nat)
  l))).w.length
  (List.drop (0 : Nat)
  (nilT
  ((Cd.int IntKind.i64).pair
  ((Cd.int IntKind.i64).pair
  (Cd.str.pair
  Cd.unit))).den ++
  marks markPacket1 (3 : Int)
  ((1 : Int) +
  (1 : Int) *
  (↑(playS f
  (List.take
  l.length
  (List.drop
  (0 : Nat)
  l))).it.length :
  Int) +
  (1 : Int) *
  (↑(playS f
  (List.take
  l.length
  (List.drop
  (0 : Nat)
  l))).ha.length :
  Int))
  (playS f
  (List.take l.length
  (List.drop (0 : Nat)
  l))).w.length ++
  List.drop
  ((0 : Nat) +
  (playS f
  (List.take l.length
  (List.drop (0 : Nat)
  l))).w.length)
  (playS f
  (List.take l.length
  (List.drop (0 : Nat)
  l))).w))).length :
  Int) +
  (2 : Int) *
  (↑(List.take
  (playS f
  (List.take l.length
  (List.drop (0 : Nat) l))).a.length
  (List.drop (0 : Nat)
  (nilT
  ((Cd.int IntKind.i64).pair
  ((Cd.int IntKind.i64).pair
  Cd.unit)).den ++
  marks markAck1 (2 : Int)
  ((1 : Int) +
  (1 : Int) *
  (↑(playS f
  (List.take
  l.length
  (List.drop
  (0 : Nat)
  l))).it.length :
  Int) +
  (1 : Int) *
  (↑(playS f
  (List.take
  l.length
  (List.drop
  (0 : Nat)
  l))).ha.length :
  Int) +
  (3 : Int) *
  (↑(playS f
  (List.take l.length
  (List.drop
  (0 : Nat)
  l))).w.length :
  Int))
  (playS f
  (List.take l.length
  (List.drop (0 : Nat)
  l))).a.length ++
  List.drop
  ((0 : Nat) +
  (playS f
  (List.take l.length
  (List.drop (0 : Nat)
  l))).a.length)
  (playS f
  (List.take l.length
  (List.drop (0 : Nat)
  l))).a))).length :
  Int))
  (List.take
  (playT f
  (List.take l.length
  (List.drop (0 : Nat) l))).length
  (List.drop (0 : Nat)
  (nilT Cd.bool.den ++
  marks markBool1 (1 : Int)
  ((1 : Int) +
  (1 : Int) *
  (↑(playS f
  (List.take l.length
  (List.drop (0 : Nat)
  l))).it.length :
  Int) +
  (1 : Int) *
  (↑(playS f
  (List.take l.length
  (List.drop (0 : Nat)
  l))).ha.length :
  Int) +
  (3 : Int) *
  (↑(playS f
  (List.take l.length
  (List.drop (0 : Nat)
  l))).w.length :
  Int) +
  (2 : Int) *
  (↑(playS f
  (List.take l.length
  (List.drop (0 : Nat)
  l))).a.length :
  Int))
  (playT f
  (List.take l.length
  (List.drop (0 : Nat) l))).length ++
  List.drop
  ((0 : Nat) +
  (playT f
  (List.take l.length
  (List.drop (0 : Nat) l))).length)
  (playT f
  (List.take l.length
  (List.drop (0 : Nat) l)))))).length))
  (ifB
  ((1 : Int) +
  (1 : Int) *
  (↑(List.take
  (playS f
  (List.take l.length
  (List.drop (0 : Nat)
  l))).it.length
  (List.drop (0 : Nat)
  (nilT Cd.str.den ++
  marks markStr1 (1 : Int)
  (1 : Int)
  (playS f
  (List.take l.length
  (List.drop (0 : Nat)
  l))).it.length ++
  List.drop
  ((0 : Nat) +
  (playS f
  (List.take l.length
  (List.drop (0 : Nat)
  l))).it.length)
  (playS f
  (List.take l.length
  (List.drop (0 : Nat)
  l))).it))).length :
  Int) +
  (1 : Int) *
  (↑(List.take
  (playS f
  (List.take l.length
  (List.drop (0 : Nat)
  l))).ha.length
  (List.drop (0 : Nat)
  (nilT Cd.str.den ++
  marks markStr1 (1 : Int)
  ((1 : Int) +
  (1 : Int) *
  (↑(playS f
  (List.take
  l.length
  (List.drop
  (0 : Nat)
  l))).it.length :
  Int))
  (playS f
  (List.take l.length
  (List.drop (0 : Nat)
  l))).ha.length ++
  List.drop
  ((0 : Nat) +
  (playS f
  (List.take l.length
  (List.drop (0 : Nat)
  l))).ha.length)
  (playS f
  (List.take l.length
  (List.drop (0 : Nat)
  l))).ha))).length :
  Int) +
  (3 : Int) *
  (↑(List.take
  (playS f
  (List.take l.length
  (List.drop (0 : Nat)
  l))).w.length
  (List.drop (0 : Nat)
  (nilT
  ((Cd.int IntKind.i64).pair
  ((Cd.int IntKind.i64).pair
  (Cd.str.pair
  Cd.unit))).den ++
  marks markPacket1 (3 : Int)
  ((1 : Int) +
  (1 : Int) *
  (↑(playS f
  (List.take
  l.length
  (List.drop
  (0 : Nat)
  l))).it.length :
  Int) +
  (1 : Int) *
  (↑(playS f
  (List.take
  l.length
  (List.drop
  (0 : Nat)
  l))).ha.length :
  Int))
  (playS f
  (List.take l.length
  (List.drop (0 : Nat)
  l))).w.length ++
  List.drop
  ((0 : Nat) +
  (playS f
  (List.take l.length
  (List.drop (0 : Nat)
  l))).w.length)
  (playS f
  (List.take l.length
  (List.drop (0 : Nat)
  l))).w))).length :
  Int) +
  (2 : Int) *
  (↑(List.take
  (playS f
  (List.take l.length
  (List.drop (0 : Nat) l))).a.length
  (List.drop (0 : Nat)
  (nilT
  ((Cd.int IntKind.i64).pair
  ((Cd.int IntKind.i64).pair
  Cd.unit)).den ++
  marks markAck1 (2 : Int)
  ((1 : Int) +
  (1 : Int) *
  (↑(playS f
  (List.take
  l.length
  (List.drop
  (0 : Nat)
  l))).it.length :
  Int) +
  (1 : Int) *
  (↑(playS f
  (List.take
  l.length
  (List.drop
  (0 : Nat)
  l))).ha.length :
  Int) +
  (3 : Int) *
  (↑(playS f
  (List.take l.length
  (List.drop
  (0 : Nat)
  l))).w.length :
  Int))
  (playS f
  (List.take l.length
  (List.drop (0 : Nat)
  l))).a.length ++
  List.drop
  ((0 : Nat) +
  (playS f
  (List.take l.length
  (List.drop (0 : Nat)
  l))).a.length)
  (playS f
  (List.take l.length
  (List.drop (0 : Nat)
  l))).a))).length :
  Int) +
  (1 : Int) *
  (↑(List.take
  (playT f
  (List.take l.length
  (List.drop (0 : Nat) l))).length
  (List.drop (0 : Nat)
  (nilT Cd.bool.den ++
  marks markBool1 (1 : Int)
  ((1 : Int) +
  (1 : Int) *
  (↑(playS f
  (List.take
  l.length
  (List.drop
  (0 : Nat)
  l))).it.length :
  Int) +
  (1 : Int) *
  (↑(playS f
  (List.take
  l.length
  (List.drop
  (0 : Nat)
  l))).ha.length :
  Int) +
  (3 : Int) *
  (↑(playS f
  (List.take l.length
  (List.drop
  (0 : Nat)
  l))).w.length :
  Int) +
  (2 : Int) *
  (↑(playS f
  (List.take l.length
  (List.drop (0 : Nat)
  l))).a.length :
  Int))
  (playT f
  (List.take l.length
  (List.drop (0 : Nat)
  l))).length ++
  List.drop
  ((0 : Nat) +
  (playT f
  (List.take l.length
  (List.drop (0 : Nat)
  l))).length)
  (playT f
  (List.take l.length
  (List.drop (0 : Nat)
  l)))))).length :
  Int) !=
  (1 : Int) +
  (1 : Int) *
  (↑(playS f
  (List.take l.length
  (List.drop (0 : Nat)
  l))).it.length :
  Int) +
  (1 : Int) *
  (↑(playS f
  (List.take l.length
  (List.drop (0 : Nat)
  l))).ha.length :
  Int) +
  (3 : Int) *
  (↑(playS f
  (List.take l.length
  (List.drop (0 : Nat) l))).w.length :
  Int) +
  (2 : Int) *
  (↑(playS f
  (List.take l.length
  (List.drop (0 : Nat) l))).a.length :
  Int) +
  (1 : Int) *
  (↑(playT f
  (List.take l.length
  (List.drop (0 : Nat) l))).length :
  Int))
  (some (V.b false, [])) (some (V.b true, [])))
  (some (V.b false, []))))
  (some (V.b false, [])))))))))
  (some (V.b false, []))))
  (some (V.b false, []))))))))))))))))))))) : _) := by kernel_rfl
  rw [e]
  clear e
  by_cases hf0 : (↑f.length : Int) > 1048576
  · simp [hf0]
  rw [ifB_false (decide_eq_false hf0), ifT_true (decide_eq_true ⟨by omega, by unfold lim; omega, hl⟩)]
  by_cases q : ((1048576 : Int) - (↑l.length : Int) - szSesStepsW l) < 0
  · simp [q]
  have w1 := szSesStepsW_nonneg l
  have l1 : l.length ≤ 1000000000 := by omega
  have hlim : lim = 1000000000000 := rfl
  have hS : (playS f l).it.length ≤ 1 + l.length ∧ (playS f l).ha.length ≤ 1 + l.length ∧ (playS f l).w.length ≤ 1 + l.length ∧ (playS f l).a.length ≤ 1 + l.length := by
    unfold playS
    split
    · have hi : (Ses.mk 1 [f] 0 [] [] []).inv 1 := ⟨by simp, by simp, by simp, by simp, by simp, by simp, by simp⟩
      obtain ⟨-, -, -, i4, i5, i6, i7⟩ := Ses.play_inv l hi
      exact ⟨i4, i5, i6, i7⟩
    · simp
  have hT : (playT f l).length ≤ l.length := by
    unfold playT
    split
    · rw [Ses.tell_len]; exact Nat.le_refl _
    · simp
  simp only [List.drop_zero, List.take_length, List.take_zero, List.nil_append, Nat.zero_add, List.drop_length, List.append_nil]
  generalize playS f l = t at *
  generalize playT f l = bs at *
  have e6 : ∀ (k : Int) (n : Nat), List.take n (marks markStr1 1 k n) = marks markStr1 1 k n := fun k n => List.take_of_length_le (by rw [marks_length]; exact Nat.le_refl _)
  have e7 : ∀ (k : Int) (n : Nat), List.take n (marks markPacket1 3 k n) = marks markPacket1 3 k n := fun k n => List.take_of_length_le (by rw [marks_length]; exact Nat.le_refl _)
  have e8 : ∀ (k : Int) (n : Nat), List.take n (marks markAck1 2 k n) = marks markAck1 2 k n := fun k n => List.take_of_length_le (by rw [marks_length]; exact Nat.le_refl _)
  have e9 : ∀ (k : Int) (n : Nat), List.take n (marks markBool1 1 k n) = marks markBool1 1 k n := fun k n => List.take_of_length_le (by rw [marks_length]; exact Nat.le_refl _)
  simp only [e6, e7, e8, e9, marks_length]
  simp [q, l1]
  rw [hlim]
  omega
theorem law_loops : LoopsOk Try.prog (look [(35, .rd1 szSesStepsG), (36, .rd1 playG), (37, .rd1 toSesStepsG), (38, .rd1 playG), (14, .rd1 eqSessionG), (31, .rd1 eqBoolsG), (39, .rd1 eqSesStepsG), (40, .own markSesStepG), (15, .own markSessionG), (32, .own markBoolG), (41, .rd1 heldSessionG), (42, .rd1 heldBoolG)]) (look []) 0 (Try.f7.body.getD .skip) := loopsOk_nil _
end Go.Proofs.Ytpoepgnhdhpkjaa.Den
