/- What functions of the program do, by the machine: LSes. -/
import Derived.Test.YtjghbihlgfjebaaDFine2
import Derived.KernelRfl
import Derived.Test.YtjghbihlgfjebaaRows
namespace Go.Proofs.Ytjghbihlgfjebaa.Den
open Go.Proofs
set_option maxRecDepth 100000
theorem u8_range {n : Int} (h : (Lit.int .u8 n).wf = true) : 0 ≤ n ∧ n ≤ 255 := by
  simp only [Lit.wf, Bool.and_eq_true, decide_eq_true_eq] at h
  exact h
theorem dplF_len (l : List Int) : (dplF l).length ≤ 20 := by
  unfold dplF
  generalize ((Cur.mk l 0 0).pickV 3).toNat = k
  match k with
  | 0 => decide
  | 1 => decide
  | 2 => decide
  | k + 3 => simp
theorem start_fine {f : List UInt8} (h : f.length ≤ 20) : (Ses.mk 1 [f] 0 [] [] []).fine := by
  refine ⟨by simp, ⟨by simp, by simpa using h⟩, by simp, by simp, by simp, by simp⟩
theorem law_knows : Knows Try.prog (look [(25, .rd1 drawPlayG), (26, .rd1 playG), (27, .rd1 playG), (28, .rd1 sameBoolsG), (29, .rd1 sameSesG), (30, .rd1 implGoodG), (24, .rd1 sameTextsG), (31, .rd1 implPendG), (12, .rd1 calmG)]) := KnowsL.knows (KnowsL.cons (enters_fn Try.func25 (by kernel_rfl) (by kernel_rfl)) drawPlay (KnowsL.cons (enters_fn Try.func26 (by kernel_rfl) (by kernel_rfl)) implPlay (KnowsL.cons (enters_fn Try.func27 (by kernel_rfl) (by kernel_rfl)) specPlay (KnowsL.cons (enters_fn Try.func28 (by kernel_rfl) (by kernel_rfl)) sameBools (KnowsL.cons (enters_fn Try.func29 (by kernel_rfl) (by kernel_rfl)) sameSes (KnowsL.cons (enters_fn Try.func30 (by kernel_rfl) (by kernel_rfl)) implGood (KnowsL.cons (enters_fn Try.func24 (by kernel_rfl) (by kernel_rfl)) sameTexts (KnowsL.cons (enters_fn Try.func31 (by kernel_rfl) (by kernel_rfl)) implPend (KnowsL.cons (enters_fn Try.func12 (by kernel_rfl) (by kernel_rfl)) implCalm KnowsL.nil)))))))))
theorem law_fun (l : List Int) (hb : ∀ z ∈ l, 0 ≤ z ∧ z ≤ 255) : funK Try.prog (look [(25, .rd1 drawPlayG), (26, .rd1 playG), (27, .rd1 playG), (28, .rd1 sameBoolsG), (29, .rd1 sameSesG), (30, .rd1 implGoodG), (24, .rd1 sameTextsG), (31, .rd1 implPendG), (12, .rd1 calmG)]) (look []) Try.f5 [.sl (.int .u8) l] [] = some (.b true, []) := by
  have e : funK Try.prog (look [(25, .rd1 drawPlayG), (26, .rd1 playG), (27, .rd1 playG), (28, .rd1 sameBoolsG), (29, .rd1 sameSesG), (30, .rd1 implGoodG), (24, .rd1 sameTextsG), (31, .rd1 implPendG), (12, .rd1 calmG)]) (look []) Try.f5 [.sl (.int .u8) l] [] = ((ifB (decide ((↑l.length : Int) > (1048576 : Int))) (some (V.b true, []))
  (ifT (decide ((Cur.mk l (0 : Int) (0 : Int)).good (0 : Int)))
  (ifB
  (!decide
  ((dplF l).length ≤ (20 : Nat) ∧
  (List.take (dplL l).length (List.drop (0 : Nat) (dplL l))).length ≤ (200 : Nat)) ==
  decide
  ((dplF l).length ≤ (20 : Nat) ∧
  (List.take (dplL l).length (List.drop (0 : Nat) (dplL l))).length ≤ (200 : Nat)))
  (some (V.b false, []))
  (ifB
  (!decide
  (List.take (playT (dplF l) (List.take (dplL l).length (List.drop (0 : Nat) (dplL l)))).length
  (List.drop (0 : Nat) (playT (dplF l) (List.take (dplL l).length (List.drop (0 : Nat) (dplL l))))) =
  List.take (playT (dplF l) (List.take (dplL l).length (List.drop (0 : Nat) (dplL l)))).length
  (List.drop (0 : Nat) (playT (dplF l) (List.take (dplL l).length (List.drop (0 : Nat) (dplL l)))))))
  (some (V.b false, []))
  (ifB
  (!decide
  ((playS (dplF l) (List.take (dplL l).length (List.drop (0 : Nat) (dplL l)))).e =
  (playS (dplF l) (List.take (dplL l).length (List.drop (0 : Nat) (dplL l)))).e ∧
  (playS (dplF l) (List.take (dplL l).length (List.drop (0 : Nat) (dplL l)))).b =
  (playS (dplF l) (List.take (dplL l).length (List.drop (0 : Nat) (dplL l)))).b ∧
  List.take (playS (dplF l) (List.take (dplL l).length (List.drop (0 : Nat) (dplL l)))).it.length
  (List.drop (0 : Nat)
  (playS (dplF l) (List.take (dplL l).length (List.drop (0 : Nat) (dplL l)))).it) =
  List.take (playS (dplF l) (List.take (dplL l).length (List.drop (0 : Nat) (dplL l)))).it.length
  (List.drop (0 : Nat)
  (playS (dplF l) (List.take (dplL l).length (List.drop (0 : Nat) (dplL l)))).it) ∧
  List.take (playS (dplF l) (List.take (dplL l).length (List.drop (0 : Nat) (dplL l)))).ha.length
  (List.drop (0 : Nat)
  (playS (dplF l) (List.take (dplL l).length (List.drop (0 : Nat) (dplL l)))).ha) =
  List.take (playS (dplF l) (List.take (dplL l).length (List.drop (0 : Nat) (dplL l)))).ha.length
  (List.drop (0 : Nat)
  (playS (dplF l) (List.take (dplL l).length (List.drop (0 : Nat) (dplL l)))).ha) ∧
  List.take (playS (dplF l) (List.take (dplL l).length (List.drop (0 : Nat) (dplL l)))).w.length
  (List.drop (0 : Nat)
  (playS (dplF l) (List.take (dplL l).length (List.drop (0 : Nat) (dplL l)))).w) =
  List.take (playS (dplF l) (List.take (dplL l).length (List.drop (0 : Nat) (dplL l)))).w.length
  (List.drop (0 : Nat)
  (playS (dplF l) (List.take (dplL l).length (List.drop (0 : Nat) (dplL l)))).w) ∧
  List.take (playS (dplF l) (List.take (dplL l).length (List.drop (0 : Nat) (dplL l)))).a.length
  (List.drop (0 : Nat)
  (playS (dplF l) (List.take (dplL l).length (List.drop (0 : Nat) (dplL l)))).a) =
  List.take (playS (dplF l) (List.take (dplL l).length (List.drop (0 : Nat) (dplL l)))).a.length
  (List.drop (0 : Nat)
  (playS (dplF l) (List.take (dplL l).length (List.drop (0 : Nat) (dplL l)))).a)))
  (some (V.b false, []))
  (ifB
  (!decide
  ((dplF l).length ≤ (20 : Nat) ∧
  (List.take (dplL l).length (List.drop (0 : Nat) (dplL l))).length ≤ (200 : Nat)))
  (some
  (V.b
  ((↑(playT (dplF l) (List.take (dplL l).length (List.drop (0 : Nat) (dplL l)))).length : Int) ==
  (0 : Int)),
  []))
  (ifB
  (!goodS (playS (dplF l) (List.take (dplL l).length (List.drop (0 : Nat) (dplL l)))).e
  (List.take (playS (dplF l) (List.take (dplL l).length (List.drop (0 : Nat) (dplL l)))).it.length
  (List.drop (0 : Nat)
  (playS (dplF l) (List.take (dplL l).length (List.drop (0 : Nat) (dplL l)))).it))
  (playS (dplF l) (List.take (dplL l).length (List.drop (0 : Nat) (dplL l)))).b
  (List.take (playS (dplF l) (List.take (dplL l).length (List.drop (0 : Nat) (dplL l)))).ha.length
  (List.drop (0 : Nat)
  (playS (dplF l) (List.take (dplL l).length (List.drop (0 : Nat) (dplL l)))).ha))
  (List.take (playS (dplF l) (List.take (dplL l).length (List.drop (0 : Nat) (dplL l)))).w.length
  (List.drop (0 : Nat) (playS (dplF l) (List.take (dplL l).length (List.drop (0 : Nat) (dplL l)))).w))
  (List.take (playS (dplF l) (List.take (dplL l).length (List.drop (0 : Nat) (dplL l)))).a.length
  (List.drop (0 : Nat)
  (playS (dplF l) (List.take (dplL l).length (List.drop (0 : Nat) (dplL l)))).a)))
  (some (V.b false, []))
  (ifB
  (decide
  ((↑(playS (dplF l) (List.take (dplL l).length (List.drop (0 : Nat) (dplL l)))).ha.length : Int) >
  (↑(playS (dplF l) (List.take (dplL l).length (List.drop (0 : Nat) (dplL l)))).it.length : Int)))
  (some (V.b false, []))
  (ifT
  (decide
  ((0 : Int) ≤
  (↑(playS (dplF l) (List.take (dplL l).length (List.drop (0 : Nat) (dplL l)))).ha.length :
  Int)) &&
  decide
  ((↑(playS (dplF l) (List.take (dplL l).length (List.drop (0 : Nat) (dplL l)))).ha.length : Int) ≤
  (↑((playS (dplF l) (List.take (dplL l).length (List.drop (0 : Nat) (dplL l)))).it.length -
  (0 : Nat)) :
  Int)))
  (ifB
  (!decide
  (List.take (playS (dplF l) (List.take (dplL l).length (List.drop (0 : Nat) (dplL l)))).ha.length
  (List.drop (0 : Nat)
  (playS (dplF l) (List.take (dplL l).length (List.drop (0 : Nat) (dplL l)))).ha) =
  List.take
  ((↑(playS (dplF l) (List.take (dplL l).length (List.drop (0 : Nat) (dplL l)))).ha.length :
  Int).toNat -
  (0 : Nat))
  (List.drop (0 : Nat)
  (playS (dplF l) (List.take (dplL l).length (List.drop (0 : Nat) (dplL l)))).it)))
  (some (V.b false, []))
  (ifB
  (decide
  ((playS (dplF l) (List.take (dplL l).length (List.drop (0 : Nat) (dplL l)))).b >
  (↑(playS (dplF l) (List.take (dplL l).length (List.drop (0 : Nat) (dplL l)))).ha.length :
  Int)))
  (some (V.b false, []))
  (ifT
  (decide
  ((↑(List.take
  (playS (dplF l)
  (List.take (dplL l).length (List.drop (0 : Nat) (dplL l)))).ha.length
  (List.drop (0 : Nat)
  (playS (dplF l)
  (List.take (dplL l).length (List.drop (0 : Nat) (dplL l)))).ha)).length :
  Int) ≤
  lim))
  (ifB
  (goodS (playS (dplF l) (List.take (dplL l).length (List.drop (0 : Nat) (dplL l)))).e
  (List.take
  (playS (dplF l) (List.take (dplL l).length (List.drop (0 : Nat) (dplL l)))).it.length
  (List.drop (0 : Nat)
  (playS (dplF l) (List.take (dplL l).length (List.drop (0 : Nat) (dplL l)))).it))
  (playS (dplF l) (List.take (dplL l).length (List.drop (0 : Nat) (dplL l)))).b
  (List.take
  (playS (dplF l) (List.take (dplL l).length (List.drop (0 : Nat) (dplL l)))).ha.length
  (List.drop (0 : Nat)
  (playS (dplF l) (List.take (dplL l).length (List.drop (0 : Nat) (dplL l)))).ha))
  (List.take
  (playS (dplF l) (List.take (dplL l).length (List.drop (0 : Nat) (dplL l)))).w.length
  (List.drop (0 : Nat)
  (playS (dplF l) (List.take (dplL l).length (List.drop (0 : Nat) (dplL l)))).w))
  (List.take
  (playS (dplF l) (List.take (dplL l).length (List.drop (0 : Nat) (dplL l)))).a.length
  (List.drop (0 : Nat)
  (playS (dplF l) (List.take (dplL l).length (List.drop (0 : Nat) (dplL l)))).a)))
  (ifT
  (decide
  ((0 : Int) ≤
  (↑(playS (dplF l)
  (List.take (dplL l).length (List.drop (0 : Nat) (dplL l)))).ha.length :
  Int)) &&
  decide
  ((↑(playS (dplF l)
  (List.take (dplL l).length (List.drop (0 : Nat) (dplL l)))).ha.length :
  Int) ≤
  (↑(playS (dplF l)
  (List.take (dplL l).length (List.drop (0 : Nat) (dplL l)))).it.length :
  Int)))
  (ifB
  (!decide
  (List.take
  ((List.take
  (playS (dplF l)
  (List.take (dplL l).length (List.drop (0 : Nat) (dplL l)))).it.length
  (List.drop (0 : Nat)
  (playS (dplF l)
  (List.take (dplL l).length
  (List.drop (0 : Nat) (dplL l)))).it)).length -
  (List.take
  (playS (dplF l)
  (List.take (dplL l).length (List.drop (0 : Nat) (dplL l)))).ha.length
  (List.drop (0 : Nat)
  (playS (dplF l)
  (List.take (dplL l).length
  (List.drop (0 : Nat) (dplL l)))).ha)).length)
  (List.drop (0 : Nat)
  (List.drop
  (List.take
  (playS (dplF l)
  (List.take (dplL l).length
  (List.drop (0 : Nat) (dplL l)))).ha.length
  (List.drop (0 : Nat)
  (playS (dplF l)
  (List.take (dplL l).length
  (List.drop (0 : Nat) (dplL l)))).ha)).length
  (List.take
  (playS (dplF l)
  (List.take (dplL l).length (List.drop (0 : Nat) (dplL l)))).it.length
  (List.drop (0 : Nat)
  (playS (dplF l)
  (List.take (dplL l).length (List.drop (0 : Nat) (dplL l)))).it)))) =
  List.take
  ((playS (dplF l)
  (List.take (dplL l).length (List.drop (0 : Nat) (dplL l)))).it.length -
  (↑(playS (dplF l)
  (List.take (dplL l).length
  (List.drop (0 : Nat) (dplL l)))).ha.length :
  Int).toNat)
  (List.drop
  ((0 : Nat) +
  (↑(playS (dplF l)
  (List.take (dplL l).length
  (List.drop (0 : Nat) (dplL l)))).ha.length :
  Int).toNat)
  (playS (dplF l)
  (List.take (dplL l).length (List.drop (0 : Nat) (dplL l)))).it)))
  (some (V.b false, []))
  (ifT
  (decide
  ((↑(List.take
  (playS (dplF l)
  (List.take (dplL l).length (List.drop (0 : Nat) (dplL l)))).ha.length
  (List.drop (0 : Nat)
  (playS (dplF l)
  (List.take (dplL l).length
  (List.drop (0 : Nat) (dplL l)))).ha)).length :
  Int) ≤
  lim))
  (ifB
  (goodS (playS (dplF l) (List.take (dplL l).length (List.drop (0 : Nat) (dplL l)))).e
  (List.take
  (playS (dplF l)
  (List.take (dplL l).length (List.drop (0 : Nat) (dplL l)))).it.length
  (List.drop (0 : Nat)
  (playS (dplF l) (List.take (dplL l).length (List.drop (0 : Nat) (dplL l)))).it))
  (playS (dplF l) (List.take (dplL l).length (List.drop (0 : Nat) (dplL l)))).b
  (List.take
  (playS (dplF l)
  (List.take (dplL l).length (List.drop (0 : Nat) (dplL l)))).ha.length
  (List.drop (0 : Nat)
  (playS (dplF l) (List.take (dplL l).length (List.drop (0 : Nat) (dplL l)))).ha))
  (List.take
  (playS (dplF l)
  (List.take (dplL l).length (List.drop (0 : Nat) (dplL l)))).w.length
  (List.drop (0 : Nat)
  (playS (dplF l) (List.take (dplL l).length (List.drop (0 : Nat) (dplL l)))).w))
  (List.take
  (playS (dplF l)
  (List.take (dplL l).length (List.drop (0 : Nat) (dplL l)))).a.length
  (List.drop (0 : Nat)
  (playS (dplF l) (List.take (dplL l).length (List.drop (0 : Nat) (dplL l)))).a)))
  (ifB
  (decide
  (List.take
  (calmO
  (Ses.mk
  (playS (dplF l)
  (List.take (dplL l).length (List.drop (0 : Nat) (dplL l)))).e
  (List.take
  (playS (dplF l)
  (List.take (dplL l).length
  (List.drop (0 : Nat) (dplL l)))).it.length
  (List.drop (0 : Nat)
  (playS (dplF l)
  (List.take (dplL l).length
  (List.drop (0 : Nat) (dplL l)))).it))
  (playS (dplF l)
  (List.take (dplL l).length (List.drop (0 : Nat) (dplL l)))).b
  (List.take
  (playS (dplF l)
  (List.take (dplL l).length
  (List.drop (0 : Nat) (dplL l)))).ha.length
  (List.drop (0 : Nat)
  (playS (dplF l)
  (List.take (dplL l).length
  (List.drop (0 : Nat) (dplL l)))).ha))
  (List.take
  (playS (dplF l)
  (List.take (dplL l).length
  (List.drop (0 : Nat) (dplL l)))).w.length
  (List.drop (0 : Nat)
  (playS (dplF l)
  (List.take (dplL l).length
  (List.drop (0 : Nat) (dplL l)))).w))
  (List.take
  (playS (dplF l)
  (List.take (dplL l).length
  (List.drop (0 : Nat) (dplL l)))).a.length
  (List.drop (0 : Nat)
  (playS (dplF l)
  (List.take (dplL l).length
  (List.drop (0 : Nat) (dplL l)))).a)))).ha.length
  (List.drop (0 : Nat)
  (calmO
  (Ses.mk
  (playS (dplF l)
  (List.take (dplL l).length (List.drop (0 : Nat) (dplL l)))).e
  (List.take
  (playS (dplF l)
  (List.take (dplL l).length
  (List.drop (0 : Nat) (dplL l)))).it.length
  (List.drop (0 : Nat)
  (playS (dplF l)
  (List.take (dplL l).length
  (List.drop (0 : Nat) (dplL l)))).it))
  (playS (dplF l)
  (List.take (dplL l).length (List.drop (0 : Nat) (dplL l)))).b
  (List.take
  (playS (dplF l)
  (List.take (dplL l).length
  (List.drop (0 : Nat) (dplL l)))).ha.length
  (List.drop (0 : Nat)
  (playS (dplF l)
  (List.take (dplL l).length
  (List.drop (0 : Nat) (dplL l)))).ha))
  (List.take
  (playS (dplF l)
  (List.take (dplL l).length
  (List.drop (0 : Nat) (dplL l)))).w.length
  (List.drop (0 : Nat)
  (playS (dplF l)
  (List.take (dplL l).length
  (List.drop (0 : Nat) (dplL l)))).w))
  (List.take
  (playS (dplF l)
  (List.take (dplL l).length
  (List.drop (0 : Nat) (dplL l)))).a.length
  (List.drop (0 : Nat)
  (playS (dplF l)
  (List.take (dplL l).length
  (List.drop (0 : Nat) (dplL l)))).a)))).ha) =
  List.take
  (playS (dplF l)
  (List.take (dplL l).length (List.drop (0 : Nat) (dplL l)))).it.length
  (List.drop (0 : Nat)
  (playS (dplF l)
  (List.take (dplL l).length (List.drop (0 : Nat) (dplL l)))).it)))
  (ifB
  ((calmO
  (Ses.mk
  (playS (dplF l)
  (List.take (dplL l).length (List.drop (0 : Nat) (dplL l)))).e
  (List.take
  (playS (dplF l)
  (List.take (dplL l).length
  (List.drop (0 : Nat) (dplL l)))).it.length
  (List.drop (0 : Nat)
  (playS (dplF l)
  (List.take (dplL l).length (List.drop (0 : Nat) (dplL l)))).it))
  (playS (dplF l)
  (List.take (dplL l).length (List.drop (0 : Nat) (dplL l)))).b
  (List.take
  (playS (dplF l)
  (List.take (dplL l).length
  (List.drop (0 : Nat) (dplL l)))).ha.length
  (List.drop (0 : Nat)
  (playS (dplF l)
  (List.take (dplL l).length (List.drop (0 : Nat) (dplL l)))).ha))
  (List.take
  (playS (dplF l)
  (List.take (dplL l).length
  (List.drop (0 : Nat) (dplL l)))).w.length
  (List.drop (0 : Nat)
  (playS (dplF l)
  (List.take (dplL l).length (List.drop (0 : Nat) (dplL l)))).w))
  (List.take
  (playS (dplF l)
  (List.take (dplL l).length
  (List.drop (0 : Nat) (dplL l)))).a.length
  (List.drop (0 : Nat)
  (playS (dplF l)
  (List.take (dplL l).length
  (List.drop (0 : Nat) (dplL l)))).a)))).b ==
  (↑(playS (dplF l)
  (List.take (dplL l).length
  (List.drop (0 : Nat) (dplL l)))).it.length :
  Int))
  (ifB
  ((↑(calmO
  (Ses.mk
  (playS (dplF l)
  (List.take (dplL l).length (List.drop (0 : Nat) (dplL l)))).e
  (List.take
  (playS (dplF l)
  (List.take (dplL l).length
  (List.drop (0 : Nat) (dplL l)))).it.length
  (List.drop (0 : Nat)
  (playS (dplF l)
  (List.take (dplL l).length
  (List.drop (0 : Nat) (dplL l)))).it))
  (playS (dplF l)
  (List.take (dplL l).length (List.drop (0 : Nat) (dplL l)))).b
  (List.take
  (playS (dplF l)
  (List.take (dplL l).length
  (List.drop (0 : Nat) (dplL l)))).ha.length
  (List.drop (0 : Nat)
  (playS (dplF l)
  (List.take (dplL l).length
  (List.drop (0 : Nat) (dplL l)))).ha))
  (List.take
  (playS (dplF l)
  (List.take (dplL l).length
  (List.drop (0 : Nat) (dplL l)))).w.length
  (List.drop (0 : Nat)
  (playS (dplF l)
  (List.take (dplL l).length
  (List.drop (0 : Nat) (dplL l)))).w))
  (List.take
  (playS (dplF l)
  (List.take (dplL l).length
  (List.drop (0 : Nat) (dplL l)))).a.length
  (List.drop (0 : Nat)
  (playS (dplF l)
  (List.take (dplL l).length
  (List.drop (0 : Nat) (dplL l)))).a)))).w.length :
  Int) ==
  (0 : Int))
  (some
  (V.b
  ((↑(calmO
  (Ses.mk
  (playS (dplF l)
  (List.take (dplL l).length
  (List.drop (0 : Nat) (dplL l)))).e
  (List.take
  (playS (dplF l)
  (List.take (dplL l).length
  (List.drop (0 : Nat) (dplL l)))).it.length
  (List.drop (0 : Nat)
  (playS (dplF l)
  (List.take (dplL l).length
  (List.drop (0 : Nat) (dplL l)))).it))
  (playS (dplF l)
  (List.take (dplL l).length
  (List.drop (0 : Nat) (dplL l)))).b
  (List.take
  (playS (dplF l)
  (List.take (dplL l).length
  (List.drop (0 : Nat) (dplL l)))).ha.length
  (List.drop (0 : Nat)
  (playS (dplF l)
  (List.take (dplL l).length
  (List.drop (0 : Nat) (dplL l)))).ha))
  (List.take
  (playS (dplF l)
  (List.take (dplL l).length
  (List.drop (0 : Nat) (dplL l)))).w.length
  (List.drop (0 : Nat)
  (playS (dplF l)
  (List.take (dplL l).length
  (List.drop (0 : Nat) (dplL l)))).w))
  (List.take
  (playS (dplF l)
  (List.take (dplL l).length
  (List.drop (0 : Nat) (dplL l)))).a.length
  (List.drop (0 : Nat)
  (playS (dplF l)
  (List.take (dplL l).length
  (List.drop (0 : Nat) (dplL l)))).a)))).a.length :
  Int) ==
  (0 : Int)),
  []))
  (some (V.b false, [])))
  (some (V.b false, [])))
  (some (V.b false, [])))
  (some (V.b false, []))))))
  (some (V.b false, []))))))))))))))) : _) := by kernel_rfl
  rw [e]
  clear e
  by_cases h0 : (l.length : Int) > 1048576
  · simp [h0]
  have hc : (Cur.mk l 0 0).good 0 := ⟨hb, Int.le_refl _, Int.le_refl _⟩
  rw [ifB_false (decide_eq_false h0), ifT_true (decide_eq_true hc)]
  simp only [List.drop_zero, List.take_length]
  have hf : (dplF l).length ≤ 20 := dplF_len l
  generalize dplF l = f at *
  generalize dplL l = x at *
  by_cases hx : x.length ≤ 200
  · have h1 : f.length ≤ 20 ∧ x.length ≤ 200 := ⟨hf, hx⟩
    have hfine : (playS f x).fine := by
      unfold playS
      rw [if_pos h1]
      exact Ses.play_fine x (start_fine hf)
    have hg := Ses.fine_good hfine
    obtain ⟨k1, k2, k3, k4⟩ := Ses.calm_end hfine
    have ec : calmO (playS f x) = (playS f x).calm.run (playS f x).it.length := by
      unfold calmO; rw [hg]; rfl
    rw [← ec] at k1 k2 k3 k4
    obtain ⟨-, ⟨i1, -⟩, ⟨h2, h3⟩, ⟨b0, b1⟩, ⟨w1, -⟩, ⟨a1, -⟩⟩ := hfine
    generalize playS f x = s at *
    obtain ⟨s0, s1, s2, s3, s4, s5⟩ := s
    dsimp only at *
    have e1 : s1.length - s3.length = (s1.drop s3.length).length := by simp
    simp [h1, hg, h2, k1, k2, k3, k4]
    have hl : (↑s3.length : Int) ≤ lim := by unfold lim; omega
    rw [if_neg (by omega), if_pos h3, if_neg (by omega), if_pos hl, if_pos hl]
  · simp [playS, playT, hx]

theorem law_loops : LoopsOk Try.prog (look [(25, .rd1 drawPlayG), (26, .rd1 playG), (27, .rd1 playG), (28, .rd1 sameBoolsG), (29, .rd1 sameSesG), (30, .rd1 implGoodG), (24, .rd1 sameTextsG), (31, .rd1 implPendG), (12, .rd1 calmG)]) (look []) 0 (Try.f5.body.getD .skip) := loopsOk_nil _
end Go.Proofs.Ytjghbihlgfjebaa.Den
