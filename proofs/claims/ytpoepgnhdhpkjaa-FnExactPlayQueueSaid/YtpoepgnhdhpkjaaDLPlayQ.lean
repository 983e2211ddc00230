/- What functions of the program do, by the machine: LPlayQ. -/
import Derived.Test.YtpoepgnhdhpkjaaDToB
import Derived.KernelRfl
import Derived.Test.YtpoepgnhdhpkjaaRows
namespace Go.Proofs.Ytpoepgnhdhpkjaa.Den
open Go.Proofs
set_option maxRecDepth 100000
theorem marks_length {α : Type} (g : Int → α) (st : Int) : ∀ (k : Int) (n : Nat), (marks g st k n).length = n
  | _, 0 => rfl
  | k, n + 1 => by simp [marks, marks_length g st (k + st) n]
theorem playP_w (c r : Int) (l : List Bool) : List.take (Que.view (playP c r l).1).w.length (List.drop (playP c r l).1.2 (playP c r l).1.1.w) = (playO c r l).1.w ∧ (playP c r l).1.2 + (Que.view (playP c r l).1).w.length = (playP c r l).1.1.w.length ∧ (playP c r l).1.1.c = (playO c r l).1.c ∧ (playP c r l).1.1.r = (playO c r l).1.r ∧ (playP c r l).1.1.n = (playO c r l).1.n ∧ (playP c r l).1.1.h = (playO c r l).1.h ∧ (playP c r l).1.1.d = (playO c r l).1.d ∧ (playP c r l).2 = (playO c r l).2 ∧ (Que.view (playP c r l).1).w = (playO c r l).1.w := by
  unfold playP playO
  split
  · obtain ⟨h1, h2, h3⟩ := Que.view_play l (Que.mk c r 0 [] [] [], 0) (Nat.le_refl _)
    have hv : Que.view (Que.mk c r 0 [] [] [], 0) = Que.mk c r 0 [] [] [] := rfl
    rw [hv] at h1 h2
    dsimp only
    generalize Que.playR (Que.mk c r 0 [] [] [], 0) l = x at *
    rw [← h1, ← h2]
    unfold Que.view
    dsimp only
    refine ⟨List.take_of_length_le (Nat.le_refl _), by simp; omega, rfl, rfl, rfl, rfl, rfl, rfl, rfl⟩
  · exact ⟨rfl, rfl, rfl, rfl, rfl, rfl, rfl, rfl, rfl⟩
theorem playO_len (c r : Int) (l : List Bool) : (playO c r l).1.w.length ≤ 1000 ∧ (playO c r l).1.h.length ≤ 1000 ∧ (playO c r l).1.d.length ≤ 1000 ∧ (playO c r l).2.1.length ≤ 1000 := by
  unfold playO
  split
  · rename_i h
    have f := Que.fine (Que.play_good l (show (Que.mk c r 0 [] [] []).good = true from Que.new_good h.1))
    have f3 := f.n; have f5 := f.sum
    have := Que.play_len (Que.mk c r 0 [] [] []) l (Que.mk c r 0 [] [] [])
    dsimp only
    omega
  · decide
theorem law_knows : Knows Try.prog (look [(28, .rd1 toBoolsG), (27, .rd1 splayG), (29, .rd1 iplayG), (22, .rd1 eqQueueG), (30, .rd1 eqIntsG), (31, .rd1 eqBoolsG), (32, .own markBoolG), (23, .own markQueueG), (33, .own markIntG), (24, .rd1 heldQueueG), (34, .rd1 heldIntG)]) := KnowsL.knows (KnowsL.cons (enters_fn Try.func28 (by kernel_rfl) (by kernel_rfl)) toBools (KnowsL.cons (enters_fn Try.func27 (by kernel_rfl) (by kernel_rfl)) splay (KnowsL.cons (enters_fn Try.func29 (by kernel_rfl) (by kernel_rfl)) iplay (KnowsL.cons (enters_fn Try.func22 (by kernel_rfl) (by kernel_rfl)) eqQueue (KnowsL.cons (enters_fn Try.func30 (by kernel_rfl) (by kernel_rfl)) eqInts (KnowsL.cons (enters_fn Try.func31 (by kernel_rfl) (by kernel_rfl)) eqBools (KnowsL.cons (enters_fn Try.func32 (by kernel_rfl) (by kernel_rfl)) markBool (KnowsL.cons (enters_fn Try.func23 (by kernel_rfl) (by kernel_rfl)) markQueue (KnowsL.cons (enters_fn Try.func33 (by kernel_rfl) (by kernel_rfl)) markInt (KnowsL.cons (enters_fn Try.func24 (by kernel_rfl) (by kernel_rfl)) heldQueue (KnowsL.cons (enters_fn Try.func34 (by kernel_rfl) (by kernel_rfl)) heldInt KnowsL.nil)))))))))))
theorem law_fun (c r : Int) (l : List Bool) : funK Try.prog (look [(28, .rd1 toBoolsG), (27, .rd1 splayG), (29, .rd1 iplayG), (22, .rd1 eqQueueG), (30, .rd1 eqIntsG), (31, .rd1 eqBoolsG), (32, .own markBoolG), (23, .own markQueueG), (33, .own markIntG), (24, .rd1 heldQueueG), (34, .rd1 heldIntG)]) (look []) Try.f6 [.i .i64 c, .i .i64 r, .sl .bool l] [] = some (.b true, []) := by
  have e : funK Try.prog (look [(28, .rd1 toBoolsG), (27, .rd1 splayG), (29, .rd1 iplayG), (22, .rd1 eqQueueG), (30, .rd1 eqIntsG), (31, .rd1 eqBoolsG), (32, .own markBoolG), (23, .own markQueueG), (33, .own markIntG), (24, .rd1 heldQueueG), (34, .rd1 heldIntG)]) (look []) Try.f6 [.i .i64 c, .i .i64 r, .sl .bool l] [] = ((ifB (decide ((↑l.length : Int) > (1048576 : Int))) (some (V.b true, []))
  (ifT (decide (l.length ≤ (1000000000 : Nat)))
  (ifT (decide (l.length ≤ (1000000000 : Nat)))
  (ifB
  (!decide
  ((playP c r (List.take l.length (List.drop (0 : Nat) l))).fst.fst.c =
  (playO c r (List.take l.length (List.drop (0 : Nat) l))).fst.c ∧
  (playP c r (List.take l.length (List.drop (0 : Nat) l))).fst.fst.r =
  (playO c r (List.take l.length (List.drop (0 : Nat) l))).fst.r ∧
  (playP c r (List.take l.length (List.drop (0 : Nat) l))).fst.fst.n =
  (playO c r (List.take l.length (List.drop (0 : Nat) l))).fst.n ∧
  List.take (Que.view (playP c r (List.take l.length (List.drop (0 : Nat) l))).fst).w.length
  (List.drop (playP c r (List.take l.length (List.drop (0 : Nat) l))).fst.snd
  (playP c r (List.take l.length (List.drop (0 : Nat) l))).fst.fst.w) =
  List.take (playO c r (List.take l.length (List.drop (0 : Nat) l))).fst.w.length
  (List.drop (0 : Nat) (playO c r (List.take l.length (List.drop (0 : Nat) l))).fst.w) ∧
  List.take (playP c r (List.take l.length (List.drop (0 : Nat) l))).fst.fst.h.length
  (List.drop (0 : Nat) (playP c r (List.take l.length (List.drop (0 : Nat) l))).fst.fst.h) =
  List.take (playO c r (List.take l.length (List.drop (0 : Nat) l))).fst.h.length
  (List.drop (0 : Nat) (playO c r (List.take l.length (List.drop (0 : Nat) l))).fst.h) ∧
  List.take (playP c r (List.take l.length (List.drop (0 : Nat) l))).fst.fst.d.length
  (List.drop (0 : Nat) (playP c r (List.take l.length (List.drop (0 : Nat) l))).fst.fst.d) =
  List.take (playO c r (List.take l.length (List.drop (0 : Nat) l))).fst.d.length
  (List.drop (0 : Nat) (playO c r (List.take l.length (List.drop (0 : Nat) l))).fst.d)))
  (some (V.b false, []))
  (ifB
  (!decide
  (List.take (playP c r (List.take l.length (List.drop (0 : Nat) l))).snd.fst.length
  (List.drop (0 : Nat) (playP c r (List.take l.length (List.drop (0 : Nat) l))).snd.fst) =
  List.take (playO c r (List.take l.length (List.drop (0 : Nat) l))).snd.fst.length
  (List.drop (0 : Nat) (playO c r (List.take l.length (List.drop (0 : Nat) l))).snd.fst)))
  (some (V.b false, []))
  (ifB
  (!(playP c r (List.take l.length (List.drop (0 : Nat) l))).snd.snd ==
  (playO c r (List.take l.length (List.drop (0 : Nat) l))).snd.snd)
  (some (V.b false, []))
  (ifT (decide (l.length ≤ (1000000000 : Nat)))
  (ifB (!decide (List.take l.length (List.drop (0 : Nat) l) = List.take l.length (List.drop (0 : Nat) l)))
  (some (V.b false, []))
  (ifT
  (decide
  ((0 : Nat) + l.length ≤ l.length ∧
  (0 : Int) ≤ (1 : Int) ∧ (1 : Int) + (1 : Int) * (↑l.length : Int) ≤ lim))
  (ifB
  (!decide
  ((playP c r (List.take l.length (List.drop (0 : Nat) l))).fst.fst.c =
  (playO c r (List.take l.length (List.drop (0 : Nat) l))).fst.c ∧
  (playP c r (List.take l.length (List.drop (0 : Nat) l))).fst.fst.r =
  (playO c r (List.take l.length (List.drop (0 : Nat) l))).fst.r ∧
  (playP c r (List.take l.length (List.drop (0 : Nat) l))).fst.fst.n =
  (playO c r (List.take l.length (List.drop (0 : Nat) l))).fst.n ∧
  List.take (Que.view (playP c r (List.take l.length (List.drop (0 : Nat) l))).fst).w.length
  (List.drop (playP c r (List.take l.length (List.drop (0 : Nat) l))).fst.snd
  (playP c r (List.take l.length (List.drop (0 : Nat) l))).fst.fst.w) =
  List.take (playO c r (List.take l.length (List.drop (0 : Nat) l))).fst.w.length
  (List.drop (0 : Nat)
  (playO c r (List.take l.length (List.drop (0 : Nat) l))).fst.w) ∧
  List.take (playP c r (List.take l.length (List.drop (0 : Nat) l))).fst.fst.h.length
  (List.drop (0 : Nat)
  (playP c r (List.take l.length (List.drop (0 : Nat) l))).fst.fst.h) =
  List.take (playO c r (List.take l.length (List.drop (0 : Nat) l))).fst.h.length
  (List.drop (0 : Nat)
  (playO c r (List.take l.length (List.drop (0 : Nat) l))).fst.h) ∧
  List.take (playP c r (List.take l.length (List.drop (0 : Nat) l))).fst.fst.d.length
  (List.drop (0 : Nat)
  (playP c r (List.take l.length (List.drop (0 : Nat) l))).fst.fst.d) =
  List.take (playO c r (List.take l.length (List.drop (0 : Nat) l))).fst.d.length
  (List.drop (0 : Nat)
  (playO c r (List.take l.length (List.drop (0 : Nat) l))).fst.d)))
  (some (V.b false, []))
  (ifB
  (!decide
  (List.take (playP c r (List.take l.length (List.drop (0 : Nat) l))).snd.fst.length
  (List.drop (0 : Nat) (playP c r (List.take l.length (List.drop (0 : Nat) l))).snd.fst) =
  List.take (playO c r (List.take l.length (List.drop (0 : Nat) l))).snd.fst.length
  (List.drop (0 : Nat) (playO c r (List.take l.length (List.drop (0 : Nat) l))).snd.fst)))
  (some (V.b false, []))
  (ifB
  (!(playP c r (List.take l.length (List.drop (0 : Nat) l))).snd.snd ==
  (playO c r (List.take l.length (List.drop (0 : Nat) l))).snd.snd)
  (some (V.b false, []))
  (ifT
  (decide
  ((playP c r (List.take l.length (List.drop (0 : Nat) l))).fst.snd +
  (Que.view (playP c r (List.take l.length (List.drop (0 : Nat) l))).fst).w.length ≤
  (playP c r (List.take l.length (List.drop (0 : Nat) l))).fst.fst.w.length ∧
  (0 : Nat) + (playP c r (List.take l.length (List.drop (0 : Nat) l))).fst.fst.h.length ≤
  (playP c r (List.take l.length (List.drop (0 : Nat) l))).fst.fst.h.length ∧
  (0 : Nat) + (playP c r (List.take l.length (List.drop (0 : Nat) l))).fst.fst.d.length ≤
  (playP c r (List.take l.length (List.drop (0 : Nat) l))).fst.fst.d.length ∧
  (0 : Int) ≤ (1 : Int) ∧
  (1 : Int) +
  (1 : Int) *
  (↑(Que.view
  (playP c r
  (List.take l.length
  (List.drop (0 : Nat) l))).fst).w.length :
  Int) +
  (1 : Int) *
  (↑(playP c r
  (List.take l.length
  (List.drop (0 : Nat) l))).fst.fst.h.length :
  Int) +
  (1 : Int) *
  (↑(playP c r (List.take l.length (List.drop (0 : Nat) l))).fst.fst.d.length :
  Int) ≤
  lim))
  (ifT
  (decide
  ((0 : Nat) + (playP c r (List.take l.length (List.drop (0 : Nat) l))).snd.fst.length ≤
  (playP c r (List.take l.length (List.drop (0 : Nat) l))).snd.fst.length ∧
  (0 : Int) ≤
  (1 : Int) +
  (1 : Int) *
  (↑(Que.view
  (playP c r
  (List.take l.length (List.drop (0 : Nat) l))).fst).w.length :
  Int) +
  (1 : Int) *
  (↑(playP c r (List.take l.length (List.drop (0 : Nat) l))).fst.fst.h.length :
  Int) +
  (1 : Int) *
  (↑(playP c r (List.take l.length (List.drop (0 : Nat) l))).fst.fst.d.length :
  Int) ∧
  (1 : Int) +
  (1 : Int) *
  (↑(Que.view
  (playP c r
  (List.take l.length
  (List.drop (0 : Nat) l))).fst).w.length :
  Int) +
  (1 : Int) *
  (↑(playP c r
  (List.take l.length
  (List.drop (0 : Nat) l))).fst.fst.h.length :
  Int) +
  (1 : Int) *
  (↑(playP c r (List.take l.length (List.drop (0 : Nat) l))).fst.fst.d.length :
  Int) +
  (1 : Int) *
  (↑(playP c r (List.take l.length (List.drop (0 : Nat) l))).snd.fst.length :
  Int) ≤
  lim))
  (ifT
  (decide
  ((0 : Int) ≤ (1 : Int) ∧
  (1 : Int) +
  (1 : Int) *
  (↑(List.take
  (Que.view
  (playP c r
  (List.take l.length
  (List.drop (0 : Nat) l))).fst).w.length
  (List.drop
  (playP c r (List.take l.length (List.drop (0 : Nat) l))).fst.snd
  (List.take
  (playP c r
  (List.take l.length (List.drop (0 : Nat) l))).fst.snd
  (playP c r
  (List.take l.length
  (List.drop (0 : Nat) l))).fst.fst.w ++
  marks markInt1 (1 : Int) (1 : Int)
  (Que.view
  (playP c r
  (List.take l.length
  (List.drop (0 : Nat) l))).fst).w.length ++
  List.drop
  ((playP c r
  (List.take l.length
  (List.drop (0 : Nat) l))).fst.snd +
  (Que.view
  (playP c r
  (List.take l.length
  (List.drop (0 : Nat) l))).fst).w.length)
  (playP c r
  (List.take l.length
  (List.drop (0 : Nat) l))).fst.fst.w))).length :
  Int) +
  (1 : Int) *
  (↑(List.take
  (playP c r
  (List.take l.length
  (List.drop (0 : Nat) l))).fst.fst.h.length
  (List.drop (0 : Nat)
  (nilT (Cd.int IntKind.i64).den ++
  marks markInt1 (1 : Int)
  ((1 : Int) +
  (1 : Int) *
  (↑(Que.view
  (playP c r
  (List.take l.length
  (List.drop (0 : Nat) l))).fst).w.length :
  Int))
  (playP c r
  (List.take l.length
  (List.drop (0 : Nat) l))).fst.fst.h.length ++
  List.drop
  ((0 : Nat) +
  (playP c r
  (List.take l.length
  (List.drop (0 : Nat) l))).fst.fst.h.length)
  (playP c r
  (List.take l.length
  (List.drop (0 : Nat) l))).fst.fst.h))).length :
  Int) +
  (1 : Int) *
  (↑(List.take
  (playP c r
  (List.take l.length (List.drop (0 : Nat) l))).fst.fst.d.length
  (List.drop (0 : Nat)
  (nilT (Cd.int IntKind.i64).den ++
  marks markInt1 (1 : Int)
  ((1 : Int) +
  (1 : Int) *
  (↑(Que.view
  (playP c r
  (List.take l.length
  (List.drop (0 : Nat) l))).fst).w.length :
  Int) +
  (1 : Int) *
  (↑(playP c r
  (List.take l.length
  (List.drop (0 : Nat) l))).fst.fst.h.length :
  Int))
  (playP c r
  (List.take l.length
  (List.drop (0 : Nat) l))).fst.fst.d.length ++
  List.drop
  ((0 : Nat) +
  (playP c r
  (List.take l.length
  (List.drop (0 : Nat) l))).fst.fst.d.length)
  (playP c r
  (List.take l.length
  (List.drop (0 : Nat) l))).fst.fst.d))).length :
  Int) ≤
  lim))
  (ifB
  (decide
  (List.take
  (Que.view (playP c r (List.take l.length (List.drop (0 : Nat) l))).fst).w.length
  (List.drop (playP c r (List.take l.length (List.drop (0 : Nat) l))).fst.snd
  (List.take (playP c r (List.take l.length (List.drop (0 : Nat) l))).fst.snd
  (playP c r (List.take l.length (List.drop (0 : Nat) l))).fst.fst.w ++
  marks markInt1 (1 : Int) (1 : Int)
  (Que.view
  (playP c r
  (List.take l.length (List.drop (0 : Nat) l))).fst).w.length ++
  List.drop
  ((playP c r (List.take l.length (List.drop (0 : Nat) l))).fst.snd +
  (Que.view
  (playP c r
  (List.take l.length (List.drop (0 : Nat) l))).fst).w.length)
  (playP c r (List.take l.length (List.drop (0 : Nat) l))).fst.fst.w)) =
  marks markInt1 (1 : Int) (1 : Int)
  (List.take
  (Que.view
  (playP c r (List.take l.length (List.drop (0 : Nat) l))).fst).w.length
  (List.drop (playP c r (List.take l.length (List.drop (0 : Nat) l))).fst.snd
  (List.take
  (playP c r (List.take l.length (List.drop (0 : Nat) l))).fst.snd
  (playP c r
  (List.take l.length (List.drop (0 : Nat) l))).fst.fst.w ++
  marks markInt1 (1 : Int) (1 : Int)
  (Que.view
  (playP c r
  (List.take l.length
  (List.drop (0 : Nat) l))).fst).w.length ++
  List.drop
  ((playP c r (List.take l.length (List.drop (0 : Nat) l))).fst.snd +
  (Que.view
  (playP c r
  (List.take l.length
  (List.drop (0 : Nat) l))).fst).w.length)
  (playP c r
  (List.take l.length
  (List.drop (0 : Nat) l))).fst.fst.w))).length ∧
  List.take (playP c r (List.take l.length (List.drop (0 : Nat) l))).fst.fst.h.length
  (List.drop (0 : Nat)
  (nilT (Cd.int IntKind.i64).den ++
  marks markInt1 (1 : Int)
  ((1 : Int) +
  (1 : Int) *
  (↑(Que.view
  (playP c r
  (List.take l.length
  (List.drop (0 : Nat) l))).fst).w.length :
  Int))
  (playP c r
  (List.take l.length
  (List.drop (0 : Nat) l))).fst.fst.h.length ++
  List.drop
  ((0 : Nat) +
  (playP c r
  (List.take l.length
  (List.drop (0 : Nat) l))).fst.fst.h.length)
  (playP c r (List.take l.length (List.drop (0 : Nat) l))).fst.fst.h)) =
  marks markInt1 (1 : Int)
  ((1 : Int) +
  (1 : Int) *
  (↑(List.take
  (Que.view
  (playP c r
  (List.take l.length
  (List.drop (0 : Nat) l))).fst).w.length
  (List.drop
  (playP c r (List.take l.length (List.drop (0 : Nat) l))).fst.snd
  (List.take
  (playP c r
  (List.take l.length
  (List.drop (0 : Nat) l))).fst.snd
  (playP c r
  (List.take l.length
  (List.drop (0 : Nat) l))).fst.fst.w ++
  marks markInt1 (1 : Int) (1 : Int)
  (Que.view
  (playP c r
  (List.take l.length
  (List.drop (0 : Nat) l))).fst).w.length ++
  List.drop
  ((playP c r
  (List.take l.length
  (List.drop (0 : Nat) l))).fst.snd +
  (Que.view
  (playP c r
  (List.take l.length
  (List.drop (0 : Nat) l))).fst).w.length)
  (playP c r
  (List.take l.length
  (List.drop (0 : Nat) l))).fst.fst.w))).length :
  Int))
  (List.take
  (playP c r (List.take l.length (List.drop (0 : Nat) l))).fst.fst.h.length
  (List.drop (0 : Nat)
  (nilT (Cd.int IntKind.i64).den ++
  marks markInt1 (1 : Int)
  ((1 : Int) +
  (1 : Int) *
  (↑(Que.view
  (playP c r
  (List.take l.length
  (List.drop (0 : Nat) l))).fst).w.length :
  Int))
  (playP c r
  (List.take l.length
  (List.drop (0 : Nat) l))).fst.fst.h.length ++
  List.drop
  ((0 : Nat) +
  (playP c r
  (List.take l.length
  (List.drop (0 : Nat) l))).fst.fst.h.length)
  (playP c r
  (List.take l.length
  (List.drop (0 : Nat) l))).fst.fst.h))).length ∧
  List.take
  (playP c r (List.take l.length (List.drop (0 : Nat) l))).fst.fst.d.length
  (List.drop (0 : Nat)
  (nilT (Cd.int IntKind.i64).den ++
  marks markInt1 (1 : Int)
  ((1 : Int) +
  (1 : Int) *
  (↑(Que.view
  (playP c r
  (List.take l.length
  (List.drop (0 : Nat) l))).fst).w.length :
  Int) +
  (1 : Int) *
  (↑(playP c r
  (List.take l.length
  (List.drop (0 : Nat) l))).fst.fst.h.length :
  Int))
  (playP c r
  (List.take l.length
  (List.drop (0 : Nat) l))).fst.fst.d.length ++
  List.drop
  ((0 : Nat) +
  (playP c r
  (List.take l.length
  (List.drop (0 : Nat) l))).fst.fst.d.length)
  (playP c r (List.take l.length (List.drop (0 : Nat) l))).fst.fst.d)) =
  marks markInt1 (1 : Int)
  ((1 : Int) +
  (1 : Int) *
  (↑(List.take
  (Que.view
  (playP c r
  (List.take l.length
  (List.drop (0 : Nat) l))).fst).w.length
  (List.drop
  (playP c r
  (List.take l.length (List.drop (0 : Nat) l))).fst.snd
  (List.take
  (playP c r
  (List.take l.length
  (List.drop (0 : Nat) l))).fst.snd
  (playP c r
  (List.take l.length
  (List.drop (0 : Nat) l))).fst.fst.w ++
  marks markInt1 (1 : Int) (1 : Int)
  (Que.view
  (playP c r
  (List.take l.length
  (List.drop (0 : Nat) l))).fst).w.length ++
  List.drop
  ((playP c r
  (List.take l.length
  (List.drop (0 : Nat) l))).fst.snd +
  (Que.view
  (playP c r
  (List.take l.length
  (List.drop (0 : Nat) l))).fst).w.length)
  (playP c r
  (List.take l.length
  (List.drop (0 : Nat) l))).fst.fst.w))).length :
  Int) +
  (1 : Int) *
  (↑(List.take
  (playP c r
  (List.take l.length
  (List.drop (0 : Nat) l))).fst.fst.h.length
  (List.drop (0 : Nat)
  (nilT (Cd.int IntKind.i64).den ++
  marks markInt1 (1 : Int)
  ((1 : Int) +
  (1 : Int) *
  (↑(Que.view
  (playP c r
  (List.take l.length
  (List.drop (0 : Nat)
  l))).fst).w.length :
  Int))
  (playP c r
  (List.take l.length
  (List.drop (0 : Nat) l))).fst.fst.h.length ++
  List.drop
  ((0 : Nat) +
  (playP c r
  (List.take l.length
  (List.drop (0 : Nat) l))).fst.fst.h.length)
  (playP c r
  (List.take l.length
  (List.drop (0 : Nat) l))).fst.fst.h))).length :
  Int))
  (List.take
  (playP c r (List.take l.length (List.drop (0 : Nat) l))).fst.fst.d.length
  (List.drop (0 : Nat)
  (nilT (Cd.int IntKind.i64).den ++
  marks markInt1 (1 : Int)
  ((1 : Int) +
  (1 : Int) *
  (↑(Que.view
  (playP c r
  (List.take l.length
  (List.drop (0 : Nat) l))).fst).w.length :
  Int) +
  (1 : Int) *
  (↑(playP c r
  (List.take l.length
  (List.drop (0 : Nat) l))).fst.fst.h.length :
  Int))
  (playP c r
  (List.take l.length
  (List.drop (0 : Nat) l))).fst.fst.d.length ++
  List.drop
  ((0 : Nat) +
  (playP c r
  (List.take l.length
  (List.drop (0 : Nat) l))).fst.fst.d.length)
  (playP c r
  (List.take l.length
  (List.drop (0 : Nat) l))).fst.fst.d))).length))
  (ifT
  (decide
  ((0 : Int) ≤
  (1 : Int) +
  (1 : Int) *
  (↑(List.take
  (Que.view
  (playP c r
  (List.take l.length
  (List.drop (0 : Nat) l))).fst).w.length
  (List.drop
  (playP c r
  (List.take l.length (List.drop (0 : Nat) l))).fst.snd
  (List.take
  (playP c r
  (List.take l.length
  (List.drop (0 : Nat) l))).fst.snd
  (playP c r
  (List.take l.length
  (List.drop (0 : Nat) l))).fst.fst.w ++
  marks markInt1 (1 : Int) (1 : Int)
  (Que.view
  (playP c r
  (List.take l.length
  (List.drop (0 : Nat) l))).fst).w.length ++
  List.drop
  ((playP c r
  (List.take l.length
  (List.drop (0 : Nat) l))).fst.snd +
  (Que.view
  (playP c r
  (List.take l.length
  (List.drop (0 : Nat) l))).fst).w.length)
  (playP c r
  (List.take l.length
  (List.drop (0 : Nat) l))).fst.fst.w))).length :
  Int) +
  (1 : Int) *
  (↑(List.take
  (playP c r
  (List.take l.length
  (List.drop (0 : Nat) l))).fst.fst.h.length
  (List.drop (0 : Nat)
  (nilT (Cd.int IntKind.i64).den ++
  marks markInt1 (1 : Int)
  ((1 : Int) +
  (1 : Int) *
  (↑(Que.view
  (playP c r
  (List.take l.length
  (List.drop (0 : Nat)
  l))).fst).w.length :
  Int))
  (playP c r
  (List.take l.length
  (List.drop (0 : Nat) l))).fst.fst.h.length ++
  List.drop
  ((0 : Nat) +
  (playP c r
  (List.take l.length
  (List.drop (0 : Nat) l))).fst.fst.h.length)
  (playP c r
  (List.take l.length
  (List.drop (0 : Nat) l))).fst.fst.h))).length :
  Int) +
  (1 : Int) *
  (↑(List.take
  (playP c r
  (List.take l.length
  (List.drop (0 : Nat) l))).fst.fst.d.length
  (List.drop (0 : Nat)
  (nilT (Cd.int IntKind.i64).den ++
  marks markInt1 (1 : Int)
  ((1 : Int) +
  (1 : Int) *
  (↑(Que.view
  (playP c r
  (List.take l.length
  (List.drop (0 : Nat)
  l))).fst).w.length :
  Int) +
  (1 : Int) *
  (↑(playP c r
  (List.take l.length
  (List.drop (0 : Nat)
  l))).fst.fst.h.length :
  Int))
  (playP c r
  (List.take l.length
  (List.drop (0 : Nat) l))).fst.fst.d.length ++
  List.drop
  ((0 : Nat) +
  (playP c r
  (List.take l.length
  (List.drop (0 : Nat) l))).fst.fst.d.length)
  (playP c r
  (List.take l.length
  (List.drop (0 : Nat) l))).fst.fst.d))).length :
  Int) ∧
  (1 : Int) +
  (1 : Int) *
  (↑(List.take
  (Que.view
  (playP c r
  (List.take l.length
  (List.drop (0 : Nat) l))).fst).w.length
  (List.drop
  (playP c r
  (List.take l.length (List.drop (0 : Nat) l))).fst.snd
  (List.take
  (playP c r
  (List.take l.length
  (List.drop (0 : Nat) l))).fst.snd
  (playP c r
  (List.take l.length
  (List.drop (0 : Nat) l))).fst.fst.w ++
  marks markInt1 (1 : Int) (1 : Int)
  (Que.view
  (playP c r
  (List.take l.length
  (List.drop (0 : Nat) l))).fst).w.length ++
  List.drop
  ((playP c r
  (List.take l.length
  (List.drop (0 : Nat) l))).fst.snd +
  (Que.view
  (playP c r
  (List.take l.length
  (List.drop (0 : Nat) l))).fst).w.length)
  (playP c r
  (List.take l.length
  (List.drop (0 : Nat)
  l))).fst.fst.w))).length :
  Int) +
  (1 : Int) *
  (↑(List.take
  (playP c r
  (List.take l.length
  (List.drop (0 : Nat) l))).fst.fst.h.length
  (List.drop (0 : Nat)
  (nilT (Cd.int IntKind.i64).den ++
  marks markInt1 (1 : Int)
  ((1 : Int) +
  (1 : Int) *
  (↑(Que.view
  (playP c r
  (List.take l.length
  (List.drop (0 : Nat)
  l))).fst).w.length :
  Int))
  (playP c r
  (List.take l.length
  (List.drop (0 : Nat)
  l))).fst.fst.h.length ++
  List.drop
  ((0 : Nat) +
  (playP c r
  (List.take l.length
  (List.drop (0 : Nat) l))).fst.fst.h.length)
  (playP c r
  (List.take l.length
  (List.drop (0 : Nat) l))).fst.fst.h))).length :
  Int) +
  (1 : Int) *
  (↑(List.take
  (playP c r
  (List.take l.length
  (List.drop (0 : Nat) l))).fst.fst.d.length
  (List.drop (0 : Nat)
  (nilT (Cd.int IntKind.i64).den ++
  marks markInt1 (1 : Int)
  ((1 : Int) +
  (1 : Int) *
  (↑(Que.view
  (playP c r
  (List.take l.length
  (List.drop (0 : Nat)
  l))).fst).w.length :
  Int) +
  (1 : Int) *
  (↑(playP c r
  (List.take l.length
  (List.drop (0 : Nat)
  l))).fst.fst.h.length :
  Int))
  (playP c r
  (List.take l.length
  (List.drop (0 : Nat) l))).fst.fst.d.length ++
  List.drop
  ((0 : Nat) +
  (playP c r
  (List.take l.length
  (List.drop (0 : Nat) l))).fst.fst.d.length)
  (playP c r
  (List.take l.length
  (List.drop (0 : Nat) l))).fst.fst.d))).length :
  Int) +
  (1 : Int) *
  (↑(List.take
  (playP c r
  (List.take l.length (List.drop (0 : Nat) l))).snd.fst.length
  (List.drop (0 : Nat)
  (nilT (Cd.int IntKind.i64).den ++
  marks markInt1 (1 : Int)
  ((1 : Int) +
  (1 : Int) *
  (↑(Que.view
  (playP c r
  (List.take l.length
  (List.drop (0 : Nat)
  l))).fst).w.length :
  Int) +
  (1 : Int) *
  (↑(playP c r
  (List.take l.length
  (List.drop (0 : Nat)
  l))).fst.fst.h.length :
  Int) +
  (1 : Int) *
  (↑(playP c r
  (List.take l.length
  (List.drop (0 : Nat)
  l))).fst.fst.d.length :
  Int))
  (playP c r
  (List.take l.length
  (List.drop (0 : Nat) l))).snd.fst.length ++
  List.drop
  ((0 : Nat) +
  (playP c r
  (List.take l.length
  (List.drop (0 : Nat) l))).snd.fst.length)
  (playP c r
  (List.take l.length
  (List.drop (0 : Nat) l))).snd.fst))).length :
  Int) ≤
  lim))
  (ifB
  (decide
  (List.take (playP c r (List.take l.length (List.drop (0 : Nat) l))).snd.fst.length
  (List.drop (0 : Nat)
  (nilT (Cd.int IntKind.i64).den ++
  marks markInt1 (1 : Int)
  ((1 : Int) +
  (1 : Int) *
  (↑(Que.view
  (playP c r
  (List.take l.length
  (List.drop (0 : Nat) l))).fst).w.length :
  Int) +
  (1 : Int) *
  (↑(playP c r
  (List.take l.length
  (List.drop (0 : Nat) l))).fst.fst.h.length :
  Int) +
  (1 : Int) *
  (↑(playP c r
  (List.take l.length
  (List.drop (0 : Nat) l))).fst.fst.d.length :
  Int))
  (playP c r
  (List.take l.length
  (List.drop (0 : Nat) l))).snd.fst.length ++
  List.drop
  ((0 : Nat) +
  (playP c r
  (List.take l.length (List.drop (0 : Nat) l))).snd.fst.length)
  (playP c r (List.take l.length (List.drop (0 : Nat) l))).snd.fst)) =
  marks markInt1 (1 : Int)
  ((1 : Int) +
  (1 : Int) *
  (↑(List.take
  (Que.view
  (playP c r
  (List.take l.length
  (List.drop (0 : Nat) l))).fst).w.length
  (List.drop
  (playP c r
  (List.take l.length (List.drop (0 : Nat) l))).fst.snd
  (List.take
  (playP c r
  (List.take l.length
  (List.drop (0 : Nat) l))).fst.snd
  (playP c r
  (List.take l.length
  (List.drop (0 : Nat) l))).fst.fst.w ++
  marks markInt1 (1 : Int) (1 : Int)
  (Que.view
  (playP c r
  (List.take l.length
  (List.drop (0 : Nat) l))).fst).w.length ++
  List.drop
  ((playP c r
  (List.take l.length
  (List.drop (0 : Nat) l))).fst.snd +
  (Que.view
  (playP c r
  (List.take l.length
  (List.drop (0 : Nat) l))).fst).w.length)
  (playP c r
  (List.take l.length
  (List.drop (0 : Nat)
  l))).fst.fst.w))).length :
  Int) +
  (1 : Int) *
  (↑(List.take
  (playP c r
  (List.take l.length
  (List.drop (0 : Nat) l))).fst.fst.h.length
  (List.drop (0 : Nat)
  (nilT (Cd.int IntKind.i64).den ++
  marks markInt1 (1 : Int)
  ((1 : Int) +
  (1 : Int) *
  (↑(Que.view
  (playP c r
  (List.take l.length
  (List.drop (0 : Nat)
  l))).fst).w.length :
  Int))
  (playP c r
  (List.take l.length
  (List.drop (0 : Nat)
  l))).fst.fst.h.length ++
  List.drop
  ((0 : Nat) +
  (playP c r
  (List.take l.length
  (List.drop (0 : Nat) l))).fst.fst.h.length)
  (playP c r
  (List.take l.length
  (List.drop (0 : Nat) l))).fst.fst.h))).length :
  Int) +
  (1 : Int) *
  (↑(List.take
  (playP c r
  (List.take l.length
  (List.drop (0 : Nat) l))).fst.fst.d.length
  (List.drop (0 : Nat)
  (nilT (Cd.int IntKind.i64).den ++
  marks markInt1 (1 : Int)
  ((1 : Int) +
  (1 : Int) *
  (↑(Que.view
  (playP c r
  (List.take l.length
  (List.drop (0 : Nat)
  l))).fst).w.length :
  Int) +
  (1 : Int) *
  (↑(playP c r
  (List.take l.length
  (List.drop (0 : Nat)
  l))).fst.fst.h.length :
  Int))
  (playP c r
  (List.take l.length
  (List.drop (0 : Nat) l))).fst.fst.d.length ++
  List.drop
  ((0 : Nat) +
  (playP c r
  (List.take l.length
  (List.drop (0 : Nat) l))).fst.fst.d.length)
  (playP c r
  (List.take l.length
  (List.drop (0 : Nat) l))).fst.fst.d))).length :
  Int))
  (List.take
  (playP c r (List.take l.length (List.drop (0 : Nat) l))).snd.fst.length
  (List.drop (0 : Nat)
  (nilT (Cd.int IntKind.i64).den ++
  marks markInt1 (1 : Int)
  ((1 : Int) +
  (1 : Int) *
  (↑(Que.view
  (playP c r
  (List.take l.length
  (List.drop (0 : Nat) l))).fst).w.length :
  Int) +
  (1 : Int) *
  (↑(playP c r
  (List.take l.length
  (List.drop (0 : Nat) l))).fst.fst.h.length :
  Int) +
  (1 : Int) *
  (↑(playP c r
  (List.take l.length
  (List.drop (0 : Nat) l))).fst.fst.d.length :
  Int))
  (playP c r
  (List.take l.length
  (List.drop (0 : Nat) l))).snd.fst.length ++
  List.drop
  ((0 : Nat) +
  (playP c r
  (List.take l.length
  (List.drop (0 : Nat) l))).snd.fst.length)
  (playP c r
  (List.take l.length
  (List.drop (0 : Nat) l))).snd.fst))).length))
  (ifB
  ((1 : Int) +
  (1 : Int) *
  (↑(List.take
  (Que.view
  (playP c r
  (List.take l.length
  (List.drop (0 : Nat) l))).fst).w.length
  (List.drop
  (playP c r
  (List.take l.length (List.drop (0 : Nat) l))).fst.snd
  (List.take
  (playP c r
  (List.take l.length
  (List.drop (0 : Nat) l))).fst.snd
  (playP c r
  (List.take l.length
  (List.drop (0 : Nat) l))).fst.fst.w ++
  marks markInt1 (1 : Int) (1 : Int)
  (Que.view
  (playP c r
  (List.take l.length
  (List.drop (0 : Nat) l))).fst).w.length ++
  List.drop
  ((playP c r
  (List.take l.length
  (List.drop (0 : Nat) l))).fst.snd +
  (Que.view
  (playP c r
  (List.take l.length
  (List.drop (0 : Nat) l))).fst).w.length)
  (playP c r
  (List.take l.length
  (List.drop (0 : Nat)
  l))).fst.fst.w))).length :
  Int) +
  (1 : Int) *
  (↑(List.take
  (playP c r
  (List.take l.length
  (List.drop (0 : Nat) l))).fst.fst.h.length
  (List.drop (0 : Nat)
  (nilT (Cd.int IntKind.i64).den ++
  marks markInt1 (1 : Int)
  ((1 : Int) +
  (1 : Int) *
  (↑(Que.view
  (playP c r
  (List.take l.length
  (List.drop (0 : Nat)
  l))).fst).w.length :
  Int))
  (playP c r
  (List.take l.length
  (List.drop (0 : Nat)
  l))).fst.fst.h.length ++
  List.drop
  ((0 : Nat) +
  (playP c r
  (List.take l.length
  (List.drop (0 : Nat) l))).fst.fst.h.length)
  (playP c r
  (List.take l.length
  (List.drop (0 : Nat) l))).fst.fst.h))).length :
  Int) +
  (1 : Int) *
  (↑(List.take
  (playP c r
  (List.take l.length
  (List.drop (0 : Nat) l))).fst.fst.d.length
  (List.drop (0 : Nat)
  (nilT (Cd.int IntKind.i64).den ++
  marks markInt1 (1 : Int)
  ((1 : Int) +
  (1 : Int) *
  (↑(Que.view
  (playP c r
  (List.take l.length
  (List.drop (0 : Nat)
  l))).fst).w.length :
  Int) +
  (1 : Int) *
  (↑(playP c r
  (List.take l.length
  (List.drop (0 : Nat)
  l))).fst.fst.h.length :
  Int))
  (playP c r
  (List.take l.length
  (List.drop (0 : Nat) l))).fst.fst.d.length ++
  List.drop
  ((0 : Nat) +
  (playP c r
  (List.take l.length
  (List.drop (0 : Nat) l))).fst.fst.d.length)
  (playP c r
  (List.take l.length
  (List.drop (0 : Nat) l))).fst.fst.d))).length :
  Int) +
  (1 : Int) *
  (↑(List.take
  (playP c r
  (List.take l.length (List.drop (0 : Nat) l))).snd.fst.length
  (List.drop (0 : Nat)
  (nilT (Cd.int IntKind.i64).den ++
  marks markInt1 (1 : Int)
  ((1 : Int) +
  (1 : Int) *
  (↑(Que.view
  (playP c r
  (List.take l.length
  (List.drop (0 : Nat)
  l))).fst).w.length :
  Int) +
  (1 : Int) *
  (↑(playP c r
  (List.take l.length
  (List.drop (0 : Nat)
  l))).fst.fst.h.length :
  Int) +
  (1 : Int) *
  (↑(playP c r
  (List.take l.length
  (List.drop (0 : Nat)
  l))).fst.fst.d.length :
  Int))
  (playP c r
  (List.take l.length
  (List.drop (0 : Nat) l))).snd.fst.length ++
  List.drop
  ((0 : Nat) +
  (playP c r
  (List.take l.length
  (List.drop (0 : Nat) l))).snd.fst.length)
  (playP c r
  (List.take l.length
  (List.drop (0 : Nat) l))).snd.fst))).length :
  Int) !=
  (1 : Int) +
  (1 : Int) *
  (↑(Que.view
  (playP c r
  (List.take l.length
  (List.drop (0 : Nat) l))).fst).w.length :
  Int) +
  (1 : Int) *
  (↑(playP c r
  (List.take l.length
  (List.drop (0 : Nat) l))).fst.fst.h.length :
  Int) +
  (1 : Int) *
  (↑(playP c r
  (List.take l.length
  (List.drop (0 : Nat) l))).fst.fst.d.length :
  Int) +
  (1 : Int) *
  (↑(playP c r (List.take l.length (List.drop (0 : Nat) l))).snd.fst.length :
  Int))
  (some (V.b false, []))
  (ifT (decide (l.length ≤ (1000000000 : Nat)))
  (ifB
  (!decide
  ((playP c r (List.take l.length (List.drop (0 : Nat) l))).fst.fst.c =
  (playO c r (List.take l.length (List.drop (0 : Nat) l))).fst.c ∧
  (playP c r (List.take l.length (List.drop (0 : Nat) l))).fst.fst.r =
  (playO c r (List.take l.length (List.drop (0 : Nat) l))).fst.r ∧
  (playP c r (List.take l.length (List.drop (0 : Nat) l))).fst.fst.n =
  (playO c r (List.take l.length (List.drop (0 : Nat) l))).fst.n ∧
  List.take
  (Que.view
  (playP c r
  (List.take l.length
  (List.drop (0 : Nat) l))).fst).w.length
  (List.drop
  (playP c r
  (List.take l.length (List.drop (0 : Nat) l))).fst.snd
  (playP c r
  (List.take l.length
  (List.drop (0 : Nat) l))).fst.fst.w) =
  List.take
  (playO c r
  (List.take l.length
  (List.drop (0 : Nat) l))).fst.w.length
  (List.drop (0 : Nat)
  (playO c r
  (List.take l.length (List.drop (0 : Nat) l))).fst.w) ∧
  List.take
  (playP c r
  (List.take l.length
  (List.drop (0 : Nat) l))).fst.fst.h.length
  (List.drop (0 : Nat)
  (playP c r
  (List.take l.length
  (List.drop (0 : Nat) l))).fst.fst.h) =
  List.take
  (playO c r
  (List.take l.length
  (List.drop (0 : Nat) l))).fst.h.length
  (List.drop (0 : Nat)
  (playO c r
  (List.take l.length
  (List.drop (0 : Nat) l))).fst.h) ∧
  List.take
  (playP c r
  (List.take l.length
  (List.drop (0 : Nat) l))).fst.fst.d.length
  (List.drop (0 : Nat)
  (playP c r
  (List.take l.length
  (List.drop (0 : Nat) l))).fst.fst.d) =
  List.take
  (playO c r
  (List.take l.length
  (List.drop (0 : Nat) l))).fst.d.length
  (List.drop (0 : Nat)
  (playO c r
  (List.take l.length
  (List.drop (0 : Nat) l))).fst.d)))
  (some (V.b false, []))
  (ifB
  (!decide
  (List.take
  (playP c r
  (List.take l.length (List.drop (0 : Nat) l))).snd.fst.length
  (List.drop (0 : Nat)
  (playP c r
  (List.take l.length (List.drop (0 : Nat) l))).snd.fst) =
  List.take
  (playO c r
  (List.take l.length (List.drop (0 : Nat) l))).snd.fst.length
  (List.drop (0 : Nat)
  (playO c r
  (List.take l.length (List.drop (0 : Nat) l))).snd.fst)))
  (some (V.b false, []))
  (ifB
  (!(playP c r (List.take l.length (List.drop (0 : Nat) l))).snd.snd ==
  (playO c r (List.take l.length (List.drop (0 : Nat) l))).snd.snd)
  (some (V.b false, []))
  (ifT
  (decide
  ((0 : Int) ≤ (1 : Int) ∧
  (1 : Int) +
  (1 : Int) *
  (↑(List.take
  (Que.view
  (playP c r
  (List.take l.length
  (List.drop (0 : Nat)
  l))).fst).w.length
  (List.drop
  (playP c r
  (List.take l.length
  (List.drop (0 : Nat) l))).fst.snd
  (List.take
  (playP c r
  (List.take l.length
  (List.drop (0 : Nat) l))).fst.snd
  (playP c r
  (List.take l.length
  (List.drop (0 : Nat)
  l))).fst.fst.w ++
  marks markInt1 (1 : Int) (1 : Int)
  (Que.view
  (playP c r
  (List.take l.length
  (List.drop (0 : Nat)
  l))).fst).w.length ++
  List.drop
  ((playP c r
  (List.take l.length
  (List.drop (0 : Nat)
  l))).fst.snd +
  (Que.view
  (playP c r
  (List.take l.length
  (List.drop (0 : Nat)
  l))).fst).w.length)
  (playP c r
  (List.take l.length
  (List.drop (0 : Nat)
  l))).fst.fst.w))).length :
  Int) +
  (1 : Int) *
  (↑(List.take
  (playP c r
  (List.take l.length
  (List.drop (0 : Nat)
  l))).fst.fst.h.length
  (List.drop (0 : Nat)
  (nilT (Cd.int IntKind.i64).den ++
  marks markInt1 (1 : Int)
  ((1 : Int) +
  (1 : Int) *
  (↑(Que.view
  (playP c r
  (List.take l.length
  (List.drop (0 : Nat)
  l))).fst).w.length :
  Int))
  (playP c r
  (List.take l.length
  (List.drop (0 : Nat)
  l))).fst.fst.h.length ++
  List.drop
  ((0 : Nat) +
  (playP c r
  (List.take l.length
  (List.drop (0 : Nat)
  l))).fst.fst.h.length)
  (playP c r
  (List.take l.length
  (List.drop (0 : Nat)
  l))).fst.fst.h))).length :
  Int) +
  (1 : Int) *
  (↑(List.take
  (playP c r
  (List.take l.length
  (List.drop (0 : Nat) l))).fst.fst.d.length
  (List.drop (0 : Nat)
  (nilT (Cd.int IntKind.i64).den ++
  marks markInt1 (1 : Int)
  ((1 : Int) +
  (1 : Int) *
  (↑(Que.view
  (playP c r
  (List.take l.length
  (List.drop (0 : Nat)
  l))).fst).w.length :
  Int) +
  (1 : Int) *
  (↑(playP c r
  (List.take l.length
  (List.drop (0 : Nat)
  l))).fst.fst.h.length :
  Int))
  (playP c r
  (List.take l.length
  (List.drop (0 : Nat)
  l))).fst.fst.d.length ++
  List.drop
  ((0 : Nat) +
  (playP c r
  (List.take l.length
  (List.drop (0 : Nat)
  l))).fst.fst.d.length)
  (playP c r
  (List.take l.length
  (List.drop (0 : Nat)
  l))).fst.fst.d))).length :
  Int) ≤
  lim))
  (ifB
  (decide
  (List.take
  (Que.view
  (playP c r
  (List.take l.length
  (List.drop (0 : Nat) l))).fst).w.length
  (List.drop
  (playP c r
  (List.take l.length (List.drop (0 : Nat) l))).fst.snd
  (List.take
  (playP c r
  (List.take l.length
  (List.drop (0 : Nat) l))).fst.snd
  (playP c r
  (List.take l.length
  (List.drop (0 : Nat) l))).fst.fst.w ++
  marks markInt1 (1 : Int) (1 : Int)
  (Que.view
  (playP c r
  (List.take l.length
  (List.drop (0 : Nat) l))).fst).w.length ++
  List.drop
  ((playP c r
  (List.take l.length
  (List.drop (0 : Nat) l))).fst.snd +
  (Que.view
  (playP c r
  (List.take l.length
  (List.drop (0 : Nat) l))).fst).w.length)
  (playP c r
  (List.take l.length
  (List.drop (0 : Nat) l))).fst.fst.w)) =
  marks markInt1 (1 : Int) (1 : Int)
  (List.take
  (Que.view
  (playP c r
  (List.take l.length
  (List.drop (0 : Nat) l))).fst).w.length
  (List.drop
  (playP c r
  (List.take l.length
  (List.drop (0 : Nat) l))).fst.snd
  (List.take
  (playP c r
  (List.take l.length
  (List.drop (0 : Nat) l))).fst.snd
  (playP c r
  (List.take l.length
  (List.drop (0 : Nat) l))).fst.fst.w ++
  marks markInt1 (1 : Int) (1 : Int)
  (Que.view
  (playP c r
  (List.take l.length
  (List.drop (0 : Nat)
  l))).fst).w.length ++
  List.drop
  ((playP c r
  (List.take l.length
  (List.drop (0 : Nat) l))).fst.snd +
  (Que.view
  (playP c r
  (List.take l.length
  (List.drop (0 : Nat)
  l))).fst).w.length)
  (playP c r
  (List.take l.length
  (List.drop (0 : Nat)
  l))).fst.fst.w))).length ∧
  List.take
  (playP c r
  (List.take l.length
  (List.drop (0 : Nat) l))).fst.fst.h.length
  (List.drop (0 : Nat)
  (nilT (Cd.int IntKind.i64).den ++
  marks markInt1 (1 : Int)
  ((1 : Int) +
  (1 : Int) *
  (↑(Que.view
  (playP c r
  (List.take l.length
  (List.drop (0 : Nat)
  l))).fst).w.length :
  Int))
  (playP c r
  (List.take l.length
  (List.drop (0 : Nat)
  l))).fst.fst.h.length ++
  List.drop
  ((0 : Nat) +
  (playP c r
  (List.take l.length
  (List.drop (0 : Nat)
  l))).fst.fst.h.length)
  (playP c r
  (List.take l.length
  (List.drop (0 : Nat) l))).fst.fst.h)) =
  marks markInt1 (1 : Int)
  ((1 : Int) +
  (1 : Int) *
  (↑(List.take
  (Que.view
  (playP c r
  (List.take l.length
  (List.drop (0 : Nat)
  l))).fst).w.length
  (List.drop
  (playP c r
  (List.take l.length
  (List.drop (0 : Nat) l))).fst.snd
  (List.take
  (playP c r
  (List.take l.length
  (List.drop (0 : Nat)
  l))).fst.snd
  (playP c r
  (List.take l.length
  (List.drop (0 : Nat)
  l))).fst.fst.w ++
  marks markInt1 (1 : Int) (1 : Int)
  (Que.view
  (playP c r
  (List.take l.length
  (List.drop (0 : Nat)
  l))).fst).w.length ++
  List.drop
  ((playP c r
  (List.take l.length
  (List.drop (0 : Nat)
  l))).fst.snd +
  (Que.view
  (playP c r
  (List.take l.length
  (List.drop (0 : Nat)
  l))).fst).w.length)
  (playP c r
  (List.take l.length
  (List.drop (0 : Nat)
  l))).fst.fst.w))).length :
  Int))
  (List.take
  (playP c r
  (List.take l.length
  (List.drop (0 : Nat) l))).fst.fst.h.length
  (List.drop (0 : Nat)
  (nilT (Cd.int IntKind.i64).den ++
  marks markInt1 (1 : Int)
  ((1 : Int) +
  (1 : Int) *
  (↑(Que.view
  (playP c r
  (List.take l.length
  (List.drop (0 : Nat)
  l))).fst).w.length :
  Int))
  (playP c r
  (List.take l.length
  (List.drop (0 : Nat)
  l))).fst.fst.h.length ++
  List.drop
  ((0 : Nat) +
  (playP c r
  (List.take l.length
  (List.drop (0 : Nat)
  l))).fst.fst.h.length)
  (playP c r
  (List.take l.length
  (List.drop (0 : Nat)
  l))).fst.fst.h))).length ∧
  List.take
  (playP c r
  (List.take l.length
  (List.drop (0 : Nat) l))).fst.fst.d.length
  (List.drop (0 : Nat)
  (nilT (Cd.int IntKind.i64).den ++
  marks markInt1 (1 : Int)
  ((1 : Int) +
  (1 : Int) *
  (↑(Que.view
  (playP c r
  (List.take l.length
  (List.drop (0 : Nat)
  l))).fst).w.length :
  Int) +
  (1 : Int) *
  (↑(playP c r
  (List.take l.length
  (List.drop (0 : Nat)
  l))).fst.fst.h.length :
  Int))
  (playP c r
  (List.take l.length
  (List.drop (0 : Nat)
  l))).fst.fst.d.length ++
  List.drop
  ((0 : Nat) +
  (playP c r
  (List.take l.length
  (List.drop (0 : Nat)
  l))).fst.fst.d.length)
  (playP c r
  (List.take l.length
  (List.drop (0 : Nat) l))).fst.fst.d)) =
  marks markInt1 (1 : Int)
  ((1 : Int) +
  (1 : Int) *
  (↑(List.take
  (Que.view
  (playP c r
  (List.take l.length
  (List.drop (0 : Nat)
  l))).fst).w.length
  (List.drop
  (playP c r
  (List.take l.length
  (List.drop (0 : Nat) l))).fst.snd
  (List.take
  (playP c r
  (List.take l.length
  (List.drop (0 : Nat)
  l))).fst.snd
  (playP c r
  (List.take l.length
  (List.drop (0 : Nat)
  l))).fst.fst.w ++
  marks markInt1 (1 : Int) (1 : Int)
  (Que.view
  (playP c r
  (List.take l.length
  (List.drop (0 : Nat)
  l))).fst).w.length ++
  List.drop
  ((playP c r
  (List.take l.length
  (List.drop (0 : Nat)
  l))).fst.snd +
  (Que.view
  (playP c r
  (List.take l.length
  (List.drop (0 : Nat)
  l))).fst).w.length)
  (playP c r
  (List.take l.length
  (List.drop (0 : Nat)
  l))).fst.fst.w))).length :
  Int) +
  (1 : Int) *
  (↑(List.take
  (playP c r
  (List.take l.length
  (List.drop (0 : Nat)
  l))).fst.fst.h.length
  (List.drop (0 : Nat)
  (nilT (Cd.int IntKind.i64).den ++
  marks markInt1 (1 : Int)
  ((1 : Int) +
  (1 : Int) *
  (↑(Que.view
  (playP c r
  (List.take l.length
  (List.drop (0 : Nat)
  l))).fst).w.length :
  Int))
  (playP c r
  (List.take l.length
  (List.drop (0 : Nat)
  l))).fst.fst.h.length ++
  List.drop
  ((0 : Nat) +
  (playP c r
  (List.take l.length
  (List.drop (0 : Nat)
  l))).fst.fst.h.length)
  (playP c r
  (List.take l.length
  (List.drop (0 : Nat)
  l))).fst.fst.h))).length :
  Int))
  (List.take
  (playP c r
  (List.take l.length
  (List.drop (0 : Nat) l))).fst.fst.d.length
  (List.drop (0 : Nat)
  (nilT (Cd.int IntKind.i64).den ++
  marks markInt1 (1 : Int)
  ((1 : Int) +
  (1 : Int) *
  (↑(Que.view
  (playP c r
  (List.take l.length
  (List.drop (0 : Nat)
  l))).fst).w.length :
  Int) +
  (1 : Int) *
  (↑(playP c r
  (List.take l.length
  (List.drop (0 : Nat)
  l))).fst.fst.h.length :
  Int))
  (playP c r
  (List.take l.length
  (List.drop (0 : Nat)
  l))).fst.fst.d.length ++
  List.drop
  ((0 : Nat) +
  (playP c r
  (List.take l.length
  (List.drop (0 : Nat)
  l))).fst.fst.d.length)
  (playP c r
  (List.take l.length
  (List.drop (0 : Nat)
  l))).fst.fst.d))).length))
  (ifT
  (decide
  ((0 : Int) ≤
  (1 : Int) +
  (1 : Int) *
  (↑(List.take
  (Que.view
  (playP c r
  (List.take l.length
  (List.drop (0 : Nat)
  l))).fst).w.length
  (List.drop
  (playP c r
  (List.take l.length
  (List.drop (0 : Nat) l))).fst.snd
  (List.take
  (playP c r
  (List.take l.length
  (List.drop (0 : Nat)
  l))).fst.snd
  (playP c r
  (List.take l.length
  (List.drop (0 : Nat)
  l))).fst.fst.w ++
  marks markInt1 (1 : Int) (1 : Int)
  (Que.view
  (playP c r
  (List.take l.length
  (List.drop (0 : Nat)
  l))).fst).w.length ++
  List.drop
  ((playP c r
  (List.take l.length
  (List.drop (0 : Nat)
  l))).fst.snd +
  (Que.view
  (playP c r
  (List.take l.length
  (List.drop (0 : Nat)
  l))).fst).w.length)
  (playP c r
  (List.take l.length
  (List.drop (0 : Nat)
  l))).fst.fst.w))).length :
  Int) +
  (1 : Int) *
  (↑(List.take
  (playP c r
  (List.take l.length
  (List.drop (0 : Nat)
  l))).fst.fst.h.length
  (List.drop (0 : Nat)
  (nilT (Cd.int IntKind.i64).den ++
  marks markInt1 (1 : Int)
  ((1 : Int) +
  (1 : Int) *
  (↑(Que.view
  (playP c r
  (List.take l.length
  (List.drop (0 : Nat)
  l))).fst).w.length :
  Int))
  (playP c r
  (List.take l.length
  (List.drop (0 : Nat)
  l))).fst.fst.h.length ++
  List.drop
  ((0 : Nat) +
  (playP c r
  (List.take l.length
  (List.drop (0 : Nat)
  l))).fst.fst.h.length)
  (playP c r
  (List.take l.length
  (List.drop (0 : Nat)
  l))).fst.fst.h))).length :
  Int) +
  (1 : Int) *
  (↑(List.take
  (playP c r
  (List.take l.length
  (List.drop (0 : Nat)
  l))).fst.fst.d.length
  (List.drop (0 : Nat)
  (nilT (Cd.int IntKind.i64).den ++
  marks markInt1 (1 : Int)
  ((1 : Int) +
  (1 : Int) *
  (↑(Que.view
  (playP c r
  (List.take l.length
  (List.drop (0 : Nat)
  l))).fst).w.length :
  Int) +
  (1 : Int) *
  (↑(playP c r
  (List.take l.length
  (List.drop (0 : Nat)
  l))).fst.fst.h.length :
  Int))
  (playP c r
  (List.take l.length
  (List.drop (0 : Nat)
  l))).fst.fst.d.length ++
  List.drop
  ((0 : Nat) +
  (playP c r
  (List.take l.length
  (List.drop (0 : Nat)
  l))).fst.fst.d.length)
  (playP c r
  (List.take l.length
  (List.drop (0 : Nat)
  l))).fst.fst.d))).length :
  Int) ∧
  (1 : Int) +
  (1 : Int) *
  (↑(List.take
  (Que.view
  (playP c r
  (List.take l.length
  (List.drop (0 : Nat)
  l))).fst).w.length
  (List.drop
  (playP c r
  (List.take l.length
  (List.drop (0 : Nat) l))).fst.snd
  (List.take
  (playP c r
  (List.take l.length
  (List.drop (0 : Nat)
  l))).fst.snd
  (playP c r
  (List.take l.length
  (List.drop (0 : Nat)
  l))).fst.fst.w ++
  marks markInt1 (1 : Int) (1 : Int)
  (Que.view
  (playP c r
  (List.take l.length
  (List.drop (0 : Nat)
  l))).fst).w.length ++
  List.drop
  ((playP c r
  (List.take l.length
  (List.drop (0 : Nat)
  l))).fst.snd +
  (Que.view
  (playP c r
  (List.take l.length
  (List.drop (0 : Nat)
  l))).fst).w.length)
  (playP c r
  (List.take l.length
  (List.drop (0 : Nat)
  l))).fst.fst.w))).length :
  Int) +
  (1 : Int) *
  (↑(List.take
  (playP c r
  (List.take l.length
  (List.drop (0 : Nat)
  l))).fst.fst.h.length
  (List.drop (0 : Nat)
  (nilT (Cd.int IntKind.i64).den ++
  marks markInt1 (1 : Int)
  ((1 : Int) +
  (1 : Int) *
  (↑(Que.view
  (playP c r
  (List.take l.length
  (List.drop
  (0 : Nat)
  l))).fst).w.length :
  Int))
  (playP c r
  (List.take l.length
  (List.drop (0 : Nat)
  l))).fst.fst.h.length ++
  List.drop
  ((0 : Nat) +
  (playP c r
  (List.take l.length
  (List.drop (0 : Nat)
  l))).fst.fst.h.length)
  (playP c r
  (List.take l.length
  (List.drop (0 : Nat)
  l))).fst.fst.h))).length :
  Int) +
  (1 : Int) *
  (↑(List.take
  (playP c r
  (List.take l.length
  (List.drop (0 : Nat)
  l))).fst.fst.d.length
  (List.drop (0 : Nat)
  (nilT (Cd.int IntKind.i64).den ++
  marks markInt1 (1 : Int)
  ((1 : Int) +
  (1 : Int) *
  (↑(Que.view
  (playP c r
  (List.take l.length
  (List.drop
  (0 : Nat)
  l))).fst).w.length :
  Int) +
  (1 : Int) *
  (↑(playP c r
  (List.take l.length
  (List.drop (0 : Nat)
  l))).fst.fst.h.length :
  Int))
  (playP c r
  (List.take l.length
  (List.drop (0 : Nat)
  l))).fst.fst.d.length ++
  List.drop
  ((0 : Nat) +
  (playP c r
  (List.take l.length
  (List.drop (0 : Nat)
  l))).fst.fst.d.length)
  (playP c r
  (List.take l.length
  (List.drop (0 : Nat)
  l))).fst.fst.d))).length :
  Int) +
  (1 : Int) *
  (↑(List.take
  (playP c r
  (List.take l.length
  (List.drop (0 : Nat) l))).snd.fst.length
  (List.drop (0 : Nat)
  (nilT (Cd.int IntKind.i64).den ++
  marks markInt1 (1 : Int)
  ((1 : Int) +
  (1 : Int) *
  (↑(Que.view
  (playP c r
  (List.take l.length
  (List.drop
  (0 : Nat)
  l))).fst).w.length :
  Int) +
  (1 : Int) *
  (↑(playP c r
  (List.take l.length
  (List.drop (0 : Nat)
  l))).fst.fst.h.length :
  Int) +
  (1 : Int) *
  (↑(playP c r
  (List.take l.length
  (List.drop (0 : Nat)
  l))).fst.fst.d.length :
  Int))
  (playP c r
  (List.take l.length
  (List.drop (0 : Nat)
  l))).snd.fst.length ++
  List.drop
  ((0 : Nat) +
  (playP c r
  (List.take l.length
  (List.drop (0 : Nat)
  l))).snd.fst.length)
  (playP c r
  (List.take l.length
  (List.drop (0 : Nat)
  l))).snd.fst))).length :
  Int) ≤
  lim))
  (ifB
  (decide
  (List.take
  (playP c r
  (List.take l.length
  (List.drop (0 : Nat) l))).snd.fst.length
  (List.drop (0 : Nat)
  (nilT (Cd.int IntKind.i64).den ++
  marks markInt1 (1 : Int)
  ((1 : Int) +
  (1 : Int) *
  (↑(Que.view
  (playP c r
  (List.take l.length
  (List.drop (0 : Nat)
  l))).fst).w.length :
  Int) +
  (1 : Int) *
  (↑(playP c r
  (List.take l.length
  (List.drop (0 : Nat)
  l))).fst.fst.h.length :
  Int) +
  (1 : Int) *
  (↑(playP c r
  (List.take l.length
  (List.drop (0 : Nat)
  l))).fst.fst.d.length :
  Int))
  (playP c r
  (List.take l.length
  (List.drop (0 : Nat)
  l))).snd.fst.length ++
  List.drop
  ((0 : Nat) +
  (playP c r
  (List.take l.length
  (List.drop (0 : Nat) l))).snd.fst.length)
  (playP c r
  (List.take l.length
  (List.drop (0 : Nat) l))).snd.fst)) =
  marks markInt1 (1 : Int)
  ((1 : Int) +
  (1 : Int) *
  (↑(List.take
  (Que.view
  (playP c r
  (List.take l.length
  (List.drop (0 : Nat)
  l))).fst).w.length
  (List.drop
  (playP c r
  (List.take l.length
  (List.drop (0 : Nat) l))).fst.snd
  (List.take
  (playP c r
  (List.take l.length
  (List.drop (0 : Nat)
  l))).fst.snd
  (playP c r
  (List.take l.length
  (List.drop (0 : Nat)
  l))).fst.fst.w ++
  marks markInt1 (1 : Int) (1 : Int)
  (Que.view
  (playP c r
  (List.take l.length
  (List.drop (0 : Nat)
  l))).fst).w.length ++
  List.drop
  ((playP c r
  (List.take l.length
  (List.drop (0 : Nat)
  l))).fst.snd +
  (Que.view
  (playP c r
  (List.take l.length
  (List.drop (0 : Nat)
  l))).fst).w.length)
  (playP c r
  (List.take l.length
  (List.drop (0 : Nat)
  l))).fst.fst.w))).length :
  Int) +
  (1 : Int) *
  (↑(List.take
  (playP c r
  (List.take l.length
  (List.drop (0 : Nat)
  l))).fst.fst.h.length
  (List.drop (0 : Nat)
  (nilT (Cd.int IntKind.i64).den ++
  marks markInt1 (1 : Int)
  ((1 : Int) +
  (1 : Int) *
  (↑(Que.view
  (playP c r
  (List.take l.length
  (List.drop
  (0 : Nat)
  l))).fst).w.length :
  Int))
  (playP c r
  (List.take l.length
  (List.drop (0 : Nat)
  l))).fst.fst.h.length ++
  List.drop
  ((0 : Nat) +
  (playP c r
  (List.take l.length
  (List.drop (0 : Nat)
  l))).fst.fst.h.length)
  (playP c r
  (List.take l.length
  (List.drop (0 : Nat)
  l))).fst.fst.h))).length :
  Int) +
  (1 : Int) *
  (↑(List.take
  (playP c r
  (List.take l.length
  (List.drop (0 : Nat)
  l))).fst.fst.d.length
  (List.drop (0 : Nat)
  (nilT (Cd.int IntKind.i64).den ++
  marks markInt1 (1 : Int)
  ((1 : Int) +
  (1 : Int) *
  (↑(Que.view
  (playP c r
  (List.take l.length
  (List.drop
  (0 : Nat)
  l))).fst).w.length :
  Int) +
  (1 : Int) *
  (↑(playP c r
  (List.take l.length
  (List.drop (0 : Nat)
  l))).fst.fst.h.length :
  Int))
  (playP c r
  (List.take l.length
  (List.drop (0 : Nat)
  l))).fst.fst.d.length ++
  List.drop
  ((0 : Nat) +
  (playP c r
  (List.take l.length
  (List.drop (0 : Nat)
  l))).fst.fst.d.length)
  (playP c r
  (List.take l.length
  (List.drop (0 : Nat)
  l))).fst.fst.d))).length :
  Int))
  (List.take
  (playP c r
  (List.take l.length
  (List.drop (0 : Nat) l))).snd.fst.length
  (List.drop (0 : Nat)
  (nilT (Cd.int IntKind.i64).den ++
  marks markInt1 (1 : Int)
  ((1 : Int) +
  (1 : Int) *
  (↑(Que.view
  (playP c r
  (List.take l.length
  (List.drop (0 : Nat)
  l))).fst).w.length :
  Int) +
  (1 : Int) *
  (↑(playP c r
  (List.take l.length
  (List.drop (0 : Nat)
  l))).fst.fst.h.length :
  Int) +
  (1 : Int) *
  (↑(playP c r
  (List.take l.length
  (List.drop (0 : Nat)
  l))).fst.fst.d.length :
  Int))
  (playP c r
  (List.take l.length
  (List.drop (0 : Nat)
  l))).snd.fst.length ++
  List.drop
  ((0 : Nat) +
  (playP c r
  (List.take l.length
  (List.drop (0 : Nat)
  l))).snd.fst.length)
  (playP c r
  (List.take l.length
  (List.drop (0 : Nat)
  l))).snd.fst))).length))
  (ifB
  ((1 : Int) +
  (1 : Int) *
  (↑(List.take
  (Que.view
  (playP c r
  (List.take l.length
  (List.drop (0 : Nat)
  l))).fst).w.length
  (List.drop
  (playP c r
  (List.take l.length
  (List.drop (0 : Nat) l))).fst.snd
  (List.take
  (playP c r
  (List.take l.length
  (List.drop (0 : Nat)
  l))).fst.snd
  (playP c r
  (List.take l.length
  (List.drop (0 : Nat)
  l))).fst.fst.w ++
  marks markInt1 (1 : Int) (1 : Int)
  (Que.view
  (playP c r
  (List.take l.length
  (List.drop (0 : Nat)
  l))).fst).w.length ++
  List.drop
  ((playP c r
  (List.take l.length
  (List.drop (0 : Nat)
  l))).fst.snd +
  (Que.view
  (playP c r
  (List.take l.length
  (List.drop (0 : Nat)
  l))).fst).w.length)
  (playP c r
  (List.take l.length
  (List.drop (0 : Nat)
  l))).fst.fst.w))).length :
  Int) +
  (1 : Int) *
  (↑(List.take
  (playP c r
  (List.take l.length
  (List.drop (0 : Nat)
  l))).fst.fst.h.length
  (List.drop (0 : Nat)
  (nilT (Cd.int IntKind.i64).den ++
  marks markInt1 (1 : Int)
  ((1 : Int) +
  (1 : Int) *
  (↑(Que.view
  (playP c r
  (List.take l.length
  (List.drop
  (0 : Nat)
  l))).fst).w.length :
  Int))
  (playP c r
  (List.take l.length
  (List.drop (0 : Nat)
  l))).fst.fst.h.length ++
  List.drop
  ((0 : Nat) +
  (playP c r
  (List.take l.length
  (List.drop (0 : Nat)
  l))).fst.fst.h.length)
  (playP c r
  (List.take l.length
  (List.drop (0 : Nat)
  l))).fst.fst.h))).length :
  Int) +
  (1 : Int) *
  (↑(List.take
  (playP c r
  (List.take l.length
  (List.drop (0 : Nat)
  l))).fst.fst.d.length
  (List.drop (0 : Nat)
  (nilT (Cd.int IntKind.i64).den ++
  marks markInt1 (1 : Int)
  ((1 : Int) +
  (1 : Int) *
  (↑(Que.view
  (playP c r
  (List.take l.length
  (List.drop
  (0 : Nat)
  l))).fst).w.length :
  Int) +
  (1 : Int) *
  (↑(playP c r
  (List.take l.length
  (List.drop (0 : Nat)
  l))).fst.fst.h.length :
  Int))
  (playP c r
  (List.take l.length
  (List.drop (0 : Nat)
  l))).fst.fst.d.length ++
  List.drop
  ((0 : Nat) +
  (playP c r
  (List.take l.length
  (List.drop (0 : Nat)
  l))).fst.fst.d.length)
  (playP c r
  (List.take l.length
  (List.drop (0 : Nat)
  l))).fst.fst.d))).length :
  Int) +
  (1 : Int) *
  (↑(List.take
  (playP c r
  (List.take l.length
  (List.drop (0 : Nat) l))).snd.fst.length
  (List.drop (0 : Nat)
  (nilT (Cd.int IntKind.i64).den ++
  marks markInt1 (1 : Int)
  ((1 : Int) +
  (1 : Int) *
  (↑(Que.view
  (playP c r
  (List.take l.length
  (List.drop
  (0 : Nat)
  l))).fst).w.length :
  Int) +
  (1 : Int) *
  (↑(playP c r
  (List.take l.length
  (List.drop (0 : Nat)
  l))).fst.fst.h.length :
  Int) +
  (1 : Int) *
  (↑(playP c r
  (List.take l.length
  (List.drop (0 : Nat)
  l))).fst.fst.d.length :
  Int))
  (playP c r
  (List.take l.length
  (List.drop (0 : Nat)
  l))).snd.fst.length ++
  List.drop
  ((0 : Nat) +
  (playP c r
  (List.take l.length
  (List.drop (0 : Nat)
  l))).snd.fst.length)
  (playP c r
  (List.take l.length
  (List.drop (0 : Nat)
  l))).snd.fst))).length :
  Int) !=
  (1 : Int) +
  (1 : Int) *
  (↑(Que.view
  (playP c r
  (List.take l.length
  (List.drop (0 : Nat)
  l))).fst).w.length :
  Int) +
  (1 : Int) *
  (↑(playP c r
  (List.take l.length
  (List.drop (0 : Nat)
  l))).fst.fst.h.length :
  Int) +
  (1 : Int) *
  (↑(playP c r
  (List.take l.length
  (List.drop (0 : Nat)
  l))).fst.fst.d.length :
  Int) +
  (1 : Int) *
  (↑(playP c r
  (List.take l.length
  (List.drop (0 : Nat) l))).snd.fst.length :
  Int))
  (some (V.b false, [])) (some (V.b true, [])))
  (some (V.b false, []))))
  (some (V.b false, [])))))))))
  (some (V.b false, []))))
  (some (V.b false, [])))))))))))))))))) : _) := by kernel_rfl
  rw [e]
  clear e
  by_cases q : (↑l.length : Int) > 1048576
  · simp [q]
  have l1 : l.length ≤ 1000000000 := by omega
  have l2 : l.length ≤ 1048576 := by omega
  obtain ⟨t3, t4, t5, t6⟩ := playO_len c r l
  obtain ⟨v1, v2, v3, v4, v5, v6, v7, v8, v9⟩ := playP_w c r l
  simp only [List.drop_zero, List.take_length, List.take_zero, List.nil_append, Nat.zero_add, List.drop_length, List.append_nil]
  have u5 : ∀ M : List Int, M.length = (playO c r l).1.w.length → List.take (playO c r l).1.w.length (List.drop (playP c r l).1.2 (List.take (playP c r l).1.2 (playP c r l).1.1.w ++ M ++ List.drop ((playP c r l).1.2 + (playO c r l).1.w.length) (playP c r l).1.1.w)) = M := fun M hM => by
    have e1 : (List.take (playP c r l).1.2 (playP c r l).1.1.w).length = (playP c r l).1.2 := by rw [List.length_take]; omega
    rw [List.append_assoc, List.drop_left' e1, List.take_left' hM]
  have u6 := fun k => u5 (marks markInt1 1 k (playO c r l).1.w.length) (marks_length _ _ _ _)
  rw [v9] at v1 v2
  simp only [v9, v3, v4, v5, v6, v7, v8, v1, u6]
  clear u5 u6 v1 v3 v4 v5 v6 v7 v8 v9
  generalize playO c r l = t at *
  generalize (playP c r l).1.2 = P at *
  generalize (playP c r l).1.1.w = R at *
  have e7 : ∀ (k : Int) (n : Nat), List.take n (marks markInt1 1 k n) = marks markInt1 1 k n := fun k n => List.take_of_length_le (by rw [marks_length]; exact Nat.le_refl _)
  simp only [e7, marks_length]
  have hlim : lim = 1000000000000 := rfl
  simp [q, l1]
  rw [hlim]
  omega

theorem law_loops : LoopsOk Try.prog (look [(28, .rd1 toBoolsG), (27, .rd1 splayG), (29, .rd1 iplayG), (22, .rd1 eqQueueG), (30, .rd1 eqIntsG), (31, .rd1 eqBoolsG), (32, .own markBoolG), (23, .own markQueueG), (33, .own markIntG), (24, .rd1 heldQueueG), (34, .rd1 heldIntG)]) (look []) 0 (Try.f6.body.getD .skip) := loopsOk_nil _
end Go.Proofs.Ytpoepgnhdhpkjaa.Den
