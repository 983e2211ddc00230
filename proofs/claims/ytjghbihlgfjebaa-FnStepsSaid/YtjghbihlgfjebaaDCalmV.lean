/- What functions of the program do, by the machine: CalmV. -/
import Derived.Test.YtjghbihlgfjebaaDSame2
import Derived.KernelRfl
import Derived.Test.YtjghbihlgfjebaaRows
namespace Go.Proofs.Ytjghbihlgfjebaa.Den
open Go.Proofs
set_option maxRecDepth 100000
/-- The base behind acks. -/
def ackB (e b : Int) : List (Int × Int × Unit) → Int
  | [] => b
  | z :: a => ackB e (if z.1 = e then (if z.2.1 > b then z.2.1 else b) else b) a
/-- All acks are taken. -/
def Ses.acks (s : Ses) : Ses := ⟨s.e, s.it, ackB s.e s.b s.a, s.ha, s.w, []⟩
/-- All packets are taken, each followed by all acks. -/
def Ses.calmL : List (Int × Int × List UInt8 × Unit) → Ses → Ses
  | [], s => s
  | p :: w, s => Ses.calmL w ((Ses.mk s.e s.it s.b s.ha w s.a).come p).acks
def Ses.calm (s : Ses) : Ses := Ses.calmL s.acks.w s.acks
/-- The base's item is sent, all is taken. -/
def Ses.round (s : Ses) : Ses := (s.next 2 s.b []).calm
def Ses.run : Nat → Ses → Ses
  | 0, s => s
  | f + 1, s => if s.b < s.it.length then Ses.run f s.round else s
def Ses.runs : Nat → Ses → Nat
  | 0, _ => 0
  | f + 1, s => if s.b < s.it.length then Ses.runs f s.round + 1 else 0
theorem Ses.acks_cons {e : Int} {it : List (List UInt8)} {b : Int} {ha : List (List UInt8)} {w : List (Int × Int × List UInt8 × Unit)} {z : (Int × Int × Unit)} {a : List (Int × Int × Unit)} : (Ses.mk e it b ha w (z :: a)).acks = ((Ses.mk e it b ha w (z :: a)).next 6 0 []).acks := rfl
theorem Ses.acks_nil {s : Ses} (h : s.a = []) : s.acks = s := by
  obtain ⟨e, it, b, ha, w, a⟩ := s
  dsimp only at h
  subst h
  rfl
theorem Ses.ok6 {s : Ses} (h : 0 < s.a.length) : s.ok 6 0 [] = true := by simp [Ses.ok, h]
theorem Ses.ok3 {s : Ses} (h : 0 < s.w.length) : s.ok 3 0 [] = true := by simp [Ses.ok]; exact h
theorem ackB_inv {m : Nat} {e : Int} : ∀ (a : List (Int × Int × Unit)) (b : Int), (∀ z ∈ a, 0 ≤ z.2.1 ∧ z.2.1 ≤ (m : Int)) → 0 ≤ b ∧ b ≤ m → b ≤ ackB e b a ∧ ackB e b a ≤ m
  | [], b, _, h => ⟨Int.le_refl _, h.2⟩
  | z :: a, b, ha, h => by
    have hz := ha z (List.mem_cons_self ..)
    unfold ackB
    have ih := ackB_inv (e := e) a (if z.1 = e then (if z.2.1 > b then z.2.1 else b) else b) (fun z hz => ha z (List.mem_cons_of_mem _ hz)) (by split; split; omega; omega; omega)
    refine ⟨Int.le_trans ?_ ih.1, ih.2⟩
    split
    · split <;> omega
    · omega
theorem Ses.acks_inv {s : Ses} {n : Nat} (h : s.inv n) : s.acks.inv n := by
  obtain ⟨h1, h2, h3, h4, h5, h6, h7⟩ := h
  have hb := ackB_inv (m := s.ha.length) (e := s.e) s.a s.b h3 h2
  exact ⟨h1, ⟨Int.le_trans h2.1 hb.1, hb.2⟩, (by intro z hz; cases hz), h4, h5, h6, Nat.zero_le _⟩
theorem Ses.next3 {e : Int} {it : List (List UInt8)} {b : Int} {ha : List (List UInt8)} {p : (Int × Int × List UInt8 × Unit)} {w : List (Int × Int × List UInt8 × Unit)} {a : List (Int × Int × Unit)} : (Ses.mk e it b ha (p :: w) a).next 3 0 [] = (Ses.mk e it b ha w a).come p := rfl
theorem Ses.come_fix {s : Ses} (p : (Int × Int × List UInt8 × Unit)) : (s.come p).w = s.w ∧ (s.come p).it = s.it ∧ (s.come p).e = s.e ∧ (s.come p).b = s.b := by
  unfold Ses.come
  repeat' split
  all_goals exact ⟨rfl, rfl, rfl, rfl⟩
theorem Ses.take_inv {e : Int} {it : List (List UInt8)} {b : Int} {ha : List (List UInt8)} {p : (Int × Int × List UInt8 × Unit)} {w : List (Int × Int × List UInt8 × Unit)} {a : List (Int × Int × Unit)} {n : Nat} (h : (Ses.mk e it b ha (p :: w) a).inv n) : (((Ses.mk e it b ha w a).come p).acks).inv (n + 1) := by
  obtain ⟨h1, h2, h3, h4, h5, h6, h7⟩ := h
  have hd : (Ses.mk e it b ha w a).inv n := ⟨h1, h2, h3, h4, h5, by simp at h6; dsimp only; omega, h7⟩
  exact Ses.acks_inv (Ses.come_inv hd p)
theorem Ses.calmL_inv : ∀ (w : List (Int × Int × List UInt8 × Unit)) {s : Ses} {n : Nat}, s.w = w → s.a = [] → s.inv n → (Ses.calmL w s).inv (n + w.length) ∧ (Ses.calmL w s).w = [] ∧ (Ses.calmL w s).a = [] ∧ (Ses.calmL w s).it = s.it ∧ s.b ≤ (Ses.calmL w s).b
  | [], s, n, hw, ha, h => ⟨h, hw, ha, rfl, Int.le_refl _⟩
  | p :: w, s, n, hw, ha, h => by
    obtain ⟨e, it, b, hh, w0, a⟩ := s
    dsimp only at hw ha
    subst hw
    have hi := Ses.take_inv h
    have hf := Ses.come_fix (s := Ses.mk e it b hh w a) p
    have ih := Ses.calmL_inv w (s := ((Ses.mk e it b hh w a).come p).acks) (n := n + 1) hf.1 rfl hi
    rw [Ses.calmL, List.length_cons, show n + (w.length + 1) = n + 1 + w.length by omega]
    refine ⟨ih.1, ih.2.1, ih.2.2.1, ih.2.2.2.1.trans hf.2.1, Int.le_trans ?_ ih.2.2.2.2⟩
    have hc : ((Ses.mk e it b hh w a).come p).inv (n + 1) := by
      obtain ⟨h1, h2, h3, h4, h5, h6, h7⟩ := h
      exact Ses.come_inv (s := Ses.mk e it b hh w a) ⟨h1, h2, h3, h4, h5, by simp at h6; dsimp only; omega, h7⟩ p
    have := (ackB_inv (m := ((Ses.mk e it b hh w a).come p).ha.length) (e := ((Ses.mk e it b hh w a).come p).e) _ ((Ses.mk e it b hh w a).come p).b hc.2.2.1 hc.2.1).1
    exact Int.le_trans (Int.le_of_eq hf.2.2.2.symm) this
theorem Ses.calm_inv {s : Ses} {n : Nat} (h : s.inv n) : (s.calm).inv (n + s.w.length) ∧ s.calm.w = [] ∧ s.calm.a = [] ∧ s.calm.it = s.it := by
  have := Ses.calmL_inv s.acks.w (s := s.acks) rfl rfl (Ses.acks_inv h)
  exact ⟨this.1, this.2.1, this.2.2.1, this.2.2.2.1⟩
/-- A round takes the base on. -/
theorem Ses.round_inv {s : Ses} {n : Nat} (h : s.inv n) (hw : s.w = []) (ha : s.a = []) (hb : s.b < s.it.length) : s.round.inv (n + 2) ∧ s.round.w = [] ∧ s.round.a = [] ∧ s.round.it = s.it ∧ s.b < s.round.b := by
  obtain ⟨e, it, b, hh, w, a⟩ := s
  dsimp only at hw ha hb
  subst hw ha
  obtain ⟨h1, h2, h3, h4, h5, h6, h7⟩ := h
  dsimp only at h1 h2 h4 h5
  have hok : (Ses.mk e it b hh [] []).ok 2 b [] = true := by
    simp [Ses.ok]; omega
  have hn := Ses.next_inv (s := Ses.mk e it b hh [] []) (n := n) ⟨h1, h2, h3, h4, h5, h6, h7⟩ hok
  have hc := Ses.calm_inv hn
  refine ⟨hc.1, hc.2.1, hc.2.2.1, hc.2.2.2, ?_⟩
  show b < ((Ses.mk e it b hh ([] ++ [(e, b, it.getD b.toNat [], ())]) []).calm).b
  show b < (Ses.calmL [(e, b, it.getD b.toNat [], ())] (Ses.mk e it b hh [(e, b, it.getD b.toNat [], ())] [])).b
  rw [Ses.calmL, Ses.calmL]
  unfold Ses.come
  rw [if_pos rfl]
  by_cases q : b = hh.length
  · rw [if_pos q]
    simp [Ses.acks, ackB]
    split <;> omega
  · rw [if_neg q]
    simp [Ses.acks, ackB]
    split <;> omega
end Go.Proofs.Ytjghbihlgfjebaa.Den
