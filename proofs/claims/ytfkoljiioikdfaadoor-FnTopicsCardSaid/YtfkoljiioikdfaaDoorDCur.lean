/- What functions of the program do, by the machine: Cur. -/
import Derived.Test.YtfkoljiioikdfaaDoorDTop8
import Derived.KernelRfl
import Derived.Test.YtfkoljiioikdfaaDoorRows
namespace Go.Proofs.YtfkoljiioikdfaaDoor.Den
open Go.Proofs
set_option maxRecDepth 100000
/-- A cursor over drawn bytes. -/
structure Cur where
  l : List Int
  a : Int
  s : Int
def Cur.byte (c : Cur) : Int := if c.a < c.l.length then IntKind.i64.wrap (c.l.getD c.a.toNat 0) else 0
def Cur.seed (c : Cur) : Int := IntKind.u64.wrap (IntKind.u64.wrap (IntKind.u64.wrap (c.s * 6364136223846793005) + IntKind.u64.wrap c.byte) + 1442695040888963407)
/-- The number drawn. -/
def Cur.val (c : Cur) : Int := if c.a + 1 ≤ c.l.length then c.byte else IntKind.i64.wrap (IntKind.u64.wrap (((BitVec.ofInt IntKind.u64.bits (c.seed.fdiv ((2 : Int) ^ min 40 IntKind.u64.bits)) &&& BitVec.ofInt IntKind.u64.bits 255).toNat : Nat) : Int))
def Cur.adv (c : Cur) : Cur := ⟨c.l, c.a + 1, c.seed⟩
def Cur.good (c : Cur) (n : Int) : Prop := (∀ z ∈ c.l, 0 ≤ z ∧ z ≤ 255) ∧ 0 ≤ c.a ∧ c.a ≤ n
instance (c : Cur) (n : Int) : Decidable (c.good n) := by unfold Cur.good; exact inferInstance
def Cur.pickV (c : Cur) (n : Int) : Int := if n ≤ 1 then 0 else if n > 200 then (c.val * 256 + c.adv.val).tmod n else c.val.tmod n
def Cur.pickC (c : Cur) (n : Int) : Cur := if n ≤ 1 then c else if n > 200 then c.adv.adv else c.adv
def cnextG : List V → List Blk → Br (V × List (Option Blk))
  | [.ptr 0 0], [.box [.sl (.int .u8) l, .i .i64 a, .i .u64 s]] => .need (decide ((Cur.mk l a s).good 1000000000)) (.leaf (.i .i64 (Cur.mk l a s).val, [some (.box [.sl (.int .u8) (Cur.mk l a s).adv.l, .i .i64 (Cur.mk l a s).adv.a, .i .u64 (Cur.mk l a s).adv.s])]))
  | _, _ => .no
theorem Cur.byte_range {c : Cur} {n : Int} (h : c.good n) : 0 ≤ c.byte ∧ c.byte ≤ 255 := by
  unfold Cur.byte
  split
  · rename_i ha
    have h0 := h.2.1
    have hi : c.a.toNat < c.l.length := by omega
    have hz := h.1 _ (List.getElem_mem hi)
    have eg : c.l.getD c.a.toNat 0 = c.l[c.a.toNat] := by simp [hi]
    rw [eg, wrap_id (by omega) (by omega)]
    exact hz
  · omega
theorem Cur.val_range {c : Cur} {n : Int} (h : c.good n) : 0 ≤ c.val ∧ c.val ≤ 255 := by
  unfold Cur.val
  split
  · exact Cur.byte_range h
  · generalize BitVec.ofInt IntKind.u64.bits (c.seed.fdiv ((2 : Int) ^ min 40 IntKind.u64.bits)) = x
    have hx : (x &&& BitVec.ofInt IntKind.u64.bits 255).toNat ≤ 255 := by
      rw [BitVec.toNat_and]
      exact Nat.le_trans Nat.and_le_right (by decide)
    generalize (x &&& BitVec.ofInt IntKind.u64.bits 255).toNat = m at hx
    have e1 : IntKind.u64.wrap (m : Int) = (m : Int) := by
      unfold IntKind.wrap
      simp [IntKind.bits, IntKind.signed]
      omega
    rw [e1, wrap_id (by omega) (by omega)]
    omega
theorem Cur.adv_good {c : Cur} {n : Int} (h : c.good n) : c.adv.good (n + 1) := ⟨h.1, by show 0 ≤ c.a + 1; have := h.2.1; omega, by show c.a + 1 ≤ n + 1; have := h.2.2; omega⟩
theorem Cur.good_mono {c : Cur} {n m : Int} (h : c.good n) (hm : n ≤ m) : c.good m := ⟨h.1, h.2.1, by have := h.2.2; omega⟩
theorem Cur.pickC_good {c : Cur} {n k : Int} (h : c.good n) : (c.pickC k).good (n + 2) := by
  unfold Cur.pickC
  split
  · exact Cur.good_mono h (by omega)
  · split
    · have := Cur.adv_good (Cur.adv_good h)
      exact Cur.good_mono this (by omega)
    · exact Cur.good_mono (Cur.adv_good h) (by omega)
theorem Cur.pickV_range {c : Cur} {n k : Int} (h : c.good n) (hk : 1 ≤ k) : 0 ≤ c.pickV k ∧ c.pickV k < k := by
  have h1 := Cur.val_range h
  have h2 := Cur.val_range (Cur.adv_good h)
  unfold Cur.pickV
  split
  · omega
  · split
    · rw [Int.tmod_eq_emod_of_nonneg (by omega)]
      exact ⟨Int.emod_nonneg _ (by omega), Int.emod_lt_of_pos _ (by omega)⟩
    · rw [Int.tmod_eq_emod_of_nonneg (by omega)]
      exact ⟨Int.emod_nonneg _ (by omega), Int.emod_lt_of_pos _ (by omega)⟩
theorem cnext_fun (l : List Int) (a s : Int) (hc : (Cur.mk l a s).good 1000000000) : funK Tryd.prog (look []) (look []) Tryd.f75 [.ptr 0 0] [.box [.sl (.int .u8) l, .i .i64 a, .i .u64 s]] = (.leaf (.i .i64 (Cur.mk l a s).val, [some (.box [.sl (.int .u8) (Cur.mk l a s).adv.l, .i .i64 (Cur.mk l a s).adv.a, .i .u64 (Cur.mk l a s).adv.s])]) : Br (V × List (Option Blk))).run := by
  have e : funK Tryd.prog (look []) (look []) Tryd.f75 [.ptr 0 0] [.box [.sl (.int .u8) l, .i .i64 a, .i .u64 s]] =
    ((ifB (decide (a < (↑l.length : Int)))
  (ifT (decide ((0 : Int) ≤ a) && decide (a < (↑l.length : Int)))
  (ifSome l[a.toNat]? fun z =>
  ifB (decide (IntKind.i64.wrap (a + (1 : Int)) ≤ (↑l.length : Int)))
  (some
  (V.i IntKind.i64 (IntKind.i64.wrap z),
  [some
  (Blk.box
  [V.sl (Cd.int IntKind.u8) l, V.i IntKind.i64 (IntKind.i64.wrap (a + (1 : Int))),
  V.i IntKind.u64
  (IntKind.u64.wrap
  (IntKind.u64.wrap
  (IntKind.u64.wrap (s * (6364136223846793005 : Int)) +
  IntKind.u64.wrap (IntKind.i64.wrap z)) +
  (1442695040888963407 : Int)))])]))
  (some
  (V.i IntKind.i64
  (IntKind.i64.wrap
  (IntKind.u64.wrap
  (↑(BitVec.ofInt IntKind.u64.bits
  ((IntKind.u64.wrap
  (IntKind.u64.wrap
  (IntKind.u64.wrap (s * (6364136223846793005 : Int)) +
  IntKind.u64.wrap (IntKind.i64.wrap z)) +
  (1442695040888963407 : Int))).fdiv
  ((2 : Int) ^ min (40 : Nat) IntKind.u64.bits)) &&&
  BitVec.ofInt IntKind.u64.bits (255 : Int)).toNat :
  Int))),
  [some
  (Blk.box
  [V.sl (Cd.int IntKind.u8) l, V.i IntKind.i64 (IntKind.i64.wrap (a + (1 : Int))),
  V.i IntKind.u64
  (IntKind.u64.wrap
  (IntKind.u64.wrap
  (IntKind.u64.wrap (s * (6364136223846793005 : Int)) +
  IntKind.u64.wrap (IntKind.i64.wrap z)) +
  (1442695040888963407 : Int)))])]))))
  (ifB (decide (IntKind.i64.wrap (a + (1 : Int)) ≤ (↑l.length : Int)))
  (some
  (V.i IntKind.i64 (0 : Int),
  [some
  (Blk.box
  [V.sl (Cd.int IntKind.u8) l, V.i IntKind.i64 (IntKind.i64.wrap (a + (1 : Int))),
  V.i IntKind.u64
  (IntKind.u64.wrap
  (IntKind.u64.wrap
  (IntKind.u64.wrap (s * (6364136223846793005 : Int)) + IntKind.u64.wrap (0 : Int)) +
  (1442695040888963407 : Int)))])]))
  (some
  (V.i IntKind.i64
  (IntKind.i64.wrap
  (IntKind.u64.wrap
  (↑(BitVec.ofInt IntKind.u64.bits
  ((IntKind.u64.wrap
  (IntKind.u64.wrap
  (IntKind.u64.wrap (s * (6364136223846793005 : Int)) + IntKind.u64.wrap (0 : Int)) +
  (1442695040888963407 : Int))).fdiv
  ((2 : Int) ^ min (40 : Nat) IntKind.u64.bits)) &&&
  BitVec.ofInt IntKind.u64.bits (255 : Int)).toNat :
  Int))),
  [some
  (Blk.box
  [V.sl (Cd.int IntKind.u8) l, V.i IntKind.i64 (IntKind.i64.wrap (a + (1 : Int))),
  V.i IntKind.u64
  (IntKind.u64.wrap
  (IntKind.u64.wrap
  (IntKind.u64.wrap (s * (6364136223846793005 : Int)) + IntKind.u64.wrap (0 : Int)) +
  (1442695040888963407 : Int)))])])))) : _) := by kernel_rfl
  rw [e]
  clear e
  have h0 := hc.2.1
  have h1 := hc.2.2
  dsimp only at h0 h1
  rw [wrap_id (n := a + 1) (by omega) (by omega)]
  by_cases q : a < (l.length : Int)
  · have hi : a.toNat < l.length := by omega
    have eb : (Cur.mk l a s).byte = IntKind.i64.wrap l[a.toNat] := by unfold Cur.byte; dsimp only; rw [if_pos q]; simp [hi]
    have q1 : a + 1 ≤ (l.length : Int) := by omega
    rw [ifB_true (decide_eq_true q), ifT_true (by simp only [Bool.and_eq_true, decide_eq_true_eq]; omega), List.getElem?_eq_getElem hi, ifSome_s, ifB_true (decide_eq_true q1), ← eb]
    have ev : (Cur.mk l a s).val = (Cur.mk l a s).byte := by unfold Cur.val; dsimp only; rw [if_pos q1]
    rw [ev]
    rfl
  · have eb : (Cur.mk l a s).byte = 0 := by unfold Cur.byte; dsimp only; rw [if_neg q]
    have q1 : ¬ a + 1 ≤ (l.length : Int) := by omega
    rw [ifB_false (decide_eq_false q), ifB_false (decide_eq_false q1), ← eb]
    have ev : (Cur.mk l a s).val = IntKind.i64.wrap (IntKind.u64.wrap (((BitVec.ofInt IntKind.u64.bits ((Cur.mk l a s).seed.fdiv ((2 : Int) ^ min 40 IntKind.u64.bits)) &&& BitVec.ofInt IntKind.u64.bits 255).toNat : Nat) : Int)) := by unfold Cur.val; dsimp only; rw [if_neg q1]
    rw [ev]
    rfl
theorem cnext : Contract Tryd.prog 75 (Ent.own cnextG).F := by
  refine fun_contract' KnowsL.nil.knows (Λ := look []) Tryd.func75 (c := Tryd.f75.body.getD .skip) (by kernel_rfl) fun vs bs r h hv hb => ?_
  unfold Ent.F cnextG at h
  dsimp only at h
  split at h
  · rename_i l a s
    obtain ⟨hc, h⟩ := need_some h
    exact ⟨loopsOk_nil _, (cnext_fun l a s (of_decide_eq_true hc)).trans h⟩
  · cases h
end Go.Proofs.YtfkoljiioikdfaaDoor.Den
