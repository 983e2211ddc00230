/- What functions of the program do, by the machine: Spl. -/
import Derived.Test.YtfkoljiioikdfaaDoorDen4
import Derived.KernelRfl
import Derived.Test.YtfkoljiioikdfaaDoorRows
import Derived.Shelf.Strings.Split
namespace Go.Proofs.YtfkoljiioikdfaaDoor.Den
open Go.Proofs
set_option maxRecDepth 100000
/-- A text cut at each of a byte. -/
def cut (c : UInt8) : List UInt8 → List (List UInt8)
  | [] => [[]]
  | b :: l => if b = c then [] :: cut c l else match cut c l with
    | [] => []
    | h :: t => (b :: h) :: t
def splitG : List V → List Blk → Br (V × List (Option Blk))
  | [.s s, .s [c]], [] => .need (decide (s.length ≤ 4000000000)) (.leaf (.ref 0 0 (cut c s).length, [some (.row false none .str (cut c s))]))
  | _, _ => .no
open Go.Lib in
theorem index_cons1 (b c : UInt8) (l : List UInt8) : Lib.index (b :: l) [c] = if b = c then 0 else if Lib.index l [c] = -1 then -1 else Lib.index l [c] + 1 := by
  rw [Lib.index]
  by_cases h : b = c
  · subst h; simp [List.isPrefixOf]
  · simp [List.isPrefixOf, Ne.symm h, h]
open Go.Lib in
theorem index_mem1 (c : UInt8) : ∀ l : List UInt8, c ∈ l → Lib.index l [c] ≠ -1
  | [], h => by simp at h
  | b :: l, h => by
    have hge := Lib.index_ge l [c]
    rw [index_cons1]
    by_cases hb : b = c
    · simp [hb]
    · have := index_mem1 c l (by simpa [Ne.symm hb] using h)
      simp [hb, this]; omega
open Go.Lib in
theorem split_cut (c : UInt8) : ∀ s : List UInt8, Lib.splitK [c] 0 (s.count c) s = cut c s
  | [] => rfl
  | b :: l => by
    by_cases h : b = c
    · subst h
      have hi : Lib.index (b :: l) [b] = 0 := by rw [index_cons1, if_pos rfl]
      rw [List.count_cons_self, cut, if_pos rfl, ← split_cut b l, Lib.splitK]
      simp [hi]
    · rw [List.count_cons_of_ne (by simpa using h), cut, if_neg h, ← split_cut c l]
      cases hk : l.count c with
      | zero => simp [Lib.splitK]
      | succ k =>
        have hm : c ∈ l := List.count_pos_iff.1 (by omega)
        have hne := index_mem1 c l hm
        have hge := Lib.index_ge l [c]
        obtain ⟨j, hj⟩ : ∃ j : Nat, Lib.index l [c] = j := ⟨(Lib.index l [c]).toNat, by omega⟩
        have hi : Lib.index (b :: l) [c] = ((j + 1 : Nat) : Int) := by rw [index_cons1, if_neg h, if_neg hne, hj]; omega
        have e1 : ((Lib.index l [c]) == -1) = false := by rw [hj]; exact beq_false_of_ne (by omega)
        have e2 : ((((j + 1 : Nat) : Int)) == -1) = false := beq_false_of_ne (by omega)
        rw [Lib.splitK, Lib.splitK, hi, e1, e2, hj]
        simp [Nat.add_assoc]
theorem cut_ne (c : UInt8) : ∀ s : List UInt8, cut c s ≠ []
  | [] => by simp [cut]
  | b :: l => by
    rw [cut]
    split
    · simp
    · have := cut_ne c l
      split
      · rename_i h; exact absurd h this
      · simp
theorem cut_len (c : UInt8) (s : List UInt8) : (cut c s).length = s.count c + 1 := by
  induction s with
  | nil => rfl
  | cons b l ih =>
    rw [cut]
    by_cases h : b = c
    · rw [if_pos h]; subst h; simp [ih]
    · rw [if_neg h, List.count_cons_of_ne (by simpa using h), ← ih]
      have := cut_ne c l
      split
      · rename_i hh; exact absurd hh this
      · rename_i hh; rw [hh]; rfl
open Go.Lib Go.Shelf Go.RowKit Go.Proofs in
set_option maxHeartbeats 1000000 in
theorem split_one {P : Program} {ρ : Ren} (L : Lays.n146 P ρ) (hi9 : (P.info? (ρ.t 9)).map (fun i => (i.zero, i.size, i.bytes)) = some (some (.string ByteArray.empty), 1, 16)) (s : ByteArray) (b : UInt8) (w : World) (hs : s.size < 4294967281) :
    Calls P (ρ.f 146) #[.string s, .string ⟨#[b]⟩] w fun e w' =>
      e = .returned (.slice (some ⟨w.heap.size, 0, none⟩) (Lib.countB s ⟨#[b]⟩ + 1) (Lib.countB s ⟨#[b]⟩ + 1)) ∧ w' = w.alloc (.cells ((Lib.splitB ⟨#[b]⟩ 0 (Lib.countB s ⟨#[b]⟩) s).map Value.string).toArray (ρ.t 9)) := by
  have h1 : 1 ≤ (⟨#[b]⟩ : ByteArray).size := Nat.le_refl _
  have hle := Lib.countB_le ⟨#[b]⟩ h1 s.size s (Nat.le_refl _)
  have hlen := Lib.splitB_all ⟨#[b]⟩ h1 0 _ s rfl
  have c := Any.strings_genSplit_core (ρ := ρ) { L with } hi9 s ⟨#[b]⟩ 0 (-1) (Lib.countB s ⟨#[b]⟩ + 1) w hs h1 (Nat.zero_le _)
    (fun x cc _ => (Any.strings_Index_one { L with } x b _).mono fun e w' ⟨he, hw⟩ => ⟨by rw [he]; show _ = Ending.returned (Value.int .i64 (Lib.index x.data.toList [b])); rw [Lib.index_one], hw⟩)
    ((Any.strings_Count_one { L with } s b w).mono fun e w' ⟨he, hw⟩ => ⟨by rw [he]; show _ = Ending.returned (Value.int .i64 ((Lib.count s.data.toList [b] : Nat) : Int)); rw [Lib.count_one]; rfl, hw⟩)
    (by decide) (by decide) (by rw [if_pos (by decide)]; omega)
  rw [Nat.add_sub_cancel, hlen] at c
  have e2 : Lib.cellsOf (Lib.splitB ⟨#[b]⟩ 0 (Lib.countB s ⟨#[b]⟩) s) (Lib.countB s ⟨#[b]⟩ + 1) = ((Lib.splitB ⟨#[b]⟩ 0 (Lib.countB s ⟨#[b]⟩) s).map Value.string).toArray := by rw [← hlen]; exact Lib.cellsOf_full _
  rw [e2] at c
  have t3 := L.t3; have t9 := L.t9; have t31 := L.t31
  have a3 := L.a3; have a9 := L.a9; have a31 := L.a31
  have z3 := L.z3; have v3 := L.v3; have z9 := L.z9; have v9 := L.v9; have z31 := L.z31; have v31 := L.v31
  have e221 : ∀ args w, (callFunc (ρ.f 221) args).run P w = .ok (.enter (ρ.f 221) args) w := enters_of L.f221 (by kernel_rfl) rfl
  go_enter L.f146, Body.n146_ntmps ρ
  go_wp2_with (go_at_fn (ρ.f 221); refine c.mono ?_; rintro e w' ⟨rfl, hw⟩; rw [hw])
  go_ret
  exact ⟨rfl, rfl⟩
open Go.Shelf in
noncomputable def splRen : Ren := ⟨fun k => match k with | 146 => 60 | 221 => 76 | 138 => 84 | 143 => 85 | 195 => 88 | 197 => 89 | 217 => 94 | 218 => 90 | 219 => 91 | 224 => 96 | 225 => 95 | 260 => 93 | 266 => 98 | 267 => 97 | 268 => 83 | 314 => 99 | k => k,
  fun k => match k with | 0 => 0 | 3 => 3 | 4 => 4 | 5 => 5 | 9 => 9 | 21 => 21 | 31 => 54 | 46 => 94 | 51 => 108 | 105 => 100 | 119 => 104 | 138 => 106 | 139 => 107 | 146 => 109 | k => k,
  fun k => match k with | 1 => 0 | 3 => 1 | 4 => 2 | k => k⟩
open Go.Shelf in
theorem splLays : Lays.n146 Tryd.prog splRen := by
  constructor
  all_goals first | kernel_rfl | (intro w; kernel_rfl)
end Go.Proofs.YtfkoljiioikdfaaDoor.Den
