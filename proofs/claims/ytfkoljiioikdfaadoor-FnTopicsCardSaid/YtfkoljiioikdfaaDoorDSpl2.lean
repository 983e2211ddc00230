/- What functions of the program do, by the machine: Spl2. -/
import Derived.Test.YtfkoljiioikdfaaDoorDSpl
import Derived.KernelRfl
import Derived.Test.YtfkoljiioikdfaaDoorRows
namespace Go.Proofs.YtfkoljiioikdfaaDoor.Den
open Go.Proofs
set_option maxRecDepth 100000
/-- A row that is new. -/
theorem left_new {w : World} {R : Nat → Prop} {μ : Nat → Option RB} {l : List (List UInt8)} {us : Array Value} {e : TypeId}
    (hn : ∀ j, 0 ≤ j → μ j = none) (rlt : ∀ x, R x → x < w.heap.size) (hm : l.length ≤ maxI) (hz : l.length ≤ us.size)
    (hv : ∀ (i : Nat) (z : List UInt8), l[i]? = some z → us[i]? = some (Value.string ⟨z.toArray⟩)) :
    Left w R μ (fun j => ([] : List Blk)[j]?) (.ref 0 0 l.length) [some (.row false none .str l)] (.slice (some ⟨w.heap.size, 0, none⟩) l.length l.length) (w.alloc (.cells us e)) R (updM μ 0 (.at w.heap.size 0 1 l.length l.length)) := by
  have h0 : μ 0 = none := hn 0 (Nat.le_refl _)
  have hR : ¬ R w.heap.size := fun hr => by have := rlt _ hr; omega
  have at0 : ∀ j B, (([some (Blk.row false none .str l)] : List (Option Blk))[j]?).join = some B → j = 0 ∧ B = .row false none .str l := fun j B hB => by
    match j with
    | 0 => simp at hB; exact ⟨rfl, hB.symm⟩
    | j + 1 => simp at hB
  refine ⟨?_, ⟨?_, ?_, ?_, fun x hx => Nat.lt_of_lt_of_le (rlt x hx) (by simp)⟩, rfl, rfl, rfl, by simp, ?_, fun x h => h, fun x h => .inl h, ?_, ?_, updM_ext h0 _, ?_⟩
  · exact .ref 0 0 l.length w.heap.size 0 1 l.length l.length ⟨w.heap.size, 0, none⟩ (updM_self _ _ _) (Nat.le_refl _) (by omega) hm (.inr (by simp))
  · intro id B hB
    obtain ⟨rfl, rfl⟩ := at0 id B hB
    refine ⟨_, updM_self _ _ _, .row w.heap.size 0 1 l.length l.length false none .str l us e rfl (by simp only [World.alloc]; simp) ⟨rfl, Nat.le_refl _⟩ hm (by omega) ?_ (by simp)⟩
    intro i z j v hi hj
    match j with
    | 0 =>
      simp only [enc, List.getElem?_cons_zero, Option.some.injEq] at hj
      subst hj
      exact ⟨_, by simpa using hv i z hi, .s _⟩
    | j + 1 => simp [enc] at hj
  · intro id id' B B' rb1 rb2 x g1 g2 _ _ _ _ _ _
    rw [(at0 id B g1).1, (at0 id' B' g2).1]
  · intro id B rb1 x g1 o1 m1 e1
    obtain ⟨rfl, rfl⟩ := at0 id B g1
    rw [updM_self] at m1; simp at m1; subst m1
    simp [RB.real] at e1; subst e1
    exact hR
  · intro k hk hno
    exact heap_alloc_lt _ _ hk
  · intro j B rb1 x g1 o1 m1 e1
    obtain ⟨rfl, rfl⟩ := at0 j B g1
    rw [updM_self] at m1; simp at m1; subst m1
    simp [RB.real] at e1; subst e1
    exact .inr (Nat.le_refl _)
  · intro j B rb1 x g1 m1 e1
    obtain ⟨rfl, rfl⟩ := at0 j B g1
    rw [updM_self] at m1; simp at m1; subst m1
    simp [RB.real] at e1; subst e1
    exact .inr (Nat.le_refl _)
  · intro j hj
    have hj : 1 ≤ j := hj
    have hne : j ≠ 0 := by omega
    simp only [updM, hne, if_false]
    exact hn j (by omega)
theorem splitC : Contract Tryd.prog 60 (Ent.rd1 splitG).F := by
  intro w R μ vs us bs r outs hmem hnone hreps hF
  unfold Ent.F splitG at hF
  dsimp only at hF
  split at hF
  rotate_left
  · cases hF
  rename_i s c
  obtain ⟨hc, h⟩ := need_some hF
  have hc := of_decide_eq_true hc
  obtain ⟨rfl, rfl⟩ := Prod.mk.inj (leaf_some h)
  clear h hF
  match us, hreps with
  | [u0, u1], hreps =>
  have v0 := hreps.2 0 _ u0 rfl rfl
  have v1 := hreps.2 1 _ u1 rfl rfl
  cases v0
  cases v1
  have hsz : (⟨s.toArray⟩ : ByteArray).size = s.length := by simp [ByteArray.size]
  refine (split_one (ρ := splRen) splLays (by kernel_rfl) ⟨s.toArray⟩ c w (by rw [hsz]; omega)).mono ?_
  rintro e w' ⟨rfl, rfl⟩
  have hcount : Lib.countB ⟨s.toArray⟩ ⟨#[c]⟩ = s.count c := by
    show Lib.count s.toArray.toList [c] = _
    rw [Lib.count_one]
  have hdata := Lib.splitB_data ⟨#[c]⟩ 0 (s.count c) ⟨s.toArray⟩
  have hcut : (Lib.splitB ⟨#[c]⟩ 0 (s.count c) ⟨s.toArray⟩).map (·.data.toList) = cut c s := by rw [hdata]; exact split_cut c s
  rw [hcount]
  generalize Lib.splitB ⟨#[c]⟩ 0 (s.count c) ⟨s.toArray⟩ = L at *
  have hl : L.length = (cut c s).length := by rw [← hcut, List.length_map]
  have hlc := cut_len c s
  have hcs := List.count_le_length (a := c) (l := s)
  have := left_new (w := w) (R := R) (μ := μ) (l := cut c s) (us := (L.map Value.string).toArray) (e := splRen.t 9) (fun j _ => hnone j (by simp)) hmem.rlt (by unfold maxI; omega) (by simp; omega) (fun i z hi => by
    rw [← hcut, List.getElem?_map] at hi
    obtain ⟨x, hx, rfl⟩ := Option.map_eq_some_iff.1 hi
    simp [hx])
  rw [hlc] at this ⊢
  exact ⟨_, R, _, rfl, this⟩
end Go.Proofs.YtfkoljiioikdfaaDoor.Den
