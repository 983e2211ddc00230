/- What functions of the program do, by the machine: LFQ0. -/
import Derived.Test.YtjghbihlgfjebaaDQueD
import Derived.KernelRfl
import Derived.Test.YtjghbihlgfjebaaRows
namespace Go.Proofs.Ytjghbihlgfjebaa.Den
open Go.Proofs
set_option maxRecDepth 100000
theorem Que.Fine.full {q : Que} (f : q.Fine) {x : Int} (h0 : 0 ≤ x) (h1 : x < q.n) : x ∈ q.w ++ q.h ++ q.d := by
  have hg := f.good
  unfold Que.good goodQ at hg
  rw [Bool.and_eq_true] at hg
  obtain ⟨hc, hs⟩ := hg
  obtain ⟨_, _, h3, _, h5⟩ := of_decide_eq_true hc
  obtain ⟨m, hm⟩ := Int.eq_ofNat_of_zero_le h3.1
  rw [hm, Int.toNat_natCast] at hs
  obtain ⟨s3, hs3⟩ := Option.isSome_iff_exists.1 hs
  obtain ⟨l3, c3⟩ := seenLL3 hs3
  rw [List.length_replicate, List.count_replicate] at *
  have hfull : false ∉ s3 := count_full.2 (by simp at c3; omega)
  unfold seenLL at hs3
  split at hs3
  rotate_left
  · cases hs3
  rename_i s1 e1
  unfold seenLL at hs3
  split at hs3
  rotate_left
  · cases hs3
  rename_i s2 e2
  unfold seenLL at hs3
  split at hs3
  rotate_left
  · cases hs3
  rename_i s4 e3
  obtain rfl : s4 = s3 := by cases hs3; rfl
  have l1 := seenL_length e1
  have l2 := seenL_length e2
  have a4 := (seenL_facts e1).2.2.2 x.toNat
  have b4 := (seenL_facts e2).2.2.2 x.toNat
  have c4 := (seenL_facts e3).2.2.2 x.toNat
  rw [List.length_replicate] at l1 a4
  have hx : x.toNat < m := by omega
  rw [a4 hx] at b4
  rw [b4 (by omega)] at c4
  have c4 := c4 (by omega)
  have ht : s4.getD x.toNat true = true := by
    have hlt : x.toNat < s4.length := by omega
    rw [List.getD_eq_getElem?_getD, List.getElem?_eq_getElem hlt]
    cases hb : s4[x.toNat] with
    | true => rfl
    | false => exact (hfull (hb ▸ List.getElem_mem hlt)).elim
  have r0 : (List.replicate m false).getD x.toNat true = false := by simp [List.getD, hx]
  rw [ht, r0, show ((x.toNat : Nat) : Int) = x by omega] at c4
  simp at c4
  simp only [List.mem_append]
  exact c4
end Go.Proofs.Ytjghbihlgfjebaa.Den
