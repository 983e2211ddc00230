/- Arguments opened: slices and structs of one-cell fields, as the walks want them -/
import Derived.Test.YtohoggoggchaeaaLib
import Derived.ProofKit
import Derived.Deep.Slices
import Derived.Deep.Fields
namespace Go.Proofs.Ytohoggoggchaeaa
open Go.ChangeShapes Go.WideShapes Go.ChangeAt Go.RowKit Go.Deep
set_option linter.unusedVariables false

section
variable {H : Type} {enc : TypeId × Value → H} {P : Program} {w : World} {base : Nat} {spare : Nat → Bool} {held : Bool}

/-- A struct of one-cell fields: each field read for itself. -/
theorem open_fields {r : Reach} {b0 : Nat} {t : TypeId} {fs : Array Field} {v : Value} {d : DataW H} {p : List MemPlace} (hs : P.underlying t = some (.struct fs)) (hone : oneCellFields P fs = true) (hC : P.cellsOf t = fs.size)
    (hv : Value.okWide P w r b0 t v) (h : DataW.Trod enc P w base spare held t v d p) :
    ∃ (cs : Array Value) (n : Nat), v = .agg cs ∧ cs.size = fs.size ∧ ∀ (j : Nat) (f : Field), fs[j]? = some f → ∃ c y, cs[j]? = some c ∧ DataW.trod enc P w base spare held n f.type [c] = some y := by
  obtain ⟨cs, rfl, hsz⟩ := okWide_struct hs hv
  obtain ⟨fuel, hf⟩ := h
  obtain ⟨xs, n, _, _, _, hlen, hg⟩ := DataW.trod_struct hs hf
  refine ⟨cs, n, rfl, hsz.trans hC, fun j f hj => ?_⟩
  obtain ⟨ho, hk⟩ := hone_of hone j f hj
  have hjl : j < fs.size := (Array.getElem?_eq_some_iff.1 hj).1
  have h1 := hg j f hj
  rw [ho, hk] at h1
  have hjc : j < cs.size := by omega
  have hys : xs[j]? = some (xs[j]'(by omega)) := List.getElem?_eq_getElem (by omega)
  have hone' : ((Value.agg cs).cells.toList.drop j).take 1 = [cs[j]] := by
    have e : (Value.agg cs).cells = cs := rfl
    rw [e, List.drop_eq_getElem_cons (by simpa using hjc)]
    simp
  rw [hone'] at h1
  exact ⟨cs[j], _, Array.getElem?_eq_getElem hjc, h1.trans hys⟩

/-- A slice whose elements are k cells each. -/
theorem open_sl {t e : TypeId} {fuel k : Nat} {cs : List Value} {x : DataW H × List MemPlace} (ht : P.underlying t = some (.slice e)) (hk : P.cellsOf e = k) (hk0 : 0 < k) {α : Type} (f : α → List Value) (good : α → Prop)
    (hel : ∀ n cs y, DataW.trod enc P w base spare held n e cs = some y → cs.length = k → ∃ z, cs = f z ∧ good z) (hfl : ∀ z, (f z).length = k)
    (h : DataW.trod enc P w base spare held fuel t cs = some x) :
    ∃ (ao : Option Addr) (n c : Nat) (zs : List α), cs = [.slice ao n c] ∧ Sl w 0 w.heap.size k ao n c (zs.flatMap f) ∧ zs.length = n ∧ n ≤ 9223372036854775807 ∧ ∀ z ∈ zs, good z := by
  rcases open_slice ht h with ⟨rfl, _⟩ | ⟨a, len, cap, m, n, D, Pl, rfl, hb, hl, hm, hmm, _, hx⟩
  · exact ⟨none, 0, 0, [], rfl, Sl.nil _ _ _ _, rfl, by omega, by simp⟩
  · have hlm : len ≤ m := by rw [hmm]; split <;> omega
    rw [hk] at hx
    have hmax : maxLen = 9223372036854775807 := rfl
    by_cases h0 : len = 0
    · subst h0
      exact ⟨some a, 0, cap, [], rfl, ⟨by simp, hl, by omega, .inl rfl⟩, rfl, by omega, by simp⟩
    have hin : Nonempty α := by
      obtain ⟨cs', h1, h2⟩ := hx 0 (by omega)
      exact ⟨(hel _ _ _ h2 (World.cells?_some h1).2.1).choose⟩
    have hin2 : Inhabited α := ⟨Classical.choice hin⟩
    obtain ⟨Z, hZ⟩ := choose_lt (n := len) (α := α) (p := fun i z => good z ∧ ∀ j, j < k → w.cell? (a.add (i * k + j)) = (f z)[j]?) (fun i hi => by
      obtain ⟨cs', h1, h2⟩ := hx i (by omega)
      obtain ⟨_, hcl, hat⟩ := World.cells?_some h1
      obtain ⟨z, rfl, hg⟩ := hel _ _ _ h2 hcl
      exact ⟨z, hg, fun j hj => by rw [← hat j hj, add_add]⟩)
    refine ⟨some a, len, cap, (List.range len).map Z, rfl, ?_, by simp, by omega, ?_⟩
    · have hlenf : ∀ l : List Nat, ((l.map Z).flatMap f).length = l.length * k := by
        intro l
        induction l with
        | nil => simp
        | cons a l ih => simp only [List.map_cons, List.flatMap_cons, List.length_append, ih, hfl, List.length_cons]; rw [Nat.add_mul, Nat.one_mul, Nat.add_comm]
      refine ⟨by rw [hlenf]; simp, hl, by omega, ?_⟩
      · right
        have hc0 := (hZ 0 (by omega)).2 0 hk0
        have hz0 : ∃ u, (f (Z 0))[0]? = some u := ⟨_, List.getElem?_eq_getElem (by rw [hfl]; exact hk0)⟩
        obtain ⟨u, hu⟩ := hz0
        rw [hu] at hc0
        have ha : a.add (0 * k + 0) = a := by simp [Addr.add]
        rw [ha] at hc0
        have hsp : a = ⟨a.block, a.off, none⟩ := by
          obtain ⟨b, off, spot⟩ := a
          cases spot with
          | none => rfl
          | some s =>
            unfold World.cell? at hc0
            split at hc0 <;> simp at hc0
        have hblk : a.block < w.heap.size := by
          unfold World.cell? at hc0
          split at hc0
          · rename_i q _ _ hq; exact lt_of_block hq
          · simp at hc0
        refine ⟨a.block, a.off, by rw [← hsp], Nat.zero_le _, hblk, fun m' hm' => ?_⟩
        have hi : m' / k < len := by rw [Nat.div_lt_iff_lt_mul hk0]; exact hm'
        have hj : m' % k < k := Nat.mod_lt _ hk0
        have := (hZ (m' / k) hi).2 (m' % k) hj
        have e1 : m' / k * k + m' % k = m' := by rw [Nat.mul_comm]; exact Nat.div_add_mod _ _
        rw [e1] at this
        have e2 : a.add m' = ⟨a.block, a.off + m', none⟩ := by rw [hsp]; exact addr_add _ _ _
        rw [← e2, this]
        have key : ∀ (l : List Nat) (i j : Nat), j < k → ((l.map Z).flatMap f)[i * k + j]? = (l[i]?).bind fun a => (f (Z a))[j]? := by
          intro l
          induction l with
          | nil => simp
          | cons a l ih =>
            intro i j hj
            simp only [List.map_cons, List.flatMap_cons]
            cases i with
            | zero => rw [List.getElem?_append_left (by rw [hfl]; omega)]; simp
            | succ i => rw [List.getElem?_append_right (by rw [hfl, Nat.add_mul]; omega), hfl, show (i + 1) * k + j - k = i * k + j by rw [Nat.add_mul]; omega, ih i j hj]; simp
        rw [← e1, key _ _ _ hj]
        simp [hi, e1]
    · intro z hz
      obtain ⟨i, hi, rfl⟩ := List.mem_map.1 hz
      exact (hZ i (List.mem_range.1 hi)).1

theorem flatMap_one {α : Type} (f : α → Value) : ∀ zs : List α, zs.flatMap (fun z => [f z]) = zs.map f
  | [] => rfl
  | a :: l => by simp [List.flatMap_cons, flatMap_one f l]
/-- A slice of one-cell elements. -/
theorem open_sl1 {t e : TypeId} {fuel : Nat} {cs : List Value} {x : DataW H × List MemPlace} (ht : P.underlying t = some (.slice e)) (hk : P.cellsOf e = 1) {α : Type} (f : α → Value) (good : α → Prop)
    (hel : ∀ n c y, DataW.trod enc P w base spare held n e [c] = some y → ∃ z, c = f z ∧ good z)
    (h : DataW.trod enc P w base spare held fuel t cs = some x) :
    ∃ (ao : Option Addr) (n c : Nat) (zs : List α), cs = [.slice ao n c] ∧ Sl w 0 w.heap.size 1 ao n c (zs.map f) ∧ zs.length = n ∧ n ≤ 9223372036854775807 ∧ ∀ z ∈ zs, good z := by
  obtain ⟨ao, n, c, zs, h1, h2, h3, h4, h5⟩ := open_sl ht hk (by omega) (fun z => [f z]) good (fun n cs y hy hl => by
    match cs, hl with
    | [c], _ => obtain ⟨z, rfl, hg⟩ := hel _ _ _ hy; exact ⟨z, rfl, hg⟩) (fun _ => rfl) h
  exact ⟨ao, n, c, zs, h1, by rw [flatMap_one] at h2; exact h2, h3, h4, h5⟩

theorem el_int {e : TypeId} (he : P.underlying e = some (.int .i64)) : ∀ n c y, DataW.trod enc P w base spare held n e [c] = some y → ∃ z, c = cI z ∧ (-9223372036854775808 ≤ z ∧ z ≤ 9223372036854775807) := by
  intro n c y h
  obtain ⟨z, h1, _, h3⟩ := DataW.trod_int he h
  simp only [List.cons.injEq, and_true] at h1
  exact ⟨z, h1, wf_i64_bd h3⟩
theorem el_bool {e : TypeId} (he : P.underlying e = some .bool) : ∀ n c y, DataW.trod enc P w base spare held n e [c] = some y → ∃ z, c = cB z ∧ True := by
  intro n c y h
  obtain ⟨z, h1, _⟩ := DataW.trod_bool he h
  simp only [List.cons.injEq, and_true] at h1
  exact ⟨z, h1, trivial⟩
theorem el_string {e : TypeId} (he : P.underlying e = some .string) : ∀ n c y, DataW.trod enc P w base spare held n e [c] = some y → ∃ z, c = cS z ∧ z.length ≤ 9223372036854775807 := by
  intro n c y h
  obtain ⟨z, h1, _, h3⟩ := DataW.trod_string he h
  simp only [List.cons.injEq, and_true] at h1
  refine ⟨z.data.toList, by rw [h1], ?_⟩
  have : z.size ≤ 9223372036854775807 := h3
  rw [Array.length_toList]
  exact this
end
end Go.Proofs.Ytohoggoggchaeaa
