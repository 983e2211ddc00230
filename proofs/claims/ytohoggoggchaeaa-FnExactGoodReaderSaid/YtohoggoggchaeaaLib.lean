/- Words for memory: a slice that is read (Sl), a slice that is owned (Own), which blocks a step may change (Chg). No program in sight. -/
import Derived.WalkKit
import Derived.WalkLawsBesides
import Derived.WalkSpells
import Derived.Handy
import Derived.Deep.QuietTactic
import Derived.BigQuiet
namespace Go.Proofs.Ytohoggoggchaeaa
open Go.ChangeShapes Go.WideShapes Go.ChangeAt Go.RowKit

/-- Kept from the walk. -/
theorem hid {p : Prop} (h : p) : Hid p := h
theorem ret_int {k : IntKind} {a b : Int} (h : a = b) : Ending.returned (.int k a) = .returned (.int k b) := by rw [h]
theorem ret_bool {a b : Bool} (h : a = b) : Ending.returned (.bool a) = .returned (.bool b) := by rw [h]
theorem val_int {k : IntKind} {a b : Int} (h : a = b) : Value.int k a = .int k b := by rw [h]
theorem val_bool {a b : Bool} (h : a = b) : Value.bool a = .bool b := by rw [h]

theorem bs_append (a b : List UInt8) : (⟨a.toArray⟩ : ByteArray) ++ ⟨b.toArray⟩ = ⟨(a ++ b).toArray⟩ := by
  apply ByteArray.ext; apply Array.toList_inj.1; simp
attribute [go_sem] bs_append
theorem bs_append_lit (a : Array UInt8) (b : List UInt8) : (⟨a⟩ : ByteArray) ++ ⟨b.toArray⟩ = ⟨(a.toList ++ b).toArray⟩ := by
  apply ByteArray.ext; apply Array.toList_inj.1; simp
theorem bs_get {l : List UInt8} {k : Nat} {z : UInt8} (h : l[k]? = some z) : ∀ hk, (⟨l.toArray⟩ : ByteArray)[k]'hk = z := fun hk => by
  obtain ⟨h1, rfl⟩ := List.getElem?_eq_some_iff.1 h; rfl
theorem bs_cut (l : List UInt8) (a b : Nat) : (⟨l.toArray⟩ : ByteArray).extract a b = ⟨((l.drop a).take (b - a)).toArray⟩ := ByteArray.extract_mk l a b
theorem bs_mid {l : List UInt8} {a b n : Nat} (h : b = a + n) : (⟨l.toArray⟩ : ByteArray).extract a b = ⟨((l.drop a).take n).toArray⟩ := by subst h; rw [bs_cut]; congr 4; omega
theorem bs_from (l : List UInt8) (a : Nat) : (⟨l.toArray⟩ : ByteArray).extract a l.length = ⟨(l.drop a).toArray⟩ := by rw [bs_cut, List.take_of_length_le (by simp)]
theorem bs_to (l : List UInt8) (b : Nat) : (⟨l.toArray⟩ : ByteArray).extract 0 b = ⟨(l.take b).toArray⟩ := by rw [bs_cut]; simp
theorem get_ex {α : Type} {l : List α} {k : Nat} (h : k < l.length) : ∃ z, l[k]? = some z := ⟨_, List.getElem?_eq_getElem h⟩
theorem bs_ret {a b : List UInt8} (h : a = b) : Ending.returned (.string ⟨a.toArray⟩) = .returned (.string ⟨b.toArray⟩) := by rw [h]

theorem wf_i64_bd {n : Int} (h : (Lit.int .i64 n).wf = true) : -9223372036854775808 ≤ n ∧ n ≤ 9223372036854775807 := by simpa [Lit.wf, IntKind.min, IntKind.max, IntKind.signed, IntKind.bits] using h

/-- From w to w' only the blocks of S have changed, of those that were there. -/
structure Chg (S : List Nat) (w w' : World) : Prop where
  os : w'.os = w.os
  tape : w'.tape = w.tape
  output : w'.output = w.output
  size : w.heap.size ≤ w'.heap.size
  block : ∀ k, k < w.heap.size → k ∉ S → w'.heap[k]? = w.heap[k]?

theorem Chg.refl (S : List Nat) (w : World) : Chg S w w := ⟨rfl, rfl, rfl, Nat.le_refl _, fun _ _ _ => rfl⟩
theorem Chg.trans {S : List Nat} {a b c : World} (h : Chg S a b) (k : Chg S b c) : Chg S a c :=
  ⟨k.os.trans h.os, k.tape.trans h.tape, k.output.trans h.output, Nat.le_trans h.size k.size, fun i hi hn => (k.block i (Nat.lt_of_lt_of_le hi h.size) hn).trans (h.block i hi hn)⟩
/-- The second step may also change blocks that came into being in the first. -/
theorem Chg.trans' {S T : List Nat} {a b c : World} (h : Chg S a b) (k : Chg T b c) (hT : ∀ x ∈ T, x ∈ S ∨ a.heap.size ≤ x) : Chg S a c :=
  ⟨k.os.trans h.os, k.tape.trans h.tape, k.output.trans h.output, Nat.le_trans h.size k.size, fun i hi hn => (k.block i (Nat.lt_of_lt_of_le hi h.size) (fun hm => by rcases hT i hm with h1 | h1; exact hn h1; omega)).trans (h.block i hi hn)⟩
theorem Chg.mono {S T : List Nat} {a b : World} (h : Chg S a b) (hs : ∀ x ∈ S, x ∈ T) : Chg T a b :=
  ⟨h.os, h.tape, h.output, h.size, fun i hi hn => h.block i hi (fun hm => hn (hs i hm))⟩
theorem Chg.drew {S : List Nat} {a w : World} (h : Chg S a w) : Chg S a w.drew := ⟨h.os, h.tape, h.output, h.size, h.block⟩
theorem Chg.alloc {S : List Nat} {a w : World} (h : Chg S a w) (o : Obj) : Chg S a (w.alloc o) :=
  h.trans ⟨rfl, rfl, rfl, by simp, fun k hk _ => Below.heap_alloc _ _ _ hk⟩
theorem Chg.setCell {S : List Nat} {a w : World} (h : Chg S a w) {p : Addr} (hp : p.block ∈ S ∨ a.heap.size ≤ p.block) (u : Value) : Chg S a (w.setCell p u) :=
  h.trans' (T := [p.block]) ⟨rfl, rfl, rfl, by simp [World.setCell], fun k _ hk => Below.heap_setCell _ _ _ _ (by simpa using hk)⟩ (by simpa using hp)
theorem Chg.any {a b : World} (h : Chg [] a b) (S : List Nat) : Chg S a b := h.mono (fun _ hx => by cases hx)
/-- A block that stays. -/
theorem Chg.at {S : List Nat} {w w' : World} (h : Chg S w w') {k : Nat} (hk : k < w.heap.size) (hn : k ∉ S) : (∀ o, w'.cell? ⟨k, o, none⟩ = w.cell? ⟨k, o, none⟩) ∧ (∀ o, w'.frozen? ⟨k, o, none⟩ = w.frozen? ⟨k, o, none⟩) :=
  ⟨fun o => World.cell?_of_block (w := w) (a := ⟨k, o, none⟩) (h.block k hk hn), fun o => World.frozen?_of_block (w := w) (a := ⟨k, o, none⟩) (h.block k hk hn)⟩
theorem Chg.of_below {w w' : World} (h : Below w.heap.size w w') : Chg [] w w' := ⟨h.os, h.tape, h.output, h.size, fun k hk _ => h.block k hk⟩
theorem Chg.below {S : List Nat} {w w' : World} (h : Chg S w w') {B : Nat} (hB : B ≤ w.heap.size) (hS : ∀ x ∈ S, B ≤ x) : Below B w w' :=
  ⟨h.os, h.tape, h.output, h.size, fun k hk => h.block k (by omega) (fun hm => by have := hS k hm; omega)⟩
theorem Chg.of_grown {w w' : World} {row : Option Nat} (h : w.grownBy w' row) : Chg row.toList w w' :=
  ⟨h.os, h.tape, h.output, h.size, fun k hk hn => h.block k hk (fun e => hn (by rw [← e]; simp))⟩
/-- What the walk wants behind a call: each cell of a block that was there reads as it did. -/
theorem Chg.cells {w w' : World} (h : Chg [] w w') : (∀ b o, b < w.heap.size → w'.cell? ⟨b, o, none⟩ = w.cell? ⟨b, o, none⟩) ∧ (∀ b o, b < w.heap.size → w'.frozen? ⟨b, o, none⟩ = w.frozen? ⟨b, o, none⟩) :=
  ⟨fun b o hb => World.cell?_of_block (w := w) (h.block b hb (by simp)), fun b o hb => World.frozen?_of_block (w := w) (h.block b hb (by simp))⟩

/-- The world has at most drawn. -/
def Qt (w w' : World) : Prop := ∃ m, w' = w.drewN m
theorem Qt.refl (w : World) : Qt w w := ⟨0, rfl⟩
theorem Qt.drewN {a w : World} (h : Qt a w) (n : Nat) : Qt a (w.drewN n) := by obtain ⟨m, rfl⟩ := h; exact ⟨m + n, by rw [World.drewN_drewN]⟩
theorem Qt.drew {a w : World} (h : Qt a w) : Qt a w.drew := h.drewN 1
theorem Qt.trans {a b c : World} (h : Qt a b) (k : Qt b c) : Qt a c := by obtain ⟨n, rfl⟩ := k; exact h.drewN n
theorem Qt.heap {w w' : World} (h : Qt w w') : w'.heap = w.heap := by obtain ⟨m, rfl⟩ := h; rfl
theorem Qt.chg {w w' : World} (h : Qt w w') (S : List Nat) : Chg S w w' := by obtain ⟨m, rfl⟩ := h; exact ⟨rfl, rfl, rfl, Nat.le_refl _, fun _ _ _ => rfl⟩
theorem Chg.qt {S : List Nat} {a b c : World} (h : Chg S a b) (k : Qt b c) : Chg S a c := h.trans (k.chg S)

/-- A region that draws, whose operations read, make and call what makes: its values are the same in every grown world. -/
theorem wp_region_ext {P : Program} {id : Nat} {Q : Exit → Act → World → Prop} {a : Act} {w : World} {l : List Oper} (hm : P.follows .mixedOrders = true) (hB : Region.lexB .any l.toArray = true)
    (h : wpQuiet P l.toArray (fun w' => Chg [] w w') (fun a' => ∀ w', Chg [] w w' → Q .normal a' w') l a) : (Code.region id l.toArray true).wp P Q a w :=
  wp_region_quiet (C := fun w' => Chg [] w w') hm hB ((Chg.refl _ _).drew) (by simpa using h)
theorem wpQuiet_ex {P : Program} {ops : Array Oper} {C : World → Prop} {Q : Act → Prop} {a : Act} {o : Oper} {rest : List Oper} (hw : Region.wanted o (yielded ops a.tmps) = true)
    (h : ∀ K : Act → Prop, (∀ a, wpQuiet P ops C Q rest a → K a) → ∃ v, (∀ w, C w → o.quietAt P a C w v) ∧ K (a.put o.dst v)) : wpQuiet P ops C Q (o :: rest) a := by
  unfold wpQuiet
  rw [if_pos hw]
  exact h _ (fun _ h => h)
/-- A callee's contract in a region that draws. -/
theorem ext_of {P : Program} {f : FuncId} {args : Array Value} {w w' : World} {v : Value} (h : Calls P f args w' fun e w'' => e = .returned v ∧ Chg [] w' w'') (hw : Chg [] w w') :
    Calls P f args w' fun e w'' => e = .returned v ∧ Chg [] w w'' := h.mono fun _ _ ⟨he, hc⟩ => ⟨he, hw.trans hc⟩
theorem ext_of_qt {P : Program} {f : FuncId} {args : Array Value} {w w' : World} {v : Value} (h : Calls P f args w' fun e w'' => e = .returned v ∧ Qt w' w'') (hw : Chg [] w w') :
    Calls P f args w' fun e w'' => e = .returned v ∧ Chg [] w w'' := h.mono fun _ _ ⟨he, hc⟩ => ⟨he, hw.qt hc⟩

/-- A slice that is read: address ao, n elements of k cells, capacity c, its cells xs; all in blocks from lo on and below hi. -/
structure Sl (w : World) (lo hi k : Nat) (ao : Option Addr) (n c : Nat) (xs : List Value) : Prop where
  len : xs.length = n * k
  le : n ≤ c
  max : c ≤ 9223372036854775807
  mem : n = 0 ∨ ∃ b off, ao = some ⟨b, off, none⟩ ∧ lo ≤ b ∧ b < hi ∧ ∀ m, m < n * k → w.cell? ⟨b, off + m, none⟩ = xs[m]?

section
variable {w w' : World} {lo hi k n c : Nat} {ao : Option Addr} {xs : List Value}
theorem Sl.keep (h : Sl w lo hi k ao n c xs) (hk : ∀ b, lo ≤ b → b < hi → w'.heap[b]? = w.heap[b]?) : Sl w' lo hi k ao n c xs := by
  refine ⟨h.len, h.le, h.max, ?_⟩
  rcases h.mem with h5 | ⟨b, off, rfl, h6, h7, h8⟩
  · exact Or.inl h5
  · exact Or.inr ⟨b, off, rfl, h6, h7, fun m hm => by rw [← h8 m hm]; exact World.cell?_of_block (hk b h6 h7)⟩
theorem Sl.chg {S : List Nat} (h : Sl w lo hi k ao n c xs) (hc : Chg S w w') (hs : hi ≤ w.heap.size) (hS : ∀ x ∈ S, x < lo ∨ hi ≤ x) : Sl w' lo hi k ao n c xs :=
  h.keep fun b h1 h2 => hc.block b (by omega) fun hm => by have := hS b hm; omega
theorem Sl.ext (h : Sl w lo hi k ao n c xs) (hc : Chg [] w w') (hs : hi ≤ w.heap.size) : Sl w' lo hi k ao n c xs := h.chg hc hs (by simp)
theorem Sl.wide (h : Sl w lo hi k ao n c xs) {lo' hi' : Nat} (h1 : lo' ≤ lo) (h2 : hi ≤ hi') : Sl w lo' hi' k ao n c xs := by
  refine ⟨h.len, h.le, h.max, ?_⟩
  rcases h.mem with h5 | ⟨b, off, rfl, h6, h7, h8⟩
  · exact Or.inl h5
  · exact Or.inr ⟨b, off, rfl, by omega, by omega, h8⟩
theorem Sl.nil (w : World) (lo hi k : Nat) : Sl w lo hi k none 0 0 [] := ⟨by simp, by omega, by omega, .inl rfl⟩
end

/-- A slice that is owned: besides, its block is known whole (element type e) and nothing of it is frozen; S: its blocks (one or none). -/
structure Own (w : World) (e k : Nat) (ao : Option Addr) (n c : Nat) (xs : List Value) (S : List Nat) : Prop where
  len : xs.length = n * k
  le : n ≤ c
  max : c ≤ 9223372036854775807
  mem : (c = 0 ∧ S = []) ∨ ∃ b off cur, ao = some ⟨b, off, none⟩ ∧ S = [b] ∧ w.heap[b]? = some (.cells cur e (0, 0)) ∧ off + c * k ≤ cur.size ∧ (cur.toList.drop off).take (n * k) = xs

section
variable {w w' : World} {e k n c : Nat} {ao : Option Addr} {xs : List Value} {S : List Nat}
theorem Own.lt (h : Own w e k ao n c xs S) : ∀ x ∈ S, x < w.heap.size := by
  rcases h.mem with ⟨_, rfl⟩ | ⟨b, off, cur, rfl, rfl, h1, h2, h3⟩
  · simp
  · simp; exact lt_of_block h1
theorem Own.nil (w : World) (e k : Nat) : Own w e k none 0 0 [] [] := ⟨by simp, by omega, by omega, .inl ⟨rfl, rfl⟩⟩
/-- Without room nothing is owned. -/
theorem Own.vac (w : World) (e k : Nat) (ao : Option Addr) : Own w e k ao 0 0 [] [] := ⟨by simp, by omega, by omega, .inl ⟨rfl, rfl⟩⟩
theorem Own.keep (h : Own w e k ao n c xs S) (hk : ∀ b ∈ S, w'.heap[b]? = w.heap[b]?) : Own w' e k ao n c xs S := by
  refine ⟨h.len, h.le, h.max, ?_⟩
  rcases h.mem with h5 | ⟨b, off, cur, rfl, rfl, h1, h2, h3⟩
  · exact Or.inl h5
  · exact Or.inr ⟨b, off, cur, rfl, rfl, by rw [hk b (by simp)]; exact h1, h2, h3⟩
theorem Own.chg {T : List Nat} (h : Own w e k ao n c xs S) (hc : Chg T w w') (hT : ∀ x ∈ S, x ∉ T) : Own w' e k ao n c xs S :=
  h.keep fun b hb => hc.block b (h.lt b hb) (hT b hb)
theorem Own.ext (h : Own w e k ao n c xs S) (hc : Chg [] w w') : Own w' e k ao n c xs S := h.chg hc (by simp)
theorem Own.same_n {w2 : World} {e2 n2 c2 : Nat} {ao2 : Option Addr} {S2 : List Nat} (h : Own w e (k + 1) ao n c xs S) (h2 : Own w2 e2 (k + 1) ao2 n2 c2 xs S2) : n = n2 := by
  have := h.len; rw [h2.len] at this; exact (Nat.eq_of_mul_eq_mul_right (Nat.succ_pos k) this).symm
theorem Own.setOther (h : Own w e k ao n c xs S) {a : Addr} (ha : a.block ∉ S) (u : Value) : Own (w.setCell a u) e k ao n c xs S :=
  h.keep fun b hb => Below.heap_setCell _ _ _ _ (fun e => ha (by rw [← e]; exact hb))
theorem Own.sl (h : Own w e k ao n c xs S) {lo hi : Nat} (hlo : ∀ x ∈ S, lo ≤ x) (hhi : ∀ x ∈ S, x < hi) : Sl w lo hi k ao n c xs := by
  refine ⟨h.len, h.le, h.max, ?_⟩
  rcases h.mem with ⟨h2, _⟩ | ⟨b, off, cur, rfl, rfl, h1, h2, h3⟩
  · left; have := h.le; omega
  · right
    refine ⟨b, off, rfl, hlo b (by simp), hhi b (by simp), fun m hm => ?_⟩
    rw [cell_of_row w b (off + m) cur e (0, 0) h1, ← h3, List.getElem?_take, if_pos hm, List.getElem?_drop]
    simp
/-- A cell of an owned slice, and that it may be written. -/
theorem Own.cell (h : Own w e k ao n c xs S) {m : Nat} (hm : m < n * k) : ∃ b off u, ao = some ⟨b, off, none⟩ ∧ S = [b] ∧ xs[m]? = some u ∧ w.cell? ⟨b, off + m, none⟩ = some u ∧ w.frozen? ⟨b, off + m, none⟩ = false := by
  rcases h.mem with ⟨h2, _⟩ | ⟨b, off, cur, rfl, rfl, h1, h2, h3⟩
  · have := h.le; subst h2; obtain rfl : n = 0 := by omega
    simp at hm
  · have hl := h.len
    obtain ⟨u, hu⟩ : ∃ u, xs[m]? = some u := ⟨_, List.getElem?_eq_getElem (by omega)⟩
    refine ⟨b, off, u, rfl, rfl, hu, ?_, by simp [World.frozen?, h1]⟩
    rw [cell_of_row w b (off + m) cur e (0, 0) h1, ← hu, ← h3, List.getElem?_take, if_pos hm, List.getElem?_drop]
    simp
theorem Own.set {b off : Nat} (h : Own w e k (some ⟨b, off, none⟩) n c xs S) {m : Nat} (hm : m < n * k) (u : Value) :
    Own (w.setCell ⟨b, off + m, none⟩ u) e k (some ⟨b, off, none⟩) n c (xs.set m u) S := by
  refine ⟨by simpa using h.len, h.le, h.max, ?_⟩
  rcases h.mem with ⟨h2, _⟩ | ⟨b', off', cur, hb, rfl, h1, h2, h3⟩
  · have := h.le; subst h2; obtain rfl : n = 0 := by omega
    simp at hm
  · simp at hb; obtain ⟨rfl, rfl⟩ := hb
    right
    refine ⟨b, off, cur.setIfInBounds (off + m) u, rfl, rfl, heap_setCell_same w b (off + m) cur e u h1, by simpa using h2, ?_⟩
    rw [← h3]
    simp only [Array.toList_setIfInBounds]
    apply List.ext_getElem?
    intro i
    simp only [List.getElem?_take, List.getElem?_drop, List.getElem?_set, List.length_take, List.length_drop]
    have hsz : off + n * k ≤ cur.size := Nat.le_trans (Nat.add_le_add_left (Nat.mul_le_mul_right k h.le) off) h2
    by_cases hi : i < n * k
    · by_cases him : m = i
      · subst him; simp [hi]; have : off + m < cur.size := by omega
        simp [this]
        omega
      · have : off + m ≠ off + i := by omega
        simp [hi, him, this]
    · simp [hi]; intro hx; omega
end

/-- A slice type t: its element type e, of k cells, 'by' bytes, zero value z. -/
def ET (P : Program) (t e k b : Nat) (z : Value) : Prop := P.underlying t = some (.slice e) ∧ (P.info? e).map (fun i => (i.zero, i.size, i.bytes)) = some (some z, k, b) ∧ z.cells.size = k ∧ 0 < k

/-- The cells of a source: m elements of news at bo. -/
def Src (w : World) (bo : Option Addr) (news : List Value) : Prop := news = [] ∨ ∃ b off, bo = some ⟨b, off, none⟩ ∧ ∀ j, j < news.length → w.cell? ⟨b, off + j, none⟩ = news[j]?

theorem Sl.src {w : World} {lo hi k n c : Nat} {ao : Option Addr} {xs : List Value} (h : Sl w lo hi k ao n c xs) : Src w ao xs := by
  rcases h.mem with h5 | ⟨b, off, rfl, h6, h7, h8⟩
  · left; have := h.len; subst h5; exact List.eq_nil_of_length_eq_zero (by simpa using this)
  · exact Or.inr ⟨b, off, rfl, fun j hj => h8 j (by have := h.len; omega)⟩

theorem addr_add (b off j : Nat) : (⟨b, off, none⟩ : Addr).add j = ⟨b, off + j, none⟩ := by unfold Addr.add; split <;> simp_all

theorem run_firstCells_src {P : Program} {w : World} {k m c : Nat} {bo : Option Addr} {news : List Value} (h : Src w bo news) (hl : news.length = m * k) : (Builtin.firstCells k m (.slice bo m c)).run P w = .ok news.toArray w := by
  rcases h with rfl | ⟨b, off, rfl, h⟩
  · have h0 : m * k = 0 := by simpa using hl.symm
    cases bo with
    | none => simp [Builtin.firstCells]
    | some a => simp [Builtin.firstCells, h0, loadCells, loadCellsFrom]
  · exact run_firstCells_some w k m _ _ _ news hl fun j v hv => by
      rw [addr_add, h j (by rcases Nat.lt_or_ge j news.length with h1 | h1; exact h1; rw [List.getElem?_eq_none h1] at hv; simp at hv)]; exact hv

theorem run_append_any {P : Program} {w : World} {t ty e k bt : Nat} {z : Value} (het : ET P t e k bt z) {ao : Option Addr} {n c : Nat} {xs : List Value} {S : List Nat} (hown : Own w e k ao n c xs S)
    {bo : Option Addr} {m c2 : Nat} {news : List Value} (hsrc : Src w bo news) (hl : news.length = m * k) (h1 : ∀ u ∈ news, u.oneCell' = true) (hb : (n + m) * bt ≤ 140737488355328) (h63 : n + m ≤ 9223372036854775807) :
    ∃ ao' c' S' w', (Builtin.append_ #[t, t] ty #[.slice ao n c, .slice bo m c2]).run P w = .ok (.slice ao' (n + m) c') w' ∧ Own w' e k ao' (n + m) c' (xs ++ news) S' ∧ Chg S w w' ∧ (S' = S ∨ S' = [w.heap.size]) := by
  obtain ⟨ht, hmap, hzs, hk⟩ := het
  obtain ⟨i, hi, hz, hsize, hby⟩ := info_parts hmap
  subst hsize; subst hby
  have hlen : (xs ++ news).length = (n + m) * i.size := by rw [List.length_append, hown.len, hl, Nat.add_mul]
  have hnk : n * i.size ≤ c * i.size := Nat.mul_le_mul_right _ hown.le
  by_cases hfit : n + m ≤ c
  · have hnm : (n + m) * i.size ≤ c * i.size := Nat.mul_le_mul_right _ hfit
    rw [Nat.add_mul] at hnm
    rcases hown.mem with ⟨hc0, rfl⟩ | ⟨b, off, cur, rfl, rfl, g1, g2, g3⟩
    · subst hc0
      obtain ⟨rfl, rfl⟩ : n = 0 ∧ m = 0 := by omega
      have hx : xs = [] := List.eq_nil_of_length_eq_zero (by simpa using hown.len)
      have hn : news = [] := List.eq_nil_of_length_eq_zero (by simpa using hl)
      subst hx; subst hn
      have hf := run_firstCells_src (P := P) (c := c2) hsrc hl
      refine ⟨ao, 0, [], w, ?_, Own.vac w e _ ao, Chg.refl _ _, .inl rfl⟩
      cases ao <;> simp [Builtin.append_, run_underlying ht, sizeOf, typeInfo, hi, Builtin.lenOf, hf, storeCells, Result.andThen]
    · have hf := run_firstCells_src (P := P) (c := c2) hsrc hl
      have hst := run_storeCells_at P b (off + n * i.size) e news 0 cur w g1 (by omega) h1
      simp only [Nat.add_zero] at hst
      refine ⟨some ⟨b, off, none⟩, c, [b], w.setRow b (cur.toList.take (off + n * i.size) ++ news ++ cur.toList.drop (off + n * i.size + news.length)).toArray, ?_, ⟨hlen, hfit, hown.max, .inr ⟨b, off, _, rfl, rfl, setRow_heap w b cur _ e (0, 0) g1, ?_, ?_⟩⟩, ⟨rfl, rfl, rfl, by simp, fun k _ hk => setRow_other w b k _ (by simpa using hk)⟩, .inl rfl⟩
      · simp [Builtin.append_, run_underlying ht, sizeOf, typeInfo, hi, Builtin.lenOf, hfit, hf, addr_add, hst]
      · simp; omega
      · rw [← g3, Nat.add_mul, ← hl]
        have hcl : cur.toList.length = cur.size := by simp
        generalize cur.toList = L at *
        have hxl := hown.len
        apply List.ext_getElem?
        intro j
        simp only [List.getElem?_take, List.getElem?_drop, List.getElem?_append, List.length_take, List.length_drop, List.length_append]
        by_cases hj1 : j < n * i.size
        · rw [if_pos (by omega), if_pos (by omega), if_pos (by omega), if_pos (by omega), if_pos (by omega), if_pos hj1]
        · by_cases hj2 : j < n * i.size + news.length
          · rw [if_pos hj2, if_pos (by omega), if_neg (by omega), if_neg (by omega)]
            congr 1; omega
          · rw [if_neg hj2, if_neg (by omega)]
            exact (List.getElem?_eq_none (by omega)).symm
  · have hgt : c < n + m := by omega
    have hge := grownCap_ge w (n + m) c e
    have hcm : grownCap w (n + m) c e ≤ maxLen := grownCap_le_maxLen w (n + m) c e h63
    have hsrco : Src w.drew ao xs := (hown.sl (lo := 0) (hi := w.heap.size) (by simp) hown.lt).src
    have hfo := run_firstCells_src (P := P) (w := w.drew) (c := c) hsrco hown.len
    have hfn := run_firstCells_src (P := P) (w := w.drew) (c := c2) (bo := bo) hsrc hl
    have h48 := growslice_fits hgt hb
    have h48' : ¬ (281474976710656 < Builtin.nextslicecap (n + m) c * i.bytes) := by omega
    refine ⟨some ⟨w.heap.size, 0, none⟩, grownCap w (n + m) c e, [w.heap.size], w.drew.alloc (.cells (xs.toArray ++ news.toArray ++ Builtin.zeroCells z.cells (grownCap w (n + m) c e - (n + m))) e), ?_,
      ⟨hlen, hge, hcm, .inr ⟨w.heap.size, 0, _, rfl, rfl, heap_alloc_new w.drew _, ?_, ?_⟩⟩, (Chg.refl S w).drew.alloc _, .inr rfl⟩
    · have h63' : ¬ (9223372036854775807 < ((n : Int) + (m : Int))) := by omega
      simp [Builtin.append_, run_underlying ht, sizeOf, typeInfo, zeroValue, hi, hz, Builtin.lenOf, hfit, h63', h48', Question.forced, hfo, hfn, newRow, grownCap]
      congr 2
      apply Array.toList_inj.1
      simp
    · simp only [Array.size_append, List.size_toArray, size_zeroCells, hzs, hown.len, hl, Nat.zero_add, ← Nat.add_mul]
      exact Nat.mul_le_mul_right _ (by omega)
    · simp only [Array.toList_append, List.append_assoc, List.drop_zero]
      rw [← List.append_assoc, ← hlen]
      exact List.take_left

theorem wpList_append {P : Program} {w : World} {ops : Array Oper} {rest : List Oper} {o : Oper} {a : Act} {Q : Exit → Act → World → Prop} (hgd : o.guard = none) (s x : Operand) (t : TypeId)
    (ho : o.op = .call { callee := .builtin .append, args := #[s, x], argTypes := #[t, t] })
    {e k bt : Nat} {z : Value} (het : ET P t e k bt z) {ao : Option Addr} {n c : Nat} {xs : List Value} {S : List Nat} (hs : a.eval s = .slice ao n c) (hown : Own w e k ao n c xs S)
    {bo : Option Addr} {m c2 : Nat} {news : List Value} (hx : a.eval x = .slice bo m c2) (hsrc : Src w bo news) (hl : news.length = m * k) (h1 : ∀ u ∈ news, u.oneCell' = true)
    (hb : (n + m) * bt ≤ 140737488355328) (h63 : n + m ≤ 9223372036854775807)
    (h : ∀ ao' c' S' w', Own w' e k ao' (n + m) c' (xs ++ news) S' → Chg S w w' → (S' = S ∨ S' = [w.heap.size]) → wpList P ops Q rest (a.put o.dst (.slice ao' (n + m) c')) w') : wpList P ops Q (o :: rest) a w := by
  refine wpList_plain hgd fun K hK' => ?_
  obtain ⟨ao', c', S', w', hrun, r1, r2, r3⟩ := run_append_any (P := P) (t := t) (ty := o.type) (c2 := c2) het hown hsrc hl h1 hb h63
  unfold Oper.wp
  simp [execOp, ho, resolve, invoke, builtin, hs, hx, hrun, Result.andThen]
  exact hK' _ _ (h ao' c' S' w' r1 r2 r3)
/-- 'append([]T{}, xs..)': onto a slice without room. -/
theorem run_append_none {P : Program} {w : World} {t ty e k bt : Nat} {z : Value} (het : ET P t e k bt z) (ao : Option Addr)
    {bo : Option Addr} {m c2 : Nat} {news : List Value} (hsrc : Src w bo news) (hl : news.length = m * k) (h1 : ∀ u ∈ news, u.oneCell' = true) (hb : m * bt ≤ 140737488355328) (h63 : m ≤ 9223372036854775807) :
    ∃ ao' c' S' w', (Builtin.append_ #[t, t] ty #[.slice ao 0 0, .slice bo m c2]).run P w = .ok (.slice ao' m c') w' ∧ Own w' e k ao' m c' news S' ∧ Chg [] w w' ∧ ∀ x ∈ S', w.heap.size ≤ x := by
  obtain ⟨ao', c', S', w', g1, g2, g3, g4⟩ := run_append_any (ty := ty) (c2 := c2) het (Own.vac w e k ao) hsrc hl h1 (by simpa using hb) (by simpa using h63)
  refine ⟨ao', c', S', w', by simpa using g1, by simpa using g2, g3, fun x hx => ?_⟩
  rcases g4 with rfl | rfl
  · cases hx
  · simp at hx; omega

/-- A new block as a source. -/
theorem Src.new (w : World) (cs : Array Value) (e : TypeId) : Src (w.alloc (.cells cs e)) (some ⟨w.heap.size, 0, none⟩) cs.toList :=
  Or.inr ⟨_, _, rfl, fun j _ => by rw [cell_of_row _ _ _ cs e (0, 0) (heap_alloc_new w _)]; simp⟩

/-- 'string(b)' of a whole block of bytes, as an equation for the walk. -/
theorem run_bytes_block {P : Program} (w : World) (src dst e : TypeId) (hs : P.underlying src = some (.slice e)) (he : P.underlying e = some (.int .u8)) (hd : P.underlying dst = some .string) {b n c : Nat} {cs : Array Value} {t : TypeId} {fr : Nat × Nat}
    (hb : w.heap[b]? = some (.cells cs t fr)) (zs : List Int) (hcs : cs.toList = zs.map (Value.int .u8)) (hz : ∀ z ∈ zs, 0 ≤ z ∧ z < 256) (hn : zs.length = n) :
    (convert src dst (.slice (some ⟨b, 0, none⟩) n c)).run P w = .ok (.string ⟨(zs.map fun z => UInt8.ofNat z.toNat).toArray⟩) w := by
  subst hn
  have h := run_convert_bytes_back (P := P) w src dst e ⟨b, 0, none⟩ c (zs.map fun z => UInt8.ofNat z.toNat) hs he hd fun j hj => by
    have hj' : j < zs.length := by simpa using hj
    have h1 := hz zs[j] (List.getElem_mem _)
    rw [addr_add, cell_of_row w b (0 + j) cs t fr hb, ← Array.getElem?_toList, hcs]
    simp [hj']
    omega
  simpa using h

/-- 'append(out, x)': one element, out owned. -/
theorem wpList_push {P : Program} {w : World} {ops : Array Oper} {rest : List Oper} {o : Oper} {a : Act} {Q : Exit → Act → World → Prop} (hgd : o.guard = none) (s x : Operand) (t : TypeId)
    (ho : o.op = .call { callee := .builtin .append, args := #[s, x], argTypes := #[t, t] })
    {e bt : Nat} {z : Value} (het : ET P t e 1 bt z) {ao : Option Addr} {n c : Nat} {α : Type} {f : α → Value} {out : List α} {S : List Nat} (hown : Own w e 1 ao n c (out.map f) S) (hs : a.eval s = .slice ao n c)
    (y : α) {u : Value} (hu : u = f y) (hx : a.eval x = .slice (some ⟨w.heap.size, 0, none⟩) 1 1) (h1 : (f y).oneCell' = true) (hb : (n + 1) * bt ≤ 140737488355328) (h63 : n + 1 ≤ 9223372036854775807)
    (h : ∀ ao' c' S' w', Own w' e 1 ao' (n + 1) c' ((out ++ [y]).map f) S' → Chg S w w' → (∀ b ∈ S', b ∈ S ∨ w.heap.size ≤ b) → wpList P ops Q rest (a.put o.dst (.slice ao' (n + 1) c')) w') : wpList P ops Q (o :: rest) a (w.alloc (.cells #[u] e)) := by
  subst hu
  refine wpList_append hgd s x t ho het hs (hown.ext ((Chg.refl _ _).alloc _)) hx (Src.new _ _ _) rfl (by intro u hu; simp at hu; subst hu; exact h1) hb h63 fun ao' c' S' w' g1 g2 g3 => h ao' c' S' w' (by simpa using g1) ((((Chg.refl [] w).alloc _).mono (by simp)).trans g2) ?_
  intro b hb
  rcases g3 with rfl | rfl
  · exact Or.inl hb
  · right; simp at hb; omega

theorem wpList_bytes_string {P : Program} {w : World} {ops : Array Oper} {rest : List Oper} {o : Oper} {a : Act} {Q : Exit → Act → World → Prop} (hgd : o.guard = none) (x : Operand) (src dst e : TypeId) (ho : o.op = .convert src dst x)
    (hs : P.underlying src = some (.slice e)) (he : P.underlying e = some (.int .u8)) (hd : P.underlying dst = some .string) {ao : Option Addr} {n c : Nat} (hx : a.eval x = .slice ao n c)
    (l : List UInt8) (hl : l.length = n) (hsrc : Src w ao (l.map fun b => .int .u8 b.toNat)) (hK : wpList P ops Q rest (a.put o.dst (.string ⟨l.toArray⟩)) w) : wpList P ops Q (o :: rest) a w := by
  refine wpList_plain hgd fun K hK' => ?_
  have hr : (convert src dst (.slice ao n c)).run P w = .ok (.string ⟨l.toArray⟩) w := by
    subst hl
    rcases hsrc with h0 | ⟨b, off, rfl, h0⟩
    · have : l = [] := by simpa using h0
      subst this
      rw [run_convert_bytes_string w src dst e ao _ c hs he hd]
      cases ao with
      | none => simp [Conv.bytesToString]; rfl
      | some a => simp [Conv.bytesToString, loadCells, loadCellsFrom]; rfl
    · refine run_convert_bytes_back w src dst e _ c l hs he hd fun j hj => ?_
      rw [addr_add, h0 j (by simpa using hj)]
      simp [List.getElem?_eq_getElem hj]
  unfold Oper.wp
  simp [execOp, ho, hx, hr, Result.andThen]
  exact hK' _ _ hK

/-- 'string([]byte{..})'. -/
theorem wpList_lit_string {P : Program} {w : World} {ops : Array Oper} {rest : List Oper} {o : Oper} {a : Act} {Q : Exit → Act → World → Prop} (hgd : o.guard = none) (x : Operand) (src dst e : TypeId) (ho : o.op = .convert src dst x)
    (hs : P.underlying src = some (.slice e)) (he : P.underlying e = some (.int .u8)) (hd : P.underlying dst = some .string) {n c : Nat} {cs : Array Value} (zs : List Int) (hcs : cs.toList = zs.map (Value.int .u8)) (hzs : ∀ z ∈ zs, 0 ≤ z ∧ z < 256) (hn : zs.length = n)
    (hx : a.eval x = .slice (some ⟨w.heap.size, 0, none⟩) n c)
    (hK : wpList P ops Q rest (a.put o.dst (.string ⟨(zs.map fun z => UInt8.ofNat z.toNat).toArray⟩)) (w.alloc (.cells cs e))) : wpList P ops Q (o :: rest) a (w.alloc (.cells cs e)) := by
  refine wpList_bytes_string hgd x src dst e ho hs he hd hx _ (by simpa using hn) ?_ hK
  have h := Src.new w cs e
  have e1 : (List.map (fun z : Int => UInt8.ofNat z.toNat) zs).map (fun b => Value.int .u8 b.toNat) = zs.map (Value.int .u8) := by
    rw [List.map_map]
    apply List.map_congr_left
    intro z hz
    have := hzs z hz
    show Value.int .u8 ((UInt8.ofNat z.toNat).toNat : Int) = Value.int .u8 z
    rw [UInt8.toNat_ofNat']
    congr 1
    omega
  rw [e1, ← hcs]
  exact h

/-- A new block is owned. -/
theorem Own.new (w : World) (e k n : Nat) (cs : Array Value) (hs : cs.size = n * k) (hm : n ≤ 9223372036854775807) : Own (w.alloc (.cells cs e)) e k (some ⟨w.heap.size, 0, none⟩) n n cs.toList [w.heap.size] :=
  ⟨by simpa using hs, Nat.le_refl _, hm, .inr ⟨w.heap.size, 0, cs, rfl, rfl, heap_alloc_new w _, by omega, by rw [List.drop_zero, List.take_of_length_le (by simp; omega)]⟩⟩

theorem Own.of_row {w : World} {base e k n c g : Nat} {xs : List Value} (h : w.ownsRow base e k (.slice (some ⟨g, 0, none⟩) n c) n xs) : Own w e k (some ⟨g, 0, none⟩) n c xs [g] := by
  obtain ⟨h1, h2⟩ := h
  rcases h2 with ⟨h2, _⟩ | ⟨g', cap, cur, h2, _, h3, h4, h5, h6, h7⟩
  · simp at h2
  · simp at h2; obtain ⟨rfl, rfl⟩ := h2
    exact ⟨h1, h4, h5, .inr ⟨g, 0, cur, rfl, rfl, h3, by omega, by simpa using h7⟩⟩

/-- What a cell holds: an int, a string, a bool. -/
abbrev cI (z : Int) : Value := .int .i64 z
abbrev cS (l : List UInt8) : Value := .string ⟨l.toArray⟩
abbrev cB (b : Bool) : Value := .bool b

/-- Element j of a slice of one-cell elements. -/
theorem Sl.at {w : World} {lo hi n c : Nat} {ao : Option Addr} {α : Type} {f : α → Value} {zs : List α} (h : Sl w lo hi 1 ao n c (zs.map f)) {j : Nat} (hj : j < n) :
    ∃ b off z, ao = some ⟨b, off, none⟩ ∧ lo ≤ b ∧ b < hi ∧ Hid (zs[j]? = some z) ∧ w.cell? ⟨b, off + j, none⟩ = some (f z) := by
  rcases h.mem with h5 | ⟨b, off, rfl, h6, h7, h8⟩
  · omega
  · have hl := h.len
    simp at hl
    obtain ⟨z, hz⟩ : ∃ z, zs[j]? = some z := ⟨_, List.getElem?_eq_getElem (by omega)⟩
    exact ⟨b, off, z, rfl, h6, h7, hz, by rw [h8 j (by omega), List.getElem?_map, hz]; rfl⟩
theorem Sl.length {w : World} {lo hi n c : Nat} {ao : Option Addr} {α : Type} {f : α → Value} {zs : List α} (h : Sl w lo hi 1 ao n c (zs.map f)) : zs.length = n := by simpa using h.len
theorem Own.length {w : World} {e n c : Nat} {ao : Option Addr} {α : Type} {f : α → Value} {zs : List α} {S : List Nat} (h : Own w e 1 ao n c (zs.map f) S) : zs.length = n := by simpa using h.len
/-- Element j of an owned slice of one-cell elements; it may be written. -/
theorem Own.at {w : World} {e n c : Nat} {ao : Option Addr} {S : List Nat} {α : Type} {f : α → Value} {zs : List α} (h : Own w e 1 ao n c (zs.map f) S) {j : Nat} (hj : j < n) :
    ∃ b off z, ao = some ⟨b, off, none⟩ ∧ S = [b] ∧ Hid (zs[j]? = some z) ∧ w.cell? ⟨b, off + j, none⟩ = some (f z) ∧ w.frozen? ⟨b, off + j, none⟩ = false := by
  obtain ⟨b, off, u, rfl, rfl, h1, h2, h3⟩ := h.cell (m := j) (by omega)
  rw [List.getElem?_map] at h1
  obtain ⟨z, hz, rfl⟩ := Option.map_eq_some_iff.1 h1
  exact ⟨b, off, z, rfl, rfl, hz, h2, h3⟩
theorem Own.put {w : World} {e n c b off : Nat} {S : List Nat} {α : Type} {f : α → Value} {zs : List α} (h : Own w e 1 (some ⟨b, off, none⟩) n c (zs.map f) S) {j : Nat} (hj : j < n) (z : α) :
    Own (w.setCell ⟨b, off + j, none⟩ (f z)) e 1 (some ⟨b, off, none⟩) n c ((zs.set j z).map f) S := by
  rw [List.map_set]; exact h.set (by omega) _

theorem take_succ_of {α : Type} {l : List α} {j : Nat} {z : α} (h : l[j]? = some z) : l.take (j + 1) = l.take j ++ [z] := by
  rw [List.take_add_one, h]; rfl
theorem drop_of {α : Type} {l : List α} {j : Nat} {z : α} (h : l[j]? = some z) : l.drop j = z :: l.drop (j + 1) := by
  have hl := (List.getElem?_eq_some_iff.1 h); obtain ⟨h1, rfl⟩ := hl; exact List.drop_eq_getElem_cons h1
/-- A row that is filled from its head: the next one is laid. -/
theorem fill_set {α : Type} {A B : List α} {j : Nat} {z : α} (hA : A.length = j) (hB : 0 < B.length) : (A ++ B).set j z = (A ++ [z]) ++ B.drop 1 := by
  subst hA
  cases B with
  | nil => simp at hB
  | cons x B => simp [List.set_append]
theorem made_one (z : Value) (n : Nat) : (madeCells #[z] (n * 1)).toList = List.replicate n z := by rw [Nat.mul_one]; exact toList_madeCells_one z n

theorem wpList_make {P : Program} {w : World} {ops : Array Oper} {rest : List Oper} {o : Oper} {a : Act} {Q : Exit → Act → World → Prop} (hg : o.guard = none) (l c : Operand) (t : TypeId) (hop : o.op = Op.makeSlice t l c)
    {e k bt : Nat} {z : Value} (het : ET P t e k bt z) (L C : Int) (n : Nat) (hl : a.eval l = .int .i64 L) (hc : a.eval c = .int .i64 C) (hL : L = (n : Int)) (hC : C = (n : Int)) (b2 : bt * n ≤ 281474976710656) (b3 : n ≤ 9223372036854775807)
    (hK : ∀ w', Own w' e k (some ⟨w.heap.size, 0, none⟩) n n (madeCells z.cells (n * k)).toList [w.heap.size] → Chg [] w w' → wpList P ops Q rest (a.put o.dst (.slice (some ⟨w.heap.size, 0, none⟩) n n)) w') :
    wpList P ops Q (o :: rest) a w := by
  obtain ⟨ht, hmap, hzs, hk⟩ := het
  obtain ⟨i, hi, hz, hsize, hby⟩ := info_parts hmap
  subst hby
  exact wpList_make_full w hg l c t hop 0 e i z k ht hi hz hsize .i64 .i64 L C n hl hc hL hC b2 b3 (Nat.zero_le _) fun w' h1 h2 => hK w' (Own.of_row h1) (by simpa using Chg.of_grown h2)
/-- A part of a slice that is read. -/
theorem Sl.part {w : World} {lo hi k n c : Nat} {ao : Option Addr} {xs : List Value} (h : Sl w lo hi k ao n c xs) {l r : Nat} (hlr : l ≤ r) (hr : r ≤ n) :
    ∃ ao', sliced ao l r c k = .slice ao' (r - l) (c - l) ∧ Sl w lo hi k ao' (r - l) (c - l) ((xs.drop (l * k)).take ((r - l) * k)) := by
  have hle := h.le
  have hmx := h.max
  have hlen := h.len
  have hk1 : r * k ≤ n * k := Nat.mul_le_mul_right k hr
  have hk2 : l * k ≤ r * k := Nat.mul_le_mul_right k hlr
  refine ⟨_, rfl, ?_, by omega, by omega, ?_⟩
  · rw [List.length_take, List.length_drop, hlen, Nat.sub_mul]; omega
  · by_cases hz : r - l = 0
    · exact Or.inl hz
    · rcases h.mem with h5 | ⟨b, off, rfl, h6, h7, h8⟩
      · omega
      · refine Or.inr ⟨b, off + l * k, ?_, h6, h7, fun m hm => ?_⟩
        · rw [if_neg (by omega)]; simp [addr_add]
        · rw [Nat.sub_mul] at hm
          rw [Nat.add_assoc, h8 (l * k + m) (by omega), List.getElem?_take, Nat.sub_mul, if_pos hm, List.getElem?_drop]
theorem run_sizeOf {P : Program} {t e k bt : Nat} {z : Value} (het : ET P t e k bt z) (W : World) : (sizeOf e).run P W = .ok k W := by
  obtain ⟨_, hmap, _, _⟩ := het
  obtain ⟨i, hi, _, hsize, _⟩ := info_parts hmap
  simp [sizeOf, typeInfo, hi, hsize]
theorem elem_of {P : Program} {t e : TypeId} (h : P.underlying t = some (.slice e)) : P.elem t = e := by simp [Program.elem, h]
/-- 'xs[j:]'. -/
theorem Sl.from {P : Program} {t e bt : Nat} {z : Value} {w : World} {lo hi k n c : Nat} {ao : Option Addr} {xs : List Value} (h : Sl w lo hi k ao n c xs) (het : ET P t e k bt z) {j : Nat} {J : Int} (hJ : J = j) (hj : j ≤ n) :
    ∃ ao', (∀ W : World, (Instr.slice t (.slice ao n c) (some (.int .i64 J)) none none).run P W = .ok (.slice ao' (n - j) (c - j)) W) ∧ Sl w lo hi k ao' (n - j) (c - j) (xs.drop (j * k)) := by
  obtain ⟨ao', h1, h2⟩ := h.part (l := j) (r := n) hj (Nat.le_refl _)
  refine ⟨ao', fun W => ?_, ?_⟩
  · subst hJ
    have he := elem_of het.1
    rw [run_slice_l W t ao n c (by rw [he]; exact het.1) .i64 j (by omega) (by omega), he, run_sizeOf het]
    simp only [Result.andThen, Int.toNat_natCast, h1]
  · rwa [List.take_of_length_le (by rw [List.length_drop, h.len, Nat.sub_mul]; omega)] at h2
/-- 'xs[:j]'. -/
theorem Sl.upto {P : Program} {t e bt : Nat} {z : Value} {w : World} {lo hi k n c : Nat} {ao : Option Addr} {xs : List Value} (h : Sl w lo hi k ao n c xs) (het : ET P t e k bt z) {j : Nat} {J : Int} (hJ : J = j) (hj : j ≤ n) :
    ∃ ao', (∀ W : World, (Instr.slice t (.slice ao n c) none (some (.int .i64 J)) none).run P W = .ok (.slice ao' j c) W) ∧ Sl w lo hi k ao' j c (xs.take (j * k)) := by
  obtain ⟨ao', h1, h2⟩ := h.part (l := 0) (r := j) (Nat.zero_le _) hj
  have hle := h.le
  refine ⟨ao', fun W => ?_, by simpa using h2⟩
  subst hJ
  have he := elem_of het.1
  rw [run_slice_h W t ao n c (by rw [he]; exact het.1) .i64 j (by omega) (by omega), he, run_sizeOf het]
  simp only [Result.andThen, Int.toNat_natCast, h1, Nat.sub_zero]
end Go.Proofs.Ytohoggoggchaeaa
