/- TakeFrame -/
import Derived.Test.YtohoggoggchaeaaGoodReader
import Derived.Test.YtohoggoggchaeaaCloneStrs
namespace Go.Proofs.Ytohoggoggchaeaa
open Go.ChangeShapes Go.WideShapes Go.ChangeAt Go.RowKit

/-- The result's box. -/
def BoxReader (B t lo : Nat) (x0 : List UInt8) (x2 : Bool) (zs : List (List UInt8)) (w : World) : Prop := ∃ u, w.heap[B]? = some (.cells #[.string ⟨x0.toArray⟩, u, .bool x2] t (0, 0)) ∧ IsStrs lo zs u w
theorem BoxReader.keep {B t lo : Nat} {x0 : List UInt8} {x2 : Bool} {zs : List (List UInt8)} : ∀ w1 w2, BoxReader B t lo x0 x2 zs w1 → Chg [] w1 w2 → BoxReader B t lo x0 x2 zs w2 := fun _ _ ⟨u, h1, h2⟩ hc => ⟨u, block_ext h1 hc, h2.keep _ _ _ hc⟩
def tfOk (x0 : List UInt8) (zs : List (List UInt8)) (x2 : Bool) : Bool := gr x0 zs x2 && decide (0 < zs.length)
def tfA (x0 : List UInt8) (zs : List (List UInt8)) (x2 : Bool) : List UInt8 := if tfOk x0 zs x2 then x0 else []
def tfB (x0 : List UInt8) (zs : List (List UInt8)) (x2 : Bool) : Bool := if tfOk x0 zs x2 then x2 else false
def tfL (x0 : List UInt8) (zs : List (List UInt8)) (x2 : Bool) : List (List UInt8) := if tfOk x0 zs x2 then zs.tail else []
def tfS (x0 : List UInt8) (zs : List (List UInt8)) (x2 : Bool) : List UInt8 := if tfOk x0 zs x2 then zs[0]?.getD [] else []
theorem tfL_len (x0 : List UInt8) (zs : List (List UInt8)) (x2 : Bool) : (tfL x0 zs x2).length ≤ zs.length := by unfold tfL; split <;> simp

set_option maxHeartbeats 1600000 in
set_option maxRecDepth 20000 in
theorem i_TakeFrame {x0 : List UInt8} {x2 : Bool} {zs1 : List (List UInt8)} {ao1 : Option Addr} {n1 c1 lo hi : Nat} {w : World} (h1 : Sl w lo hi 1 ao1 n1 c1 (zs1.map cS)) (hhi : hi ≤ w.heap.size) (b1 : n1 ≤ 1048576) (y0 : x0.length ≤ 1048576) (y1 : ∀ z ∈ zs1, z.length ≤ 9223372036854775807) :
    Calls Try.prog 27 #[.agg #[.string ⟨x0.toArray⟩, .slice ao1 n1 c1, .bool x2]] w fun e w' => ∃ v, e = .returned (.tuple #[v, .string ⟨(tfS x0 zs1 x2).toArray⟩, .bool (tfOk x0 zs1 x2)]) ∧ Chg [] w w' ∧ IsReader w.heap.size (tfA x0 zs1 x2) (tfB x0 zs1 x2) (tfL x0 zs1 x2) v w' := by
  have e1 : Hid (zs1.length = n1) := h1.length
  have H0 : ∀ A B : Obj, Chg [] w ((w.alloc A).alloc B) := fun A B => ((Chg.refl _ _).alloc A).alloc B
  cases hg : gr x0 zs1 x2 with
  | false =>
    have hk : tfOk x0 zs1 x2 = false := by simp [tfOk, hg]
    simp only [tfA, tfB, tfL, tfS, hk]
    have HG := hid hg
    clear hg hk
    go_enter Try.func27, Try.ntmps27
    go_wp2_with fail
    refine (i_GoodReader (h1.ext (H0 _ _) hhi) (by simp; omega) b1 y0 y1).mono ?_
    rintro e w1 ⟨he, k1⟩
    rw [HG.out] at he
    subst he
    obtain ⟨B1, F1⟩ := k1.cells
    have Z1 : w.heap.size + 1 < w1.heap.size := by have := k1.size; simp at this; omega
    go_wp2
    refine bodyPost_ret (v := .tuple #[.agg #[.string ⟨([] : List UInt8).toArray⟩, .slice none 0 0, .bool false], .string ⟨([] : List UInt8).toArray⟩, .bool false]) (by simp [results, Try.results27, go_sem, B1, Z1]) rfl ⟨_, rfl, ?_, none, 0, 0, [], rfl, Own.nil _ _ _, by simp⟩
    repeat (refine Chg.setCell ?_ (Or.inr (by dsimp only; omega)) _)
    exact (H0 _ _).trans k1
  | true =>
    have HG := hid hg
    by_cases hn : n1 = 0
    · subst hn
      have hk : tfOk x0 zs1 x2 = false := by simp [tfOk, e1.out]
      simp only [tfA, tfB, tfL, tfS, hk]
      clear hg hk
      go_enter Try.func27, Try.ntmps27
      go_wp2_with fail
      refine (i_GoodReader (h1.ext (H0 _ _) hhi) (by simp; omega) b1 y0 y1).mono ?_
      rintro e w1 ⟨he, k1⟩
      rw [HG.out] at he
      subst he
      obtain ⟨B1, F1⟩ := k1.cells
      have Z1 : w.heap.size + 1 < w1.heap.size := by have := k1.size; simp at this; omega
      go_wp2
      refine bodyPost_ret (v := .tuple #[.agg #[.string ⟨([] : List UInt8).toArray⟩, .slice none 0 0, .bool false], .string ⟨([] : List UInt8).toArray⟩, .bool false]) (by simp [results, Try.results27, go_sem, B1, Z1]) rfl ⟨_, rfl, ?_, none, 0, 0, [], rfl, Own.nil _ _ _, by simp⟩
      repeat (refine Chg.setCell ?_ (Or.inr (by dsimp only; omega)) _)
      exact (H0 _ _).trans k1
    · have hk : tfOk x0 zs1 x2 = true := by simp [tfOk, hg, e1.out]; omega
      simp only [tfA, tfB, tfL, tfS, hk, if_true]
      clear hg hk
      obtain ⟨b, off, z, rfl, hb1, hb2, hz, hcell⟩ := h1.at (j := 0) (by omega)
      rw [hz.out, Option.getD_some]
      rw [Nat.add_zero] at hcell
      have hn0 : 0 < n1 := by omega
      have hbw : b < w.heap.size := by omega
      obtain ⟨ao', hs, hd⟩ := h1.from etStrs (j := 1) (J := 1) rfl (by omega)
      rw [Nat.mul_one, ← List.map_drop, List.drop_one] at hd
      go_enter Try.func27, Try.ntmps27
      go_wp2_with fail
      refine (i_GoodReader (h1.ext (H0 _ _) hhi) (by simp; omega) b1 y0 y1).mono ?_
      rintro e w1 ⟨he, k1⟩
      rw [HG.out] at he
      subst he
      obtain ⟨B1, F1⟩ := k1.cells
      have Z1 : w.heap.size + 1 < w1.heap.size := by have := k1.size; simp at this; omega
      have H1 := (H0 _ _).trans k1
      have hblk : w1.heap[w.heap.size + 1]? = some (.cells #[.string ⟨#[]⟩, .slice none 0 0, .bool false] 37 (0, 0)) := block_ext (by have := heap_alloc_new (w.alloc (.cells #[.string ⟨x0.toArray⟩, .slice (some ⟨b, off, none⟩) n1 c1, .bool x2] 37)) (.cells #[.string ⟨#[]⟩, .slice none 0 0, .bool false] 37 (0, 0)); simpa using this) k1
      have HB := hid hblk
      have hcell1 := ((H1.at (k := b) hbw (by simp)).1 off).trans hcell
      clear hblk
      go_wp2
      refine wp_region_mem 14 [w.heap.size + 1] [13] [] (fun _ => BoxReader (w.heap.size + 1) 37 w1.heap.size x0 x2 zs1.tail)
        (fun i => match i with | 5 => some (IsStrs w1.heap.size zs1.tail) | 8 => some (IsReader w1.heap.size x0 x2 zs1.tail) | _ => none) (by kernel_rfl) (by kernel_rfl) (by kernel_rfl) (by decide) ?_
      simp only [List.map_cons, List.map_nil, List.take_succ_cons, List.take_zero]
      repeat
        refine wpRel_det rfl rfl (fun K hK => ?_)
        apply Exists.intro
        refine ⟨fun w' hw' => ?_, ?_⟩
        · repeat (first | (with_reducible refine Fills_val ?_) | ((with_reducible refine Fills_no ?_ ?_); (focus rfl)))
          with_reducible refine Fills_end ?_
          have C1 := (hw'.at (k := w.heap.size) (by omega) (by simp)).1; have C2 := (hw'.at (k := b) (by omega) (by simp; omega)).1
          go_simp
          try rw [if_neg (by omega)]
          first
            | (fail)
            | exact ⟨rfl, Chg.refl _ _⟩
        go_simp
        refine hK _ ?_
        clear hK K
      refine wpRel_rel rfl rfl (IsStrs.keepT (by simp; omega)) (fun w' hw' => ?_) (fun K hK => ?_)
      · repeat (first | (with_reducible refine Fills_val ?_) | ((with_reducible refine Fills_no ?_ ?_); (focus rfl)))
        with_reducible refine Fills_end ?_
        have C1 := (hw'.at (k := w.heap.size) (by omega) (by simp)).1; have C2 := (hw'.at (k := b) (by omega) (by simp; omega)).1
        go_simp
        (go_at_call 58; refine (cloneStrs ((hd.ext H1 hhi).chg hw' (by omega) (by simp; omega)) (by have := hw'.size; omega) (by omega)).mono ?_; rintro e w'' ⟨v, rfl, kk, hv⟩; exact ⟨_, rfl, hv.low hw'.size, kk⟩)
      go_simp
      refine hK _ ?_
      clear hK K
      repeat
        refine wpRel_det rfl rfl (fun K hK => ?_)
        apply Exists.intro
        refine ⟨fun w' hw' => ?_, ?_⟩
        · repeat (first | (with_reducible refine Fills_val ?_) | ((with_reducible refine Fills_no ?_ ?_); (focus rfl)))
          with_reducible refine Fills_end ?_
          have C1 := (hw'.at (k := w.heap.size) (by omega) (by simp)).1; have C2 := (hw'.at (k := b) (by omega) (by simp; omega)).1
          go_simp
          try rw [if_neg (by omega)]
          first
            | (fail)
            | exact ⟨rfl, Chg.refl _ _⟩
        go_simp
        refine hK _ ?_
        clear hK K
      refine wpRel_rel rfl rfl (IsReader.keepT (by simp; omega)) (fun w' hw' => ?_) (fun K hK => ?_)
      · repeat (first | (with_reducible refine Fills_val ?_) | ((with_reducible refine Fills_no ?_ ?_); (focus rfl)))
        with_reducible refine Fills_yes ?_ (fun v1 hv1 => ?_)
        · rfl
        repeat (first | (with_reducible refine Fills_val ?_) | ((with_reducible refine Fills_no ?_ ?_); (focus rfl)))
        with_reducible refine Fills_end ?_
        have C1 := (hw'.at (k := w.heap.size) (by omega) (by simp)).1; have C2 := (hw'.at (k := b) (by omega) (by simp; omega)).1
        (obtain ⟨ao2, n2, c2, S2, rfl, ho2, hm2⟩ := hv1)
        go_simp
        exact ⟨⟨ao2, n2, c2, S2, rfl, ho2, hm2⟩, Chg.refl _ _⟩
      go_simp
      refine hK _ ?_
      clear hK K
      repeat
        refine wpRel_det rfl rfl (fun K hK => ?_)
        apply Exists.intro
        refine ⟨fun w' hw' => ?_, ?_⟩
        · repeat (first | (with_reducible refine Fills_val ?_) | ((with_reducible refine Fills_no ?_ ?_); (focus rfl)))
          with_reducible refine Fills_end ?_
          have C1 := (hw'.at (k := w.heap.size) (by omega) (by simp)).1; have C2 := (hw'.at (k := b) (by omega) (by simp; omega)).1
          go_simp
          try rw [if_neg (by omega)]
          first
            | (fail)
            | exact ⟨rfl, Chg.refl _ _⟩
        go_simp
        refine hK _ ?_
        clear hK K
      refine wpRel_wr rfl rfl BoxReader.keep (fun K hK => ?_)
      apply Exists.intro
      refine ⟨fun w' hw' hM => ?_, ?_⟩
      · repeat (first | (with_reducible refine Fills_val ?_) | ((with_reducible refine Fills_no ?_ ?_); (focus rfl)))
        with_reducible refine Fills_yes ?_ (fun v1 hv1 => ?_)
        · rfl
        repeat (first | (with_reducible refine Fills_val ?_) | ((with_reducible refine Fills_no ?_ ?_); (focus rfl)))
        with_reducible refine Fills_end ?_
        have C1 := (hw'.at (k := w.heap.size) (by omega) (by simp)).1; have C2 := (hw'.at (k := b) (by omega) (by simp; omega)).1
        (obtain ⟨ao2, n2, c2, S2, rfl, ho2, hm2⟩ := hv1; have hbk := block_ext HB.out hM; have hq := hid hbk; obtain ⟨C3, F3⟩ := block_cells hbk; clear hbk)
        go_simp
        exact ⟨rfl, (((Chg.refl _ _).setCell (by simp) _).setCell (by simp) _).setCell (by simp) _, _, box_set (box_set (box_set hq.out _) _) _, ao2, n2, c2, S2, rfl, Own.setOther (Own.setOther (Own.setOther ho2 (fun hx => by have := hm2 _ hx; dsimp only at this; omega) _) (fun hx => by have := hm2 _ hx; dsimp only at this; omega) _) (fun hx => by have := hm2 _ hx; dsimp only at this; omega) _, hm2⟩
      go_simp
      refine hK _ ?_
      clear hK K
      refine wpRel_nil (fun w2 k2 M2 => ?_)
      repeat (with_reducible refine Fills_val ?_)
      with_reducible refine Fills_yes ?_ (fun u20 hu20 => ?_)
      · rfl
      repeat (with_reducible refine Fills_val ?_)
      with_reducible refine Fills_yes ?_ (fun v23 hv23 => ?_)
      · rfl
      repeat (with_reducible refine Fills_val ?_)
      with_reducible refine Fills_end ?_
      simp only [List.drop_succ_cons, List.drop_zero]
      obtain ⟨u2, hb2, ao2, n2, c2, S2, rfl, ho2, hm2⟩ := M2
      obtain ⟨C4, F4⟩ := block_cells hb2
      clear hb2 hu20 hv23
      go_wp2
      refine bodyPost_ret (v := .tuple #[.agg #[.string ⟨x0.toArray⟩, .slice ao2 n2 c2, .bool x2], .string ⟨z.toArray⟩, .bool true]) (by simp [results, Try.results27, go_sem, C4]) rfl ⟨_, rfl, H1.trans' k2 (by simp), ao2, n2, c2, S2, rfl, ho2, fun x hx => by have := hm2 x hx; omega⟩
set_option maxHeartbeats 1600000 in
set_option maxRecDepth 20000 in
theorem s_TakeFrame {x0 : List UInt8} {x2 : Bool} {zs1 : List (List UInt8)} {ao1 : Option Addr} {n1 c1 lo hi : Nat} {w : World} (h1 : Sl w lo hi 1 ao1 n1 c1 (zs1.map cS)) (hhi : hi ≤ w.heap.size) (b1 : n1 ≤ 1048576) (y0 : x0.length ≤ 1048576) (y1 : ∀ z ∈ zs1, z.length ≤ 9223372036854775807) :
    Calls Try.prog 26 #[.agg #[.string ⟨x0.toArray⟩, .slice ao1 n1 c1, .bool x2]] w fun e w' => ∃ v, e = .returned (.tuple #[v, .string ⟨(tfS x0 zs1 x2).toArray⟩, .bool (tfOk x0 zs1 x2)]) ∧ Chg [] w w' ∧ IsReader w.heap.size (tfA x0 zs1 x2) (tfB x0 zs1 x2) (tfL x0 zs1 x2) v w' := by
  have e1 : Hid (zs1.length = n1) := h1.length
  have H0 : ∀ A B : Obj, Chg [] w ((w.alloc A).alloc B) := fun A B => ((Chg.refl _ _).alloc A).alloc B
  cases hg : gr x0 zs1 x2 with
  | false =>
    have hk : tfOk x0 zs1 x2 = false := by simp [tfOk, hg]
    simp only [tfA, tfB, tfL, tfS, hk]
    have HG := hid hg
    clear hg hk
    go_enter Try.func26, Try.ntmps26
    go_wp2_with fail
    refine (s_GoodReader (h1.ext (H0 _ _) hhi) (by simp; omega) b1 y0 y1).mono ?_
    rintro e w1 ⟨he, k1⟩
    rw [HG.out] at he
    subst he
    obtain ⟨B1, F1⟩ := k1.cells
    have Z1 : w.heap.size + 1 < w1.heap.size := by have := k1.size; simp at this; omega
    go_wp2
    refine bodyPost_ret (v := .tuple #[.agg #[.string ⟨([] : List UInt8).toArray⟩, .slice none 0 0, .bool false], .string ⟨([] : List UInt8).toArray⟩, .bool false]) (by simp [results, Try.results26, go_sem, B1, Z1]) rfl ⟨_, rfl, ?_, none, 0, 0, [], rfl, Own.nil _ _ _, by simp⟩
    repeat (refine Chg.setCell ?_ (Or.inr (by dsimp only; omega)) _)
    exact (H0 _ _).trans k1
  | true =>
    have HG := hid hg
    by_cases hn : n1 = 0
    · subst hn
      have hk : tfOk x0 zs1 x2 = false := by simp [tfOk, e1.out]
      simp only [tfA, tfB, tfL, tfS, hk]
      clear hg hk
      go_enter Try.func26, Try.ntmps26
      go_wp2_with fail
      refine (s_GoodReader (h1.ext (H0 _ _) hhi) (by simp; omega) b1 y0 y1).mono ?_
      rintro e w1 ⟨he, k1⟩
      rw [HG.out] at he
      subst he
      obtain ⟨B1, F1⟩ := k1.cells
      have Z1 : w.heap.size + 1 < w1.heap.size := by have := k1.size; simp at this; omega
      go_wp2
      refine bodyPost_ret (v := .tuple #[.agg #[.string ⟨([] : List UInt8).toArray⟩, .slice none 0 0, .bool false], .string ⟨([] : List UInt8).toArray⟩, .bool false]) (by simp [results, Try.results26, go_sem, B1, Z1]) rfl ⟨_, rfl, ?_, none, 0, 0, [], rfl, Own.nil _ _ _, by simp⟩
      repeat (refine Chg.setCell ?_ (Or.inr (by dsimp only; omega)) _)
      exact (H0 _ _).trans k1
    · have hk : tfOk x0 zs1 x2 = true := by simp [tfOk, hg, e1.out]; omega
      simp only [tfA, tfB, tfL, tfS, hk, if_true]
      clear hg hk
      obtain ⟨b, off, z, rfl, hb1, hb2, hz, hcell⟩ := h1.at (j := 0) (by omega)
      rw [hz.out, Option.getD_some]
      rw [Nat.add_zero] at hcell
      have hn0 : 0 < n1 := by omega
      have hbw : b < w.heap.size := by omega
      obtain ⟨ao', hs, hd⟩ := h1.from etStrs (j := 1) (J := 1) rfl (by omega)
      rw [Nat.mul_one, ← List.map_drop, List.drop_one] at hd
      go_enter Try.func26, Try.ntmps26
      go_wp2_with fail
      refine (s_GoodReader (h1.ext (H0 _ _) hhi) (by simp; omega) b1 y0 y1).mono ?_
      rintro e w1 ⟨he, k1⟩
      rw [HG.out] at he
      subst he
      obtain ⟨B1, F1⟩ := k1.cells
      have Z1 : w.heap.size + 1 < w1.heap.size := by have := k1.size; simp at this; omega
      have H1 := (H0 _ _).trans k1
      have hblk : w1.heap[w.heap.size + 1]? = some (.cells #[.string ⟨#[]⟩, .slice none 0 0, .bool false] 37 (0, 0)) := block_ext (by have := heap_alloc_new (w.alloc (.cells #[.string ⟨x0.toArray⟩, .slice (some ⟨b, off, none⟩) n1 c1, .bool x2] 37)) (.cells #[.string ⟨#[]⟩, .slice none 0 0, .bool false] 37 (0, 0)); simpa using this) k1
      have HB := hid hblk
      have hcell1 := ((H1.at (k := b) hbw (by simp)).1 off).trans hcell
      clear hblk
      go_wp2
      refine wp_region_mem 15 [w.heap.size + 1] [14] [] (fun _ => BoxReader (w.heap.size + 1) 37 w1.heap.size x0 x2 zs1.tail)
        (fun i => match i with | 2 => some IsVac | 6 => some (IsStrs w1.heap.size zs1.tail) | 9 => some (IsReader w1.heap.size x0 x2 zs1.tail) | _ => none) (by kernel_rfl) (by kernel_rfl) (by kernel_rfl) (by decide) ?_
      simp only [List.map_cons, List.map_nil, List.take_succ_cons, List.take_zero]
      repeat
        refine wpRel_det rfl rfl (fun K hK => ?_)
        apply Exists.intro
        refine ⟨fun w' hw' => ?_, ?_⟩
        · repeat (first | (with_reducible refine Fills_val ?_) | ((with_reducible refine Fills_no ?_ ?_); (focus rfl)))
          with_reducible refine Fills_end ?_
          have C1 := (hw'.at (k := w.heap.size) (by omega) (by simp)).1; have C2 := (hw'.at (k := b) (by omega) (by simp; omega)).1
          go_simp
          try rw [if_neg (by omega)]
          first
            | (fail)
            | exact ⟨rfl, Chg.refl _ _⟩
        go_simp
        refine hK _ ?_
        clear hK K
      refine wpRel_rel rfl rfl IsVac.keep (fun w' hw' => ?_) (fun K hK => ?_)
      · repeat (first | (with_reducible refine Fills_val ?_) | ((with_reducible refine Fills_no ?_ ?_); (focus rfl)))
        with_reducible refine Fills_end ?_
        have C1 := (hw'.at (k := w.heap.size) (by omega) (by simp)).1; have C2 := (hw'.at (k := b) (by omega) (by simp; omega)).1
        go_simp
        exact ⟨⟨_, rfl⟩, (Chg.refl _ _).alloc _⟩
      go_simp
      refine hK _ ?_
      clear hK K
      repeat
        refine wpRel_det rfl rfl (fun K hK => ?_)
        apply Exists.intro
        refine ⟨fun w' hw' => ?_, ?_⟩
        · repeat (first | (with_reducible refine Fills_val ?_) | ((with_reducible refine Fills_no ?_ ?_); (focus rfl)))
          with_reducible refine Fills_end ?_
          have C1 := (hw'.at (k := w.heap.size) (by omega) (by simp)).1; have C2 := (hw'.at (k := b) (by omega) (by simp; omega)).1
          go_simp
          try rw [if_neg (by omega)]
          first
            | (fail)
            | exact ⟨rfl, Chg.refl _ _⟩
        go_simp
        refine hK _ ?_
        clear hK K
      refine wpRel_rel rfl rfl (IsStrs.keepT (by simp; omega)) (fun w' hw' => ?_) (fun K hK => ?_)
      · repeat (first | (with_reducible refine Fills_val ?_) | ((with_reducible refine Fills_no ?_ ?_); (focus rfl)))
        with_reducible refine Fills_yes ?_ (fun v1 hv1 => ?_)
        · rfl
        repeat (first | (with_reducible refine Fills_val ?_) | ((with_reducible refine Fills_no ?_ ?_); (focus rfl)))
        with_reducible refine Fills_end ?_
        have C1 := (hw'.at (k := w.heap.size) (by omega) (by simp)).1; have C2 := (hw'.at (k := b) (by omega) (by simp; omega)).1
        (obtain ⟨ao3, rfl⟩ := hv1; have hd2 := (hd.ext H1 hhi).chg hw' (by omega) (by simp; omega); refine step_append_none rfl _ _ _ rfl etStrs rfl rfl hd2.src hd2.len (by intro u hu; obtain ⟨y, _, rfl⟩ := List.mem_map.1 hu; rfl) (by omega) (by omega) ?_; intro ao4 c4 S4 w4 ho4 hc4 hm4; exact ⟨⟨ao4, _, c4, S4, rfl, ho4, fun x hx => by have := hm4 x hx; have := hw'.size; omega⟩, hc4⟩)
      go_simp
      refine hK _ ?_
      clear hK K
      repeat
        refine wpRel_det rfl rfl (fun K hK => ?_)
        apply Exists.intro
        refine ⟨fun w' hw' => ?_, ?_⟩
        · repeat (first | (with_reducible refine Fills_val ?_) | ((with_reducible refine Fills_no ?_ ?_); (focus rfl)))
          with_reducible refine Fills_end ?_
          have C1 := (hw'.at (k := w.heap.size) (by omega) (by simp)).1; have C2 := (hw'.at (k := b) (by omega) (by simp; omega)).1
          go_simp
          try rw [if_neg (by omega)]
          first
            | (fail)
            | exact ⟨rfl, Chg.refl _ _⟩
        go_simp
        refine hK _ ?_
        clear hK K
      refine wpRel_rel rfl rfl (IsReader.keepT (by simp; omega)) (fun w' hw' => ?_) (fun K hK => ?_)
      · repeat (first | (with_reducible refine Fills_val ?_) | ((with_reducible refine Fills_no ?_ ?_); (focus rfl)))
        with_reducible refine Fills_yes ?_ (fun v1 hv1 => ?_)
        · rfl
        repeat (first | (with_reducible refine Fills_val ?_) | ((with_reducible refine Fills_no ?_ ?_); (focus rfl)))
        with_reducible refine Fills_end ?_
        have C1 := (hw'.at (k := w.heap.size) (by omega) (by simp)).1; have C2 := (hw'.at (k := b) (by omega) (by simp; omega)).1
        (obtain ⟨ao2, n2, c2, S2, rfl, ho2, hm2⟩ := hv1)
        go_simp
        exact ⟨⟨ao2, n2, c2, S2, rfl, ho2, hm2⟩, Chg.refl _ _⟩
      go_simp
      refine hK _ ?_
      clear hK K
      repeat
        refine wpRel_det rfl rfl (fun K hK => ?_)
        apply Exists.intro
        refine ⟨fun w' hw' => ?_, ?_⟩
        · repeat (first | (with_reducible refine Fills_val ?_) | ((with_reducible refine Fills_no ?_ ?_); (focus rfl)))
          with_reducible refine Fills_end ?_
          have C1 := (hw'.at (k := w.heap.size) (by omega) (by simp)).1; have C2 := (hw'.at (k := b) (by omega) (by simp; omega)).1
          go_simp
          try rw [if_neg (by omega)]
          first
            | (fail)
            | exact ⟨rfl, Chg.refl _ _⟩
        go_simp
        refine hK _ ?_
        clear hK K
      refine wpRel_wr rfl rfl BoxReader.keep (fun K hK => ?_)
      apply Exists.intro
      refine ⟨fun w' hw' hM => ?_, ?_⟩
      · repeat (first | (with_reducible refine Fills_val ?_) | ((with_reducible refine Fills_no ?_ ?_); (focus rfl)))
        with_reducible refine Fills_yes ?_ (fun v1 hv1 => ?_)
        · rfl
        repeat (first | (with_reducible refine Fills_val ?_) | ((with_reducible refine Fills_no ?_ ?_); (focus rfl)))
        with_reducible refine Fills_end ?_
        have C1 := (hw'.at (k := w.heap.size) (by omega) (by simp)).1; have C2 := (hw'.at (k := b) (by omega) (by simp; omega)).1
        (obtain ⟨ao2, n2, c2, S2, rfl, ho2, hm2⟩ := hv1; have hbk := block_ext HB.out hM; have hq := hid hbk; obtain ⟨C3, F3⟩ := block_cells hbk; clear hbk)
        go_simp
        exact ⟨rfl, (((Chg.refl _ _).setCell (by simp) _).setCell (by simp) _).setCell (by simp) _, _, box_set (box_set (box_set hq.out _) _) _, ao2, n2, c2, S2, rfl, Own.setOther (Own.setOther (Own.setOther ho2 (fun hx => by have := hm2 _ hx; dsimp only at this; omega) _) (fun hx => by have := hm2 _ hx; dsimp only at this; omega) _) (fun hx => by have := hm2 _ hx; dsimp only at this; omega) _, hm2⟩
      go_simp
      refine hK _ ?_
      clear hK K
      refine wpRel_nil (fun w2 k2 M2 => ?_)
      repeat (with_reducible refine Fills_val ?_)
      with_reducible refine Fills_yes ?_ (fun u17 hu17 => ?_)
      · rfl
      repeat (with_reducible refine Fills_val ?_)
      with_reducible refine Fills_yes ?_ (fun u20 hu20 => ?_)
      · rfl
      repeat (with_reducible refine Fills_val ?_)
      with_reducible refine Fills_yes ?_ (fun v23 hv23 => ?_)
      · rfl
      repeat (with_reducible refine Fills_val ?_)
      with_reducible refine Fills_end ?_
      simp only [List.drop_succ_cons, List.drop_zero]
      obtain ⟨u2, hb2, ao2, n2, c2, S2, rfl, ho2, hm2⟩ := M2
      obtain ⟨C4, F4⟩ := block_cells hb2
      clear hb2 hu17 hu20 hv23
      go_wp2
      refine bodyPost_ret (v := .tuple #[.agg #[.string ⟨x0.toArray⟩, .slice ao2 n2 c2, .bool x2], .string ⟨z.toArray⟩, .bool true]) (by simp [results, Try.results26, go_sem, C4]) rfl ⟨_, rfl, H1.trans' k2 (by simp), ao2, n2, c2, S2, rfl, ho2, fun x hx => by have := hm2 x hx; omega⟩
end Go.Proofs.Ytohoggoggchaeaa
