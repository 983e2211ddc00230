/- What functions of the program do, by the machine: Fr1. -/
import Derived.Test.YtjghbihlgfjebaaDGoodF
import Derived.KernelRfl
import Derived.Test.YtjghbihlgfjebaaRows
namespace Go.Proofs.Ytjghbihlgfjebaa.Den
open Go.Proofs
set_option maxRecDepth 100000
/-- The sum of bytes. -/
def sumF (h : Int) (b : UInt8) : Int := (31 * h + b.toNat) % 251
def sumB (l : List UInt8) : Int := l.foldl sumF 1
/-- A text as a frame. -/
def frB (l : List UInt8) : List UInt8 := 126 :: UInt8.ofNat l.length :: (l ++ [UInt8.ofNat (sumB l).toNat])
def sumG : List V → List Blk → Br (V × List (Option Blk))
  | [.s s], [] => .need (decide (s.length ≤ maxI)) (.leaf (.i .i64 (sumB s), []))
  | _, _ => .no
def frameG : List V → List Blk → Br (V × List (Option Blk))
  | [.s s], [] => .need (decide (s.length ≤ 255)) (.leaf (.s (frB s), []))
  | _, _ => .no
def frameOfG : List V → List Blk → Br (V × List (Option Blk))
  | [.s s], [] => .leaf (.tup [.s (if s.length ≤ 60 then frB s else []), .b (decide (s.length ≤ 60))], [])
  | _, _ => .no
def fsumE : LoopEnt := ⟨20, [0,3,6,7], [3], [], fun
  | ([.s s, .i .i64 h, .i .i64 m, .i .i64 i], []) =>
    .need (decide (0 ≤ i ∧ i.toNat ≤ s.length ∧ s.length ≤ maxI ∧ 0 ≤ h ∧ h ≤ 1000 ∧ m = s.length)) (.leaf (.exit 0, ([.i .i64 ((s.drop i.toNat).foldl sumF h)], [])))
  | _ => .no⟩
def lsumE : LoopEnt := ⟨20, [0,3,4], [3], [], fun
  | ([.s s, .i .i64 h, .i .i64 i], []) =>
    .need (decide (0 ≤ i ∧ i.toNat ≤ s.length ∧ s.length ≤ maxI ∧ 0 ≤ h ∧ h ≤ 1000)) (.leaf (.exit 0, ([.i .i64 ((s.drop i.toNat).foldl sumF h)], [])))
  | _ => .no⟩
theorem sumF_range (h : Int) (b : UInt8) : 0 ≤ sumF h b ∧ sumF h b ≤ 250 := by unfold sumF; omega
theorem sumB_range (l : List UInt8) : 0 ≤ sumB l ∧ sumB l ≤ 250 := by
  have key : ∀ (l : List UInt8) (h : Int), 0 ≤ h ∧ h ≤ 250 → 0 ≤ l.foldl sumF h ∧ l.foldl sumF h ≤ 250 := by
    intro l
    induction l with
    | nil => intro h hh; exact hh
    | cons b l ih => intro h _; exact ih _ (sumF_range h b)
  exact key l 1 (by omega)
theorem fsum_round (s : List UInt8) (h i : Int) (m : Int) : roundK Try.prog (look []) (look [(3, fsumE)]) 0 (body Try.f140 0) fsumE ([.s s, .i .i64 h, .i .i64 m, .i .i64 i], []) =
  ((ifB (decide (i < m))
  (ifT (decide ((0 : Int) ≤ i))
  (ifSome s[i.toNat]? fun z =>
  some
  (Ex.normal,
  [V.s s,
  V.i IntKind.i64
  ((IntKind.i64.wrap (IntKind.i64.wrap ((31 : Int) * h) + IntKind.i64.wrap (↑z.toNat : Int))).tmod
  (251 : Int)),
  V.i IntKind.i64 m, V.i IntKind.i64 (IntKind.i64.wrap (i + (1 : Int)))],
  [])))
  (some (Ex.exit (0 : Nat), [V.i IntKind.i64 h], []))) : _) := by kernel_rfl
theorem fsum_loop {s : List UInt8} (hs : s.length ≤ maxI) : ∀ (j i : Nat) (h : Int), i + j = s.length → 0 ≤ h → h ≤ 1000 →
    Runs Try.prog (look []) (look [(3, fsumE)]) 0 (body Try.f140 0) fsumE ([.s s, .i .i64 h, .i .i64 (↑s.length : Int), .i .i64 (i : Int)], []) (.exit 0) ([.i .i64 ((s.drop i).foldl sumF h)], [])
  | 0, i, h, hi, h0, h1 => by
    have hr := fsum_round s h i s.length
    rw [ifB_false (decide_eq_false (by omega))] at hr
    rw [List.drop_eq_nil_of_le (by omega)]
    exact .stop _ _ _ hr (by simp)
  | j + 1, i, h, hi, h0, h1 => by
    have hil : i < s.length := by omega
    have hr := fsum_round s h i s.length
    rw [ifB_true (decide_eq_true (by omega)), ifT_true (by simp only [decide_eq_true_eq]; omega), Int.toNat_natCast, List.getElem?_eq_getElem hil, ifSome_s] at hr
    rw [List.drop_eq_getElem_cons hil, List.foldl_cons]
    have hb := (s[i]).toNat_lt
    have w1 : IntKind.i64.wrap (31 * h) = 31 * h := wrap_id (by omega) (by omega)
    have w2 : IntKind.i64.wrap ((s[i].toNat : Nat) : Int) = (s[i].toNat : Int) := wrap_id (by omega) (by omega)
    have w3 : IntKind.i64.wrap (31 * h + (s[i].toNat : Int)) = 31 * h + (s[i].toNat : Int) := wrap_id (by omega) (by omega)
    have w4 : (31 * h + (s[i].toNat : Int)).tmod 251 = sumF h s[i] := by rw [Int.tmod_eq_emod_of_nonneg (by omega)]; rfl
    simp only [w1, w2, w3, w4, wrap_succ (n := i) (by omega)] at hr
    have hq := sumF_range h s[i]
    exact .step _ _ _ _ hr (fsum_loop hs j (i + 1) _ (by omega) hq.1 (by omega))
theorem fsum_ok : LoopsOk Try.prog (look []) (look [(3, fsumE)]) 0 (Try.f140.body.getD .skip) := by
  refine loopsOk_one (a := body Try.f140 0) (by kernel_rfl) fun d e d' hq => ?_
  unfold fsumE at hq
  dsimp only at hq
  split at hq
  · rename_i s h m i
    obtain ⟨hc, hx⟩ := need_some hq
    clear hq
    obtain ⟨h0, h1, h2, h3, h4, rfl⟩ := of_decide_eq_true hc
    obtain ⟨i, rfl⟩ := Int.eq_ofNat_of_zero_le h0
    cases leaf_some hx
    rw [Int.toNat_natCast] at h1
    exact fsum_loop h2 (s.length - i) i h (by omega) h3 h4
  · cases hq
theorem fsum_fun (s : List UInt8) (hs : s.length ≤ maxI) : funK Try.prog (look []) (look [(3, fsumE)]) Try.f140 [.s s] [] = some (.i .i64 (sumB s), []) := by
  have e : funK Try.prog (look []) (look [(3, fsumE)]) Try.f140 [.s s] [] = ((ifT
  (decide
  ((0 : Int) ≤ (0 : Int) ∧
  (0 : Nat) ≤ s.length ∧
  s.length ≤ maxI ∧ (0 : Int) ≤ (1 : Int) ∧ (1 : Int) ≤ (1000 : Int) ∧ (↑s.length : Int) = (↑s.length : Int)))
  (some (V.i IntKind.i64 (List.foldl sumF (1 : Int) (List.drop (0 : Nat) s)), []))) : _) := by kernel_rfl
  rw [e]
  clear e
  rw [ifT_true (decide_eq_true ⟨by omega, by omega, hs, by omega, by omega, by trivial⟩)]
  rfl
theorem fsum : Contract Try.prog 140 (Ent.rd1 sumG).F := by
  refine fun_contract' KnowsL.nil.knows (Λ := look [(3, fsumE)]) Try.func140 (c := Try.f140.body.getD .skip) (by kernel_rfl) fun vs bs r' hq hv hb => ?_
  unfold Ent.F sumG at hq
  dsimp only at hq
  split at hq
  · rename_i s
    obtain ⟨hc, hx⟩ := need_some hq
    exact ⟨fsum_ok, (fsum_fun s (of_decide_eq_true hc)).trans hx⟩
  · cases hq
theorem lsum_round (s : List UInt8) (h i : Int) : roundK Try.prog (look []) (look [(3, lsumE)]) 0 (body Try.f158 0) lsumE ([.s s, .i .i64 h, .i .i64 i], []) =
  ((ifB (decide (i < (↑s.length : Int)))
  (ifT (decide ((0 : Int) ≤ i))
  (ifSome s[i.toNat]? fun z =>
  some
  (Ex.normal,
  [V.s s,
  V.i IntKind.i64
  ((IntKind.i64.wrap (IntKind.i64.wrap ((31 : Int) * h) + IntKind.i64.wrap (↑z.toNat : Int))).tmod
  (251 : Int)),
  V.i IntKind.i64 (IntKind.i64.wrap (i + (1 : Int)))],
  [])))
  (some (Ex.exit (0 : Nat), [V.i IntKind.i64 h], []))) : _) := by kernel_rfl
theorem lsum_loop {s : List UInt8} (hs : s.length ≤ maxI) : ∀ (j i : Nat) (h : Int), i + j = s.length → 0 ≤ h → h ≤ 1000 →
    Runs Try.prog (look []) (look [(3, lsumE)]) 0 (body Try.f158 0) lsumE ([.s s, .i .i64 h, .i .i64 (i : Int)], []) (.exit 0) ([.i .i64 ((s.drop i).foldl sumF h)], [])
  | 0, i, h, hi, h0, h1 => by
    have hr := lsum_round s h i
    rw [ifB_false (decide_eq_false (by omega))] at hr
    rw [List.drop_eq_nil_of_le (by omega)]
    exact .stop _ _ _ hr (by simp)
  | j + 1, i, h, hi, h0, h1 => by
    have hil : i < s.length := by omega
    have hr := lsum_round s h i
    rw [ifB_true (decide_eq_true (by omega)), ifT_true (by simp only [decide_eq_true_eq]; omega), Int.toNat_natCast, List.getElem?_eq_getElem hil, ifSome_s] at hr
    rw [List.drop_eq_getElem_cons hil, List.foldl_cons]
    have hb := (s[i]).toNat_lt
    have w1 : IntKind.i64.wrap (31 * h) = 31 * h := wrap_id (by omega) (by omega)
    have w2 : IntKind.i64.wrap ((s[i].toNat : Nat) : Int) = (s[i].toNat : Int) := wrap_id (by omega) (by omega)
    have w3 : IntKind.i64.wrap (31 * h + (s[i].toNat : Int)) = 31 * h + (s[i].toNat : Int) := wrap_id (by omega) (by omega)
    have w4 : (31 * h + (s[i].toNat : Int)).tmod 251 = sumF h s[i] := by rw [Int.tmod_eq_emod_of_nonneg (by omega)]; rfl
    simp only [w1, w2, w3, w4, wrap_succ (n := i) (by omega)] at hr
    have hq := sumF_range h s[i]
    exact .step _ _ _ _ hr (lsum_loop hs j (i + 1) _ (by omega) hq.1 (by omega))
theorem lsum_ok : LoopsOk Try.prog (look []) (look [(3, lsumE)]) 0 (Try.f158.body.getD .skip) := by
  refine loopsOk_one (a := body Try.f158 0) (by kernel_rfl) fun d e d' hq => ?_
  unfold lsumE at hq
  dsimp only at hq
  split at hq
  · rename_i s h i
    obtain ⟨hc, hx⟩ := need_some hq
    clear hq
    obtain ⟨h0, h1, h2, h3, h4⟩ := of_decide_eq_true hc
    obtain ⟨i, rfl⟩ := Int.eq_ofNat_of_zero_le h0
    cases leaf_some hx
    rw [Int.toNat_natCast] at h1
    exact lsum_loop h2 (s.length - i) i h (by omega) h3 h4
  · cases hq
theorem lsum_fun (s : List UInt8) (hs : s.length ≤ maxI) : funK Try.prog (look []) (look [(3, lsumE)]) Try.f158 [.s s] [] = some (.i .i64 (sumB s), []) := by
  have e : funK Try.prog (look []) (look [(3, lsumE)]) Try.f158 [.s s] [] = ((ifT
  (decide
  ((0 : Int) ≤ (0 : Int) ∧ (0 : Nat) ≤ s.length ∧ s.length ≤ maxI ∧ (0 : Int) ≤ (1 : Int) ∧ (1 : Int) ≤ (1000 : Int)))
  (some (V.i IntKind.i64 (List.foldl sumF (1 : Int) (List.drop (0 : Nat) s)), []))) : _) := by kernel_rfl
  rw [e]
  clear e
  rw [ifT_true (decide_eq_true ⟨by omega, by omega, hs, by omega, by omega⟩)]
  rfl
theorem lsum : Contract Try.prog 158 (Ent.rd1 sumG).F := by
  refine fun_contract' KnowsL.nil.knows (Λ := look [(3, lsumE)]) Try.func158 (c := Try.f158.body.getD .skip) (by kernel_rfl) fun vs bs r' hq hv hb => ?_
  unfold Ent.F sumG at hq
  dsimp only at hq
  split at hq
  · rename_i s
    obtain ⟨hc, hx⟩ := need_some hq
    exact ⟨lsum_ok, (lsum_fun s (of_decide_eq_true hc)).trans hx⟩
  · cases hq
theorem frame_fun (s : List UInt8) (hs : s.length ≤ 255) : funK Try.prog (look [(158, .rd1 sumG)]) (look []) Try.f144 [.s s] [] = some (.s (frB s), []) := by
  have e : funK Try.prog (look [(158, .rd1 sumG)]) (look []) Try.f144 [.s s] [] = ((ifT (decide ((2 : Nat) + s.length ≤ (9223372036854775807 : Nat)))
  (ifT (decide (s.length ≤ maxI))
  (ifT
  (decide
  (([(126 : UInt8)] ++
  List.map (fun n => UInt8.ofNat n.toNat)
  (IntKind.u8.wrap (↑s.length : Int) :: nilT (Cd.int IntKind.u8).den) ++
  s).length +
  (1 : Nat) ≤
  (9223372036854775807 : Nat)))
  (some
  (V.s
  ([(126 : UInt8)] ++
  List.map (fun n => UInt8.ofNat n.toNat)
  (IntKind.u8.wrap (↑s.length : Int) :: nilT (Cd.int IntKind.u8).den) ++
  s ++
  List.map (fun n => UInt8.ofNat n.toNat) (IntKind.u8.wrap (sumB s) :: nilT (Cd.int IntKind.u8).den)),
  []))))) : _) := by kernel_rfl
  rw [e]
  clear e
  have hM : maxI = 9223372036854775807 := rfl
  have hr := sumB_range s
  have u8 : ∀ n : Int, 0 ≤ n → n ≤ 255 → IntKind.u8.wrap n = n := fun n h1 h2 => by
    unfold IntKind.wrap
    simp only [IntKind.bits, IntKind.signed]
    simp
    omega
  simp only [u8 s.length (by omega) (by omega), u8 (sumB s) hr.1 (by omega), Int.toNat_natCast, List.drop_zero, List.take_succ_cons, List.take_zero, List.map_cons, List.map_nil, nilT_eq]
  rw [ifT_true (decide_eq_true (by omega)), ifT_true (decide_eq_true (by omega)), ifT_true (decide_eq_true (by simp; omega))]
  unfold frB
  simp
theorem frame : Contract Try.prog 144 (Ent.rd1 frameG).F := by
  refine fun_contract' (KnowsL.cons (enters_fn Try.func158 (by kernel_rfl) (by kernel_rfl)) lsum KnowsL.nil).knows (Λ := look []) Try.func144 (c := Try.f144.body.getD .skip) (by kernel_rfl) fun vs bs r' hq hv hb => ?_
  unfold Ent.F frameG at hq
  dsimp only at hq
  split at hq
  · rename_i s
    obtain ⟨hc, hx⟩ := need_some hq
    exact ⟨loopsOk_nil _, (frame_fun s (of_decide_eq_true hc)).trans hx⟩
  · cases hq
theorem frameOf_fun (s : List UInt8) : funK Try.prog (look [(144, .rd1 frameG)]) (look []) Try.f141 [.s s] [] = some (.tup [.s (if s.length ≤ 60 then frB s else []), .b (decide (s.length ≤ 60))], []) := by
  have e : funK Try.prog (look [(144, .rd1 frameG)]) (look []) Try.f141 [.s s] [] = ((ifB (decide ((↑s.length : Int) > (60 : Int))) (some (V.tup [V.s (nilT UInt8), V.b false], []))
  (ifT (decide (s.length ≤ (255 : Nat))) (some (V.tup [V.s (frB s), V.b true], [])))) : _) := by kernel_rfl
  rw [e]
  clear e
  by_cases h : s.length ≤ 60
  · rw [ifB_false (decide_eq_false (by omega)), ifT_true (decide_eq_true (by omega)), if_pos h, decide_eq_true h]
  · rw [ifB_true (decide_eq_true (by omega)), if_neg h, decide_eq_false h]
theorem frameOf : Contract Try.prog 141 (Ent.rd1 frameOfG).F := by
  refine fun_contract' (KnowsL.cons (enters_fn Try.func144 (by kernel_rfl) (by kernel_rfl)) frame KnowsL.nil).knows (Λ := look []) Try.func141 (c := Try.f141.body.getD .skip) (by kernel_rfl) fun vs bs r' hq hv hb => ?_
  unfold Ent.F frameOfG at hq
  dsimp only at hq
  split at hq
  · rename_i s
    exact ⟨loopsOk_nil _, (frameOf_fun s).trans hq⟩
  · cases hq
end Go.Proofs.Ytjghbihlgfjebaa.Den
