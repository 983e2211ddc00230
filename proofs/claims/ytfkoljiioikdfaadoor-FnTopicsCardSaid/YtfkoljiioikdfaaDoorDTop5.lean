/- What functions of the program do, by the machine: Top5. -/
import Derived.Test.YtfkoljiioikdfaaDoorDIdxStr
import Derived.KernelRfl
import Derived.Test.YtfkoljiioikdfaaDoorRows
namespace Go.Proofs.YtfkoljiioikdfaaDoor.Den
open Go.Proofs
set_option maxRecDepth 100000
def levelsG : List V → List Blk → Br (V × List (Option Blk))
  | [.s s], [] => .need (decide (s.length ≤ 4000000000)) (.br (lvB (cut 47 s)) (.leaf (.ref 0 0 (cut 47 s).length, [some (.row false none .str (cut 47 s))])) (.leaf (.ref 0 0 0, [some (.row false (some true) .str [])])))
  | _, _ => .no
def gtopG : List V → List Blk → Br (V × List (Option Blk))
  | [.s s], [] => .need (decide (s.length ≤ 4000000000)) (.leaf (.b (tpB (cut 47 s)), []))
  | _, _ => .no
def gpatG : List V → List Blk → Br (V × List (Option Blk))
  | [.s s], [] => .need (decide (s.length ≤ 4000000000)) (.leaf (.b (lvB (cut 47 s)), []))
  | _, _ => .no
theorem cut_small (c : UInt8) : ∀ (s : List UInt8), ∀ z ∈ cut c s, z.length ≤ s.length
  | [], z, h => by simp [cut] at h; simp [h]
  | b :: l, z, h => by
    have ih := cut_small c l
    rw [cut] at h
    split at h
    · rcases List.mem_cons.1 h with rfl | h
      · simp
      · have := ih z h; simp; omega
    · split at h
      · cases h
      · rename_i x t hh
        rw [hh] at ih
        rcases List.mem_cons.1 h with rfl | h
        · have := ih x (by simp); simp; omega
        · have := ih z (by simp [h]); simp; omega
theorem cut_facts {s : List UInt8} (hc : s.length ≤ 4000000000) : (∀ z ∈ cut 47 s, z.length ≤ 4000000000) ∧ 0 < (cut 47 s).length ∧ (cut 47 s).length ≤ 4000000001 := by
  have h1 := cut_len 47 s
  have h2 := List.count_le_length (a := 47) (l := s)
  exact ⟨fun z hz => Nat.le_trans (cut_small 47 s z hz) hc, by omega, by omega⟩
theorem levels_fun (s : List UInt8) (hc : s.length ≤ 4000000000) : funK Tryd.prog (look [(60, .rd1 splitG), (36, .rd1 has_lv1G), (63, .rd1 contStrG)]) (look []) Tryd.f33 [.s s] [] = (.br (lvB (cut 47 s)) (.leaf (.ref 0 0 (cut 47 s).length, [some (.row false none .str (cut 47 s))])) (.leaf (.ref 0 0 0, [some (.row false (some true) .str [])])) : Br (V × List (Option Blk))).run := by
  have e : funK Tryd.prog (look [(60, .rd1 splitG), (36, .rd1 has_lv1G), (63, .rd1 contStrG)]) (look []) Tryd.f33 [.s s] [] = ((ifT (decide (s.length ≤ (4000000000 : Nat)))
  (ifB (decide ((↑(cut (47 : UInt8) s).length : Int) > (6 : Int)))
  (some (V.ref (0 : Nat) (0 : Nat) (0 : Nat), [some (Blk.row false (some true) Cd.str (nilT Cd.str.den))]))
  (ifT
  (decide
  (∀ (z : Cd.str.den),
  z ∈ List.take (cut (47 : UInt8) s).length (List.drop (0 : Nat) (cut (47 : UInt8) s)) →
  List.length z ≤ (4000000000 : Nat)))
  (ifB ((List.take (cut (47 : UInt8) s).length (List.drop (0 : Nat) (cut (47 : UInt8) s))).any fun z => !lvOK z)
  (some (V.ref (0 : Nat) (0 : Nat) (0 : Nat), [some (Blk.row false (some true) Cd.str (nilT Cd.str.den))]))
  (ifT
  (decide ((0 : Int) ≤ IntKind.i64.wrap ((↑(cut (47 : UInt8) s).length : Int) - (1 : Int))) &&
  decide
  (IntKind.i64.wrap ((↑(cut (47 : UInt8) s).length : Int) - (1 : Int)) ≤
  (↑((cut (47 : UInt8) s).length - (0 : Nat)) : Int)))
  (ifB
  (decide
  ([(35 : UInt8)] ∈
  List.take ((IntKind.i64.wrap ((↑(cut (47 : UInt8) s).length : Int) - (1 : Int))).toNat - (0 : Nat))
  (List.drop (0 : Nat) (cut (47 : UInt8) s))))
  (some (V.ref (0 : Nat) (0 : Nat) (0 : Nat), [some (Blk.row false (some true) Cd.str (nilT Cd.str.den))]))
  (some
  (V.ref (0 : Nat) (0 : Nat) (cut (47 : UInt8) s).length,
  [some (Blk.row false none Cd.str (cut (47 : UInt8) s))])))))))) : _) := by kernel_rfl
  rw [e]
  clear e
  obtain ⟨hz, hpos, hle⟩ := cut_facts hc
  rw [ifT_true (decide_eq_true hc)]
  simp only [List.drop_zero, List.take_length, Nat.sub_zero, nilT_eq]
  generalize cut 47 s = l at *
  have w : IntKind.i64.wrap ((l.length : Int) - 1) = ((l.length - 1 : Nat) : Int) := by rw [wrap_id (by omega) (by omega)]; omega
  have hzz : decide (∀ z : Cd.str.den, z ∈ l → List.length z ≤ 4000000000) = true := decide_eq_true hz
  simp only [w, hzz, ifT_t, Int.toNat_natCast]
  rw [ifT_true (by simp only [Bool.and_eq_true, decide_eq_true_eq]; omega)]
  unfold lvB
  by_cases q1 : l.length ≤ 6
  · rw [ifB_false (decide_eq_false (by omega)), decide_eq_true q1]
    cases (l.any fun z => !lvOK z) <;> cases decide ([35] ∈ l.take (l.length - 1)) <;> rfl
  · rw [ifB_true (decide_eq_true (by omega)), decide_eq_false q1]
    rfl
theorem levels : Contract Tryd.prog 33 (Ent.rd1 levelsG).F := by
  refine fun_contract' (KnowsL.cons (enters_fn Tryd.func60 (by kernel_rfl) (by kernel_rfl)) splitC (KnowsL.cons (enters_fn Tryd.func36 (by kernel_rfl) (by kernel_rfl)) lv1_has (KnowsL.cons (enters_fn Tryd.func63 (by kernel_rfl) (by kernel_rfl)) contStr KnowsL.nil))).knows (Λ := look []) Tryd.func33 (c := Tryd.f33.body.getD .skip) (by kernel_rfl) fun vs bs r hq hv hb => ?_
  unfold Ent.F levelsG at hq
  dsimp only at hq
  split at hq
  · rename_i s
    obtain ⟨hc, hq⟩ := need_some hq
    exact ⟨loopsOk_nil _, (levels_fun s (of_decide_eq_true hc)).trans hq⟩
  · cases hq
theorem igpat_fun (s : List UInt8) (hc : s.length ≤ 4000000000) : funK Tryd.prog (look [(33, .rd1 levelsG)]) (look []) Tryd.f10 [.s s] [] = (.leaf (.b (lvB (cut 47 s)), []) : Br (V × List (Option Blk))).run := by
  have e : funK Tryd.prog (look [(33, .rd1 levelsG)]) (look []) Tryd.f10 [.s s] [] = ((ifT (decide (s.length ≤ (4000000000 : Nat)))
  (ifB (lvB (cut (47 : UInt8) s))
  (ifB (decide ((0 : Nat) < (cut (47 : UInt8) s).length)) (some (V.b true, [])) (some (V.ub, [])))
  (some (V.b false, [])))) : _) := by kernel_rfl
  rw [e]
  clear e
  obtain ⟨hz, hpos, hle⟩ := cut_facts hc
  rw [ifT_true (decide_eq_true hc), decide_eq_true hpos, ifB_t]
  cases lvB (cut 47 s) <;> rfl
theorem igpat : Contract Tryd.prog 10 (Ent.rd1 gpatG).F := by
  refine fun_contract' (KnowsL.cons (enters_fn Tryd.func33 (by kernel_rfl) (by kernel_rfl)) levels KnowsL.nil).knows (Λ := look []) Tryd.func10 (c := Tryd.f10.body.getD .skip) (by kernel_rfl) fun vs bs r hq hv hb => ?_
  unfold Ent.F gpatG at hq
  dsimp only at hq
  split at hq
  · rename_i s
    obtain ⟨hc, hq⟩ := need_some hq
    exact ⟨loopsOk_nil _, (igpat_fun s (of_decide_eq_true hc)).trans hq⟩
  · cases hq
theorem igtop_fun (s : List UInt8) (hc : s.length ≤ 4000000000) : funK Tryd.prog (look [(33, .rd1 levelsG), (36, .rd1 has_tp1G)]) (look []) Tryd.f8 [.s s] [] = (.leaf (.b (tpB (cut 47 s)), []) : Br (V × List (Option Blk))).run := by
  have e : funK Tryd.prog (look [(33, .rd1 levelsG), (36, .rd1 has_tp1G)]) (look []) Tryd.f8 [.s s] [] = ((ifT (decide (s.length ≤ (4000000000 : Nat)))
  (ifB (lvB (cut (47 : UInt8) s))
  (ifB (decide ((0 : Nat) < (cut (47 : UInt8) s).length))
  (ifT
  (decide
  (∀ (z : Cd.str.den),
  z ∈ List.take (cut (47 : UInt8) s).length (List.drop (0 : Nat) (cut (47 : UInt8) s)) →
  List.length z ≤ (4000000000 : Nat)))
  (some
  (V.b !(List.take (cut (47 : UInt8) s).length (List.drop (0 : Nat) (cut (47 : UInt8) s))).any fun z => !lev z,
  [])))
  none)
  (some (V.b false, [])))) : _) := by kernel_rfl
  rw [e]
  clear e
  obtain ⟨hz, hpos, hle⟩ := cut_facts hc
  rw [ifT_true (decide_eq_true hc), decide_eq_true hpos, ifB_t]
  simp only [List.drop_zero, List.take_length]
  rw [ifT_true (decide_eq_true hz)]
  unfold tpB
  cases lvB (cut 47 s) <;> rfl
theorem igtop : Contract Tryd.prog 8 (Ent.rd1 gtopG).F := by
  refine fun_contract' (KnowsL.cons (enters_fn Tryd.func33 (by kernel_rfl) (by kernel_rfl)) levels (KnowsL.cons (enters_fn Tryd.func36 (by kernel_rfl) (by kernel_rfl)) tp1_has KnowsL.nil)).knows (Λ := look []) Tryd.func8 (c := Tryd.f8.body.getD .skip) (by kernel_rfl) fun vs bs r hq hv hb => ?_
  unfold Ent.F gtopG at hq
  dsimp only at hq
  split at hq
  · rename_i s
    obtain ⟨hc, hq⟩ := need_some hq
    exact ⟨loopsOk_nil _, (igtop_fun s (of_decide_eq_true hc)).trans hq⟩
  · cases hq
end Go.Proofs.YtfkoljiioikdfaaDoor.Den
