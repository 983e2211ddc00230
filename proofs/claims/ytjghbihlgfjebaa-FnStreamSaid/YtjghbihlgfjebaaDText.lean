/- What functions of the program do, by the machine: Text. -/
import Derived.Test.YtjghbihlgfjebaaDEq
import Derived.KernelRfl
import Derived.Test.YtjghbihlgfjebaaRows
namespace Go.Proofs.Ytjghbihlgfjebaa.Den
open Go.Proofs
set_option maxRecDepth 100000
/-- The digits of k ahead of acc. -/
def mtGo : Nat → Nat → List UInt8 → List UInt8
  | 0, _, acc => acc
  | f + 1, k, acc => if k = 0 then acc else mtGo f (k / 10) ((48 + UInt8.ofNat (k % 10)) :: acc)
def mtext (k : Int) : List UInt8 := if k ≤ 0 then [109, 48] else 109 :: mtGo (k.toNat + 1) k.toNat []
def lim : Int := 1000000000000
def markTextE : LoopEnt := ⟨20, [0,3], [3], [], fun
  | ([.i .i64 k, .s acc], []) =>
    .need (decide (0 ≤ k ∧ k + acc.length ≤ lim)) (.leaf (.exit 0, ([.s (mtGo (k.toNat + 1) k.toNat acc)], [])))
  | _ => .no⟩
def markTextG : List V → List Blk → Br (V × List (Option Blk))
  | [.i .i64 k], [] => .need (decide (k ≤ lim)) (.leaf (.s (mtext k), []))
  | _, _ => .no
theorem mtGo_fuel : ∀ (f g k : Nat) (acc : List UInt8), k < f → k < g → mtGo f k acc = mtGo g k acc
  | 0, _, _, _, h, _ => by omega
  | _ + 1, 0, _, _, _, h => by omega
  | f + 1, g + 1, k, acc, h1, h2 => by
    simp only [mtGo]
    by_cases h : k = 0
    · simp [h]
    · simp only [if_neg h]; exact mtGo_fuel f g (k / 10) _ (by omega) (by omega)
theorem mtGo_len : ∀ (f k : Nat) (acc : List UInt8), k < f → (mtGo f k acc).length ≤ k + acc.length
  | 0, _, acc, h => by omega
  | f + 1, k, acc, h => by
    simp only [mtGo]; split
    · omega
    · have := mtGo_len f (k / 10) ((48 + UInt8.ofNat (k % 10)) :: acc) (by omega); simp only [List.length_cons] at this; omega
theorem markText_round (n : Nat) (acc : List UInt8) : roundK Try.prog (look []) (look [(4, markTextE)]) 0 (body Try.f136 0) markTextE ([.i .i64 n, .s acc], []) =
  ((ifB (decide ((↑n : Int) > (0 : Int)))
  (ifT (decide ((1 : Nat) + acc.length ≤ (9223372036854775807 : Nat)))
  (some
  (Ex.normal,
  [V.i IntKind.i64 (IntKind.i64.wrap (((↑n : Int)).tdiv (10 : Int))),
  V.s
  (List.map (fun n => UInt8.ofNat n.toNat)
  (IntKind.u8.wrap (IntKind.i64.wrap ((48 : Int) + ((↑n : Int)).tmod (10 : Int))) ::
  nilT (Cd.int IntKind.u8).den) ++
  acc)],
  [])))
  (some (Ex.exit (0 : Nat), [V.s acc], []))) : _) := by kernel_rfl
theorem markText_fun0 (k : Int) : funK Try.prog (look []) (look [(4, markTextE)]) Try.f136 [.i .i64 k] [] =
    ((ifB (decide (k ≤ (0 : Int))) (some (V.s [(109 : UInt8), (48 : UInt8)], []))
  (ifT (decide ((0 : Int) ≤ k ∧ k + (↑(0 : Nat) : Int) ≤ lim))
  (ifT (decide ((1 : Nat) + (mtGo (k.toNat + (1 : Nat)) k.toNat (nilT UInt8)).length ≤ (9223372036854775807 : Nat)))
  (some (V.s ([(109 : UInt8)] ++ mtGo (k.toNat + (1 : Nat)) k.toNat (nilT UInt8)), []))))) : _) := by kernel_rfl
theorem markText_loop : ∀ (f n : Nat) (acc : List UInt8), n < f → (n : Int) + acc.length ≤ lim →
    Runs Try.prog (look []) (look [(4, markTextE)]) 0 (body Try.f136 0) markTextE ([.i .i64 n, .s acc], []) (.exit 0) ([.s (mtGo (n + 1) n acc)], [])
  | 0, _, _, h, _ => by omega
  | f + 1, n, acc, h, hl => by
    unfold lim at hl
    have hr := markText_round n acc
    by_cases h0 : n = 0
    · subst h0
      exact .stop _ _ _ (hr.trans (by simp [mtGo])) (by simp)
    · have e1 : IntKind.i64.wrap (((n : Int)).tdiv 10) = ((n / 10 : Nat) : Int) := by
        rw [Int.tdiv_eq_ediv_of_nonneg (by omega), wrap_id (by omega) (by omega)]; rfl
      have e2 : UInt8.ofNat (IntKind.u8.wrap (IntKind.i64.wrap (48 + ((n : Int)).tmod 10))).toNat = 48 + UInt8.ofNat (n % 10) := by
        rw [Int.tmod_eq_emod_of_nonneg (by omega), wrap_id (by omega) (by omega)]
        have e3 : IntKind.u8.wrap (48 + (n : Int) % 10) = ((48 + n % 10 : Nat) : Int) := by
          unfold IntKind.wrap
          simp [IntKind.bits, IntKind.signed]
          omega
        rw [e3, Int.toNat_natCast, UInt8.ofNat_add]; rfl
      have hr := hr.trans (c := some (Ex.normal, [V.i .i64 ((n / 10 : Nat) : Int), V.s ((48 + UInt8.ofNat (n % 10)) :: acc)], [])) (by
        rw [ifB_true (by simp; omega), ifT_true (by simp; omega), e1]
        simp only [List.map_cons, List.map_nil, e2]; rfl)
      refine .step _ _ _ _ hr ?_
      have := markText_loop f (n / 10) ((48 + UInt8.ofNat (n % 10)) :: acc) (by omega) (by unfold lim; simp only [List.length_cons]; omega)
      rw [mtGo_fuel (n / 10 + 1) n (n / 10) _ (by omega) (by omega)] at this
      simpa [mtGo, h0] using this
theorem markText_ok : LoopsOk Try.prog (look []) (look [(4, markTextE)]) 0 (Try.f136.body.getD .skip) := by
  refine loopsOk_one (a := body Try.f136 0) (by kernel_rfl) fun d e d' h => ?_
  unfold markTextE at h
  dsimp only at h
  split at h
  · rename_i k acc
    obtain ⟨hc, h⟩ := need_some h
    have hc := of_decide_eq_true hc
    obtain ⟨n, rfl⟩ := Int.eq_ofNat_of_zero_le hc.1
    cases h
    exact markText_loop (n + 1) n acc (by omega) hc.2
  · cases h
theorem markText_fun (k : Int) (hk : k ≤ lim) : funK Try.prog (look []) (look [(4, markTextE)]) Try.f136 [.i .i64 k] [] = some (.s (mtext k), []) := by
  rw [markText_fun0]
  unfold mtext
  unfold lim at hk
  by_cases h : k ≤ 0
  · simp [h]
  · have h1 : 0 ≤ k := by omega
    have := mtGo_len (k.toNat + 1) k.toNat [] (by omega)
    simp at this
    simp [h, h1, lim, show k ≤ 1000000000000 from hk, show 1 + (mtGo (k.toNat + 1) k.toNat []).length ≤ 9223372036854775807 by omega]
theorem markText : Contract Try.prog 136 (Ent.rd1 markTextG).F := by
  refine fun_contract' (KnowsL.nil).knows (Λ := look [(4, markTextE)]) Try.func136 (c := Try.f136.body.getD .skip) (by kernel_rfl) fun vs bs r h hv hb => ?_
  unfold Ent.F markTextG at h
  dsimp only at h
  split at h
  · rename_i k
    obtain ⟨hc, h⟩ := need_some h
    exact ⟨markText_ok, (markText_fun k (of_decide_eq_true hc)).trans (by cases h; rfl)⟩
  · cases h
end Go.Proofs.Ytjghbihlgfjebaa.Den
