/- What functions of the program do, by the machine: Wi1 Wi2 Wi3 Wi4 Wi5 Dc1 Val14 Dc2 Dc3 Dc4. -/
import Derived.Test.YtcjnmdcagfgjoaaGreatDoorDA
import Derived.KernelRfl
import Derived.Test.YtcjnmdcagfgjoaaGreatDoorRows
namespace Go.Proofs.YtcjnmdcagfgjoaaGreatDoor.Den
open Go.Proofs
set_option maxRecDepth 100000
def tv : Nat → List UInt8 → Nat → Nat → Option (Nat × Nat × Bool)
 | 0, _, _, _ => none
 | _ + 1, [], _, _ => none
 | f + 1, b :: l, i, n => if b.toNat < 128 then some (n + b.toNat % 128 * 2 ^ (7 * i), i + 1, decide (n + b.toNat % 128 * 2 ^ (7 * i) ≤ 2000000001) && (decide (0 < b.toNat) || decide (i = 0))) else tv f l (i + 1) (n + b.toNat % 128 * 2 ^ (7 * i))
def tvAt (s : List UInt8) (a : Nat) : Option (Nat × Nat × Bool) := tv 5 (s.drop a) 0 0
def tvI1 : Option (Nat × Nat × Bool) → Int | some (n, _, _) => n | none => 0
def tvI2 (a : Nat) : Option (Nat × Nat × Bool) → Int | some (_, k, _) => ((a + k : Nat) : Int) | none => 0
def tvI3 : Option (Nat × Nat × Bool) → Bool | some (_, _, ok) => ok | none => false
def tvS1 : Option (Nat × Nat × Bool) → Int | some (n, _, true) => n | _ => 0
def tvS2 (a : Nat) : Option (Nat × Nat × Bool) → Int | some (_, k, true) => ((a + k : Nat) : Int) | _ => 0
def tviE : LoopEnt := ⟨52, [0,1,7,8], [], [4,5,6], fun
 | ([.s s, .i .i64 a, .i .i64 n, .i .i64 i], []) => .need (decide (0 ≤ a ∧ 0 ≤ n ∧ 0 ≤ i ∧ i ≤ 5 ∧ n.toNat < 2 ^ (7 * i.toNat) ∧ s.length ≤ 4000000000 ∧ a ≤ 4000000000)) (.br (tv (5 - i.toNat) (s.drop (a.toNat + i.toNat)) i.toNat n.toNat).isSome (.leaf (.ret, ([.i .i64 (tvI1 (tv (5 - i.toNat) (s.drop (a.toNat + i.toNat)) i.toNat n.toNat)), .i .i64 (tvI2 a.toNat (tv (5 - i.toNat) (s.drop (a.toNat + i.toNat)) i.toNat n.toNat)), .b (tvI3 (tv (5 - i.toNat) (s.drop (a.toNat + i.toNat)) i.toNat n.toNat))], []))) (.leaf (.exit 0, ([], []))))
 | _ => .no⟩
def tviG : List V → List Blk → Br (V × List (Option Blk))
 | [.s s, .i .i64 a], [] => .need (decide (0 ≤ a ∧ s.length ≤ 4000000000 ∧ a ≤ 4000000000)) (.leaf (.tup [.i .i64 (tvI1 (tvAt s a.toNat)), .i .i64 (tvI2 a.toNat (tvAt s a.toNat)), .b (tvI3 (tvAt s a.toNat))], []))
 | _, _ => .no
def tvsE : LoopEnt := ⟨53, [0,1,7,8], [], [4,5,6], fun
 | ([.s s, .i .i64 a, .i .i64 n, .i .i64 i], []) => .need (decide (0 ≤ a ∧ 0 ≤ n ∧ 0 ≤ i ∧ i ≤ 5 ∧ n.toNat < 2 ^ (7 * i.toNat) ∧ s.length ≤ 4000000000 ∧ a ≤ 4000000000)) (.br (tv (5 - i.toNat) (s.drop (a.toNat + i.toNat)) i.toNat n.toNat).isSome (.leaf (.ret, ([.i .i64 (tvS1 (tv (5 - i.toNat) (s.drop (a.toNat + i.toNat)) i.toNat n.toNat)), .i .i64 (tvS2 a.toNat (tv (5 - i.toNat) (s.drop (a.toNat + i.toNat)) i.toNat n.toNat)), .b (tvI3 (tv (5 - i.toNat) (s.drop (a.toNat + i.toNat)) i.toNat n.toNat))], []))) (.leaf (.exit 0, ([], []))))
 | _ => .no⟩
def tvsG : List V → List Blk → Br (V × List (Option Blk))
 | [.s s, .i .i64 a], [] => .need (decide (0 ≤ a ∧ s.length ≤ 4000000000 ∧ a ≤ 4000000000)) (.leaf (.tup [.i .i64 (tvS1 (tvAt s a.toNat)), .i .i64 (tvS2 a.toNat (tvAt s a.toNat)), .b (tvI3 (tvAt s a.toNat))], []))
 | _, _ => .no

theorem low7 (n : Nat) (h : n < 256) : IntKind.u8.wrap ((BitVec.ofInt IntKind.u8.bits (n : Int) &&& BitVec.ofInt IntKind.u8.bits (127 : Int)).toNat : Int) = ((n % 128 : Nat) : Int) := by
 have e : (BitVec.ofInt IntKind.u8.bits (n : Int) &&& BitVec.ofInt IntKind.u8.bits (127 : Int)).toNat = n % 128 := by
  show (BitVec.ofInt 8 (n : Int) &&& BitVec.ofInt 8 ((127 : Nat) : Int)).toNat = n % 128
  rw [BitVec.toNat_and, BitVec.ofInt_natCast, BitVec.ofInt_natCast, BitVec.toNat_ofNat, BitVec.toNat_ofNat, show 127 % 2 ^ 8 = 2 ^ 7 - 1 by decide, Nat.and_two_pow_sub_one_eq_mod]
  show n % 256 % 128 = n % 128
  omega
 rw [e]
 unfold IntKind.wrap
 simp [IntKind.bits, IntKind.signed]
 omega
theorem low7' (n : Nat) (h : n < 256) : IntKind.i64.wrap ((BitVec.ofInt IntKind.i64.bits (n : Int) &&& BitVec.ofInt IntKind.i64.bits (127 : Int)).toNat : Int) = ((n % 128 : Nat) : Int) := by
 have e : (BitVec.ofInt IntKind.i64.bits (n : Int) &&& BitVec.ofInt IntKind.i64.bits (127 : Int)).toNat = n % 128 := by
  show (BitVec.ofInt 64 (n : Int) &&& BitVec.ofInt 64 ((127 : Nat) : Int)).toNat = n % 128
  rw [BitVec.toNat_and, BitVec.ofInt_natCast, BitVec.ofInt_natCast, BitVec.toNat_ofNat, BitVec.toNat_ofNat, show 127 % 2 ^ 64 = 2 ^ 7 - 1 by decide, Nat.and_two_pow_sub_one_eq_mod]
  show n % 18446744073709551616 % 128 = n % 128
  omega
 rw [e, wrap_id (by omega) (by omega)]
theorem pow7_le {i : Nat} (h : i ≤ 4) : 2 ^ (7 * i) ≤ 268435456 := by
 have : 2 ^ (7 * i) ≤ 2 ^ 28 := Nat.pow_le_pow_right (by decide) (by omega)
 have e : (2 : Nat) ^ 28 = 268435456 := by decide
 omega
theorem shl7 (x i : Nat) (hx : x < 128) (hi : i ≤ 4) : IntKind.i64.wrap ((x : Int) * (2 : Int) ^ min ((7 : Int) * (i : Int)).toNat IntKind.i64.bits) = ((x * 2 ^ (7 * i) : Nat) : Int) := by
 have hp := pow7_le hi
 have hm : x * 2 ^ (7 * i) ≤ 127 * 268435456 := Nat.mul_le_mul (by omega) hp
 have e1 : ((7 : Int) * (i : Int)).toNat = 7 * i := by omega
 have e2 : min (7 * i) IntKind.i64.bits = 7 * i := Nat.min_eq_left (by show 7 * i ≤ 64; omega)
 rw [e1, e2]
 have e3 : (x : Int) * (2 : Int) ^ (7 * i) = ((x * 2 ^ (7 * i) : Nat) : Int) := by simp
 rw [e3, wrap_id (by omega) (by omega)]
theorem wrapu_id {n : Int} (h1 : 0 ≤ n) (h2 : n ≤ 9223372036854775807) : IntKind.u64.wrap n = n := by
 unfold IntKind.wrap
 simp [IntKind.bits, IntKind.signed]
 omega
theorem or7 (n x i : Nat) (hn : n < 2 ^ (7 * i)) (hx : x < 128) (hi : i ≤ 4) : IntKind.i64.wrap ((BitVec.ofInt IntKind.i64.bits (n : Int) ||| BitVec.ofInt IntKind.i64.bits ((x * 2 ^ (7 * i) : Nat) : Int)).toNat : Int) = ((n + x * 2 ^ (7 * i) : Nat) : Int) := by
 have hp := pow7_le hi
 have hm : x * 2 ^ (7 * i) ≤ 127 * 268435456 := Nat.mul_le_mul (by omega) hp
 have e : (BitVec.ofInt IntKind.i64.bits (n : Int) ||| BitVec.ofInt IntKind.i64.bits ((x * 2 ^ (7 * i) : Nat) : Int)).toNat = n + x * 2 ^ (7 * i) := by
  show (BitVec.ofInt 64 (n : Int) ||| BitVec.ofInt 64 ((x * 2 ^ (7 * i) : Nat) : Int)).toNat = _
  rw [BitVec.toNat_or, BitVec.ofInt_natCast, BitVec.ofInt_natCast, BitVec.toNat_ofNat, BitVec.toNat_ofNat, Nat.mod_eq_of_lt (by omega), Nat.mod_eq_of_lt (by omega), Nat.mul_comm x, Nat.or_comm, ← Nat.two_pow_add_eq_or_of_lt hn x, Nat.add_comm]
 rw [e, wrap_id (by omega) (by omega)]
theorem tv_facts : ∀ (f : Nat) (l : List UInt8) (i n : Nat) {x : Nat × Nat × Bool}, i + f ≤ 5 → n < 2 ^ (7 * i) → tv f l i n = some x → x.1 < 2 ^ 35 ∧ i < x.2.1 ∧ x.2.1 ≤ i + l.length ∧ x.2.1 ≤ 5
 | 0, l, i, n, x, h1, h2, h => by rw [tv] at h; cases h
 | f + 1, [], i, n, x, h1, h2, h => by rw [tv] at h; cases h
 | f + 1, b :: l, i, n, x, h1, h2, h => by
  have hm : n + b.toNat % 128 * 2 ^ (7 * i) < 2 ^ (7 * (i + 1)) := by
   have h3 : b.toNat % 128 ≤ 127 := by omega
   have h4 : b.toNat % 128 * 2 ^ (7 * i) ≤ 127 * 2 ^ (7 * i) := Nat.mul_le_mul_right _ h3
   have h5 : 2 ^ (7 * (i + 1)) = 2 ^ (7 * i) * 128 := by rw [show 7 * (i + 1) = 7 * i + 7 by omega, Nat.pow_add]
   omega
  rw [tv] at h
  split at h
  ·simp at h
   subst h
   have h6 : 2 ^ (7 * (i + 1)) ≤ 2 ^ 35 := Nat.pow_le_pow_right (by decide) (by omega)
   exact ⟨by omega, by simp, by simp <;> omega, by simp <;> omega⟩
  ·obtain ⟨g1, g2, g3, g4⟩ := tv_facts f l (i + 1) _ (by omega) hm h
   exact ⟨g1, by omega, by simp; omega, g4⟩
theorem tvAt_facts {s : List UInt8} {a : Nat} {x : Nat × Nat × Bool} (h : tvAt s a = some x) : x.1 ≤ 34359738368 ∧ 0 < x.2.1 ∧ a + x.2.1 ≤ s.length ∧ x.2.1 ≤ 5 := by
 obtain ⟨h1, h2, h3, h4⟩ := tv_facts 5 _ 0 0 (by omega) (by decide) h
 rw [List.length_drop] at h3
 have e : (2 : Nat) ^ 35 = 34359738368 := by decide
 exact ⟨by omega, h2, by omega, h4⟩
theorem tvi_round (s : List UInt8) (a n i : Int) : roundK Tryz.prog (look []) (look [(3, tviE)]) 0 (body Tryz.f220 0) tviE ([.s s, .j a, .j n, .j i], []) =
 ((ifB (decide (i < (5 : Int))) (ifB (decide (IntKind.i64.wrap (a + i) < (↑s.length : Int))) (ifT (decide ((0 : Int) ≤ IntKind.i64.wrap (a + i))) (ifSome s[(IntKind.i64.wrap
 (a + i)).toNat]? fun z => ifT (decide ((0 : Int) ≤ IntKind.i64.wrap ((7 : Int) * i))) (ifB (decide ((↑z.toNat : Int) < (128 : Int))) (ifB (decide (IntKind.i64.wrap
 (↑(BitVec.ofInt IntKind.i64.bits n ||| BitVec.ofInt IntKind.i64.bits (IntKind.i64.wrap (IntKind.i64.wrap (IntKind.u8.wrap (↑(BitVec.ofInt IntKind.u8.bits (↑z.toNat : Int)
 &&& BitVec.ofInt IntKind.u8.bits (127 : Int)).toNat : Int)) * (2 : Int) ^ min (IntKind.i64.wrap ((7 : Int) * i)).toNat IntKind.i64.bits))).toNat : Int) ≤ (2000000001 :
 Int))) (ifB (decide ((↑z.toNat : Int) > (0 : Int))) (some (Ex.ret, [V.j (IntKind.i64.wrap (↑(BitVec.ofInt IntKind.i64.bits n ||| BitVec.ofInt IntKind.i64.bits
 (IntKind.i64.wrap (IntKind.i64.wrap (IntKind.u8.wrap (↑(BitVec.ofInt IntKind.u8.bits (↑z.toNat : Int) &&& BitVec.ofInt IntKind.u8.bits (127 : Int)).toNat : Int)) * (2 :
 Int) ^ min (IntKind.i64.wrap ((7 : Int) * i)).toNat IntKind.i64.bits))).toNat : Int)), V.j (IntKind.i64.wrap (IntKind.i64.wrap (a + i) + (1 : Int))), V.b true], []))
 (some (Ex.ret, [V.j (IntKind.i64.wrap (↑(BitVec.ofInt IntKind.i64.bits n ||| BitVec.ofInt IntKind.i64.bits (IntKind.i64.wrap (IntKind.i64.wrap (IntKind.u8.wrap
 (↑(BitVec.ofInt IntKind.u8.bits (↑z.toNat : Int) &&& BitVec.ofInt IntKind.u8.bits (127 : Int)).toNat : Int)) * (2 : Int) ^ min (IntKind.i64.wrap ((7 : Int) * i)).toNat
 IntKind.i64.bits))).toNat : Int)), V.j (IntKind.i64.wrap (IntKind.i64.wrap (a + i) + (1 : Int))), V.b (i == (0 : Int))], []))) (some (Ex.ret, [V.i .i64
 (IntKind.i64.wrap (↑(BitVec.ofInt IntKind.i64.bits n ||| BitVec.ofInt IntKind.i64.bits (IntKind.i64.wrap (IntKind.i64.wrap (IntKind.u8.wrap (↑(BitVec.ofInt
 IntKind.u8.bits (↑z.toNat : Int) &&& BitVec.ofInt IntKind.u8.bits (127 : Int)).toNat : Int)) * (2 : Int) ^ min (IntKind.i64.wrap ((7 : Int) * i)).toNat
 IntKind.i64.bits))).toNat : Int)), V.j (IntKind.i64.wrap (IntKind.i64.wrap (a + i) + (1 : Int))), V.b false], []))) (some (Ex.normal, [V.s s, V.j a, V.i .i64
 (IntKind.i64.wrap (↑(BitVec.ofInt IntKind.i64.bits n ||| BitVec.ofInt IntKind.i64.bits (IntKind.i64.wrap (IntKind.i64.wrap (IntKind.u8.wrap (↑(BitVec.ofInt
 IntKind.u8.bits (↑z.toNat : Int) &&& BitVec.ofInt IntKind.u8.bits (127 : Int)).toNat : Int)) * (2 : Int) ^ min (IntKind.i64.wrap ((7 : Int) * i)).toNat
 IntKind.i64.bits))).toNat : Int)), V.j (IntKind.i64.wrap (i + (1 : Int)))], []))))) (some (Ex.exit 0, [], []))) (some (Ex.exit 0, [], []))) : _) := by kernel_rfl
theorem tvi_loop (s : List UInt8) (a : Nat) (hs : s.length ≤ 4000000000) (ha : a ≤ 4000000000) : ∀ (j i n : Nat), i + j = 5 → n < 2 ^ (7 * i) → ∀ ex d, (Br.br (tv (5 - i) (s.drop (a + i)) i n).isSome (.leaf (.ret, ([.j (tvI1 (tv (5 - i) (s.drop (a + i)) i n)), .j (tvI2 a (tv (5 - i) (s.drop (a + i)) i n)), .b (tvI3 (tv (5 - i) (s.drop (a + i)) i n))], []))) (.leaf (.exit 0, ([], []))) : Br (Ex × Dt)).run = some (ex, d) →
  Runs Tryz.prog (look []) (look [(3, tviE)]) 0 (body Tryz.f220 0) tviE ([.s s, .j (a : Int), .j (n : Int), .j (i : Int)], []) ex d
 | 0, i, n, hi, hn, ex, d, h => by
  have hr := tvi_round s a n i
  rw [ifB_false (dcF (by omega))] at hr
  rw [show 5 - i = 0 by omega, tv] at h
  have h8 := leaf_some h
  obtain ⟨rfl, rfl⟩ := Prod.mk.inj h8
  exact .stop _ _ _ hr (by simp)
 | j + 1, i, n, hi, hn, ex, d, h => by
  have hr := tvi_round s a n i
  have hw : IntKind.i64.wrap ((a : Int) + (i : Int)) = ((a + i : Nat) : Int) := by rw [wrap_id (by omega) (by omega)]; omega
  rw [ifB_true (dcT (by omega)), hw] at hr
  rw [show 5 - i = (5 - (i + 1)) + 1 by omega] at h
  by_cases hl : a + i < s.length
  ·rw [ifB_true (dcT (by omega)), ifT_true (dcT (by omega))] at hr
   have hz := s[a + i].toNat_lt
   have hx : s[a + i].toNat % 128 < 128 := Nat.mod_lt _ (by decide)
   have hp := pow7_le (i := i) (by omega)
   have hm : s[a + i].toNat % 128 * 2 ^ (7 * i) ≤ 127 * 268435456 := Nat.mul_le_mul (by omega) hp
   have hw7 : IntKind.i64.wrap ((7 : Int) * (i : Int)) = 7 * (i : Int) := wrap_id (by omega) (by omega)
   have hwc : IntKind.i64.wrap (s[a + i].toNat : Int) = (s[a + i].toNat : Int) := wrap_id (by omega) (by omega)
   have hu7 : IntKind.u64.wrap (7 * (i : Int)) = 7 * (i : Int) := wrapu_id (by omega) (by omega)
   have hwx : IntKind.i64.wrap ((s[a + i].toNat % 128 : Nat) : Int) = ((s[a + i].toNat % 128 : Nat) : Int) := wrap_id (by omega) (by omega)
   simp only [ntN, gtE hl, ifSome_s, hw7, hu7, hwc, low7 _ hz, hwx, shl7 _ i hx (by omega), or7 n _ i hn hx (by omega)] at hr
   rw [ifT_true (dcT (by omega))] at hr
   rw [List.drop_eq_getElem_cons hl, tv] at h
   have hm2 : n + s[a + i].toNat % 128 * 2 ^ (7 * i) < 2 ^ (7 * (i + 1)) := by
    have h4 : s[a + i].toNat % 128 * 2 ^ (7 * i) ≤ 127 * 2 ^ (7 * i) := Nat.mul_le_mul_right _ (by omega)
    have h5 : 2 ^ (7 * (i + 1)) = 2 ^ (7 * i) * 128 := by rw [show 7 * (i + 1) = 7 * i + 7 by omega, Nat.pow_add]
    omega
   have hwi : IntKind.i64.wrap (((a + i : Nat) : Int) + 1) = ((a + (i + 1) : Nat) : Int) := by rw [wrap_id (by omega) (by omega)]; omega
   rw [wrap_succ (n := i) (by unfold maxI; omega)] at hr
   try rw [hwi] at hr
   generalize s[a + i].toNat % 128 * 2 ^ (7 * i) = y at *
   have hi0 : ((i : Int) == 0) = decide (i = 0) := by
    by_cases h : i = 0
    ·subst h; rfl
    ·rw [dcF h]; exact beq_false_of_ne (by omega)
   have hle : decide (((n + y : Nat) : Int) ≤ 2000000001) = decide (n + y ≤ 2000000001) := decide_eq_decide.2 (by omega)
   have hgt : decide (((n + y : Nat) : Int) > 2000000001) = !decide (n + y ≤ 2000000001) := by rw [← decide_not]; exact decide_eq_decide.2 (by omega)
   have hb0 : decide ((s[a + i].toNat : Int) > 0) = decide (0 < s[a + i].toNat) := decide_eq_decide.2 (by omega)
   have hbz : ((s[a + i].toNat : Int) == 0) = !decide (0 < s[a + i].toNat) := by
    by_cases h : s[a + i].toNat = 0
    ·rw [h]; rfl
    ·rw [dcT (by omega)]; exact beq_false_of_ne (by omega)
   have hig : decide ((i : Int) > 0) = !decide (i = 0) := by rw [← decide_not]; exact decide_eq_decide.2 (by omega)
   simp only [hi0, hle, hgt, hb0, hbz, hig] at hr
   by_cases hb : s[a + i].toNat < 128
   ·rw [if_pos hb] at h
    rw [ifB_true (dcT (by omega))] at hr
    have h8 := leaf_some h
    obtain ⟨rfl, rfl⟩ := Prod.mk.inj h8
    refine .stop _ _ _ (hr.trans ?_) (by simp)
    cases decide (n + y ≤ 2000000001) <;> cases decide (0 < s[a + i].toNat) <;> cases decide (i = 0) <;> rfl
   ·rw [if_neg hb] at h
    rw [ifB_false (dcF (by omega))] at hr
    exact .step _ _ _ _ hr (tvi_loop s a hs ha j (i + 1) (n + y) (by omega) hm2 ex d h)
  ·rw [ifB_false (dcF (by omega))] at hr
   rw [List.drop_eq_nil_of_le (by omega), tv] at h
   have h8 := leaf_some h
   obtain ⟨rfl, rfl⟩ := Prod.mk.inj h8
   exact .stop _ _ _ hr (by simp)
theorem tvi_ok : LoopsOk Tryz.prog (look []) (look [(3, tviE)]) 0 (Tryz.f220.body.getD .skip) := by
 refine loopsOk_one (a := body Tryz.f220 0) (by kernel_rfl) fun d ex d' h => ?_
 unfold tviE at h
 dsimp only at h
 split at h
 ·rename_i s a n i
  obtain ⟨hc, hx⟩ := need_some h
  clear h
  obtain ⟨h0, h1, h2, h3, h4, h5, h6⟩ := of_decide_eq_true hc
  obtain ⟨a, rfl⟩ := Int.eq_ofNat_of_zero_le h0
  obtain ⟨n, rfl⟩ := Int.eq_ofNat_of_zero_le h1
  obtain ⟨i, rfl⟩ := Int.eq_ofNat_of_zero_le h2
  simp only [ntN] at h4 hx
  exact tvi_loop s a h5 (by omega) (5 - i) i n (by omega) h4 ex d' hx
 ·cases h
theorem tvi : Contract Tryz.prog 220 (Ent.rd1 tviG).F := by
 refine fun_contract' KnowsL.nil.knows (Λ := (look [(3, tviE)])) Tryz.func220 (c := Tryz.f220.body.getD .skip) (by kernel_rfl) fun vs bs r hq hv hb => ?_
 unfold Ent.F tviG at hq
 dsimp only at hq
 split at hq
 ·rename_i s a
  obtain ⟨hc, hx⟩ := need_some hq
  refine ⟨tvi_ok, Eq.trans ?_ hx⟩
  obtain ⟨h0, h1, h2⟩ := of_decide_eq_true hc
  obtain ⟨a, rfl⟩ := Int.eq_ofNat_of_zero_le h0
  have e : funK Tryz.prog (look []) (look [(3, tviE)]) Tryz.f220 [.s s, .j (a : Int)] [] = ((ifT (decide ((0 : Int) ≤ (↑a : Int) ∧ (0 : Int) ≤ (0 : Int) ∧ (0 : Int) ≤ (0 : Int) ∧ (0 : Int) ≤ (5 : Int) ∧ (0 : Nat) < (2 : Nat) ^ (0 : Nat) ∧ s.length ≤ (4000000000 :
 Nat) ∧ (↑a : Int) ≤ (4000000000 : Int))) (ifB (tv (5 : Nat) (List.drop ((↑a : Int).toNat + (0 : Nat)) s) (0 : Nat) (0 : Nat)).isSome (some (V.tup [V.j (tvI1 (tv (5 :
 Nat) (List.drop ((↑a : Int).toNat + (0 : Nat)) s) (0 : Nat) (0 : Nat))), V.j (tvI2 (↑a : Int).toNat (tv (5 : Nat) (List.drop ((↑a : Int).toNat + (0 : Nat)) s) (0 :
 Nat) (0 : Nat))), V.b (tvI3 (tv (5 : Nat) (List.drop ((↑a : Int).toNat + (0 : Nat)) s) (0 : Nat) (0 : Nat)))], [])) (some (V.tup [V.j 0, V.j 0, V.b false],
 [])))) : _) := by kernel_rfl
  rw [e]
  clear e
  rw [ifT_true (dcT ⟨by omega, by omega, by omega, by omega, by decide, h1, h2⟩)]
  simp only [ntN, Nat.add_zero, Int.toNat_zero, Nat.sub_zero]
  show ifB (tvAt s a).isSome (some (V.tup [.j (tvI1 (tvAt s a)), .j (tvI2 a (tvAt s a)), .b (tvI3 (tvAt s a))], [])) _ = _
  cases tvAt s a <;> rfl
 ·cases hq
theorem tvs_round (s : List UInt8) (a n i : Int) : roundK Tryz.prog (look []) (look [(3, tvsE)]) 0 (body Tryz.f210 0) tvsE ([.s s, .j a, .j n, .j i], []) =
 ((ifB (decide (i < (5 : Int))) (ifB (decide (IntKind.i64.wrap (a + i) < (↑s.length : Int))) (ifT (decide ((0 : Int) ≤ IntKind.i64.wrap (a + i))) (ifSome s[(IntKind.i64.wrap
 (a + i)).toNat]? fun z => ifT (decide ((0 : Int) ≤ IntKind.u64.wrap (IntKind.i64.wrap ((7 : Int) * i)))) (ifB (decide (IntKind.i64.wrap (↑z.toNat : Int) < (128 : Int)))
 (ifB (decide (i > (0 : Int))) (ifB (IntKind.i64.wrap (↑z.toNat : Int) == (0 : Int)) (some (Ex.ret, [V.j 0, V.j 0, V.b false], [])) (ifB (decide
 (IntKind.i64.wrap (↑(BitVec.ofInt IntKind.i64.bits n ||| BitVec.ofInt IntKind.i64.bits (IntKind.i64.wrap (IntKind.i64.wrap (↑(BitVec.ofInt IntKind.i64.bits
 (IntKind.i64.wrap (↑z.toNat : Int)) &&& BitVec.ofInt IntKind.i64.bits (127 : Int)).toNat : Int) * (2 : Int) ^ min (IntKind.u64.wrap (IntKind.i64.wrap ((7 : Int) *
 i))).toNat IntKind.i64.bits))).toNat : Int) > (2000000001 : Int))) (some (Ex.ret, [V.j 0, V.j 0, V.b false], [])) (some (Ex.ret, [V.j (IntKind.i64.wrap
 (↑(BitVec.ofInt IntKind.i64.bits n ||| BitVec.ofInt IntKind.i64.bits (IntKind.i64.wrap (IntKind.i64.wrap (↑(BitVec.ofInt IntKind.i64.bits (IntKind.i64.wrap (↑z.toNat :
 Int)) &&& BitVec.ofInt IntKind.i64.bits (127 : Int)).toNat : Int) * (2 : Int) ^ min (IntKind.u64.wrap (IntKind.i64.wrap ((7 : Int) * i))).toNat IntKind.i64.bits))).toNat
 : Int)), V.j (IntKind.i64.wrap (IntKind.i64.wrap (a + i) + (1 : Int))), V.b true], [])))) (ifB (decide (IntKind.i64.wrap (↑(BitVec.ofInt IntKind.i64.bits n |||
 BitVec.ofInt IntKind.i64.bits (IntKind.i64.wrap (IntKind.i64.wrap (↑(BitVec.ofInt IntKind.i64.bits (IntKind.i64.wrap (↑z.toNat : Int)) &&& BitVec.ofInt IntKind.i64.bits
 (127 : Int)).toNat : Int) * (2 : Int) ^ min (IntKind.u64.wrap (IntKind.i64.wrap ((7 : Int) * i))).toNat IntKind.i64.bits))).toNat : Int) > (2000000001 : Int))) (some
 (Ex.ret, [V.j 0, V.j 0, V.b false], [])) (some (Ex.ret, [V.j (IntKind.i64.wrap (↑(BitVec.ofInt IntKind.i64.bits n ||| BitVec.ofInt IntKind.i64.bits
 (IntKind.i64.wrap (IntKind.i64.wrap (↑(BitVec.ofInt IntKind.i64.bits (IntKind.i64.wrap (↑z.toNat : Int)) &&& BitVec.ofInt IntKind.i64.bits (127 : Int)).toNat : Int) * (2
 : Int) ^ min (IntKind.u64.wrap (IntKind.i64.wrap ((7 : Int) * i))).toNat IntKind.i64.bits))).toNat : Int)), V.j (IntKind.i64.wrap (IntKind.i64.wrap (a + i) + (1 :
 Int))), V.b true], [])))) (some (Ex.normal, [V.s s, V.j a, V.j (IntKind.i64.wrap (↑(BitVec.ofInt IntKind.i64.bits n ||| BitVec.ofInt IntKind.i64.bits
 (IntKind.i64.wrap (IntKind.i64.wrap (↑(BitVec.ofInt IntKind.i64.bits (IntKind.i64.wrap (↑z.toNat : Int)) &&& BitVec.ofInt IntKind.i64.bits (127 : Int)).toNat : Int) * (2
 : Int) ^ min (IntKind.u64.wrap (IntKind.i64.wrap ((7 : Int) * i))).toNat IntKind.i64.bits))).toNat : Int)), V.j (IntKind.i64.wrap (i + (1 : Int)))], []))))) (some
 (Ex.exit 0, [], []))) (some (Ex.exit 0, [], []))) : _) := by kernel_rfl
theorem tvs_loop (s : List UInt8) (a : Nat) (hs : s.length ≤ 4000000000) (ha : a ≤ 4000000000) : ∀ (j i n : Nat), i + j = 5 → n < 2 ^ (7 * i) → ∀ ex d, (Br.br (tv (5 - i) (s.drop (a + i)) i n).isSome (.leaf (.ret, ([.j (tvS1 (tv (5 - i) (s.drop (a + i)) i n)), .j (tvS2 a (tv (5 - i) (s.drop (a + i)) i n)), .b (tvI3 (tv (5 - i) (s.drop (a + i)) i n))], []))) (.leaf (.exit 0, ([], []))) : Br (Ex × Dt)).run = some (ex, d) →
  Runs Tryz.prog (look []) (look [(3, tvsE)]) 0 (body Tryz.f210 0) tvsE ([.s s, .j (a : Int), .j (n : Int), .j (i : Int)], []) ex d
 | 0, i, n, hi, hn, ex, d, h => by
  have hr := tvs_round s a n i
  rw [ifB_false (dcF (by omega))] at hr
  rw [show 5 - i = 0 by omega, tv] at h
  have h8 := leaf_some h
  obtain ⟨rfl, rfl⟩ := Prod.mk.inj h8
  exact .stop _ _ _ hr (by simp)
 | j + 1, i, n, hi, hn, ex, d, h => by
  have hr := tvs_round s a n i
  have hw : IntKind.i64.wrap ((a : Int) + (i : Int)) = ((a + i : Nat) : Int) := by rw [wrap_id (by omega) (by omega)]; omega
  rw [ifB_true (dcT (by omega)), hw] at hr
  rw [show 5 - i = (5 - (i + 1)) + 1 by omega] at h
  by_cases hl : a + i < s.length
  ·rw [ifB_true (dcT (by omega)), ifT_true (dcT (by omega))] at hr
   have hz := s[a + i].toNat_lt
   have hx : s[a + i].toNat % 128 < 128 := Nat.mod_lt _ (by decide)
   have hp := pow7_le (i := i) (by omega)
   have hm : s[a + i].toNat % 128 * 2 ^ (7 * i) ≤ 127 * 268435456 := Nat.mul_le_mul (by omega) hp
   have hw7 : IntKind.i64.wrap ((7 : Int) * (i : Int)) = 7 * (i : Int) := wrap_id (by omega) (by omega)
   have hwc : IntKind.i64.wrap (s[a + i].toNat : Int) = (s[a + i].toNat : Int) := wrap_id (by omega) (by omega)
   have hu7 : IntKind.u64.wrap (7 * (i : Int)) = 7 * (i : Int) := wrapu_id (by omega) (by omega)
   have hwx : IntKind.i64.wrap ((s[a + i].toNat % 128 : Nat) : Int) = ((s[a + i].toNat % 128 : Nat) : Int) := wrap_id (by omega) (by omega)
   simp only [ntN, gtE hl, ifSome_s, hw7, hu7, hwc, low7' _ hz, hwx, shl7 _ i hx (by omega), or7 n _ i hn hx (by omega)] at hr
   rw [ifT_true (dcT (by omega))] at hr
   rw [List.drop_eq_getElem_cons hl, tv] at h
   have hm2 : n + s[a + i].toNat % 128 * 2 ^ (7 * i) < 2 ^ (7 * (i + 1)) := by
    have h4 : s[a + i].toNat % 128 * 2 ^ (7 * i) ≤ 127 * 2 ^ (7 * i) := Nat.mul_le_mul_right _ (by omega)
    have h5 : 2 ^ (7 * (i + 1)) = 2 ^ (7 * i) * 128 := by rw [show 7 * (i + 1) = 7 * i + 7 by omega, Nat.pow_add]
    omega
   have hwi : IntKind.i64.wrap (((a + i : Nat) : Int) + 1) = ((a + (i + 1) : Nat) : Int) := by rw [wrap_id (by omega) (by omega)]; omega
   rw [wrap_succ (n := i) (by unfold maxI; omega)] at hr
   try rw [hwi] at hr
   generalize s[a + i].toNat % 128 * 2 ^ (7 * i) = y at *
   have hi0 : ((i : Int) == 0) = decide (i = 0) := by
    by_cases h : i = 0
    ·subst h; rfl
    ·rw [dcF h]; exact beq_false_of_ne (by omega)
   have hle : decide (((n + y : Nat) : Int) ≤ 2000000001) = decide (n + y ≤ 2000000001) := decide_eq_decide.2 (by omega)
   have hgt : decide (((n + y : Nat) : Int) > 2000000001) = !decide (n + y ≤ 2000000001) := by rw [← decide_not]; exact decide_eq_decide.2 (by omega)
   have hb0 : decide ((s[a + i].toNat : Int) > 0) = decide (0 < s[a + i].toNat) := decide_eq_decide.2 (by omega)
   have hbz : ((s[a + i].toNat : Int) == 0) = !decide (0 < s[a + i].toNat) := by
    by_cases h : s[a + i].toNat = 0
    ·rw [h]; rfl
    ·rw [dcT (by omega)]; exact beq_false_of_ne (by omega)
   have hig : decide ((i : Int) > 0) = !decide (i = 0) := by rw [← decide_not]; exact decide_eq_decide.2 (by omega)
   simp only [hi0, hle, hgt, hb0, hbz, hig] at hr
   by_cases hb : s[a + i].toNat < 128
   ·rw [if_pos hb] at h
    rw [ifB_true (dcT (by omega))] at hr
    have h8 := leaf_some h
    obtain ⟨rfl, rfl⟩ := Prod.mk.inj h8
    refine .stop _ _ _ (hr.trans ?_) (by simp)
    cases decide (n + y ≤ 2000000001) <;> cases decide (0 < s[a + i].toNat) <;> cases decide (i = 0) <;> rfl
   ·rw [if_neg hb] at h
    rw [ifB_false (dcF (by omega))] at hr
    exact .step _ _ _ _ hr (tvs_loop s a hs ha j (i + 1) (n + y) (by omega) hm2 ex d h)
  ·rw [ifB_false (dcF (by omega))] at hr
   rw [List.drop_eq_nil_of_le (by omega), tv] at h
   have h8 := leaf_some h
   obtain ⟨rfl, rfl⟩ := Prod.mk.inj h8
   exact .stop _ _ _ hr (by simp)
theorem tvs_ok : LoopsOk Tryz.prog (look []) (look [(3, tvsE)]) 0 (Tryz.f210.body.getD .skip) := by
 refine loopsOk_one (a := body Tryz.f210 0) (by kernel_rfl) fun d ex d' h => ?_
 unfold tvsE at h
 dsimp only at h
 split at h
 ·rename_i s a n i
  obtain ⟨hc, hx⟩ := need_some h
  clear h
  obtain ⟨h0, h1, h2, h3, h4, h5, h6⟩ := of_decide_eq_true hc
  obtain ⟨a, rfl⟩ := Int.eq_ofNat_of_zero_le h0
  obtain ⟨n, rfl⟩ := Int.eq_ofNat_of_zero_le h1
  obtain ⟨i, rfl⟩ := Int.eq_ofNat_of_zero_le h2
  simp only [ntN] at h4 hx
  exact tvs_loop s a h5 (by omega) (5 - i) i n (by omega) h4 ex d' hx
 ·cases h
theorem tvs : Contract Tryz.prog 210 (Ent.rd1 tvsG).F := by
 refine fun_contract' KnowsL.nil.knows (Λ := (look [(3, tvsE)])) Tryz.func210 (c := Tryz.f210.body.getD .skip) (by kernel_rfl) fun vs bs r hq hv hb => ?_
 unfold Ent.F tvsG at hq
 dsimp only at hq
 split at hq
 ·rename_i s a
  obtain ⟨hc, hx⟩ := need_some hq
  refine ⟨tvs_ok, Eq.trans ?_ hx⟩
  obtain ⟨h0, h1, h2⟩ := of_decide_eq_true hc
  obtain ⟨a, rfl⟩ := Int.eq_ofNat_of_zero_le h0
  have e : funK Tryz.prog (look []) (look [(3, tvsE)]) Tryz.f210 [.s s, .j (a : Int)] [] = ((ifT (decide ((0 : Int) ≤ (↑a : Int) ∧ (0 : Int) ≤ (0 : Int) ∧ (0 : Int) ≤ (0 : Int) ∧ (0 : Int) ≤ (5 : Int) ∧ (0 : Nat) < (2 : Nat) ^ (0 : Nat) ∧ s.length ≤ (4000000000 :
 Nat) ∧ (↑a : Int) ≤ (4000000000 : Int))) (ifB (tv (5 : Nat) (List.drop ((↑a : Int).toNat + (0 : Nat)) s) (0 : Nat) (0 : Nat)).isSome (some (V.tup [V.j (tvS1 (tv (5 :
 Nat) (List.drop ((↑a : Int).toNat + (0 : Nat)) s) (0 : Nat) (0 : Nat))), V.j (tvS2 (↑a : Int).toNat (tv (5 : Nat) (List.drop ((↑a : Int).toNat + (0 : Nat)) s) (0 :
 Nat) (0 : Nat))), V.b (tvI3 (tv (5 : Nat) (List.drop ((↑a : Int).toNat + (0 : Nat)) s) (0 : Nat) (0 : Nat)))], [])) (some (V.tup [V.j 0, V.j 0, V.b false],
 [])))) : _) := by kernel_rfl
  rw [e]
  clear e
  rw [ifT_true (dcT ⟨by omega, by omega, by omega, by omega, by decide, h1, h2⟩)]
  simp only [ntN, Nat.add_zero, Int.toNat_zero, Nat.sub_zero]
  show ifB (tvAt s a).isSome (some (V.tup [.j (tvS1 (tvAt s a)), .j (tvS2 a (tvAt s a)), .b (tvI3 (tvAt s a))], [])) _ = _
  cases tvAt s a <;> rfl
 ·cases hq

abbrev WFd := Int × Int × Int × List UInt8 × Unit
abbrev Pl := WFd × Int × Unit
def unf (n : Int) : Int := if n % 2 = 1 then -((n + 1) / 2) else n / 2
def fieldB (f : WFd) : Bool := (decide (1 ≤ f.1) && decide (f.1 ≤ 30)) && (if f.2.1 = 0 then numB f.2.2.1 && f.2.2.2.1 == [] else if f.2.1 = 2 then f.2.2.1 == 0 else false)
def tbAt (s : List UInt8) (a : Nat) : List UInt8 × Int × Bool :=
 let u := tvAt s a
 if tvI3 u = true ∧ tvI1 u ≤ s.length - tvI2 a u then ((s.drop (tvI2 a u).toNat).take (tvI1 u).toNat, tvI2 a u + tvI1 u, true) else ([], 0, false)
def tfAt (s : List UInt8) (a : Nat) : WFd × Int × Int × Bool :=
 let t := tvAt s a
 if tvI3 t = false then ((0, 0, 0, [], ()), 0, 0, false)
 else if tvI1 t % 8 = 2 then
  let b := tbAt s (tvI2 a t).toNat
  ((tvI1 t / 8, 2, 0, b.1, ()), a, b.2.1, b.2.2 && fieldB (tvI1 t / 8, 2, 0, b.1, ()))
 else
  let u := tvAt s (tvI2 a t).toNat
  ((tvI1 t / 8, tvI1 t % 8, unf (tvI1 u), [], ()), a, tvI2 (tvI2 a t).toNat u, tvI3 u && fieldB (tvI1 t / 8, tvI1 t % 8, unf (tvI1 u), [], ()))
def unfG : List V → List Blk → Br (V × List (Option Blk))
 | [.i .i64 n], [] => .need (decide (0 ≤ n ∧ n ≤ 1000000000000)) (.leaf (.i .i64 (unf n), []))
 | _, _ => .no
def fieldG : List V → List Blk → Br (V × List (Option Blk))
 | [.agg [.i .i64 f0, .i .i64 f1, .i .i64 f2, .s f3]], [] => .leaf (.b (fieldB (f0, f1, f2, f3, ())), [])
 | _, _ => .no
def tbG : List V → List Blk → Br (V × List (Option Blk))
 | [.s s, .i .i64 a], [] => .need (decide (0 ≤ a ∧ s.length ≤ 4000000000 ∧ a ≤ 4000000000)) (.leaf (.tup [.s (tbAt s a.toNat).1, .i .i64 (tbAt s a.toNat).2.1, .b (tbAt s a.toNat).2.2], []))
 | _, _ => .no
def tfG : List V → List Blk → Br (V × List (Option Blk))
 | [.s s, .i .i64 a], [] => .need (decide (0 ≤ a ∧ s.length ≤ 4000000000 ∧ a ≤ 4000000000)) (.leaf (.tup [.agg [.i .i64 (tfAt s a.toNat).1.1, .i .i64 (tfAt s a.toNat).1.2.1, .i .i64 (tfAt s a.toNat).1.2.2.1, .s (tfAt s a.toNat).1.2.2.2.1, .i .i64 (tfAt s a.toNat).2.1], .i .i64 (tfAt s a.toNat).2.2.1, .b (tfAt s a.toNat).2.2.2], []))
 | _, _ => .no

theorem iunf_tree (n : Int) : funK Tryz.prog (look []) (look []) Tryz.f221 [.j n] [] =
 ((ifB (n.tmod (2 : Int) == (1 : Int)) (some (V.j (IntKind.i64.wrap ((IntKind.i64.wrap ((0 : Int) - IntKind.i64.wrap (n + (1 : Int)))).tdiv (2 : Int))), [])) (some (V.i
 .i64 (IntKind.i64.wrap (n.tdiv (2 : Int))), []))) : _) := by kernel_rfl
theorem iunf_fun (n : Int) (hc : 0 ≤ n ∧ n ≤ 1000000000000) : funK Tryz.prog (look []) (look []) Tryz.f221 [.j n] [] = (.leaf (.j (unf n), []) : Br (V × List (Option Blk))).run := by
 rw [iunf_tree]
 unfold unf
 have h1 : Int.tmod n 2 = n % 2 := Int.tmod_eq_emod_of_nonneg hc.1
 have h2 : Int.tdiv n 2 = n / 2 := Int.tdiv_eq_ediv_of_nonneg hc.1
 have h3 : IntKind.i64.wrap (n + 1) = n + 1 := wrap_id (by omega) (by omega)
 have h4 : IntKind.i64.wrap (0 - (n + 1)) = -(n + 1) := by rw [wrap_id (by omega) (by omega)]; omega
 have h5 : Int.tdiv (-(n + 1)) 2 = -((n + 1) / 2) := by rw [Int.neg_tdiv, Int.tdiv_eq_ediv_of_nonneg (by omega)]
 rw [h1, h2, h3, h4, h5]
 rw [wrap_id (n := n / 2) (by omega) (by omega), wrap_id (n := -((n + 1) / 2)) (by omega) (by omega)]
 by_cases q : n % 2 = 1
 ·rw [ifB_true (by simpa using q), if_pos q]; rfl
 ·rw [ifB_false (by simpa using q), if_neg q]; rfl
theorem iunf : Contract Tryz.prog 221 (Ent.rd1 unfG).F := by
 refine fun_contract' KnowsL.nil.knows (Λ := look []) Tryz.func221 (c := Tryz.f221.body.getD .skip) (by kernel_rfl) fun vs bs r' hq hv hb => ?_
 unfold Ent.F unfG at hq
 dsimp only at hq
 split at hq
 ·rename_i n
  obtain ⟨hc, hx⟩ := need_some hq
  exact ⟨loopsOk_nil _, (iunf_fun n (of_decide_eq_true hc)).trans hx⟩
 ·cases hq
theorem sunf_tree (n : Int) : funK Tryz.prog (look []) (look []) Tryz.f211 [.j n] [] =
 ((ifB (n.tmod (2 : Int) == (0 : Int)) (some (V.j (IntKind.i64.wrap (n.tdiv (2 : Int))), [])) (some (V.j (IntKind.i64.wrap ((IntKind.i64.wrap ((0 : Int) -
 IntKind.i64.wrap (n + (1 : Int)))).tdiv (2 : Int))), []))) : _) := by kernel_rfl
theorem sunf_fun (n : Int) (hc : 0 ≤ n ∧ n ≤ 1000000000000) : funK Tryz.prog (look []) (look []) Tryz.f211 [.j n] [] = (.leaf (.j (unf n), []) : Br (V × List (Option Blk))).run := by
  rw [sunf_tree]
  unfold unf
  have h1 : Int.tmod n 2 = n % 2 := Int.tmod_eq_emod_of_nonneg hc.1
  have h2 : Int.tdiv n 2 = n / 2 := Int.tdiv_eq_ediv_of_nonneg hc.1
  have h3 : IntKind.i64.wrap (n + 1) = n + 1 := wrap_id (by omega) (by omega)
  have h4 : IntKind.i64.wrap (0 - (n + 1)) = -(n + 1) := by rw [wrap_id (by omega) (by omega)]; omega
  have h5 : Int.tdiv (-(n + 1)) 2 = -((n + 1) / 2) := by rw [Int.neg_tdiv, Int.tdiv_eq_ediv_of_nonneg (by omega)]
  rw [h1, h2, h3, h4, h5]
  rw [wrap_id (n := n / 2) (by omega) (by omega), wrap_id (n := -((n + 1) / 2)) (by omega) (by omega)]
  by_cases q : n % 2 = 1
  · rw [ifB_false (by rw [q]; rfl), if_pos q]; rfl
  · rw [ifB_true (by have : n % 2 = 0 := by omega
                     rw [this]; rfl), if_neg q]; rfl
theorem sunf : Contract Tryz.prog 211 (Ent.rd1 unfG).F := by
 refine fun_contract' KnowsL.nil.knows (Λ := look []) Tryz.func211 (c := Tryz.f211.body.getD .skip) (by kernel_rfl) fun vs bs r' hq hv hb => ?_
 unfold Ent.F unfG at hq
 dsimp only at hq
 split at hq
 ·rename_i n
  obtain ⟨hc, hx⟩ := need_some hq
  exact ⟨loopsOk_nil _, (sunf_fun n (of_decide_eq_true hc)).trans hx⟩
 ·cases hq
theorem ifield_tree (f0 f1 f2 : Int) (f3 : List UInt8) : funK Tryz.prog (look [(88, .rd1 withinG), (206, .rd1 numG)]) (look []) Tryz.f232 [.agg [.j f0, .j f1, .j f2, .s f3]] [] =
 ((ifB (!decide ((1 : Int) ≤ f0 ∧ f0 ≤ (30 : Int))) (some (V.b false, [])) (ifB (f1 == (0 : Int)) (ifB (numB f2) (some (V.b (f3 == nilT UInt8), [])) (some (V.b false, [])))
 (ifB (f1 == (2 : Int)) (some (V.b (f2 == (0 : Int)), [])) (some (V.b false, []))))) : _) := by kernel_rfl
theorem ifield_fun (f0 f1 f2 : Int) (f3 : List UInt8) : funK Tryz.prog (look [(88, .rd1 withinG), (206, .rd1 numG)]) (look []) Tryz.f232 [.agg [.j f0, .j f1, .j f2, .s f3]] [] = (.leaf (.b (fieldB (f0, f1, f2, f3, ())), []) : Br (V × List (Option Blk))).run := by
 rw [ifield_tree]
 unfold fieldB
 dsimp only
 have d1 : decide (1 ≤ f0 ∧ f0 ≤ 30) = (decide (1 ≤ f0) && decide (f0 ≤ 30)) := Bool.decide_and ..
 rw [d1]
 cases hA : (decide (1 ≤ f0) && decide (f0 ≤ 30)) with
 | false => rfl
 | true =>
  rw [Bool.not_true, ifB_f]
  by_cases q : f1 = 0
  ·rw [ifB_true (by simpa using q), if_pos q]
   cases numB f2 <;> rfl
  ·rw [ifB_false (by simpa using q), if_neg q]
   by_cases q2 : f1 = 2
   ·rw [ifB_true (by simpa using q2), if_pos q2]; rfl
   ·rw [ifB_false (by simpa using q2), if_neg q2]; rfl
theorem ifield : Contract Tryz.prog 232 (Ent.rd1 fieldG).F := by
 refine fun_contract' (KnowsL.cons (enters_fn Tryz.func88 (by kernel_rfl) (by kernel_rfl)) within (KnowsL.cons (enters_fn Tryz.func206 (by kernel_rfl) (by kernel_rfl)) numOK KnowsL.nil)).knows (Λ := look []) Tryz.func232 (c := Tryz.f232.body.getD .skip) (by kernel_rfl) fun vs bs r' hq hv hb => ?_
 unfold Ent.F fieldG at hq
 dsimp only at hq
 split at hq
 ·rename_i f0 f1 f2 f3
  exact ⟨loopsOk_nil _, (ifield_fun f0 f1 f2 f3).trans hq⟩
 ·cases hq
theorem sfield_tree (f0 f1 f2 : Int) (f3 : List UInt8) : funK Tryz.prog (look [(78, .rd1 withinG), (165, .rd1 numG)]) (look []) Tryz.f212 [.agg [.j f0, .j f1, .j f2, .s f3]] [] =
 ((ifB (!decide ((1 : Int) ≤ f0 ∧ f0 ≤ (30 : Int))) (some (V.b false, [])) (ifB (f1 == (0 : Int)) (ifB (numB f2) (some (V.b (f3 == nilT UInt8), [])) (some (V.b false, [])))
 (ifB (f1 == (2 : Int)) (some (V.b (f2 == (0 : Int)), [])) (some (V.b false, []))))) : _) := by kernel_rfl
theorem sfield_fun (f0 f1 f2 : Int) (f3 : List UInt8) : funK Tryz.prog (look [(78, .rd1 withinG), (165, .rd1 numG)]) (look []) Tryz.f212 [.agg [.j f0, .j f1, .j f2, .s f3]] [] = (.leaf (.b (fieldB (f0, f1, f2, f3, ())), []) : Br (V × List (Option Blk))).run := by
 rw [sfield_tree]
 unfold fieldB
 dsimp only
 have d1 : decide (1 ≤ f0 ∧ f0 ≤ 30) = (decide (1 ≤ f0) && decide (f0 ≤ 30)) := Bool.decide_and ..
 rw [d1]
 cases hA : (decide (1 ≤ f0) && decide (f0 ≤ 30)) with
 | false => rfl
 | true =>
  rw [Bool.not_true, ifB_f]
  by_cases q : f1 = 0
  ·rw [ifB_true (by simpa using q), if_pos q]
   cases numB f2 <;> rfl
  ·rw [ifB_false (by simpa using q), if_neg q]
   by_cases q2 : f1 = 2
   ·rw [ifB_true (by simpa using q2), if_pos q2]; rfl
   ·rw [ifB_false (by simpa using q2), if_neg q2]; rfl
theorem sfield : Contract Tryz.prog 212 (Ent.rd1 fieldG).F := by
 refine fun_contract' (KnowsL.cons (enters_fn Tryz.func78 (by kernel_rfl) (by kernel_rfl)) l1In (KnowsL.cons (enters_fn Tryz.func165 (by kernel_rfl) (by kernel_rfl)) l1Num KnowsL.nil)).knows (Λ := look []) Tryz.func212 (c := Tryz.f212.body.getD .skip) (by kernel_rfl) fun vs bs r' hq hv hb => ?_
 unfold Ent.F fieldG at hq
 dsimp only at hq
 split at hq
 ·rename_i f0 f1 f2 f3
  exact ⟨loopsOk_nil _, (sfield_fun f0 f1 f2 f3).trans hq⟩
 ·cases hq
theorem tv_any (s : List UInt8) (a : Nat) : (0 ≤ tvI1 (tvAt s a) ∧ tvI1 (tvAt s a) ≤ 34359738368) ∧ 0 ≤ tvI2 a (tvAt s a) ∧ tvI2 a (tvAt s a) ≤ s.length := by
 cases e : tvAt s a with
 | none => exact ⟨⟨by decide, by decide⟩, Int.le_refl 0, Int.natCast_nonneg _⟩
 | some x =>
  obtain ⟨n, k, ok⟩ := x
  obtain ⟨h1, h2, h3, h4⟩ := tvAt_facts e
  dsimp only at h1 h2 h3 h4
  refine ⟨⟨?_, ?_⟩, ?_, ?_⟩
  ·show (0 : Int) ≤ (n : Int); omega
  ·show (n : Int) ≤ 34359738368; omega
  ·show (0 : Int) ≤ ((a + k : Nat) : Int); omega
  ·show ((a + k : Nat) : Int) ≤ (s.length : Int); omega
theorem tv_end {s : List UInt8} {a : Nat} (h : tvI3 (tvAt s a) = true) : (a : Int) < tvI2 a (tvAt s a) ∧ tvI2 a (tvAt s a) ≤ s.length := by
 refine ⟨?_, (tv_any s a).2.2⟩
 cases e : tvAt s a with
 | none => rw [e] at h; cases h
 | some x =>
  obtain ⟨n, k, ok⟩ := x
  obtain ⟨h1, h2, h3, h4⟩ := tvAt_facts e
  show (a : Int) < ((a + k : Nat) : Int)
  dsimp only at h2
  omega
theorem itb_tree (s : List UInt8) (a : Int) : funK Tryz.prog (look [(220, .rd1 tviG)]) (look []) Tryz.f222 [.s s, .j a] [] =
 ((ifT (decide ((0 : Int) ≤ a ∧ s.length ≤ (4000000000 : Nat) ∧ a ≤ (4000000000 : Int))) (ifB (!tvI3 (tvAt s a.toNat)) (some (V.tup [V.s (nilT UInt8), V.j 0, V.b false],
 [])) (ifB (decide (tvI1 (tvAt s a.toNat) > IntKind.i64.wrap ((↑s.length : Int) - tvI2 a.toNat (tvAt s a.toNat)))) (some (V.tup [V.s (nilT UInt8), V.j 0, V.b false],
 [])) (ifT (decide ((0 : Int) ≤ tvI2 a.toNat (tvAt s a.toNat)) && decide (tvI2 a.toNat (tvAt s a.toNat) ≤ IntKind.i64.wrap (tvI2 a.toNat (tvAt s a.toNat) + tvI1 (tvAt s
 a.toNat))) && decide (IntKind.i64.wrap (tvI2 a.toNat (tvAt s a.toNat) + tvI1 (tvAt s a.toNat)) ≤ (↑s.length : Int))) (some (V.tup [V.s (List.take ((IntKind.i64.wrap (tvI2
 a.toNat (tvAt s a.toNat) + tvI1 (tvAt s a.toNat))).toNat - (tvI2 a.toNat (tvAt s a.toNat)).toNat) (List.drop (tvI2 a.toNat (tvAt s a.toNat)).toNat s)), V.i .i64
 (IntKind.i64.wrap (tvI2 a.toNat (tvAt s a.toNat) + tvI1 (tvAt s a.toNat))), V.b true], [])))))) : _) := by kernel_rfl
theorem itb_fun (s : List UInt8) (a : Int) (hc : 0 ≤ a ∧ s.length ≤ 4000000000 ∧ a ≤ 4000000000) : funK Tryz.prog (look [(220, .rd1 tviG)]) (look []) Tryz.f222 [.s s, .j a] [] = (.leaf (.tup [.s (tbAt s a.toNat).1, .j (tbAt s a.toNat).2.1, .b (tbAt s a.toNat).2.2], []) : Br (V × List (Option Blk))).run := by
 rw [itb_tree]
 obtain ⟨h1, h2, h3⟩ := hc
 obtain ⟨a, rfl⟩ := Int.eq_ofNat_of_zero_le h1
 simp only [ntN]
 obtain ⟨⟨u1, u2⟩, u3, u4⟩ := tv_any s a
 rw [ifT_true (dcT ⟨h1, h2, h3⟩)]
 unfold tbAt
 dsimp only
 have w1 : IntKind.i64.wrap ((s.length : Int) - tvI2 a (tvAt s a)) = (s.length : Int) - tvI2 a (tvAt s a) := wrap_id (by omega) (by omega)
 have w2 : IntKind.i64.wrap (tvI2 a (tvAt s a) + tvI1 (tvAt s a)) = tvI2 a (tvAt s a) + tvI1 (tvAt s a) := wrap_id (by omega) (by omega)
 simp only [w1, w2]
 cases hk : tvI3 (tvAt s a) with
 | false => rw [Bool.not_false, ifB_t, if_neg (fun h => by cases h.1)]; rfl
 | true =>
  rw [Bool.not_true, ifB_f]
  by_cases q : tvI1 (tvAt s a) ≤ s.length - tvI2 a (tvAt s a)
  ·rw [ifB_false (dcF (by omega)), if_pos ⟨rfl, q⟩, ifT_true (by simp only [anE, dcE]; omega)]
   have e : (tvI2 a (tvAt s a) + tvI1 (tvAt s a)).toNat - (tvI2 a (tvAt s a)).toNat = (tvI1 (tvAt s a)).toNat := by omega
   rw [e]; rfl
  ·rw [ifB_true (dcT (by omega)), if_neg (fun h => q h.2)]; rfl
theorem itb : Contract Tryz.prog 222 (Ent.rd1 tbG).F := by
 refine fun_contract' (KnowsL.cons (enters_fn Tryz.func220 (by kernel_rfl) (by kernel_rfl)) tvi KnowsL.nil).knows (Λ := look []) Tryz.func222 (c := Tryz.f222.body.getD .skip) (by kernel_rfl) fun vs bs r' hq hv hb => ?_
 unfold Ent.F tbG at hq
 dsimp only at hq
 split at hq
 ·rename_i s a
  obtain ⟨hc, hx⟩ := need_some hq
  exact ⟨loopsOk_nil _, (itb_fun s a (of_decide_eq_true hc)).trans hx⟩
 ·cases hq
theorem itf_tree (s : List UInt8) (a : Int) : funK Tryz.prog (look [(220, .rd1 tviG), (222, .rd1 tbG), (221, .rd1 unfG), (232, .rd1 fieldG)]) (look []) Tryz.f223 [.s s, .j a] [] =
 ((ifT (decide ((0 : Int) ≤ a ∧ s.length ≤ (4000000000 : Nat) ∧ a ≤ (4000000000 : Int))) (ifB (!tvI3 (tvAt s a.toNat)) (some (V.tup [V.agg [V.j 0, V.j 0, V.i .i64
 0, V.s (nilT UInt8), V.j 0], V.j 0, V.b false], [])) (ifB ((tvI1 (tvAt s a.toNat)).tmod (8 : Int) == (2 : Int)) (ifT (decide ((0 : Int) ≤ tvI2 a.toNat (tvAt s
 a.toNat) ∧ s.length ≤ (4000000000 : Nat) ∧ tvI2 a.toNat (tvAt s a.toNat) ≤ (4000000000 : Int))) (ifB (tbAt s (tvI2 a.toNat (tvAt s a.toNat)).toNat).snd.snd (some (V.tup
 [V.agg [V.j (IntKind.i64.wrap ((tvI1 (tvAt s a.toNat)).tdiv (8 : Int))), V.j ((tvI1 (tvAt s a.toNat)).tmod (8 : Int)), V.j 0, V.s (tbAt s (tvI2 a.toNat
 (tvAt s a.toNat)).toNat).fst, V.j a], V.j (tbAt s (tvI2 a.toNat (tvAt s a.toNat)).toNat).snd.fst, V.b (fieldB (IntKind.i64.wrap ((tvI1 (tvAt s a.toNat)).tdiv (8
 : Int)), (tvI1 (tvAt s a.toNat)).tmod (8 : Int), (0 : Int), (tbAt s (tvI2 a.toNat (tvAt s a.toNat)).toNat).fst, ()))], [])) (some (V.tup [V.agg [V.i .i64
 (IntKind.i64.wrap ((tvI1 (tvAt s a.toNat)).tdiv (8 : Int))), V.j ((tvI1 (tvAt s a.toNat)).tmod (8 : Int)), V.j 0, V.s (tbAt s (tvI2 a.toNat (tvAt s
 a.toNat)).toNat).fst, V.j a], V.j (tbAt s (tvI2 a.toNat (tvAt s a.toNat)).toNat).snd.fst, V.b false], [])))) (ifT (decide ((0 : Int) ≤ tvI2 a.toNat (tvAt s
 a.toNat) ∧ s.length ≤ (4000000000 : Nat) ∧ tvI2 a.toNat (tvAt s a.toNat) ≤ (4000000000 : Int))) (ifT (decide ((0 : Int) ≤ tvI1 (tvAt s (tvI2 a.toNat (tvAt s
 a.toNat)).toNat) ∧ tvI1 (tvAt s (tvI2 a.toNat (tvAt s a.toNat)).toNat) ≤ (1000000000000 : Int))) (ifB (tvI3 (tvAt s (tvI2 a.toNat (tvAt s a.toNat)).toNat)) (some (V.tup
 [V.agg [V.j (IntKind.i64.wrap ((tvI1 (tvAt s a.toNat)).tdiv (8 : Int))), V.j ((tvI1 (tvAt s a.toNat)).tmod (8 : Int)), V.j (unf (tvI1 (tvAt s (tvI2 a.toNat
 (tvAt s a.toNat)).toNat))), V.s (nilT UInt8), V.j a], V.j (tvI2 (tvI2 a.toNat (tvAt s a.toNat)).toNat (tvAt s (tvI2 a.toNat (tvAt s a.toNat)).toNat)), V.b
 (fieldB (IntKind.i64.wrap ((tvI1 (tvAt s a.toNat)).tdiv (8 : Int)), (tvI1 (tvAt s a.toNat)).tmod (8 : Int), unf (tvI1 (tvAt s (tvI2 a.toNat (tvAt s a.toNat)).toNat)),
 nilT UInt8, ()))], [])) (some (V.tup [V.agg [V.j (IntKind.i64.wrap ((tvI1 (tvAt s a.toNat)).tdiv (8 : Int))), V.j ((tvI1 (tvAt s a.toNat)).tmod (8 : Int)), V.i
 .i64 (unf (tvI1 (tvAt s (tvI2 a.toNat (tvAt s a.toNat)).toNat))), V.s (nilT UInt8), V.j a], V.j (tvI2 (tvI2 a.toNat (tvAt s a.toNat)).toNat (tvAt s (tvI2
 a.toNat (tvAt s a.toNat)).toNat)), V.b false], [])))))))) : _) := by kernel_rfl
theorem itf_fun (s : List UInt8) (a : Int) (hc : 0 ≤ a ∧ s.length ≤ 4000000000 ∧ a ≤ 4000000000) : funK Tryz.prog (look [(220, .rd1 tviG), (222, .rd1 tbG), (221, .rd1 unfG), (232, .rd1 fieldG)]) (look []) Tryz.f223 [.s s, .j a] [] = (.leaf (.tup [.agg [.j (tfAt s a.toNat).1.1, .j (tfAt s a.toNat).1.2.1, .j (tfAt s a.toNat).1.2.2.1, .s (tfAt s a.toNat).1.2.2.2.1, .j (tfAt s a.toNat).2.1], .j (tfAt s a.toNat).2.2.1, .b (tfAt s a.toNat).2.2.2], []) : Br (V × List (Option Blk))).run := by
 rw [itf_tree]
 obtain ⟨h1, h2, h3⟩ := hc
 obtain ⟨a, rfl⟩ := Int.eq_ofNat_of_zero_le h1
 simp only [ntN]
 obtain ⟨⟨u1, u2⟩, u3, u4⟩ := tv_any s a
 obtain ⟨⟨v1, v2⟩, v3, v4⟩ := tv_any s (tvI2 a (tvAt s a)).toNat
 have e1 : Int.tdiv (tvI1 (tvAt s a)) 8 = tvI1 (tvAt s a) / 8 := Int.tdiv_eq_ediv_of_nonneg u1
 have e2 : Int.tmod (tvI1 (tvAt s a)) 8 = tvI1 (tvAt s a) % 8 := Int.tmod_eq_emod_of_nonneg u1
 have e3 : IntKind.i64.wrap (tvI1 (tvAt s a) / 8) = tvI1 (tvAt s a) / 8 := wrap_id (by omega) (by omega)
 rw [ifT_true (dcT ⟨h1, h2, h3⟩)]
 simp only [e1, e2, e3]
 unfold tfAt
 dsimp only
 cases hk : tvI3 (tvAt s a) with
 | false => rw [Bool.not_false, ifB_t, if_pos rfl]; rfl
 | true =>
  rw [Bool.not_true, ifB_f, if_neg (by simp)]
  have hd : decide (0 ≤ tvI2 a (tvAt s a) ∧ s.length ≤ 4000000000 ∧ tvI2 a (tvAt s a) ≤ 4000000000) = true := dcT ⟨u3, h2, by omega⟩
  by_cases q : tvI1 (tvAt s a) % 8 = 2
  ·rw [ifB_true (by simpa using q), if_pos q, q, hd, ifT_t]
   cases hb : (tbAt s (tvI2 a (tvAt s a)).toNat).2.2 <;> rfl
  ·rw [ifB_false (by simpa using q), if_neg q, hd, ifT_t, ifT_true (dcT ⟨v1, by omega⟩)]
   cases hb : tvI3 (tvAt s (tvI2 a (tvAt s a)).toNat) <;> rfl
theorem itf : Contract Tryz.prog 223 (Ent.rd1 tfG).F := by
 refine fun_contract' (KnowsL.cons (enters_fn Tryz.func220 (by kernel_rfl) (by kernel_rfl)) tvi (KnowsL.cons (enters_fn Tryz.func222 (by kernel_rfl) (by kernel_rfl)) itb (KnowsL.cons (enters_fn Tryz.func221 (by kernel_rfl) (by kernel_rfl)) iunf (KnowsL.cons (enters_fn Tryz.func232 (by kernel_rfl) (by kernel_rfl)) ifield KnowsL.nil)))).knows (Λ := look []) Tryz.func223 (c := Tryz.f223.body.getD .skip) (by kernel_rfl) fun vs bs r' hq hv hb => ?_
 unfold Ent.F tfG at hq
 dsimp only at hq
 split at hq
 ·rename_i s a
  obtain ⟨hc, hx⟩ := need_some hq
  exact ⟨loopsOk_nil _, (itf_fun s a (of_decide_eq_true hc)).trans hx⟩
 ·cases hq
theorem tf_ok {s : List UInt8} {a : Nat} (h : (tfAt s a).2.2.2 = true) : fieldB (tfAt s a).1 = true ∧ (a : Int) < (tfAt s a).2.2.1 ∧ (tfAt s a).2.2.1 ≤ s.length ∧ (tfAt s a).2.1 = a := by
 have ha : ∀ {x : Int}, (0 : Int) ≤ x → ((x.toNat : Nat) : Int) = x := fun h => by omega
 unfold tfAt at h ⊢
 dsimp only at h ⊢
 cases hk : tvI3 (tvAt s a) with
 | false => rw [hk] at h; cases h
 | true =>
  have t1 := tv_end hk
  have t2 := ha (x := tvI2 a (tvAt s a)) (by omega)
  rw [hk, if_neg (by simp)] at h
  rw [if_neg (by simp)]
  by_cases q : tvI1 (tvAt s a) % 8 = 2
  ·rw [if_pos q] at h ⊢
   dsimp only at h ⊢
   rw [anE] at h
   refine ⟨h.2, ?_⟩
   have h := h.1
   unfold tbAt at h ⊢
   dsimp only at h ⊢
   split at h
   ·rename_i hh
    rw [if_pos hh]
    have u := tv_end hh.1
    have v := (tv_any s (tvI2 a (tvAt s a)).toNat).1.1
    dsimp only
    exact ⟨by omega, by omega, rfl⟩
   ·cases h
  ·rw [if_neg q] at h ⊢
   dsimp only at h ⊢
   rw [anE] at h
   have u := tv_end h.1
   exact ⟨h.2, by omega, u.2, rfl⟩

def rdL (s : List UInt8) : Nat → Nat → List Pl → Option (List Pl)
 | 0, a, o => if a < s.length then none else some o
 | f + 1, a, o => if a < s.length then (if (tfAt s a).2.2.2 = true ∧ o.length ≠ 40 then rdL s f (tfAt s a).2.2.1.toNat (o ++ [((tfAt s a).1, (a : Int), ())]) else none) else some o
def rdP (s : List UInt8) : Option (List Pl) := if s.length ≤ 400 then rdL s s.length 0 [] else none
def rdpG : List V → List Blk → Br (V × List (Option Blk))
 | [.s s], [] => .need (decide (s.length ≤ 4000000000)) (.leaf (.tup [.ref 0 0 ((rdP s).getD []).length, .b (rdP s).isSome], [some (.row false none (.pair (.pair (.int .i64) (.pair (.int .i64) (.pair (.int .i64) (.pair .str .unit)))) (.pair (.int .i64) .unit)) ((rdP s).getD []))]))
 | _, _ => .no
def rdpE : LoopEnt := ⟨37, [0,4,5], [4], [2,3], fun
 | ([.s s, .ref 0 0 n, .i .i64 a], [some (.row false none (.pair (.pair (.int .i64) (.pair (.int .i64) (.pair (.int .i64) (.pair .str .unit)))) (.pair (.int .i64) .unit)) o)]) => .need (decide (0 ≤ a ∧ a.toNat ≤ s.length ∧ s.length ≤ 400 ∧ n = o.length ∧ o.length ≤ a.toNat)) (.br (rdL s (s.length - a.toNat) a.toNat o).isSome (.leaf (.exit 0, ([.ref 0 0 ((rdL s (s.length - a.toNat) a.toNat o).getD []).length], [some (.row false none (.pair (.pair (.int .i64) (.pair (.int .i64) (.pair (.int .i64) (.pair .str .unit)))) (.pair (.int .i64) .unit)) ((rdL s (s.length - a.toNat) a.toNat o).getD []))]))) (.leaf (.ret, ([.ref 0 0 0, .b false], [some (.row false none (.pair (.pair (.int .i64) (.pair (.int .i64) (.pair (.int .i64) (.pair .str .unit)))) (.pair (.int .i64) .unit)) [])]))))
 | _ => .no⟩

theorem rdp_round (s : List UInt8) (n : Nat) (a : Int) (o : List Pl) : roundK Tryz.prog (look [(223, .rd1 tfG)]) (look [(5, rdpE)]) 0 (body Tryz.f193 0) rdpE ([.s s, .ref 0 0 n, .j a], [some (.row false none PCd o)]) =
 ((ifB (decide (a < (↑s.length : Int))) (ifT (decide ((0 : Int) ≤ a ∧ s.length ≤ (4000000000 : Nat) ∧ a ≤ (4000000000 : Int))) (ifB (!(tfAt s a.toNat).snd.snd.snd) (some
 (Ex.ret, [V.ref 0 0 0, V.b false], [some (Blk.row false none PCd (nilT PCd.den))])) (ifB ((↑n : Int) == (40 : Int)) (some (Ex.ret, [V.ref 0 0 0, V.b false], [some
 (Blk.row false none PCd (nilT PCd.den))])) (ifT (decide ((n + (1 : Nat)) * (48 : Nat) ≤ (140737488355328 : Nat)) && decide (n + (1 : Nat) ≤ maxI)) (some (Ex.normal, [V.s
 s, V.ref 0 0 (n + (1 : Nat)), V.j (tfAt s a.toNat).snd.snd.fst], [some (Blk.row false none PCd (List.take n (List.drop (0 : Nat) o) ++ (((tfAt s a.toNat).fst.fst,
 (tfAt s a.toNat).fst.snd.fst, (tfAt s a.toNat).fst.snd.snd.fst, (tfAt s a.toNat).fst.snd.snd.snd.fst, ()), (tfAt s a.toNat).snd.fst, ()) :: nilT PCd.den))])))))) (some
 (Ex.exit 0, [V.ref 0 0 n], [some (Blk.row false none PCd o)]))) : _) := by kernel_rfl
theorem rdp_tree (s : List UInt8) : funC Tryz.prog (look [(223, .rd1 tfG)]) (look [(5, rdpE)]) Tryz.f193 [.s s] [] =
 ((ifB (decide ((↑s.length : Int) > (400 : Int))) (some (V.tup [V.ref 0 0 0, V.b false], [some (Blk.row false none PCd (nilT PCd.den))])) (ifT (decide ((0 : Int) ≤ (0 : Int)
 ∧ (0 : Nat) ≤ s.length ∧ s.length ≤ (400 : Nat) ∧ (0 : Nat) = (0 : Nat) ∧ (0 : Nat) ≤ (0 : Nat))) (ifB (rdL s (s.length - (0 : Nat)) (0 : Nat) (nilT PCd.den)).isSome
 (some (V.tup [V.ref 0 0 ((rdL s (s.length - (0 : Nat)) (0 : Nat) (nilT PCd.den)).getD (nilT Pl)).length, V.b true], [some (Blk.row false none PCd ((rdL s (s.length - (0 :
 Nat)) (0 : Nat) (nilT PCd.den)).getD (nilT Pl)))])) (some (V.tup [V.ref 0 0 0, V.b false], [some (Blk.row false none PCd (nilT PCd.den))]))))) : _) := by kernel_rfl
theorem rdL_fuel (s : List UInt8) : ∀ (f f' a : Nat) (o : List Pl), s.length - a ≤ f → s.length - a ≤ f' → rdL s f a o = rdL s f' a o := by
 intro f
 induction f with
 | zero =>
  intro f' a o h1 h2
  cases f' with
  | zero => rfl
  | succ f' => rw [rdL, rdL, if_neg (by omega), if_neg (by omega)]
 | succ f ih =>
  intro f' a o h1 h2
  cases f' with
  | zero => rw [rdL, rdL, if_neg (by omega), if_neg (by omega)]
  | succ f' =>
   rw [rdL, rdL]
   by_cases q : a < s.length
   ·rw [if_pos q, if_pos q]
    by_cases q2 : (tfAt s a).2.2.2 = true ∧ o.length ≠ 40
    ·rw [if_pos q2, if_pos q2]
     have := tf_ok q2.1
     exact ih f' _ _ (by omega) (by omega)
    ·rw [if_neg q2, if_neg q2]
   ·rw [if_neg q, if_neg q]
theorem rdL_step {s : List UInt8} {a : Nat} {o : List Pl} (h : a < s.length) (h1 : (tfAt s a).2.2.2 = true) (h2 : o.length ≠ 40) : rdL s (s.length - a) a o = rdL s (s.length - (tfAt s a).2.2.1.toNat) (tfAt s a).2.2.1.toNat (o ++ [((tfAt s a).1, (a : Int), ())]) := by
 have e : s.length - a = (s.length - a - 1) + 1 := by omega
 have ht := tf_ok h1
 rw [e, rdL, if_pos h, if_pos ⟨h1, h2⟩]
 exact rdL_fuel s _ _ _ _ (by omega) (by omega)
theorem rdL_bad {s : List UInt8} {a : Nat} {o : List Pl} (h : a < s.length) (h1 : (tfAt s a).2.2.2 = false ∨ o.length = 40) : rdL s (s.length - a) a o = none := by
 have e : s.length - a = (s.length - a - 1) + 1 := by omega
 rw [e, rdL, if_pos h, if_neg]
 rintro ⟨h2, h3⟩
 rcases h1 with h1 | h1
 ·rw [h1] at h2; cases h2
 ·exact h3 h1
theorem rdL_end {s : List UInt8} {a : Nat} {o : List Pl} (h : s.length ≤ a) : rdL s (s.length - a) a o = some o := by
 have e : s.length - a = 0 := by omega
 rw [e, rdL, if_neg (by omega)]
theorem rdp_loop (s : List UInt8) (hs : s.length ≤ 400) : ∀ (j a : Nat) (o : List Pl), s.length - a ≤ j → a ≤ s.length → o.length ≤ a → ∀ ex d, (Br.br (rdL s (s.length - a) a o).isSome (.leaf (.exit 0, ([.ref 0 0 ((rdL s (s.length - a) a o).getD []).length], [some (.row false none PCd ((rdL s (s.length - a) a o).getD []))]))) (.leaf (.ret, ([.ref 0 0 0, .b false], [some (.row false none PCd [])]))) : Br (Ex × Dt)).run = some (ex, d) →
  Runs Tryz.prog (look [(223, .rd1 tfG)]) (look [(5, rdpE)]) 0 (body Tryz.f193 0) rdpE ([.s s, .ref 0 0 o.length, .j (a : Int)], [some (.row false none PCd o)]) ex d := by
 intro j
 induction j with
 | zero =>
  intro a o hj ha ho ex d h
  have hr := rdp_round s o.length a o
  rw [ifB_false (dcF (by omega))] at hr
  rw [rdL_end (by omega)] at h
  have h8 := leaf_some (show (Br.leaf (.exit 0, ([.ref 0 0 o.length], [some (.row false none PCd o)])) : Br (Ex × Dt)).run = some (ex, d) from h)
  obtain ⟨rfl, rfl⟩ := Prod.mk.inj h8
  exact .stop _ _ _ hr (by simp)
 | succ j ih =>
  intro a o hj ha ho ex d h
  have hr := rdp_round s o.length a o
  have hM : maxI = 9223372036854775807 := rfl
  by_cases q : a < s.length
  ·rw [ifB_true (dcT (by omega)), ifT_true (dcT (by omega)), ntN] at hr
   cases hk : (tfAt s a).2.2.2 with
   | false =>
    rw [hk, Bool.not_false, ifB_t] at hr
    rw [rdL_bad q (.inl hk)] at h
    have h8 := leaf_some (show (Br.leaf (.ret, ([.ref 0 0 0, .b false], [some (.row false none PCd [])])) : Br (Ex × Dt)).run = some (ex, d) from h)
    obtain ⟨rfl, rfl⟩ := Prod.mk.inj h8
    exact .stop _ _ _ hr (by simp)
   | true =>
    obtain ⟨t1, t2, t3, t4⟩ := tf_ok hk
    rw [hk, Bool.not_true, ifB_f] at hr
    by_cases q2 : o.length = 40
    ·rw [ifB_true (by rw [q2]; rfl)] at hr
     rw [rdL_bad q (.inr q2)] at h
     have h8 := leaf_some (show (Br.leaf (.ret, ([.ref 0 0 0, .b false], [some (.row false none PCd [])])) : Br (Ex × Dt)).run = some (ex, d) from h)
     obtain ⟨rfl, rfl⟩ := Prod.mk.inj h8
     exact .stop _ _ _ hr (by simp)
    ·rw [ifB_false (by simpa using fun e => q2 (by omega)), ifT_true (by simp only [anE, dcE]; omega), List.drop_zero, List.take_length, t4] at hr
     rw [rdL_step q hk q2] at h
     obtain ⟨b, hb⟩ := Int.eq_ofNat_of_zero_le (a := (tfAt s a).2.2.1) (by omega)
     rw [hb] at hr h t2 t3
     rw [ntN] at h
     have := ih b (o ++ [((tfAt s a).1, (a : Int), ())]) (by omega) (by omega) (by simp; omega) ex d h
     rw [List.length_append] at this
     exact .step _ _ _ _ hr this
  ·rw [ifB_false (dcF (by omega))] at hr
   rw [rdL_end (by omega)] at h
   have h8 := leaf_some (show (Br.leaf (.exit 0, ([.ref 0 0 o.length], [some (.row false none PCd o)])) : Br (Ex × Dt)).run = some (ex, d) from h)
   obtain ⟨rfl, rfl⟩ := Prod.mk.inj h8
   exact .stop _ _ _ hr (by simp)
theorem rdp_ok : LoopsOk Tryz.prog (look [(223, .rd1 tfG)]) (look [(5, rdpE)]) 0 (Tryz.f193.body.getD .skip) := by
 refine loopsOk_one (a := body Tryz.f193 0) (by kernel_rfl) fun d ex d' h => ?_
 unfold rdpE at h
 dsimp only at h
 split at h
 ·rename_i s n a o
  obtain ⟨hc, hx⟩ := need_some h
  clear h
  obtain ⟨h0, h1, h2, rfl, h4⟩ := of_decide_eq_true hc
  obtain ⟨a, rfl⟩ := Int.eq_ofNat_of_zero_le h0
  simp only [ntN] at h1 h4 hx
  exact rdp_loop s h2 _ a o (Nat.le_refl _) h1 h4 ex d' hx
 ·cases h
theorem rdp : Contract Tryz.prog 193 (Ent.rd1 rdpG).F := by
 refine fun_contractC' (KnowsL.cons (enters_fn Tryz.func223 (by kernel_rfl) (by kernel_rfl)) itf KnowsL.nil).knows (Λ := (look [(5, rdpE)])) Tryz.func193 (c := Tryz.f193.body.getD .skip) (by kernel_rfl) fun vs bs r hq hv hb => ?_
 unfold Ent.F rdpG at hq
 dsimp only at hq
 split at hq
 ·rename_i s
  obtain ⟨hc, hx⟩ := need_some hq
  refine ⟨rdp_ok, Eq.trans ?_ hx⟩
  rw [rdp_tree]
  unfold rdP
  by_cases q : s.length ≤ 400
  ·rw [ifB_false (dcF (by omega)), if_pos q, ifT_true (dcT ⟨by omega, by omega, q, rfl, by omega⟩), Nat.sub_zero]
   simp only [nilT_eq]
   cases rdL s s.length 0 [] <;> rfl
  ·rw [ifB_true (dcT (by omega)), if_neg q]; rfl
 ·cases hq

def riseI (ns : List Int) (i : Nat) : Bool := i == 0 || decide (ns.getD (i - 1) 0 < ns.getD i 0)
def rise (ns : List Int) : Bool := (List.range ns.length).all (riseI ns)
def nosP (l : List Pl) : List Int := l.map fun x => x.1.1
def nosF (l : List WFd) : List Int := l.map fun x => x.1
def risP (s : List UInt8) : Option (List Pl) := match rdP s with | some l => (if rise (nosP l) = true then some l else none) | none => none
def risE : LoopEnt := ⟨39, [4,15,16], [4], [2,3], fun
 | ([.ref 0 0 m, .i .i64 k, .i .i64 i], [some (.row false none (.pair (.pair (.int .i64) (.pair (.int .i64) (.pair (.int .i64) (.pair .str .unit)))) (.pair (.int .i64) .unit)) o)]) => .need (decide (0 ≤ i ∧ i.toNat ≤ o.length ∧ m = o.length ∧ k = o.length ∧ o.length ≤ 4000000000)) (.br (((List.range o.length).drop i.toNat).all (riseI (nosP o))) (.leaf (.exit 0, ([.ref 0 0 o.length], [some (.row false none (.pair (.pair (.int .i64) (.pair (.int .i64) (.pair (.int .i64) (.pair .str .unit)))) (.pair (.int .i64) .unit)) o)]))) (.leaf (.ret, ([.ref 0 0 0, .b false], [some (.row false none (.pair (.pair (.int .i64) (.pair (.int .i64) (.pair (.int .i64) (.pair .str .unit)))) (.pair (.int .i64) .unit)) [])]))))
 | _ => .no⟩
def risG : List V → List Blk → Br (V × List (Option Blk))
 | [.s s], [] => .need (decide (s.length ≤ 4000000000)) (.leaf (.tup [.ref 0 0 ((risP s).getD []).length, .b (risP s).isSome], [some (.row false none (.pair (.pair (.int .i64) (.pair (.int .i64) (.pair (.int .i64) (.pair .str .unit)))) (.pair (.int .i64) .unit)) ((risP s).getD []))]))
 | _, _ => .no

theorem ris_round (m : Nat) (k i : Int) (o : List Pl) : roundK Tryz.prog (look [(193, .rd1 rdpG)]) (look [(5, risE)]) 0 (body Tryz.f151 0) risE ([.ref 0 0 m, .j k, .j i], [some (.row false none PCd o)]) =
 ((ifB (decide (i < k)) (ifB (decide (i > (0 : Int))) (ifT (decide ((0 : Int) ≤ IntKind.i64.wrap (i - (1 : Int))) && decide (IntKind.i64.wrap (i - (1 : Int)) < (↑m : Int)))
 (ifSome o[(0 : Nat) + (IntKind.i64.wrap (i - (1 : Int))).toNat]? fun z => ifT (decide ((0 : Int) ≤ i) && decide (i < (↑m : Int))) (ifSome o[(0 : Nat) + i.toNat]? fun z_1
 => ifB (decide (z.fst.fst ≥ z_1.fst.fst)) (some (Ex.ret, [V.ref 0 0 0, V.b false], [some (Blk.row false none PCd (nilT PCd.den))])) (some (Ex.normal, [V.ref 0 0 m, V.i
 .i64 k, V.j (IntKind.i64.wrap (i + (1 : Int)))], [some (Blk.row false none PCd o)]))))) (some (Ex.normal, [V.ref 0 0 m, V.j k, V.j (IntKind.i64.wrap (i +
 (1 : Int)))], [some (Blk.row false none PCd o)]))) (some (Ex.exit 0, [V.ref 0 0 m], [some (Blk.row false none PCd o)]))) : _) := by kernel_rfl
theorem ris_tree (s : List UInt8) : funC Tryz.prog (look [(193, .rd1 rdpG)]) (look [(5, risE)]) Tryz.f151 [.s s] [] =
 ((ifT (decide (s.length ≤ (4000000000 : Nat))) (ifB (!(rdP s).isSome) (some (V.tup [V.ref 0 0 0, V.b false], [some (Blk.row false none PCd (nilT PCd.den))])) (ifT (decide
 ((0 : Int) ≤ (0 : Int) ∧ (0 : Nat) ≤ ((rdP s).getD (nilT Pl)).length ∧ ((rdP s).getD (nilT Pl)).length = ((rdP s).getD (nilT Pl)).length ∧ (↑((rdP s).getD (nilT
 Pl)).length : Int) = (↑((rdP s).getD (nilT Pl)).length : Int) ∧ ((rdP s).getD (nilT Pl)).length ≤ (4000000000 : Nat))) (ifB ((List.drop (0 : Nat) (List.range ((rdP
 s).getD (nilT Pl)).length)).all (riseI (nosP ((rdP s).getD (nilT Pl))))) (some (V.tup [V.ref 0 0 ((rdP s).getD (nilT Pl)).length, V.b true], [some (Blk.row false none PCd
 ((rdP s).getD (nilT Pl)))])) (some (V.tup [V.ref 0 0 0, V.b false], [some (Blk.row false none PCd (nilT PCd.den))])))))) : _) := by kernel_rfl
theorem ris_loop (o : List Pl) (hm : o.length ≤ 4000000000) : ∀ (j i : Nat), i + j = o.length → ∀ ex d, (Br.br (((List.range o.length).drop i).all (riseI (nosP o))) (.leaf (.exit 0, ([.ref 0 0 o.length], [some (.row false none PCd o)]))) (.leaf (.ret, ([.ref 0 0 0, .b false], [some (.row false none PCd [])]))) : Br (Ex × Dt)).run = some (ex, d) →
  Runs Tryz.prog (look [(193, .rd1 rdpG)]) (look [(5, risE)]) 0 (body Tryz.f151 0) risE ([.ref 0 0 o.length, .j (o.length : Int), .j (i : Int)], [some (.row false none PCd o)]) ex d
 | 0, i, hi, ex, d, h => by
  have hr := ris_round o.length o.length i o
  rw [ifB_false (dcF (by omega))] at hr
  rw [List.drop_eq_nil_of_le (by simp; omega)] at h
  have h8 := leaf_some (show (Br.leaf (.exit 0, ([.ref 0 0 o.length], [some (.row false none PCd o)])) : Br (Ex × Dt)).run = some (ex, d) from h)
  obtain ⟨rfl, rfl⟩ := Prod.mk.inj h8
  exact .stop _ _ _ hr (by simp)
 | j + 1, i, hi, ex, d, h => by
  have hl : i < o.length := by omega
  have hM : maxI = 9223372036854775807 := rfl
  have hr := ris_round o.length o.length i o
  have hd : (List.range o.length).drop i = i :: (List.range o.length).drop (i + 1) := by
   rw [List.drop_eq_getElem_cons (by simpa using hl)]
   simp
  rw [hd, List.all_cons] at h
  rw [ifB_true (dcT (by omega)), wrap_succ (n := i) (by omega)] at hr
  have gA : ∀ {x : Nat} (hx : x < o.length), (nosP o).getD x 0 = o[x].1.1 := fun hx => by unfold nosP; simp [hx]
  skip
  by_cases q0 : i = 0
  ·subst q0
   rw [ifB_false (dcF (by omega))] at hr
   have e0 : riseI (nosP o) 0 = true := rfl
   rw [e0, Bool.true_and] at h
   exact .step _ _ _ _ hr (ris_loop o hm j 1 (by omega) ex d h)
  ·have hw : IntKind.i64.wrap ((i : Int) - 1) = ((i - 1 : Nat) : Int) := by rw [wrap_id (by omega) (by omega)]; omega
   have hl1 : i - 1 < o.length := by omega
   rw [ifB_true (dcT (by omega)), hw, ifT_true (by simp only [anE, dcE]; omega), ntN, Nat.zero_add, gtE hl1, ifSome_s] at hr
   rw [ifT_true (by simp only [anE, dcE]; omega), ntN, Nat.zero_add, gtE hl, ifSome_s] at hr
   have er : riseI (nosP o) i = decide (o[i - 1].1.1 < o[i].1.1) := by
    unfold riseI
    rw [gA hl1, gA hl, beq_false_of_ne q0, Bool.false_or]
   rw [er] at h
   by_cases q : o[i - 1].1.1 < o[i].1.1
   ·rw [ifB_false (dcF (by omega))] at hr
    rw [dcT q, Bool.true_and] at h
    exact .step _ _ _ _ hr (ris_loop o hm j (i + 1) (by omega) ex d h)
   ·rw [ifB_true (dcT (by omega))] at hr
    rw [dcF q, Bool.false_and] at h
    have h8 := leaf_some (show (Br.leaf (.ret, ([.ref 0 0 0, .b false], [some (.row false none PCd [])])) : Br (Ex × Dt)).run = some (ex, d) from h)
    obtain ⟨rfl, rfl⟩ := Prod.mk.inj h8
    exact .stop _ _ _ hr (by simp)
theorem ris_ok : LoopsOk Tryz.prog (look [(193, .rd1 rdpG)]) (look [(5, risE)]) 0 (Tryz.f151.body.getD .skip) := by
 refine loopsOk_one (a := body Tryz.f151 0) (by kernel_rfl) fun d ex d' h => ?_
 unfold risE at h
 dsimp only at h
 split at h
 ·rename_i m k i o
  obtain ⟨hc, hx⟩ := need_some h
  clear h
  obtain ⟨h0, h1, rfl, rfl, h4⟩ := of_decide_eq_true hc
  obtain ⟨i, rfl⟩ := Int.eq_ofNat_of_zero_le h0
  simp only [ntN] at h1 hx
  exact ris_loop o h4 (o.length - i) i (by omega) ex d' hx
 ·cases h
theorem rdL_len {s : List UInt8} : ∀ (f a : Nat) (o l : List Pl), o.length ≤ 40 → rdL s f a o = some l → l.length ≤ 40
 | 0, a, o, l, h, e => by
  rw [rdL] at e
  split at e
  ·cases e
  ·cases e; exact h
 | f + 1, a, o, l, h, e => by
  rw [rdL] at e
  split at e
  ·split at e
   ·rename_i h2
    exact rdL_len f _ _ l (by have := h2.2; simp; omega) e
   ·cases e
  ·cases e; exact h
theorem rdP_len {s : List UInt8} {l : List Pl} (h : rdP s = some l) : l.length ≤ 40 ∧ s.length ≤ 400 := by
 unfold rdP at h
 split at h
 ·rename_i h1
  exact ⟨rdL_len _ _ _ l (by simp) h, h1⟩
 ·cases h
theorem ris : Contract Tryz.prog 151 (Ent.rd1 risG).F := by
 refine fun_contractC' (KnowsL.cons (enters_fn Tryz.func193 (by kernel_rfl) (by kernel_rfl)) rdp KnowsL.nil).knows (Λ := (look [(5, risE)])) Tryz.func151 (c := Tryz.f151.body.getD .skip) (by kernel_rfl) fun vs bs r hq hv hb => ?_
 unfold Ent.F risG at hq
 dsimp only at hq
 split at hq
 ·rename_i s
  obtain ⟨hc, hx⟩ := need_some hq
  refine ⟨ris_ok, Eq.trans ?_ hx⟩
  rw [ris_tree, ifT_true hc]
  unfold risP
  cases e : rdP s with
  | none => rfl
  | some l =>
   have hl := (rdP_len e).1
   dsimp only [Option.isSome_some, Option.getD_some]
   rw [Bool.not_true, ifB_f, ifT_true (dcT ⟨by omega, by omega, rfl, rfl, by omega⟩), List.drop_zero]
   unfold rise
   rw [show (nosP l).length = l.length by unfold nosP; simp]
   cases (List.range l.length).all (riseI (nosP l)) <;> rfl
 ·cases hq

def rdF (s : List UInt8) : Nat → Nat → List WFd → Option (List WFd)
 | 0, a, o => if a < s.length then none else some o
 | f + 1, a, o => if a < s.length then (if (tfAt s a).2.2.2 = true ∧ o.length ≠ 40 then rdF s f (tfAt s a).2.2.1.toNat (o ++ [(tfAt s a).1]) else none) else some o
def rdfP (s : List UInt8) : Option (List WFd) := rdF s s.length 0 []
def rdfQ (s : List UInt8) : Option (List WFd) := if s.length ≤ 400 then rdfP s else none
def risF (s : List UInt8) : Option (List WFd) := match rdfQ s with | some l => (if rise (nosF l) = true then some l else none) | none => none
def rdfE : LoopEnt := ⟨76, [0,4,5], [4], [2,3], fun
 | ([.s s, .ref 0 0 n, .i .i64 a], [some (.row false none (.pair (.int .i64) (.pair (.int .i64) (.pair (.int .i64) (.pair .str .unit)))) o)]) => .need (decide (0 ≤ a ∧ a.toNat ≤ s.length ∧ s.length ≤ 4000000000 ∧ n = o.length ∧ o.length ≤ a.toNat)) (.br (rdF s (s.length - a.toNat) a.toNat o).isSome (.leaf (.exit 0, ([.ref 0 0 ((rdF s (s.length - a.toNat) a.toNat o).getD []).length], [some (.row false none (.pair (.int .i64) (.pair (.int .i64) (.pair (.int .i64) (.pair .str .unit)))) ((rdF s (s.length - a.toNat) a.toNat o).getD []))]))) (.leaf (.ret, ([.ref 0 0 0, .b false], [some (.row false none (.pair (.int .i64) (.pair (.int .i64) (.pair (.int .i64) (.pair .str .unit)))) [])]))))
 | _ => .no⟩
def rdfG : List V → List Blk → Br (V × List (Option Blk))
 | [.s s], [] => .need (decide (s.length ≤ 4000000000)) (.leaf (.tup [.ref 0 0 ((rdfP s).getD []).length, .b (rdfP s).isSome], [some (.row false none (.pair (.int .i64) (.pair (.int .i64) (.pair (.int .i64) (.pair .str .unit)))) ((rdfP s).getD []))]))
 | _, _ => .no
abbrev Lqb0 : FuncId → Option Ent := look [(210, .rd1 tvsG), (211, .rd1 unfG), (212, .rd1 fieldG)]
theorem rdf_round (s : List UInt8) (n : Nat) (a : Int) (o : List WFd) : roundK Tryz.prog Lqb0 (look [(3, rdfE)]) 0 (body Tryz.f179 0) rdfE ([.s s, .ref 0 0 n, .j a], [some (.row false none FCd o)]) =
 ((ifB (decide (a < (↑s.length : Int))) (ifT (decide ((0 : Int) ≤ a ∧ s.length ≤ (4000000000 : Nat) ∧ a ≤ (4000000000 : Int))) (ifB (!tvI3 (tvAt s a.toNat)) (some (Ex.ret,
 [V.ref 0 0 0, V.b false], [some (Blk.row false none FCd (nilT FCd.den))])) (ifT (decide ((0 : Int) ≤ tvS2 a.toNat (tvAt s a.toNat) ∧ s.length ≤ (4000000000 : Nat) ∧ tvS2
 a.toNat (tvAt s a.toNat) ≤ (4000000000 : Int))) (ifB (!tvI3 (tvAt s (tvS2 a.toNat (tvAt s a.toNat)).toNat)) (some (Ex.ret, [V.ref 0 0 0, V.b false], [some (Blk.row false
 none FCd (nilT FCd.den))])) (ifB ((tvS1 (tvAt s a.toNat)).tmod (8 : Int) == (0 : Int)) (ifT (decide ((0 : Int) ≤ tvS1 (tvAt s (tvS2 a.toNat (tvAt s a.toNat)).toNat) ∧
 tvS1 (tvAt s (tvS2 a.toNat (tvAt s a.toNat)).toNat) ≤ (1000000000000 : Int))) (ifB (!fieldB (IntKind.i64.wrap ((tvS1 (tvAt s a.toNat)).tdiv (8 : Int)), (tvS1 (tvAt s
 a.toNat)).tmod (8 : Int), unf (tvS1 (tvAt s (tvS2 a.toNat (tvAt s a.toNat)).toNat)), nilT UInt8, ())) (some (Ex.ret, [V.ref 0 0 0, V.b false], [some (Blk.row false none
 FCd (nilT FCd.den))])) (ifB ((↑n : Int) == (40 : Int)) (some (Ex.ret, [V.ref 0 0 0, V.b false], [some (Blk.row false none FCd (nilT FCd.den))])) (ifT (decide ((n + (1 :
 Nat)) * (40 : Nat) ≤ (140737488355328 : Nat)) && decide (n + (1 : Nat) ≤ maxI)) (some (Ex.normal, [V.s s, V.ref 0 0 (n + (1 : Nat)), V.j (tvS2 (tvS2 a.toNat (tvAt s
 a.toNat)).toNat (tvAt s (tvS2 a.toNat (tvAt s a.toNat)).toNat))], [some (Blk.row false none FCd (List.take n (List.drop (0 : Nat) o) ++ (IntKind.i64.wrap ((tvS1 (tvAt s
 a.toNat)).tdiv (8 : Int)), (tvS1 (tvAt s a.toNat)).tmod (8 : Int), unf (tvS1 (tvAt s (tvS2 a.toNat (tvAt s a.toNat)).toNat)), nilT UInt8, ()) :: nilT FCd.den))]))))))
 (ifB (decide (tvS1 (tvAt s (tvS2 a.toNat (tvAt s a.toNat)).toNat) > IntKind.i64.wrap ((↑s.length : Int) - tvS2 (tvS2 a.toNat (tvAt s a.toNat)).toNat (tvAt s (tvS2 a.toNat
 (tvAt s a.toNat)).toNat)))) (some (Ex.ret, [V.ref 0 0 0, V.b false], [some (Blk.row false none FCd (nilT FCd.den))])) (ifT (decide ((0 : Int) ≤ tvS2 (tvS2 a.toNat (tvAt s
 a.toNat)).toNat (tvAt s (tvS2 a.toNat (tvAt s a.toNat)).toNat)) && decide (tvS2 (tvS2 a.toNat (tvAt s a.toNat)).toNat (tvAt s (tvS2 a.toNat (tvAt s a.toNat)).toNat) ≤
 IntKind.i64.wrap (tvS2 (tvS2 a.toNat (tvAt s a.toNat)).toNat (tvAt s (tvS2 a.toNat (tvAt s a.toNat)).toNat) + tvS1 (tvAt s (tvS2 a.toNat (tvAt s a.toNat)).toNat))) &&
 decide (IntKind.i64.wrap (tvS2 (tvS2 a.toNat (tvAt s a.toNat)).toNat (tvAt s (tvS2 a.toNat (tvAt s a.toNat)).toNat) + tvS1 (tvAt s (tvS2 a.toNat (tvAt s a.toNat)).toNat))
 ≤ (↑s.length : Int))) (ifB (!fieldB (IntKind.i64.wrap ((tvS1 (tvAt s a.toNat)).tdiv (8 : Int)), (tvS1 (tvAt s a.toNat)).tmod (8 : Int), (0 : Int), List.take
 ((IntKind.i64.wrap (tvS2 (tvS2 a.toNat (tvAt s a.toNat)).toNat (tvAt s (tvS2 a.toNat (tvAt s a.toNat)).toNat) + tvS1 (tvAt s (tvS2 a.toNat (tvAt s
 a.toNat)).toNat))).toNat - (tvS2 (tvS2 a.toNat (tvAt s a.toNat)).toNat (tvAt s (tvS2 a.toNat (tvAt s a.toNat)).toNat)).toNat) (List.drop (tvS2 (tvS2 a.toNat (tvAt s
 a.toNat)).toNat (tvAt s (tvS2 a.toNat (tvAt s a.toNat)).toNat)).toNat s), ())) (some (Ex.ret, [V.ref 0 0 0, V.b false], [some (Blk.row false none FCd (nilT FCd.den))]))
 (ifB ((↑n : Int) == (40 : Int)) (some (Ex.ret, [V.ref 0 0 0, V.b false], [some (Blk.row false none FCd (nilT FCd.den))])) (ifT (decide ((n + (1 : Nat)) * (40 : Nat) ≤
 (140737488355328 : Nat)) && decide (n + (1 : Nat) ≤ maxI)) (some (Ex.normal, [V.s s, V.ref 0 0 (n + (1 : Nat)), V.j (IntKind.i64.wrap (tvS2 (tvS2 a.toNat (tvAt s
 a.toNat)).toNat (tvAt s (tvS2 a.toNat (tvAt s a.toNat)).toNat) + tvS1 (tvAt s (tvS2 a.toNat (tvAt s a.toNat)).toNat)))], [some (Blk.row false none FCd (List.take n
 (List.drop (0 : Nat) o) ++ (IntKind.i64.wrap ((tvS1 (tvAt s a.toNat)).tdiv (8 : Int)), (tvS1 (tvAt s a.toNat)).tmod (8 : Int), (0 : Int), List.take ((IntKind.i64.wrap
 (tvS2 (tvS2 a.toNat (tvAt s a.toNat)).toNat (tvAt s (tvS2 a.toNat (tvAt s a.toNat)).toNat) + tvS1 (tvAt s (tvS2 a.toNat (tvAt s a.toNat)).toNat))).toNat - (tvS2 (tvS2
 a.toNat (tvAt s a.toNat)).toNat (tvAt s (tvS2 a.toNat (tvAt s a.toNat)).toNat)).toNat) (List.drop (tvS2 (tvS2 a.toNat (tvAt s a.toNat)).toNat (tvAt s (tvS2 a.toNat (tvAt
 s a.toNat)).toNat)).toNat s), ()) :: nilT FCd.den))])))))))))))) (some (Ex.exit 0, [V.ref 0 0 n], [some (Blk.row false none FCd o)]))) : _) := by kernel_rfl
theorem rdf_tree (s : List UInt8) : funC Tryz.prog Lqb0 (look [(3, rdfE)]) Tryz.f179 [.s s] [] =
 ((ifT (decide ((0 : Int) ≤ (0 : Int) ∧ (0 : Nat) ≤ s.length ∧ s.length ≤ (4000000000 : Nat) ∧ (0 : Nat) = (0 : Nat) ∧ (0 : Nat) ≤ (0 : Nat))) (ifB (rdF s (s.length - (0 :
 Nat)) (0 : Nat) (nilT FCd.den)).isSome (some (V.tup [V.ref 0 0 ((rdF s (s.length - (0 : Nat)) (0 : Nat) (nilT FCd.den)).getD (nilT WFd)).length, V.b true], [some (Blk.row
 false none FCd ((rdF s (s.length - (0 : Nat)) (0 : Nat) (nilT FCd.den)).getD (nilT WFd)))])) (some (V.tup [V.ref 0 0 0, V.b false], [some (Blk.row false none FCd (nilT
 FCd.den))])))) : _) := by kernel_rfl
theorem rdF_map (s : List UInt8) : ∀ (f a : Nat) (o : List Pl), rdF s f a (o.map (·.1)) = (rdL s f a o).map (fun l => l.map (·.1))
 | 0, a, o => by
  rw [rdF, rdL]
  split <;> rfl
 | f + 1, a, o => by
  rw [rdF, rdL, List.length_map]
  split
  ·split
   ·have := rdF_map s f (tfAt s a).2.2.1.toNat (o ++ [((tfAt s a).1, (a : Int), ())])
    rw [List.map_append] at this
    exact this
   ·rfl
  ·rfl
theorem rdF_fuel (s : List UInt8) : ∀ (f f' a : Nat) (o : List WFd), s.length - a ≤ f → s.length - a ≤ f' → rdF s f a o = rdF s f' a o := by
 intro f f' a o h1 h2
 have e : o = (o.map (fun x => ((x, 0, ()) : Pl))).map (·.1) := by rw [List.map_map]; exact (List.map_id' o).symm
 rw [e, rdF_map, rdF_map, rdL_fuel s f f' a _ h1 h2]
theorem rdF_step {s : List UInt8} {a : Nat} {o : List WFd} (h : a < s.length) (h1 : (tfAt s a).2.2.2 = true) (h2 : o.length ≠ 40) : rdF s (s.length - a) a o = rdF s (s.length - (tfAt s a).2.2.1.toNat) (tfAt s a).2.2.1.toNat (o ++ [(tfAt s a).1]) := by
 have e : s.length - a = (s.length - a - 1) + 1 := by omega
 have ht := tf_ok h1
 rw [e, rdF, if_pos h, if_pos ⟨h1, h2⟩]
 exact rdF_fuel s _ _ _ _ (by omega) (by omega)
theorem rdF_bad {s : List UInt8} {a : Nat} {o : List WFd} (h : a < s.length) (h1 : (tfAt s a).2.2.2 = false ∨ o.length = 40) : rdF s (s.length - a) a o = none := by
 have e : s.length - a = (s.length - a - 1) + 1 := by omega
 rw [e, rdF, if_pos h, if_neg]
 rintro ⟨h2, h3⟩
 rcases h1 with h1 | h1
 ·rw [h1] at h2; cases h2
 ·exact h3 h1
theorem rdF_end {s : List UInt8} {a : Nat} {o : List WFd} (h : s.length ≤ a) : rdF s (s.length - a) a o = some o := by
 have e : s.length - a = 0 := by omega
 rw [e, rdF, if_neg (by omega)]
theorem tvS_eq {a : Nat} {x : Option (Nat × Nat × Bool)} (h : tvI3 x = true) : tvS1 x = tvI1 x ∧ tvS2 a x = tvI2 a x := by
 match x, h with
 | some (n, k, true), _ => exact ⟨rfl, rfl⟩
theorem tf_bad1 {s : List UInt8} {a : Nat} (h : tvI3 (tvAt s a) = false) : (tfAt s a).2.2.2 = false := by
 unfold tfAt; dsimp only; rw [if_pos h]
theorem tf_bad2 {s : List UInt8} {a : Nat} (h : tvI3 (tvAt s a) = true) (h2 : tvI3 (tvAt s (tvI2 a (tvAt s a)).toNat) = false) : (tfAt s a).2.2.2 = false := by
 unfold tfAt; dsimp only; rw [if_neg (by rw [h]; simp)]
 split
 ·have : (tbAt s (tvI2 a (tvAt s a)).toNat).2.2 = false := by unfold tbAt; dsimp only; rw [if_neg (fun hh => by rw [h2] at hh; cases hh.1)]
  dsimp only
  rw [this]; rfl
 ·dsimp only
  rw [h2]; rfl
theorem tf_num {s : List UInt8} {a : Nat} (h : tvI3 (tvAt s a) = true) (h2 : tvI3 (tvAt s (tvI2 a (tvAt s a)).toNat) = true) (h0 : tvI1 (tvAt s a) % 8 = 0) : tfAt s a = ((tvI1 (tvAt s a) / 8, 0, unf (tvI1 (tvAt s (tvI2 a (tvAt s a)).toNat)), [], ()), (a : Int), tvI2 (tvI2 a (tvAt s a)).toNat (tvAt s (tvI2 a (tvAt s a)).toNat), fieldB (tvI1 (tvAt s a) / 8, 0, unf (tvI1 (tvAt s (tvI2 a (tvAt s a)).toNat)), [], ())) := by
 unfold tfAt; dsimp only; rw [if_neg (by rw [h]; simp), if_neg (by omega), h0, h2, Bool.true_and]
theorem tf_byt {s : List UInt8} {a : Nat} (h : tvI3 (tvAt s a) = true) (h2 : tvI3 (tvAt s (tvI2 a (tvAt s a)).toNat) = true) (h0 : tvI1 (tvAt s a) % 8 = 2) (hn : tvI1 (tvAt s (tvI2 a (tvAt s a)).toNat) ≤ s.length - tvI2 (tvI2 a (tvAt s a)).toNat (tvAt s (tvI2 a (tvAt s a)).toNat)) :
  tfAt s a = ((tvI1 (tvAt s a) / 8, 2, 0, (s.drop (tvI2 (tvI2 a (tvAt s a)).toNat (tvAt s (tvI2 a (tvAt s a)).toNat)).toNat).take (tvI1 (tvAt s (tvI2 a (tvAt s a)).toNat)).toNat, ()), (a : Int), tvI2 (tvI2 a (tvAt s a)).toNat (tvAt s (tvI2 a (tvAt s a)).toNat) + tvI1 (tvAt s (tvI2 a (tvAt s a)).toNat), fieldB (tvI1 (tvAt s a) / 8, 2, 0, (s.drop (tvI2 (tvI2 a (tvAt s a)).toNat (tvAt s (tvI2 a (tvAt s a)).toNat)).toNat).take (tvI1 (tvAt s (tvI2 a (tvAt s a)).toNat)).toNat, ())) := by
 have : tbAt s (tvI2 a (tvAt s a)).toNat = ((s.drop (tvI2 (tvI2 a (tvAt s a)).toNat (tvAt s (tvI2 a (tvAt s a)).toNat)).toNat).take (tvI1 (tvAt s (tvI2 a (tvAt s a)).toNat)).toNat, tvI2 (tvI2 a (tvAt s a)).toNat (tvAt s (tvI2 a (tvAt s a)).toNat) + tvI1 (tvAt s (tvI2 a (tvAt s a)).toNat), true) := by unfold tbAt; dsimp only; rw [if_pos ⟨h2, hn⟩]
 unfold tfAt; dsimp only; rw [if_neg (by rw [h]; simp), if_pos h0, this, Bool.true_and]
theorem tf_long {s : List UInt8} {a : Nat} (h : tvI3 (tvAt s a) = true) (h0 : tvI1 (tvAt s a) % 8 ≠ 0) (hn : ¬ tvI1 (tvAt s (tvI2 a (tvAt s a)).toNat) ≤ s.length - tvI2 (tvI2 a (tvAt s a)).toNat (tvAt s (tvI2 a (tvAt s a)).toNat)) : (tfAt s a).2.2.2 = false := by
 unfold tfAt; dsimp only; rw [if_neg (by rw [h]; simp)]
 split
 ·have : (tbAt s (tvI2 a (tvAt s a)).toNat).2.2 = false := by unfold tbAt; dsimp only; rw [if_neg (fun hh => hn hh.2)]
  dsimp only
  rw [this]; rfl
 ·rename_i h2
  dsimp only
  unfold fieldB
  dsimp only
  rw [if_neg h0, if_neg h2, Bool.and_false, Bool.and_false]
theorem tf_kind {s : List UInt8} {a : Nat} (h : tvI3 (tvAt s a) = true) (h0 : tvI1 (tvAt s a) % 8 ≠ 0) (h2 : tvI1 (tvAt s a) % 8 ≠ 2) : (tfAt s a).2.2.2 = false ∧ ∀ x y z, fieldB (x, tvI1 (tvAt s a) % 8, y, z, ()) = false := by
 have hb : ∀ x y z, fieldB (x, tvI1 (tvAt s a) % 8, y, z, ()) = false := fun x y z => by
  unfold fieldB
  dsimp only
  rw [if_neg h0, if_neg h2, Bool.and_false]
 refine ⟨?_, hb⟩
 unfold tfAt; dsimp only; rw [if_neg (by rw [h]; simp), if_neg h2]
 dsimp only
 rw [hb, Bool.and_false]
theorem rdf_one (s : List UInt8) (a : Nat) (o : List WFd) (hs : s.length ≤ 4000000000) (ha : a < s.length) (ho : o.length ≤ a) :
  roundK Tryz.prog Lqb0 (look [(3, rdfE)]) 0 (body Tryz.f179 0) rdfE ([.s s, .ref 0 0 o.length, .j (a : Int)], [some (.row false none FCd o)]) = if (tfAt s a).2.2.2 = true ∧ o.length ≠ 40 then some (.normal, ([.s s, .ref 0 0 (o ++ [(tfAt s a).1]).length, .j (tfAt s a).2.2.1], [some (.row false none FCd (o ++ [(tfAt s a).1]))])) else some (.ret, ([.ref 0 0 0, .b false], [some (.row false none FCd [])])) := by
 rw [rdf_round]
 have hM : maxI = 9223372036854775807 := rfl
 obtain ⟨⟨u1, u2⟩, u3, u4⟩ := tv_any s a
 rw [ifB_true (dcT (by omega)), ifT_true (dcT (by omega)), ntN]
 cases hk : tvI3 (tvAt s a) with
 | false => rw [Bool.not_false, ifB_t, if_neg (fun h => by rw [tf_bad1 hk] at h; cases h.1)]
 | true =>
  obtain ⟨e1, e2⟩ := tvS_eq (a := a) hk
  rw [Bool.not_true, ifB_f]
  simp only [e1, e2]
  obtain ⟨⟨v1, v2⟩, v3, v4⟩ := tv_any s (tvI2 a (tvAt s a)).toNat
  rw [ifT_true (dcT ⟨u3, hs, by omega⟩)]
  cases hk2 : tvI3 (tvAt s (tvI2 a (tvAt s a)).toNat) with
  | false => rw [Bool.not_false, ifB_t, if_neg (fun h => by rw [tf_bad2 hk hk2] at h; cases h.1)]
  | true =>
   obtain ⟨e3, e4⟩ := tvS_eq (a := (tvI2 a (tvAt s a)).toNat) hk2
   rw [Bool.not_true, ifB_f]
   have m1 : Int.tdiv (tvI1 (tvAt s a)) 8 = tvI1 (tvAt s a) / 8 := Int.tdiv_eq_ediv_of_nonneg u1
   have m2 : Int.tmod (tvI1 (tvAt s a)) 8 = tvI1 (tvAt s a) % 8 := Int.tmod_eq_emod_of_nonneg u1
   have m3 : IntKind.i64.wrap (tvI1 (tvAt s a) / 8) = tvI1 (tvAt s a) / 8 := wrap_id (by omega) (by omega)
   have m4 : IntKind.i64.wrap ((s.length : Int) - tvI2 (tvI2 a (tvAt s a)).toNat (tvAt s (tvI2 a (tvAt s a)).toNat)) = (s.length : Int) - tvI2 (tvI2 a (tvAt s a)).toNat (tvAt s (tvI2 a (tvAt s a)).toNat) := wrap_id (by omega) (by omega)
   have m5 : IntKind.i64.wrap (tvI2 (tvI2 a (tvAt s a)).toNat (tvAt s (tvI2 a (tvAt s a)).toNat) + tvI1 (tvAt s (tvI2 a (tvAt s a)).toNat)) = tvI2 (tvI2 a (tvAt s a)).toNat (tvAt s (tvI2 a (tvAt s a)).toNat) + tvI1 (tvAt s (tvI2 a (tvAt s a)).toNat) := wrap_id (by omega) (by omega)
   simp only [e3, e4, m1, m2, m3, m4, m5, List.drop_zero, List.take_length, nilT_eq]
   have hlen : (decide ((o.length + 1) * 40 ≤ 140737488355328) && decide (o.length + 1 ≤ maxI)) = true := by simp only [anE, dcE]; omega
   by_cases q0 : tvI1 (tvAt s a) % 8 = 0
   ·rw [ifB_true (by simpa using q0), ifT_true (dcT ⟨v1, by omega⟩), q0]
    have ht := tf_num hk hk2 q0
    cases hf : fieldB (tvI1 (tvAt s a) / 8, 0, unf (tvI1 (tvAt s (tvI2 a (tvAt s a)).toNat)), [], ()) with
    | false => rw [Bool.not_false, ifB_t, if_neg (fun h => by rw [ht] at h; have := h.1; rw [hf] at this; cases this)]
    | true =>
     rw [Bool.not_true, ifB_f]
     by_cases q2 : o.length = 40
     ·rw [ifB_true (by rw [q2]; rfl), if_neg (fun h => h.2 q2)]
     ·rw [ifB_false (by simpa using fun e => q2 (by omega)), ifT_true hlen, if_pos ⟨by rw [ht]; exact hf, q2⟩, ht, List.length_append]; rfl
   ·rw [ifB_false (by simpa using q0)]
    by_cases qn : tvI1 (tvAt s (tvI2 a (tvAt s a)).toNat) ≤ s.length - tvI2 (tvI2 a (tvAt s a)).toNat (tvAt s (tvI2 a (tvAt s a)).toNat)
    rotate_left
    ·rw [ifB_true (dcT (by omega)), if_neg (fun h => by rw [tf_long hk q0 qn] at h; cases h.1)]
    rw [ifB_false (dcF (by omega)), ifT_true (by simp only [anE, dcE]; omega)]
    have e5 : (tvI2 (tvI2 a (tvAt s a)).toNat (tvAt s (tvI2 a (tvAt s a)).toNat) + tvI1 (tvAt s (tvI2 a (tvAt s a)).toNat)).toNat - (tvI2 (tvI2 a (tvAt s a)).toNat (tvAt s (tvI2 a (tvAt s a)).toNat)).toNat = (tvI1 (tvAt s (tvI2 a (tvAt s a)).toNat)).toNat := by omega
    rw [e5]
    by_cases qk : tvI1 (tvAt s a) % 8 = 2
    rotate_left
    ·obtain ⟨b1, b2⟩ := tf_kind hk q0 qk
     rw [b2, Bool.not_false, ifB_t, if_neg (fun h => by rw [b1] at h; cases h.1)]
    have ht := tf_byt hk hk2 qk qn
    rw [qk]
    cases hf : fieldB (tvI1 (tvAt s a) / 8, 2, 0, (s.drop (tvI2 (tvI2 a (tvAt s a)).toNat (tvAt s (tvI2 a (tvAt s a)).toNat)).toNat).take (tvI1 (tvAt s (tvI2 a (tvAt s a)).toNat)).toNat, ()) with
    | false => rw [Bool.not_false, ifB_t, if_neg (fun h => by rw [ht] at h; have := h.1; rw [hf] at this; cases this)]
    | true =>
     rw [Bool.not_true, ifB_f]
     by_cases q2 : o.length = 40
     ·rw [ifB_true (by rw [q2]; rfl), if_neg (fun h => h.2 q2)]
     ·rw [ifB_false (by simpa using fun e => q2 (by omega)), ifT_true hlen, if_pos ⟨by rw [ht]; exact hf, q2⟩, ht, List.length_append]; rfl
theorem rdf_loop (s : List UInt8) (hs : s.length ≤ 4000000000) : ∀ (j a : Nat) (o : List WFd), s.length - a ≤ j → a ≤ s.length → o.length ≤ a → ∀ ex d, (Br.br (rdF s (s.length - a) a o).isSome (.leaf (.exit 0, ([.ref 0 0 ((rdF s (s.length - a) a o).getD []).length], [some (.row false none FCd ((rdF s (s.length - a) a o).getD []))]))) (.leaf (.ret, ([.ref 0 0 0, .b false], [some (.row false none FCd [])]))) : Br (Ex × Dt)).run = some (ex, d) →
  Runs Tryz.prog Lqb0 (look [(3, rdfE)]) 0 (body Tryz.f179 0) rdfE ([.s s, .ref 0 0 o.length, .j (a : Int)], [some (.row false none FCd o)]) ex d := by
 intro j
 have fin : ∀ (a : Nat) (o : List WFd), a = s.length → ∀ ex d, (Br.br (rdF s (s.length - a) a o).isSome (.leaf (.exit 0, ([.ref 0 0 ((rdF s (s.length - a) a o).getD []).length], [some (.row false none FCd ((rdF s (s.length - a) a o).getD []))]))) (.leaf (.ret, ([.ref 0 0 0, .b false], [some (.row false none FCd [])]))) : Br (Ex × Dt)).run = some (ex, d) → Runs Tryz.prog Lqb0 (look [(3, rdfE)]) 0 (body Tryz.f179 0) rdfE ([.s s, .ref 0 0 o.length, .j (a : Int)], [some (.row false none FCd o)]) ex d := fun a o ha ex d h => by
  have hr := rdf_round s o.length a o
  rw [ifB_false (dcF (by omega))] at hr
  rw [rdF_end (by omega)] at h
  have h8 := leaf_some (show (Br.leaf (.exit 0, ([.ref 0 0 o.length], [some (.row false none FCd o)])) : Br (Ex × Dt)).run = some (ex, d) from h)
  obtain ⟨rfl, rfl⟩ := Prod.mk.inj h8
  exact .stop _ _ _ hr (by simp)
 induction j with
 | zero => exact fun a o hj ha ho ex d h => fin a o (by omega) ex d h
 | succ j ih =>
  intro a o hj ha ho ex d h
  by_cases q : a < s.length
  rotate_left
  ·exact fin a o (by omega) ex d h
  have hr := rdf_one s a o hs q ho
  by_cases q2 : (tfAt s a).2.2.2 = true ∧ o.length ≠ 40
  ·obtain ⟨t1, t2, t3, t4⟩ := tf_ok q2.1
   rw [if_pos q2] at hr
   rw [rdF_step q q2.1 q2.2] at h
   obtain ⟨b, hb⟩ := Int.eq_ofNat_of_zero_le (a := (tfAt s a).2.2.1) (by omega)
   rw [hb] at hr h t2 t3
   rw [ntN] at h
   exact .step _ _ _ _ hr (ih b (o ++ [(tfAt s a).1]) (by omega) (by omega) (by simp; omega) ex d h)
  ·rw [if_neg q2] at hr
   rw [rdF_bad q (by
    cases e : (tfAt s a).2.2.2 with
    | false => exact .inl rfl
    | true => exact .inr (by by_cases e2 : o.length = 40; exact e2; exact absurd ⟨e, e2⟩ q2))] at h
   have h8 := leaf_some (show (Br.leaf (.ret, ([.ref 0 0 0, .b false], [some (.row false none FCd [])])) : Br (Ex × Dt)).run = some (ex, d) from h)
   obtain ⟨rfl, rfl⟩ := Prod.mk.inj h8
   exact .stop _ _ _ hr (by simp)
theorem rdf_ok : LoopsOk Tryz.prog Lqb0 (look [(3, rdfE)]) 0 (Tryz.f179.body.getD .skip) := by
 refine loopsOk_one (a := body Tryz.f179 0) (by kernel_rfl) fun d ex d' h => ?_
 unfold rdfE at h
 dsimp only at h
 split at h
 ·rename_i s n a o
  obtain ⟨hc, hx⟩ := need_some h
  clear h
  obtain ⟨h0, h1, h2, rfl, h4⟩ := of_decide_eq_true hc
  obtain ⟨a, rfl⟩ := Int.eq_ofNat_of_zero_le h0
  simp only [ntN] at h1 h4 hx
  exact rdf_loop s h2 _ a o (Nat.le_refl _) h1 h4 ex d' hx
 ·cases h
theorem rdf : Contract Tryz.prog 179 (Ent.rd1 rdfG).F := by
 refine fun_contractC' (KnowsL.cons (enters_fn Tryz.func210 (by kernel_rfl) (by kernel_rfl)) tvs (KnowsL.cons (enters_fn Tryz.func211 (by kernel_rfl) (by kernel_rfl)) sunf (KnowsL.cons (enters_fn Tryz.func212 (by kernel_rfl) (by kernel_rfl)) sfield KnowsL.nil))).knows (Λ := (look [(3, rdfE)])) Tryz.func179 (c := Tryz.f179.body.getD .skip) (by kernel_rfl) fun vs bs r hq hv hb => ?_
 unfold Ent.F rdfG at hq
 dsimp only at hq
 split at hq
 ·rename_i s
  obtain ⟨hc, hx⟩ := need_some hq
  have hc := of_decide_eq_true hc
  refine ⟨rdf_ok, Eq.trans ?_ hx⟩
  rw [rdf_tree]
  unfold rdfP
  rw [ifT_true (dcT ⟨by omega, by omega, hc, rfl, by omega⟩), Nat.sub_zero]
  simp only [nilT_eq]
  cases rdF s s.length 0 [] <;> rfl
 ·cases hq
theorem rdf_eq (s : List UInt8) : rdfQ s = (rdP s).map (fun l => l.map (·.1)) := by
 unfold rdfQ rdP rdfP
 split
 ·exact rdF_map s s.length 0 []
 ·rfl
theorem risF_eq (s : List UInt8) : risF s = (risP s).map (fun l => l.map (·.1)) := by
 unfold risF risP
 rw [rdf_eq]
 cases rdP s with
 | none => rfl
 | some l =>
  dsimp only [Option.map_some]
  have e : nosF (l.map (·.1)) = nosP l := by unfold nosF nosP; rw [List.map_map]; rfl
  rw [e]
  split <;> rfl
def fkB (z : Rose Lab) : Bool := z.lab.1 == 1 || z.lab.1 == 3
def decNum (z : Rose Lab) (n no : Int) : Option (Rose VLab) := if numB n = true ∧ (z.lab.1 = 1 ∨ (0 ≤ n ∧ n ≤ z.lab.2.2.2.2.1)) then some (.node (n, [], no, false, ()) []) else none
def decI (num : Bool) (N : Int → Option (Rose VLab)) (D : List UInt8 → Option (Rose VLab)) (s : List UInt8) : Nat → Nat → Option (List (Rose VLab))
 | 0, a => if a < s.length then none else some []
 | f + 1, a => if a < s.length then (match num with
  | true => (match N (unf (tvI1 (tvAt s a))) with
   | some v => if tvI3 (tvAt s a) = true then (decI num N D s f (tvI2 a (tvAt s a)).toNat).map (v :: ·) else none
   | none => none)
  | false => (match (tbAt s a).2.2 with
   | true => (match D (tbAt s a).1 with
    | some v => (decI num N D s f (tbAt s a).2.1.toNat).map (v :: ·)
    | none => none)
   | false => none)) else some []
mutual
def decR : Rose Lab → List UInt8 → Int → Option (Rose VLab)
 | .node x ks, s, no =>
  if x.1 = 2 then (if s.length ≤ 30 then some (.node (0, s, no, false, ()) []) else none)
  else if x.1 = 4 then (decH ks s).map fun vs => .node (0, [], no, true, ()) vs
  else (match risF s with
   | some fs => (decM ks fs).map fun vs => .node (0, [], no, true, ()) vs
   | none => none)
def decH : List (Rose Lab) → List UInt8 → Option (List (Rose VLab))
 | [], _ => none
 | z :: _, s => decI (fkB z) (fun n => decNum z n 0) (fun d => decR z d 0) s s.length 0
def decM : List (Rose Lab) → List WFd → Option (List (Rose VLab))
 | [], _ => some []
 | p :: ks, fs => match fs.find? fun f => f.1 == p.lab.2.2.1 with
  | none => if p.lab.2.2.2.1 = true then none else decM ks fs
  | some f => if (f.2.1 == 0) = fkB p then (match (if (f.2.1 == 0) = true then decNum p f.2.2.1 p.lab.2.2.1 else decR p f.2.2.2.1 p.lab.2.2.1) with
   | some v => (decM ks fs).map (v :: ·)
   | none => none) else none
end
def decF (p : Rose Lab) (f : WFd) : Option (Rose VLab) := if (f.2.1 == 0) = fkB p then (if (f.2.1 == 0) = true then decNum p f.2.2.1 f.1 else decR p f.2.2.2.1 f.1) else none
def decS (ks : List (Rose Lab)) : List WFd → Option (List (Rose VLab))
 | [] => some []
 | f :: fs => if hasNo f.1 ks = true then (match decF (byR f.1 ks) f with
  | some v => (decS ks fs).map (v :: ·)
  | none => none) else decS ks fs
def kfkG : List V → List Blk → Br (V × List (Option Blk))
 | [.tp (.pair (.int .i64) (.pair .str (.pair (.int .i64) (.pair .bool (.pair (.int .i64) .unit))))) z 0], [] => .leaf (.i .i64 (if fkB z = true then 0 else 2), [])
 | _, _ => .no
def dnumG : List V → List Blk → Br (V × List (Option Blk))
 | [.tp (.pair (.int .i64) (.pair .str (.pair (.int .i64) (.pair .bool (.pair (.int .i64) .unit))))) z 0, .ref 0 0 m, .i .i64 n, .i .i64 no, .i .i64 up], [.row false nl (.pair (.int .i64) (.pair .str (.pair (.int .i64) (.pair (.int .i64) (.pair .bool .unit))))) o] => .need (decide (m = o.length ∧ o.length ≤ 2000000)) (.leaf (.tup [.ref 1 0 (o.length + 1), .b (decNum z n no).isSome], [none, some (.row false none (.pair (.int .i64) (.pair .str (.pair (.int .i64) (.pair (.int .i64) (.pair .bool .unit))))) (o ++ [(n, [], no, up, false, ())]))]))
 | _, _ => .no
def decC : List V → List Blk → Br (V × List (Option Blk))
 | [.agg [.i .i64 fo, .i .i64 fk, .i .i64 fn, .s fd, .i .i64 fr], .bx [.tp (.pair (.int .i64) (.pair .str (.pair (.int .i64) (.pair .bool (.pair (.int .i64) .unit))))) p 0] 0], [] => .leaf (.b (fo == p.lab.2.2.1), [])
 | _, _ => .no
def dfE  : LoopEnt := ⟨19, [0,1,4,7,8], [], [4], fun
 | ([.sl (.pair (.pair (.int .i64) (.pair (.int .i64) (.pair (.int .i64) (.pair .str .unit)))) (.pair (.int .i64) .unit)) l, .fn 190 [] [.ptr 0 0], .i .i64 r, .i .i64 k, .i .i64 i], [some (.box [.tp (.pair (.int .i64) (.pair .str (.pair (.int .i64) (.pair .bool (.pair (.int .i64) .unit))))) p 0])]) =>
  .need (decide (0 ≤ i ∧ i.toNat ≤ l.length ∧ l.length ≤ maxI ∧ k = l.length)) (.br (decide (firstP (fun z : Pl => z.1.1 == p.lab.2.2.1) i.toNat (l.drop i.toNat) < 0)) (.leaf (.exit 0, ([], [some (.box [.tp (.pair (.int .i64) (.pair .str (.pair (.int .i64) (.pair .bool (.pair (.int .i64) .unit))))) p 0])]))) (.leaf (.ret, ([.i .i64 (firstP (fun z : Pl => z.1.1 == p.lab.2.2.1) i.toNat (l.drop i.toNat))], [some (.box [.tp (.pair (.int .i64) (.pair .str (.pair (.int .i64) (.pair .bool (.pair (.int .i64) .unit))))) p 0])]))))
 | _ => .no⟩
def dfiG  : List V → List Blk → Br (V × List (Option Blk))
 | [.sl (.pair (.pair (.int .i64) (.pair (.int .i64) (.pair (.int .i64) (.pair .str .unit)))) (.pair (.int .i64) .unit)) l, .fn 190 [] [.ptr 0 0]], [.box [.tp (.pair (.int .i64) (.pair .str (.pair (.int .i64) (.pair .bool (.pair (.int .i64) .unit))))) p 0]] => .leaf (.i .i64 (firstP (fun z : Pl => z.1.1 == p.lab.2.2.1) 0 l), [some (.box [.tp (.pair (.int .i64) (.pair .str (.pair (.int .i64) (.pair .bool (.pair (.int .i64) .unit))))) p 0])])
 | _, _ => .no

theorem decNum_no {z : Rose Lab} {n no : Int} {v : Rose VLab} (h : decNum z n no = some v) : v.lab.2.2.1 = no := by
 unfold decNum at h
 split at h
 ·cases h; rfl
 ·cases h
theorem decR_no {z : Rose Lab} {s : List UInt8} {no : Int} {v : Rose VLab} (h : decR z s no = some v) : v.lab.2.2.1 = no := by
 obtain ⟨x, ks⟩ := z
 unfold decR at h
 split at h
 ·split at h
  ·cases h; rfl
  ·cases h
 ·split at h
  ·obtain ⟨vs, _, rfl⟩ := Option.map_eq_some_iff.1 h; rfl
  ·split at h
   ·obtain ⟨vs, _, rfl⟩ := Option.map_eq_some_iff.1 h; rfl
   ·cases h
theorem decF_no {p : Rose Lab} {f : WFd} {v : Rose VLab} (h : decF p f = some v) : v.lab.2.2.1 = f.1 := by
 unfold decF at h
 split at h
 ·split at h
  ·exact decNum_no h
  ·exact decR_no h
 ·cases h
theorem decM_cons (p : Rose Lab) (ks : List (Rose Lab)) (fs : List WFd) : decM (p :: ks) fs = (match fs.find? fun f => f.1 == p.lab.2.2.1 with
  | none => if p.lab.2.2.2.1 = true then none else decM ks fs
  | some f => (match decF p f with
   | some v => (decM ks fs).map (v :: ·)
   | none => none)) := by
 rw [decM]
 cases hf : fs.find? (fun f => f.1 == p.lab.2.2.1) with
 | none => rfl
 | some f =>
  have hfe : f.1 = p.lab.2.2.1 := by simpa using List.find?_some hf
  unfold decF
  dsimp only
  rw [← hfe]
  by_cases q : (f.2.1 == 0) = fkB p
  ·rw [if_pos q, if_pos q]; all_goals rfl
  ·rw [if_neg q, if_neg q]
theorem decM_skip {f : WFd} {fs : List WFd} : ∀ {ks : List (Rose Lab)}, (∀ y ∈ ks, y.lab.2.2.1 ≠ f.1) → decM ks (f :: fs) = decM ks fs
 | [], _ => by rw [decM, decM]
 | p :: ks, h => by
  have hp : ¬ (f.1 == p.lab.2.2.1) = true := by have := h p (by simp); simpa using fun e => this e.symm
  rw [decM_cons, decM_cons, List.find?_cons_of_neg (p := fun f : WFd => f.1 == p.lab.2.2.1) hp, decM_skip (fun y hy => h y (List.mem_cons_of_mem _ hy))]
theorem decS_skip {p : Rose Lab} {ks : List (Rose Lab)} : ∀ {fs : List WFd}, (∀ f ∈ fs, f.1 ≠ p.lab.2.2.1) → decS (p :: ks) fs = decS ks fs
 | [], _ => by rw [decS, decS]
 | f :: fs, h => by
  obtain ⟨e1, e2⟩ := hasNo_ne (z := p) (ks := ks) (h f (by simp))
  rw [decS, decS, e1, e2, decS_skip (fun g hg => h g (List.mem_cons_of_mem _ hg))]
theorem decS_nos {ks : List (Rose Lab)} : ∀ {fs : List WFd} {vs : List (Rose VLab)}, decS ks fs = some vs → ∀ v ∈ vs, ∃ f ∈ fs, v.lab.2.2.1 = f.1
 | [], vs, h, v, hv => by rw [decS] at h; cases h; cases hv
 | f :: fs, vs, h, v, hv => by
  rw [decS] at h
  split at h
  ·split at h
   ·rename_i w hw
    obtain ⟨us, h1, rfl⟩ := Option.map_eq_some_iff.1 h
    rcases List.mem_cons.1 hv with rfl | hv
    ·exact ⟨f, by simp, decF_no hw⟩
    ·obtain ⟨g, h2, h3⟩ := decS_nos h1 v hv
     exact ⟨g, List.mem_cons_of_mem _ h2, h3⟩
   ·cases h
  ·obtain ⟨g, h2, h3⟩ := decS_nos h v hv
   exact ⟨g, List.mem_cons_of_mem _ h2, h3⟩
def riseF (a b : WFd) : Prop := a.1 < b.1
theorem dec_both : ∀ (N : Nat) (ks : List (Rose Lab)) (fs : List WFd), ks.length + fs.length ≤ N → ks.Pairwise KR → fs.Pairwise riseF → decM ks fs = (match decS ks fs with | some vs => if mustsB vs ks = true then some vs else none | none => none) := by
 intro N
 induction N with
 | zero =>
  intro ks fs hN _ _
  obtain rfl : ks = [] := List.eq_nil_of_length_eq_zero (by omega)
  obtain rfl : fs = [] := List.eq_nil_of_length_eq_zero (by omega)
  rw [decM, decS]; rfl
 | succ N ih =>
  intro ks fs hN hk hf
  cases fs with
  | nil =>
   have key : ∀ ks : List (Rose Lab), decM ks [] = if mustsB [] ks = true then some [] else none := by
    intro ks
    induction ks with
    | nil => rw [decM]; rfl
    | cons p ks ihk =>
     rw [decM_cons, List.find?_nil, ihk]
     unfold mustsB
     rw [List.all_cons]
     cases p.lab.2.2.2.1 <;> simp [hasVN]
   rw [key, decS]
  | cons f fs =>
   cases ks with
   | nil =>
    have : ∀ fs : List WFd, decS [] fs = some [] := by
     intro fs
     induction fs with
     | nil => rw [decS]
     | cons g fs ihf => rw [decS, ihf]; rfl
    rw [decM, this]; rfl
   | cons p ks =>
    have hk2 := List.pairwise_cons.1 hk
    have hf2 := List.pairwise_cons.1 hf
    simp only [List.length_cons] at hN
    have fgt : ∀ g ∈ fs, f.1 < g.1 := fun g hg => hf2.1 g hg
    have kgt : ∀ y ∈ ks, p.lab.2.2.1 < y.lab.2.2.1 := fun y hy => hk2.1 y hy
    rcases Int.lt_trichotomy f.1 p.lab.2.2.1 with h | h | h
    ·have e1 : ∀ y ∈ p :: ks, y.lab.2.2.1 ≠ f.1 := fun y hy => by
      rcases List.mem_cons.1 hy with rfl | hy
      ·omega
      ·have := kgt y hy; omega
     have e2 : hasNo f.1 (p :: ks) = false := by
      cases e : hasNo f.1 (p :: ks) with
      | false => rfl
      | true => obtain ⟨y, hy, hy2⟩ := hasNo_iff.1 e; exact absurd hy2 (e1 y hy)
     rw [decM_skip e1, decS, e2, ih (p :: ks) fs (by simp only [List.length_cons]; omega) hk hf2.2]
     rfl
    ·have e1 : ∀ y ∈ ks, y.lab.2.2.1 ≠ f.1 := fun y hy => by have := kgt y hy; omega
     have e2 : hasNo f.1 (p :: ks) = true := hasNo_iff.2 ⟨p, by simp, h.symm⟩
     have e3 : byR f.1 (p :: ks) = p := by rw [byR, if_pos h.symm]
     have e4 : ∀ g ∈ fs, g.1 ≠ p.lab.2.2.1 := fun g hg => by have := fgt g hg; omega
     rw [decM_cons, List.find?_cons_of_pos (p := fun f : WFd => f.1 == p.lab.2.2.1) (by simpa using h), decS, if_pos e2, e3, decM_skip e1, decS_skip e4]
     dsimp only
     cases hd : decF p f with
     | none => rfl
     | some v =>
      dsimp only
      rw [ih ks fs (by omega) hk2.2 hf2.2]
      have hv := decF_no hd
      cases hs : decS ks fs with
      | none => rfl
      | some vs =>
       have em : mustsB (v :: vs) (p :: ks) = mustsB vs ks := by
        unfold mustsB
        rw [List.all_cons]
        have e5 : hasVN p.lab.2.2.1 (v :: vs) = true := by unfold hasVN; rw [List.any_cons, hv, h]; simp
        rw [e5, Bool.or_true, Bool.true_and, Bool.eq_iff_iff, List.all_eq_true, List.all_eq_true]
        refine forall_congr' fun y => forall_congr' fun hy => ?_
        have e6 : hasVN y.lab.2.2.1 (v :: vs) = hasVN y.lab.2.2.1 vs := by
         unfold hasVN
         rw [List.any_cons, hv, show (f.1 == y.lab.2.2.1) = false from beq_eq_false_iff_ne.2 (e1 y hy).symm, Bool.false_or]
        rw [e6]
       dsimp only [Option.map]
       rw [em]
       by_cases hm : mustsB vs ks = true
       ·rw [if_pos hm, if_pos hm]
       ·rw [if_neg hm, if_neg hm]
    ·have e4 : ∀ g ∈ f :: fs, g.1 ≠ p.lab.2.2.1 := fun g hg => by
      rcases List.mem_cons.1 hg with rfl | hg
      ·omega
      ·have := fgt g hg; omega
     have e5 : (f :: fs).find? (fun f => f.1 == p.lab.2.2.1) = none := List.find?_eq_none.2 fun g hg => by simpa using e4 g hg
     rw [decM_cons, e5, decS_skip e4]
     dsimp only
     rw [ih ks (f :: fs) (by simp only [List.length_cons]; omega) hk2.2 hf]
     cases hs : decS ks (f :: fs) with
     | none => simp
     | some vs =>
      dsimp only
      have em : mustsB vs (p :: ks) = (!p.lab.2.2.2.1 && mustsB vs ks) := by
       unfold mustsB
       rw [List.all_cons]
       have : hasVN p.lab.2.2.1 vs = false := by
        cases e : hasVN p.lab.2.2.1 vs with
        | false => rfl
        | true =>
         unfold hasVN at e
         obtain ⟨v, hv, hv2⟩ := List.any_eq_true.1 e
         obtain ⟨g, hg, hg2⟩ := decS_nos hs v hv
         have := e4 g hg
         have hv2 : v.lab.2.2.1 = p.lab.2.2.1 := by simpa using hv2
         omega
       rw [this, Bool.or_false]
      rw [em]
      cases p.lab.2.2.2.1 <;> simp
theorem kfk_fun (z : Rose Lab) : funK Tryz.prog (look []) (look []) Tryz.f191 [.tp LCd z 0] [] = some (.j (if fkB z = true then 0 else 2), []) := by
 have e : funK Tryz.prog (look []) (look []) Tryz.f191 [.tp LCd z 0] [] = ((ifB (z.lab.fst == (1 : Int)) (some (V.j 0, [])) (ifB (z.lab.fst == (3 : Int)) (some (V.j 0, [])) (some (V.j 2, [])))) : _) := by kernel_rfl
 rw [e]
 clear e
 unfold fkB
 cases z.lab.1 == 1 <;> cases z.lab.1 == 3 <;> rfl
theorem kfk : Contract Tryz.prog 191 (Ent.rd1 kfkG).F := by
 refine fun_contract' KnowsL.nil.knows (Λ := look []) Tryz.func191 (c := Tryz.f191.body.getD .skip) (by kernel_rfl) fun vs bs r' hq hv hb => ?_
 unfold Ent.F kfkG at hq
 dsimp only at hq
 split at hq
 ·exact ⟨loopsOk_nil _, (kfk_fun _ ).trans hq⟩
 ·cases hq
theorem dnum_tree (z : Rose Lab) (m : Nat) (n no up : Int) (nl : Option Bool) (o : List Nd) : funC Tryz.prog (look [(206, .rd1 numG), (88, .rd1 withinG)]) (look []) Tryz.f192 [.tp LCd z 0, .ref 0 0 m, .j n, .j no, .j up] [.row false nl NCd o] =
 ((ifT (decide ((m + (1 : Nat)) * (48 : Nat) ≤ (140737488355328 : Nat)) && decide (m + (1 : Nat) ≤ maxI)) (ifB (numB n) (ifB (z.lab.fst == (1 : Int)) (some (V.tup [V.ref 1 0
 (m + (1 : Nat)), V.b true], [none, some (Blk.row false none NCd (List.take m (List.drop (0 : Nat) o) ++ (n, nilT UInt8, no, up, false, ()) :: nilT NCd.den))])) (some
 (V.tup [V.ref 1 0 (m + (1 : Nat)), V.b (decide ((0 : Int) ≤ n ∧ n ≤ z.lab.snd.snd.snd.snd.fst))], [none, some (Blk.row false none NCd (List.take m (List.drop (0 : Nat) o)
 ++ (n, nilT UInt8, no, up, false, ()) :: nilT NCd.den))]))) (some (V.tup [V.ref 1 0 (m + (1 : Nat)), V.b false], [none, some (Blk.row false none NCd (List.take m
 (List.drop (0 : Nat) o) ++ (n, nilT UInt8, no, up, false, ()) :: nilT NCd.den))])))) : _) := by kernel_rfl
theorem dnum_fun (z : Rose Lab) (m : Nat) (n no up : Int) (nl : Option Bool) (o : List Nd) (hc : m = o.length ∧ o.length ≤ 2000000) : funC Tryz.prog (look [(206, .rd1 numG), (88, .rd1 withinG)]) (look []) Tryz.f192 [.tp LCd z 0, .ref 0 0 m, .j n, .j no, .j up] [.row false nl NCd o] = some (.tup [.ref 1 0 (o.length + 1), .b (decNum z n no).isSome], [none, some (.row false none NCd (o ++ [(n, [], no, up, false, ())]))]) := by
 rw [dnum_tree]
 try dsimp only [shr]
 obtain ⟨rfl, h1⟩ := hc
 have hM : maxI = 9223372036854775807 := rfl
 simp only [nilT_eq, List.drop_zero, List.take_length]
 unfold decNum
 have el : (decide ((o.length + 1) * 48 ≤ 140737488355328) && decide (o.length + 1 ≤ maxI)) = true := by simp only [anE, dcE]; omega
 simp only [ifT_true el]
 cases h2 : numB n with
 | false => simp [ifB]
 | true =>
  by_cases h3 : z.lab.1 = 1
  ·simp [ifB, h3]
  ·have h4 := beq_eq_false_iff_ne.2 h3
   by_cases h5 : 0 ≤ n ∧ n ≤ z.lab.2.2.2.2.1
   ·simp [ifB, h3, h4, h5]
   ·simp [ifB, h3, h4, h5]
theorem dnum : Contract Tryz.prog 192 (Ent.own dnumG).F := by
 refine fun_contractC' (KnowsL.cons (enters_fn Tryz.func206 (by kernel_rfl) (by kernel_rfl)) numOK (KnowsL.cons (enters_fn Tryz.func88 (by kernel_rfl) (by kernel_rfl)) within KnowsL.nil)).knows (Λ := (look [])) Tryz.func192 (c := Tryz.f192.body.getD .skip) (by kernel_rfl) fun vs bs r' hq hv hb => ?_
 unfold Ent.F dnumG at hq
 dsimp only at hq
 split at hq
 ·rename_i z m n no up nl o
  obtain ⟨hc, hx⟩ := need_some hq
  exact ⟨loopsOk_nil _, (dnum_fun z m n no up nl o (of_decide_eq_true hc)).trans hx⟩
 ·cases hq
theorem decC_con : Contract Tryz.prog 190 (Ent.rd1 decC).F := by
 refine fun_contract' KnowsL.nil.knows (Λ := look []) Tryz.func190 (c := Tryz.f190.body.getD .skip) (by kernel_rfl) fun vs bs r hq hv hb => ?_
 unfold Ent.F decC at hq
 dsimp only at hq
 split at hq
 ·rename_i fo fk fn fd fr p
  refine ⟨loopsOk_nil _, Eq.trans ?_ hq⟩
  have e : funK Tryz.prog (look []) (look []) Tryz.f190 [.agg [.j fo, .j fk, .j fn, .s fd, .j fr], .bx [.tp LCd p 0] 0] [] = ((some (V.b (fo == p.lab.snd.snd.fst), [])) : _) := by kernel_rfl
  exact e
 ·cases hq
theorem df_round  (p : Rose Lab) (l : List (Pl)) (r k i : Int) : roundK Tryz.prog (look [(190, .rd1 decC)]) (look [(2, dfE)]) 1 (body Tryz.f189 0) dfE ([.sl PCd l, .fn 190 [] [.ptr 0 0], .j r, .j k, .j i], [some (.box [.tp LCd p 0])]) =
 ((ifB (decide (i < k)) (ifT (decide ((0 : Int) ≤ i) && decide (i < (↑l.length : Int))) (ifSome l[i.toNat]? fun z => ifB (z.fst.fst == p.lab.snd.snd.fst) (some (Ex.ret, [V.i
 .i64 i], [some (Blk.box [V.tp LCd p (0 : Nat)])])) (some (Ex.normal, [V.sl PCd l, V.fn 190 [] [V.ptr 0 0], V.j r, V.j k, V.i .i64
 (IntKind.i64.wrap (i + (1 : Int)))], [some (Blk.box [V.tp LCd p (0 : Nat)])])))) (some (Ex.exit 0, [], [some (Blk.box [V.tp LCd p (0 : Nat)])]))) : _) := by kernel_rfl
theorem df_loop  (p : Rose Lab) {l : List (Pl)} {r : Int} (hx : l.length ≤ maxI) : ∀ (j i : Nat), i + j = l.length → ∀ e d', (.br (decide (firstP (fun z : Pl => z.1.1 == p.lab.2.2.1) i (l.drop i) < 0)) (.leaf (.exit 0, ([], [some (.box [.tp LCd p 0])]))) (.leaf (.ret, ([.j (firstP (fun z : Pl => z.1.1 == p.lab.2.2.1) i (l.drop i))], [some (.box [.tp LCd p 0])]))) : Br (Ex × Dt)).run = some (e, d') →
  Runs Tryz.prog (look [(190, .rd1 decC)]) (look [(2, dfE)]) 1 (body Tryz.f189 0) dfE ([.sl PCd l, .fn 190 [] [.ptr 0 0], .j r, .j (l.length : Int), .j (i : Int)], [some (.box [.tp LCd p 0])]) e d'
 | 0, i, hi, e, d', h => by
  have e1 : l.drop i = [] := List.drop_eq_nil_of_le (by omega)
  rw [e1, br_run, firstP, if_pos (by omega)] at h
  cases h
  have hr := df_round p l r l.length i
  rw [ifB_false (dcF (by omega))] at hr
  exact .stop _ _ _ hr (by simp)
 | j + 1, i, hi, e, d', h => by
  have h1 : i < l.length := by omega
  have hr := df_round p l r l.length i
  rw [ifB_true (dcT (by omega)), ifT_true (by simp only [anE, dcE]; omega)] at hr
  simp only [ntN, gtE h1, ifSome_s, wrap_succ (n := i) (by omega)] at hr
  rw [List.drop_eq_getElem_cons h1, br_run, firstP] at h
  by_cases he : (fun z : Pl => z.1.1 == p.lab.2.2.1) l[i] = true
  ·rw [if_pos he, if_neg (by omega)] at h
   cases h
   rw [ifB_true he] at hr
   exact .stop _ _ _ hr (by simp)
  ·rw [if_neg he] at h
   rw [ifB_false (by simpa using he)] at hr
   exact .step _ _ _ _ hr (df_loop p hx j (i + 1) (by omega) e d' (by rw [br_run]; exact h))
theorem df_ok  : LoopsOk Tryz.prog (look [(190, .rd1 decC)]) (look [(2, dfE)]) 1 (Tryz.f189.body.getD .skip) := by
 refine loopsOk_one (a := body Tryz.f189 0) (by kernel_rfl) fun d e d' h => ?_
 unfold dfE at h
 dsimp only at h
 split at h
 ·obtain ⟨hc, h'⟩ := need_some h
  obtain ⟨h0, h1, h2, rfl⟩ := of_decide_eq_true hc
  obtain ⟨i, rfl⟩ := Int.eq_ofNat_of_zero_le h0
  exact df_loop _  h2 _ i (Nat.add_sub_of_le h1) e d' h'
 ·cases h
theorem df_fun  (p : Rose Lab) (l : List (Pl)) (hx : l.length ≤ maxI) : funK Tryz.prog (look [(190, .rd1 decC)]) (look [(2, dfE)]) Tryz.f189 [.sl PCd l, .fn 190 [] [.ptr 0 0]] [.box [.tp LCd p 0]] = some (.j (firstP (fun z : Pl => z.1.1 == p.lab.2.2.1) 0 l), [some (.box [.tp LCd p 0])]) := by
 have e : funK Tryz.prog (look [(190, .rd1 decC)]) (look [(2, dfE)]) Tryz.f189 [.sl PCd l, .fn 190 [] [.ptr 0 0]] [.box [.tp LCd p 0]] =
  ((ifT (decide ((0 : Int) ≤ (0 : Int) ∧ (0 : Nat) ≤ l.length ∧ l.length ≤ maxI ∧ (↑l.length : Int) = (↑l.length : Int))) (ifB (decide (firstP (fun z => z.fst.fst ==
 p.lab.snd.snd.fst) (0 : Nat) (List.drop (0 : Nat) l) < (0 : Int))) (some (V.j (-1), [some (Blk.box [V.tp LCd p (0 : Nat)])])) (some (V.j (firstP (fun z =>
 z.fst.fst == p.lab.snd.snd.fst) (0 : Nat) (List.drop (0 : Nat) l)), [some (Blk.box [V.tp LCd p (0 : Nat)])])))) : _) := by kernel_rfl
 rw [e, ifT_true (dcT ⟨by omega, by omega, hx, rfl⟩)]
 simp only [Int.toNat_zero, List.drop_zero]
 by_cases q : firstP (fun z : Pl => z.1.1 == p.lab.2.2.1) 0 l < 0
 ·rw [ifB_true (dcT q), firstP_neg _ _ _ q]
 ·rw [ifB_false (dcF q)]
theorem df_idx  : Contract Tryz.prog 189 (Ent.own dfiG).F := by
 refine fun_contract' (KnowsL.cons (enters_fn Tryz.func190 (by kernel_rfl) (by kernel_rfl)) decC_con KnowsL.nil).knows (Λ := (look [(2, dfE)])) Tryz.func189 (c := Tryz.f189.body.getD .skip) (by kernel_rfl) fun vs bs r h hv hb => ?_
 unfold Ent.F dfiG at h
 dsimp only at h
 split at h
 ·rename_i l p
  have h' := h
  exact ⟨df_ok , (df_fun p l (hv (.sl PCd l) (by simp)).1).trans (by cases h'; rfl)⟩
 ·cases h
theorem df_mix : Contract Tryz.prog 189 (Ent.mix dfiG).F := df_idx

mutual
def flatV : Rose VLab → Int → Nat → List Nd
 | .node x ks, up, s => (x.1, x.2.1, x.2.2.1, up, x.2.2.2.1, ()) :: flatK ks s (s + 1)
def flatK : List (Rose VLab) → Nat → Nat → List Nd
 | [], _, _ => []
 | z :: ks, s, p => flatV z s p ++ flatK ks s (p + (flatV z s p).length)
end
mutual
def vcR : Rose VLab → Nat
 | .node _ ks => vcL ks + 1
def vcL : List (Rose VLab) → Nat
 | [] => 0
 | z :: l => vcR z + vcL l
end
mutual
theorem flatV_len : ∀ (z : Rose VLab) (up : Int) (s : Nat), (flatV z up s).length = vcR z
 | .node x ks, up, s => by
  rw [flatV, vcR, List.length_cons, flatK_len ks s (s + 1)]
theorem flatK_len : ∀ (ks : List (Rose VLab)) (s p : Nat), (flatK ks s p).length = vcL ks
 | [], _, _ => by rw [flatK, vcL]; rfl
 | z :: ks, s, p => by rw [flatK, vcL, List.length_append, flatV_len z s p, flatK_len ks s]
end
def mxD : List WFd → Nat
 | [] => 0
 | f :: fs => max f.2.2.2.1.length (mxD fs)
def dlE (n : Nat) : LoopEnt := ⟨74, [1,2,3,10,11], [1], [8,9], fun
 | ([.ref 1 0 m, .s s, .i .i64 up, .tp (.pair (.int .i64) (.pair .str (.pair (.int .i64) (.pair .bool (.pair (.int .i64) .unit))))) z 0, .i .i64 a], [none, some (.row false none (.pair (.int .i64) (.pair .str (.pair (.int .i64) (.pair (.int .i64) (.pair .bool .unit))))) o)]) => .need (decide (m = o.length ∧ 0 ≤ a ∧ a.toNat ≤ s.length ∧ 0 ≤ up ∧ s.length ≤ 400 ∧ rightR z = true ∧ cntR z ≤ n ∧ o.length + cntR z * (s.length - a.toNat) ≤ 1000000)) (.br (decI (fkB z) (fun n => decNum z n 0) (fun d => decR z d 0) s (s.length - a.toNat) a.toNat).isSome (.leaf (.exit 0, ([.ref 1 0 (o ++ flatK ((decI (fkB z) (fun n => decNum z n 0) (fun d => decR z d 0) s (s.length - a.toNat) a.toNat).getD []) up.toNat o.length).length], [none, some (.row false none (.pair (.int .i64) (.pair .str (.pair (.int .i64) (.pair (.int .i64) (.pair .bool .unit))))) (o ++ flatK ((decI (fkB z) (fun n => decNum z n 0) (fun d => decR z d 0) s (s.length - a.toNat) a.toNat).getD []) up.toNat o.length))]))) (.leaf (.ret, ([.ref 1 0 0, .b false], [none, some (.row false none (.pair (.int .i64) (.pair .str (.pair (.int .i64) (.pair (.int .i64) (.pair .bool .unit))))) [])]))))
 | _ => .no⟩
def dlOut (z : Rose Lab) (s : List UInt8) (up : Int) (o : List Nd) : List Nd := match decH z.kids s with | some vs => o ++ flatK vs up.toNat o.length | none => []
def dlN (n : Nat) : List V → List Blk → Br (V × List (Option Blk))
 | [.tp (.pair (.int .i64) (.pair .str (.pair (.int .i64) (.pair .bool (.pair (.int .i64) .unit))))) z 0, .ref 0 0 m, .s s, .i .i64 up], [.row false _ (.pair (.int .i64) (.pair .str (.pair (.int .i64) (.pair (.int .i64) (.pair .bool .unit))))) o] => .need (decide (m = o.length ∧ 0 ≤ up ∧ s.length ≤ 400 ∧ z.kids.length = 1 ∧ z.kids.all rightR = true ∧ cntR z ≤ n ∧ o.length + cntL z.kids * s.length ≤ 1000000)) (.leaf (.tup [.ref 1 0 (dlOut z s up o).length, .b (decH z.kids s).isSome], [none, some (.row false none (.pair (.int .i64) (.pair .str (.pair (.int .i64) (.pair (.int .i64) (.pair .bool .unit))))) (dlOut z s up o))]))
 | _, _ => .no
def decOut (z : Rose Lab) (s : List UInt8) (no up : Int) (o : List Nd) : List Nd := match decR z s no with | some v => o ++ flatV v up o.length | none => if z.lab.1 = 2 then o ++ [(0, s, no, up, false, ())] else []
def decN (n : Nat) : List V → List Blk → Br (V × List (Option Blk))
 | [.tp (.pair (.int .i64) (.pair .str (.pair (.int .i64) (.pair .bool (.pair (.int .i64) .unit))))) z 0, .ref 0 0 m, .s s, .i .i64 no, .i .i64 up], [.row false _ (.pair (.int .i64) (.pair .str (.pair (.int .i64) (.pair (.int .i64) (.pair .bool .unit))))) o] => .need (decide (m = o.length ∧ s.length ≤ 400 ∧ rightR z = true ∧ cntR z ≤ n ∧ o.length + cntR z * (s.length + 1) ≤ 1000000)) (.leaf (.tup [.ref 1 0 (decOut z s no up o).length, .b (decR z s no).isSome], [none, some (.row false none (.pair (.int .i64) (.pair .str (.pair (.int .i64) (.pair (.int .i64) (.pair .bool .unit))))) (decOut z s no up o))]))
 | _, _ => .no
def dmE (n : Nat) : LoopEnt := ⟨129, [1,12,14,68,69,70], [1], [10,11], fun
 | ([.ref 1 0 m, .ref 2 0 w, .i .i64 up, .sl (.tree (.pair (.int .i64) (.pair .str (.pair (.int .i64) (.pair .bool (.pair (.int .i64) .unit)))))) ks, .i .i64 c, .i .i64 i], [none, some (.row false none (.pair (.int .i64) (.pair .str (.pair (.int .i64) (.pair (.int .i64) (.pair .bool .unit))))) o), some (.row ro none (.pair (.pair (.int .i64) (.pair (.int .i64) (.pair (.int .i64) (.pair .str .unit)))) (.pair (.int .i64) .unit)) fs)]) => .need (decide (m = o.length ∧ w = fs.length ∧ c = ks.length ∧ 0 ≤ i ∧ i.toNat ≤ ks.length ∧ ks.length ≤ 1000000 ∧ w ≤ 40 ∧ 0 ≤ up ∧ mxD (fs.map (·.1)) ≤ 400 ∧ (fs.all fun x => fieldB x.1) = true ∧ cntL ks ≤ n ∧ rightL 5 ks = true ∧ o.length + cntL (ks.drop i.toNat) * (mxD (fs.map (·.1)) + 1) ≤ 1000000)) (.br (decM (ks.drop i.toNat) (fs.map (·.1))).isSome (.leaf (.exit 1, ([.ref 1 0 (o ++ flatK ((decM (ks.drop i.toNat) (fs.map (·.1))).getD []) up.toNat o.length).length], [none, some (.row false none (.pair (.int .i64) (.pair .str (.pair (.int .i64) (.pair (.int .i64) (.pair .bool .unit))))) (o ++ flatK ((decM (ks.drop i.toNat) (fs.map (·.1))).getD []) up.toNat o.length))]))) (.leaf (.ret, ([.ref 1 0 0, .b false], [none, some (.row false none (.pair (.int .i64) (.pair .str (.pair (.int .i64) (.pair (.int .i64) (.pair .bool .unit))))) [])]))))
 | _ => .no⟩
def dm0E (n : Nat) : LoopEnt := ⟨129, [1,12,14,68,69,70], [1], [10,11], fun
 | ([.ref 0 0 m, .ref 1 0 w, .i .i64 up, .sl (.tree (.pair (.int .i64) (.pair .str (.pair (.int .i64) (.pair .bool (.pair (.int .i64) .unit)))))) ks, .i .i64 c, .i .i64 i], [some (.row false none (.pair (.int .i64) (.pair .str (.pair (.int .i64) (.pair (.int .i64) (.pair .bool .unit))))) o), some (.row ro none (.pair (.pair (.int .i64) (.pair (.int .i64) (.pair (.int .i64) (.pair .str .unit)))) (.pair (.int .i64) .unit)) fs)]) => .need (decide (m = o.length ∧ w = fs.length ∧ c = ks.length ∧ 0 ≤ i ∧ i.toNat ≤ ks.length ∧ ks.length ≤ 1000000 ∧ w ≤ 40 ∧ 0 ≤ up ∧ mxD (fs.map (·.1)) ≤ 400 ∧ (fs.all fun x => fieldB x.1) = true ∧ cntL ks ≤ n ∧ rightL 5 ks = true ∧ o.length + cntL (ks.drop i.toNat) * (mxD (fs.map (·.1)) + 1) ≤ 1000000)) (.br (decM (ks.drop i.toNat) (fs.map (·.1))).isSome (.leaf (.exit 1, ([.ref 0 0 (o ++ flatK ((decM (ks.drop i.toNat) (fs.map (·.1))).getD []) up.toNat o.length).length], [some (.row false none (.pair (.int .i64) (.pair .str (.pair (.int .i64) (.pair (.int .i64) (.pair .bool .unit))))) (o ++ flatK ((decM (ks.drop i.toNat) (fs.map (·.1))).getD []) up.toNat o.length))]))) (.leaf (.ret, ([.ref 0 0 0, .b false], [some (.row false none (.pair (.int .i64) (.pair .str (.pair (.int .i64) (.pair (.int .i64) (.pair .bool .unit))))) [])]))))
 | _ => .no⟩
def decN0 : List V → List Blk → Br (V × List (Option Blk))
 | [.tp (.pair (.int .i64) (.pair .str (.pair (.int .i64) (.pair .bool (.pair (.int .i64) .unit))))) z 0, .nl, .s s, .i .i64 no, .i .i64 up], [] => .need (decide (z.lab.1 = 5 ∧ s.length ≤ 400 ∧ rightR z = true ∧ cntR z * (s.length + 1) ≤ 1000000)) (.leaf (.tup [.ref 0 0 (decOut z s no up []).length, .b (decR z s no).isSome], [some (.row false none (.pair (.int .i64) (.pair .str (.pair (.int .i64) (.pair (.int .i64) (.pair .bool .unit))))) (decOut z s no up []))]))
 | _, _ => .no

abbrev Lqb1 (n : Nat) : FuncId → Option Ent := look [(191, .rd1 kfkG), (220, .rd1 tviG), (221, .rd1 unfG), (192, .own dnumG), (222, .rd1 tbG), (150, .own (decN n))]
theorem dl_round (n m : Nat) (s : List UInt8) (up : Int) (z : Rose Lab) (a : Int) (o : List Nd) : roundK Tryz.prog (Lqb1 n) (look [(3, dlE n)]) 1 (body Tryz.f188 0) (dlE n) ([.ref 1 0 m, .s s, .j up, .tp LCd z 0, .j a], [none, some (.row false none NCd o)]) =
 ((ifB (decide (a < (↑s.length : Int))) (ifB ((if fkB z = true then (0 : Int) else (2 : Int)) == (0 : Int)) (ifT (decide ((0 : Int) ≤ a ∧ s.length ≤ (4000000000 : Nat) ∧ a ≤
 (4000000000 : Int))) (ifT (decide ((0 : Int) ≤ tvI1 (tvAt s a.toNat) ∧ tvI1 (tvAt s a.toNat) ≤ (1000000000000 : Int))) (ifT (decide (m = o.length ∧ o.length ≤ (2000000 :
 Nat))) (ifB (decNum z (unf (tvI1 (tvAt s a.toNat))) (0 : Int)).isSome (ifB (!tvI3 (tvAt s a.toNat)) (some (Ex.ret, [V.ref 1 0 0, V.b false], [none, some (Blk.row false
 none NCd (nilT NCd.den))])) (some (Ex.normal, [V.ref 1 0 (o.length + (1 : Nat)), V.s s, V.j up, V.tp LCd z (0 : Nat), V.j (tvI2 a.toNat (tvAt s a.toNat))],
 [none, some (Blk.row false none NCd (o ++ (unf (tvI1 (tvAt s a.toNat)), nilT UInt8, (0 : Int), up, false, ()) :: nilT (Int × List UInt8 × Int × Int × Bool × Unit)))])))
 (some (Ex.ret, [V.ref 1 0 0, V.b false], [none, some (Blk.row false none NCd (nilT NCd.den))])))))) (ifT (decide ((0 : Int) ≤ a ∧ s.length ≤ (4000000000 : Nat) ∧ a ≤
 (4000000000 : Int))) (ifB (!(tbAt s a.toNat).snd.snd) (some (Ex.ret, [V.ref 1 0 0, V.b false], [none, some (Blk.row false none NCd (nilT NCd.den))])) (ifT (decide (m =
 o.length ∧ (tbAt s a.toNat).fst.length ≤ (400 : Nat) ∧ rightR z = true ∧ cntR z ≤ n ∧ o.length + cntR z * ((tbAt s a.toNat).fst.length + (1 : Nat)) ≤ (1000000 : Nat)))
 (ifB (!(decR z (tbAt s a.toNat).fst (0 : Int)).isSome) (some (Ex.ret, [V.ref 1 0 0, V.b false], [none, some (Blk.row false none NCd (nilT NCd.den))])) (some (Ex.normal,
 [V.ref 1 0 (decOut z (tbAt s a.toNat).fst (0 : Int) up o).length, V.s s, V.j up, V.tp LCd z (0 : Nat), V.j (tbAt s a.toNat).snd.fst], [none, some (Blk.row false
 none NCd (decOut z (tbAt s a.toNat).fst (0 : Int) up o))]))))))) (some (Ex.exit 0, [V.ref 1 0 m], [none, some (Blk.row false none NCd o)]))) : _) := by kernel_rfl
theorem dl_tree (n : Nat) (z : Rose Lab) (m : Nat) (s : List UInt8) (up : Int) (nl : Option Bool) (o : List Nd) : funE Tryz.prog (Lqb1 n) (look [(3, dlE n)]) Tryz.f188 [.tp LCd z 0, .ref 0 0 m, .s s, .j up] [.row false nl NCd o] =
 ((ifT (decide ((0 : Int) ≤ (0 : Int)) && decide ((0 : Int) < (↑z.kids.length : Int))) (ifSome z.kids[(0 : Nat)]? fun z => ifT (decide (m = o.length ∧ (0 : Int) ≤ (0 : Int) ∧
 (0 : Nat) ≤ s.length ∧ (0 : Int) ≤ up ∧ s.length ≤ (400 : Nat) ∧ rightR z = true ∧ cntR z ≤ n ∧ o.length + cntR z * (s.length - (0 : Nat)) ≤ (1000000 : Nat))) (ifB (decI
 (fkB z) (fun n => decNum z n (0 : Int)) (fun d => decR z d (0 : Int)) s (s.length - (0 : Nat)) (0 : Nat)).isSome (some (V.tup [V.ref 1 0 (o ++ flatK ((decI (fkB z) (fun n
 => decNum z n (0 : Int)) (fun d => decR z d (0 : Int)) s (s.length - (0 : Nat)) (0 : Nat)).getD (nilT (Rose VLab))) up.toNat o.length).length, V.b true], [none, some
 (Blk.row false none NCd (o ++ flatK ((decI (fkB z) (fun n => decNum z n (0 : Int)) (fun d => decR z d (0 : Int)) s (s.length - (0 : Nat)) (0 : Nat)).getD (nilT (Rose
 VLab))) up.toNat o.length))])) (some (V.tup [V.ref 1 0 0, V.b false], [none, some (Blk.row false none NCd (nilT NCd.den))]))))) : _) := by kernel_rfl
abbrev Lqb2 (k n : Nat) : FuncId → Option Ent := look [(188, .own (dlN n)), (151, .rd1 risG), (189, .mix dfiG), (191, .rd1 kfkG), (192, .own dnumG), (150, .own (decN k))]
theorem dm_round (n k m w : Nat) (ro : Bool) (up : Int) (ks : List (Rose Lab)) (c i : Int) (o : List Nd) (fs : List Pl) : roundK Tryz.prog (Lqb2 k n) (look [(12, dmE k)]) 1 (body Tryz.f150 0) (dmE k) ([.ref 1 0 m, .ref 2 0 w, .j up, .sl (.tree LCd) ks, .j c, .j i], [none, some (.row false none NCd o), some (.row ro none PCd fs)]) =
 ((ifB (decide (i < c)) (ifT (decide ((0 : Int) ≤ i) && decide (i < (↑ks.length : Int))) (ifSome ks[i.toNat]? fun z => ifB (decide (firstP (fun z_1 => z_1.fst.fst ==
 (Rose.lab z).snd.snd.fst) (0 : Nat) (List.take w (List.drop (0 : Nat) fs)) < (0 : Int))) (ifB (Rose.lab z).snd.snd.snd.fst (some (Ex.ret, [V.ref 1 0 0, V.b false], [none,
 some (Blk.row false none NCd (nilT NCd.den))])) (some (Ex.normal, [V.ref 1 0 m, V.ref 2 0 w, V.j up, V.sl LCd.tree ks, V.j c, V.j (IntKind.i64.wrap (i + (1
 : Int)))], [none, some (Blk.row false none NCd o), some (Blk.row true none PCd fs)]))) (ifT (decide ((0 : Int) ≤ firstP (fun z_1 => z_1.fst.fst == (Rose.lab
 z).snd.snd.fst) (0 : Nat) (List.take w (List.drop (0 : Nat) fs))) && decide (firstP (fun z_1 => z_1.fst.fst == (Rose.lab z).snd.snd.fst) (0 : Nat) (List.take w (List.drop
 (0 : Nat) fs)) < (↑w : Int))) (ifSome fs[(0 : Nat) + (firstP (fun z_1 => z_1.fst.fst == (Rose.lab z).snd.snd.fst) (0 : Nat) (List.take w (List.drop (0 : Nat)
 fs))).toNat]? fun z_1 => ifB (z_1.fst.snd.fst != if fkB z = true then (0 : Int) else (2 : Int)) (some (Ex.ret, [V.ref 1 0 0, V.b false], [none, some (Blk.row false none
 NCd (nilT NCd.den))])) (ifB (z_1.fst.snd.fst == (0 : Int)) (ifT (decide (m = o.length ∧ o.length ≤ (2000000 : Nat))) (ifB (!(decNum z z_1.fst.snd.snd.fst (Rose.lab
 z).snd.snd.fst).isSome) (some (Ex.ret, [V.ref 1 0 0, V.b false], [none, some (Blk.row false none NCd (nilT NCd.den))])) (some (Ex.normal, [V.ref 1 0 (o.length + (1 :
 Nat)), V.ref 2 0 w, V.j up, V.sl LCd.tree ks, V.j c, V.j (IntKind.i64.wrap (i + (1 : Int)))], [none, some (Blk.row false none NCd (o ++
 (z_1.fst.snd.snd.fst, nilT UInt8, (Rose.lab z).snd.snd.fst, up, false, ()) :: nilT (Int × List UInt8 × Int × Int × Bool × Unit))), some (Blk.row true none PCd fs)]))))
 (ifT (decide (m = o.length ∧ List.length z_1.fst.snd.snd.snd.fst ≤ (400 : Nat) ∧ rightR z = true ∧ cntR z ≤ k ∧ o.length + cntR z * (List.length z_1.fst.snd.snd.snd.fst +
 (1 : Nat)) ≤ (1000000 : Nat))) (ifB (!(decR z z_1.fst.snd.snd.snd.fst (Rose.lab z).snd.snd.fst).isSome) (some (Ex.ret, [V.ref 1 0 0, V.b false], [none, some (Blk.row
 false none NCd (nilT NCd.den))])) (some (Ex.normal, [V.ref 1 0 (decOut z z_1.fst.snd.snd.snd.fst (Rose.lab z).snd.snd.fst up o).length, V.ref 2 0 w, V.j up, V.sl
 LCd.tree ks, V.j c, V.j (IntKind.i64.wrap (i + (1 : Int)))], [none, some (Blk.row false none NCd (decOut z z_1.fst.snd.snd.snd.fst (Rose.lab z).snd.snd.fst up
 o)), some (Blk.row true none PCd fs)]))))))))) (some (Ex.exit 1, [V.ref 1 0 m], [none, some (Blk.row false none NCd o)]))) : _) := by kernel_rfl
theorem dm_tree (n k : Nat) (z : Rose Lab) (m : Nat) (s : List UInt8) (no up : Int) (nl : Option Bool) (o : List Nd) : funC Tryz.prog (Lqb2 k n) (look [(12, dmE k)]) Tryz.f150 [.tp LCd z 0, .ref 0 0 m, .s s, .j no, .j up] [.row false nl NCd o] =
 ((ifB (z.lab.fst == (2 : Int)) (ifT (decide ((m + (1 : Nat)) * (48 : Nat) ≤ (140737488355328 : Nat)) && decide (m + (1 : Nat) ≤ maxI)) (some (V.tup [V.ref 1 0 (m + (1 :
 Nat)), V.b (decide ((↑s.length : Int) ≤ (30 : Int)))], [none, some (Blk.row false none NCd (List.take m (List.drop (0 : Nat) o) ++ ((0 : Int), s, no, up, false, ()) ::
 nilT NCd.den))]))) (ifB (z.lab.fst == (4 : Int)) (ifT (decide ((m + (1 : Nat)) * (48 : Nat) ≤ (140737488355328 : Nat)) && decide (m + (1 : Nat) ≤ maxI)) (ifT (decide (m +
 (1 : Nat) = (List.take m (List.drop (0 : Nat) o) ++ ((0 : Int), nilT UInt8, no, up, true, ()) :: nilT NCd.den).length ∧ (0 : Int) ≤ (↑m : Int) ∧ s.length ≤ (400 : Nat) ∧
 z.kids.length = (1 : Nat) ∧ z.kids.all rightR = true ∧ cntR z ≤ n ∧ (List.take m (List.drop (0 : Nat) o) ++ ((0 : Int), nilT UInt8, no, up, true, ()) :: nilT
 NCd.den).length + cntL z.kids * s.length ≤ (1000000 : Nat))) (some (V.tup [V.ref 1 0 (dlOut z s (↑m : Int) (List.take m (List.drop (0 : Nat) o) ++ ((0 : Int), nilT UInt8,
 no, up, true, ()) :: nilT NCd.den)).length, V.b (decH z.kids s).isSome], [none, some (Blk.row false none NCd (dlOut z s (↑m : Int) (List.take m (List.drop (0 : Nat) o) ++
 ((0 : Int), nilT UInt8, no, up, true, ()) :: nilT NCd.den)))])))) (ifT (decide (s.length ≤ (4000000000 : Nat))) (ifB (!(risP s).isSome) (some (V.tup [V.ref 1 0 0, V.b
 false], [none, some (Blk.row false none NCd (nilT NCd.den))])) (ifT (decide ((m + (1 : Nat)) * (48 : Nat) ≤ (140737488355328 : Nat)) && decide (m + (1 : Nat) ≤ maxI))
 (ifT (decide (m + (1 : Nat) = (List.take m (List.drop (0 : Nat) o) ++ ((0 : Int), nilT UInt8, no, up, true, ()) :: nilT NCd.den).length ∧ ((risP s).getD (nilT Pl)).length
 = ((risP s).getD (nilT Pl)).length ∧ (↑z.kids.length : Int) = (↑z.kids.length : Int) ∧ (0 : Int) ≤ (0 : Int) ∧ (0 : Nat) ≤ z.kids.length ∧ z.kids.length ≤ (1000000 : Nat)
 ∧ ((risP s).getD (nilT Pl)).length ≤ (40 : Nat) ∧ (0 : Int) ≤ (↑m : Int) ∧ mxD (List.map (fun x => x.fst) ((risP s).getD (nilT Pl))) ≤ (400 : Nat) ∧ (((risP s).getD (nilT
 Pl)).all fun x => fieldB x.fst) = true ∧ cntL z.kids ≤ k ∧ rightL (5 : Int) z.kids = true ∧ (List.take m (List.drop (0 : Nat) o) ++ ((0 : Int), nilT UInt8, no, up, true,
 ()) :: nilT NCd.den).length + cntL (List.drop (0 : Nat) z.kids) * (mxD (List.map (fun x => x.fst) ((risP s).getD (nilT Pl))) + (1 : Nat)) ≤ (1000000 : Nat))) (ifB (decM
 (List.drop (0 : Nat) z.kids) (List.map (fun x => x.fst) ((risP s).getD (nilT Pl)))).isSome (some (V.tup [V.ref 1 0 (List.take m (List.drop (0 : Nat) o) ++ ((0 : Int),
 nilT UInt8, no, up, true, ()) :: nilT NCd.den ++ flatK ((decM (List.drop (0 : Nat) z.kids) (List.map (fun x => x.fst) ((risP s).getD (nilT Pl)))).getD (nilT (Rose VLab)))
 (↑m : Int).toNat (List.take m (List.drop (0 : Nat) o) ++ ((0 : Int), nilT UInt8, no, up, true, ()) :: nilT NCd.den).length).length, V.b true], [none, some (Blk.row false
 none NCd (List.take m (List.drop (0 : Nat) o) ++ ((0 : Int), nilT UInt8, no, up, true, ()) :: nilT NCd.den ++ flatK ((decM (List.drop (0 : Nat) z.kids) (List.map (fun x
 => x.fst) ((risP s).getD (nilT Pl)))).getD (nilT (Rose VLab))) (↑m : Int).toNat (List.take m (List.drop (0 : Nat) o) ++ ((0 : Int), nilT UInt8, no, up, true, ()) :: nilT
 NCd.den).length))])) (some (V.tup [V.ref 1 0 0, V.b false], [none, some (Blk.row false none NCd (nilT NCd.den))]))))))))) : _) := by kernel_rfl
theorem decI_z (num : Bool) (N : Int → Option (Rose VLab)) (D : List UInt8 → Option (Rose VLab)) (s : List UInt8) (a : Nat) : decI num N D s 0 a = if a < s.length then none else some [] := rfl
theorem decI_s (num : Bool) (N : Int → Option (Rose VLab)) (D : List UInt8 → Option (Rose VLab)) (s : List UInt8) (f a : Nat) : decI num N D s (f + 1) a = if a < s.length then (match num with
  | true => (match N (unf (tvI1 (tvAt s a))) with
   | some v => if tvI3 (tvAt s a) = true then (decI num N D s f (tvI2 a (tvAt s a)).toNat).map (v :: ·) else none
   | none => none)
  | false => (match (tbAt s a).2.2 with
   | true => (match D (tbAt s a).1 with
    | some v => (decI num N D s f (tbAt s a).2.1.toNat).map (v :: ·)
    | none => none)
   | false => none)) else some [] := rfl
theorem tb_end {s : List UInt8} {a : Nat} (h : (tbAt s a).2.2 = true) : (a : Int) + 1 + ((tbAt s a).1.length : Int) ≤ (tbAt s a).2.1 ∧ (tbAt s a).2.1 ≤ s.length := by
 have ⟨⟨u1, u2⟩, u3, u4⟩ := tv_any s a
 unfold tbAt at h ⊢
 dsimp only at h ⊢
 split at h
 ·rename_i q
  have e := tv_end q.1
  rw [if_pos q]
  simp only [List.length_take, List.length_drop]
  omega
 ·cases h
theorem tb_len (s : List UInt8) (a : Nat) : (tbAt s a).1.length ≤ s.length := by
 unfold tbAt
 dsimp only
 split
 ·simp only [List.length_take, List.length_drop]; omega
 ·simp
theorem decI_fuel {num : Bool} {N : Int → Option (Rose VLab)} {D : List UInt8 → Option (Rose VLab)} {s : List UInt8} : ∀ (f f' a : Nat), s.length - a ≤ f → s.length - a ≤ f' → decI num N D s f a = decI num N D s f' a
 | 0, 0, a, _, _ => rfl
 | 0, f' + 1, a, h, _ => by rw [decI_z, decI_s, if_neg (by omega), if_neg (by omega)]
 | f + 1, 0, a, _, h => by rw [decI_s, decI_z, if_neg (by omega), if_neg (by omega)]
 | f + 1, f' + 1, a, h, h' => by
  rw [decI_s, decI_s]
  by_cases ha : a < s.length
  ·rw [if_pos ha, if_pos ha]
   cases num with
   | true =>
    dsimp only
    cases N (unf (tvI1 (tvAt s a))) with
    | none => rfl
    | some v =>
     dsimp only
     by_cases h3 : tvI3 (tvAt s a) = true
     ·have := tv_end h3
      rw [if_pos h3, if_pos h3, decI_fuel f f' _ (by omega) (by omega)]
     ·rw [if_neg h3, if_neg h3]
   | false =>
    dsimp only
    cases h3 : (tbAt s a).2.2 with
    | false => rfl
    | true =>
     have := tb_end h3
     dsimp only
     cases D (tbAt s a).1 with
     | none => rfl
     | some v => dsimp only; rw [decI_fuel f f' _ (by omega) (by omega)]
  ·rw [if_neg ha, if_neg ha]
theorem decI_end {num : Bool} {N : Int → Option (Rose VLab)} {D : List UInt8 → Option (Rose VLab)} {s : List UInt8} {f a : Nat} (h : s.length ≤ a) : decI num N D s f a = some [] := by
 cases f with
 | zero => rw [decI_z, if_neg (by omega)]
 | succ f => rw [decI_s, if_neg (by omega)]
theorem decI_step {num : Bool} {N : Int → Option (Rose VLab)} {D : List UInt8 → Option (Rose VLab)} {s : List UInt8} {a : Nat} (h : a < s.length) : decI num N D s (s.length - a) a = (match num with
  | true => (match N (unf (tvI1 (tvAt s a))) with
   | some v => if tvI3 (tvAt s a) = true then (decI num N D s (s.length - (tvI2 a (tvAt s a)).toNat) (tvI2 a (tvAt s a)).toNat).map (v :: ·) else none
   | none => none)
  | false => (match (tbAt s a).2.2 with
   | true => (match D (tbAt s a).1 with
    | some v => (decI num N D s (s.length - (tbAt s a).2.1.toNat) (tbAt s a).2.1.toNat).map (v :: ·)
    | none => none)
   | false => none)) := by
 rw [show s.length - a = (s.length - a - 1) + 1 by omega, decI_s, if_pos h]
 cases num with
 | true =>
  dsimp only
  cases N (unf (tvI1 (tvAt s a))) with
  | none => rfl
  | some v =>
   dsimp only
   by_cases h3 : tvI3 (tvAt s a) = true
   ·have := tv_end h3
    rw [if_pos h3, if_pos h3, decI_fuel (s.length - a - 1) (s.length - (tvI2 a (tvAt s a)).toNat) _ (by omega) (by omega)]
   ·rw [if_neg h3, if_neg h3]
 | false =>
  dsimp only
  cases h3 : (tbAt s a).2.2 with
  | false => rfl
  | true =>
   have := tb_end h3
   dsimp only
   cases D (tbAt s a).1 with
   | none => rfl
   | some v => dsimp only; rw [decI_fuel (s.length - a - 1) (s.length - (tbAt s a).2.1.toNat) _ (by omega) (by omega)]
theorem decI_size {num : Bool} {N : Int → Option (Rose VLab)} {D : List UInt8 → Option (Rose VLab)} {s : List UInt8} (c : Nat) (h1 : 1 ≤ c) (hN : ∀ n v, N n = some v → vcR v ≤ c) (hD : ∀ d v, D d = some v → vcR v ≤ c * (d.length + 1)) : ∀ (j a : Nat) (vs : List (Rose VLab)), s.length - a ≤ j → decI num N D s (s.length - a) a = some vs → vcL vs ≤ c * (s.length - a)
 | j, a, vs, hj, h => by
  by_cases ha : a < s.length
  ·rw [decI_step ha] at h
   have mul : ∀ b : Nat, a < b → b ≤ s.length → c * (b - a) + c * (s.length - b) = c * (s.length - a) := fun b k1 k2 => by rw [← Nat.mul_add]; congr 1; omega
   obtain ⟨j, rfl⟩ : ∃ i, j = i + 1 := ⟨j - 1, by omega⟩
   cases num with
   | true =>
    dsimp only at h
    cases hn : N (unf (tvI1 (tvAt s a))) with
    | none => rw [hn] at h; cases h
    | some v =>
     rw [hn] at h
     dsimp only at h
     by_cases h3 : tvI3 (tvAt s a) = true
     ·have e := tv_end h3
      rw [if_pos h3] at h
      obtain ⟨us, h4, rfl⟩ := Option.map_eq_some_iff.1 h
      have ih := decI_size c h1 hN hD j _ us (by omega) h4
      have k1 := hN _ _ hn
      have k2 := mul (tvI2 a (tvAt s a)).toNat (by omega) (by omega)
      have k3 : c ≤ c * ((tvI2 a (tvAt s a)).toNat - a) := Nat.le_mul_of_pos_right c (by omega)
      rw [vcL]; omega
     ·rw [if_neg h3] at h; cases h
   | false =>
    dsimp only at h
    cases h3 : (tbAt s a).2.2 with
    | false => rw [h3] at h; cases h
    | true =>
     have e := tb_end h3
     rw [h3] at h
     dsimp only at h
     cases hn : D (tbAt s a).1 with
     | none => rw [hn] at h; cases h
     | some v =>
      rw [hn] at h
      obtain ⟨us, h4, rfl⟩ := Option.map_eq_some_iff.1 h
      have ih := decI_size c h1 hN hD j _ us (by omega) h4
      have k1 := hD _ _ hn
      have k2 := mul (tbAt s a).2.1.toNat (by omega) (by omega)
      have k3 : c * ((tbAt s a).1.length + 1) ≤ c * ((tbAt s a).2.1.toNat - a) := Nat.mul_le_mul_left c (by omega)
      rw [vcL]; omega
  ·rw [decI_end (by omega)] at h; cases h; rw [vcL]; omega
termination_by j => j
theorem mx_mem {f : WFd} : ∀ {fs : List WFd}, f ∈ fs → f.2.2.2.1.length ≤ mxD fs
 | g :: fs, h => by
  rw [mxD]
  rcases List.mem_cons.1 h with rfl | h
  ·omega
  ·have := mx_mem h; omega
theorem mx_le {L : Nat} : ∀ {fs : List WFd}, (∀ f ∈ fs, f.2.2.2.1.length ≤ L) → mxD fs ≤ L
 | [], _ => Nat.zero_le _
 | g :: fs, h => by
  rw [mxD]
  have h1 := h g (by simp)
  have h2 := mx_le (fun f hf => h f (List.mem_cons_of_mem _ hf))
  omega
theorem tf_len {s : List UInt8} {a : Nat} : (tfAt s a).1.2.2.2.1.length ≤ s.length := by
 unfold tfAt
 dsimp only
 split
 ·simp
 ·split
  ·exact tb_len s _
  ·simp
theorem rdF_all (s : List UInt8) : ∀ (f a : Nat) (o l : List WFd), (∀ x ∈ o, fieldB x = true ∧ x.2.2.2.1.length ≤ s.length) → rdF s f a o = some l → ∀ x ∈ l, fieldB x = true ∧ x.2.2.2.1.length ≤ s.length
 | 0, a, o, l, ho, h => by
  rw [rdF] at h
  split at h
  ·cases h
  ·cases h; exact ho
 | f + 1, a, o, l, ho, h => by
  rw [rdF] at h
  split at h
  ·split at h
   ·rename_i q
    refine rdF_all s f _ _ l (fun x hx => ?_) h
    rcases List.mem_append.1 hx with hx | hx
    ·exact ho x hx
    ·obtain rfl : x = (tfAt s a).1 := by simpa using hx
     exact ⟨(tf_ok q.1).1, tf_len⟩
   ·cases h
  ·cases h; exact ho
theorem ris_all {s : List UInt8} {l : List WFd} (h : risF s = some l) : (∀ x ∈ l, fieldB x = true ∧ x.2.2.2.1.length ≤ s.length) ∧ rise (nosF l) = true ∧ s.length ≤ 400 := by
 unfold risF rdfQ rdfP at h
 split at h
 ·rename_i l' hl
  split at h
  ·rename_i hr
   cases h
   split at hl
   ·rename_i h4
    exact ⟨rdF_all s _ _ [] l (by simp) hl, hr, h4⟩
   ·cases hl
  ·cases h
 ·cases h
mutual
theorem decR_size : ∀ (z : Rose Lab) (s : List UInt8) (no : Int) (v : Rose VLab), decR z s no = some v → vcR v ≤ cntR z * (s.length + 1)
 | .node x ks, s, no, v, h => by
  rw [decR] at h
  rw [cntR]
  have hm : (cntL ks + 1) * (s.length + 1) = cntL ks * s.length + cntL ks + s.length + 1 := by rw [Nat.add_mul, Nat.mul_add]; omega
  split at h
  ·split at h
   ·cases h; rw [vcR, vcL]; omega
   ·cases h
  ·split at h
   ·obtain ⟨vs, h1, rfl⟩ := Option.map_eq_some_iff.1 h
    have := decH_size ks s vs h1
    rw [vcR]; omega
   ·split at h
    ·rename_i fs hf
     obtain ⟨vs, h1, rfl⟩ := Option.map_eq_some_iff.1 h
     have h2 := decM_size ks fs vs h1
     have h3 : mxD fs ≤ s.length := mx_le fun f hf' => ((ris_all hf).1 f hf').2
     have h4 : cntL ks * (mxD fs + 1) ≤ cntL ks * (s.length + 1) := Nat.mul_le_mul_left _ (by omega)
     have h5 : cntL ks * (s.length + 1) = cntL ks * s.length + cntL ks := by rw [Nat.mul_add, Nat.mul_one]
     rw [vcR]; omega
    ·cases h
theorem decH_size : ∀ (ks : List (Rose Lab)) (s : List UInt8) (vs : List (Rose VLab)), decH ks s = some vs → vcL vs ≤ cntL ks * s.length
 | [], s, vs, h => by rw [decH] at h; cases h
 | z :: ks, s, vs, h => by
  rw [decH] at h
  have hz := cnt_pos z
  have := decI_size (s := s) (cntR z) hz (fun n v hv => by
   unfold decNum at hv
   split at hv
   ·cases hv; rw [vcR, vcL]; omega
   ·cases hv) (fun d v hv => decR_size z d 0 v hv) s.length 0 vs (by omega) h
  rw [Nat.sub_zero] at this
  rw [cntL, Nat.add_mul]; omega
theorem decM_size : ∀ (ks : List (Rose Lab)) (fs : List WFd) (vs : List (Rose VLab)), decM ks fs = some vs → vcL vs ≤ cntL ks * (mxD fs + 1)
 | [], fs, vs, h => by rw [decM] at h; cases h; rw [vcL]; omega
 | p :: ks, fs, vs, h => by
  rw [decM] at h
  rw [cntL, Nat.add_mul]
  split at h
  ·split at h
   ·cases h
   ·have := decM_size ks fs vs h; omega
  ·rename_i f hf
   have hmem := List.mem_of_find?_eq_some hf
   have hmx := mx_mem hmem
   split at h
   ·split at h
    ·rename_i v hv
     obtain ⟨us, h1, rfl⟩ := Option.map_eq_some_iff.1 h
     have ih := decM_size ks fs us h1
     have hp := cnt_pos p
     have h2 : vcR v ≤ cntR p * (mxD fs + 1) := by
      split at hv
      ·unfold decNum at hv
       split at hv
       ·cases hv
        rw [vcR, vcL]
        exact Nat.mul_pos hp (by omega)
       ·cases hv
      ·have := decR_size p _ _ v hv
       exact Nat.le_trans this (Nat.mul_le_mul_left _ (by omega))
     rw [vcL]; omega
    ·cases h
   ·cases h
end
theorem dl_map {z : Rose Lab} {s : List UInt8} {a b : Nat} {v : Rose VLab} {up : Nat} {o : List Nd} (h : (decI (fkB z) (fun n => decNum z n 0) (fun d => decR z d 0) s (s.length - a) a) = (decI (fkB z) (fun n => decNum z n 0) (fun d => decR z d 0) s (s.length - b) b).map (v :: ·)) {ex : Ex} {d : Dt} (hd : (Br.br (decI (fkB z) (fun n => decNum z n 0) (fun d => decR z d 0) s (s.length - a) a).isSome (.leaf (.exit 0, ([.ref 1 0 (o ++ flatK ((decI (fkB z) (fun n => decNum z n 0) (fun d => decR z d 0) s (s.length - a) a).getD []) up o.length).length], [none, some (.row false none NCd (o ++ flatK ((decI (fkB z) (fun n => decNum z n 0) (fun d => decR z d 0) s (s.length - a) a).getD []) up o.length))]))) (.leaf (.ret, ([.ref 1 0 0, .b false], [none, some (.row false none NCd [])]))) : Br (Ex × Dt)).run = some (ex, d)) : (Br.br (decI (fkB z) (fun n => decNum z n 0) (fun d => decR z d 0) s (s.length - b) b).isSome (.leaf (.exit 0, ([.ref 1 0 ((o ++ flatV v up o.length) ++ flatK ((decI (fkB z) (fun n => decNum z n 0) (fun d => decR z d 0) s (s.length - b) b).getD []) up (o ++ flatV v up o.length).length).length], [none, some (.row false none NCd ((o ++ flatV v up o.length) ++ flatK ((decI (fkB z) (fun n => decNum z n 0) (fun d => decR z d 0) s (s.length - b) b).getD []) up (o ++ flatV v up o.length).length))]))) (.leaf (.ret, ([.ref 1 0 0, .b false], [none, some (.row false none NCd [])]))) : Br (Ex × Dt)).run = some (ex, d) := by
 rw [h] at hd
 cases e : (decI (fkB z) (fun n => decNum z n 0) (fun d => decR z d 0) s (s.length - b) b) with
 | none => rw [e] at hd; exact hd
 | some vs =>
  rw [e] at hd
  refine Eq.trans ?_ hd
  show some _ = some _
  rw [show ((Option.map (v :: ·) (some vs)).getD []) = v :: vs from rfl, show ((some vs).getD []) = vs from rfl]
  simp only [flatK, List.length_append, List.append_assoc]
theorem dl_loop (n : Nat) (z : Rose Lab) (hz : rightR z = true) (hcn : cntR z ≤ n) (s : List UInt8) (hs : s.length ≤ 400) (up : Nat) : ∀ (j a : Nat) (o : List Nd), s.length - a ≤ j → a ≤ s.length → o.length + cntR z * (s.length - a) ≤ 1000000 → ∀ ex d, (Br.br (decI (fkB z) (fun n => decNum z n 0) (fun d => decR z d 0) s (s.length - a) a).isSome (.leaf (.exit 0, ([.ref 1 0 (o ++ flatK ((decI (fkB z) (fun n => decNum z n 0) (fun d => decR z d 0) s (s.length - a) a).getD []) up o.length).length], [none, some (.row false none NCd (o ++ flatK ((decI (fkB z) (fun n => decNum z n 0) (fun d => decR z d 0) s (s.length - a) a).getD []) up o.length))]))) (.leaf (.ret, ([.ref 1 0 0, .b false], [none, some (.row false none NCd [])]))) : Br (Ex × Dt)).run = some (ex, d) → Runs Tryz.prog (Lqb1 n) (look [(3, dlE n)]) 1 (body Tryz.f188 0) (dlE n) ([.ref 1 0 o.length, .s s, .j (up : Int), .tp LCd z 0, .j (a : Int)], [none, some (.row false none NCd o)]) ex d := by
 intro j
 induction j with
 | zero =>
  intro a o hj ha ho ex d h
  have hr := dl_round n o.length s up z a o
  rw [ifB_false (dcF (by omega))] at hr
  rw [decI_end (by omega)] at h
  have h8 := leaf_some (show (Br.leaf (.exit 0, ([.ref 1 0 (o ++ flatK [] up o.length).length], [none, some (.row false none NCd (o ++ flatK [] up o.length))])) : Br (Ex × Dt)).run = some (ex, d) from h)
  obtain ⟨rfl, rfl⟩ := Prod.mk.inj h8
  rw [flatK, List.append_nil]
  exact .stop _ _ _ hr (by simp)
 | succ j ih =>
  intro a o hj ha ho ex d h
  by_cases hlt : a < s.length
  ·have hr := dl_round n o.length s up z a o
   have ⟨⟨u1, u2⟩, u3, u4⟩ := tv_any s a
   have hst := decI_step (num := fkB z) (N := fun n => decNum z n 0) (D := fun d => decR z d 0) hlt
   have hcp := cnt_pos z
   have mul : ∀ b : Nat, a < b → b ≤ s.length → cntR z * (b - a) + cntR z * (s.length - b) = cntR z * (s.length - a) := fun b k1 k2 => by rw [← Nat.mul_add]; congr 1; omega
   have bad : ∀ {w}, roundK Tryz.prog (Lqb1 n) (look [(3, dlE n)]) 1 (body Tryz.f188 0) (dlE n) ([.ref 1 0 o.length, .s s, .j (up : Int), .tp LCd z 0, .j (a : Int)], [none, some (.row false none NCd o)]) = w → w = some ((.ret : Ex), (([.ref 1 0 0, .b false] : List V), [none, some (.row false none NCd [])])) → (decI (fkB z) (fun n => decNum z n 0) (fun d => decR z d 0) s (s.length - a) a) = none → Runs Tryz.prog (Lqb1 n) (look [(3, dlE n)]) 1 (body Tryz.f188 0) (dlE n) ([.ref 1 0 o.length, .s s, .j (up : Int), .tp LCd z 0, .j (a : Int)], [none, some (.row false none NCd o)]) ex d := fun e1 e2 e3 => by
    rw [e3] at h
    have h8 := leaf_some (show (Br.leaf (.ret, ([.ref 1 0 0, .b false], [none, some (.row false none NCd [])])) : Br (Ex × Dt)).run = some (ex, d) from h)
    obtain ⟨rfl, rfl⟩ := Prod.mk.inj h8
    exact .stop _ _ _ (e1.trans e2) (by simp)
   rw [ifB_true (dcT (by omega)), ntN] at hr
   cases hf : fkB z with
   | true =>
    rw [hf] at hr hst
    dsimp only at hst
    rw [if_pos rfl, ifB_true (show ((0 : Int) == 0) = true from rfl), ifT_true (dcT (by omega)), ifT_true (dcT (by omega)), ifT_true (dcT ⟨rfl, by omega⟩)] at hr
    cases hn : decNum z (unf (tvI1 (tvAt s a))) 0 with
    | none =>
     rw [hn] at hr hst
     refine bad hr rfl (by rw [hf]; exact hst)
    | some v =>
     rw [hn] at hr hst
     dsimp only at hst
     rw [show (some v).isSome = true from rfl, ifB_t] at hr
     cases h3 : tvI3 (tvAt s a) with
     | false =>
      rw [h3] at hr hst
      exact bad hr rfl (by rw [hf]; exact hst)
     | true =>
      rw [h3] at hr hst
      have e := tv_end h3
      rw [if_pos rfl] at hst
      have k2 := mul (tvI2 a (tvAt s a)).toNat (by omega) (by omega)
      have k3 : cntR z ≤ cntR z * ((tvI2 a (tvAt s a)).toNat - a) := Nat.le_mul_of_pos_right _ (by omega)
      have hv : flatV v up o.length = [(unf (tvI1 (tvAt s a)), [], 0, (up : Int), false, ())] := by
       unfold decNum at hn
       split at hn
       ·cases hn; rw [flatV, flatK]
       ·cases hn
      have h' := dl_map (up := up) (o := o) (by rw [hf]; exact hst) h
      have ih' := ih (tvI2 a (tvAt s a)).toNat (o ++ flatV v up o.length) (by omega) (by omega) (by rw [hv, List.length_append, List.length_singleton]; omega) ex d h'
      rw [hv, List.length_append, List.length_singleton, show (((tvI2 a (tvAt s a)).toNat : Nat) : Int) = tvI2 a (tvAt s a) by omega] at ih'
      exact .step _ _ _ _ hr ih'
   | false =>
    rw [hf] at hr hst
    dsimp only at hst
    rw [if_neg (by simp), ifB_false (show ((2 : Int) == 0) = false from rfl), ifT_true (dcT (by omega))] at hr
    cases h3 : (tbAt s a).2.2 with
    | false =>
     rw [h3] at hr hst
     exact bad hr rfl (by rw [hf]; exact hst)
    | true =>
     rw [h3] at hr hst
     dsimp only at hst
     have e := tb_end h3
     have k2 := mul (tbAt s a).2.1.toNat (by omega) (by omega)
     have k3 : cntR z * ((tbAt s a).1.length + 1) ≤ cntR z * ((tbAt s a).2.1.toNat - a) := Nat.mul_le_mul_left _ (by omega)
     rw [Bool.not_true, ifB_f, ifT_true (dcT ⟨rfl, by omega, hz, hcn, by omega⟩)] at hr
     cases hn : decR z (tbAt s a).1 0 with
     | none =>
      rw [hn] at hr hst
      exact bad hr rfl (by rw [hf]; exact hst)
     | some v =>
      have hsz := decR_size z _ _ v hn
      have hdo : decOut z (tbAt s a).1 0 up o = o ++ flatV v up o.length := by unfold decOut; rw [hn]
      rw [hn, hdo] at hr
      rw [hn] at hst
      dsimp only at hst
      have hl := flatV_len v up o.length
      have h' := dl_map (up := up) (o := o) (by rw [hf]; exact hst) h
      have ih' := ih (tbAt s a).2.1.toNat (o ++ flatV v up o.length) (by omega) (by omega) (by rw [List.length_append, hl]; omega) ex d h'
      rw [show (((tbAt s a).2.1.toNat : Nat) : Int) = (tbAt s a).2.1 by omega] at ih'
      exact .step _ _ _ _ hr ih'
  ·have hr := dl_round n o.length s up z a o
   rw [ifB_false (dcF (by omega))] at hr
   rw [decI_end (by omega)] at h
   have h8 := leaf_some (show (Br.leaf (.exit 0, ([.ref 1 0 (o ++ flatK [] up o.length).length], [none, some (.row false none NCd (o ++ flatK [] up o.length))])) : Br (Ex × Dt)).run = some (ex, d) from h)
   obtain ⟨rfl, rfl⟩ := Prod.mk.inj h8
   rw [flatK, List.append_nil]
   exact .stop _ _ _ hr (by simp)
theorem dl_ok (n : Nat) : LoopsOk Tryz.prog (Lqb1 n) (look [(3, dlE n)]) 1 (Tryz.f188.body.getD .skip) := by
 refine loopsOk_one (a := body Tryz.f188 0) (by kernel_rfl) fun d ex d' h => ?_
 unfold dlE at h
 dsimp only at h
 split at h
 ·rename_i m s up z a o
  obtain ⟨hc, hx⟩ := need_some h
  obtain ⟨rfl, h0, h1, h2, h3, h4, h5, h6⟩ := of_decide_eq_true hc
  obtain ⟨a, rfl⟩ := Int.eq_ofNat_of_zero_le h0
  obtain ⟨up, rfl⟩ := Int.eq_ofNat_of_zero_le h2
  simp only [ntN] at h1 h6 hx
  exact dl_loop n z h4 h5 s h3 up _ a o (Nat.le_refl _) h1 h6 ex d' hx
 ·cases h
theorem dm0_round (n k m w : Nat) (ro : Bool) (up : Int) (ks : List (Rose Lab)) (c i : Int) (o : List Nd) (fs : List Pl) : roundK Tryz.prog (Lqb2 k n) (look [(12, dm0E k)]) 0 (body Tryz.f150 0) (dm0E k) ([.ref 0 0 m, .ref 1 0 w, .j up, .sl (.tree LCd) ks, .j c, .j i], [some (.row false none NCd o), some (.row ro none PCd fs)]) =
 ((ifB (decide (i < c)) (ifT (decide ((0 : Int) ≤ i) && decide (i < (↑ks.length : Int))) (ifSome ks[i.toNat]? fun z => ifB (decide (firstP (fun z_1 => z_1.fst.fst ==
 (Rose.lab z).snd.snd.fst) (0 : Nat) (List.take w (List.drop (0 : Nat) fs)) < (0 : Int))) (ifB (Rose.lab z).snd.snd.snd.fst (some (Ex.ret, [V.ref 0 0 0, V.b false], [some
 (Blk.row false none NCd (nilT NCd.den))])) (some (Ex.normal, [V.ref 0 0 m, V.ref 1 0 w, V.j up, V.sl LCd.tree ks, V.j c, V.j (IntKind.i64.wrap (i + (1 :
 Int)))], [some (Blk.row false none NCd o), some (Blk.row true none PCd fs)]))) (ifT (decide ((0 : Int) ≤ firstP (fun z_1 => z_1.fst.fst == (Rose.lab z).snd.snd.fst) (0 :
 Nat) (List.take w (List.drop (0 : Nat) fs))) && decide (firstP (fun z_1 => z_1.fst.fst == (Rose.lab z).snd.snd.fst) (0 : Nat) (List.take w (List.drop (0 : Nat) fs)) < (↑w
 : Int))) (ifSome fs[(0 : Nat) + (firstP (fun z_1 => z_1.fst.fst == (Rose.lab z).snd.snd.fst) (0 : Nat) (List.take w (List.drop (0 : Nat) fs))).toNat]? fun z_1 => ifB
 (z_1.fst.snd.fst != if fkB z = true then (0 : Int) else (2 : Int)) (some (Ex.ret, [V.ref 0 0 0, V.b false], [some (Blk.row false none NCd (nilT NCd.den))])) (ifB
 (z_1.fst.snd.fst == (0 : Int)) (ifT (decide (m = o.length ∧ o.length ≤ (2000000 : Nat))) (ifB (!(decNum z z_1.fst.snd.snd.fst (Rose.lab z).snd.snd.fst).isSome) (some
 (Ex.ret, [V.ref 0 0 0, V.b false], [some (Blk.row false none NCd (nilT NCd.den))])) (some (Ex.normal, [V.ref 0 0 (o.length + (1 : Nat)), V.ref 1 0 w, V.j up, V.sl
 LCd.tree ks, V.j c, V.j (IntKind.i64.wrap (i + (1 : Int)))], [some (Blk.row false none NCd (o ++ (z_1.fst.snd.snd.fst, nilT UInt8, (Rose.lab z).snd.snd.fst, up,
 false, ()) :: nilT (Int × List UInt8 × Int × Int × Bool × Unit))), some (Blk.row true none PCd fs)])))) (ifT (decide (m = o.length ∧ List.length z_1.fst.snd.snd.snd.fst ≤
 (400 : Nat) ∧ rightR z = true ∧ cntR z ≤ k ∧ o.length + cntR z * (List.length z_1.fst.snd.snd.snd.fst + (1 : Nat)) ≤ (1000000 : Nat))) (ifB (!(decR z
 z_1.fst.snd.snd.snd.fst (Rose.lab z).snd.snd.fst).isSome) (some (Ex.ret, [V.ref 0 0 0, V.b false], [some (Blk.row false none NCd (nilT NCd.den))])) (some (Ex.normal,
 [V.ref 0 0 (decOut z z_1.fst.snd.snd.snd.fst (Rose.lab z).snd.snd.fst up o).length, V.ref 1 0 w, V.j up, V.sl LCd.tree ks, V.j c, V.j (IntKind.i64.wrap (i
 + (1 : Int)))], [some (Blk.row false none NCd (decOut z z_1.fst.snd.snd.snd.fst (Rose.lab z).snd.snd.fst up o)), some (Blk.row true none PCd fs)]))))))))) (some (Ex.exit
 1, [V.ref 0 0 m], [some (Blk.row false none NCd o)]))) : _) := by kernel_rfl
theorem dm0_tree (n k : Nat) (z : Rose Lab) (s : List UInt8) (no up : Int) : funC Tryz.prog (Lqb2 k n) (look [(12, dm0E k)]) Tryz.f150 [.tp LCd z 0, .nl, .s s, .j no, .j up] [] =
 ((ifB (z.lab.fst == (2 : Int)) (some (V.tup [V.ref 0 0 1, V.b (decide ((↑s.length : Int) ≤ (30 : Int)))], [some (Blk.row false none NCd (((0 : Int), s, no, up, false, ()) ::
 nilT NCd.den))])) (ifB (z.lab.fst == (4 : Int)) (ifT (decide ((1 : Nat) = (1 : Nat) ∧ (0 : Int) ≤ (0 : Int) ∧ s.length ≤ (400 : Nat) ∧ z.kids.length = (1 : Nat) ∧
 z.kids.all rightR = true ∧ cntR z ≤ n ∧ (1 : Nat) + cntL z.kids * s.length ≤ (1000000 : Nat))) (some (V.tup [V.ref 0 0 (dlOut z s (0 : Int) (((0 : Int), nilT UInt8, no,
 up, true, ()) :: nilT NCd.den)).length, V.b (decH z.kids s).isSome], [some (Blk.row false none NCd (dlOut z s (0 : Int) (((0 : Int), nilT UInt8, no, up, true, ()) :: nilT
 NCd.den)))]))) (ifT (decide (s.length ≤ (4000000000 : Nat))) (ifB (!(risP s).isSome) (some (V.tup [V.ref 0 0 0, V.b false], [some (Blk.row false none NCd (nilT
 NCd.den))])) (ifT (decide ((1 : Nat) = (1 : Nat) ∧ ((risP s).getD (nilT Pl)).length = ((risP s).getD (nilT Pl)).length ∧ (↑z.kids.length : Int) = (↑z.kids.length : Int) ∧
 (0 : Int) ≤ (0 : Int) ∧ (0 : Nat) ≤ z.kids.length ∧ z.kids.length ≤ (1000000 : Nat) ∧ ((risP s).getD (nilT Pl)).length ≤ (40 : Nat) ∧ (0 : Int) ≤ (0 : Int) ∧ mxD
 (List.map (fun x => x.fst) ((risP s).getD (nilT Pl))) ≤ (400 : Nat) ∧ (((risP s).getD (nilT Pl)).all fun x => fieldB x.fst) = true ∧ cntL z.kids ≤ k ∧ rightL (5 : Int)
 z.kids = true ∧ (1 : Nat) + cntL (List.drop (0 : Nat) z.kids) * (mxD (List.map (fun x => x.fst) ((risP s).getD (nilT Pl))) + (1 : Nat)) ≤ (1000000 : Nat))) (ifB (decM
 (List.drop (0 : Nat) z.kids) (List.map (fun x => x.fst) ((risP s).getD (nilT Pl)))).isSome (some (V.tup [V.ref 0 0 (((0 : Int), nilT UInt8, no, up, true, ()) :: nilT
 NCd.den ++ flatK ((decM (List.drop (0 : Nat) z.kids) (List.map (fun x => x.fst) ((risP s).getD (nilT Pl)))).getD (nilT (Rose VLab))) (0 : Nat) (1 : Nat)).length, V.b
 true], [some (Blk.row false none NCd (((0 : Int), nilT UInt8, no, up, true, ()) :: nilT NCd.den ++ flatK ((decM (List.drop (0 : Nat) z.kids) (List.map (fun x => x.fst)
 ((risP s).getD (nilT Pl)))).getD (nilT (Rose VLab))) (0 : Nat) (1 : Nat)))])) (some (V.tup [V.ref 0 0 0, V.b false], [some (Blk.row false none NCd (nilT NCd.den))])))))))) : _) := by kernel_rfl


theorem dl_fun (n : Nat) (z : Rose Lab) (m : Nat) (s : List UInt8) (up : Int) (nl : Option Bool) (o : List Nd) (hc : m = o.length ∧ 0 ≤ up ∧ s.length ≤ 400 ∧ z.kids.length = 1 ∧ z.kids.all rightR = true ∧ cntR z ≤ (n + 1) ∧ o.length + cntL z.kids * s.length ≤ 1000000) : funE Tryz.prog (Lqb1 n) (look [(3, dlE n)]) Tryz.f188 [.tp LCd z 0, .ref 0 0 m, .s s, .j up] [.row false nl NCd o] = some (.tup [.ref 1 0 (dlOut z s up o).length, .b (decH z.kids s).isSome], [none, some (.row false none NCd (dlOut z s up o))]) := by
 obtain ⟨rfl, h1, h2, h3, h4, h5, h6⟩ := hc
 obtain ⟨up, rfl⟩ := Int.eq_ofNat_of_zero_le h1
 rw [dl_tree]
 obtain ⟨x, ks⟩ := z
 have h3 : ks.length = 1 := h3
 match ks, h3 with
 | [y], _ =>
  have h4 : [y].all rightR = true := h4
  have h6 : o.length + cntL [y] * s.length ≤ 1000000 := h6
  have h5 : cntR (.node x [y]) ≤ n + 1 := h5
  have hy : rightR y = true := by simpa using h4
  have e : cntL [y] = cntR y := by rw [cntL, cntL]; rfl
  have e2 : cntR (.node x [y]) = cntR y + 1 := by rw [cntR, e]
  rw [e] at h6
  rw [ifT_true (by rfl)]
  show ifSome (some y) _ = _
  rw [ifSome_s, Nat.sub_zero, ifT_true (dcT ⟨rfl, by omega, by omega, h1, h2, hy, by omega, h6⟩)]
  unfold dlOut
  dsimp only [Rose.kids]
  rw [decH]
  cases decI (fkB y) (fun n => decNum y n 0) (fun d => decR y d 0) s s.length 0 with
  | none => rfl
  | some vs => rfl
theorem dl_con (n : Nat) (ih : Contract Tryz.prog 150 (Ent.own (decN n)).F) : Contract Tryz.prog 188 (Ent.own (dlN (n + 1))).F := by
 refine fun_contractE (KnowsL.cons (enters_fn Tryz.func191 (by kernel_rfl) (by kernel_rfl)) kfk (KnowsL.cons (enters_fn Tryz.func220 (by kernel_rfl) (by kernel_rfl)) tvi (KnowsL.cons (enters_fn Tryz.func221 (by kernel_rfl) (by kernel_rfl)) iunf (KnowsL.cons (enters_fn Tryz.func192 (by kernel_rfl) (by kernel_rfl)) dnum (KnowsL.cons (enters_fn Tryz.func222 (by kernel_rfl) (by kernel_rfl)) itb (KnowsL.cons (enters_fn Tryz.func150 (by kernel_rfl) (by kernel_rfl)) (ih) KnowsL.nil)))))).knows (Λ := (look [(3, dlE n)])) Tryz.func188 (c := Tryz.f188.body.getD .skip) (by kernel_rfl) fun vs bs r hq => ?_
 unfold Ent.F dlN at hq
 dsimp only at hq
 split at hq
 ·rename_i z m s up nl o
  obtain ⟨hc, hx⟩ := need_some hq
  exact ⟨dl_ok n, (dl_fun n z m s up nl o (of_decide_eq_true hc)).trans hx⟩
 ·cases hq
theorem rightL_mem2 {k : Int} : ∀ {ks : List (Rose Lab)}, rightL k ks = true → ∀ z ∈ ks, partB k z.lab = true ∧ rightR z = true
 | y :: ks, h, z, hz => by
  rw [rightL, anE, anE] at h
  rcases List.mem_cons.1 hz with rfl | hz
  ·exact h.1
  ·exact rightL_mem2 h.2 z hz
theorem fieldB_kind {f : WFd} (h : fieldB f = true) : f.2.1 = 0 ∨ f.2.1 = 2 := by
 unfold fieldB at h
 rw [anE] at h
 have h := h.2
 split at h
 ·rename_i q; exact .inl q
 ·split at h
  ·rename_i q; exact .inr q
  ·cases h
theorem find_pl (fs : List Pl) (no : Int) : (fs.map (·.1)).find? (fun f => f.1 == no) = (fs.find? fun z : Pl => z.1.1 == no).map (·.1) := by
 rw [List.find?_map]
 rfl
theorem dm_map {ks : List (Rose Lab)} {fs : List Pl} {i : Nat} {v : Rose VLab} {up : Nat} {o : List Nd} (h : (decM (ks.drop i) (fs.map (·.1))) = (decM (ks.drop (i + 1)) (fs.map (·.1))).map (v :: ·)) {ex : Ex} {d : Dt} (hd : (Br.br (decM (ks.drop i) (fs.map (·.1))).isSome (.leaf (.exit 1, ([.ref 1 0 (o ++ flatK ((decM (ks.drop i) (fs.map (·.1))).getD []) up o.length).length], [none, some (.row false none NCd (o ++ flatK ((decM (ks.drop i) (fs.map (·.1))).getD []) up o.length))]))) (.leaf (.ret, ([.ref 1 0 0, .b false], [none, some (.row false none NCd [])]))) : Br (Ex × Dt)).run = some (ex, d)) : (Br.br (decM (ks.drop (i + 1)) (fs.map (·.1))).isSome (.leaf (.exit 1, ([.ref 1 0 ((o ++ flatV v up o.length) ++ flatK ((decM (ks.drop (i + 1)) (fs.map (·.1))).getD []) up (o ++ flatV v up o.length).length).length], [none, some (.row false none NCd ((o ++ flatV v up o.length) ++ flatK ((decM (ks.drop (i + 1)) (fs.map (·.1))).getD []) up (o ++ flatV v up o.length).length))]))) (.leaf (.ret, ([.ref 1 0 0, .b false], [none, some (.row false none NCd [])]))) : Br (Ex × Dt)).run = some (ex, d) := by
 rw [h] at hd
 cases e : (decM (ks.drop (i + 1)) (fs.map (·.1))) with
 | none => rw [e] at hd; exact hd
 | some vs =>
  rw [e] at hd
  refine Eq.trans ?_ hd
  show some _ = some _
  rw [show ((Option.map (v :: ·) (some vs)).getD []) = v :: vs from rfl, show ((some vs).getD []) = vs from rfl]
  simp only [flatK, List.length_append, List.append_assoc]
theorem dm_loop (n k : Nat) (ks : List (Rose Lab)) (hks : rightL 5 ks = true) (hcn : cntL ks ≤ k) (hlen : ks.length ≤ 1000000) (fs : List Pl) (hfs : fs.length ≤ 40) (hmx : mxD (fs.map (·.1)) ≤ 400) (hfb : (fs.all fun x => fieldB x.1) = true) (up : Nat) : ∀ (j i : Nat) (ro : Bool) (o : List Nd), i + j = ks.length → o.length + cntL (ks.drop i) * (mxD (fs.map (·.1)) + 1) ≤ 1000000 → ∀ ex d, (Br.br (decM (ks.drop i) (fs.map (·.1))).isSome (.leaf (.exit 1, ([.ref 1 0 (o ++ flatK ((decM (ks.drop i) (fs.map (·.1))).getD []) up o.length).length], [none, some (.row false none NCd (o ++ flatK ((decM (ks.drop i) (fs.map (·.1))).getD []) up o.length))]))) (.leaf (.ret, ([.ref 1 0 0, .b false], [none, some (.row false none NCd [])]))) : Br (Ex × Dt)).run = some (ex, d) → Runs Tryz.prog (Lqb2 k n) (look [(12, dmE k)]) 1 (body Tryz.f150 0) (dmE k) ([.ref 1 0 o.length, .ref 2 0 fs.length, .j (up : Int), .sl (.tree LCd) ks, .j (ks.length : Int), .j (i : Int)], [none, some (.row false none NCd o), some (.row ro none PCd fs)]) ex d
 | 0, i, ro, o, hi, ho, ex, d, h => by
  have hr := dm_round n k o.length fs.length ro up ks ks.length i o fs
  rw [ifB_false (dcF (by omega))] at hr
  rw [List.drop_eq_nil_of_le (by omega), decM] at h
  have h8 := leaf_some (show (Br.leaf (.exit 1, ([.ref 1 0 (o ++ flatK [] up o.length).length], [none, some (.row false none NCd (o ++ flatK [] up o.length))])) : Br (Ex × Dt)).run = some (ex, d) from h)
  obtain ⟨rfl, rfl⟩ := Prod.mk.inj h8
  rw [flatK, List.append_nil]
  exact .stop _ _ _ hr (by simp)
 | j + 1, i, ro, o, hi, ho, ex, d, h => by
  have hl : i < ks.length := by omega
  have hr := dm_round n k o.length fs.length ro up ks ks.length i o fs
  have W1 : IntKind.i64.wrap ((i : Int) + 1) = ((i + 1 : Nat) : Int) := by rw [wrap_id (by omega) (by omega)]; omega
  have hd := List.drop_eq_getElem_cons hl
  have hm := List.getElem_mem hl
  obtain ⟨hp, hrz⟩ := rightL_mem2 hks _ hm
  have hcz := cnt_mem hm
  rw [ifB_true (dcT (by omega)), ifT_true (by simp only [anE, dcE]; omega), ntN, gtE hl, ifSome_s, W1, List.drop_zero, List.take_length] at hr
  have hst := decM_cons ks[i] (ks.drop (i + 1)) (fs.map (·.1))
  rw [← hd, find_pl] at hst
  rw [hd, cntL, Nat.add_mul] at ho
  have hpos := cnt_pos ks[i]
  generalize ks[i] = p at hr hst ho hp hrz hcz hpos
  have bad : ∀ {w}, roundK Tryz.prog (Lqb2 k n) (look [(12, dmE k)]) 1 (body Tryz.f150 0) (dmE k) ([.ref 1 0 o.length, .ref 2 0 fs.length, .j (up : Int), .sl (.tree LCd) ks, .j (ks.length : Int), .j (i : Int)], [none, some (.row false none NCd o), some (.row ro none PCd fs)]) = w → w = some ((.ret : Ex), (([.ref 1 0 0, .b false] : List V), [none, some (.row false none NCd [])])) → (decM (ks.drop i) (fs.map (·.1))) = none → Runs Tryz.prog (Lqb2 k n) (look [(12, dmE k)]) 1 (body Tryz.f150 0) (dmE k) ([.ref 1 0 o.length, .ref 2 0 fs.length, .j (up : Int), .sl (.tree LCd) ks, .j (ks.length : Int), .j (i : Int)], [none, some (.row false none NCd o), some (.row ro none PCd fs)]) ex d := fun e1 e2 e3 => by
   rw [e3] at h
   have h8 := leaf_some (show (Br.leaf (.ret, ([.ref 1 0 0, .b false], [none, some (.row false none NCd [])])) : Br (Ex × Dt)).run = some (ex, d) from h)
   obtain ⟨rfl, rfl⟩ := Prod.mk.inj h8
   exact .stop _ _ _ (e1.trans e2) (by simp)
  by_cases q : firstP (fun z : Pl => z.1.1 == p.lab.2.2.1) 0 fs < 0
  ·rw [firstP_no _ _ _ q] at hst
   rw [ifB_true (dcT q)] at hr
   dsimp only [Option.map_none] at hst
   cases hmu : p.lab.2.2.2.1 with
   | true =>
    rw [hmu] at hr hst
    exact bad hr rfl (hst.trans (if_pos rfl))
   | false =>
    rw [hmu] at hr hst
    rw [if_neg (by simp)] at hst
    have ih := dm_loop n k ks hks hcn hlen fs hfs hmx hfb up j (i + 1) true o (by omega) (by omega) ex d (by rw [← hst]; exact h)
    exact .step _ _ _ _ hr ih
  ·obtain ⟨q0, hq0, hq1, hq2, hq3⟩ := firstP_at (fun z : Pl => z.1.1 == p.lab.2.2.1) fs 0 (by omega)
   rw [hq3] at hst
   dsimp only [Option.map_some] at hst
   have hno : fs[q0].1.1 = p.lab.2.2.1 := by simpa using hq2
   have hmem : fs[q0].1 ∈ fs.map (·.1) := List.mem_map.2 ⟨_, List.getElem_mem hq0, rfl⟩
   have hml := mx_mem hmem
   have hkd := fieldB_kind (List.all_eq_true.1 hfb _ (List.getElem_mem hq0))
   rw [ifB_false (dcF q), hq1, Nat.zero_add, ifT_true (by simp only [anE, dcE]; omega), ntN, Nat.zero_add, gtE hq0, ifSome_s] at hr
   generalize fs[q0].1 = f at hr hst hno hml hkd
   unfold decF at hst
   rw [hno] at hst
   by_cases hk0 : f.2.1 = 0
   ·have hb0 : (f.2.1 == 0) = true := by rw [hk0]; rfl
    cases hfk : fkB p with
    | false =>
     rw [hfk] at hr hst
     rw [if_neg (by rw [hb0]; simp)] at hst
     rw [ifB_true (by rw [hk0]; rfl)] at hr
     exact bad hr rfl hst
    | true =>
     rw [hfk] at hr hst
     rw [if_pos hb0, if_pos hb0] at hst
     rw [ifB_false (by rw [hk0]; rfl), ifB_true hb0, ifT_true (dcT ⟨rfl, by omega⟩)] at hr
     cases hn : decNum p f.2.2.1 p.lab.2.2.1 with
     | none =>
      rw [hn] at hr hst
      exact bad hr rfl hst
     | some v =>
      rw [hn] at hr hst
      dsimp only at hst
      have hv : flatV v up o.length = [(f.2.2.1, [], p.lab.2.2.1, (up : Int), false, ())] := by
       unfold decNum at hn
       split at hn
       ·cases hn; rw [flatV, flatK]
       ·cases hn
      have h' := dm_map (up := up) (o := o) hst h
      have hmul : 1 ≤ cntR p * (mxD (fs.map (·.1)) + 1) := Nat.mul_pos hpos (by omega)
      have ih := dm_loop n k ks hks hcn hlen fs hfs hmx hfb up j (i + 1) true (o ++ flatV v up o.length) (by omega) (by rw [hv, List.length_append, List.length_singleton]; omega) ex d h'
      rw [hv, List.length_append, List.length_singleton] at ih
      exact .step _ _ _ _ hr ih
   ·have hb0 : (f.2.1 == 0) = false := beq_eq_false_iff_ne.2 hk0
    cases hfk : fkB p with
    | true =>
     rw [hfk] at hr hst
     rw [if_neg (by rw [hb0]; simp)] at hst
     rw [if_pos rfl, ifB_true (bne_iff_ne.2 hk0)] at hr
     exact bad hr rfl hst
    | false =>
     rw [hfk] at hr hst
     rw [if_pos hb0, if_neg (by rw [hb0]; simp)] at hst
     rw [if_neg (by simp)] at hr
     have hk2 : f.2.1 = 2 := by rcases hkd with e | e; exact absurd e hk0; exact e
     have hml2 : cntR p * (f.2.2.2.1.length + 1) ≤ cntR p * (mxD (fs.map (·.1)) + 1) := Nat.mul_le_mul_left _ (by omega)
     rw [ifB_false (by rw [hk2]; rfl), ifB_false hb0, ifT_true (dcT ⟨rfl, by omega, hrz, by omega, by omega⟩)] at hr
     cases hn : decR p f.2.2.2.1 p.lab.2.2.1 with
     | none =>
      rw [hn] at hr hst
      exact bad hr rfl hst
     | some v =>
      have hsz := decR_size p _ _ v hn
      have hdo : decOut p f.2.2.2.1 p.lab.2.2.1 up o = o ++ flatV v up o.length := by unfold decOut; rw [hn]
      rw [hn, hdo] at hr
      rw [hn] at hst
      dsimp only at hst
      have hl2 := flatV_len v up o.length
      have h' := dm_map (up := up) (o := o) hst h
      have ih := dm_loop n k ks hks hcn hlen fs hfs hmx hfb up j (i + 1) true (o ++ flatV v up o.length) (by omega) (by rw [List.length_append, hl2]; omega) ex d h'
      exact .step _ _ _ _ hr ih
theorem dm_ok (n k : Nat) : LoopsOk Tryz.prog (Lqb2 k n) (look [(12, dmE k)]) 1 (Tryz.f150.body.getD .skip) := by
 refine loopsOk_one (a := body Tryz.f150 0) (by kernel_rfl) fun d ex d' h => ?_
 unfold dmE at h
 dsimp only at h
 split at h
 ·rename_i m w up ks c i o ro fs
  obtain ⟨hc, hx⟩ := need_some h
  obtain ⟨rfl, rfl, rfl, h1, h2, h3, h4, h5, h6, h7, h8, h9, h10⟩ := of_decide_eq_true hc
  obtain ⟨i, rfl⟩ := Int.eq_ofNat_of_zero_le h1
  obtain ⟨up, rfl⟩ := Int.eq_ofNat_of_zero_le h5
  simp only [ntN] at h2 h10 hx
  exact dm_loop n k ks h9 h8 h3 fs h4 h6 h7 up (ks.length - i) i ro o (by omega) h10 ex d' hx
 ·cases h
theorem dm0_map {ks : List (Rose Lab)} {fs : List Pl} {i : Nat} {v : Rose VLab} {up : Nat} {o : List Nd} (h : (decM (ks.drop i) (fs.map (·.1))) = (decM (ks.drop (i + 1)) (fs.map (·.1))).map (v :: ·)) {ex : Ex} {d : Dt} (hd : (Br.br (decM (ks.drop i) (fs.map (·.1))).isSome (.leaf (.exit 1, ([.ref 0 0 (o ++ flatK ((decM (ks.drop i) (fs.map (·.1))).getD []) up o.length).length], [some (.row false none NCd (o ++ flatK ((decM (ks.drop i) (fs.map (·.1))).getD []) up o.length))]))) (.leaf (.ret, ([.ref 0 0 0, .b false], [some (.row false none NCd [])]))) : Br (Ex × Dt)).run = some (ex, d)) : (Br.br (decM (ks.drop (i + 1)) (fs.map (·.1))).isSome (.leaf (.exit 1, ([.ref 0 0 ((o ++ flatV v up o.length) ++ flatK ((decM (ks.drop (i + 1)) (fs.map (·.1))).getD []) up (o ++ flatV v up o.length).length).length], [some (.row false none NCd ((o ++ flatV v up o.length) ++ flatK ((decM (ks.drop (i + 1)) (fs.map (·.1))).getD []) up (o ++ flatV v up o.length).length))]))) (.leaf (.ret, ([.ref 0 0 0, .b false], [some (.row false none NCd [])]))) : Br (Ex × Dt)).run = some (ex, d) := by
 rw [h] at hd
 cases e : (decM (ks.drop (i + 1)) (fs.map (·.1))) with
 | none => rw [e] at hd; exact hd
 | some vs =>
  rw [e] at hd
  refine Eq.trans ?_ hd
  show some _ = some _
  rw [show ((Option.map (v :: ·) (some vs)).getD []) = v :: vs from rfl, show ((some vs).getD []) = vs from rfl]
  simp only [flatK, List.length_append, List.append_assoc]
theorem dm0_loop (n k : Nat) (ks : List (Rose Lab)) (hks : rightL 5 ks = true) (hcn : cntL ks ≤ k) (hlen : ks.length ≤ 1000000) (fs : List Pl) (hfs : fs.length ≤ 40) (hmx : mxD (fs.map (·.1)) ≤ 400) (hfb : (fs.all fun x => fieldB x.1) = true) (up : Nat) : ∀ (j i : Nat) (ro : Bool) (o : List Nd), i + j = ks.length → o.length + cntL (ks.drop i) * (mxD (fs.map (·.1)) + 1) ≤ 1000000 → ∀ ex d, (Br.br (decM (ks.drop i) (fs.map (·.1))).isSome (.leaf (.exit 1, ([.ref 0 0 (o ++ flatK ((decM (ks.drop i) (fs.map (·.1))).getD []) up o.length).length], [some (.row false none NCd (o ++ flatK ((decM (ks.drop i) (fs.map (·.1))).getD []) up o.length))]))) (.leaf (.ret, ([.ref 0 0 0, .b false], [some (.row false none NCd [])]))) : Br (Ex × Dt)).run = some (ex, d) → Runs Tryz.prog (Lqb2 k n) (look [(12, dm0E k)]) 0 (body Tryz.f150 0) (dm0E k) ([.ref 0 0 o.length, .ref 1 0 fs.length, .j (up : Int), .sl (.tree LCd) ks, .j (ks.length : Int), .j (i : Int)], [some (.row false none NCd o), some (.row ro none PCd fs)]) ex d
 | 0, i, ro, o, hi, ho, ex, d, h => by
  have hr := dm0_round n k o.length fs.length ro up ks ks.length i o fs
  rw [ifB_false (dcF (by omega))] at hr
  rw [List.drop_eq_nil_of_le (by omega), decM] at h
  have h8 := leaf_some (show (Br.leaf (.exit 1, ([.ref 0 0 (o ++ flatK [] up o.length).length], [some (.row false none NCd (o ++ flatK [] up o.length))])) : Br (Ex × Dt)).run = some (ex, d) from h)
  obtain ⟨rfl, rfl⟩ := Prod.mk.inj h8
  rw [flatK, List.append_nil]
  exact .stop _ _ _ hr (by simp)
 | j + 1, i, ro, o, hi, ho, ex, d, h => by
  have hl : i < ks.length := by omega
  have hr := dm0_round n k o.length fs.length ro up ks ks.length i o fs
  have W1 : IntKind.i64.wrap ((i : Int) + 1) = ((i + 1 : Nat) : Int) := by rw [wrap_id (by omega) (by omega)]; omega
  have hd := List.drop_eq_getElem_cons hl
  have hm := List.getElem_mem hl
  obtain ⟨hp, hrz⟩ := rightL_mem2 hks _ hm
  have hcz := cnt_mem hm
  rw [ifB_true (dcT (by omega)), ifT_true (by simp only [anE, dcE]; omega), ntN, gtE hl, ifSome_s, W1, List.drop_zero, List.take_length] at hr
  have hst := decM_cons ks[i] (ks.drop (i + 1)) (fs.map (·.1))
  rw [← hd, find_pl] at hst
  rw [hd, cntL, Nat.add_mul] at ho
  have hpos := cnt_pos ks[i]
  generalize ks[i] = p at hr hst ho hp hrz hcz hpos
  have bad : ∀ {w}, roundK Tryz.prog (Lqb2 k n) (look [(12, dm0E k)]) 0 (body Tryz.f150 0) (dm0E k) ([.ref 0 0 o.length, .ref 1 0 fs.length, .j (up : Int), .sl (.tree LCd) ks, .j (ks.length : Int), .j (i : Int)], [some (.row false none NCd o), some (.row ro none PCd fs)]) = w → w = some ((.ret : Ex), (([.ref 0 0 0, .b false] : List V), [some (.row false none NCd [])])) → (decM (ks.drop i) (fs.map (·.1))) = none → Runs Tryz.prog (Lqb2 k n) (look [(12, dm0E k)]) 0 (body Tryz.f150 0) (dm0E k) ([.ref 0 0 o.length, .ref 1 0 fs.length, .j (up : Int), .sl (.tree LCd) ks, .j (ks.length : Int), .j (i : Int)], [some (.row false none NCd o), some (.row ro none PCd fs)]) ex d := fun e1 e2 e3 => by
   rw [e3] at h
   have h8 := leaf_some (show (Br.leaf (.ret, ([.ref 0 0 0, .b false], [some (.row false none NCd [])])) : Br (Ex × Dt)).run = some (ex, d) from h)
   obtain ⟨rfl, rfl⟩ := Prod.mk.inj h8
   exact .stop _ _ _ (e1.trans e2) (by simp)
  by_cases q : firstP (fun z : Pl => z.1.1 == p.lab.2.2.1) 0 fs < 0
  ·rw [firstP_no _ _ _ q] at hst
   rw [ifB_true (dcT q)] at hr
   dsimp only [Option.map_none] at hst
   cases hmu : p.lab.2.2.2.1 with
   | true =>
    rw [hmu] at hr hst
    exact bad hr rfl (hst.trans (if_pos rfl))
   | false =>
    rw [hmu] at hr hst
    rw [if_neg (by simp)] at hst
    have ih := dm0_loop n k ks hks hcn hlen fs hfs hmx hfb up j (i + 1) true o (by omega) (by omega) ex d (by rw [← hst]; exact h)
    exact .step _ _ _ _ hr ih
  ·obtain ⟨q0, hq0, hq1, hq2, hq3⟩ := firstP_at (fun z : Pl => z.1.1 == p.lab.2.2.1) fs 0 (by omega)
   rw [hq3] at hst
   dsimp only [Option.map_some] at hst
   have hno : fs[q0].1.1 = p.lab.2.2.1 := by simpa using hq2
   have hmem : fs[q0].1 ∈ fs.map (·.1) := List.mem_map.2 ⟨_, List.getElem_mem hq0, rfl⟩
   have hml := mx_mem hmem
   have hkd := fieldB_kind (List.all_eq_true.1 hfb _ (List.getElem_mem hq0))
   rw [ifB_false (dcF q), hq1, Nat.zero_add, ifT_true (by simp only [anE, dcE]; omega), ntN, Nat.zero_add, gtE hq0, ifSome_s] at hr
   generalize fs[q0].1 = f at hr hst hno hml hkd
   unfold decF at hst
   rw [hno] at hst
   by_cases hk0 : f.2.1 = 0
   ·have hb0 : (f.2.1 == 0) = true := by rw [hk0]; rfl
    cases hfk : fkB p with
    | false =>
     rw [hfk] at hr hst
     rw [if_neg (by rw [hb0]; simp)] at hst
     rw [ifB_true (by rw [hk0]; rfl)] at hr
     exact bad hr rfl hst
    | true =>
     rw [hfk] at hr hst
     rw [if_pos hb0, if_pos hb0] at hst
     rw [ifB_false (by rw [hk0]; rfl), ifB_true hb0, ifT_true (dcT ⟨rfl, by omega⟩)] at hr
     cases hn : decNum p f.2.2.1 p.lab.2.2.1 with
     | none =>
      rw [hn] at hr hst
      exact bad hr rfl hst
     | some v =>
      rw [hn] at hr hst
      dsimp only at hst
      have hv : flatV v up o.length = [(f.2.2.1, [], p.lab.2.2.1, (up : Int), false, ())] := by
       unfold decNum at hn
       split at hn
       ·cases hn; rw [flatV, flatK]
       ·cases hn
      have h' := dm0_map (up := up) (o := o) hst h
      have hmul : 1 ≤ cntR p * (mxD (fs.map (·.1)) + 1) := Nat.mul_pos hpos (by omega)
      have ih := dm0_loop n k ks hks hcn hlen fs hfs hmx hfb up j (i + 1) true (o ++ flatV v up o.length) (by omega) (by rw [hv, List.length_append, List.length_singleton]; omega) ex d h'
      rw [hv, List.length_append, List.length_singleton] at ih
      exact .step _ _ _ _ hr ih
   ·have hb0 : (f.2.1 == 0) = false := beq_eq_false_iff_ne.2 hk0
    cases hfk : fkB p with
    | true =>
     rw [hfk] at hr hst
     rw [if_neg (by rw [hb0]; simp)] at hst
     rw [if_pos rfl, ifB_true (bne_iff_ne.2 hk0)] at hr
     exact bad hr rfl hst
    | false =>
     rw [hfk] at hr hst
     rw [if_pos hb0, if_neg (by rw [hb0]; simp)] at hst
     rw [if_neg (by simp)] at hr
     have hk2 : f.2.1 = 2 := by rcases hkd with e | e; exact absurd e hk0; exact e
     have hml2 : cntR p * (f.2.2.2.1.length + 1) ≤ cntR p * (mxD (fs.map (·.1)) + 1) := Nat.mul_le_mul_left _ (by omega)
     rw [ifB_false (by rw [hk2]; rfl), ifB_false hb0, ifT_true (dcT ⟨rfl, by omega, hrz, by omega, by omega⟩)] at hr
     cases hn : decR p f.2.2.2.1 p.lab.2.2.1 with
     | none =>
      rw [hn] at hr hst
      exact bad hr rfl hst
     | some v =>
      have hsz := decR_size p _ _ v hn
      have hdo : decOut p f.2.2.2.1 p.lab.2.2.1 up o = o ++ flatV v up o.length := by unfold decOut; rw [hn]
      rw [hn, hdo] at hr
      rw [hn] at hst
      dsimp only at hst
      have hl2 := flatV_len v up o.length
      have h' := dm0_map (up := up) (o := o) hst h
      have ih := dm0_loop n k ks hks hcn hlen fs hfs hmx hfb up j (i + 1) true (o ++ flatV v up o.length) (by omega) (by rw [List.length_append, hl2]; omega) ex d h'
      exact .step _ _ _ _ hr ih
theorem dm0_ok (n k : Nat) : LoopsOk Tryz.prog (Lqb2 k n) (look [(12, dm0E k)]) 0 (Tryz.f150.body.getD .skip) := by
 refine loopsOk_one (a := body Tryz.f150 0) (by kernel_rfl) fun d ex d' h => ?_
 unfold dm0E at h
 dsimp only at h
 split at h
 ·rename_i m w up ks c i o ro fs
  obtain ⟨hc, hx⟩ := need_some h
  obtain ⟨rfl, rfl, rfl, h1, h2, h3, h4, h5, h6, h7, h8, h9, h10⟩ := of_decide_eq_true hc
  obtain ⟨i, rfl⟩ := Int.eq_ofNat_of_zero_le h1
  obtain ⟨up, rfl⟩ := Int.eq_ofNat_of_zero_le h5
  simp only [ntN] at h2 h10 hx
  exact dm0_loop n k ks h9 h8 h3 fs h4 h6 h7 up (ks.length - i) i ro o (by omega) h10 ex d' hx
 ·cases h

def valB (z : Rose Lab) (s : List UInt8) : Bool := decide (s.length ≤ 400) && (decR z s 0).isSome
def valL (z : Rose Lab) (s : List UInt8) : List Nd := bif valB z s then decOut z s 0 (-1) [] else []
def validG : List V → List Blk → Br (V × List (Option Blk))
 | [.tp (.pair (.int .i64) (.pair .str (.pair (.int .i64) (.pair .bool (.pair (.int .i64) .unit))))) z 0, .s s], [] => .need (decide (goodR z = true ∧ s.length ≤ 4000000000)) (.leaf (.tup [.ref 0 0 (valL z s).length, .b (valB z s)], [some (.row false none (.pair (.int .i64) (.pair .str (.pair (.int .i64) (.pair (.int .i64) (.pair .bool .unit))))) (valL z s))]))
 | _, _ => .no

theorem ris_P {s : List UInt8} {l : List Pl} (h : risP s = some l) : risF s = some (l.map (·.1)) := by rw [risF_eq, h]; rfl
theorem ris_facts {s : List UInt8} {l : List Pl} (h : risP s = some l) : l.length ≤ 40 ∧ (l.all fun x => fieldB x.1) = true ∧ mxD (l.map (·.1)) ≤ s.length ∧ mxD (l.map (·.1)) ≤ 400 := by
 obtain ⟨h1, h2, h3⟩ := ris_all (ris_P h)
 have h4 : mxD (l.map (·.1)) ≤ s.length := mx_le fun f hf => (h1 f hf).2
 refine ⟨?_, List.all_eq_true.2 fun x hx => (h1 _ (List.mem_map.2 ⟨x, hx, rfl⟩)).1, h4, by omega⟩
 unfold risP at h
 cases e : rdP s with
 | none => rw [e] at h; cases h
 | some l' =>
  rw [e] at h
  dsimp only at h
  have := (rdP_len e).1
  split at h
  ·cases h; exact this
  ·cases h
theorem right_kids {z : Rose Lab} (h : rightR z = true) : partsB z.lab z.kids = true ∧ rightL z.lab.1 z.kids = true := by
 obtain ⟨x, ks⟩ := z
 rw [rightR, anE] at h
 exact h
theorem right_list {z : Rose Lab} (h : rightR z = true) (h4 : z.lab.1 = 4) : z.kids.length = 1 ∧ z.kids.all rightR = true := by
 obtain ⟨h1, h2⟩ := right_kids h
 refine ⟨?_, List.all_eq_true.2 fun y hy => (rightL_mem2 h2 y hy).2⟩
 unfold partsB at h1
 rw [if_neg (by omega), if_neg (by omega), if_pos h4, anE] at h1
 simpa using h1.2
theorem right_msg {z : Rose Lab} (h : rightR z = true) (h4 : z.lab.1 ≠ 4) : rightL 5 z.kids = true := by
 obtain ⟨h1, h2⟩ := right_kids h
 by_cases h5 : z.lab.1 = 5
 ·rw [h5] at h2; exact h2
 ·unfold partsB at h1
  have e : z.kids = [] := by
   split at h1
   ·rw [anE] at h1; exact List.eq_nil_of_length_eq_zero (by simpa using h1.2)
   ·split at h1
    ·rw [anE] at h1; exact List.eq_nil_of_length_eq_zero (by simpa using h1.2)
    ·rw [if_pos (.inl h5)] at h1; cases h1
  rw [e]; rfl
theorem decR_text {z : Rose Lab} {s : List UInt8} {no : Int} (h : z.lab.1 = 2) : decR z s no = if s.length ≤ 30 then some (.node (0, s, no, false, ()) []) else none := by
 obtain ⟨x, ks⟩ := z
 have h : x.1 = 2 := h
 rw [decR, if_pos h]
theorem decR_list {z : Rose Lab} {s : List UInt8} {no : Int} (h : z.lab.1 = 4) : decR z s no = (decH z.kids s).map fun vs => .node (0, [], no, true, ()) vs := by
 obtain ⟨x, ks⟩ := z
 have h : x.1 = 4 := h
 rw [decR, if_neg (by omega), if_pos h]; rfl
theorem decR_msg {z : Rose Lab} {s : List UInt8} {no : Int} (h : z.lab.1 ≠ 2) (h4 : z.lab.1 ≠ 4) : decR z s no = (match risF s with
   | some fs => (decM z.kids fs).map fun vs => .node (0, [], no, true, ()) vs
   | none => none) := by
 obtain ⟨x, ks⟩ := z
 have h : x.1 ≠ 2 := h
 have h4 : x.1 ≠ 4 := h4
 rw [decR, if_neg h, if_neg h4]; rfl
theorem dm_fun (n : Nat) (z : Rose Lab) (m : Nat) (s : List UInt8) (no up : Int) (nl : Option Bool) (o : List Nd) (hc : m = o.length ∧ s.length ≤ 400 ∧ rightR z = true ∧ cntR z ≤ (n + 1) ∧ o.length + cntR z * (s.length + 1) ≤ 1000000) : funC Tryz.prog (look [(188, .own (dlN (n + 1))), (151, .rd1 risG), (189, .mix dfiG), (191, .rd1 kfkG), (192, .own dnumG), (150, .own (decN n))]) (look [(12, dmE n)]) Tryz.f150 [.tp LCd z 0, .ref 0 0 m, .s s, .j no, .j up] [.row false nl NCd o] = some (.tup [.ref 1 0 (decOut z s no up o).length, .b (decR z s no).isSome], [none, some (.row false none NCd (decOut z s no up o))]) := by
 obtain ⟨rfl, h2, h3, h4, h5⟩ := hc
 rw [dm_tree]
 have hM : maxI = 9223372036854775807 := rfl
 have hcp := cnt_pos z
 have hck := cnt_kids z
 have hlen := cnt_len z.kids
 have h6 : 1 ≤ cntR z * (s.length + 1) := Nat.mul_pos hcp (by omega)
 have h7 : cntR z * (s.length + 1) = cntL z.kids * s.length + cntL z.kids + s.length + 1 := by rw [hck, Nat.add_mul, Nat.mul_add]; omega
 have el : (decide ((o.length + 1) * 48 ≤ 140737488355328) && decide (o.length + 1 ≤ maxI)) = true := by simp only [anE, dcE]; omega
 simp only [nilT_eq, List.drop_zero, List.take_length, ifT_true el]
 by_cases q2 : z.lab.1 = 2
 ·rw [ifB_true (beq_iff_eq.2 q2)]
  unfold decOut
  rw [decR_text q2, if_pos q2]
  by_cases q3 : s.length ≤ 30
  ·rw [if_pos q3, dcT (by omega)]
   dsimp only
   rw [flatV, flatK, List.length_append, List.length_singleton]
   rfl
  ·rw [if_neg q3, dcF (by omega)]
   dsimp only
   rw [List.length_append, List.length_singleton]
   rfl
 ·rw [ifB_false (beq_eq_false_iff_ne.2 q2)]
  by_cases q4 : z.lab.1 = 4
  ·obtain ⟨k1, k2⟩ := right_list h3 q4
   rw [ifB_true (beq_iff_eq.2 q4), ifT_true (dcT ⟨by simp, by omega, h2, k1, k2, h4, by simp; omega⟩)]
   unfold decOut dlOut
   rw [decR_list q4, if_neg q2]
   cases decH z.kids s with
   | none => rfl
   | some vs =>
    dsimp only [Option.map]
    rw [flatV]
    simp only [List.length_append, List.length_singleton, ntN, List.append_assoc, List.singleton_append]
    all_goals rfl
  ·rw [ifB_false (beq_eq_false_iff_ne.2 q4), ifT_true (dcT (by omega))]
   unfold decOut
   rw [decR_msg q2 q4, if_neg q2]
   cases hr : risP s with
   | none => rw [risF_eq, hr]; rfl
   | some w =>
    obtain ⟨f1, f2, f3, f4⟩ := ris_facts hr
    rw [ris_P hr]
    have h8 : cntL z.kids * (mxD (w.map (·.1)) + 1) ≤ cntL z.kids * (s.length + 1) := Nat.mul_le_mul_left _ (by omega)
    have h9 : cntL z.kids * (s.length + 1) = cntL z.kids * s.length + cntL z.kids := by rw [Nat.mul_add, Nat.mul_one]
    dsimp only [Option.isSome, Option.getD]
    rw [Bool.not_true, ifB_f, ifT_true (dcT ⟨by simp, by first | trivial | rfl, by first | trivial | rfl, by omega, by omega, by omega, f1, by omega, f4, f2, by omega, right_msg h3 q4, by simp; omega⟩), ntN]
    cases decM z.kids (w.map (·.1)) with
    | none => rfl
    | some vs =>
     dsimp only [Option.map, Option.isSome, Option.getD]
     rw [flatV, ifB_t]
     simp only [List.length_append, List.length_singleton, List.append_assoc, List.singleton_append]
     all_goals rfl
theorem dec_con : ∀ n, (∀ m, m < n → Contract Tryz.prog 150 (Ent.own (decN m)).F) → Contract Tryz.prog 150 (Ent.own (decN n)).F
 | 0, _ => contract_no fun vs bs => by
  unfold Ent.F decN
  dsimp only
  split
  ·rename_i z m s no up nl o
   have hz := cnt_pos z
   have : decide (m = o.length ∧ s.length ≤ 400 ∧ rightR z = true ∧ cntR z ≤ 0 ∧ o.length + cntR z * (s.length + 1) ≤ 1000000) = false := dcF (by omega)
   rw [this]; rfl
  ·rfl
 | n + 1, ihs => by
  have ih := ihs n (Nat.lt_succ_self n)
  have hl := dl_con n ih
  refine fun_contractC' (KnowsL.cons (enters_fn Tryz.func188 (by kernel_rfl) (by kernel_rfl)) hl (KnowsL.cons (enters_fn Tryz.func151 (by kernel_rfl) (by kernel_rfl)) ris (KnowsL.cons (enters_fn Tryz.func189 (by kernel_rfl) (by kernel_rfl)) df_mix (KnowsL.cons (enters_fn Tryz.func191 (by kernel_rfl) (by kernel_rfl)) kfk (KnowsL.cons (enters_fn Tryz.func192 (by kernel_rfl) (by kernel_rfl)) dnum (KnowsL.cons (enters_fn Tryz.func150 (by kernel_rfl) (by kernel_rfl)) ih KnowsL.nil)))))).knows (Λ := (look [(12, dmE n)])) Tryz.func150 (c := Tryz.f150.body.getD .skip) (by kernel_rfl) fun vs bs r hq hv hb => ?_
  unfold Ent.F decN at hq
  dsimp only at hq
  split at hq
  ·rename_i z m s no up nl o
   obtain ⟨hc, hx⟩ := need_some hq
   exact ⟨dm_ok (n + 1) n, (dm_fun n z m s no up nl o (of_decide_eq_true hc)).trans hx⟩
  ·cases hq
theorem dec_all (n : Nat) : Contract Tryz.prog 150 (Ent.own (decN n)).F := Nat.strongRecOn n fun n h => dec_con n h
theorem dm0_fun (n : Nat) (z : Rose Lab) (s : List UInt8) (no up : Int) (h1 : z.lab.1 = 5) (h2 : s.length ≤ 400) (h3 : rightR z = true) (h4 : cntR z ≤ n + 1) (h5 : cntR z * (s.length + 1) ≤ 1000000) : funC Tryz.prog (look [(188, .own (dlN (n + 1))), (151, .rd1 risG), (189, .mix dfiG), (191, .rd1 kfkG), (192, .own dnumG), (150, .own (decN n))]) (look [(12, dm0E n)]) Tryz.f150 [.tp LCd z 0, .nl, .s s, .j no, .j up] [] = some (.tup [.ref 0 0 (decOut z s no up []).length, .b (decR z s no).isSome], [some (.row false none NCd (decOut z s no up []))]) := by
 rw [dm0_tree]
 have hck := cnt_kids z
 have hlen := cnt_len z.kids
 have h7 : cntR z * (s.length + 1) = cntL z.kids * s.length + cntL z.kids + s.length + 1 := by rw [hck, Nat.add_mul, Nat.mul_add]; omega
 have q2 : z.lab.1 ≠ 2 := by omega
 have q4 : z.lab.1 ≠ 4 := by omega
 simp only [nilT_eq, List.drop_zero]
 rw [ifB_false (beq_eq_false_iff_ne.2 q2), ifB_false (beq_eq_false_iff_ne.2 q4), ifT_true (dcT (by omega))]
 unfold decOut
 rw [decR_msg q2 q4, if_neg q2]
 cases hr : risP s with
 | none => rw [risF_eq, hr]; rfl
 | some w =>
  obtain ⟨f1, f2, f3, f4⟩ := ris_facts hr
  rw [ris_P hr]
  have h8 : cntL z.kids * (mxD (w.map (·.1)) + 1) ≤ cntL z.kids * (s.length + 1) := Nat.mul_le_mul_left _ (by omega)
  have h9 : cntL z.kids * (s.length + 1) = cntL z.kids * s.length + cntL z.kids := by rw [Nat.mul_add, Nat.mul_one]
  dsimp only [Option.isSome, Option.getD]
  rw [Bool.not_true, ifB_f, ifT_true (dcT ⟨by first | trivial | rfl, by first | trivial | rfl, by first | trivial | rfl, by omega, by omega, by omega, f1, by omega, f4, f2, by omega, right_msg h3 q4, by omega⟩)]
  cases decM z.kids (w.map (·.1)) with
  | none => rfl
  | some vs =>
   dsimp only [Option.map, Option.isSome, Option.getD]
   rw [flatV]
   rfl
theorem dec0_con : Contract Tryz.prog 150 (Ent.own decN0).F := by
 have ih := dec_all 1000000
 have hl := dl_con 1000000 ih
 refine fun_contractC' (KnowsL.cons (enters_fn Tryz.func188 (by kernel_rfl) (by kernel_rfl)) hl (KnowsL.cons (enters_fn Tryz.func151 (by kernel_rfl) (by kernel_rfl)) ris (KnowsL.cons (enters_fn Tryz.func189 (by kernel_rfl) (by kernel_rfl)) df_mix (KnowsL.cons (enters_fn Tryz.func191 (by kernel_rfl) (by kernel_rfl)) kfk (KnowsL.cons (enters_fn Tryz.func192 (by kernel_rfl) (by kernel_rfl)) dnum (KnowsL.cons (enters_fn Tryz.func150 (by kernel_rfl) (by kernel_rfl)) ih KnowsL.nil)))))).knows (Λ := (look [(12, dm0E 1000000)])) Tryz.func150 (c := Tryz.f150.body.getD .skip) (by kernel_rfl) fun vs bs r hq hv hb => ?_
 unfold Ent.F decN0 at hq
 dsimp only at hq
 split at hq
 ·rename_i z s no up
  obtain ⟨hc, hx⟩ := need_some hq
  obtain ⟨h1, h2, h3, h5⟩ := of_decide_eq_true hc
  have h6 : cntR z ≤ cntR z * (s.length + 1) := Nat.le_mul_of_pos_right _ (by omega)
  exact ⟨dm0_ok (1000000 + 1) 1000000, (dm0_fun 1000000 z s no up h1 h2 h3 (by omega) h5).trans hx⟩
 ·cases hq
theorem good_facts {z : Rose Lab} (h : goodR z = true) : z.lab.1 = 5 ∧ rightR z = true ∧ cntR z ≤ 30 := by
 unfold goodR at h
 simp only [anE, dcE, beq_iff_eq] at h
 exact ⟨h.1.1.1.1.1.1, h.1.1.2, h.2⟩
theorem valid_tree (z : Rose Lab) (s : List UInt8) : funC Tryz.prog (look [(150, .own decN0)]) (look []) Tryz.f103 [.tp LCd z 0, .s s] [] =
 ((ifB (decide ((↑s.length : Int) > (400 : Int))) (some (V.tup [V.ref 0 0 0, V.b false], [some (Blk.row false none NCd (nilT NCd.den))])) (ifT (decide (z.lab.fst = (5 :
 (Cd.int .i64).den) ∧ s.length ≤ (400 : Nat) ∧ rightR z = true ∧ cntR z * (s.length + (1 : Nat)) ≤ (1000000 : Nat))) (some (V.tup [V.ref 0 0 (decOut z s (0 : Int) (-1 :
 Int) (nilT Nd)).length, V.b (decR z s (0 : Int)).isSome], [some (Blk.row false none NCd (decOut z s (0 : Int) (-1 : Int) (nilT Nd)))])))) : _) := by kernel_rfl
theorem valid_con : Contract Tryz.prog 103 (Ent.rd1 validG).F := by
 refine fun_contractC' (KnowsL.cons (enters_fn Tryz.func150 (by kernel_rfl) (by kernel_rfl)) dec0_con KnowsL.nil).knows (Λ := look []) Tryz.func103 (c := Tryz.f103.body.getD .skip) (by kernel_rfl) fun vs bs r hq hv hb => ?_
 unfold Ent.F validG at hq
 dsimp only at hq
 split at hq
 ·rename_i z s
  obtain ⟨hc, hx⟩ := need_some hq
  obtain ⟨h1, h2⟩ := of_decide_eq_true hc
  obtain ⟨g1, g2, g3⟩ := good_facts h1
  refine ⟨loopsOk_nil _, (valid_tree z s).trans (Eq.trans ?_ hx)⟩
  try dsimp only [shr]
  show _ = some _
  unfold valL valB
  by_cases q : s.length ≤ 400
  ·have hm : cntR z * (s.length + 1) ≤ 30 * 401 := Nat.mul_le_mul g3 (by omega)
   rw [ifB_false (dcF (by omega)), ifT_true (dcT ⟨g1, q, g2, by omega⟩), dcT q, Bool.true_and]
   cases hd : decR z s 0 with
   | none =>
    have e : decOut z s 0 (-1) [] = [] := by unfold decOut; rw [hd, if_neg (by omega)]
    rw [e]; rfl
   | some v => rfl
  ·rw [ifB_true (dcT (by omega)), dcF q]
   rfl
 ·cases hq

end Go.Proofs.YtcjnmdcagfgjoaaGreatDoor.Den
