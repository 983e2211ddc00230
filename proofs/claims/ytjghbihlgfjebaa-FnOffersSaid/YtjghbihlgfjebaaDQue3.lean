/- What functions of the program do, by the machine: Que3. -/
import Derived.Test.YtjghbihlgfjebaaDIdxBool
import Derived.KernelRfl
import Derived.Test.YtjghbihlgfjebaaRows
namespace Go.Proofs.Ytjghbihlgfjebaa.Den
open Go.Proofs
set_option maxRecDepth 100000
def newQG : List V → List Blk → Br (V × List (Option Blk))
  | [.i .i64 c, .i .i64 r], [] => .br (decide ((1 ≤ c ∧ c ≤ 10) ∧ 1 ≤ r ∧ r ≤ 3)) (.leaf (.tup [.agg [.i .i64 c, .i .i64 r, .i .i64 0, .ref 0 0 0, .ref 1 0 0, .ref 2 0 0], .b true], [some (.row false none (.int .i64) []), some (.row false none (.int .i64) []), some (.row false none (.int .i64) [])])) (.leaf (.tup [.agg [.i .i64 0, .i .i64 0, .i .i64 0, .ref 0 0 0, .ref 1 0 0, .ref 2 0 0], .b false], [some (.row false none (.int .i64) []), some (.row false none (.int .i64) []), some (.row false none (.int .i64) [])]))
  | _, _ => .no
/-- Whether numbers rise and are new, and which were seen then. -/
def before (p : Option Int) (z : Int) : Bool := match p with | some q => decide (q < z) | none => true
def seenL : Option Int → List Int → List Bool → Option (List Bool)
  | _, [], s => some s
  | p, z :: l, s => if (0 ≤ z ∧ z < s.length) ∧ s.getD z.toNat true = false ∧ before p z = true then seenL (some z) l (s.set z.toNat true) else none
def seenLL : List (List Int) → List Bool → Option (List Bool)
  | [], s => some s
  | z :: l, s => match seenL none z s with
    | some s => seenLL l s
    | none => none
def implGQI : LoopEnt := ⟨89, [1, 5, 7, 43, 44, 45, 49, 50, 51], [1, 5, 43, 44, 45], [2], fun
  | ([.ptr 0 0, .ref 1 0 k, .sl (.int .i64) z, .ref 2 0 3, .i .i64 3, .i .i64 o, .sl (.int .i64) z2, .i .i64 len, .i .i64 i], [some (.box [.i .i64 c, .i .i64 r, .i .i64 n, .sl (.int .i64) w, .sl (.int .i64) h, .sl (.int .i64) d]), some (.row false none .bool s), some (.row false none (.slice (.int .i64)) L)]) =>
    .need (decide (0 ≤ i ∧ i.toNat ≤ z.length ∧ z2 = z ∧ len = z.length ∧ z.length ≤ maxI ∧ k = s.length ∧ n = s.length ∧ n ≤ 1000)) (.br ((seenL (if i.toNat = 0 then none else z[i.toNat - 1]?) (z.drop i.toNat) s).isSome) (.leaf (.exit 2, ([.ptr 0 0, .ref 1 0 k, .ref 2 0 3, .i .i64 3, .i .i64 o], [some (.box [.i .i64 c, .i .i64 r, .i .i64 n, .sl (.int .i64) w, .sl (.int .i64) h, .sl (.int .i64) d]), some (.row false none .bool ((seenL (if i.toNat = 0 then none else z[i.toNat - 1]?) (z.drop i.toNat) s).getD [])), some (.row false none (.slice (.int .i64)) L)]))) (.leaf (.ret, ([.b false], []))))
  | _ => .no⟩
def implGQO : LoopEnt := ⟨89, [1, 5, 43, 44, 45], [1, 5], [2], fun
  | ([.ptr 0 0, .ref 1 0 k, .ref 2 0 3, .i .i64 3, .i .i64 o], [some (.box [.i .i64 c, .i .i64 r, .i .i64 n, .sl (.int .i64) w, .sl (.int .i64) h, .sl (.int .i64) d]), some (.row false none .bool s), some (.row false none (.slice (.int .i64)) L)]) =>
    .need (decide (0 ≤ o ∧ o.toNat ≤ 3 ∧ L.length = 3 ∧ (∀ z ∈ L, z.length ≤ maxI) ∧ k = s.length ∧ n = s.length ∧ n ≤ 1000)) (.br ((seenLL (L.drop o.toNat) s).isSome) (.leaf (.exit 0, ([.ptr 0 0, .ref 1 0 k], [some (.box [.i .i64 c, .i .i64 r, .i .i64 n, .sl (.int .i64) w, .sl (.int .i64) h, .sl (.int .i64) d]), some (.row false none .bool ((seenLL (L.drop o.toNat) s).getD []))]))) (.leaf (.ret, ([.b false], []))))
  | _ => .no⟩
def specGQI : LoopEnt := ⟨100, [1, 3, 5, 55, 56, 57, 61, 62, 63], [1, 3, 55, 56, 57], [2], fun
  | ([.ptr 0 0, .ref 1 0 k, .sl (.int .i64) z, .ref 2 0 3, .i .i64 3, .i .i64 o, .sl (.int .i64) z2, .i .i64 len, .i .i64 i], [some (.box [.i .i64 c, .i .i64 r, .i .i64 n, .sl (.int .i64) w, .sl (.int .i64) h, .sl (.int .i64) d]), some (.row false none .bool s), some (.row false none (.slice (.int .i64)) L)]) =>
    .need (decide (0 ≤ i ∧ i.toNat ≤ z.length ∧ z2 = z ∧ len = z.length ∧ z.length ≤ maxI ∧ k = s.length ∧ n = s.length ∧ n ≤ 1000)) (.br ((seenL (if i.toNat = 0 then none else z[i.toNat - 1]?) (z.drop i.toNat) s).isSome) (.leaf (.exit 2, ([.ptr 0 0, .ref 1 0 k, .ref 2 0 3, .i .i64 3, .i .i64 o], [some (.box [.i .i64 c, .i .i64 r, .i .i64 n, .sl (.int .i64) w, .sl (.int .i64) h, .sl (.int .i64) d]), some (.row false none .bool ((seenL (if i.toNat = 0 then none else z[i.toNat - 1]?) (z.drop i.toNat) s).getD [])), some (.row false none (.slice (.int .i64)) L)]))) (.leaf (.ret, ([.b false], []))))
  | _ => .no⟩
def specGQO : LoopEnt := ⟨100, [1, 3, 55, 56, 57], [1, 3], [2], fun
  | ([.ptr 0 0, .ref 1 0 k, .ref 2 0 3, .i .i64 3, .i .i64 o], [some (.box [.i .i64 c, .i .i64 r, .i .i64 n, .sl (.int .i64) w, .sl (.int .i64) h, .sl (.int .i64) d]), some (.row false none .bool s), some (.row false none (.slice (.int .i64)) L)]) =>
    .need (decide (0 ≤ o ∧ o.toNat ≤ 3 ∧ L.length = 3 ∧ (∀ z ∈ L, z.length ≤ maxI) ∧ k = s.length ∧ n = s.length ∧ n ≤ 1000)) (.br ((seenLL (L.drop o.toNat) s).isSome) (.leaf (.exit 0, ([.ptr 0 0, .ref 1 0 k], [some (.box [.i .i64 c, .i .i64 r, .i .i64 n, .sl (.int .i64) w, .sl (.int .i64) h, .sl (.int .i64) d]), some (.row false none .bool ((seenLL (L.drop o.toNat) s).getD []))]))) (.leaf (.ret, ([.b false], []))))
  | _ => .no⟩
/-- A good queue. -/
def goodQ (c r n : Int) (w h d : List Int) : Bool := decide ((1 ≤ c ∧ c ≤ 10) ∧ (1 ≤ r ∧ r ≤ 3) ∧ (0 ≤ n ∧ n ≤ 100) ∧ (w.length : Int) ≤ c ∧ (w.length : Int) + h.length + d.length = n) && (seenLL [w, h, d] (List.replicate n.toNat false)).isSome
def goodQG : List V → List Blk → Br (V × List (Option Blk))
  | [.agg [.i .i64 c, .i .i64 r, .i .i64 n, .sl (.int .i64) w, .sl (.int .i64) h, .sl (.int .i64) d]], [] => .leaf (.b (goodQ c r n w h d), [])
  | _, _ => .no
theorem seenL_length : ∀ {l : List Int} {p : Option Int} {s s1 : List Bool}, seenL p l s = some s1 → s1.length = s.length
  | [], p, s, s1, h => by cases h; rfl
  | z :: l, p, s, s1, h => by
    unfold seenL at h
    split at h
    · have := seenL_length h; rw [this, List.length_set]
    · cases h
theorem implGQ_roundI (c r n : Int) (w h d : List Int) (k : Nat) (s : List Bool) (L : List (List Int)) (o : Int) (z z2 : List Int) (len i : Int) : roundK Try.prog (look [(94, .rd1 withinG), (106, .rd1 newQG), (113, .rd1 contBoolG)]) (look [(6, implGQO), (9, implGQI)]) 0 (body Try.f37 1) implGQI ([.ptr 0 0, .ref 1 0 k, .sl (.int .i64) z, .ref 2 0 3, .i .i64 3, .i .i64 o, .sl (.int .i64) z2, .i .i64 len, .i .i64 i], [some (.box [.i .i64 c, .i .i64 r, .i .i64 n, .sl (.int .i64) w, .sl (.int .i64) h, .sl (.int .i64) d]), some (.row false none .bool s), some (.row false none (.slice (.int .i64)) L)]) =
  ((ifB (decide (i < len))
  (ifT (decide ((0 : Int) ≤ i) && decide (i < (↑z2.length : Int)))
  (ifSome z2[i.toNat]? fun z_1 =>
  ifB (!decide ((0 : Int) ≤ z_1 ∧ z_1 ≤ IntKind.i64.wrap (n - (1 : Int)))) (some (Ex.ret, [V.b false], []))
  (ifT (decide ((0 : Int) ≤ z_1) && decide (z_1 < (↑k : Int)))
  (ifSome s[(0 : Nat) + Int.toNat z_1]? fun z_2 =>
  ifB z_2 (some (Ex.ret, [V.b false], []))
  (ifB (decide (i > (0 : Int)))
  (ifT
  (decide ((0 : Int) ≤ IntKind.i64.wrap (i - (1 : Int))) &&
  decide (IntKind.i64.wrap (i - (1 : Int)) < (↑z.length : Int)))
  (ifSome z[(IntKind.i64.wrap (i - (1 : Int))).toNat]? fun z_3 =>
  ifB (decide (z_3 ≥ z_1)) (some (Ex.ret, [V.b false], []))
  (ifT (decide ((0 : Int) ≤ z_1) && decide (z_1 < (↑k : Int)))
  (ifSome s[(0 : Nat) + Int.toNat z_1]? fun z_4 =>
  some
  (Ex.normal,
  [V.ptr (0 : Nat) (0 : Nat), V.ref (1 : Nat) (0 : Nat) k, V.sl (Cd.int IntKind.i64) z,
  V.ref (2 : Nat) (0 : Nat) (3 : Nat), V.i IntKind.i64 (3 : Int), V.i IntKind.i64 o,
  V.sl (Cd.int IntKind.i64) z2, V.i IntKind.i64 len,
  V.i IntKind.i64 (IntKind.i64.wrap (i + (1 : Int)))],
  [some
  (Blk.box
  [V.i IntKind.i64 c, V.i IntKind.i64 r, V.i IntKind.i64 n,
  V.sl (Cd.int IntKind.i64) w, V.sl (Cd.int IntKind.i64) h,
  V.sl (Cd.int IntKind.i64) d]),
  some (Blk.row false none Cd.bool (s.set ((0 : Nat) + Int.toNat z_1) true)),
  some (Blk.row false none (Cd.int IntKind.i64).slice L)])))))
  (ifT (decide ((0 : Int) ≤ z_1) && decide (z_1 < (↑k : Int)))
  (ifSome s[(0 : Nat) + Int.toNat z_1]? fun z_3 =>
  some
  (Ex.normal,
  [V.ptr (0 : Nat) (0 : Nat), V.ref (1 : Nat) (0 : Nat) k, V.sl (Cd.int IntKind.i64) z,
  V.ref (2 : Nat) (0 : Nat) (3 : Nat), V.i IntKind.i64 (3 : Int), V.i IntKind.i64 o,
  V.sl (Cd.int IntKind.i64) z2, V.i IntKind.i64 len,
  V.i IntKind.i64 (IntKind.i64.wrap (i + (1 : Int)))],
  [some
  (Blk.box
  [V.i IntKind.i64 c, V.i IntKind.i64 r, V.i IntKind.i64 n, V.sl (Cd.int IntKind.i64) w,
  V.sl (Cd.int IntKind.i64) h, V.sl (Cd.int IntKind.i64) d]),
  some (Blk.row false none Cd.bool (s.set ((0 : Nat) + Int.toNat z_1) true)),
  some (Blk.row false none (Cd.int IntKind.i64).slice L)]))))))))
  (some
  (Ex.exit (2 : Nat),
  [V.ptr (0 : Nat) (0 : Nat), V.ref (1 : Nat) (0 : Nat) k, V.ref (2 : Nat) (0 : Nat) (3 : Nat),
  V.i IntKind.i64 (3 : Int), V.i IntKind.i64 o],
  [some
  (Blk.box
  [V.i IntKind.i64 c, V.i IntKind.i64 r, V.i IntKind.i64 n, V.sl (Cd.int IntKind.i64) w,
  V.sl (Cd.int IntKind.i64) h, V.sl (Cd.int IntKind.i64) d]),
  some (Blk.row false none Cd.bool s), some (Blk.row false none (Cd.int IntKind.i64).slice L)]))) : _) := by kernel_rfl
theorem implGQ_roundO (c r n : Int) (w h d : List Int) (k : Nat) (s : List Bool) (L : List (List Int)) (o : Int) : roundK Try.prog (look [(94, .rd1 withinG), (106, .rd1 newQG), (113, .rd1 contBoolG)]) (look [(6, implGQO), (9, implGQI)]) 0 (body Try.f37 0) implGQO ([.ptr 0 0, .ref 1 0 k, .ref 2 0 3, .i .i64 3, .i .i64 o], [some (.box [.i .i64 c, .i .i64 r, .i .i64 n, .sl (.int .i64) w, .sl (.int .i64) h, .sl (.int .i64) d]), some (.row false none .bool s), some (.row false none (.slice (.int .i64)) L)]) =
  ((ifB (decide (o < (3 : Int)))
  (ifT (decide ((0 : Int) ≤ o) && decide (o < (↑(3 : Nat) : Int)))
  (ifSome L[(0 : Nat) + o.toNat]? fun z =>
  ifT
  (decide
  ((0 : Int) ≤ (0 : Int) ∧
  (0 : Nat) ≤ List.length z ∧
  z = z ∧
  (↑(List.length z) : Int) = (↑(List.length z) : Int) ∧
  List.length z ≤ maxI ∧ k = s.length ∧ n = (↑s.length : Int) ∧ n ≤ (1000 : Int)))
  (ifB (seenL (if (0 : Nat) = (0 : Nat) then none else z[(0 : Nat)]?) (List.drop (0 : Nat) z) s).isSome
  (some
  (Ex.normal,
  [V.ptr (0 : Nat) (0 : Nat), V.ref (1 : Nat) (0 : Nat) k, V.ref (2 : Nat) (0 : Nat) (3 : Nat),
  V.i IntKind.i64 (3 : Int), V.i IntKind.i64 (IntKind.i64.wrap (o + (1 : Int)))],
  [some
  (Blk.box
  [V.i IntKind.i64 c, V.i IntKind.i64 r, V.i IntKind.i64 n, V.sl (Cd.int IntKind.i64) w,
  V.sl (Cd.int IntKind.i64) h, V.sl (Cd.int IntKind.i64) d]),
  some
  (Blk.row false none Cd.bool
  ((seenL (if (0 : Nat) = (0 : Nat) then none else z[(0 : Nat)]?) (List.drop (0 : Nat) z) s).getD
  (nilT Bool))),
  some (Blk.row false none (Cd.int IntKind.i64).slice L)]))
  (some (Ex.ret, [V.b false], [])))))
  (some
  (Ex.exit (0 : Nat), [V.ptr (0 : Nat) (0 : Nat), V.ref (1 : Nat) (0 : Nat) k],
  [some
  (Blk.box
  [V.i IntKind.i64 c, V.i IntKind.i64 r, V.i IntKind.i64 n, V.sl (Cd.int IntKind.i64) w,
  V.sl (Cd.int IntKind.i64) h, V.sl (Cd.int IntKind.i64) d]),
  some (Blk.row false none Cd.bool s)]))) : _) := by kernel_rfl
theorem implGQ_fun0 (c r n : Int) (w h d : List Int) : funK Try.prog (look [(94, .rd1 withinG), (106, .rd1 newQG), (113, .rd1 contBoolG)]) (look [(6, implGQO), (9, implGQI)]) Try.f37 [.agg [.i .i64 c, .i .i64 r, .i .i64 n, .sl (.int .i64) w, .sl (.int .i64) h, .sl (.int .i64) d]] [] =
  ((ifB (decide (((1 : Int) ≤ c ∧ c ≤ (10 : Int)) ∧ (1 : Int) ≤ r ∧ r ≤ (3 : Int)))
  (ifB (!decide ((0 : Int) ≤ n ∧ n ≤ (100 : Int))) (some (V.b false, []))
  (ifB (decide ((↑w.length : Int) > c)) (some (V.b false, []))
  (ifT
  (decide ((0 : Int) ≤ n) && decide (n ≤ n) && decide (n * (↑(1 : Nat) : Int) ≤ (140737488355328 : Int)) &&
  decide (n ≤ (9223372036854775807 : Int)))
  (ifT
  (decide
  ((0 : Int) ≤ (0 : Int) ∧
  (0 : Nat) ≤ (3 : Nat) ∧
  (3 : Nat) = (3 : Nat) ∧
  (∀ (z : (Cd.int IntKind.i64).slice.den),
  z ∈ w :: h :: d :: nilT (Cd.int IntKind.i64).slice.den → List.length z ≤ maxI) ∧
  n.toNat = (List.replicate n.toNat false).length ∧
  n = (↑(List.replicate n.toNat false).length : Int) ∧ n ≤ (1000 : Int)))
  (ifB (seenLL [w, h, d] (List.replicate n.toNat false)).isSome
  (some
  (V.b
  !decide
  (false ∈
  List.take n.toNat
  (List.drop (0 : Nat) ((seenLL [w, h, d] (List.replicate n.toNat false)).getD (nilT Bool)))),
  []))
  (some (V.b false, [])))))))
  (some (V.b false, []))) : _) := by kernel_rfl
theorem implGQ_loopI {c r n : Int} {w h d : List Int} {k : Nat} {L : List (List Int)} {o : Int} {z : List Int} (hz : z.length ≤ maxI) : ∀ (j i : Nat) (s : List Bool), i + j = z.length → k = s.length → n = s.length → n ≤ 1000 →
    match seenL (if i = 0 then none else z[i - 1]?) (z.drop i) s with
    | some s' => Runs Try.prog (look [(94, .rd1 withinG), (106, .rd1 newQG), (113, .rd1 contBoolG)]) (look [(6, implGQO), (9, implGQI)]) 0 (body Try.f37 1) implGQI ([.ptr 0 0, .ref 1 0 k, .sl (.int .i64) z, .ref 2 0 3, .i .i64 3, .i .i64 o, .sl (.int .i64) z, .i .i64 (↑z.length : Int), .i .i64 i], [some (.box [.i .i64 c, .i .i64 r, .i .i64 n, .sl (.int .i64) w, .sl (.int .i64) h, .sl (.int .i64) d]), some (.row false none .bool s), some (.row false none (.slice (.int .i64)) L)]) (.exit 2) ([.ptr 0 0, .ref 1 0 k, .ref 2 0 3, .i .i64 3, .i .i64 o], [some (.box [.i .i64 c, .i .i64 r, .i .i64 n, .sl (.int .i64) w, .sl (.int .i64) h, .sl (.int .i64) d]), some (.row false none .bool s'), some (.row false none (.slice (.int .i64)) L)])
    | none => Runs Try.prog (look [(94, .rd1 withinG), (106, .rd1 newQG), (113, .rd1 contBoolG)]) (look [(6, implGQO), (9, implGQI)]) 0 (body Try.f37 1) implGQI ([.ptr 0 0, .ref 1 0 k, .sl (.int .i64) z, .ref 2 0 3, .i .i64 3, .i .i64 o, .sl (.int .i64) z, .i .i64 (↑z.length : Int), .i .i64 i], [some (.box [.i .i64 c, .i .i64 r, .i .i64 n, .sl (.int .i64) w, .sl (.int .i64) h, .sl (.int .i64) d]), some (.row false none .bool s), some (.row false none (.slice (.int .i64)) L)]) .ret ([.b false], [])
  | 0, i, s, hi, hk, hn, hn2 => by
    have e1 : z.drop i = [] := List.drop_eq_nil_of_le (by omega)
    have hr := implGQ_roundI c r n w h d k s L o z z z.length i
    rw [ifB_false (decide_eq_false (by omega))] at hr
    rw [e1]
    exact .stop _ _ _ hr (by simp)
  | j + 1, i, s, hi, hk, hn, hn2 => by
    have h1 : i < z.length := by omega
    have hr := implGQ_roundI c r n w h d k s L o z z z.length i
    have ih := implGQ_loopI (c := c) (r := r) (n := n) (w := w) (h := h) (d := d) (k := k) (L := L) (o := o) hz j (i + 1)
    rw [ifB_true (decide_eq_true (by omega)), ifT_true (by simp only [Bool.and_eq_true, decide_eq_true_eq]; omega)] at hr
    simp only [Int.toNat_natCast, Nat.zero_add, List.getElem?_eq_getElem h1, ifSome_s, wrap_succ (n := i) (by omega)] at hr
    rw [List.drop_eq_getElem_cons h1]
    have hz1 : (if i + 1 = 0 then none else z[i + 1 - 1]?) = some z[i] := by simp [h1]
    generalize z[i] = x at *
    have hw1 : IntKind.i64.wrap (n - 1) = n - 1 := wrap_id (by omega) (by omega)
    have hw2 : 0 < i → IntKind.i64.wrap ((i : Int) - 1) = ((i - 1 : Nat) : Int) := fun _ => by
      have hm : maxI = 9223372036854775807 := rfl
      rw [wrap_id (by omega) (by omega)]; omega
    have fail : ∀ (q : seenL (if i = 0 then none else z[i - 1]?) (x :: z.drop (i + 1)) s = none), roundK Try.prog (look [(94, .rd1 withinG), (106, .rd1 newQG), (113, .rd1 contBoolG)]) (look [(6, implGQO), (9, implGQI)]) 0 (body Try.f37 1) implGQI ([.ptr 0 0, .ref 1 0 k, .sl (.int .i64) z, .ref 2 0 3, .i .i64 3, .i .i64 o, .sl (.int .i64) z, .i .i64 (↑z.length : Int), .i .i64 i], [some (.box [.i .i64 c, .i .i64 r, .i .i64 n, .sl (.int .i64) w, .sl (.int .i64) h, .sl (.int .i64) d]), some (.row false none .bool s), some (.row false none (.slice (.int .i64)) L)]) = some (.ret, [.b false], []) → match seenL (if i = 0 then none else z[i - 1]?) (x :: z.drop (i + 1)) s with
        | some s' => Runs Try.prog (look [(94, .rd1 withinG), (106, .rd1 newQG), (113, .rd1 contBoolG)]) (look [(6, implGQO), (9, implGQI)]) 0 (body Try.f37 1) implGQI ([.ptr 0 0, .ref 1 0 k, .sl (.int .i64) z, .ref 2 0 3, .i .i64 3, .i .i64 o, .sl (.int .i64) z, .i .i64 (↑z.length : Int), .i .i64 i], [some (.box [.i .i64 c, .i .i64 r, .i .i64 n, .sl (.int .i64) w, .sl (.int .i64) h, .sl (.int .i64) d]), some (.row false none .bool s), some (.row false none (.slice (.int .i64)) L)]) (.exit 2) ([.ptr 0 0, .ref 1 0 k, .ref 2 0 3, .i .i64 3, .i .i64 o], [some (.box [.i .i64 c, .i .i64 r, .i .i64 n, .sl (.int .i64) w, .sl (.int .i64) h, .sl (.int .i64) d]), some (.row false none .bool s'), some (.row false none (.slice (.int .i64)) L)])
        | none => Runs Try.prog (look [(94, .rd1 withinG), (106, .rd1 newQG), (113, .rd1 contBoolG)]) (look [(6, implGQO), (9, implGQI)]) 0 (body Try.f37 1) implGQI ([.ptr 0 0, .ref 1 0 k, .sl (.int .i64) z, .ref 2 0 3, .i .i64 3, .i .i64 o, .sl (.int .i64) z, .i .i64 (↑z.length : Int), .i .i64 i], [some (.box [.i .i64 c, .i .i64 r, .i .i64 n, .sl (.int .i64) w, .sl (.int .i64) h, .sl (.int .i64) d]), some (.row false none .bool s), some (.row false none (.slice (.int .i64)) L)]) .ret ([.b false], []) := fun q hq => by
      rw [q]; exact .stop _ _ _ hq (by simp)
    by_cases h2 : 0 ≤ x ∧ x < n
    rotate_left
    · refine fail (by unfold seenL; rw [if_neg (fun hh => h2 ⟨hh.1.1, by omega⟩)]) ?_
      refine hr.trans ?_
      rw [hw1, ifB_true (by simp; omega)]
    have h3 : x.toNat < s.length := by omega
    have h4 : s[x.toNat]? = some s[x.toNat] := List.getElem?_eq_getElem h3
    have h5 : s.getD x.toNat true = s[x.toNat] := by simp [List.getD, h3]
    try rw [hw1] at hr
    rw [ifB_false (by simp; omega)] at hr
    rw [ifT_true (by simp only [Bool.and_eq_true, decide_eq_true_eq]; omega), h4, ifSome_s] at hr
    by_cases h6 : s[x.toNat] = true
    · refine fail (by unfold seenL; rw [if_neg (fun hh => by have := hh.2.1; rw [h5, h6] at this; cases this)]) ?_
      rw [ifB_true h6] at hr; exact hr
    have h6 : s[x.toNat] = false := by simpa using h6
    rw [ifB_false h6] at hr
    have go : before (if i = 0 then none else z[i - 1]?) x = true → roundK Try.prog (look [(94, .rd1 withinG), (106, .rd1 newQG), (113, .rd1 contBoolG)]) (look [(6, implGQO), (9, implGQI)]) 0 (body Try.f37 1) implGQI ([.ptr 0 0, .ref 1 0 k, .sl (.int .i64) z, .ref 2 0 3, .i .i64 3, .i .i64 o, .sl (.int .i64) z, .i .i64 (↑z.length : Int), .i .i64 i], [some (.box [.i .i64 c, .i .i64 r, .i .i64 n, .sl (.int .i64) w, .sl (.int .i64) h, .sl (.int .i64) d]), some (.row false none .bool s), some (.row false none (.slice (.int .i64)) L)]) = some (.normal, ([.ptr 0 0, .ref 1 0 k, .sl (.int .i64) z, .ref 2 0 3, .i .i64 3, .i .i64 o, .sl (.int .i64) z, .i .i64 (↑z.length : Int), .i .i64 ((i + 1 : Nat) : Int)], [some (.box [.i .i64 c, .i .i64 r, .i .i64 n, .sl (.int .i64) w, .sl (.int .i64) h, .sl (.int .i64) d]), some (.row false none .bool (s.set x.toNat true)), some (.row false none (.slice (.int .i64)) L)])) → match seenL (if i = 0 then none else z[i - 1]?) (x :: z.drop (i + 1)) s with
        | some s' => Runs Try.prog (look [(94, .rd1 withinG), (106, .rd1 newQG), (113, .rd1 contBoolG)]) (look [(6, implGQO), (9, implGQI)]) 0 (body Try.f37 1) implGQI ([.ptr 0 0, .ref 1 0 k, .sl (.int .i64) z, .ref 2 0 3, .i .i64 3, .i .i64 o, .sl (.int .i64) z, .i .i64 (↑z.length : Int), .i .i64 i], [some (.box [.i .i64 c, .i .i64 r, .i .i64 n, .sl (.int .i64) w, .sl (.int .i64) h, .sl (.int .i64) d]), some (.row false none .bool s), some (.row false none (.slice (.int .i64)) L)]) (.exit 2) ([.ptr 0 0, .ref 1 0 k, .ref 2 0 3, .i .i64 3, .i .i64 o], [some (.box [.i .i64 c, .i .i64 r, .i .i64 n, .sl (.int .i64) w, .sl (.int .i64) h, .sl (.int .i64) d]), some (.row false none .bool s'), some (.row false none (.slice (.int .i64)) L)])
        | none => Runs Try.prog (look [(94, .rd1 withinG), (106, .rd1 newQG), (113, .rd1 contBoolG)]) (look [(6, implGQO), (9, implGQI)]) 0 (body Try.f37 1) implGQI ([.ptr 0 0, .ref 1 0 k, .sl (.int .i64) z, .ref 2 0 3, .i .i64 3, .i .i64 o, .sl (.int .i64) z, .i .i64 (↑z.length : Int), .i .i64 i], [some (.box [.i .i64 c, .i .i64 r, .i .i64 n, .sl (.int .i64) w, .sl (.int .i64) h, .sl (.int .i64) d]), some (.row false none .bool s), some (.row false none (.slice (.int .i64)) L)]) .ret ([.b false], []) := fun hb hq => by
      have ih := ih (s.set x.toNat true) (by omega) (by rw [List.length_set]; exact hk) (by rw [List.length_set]; exact hn) hn2
      rw [hz1] at ih
      unfold seenL
      rw [if_pos ⟨⟨h2.1, by omega⟩, by rw [h5, h6], hb⟩]
      cases e : seenL (some x) (z.drop (i + 1)) (s.set x.toNat true) with
      | some s' => rw [e] at ih; exact .step _ _ _ _ hq ih
      | none => rw [e] at ih; exact .step _ _ _ _ hq ih
    by_cases h7 : i = 0
    · subst h7
      rw [ifB_false (by simp), ifT_true (by simp only [Bool.and_eq_true, decide_eq_true_eq]; omega)] at hr
      refine go rfl (hr.trans ?_)
      first | rfl | simp
    · have h8 : i - 1 < z.length := by omega
      rw [ifB_true (by simp; omega), hw2 (by omega), ifT_true (by simp only [Bool.and_eq_true, decide_eq_true_eq]; omega), Int.toNat_natCast, List.getElem?_eq_getElem h8, ifSome_s] at hr
      by_cases h9 : z[i - 1] ≥ x
      · rw [ifB_true (by simpa using h9)] at hr
        refine fail (by unfold seenL; rw [if_neg (fun hh => by have := hh.2.2; rw [if_neg h7, List.getElem?_eq_getElem h8] at this; simp [before] at this; omega)]) hr
      · rw [ifB_false (by simpa using h9), ifT_true (by simp only [Bool.and_eq_true, decide_eq_true_eq]; omega)] at hr
        refine go (by rw [if_neg h7, List.getElem?_eq_getElem h8]; simp [before]; omega) (hr.trans ?_)
        first | rfl | simp
theorem implGQ_loopO {c r n : Int} {w h d : List Int} {k : Nat} {L : List (List Int)} (hL : L.length = 3) (hz : ∀ z ∈ L, z.length ≤ maxI) : ∀ (j o : Nat) (s : List Bool), o + j = 3 → k = s.length → n = s.length → n ≤ 1000 →
    match seenLL (L.drop o) s with
    | some s' => Runs Try.prog (look [(94, .rd1 withinG), (106, .rd1 newQG), (113, .rd1 contBoolG)]) (look [(6, implGQO), (9, implGQI)]) 0 (body Try.f37 0) implGQO ([.ptr 0 0, .ref 1 0 k, .ref 2 0 3, .i .i64 3, .i .i64 o], [some (.box [.i .i64 c, .i .i64 r, .i .i64 n, .sl (.int .i64) w, .sl (.int .i64) h, .sl (.int .i64) d]), some (.row false none .bool s), some (.row false none (.slice (.int .i64)) L)]) (.exit 0) ([.ptr 0 0, .ref 1 0 k], [some (.box [.i .i64 c, .i .i64 r, .i .i64 n, .sl (.int .i64) w, .sl (.int .i64) h, .sl (.int .i64) d]), some (.row false none .bool s')])
    | none => Runs Try.prog (look [(94, .rd1 withinG), (106, .rd1 newQG), (113, .rd1 contBoolG)]) (look [(6, implGQO), (9, implGQI)]) 0 (body Try.f37 0) implGQO ([.ptr 0 0, .ref 1 0 k, .ref 2 0 3, .i .i64 3, .i .i64 o], [some (.box [.i .i64 c, .i .i64 r, .i .i64 n, .sl (.int .i64) w, .sl (.int .i64) h, .sl (.int .i64) d]), some (.row false none .bool s), some (.row false none (.slice (.int .i64)) L)]) .ret ([.b false], [])
  | 0, o, s, ho, hk, hn, hn2 => by
    have e1 : L.drop o = [] := List.drop_eq_nil_of_le (by omega)
    have hr := implGQ_roundO c r n w h d k s L o
    rw [ifB_false (decide_eq_false (by omega))] at hr
    rw [e1]
    exact .stop _ _ _ hr (by simp)
  | j + 1, o, s, ho, hk, hn, hn2 => by
    have h1 : o < L.length := by omega
    have hr := implGQ_roundO c r n w h d k s L o
    have hzo := hz L[o] (List.getElem_mem h1)
    rw [ifB_true (decide_eq_true (by omega)), ifT_true (by simp only [Bool.and_eq_true, decide_eq_true_eq]; omega)] at hr
    simp only [Int.toNat_natCast, Nat.zero_add, List.getElem?_eq_getElem h1, ifSome_s, if_true, List.drop_zero, wrap_succ (n := o) (by unfold maxI; omega)] at hr
    rw [List.drop_eq_getElem_cons h1]
    generalize L[o] = z at *
    rw [ifT_true (decide_eq_true ⟨by omega, by omega, trivial, trivial, hzo, hk, hn, hn2⟩)] at hr
    unfold seenLL
    cases e : seenL none z s with
    | none =>
      rw [e] at hr
      rw [ifB_false (by rfl)] at hr
      exact .stop _ _ _ hr (by simp)
    | some s1 =>
      have hl := seenL_length e
      rw [e] at hr
      rw [ifB_true (by rfl)] at hr
      have ih := implGQ_loopO (c := c) (r := r) (n := n) (w := w) (h := h) (d := d) (k := k) hL hz j (o + 1) s1 (by omega) (by omega) (by omega) hn2
      dsimp only
      cases e2 : seenLL (L.drop (o + 1)) s1 with
      | some s' => rw [e2] at ih; exact .step _ _ _ _ hr ih
      | none => rw [e2] at ih; exact .step _ _ _ _ hr ih
theorem implGQ_ok : LoopsOk Try.prog (look [(94, .rd1 withinG), (106, .rd1 newQG), (113, .rd1 contBoolG)]) (look [(6, implGQO), (9, implGQI)]) 0 (Try.f37.body.getD .skip) := by
  refine LoopsI.loops (cs := [body Try.f37 0, body Try.f37 1]) (.cons (ent := implGQO) (by kernel_rfl) (fun q e q' hq => ?_) (.cons (ent := implGQI) (by kernel_rfl) (fun q e q' hq => ?_) .nil)) (by kernel_rfl)
  · unfold implGQO at hq
    dsimp only at hq
    split at hq
    · rename_i k o c r n w h d s L
      obtain ⟨hc, hx⟩ := need_some hq
      clear hq
      obtain ⟨h0, h1, h2, h3, h4, h5, h6⟩ := of_decide_eq_true hc
      obtain ⟨o, rfl⟩ := Int.eq_ofNat_of_zero_le h0
      have := implGQ_loopO (c := c) (r := r) (n := n) (w := w) (h := h) (d := d) (k := k) h2 h3 (3 - o) o s (by omega) h4 h5 h6
      rw [Int.toNat_natCast] at hx
      rcases br_some hx with ⟨h7, hx⟩ | ⟨h7, hx⟩
      · cases e : seenLL (L.drop o) s with
        | none => rw [e] at h7; cases h7
        | some s' => rw [e] at this hx; cases leaf_some hx; exact this
      · cases e : seenLL (L.drop o) s with
        | none => rw [e] at this; cases leaf_some hx; exact this
        | some s' => rw [e] at h7; cases h7
    · cases hq
  · unfold implGQI at hq
    dsimp only at hq
    split at hq
    · rename_i k z o z2 len i c r n w h d s L
      obtain ⟨hc, hx⟩ := need_some hq
      clear hq
      obtain ⟨h0, h1, h2, h3, h4, h5, h6, h7⟩ := of_decide_eq_true hc
      subst h2 h3
      obtain ⟨i, rfl⟩ := Int.eq_ofNat_of_zero_le h0
      rw [Int.toNat_natCast] at hx h1
      have := implGQ_loopI (c := c) (r := r) (n := n) (w := w) (h := h) (d := d) (k := k) (L := L) (o := o) h4 (z2.length - i) i s (by omega) h5 h6 h7
      rcases br_some hx with ⟨h8, hx⟩ | ⟨h8, hx⟩
      · cases e : seenL (if i = 0 then none else z2[i - 1]?) (z2.drop i) s with
        | none => rw [e] at h8; cases h8
        | some s' => rw [e] at this hx; cases leaf_some hx; exact this
      · cases e : seenL (if i = 0 then none else z2[i - 1]?) (z2.drop i) s with
        | none => rw [e] at this; cases leaf_some hx; exact this
        | some s' => rw [e] at h8; cases h8
    · cases hq
theorem specGQ_roundI (c r n : Int) (w h d : List Int) (k : Nat) (s : List Bool) (L : List (List Int)) (o : Int) (z z2 : List Int) (len i : Int) : roundK Try.prog (look [(117, .rd1 l1InG)]) (look [(7, specGQO), (10, specGQI)]) 0 (body Try.f51 1) specGQI ([.ptr 0 0, .ref 1 0 k, .sl (.int .i64) z, .ref 2 0 3, .i .i64 3, .i .i64 o, .sl (.int .i64) z2, .i .i64 len, .i .i64 i], [some (.box [.i .i64 c, .i .i64 r, .i .i64 n, .sl (.int .i64) w, .sl (.int .i64) h, .sl (.int .i64) d]), some (.row false none .bool s), some (.row false none (.slice (.int .i64)) L)]) =
  ((ifB (decide (i < len))
  (ifT (decide ((0 : Int) ≤ i) && decide (i < (↑z2.length : Int)))
  (ifSome z2[i.toNat]? fun z_1 =>
  ifB (decide (z_1 < (0 : Int))) (some (Ex.ret, [V.b false], []))
  (ifB (decide (z_1 ≥ n)) (some (Ex.ret, [V.b false], []))
  (ifT (decide ((0 : Int) ≤ z_1) && decide (z_1 < (↑k : Int)))
  (ifSome s[(0 : Nat) + Int.toNat z_1]? fun z_2 =>
  ifB z_2 (some (Ex.ret, [V.b false], []))
  (ifB (decide (i > (0 : Int)))
  (ifT
  (decide ((0 : Int) ≤ IntKind.i64.wrap (i - (1 : Int))) &&
  decide (IntKind.i64.wrap (i - (1 : Int)) < (↑z.length : Int)))
  (ifSome z[(IntKind.i64.wrap (i - (1 : Int))).toNat]? fun z_3 =>
  ifB (decide (z_3 ≥ z_1)) (some (Ex.ret, [V.b false], []))
  (ifT (decide ((0 : Int) ≤ z_1) && decide (z_1 < (↑k : Int)))
  (ifSome s[(0 : Nat) + Int.toNat z_1]? fun z_4 =>
  some
  (Ex.normal,
  [V.ptr (0 : Nat) (0 : Nat), V.ref (1 : Nat) (0 : Nat) k, V.sl (Cd.int IntKind.i64) z,
  V.ref (2 : Nat) (0 : Nat) (3 : Nat), V.i IntKind.i64 (3 : Int), V.i IntKind.i64 o,
  V.sl (Cd.int IntKind.i64) z2, V.i IntKind.i64 len,
  V.i IntKind.i64 (IntKind.i64.wrap (i + (1 : Int)))],
  [some
  (Blk.box
  [V.i IntKind.i64 c, V.i IntKind.i64 r, V.i IntKind.i64 n,
  V.sl (Cd.int IntKind.i64) w, V.sl (Cd.int IntKind.i64) h,
  V.sl (Cd.int IntKind.i64) d]),
  some (Blk.row false none Cd.bool (s.set ((0 : Nat) + Int.toNat z_1) true)),
  some (Blk.row false none (Cd.int IntKind.i64).slice L)])))))
  (ifT (decide ((0 : Int) ≤ z_1) && decide (z_1 < (↑k : Int)))
  (ifSome s[(0 : Nat) + Int.toNat z_1]? fun z_3 =>
  some
  (Ex.normal,
  [V.ptr (0 : Nat) (0 : Nat), V.ref (1 : Nat) (0 : Nat) k, V.sl (Cd.int IntKind.i64) z,
  V.ref (2 : Nat) (0 : Nat) (3 : Nat), V.i IntKind.i64 (3 : Int), V.i IntKind.i64 o,
  V.sl (Cd.int IntKind.i64) z2, V.i IntKind.i64 len,
  V.i IntKind.i64 (IntKind.i64.wrap (i + (1 : Int)))],
  [some
  (Blk.box
  [V.i IntKind.i64 c, V.i IntKind.i64 r, V.i IntKind.i64 n, V.sl (Cd.int IntKind.i64) w,
  V.sl (Cd.int IntKind.i64) h, V.sl (Cd.int IntKind.i64) d]),
  some (Blk.row false none Cd.bool (s.set ((0 : Nat) + Int.toNat z_1) true)),
  some (Blk.row false none (Cd.int IntKind.i64).slice L)])))))))))
  (some
  (Ex.exit (2 : Nat),
  [V.ptr (0 : Nat) (0 : Nat), V.ref (1 : Nat) (0 : Nat) k, V.ref (2 : Nat) (0 : Nat) (3 : Nat),
  V.i IntKind.i64 (3 : Int), V.i IntKind.i64 o],
  [some
  (Blk.box
  [V.i IntKind.i64 c, V.i IntKind.i64 r, V.i IntKind.i64 n, V.sl (Cd.int IntKind.i64) w,
  V.sl (Cd.int IntKind.i64) h, V.sl (Cd.int IntKind.i64) d]),
  some (Blk.row false none Cd.bool s), some (Blk.row false none (Cd.int IntKind.i64).slice L)]))) : _) := by kernel_rfl
theorem specGQ_roundO (c r n : Int) (w h d : List Int) (k : Nat) (s : List Bool) (L : List (List Int)) (o : Int) : roundK Try.prog (look [(117, .rd1 l1InG)]) (look [(7, specGQO), (10, specGQI)]) 0 (body Try.f51 0) specGQO ([.ptr 0 0, .ref 1 0 k, .ref 2 0 3, .i .i64 3, .i .i64 o], [some (.box [.i .i64 c, .i .i64 r, .i .i64 n, .sl (.int .i64) w, .sl (.int .i64) h, .sl (.int .i64) d]), some (.row false none .bool s), some (.row false none (.slice (.int .i64)) L)]) =
  ((ifB (decide (o < (3 : Int)))
  (ifT (decide ((0 : Int) ≤ o) && decide (o < (↑(3 : Nat) : Int)))
  (ifSome L[(0 : Nat) + o.toNat]? fun z =>
  ifT
  (decide
  ((0 : Int) ≤ (0 : Int) ∧
  (0 : Nat) ≤ List.length z ∧
  z = z ∧
  (↑(List.length z) : Int) = (↑(List.length z) : Int) ∧
  List.length z ≤ maxI ∧ k = s.length ∧ n = (↑s.length : Int) ∧ n ≤ (1000 : Int)))
  (ifB (seenL (if (0 : Nat) = (0 : Nat) then none else z[(0 : Nat)]?) (List.drop (0 : Nat) z) s).isSome
  (some
  (Ex.normal,
  [V.ptr (0 : Nat) (0 : Nat), V.ref (1 : Nat) (0 : Nat) k, V.ref (2 : Nat) (0 : Nat) (3 : Nat),
  V.i IntKind.i64 (3 : Int), V.i IntKind.i64 (IntKind.i64.wrap (o + (1 : Int)))],
  [some
  (Blk.box
  [V.i IntKind.i64 c, V.i IntKind.i64 r, V.i IntKind.i64 n, V.sl (Cd.int IntKind.i64) w,
  V.sl (Cd.int IntKind.i64) h, V.sl (Cd.int IntKind.i64) d]),
  some
  (Blk.row false none Cd.bool
  ((seenL (if (0 : Nat) = (0 : Nat) then none else z[(0 : Nat)]?) (List.drop (0 : Nat) z) s).getD
  (nilT Bool))),
  some (Blk.row false none (Cd.int IntKind.i64).slice L)]))
  (some (Ex.ret, [V.b false], [])))))
  (some
  (Ex.exit (0 : Nat), [V.ptr (0 : Nat) (0 : Nat), V.ref (1 : Nat) (0 : Nat) k],
  [some
  (Blk.box
  [V.i IntKind.i64 c, V.i IntKind.i64 r, V.i IntKind.i64 n, V.sl (Cd.int IntKind.i64) w,
  V.sl (Cd.int IntKind.i64) h, V.sl (Cd.int IntKind.i64) d]),
  some (Blk.row false none Cd.bool s)]))) : _) := by kernel_rfl
theorem specGQ_fun0 (c r n : Int) (w h d : List Int) : funK Try.prog (look [(117, .rd1 l1InG)]) (look [(7, specGQO), (10, specGQI)]) Try.f51 [.agg [.i .i64 c, .i .i64 r, .i .i64 n, .sl (.int .i64) w, .sl (.int .i64) h, .sl (.int .i64) d]] [] =
  ((ifB (!decide ((1 : Int) ≤ c ∧ c ≤ (10 : Int))) (some (V.b false, []))
  (ifB (!decide ((1 : Int) ≤ r ∧ r ≤ (3 : Int))) (some (V.b false, []))
  (ifB (!decide ((0 : Int) ≤ n ∧ n ≤ (100 : Int))) (some (V.b false, []))
  (ifB (decide ((↑w.length : Int) > c)) (some (V.b false, []))
  (ifB (IntKind.i64.wrap (IntKind.i64.wrap ((↑w.length : Int) + (↑h.length : Int)) + (↑d.length : Int)) != n)
  (some (V.b false, []))
  (ifT
  (decide ((0 : Int) ≤ n) && decide (n ≤ n) && decide (n * (↑(1 : Nat) : Int) ≤ (140737488355328 : Int)) &&
  decide (n ≤ (9223372036854775807 : Int)))
  (ifT
  (decide
  ((0 : Int) ≤ (0 : Int) ∧
  (0 : Nat) ≤ (3 : Nat) ∧
  (3 : Nat) = (3 : Nat) ∧
  (∀ (z : (Cd.int IntKind.i64).slice.den),
  z ∈ w :: h :: d :: nilT (Cd.int IntKind.i64).slice.den → List.length z ≤ maxI) ∧
  n.toNat = (List.replicate n.toNat false).length ∧
  n = (↑(List.replicate n.toNat false).length : Int) ∧ n ≤ (1000 : Int)))
  (ifB (seenLL [w, h, d] (List.replicate n.toNat false)).isSome (some (V.b true, []))
  (some (V.b false, [])))))))))) : _) := by kernel_rfl
theorem specGQ_loopI {c r n : Int} {w h d : List Int} {k : Nat} {L : List (List Int)} {o : Int} {z : List Int} (hz : z.length ≤ maxI) : ∀ (j i : Nat) (s : List Bool), i + j = z.length → k = s.length → n = s.length → n ≤ 1000 →
    match seenL (if i = 0 then none else z[i - 1]?) (z.drop i) s with
    | some s' => Runs Try.prog (look [(117, .rd1 l1InG)]) (look [(7, specGQO), (10, specGQI)]) 0 (body Try.f51 1) specGQI ([.ptr 0 0, .ref 1 0 k, .sl (.int .i64) z, .ref 2 0 3, .i .i64 3, .i .i64 o, .sl (.int .i64) z, .i .i64 (↑z.length : Int), .i .i64 i], [some (.box [.i .i64 c, .i .i64 r, .i .i64 n, .sl (.int .i64) w, .sl (.int .i64) h, .sl (.int .i64) d]), some (.row false none .bool s), some (.row false none (.slice (.int .i64)) L)]) (.exit 2) ([.ptr 0 0, .ref 1 0 k, .ref 2 0 3, .i .i64 3, .i .i64 o], [some (.box [.i .i64 c, .i .i64 r, .i .i64 n, .sl (.int .i64) w, .sl (.int .i64) h, .sl (.int .i64) d]), some (.row false none .bool s'), some (.row false none (.slice (.int .i64)) L)])
    | none => Runs Try.prog (look [(117, .rd1 l1InG)]) (look [(7, specGQO), (10, specGQI)]) 0 (body Try.f51 1) specGQI ([.ptr 0 0, .ref 1 0 k, .sl (.int .i64) z, .ref 2 0 3, .i .i64 3, .i .i64 o, .sl (.int .i64) z, .i .i64 (↑z.length : Int), .i .i64 i], [some (.box [.i .i64 c, .i .i64 r, .i .i64 n, .sl (.int .i64) w, .sl (.int .i64) h, .sl (.int .i64) d]), some (.row false none .bool s), some (.row false none (.slice (.int .i64)) L)]) .ret ([.b false], [])
  | 0, i, s, hi, hk, hn, hn2 => by
    have e1 : z.drop i = [] := List.drop_eq_nil_of_le (by omega)
    have hr := specGQ_roundI c r n w h d k s L o z z z.length i
    rw [ifB_false (decide_eq_false (by omega))] at hr
    rw [e1]
    exact .stop _ _ _ hr (by simp)
  | j + 1, i, s, hi, hk, hn, hn2 => by
    have h1 : i < z.length := by omega
    have hr := specGQ_roundI c r n w h d k s L o z z z.length i
    have ih := specGQ_loopI (c := c) (r := r) (n := n) (w := w) (h := h) (d := d) (k := k) (L := L) (o := o) hz j (i + 1)
    rw [ifB_true (decide_eq_true (by omega)), ifT_true (by simp only [Bool.and_eq_true, decide_eq_true_eq]; omega)] at hr
    simp only [Int.toNat_natCast, Nat.zero_add, List.getElem?_eq_getElem h1, ifSome_s, wrap_succ (n := i) (by omega)] at hr
    rw [List.drop_eq_getElem_cons h1]
    have hz1 : (if i + 1 = 0 then none else z[i + 1 - 1]?) = some z[i] := by simp [h1]
    generalize z[i] = x at *
    have hw1 : IntKind.i64.wrap (n - 1) = n - 1 := wrap_id (by omega) (by omega)
    have hw2 : 0 < i → IntKind.i64.wrap ((i : Int) - 1) = ((i - 1 : Nat) : Int) := fun _ => by
      have hm : maxI = 9223372036854775807 := rfl
      rw [wrap_id (by omega) (by omega)]; omega
    have fail : ∀ (q : seenL (if i = 0 then none else z[i - 1]?) (x :: z.drop (i + 1)) s = none), roundK Try.prog (look [(117, .rd1 l1InG)]) (look [(7, specGQO), (10, specGQI)]) 0 (body Try.f51 1) specGQI ([.ptr 0 0, .ref 1 0 k, .sl (.int .i64) z, .ref 2 0 3, .i .i64 3, .i .i64 o, .sl (.int .i64) z, .i .i64 (↑z.length : Int), .i .i64 i], [some (.box [.i .i64 c, .i .i64 r, .i .i64 n, .sl (.int .i64) w, .sl (.int .i64) h, .sl (.int .i64) d]), some (.row false none .bool s), some (.row false none (.slice (.int .i64)) L)]) = some (.ret, [.b false], []) → match seenL (if i = 0 then none else z[i - 1]?) (x :: z.drop (i + 1)) s with
        | some s' => Runs Try.prog (look [(117, .rd1 l1InG)]) (look [(7, specGQO), (10, specGQI)]) 0 (body Try.f51 1) specGQI ([.ptr 0 0, .ref 1 0 k, .sl (.int .i64) z, .ref 2 0 3, .i .i64 3, .i .i64 o, .sl (.int .i64) z, .i .i64 (↑z.length : Int), .i .i64 i], [some (.box [.i .i64 c, .i .i64 r, .i .i64 n, .sl (.int .i64) w, .sl (.int .i64) h, .sl (.int .i64) d]), some (.row false none .bool s), some (.row false none (.slice (.int .i64)) L)]) (.exit 2) ([.ptr 0 0, .ref 1 0 k, .ref 2 0 3, .i .i64 3, .i .i64 o], [some (.box [.i .i64 c, .i .i64 r, .i .i64 n, .sl (.int .i64) w, .sl (.int .i64) h, .sl (.int .i64) d]), some (.row false none .bool s'), some (.row false none (.slice (.int .i64)) L)])
        | none => Runs Try.prog (look [(117, .rd1 l1InG)]) (look [(7, specGQO), (10, specGQI)]) 0 (body Try.f51 1) specGQI ([.ptr 0 0, .ref 1 0 k, .sl (.int .i64) z, .ref 2 0 3, .i .i64 3, .i .i64 o, .sl (.int .i64) z, .i .i64 (↑z.length : Int), .i .i64 i], [some (.box [.i .i64 c, .i .i64 r, .i .i64 n, .sl (.int .i64) w, .sl (.int .i64) h, .sl (.int .i64) d]), some (.row false none .bool s), some (.row false none (.slice (.int .i64)) L)]) .ret ([.b false], []) := fun q hq => by
      rw [q]; exact .stop _ _ _ hq (by simp)
    by_cases h2 : 0 ≤ x ∧ x < n
    rotate_left
    · refine fail (by unfold seenL; rw [if_neg (fun hh => h2 ⟨hh.1.1, by omega⟩)]) ?_
      refine hr.trans ?_
      by_cases h0 : x < 0
      · rw [ifB_true (decide_eq_true h0)]
      · rw [ifB_false (decide_eq_false h0), ifB_true (decide_eq_true (by omega))]
    have h3 : x.toNat < s.length := by omega
    have h4 : s[x.toNat]? = some s[x.toNat] := List.getElem?_eq_getElem h3
    have h5 : s.getD x.toNat true = s[x.toNat] := by simp [List.getD, h3]
    try rw [hw1] at hr
    rw [ifB_false (decide_eq_false (by omega)), ifB_false (decide_eq_false (by omega))] at hr
    rw [ifT_true (by simp only [Bool.and_eq_true, decide_eq_true_eq]; omega), h4, ifSome_s] at hr
    by_cases h6 : s[x.toNat] = true
    · refine fail (by unfold seenL; rw [if_neg (fun hh => by have := hh.2.1; rw [h5, h6] at this; cases this)]) ?_
      rw [ifB_true h6] at hr; exact hr
    have h6 : s[x.toNat] = false := by simpa using h6
    rw [ifB_false h6] at hr
    have go : before (if i = 0 then none else z[i - 1]?) x = true → roundK Try.prog (look [(117, .rd1 l1InG)]) (look [(7, specGQO), (10, specGQI)]) 0 (body Try.f51 1) specGQI ([.ptr 0 0, .ref 1 0 k, .sl (.int .i64) z, .ref 2 0 3, .i .i64 3, .i .i64 o, .sl (.int .i64) z, .i .i64 (↑z.length : Int), .i .i64 i], [some (.box [.i .i64 c, .i .i64 r, .i .i64 n, .sl (.int .i64) w, .sl (.int .i64) h, .sl (.int .i64) d]), some (.row false none .bool s), some (.row false none (.slice (.int .i64)) L)]) = some (.normal, ([.ptr 0 0, .ref 1 0 k, .sl (.int .i64) z, .ref 2 0 3, .i .i64 3, .i .i64 o, .sl (.int .i64) z, .i .i64 (↑z.length : Int), .i .i64 ((i + 1 : Nat) : Int)], [some (.box [.i .i64 c, .i .i64 r, .i .i64 n, .sl (.int .i64) w, .sl (.int .i64) h, .sl (.int .i64) d]), some (.row false none .bool (s.set x.toNat true)), some (.row false none (.slice (.int .i64)) L)])) → match seenL (if i = 0 then none else z[i - 1]?) (x :: z.drop (i + 1)) s with
        | some s' => Runs Try.prog (look [(117, .rd1 l1InG)]) (look [(7, specGQO), (10, specGQI)]) 0 (body Try.f51 1) specGQI ([.ptr 0 0, .ref 1 0 k, .sl (.int .i64) z, .ref 2 0 3, .i .i64 3, .i .i64 o, .sl (.int .i64) z, .i .i64 (↑z.length : Int), .i .i64 i], [some (.box [.i .i64 c, .i .i64 r, .i .i64 n, .sl (.int .i64) w, .sl (.int .i64) h, .sl (.int .i64) d]), some (.row false none .bool s), some (.row false none (.slice (.int .i64)) L)]) (.exit 2) ([.ptr 0 0, .ref 1 0 k, .ref 2 0 3, .i .i64 3, .i .i64 o], [some (.box [.i .i64 c, .i .i64 r, .i .i64 n, .sl (.int .i64) w, .sl (.int .i64) h, .sl (.int .i64) d]), some (.row false none .bool s'), some (.row false none (.slice (.int .i64)) L)])
        | none => Runs Try.prog (look [(117, .rd1 l1InG)]) (look [(7, specGQO), (10, specGQI)]) 0 (body Try.f51 1) specGQI ([.ptr 0 0, .ref 1 0 k, .sl (.int .i64) z, .ref 2 0 3, .i .i64 3, .i .i64 o, .sl (.int .i64) z, .i .i64 (↑z.length : Int), .i .i64 i], [some (.box [.i .i64 c, .i .i64 r, .i .i64 n, .sl (.int .i64) w, .sl (.int .i64) h, .sl (.int .i64) d]), some (.row false none .bool s), some (.row false none (.slice (.int .i64)) L)]) .ret ([.b false], []) := fun hb hq => by
      have ih := ih (s.set x.toNat true) (by omega) (by rw [List.length_set]; exact hk) (by rw [List.length_set]; exact hn) hn2
      rw [hz1] at ih
      unfold seenL
      rw [if_pos ⟨⟨h2.1, by omega⟩, by rw [h5, h6], hb⟩]
      cases e : seenL (some x) (z.drop (i + 1)) (s.set x.toNat true) with
      | some s' => rw [e] at ih; exact .step _ _ _ _ hq ih
      | none => rw [e] at ih; exact .step _ _ _ _ hq ih
    by_cases h7 : i = 0
    · subst h7
      rw [ifB_false (by simp), ifT_true (by simp only [Bool.and_eq_true, decide_eq_true_eq]; omega)] at hr
      refine go rfl (hr.trans ?_)
      first | rfl | simp
    · have h8 : i - 1 < z.length := by omega
      rw [ifB_true (by simp; omega), hw2 (by omega), ifT_true (by simp only [Bool.and_eq_true, decide_eq_true_eq]; omega), Int.toNat_natCast, List.getElem?_eq_getElem h8, ifSome_s] at hr
      by_cases h9 : z[i - 1] ≥ x
      · rw [ifB_true (by simpa using h9)] at hr
        refine fail (by unfold seenL; rw [if_neg (fun hh => by have := hh.2.2; rw [if_neg h7, List.getElem?_eq_getElem h8] at this; simp [before] at this; omega)]) hr
      · rw [ifB_false (by simpa using h9), ifT_true (by simp only [Bool.and_eq_true, decide_eq_true_eq]; omega)] at hr
        refine go (by rw [if_neg h7, List.getElem?_eq_getElem h8]; simp [before]; omega) (hr.trans ?_)
        first | rfl | simp
theorem specGQ_loopO {c r n : Int} {w h d : List Int} {k : Nat} {L : List (List Int)} (hL : L.length = 3) (hz : ∀ z ∈ L, z.length ≤ maxI) : ∀ (j o : Nat) (s : List Bool), o + j = 3 → k = s.length → n = s.length → n ≤ 1000 →
    match seenLL (L.drop o) s with
    | some s' => Runs Try.prog (look [(117, .rd1 l1InG)]) (look [(7, specGQO), (10, specGQI)]) 0 (body Try.f51 0) specGQO ([.ptr 0 0, .ref 1 0 k, .ref 2 0 3, .i .i64 3, .i .i64 o], [some (.box [.i .i64 c, .i .i64 r, .i .i64 n, .sl (.int .i64) w, .sl (.int .i64) h, .sl (.int .i64) d]), some (.row false none .bool s), some (.row false none (.slice (.int .i64)) L)]) (.exit 0) ([.ptr 0 0, .ref 1 0 k], [some (.box [.i .i64 c, .i .i64 r, .i .i64 n, .sl (.int .i64) w, .sl (.int .i64) h, .sl (.int .i64) d]), some (.row false none .bool s')])
    | none => Runs Try.prog (look [(117, .rd1 l1InG)]) (look [(7, specGQO), (10, specGQI)]) 0 (body Try.f51 0) specGQO ([.ptr 0 0, .ref 1 0 k, .ref 2 0 3, .i .i64 3, .i .i64 o], [some (.box [.i .i64 c, .i .i64 r, .i .i64 n, .sl (.int .i64) w, .sl (.int .i64) h, .sl (.int .i64) d]), some (.row false none .bool s), some (.row false none (.slice (.int .i64)) L)]) .ret ([.b false], [])
  | 0, o, s, ho, hk, hn, hn2 => by
    have e1 : L.drop o = [] := List.drop_eq_nil_of_le (by omega)
    have hr := specGQ_roundO c r n w h d k s L o
    rw [ifB_false (decide_eq_false (by omega))] at hr
    rw [e1]
    exact .stop _ _ _ hr (by simp)
  | j + 1, o, s, ho, hk, hn, hn2 => by
    have h1 : o < L.length := by omega
    have hr := specGQ_roundO c r n w h d k s L o
    have hzo := hz L[o] (List.getElem_mem h1)
    rw [ifB_true (decide_eq_true (by omega)), ifT_true (by simp only [Bool.and_eq_true, decide_eq_true_eq]; omega)] at hr
    simp only [Int.toNat_natCast, Nat.zero_add, List.getElem?_eq_getElem h1, ifSome_s, if_true, List.drop_zero, wrap_succ (n := o) (by unfold maxI; omega)] at hr
    rw [List.drop_eq_getElem_cons h1]
    generalize L[o] = z at *
    rw [ifT_true (decide_eq_true ⟨by omega, by omega, trivial, trivial, hzo, hk, hn, hn2⟩)] at hr
    unfold seenLL
    cases e : seenL none z s with
    | none =>
      rw [e] at hr
      rw [ifB_false (by rfl)] at hr
      exact .stop _ _ _ hr (by simp)
    | some s1 =>
      have hl := seenL_length e
      rw [e] at hr
      rw [ifB_true (by rfl)] at hr
      have ih := specGQ_loopO (c := c) (r := r) (n := n) (w := w) (h := h) (d := d) (k := k) hL hz j (o + 1) s1 (by omega) (by omega) (by omega) hn2
      dsimp only
      cases e2 : seenLL (L.drop (o + 1)) s1 with
      | some s' => rw [e2] at ih; exact .step _ _ _ _ hr ih
      | none => rw [e2] at ih; exact .step _ _ _ _ hr ih
theorem specGQ_ok : LoopsOk Try.prog (look [(117, .rd1 l1InG)]) (look [(7, specGQO), (10, specGQI)]) 0 (Try.f51.body.getD .skip) := by
  refine LoopsI.loops (cs := [body Try.f51 0, body Try.f51 1]) (.cons (ent := specGQO) (by kernel_rfl) (fun q e q' hq => ?_) (.cons (ent := specGQI) (by kernel_rfl) (fun q e q' hq => ?_) .nil)) (by kernel_rfl)
  · unfold specGQO at hq
    dsimp only at hq
    split at hq
    · rename_i k o c r n w h d s L
      obtain ⟨hc, hx⟩ := need_some hq
      clear hq
      obtain ⟨h0, h1, h2, h3, h4, h5, h6⟩ := of_decide_eq_true hc
      obtain ⟨o, rfl⟩ := Int.eq_ofNat_of_zero_le h0
      have := specGQ_loopO (c := c) (r := r) (n := n) (w := w) (h := h) (d := d) (k := k) h2 h3 (3 - o) o s (by omega) h4 h5 h6
      rw [Int.toNat_natCast] at hx
      rcases br_some hx with ⟨h7, hx⟩ | ⟨h7, hx⟩
      · cases e : seenLL (L.drop o) s with
        | none => rw [e] at h7; cases h7
        | some s' => rw [e] at this hx; cases leaf_some hx; exact this
      · cases e : seenLL (L.drop o) s with
        | none => rw [e] at this; cases leaf_some hx; exact this
        | some s' => rw [e] at h7; cases h7
    · cases hq
  · unfold specGQI at hq
    dsimp only at hq
    split at hq
    · rename_i k z o z2 len i c r n w h d s L
      obtain ⟨hc, hx⟩ := need_some hq
      clear hq
      obtain ⟨h0, h1, h2, h3, h4, h5, h6, h7⟩ := of_decide_eq_true hc
      subst h2 h3
      obtain ⟨i, rfl⟩ := Int.eq_ofNat_of_zero_le h0
      rw [Int.toNat_natCast] at hx h1
      have := specGQ_loopI (c := c) (r := r) (n := n) (w := w) (h := h) (d := d) (k := k) (L := L) (o := o) h4 (z2.length - i) i s (by omega) h5 h6 h7
      rcases br_some hx with ⟨h8, hx⟩ | ⟨h8, hx⟩
      · cases e : seenL (if i = 0 then none else z2[i - 1]?) (z2.drop i) s with
        | none => rw [e] at h8; cases h8
        | some s' => rw [e] at this hx; cases leaf_some hx; exact this
      · cases e : seenL (if i = 0 then none else z2[i - 1]?) (z2.drop i) s with
        | none => rw [e] at this; cases leaf_some hx; exact this
        | some s' => rw [e] at h8; cases h8
    · cases hq
theorem goodQ_not {c r n : Int} {w h d : List Int} (hh : ¬ ((1 ≤ c ∧ c ≤ 10) ∧ (1 ≤ r ∧ r ≤ 3) ∧ (0 ≤ n ∧ n ≤ 100) ∧ (w.length : Int) ≤ c ∧ (w.length : Int) + h.length + d.length = n)) : goodQ c r n w h d = false := by
  unfold goodQ; rw [decide_eq_false hh]; rfl
theorem goodQ_none {c r n : Int} {w h d : List Int} (hh : seenLL [w, h, d] (List.replicate n.toNat false) = none) : goodQ c r n w h d = false := by
  unfold goodQ; rw [hh]; simp
theorem goodQ_all {c r n : Int} {w h d : List Int} {s : List Bool} (hh : ((1 ≤ c ∧ c ≤ 10) ∧ (1 ≤ r ∧ r ≤ 3) ∧ (0 ≤ n ∧ n ≤ 100) ∧ (w.length : Int) ≤ c ∧ (w.length : Int) + h.length + d.length = n)) (he : seenLL [w, h, d] (List.replicate n.toNat false) = some s) : goodQ c r n w h d = true := by
  unfold goodQ; rw [decide_eq_true hh, he]; rfl
theorem implNewQ_fun (c r : Int) : funN Try.prog (look [(94, .rd1 withinG)]) (look []) Try.f106 [.i .i64 c, .i .i64 r] [] = (newQG [.i .i64 c, .i .i64 r] []).run := by
  have e : funN Try.prog (look [(94, .rd1 withinG)]) (look []) Try.f106 [.i .i64 c, .i .i64 r] [] = ((ifB (!decide ((1 : Int) ≤ c ∧ c ≤ (10 : Int)))
  (some
  (V.tup
  [V.agg
  [V.i IntKind.i64 (0 : Int), V.i IntKind.i64 (0 : Int), V.i IntKind.i64 (0 : Int),
  V.ref (0 : Nat) (0 : Nat) (0 : Nat), V.ref (1 : Nat) (0 : Nat) (0 : Nat),
  V.ref (2 : Nat) (0 : Nat) (0 : Nat)],
  V.b false],
  [some (Blk.row false none (Cd.int IntKind.i64) (nilT (Cd.int IntKind.i64).den)),
  some (Blk.row false none (Cd.int IntKind.i64) (nilT (Cd.int IntKind.i64).den)),
  some (Blk.row false none (Cd.int IntKind.i64) (nilT (Cd.int IntKind.i64).den))]))
  (ifB (!decide ((1 : Int) ≤ r ∧ r ≤ (3 : Int)))
  (some
  (V.tup
  [V.agg
  [V.i IntKind.i64 (0 : Int), V.i IntKind.i64 (0 : Int), V.i IntKind.i64 (0 : Int),
  V.ref (0 : Nat) (0 : Nat) (0 : Nat), V.ref (1 : Nat) (0 : Nat) (0 : Nat),
  V.ref (2 : Nat) (0 : Nat) (0 : Nat)],
  V.b false],
  [some (Blk.row false none (Cd.int IntKind.i64) (nilT (Cd.int IntKind.i64).den)),
  some (Blk.row false none (Cd.int IntKind.i64) (nilT (Cd.int IntKind.i64).den)),
  some (Blk.row false none (Cd.int IntKind.i64) (nilT (Cd.int IntKind.i64).den))]))
  (some
  (V.tup
  [V.agg
  [V.i IntKind.i64 c, V.i IntKind.i64 r, V.i IntKind.i64 (0 : Int), V.ref (0 : Nat) (0 : Nat) (0 : Nat),
  V.ref (1 : Nat) (0 : Nat) (0 : Nat), V.ref (2 : Nat) (0 : Nat) (0 : Nat)],
  V.b true],
  [some (Blk.row false none (Cd.int IntKind.i64) (nilT (Cd.int IntKind.i64).den)),
  some (Blk.row false none (Cd.int IntKind.i64) (nilT (Cd.int IntKind.i64).den)),
  some (Blk.row false none (Cd.int IntKind.i64) (nilT (Cd.int IntKind.i64).den))])))) : _) := by kernel_rfl
  rw [e]
  unfold newQG
  by_cases h1 : 1 ≤ c ∧ c ≤ 10 <;> by_cases h2 : 1 ≤ r ∧ r ≤ 3 <;> simp [h1, h2, Br.run]
theorem implNewQ : Contract Try.prog 106 (Ent.rd1 newQG).F := by
  refine fun_contractN' (KnowsL.cons (enters_fn Try.func94 (by kernel_rfl) (by kernel_rfl)) within KnowsL.nil).knows (Λ := look []) Try.func106 (c := Try.f106.body.getD .skip) (by kernel_rfl) fun vs bs r h hv hb => ?_
  have h' := h
  unfold Ent.F newQG at h'
  dsimp only at h'
  split at h'
  · rename_i c r
    exact ⟨loopsOk_nil _, (implNewQ_fun c r).trans h⟩
  · cases h'
theorem specNewQ_fun (c r : Int) : funN Try.prog (look [(117, .rd1 l1InG)]) (look []) Try.f109 [.i .i64 c, .i .i64 r] [] = (newQG [.i .i64 c, .i .i64 r] []).run := by
  have e : funN Try.prog (look [(117, .rd1 l1InG)]) (look []) Try.f109 [.i .i64 c, .i .i64 r] [] = ((ifB (!decide ((1 : Int) ≤ c ∧ c ≤ (10 : Int)))
  (some
  (V.tup
  [V.agg
  [V.i IntKind.i64 (0 : Int), V.i IntKind.i64 (0 : Int), V.i IntKind.i64 (0 : Int),
  V.ref (0 : Nat) (0 : Nat) (0 : Nat), V.ref (1 : Nat) (0 : Nat) (0 : Nat),
  V.ref (2 : Nat) (0 : Nat) (0 : Nat)],
  V.b false],
  [some (Blk.row false none (Cd.int IntKind.i64) (nilT (Cd.int IntKind.i64).den)),
  some (Blk.row false none (Cd.int IntKind.i64) (nilT (Cd.int IntKind.i64).den)),
  some (Blk.row false none (Cd.int IntKind.i64) (nilT (Cd.int IntKind.i64).den))]))
  (ifB (!decide ((1 : Int) ≤ r ∧ r ≤ (3 : Int)))
  (some
  (V.tup
  [V.agg
  [V.i IntKind.i64 (0 : Int), V.i IntKind.i64 (0 : Int), V.i IntKind.i64 (0 : Int),
  V.ref (0 : Nat) (0 : Nat) (0 : Nat), V.ref (1 : Nat) (0 : Nat) (0 : Nat),
  V.ref (2 : Nat) (0 : Nat) (0 : Nat)],
  V.b false],
  [some (Blk.row false none (Cd.int IntKind.i64) (nilT (Cd.int IntKind.i64).den)),
  some (Blk.row false none (Cd.int IntKind.i64) (nilT (Cd.int IntKind.i64).den)),
  some (Blk.row false none (Cd.int IntKind.i64) (nilT (Cd.int IntKind.i64).den))]))
  (some
  (V.tup
  [V.agg
  [V.i IntKind.i64 c, V.i IntKind.i64 r, V.i IntKind.i64 (0 : Int), V.ref (0 : Nat) (0 : Nat) (0 : Nat),
  V.ref (1 : Nat) (0 : Nat) (0 : Nat), V.ref (2 : Nat) (0 : Nat) (0 : Nat)],
  V.b true],
  [some (Blk.row false none (Cd.int IntKind.i64) (nilT (Cd.int IntKind.i64).den)),
  some (Blk.row false none (Cd.int IntKind.i64) (nilT (Cd.int IntKind.i64).den)),
  some (Blk.row false none (Cd.int IntKind.i64) (nilT (Cd.int IntKind.i64).den))])))) : _) := by kernel_rfl
  rw [e]
  unfold newQG
  by_cases h1 : 1 ≤ c ∧ c ≤ 10 <;> by_cases h2 : 1 ≤ r ∧ r ≤ 3 <;> simp [h1, h2, Br.run]
theorem specNewQ : Contract Try.prog 109 (Ent.rd1 newQG).F := by
  refine fun_contractN' (KnowsL.cons (enters_fn Try.func117 (by kernel_rfl) (by kernel_rfl)) l1In KnowsL.nil).knows (Λ := look []) Try.func109 (c := Try.f109.body.getD .skip) (by kernel_rfl) fun vs bs r h hv hb => ?_
  have h' := h
  unfold Ent.F newQG at h'
  dsimp only at h'
  split at h'
  · rename_i c r
    exact ⟨loopsOk_nil _, (specNewQ_fun c r).trans h⟩
  · cases h'
theorem count_set {s : List Bool} {i : Nat} (hi : i < s.length) (h : s.getD i true = false) : (s.set i true).count true = s.count true + 1 := by
  induction s generalizing i with
  | nil => simp at hi
  | cons b s ih =>
    match i with
    | 0 => simp at h; subst h; simp
    | i + 1 =>
      simp only [List.set_cons_succ, List.count_cons]
      rw [ih (by simpa using hi) (by simpa using h)]
      omega
theorem seenL_count : ∀ {l : List Int} {p : Option Int} {s s1 : List Bool}, seenL p l s = some s1 → s1.count true = s.count true + l.length
  | [], p, s, s1, h => by cases h; rfl
  | z :: l, p, s, s1, h => by
    unfold seenL at h
    split at h
    · rename_i hh
      have := seenL_count h
      rw [this, count_set (by omega) hh.2.1, List.length_cons]
      omega
    · cases h
theorem count_full {s : List Bool} : false ∉ s ↔ s.count true = s.length := by
  induction s with
  | nil => simp
  | cons b s ih =>
    have := List.count_le_length (a := true) (l := s)
    cases b with
    | true => simp [ih]
    | false => simp; omega
theorem seenLL3 {w h d : List Int} {s s1 : List Bool} (e : seenLL [w, h, d] s = some s1) : s1.length = s.length ∧ s1.count true = s.count true + (w.length + h.length + d.length) := by
  unfold seenLL at e
  split at e
  · rename_i a ea
    unfold seenLL at e
    split at e
    · rename_i b eb
      unfold seenLL at e
      split at e
      · rename_i c ec
        cases e
        have h1 := seenL_length ea
        have h2 := seenL_length eb
        have h3 := seenL_length ec
        have c1 := seenL_count ea
        have c2 := seenL_count eb
        have c3 := seenL_count ec
        omega
      · cases e
    · cases e
  · cases e
theorem implGQ_fun (c r n : Int) (w h d : List Int) (lw : w.length ≤ maxI) (lh : h.length ≤ maxI) (ld : d.length ≤ maxI) : funK Try.prog (look [(94, .rd1 withinG), (106, .rd1 newQG), (113, .rd1 contBoolG)]) (look [(6, implGQO), (9, implGQI)]) Try.f37 [.agg [.i .i64 c, .i .i64 r, .i .i64 n, .sl (.int .i64) w, .sl (.int .i64) h, .sl (.int .i64) d]] [] = some (.b (goodQ c r n w h d), []) := by
  rw [implGQ_fun0]
  by_cases q1 : (1 ≤ c ∧ c ≤ 10) ∧ 1 ≤ r ∧ r ≤ 3
  rotate_left
  · rw [ifB_false (decide_eq_false q1), goodQ_not (fun hh => q1 ⟨hh.1, hh.2.1⟩)]
  rw [ifB_true (decide_eq_true q1)]
  by_cases q2 : 0 ≤ n ∧ n ≤ 100
  rotate_left
  · rw [ifB_true (by simp [q2]), goodQ_not (fun hh => q2 hh.2.2.1)]
  rw [ifB_false (by simp [q2])]
  by_cases q3 : (w.length : Int) ≤ c
  rotate_left
  · rw [ifB_true (decide_eq_true (by omega)), goodQ_not (fun hh => q3 hh.2.2.2.1)]
  obtain ⟨m, rfl⟩ := Int.eq_ofNat_of_zero_le q2.1
  rw [ifB_false (decide_eq_false (by omega)), ifT_true (by simp only [Bool.and_eq_true, decide_eq_true_eq]; omega)]
  rw [ifT_true (decide_eq_true ⟨by omega, by omega, by trivial, by simp [lw, lh, ld], by simp, by simp, by omega⟩)]
  simp only [List.drop_zero, Int.toNat_natCast]
  cases e : seenLL [w, h, d] (List.replicate m false) with
  | none => rw [goodQ_none (by rw [Int.toNat_natCast]; exact e)]; rfl
  | some s1 =>
    obtain ⟨h1, h2⟩ := seenLL3 e
    have h3 : (List.replicate m false).count true = 0 := by rw [List.count_replicate]; simp
    rw [List.length_replicate] at h1
    have h4 := count_full (s := s1)
    rw [ifB_true (by rfl)]
    simp only [Option.getD_some]
    have e5 : List.take m s1 = s1 := List.take_of_length_le (by omega)
    simp only [e5]
    by_cases h5 : false ∈ s1
    · rw [goodQ_not (fun hh => h4.2 (by omega) h5), decide_eq_true h5]; rfl
    · have := h4.1 h5
      rw [goodQ_all ⟨q1.1, q1.2, q2, q3, by omega⟩ (by rw [Int.toNat_natCast]; exact e), decide_eq_false h5]; rfl
theorem implGQ : Contract Try.prog 37 (Ent.rd1 goodQG).F := by
  refine fun_contract' (KnowsL.cons (enters_fn Try.func94 (by kernel_rfl) (by kernel_rfl)) within (KnowsL.cons (enters_fn Try.func106 (by kernel_rfl) (by kernel_rfl)) implNewQ (KnowsL.cons (enters_fn Try.func113 (by kernel_rfl) (by kernel_rfl)) contBool KnowsL.nil))).knows (Λ := (look [(6, implGQO), (9, implGQI)])) Try.func37 (c := Try.f37.body.getD .skip) (by kernel_rfl) fun vs bs r' hq hv hb => ?_
  unfold Ent.F goodQG at hq
  dsimp only at hq
  split at hq
  · rename_i c r n w h d
    have hf := hv _ List.mem_cons_self
    exact ⟨implGQ_ok, (implGQ_fun c r n w h d (hf (.sl (.int .i64) w) (by simp)).1 (hf (.sl (.int .i64) h) (by simp)).1 (hf (.sl (.int .i64) d) (by simp)).1).trans (by cases hq; rfl)⟩
  · cases hq
theorem specGQ_fun (c r n : Int) (w h d : List Int) (lw : w.length ≤ maxI) (lh : h.length ≤ maxI) (ld : d.length ≤ maxI) : funK Try.prog (look [(117, .rd1 l1InG)]) (look [(7, specGQO), (10, specGQI)]) Try.f51 [.agg [.i .i64 c, .i .i64 r, .i .i64 n, .sl (.int .i64) w, .sl (.int .i64) h, .sl (.int .i64) d]] [] = some (.b (goodQ c r n w h d), []) := by
  rw [specGQ_fun0]
  by_cases q1 : 1 ≤ c ∧ c ≤ 10
  rotate_left
  · rw [ifB_true (by simp [q1]), goodQ_not (fun hh => q1 hh.1)]
  rw [ifB_false (by simp [q1])]
  by_cases q1' : 1 ≤ r ∧ r ≤ 3
  rotate_left
  · rw [ifB_true (by simp [q1']), goodQ_not (fun hh => q1' hh.2.1)]
  rw [ifB_false (by simp [q1'])]
  by_cases q2 : 0 ≤ n ∧ n ≤ 100
  rotate_left
  · rw [ifB_true (by simp [q2]), goodQ_not (fun hh => q2 hh.2.2.1)]
  rw [ifB_false (by simp [q2])]
  by_cases q3 : (w.length : Int) ≤ c
  rotate_left
  · rw [ifB_true (decide_eq_true (by omega)), goodQ_not (fun hh => q3 hh.2.2.2.1)]
  obtain ⟨m, rfl⟩ := Int.eq_ofNat_of_zero_le q2.1
  rw [ifB_false (decide_eq_false (by omega))]
  have fit : (decide ((0 : Int) ≤ (m : Int)) && decide ((m : Int) ≤ (m : Int)) && decide ((m : Int) * (↑(1 : Nat) : Int) ≤ (140737488355328 : Int)) && decide ((m : Int) ≤ (9223372036854775807 : Int))) = true := by
    simp only [Bool.and_eq_true, decide_eq_true_eq]; omega
  rw [ifT_true fit, ifT_true (decide_eq_true ⟨by omega, by omega, by trivial, by simp [lw, lh, ld], by simp, by simp, by omega⟩)]
  simp only [Int.toNat_natCast]
  cases e : seenLL [w, h, d] (List.replicate m false) with
  | none => rw [goodQ_none (by rw [Int.toNat_natCast]; exact e), ifB_false (show (none : Option (List Bool)).isSome = false from rfl)]; generalize (IntKind.i64.wrap (IntKind.i64.wrap (↑w.length + ↑h.length) + ↑d.length) != (m : Int)) = bb; cases bb <;> rfl
  | some s1 =>
    obtain ⟨h1, h2⟩ := seenLL3 e
    have h3 : (List.replicate m false).count true = 0 := by rw [List.count_replicate]; simp
    rw [List.length_replicate] at h1
    have h4 := List.count_le_length (a := true) (l := s1)
    have w1 : IntKind.i64.wrap ((w.length : Int) + h.length) = (w.length : Int) + h.length := wrap_id (by omega) (by omega)
    have w2 : IntKind.i64.wrap ((w.length : Int) + h.length + d.length) = (w.length : Int) + h.length + d.length := wrap_id (by omega) (by omega)
    rw [w1, w2, ifB_true (show (some s1).isSome = true from rfl)]
    by_cases h5 : (w.length : Int) + h.length + d.length = (m : Int)
    · rw [ifB_false (by simpa using h5), goodQ_all ⟨q1, q1', q2, q3, h5⟩ (by rw [Int.toNat_natCast]; exact e)]
    · rw [ifB_true (by simpa using h5), goodQ_not (fun hh => h5 hh.2.2.2.2)]
theorem specGQ : Contract Try.prog 51 (Ent.rd1 goodQG).F := by
  refine fun_contract' (KnowsL.cons (enters_fn Try.func117 (by kernel_rfl) (by kernel_rfl)) l1In KnowsL.nil).knows (Λ := (look [(7, specGQO), (10, specGQI)])) Try.func51 (c := Try.f51.body.getD .skip) (by kernel_rfl) fun vs bs r' hq hv hb => ?_
  unfold Ent.F goodQG at hq
  dsimp only at hq
  split at hq
  · rename_i c r n w h d
    have hf := hv _ List.mem_cons_self
    exact ⟨specGQ_ok, (specGQ_fun c r n w h d (hf (.sl (.int .i64) w) (by simp)).1 (hf (.sl (.int .i64) h) (by simp)).1 (hf (.sl (.int .i64) d) (by simp)).1).trans (by cases hq; rfl)⟩
  · cases hq
end Go.Proofs.Ytjghbihlgfjebaa.Den
