/- What functions of the program do, by the machine: Cur2. -/
import Derived.Test.YtfkoljiioikdfaaDoorDCur
import Derived.KernelRfl
import Derived.Test.YtfkoljiioikdfaaDoorRows
namespace Go.Proofs.YtfkoljiioikdfaaDoor.Den
open Go.Proofs
set_option maxRecDepth 100000
def cpickG : List V → List Blk → Br (V × List (Option Blk))
  | [.ptr 0 0, .i .i64 n], [.box [.sl (.int .u8) l, .i .i64 a, .i .u64 s]] => .need (decide ((Cur.mk l a s).good 900000000)) (.leaf (.i .i64 ((Cur.mk l a s).pickV n), [some (.box [.sl (.int .u8) ((Cur.mk l a s).pickC n).l, .i .i64 ((Cur.mk l a s).pickC n).a, .i .u64 ((Cur.mk l a s).pickC n).s])]))
  | _, _ => .no
def coneG : List V → List Blk → Br (V × List (Option Blk))
  | [.ptr 0 0, .i .i64 n], [.box [.sl (.int .u8) l, .i .i64 a, .i .u64 s]] => .need (decide ((Cur.mk l a s).good 900000000)) (.leaf (.b ((Cur.mk l a s).pickV n == 0), [some (.box [.sl (.int .u8) ((Cur.mk l a s).pickC n).l, .i .i64 ((Cur.mk l a s).pickC n).a, .i .u64 ((Cur.mk l a s).pickC n).s])]))
  | _, _ => .no
def camongG : List V → List Blk → Br (V × List (Option Blk))
  | [.ptr 0 0, .ref 1 p m], [.box [.sl (.int .u8) l, .i .i64 a, .i .u64 s], .row false nl (.int .i64) r] => .need (decide ((Cur.mk l a s).good 900000000 ∧ 1 ≤ m ∧ p + m ≤ r.length)) (.leaf (.i .i64 (r.getD (p + ((Cur.mk l a s).pickV m).toNat) 0), [some (.box [.sl (.int .u8) ((Cur.mk l a s).pickC m).l, .i .i64 ((Cur.mk l a s).pickC m).a, .i .u64 ((Cur.mk l a s).pickC m).s]), some (.row false nl (.int .i64) r)]))
  | _, _ => .no
def cofG : List V → List Blk → Br (V × List (Option Blk))
  | [.ptr 0 0, .ref 1 p m], [.box [.sl (.int .u8) l, .i .i64 a, .i .u64 s], .row false nl .str r] => .need (decide ((Cur.mk l a s).good 900000000 ∧ 1 ≤ m ∧ p + m ≤ r.length)) (.leaf (.s (r.getD (p + ((Cur.mk l a s).pickV m).toNat) []), [some (.box [.sl (.int .u8) ((Cur.mk l a s).pickC m).l, .i .i64 ((Cur.mk l a s).pickC m).a, .i .u64 ((Cur.mk l a s).pickC m).s]), some (.row false nl .str r)]))
  | _, _ => .no
theorem cpick_fun (n : Int) (l : List Int) (a s : Int) (hc : (Cur.mk l a s).good 900000000) : funK Tryd.prog (look [(75, .own cnextG)]) (look []) Tryd.f59 [.ptr 0 0, .i .i64 n] [.box [.sl (.int .u8) l, .i .i64 a, .i .u64 s]] = (.leaf (.i .i64 ((Cur.mk l a s).pickV n), [some (.box [.sl (.int .u8) ((Cur.mk l a s).pickC n).l, .i .i64 ((Cur.mk l a s).pickC n).a, .i .u64 ((Cur.mk l a s).pickC n).s])]) : Br (V × List (Option Blk))).run := by
  have e : funK Tryd.prog (look [(75, .own cnextG)]) (look []) Tryd.f59 [.ptr 0 0, .i .i64 n] [.box [.sl (.int .u8) l, .i .i64 a, .i .u64 s]] =
    ((ifB (decide (n ≤ (1 : Int)))
  (some
  (V.i IntKind.i64 (0 : Int), [some (Blk.box [V.sl (Cd.int IntKind.u8) l, V.i IntKind.i64 a, V.i IntKind.u64 s])]))
  (ifT (decide ((Cur.mk l a s).good (1000000000 : Int)))
  (ifB (decide (n > (200 : Int)))
  (ifT (decide ((Cur.mk l a s).adv.good (1000000000 : Int)))
  (ifT (!decide (n = (0 : Int)))
  (some
  (V.i IntKind.i64
  ((IntKind.i64.wrap (IntKind.i64.wrap ((Cur.mk l a s).val * (256 : Int)) + (Cur.mk l a s).adv.val)).tmod
  n),
  [some
  (Blk.box
  [V.sl (Cd.int IntKind.u8) (Cur.mk l a s).adv.adv.l, V.i IntKind.i64 (Cur.mk l a s).adv.adv.a,
  V.i IntKind.u64 (Cur.mk l a s).adv.adv.s])]))))
  (ifT (!decide (n = (0 : Int)))
  (some
  (V.i IntKind.i64 ((Cur.mk l a s).val.tmod n),
  [some
  (Blk.box
  [V.sl (Cd.int IntKind.u8) (Cur.mk l a s).adv.l, V.i IntKind.i64 (Cur.mk l a s).adv.a,
  V.i IntKind.u64 (Cur.mk l a s).adv.s])])))))) : _) := by kernel_rfl
  rw [e]
  clear e
  have g0 : (Cur.mk l a s).good 1000000000 := Cur.good_mono hc (by omega)
  have g1 : (Cur.mk l a s).adv.good 1000000000 := Cur.good_mono (Cur.adv_good hc) (by omega)
  have r0 := Cur.val_range g0
  have r1 := Cur.val_range g1
  unfold Cur.pickV Cur.pickC
  try rw [show Cur.mk (Cur.mk l a s).adv.l (Cur.mk l a s).adv.a (Cur.mk l a s).adv.s = (Cur.mk l a s).adv from rfl]
  by_cases q : n ≤ 1
  · rw [ifB_true (decide_eq_true q), if_pos q, if_pos q]; rfl
  · rw [ifB_false (decide_eq_false q), ifT_true (decide_eq_true g0), if_neg q, if_neg q]
    by_cases q2 : n > 200
    · rw [ifB_true (decide_eq_true q2), ifT_true (decide_eq_true g1), ifT_true (by simp; omega), if_pos q2, if_pos q2, wrap_id (n := (Cur.mk l a s).val * 256) (by omega) (by omega), wrap_id (by omega) (by omega)]; rfl
    · rw [ifB_false (decide_eq_false q2), ifT_true (by simp; omega), if_neg q2, if_neg q2]; rfl
theorem cpick : Contract Tryd.prog 59 (Ent.own cpickG).F := by
  refine fun_contract' (KnowsL.cons (enters_fn Tryd.func75 (by kernel_rfl) (by kernel_rfl)) cnext KnowsL.nil).knows (Λ := look []) Tryd.func59 (c := Tryd.f59.body.getD .skip) (by kernel_rfl) fun vs bs r h hv hb => ?_
  unfold Ent.F cpickG at h
  dsimp only at h
  split at h
  · rename_i n l a s
    obtain ⟨hc, h⟩ := need_some h
    exact ⟨loopsOk_nil _, (cpick_fun n l a s (of_decide_eq_true hc)).trans h⟩
  · cases h
theorem cone_fun (n : Int) (l : List Int) (a s : Int) (hc : (Cur.mk l a s).good 900000000) : funK Tryd.prog (look [(59, .own cpickG)]) (look []) Tryd.f40 [.ptr 0 0, .i .i64 n] [.box [.sl (.int .u8) l, .i .i64 a, .i .u64 s]] = (.leaf (.b ((Cur.mk l a s).pickV n == 0), [some (.box [.sl (.int .u8) ((Cur.mk l a s).pickC n).l, .i .i64 ((Cur.mk l a s).pickC n).a, .i .u64 ((Cur.mk l a s).pickC n).s])]) : Br (V × List (Option Blk))).run := by
  have e : funK Tryd.prog (look [(59, .own cpickG)]) (look []) Tryd.f40 [.ptr 0 0, .i .i64 n] [.box [.sl (.int .u8) l, .i .i64 a, .i .u64 s]] =
    ((ifT (decide ((Cur.mk l a s).good (900000000 : Int)))
  (some
  (V.b ((Cur.mk l a s).pickV n == (0 : Int)),
  [some
  (Blk.box
  [V.sl (Cd.int IntKind.u8) ((Cur.mk l a s).pickC n).l, V.i IntKind.i64 ((Cur.mk l a s).pickC n).a,
  V.i IntKind.u64 ((Cur.mk l a s).pickC n).s])]))) : _) := by kernel_rfl
  rw [e, ifT_true (decide_eq_true hc)]
  rfl
theorem cone : Contract Tryd.prog 40 (Ent.own coneG).F := by
  refine fun_contract' (KnowsL.cons (enters_fn Tryd.func59 (by kernel_rfl) (by kernel_rfl)) cpick KnowsL.nil).knows (Λ := look []) Tryd.func40 (c := Tryd.f40.body.getD .skip) (by kernel_rfl) fun vs bs r h hv hb => ?_
  unfold Ent.F coneG at h
  dsimp only at h
  split at h
  · rename_i n l a s
    obtain ⟨hc, h⟩ := need_some h
    exact ⟨loopsOk_nil _, (cone_fun n l a s (of_decide_eq_true hc)).trans h⟩
  · cases h
theorem camong_fun (p m : Nat) (l : List Int) (a s : Int) (nl : Option Bool) (r : List Int) (hc : (Cur.mk l a s).good 900000000 ∧ 1 ≤ m ∧ p + m ≤ r.length) : funK Tryd.prog (look [(59, .own cpickG)]) (look []) Tryd.f66 [.ptr 0 0, .ref 1 p m] [.box [.sl (.int .u8) l, .i .i64 a, .i .u64 s], .row false nl (.int .i64) r] = (.leaf (.i .i64 (r.getD (p + ((Cur.mk l a s).pickV m).toNat) 0), [some (.box [.sl (.int .u8) ((Cur.mk l a s).pickC m).l, .i .i64 ((Cur.mk l a s).pickC m).a, .i .u64 ((Cur.mk l a s).pickC m).s]), some (.row false nl (.int .i64) r)]) : Br (V × List (Option Blk))).run := by
  have e : funK Tryd.prog (look [(59, .own cpickG)]) (look []) Tryd.f66 [.ptr 0 0, .ref 1 p m] [.box [.sl (.int .u8) l, .i .i64 a, .i .u64 s], .row false nl (.int .i64) r] =
    ((ifT (decide ((Cur.mk l a s).good (900000000 : Int)))
  (ifT (decide ((0 : Int) ≤ (Cur.mk l a s).pickV (↑m : Int)) && decide ((Cur.mk l a s).pickV (↑m : Int) < (↑m : Int)))
  (ifSome r[p + ((Cur.mk l a s).pickV (↑m : Int)).toNat]? fun z =>
  some
  (V.i IntKind.i64 z,
  [some
  (Blk.box
  [V.sl (Cd.int IntKind.u8) ((Cur.mk l a s).pickC (↑m : Int)).l,
  V.i IntKind.i64 ((Cur.mk l a s).pickC (↑m : Int)).a,
  V.i IntKind.u64 ((Cur.mk l a s).pickC (↑m : Int)).s]),
  some (Blk.row false nl (Cd.int IntKind.i64) r)])))) : _) := by kernel_rfl
  obtain ⟨h1, h2, h3⟩ := hc
  have hr := Cur.pickV_range (k := (m : Int)) h1 (by omega)
  have hi : p + ((Cur.mk l a s).pickV m).toNat < r.length := by omega
  have eg : r.getD (p + ((Cur.mk l a s).pickV m).toNat) 0 = r[p + ((Cur.mk l a s).pickV m).toNat] := by simp [hi]
  rw [e, ifT_true (decide_eq_true h1), ifT_true (by simp only [Bool.and_eq_true, decide_eq_true_eq]; omega), List.getElem?_eq_getElem hi, ifSome_s, eg]
  rfl
theorem camong : Contract Tryd.prog 66 (Ent.own camongG).F := by
  refine fun_contract' (KnowsL.cons (enters_fn Tryd.func59 (by kernel_rfl) (by kernel_rfl)) cpick KnowsL.nil).knows (Λ := look []) Tryd.func66 (c := Tryd.f66.body.getD .skip) (by kernel_rfl) fun vs bs r h hv hb => ?_
  unfold Ent.F camongG at h
  dsimp only at h
  split at h
  · rename_i p m l a s nl r
    obtain ⟨hc, h⟩ := need_some h
    exact ⟨loopsOk_nil _, (camong_fun p m l a s nl r (of_decide_eq_true hc)).trans h⟩
  · cases h
theorem cof_fun (p m : Nat) (l : List Int) (a s : Int) (nl : Option Bool) (r : List (List UInt8)) (hc : (Cur.mk l a s).good 900000000 ∧ 1 ≤ m ∧ p + m ≤ r.length) : funK Tryd.prog (look [(59, .own cpickG)]) (look []) Tryd.f58 [.ptr 0 0, .ref 1 p m] [.box [.sl (.int .u8) l, .i .i64 a, .i .u64 s], .row false nl .str r] = (.leaf (.s (r.getD (p + ((Cur.mk l a s).pickV m).toNat) []), [some (.box [.sl (.int .u8) ((Cur.mk l a s).pickC m).l, .i .i64 ((Cur.mk l a s).pickC m).a, .i .u64 ((Cur.mk l a s).pickC m).s]), some (.row false nl .str r)]) : Br (V × List (Option Blk))).run := by
  have e : funK Tryd.prog (look [(59, .own cpickG)]) (look []) Tryd.f58 [.ptr 0 0, .ref 1 p m] [.box [.sl (.int .u8) l, .i .i64 a, .i .u64 s], .row false nl .str r] =
    ((ifT (decide ((Cur.mk l a s).good (900000000 : Int)))
  (ifT (decide ((0 : Int) ≤ (Cur.mk l a s).pickV (↑m : Int)) && decide ((Cur.mk l a s).pickV (↑m : Int) < (↑m : Int)))
  (ifSome r[p + ((Cur.mk l a s).pickV (↑m : Int)).toNat]? fun z =>
  some
  (V.s z,
  [some
  (Blk.box
  [V.sl (Cd.int IntKind.u8) ((Cur.mk l a s).pickC (↑m : Int)).l,
  V.i IntKind.i64 ((Cur.mk l a s).pickC (↑m : Int)).a,
  V.i IntKind.u64 ((Cur.mk l a s).pickC (↑m : Int)).s]),
  some (Blk.row false nl Cd.str r)])))) : _) := by kernel_rfl
  obtain ⟨h1, h2, h3⟩ := hc
  have hr := Cur.pickV_range (k := (m : Int)) h1 (by omega)
  have hi : p + ((Cur.mk l a s).pickV m).toNat < r.length := by omega
  have eg : r.getD (p + ((Cur.mk l a s).pickV m).toNat) [] = r[p + ((Cur.mk l a s).pickV m).toNat] := by simp [hi]
  rw [e, ifT_true (decide_eq_true h1), ifT_true (by simp only [Bool.and_eq_true, decide_eq_true_eq]; omega), List.getElem?_eq_getElem hi, ifSome_s, eg]
  rfl
theorem cof : Contract Tryd.prog 58 (Ent.own cofG).F := by
  refine fun_contract' (KnowsL.cons (enters_fn Tryd.func59 (by kernel_rfl) (by kernel_rfl)) cpick KnowsL.nil).knows (Λ := look []) Tryd.func58 (c := Tryd.f58.body.getD .skip) (by kernel_rfl) fun vs bs r h hv hb => ?_
  unfold Ent.F cofG at h
  dsimp only at h
  split at h
  · rename_i p m l a s nl r
    obtain ⟨hc, h⟩ := need_some h
    exact ⟨loopsOk_nil _, (cof_fun p m l a s nl r (of_decide_eq_true hc)).trans h⟩
  · cases h
end Go.Proofs.YtfkoljiioikdfaaDoor.Den
