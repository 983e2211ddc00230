/- What functions of the program do, by the machine: Dr6 Dr7 Dr8 Dr9 Val24 Val25 Val26 Val27 Val28 LD0 LD. -/
import Derived.Test.YtfkoljiioikdfaaDC
import Derived.KernelRfl
import Derived.Test.YtfkoljiioikdfaaRows
namespace Go.Proofs.Ytfkoljiioikdfaa.Den
open Go.Proofs
set_option maxRecDepth 100000
def dsmlG (f : Cur → (Int) × Cur) : List V → List Blk → Br (V × List (Option Blk))
  | [.ptr 0 0], [.box [.sl (.int .u8) l, .i .i64 a, .i .u64 s]] => .need (decide ((Cur.mk l a s).good 80000000)) (.leaf (.i .i64 (f  (Cur.mk l a s)).1, [some (cB (f  (Cur.mk l a s)).2)]))
  | _, _ => .no
mutual
/-- How much a drawn value of a type may be. -/
def vbR : Rose Lab → Nat
  | .node _ ks => 3 * vbL ks + 1
def vbL : List (Rose Lab) → Nat
  | [] => 0
  | z :: l => vbR z + vbL l
end
/-- There is room for so much. -/
def Cur.room (c : Cur) (k : Nat) : Prop := c.good (60000000 - (k : Int))
instance (c : Cur) (k : Nat) : Decidable (c.room k) := by unfold Cur.room; exact inferInstance
def dvalN (n : Nat) (f : Rose Lab → Cur → Rose VLab × Cur) : List V → List Blk → Br (V × List (Option Blk))
  | [.ptr 0 0, .agg [.i .i64 y0, .s y1, .i .i64 y2, .b y3, .i .i64 y4, .sl (.rose (.pair (.int .i64) (.pair .str (.pair (.int .i64) (.pair .bool (.pair (.int .i64) .unit)))))) ys]], [.box [.sl (.int .u8) l, .i .i64 a, .i .u64 s]] => .need (decide (cntR (Rose.node (y0, y1, y2, y3, y4, ()) ys) ≤ n ∧ rightR (Rose.node (y0, y1, y2, y3, y4, ()) ys) = true ∧ vbR (Rose.node (y0, y1, y2, y3, y4, ()) ys) ≤ 1000000 ∧ (Cur.mk l a s).room (8 * vbR (Rose.node (y0, y1, y2, y3, y4, ()) ys)))) (.leaf (.agg [.i .i64 (f (Rose.node (y0, y1, y2, y3, y4, ()) ys) (Cur.mk l a s)).1.lab.1, .s (f (Rose.node (y0, y1, y2, y3, y4, ()) ys) (Cur.mk l a s)).1.lab.2.1, .i .i64 (f (Rose.node (y0, y1, y2, y3, y4, ()) ys) (Cur.mk l a s)).1.lab.2.2.1, .b (f (Rose.node (y0, y1, y2, y3, y4, ()) ys) (Cur.mk l a s)).1.lab.2.2.2.1, .ref 1 0 (f (Rose.node (y0, y1, y2, y3, y4, ()) ys) (Cur.mk l a s)).1.kids.length], [some (cB (f (Rose.node (y0, y1, y2, y3, y4, ()) ys) (Cur.mk l a s)).2), some (.row false none (.rose (.pair (.int .i64) (.pair .str (.pair (.int .i64) (.pair .bool .unit))))) (f (Rose.node (y0, y1, y2, y3, y4, ()) ys) (Cur.mk l a s)).1.kids)]))
  | _, _ => .no
def dvaE (N : Nat) (o : Rose Lab × Cur × List (Rose VLab) × Nat → List (Rose VLab) × Cur) : LoopEnt := ⟨80, [0,3,4,5,6], [4,5], [], fun
  | ([.ptr 0 0, .ptr 1 0, .ptr 2 0, .ptr 3 0, .i .i64 n], [some (.box [.sl (.int .u8) l, .i .i64 a, .i .u64 s]), some (.box [.i .i64 y0, .s y1, .i .i64 y2, .b y3, .i .i64 y4, .sl (.rose (.pair (.int .i64) (.pair .str (.pair (.int .i64) (.pair .bool (.pair (.int .i64) .unit)))))) ys]), some (.box [.i .i64 0, .s [], .i .i64 0, .b false, .ref 4 0 0]), some (.box [.i .i64 0, .s [], .i .i64 0, .b true, .ref 5 0 w]), some (.row false none (.rose (.pair (.int .i64) (.pair .str (.pair (.int .i64) (.pair .bool .unit))))) []), some (.row false none (.rose (.pair (.int .i64) (.pair .str (.pair (.int .i64) (.pair .bool .unit))))) us)]) => .need (decide (cntR (Rose.node (y0, y1, y2, y3, y4, ()) ys) ≤ N + 1 ∧ rightR (Rose.node (y0, y1, y2, y3, y4, ()) ys) = true ∧ y0 = 4 ∧ vbR (Rose.node (y0, y1, y2, y3, y4, ()) ys) ≤ 1000000 ∧ 0 ≤ n ∧ n ≤ 3 ∧ w = us.length ∧ us.length ≤ 3 - n.toNat ∧ (Cur.mk l a s).room (6 + 8 * (n.toNat * vbL ys)))) (.leaf (.exit 1, ([.ptr 1 0, .ptr 2 0], [some (cB (o ((Rose.node (y0, y1, y2, y3, y4, ()) ys), (Cur.mk l a s), us, n.toNat)).2), some (.box [.i .i64 0, .s [], .i .i64 0, .b false, .ref 3 0 0]), some (.box [.i .i64 0, .s [], .i .i64 0, .b true, .ref 4 0 (o ((Rose.node (y0, y1, y2, y3, y4, ()) ys), (Cur.mk l a s), us, n.toNat)).1.length]), some (.row false none (.rose (.pair (.int .i64) (.pair .str (.pair (.int .i64) (.pair .bool .unit))))) []), some (.row false none (.rose (.pair (.int .i64) (.pair .str (.pair (.int .i64) (.pair .bool .unit))))) (o ((Rose.node (y0, y1, y2, y3, y4, ()) ys), (Cur.mk l a s), us, n.toNat)).1)])))
  | _ => .no⟩
def dvbE (N : Nat) (o : List (Rose Lab) × Cur × List (Rose VLab) × Nat → List (Rose VLab) × Cur) : LoopEnt := ⟨80, [0,4,5,54,55,56], [4,5], [], fun
  | ([.ptr 0 0, .ptr 1 0, .ptr 2 0, .sl (.rose (.pair (.int .i64) (.pair .str (.pair (.int .i64) (.pair .bool (.pair (.int .i64) .unit)))))) ks, .i .i64 k, .i .i64 i], [some (.box [.sl (.int .u8) l, .i .i64 a, .i .u64 s]), some (.box [.i .i64 0, .s [], .i .i64 0, .b false, .ref 3 0 0]), some (.box [.i .i64 0, .s [], .i .i64 0, .b true, .ref 4 0 w]), some (.row false none (.rose (.pair (.int .i64) (.pair .str (.pair (.int .i64) (.pair .bool .unit))))) []), some (.row false none (.rose (.pair (.int .i64) (.pair .str (.pair (.int .i64) (.pair .bool .unit))))) us)]) => .need (decide (cntL ks ≤ N ∧ rightL 5 ks = true ∧ 3 * vbL ks ≤ 1000000 ∧ k = ks.length ∧ 0 ≤ i ∧ i.toNat ≤ ks.length ∧ w = us.length ∧ us.length ≤ i.toNat ∧ (Cur.mk l a s).room (8 + 24 * vbL (ks.drop i.toNat)))) (.leaf (.exit 3, ([.ptr 1 0, .ptr 2 0], [some (cB (o (ks, (Cur.mk l a s), us, i.toNat)).2), some (.box [.i .i64 0, .s [], .i .i64 0, .b false, .ref 3 0 0]), some (.box [.i .i64 0, .s [], .i .i64 0, .b true, .ref 4 0 (o (ks, (Cur.mk l a s), us, i.toNat)).1.length]), some (.row false none (.rose (.pair (.int .i64) (.pair .str (.pair (.int .i64) (.pair .bool .unit))))) []), some (.row false none (.rose (.pair (.int .i64) (.pair .str (.pair (.int .i64) (.pair .bool .unit))))) (o (ks, (Cur.mk l a s), us, i.toNat)).1)])))
  | _ => .no⟩
theorem dsml_tree (f : Cur → (Int) × Cur)  (l : List Int) (a s : Int) : funC Try.prog (look [(163, .own (dnumG f)), (165, .rd1 numG)]) (look []) Try.f136 [.ptr 0 0] [.box [.sl (.int .u8) l, .i .i64 a, .i .u64 s]] =
  ((ifT (decide ((Cur.mk l a s).good (80000000 : Int))) (ifB (!numB (f (Cur.mk l a s)).fst) (some (V.i .i64 7, [some (Blk.box [V.sl (Cd.int .u8) (f (Cur.mk l a s)).snd.l, V.i
 .i64 (f (Cur.mk l a s)).snd.a, V.i .u64 (f (Cur.mk l a s)).snd.s])])) (some (V.i .i64 (f (Cur.mk l a s)).fst, [some (Blk.box [V.sl (Cd.int .u8) (f (Cur.mk l a s)).snd.l,
 V.i .i64 (f (Cur.mk l a s)).snd.a, V.i .u64 (f (Cur.mk l a s)).snd.s])])))) : _) := by kernel_rfl
theorem dsml_ex  (l : List Int) (a s : Int) (hc : (Cur.mk l a s).good 80000000) : Ex1 (funC Try.prog (look [(163, .own (dnumG dnum_f)), (165, .rd1 numG)]) (look []) Try.f136 [.ptr 0 0] [.box [.sl (.int .u8) l, .i .i64 a, .i .u64 s]]) (fun y : (Int) × Cur => ((.i .i64 y.1, [some (cB y.2)]) : V × List (Option Blk))) (fun y => (∀ n, (Cur.mk l a s).good n → n ≤ 80000000 → y.2.good (n + 8)) ∧ numB y.1 = true) := by
  refine Ex1.of (dsml_tree dnum_f  l a s) ?_
  obtain ⟨p1, p2⟩ := dnum_pr (Cur.mk l a s) hc
  simp only [cB_fold]
  refine Ex1.T (decide_eq_true hc) (Ex1.B (fun h => ?_) (fun h => ?_))
  all_goals refine Ex1.c _ rfl rfl ⟨p1, ?_⟩
  · show numB 7 = true; decide +kernel
  · show numB (dnum_f (Cur.mk l a s)).1 = true; cases e : numB (dnum_f (Cur.mk l a s)).1; rw [e] at h; cases h; rfl
theorem dsml_exf : ∃ f : Cur → (Int) × Cur, Contract Try.prog 136 (Ent.own (dsmlG f)).F ∧ ∀  (c : Cur), (c.good 80000000) → (∀ n, c.good n → n ≤ 80000000 → (f  c).2.good (n + 8)) ∧ numB (f  c).1 = true := by
  have ex := fun  (c : Cur) (hc : c.good 80000000) => dsml_ex  c.l c.a c.s hc
  classical
  refine ⟨fun  c => if h : c.good 80000000 then (ex  c h).choose else (0, c), ?_, fun  c hc => ?_⟩
  rotate_left
  · simp only [dif_pos hc]
    exact (ex  c hc).choose_spec.2
  refine fun_contractC' (KnowsL.cons (enters_fn Try.func163 (by kernel_rfl) (by kernel_rfl)) dnum_con (KnowsL.cons (enters_fn Try.func165 (by kernel_rfl) (by kernel_rfl)) l1Num KnowsL.nil)).knows (Λ := (look [])) Try.func136 (c := Try.f136.body.getD .skip) (by kernel_rfl) fun vs bs r hq hv hb => ?_
  unfold Ent.F dsmlG at hq
  dsimp only at hq
  split at hq
  · rename_i  l a s
    obtain ⟨hc, hx⟩ := need_some hq
    have hc := of_decide_eq_true hc
    refine ⟨loopsOk_nil _, ((ex  (Cur.mk l a s) hc).choose_spec.1).trans ?_⟩
    rw [dif_pos hc] at hx
    exact hx
  · cases hq
noncomputable def dsml_f : Cur → (Int) × Cur := dsml_exf.choose
theorem dsml_con : Contract Try.prog 136 (Ent.own (dsmlG dsml_f)).F := dsml_exf.choose_spec.1
theorem dsml_pr : ∀  (c : Cur), (c.good 80000000) → (∀ n, c.good n → n ≤ 80000000 → (dsml_f  c).2.good (n + 8)) ∧ numB (dsml_f  c).1 = true := dsml_exf.choose_spec.2
theorem dva_round (N : Nat) (f : Rose Lab → Cur → Rose VLab × Cur) (h : Cur → (Int) × Cur) (o1 : Rose Lab × Cur × List (Rose VLab) × Nat → List (Rose VLab) × Cur) (o2 : List (Rose Lab) × Cur × List (Rose VLab) × Nat → List (Rose VLab) × Cur) (y0 : Int) (y1 : List UInt8) (y2 : Int) (y3 : Bool) (y4 : Int) (ys : List (Rose Lab)) (n : Int) (l : List Int) (a s : Int) (w : Nat) (us : List (Rose VLab)) : roundK Try.prog (look [(56, .own cpickG), (85, .own coneG), (137, .own cofG), (136, .own (dsmlG h)), (162, .mix (dvalN N f))]) (look [(11, dvaE N o1), (16, dvbE N o2)]) 1 (body Try.f162 0) (dvaE N o1) ([.ptr 0 0, .ptr 1 0, .ptr 2 0, .ptr 3 0, .i .i64 n], [some (.box [.sl (.int .u8) l, .i .i64 a, .i .u64 s]), some (.box [.i .i64 y0, .s y1, .i .i64 y2, .b y3, .i .i64 y4, .sl (.rose LCd) ys]), some (.box [.i .i64 0, .s [], .i .i64 0, .b false, .ref 4 0 0]), some (.box [.i .i64 0, .s [], .i .i64 0, .b true, .ref 5 0 w]), some (.row false none (.rose VCd) []), some (.row false none (.rose VCd) us)]) =
  ((ifB (decide (n > (0 : Int))) (ifT (decide ((0 : Int) ≤ (0 : Int)) && decide ((0 : Int) < (↑ys.length : Int))) (ifSome ys[(0 : Nat)]? fun z => ifT (decide (cntR (Rose.node
 ((Rose.lab z).fst, (Rose.lab z).snd.fst, (Rose.lab z).snd.snd.fst, (Rose.lab z).snd.snd.snd.fst, (Rose.lab z).snd.snd.snd.snd.fst, ()) (Rose.kids z)) ≤ N ∧ rightR
 (Rose.node ((Rose.lab z).fst, (Rose.lab z).snd.fst, (Rose.lab z).snd.snd.fst, (Rose.lab z).snd.snd.snd.fst, (Rose.lab z).snd.snd.snd.snd.fst, ()) (Rose.kids z)) = true ∧
 vbR (Rose.node ((Rose.lab z).fst, (Rose.lab z).snd.fst, (Rose.lab z).snd.snd.fst, (Rose.lab z).snd.snd.snd.fst, (Rose.lab z).snd.snd.snd.snd.fst, ()) (Rose.kids z)) ≤
 (1000000 : Nat) ∧ (Cur.mk l a s).room ((8 : Nat) * vbR (Rose.node ((Rose.lab z).fst, (Rose.lab z).snd.fst, (Rose.lab z).snd.snd.fst, (Rose.lab z).snd.snd.snd.fst,
 (Rose.lab z).snd.snd.snd.snd.fst, ()) (Rose.kids z))))) (ifT (decide ((w + (1 : Nat)) * (64 : Nat) ≤ (140737488355328 : Nat)) && decide (w + (1 : Nat) ≤ maxI)) (some
 (Ex.normal, [V.ptr 0 0, V.ptr 1 0, V.ptr 2 0, V.ptr 3 0, V.i .i64 (IntKind.i64.wrap (n - (1 : Int)))], [some (Blk.box [V.sl (Cd.int .u8) (f (Rose.node ((Rose.lab z).fst,
 (Rose.lab z).snd.fst, (Rose.lab z).snd.snd.fst, (Rose.lab z).snd.snd.snd.fst, (Rose.lab z).snd.snd.snd.snd.fst, ()) (Rose.kids z)) (Cur.mk l a s)).snd.l, V.i .i64 (f
 (Rose.node ((Rose.lab z).fst, (Rose.lab z).snd.fst, (Rose.lab z).snd.snd.fst, (Rose.lab z).snd.snd.snd.fst, (Rose.lab z).snd.snd.snd.snd.fst, ()) (Rose.kids z)) (Cur.mk l
 a s)).snd.a, V.i .u64 (f (Rose.node ((Rose.lab z).fst, (Rose.lab z).snd.fst, (Rose.lab z).snd.snd.fst, (Rose.lab z).snd.snd.snd.fst, (Rose.lab z).snd.snd.snd.snd.fst, ())
 (Rose.kids z)) (Cur.mk l a s)).snd.s]), some (Blk.box [V.i .i64 y0, V.s y1, V.i .i64 y2, V.b y3, V.i .i64 y4, V.sl LCd.rose ys]), some (Blk.box [V.i .i64 0, V.s (nilT
 UInt8), V.i .i64 0, V.b false, V.ref 4 0 0]), some (Blk.box [V.i .i64 0, V.s (nilT UInt8), V.i .i64 0, V.b true, V.ref 5 0 (w + (1 : Nat))]), some (Blk.row false none
 VCd.rose (nilT VCd.rose.den)), some (Blk.row false none VCd.rose (List.take w (List.drop (0 : Nat) us) ++ Rose.node ((f (Rose.node ((Rose.lab z).fst, (Rose.lab
 z).snd.fst, (Rose.lab z).snd.snd.fst, (Rose.lab z).snd.snd.snd.fst, (Rose.lab z).snd.snd.snd.snd.fst, ()) (Rose.kids z)) (Cur.mk l a s)).fst.lab.fst, (f (Rose.node
 ((Rose.lab z).fst, (Rose.lab z).snd.fst, (Rose.lab z).snd.snd.fst, (Rose.lab z).snd.snd.snd.fst, (Rose.lab z).snd.snd.snd.snd.fst, ()) (Rose.kids z)) (Cur.mk l a
 s)).fst.lab.snd.fst, (f (Rose.node ((Rose.lab z).fst, (Rose.lab z).snd.fst, (Rose.lab z).snd.snd.fst, (Rose.lab z).snd.snd.snd.fst, (Rose.lab z).snd.snd.snd.snd.fst, ())
 (Rose.kids z)) (Cur.mk l a s)).fst.lab.snd.snd.fst, (f (Rose.node ((Rose.lab z).fst, (Rose.lab z).snd.fst, (Rose.lab z).snd.snd.fst, (Rose.lab z).snd.snd.snd.fst,
 (Rose.lab z).snd.snd.snd.snd.fst, ()) (Rose.kids z)) (Cur.mk l a s)).fst.lab.snd.snd.snd.fst, ()) (List.take (f (Rose.node ((Rose.lab z).fst, (Rose.lab z).snd.fst,
 (Rose.lab z).snd.snd.fst, (Rose.lab z).snd.snd.snd.fst, (Rose.lab z).snd.snd.snd.snd.fst, ()) (Rose.kids z)) (Cur.mk l a s)).fst.kids.length (List.drop (0 : Nat) (f
 (Rose.node ((Rose.lab z).fst, (Rose.lab z).snd.fst, (Rose.lab z).snd.snd.fst, (Rose.lab z).snd.snd.snd.fst, (Rose.lab z).snd.snd.snd.snd.fst, ()) (Rose.kids z)) (Cur.mk l
 a s)).fst.kids)) :: nilT VCd.rose.den))]))))) (some (Ex.exit 1, [V.ptr 1 0, V.ptr 2 0], [some (Blk.box [V.sl (Cd.int .u8) l, V.i .i64 a, V.i .u64 s]), some (Blk.box [V.i
 .i64 0, V.s (nilT UInt8), V.i .i64 0, V.b false, V.ref 3 0 0]), some (Blk.box [V.i .i64 0, V.s (nilT UInt8), V.i .i64 0, V.b true, V.ref 4 0 w]), some (Blk.row false none
 VCd.rose (nilT VCd.rose.den)), some (Blk.row false none VCd.rose us)]))) : _) := by kernel_rfl
theorem dvb_round (N : Nat) (f : Rose Lab → Cur → Rose VLab × Cur) (h : Cur → (Int) × Cur) (o1 : Rose Lab × Cur × List (Rose VLab) × Nat → List (Rose VLab) × Cur) (o2 : List (Rose Lab) × Cur × List (Rose VLab) × Nat → List (Rose VLab) × Cur) (ks : List (Rose Lab)) (k i : Int) (l : List Int) (a s : Int) (w : Nat) (us : List (Rose VLab)) : roundK Try.prog (look [(56, .own cpickG), (85, .own coneG), (137, .own cofG), (136, .own (dsmlG h)), (162, .mix (dvalN N f))]) (look [(11, dvaE N o1), (16, dvbE N o2)]) 1 (body Try.f162 1) (dvbE N o2) ([.ptr 0 0, .ptr 1 0, .ptr 2 0, .sl (.rose LCd) ks, .i .i64 k, .i .i64 i], [some (.box [.sl (.int .u8) l, .i .i64 a, .i .u64 s]), some (.box [.i .i64 0, .s [], .i .i64 0, .b false, .ref 3 0 0]), some (.box [.i .i64 0, .s [], .i .i64 0, .b true, .ref 4 0 w]), some (.row false none (.rose VCd) []), some (.row false none (.rose VCd) us)]) =
  ((ifB (decide (i < k)) (ifT (decide ((0 : Int) ≤ i) && decide (i < (↑ks.length : Int))) (ifSome ks[i.toNat]? fun z => ifB (Rose.lab z).snd.snd.snd.fst (ifT (decide (cntR
 (Rose.node ((Rose.lab z).fst, (Rose.lab z).snd.fst, (Rose.lab z).snd.snd.fst, (Rose.lab z).snd.snd.snd.fst, (Rose.lab z).snd.snd.snd.snd.fst, ()) (Rose.kids z)) ≤ N ∧
 rightR (Rose.node ((Rose.lab z).fst, (Rose.lab z).snd.fst, (Rose.lab z).snd.snd.fst, (Rose.lab z).snd.snd.snd.fst, (Rose.lab z).snd.snd.snd.snd.fst, ()) (Rose.kids z)) =
 true ∧ vbR (Rose.node ((Rose.lab z).fst, (Rose.lab z).snd.fst, (Rose.lab z).snd.snd.fst, (Rose.lab z).snd.snd.snd.fst, (Rose.lab z).snd.snd.snd.snd.fst, ()) (Rose.kids
 z)) ≤ (1000000 : Nat) ∧ (Cur.mk l a s).room ((8 : Nat) * vbR (Rose.node ((Rose.lab z).fst, (Rose.lab z).snd.fst, (Rose.lab z).snd.snd.fst, (Rose.lab z).snd.snd.snd.fst,
 (Rose.lab z).snd.snd.snd.snd.fst, ()) (Rose.kids z))))) (ifT (decide ((w + (1 : Nat)) * (64 : Nat) ≤ (140737488355328 : Nat)) && decide (w + (1 : Nat) ≤ maxI)) (some
 (Ex.normal, [V.ptr 0 0, V.ptr 1 0, V.ptr 2 0, V.sl LCd.rose ks, V.i .i64 k, V.i .i64 (IntKind.i64.wrap (i + (1 : Int)))], [some (Blk.box [V.sl (Cd.int .u8) (f (Rose.node
 ((Rose.lab z).fst, (Rose.lab z).snd.fst, (Rose.lab z).snd.snd.fst, (Rose.lab z).snd.snd.snd.fst, (Rose.lab z).snd.snd.snd.snd.fst, ()) (Rose.kids z)) (Cur.mk l a
 s)).snd.l, V.i .i64 (f (Rose.node ((Rose.lab z).fst, (Rose.lab z).snd.fst, (Rose.lab z).snd.snd.fst, (Rose.lab z).snd.snd.snd.fst, (Rose.lab z).snd.snd.snd.snd.fst, ())
 (Rose.kids z)) (Cur.mk l a s)).snd.a, V.i .u64 (f (Rose.node ((Rose.lab z).fst, (Rose.lab z).snd.fst, (Rose.lab z).snd.snd.fst, (Rose.lab z).snd.snd.snd.fst, (Rose.lab
 z).snd.snd.snd.snd.fst, ()) (Rose.kids z)) (Cur.mk l a s)).snd.s]), some (Blk.box [V.i .i64 0, V.s (nilT UInt8), V.i .i64 0, V.b false, V.ref 3 0 0]), some (Blk.box [V.i
 .i64 0, V.s (nilT UInt8), V.i .i64 0, V.b true, V.ref 4 0 (w + (1 : Nat))]), some (Blk.row false none VCd.rose (nilT VCd.rose.den)), some (Blk.row false none VCd.rose
 (List.take w (List.drop (0 : Nat) us) ++ Rose.node ((f (Rose.node ((Rose.lab z).fst, (Rose.lab z).snd.fst, (Rose.lab z).snd.snd.fst, (Rose.lab z).snd.snd.snd.fst,
 (Rose.lab z).snd.snd.snd.snd.fst, ()) (Rose.kids z)) (Cur.mk l a s)).fst.lab.fst, (f (Rose.node ((Rose.lab z).fst, (Rose.lab z).snd.fst, (Rose.lab z).snd.snd.fst,
 (Rose.lab z).snd.snd.snd.fst, (Rose.lab z).snd.snd.snd.snd.fst, ()) (Rose.kids z)) (Cur.mk l a s)).fst.lab.snd.fst, (Rose.lab z).snd.snd.fst, (f (Rose.node ((Rose.lab
 z).fst, (Rose.lab z).snd.fst, (Rose.lab z).snd.snd.fst, (Rose.lab z).snd.snd.snd.fst, (Rose.lab z).snd.snd.snd.snd.fst, ()) (Rose.kids z)) (Cur.mk l a
 s)).fst.lab.snd.snd.snd.fst, ()) (List.take (f (Rose.node ((Rose.lab z).fst, (Rose.lab z).snd.fst, (Rose.lab z).snd.snd.fst, (Rose.lab z).snd.snd.snd.fst, (Rose.lab
 z).snd.snd.snd.snd.fst, ()) (Rose.kids z)) (Cur.mk l a s)).fst.kids.length (List.drop (0 : Nat) (f (Rose.node ((Rose.lab z).fst, (Rose.lab z).snd.fst, (Rose.lab
 z).snd.snd.fst, (Rose.lab z).snd.snd.snd.fst, (Rose.lab z).snd.snd.snd.snd.fst, ()) (Rose.kids z)) (Cur.mk l a s)).fst.kids)) :: nilT VCd.rose.den))])))) (ifT (decide
 ((Cur.mk l a s).good (900000000 : Int))) (ifB ((Cur.mk l a s).pickV (2 : Int) == (0 : Int)) (ifT (decide (cntR (Rose.node ((Rose.lab z).fst, (Rose.lab z).snd.fst,
 (Rose.lab z).snd.snd.fst, (Rose.lab z).snd.snd.snd.fst, (Rose.lab z).snd.snd.snd.snd.fst, ()) (Rose.kids z)) ≤ N ∧ rightR (Rose.node ((Rose.lab z).fst, (Rose.lab
 z).snd.fst, (Rose.lab z).snd.snd.fst, (Rose.lab z).snd.snd.snd.fst, (Rose.lab z).snd.snd.snd.snd.fst, ()) (Rose.kids z)) = true ∧ vbR (Rose.node ((Rose.lab z).fst,
 (Rose.lab z).snd.fst, (Rose.lab z).snd.snd.fst, (Rose.lab z).snd.snd.snd.fst, (Rose.lab z).snd.snd.snd.snd.fst, ()) (Rose.kids z)) ≤ (1000000 : Nat) ∧ ((Cur.mk l a
 s).pickC (2 : Int)).room ((8 : Nat) * vbR (Rose.node ((Rose.lab z).fst, (Rose.lab z).snd.fst, (Rose.lab z).snd.snd.fst, (Rose.lab z).snd.snd.snd.fst, (Rose.lab
 z).snd.snd.snd.snd.fst, ()) (Rose.kids z))))) (ifT (decide ((w + (1 : Nat)) * (64 : Nat) ≤ (140737488355328 : Nat)) && decide (w + (1 : Nat) ≤ maxI)) (some (Ex.normal,
 [V.ptr 0 0, V.ptr 1 0, V.ptr 2 0, V.sl LCd.rose ks, V.i .i64 k, V.i .i64 (IntKind.i64.wrap (i + (1 : Int)))], [some (Blk.box [V.sl (Cd.int .u8) (f (Rose.node ((Rose.lab
 z).fst, (Rose.lab z).snd.fst, (Rose.lab z).snd.snd.fst, (Rose.lab z).snd.snd.snd.fst, (Rose.lab z).snd.snd.snd.snd.fst, ()) (Rose.kids z)) ((Cur.mk l a s).pickC (2 :
 Int))).snd.l, V.i .i64 (f (Rose.node ((Rose.lab z).fst, (Rose.lab z).snd.fst, (Rose.lab z).snd.snd.fst, (Rose.lab z).snd.snd.snd.fst, (Rose.lab z).snd.snd.snd.snd.fst,
 ()) (Rose.kids z)) ((Cur.mk l a s).pickC (2 : Int))).snd.a, V.i .u64 (f (Rose.node ((Rose.lab z).fst, (Rose.lab z).snd.fst, (Rose.lab z).snd.snd.fst, (Rose.lab
 z).snd.snd.snd.fst, (Rose.lab z).snd.snd.snd.snd.fst, ()) (Rose.kids z)) ((Cur.mk l a s).pickC (2 : Int))).snd.s]), some (Blk.box [V.i .i64 0, V.s (nilT UInt8), V.i .i64
 0, V.b false, V.ref 3 0 0]), some (Blk.box [V.i .i64 0, V.s (nilT UInt8), V.i .i64 0, V.b true, V.ref 4 0 (w + (1 : Nat))]), some (Blk.row false none VCd.rose (nilT
 VCd.rose.den)), some (Blk.row false none VCd.rose (List.take w (List.drop (0 : Nat) us) ++ Rose.node ((f (Rose.node ((Rose.lab z).fst, (Rose.lab z).snd.fst, (Rose.lab
 z).snd.snd.fst, (Rose.lab z).snd.snd.snd.fst, (Rose.lab z).snd.snd.snd.snd.fst, ()) (Rose.kids z)) ((Cur.mk l a s).pickC (2 : Int))).fst.lab.fst, (f (Rose.node ((Rose.lab
 z).fst, (Rose.lab z).snd.fst, (Rose.lab z).snd.snd.fst, (Rose.lab z).snd.snd.snd.fst, (Rose.lab z).snd.snd.snd.snd.fst, ()) (Rose.kids z)) ((Cur.mk l a s).pickC (2 :
 Int))).fst.lab.snd.fst, (Rose.lab z).snd.snd.fst, (f (Rose.node ((Rose.lab z).fst, (Rose.lab z).snd.fst, (Rose.lab z).snd.snd.fst, (Rose.lab z).snd.snd.snd.fst, (Rose.lab
 z).snd.snd.snd.snd.fst, ()) (Rose.kids z)) ((Cur.mk l a s).pickC (2 : Int))).fst.lab.snd.snd.snd.fst, ()) (List.take (f (Rose.node ((Rose.lab z).fst, (Rose.lab
 z).snd.fst, (Rose.lab z).snd.snd.fst, (Rose.lab z).snd.snd.snd.fst, (Rose.lab z).snd.snd.snd.snd.fst, ()) (Rose.kids z)) ((Cur.mk l a s).pickC (2 : Int))).fst.kids.length
 (List.drop (0 : Nat) (f (Rose.node ((Rose.lab z).fst, (Rose.lab z).snd.fst, (Rose.lab z).snd.snd.fst, (Rose.lab z).snd.snd.snd.fst, (Rose.lab z).snd.snd.snd.snd.fst, ())
 (Rose.kids z)) ((Cur.mk l a s).pickC (2 : Int))).fst.kids)) :: nilT VCd.rose.den))])))) (some (Ex.normal, [V.ptr 0 0, V.ptr 1 0, V.ptr 2 0, V.sl LCd.rose ks, V.i .i64 k,
 V.i .i64 (IntKind.i64.wrap (i + (1 : Int)))], [some (Blk.box [V.sl (Cd.int .u8) ((Cur.mk l a s).pickC (2 : Int)).l, V.i .i64 ((Cur.mk l a s).pickC (2 : Int)).a, V.i .u64
 ((Cur.mk l a s).pickC (2 : Int)).s]), some (Blk.box [V.i .i64 0, V.s (nilT UInt8), V.i .i64 0, V.b false, V.ref 3 0 0]), some (Blk.box [V.i .i64 0, V.s (nilT UInt8), V.i
 .i64 0, V.b true, V.ref 4 0 w]), some (Blk.row false none VCd.rose (nilT VCd.rose.den)), some (Blk.row false none VCd.rose us)])))))) (some (Ex.exit 3, [V.ptr 1 0, V.ptr
 2 0], [some (Blk.box [V.sl (Cd.int .u8) l, V.i .i64 a, V.i .u64 s]), some (Blk.box [V.i .i64 0, V.s (nilT UInt8), V.i .i64 0, V.b false, V.ref 3 0 0]), some (Blk.box [V.i
 .i64 0, V.s (nilT UInt8), V.i .i64 0, V.b true, V.ref 4 0 w]), some (Blk.row false none VCd.rose (nilT VCd.rose.den)), some (Blk.row false none VCd.rose us)]))) : _) := by kernel_rfl
theorem dval_tree (N : Nat) (f : Rose Lab → Cur → Rose VLab × Cur) (h : Cur → (Int) × Cur) (o1 : Rose Lab × Cur × List (Rose VLab) × Nat → List (Rose VLab) × Cur) (o2 : List (Rose Lab) × Cur × List (Rose VLab) × Nat → List (Rose VLab) × Cur) (y0 : Int) (y1 : List UInt8) (y2 : Int) (y3 : Bool) (y4 : Int) (ys : List (Rose Lab)) (l : List Int) (a s : Int) : funC Try.prog (look [(56, .own cpickG), (85, .own coneG), (137, .own cofG), (136, .own (dsmlG h)), (162, .mix (dvalN N f))]) (look [(11, dvaE N o1), (16, dvbE N o2)]) Try.f162 [.ptr 0 0, .agg [.i .i64 y0, .s y1, .i .i64 y2, .b y3, .i .i64 y4, .sl (.rose LCd) ys]] [.box [.sl (.int .u8) l, .i .i64 a, .i .u64 s]] =
  ((ifB (y0 == (1 : Int)) (ifT (decide ((Cur.mk l a s).good (80000000 : Int))) (some (V.agg [V.i .i64 (h (Cur.mk l a s)).fst, V.s (nilT UInt8), V.i .i64 0, V.b false, V.ref 1
 0 0], [some (Blk.box [V.sl (Cd.int .u8) (h (Cur.mk l a s)).snd.l, V.i .i64 (h (Cur.mk l a s)).snd.a, V.i .u64 (h (Cur.mk l a s)).snd.s]), some (Blk.row false none
 VCd.rose (nilT VCd.rose.den))]))) (ifB (y0 == (3 : Int)) (ifT (decide ((Cur.mk l a s).good (900000000 : Int))) (some (V.agg [V.i .i64 ((Cur.mk l a s).pickV
 (IntKind.i64.wrap (y4 + (1 : Int)))), V.s (nilT UInt8), V.i .i64 0, V.b false, V.ref 1 0 0], [some (Blk.box [V.sl (Cd.int .u8) ((Cur.mk l a s).pickC (IntKind.i64.wrap (y4
 + (1 : Int)))).l, V.i .i64 ((Cur.mk l a s).pickC (IntKind.i64.wrap (y4 + (1 : Int)))).a, V.i .u64 ((Cur.mk l a s).pickC (IntKind.i64.wrap (y4 + (1 : Int)))).s]), some
 (Blk.row false none VCd.rose (nilT VCd.rose.den))]))) (ifB (y0 == (2 : Int)) (ifT (decide ((Cur.mk l a s).good (900000000 : Int) ∧ (1 : Nat) ≤ (4 : Nat) ∧ (4 : Nat) ≤ (4
 : Nat))) (some (V.agg [V.i .i64 0, V.s ((nilT UInt8 :: [(120 : UInt8)] :: [(115 : UInt8), (111 : UInt8), (109 : UInt8), (101 : UInt8), (32 : UInt8), (116 : UInt8), (101 :
 UInt8), (120 : UInt8), (116 : UInt8)] :: [(0 : UInt8)] :: nilT Cd.str.den).getD ((0 : Nat) + ((Cur.mk l a s).pickV (↑(4 : Nat) : Int)).toNat) (nilT UInt8)), V.i .i64 0,
 V.b false, V.ref 1 0 0], [some (Blk.box [V.sl (Cd.int .u8) ((Cur.mk l a s).pickC (↑(4 : Nat) : Int)).l, V.i .i64 ((Cur.mk l a s).pickC (↑(4 : Nat) : Int)).a, V.i .u64
 ((Cur.mk l a s).pickC (↑(4 : Nat) : Int)).s]), some (Blk.row false none VCd.rose (nilT VCd.rose.den))]))) (ifB (y0 == (4 : Int)) (ifT (decide ((Cur.mk l a s).good
 (900000000 : Int))) (ifT (decide (cntR (Rose.node (y0, y1, y2, y3, y4, ()) ys) ≤ N + (1 : Nat) ∧ rightR (Rose.node (y0, y1, y2, y3, y4, ()) ys) = true ∧ y0 = (4 : Int) ∧
 vbR (Rose.node (y0, y1, y2, y3, y4, ()) ys) ≤ (1000000 : Nat) ∧ (0 : Int) ≤ (Cur.mk l a s).pickV (4 : Int) ∧ (Cur.mk l a s).pickV (4 : Int) ≤ (3 : Int) ∧ (0 : Nat) = (0 :
 Nat) ∧ (0 : Nat) ≤ (3 : Nat) - ((Cur.mk l a s).pickV (4 : Int)).toNat ∧ ((Cur.mk l a s).pickC (4 : Int)).room ((6 : Nat) + (8 : Nat) * (((Cur.mk l a s).pickV (4 :
 Int)).toNat * vbL ys)))) (some (V.agg [V.i .i64 0, V.s (nilT UInt8), V.i .i64 0, V.b true, V.ref 1 0 (o1 (Rose.node (y0, y1, y2, y3, y4, ()) ys, (Cur.mk l a s).pickC (4 :
 Int), nilT VCd.rose.den, ((Cur.mk l a s).pickV (4 : Int)).toNat)).fst.length], [some (Blk.box [V.sl (Cd.int .u8) (o1 (Rose.node (y0, y1, y2, y3, y4, ()) ys, (Cur.mk l a
 s).pickC (4 : Int), nilT VCd.rose.den, ((Cur.mk l a s).pickV (4 : Int)).toNat)).snd.l, V.i .i64 (o1 (Rose.node (y0, y1, y2, y3, y4, ()) ys, (Cur.mk l a s).pickC (4 :
 Int), nilT VCd.rose.den, ((Cur.mk l a s).pickV (4 : Int)).toNat)).snd.a, V.i .u64 (o1 (Rose.node (y0, y1, y2, y3, y4, ()) ys, (Cur.mk l a s).pickC (4 : Int), nilT
 VCd.rose.den, ((Cur.mk l a s).pickV (4 : Int)).toNat)).snd.s]), some (Blk.row false none VCd.rose (o1 (Rose.node (y0, y1, y2, y3, y4, ()) ys, (Cur.mk l a s).pickC (4 :
 Int), nilT VCd.rose.den, ((Cur.mk l a s).pickV (4 : Int)).toNat)).fst)])))) (ifT (decide (cntL ys ≤ N ∧ rightL (5 : Int) ys = true ∧ (3 : Nat) * vbL ys ≤ (1000000 : Nat)
 ∧ (↑ys.length : Int) = (↑ys.length : Int) ∧ (0 : Int) ≤ (0 : Int) ∧ (0 : Nat) ≤ ys.length ∧ (0 : Nat) = (0 : Nat) ∧ (0 : Nat) ≤ (0 : Nat) ∧ (Cur.mk l a s).room ((8 : Nat)
 + (24 : Nat) * vbL (List.drop (0 : Nat) ys)))) (some (V.agg [V.i .i64 0, V.s (nilT UInt8), V.i .i64 0, V.b true, V.ref 1 0 (o2 (ys, Cur.mk l a s, nilT VCd.rose.den, (0 :
 Nat))).fst.length], [some (Blk.box [V.sl (Cd.int .u8) (o2 (ys, Cur.mk l a s, nilT VCd.rose.den, (0 : Nat))).snd.l, V.i .i64 (o2 (ys, Cur.mk l a s, nilT VCd.rose.den, (0 :
 Nat))).snd.a, V.i .u64 (o2 (ys, Cur.mk l a s, nilT VCd.rose.den, (0 : Nat))).snd.s]), some (Blk.row false none VCd.rose (o2 (ys, Cur.mk l a s, nilT VCd.rose.den, (0 :
 Nat))).fst)]))))))) : _) := by kernel_rfl
theorem vcL_app : ∀ (us : List (Rose VLab)) (v : Rose VLab), vcL (us ++ [v]) = vcL us + vcR v
  | [], v => by rw [List.nil_append, vcL, vcL, vcL]; omega
  | y :: us, v => by rw [List.cons_append, vcL, vcL_app us v, vcL]; omega
theorem vb_pos (z : Rose Lab) : 1 ≤ vbR z := by cases z; rw [vbR]; omega
theorem vb_mem {z : Rose Lab} : ∀ {l : List (Rose Lab)}, z ∈ l → vbR z ≤ vbL l
  | [], h => by cases h
  | y :: l, h => by
    rw [vbL]
    rcases List.mem_cons.1 h with rfl | h
    · omega
    · have := vb_mem h; omega
theorem vb_len : ∀ (l : List (Rose Lab)), l.length ≤ vbL l
  | [] => Nat.le_refl _
  | z :: l => by have := vb_len l; have := vb_pos z; rw [vbL, List.length_cons]; omega
theorem vb_kids (z : Rose Lab) : vbR z = 3 * vbL z.kids + 1 := by cases z; rw [vbR]; rfl
theorem right_list {x : Lab} {ks : List (Rose Lab)} (h : rightR (.node x ks) = true) (h4 : x.1 = 4) : ∃ k, ks = [k] ∧ rightR k = true := by
  rw [rightR, Bool.and_eq_true] at h
  obtain ⟨h1, h2⟩ := h
  unfold partsB at h1
  rw [if_neg (by omega), if_neg (by omega), if_pos h4, Bool.and_eq_true] at h1
  match ks, h1.2, h2 with
  | [k], _, h2 => rw [rightL, Bool.and_eq_true, Bool.and_eq_true] at h2; exact ⟨k, rfl, h2.1.2⟩
theorem rightL_at {k : Int} {z : Rose Lab} : ∀ {l : List (Rose Lab)}, rightL k l = true → z ∈ l → rightR z = true
  | [], _, h => by cases h
  | y :: l, hr, h => by
    rw [rightL, Bool.and_eq_true, Bool.and_eq_true] at hr
    rcases List.mem_cons.1 h with rfl | h
    · exact hr.1.2
    · exact rightL_at hr.2 h
theorem vb_deep : ∀ (z : Rose Lab), rightR z = true → vbR z ≤ cntR z * 3 ^ deepR z := by
  have key : ∀ (n : Nat) (z : Rose Lab), cntR z ≤ n → rightR z = true → vbR z ≤ cntR z * 3 ^ deepR z := by
    intro n
    induction n with
    | zero => intro z h; have := cnt_pos z; omega
    | succ n ih =>
      intro z hz hr
      obtain ⟨x, ks⟩ := z
      have hr0 := hr
      rw [rightR, Bool.and_eq_true] at hr
      rw [cntR] at hz
      have hall : ∀ (l : List (Rose Lab)) (d : Nat), cntL l ≤ n → rightL x.1 l = true → deepL l ≤ d → vbL l ≤ cntL l * 3 ^ d := by
        intro l
        induction l with
        | nil => intro d _ _ _; rw [vbL]; omega
        | cons y l ihl =>
          intro d h1 h2 h3
          rw [cntL] at h1
          rw [rightL, Bool.and_eq_true, Bool.and_eq_true] at h2
          rw [deepL] at h3
          have a1 := ih y (by omega) h2.1.2
          have a2 := ihl d (by omega) h2.2 (by omega)
          have a3 : cntR y * 3 ^ deepR y ≤ cntR y * 3 ^ d := Nat.mul_le_mul_left _ (Nat.pow_le_pow_right (by omega) (by omega))
          rw [vbL, cntL, Nat.add_mul]; omega
      have hk := hall ks (deepL ks) (by omega) hr.2 (Nat.le_refl _)
      rw [vbR, cntR, deepR]
      cases hh : holdsK x.1 with
      | true =>
        rw [cond_true, Nat.pow_succ]
        have : 1 ≤ 3 ^ deepL ks := Nat.pos_of_ne_zero (by simp)
        have e : (cntL ks + 1) * (3 ^ deepL ks * 3) = 3 * (cntL ks * 3 ^ deepL ks) + 3 * 3 ^ deepL ks := by rw [Nat.add_mul, ← Nat.mul_assoc, Nat.mul_comm _ 3, Nat.one_mul, Nat.mul_comm _ 3]
        rw [e]; omega
      | false =>
        have hl : ks = [] := by
          have h1 := hr.1
          unfold partsB at h1
          unfold holdsK at hh
          simp only [Bool.or_eq_false_iff, beq_eq_false_iff_ne] at hh
          split at h1
          · simp only [Bool.and_eq_true, beq_iff_eq] at h1; exact List.length_eq_zero_iff.1 h1.2
          split at h1
          · simp only [Bool.and_eq_true, beq_iff_eq] at h1; exact List.length_eq_zero_iff.1 h1.2
          rw [if_neg hh.1, if_pos (.inl hh.2)] at h1
          cases h1
        subst hl
        rw [vbL, cntL, deepL]; simp
  exact fun z => key (cntR z) z (Nat.le_refl _)
theorem dva_runs (N : Nat) (f : Rose Lab → Cur → Rose VLab × Cur) (h : Cur → (Int) × Cur) (pf : ∀ (z : Rose Lab) (c : Cur) (m : Int), cntR z ≤ N → rightR z = true → vbR z ≤ 1000000 → c.good m → m ≤ 60000000 - 8 * (vbR z : Int) → (f z c).2.good (m + 8 * (vbR z : Int)) ∧ vcR (f z c).1 ≤ vbR z) :
    ∀ x : Rose Lab × Cur × List (Rose VLab) × Nat, (cntR x.1 ≤ N + 1 ∧ rightR x.1 = true ∧ x.1.lab.1 = 4 ∧ vbR x.1 ≤ 1000000 ∧ x.2.2.2 ≤ 3 ∧ x.2.2.1.length ≤ 3 - x.2.2.2 ∧ x.2.1.room (6 + 8 * (x.2.2.2 * vbL x.1.kids))) →
      ∃ y : List (Rose VLab) × Cur, (∀ o : ((Rose Lab × Cur × List (Rose VLab) × Nat → List (Rose VLab) × Cur) × (List (Rose Lab) × Cur × List (Rose VLab) × Nat → List (Rose VLab) × Cur)), Runs Try.prog (look [(56, .own cpickG), (85, .own coneG), (137, .own cofG), (136, .own (dsmlG h)), (162, .mix (dvalN N f))]) (look [(11, dvaE N o.1), (16, dvbE N o.2)]) 1 (body Try.f162 0) (dvaE N o.1) ((fun x : Rose Lab × Cur × List (Rose VLab) × Nat => ([.ptr 0 0, .ptr 1 0, .ptr 2 0, .ptr 3 0, .i .i64 (x.2.2.2 : Int)], [some (cB x.2.1), some (.box [.i .i64 x.1.lab.1, .s x.1.lab.2.1, .i .i64 x.1.lab.2.2.1, .b x.1.lab.2.2.2.1, .i .i64 x.1.lab.2.2.2.2.1, .sl (.rose LCd) x.1.kids]), some (.box [.i .i64 0, .s [], .i .i64 0, .b false, .ref 4 0 0]), some (.box [.i .i64 0, .s [], .i .i64 0, .b true, .ref 5 0 x.2.2.1.length]), some (.row false none (.rose VCd) []), some (.row false none (.rose VCd) x.2.2.1)])) x) ((fun y : List (Rose VLab) × Cur => (((.exit 1 : Ex), ([.ptr 1 0, .ptr 2 0], [some (cB y.2), some (.box [.i .i64 0, .s [], .i .i64 0, .b false, .ref 3 0 0]), some (.box [.i .i64 0, .s [], .i .i64 0, .b true, .ref 4 0 y.1.length]), some (.row false none (.rose VCd) []), some (.row false none (.rose VCd) y.1)])) : Ex × Dt)) y).1 ((fun y : List (Rose VLab) × Cur => (((.exit 1 : Ex), ([.ptr 1 0, .ptr 2 0], [some (cB y.2), some (.box [.i .i64 0, .s [], .i .i64 0, .b false, .ref 3 0 0]), some (.box [.i .i64 0, .s [], .i .i64 0, .b true, .ref 4 0 y.1.length]), some (.row false none (.rose VCd) []), some (.row false none (.rose VCd) y.1)])) : Ex × Dt)) y).2) ∧
        ((∀ m, x.2.1.good m → m ≤ 60000000 - 6 - 8 * ((x.2.2.2 * vbL x.1.kids : Nat) : Int) → y.2.good (m + 8 * ((x.2.2.2 * vbL x.1.kids : Nat) : Int))) ∧ vcL y.1 ≤ vcL x.2.2.1 + x.2.2.2 * vbL x.1.kids) := by
  refine loop_exo (ι := ((Rose Lab × Cur × List (Rose VLab) × Nat → List (Rose VLab) × Cur) × (List (Rose Lab) × Cur × List (Rose VLab) × Nat → List (Rose VLab) × Cur))) (⟨fun _ => ([], Cur.mk [] 0 0), fun _ => ([], Cur.mk [] 0 0)⟩) (Λ := fun o => (look [(11, dvaE N o.1), (16, dvbE N o.2)])) (ent := fun o => dvaE N o.1) (fun x : Rose Lab × Cur × List (Rose VLab) × Nat => ([.ptr 0 0, .ptr 1 0, .ptr 2 0, .ptr 3 0, .i .i64 (x.2.2.2 : Int)], [some (cB x.2.1), some (.box [.i .i64 x.1.lab.1, .s x.1.lab.2.1, .i .i64 x.1.lab.2.2.1, .b x.1.lab.2.2.2.1, .i .i64 x.1.lab.2.2.2.2.1, .sl (.rose LCd) x.1.kids]), some (.box [.i .i64 0, .s [], .i .i64 0, .b false, .ref 4 0 0]), some (.box [.i .i64 0, .s [], .i .i64 0, .b true, .ref 5 0 x.2.2.1.length]), some (.row false none (.rose VCd) []), some (.row false none (.rose VCd) x.2.2.1)])) (fun y : List (Rose VLab) × Cur => (((.exit 1 : Ex), ([.ptr 1 0, .ptr 2 0], [some (cB y.2), some (.box [.i .i64 0, .s [], .i .i64 0, .b false, .ref 3 0 0]), some (.box [.i .i64 0, .s [], .i .i64 0, .b true, .ref 4 0 y.1.length]), some (.row false none (.rose VCd) []), some (.row false none (.rose VCd) y.1)])) : Ex × Dt)) (fun y => by simp) _ _ (fun x => x.2.2.2) (fun o x _ => (dva_round N f h o.1 o.2 x.1.lab.1 x.1.lab.2.1 x.1.lab.2.2.1 x.1.lab.2.2.2.1 x.1.lab.2.2.2.2.1 x.1.kids (x.2.2.2 : Int) x.2.1.l x.2.1.a x.2.1.s x.2.2.1.length x.2.2.1).trans (dva_round N f h _ _ x.1.lab.1 x.1.lab.2.1 x.1.lab.2.2.1 x.1.lab.2.2.2.1 x.1.lab.2.2.2.2.1 x.1.kids (x.2.2.2 : Int) x.2.1.l x.2.1.a x.2.1.s x.2.2.1.length x.2.2.1).symm) ?_
  rintro ⟨⟨⟨y0, y1, y2, y3, y4, ⟨⟩⟩, ys⟩, c, us, n⟩ ⟨q1, q2, q3, q4, q5, q6, q7⟩
  dsimp only [Rose.lab, Rose.kids] at q1 q2 q3 q4 q5 q6 q7 ⊢
  have hM : maxI = 9223372036854775807 := rfl
  obtain ⟨k, rfl, hk⟩ := right_list q2 q3
  have e1 : vbL [k] = vbR k := by rw [vbL, vbL]; omega
  rw [e1] at q7
  simp only [e1]
  unfold Cur.room at q7
  rw [cntR, cntL, cntL] at q1
  rw [vbR, e1] at q4
  cases n with
  | succ n =>
    right
    simp only [Nat.succ_mul] at q7 ⊢
    refine Ex1.of (dva_round N f h _ _ y0 y1 y2 y3 y4 [k] ((n + 1 : Nat) : Int) c.l c.a c.s us.length us) ?_
    have w1 : IntKind.i64.wrap (((n + 1 : Nat) : Int) - 1) = (n : Int) := by rw [wrap_id (by omega) (by omega)]; omega
    rw [ifB_true (decide_eq_true (by omega))]
    have hnn : (0 : Int) ≤ (n : Int) * (vbR k : Int) := Int.mul_nonneg (by omega) (by omega)
    have g0 : c.room (8 * vbR k) := Cur.good_mono q7 (by push_cast; omega)
    have pf1 := pf k c _ (by omega) hk (by omega) q7 (by push_cast; omega)
    refine Ex1.T (by simp) (Ex1.S ⟨k, rfl⟩ fun z hz => ?_)
    obtain rfl : k = z := by simpa using hz
    simp only [rose_eta', cB_fold, show Cur.mk c.l c.a c.s = c from rfl, w1, nilT_eq, List.drop_zero, List.take_length, vrose_eta']
    refine Ex1.T (decide_eq_true ⟨by omega, hk, by omega, g0⟩) (Ex1.T (by simp; omega) ?_)
    refine Ex1.P3 (.node (y0, y1, y2, y3, y4, ()) [k], (f k c).2, us ++ [(f k c).1], n) (by simp [Rose.lab, Rose.kids]) rfl rfl ⟨⟨by rw [cntR, cntL, cntL]; omega, q2, q3, by rw [vbR, e1]; omega, by dsimp only; omega, by simp; omega, ?_⟩, by dsimp only; omega, fun y hy => ⟨fun m hm hl => ?_, ?_⟩⟩
    · dsimp only [Rose.kids]
      rw [e1]
      exact Cur.good_mono pf1.1 (by push_cast; omega)
    · dsimp only [Rose.kids] at hy ⊢
      simp only [e1] at hy
      have := pf k c m (by omega) hk (by omega) hm (by push_cast at hl; omega)
      exact Cur.good_mono (hy.1 _ this.1 (by push_cast at hl ⊢; omega)) (by push_cast; omega)
    · dsimp only [Rose.kids] at hy ⊢
      simp only [e1] at hy
      have := hy.2
      rw [vcL_app] at this
      have := pf1.2
      omega
  | zero =>
    left
    refine Ex1.of (dva_round N f h _ _ y0 y1 y2 y3 y4 [k] ((0 : Nat) : Int) c.l c.a c.s us.length us) ?_
    rw [ifB_false (decide_eq_false (by omega))]
    refine Ex1.L (us, c) rfl ⟨fun m hm hl => Cur.good_mono hm (by rw [Nat.zero_mul]; omega), by dsimp only; omega⟩
theorem dvb_runs (N : Nat) (f : Rose Lab → Cur → Rose VLab × Cur) (h : Cur → (Int) × Cur) (pf : ∀ (z : Rose Lab) (c : Cur) (m : Int), cntR z ≤ N → rightR z = true → vbR z ≤ 1000000 → c.good m → m ≤ 60000000 - 8 * (vbR z : Int) → (f z c).2.good (m + 8 * (vbR z : Int)) ∧ vcR (f z c).1 ≤ vbR z) :
    ∀ x : List (Rose Lab) × Cur × List (Rose VLab) × Nat, (cntL x.1 ≤ N ∧ rightL 5 x.1 = true ∧ 3 * vbL x.1 ≤ 1000000 ∧ x.2.2.2 ≤ x.1.length ∧ x.2.2.1.length ≤ x.2.2.2 ∧ x.2.1.room (8 + 24 * vbL (x.1.drop x.2.2.2))) →
      ∃ y : List (Rose VLab) × Cur, (∀ o : ((Rose Lab × Cur × List (Rose VLab) × Nat → List (Rose VLab) × Cur) × (List (Rose Lab) × Cur × List (Rose VLab) × Nat → List (Rose VLab) × Cur)), Runs Try.prog (look [(56, .own cpickG), (85, .own coneG), (137, .own cofG), (136, .own (dsmlG h)), (162, .mix (dvalN N f))]) (look [(11, dvaE N o.1), (16, dvbE N o.2)]) 1 (body Try.f162 1) (dvbE N o.2) ((fun x : List (Rose Lab) × Cur × List (Rose VLab) × Nat => ([.ptr 0 0, .ptr 1 0, .ptr 2 0, .sl (.rose LCd) x.1, .i .i64 (x.1.length : Int), .i .i64 (x.2.2.2 : Int)], [some (cB x.2.1), some (.box [.i .i64 0, .s [], .i .i64 0, .b false, .ref 3 0 0]), some (.box [.i .i64 0, .s [], .i .i64 0, .b true, .ref 4 0 x.2.2.1.length]), some (.row false none (.rose VCd) []), some (.row false none (.rose VCd) x.2.2.1)])) x) ((fun y : List (Rose VLab) × Cur => (((.exit 3 : Ex), ([.ptr 1 0, .ptr 2 0], [some (cB y.2), some (.box [.i .i64 0, .s [], .i .i64 0, .b false, .ref 3 0 0]), some (.box [.i .i64 0, .s [], .i .i64 0, .b true, .ref 4 0 y.1.length]), some (.row false none (.rose VCd) []), some (.row false none (.rose VCd) y.1)])) : Ex × Dt)) y).1 ((fun y : List (Rose VLab) × Cur => (((.exit 3 : Ex), ([.ptr 1 0, .ptr 2 0], [some (cB y.2), some (.box [.i .i64 0, .s [], .i .i64 0, .b false, .ref 3 0 0]), some (.box [.i .i64 0, .s [], .i .i64 0, .b true, .ref 4 0 y.1.length]), some (.row false none (.rose VCd) []), some (.row false none (.rose VCd) y.1)])) : Ex × Dt)) y).2) ∧
        ((∀ m, x.2.1.good m → m ≤ 60000000 - 8 - 24 * (vbL (x.1.drop x.2.2.2) : Int) → y.2.good (m + 24 * (vbL (x.1.drop x.2.2.2) : Int))) ∧ vcL y.1 ≤ vcL x.2.2.1 + vbL (x.1.drop x.2.2.2)) := by
  refine loop_exo (ι := ((Rose Lab × Cur × List (Rose VLab) × Nat → List (Rose VLab) × Cur) × (List (Rose Lab) × Cur × List (Rose VLab) × Nat → List (Rose VLab) × Cur))) (⟨fun _ => ([], Cur.mk [] 0 0), fun _ => ([], Cur.mk [] 0 0)⟩) (Λ := fun o => (look [(11, dvaE N o.1), (16, dvbE N o.2)])) (ent := fun o => dvbE N o.2) (fun x : List (Rose Lab) × Cur × List (Rose VLab) × Nat => ([.ptr 0 0, .ptr 1 0, .ptr 2 0, .sl (.rose LCd) x.1, .i .i64 (x.1.length : Int), .i .i64 (x.2.2.2 : Int)], [some (cB x.2.1), some (.box [.i .i64 0, .s [], .i .i64 0, .b false, .ref 3 0 0]), some (.box [.i .i64 0, .s [], .i .i64 0, .b true, .ref 4 0 x.2.2.1.length]), some (.row false none (.rose VCd) []), some (.row false none (.rose VCd) x.2.2.1)])) (fun y : List (Rose VLab) × Cur => (((.exit 3 : Ex), ([.ptr 1 0, .ptr 2 0], [some (cB y.2), some (.box [.i .i64 0, .s [], .i .i64 0, .b false, .ref 3 0 0]), some (.box [.i .i64 0, .s [], .i .i64 0, .b true, .ref 4 0 y.1.length]), some (.row false none (.rose VCd) []), some (.row false none (.rose VCd) y.1)])) : Ex × Dt)) (fun y => by simp) _ _ (fun x => x.1.length - x.2.2.2) (fun o x _ => (dvb_round N f h o.1 o.2 x.1 (x.1.length : Int) (x.2.2.2 : Int) x.2.1.l x.2.1.a x.2.1.s x.2.2.1.length x.2.2.1).trans (dvb_round N f h _ _ x.1 (x.1.length : Int) (x.2.2.2 : Int) x.2.1.l x.2.1.a x.2.1.s x.2.2.1.length x.2.2.1).symm) ?_
  rintro ⟨ks, c, us, i⟩ ⟨q1, q2, q3, q4, q5, q6⟩
  dsimp only at q1 q2 q3 q4 q5 q6 ⊢
  have hM : maxI = 9223372036854775807 := rfl
  unfold Cur.room at q6
  have hcl := cnt_len ks
  have hcv := vb_len ks
  by_cases hi : i < ks.length
  · right
    have e1 : ks.drop i = ks[i] :: ks.drop (i + 1) := List.drop_eq_getElem_cons hi
    have e2 : vbL (ks.drop i) = vbR ks[i] + vbL (ks.drop (i + 1)) := by rw [e1, vbL]
    have hmem := List.getElem_mem hi
    have b1 := vb_mem hmem
    have b2 := vb_pos ks[i]
    have b3 := cnt_mem hmem
    have b4 := rightL_at q2 hmem
    rw [e2] at q6 ⊢
    refine Ex1.of (dvb_round N f h _ _ ks (ks.length : Int) (i : Int) c.l c.a c.s us.length us) ?_
    rw [ifB_true (decide_eq_true (by omega)), Int.toNat_natCast, wrap_succ (n := i) (by omega)]
    refine Ex1.T (by simp; omega) (Ex1.S ⟨ks[i], List.getElem?_eq_getElem hi⟩ fun z hz => ?_)
    obtain rfl : ks[i] = z := by rw [List.getElem?_eq_getElem hi] at hz; exact Option.some.inj hz
    generalize ks[i] = z at *
    have g0 : c.room (8 * vbR z) := Cur.good_mono q6 (by push_cast; omega)
    have g1 : (c.pickC 2).room (8 * vbR z) := Cur.good_mono (Cur.pickC_good q6) (by push_cast; omega)
    have pf0 := fun (c : Cur) (m : Int) (hc : c.good m) (hm : m ≤ 60000000 - 8 * (vbR z : Int)) => pf z c m (by omega) b4 (by omega) hc hm
    simp only [rose_eta', cB_fold, show Cur.mk c.l c.a c.s = c from rfl, nilT_eq, List.drop_zero, List.take_length, vrose_eta']
    have done : ∀ (c' : Cur) (w : List (Rose VLab)) (K : Int), (∀ m, c.good m → m ≤ 60000000 - 8 - 24 * ((vbR z + vbL (ks.drop (i + 1)) : Nat) : Int) → c'.good (m + K)) → K ≤ 24 * (vbR z : Int) → w.length ≤ i + 1 → vcL w ≤ vcL us + vbR z →
        ((cntL ks ≤ N ∧ rightL 5 ks = true ∧ 3 * vbL ks ≤ 1000000 ∧ i + 1 ≤ ks.length ∧ w.length ≤ i + 1 ∧ c'.room (8 + 24 * vbL (ks.drop (i + 1)))) ∧ ks.length - (i + 1) < ks.length - i ∧ ∀ y : List (Rose VLab) × Cur, ((∀ m, c'.good m → m ≤ 60000000 - 8 - 24 * (vbL (ks.drop (i + 1)) : Int) → y.2.good (m + 24 * (vbL (ks.drop (i + 1)) : Int))) ∧ vcL y.1 ≤ vcL w + vbL (ks.drop (i + 1))) →
          ((∀ m, c.good m → m ≤ 60000000 - 8 - 24 * ((vbR z + vbL (ks.drop (i + 1)) : Nat) : Int) → y.2.good (m + 24 * ((vbR z + vbL (ks.drop (i + 1)) : Nat) : Int))) ∧ vcL y.1 ≤ vcL us + (vbR z + vbL (ks.drop (i + 1))))) := fun c' w K h1 h2 h3 h4 => by
      refine ⟨⟨q1, q2, q3, by omega, h3, Cur.good_mono (h1 _ q6 (by push_cast; omega)) (by push_cast; omega)⟩, by omega, fun y hy => ⟨fun m hm hl => ?_, by have := hy.2; omega⟩⟩
      exact Cur.good_mono (hy.1 _ (h1 m hm hl) (by push_cast at hl; omega)) (by push_cast; omega)
    refine Ex1.B (fun _ => ?_) (fun _ => Ex1.T (decide_eq_true (Cur.good_mono q6 (by push_cast; omega))) (Ex1.B (fun _ => ?_) (fun _ => ?_)))
    · have pv := pf0 c _ q6 (by push_cast; omega)
      refine Ex1.T (decide_eq_true ⟨by omega, b4, by omega, g0⟩) (Ex1.T (by simp; omega) ?_)
      refine Ex1.P3 (ks, (f z c).2, us ++ [.node ((f z c).1.lab.1, (f z c).1.lab.2.1, z.lab.2.2.1, (f z c).1.lab.2.2.2.1, ()) (f z c).1.kids], i + 1) (by simp) rfl rfl ?_
      exact done _ _ (8 * (vbR z : Int)) (fun m hm hl => (pf0 c m hm (by push_cast at hl; omega)).1) (by omega) (by simp; omega) (by rw [vcL_app]; have := pv.2; rw [vc_kids] at this; rw [vcR]; omega)
    · have pv := pf0 (c.pickC 2) _ (Cur.pickC_good q6) (by push_cast; omega)
      refine Ex1.T (decide_eq_true ⟨by omega, b4, by omega, g1⟩) (Ex1.T (by simp; omega) ?_)
      refine Ex1.P3 (ks, (f z (c.pickC 2)).2, us ++ [.node ((f z (c.pickC 2)).1.lab.1, (f z (c.pickC 2)).1.lab.2.1, z.lab.2.2.1, (f z (c.pickC 2)).1.lab.2.2.2.1, ()) (f z (c.pickC 2)).1.kids], i + 1) (by simp) rfl rfl ?_
      exact done _ _ (2 + 8 * (vbR z : Int)) (fun m hm hl => Cur.good_mono (pf0 (c.pickC 2) (m + 2) (Cur.pickC_good hm) (by push_cast at hl; omega)).1 (by omega)) (by omega) (by simp; omega) (by rw [vcL_app]; have := pv.2; rw [vc_kids] at this; rw [vcR]; omega)
    · refine Ex1.P3 (ks, c.pickC 2, us, i + 1) rfl rfl rfl ?_
      exact done (c.pickC 2) us 2 (fun m hm hl => Cur.pickC_good hm) (by omega) (by omega) (by omega)
  · left
    refine Ex1.of (dvb_round N f h _ _ ks (ks.length : Int) (i : Int) c.l c.a c.s us.length us) ?_
    rw [ifB_false (decide_eq_false (by omega))]
    have e1 : ks.drop i = [] := List.drop_eq_nil_of_le (by omega)
    refine Ex1.L (us, c) rfl ⟨fun m hm hl => Cur.good_mono hm (by rw [e1, vbL]; omega), by dsimp only; omega⟩
def dvalG (f : Rose Lab → Cur → Rose VLab × Cur) : List V → List Blk → Br (V × List (Option Blk))
  | [.ptr 0 0, .agg [.i .i64 y0, .s y1, .i .i64 y2, .b y3, .i .i64 y4, .sl (.rose (.pair (.int .i64) (.pair .str (.pair (.int .i64) (.pair .bool (.pair (.int .i64) .unit)))))) ys]], [.box [.sl (.int .u8) l, .i .i64 a, .i .u64 s]] => .need (decide (rightR (Rose.node (y0, y1, y2, y3, y4, ()) ys) = true ∧ vbR (Rose.node (y0, y1, y2, y3, y4, ()) ys) ≤ 1000000 ∧ (Cur.mk l a s).room (8 * vbR (Rose.node (y0, y1, y2, y3, y4, ()) ys)))) (.leaf (.agg [.i .i64 (f (Rose.node (y0, y1, y2, y3, y4, ()) ys) (Cur.mk l a s)).1.lab.1, .s (f (Rose.node (y0, y1, y2, y3, y4, ()) ys) (Cur.mk l a s)).1.lab.2.1, .i .i64 (f (Rose.node (y0, y1, y2, y3, y4, ()) ys) (Cur.mk l a s)).1.lab.2.2.1, .b (f (Rose.node (y0, y1, y2, y3, y4, ()) ys) (Cur.mk l a s)).1.lab.2.2.2.1, .ref 1 0 (f (Rose.node (y0, y1, y2, y3, y4, ()) ys) (Cur.mk l a s)).1.kids.length], [some (cB (f (Rose.node (y0, y1, y2, y3, y4, ()) ys) (Cur.mk l a s)).2), some (.row false none (.rose (.pair (.int .i64) (.pair .str (.pair (.int .i64) (.pair .bool .unit))))) (f (Rose.node (y0, y1, y2, y3, y4, ()) ys) (Cur.mk l a s)).1.kids)]))
  | _, _ => .no
theorem dval_ex (N : Nat) (f : Rose Lab → Cur → Rose VLab × Cur) (pf : ∀ (z : Rose Lab) (c : Cur) (m : Int), cntR z ≤ N → rightR z = true → vbR z ≤ 1000000 → c.good m → m ≤ 60000000 - 8 * (vbR z : Int) → (f z c).2.good (m + 8 * (vbR z : Int)) ∧ vcR (f z c).1 ≤ vbR z) (o : ((Rose Lab × Cur × List (Rose VLab) × Nat → List (Rose VLab) × Cur) × (List (Rose Lab) × Cur × List (Rose VLab) × Nat → List (Rose VLab) × Cur)))
    (hA : ∀ x : Rose Lab × Cur × List (Rose VLab) × Nat, (cntR x.1 ≤ N + 1 ∧ rightR x.1 = true ∧ x.1.lab.1 = 4 ∧ vbR x.1 ≤ 1000000 ∧ x.2.2.2 ≤ 3 ∧ x.2.2.1.length ≤ 3 - x.2.2.2 ∧ x.2.1.room (6 + 8 * (x.2.2.2 * vbL x.1.kids))) → (∀ m, x.2.1.good m → m ≤ 60000000 - 6 - 8 * ((x.2.2.2 * vbL x.1.kids : Nat) : Int) → (o.1 x).2.good (m + 8 * ((x.2.2.2 * vbL x.1.kids : Nat) : Int))) ∧ vcL (o.1 x).1 ≤ vcL x.2.2.1 + x.2.2.2 * vbL x.1.kids)
    (hB : ∀ x : List (Rose Lab) × Cur × List (Rose VLab) × Nat, (cntL x.1 ≤ N ∧ rightL 5 x.1 = true ∧ 3 * vbL x.1 ≤ 1000000 ∧ x.2.2.2 ≤ x.1.length ∧ x.2.2.1.length ≤ x.2.2.2 ∧ x.2.1.room (8 + 24 * vbL (x.1.drop x.2.2.2))) → (∀ m, x.2.1.good m → m ≤ 60000000 - 8 - 24 * (vbL (x.1.drop x.2.2.2) : Int) → (o.2 x).2.good (m + 24 * (vbL (x.1.drop x.2.2.2) : Int))) ∧ vcL (o.2 x).1 ≤ vcL x.2.2.1 + vbL (x.1.drop x.2.2.2))
    (y0 : Int) (y1 : List UInt8) (y2 : Int) (y3 : Bool) (y4 : Int) (ys : List (Rose Lab)) (l : List Int) (a s : Int) (q1 : cntR (Rose.node (y0, y1, y2, y3, y4, ()) ys) ≤ N + 1) (q2 : rightR (Rose.node (y0, y1, y2, y3, y4, ()) ys) = true) (q3 : vbR (Rose.node (y0, y1, y2, y3, y4, ()) ys) ≤ 1000000) (q4 : (Cur.mk l a s).room (8 * vbR (Rose.node (y0, y1, y2, y3, y4, ()) ys))) :
    Ex1 (funC Try.prog (look [(56, .own cpickG), (85, .own coneG), (137, .own cofG), (136, .own (dsmlG dsml_f)), (162, .mix (dvalN N f))]) (look [(11, dvaE N o.1), (16, dvbE N o.2)]) Try.f162 [.ptr 0 0, .agg [.i .i64 y0, .s y1, .i .i64 y2, .b y3, .i .i64 y4, .sl (.rose LCd) ys]] [.box [.sl (.int .u8) l, .i .i64 a, .i .u64 s]]) (fun y : Rose VLab × Cur => ((.agg [.i .i64 y.1.lab.1, .s y.1.lab.2.1, .i .i64 y.1.lab.2.2.1, .b y.1.lab.2.2.2.1, .ref 1 0 y.1.kids.length], [some (cB y.2), some (.row false none (.rose VCd) y.1.kids)]) : V × List (Option Blk))) (fun y => (∀ m, (Cur.mk l a s).good m → m ≤ 60000000 - 8 * (vbR (Rose.node (y0, y1, y2, y3, y4, ()) ys) : Int) → y.2.good (m + 8 * (vbR (Rose.node (y0, y1, y2, y3, y4, ()) ys) : Int))) ∧ vcR y.1 ≤ vbR (Rose.node (y0, y1, y2, y3, y4, ()) ys)) := by
  refine Ex1.of (dval_tree N f dsml_f o.1 o.2 y0 y1 y2 y3 y4 ys l a s) ?_
  have hM : maxI = 9223372036854775807 := rfl
  unfold Cur.room at q4
  have hvb := vb_pos (Rose.node (y0, y1, y2, y3, y4, ()) ys)
  have ev : vbR (Rose.node (y0, y1, y2, y3, y4, ()) ys) = 3 * vbL ys + 1 := by rw [vbR]
  have hq2 := q2
  have hcq := q1
  rw [rightR, Bool.and_eq_true] at q2
  rw [cntR] at q1
  have hcl := cnt_len ys
  have hg9 : (Cur.mk l a s).good 900000000 := Cur.good_mono q4 (by omega)
  simp only [cB_fold, cB_0, nilT_eq, List.drop_zero, List.take_length, vrose_eta', Nat.zero_add]
  refine Ex1.B (fun h => ?_) (fun h1 => Ex1.B (fun h => ?_) (fun h3 => Ex1.B (fun h => ?_) (fun h2 => Ex1.B (fun h4 => ?_) (fun h4 => ?_))))
  · refine Ex1.T (decide_eq_true (Cur.good_mono q4 (by omega))) (Ex1.c (.node (_, _, _, _, ()) []) rfl rfl ⟨fun m hm hl => ?_, ?_⟩)
    · exact Cur.good_mono ((dsml_pr (Cur.mk l a s) (Cur.good_mono q4 (by omega))).1 m hm (by omega)) (by omega)
    · rw [vcR, vcL]; omega
  · refine Ex1.T (decide_eq_true hg9) (Ex1.c (.node (_, _, _, _, ()) []) rfl rfl ⟨fun m hm hl => ?_, ?_⟩)
    · exact Cur.good_mono (Cur.pickC_good hm) (by omega)
    · rw [vcR, vcL]; omega
  · refine Ex1.T (decide_eq_true ⟨hg9, by omega, by omega⟩) (Ex1.c (.node (_, _, _, _, ()) []) rfl rfl ⟨fun m hm hl => ?_, ?_⟩)
    · exact Cur.good_mono (Cur.pickC_good hm) (by omega)
    · rw [vcR, vcL]; omega
  · have hy : y0 = 4 := by simpa using h4
    have r4 := Cur.pickV_range (c := (Cur.mk l a s)) (k := 4) hg9 (by omega)
    obtain ⟨n, hn⟩ := Int.eq_ofNat_of_zero_le r4.1
    rw [hn] at r4 ⊢
    have hp : n * vbL ys ≤ 3 * vbL ys := Nat.mul_le_mul_right _ (by omega)
    have g2 : ((Cur.mk l a s).pickC 4).room (6 + 8 * (n * vbL ys)) := Cur.good_mono (Cur.pickC_good q4) (by omega)
    have hA1 := hA ((Rose.node (y0, y1, y2, y3, y4, ()) ys), (Cur.mk l a s).pickC 4, [], n) ⟨hcq, hq2, hy, q3, by dsimp only; omega, by simp, g2⟩
    refine Ex1.T (decide_eq_true hg9) (Ex1.T (decide_eq_true ⟨hcq, hq2, hy, q3, by omega, by omega, trivial, by omega, g2⟩) (Ex1.c (.node (0, [], 0, true, ()) (o.1 ((Rose.node (y0, y1, y2, y3, y4, ()) ys), (Cur.mk l a s).pickC 4, [], n)).1) rfl rfl ⟨fun m hm hl => ?_, ?_⟩))
    · exact Cur.good_mono (hA1.1 _ (Cur.pickC_good hm) (by dsimp only [Rose.kids]; omega)) (by dsimp only [Rose.kids]; omega)
    · have := hA1.2
      dsimp only [Rose.kids] at this
      rw [vcL] at this
      rw [vcR]; omega
  · have h5 : rightL 5 ys = true := by
      have hp := q2.1
      unfold partsB at hp
      simp only [beq_eq_false_iff_ne] at h1 h2 h3 h4
      rw [if_neg (by omega), if_neg h3, if_neg h4] at hp
      split at hp
      · cases hp
      · rename_i hh
        have : y0 = 5 := by
          by_cases e : y0 = 5
          · exact e
          · exact absurd (Or.inl e) hh
        have := q2.2
        simpa only [‹y0 = 5›] using this
    have e0 : ys.drop 0 = ys := rfl
    have g3 : (Cur.mk l a s).room (8 + 24 * vbL ys) := Cur.good_mono q4 (by push_cast; omega)
    have hB1 := hB (ys, (Cur.mk l a s), [], 0) ⟨by dsimp only; omega, h5, by dsimp only; omega, by dsimp only; omega, by simp, by dsimp only; rw [e0]; exact g3⟩
    refine Ex1.T (decide_eq_true ⟨by omega, h5, by omega, trivial, by omega, by omega, trivial, by omega, g3⟩) (Ex1.c (.node (0, [], 0, true, ()) (o.2 (ys, (Cur.mk l a s), [], 0)).1) rfl rfl ⟨fun m hm hl => ?_, ?_⟩)
    · exact Cur.good_mono (hB1.1 m hm (by dsimp only; rw [e0]; omega)) (by dsimp only; rw [e0]; omega)
    · have := hB1.2
      dsimp only at this
      rw [e0, vcL] at this
      rw [vcR]; omega
theorem dval_step (N : Nat) (f : Rose Lab → Cur → Rose VLab × Cur) (hf : Contract Try.prog 162 (Ent.mix (dvalN N f)).F) (pf : ∀ (z : Rose Lab) (c : Cur) (m : Int), cntR z ≤ N → rightR z = true → vbR z ≤ 1000000 → c.good m → m ≤ 60000000 - 8 * (vbR z : Int) → (f z c).2.good (m + 8 * (vbR z : Int)) ∧ vcR (f z c).1 ≤ vbR z) : ∃ g : Rose Lab → Cur → Rose VLab × Cur, Contract Try.prog 162 (Ent.mix (dvalN (N + 1) g)).F ∧ ∀ (z : Rose Lab) (c : Cur) (m : Int), cntR z ≤ N + 1 → rightR z = true → vbR z ≤ 1000000 → c.good m → m ≤ 60000000 - 8 * (vbR z : Int) → (g z c).2.good (m + 8 * (vbR z : Int)) ∧ vcR (g z c).1 ≤ vbR z := by
  obtain ⟨o1, ho1⟩ := pick_fn (Y := List (Rose VLab) × Cur) ([], Cur.mk [] 0 0) (dva_runs N f dsml_f pf)
  obtain ⟨o2, ho2⟩ := pick_fn (Y := List (Rose VLab) × Cur) ([], Cur.mk [] 0 0) (dvb_runs N f dsml_f pf)
  have ex := fun (z : Rose Lab) (c : Cur) (h : cntR z ≤ N + 1 ∧ rightR z = true ∧ vbR z ≤ 1000000 ∧ c.room (8 * vbR z)) => dval_ex N f pf (o1, o2) (fun x hx => (ho1 x hx).2) (fun x hx => (ho2 x hx).2) z.lab.1 z.lab.2.1 z.lab.2.2.1 z.lab.2.2.2.1 z.lab.2.2.2.2.1 z.kids c.l c.a c.s (by rw [rose_eta']; exact h.1) (by rw [rose_eta']; exact h.2.1) (by rw [rose_eta']; exact h.2.2.1) (by rw [rose_eta']; exact h.2.2.2)
  classical
  refine ⟨fun z c => if h : cntR z ≤ N + 1 ∧ rightR z = true ∧ vbR z ≤ 1000000 ∧ c.room (8 * vbR z) then (ex z c h).choose else (.node (0, [], 0, false, ()) [], c), ?_, fun z c m h1 h2 h3 hc hm => ?_⟩
  rotate_left
  · have h : cntR z ≤ N + 1 ∧ rightR z = true ∧ vbR z ≤ 1000000 ∧ c.room (8 * vbR z) := ⟨h1, h2, h3, Cur.good_mono hc (by push_cast; omega)⟩
    simp only [dif_pos h]
    have := (ex z c h).choose_spec.2
    generalize (ex z c h).choose = y at this
    rw [rose_eta'] at this
    exact ⟨this.1 m hc hm, this.2⟩
  refine fun_contractC' (KnowsL.cons (enters_fn Try.func56 (by kernel_rfl) (by kernel_rfl)) cpick (KnowsL.cons (enters_fn Try.func85 (by kernel_rfl) (by kernel_rfl)) cone (KnowsL.cons (enters_fn Try.func137 (by kernel_rfl) (by kernel_rfl)) cof (KnowsL.cons (enters_fn Try.func136 (by kernel_rfl) (by kernel_rfl)) dsml_con (KnowsL.cons (enters_fn Try.func162 (by kernel_rfl) (by kernel_rfl)) hf KnowsL.nil))))).knows (Λ := (look [(11, dvaE N o1), (16, dvbE N o2)])) Try.func162 (c := Try.f162.body.getD .skip) (by kernel_rfl) fun vs bs r hq hv hb => ?_
  unfold Ent.F dvalN at hq
  dsimp only at hq
  split at hq
  · rename_i y0 y1 y2 y3 y4 ys l a s
    obtain ⟨hc, hx⟩ := need_some hq
    have hc := of_decide_eq_true hc
    refine ⟨?_, ((ex (Rose.node (y0, y1, y2, y3, y4, ()) ys) (Cur.mk l a s) hc).choose_spec.1).trans ?_⟩
    · refine LoopsI.loops (cs := [body Try.f162 0, body Try.f162 1]) ?_ (by kernel_rfl)
      refine .cons (ent := dvaE N o1) (by rfl) (fun d ex d' h => ?_) (.cons (ent := dvbE N o2) (by rfl) (fun d ex d' h => ?_) .nil)
      · unfold dvaE at h
        dsimp only at h
        split at h
        · rename_i n l a s y0 y1 y2 y3 y4 ys w us
          obtain ⟨hc, hx⟩ := need_some h
          obtain ⟨k1, k2, k3, k4, k5, k6, rfl, k7, k8⟩ := of_decide_eq_true hc
          obtain ⟨n, rfl⟩ := Int.eq_ofNat_of_zero_le k5
          simp only [Int.toNat_natCast] at k7 k8 hx
          have h8 := leaf_some hx
          obtain ⟨rfl, rfl⟩ := Prod.mk.inj h8
          exact (ho1 ((Rose.node (y0, y1, y2, y3, y4, ()) ys), (Cur.mk l a s), us, n) ⟨k1, k2, k3, k4, by dsimp only; omega, k7, k8⟩).1 (o1, o2)
        · cases h
      · unfold dvbE at h
        dsimp only at h
        split at h
        · rename_i ks k i l a s w us
          obtain ⟨hc, hx⟩ := need_some h
          obtain ⟨k1, k2, k3, rfl, k5, k6, rfl, k7, k8⟩ := of_decide_eq_true hc
          obtain ⟨i, rfl⟩ := Int.eq_ofNat_of_zero_le k5
          simp only [Int.toNat_natCast] at k6 k7 k8 hx
          have h8 := leaf_some hx
          obtain ⟨rfl, rfl⟩ := Prod.mk.inj h8
          exact (ho2 (ks, (Cur.mk l a s), us, i) ⟨k1, k2, k3, k6, k7, k8⟩).1 (o1, o2)
        · cases h
    · rw [dif_pos hc] at hx
      exact hx
  · cases hq
theorem dval_all : ∀ N, ∃ g : Rose Lab → Cur → Rose VLab × Cur, Contract Try.prog 162 (Ent.mix (dvalN N g)).F ∧ ∀ (z : Rose Lab) (c : Cur) (m : Int), cntR z ≤ N → rightR z = true → vbR z ≤ 1000000 → c.good m → m ≤ 60000000 - 8 * (vbR z : Int) → (g z c).2.good (m + 8 * (vbR z : Int)) ∧ vcR (g z c).1 ≤ vbR z
  | 0 => ⟨fun _ c => (.node (0, [], 0, false, ()) [], c), contract_no fun vs bs => by
    unfold Ent.F dvalN
    dsimp only
    split
    · rename_i y0 y1 y2 y3 y4 ys l a s
      have : decide (cntR (Rose.node (y0, y1, y2, y3, y4, ()) ys) ≤ 0 ∧ rightR (Rose.node (y0, y1, y2, y3, y4, ()) ys) = true ∧ vbR (Rose.node (y0, y1, y2, y3, y4, ()) ys) ≤ 1000000 ∧ (Cur.mk l a s).room (8 * vbR (Rose.node (y0, y1, y2, y3, y4, ()) ys))) = false := decide_eq_false (by have := cnt_pos (Rose.node (y0, y1, y2, y3, y4, ()) ys); omega)
      rw [this]; rfl
    · rfl, fun z c m h => by have := cnt_pos z; omega⟩
  | N + 1 => by
    obtain ⟨f, hf, pf⟩ := dval_all N
    exact dval_step N f hf pf
theorem dval_exf : ∃ g : Rose Lab → Cur → Rose VLab × Cur, Contract Try.prog 162 (Ent.mix (dvalG g)).F ∧ ∀ (z : Rose Lab) (c : Cur) (m : Int), rightR z = true → vbR z ≤ 1000000 → c.good m → m ≤ 60000000 - 8 * (vbR z : Int) → (g z c).2.good (m + 8 * (vbR z : Int)) ∧ vcR (g z c).1 ≤ vbR z := by
  classical
  refine ⟨fun z c => (dval_all (cntR z)).choose z c, ?_, fun z c m h1 h2 hc hm => (dval_all (cntR z)).choose_spec.2 z c m (Nat.le_refl _) h1 h2 hc hm⟩
  refine contract_rec (F := fun n => (Ent.mix (dvalN n (dval_all n).choose)).F) (fun n _ => (dval_all n).choose_spec.1) fun vs bs r hq => ?_
  unfold Ent.F dvalG at hq
  dsimp only at hq
  split at hq
  · rename_i y0 y1 y2 y3 y4 ys l a s
    obtain ⟨hc, hx⟩ := need_some hq
    have hc := of_decide_eq_true hc
    refine ⟨cntR (Rose.node (y0, y1, y2, y3, y4, ()) ys), ?_⟩
    show (Br.need (decide (cntR (Rose.node (y0, y1, y2, y3, y4, ()) ys) ≤ cntR (Rose.node (y0, y1, y2, y3, y4, ()) ys) ∧ rightR (Rose.node (y0, y1, y2, y3, y4, ()) ys) = true ∧ vbR (Rose.node (y0, y1, y2, y3, y4, ()) ys) ≤ 1000000 ∧ (Cur.mk l a s).room (8 * vbR (Rose.node (y0, y1, y2, y3, y4, ()) ys)))) (.leaf (.agg [.i .i64 ((dval_all (cntR (Rose.node (y0, y1, y2, y3, y4, ()) ys))).choose (Rose.node (y0, y1, y2, y3, y4, ()) ys) (Cur.mk l a s)).1.lab.1, .s ((dval_all (cntR (Rose.node (y0, y1, y2, y3, y4, ()) ys))).choose (Rose.node (y0, y1, y2, y3, y4, ()) ys) (Cur.mk l a s)).1.lab.2.1, .i .i64 ((dval_all (cntR (Rose.node (y0, y1, y2, y3, y4, ()) ys))).choose (Rose.node (y0, y1, y2, y3, y4, ()) ys) (Cur.mk l a s)).1.lab.2.2.1, .b ((dval_all (cntR (Rose.node (y0, y1, y2, y3, y4, ()) ys))).choose (Rose.node (y0, y1, y2, y3, y4, ()) ys) (Cur.mk l a s)).1.lab.2.2.2.1, .ref 1 0 ((dval_all (cntR (Rose.node (y0, y1, y2, y3, y4, ()) ys))).choose (Rose.node (y0, y1, y2, y3, y4, ()) ys) (Cur.mk l a s)).1.kids.length], [some (cB ((dval_all (cntR (Rose.node (y0, y1, y2, y3, y4, ()) ys))).choose (Rose.node (y0, y1, y2, y3, y4, ()) ys) (Cur.mk l a s)).2), some (.row false none (.rose VCd) ((dval_all (cntR (Rose.node (y0, y1, y2, y3, y4, ()) ys))).choose (Rose.node (y0, y1, y2, y3, y4, ()) ys) (Cur.mk l a s)).1.kids)]))).run = some r
    rw [decide_eq_true ⟨Nat.le_refl _, hc⟩]
    exact hx
  · cases hq
noncomputable def dval_f : Rose Lab → Cur → Rose VLab × Cur := dval_exf.choose
theorem dval_con : Contract Try.prog 162 (Ent.mix (dvalG dval_f)).F := dval_exf.choose_spec.1
theorem dval_pr : ∀ (z : Rose Lab) (c : Cur) (m : Int), rightR z = true → vbR z ≤ 1000000 → c.good m → m ≤ 60000000 - 8 * (vbR z : Int) → (dval_f z c).2.good (m + 8 * (vbR z : Int)) ∧ vcR (dval_f z c).1 ≤ vbR z := dval_exf.choose_spec.2
def dvlG (f : (List Ty) → Cur → (List Nd) × Cur) : List V → List Blk → Br (V × List (Option Blk))
  | [.ptr 0 0, .agg [.sl (.pair (.int .i64) (.pair .str (.pair (.int .i64) (.pair .bool (.pair (.int .i64) (.pair (.int .i64) .unit)))))) v]], [.box [.sl (.int .u8) l, .i .i64 a, .i .u64 s]] => .need (decide (kindB v = true ∧ nmL v = true ∧ (Cur.mk l a s).good 50000000)) (.leaf (.agg [.ref 1 0 (f v (Cur.mk l a s)).1.length], [some (cB (f v (Cur.mk l a s)).2), some (.row false none (.pair (.int .i64) (.pair .str (.pair (.int .i64) (.pair (.int .i64) (.pair .bool .unit))))) (f v (Cur.mk l a s)).1)]))
  | _, _ => .no
theorem dvl_tree (f : Rose Lab → Cur → Rose VLab × Cur) (h : Cur → (Int) × Cur) (v : List Ty) (l : List Int) (a s : Int) : funC Try.prog (look [(53, .rd1 l2TreeG), (162, .mix (dvalG f)), (51, .rd1 ofG), (85, .own coneG), (9, .rd1 defOfG), (56, .own cpickG), (163, .own (dnumG h))]) (look []) Try.f118 [.ptr 0 0, .agg [.sl TCd v]] [.box [.sl (.int .u8) l, .i .i64 a, .i .u64 s]] =
  ((shr (t2L v (0 : Nat)).lab.snd fun sh3 => shr (Rose.node ((t2L v (0 : Nat)).lab.fst, sh3.fst, sh3.snd.fst, sh3.snd.snd.fst, sh3.snd.snd.snd.fst, ()) (List.take (t2L v (0 :
 Nat)).kids.length (List.drop (0 : Nat) (t2L v (0 : Nat)).kids))) fun sh2 => shr (f sh2 (Cur.mk l a s)) fun sh1 => ifT (decide ((0 : Int) ≤ (0 : Int) ∧ (0 : Nat) <
 v.length ∧ v.length ≤ (4000000000 : Nat))) (ifT (decide (rightR sh2 = true ∧ vbR sh2 ≤ (1000000 : Nat) ∧ (Cur.mk l a s).room ((8 : Nat) * vbR sh2))) (ifT (decide (vcL
 (List.take sh1.fst.kids.length (List.drop (0 : Nat) sh1.fst.kids)) + (1 : Nat) ≤ (2000000 : Nat))) (ifB (decide ((↑(flatV (Rose.node (sh1.fst.lab.fst,
 sh1.fst.lab.snd.fst, sh1.fst.lab.snd.snd.fst, sh1.fst.lab.snd.snd.snd.fst, ()) (List.take sh1.fst.kids.length (List.drop (0 : Nat) sh1.fst.kids))) (-1 : Int) (0 :
 Nat)).length : Int) > (40 : Int))) (ifT (decide (sh1.snd.good (900000000 : Int))) (ifB (!sh1.snd.pickV (4 : Int) == (0 : Int)) (ifT (decide (v.length ≤ (4000000000 :
 Nat)) && nmL v) (ifB (kindB v) (ifT (decide ((sh1.snd.pickC (4 : Int)).good (900000000 : Int))) (ifB ((sh1.snd.pickC (4 : Int)).pickV (12 : Int) == (0 : Int)) (ifT
 (decide (((sh1.snd.pickC (4 : Int)).pickC (12 : Int)).good (900000000 : Int))) (ifT (decide ((((sh1.snd.pickC (4 : Int)).pickC (12 : Int)).pickC (↑(dfL v).length :
 Int)).good (900000000 : Int))) (ifB ((((sh1.snd.pickC (4 : Int)).pickC (12 : Int)).pickC (↑(dfL v).length : Int)).pickV (4 : Int) == (0 : Int)) (ifT (decide
 (((((sh1.snd.pickC (4 : Int)).pickC (12 : Int)).pickC (↑(dfL v).length : Int)).pickC (4 : Int)).good (80000000 : Int))) (ifT (decide ((0 : Int) ≤ ((sh1.snd.pickC (4 :
 Int)).pickC (12 : Int)).pickV (↑(dfL v).length : Int)) && decide (((sh1.snd.pickC (4 : Int)).pickC (12 : Int)).pickV (↑(dfL v).length : Int) < (↑(dfL v).length : Int)))
 (ifSome (dfL v)[(0 : Nat) + (((sh1.snd.pickC (4 : Int)).pickC (12 : Int)).pickV (↑(dfL v).length : Int)).toNat]? fun z => some (V.agg [V.ref 1 0 (dfL v).length], [some
 (Blk.box [V.sl (Cd.int .u8) (h ((((sh1.snd.pickC (4 : Int)).pickC (12 : Int)).pickC (↑(dfL v).length : Int)).pickC (4 : Int))).snd.l, V.i .i64 (h ((((sh1.snd.pickC (4 :
 Int)).pickC (12 : Int)).pickC (↑(dfL v).length : Int)).pickC (4 : Int))).snd.a, V.i .u64 (h ((((sh1.snd.pickC (4 : Int)).pickC (12 : Int)).pickC (↑(dfL v).length :
 Int)).pickC (4 : Int))).snd.s]), some (Blk.row false none NCd ((dfL v).set ((0 : Nat) + (((sh1.snd.pickC (4 : Int)).pickC (12 : Int)).pickV (↑(dfL v).length :
 Int)).toNat) ((h ((((sh1.snd.pickC (4 : Int)).pickC (12 : Int)).pickC (↑(dfL v).length : Int)).pickC (4 : Int))).fst, z.snd.fst, z.snd.snd.fst, z.snd.snd.snd.fst,
 z.snd.snd.snd.snd.fst, ())))])))) (ifB ((((sh1.snd.pickC (4 : Int)).pickC (12 : Int)).pickC (↑(dfL v).length : Int)).pickV (4 : Int) == (1 : Int)) (ifT (decide
 (((((sh1.snd.pickC (4 : Int)).pickC (12 : Int)).pickC (↑(dfL v).length : Int)).pickC (4 : Int)).good (900000000 : Int))) (ifT (decide ((0 : Int) ≤ ((sh1.snd.pickC (4 :
 Int)).pickC (12 : Int)).pickV (↑(dfL v).length : Int)) && decide (((sh1.snd.pickC (4 : Int)).pickC (12 : Int)).pickV (↑(dfL v).length : Int) < (↑(dfL v).length : Int)))
 (ifSome (dfL v)[(0 : Nat) + (((sh1.snd.pickC (4 : Int)).pickC (12 : Int)).pickV (↑(dfL v).length : Int)).toNat]? fun z => some (V.agg [V.ref 1 0 (dfL v).length], [some
 (Blk.box [V.sl (Cd.int .u8) (((((sh1.snd.pickC (4 : Int)).pickC (12 : Int)).pickC (↑(dfL v).length : Int)).pickC (4 : Int)).pickC (5 : Int)).l, V.i .i64
 (((((sh1.snd.pickC (4 : Int)).pickC (12 : Int)).pickC (↑(dfL v).length : Int)).pickC (4 : Int)).pickC (5 : Int)).a, V.i .u64 (((((sh1.snd.pickC (4 : Int)).pickC (12 :
 Int)).pickC (↑(dfL v).length : Int)).pickC (4 : Int)).pickC (5 : Int)).s]), some (Blk.row false none NCd ((dfL v).set ((0 : Nat) + (((sh1.snd.pickC (4 : Int)).pickC (12 :
 Int)).pickV (↑(dfL v).length : Int)).toNat) (z.fst, z.snd.fst, ((((sh1.snd.pickC (4 : Int)).pickC (12 : Int)).pickC (↑(dfL v).length : Int)).pickC (4 : Int)).pickV (5 :
 Int), z.snd.snd.snd.fst, z.snd.snd.snd.snd.fst, ())))])))) (ifB ((((sh1.snd.pickC (4 : Int)).pickC (12 : Int)).pickC (↑(dfL v).length : Int)).pickV (4 : Int) == (2 :
 Int)) (ifT (decide ((0 : Int) ≤ ((sh1.snd.pickC (4 : Int)).pickC (12 : Int)).pickV (↑(dfL v).length : Int)) && decide (((sh1.snd.pickC (4 : Int)).pickC (12 : Int)).pickV
 (↑(dfL v).length : Int) < (↑(dfL v).length : Int))) (ifSome (dfL v)[(0 : Nat) + (((sh1.snd.pickC (4 : Int)).pickC (12 : Int)).pickV (↑(dfL v).length : Int)).toNat]? fun z
 => ifT (decide ((0 : Int) ≤ ((sh1.snd.pickC (4 : Int)).pickC (12 : Int)).pickV (↑(dfL v).length : Int)) && decide (((sh1.snd.pickC (4 : Int)).pickC (12 : Int)).pickV
 (↑(dfL v).length : Int) < (↑(dfL v).length : Int))) (ifSome (dfL v)[(0 : Nat) + (((sh1.snd.pickC (4 : Int)).pickC (12 : Int)).pickV (↑(dfL v).length : Int)).toNat]? fun
 z_1 => some (V.agg [V.ref 1 0 (dfL v).length], [some (Blk.box [V.sl (Cd.int .u8) ((((sh1.snd.pickC (4 : Int)).pickC (12 : Int)).pickC (↑(dfL v).length : Int)).pickC (4 :
 Int)).l, V.i .i64 ((((sh1.snd.pickC (4 : Int)).pickC (12 : Int)).pickC (↑(dfL v).length : Int)).pickC (4 : Int)).a, V.i .u64 ((((sh1.snd.pickC (4 : Int)).pickC (12 :
 Int)).pickC (↑(dfL v).length : Int)).pickC (4 : Int)).s]), some (Blk.row false none NCd ((dfL v).set ((0 : Nat) + (((sh1.snd.pickC (4 : Int)).pickC (12 : Int)).pickV
 (↑(dfL v).length : Int)).toNat) (z_1.fst, z_1.snd.fst, z_1.snd.snd.fst, z_1.snd.snd.snd.fst, !z.snd.snd.snd.snd.fst, ())))])))) (ifT (decide (((((sh1.snd.pickC (4 :
 Int)).pickC (12 : Int)).pickC (↑(dfL v).length : Int)).pickC (4 : Int)).good (900000000 : Int))) (ifT (decide ((0 : Int) ≤ ((sh1.snd.pickC (4 : Int)).pickC (12 :
 Int)).pickV (↑(dfL v).length : Int)) && decide (((sh1.snd.pickC (4 : Int)).pickC (12 : Int)).pickV (↑(dfL v).length : Int) < (↑(dfL v).length : Int))) (ifSome (dfL v)[(0
 : Nat) + (((sh1.snd.pickC (4 : Int)).pickC (12 : Int)).pickV (↑(dfL v).length : Int)).toNat]? fun z => some (V.agg [V.ref 1 0 (dfL v).length], [some (Blk.box [V.sl
 (Cd.int .u8) (((((sh1.snd.pickC (4 : Int)).pickC (12 : Int)).pickC (↑(dfL v).length : Int)).pickC (4 : Int)).pickC (3 : Int)).l, V.i .i64 (((((sh1.snd.pickC (4 :
 Int)).pickC (12 : Int)).pickC (↑(dfL v).length : Int)).pickC (4 : Int)).pickC (3 : Int)).a, V.i .u64 (((((sh1.snd.pickC (4 : Int)).pickC (12 : Int)).pickC (↑(dfL
 v).length : Int)).pickC (4 : Int)).pickC (3 : Int)).s]), some (Blk.row false none NCd ((dfL v).set ((0 : Nat) + (((sh1.snd.pickC (4 : Int)).pickC (12 : Int)).pickV (↑(dfL
 v).length : Int)).toNat) (z.fst, z.snd.fst, z.snd.snd.fst, IntKind.i64.wrap (((((sh1.snd.pickC (4 : Int)).pickC (12 : Int)).pickC (↑(dfL v).length : Int)).pickC (4 :
 Int)).pickV (3 : Int) - (1 : Int)), z.snd.snd.snd.snd.fst, ())))]))))))))) (some (V.agg [V.ref 1 0 (dfL v).length], [some (Blk.box [V.sl (Cd.int .u8) ((sh1.snd.pickC (4 :
 Int)).pickC (12 : Int)).l, V.i .i64 ((sh1.snd.pickC (4 : Int)).pickC (12 : Int)).a, V.i .u64 ((sh1.snd.pickC (4 : Int)).pickC (12 : Int)).s]), some (Blk.row false none
 NCd (dfL v))])))) (ifT (decide ((sh1.snd.pickC (4 : Int)).good (900000000 : Int))) (ifB ((sh1.snd.pickC (4 : Int)).pickV (12 : Int) == (0 : Int)) (ifT (decide
 (((sh1.snd.pickC (4 : Int)).pickC (12 : Int)).good (900000000 : Int))) (ifT (decide ((((sh1.snd.pickC (4 : Int)).pickC (12 : Int)).pickC (↑(0 : Nat) : Int)).good
 (900000000 : Int))) (ifB ((((sh1.snd.pickC (4 : Int)).pickC (12 : Int)).pickC (↑(0 : Nat) : Int)).pickV (4 : Int) == (0 : Int)) (ifT (decide (((((sh1.snd.pickC (4 :
 Int)).pickC (12 : Int)).pickC (↑(0 : Nat) : Int)).pickC (4 : Int)).good (80000000 : Int))) none) (ifB ((((sh1.snd.pickC (4 : Int)).pickC (12 : Int)).pickC (↑(0 : Nat) :
 Int)).pickV (4 : Int) == (1 : Int)) (ifT (decide (((((sh1.snd.pickC (4 : Int)).pickC (12 : Int)).pickC (↑(0 : Nat) : Int)).pickC (4 : Int)).good (900000000 : Int))) none)
 (ifB ((((sh1.snd.pickC (4 : Int)).pickC (12 : Int)).pickC (↑(0 : Nat) : Int)).pickV (4 : Int) == (2 : Int)) none (ifT (decide (((((sh1.snd.pickC (4 : Int)).pickC (12 :
 Int)).pickC (↑(0 : Nat) : Int)).pickC (4 : Int)).good (900000000 : Int))) none)))))) (some (V.agg [V.ref 1 0 0], [some (Blk.box [V.sl (Cd.int .u8) ((sh1.snd.pickC (4 :
 Int)).pickC (12 : Int)).l, V.i .i64 ((sh1.snd.pickC (4 : Int)).pickC (12 : Int)).a, V.i .u64 ((sh1.snd.pickC (4 : Int)).pickC (12 : Int)).s]), some (Blk.row false none
 NCd (nilT NCd.den))])))))) (ifT (decide ((sh1.snd.pickC (4 : Int)).good (900000000 : Int))) (ifB ((sh1.snd.pickC (4 : Int)).pickV (12 : Int) == (0 : Int)) (ifT (decide
 (((sh1.snd.pickC (4 : Int)).pickC (12 : Int)).good (900000000 : Int))) (ifT (decide ((((sh1.snd.pickC (4 : Int)).pickC (12 : Int)).pickC (↑(flatV (Rose.node
 (sh1.fst.lab.fst, sh1.fst.lab.snd.fst, sh1.fst.lab.snd.snd.fst, sh1.fst.lab.snd.snd.snd.fst, ()) (List.take sh1.fst.kids.length (List.drop (0 : Nat) sh1.fst.kids))) (-1 :
 Int) (0 : Nat)).length : Int)).good (900000000 : Int))) (ifB ((((sh1.snd.pickC (4 : Int)).pickC (12 : Int)).pickC (↑(flatV (Rose.node (sh1.fst.lab.fst,
 sh1.fst.lab.snd.fst, sh1.fst.lab.snd.snd.fst, sh1.fst.lab.snd.snd.snd.fst, ()) (List.take sh1.fst.kids.length (List.drop (0 : Nat) sh1.fst.kids))) (-1 : Int) (0 :
 Nat)).length : Int)).pickV (4 : Int) == (0 : Int)) (ifT (decide (((((sh1.snd.pickC (4 : Int)).pickC (12 : Int)).pickC (↑(flatV (Rose.node (sh1.fst.lab.fst,
 sh1.fst.lab.snd.fst, sh1.fst.lab.snd.snd.fst, sh1.fst.lab.snd.snd.snd.fst, ()) (List.take sh1.fst.kids.length (List.drop (0 : Nat) sh1.fst.kids))) (-1 : Int) (0 :
 Nat)).length : Int)).pickC (4 : Int)).good (80000000 : Int))) (ifT (decide ((0 : Int) ≤ ((sh1.snd.pickC (4 : Int)).pickC (12 : Int)).pickV (↑(flatV (Rose.node
 (sh1.fst.lab.fst, sh1.fst.lab.snd.fst, sh1.fst.lab.snd.snd.fst, sh1.fst.lab.snd.snd.snd.fst, ()) (List.take sh1.fst.kids.length (List.drop (0 : Nat) sh1.fst.kids))) (-1 :
 Int) (0 : Nat)).length : Int)) && decide (((sh1.snd.pickC (4 : Int)).pickC (12 : Int)).pickV (↑(flatV (Rose.node (sh1.fst.lab.fst, sh1.fst.lab.snd.fst,
 sh1.fst.lab.snd.snd.fst, sh1.fst.lab.snd.snd.snd.fst, ()) (List.take sh1.fst.kids.length (List.drop (0 : Nat) sh1.fst.kids))) (-1 : Int) (0 : Nat)).length : Int) <
 (↑(flatV (Rose.node (sh1.fst.lab.fst, sh1.fst.lab.snd.fst, sh1.fst.lab.snd.snd.fst, sh1.fst.lab.snd.snd.snd.fst, ()) (List.take sh1.fst.kids.length (List.drop (0 : Nat)
 sh1.fst.kids))) (-1 : Int) (0 : Nat)).length : Int))) (ifSome (flatV (Rose.node (sh1.fst.lab.fst, sh1.fst.lab.snd.fst, sh1.fst.lab.snd.snd.fst,
 sh1.fst.lab.snd.snd.snd.fst, ()) (List.take sh1.fst.kids.length (List.drop (0 : Nat) sh1.fst.kids))) (-1 : Int) (0 : Nat))[(0 : Nat) + (((sh1.snd.pickC (4 : Int)).pickC
 (12 : Int)).pickV (↑(flatV (Rose.node (sh1.fst.lab.fst, sh1.fst.lab.snd.fst, sh1.fst.lab.snd.snd.fst, sh1.fst.lab.snd.snd.snd.fst, ()) (List.take sh1.fst.kids.length
 (List.drop (0 : Nat) sh1.fst.kids))) (-1 : Int) (0 : Nat)).length : Int)).toNat]? fun z => some (V.agg [V.ref 1 0 (flatV (Rose.node (sh1.fst.lab.fst, sh1.fst.lab.snd.fst,
 sh1.fst.lab.snd.snd.fst, sh1.fst.lab.snd.snd.snd.fst, ()) (List.take sh1.fst.kids.length (List.drop (0 : Nat) sh1.fst.kids))) (-1 : Int) (0 : Nat)).length], [some
 (Blk.box [V.sl (Cd.int .u8) (h ((((sh1.snd.pickC (4 : Int)).pickC (12 : Int)).pickC (↑(flatV (Rose.node (sh1.fst.lab.fst, sh1.fst.lab.snd.fst, sh1.fst.lab.snd.snd.fst,
 sh1.fst.lab.snd.snd.snd.fst, ()) (List.take sh1.fst.kids.length (List.drop (0 : Nat) sh1.fst.kids))) (-1 : Int) (0 : Nat)).length : Int)).pickC (4 : Int))).snd.l, V.i
 .i64 (h ((((sh1.snd.pickC (4 : Int)).pickC (12 : Int)).pickC (↑(flatV (Rose.node (sh1.fst.lab.fst, sh1.fst.lab.snd.fst, sh1.fst.lab.snd.snd.fst,
 sh1.fst.lab.snd.snd.snd.fst, ()) (List.take sh1.fst.kids.length (List.drop (0 : Nat) sh1.fst.kids))) (-1 : Int) (0 : Nat)).length : Int)).pickC (4 : Int))).snd.a, V.i
 .u64 (h ((((sh1.snd.pickC (4 : Int)).pickC (12 : Int)).pickC (↑(flatV (Rose.node (sh1.fst.lab.fst, sh1.fst.lab.snd.fst, sh1.fst.lab.snd.snd.fst,
 sh1.fst.lab.snd.snd.snd.fst, ()) (List.take sh1.fst.kids.length (List.drop (0 : Nat) sh1.fst.kids))) (-1 : Int) (0 : Nat)).length : Int)).pickC (4 : Int))).snd.s]), some
 (Blk.row false none NCd ((flatV (Rose.node (sh1.fst.lab.fst, sh1.fst.lab.snd.fst, sh1.fst.lab.snd.snd.fst, sh1.fst.lab.snd.snd.snd.fst, ()) (List.take sh1.fst.kids.length
 (List.drop (0 : Nat) sh1.fst.kids))) (-1 : Int) (0 : Nat)).set ((0 : Nat) + (((sh1.snd.pickC (4 : Int)).pickC (12 : Int)).pickV (↑(flatV (Rose.node (sh1.fst.lab.fst,
 sh1.fst.lab.snd.fst, sh1.fst.lab.snd.snd.fst, sh1.fst.lab.snd.snd.snd.fst, ()) (List.take sh1.fst.kids.length (List.drop (0 : Nat) sh1.fst.kids))) (-1 : Int) (0 :
 Nat)).length : Int)).toNat) ((h ((((sh1.snd.pickC (4 : Int)).pickC (12 : Int)).pickC (↑(flatV (Rose.node (sh1.fst.lab.fst, sh1.fst.lab.snd.fst, sh1.fst.lab.snd.snd.fst,
 sh1.fst.lab.snd.snd.snd.fst, ()) (List.take sh1.fst.kids.length (List.drop (0 : Nat) sh1.fst.kids))) (-1 : Int) (0 : Nat)).length : Int)).pickC (4 : Int))).fst,
 z.snd.fst, z.snd.snd.fst, z.snd.snd.snd.fst, z.snd.snd.snd.snd.fst, ())))])))) (ifB ((((sh1.snd.pickC (4 : Int)).pickC (12 : Int)).pickC (↑(flatV (Rose.node
 (sh1.fst.lab.fst, sh1.fst.lab.snd.fst, sh1.fst.lab.snd.snd.fst, sh1.fst.lab.snd.snd.snd.fst, ()) (List.take sh1.fst.kids.length (List.drop (0 : Nat) sh1.fst.kids))) (-1 :
 Int) (0 : Nat)).length : Int)).pickV (4 : Int) == (1 : Int)) (ifT (decide (((((sh1.snd.pickC (4 : Int)).pickC (12 : Int)).pickC (↑(flatV (Rose.node (sh1.fst.lab.fst,
 sh1.fst.lab.snd.fst, sh1.fst.lab.snd.snd.fst, sh1.fst.lab.snd.snd.snd.fst, ()) (List.take sh1.fst.kids.length (List.drop (0 : Nat) sh1.fst.kids))) (-1 : Int) (0 :
 Nat)).length : Int)).pickC (4 : Int)).good (900000000 : Int))) (ifT (decide ((0 : Int) ≤ ((sh1.snd.pickC (4 : Int)).pickC (12 : Int)).pickV (↑(flatV (Rose.node
 (sh1.fst.lab.fst, sh1.fst.lab.snd.fst, sh1.fst.lab.snd.snd.fst, sh1.fst.lab.snd.snd.snd.fst, ()) (List.take sh1.fst.kids.length (List.drop (0 : Nat) sh1.fst.kids))) (-1 :
 Int) (0 : Nat)).length : Int)) && decide (((sh1.snd.pickC (4 : Int)).pickC (12 : Int)).pickV (↑(flatV (Rose.node (sh1.fst.lab.fst, sh1.fst.lab.snd.fst,
 sh1.fst.lab.snd.snd.fst, sh1.fst.lab.snd.snd.snd.fst, ()) (List.take sh1.fst.kids.length (List.drop (0 : Nat) sh1.fst.kids))) (-1 : Int) (0 : Nat)).length : Int) <
 (↑(flatV (Rose.node (sh1.fst.lab.fst, sh1.fst.lab.snd.fst, sh1.fst.lab.snd.snd.fst, sh1.fst.lab.snd.snd.snd.fst, ()) (List.take sh1.fst.kids.length (List.drop (0 : Nat)
 sh1.fst.kids))) (-1 : Int) (0 : Nat)).length : Int))) (ifSome (flatV (Rose.node (sh1.fst.lab.fst, sh1.fst.lab.snd.fst, sh1.fst.lab.snd.snd.fst,
 sh1.fst.lab.snd.snd.snd.fst, ()) (List.take sh1.fst.kids.length (List.drop (0 : Nat) sh1.fst.kids))) (-1 : Int) (0 : Nat))[(0 : Nat) + (((sh1.snd.pickC (4 : Int)).pickC
 (12 : Int)).pickV (↑(flatV (Rose.node (sh1.fst.lab.fst, sh1.fst.lab.snd.fst, sh1.fst.lab.snd.snd.fst, sh1.fst.lab.snd.snd.snd.fst, ()) (List.take sh1.fst.kids.length
 (List.drop (0 : Nat) sh1.fst.kids))) (-1 : Int) (0 : Nat)).length : Int)).toNat]? fun z => some (V.agg [V.ref 1 0 (flatV (Rose.node (sh1.fst.lab.fst, sh1.fst.lab.snd.fst,
 sh1.fst.lab.snd.snd.fst, sh1.fst.lab.snd.snd.snd.fst, ()) (List.take sh1.fst.kids.length (List.drop (0 : Nat) sh1.fst.kids))) (-1 : Int) (0 : Nat)).length], [some
 (Blk.box [V.sl (Cd.int .u8) (((((sh1.snd.pickC (4 : Int)).pickC (12 : Int)).pickC (↑(flatV (Rose.node (sh1.fst.lab.fst, sh1.fst.lab.snd.fst, sh1.fst.lab.snd.snd.fst,
 sh1.fst.lab.snd.snd.snd.fst, ()) (List.take sh1.fst.kids.length (List.drop (0 : Nat) sh1.fst.kids))) (-1 : Int) (0 : Nat)).length : Int)).pickC (4 : Int)).pickC (5 :
 Int)).l, V.i .i64 (((((sh1.snd.pickC (4 : Int)).pickC (12 : Int)).pickC (↑(flatV (Rose.node (sh1.fst.lab.fst, sh1.fst.lab.snd.fst, sh1.fst.lab.snd.snd.fst,
 sh1.fst.lab.snd.snd.snd.fst, ()) (List.take sh1.fst.kids.length (List.drop (0 : Nat) sh1.fst.kids))) (-1 : Int) (0 : Nat)).length : Int)).pickC (4 : Int)).pickC (5 :
 Int)).a, V.i .u64 (((((sh1.snd.pickC (4 : Int)).pickC (12 : Int)).pickC (↑(flatV (Rose.node (sh1.fst.lab.fst, sh1.fst.lab.snd.fst, sh1.fst.lab.snd.snd.fst,
 sh1.fst.lab.snd.snd.snd.fst, ()) (List.take sh1.fst.kids.length (List.drop (0 : Nat) sh1.fst.kids))) (-1 : Int) (0 : Nat)).length : Int)).pickC (4 : Int)).pickC (5 :
 Int)).s]), some (Blk.row false none NCd ((flatV (Rose.node (sh1.fst.lab.fst, sh1.fst.lab.snd.fst, sh1.fst.lab.snd.snd.fst, sh1.fst.lab.snd.snd.snd.fst, ()) (List.take
 sh1.fst.kids.length (List.drop (0 : Nat) sh1.fst.kids))) (-1 : Int) (0 : Nat)).set ((0 : Nat) + (((sh1.snd.pickC (4 : Int)).pickC (12 : Int)).pickV (↑(flatV (Rose.node
 (sh1.fst.lab.fst, sh1.fst.lab.snd.fst, sh1.fst.lab.snd.snd.fst, sh1.fst.lab.snd.snd.snd.fst, ()) (List.take sh1.fst.kids.length (List.drop (0 : Nat) sh1.fst.kids))) (-1 :
 Int) (0 : Nat)).length : Int)).toNat) (z.fst, z.snd.fst, ((((sh1.snd.pickC (4 : Int)).pickC (12 : Int)).pickC (↑(flatV (Rose.node (sh1.fst.lab.fst, sh1.fst.lab.snd.fst,
 sh1.fst.lab.snd.snd.fst, sh1.fst.lab.snd.snd.snd.fst, ()) (List.take sh1.fst.kids.length (List.drop (0 : Nat) sh1.fst.kids))) (-1 : Int) (0 : Nat)).length : Int)).pickC
 (4 : Int)).pickV (5 : Int), z.snd.snd.snd.fst, z.snd.snd.snd.snd.fst, ())))])))) (ifB ((((sh1.snd.pickC (4 : Int)).pickC (12 : Int)).pickC (↑(flatV (Rose.node
 (sh1.fst.lab.fst, sh1.fst.lab.snd.fst, sh1.fst.lab.snd.snd.fst, sh1.fst.lab.snd.snd.snd.fst, ()) (List.take sh1.fst.kids.length (List.drop (0 : Nat) sh1.fst.kids))) (-1 :
 Int) (0 : Nat)).length : Int)).pickV (4 : Int) == (2 : Int)) (ifT (decide ((0 : Int) ≤ ((sh1.snd.pickC (4 : Int)).pickC (12 : Int)).pickV (↑(flatV (Rose.node
 (sh1.fst.lab.fst, sh1.fst.lab.snd.fst, sh1.fst.lab.snd.snd.fst, sh1.fst.lab.snd.snd.snd.fst, ()) (List.take sh1.fst.kids.length (List.drop (0 : Nat) sh1.fst.kids))) (-1 :
 Int) (0 : Nat)).length : Int)) && decide (((sh1.snd.pickC (4 : Int)).pickC (12 : Int)).pickV (↑(flatV (Rose.node (sh1.fst.lab.fst, sh1.fst.lab.snd.fst,
 sh1.fst.lab.snd.snd.fst, sh1.fst.lab.snd.snd.snd.fst, ()) (List.take sh1.fst.kids.length (List.drop (0 : Nat) sh1.fst.kids))) (-1 : Int) (0 : Nat)).length : Int) <
 (↑(flatV (Rose.node (sh1.fst.lab.fst, sh1.fst.lab.snd.fst, sh1.fst.lab.snd.snd.fst, sh1.fst.lab.snd.snd.snd.fst, ()) (List.take sh1.fst.kids.length (List.drop (0 : Nat)
 sh1.fst.kids))) (-1 : Int) (0 : Nat)).length : Int))) (ifSome (flatV (Rose.node (sh1.fst.lab.fst, sh1.fst.lab.snd.fst, sh1.fst.lab.snd.snd.fst,
 sh1.fst.lab.snd.snd.snd.fst, ()) (List.take sh1.fst.kids.length (List.drop (0 : Nat) sh1.fst.kids))) (-1 : Int) (0 : Nat))[(0 : Nat) + (((sh1.snd.pickC (4 : Int)).pickC
 (12 : Int)).pickV (↑(flatV (Rose.node (sh1.fst.lab.fst, sh1.fst.lab.snd.fst, sh1.fst.lab.snd.snd.fst, sh1.fst.lab.snd.snd.snd.fst, ()) (List.take sh1.fst.kids.length
 (List.drop (0 : Nat) sh1.fst.kids))) (-1 : Int) (0 : Nat)).length : Int)).toNat]? fun z => ifT (decide ((0 : Int) ≤ ((sh1.snd.pickC (4 : Int)).pickC (12 : Int)).pickV
 (↑(flatV (Rose.node (sh1.fst.lab.fst, sh1.fst.lab.snd.fst, sh1.fst.lab.snd.snd.fst, sh1.fst.lab.snd.snd.snd.fst, ()) (List.take sh1.fst.kids.length (List.drop (0 : Nat)
 sh1.fst.kids))) (-1 : Int) (0 : Nat)).length : Int)) && decide (((sh1.snd.pickC (4 : Int)).pickC (12 : Int)).pickV (↑(flatV (Rose.node (sh1.fst.lab.fst,
 sh1.fst.lab.snd.fst, sh1.fst.lab.snd.snd.fst, sh1.fst.lab.snd.snd.snd.fst, ()) (List.take sh1.fst.kids.length (List.drop (0 : Nat) sh1.fst.kids))) (-1 : Int) (0 :
 Nat)).length : Int) < (↑(flatV (Rose.node (sh1.fst.lab.fst, sh1.fst.lab.snd.fst, sh1.fst.lab.snd.snd.fst, sh1.fst.lab.snd.snd.snd.fst, ()) (List.take sh1.fst.kids.length
 (List.drop (0 : Nat) sh1.fst.kids))) (-1 : Int) (0 : Nat)).length : Int))) (ifSome (flatV (Rose.node (sh1.fst.lab.fst, sh1.fst.lab.snd.fst, sh1.fst.lab.snd.snd.fst,
 sh1.fst.lab.snd.snd.snd.fst, ()) (List.take sh1.fst.kids.length (List.drop (0 : Nat) sh1.fst.kids))) (-1 : Int) (0 : Nat))[(0 : Nat) + (((sh1.snd.pickC (4 : Int)).pickC
 (12 : Int)).pickV (↑(flatV (Rose.node (sh1.fst.lab.fst, sh1.fst.lab.snd.fst, sh1.fst.lab.snd.snd.fst, sh1.fst.lab.snd.snd.snd.fst, ()) (List.take sh1.fst.kids.length
 (List.drop (0 : Nat) sh1.fst.kids))) (-1 : Int) (0 : Nat)).length : Int)).toNat]? fun z_1 => some (V.agg [V.ref 1 0 (flatV (Rose.node (sh1.fst.lab.fst,
 sh1.fst.lab.snd.fst, sh1.fst.lab.snd.snd.fst, sh1.fst.lab.snd.snd.snd.fst, ()) (List.take sh1.fst.kids.length (List.drop (0 : Nat) sh1.fst.kids))) (-1 : Int) (0 :
 Nat)).length], [some (Blk.box [V.sl (Cd.int .u8) ((((sh1.snd.pickC (4 : Int)).pickC (12 : Int)).pickC (↑(flatV (Rose.node (sh1.fst.lab.fst, sh1.fst.lab.snd.fst,
 sh1.fst.lab.snd.snd.fst, sh1.fst.lab.snd.snd.snd.fst, ()) (List.take sh1.fst.kids.length (List.drop (0 : Nat) sh1.fst.kids))) (-1 : Int) (0 : Nat)).length : Int)).pickC
 (4 : Int)).l, V.i .i64 ((((sh1.snd.pickC (4 : Int)).pickC (12 : Int)).pickC (↑(flatV (Rose.node (sh1.fst.lab.fst, sh1.fst.lab.snd.fst, sh1.fst.lab.snd.snd.fst,
 sh1.fst.lab.snd.snd.snd.fst, ()) (List.take sh1.fst.kids.length (List.drop (0 : Nat) sh1.fst.kids))) (-1 : Int) (0 : Nat)).length : Int)).pickC (4 : Int)).a, V.i .u64
 ((((sh1.snd.pickC (4 : Int)).pickC (12 : Int)).pickC (↑(flatV (Rose.node (sh1.fst.lab.fst, sh1.fst.lab.snd.fst, sh1.fst.lab.snd.snd.fst, sh1.fst.lab.snd.snd.snd.fst, ())
 (List.take sh1.fst.kids.length (List.drop (0 : Nat) sh1.fst.kids))) (-1 : Int) (0 : Nat)).length : Int)).pickC (4 : Int)).s]), some (Blk.row false none NCd ((flatV
 (Rose.node (sh1.fst.lab.fst, sh1.fst.lab.snd.fst, sh1.fst.lab.snd.snd.fst, sh1.fst.lab.snd.snd.snd.fst, ()) (List.take sh1.fst.kids.length (List.drop (0 : Nat)
 sh1.fst.kids))) (-1 : Int) (0 : Nat)).set ((0 : Nat) + (((sh1.snd.pickC (4 : Int)).pickC (12 : Int)).pickV (↑(flatV (Rose.node (sh1.fst.lab.fst, sh1.fst.lab.snd.fst,
 sh1.fst.lab.snd.snd.fst, sh1.fst.lab.snd.snd.snd.fst, ()) (List.take sh1.fst.kids.length (List.drop (0 : Nat) sh1.fst.kids))) (-1 : Int) (0 : Nat)).length : Int)).toNat)
 (z_1.fst, z_1.snd.fst, z_1.snd.snd.fst, z_1.snd.snd.snd.fst, !z.snd.snd.snd.snd.fst, ())))])))) (ifT (decide (((((sh1.snd.pickC (4 : Int)).pickC (12 : Int)).pickC
 (↑(flatV (Rose.node (sh1.fst.lab.fst, sh1.fst.lab.snd.fst, sh1.fst.lab.snd.snd.fst, sh1.fst.lab.snd.snd.snd.fst, ()) (List.take sh1.fst.kids.length (List.drop (0 : Nat)
 sh1.fst.kids))) (-1 : Int) (0 : Nat)).length : Int)).pickC (4 : Int)).good (900000000 : Int))) (ifT (decide ((0 : Int) ≤ ((sh1.snd.pickC (4 : Int)).pickC (12 :
 Int)).pickV (↑(flatV (Rose.node (sh1.fst.lab.fst, sh1.fst.lab.snd.fst, sh1.fst.lab.snd.snd.fst, sh1.fst.lab.snd.snd.snd.fst, ()) (List.take sh1.fst.kids.length (List.drop
 (0 : Nat) sh1.fst.kids))) (-1 : Int) (0 : Nat)).length : Int)) && decide (((sh1.snd.pickC (4 : Int)).pickC (12 : Int)).pickV (↑(flatV (Rose.node (sh1.fst.lab.fst,
 sh1.fst.lab.snd.fst, sh1.fst.lab.snd.snd.fst, sh1.fst.lab.snd.snd.snd.fst, ()) (List.take sh1.fst.kids.length (List.drop (0 : Nat) sh1.fst.kids))) (-1 : Int) (0 :
 Nat)).length : Int) < (↑(flatV (Rose.node (sh1.fst.lab.fst, sh1.fst.lab.snd.fst, sh1.fst.lab.snd.snd.fst, sh1.fst.lab.snd.snd.snd.fst, ()) (List.take sh1.fst.kids.length
 (List.drop (0 : Nat) sh1.fst.kids))) (-1 : Int) (0 : Nat)).length : Int))) (ifSome (flatV (Rose.node (sh1.fst.lab.fst, sh1.fst.lab.snd.fst, sh1.fst.lab.snd.snd.fst,
 sh1.fst.lab.snd.snd.snd.fst, ()) (List.take sh1.fst.kids.length (List.drop (0 : Nat) sh1.fst.kids))) (-1 : Int) (0 : Nat))[(0 : Nat) + (((sh1.snd.pickC (4 : Int)).pickC
 (12 : Int)).pickV (↑(flatV (Rose.node (sh1.fst.lab.fst, sh1.fst.lab.snd.fst, sh1.fst.lab.snd.snd.fst, sh1.fst.lab.snd.snd.snd.fst, ()) (List.take sh1.fst.kids.length
 (List.drop (0 : Nat) sh1.fst.kids))) (-1 : Int) (0 : Nat)).length : Int)).toNat]? fun z => some (V.agg [V.ref 1 0 (flatV (Rose.node (sh1.fst.lab.fst, sh1.fst.lab.snd.fst,
 sh1.fst.lab.snd.snd.fst, sh1.fst.lab.snd.snd.snd.fst, ()) (List.take sh1.fst.kids.length (List.drop (0 : Nat) sh1.fst.kids))) (-1 : Int) (0 : Nat)).length], [some
 (Blk.box [V.sl (Cd.int .u8) (((((sh1.snd.pickC (4 : Int)).pickC (12 : Int)).pickC (↑(flatV (Rose.node (sh1.fst.lab.fst, sh1.fst.lab.snd.fst, sh1.fst.lab.snd.snd.fst,
 sh1.fst.lab.snd.snd.snd.fst, ()) (List.take sh1.fst.kids.length (List.drop (0 : Nat) sh1.fst.kids))) (-1 : Int) (0 : Nat)).length : Int)).pickC (4 : Int)).pickC (3 :
 Int)).l, V.i .i64 (((((sh1.snd.pickC (4 : Int)).pickC (12 : Int)).pickC (↑(flatV (Rose.node (sh1.fst.lab.fst, sh1.fst.lab.snd.fst, sh1.fst.lab.snd.snd.fst,
 sh1.fst.lab.snd.snd.snd.fst, ()) (List.take sh1.fst.kids.length (List.drop (0 : Nat) sh1.fst.kids))) (-1 : Int) (0 : Nat)).length : Int)).pickC (4 : Int)).pickC (3 :
 Int)).a, V.i .u64 (((((sh1.snd.pickC (4 : Int)).pickC (12 : Int)).pickC (↑(flatV (Rose.node (sh1.fst.lab.fst, sh1.fst.lab.snd.fst, sh1.fst.lab.snd.snd.fst,
 sh1.fst.lab.snd.snd.snd.fst, ()) (List.take sh1.fst.kids.length (List.drop (0 : Nat) sh1.fst.kids))) (-1 : Int) (0 : Nat)).length : Int)).pickC (4 : Int)).pickC (3 :
 Int)).s]), some (Blk.row false none NCd ((flatV (Rose.node (sh1.fst.lab.fst, sh1.fst.lab.snd.fst, sh1.fst.lab.snd.snd.fst, sh1.fst.lab.snd.snd.snd.fst, ()) (List.take
 sh1.fst.kids.length (List.drop (0 : Nat) sh1.fst.kids))) (-1 : Int) (0 : Nat)).set ((0 : Nat) + (((sh1.snd.pickC (4 : Int)).pickC (12 : Int)).pickV (↑(flatV (Rose.node
 (sh1.fst.lab.fst, sh1.fst.lab.snd.fst, sh1.fst.lab.snd.snd.fst, sh1.fst.lab.snd.snd.snd.fst, ()) (List.take sh1.fst.kids.length (List.drop (0 : Nat) sh1.fst.kids))) (-1 :
 Int) (0 : Nat)).length : Int)).toNat) (z.fst, z.snd.fst, z.snd.snd.fst, IntKind.i64.wrap (((((sh1.snd.pickC (4 : Int)).pickC (12 : Int)).pickC (↑(flatV (Rose.node
 (sh1.fst.lab.fst, sh1.fst.lab.snd.fst, sh1.fst.lab.snd.snd.fst, sh1.fst.lab.snd.snd.snd.fst, ()) (List.take sh1.fst.kids.length (List.drop (0 : Nat) sh1.fst.kids))) (-1 :
 Int) (0 : Nat)).length : Int)).pickC (4 : Int)).pickV (3 : Int) - (1 : Int)), z.snd.snd.snd.snd.fst, ())))]))))))))) (some (V.agg [V.ref 1 0 (flatV (Rose.node
 (sh1.fst.lab.fst, sh1.fst.lab.snd.fst, sh1.fst.lab.snd.snd.fst, sh1.fst.lab.snd.snd.snd.fst, ()) (List.take sh1.fst.kids.length (List.drop (0 : Nat) sh1.fst.kids))) (-1 :
 Int) (0 : Nat)).length], [some (Blk.box [V.sl (Cd.int .u8) ((sh1.snd.pickC (4 : Int)).pickC (12 : Int)).l, V.i .i64 ((sh1.snd.pickC (4 : Int)).pickC (12 : Int)).a, V.i
 .u64 ((sh1.snd.pickC (4 : Int)).pickC (12 : Int)).s]), some (Blk.row false none NCd (flatV (Rose.node (sh1.fst.lab.fst, sh1.fst.lab.snd.fst, sh1.fst.lab.snd.snd.fst,
 sh1.fst.lab.snd.snd.snd.fst, ()) (List.take sh1.fst.kids.length (List.drop (0 : Nat) sh1.fst.kids))) (-1 : Int) (0 : Nat)))])))))) (ifT (decide (sh1.snd.good (900000000 :
 Int))) (ifB (sh1.snd.pickV (12 : Int) == (0 : Int)) (ifT (decide ((sh1.snd.pickC (12 : Int)).good (900000000 : Int))) (ifT (decide (((sh1.snd.pickC (12 : Int)).pickC
 (↑(flatV (Rose.node (sh1.fst.lab.fst, sh1.fst.lab.snd.fst, sh1.fst.lab.snd.snd.fst, sh1.fst.lab.snd.snd.snd.fst, ()) (List.take sh1.fst.kids.length (List.drop (0 : Nat)
 sh1.fst.kids))) (-1 : Int) (0 : Nat)).length : Int)).good (900000000 : Int))) (ifB (((sh1.snd.pickC (12 : Int)).pickC (↑(flatV (Rose.node (sh1.fst.lab.fst,
 sh1.fst.lab.snd.fst, sh1.fst.lab.snd.snd.fst, sh1.fst.lab.snd.snd.snd.fst, ()) (List.take sh1.fst.kids.length (List.drop (0 : Nat) sh1.fst.kids))) (-1 : Int) (0 :
 Nat)).length : Int)).pickV (4 : Int) == (0 : Int)) (ifT (decide ((((sh1.snd.pickC (12 : Int)).pickC (↑(flatV (Rose.node (sh1.fst.lab.fst, sh1.fst.lab.snd.fst,
 sh1.fst.lab.snd.snd.fst, sh1.fst.lab.snd.snd.snd.fst, ()) (List.take sh1.fst.kids.length (List.drop (0 : Nat) sh1.fst.kids))) (-1 : Int) (0 : Nat)).length : Int)).pickC
 (4 : Int)).good (80000000 : Int))) (ifT (decide ((0 : Int) ≤ (sh1.snd.pickC (12 : Int)).pickV (↑(flatV (Rose.node (sh1.fst.lab.fst, sh1.fst.lab.snd.fst,
 sh1.fst.lab.snd.snd.fst, sh1.fst.lab.snd.snd.snd.fst, ()) (List.take sh1.fst.kids.length (List.drop (0 : Nat) sh1.fst.kids))) (-1 : Int) (0 : Nat)).length : Int)) &&
 decide ((sh1.snd.pickC (12 : Int)).pickV (↑(flatV (Rose.node (sh1.fst.lab.fst, sh1.fst.lab.snd.fst, sh1.fst.lab.snd.snd.fst, sh1.fst.lab.snd.snd.snd.fst, ()) (List.take
 sh1.fst.kids.length (List.drop (0 : Nat) sh1.fst.kids))) (-1 : Int) (0 : Nat)).length : Int) < (↑(flatV (Rose.node (sh1.fst.lab.fst, sh1.fst.lab.snd.fst,
 sh1.fst.lab.snd.snd.fst, sh1.fst.lab.snd.snd.snd.fst, ()) (List.take sh1.fst.kids.length (List.drop (0 : Nat) sh1.fst.kids))) (-1 : Int) (0 : Nat)).length : Int)))
 (ifSome (flatV (Rose.node (sh1.fst.lab.fst, sh1.fst.lab.snd.fst, sh1.fst.lab.snd.snd.fst, sh1.fst.lab.snd.snd.snd.fst, ()) (List.take sh1.fst.kids.length (List.drop (0 :
 Nat) sh1.fst.kids))) (-1 : Int) (0 : Nat))[(0 : Nat) + ((sh1.snd.pickC (12 : Int)).pickV (↑(flatV (Rose.node (sh1.fst.lab.fst, sh1.fst.lab.snd.fst,
 sh1.fst.lab.snd.snd.fst, sh1.fst.lab.snd.snd.snd.fst, ()) (List.take sh1.fst.kids.length (List.drop (0 : Nat) sh1.fst.kids))) (-1 : Int) (0 : Nat)).length : Int)).toNat]?
 fun z => some (V.agg [V.ref 1 0 (flatV (Rose.node (sh1.fst.lab.fst, sh1.fst.lab.snd.fst, sh1.fst.lab.snd.snd.fst, sh1.fst.lab.snd.snd.snd.fst, ()) (List.take
 sh1.fst.kids.length (List.drop (0 : Nat) sh1.fst.kids))) (-1 : Int) (0 : Nat)).length], [some (Blk.box [V.sl (Cd.int .u8) (h (((sh1.snd.pickC (12 : Int)).pickC (↑(flatV
 (Rose.node (sh1.fst.lab.fst, sh1.fst.lab.snd.fst, sh1.fst.lab.snd.snd.fst, sh1.fst.lab.snd.snd.snd.fst, ()) (List.take sh1.fst.kids.length (List.drop (0 : Nat)
 sh1.fst.kids))) (-1 : Int) (0 : Nat)).length : Int)).pickC (4 : Int))).snd.l, V.i .i64 (h (((sh1.snd.pickC (12 : Int)).pickC (↑(flatV (Rose.node (sh1.fst.lab.fst,
 sh1.fst.lab.snd.fst, sh1.fst.lab.snd.snd.fst, sh1.fst.lab.snd.snd.snd.fst, ()) (List.take sh1.fst.kids.length (List.drop (0 : Nat) sh1.fst.kids))) (-1 : Int) (0 :
 Nat)).length : Int)).pickC (4 : Int))).snd.a, V.i .u64 (h (((sh1.snd.pickC (12 : Int)).pickC (↑(flatV (Rose.node (sh1.fst.lab.fst, sh1.fst.lab.snd.fst,
 sh1.fst.lab.snd.snd.fst, sh1.fst.lab.snd.snd.snd.fst, ()) (List.take sh1.fst.kids.length (List.drop (0 : Nat) sh1.fst.kids))) (-1 : Int) (0 : Nat)).length : Int)).pickC
 (4 : Int))).snd.s]), some (Blk.row false none NCd ((flatV (Rose.node (sh1.fst.lab.fst, sh1.fst.lab.snd.fst, sh1.fst.lab.snd.snd.fst, sh1.fst.lab.snd.snd.snd.fst, ())
 (List.take sh1.fst.kids.length (List.drop (0 : Nat) sh1.fst.kids))) (-1 : Int) (0 : Nat)).set ((0 : Nat) + ((sh1.snd.pickC (12 : Int)).pickV (↑(flatV (Rose.node
 (sh1.fst.lab.fst, sh1.fst.lab.snd.fst, sh1.fst.lab.snd.snd.fst, sh1.fst.lab.snd.snd.snd.fst, ()) (List.take sh1.fst.kids.length (List.drop (0 : Nat) sh1.fst.kids))) (-1 :
 Int) (0 : Nat)).length : Int)).toNat) ((h (((sh1.snd.pickC (12 : Int)).pickC (↑(flatV (Rose.node (sh1.fst.lab.fst, sh1.fst.lab.snd.fst, sh1.fst.lab.snd.snd.fst,
 sh1.fst.lab.snd.snd.snd.fst, ()) (List.take sh1.fst.kids.length (List.drop (0 : Nat) sh1.fst.kids))) (-1 : Int) (0 : Nat)).length : Int)).pickC (4 : Int))).fst,
 z.snd.fst, z.snd.snd.fst, z.snd.snd.snd.fst, z.snd.snd.snd.snd.fst, ())))])))) (ifB (((sh1.snd.pickC (12 : Int)).pickC (↑(flatV (Rose.node (sh1.fst.lab.fst,
 sh1.fst.lab.snd.fst, sh1.fst.lab.snd.snd.fst, sh1.fst.lab.snd.snd.snd.fst, ()) (List.take sh1.fst.kids.length (List.drop (0 : Nat) sh1.fst.kids))) (-1 : Int) (0 :
 Nat)).length : Int)).pickV (4 : Int) == (1 : Int)) (ifT (decide ((((sh1.snd.pickC (12 : Int)).pickC (↑(flatV (Rose.node (sh1.fst.lab.fst, sh1.fst.lab.snd.fst,
 sh1.fst.lab.snd.snd.fst, sh1.fst.lab.snd.snd.snd.fst, ()) (List.take sh1.fst.kids.length (List.drop (0 : Nat) sh1.fst.kids))) (-1 : Int) (0 : Nat)).length : Int)).pickC
 (4 : Int)).good (900000000 : Int))) (ifT (decide ((0 : Int) ≤ (sh1.snd.pickC (12 : Int)).pickV (↑(flatV (Rose.node (sh1.fst.lab.fst, sh1.fst.lab.snd.fst,
 sh1.fst.lab.snd.snd.fst, sh1.fst.lab.snd.snd.snd.fst, ()) (List.take sh1.fst.kids.length (List.drop (0 : Nat) sh1.fst.kids))) (-1 : Int) (0 : Nat)).length : Int)) &&
 decide ((sh1.snd.pickC (12 : Int)).pickV (↑(flatV (Rose.node (sh1.fst.lab.fst, sh1.fst.lab.snd.fst, sh1.fst.lab.snd.snd.fst, sh1.fst.lab.snd.snd.snd.fst, ()) (List.take
 sh1.fst.kids.length (List.drop (0 : Nat) sh1.fst.kids))) (-1 : Int) (0 : Nat)).length : Int) < (↑(flatV (Rose.node (sh1.fst.lab.fst, sh1.fst.lab.snd.fst,
 sh1.fst.lab.snd.snd.fst, sh1.fst.lab.snd.snd.snd.fst, ()) (List.take sh1.fst.kids.length (List.drop (0 : Nat) sh1.fst.kids))) (-1 : Int) (0 : Nat)).length : Int)))
 (ifSome (flatV (Rose.node (sh1.fst.lab.fst, sh1.fst.lab.snd.fst, sh1.fst.lab.snd.snd.fst, sh1.fst.lab.snd.snd.snd.fst, ()) (List.take sh1.fst.kids.length (List.drop (0 :
 Nat) sh1.fst.kids))) (-1 : Int) (0 : Nat))[(0 : Nat) + ((sh1.snd.pickC (12 : Int)).pickV (↑(flatV (Rose.node (sh1.fst.lab.fst, sh1.fst.lab.snd.fst,
 sh1.fst.lab.snd.snd.fst, sh1.fst.lab.snd.snd.snd.fst, ()) (List.take sh1.fst.kids.length (List.drop (0 : Nat) sh1.fst.kids))) (-1 : Int) (0 : Nat)).length : Int)).toNat]?
 fun z => some (V.agg [V.ref 1 0 (flatV (Rose.node (sh1.fst.lab.fst, sh1.fst.lab.snd.fst, sh1.fst.lab.snd.snd.fst, sh1.fst.lab.snd.snd.snd.fst, ()) (List.take
 sh1.fst.kids.length (List.drop (0 : Nat) sh1.fst.kids))) (-1 : Int) (0 : Nat)).length], [some (Blk.box [V.sl (Cd.int .u8) ((((sh1.snd.pickC (12 : Int)).pickC (↑(flatV
 (Rose.node (sh1.fst.lab.fst, sh1.fst.lab.snd.fst, sh1.fst.lab.snd.snd.fst, sh1.fst.lab.snd.snd.snd.fst, ()) (List.take sh1.fst.kids.length (List.drop (0 : Nat)
 sh1.fst.kids))) (-1 : Int) (0 : Nat)).length : Int)).pickC (4 : Int)).pickC (5 : Int)).l, V.i .i64 ((((sh1.snd.pickC (12 : Int)).pickC (↑(flatV (Rose.node
 (sh1.fst.lab.fst, sh1.fst.lab.snd.fst, sh1.fst.lab.snd.snd.fst, sh1.fst.lab.snd.snd.snd.fst, ()) (List.take sh1.fst.kids.length (List.drop (0 : Nat) sh1.fst.kids))) (-1 :
 Int) (0 : Nat)).length : Int)).pickC (4 : Int)).pickC (5 : Int)).a, V.i .u64 ((((sh1.snd.pickC (12 : Int)).pickC (↑(flatV (Rose.node (sh1.fst.lab.fst,
 sh1.fst.lab.snd.fst, sh1.fst.lab.snd.snd.fst, sh1.fst.lab.snd.snd.snd.fst, ()) (List.take sh1.fst.kids.length (List.drop (0 : Nat) sh1.fst.kids))) (-1 : Int) (0 :
 Nat)).length : Int)).pickC (4 : Int)).pickC (5 : Int)).s]), some (Blk.row false none NCd ((flatV (Rose.node (sh1.fst.lab.fst, sh1.fst.lab.snd.fst,
 sh1.fst.lab.snd.snd.fst, sh1.fst.lab.snd.snd.snd.fst, ()) (List.take sh1.fst.kids.length (List.drop (0 : Nat) sh1.fst.kids))) (-1 : Int) (0 : Nat)).set ((0 : Nat) +
 ((sh1.snd.pickC (12 : Int)).pickV (↑(flatV (Rose.node (sh1.fst.lab.fst, sh1.fst.lab.snd.fst, sh1.fst.lab.snd.snd.fst, sh1.fst.lab.snd.snd.snd.fst, ()) (List.take
 sh1.fst.kids.length (List.drop (0 : Nat) sh1.fst.kids))) (-1 : Int) (0 : Nat)).length : Int)).toNat) (z.fst, z.snd.fst, (((sh1.snd.pickC (12 : Int)).pickC (↑(flatV
 (Rose.node (sh1.fst.lab.fst, sh1.fst.lab.snd.fst, sh1.fst.lab.snd.snd.fst, sh1.fst.lab.snd.snd.snd.fst, ()) (List.take sh1.fst.kids.length (List.drop (0 : Nat)
 sh1.fst.kids))) (-1 : Int) (0 : Nat)).length : Int)).pickC (4 : Int)).pickV (5 : Int), z.snd.snd.snd.fst, z.snd.snd.snd.snd.fst, ())))])))) (ifB (((sh1.snd.pickC (12 :
 Int)).pickC (↑(flatV (Rose.node (sh1.fst.lab.fst, sh1.fst.lab.snd.fst, sh1.fst.lab.snd.snd.fst, sh1.fst.lab.snd.snd.snd.fst, ()) (List.take sh1.fst.kids.length (List.drop
 (0 : Nat) sh1.fst.kids))) (-1 : Int) (0 : Nat)).length : Int)).pickV (4 : Int) == (2 : Int)) (ifT (decide ((0 : Int) ≤ (sh1.snd.pickC (12 : Int)).pickV (↑(flatV
 (Rose.node (sh1.fst.lab.fst, sh1.fst.lab.snd.fst, sh1.fst.lab.snd.snd.fst, sh1.fst.lab.snd.snd.snd.fst, ()) (List.take sh1.fst.kids.length (List.drop (0 : Nat)
 sh1.fst.kids))) (-1 : Int) (0 : Nat)).length : Int)) && decide ((sh1.snd.pickC (12 : Int)).pickV (↑(flatV (Rose.node (sh1.fst.lab.fst, sh1.fst.lab.snd.fst,
 sh1.fst.lab.snd.snd.fst, sh1.fst.lab.snd.snd.snd.fst, ()) (List.take sh1.fst.kids.length (List.drop (0 : Nat) sh1.fst.kids))) (-1 : Int) (0 : Nat)).length : Int) <
 (↑(flatV (Rose.node (sh1.fst.lab.fst, sh1.fst.lab.snd.fst, sh1.fst.lab.snd.snd.fst, sh1.fst.lab.snd.snd.snd.fst, ()) (List.take sh1.fst.kids.length (List.drop (0 : Nat)
 sh1.fst.kids))) (-1 : Int) (0 : Nat)).length : Int))) (ifSome (flatV (Rose.node (sh1.fst.lab.fst, sh1.fst.lab.snd.fst, sh1.fst.lab.snd.snd.fst,
 sh1.fst.lab.snd.snd.snd.fst, ()) (List.take sh1.fst.kids.length (List.drop (0 : Nat) sh1.fst.kids))) (-1 : Int) (0 : Nat))[(0 : Nat) + ((sh1.snd.pickC (12 : Int)).pickV
 (↑(flatV (Rose.node (sh1.fst.lab.fst, sh1.fst.lab.snd.fst, sh1.fst.lab.snd.snd.fst, sh1.fst.lab.snd.snd.snd.fst, ()) (List.take sh1.fst.kids.length (List.drop (0 : Nat)
 sh1.fst.kids))) (-1 : Int) (0 : Nat)).length : Int)).toNat]? fun z => ifT (decide ((0 : Int) ≤ (sh1.snd.pickC (12 : Int)).pickV (↑(flatV (Rose.node (sh1.fst.lab.fst,
 sh1.fst.lab.snd.fst, sh1.fst.lab.snd.snd.fst, sh1.fst.lab.snd.snd.snd.fst, ()) (List.take sh1.fst.kids.length (List.drop (0 : Nat) sh1.fst.kids))) (-1 : Int) (0 :
 Nat)).length : Int)) && decide ((sh1.snd.pickC (12 : Int)).pickV (↑(flatV (Rose.node (sh1.fst.lab.fst, sh1.fst.lab.snd.fst, sh1.fst.lab.snd.snd.fst,
 sh1.fst.lab.snd.snd.snd.fst, ()) (List.take sh1.fst.kids.length (List.drop (0 : Nat) sh1.fst.kids))) (-1 : Int) (0 : Nat)).length : Int) < (↑(flatV (Rose.node
 (sh1.fst.lab.fst, sh1.fst.lab.snd.fst, sh1.fst.lab.snd.snd.fst, sh1.fst.lab.snd.snd.snd.fst, ()) (List.take sh1.fst.kids.length (List.drop (0 : Nat) sh1.fst.kids))) (-1 :
 Int) (0 : Nat)).length : Int))) (ifSome (flatV (Rose.node (sh1.fst.lab.fst, sh1.fst.lab.snd.fst, sh1.fst.lab.snd.snd.fst, sh1.fst.lab.snd.snd.snd.fst, ()) (List.take
 sh1.fst.kids.length (List.drop (0 : Nat) sh1.fst.kids))) (-1 : Int) (0 : Nat))[(0 : Nat) + ((sh1.snd.pickC (12 : Int)).pickV (↑(flatV (Rose.node (sh1.fst.lab.fst,
 sh1.fst.lab.snd.fst, sh1.fst.lab.snd.snd.fst, sh1.fst.lab.snd.snd.snd.fst, ()) (List.take sh1.fst.kids.length (List.drop (0 : Nat) sh1.fst.kids))) (-1 : Int) (0 :
 Nat)).length : Int)).toNat]? fun z_1 => some (V.agg [V.ref 1 0 (flatV (Rose.node (sh1.fst.lab.fst, sh1.fst.lab.snd.fst, sh1.fst.lab.snd.snd.fst,
 sh1.fst.lab.snd.snd.snd.fst, ()) (List.take sh1.fst.kids.length (List.drop (0 : Nat) sh1.fst.kids))) (-1 : Int) (0 : Nat)).length], [some (Blk.box [V.sl (Cd.int .u8)
 (((sh1.snd.pickC (12 : Int)).pickC (↑(flatV (Rose.node (sh1.fst.lab.fst, sh1.fst.lab.snd.fst, sh1.fst.lab.snd.snd.fst, sh1.fst.lab.snd.snd.snd.fst, ()) (List.take
 sh1.fst.kids.length (List.drop (0 : Nat) sh1.fst.kids))) (-1 : Int) (0 : Nat)).length : Int)).pickC (4 : Int)).l, V.i .i64 (((sh1.snd.pickC (12 : Int)).pickC (↑(flatV
 (Rose.node (sh1.fst.lab.fst, sh1.fst.lab.snd.fst, sh1.fst.lab.snd.snd.fst, sh1.fst.lab.snd.snd.snd.fst, ()) (List.take sh1.fst.kids.length (List.drop (0 : Nat)
 sh1.fst.kids))) (-1 : Int) (0 : Nat)).length : Int)).pickC (4 : Int)).a, V.i .u64 (((sh1.snd.pickC (12 : Int)).pickC (↑(flatV (Rose.node (sh1.fst.lab.fst,
 sh1.fst.lab.snd.fst, sh1.fst.lab.snd.snd.fst, sh1.fst.lab.snd.snd.snd.fst, ()) (List.take sh1.fst.kids.length (List.drop (0 : Nat) sh1.fst.kids))) (-1 : Int) (0 :
 Nat)).length : Int)).pickC (4 : Int)).s]), some (Blk.row false none NCd ((flatV (Rose.node (sh1.fst.lab.fst, sh1.fst.lab.snd.fst, sh1.fst.lab.snd.snd.fst,
 sh1.fst.lab.snd.snd.snd.fst, ()) (List.take sh1.fst.kids.length (List.drop (0 : Nat) sh1.fst.kids))) (-1 : Int) (0 : Nat)).set ((0 : Nat) + ((sh1.snd.pickC (12 :
 Int)).pickV (↑(flatV (Rose.node (sh1.fst.lab.fst, sh1.fst.lab.snd.fst, sh1.fst.lab.snd.snd.fst, sh1.fst.lab.snd.snd.snd.fst, ()) (List.take sh1.fst.kids.length (List.drop
 (0 : Nat) sh1.fst.kids))) (-1 : Int) (0 : Nat)).length : Int)).toNat) (z_1.fst, z_1.snd.fst, z_1.snd.snd.fst, z_1.snd.snd.snd.fst, !z.snd.snd.snd.snd.fst, ())))])))) (ifT
 (decide ((((sh1.snd.pickC (12 : Int)).pickC (↑(flatV (Rose.node (sh1.fst.lab.fst, sh1.fst.lab.snd.fst, sh1.fst.lab.snd.snd.fst, sh1.fst.lab.snd.snd.snd.fst, ())
 (List.take sh1.fst.kids.length (List.drop (0 : Nat) sh1.fst.kids))) (-1 : Int) (0 : Nat)).length : Int)).pickC (4 : Int)).good (900000000 : Int))) (ifT (decide ((0 : Int)
 ≤ (sh1.snd.pickC (12 : Int)).pickV (↑(flatV (Rose.node (sh1.fst.lab.fst, sh1.fst.lab.snd.fst, sh1.fst.lab.snd.snd.fst, sh1.fst.lab.snd.snd.snd.fst, ()) (List.take
 sh1.fst.kids.length (List.drop (0 : Nat) sh1.fst.kids))) (-1 : Int) (0 : Nat)).length : Int)) && decide ((sh1.snd.pickC (12 : Int)).pickV (↑(flatV (Rose.node
 (sh1.fst.lab.fst, sh1.fst.lab.snd.fst, sh1.fst.lab.snd.snd.fst, sh1.fst.lab.snd.snd.snd.fst, ()) (List.take sh1.fst.kids.length (List.drop (0 : Nat) sh1.fst.kids))) (-1 :
 Int) (0 : Nat)).length : Int) < (↑(flatV (Rose.node (sh1.fst.lab.fst, sh1.fst.lab.snd.fst, sh1.fst.lab.snd.snd.fst, sh1.fst.lab.snd.snd.snd.fst, ()) (List.take
 sh1.fst.kids.length (List.drop (0 : Nat) sh1.fst.kids))) (-1 : Int) (0 : Nat)).length : Int))) (ifSome (flatV (Rose.node (sh1.fst.lab.fst, sh1.fst.lab.snd.fst,
 sh1.fst.lab.snd.snd.fst, sh1.fst.lab.snd.snd.snd.fst, ()) (List.take sh1.fst.kids.length (List.drop (0 : Nat) sh1.fst.kids))) (-1 : Int) (0 : Nat))[(0 : Nat) +
 ((sh1.snd.pickC (12 : Int)).pickV (↑(flatV (Rose.node (sh1.fst.lab.fst, sh1.fst.lab.snd.fst, sh1.fst.lab.snd.snd.fst, sh1.fst.lab.snd.snd.snd.fst, ()) (List.take
 sh1.fst.kids.length (List.drop (0 : Nat) sh1.fst.kids))) (-1 : Int) (0 : Nat)).length : Int)).toNat]? fun z => some (V.agg [V.ref 1 0 (flatV (Rose.node (sh1.fst.lab.fst,
 sh1.fst.lab.snd.fst, sh1.fst.lab.snd.snd.fst, sh1.fst.lab.snd.snd.snd.fst, ()) (List.take sh1.fst.kids.length (List.drop (0 : Nat) sh1.fst.kids))) (-1 : Int) (0 :
 Nat)).length], [some (Blk.box [V.sl (Cd.int .u8) ((((sh1.snd.pickC (12 : Int)).pickC (↑(flatV (Rose.node (sh1.fst.lab.fst, sh1.fst.lab.snd.fst, sh1.fst.lab.snd.snd.fst,
 sh1.fst.lab.snd.snd.snd.fst, ()) (List.take sh1.fst.kids.length (List.drop (0 : Nat) sh1.fst.kids))) (-1 : Int) (0 : Nat)).length : Int)).pickC (4 : Int)).pickC (3 :
 Int)).l, V.i .i64 ((((sh1.snd.pickC (12 : Int)).pickC (↑(flatV (Rose.node (sh1.fst.lab.fst, sh1.fst.lab.snd.fst, sh1.fst.lab.snd.snd.fst, sh1.fst.lab.snd.snd.snd.fst, ())
 (List.take sh1.fst.kids.length (List.drop (0 : Nat) sh1.fst.kids))) (-1 : Int) (0 : Nat)).length : Int)).pickC (4 : Int)).pickC (3 : Int)).a, V.i .u64 ((((sh1.snd.pickC
 (12 : Int)).pickC (↑(flatV (Rose.node (sh1.fst.lab.fst, sh1.fst.lab.snd.fst, sh1.fst.lab.snd.snd.fst, sh1.fst.lab.snd.snd.snd.fst, ()) (List.take sh1.fst.kids.length
 (List.drop (0 : Nat) sh1.fst.kids))) (-1 : Int) (0 : Nat)).length : Int)).pickC (4 : Int)).pickC (3 : Int)).s]), some (Blk.row false none NCd ((flatV (Rose.node
 (sh1.fst.lab.fst, sh1.fst.lab.snd.fst, sh1.fst.lab.snd.snd.fst, sh1.fst.lab.snd.snd.snd.fst, ()) (List.take sh1.fst.kids.length (List.drop (0 : Nat) sh1.fst.kids))) (-1 :
 Int) (0 : Nat)).set ((0 : Nat) + ((sh1.snd.pickC (12 : Int)).pickV (↑(flatV (Rose.node (sh1.fst.lab.fst, sh1.fst.lab.snd.fst, sh1.fst.lab.snd.snd.fst,
 sh1.fst.lab.snd.snd.snd.fst, ()) (List.take sh1.fst.kids.length (List.drop (0 : Nat) sh1.fst.kids))) (-1 : Int) (0 : Nat)).length : Int)).toNat) (z.fst, z.snd.fst,
 z.snd.snd.fst, IntKind.i64.wrap ((((sh1.snd.pickC (12 : Int)).pickC (↑(flatV (Rose.node (sh1.fst.lab.fst, sh1.fst.lab.snd.fst, sh1.fst.lab.snd.snd.fst,
 sh1.fst.lab.snd.snd.snd.fst, ()) (List.take sh1.fst.kids.length (List.drop (0 : Nat) sh1.fst.kids))) (-1 : Int) (0 : Nat)).length : Int)).pickC (4 : Int)).pickV (3 : Int)
 - (1 : Int)), z.snd.snd.snd.snd.fst, ())))]))))))))) (some (V.agg [V.ref 1 0 (flatV (Rose.node (sh1.fst.lab.fst, sh1.fst.lab.snd.fst, sh1.fst.lab.snd.snd.fst,
 sh1.fst.lab.snd.snd.snd.fst, ()) (List.take sh1.fst.kids.length (List.drop (0 : Nat) sh1.fst.kids))) (-1 : Int) (0 : Nat)).length], [some (Blk.box [V.sl (Cd.int .u8)
 (sh1.snd.pickC (12 : Int)).l, V.i .i64 (sh1.snd.pickC (12 : Int)).a, V.i .u64 (sh1.snd.pickC (12 : Int)).s]), some (Blk.row false none NCd (flatV (Rose.node
 (sh1.fst.lab.fst, sh1.fst.lab.snd.fst, sh1.fst.lab.snd.snd.fst, sh1.fst.lab.snd.snd.snd.fst, ()) (List.take sh1.fst.kids.length (List.drop (0 : Nat) sh1.fst.kids))) (-1 :
 Int) (0 : Nat)))])))))))) : _) := by kernel_rfl
theorem vb_good {v : List Ty} (h : kindB v = true) : vbR (t2L v 0) ≤ 7290 := by
  obtain ⟨k1, k2, k3, k4⟩ := kf_t2 h
  have hd := vb_deep _ k3
  have hg : goodR (t2L v 0) = true := by
    unfold kindB at h
    rw [Bool.and_eq_true, k4] at h
    exact h.2
  unfold goodR at hg
  simp only [Bool.and_eq_true, decide_eq_true_eq] at hg
  have h1 : 3 ^ deepR (t2L v 0) ≤ 3 ^ 5 := Nat.pow_le_pow_right (by omega) hg.1.2
  have h2 : cntR (t2L v 0) * 3 ^ deepR (t2L v 0) ≤ 30 * 3 ^ 5 := Nat.mul_le_mul hg.2 h1
  have : 30 * 3 ^ 5 = 7290 := by decide
  omega
theorem dfL_len {v : List Ty} (h : kindB v = true) : 1 ≤ (dfL v).length ∧ (dfL v).length ≤ 40 := by
  have := df_fits h
  unfold fitsB vfitsB at this
  simp only [Bool.and_eq_true, decide_eq_true_eq] at this
  exact this.2.1
theorem ex_at {α : Type} {l : List α} {i : Nat} (h : i < l.length) : ∃ z, l[i]? = some z := ⟨_, List.getElem?_eq_getElem h⟩
theorem pick_at {α : Type} {c : Cur} {n : Int} {W : List α} (h : c.good n) (h1 : 1 ≤ W.length) : (c.pickV (W.length : Int)).toNat < W.length := by
  have := Cur.pickV_range (k := (W.length : Int)) h (by omega)
  omega
theorem pick_b {α : Type} {c : Cur} {n : Int} {W : List α} (h : c.good n) (h1 : 1 ≤ W.length) : (decide (0 ≤ c.pickV (W.length : Int)) && decide (c.pickV (W.length : Int) < (W.length : Int))) = true := by
  have := Cur.pickV_range (k := (W.length : Int)) h (by omega)
  simp only [Bool.and_eq_true, decide_eq_true_eq]
  exact this
theorem dvl_ex (v : List Ty) (l : List Int) (a s : Int) (hc : kindB v = true ∧ nmL v = true ∧ (Cur.mk l a s).good 50000000) : Ex1 (funC Try.prog (look [(53, .rd1 l2TreeG), (162, .mix (dvalG dval_f)), (51, .rd1 ofG), (85, .own coneG), (9, .rd1 defOfG), (56, .own cpickG), (163, .own (dnumG dnum_f))]) (look []) Try.f118 [.ptr 0 0, .agg [.sl TCd v]] [.box [.sl (.int .u8) l, .i .i64 a, .i .u64 s]]) (fun y : (List Nd) × Cur => ((.agg [.ref 1 0 y.1.length], [some (cB y.2), some (.row false none NCd y.1)]) : V × List (Option Blk))) (fun y => (∀ n, (Cur.mk l a s).good n → n ≤ 50000000 → y.2.good (n + 60000)) ∧ 1 ≤ y.1.length ∧ y.1.length ≤ 10000) := by
  refine Ex1.of (dvl_tree dval_f dnum_f v l a s) ?_
  obtain ⟨hk, hn, hc⟩ := hc
  obtain ⟨k1, k2, k3, k4⟩ := kf_t2 hk
  have hvb := vb_good hk
  obtain ⟨d1, d2⟩ := dfL_len hk
  obtain ⟨p1, p2⟩ := dval_pr (t2L v 0) (Cur.mk l a s) 50000000 k3 (by omega) hc (by omega)
  have hroom : (Cur.mk l a s).room (8 * vbR (t2L v 0)) := Cur.good_mono hc (by push_cast; omega)
  have p3 : ∀ n, (Cur.mk l a s).good n → n ≤ 50000000 → (dval_f (t2L v 0) (Cur.mk l a s)).2.good (n + 58320) := fun n h hm => Cur.good_mono (dval_pr (t2L v 0) (Cur.mk l a s) n k3 (by omega) h (by omega)).1 (by omega)
  have hl30 : v.length ≤ 30 := by
    have h := hk
    unfold kindB at h
    simp only [Bool.and_eq_true, decide_eq_true_eq] at h
    exact h.1.1.1.2
  repeat with_reducible refine Ex1.sh ?_
  simp only [rose_eta', nilT_eq, List.drop_zero, List.take_length, vrose_eta', Nat.zero_add]
  have g3 := p3 50000000 hc (by omega)
  generalize dval_f (t2L v 0) (Cur.mk l a s) = F at *
  obtain ⟨t, c⟩ := F
  dsimp only at *
  have hM : maxI = 9223372036854775807 := rfl
  have w1 : 1 ≤ (flatV t (-1) 0).length ∧ (flatV t (-1) 0).length ≤ 10000 := by rw [flatV_len]; refine ⟨by cases t; rw [vcR]; omega, by omega⟩
  have hvk : vcL t.kids + 1 ≤ 2000000 := by rw [vc_kids] at p2; omega
  generalize flatV t (-1) 0 = W at *
  generalize dfL v = D at *
  simp only [hk, ifB_t, cB_fold]
  repeat' first
    | with_reducible refine Ex1.B (fun h => ?_) (fun h => ?_)
    | with_reducible refine Ex1.T ?_ ?_
    | with_reducible refine Ex1.S (ex_at ?_) fun z hz => ?_
  all_goals try simp only [cB_fold]
  all_goals first
    | exact decide_eq_true ⟨by omega, by omega, by omega⟩
    | exact decide_eq_true ⟨k3, by omega, hroom⟩
    | exact decide_eq_true hvk
    | (rw [hn, decide_eq_true (by omega)]; rfl)
    | (refine decide_eq_true ?_; (repeat with_reducible apply Cur.pk); exact Cur.good_mono g3 (by omega))
    | exact pick_b (n := 60000000) (by (repeat with_reducible apply Cur.pk); exact Cur.good_mono g3 (by omega)) (by omega)
    | exact pick_at (n := 60000000) (by (repeat with_reducible apply Cur.pk); exact Cur.good_mono g3 (by omega)) (by omega)
    | exact Ex1.c _ rfl rfl ⟨fun n hn hm => by (repeat with_reducible apply Cur.pk); exact Cur.good_mono (p3 n hn hm) (by omega), by dsimp only; omega⟩
    | exact Ex1.c _ rfl (by simp only [List.length_set]) ⟨fun n hn hm => by (repeat with_reducible apply Cur.pk); exact Cur.good_mono (p3 n hn hm) (by omega), by simp only [List.length_set]; omega⟩
    | exact Ex1.c _ rfl (by simp only [List.length_set]) ⟨fun n hn hm => Cur.good_mono ((dnum_pr _ (by (repeat with_reducible apply Cur.pk); exact Cur.good_mono g3 (by omega))).1 (n + 59000) (by (repeat with_reducible apply Cur.pk); exact Cur.good_mono (p3 n hn hm) (by omega)) (by omega)) (by omega), by simp only [List.length_set]; omega⟩

theorem dvl_exf : ∃ f : (List Ty) → Cur → (List Nd) × Cur, Contract Try.prog 118 (Ent.mix (dvlG f)).F ∧ ∀ (v : List Ty) (c : Cur), (kindB v = true ∧ nmL v = true ∧ c.good 50000000) → (∀ n, c.good n → n ≤ 50000000 → (f v c).2.good (n + 60000)) ∧ 1 ≤ (f v c).1.length ∧ (f v c).1.length ≤ 10000 := by
  have ex := fun (v : List Ty) (c : Cur) (hc : kindB v = true ∧ nmL v = true ∧ c.good 50000000) => dvl_ex v c.l c.a c.s hc
  classical
  refine ⟨fun v c => if h : kindB v = true ∧ nmL v = true ∧ c.good 50000000 then (ex v c h).choose else ([], c), ?_, fun v c hc => ?_⟩
  rotate_left
  · simp only [dif_pos hc]
    exact (ex v c hc).choose_spec.2
  refine fun_contractC' (KnowsL.cons (enters_fn Try.func53 (by kernel_rfl) (by kernel_rfl)) l2Tree (KnowsL.cons (enters_fn Try.func162 (by kernel_rfl) (by kernel_rfl)) dval_con (KnowsL.cons (enters_fn Try.func51 (by kernel_rfl) (by kernel_rfl)) l4Of (KnowsL.cons (enters_fn Try.func85 (by kernel_rfl) (by kernel_rfl)) cone (KnowsL.cons (enters_fn Try.func9 (by kernel_rfl) (by kernel_rfl)) sdefOf (KnowsL.cons (enters_fn Try.func56 (by kernel_rfl) (by kernel_rfl)) cpick (KnowsL.cons (enters_fn Try.func163 (by kernel_rfl) (by kernel_rfl)) dnum_con KnowsL.nil))))))).knows (Λ := (look [])) Try.func118 (c := Try.f118.body.getD .skip) (by kernel_rfl) fun vs bs r hq hv hb => ?_
  unfold Ent.F dvlG at hq
  dsimp only at hq
  split at hq
  · rename_i v l a s
    obtain ⟨hc, hx⟩ := need_some hq
    have hc := of_decide_eq_true hc
    refine ⟨loopsOk_nil _, ((ex v (Cur.mk l a s) hc).choose_spec.1).trans ?_⟩
    rw [dif_pos hc] at hx
    exact hx
  · cases hq
noncomputable def dvl_f : (List Ty) → Cur → (List Nd) × Cur := dvl_exf.choose
theorem dvl_con : Contract Try.prog 118 (Ent.mix (dvlG dvl_f)).F := dvl_exf.choose_spec.1
theorem dvl_pr : ∀ (v : List Ty) (c : Cur), (kindB v = true ∧ nmL v = true ∧ c.good 50000000) → (∀ n, c.good n → n ≤ 50000000 → (dvl_f v c).2.good (n + 60000)) ∧ 1 ≤ (dvl_f v c).1.length ∧ (dvl_f v c).1.length ≤ 10000 := dvl_exf.choose_spec.2
def dfitG (f : (List Int) → List Nd × List Ty × Bool) : List V → List Blk → Br (V × List (Option Blk))
  | [.sl (.int .u8) l], [] => .need (decide ((Cur.mk l 0 0).good 0)) (.leaf (.tup [.agg [.ref 0 0 (f l ).1.length], .agg [.ref 1 0 (f l ).2.1.length]], [some (.row false none (.pair (.int .i64) (.pair .str (.pair (.int .i64) (.pair (.int .i64) (.pair .bool .unit))))) (f l ).1), some (.row (f l ).2.2 none (.pair (.int .i64) (.pair .str (.pair (.int .i64) (.pair .bool (.pair (.int .i64) (.pair (.int .i64) .unit)))))) (f l ).2.1)]))
  | _, _ => .no
def dgetG (f : (List Int) → List Nd × List Ty × Int × Bool) : List V → List Blk → Br (V × List (Option Blk))
  | [.sl (.int .u8) l], [] => .need (decide ((Cur.mk l 0 0).good 0)) (.leaf (.tup [.agg [.ref 0 0 (f l ).1.length], .agg [.ref 1 0 (f l ).2.1.length], .i .i64 (f l ).2.2.1], [some (.row false none (.pair (.int .i64) (.pair .str (.pair (.int .i64) (.pair (.int .i64) (.pair .bool .unit))))) (f l ).1), some (.row (f l ).2.2.2 none (.pair (.int .i64) (.pair .str (.pair (.int .i64) (.pair .bool (.pair (.int .i64) (.pair (.int .i64) .unit)))))) (f l ).2.1)]))
  | _, _ => .no
theorem dfit_tree (f : Cur → (List Ty) × Cur) (g : List Ty → Cur → (List Nd) × Cur) (h : Cur → (List Ty) × Cur) (l : List Int)  : funC Try.prog (look [(117, .own (dschG f)), (118, .mix (dvlG g)), (85, .own coneG), (108, .own (dmayG h))]) (look []) Try.f55 [.sl (.int .u8) l] [] =
  ((shr (Cur.mk l (0 : Int) (0 : Int)) fun sh3 => shr (f sh3).snd fun sh2 => shr (List.take (f sh3).fst.length (List.drop (0 : Nat) (f sh3).fst)) fun sh1 => ifT (decide
 (sh3.good (80000000 : Int))) (ifT (decide (kindB sh1 = true ∧ nmL sh1 = true ∧ sh2.good (50000000 : Int))) (ifT (decide ((g sh1 sh2).snd.good (900000000 : Int))) (ifB ((g
 sh1 sh2).snd.pickV (12 : Int) == (0 : Int)) (ifT (decide (((g sh1 sh2).snd.pickC (12 : Int)).good (70000000 : Int))) (some (V.tup [V.agg [V.ref 0 0 (g sh1
 sh2).fst.length], V.agg [V.ref 1 0 (h ((g sh1 sh2).snd.pickC (12 : Int))).fst.length]], [some (Blk.row false none NCd (g sh1 sh2).fst), some (Blk.row false none TCd (h
 ((g sh1 sh2).snd.pickC (12 : Int))).fst)]))) (some (V.tup [V.agg [V.ref 0 0 (g sh1 sh2).fst.length], V.agg [V.ref 1 0 (f sh3).fst.length]], [some (Blk.row false none NCd
 (g sh1 sh2).fst), some (Blk.row true none TCd (f sh3).fst)])))))) : _) := by kernel_rfl
theorem dfit_ex (l : List Int)  (hc : (Cur.mk l 0 0).good 0) : Ex1 (funC Try.prog (look [(117, .own (dschG dsch_f)), (118, .mix (dvlG dvl_f)), (85, .own coneG), (108, .own (dmayG dmay_f))]) (look []) Try.f55 [.sl (.int .u8) l] []) (fun y : List Nd × List Ty × Bool => ((.tup [.agg [.ref 0 0 y.1.length], .agg [.ref 1 0 y.2.1.length]], [some (.row false none NCd y.1), some (.row y.2.2 none TCd y.2.1)]) : V × List (Option Blk))) (fun y => (1 ≤ y.1.length ∧ y.1.length ≤ 10000) ∧ nmL y.2.1 = true ∧ 1 ≤ y.2.1.length ∧ y.2.1.length ≤ 30) := by
  refine Ex1.of (dfit_tree dsch_f dvl_f dmay_f l ) ?_
  have h7 := Cur.good_mono hc (show (0 : Int) ≤ 80000000 by omega)
  obtain ⟨a1, a2, a3, a4, a5⟩ := dsch_pr (Cur.mk l 0 0) h7
  have b1 := a1 0 hc (by omega)
  obtain ⟨c1, c2, c3⟩ := dvl_pr (dsch_f (Cur.mk l 0 0)).1 (dsch_f (Cur.mk l 0 0)).2 ⟨a2, a3, Cur.good_mono b1 (by omega)⟩
  have d1 := c1 _ b1 (by omega)
  obtain ⟨_, e2, e3, e4⟩ := dmay_pr ((dvl_f (dsch_f (Cur.mk l 0 0)).1 (dsch_f (Cur.mk l 0 0)).2).2.pickC 12) (Cur.pk (Cur.good_mono d1 (by omega)))
  have g1 := Cur.pickC_good (k := 12) d1
  repeat with_reducible refine Ex1.sh ?_
  try simp only [nilT_eq, List.drop_zero, List.take_length, Nat.zero_add]
  repeat' first
    | with_reducible refine Ex1.B (fun h => ?_) (fun h => ?_)
    | with_reducible refine Ex1.T ?_ ?_
  all_goals first
    | exact decide_eq_true h7
    | exact decide_eq_true ⟨a2, a3, Cur.good_mono b1 (by omega)⟩
    | exact decide_eq_true (Cur.good_mono d1 (by omega))
    | exact decide_eq_true (Cur.good_mono g1 (by omega))
    | exact Ex1.P (_, _, _) rfl rfl ⟨⟨c2, c3⟩, e2, e3, e4⟩
    | exact Ex1.P (_, _, _) rfl rfl ⟨⟨c2, c3⟩, a3, a4, a5⟩
theorem dfit_exf : ∃ f : (List Int) → List Nd × List Ty × Bool, Contract Try.prog 55 (Ent.rd1 (dfitG f)).F ∧ ∀ (l : List Int) , ((Cur.mk l 0 0).good 0) → (1 ≤ (f l ).1.length ∧ (f l ).1.length ≤ 10000) ∧ nmL (f l ).2.1 = true ∧ 1 ≤ (f l ).2.1.length ∧ (f l ).2.1.length ≤ 30 := by
  have ex := fun (l : List Int)  (hc : (Cur.mk l 0 0).good 0) => dfit_ex l  hc
  classical
  refine ⟨fun l  => if h : (Cur.mk l 0 0).good 0 then (ex l  h).choose else ([], [], false), ?_, fun l  hc => ?_⟩
  rotate_left
  · simp only [dif_pos hc]
    exact (ex l  hc).choose_spec.2
  refine fun_contractC' (KnowsL.cons (enters_fn Try.func117 (by kernel_rfl) (by kernel_rfl)) dsch_con (KnowsL.cons (enters_fn Try.func118 (by kernel_rfl) (by kernel_rfl)) dvl_con (KnowsL.cons (enters_fn Try.func85 (by kernel_rfl) (by kernel_rfl)) cone (KnowsL.cons (enters_fn Try.func108 (by kernel_rfl) (by kernel_rfl)) dmay_con KnowsL.nil)))).knows (Λ := (look [])) Try.func55 (c := Try.f55.body.getD .skip) (by kernel_rfl) fun vs bs r hq hv hb => ?_
  unfold Ent.F dfitG at hq
  dsimp only at hq
  split at hq
  · rename_i l 
    obtain ⟨hc, hx⟩ := need_some hq
    have hc := of_decide_eq_true hc
    refine ⟨loopsOk_nil _, ((ex l  hc).choose_spec.1).trans ?_⟩
    rw [dif_pos hc] at hx
    exact hx
  · cases hq
noncomputable def dfit_f : (List Int) → List Nd × List Ty × Bool := dfit_exf.choose
theorem dfit_con : Contract Try.prog 55 (Ent.rd1 (dfitG dfit_f)).F := dfit_exf.choose_spec.1
theorem dfit_pr : ∀ (l : List Int) , ((Cur.mk l 0 0).good 0) → (1 ≤ (dfit_f l ).1.length ∧ (dfit_f l ).1.length ≤ 10000) ∧ nmL (dfit_f l ).2.1 = true ∧ 1 ≤ (dfit_f l ).2.1.length ∧ (dfit_f l ).2.1.length ≤ 30 := dfit_exf.choose_spec.2
theorem dget_tree (f : List Int → List Nd × List Ty × Bool) (l : List Int)  : funC Try.prog (look [(55, .rd1 (dfitG f)), (56, .own cpickG)]) (look []) Try.f12 [.sl (.int .u8) l] [] =
  ((ifT (decide ((Cur.mk l (0 : Int) (0 : Int)).good (0 : Int))) (ifT (decide ((Cur.mk l (0 : Int) (0 : Int)).good (900000000 : Int))) (some (V.tup [V.agg [V.ref 0 0 (f
 l).fst.length], V.agg [V.ref 1 0 (f l).snd.fst.length], V.i .i64 ((Cur.mk l (0 : Int) (0 : Int)).pickV (7 : Int))], [some (Blk.row false none NCd (f l).fst), some
 (Blk.row (f l).snd.snd none TCd (f l).snd.fst)])))) : _) := by kernel_rfl
theorem dget_ex (l : List Int)  (hc : (Cur.mk l 0 0).good 0) : Ex1 (funC Try.prog (look [(55, .rd1 (dfitG dfit_f)), (56, .own cpickG)]) (look []) Try.f12 [.sl (.int .u8) l] []) (fun y : List Nd × List Ty × Int × Bool => ((.tup [.agg [.ref 0 0 y.1.length], .agg [.ref 1 0 y.2.1.length], .i .i64 y.2.2.1], [some (.row false none NCd y.1), some (.row y.2.2.2 none TCd y.2.1)]) : V × List (Option Blk))) (fun y => (1 ≤ y.1.length ∧ y.1.length ≤ 10000) ∧ nmL y.2.1 = true ∧ 1 ≤ y.2.1.length ∧ y.2.1.length ≤ 30) := by
  refine Ex1.of (dget_tree dfit_f l ) ?_
  obtain ⟨⟨a1, a2⟩, a3, a4, a5⟩ := dfit_pr l hc
  repeat with_reducible refine Ex1.sh ?_
  try simp only [nilT_eq, List.drop_zero, List.take_length, Nat.zero_add]
  refine Ex1.T (decide_eq_true hc) (Ex1.T (decide_eq_true (Cur.good_mono hc (by omega))) ?_)
  exact Ex1.P (_, _, _, _) rfl rfl ⟨⟨a1, a2⟩, a3, a4, a5⟩
theorem dget_exf : ∃ f : (List Int) → List Nd × List Ty × Int × Bool, Contract Try.prog 12 (Ent.rd1 (dgetG f)).F ∧ ∀ (l : List Int) , ((Cur.mk l 0 0).good 0) → (1 ≤ (f l ).1.length ∧ (f l ).1.length ≤ 10000) ∧ nmL (f l ).2.1 = true ∧ 1 ≤ (f l ).2.1.length ∧ (f l ).2.1.length ≤ 30 := by
  have ex := fun (l : List Int)  (hc : (Cur.mk l 0 0).good 0) => dget_ex l  hc
  classical
  refine ⟨fun l  => if h : (Cur.mk l 0 0).good 0 then (ex l  h).choose else ([], [], 0, false), ?_, fun l  hc => ?_⟩
  rotate_left
  · simp only [dif_pos hc]
    exact (ex l  hc).choose_spec.2
  refine fun_contractC' (KnowsL.cons (enters_fn Try.func55 (by kernel_rfl) (by kernel_rfl)) dfit_con (KnowsL.cons (enters_fn Try.func56 (by kernel_rfl) (by kernel_rfl)) cpick KnowsL.nil)).knows (Λ := (look [])) Try.func12 (c := Try.f12.body.getD .skip) (by kernel_rfl) fun vs bs r hq hv hb => ?_
  unfold Ent.F dgetG at hq
  dsimp only at hq
  split at hq
  · rename_i l 
    obtain ⟨hc, hx⟩ := need_some hq
    have hc := of_decide_eq_true hc
    refine ⟨loopsOk_nil _, ((ex l  hc).choose_spec.1).trans ?_⟩
    rw [dif_pos hc] at hx
    exact hx
  · cases hq
noncomputable def dget_f : (List Int) → List Nd × List Ty × Int × Bool := dget_exf.choose
theorem dget_con : Contract Try.prog 12 (Ent.rd1 (dgetG dget_f)).F := dget_exf.choose_spec.1
theorem dget_pr : ∀ (l : List Int) , ((Cur.mk l 0 0).good 0) → (1 ≤ (dget_f l ).1.length ∧ (dget_f l ).1.length ≤ 10000) ∧ nmL (dget_f l ).2.1 = true ∧ 1 ≤ (dget_f l ).2.1.length ∧ (dget_f l ).2.1.length ≤ 30 := dget_exf.choose_spec.2
/-- Types lie from a place on. -/
def laidT (l : List Ty) : Nat → List Ty → Prop
  | _, [] => True
  | s, x :: w => l[s]? = some x ∧ laidT l (s + 1) w
def offT (l : List Ty) (s e : Nat) : Prop := ∀ j : Nat, s ≤ j → upAt l e ≠ some (j : Int)
theorem laidT_app {l : List Ty} : ∀ {a : List Ty} {s : Nat} {b : List Ty}, laidT l s (a ++ b) ↔ laidT l s a ∧ laidT l (s + a.length) b
  | [], s, b => by simp [laidT]
  | x :: a, s, b => by
    rw [List.cons_append, laidT, laidT, laidT_app, List.length_cons, and_assoc, show s + 1 + a.length = s + (a.length + 1) by omega]
theorem offT_next {l : List Ty} {s p t : Nat} {ks : List (Rose Lab)} (hl : laidT l p (typesK ks s p)) (he : offT l s (p + cntL ks)) (hst : s < t) : offT l t p := by
  cases ks with
  | nil => intro j hj; rw [cntL] at he; exact he j (by omega)
  | cons z ks =>
    rw [typesK, typesL_eq, List.cons_append, laidT] at hl
    intro j hj hu
    unfold upAt at hu
    rw [hl.1, Option.map_some] at hu
    have := Option.some.inj hu
    dsimp only at this
    omega
mutual
/-- What a tree tells as types is read as the tree. -/
theorem types_kf (l : List Ty) : ∀ (z : Rose Lab), rightR z = true → ∀ (up : Int) (s : Nat), laidT l s (typesL z up s) → offT l s (s + cntR z) → kf l s = (z, s + cntR z)
  | .node x ks, hr, up, s, hl, he => by
    obtain ⟨hp, hrr⟩ := rightR_parts hr
    have hp : partsB x ks = true := hp
    have hrr : rightL x.1 ks = true := hrr
    rw [typesL, laidT] at hl
    have hs : s < l.length := by
      by_cases h : s < l.length
      · exact h
      · rw [List.getElem?_eq_none (by omega)] at hl; cases hl.1
    have hlab : labAt l s = x := by unfold labAt; rw [hl.1]
    rw [cntR] at he ⊢
    rw [kf_eq hs, hlab]
    cases hh : holdsK x.1 with
    | true =>
      have := types_kloop l ks (fun z hz => rightL_mem hrr hz) s (s + 1) (by omega) hl.2 (by rw [show s + 1 + cntL ks = s + (cntL ks + 1) by omega]; exact he) l.length [] (by omega)
      rw [cond_true, this, List.nil_append, show s + 1 + cntL ks = s + (cntL ks + 1) by omega]
    | false =>
      have h0 : ks = [] := by
        have hk := partsB_kind hp
        unfold partsB at hp
        unfold holdsK at hh
        rw [Bool.or_eq_false_iff, beq_eq_false_iff_ne, beq_eq_false_iff_ne] at hh
        split at hp
        · rw [Bool.and_eq_true] at hp; simpa using hp.2
        · split at hp
          · rw [Bool.and_eq_true] at hp; simpa using hp.2
          · omega
      subst h0
      rw [cond_false, cntL]
theorem types_kloop (l : List Ty) : ∀ (ks : List (Rose Lab)), (∀ z ∈ ks, rightR z = true) → ∀ (s p : Nat), s < p → laidT l p (typesK ks s p) → offT l s (p + cntL ks) → ∀ (n : Nat) (acc : List (Rose Lab)), l.length - p ≤ n → kloop (kf l) l s n p acc = (acc ++ ks, p + cntL ks)
  | [], _, s, p, _, _, he, n, acc, _ => by
    rw [cntL] at he ⊢
    rw [Nat.add_zero] at he ⊢
    rw [kloop_stop (he s (Nat.le_refl _)), List.append_nil]
  | z :: ks, hr, s, p, hsp, hl, he, n, acc, hn => by
    rw [typesK, laidT_app, typesL_len] at hl
    rw [cntL, ← Nat.add_assoc] at he ⊢
    have hz := hr z List.mem_cons_self
    have hk := types_kf l z hz s p hl.1 (offT_next hl.2 he hsp)
    have hu : upAt l p = some (s : Int) := by
      have := hl.1
      rw [typesL_eq, laidT] at this
      unfold upAt
      rw [this.1]; rfl
    have hpl := up_lt hu
    have hb := kf_bnd l p hpl
    obtain ⟨n, rfl⟩ : ∃ m, n = m + 1 := ⟨n - 1, by omega⟩
    rw [hk] at hb
    dsimp only at hb
    rw [kloop, if_pos hu, hk]
    dsimp only
    rw [types_kloop l ks (fun w hw => hr w (List.mem_cons_of_mem _ hw)) s (p + cntR z) (by omega) hl.2 he n _ (by omega), List.append_assoc]
    rfl
end
theorem laidT_self (v : List Ty) : ∀ (w pre : List Ty), v = pre ++ w → laidT v pre.length w
  | [], pre, h => by rw [laidT]; trivial
  | x :: w, pre, h => by
    rw [laidT]
    refine ⟨by rw [h, List.getElem?_append_right (Nat.le_refl _)]; simp, ?_⟩
    have := laidT_self v w (pre ++ [x]) (by rw [h]; simp)
    rw [List.length_append] at this
    exact this
/-- A good tree, told as types, is a good schema, and read as the tree. -/
theorem good_types {z : Rose Lab} (h : goodR z = true) : kindB (typesL z (-1) 0) = true ∧ (kf (typesL z (-1) 0) 0).1 = z := by
  have hg := h
  unfold goodR at hg
  simp only [Bool.and_eq_true, decide_eq_true_eq] at hg
  obtain ⟨⟨⟨_, hr⟩, _⟩, hc⟩ := hg
  have hlen := typesL_len z (-1) 0
  have hoff : offT (typesL z (-1) 0) 0 (0 + cntR z) := fun j _ hu => by
    have := up_lt hu
    omega
  have hk := types_kf (typesL z (-1) 0) z hr (-1) 0 (laidT_self _ _ [] rfl) hoff
  have hp := cnt_pos z
  have hu : upAt (typesL z (-1) 0) 0 = some (-1) := by rw [typesL_eq]; rfl
  unfold kindB
  rw [hk, h, hu, hlen, decide_eq_true (show 1 ≤ cntR z ∧ cntR z ≤ 30 from ⟨hp, hc⟩)]
  exact ⟨by simp, rfl⟩
theorem right_whole {y : Rose Lab} (h : rightR y = true) : rightR (wholeR y) = true := by
  obtain ⟨hp, hr⟩ := rightR_parts h
  unfold wholeR
  rw [rightR, Bool.and_eq_true]
  exact ⟨hp, hr⟩
theorem cnt_whole (y : Rose Lab) : cntR (wholeR y) = cntR y := by unfold wholeR; rw [cntR, cnt_kids]
theorem deep_whole (y : Rose Lab) : deepR (wholeR y) = deepR y := by cases y; unfold wholeR; rw [deepR, deepR]; rfl
theorem deep_kid {z y : Rose Lab} (h : y ∈ z.kids) : deepR y ≤ deepR z := by
  obtain ⟨x, ks⟩ := z
  have := deep_mem (l := ks) h
  rw [deepR]; omega
/-- A message within a good tree is good as a whole. -/
theorem good_whole {z y : Rose Lab} (h : goodR z = true) (hy : y ∈ z.kids) (h5 : y.lab.1 = 5) : goodR (wholeR y) = true := by
  unfold goodR at h
  simp only [Bool.and_eq_true, decide_eq_true_eq] at h
  obtain ⟨⟨⟨_, hr⟩, hd⟩, hc⟩ := h
  have h1 := cnt_mem hy
  have h2 := cnt_kids z
  have h3 := deep_kid hy
  have hw := right_whole (rightL_mem (rightR_parts hr).2 hy)
  unfold goodR
  rw [hw, cnt_whole, deep_whole, decide_eq_true (show deepR y ≤ 5 by omega), decide_eq_true (show cntR y ≤ 30 by omega)]
  unfold wholeR
  simp [Rose.lab]
  exact h5
theorem sf_whole (x : Rose VLab) (y : Rose Lab) : sfR x (wholeR y) = sfR x y := by
  cases x
  rw [sfR, sfR]
  rfl
theorem byR_uniq {n : Int} {u : Rose Lab} : ∀ {us : List (Rose Lab)}, us.Pairwise KR → u ∈ us → u.lab.2.2.1 = n → byR n us = u
  | [], _, h, _ => by cases h
  | w :: us, hp, h, hn => by
    rw [List.pairwise_cons] at hp
    rw [byR]
    rcases List.mem_cons.1 h with e | h
    · subst e; rw [if_pos hn]
    · have : w.lab.2.2.1 < u.lab.2.2.1 := hp.1 u h
      rw [if_neg (by omega)]
      exact byR_uniq hp.2 h hn
theorem kids_pw {z : Rose Lab} (h : rightR z = true) (h5 : z.lab.1 = 5) : z.kids.Pairwise KR := by
  obtain ⟨hp, _⟩ := rightR_parts h
  unfold partsB at hp
  rw [if_neg (by omega), if_neg (by omega), if_neg (by omega)] at hp
  split at hp
  · cases hp
  · exact ((msgL_iff _).1 hp).imp fun h => h.1
/-- The part of a schema with a number, by its place. -/
theorem kid_type {l : List Ty} {no : Int} {k : Nat} (h : kindB l = true) (hk : k < l.length) (hu : upAt l k = some ((0 : Nat) : Int)) (hn : (labAt l k).2.2.1 = no) : (kf l k).1 = gkd l no ∧ gkd l no ∈ (t2L l 0).kids := by
  obtain ⟨k1, k2, k3, k4⟩ := kf_t2 h
  have h5 := root_msg h
  have H : Ord l := by
    have hb := h
    unfold kindB at hb
    simp only [Bool.and_eq_true, decide_eq_true_eq, beq_iff_eq] at hb
    exact ord_of_parse k1 hb.1.1.2 hb.1.2
  have hB := blk_all H _ k (Nat.le_refl _) hk
  have hp : 0 < k := by
    rcases Nat.eq_zero_or_pos k with e | e
    · subst e; rw [H.zero] at hu; injection hu with hu; omega
    · exact e
  have hmem : t2L l k ∈ (t2L l 0).kids := by
    have e := t2_KK k1
    rw [e]
    exact List.mem_map.2 ⟨k, KK_mem.2 ⟨⟨by omega, hk⟩, hu⟩, rfl⟩
  have hb : gkd l no = t2L l k := byR_uniq (kids_pw k3 h5) hmem (by rw [t2_lab hk]; exact hn)
  rw [hb]
  exact ⟨hB.tree, hmem⟩
mutual
/-- What holds nothing has no parts, and kinds are as flags tell. -/
def lfR : Rose Lab → Bool
  | .node x ks => ((holdsK x.1 || ks.isEmpty) && x.1 == (bif x.2.2.2.1 then 5 else 1)) && lfL ks
def lfL : List (Rose Lab) → Bool
  | [] => true
  | z :: l => lfR z && lfL l
end
mutual
theorem types_kf2 (l : List Ty) : ∀ (z : Rose Lab), lfR z = true → ∀ (up : Int) (s : Nat), laidT l s (typesL z up s) → offT l s (s + cntR z) → kf l s = (z, s + cntR z)
  | .node x ks, hr, up, s, hl, he => by
    rw [lfR, Bool.and_eq_true, Bool.and_eq_true] at hr
    obtain ⟨⟨hp, _⟩, hrr⟩ := hr
    rw [typesL, laidT] at hl
    have hs : s < l.length := by
      by_cases h : s < l.length
      · exact h
      · rw [List.getElem?_eq_none (by omega)] at hl; cases hl.1
    have hlab : labAt l s = x := by unfold labAt; rw [hl.1]
    rw [cntR] at he ⊢
    rw [kf_eq hs, hlab]
    cases hh : holdsK x.1 with
    | true =>
      have := types_kloop2 l ks hrr s (s + 1) (by omega) hl.2 (by rw [show s + 1 + cntL ks = s + (cntL ks + 1) by omega]; exact he) l.length [] (by omega)
      rw [cond_true, this, List.nil_append, show s + 1 + cntL ks = s + (cntL ks + 1) by omega]
    | false =>
      rw [hh, Bool.false_or, List.isEmpty_iff] at hp
      subst hp
      rw [cond_false, cntL]
theorem types_kloop2 (l : List Ty) : ∀ (ks : List (Rose Lab)), lfL ks = true → ∀ (s p : Nat), s < p → laidT l p (typesK ks s p) → offT l s (p + cntL ks) → ∀ (n : Nat) (acc : List (Rose Lab)), l.length - p ≤ n → kloop (kf l) l s n p acc = (acc ++ ks, p + cntL ks)
  | [], _, s, p, _, _, he, n, acc, _ => by
    rw [cntL] at he ⊢
    rw [Nat.add_zero] at he ⊢
    rw [kloop_stop (he s (Nat.le_refl _)), List.append_nil]
  | z :: ks, hr, s, p, hsp, hl, he, n, acc, hn => by
    rw [lfL, Bool.and_eq_true] at hr
    rw [typesK, laidT_app, typesL_len] at hl
    rw [cntL, ← Nat.add_assoc] at he ⊢
    have hk := types_kf2 l z hr.1 s p hl.1 (offT_next hl.2 he hsp)
    have hu : upAt l p = some (s : Int) := by
      have := hl.1
      rw [typesL_eq, laidT] at this
      unfold upAt
      rw [this.1]; rfl
    have hpl := up_lt hu
    have hb := kf_bnd l p hpl
    obtain ⟨n, rfl⟩ : ∃ m, n = m + 1 := ⟨n - 1, by omega⟩
    rw [hk] at hb
    dsimp only at hb
    rw [kloop, if_pos hu, hk]
    dsimp only
    rw [types_kloop2 l ks hr.2 s (p + cntR z) (by omega) hl.2 he n _ (by omega), List.append_assoc]
    rfl
end
mutual
theorem types_flat : ∀ (z : Rose Lab), lfR z = true → ∀ (up : Int) (s : Nat), typesL z up s = tys (flatV (cv z) up s)
  | .node x ks, hr, up, s => by
    rw [lfR, Bool.and_eq_true, Bool.and_eq_true, beq_iff_eq] at hr
    obtain ⟨⟨_, hx⟩, hrr⟩ := hr
    have := typesK_flat ks hrr s (s + 1)
    unfold tys at this ⊢
    rw [typesL, cv, flatV, List.map_cons, ← this]
    congr 1
    unfold asT cvL
    dsimp only
    rw [← hx]
theorem typesK_flat : ∀ (ks : List (Rose Lab)), lfL ks = true → ∀ (s p : Nat), typesK ks s p = tys (flatK (cvs ks) s p)
  | [], _, s, p => by rw [typesK, cvs, flatK]; rfl
  | z :: ks, hr, s, p => by
    rw [lfL, Bool.and_eq_true] at hr
    have h1 := types_flat z hr.1 s p
    have h2 := typesK_flat ks hr.2 s (p + cntR z)
    have h3 := flatV_len (cv z) s p
    rw [vc_cv] at h3
    rw [typesK, cvs, flatK, typesL_len, h3]
    unfold tys at *
    rw [List.map_append, ← h1, ← h2]
end
theorem lfL_app : ∀ (ks : List (Rose Lab)) (z : Rose Lab), lfL ks = true → lfR z = true → lfL (ks ++ [z]) = true
  | [], z, _, h => by rw [List.nil_append, lfL, h]; rfl
  | y :: ks, z, h1, h2 => by
    rw [lfL, Bool.and_eq_true] at h1
    rw [List.cons_append, lfL, h1.1, lfL_app ks z h1.2 h2]; rfl
theorem kloop_lf {l : List Ty} {g : Nat → Rose Lab × Nat} {a : Nat} (hg : ∀ e, e < l.length → lfR (g e).1 = true) : ∀ (n e : Nat) (ks : List (Rose Lab)), lfL ks = true → lfL (kloop g l a n e ks).1 = true
  | 0, e, ks, h => h
  | n + 1, e, ks, h => by
    unfold kloop
    split
    · rename_i hu
      exact kloop_lf hg n _ _ (lfL_app _ _ h (hg e (up_lt hu)))
    · exact h
theorem kfr_lf (v : List Nd) : ∀ f a, a < v.length → lfR (kfr (tys v) f a).1 = true := by
  have hlb : ∀ a, a < v.length → ((labAt (tys v) a).1 == (bif (labAt (tys v) a).2.2.2.1 then 5 else 1)) = true := fun a ha => by
    rw [lab_tys ha]; exact beq_self_eq_true _
  intro f
  induction f with
  | zero => intro a ha; rw [kfr, lfR, hlb a ha, lfL]; simp
  | succ f ih =>
    intro a ha
    unfold kfr
    dsimp only
    have hl := hlb a ha
    cases hh : holdsK (labAt (tys v) a).1 with
    | true =>
      rw [cond_true, lfR, hh, hl, kloop_lf (fun e he => ih e (by rw [tys_len] at he; exact he)) _ _ _ (by rw [lfL])]; rfl
    | false => rw [cond_false, lfR, hh, hl, lfL]; rfl
/-- A part that is got fits its type told as a schema. -/
theorem part_fits {v : List Nd} {l : List Ty} {no : Int} {k : Nat} (hs : sgetB v l no = true) (hk : k < l.length) (hu : upAt l k = some ((0 : Nat) : Int)) (hn : (labAt l k).2.2.1 = no) : subB l k = true ∧ fitsB (sgetL v no) (subL l k) = true := by
  have hg := hs
  rw [← (get_eq v l no).1] at hg
  have hgL := (get_eq v l no).2 hg
  unfold getB at hg
  simp only [Bool.and_eq_true, decide_eq_true_eq, beq_iff_eq] at hg
  obtain ⟨hf, hh, h5, hA⟩ := hg
  obtain ⟨hkb, h0, h40, H, _⟩ := fits_ord hf
  obtain ⟨k1, k2, k3, k4⟩ := kf_t2 hkb
  obtain ⟨e1, e2⟩ := kid_type hkb hk hu hn
  have hgood : goodR (t2L l 0) = true := by
    have h := hkb
    unfold kindB at h
    rw [Bool.and_eq_true, k4] at h
    exact h.2
  have hgw := good_whole hgood e2 h5
  have hsub : subZ l (k : Int) = wholeR (gkd l no) := by unfold subZ; rw [Int.toNat_natCast, e1]
  have hlab5 : (labAt l k).1 = 5 := by
    have : (kf l k).1.lab = labAt l k := by rw [kf_eq hk]; rfl
    rw [← this, e1]; exact h5
  refine ⟨?_, ?_⟩
  · unfold subB
    rw [hkb, hsub, hgw, Int.toNat_natCast, hlab5, decide_eq_true (show (0 : Int) ≤ (k : Int) ∧ (k : Int) ≤ (l.length : Int) - 1 by omega)]
    rfl
  obtain ⟨g1, g2⟩ := good_types hgw
  obtain ⟨a, ha, ea, hua, hna⟩ := gn_at hA
  obtain ⟨_, hsf, _, _, hry, hmem⟩ := kid_fits hf ha hua hna
  have hlab := kf_lab ha
  obtain ⟨q1, _⟩ := byV_mem (kids_rise hf) hmem (show (cv (kf (tys v) a).1).lab.2.2.1 = no by rw [hlab]; exact hna)
  have hlf : lfR (kf (tys v) a).1 = true := kfr_lf v (tys v).length a ha
  have hcn := kf_cnt (l := tys v) (a := a) (by rw [tys_len]; exact ha)
  have hbn := kf_bnd (tys v) a (by rw [tys_len]; exact ha)
  rw [tys_len] at hbn
  have hL : subL l (k : Int) = typesL (wholeR (gkd l no)) (-1) 0 := by unfold subL; rw [hsub]
  unfold sgetL
  rw [q1, hL]
  generalize (kf (tys v) a).1 = Z at *
  obtain ⟨x, ks⟩ := Z
  let Z0 : Rose Lab := .node (x.1, x.2.1, 0, x.2.2.2.1, x.2.2.2.2.1, ()) ks
  have hflat : flatO (cv (.node x ks)) = flatV (cv Z0) (-1) 0 := by
    show flatO (cv (.node x ks)) = flatV (cv (.node (x.1, x.2.1, 0, x.2.2.2.1, x.2.2.2.2.1, ()) ks)) (-1) 0
    unfold flatO
    rw [cv, cv]; rfl
  have hlf0 : lfR Z0 = true := by
    show lfR (.node (x.1, x.2.1, 0, x.2.2.2.1, x.2.2.2.2.1, ()) ks) = true
    rw [lfR] at hlf ⊢; exact hlf
  have hc0 : cntR Z0 = cntR (.node x ks) := by
    show cntR (.node (x.1, x.2.1, 0, x.2.2.2.1, x.2.2.2.2.1, ()) ks) = _
    rw [cntR, cntR]
  have hsf0 : sfR (cv Z0) (wholeR (gkd l no)) = true := by
    rw [sf_whole, ← hsf]
    show sfR (cv (.node (x.1, x.2.1, 0, x.2.2.2.1, x.2.2.2.2.1, ()) ks)) _ = _
    rw [cv, cv, sfR, sfR]; rfl
  rw [hflat]
  have hlen : (flatV (cv Z0) (-1) 0).length = cntR Z0 := by rw [flatV_len, vc_cv]
  have htys := types_flat Z0 hlf0 (-1) 0
  have hp := cnt_pos Z0
  have hoff : offT (tys (flatV (cv Z0) (-1) 0)) 0 (0 + cntR Z0) := fun j _ hj => by
    have := up_lt hj
    rw [tys_len, hlen] at this
    omega
  have hkf := types_kf2 (tys (flatV (cv Z0) (-1) 0)) Z0 hlf0 (-1) 0 (by rw [htys]; exact laidT_self _ _ [] rfl) hoff
  have hv := fits_all (flatV (cv Z0) (-1) 0) _ (wholeR (gkd l no)) (Nat.le_refl _) (right_whole hry) 0 (by rw [hlen]; omega)
  rw [hkf] at hv
  dsimp only at hv
  rw [hsf0, if_pos rfl, Nat.zero_add] at hv
  have hz : flatV (cv Z0) (-1) 0 = ((x.2.2.2.2.1, x.2.1, 0, -1, x.2.2.2.1, ()) : Nd) :: flatK (cvs ks) 0 1 := by
    show flatV (cv (.node (x.1, x.2.1, 0, x.2.2.2.1, x.2.2.2.2.1, ()) ks)) (-1) 0 = _
    rw [cv, flatV]; rfl
  have hu0 : upN (flatV (cv Z0) (-1) 0) 0 = some (-1) := by rw [hz]; rfl
  have hn0 : noN (flatV (cv Z0) (-1) 0) 0 = some 0 := by rw [hz]; rfl
  unfold fitsB vfitsB
  rw [g1, g2, hv, hu0, hn0, hlen, decide_eq_true (show 1 ≤ cntR Z0 ∧ cntR Z0 ≤ 40 by omega)]
  simp
def sameVG : List V → List Blk → Br (V × List (Option Blk))
  | [.agg [.sl (.pair (.int .i64) (.pair .str (.pair (.int .i64) (.pair (.int .i64) (.pair .bool .unit))))) a], .agg [.sl (.pair (.int .i64) (.pair .str (.pair (.int .i64) (.pair (.int .i64) (.pair .bool .unit))))) b]], [] => .leaf (.b (decide (eqT (List Nd) a b)), [])
  | _, _ => .no
def sameVE : LoopEnt := ⟨31, [2,3,15,16], [], [4], fun
  | ([.ptr 0 0, .ptr 1 0, .i .i64 k, .i .i64 i], [some (.box [.sl (.pair (.int .i64) (.pair .str (.pair (.int .i64) (.pair (.int .i64) (.pair .bool .unit))))) a]), some (.box [.sl (.pair (.int .i64) (.pair .str (.pair (.int .i64) (.pair (.int .i64) (.pair .bool .unit))))) b])]) => .need (decide (0 ≤ i ∧ i.toNat ≤ a.length ∧ k = a.length ∧ a.length = b.length ∧ a.length ≤ maxI)) (.br (decide (eqT (List Nd) (a.drop i.toNat) (b.drop i.toNat))) (.leaf (.exit 0, ([], []))) (.leaf (.ret, ([.b false], []))))
  | _ => .no⟩
theorem sameV_round (a b : List Nd) (k i : Int) : roundK Try.prog (look []) (look [(4, sameVE)]) 0 (body Try.f10 0) sameVE ([.ptr 0 0, .ptr 1 0, .i .i64 k, .i .i64 i], [some (.box [.sl NCd a]), some (.box [.sl NCd b])]) =
  ((ifB (decide (i < k)) (ifT (decide ((0 : Int) ≤ i) && decide (i < (↑a.length : Int))) (ifSome a[i.toNat]? fun z => ifT (decide ((0 : Int) ≤ i) && decide (i < (↑b.length :
 Int))) (ifSome b[i.toNat]? fun z_1 => ifB (!(z.fst == z_1.fst && (z.snd.fst == z_1.snd.fst && (z.snd.snd.fst == z_1.snd.snd.fst && (z.snd.snd.snd.fst ==
 z_1.snd.snd.snd.fst && (z.snd.snd.snd.snd.fst == z_1.snd.snd.snd.snd.fst && true)))))) (some (Ex.ret, [V.b false], [])) (some (Ex.normal, [V.ptr 0 0, V.ptr 1 0, V.i .i64
 k, V.i .i64 (IntKind.i64.wrap (i + (1 : Int)))], [some (Blk.box [V.sl NCd a]), some (Blk.box [V.sl NCd b])]))))) (some (Ex.exit 0, [], []))) : _) := by kernel_rfl
theorem nd_eq (z y : Nd) : (z.1 == y.1 && (z.2.1 == y.2.1 && (z.2.2.1 == y.2.2.1 && (z.2.2.2.1 == y.2.2.2.1 && (z.2.2.2.2.1 == y.2.2.2.2.1 && true))))) = decide (eqT Nd z y) := by
  obtain ⟨a1, a2, a3, a4, a5, ⟨⟩⟩ := z
  obtain ⟨b1, b2, b3, b4, b5, ⟨⟩⟩ := y
  rw [Bool.eq_iff_iff]
  simp only [Bool.and_eq_true, beq_iff_eq, decide_eq_true_eq, eqT, Prod.mk.injEq, and_true]
theorem sameV_loop (a b : List Nd) (hab : a.length = b.length) (hm : a.length ≤ maxI) : ∀ (j i : Nat), i + j = a.length → ∀ ex d, (Br.br (decide (eqT (List Nd) (a.drop i) (b.drop i))) (.leaf (.exit 0, ([], []))) (.leaf (.ret, ([.b false], []))) : Br (Ex × Dt)).run = some (ex, d) →
    Runs Try.prog (look []) (look [(4, sameVE)]) 0 (body Try.f10 0) sameVE ([.ptr 0 0, .ptr 1 0, .i .i64 (a.length : Int), .i .i64 (i : Int)], [some (.box [.sl NCd a]), some (.box [.sl NCd b])]) ex d
  | 0, i, hi, ex, d, h => by
    have hr := sameV_round a b a.length i
    rw [ifB_false (decide_eq_false (by omega))] at hr
    rw [List.drop_eq_nil_of_le (by omega), List.drop_eq_nil_of_le (by omega), decide_eq_true rfl] at h
    have h8 := leaf_some h
    obtain ⟨rfl, rfl⟩ := Prod.mk.inj h8
    exact .stop _ _ _ hr (by simp)
  | j + 1, i, hi, ex, d, h => by
    have hl : i < a.length := by omega
    have hl2 : i < b.length := by omega
    have hM : maxI = 9223372036854775807 := rfl
    have hr := sameV_round a b a.length i
    rw [ifB_true (decide_eq_true (by omega)), ifT_true (by simp only [Bool.and_eq_true, decide_eq_true_eq]; omega), Int.toNat_natCast, List.getElem?_eq_getElem hl, ifSome_s, ifT_true (by simp only [Bool.and_eq_true, decide_eq_true_eq]; omega), List.getElem?_eq_getElem hl2, ifSome_s, wrap_succ (n := i) (by omega), nd_eq] at hr
    rw [List.drop_eq_getElem_cons hl, List.drop_eq_getElem_cons hl2, br_run] at h
    by_cases q : a[i] = b[i]
    · rw [decide_eq_true (show eqT Nd a[i] b[i] from q), Bool.not_true, ifB_f] at hr
      refine .step _ _ _ _ hr (sameV_loop a b hab hm j (i + 1) (by omega) ex d ?_)
      rw [br_run, ← h]
      by_cases q2 : a.drop (i + 1) = b.drop (i + 1)
      · rw [if_pos q2, if_pos (show eqT (List Nd) _ _ by unfold eqT; rw [q, q2])]
      · rw [if_neg q2, if_neg (fun hh => q2 (List.cons.inj hh).2)]
    · rw [decide_eq_false (show ¬ eqT Nd a[i] b[i] from q), Bool.not_false, ifB_t] at hr
      rw [if_neg (fun hh => q (List.cons.inj hh).1)] at h
      have h8 := leaf_some h
      obtain ⟨rfl, rfl⟩ := Prod.mk.inj h8
      exact .stop _ _ _ hr (by simp)
theorem sameV_ok : LoopsOk Try.prog (look []) (look [(4, sameVE)]) 0 (Try.f10.body.getD .skip) := by
  refine loopsOk_one (a := body Try.f10 0) (by kernel_rfl) fun d ex d' h => ?_
  unfold sameVE at h
  dsimp only at h
  split at h
  · rename_i k i a b
    obtain ⟨hc, hx⟩ := need_some h
    clear h
    obtain ⟨h0, h1, rfl, h3, h4⟩ := of_decide_eq_true hc
    obtain ⟨i, rfl⟩ := Int.eq_ofNat_of_zero_le h0
    simp only [Int.toNat_natCast] at h1 hx
    exact sameV_loop a b h3 h4 (a.length - i) i (by omega) ex d' hx
  · cases h
theorem sameV : Contract Try.prog 10 (Ent.rd1 sameVG).F := by
  refine fun_contract' KnowsL.nil.knows (Λ := (look [(4, sameVE)])) Try.func10 (c := Try.f10.body.getD .skip) (by kernel_rfl) fun vs bs r hq hv hb => ?_
  unfold Ent.F sameVG at hq
  dsimp only at hq
  split at hq
  · rename_i a b
    have hm : a.length ≤ maxI := (hv (.agg [.sl NCd a]) (by simp) (.sl NCd a) (by simp)).1
    refine ⟨sameV_ok, Eq.trans ?_ hq⟩
    have e : funK Try.prog (look []) (look [(4, sameVE)]) Try.f10 [.agg [.sl NCd a], .agg [.sl NCd b]] [] = ((ifB ((↑a.length : Int) != (↑b.length : Int)) (some (V.b false, [])) (ifT (decide ((0 : Int) ≤ (0 : Int) ∧ (0 : Nat) ≤ a.length ∧ (↑a.length : Int) = (↑a.length : Int) ∧
 a.length = b.length ∧ a.length ≤ maxI)) (ifB (decide (eqT (List Nd) (List.drop (0 : Nat) a) (List.drop (0 : Nat) b))) (some (V.b true, [])) (some (V.b false, []))))) : _) := by kernel_rfl
    rw [e]
    clear e
    by_cases h : a.length = b.length
    · rw [ifB_false (by rw [h]; simp), ifT_true (decide_eq_true ⟨by omega, by omega, rfl, h, hm⟩), List.drop_zero, List.drop_zero]
      cases decide (eqT (List Nd) a b) <;> rfl
    · rw [ifB_true (by simpa using fun hh => h (by omega)), decide_eq_false (fun hh : eqT (List Nd) a b => h (by rw [show a = b from hh]))]
      rfl
  · cases hq
def hitT (t : List Ty) (no : Int) (k : Nat) : Bool := (decide (upAt t k = some 0) && (labAt t k).2.2.1 == no)
def hitsOK (t : List Ty) (p : List Nd) (no : Int) : Bool := (List.range t.length).all fun k => !hitT t no k || (subB t (k : Int) && fitsB p (subL t (k : Int)))
def ldE : LoopEnt := ⟨120, [11,12,13,91,92,93], [], [4], fun
  | ([.ptr 0 0, .i .i64 no, .ptr 1 0, .ref 2 0 n, .i .i64 k, .i .i64 i], [some (.box [.ref 2 0 n2]), some (.box [.ref 3 0 m]), some (.row ro none (.pair (.int .i64) (.pair .str (.pair (.int .i64) (.pair .bool (.pair (.int .i64) (.pair (.int .i64) .unit)))))) t), some (.row false none (.pair (.int .i64) (.pair .str (.pair (.int .i64) (.pair (.int .i64) (.pair .bool .unit))))) p)]) => .need (decide (0 ≤ i ∧ i.toNat ≤ t.length ∧ k = t.length ∧ n = t.length ∧ n2 = t.length ∧ m = p.length ∧ t.length ≤ 4000000000) && nmL t && hitsOK t p no) (.br (((List.range t.length).drop i.toNat).any (hitT t no)) (.leaf (.ret, ([.b true], []))) (.leaf (.exit 0, ([], []))))
  | _ => .no⟩
theorem ld_round (f : List Int → List Ty) (g : List Int → List Nd × List Ty × Int × Bool) (no : Int) (n n2 m : Nat) (k i : Int) (ro : Bool) (t : List Ty) (p : List Nd) : roundK Try.prog (look [(7, .rd1 (ddefG f)), (8, .rd1 defOfG), (9, .rd1 defOfG), (10, .rd1 sameVG), (11, .rd1 fitsG), (12, .rd1 (dgetG g)), (13, .rd1 getG), (14, .rd1 sgetG), (15, .rd1 subG)]) (look [(18, ldE)]) 0 (body Try.f3 0) ldE ([.ptr 0 0, .i .i64 no, .ptr 1 0, .ref 2 0 n, .i .i64 k, .i .i64 i], [some (.box [.ref 2 0 n2]), some (.box [.ref 3 0 m]), some (.row ro none TCd t), some (.row false none NCd p)]) =
  ((shr (List.take n2 (List.drop (0 : Nat) t)) fun sh1 => ifB (decide (i < k)) (ifT (decide ((0 : Int) ≤ i) && decide (i < (↑n : Int))) (ifSome t[(0 : Nat) + i.toNat]? fun z
 => ifB (z.snd.snd.snd.snd.fst == (0 : Int)) (ifB (z.snd.snd.fst == no) (ifT (decide (sh1.length ≤ (4000000000 : Nat)) && nmL sh1) (ifB (subB sh1 i) (ifT (decide
 ((List.take (subL sh1 i).length (List.drop (0 : Nat) (subL sh1 i))).length ≤ (4000000000 : Nat)) && nmL (List.take (subL sh1 i).length (List.drop (0 : Nat) (subL sh1
 i)))) (some (Ex.ret, [V.b (fitsB (List.take m (List.drop (0 : Nat) p)) (List.take (subL sh1 i).length (List.drop (0 : Nat) (subL sh1 i))))], []))) (some (Ex.ret, [V.b
 false], [])))) (some (Ex.normal, [V.ptr 0 0, V.i .i64 no, V.ptr 1 0, V.ref 2 0 n, V.i .i64 k, V.i .i64 (IntKind.i64.wrap (i + (1 : Int)))], [some (Blk.box [V.ref 2 0
 n2]), some (Blk.box [V.ref 3 0 m]), some (Blk.row ro none TCd t), some (Blk.row false none NCd p)]))) (some (Ex.normal, [V.ptr 0 0, V.i .i64 no, V.ptr 1 0, V.ref 2 0 n,
 V.i .i64 k, V.i .i64 (IntKind.i64.wrap (i + (1 : Int)))], [some (Blk.box [V.ref 2 0 n2]), some (Blk.box [V.ref 3 0 m]), some (Blk.row ro none TCd t), some (Blk.row false
 none NCd p)])))) (some (Ex.exit 0, [], []))) : _) := by kernel_rfl
theorem ld_tree (f : List Int → List Ty) (g : List Int → List Nd × List Ty × Int × Bool) (l r : List Int) : funK Try.prog (look [(7, .rd1 (ddefG f)), (8, .rd1 defOfG), (9, .rd1 defOfG), (10, .rd1 sameVG), (11, .rd1 fitsG), (12, .rd1 (dgetG g)), (13, .rd1 getG), (14, .rd1 sgetG), (15, .rd1 subG)]) (look [(18, ldE)]) Try.f3 [.sl (.int .u8) l, .sl (.int .u8) r] [] =
  ((shr (Cur.mk r (0 : Int) (0 : Int)) fun sh6 => shr (g r).snd.snd fun sh5 => shr (List.take (f l).length (List.drop (0 : Nat) (f l))) fun sh4 => shr (List.take (g
 r).fst.length (List.drop (0 : Nat) (g r).fst)) fun sh3 => shr (g r).snd.fst fun sh2 => shr (getL sh3 (List.take sh2.length (List.drop (0 : Nat) sh2)) sh5.fst) fun sh1 =>
 ifB (decide (IntKind.i64.wrap ((↑l.length : Int) + (↑r.length : Int)) > (1048576 : Int))) (some (V.b true, [])) (ifT (decide ((Cur.mk l (0 : Int) (0 : Int)).good (0 :
 Int))) (ifT (decide (sh4.length ≤ (4000000000 : Nat)) && nmL sh4) (ifB (kindB sh4) (ifT (decide (sh4.length ≤ (4000000000 : Nat)) && nmL sh4) (ifB (kindB sh4) (ifB
 (!decide (eqT (List Nd) (List.take (dfL sh4).length (List.drop (0 : Nat) (dfL sh4))) (List.take (dfL sh4).length (List.drop (0 : Nat) (dfL sh4))))) (some (V.b false, []))
 (ifT (decide (sh4.length ≤ (4000000000 : Nat)) && nmL sh4) (ifB (!fitsB (List.take (dfL sh4).length (List.drop (0 : Nat) (dfL sh4))) sh4) (some (V.b false, [])) (ifT
 (decide (sh6.good (0 : Int))) (ifT (decide ((List.take sh2.length (List.drop (0 : Nat) sh2)).length ≤ (4000000000 : Nat)) && nmL (List.take sh2.length (List.drop (0 :
 Nat) sh2)) && decide (sh3.length ≤ (4000000000 : Nat))) (ifB (getB sh3 (List.take sh2.length (List.drop (0 : Nat) sh2)) sh5.fst) (ifT (decide ((List.take sh2.length
 (List.drop (0 : Nat) sh2)).length ≤ (4000000000 : Nat)) && nmL (List.take sh2.length (List.drop (0 : Nat) sh2)) && decide (sh3.length ≤ (4000000000 : Nat))) (ifB (sgetB
 sh3 (List.take sh2.length (List.drop (0 : Nat) sh2)) sh5.fst) (ifB (!decide (eqT (List Nd) (List.take sh1.length (List.drop (0 : Nat) sh1)) (List.take (sgetL sh3
 sh5.fst).length (List.drop (0 : Nat) (sgetL sh3 sh5.fst))))) (some (V.b false, [])) (ifT (decide ((0 : Int) ≤ (0 : Int) ∧ (0 : Nat) ≤ sh2.length ∧ (↑sh2.length : Int) =
 (↑sh2.length : Int) ∧ sh2.length = sh2.length ∧ sh2.length = sh2.length ∧ sh1.length = sh1.length ∧ sh2.length ≤ (4000000000 : Nat)) && nmL sh2 && hitsOK sh2 sh1 sh5.fst)
 (ifB ((List.drop (0 : Nat) (List.range sh2.length)).any (hitT sh2 sh5.fst)) (some (V.b true, [])) (some (V.b false, []))))) (some (V.b false, [])))) (ifT (decide
 ((List.take sh2.length (List.drop (0 : Nat) sh2)).length ≤ (4000000000 : Nat)) && nmL (List.take sh2.length (List.drop (0 : Nat) sh2)) && decide (sh3.length ≤ (4000000000
 : Nat))) (ifB (sgetB sh3 (List.take sh2.length (List.drop (0 : Nat) sh2)) sh5.fst) (some (V.b false, [])) (some (V.b true, [])))))))))) (some (V.b false, [])))) (ifT
 (decide (sh4.length ≤ (4000000000 : Nat)) && nmL sh4) (ifB (kindB sh4) (some (V.b false, [])) (ifT (decide (sh6.good (0 : Int))) (ifT (decide ((List.take sh2.length
 (List.drop (0 : Nat) sh2)).length ≤ (4000000000 : Nat)) && nmL (List.take sh2.length (List.drop (0 : Nat) sh2)) && decide (sh3.length ≤ (4000000000 : Nat))) (ifB (getB
 sh3 (List.take sh2.length (List.drop (0 : Nat) sh2)) sh5.fst) (ifT (decide ((List.take sh2.length (List.drop (0 : Nat) sh2)).length ≤ (4000000000 : Nat)) && nmL
 (List.take sh2.length (List.drop (0 : Nat) sh2)) && decide (sh3.length ≤ (4000000000 : Nat))) (ifB (sgetB sh3 (List.take sh2.length (List.drop (0 : Nat) sh2)) sh5.fst)
 (ifB (!decide (eqT (List Nd) (List.take sh1.length (List.drop (0 : Nat) sh1)) (List.take (sgetL sh3 sh5.fst).length (List.drop (0 : Nat) (sgetL sh3 sh5.fst))))) (some
 (V.b false, [])) (ifT (decide ((0 : Int) ≤ (0 : Int) ∧ (0 : Nat) ≤ sh2.length ∧ (↑sh2.length : Int) = (↑sh2.length : Int) ∧ sh2.length = sh2.length ∧ sh2.length =
 sh2.length ∧ sh1.length = sh1.length ∧ sh2.length ≤ (4000000000 : Nat)) && nmL sh2 && hitsOK sh2 sh1 sh5.fst) (ifB ((List.drop (0 : Nat) (List.range sh2.length)).any
 (hitT sh2 sh5.fst)) (some (V.b true, [])) (some (V.b false, []))))) (some (V.b false, [])))) (ifT (decide ((List.take sh2.length (List.drop (0 : Nat) sh2)).length ≤
 (4000000000 : Nat)) && nmL (List.take sh2.length (List.drop (0 : Nat) sh2)) && decide (sh3.length ≤ (4000000000 : Nat))) (ifB (sgetB sh3 (List.take sh2.length (List.drop
 (0 : Nat) sh2)) sh5.fst) (some (V.b false, [])) (some (V.b true, []))))))))))))) : _) := by kernel_rfl
mutual
theorem nam_right : ∀ (z : Rose Lab), rightR z = true → z.lab.2.1.length ≤ 10 → namR z = true
  | .node x ks, h, hl => by
    have hM : maxI = 9223372036854775807 := rfl
    rw [rightR, Bool.and_eq_true] at h
    have hl : x.2.1.length ≤ 10 := hl
    rw [namR, nam_rightL x.1 ks h.2, decide_eq_true (by omega)]; rfl
theorem nam_rightL (k : Int) : ∀ (l : List (Rose Lab)), rightL k l = true → namL l = true
  | [], _ => rfl
  | z :: l, h => by
    rw [rightL, Bool.and_eq_true, Bool.and_eq_true] at h
    have hz : z.lab.2.1.length ≤ 10 := by
      have hp := h.1.1
      unfold partB at hp
      split at hp
      · simp only [nameB, Bool.and_eq_true, decide_eq_true_eq] at hp
        exact hp.1.2.2
      · simp only [Bool.and_eq_true, beq_iff_eq] at hp
        rw [hp.1.1]; simp
    rw [namL, nam_right z h.1.2 hz, nam_rightL k l h.2]; rfl
end
theorem hit_at {t : List Ty} {no : Int} {k : Nat} (h : hitT t no k = true) : upAt t k = some ((0 : Nat) : Int) ∧ (labAt t k).2.2.1 = no := by
  unfold hitT at h
  simp only [Bool.and_eq_true, decide_eq_true_eq, beq_iff_eq] at h
  exact ⟨h.1, h.2⟩
theorem hits_ok {v : List Nd} {t : List Ty} {no : Int} (hs : sgetB v t no = true) : hitsOK t (sgetL v no) no = true ∧ (List.range t.length).any (hitT t no) = true := by
  refine ⟨?_, ?_⟩
  · unfold hitsOK
    rw [List.all_eq_true]
    intro k hk
    have hk : k < t.length := List.mem_range.1 hk
    cases e : hitT t no k with
    | false => rfl
    | true =>
      obtain ⟨h1, h2⟩ := hit_at e
      obtain ⟨h3, h4⟩ := part_fits hs hk h1 h2
      rw [h3, h4]; rfl
  · have h := hs
    unfold sgetB at h
    simp only [Bool.and_eq_true] at h
    obtain ⟨hf, hn, _, _⟩ := h
    unfold fitsB at hf
    rw [Bool.and_eq_true] at hf
    obtain ⟨k1, k2, k3, k4⟩ := kf_t2 hf.1
    rw [t2_KK k1] at hn
    unfold hasNo at hn
    rw [List.any_eq_true] at hn
    obtain ⟨z, hz, hz2⟩ := hn
    obtain ⟨c, hc, rfl⟩ := List.mem_map.1 hz
    obtain ⟨⟨c1, c2⟩, c3⟩ := KK_mem.1 hc
    rw [t2_lab c2] at hz2
    rw [List.any_eq_true]
    refine ⟨c, List.mem_range.2 c2, ?_⟩
    unfold hitT
    rw [hz2, decide_eq_true (show upAt t c = some 0 from c3)]; rfl
theorem nm_tyL {l : List Ty} {k : Int} (h : subB l k = true) : nmL (subL l k) = true ∧ (subL l k).length ≤ 4000000000 := by
  unfold subB at h
  simp only [Bool.and_eq_true] at h
  have hg := h.2.2.2
  unfold subL
  unfold goodR at hg
  simp only [Bool.and_eq_true, decide_eq_true_eq] at hg
  exact ⟨nm_typesL _ _ _ (nam_right _ hg.1.1.2 (by have := hg.1.1.1.1.1.2; simp only [beq_iff_eq] at this; rw [this]; simp)), by rw [typesL_len]; omega⟩
theorem ld_loop (f : List Int → List Ty) (g : List Int → List Nd × List Ty × Int × Bool) (no : Int) (ro : Bool) (t : List Ty) (p : List Nd) (hl : t.length ≤ 4000000000) (hn : nmL t = true) (hh : hitsOK t p no = true) : ∀ (j i : Nat), i + j = t.length → ∀ ex d, (Br.br (((List.range t.length).drop i).any (hitT t no)) (.leaf (.ret, ([.b true], []))) (.leaf (.exit 0, ([], []))) : Br (Ex × Dt)).run = some (ex, d) →
    Runs Try.prog (look [(7, .rd1 (ddefG f)), (8, .rd1 defOfG), (9, .rd1 defOfG), (10, .rd1 sameVG), (11, .rd1 fitsG), (12, .rd1 (dgetG g)), (13, .rd1 getG), (14, .rd1 sgetG), (15, .rd1 subG)]) (look [(18, ldE)]) 0 (body Try.f3 0) ldE ([.ptr 0 0, .i .i64 no, .ptr 1 0, .ref 2 0 t.length, .i .i64 (t.length : Int), .i .i64 (i : Int)], [some (.box [.ref 2 0 t.length]), some (.box [.ref 3 0 p.length]), some (.row ro none TCd t), some (.row false none NCd p)]) ex d
  | 0, i, hi, ex, d, h => by
    have hr := ld_round f g no t.length t.length p.length t.length i ro t p
    dsimp only [shr] at hr
    rw [ifB_false (decide_eq_false (by omega))] at hr
    rw [List.drop_eq_nil_of_le (by simp; omega)] at h
    have h8 := leaf_some (show (Br.leaf (.exit 0, ([], [])) : Br (Ex × Dt)).run = some (ex, d) from h)
    obtain ⟨rfl, rfl⟩ := Prod.mk.inj h8
    exact .stop _ _ _ hr (by simp)
  | j + 1, i, hi, ex, d, h => by
    have hlt : i < t.length := by omega
    have hM : maxI = 9223372036854775807 := rfl
    have hr := ld_round f g no t.length t.length p.length t.length i ro t p
    dsimp only [shr] at hr
    simp only [List.drop_zero, List.take_length, Nat.zero_add, Int.toNat_natCast] at hr
    rw [ifB_true (decide_eq_true (by omega)), ifT_true (by simp only [Bool.and_eq_true, decide_eq_true_eq]; omega), List.getElem?_eq_getElem hlt, ifSome_s, wrap_succ (n := i) (by omega)] at hr
    have hd : (List.range t.length).drop i = i :: (List.range t.length).drop (i + 1) := by
      rw [List.drop_eq_getElem_cons (by simpa using hlt)]
      simp
    rw [hd, List.any_cons] at h
    have ht : hitT t no i = (t[i].2.2.2.2.1 == 0 && t[i].2.2.1 == no) := by
      unfold hitT upAt labAt
      rw [List.getElem?_eq_getElem hlt]
      dsimp only [Option.map_some]
      congr 1
      rw [Bool.eq_iff_iff]; simp
    rw [ht] at h
    have go : ∀ {w}, roundK Try.prog (look [(7, .rd1 (ddefG f)), (8, .rd1 defOfG), (9, .rd1 defOfG), (10, .rd1 sameVG), (11, .rd1 fitsG), (12, .rd1 (dgetG g)), (13, .rd1 getG), (14, .rd1 sgetG), (15, .rd1 subG)]) (look [(18, ldE)]) 0 (body Try.f3 0) ldE ([.ptr 0 0, .i .i64 no, .ptr 1 0, .ref 2 0 t.length, .i .i64 (t.length : Int), .i .i64 (i : Int)], [some (.box [.ref 2 0 t.length]), some (.box [.ref 3 0 p.length]), some (.row ro none TCd t), some (.row false none NCd p)]) = w → w = some (Ex.normal, ([.ptr 0 0, .i .i64 no, .ptr 1 0, .ref 2 0 t.length, .i .i64 (t.length : Int), .i .i64 ((i + 1 : Nat) : Int)], [some (.box [.ref 2 0 t.length]), some (.box [.ref 3 0 p.length]), some (.row ro none TCd t), some (.row false none NCd p)])) → (Br.br (((List.range t.length).drop (i + 1)).any (hitT t no)) (.leaf (.ret, ([.b true], []))) (.leaf (.exit 0, ([], []))) : Br (Ex × Dt)).run = some (ex, d) → Runs Try.prog (look [(7, .rd1 (ddefG f)), (8, .rd1 defOfG), (9, .rd1 defOfG), (10, .rd1 sameVG), (11, .rd1 fitsG), (12, .rd1 (dgetG g)), (13, .rd1 getG), (14, .rd1 sgetG), (15, .rd1 subG)]) (look [(18, ldE)]) 0 (body Try.f3 0) ldE ([.ptr 0 0, .i .i64 no, .ptr 1 0, .ref 2 0 t.length, .i .i64 (t.length : Int), .i .i64 (i : Int)], [some (.box [.ref 2 0 t.length]), some (.box [.ref 3 0 p.length]), some (.row ro none TCd t), some (.row false none NCd p)]) ex d := fun e1 e2 e3 =>
      .step _ _ _ _ (e1.trans e2) (ld_loop f g no ro t p hl hn hh j (i + 1) (by omega) ex d e3)
    by_cases q1 : t[i].2.2.2.2.1 = 0
    · by_cases q2 : t[i].2.2.1 = no
      · rw [q1, q2] at h
        simp only [beq_self_eq_true, Bool.and_self, Bool.true_or] at h
        have h8 := leaf_some (show (Br.leaf (.ret, ([.b true], [])) : Br (Ex × Dt)).run = some (ex, d) from h)
        obtain ⟨rfl, rfl⟩ := Prod.mk.inj h8
        have hk := List.all_eq_true.1 hh i (List.mem_range.2 hlt)
        rw [ht, q1, q2] at hk
        simp only [beq_self_eq_true, Bool.and_self, Bool.not_true, Bool.false_or, Bool.and_eq_true] at hk
        obtain ⟨s1, s2⟩ := nm_tyL hk.1
        rw [q1, q2, ifB_true (by simp), ifB_true (by simp), ifT_true (by rw [hn, decide_eq_true hl]; rfl), ifB_true hk.1, ifT_true (by rw [s1, decide_eq_true s2]; rfl), hk.2] at hr
        exact .stop _ _ _ hr (by simp)
      · rw [beq_false_of_ne q2, Bool.and_false, Bool.false_or] at h
        refine go hr ?_ h
        rw [q1, ifB_true (by simp), ifB_false (beq_false_of_ne q2)]
    · rw [beq_false_of_ne q1, Bool.false_and, Bool.false_or] at h
      refine go hr ?_ h
      rw [ifB_false (beq_false_of_ne q1)]
theorem ld_ok (f : List Int → List Ty) (g : List Int → List Nd × List Ty × Int × Bool) : LoopsOk Try.prog (look [(7, .rd1 (ddefG f)), (8, .rd1 defOfG), (9, .rd1 defOfG), (10, .rd1 sameVG), (11, .rd1 fitsG), (12, .rd1 (dgetG g)), (13, .rd1 getG), (14, .rd1 sgetG), (15, .rd1 subG)]) (look [(18, ldE)]) 0 (Try.f3.body.getD .skip) := by
  refine loopsOk_one (a := body Try.f3 0) (by kernel_rfl) fun d ex d' h => ?_
  unfold ldE at h
  dsimp only at h
  split at h
  · rename_i no n k i n2 m ro t p
    obtain ⟨hc, hx⟩ := need_some h
    clear h
    simp only [Bool.and_eq_true] at hc
    obtain ⟨⟨hc, hn⟩, hh⟩ := hc
    obtain ⟨h0, h1, rfl, rfl, rfl, rfl, h6⟩ := of_decide_eq_true hc
    obtain ⟨i, rfl⟩ := Int.eq_ofNat_of_zero_le h0
    simp only [Int.toNat_natCast] at h1 hx
    exact ld_loop f g no ro t p h6 hn hh (t.length - i) i (by omega) ex d' hx
  · cases h
theorem u8_range {n : Int} (h : (Lit.int .u8 n).wf = true) : 0 ≤ n ∧ n ≤ 255 := by
  simp only [Lit.wf, Bool.and_eq_true, decide_eq_true_eq] at h
  exact h
theorem law_knows : Knows Try.prog (look [(7, .rd1 (ddefG ddef_f)), (8, .rd1 defOfG), (9, .rd1 defOfG), (10, .rd1 sameVG), (11, .rd1 fitsG), (12, .rd1 (dgetG dget_f)), (13, .rd1 getG), (14, .rd1 sgetG), (15, .rd1 subG)]) := KnowsL.knows (KnowsL.cons (enters_fn Try.func7 (by kernel_rfl) (by kernel_rfl)) ddef_con (KnowsL.cons (enters_fn Try.func8 (by kernel_rfl) (by kernel_rfl)) idefOf (KnowsL.cons (enters_fn Try.func9 (by kernel_rfl) (by kernel_rfl)) sdefOf (KnowsL.cons (enters_fn Try.func10 (by kernel_rfl) (by kernel_rfl)) sameV (KnowsL.cons (enters_fn Try.func11 (by kernel_rfl) (by kernel_rfl)) ifits (KnowsL.cons (enters_fn Try.func12 (by kernel_rfl) (by kernel_rfl)) dget_con (KnowsL.cons (enters_fn Try.func13 (by kernel_rfl) (by kernel_rfl)) getPart (KnowsL.cons (enters_fn Try.func14 (by kernel_rfl) (by kernel_rfl)) sgetPart (KnowsL.cons (enters_fn Try.func15 (by kernel_rfl) (by kernel_rfl)) subSchema KnowsL.nil)))))))))
theorem law_loops : LoopsOk Try.prog (look [(7, .rd1 (ddefG ddef_f)), (8, .rd1 defOfG), (9, .rd1 defOfG), (10, .rd1 sameVG), (11, .rd1 fitsG), (12, .rd1 (dgetG dget_f)), (13, .rd1 getG), (14, .rd1 sgetG), (15, .rd1 subG)]) (look [(18, ldE)]) 0 (Try.f3.body.getD .skip) := ld_ok ddef_f dget_f
theorem law_fun (l r : List Int) (hb : ∀ z ∈ l, 0 ≤ z ∧ z ≤ 255) (hr : ∀ z ∈ r, 0 ≤ z ∧ z ≤ 255) : funK Try.prog (look [(7, .rd1 (ddefG ddef_f)), (8, .rd1 defOfG), (9, .rd1 defOfG), (10, .rd1 sameVG), (11, .rd1 fitsG), (12, .rd1 (dgetG dget_f)), (13, .rd1 getG), (14, .rd1 sgetG), (15, .rd1 subG)]) (look [(18, ldE)]) Try.f3 [.sl (.int .u8) l, .sl (.int .u8) r] [] = some (.b true, []) := by
  rw [ld_tree]
  unfold shr
  simp only [List.drop_zero, List.take_length]
  by_cases h0 : IntKind.i64.wrap ((l.length : Int) + (r.length : Int)) > 1048576
  · rw [ifB_true (decide_eq_true h0)]
  have hc : (Cur.mk l 0 0).good 0 := ⟨hb, Int.le_refl _, Int.le_refl _⟩
  have hd : (Cur.mk r 0 0).good 0 := ⟨hr, Int.le_refl _, Int.le_refl _⟩
  rw [ifB_false (decide_eq_false h0), ifT_true (decide_eq_true hc)]
  obtain ⟨a1, a2, a3⟩ := ddef_pr l hc
  obtain ⟨⟨b1, b2⟩, b3, b4, b5⟩ := dget_pr r hd
  generalize ddef_f l = s at *
  generalize dget_f r = G at *
  obtain ⟨v, t, no, ro⟩ := G
  dsimp only at *
  have n1 : (decide (s.length ≤ 4000000000) && nmL s) = true := by rw [a1, decide_eq_true (by omega)]; rfl
  have n2 : (decide (t.length ≤ 4000000000) && nmL t && decide (v.length ≤ 4000000000)) = true := by rw [b3, decide_eq_true (by omega), decide_eq_true (by omega)]; rfl
  obtain ⟨e1, e2⟩ := get_eq v t no
  rw [n1, ifT_t]
  cases hk : kindB s with
  | false =>
    simp only [ifB_f, ifT_t, hd, decide_true]
    rw [n2, ifT_t, e1]
    cases hs : sgetB v t no with
    | false => rfl
    | true =>
      rw [e2 (e1.trans hs)]
      obtain ⟨h1, h2⟩ := hits_ok hs
      rw [ifB_t, ifB_t, decide_eq_true rfl, Bool.not_true, ifB_f, h1, b3, decide_eq_true (by refine ⟨by omega, by omega, trivial, trivial, trivial, trivial, by omega⟩), ifT_true (by rfl), h2]
      rfl
  | true =>
    have hf := df_fits hk
    simp only [ifB_t, ifT_t, hd, decide_true, Bool.not_true, ifB_f, hf]
    rw [n2, ifT_t, e1]
    cases hs : sgetB v t no with
    | false => rfl
    | true =>
      rw [e2 (e1.trans hs)]
      obtain ⟨h1, h2⟩ := hits_ok hs
      rw [ifB_t, ifB_t, decide_eq_true rfl, Bool.not_true, ifB_f, h1, b3, decide_eq_true (by refine ⟨by omega, by omega, trivial, trivial, trivial, trivial, by omega⟩), ifT_true (by rfl), h2]
      rfl
end Go.Proofs.Ytfkoljiioikdfaa.Den
