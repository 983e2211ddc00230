/- What functions of the program do, by the machine: Dr2 Val7 Dr5 Dr6 DrR Pr4 LPr0 LPr. -/
import Derived.Test.YtfkoljiioikdfaaDC
import Derived.KernelRfl
import Derived.Test.YtfkoljiioikdfaaRows
namespace Go.Proofs.Ytfkoljiioikdfaa.Den
open Go.Proofs
set_option maxRecDepth 100000
def TyEx (d m K : Int) (N : Nat) : Prop := ∃ f : Cur → Rose Lab × Cur, Contract Try.prog 195 (Ent.own (dtyG d m f)).F ∧ (0 ≤ d → ∀ c n, c.good n → n ≤ m → (f c).2.good (n + K) ∧ drT N (f c).1)
def MsEx (d m K : Int) (N : Nat) : Prop := ∃ f : Cur → Rose Lab × Cur, Contract Try.prog 161 (Ent.own (dmsgG d m f)).F ∧ (0 ≤ d → ∀ c n, c.good n → n ≤ m → (f c).2.good (n + K) ∧ drT N (f c).1)
theorem TyEx.weak {d m K m2 K2 : Int} {N N2 : Nat} (h : TyEx d m K N) (h1 : m2 ≤ m) (h2 : K ≤ K2) (h3 : N ≤ N2) : TyEx d m2 K2 N2 := by
  obtain ⟨f, hf, pf⟩ := h
  refine ⟨f, contract_weak hf fun vs bs r hq => ?_, fun hd c n hc hn => ?_⟩
  · unfold Ent.F dtyG at hq ⊢
    dsimp only at hq ⊢
    split at hq
    · rename_i x l a s
      obtain ⟨hc, hx⟩ := need_some hq
      obtain ⟨q1, q2, q3⟩ := of_decide_eq_true hc
      have : decide (x = d ∧ 0 ≤ d ∧ (Cur.mk l a s).good m) = true := decide_eq_true ⟨q1, q2, Cur.good_mono q3 h1⟩
      rw [this]
      exact hx
    · cases hq
  · have := pf hd c n hc (by omega)
    exact ⟨Cur.good_mono this.1 (by omega), drT_mono this.2 h3⟩
theorem MsEx.weak {d m K m2 K2 : Int} {N N2 : Nat} (h : MsEx d m K N) (h1 : m2 ≤ m) (h2 : K ≤ K2) (h3 : N ≤ N2) : MsEx d m2 K2 N2 := by
  obtain ⟨f, hf, pf⟩ := h
  refine ⟨f, contract_weak hf fun vs bs r hq => ?_, fun hd c n hc hn => ?_⟩
  · unfold Ent.F dmsgG at hq ⊢
    dsimp only at hq ⊢
    split at hq
    · rename_i x l a s
      obtain ⟨hc, hx⟩ := need_some hq
      obtain ⟨q1, q2, q3⟩ := of_decide_eq_true hc
      have : decide (x = d ∧ 0 ≤ d ∧ (Cur.mk l a s).good m) = true := decide_eq_true ⟨q1, q2, Cur.good_mono q3 h1⟩
      rw [this]
      exact hx
    · cases hq
  · have := pf hd c n hc (by omega)
    exact ⟨Cur.good_mono this.1 (by omega), drT_mono this.2 h3⟩
instance decNd0 : DecidableEq (Int × Bool × Unit) := inferInstance
instance decNd : DecidableEq Nd := inferInstance
def dnumG (f : Cur → (Int) × Cur) : List V → List Blk → Br (V × List (Option Blk))
  | [.ptr 0 0], [.box [.sl (.int .u8) l, .i .i64 a, .i .u64 s]] => .need (decide ((Cur.mk l a s).good 80000000)) (.leaf (.i .i64 (f  (Cur.mk l a s)).1, [some (cB (f  (Cur.mk l a s)).2)]))
  | _, _ => .no

theorem getD_all {l : List Int} {i : Nat} {a b : Int} (h : l.all (fun x => decide (a ≤ x ∧ x ≤ b)) = true) (h0 : a ≤ 0 ∧ 0 ≤ b) : a ≤ l.getD i 0 ∧ l.getD i 0 ≤ b := by
  rw [List.getD_eq_getElem?_getD]
  cases e : l[i]? with
  | none => exact h0
  | some x => exact of_decide_eq_true (List.all_eq_true.1 h x (List.mem_of_getElem? e))
theorem dnum_tree   (l : List Int) (a s : Int) : funC Try.prog (look [(56, .own cpickG), (133, .own camongG)]) (look []) Try.f163 [.ptr 0 0] [.box [.sl (.int .u8) l, .i .i64 a, .i .u64 s]] =
  ((ifT (decide ((Cur.mk l a s).good (900000000 : Int))) (ifB ((Cur.mk l a s).pickV (6 : Int) == (0 : Int)) (ifT (decide (((Cur.mk l a s).pickC (6 : Int)).good (900000000 :
 Int) ∧ (1 : Nat) ≤ (10 : Nat) ∧ (10 : Nat) ≤ (10 : Nat))) (some (V.i .i64 (((-1000000001 : Int) :: (-1000000000 : Int) :: (-1 : Int) :: (0 : Int) :: (63 : Int) :: (64 :
 Int) :: (-64 : Int) :: (-65 : Int) :: (1000000000 : Int) :: (1000000001 : Int) :: nilT (Cd.int .i64).den).getD ((0 : Nat) + (((Cur.mk l a s).pickC (6 : Int)).pickV (↑(10
 : Nat) : Int)).toNat) (0 : (Cd.int .i64).den)), [some (Blk.box [V.sl (Cd.int .u8) (((Cur.mk l a s).pickC (6 : Int)).pickC (↑(10 : Nat) : Int)).l, V.i .i64 (((Cur.mk l a
 s).pickC (6 : Int)).pickC (↑(10 : Nat) : Int)).a, V.i .u64 (((Cur.mk l a s).pickC (6 : Int)).pickC (↑(10 : Nat) : Int)).s])]))) (ifB ((Cur.mk l a s).pickV (6 : Int) == (1
 : Int)) (ifT (decide (((Cur.mk l a s).pickC (6 : Int)).good (900000000 : Int))) (some (V.i .i64 (IntKind.i64.wrap (((Cur.mk l a s).pickC (6 : Int)).pickV (100000 : Int) -
 (50000 : Int))), [some (Blk.box [V.sl (Cd.int .u8) (((Cur.mk l a s).pickC (6 : Int)).pickC (100000 : Int)).l, V.i .i64 (((Cur.mk l a s).pickC (6 : Int)).pickC (100000 :
 Int)).a, V.i .u64 (((Cur.mk l a s).pickC (6 : Int)).pickC (100000 : Int)).s])]))) (ifT (decide (((Cur.mk l a s).pickC (6 : Int)).good (900000000 : Int))) (some (V.i .i64
 (IntKind.i64.wrap (((Cur.mk l a s).pickC (6 : Int)).pickV (20 : Int) - (5 : Int))), [some (Blk.box [V.sl (Cd.int .u8) (((Cur.mk l a s).pickC (6 : Int)).pickC (20 :
 Int)).l, V.i .i64 (((Cur.mk l a s).pickC (6 : Int)).pickC (20 : Int)).a, V.i .u64 (((Cur.mk l a s).pickC (6 : Int)).pickC (20 : Int)).s])])))))) : _) := by kernel_rfl
theorem dnum_ex  (l : List Int) (a s : Int) (hc : (Cur.mk l a s).good 80000000) : Ex1 (funC Try.prog (look [(56, .own cpickG), (133, .own camongG)]) (look []) Try.f163 [.ptr 0 0] [.box [.sl (.int .u8) l, .i .i64 a, .i .u64 s]]) (fun y : (Int) × Cur => ((.i .i64 y.1, [some (cB y.2)]) : V × List (Option Blk))) (fun y => (∀ n, (Cur.mk l a s).good n → n ≤ 80000000 → y.2.good (n + 8)) ∧ (-2000000000 ≤ y.1 ∧ y.1 ≤ 2000000000)) := by
  refine Ex1.of (dnum_tree   l a s) ?_
  have r1 := fun {c : Cur} {k : Int} (h : c.good 80000100) (hk : 1 ≤ k) => Cur.pickV_range (c := c) (n := 80000100) (k := k) h hk
  have ra := r1 (c := ((Cur.mk l a s).pickC 6)) (k := 100000) (Cur.pk (Cur.good_mono hc (by omega))) (by omega)
  have rb := r1 (c := ((Cur.mk l a s).pickC 6)) (k := 20) (Cur.pk (Cur.good_mono hc (by omega))) (by omega)
  simp only [cB_fold, nilT_eq, List.drop_zero, List.take_length, Nat.zero_add]
  rw [wrap_id (n := ((Cur.mk l a s).pickC 6).pickV 100000 - 50000) (by omega) (by omega), wrap_id (n := ((Cur.mk l a s).pickC 6).pickV 20 - 5) (by omega) (by omega)]
  repeat' first
    | with_reducible refine Ex1.B (fun h => ?_) (fun h => ?_)
    | with_reducible refine Ex1.T ?_ ?_
  all_goals first
    | (refine decide_eq_true ?_; (repeat with_reducible apply Cur.pk); exact Cur.good_mono hc (by omega))
    | (refine decide_eq_true ⟨?_, by omega, by omega⟩; (repeat with_reducible apply Cur.pk); exact Cur.good_mono hc (by omega))
    | refine Ex1.c _ rfl rfl ⟨fun n hn hm => by (repeat with_reducible apply Cur.pk); exact Cur.good_mono hn (by omega), ?_⟩
  all_goals first
    | omega
    | exact getD_all (by decide +kernel) (by omega)
theorem dnum_exf : ∃ f : Cur → (Int) × Cur, Contract Try.prog 163 (Ent.own (dnumG f)).F ∧ ∀  (c : Cur), (c.good 80000000) → (∀ n, c.good n → n ≤ 80000000 → (f  c).2.good (n + 8)) ∧ (-2000000000 ≤ (f  c).1 ∧ (f  c).1 ≤ 2000000000) := by
  have ex := fun  (c : Cur) (hc : c.good 80000000) => dnum_ex  c.l c.a c.s hc
  classical
  refine ⟨fun  c => if h : c.good 80000000 then (ex  c h).choose else (0, c), ?_, fun  c hc => ?_⟩
  rotate_left
  · simp only [dif_pos hc]
    exact (ex  c hc).choose_spec.2
  refine fun_contractC' (KnowsL.cons (enters_fn Try.func56 (by kernel_rfl) (by kernel_rfl)) cpick (KnowsL.cons (enters_fn Try.func133 (by kernel_rfl) (by kernel_rfl)) camong KnowsL.nil)).knows (Λ := (look [])) Try.func163 (c := Try.f163.body.getD .skip) (by kernel_rfl) fun vs bs r hq hv hb => ?_
  unfold Ent.F dnumG at hq
  dsimp only at hq
  split at hq
  · rename_i  l a s
    obtain ⟨hc, hx⟩ := need_some hq
    have hc := of_decide_eq_true hc
    refine ⟨loopsOk_nil _, ((ex  (Cur.mk l a s) hc).choose_spec.1).trans ?_⟩
    rw [dif_pos hc] at hx
    exact hx
  · cases hq
noncomputable def dnum_f : Cur → (Int) × Cur := dnum_exf.choose
theorem dnum_con : Contract Try.prog 163 (Ent.own (dnumG dnum_f)).F := dnum_exf.choose_spec.1
theorem dnum_pr : ∀  (c : Cur), (c.good 80000000) → (∀ n, c.good n → n ≤ 80000000 → (dnum_f  c).2.good (n + 8)) ∧ (-2000000000 ≤ (dnum_f  c).1 ∧ (dnum_f  c).1 ≤ 2000000000) := dnum_exf.choose_spec.2

def dsmlG (f : Cur → (Int) × Cur) : List V → List Blk → Br (V × List (Option Blk))
  | [.ptr 0 0], [.box [.sl (.int .u8) l, .i .i64 a, .i .u64 s]] => .need (decide ((Cur.mk l a s).good 80000000)) (.leaf (.i .i64 (f  (Cur.mk l a s)).1, [some (cB (f  (Cur.mk l a s)).2)]))
  | _, _ => .no
/-- There is room for so much. -/
def Cur.room (c : Cur) (k : Nat) : Prop := c.good (60000000 - (k : Int))
instance (c : Cur) (k : Nat) : Decidable (c.room k) := by unfold Cur.room; exact inferInstance
theorem dsml_tree (f : Cur → (Int) × Cur)  (l : List Int) (a s : Int) : funC Try.prog (look [(163, .own (dnumG f)), (165, .rd1 numG)]) (look []) Try.f136 [.ptr 0 0] [.box [.sl (.int .u8) l, .i .i64 a, .i .u64 s]] =
  ((ifT (decide ((Cur.mk l a s).good (80000000 : Int))) (ifB (!numB (f (Cur.mk l a s)).fst) (some (V.i .i64 7, [some (Blk.box [V.sl (Cd.int .u8) (f (Cur.mk l a s)).snd.l, V.i
 .i64 (f (Cur.mk l a s)).snd.a, V.i .u64 (f (Cur.mk l a s)).snd.s])])) (some (V.i .i64 (f (Cur.mk l a s)).fst, [some (Blk.box [V.sl (Cd.int .u8) (f (Cur.mk l a s)).snd.l,
 V.i .i64 (f (Cur.mk l a s)).snd.a, V.i .u64 (f (Cur.mk l a s)).snd.s])])))) : _) := by kernel_rfl
theorem dsml_ex  (l : List Int) (a s : Int) (hc : (Cur.mk l a s).good 80000000) : Ex1 (funC Try.prog (look [(163, .own (dnumG dnum_f)), (165, .rd1 numG)]) (look []) Try.f136 [.ptr 0 0] [.box [.sl (.int .u8) l, .i .i64 a, .i .u64 s]]) (fun y : (Int) × Cur => ((.i .i64 y.1, [some (cB y.2)]) : V × List (Option Blk))) (fun y => (∀ n, (Cur.mk l a s).good n → n ≤ 80000000 → y.2.good (n + 8)) ∧ numB y.1 = true) := by
  refine Ex1.of (dsml_tree dnum_f  l a s) ?_
  obtain ⟨p1, p2⟩ := dnum_pr (Cur.mk l a s) hc
  simp only [cB_fold]
  refine Ex1.T (decide_eq_true hc) (Ex1.B (fun h => ?_) (fun h => ?_))
  all_goals refine Ex1.c _ rfl rfl ⟨p1, ?_⟩
  · show numB 7 = true; decide +kernel
  · show numB (dnum_f (Cur.mk l a s)).1 = true; cases e : numB (dnum_f (Cur.mk l a s)).1; rw [e] at h; cases h; rfl
theorem dsml_exf : ∃ f : Cur → (Int) × Cur, Contract Try.prog 136 (Ent.own (dsmlG f)).F ∧ ∀  (c : Cur), (c.good 80000000) → (∀ n, c.good n → n ≤ 80000000 → (f  c).2.good (n + 8)) ∧ numB (f  c).1 = true := by
  have ex := fun  (c : Cur) (hc : c.good 80000000) => dsml_ex  c.l c.a c.s hc
  classical
  refine ⟨fun  c => if h : c.good 80000000 then (ex  c h).choose else (0, c), ?_, fun  c hc => ?_⟩
  rotate_left
  · simp only [dif_pos hc]
    exact (ex  c hc).choose_spec.2
  refine fun_contractC' (KnowsL.cons (enters_fn Try.func163 (by kernel_rfl) (by kernel_rfl)) dnum_con (KnowsL.cons (enters_fn Try.func165 (by kernel_rfl) (by kernel_rfl)) l1Num KnowsL.nil)).knows (Λ := (look [])) Try.func136 (c := Try.f136.body.getD .skip) (by kernel_rfl) fun vs bs r hq hv hb => ?_
  unfold Ent.F dsmlG at hq
  dsimp only at hq
  split at hq
  · rename_i  l a s
    obtain ⟨hc, hx⟩ := need_some hq
    have hc := of_decide_eq_true hc
    refine ⟨loopsOk_nil _, ((ex  (Cur.mk l a s) hc).choose_spec.1).trans ?_⟩
    rw [dif_pos hc] at hx
    exact hx
  · cases hq
noncomputable def dsml_f : Cur → (Int) × Cur := dsml_exf.choose
theorem dsml_con : Contract Try.prog 136 (Ent.own (dsmlG dsml_f)).F := dsml_exf.choose_spec.1
theorem dsml_pr : ∀  (c : Cur), (c.good 80000000) → (∀ n, c.good n → n ≤ 80000000 → (dsml_f  c).2.good (n + 8)) ∧ numB (dsml_f  c).1 = true := dsml_exf.choose_spec.2
def risdE (o : Cur × List WFd × Nat → List WFd × Cur) : LoopEnt := ⟨40, [0,3,4], [0,3], [], fun
  | ([.ptr 0 0, .ref 1 0 m, .i .i64 n], [some (.box [.sl (.int .u8) l, .i .i64 a, .i .u64 s]), some (.row false none (.pair (.int .i64) (.pair (.int .i64) (.pair (.int .i64) (.pair .str .unit)))) u)]) => .need (decide (1 ≤ n ∧ n ≤ 7 ∧ m = u.length ∧ u.length ≤ n.toNat ∧ (Cur.mk l a s).good (70000200 - 14 * (7 - n)))) (.leaf (.exit 0, ([.ptr 0 0, .ref 1 0 (o ((Cur.mk l a s), u, n.toNat)).1.length], [some (cB (o ((Cur.mk l a s), u, n.toNat)).2), some (.row false none (.pair (.int .i64) (.pair (.int .i64) (.pair (.int .i64) (.pair .str .unit)))) (o ((Cur.mk l a s), u, n.toNat)).1)])))
  | _ => .no⟩
def drsG (f : Cur → (List UInt8) × Cur) : List V → List Blk → Br (V × List (Option Blk))
  | [.ptr 0 0], [.box [.sl (.int .u8) l, .i .i64 a, .i .u64 s]] => .need (decide ((Cur.mk l a s).good 70000000)) (.leaf (.s (f  (Cur.mk l a s)).1, [some (cB (f  (Cur.mk l a s)).2)]))
  | _, _ => .no

theorem risd_round (f : Cur → (Int) × Cur) (g : List UInt8 → List UInt8 → Cur → (List UInt8) × Cur) (o : Cur × List WFd × Nat → List WFd × Cur) (m : Nat) (n : Int) (l : List Int) (a s : Int) (u : List WFd) : roundK Try.prog (look [(85, .own coneG), (136, .own (dsmlG f)), (137, .own cofG), (138, .rd1 fbyG), (139, .own (dspG g))]) (look [(3, risdE o)]) 1 (body Try.f88 0) (risdE o) ([.ptr 0 0, .ref 1 0 m, .i .i64 n], [some (.box [.sl (.int .u8) l, .i .i64 a, .i .u64 s]), some (.row false none (.pair (.int .i64) (.pair (.int .i64) (.pair (.int .i64) (.pair .str .unit)))) u)]) =
  ((shr (List.take m (List.drop (0 : Nat) u)) fun sh3 => shr ((Cur.mk l a s).pickC (2 : Int)) fun sh2 => shr ((f sh2).snd.pickC (3 : Int)) fun sh1 => ifB (decide (n < (7 :
 Int))) (ifT (decide ((Cur.mk l a s).good (900000000 : Int))) (ifB ((Cur.mk l a s).pickV (2 : Int) == (0 : Int)) (ifT (decide (sh2.good (80000000 : Int))) (ifT (decide ((f
 sh2).snd.good (900000000 : Int))) (ifB ((f sh2).snd.pickV (3 : Int) == (0 : Int)) (ifT (decide (sh1.good (900000000 : Int) ∧ (1 : Nat) ≤ (3 : Nat) ∧ (3 : Nat) ≤ (3 :
 Nat))) (ifT (decide ((m + (1 : Nat)) * (40 : Nat) ≤ (140737488355328 : Nat)) && decide (m + (1 : Nat) ≤ maxI)) (some (Ex.normal, [V.ptr 0 0, V.ref 1 0 (m + (1 : Nat)),
 V.i .i64 (IntKind.i64.wrap (n + (1 : Int)))], [some (Blk.box [V.sl (Cd.int .u8) (sh1.pickC (↑(3 : Nat) : Int)).l, V.i .i64 (sh1.pickC (↑(3 : Nat) : Int)).a, V.i .u64
 (sh1.pickC (↑(3 : Nat) : Int)).s]), some (Blk.row false none ((Cd.int .i64).pair ((Cd.int .i64).pair ((Cd.int .i64).pair (Cd.str.pair Cd.unit)))) (sh3 ++ (n, (2 : Int),
 (0 : Int), (nilT UInt8 :: ((97 : UInt8) :: (98 : UInt8) :: nilT UInt8) :: ((116 : UInt8) :: (101 : UInt8) :: (120 : UInt8) :: (116 : UInt8) :: nilT UInt8) :: nilT
 Cd.str.den).getD ((0 : Nat) + (sh1.pickV (↑(3 : Nat) : Int)).toNat) (nilT UInt8), ()) :: nilT ((Cd.int .i64).pair ((Cd.int .i64).pair ((Cd.int .i64).pair (Cd.str.pair
 Cd.unit)))).den))])))) (ifT (decide ((m + (1 : Nat)) * (40 : Nat) ≤ (140737488355328 : Nat)) && decide (m + (1 : Nat) ≤ maxI)) (some (Ex.normal, [V.ptr 0 0, V.ref 1 0 (m
 + (1 : Nat)), V.i .i64 (IntKind.i64.wrap (n + (1 : Int)))], [some (Blk.box [V.sl (Cd.int .u8) sh1.l, V.i .i64 sh1.a, V.i .u64 sh1.s]), some (Blk.row false none ((Cd.int
 .i64).pair ((Cd.int .i64).pair ((Cd.int .i64).pair (Cd.str.pair Cd.unit)))) (sh3 ++ (n, (0 : Int), (f sh2).fst, nilT UInt8, ()) :: nilT ((Cd.int .i64).pair ((Cd.int
 .i64).pair ((Cd.int .i64).pair (Cd.str.pair Cd.unit)))).den))])))))) (some (Ex.normal, [V.ptr 0 0, V.ref 1 0 m, V.i .i64 (IntKind.i64.wrap (n + (1 : Int)))], [some
 (Blk.box [V.sl (Cd.int .u8) sh2.l, V.i .i64 sh2.a, V.i .u64 sh2.s]), some (Blk.row false none ((Cd.int .i64).pair ((Cd.int .i64).pair ((Cd.int .i64).pair (Cd.str.pair
 Cd.unit)))) u)])))) (some (Ex.exit 0, [V.ptr 0 0, V.ref 1 0 m], [some (Blk.box [V.sl (Cd.int .u8) l, V.i .i64 a, V.i .u64 s]), some (Blk.row false none ((Cd.int
 .i64).pair ((Cd.int .i64).pair ((Cd.int .i64).pair (Cd.str.pair Cd.unit)))) u)]))) : _) := by kernel_rfl
theorem risd_runs : ∀ x : Cur × List WFd × Nat, (1 ≤ x.2.2 ∧ x.2.2 ≤ 7 ∧ x.2.1.length ≤ x.2.2 ∧ x.1.good (70000200 - 14 * (7 - (x.2.2 : Int)))) → ∃ y : List WFd × Cur, (∀ o, Runs Try.prog (look [(85, .own coneG), (136, .own (dsmlG dsml_f)), (137, .own cofG), (138, .rd1 fbyG), (139, .own (dspG dsp_f))]) (look [(3, risdE o)]) 1 (body Try.f88 0) (risdE o) ((fun x : Cur × List WFd × Nat => ([.ptr 0 0, .ref 1 0 x.2.1.length, .i .i64 (x.2.2 : Int)], [some (cB x.1), some (.row false none (.pair (.int .i64) (.pair (.int .i64) (.pair (.int .i64) (.pair .str .unit)))) x.2.1)])) x) ((fun y : List WFd × Cur => (((.exit 0 : Ex), ([.ptr 0 0, .ref 1 0 y.1.length], [some (cB y.2), some (.row false none (.pair (.int .i64) (.pair (.int .i64) (.pair (.int .i64) (.pair .str .unit)))) y.1)])) : Ex × Dt)) y).1 ((fun y : List WFd × Cur => (((.exit 0 : Ex), ([.ptr 0 0, .ref 1 0 y.1.length], [some (cB y.2), some (.row false none (.pair (.int .i64) (.pair (.int .i64) (.pair (.int .i64) (.pair .str .unit)))) y.1)])) : Ex × Dt)) y).2) ∧ (∀ n, x.1.good n → n ≤ 70000200 - 14 * (7 - (x.2.2 : Int)) → y.2.good (n + 14 * (7 - (x.2.2 : Int)))) := by
  refine loop_exo (ι := Cur × List WFd × Nat → List WFd × Cur) (fun _ => ([], Cur.mk [] 0 0)) (Λ := fun o => (look [(3, risdE o)])) (ent := fun o => risdE o) (fun x : Cur × List WFd × Nat => ([.ptr 0 0, .ref 1 0 x.2.1.length, .i .i64 (x.2.2 : Int)], [some (cB x.1), some (.row false none (.pair (.int .i64) (.pair (.int .i64) (.pair (.int .i64) (.pair .str .unit)))) x.2.1)])) (fun y : List WFd × Cur => (((.exit 0 : Ex), ([.ptr 0 0, .ref 1 0 y.1.length], [some (cB y.2), some (.row false none (.pair (.int .i64) (.pair (.int .i64) (.pair (.int .i64) (.pair .str .unit)))) y.1)])) : Ex × Dt)) (fun y => by simp) _ _ (fun x => 7 - x.2.2) (fun o x _ => (risd_round dsml_f dsp_f o x.2.1.length (x.2.2 : Int) x.1.l x.1.a x.1.s x.2.1).trans (risd_round dsml_f dsp_f _ x.2.1.length (x.2.2 : Int) x.1.l x.1.a x.1.s x.2.1).symm) ?_
  rintro ⟨c, u, n⟩ ⟨h1, h2, h3, h4⟩
  dsimp only at h1 h2 h3 h4 ⊢
  have hM : maxI = 9223372036854775807 := rfl
  by_cases hn : n < 7
  · right
    refine Ex1.of (risd_round dsml_f dsp_f _ u.length (n : Int) c.l c.a c.s u) ?_
    repeat with_reducible refine Ex1.sh ?_
    rw [ifB_true (decide_eq_true (by omega))]
    have sm := fun (c' : Cur) (m : Int) (hc : c'.good m) (hm : m ≤ 80000000) => (dsml_pr c' (Cur.good_mono hc hm)).1 m hc hm
    have g1 := Cur.pickC_good (k := 2) h4
    have g2 := sm (c.pickC 2) _ g1 (by omega)
    simp only [cB_fold, show Cur.mk c.l c.a c.s = c from rfl, wrap_succ (n := n) (by omega), nilT_eq, List.drop_zero, List.take_length]
    have fin : ∀ (c' : Cur) (w : List WFd), (∀ m, c.good m → m ≤ 70000200 - 14 * (7 - (n : Int)) → c'.good (m + 14)) → w.length ≤ n + 1 →
        ((1 ≤ n + 1 ∧ n + 1 ≤ 7 ∧ w.length ≤ n + 1 ∧ c'.good (70000200 - 14 * (7 - ((n + 1 : Nat) : Int)))) ∧ 7 - (n + 1) < 7 - n ∧ ∀ y : List WFd × Cur, (∀ m, c'.good m → m ≤ 70000200 - 14 * (7 - ((n + 1 : Nat) : Int)) → y.2.good (m + 14 * (7 - ((n + 1 : Nat) : Int)))) → (∀ m, c.good m → m ≤ 70000200 - 14 * (7 - (n : Int)) → y.2.good (m + 14 * (7 - (n : Int))))) := fun c' w k1 k2 => by
      refine ⟨⟨by omega, by omega, k2, Cur.good_mono (k1 _ h4 (by omega)) (by push_cast; omega)⟩, by omega, fun y hy m hm hl => ?_⟩
      exact Cur.good_mono (hy (m + 14) (k1 m hm hl) (by push_cast; omega)) (by push_cast; omega)
    have s1 : ∀ m, c.good m → m ≤ 70000200 - 14 * (7 - (n : Int)) → (dsml_f (c.pickC 2)).2.good (m + 10) := fun m hm hl => Cur.good_mono (sm (c.pickC 2) (m + 2) (Cur.pickC_good hm) (by omega)) (by omega)
    generalize dsml_f (c.pickC 2) = G at *
    obtain ⟨v, c2⟩ := G
    dsimp only at *
    repeat' first
      | with_reducible refine Ex1.B (fun h => ?_) (fun h => ?_)
      | with_reducible refine Ex1.T ?_ ?_
    all_goals try simp only [cB_fold]
    all_goals first
      | (refine decide_eq_true ?_; (repeat with_reducible apply Cur.pk); exact Cur.good_mono h4 (by omega))
      | exact decide_eq_true (Cur.good_mono g2 (by omega))
      | (refine decide_eq_true ⟨?_, by omega, by omega⟩; (repeat with_reducible apply Cur.pk); exact Cur.good_mono g2 (by omega))
      | (simp only [Bool.and_eq_true, decide_eq_true_eq]; omega)
      | exact Ex1.lc (u, n + 1) rfl rfl rfl (fin (c.pickC 2) u (fun m hm hl => Cur.good_mono (Cur.pickC_good hm) (by omega)) (by omega))
      | (refine Ex1.lc (u ++ [_], n + 1) rfl (by simp) rfl (fin _ _ (fun m hm hl => ?_) (by simp; omega))
         (repeat with_reducible apply Cur.pk); exact Cur.good_mono (s1 m hm hl) (by omega))
  · left
    refine Ex1.of (risd_round dsml_f dsp_f _ u.length (n : Int) c.l c.a c.s u) ?_
    repeat with_reducible refine Ex1.sh ?_
    rw [ifB_false (decide_eq_false (by omega))]
    exact Ex1.L (u, c) rfl (fun m hm hl => Cur.good_mono hm (by omega))
noncomputable def risd_o : Cur × List WFd × Nat → List WFd × Cur := (pick_fn (Y := List WFd × Cur) ([], Cur.mk [] 0 0) risd_runs).choose
theorem risd_os : ∀ x : Cur × List WFd × Nat, (1 ≤ x.2.2 ∧ x.2.2 ≤ 7 ∧ x.2.1.length ≤ x.2.2 ∧ x.1.good (70000200 - 14 * (7 - (x.2.2 : Int)))) → (∀ o, Runs Try.prog (look [(85, .own coneG), (136, .own (dsmlG dsml_f)), (137, .own cofG), (138, .rd1 fbyG), (139, .own (dspG dsp_f))]) (look [(3, risdE o)]) 1 (body Try.f88 0) (risdE o) ((fun x : Cur × List WFd × Nat => ([.ptr 0 0, .ref 1 0 x.2.1.length, .i .i64 (x.2.2 : Int)], [some (cB x.1), some (.row false none (.pair (.int .i64) (.pair (.int .i64) (.pair (.int .i64) (.pair .str .unit)))) x.2.1)])) x) ((fun y : List WFd × Cur => (((.exit 0 : Ex), ([.ptr 0 0, .ref 1 0 y.1.length], [some (cB y.2), some (.row false none (.pair (.int .i64) (.pair (.int .i64) (.pair (.int .i64) (.pair .str .unit)))) y.1)])) : Ex × Dt)) (risd_o x)).1 ((fun y : List WFd × Cur => (((.exit 0 : Ex), ([.ptr 0 0, .ref 1 0 y.1.length], [some (cB y.2), some (.row false none (.pair (.int .i64) (.pair (.int .i64) (.pair (.int .i64) (.pair .str .unit)))) y.1)])) : Ex × Dt)) (risd_o x)).2) ∧ (∀ n, x.1.good n → n ≤ 70000200 - 14 * (7 - (x.2.2 : Int)) → (risd_o x).2.good (n + 14 * (7 - (x.2.2 : Int)))) := (pick_fn (Y := List WFd × Cur) ([], Cur.mk [] 0 0) risd_runs).choose_spec
theorem risd_ok : LoopsOk Try.prog (look [(85, .own coneG), (136, .own (dsmlG dsml_f)), (137, .own cofG), (138, .rd1 fbyG), (139, .own (dspG dsp_f))]) (look [(3, risdE risd_o)]) 1 (Try.f88.body.getD .skip) := by
  refine loopsOk_one (a := body Try.f88 0) (by kernel_rfl) fun d ex d' h => ?_
  unfold risdE at h
  dsimp only at h
  split at h
  · rename_i m n l a s u
    obtain ⟨hc, hx⟩ := need_some h
    obtain ⟨k1, k2, rfl, k4, k5⟩ := of_decide_eq_true hc
    obtain ⟨n, rfl⟩ := Int.eq_ofNat_of_zero_le (show 0 ≤ n by omega)
    simp only [Int.toNat_natCast] at k4 hx
    have h8 := leaf_some hx
    obtain ⟨rfl, rfl⟩ := Prod.mk.inj h8
    exact (risd_os ((Cur.mk l a s), u, n) ⟨by dsimp only; omega, by dsimp only; omega, k4, k5⟩).1 risd_o
  · cases h
theorem fby_len (l : List WFd) : (bif fbOK l then fbs l else []).length ≤ 400 := by
  unfold fbOK
  cases h : (l.all fineB && (decide (l.length ≤ 40) && decide ((fbs l).length ≤ 400))) with
  | false => simp
  | true =>
    simp only [Bool.and_eq_true, decide_eq_true_eq] at h
    exact h.2.2
theorem drs_tree (f : Cur → (Int) × Cur) (g : List UInt8 → List UInt8 → Cur → (List UInt8) × Cur) (o : Cur × List WFd × Nat → List WFd × Cur)  (l : List Int) (a s : Int) : funC Try.prog (look [(85, .own coneG), (136, .own (dsmlG f)), (137, .own cofG), (138, .rd1 fbyG), (139, .own (dspG g))]) (look [(3, risdE o)]) Try.f88 [.ptr 0 0] [.box [.sl (.int .u8) l, .i .i64 a, .i .u64 s]] =
  ((shr (o (Cur.mk l a s, nilT ((Cd.int .i64).pair ((Cd.int .i64).pair ((Cd.int .i64).pair (Cd.str.pair Cd.unit)))).den, (1 : Nat))) fun sh2 => shr (List.take sh2.fst.length
 (List.drop (0 : Nat) sh2.fst)) fun sh1 => ifT (decide ((1 : Int) ≤ (1 : Int) ∧ (1 : Int) ≤ (7 : Int) ∧ (0 : Nat) = (0 : Nat) ∧ (0 : Nat) ≤ (1 : Nat) ∧ (Cur.mk l a s).good
 (70000116 : Int))) (ifT (decide (sh2.snd.good (900000000 : Int))) (ifB (sh2.snd.pickV (12 : Int) == (0 : Int)) (ifT (decide ((1 : Nat) ≤ (3 : Nat) ∧ (3 : Nat) ≤ (100 :
 Nat) ∧ (bif fbOK sh1 then fbs sh1 else nilT UInt8).length ≤ (90000 : Nat) ∧ (sh2.snd.pickC (12 : Int)).good (80000000 : Int))) (some (V.s (g (bif fbOK sh1 then fbs sh1
 else nilT UInt8) [(0 : UInt8), (8 : UInt8), (18 : UInt8)] (sh2.snd.pickC (12 : Int))).fst, [some (Blk.box [V.sl (Cd.int .u8) (g (bif fbOK sh1 then fbs sh1 else nilT
 UInt8) [(0 : UInt8), (8 : UInt8), (18 : UInt8)] (sh2.snd.pickC (12 : Int))).snd.l, V.i .i64 (g (bif fbOK sh1 then fbs sh1 else nilT UInt8) [(0 : UInt8), (8 : UInt8), (18
 : UInt8)] (sh2.snd.pickC (12 : Int))).snd.a, V.i .u64 (g (bif fbOK sh1 then fbs sh1 else nilT UInt8) [(0 : UInt8), (8 : UInt8), (18 : UInt8)] (sh2.snd.pickC (12 :
 Int))).snd.s])]))) (some (V.s (bif fbOK sh1 then fbs sh1 else nilT UInt8), [some (Blk.box [V.sl (Cd.int .u8) (sh2.snd.pickC (12 : Int)).l, V.i .i64 (sh2.snd.pickC (12 :
 Int)).a, V.i .u64 (sh2.snd.pickC (12 : Int)).s])]))))) : _) := by kernel_rfl
theorem drs_ex  (l : List Int) (a s : Int) (hc : (Cur.mk l a s).good 70000000) : Ex1 (funC Try.prog (look [(85, .own coneG), (136, .own (dsmlG dsml_f)), (137, .own cofG), (138, .rd1 fbyG), (139, .own (dspG dsp_f))]) (look [(3, risdE risd_o)]) Try.f88 [.ptr 0 0] [.box [.sl (.int .u8) l, .i .i64 a, .i .u64 s]]) (fun y : (List UInt8) × Cur => ((.s y.1, [some (cB y.2)]) : V × List (Option Blk))) (fun y => (∀ n, (Cur.mk l a s).good n → n ≤ 70000000 → y.2.good (n + 120)) ∧ y.1.length ≤ 500) := by
  refine Ex1.of (drs_tree dsml_f dsp_f risd_o  l a s) ?_
  have g1 : (Cur.mk l a s).good (70000200 - 14 * (7 - ((1 : Nat) : Int))) := Cur.good_mono hc (by omega)
  have q := (risd_os ((Cur.mk l a s), [], 1) ⟨by dsimp only; omega, by dsimp only; omega, by simp, g1⟩).2
  dsimp only at q
  repeat with_reducible refine Ex1.sh ?_
  simp only [cB_fold, nilT_eq, List.drop_zero, List.take_length]
  generalize hR : risd_o ((Cur.mk l a s), [], 1) = R at *
  have hR' : risd_o ((Cur.mk l a s), [], (1 : Int).toNat) = R := hR
  try simp only [hR']
  obtain ⟨w, c⟩ := R
  dsimp only at *
  have q1 := q 70000000 hc (by omega)
  have hl := fby_len w
  generalize (bif fbOK w then fbs w else []) = str at *
  have hsp := dsp_pr str [0, 8, 18] (c.pickC 12) ⟨by simp, by simp, by omega, Cur.pk (Cur.good_mono q1 (by omega))⟩
  refine Ex1.T (decide_eq_true ⟨by omega, by omega, trivial, by omega, g1⟩) (Ex1.T (decide_eq_true (Cur.good_mono q1 (by omega))) (Ex1.B (fun h => Ex1.T (decide_eq_true ⟨by simp, by simp, by omega, Cur.pk (Cur.good_mono q1 (by omega))⟩) ?_) (fun h => ?_)))
  · exact Ex1.c _ rfl rfl ⟨fun n hn hm => Cur.good_mono (hsp.1 (n + 90) (Cur.pk (Cur.good_mono (q n hn (by omega)) (by omega))) (by omega)) (by omega), Nat.le_trans hsp.2 (by omega)⟩
  · exact Ex1.c _ rfl rfl ⟨fun n hn hm => Cur.pk (Cur.good_mono (q n hn (by omega)) (by omega)), by dsimp only; omega⟩
theorem drs_exf : ∃ f : Cur → (List UInt8) × Cur, Contract Try.prog 88 (Ent.own (drsG f)).F ∧ ∀  (c : Cur), (c.good 70000000) → (∀ n, c.good n → n ≤ 70000000 → (f  c).2.good (n + 120)) ∧ (f  c).1.length ≤ 500 := by
  have ex := fun  (c : Cur) (hc : c.good 70000000) => drs_ex  c.l c.a c.s hc
  classical
  refine ⟨fun  c => if h : c.good 70000000 then (ex  c h).choose else ([], c), ?_, fun  c hc => ?_⟩
  rotate_left
  · simp only [dif_pos hc]
    exact (ex  c hc).choose_spec.2
  refine fun_contractC' (KnowsL.cons (enters_fn Try.func85 (by kernel_rfl) (by kernel_rfl)) cone (KnowsL.cons (enters_fn Try.func136 (by kernel_rfl) (by kernel_rfl)) dsml_con (KnowsL.cons (enters_fn Try.func137 (by kernel_rfl) (by kernel_rfl)) cof (KnowsL.cons (enters_fn Try.func138 (by kernel_rfl) (by kernel_rfl)) fby (KnowsL.cons (enters_fn Try.func139 (by kernel_rfl) (by kernel_rfl)) dsp_con KnowsL.nil))))).knows (Λ := (look [(3, risdE risd_o)])) Try.func88 (c := Try.f88.body.getD .skip) (by kernel_rfl) fun vs bs r hq hv hb => ?_
  unfold Ent.F drsG at hq
  dsimp only at hq
  split at hq
  · rename_i  l a s
    obtain ⟨hc, hx⟩ := need_some hq
    have hc := of_decide_eq_true hc
    refine ⟨risd_ok, ((ex  (Cur.mk l a s) hc).choose_spec.1).trans ?_⟩
    rw [dif_pos hc] at hx
    exact hx
  · cases hq
noncomputable def drs_f : Cur → (List UInt8) × Cur := drs_exf.choose
theorem drs_con : Contract Try.prog 88 (Ent.own (drsG drs_f)).F := drs_exf.choose_spec.1
theorem drs_pr : ∀  (c : Cur), (c.good 70000000) → (∀ n, c.good n → n ≤ 70000000 → (drs_f  c).2.good (n + 120)) ∧ (drs_f  c).1.length ≤ 500 := drs_exf.choose_spec.2

def drunG (f : (List Int) → List Ins × List UInt8) : List V → List Blk → Br (V × List (Option Blk))
  | [.sl (.int .u8) l], [] => .need (decide ((Cur.mk l 0 0).good 0)) (.leaf (.tup [.agg [.ref 0 0 (f l ).1.length], .s (f l ).2], [some (.row false none (.pair (.int .i64) (.pair (.int .i64) (.pair (.int .i64) (.pair (.int .i64) (.pair .str (.pair (.int .i64) .unit)))))) (f l ).1)]))
  | _, _ => .no

theorem drun_tree (f : Cur → (List Ins) × Cur) (g : Cur → (List UInt8) × Cur) (l : List Int)  : funC Try.prog (look [(87, .own (dprgG f)), (88, .own (drsG g))]) (look []) Try.f27 [.sl (.int .u8) l] [] =
  ((ifT (decide ((Cur.mk l (0 : Int) (0 : Int)).good (70000000 : Int))) (ifT (decide ((f (Cur.mk l (0 : Int) (0 : Int))).snd.good (70000000 : Int))) (some (V.tup [V.agg [V.ref
 0 0 (f (Cur.mk l (0 : Int) (0 : Int))).fst.length], V.s (g (f (Cur.mk l (0 : Int) (0 : Int))).snd).fst], [some (Blk.row false none ((Cd.int .i64).pair ((Cd.int .i64).pair
 ((Cd.int .i64).pair ((Cd.int .i64).pair (Cd.str.pair ((Cd.int .i64).pair Cd.unit)))))) (f (Cur.mk l (0 : Int) (0 : Int))).fst)])))) : _) := by kernel_rfl
theorem drun_ex (l : List Int)  (hc : (Cur.mk l 0 0).good 0) : Ex1 (funC Try.prog (look [(87, .own (dprgG dprg_f)), (88, .own (drsG drs_f))]) (look []) Try.f27 [.sl (.int .u8) l] []) (fun y : List Ins × List UInt8 => ((.tup [.agg [.ref 0 0 y.1.length], .s y.2], [some (.row false none (.pair (.int .i64) (.pair (.int .i64) (.pair (.int .i64) (.pair (.int .i64) (.pair .str (.pair (.int .i64) .unit)))))) y.1)]) : V × List (Option Blk))) (fun y => 1 ≤ y.1.length ∧ y.1.length ≤ 2000010 ∧ y.2.length ≤ 500) := by
  refine Ex1.of (drun_tree dprg_f drs_f l ) ?_
  have hp := dprg_pr (Cur.mk l 0 0) (Cur.good_mono hc (by omega))
  have g1 := hp.1 0 hc (by omega)
  have hr := drs_pr (dprg_f (Cur.mk l 0 0)).2 (Cur.good_mono g1 (by omega))
  repeat with_reducible refine Ex1.sh ?_
  refine Ex1.T (decide_eq_true (Cur.good_mono hc (by omega))) (Ex1.T (decide_eq_true (Cur.good_mono g1 (by omega))) ?_)
  exact Ex1.P ((dprg_f (Cur.mk l 0 0)).1, (drs_f (dprg_f (Cur.mk l 0 0)).2).1) rfl rfl ⟨hp.2.1, hp.2.2, hr.2⟩
theorem drun_exf : ∃ f : (List Int) → List Ins × List UInt8, Contract Try.prog 27 (Ent.rd1 (drunG f)).F ∧ ∀ (l : List Int) , ((Cur.mk l 0 0).good 0) → 1 ≤ (f l ).1.length ∧ (f l ).1.length ≤ 2000010 ∧ (f l ).2.length ≤ 500 := by
  have ex := fun (l : List Int)  (hc : (Cur.mk l 0 0).good 0) => drun_ex l  hc
  classical
  refine ⟨fun l  => if h : (Cur.mk l 0 0).good 0 then (ex l  h).choose else ([], []), ?_, fun l  hc => ?_⟩
  rotate_left
  · simp only [dif_pos hc]
    exact (ex l  hc).choose_spec.2
  refine fun_contractC' (KnowsL.cons (enters_fn Try.func87 (by kernel_rfl) (by kernel_rfl)) dprg_con (KnowsL.cons (enters_fn Try.func88 (by kernel_rfl) (by kernel_rfl)) drs_con KnowsL.nil)).knows (Λ := (look [])) Try.func27 (c := Try.f27.body.getD .skip) (by kernel_rfl) fun vs bs r hq hv hb => ?_
  unfold Ent.F drunG at hq
  dsimp only at hq
  split at hq
  · rename_i l 
    obtain ⟨hc, hx⟩ := need_some hq
    have hc := of_decide_eq_true hc
    refine ⟨loopsOk_nil _, ((ex l  hc).choose_spec.1).trans ?_⟩
    rw [dif_pos hc] at hx
    exact hx
  · cases hq
noncomputable def drun_f : (List Int) → List Ins × List UInt8 := drun_exf.choose
theorem drun_con : Contract Try.prog 27 (Ent.rd1 (drunG drun_f)).F := drun_exf.choose_spec.1
theorem drun_pr : ∀ (l : List Int) , ((Cur.mk l 0 0).good 0) → 1 ≤ (drun_f l ).1.length ∧ (drun_f l ).1.length ≤ 2000010 ∧ (drun_f l ).2.length ≤ 500 := drun_exf.choose_spec.2


theorem law_tree (f : List Int → List Ins × List UInt8) (l : List Int) : funK Try.prog (look [(27, .rd1 (drunG f)), (28, .rd1 runG), (29, .rd1 runG), (30, .rd1 peepG), (31, .rd1 peepG), (32, .rd1 stepsG), (33, .rd1 stepsG), (34, .rd1 samePG), (35, .rd1 goodPG)]) (look []) Try.f5 [.sl (.int .u8) l] [] =
  ((shr (f l).fst fun sh3 => shr (f l).snd fun sh2 => shr (List.take sh3.length (List.drop (0 : Nat) sh3)) fun sh1 => ifB (decide ((↑l.length : Int) > (1048576 : Int))) (some
 (V.b true, [])) (ifT (decide ((Cur.mk l (0 : Int) (0 : Int)).good (0 : Int))) (ifT (decide (sh2.length ≤ (4000000000 : Nat))) (ifT (decide (sh2.length ≤ (4000000000 :
 Nat))) (ifT (decide (sh1.length ≤ (8000000 : Nat))) (ifT (decide (sh1.length ≤ (8000000 : Nat))) (ifB (!(runP sh1 sh2).snd.snd == (runP sh1 sh2).snd.snd) (some (V.b
 false, [])) (ifB (!(runP sh1 sh2).fst == (runP sh1 sh2).fst) (some (V.b false, [])) (ifB ((↑(runP sh1 sh2).snd.fst : Int) != (↑(runP sh1 sh2).snd.fst : Int)) (some (V.b
 false, [])) (ifB (!goodPB sh1 == goodPB sh1) (some (V.b false, [])) (ifB (!decide (eqT (List Ins) (List.take (peepB sh1).length (List.drop (0 : Nat) (peepB sh1)))
 (List.take (peepB sh1).length (List.drop (0 : Nat) (peepB sh1))))) (some (V.b false, [])) (ifB (!goodPB sh1 == goodPB sh1) (some (V.b false, [])) (ifB ((bif goodPB sh1
 then (↑sh1.length : Int) else (0 : Int)) != bif goodPB sh1 then (↑sh1.length : Int) else (0 : Int)) (some (V.b false, [])) (ifB (!goodPB sh1 == goodPB sh1) (some (V.b
 false, [])) (ifB (!goodPB sh1) (some (V.b ((↑(peepB sh1).length : Int) == (0 : Int)), [])) (ifB (runP sh1 sh2).snd.snd (ifT (decide (sh2.length ≤ (4000000000 : Nat)))
 (ifB (!(runP (List.take (peepB sh1).length (List.drop (0 : Nat) (peepB sh1))) sh2).snd.snd) (some (V.b false, [])) (ifB (!(runP (List.take (peepB sh1).length (List.drop
 (0 : Nat) (peepB sh1))) sh2).fst == (runP sh1 sh2).fst) (some (V.b false, [])) (ifB (decide ((↑(runP (List.take (peepB sh1).length (List.drop (0 : Nat) (peepB sh1)))
 sh2).snd.fst : Int) > (↑(runP sh1 sh2).snd.fst : Int))) (some (V.b false, [])) (ifT (decide ((List.take (peepB sh1).length (List.drop (0 : Nat) (peepB sh1))).length ≤
 (8000000 : Nat))) (ifB (goodPB (List.take (peepB sh1).length (List.drop (0 : Nat) (peepB sh1)))) (ifB (decide (eqT (List Ins) (List.take (peepB (List.take (peepB
 sh1).length (List.drop (0 : Nat) (peepB sh1)))).length (List.drop (0 : Nat) (peepB (List.take (peepB sh1).length (List.drop (0 : Nat) (peepB sh1)))))) (List.take (peepB
 sh1).length (List.drop (0 : Nat) (peepB sh1))))) (ifB (decide ((↑(peepB sh1).length : Int) ≤ (↑sh3.length : Int))) (some (V.b (goodPB (List.take (peepB sh1).length
 (List.drop (0 : Nat) (peepB sh1)))), [])) (some (V.b false, []))) (some (V.b false, []))) (some (V.b false, [])))))))) (ifT (decide ((List.take (peepB sh1).length
 (List.drop (0 : Nat) (peepB sh1))).length ≤ (8000000 : Nat))) (ifB (goodPB (List.take (peepB sh1).length (List.drop (0 : Nat) (peepB sh1)))) (ifB (decide (eqT (List Ins)
 (List.take (peepB (List.take (peepB sh1).length (List.drop (0 : Nat) (peepB sh1)))).length (List.drop (0 : Nat) (peepB (List.take (peepB sh1).length (List.drop (0 : Nat)
 (peepB sh1)))))) (List.take (peepB sh1).length (List.drop (0 : Nat) (peepB sh1))))) (ifB (decide ((↑(peepB sh1).length : Int) ≤ (↑sh3.length : Int))) (some (V.b (goodPB
 (List.take (peepB sh1).length (List.drop (0 : Nat) (peepB sh1)))), [])) (some (V.b false, []))) (some (V.b false, []))) (some (V.b false, [])))))))))))))))))))) : _) := by kernel_rfl


theorem u8_range {n : Int} (h : (Lit.int .u8 n).wf = true) : 0 ≤ n ∧ n ≤ 255 := by
  simp only [Lit.wf, Bool.and_eq_true, decide_eq_true_eq] at h
  exact h
theorem runP_none {l : List Ins} {s : List UInt8} (h : risF s = none) : runP l s = (false, 0, false) := by unfold runP; rw [h]
theorem runP_some {l : List Ins} {s : List UInt8} {w : List WFd} (h : risF s = some w) (hg : goodPB l = true) : runP l s = ((runI w l 0 false none).1, (runI w l 0 false none).2, true) := by unfold runP; rw [h]; dsimp only; rw [if_pos hg]
theorem law_knows : Knows Try.prog (look [(27, .rd1 (drunG drun_f)), (28, .rd1 runG), (29, .rd1 runG), (30, .rd1 peepG), (31, .rd1 peepG), (32, .rd1 stepsG), (33, .rd1 stepsG), (34, .rd1 samePG), (35, .rd1 goodPG)]) := KnowsL.knows (KnowsL.cons (enters_fn Try.func27 (by kernel_rfl) (by kernel_rfl)) drun_con (KnowsL.cons (enters_fn Try.func28 (by kernel_rfl) (by kernel_rfl)) irun (KnowsL.cons (enters_fn Try.func29 (by kernel_rfl) (by kernel_rfl)) srp (KnowsL.cons (enters_fn Try.func30 (by kernel_rfl) (by kernel_rfl)) ipeep (KnowsL.cons (enters_fn Try.func31 (by kernel_rfl) (by kernel_rfl)) speep (KnowsL.cons (enters_fn Try.func32 (by kernel_rfl) (by kernel_rfl)) isteps (KnowsL.cons (enters_fn Try.func33 (by kernel_rfl) (by kernel_rfl)) ssteps (KnowsL.cons (enters_fn Try.func34 (by kernel_rfl) (by kernel_rfl)) sameP (KnowsL.cons (enters_fn Try.func35 (by kernel_rfl) (by kernel_rfl)) igoodP KnowsL.nil)))))))))
theorem law_loops : LoopsOk Try.prog (look [(27, .rd1 (drunG drun_f)), (28, .rd1 runG), (29, .rd1 runG), (30, .rd1 peepG), (31, .rd1 peepG), (32, .rd1 stepsG), (33, .rd1 stepsG), (34, .rd1 samePG), (35, .rd1 goodPG)]) (look []) 0 (Try.f5.body.getD .skip) := loopsOk_nil _
theorem law_fun (l : List Int) (hb : ∀ z ∈ l, 0 ≤ z ∧ z ≤ 255) : funK Try.prog (look [(27, .rd1 (drunG drun_f)), (28, .rd1 runG), (29, .rd1 runG), (30, .rd1 peepG), (31, .rd1 peepG), (32, .rd1 stepsG), (33, .rd1 stepsG), (34, .rd1 samePG), (35, .rd1 goodPG)]) (look []) Try.f5 [.sl (.int .u8) l] [] = some (.b true, []) := by
  rw [law_tree]
  dsimp only [shr]
  simp only [List.drop_zero, List.take_length]
  by_cases h0 : (l.length : Int) > 1048576
  · rw [ifB_true (decide_eq_true h0)]
  have hc : (Cur.mk l 0 0).good 0 := ⟨hb, Int.le_refl _, Int.le_refl _⟩
  rw [ifB_false (decide_eq_false h0), ifT_true (decide_eq_true hc)]
  obtain ⟨a1, a2, a3⟩ := drun_pr l hc
  generalize drun_f l = G at *
  obtain ⟨p, b⟩ := G
  dsimp only at *
  have n1 : decide (b.length ≤ 4000000000) = true := decide_eq_true (by omega)
  have n2 : decide (p.length ≤ 8000000) = true := decide_eq_true (by omega)
  simp only [n1, n2, ifT_t, beq_self_eq_true, bne_self_eq_false, Bool.not_true, ifB_f, decide_true]
  cases hg : goodPB p with
  | false =>
    have e : peepB p = [] := by unfold peepB; rw [hg]; rfl
    rw [e]; rfl
  | true =>
    obtain ⟨k1, k2, k3⟩ := peep_law hg
    have e : peepB p = peep p 0 := by unfold peepB; rw [hg]; rfl
    have e2 : peepB (peep p 0) = peep p 0 := by unfold peepB; rw [k1]; exact k3
    have n3 : decide ((peep p 0).length ≤ 8000000) = true := decide_eq_true (by omega)
    have n4 : decide (((peep p 0).length : Int) ≤ (p.length : Int)) = true := decide_eq_true (by omega)
    simp only [e, e2, n3, n4, k1, ifT_t, ifB_t, decide_true, Bool.not_true, ifB_f]
    cases hr : risF b with
    | none => rw [runP_none hr]; rfl
    | some w =>
      obtain ⟨r1, r2⟩ := peep_run (fs := w) hg
      rw [runP_some hr hg, runP_some hr k1]
      dsimp only
      rw [r1, ifB_t, decide_eq_false (by omega)]
      simp

end Go.Proofs.Ytfkoljiioikdfaa.Den
