/- A region that draws its order, whose operations read and make memory (calls too), ahead of a tail in a fixed order: one walk of the text's order serves every order. What is known of a slot is a value, or a property of the value and the world that later growth keeps. -/
import Derived.Test.YtohoggoggchaeaaLib
namespace Go.Proofs.Ytohoggoggchaeaa
open Go.ChangeShapes Go.WideShapes Go.ChangeAt Go.RowKit

/-- What is known of a slot. -/
abbrev Kn := Sum Value (Value → World → Prop)
def Agree : Kn → Value → World → Prop
  | .inl e, v, _ => v = e
  | .inr Φ, v, w => Φ v w
/-- For all values of the slots that agree with what is known (of the slots that are looked at). -/
def Fills (w : World) (looks : Nat → Bool) : Nat → List Kn → (List Value → Prop) → Prop
  | _, [], G => G []
  | t, .inl e :: ks, G => Fills w looks (t + 1) ks fun vs => G (e :: vs)
  | t, .inr Φ :: ks, G => if looks t then ∀ v, Φ v w → Fills w looks (t + 1) ks fun vs => G (v :: vs) else Fills w looks (t + 1) ks fun vs => G (undef :: vs)

theorem Fills.inst {w : World} {looks : Nat → Bool} : ∀ {ks : List Kn} {t : Nat} {G : List Value → Prop} {vs : List Value}, Fills w looks t ks G → vs.length = ks.length →
    (∀ s k v, ks[s]? = some k → vs[s]? = some v → looks (t + s) = true → Agree k v w) → ∃ us, G us ∧ us.length = ks.length ∧ ∀ s, looks (t + s) = true → us[s]? = vs[s]?
  | [], t, G, vs, h, hl, _ => ⟨[], h, rfl, fun s _ => by have : vs = [] := List.eq_nil_of_length_eq_zero (by simpa using hl); subst this; rfl⟩
  | k :: ks, t, G, [], h, hl, _ => by simp at hl
  | .inl e :: ks, t, G, v :: vs, h, hl, ha => by
    obtain ⟨us, h1, h2, h3⟩ := Fills.inst (ks := ks) (t := t + 1) (vs := vs) h (by simpa using hl) (fun s k v hk hv hs => ha (s + 1) k v (by simpa using hk) (by simpa using hv) (by rw [← hs]; congr 1; omega))
    refine ⟨e :: us, h1, by simp [h2], fun s hs => ?_⟩
    cases s with
    | zero => have := ha 0 _ v rfl rfl hs; simp [Agree] at this; simp [this]
    | succ s => simpa using h3 s (by rw [← hs]; congr 1; omega)
  | .inr Φ :: ks, t, G, v :: vs, h, hl, ha => by
    simp only [Fills] at h
    by_cases hlk : looks t = true
    · rw [if_pos hlk] at h
      obtain ⟨us, h1, h2, h3⟩ := Fills.inst (ks := ks) (t := t + 1) (vs := vs) (h v (ha 0 _ v rfl rfl hlk)) (by simpa using hl) (fun s k v hk hv hs => ha (s + 1) k v (by simpa using hk) (by simpa using hv) (by rw [← hs]; congr 1; omega))
      refine ⟨v :: us, h1, by simp [h2], fun s hs => ?_⟩
      cases s with
      | zero => simp
      | succ s => simpa using h3 s (by rw [← hs]; congr 1; omega)
    · rw [if_neg hlk] at h
      obtain ⟨us, h1, h2, h3⟩ := Fills.inst (ks := ks) (t := t + 1) (vs := vs) h (by simpa using hl) (fun s k v hk hv hs => ha (s + 1) k v (by simpa using hk) (by simpa using hv) (by rw [← hs]; congr 1; omega))
      refine ⟨undef :: us, h1, by simp [h2], fun s hs => ?_⟩
      cases s with
      | zero => exact absurd hs hlk
      | succ s => simpa using h3 s (by rw [← hs]; congr 1; omega)

/-- An operation's step: it yields a value of which R holds, in the world that it leaves. -/
def StepUpon (P : Program) (R : Value → World → Prop) : Result Next → Prop
  | .ok (.value u) w' => R u w'
  | .ok .skip w' => R undef w'
  | .ok (.enter f args) w' => Calls P f args w' fun e w'' => ∃ v, e = .returned v ∧ R v w''
  | _ => False
def Step (P : Program) (ops : Array Oper) (o : Oper) (a : Act) (w : World) (R : Value → World → Prop) : Prop :=
  if Region.wanted o (yielded ops a.tmps) then StepUpon P R ((execOp a.eval o).run P w) else R undef w

theorem Step.wpOp {P : Program} {ops : Array Oper} {Q : Exit → Act → World → Prop} {i : Nat} {o : Oper} {a : Act} {w : World} {R : Value → World → Prop} {K : Act → World → Prop} (ho : ops[i]? = some o)
    (h : Step P ops o a w R) (hK : ∀ v w', R v w' → K (a.put o.dst v) w') : wpOp P ops Q i K a w := by
  unfold Go.wpOp
  simp only [ho]
  unfold Step at h
  split
  · rename_i hw
    rw [if_pos hw] at h
    left
    unfold Oper.wp
    generalize (execOp a.eval o).run P w = r at *
    cases r with
    | halt x w' => exact h.elim
    | ok n w' =>
      cases n <;> simp only [StepUpon, Oper.upon] at h ⊢
      case value u => exact hK _ _ h
      case skip => exact hK _ _ h
      case enter f args => exact h.mono fun e w'' ⟨v, he, hR⟩ => by subst he; exact hK _ _ hR
  · rename_i hw
    rw [if_neg hw] at h
    exact hK _ _ h

theorem Step.congr {P : Program} {ops : Array Oper} {o : Oper} {a a' : Act} {w : World} {R : Value → World → Prop} (hs : ∀ cs b, o.op ≠ .select cs b) (he : ∀ t ∈ o.looksAt ops, a.tmps[t]? = a'.tmps[t]?)
    (h : Step P ops o a w R) : Step P ops o a' w R := by
  have h1 : execOp a'.eval o = execOp a.eval o := execOp_congr o hs fun x hx => by
    cases x with
    | tmp t =>
      have := he t (List.mem_append_left _ (List.mem_filterMap.2 ⟨.tmp t, by simpa using hx, rfl⟩))
      simp [Act.eval, Array.getD_eq_getD_getElem?, this]
    | _ => rfl
  have h2 : Region.wanted o (yielded ops a'.tmps) = Region.wanted o (yielded ops a.tmps) := by
    unfold Region.wanted
    cases hg : o.guard with
    | none => rfl
    | some gw =>
      obtain ⟨g, want⟩ := gw
      have hy : yielded ops a'.tmps g = yielded ops a.tmps g := by
        unfold yielded
        cases ht : (ops[g]?).bind (·.dst) with
        | none => rfl
        | some t => simp [he t (by simp [Oper.looksAt, hg, ht])]
      simp only [hy]
  unfold Step at *
  rw [h1, h2]
  exact h

def setK (env : List Kn) (dst : Option Tmp) (k : Kn) : List Kn := match dst with | some d => env.set d k | none => env
def looks (ops : Array Oper) (o : Oper) (t : Nat) : Bool := (o.looksAt ops).contains t

/-- What op i must show: k is what is known of its value; an op of wr may change the blocks of T and must show Ms i of them; an op of wr or rd knows M of them. -/
def Keeps (T : List Nat) (k : Kn) : Prop := ∀ v w1 w2, Agree k v w1 → Chg T w1 w2 → Agree k v w2
def Good (P : Program) (ops : Array Oper) (w0 : World) (T wr rd : List Nat) (Ms : Nat → World → Prop) (d : List Deferred) (i : Nat) (o : Oper) (k : Kn) (M : World → Prop) (env : List Kn) : Prop :=
  Keeps T k ∧ (wr.contains i = true → ∀ w1 w2, Ms i w1 → Chg [] w1 w2 → Ms i w2) ∧
  ∀ w', Chg T w0 w' → ((wr.contains i || rd.contains i) = true → M w') → Fills w' (looks ops o) 0 env fun vs => Step P ops o ⟨vs.toArray, d⟩ w' fun v w'' => Agree k v w'' ∧ (if wr.contains i = true then Chg T w' w'' ∧ Ms i w'' else Chg [] w' w'')
/-- The walk, in the text's order (R: for which operations a property is given, and which; else there is a value). -/
def wpRel (P : Program) (ops : Array Oper) (w0 : World) (T wr rd : List Nat) (Ms : Nat → World → Prop) (d : List Deferred) (R : Nat → Option (Value → World → Prop)) (Qe : (World → Prop) → List Kn → Prop) : List Oper → Nat → (World → Prop) → List Kn → Prop
  | [], _, M, env => Qe M env
  | o :: rest, i, M, env => ∃ k, Good P ops w0 T wr rd Ms d i o k M env ∧ wpRel P ops w0 T wr rd Ms d R Qe rest (i + 1) (if wr.contains i = true then Ms i else M) (setK env o.dst k)

section
variable {P : Program} {ops : Array Oper} {w0 : World} {T wr rd : List Nat} {Ms : Nat → World → Prop} {d : List Deferred}
/-- What is known behind the first j operations. -/
def envAt (env : List Kn) (l : List Oper) (Ks : List Kn) : Nat → List Kn
  | 0 => env
  | j + 1 => match l[j]?, Ks[j]? with | some o, some k => setK (envAt env l Ks j) o.dst k | _, _ => envAt env l Ks j
/-- What is known of T behind the first j operations (the first of them is number i). -/
def memAt (wr : List Nat) (Ms : Nat → World → Prop) (i : Nat) (M : World → Prop) : Nat → World → Prop
  | 0 => M
  | j + 1 => if wr.contains (i + j) = true then Ms (i + j) else memAt wr Ms i M j
theorem memAt_cons (i : Nat) (M : World → Prop) : ∀ j, memAt wr Ms i M (j + 1) = memAt wr Ms (i + 1) (if wr.contains i = true then Ms i else M) j
  | 0 => rfl
  | j + 1 => by
    rw [memAt, memAt_cons i M j]
    conv => rhs; rw [memAt]
    rw [show i + 1 + j = i + (j + 1) by omega]
theorem memAt_same (M : World → Prop) (i : Nat) : ∀ n, (∀ j, i ≤ j → j < i + n → wr.contains j = false) → memAt wr Ms 0 M (i + n) = memAt wr Ms 0 M i
  | 0, _ => rfl
  | n + 1, h => by
    rw [show i + (n + 1) = (i + n) + 1 by omega, memAt, Nat.zero_add, h (i + n) (by omega) (by omega)]
    exact memAt_same M i n fun j h1 h2 => h j h1 (by omega)
theorem memAt_eq (M : World → Prop) {i j : Nat} (h : ∀ k, (i ≤ k ∧ k < j) ∨ (j ≤ k ∧ k < i) → wr.contains k = false) : memAt wr Ms 0 M i = memAt wr Ms 0 M j := by
  rcases Nat.le_total i j with hij | hij
  · obtain ⟨n, rfl⟩ := Nat.exists_eq_add_of_le hij
    exact (memAt_same M i n fun k h1 h2 => h k (Or.inl ⟨h1, h2⟩)).symm
  · obtain ⟨n, rfl⟩ := Nat.exists_eq_add_of_le hij
    exact memAt_same M j n fun k h1 h2 => h k (Or.inr ⟨h1, h2⟩)
theorem memAt_keep {M : World → Prop} (hM : ∀ w1 w2, M w1 → Chg [] w1 w2 → M w2) {p : Nat} (hMs : ∀ j, j < p → wr.contains j = true → ∀ w1 w2, Ms j w1 → Chg [] w1 w2 → Ms j w2) : ∀ i, i ≤ p → ∀ w1 w2, memAt wr Ms 0 M i w1 → Chg [] w1 w2 → memAt wr Ms 0 M i w2
  | 0, _ => hM
  | i + 1, hi => by
    rw [memAt, Nat.zero_add]
    split
    · rename_i h; exact hMs i (by omega) h
    · exact memAt_keep hM hMs i (by omega)

theorem envAt_cons (env : List Kn) (o : Oper) (l : List Oper) (k : Kn) (Ks : List Kn) : ∀ j, envAt env (o :: l) (k :: Ks) (j + 1) = envAt (setK env o.dst k) l Ks j
  | 0 => rfl
  | j + 1 => by
    rw [envAt, envAt_cons env o l k Ks j]
    rfl

theorem wpRel.out {R : Nat → Option (Value → World → Prop)} {Qe : (World → Prop) → List Kn → Prop} : ∀ {l : List Oper} {i : Nat} {M : World → Prop} {env : List Kn}, wpRel P ops w0 T wr rd Ms d R Qe l i M env →
    ∃ Ks : List Kn, Ks.length = l.length ∧ Qe (memAt wr Ms i M l.length) (envAt env l Ks l.length) ∧ ∀ j o k, l[j]? = some o → Ks[j]? = some k → Good P ops w0 T wr rd Ms d (i + j) o k (memAt wr Ms i M j) (envAt env l Ks j)
  | [], _, M, env, h => ⟨[], rfl, h, fun j o k ho => by simp at ho⟩
  | o :: l, i, M, env, h => by
    obtain ⟨k, h1, h2⟩ := h
    obtain ⟨Ks, g1, g2, g3⟩ := wpRel.out h2
    refine ⟨k :: Ks, by simp [g1], by rw [List.length_cons, envAt_cons, memAt_cons]; exact g2, fun j o' k' ho hk => ?_⟩
    cases j with
    | zero => simp at ho hk; subst ho; subst hk; exact h1
    | succ j => rw [envAt_cons, memAt_cons, show i + (j + 1) = i + 1 + j by omega]; exact g3 j o' k' (by simpa using ho) (by simpa using hk)

theorem setK_length (env : List Kn) (dst : Option Tmp) (k : Kn) : (setK env dst k).length = env.length := by cases dst <;> simp [setK]
theorem envAt_length (env : List Kn) (l : List Oper) (Ks : List Kn) : ∀ j, (envAt env l Ks j).length = env.length
  | 0 => rfl
  | j + 1 => by
    rw [envAt]
    split
    · rw [setK_length]; exact envAt_length env l Ks j
    · exact envAt_length env l Ks j

/-- The last writer of a slot among the first i, or none. -/
theorem envAt_spec (env : List Kn) (l : List Oper) (Ks : List Kn) (hl : Ks.length = l.length) (t : Nat) (ht : t < env.length) : ∀ i, i ≤ l.length →
    (∃ j o, j < i ∧ l[j]? = some o ∧ o.dst = some t ∧ (∀ j' o', j' < i → l[j']? = some o' → o'.dst = some t → j' ≤ j) ∧ (envAt env l Ks i)[t]? = Ks[j]?) ∨
    ((∀ j o, j < i → l[j]? = some o → o.dst ≠ some t) ∧ (envAt env l Ks i)[t]? = env[t]?)
  | 0, _ => Or.inr ⟨fun j _ h => by omega, rfl⟩
  | i + 1, hi => by
    obtain ⟨o, ho⟩ := get_ex (l := l) (k := i) (by omega)
    obtain ⟨k, hk⟩ := get_ex (l := Ks) (k := i) (by omega)
    have he : envAt env l Ks (i + 1) = setK (envAt env l Ks i) o.dst k := by rw [envAt, ho, hk]
    by_cases hd : o.dst = some t
    · left
      refine ⟨i, o, by omega, ho, hd, fun j' _ h _ _ => by omega, ?_⟩
      rw [he, hd, hk]
      simp [setK, envAt_length, ht]
    · have hsame : (envAt env l Ks (i + 1))[t]? = (envAt env l Ks i)[t]? := by
        rw [he]
        cases hdd : o.dst with
        | none => rfl
        | some u =>
          have : u ≠ t := fun e => hd (by rw [hdd, e])
          simp [setK, List.getElem?_set, this]
      rcases envAt_spec env l Ks hl t ht i (by omega) with ⟨j, o1, g1, g2, g3, g4, g5⟩ | ⟨g1, g2⟩
      · left
        refine ⟨j, o1, by omega, g2, g3, fun j' o' h1 h2 h3 => ?_, by rw [hsame]; exact g5⟩
        by_cases hji : j' = i
        · subst hji; rw [ho] at h2; cases h2; exact absurd h3 hd
        · exact g4 j' o' (by omega) h2 h3
      · right
        refine ⟨fun j o' h1 h2 => ?_, by rw [hsame]; exact g2⟩
        by_cases hji : j = i
        · subst hji; rw [ho] at h2; cases h2; exact hd
        · exact g1 j o' (by omega) h2
end

/-- The closed check: every edge leads back; two operations of the first p that touch one slot are ordered by an edge; whatever stands from p on waits for all ahead of it. -/
def relB (l : List Oper) (p : Nat) : Bool :=
  Region.noSelect l.toArray && (List.range l.length).all fun j => match l[j]? with
    | none => true
    | some oj => (oj.after.all fun e => !Region.binds .any e || decide (e.on < j)) &&
      ((List.range j).all fun k => match l[k]? with
        | none => true
        | some ok => (oj.after.any fun e => Region.binds .any e && e.on == k) || (decide (j < p) && Oper.apart l.toArray ok oj))
theorem relB_spec {l : List Oper} {p : Nat} (h : relB l p = true) : (∀ (j : Nat) (o : Oper) cs b, l.toArray[j]? = some o → o.op ≠ .select cs b) ∧
    ∀ j oj, l[j]? = some oj → (∀ e ∈ oj.after, Region.binds .any e = true → e.on < j) ∧
      ∀ k ok, k < j → l[k]? = some ok → (∃ e ∈ oj.after, Region.binds .any e = true ∧ e.on = k) ∨ (j < p ∧ Oper.apart l.toArray ok oj = true) := by
  simp only [relB, Bool.and_eq_true] at h
  refine ⟨fun j o cs b ho => Region.noSelect_spec h.1 j o cs b ho, fun j oj hj => ?_⟩
  have hlt := (List.getElem?_eq_some_iff.1 hj).1
  have h1 := List.all_eq_true.1 h.2 j (by simpa using hlt)
  simp only [hj, Bool.and_eq_true] at h1
  refine ⟨fun e he hb => ?_, fun k ok hk hok => ?_⟩
  · have := Array.all_eq_true_iff_forall_mem.1 h1.1 e he
    simpa [hb] using this
  · have := List.all_eq_true.1 h1.2 k (by simpa using hk)
    simp only [hok, Bool.or_eq_true, Bool.and_eq_true] at this
    rcases this with h2 | h2
    · left
      rw [← Array.any_toList] at h2
      obtain ⟨e, he, hb⟩ := List.any_eq_true.1 h2
      simp at hb
      exact ⟨e, by simpa using he, hb.1, hb.2⟩
    · right; simpa using h2

/-- The closed check on the operations that touch T: one that writes is ordered against each other one. -/
def memB (l : List Oper) (p : Nat) (wr rd : List Nat) : Bool :=
  (List.range p).all fun j => match l[j]? with
    | none => true
    | some oj => (List.range j).all fun k => !((wr.contains j && (wr.contains k || rd.contains k)) || (rd.contains j && wr.contains k)) || (oj.after.any fun e => Region.binds .any e && e.on == k)
theorem memB_spec {l : List Oper} {p : Nat} {wr rd : List Nat} (h : memB l p wr rd = true) : ∀ j oj, j < p → l[j]? = some oj → ∀ k, k < j → ((wr.contains j = true ∧ (wr.contains k = true ∨ rd.contains k = true)) ∨ (rd.contains j = true ∧ wr.contains k = true)) →
    ∃ e ∈ oj.after, Region.binds .any e = true ∧ e.on = k := by
  intro j oj hj hoj k hk hc
  have h1 := List.all_eq_true.1 h j (by simpa using hj)
  simp only [hoj] at h1
  have h2 := List.all_eq_true.1 h1 k (by simpa using hk)
  simp only [Bool.or_eq_true] at h2
  rcases h2 with h2 | h2
  · exfalso
    rcases hc with ⟨a, b | b⟩ | ⟨a, b⟩ <;> simp_all
  · rw [← Array.any_toList] at h2
    obtain ⟨e, he, hb⟩ := List.any_eq_true.1 h2
    simp at hb
    exact ⟨e, by simpa using he, hb.1, hb.2⟩

section
variable {P : Program} {l : List Oper} {w0 : World} {T wr rd : List Nat} {Ms : Nat → World → Prop} {M0 : World → Prop} {d : List Deferred} {Q : Exit → Act → World → Prop}

/-- The tail, from k on, in its one order. -/
theorem wpAny_tail {p : Nat} (hB : ∀ j oj, l[j]? = some oj → (∀ e ∈ oj.after, Region.binds .any e = true → e.on < j) ∧
      ∀ k ok, k < j → l[k]? = some ok → (∃ e ∈ oj.after, Region.binds .any e = true ∧ e.on = k) ∨ (j < p ∧ Oper.apart l.toArray ok oj = true)) :
    ∀ (fuel k : Nat) (listed : Array Bool) (a : Act) (w : World), p ≤ k → l.length ≤ k + fuel → listed.size = l.length → (∀ j, j < l.length → listed.getD j false = decide (j < k)) →
      wpList P l.toArray Q (l.drop k) a w → wpAny P .any l.toArray Q fuel listed a w := by
  intro fuel
  induction fuel with
  | zero =>
    intro k listed a w _ hk hsz hls h
    refine ⟨?_, ?_⟩
    · apply List.eq_nil_iff_forall_not_mem.2
      intro j hj
      obtain ⟨h1, o, ho, _⟩ := mem_ready.1 hj
      have hlt := (Array.getElem?_eq_some_iff.1 ho).1
      simp at hlt
      have := hls j hlt
      have hd : listed.getD j true = listed.getD j false := by simp [hsz, hlt]
      rw [hd, this] at h1
      simp at h1; omega
    · rw [List.drop_of_length_le (by omega)] at h; exact h
  | succ fuel ih =>
    intro k listed a w hp hk hsz hls h
    have hready : ∀ j ∈ Region.ready .any l.toArray listed, j = k := by
      intro j hj
      obtain ⟨h1, o, ho, hall⟩ := mem_ready.1 hj
      have hlt := (Array.getElem?_eq_some_iff.1 ho).1
      simp at hlt
      have hd : listed.getD j true = listed.getD j false := by simp [hsz, hlt]
      rw [hd, hls j hlt] at h1
      simp at h1
      rcases Nat.lt_or_ge k j with hkj | hkj
      · obtain ⟨ok, hok⟩ := get_ex (l := l) (k := k) (by omega)
        rcases (hB j o (by simpa using ho)).2 k ok hkj hok with ⟨e, he, hb, hon⟩ | h2
        · have := hall e he hb
          rw [hon, hls k (by omega)] at this
          simp at this
        · omega
      · omega
    rcases Nat.lt_or_ge k l.length with hkl | hkl
    rotate_left
    · refine ⟨fun _ => by rw [List.drop_of_length_le hkl] at h; exact h, fun j hj => ?_⟩
      obtain rfl := hready j hj
      obtain ⟨_, o, ho, _⟩ := mem_ready.1 hj
      have := (Array.getElem?_eq_some_iff.1 ho).1
      simp at this; omega
    obtain ⟨o, ho⟩ := get_ex (l := l) (k := k) hkl
    refine ⟨fun hr => ?_, fun j hj => ?_⟩
    · exfalso
      have hkr : k ∈ Region.ready .any l.toArray listed := by
        refine mem_ready.2 ⟨?_, o, by simpa using ho, fun e he hb => ?_⟩
        · have : k < l.length := by omega
          have hd : listed.getD k true = listed.getD k false := by simp [hsz, this]
          rw [hd, hls k this]; simp
        · have := (hB k o ho).1 e he hb
          rw [hls e.on (by omega)]; simpa using this
      rw [hr] at hkr; simp at hkr
    · obtain rfl := hready j hj
      rw [drop_of ho] at h
      have hK : ∀ a w, wpList P l.toArray Q (l.drop (j + 1)) a w → wpAny P .any l.toArray Q fuel (listed.setIfInBounds j true) a w := fun a w h' => by
        refine ih (j + 1) _ a w (by omega) (by omega) (by simpa using hsz) (fun i hi => ?_) h'
        by_cases hij : j = i
        · subst hij; have : j < listed.size := by omega
          simp [this]
        · rw [getD_set_ne false hij, hls i hi]; simp; omega
      unfold wpList at h
      unfold wpOp
      have ho' : l.toArray[j]? = some o := by simpa using ho
      simp only [ho']
      split
      · rename_i hw
        simp only [hw, if_true] at h
        exact h.imp (Oper.wp_mono hK) id
      · rename_i hw
        simp only [hw] at h
        exact hK _ _ h

theorem wpAny_rel {p : Nat} {env : List Kn} {Ks : List Kn} (hpl : p ≤ l.length) (hsel : ∀ (j : Nat) (o : Oper) cs b, l.toArray[j]? = some o → o.op ≠ .select cs b)
    (hB : ∀ j oj, l[j]? = some oj → (∀ e ∈ oj.after, Region.binds .any e = true → e.on < j) ∧
      ∀ k ok, k < j → l[k]? = some ok → (∃ e ∈ oj.after, Region.binds .any e = true ∧ e.on = k) ∨ (j < p ∧ Oper.apart l.toArray ok oj = true))
    (hmem : ∀ j oj, j < p → l[j]? = some oj → ∀ k, k < j → ((wr.contains j = true ∧ (wr.contains k = true ∨ rd.contains k = true)) ∨ (rd.contains j = true ∧ wr.contains k = true)) → ∃ e ∈ oj.after, Region.binds .any e = true ∧ e.on = k)
    (hM0 : ∀ w1 w2, M0 w1 → Chg [] w1 w2 → M0 w2)
    (hKs : Ks.length = p) (henv : ∀ k ∈ env, Keeps T k)
    (hgood : ∀ j o k, l[j]? = some o → Ks[j]? = some k → Good P l.toArray w0 T wr rd Ms d j o k (memAt wr Ms 0 M0 j) (envAt env (l.take p) Ks j))
    (hend : ∀ w' (vs : List Value), Chg T w0 w' → memAt wr Ms 0 M0 p w' → vs.length = env.length → (∀ (s : Nat) k v, (envAt env (l.take p) Ks p)[s]? = some k → vs[s]? = some v → Agree k v w') → wpList P l.toArray Q (l.drop p) ⟨vs.toArray, d⟩ w') :
    ∀ (fuel : Nat) (listed : Array Bool) (a : Act) (w : World) (U : List Nat), listed.size = l.length → (∀ j, j < p → listed.getD j false = false → j ∈ U) → U.length + (l.length - p) ≤ fuel →
      (∀ j, p ≤ j → listed.getD j false = false) → (∀ j oj, l[j]? = some oj → listed.getD j false = true → ∀ e ∈ oj.after, Region.binds .any e = true → listed.getD e.on false = true) →
      Chg T w0 w → (∃ i0, i0 ≤ p ∧ (∀ j, j < p → wr.contains j = true → (listed.getD j false = true ↔ j < i0)) ∧ memAt wr Ms 0 M0 i0 w) → a.defers = d → a.tmps.size = env.length →
      (∀ t v, a.tmps[t]? = some v →
        (∀ j o k, l[j]? = some o → o.dst = some t → listed.getD j false = true → (∀ j' o', l[j']? = some o' → o'.dst = some t → listed.getD j' false = true → j' ≤ j) → Ks[j]? = some k → Agree k v w) ∧
        ((∀ j o, l[j]? = some o → o.dst = some t → listed.getD j false = false) → ∀ k, env[t]? = some k → Agree k v w)) →
      wpAny P .any l.toArray Q fuel listed a w := by
  have hMs : ∀ j, j < p → wr.contains j = true → ∀ w1 w2, Ms j w1 → Chg [] w1 w2 → Ms j w2 := fun j hj hw => by
    obtain ⟨o, ho⟩ := get_ex (l := l) (k := j) (by omega)
    obtain ⟨k, hk⟩ := get_ex (l := Ks) (k := j) (by omega)
    exact (hgood j o k ho hk).2.1 hw
  have hfin : ∀ (fuel : Nat) (listed : Array Bool) (a : Act) (w : World), l.length - p ≤ fuel → listed.size = l.length → (∀ j, j < p → listed.getD j false = true) → (∀ j, p ≤ j → listed.getD j false = false) →
      Chg T w0 w → (∃ i0, i0 ≤ p ∧ (∀ j, j < p → wr.contains j = true → (listed.getD j false = true ↔ j < i0)) ∧ memAt wr Ms 0 M0 i0 w) → a.defers = d → a.tmps.size = env.length →
      (∀ t v, a.tmps[t]? = some v →
        (∀ j o k, l[j]? = some o → o.dst = some t → listed.getD j false = true → (∀ j' o', l[j']? = some o' → o'.dst = some t → listed.getD j' false = true → j' ≤ j) → Ks[j]? = some k → Agree k v w) ∧
        ((∀ j o, l[j]? = some o → o.dst = some t → listed.getD j false = false) → ∀ k, env[t]? = some k → Agree k v w)) →
      wpAny P .any l.toArray Q fuel listed a w := by
    intro fuel listed a w hf hsz hall hlate hc hmm hd htm hinv
    refine wpAny_tail hB fuel p listed a w (Nat.le_refl _) (by omega) hsz (fun j hj => ?_) ?_
    · rcases Nat.lt_or_ge j p with h | h
      · rw [hall j h]; simpa using h
      · rw [hlate j h]; simp; omega
    · have ha : a = ⟨a.tmps.toList.toArray, d⟩ := by cases a; simp at hd ⊢; exact hd
      have hmp : memAt wr Ms 0 M0 p w := by
        obtain ⟨i0, h1, h2, h3⟩ := hmm
        rw [memAt_eq M0 (i := p) (j := i0) fun k hk => ?_]
        · exact h3
        · cases hkw : wr.contains k with
          | false => rfl
          | true =>
            have hkp : k < p := by omega
            have := (h2 k hkp hkw).1 (hall k hkp)
            omega
      rw [ha]
      refine hend w a.tmps.toList hc hmp (by simpa using htm) fun s k v hk hv => ?_
      have hv' : a.tmps[s]? = some v := by simpa using hv
      have hsl : s < env.length := by
        have := (List.getElem?_eq_some_iff.1 hv).1
        simp at this; omega
      rcases envAt_spec env (l.take p) Ks (by simp; omega) s hsl p (by simp; omega) with ⟨j, o1, g1, g2, g3, g4, g5⟩ | ⟨g1, g2⟩
      · rw [g5] at hk
        have g2' : l[j]? = some o1 := by rw [List.getElem?_take] at g2; simpa [g1] using g2
        refine (hinv s v hv').1 j o1 k g2' g3 (hall j g1) (fun j' o' h1 h2 h3 => ?_) hk
        have hj'p : j' < p := by
          rcases Nat.lt_or_ge j' p with h | h
          · exact h
          · rw [hlate j' h] at h3; cases h3
        exact g4 j' o' hj'p (by rw [List.getElem?_take]; simpa [hj'p] using h1) h2
      · rw [g2] at hk
        refine (hinv s v hv').2 (fun j o1 h1 h2 => ?_) k hk
        rcases Nat.lt_or_ge j p with h | h
        · exact absurd h2 (g1 j o1 h (by rw [List.getElem?_take]; simpa [h] using h1))
        · exact hlate j h
  intro fuel
  induction fuel with
  | zero =>
    intro listed a w U hsz hU hlen hlate hdown hc hmm hd htm hinv
    have hall : ∀ j, j < p → listed.getD j false = true := fun j hj => by
      cases hl : listed.getD j false with
      | true => rfl
      | false => have hu := hU j hj hl; have : U = [] := List.eq_nil_of_length_eq_zero (by omega); rw [this] at hu; simp at hu
    exact hfin 0 listed a w (by omega) hsz hall hlate hc hmm hd htm hinv
  | succ fuel ih =>
    intro listed a w U hsz hU hlen hlate hdown hc hmm hd htm hinv
    by_cases hall : ∀ j, j < p → listed.getD j false = true
    · exact hfin _ listed a w (by omega) hsz hall hlate hc hmm hd htm hinv
    · have hsome : ∃ j, j < p ∧ listed.getD j false = false ∧ ∀ i, i < j → listed.getD i false = true := by
        have key : ∀ n, (∃ j, j < n ∧ listed.getD j false = false) → ∃ j, j < n ∧ listed.getD j false = false ∧ ∀ i, i < j → listed.getD i false = true := by
          intro n
          induction n with
          | zero => rintro ⟨j, hj, _⟩; omega
          | succ n ih =>
            rintro ⟨j, hj, hjf⟩
            by_cases hex : ∃ j, j < n ∧ listed.getD j false = false
            · obtain ⟨j1, h1, h2, h3⟩ := ih hex
              exact ⟨j1, by omega, h2, h3⟩
            · refine ⟨j, hj, hjf, fun i hi => ?_⟩
              cases hli : listed.getD i false with
              | true => rfl
              | false => exact absurd ⟨i, by omega, hli⟩ hex
        refine key p ?_
        apply Classical.byContradiction
        intro hne
        refine hall fun j hj => ?_
        cases hlj : listed.getD j false with
        | true => rfl
        | false => exact absurd ⟨j, hj, hlj⟩ hne
      obtain ⟨j0, hj0, hj0f, hj0m⟩ := hsome
      have hgd0 : ∀ j, j < l.length → listed.getD j true = listed.getD j false := fun j hj => by simp [hsz, hj]
      refine ⟨fun hr => ?_, fun i hi => ?_⟩
      · exfalso
        obtain ⟨o0, ho0⟩ := get_ex (l := l) (k := j0) (by omega)
        have : j0 ∈ Region.ready .any l.toArray listed :=
          mem_ready.2 ⟨by rw [hgd0 j0 (by omega)]; exact hj0f, o0, by simpa using ho0, fun e he hb => hj0m _ ((hB j0 o0 ho0).1 e he hb)⟩
        rw [hr] at this; simp at this
      · obtain ⟨hi1, o, ho, hiall⟩ := mem_ready.1 hi
        have ho' : l[i]? = some o := by simpa using ho
        have hil := (List.getElem?_eq_some_iff.1 ho').1
        have hi2 : listed.getD i false = false := by rw [← hgd0 i hil]; exact hi1
        have hip : i < p := by
          rcases Nat.lt_or_ge i p with h | h
          · exact h
          · obtain ⟨ok, hok⟩ := get_ex (l := l) (k := j0) (by omega)
            rcases (hB i o ho').2 j0 ok (by omega) hok with ⟨e, he, hb, hon⟩ | h2
            · have := hiall e he hb
              rw [hon, hj0f] at this; cases this
            · omega
        obtain ⟨k, hk⟩ := get_ex (l := Ks) (k := i) (by omega)
        obtain ⟨hkeep, hmk, hgd⟩ := hgood i o k ho' hk
        have hwr : ∀ t, looks l.toArray o t = true → ∀ j oj, l[j]? = some oj → oj.dst = some t → j ≠ i → (j < i → listed.getD j false = true) ∧ (i < j → listed.getD j false = false) := by
          intro t ht j oj hoj hdj hne
          have ht' : t ∈ o.looksAt l.toArray := by simpa [looks] using ht
          refine ⟨fun hji => ?_, fun hij => ?_⟩
          · rcases (hB i o ho').2 j oj hji hoj with ⟨e, he, hb, hon⟩ | h2
            · rw [← hon]; exact hiall e he hb
            · exact absurd ht' ((Oper.apart_spec h2.2).1 t hdj)
          · cases hlj : listed.getD j false with
            | false => rfl
            | true =>
              rcases (hB j oj hoj).2 i o hij ho' with ⟨e, he, hb, hon⟩ | h2
              · have := hdown j oj hoj hlj e he hb
                rw [hon, hi2] at this; cases this
              · exact absurd ht' ((Oper.apart_spec h2.2).2.2 t hdj)
        have hwi : ∀ j oj t, l[j]? = some oj → o.dst = some t → oj.dst = some t → i < j → listed.getD j false = false := by
          intro j oj t hoj hdo hdj hij
          cases hlj : listed.getD j false with
          | false => rfl
          | true =>
            rcases (hB j oj hoj).2 i o hij ho' with ⟨e, he, hb, hon⟩ | h2
            · have := hdown j oj hoj hlj e he hb
              rw [hon, hi2] at this; cases this
            · exact absurd hdj ((Oper.apart_spec h2.2).2.1 t hdo)
        obtain ⟨i0, hi0p, hi0, hmi⟩ := hmm
        -- the operations that write T: those ahead of i are listed, those behind are not, where i touches T
        have hbef : (wr.contains i = true ∨ rd.contains i = true) → ∀ j, j < i → wr.contains j = true → listed.getD j false = true := by
          intro hti j hji hjw
          obtain ⟨e, he, hb, hon⟩ := hmem i o hip ho' j hji (by rcases hti with h | h; exact Or.inl ⟨h, Or.inl hjw⟩; exact Or.inr ⟨h, hjw⟩)
          rw [← hon]; exact hiall e he hb
        have haft : (wr.contains i = true ∨ rd.contains i = true) → ∀ j, i < j → j < p → wr.contains j = true → listed.getD j false = false := by
          intro hti j hij hjp hjw
          obtain ⟨oj, hoj⟩ := get_ex (l := l) (k := j) (by omega)
          cases hlj : listed.getD j false with
          | false => rfl
          | true =>
            obtain ⟨e, he, hb, hon⟩ := hmem j oj hjp hoj i hij (Or.inl ⟨hjw, hti⟩)
            have := hdown j oj hoj hlj e he hb
            rw [hon, hi2] at this; cases this
        have hMi : (wr.contains i || rd.contains i) = true → memAt wr Ms 0 M0 i w := by
          intro hti
          have hti' : wr.contains i = true ∨ rd.contains i = true := by simpa using hti
          rw [memAt_eq M0 (i := i) (j := i0) fun k hk => ?_]
          · exact hmi
          · cases hkw : wr.contains k with
            | false => rfl
            | true =>
              have hkp : k < p := by omega
              rcases hk with ⟨h1, h2⟩ | ⟨h1, h2⟩
              · have hl := (hi0 k hkp hkw).2 h2
                rcases Nat.lt_or_ge i k with h3 | h3
                · rw [haft hti' k h3 hkp hkw] at hl; cases hl
                · obtain rfl : i = k := by omega
                  rw [hi2] at hl; cases hl
              · have := (hi0 k hkp hkw).1 (hbef hti' k h2 hkw)
                omega
        obtain ⟨us, hstep, hul, hus⟩ := (hgd w hc hMi).inst (vs := a.tmps.toList) (by rw [envAt_length]; simpa using htm) (fun s k' v hk' hv hs => by
          have hs' : looks l.toArray o s = true := by simpa using hs
          have hv' : a.tmps[s]? = some v := by simpa using hv
          have hsl : s < env.length := by
            have := (List.getElem?_eq_some_iff.1 hv).1
            simp at this; omega
          rcases envAt_spec env (l.take p) Ks (by simp; omega) s hsl i (by simp; omega) with ⟨j, o1, g1, g2, g3, g4, g5⟩ | ⟨g1, g2⟩
          · rw [g5] at hk'
            have g2' : l[j]? = some o1 := by rw [List.getElem?_take] at g2; simpa [show j < p by omega] using g2
            refine (hinv s v hv').1 j o1 k' g2' g3 ((hwr s hs' j o1 g2' g3 (by omega)).1 g1) (fun j' o' h1 h2 h3 => ?_) hk'
            have hne : j' ≠ i := fun e => by rw [e, hi2] at h3; cases h3
            rcases Nat.lt_or_ge j' i with h | h
            · exact g4 j' o' h (by rw [List.getElem?_take]; simpa [show j' < p by omega] using h1) h2
            · rw [(hwr s hs' j' o' h1 h2 hne).2 (by omega)] at h3; cases h3
          · rw [g2] at hk'
            refine (hinv s v hv').2 (fun j o1 h1 h2 => ?_) k' hk'
            by_cases hne : j = i
            · rw [hne]; exact hi2
            · rcases Nat.lt_or_ge j i with h | h
              · exact absurd h2 (g1 j o1 h (by rw [List.getElem?_take]; simpa [show j < p by omega] using h1))
              · exact (hwr s hs' j o1 h1 h2 hne).2 (by omega))
        have hcg : ∀ t ∈ o.looksAt l.toArray, (⟨us.toArray, d⟩ : Act).tmps[t]? = a.tmps[t]? := fun t ht => by
          have := hus t (by simp [looks]; exact ht)
          simpa using this
        have hsame : ∀ j, j ≠ i → (listed.setIfInBounds i true).getD j false = listed.getD j false := fun j hj => getD_set_ne false (Ne.symm hj)
        have hseti : (listed.setIfInBounds i true).getD i false = true := by simp [hsz, hil]
        refine Step.wpOp (R := fun v w'' => Agree k v w'' ∧ (if wr.contains i = true then Chg T w w'' ∧ Ms i w'' else Chg [] w w'')) ho (Step.congr (fun cs b => hsel i o cs b ho) hcg hstep) fun v w'' ⟨hv, hcw0⟩ => ?_
        have hcw : Chg T w w'' := by
          by_cases hwi' : wr.contains i = true
          · rw [if_pos hwi'] at hcw0; exact hcw0.1
          · rw [if_neg hwi'] at hcw0; exact hcw0.any T
        refine ih (listed.setIfInBounds i true) (a.put o.dst v) w'' (U.erase i) (by simpa using hsz) (fun j hj hjf => ?_) ?_ (fun j hj => ?_) (fun j oj hoj hjl e he hb => ?_) (hc.trans hcw) ?_ ?_ ?_ ?_
        · have hne : j ≠ i := fun e => by rw [e, hseti] at hjf; cases hjf
          rw [hsame j hne] at hjf
          exact (List.mem_erase_of_ne hne).2 (hU j hj hjf)
        · have hm := hU i hip hi2
          have := List.length_erase_of_mem hm
          have hpos : 0 < U.length := List.length_pos_of_mem hm
          omega
        · rw [hsame j (by omega)]; exact hlate j hj
        · by_cases hne : j = i
          · subst hne
            rw [ho'] at hoj; cases hoj
            exact getD_set_true (hiall e he hb)
          · rw [hsame j hne] at hjl
            exact getD_set_true (hdown j oj hoj hjl e he hb)
        · by_cases hwi' : wr.contains i = true
          · rw [if_pos hwi'] at hcw0
            refine ⟨i + 1, by omega, fun j hj hjw => ?_, by rw [memAt, Nat.zero_add, if_pos hwi']; exact hcw0.2⟩
            by_cases hne : j = i
            · subst hne; rw [hseti]; simp
            · rw [hsame j hne]
              rcases Nat.lt_or_ge j i with h | h
              · rw [hbef (Or.inl hwi') j h hjw]; simp; omega
              · rw [haft (Or.inl hwi') j (by omega) hj hjw]; simp; omega
          · rw [if_neg hwi'] at hcw0
            refine ⟨i0, hi0p, fun j hj hjw => ?_, memAt_keep hM0 hMs i0 hi0p _ _ hmi hcw0⟩
            have hne : j ≠ i := fun e => hwi' (by rw [← e]; exact hjw)
            rw [hsame j hne]
            exact hi0 j hj hjw
        · cases hdd : o.dst <;> simpa [Act.put] using hd
        · cases hdd : o.dst <;> simpa [Act.put] using htm
        · intro t v0 hv0
          by_cases hdt : o.dst = some t
          · have hv0' : v0 = v := by
              simp only [hdt, Act.put] at hv0
              have hlt := (Array.getElem?_eq_some_iff.1 hv0).1
              simp at hlt
              simp [hlt] at hv0
              exact hv0.symm
            subst hv0'
            refine ⟨fun j o1 k' h1 h2 h3 h4 h5 => ?_, fun hall' => ?_⟩
            · have hij : i ≤ j := h4 i o ho' hdt hseti
              have hji : j = i := by
                apply Classical.byContradiction
                intro hne
                rw [hsame j hne, hwi j o1 t h1 hdt h2 (by omega)] at h3
                cases h3
              subst hji
              rw [hk] at h5; cases h5
              exact hv
            · have := hall' i o ho' hdt
              rw [hseti] at this; cases this
          · have hv0' : a.tmps[t]? = some v0 := by
              cases hdd : o.dst with
              | none => simpa [hdd, Act.put] using hv0
              | some u =>
                have : u ≠ t := fun e => hdt (by rw [hdd, e])
                simpa [hdd, Act.put, Array.getElem?_setIfInBounds_ne this] using hv0
            refine ⟨fun j o1 k' h1 h2 h3 h4 h5 => ?_, fun hall' k' hk' => ?_⟩
            · have hne : j ≠ i := fun e => by subst e; rw [ho'] at h1; cases h1; exact hdt h2
              rw [hsame j hne] at h3
              have hA := (hinv t v0 hv0').1 j o1 k' h1 h2 h3 (fun j' o' g1 g2 g3 => h4 j' o' g1 g2 (getD_set_true g3)) h5
              exact (hgood j o1 k' h1 h5).1 _ _ _ hA hcw
            · have hA := (hinv t v0 hv0').2 (fun j o1 h1 h2 => by
                have := hall' j o1 h1 h2
                by_cases hne : j = i
                · rw [hne]; exact hi2
                · rwa [hsame j hne] at this) k' hk'
              exact henv k' (List.mem_of_getElem? hk') _ _ _ hA hcw

/-- **THE RULE.** -/
theorem wp_region_mem {id : Nat} {a : Act} {w : World} (p : Nat) (T wr rd : List Nat) (Ms : Nat → World → Prop) (R : Nat → Option (Value → World → Prop)) (hm : P.follows .mixedOrders = true) (hB : relB l p = true) (hT : memB l p wr rd = true) (hpl : p ≤ l.length)
    (h : wpRel P l.toArray w T wr rd Ms a.defers R (fun M env => ∀ w', Chg T w w' → M w' → Fills w' (fun _ => true) 0 env fun vs => wpList P l.toArray Q (l.drop p) ⟨vs.toArray, a.defers⟩ w') (l.take p) 0 (fun w' => Chg [] w w') (a.tmps.toList.map .inl)) :
    (Code.region id l.toArray true).wp P Q a w := by
  obtain ⟨hsel, hB'⟩ := relB_spec hB
  obtain ⟨Ks, h1, h2, h3⟩ := wpRel.out h
  have hlp : (l.take p).length = p := by simp; omega
  refine wp_region_any hm (wpAny_rel (p := p) (env := a.tmps.toList.map .inl) (Ks := Ks) (T := T) (wr := wr) (rd := rd) (Ms := Ms) (M0 := fun w' => Chg [] w w') hpl hsel hB' (memB_spec hT) (fun _ _ h k => h.trans k) (by omega) ?_ ?_ ?_ _ _ _ _ (List.range p) (by simp) ?_ (by simp; omega) ?_ ?_ (Chg.refl _ _).drew ⟨0, Nat.zero_le _, ?_, (Chg.refl _ _).drew⟩ rfl (by simp) ?_)
  · intro k hk
    obtain ⟨v, _, rfl⟩ := List.mem_map.1 hk
    exact fun _ _ _ ha _ => ha
  · intro j o k hj hk
    have hjp : j < p := by have := (List.getElem?_eq_some_iff.1 hk).1; omega
    have := h3 j o k (by rw [List.getElem?_take]; simpa [hjp] using hj) hk
    rwa [Nat.zero_add] at this
  · intro w' vs hc hmm hl hag
    rw [hlp] at h2
    obtain ⟨us, g1, g2, g3⟩ := (h2 w' hc hmm).inst (vs := vs) (by rw [envAt_length]; exact hl) (fun s k v hk hv _ => hag s k v hk hv)
    have : us = vs := List.ext_getElem? fun i => g3 i rfl
    rw [← this]; exact g1
  · intro j hj _; simpa using hj
  · intro j hj
    rcases Nat.lt_or_ge j l.length with h | h <;> simp [h]
  · intro j oj hoj hl
    rcases Nat.lt_or_ge j l.length with h | h <;> simp [h] at hl
  · intro j hj _
    rcases Nat.lt_or_ge j l.length with h | h <;> simp [h]
  · intro t v hv
    refine ⟨fun j o k hoj _ hl => ?_, fun _ k hk => ?_⟩
    · rcases Nat.lt_or_ge j l.length with h | h <;> simp [h] at hl
    · rw [List.getElem?_map] at hk
      simp at hk
      obtain ⟨v', hv', rfl⟩ := hk
      rw [hv] at hv'; cases hv'
      rfl
/-- The rule where nothing that was there is changed. -/
theorem wp_region_rel {id : Nat} {a : Act} {w : World} (p : Nat) (R : Nat → Option (Value → World → Prop)) (hm : P.follows .mixedOrders = true) (hB : relB l p = true) (hpl : p ≤ l.length)
    (h : wpRel P l.toArray w [] [] [] (fun _ _ => True) a.defers R (fun M env => ∀ w', Chg [] w w' → M w' → Fills w' (fun _ => true) 0 env fun vs => wpList P l.toArray Q (l.drop p) ⟨vs.toArray, a.defers⟩ w') (l.take p) 0 (fun w' => Chg [] w w') (a.tmps.toList.map .inl)) :
    (Code.region id l.toArray true).wp P Q a w :=
  wp_region_mem p [] [] [] (fun _ _ => True) R hm hB (by
    unfold memB
    rw [List.all_eq_true]
    intro j _
    cases l[j]? with
    | none => rfl
    | some oj => simp) hpl h

/-- One operation with a value. -/
theorem wpRel_det {ops : Array Oper} {R : Nat → Option (Value → World → Prop)} {Qe : (World → Prop) → List Kn → Prop} {o : Oper} {rest : List Oper} {i : Nat} {M : World → Prop} {env : List Kn} (hR : R i = none) (hw : (wr.contains i || rd.contains i) = false)
    (h : ∀ K : List Kn → Prop, (∀ env, wpRel P ops w0 T wr rd Ms d R Qe rest (i + 1) M env → K env) →
      ∃ e, (∀ w', Chg T w0 w' → Fills w' (looks ops o) 0 env fun vs => Step P ops o ⟨vs.toArray, d⟩ w' fun v w'' => v = e ∧ Chg [] w' w'') ∧ K (setK env o.dst (.inl e))) : wpRel P ops w0 T wr rd Ms d R Qe (o :: rest) i M env := by
  have hwr : wr.contains i = false := by simp only [Bool.or_eq_false_iff] at hw; exact hw.1
  obtain ⟨e, h1, h2⟩ := h _ fun _ h => h
  refine ⟨.inl e, ⟨fun v w1 w2 ha _ => ha, (fun h => by rw [hwr] at h; cases h), fun w' hc _ => ?_⟩, ?_⟩
  · simp only [hwr]; exact h1 w' hc
  · simp only [hwr]; exact h2
/-- One operation with a property. -/
theorem wpRel_rel {ops : Array Oper} {R : Nat → Option (Value → World → Prop)} {Qe : (World → Prop) → List Kn → Prop} {o : Oper} {rest : List Oper} {i : Nat} {M : World → Prop} {env : List Kn} {Φ : Value → World → Prop} (hR : R i = some Φ) (hw : (wr.contains i || rd.contains i) = false)
    (hk : ∀ v w1 w2, Φ v w1 → Chg T w1 w2 → Φ v w2)
    (hs : ∀ w', Chg T w0 w' → Fills w' (looks ops o) 0 env fun vs => Step P ops o ⟨vs.toArray, d⟩ w' fun v w'' => Φ v w'' ∧ Chg [] w' w'')
    (h : ∀ K : List Kn → Prop, (∀ env, wpRel P ops w0 T wr rd Ms d R Qe rest (i + 1) M env → K env) → K (setK env o.dst (.inr Φ))) : wpRel P ops w0 T wr rd Ms d R Qe (o :: rest) i M env := by
  have hwr : wr.contains i = false := by simp only [Bool.or_eq_false_iff] at hw; exact hw.1
  refine ⟨.inr Φ, ⟨hk, (fun h => by rw [hwr] at h; cases h), fun w' hc _ => ?_⟩, ?_⟩
  · simp only [hwr]; exact hs w' hc
  · simp only [hwr]; exact h _ fun _ h => h
/-- One operation that reads T, with a value. -/
theorem wpRel_rd {ops : Array Oper} {R : Nat → Option (Value → World → Prop)} {Qe : (World → Prop) → List Kn → Prop} {o : Oper} {rest : List Oper} {i : Nat} {M : World → Prop} {env : List Kn} (hR : R i = none) (hw : wr.contains i = false)
    (h : ∀ K : List Kn → Prop, (∀ env, wpRel P ops w0 T wr rd Ms d R Qe rest (i + 1) M env → K env) →
      ∃ e, (∀ w', Chg T w0 w' → ((wr.contains i || rd.contains i) = true → M w') → Fills w' (looks ops o) 0 env fun vs => Step P ops o ⟨vs.toArray, d⟩ w' fun v w'' => v = e ∧ Chg [] w' w'') ∧ K (setK env o.dst (.inl e))) : wpRel P ops w0 T wr rd Ms d R Qe (o :: rest) i M env := by
  obtain ⟨e, h1, h2⟩ := h _ fun _ h => h
  refine ⟨.inl e, ⟨fun v w1 w2 ha _ => ha, (fun h => by rw [hw] at h; cases h), fun w' hc hM => ?_⟩, ?_⟩
  · have := h1 w' hc hM
    rw [hw]; exact this
  · rw [hw]; exact h2
/-- One operation that writes T, with a value (or none). -/
theorem wpRel_wr {ops : Array Oper} {R : Nat → Option (Value → World → Prop)} {Qe : (World → Prop) → List Kn → Prop} {o : Oper} {rest : List Oper} {i : Nat} {M : World → Prop} {env : List Kn} (hR : R i = none) (hw : wr.contains i = true)
    (hk : ∀ w1 w2, Ms i w1 → Chg [] w1 w2 → Ms i w2)
    (h : ∀ K : List Kn → Prop, (∀ env, wpRel P ops w0 T wr rd Ms d R Qe rest (i + 1) (Ms i) env → K env) →
      ∃ e, (∀ w', Chg T w0 w' → M w' → Fills w' (looks ops o) 0 env fun vs => Step P ops o ⟨vs.toArray, d⟩ w' fun v w'' => v = e ∧ Chg T w' w'' ∧ Ms i w'') ∧ K (setK env o.dst (.inl e))) : wpRel P ops w0 T wr rd Ms d R Qe (o :: rest) i M env := by
  obtain ⟨e, h1, h2⟩ := h _ fun _ h => h
  refine ⟨.inl e, ⟨fun v w1 w2 ha _ => ha, fun _ => hk, fun w' hc hM => ?_⟩, ?_⟩
  · simp only [hw]; exact h1 w' hc (hM (by rw [hw]; rfl))
  · simp only [hw]; exact h2
theorem wpRel_nil {ops : Array Oper} {R : Nat → Option (Value → World → Prop)} {Qe : (World → Prop) → List Kn → Prop} {i : Nat} {M : World → Prop} {env : List Kn} (h : Qe M env) : wpRel P ops w0 T wr rd Ms d R Qe [] i M env := h
/-- A call's contract as a step. -/
theorem step_call {f : FuncId} {args : Array Value} {w' : World} {v : Value} (h : Calls P f args w' fun e w'' => e = .returned v ∧ Chg [] w' w'') :
    Calls P f args w' fun e w'' => ∃ u, e = .returned u ∧ u = v ∧ Chg [] w' w'' := h.mono fun _ _ ⟨he, hc⟩ => ⟨v, he, rfl, hc⟩
theorem step_call_same {f : FuncId} {args : Array Value} {w' : World} {v : Value} (h : Calls P f args w' fun e w'' => e = .returned v ∧ w' = w'') :
    Calls P f args w' fun e w'' => ∃ u, e = .returned u ∧ u = v ∧ Chg [] w' w'' := h.mono fun _ _ ⟨he, hc⟩ => ⟨v, he, rfl, hc ▸ Chg.refl _ _⟩
theorem step_call_qt {f : FuncId} {args : Array Value} {w' : World} {v : Value} (h : Calls P f args w' fun e w'' => e = .returned v ∧ Qt w' w'') :
    Calls P f args w' fun e w'' => ∃ u, e = .returned u ∧ u = v ∧ Chg [] w' w'' := h.mono fun _ _ ⟨he, hc⟩ => ⟨v, he, rfl, hc.chg []⟩
end

theorem Fills_val {w : World} {lk : Nat → Bool} {t : Nat} {e : Value} {ks : List Kn} {G : List Value → Prop} (h : Fills w lk (t + 1) ks fun vs => G (e :: vs)) : Fills w lk t (.inl e :: ks) G := h
theorem Fills_no {w : World} {lk : Nat → Bool} {t : Nat} {Φ : Value → World → Prop} {ks : List Kn} {G : List Value → Prop} (hl : lk t = false) (h : Fills w lk (t + 1) ks fun vs => G (undef :: vs)) : Fills w lk t (.inr Φ :: ks) G := by
  unfold Fills; rw [hl]; exact h
theorem Fills_yes {w : World} {lk : Nat → Bool} {t : Nat} {Φ : Value → World → Prop} {ks : List Kn} {G : List Value → Prop} (hl : lk t = true) (h : ∀ v, Φ v w → Fills w lk (t + 1) ks fun vs => G (v :: vs)) : Fills w lk t (.inr Φ :: ks) G := by
  unfold Fills; rw [hl]; exact h
theorem Fills_end {w : World} {lk : Nat → Bool} {t : Nat} {G : List Value → Prop} (h : G []) : Fills w lk t [] G := h

/-- A new block, known whole, and a slice over it. -/
def IsNew (e n : Nat) (cs : Array Value) (v : Value) (w : World) : Prop := ∃ b, v = .slice (some ⟨b, 0, none⟩) n n ∧ w.heap[b]? = some (.cells cs e (0, 0))
theorem IsNew.keep {e n : Nat} {cs : Array Value} : ∀ v w1 w2, IsNew e n cs v w1 → Chg [] w1 w2 → IsNew e n cs v w2 := fun _ _ _ ⟨b, h1, h2⟩ hc => ⟨b, h1, by rw [hc.block b (lt_of_block h2) (by simp)]; exact h2⟩
theorem IsNew.made (w : World) (e n : Nat) (cs : Array Value) : IsNew e n cs (.slice (some ⟨w.heap.size, 0, none⟩) n n) (w.alloc (.cells cs e)) ∧ Chg [] w (w.alloc (.cells cs e)) := ⟨⟨_, rfl, heap_alloc_new w _⟩, (Chg.refl _ _).alloc _⟩
theorem IsNew.bytes {P : Program} {v : Value} {w : World} {e n : Nat} {cs : Array Value} (h : IsNew e n cs v w) (src dst : TypeId) (hs : P.underlying src = some (.slice e)) (he : P.underlying e = some (.int .u8)) (hd : P.underlying dst = some .string)
    (zs : List Int) (hcs : cs.toList = zs.map (Value.int .u8)) (hz : ∀ z ∈ zs, 0 ≤ z ∧ z < 256) (hn : zs.length = n) : (convert src dst v).run P w = .ok (.string ⟨(zs.map fun z => UInt8.ofNat z.toNat).toArray⟩) w := by
  obtain ⟨b, rfl, hb⟩ := h
  exact run_bytes_block w src dst e hs he hd hb zs hcs hz hn
/-- A slice without room: '[]T{}'. -/
def IsVac (v : Value) (_ : World) : Prop := ∃ ao, v = .slice ao 0 0
theorem IsVac.keep {T : List Nat} : ∀ v w1 w2, IsVac v w1 → Chg T w1 w2 → IsVac v w2 := fun _ _ _ h _ => h
/-- An owned slice in blocks from lo on. -/
def IsOwn (lo e k n : Nat) (xs : List Value) (v : Value) (w : World) : Prop := ∃ ao c S, v = .slice ao n c ∧ Own w e k ao n c xs S ∧ ∀ x ∈ S, lo ≤ x
theorem IsOwn.keep {lo e k n : Nat} {xs : List Value} : ∀ v w1 w2, IsOwn lo e k n xs v w1 → Chg [] w1 w2 → IsOwn lo e k n xs v w2 := fun _ _ _ ⟨ao, c, S, h1, h2, h3⟩ hc => ⟨ao, c, S, h1, h2.ext hc, h3⟩
/-- A block that is known whole. -/
theorem block_ext {w w' : World} {b : Nat} {o : Obj} (h : w.heap[b]? = some o) (hc : Chg [] w w') : w'.heap[b]? = some o := by rw [hc.block b (lt_of_block h) (by simp)]; exact h
theorem block_chg {w w' : World} {S : List Nat} {b : Nat} {o : Obj} (h : w.heap[b]? = some o) (hc : Chg S w w') (hb : b ∉ S) : w'.heap[b]? = some o := by rw [hc.block b (lt_of_block h) hb]; exact h
theorem block_cells {w : World} {b : Nat} {cs : Array Value} {t : TypeId} (h : w.heap[b]? = some (.cells cs t (0, 0))) : (∀ o, w.cell? ⟨b, o, none⟩ = cs[o]?) ∧ (∀ o, w.frozen? ⟨b, o, none⟩ = false) :=
  ⟨fun o => cell_of_row w b o cs t (0, 0) h, fun o => by simp [World.frozen?, h]⟩
theorem box_set {w : World} {b j : Nat} {cs : Array Value} {t : TypeId} (h : w.heap[b]? = some (.cells cs t (0, 0))) (u : Value) : (w.setCell ⟨b, j, none⟩ u).heap[b]? = some (.cells (cs.setIfInBounds j u) t (0, 0)) := heap_setCell_same w b j cs t u h
/-- 'append([]T{}, xs..)' as a step. -/
theorem step_append_none {P : Program} {ops : Array Oper} {o : Oper} {a : Act} {w : World} {R : Value → World → Prop} (hgd : o.guard = none) (s x : Operand) (t : TypeId)
    (ho : o.op = .call { callee := .builtin .append, args := #[s, x], argTypes := #[t, t] })
    {e k bt : Nat} {z : Value} (het : ET P t e k bt z) {ao : Option Addr} (hs : a.eval s = .slice ao 0 0)
    {bo : Option Addr} {m c2 : Nat} {news : List Value} (hx : a.eval x = .slice bo m c2) (hsrc : Src w bo news) (hl : news.length = m * k) (h1 : ∀ u ∈ news, u.oneCell' = true)
    (hb : m * bt ≤ 140737488355328) (h63 : m ≤ 9223372036854775807)
    (h : ∀ ao' c' S' w', Own w' e k ao' m c' news S' → Chg [] w w' → (∀ y ∈ S', w.heap.size ≤ y) → R (.slice ao' m c') w') : Step P ops o a w R := by
  obtain ⟨ao', c', S', w', hrun, r1, r2, r3⟩ := run_append_none (P := P) (t := t) (ty := o.type) (c2 := c2) het ao hsrc hl h1 hb h63
  unfold Step
  rw [if_pos (by simp [Region.wanted, hgd])]
  simp [execOp, ho, resolve, invoke, builtin, hs, hx, hrun, Result.andThen, StepUpon]
  exact h ao' c' S' w' r1 r2 r3
attribute [go_sem] Step StepUpon setK
end Go.Proofs.Ytohoggoggchaeaa
