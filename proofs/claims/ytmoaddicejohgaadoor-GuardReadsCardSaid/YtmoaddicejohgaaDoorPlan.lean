/- Regions whose order is drawn: one planned order serves every order, if no operation hangs on what memory grows by. -/
import Derived.Test.YtmoaddicejohgaaDoorMem
import Derived.OrdersHeld
import Derived.Deep.Quiet
import Derived.Tactics2
import Derived.KernelRfl
set_option linter.unusedSimpArgs false
set_option linter.unusedVariables false
namespace Go.Proofs.YtmoaddicejohgaaDoor
open Go

section
variable {P : Program} {ops : Array Oper} {Q : Exit → Act → World → Prop} {md : Region.Mode}

/-- Whatever the world. -/
def anyW : World → World → Prop := fun _ _ => True
/-- The operation yields v in every world that R leads to from w, and leaves one that has grown from that. -/
def Qt (P : Program) (ops : Array Oper) (o : Oper) (v : Value) (R : World → World → Prop) (w : World) (a : Act) : Prop :=
  (Region.wanted o (yielded ops a.tmps) = true ∧ ∀ w', R w w' → o.quietAt P a (Chg [] w') w' v) ∨
  (Region.wanted o (yielded ops a.tmps) = false ∧ v = undef)
/-- What R asks: it holds where the world only grew, and from step to step. -/
structure Far (R : World → World → Prop) : Prop where
  of : ∀ w w', Chg [] w w' → R w w'
  trans : ∀ a b c, R a b → R b c → R a c
theorem Far.any : Far anyW := ⟨fun _ _ _ => trivial, fun _ _ _ _ _ => trivial⟩
theorem Far.grown : Far (Chg []) := ⟨fun _ _ h => h, fun _ _ _ h k => h.trans k⟩
theorem Far.chg (S : List Nat) : Far (Chg S) := ⟨fun _ _ h => h.weak (by simp), fun _ _ _ h k => h.trans k⟩

theorem Qt.of_same {o : Oper} {v : Value} {R : World → World → Prop} {w : World} {a a' : Act} (hy : Qt P ops o v R w a) (he : execOp a'.eval o = execOp a.eval o)
    (hw : Region.wanted o (yielded ops a'.tmps) = Region.wanted o (yielded ops a.tmps)) : Qt P ops o v R w a' := by
  unfold Qt Oper.quietAt at *
  rw [he, hw]
  exact hy
theorem Qt.grow {o : Oper} {v : Value} {R : World → World → Prop} (hR : Far R) {w w' : World} {a : Act} (hy : Qt P ops o v R w a) (h : R w w') : Qt P ops o v R w' a := by
  rcases hy with ⟨h1, h2⟩ | h1
  · exact .inl ⟨h1, fun w2 h3 => h2 w2 (hR.trans _ _ _ h h3)⟩
  · exact .inr h1

theorem Qt.wpOp {i : Nat} {o : Oper} {v : Value} {R : World → World → Prop} (hR : Far R) {a : Act} {w : World} (hi : ops[i]? = some o) (hy : Qt P ops o v R w a) {K : Act → World → Prop} (h : ∀ w', Chg [] w w' → K (a.put o.dst v) w') : wpOp P ops Q i K a w := by
  unfold Go.wpOp
  simp only [hi]
  rcases hy with ⟨hw, hv⟩ | ⟨hw, rfl⟩
  · simp only [hw, if_true]
    refine .inl ?_
    have hv := hv w (hR.of _ _ (.refl _ _))
    unfold Oper.quietAt at hv
    unfold Oper.wp
    generalize (execOp a.eval o).run P w = r at hv
    cases r with
    | ok n w' =>
      cases n <;> simp only [Oper.quietUpon] at hv <;> simp only [Oper.upon]
      case value u => obtain ⟨e1, e2⟩ := hv; rw [e1, e2]; exact h _ (.refl _ _)
      case skip => obtain ⟨e1, e2⟩ := hv; rw [e1, ← e2]; exact h _ (.refl _ _)
      case enter f args =>
        obtain ⟨e1, hc⟩ := hv
        rw [e1]
        exact hc.mono fun e w'' ⟨he, hw''⟩ => by subst he; exact h _ hw''
    | halt x w' => simp only [Oper.quietUpon] at hv
  · simp only [hw, Bool.false_eq_true, if_false]; exact h _ (.refl _ _)

/-- Operation j, apart from i: whether i's value is already in its slot makes no difference to it; what holds of i still holds behind it. -/
theorem wpOp_putY {j : Nat} {oi oj : Oper} {v : Value} (Y : Act → Prop) (hj : ops[j]? = some oj) (h1 : ∀ d, oi.dst = some d → d ∉ oj.looksAt ops) (h2 : ∀ d, oi.dst = some d → oj.dst ≠ some d)
    (hsj : ∀ cs b, oj.op ≠ .select cs b) (hQ : ∀ c a w, Q (.panic c) (a.put oi.dst v) w → Q (.panic c) a w) {K : Act → World → Prop} {a : Act} {w : World}
    (keep : ∀ u, Y (a.put oj.dst u)) (keepD : ∀ d, Y (({ a with defers := d :: a.defers } : Act).put oj.dst undef)) (h : wpOp P ops Q j K (a.put oi.dst v) w) :
    wpOp P ops Q j (fun a' w' => Y a' ∧ K (a'.put oi.dst v) w') a w := by
  unfold wpOp at *
  simp only [hj] at *
  rw [wanted_put oj a oi.dst v h1] at h
  by_cases hw : Region.wanted oj (yielded ops a.tmps) = true
  · rw [if_pos hw] at h ⊢
    rcases h with h | ⟨ha, hl⟩
    · refine .inl ?_
      unfold Oper.wp at *
      rw [execOp_put oj hsj a oi.dst v h1] at h
      cases hr : (execOp a.eval oj).run P w with
      | ok n w' =>
        rw [hr] at h
        cases n <;> simp only [Oper.upon] at h ⊢
        case value u => exact ⟨keep u, Act.put_comm a v u h2 ▸ h⟩
        case skip => exact ⟨keep _, Act.put_comm a v undef h2 ▸ h⟩
        case defer d => exact ⟨keepD d, by rw [← Act.put_comm _ v undef h2, ← Act.put_defers]; exact h⟩
        case enter f args =>
          refine Calls.mono h fun e w'' he => ?_
          cases e with
          | returned u => exact ⟨keep u, Act.put_comm a v u h2 ▸ he⟩
          | panicked c => exact hQ _ _ _ he
          | outgrown => exact he
        case row row args => exact Rows.mono h fun u w'' he => ⟨keep u, Act.put_comm a v u h2 ▸ he⟩
      | halt x w' =>
        rw [hr] at h
        cases x <;> simp only [Oper.upon] at h ⊢
        case panic u => exact hQ _ _ _ h
    · exact .inr ⟨by unfold Oper.asks at *; rw [execOp_put oj hsj a oi.dst v h1] at ha; exact ha, hl⟩
  · rw [if_neg hw] at h ⊢
    exact ⟨keep _, Act.put_comm a v undef h2 ▸ h⟩

/-- What operation i may do to the world: in E anything, in M what R0 says, else grow. -/
def eff (E M : List Nat) (R0 : World → World → Prop) (i : Nat) (w w' : World) : Prop := (E.contains i = false → R0 w w') ∧ (E.contains i = false → M.contains i = false → Chg [] w w')
theorem eff.grown {E M : List Nat} {R0 : World → World → Prop} (hR : Far R0) {i : Nat} {w w' : World} (h : Chg [] w w') : eff E M R0 i w w' := ⟨fun _ => hR.of _ _ h, fun _ _ => h⟩
/-- Whatever order is picked, in whatever the world may grow to; each operation does no more than it may. -/
def wpAnyR (P : Program) (md : Region.Mode) (ops : Array Oper) (Q : Exit → Act → World → Prop) (E M : List Nat) (R0 : World → World → Prop) : Nat → Array Bool → Act → World → Prop
  | 0, listed, a, w => ∀ w1, Chg [] w w1 → Region.ready md ops listed = [] ∧ Q .normal a w1
  | fuel + 1, listed, a, w => ∀ w1, Chg [] w w1 →
    (Region.ready md ops listed = [] → Q .normal a w1) ∧
    ∀ i ∈ Region.ready md ops listed, wpOp P ops Q i (fun a' w' => eff E M R0 i w1 w' ∧ wpAnyR P md ops Q E M R0 fuel (listed.setIfInBounds i true) a' w') a w1

theorem wpAny_of_R {E M : List Nat} {R0 : World → World → Prop} : ∀ (fuel : Nat) (listed : Array Bool) (a : Act) (w : World), wpAnyR P md ops Q E M R0 fuel listed a w → wpAny P md ops Q fuel listed a w
  | 0, _, _, w, h => h w (.refl _ _)
  | fuel + 1, _, _, w, h => ⟨(h w (.refl _ _)).1, fun i hi => wpOp_mono (fun a' w' h' => wpAny_of_R fuel _ a' w' h'.2) ((h w (.refl _ _)).2 i hi)⟩
theorem wpAnyR.grow {E M : List Nat} {R0 : World → World → Prop} {fuel : Nat} {listed : Array Bool} {a : Act} {w w' : World} (h : wpAnyR P md ops Q E M R0 fuel listed a w) (hc : Chg [] w w') : wpAnyR P md ops Q E M R0 fuel listed a w' := by
  cases fuel with
  | zero => exact fun w1 h1 => h w1 (hc.trans h1)
  | succ fuel => exact fun w1 h1 => h w1 (hc.trans h1)

/-- Taking number i first: S holds all that can come up before i; what i's value holds against (R) is all that these may do. -/
theorem wpAnyR_first {E M : List Nat} {R0 R : World → World → Prop} (hR0 : Far R0) (hR : Far R) {i : Nat} {oi : Oper} {v : Value} (hi : ops[i]? = some oi) (hsel : ∀ (j : Nat) (o : Oper) cs b, ops[j]? = some o → o.op ≠ .select cs b)
    (hQ : ∀ c a w, Q (.panic c) (a.put oi.dst v) w → Q (.panic c) a w) (S : Nat → Bool)
    (hS : ∀ j oj, ops[j]? = some oj → j ≠ i → (∀ e ∈ oj.after, Region.binds md e = true → S e.on = true) → S j = true) :
    ∀ (fuel : Nat) (listed : Array Bool) (a : Act) (w : World),
      (∀ k, listed.getD k false = true → S k = true) →
      (∀ j oj, ops[j]? = some oj → j ≠ i → S j = true → listed.getD j true = false → ((∀ w w', eff E M R0 j w w' → R w w') ∧ oi.apart ops oj = true)) →
      i ∈ Region.ready md ops listed → Qt P ops oi v R w a →
      wpAnyR P md ops Q E M R0 fuel (listed.setIfInBounds i true) (a.put oi.dst v) w → wpAnyR P md ops Q E M R0 (fuel + 1) listed a w := by
  intro fuel
  induction fuel with
  | zero =>
    intro listed a w hL hfree hr hy H w1 hw1
    refine ⟨fun h => (by rw [h] at hr; cases hr), fun j hj => ?_⟩
    by_cases hji : j = i
    · subst hji
      exact (hy.grow hR (hR.of _ _ hw1)).wpOp hR hi fun w' hw' => ⟨.grown hR0 hw', H.grow (hw1.trans hw')⟩
    · have := ready_mono hj hji
      rw [(H w (.refl _ _)).1] at this
      cases this
  | succ fuel ih =>
    intro listed a w hL hfree hr hy H w1 hw1
    refine ⟨fun h => (by rw [h] at hr; cases hr), fun j hj => ?_⟩
    by_cases hji : j = i
    · subst hji
      exact (hy.grow hR (hR.of _ _ hw1)).wpOp hR hi fun w' hw' => ⟨.grown hR0 hw', H.grow (hw1.trans hw')⟩
    · have h1 := (H w1 hw1).2 j (ready_mono hj hji)
      obtain ⟨hjun, oj, hoj, hall⟩ := mem_ready.1 hj
      have hSj : S j = true := hS j oj hoj hji fun e he hb => hL _ (hall e he hb)
      obtain ⟨hjE, hap⟩ := hfree j oj hoj hji hSj hjun
      obtain ⟨a1, a2, a3⟩ := Oper.apart_spec hap
      have keep : ∀ (a : Act) u, Qt P ops oi v R w1 a → Qt P ops oi v R w1 (a.put oj.dst u) := fun a u hy =>
        hy.of_same (execOp_put oi (fun cs b => hsel i oi cs b hi) a oj.dst u a3) (wanted_put oi a oj.dst u a3)
      have hy1 := hy.grow hR (hR.of _ _ hw1)
      have h2 := wpOp_putY (fun a => Qt P ops oi v R w1 a) hoj a1 a2 (fun cs b => hsel j oj cs b hoj) hQ (fun u => keep a u hy1) (fun d => keep _ undef (hy1.of_same rfl rfl)) h1
      have hL' : ∀ k, (listed.setIfInBounds j true).getD k false = true → S k = true := by
        intro k hk
        by_cases hjk : j = k
        · subst hjk; exact hSj
        · rw [getD_set_ne false hjk] at hk; exact hL k hk
      have hfree' : ∀ k ok, ops[k]? = some ok → k ≠ i → S k = true → (listed.setIfInBounds j true).getD k true = false → ((∀ w w', eff E M R0 k w w' → R w w') ∧ oi.apart ops ok = true) := by
        intro k ok hk hki hSk hun
        refine hfree k ok hk hki hSk ?_
        by_cases hjk : j = k
        · subst hjk; exact hjun
        · rw [getD_set_ne true hjk] at hun; exact hun
      refine wpOp_mono (fun a' w' h3 => ⟨h3.2.1, ?_⟩) h2
      obtain ⟨h3a, h3b, h3c⟩ := h3
      refine ih (listed.setIfInBounds j true) a' w' hL' hfree' (ready_mono hr (Ne.symm hji)) (h3a.grow hR (hjE _ _ h3b)) ?_
      rw [Array.setIfInBounds_comm _ _ hji]
      exact h3c

/-! ### The table of a region, and the check of a plan over it -/

/-- Of each operation: what it waits for, the slots that it looks at, the slot that it writes. -/
structure Row where
  after : List Nat
  looks : List Nat
  dst : Option Nat
  deriving DecidableEq

def rowOf (md : Region.Mode) (ops : Array Oper) (o : Oper) : Row :=
  { after := (o.after.toList.filter (Region.binds md ·)).map (·.on), looks := o.looksAt ops, dst := o.dst }
def tabOf (md : Region.Mode) (ops : Array Oper) : List Row := ops.toList.map (rowOf md ops)

def Row.apart (x y : Row) : Bool :=
  (match x.dst with
   | some d => !(y.looks).contains d && y.dst != some d
   | none => true) &&
  (match y.dst with
   | some d => !(x.looks).contains d
   | none => true)

def subset (xs ys : List Nat) : Bool := xs.all (ys.contains ·)
/-- What can be carried out without i (and, where b, without what is in E), going once through the text. -/
def growth (i : Nat) (b : Bool) (E : List Nat) : List Row → Nat → List Nat → List Nat
  | [], _, S => S
  | r :: rs, j, S => growth i b E rs (j + 1) (if j != i && !(b && E.contains j) && !S.contains j && subset r.after S then j :: S else S)
def closed (i : Nat) (S : List Nat) : List Row → Nat → Bool
  | [], _ => true
  | r :: rs, j => (j == i || S.contains j || !subset r.after S) && closed i S rs (j + 1)
def freeIn (i : Nat) (ri : Row) (pure : Bool) (E S listed : List Nat) : List Row → Nat → Bool
  | [], _ => true
  | r :: rs, j => (j == i || !S.contains j || listed.contains j || ((pure || !E.contains j) && ri.apart r)) && freeIn i ri pure E S listed rs (j + 1)
def readyAt (T : List Row) (listed : List Nat) (i : Nat) : Bool :=
  match T[i]? with
  | some r => !listed.contains i && subset r.after listed
  | none => false
def okTake (T : List Row) (pure : Bool) (E listed : List Nat) (i : Nat) : Bool :=
  match T[i]? with
  | some ri =>
    let S := growth i (!pure) E T 0 listed
    !listed.contains i && subset ri.after listed && !S.contains i && closed i S T 0 && freeIn i ri pure E S listed T 0
  | none => false
/-- None but k is ready. -/
def loneAt (listed : List Nat) (k : Nat) : List Row → Nat → Bool
  | [], _ => true
  | r :: rs, j => (j == k || listed.contains j || !subset r.after listed) && loneAt listed k rs (j + 1)
def noneReady (listed : List Nat) : List Row → Nat → Bool
  | [], _ => true
  | r :: rs, j => (listed.contains j || !subset r.after listed) && noneReady listed rs (j + 1)

/-- A plan's step: p: pure; q: yields its value in whatever the world may grow to; r: in whatever R leads to; x: lets what was there stay; s: does what R says; e: anything. -/
inductive PStep where
  | p (i : Nat)
  | q (i : Nat)
  | r (i : Nat) (R : World → World → Prop)
  | x (i : Nat)
  | s (i : Nat) (R : World → World → Prop)
  | e (i : Nat)
def effects : List PStep → List Nat
  | [] => []
  | .e i :: r => i :: effects r
  | _ :: r => effects r
/-- The steps that do what R says. -/
def marked : List PStep → List Nat
  | [] => []
  | .s i _ :: r => i :: marked r
  | _ :: r => marked r
/-- All steps speak of one R. -/
def AllR (R0 : World → World → Prop) : List PStep → Prop
  | [] => True
  | .r _ R :: r => R = R0 ∧ AllR R0 r
  | .s _ R :: r => R = R0 ∧ AllR R0 r
  | _ :: r => AllR R0 r
def planOKR (T : List Row) (E M : List Nat) : List PStep → List Nat → Bool
  | [], listed => noneReady listed T 0
  | .p i :: r, listed => okTake T true E listed i && planOKR T E M r (i :: listed)
  | .q i :: r, listed => okTake T false (E ++ M) listed i && planOKR T E M r (i :: listed)
  | .r i _ :: r, listed => okTake T false E listed i && planOKR T E M r (i :: listed)
  | .x k :: r, listed => readyAt T listed k && loneAt listed k T 0 && planOKR T E M r (k :: listed)
  | .s k _ :: r, listed => readyAt T listed k && loneAt listed k T 0 && planOKR T E M r (k :: listed)
  | .e k :: r, listed => readyAt T listed k && loneAt listed k T 0 && planOKR T E M r (k :: listed)
def planOK (T : List Row) (E : List Nat) : List PStep → List Nat → Bool
  | [], listed => noneReady listed T 0
  | .p i :: r, listed => okTake T true E listed i && planOK T E r (i :: listed)
  | .q i :: r, listed => okTake T false E listed i && planOK T E r (i :: listed)
  | .x k :: r, listed => readyAt T listed k && loneAt listed k T 0 && planOK T E r (k :: listed)
  | .e k :: r, listed => readyAt T listed k && loneAt listed k T 0 && planOK T E r (k :: listed)
  | .r _ _ :: _, _ => false
  | .s _ _ :: _, _ => false
theorem planOK_R {T : List Row} {E : List Nat} : ∀ (pl : List PStep) (l : List Nat), planOK T E pl l = true → planOKR T E [] pl l = true ∧ marked pl = [] ∧ AllR (Chg []) pl
  | [], l, h => ⟨h, rfl, trivial⟩
  | .p i :: r, l, h => by
    simp only [planOK, planOKR, Bool.and_eq_true] at h ⊢
    have := planOK_R r _ h.2
    exact ⟨⟨h.1, this.1⟩, this.2.1, this.2.2⟩
  | .q i :: r, l, h => by
    simp only [planOK, planOKR, Bool.and_eq_true, List.append_nil] at h ⊢
    have := planOK_R r _ h.2
    exact ⟨⟨h.1, this.1⟩, this.2.1, this.2.2⟩
  | .x k :: r, l, h => by
    simp only [planOK, planOKR, Bool.and_eq_true] at h ⊢
    have := planOK_R r _ h.2
    exact ⟨⟨h.1, this.1⟩, this.2.1, this.2.2⟩
  | .e k :: r, l, h => by
    simp only [planOK, planOKR, Bool.and_eq_true] at h ⊢
    have := planOK_R r _ h.2
    exact ⟨⟨h.1, this.1⟩, this.2.1, this.2.2⟩
  | .r _ _ :: _, _, h => by simp [planOK] at h
  | .s _ _ :: _, _, h => by simp [planOK] at h

/-! ### The check is sound -/

structure Rel (ops : Array Oper) (L : Array Bool) (l : List Nat) : Prop where
  at_ : ∀ k, k < ops.size → L[k]? = some (l.contains k)
  size : L.size = ops.size
  bound : ∀ k ∈ l, k < ops.size

theorem Rel.getDf {L : Array Bool} {l : List Nat} (h : Rel ops L l) (k : Nat) : L.getD k false = l.contains k := by
  by_cases hk : k < ops.size
  · have h1 := h.at_ k hk
    simp [Array.getD_eq_getD_getElem?, h1]
  · have h0 : L[k]? = none := by simp; have := h.size; omega
    have h2 : l.contains k = false := by
      rw [← Bool.not_eq_true, List.contains_iff_mem]
      intro hm; exact hk (h.bound k hm)
    rw [Array.getD_eq_getD_getElem?, h0, h2]; rfl
theorem Rel.getDt {L : Array Bool} {l : List Nat} (h : Rel ops L l) {k : Nat} (hk : k < ops.size) : L.getD k true = l.contains k := by
  have h1 := h.at_ k hk
  simp [Array.getD_eq_getD_getElem?, h1]
theorem Rel.cons {L : Array Bool} {l : List Nat} (h : Rel ops L l) {i : Nat} (hi : i < ops.size) : Rel ops (L.setIfInBounds i true) (i :: l) where
  at_ k hk := by
    rw [Array.getElem?_setIfInBounds]
    by_cases e : i = k
    · subst e; simp [h.size, hi]
    · rw [if_neg e, h.at_ k hk]
      have e' : k ≠ i := fun h => e h.symm
      simp [e']
  size := by simp [h.size]
  bound k hk := by
    rcases List.mem_cons.1 hk with rfl | hk
    · exact hi
    · exact h.bound k hk
theorem Rel.start : Rel ops (Array.replicate ops.size false) [] where
  at_ k hk := by simp [hk]
  size := by simp
  bound k hk := by cases hk

theorem lt_of_get {i : Nat} {o : Oper} (h : ops[i]? = some o) : i < ops.size := (Array.getElem?_eq_some_iff.1 h).1

theorem tab_get {i : Nat} {o : Oper} (h : ops[i]? = some o) : (tabOf md ops)[i]? = some (rowOf md ops o) := by
  unfold tabOf
  rw [List.getElem?_map, Array.getElem?_toList, h]; rfl
theorem tab_get' {i : Nat} {r : Row} (h : (tabOf md ops)[i]? = some r) : ∃ o, ops[i]? = some o ∧ r = rowOf md ops o := by
  unfold tabOf at h
  rw [List.getElem?_map, Array.getElem?_toList] at h
  cases ho : ops[i]? with
  | none => simp [ho] at h
  | some o => simp [ho] at h; exact ⟨o, rfl, h.symm⟩

theorem subset_row {o : Oper} {l : List Nat} : subset (rowOf md ops o).after l = true ↔ ∀ e ∈ o.after, Region.binds md e = true → l.contains e.on = true := by
  unfold subset rowOf
  simp only [List.all_eq_true, List.mem_map, List.mem_filter, forall_exists_index, and_imp]
  constructor
  · intro h e he hb
    exact h e.on e (by simpa using he) hb rfl
  · rintro h x e he hb rfl
    exact h e (by simpa using he) hb

theorem ready_iff {L : Array Bool} {l : List Nat} (h : Rel ops L l) {j : Nat} : j ∈ Region.ready md ops L ↔ l.contains j = false ∧ ∃ o, ops[j]? = some o ∧ subset (rowOf md ops o).after l = true := by
  rw [mem_ready]
  constructor
  · rintro ⟨h0, o, ho, hall⟩
    rw [h.getDt (lt_of_get ho)] at h0
    exact ⟨h0, o, ho, subset_row.2 fun e he hb => by rw [← h.getDf]; exact hall e he hb⟩
  · rintro ⟨h0, o, ho, hall⟩
    refine ⟨by rw [h.getDt (lt_of_get ho)]; exact h0, o, ho, fun e he hb => ?_⟩
    rw [h.getDf]; exact subset_row.1 hall e he hb

theorem closed_spec {i : Nat} {S : List Nat} : ∀ (T : List Row) (n : Nat), closed i S T n = true → ∀ j r, T[j]? = some r → n + j ≠ i → subset r.after S = true → S.contains (n + j) = true
  | [], _, _, j, r, h, _, _ => by simp at h
  | x :: T, n, hc, j, r, h, hji, hs => by
    simp only [closed, Bool.and_eq_true, Bool.or_eq_true, beq_iff_eq, Bool.not_eq_true'] at hc
    cases j with
    | zero =>
      simp at h; subst h
      rcases hc.1 with (h1 | h1) | h1
      · exact absurd h1 (by simpa using hji)
      · simpa using h1
      · rw [hs] at h1; cases h1
    | succ j =>
      have := closed_spec T (n + 1) hc.2 j r (by simpa using h) (by omega) hs
      rw [show n + (j + 1) = n + 1 + j by omega]; exact this
theorem freeIn_spec {i : Nat} {ri : Row} {pure : Bool} {E S l : List Nat} : ∀ (T : List Row) (n : Nat), freeIn i ri pure E S l T n = true → ∀ j r, T[j]? = some r → n + j ≠ i → S.contains (n + j) = true → l.contains (n + j) = false →
    ((pure = true ∨ E.contains (n + j) = false) ∧ ri.apart r = true)
  | [], _, _, j, r, h, _, _, _ => by simp at h
  | x :: T, n, hc, j, r, h, hji, hs, hl => by
    simp only [freeIn, Bool.and_eq_true, Bool.or_eq_true, beq_iff_eq, Bool.not_eq_true'] at hc
    cases j with
    | zero =>
      simp at h; subst h
      simp only [Nat.add_zero] at hs hl hji ⊢
      rcases hc.1 with ((h1 | h1) | h1) | h1
      · exact absurd h1 hji
      · rw [hs] at h1; cases h1
      · rw [hl] at h1; cases h1
      · exact h1
    | succ j =>
      have := freeIn_spec T (n + 1) hc.2 j r (by simpa using h) (by omega) (by rw [show n + 1 + j = n + (j + 1) by omega]; exact hs) (by rw [show n + 1 + j = n + (j + 1) by omega]; exact hl)
      rw [show n + (j + 1) = n + 1 + j by omega]; exact this
theorem loneAt_spec {l : List Nat} {k : Nat} : ∀ (T : List Row) (n : Nat), loneAt l k T n = true → ∀ j r, T[j]? = some r → l.contains (n + j) = false → subset r.after l = true → n + j = k
  | [], _, _, j, r, h, _, _ => by simp at h
  | x :: T, n, hc, j, r, h, hl, hs => by
    simp only [loneAt, Bool.and_eq_true, Bool.or_eq_true, beq_iff_eq, Bool.not_eq_true'] at hc
    cases j with
    | zero =>
      simp at h; subst h
      rcases hc.1 with (h1 | h1) | h1
      · simpa using h1
      · simp only [Nat.add_zero] at hl; rw [hl] at h1; cases h1
      · rw [hs] at h1; cases h1
    | succ j =>
      have := loneAt_spec T (n + 1) hc.2 j r (by simpa using h) (by rw [show n + 1 + j = n + (j + 1) by omega]; exact hl) hs
      omega
theorem noneReady_spec {l : List Nat} : ∀ (T : List Row) (n : Nat), noneReady l T n = true → ∀ j r, T[j]? = some r → l.contains (n + j) = false → subset r.after l = true → False
  | [], _, _, j, r, h, _, _ => by simp at h
  | x :: T, n, hc, j, r, h, hl, hs => by
    simp only [noneReady, Bool.and_eq_true, Bool.or_eq_true, Bool.not_eq_true'] at hc
    cases j with
    | zero =>
      simp at h; subst h
      rcases hc.1 with h1 | h1
      · simp only [Nat.add_zero] at hl; rw [hl] at h1; cases h1
      · rw [hs] at h1; cases h1
    | succ j => exact noneReady_spec T (n + 1) hc.2 j r (by simpa using h) (by rw [show n + 1 + j = n + (j + 1) by omega]; exact hl) hs

theorem contains_cons_of {x : Nat} {j : Nat} {S : List Nat} (h : S.contains j = true) : (x :: S).contains j = true := by
  simp only [List.contains_cons, h, Bool.or_true]
theorem growth_mem {i : Nat} {b : Bool} {E : List Nat} : ∀ (T : List Row) (n : Nat) (S : List Nat) (j : Nat), S.contains j = true → (growth i b E T n S).contains j = true
  | [], _, _, _, h => h
  | r :: T, n, S, j, h => by
    unfold growth
    split
    · exact growth_mem T (n + 1) _ j (contains_cons_of h)
    · exact growth_mem T (n + 1) _ j h

/-! ### The walk of a plan -/

/-- The walk of a plan: at each step the world may have grown. -/
def wpPlan (P : Program) (ops : Array Oper) (Q : Exit → Act → World → Prop) : List PStep → Act → World → Prop
  | [], a, w => ∀ w1, Chg [] w w1 → Q .normal a w1
  | .p i :: r, a, w => ∃ o, ops[i]? = some o ∧ ∃ v, Qt P ops o v anyW w a ∧ wpPlan P ops Q r (a.put o.dst v) w
  | .q i :: r, a, w => ∃ o, ops[i]? = some o ∧ ∃ v, Qt P ops o v (Chg []) w a ∧ wpPlan P ops Q r (a.put o.dst v) w
  | .r i R :: r, a, w => ∃ o, ops[i]? = some o ∧ ∃ v, Qt P ops o v R w a ∧ wpPlan P ops Q r (a.put o.dst v) w
  | .x k :: r, a, w => ∀ w1, Chg [] w w1 → wpOp P ops Q k (fun a' w' => Chg [] w1 w' ∧ wpPlan P ops Q r a' w') a w1
  | .s k R :: r, a, w => ∀ w1, Chg [] w w1 → wpOp P ops Q k (fun a' w' => R w1 w' ∧ wpPlan P ops Q r a' w') a w1
  | .e k :: r, a, w => ∀ w1, Chg [] w w1 → wpOp P ops Q k (fun a' w' => wpPlan P ops Q r a' w') a w1

theorem wpAnyR_plan {E M : List Nat} {R0 : World → World → Prop} (hR0 : Far R0) (hsel : Region.noSelect ops = true) (hQ : ∀ c a d v w, Q (.panic c) (a.put d v) w → Q (.panic c) a w) :
    ∀ (pl : List PStep) (fuel : Nat) (L : Array Bool) (l : List Nat) (a : Act) (w : World), pl.length ≤ fuel → Rel ops L l → (∀ i ∈ effects pl, E.contains i = true) → (∀ i ∈ marked pl, M.contains i = true) → AllR R0 pl → planOKR (tabOf md ops) E M pl l = true → wpPlan P ops Q pl a w →
      wpAnyR P md ops Q E M R0 fuel L a w := by
  have take : ∀ (R : World → World → Prop) (hR : Far R) (pure : Bool) (E' : List Nat) (hE' : ∀ j, (pure = true ∨ E'.contains j = false) → ∀ w w', eff E M R0 j w w' → R w w') (i : Nat) (r : List PStep) (fuel : Nat) (L : Array Bool) (l : List Nat) (a : Act) (w : World) (o : Oper) (v : Value), Rel ops L l → ops[i]? = some o → Qt P ops o v R w a →
      okTake (tabOf md ops) pure E' l i = true → wpAnyR P md ops Q E M R0 fuel (L.setIfInBounds i true) (a.put o.dst v) w → wpAnyR P md ops Q E M R0 (fuel + 1) L a w := by
    intro R hR pure E' hE' i r fuel L l a w o v hR' ho hy hok H
    simp only [okTake, tab_get ho, Bool.and_eq_true, Bool.not_eq_true'] at hok
    obtain ⟨⟨⟨⟨h0, h1⟩, h2⟩, h3⟩, h4⟩ := hok
    refine wpAnyR_first hR0 hR ho (Region.noSelect_spec hsel) (fun c a w => hQ c a _ _ w) (fun j => (growth i (!pure) E' (tabOf md ops) 0 l).contains j) ?_ fuel L a w ?_ ?_ ?_ hy H
    · intro j oj hoj hji hall
      have := closed_spec _ 0 h3 j _ (tab_get hoj) (by simpa using hji) (subset_row.2 hall)
      simpa using this
    · intro k hk
      rw [hR'.getDf] at hk
      exact growth_mem _ _ _ _ hk
    · intro j oj hoj hji hS hl
      rw [hR'.getDt (lt_of_get hoj)] at hl
      have := freeIn_spec _ 0 h4 j _ (tab_get hoj) (by simpa using hji) (by simpa using hS) (by simpa using hl)
      exact ⟨hE' j (by simpa using this.1), this.2⟩
    · exact (ready_iff hR').2 ⟨h0, o, ho, h1⟩
  have only : ∀ (k : Nat) (L : Array Bool) (l : List Nat), Rel ops L l → readyAt (tabOf md ops) l k = true → loneAt l k (tabOf md ops) 0 = true → (∃ o, ops[k]? = some o) ∧ k ∈ Region.ready md ops L ∧ ∀ j ∈ Region.ready md ops L, j = k := by
    intro k L l hR h1 h2
    have hrk : ∃ o, ops[k]? = some o ∧ l.contains k = false ∧ subset (rowOf md ops o).after l = true := by
      unfold readyAt at h1
      cases ht : (tabOf md ops)[k]? with
      | none => rw [ht] at h1; cases h1
      | some rr =>
        rw [ht] at h1
        obtain ⟨o, ho, rfl⟩ := tab_get' ht
        simp only [Bool.and_eq_true, Bool.not_eq_true'] at h1
        exact ⟨o, ho, h1.1, h1.2⟩
    obtain ⟨o, ho, hk0, hk1⟩ := hrk
    refine ⟨⟨o, ho⟩, (ready_iff hR).2 ⟨hk0, o, ho, hk1⟩, fun j hj => ?_⟩
    obtain ⟨hj0, oj, hoj, hjs⟩ := (ready_iff hR).1 hj
    have := loneAt_spec _ 0 h2 j _ (tab_get hoj) (by simpa using hj0) hjs
    omega
  intro pl
  induction pl with
  | nil =>
    intro fuel L l a w _ hR _ _ _ hok h
    have hr : Region.ready md ops L = [] := by
      apply List.eq_nil_iff_forall_not_mem.2
      intro j hj
      obtain ⟨h0, o, ho, hs⟩ := (ready_iff hR).1 hj
      exact noneReady_spec _ 0 hok j _ (tab_get ho) (by simpa using h0) hs
    cases fuel with
    | zero => exact fun w1 h1 => ⟨hr, h w1 h1⟩
    | succ fuel => exact fun w1 h1 => ⟨fun _ => h w1 h1, by rw [hr]; simp⟩
  | cons s r ih =>
    intro fuel L l a w hf hR hE hM hA hok h
    obtain ⟨fuel, rfl⟩ : ∃ m, fuel = m + 1 := ⟨fuel - 1, by simp at hf; omega⟩
    simp only [List.length_cons] at hf
    cases s with
    | p i =>
      obtain ⟨o, ho, v, hy, hn⟩ := h
      simp only [planOKR, Bool.and_eq_true] at hok
      exact take anyW .any true E (fun _ _ _ _ _ => trivial) i r fuel L l a w o v hR ho hy hok.1 (ih fuel _ (i :: l) _ w (by omega) (hR.cons (lt_of_get ho)) hE hM hA hok.2 hn)
    | q i =>
      obtain ⟨o, ho, v, hy, hn⟩ := h
      simp only [planOKR, Bool.and_eq_true] at hok
      refine take (Chg []) .grown false (E ++ M) (fun j hj w w' he => ?_) i r fuel L l a w o v hR ho hy hok.1 (ih fuel _ (i :: l) _ w (by omega) (hR.cons (lt_of_get ho)) hE hM hA hok.2 hn)
      rcases hj with hj | hj
      · cases hj
      · rw [List.contains_eq_mem, decide_eq_false_iff_not, List.mem_append, not_or] at hj
        exact he.2 (by simpa using hj.1) (by simpa using hj.2)
    | r i R =>
      obtain ⟨o, ho, v, hy, hn⟩ := h
      obtain ⟨rfl, hA⟩ := hA
      simp only [planOKR, Bool.and_eq_true] at hok
      refine take R hR0 false E (fun j hj w w' he => ?_) i r fuel L l a w o v hR ho hy hok.1 (ih fuel _ (i :: l) _ w (by omega) (hR.cons (lt_of_get ho)) hE hM hA hok.2 hn)
      rcases hj with hj | hj
      · cases hj
      · exact he.1 hj
    | x k =>
      simp only [planOKR, Bool.and_eq_true] at hok
      obtain ⟨⟨o, ho⟩, hmem, hall⟩ := only k L l hR hok.1.1 hok.1.2
      intro w1 hw1
      refine ⟨fun h0 => (by rw [h0] at hmem; cases hmem), fun j hj => ?_⟩
      obtain rfl := hall j hj
      exact wpOp_mono (fun a' w' h' => ⟨.grown hR0 h'.1, ih fuel _ (j :: l) a' w' (by omega) (hR.cons (lt_of_get ho)) hE hM hA hok.2 h'.2⟩) (h w1 hw1)
    | s k R =>
      obtain ⟨rfl, hA⟩ := hA
      simp only [planOKR, Bool.and_eq_true] at hok
      obtain ⟨⟨o, ho⟩, hmem, hall⟩ := only k L l hR hok.1.1 hok.1.2
      intro w1 hw1
      refine ⟨fun h0 => (by rw [h0] at hmem; cases hmem), fun j hj => ?_⟩
      obtain rfl := hall j hj
      refine wpOp_mono (fun a' w' h' => ⟨⟨fun _ => h'.1, fun _ hc => ?_⟩, ih fuel _ (j :: l) a' w' (by omega) (hR.cons (lt_of_get ho)) hE (fun i hi => hM i (by simp [marked, hi])) hA hok.2 h'.2⟩) (h w1 hw1)
      have := hM j (by simp [marked])
      rw [this] at hc; cases hc
    | e k =>
      simp only [planOKR, Bool.and_eq_true] at hok
      obtain ⟨⟨o, ho⟩, hmem, hall⟩ := only k L l hR hok.1.1 hok.1.2
      intro w1 hw1
      refine ⟨fun h0 => (by rw [h0] at hmem; cases hmem), fun j hj => ?_⟩
      obtain rfl := hall j hj
      have hEj := hE j (by simp [effects])
      exact wpOp_mono (fun a' w' h' => ⟨⟨fun hc => (by rw [hEj] at hc; cases hc), fun hc => (by rw [hEj] at hc; cases hc)⟩, ih fuel _ (j :: l) a' w' (by omega) (hR.cons (lt_of_get ho)) (fun i hi => hE i (by simp [effects, hi])) hM hA hok.2 h'⟩) (h w1 hw1)

/-- **ONE PLAN SERVES EVERY ORDER**, where some steps write, and others hold against that. -/
theorem wp_region_planR {id : Nat} {l : List Oper} {a : Act} {w : World} (R0 : World → World → Prop) (hR0 : Far R0) (pl : List PStep) (hA : AllR R0 pl) (hm : P.follows .mixedOrders = true) (hsel : Region.noSelect l.toArray = true) (hlen : (pl.length ≤ l.toArray.size : Bool) = true)
    (hok : planOKR (tabOf .any l.toArray) (effects pl) (marked pl) pl [] = true) (hQ : ∀ c a d v w, Q (.panic c) (a.put d v) w → Q (.panic c) a w) (h : wpPlan P l.toArray Q pl a w) : (Code.region id l.toArray true).wp P Q a w :=
  wp_region_any hm (wpAny_of_R _ _ _ _ (wpAnyR.grow (wpAnyR_plan (E := effects pl) (M := marked pl) hR0 hsel hQ pl _ _ [] _ _ (by simpa using hlen) Rel.start (fun i hi => by simpa using hi) (fun i hi => by simpa using hi) hA hok h) (Chg.drew (.refl _ _))))
/-- **ONE PLAN SERVES EVERY ORDER.** -/
theorem wp_region_plan {id : Nat} {l : List Oper} {a : Act} {w : World} (pl : List PStep) (hm : P.follows .mixedOrders = true) (hsel : Region.noSelect l.toArray = true) (hlen : (pl.length ≤ l.toArray.size : Bool) = true)
    (hok : planOK (tabOf .any l.toArray) (effects pl) pl [] = true) (hQ : ∀ c a d v w, Q (.panic c) (a.put d v) w → Q (.panic c) a w) (h : wpPlan P l.toArray Q pl a w) : (Code.region id l.toArray true).wp P Q a w :=
  have hp := planOK_R pl [] hok
  wp_region_planR (Chg []) .grown pl hp.2.2 hm hsel hlen (by rw [hp.2.1]; exact hp.1) hQ h

/-! ### Regions whose order is the text's -/
def PStep.idx : PStep → Nat
  | .p i | .q i | .r i _ | .x i | .s i _ | .e i => i
/-- All that the steps speak of leads on. -/
def FarR : List PStep → Prop
  | [] => True
  | .r _ R :: r => Far R ∧ FarR r
  | _ :: r => FarR r
theorem FarR_of_all {R0 : World → World → Prop} (h0 : Far R0) : ∀ pl, AllR R0 pl → FarR pl
  | [], _ => trivial
  | .r _ _ :: r, h => ⟨h.1 ▸ h0, FarR_of_all h0 r h.2⟩
  | .s _ _ :: r, h => FarR_of_all h0 r h.2
  | .p _ :: r, h => FarR_of_all h0 r h
  | .q _ :: r, h => FarR_of_all h0 r h
  | .x _ :: r, h => FarR_of_all h0 r h
  | .e _ :: r, h => FarR_of_all h0 r h
theorem wpOps_of_plan : ∀ (pl : List PStep) (a : Act) (w w1 : World), FarR pl → Chg [] w w1 → wpPlan P ops Q pl a w → wpOps P ops Q (pl.map PStep.idx) a w1
  | [], _, _, w1, _, hw, h => h w1 hw
  | .p i :: r, a, w, w1, hF, hw, ⟨o, ho, v, hy, hn⟩ => by
    rw [List.map_cons, wpOps_cons]
    exact (hy.grow .any (Far.any.of _ _ hw)).wpOp .any ho fun w2 h2 => wpOps_of_plan r _ w w2 hF (hw.trans h2) hn
  | .q i :: r, a, w, w1, hF, hw, ⟨o, ho, v, hy, hn⟩ => by
    rw [List.map_cons, wpOps_cons]
    exact (hy.grow .grown hw).wpOp .grown ho fun w2 h2 => wpOps_of_plan r _ w w2 hF (hw.trans h2) hn
  | .r i R :: r, a, w, w1, hF, hw, ⟨o, ho, v, hy, hn⟩ => by
    rw [List.map_cons, wpOps_cons]
    exact (hy.grow hF.1 (hF.1.of _ _ hw)).wpOp hF.1 ho fun w2 h2 => wpOps_of_plan r _ w w2 hF.2 (hw.trans h2) hn
  | .x i :: r, a, w, w1, hF, hw, h => by
    rw [List.map_cons, wpOps_cons]
    exact wpOp_mono (fun a' w' h' => wpOps_of_plan r a' w' w' hF (.refl _ _) h'.2) (h w1 hw)
  | .s i R :: r, a, w, w1, hF, hw, h => by
    rw [List.map_cons, wpOps_cons]
    exact wpOp_mono (fun a' w' h' => wpOps_of_plan r a' w' w' hF (.refl _ _) h'.2) (h w1 hw)
  | .e i :: r, a, w, w1, hF, hw, h => by
    rw [List.map_cons, wpOps_cons]
    exact wpOp_mono (fun a' w' h' => wpOps_of_plan r a' w' w' hF (.refl _ _) h') (h w1 hw)
def noR : List PStep → Bool
  | [] => true
  | .r _ _ :: _ => false
  | _ :: r => noR r
theorem FarR_of_no : ∀ pl, noR pl = true → FarR pl
  | [], _ => trivial
  | .r _ _ :: r, h => by simp [noR] at h
  | .s _ _ :: r, h => FarR_of_no r h
  | .p _ :: r, h => FarR_of_no r h
  | .q _ :: r, h => FarR_of_no r h
  | .x _ :: r, h => FarR_of_no r h
  | .e _ :: r, h => FarR_of_no r h
theorem wp_region_text {id : Nat} {l : List Oper} {a : Act} {w : World} (pl : List PStep) (hpl : pl.map PStep.idx = List.range l.toArray.size) (h : wpPlan P l.toArray Q pl a w) (hF : noR pl = true := by rfl) : (Code.region id l.toArray false).wp P Q a w :=
  wp_region (by rw [← hpl]; exact wpOps_of_plan pl a w w (FarR_of_no pl hF) (.refl _ _) h)

end
end Go.Proofs.YtmoaddicejohgaaDoor
