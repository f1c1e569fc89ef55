/- Two operations that make new memory, in whatever order: what comes behind is walked once. -/
import Derived.Test.YtmoaddicejohgaaDoorConv
import Derived.Test.YtmoaddicejohgaaDoorGuard
set_option linter.unusedSimpArgs false
set_option linter.unusedVariables false
namespace Go.Proofs.YtmoaddicejohgaaDoor
open Go
theorem Hp.pair {S : List Nat} {w0 w : World} {L : List Own} (h : Hp S w0 w L) : L.Pairwise fun e e' => ∀ b, e.1 = some b → e'.1 ≠ some b := by
  rw [List.pairwise_iff_getElem]
  intro i j hi hj hij b h1 h2
  have := h.apart i j b (by rw [List.getElem?_eq_getElem hi]; exact h1) (by rw [List.getElem?_eq_getElem hj]; exact h2)
  omega
theorem Hp.of_pair {S : List Nat} {w0 w : World} {L : List Own} (hc : Chg S w0 w) (ho : ∀ e ∈ L, ∀ b, e.1 = some b → (w0.heap.size ≤ b ∨ b ∈ S) ∧ Blk w b e.2.1 e.2.2) (hp : L.Pairwise fun e e' => ∀ b, e.1 = some b → e'.1 ≠ some b) : Hp S w0 w L := by
  refine ⟨hc, ho, fun i j b hi hj => ?_⟩
  rw [List.pairwise_iff_getElem] at hp
  obtain ⟨x, hx, hxb⟩ := Option.bind_eq_some_iff.1 hi
  obtain ⟨y, hy, hyb⟩ := Option.bind_eq_some_iff.1 hj
  obtain ⟨hil, rfl⟩ := List.getElem?_eq_some_iff.1 hx
  obtain ⟨hjl, rfl⟩ := List.getElem?_eq_some_iff.1 hy
  rcases Nat.lt_trichotomy i j with h | h | h
  · exact absurd hyb (hp i j hil hjl h b hxb)
  · exact h
  · exact absurd hxb (hp j i hjl hil h b hyb)
theorem Hp.perm {S : List Nat} {w0 w : World} {L L' : List Own} (h : Hp S w0 w L) (hp : L.Perm L') : Hp S w0 w L' :=
  .of_pair h.chg (fun e he => h.own e (hp.mem_iff.2 he)) ((hp.pairwise_iff (fun {a b} hab x h1 h2 => hab x h2 h1)).1 h.pair)
theorem Hp.swap {S : List Nat} {w0 w : World} {L a b : List Own} (h : Hp S w0 w (L ++ a ++ b)) : Hp S w0 w (L ++ b ++ a) := by
  refine h.perm ?_
  rw [List.append_assoc, List.append_assoc]
  exact List.Perm.append_left _ List.perm_append_comm

section
variable {P : Program} {ops : List Oper} {Q : Exit → Act → World → Prop} {md : Region.Mode} {E M : List Nat} {R0 : World → World → Prop} {S : List Nat} {w0 : World} {L : List Own}
/-- An operation that only makes memory grow: what it yields and owns is as R says, whatever else came before. -/
def XA (P : Program) (ops : List Oper) (Q : Exit → Act → World → Prop) (i : Nat) (di : Tmp) (S : List Nat) (w0 : World) (L : List Own) (R : Value → List Own → Prop) (a : Act) : Prop :=
  ∀ L' w, Hp S w0 w (L ++ L') → ∀ K : Act → World → Prop, (∀ v es w', R v es → Hp S w0 w' (L ++ L' ++ es) → K (a.put (some di) v) w') → wpPlan P ops.toArray (QK Q K) [.x i] a w
structure XS (P : Program) (ops : List Oper) (Q : Exit → Act → World → Prop) (i : Nat) (di dj : Tmp) (S : List Nat) (w0 : World) (L : List Own) (R : Value → List Own → Prop) (a : Act) : Prop where
  here : XA P ops Q i di S w0 L R a
  there : ∀ u, XA P ops Q i di S w0 L R (a.put (some dj) u)
theorem Rel.swap {ops : Array Oper} {A : Array Bool} {l : List Nat} {i j : Nat} (h : Rel ops A (i :: j :: l)) : Rel ops A (j :: i :: l) where
  at_ k hk := by
    rw [h.at_ k hk]
    simp only [List.contains_cons]
    cases (k == i) <;> cases (k == j) <;> rfl
  size := h.size
  bound k hk := h.bound k (by simp only [List.mem_cons] at hk ⊢; rcases hk with hk | hk | hk <;> simp [hk])
theorem Pend.swap {n i j : Nat} {l : List Nat} {a : Act} {w : World} (h : Pend P md ops.toArray Q E M R0 n (i :: j :: l) a w) : Pend P md ops.toArray Q E M R0 n (j :: i :: l) a w :=
  fun fuel A hR hn => h fuel A hR.swap hn
/-- Two that make new memory may come in either order. -/
theorem Pend.join2 (hR0 : Far R0) (hsel : Region.noSelect ops.toArray = true) (hQ : ∀ c a d v w, Q (.panic c) (a.put d v) w → Q (.panic c) a w) {n : Nat} {l : List Nat} {a : Act} {w : World} (i j : Nat) {di dj : Tmp} {Ri Rj : Value → List Own → Prop}
    (hH : Hp S w0 w L) (hne : di ≠ dj) (r1 : readyAt (tabOf md ops.toArray) l i = true) (hall : amongst l [i, j] (tabOf md ops.toArray) 0 = true) (p1 : preOK (tabOf md ops.toArray) E M [.x j] (i :: l) = true) (p2 : preOK (tabOf md ops.toArray) E M [.x i] (j :: l) = true)
    (xi : XS P ops Q i di dj S w0 L Ri a) (xj : XS P ops Q j dj di S w0 L Rj a)
    (h : ∀ v es v' es' w', Ri v es → Rj v' es' → Hp S w0 w' (L ++ es ++ es') → Pend P md ops.toArray Q E M R0 n (j :: i :: l) ((a.put (some di) v).put (some dj) v') w') : Pend P md ops.toArray Q E M R0 (n + 2) l a w := by
  have hH0 : Hp S w0 w (L ++ []) := by rw [List.append_nil]; exact hH
  refine Pend.fork2 hR0 (n := n + 1) (.x i) (.x j) rfl rfl trivial trivial r1 hall ?_ ?_
  · refine xi.here [] w hH0 _ fun v es w' hR hH' => ?_
    rw [List.append_nil] at hH'
    refine Pend.plan (n := n) hR0 hsel hQ [.x j] (i :: l) _ _ trivial (by simp [effects]) (by simp [marked]) p1 ?_
    exact xj.there v es w' hH' _ fun v' es' w'' hR' hH'' => h v es v' es' w'' hR hR' hH''
  · refine xj.here [] w hH0 _ fun v' es' w' hR' hH' => ?_
    rw [List.append_nil] at hH'
    refine Pend.plan (n := n) hR0 hsel hQ [.x i] (j :: l) _ _ trivial (by simp [effects]) (by simp [marked]) p2 ?_
    refine xi.there v' es' w' hH' _ fun v es w'' hR hH'' => ?_
    have h1 := h v es v' es' w'' hR hR' hH''.swap
    rw [Act.put_comm a v v' (by intro d h1 h2; cases h1; cases h2; exact hne rfl)] at h1
    exact h1.swap

/-! ### What the operations yield -/
/-- An own slice. -/
def ROwn (T n s : Nat) (xs : List Value) (f : Value → Value) (v : Value) (es : List Own) : Prop := ∃ o cap cs, v = f (own o n cap) ∧ OwnC o n cap s cs xs ∧ es = [(o, T, cs)]
/-- A new block. -/
def RBlk (T : Nat) (cs : Array Value) (f : Nat → Value) (v : Value) (es : List Own) : Prop := ∃ b, v = f b ∧ es = [(some b, T, cs)]
/-- Nothing but a value. -/
def RVal (v0 : Value) (v : Value) (es : List Own) : Prop := v = v0 ∧ es = []
variable {i : Nat} {d dj : Tmp} {ty : TypeId} {pos : String} {af : Array Edge} {g : Option (Nat × Bool)} {x y : Operand} {t t' T : TypeId} {a : Act}
theorem xa_s2b {e : TypeId} {s : ByteArray} (ho : ops[i]? = some ⟨some d, .convert t t' x, ty, pos, af, g⟩) (hg : Region.wanted ⟨some d, .convert t t' x, ty, pos, af, g⟩ (yielded ops.toArray a.tmps) = true) (hx : a.eval x = .string s)
    (hu : P.underlying t = some .string) (hu' : P.underlying t' = some (.slice e)) (he : P.underlying e = some (.int .u8)) : XA P ops Q i d S w0 L (ROwn e s.size 1 (s.data.toList.map V8) id) a := fun L' w hH K h =>
  plan_s2b ho hg hH hx hu hu' he fun b cap cs w' hO hH' => fun w2 hw2 => h _ _ w2 ⟨some b, cap, cs, rfl, hO, rfl⟩ (hH'.call hw2)
theorem xs_s2b {e : TypeId} {s : ByteArray} (ho : ops[i]? = some ⟨some d, .convert t t' x, ty, pos, af, g⟩) (hg : Region.wanted ⟨some d, .convert t t' x, ty, pos, af, g⟩ (yielded ops.toArray a.tmps) = true) (hg' : ∀ u, Region.wanted ⟨some d, .convert t t' x, ty, pos, af, g⟩ (yielded ops.toArray (a.put (some dj) u).tmps) = true)
    (hx : a.eval x = .string s) (hx' : ∀ u, (a.put (some dj) u).eval x = .string s) (hu : P.underlying t = some .string) (hu' : P.underlying t' = some (.slice e)) (he : P.underlying e = some (.int .u8)) : XS P ops Q i d dj S w0 L (ROwn e s.size 1 (s.data.toList.map V8) id) a :=
  ⟨xa_s2b ho hg hx hu hu' he, fun u => xa_s2b ho (hg' u) (hx' u) hu hu' he⟩
theorem xa_call {f : FuncId} {args : List Operand} {ats : Array TypeId} {vs : List Value} {Post : World → Value → World → Prop} {R : Value → List Own → Prop} (ho : ops[i]? = some ⟨some d, .call ⟨.value (.func f), args.toArray, ats⟩, ty, pos, af, g⟩)
    (hg : Region.wanted ⟨some d, .call ⟨.value (.func f), args.toArray, ats⟩, ty, pos, af, g⟩ (yielded ops.toArray a.tmps) = true) (hc : Callable P f) (hargs : args.map a.eval = vs) (hr : ∀ L' w1, Hp S w0 w1 (L ++ L') → Ret P f vs.toArray w1 (Post w1))
    (hx : ∀ w1 v w', Post w1 v w' → Chg [] w1 w') (hp : ∀ L' w1 v w', Hp S w0 w1 L' → Post w1 v w' → ∃ es, R v es ∧ Hp S w0 w' (L' ++ es)) : XA P ops Q i d S w0 L R a := fun L' w hH K h =>
  plan_callx ho hg hH hc (fun w1 hH1 => hr L' w1 hH1) hargs hx fun w1 v w' hH1 hP => fun w2 hw2 => by
    obtain ⟨es, hR, hH2⟩ := hp _ w1 v w' hH1 hP
    exact h v es w2 hR (hH2.call hw2)
theorem xs_call {f : FuncId} {args : List Operand} {ats : Array TypeId} {vs : List Value} {Post : World → Value → World → Prop} {R : Value → List Own → Prop} (ho : ops[i]? = some ⟨some d, .call ⟨.value (.func f), args.toArray, ats⟩, ty, pos, af, g⟩)
    (hg : Region.wanted ⟨some d, .call ⟨.value (.func f), args.toArray, ats⟩, ty, pos, af, g⟩ (yielded ops.toArray a.tmps) = true) (hg' : ∀ u, Region.wanted ⟨some d, .call ⟨.value (.func f), args.toArray, ats⟩, ty, pos, af, g⟩ (yielded ops.toArray (a.put (some dj) u).tmps) = true)
    (hc : Callable P f) (hargs : args.map a.eval = vs) (hargs' : ∀ u, args.map (a.put (some dj) u).eval = vs) (hr : ∀ L' w1, Hp S w0 w1 (L ++ L') → Ret P f vs.toArray w1 (Post w1))
    (hx : ∀ w1 v w', Post w1 v w' → Chg [] w1 w') (hp : ∀ L' w1 v w', Hp S w0 w1 L' → Post w1 v w' → ∃ es, R v es ∧ Hp S w0 w' (L' ++ es)) : XS P ops Q i d dj S w0 L R a :=
  ⟨xa_call ho hg hc hargs hr hx hp, fun u => xa_call ho (hg' u) hc (hargs' u) hr hx hp⟩
theorem xa_box {v : Value} (ho : ops[i]? = some ⟨some d, .box t x, ty, pos, af, g⟩) (hg : Region.wanted ⟨some d, .box t x, ty, pos, af, g⟩ (yielded ops.toArray a.tmps) = true) (hx : a.eval x = v) : XA P ops Q i d S w0 L (RBlk t v.cells fun b => PT b 0) a := fun L' w hH K h =>
  plan_box ho hg hH hx fun b w' hH' => fun w2 hw2 => h _ _ w2 ⟨b, rfl, rfl⟩ (hH'.call hw2)
theorem xs_box {v : Value} (ho : ops[i]? = some ⟨some d, .box t x, ty, pos, af, g⟩) (hg : Region.wanted ⟨some d, .box t x, ty, pos, af, g⟩ (yielded ops.toArray a.tmps) = true) (hg' : ∀ u, Region.wanted ⟨some d, .box t x, ty, pos, af, g⟩ (yielded ops.toArray (a.put (some dj) u).tmps) = true) (hx : a.eval x = v) (hx' : ∀ u, (a.put (some dj) u).eval x = v) : XS P ops Q i d dj S w0 L (RBlk t v.cells fun b => PT b 0) a :=
  ⟨xa_box ho hg hx, fun u => xa_box ho (hg' u) (hx' u)⟩
theorem xa_alloc {cs : Array Value} (ho : ops[i]? = some ⟨some d, .alloc t, ty, pos, af, g⟩) (hg : Region.wanted ⟨some d, .alloc t, ty, pos, af, g⟩ (yielded ops.toArray a.tmps) = true) (hz : zeroC P t = some cs) : XA P ops Q i d S w0 L (RBlk t cs fun b => PT b 0) a := fun L' w hH K h =>
  plan_alloc ho hg hH hz fun b w' hH' => fun w2 hw2 => h _ _ w2 ⟨b, rfl, rfl⟩ (hH'.call hw2)
theorem xs_alloc {cs : Array Value} (ho : ops[i]? = some ⟨some d, .alloc t, ty, pos, af, g⟩) (hg : Region.wanted ⟨some d, .alloc t, ty, pos, af, g⟩ (yielded ops.toArray a.tmps) = true) (hg' : ∀ u, Region.wanted ⟨some d, .alloc t, ty, pos, af, g⟩ (yielded ops.toArray (a.put (some dj) u).tmps) = true) (hz : zeroC P t = some cs) : XS P ops Q i d dj S w0 L (RBlk t cs fun b => PT b 0) a :=
  ⟨xa_alloc ho hg hz, fun u => xa_alloc ho (hg' u) hz⟩
/-! contracts' ends, as R -/
theorem hp_own {T n s : Nat} {xs : List Value} {f : Value → Value} (L' : List Own) (w1 : World) (v : Value) (w' : World) (hH : Hp S w0 w1 L') (h : ∃ o cap cs, v = f (own o n cap) ∧ Chg [] w1 w' ∧ OwnC o n cap s cs xs ∧ ∀ b, o = some b → w1.heap.size ≤ b ∧ Blk w' b T cs) : ∃ es, ROwn T n s xs f v es ∧ Hp S w0 w' (L' ++ es) := by
  obtain ⟨o, cap, cs, hv, hg, hO, hfr⟩ := h
  exact ⟨_, ⟨o, cap, cs, hv, hO, rfl⟩, hH.callown hg hfr⟩
theorem hp_blk {T : Nat} {cs : Array Value} {f : Nat → Value} (L' : List Own) (w1 : World) (v : Value) (w' : World) (hH : Hp S w0 w1 L') (h : ∃ b, v = f b ∧ Chg [] w1 w' ∧ w1.heap.size ≤ b ∧ Blk w' b T cs) : ∃ es, RBlk T cs f v es ∧ Hp S w0 w' (L' ++ es) := by
  obtain ⟨b, hv, hg, hfr, hb⟩ := h
  exact ⟨_, ⟨b, hv, rfl⟩, hH.callnew hg hb hfr⟩
theorem hp_val {v0 : Value} (L' : List Own) (w1 : World) (v : Value) (w' : World) (hH : Hp S w0 w1 L') (h : v = v0 ∧ Chg [] w1 w') : ∃ es, RVal v0 v es ∧ Hp S w0 w' (L' ++ es) := by
  obtain ⟨hv, hg⟩ := h
  exact ⟨[], ⟨hv, rfl⟩, by rw [List.append_nil]; exact hH.call hg⟩
end
end Go.Proofs.YtmoaddicejohgaaDoor
